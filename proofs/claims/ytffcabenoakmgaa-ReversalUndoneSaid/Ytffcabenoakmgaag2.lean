/- The logic of data over the kit's walk, and contracts of the functions that the law reaches, each said by plain data; part 3 of 6. -/
import Derived.Test.YtffcabenoakmgaaRows
import Derived.KernelRfl
import Derived.Test.Ytffcabenoakmgaag1
set_option linter.all false
set_option linter.unusedVariables false
set_option linter.unusedSimpArgs false
/- Closed facts of the types of this translation, each asked of the kernel. -/
namespace Go.Proofs.Ytffcabenoakmgaa
open Go.Dl
@[go_sem] theorem ldk_1 : Program.ldk Try.prog 1 = some none := by kernel_rfl
@[go_sem] theorem cellsOfT_1 : cellsOfT Try.prog 1 = some 1 := by kernel_rfl
@[go_sem] theorem zeroC_1 : Program.zeroC Try.prog 1 = some [.lit .nilFunc] := by kernel_rfl
@[go_sem] theorem zeroT_1 : Program.zeroT Try.prog 1 = some [.c (.lit .nilFunc)] := by kernel_rfl
attribute [go_sem] Try.underlying1
@[go_sem] theorem ldk_2 : Program.ldk Try.prog 2 = some none := by kernel_rfl
@[go_sem] theorem cellsOfT_2 : cellsOfT Try.prog 2 = some 1 := by kernel_rfl
@[go_sem] theorem zeroC_2 : Program.zeroC Try.prog 2 = some [.lit (.int .i64 0)] := by kernel_rfl
@[go_sem] theorem zeroT_2 : Program.zeroT Try.prog 2 = some [.c (.lit (.int .i64 0))] := by kernel_rfl
attribute [go_sem] Try.underlying2
@[go_sem] theorem ldk_3 : Program.ldk Try.prog 3 = some none := by kernel_rfl
@[go_sem] theorem cellsOfT_3 : cellsOfT Try.prog 3 = some 1 := by kernel_rfl
@[go_sem] theorem zeroC_3 : Program.zeroC Try.prog 3 = some [.lit (.int .i64 0)] := by kernel_rfl
@[go_sem] theorem zeroT_3 : Program.zeroT Try.prog 3 = some [.c (.lit (.int .i64 0))] := by kernel_rfl
attribute [go_sem] Try.underlying3
@[go_sem] theorem ldk_4 : Program.ldk Try.prog 4 = some none := by kernel_rfl
@[go_sem] theorem cellsOfT_4 : cellsOfT Try.prog 4 = some 1 := by kernel_rfl
@[go_sem] theorem zeroC_4 : Program.zeroC Try.prog 4 = some [.lit (.bool false)] := by kernel_rfl
@[go_sem] theorem zeroT_4 : Program.zeroT Try.prog 4 = some [.c (.lit (.bool false))] := by kernel_rfl
attribute [go_sem] Try.underlying4
@[go_sem] theorem isBoolT_4 : Program.isBoolT Try.prog 4 = true := by kernel_rfl
@[go_sem] theorem ldk_5 : Program.ldk Try.prog 5 = some none := by kernel_rfl
@[go_sem] theorem cellsOfT_5 : cellsOfT Try.prog 5 = some 1 := by kernel_rfl
@[go_sem] theorem zeroC_5 : Program.zeroC Try.prog 5 = some [.lit (.int .u8 0)] := by kernel_rfl
@[go_sem] theorem zeroT_5 : Program.zeroT Try.prog 5 = some [.c (.lit (.int .u8 0))] := by kernel_rfl
attribute [go_sem] Try.underlying5
@[go_sem] theorem ldk_7 : Program.ldk Try.prog 7 = some (some 4) := by kernel_rfl
@[go_sem] theorem cellsOfT_7 : cellsOfT Try.prog 7 = some 4 := by kernel_rfl
@[go_sem] theorem zeroC_7 : Program.zeroC Try.prog 7 = some [.lit (.int .i64 0), .lit (.int .i64 0), .lit (.bool false), .lit (.int .u8 0)] := by kernel_rfl
@[go_sem] theorem zeroT_7 : Program.zeroT Try.prog 7 = some [.c (.lit (.int .i64 0)), .c (.lit (.int .i64 0)), .c (.lit (.bool false)), .c (.lit (.int .u8 0))] := by kernel_rfl
@[go_sem] theorem places_7 : Program.places Try.prog 7 = some [(0, 1), (1, 1), (2, 1), (3, 1)] := by kernel_rfl
@[go_sem] theorem fieldOff_7_0 : Program.fieldOff Try.prog 7 0 = some 0 := by kernel_rfl
@[go_sem] theorem fieldOff_7_1 : Program.fieldOff Try.prog 7 1 = some 1 := by kernel_rfl
@[go_sem] theorem fieldOff_7_2 : Program.fieldOff Try.prog 7 2 = some 2 := by kernel_rfl
@[go_sem] theorem fieldOff_7_3 : Program.fieldOff Try.prog 7 3 = some 3 := by kernel_rfl
@[go_sem] theorem ldk_9 : Program.ldk Try.prog 9 = some none := by kernel_rfl
@[go_sem] theorem cellsOfT_9 : cellsOfT Try.prog 9 = some 1 := by kernel_rfl
@[go_sem] theorem zeroC_9 : Program.zeroC Try.prog 9 = some [.lit (.string ⟨#[]⟩)] := by kernel_rfl
@[go_sem] theorem zeroT_9 : Program.zeroT Try.prog 9 = some [.c (.lit (.string ⟨#[]⟩))] := by kernel_rfl
attribute [go_sem] Try.underlying9
@[go_sem] theorem ldk_12 : Program.ldk Try.prog 12 = some none := by kernel_rfl
@[go_sem] theorem cellsOfT_12 : cellsOfT Try.prog 12 = some 1 := by kernel_rfl
@[go_sem] theorem zeroC_12 : Program.zeroC Try.prog 12 = some [.lit (.int .u64 0)] := by kernel_rfl
@[go_sem] theorem zeroT_12 : Program.zeroT Try.prog 12 = some [.c (.lit (.int .u64 0))] := by kernel_rfl
attribute [go_sem] Try.underlying12
@[go_sem] theorem ldk_13 : Program.ldk Try.prog 13 = some (some 2) := by kernel_rfl
@[go_sem] theorem cellsOfT_13 : cellsOfT Try.prog 13 = some 2 := by kernel_rfl
@[go_sem] theorem zeroC_13 : Program.zeroC Try.prog 13 = some [.lit (.string ⟨#[]⟩), .lit (.int .u64 0)] := by kernel_rfl
@[go_sem] theorem zeroT_13 : Program.zeroT Try.prog 13 = some [.c (.lit (.string ⟨#[]⟩)), .c (.lit (.int .u64 0))] := by kernel_rfl
@[go_sem] theorem places_13 : Program.places Try.prog 13 = some [(0, 1), (1, 1)] := by kernel_rfl
@[go_sem] theorem fieldOff_13_0 : Program.fieldOff Try.prog 13 0 = some 0 := by kernel_rfl
@[go_sem] theorem fieldOff_13_1 : Program.fieldOff Try.prog 13 1 = some 1 := by kernel_rfl
@[go_sem] theorem ldk_15 : Program.ldk Try.prog 15 = some none := by kernel_rfl
@[go_sem] theorem cellsOfT_15 : cellsOfT Try.prog 15 = some 1 := by kernel_rfl
@[go_sem] theorem zeroC_15 : Program.zeroC Try.prog 15 = some [.lit (.pointer none)] := by kernel_rfl
@[go_sem] theorem zeroT_15 : Program.zeroT Try.prog 15 = some [.c (.lit (.pointer none))] := by kernel_rfl
attribute [go_sem] Try.underlying15
@[go_sem] theorem ldk_16 : Program.ldk Try.prog 16 = some none := by kernel_rfl
@[go_sem] theorem cellsOfT_16 : cellsOfT Try.prog 16 = some 1 := by kernel_rfl
@[go_sem] theorem zeroC_16 : Program.zeroC Try.prog 16 = some [.lit (.pointer none)] := by kernel_rfl
@[go_sem] theorem zeroT_16 : Program.zeroT Try.prog 16 = some [.c (.lit (.pointer none))] := by kernel_rfl
attribute [go_sem] Try.underlying16
@[go_sem] theorem ldk_17 : Program.ldk Try.prog 17 = some none := by kernel_rfl
@[go_sem] theorem cellsOfT_17 : cellsOfT Try.prog 17 = some 1 := by kernel_rfl
@[go_sem] theorem zeroC_17 : Program.zeroC Try.prog 17 = some [.lit (.pointer none)] := by kernel_rfl
@[go_sem] theorem zeroT_17 : Program.zeroT Try.prog 17 = some [.c (.lit (.pointer none))] := by kernel_rfl
attribute [go_sem] Try.underlying17
@[go_sem] theorem ldk_18 : Program.ldk Try.prog 18 = some (some 1) := by kernel_rfl
@[go_sem] theorem cellsOfT_18 : cellsOfT Try.prog 18 = some 1 := by kernel_rfl
@[go_sem] theorem zeroC_18 : Program.zeroC Try.prog 18 = some [.lit (.pointer none)] := by kernel_rfl
@[go_sem] theorem zeroT_18 : Program.zeroT Try.prog 18 = some [.c (.lit (.pointer none))] := by kernel_rfl
@[go_sem] theorem places_18 : Program.places Try.prog 18 = some [(0, 1)] := by kernel_rfl
@[go_sem] theorem fieldOff_18_0 : Program.fieldOff Try.prog 18 0 = some 0 := by kernel_rfl
@[go_sem] theorem ldk_20 : Program.ldk Try.prog 20 = some none := by kernel_rfl
@[go_sem] theorem cellsOfT_20 : cellsOfT Try.prog 20 = some 1 := by kernel_rfl
@[go_sem] theorem zeroC_20 : Program.zeroC Try.prog 20 = some [.lit .nilIface] := by kernel_rfl
@[go_sem] theorem zeroT_20 : Program.zeroT Try.prog 20 = some [.c (.lit .nilIface)] := by kernel_rfl
@[go_sem] theorem ldk_21 : Program.ldk Try.prog 21 = some none := by kernel_rfl
@[go_sem] theorem cellsOfT_21 : cellsOfT Try.prog 21 = some 1 := by kernel_rfl
@[go_sem] theorem zeroC_21 : Program.zeroC Try.prog 21 = some [.lit (.int .i32 0)] := by kernel_rfl
@[go_sem] theorem zeroT_21 : Program.zeroT Try.prog 21 = some [.c (.lit (.int .i32 0))] := by kernel_rfl
attribute [go_sem] Try.underlying21
@[go_sem] theorem ldk_22 : Program.ldk Try.prog 22 = some none := by kernel_rfl
@[go_sem] theorem cellsOfT_22 : cellsOfT Try.prog 22 = some 1 := by kernel_rfl
@[go_sem] theorem elemSz_22 : Program.elemSz Try.prog 22 = some 8 := by kernel_rfl
@[go_sem] theorem appInfo_22 : appInfo Try.prog 22 = some (8, 144) := by kernel_rfl
@[go_sem] theorem zeroC_22 : Program.zeroC Try.prog 22 = some [.sl 8 []] := by kernel_rfl
@[go_sem] theorem zeroT_22 : Program.zeroT Try.prog 22 = some [.ex 8 []] := by kernel_rfl
@[go_sem] theorem nilT_22 : Program.nilT Try.prog 22 = true := by kernel_rfl
attribute [go_sem] Try.underlying22
@[go_sem] theorem ldk_23 : Program.ldk Try.prog 23 = some none := by kernel_rfl
@[go_sem] theorem cellsOfT_23 : cellsOfT Try.prog 23 = some 1 := by kernel_rfl
@[go_sem] theorem zeroC_23 : Program.zeroC Try.prog 23 = some [.lit .nilFunc] := by kernel_rfl
@[go_sem] theorem zeroT_23 : Program.zeroT Try.prog 23 = some [.c (.lit .nilFunc)] := by kernel_rfl
attribute [go_sem] Try.underlying23
@[go_sem] theorem ldk_24 : Program.ldk Try.prog 24 = some none := by kernel_rfl
@[go_sem] theorem cellsOfT_24 : cellsOfT Try.prog 24 = some 1 := by kernel_rfl
@[go_sem] theorem zeroC_24 : Program.zeroC Try.prog 24 = some [.lit .nilFunc] := by kernel_rfl
@[go_sem] theorem zeroT_24 : Program.zeroT Try.prog 24 = some [.c (.lit .nilFunc)] := by kernel_rfl
attribute [go_sem] Try.underlying24
@[go_sem] theorem ldk_25 : Program.ldk Try.prog 25 = some none := by kernel_rfl
@[go_sem] theorem cellsOfT_25 : cellsOfT Try.prog 25 = some 1 := by kernel_rfl
@[go_sem] theorem zeroC_25 : Program.zeroC Try.prog 25 = some [.lit .nilFunc] := by kernel_rfl
@[go_sem] theorem zeroT_25 : Program.zeroT Try.prog 25 = some [.c (.lit .nilFunc)] := by kernel_rfl
attribute [go_sem] Try.underlying25
@[go_sem] theorem ldk_26 : Program.ldk Try.prog 26 = some none := by kernel_rfl
@[go_sem] theorem cellsOfT_26 : cellsOfT Try.prog 26 = some 1 := by kernel_rfl
@[go_sem] theorem elemSz_26 : Program.elemSz Try.prog 26 = some 2 := by kernel_rfl
@[go_sem] theorem appInfo_26 : appInfo Try.prog 26 = some (2, 40) := by kernel_rfl
@[go_sem] theorem zeroC_26 : Program.zeroC Try.prog 26 = some [.sl 2 []] := by kernel_rfl
@[go_sem] theorem zeroT_26 : Program.zeroT Try.prog 26 = some [.ex 2 []] := by kernel_rfl
@[go_sem] theorem nilT_26 : Program.nilT Try.prog 26 = true := by kernel_rfl
attribute [go_sem] Try.underlying26
@[go_sem] theorem ldk_27 : Program.ldk Try.prog 27 = some none := by kernel_rfl
@[go_sem] theorem cellsOfT_27 : cellsOfT Try.prog 27 = some 1 := by kernel_rfl
@[go_sem] theorem zeroC_27 : Program.zeroC Try.prog 27 = some [.lit .nilFunc] := by kernel_rfl
@[go_sem] theorem zeroT_27 : Program.zeroT Try.prog 27 = some [.c (.lit .nilFunc)] := by kernel_rfl
attribute [go_sem] Try.underlying27
@[go_sem] theorem ldk_28 : Program.ldk Try.prog 28 = some none := by kernel_rfl
@[go_sem] theorem cellsOfT_28 : cellsOfT Try.prog 28 = some 1 := by kernel_rfl
@[go_sem] theorem zeroC_28 : Program.zeroC Try.prog 28 = some [.lit .nilFunc] := by kernel_rfl
@[go_sem] theorem zeroT_28 : Program.zeroT Try.prog 28 = some [.c (.lit .nilFunc)] := by kernel_rfl
attribute [go_sem] Try.underlying28
@[go_sem] theorem ldk_29 : Program.ldk Try.prog 29 = some none := by kernel_rfl
@[go_sem] theorem cellsOfT_29 : cellsOfT Try.prog 29 = some 1 := by kernel_rfl
@[go_sem] theorem zeroC_29 : Program.zeroC Try.prog 29 = some [.lit (.int .i64 0)] := by kernel_rfl
@[go_sem] theorem zeroT_29 : Program.zeroT Try.prog 29 = some [.c (.lit (.int .i64 0))] := by kernel_rfl
attribute [go_sem] Try.underlying29
@[go_sem] theorem ldk_30 : Program.ldk Try.prog 30 = some none := by kernel_rfl
@[go_sem] theorem cellsOfT_30 : cellsOfT Try.prog 30 = some 1 := by kernel_rfl
@[go_sem] theorem zeroC_30 : Program.zeroC Try.prog 30 = some [.lit .nilFunc] := by kernel_rfl
@[go_sem] theorem zeroT_30 : Program.zeroT Try.prog 30 = some [.c (.lit .nilFunc)] := by kernel_rfl
attribute [go_sem] Try.underlying30
@[go_sem] theorem ldk_31 : Program.ldk Try.prog 31 = some none := by kernel_rfl
@[go_sem] theorem cellsOfT_31 : cellsOfT Try.prog 31 = some 1 := by kernel_rfl
@[go_sem] theorem zeroC_31 : Program.zeroC Try.prog 31 = some [.lit .nilFunc] := by kernel_rfl
@[go_sem] theorem zeroT_31 : Program.zeroT Try.prog 31 = some [.c (.lit .nilFunc)] := by kernel_rfl
attribute [go_sem] Try.underlying31
@[go_sem] theorem ldk_32 : Program.ldk Try.prog 32 = some none := by kernel_rfl
@[go_sem] theorem cellsOfT_32 : cellsOfT Try.prog 32 = some 1 := by kernel_rfl
@[go_sem] theorem elemSz_32 : Program.elemSz Try.prog 32 = some 3 := by kernel_rfl
@[go_sem] theorem appInfo_32 : appInfo Try.prog 32 = some (3, 24) := by kernel_rfl
@[go_sem] theorem zeroC_32 : Program.zeroC Try.prog 32 = some [.sl 3 []] := by kernel_rfl
@[go_sem] theorem zeroT_32 : Program.zeroT Try.prog 32 = some [.ex 3 []] := by kernel_rfl
@[go_sem] theorem nilT_32 : Program.nilT Try.prog 32 = true := by kernel_rfl
attribute [go_sem] Try.underlying32
@[go_sem] theorem ldk_33 : Program.ldk Try.prog 33 = some none := by kernel_rfl
@[go_sem] theorem cellsOfT_33 : cellsOfT Try.prog 33 = some 1 := by kernel_rfl
@[go_sem] theorem zeroC_33 : Program.zeroC Try.prog 33 = some [.lit .nilFunc] := by kernel_rfl
@[go_sem] theorem zeroT_33 : Program.zeroT Try.prog 33 = some [.c (.lit .nilFunc)] := by kernel_rfl
attribute [go_sem] Try.underlying33
@[go_sem] theorem ldk_34 : Program.ldk Try.prog 34 = some none := by kernel_rfl
@[go_sem] theorem cellsOfT_34 : cellsOfT Try.prog 34 = some 1 := by kernel_rfl
@[go_sem] theorem zeroC_34 : Program.zeroC Try.prog 34 = some [.lit .nilFunc] := by kernel_rfl
@[go_sem] theorem zeroT_34 : Program.zeroT Try.prog 34 = some [.c (.lit .nilFunc)] := by kernel_rfl
attribute [go_sem] Try.underlying34
@[go_sem] theorem ldk_35 : Program.ldk Try.prog 35 = some none := by kernel_rfl
@[go_sem] theorem cellsOfT_35 : cellsOfT Try.prog 35 = some 1 := by kernel_rfl
@[go_sem] theorem elemSz_35 : Program.elemSz Try.prog 35 = some 1 := by kernel_rfl
@[go_sem] theorem appInfo_35 : appInfo Try.prog 35 = some (1, 8) := by kernel_rfl
@[go_sem] theorem zeroC_35 : Program.zeroC Try.prog 35 = some [.sl 1 []] := by kernel_rfl
@[go_sem] theorem zeroT_35 : Program.zeroT Try.prog 35 = some [.ex 1 []] := by kernel_rfl
@[go_sem] theorem nilT_35 : Program.nilT Try.prog 35 = true := by kernel_rfl
attribute [go_sem] Try.underlying35
@[go_sem] theorem ldk_36 : Program.ldk Try.prog 36 = some none := by kernel_rfl
@[go_sem] theorem cellsOfT_36 : cellsOfT Try.prog 36 = some 1 := by kernel_rfl
@[go_sem] theorem elemSz_36 : Program.elemSz Try.prog 36 = some 1 := by kernel_rfl
@[go_sem] theorem appInfo_36 : appInfo Try.prog 36 = some (1, 24) := by kernel_rfl
@[go_sem] theorem zeroC_36 : Program.zeroC Try.prog 36 = some [.sl 1 []] := by kernel_rfl
@[go_sem] theorem zeroT_36 : Program.zeroT Try.prog 36 = some [.ex 1 []] := by kernel_rfl
@[go_sem] theorem nilT_36 : Program.nilT Try.prog 36 = true := by kernel_rfl
attribute [go_sem] Try.underlying36
@[go_sem] theorem ldk_37 : Program.ldk Try.prog 37 = some none := by kernel_rfl
@[go_sem] theorem cellsOfT_37 : cellsOfT Try.prog 37 = some 1 := by kernel_rfl
@[go_sem] theorem elemSz_37 : Program.elemSz Try.prog 37 = some 2 := by kernel_rfl
@[go_sem] theorem appInfo_37 : appInfo Try.prog 37 = some (2, 32) := by kernel_rfl
@[go_sem] theorem zeroC_37 : Program.zeroC Try.prog 37 = some [.sl 2 []] := by kernel_rfl
@[go_sem] theorem zeroT_37 : Program.zeroT Try.prog 37 = some [.ex 2 []] := by kernel_rfl
@[go_sem] theorem nilT_37 : Program.nilT Try.prog 37 = true := by kernel_rfl
attribute [go_sem] Try.underlying37
@[go_sem] theorem ldk_38 : Program.ldk Try.prog 38 = some none := by kernel_rfl
@[go_sem] theorem cellsOfT_38 : cellsOfT Try.prog 38 = some 1 := by kernel_rfl
@[go_sem] theorem elemSz_38 : Program.elemSz Try.prog 38 = some 2 := by kernel_rfl
@[go_sem] theorem appInfo_38 : appInfo Try.prog 38 = some (2, 16) := by kernel_rfl
@[go_sem] theorem zeroC_38 : Program.zeroC Try.prog 38 = some [.sl 2 []] := by kernel_rfl
@[go_sem] theorem zeroT_38 : Program.zeroT Try.prog 38 = some [.ex 2 []] := by kernel_rfl
@[go_sem] theorem nilT_38 : Program.nilT Try.prog 38 = true := by kernel_rfl
attribute [go_sem] Try.underlying38
@[go_sem] theorem ldk_39 : Program.ldk Try.prog 39 = some none := by kernel_rfl
@[go_sem] theorem cellsOfT_39 : cellsOfT Try.prog 39 = some 1 := by kernel_rfl
@[go_sem] theorem elemSz_39 : Program.elemSz Try.prog 39 = some 2 := by kernel_rfl
@[go_sem] theorem appInfo_39 : appInfo Try.prog 39 = some (2, 16) := by kernel_rfl
@[go_sem] theorem zeroC_39 : Program.zeroC Try.prog 39 = some [.sl 2 []] := by kernel_rfl
@[go_sem] theorem zeroT_39 : Program.zeroT Try.prog 39 = some [.ex 2 []] := by kernel_rfl
@[go_sem] theorem nilT_39 : Program.nilT Try.prog 39 = true := by kernel_rfl
attribute [go_sem] Try.underlying39
@[go_sem] theorem ldk_40 : Program.ldk Try.prog 40 = some (some 8) := by kernel_rfl
@[go_sem] theorem cellsOfT_40 : cellsOfT Try.prog 40 = some 8 := by kernel_rfl
@[go_sem] theorem zeroC_40 : Program.zeroC Try.prog 40 = some [.lit (.int .i64 0), .sl 1 [], .lit (.int .i64 0), .sl 1 [], .lit (.int .i64 0), .sl 2 [], .sl 2 [], .sl 2 []] := by kernel_rfl
@[go_sem] theorem zeroT_40 : Program.zeroT Try.prog 40 = some [.c (.lit (.int .i64 0)), .ex 1 [], .c (.lit (.int .i64 0)), .ex 1 [], .c (.lit (.int .i64 0)), .ex 2 [], .ex 2 [], .ex 2 []] := by kernel_rfl
@[go_sem] theorem places_40 : Program.places Try.prog 40 = some [(0, 1), (1, 1), (2, 1), (3, 1), (4, 1), (5, 1), (6, 1), (7, 1)] := by kernel_rfl
@[go_sem] theorem fieldOff_40_0 : Program.fieldOff Try.prog 40 0 = some 0 := by kernel_rfl
@[go_sem] theorem fieldOff_40_1 : Program.fieldOff Try.prog 40 1 = some 1 := by kernel_rfl
@[go_sem] theorem fieldOff_40_2 : Program.fieldOff Try.prog 40 2 = some 2 := by kernel_rfl
@[go_sem] theorem fieldOff_40_3 : Program.fieldOff Try.prog 40 3 = some 3 := by kernel_rfl
@[go_sem] theorem fieldOff_40_4 : Program.fieldOff Try.prog 40 4 = some 4 := by kernel_rfl
@[go_sem] theorem fieldOff_40_5 : Program.fieldOff Try.prog 40 5 = some 5 := by kernel_rfl
@[go_sem] theorem fieldOff_40_6 : Program.fieldOff Try.prog 40 6 = some 6 := by kernel_rfl
@[go_sem] theorem fieldOff_40_7 : Program.fieldOff Try.prog 40 7 = some 7 := by kernel_rfl
@[go_sem] theorem ldk_41 : Program.ldk Try.prog 41 = some (some 8) := by kernel_rfl
@[go_sem] theorem cellsOfT_41 : cellsOfT Try.prog 41 = some 8 := by kernel_rfl
@[go_sem] theorem zeroC_41 : Program.zeroC Try.prog 41 = some [.lit (.int .i64 0), .sl 1 [], .lit (.int .i64 0), .sl 1 [], .lit (.int .i64 0), .sl 2 [], .sl 2 [], .sl 2 []] := by kernel_rfl
@[go_sem] theorem zeroT_41 : Program.zeroT Try.prog 41 = some [.c (.lit (.int .i64 0)), .ex 1 [], .c (.lit (.int .i64 0)), .ex 1 [], .c (.lit (.int .i64 0)), .ex 2 [], .ex 2 [], .ex 2 []] := by kernel_rfl
@[go_sem] theorem places_41 : Program.places Try.prog 41 = some [(0, 1), (1, 1), (2, 1), (3, 1), (4, 1), (5, 1), (6, 1), (7, 1)] := by kernel_rfl
@[go_sem] theorem fieldOff_41_0 : Program.fieldOff Try.prog 41 0 = some 0 := by kernel_rfl
@[go_sem] theorem fieldOff_41_1 : Program.fieldOff Try.prog 41 1 = some 1 := by kernel_rfl
@[go_sem] theorem fieldOff_41_2 : Program.fieldOff Try.prog 41 2 = some 2 := by kernel_rfl
@[go_sem] theorem fieldOff_41_3 : Program.fieldOff Try.prog 41 3 = some 3 := by kernel_rfl
@[go_sem] theorem fieldOff_41_4 : Program.fieldOff Try.prog 41 4 = some 4 := by kernel_rfl
@[go_sem] theorem fieldOff_41_5 : Program.fieldOff Try.prog 41 5 = some 5 := by kernel_rfl
@[go_sem] theorem fieldOff_41_6 : Program.fieldOff Try.prog 41 6 = some 6 := by kernel_rfl
@[go_sem] theorem fieldOff_41_7 : Program.fieldOff Try.prog 41 7 = some 7 := by kernel_rfl
@[go_sem] theorem ldk_42 : Program.ldk Try.prog 42 = some none := by kernel_rfl
@[go_sem] theorem cellsOfT_42 : cellsOfT Try.prog 42 = some 1 := by kernel_rfl
@[go_sem] theorem zeroC_42 : Program.zeroC Try.prog 42 = some [.lit .nilFunc] := by kernel_rfl
@[go_sem] theorem zeroT_42 : Program.zeroT Try.prog 42 = some [.c (.lit .nilFunc)] := by kernel_rfl
attribute [go_sem] Try.underlying42
@[go_sem] theorem ldk_43 : Program.ldk Try.prog 43 = some none := by kernel_rfl
@[go_sem] theorem cellsOfT_43 : cellsOfT Try.prog 43 = some 1 := by kernel_rfl
@[go_sem] theorem zeroC_43 : Program.zeroC Try.prog 43 = some [.lit .nilFunc] := by kernel_rfl
@[go_sem] theorem zeroT_43 : Program.zeroT Try.prog 43 = some [.c (.lit .nilFunc)] := by kernel_rfl
attribute [go_sem] Try.underlying43
@[go_sem] theorem ldk_44 : Program.ldk Try.prog 44 = some none := by kernel_rfl
@[go_sem] theorem cellsOfT_44 : cellsOfT Try.prog 44 = some 1 := by kernel_rfl
@[go_sem] theorem zeroC_44 : Program.zeroC Try.prog 44 = some [.lit .nilFunc] := by kernel_rfl
@[go_sem] theorem zeroT_44 : Program.zeroT Try.prog 44 = some [.c (.lit .nilFunc)] := by kernel_rfl
attribute [go_sem] Try.underlying44
@[go_sem] theorem ldk_46 : Program.ldk Try.prog 46 = some none := by kernel_rfl
@[go_sem] theorem cellsOfT_46 : cellsOfT Try.prog 46 = some 1 := by kernel_rfl
@[go_sem] theorem zeroC_46 : Program.zeroC Try.prog 46 = some [.lit .nilFunc] := by kernel_rfl
@[go_sem] theorem zeroT_46 : Program.zeroT Try.prog 46 = some [.c (.lit .nilFunc)] := by kernel_rfl
attribute [go_sem] Try.underlying46
@[go_sem] theorem ldk_47 : Program.ldk Try.prog 47 = some none := by kernel_rfl
@[go_sem] theorem cellsOfT_47 : cellsOfT Try.prog 47 = some 1 := by kernel_rfl
@[go_sem] theorem zeroC_47 : Program.zeroC Try.prog 47 = some [.lit .nilFunc] := by kernel_rfl
@[go_sem] theorem zeroT_47 : Program.zeroT Try.prog 47 = some [.c (.lit .nilFunc)] := by kernel_rfl
attribute [go_sem] Try.underlying47
@[go_sem] theorem ldk_48 : Program.ldk Try.prog 48 = some none := by kernel_rfl
@[go_sem] theorem cellsOfT_48 : cellsOfT Try.prog 48 = some 1 := by kernel_rfl
@[go_sem] theorem zeroC_48 : Program.zeroC Try.prog 48 = some [.lit .nilFunc] := by kernel_rfl
@[go_sem] theorem zeroT_48 : Program.zeroT Try.prog 48 = some [.c (.lit .nilFunc)] := by kernel_rfl
attribute [go_sem] Try.underlying48
@[go_sem] theorem ldk_49 : Program.ldk Try.prog 49 = some (some 2) := by kernel_rfl
@[go_sem] theorem cellsOfT_49 : cellsOfT Try.prog 49 = some 2 := by kernel_rfl
@[go_sem] theorem zeroC_49 : Program.zeroC Try.prog 49 = some [.lit (.string ⟨#[]⟩), .sl 3 []] := by kernel_rfl
@[go_sem] theorem zeroT_49 : Program.zeroT Try.prog 49 = some [.c (.lit (.string ⟨#[]⟩)), .ex 3 []] := by kernel_rfl
@[go_sem] theorem places_49 : Program.places Try.prog 49 = some [(0, 1), (1, 1)] := by kernel_rfl
@[go_sem] theorem fieldOff_49_0 : Program.fieldOff Try.prog 49 0 = some 0 := by kernel_rfl
@[go_sem] theorem fieldOff_49_1 : Program.fieldOff Try.prog 49 1 = some 1 := by kernel_rfl
@[go_sem] theorem ldk_50 : Program.ldk Try.prog 50 = some (some 2) := by kernel_rfl
@[go_sem] theorem cellsOfT_50 : cellsOfT Try.prog 50 = some 2 := by kernel_rfl
@[go_sem] theorem zeroC_50 : Program.zeroC Try.prog 50 = some [.lit (.string ⟨#[]⟩), .sl 3 []] := by kernel_rfl
@[go_sem] theorem zeroT_50 : Program.zeroT Try.prog 50 = some [.c (.lit (.string ⟨#[]⟩)), .ex 3 []] := by kernel_rfl
@[go_sem] theorem places_50 : Program.places Try.prog 50 = some [(0, 1), (1, 1)] := by kernel_rfl
@[go_sem] theorem fieldOff_50_0 : Program.fieldOff Try.prog 50 0 = some 0 := by kernel_rfl
@[go_sem] theorem fieldOff_50_1 : Program.fieldOff Try.prog 50 1 = some 1 := by kernel_rfl
@[go_sem] theorem ldk_51 : Program.ldk Try.prog 51 = some (some 2) := by kernel_rfl
@[go_sem] theorem cellsOfT_51 : cellsOfT Try.prog 51 = some 2 := by kernel_rfl
@[go_sem] theorem zeroC_51 : Program.zeroC Try.prog 51 = some [.lit (.string ⟨#[]⟩), .lit (.string ⟨#[]⟩)] := by kernel_rfl
@[go_sem] theorem zeroT_51 : Program.zeroT Try.prog 51 = some [.c (.lit (.string ⟨#[]⟩)), .c (.lit (.string ⟨#[]⟩))] := by kernel_rfl
@[go_sem] theorem places_51 : Program.places Try.prog 51 = some [(0, 1), (1, 1)] := by kernel_rfl
@[go_sem] theorem fieldOff_51_0 : Program.fieldOff Try.prog 51 0 = some 0 := by kernel_rfl
@[go_sem] theorem fieldOff_51_1 : Program.fieldOff Try.prog 51 1 = some 1 := by kernel_rfl
@[go_sem] theorem ldk_52 : Program.ldk Try.prog 52 = some (some 2) := by kernel_rfl
@[go_sem] theorem cellsOfT_52 : cellsOfT Try.prog 52 = some 2 := by kernel_rfl
@[go_sem] theorem zeroC_52 : Program.zeroC Try.prog 52 = some [.lit (.string ⟨#[]⟩), .lit (.string ⟨#[]⟩)] := by kernel_rfl
@[go_sem] theorem zeroT_52 : Program.zeroT Try.prog 52 = some [.c (.lit (.string ⟨#[]⟩)), .c (.lit (.string ⟨#[]⟩))] := by kernel_rfl
@[go_sem] theorem places_52 : Program.places Try.prog 52 = some [(0, 1), (1, 1)] := by kernel_rfl
@[go_sem] theorem fieldOff_52_0 : Program.fieldOff Try.prog 52 0 = some 0 := by kernel_rfl
@[go_sem] theorem fieldOff_52_1 : Program.fieldOff Try.prog 52 1 = some 1 := by kernel_rfl
@[go_sem] theorem ldk_53 : Program.ldk Try.prog 53 = some (some 3) := by kernel_rfl
@[go_sem] theorem cellsOfT_53 : cellsOfT Try.prog 53 = some 3 := by kernel_rfl
@[go_sem] theorem zeroC_53 : Program.zeroC Try.prog 53 = some [.lit (.int .i64 0), .lit (.int .i64 0), .lit (.int .i64 0)] := by kernel_rfl
@[go_sem] theorem zeroT_53 : Program.zeroT Try.prog 53 = some [.c (.lit (.int .i64 0)), .c (.lit (.int .i64 0)), .c (.lit (.int .i64 0))] := by kernel_rfl
@[go_sem] theorem places_53 : Program.places Try.prog 53 = some [(0, 1), (1, 1), (2, 1)] := by kernel_rfl
@[go_sem] theorem fieldOff_53_0 : Program.fieldOff Try.prog 53 0 = some 0 := by kernel_rfl
@[go_sem] theorem fieldOff_53_1 : Program.fieldOff Try.prog 53 1 = some 1 := by kernel_rfl
@[go_sem] theorem fieldOff_53_2 : Program.fieldOff Try.prog 53 2 = some 2 := by kernel_rfl
@[go_sem] theorem ldk_54 : Program.ldk Try.prog 54 = some (some 3) := by kernel_rfl
@[go_sem] theorem cellsOfT_54 : cellsOfT Try.prog 54 = some 3 := by kernel_rfl
@[go_sem] theorem zeroC_54 : Program.zeroC Try.prog 54 = some [.lit (.int .i64 0), .lit (.int .i64 0), .lit (.int .i64 0)] := by kernel_rfl
@[go_sem] theorem zeroT_54 : Program.zeroT Try.prog 54 = some [.c (.lit (.int .i64 0)), .c (.lit (.int .i64 0)), .c (.lit (.int .i64 0))] := by kernel_rfl
@[go_sem] theorem places_54 : Program.places Try.prog 54 = some [(0, 1), (1, 1), (2, 1)] := by kernel_rfl
@[go_sem] theorem fieldOff_54_0 : Program.fieldOff Try.prog 54 0 = some 0 := by kernel_rfl
@[go_sem] theorem fieldOff_54_1 : Program.fieldOff Try.prog 54 1 = some 1 := by kernel_rfl
@[go_sem] theorem fieldOff_54_2 : Program.fieldOff Try.prog 54 2 = some 2 := by kernel_rfl
@[go_sem] theorem ldk_55 : Program.ldk Try.prog 55 = some none := by kernel_rfl
@[go_sem] theorem cellsOfT_55 : cellsOfT Try.prog 55 = some 1 := by kernel_rfl
@[go_sem] theorem zeroC_55 : Program.zeroC Try.prog 55 = some [.lit .nilFunc] := by kernel_rfl
@[go_sem] theorem zeroT_55 : Program.zeroT Try.prog 55 = some [.c (.lit .nilFunc)] := by kernel_rfl
attribute [go_sem] Try.underlying55
@[go_sem] theorem ldk_56 : Program.ldk Try.prog 56 = some none := by kernel_rfl
@[go_sem] theorem cellsOfT_56 : cellsOfT Try.prog 56 = some 1 := by kernel_rfl
@[go_sem] theorem zeroC_56 : Program.zeroC Try.prog 56 = some [.lit .nilFunc] := by kernel_rfl
@[go_sem] theorem zeroT_56 : Program.zeroT Try.prog 56 = some [.c (.lit .nilFunc)] := by kernel_rfl
attribute [go_sem] Try.underlying56
@[go_sem] theorem ldk_57 : Program.ldk Try.prog 57 = some none := by kernel_rfl
@[go_sem] theorem cellsOfT_57 : cellsOfT Try.prog 57 = some 1 := by kernel_rfl
@[go_sem] theorem zeroC_57 : Program.zeroC Try.prog 57 = some [.lit (.pointer none)] := by kernel_rfl
@[go_sem] theorem zeroT_57 : Program.zeroT Try.prog 57 = some [.c (.lit (.pointer none))] := by kernel_rfl
attribute [go_sem] Try.underlying57
@[go_sem] theorem ldk_58 : Program.ldk Try.prog 58 = some none := by kernel_rfl
@[go_sem] theorem cellsOfT_58 : cellsOfT Try.prog 58 = some 1 := by kernel_rfl
@[go_sem] theorem zeroC_58 : Program.zeroC Try.prog 58 = some [.lit .nilFunc] := by kernel_rfl
@[go_sem] theorem zeroT_58 : Program.zeroT Try.prog 58 = some [.c (.lit .nilFunc)] := by kernel_rfl
attribute [go_sem] Try.underlying58
@[go_sem] theorem ldk_59 : Program.ldk Try.prog 59 = some none := by kernel_rfl
@[go_sem] theorem cellsOfT_59 : cellsOfT Try.prog 59 = some 1 := by kernel_rfl
@[go_sem] theorem zeroC_59 : Program.zeroC Try.prog 59 = some [.lit .nilFunc] := by kernel_rfl
@[go_sem] theorem zeroT_59 : Program.zeroT Try.prog 59 = some [.c (.lit .nilFunc)] := by kernel_rfl
attribute [go_sem] Try.underlying59
@[go_sem] theorem ldk_60 : Program.ldk Try.prog 60 = some none := by kernel_rfl
@[go_sem] theorem cellsOfT_60 : cellsOfT Try.prog 60 = some 1 := by kernel_rfl
@[go_sem] theorem zeroC_60 : Program.zeroC Try.prog 60 = some [.lit .nilFunc] := by kernel_rfl
@[go_sem] theorem zeroT_60 : Program.zeroT Try.prog 60 = some [.c (.lit .nilFunc)] := by kernel_rfl
attribute [go_sem] Try.underlying60
@[go_sem] theorem ldk_61 : Program.ldk Try.prog 61 = some (some 2) := by kernel_rfl
@[go_sem] theorem cellsOfT_61 : cellsOfT Try.prog 61 = some 2 := by kernel_rfl
@[go_sem] theorem zeroC_61 : Program.zeroC Try.prog 61 = some [.sl 2 [], .lit .nilFunc] := by kernel_rfl
@[go_sem] theorem zeroT_61 : Program.zeroT Try.prog 61 = some [.ex 2 [], .c (.lit .nilFunc)] := by kernel_rfl
@[go_sem] theorem places_61 : Program.places Try.prog 61 = some [(0, 1), (1, 1)] := by kernel_rfl
@[go_sem] theorem fieldOff_61_0 : Program.fieldOff Try.prog 61 0 = some 0 := by kernel_rfl
@[go_sem] theorem fieldOff_61_1 : Program.fieldOff Try.prog 61 1 = some 1 := by kernel_rfl
@[go_sem] theorem ldk_62 : Program.ldk Try.prog 62 = some (some 2) := by kernel_rfl
@[go_sem] theorem cellsOfT_62 : cellsOfT Try.prog 62 = some 2 := by kernel_rfl
@[go_sem] theorem zeroC_62 : Program.zeroC Try.prog 62 = some [.sl 2 [], .lit .nilFunc] := by kernel_rfl
@[go_sem] theorem zeroT_62 : Program.zeroT Try.prog 62 = some [.ex 2 [], .c (.lit .nilFunc)] := by kernel_rfl
@[go_sem] theorem places_62 : Program.places Try.prog 62 = some [(0, 1), (1, 1)] := by kernel_rfl
@[go_sem] theorem fieldOff_62_0 : Program.fieldOff Try.prog 62 0 = some 0 := by kernel_rfl
@[go_sem] theorem fieldOff_62_1 : Program.fieldOff Try.prog 62 1 = some 1 := by kernel_rfl
@[go_sem] theorem ldk_63 : Program.ldk Try.prog 63 = some (some 2) := by kernel_rfl
@[go_sem] theorem cellsOfT_63 : cellsOfT Try.prog 63 = some 2 := by kernel_rfl
@[go_sem] theorem zeroC_63 : Program.zeroC Try.prog 63 = some [.sl 2 [], .lit .nilFunc] := by kernel_rfl
@[go_sem] theorem zeroT_63 : Program.zeroT Try.prog 63 = some [.ex 2 [], .c (.lit .nilFunc)] := by kernel_rfl
@[go_sem] theorem places_63 : Program.places Try.prog 63 = some [(0, 2)] := by kernel_rfl
@[go_sem] theorem fieldOff_63_0 : Program.fieldOff Try.prog 63 0 = some 0 := by kernel_rfl
@[go_sem] theorem ldk_64 : Program.ldk Try.prog 64 = some (some 2) := by kernel_rfl
@[go_sem] theorem cellsOfT_64 : cellsOfT Try.prog 64 = some 2 := by kernel_rfl
@[go_sem] theorem zeroC_64 : Program.zeroC Try.prog 64 = some [.sl 2 [], .lit .nilFunc] := by kernel_rfl
@[go_sem] theorem zeroT_64 : Program.zeroT Try.prog 64 = some [.ex 2 [], .c (.lit .nilFunc)] := by kernel_rfl
@[go_sem] theorem places_64 : Program.places Try.prog 64 = some [(0, 2)] := by kernel_rfl
@[go_sem] theorem fieldOff_64_0 : Program.fieldOff Try.prog 64 0 = some 0 := by kernel_rfl
@[go_sem] theorem ldk_65 : Program.ldk Try.prog 65 = some none := by kernel_rfl
@[go_sem] theorem cellsOfT_65 : cellsOfT Try.prog 65 = some 1 := by kernel_rfl
@[go_sem] theorem zeroC_65 : Program.zeroC Try.prog 65 = some [.lit .nilFunc] := by kernel_rfl
@[go_sem] theorem zeroT_65 : Program.zeroT Try.prog 65 = some [.c (.lit .nilFunc)] := by kernel_rfl
attribute [go_sem] Try.underlying65
@[go_sem] theorem ldk_66 : Program.ldk Try.prog 66 = some none := by kernel_rfl
@[go_sem] theorem cellsOfT_66 : cellsOfT Try.prog 66 = some 1 := by kernel_rfl
@[go_sem] theorem zeroC_66 : Program.zeroC Try.prog 66 = some [.lit .nilFunc] := by kernel_rfl
@[go_sem] theorem zeroT_66 : Program.zeroT Try.prog 66 = some [.c (.lit .nilFunc)] := by kernel_rfl
attribute [go_sem] Try.underlying66
@[go_sem] theorem ldk_67 : Program.ldk Try.prog 67 = some none := by kernel_rfl
@[go_sem] theorem cellsOfT_67 : cellsOfT Try.prog 67 = some 1 := by kernel_rfl
@[go_sem] theorem zeroC_67 : Program.zeroC Try.prog 67 = some [.lit .nilFunc] := by kernel_rfl
@[go_sem] theorem zeroT_67 : Program.zeroT Try.prog 67 = some [.c (.lit .nilFunc)] := by kernel_rfl
attribute [go_sem] Try.underlying67
@[go_sem] theorem ldk_68 : Program.ldk Try.prog 68 = some none := by kernel_rfl
@[go_sem] theorem cellsOfT_68 : cellsOfT Try.prog 68 = some 1 := by kernel_rfl
@[go_sem] theorem zeroC_68 : Program.zeroC Try.prog 68 = some [.lit .nilFunc] := by kernel_rfl
@[go_sem] theorem zeroT_68 : Program.zeroT Try.prog 68 = some [.c (.lit .nilFunc)] := by kernel_rfl
attribute [go_sem] Try.underlying68
@[go_sem] theorem ldk_69 : Program.ldk Try.prog 69 = some none := by kernel_rfl
@[go_sem] theorem cellsOfT_69 : cellsOfT Try.prog 69 = some 1 := by kernel_rfl
@[go_sem] theorem zeroC_69 : Program.zeroC Try.prog 69 = some [.lit .nilFunc] := by kernel_rfl
@[go_sem] theorem zeroT_69 : Program.zeroT Try.prog 69 = some [.c (.lit .nilFunc)] := by kernel_rfl
attribute [go_sem] Try.underlying69
@[go_sem] theorem ldk_70 : Program.ldk Try.prog 70 = some none := by kernel_rfl
@[go_sem] theorem cellsOfT_70 : cellsOfT Try.prog 70 = some 1 := by kernel_rfl
@[go_sem] theorem zeroC_70 : Program.zeroC Try.prog 70 = some [.lit .nilFunc] := by kernel_rfl
@[go_sem] theorem zeroT_70 : Program.zeroT Try.prog 70 = some [.c (.lit .nilFunc)] := by kernel_rfl
attribute [go_sem] Try.underlying70
@[go_sem] theorem ldk_71 : Program.ldk Try.prog 71 = some none := by kernel_rfl
@[go_sem] theorem cellsOfT_71 : cellsOfT Try.prog 71 = some 1 := by kernel_rfl
@[go_sem] theorem zeroC_71 : Program.zeroC Try.prog 71 = some [.lit .nilFunc] := by kernel_rfl
@[go_sem] theorem zeroT_71 : Program.zeroT Try.prog 71 = some [.c (.lit .nilFunc)] := by kernel_rfl
attribute [go_sem] Try.underlying71
@[go_sem] theorem ldk_72 : Program.ldk Try.prog 72 = some (some 2) := by kernel_rfl
@[go_sem] theorem cellsOfT_72 : cellsOfT Try.prog 72 = some 2 := by kernel_rfl
@[go_sem] theorem zeroC_72 : Program.zeroC Try.prog 72 = some [.sl 3 [], .lit .nilFunc] := by kernel_rfl
@[go_sem] theorem zeroT_72 : Program.zeroT Try.prog 72 = some [.ex 3 [], .c (.lit .nilFunc)] := by kernel_rfl
@[go_sem] theorem places_72 : Program.places Try.prog 72 = some [(0, 1), (1, 1)] := by kernel_rfl
@[go_sem] theorem fieldOff_72_0 : Program.fieldOff Try.prog 72 0 = some 0 := by kernel_rfl
@[go_sem] theorem fieldOff_72_1 : Program.fieldOff Try.prog 72 1 = some 1 := by kernel_rfl
@[go_sem] theorem ldk_73 : Program.ldk Try.prog 73 = some (some 2) := by kernel_rfl
@[go_sem] theorem cellsOfT_73 : cellsOfT Try.prog 73 = some 2 := by kernel_rfl
@[go_sem] theorem zeroC_73 : Program.zeroC Try.prog 73 = some [.sl 3 [], .lit .nilFunc] := by kernel_rfl
@[go_sem] theorem zeroT_73 : Program.zeroT Try.prog 73 = some [.ex 3 [], .c (.lit .nilFunc)] := by kernel_rfl
@[go_sem] theorem places_73 : Program.places Try.prog 73 = some [(0, 1), (1, 1)] := by kernel_rfl
@[go_sem] theorem fieldOff_73_0 : Program.fieldOff Try.prog 73 0 = some 0 := by kernel_rfl
@[go_sem] theorem fieldOff_73_1 : Program.fieldOff Try.prog 73 1 = some 1 := by kernel_rfl
@[go_sem] theorem ldk_74 : Program.ldk Try.prog 74 = some none := by kernel_rfl
@[go_sem] theorem cellsOfT_74 : cellsOfT Try.prog 74 = some 1 := by kernel_rfl
@[go_sem] theorem zeroC_74 : Program.zeroC Try.prog 74 = some [.lit .nilFunc] := by kernel_rfl
@[go_sem] theorem zeroT_74 : Program.zeroT Try.prog 74 = some [.c (.lit .nilFunc)] := by kernel_rfl
attribute [go_sem] Try.underlying74
@[go_sem] theorem ldk_75 : Program.ldk Try.prog 75 = some none := by kernel_rfl
@[go_sem] theorem cellsOfT_75 : cellsOfT Try.prog 75 = some 1 := by kernel_rfl
@[go_sem] theorem zeroC_75 : Program.zeroC Try.prog 75 = some [.lit .nilFunc] := by kernel_rfl
@[go_sem] theorem zeroT_75 : Program.zeroT Try.prog 75 = some [.c (.lit .nilFunc)] := by kernel_rfl
attribute [go_sem] Try.underlying75
@[go_sem] theorem ldk_76 : Program.ldk Try.prog 76 = some none := by kernel_rfl
@[go_sem] theorem cellsOfT_76 : cellsOfT Try.prog 76 = some 1 := by kernel_rfl
@[go_sem] theorem zeroC_76 : Program.zeroC Try.prog 76 = some [.lit .nilFunc] := by kernel_rfl
@[go_sem] theorem zeroT_76 : Program.zeroT Try.prog 76 = some [.c (.lit .nilFunc)] := by kernel_rfl
attribute [go_sem] Try.underlying76
@[go_sem] theorem ldk_77 : Program.ldk Try.prog 77 = some none := by kernel_rfl
@[go_sem] theorem cellsOfT_77 : cellsOfT Try.prog 77 = some 1 := by kernel_rfl
@[go_sem] theorem zeroC_77 : Program.zeroC Try.prog 77 = some [.lit .nilFunc] := by kernel_rfl
@[go_sem] theorem zeroT_77 : Program.zeroT Try.prog 77 = some [.c (.lit .nilFunc)] := by kernel_rfl
attribute [go_sem] Try.underlying77
@[go_sem] theorem ldk_78 : Program.ldk Try.prog 78 = some none := by kernel_rfl
@[go_sem] theorem cellsOfT_78 : cellsOfT Try.prog 78 = some 1 := by kernel_rfl
@[go_sem] theorem zeroC_78 : Program.zeroC Try.prog 78 = some [.lit .nilFunc] := by kernel_rfl
@[go_sem] theorem zeroT_78 : Program.zeroT Try.prog 78 = some [.c (.lit .nilFunc)] := by kernel_rfl
attribute [go_sem] Try.underlying78
@[go_sem] theorem ldk_79 : Program.ldk Try.prog 79 = some none := by kernel_rfl
@[go_sem] theorem cellsOfT_79 : cellsOfT Try.prog 79 = some 1 := by kernel_rfl
@[go_sem] theorem zeroC_79 : Program.zeroC Try.prog 79 = some [.lit .nilFunc] := by kernel_rfl
@[go_sem] theorem zeroT_79 : Program.zeroT Try.prog 79 = some [.c (.lit .nilFunc)] := by kernel_rfl
attribute [go_sem] Try.underlying79
@[go_sem] theorem ldk_80 : Program.ldk Try.prog 80 = some none := by kernel_rfl
@[go_sem] theorem cellsOfT_80 : cellsOfT Try.prog 80 = some 1 := by kernel_rfl
@[go_sem] theorem zeroC_80 : Program.zeroC Try.prog 80 = some [.lit .nilFunc] := by kernel_rfl
@[go_sem] theorem zeroT_80 : Program.zeroT Try.prog 80 = some [.c (.lit .nilFunc)] := by kernel_rfl
attribute [go_sem] Try.underlying80
@[go_sem] theorem ldk_81 : Program.ldk Try.prog 81 = some none := by kernel_rfl
@[go_sem] theorem cellsOfT_81 : cellsOfT Try.prog 81 = some 1 := by kernel_rfl
@[go_sem] theorem zeroC_81 : Program.zeroC Try.prog 81 = some [.lit (.pointer none)] := by kernel_rfl
@[go_sem] theorem zeroT_81 : Program.zeroT Try.prog 81 = some [.c (.lit (.pointer none))] := by kernel_rfl
attribute [go_sem] Try.underlying81
@[go_sem] theorem ldk_83 : Program.ldk Try.prog 83 = some none := by kernel_rfl
@[go_sem] theorem cellsOfT_83 : cellsOfT Try.prog 83 = some 1 := by kernel_rfl
@[go_sem] theorem zeroC_83 : Program.zeroC Try.prog 83 = some [.lit .nilFunc] := by kernel_rfl
@[go_sem] theorem zeroT_83 : Program.zeroT Try.prog 83 = some [.c (.lit .nilFunc)] := by kernel_rfl
attribute [go_sem] Try.underlying83
@[go_sem] theorem ldk_84 : Program.ldk Try.prog 84 = some none := by kernel_rfl
@[go_sem] theorem cellsOfT_84 : cellsOfT Try.prog 84 = some 1 := by kernel_rfl
@[go_sem] theorem zeroC_84 : Program.zeroC Try.prog 84 = some [.lit .nilFunc] := by kernel_rfl
@[go_sem] theorem zeroT_84 : Program.zeroT Try.prog 84 = some [.c (.lit .nilFunc)] := by kernel_rfl
attribute [go_sem] Try.underlying84
@[go_sem] theorem ldk_85 : Program.ldk Try.prog 85 = some none := by kernel_rfl
@[go_sem] theorem cellsOfT_85 : cellsOfT Try.prog 85 = some 1 := by kernel_rfl
@[go_sem] theorem zeroC_85 : Program.zeroC Try.prog 85 = some [.lit (.pointer none)] := by kernel_rfl
@[go_sem] theorem zeroT_85 : Program.zeroT Try.prog 85 = some [.c (.lit (.pointer none))] := by kernel_rfl
attribute [go_sem] Try.underlying85
@[go_sem] theorem ldk_86 : Program.ldk Try.prog 86 = some none := by kernel_rfl
@[go_sem] theorem cellsOfT_86 : cellsOfT Try.prog 86 = some 1 := by kernel_rfl
@[go_sem] theorem zeroC_86 : Program.zeroC Try.prog 86 = some [.lit .nilFunc] := by kernel_rfl
@[go_sem] theorem zeroT_86 : Program.zeroT Try.prog 86 = some [.c (.lit .nilFunc)] := by kernel_rfl
attribute [go_sem] Try.underlying86
@[go_sem] theorem ldk_87 : Program.ldk Try.prog 87 = some none := by kernel_rfl
@[go_sem] theorem cellsOfT_87 : cellsOfT Try.prog 87 = some 1 := by kernel_rfl
@[go_sem] theorem zeroC_87 : Program.zeroC Try.prog 87 = some [.lit .nilFunc] := by kernel_rfl
@[go_sem] theorem zeroT_87 : Program.zeroT Try.prog 87 = some [.c (.lit .nilFunc)] := by kernel_rfl
attribute [go_sem] Try.underlying87
@[go_sem] theorem ldk_88 : Program.ldk Try.prog 88 = some none := by kernel_rfl
@[go_sem] theorem cellsOfT_88 : cellsOfT Try.prog 88 = some 1 := by kernel_rfl
@[go_sem] theorem zeroC_88 : Program.zeroC Try.prog 88 = some [.lit .nilFunc] := by kernel_rfl
@[go_sem] theorem zeroT_88 : Program.zeroT Try.prog 88 = some [.c (.lit .nilFunc)] := by kernel_rfl
attribute [go_sem] Try.underlying88
@[go_sem] theorem ldk_89 : Program.ldk Try.prog 89 = some none := by kernel_rfl
@[go_sem] theorem cellsOfT_89 : cellsOfT Try.prog 89 = some 1 := by kernel_rfl
@[go_sem] theorem zeroC_89 : Program.zeroC Try.prog 89 = some [.lit .nilFunc] := by kernel_rfl
@[go_sem] theorem zeroT_89 : Program.zeroT Try.prog 89 = some [.c (.lit .nilFunc)] := by kernel_rfl
attribute [go_sem] Try.underlying89
@[go_sem] theorem ldk_90 : Program.ldk Try.prog 90 = some none := by kernel_rfl
@[go_sem] theorem cellsOfT_90 : cellsOfT Try.prog 90 = some 1 := by kernel_rfl
@[go_sem] theorem zeroC_90 : Program.zeroC Try.prog 90 = some [.lit .nilFunc] := by kernel_rfl
@[go_sem] theorem zeroT_90 : Program.zeroT Try.prog 90 = some [.c (.lit .nilFunc)] := by kernel_rfl
attribute [go_sem] Try.underlying90
@[go_sem] theorem ldk_91 : Program.ldk Try.prog 91 = some none := by kernel_rfl
@[go_sem] theorem cellsOfT_91 : cellsOfT Try.prog 91 = some 1 := by kernel_rfl
@[go_sem] theorem zeroC_91 : Program.zeroC Try.prog 91 = some [.lit .nilFunc] := by kernel_rfl
@[go_sem] theorem zeroT_91 : Program.zeroT Try.prog 91 = some [.c (.lit .nilFunc)] := by kernel_rfl
attribute [go_sem] Try.underlying91
@[go_sem] theorem ldk_92 : Program.ldk Try.prog 92 = some none := by kernel_rfl
@[go_sem] theorem cellsOfT_92 : cellsOfT Try.prog 92 = some 1 := by kernel_rfl
@[go_sem] theorem zeroC_92 : Program.zeroC Try.prog 92 = some [.lit (.int .u64 0)] := by kernel_rfl
@[go_sem] theorem zeroT_92 : Program.zeroT Try.prog 92 = some [.c (.lit (.int .u64 0))] := by kernel_rfl
attribute [go_sem] Try.underlying92
@[go_sem] theorem ldk_93 : Program.ldk Try.prog 93 = some none := by kernel_rfl
@[go_sem] theorem cellsOfT_93 : cellsOfT Try.prog 93 = some 1 := by kernel_rfl
@[go_sem] theorem zeroC_93 : Program.zeroC Try.prog 93 = some [.lit .nilFunc] := by kernel_rfl
@[go_sem] theorem zeroT_93 : Program.zeroT Try.prog 93 = some [.c (.lit .nilFunc)] := by kernel_rfl
attribute [go_sem] Try.underlying93
@[go_sem] theorem ldk_94 : Program.ldk Try.prog 94 = some none := by kernel_rfl
@[go_sem] theorem cellsOfT_94 : cellsOfT Try.prog 94 = some 1 := by kernel_rfl
@[go_sem] theorem zeroC_94 : Program.zeroC Try.prog 94 = some [.lit .nilFunc] := by kernel_rfl
@[go_sem] theorem zeroT_94 : Program.zeroT Try.prog 94 = some [.c (.lit .nilFunc)] := by kernel_rfl
attribute [go_sem] Try.underlying94
@[go_sem] theorem ldk_95 : Program.ldk Try.prog 95 = some none := by kernel_rfl
@[go_sem] theorem cellsOfT_95 : cellsOfT Try.prog 95 = some 1 := by kernel_rfl
@[go_sem] theorem zeroC_95 : Program.zeroC Try.prog 95 = some [.lit .nilFunc] := by kernel_rfl
@[go_sem] theorem zeroT_95 : Program.zeroT Try.prog 95 = some [.c (.lit .nilFunc)] := by kernel_rfl
attribute [go_sem] Try.underlying95
@[go_sem] theorem ldk_96 : Program.ldk Try.prog 96 = some none := by kernel_rfl
@[go_sem] theorem cellsOfT_96 : cellsOfT Try.prog 96 = some 1 := by kernel_rfl
@[go_sem] theorem zeroC_96 : Program.zeroC Try.prog 96 = some [.lit .nilFunc] := by kernel_rfl
@[go_sem] theorem zeroT_96 : Program.zeroT Try.prog 96 = some [.c (.lit .nilFunc)] := by kernel_rfl
attribute [go_sem] Try.underlying96
@[go_sem] theorem ldk_97 : Program.ldk Try.prog 97 = some none := by kernel_rfl
@[go_sem] theorem cellsOfT_97 : cellsOfT Try.prog 97 = some 1 := by kernel_rfl
@[go_sem] theorem zeroC_97 : Program.zeroC Try.prog 97 = some [.lit .nilFunc] := by kernel_rfl
@[go_sem] theorem zeroT_97 : Program.zeroT Try.prog 97 = some [.c (.lit .nilFunc)] := by kernel_rfl
attribute [go_sem] Try.underlying97
@[go_sem] theorem ldk_98 : Program.ldk Try.prog 98 = some (some 4) := by kernel_rfl
@[go_sem] theorem cellsOfT_98 : cellsOfT Try.prog 98 = some 4 := by kernel_rfl
@[go_sem] theorem zeroC_98 : Program.zeroC Try.prog 98 = some [.lit (.pointer none), .lit (.pointer none), .lit (.pointer none), .lit (.string ⟨#[]⟩)] := by kernel_rfl
@[go_sem] theorem zeroT_98 : Program.zeroT Try.prog 98 = some [.c (.lit (.pointer none)), .c (.lit (.pointer none)), .c (.lit (.pointer none)), .c (.lit (.string ⟨#[]⟩))] := by kernel_rfl
@[go_sem] theorem places_98 : Program.places Try.prog 98 = some [(0, 1), (1, 1), (2, 1), (3, 1)] := by kernel_rfl
@[go_sem] theorem fieldOff_98_0 : Program.fieldOff Try.prog 98 0 = some 0 := by kernel_rfl
@[go_sem] theorem fieldOff_98_1 : Program.fieldOff Try.prog 98 1 = some 1 := by kernel_rfl
@[go_sem] theorem fieldOff_98_2 : Program.fieldOff Try.prog 98 2 = some 2 := by kernel_rfl
@[go_sem] theorem fieldOff_98_3 : Program.fieldOff Try.prog 98 3 = some 3 := by kernel_rfl
@[go_sem] theorem ldk_100 : Program.ldk Try.prog 100 = some (some 0) := by kernel_rfl
@[go_sem] theorem cellsOfT_100 : cellsOfT Try.prog 100 = some 0 := by kernel_rfl
@[go_sem] theorem zeroC_100 : Program.zeroC Try.prog 100 = some [] := by kernel_rfl
@[go_sem] theorem zeroT_100 : Program.zeroT Try.prog 100 = some [] := by kernel_rfl
@[go_sem] theorem ldk_101 : Program.ldk Try.prog 101 = some (some 0) := by kernel_rfl
@[go_sem] theorem cellsOfT_101 : cellsOfT Try.prog 101 = some 0 := by kernel_rfl
@[go_sem] theorem zeroC_101 : Program.zeroC Try.prog 101 = some [] := by kernel_rfl
@[go_sem] theorem zeroT_101 : Program.zeroT Try.prog 101 = some [] := by kernel_rfl
@[go_sem] theorem places_101 : Program.places Try.prog 101 = some [(0, 0)] := by kernel_rfl
@[go_sem] theorem ldk_103 : Program.ldk Try.prog 103 = some none := by kernel_rfl
@[go_sem] theorem cellsOfT_103 : cellsOfT Try.prog 103 = some 1 := by kernel_rfl
@[go_sem] theorem zeroC_103 : Program.zeroC Try.prog 103 = some [.lit .nilFunc] := by kernel_rfl
@[go_sem] theorem zeroT_103 : Program.zeroT Try.prog 103 = some [.c (.lit .nilFunc)] := by kernel_rfl
attribute [go_sem] Try.underlying103
@[go_sem] theorem ldk_104 : Program.ldk Try.prog 104 = some none := by kernel_rfl
@[go_sem] theorem cellsOfT_104 : cellsOfT Try.prog 104 = some 1 := by kernel_rfl
@[go_sem] theorem zeroC_104 : Program.zeroC Try.prog 104 = some [.lit (.int .u32 0)] := by kernel_rfl
@[go_sem] theorem zeroT_104 : Program.zeroT Try.prog 104 = some [.c (.lit (.int .u32 0))] := by kernel_rfl
attribute [go_sem] Try.underlying104
@[go_sem] theorem ldk_107 : Program.ldk Try.prog 107 = some none := by kernel_rfl
@[go_sem] theorem cellsOfT_107 : cellsOfT Try.prog 107 = some 1 := by kernel_rfl
@[go_sem] theorem zeroC_107 : Program.zeroC Try.prog 107 = some [.lit .nilFunc] := by kernel_rfl
@[go_sem] theorem zeroT_107 : Program.zeroT Try.prog 107 = some [.c (.lit .nilFunc)] := by kernel_rfl
attribute [go_sem] Try.underlying107
@[go_sem] theorem ldk_108 : Program.ldk Try.prog 108 = some none := by kernel_rfl
@[go_sem] theorem cellsOfT_108 : cellsOfT Try.prog 108 = some 1 := by kernel_rfl
@[go_sem] theorem zeroC_108 : Program.zeroC Try.prog 108 = some [.lit (.pointer none)] := by kernel_rfl
@[go_sem] theorem zeroT_108 : Program.zeroT Try.prog 108 = some [.c (.lit (.pointer none))] := by kernel_rfl
attribute [go_sem] Try.underlying108
@[go_sem] theorem ldk_111 : Program.ldk Try.prog 111 = some (some 11) := by kernel_rfl
@[go_sem] theorem cellsOfT_111 : cellsOfT Try.prog 111 = some 11 := by kernel_rfl
@[go_sem] theorem zeroC_111 : Program.zeroC Try.prog 111 = some [.lit (.int .u64 0), .lit (.int .u64 0), .lit (.int .u32 0), .lit (.int .u8 0), .lit (.int .u8 0), .lit (.int .u8 0), .lit (.int .u8 0), .lit .nilFunc, .lit (.pointer none), .lit (.int .i32 0), .lit (.int .i32 0)] := by kernel_rfl
@[go_sem] theorem zeroT_111 : Program.zeroT Try.prog 111 = some [.c (.lit (.int .u64 0)), .c (.lit (.int .u64 0)), .c (.lit (.int .u32 0)), .c (.lit (.int .u8 0)), .c (.lit (.int .u8 0)), .c (.lit (.int .u8 0)), .c (.lit (.int .u8 0)), .c (.lit .nilFunc), .c (.lit (.pointer none)), .c (.lit (.int .i32 0)), .c (.lit (.int .i32 0))] := by kernel_rfl
@[go_sem] theorem places_111 : Program.places Try.prog 111 = some [(0, 1), (1, 1), (2, 1), (3, 1), (4, 1), (5, 1), (6, 1), (7, 1), (8, 1), (9, 1), (10, 1)] := by kernel_rfl
@[go_sem] theorem fieldOff_111_0 : Program.fieldOff Try.prog 111 0 = some 0 := by kernel_rfl
@[go_sem] theorem fieldOff_111_1 : Program.fieldOff Try.prog 111 1 = some 1 := by kernel_rfl
@[go_sem] theorem fieldOff_111_2 : Program.fieldOff Try.prog 111 2 = some 2 := by kernel_rfl
@[go_sem] theorem fieldOff_111_3 : Program.fieldOff Try.prog 111 3 = some 3 := by kernel_rfl
@[go_sem] theorem fieldOff_111_4 : Program.fieldOff Try.prog 111 4 = some 4 := by kernel_rfl
@[go_sem] theorem fieldOff_111_5 : Program.fieldOff Try.prog 111 5 = some 5 := by kernel_rfl
@[go_sem] theorem fieldOff_111_6 : Program.fieldOff Try.prog 111 6 = some 6 := by kernel_rfl
@[go_sem] theorem fieldOff_111_7 : Program.fieldOff Try.prog 111 7 = some 7 := by kernel_rfl
@[go_sem] theorem fieldOff_111_8 : Program.fieldOff Try.prog 111 8 = some 8 := by kernel_rfl
@[go_sem] theorem fieldOff_111_9 : Program.fieldOff Try.prog 111 9 = some 9 := by kernel_rfl
@[go_sem] theorem fieldOff_111_10 : Program.fieldOff Try.prog 111 10 = some 10 := by kernel_rfl
@[go_sem] theorem ldk_113 : Program.ldk Try.prog 113 = some (some 2) := by kernel_rfl
@[go_sem] theorem cellsOfT_113 : cellsOfT Try.prog 113 = some 2 := by kernel_rfl
@[go_sem] theorem zeroC_113 : Program.zeroC Try.prog 113 = some [.lit (.int .i64 0), .lit (.int .i64 0)] := by kernel_rfl
@[go_sem] theorem zeroT_113 : Program.zeroT Try.prog 113 = some [.c (.lit (.int .i64 0)), .c (.lit (.int .i64 0))] := by kernel_rfl
@[go_sem] theorem places_113 : Program.places Try.prog 113 = some [(0, 1), (1, 1)] := by kernel_rfl
@[go_sem] theorem fieldOff_113_0 : Program.fieldOff Try.prog 113 0 = some 0 := by kernel_rfl
@[go_sem] theorem fieldOff_113_1 : Program.fieldOff Try.prog 113 1 = some 1 := by kernel_rfl
@[go_sem] theorem ldk_114 : Program.ldk Try.prog 114 = some (some 2) := by kernel_rfl
@[go_sem] theorem cellsOfT_114 : cellsOfT Try.prog 114 = some 2 := by kernel_rfl
@[go_sem] theorem zeroC_114 : Program.zeroC Try.prog 114 = some [.lit (.int .i64 0), .lit (.int .i64 0)] := by kernel_rfl
@[go_sem] theorem zeroT_114 : Program.zeroT Try.prog 114 = some [.c (.lit (.int .i64 0)), .c (.lit (.int .i64 0))] := by kernel_rfl
@[go_sem] theorem places_114 : Program.places Try.prog 114 = some [(0, 1), (1, 1)] := by kernel_rfl
@[go_sem] theorem fieldOff_114_0 : Program.fieldOff Try.prog 114 0 = some 0 := by kernel_rfl
@[go_sem] theorem fieldOff_114_1 : Program.fieldOff Try.prog 114 1 = some 1 := by kernel_rfl
@[go_sem] theorem ldk_115 : Program.ldk Try.prog 115 = some (some 2) := by kernel_rfl
@[go_sem] theorem cellsOfT_115 : cellsOfT Try.prog 115 = some 2 := by kernel_rfl
@[go_sem] theorem zeroC_115 : Program.zeroC Try.prog 115 = some [.lit (.int .i64 0), .lit (.int .i64 0)] := by kernel_rfl
@[go_sem] theorem zeroT_115 : Program.zeroT Try.prog 115 = some [.c (.lit (.int .i64 0)), .c (.lit (.int .i64 0))] := by kernel_rfl
@[go_sem] theorem places_115 : Program.places Try.prog 115 = some [(0, 1), (1, 1)] := by kernel_rfl
@[go_sem] theorem fieldOff_115_0 : Program.fieldOff Try.prog 115 0 = some 0 := by kernel_rfl
@[go_sem] theorem fieldOff_115_1 : Program.fieldOff Try.prog 115 1 = some 1 := by kernel_rfl
@[go_sem] theorem ldk_116 : Program.ldk Try.prog 116 = some (some 2) := by kernel_rfl
@[go_sem] theorem cellsOfT_116 : cellsOfT Try.prog 116 = some 2 := by kernel_rfl
@[go_sem] theorem zeroC_116 : Program.zeroC Try.prog 116 = some [.lit (.int .i64 0), .lit (.int .i64 0)] := by kernel_rfl
@[go_sem] theorem zeroT_116 : Program.zeroT Try.prog 116 = some [.c (.lit (.int .i64 0)), .c (.lit (.int .i64 0))] := by kernel_rfl
@[go_sem] theorem places_116 : Program.places Try.prog 116 = some [(0, 1), (1, 1)] := by kernel_rfl
@[go_sem] theorem fieldOff_116_0 : Program.fieldOff Try.prog 116 0 = some 0 := by kernel_rfl
@[go_sem] theorem fieldOff_116_1 : Program.fieldOff Try.prog 116 1 = some 1 := by kernel_rfl
@[go_sem] theorem ldk_117 : Program.ldk Try.prog 117 = some none := by kernel_rfl
@[go_sem] theorem cellsOfT_117 : cellsOfT Try.prog 117 = some 1 := by kernel_rfl
@[go_sem] theorem eqGuard_51 : Try.prog.eqGuardType Try.prog.depth 51 = false := by kernel_rfl
@[go_sem] theorem eqT_51 (a0 b0 : ByteArray) (a1 b1 : ByteArray) : eqT Try.prog 8 51 (.agg [.c (.lit (.string a0)), .c (.lit (.string a1))]) (.agg [.c (.lit (.string b0)), .c (.lit (.string b1))]) = some ((a0 == b0) && ((a1 == b1) && true)) := by kernel_rfl
@[go_sem] theorem eqGuard_52 : Try.prog.eqGuardType Try.prog.depth 52 = false := by kernel_rfl
@[go_sem] theorem eqT_52 (a0 b0 : ByteArray) (a1 b1 : ByteArray) : eqT Try.prog 8 52 (.agg [.c (.lit (.string a0)), .c (.lit (.string a1))]) (.agg [.c (.lit (.string b0)), .c (.lit (.string b1))]) = some ((a0 == b0) && ((a1 == b1) && true)) := by kernel_rfl
@[go_sem] theorem eqGuard_53 : Try.prog.eqGuardType Try.prog.depth 53 = false := by kernel_rfl
@[go_sem] theorem eqT_53 (a0 b0 : Int) (a1 b1 : Int) (a2 b2 : Int) : eqT Try.prog 8 53 (.agg [.c (.lit (.int .i64 a0)), .c (.lit (.int .i64 a1)), .c (.lit (.int .i64 a2))]) (.agg [.c (.lit (.int .i64 b0)), .c (.lit (.int .i64 b1)), .c (.lit (.int .i64 b2))]) = some ((a0 == b0) && ((a1 == b1) && ((a2 == b2) && true))) := by kernel_rfl
@[go_sem] theorem eqGuard_54 : Try.prog.eqGuardType Try.prog.depth 54 = false := by kernel_rfl
@[go_sem] theorem eqT_54 (a0 b0 : Int) (a1 b1 : Int) (a2 b2 : Int) : eqT Try.prog 8 54 (.agg [.c (.lit (.int .i64 a0)), .c (.lit (.int .i64 a1)), .c (.lit (.int .i64 a2))]) (.agg [.c (.lit (.int .i64 b0)), .c (.lit (.int .i64 b1)), .c (.lit (.int .i64 b2))]) = some ((a0 == b0) && ((a1 == b1) && ((a2 == b2) && true))) := by kernel_rfl
@[go_sem] theorem eqGuard_113 : Try.prog.eqGuardType Try.prog.depth 113 = false := by kernel_rfl
@[go_sem] theorem eqT_113 (a0 b0 : Int) (a1 b1 : Int) : eqT Try.prog 8 113 (.agg [.c (.lit (.int .i64 a0)), .c (.lit (.int .i64 a1))]) (.agg [.c (.lit (.int .i64 b0)), .c (.lit (.int .i64 b1))]) = some ((a0 == b0) && ((a1 == b1) && true)) := by kernel_rfl
@[go_sem] theorem eqGuard_114 : Try.prog.eqGuardType Try.prog.depth 114 = false := by kernel_rfl
@[go_sem] theorem eqT_114 (a0 b0 : Int) (a1 b1 : Int) : eqT Try.prog 8 114 (.agg [.c (.lit (.int .i64 a0)), .c (.lit (.int .i64 a1))]) (.agg [.c (.lit (.int .i64 b0)), .c (.lit (.int .i64 b1))]) = some ((a0 == b0) && ((a1 == b1) && true)) := by kernel_rfl
@[go_sem] theorem eqGuard_115 : Try.prog.eqGuardType Try.prog.depth 115 = false := by kernel_rfl
@[go_sem] theorem eqT_115 (a0 b0 : Int) (a1 b1 : Int) : eqT Try.prog 8 115 (.agg [.c (.lit (.int .i64 a0)), .c (.lit (.int .i64 a1))]) (.agg [.c (.lit (.int .i64 b0)), .c (.lit (.int .i64 b1))]) = some ((a0 == b0) && ((a1 == b1) && true)) := by kernel_rfl
@[go_sem] theorem eqGuard_116 : Try.prog.eqGuardType Try.prog.depth 116 = false := by kernel_rfl
@[go_sem] theorem eqT_116 (a0 b0 : Int) (a1 b1 : Int) : eqT Try.prog 8 116 (.agg [.c (.lit (.int .i64 a0)), .c (.lit (.int .i64 a1))]) (.agg [.c (.lit (.int .i64 b0)), .c (.lit (.int .i64 b1))]) = some ((a0 == b0) && ((a1 == b1) && true)) := by kernel_rfl
end Go.Proofs.Ytffcabenoakmgaa

namespace Go.Proofs.Ytffcabenoakmgaa
open Go.Dl
attribute [local irreducible] DW DCalls ECalls wk
--F36
set_option maxHeartbeats 1000000 in
theorem less_D (a b c a' b' c' : Int) : DCalls Try.prog 36 [.agg [.c (.lit (.int .i64 a)), .c (.lit (.int .i64 b)), .c (.lit (.int .i64 c))], .agg [.c (.lit (.int .i64 a')), .c (.lit (.int .i64 b')), .c (.lit (.int .i64 c'))]]
   (.one (.c (.lit (.bool (decide (a < a') || (a == a' && decide (c < c'))))))) := by
  refine dcalls (N := 24) (rs := [.tmp 4]) (by kernel_rfl) Try.func36 rfl rfl rfl (by simp) ?_
  cases h1 : decide (a < a') <;> cases h2 : (a == a') <;> ((repeat (first | (refine dw_seq ?_) | (refine dw_block ?_) | ((first | (refine dw_reg (N := 24) rfl (by kernel_rfl) ?_) | (refine dw_skip ?_) | (refine dw_exit ?_)); simp (decide := true) only [go_sem, reduceIte, reduceCtorEq, Nat.reduceEqDiff, Nat.reduceAdd, Nat.reduceMul, Nat.reduceSub, Nat.reduceLeDiff, Nat.reduceBEq, h1, h2]))); refine dw_ret ?_; simp (decide := true) only [go_sem, reduceIte, reduceCtorEq, Nat.reduceEqDiff, Nat.reduceAdd, Nat.reduceMul, Nat.reduceSub, Nat.reduceLeDiff, Nat.reduceBEq])
structure Part where
  entry : Int
  alt : Int
  sense : Int
deriving DecidableEq

def Part.enc (p : Part) : List C := [.lit (.int .i64 p.entry), .lit (.int .i64 p.alt), .lit (.int .i64 p.sense)]

--F20
set_option maxHeartbeats 1000000 in
set_option maxRecDepth 10000 in
theorem parts_D (xs ys : List Part) (hx : xs.length ≤ maxLen) (hy : ys.length ≤ maxLen) : DCalls Try.prog 20 [.one (.c (.sl 3 (xs.map Part.enc))), .one (.c (.sl 3 (ys.map Part.enc)))]
   (.one (.c (.lit (.bool (decide (xs = ys)))))) := by
  refine dcalls (N := 26) (rs := [.tmp 4]) (by kernel_rfl) Try.func20 rfl rfl rfl (by simp) ?_
  (repeat (first | (refine dw_seq ?_) | (refine dw_block ?_) | ((first | (refine dw_reg (N := 26) rfl (by kernel_rfl) ?_) | (apply dw_drw (id := 6) (N := 26) [(0, .light), (1, .light), (2, .light), (3, .light), (4, .light), (5, .light), (6, .light), (7, .light), (8, .light)]; kernel_rfl; rfl; kernel_rfl; (repeat (first | exact Picks.nil | (apply Picks.cons; rfl)))) | (refine dw_skip ?_) | (refine dw_exit ?_)); simp (decide := true) only [go_sem, reduceIte, reduceCtorEq, Nat.reduceEqDiff, Nat.reduceAdd, Nat.reduceMul, Nat.reduceSub, Nat.reduceLeDiff, Nat.reduceBEq])))
  apply dw_cond; (simp (decide := true) only [go_sem, reduceIte, reduceCtorEq, Nat.reduceEqDiff, Nat.reduceAdd, Nat.reduceMul, Nat.reduceSub, Nat.reduceLeDiff, Nat.reduceBEq]; rfl)
  · intro hc
    (repeat (first | (refine dw_seq ?_) | (refine dw_block ?_) | ((first | (refine dw_reg (N := 26) rfl (by kernel_rfl) ?_) | (apply dw_drw (id := 6) (N := 26) [(0, .light), (1, .light), (2, .light), (3, .light), (4, .light), (5, .light), (6, .light), (7, .light), (8, .light)]; kernel_rfl; rfl; kernel_rfl; (repeat (first | exact Picks.nil | (apply Picks.cons; rfl)))) | (refine dw_skip ?_) | (refine dw_exit ?_)); simp (decide := true) only [go_sem, reduceIte, reduceCtorEq, Nat.reduceEqDiff, Nat.reduceAdd, Nat.reduceMul, Nat.reduceSub, Nat.reduceLeDiff, Nat.reduceBEq])))
    refine dw_ret ?_; simp (decide := true) only [go_sem, reduceIte, reduceCtorEq, Nat.reduceEqDiff, Nat.reduceAdd, Nat.reduceMul, Nat.reduceSub, Nat.reduceLeDiff, Nat.reduceBEq]
    simp at hc
    simp; intro e; subst e; simp at hc
  · intro hc
    have hl : xs.length = ys.length := by simp at hc; omega
    (repeat (first | (refine dw_seq ?_) | (refine dw_block ?_) | ((first | (refine dw_reg (N := 26) rfl (by kernel_rfl) ?_) | (apply dw_drw (id := 6) (N := 26) [(0, .light), (1, .light), (2, .light), (3, .light), (4, .light), (5, .light), (6, .light), (7, .light), (8, .light)]; kernel_rfl; rfl; kernel_rfl; (repeat (first | exact Picks.nil | (apply Picks.cons; rfl)))) | (refine dw_skip ?_) | (refine dw_exit ?_)); simp (decide := true) only [go_sem, reduceIte, reduceCtorEq, Nat.reduceEqDiff, Nat.reduceAdd, Nat.reduceMul, Nat.reduceSub, Nat.reduceLeDiff, Nat.reduceBEq])))
    refine dw_loop_fam (fun k : Nat => kn 26 [(0, .one (.c (.sl 3 (xs.map Part.enc)))), (1, .one (.c (.sl 3 (ys.map Part.enc)))), (12, .one (.c (.lit (.int .i64 xs.length)))), (13, .one (.c (.lit (.int .i64 k))))] noMem)
      (fun k => k ≤ xs.length ∧ ∀ j < k, xs[j]? = ys[j]?) (fun k => xs.length - k) 0 (sub_kn rfl (by simp (decide := true) only [go_sem, reduceIte, reduceCtorEq, Nat.reduceEqDiff, Nat.reduceAdd, Nat.reduceMul, Nat.reduceSub, Nat.reduceLeDiff, Nat.reduceBEq]) (by simp [noMem])) ⟨by omega, fun j hj => by omega⟩ ?_
    rintro k ⟨hk, hall⟩
    (repeat (first | (refine dw_seq ?_) | (refine dw_block ?_) | ((first | (refine dw_reg (N := 26) rfl (by kernel_rfl) ?_) | (apply dw_drw (id := 6) (N := 26) [(0, .light), (1, .light), (2, .light), (3, .light), (4, .light), (5, .light), (6, .light), (7, .light), (8, .light)]; kernel_rfl; rfl; kernel_rfl; (repeat (first | exact Picks.nil | (apply Picks.cons; rfl)))) | (refine dw_skip ?_) | (refine dw_exit ?_)); simp (decide := true) only [go_sem, reduceIte, reduceCtorEq, Nat.reduceEqDiff, Nat.reduceAdd, Nat.reduceMul, Nat.reduceSub, Nat.reduceLeDiff, Nat.reduceBEq])))
    apply dw_cond; (simp (decide := true) only [go_sem, reduceIte, reduceCtorEq, Nat.reduceEqDiff, Nat.reduceAdd, Nat.reduceMul, Nat.reduceSub, Nat.reduceLeDiff, Nat.reduceBEq]; rfl)
    · intro h1
      have hk' : k < xs.length := by simpa using h1
      obtain ⟨x, hx1⟩ : ∃ x, xs[k]? = some x := ⟨xs[k], List.getElem?_eq_getElem hk'⟩
      obtain ⟨y, hy1⟩ : ∃ y, ys[k]? = some y := ⟨ys[k]'(by omega), List.getElem?_eq_getElem (by omega)⟩
      (repeat (first | (refine dw_seq ?_) | (refine dw_block ?_) | ((first | (refine dw_reg (N := 26) rfl (by kernel_rfl) ?_) | (apply dw_drw (id := 6) (N := 26) [(0, .light), (1, .light), (2, .light), (3, .light), (4, .light), (5, .light), (6, .light), (7, .light), (8, .light)]; kernel_rfl; rfl; kernel_rfl; (repeat (first | exact Picks.nil | (apply Picks.cons; rfl)))) | (refine dw_skip ?_) | (refine dw_exit ?_)); simp (decide := true) only [go_sem, reduceIte, reduceCtorEq, Nat.reduceEqDiff, Nat.reduceAdd, Nat.reduceMul, Nat.reduceSub, Nat.reduceLeDiff, Nat.reduceBEq, hx1, hy1, Part.enc])))
      apply dw_cond; (simp (decide := true) only [go_sem, reduceIte, reduceCtorEq, Nat.reduceEqDiff, Nat.reduceAdd, Nat.reduceMul, Nat.reduceSub, Nat.reduceLeDiff, Nat.reduceBEq]; rfl)
      · intro h2
        (repeat (first | (refine dw_seq ?_) | (refine dw_block ?_) | ((first | (refine dw_reg (N := 26) rfl (by kernel_rfl) ?_) | (apply dw_drw (id := 6) (N := 26) [(0, .light), (1, .light), (2, .light), (3, .light), (4, .light), (5, .light), (6, .light), (7, .light), (8, .light)]; kernel_rfl; rfl; kernel_rfl; (repeat (first | exact Picks.nil | (apply Picks.cons; rfl)))) | (refine dw_skip ?_) | (refine dw_exit ?_)); simp (decide := true) only [go_sem, reduceIte, reduceCtorEq, Nat.reduceEqDiff, Nat.reduceAdd, Nat.reduceMul, Nat.reduceSub, Nat.reduceLeDiff, Nat.reduceBEq])))
        refine dw_ret ?_; simp (decide := true) only [go_sem, reduceIte, reduceCtorEq, Nat.reduceEqDiff, Nat.reduceAdd, Nat.reduceMul, Nat.reduceSub, Nat.reduceLeDiff, Nat.reduceBEq]
        simp at h2 ⊢
        intro e; subst e; rw [hx1] at hy1; injection hy1 with e; subst e; simp at h2
      · intro h2
        have hw := wrap_succ k (by omega)
        (repeat (first | (refine dw_seq ?_) | (refine dw_block ?_) | ((first | (refine dw_reg (N := 26) rfl (by kernel_rfl) ?_) | (apply dw_drw (id := 6) (N := 26) [(0, .light), (1, .light), (2, .light), (3, .light), (4, .light), (5, .light), (6, .light), (7, .light), (8, .light)]; kernel_rfl; rfl; kernel_rfl; (repeat (first | exact Picks.nil | (apply Picks.cons; rfl)))) | (refine dw_skip ?_) | (refine dw_exit ?_)); simp (decide := true) only [go_sem, reduceIte, reduceCtorEq, Nat.reduceEqDiff, Nat.reduceAdd, Nat.reduceMul, Nat.reduceSub, Nat.reduceLeDiff, Nat.reduceBEq, hw])))
        refine ⟨k + 1, ⟨by omega, fun j hj => ?_⟩, by omega, sub_kn rfl (by simp (decide := true) only [go_sem, reduceIte, reduceCtorEq, Nat.reduceEqDiff, Nat.reduceAdd, Nat.reduceMul, Nat.reduceSub, Nat.reduceLeDiff, Nat.reduceBEq]) (by simp [noMem])⟩
        by_cases hjk : j < k
        · exact hall j hjk
        · obtain rfl : j = k := by omega
          simp at h2
          rw [hx1, hy1]
          cases x; cases y; simp_all
    · intro h1
      have hk' : k = xs.length := by simp at h1; omega
      subst hk'
      (repeat (first | (refine dw_seq ?_) | (refine dw_block ?_) | ((first | (refine dw_reg (N := 26) rfl (by kernel_rfl) ?_) | (apply dw_drw (id := 6) (N := 26) [(0, .light), (1, .light), (2, .light), (3, .light), (4, .light), (5, .light), (6, .light), (7, .light), (8, .light)]; kernel_rfl; rfl; kernel_rfl; (repeat (first | exact Picks.nil | (apply Picks.cons; rfl)))) | (refine dw_skip ?_) | (refine dw_exit ?_)); simp (decide := true) only [go_sem, reduceIte, reduceCtorEq, Nat.reduceEqDiff, Nat.reduceAdd, Nat.reduceMul, Nat.reduceSub, Nat.reduceLeDiff, Nat.reduceBEq])))
      refine dw_ret ?_; simp (decide := true) only [go_sem, reduceIte, reduceCtorEq, Nat.reduceEqDiff, Nat.reduceAdd, Nat.reduceMul, Nat.reduceSub, Nat.reduceLeDiff, Nat.reduceBEq]
      simp
      apply List.ext_getElem?
      intro j
      by_cases hj : j < xs.length
      · exact hall j hj
      · rw [List.getElem?_eq_none (by omega), List.getElem?_eq_none (by omega)]
end Go.Proofs.Ytffcabenoakmgaa

/- Contracts of cmp: Compare, Or; byGloss, byPart. -/
namespace Go.Proofs.Ytffcabenoakmgaa
open Go.Dl
attribute [local irreducible] DW DCalls ECalls wk

abbrev li (n : Int) : C := .lit (.int .i64 n)
abbrev ls (s : ByteArray) : C := .lit (.string s)
abbrev lb (b : Bool) : C := .lit (.bool b)
abbrev dv (c : C) : D := .one (.c c)

theorem beq_bytes (a b : ByteArray) : (a == b) = decide (a = b) := by
  obtain ⟨x⟩ := a
  obtain ⟨y⟩ := b
  show (x == y) = _
  by_cases h : x = y
  · subst h; simp
  · have h2 : ¬ (ByteArray.mk x = ByteArray.mk y) := fun e => h (by injection e)
    simp [h, h2]
theorem beq_bytes_refl (a : ByteArray) : (a == a) = true := by rw [beq_bytes]; simp

--F57
theorem isNaNi_D (a : Int) : DCalls Try.prog 57 [dv (li a)] (dv (lb false)) := by
  refine dcalls (N := 6) (rs := [.tmp 2]) (by kernel_rfl) Try.func57 rfl rfl rfl (by simp) ?_
  (repeat (first | (refine dw_seq ?_) | (refine dw_block ?_) | ((first | (refine dw_reg (N := 6) rfl (by kernel_rfl) ?_) | (refine dw_skip ?_) | (refine dw_exit ?_)); simp (decide := true) only [go_sem, reduceIte, reduceCtorEq, Nat.reduceEqDiff, Nat.reduceAdd, Nat.reduceMul, Nat.reduceSub, Nat.reduceLeDiff, Nat.reduceBEq])))
  have : (a != a) = false := by simp
  refine dw_ret ?_; simp (decide := true) only [go_sem, reduceIte, reduceCtorEq, Nat.reduceEqDiff, Nat.reduceAdd, Nat.reduceMul, Nat.reduceSub, Nat.reduceLeDiff, Nat.reduceBEq, this]

--F58
theorem isNaNs_D (a : ByteArray) : DCalls Try.prog 58 [dv (ls a)] (dv (lb false)) := by
  refine dcalls (N := 6) (rs := [.tmp 2]) (by kernel_rfl) Try.func58 rfl rfl rfl (by simp) ?_
  (repeat (first | (refine dw_seq ?_) | (refine dw_block ?_) | ((first | (refine dw_reg (N := 6) rfl (by kernel_rfl) ?_) | (refine dw_skip ?_) | (refine dw_exit ?_)); simp (decide := true) only [go_sem, reduceIte, reduceCtorEq, Nat.reduceEqDiff, Nat.reduceAdd, Nat.reduceMul, Nat.reduceSub, Nat.reduceLeDiff, Nat.reduceBEq])))
  refine dw_ret ?_; simp (decide := true) only [go_sem, reduceIte, reduceCtorEq, Nat.reduceEqDiff, Nat.reduceAdd, Nat.reduceMul, Nat.reduceSub, Nat.reduceLeDiff, Nat.reduceBEq, beq_bytes_refl a]

def cmpI (a b : Int) : Int := if a < b then -1 else if b < a then 1 else 0
def cmpS (a b : ByteArray) : Int := if strLt a b then -1 else if a == b then 0 else 1

--F49
theorem cmpI_D (a b : Int) : DCalls Try.prog 49 [dv (li a), dv (li b)] (dv (li (cmpI a b))) := by
  refine dcalls (N := 20) (rs := [.tmp 4]) (by kernel_rfl) Try.func49 rfl rfl rfl (by simp) ?_
  (repeat (first | (refine dw_seq ?_) | (refine dw_block ?_) | ((first | (refine dw_reg (N := 20) rfl (by kernel_rfl) ?_) | (refine dw_skip ?_) | (refine dw_exit ?_)); simp (decide := true) only [go_sem, reduceIte, reduceCtorEq, Nat.reduceEqDiff, Nat.reduceAdd, Nat.reduceMul, Nat.reduceSub, Nat.reduceLeDiff, Nat.reduceBEq])))
  refine CallC.mk (isNaNi_D a) (LeL.of_eq rfl) ?_
  simp (decide := true) only [go_sem, reduceIte, reduceCtorEq, Nat.reduceEqDiff, Nat.reduceAdd, Nat.reduceMul, Nat.reduceSub, Nat.reduceLeDiff, Nat.reduceBEq]
  (repeat (first | (refine dw_seq ?_) | (refine dw_block ?_) | ((first | (refine dw_reg (N := 20) rfl (by kernel_rfl) ?_) | (refine dw_skip ?_) | (refine dw_exit ?_)); simp (decide := true) only [go_sem, reduceIte, reduceCtorEq, Nat.reduceEqDiff, Nat.reduceAdd, Nat.reduceMul, Nat.reduceSub, Nat.reduceLeDiff, Nat.reduceBEq])))
  refine CallC.mk (isNaNi_D b) (LeL.of_eq rfl) ?_
  simp (decide := true) only [go_sem, reduceIte, reduceCtorEq, Nat.reduceEqDiff, Nat.reduceAdd, Nat.reduceMul, Nat.reduceSub, Nat.reduceLeDiff, Nat.reduceBEq]
  (repeat (first | (refine dw_seq ?_) | (refine dw_block ?_) | ((first | (refine dw_reg (N := 20) rfl (by kernel_rfl) ?_) | (refine dw_skip ?_) | (refine dw_exit ?_)); simp (decide := true) only [go_sem, reduceIte, reduceCtorEq, Nat.reduceEqDiff, Nat.reduceAdd, Nat.reduceMul, Nat.reduceSub, Nat.reduceLeDiff, Nat.reduceBEq])))
  apply dw_cond; (simp (decide := true) only [go_sem, reduceIte, reduceCtorEq, Nat.reduceEqDiff, Nat.reduceAdd, Nat.reduceMul, Nat.reduceSub, Nat.reduceLeDiff, Nat.reduceBEq]; rfl)
  · simp
  intro _
  (repeat (first | (refine dw_seq ?_) | (refine dw_block ?_) | ((first | (refine dw_reg (N := 20) rfl (by kernel_rfl) ?_) | (refine dw_skip ?_) | (refine dw_exit ?_)); simp (decide := true) only [go_sem, reduceIte, reduceCtorEq, Nat.reduceEqDiff, Nat.reduceAdd, Nat.reduceMul, Nat.reduceSub, Nat.reduceLeDiff, Nat.reduceBEq])))
  apply dw_cond; (simp (decide := true) only [go_sem, reduceIte, reduceCtorEq, Nat.reduceEqDiff, Nat.reduceAdd, Nat.reduceMul, Nat.reduceSub, Nat.reduceLeDiff, Nat.reduceBEq]; rfl)
  · simp
  intro _
  (repeat (first | (refine dw_seq ?_) | (refine dw_block ?_) | ((first | (refine dw_reg (N := 20) rfl (by kernel_rfl) ?_) | (refine dw_skip ?_) | (refine dw_exit ?_)); simp (decide := true) only [go_sem, reduceIte, reduceCtorEq, Nat.reduceEqDiff, Nat.reduceAdd, Nat.reduceMul, Nat.reduceSub, Nat.reduceLeDiff, Nat.reduceBEq])))
  apply dw_cond; (simp (decide := true) only [go_sem, reduceIte, reduceCtorEq, Nat.reduceEqDiff, Nat.reduceAdd, Nat.reduceMul, Nat.reduceSub, Nat.reduceLeDiff, Nat.reduceBEq]; rfl)
  · intro h1
    have h1' : a < b := by simpa using h1
    (repeat (first | (refine dw_seq ?_) | (refine dw_block ?_) | ((first | (refine dw_reg (N := 20) rfl (by kernel_rfl) ?_) | (refine dw_skip ?_) | (refine dw_exit ?_)); simp (decide := true) only [go_sem, reduceIte, reduceCtorEq, Nat.reduceEqDiff, Nat.reduceAdd, Nat.reduceMul, Nat.reduceSub, Nat.reduceLeDiff, Nat.reduceBEq])))
    refine dw_ret ?_; simp (decide := true) only [go_sem, reduceIte, reduceCtorEq, Nat.reduceEqDiff, Nat.reduceAdd, Nat.reduceMul, Nat.reduceSub, Nat.reduceLeDiff, Nat.reduceBEq]
    simp [cmpI, h1']
  intro h1
  have h1' : ¬ a < b := by simpa using h1
  (repeat (first | (refine dw_seq ?_) | (refine dw_block ?_) | ((first | (refine dw_reg (N := 20) rfl (by kernel_rfl) ?_) | (refine dw_skip ?_) | (refine dw_exit ?_)); simp (decide := true) only [go_sem, reduceIte, reduceCtorEq, Nat.reduceEqDiff, Nat.reduceAdd, Nat.reduceMul, Nat.reduceSub, Nat.reduceLeDiff, Nat.reduceBEq])))
  apply dw_cond; (simp (decide := true) only [go_sem, reduceIte, reduceCtorEq, Nat.reduceEqDiff, Nat.reduceAdd, Nat.reduceMul, Nat.reduceSub, Nat.reduceLeDiff, Nat.reduceBEq]; rfl)
  · intro h2
    have h2' : b < a := by simpa using h2
    (repeat (first | (refine dw_seq ?_) | (refine dw_block ?_) | ((first | (refine dw_reg (N := 20) rfl (by kernel_rfl) ?_) | (refine dw_skip ?_) | (refine dw_exit ?_)); simp (decide := true) only [go_sem, reduceIte, reduceCtorEq, Nat.reduceEqDiff, Nat.reduceAdd, Nat.reduceMul, Nat.reduceSub, Nat.reduceLeDiff, Nat.reduceBEq])))
    refine dw_ret ?_; simp (decide := true) only [go_sem, reduceIte, reduceCtorEq, Nat.reduceEqDiff, Nat.reduceAdd, Nat.reduceMul, Nat.reduceSub, Nat.reduceLeDiff, Nat.reduceBEq]
    simp [cmpI, h1', h2']
  intro h2
  have h2' : ¬ b < a := by simpa using h2
  (repeat (first | (refine dw_seq ?_) | (refine dw_block ?_) | ((first | (refine dw_reg (N := 20) rfl (by kernel_rfl) ?_) | (refine dw_skip ?_) | (refine dw_exit ?_)); simp (decide := true) only [go_sem, reduceIte, reduceCtorEq, Nat.reduceEqDiff, Nat.reduceAdd, Nat.reduceMul, Nat.reduceSub, Nat.reduceLeDiff, Nat.reduceBEq])))
  refine dw_ret ?_; simp (decide := true) only [go_sem, reduceIte, reduceCtorEq, Nat.reduceEqDiff, Nat.reduceAdd, Nat.reduceMul, Nat.reduceSub, Nat.reduceLeDiff, Nat.reduceBEq]
  simp [cmpI, h1', h2']

--F50
theorem cmpS_D (a b : ByteArray) : DCalls Try.prog 50 [dv (ls a), dv (ls b)] (dv (li (cmpS a b))) := by
  refine dcalls (N := 20) (rs := [.tmp 4]) (by kernel_rfl) Try.func50 rfl rfl rfl (by simp) ?_
  (repeat (first | (refine dw_seq ?_) | (refine dw_block ?_) | ((first | (refine dw_reg (N := 20) rfl (by kernel_rfl) ?_) | (refine dw_skip ?_) | (refine dw_exit ?_)); simp (decide := true) only [go_sem, reduceIte, reduceCtorEq, Nat.reduceEqDiff, Nat.reduceAdd, Nat.reduceMul, Nat.reduceSub, Nat.reduceLeDiff, Nat.reduceBEq])))
  refine CallC.mk (isNaNs_D a) (LeL.of_eq rfl) ?_
  simp (decide := true) only [go_sem, reduceIte, reduceCtorEq, Nat.reduceEqDiff, Nat.reduceAdd, Nat.reduceMul, Nat.reduceSub, Nat.reduceLeDiff, Nat.reduceBEq]
  (repeat (first | (refine dw_seq ?_) | (refine dw_block ?_) | ((first | (refine dw_reg (N := 20) rfl (by kernel_rfl) ?_) | (refine dw_skip ?_) | (refine dw_exit ?_)); simp (decide := true) only [go_sem, reduceIte, reduceCtorEq, Nat.reduceEqDiff, Nat.reduceAdd, Nat.reduceMul, Nat.reduceSub, Nat.reduceLeDiff, Nat.reduceBEq])))
  refine CallC.mk (isNaNs_D b) (LeL.of_eq rfl) ?_
  simp (decide := true) only [go_sem, reduceIte, reduceCtorEq, Nat.reduceEqDiff, Nat.reduceAdd, Nat.reduceMul, Nat.reduceSub, Nat.reduceLeDiff, Nat.reduceBEq]
  (repeat (first | (refine dw_seq ?_) | (refine dw_block ?_) | ((first | (refine dw_reg (N := 20) rfl (by kernel_rfl) ?_) | (refine dw_skip ?_) | (refine dw_exit ?_)); simp (decide := true) only [go_sem, reduceIte, reduceCtorEq, Nat.reduceEqDiff, Nat.reduceAdd, Nat.reduceMul, Nat.reduceSub, Nat.reduceLeDiff, Nat.reduceBEq])))
  apply dw_cond; (simp (decide := true) only [go_sem, reduceIte, reduceCtorEq, Nat.reduceEqDiff, Nat.reduceAdd, Nat.reduceMul, Nat.reduceSub, Nat.reduceLeDiff, Nat.reduceBEq]; rfl)
  · simp
  intro _
  (repeat (first | (refine dw_seq ?_) | (refine dw_block ?_) | ((first | (refine dw_reg (N := 20) rfl (by kernel_rfl) ?_) | (refine dw_skip ?_) | (refine dw_exit ?_)); simp (decide := true) only [go_sem, reduceIte, reduceCtorEq, Nat.reduceEqDiff, Nat.reduceAdd, Nat.reduceMul, Nat.reduceSub, Nat.reduceLeDiff, Nat.reduceBEq])))
  apply dw_cond; (simp (decide := true) only [go_sem, reduceIte, reduceCtorEq, Nat.reduceEqDiff, Nat.reduceAdd, Nat.reduceMul, Nat.reduceSub, Nat.reduceLeDiff, Nat.reduceBEq]; rfl)
  · simp
  intro _
  (repeat (first | (refine dw_seq ?_) | (refine dw_block ?_) | ((first | (refine dw_reg (N := 20) rfl (by kernel_rfl) ?_) | (refine dw_skip ?_) | (refine dw_exit ?_)); simp (decide := true) only [go_sem, reduceIte, reduceCtorEq, Nat.reduceEqDiff, Nat.reduceAdd, Nat.reduceMul, Nat.reduceSub, Nat.reduceLeDiff, Nat.reduceBEq])))
  apply dw_cond; (simp (decide := true) only [go_sem, reduceIte, reduceCtorEq, Nat.reduceEqDiff, Nat.reduceAdd, Nat.reduceMul, Nat.reduceSub, Nat.reduceLeDiff, Nat.reduceBEq]; rfl)
  · intro h1
    (repeat (first | (refine dw_seq ?_) | (refine dw_block ?_) | ((first | (refine dw_reg (N := 20) rfl (by kernel_rfl) ?_) | (refine dw_skip ?_) | (refine dw_exit ?_)); simp (decide := true) only [go_sem, reduceIte, reduceCtorEq, Nat.reduceEqDiff, Nat.reduceAdd, Nat.reduceMul, Nat.reduceSub, Nat.reduceLeDiff, Nat.reduceBEq])))
    refine dw_ret ?_; simp (decide := true) only [go_sem, reduceIte, reduceCtorEq, Nat.reduceEqDiff, Nat.reduceAdd, Nat.reduceMul, Nat.reduceSub, Nat.reduceLeDiff, Nat.reduceBEq]
    simp [cmpS, h1]
  intro h1
  (repeat (first | (refine dw_seq ?_) | (refine dw_block ?_) | ((first | (refine dw_reg (N := 20) rfl (by kernel_rfl) ?_) | (refine dw_skip ?_) | (refine dw_exit ?_)); simp (decide := true) only [go_sem, reduceIte, reduceCtorEq, Nat.reduceEqDiff, Nat.reduceAdd, Nat.reduceMul, Nat.reduceSub, Nat.reduceLeDiff, Nat.reduceBEq])))
  apply dw_cond; (simp (decide := true) only [go_sem, reduceIte, reduceCtorEq, Nat.reduceEqDiff, Nat.reduceAdd, Nat.reduceMul, Nat.reduceSub, Nat.reduceLeDiff, Nat.reduceBEq]; rfl)
  · intro h2
    have h2' : (a == b) = false := by simpa [h1] using h2
    (repeat (first | (refine dw_seq ?_) | (refine dw_block ?_) | ((first | (refine dw_reg (N := 20) rfl (by kernel_rfl) ?_) | (refine dw_skip ?_) | (refine dw_exit ?_)); simp (decide := true) only [go_sem, reduceIte, reduceCtorEq, Nat.reduceEqDiff, Nat.reduceAdd, Nat.reduceMul, Nat.reduceSub, Nat.reduceLeDiff, Nat.reduceBEq])))
    refine dw_ret ?_; simp (decide := true) only [go_sem, reduceIte, reduceCtorEq, Nat.reduceEqDiff, Nat.reduceAdd, Nat.reduceMul, Nat.reduceSub, Nat.reduceLeDiff, Nat.reduceBEq]
    simp [cmpS, h1, h2']
  intro h2
  have h2' : (a == b) = true := by simpa [h1] using h2
  (repeat (first | (refine dw_seq ?_) | (refine dw_block ?_) | ((first | (refine dw_reg (N := 20) rfl (by kernel_rfl) ?_) | (refine dw_skip ?_) | (refine dw_exit ?_)); simp (decide := true) only [go_sem, reduceIte, reduceCtorEq, Nat.reduceEqDiff, Nat.reduceAdd, Nat.reduceMul, Nat.reduceSub, Nat.reduceLeDiff, Nat.reduceBEq])))
  refine dw_ret ?_; simp (decide := true) only [go_sem, reduceIte, reduceCtorEq, Nat.reduceEqDiff, Nat.reduceAdd, Nat.reduceMul, Nat.reduceSub, Nat.reduceLeDiff, Nat.reduceBEq]
  simp [cmpS, h1, h2']

def firstNZ : List Int → Int
  | [] => 0
  | x :: l => if x = 0 then firstNZ l else x

theorem firstNZ_drop (xs : List Int) : ∀ k, (∀ j < k, xs[j]? = some 0 ∨ xs[j]? = none) → firstNZ (xs.drop k) = firstNZ xs := by
  intro k
  induction k generalizing xs with
  | zero => intro _; simp
  | succ k ih =>
    intro h
    cases xs with
    | nil => simp
    | cons x l =>
      have h0 := h 0 (by omega)
      simp at h0
      subst h0
      simp only [List.drop_succ_cons, firstNZ, if_true]
      exact ih l fun j hj => by simpa using h (j + 1) (by omega)

--F48
set_option maxRecDepth 10000 in
theorem or_D (xs : List Int) (hx : xs.length ≤ maxLen) : DCalls Try.prog 48 [dv (.sl 1 (xs.map fun x => [li x]))] (dv (li (firstNZ xs))) := by
  refine dcalls (N := 18) (rs := [.tmp 2]) (by kernel_rfl) Try.func48 rfl rfl rfl (by simp) ?_
  (repeat (first | (refine dw_seq ?_) | (refine dw_block ?_) | ((first | (refine dw_reg (N := 18) rfl (by kernel_rfl) ?_) | (refine dw_skip ?_) | (refine dw_exit ?_)); simp (decide := true) only [go_sem, reduceIte, reduceCtorEq, Nat.reduceEqDiff, Nat.reduceAdd, Nat.reduceMul, Nat.reduceSub, Nat.reduceLeDiff, Nat.reduceBEq])))
  refine dw_loop_fam (fun k : Nat => kn 18 [(0, dv (.sl 1 (xs.map fun x => [li x]))), (3, dv (li 0)), (6, dv (.sl 1 (xs.map fun x => [li x]))), (7, dv (li xs.length)), (8, dv (li k))] noMem)
      (fun k => k ≤ xs.length ∧ ∀ j < k, xs[j]? = some 0) (fun k => xs.length - k) 0 (sub_kn rfl (by simp (decide := true) only [go_sem, reduceIte, reduceCtorEq, Nat.reduceEqDiff, Nat.reduceAdd, Nat.reduceMul, Nat.reduceSub, Nat.reduceLeDiff, Nat.reduceBEq]) (by simp [noMem])) ⟨by omega, fun j hj => by omega⟩ ?_
  rintro k ⟨hk, hall⟩
  (repeat (first | (refine dw_seq ?_) | (refine dw_block ?_) | ((first | (refine dw_reg (N := 18) rfl (by kernel_rfl) ?_) | (refine dw_skip ?_) | (refine dw_exit ?_)); simp (decide := true) only [go_sem, reduceIte, reduceCtorEq, Nat.reduceEqDiff, Nat.reduceAdd, Nat.reduceMul, Nat.reduceSub, Nat.reduceLeDiff, Nat.reduceBEq])))
  apply dw_cond; (simp (decide := true) only [go_sem, reduceIte, reduceCtorEq, Nat.reduceEqDiff, Nat.reduceAdd, Nat.reduceMul, Nat.reduceSub, Nat.reduceLeDiff, Nat.reduceBEq]; rfl)
  · intro h1
    have hk' : k < xs.length := by simpa using h1
    obtain ⟨x, hx1⟩ : ∃ x, xs[k]? = some x := ⟨xs[k], List.getElem?_eq_getElem hk'⟩
    (repeat (first | (refine dw_seq ?_) | (refine dw_block ?_) | ((first | (refine dw_reg (N := 18) rfl (by kernel_rfl) ?_) | (refine dw_skip ?_) | (refine dw_exit ?_)); simp (decide := true) only [go_sem, reduceIte, reduceCtorEq, Nat.reduceEqDiff, Nat.reduceAdd, Nat.reduceMul, Nat.reduceSub, Nat.reduceLeDiff, Nat.reduceBEq, hx1])))
    apply dw_cond; (simp (decide := true) only [go_sem, reduceIte, reduceCtorEq, Nat.reduceEqDiff, Nat.reduceAdd, Nat.reduceMul, Nat.reduceSub, Nat.reduceLeDiff, Nat.reduceBEq]; rfl)
    · intro h2
      have hx0 : x ≠ 0 := by simpa using h2
      (repeat (first | (refine dw_seq ?_) | (refine dw_block ?_) | ((first | (refine dw_reg (N := 18) rfl (by kernel_rfl) ?_) | (refine dw_skip ?_) | (refine dw_exit ?_)); simp (decide := true) only [go_sem, reduceIte, reduceCtorEq, Nat.reduceEqDiff, Nat.reduceAdd, Nat.reduceMul, Nat.reduceSub, Nat.reduceLeDiff, Nat.reduceBEq])))
      refine dw_ret ?_; simp (decide := true) only [go_sem, reduceIte, reduceCtorEq, Nat.reduceEqDiff, Nat.reduceAdd, Nat.reduceMul, Nat.reduceSub, Nat.reduceLeDiff, Nat.reduceBEq]
      rw [← firstNZ_drop xs k fun j hj => .inl (hall j hj), List.drop_eq_getElem_cons hk']
      have : xs[k] = x := by rw [List.getElem?_eq_getElem hk'] at hx1; injection hx1
      simp [firstNZ, this, hx0]
    · intro h2
      have hx0 : x = 0 := by simpa using h2
      have hw := wrap_succ k (by omega)
      (repeat (first | (refine dw_seq ?_) | (refine dw_block ?_) | ((first | (refine dw_reg (N := 18) rfl (by kernel_rfl) ?_) | (refine dw_skip ?_) | (refine dw_exit ?_)); simp (decide := true) only [go_sem, reduceIte, reduceCtorEq, Nat.reduceEqDiff, Nat.reduceAdd, Nat.reduceMul, Nat.reduceSub, Nat.reduceLeDiff, Nat.reduceBEq, hw])))
      refine ⟨k + 1, ⟨by omega, fun j hj => ?_⟩, by omega, sub_kn rfl (by simp (decide := true) only [go_sem, reduceIte, reduceCtorEq, Nat.reduceEqDiff, Nat.reduceAdd, Nat.reduceMul, Nat.reduceSub, Nat.reduceLeDiff, Nat.reduceBEq]) (by simp [noMem])⟩
      by_cases hjk : j < k
      · exact hall j hjk
      · obtain rfl : j = k := by omega
        rw [hx1, hx0]
  · intro h1
    have hk' : k = xs.length := by simp at h1; omega
    subst hk'
    (repeat (first | (refine dw_seq ?_) | (refine dw_block ?_) | ((first | (refine dw_reg (N := 18) rfl (by kernel_rfl) ?_) | (refine dw_skip ?_) | (refine dw_exit ?_)); simp (decide := true) only [go_sem, reduceIte, reduceCtorEq, Nat.reduceEqDiff, Nat.reduceAdd, Nat.reduceMul, Nat.reduceSub, Nat.reduceLeDiff, Nat.reduceBEq])))
    refine dw_ret ?_; simp (decide := true) only [go_sem, reduceIte, reduceCtorEq, Nat.reduceEqDiff, Nat.reduceAdd, Nat.reduceMul, Nat.reduceSub, Nat.reduceLeDiff, Nat.reduceBEq]
    rw [← firstNZ_drop xs xs.length fun j hj => .inl (hall j hj)]
    simp [firstNZ]

--F41
theorem byGloss_D (a b : ByteArray) (x y : C) : DCalls Try.prog 41 [.agg [.c (ls a), .c x], .agg [.c (ls b), .c y]] (dv (li (cmpS a b))) := by
  refine dcalls (N := 10) (rs := [.tmp 4]) (by kernel_rfl) Try.func41 rfl rfl rfl (by simp) ?_
  (repeat (first | (refine dw_seq ?_) | (refine dw_block ?_) | ((first | (refine dw_reg (N := 10) rfl (by kernel_rfl) ?_) | (refine dw_skip ?_) | (refine dw_exit ?_)); simp (decide := true) only [go_sem, reduceIte, reduceCtorEq, Nat.reduceEqDiff, Nat.reduceAdd, Nat.reduceMul, Nat.reduceSub, Nat.reduceLeDiff, Nat.reduceBEq])))
  refine CallC.mk (cmpS_D a b) (LeL.of_eq rfl) ?_
  simp (decide := true) only [go_sem, reduceIte, reduceCtorEq, Nat.reduceEqDiff, Nat.reduceAdd, Nat.reduceMul, Nat.reduceSub, Nat.reduceLeDiff, Nat.reduceBEq]
  (repeat (first | (refine dw_seq ?_) | (refine dw_block ?_) | ((first | (refine dw_reg (N := 10) rfl (by kernel_rfl) ?_) | (refine dw_skip ?_) | (refine dw_exit ?_)); simp (decide := true) only [go_sem, reduceIte, reduceCtorEq, Nat.reduceEqDiff, Nat.reduceAdd, Nat.reduceMul, Nat.reduceSub, Nat.reduceLeDiff, Nat.reduceBEq])))
  refine dw_ret ?_; simp (decide := true) only [go_sem, reduceIte, reduceCtorEq, Nat.reduceEqDiff, Nat.reduceAdd, Nat.reduceMul, Nat.reduceSub, Nat.reduceLeDiff, Nat.reduceBEq]

def cmpP (p q : Part) : Int := firstNZ [cmpI p.entry q.entry, cmpI p.alt q.alt, cmpI p.sense q.sense]

--F35
set_option maxRecDepth 10000 in
theorem byPart_D (p q : Part) : DCalls Try.prog 35 [.agg (p.enc.map T.c), .agg (q.enc.map T.c)] (dv (li (cmpP p q))) := by
  refine dcalls (N := 22) (rs := [.tmp 4]) (by kernel_rfl) Try.func35 rfl rfl rfl (by simp) ?_
  (repeat (first | (refine dw_seq ?_) | (refine dw_block ?_) | ((first | (refine dw_reg (N := 22) rfl (by kernel_rfl) ?_) | (apply dw_drw (id := 1) (N := 22) [(0, .light), (1, .light), (2, .light), (3, .light), (4, .light), (5, .light), (6, .light), (7, .light), (8, .light), (9, .light), (10, .light), (11, .light), (12, .light), (13, .light), (14, .step), (15, .light), (16, .step), (17, .light)]; kernel_rfl; rfl; kernel_rfl; (repeat (first | exact Picks.nil | (apply Picks.cons; rfl)))) | (refine dw_skip ?_) | (refine dw_exit ?_)); simp (decide := true) only [go_sem, reduceIte, reduceCtorEq, Nat.reduceEqDiff, Nat.reduceAdd, Nat.reduceMul, Nat.reduceSub, Nat.reduceLeDiff, Nat.reduceBEq, Part.enc])))
  (first | (refine CallC.mk (cmpI_D p.entry q.entry) (LeL.of_eq rfl) ?_) | (refine CallC.light (cmpI_D p.entry q.entry) (LeL.of_eq rfl) ?_)); simp (decide := true) only [go_sem, reduceIte, reduceCtorEq, Nat.reduceEqDiff, Nat.reduceAdd, Nat.reduceMul, Nat.reduceSub, Nat.reduceLeDiff, Nat.reduceBEq]
  (first | (refine CallC.mk (cmpI_D p.alt q.alt) (LeL.of_eq rfl) ?_) | (refine CallC.light (cmpI_D p.alt q.alt) (LeL.of_eq rfl) ?_)); simp (decide := true) only [go_sem, reduceIte, reduceCtorEq, Nat.reduceEqDiff, Nat.reduceAdd, Nat.reduceMul, Nat.reduceSub, Nat.reduceLeDiff, Nat.reduceBEq]
  (first | (refine CallC.mk (cmpI_D p.sense q.sense) (LeL.of_eq rfl) ?_) | (refine CallC.light (cmpI_D p.sense q.sense) (LeL.of_eq rfl) ?_)); simp (decide := true) only [go_sem, reduceIte, reduceCtorEq, Nat.reduceEqDiff, Nat.reduceAdd, Nat.reduceMul, Nat.reduceSub, Nat.reduceLeDiff, Nat.reduceBEq]
  (first | (refine CallC.mk (or_D [cmpI p.entry q.entry, cmpI p.alt q.alt, cmpI p.sense q.sense] (by simp [maxLen])) (LeL.of_eq rfl) ?_) | (refine CallC.light (or_D [cmpI p.entry q.entry, cmpI p.alt q.alt, cmpI p.sense q.sense] (by simp [maxLen])) (LeL.of_eq rfl) ?_)); simp (decide := true) only [go_sem, reduceIte, reduceCtorEq, Nat.reduceEqDiff, Nat.reduceAdd, Nat.reduceMul, Nat.reduceSub, Nat.reduceLeDiff, Nat.reduceBEq]
  refine dw_ret ?_; simp (decide := true) only [go_sem, reduceIte, reduceCtorEq, Nat.reduceEqDiff, Nat.reduceAdd, Nat.reduceMul, Nat.reduceSub, Nat.reduceLeDiff, Nat.reduceBEq]
  rfl
end Go.Proofs.Ytffcabenoakmgaa

/- Contracts of the reference: insert, put, take. -/
namespace Go.Proofs.Ytffcabenoakmgaa
open Go.Dl
attribute [local irreducible] DW DCalls ECalls wk

def Part.lt (p q : Part) : Bool := decide (p.entry < q.entry) || (p.entry == q.entry && decide (p.sense < q.sense))

theorem less_P (p q : Part) : DCalls Try.prog 36 [.agg (p.enc.map T.c), .agg (q.enc.map T.c)] (dv (lb (p.lt q))) := less_D _ _ _ _ _ _

theorem part_ext (p q : Part) : p = q ↔ p.entry = q.entry ∧ p.alt = q.alt ∧ p.sense = q.sense := by
  cases p; cases q; simp

theorem part_eq (p q : Part) : (p.entry == q.entry && (p.alt == q.alt && (p.sense == q.sense && true))) = decide (p = q) := by
  cases p; cases q; simp [Part.mk.injEq, Bool.decide_and]; rfl

/-- The parts below p. -/
def lows (l : List Part) (p : Part) : Nat := (l.takeWhile (·.lt p)).length

def ins (l : List Part) (p : Part) : List Part :=
  l.take (lows l p) ++ p :: l.drop (if l[lows l p]? = some p then lows l p + 1 else lows l p)

theorem lows_eq (l : List Part) (p : Part) (k : Nat) (h1 : ∀ (j : Nat) q, j < k → l[j]? = some q → q.lt p = true) (hk : k ≤ l.length) (h2 : ∀ q, l[k]? = some q → q.lt p = false) : lows l p = k := by
  induction l generalizing k with
  | nil => simp at hk; subst hk; rfl
  | cons a l ih =>
    cases k with
    | zero =>
      have := h2 a rfl
      simp [lows, this]
    | succ k =>
      have ha := h1 0 a (by omega) rfl
      have := ih k (fun j q hj hq => h1 (j + 1) q (by omega) (by simpa using hq)) (by simpa using hk) (fun q hq => h2 q (by simpa using hq))
      simp only [lows] at this
      simp [lows, ha, this]

--F47
set_option maxRecDepth 10000 in
set_option maxHeartbeats 2000000 in
theorem insert_D (l : List Part) (p : Part) (hl : l.length ≤ 1000000) : DCalls Try.prog 47 [dv (.sl 3 (l.map Part.enc)), .agg (p.enc.map T.c)] (.one (.own 0 3 ((ins l p).map Part.enc))) := by
  have hmax : (1000000 : Nat) < maxLen := by simp [maxLen]
  have htl : List.take l.length (List.map Part.enc l) = List.map Part.enc l := List.take_of_length_le (by simp)
  refine DCalls.own0 (n := 5) ?_
  refine dcalls (N := 51) (rs := [.tmp 4]) (by kernel_rfl) Try.func47 rfl rfl rfl (by simp) ?_
  (repeat (first | (refine dw_seq ?_) | (refine dw_block ?_) | ((first | (refine dw_reg (N := 51) rfl (by kernel_rfl) ?_) | (apply dw_drw (id := 3) (N := 51) [(0, .light), (1, .light), (2, .light), (3, .light), (4, .light), (5, .light), (6, .light), (7, .light), (8, .light), (9, .light), (10, .step), (11, .light)]; kernel_rfl; rfl; kernel_rfl; (repeat (first | exact Picks.nil | (apply Picks.cons; rfl)))) | (apply dw_drw (id := 7) (N := 51) [(0, .light), (1, .light), (2, .light), (3, .light), (4, .light), (5, .light), (6, .light), (7, .light), (8, .light), (9, .light), (10, .light), (11, .light)]; kernel_rfl; rfl; kernel_rfl; (repeat (first | exact Picks.nil | (apply Picks.cons; rfl)))) | (refine dw_skip ?_) | (refine dw_exit ?_)); simp (decide := true) only [go_sem, reduceIte, reduceCtorEq, Nat.reduceEqDiff, Nat.reduceAdd, Nat.reduceMul, Nat.reduceSub, Nat.reduceLeDiff, Nat.reduceBEq, Part.enc])))
  refine dw_own 5 5 3 (by simp (decide := true) only [go_sem, reduceIte, reduceCtorEq, Nat.reduceEqDiff, Nat.reduceAdd, Nat.reduceMul, Nat.reduceSub, Nat.reduceLeDiff, Nat.reduceBEq]) ?_
  refine dw_loop_fam (fun k : Nat => kn 51 [(0, dv (.sl 3 (l.map Part.enc))), (3, .one (.bx 3 3 0 0)), (5, .one (.own 5 3 ((l.take k).map Part.enc))), (6, dv (li k))] (ml [(3, [p.enc.map T.c])]))
      (fun k => k ≤ l.length ∧ ∀ (j : Nat) q, j < k → l[j]? = some q → q.lt p = true) (fun k => l.length - k) 0 (sub_ml rfl (by simp (decide := true) only [go_sem, reduceIte, reduceCtorEq, Nat.reduceEqDiff, Nat.reduceAdd, Nat.reduceMul, Nat.reduceSub, Nat.reduceLeDiff, Nat.reduceBEq]) (by simp (decide := true) only [go_sem, reduceIte, reduceCtorEq, Nat.reduceEqDiff, Nat.reduceAdd, Nat.reduceMul, Nat.reduceSub, Nat.reduceLeDiff, Nat.reduceBEq, Part.enc])) ⟨by omega, fun j q hj => by omega⟩ ?_
  rintro k ⟨hk, hall⟩
  rcases Nat.lt_or_ge k l.length with hlt | hge
  · obtain ⟨x, hx1⟩ : ∃ x, l[k]? = some x := ⟨l[k], List.getElem?_eq_getElem hlt⟩
    have hd : decide ((k : Int) < (l.length : Int)) = true := by simpa using hlt
    have hw := wrap_succ k (by omega)
    have htk : List.map Part.enc (l.take (k + 1)) = List.map Part.enc (l.take k) ++ [[li x.entry, li x.alt, li x.sense]] := by
      rw [List.take_add_one, hx1]; simp [Part.enc]
    have hlk : (l.take k).length = k := by simp; omega
    (repeat (first | (refine dw_seq ?_) | (refine dw_block ?_) | ((first | (refine dw_reg (N := 51) rfl (by kernel_rfl) ?_) | (apply dw_drw (id := 3) (N := 51) [(0, .light), (1, .light), (2, .light), (3, .light), (4, .light), (5, .light), (6, .light), (7, .light), (8, .light), (9, .light), (10, .step), (11, .light)]; kernel_rfl; rfl; kernel_rfl; (repeat (first | exact Picks.nil | (apply Picks.cons; rfl)))) | (apply dw_drw (id := 7) (N := 51) [(0, .light), (1, .light), (2, .light), (3, .light), (4, .light), (5, .light), (6, .light), (7, .light), (8, .light), (9, .light), (10, .light), (11, .light)]; kernel_rfl; rfl; kernel_rfl; (repeat (first | exact Picks.nil | (apply Picks.cons; rfl)))) | (refine dw_skip ?_) | (refine dw_exit ?_)); simp (decide := true) only [go_sem, reduceIte, reduceCtorEq, Nat.reduceEqDiff, Nat.reduceAdd, Nat.reduceMul, Nat.reduceSub, Nat.reduceLeDiff, Nat.reduceBEq, hx1, hd, Part.enc])))
    (first | (refine CallC.mk (less_P x p) (LeL.of_eq rfl) ?_) | (refine CallC.light (less_P x p) (LeL.of_eq rfl) ?_)); simp (decide := true) only [go_sem, reduceIte, reduceCtorEq, Nat.reduceEqDiff, Nat.reduceAdd, Nat.reduceMul, Nat.reduceSub, Nat.reduceLeDiff, Nat.reduceBEq]
    apply dw_cond; (simp (decide := true) only [go_sem, reduceIte, reduceCtorEq, Nat.reduceEqDiff, Nat.reduceAdd, Nat.reduceMul, Nat.reduceSub, Nat.reduceLeDiff, Nat.reduceBEq]; rfl)
    · intro h1
      (repeat (first | (refine dw_seq ?_) | (refine dw_block ?_) | ((first | (refine dw_reg (N := 51) rfl (by kernel_rfl) ?_) | (apply dw_drw (id := 3) (N := 51) [(0, .light), (1, .light), (2, .light), (3, .light), (4, .light), (5, .light), (6, .light), (7, .light), (8, .light), (9, .light), (10, .step), (11, .light)]; kernel_rfl; rfl; kernel_rfl; (repeat (first | exact Picks.nil | (apply Picks.cons; rfl)))) | (apply dw_drw (id := 7) (N := 51) [(0, .light), (1, .light), (2, .light), (3, .light), (4, .light), (5, .light), (6, .light), (7, .light), (8, .light), (9, .light), (10, .light), (11, .light)]; kernel_rfl; rfl; kernel_rfl; (repeat (first | exact Picks.nil | (apply Picks.cons; rfl)))) | (refine dw_skip ?_) | (refine dw_exit ?_)); simp (decide := true) only [go_sem, reduceIte, reduceCtorEq, Nat.reduceEqDiff, Nat.reduceAdd, Nat.reduceMul, Nat.reduceSub, Nat.reduceLeDiff, Nat.reduceBEq, hx1, hd, Part.enc, hw, hlk])))
      refine ⟨by omega, ?_⟩
      (repeat (first | (refine dw_seq ?_) | (refine dw_block ?_) | ((first | (refine dw_reg (N := 51) rfl (by kernel_rfl) ?_) | (apply dw_drw (id := 3) (N := 51) [(0, .light), (1, .light), (2, .light), (3, .light), (4, .light), (5, .light), (6, .light), (7, .light), (8, .light), (9, .light), (10, .step), (11, .light)]; kernel_rfl; rfl; kernel_rfl; (repeat (first | exact Picks.nil | (apply Picks.cons; rfl)))) | (apply dw_drw (id := 7) (N := 51) [(0, .light), (1, .light), (2, .light), (3, .light), (4, .light), (5, .light), (6, .light), (7, .light), (8, .light), (9, .light), (10, .light), (11, .light)]; kernel_rfl; rfl; kernel_rfl; (repeat (first | exact Picks.nil | (apply Picks.cons; rfl)))) | (refine dw_skip ?_) | (refine dw_exit ?_)); simp (decide := true) only [go_sem, reduceIte, reduceCtorEq, Nat.reduceEqDiff, Nat.reduceAdd, Nat.reduceMul, Nat.reduceSub, Nat.reduceLeDiff, Nat.reduceBEq, hx1, hd, Part.enc, hw, hlk])))
      refine ⟨k + 1, ⟨by omega, fun j q hj hq => ?_⟩, by omega, sub_ml rfl (by simp (decide := true) only [go_sem, reduceIte, reduceCtorEq, Nat.reduceEqDiff, Nat.reduceAdd, Nat.reduceMul, Nat.reduceSub, Nat.reduceLeDiff, Nat.reduceBEq, htk]) (by simp (decide := true) only [go_sem, reduceIte, reduceCtorEq, Nat.reduceEqDiff, Nat.reduceAdd, Nat.reduceMul, Nat.reduceSub, Nat.reduceLeDiff, Nat.reduceBEq, Part.enc])⟩
      by_cases hjk : j < k
      · exact hall j q hjk hq
      · obtain rfl : j = k := by omega
        rw [hx1] at hq; injection hq with hq; subst hq; exact h1
    · intro h1
      have hins : lows l p = k := lows_eq l p k hall hk fun q hq => by rw [hx1] at hq; injection hq with hq; subst hq; exact h1
      (repeat (first | (refine dw_seq ?_) | (refine dw_block ?_) | ((first | (refine dw_reg (N := 51) rfl (by kernel_rfl) ?_) | (apply dw_drw (id := 3) (N := 51) [(0, .light), (1, .light), (2, .light), (3, .light), (4, .light), (5, .light), (6, .light), (7, .light), (8, .light), (9, .light), (10, .step), (11, .light)]; kernel_rfl; rfl; kernel_rfl; (repeat (first | exact Picks.nil | (apply Picks.cons; rfl)))) | (apply dw_drw (id := 7) (N := 51) [(0, .light), (1, .light), (2, .light), (3, .light), (4, .light), (5, .light), (6, .light), (7, .light), (8, .light), (9, .light), (10, .light), (11, .light)]; kernel_rfl; rfl; kernel_rfl; (repeat (first | exact Picks.nil | (apply Picks.cons; rfl)))) | (refine dw_skip ?_) | (refine dw_exit ?_)); simp (decide := true) only [go_sem, reduceIte, reduceCtorEq, Nat.reduceEqDiff, Nat.reduceAdd, Nat.reduceMul, Nat.reduceSub, Nat.reduceLeDiff, Nat.reduceBEq, hx1, hd, Part.enc, hw, hlk])))
      refine ⟨by omega, ?_⟩
      (repeat (first | (refine dw_seq ?_) | (refine dw_block ?_) | ((first | (refine dw_reg (N := 51) rfl (by kernel_rfl) ?_) | (apply dw_drw (id := 3) (N := 51) [(0, .light), (1, .light), (2, .light), (3, .light), (4, .light), (5, .light), (6, .light), (7, .light), (8, .light), (9, .light), (10, .step), (11, .light)]; kernel_rfl; rfl; kernel_rfl; (repeat (first | exact Picks.nil | (apply Picks.cons; rfl)))) | (apply dw_drw (id := 7) (N := 51) [(0, .light), (1, .light), (2, .light), (3, .light), (4, .light), (5, .light), (6, .light), (7, .light), (8, .light), (9, .light), (10, .light), (11, .light)]; kernel_rfl; rfl; kernel_rfl; (repeat (first | exact Picks.nil | (apply Picks.cons; rfl)))) | (refine dw_skip ?_) | (refine dw_exit ?_)); simp (decide := true) only [go_sem, reduceIte, reduceCtorEq, Nat.reduceEqDiff, Nat.reduceAdd, Nat.reduceMul, Nat.reduceSub, Nat.reduceLeDiff, Nat.reduceBEq, hx1, hd, Part.enc, hw, hlk])))
      apply dw_cond; (simp (decide := true) only [go_sem, reduceIte, reduceCtorEq, Nat.reduceEqDiff, Nat.reduceAdd, Nat.reduceMul, Nat.reduceSub, Nat.reduceLeDiff, Nat.reduceBEq]; rfl)
      · intro h2
        have hxp : x = p := (part_ext x p).2 (by simpa using h2)
        have hk1 : k + 1 ≤ l.length := hlt
        (repeat (first | (refine dw_seq ?_) | (refine dw_block ?_) | ((first | (refine dw_reg (N := 51) rfl (by kernel_rfl) ?_) | (apply dw_drw (id := 3) (N := 51) [(0, .light), (1, .light), (2, .light), (3, .light), (4, .light), (5, .light), (6, .light), (7, .light), (8, .light), (9, .light), (10, .step), (11, .light)]; kernel_rfl; rfl; kernel_rfl; (repeat (first | exact Picks.nil | (apply Picks.cons; rfl)))) | (apply dw_drw (id := 7) (N := 51) [(0, .light), (1, .light), (2, .light), (3, .light), (4, .light), (5, .light), (6, .light), (7, .light), (8, .light), (9, .light), (10, .light), (11, .light)]; kernel_rfl; rfl; kernel_rfl; (repeat (first | exact Picks.nil | (apply Picks.cons; rfl)))) | (refine dw_skip ?_) | (refine dw_exit ?_)); simp (decide := true) only [go_sem, reduceIte, reduceCtorEq, Nat.reduceEqDiff, Nat.reduceAdd, Nat.reduceMul, Nat.reduceSub, Nat.reduceLeDiff, Nat.reduceBEq, hx1, hd, Part.enc, hw, hlk, hk1, htl])))
        refine ⟨by simp; omega, ?_⟩
        refine dw_ret ?_; simp (decide := true) only [go_sem, reduceIte, reduceCtorEq, Nat.reduceEqDiff, Nat.reduceAdd, Nat.reduceMul, Nat.reduceSub, Nat.reduceLeDiff, Nat.reduceBEq, ins, hins]
        simp [hx1, hxp, List.map_take, List.map_drop, Part.enc]
      · intro h2
        have hxp : ¬ x = p := fun e => by simp [(part_ext x p).1 e] at h2
        (repeat (first | (refine dw_seq ?_) | (refine dw_block ?_) | ((first | (refine dw_reg (N := 51) rfl (by kernel_rfl) ?_) | (apply dw_drw (id := 3) (N := 51) [(0, .light), (1, .light), (2, .light), (3, .light), (4, .light), (5, .light), (6, .light), (7, .light), (8, .light), (9, .light), (10, .step), (11, .light)]; kernel_rfl; rfl; kernel_rfl; (repeat (first | exact Picks.nil | (apply Picks.cons; rfl)))) | (apply dw_drw (id := 7) (N := 51) [(0, .light), (1, .light), (2, .light), (3, .light), (4, .light), (5, .light), (6, .light), (7, .light), (8, .light), (9, .light), (10, .light), (11, .light)]; kernel_rfl; rfl; kernel_rfl; (repeat (first | exact Picks.nil | (apply Picks.cons; rfl)))) | (refine dw_skip ?_) | (refine dw_exit ?_)); simp (decide := true) only [go_sem, reduceIte, reduceCtorEq, Nat.reduceEqDiff, Nat.reduceAdd, Nat.reduceMul, Nat.reduceSub, Nat.reduceLeDiff, Nat.reduceBEq, hx1, hd, Part.enc, hw, hlk, hk, htl])))
        refine ⟨by simp; omega, ?_⟩
        refine dw_ret ?_; simp (decide := true) only [go_sem, reduceIte, reduceCtorEq, Nat.reduceEqDiff, Nat.reduceAdd, Nat.reduceMul, Nat.reduceSub, Nat.reduceLeDiff, Nat.reduceBEq, ins, hins]
        simp [hx1, hxp, List.map_take, List.map_drop, Part.enc]
  · have hd : decide ((k : Int) < (l.length : Int)) = false := by simpa using hge
    have hkl : k = l.length := by omega
    have hins : lows l p = k := lows_eq l p k hall hk fun q hq => by rw [List.getElem?_eq_none (by omega)] at hq; cases hq
    have hlk : (l.take k).length = k := by simp; omega
    (repeat (first | (refine dw_seq ?_) | (refine dw_block ?_) | ((first | (refine dw_reg (N := 51) rfl (by kernel_rfl) ?_) | (apply dw_drw (id := 3) (N := 51) [(0, .light), (1, .light), (2, .light), (3, .light), (4, .light), (5, .light), (6, .light), (7, .light), (8, .light), (9, .light), (10, .step), (11, .light)]; kernel_rfl; rfl; kernel_rfl; (repeat (first | exact Picks.nil | (apply Picks.cons; rfl)))) | (apply dw_drw (id := 7) (N := 51) [(0, .light), (1, .light), (2, .light), (3, .light), (4, .light), (5, .light), (6, .light), (7, .light), (8, .light), (9, .light), (10, .light), (11, .light)]; kernel_rfl; rfl; kernel_rfl; (repeat (first | exact Picks.nil | (apply Picks.cons; rfl)))) | (refine dw_skip ?_) | (refine dw_exit ?_)); simp (decide := true) only [go_sem, reduceIte, reduceCtorEq, Nat.reduceEqDiff, Nat.reduceAdd, Nat.reduceMul, Nat.reduceSub, Nat.reduceLeDiff, Nat.reduceBEq, hd, Part.enc])))
    apply dw_cond; (simp (decide := true) only [go_sem, reduceIte, reduceCtorEq, Nat.reduceEqDiff, Nat.reduceAdd, Nat.reduceMul, Nat.reduceSub, Nat.reduceLeDiff, Nat.reduceBEq]; rfl)
    · simp
    intro _
    (repeat (first | (refine dw_seq ?_) | (refine dw_block ?_) | ((first | (refine dw_reg (N := 51) rfl (by kernel_rfl) ?_) | (apply dw_drw (id := 3) (N := 51) [(0, .light), (1, .light), (2, .light), (3, .light), (4, .light), (5, .light), (6, .light), (7, .light), (8, .light), (9, .light), (10, .step), (11, .light)]; kernel_rfl; rfl; kernel_rfl; (repeat (first | exact Picks.nil | (apply Picks.cons; rfl)))) | (apply dw_drw (id := 7) (N := 51) [(0, .light), (1, .light), (2, .light), (3, .light), (4, .light), (5, .light), (6, .light), (7, .light), (8, .light), (9, .light), (10, .light), (11, .light)]; kernel_rfl; rfl; kernel_rfl; (repeat (first | exact Picks.nil | (apply Picks.cons; rfl)))) | (refine dw_skip ?_) | (refine dw_exit ?_)); simp (decide := true) only [go_sem, reduceIte, reduceCtorEq, Nat.reduceEqDiff, Nat.reduceAdd, Nat.reduceMul, Nat.reduceSub, Nat.reduceLeDiff, Nat.reduceBEq, hd, Part.enc, hlk])))
    refine ⟨by omega, ?_⟩
    (repeat (first | (refine dw_seq ?_) | (refine dw_block ?_) | ((first | (refine dw_reg (N := 51) rfl (by kernel_rfl) ?_) | (apply dw_drw (id := 3) (N := 51) [(0, .light), (1, .light), (2, .light), (3, .light), (4, .light), (5, .light), (6, .light), (7, .light), (8, .light), (9, .light), (10, .step), (11, .light)]; kernel_rfl; rfl; kernel_rfl; (repeat (first | exact Picks.nil | (apply Picks.cons; rfl)))) | (apply dw_drw (id := 7) (N := 51) [(0, .light), (1, .light), (2, .light), (3, .light), (4, .light), (5, .light), (6, .light), (7, .light), (8, .light), (9, .light), (10, .light), (11, .light)]; kernel_rfl; rfl; kernel_rfl; (repeat (first | exact Picks.nil | (apply Picks.cons; rfl)))) | (refine dw_skip ?_) | (refine dw_exit ?_)); simp (decide := true) only [go_sem, reduceIte, reduceCtorEq, Nat.reduceEqDiff, Nat.reduceAdd, Nat.reduceMul, Nat.reduceSub, Nat.reduceLeDiff, Nat.reduceBEq, hd, Part.enc, hlk])))
    apply dw_cond; (simp (decide := true) only [go_sem, reduceIte, reduceCtorEq, Nat.reduceEqDiff, Nat.reduceAdd, Nat.reduceMul, Nat.reduceSub, Nat.reduceLeDiff, Nat.reduceBEq]; rfl)
    · simp
    intro _
    (repeat (first | (refine dw_seq ?_) | (refine dw_block ?_) | ((first | (refine dw_reg (N := 51) rfl (by kernel_rfl) ?_) | (apply dw_drw (id := 3) (N := 51) [(0, .light), (1, .light), (2, .light), (3, .light), (4, .light), (5, .light), (6, .light), (7, .light), (8, .light), (9, .light), (10, .step), (11, .light)]; kernel_rfl; rfl; kernel_rfl; (repeat (first | exact Picks.nil | (apply Picks.cons; rfl)))) | (apply dw_drw (id := 7) (N := 51) [(0, .light), (1, .light), (2, .light), (3, .light), (4, .light), (5, .light), (6, .light), (7, .light), (8, .light), (9, .light), (10, .light), (11, .light)]; kernel_rfl; rfl; kernel_rfl; (repeat (first | exact Picks.nil | (apply Picks.cons; rfl)))) | (refine dw_skip ?_) | (refine dw_exit ?_)); simp (decide := true) only [go_sem, reduceIte, reduceCtorEq, Nat.reduceEqDiff, Nat.reduceAdd, Nat.reduceMul, Nat.reduceSub, Nat.reduceLeDiff, Nat.reduceBEq, hd, Part.enc, hlk, hk, htl])))
    refine ⟨by simp; omega, ?_⟩
    refine dw_ret ?_; simp (decide := true) only [go_sem, reduceIte, reduceCtorEq, Nat.reduceEqDiff, Nat.reduceAdd, Nat.reduceMul, Nat.reduceSub, Nat.reduceLeDiff, Nat.reduceBEq, ins, hins]
    have hnone : l[k]? = none := List.getElem?_eq_none (by omega)
    simp [hnone, List.map_take, List.map_drop, Part.enc]

structure Row where
  gloss : ByteArray
  senses : List Part
deriving DecidableEq

def Row.enc (r : Row) : List C := [ls r.gloss, .sl 3 (r.senses.map Part.enc)]

def lowR (l : List Row) (g : ByteArray) : Nat := (l.takeWhile fun r => strLt r.gloss g).length

def atR (l : List Row) (g : ByteArray) : Row := match l[lowR l g]? with
  | some r => if (r.gloss == g) = true then r else ⟨g, []⟩
  | none => ⟨g, []⟩
def skipR (l : List Row) (g : ByteArray) : Nat := match l[lowR l g]? with
  | some r => if (r.gloss == g) = true then lowR l g + 1 else lowR l g
  | none => lowR l g

def putR (l : List Row) (g : ByteArray) (p : Part) : List Row :=
  l.take (lowR l g) ++ ⟨(atR l g).gloss, ins (atR l g).senses p⟩ :: l.drop (skipR l g)

theorem lowR_eq (l : List Row) (g : ByteArray) (k : Nat) (h1 : ∀ (j : Nat) q, j < k → l[j]? = some q → strLt q.gloss g = true) (hk : k ≤ l.length) (h2 : ∀ q, l[k]? = some q → strLt q.gloss g = false) : lowR l g = k := by
  induction l generalizing k with
  | nil => simp at hk; subst hk; rfl
  | cons a l ih =>
    cases k with
    | zero =>
      have := h2 a rfl
      simp [lowR, this]
    | succ k =>
      have ha := h1 0 a (by omega) rfl
      have := ih k (fun j q hj hq => h1 (j + 1) q (by omega) (by simpa using hq)) (by simpa using hk) (fun q hq => h2 q (by simpa using hq))
      simp only [lowR] at this
      simp [lowR, ha, this]

--F34
set_option maxRecDepth 10000 in
set_option maxHeartbeats 2000000 in
theorem put_D (l : List Row) (g : ByteArray) (p : Part) (hl : l.length ≤ 1000000) (hs : ∀ r ∈ l, r.senses.length ≤ 1000000) :
    DCalls Try.prog 34 [dv (.sl 2 (l.map Row.enc)), dv (ls g), .agg (p.enc.map T.c)] (.one (.own 0 2 ((putR l g p).map Row.enc))) := by
  have hmax : (1000000 : Nat) < maxLen := by simp [maxLen]
  have htl : List.take l.length (List.map Row.enc l) = List.map Row.enc l := List.take_of_length_le (by simp)
  refine DCalls.own0 (n := 7) ?_
  refine dcalls (N := 66) (rs := [.tmp 6]) (by kernel_rfl) Try.func34 rfl rfl rfl (by simp) ?_
  (repeat (first | (refine dw_seq ?_) | (refine dw_block ?_) | ((first | (refine dw_reg (N := 66) rfl (by kernel_rfl) ?_) | (apply dw_drw (id := 11) (N := 66) [(4, .blind), (5, .blind), (6, .blind), (0, .light), (1, .light), (2, .light), (3, .step), (7, .step), (8, .light)]; kernel_rfl; rfl; kernel_rfl; (repeat (first | exact Picks.nil | (apply Picks.cons; rfl)))) | (refine dw_skip ?_) | (refine dw_exit ?_)); simp (decide := true) only [go_sem, reduceIte, reduceCtorEq, Nat.reduceEqDiff, Nat.reduceAdd, Nat.reduceMul, Nat.reduceSub, Nat.reduceLeDiff, Nat.reduceBEq, Part.enc])))
  refine dw_own 7 7 2 (by simp (decide := true) only [go_sem, reduceIte, reduceCtorEq, Nat.reduceEqDiff, Nat.reduceAdd, Nat.reduceMul, Nat.reduceSub, Nat.reduceLeDiff, Nat.reduceBEq]) ?_
  refine dw_loop_fam (fun k : Nat => kn 66 [(0, dv (.sl 2 (l.map Row.enc))), (1, dv (ls g)), (5, .one (.bx 5 3 0 0)), (7, .one (.own 7 2 ((l.take k).map Row.enc))), (8, dv (li k))] (ml [(5, [p.enc.map T.c])]))
      (fun k => k ≤ l.length ∧ ∀ (j : Nat) q, j < k → l[j]? = some q → strLt q.gloss g = true) (fun k => l.length - k) 0 (sub_ml rfl (by simp (decide := true) only [go_sem, reduceIte, reduceCtorEq, Nat.reduceEqDiff, Nat.reduceAdd, Nat.reduceMul, Nat.reduceSub, Nat.reduceLeDiff, Nat.reduceBEq]) (by simp (decide := true) only [go_sem, reduceIte, reduceCtorEq, Nat.reduceEqDiff, Nat.reduceAdd, Nat.reduceMul, Nat.reduceSub, Nat.reduceLeDiff, Nat.reduceBEq, Part.enc])) ⟨by omega, fun j q hj => by omega⟩ ?_
  rintro k ⟨hk, hall⟩
  have hlk : (l.take k).length = k := by simp; omega
  rcases Nat.lt_or_ge k l.length with hlt | hge
  · obtain ⟨x, hx1⟩ : ∃ x, l[k]? = some x := ⟨l[k], List.getElem?_eq_getElem hlt⟩
    have hd : decide ((k : Int) < (l.length : Int)) = true := by simpa using hlt
    have hw := wrap_succ k (by omega)
    have htk : List.map Row.enc (l.take (k + 1)) = List.map Row.enc (l.take k) ++ [[ls x.gloss, .sl 3 (x.senses.map Part.enc)]] := by
      rw [List.take_add_one, hx1]; simp [Row.enc]
    (repeat (first | (refine dw_seq ?_) | (refine dw_block ?_) | ((first | (refine dw_reg (N := 66) rfl (by kernel_rfl) ?_) | (apply dw_drw (id := 11) (N := 66) [(4, .blind), (5, .blind), (6, .blind), (0, .light), (1, .light), (2, .light), (3, .step), (7, .step), (8, .light)]; kernel_rfl; rfl; kernel_rfl; (repeat (first | exact Picks.nil | (apply Picks.cons; rfl)))) | (refine dw_skip ?_) | (refine dw_exit ?_)); simp (decide := true) only [go_sem, reduceIte, reduceCtorEq, Nat.reduceEqDiff, Nat.reduceAdd, Nat.reduceMul, Nat.reduceSub, Nat.reduceLeDiff, Nat.reduceBEq, hx1, hd, Row.enc])))
    apply dw_cond; (simp (decide := true) only [go_sem, reduceIte, reduceCtorEq, Nat.reduceEqDiff, Nat.reduceAdd, Nat.reduceMul, Nat.reduceSub, Nat.reduceLeDiff, Nat.reduceBEq]; rfl)
    · intro h1
      (repeat (first | (refine dw_seq ?_) | (refine dw_block ?_) | ((first | (refine dw_reg (N := 66) rfl (by kernel_rfl) ?_) | (apply dw_drw (id := 11) (N := 66) [(4, .blind), (5, .blind), (6, .blind), (0, .light), (1, .light), (2, .light), (3, .step), (7, .step), (8, .light)]; kernel_rfl; rfl; kernel_rfl; (repeat (first | exact Picks.nil | (apply Picks.cons; rfl)))) | (refine dw_skip ?_) | (refine dw_exit ?_)); simp (decide := true) only [go_sem, reduceIte, reduceCtorEq, Nat.reduceEqDiff, Nat.reduceAdd, Nat.reduceMul, Nat.reduceSub, Nat.reduceLeDiff, Nat.reduceBEq, hx1, hd, Row.enc, hw, hlk])))
      refine ⟨by omega, ?_⟩
      (repeat (first | (refine dw_seq ?_) | (refine dw_block ?_) | ((first | (refine dw_reg (N := 66) rfl (by kernel_rfl) ?_) | (apply dw_drw (id := 11) (N := 66) [(4, .blind), (5, .blind), (6, .blind), (0, .light), (1, .light), (2, .light), (3, .step), (7, .step), (8, .light)]; kernel_rfl; rfl; kernel_rfl; (repeat (first | exact Picks.nil | (apply Picks.cons; rfl)))) | (refine dw_skip ?_) | (refine dw_exit ?_)); simp (decide := true) only [go_sem, reduceIte, reduceCtorEq, Nat.reduceEqDiff, Nat.reduceAdd, Nat.reduceMul, Nat.reduceSub, Nat.reduceLeDiff, Nat.reduceBEq, hx1, hd, Row.enc, hw, hlk])))
      refine ⟨k + 1, ⟨by omega, fun j q hj hq => ?_⟩, by omega, sub_ml rfl (by simp (decide := true) only [go_sem, reduceIte, reduceCtorEq, Nat.reduceEqDiff, Nat.reduceAdd, Nat.reduceMul, Nat.reduceSub, Nat.reduceLeDiff, Nat.reduceBEq, htk]) (by simp (decide := true) only [go_sem, reduceIte, reduceCtorEq, Nat.reduceEqDiff, Nat.reduceAdd, Nat.reduceMul, Nat.reduceSub, Nat.reduceLeDiff, Nat.reduceBEq, Part.enc])⟩
      by_cases hjk : j < k
      · exact hall j q hjk hq
      · obtain rfl : j = k := by omega
        rw [hx1] at hq; injection hq with hq; subst hq; exact h1
    · intro h1
      have hins : lowR l g = k := lowR_eq l g k hall hk fun q hq => by rw [hx1] at hq; injection hq with hq; subst hq; exact h1
      have hxs := hs x (List.mem_of_getElem? hx1)
      (repeat (first | (refine dw_seq ?_) | (refine dw_block ?_) | ((first | (refine dw_reg (N := 66) rfl (by kernel_rfl) ?_) | (apply dw_drw (id := 11) (N := 66) [(4, .blind), (5, .blind), (6, .blind), (0, .light), (1, .light), (2, .light), (3, .step), (7, .step), (8, .light)]; kernel_rfl; rfl; kernel_rfl; (repeat (first | exact Picks.nil | (apply Picks.cons; rfl)))) | (refine dw_skip ?_) | (refine dw_exit ?_)); simp (decide := true) only [go_sem, reduceIte, reduceCtorEq, Nat.reduceEqDiff, Nat.reduceAdd, Nat.reduceMul, Nat.reduceSub, Nat.reduceLeDiff, Nat.reduceBEq, hx1, hd, Row.enc, hw, hlk])))
      apply dw_cond; (simp (decide := true) only [go_sem, reduceIte, reduceCtorEq, Nat.reduceEqDiff, Nat.reduceAdd, Nat.reduceMul, Nat.reduceSub, Nat.reduceLeDiff, Nat.reduceBEq]; rfl)
      · intro h2
        have hk1 : k + 1 ≤ l.length := hlt
        (repeat (first | (refine dw_seq ?_) | (refine dw_block ?_) | ((first | (refine dw_reg (N := 66) rfl (by kernel_rfl) ?_) | (apply dw_drw (id := 11) (N := 66) [(4, .blind), (5, .blind), (6, .blind), (0, .light), (1, .light), (2, .light), (3, .step), (7, .step), (8, .light)]; kernel_rfl; rfl; kernel_rfl; (repeat (first | exact Picks.nil | (apply Picks.cons; rfl)))) | (refine dw_skip ?_) | (refine dw_exit ?_)); simp (decide := true) only [go_sem, reduceIte, reduceCtorEq, Nat.reduceEqDiff, Nat.reduceAdd, Nat.reduceMul, Nat.reduceSub, Nat.reduceLeDiff, Nat.reduceBEq, hx1, hd, Row.enc, hw, hlk, Part.enc])))
        (first | (refine CallC.mk (insert_D x.senses p hxs) (LeL.of_eq rfl) ?_) | (refine CallC.light (insert_D x.senses p hxs) (LeL.of_eq rfl) ?_)); simp (decide := true) only [go_sem, reduceIte, reduceCtorEq, Nat.reduceEqDiff, Nat.reduceAdd, Nat.reduceMul, Nat.reduceSub, Nat.reduceLeDiff, Nat.reduceBEq]
        (repeat (first | (refine dw_seq ?_) | (refine dw_block ?_) | ((first | (refine dw_reg (N := 66) rfl (by kernel_rfl) ?_) | (apply dw_drw (id := 11) (N := 66) [(4, .blind), (5, .blind), (6, .blind), (0, .light), (1, .light), (2, .light), (3, .step), (7, .step), (8, .light)]; kernel_rfl; rfl; kernel_rfl; (repeat (first | exact Picks.nil | (apply Picks.cons; rfl)))) | (refine dw_skip ?_) | (refine dw_exit ?_)); simp (decide := true) only [go_sem, reduceIte, reduceCtorEq, Nat.reduceEqDiff, Nat.reduceAdd, Nat.reduceMul, Nat.reduceSub, Nat.reduceLeDiff, Nat.reduceBEq, hx1, hd, Row.enc, hw, hlk, Part.enc, hk1, htl])))
        refine ⟨by omega, by simp; omega, ?_⟩
        refine dw_ret ?_; simp (decide := true) only [go_sem, reduceIte, reduceCtorEq, Nat.reduceEqDiff, Nat.reduceAdd, Nat.reduceMul, Nat.reduceSub, Nat.reduceLeDiff, Nat.reduceBEq]
        simp [putR, atR, skipR, hins, hx1, h2, Row.enc, List.map_take, List.map_drop]
      · intro h2
        (repeat (first | (refine dw_seq ?_) | (refine dw_block ?_) | ((first | (refine dw_reg (N := 66) rfl (by kernel_rfl) ?_) | (apply dw_drw (id := 11) (N := 66) [(4, .blind), (5, .blind), (6, .blind), (0, .light), (1, .light), (2, .light), (3, .step), (7, .step), (8, .light)]; kernel_rfl; rfl; kernel_rfl; (repeat (first | exact Picks.nil | (apply Picks.cons; rfl)))) | (refine dw_skip ?_) | (refine dw_exit ?_)); simp (decide := true) only [go_sem, reduceIte, reduceCtorEq, Nat.reduceEqDiff, Nat.reduceAdd, Nat.reduceMul, Nat.reduceSub, Nat.reduceLeDiff, Nat.reduceBEq, hx1, hd, Row.enc, hw, hlk, Part.enc])))
        (first | (refine CallC.mk (insert_D [] p (by simp)) (LeL.of_eq rfl) ?_) | (refine CallC.light (insert_D [] p (by simp)) (LeL.of_eq rfl) ?_)); simp (decide := true) only [go_sem, reduceIte, reduceCtorEq, Nat.reduceEqDiff, Nat.reduceAdd, Nat.reduceMul, Nat.reduceSub, Nat.reduceLeDiff, Nat.reduceBEq]
        (repeat (first | (refine dw_seq ?_) | (refine dw_block ?_) | ((first | (refine dw_reg (N := 66) rfl (by kernel_rfl) ?_) | (apply dw_drw (id := 11) (N := 66) [(4, .blind), (5, .blind), (6, .blind), (0, .light), (1, .light), (2, .light), (3, .step), (7, .step), (8, .light)]; kernel_rfl; rfl; kernel_rfl; (repeat (first | exact Picks.nil | (apply Picks.cons; rfl)))) | (refine dw_skip ?_) | (refine dw_exit ?_)); simp (decide := true) only [go_sem, reduceIte, reduceCtorEq, Nat.reduceEqDiff, Nat.reduceAdd, Nat.reduceMul, Nat.reduceSub, Nat.reduceLeDiff, Nat.reduceBEq, hx1, hd, Row.enc, hw, hlk, Part.enc, hk, htl])))
        refine ⟨by omega, by simp; omega, ?_⟩
        refine dw_ret ?_; simp (decide := true) only [go_sem, reduceIte, reduceCtorEq, Nat.reduceEqDiff, Nat.reduceAdd, Nat.reduceMul, Nat.reduceSub, Nat.reduceLeDiff, Nat.reduceBEq]
        simp [putR, atR, skipR, hins, hx1, h2, Row.enc, List.map_take, List.map_drop]
  · have hd : decide ((k : Int) < (l.length : Int)) = false := by simpa using hge
    have hnone : l[k]? = none := List.getElem?_eq_none (by omega)
    have hins : lowR l g = k := lowR_eq l g k hall hk fun q hq => by rw [hnone] at hq; cases hq
    (repeat (first | (refine dw_seq ?_) | (refine dw_block ?_) | ((first | (refine dw_reg (N := 66) rfl (by kernel_rfl) ?_) | (apply dw_drw (id := 11) (N := 66) [(4, .blind), (5, .blind), (6, .blind), (0, .light), (1, .light), (2, .light), (3, .step), (7, .step), (8, .light)]; kernel_rfl; rfl; kernel_rfl; (repeat (first | exact Picks.nil | (apply Picks.cons; rfl)))) | (refine dw_skip ?_) | (refine dw_exit ?_)); simp (decide := true) only [go_sem, reduceIte, reduceCtorEq, Nat.reduceEqDiff, Nat.reduceAdd, Nat.reduceMul, Nat.reduceSub, Nat.reduceLeDiff, Nat.reduceBEq, hd, Row.enc, Part.enc])))
    apply dw_cond; (simp (decide := true) only [go_sem, reduceIte, reduceCtorEq, Nat.reduceEqDiff, Nat.reduceAdd, Nat.reduceMul, Nat.reduceSub, Nat.reduceLeDiff, Nat.reduceBEq]; rfl)
    · simp
    intro _
    (repeat (first | (refine dw_seq ?_) | (refine dw_block ?_) | ((first | (refine dw_reg (N := 66) rfl (by kernel_rfl) ?_) | (apply dw_drw (id := 11) (N := 66) [(4, .blind), (5, .blind), (6, .blind), (0, .light), (1, .light), (2, .light), (3, .step), (7, .step), (8, .light)]; kernel_rfl; rfl; kernel_rfl; (repeat (first | exact Picks.nil | (apply Picks.cons; rfl)))) | (refine dw_skip ?_) | (refine dw_exit ?_)); simp (decide := true) only [go_sem, reduceIte, reduceCtorEq, Nat.reduceEqDiff, Nat.reduceAdd, Nat.reduceMul, Nat.reduceSub, Nat.reduceLeDiff, Nat.reduceBEq, hd, Row.enc, Part.enc])))
    apply dw_cond; (simp (decide := true) only [go_sem, reduceIte, reduceCtorEq, Nat.reduceEqDiff, Nat.reduceAdd, Nat.reduceMul, Nat.reduceSub, Nat.reduceLeDiff, Nat.reduceBEq]; rfl)
    · simp
    intro _
    (repeat (first | (refine dw_seq ?_) | (refine dw_block ?_) | ((first | (refine dw_reg (N := 66) rfl (by kernel_rfl) ?_) | (apply dw_drw (id := 11) (N := 66) [(4, .blind), (5, .blind), (6, .blind), (0, .light), (1, .light), (2, .light), (3, .step), (7, .step), (8, .light)]; kernel_rfl; rfl; kernel_rfl; (repeat (first | exact Picks.nil | (apply Picks.cons; rfl)))) | (refine dw_skip ?_) | (refine dw_exit ?_)); simp (decide := true) only [go_sem, reduceIte, reduceCtorEq, Nat.reduceEqDiff, Nat.reduceAdd, Nat.reduceMul, Nat.reduceSub, Nat.reduceLeDiff, Nat.reduceBEq, hd, Row.enc, Part.enc])))
    (first | (refine CallC.mk (insert_D [] p (by simp)) (LeL.of_eq rfl) ?_) | (refine CallC.light (insert_D [] p (by simp)) (LeL.of_eq rfl) ?_)); simp (decide := true) only [go_sem, reduceIte, reduceCtorEq, Nat.reduceEqDiff, Nat.reduceAdd, Nat.reduceMul, Nat.reduceSub, Nat.reduceLeDiff, Nat.reduceBEq]
    (repeat (first | (refine dw_seq ?_) | (refine dw_block ?_) | ((first | (refine dw_reg (N := 66) rfl (by kernel_rfl) ?_) | (apply dw_drw (id := 11) (N := 66) [(4, .blind), (5, .blind), (6, .blind), (0, .light), (1, .light), (2, .light), (3, .step), (7, .step), (8, .light)]; kernel_rfl; rfl; kernel_rfl; (repeat (first | exact Picks.nil | (apply Picks.cons; rfl)))) | (refine dw_skip ?_) | (refine dw_exit ?_)); simp (decide := true) only [go_sem, reduceIte, reduceCtorEq, Nat.reduceEqDiff, Nat.reduceAdd, Nat.reduceMul, Nat.reduceSub, Nat.reduceLeDiff, Nat.reduceBEq, hd, Row.enc, hlk, Part.enc, hk, htl])))
    refine ⟨by omega, by simp; omega, ?_⟩
    refine dw_ret ?_; simp (decide := true) only [go_sem, reduceIte, reduceCtorEq, Nat.reduceEqDiff, Nat.reduceAdd, Nat.reduceMul, Nat.reduceSub, Nat.reduceLeDiff, Nat.reduceBEq]
    simp [putR, atR, skipR, hins, hnone, Row.enc, List.map_take, List.map_drop]
end Go.Proofs.Ytffcabenoakmgaa

/- Contracts of the reference: take. -/
namespace Go.Proofs.Ytffcabenoakmgaa
open Go.Dl
attribute [local irreducible] DW DCalls ECalls wk

def keepP (same : Bool) (p : Part) (l : List Part) : List Part := l.filter fun q => !same || !decide (q = p)

def takeR (l : List Row) (g : ByteArray) (p : Part) : List Row :=
  (l.map fun r => (⟨r.gloss, keepP (r.gloss == g) p r.senses⟩ : Row)).filter fun r => !r.senses.isEmpty

theorem takeR_step (l : List Row) (g : ByteArray) (p : Part) (k : Nat) (x : Row) (hx : l[k]? = some x) :
    takeR (l.take (k + 1)) g p = takeR (l.take k) g p ++ if (keepP (x.gloss == g) p x.senses).isEmpty then [] else [⟨x.gloss, keepP (x.gloss == g) p x.senses⟩] := by
  unfold takeR
  rw [List.take_add_one, hx]
  simp only [Option.toList_some, List.map_append, List.filter_append, List.map_cons, List.map_nil]
  congr 1
  cases h : (keepP (x.gloss == g) p x.senses).isEmpty <;> simp [h]

theorem keepP_step (s : Bool) (p : Part) (l : List Part) (k : Nat) (x : Part) (hx : l[k]? = some x) :
    keepP s p (l.take (k + 1)) = keepP s p (l.take k) ++ if (!s || !decide (x = p)) = true then [x] else [] := by
  unfold keepP
  rw [List.take_add_one, hx]
  simp only [Option.toList_some, List.filter_append]
  congr 1
  cases h : (!s || !decide (x = p)) <;> simp [h]

theorem takeR_len (l : List Row) (g : ByteArray) (p : Part) : (takeR l g p).length ≤ l.length := by
  unfold takeR
  exact Nat.le_trans (List.length_filter_le _ _) (by simp)
theorem keepP_len (s : Bool) (p : Part) (l : List Part) : (keepP s p l).length ≤ l.length := List.length_filter_le _ _

--F37
set_option maxRecDepth 10000 in
set_option maxHeartbeats 4000000 in
theorem take_D (l : List Row) (g : ByteArray) (p : Part) (hl : l.length ≤ 1000000) (hs : ∀ r ∈ l, r.senses.length ≤ 1000000) :
    DCalls Try.prog 37 [dv (.sl 2 (l.map Row.enc)), dv (ls g), .agg (p.enc.map T.c)] (.one (.own 0 2 ((takeR l g p).map Row.enc))) := by
  have hmax : (1000000 : Nat) < maxLen := by simp [maxLen]
  refine DCalls.own0 (n := 7) ?_
  refine dcalls (N := 74) (rs := [.tmp 6]) (by kernel_rfl) Try.func37 rfl rfl rfl (by simp) ?_
  (repeat (first | (refine dw_seq ?_) | (refine dw_block ?_) | ((first | (refine dw_reg (N := 74) rfl (by kernel_rfl) ?_) | (apply dw_drw (id := 9) (N := 74) [(0, .light), (1, .light), (2, .light), (3, .light), (4, .light), (5, .light), (6, .light), (7, .light), (8, .light), (9, .light), (10, .light), (11, .light), (12, .light), (13, .light), (14, .light), (15, .light), (16, .light), (17, .light), (18, .light)]; kernel_rfl; rfl; kernel_rfl; (repeat (first | exact Picks.nil | (apply Picks.cons; rfl)))) | (apply dw_drw (id := 10) (N := 74) [(0, .light), (1, .light), (2, .light), (3, .light), (4, .light), (5, .light), (6, .light), (7, .light), (8, .light), (9, .light), (10, .light), (11, .step), (12, .light), (13, .step)]; kernel_rfl; rfl; kernel_rfl; (repeat (first | exact Picks.nil | (apply Picks.cons; rfl)))) | (refine dw_skip ?_) | (refine dw_exit ?_)); simp (decide := true) only [go_sem, reduceIte, reduceCtorEq, Nat.reduceEqDiff, Nat.reduceAdd, Nat.reduceMul, Nat.reduceSub, Nat.reduceLeDiff, Nat.reduceBEq, Part.enc])))
  refine dw_own 7 7 2 (by simp (decide := true) only [go_sem, reduceIte, reduceCtorEq, Nat.reduceEqDiff, Nat.reduceAdd, Nat.reduceMul, Nat.reduceSub, Nat.reduceLeDiff, Nat.reduceBEq]) ?_
  refine dw_loop_fam (fun k : Nat => kn 74 [(0, dv (.sl 2 (l.map Row.enc))), (1, dv (ls g)), (5, .one (.bx 5 3 0 0)), (7, .one (.own 7 2 ((takeR (l.take k) g p).map Row.enc))), (12, dv (li l.length)), (13, dv (li k))] (ml [(5, [p.enc.map T.c])]))
      (fun k => k ≤ l.length) (fun k => l.length - k) 0 (sub_ml rfl (by simp (decide := true) only [go_sem, reduceIte, reduceCtorEq, Nat.reduceEqDiff, Nat.reduceAdd, Nat.reduceMul, Nat.reduceSub, Nat.reduceLeDiff, Nat.reduceBEq, takeR, List.filter_nil]) (by simp (decide := true) only [go_sem, reduceIte, reduceCtorEq, Nat.reduceEqDiff, Nat.reduceAdd, Nat.reduceMul, Nat.reduceSub, Nat.reduceLeDiff, Nat.reduceBEq, Part.enc])) (by omega) ?_
  intro k hk
  rcases Nat.lt_or_ge k l.length with hlt | hge
  · obtain ⟨x, hx1⟩ : ∃ x, l[k]? = some x := ⟨l[k], List.getElem?_eq_getElem hlt⟩
    have hxs := hs x (List.mem_of_getElem? hx1)
    have hd : decide ((k : Int) < (l.length : Int)) = true := by simpa using hlt
    have hw := wrap_succ k (by omega)
    have htl := takeR_len (l.take k) g p
    have htl2 : (l.take k).length = k := by simp; omega
    (repeat (first | (refine dw_seq ?_) | (refine dw_block ?_) | ((first | (refine dw_reg (N := 74) rfl (by kernel_rfl) ?_) | (apply dw_drw (id := 9) (N := 74) [(0, .light), (1, .light), (2, .light), (3, .light), (4, .light), (5, .light), (6, .light), (7, .light), (8, .light), (9, .light), (10, .light), (11, .light), (12, .light), (13, .light), (14, .light), (15, .light), (16, .light), (17, .light), (18, .light)]; kernel_rfl; rfl; kernel_rfl; (repeat (first | exact Picks.nil | (apply Picks.cons; rfl)))) | (apply dw_drw (id := 10) (N := 74) [(0, .light), (1, .light), (2, .light), (3, .light), (4, .light), (5, .light), (6, .light), (7, .light), (8, .light), (9, .light), (10, .light), (11, .step), (12, .light), (13, .step)]; kernel_rfl; rfl; kernel_rfl; (repeat (first | exact Picks.nil | (apply Picks.cons; rfl)))) | (refine dw_skip ?_) | (refine dw_exit ?_)); simp (decide := true) only [go_sem, reduceIte, reduceCtorEq, Nat.reduceEqDiff, Nat.reduceAdd, Nat.reduceMul, Nat.reduceSub, Nat.reduceLeDiff, Nat.reduceBEq, hx1, hd, Row.enc])))
    apply dw_cond; (simp (decide := true) only [go_sem, reduceIte, reduceCtorEq, Nat.reduceEqDiff, Nat.reduceAdd, Nat.reduceMul, Nat.reduceSub, Nat.reduceLeDiff, Nat.reduceBEq]; rfl)
    · intro _
      (repeat (first | (refine dw_seq ?_) | (refine dw_block ?_) | ((first | (refine dw_reg (N := 74) rfl (by kernel_rfl) ?_) | (apply dw_drw (id := 9) (N := 74) [(0, .light), (1, .light), (2, .light), (3, .light), (4, .light), (5, .light), (6, .light), (7, .light), (8, .light), (9, .light), (10, .light), (11, .light), (12, .light), (13, .light), (14, .light), (15, .light), (16, .light), (17, .light), (18, .light)]; kernel_rfl; rfl; kernel_rfl; (repeat (first | exact Picks.nil | (apply Picks.cons; rfl)))) | (apply dw_drw (id := 10) (N := 74) [(0, .light), (1, .light), (2, .light), (3, .light), (4, .light), (5, .light), (6, .light), (7, .light), (8, .light), (9, .light), (10, .light), (11, .step), (12, .light), (13, .step)]; kernel_rfl; rfl; kernel_rfl; (repeat (first | exact Picks.nil | (apply Picks.cons; rfl)))) | (refine dw_skip ?_) | (refine dw_exit ?_)); simp (decide := true) only [go_sem, reduceIte, reduceCtorEq, Nat.reduceEqDiff, Nat.reduceAdd, Nat.reduceMul, Nat.reduceSub, Nat.reduceLeDiff, Nat.reduceBEq, hx1, hd, Row.enc, hw])))
      refine dw_ownAt 9 1 9 3 [] (r := [.c (ls x.gloss), .ex 3 []]) (by simp (decide := true) only [go_sem, reduceIte, reduceCtorEq, Nat.reduceEqDiff, Nat.reduceAdd, Nat.reduceMul, Nat.reduceSub, Nat.reduceLeDiff, Nat.reduceBEq]) (by rfl) ?_
      refine dw_loop_fam (fun j : Nat => kn 74 [(0, dv (.sl 2 (l.map Row.enc))), (1, dv (ls g)), (5, .one (.bx 5 3 0 0)), (7, .one (.own 7 2 ((takeR (l.take k) g p).map Row.enc))), (8, dv (li k)), (9, .one (.bx 9 2 0 0)),
          (12, dv (li l.length)), (13, dv (li k)), (27, dv (li x.senses.length)), (28, dv (li j))] (ml [(5, [p.enc.map T.c]), (9, [[.c (ls x.gloss), .own 9 3 ((keepP (x.gloss == g) p (x.senses.take j)).map Part.enc)]])]))
        (fun j => j ≤ x.senses.length) (fun j => x.senses.length - j) 0 (sub_ml rfl (by simp (decide := true) only [go_sem, reduceIte, reduceCtorEq, Nat.reduceEqDiff, Nat.reduceAdd, Nat.reduceMul, Nat.reduceSub, Nat.reduceLeDiff, Nat.reduceBEq]) (by simp (decide := true) only [go_sem, reduceIte, reduceCtorEq, Nat.reduceEqDiff, Nat.reduceAdd, Nat.reduceMul, Nat.reduceSub, Nat.reduceLeDiff, Nat.reduceBEq, Part.enc, keepP, List.filter_nil])) (by omega) ?_
      intro j hj
      rcases Nat.lt_or_ge j x.senses.length with hjlt | hjge
      · obtain ⟨y, hy1⟩ : ∃ y, x.senses[j]? = some y := ⟨x.senses[j], List.getElem?_eq_getElem hjlt⟩
        have hd2 : decide ((j : Int) < (x.senses.length : Int)) = true := by simpa using hjlt
        have hw2 := wrap_succ j (by omega)
        have hkl2 := keepP_len (x.gloss == g) p (x.senses.take j)
        have hjl2 : (x.senses.take j).length = j := by simp; omega
        have hstep := keepP_step (x.gloss == g) p x.senses j y hy1
        (repeat (first | (refine dw_seq ?_) | (refine dw_block ?_) | ((first | (refine dw_reg (N := 74) rfl (by kernel_rfl) ?_) | (apply dw_drw (id := 9) (N := 74) [(0, .light), (1, .light), (2, .light), (3, .light), (4, .light), (5, .light), (6, .light), (7, .light), (8, .light), (9, .light), (10, .light), (11, .light), (12, .light), (13, .light), (14, .light), (15, .light), (16, .light), (17, .light), (18, .light)]; kernel_rfl; rfl; kernel_rfl; (repeat (first | exact Picks.nil | (apply Picks.cons; rfl)))) | (apply dw_drw (id := 10) (N := 74) [(0, .light), (1, .light), (2, .light), (3, .light), (4, .light), (5, .light), (6, .light), (7, .light), (8, .light), (9, .light), (10, .light), (11, .step), (12, .light), (13, .step)]; kernel_rfl; rfl; kernel_rfl; (repeat (first | exact Picks.nil | (apply Picks.cons; rfl)))) | (refine dw_skip ?_) | (refine dw_exit ?_)); simp (decide := true) only [go_sem, reduceIte, reduceCtorEq, Nat.reduceEqDiff, Nat.reduceAdd, Nat.reduceMul, Nat.reduceSub, Nat.reduceLeDiff, Nat.reduceBEq, hd2])))
        apply dw_cond; (simp (decide := true) only [go_sem, reduceIte, reduceCtorEq, Nat.reduceEqDiff, Nat.reduceAdd, Nat.reduceMul, Nat.reduceSub, Nat.reduceLeDiff, Nat.reduceBEq]; rfl)
        · intro _
          cases hb : (x.gloss == g) with
          | false =>
            rw [hb] at hstep hkl2
            simp only [Bool.not_false, Bool.true_or, if_true] at hstep
            (repeat (first | (refine dw_seq ?_) | (refine dw_block ?_) | ((first | (refine dw_reg (N := 74) rfl (by kernel_rfl) ?_) | (apply dw_drw (id := 9) (N := 74) [(0, .light), (1, .light), (2, .light), (3, .light), (4, .light), (5, .light), (6, .light), (7, .light), (8, .light), (9, .light), (10, .light), (11, .light), (12, .light), (13, .light), (14, .light), (15, .light), (16, .light), (17, .light), (18, .light)]; kernel_rfl; rfl; kernel_rfl; (repeat (first | exact Picks.nil | (apply Picks.cons; rfl)))) | (apply dw_drw (id := 10) (N := 74) [(0, .light), (1, .light), (2, .light), (3, .light), (4, .light), (5, .light), (6, .light), (7, .light), (8, .light), (9, .light), (10, .light), (11, .step), (12, .light), (13, .step)]; kernel_rfl; rfl; kernel_rfl; (repeat (first | exact Picks.nil | (apply Picks.cons; rfl)))) | (refine dw_skip ?_) | (refine dw_exit ?_)); simp (decide := true) only [go_sem, reduceIte, reduceCtorEq, Nat.reduceEqDiff, Nat.reduceAdd, Nat.reduceMul, Nat.reduceSub, Nat.reduceLeDiff, Nat.reduceBEq, hx1, hy1, hb, Row.enc, Part.enc])))
            apply dw_cond; (simp (decide := true) only [go_sem, reduceIte, reduceCtorEq, Nat.reduceEqDiff, Nat.reduceAdd, Nat.reduceMul, Nat.reduceSub, Nat.reduceLeDiff, Nat.reduceBEq]; rfl)
            · intro _
              (repeat (first | (refine dw_seq ?_) | (refine dw_block ?_) | ((first | (refine dw_reg (N := 74) rfl (by kernel_rfl) ?_) | (apply dw_drw (id := 9) (N := 74) [(0, .light), (1, .light), (2, .light), (3, .light), (4, .light), (5, .light), (6, .light), (7, .light), (8, .light), (9, .light), (10, .light), (11, .light), (12, .light), (13, .light), (14, .light), (15, .light), (16, .light), (17, .light), (18, .light)]; kernel_rfl; rfl; kernel_rfl; (repeat (first | exact Picks.nil | (apply Picks.cons; rfl)))) | (apply dw_drw (id := 10) (N := 74) [(0, .light), (1, .light), (2, .light), (3, .light), (4, .light), (5, .light), (6, .light), (7, .light), (8, .light), (9, .light), (10, .light), (11, .step), (12, .light), (13, .step)]; kernel_rfl; rfl; kernel_rfl; (repeat (first | exact Picks.nil | (apply Picks.cons; rfl)))) | (refine dw_skip ?_) | (refine dw_exit ?_)); simp (decide := true) only [go_sem, reduceIte, reduceCtorEq, Nat.reduceEqDiff, Nat.reduceAdd, Nat.reduceMul, Nat.reduceSub, Nat.reduceLeDiff, Nat.reduceBEq, hx1, hy1, hb, Row.enc, Part.enc])))
              refine ⟨by omega, ?_⟩
              (repeat (first | (refine dw_seq ?_) | (refine dw_block ?_) | ((first | (refine dw_reg (N := 74) rfl (by kernel_rfl) ?_) | (apply dw_drw (id := 9) (N := 74) [(0, .light), (1, .light), (2, .light), (3, .light), (4, .light), (5, .light), (6, .light), (7, .light), (8, .light), (9, .light), (10, .light), (11, .light), (12, .light), (13, .light), (14, .light), (15, .light), (16, .light), (17, .light), (18, .light)]; kernel_rfl; rfl; kernel_rfl; (repeat (first | exact Picks.nil | (apply Picks.cons; rfl)))) | (apply dw_drw (id := 10) (N := 74) [(0, .light), (1, .light), (2, .light), (3, .light), (4, .light), (5, .light), (6, .light), (7, .light), (8, .light), (9, .light), (10, .light), (11, .step), (12, .light), (13, .step)]; kernel_rfl; rfl; kernel_rfl; (repeat (first | exact Picks.nil | (apply Picks.cons; rfl)))) | (refine dw_skip ?_) | (refine dw_exit ?_)); simp (decide := true) only [go_sem, reduceIte, reduceCtorEq, Nat.reduceEqDiff, Nat.reduceAdd, Nat.reduceMul, Nat.reduceSub, Nat.reduceLeDiff, Nat.reduceBEq, hx1, hy1, hb, Row.enc, Part.enc, hw2])))
              refine ⟨j + 1, by omega, by omega, sub_ml rfl (by simp (decide := true) only [go_sem, reduceIte, reduceCtorEq, Nat.reduceEqDiff, Nat.reduceAdd, Nat.reduceMul, Nat.reduceSub, Nat.reduceLeDiff, Nat.reduceBEq]) (by simp (decide := true) only [go_sem, reduceIte, reduceCtorEq, Nat.reduceEqDiff, Nat.reduceAdd, Nat.reduceMul, Nat.reduceSub, Nat.reduceLeDiff, Nat.reduceBEq, Part.enc, hstep, List.map_append])⟩
            · simp
          | true =>
            rw [hb] at hstep hkl2
            (repeat (first | (refine dw_seq ?_) | (refine dw_block ?_) | ((first | (refine dw_reg (N := 74) rfl (by kernel_rfl) ?_) | (apply dw_drw (id := 9) (N := 74) [(0, .light), (1, .light), (2, .light), (3, .light), (4, .light), (5, .light), (6, .light), (7, .light), (8, .light), (9, .light), (10, .light), (11, .light), (12, .light), (13, .light), (14, .light), (15, .light), (16, .light), (17, .light), (18, .light)]; kernel_rfl; rfl; kernel_rfl; (repeat (first | exact Picks.nil | (apply Picks.cons; rfl)))) | (apply dw_drw (id := 10) (N := 74) [(0, .light), (1, .light), (2, .light), (3, .light), (4, .light), (5, .light), (6, .light), (7, .light), (8, .light), (9, .light), (10, .light), (11, .step), (12, .light), (13, .step)]; kernel_rfl; rfl; kernel_rfl; (repeat (first | exact Picks.nil | (apply Picks.cons; rfl)))) | (refine dw_skip ?_) | (refine dw_exit ?_)); simp (decide := true) only [go_sem, reduceIte, reduceCtorEq, Nat.reduceEqDiff, Nat.reduceAdd, Nat.reduceMul, Nat.reduceSub, Nat.reduceLeDiff, Nat.reduceBEq, hx1, hy1, hb, Row.enc, Part.enc])))
            apply dw_cond; (simp (decide := true) only [go_sem, reduceIte, reduceCtorEq, Nat.reduceEqDiff, Nat.reduceAdd, Nat.reduceMul, Nat.reduceSub, Nat.reduceLeDiff, Nat.reduceBEq]; rfl)
            · intro h3
              have hyp : ¬ y = p := fun e => by simp [(part_ext y p).1 e] at h3
              simp only [hyp, decide_false, Bool.not_false, Bool.or_true, if_true] at hstep
              (repeat (first | (refine dw_seq ?_) | (refine dw_block ?_) | ((first | (refine dw_reg (N := 74) rfl (by kernel_rfl) ?_) | (apply dw_drw (id := 9) (N := 74) [(0, .light), (1, .light), (2, .light), (3, .light), (4, .light), (5, .light), (6, .light), (7, .light), (8, .light), (9, .light), (10, .light), (11, .light), (12, .light), (13, .light), (14, .light), (15, .light), (16, .light), (17, .light), (18, .light)]; kernel_rfl; rfl; kernel_rfl; (repeat (first | exact Picks.nil | (apply Picks.cons; rfl)))) | (apply dw_drw (id := 10) (N := 74) [(0, .light), (1, .light), (2, .light), (3, .light), (4, .light), (5, .light), (6, .light), (7, .light), (8, .light), (9, .light), (10, .light), (11, .step), (12, .light), (13, .step)]; kernel_rfl; rfl; kernel_rfl; (repeat (first | exact Picks.nil | (apply Picks.cons; rfl)))) | (refine dw_skip ?_) | (refine dw_exit ?_)); simp (decide := true) only [go_sem, reduceIte, reduceCtorEq, Nat.reduceEqDiff, Nat.reduceAdd, Nat.reduceMul, Nat.reduceSub, Nat.reduceLeDiff, Nat.reduceBEq, hx1, hy1, hb, Row.enc, Part.enc])))
              refine ⟨by omega, ?_⟩
              (repeat (first | (refine dw_seq ?_) | (refine dw_block ?_) | ((first | (refine dw_reg (N := 74) rfl (by kernel_rfl) ?_) | (apply dw_drw (id := 9) (N := 74) [(0, .light), (1, .light), (2, .light), (3, .light), (4, .light), (5, .light), (6, .light), (7, .light), (8, .light), (9, .light), (10, .light), (11, .light), (12, .light), (13, .light), (14, .light), (15, .light), (16, .light), (17, .light), (18, .light)]; kernel_rfl; rfl; kernel_rfl; (repeat (first | exact Picks.nil | (apply Picks.cons; rfl)))) | (apply dw_drw (id := 10) (N := 74) [(0, .light), (1, .light), (2, .light), (3, .light), (4, .light), (5, .light), (6, .light), (7, .light), (8, .light), (9, .light), (10, .light), (11, .step), (12, .light), (13, .step)]; kernel_rfl; rfl; kernel_rfl; (repeat (first | exact Picks.nil | (apply Picks.cons; rfl)))) | (refine dw_skip ?_) | (refine dw_exit ?_)); simp (decide := true) only [go_sem, reduceIte, reduceCtorEq, Nat.reduceEqDiff, Nat.reduceAdd, Nat.reduceMul, Nat.reduceSub, Nat.reduceLeDiff, Nat.reduceBEq, hx1, hy1, hb, Row.enc, Part.enc, hw2])))
              refine ⟨j + 1, by omega, by omega, sub_ml rfl (by simp (decide := true) only [go_sem, reduceIte, reduceCtorEq, Nat.reduceEqDiff, Nat.reduceAdd, Nat.reduceMul, Nat.reduceSub, Nat.reduceLeDiff, Nat.reduceBEq]) (by simp (decide := true) only [go_sem, reduceIte, reduceCtorEq, Nat.reduceEqDiff, Nat.reduceAdd, Nat.reduceMul, Nat.reduceSub, Nat.reduceLeDiff, Nat.reduceBEq, Part.enc, hstep, List.map_append])⟩
            · intro h3
              have hyp : y = p := (part_ext y p).2 (by simpa using h3)
              simp only [hyp, decide_true, Bool.not_true, Bool.or_false, Bool.false_eq_true, if_false, List.append_nil] at hstep
              (repeat (first | (refine dw_seq ?_) | (refine dw_block ?_) | ((first | (refine dw_reg (N := 74) rfl (by kernel_rfl) ?_) | (apply dw_drw (id := 9) (N := 74) [(0, .light), (1, .light), (2, .light), (3, .light), (4, .light), (5, .light), (6, .light), (7, .light), (8, .light), (9, .light), (10, .light), (11, .light), (12, .light), (13, .light), (14, .light), (15, .light), (16, .light), (17, .light), (18, .light)]; kernel_rfl; rfl; kernel_rfl; (repeat (first | exact Picks.nil | (apply Picks.cons; rfl)))) | (apply dw_drw (id := 10) (N := 74) [(0, .light), (1, .light), (2, .light), (3, .light), (4, .light), (5, .light), (6, .light), (7, .light), (8, .light), (9, .light), (10, .light), (11, .step), (12, .light), (13, .step)]; kernel_rfl; rfl; kernel_rfl; (repeat (first | exact Picks.nil | (apply Picks.cons; rfl)))) | (refine dw_skip ?_) | (refine dw_exit ?_)); simp (decide := true) only [go_sem, reduceIte, reduceCtorEq, Nat.reduceEqDiff, Nat.reduceAdd, Nat.reduceMul, Nat.reduceSub, Nat.reduceLeDiff, Nat.reduceBEq, hw2])))
              refine ⟨j + 1, by omega, by omega, sub_ml rfl (by simp (decide := true) only [go_sem, reduceIte, reduceCtorEq, Nat.reduceEqDiff, Nat.reduceAdd, Nat.reduceMul, Nat.reduceSub, Nat.reduceLeDiff, Nat.reduceBEq]) (by simp (decide := true) only [go_sem, reduceIte, reduceCtorEq, Nat.reduceEqDiff, Nat.reduceAdd, Nat.reduceMul, Nat.reduceSub, Nat.reduceLeDiff, Nat.reduceBEq, Part.enc, hstep])⟩
        · simp
      · have hd2 : decide ((j : Int) < (x.senses.length : Int)) = false := by simpa using hjge
        have hjl : j = x.senses.length := by omega
        subst hjl
        (repeat (first | (refine dw_seq ?_) | (refine dw_block ?_) | ((first | (refine dw_reg (N := 74) rfl (by kernel_rfl) ?_) | (apply dw_drw (id := 9) (N := 74) [(0, .light), (1, .light), (2, .light), (3, .light), (4, .light), (5, .light), (6, .light), (7, .light), (8, .light), (9, .light), (10, .light), (11, .light), (12, .light), (13, .light), (14, .light), (15, .light), (16, .light), (17, .light), (18, .light)]; kernel_rfl; rfl; kernel_rfl; (repeat (first | exact Picks.nil | (apply Picks.cons; rfl)))) | (apply dw_drw (id := 10) (N := 74) [(0, .light), (1, .light), (2, .light), (3, .light), (4, .light), (5, .light), (6, .light), (7, .light), (8, .light), (9, .light), (10, .light), (11, .step), (12, .light), (13, .step)]; kernel_rfl; rfl; kernel_rfl; (repeat (first | exact Picks.nil | (apply Picks.cons; rfl)))) | (refine dw_skip ?_) | (refine dw_exit ?_)); simp (decide := true) only [go_sem, reduceIte, reduceCtorEq, Nat.reduceEqDiff, Nat.reduceAdd, Nat.reduceMul, Nat.reduceSub, Nat.reduceLeDiff, Nat.reduceBEq, hd2])))
        apply dw_cond; (simp (decide := true) only [go_sem, reduceIte, reduceCtorEq, Nat.reduceEqDiff, Nat.reduceAdd, Nat.reduceMul, Nat.reduceSub, Nat.reduceLeDiff, Nat.reduceBEq]; rfl)
        · simp
        intro _
        (repeat (first | (refine dw_seq ?_) | (refine dw_block ?_) | ((first | (refine dw_reg (N := 74) rfl (by kernel_rfl) ?_) | (apply dw_drw (id := 9) (N := 74) [(0, .light), (1, .light), (2, .light), (3, .light), (4, .light), (5, .light), (6, .light), (7, .light), (8, .light), (9, .light), (10, .light), (11, .light), (12, .light), (13, .light), (14, .light), (15, .light), (16, .light), (17, .light), (18, .light)]; kernel_rfl; rfl; kernel_rfl; (repeat (first | exact Picks.nil | (apply Picks.cons; rfl)))) | (apply dw_drw (id := 10) (N := 74) [(0, .light), (1, .light), (2, .light), (3, .light), (4, .light), (5, .light), (6, .light), (7, .light), (8, .light), (9, .light), (10, .light), (11, .step), (12, .light), (13, .step)]; kernel_rfl; rfl; kernel_rfl; (repeat (first | exact Picks.nil | (apply Picks.cons; rfl)))) | (refine dw_skip ?_) | (refine dw_exit ?_)); simp (decide := true) only [go_sem, reduceIte, reduceCtorEq, Nat.reduceEqDiff, Nat.reduceAdd, Nat.reduceMul, Nat.reduceSub, Nat.reduceLeDiff, Nat.reduceBEq, List.take_length])))
        have hstep := takeR_step l g p k x hx1
        apply dw_cond; (simp (decide := true) only [go_sem, reduceIte, reduceCtorEq, Nat.reduceEqDiff, Nat.reduceAdd, Nat.reduceMul, Nat.reduceSub, Nat.reduceLeDiff, Nat.reduceBEq]; rfl)
        · intro h4
          have h5 : (keepP (x.gloss == g) p x.senses).isEmpty = false := by
            cases h6 : keepP (x.gloss == g) p x.senses with
            | nil => simp [h6] at h4
            | cons => rfl
          simp only [h5, Bool.false_eq_true, if_false] at hstep
          (repeat (first | (refine dw_seq ?_) | (refine dw_block ?_) | ((first | (refine dw_reg (N := 74) rfl (by kernel_rfl) ?_) | (apply dw_drw (id := 9) (N := 74) [(0, .light), (1, .light), (2, .light), (3, .light), (4, .light), (5, .light), (6, .light), (7, .light), (8, .light), (9, .light), (10, .light), (11, .light), (12, .light), (13, .light), (14, .light), (15, .light), (16, .light), (17, .light), (18, .light)]; kernel_rfl; rfl; kernel_rfl; (repeat (first | exact Picks.nil | (apply Picks.cons; rfl)))) | (apply dw_drw (id := 10) (N := 74) [(0, .light), (1, .light), (2, .light), (3, .light), (4, .light), (5, .light), (6, .light), (7, .light), (8, .light), (9, .light), (10, .light), (11, .step), (12, .light), (13, .step)]; kernel_rfl; rfl; kernel_rfl; (repeat (first | exact Picks.nil | (apply Picks.cons; rfl)))) | (refine dw_skip ?_) | (refine dw_exit ?_)); simp (decide := true) only [go_sem, reduceIte, reduceCtorEq, Nat.reduceEqDiff, Nat.reduceAdd, Nat.reduceMul, Nat.reduceSub, Nat.reduceLeDiff, Nat.reduceBEq, List.take_length])))
          refine ⟨by omega, ?_⟩
          (repeat (first | (refine dw_seq ?_) | (refine dw_block ?_) | ((first | (refine dw_reg (N := 74) rfl (by kernel_rfl) ?_) | (apply dw_drw (id := 9) (N := 74) [(0, .light), (1, .light), (2, .light), (3, .light), (4, .light), (5, .light), (6, .light), (7, .light), (8, .light), (9, .light), (10, .light), (11, .light), (12, .light), (13, .light), (14, .light), (15, .light), (16, .light), (17, .light), (18, .light)]; kernel_rfl; rfl; kernel_rfl; (repeat (first | exact Picks.nil | (apply Picks.cons; rfl)))) | (apply dw_drw (id := 10) (N := 74) [(0, .light), (1, .light), (2, .light), (3, .light), (4, .light), (5, .light), (6, .light), (7, .light), (8, .light), (9, .light), (10, .light), (11, .step), (12, .light), (13, .step)]; kernel_rfl; rfl; kernel_rfl; (repeat (first | exact Picks.nil | (apply Picks.cons; rfl)))) | (refine dw_skip ?_) | (refine dw_exit ?_)); simp (decide := true) only [go_sem, reduceIte, reduceCtorEq, Nat.reduceEqDiff, Nat.reduceAdd, Nat.reduceMul, Nat.reduceSub, Nat.reduceLeDiff, Nat.reduceBEq, hw])))
          refine ⟨k + 1, by omega, by omega, sub_ml rfl (by simp (decide := true) only [go_sem, reduceIte, reduceCtorEq, Nat.reduceEqDiff, Nat.reduceAdd, Nat.reduceMul, Nat.reduceSub, Nat.reduceLeDiff, Nat.reduceBEq, hstep, List.map_append, Row.enc]) (by simp (decide := true) only [go_sem, reduceIte, reduceCtorEq, Nat.reduceEqDiff, Nat.reduceAdd, Nat.reduceMul, Nat.reduceSub, Nat.reduceLeDiff, Nat.reduceBEq, Part.enc])⟩
        · intro h4
          have h5 : (keepP (x.gloss == g) p x.senses).isEmpty = true := by
            cases h6 : keepP (x.gloss == g) p x.senses with
            | nil => rfl
            | cons => simp [h6] at h4
          simp only [h5, if_true, List.append_nil] at hstep
          (repeat (first | (refine dw_seq ?_) | (refine dw_block ?_) | ((first | (refine dw_reg (N := 74) rfl (by kernel_rfl) ?_) | (apply dw_drw (id := 9) (N := 74) [(0, .light), (1, .light), (2, .light), (3, .light), (4, .light), (5, .light), (6, .light), (7, .light), (8, .light), (9, .light), (10, .light), (11, .light), (12, .light), (13, .light), (14, .light), (15, .light), (16, .light), (17, .light), (18, .light)]; kernel_rfl; rfl; kernel_rfl; (repeat (first | exact Picks.nil | (apply Picks.cons; rfl)))) | (apply dw_drw (id := 10) (N := 74) [(0, .light), (1, .light), (2, .light), (3, .light), (4, .light), (5, .light), (6, .light), (7, .light), (8, .light), (9, .light), (10, .light), (11, .step), (12, .light), (13, .step)]; kernel_rfl; rfl; kernel_rfl; (repeat (first | exact Picks.nil | (apply Picks.cons; rfl)))) | (refine dw_skip ?_) | (refine dw_exit ?_)); simp (decide := true) only [go_sem, reduceIte, reduceCtorEq, Nat.reduceEqDiff, Nat.reduceAdd, Nat.reduceMul, Nat.reduceSub, Nat.reduceLeDiff, Nat.reduceBEq, hw])))
          refine ⟨k + 1, by omega, by omega, sub_ml rfl (by simp (decide := true) only [go_sem, reduceIte, reduceCtorEq, Nat.reduceEqDiff, Nat.reduceAdd, Nat.reduceMul, Nat.reduceSub, Nat.reduceLeDiff, Nat.reduceBEq, hstep]) (by simp (decide := true) only [go_sem, reduceIte, reduceCtorEq, Nat.reduceEqDiff, Nat.reduceAdd, Nat.reduceMul, Nat.reduceSub, Nat.reduceLeDiff, Nat.reduceBEq, Part.enc])⟩
    · simp
  · have hd : decide ((k : Int) < (l.length : Int)) = false := by simpa using hge
    have hkl : k = l.length := by omega
    (repeat (first | (refine dw_seq ?_) | (refine dw_block ?_) | ((first | (refine dw_reg (N := 74) rfl (by kernel_rfl) ?_) | (apply dw_drw (id := 9) (N := 74) [(0, .light), (1, .light), (2, .light), (3, .light), (4, .light), (5, .light), (6, .light), (7, .light), (8, .light), (9, .light), (10, .light), (11, .light), (12, .light), (13, .light), (14, .light), (15, .light), (16, .light), (17, .light), (18, .light)]; kernel_rfl; rfl; kernel_rfl; (repeat (first | exact Picks.nil | (apply Picks.cons; rfl)))) | (apply dw_drw (id := 10) (N := 74) [(0, .light), (1, .light), (2, .light), (3, .light), (4, .light), (5, .light), (6, .light), (7, .light), (8, .light), (9, .light), (10, .light), (11, .step), (12, .light), (13, .step)]; kernel_rfl; rfl; kernel_rfl; (repeat (first | exact Picks.nil | (apply Picks.cons; rfl)))) | (refine dw_skip ?_) | (refine dw_exit ?_)); simp (decide := true) only [go_sem, reduceIte, reduceCtorEq, Nat.reduceEqDiff, Nat.reduceAdd, Nat.reduceMul, Nat.reduceSub, Nat.reduceLeDiff, Nat.reduceBEq, hd])))
    apply dw_cond; (simp (decide := true) only [go_sem, reduceIte, reduceCtorEq, Nat.reduceEqDiff, Nat.reduceAdd, Nat.reduceMul, Nat.reduceSub, Nat.reduceLeDiff, Nat.reduceBEq]; rfl)
    · simp
    intro _
    (repeat (first | (refine dw_seq ?_) | (refine dw_block ?_) | ((first | (refine dw_reg (N := 74) rfl (by kernel_rfl) ?_) | (apply dw_drw (id := 9) (N := 74) [(0, .light), (1, .light), (2, .light), (3, .light), (4, .light), (5, .light), (6, .light), (7, .light), (8, .light), (9, .light), (10, .light), (11, .light), (12, .light), (13, .light), (14, .light), (15, .light), (16, .light), (17, .light), (18, .light)]; kernel_rfl; rfl; kernel_rfl; (repeat (first | exact Picks.nil | (apply Picks.cons; rfl)))) | (apply dw_drw (id := 10) (N := 74) [(0, .light), (1, .light), (2, .light), (3, .light), (4, .light), (5, .light), (6, .light), (7, .light), (8, .light), (9, .light), (10, .light), (11, .step), (12, .light), (13, .step)]; kernel_rfl; rfl; kernel_rfl; (repeat (first | exact Picks.nil | (apply Picks.cons; rfl)))) | (refine dw_skip ?_) | (refine dw_exit ?_)); simp (decide := true) only [go_sem, reduceIte, reduceCtorEq, Nat.reduceEqDiff, Nat.reduceAdd, Nat.reduceMul, Nat.reduceSub, Nat.reduceLeDiff, Nat.reduceBEq])))
    refine dw_ret ?_; simp (decide := true) only [go_sem, reduceIte, reduceCtorEq, Nat.reduceEqDiff, Nat.reduceAdd, Nat.reduceMul, Nat.reduceSub, Nat.reduceLeDiff, Nat.reduceBEq]
    subst hkl
    simp
end Go.Proofs.Ytffcabenoakmgaa

/- Contracts of the reference: Same, Once, Fit, Find. -/
namespace Go.Proofs.Ytffcabenoakmgaa
open Go.Dl
attribute [local irreducible] DW DCalls ECalls wk

/-- The first answer among the numbers below n. -/
def fs {α : Type} (n : Nat) (f : Nat → Option α) : Option α := (List.range n).findSome? f

theorem fs_some {α : Type} {n k : Nat} {f : Nat → Option α} {c : α} (h1 : ∀ j < k, f j = none) (hk : k < n) (h2 : f k = some c) : fs n f = some c := by
  unfold fs
  obtain ⟨m, rfl⟩ : ∃ m, n = k + (m + 1) := ⟨n - k - 1, by omega⟩
  rw [List.range_add, List.findSome?_append]
  have : (List.range k).findSome? f = none := List.findSome?_eq_none_iff.2 fun x hx => h1 x (List.mem_range.1 hx)
  rw [this, List.range_succ_eq_map]
  simp [h2]

theorem fs_none {α : Type} {n : Nat} {f : Nat → Option α} (h1 : ∀ j < n, f j = none) : fs n f = none :=
  List.findSome?_eq_none_iff.2 fun x hx => h1 x (List.mem_range.1 hx)

theorem below_succ {p : Nat → Prop} {k : Nat} (h : ∀ j < k, p j) (hk : p k) : ∀ j < k + 1, p j := fun j hj => by
  by_cases h1 : j < k
  · exact h j h1
  · have : j = k := by omega
    exact this ▸ hk

/-- Equal row by row. -/
theorem same_iff (xs ys : List Row) (hl : xs.length = ys.length) : (∀ j < xs.length, xs[j]? = ys[j]?) → xs = ys := fun h => by
  apply List.ext_getElem?
  intro j
  by_cases hj : j < xs.length
  · exact h j hj
  · rw [List.getElem?_eq_none (by omega), List.getElem?_eq_none (by omega)]

--F14
set_option maxRecDepth 10000 in
set_option maxHeartbeats 2000000 in
theorem same_D (xs ys : List Row) (hx : xs.length ≤ 1000000) (hy : ys.length ≤ 1000000) (hsx : ∀ r ∈ xs, r.senses.length ≤ maxLen) (hsy : ∀ r ∈ ys, r.senses.length ≤ maxLen) :
    DCalls Try.prog 14 [dv (.sl 2 (xs.map Row.enc)), dv (.sl 2 (ys.map Row.enc))] (dv (lb (decide (xs = ys)))) := by
  have hmax : (1000000 : Nat) < maxLen := by simp [maxLen]
  refine dcalls (N := 42) (rs := [.tmp 4]) (by kernel_rfl) Try.func14 rfl rfl rfl (by simp) ?_
  (repeat (first | (refine dw_seq ?_) | (refine dw_block ?_) | ((first | (refine dw_reg (N := 42) rfl (by kernel_rfl) ?_) | (apply dw_drw (id := 6) (N := 42) [(0, .light), (1, .light), (2, .light), (3, .light), (4, .light), (5, .light), (6, .light), (7, .light), (8, .light), (9, .light), (10, .light), (11, .light), (12, .light), (13, .light), (14, .light), (15, .light), (16, .light), (17, .light), (18, .light), (19, .light), (20, .light), (21, .light), (22, .step), (23, .light), (24, .light)]; kernel_rfl; rfl; kernel_rfl; (repeat (first | exact Picks.nil | (apply Picks.cons; rfl)))) | (refine dw_skip ?_) | (refine dw_exit ?_)); simp (decide := true) only [go_sem, reduceIte, reduceCtorEq, Nat.reduceEqDiff, Nat.reduceAdd, Nat.reduceMul, Nat.reduceSub, Nat.reduceLeDiff, Nat.reduceBEq])))
  apply dw_cond; (simp (decide := true) only [go_sem, reduceIte, reduceCtorEq, Nat.reduceEqDiff, Nat.reduceAdd, Nat.reduceMul, Nat.reduceSub, Nat.reduceLeDiff, Nat.reduceBEq]; rfl)
  · intro hc
    (repeat (first | (refine dw_seq ?_) | (refine dw_block ?_) | ((first | (refine dw_reg (N := 42) rfl (by kernel_rfl) ?_) | (apply dw_drw (id := 6) (N := 42) [(0, .light), (1, .light), (2, .light), (3, .light), (4, .light), (5, .light), (6, .light), (7, .light), (8, .light), (9, .light), (10, .light), (11, .light), (12, .light), (13, .light), (14, .light), (15, .light), (16, .light), (17, .light), (18, .light), (19, .light), (20, .light), (21, .light), (22, .step), (23, .light), (24, .light)]; kernel_rfl; rfl; kernel_rfl; (repeat (first | exact Picks.nil | (apply Picks.cons; rfl)))) | (refine dw_skip ?_) | (refine dw_exit ?_)); simp (decide := true) only [go_sem, reduceIte, reduceCtorEq, Nat.reduceEqDiff, Nat.reduceAdd, Nat.reduceMul, Nat.reduceSub, Nat.reduceLeDiff, Nat.reduceBEq])))
    refine dw_ret ?_; simp (decide := true) only [go_sem, reduceIte, reduceCtorEq, Nat.reduceEqDiff, Nat.reduceAdd, Nat.reduceMul, Nat.reduceSub, Nat.reduceLeDiff, Nat.reduceBEq]
    have : ¬ xs = ys := fun e => by subst e; simp at hc
    simp [this]
  · intro hc
    have hl : xs.length = ys.length := by simp at hc; omega
    (repeat (first | (refine dw_seq ?_) | (refine dw_block ?_) | ((first | (refine dw_reg (N := 42) rfl (by kernel_rfl) ?_) | (apply dw_drw (id := 6) (N := 42) [(0, .light), (1, .light), (2, .light), (3, .light), (4, .light), (5, .light), (6, .light), (7, .light), (8, .light), (9, .light), (10, .light), (11, .light), (12, .light), (13, .light), (14, .light), (15, .light), (16, .light), (17, .light), (18, .light), (19, .light), (20, .light), (21, .light), (22, .step), (23, .light), (24, .light)]; kernel_rfl; rfl; kernel_rfl; (repeat (first | exact Picks.nil | (apply Picks.cons; rfl)))) | (refine dw_skip ?_) | (refine dw_exit ?_)); simp (decide := true) only [go_sem, reduceIte, reduceCtorEq, Nat.reduceEqDiff, Nat.reduceAdd, Nat.reduceMul, Nat.reduceSub, Nat.reduceLeDiff, Nat.reduceBEq])))
    refine dw_loop_fam (fun k : Nat => kn 42 [(0, dv (.sl 2 (xs.map Row.enc))), (1, dv (.sl 2 (ys.map Row.enc))), (12, dv (li xs.length)), (13, dv (li k))] noMem)
      (fun k => k ≤ xs.length ∧ ∀ j < k, xs[j]? = ys[j]?) (fun k => xs.length - k) 0 (sub_kn rfl (by simp (decide := true) only [go_sem, reduceIte, reduceCtorEq, Nat.reduceEqDiff, Nat.reduceAdd, Nat.reduceMul, Nat.reduceSub, Nat.reduceLeDiff, Nat.reduceBEq]) (by simp [noMem])) ⟨by omega, fun j hj => by omega⟩ ?_
    rintro k ⟨hk, hall⟩
    rcases Nat.lt_or_ge k xs.length with hlt | hge
    · obtain ⟨x, hx1⟩ : ∃ x, xs[k]? = some x := ⟨xs[k], List.getElem?_eq_getElem hlt⟩
      obtain ⟨y, hy1⟩ : ∃ y, ys[k]? = some y := ⟨ys[k]'(by omega), List.getElem?_eq_getElem (by omega)⟩
      have hd : decide ((k : Int) < (xs.length : Int)) = true := by simpa using hlt
      have hw := wrap_succ k (by omega)
      (repeat (first | (refine dw_seq ?_) | (refine dw_block ?_) | ((first | (refine dw_reg (N := 42) rfl (by kernel_rfl) ?_) | (apply dw_drw (id := 6) (N := 42) [(0, .light), (1, .light), (2, .light), (3, .light), (4, .light), (5, .light), (6, .light), (7, .light), (8, .light), (9, .light), (10, .light), (11, .light), (12, .light), (13, .light), (14, .light), (15, .light), (16, .light), (17, .light), (18, .light), (19, .light), (20, .light), (21, .light), (22, .step), (23, .light), (24, .light)]; kernel_rfl; rfl; kernel_rfl; (repeat (first | exact Picks.nil | (apply Picks.cons; rfl)))) | (refine dw_skip ?_) | (refine dw_exit ?_)); simp (decide := true) only [go_sem, reduceIte, reduceCtorEq, Nat.reduceEqDiff, Nat.reduceAdd, Nat.reduceMul, Nat.reduceSub, Nat.reduceLeDiff, Nat.reduceBEq, hd])))
      apply dw_cond; (simp (decide := true) only [go_sem, reduceIte, reduceCtorEq, Nat.reduceEqDiff, Nat.reduceAdd, Nat.reduceMul, Nat.reduceSub, Nat.reduceLeDiff, Nat.reduceBEq]; rfl)
      · intro _
        cases hb : (x.gloss == y.gloss) with
        | false =>
          (repeat (first | (refine dw_seq ?_) | (refine dw_block ?_) | ((first | (refine dw_reg (N := 42) rfl (by kernel_rfl) ?_) | (apply dw_drw (id := 6) (N := 42) [(0, .light), (1, .light), (2, .light), (3, .light), (4, .light), (5, .light), (6, .light), (7, .light), (8, .light), (9, .light), (10, .light), (11, .light), (12, .light), (13, .light), (14, .light), (15, .light), (16, .light), (17, .light), (18, .light), (19, .light), (20, .light), (21, .light), (22, .step), (23, .light), (24, .light)]; kernel_rfl; rfl; kernel_rfl; (repeat (first | exact Picks.nil | (apply Picks.cons; rfl)))) | (refine dw_skip ?_) | (refine dw_exit ?_)); simp (decide := true) only [go_sem, reduceIte, reduceCtorEq, Nat.reduceEqDiff, Nat.reduceAdd, Nat.reduceMul, Nat.reduceSub, Nat.reduceLeDiff, Nat.reduceBEq, hx1, hy1, Row.enc, hb])))
          apply dw_cond; (simp (decide := true) only [go_sem, reduceIte, reduceCtorEq, Nat.reduceEqDiff, Nat.reduceAdd, Nat.reduceMul, Nat.reduceSub, Nat.reduceLeDiff, Nat.reduceBEq]; rfl)
          · intro _
            (repeat (first | (refine dw_seq ?_) | (refine dw_block ?_) | ((first | (refine dw_reg (N := 42) rfl (by kernel_rfl) ?_) | (apply dw_drw (id := 6) (N := 42) [(0, .light), (1, .light), (2, .light), (3, .light), (4, .light), (5, .light), (6, .light), (7, .light), (8, .light), (9, .light), (10, .light), (11, .light), (12, .light), (13, .light), (14, .light), (15, .light), (16, .light), (17, .light), (18, .light), (19, .light), (20, .light), (21, .light), (22, .step), (23, .light), (24, .light)]; kernel_rfl; rfl; kernel_rfl; (repeat (first | exact Picks.nil | (apply Picks.cons; rfl)))) | (refine dw_skip ?_) | (refine dw_exit ?_)); simp (decide := true) only [go_sem, reduceIte, reduceCtorEq, Nat.reduceEqDiff, Nat.reduceAdd, Nat.reduceMul, Nat.reduceSub, Nat.reduceLeDiff, Nat.reduceBEq])))
            refine dw_ret ?_; simp (decide := true) only [go_sem, reduceIte, reduceCtorEq, Nat.reduceEqDiff, Nat.reduceAdd, Nat.reduceMul, Nat.reduceSub, Nat.reduceLeDiff, Nat.reduceBEq]
            have : ¬ xs = ys := fun e => by
              subst e
              rw [hx1] at hy1; injection hy1 with e; subst e
              rw [beq_bytes_refl] at hb; cases hb
            simp [this]
          · simp
        | true =>
          have hg : x.gloss = y.gloss := by rw [beq_bytes] at hb; exact of_decide_eq_true hb
          (repeat (first | (refine dw_seq ?_) | (refine dw_block ?_) | ((first | (refine dw_reg (N := 42) rfl (by kernel_rfl) ?_) | (apply dw_drw (id := 6) (N := 42) [(0, .light), (1, .light), (2, .light), (3, .light), (4, .light), (5, .light), (6, .light), (7, .light), (8, .light), (9, .light), (10, .light), (11, .light), (12, .light), (13, .light), (14, .light), (15, .light), (16, .light), (17, .light), (18, .light), (19, .light), (20, .light), (21, .light), (22, .step), (23, .light), (24, .light)]; kernel_rfl; rfl; kernel_rfl; (repeat (first | exact Picks.nil | (apply Picks.cons; rfl)))) | (refine dw_skip ?_) | (refine dw_exit ?_)); simp (decide := true) only [go_sem, reduceIte, reduceCtorEq, Nat.reduceEqDiff, Nat.reduceAdd, Nat.reduceMul, Nat.reduceSub, Nat.reduceLeDiff, Nat.reduceBEq, hx1, hy1, Row.enc, hb])))
          (first | (refine CallC.mk (parts_D x.senses y.senses (hsx x (List.mem_of_getElem? hx1)) (hsy y (List.mem_of_getElem? hy1))) (LeL.of_eq rfl) ?_) | (refine CallC.light (parts_D x.senses y.senses (hsx x (List.mem_of_getElem? hx1)) (hsy y (List.mem_of_getElem? hy1))) (LeL.of_eq rfl) ?_)); simp (decide := true) only [go_sem, reduceIte, reduceCtorEq, Nat.reduceEqDiff, Nat.reduceAdd, Nat.reduceMul, Nat.reduceSub, Nat.reduceLeDiff, Nat.reduceBEq]
          apply dw_cond; (simp (decide := true) only [go_sem, reduceIte, reduceCtorEq, Nat.reduceEqDiff, Nat.reduceAdd, Nat.reduceMul, Nat.reduceSub, Nat.reduceLeDiff, Nat.reduceBEq]; rfl)
          · intro h3
            have h4 : ¬ x.senses = y.senses := by simpa using h3
            (repeat (first | (refine dw_seq ?_) | (refine dw_block ?_) | ((first | (refine dw_reg (N := 42) rfl (by kernel_rfl) ?_) | (apply dw_drw (id := 6) (N := 42) [(0, .light), (1, .light), (2, .light), (3, .light), (4, .light), (5, .light), (6, .light), (7, .light), (8, .light), (9, .light), (10, .light), (11, .light), (12, .light), (13, .light), (14, .light), (15, .light), (16, .light), (17, .light), (18, .light), (19, .light), (20, .light), (21, .light), (22, .step), (23, .light), (24, .light)]; kernel_rfl; rfl; kernel_rfl; (repeat (first | exact Picks.nil | (apply Picks.cons; rfl)))) | (refine dw_skip ?_) | (refine dw_exit ?_)); simp (decide := true) only [go_sem, reduceIte, reduceCtorEq, Nat.reduceEqDiff, Nat.reduceAdd, Nat.reduceMul, Nat.reduceSub, Nat.reduceLeDiff, Nat.reduceBEq])))
            refine dw_ret ?_; simp (decide := true) only [go_sem, reduceIte, reduceCtorEq, Nat.reduceEqDiff, Nat.reduceAdd, Nat.reduceMul, Nat.reduceSub, Nat.reduceLeDiff, Nat.reduceBEq]
            have : ¬ xs = ys := fun e => by
              subst e
              rw [hx1] at hy1; injection hy1 with e; subst e
              exact h4 rfl
            simp [this]
          · intro h3
            have h4 : x.senses = y.senses := by simpa using h3
            (repeat (first | (refine dw_seq ?_) | (refine dw_block ?_) | ((first | (refine dw_reg (N := 42) rfl (by kernel_rfl) ?_) | (apply dw_drw (id := 6) (N := 42) [(0, .light), (1, .light), (2, .light), (3, .light), (4, .light), (5, .light), (6, .light), (7, .light), (8, .light), (9, .light), (10, .light), (11, .light), (12, .light), (13, .light), (14, .light), (15, .light), (16, .light), (17, .light), (18, .light), (19, .light), (20, .light), (21, .light), (22, .step), (23, .light), (24, .light)]; kernel_rfl; rfl; kernel_rfl; (repeat (first | exact Picks.nil | (apply Picks.cons; rfl)))) | (refine dw_skip ?_) | (refine dw_exit ?_)); simp (decide := true) only [go_sem, reduceIte, reduceCtorEq, Nat.reduceEqDiff, Nat.reduceAdd, Nat.reduceMul, Nat.reduceSub, Nat.reduceLeDiff, Nat.reduceBEq, hw])))
            refine ⟨k + 1, ⟨by omega, below_succ hall ?_⟩, by omega, sub_kn rfl (by simp (decide := true) only [go_sem, reduceIte, reduceCtorEq, Nat.reduceEqDiff, Nat.reduceAdd, Nat.reduceMul, Nat.reduceSub, Nat.reduceLeDiff, Nat.reduceBEq]) (by simp [noMem])⟩
            rw [hx1, hy1]
            cases x; cases y; simp_all
      · simp
    · have hd : decide ((k : Int) < (xs.length : Int)) = false := by simpa using hge
      have hkl : k = xs.length := by omega
      (repeat (first | (refine dw_seq ?_) | (refine dw_block ?_) | ((first | (refine dw_reg (N := 42) rfl (by kernel_rfl) ?_) | (apply dw_drw (id := 6) (N := 42) [(0, .light), (1, .light), (2, .light), (3, .light), (4, .light), (5, .light), (6, .light), (7, .light), (8, .light), (9, .light), (10, .light), (11, .light), (12, .light), (13, .light), (14, .light), (15, .light), (16, .light), (17, .light), (18, .light), (19, .light), (20, .light), (21, .light), (22, .step), (23, .light), (24, .light)]; kernel_rfl; rfl; kernel_rfl; (repeat (first | exact Picks.nil | (apply Picks.cons; rfl)))) | (refine dw_skip ?_) | (refine dw_exit ?_)); simp (decide := true) only [go_sem, reduceIte, reduceCtorEq, Nat.reduceEqDiff, Nat.reduceAdd, Nat.reduceMul, Nat.reduceSub, Nat.reduceLeDiff, Nat.reduceBEq, hd])))
      apply dw_cond; (simp (decide := true) only [go_sem, reduceIte, reduceCtorEq, Nat.reduceEqDiff, Nat.reduceAdd, Nat.reduceMul, Nat.reduceSub, Nat.reduceLeDiff, Nat.reduceBEq]; rfl)
      · simp
      intro _
      (repeat (first | (refine dw_seq ?_) | (refine dw_block ?_) | ((first | (refine dw_reg (N := 42) rfl (by kernel_rfl) ?_) | (apply dw_drw (id := 6) (N := 42) [(0, .light), (1, .light), (2, .light), (3, .light), (4, .light), (5, .light), (6, .light), (7, .light), (8, .light), (9, .light), (10, .light), (11, .light), (12, .light), (13, .light), (14, .light), (15, .light), (16, .light), (17, .light), (18, .light), (19, .light), (20, .light), (21, .light), (22, .step), (23, .light), (24, .light)]; kernel_rfl; rfl; kernel_rfl; (repeat (first | exact Picks.nil | (apply Picks.cons; rfl)))) | (refine dw_skip ?_) | (refine dw_exit ?_)); simp (decide := true) only [go_sem, reduceIte, reduceCtorEq, Nat.reduceEqDiff, Nat.reduceAdd, Nat.reduceMul, Nat.reduceSub, Nat.reduceLeDiff, Nat.reduceBEq])))
      refine dw_ret ?_; simp (decide := true) only [go_sem, reduceIte, reduceCtorEq, Nat.reduceEqDiff, Nat.reduceAdd, Nat.reduceMul, Nat.reduceSub, Nat.reduceLeDiff, Nat.reduceBEq]
      have : xs = ys := same_iff xs ys hl (by rw [← hkl]; exact hall)
      simp [this]

structure Sense where
  gloss : ByteArray
  dfn : ByteArray
def Sense.enc (s : Sense) : List C := [ls s.gloss, ls s.dfn]

structure Entry where
  id : Int
  form : List (List C)
  cls : C
  alts : List (List (List C))
  main : C
  senses : List Sense
  links : List (List C)
  refs : List (List C)
def Entry.enc (e : Entry) : List C := [li e.id, .sl 1 e.form, e.cls, .sl 1 (e.alts.map fun a => [.sl 1 a]), e.main, .sl 2 (e.senses.map Sense.enc), .sl 2 e.links, .sl 2 e.refs]

def dupAt (ss : List Sense) (i k : Nat) : Option Unit := match ss[i]?, ss[k]? with
  | some a, some b => if (a.gloss == b.gloss) = true then some () else none
  | _, _ => none

/-- No Gloss twice. -/
def onceB (ss : List Sense) : Bool := (fs ss.length fun i => fs i (dupAt ss i)).isNone

--F23
set_option maxRecDepth 10000 in
set_option maxHeartbeats 2000000 in
theorem once_D (e : Entry) (hs : e.senses.length ≤ 1000000) : DCalls Try.prog 23 [.agg (e.enc.map T.c)] (dv (lb (onceB e.senses))) := by
  have hmax : (1000000 : Nat) < maxLen := by simp [maxLen]
  refine dcalls (N := 30) (rs := [.tmp 2]) (by kernel_rfl) Try.func23 rfl rfl rfl (by simp) ?_
  (repeat (first | (refine dw_seq ?_) | (refine dw_block ?_) | ((first | (refine dw_reg (N := 30) rfl (by kernel_rfl) ?_) | (apply dw_drw (id := 7) (N := 30) [(0, .light), (1, .light), (2, .light), (3, .light), (4, .light), (5, .light), (6, .light), (7, .light), (8, .light), (9, .light), (10, .light), (11, .light), (12, .light)]; kernel_rfl; rfl; kernel_rfl; (repeat (first | exact Picks.nil | (apply Picks.cons; rfl)))) | (refine dw_skip ?_) | (refine dw_exit ?_)); simp (decide := true) only [go_sem, reduceIte, reduceCtorEq, Nat.reduceEqDiff, Nat.reduceAdd, Nat.reduceMul, Nat.reduceSub, Nat.reduceLeDiff, Nat.reduceBEq, Entry.enc])))
  refine dw_loop_fam (fun k : Nat => kn 30 [(1, .one (.bx 1 8 0 0)), (7, dv (li e.senses.length)), (8, dv (li k))] (ml [(1, [e.enc.map T.c])]))
    (fun k => k ≤ e.senses.length ∧ ∀ j < k, fs j (dupAt e.senses j) = none) (fun k => e.senses.length - k) 0 (sub_ml rfl (by simp (decide := true) only [go_sem, reduceIte, reduceCtorEq, Nat.reduceEqDiff, Nat.reduceAdd, Nat.reduceMul, Nat.reduceSub, Nat.reduceLeDiff, Nat.reduceBEq]) (by simp (decide := true) only [go_sem, reduceIte, reduceCtorEq, Nat.reduceEqDiff, Nat.reduceAdd, Nat.reduceMul, Nat.reduceSub, Nat.reduceLeDiff, Nat.reduceBEq, Entry.enc])) ⟨by omega, fun j hj => by omega⟩ ?_
  rintro k ⟨hk, hall⟩
  rcases Nat.lt_or_ge k e.senses.length with hlt | hge
  · obtain ⟨x, hx1⟩ : ∃ x, e.senses[k]? = some x := ⟨e.senses[k], List.getElem?_eq_getElem hlt⟩
    have hd : decide ((k : Int) < (e.senses.length : Int)) = true := by simpa using hlt
    have hw := wrap_succ k (by omega)
    (repeat (first | (refine dw_seq ?_) | (refine dw_block ?_) | ((first | (refine dw_reg (N := 30) rfl (by kernel_rfl) ?_) | (apply dw_drw (id := 7) (N := 30) [(0, .light), (1, .light), (2, .light), (3, .light), (4, .light), (5, .light), (6, .light), (7, .light), (8, .light), (9, .light), (10, .light), (11, .light), (12, .light)]; kernel_rfl; rfl; kernel_rfl; (repeat (first | exact Picks.nil | (apply Picks.cons; rfl)))) | (refine dw_skip ?_) | (refine dw_exit ?_)); simp (decide := true) only [go_sem, reduceIte, reduceCtorEq, Nat.reduceEqDiff, Nat.reduceAdd, Nat.reduceMul, Nat.reduceSub, Nat.reduceLeDiff, Nat.reduceBEq, hd])))
    apply dw_cond; (simp (decide := true) only [go_sem, reduceIte, reduceCtorEq, Nat.reduceEqDiff, Nat.reduceAdd, Nat.reduceMul, Nat.reduceSub, Nat.reduceLeDiff, Nat.reduceBEq]; rfl)
    · intro _
      (repeat (first | (refine dw_seq ?_) | (refine dw_block ?_) | ((first | (refine dw_reg (N := 30) rfl (by kernel_rfl) ?_) | (apply dw_drw (id := 7) (N := 30) [(0, .light), (1, .light), (2, .light), (3, .light), (4, .light), (5, .light), (6, .light), (7, .light), (8, .light), (9, .light), (10, .light), (11, .light), (12, .light)]; kernel_rfl; rfl; kernel_rfl; (repeat (first | exact Picks.nil | (apply Picks.cons; rfl)))) | (refine dw_skip ?_) | (refine dw_exit ?_)); simp (decide := true) only [go_sem, reduceIte, reduceCtorEq, Nat.reduceEqDiff, Nat.reduceAdd, Nat.reduceMul, Nat.reduceSub, Nat.reduceLeDiff, Nat.reduceBEq])))
      refine dw_loop_fam (fun q : Nat => kn 30 [(1, .one (.bx 1 8 0 0)), (3, dv (li k)), (4, dv (li q)), (7, dv (li e.senses.length)), (8, dv (li k))] (ml [(1, [e.enc.map T.c])]))
        (fun q => q ≤ k ∧ ∀ j < q, dupAt e.senses k j = none) (fun q => k - q) 0 (sub_ml rfl (by simp (decide := true) only [go_sem, reduceIte, reduceCtorEq, Nat.reduceEqDiff, Nat.reduceAdd, Nat.reduceMul, Nat.reduceSub, Nat.reduceLeDiff, Nat.reduceBEq]) (by simp (decide := true) only [go_sem, reduceIte, reduceCtorEq, Nat.reduceEqDiff, Nat.reduceAdd, Nat.reduceMul, Nat.reduceSub, Nat.reduceLeDiff, Nat.reduceBEq, Entry.enc])) ⟨by omega, fun j hj => by omega⟩ ?_
      rintro q ⟨hq, hall2⟩
      rcases Nat.lt_or_ge q k with hqlt | hqge
      · obtain ⟨y, hy1⟩ : ∃ y, e.senses[q]? = some y := ⟨e.senses[q]'(by omega), List.getElem?_eq_getElem (by omega)⟩
        have hd2 : decide ((q : Int) < (k : Int)) = true := by simpa using hqlt
        have hw2 := wrap_succ q (by omega)
        (repeat (first | (refine dw_seq ?_) | (refine dw_block ?_) | ((first | (refine dw_reg (N := 30) rfl (by kernel_rfl) ?_) | (apply dw_drw (id := 7) (N := 30) [(0, .light), (1, .light), (2, .light), (3, .light), (4, .light), (5, .light), (6, .light), (7, .light), (8, .light), (9, .light), (10, .light), (11, .light), (12, .light)]; kernel_rfl; rfl; kernel_rfl; (repeat (first | exact Picks.nil | (apply Picks.cons; rfl)))) | (refine dw_skip ?_) | (refine dw_exit ?_)); simp (decide := true) only [go_sem, reduceIte, reduceCtorEq, Nat.reduceEqDiff, Nat.reduceAdd, Nat.reduceMul, Nat.reduceSub, Nat.reduceLeDiff, Nat.reduceBEq, hd2])))
        apply dw_cond; (simp (decide := true) only [go_sem, reduceIte, reduceCtorEq, Nat.reduceEqDiff, Nat.reduceAdd, Nat.reduceMul, Nat.reduceSub, Nat.reduceLeDiff, Nat.reduceBEq]; rfl)
        · intro _
          (repeat (first | (refine dw_seq ?_) | (refine dw_block ?_) | ((first | (refine dw_reg (N := 30) rfl (by kernel_rfl) ?_) | (apply dw_drw (id := 7) (N := 30) [(0, .light), (1, .light), (2, .light), (3, .light), (4, .light), (5, .light), (6, .light), (7, .light), (8, .light), (9, .light), (10, .light), (11, .light), (12, .light)]; kernel_rfl; rfl; kernel_rfl; (repeat (first | exact Picks.nil | (apply Picks.cons; rfl)))) | (refine dw_skip ?_) | (refine dw_exit ?_)); simp (decide := true) only [go_sem, reduceIte, reduceCtorEq, Nat.reduceEqDiff, Nat.reduceAdd, Nat.reduceMul, Nat.reduceSub, Nat.reduceLeDiff, Nat.reduceBEq, hx1, hy1, Entry.enc, Sense.enc])))
          apply dw_cond; (simp (decide := true) only [go_sem, reduceIte, reduceCtorEq, Nat.reduceEqDiff, Nat.reduceAdd, Nat.reduceMul, Nat.reduceSub, Nat.reduceLeDiff, Nat.reduceBEq]; rfl)
          · intro h3
            (repeat (first | (refine dw_seq ?_) | (refine dw_block ?_) | ((first | (refine dw_reg (N := 30) rfl (by kernel_rfl) ?_) | (apply dw_drw (id := 7) (N := 30) [(0, .light), (1, .light), (2, .light), (3, .light), (4, .light), (5, .light), (6, .light), (7, .light), (8, .light), (9, .light), (10, .light), (11, .light), (12, .light)]; kernel_rfl; rfl; kernel_rfl; (repeat (first | exact Picks.nil | (apply Picks.cons; rfl)))) | (refine dw_skip ?_) | (refine dw_exit ?_)); simp (decide := true) only [go_sem, reduceIte, reduceCtorEq, Nat.reduceEqDiff, Nat.reduceAdd, Nat.reduceMul, Nat.reduceSub, Nat.reduceLeDiff, Nat.reduceBEq])))
            refine dw_ret ?_; simp (decide := true) only [go_sem, reduceIte, reduceCtorEq, Nat.reduceEqDiff, Nat.reduceAdd, Nat.reduceMul, Nat.reduceSub, Nat.reduceLeDiff, Nat.reduceBEq]
            have h4 := fs_some hall2 hqlt (by simp only [dupAt, hx1, hy1, h3, if_true]; rfl)
            have h5 : fs e.senses.length (fun i => fs i (dupAt e.senses i)) = some () := fs_some hall hlt h4
            simp [onceB, h5]
          · intro h3
            (repeat (first | (refine dw_seq ?_) | (refine dw_block ?_) | ((first | (refine dw_reg (N := 30) rfl (by kernel_rfl) ?_) | (apply dw_drw (id := 7) (N := 30) [(0, .light), (1, .light), (2, .light), (3, .light), (4, .light), (5, .light), (6, .light), (7, .light), (8, .light), (9, .light), (10, .light), (11, .light), (12, .light)]; kernel_rfl; rfl; kernel_rfl; (repeat (first | exact Picks.nil | (apply Picks.cons; rfl)))) | (refine dw_skip ?_) | (refine dw_exit ?_)); simp (decide := true) only [go_sem, reduceIte, reduceCtorEq, Nat.reduceEqDiff, Nat.reduceAdd, Nat.reduceMul, Nat.reduceSub, Nat.reduceLeDiff, Nat.reduceBEq, hw2])))
            refine ⟨q + 1, ⟨by omega, below_succ hall2 (by simp [dupAt, hx1, hy1, h3])⟩, by omega, sub_ml rfl (by simp (decide := true) only [go_sem, reduceIte, reduceCtorEq, Nat.reduceEqDiff, Nat.reduceAdd, Nat.reduceMul, Nat.reduceSub, Nat.reduceLeDiff, Nat.reduceBEq]) (by simp (decide := true) only [go_sem, reduceIte, reduceCtorEq, Nat.reduceEqDiff, Nat.reduceAdd, Nat.reduceMul, Nat.reduceSub, Nat.reduceLeDiff, Nat.reduceBEq, Entry.enc])⟩
        · simp
      · have hd2 : decide ((q : Int) < (k : Int)) = false := by simpa using hqge
        have hqk : q = k := by omega
        subst hqk
        (repeat (first | (refine dw_seq ?_) | (refine dw_block ?_) | ((first | (refine dw_reg (N := 30) rfl (by kernel_rfl) ?_) | (apply dw_drw (id := 7) (N := 30) [(0, .light), (1, .light), (2, .light), (3, .light), (4, .light), (5, .light), (6, .light), (7, .light), (8, .light), (9, .light), (10, .light), (11, .light), (12, .light)]; kernel_rfl; rfl; kernel_rfl; (repeat (first | exact Picks.nil | (apply Picks.cons; rfl)))) | (refine dw_skip ?_) | (refine dw_exit ?_)); simp (decide := true) only [go_sem, reduceIte, reduceCtorEq, Nat.reduceEqDiff, Nat.reduceAdd, Nat.reduceMul, Nat.reduceSub, Nat.reduceLeDiff, Nat.reduceBEq, hd2])))
        apply dw_cond; (simp (decide := true) only [go_sem, reduceIte, reduceCtorEq, Nat.reduceEqDiff, Nat.reduceAdd, Nat.reduceMul, Nat.reduceSub, Nat.reduceLeDiff, Nat.reduceBEq]; rfl)
        · simp
        intro _
        (repeat (first | (refine dw_seq ?_) | (refine dw_block ?_) | ((first | (refine dw_reg (N := 30) rfl (by kernel_rfl) ?_) | (apply dw_drw (id := 7) (N := 30) [(0, .light), (1, .light), (2, .light), (3, .light), (4, .light), (5, .light), (6, .light), (7, .light), (8, .light), (9, .light), (10, .light), (11, .light), (12, .light)]; kernel_rfl; rfl; kernel_rfl; (repeat (first | exact Picks.nil | (apply Picks.cons; rfl)))) | (refine dw_skip ?_) | (refine dw_exit ?_)); simp (decide := true) only [go_sem, reduceIte, reduceCtorEq, Nat.reduceEqDiff, Nat.reduceAdd, Nat.reduceMul, Nat.reduceSub, Nat.reduceLeDiff, Nat.reduceBEq, hw])))
        refine ⟨q + 1, ⟨by omega, below_succ hall (fs_none hall2)⟩, by omega, sub_ml rfl (by simp (decide := true) only [go_sem, reduceIte, reduceCtorEq, Nat.reduceEqDiff, Nat.reduceAdd, Nat.reduceMul, Nat.reduceSub, Nat.reduceLeDiff, Nat.reduceBEq]) (by simp (decide := true) only [go_sem, reduceIte, reduceCtorEq, Nat.reduceEqDiff, Nat.reduceAdd, Nat.reduceMul, Nat.reduceSub, Nat.reduceLeDiff, Nat.reduceBEq, Entry.enc])⟩
    · simp
  · have hd : decide ((k : Int) < (e.senses.length : Int)) = false := by simpa using hge
    have hkl : k = e.senses.length := by omega
    subst hkl
    (repeat (first | (refine dw_seq ?_) | (refine dw_block ?_) | ((first | (refine dw_reg (N := 30) rfl (by kernel_rfl) ?_) | (apply dw_drw (id := 7) (N := 30) [(0, .light), (1, .light), (2, .light), (3, .light), (4, .light), (5, .light), (6, .light), (7, .light), (8, .light), (9, .light), (10, .light), (11, .light), (12, .light)]; kernel_rfl; rfl; kernel_rfl; (repeat (first | exact Picks.nil | (apply Picks.cons; rfl)))) | (refine dw_skip ?_) | (refine dw_exit ?_)); simp (decide := true) only [go_sem, reduceIte, reduceCtorEq, Nat.reduceEqDiff, Nat.reduceAdd, Nat.reduceMul, Nat.reduceSub, Nat.reduceLeDiff, Nat.reduceBEq, hd])))
    apply dw_cond; (simp (decide := true) only [go_sem, reduceIte, reduceCtorEq, Nat.reduceEqDiff, Nat.reduceAdd, Nat.reduceMul, Nat.reduceSub, Nat.reduceLeDiff, Nat.reduceBEq]; rfl)
    · simp
    intro _
    (repeat (first | (refine dw_seq ?_) | (refine dw_block ?_) | ((first | (refine dw_reg (N := 30) rfl (by kernel_rfl) ?_) | (apply dw_drw (id := 7) (N := 30) [(0, .light), (1, .light), (2, .light), (3, .light), (4, .light), (5, .light), (6, .light), (7, .light), (8, .light), (9, .light), (10, .light), (11, .light), (12, .light)]; kernel_rfl; rfl; kernel_rfl; (repeat (first | exact Picks.nil | (apply Picks.cons; rfl)))) | (refine dw_skip ?_) | (refine dw_exit ?_)); simp (decide := true) only [go_sem, reduceIte, reduceCtorEq, Nat.reduceEqDiff, Nat.reduceAdd, Nat.reduceMul, Nat.reduceSub, Nat.reduceLeDiff, Nat.reduceBEq])))
    refine dw_ret ?_; simp (decide := true) only [go_sem, reduceIte, reduceCtorEq, Nat.reduceEqDiff, Nat.reduceAdd, Nat.reduceMul, Nat.reduceSub, Nat.reduceLeDiff, Nat.reduceBEq]
    simp [onceB, fs_none hall]
end Go.Proofs.Ytffcabenoakmgaa

/- Contracts of the reference: Fit, Find, Check. -/
namespace Go.Proofs.Ytffcabenoakmgaa
open Go.Dl
attribute [local irreducible] DW DCalls ECalls wk

theorem wrap_pred (k : Nat) (h0 : 0 < k) (h : k ≤ maxLen) : IntKind.i64.wrap ((k : Int) - 1) = ((k - 1 : Nat) : Int) := by
  unfold maxLen at h
  rw [wrap_i64 (by omega) (by omega)]; omega

def fitAt (l : List Entry) (i : Nat) : Option Unit :=
  match l[i]? with
  | none => none
  | some x => if onceB x.senses = false then some () else if i = 0 then none else match l[i - 1]? with
    | none => none
    | some y => if x.id ≤ y.id then some () else none

def fitB (l : List Entry) : Bool := (fs l.length (fitAt l)).isNone

--F12
set_option maxRecDepth 10000 in
set_option maxHeartbeats 2000000 in
theorem fit_D (l : List Entry) (hl : l.length ≤ 1000000) (hs : ∀ e ∈ l, e.senses.length ≤ 1000000) : DCalls Try.prog 12 [dv (.sl 8 (l.map Entry.enc))] (dv (lb (fitB l))) := by
  have hmax : (1000000 : Nat) < maxLen := by simp [maxLen]
  refine dcalls (N := 34) (rs := [.tmp 2]) (by kernel_rfl) Try.func12 rfl rfl rfl (by simp) ?_
  (repeat (first | (refine dw_seq ?_) | (refine dw_block ?_) | ((first | (refine dw_reg (N := 34) rfl (by kernel_rfl) ?_) | (apply dw_drw (id := 4) (N := 34) [(0, .light), (1, .light), (2, .light), (3, .light), (4, .light), (5, .light), (6, .light), (7, .light), (8, .light), (9, .light), (10, .light), (11, .light), (12, .light), (13, .light), (14, .light), (15, .light), (16, .light), (17, .light), (18, .light), (19, .light), (20, .light), (21, .step), (22, .light), (23, .light)]; kernel_rfl; rfl; kernel_rfl; (repeat (first | exact Picks.nil | (apply Picks.cons; rfl)))) | (refine dw_skip ?_) | (refine dw_exit ?_)); simp (decide := true) only [go_sem, reduceIte, reduceCtorEq, Nat.reduceEqDiff, Nat.reduceAdd, Nat.reduceMul, Nat.reduceSub, Nat.reduceLeDiff, Nat.reduceBEq])))
  refine dw_loop_fam (fun k : Nat => kn 34 [(0, dv (.sl 8 (l.map Entry.enc))), (5, dv (li l.length)), (6, dv (li k))] noMem)
    (fun k => k ≤ l.length ∧ ∀ j < k, fitAt l j = none) (fun k => l.length - k) 0 (sub_kn rfl (by simp (decide := true) only [go_sem, reduceIte, reduceCtorEq, Nat.reduceEqDiff, Nat.reduceAdd, Nat.reduceMul, Nat.reduceSub, Nat.reduceLeDiff, Nat.reduceBEq]) (by simp [noMem])) ⟨by omega, fun j hj => by omega⟩ ?_
  rintro k ⟨hk, hall⟩
  rcases Nat.lt_or_ge k l.length with hlt | hge
  · obtain ⟨x, hx1⟩ : ∃ x, l[k]? = some x := ⟨l[k], List.getElem?_eq_getElem hlt⟩
    have hd : decide ((k : Int) < (l.length : Int)) = true := by simpa using hlt
    have hw := wrap_succ k (by omega)
    have hxs := hs x (List.mem_of_getElem? hx1)
    have tail : ∀ b : Bool, b = true → fitAt l k = some () → fs l.length (fitAt l) = some () := fun b _ h => fs_some hall hlt h
    (repeat (first | (refine dw_seq ?_) | (refine dw_block ?_) | ((first | (refine dw_reg (N := 34) rfl (by kernel_rfl) ?_) | (apply dw_drw (id := 4) (N := 34) [(0, .light), (1, .light), (2, .light), (3, .light), (4, .light), (5, .light), (6, .light), (7, .light), (8, .light), (9, .light), (10, .light), (11, .light), (12, .light), (13, .light), (14, .light), (15, .light), (16, .light), (17, .light), (18, .light), (19, .light), (20, .light), (21, .step), (22, .light), (23, .light)]; kernel_rfl; rfl; kernel_rfl; (repeat (first | exact Picks.nil | (apply Picks.cons; rfl)))) | (refine dw_skip ?_) | (refine dw_exit ?_)); simp (decide := true) only [go_sem, reduceIte, reduceCtorEq, Nat.reduceEqDiff, Nat.reduceAdd, Nat.reduceMul, Nat.reduceSub, Nat.reduceLeDiff, Nat.reduceBEq, hd])))
    apply dw_cond; (simp (decide := true) only [go_sem, reduceIte, reduceCtorEq, Nat.reduceEqDiff, Nat.reduceAdd, Nat.reduceMul, Nat.reduceSub, Nat.reduceLeDiff, Nat.reduceBEq]; rfl)
    · intro _
      rcases Nat.eq_zero_or_pos k with hk0 | hk0
      · have hg : decide ((0 : Int) < (k : Int)) = false := by simp; omega
        (repeat (first | (refine dw_seq ?_) | (refine dw_block ?_) | ((first | (refine dw_reg (N := 34) rfl (by kernel_rfl) ?_) | (apply dw_drw (id := 4) (N := 34) [(0, .light), (1, .light), (2, .light), (3, .light), (4, .light), (5, .light), (6, .light), (7, .light), (8, .light), (9, .light), (10, .light), (11, .light), (12, .light), (13, .light), (14, .light), (15, .light), (16, .light), (17, .light), (18, .light), (19, .light), (20, .light), (21, .step), (22, .light), (23, .light)]; kernel_rfl; rfl; kernel_rfl; (repeat (first | exact Picks.nil | (apply Picks.cons; rfl)))) | (refine dw_skip ?_) | (refine dw_exit ?_)); simp (decide := true) only [go_sem, reduceIte, reduceCtorEq, Nat.reduceEqDiff, Nat.reduceAdd, Nat.reduceMul, Nat.reduceSub, Nat.reduceLeDiff, Nat.reduceBEq, hx1, hg, Entry.enc])))
        (first | (refine CallC.mk (once_D x hxs) (LeL.of_eq rfl) ?_) | (refine CallC.light (once_D x hxs) (LeL.of_eq rfl) ?_)); simp (decide := true) only [go_sem, reduceIte, reduceCtorEq, Nat.reduceEqDiff, Nat.reduceAdd, Nat.reduceMul, Nat.reduceSub, Nat.reduceLeDiff, Nat.reduceBEq]
        apply dw_cond; (simp (decide := true) only [go_sem, reduceIte, reduceCtorEq, Nat.reduceEqDiff, Nat.reduceAdd, Nat.reduceMul, Nat.reduceSub, Nat.reduceLeDiff, Nat.reduceBEq]; rfl)
        · intro h3
          have h4 : onceB x.senses = false := by simpa using h3
          (repeat (first | (refine dw_seq ?_) | (refine dw_block ?_) | ((first | (refine dw_reg (N := 34) rfl (by kernel_rfl) ?_) | (apply dw_drw (id := 4) (N := 34) [(0, .light), (1, .light), (2, .light), (3, .light), (4, .light), (5, .light), (6, .light), (7, .light), (8, .light), (9, .light), (10, .light), (11, .light), (12, .light), (13, .light), (14, .light), (15, .light), (16, .light), (17, .light), (18, .light), (19, .light), (20, .light), (21, .step), (22, .light), (23, .light)]; kernel_rfl; rfl; kernel_rfl; (repeat (first | exact Picks.nil | (apply Picks.cons; rfl)))) | (refine dw_skip ?_) | (refine dw_exit ?_)); simp (decide := true) only [go_sem, reduceIte, reduceCtorEq, Nat.reduceEqDiff, Nat.reduceAdd, Nat.reduceMul, Nat.reduceSub, Nat.reduceLeDiff, Nat.reduceBEq])))
          refine dw_ret ?_; simp (decide := true) only [go_sem, reduceIte, reduceCtorEq, Nat.reduceEqDiff, Nat.reduceAdd, Nat.reduceMul, Nat.reduceSub, Nat.reduceLeDiff, Nat.reduceBEq]
          simp [fitB, fs_some hall hlt (by simp [fitAt, hx1, h4] : fitAt l k = some ())]
        · intro h3
          have h4 : onceB x.senses = true := by simpa using h3
          (repeat (first | (refine dw_seq ?_) | (refine dw_block ?_) | ((first | (refine dw_reg (N := 34) rfl (by kernel_rfl) ?_) | (apply dw_drw (id := 4) (N := 34) [(0, .light), (1, .light), (2, .light), (3, .light), (4, .light), (5, .light), (6, .light), (7, .light), (8, .light), (9, .light), (10, .light), (11, .light), (12, .light), (13, .light), (14, .light), (15, .light), (16, .light), (17, .light), (18, .light), (19, .light), (20, .light), (21, .step), (22, .light), (23, .light)]; kernel_rfl; rfl; kernel_rfl; (repeat (first | exact Picks.nil | (apply Picks.cons; rfl)))) | (refine dw_skip ?_) | (refine dw_exit ?_)); simp (decide := true) only [go_sem, reduceIte, reduceCtorEq, Nat.reduceEqDiff, Nat.reduceAdd, Nat.reduceMul, Nat.reduceSub, Nat.reduceLeDiff, Nat.reduceBEq, hw])))
          refine ⟨k + 1, ⟨by omega, below_succ hall (by subst hk0; simp [fitAt, hx1, h4])⟩, by omega, sub_kn rfl (by simp (decide := true) only [go_sem, reduceIte, reduceCtorEq, Nat.reduceEqDiff, Nat.reduceAdd, Nat.reduceMul, Nat.reduceSub, Nat.reduceLeDiff, Nat.reduceBEq]) (by simp [noMem])⟩
      · have hg : decide ((0 : Int) < (k : Int)) = true := by simpa using hk0
        obtain ⟨y, hy1⟩ : ∃ y, l[k - 1]? = some y := ⟨l[k - 1]'(by omega), List.getElem?_eq_getElem (by omega)⟩
        have hwp := wrap_pred k hk0 (by omega)
        have hk1 : ¬ k = 0 := by omega
        cases hc : decide (x.id ≤ y.id) with
        | true =>
          (repeat (first | (refine dw_seq ?_) | (refine dw_block ?_) | ((first | (refine dw_reg (N := 34) rfl (by kernel_rfl) ?_) | (apply dw_drw (id := 4) (N := 34) [(0, .light), (1, .light), (2, .light), (3, .light), (4, .light), (5, .light), (6, .light), (7, .light), (8, .light), (9, .light), (10, .light), (11, .light), (12, .light), (13, .light), (14, .light), (15, .light), (16, .light), (17, .light), (18, .light), (19, .light), (20, .light), (21, .step), (22, .light), (23, .light)]; kernel_rfl; rfl; kernel_rfl; (repeat (first | exact Picks.nil | (apply Picks.cons; rfl)))) | (refine dw_skip ?_) | (refine dw_exit ?_)); simp (decide := true) only [go_sem, reduceIte, reduceCtorEq, Nat.reduceEqDiff, Nat.reduceAdd, Nat.reduceMul, Nat.reduceSub, Nat.reduceLeDiff, Nat.reduceBEq, hx1, hy1, hg, hwp, Entry.enc, hc])))
          apply dw_cond; (simp (decide := true) only [go_sem, reduceIte, reduceCtorEq, Nat.reduceEqDiff, Nat.reduceAdd, Nat.reduceMul, Nat.reduceSub, Nat.reduceLeDiff, Nat.reduceBEq]; rfl)
          · intro _
            (repeat (first | (refine dw_seq ?_) | (refine dw_block ?_) | ((first | (refine dw_reg (N := 34) rfl (by kernel_rfl) ?_) | (apply dw_drw (id := 4) (N := 34) [(0, .light), (1, .light), (2, .light), (3, .light), (4, .light), (5, .light), (6, .light), (7, .light), (8, .light), (9, .light), (10, .light), (11, .light), (12, .light), (13, .light), (14, .light), (15, .light), (16, .light), (17, .light), (18, .light), (19, .light), (20, .light), (21, .step), (22, .light), (23, .light)]; kernel_rfl; rfl; kernel_rfl; (repeat (first | exact Picks.nil | (apply Picks.cons; rfl)))) | (refine dw_skip ?_) | (refine dw_exit ?_)); simp (decide := true) only [go_sem, reduceIte, reduceCtorEq, Nat.reduceEqDiff, Nat.reduceAdd, Nat.reduceMul, Nat.reduceSub, Nat.reduceLeDiff, Nat.reduceBEq])))
            refine dw_ret ?_; simp (decide := true) only [go_sem, reduceIte, reduceCtorEq, Nat.reduceEqDiff, Nat.reduceAdd, Nat.reduceMul, Nat.reduceSub, Nat.reduceLeDiff, Nat.reduceBEq]
            have hc' : x.id ≤ y.id := by simpa using hc
            have : fitAt l k = some () := by
              simp only [fitAt, hx1, hy1, hk1, hc', if_true, if_false]
              split <;> rfl
            simp [fitB, fs_some hall hlt this]
          · simp
        | false =>
          have hc' : ¬ x.id ≤ y.id := by simpa using hc
          (repeat (first | (refine dw_seq ?_) | (refine dw_block ?_) | ((first | (refine dw_reg (N := 34) rfl (by kernel_rfl) ?_) | (apply dw_drw (id := 4) (N := 34) [(0, .light), (1, .light), (2, .light), (3, .light), (4, .light), (5, .light), (6, .light), (7, .light), (8, .light), (9, .light), (10, .light), (11, .light), (12, .light), (13, .light), (14, .light), (15, .light), (16, .light), (17, .light), (18, .light), (19, .light), (20, .light), (21, .step), (22, .light), (23, .light)]; kernel_rfl; rfl; kernel_rfl; (repeat (first | exact Picks.nil | (apply Picks.cons; rfl)))) | (refine dw_skip ?_) | (refine dw_exit ?_)); simp (decide := true) only [go_sem, reduceIte, reduceCtorEq, Nat.reduceEqDiff, Nat.reduceAdd, Nat.reduceMul, Nat.reduceSub, Nat.reduceLeDiff, Nat.reduceBEq, hx1, hy1, hg, hwp, Entry.enc, hc])))
          (first | (refine CallC.mk (once_D x hxs) (LeL.of_eq rfl) ?_) | (refine CallC.light (once_D x hxs) (LeL.of_eq rfl) ?_)); simp (decide := true) only [go_sem, reduceIte, reduceCtorEq, Nat.reduceEqDiff, Nat.reduceAdd, Nat.reduceMul, Nat.reduceSub, Nat.reduceLeDiff, Nat.reduceBEq]
          apply dw_cond; (simp (decide := true) only [go_sem, reduceIte, reduceCtorEq, Nat.reduceEqDiff, Nat.reduceAdd, Nat.reduceMul, Nat.reduceSub, Nat.reduceLeDiff, Nat.reduceBEq]; rfl)
          · intro h3
            have h4 : onceB x.senses = false := by simpa using h3
            (repeat (first | (refine dw_seq ?_) | (refine dw_block ?_) | ((first | (refine dw_reg (N := 34) rfl (by kernel_rfl) ?_) | (apply dw_drw (id := 4) (N := 34) [(0, .light), (1, .light), (2, .light), (3, .light), (4, .light), (5, .light), (6, .light), (7, .light), (8, .light), (9, .light), (10, .light), (11, .light), (12, .light), (13, .light), (14, .light), (15, .light), (16, .light), (17, .light), (18, .light), (19, .light), (20, .light), (21, .step), (22, .light), (23, .light)]; kernel_rfl; rfl; kernel_rfl; (repeat (first | exact Picks.nil | (apply Picks.cons; rfl)))) | (refine dw_skip ?_) | (refine dw_exit ?_)); simp (decide := true) only [go_sem, reduceIte, reduceCtorEq, Nat.reduceEqDiff, Nat.reduceAdd, Nat.reduceMul, Nat.reduceSub, Nat.reduceLeDiff, Nat.reduceBEq])))
            refine dw_ret ?_; simp (decide := true) only [go_sem, reduceIte, reduceCtorEq, Nat.reduceEqDiff, Nat.reduceAdd, Nat.reduceMul, Nat.reduceSub, Nat.reduceLeDiff, Nat.reduceBEq]
            simp [fitB, fs_some hall hlt (by simp [fitAt, hx1, h4] : fitAt l k = some ())]
          · intro h3
            have h4 : onceB x.senses = true := by simpa using h3
            (repeat (first | (refine dw_seq ?_) | (refine dw_block ?_) | ((first | (refine dw_reg (N := 34) rfl (by kernel_rfl) ?_) | (apply dw_drw (id := 4) (N := 34) [(0, .light), (1, .light), (2, .light), (3, .light), (4, .light), (5, .light), (6, .light), (7, .light), (8, .light), (9, .light), (10, .light), (11, .light), (12, .light), (13, .light), (14, .light), (15, .light), (16, .light), (17, .light), (18, .light), (19, .light), (20, .light), (21, .step), (22, .light), (23, .light)]; kernel_rfl; rfl; kernel_rfl; (repeat (first | exact Picks.nil | (apply Picks.cons; rfl)))) | (refine dw_skip ?_) | (refine dw_exit ?_)); simp (decide := true) only [go_sem, reduceIte, reduceCtorEq, Nat.reduceEqDiff, Nat.reduceAdd, Nat.reduceMul, Nat.reduceSub, Nat.reduceLeDiff, Nat.reduceBEq, hw])))
            refine ⟨k + 1, ⟨by omega, below_succ hall (by simp [fitAt, hx1, h4, hy1, hc', hk1])⟩, by omega, sub_kn rfl (by simp (decide := true) only [go_sem, reduceIte, reduceCtorEq, Nat.reduceEqDiff, Nat.reduceAdd, Nat.reduceMul, Nat.reduceSub, Nat.reduceLeDiff, Nat.reduceBEq]) (by simp [noMem])⟩
    · simp
  · have hd : decide ((k : Int) < (l.length : Int)) = false := by simpa using hge
    have hkl : k = l.length := by omega
    subst hkl
    (repeat (first | (refine dw_seq ?_) | (refine dw_block ?_) | ((first | (refine dw_reg (N := 34) rfl (by kernel_rfl) ?_) | (apply dw_drw (id := 4) (N := 34) [(0, .light), (1, .light), (2, .light), (3, .light), (4, .light), (5, .light), (6, .light), (7, .light), (8, .light), (9, .light), (10, .light), (11, .light), (12, .light), (13, .light), (14, .light), (15, .light), (16, .light), (17, .light), (18, .light), (19, .light), (20, .light), (21, .step), (22, .light), (23, .light)]; kernel_rfl; rfl; kernel_rfl; (repeat (first | exact Picks.nil | (apply Picks.cons; rfl)))) | (refine dw_skip ?_) | (refine dw_exit ?_)); simp (decide := true) only [go_sem, reduceIte, reduceCtorEq, Nat.reduceEqDiff, Nat.reduceAdd, Nat.reduceMul, Nat.reduceSub, Nat.reduceLeDiff, Nat.reduceBEq, hd])))
    apply dw_cond; (simp (decide := true) only [go_sem, reduceIte, reduceCtorEq, Nat.reduceEqDiff, Nat.reduceAdd, Nat.reduceMul, Nat.reduceSub, Nat.reduceLeDiff, Nat.reduceBEq]; rfl)
    · simp
    intro _
    (repeat (first | (refine dw_seq ?_) | (refine dw_block ?_) | ((first | (refine dw_reg (N := 34) rfl (by kernel_rfl) ?_) | (apply dw_drw (id := 4) (N := 34) [(0, .light), (1, .light), (2, .light), (3, .light), (4, .light), (5, .light), (6, .light), (7, .light), (8, .light), (9, .light), (10, .light), (11, .light), (12, .light), (13, .light), (14, .light), (15, .light), (16, .light), (17, .light), (18, .light), (19, .light), (20, .light), (21, .step), (22, .light), (23, .light)]; kernel_rfl; rfl; kernel_rfl; (repeat (first | exact Picks.nil | (apply Picks.cons; rfl)))) | (refine dw_skip ?_) | (refine dw_exit ?_)); simp (decide := true) only [go_sem, reduceIte, reduceCtorEq, Nat.reduceEqDiff, Nat.reduceAdd, Nat.reduceMul, Nat.reduceSub, Nat.reduceLeDiff, Nat.reduceBEq])))
    refine dw_ret ?_; simp (decide := true) only [go_sem, reduceIte, reduceCtorEq, Nat.reduceEqDiff, Nat.reduceAdd, Nat.reduceMul, Nat.reduceSub, Nat.reduceLeDiff, Nat.reduceBEq]
    simp [fitB, fs_none hall]

def findAt (l : List Row) (g : ByteArray) (i : Nat) : Option (List Part) :=
  match l[i]? with
  | some r => if (r.gloss == g) = true then some r.senses else none
  | none => none
def findR (l : List Row) (g : ByteArray) : List Part := (fs l.length (findAt l g)).getD []

--F22
set_option maxRecDepth 10000 in
set_option maxHeartbeats 2000000 in
theorem find_D (l : List Row) (g : ByteArray) (hl : l.length ≤ 1000000) : DCalls Try.prog 22 [dv (.sl 2 (l.map Row.enc)), dv (ls g)] (dv (.sl 3 ((findR l g).map Part.enc))) := by
  have hmax : (1000000 : Nat) < maxLen := by simp [maxLen]
  refine dcalls (N := 24) (rs := [.tmp 4]) (by kernel_rfl) Try.func22 rfl rfl rfl (by simp) ?_
  (repeat (first | (refine dw_seq ?_) | (refine dw_block ?_) | ((first | (refine dw_reg (N := 24) rfl (by kernel_rfl) ?_) | (refine dw_skip ?_) | (refine dw_exit ?_)); simp (decide := true) only [go_sem, reduceIte, reduceCtorEq, Nat.reduceEqDiff, Nat.reduceAdd, Nat.reduceMul, Nat.reduceSub, Nat.reduceLeDiff, Nat.reduceBEq])))
  refine dw_loop_fam (fun k : Nat => kn 24 [(0, dv (.sl 2 (l.map Row.enc))), (1, dv (ls g)), (7, dv (li l.length)), (8, dv (li k))] noMem)
    (fun k => k ≤ l.length ∧ ∀ j < k, findAt l g j = none) (fun k => l.length - k) 0 (sub_kn rfl (by simp (decide := true) only [go_sem, reduceIte, reduceCtorEq, Nat.reduceEqDiff, Nat.reduceAdd, Nat.reduceMul, Nat.reduceSub, Nat.reduceLeDiff, Nat.reduceBEq]) (by simp [noMem])) ⟨by omega, fun j hj => by omega⟩ ?_
  rintro k ⟨hk, hall⟩
  rcases Nat.lt_or_ge k l.length with hlt | hge
  · obtain ⟨x, hx1⟩ : ∃ x, l[k]? = some x := ⟨l[k], List.getElem?_eq_getElem hlt⟩
    have hd : decide ((k : Int) < (l.length : Int)) = true := by simpa using hlt
    have hw := wrap_succ k (by omega)
    (repeat (first | (refine dw_seq ?_) | (refine dw_block ?_) | ((first | (refine dw_reg (N := 24) rfl (by kernel_rfl) ?_) | (refine dw_skip ?_) | (refine dw_exit ?_)); simp (decide := true) only [go_sem, reduceIte, reduceCtorEq, Nat.reduceEqDiff, Nat.reduceAdd, Nat.reduceMul, Nat.reduceSub, Nat.reduceLeDiff, Nat.reduceBEq, hd])))
    apply dw_cond; (simp (decide := true) only [go_sem, reduceIte, reduceCtorEq, Nat.reduceEqDiff, Nat.reduceAdd, Nat.reduceMul, Nat.reduceSub, Nat.reduceLeDiff, Nat.reduceBEq]; rfl)
    · intro _
      (repeat (first | (refine dw_seq ?_) | (refine dw_block ?_) | ((first | (refine dw_reg (N := 24) rfl (by kernel_rfl) ?_) | (refine dw_skip ?_) | (refine dw_exit ?_)); simp (decide := true) only [go_sem, reduceIte, reduceCtorEq, Nat.reduceEqDiff, Nat.reduceAdd, Nat.reduceMul, Nat.reduceSub, Nat.reduceLeDiff, Nat.reduceBEq, hx1, Row.enc])))
      apply dw_cond; (simp (decide := true) only [go_sem, reduceIte, reduceCtorEq, Nat.reduceEqDiff, Nat.reduceAdd, Nat.reduceMul, Nat.reduceSub, Nat.reduceLeDiff, Nat.reduceBEq]; rfl)
      · intro h3
        (repeat (first | (refine dw_seq ?_) | (refine dw_block ?_) | ((first | (refine dw_reg (N := 24) rfl (by kernel_rfl) ?_) | (refine dw_skip ?_) | (refine dw_exit ?_)); simp (decide := true) only [go_sem, reduceIte, reduceCtorEq, Nat.reduceEqDiff, Nat.reduceAdd, Nat.reduceMul, Nat.reduceSub, Nat.reduceLeDiff, Nat.reduceBEq, hx1, Row.enc])))
        refine dw_ret ?_; simp (decide := true) only [go_sem, reduceIte, reduceCtorEq, Nat.reduceEqDiff, Nat.reduceAdd, Nat.reduceMul, Nat.reduceSub, Nat.reduceLeDiff, Nat.reduceBEq]
        simp [findR, fs_some hall hlt (by simp [findAt, hx1, h3] : findAt l g k = some x.senses)]
      · intro h3
        (repeat (first | (refine dw_seq ?_) | (refine dw_block ?_) | ((first | (refine dw_reg (N := 24) rfl (by kernel_rfl) ?_) | (refine dw_skip ?_) | (refine dw_exit ?_)); simp (decide := true) only [go_sem, reduceIte, reduceCtorEq, Nat.reduceEqDiff, Nat.reduceAdd, Nat.reduceMul, Nat.reduceSub, Nat.reduceLeDiff, Nat.reduceBEq, hw])))
        refine ⟨k + 1, ⟨by omega, below_succ hall (by simp [findAt, hx1, h3])⟩, by omega, sub_kn rfl (by simp (decide := true) only [go_sem, reduceIte, reduceCtorEq, Nat.reduceEqDiff, Nat.reduceAdd, Nat.reduceMul, Nat.reduceSub, Nat.reduceLeDiff, Nat.reduceBEq]) (by simp [noMem])⟩
    · simp
  · have hd : decide ((k : Int) < (l.length : Int)) = false := by simpa using hge
    have hkl : k = l.length := by omega
    subst hkl
    (repeat (first | (refine dw_seq ?_) | (refine dw_block ?_) | ((first | (refine dw_reg (N := 24) rfl (by kernel_rfl) ?_) | (refine dw_skip ?_) | (refine dw_exit ?_)); simp (decide := true) only [go_sem, reduceIte, reduceCtorEq, Nat.reduceEqDiff, Nat.reduceAdd, Nat.reduceMul, Nat.reduceSub, Nat.reduceLeDiff, Nat.reduceBEq, hd])))
    apply dw_cond; (simp (decide := true) only [go_sem, reduceIte, reduceCtorEq, Nat.reduceEqDiff, Nat.reduceAdd, Nat.reduceMul, Nat.reduceSub, Nat.reduceLeDiff, Nat.reduceBEq]; rfl)
    · simp
    intro _
    (repeat (first | (refine dw_seq ?_) | (refine dw_block ?_) | ((first | (refine dw_reg (N := 24) rfl (by kernel_rfl) ?_) | (refine dw_skip ?_) | (refine dw_exit ?_)); simp (decide := true) only [go_sem, reduceIte, reduceCtorEq, Nat.reduceEqDiff, Nat.reduceAdd, Nat.reduceMul, Nat.reduceSub, Nat.reduceLeDiff, Nat.reduceBEq])))
    refine dw_slot 4 (dv (.sl 3 [])) (by simp (decide := true) only [go_sem, reduceIte, reduceCtorEq, Nat.reduceEqDiff, Nat.reduceAdd, Nat.reduceMul, Nat.reduceSub, Nat.reduceLeDiff, Nat.reduceBEq]) ?_
    refine dw_ret ?_; simp (decide := true) only [go_sem, reduceIte, reduceCtorEq, Nat.reduceEqDiff, Nat.reduceAdd, Nat.reduceMul, Nat.reduceSub, Nat.reduceLeDiff, Nat.reduceBEq]
    simp [findR, fs_none hall]

/-- What is wrong with part k of a row. -/
def partAt (ps : List Part) (k : Nat) : Option Int :=
  match ps[k]? with
  | none => none
  | some p => if p.entry < 1 ∨ p.alt ≠ 0 ∨ p.sense < 0 then some 1 else if k = 0 then none else match ps[k - 1]? with
    | none => none
    | some q => if q.lt p = true then none else some 10

def rowAtC (l : List Row) (i : Nat) : Option Int :=
  match l[i]? with
  | none => none
  | some r => if (decide (0 < i) && (match l[i - 1]? with | some q => (strLt r.gloss q.gloss || (r.gloss == q.gloss)) | none => false)) = true then some 10
    else if r.senses = [] then some 4 else fs r.senses.length (partAt r.senses)

def checkR (l : List Row) : Int := (fs l.length (rowAtC l)).getD 0

--F19
set_option maxRecDepth 10000 in
set_option maxHeartbeats 4000000 in
theorem check_D (l : List Row) (hl : l.length ≤ 1000000) (hs : ∀ r ∈ l, r.senses.length ≤ 1000000) : DCalls Try.prog 19 [dv (.sl 2 (l.map Row.enc))] (dv (li (checkR l))) := by
  have hmax : (1000000 : Nat) < maxLen := by simp [maxLen]
  refine dcalls (N := 82) (rs := [.tmp 2]) (by kernel_rfl) Try.func19 rfl rfl rfl (by simp) ?_
  (repeat (first | (refine dw_seq ?_) | (refine dw_block ?_) | ((first | (refine dw_reg (N := 82) rfl (by kernel_rfl) ?_) | (apply dw_drw (id := 4) (N := 82) [(0, .light), (1, .light), (2, .light), (3, .light), (4, .light), (5, .light), (6, .light), (7, .light), (8, .light), (9, .light), (10, .light), (11, .light), (12, .light), (13, .light), (14, .light), (15, .light)]; kernel_rfl; rfl; kernel_rfl; (repeat (first | exact Picks.nil | (apply Picks.cons; rfl)))) | (apply dw_drw (id := 14) (N := 82) [(0, .light), (1, .light), (2, .light), (3, .light), (4, .light), (5, .light), (6, .light), (7, .light), (8, .light), (9, .light), (10, .light), (11, .light), (12, .light), (13, .step), (14, .light), (15, .light)]; kernel_rfl; rfl; kernel_rfl; (repeat (first | exact Picks.nil | (apply Picks.cons; rfl)))) | (refine dw_skip ?_) | (refine dw_exit ?_)); simp (decide := true) only [go_sem, reduceIte, reduceCtorEq, Nat.reduceEqDiff, Nat.reduceAdd, Nat.reduceMul, Nat.reduceSub, Nat.reduceLeDiff, Nat.reduceBEq])))
  refine dw_loop_fam (fun k : Nat => kn 82 [(0, dv (.sl 2 (l.map Row.enc))), (7, dv (li l.length)), (8, dv (li k))] noMem)
    (fun k => k ≤ l.length ∧ ∀ j < k, rowAtC l j = none) (fun k => l.length - k) 0 (sub_kn rfl (by simp (decide := true) only [go_sem, reduceIte, reduceCtorEq, Nat.reduceEqDiff, Nat.reduceAdd, Nat.reduceMul, Nat.reduceSub, Nat.reduceLeDiff, Nat.reduceBEq]) (by simp [noMem])) ⟨by omega, fun j hj => by omega⟩ ?_
  rintro k ⟨hk, hall⟩
  rcases Nat.lt_or_ge k l.length with hlt | hge
  · obtain ⟨x, hx1⟩ : ∃ x, l[k]? = some x := ⟨l[k], List.getElem?_eq_getElem hlt⟩
    have hd : decide ((k : Int) < (l.length : Int)) = true := by simpa using hlt
    have hw := wrap_succ k (by omega)
    have hxs := hs x (List.mem_of_getElem? hx1)
    (repeat (first | (refine dw_seq ?_) | (refine dw_block ?_) | ((first | (refine dw_reg (N := 82) rfl (by kernel_rfl) ?_) | (apply dw_drw (id := 4) (N := 82) [(0, .light), (1, .light), (2, .light), (3, .light), (4, .light), (5, .light), (6, .light), (7, .light), (8, .light), (9, .light), (10, .light), (11, .light), (12, .light), (13, .light), (14, .light), (15, .light)]; kernel_rfl; rfl; kernel_rfl; (repeat (first | exact Picks.nil | (apply Picks.cons; rfl)))) | (apply dw_drw (id := 14) (N := 82) [(0, .light), (1, .light), (2, .light), (3, .light), (4, .light), (5, .light), (6, .light), (7, .light), (8, .light), (9, .light), (10, .light), (11, .light), (12, .light), (13, .step), (14, .light), (15, .light)]; kernel_rfl; rfl; kernel_rfl; (repeat (first | exact Picks.nil | (apply Picks.cons; rfl)))) | (refine dw_skip ?_) | (refine dw_exit ?_)); simp (decide := true) only [go_sem, reduceIte, reduceCtorEq, Nat.reduceEqDiff, Nat.reduceAdd, Nat.reduceMul, Nat.reduceSub, Nat.reduceLeDiff, Nat.reduceBEq, hd])))
    apply dw_cond; (simp (decide := true) only [go_sem, reduceIte, reduceCtorEq, Nat.reduceEqDiff, Nat.reduceAdd, Nat.reduceMul, Nat.reduceSub, Nat.reduceLeDiff, Nat.reduceBEq]; rfl)
    · intro _
      refine dw_skip ?_
      simp (decide := true) only [go_sem, reduceIte, reduceCtorEq, Nat.reduceEqDiff, Nat.reduceAdd, Nat.reduceMul, Nat.reduceSub, Nat.reduceLeDiff, Nat.reduceBEq]
      refine dw_seq ?_
      refine dw_block ?_
      refine dw_seq ?_
      refine dw_reg (N := 82) rfl (by kernel_rfl) ?_; simp (decide := true) only [go_sem, reduceIte, reduceCtorEq, Nat.reduceEqDiff, Nat.reduceAdd, Nat.reduceMul, Nat.reduceSub, Nat.reduceLeDiff, Nat.reduceBEq]
      refine dw_mid (kn 82 [(0, dv (.sl 2 (l.map Row.enc))), (3, dv (li k)), (7, dv (li l.length)), (8, dv (li k))] noMem) (rowAtC l k = if x.senses = [] then some 4 else fs x.senses.length (partAt x.senses)) ?_ ?_
      · rcases Nat.eq_zero_or_pos k with hk0 | hk0
        · have hg : decide ((0 : Int) < (k : Int)) = false := by simp; omega
          (repeat (first | (refine dw_seq ?_) | (refine dw_block ?_) | ((first | (refine dw_reg (N := 82) rfl (by kernel_rfl) ?_) | (apply dw_drw (id := 4) (N := 82) [(0, .light), (1, .light), (2, .light), (3, .light), (4, .light), (5, .light), (6, .light), (7, .light), (8, .light), (9, .light), (10, .light), (11, .light), (12, .light), (13, .light), (14, .light), (15, .light)]; kernel_rfl; rfl; kernel_rfl; (repeat (first | exact Picks.nil | (apply Picks.cons; rfl)))) | (apply dw_drw (id := 14) (N := 82) [(0, .light), (1, .light), (2, .light), (3, .light), (4, .light), (5, .light), (6, .light), (7, .light), (8, .light), (9, .light), (10, .light), (11, .light), (12, .light), (13, .step), (14, .light), (15, .light)]; kernel_rfl; rfl; kernel_rfl; (repeat (first | exact Picks.nil | (apply Picks.cons; rfl)))) | (refine dw_skip ?_) | (refine dw_exit ?_)); simp (decide := true) only [go_sem, reduceIte, reduceCtorEq, Nat.reduceEqDiff, Nat.reduceAdd, Nat.reduceMul, Nat.reduceSub, Nat.reduceLeDiff, Nat.reduceBEq, hx1, hg, Row.enc])))
          apply dw_cond; (simp (decide := true) only [go_sem, reduceIte, reduceCtorEq, Nat.reduceEqDiff, Nat.reduceAdd, Nat.reduceMul, Nat.reduceSub, Nat.reduceLeDiff, Nat.reduceBEq]; rfl)
          · simp
          intro _
          refine dw_skip ?_
          simp (decide := true) only [go_sem, reduceIte, reduceCtorEq, Nat.reduceEqDiff, Nat.reduceAdd, Nat.reduceMul, Nat.reduceSub, Nat.reduceLeDiff, Nat.reduceBEq]
          exact ⟨by subst hk0; simp [rowAtC, hx1], sub_kn rfl (by simp (decide := true) only [go_sem, reduceIte, reduceCtorEq, Nat.reduceEqDiff, Nat.reduceAdd, Nat.reduceMul, Nat.reduceSub, Nat.reduceLeDiff, Nat.reduceBEq]) (by simp [noMem])⟩
        · have hg : decide ((0 : Int) < (k : Int)) = true := by simpa using hk0
          obtain ⟨y, hy1⟩ : ∃ y, l[k - 1]? = some y := ⟨l[k - 1]'(by omega), List.getElem?_eq_getElem (by omega)⟩
          have hwp := wrap_pred k hk0 (by omega)
          (repeat (first | (refine dw_seq ?_) | (refine dw_block ?_) | ((first | (refine dw_reg (N := 82) rfl (by kernel_rfl) ?_) | (apply dw_drw (id := 4) (N := 82) [(0, .light), (1, .light), (2, .light), (3, .light), (4, .light), (5, .light), (6, .light), (7, .light), (8, .light), (9, .light), (10, .light), (11, .light), (12, .light), (13, .light), (14, .light), (15, .light)]; kernel_rfl; rfl; kernel_rfl; (repeat (first | exact Picks.nil | (apply Picks.cons; rfl)))) | (apply dw_drw (id := 14) (N := 82) [(0, .light), (1, .light), (2, .light), (3, .light), (4, .light), (5, .light), (6, .light), (7, .light), (8, .light), (9, .light), (10, .light), (11, .light), (12, .light), (13, .step), (14, .light), (15, .light)]; kernel_rfl; rfl; kernel_rfl; (repeat (first | exact Picks.nil | (apply Picks.cons; rfl)))) | (refine dw_skip ?_) | (refine dw_exit ?_)); simp (decide := true) only [go_sem, reduceIte, reduceCtorEq, Nat.reduceEqDiff, Nat.reduceAdd, Nat.reduceMul, Nat.reduceSub, Nat.reduceLeDiff, Nat.reduceBEq, hx1, hy1, hg, hwp, Row.enc])))
          apply dw_cond; (simp (decide := true) only [go_sem, reduceIte, reduceCtorEq, Nat.reduceEqDiff, Nat.reduceAdd, Nat.reduceMul, Nat.reduceSub, Nat.reduceLeDiff, Nat.reduceBEq]; rfl)
          · intro h3
            (repeat (first | (refine dw_seq ?_) | (refine dw_block ?_) | ((first | (refine dw_reg (N := 82) rfl (by kernel_rfl) ?_) | (apply dw_drw (id := 4) (N := 82) [(0, .light), (1, .light), (2, .light), (3, .light), (4, .light), (5, .light), (6, .light), (7, .light), (8, .light), (9, .light), (10, .light), (11, .light), (12, .light), (13, .light), (14, .light), (15, .light)]; kernel_rfl; rfl; kernel_rfl; (repeat (first | exact Picks.nil | (apply Picks.cons; rfl)))) | (apply dw_drw (id := 14) (N := 82) [(0, .light), (1, .light), (2, .light), (3, .light), (4, .light), (5, .light), (6, .light), (7, .light), (8, .light), (9, .light), (10, .light), (11, .light), (12, .light), (13, .step), (14, .light), (15, .light)]; kernel_rfl; rfl; kernel_rfl; (repeat (first | exact Picks.nil | (apply Picks.cons; rfl)))) | (refine dw_skip ?_) | (refine dw_exit ?_)); simp (decide := true) only [go_sem, reduceIte, reduceCtorEq, Nat.reduceEqDiff, Nat.reduceAdd, Nat.reduceMul, Nat.reduceSub, Nat.reduceLeDiff, Nat.reduceBEq])))
            refine dw_ret ?_; simp (decide := true) only [go_sem, reduceIte, reduceCtorEq, Nat.reduceEqDiff, Nat.reduceAdd, Nat.reduceMul, Nat.reduceSub, Nat.reduceLeDiff, Nat.reduceBEq]
            have : rowAtC l k = some 10 := by simp only [rowAtC, hx1, hy1, h3, hk0, decide_true, Bool.and_self, if_true]
            simp [checkR, fs_some hall hlt this]
          · intro h3
            refine dw_skip ?_
            simp (decide := true) only [go_sem, reduceIte, reduceCtorEq, Nat.reduceEqDiff, Nat.reduceAdd, Nat.reduceMul, Nat.reduceSub, Nat.reduceLeDiff, Nat.reduceBEq]
            exact ⟨by simp only [rowAtC, hx1, hy1, h3, Bool.and_false, Bool.false_eq_true, if_false], sub_kn rfl (by simp (decide := true) only [go_sem, reduceIte, reduceCtorEq, Nat.reduceEqDiff, Nat.reduceAdd, Nat.reduceMul, Nat.reduceSub, Nat.reduceLeDiff, Nat.reduceBEq]) (by simp [noMem])⟩
      · intro hrow
        (repeat (first | (refine dw_seq ?_) | (refine dw_block ?_) | ((first | (refine dw_reg (N := 82) rfl (by kernel_rfl) ?_) | (apply dw_drw (id := 4) (N := 82) [(0, .light), (1, .light), (2, .light), (3, .light), (4, .light), (5, .light), (6, .light), (7, .light), (8, .light), (9, .light), (10, .light), (11, .light), (12, .light), (13, .light), (14, .light), (15, .light)]; kernel_rfl; rfl; kernel_rfl; (repeat (first | exact Picks.nil | (apply Picks.cons; rfl)))) | (apply dw_drw (id := 14) (N := 82) [(0, .light), (1, .light), (2, .light), (3, .light), (4, .light), (5, .light), (6, .light), (7, .light), (8, .light), (9, .light), (10, .light), (11, .light), (12, .light), (13, .step), (14, .light), (15, .light)]; kernel_rfl; rfl; kernel_rfl; (repeat (first | exact Picks.nil | (apply Picks.cons; rfl)))) | (refine dw_skip ?_) | (refine dw_exit ?_)); simp (decide := true) only [go_sem, reduceIte, reduceCtorEq, Nat.reduceEqDiff, Nat.reduceAdd, Nat.reduceMul, Nat.reduceSub, Nat.reduceLeDiff, Nat.reduceBEq, hx1, Row.enc])))
        apply dw_cond; (simp (decide := true) only [go_sem, reduceIte, reduceCtorEq, Nat.reduceEqDiff, Nat.reduceAdd, Nat.reduceMul, Nat.reduceSub, Nat.reduceLeDiff, Nat.reduceBEq]; rfl)
        · intro h3
          (repeat (first | (refine dw_seq ?_) | (refine dw_block ?_) | ((first | (refine dw_reg (N := 82) rfl (by kernel_rfl) ?_) | (apply dw_drw (id := 4) (N := 82) [(0, .light), (1, .light), (2, .light), (3, .light), (4, .light), (5, .light), (6, .light), (7, .light), (8, .light), (9, .light), (10, .light), (11, .light), (12, .light), (13, .light), (14, .light), (15, .light)]; kernel_rfl; rfl; kernel_rfl; (repeat (first | exact Picks.nil | (apply Picks.cons; rfl)))) | (apply dw_drw (id := 14) (N := 82) [(0, .light), (1, .light), (2, .light), (3, .light), (4, .light), (5, .light), (6, .light), (7, .light), (8, .light), (9, .light), (10, .light), (11, .light), (12, .light), (13, .step), (14, .light), (15, .light)]; kernel_rfl; rfl; kernel_rfl; (repeat (first | exact Picks.nil | (apply Picks.cons; rfl)))) | (refine dw_skip ?_) | (refine dw_exit ?_)); simp (decide := true) only [go_sem, reduceIte, reduceCtorEq, Nat.reduceEqDiff, Nat.reduceAdd, Nat.reduceMul, Nat.reduceSub, Nat.reduceLeDiff, Nat.reduceBEq])))
          refine dw_ret ?_; simp (decide := true) only [go_sem, reduceIte, reduceCtorEq, Nat.reduceEqDiff, Nat.reduceAdd, Nat.reduceMul, Nat.reduceSub, Nat.reduceLeDiff, Nat.reduceBEq]
          have h4 : x.senses = [] := by
            cases h5 : x.senses with
            | nil => rfl
            | cons => simp [h5] at h3; omega
          have : rowAtC l k = some 4 := by rw [hrow, if_pos h4]
          simp [checkR, fs_some hall hlt this]
        intro h3
        have h4 : ¬ x.senses = [] := fun e => by simp [e] at h3
        rw [if_neg h4] at hrow
        (repeat (first | (refine dw_seq ?_) | (refine dw_block ?_) | ((first | (refine dw_reg (N := 82) rfl (by kernel_rfl) ?_) | (apply dw_drw (id := 4) (N := 82) [(0, .light), (1, .light), (2, .light), (3, .light), (4, .light), (5, .light), (6, .light), (7, .light), (8, .light), (9, .light), (10, .light), (11, .light), (12, .light), (13, .light), (14, .light), (15, .light)]; kernel_rfl; rfl; kernel_rfl; (repeat (first | exact Picks.nil | (apply Picks.cons; rfl)))) | (apply dw_drw (id := 14) (N := 82) [(0, .light), (1, .light), (2, .light), (3, .light), (4, .light), (5, .light), (6, .light), (7, .light), (8, .light), (9, .light), (10, .light), (11, .light), (12, .light), (13, .step), (14, .light), (15, .light)]; kernel_rfl; rfl; kernel_rfl; (repeat (first | exact Picks.nil | (apply Picks.cons; rfl)))) | (refine dw_skip ?_) | (refine dw_exit ?_)); simp (decide := true) only [go_sem, reduceIte, reduceCtorEq, Nat.reduceEqDiff, Nat.reduceAdd, Nat.reduceMul, Nat.reduceSub, Nat.reduceLeDiff, Nat.reduceBEq, hx1, Row.enc])))
        refine dw_loop_fam (fun j : Nat => kn 82 [(0, dv (.sl 2 (l.map Row.enc))), (3, dv (li k)), (7, dv (li l.length)), (8, dv (li k)), (39, dv (li x.senses.length)), (40, dv (li j))] noMem)
          (fun j => j ≤ x.senses.length ∧ ∀ i < j, partAt x.senses i = none) (fun j => x.senses.length - j) 0 (sub_kn rfl (by simp (decide := true) only [go_sem, reduceIte, reduceCtorEq, Nat.reduceEqDiff, Nat.reduceAdd, Nat.reduceMul, Nat.reduceSub, Nat.reduceLeDiff, Nat.reduceBEq]) (by simp [noMem])) ⟨by omega, fun j hj => by omega⟩ ?_
        rintro j ⟨hj, hall2⟩
        rcases Nat.lt_or_ge j x.senses.length with hjlt | hjge
        · obtain ⟨y, hy1⟩ : ∃ y, x.senses[j]? = some y := ⟨x.senses[j], List.getElem?_eq_getElem hjlt⟩
          have hd2 : decide ((j : Int) < (x.senses.length : Int)) = true := by simpa using hjlt
          have hw2 := wrap_succ j (by omega)
          have err : ∀ c, partAt x.senses j = some c → checkR l = c := fun c h => by
            have := fs_some hall hlt (hrow.trans (fs_some hall2 hjlt h))
            simp [checkR, this]
          have bad : (y.entry < 1 ∨ y.alt ≠ 0 ∨ y.sense < 0) → checkR l = 1 := fun h => err 1 (by simp only [partAt, hy1, if_pos h])
          (repeat (first | (refine dw_seq ?_) | (refine dw_block ?_) | ((first | (refine dw_reg (N := 82) rfl (by kernel_rfl) ?_) | (apply dw_drw (id := 4) (N := 82) [(0, .light), (1, .light), (2, .light), (3, .light), (4, .light), (5, .light), (6, .light), (7, .light), (8, .light), (9, .light), (10, .light), (11, .light), (12, .light), (13, .light), (14, .light), (15, .light)]; kernel_rfl; rfl; kernel_rfl; (repeat (first | exact Picks.nil | (apply Picks.cons; rfl)))) | (apply dw_drw (id := 14) (N := 82) [(0, .light), (1, .light), (2, .light), (3, .light), (4, .light), (5, .light), (6, .light), (7, .light), (8, .light), (9, .light), (10, .light), (11, .light), (12, .light), (13, .step), (14, .light), (15, .light)]; kernel_rfl; rfl; kernel_rfl; (repeat (first | exact Picks.nil | (apply Picks.cons; rfl)))) | (refine dw_skip ?_) | (refine dw_exit ?_)); simp (decide := true) only [go_sem, reduceIte, reduceCtorEq, Nat.reduceEqDiff, Nat.reduceAdd, Nat.reduceMul, Nat.reduceSub, Nat.reduceLeDiff, Nat.reduceBEq, hd2])))
          apply dw_cond; (simp (decide := true) only [go_sem, reduceIte, reduceCtorEq, Nat.reduceEqDiff, Nat.reduceAdd, Nat.reduceMul, Nat.reduceSub, Nat.reduceLeDiff, Nat.reduceBEq]; rfl)
          · intro _
            cases h5 : decide (y.entry < 1) with
            | true =>
              (repeat (first | (refine dw_seq ?_) | (refine dw_block ?_) | ((first | (refine dw_reg (N := 82) rfl (by kernel_rfl) ?_) | (apply dw_drw (id := 4) (N := 82) [(0, .light), (1, .light), (2, .light), (3, .light), (4, .light), (5, .light), (6, .light), (7, .light), (8, .light), (9, .light), (10, .light), (11, .light), (12, .light), (13, .light), (14, .light), (15, .light)]; kernel_rfl; rfl; kernel_rfl; (repeat (first | exact Picks.nil | (apply Picks.cons; rfl)))) | (apply dw_drw (id := 14) (N := 82) [(0, .light), (1, .light), (2, .light), (3, .light), (4, .light), (5, .light), (6, .light), (7, .light), (8, .light), (9, .light), (10, .light), (11, .light), (12, .light), (13, .step), (14, .light), (15, .light)]; kernel_rfl; rfl; kernel_rfl; (repeat (first | exact Picks.nil | (apply Picks.cons; rfl)))) | (refine dw_skip ?_) | (refine dw_exit ?_)); simp (decide := true) only [go_sem, reduceIte, reduceCtorEq, Nat.reduceEqDiff, Nat.reduceAdd, Nat.reduceMul, Nat.reduceSub, Nat.reduceLeDiff, Nat.reduceBEq, hx1, hy1, Row.enc, Part.enc, h5])))
              apply dw_cond; (simp (decide := true) only [go_sem, reduceIte, reduceCtorEq, Nat.reduceEqDiff, Nat.reduceAdd, Nat.reduceMul, Nat.reduceSub, Nat.reduceLeDiff, Nat.reduceBEq]; rfl)
              · intro _
                (repeat (first | (refine dw_seq ?_) | (refine dw_block ?_) | ((first | (refine dw_reg (N := 82) rfl (by kernel_rfl) ?_) | (apply dw_drw (id := 4) (N := 82) [(0, .light), (1, .light), (2, .light), (3, .light), (4, .light), (5, .light), (6, .light), (7, .light), (8, .light), (9, .light), (10, .light), (11, .light), (12, .light), (13, .light), (14, .light), (15, .light)]; kernel_rfl; rfl; kernel_rfl; (repeat (first | exact Picks.nil | (apply Picks.cons; rfl)))) | (apply dw_drw (id := 14) (N := 82) [(0, .light), (1, .light), (2, .light), (3, .light), (4, .light), (5, .light), (6, .light), (7, .light), (8, .light), (9, .light), (10, .light), (11, .light), (12, .light), (13, .step), (14, .light), (15, .light)]; kernel_rfl; rfl; kernel_rfl; (repeat (first | exact Picks.nil | (apply Picks.cons; rfl)))) | (refine dw_skip ?_) | (refine dw_exit ?_)); simp (decide := true) only [go_sem, reduceIte, reduceCtorEq, Nat.reduceEqDiff, Nat.reduceAdd, Nat.reduceMul, Nat.reduceSub, Nat.reduceLeDiff, Nat.reduceBEq])))
                refine dw_ret ?_; simp (decide := true) only [go_sem, reduceIte, reduceCtorEq, Nat.reduceEqDiff, Nat.reduceAdd, Nat.reduceMul, Nat.reduceSub, Nat.reduceLeDiff, Nat.reduceBEq]
                rw [bad (.inl (of_decide_eq_true h5))]
              · simp
            | false =>
              cases h6 : (y.alt != 0) with
              | true =>
                (repeat (first | (refine dw_seq ?_) | (refine dw_block ?_) | ((first | (refine dw_reg (N := 82) rfl (by kernel_rfl) ?_) | (apply dw_drw (id := 4) (N := 82) [(0, .light), (1, .light), (2, .light), (3, .light), (4, .light), (5, .light), (6, .light), (7, .light), (8, .light), (9, .light), (10, .light), (11, .light), (12, .light), (13, .light), (14, .light), (15, .light)]; kernel_rfl; rfl; kernel_rfl; (repeat (first | exact Picks.nil | (apply Picks.cons; rfl)))) | (apply dw_drw (id := 14) (N := 82) [(0, .light), (1, .light), (2, .light), (3, .light), (4, .light), (5, .light), (6, .light), (7, .light), (8, .light), (9, .light), (10, .light), (11, .light), (12, .light), (13, .step), (14, .light), (15, .light)]; kernel_rfl; rfl; kernel_rfl; (repeat (first | exact Picks.nil | (apply Picks.cons; rfl)))) | (refine dw_skip ?_) | (refine dw_exit ?_)); simp (decide := true) only [go_sem, reduceIte, reduceCtorEq, Nat.reduceEqDiff, Nat.reduceAdd, Nat.reduceMul, Nat.reduceSub, Nat.reduceLeDiff, Nat.reduceBEq, hx1, hy1, Row.enc, Part.enc, h5, h6])))
                apply dw_cond; (simp (decide := true) only [go_sem, reduceIte, reduceCtorEq, Nat.reduceEqDiff, Nat.reduceAdd, Nat.reduceMul, Nat.reduceSub, Nat.reduceLeDiff, Nat.reduceBEq]; rfl)
                · intro _
                  (repeat (first | (refine dw_seq ?_) | (refine dw_block ?_) | ((first | (refine dw_reg (N := 82) rfl (by kernel_rfl) ?_) | (apply dw_drw (id := 4) (N := 82) [(0, .light), (1, .light), (2, .light), (3, .light), (4, .light), (5, .light), (6, .light), (7, .light), (8, .light), (9, .light), (10, .light), (11, .light), (12, .light), (13, .light), (14, .light), (15, .light)]; kernel_rfl; rfl; kernel_rfl; (repeat (first | exact Picks.nil | (apply Picks.cons; rfl)))) | (apply dw_drw (id := 14) (N := 82) [(0, .light), (1, .light), (2, .light), (3, .light), (4, .light), (5, .light), (6, .light), (7, .light), (8, .light), (9, .light), (10, .light), (11, .light), (12, .light), (13, .step), (14, .light), (15, .light)]; kernel_rfl; rfl; kernel_rfl; (repeat (first | exact Picks.nil | (apply Picks.cons; rfl)))) | (refine dw_skip ?_) | (refine dw_exit ?_)); simp (decide := true) only [go_sem, reduceIte, reduceCtorEq, Nat.reduceEqDiff, Nat.reduceAdd, Nat.reduceMul, Nat.reduceSub, Nat.reduceLeDiff, Nat.reduceBEq])))
                  refine dw_ret ?_; simp (decide := true) only [go_sem, reduceIte, reduceCtorEq, Nat.reduceEqDiff, Nat.reduceAdd, Nat.reduceMul, Nat.reduceSub, Nat.reduceLeDiff, Nat.reduceBEq]
                  rw [bad (.inr (.inl (by simpa using h6)))]
                · simp
              | false =>
                cases h7 : decide (y.sense < 0) with
                | true =>
                  (repeat (first | (refine dw_seq ?_) | (refine dw_block ?_) | ((first | (refine dw_reg (N := 82) rfl (by kernel_rfl) ?_) | (apply dw_drw (id := 4) (N := 82) [(0, .light), (1, .light), (2, .light), (3, .light), (4, .light), (5, .light), (6, .light), (7, .light), (8, .light), (9, .light), (10, .light), (11, .light), (12, .light), (13, .light), (14, .light), (15, .light)]; kernel_rfl; rfl; kernel_rfl; (repeat (first | exact Picks.nil | (apply Picks.cons; rfl)))) | (apply dw_drw (id := 14) (N := 82) [(0, .light), (1, .light), (2, .light), (3, .light), (4, .light), (5, .light), (6, .light), (7, .light), (8, .light), (9, .light), (10, .light), (11, .light), (12, .light), (13, .step), (14, .light), (15, .light)]; kernel_rfl; rfl; kernel_rfl; (repeat (first | exact Picks.nil | (apply Picks.cons; rfl)))) | (refine dw_skip ?_) | (refine dw_exit ?_)); simp (decide := true) only [go_sem, reduceIte, reduceCtorEq, Nat.reduceEqDiff, Nat.reduceAdd, Nat.reduceMul, Nat.reduceSub, Nat.reduceLeDiff, Nat.reduceBEq, hx1, hy1, Row.enc, Part.enc, h5, h6, h7])))
                  apply dw_cond; (simp (decide := true) only [go_sem, reduceIte, reduceCtorEq, Nat.reduceEqDiff, Nat.reduceAdd, Nat.reduceMul, Nat.reduceSub, Nat.reduceLeDiff, Nat.reduceBEq]; rfl)
                  · intro _
                    (repeat (first | (refine dw_seq ?_) | (refine dw_block ?_) | ((first | (refine dw_reg (N := 82) rfl (by kernel_rfl) ?_) | (apply dw_drw (id := 4) (N := 82) [(0, .light), (1, .light), (2, .light), (3, .light), (4, .light), (5, .light), (6, .light), (7, .light), (8, .light), (9, .light), (10, .light), (11, .light), (12, .light), (13, .light), (14, .light), (15, .light)]; kernel_rfl; rfl; kernel_rfl; (repeat (first | exact Picks.nil | (apply Picks.cons; rfl)))) | (apply dw_drw (id := 14) (N := 82) [(0, .light), (1, .light), (2, .light), (3, .light), (4, .light), (5, .light), (6, .light), (7, .light), (8, .light), (9, .light), (10, .light), (11, .light), (12, .light), (13, .step), (14, .light), (15, .light)]; kernel_rfl; rfl; kernel_rfl; (repeat (first | exact Picks.nil | (apply Picks.cons; rfl)))) | (refine dw_skip ?_) | (refine dw_exit ?_)); simp (decide := true) only [go_sem, reduceIte, reduceCtorEq, Nat.reduceEqDiff, Nat.reduceAdd, Nat.reduceMul, Nat.reduceSub, Nat.reduceLeDiff, Nat.reduceBEq])))
                    refine dw_ret ?_; simp (decide := true) only [go_sem, reduceIte, reduceCtorEq, Nat.reduceEqDiff, Nat.reduceAdd, Nat.reduceMul, Nat.reduceSub, Nat.reduceLeDiff, Nat.reduceBEq]
                    rw [bad (.inr (.inr (of_decide_eq_true h7)))]
                  · simp
                | false =>
                  have good : ¬ (y.entry < 1 ∨ y.alt ≠ 0 ∨ y.sense < 0) := by
                    simp at h5 h6 h7; omega
                  (repeat (first | (refine dw_seq ?_) | (refine dw_block ?_) | ((first | (refine dw_reg (N := 82) rfl (by kernel_rfl) ?_) | (apply dw_drw (id := 4) (N := 82) [(0, .light), (1, .light), (2, .light), (3, .light), (4, .light), (5, .light), (6, .light), (7, .light), (8, .light), (9, .light), (10, .light), (11, .light), (12, .light), (13, .light), (14, .light), (15, .light)]; kernel_rfl; rfl; kernel_rfl; (repeat (first | exact Picks.nil | (apply Picks.cons; rfl)))) | (apply dw_drw (id := 14) (N := 82) [(0, .light), (1, .light), (2, .light), (3, .light), (4, .light), (5, .light), (6, .light), (7, .light), (8, .light), (9, .light), (10, .light), (11, .light), (12, .light), (13, .step), (14, .light), (15, .light)]; kernel_rfl; rfl; kernel_rfl; (repeat (first | exact Picks.nil | (apply Picks.cons; rfl)))) | (refine dw_skip ?_) | (refine dw_exit ?_)); simp (decide := true) only [go_sem, reduceIte, reduceCtorEq, Nat.reduceEqDiff, Nat.reduceAdd, Nat.reduceMul, Nat.reduceSub, Nat.reduceLeDiff, Nat.reduceBEq, hx1, hy1, Row.enc, Part.enc, h5, h6, h7])))
                  apply dw_cond; (simp (decide := true) only [go_sem, reduceIte, reduceCtorEq, Nat.reduceEqDiff, Nat.reduceAdd, Nat.reduceMul, Nat.reduceSub, Nat.reduceLeDiff, Nat.reduceBEq]; rfl)
                  · simp
                  intro _
                  rcases Nat.eq_zero_or_pos j with hj0 | hj0
                  · have hg : decide ((0 : Int) < (j : Int)) = false := by simp; omega
                    (repeat (first | (refine dw_seq ?_) | (refine dw_block ?_) | ((first | (refine dw_reg (N := 82) rfl (by kernel_rfl) ?_) | (apply dw_drw (id := 4) (N := 82) [(0, .light), (1, .light), (2, .light), (3, .light), (4, .light), (5, .light), (6, .light), (7, .light), (8, .light), (9, .light), (10, .light), (11, .light), (12, .light), (13, .light), (14, .light), (15, .light)]; kernel_rfl; rfl; kernel_rfl; (repeat (first | exact Picks.nil | (apply Picks.cons; rfl)))) | (apply dw_drw (id := 14) (N := 82) [(0, .light), (1, .light), (2, .light), (3, .light), (4, .light), (5, .light), (6, .light), (7, .light), (8, .light), (9, .light), (10, .light), (11, .light), (12, .light), (13, .step), (14, .light), (15, .light)]; kernel_rfl; rfl; kernel_rfl; (repeat (first | exact Picks.nil | (apply Picks.cons; rfl)))) | (refine dw_skip ?_) | (refine dw_exit ?_)); simp (decide := true) only [go_sem, reduceIte, reduceCtorEq, Nat.reduceEqDiff, Nat.reduceAdd, Nat.reduceMul, Nat.reduceSub, Nat.reduceLeDiff, Nat.reduceBEq, hg])))
                    apply dw_cond; (simp (decide := true) only [go_sem, reduceIte, reduceCtorEq, Nat.reduceEqDiff, Nat.reduceAdd, Nat.reduceMul, Nat.reduceSub, Nat.reduceLeDiff, Nat.reduceBEq]; rfl)
                    · simp
                    intro _
                    (repeat (first | (refine dw_seq ?_) | (refine dw_block ?_) | ((first | (refine dw_reg (N := 82) rfl (by kernel_rfl) ?_) | (apply dw_drw (id := 4) (N := 82) [(0, .light), (1, .light), (2, .light), (3, .light), (4, .light), (5, .light), (6, .light), (7, .light), (8, .light), (9, .light), (10, .light), (11, .light), (12, .light), (13, .light), (14, .light), (15, .light)]; kernel_rfl; rfl; kernel_rfl; (repeat (first | exact Picks.nil | (apply Picks.cons; rfl)))) | (apply dw_drw (id := 14) (N := 82) [(0, .light), (1, .light), (2, .light), (3, .light), (4, .light), (5, .light), (6, .light), (7, .light), (8, .light), (9, .light), (10, .light), (11, .light), (12, .light), (13, .step), (14, .light), (15, .light)]; kernel_rfl; rfl; kernel_rfl; (repeat (first | exact Picks.nil | (apply Picks.cons; rfl)))) | (refine dw_skip ?_) | (refine dw_exit ?_)); simp (decide := true) only [go_sem, reduceIte, reduceCtorEq, Nat.reduceEqDiff, Nat.reduceAdd, Nat.reduceMul, Nat.reduceSub, Nat.reduceLeDiff, Nat.reduceBEq, hw2])))
                    exact ⟨j + 1, ⟨by omega, below_succ hall2 (by simp only [partAt, hy1, if_neg good, if_pos hj0])⟩, by omega, sub_kn rfl (by simp (decide := true) only [go_sem, reduceIte, reduceCtorEq, Nat.reduceEqDiff, Nat.reduceAdd, Nat.reduceMul, Nat.reduceSub, Nat.reduceLeDiff, Nat.reduceBEq]) (by simp [noMem])⟩
                  · have hg : decide ((0 : Int) < (j : Int)) = true := by simpa using hj0
                    obtain ⟨z, hz1⟩ : ∃ z, x.senses[j - 1]? = some z := ⟨x.senses[j - 1]'(by omega), List.getElem?_eq_getElem (by omega)⟩
                    have hwp := wrap_pred j hj0 (by omega)
                    have hjn : ¬ j = 0 := by omega
                    (repeat (first | (refine dw_seq ?_) | (refine dw_block ?_) | ((first | (refine dw_reg (N := 82) rfl (by kernel_rfl) ?_) | (apply dw_drw (id := 4) (N := 82) [(0, .light), (1, .light), (2, .light), (3, .light), (4, .light), (5, .light), (6, .light), (7, .light), (8, .light), (9, .light), (10, .light), (11, .light), (12, .light), (13, .light), (14, .light), (15, .light)]; kernel_rfl; rfl; kernel_rfl; (repeat (first | exact Picks.nil | (apply Picks.cons; rfl)))) | (apply dw_drw (id := 14) (N := 82) [(0, .light), (1, .light), (2, .light), (3, .light), (4, .light), (5, .light), (6, .light), (7, .light), (8, .light), (9, .light), (10, .light), (11, .light), (12, .light), (13, .step), (14, .light), (15, .light)]; kernel_rfl; rfl; kernel_rfl; (repeat (first | exact Picks.nil | (apply Picks.cons; rfl)))) | (refine dw_skip ?_) | (refine dw_exit ?_)); simp (decide := true) only [go_sem, reduceIte, reduceCtorEq, Nat.reduceEqDiff, Nat.reduceAdd, Nat.reduceMul, Nat.reduceSub, Nat.reduceLeDiff, Nat.reduceBEq, hx1, hz1, hg, hwp, Row.enc, Part.enc])))
                    (first | (refine CallC.mk (less_P z y) (LeL.of_eq rfl) ?_) | (refine CallC.light (less_P z y) (LeL.of_eq rfl) ?_)); simp (decide := true) only [go_sem, reduceIte, reduceCtorEq, Nat.reduceEqDiff, Nat.reduceAdd, Nat.reduceMul, Nat.reduceSub, Nat.reduceLeDiff, Nat.reduceBEq]
                    apply dw_cond; (simp (decide := true) only [go_sem, reduceIte, reduceCtorEq, Nat.reduceEqDiff, Nat.reduceAdd, Nat.reduceMul, Nat.reduceSub, Nat.reduceLeDiff, Nat.reduceBEq]; rfl)
                    · intro h8
                      have h9 : z.lt y = false := by simpa using h8
                      (repeat (first | (refine dw_seq ?_) | (refine dw_block ?_) | ((first | (refine dw_reg (N := 82) rfl (by kernel_rfl) ?_) | (apply dw_drw (id := 4) (N := 82) [(0, .light), (1, .light), (2, .light), (3, .light), (4, .light), (5, .light), (6, .light), (7, .light), (8, .light), (9, .light), (10, .light), (11, .light), (12, .light), (13, .light), (14, .light), (15, .light)]; kernel_rfl; rfl; kernel_rfl; (repeat (first | exact Picks.nil | (apply Picks.cons; rfl)))) | (apply dw_drw (id := 14) (N := 82) [(0, .light), (1, .light), (2, .light), (3, .light), (4, .light), (5, .light), (6, .light), (7, .light), (8, .light), (9, .light), (10, .light), (11, .light), (12, .light), (13, .step), (14, .light), (15, .light)]; kernel_rfl; rfl; kernel_rfl; (repeat (first | exact Picks.nil | (apply Picks.cons; rfl)))) | (refine dw_skip ?_) | (refine dw_exit ?_)); simp (decide := true) only [go_sem, reduceIte, reduceCtorEq, Nat.reduceEqDiff, Nat.reduceAdd, Nat.reduceMul, Nat.reduceSub, Nat.reduceLeDiff, Nat.reduceBEq])))
                      refine dw_ret ?_; simp (decide := true) only [go_sem, reduceIte, reduceCtorEq, Nat.reduceEqDiff, Nat.reduceAdd, Nat.reduceMul, Nat.reduceSub, Nat.reduceLeDiff, Nat.reduceBEq]
                      rw [err 10 (by simp only [partAt, hy1, hz1, if_neg good, if_neg hjn, h9, Bool.false_eq_true, if_false])]
                    · intro h8
                      have h9 : z.lt y = true := by simpa using h8
                      (repeat (first | (refine dw_seq ?_) | (refine dw_block ?_) | ((first | (refine dw_reg (N := 82) rfl (by kernel_rfl) ?_) | (apply dw_drw (id := 4) (N := 82) [(0, .light), (1, .light), (2, .light), (3, .light), (4, .light), (5, .light), (6, .light), (7, .light), (8, .light), (9, .light), (10, .light), (11, .light), (12, .light), (13, .light), (14, .light), (15, .light)]; kernel_rfl; rfl; kernel_rfl; (repeat (first | exact Picks.nil | (apply Picks.cons; rfl)))) | (apply dw_drw (id := 14) (N := 82) [(0, .light), (1, .light), (2, .light), (3, .light), (4, .light), (5, .light), (6, .light), (7, .light), (8, .light), (9, .light), (10, .light), (11, .light), (12, .light), (13, .step), (14, .light), (15, .light)]; kernel_rfl; rfl; kernel_rfl; (repeat (first | exact Picks.nil | (apply Picks.cons; rfl)))) | (refine dw_skip ?_) | (refine dw_exit ?_)); simp (decide := true) only [go_sem, reduceIte, reduceCtorEq, Nat.reduceEqDiff, Nat.reduceAdd, Nat.reduceMul, Nat.reduceSub, Nat.reduceLeDiff, Nat.reduceBEq, hw2])))
                      exact ⟨j + 1, ⟨by omega, below_succ hall2 (by simp only [partAt, hy1, hz1, if_neg good, if_neg hjn, h9, if_true])⟩, by omega, sub_kn rfl (by simp (decide := true) only [go_sem, reduceIte, reduceCtorEq, Nat.reduceEqDiff, Nat.reduceAdd, Nat.reduceMul, Nat.reduceSub, Nat.reduceLeDiff, Nat.reduceBEq]) (by simp [noMem])⟩
          · simp
        · have hd2 : decide ((j : Int) < (x.senses.length : Int)) = false := by simpa using hjge
          have hjl : j = x.senses.length := by omega
          subst hjl
          (repeat (first | (refine dw_seq ?_) | (refine dw_block ?_) | ((first | (refine dw_reg (N := 82) rfl (by kernel_rfl) ?_) | (apply dw_drw (id := 4) (N := 82) [(0, .light), (1, .light), (2, .light), (3, .light), (4, .light), (5, .light), (6, .light), (7, .light), (8, .light), (9, .light), (10, .light), (11, .light), (12, .light), (13, .light), (14, .light), (15, .light)]; kernel_rfl; rfl; kernel_rfl; (repeat (first | exact Picks.nil | (apply Picks.cons; rfl)))) | (apply dw_drw (id := 14) (N := 82) [(0, .light), (1, .light), (2, .light), (3, .light), (4, .light), (5, .light), (6, .light), (7, .light), (8, .light), (9, .light), (10, .light), (11, .light), (12, .light), (13, .step), (14, .light), (15, .light)]; kernel_rfl; rfl; kernel_rfl; (repeat (first | exact Picks.nil | (apply Picks.cons; rfl)))) | (refine dw_skip ?_) | (refine dw_exit ?_)); simp (decide := true) only [go_sem, reduceIte, reduceCtorEq, Nat.reduceEqDiff, Nat.reduceAdd, Nat.reduceMul, Nat.reduceSub, Nat.reduceLeDiff, Nat.reduceBEq, hd2])))
          apply dw_cond; (simp (decide := true) only [go_sem, reduceIte, reduceCtorEq, Nat.reduceEqDiff, Nat.reduceAdd, Nat.reduceMul, Nat.reduceSub, Nat.reduceLeDiff, Nat.reduceBEq]; rfl)
          · simp
          intro _
          (repeat (first | (refine dw_seq ?_) | (refine dw_block ?_) | ((first | (refine dw_reg (N := 82) rfl (by kernel_rfl) ?_) | (apply dw_drw (id := 4) (N := 82) [(0, .light), (1, .light), (2, .light), (3, .light), (4, .light), (5, .light), (6, .light), (7, .light), (8, .light), (9, .light), (10, .light), (11, .light), (12, .light), (13, .light), (14, .light), (15, .light)]; kernel_rfl; rfl; kernel_rfl; (repeat (first | exact Picks.nil | (apply Picks.cons; rfl)))) | (apply dw_drw (id := 14) (N := 82) [(0, .light), (1, .light), (2, .light), (3, .light), (4, .light), (5, .light), (6, .light), (7, .light), (8, .light), (9, .light), (10, .light), (11, .light), (12, .light), (13, .step), (14, .light), (15, .light)]; kernel_rfl; rfl; kernel_rfl; (repeat (first | exact Picks.nil | (apply Picks.cons; rfl)))) | (refine dw_skip ?_) | (refine dw_exit ?_)); simp (decide := true) only [go_sem, reduceIte, reduceCtorEq, Nat.reduceEqDiff, Nat.reduceAdd, Nat.reduceMul, Nat.reduceSub, Nat.reduceLeDiff, Nat.reduceBEq, hw])))
          exact ⟨k + 1, ⟨by omega, below_succ hall (hrow.trans (fs_none hall2))⟩, by omega, sub_kn rfl (by simp (decide := true) only [go_sem, reduceIte, reduceCtorEq, Nat.reduceEqDiff, Nat.reduceAdd, Nat.reduceMul, Nat.reduceSub, Nat.reduceLeDiff, Nat.reduceBEq]) (by simp [noMem])⟩
    · simp
  · have hd : decide ((k : Int) < (l.length : Int)) = false := by simpa using hge
    have hkl : k = l.length := by omega
    subst hkl
    (repeat (first | (refine dw_seq ?_) | (refine dw_block ?_) | ((first | (refine dw_reg (N := 82) rfl (by kernel_rfl) ?_) | (apply dw_drw (id := 4) (N := 82) [(0, .light), (1, .light), (2, .light), (3, .light), (4, .light), (5, .light), (6, .light), (7, .light), (8, .light), (9, .light), (10, .light), (11, .light), (12, .light), (13, .light), (14, .light), (15, .light)]; kernel_rfl; rfl; kernel_rfl; (repeat (first | exact Picks.nil | (apply Picks.cons; rfl)))) | (apply dw_drw (id := 14) (N := 82) [(0, .light), (1, .light), (2, .light), (3, .light), (4, .light), (5, .light), (6, .light), (7, .light), (8, .light), (9, .light), (10, .light), (11, .light), (12, .light), (13, .step), (14, .light), (15, .light)]; kernel_rfl; rfl; kernel_rfl; (repeat (first | exact Picks.nil | (apply Picks.cons; rfl)))) | (refine dw_skip ?_) | (refine dw_exit ?_)); simp (decide := true) only [go_sem, reduceIte, reduceCtorEq, Nat.reduceEqDiff, Nat.reduceAdd, Nat.reduceMul, Nat.reduceSub, Nat.reduceLeDiff, Nat.reduceBEq, hd])))
    apply dw_cond; (simp (decide := true) only [go_sem, reduceIte, reduceCtorEq, Nat.reduceEqDiff, Nat.reduceAdd, Nat.reduceMul, Nat.reduceSub, Nat.reduceLeDiff, Nat.reduceBEq]; rfl)
    · simp
    intro _
    (repeat (first | (refine dw_seq ?_) | (refine dw_block ?_) | ((first | (refine dw_reg (N := 82) rfl (by kernel_rfl) ?_) | (apply dw_drw (id := 4) (N := 82) [(0, .light), (1, .light), (2, .light), (3, .light), (4, .light), (5, .light), (6, .light), (7, .light), (8, .light), (9, .light), (10, .light), (11, .light), (12, .light), (13, .light), (14, .light), (15, .light)]; kernel_rfl; rfl; kernel_rfl; (repeat (first | exact Picks.nil | (apply Picks.cons; rfl)))) | (apply dw_drw (id := 14) (N := 82) [(0, .light), (1, .light), (2, .light), (3, .light), (4, .light), (5, .light), (6, .light), (7, .light), (8, .light), (9, .light), (10, .light), (11, .light), (12, .light), (13, .step), (14, .light), (15, .light)]; kernel_rfl; rfl; kernel_rfl; (repeat (first | exact Picks.nil | (apply Picks.cons; rfl)))) | (refine dw_skip ?_) | (refine dw_exit ?_)); simp (decide := true) only [go_sem, reduceIte, reduceCtorEq, Nat.reduceEqDiff, Nat.reduceAdd, Nat.reduceMul, Nat.reduceSub, Nat.reduceLeDiff, Nat.reduceBEq])))
    refine dw_ret ?_; simp (decide := true) only [go_sem, reduceIte, reduceCtorEq, Nat.reduceEqDiff, Nat.reduceAdd, Nat.reduceMul, Nat.reduceSub, Nat.reduceLeDiff, Nat.reduceBEq]
    simp [checkR, fs_none hall]
end Go.Proofs.Ytffcabenoakmgaa
