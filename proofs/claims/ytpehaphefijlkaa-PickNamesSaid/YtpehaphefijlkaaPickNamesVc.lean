import Derived.Test.YtpehaphefijlkaaVmF
namespace Go.Vm
set_option maxRecDepth 100000
def f_main_main : Nat := 0
def f_gosem_cut : Nat := 1
def f_gosem_cut_init : Nat := 2
def f_reedpipelaw27_PickNames : Nat := 3
def f_pick_Seq : Nat := 4
def f_pick_Chan : Nat := 5
def f_reedpipelaw27_alive : Nat := 6
def f_info_Check : Nat := 7
def f_pick_ready : Nat := 8
def f_pick_stocked : Nat := 9
def f_pick_shelf_channel : Nat := 10
def f_pick_Attack : Nat := 11
def f_pick_Sections : Nat := 12
def f_band_Many : Nat := 13
def f_info_grouped : Nat := 14
def f_pick_odd : Nat := 15
def f_book_Get : Nat := 16
def f_math_bits_Len : Nat := 17
def f_info_Twin : Nat := 18
def f_pick_lines : Nat := 19
def f_pick_size : Nat := 20
def f_slices_Repeat_Lint : Nat := 21
def f_quant_Quantise : Nat := 22
def f_pick_shelf_least : Nat := 23
def f_info_Windows : Nat := 24
def f_slices_Min_Lint : Nat := 25
def f_slices_Max_Lint : Nat := 26
def f_slices_Chunk_Lint : Nat := 27
def f_band_Offsets : Nat := 28
def f_slices_Equal_Lint : Nat := 29
def f_slices_ContainsFunc_Lint : Nat := 30
def f_pick_odd_1 : Nat := 31
def f_book_of : Nat := 32
def f_book_kind_many : Nat := 33
def f_book_kind_sizes : Nat := 34
def f_slices_SortStableFunc_Lint : Nat := 35
def f_book_Get_1 : Nat := 36
def f_cmp_Compare_uint8 : Nat := 37
def f_math_bits_Len32 : Nat := 38
def f_math_bits_Len64 : Nat := 39
def f_slices_Clone_Lint : Nat := 40
def f_pick_lines_1 : Nat := 41
def f_info_Group : Nat := 42
def f_math_bits_Mul : Nat := 43
def f_quant_ready : Nat := 44
def f_quant_each : Nat := 45
def f_power_Quant : Nat := 46
def f_pick_shelf_cost : Nat := 47
def f_pick_header : Nat := 48
def f_info_some : Nat := 49
def f_slices_Chunk_Lint_1 : Nat := 50
def f_slices_IndexFunc_Lint : Nat := 51
def f_book_kinds : Nat := 52
def f_book_kind_wide : Nat := 53
def f_slices_stableCmpFunc_int : Nat := 54
def f_cmp_isNaN_uint8 : Nat := 55
def f_math_bits_Mul32 : Nat := 56
def f_math_bits_Mul64 : Nat := 57
def f_quant_ready_1 : Nat := 58
def f_quant_ready_2 : Nat := 59
def f_slices_ContainsFunc_LLint : Nat := 60
def f_quant_sent : Nat := 61
def f_quant_places : Nat := 62
def f_power_odd : Nat := 63
def f_sort_Search : Nat := 64
def f_power_Quant_1 : Nat := 65
def f_power_line : Nat := 66
def f_pick_kinds : Nat := 67
def f_slices_insertionSortCmpFunc_int : Nat := 68
def f_slices_symMergeCmpFunc_int : Nat := 69
def f_slices_IndexFunc_LLint : Nat := 70
def f_quant_places_1 : Nat := 71
def f_fix_Round : Nat := 72
def f_power_four : Nat := 73
def f_power_quarters_of : Nat := 74
def f_slices_rotateCmpFunc_int : Nat := 75
def f_fix_Cbrt : Nat := 76
def f_slices_swapRangeCmpFunc_int : Nat := 77
def f_fix_root_int : Nat := 78
def f_fix_Cbrt_1 : Nat := 79
def f_runtime_boundsError_Error : Nat := 80
def f_runtime_boundsError_RuntimeError : Nat := 81
def f_runtime_errorString_Error : Nat := 82
def f_runtime_errorString_RuntimeError : Nat := 83
def f_runtime_plainError_Error : Nat := 84
def f_runtime_plainError_RuntimeError : Nat := 85
def f_runtime_errorAddressString_Error : Nat := 86
def f_runtime_errorAddressString_RuntimeError : Nat := 87
def f_runtime_TypeAssertionError_Error : Nat := 88
def f_runtime_TypeAssertionError_RuntimeError : Nat := 89
def f_runtime_PanicNilError_Error : Nat := 90
def f_runtime_PanicNilError_RuntimeError : Nat := 91
def f_internal_abi_Type_Align : Nat := 92
def f_internal_runtime_maps_unhashableTypeError_Error : Nat := 93
def f_internal_runtime_maps_unhashableTypeError_RuntimeError : Nat := 94
def f_api_Errno_Error : Nat := 95
def f_internal_abi_Kind_String : Nat := 96
def rg_reedpipelaw27_PickNames_0 : VC := (.reg false [
  ⟨some 0, none, .mov (.c (.d (.bool false))), []⟩,
  ⟨none, none, .kill [0], []⟩])
def rg_reedpipelaw27_PickNames_1 : VC := (.reg false [
  ⟨some 10, none, .call f_pick_Seq [.c (.d (.int .u8 0)), .c (.d (.bool false)), .c (.d (.bool true))], []⟩,
  ⟨some 9, none, .mov (.m 10), []⟩,
  ⟨some 11, none, .ext 9 false 0, []⟩,
  ⟨some 12, none, .ext 9 false 1, []⟩,
  ⟨some 1, none, .mov (.m 11), []⟩,
  ⟨some 2, none, .mov (.m 12), []⟩,
  ⟨none, none, .kill [9], []⟩])
def rg_reedpipelaw27_PickNames_2 : VC := (.reg false [
  ⟨some 14, none, .call f_pick_Seq [.c (.d (.int .u8 2)), .c (.d (.bool false)), .c (.d (.bool false))], []⟩,
  ⟨some 13, none, .mov (.m 14), []⟩,
  ⟨some 15, none, .ext 13 false 0, []⟩,
  ⟨some 16, none, .ext 13 false 1, []⟩,
  ⟨some 3, none, .mov (.m 15), []⟩,
  ⟨some 4, none, .mov (.m 16), []⟩,
  ⟨none, none, .kill [13], []⟩])
def rg_reedpipelaw27_PickNames_3 : VC := (.reg false [
  ⟨some 18, none, .call f_pick_Seq [.c (.d (.int .u8 4)), .c (.d (.bool false)), .c (.d (.bool false))], []⟩,
  ⟨some 17, none, .mov (.m 18), []⟩,
  ⟨some 19, none, .ext 17 false 0, []⟩,
  ⟨some 20, none, .ext 17 false 1, []⟩,
  ⟨some 5, none, .mov (.m 19), []⟩,
  ⟨some 6, none, .mov (.m 20), []⟩,
  ⟨none, none, .kill [5, 17], []⟩])
def rg_reedpipelaw27_PickNames_4 : VC := (.reg false [
  ⟨some 22, none, .mks 1 [.c (.d (.int .i64 1))], []⟩,
  ⟨some 23, none, .build [.d (.int .u8 0), .d (.int .u8 0), .d (.int .i64 0), .nl] [(2, 1, .c (.d (.int .i64 3))), (3, 1, .m 22)], []⟩,
  ⟨some 24, none, .mkslice [.int .i64 0] (.c (.d (.int .i64 256))) (.c (.d (.int .i64 256))), []⟩,
  ⟨some 25, none, .call f_pick_Chan [.c (.d (.int .i64 0)), .m 23, .m 24, .c (.d (.int .i64 256))], []⟩,
  ⟨some 21, none, .mov (.m 25), []⟩,
  ⟨some 26, none, .ext 21 true 0, []⟩,
  ⟨some 27, none, .ext 21 false 1, []⟩,
  ⟨some 7, none, .alloc [.d (.int .i64 0), .d (.int .u8 0), .d (.int .u8 0), .d (.int .i64 0), .nl, .nl, .nl, .nl, .nl], []⟩,
  ⟨none, none, .st 9 (.s 7) (.m 26), []⟩,
  ⟨some 8, none, .mov (.m 27), []⟩,
  ⟨none, none, .kill [21], []⟩])
def rg_reedpipelaw27_PickNames_5 : VC := (.reg false [
  ⟨some 28, none, .mov (.c (.d (.bool true))), []⟩,
  ⟨some 29, (some (28, true)), .call f_reedpipelaw27_alive [], []⟩,
  ⟨some 30, none, .pick (.m 28) (.s 29) (.c (.d (.bool false))), []⟩,
  ⟨some 31, none, .mov (.m 30), []⟩,
  ⟨some 32, (some (31, true)), .mov (.s 2), []⟩,
  ⟨some 33, (some (31, true)), .bin .eql (.s 32) (.c (.d (.int .i64 0))), []⟩,
  ⟨some 34, none, .pick (.m 31) (.s 33) (.c (.d (.bool false))), []⟩,
  ⟨some 35, none, .mov (.m 34), []⟩,
  ⟨some 36, (some (35, true)), .mov (.s 4), []⟩,
  ⟨some 37, (some (35, true)), .bin .eql (.s 36) (.c (.d (.int .i64 0))), []⟩,
  ⟨some 38, none, .pick (.m 35) (.s 37) (.c (.d (.bool false))), []⟩,
  ⟨some 39, none, .mov (.m 38), []⟩,
  ⟨some 40, (some (39, true)), .mov (.s 1), []⟩,
  ⟨some 41, (some (39, true)), .bin .eql (.s 40) (.c (.d (.int .u8 1))), []⟩,
  ⟨some 42, none, .pick (.m 39) (.s 41) (.c (.d (.bool false))), []⟩,
  ⟨some 43, none, .mov (.m 42), []⟩,
  ⟨some 44, (some (43, true)), .mov (.s 3), []⟩,
  ⟨some 45, (some (43, true)), .bin .eql (.s 44) (.c (.d (.int .u8 3))), []⟩,
  ⟨some 46, none, .pick (.m 43) (.s 45) (.c (.d (.bool false))), []⟩,
  ⟨some 47, none, .mov (.m 46), []⟩,
  ⟨some 48, (some (47, true)), .mov (.s 6), []⟩,
  ⟨some 49, (some (47, true)), .bin .eql (.s 48) (.c (.d (.int .i64 2))), []⟩,
  ⟨some 50, none, .pick (.m 47) (.s 49) (.c (.d (.bool false))), []⟩,
  ⟨some 51, none, .mov (.m 50), []⟩,
  ⟨some 52, (some (51, true)), .mov (.s 8), []⟩,
  ⟨some 53, (some (51, true)), .bin .eql (.s 52) (.c (.d (.int .i64 2))), []⟩,
  ⟨some 54, none, .pick (.m 51) (.s 53) (.c (.d (.bool false))), []⟩,
  ⟨some 0, none, .mov (.m 54), []⟩,
  ⟨none, none, .kill [1, 2, 3, 4, 6, 8, 29, 32, 33, 36, 37, 40, 41, 44, 45, 48, 49, 52, 53], []⟩])
def c_reedpipelaw27_PickNames : VFunc := ⟨0, [.tmp 0],
(.seq rg_reedpipelaw27_PickNames_0
(.seq rg_reedpipelaw27_PickNames_1
(.seq rg_reedpipelaw27_PickNames_2
(.seq rg_reedpipelaw27_PickNames_3
(.seq (.seq rg_reedpipelaw27_PickNames_4 (F 7))
(.seq rg_reedpipelaw27_PickNames_5
.ret))))))⟩
def rg_pick_Seq_0 : VC := (.reg false [
  ⟨some 6, none, .mov (.c (.d (.int .u8 0))), []⟩,
  ⟨some 7, none, .mov (.c (.d (.int .i64 0))), []⟩,
  ⟨none, none, .kill [6, 7], []⟩])
def rg_pick_Seq_1 : VC := (.reg false [
  ⟨some 9, none, .mov (.s 0), []⟩,
  ⟨some 10, none, .bin .gtr (.m 9) (.c (.d (.int .u8 3))), []⟩,
  ⟨some 8, none, .mov (.m 10), []⟩])
def rg_pick_Seq_2 : VC := (.reg false [
  ⟨some 6, none, .mov (.c (.d (.int .u8 0))), []⟩,
  ⟨some 7, none, .mov (.c (.d (.int .i64 2))), []⟩])
def rg_pick_Seq_3 : VC := (.reg false [
  ⟨some 12, none, .mov (.s 0), []⟩,
  ⟨some 13, none, .bin .eql (.m 12) (.c (.d (.int .u8 1))), []⟩,
  ⟨some 14, none, .mov (.m 13), []⟩,
  ⟨some 15, (some (14, false)), .mov (.s 0), []⟩,
  ⟨some 16, (some (14, false)), .bin .eql (.s 15) (.c (.d (.int .u8 2))), []⟩,
  ⟨some 17, none, .pick (.m 14) (.c (.d (.bool true))) (.s 16), []⟩,
  ⟨some 11, none, .mov (.m 17), []⟩,
  ⟨none, none, .kill [0, 15, 16], []⟩])
def rg_pick_Seq_4 : VC := (.reg false [
  ⟨some 18, none, .mov (.m 1), []⟩,
  ⟨some 19, none, .mov (.m 18), []⟩,
  ⟨some 20, (some (19, false)), .mov (.s 2), []⟩,
  ⟨some 21, none, .pick (.m 19) (.c (.d (.bool true))) (.s 20), []⟩,
  ⟨none, none, .kill [2, 20], []⟩])
def rg_pick_Seq_5 : VC := (.reg false [
  ⟨some 6, none, .mov (.c (.d (.int .u8 2))), []⟩,
  ⟨some 7, none, .mov (.c (.d (.int .i64 0))), []⟩])
def rg_pick_Seq_6 : VC := (.reg false [
  ⟨some 6, none, .mov (.c (.d (.int .u8 3))), []⟩,
  ⟨some 7, none, .mov (.c (.d (.int .i64 0))), []⟩])
def rg_pick_Seq_7 : VC := (.reg false [
  ⟨some 23, none, .mov (.m 2), []⟩,
  ⟨some 22, none, .mov (.m 23), []⟩])
def rg_pick_Seq_8 : VC := (.reg false [
  ⟨some 6, none, .mov (.c (.d (.int .u8 1))), []⟩,
  ⟨some 7, none, .mov (.c (.d (.int .i64 0))), []⟩])
def rg_pick_Seq_9 : VC := (.reg false [
  ⟨some 6, none, .mov (.c (.d (.int .u8 0))), []⟩,
  ⟨some 7, none, .mov (.c (.d (.int .i64 0))), []⟩])
def c_pick_Seq : VFunc := ⟨3, [.tmp 6, .tmp 7],
(.seq rg_pick_Seq_0
(.seq (.block 0
(.seq rg_pick_Seq_1
(.cond (.m 8)
(.seq (K [0, 1, 2]) (.seq rg_pick_Seq_2
.ret))
(.seq rg_pick_Seq_3
(.cond (.m 11)
(.seq (.seq rg_pick_Seq_4
(.cond (.m 21)
(.seq rg_pick_Seq_5
.ret)
.skip))
(.seq rg_pick_Seq_6
.ret))
(.seq (K [1]) (.seq rg_pick_Seq_7
(.cond (.m 22)
(.seq rg_pick_Seq_8
.ret)
.skip))))))))
(.seq rg_pick_Seq_9
.ret)))⟩
def rg_pick_Chan_0 : VC := (.reg false [
  ⟨some 5, none, .box (.m 1), []⟩,
  ⟨some 8, none, .alloc [.d (.int .i64 0), .d (.int .u8 0), .d (.int .u8 0), .d (.int .i64 0), .nl, .nl, .nl, .nl, .nl], []⟩,
  ⟨some 9, none, .mov (.c (.d (.int .i64 0))), []⟩,
  ⟨none, none, .kill [9], []⟩])
def rg_pick_Chan_1 : VC := (.reg false [
  ⟨some 12, none, .mov (.s 0), []⟩,
  ⟨some 13, none, .ld (some 4) 0 (.s 5), []⟩,
  ⟨some 14, none, .call f_info_Check [.m 12, .m 13], []⟩,
  ⟨some 10, none, .mov (.m 14), []⟩])
def rg_pick_Chan_2 : VC := (.reg false [
  ⟨some 15, none, .mov (.s 10), []⟩,
  ⟨some 16, none, .bin .neq (.m 15) (.c (.d (.int .i64 0))), []⟩])
def rg_pick_Chan_3 : VC := (.reg false [
  ⟨some 17, none, .build [.d (.int .i64 0), .d (.int .u8 0), .d (.int .u8 0), .d (.int .i64 0), .nl, .nl, .nl, .nl, .nl] [], []⟩,
  ⟨some 18, none, .mov (.m 10), []⟩,
  ⟨none, none, .st 9 (.s 8) (.m 17), []⟩,
  ⟨some 9, none, .mov (.m 18), []⟩])
def rg_pick_Chan_4 : VC := (.reg false [
  ⟨some 19, none, .mov (.s 3), []⟩,
  ⟨some 20, none, .bin .lss (.m 19) (.c (.d (.int .i64 0))), []⟩,
  ⟨some 21, none, .mov (.m 20), []⟩,
  ⟨some 22, (some (21, false)), .mov (.s 3), []⟩,
  ⟨some 23, (some (21, false)), .bin .gtr (.s 22) (.c (.d (.int .i64 255))), []⟩,
  ⟨some 24, none, .pick (.m 21) (.c (.d (.bool true))) (.s 23), []⟩,
  ⟨none, none, .kill [22, 23], []⟩])
def rg_pick_Chan_5 : VC := (.reg false [
  ⟨some 25, none, .build [.d (.int .i64 0), .d (.int .u8 0), .d (.int .u8 0), .d (.int .i64 0), .nl, .nl, .nl, .nl, .nl] [], []⟩,
  ⟨none, none, .st 9 (.s 8) (.m 25), []⟩,
  ⟨some 9, none, .mov (.c (.d (.int .i64 2))), []⟩])
def rg_pick_Chan_6 : VC := (.reg false [
  ⟨some 26, none, .mov (.s 0), []⟩,
  ⟨some 27, none, .ld (some 4) 0 (.s 5), []⟩,
  ⟨some 28, none, .mov (.s 2), []⟩,
  ⟨some 29, none, .call f_pick_ready [.m 26, .m 27, .m 28, .c (.d (.int .i64 268435455))], []⟩,
  ⟨some 11, none, .mov (.m 29), []⟩])
def rg_pick_Chan_7 : VC := (.reg false [
  ⟨some 30, none, .mov (.s 11), []⟩,
  ⟨some 31, none, .bin .neq (.m 30) (.c (.d (.int .i64 0))), []⟩])
def rg_pick_Chan_8 : VC := (.reg false [
  ⟨some 32, none, .build [.d (.int .i64 0), .d (.int .u8 0), .d (.int .u8 0), .d (.int .i64 0), .nl, .nl, .nl, .nl, .nl] [], []⟩,
  ⟨some 33, none, .mov (.m 11), []⟩,
  ⟨none, none, .st 9 (.s 8) (.m 32), []⟩,
  ⟨some 9, none, .mov (.m 33), []⟩])
def rg_pick_Chan_9 : VC := (.regP [1, 2, 3, 4, 0, 5, 6, 7] [0, 1, 2, 3, 4, 5, 6, 7] [0, 2] [
  ⟨some 34, none, .calli f_pick_stocked [], []⟩,
  ⟨some 35, none, .mov (.m 0), []⟩,
  ⟨some 36, none, .ld (some 4) 0 (.s 5), []⟩,
  ⟨some 37, none, .mov (.m 2), []⟩,
  ⟨some 38, none, .mov (.m 3), []⟩,
  ⟨some 39, none, .calli f_pick_shelf_channel [.m 34, .m 35, .m 36, .m 37, .m 38], []⟩,
  ⟨none, none, .st 9 (.s 8) (.m 39), []⟩,
  ⟨some 9, none, .mov (.c (.d (.int .i64 0))), []⟩])
def c_pick_Chan : VFunc := ⟨4, [.cell 8 (some 9), .tmp 9],
(.seq rg_pick_Chan_0
(.seq (.seq rg_pick_Chan_1
(.seq rg_pick_Chan_2
(.cond (.m 16)
(.seq (.seq (K [0, 2, 3]) (F 5)) (.seq rg_pick_Chan_3
.ret))
(.seq (K [10]) .skip))))
(.seq (.seq rg_pick_Chan_4
(.cond (.m 24)
(.seq (.seq (K [0, 2, 3]) (F 5)) (.seq rg_pick_Chan_5
.ret))
.skip))
(.seq (.seq rg_pick_Chan_6
(.seq rg_pick_Chan_7
(.cond (.m 31)
(.seq (.seq (K [0, 2, 3]) (F 5)) (.seq rg_pick_Chan_8
.ret))
(.seq (K [11]) .skip))))
(.seq (.seq rg_pick_Chan_9 (F 5))
.ret)))))⟩
def rg_reedpipelaw27_alive_0 : VC := (.reg false [
  ⟨some 0, none, .mov (.c (.d (.bool false))), []⟩,
  ⟨none, none, .kill [0], []⟩])
def rg_reedpipelaw27_alive_1 : VC := (.reg false [
  ⟨some 6, none, .mkslice [.int .i64 0] (.c (.d (.int .i64 256))) (.c (.d (.int .i64 256))), []⟩,
  ⟨some 7, none, .call f_pick_Attack [.m 6], []⟩,
  ⟨some 5, none, .mov (.m 7), []⟩,
  ⟨some 8, none, .ext 5 false 0, []⟩,
  ⟨some 9, none, .ext 5 false 1, []⟩,
  ⟨some 1, none, .mov (.m 8), []⟩,
  ⟨some 2, none, .mov (.m 9), []⟩,
  ⟨none, none, .kill [5], []⟩])
def rg_reedpipelaw27_alive_2 : VC := (.reg false [
  ⟨some 11, none, .mks 1 [.c (.d (.int .i64 1))], []⟩,
  ⟨some 12, none, .build [.d (.int .u8 0), .d (.int .u8 0), .d (.int .i64 0), .nl] [(2, 1, .c (.d (.int .i64 3))), (3, 1, .m 11)], []⟩,
  ⟨some 13, none, .mkslice [.int .i64 0] (.c (.d (.int .i64 256))) (.c (.d (.int .i64 256))), []⟩,
  ⟨some 14, none, .call f_pick_Sections [.c (.d (.int .i64 0)), .m 12, .m 13], []⟩,
  ⟨some 10, none, .mov (.m 14), []⟩,
  ⟨some 15, none, .ext 10 true 0, []⟩,
  ⟨some 16, none, .ext 10 false 1, []⟩,
  ⟨some 3, none, .mov (.m 15), []⟩,
  ⟨some 4, none, .mov (.m 16), []⟩,
  ⟨none, none, .kill [10], []⟩])
def rg_reedpipelaw27_alive_3 : VC := (.reg false [
  ⟨some 17, none, .mov (.m 2), []⟩,
  ⟨some 18, none, .bin .eql (.m 17) (.c (.d (.int .i64 0))), []⟩,
  ⟨some 19, none, .mov (.m 18), []⟩,
  ⟨some 20, (some (19, true)), .mov (.s 4), []⟩,
  ⟨some 21, (some (19, true)), .bin .eql (.s 20) (.c (.d (.int .i64 0))), []⟩,
  ⟨some 22, none, .pick (.m 19) (.s 21) (.c (.d (.bool false))), []⟩,
  ⟨some 23, none, .mov (.m 22), []⟩,
  ⟨some 24, (some (23, true)), .mov (.s 1), []⟩,
  ⟨some 25, (some (23, true)), .un .not (.s 24), []⟩,
  ⟨some 26, none, .pick (.m 23) (.s 25) (.c (.d (.bool false))), []⟩,
  ⟨some 27, none, .mov (.m 26), []⟩,
  ⟨some 28, (some (27, true)), .mov (.s 3), []⟩,
  ⟨some 29, (some (27, true)), .len (.s 28), []⟩,
  ⟨some 30, (some (27, true)), .bin .eql (.s 29) (.c (.d (.int .i64 1))), []⟩,
  ⟨some 31, none, .pick (.m 27) (.s 30) (.c (.d (.bool false))), []⟩,
  ⟨some 32, none, .mov (.m 31), []⟩,
  ⟨some 33, (some (32, true)), .mov (.s 3), []⟩,
  ⟨some 34, (some (32, true)), .ia 1 (.s 33) (.c (.d (.int .i64 0))), []⟩,
  ⟨some 35, (some (32, true)), .ld none 0 (.s 34), []⟩,
  ⟨some 36, (some (32, true)), .len (.s 35), []⟩,
  ⟨some 37, (some (32, true)), .bin .eql (.s 36) (.c (.d (.int .i64 1))), []⟩,
  ⟨some 38, none, .pick (.m 32) (.s 37) (.c (.d (.bool false))), []⟩,
  ⟨some 39, none, .mov (.m 38), []⟩,
  ⟨some 40, (some (39, true)), .mov (.s 3), []⟩,
  ⟨some 41, (some (39, true)), .ia 1 (.s 40) (.c (.d (.int .i64 0))), []⟩,
  ⟨some 42, (some (39, true)), .ld none 0 (.s 41), []⟩,
  ⟨some 43, (some (39, true)), .ia 2 (.s 42) (.c (.d (.int .i64 0))), []⟩,
  ⟨some 44, (some (39, true)), .ld (some 2) 0 (.s 43), []⟩,
  ⟨some 45, (some (39, true)), .build [.d (.int .i64 0), .d (.int .i64 0)] [(0, 1, .c (.d (.int .i64 0))), (1, 1, .c (.d (.int .i64 3)))], []⟩,
  ⟨some 46, (some (39, true)), .bina false [true, true] (.s 44) (.s 45), []⟩,
  ⟨some 47, none, .pick (.m 39) (.s 46) (.c (.d (.bool false))), []⟩,
  ⟨some 0, none, .mov (.m 47), []⟩,
  ⟨none, none, .kill [1, 3, 4, 20, 21, 24, 25, 28, 29, 30, 33, 34, 35, 36, 37, 40, 41, 42, 43, 44, 45, 46], []⟩])
def c_reedpipelaw27_alive : VFunc := ⟨0, [.tmp 0],
(.seq rg_reedpipelaw27_alive_0
(.seq rg_reedpipelaw27_alive_1
(.seq rg_reedpipelaw27_alive_2
(.seq rg_reedpipelaw27_alive_3
.ret))))⟩
def rg_info_Check_0 : VC := (.reg false [
  ⟨some 3, none, .box (.m 1), []⟩,
  ⟨some 4, none, .mov (.c (.d (.int .i64 0))), []⟩,
  ⟨none, none, .kill [4], []⟩])
def rg_info_Check_1 : VC := (.reg false [
  ⟨some 8, none, .mov (.m 0), []⟩,
  ⟨some 9, none, .fa 0 (.s 3), []⟩,
  ⟨some 10, none, .ld none 0 (.m 9), []⟩,
  ⟨some 11, none, .bin .eql (.m 10) (.c (.d (.int .u8 2))), []⟩,
  ⟨some 12, none, .call f_band_Many [.m 8, .m 11], []⟩,
  ⟨some 7, none, .mov (.m 12), []⟩,
  ⟨some 13, none, .ext 7 false 0, []⟩,
  ⟨some 14, none, .ext 7 false 1, []⟩,
  ⟨some 5, none, .mov (.m 13), []⟩,
  ⟨some 6, none, .mov (.m 14), []⟩,
  ⟨none, none, .kill [7], []⟩])
def rg_info_Check_2 : VC := (.reg false [
  ⟨some 15, none, .mov (.s 6), []⟩,
  ⟨some 16, none, .bin .neq (.m 15) (.c (.d (.int .i64 0))), []⟩])
def rg_info_Check_3 : VC := (.reg false [
  ⟨some 17, none, .mov (.m 6), []⟩,
  ⟨some 4, none, .mov (.m 17), []⟩])
def rg_info_Check_4 : VC := (.reg false [
  ⟨some 18, none, .fa 0 (.s 3), []⟩,
  ⟨some 19, none, .ld none 0 (.m 18), []⟩,
  ⟨some 20, none, .bin .gtr (.m 19) (.c (.d (.int .u8 3))), []⟩,
  ⟨some 21, none, .mov (.m 20), []⟩,
  ⟨some 22, (some (21, false)), .fa 1 (.s 3), []⟩,
  ⟨some 23, (some (21, false)), .ld none 0 (.s 22), []⟩,
  ⟨some 24, (some (21, false)), .bin .gtr (.s 23) (.c (.d (.int .u8 1))), []⟩,
  ⟨some 25, none, .pick (.m 21) (.c (.d (.bool true))) (.s 24), []⟩,
  ⟨some 26, none, .mov (.m 25), []⟩,
  ⟨some 27, (some (26, false)), .fa 2 (.s 3), []⟩,
  ⟨some 28, (some (26, false)), .ld none 0 (.s 27), []⟩,
  ⟨some 29, (some (26, false)), .bin .lss (.s 28) (.c (.d (.int .i64 0))), []⟩,
  ⟨some 30, none, .pick (.m 26) (.c (.d (.bool true))) (.s 29), []⟩,
  ⟨some 31, none, .mov (.m 30), []⟩,
  ⟨some 32, (some (31, false)), .fa 2 (.s 3), []⟩,
  ⟨some 33, (some (31, false)), .ld none 0 (.s 32), []⟩,
  ⟨some 34, (some (31, false)), .mov (.s 5), []⟩,
  ⟨some 35, (some (31, false)), .bin .gtr (.s 33) (.s 34), []⟩,
  ⟨some 36, none, .pick (.m 31) (.c (.d (.bool true))) (.s 35), []⟩,
  ⟨some 37, none, .mov (.m 36), []⟩,
  ⟨some 38, (some (37, false)), .ld (some 4) 0 (.s 3), []⟩,
  ⟨some 39, (some (37, false)), .call f_info_grouped [.s 38], []⟩,
  ⟨some 40, (some (37, false)), .un .not (.s 39), []⟩,
  ⟨some 41, none, .pick (.m 37) (.c (.d (.bool true))) (.s 40), []⟩,
  ⟨none, none, .kill [3, 5, 22, 23, 24, 27, 28, 29, 32, 33, 34, 35, 38, 39, 40], []⟩])
def rg_info_Check_5 : VC := (.reg false [
  ⟨some 4, none, .mov (.c (.d (.int .i64 8))), []⟩])
def rg_info_Check_6 : VC := (.reg false [
  ⟨some 4, none, .mov (.c (.d (.int .i64 0))), []⟩])
def c_info_Check : VFunc := ⟨2, [.tmp 4],
(.seq rg_info_Check_0
(.seq rg_info_Check_1
(.seq (.seq rg_info_Check_2
(.cond (.m 16)
(.seq (K [3, 5]) (.seq rg_info_Check_3
.ret))
(.seq (K [6]) .skip)))
(.seq (.seq rg_info_Check_4
(.cond (.m 41)
(.seq rg_info_Check_5
.ret)
.skip))
(.seq rg_info_Check_6
.ret)))))⟩
def rg_pick_ready_0 : VC := (.reg false [
  ⟨some 5, none, .box (.m 1), []⟩,
  ⟨some 8, none, .mov (.c (.d (.int .i64 0))), []⟩,
  ⟨none, none, .kill [8], []⟩])
def rg_pick_ready_1 : VC := (.reg false [
  ⟨some 10, none, .mov (.m 0), []⟩,
  ⟨some 11, none, .ld (some 4) 1 (.s 5), []⟩,
  ⟨some 12, none, .call f_info_Check [.m 10, .m 11], []⟩,
  ⟨some 9, none, .mov (.m 12), []⟩])
def rg_pick_ready_2 : VC := (.reg false [
  ⟨some 14, none, .mov (.s 9), []⟩,
  ⟨some 15, none, .bin .neq (.m 14) (.c (.d (.int .i64 0))), []⟩,
  ⟨some 13, none, .mov (.m 15), []⟩])
def rg_pick_ready_3 : VC := (.reg false [
  ⟨some 16, none, .mov (.m 9), []⟩,
  ⟨some 8, none, .mov (.m 16), []⟩])
def rg_pick_ready_4 : VC := (.reg false [
  ⟨some 18, none, .mov (.s 2), []⟩,
  ⟨some 19, none, .len (.m 18), []⟩,
  ⟨some 20, none, .bin .neq (.m 19) (.c (.d (.int .i64 256))), []⟩,
  ⟨some 17, none, .mov (.m 20), []⟩])
def rg_pick_ready_5 : VC := (.reg false [
  ⟨some 8, none, .mov (.c (.d (.int .i64 4))), []⟩])
def rg_pick_ready_6 : VC := (.reg false [
  ⟨some 22, none, .mov (.m 2), []⟩,
  ⟨some 23, none, .mov (.m 3), []⟩,
  ⟨some 24, none, .call f_pick_odd [.m 22, .m 23], []⟩,
  ⟨some 21, none, .mov (.m 24), []⟩])
def rg_pick_ready_7 : VC := (.reg false [
  ⟨some 8, none, .mov (.c (.d (.int .i64 2))), []⟩])
def rg_pick_ready_8 : VC := (.reg false [
  ⟨some 8, none, .mov (.c (.d (.int .i64 0))), []⟩])
def c_pick_ready : VFunc := ⟨4, [.tmp 8],
(.seq rg_pick_ready_0
(.seq (.seq rg_pick_ready_1 (F 5))
(.seq (.block 0
(.seq rg_pick_ready_2
(.cond (.m 13)
(.seq (K [2, 3]) (.seq rg_pick_ready_3
.ret))
(.seq (K [9]) (.seq rg_pick_ready_4
(.cond (.m 17)
(.seq (K [2, 3]) (.seq rg_pick_ready_5
.ret))
(.seq rg_pick_ready_6
(.cond (.m 21)
(.seq rg_pick_ready_7
.ret)
.skip))))))))
(.seq rg_pick_ready_8
.ret))))⟩
def rg_pick_stocked_0 : VC := (.reg false [
  ⟨some 0, none, .mov (.c (.nilp)), []⟩,
  ⟨none, none, .kill [0], []⟩])
def rg_pick_stocked_1 : VC := (.reg false [
  ⟨some 1, none, .alloc [.nl, .nl, .nl, .nl, .nl, .nl, .nl, .nl, .nl, .nl, .nl, .nl], []⟩])
def rg_pick_stocked_2 : VC := (.reg false [
  ⟨some 2, none, .mov (.c (.d (.int .i64 1))), []⟩])
def rg_pick_stocked_3 : VC := (.reg false [
  ⟨some 7, none, .mov (.s 2), []⟩,
  ⟨some 8, none, .bin .leq (.m 7) (.c (.d (.int .i64 11))), []⟩])
def rg_pick_stocked_4 : VC := (.reg false [
  ⟨some 12, none, .mov (.s 2), []⟩,
  ⟨some 13, none, .call f_book_Get [.m 12], []⟩,
  ⟨some 11, none, .mov (.m 13), []⟩,
  ⟨some 14, none, .ext 11 true 0, []⟩,
  ⟨some 15, none, .ext 11 false 1, []⟩,
  ⟨some 3, none, .alloc [.d (.int .i64 0), .d (.int .i64 0), .nl, .nl], []⟩,
  ⟨none, none, .st 4 (.s 3) (.m 14), []⟩,
  ⟨some 4, none, .mov (.m 15), []⟩,
  ⟨none, none, .kill [4, 11], []⟩])
def rg_pick_stocked_5 : VC := (.reg false [
  ⟨some 16, none, .mov (.s 2), []⟩,
  ⟨some 17, none, .fa 3 (.s 3), []⟩,
  ⟨some 18, none, .ld none 0 (.m 17), []⟩,
  ⟨some 19, none, .len (.m 18), []⟩,
  ⟨some 20, none, .mkslice [.int .i64 0] (.s 19) (.s 19), [(0, 0)]⟩,
  ⟨some 21, none, .iarr 12 1 (.s 1) (.m 16), []⟩,
  ⟨none, none, .st 1 (.m 21) (.m 20), []⟩,
  ⟨none, none, .kill [19], []⟩])
def rg_pick_stocked_6 : VC := (.reg false [
  ⟨some 22, none, .fa 3 (.s 3), []⟩,
  ⟨some 23, none, .ld none 0 (.m 22), []⟩,
  ⟨some 24, none, .len (.s 23), []⟩,
  ⟨some 25, none, .mov (.c (.d (.int .i64 0))), []⟩])
def rg_pick_stocked_7 : VC := (.reg false [
  ⟨some 26, none, .bin .lss (.s 25) (.s 24), []⟩])
def rg_pick_stocked_8 : VC := (.reg false [
  ⟨some 27, none, .mov (.s 25), []⟩,
  ⟨some 28, none, .ia 1 (.s 23) (.s 25), []⟩,
  ⟨some 29, none, .ld none 0 (.m 28), []⟩,
  ⟨some 5, none, .mov (.m 27), []⟩,
  ⟨some 6, none, .mov (.m 29), []⟩])
def rg_pick_stocked_9 : VC := (.regP [0, 1, 2, 3, 4, 5, 6, 7, 8, 9, 10, 11, 12, 13, 14, 15, 16, 17] [0, 1, 2, 3, 4, 5, 6, 7, 8, 9, 10, 11, 12, 13, 14, 15, 16, 17] [] [
  ⟨some 30, none, .mov (.s 2), []⟩,
  ⟨some 31, none, .iarr 12 1 (.s 1) (.m 30), []⟩,
  ⟨some 32, none, .ld none 0 (.m 31), []⟩,
  ⟨some 33, none, .mov (.m 5), []⟩,
  ⟨some 34, none, .mov (.m 6), []⟩,
  ⟨some 35, none, .fa 1 (.s 3), []⟩,
  ⟨some 36, none, .ld none 0 (.m 35), []⟩,
  ⟨some 37, none, .bin .shr (.m 34) (.m 36), []⟩,
  ⟨some 38, none, .bin .add (.m 37) (.c (.d (.int .i64 1))), []⟩,
  ⟨some 39, none, .conv .u64 (.m 38), []⟩,
  ⟨some 40, none, .call f_math_bits_Len [.m 39], []⟩,
  ⟨some 41, none, .bin .mul (.c (.d (.int .i64 2))) (.m 40), []⟩,
  ⟨some 42, none, .bin .sub (.m 41) (.c (.d (.int .i64 1))), []⟩,
  ⟨some 43, none, .fa 1 (.s 3), []⟩,
  ⟨some 44, none, .ld none 0 (.m 43), []⟩,
  ⟨some 45, none, .bin .add (.m 42) (.m 44), []⟩,
  ⟨some 46, none, .ia 1 (.m 32) (.m 33), []⟩,
  ⟨none, none, .st 1 (.m 46) (.m 45), []⟩])
def rg_pick_stocked_10 : VC := (.reg false [
  ⟨some 47, none, .bin .add (.m 25) (.c (.d (.int .i64 1))), []⟩,
  ⟨some 25, none, .mov (.m 47), []⟩])
def c_pick_stocked_L0 : VC := (.seq rg_pick_stocked_7
(.seq (.cond (.m 26)
.skip
(.seq (.seq (K [23, 24, 25]) (F 3)) (.exit 2)))
(.seq (.block 3
(.seq rg_pick_stocked_8
rg_pick_stocked_9))
rg_pick_stocked_10)))
def rg_pick_stocked_11 : VC := (.reg false [
  ⟨some 9, none, .mov (.m 2), []⟩,
  ⟨some 10, none, .bin .add (.m 9) (.c (.d (.int .i64 1))), []⟩,
  ⟨some 2, none, .mov (.m 10), []⟩])
def c_pick_stocked_L1 : VC := (.seq (.seq rg_pick_stocked_3
(.cond (.m 8)
.skip
(.seq (K [2]) (.exit 0))))
(.seq (.block 1
(.seq rg_pick_stocked_4
(.seq rg_pick_stocked_5
(.seq rg_pick_stocked_6
(.block 2
(.seq (.loop c_pick_stocked_L0) (.seq (K [23, 24, 25]) (F 3))))))))
rg_pick_stocked_11))
def rg_pick_stocked_12 : VC := (.reg false [
  ⟨some 0, none, .mov (.m 1), []⟩])
def c_pick_stocked : VFunc := ⟨0, [.tmp 0],
(.seq rg_pick_stocked_0
(.seq rg_pick_stocked_1
(.seq (.seq rg_pick_stocked_2
(.block 0
(.seq (.loop c_pick_stocked_L1) (K [2]))))
(.seq rg_pick_stocked_12
.ret))))⟩
def rg_pick_Attack_0 : VC := (.reg false [
  ⟨some 2, none, .alloc [.d (.bool false)], []⟩,
  ⟨some 3, none, .alloc [.d (.int .i64 0)], []⟩])
def rg_pick_Attack_1 : VC := (.reg false [
  ⟨some 10, none, .mov (.s 0), []⟩,
  ⟨some 11, none, .len (.m 10), []⟩,
  ⟨some 12, none, .bin .neq (.m 11) (.c (.d (.int .i64 256))), []⟩])
def rg_pick_Attack_2 : VC := (.reg false [
  ⟨none, none, .st 1 (.s 2) (.c (.d (.bool false))), []⟩,
  ⟨none, none, .st 1 (.s 3) (.c (.d (.int .i64 4))), []⟩])
def rg_pick_Attack_3 : VC := (.reg false [
  ⟨some 13, none, .mov (.s 0), []⟩,
  ⟨some 14, none, .call f_slices_Min_Lint [.m 13], []⟩,
  ⟨some 15, none, .bin .lss (.m 14) (.c (.d (.int .i64 (-32768)))), []⟩,
  ⟨some 16, none, .mov (.m 15), []⟩,
  ⟨some 17, (some (16, false)), .mov (.s 0), []⟩,
  ⟨some 18, (some (16, false)), .call f_slices_Max_Lint [.s 17], []⟩,
  ⟨some 19, (some (16, false)), .bin .geq (.s 18) (.c (.d (.int .i64 32768))), []⟩,
  ⟨some 20, none, .pick (.m 16) (.c (.d (.bool true))) (.s 19), []⟩,
  ⟨none, none, .kill [17, 18, 19], []⟩])
def rg_pick_Attack_4 : VC := (.reg false [
  ⟨none, none, .st 1 (.s 2) (.c (.d (.bool false))), []⟩,
  ⟨none, none, .st 1 (.s 3) (.c (.d (.int .i64 2))), []⟩])
def rg_pick_Attack_5 : VC := (.reg false [
  ⟨some 4, none, .alloc [.d (.int .i64 0)], []⟩,
  ⟨some 5, none, .alloc [.d (.int .i64 0)], []⟩,
  ⟨none, none, .st 1 (.s 4) (.c (.d (.int .i64 0))), []⟩,
  ⟨none, none, .st 1 (.s 5) (.c (.d (.int .i64 0))), []⟩])
def rg_pick_Attack_6 : VC := (.reg false [
  ⟨some 21, none, .mov (.m 0), []⟩,
  ⟨some 22, none, .calli f_slices_Chunk_Lint [.m 21, .c (.d (.int .i64 32))], []⟩])
def rg_pick_Attack_7 : VC := (.reg false [
  ⟨some 6, none, .mov (.m 23), []⟩,
  ⟨none, none, .kill [22], []⟩])
def rg_pick_Attack_8 : VC := (.reg false [
  ⟨some 7, none, .mov (.c (.d (.int .i64 0))), []⟩])
def rg_pick_Attack_9 : VC := (.reg false [
  ⟨some 24, none, .mov (.m 6), []⟩,
  ⟨some 25, none, .len (.s 24), []⟩,
  ⟨some 26, none, .mov (.c (.d (.int .i64 0))), []⟩])
def rg_pick_Attack_10 : VC := (.reg false [
  ⟨some 27, none, .bin .lss (.s 26) (.s 25), []⟩])
def rg_pick_Attack_11 : VC := (.reg false [
  ⟨some 28, none, .ia 1 (.s 24) (.s 26), []⟩,
  ⟨some 29, none, .ld none 0 (.m 28), []⟩,
  ⟨some 9, none, .mov (.m 29), []⟩])
def rg_pick_Attack_12 : VC := (.reg false [
  ⟨some 30, none, .mov (.m 7), []⟩,
  ⟨some 31, none, .mov (.s 9), []⟩,
  ⟨some 32, none, .mov (.m 9), []⟩,
  ⟨some 33, none, .bin .mul (.m 31) (.m 32), []⟩,
  ⟨some 34, none, .bin .add (.m 30) (.m 33), []⟩,
  ⟨some 7, none, .mov (.m 34), []⟩])
def rg_pick_Attack_13 : VC := (.reg false [
  ⟨some 35, none, .bin .add (.m 26) (.c (.d (.int .i64 1))), []⟩,
  ⟨some 26, none, .mov (.m 35), []⟩])
def c_pick_Attack_L0 : VC := (.seq rg_pick_Attack_10
(.seq (.cond (.m 27)
.skip
(.seq (K [24, 25, 26]) (.exit 2)))
(.seq (.block 3
(.seq rg_pick_Attack_11
rg_pick_Attack_12))
rg_pick_Attack_13)))
def rg_pick_Attack_14 : VC := (.reg false [
  ⟨some 36, none, .ld none 0 (.s 5), []⟩,
  ⟨some 37, none, .bin .gtr (.m 36) (.c (.d (.int .i64 0))), []⟩,
  ⟨some 38, none, .mov (.m 37), []⟩,
  ⟨some 39, (some (38, true)), .ld none 0 (.s 5), []⟩,
  ⟨some 40, (some (38, true)), .mov (.s 7), []⟩,
  ⟨some 41, (some (38, true)), .bin .mul (.s 39) (.s 40), []⟩,
  ⟨some 42, (some (38, true)), .ld none 0 (.s 4), []⟩,
  ⟨some 43, (some (38, true)), .bin .mul (.c (.d (.int .i64 8))) (.s 42), []⟩,
  ⟨some 44, (some (38, true)), .ld none 0 (.s 5), []⟩,
  ⟨some 45, (some (38, true)), .bin .shl (.s 44) (.c (.d (.int .u64 20))), []⟩,
  ⟨some 46, (some (38, true)), .bin .add (.s 43) (.s 45), []⟩,
  ⟨some 47, (some (38, true)), .bin .gtr (.s 41) (.s 46), []⟩,
  ⟨some 48, none, .pick (.m 38) (.s 47) (.c (.d (.bool false))), []⟩,
  ⟨none, none, .kill [39, 40, 41, 42, 43, 44, 45, 46, 47], []⟩])
def rg_pick_Attack_15 : VC := (.reg false [
  ⟨none, none, .st 1 (.m 2) (.c (.d (.bool true))), []⟩,
  ⟨none, none, .st 1 (.m 3) (.c (.d (.int .i64 0))), []⟩])
def rg_pick_Attack_16 : VC := (.reg false [
  ⟨some 49, none, .ld none 0 (.s 4), []⟩,
  ⟨some 50, none, .mov (.m 7), []⟩,
  ⟨some 51, none, .bin .add (.m 49) (.m 50), []⟩,
  ⟨none, none, .st 1 (.s 4) (.m 51), []⟩,
  ⟨none, none, .kill [4], []⟩])
def rg_pick_Attack_17 : VC := (.reg false [
  ⟨some 52, none, .ld none 0 (.s 5), []⟩,
  ⟨some 53, none, .bin .add (.m 52) (.c (.d (.int .i64 1))), []⟩,
  ⟨none, none, .st 1 (.s 5) (.m 53), []⟩,
  ⟨none, none, .kill [5], []⟩])
def c_pick_Attack_A0 : VC := rg_pick_Attack_7
def c_pick_Attack_B0 : VC := (.block 1
(.seq rg_pick_Attack_8
(.seq (.seq rg_pick_Attack_9
(.block 2
(.seq (.loop c_pick_Attack_L0) (K [24, 25, 26]))))
(.seq (.seq rg_pick_Attack_14
(.cond (.m 48)
(.seq (K [4, 5, 7]) (.seq rg_pick_Attack_15
.ret))
(.seq (K [2, 3]) .skip)))
(.seq rg_pick_Attack_16
rg_pick_Attack_17)))))
def rg_pick_Attack_18 : VC := (.reg false [
  ⟨none, none, .st 1 (.s 2) (.c (.d (.bool false))), []⟩,
  ⟨none, none, .st 1 (.s 3) (.c (.d (.int .i64 0))), []⟩])
def c_pick_Attack : VFunc := ⟨1, [.cell 2 none, .cell 3 none],
(.seq rg_pick_Attack_0
(.seq (.seq rg_pick_Attack_1
(.cond (.m 12)
(.seq (K [0]) (.seq rg_pick_Attack_2
.ret))
.skip))
(.seq (.seq rg_pick_Attack_3
(.cond (.m 20)
(.seq (K [0]) (.seq rg_pick_Attack_4
.ret))
.skip))
(.seq rg_pick_Attack_5
(.seq (.seq rg_pick_Attack_6
(.block 0
(.seq (.rangeF (.s 22) [23] c_pick_Attack_A0 c_pick_Attack_B0) (.seq (.seq (F 4) (F 5)) (F 22)))))
(.seq rg_pick_Attack_18
.ret))))))⟩
def rg_pick_Sections_0 : VC := (.reg false [
  ⟨some 4, none, .box (.m 1), []⟩,
  ⟨some 6, none, .mov (.c (.nl)), []⟩,
  ⟨some 7, none, .mov (.c (.d (.int .i64 0))), []⟩,
  ⟨none, none, .kill [6, 7], []⟩])
def rg_pick_Sections_1 : VC := (.reg false [
  ⟨some 9, none, .mov (.s 0), []⟩,
  ⟨some 10, none, .ld (some 4) 0 (.s 4), []⟩,
  ⟨some 11, none, .mov (.s 2), []⟩,
  ⟨some 12, none, .call f_pick_ready [.m 9, .m 10, .m 11, .c (.d (.int .i64 8191))], []⟩,
  ⟨some 8, none, .mov (.m 12), []⟩])
def rg_pick_Sections_2 : VC := (.reg false [
  ⟨some 13, none, .mov (.s 8), []⟩,
  ⟨some 14, none, .bin .neq (.m 13) (.c (.d (.int .i64 0))), []⟩])
def rg_pick_Sections_3 : VC := (.reg false [
  ⟨some 15, none, .mov (.m 8), []⟩,
  ⟨some 6, none, .mov (.c (.nl)), []⟩,
  ⟨some 7, none, .mov (.m 15), []⟩])
def rg_pick_Sections_4 : VC := (.regP [1, 2, 3, 0, 4, 5, 6] [0, 1, 2, 3, 4, 5, 6] [0, 2] [
  ⟨some 16, none, .calli f_pick_stocked [], []⟩,
  ⟨some 17, none, .mov (.m 0), []⟩,
  ⟨some 18, none, .ld (some 4) 0 (.s 4), []⟩,
  ⟨some 19, none, .mov (.m 2), []⟩,
  ⟨some 20, none, .calli f_pick_shelf_least [.m 16, .m 17, .m 18, .m 19], []⟩,
  ⟨some 6, none, .mov (.m 20), []⟩,
  ⟨some 7, none, .mov (.c (.d (.int .i64 0))), []⟩])
def c_pick_Sections : VFunc := ⟨3, [.tmp 6, .tmp 7],
(.seq rg_pick_Sections_0
(.seq (.seq rg_pick_Sections_1
(.seq rg_pick_Sections_2
(.cond (.m 14)
(.seq (.seq (K [0, 2]) (F 4)) (.seq rg_pick_Sections_3
.ret))
(.seq (K [8]) .skip))))
(.seq (.seq rg_pick_Sections_4 (F 4))
.ret)))⟩
def rg_band_Many_0 : VC := (.reg false [
  ⟨some 4, none, .mov (.c (.d (.int .i64 0))), []⟩,
  ⟨some 5, none, .mov (.c (.d (.int .i64 0))), []⟩,
  ⟨none, none, .kill [4, 5], []⟩])
def rg_band_Many_1 : VC := (.reg false [
  ⟨some 9, none, .mov (.m 0), []⟩,
  ⟨some 10, none, .mov (.m 1), []⟩,
  ⟨some 11, none, .call f_band_Offsets [.m 9, .m 10], []⟩,
  ⟨some 8, none, .mov (.m 11), []⟩,
  ⟨some 12, none, .ext 8 true 0, []⟩,
  ⟨some 13, none, .ext 8 false 1, []⟩,
  ⟨some 6, none, .mov (.m 12), []⟩,
  ⟨some 7, none, .mov (.m 13), []⟩,
  ⟨none, none, .kill [8], []⟩])
def rg_band_Many_2 : VC := (.reg false [
  ⟨some 14, none, .mov (.m 6), []⟩,
  ⟨some 15, none, .len (.m 14), []⟩,
  ⟨some 16, none, .bin .sub (.m 15) (.c (.d (.int .i64 1))), []⟩,
  ⟨some 17, none, .minmax true [.m 16, .c (.d (.int .i64 0))], []⟩,
  ⟨some 18, none, .mov (.m 7), []⟩,
  ⟨some 4, none, .mov (.m 17), []⟩,
  ⟨some 5, none, .mov (.m 18), []⟩])
def c_band_Many : VFunc := ⟨2, [.tmp 4, .tmp 5],
(.seq rg_band_Many_0
(.seq rg_band_Many_1
(.seq rg_band_Many_2
.ret)))⟩
def rg_info_grouped_0 : VC := (.reg false [
  ⟨some 1, none, .box (.m 0), []⟩,
  ⟨some 2, none, .mov (.c (.d (.bool false))), []⟩,
  ⟨none, none, .kill [2], []⟩])
def rg_info_grouped_1 : VC := (.reg false [
  ⟨some 6, none, .fa 0 (.s 1), []⟩,
  ⟨some 7, none, .ld none 0 (.m 6), []⟩,
  ⟨some 8, none, .bin .neq (.m 7) (.c (.d (.int .u8 2))), []⟩])
def rg_info_grouped_2 : VC := (.reg false [
  ⟨some 9, none, .fa 3 (.m 1), []⟩,
  ⟨some 10, none, .ld none 0 (.m 9), []⟩,
  ⟨some 11, none, .mks 1 [.c (.d (.int .i64 1))], []⟩,
  ⟨some 12, none, .call f_slices_Equal_Lint [.m 10, .m 11], []⟩,
  ⟨some 2, none, .mov (.m 12), []⟩])
def rg_info_grouped_3 : VC := (.reg false [
  ⟨some 3, none, .mov (.c (.d (.int .i64 0))), []⟩])
def rg_info_grouped_4 : VC := (.reg false [
  ⟨some 13, none, .fa 3 (.s 1), []⟩,
  ⟨some 14, none, .ld none 0 (.m 13), []⟩,
  ⟨some 15, none, .len (.s 14), []⟩,
  ⟨some 16, none, .mov (.c (.d (.int .i64 0))), []⟩])
def rg_info_grouped_5 : VC := (.reg false [
  ⟨some 17, none, .bin .lss (.s 16) (.s 15), []⟩])
def rg_info_grouped_6 : VC := (.reg false [
  ⟨some 18, none, .ia 1 (.s 14) (.s 16), []⟩,
  ⟨some 19, none, .ld none 0 (.m 18), []⟩,
  ⟨some 5, none, .mov (.m 19), []⟩])
def rg_info_grouped_7 : VC := (.reg false [
  ⟨some 20, none, .mov (.s 5), []⟩,
  ⟨some 21, none, .bin .lss (.m 20) (.c (.d (.int .i64 1))), []⟩,
  ⟨some 22, none, .mov (.m 21), []⟩,
  ⟨some 23, (some (22, false)), .mov (.s 5), []⟩,
  ⟨some 24, (some (22, false)), .bin .gtr (.s 23) (.c (.d (.int .i64 8))), []⟩,
  ⟨some 25, none, .pick (.m 22) (.c (.d (.bool true))) (.s 24), []⟩,
  ⟨none, none, .kill [23, 24], []⟩])
def rg_info_grouped_8 : VC := (.reg false [
  ⟨some 2, none, .mov (.c (.d (.bool false))), []⟩])
def rg_info_grouped_9 : VC := (.reg false [
  ⟨some 26, none, .mov (.m 3), []⟩,
  ⟨some 27, none, .mov (.m 5), []⟩,
  ⟨some 28, none, .bin .add (.m 26) (.m 27), []⟩,
  ⟨some 3, none, .mov (.m 28), []⟩])
def rg_info_grouped_10 : VC := (.reg false [
  ⟨some 29, none, .bin .add (.m 16) (.c (.d (.int .i64 1))), []⟩,
  ⟨some 16, none, .mov (.m 29), []⟩])
def c_info_grouped_L0 : VC := (.seq rg_info_grouped_5
(.seq (.cond (.m 17)
.skip
(.seq (K [14, 15, 16]) (.exit 0)))
(.seq (.block 1
(.seq rg_info_grouped_6
(.seq (.seq rg_info_grouped_7
(.cond (.m 25)
(.seq (K [1, 3, 5, 14, 15, 16]) (.seq rg_info_grouped_8
.ret))
.skip))
rg_info_grouped_9)))
rg_info_grouped_10)))
def rg_info_grouped_11 : VC := (.reg false [
  ⟨some 30, none, .mov (.m 3), []⟩,
  ⟨some 31, none, .bin .eql (.m 30) (.c (.d (.int .i64 8))), []⟩,
  ⟨some 32, none, .mov (.m 31), []⟩,
  ⟨some 33, (some (32, true)), .fa 3 (.s 1), []⟩,
  ⟨some 34, (some (32, true)), .ld none 0 (.s 33), []⟩,
  ⟨some 35, (some (32, true)), .len (.s 34), []⟩,
  ⟨some 36, (some (32, true)), .bin .leq (.s 35) (.c (.d (.int .i64 8))), []⟩,
  ⟨some 37, none, .pick (.m 32) (.s 36) (.c (.d (.bool false))), []⟩,
  ⟨some 2, none, .mov (.m 37), []⟩,
  ⟨none, none, .kill [1, 33, 34, 35, 36], []⟩])
def c_info_grouped : VFunc := ⟨1, [.tmp 2],
(.seq rg_info_grouped_0
(.seq (.seq rg_info_grouped_1
(.cond (.m 8)
(.seq rg_info_grouped_2
.ret)
.skip))
(.seq rg_info_grouped_3
(.seq (.seq rg_info_grouped_4
(.block 0
(.seq (.loop c_info_grouped_L0) (K [14, 15, 16]))))
(.seq rg_info_grouped_11
.ret)))))⟩
def rg_pick_odd_0 : VC := (.reg false [
  ⟨some 3, none, .box (.m 1), []⟩,
  ⟨some 4, none, .mov (.c (.d (.bool false))), []⟩,
  ⟨none, none, .kill [4], []⟩])
def rg_pick_odd_1 : VC := (.reg false [
  ⟨some 5, none, .mov (.m 0), []⟩,
  ⟨some 6, none, .mkfn f_pick_odd_1 [] [.m 3], []⟩,
  ⟨some 7, none, .calli f_slices_ContainsFunc_Lint [.m 5, .m 6], []⟩,
  ⟨some 4, none, .mov (.m 7), []⟩])
def c_pick_odd : VFunc := ⟨2, [.tmp 4],
(.seq rg_pick_odd_0
(.seq rg_pick_odd_1
.ret))⟩
def rg_book_Get_0 : VC := (.reg false [
  ⟨some 2, none, .alloc [.d (.int .i64 0), .d (.int .i64 0), .nl, .nl], []⟩,
  ⟨some 3, none, .mov (.c (.d (.int .i64 0))), []⟩,
  ⟨none, none, .kill [3], []⟩])
def rg_book_Get_1 : VC := (.reg false [
  ⟨some 12, none, .mov (.s 0), []⟩,
  ⟨some 13, none, .call f_book_of [.m 12], []⟩,
  ⟨some 11, none, .mov (.m 13), []⟩,
  ⟨some 14, none, .ext 11 true 0, []⟩,
  ⟨some 15, none, .ext 11 false 1, []⟩,
  ⟨some 4, none, .alloc [.d (.int .i64 0), .d (.int .i64 0), .d (.int .i64 0), .d (.int .i64 0)], []⟩,
  ⟨none, none, .st 4 (.s 4) (.m 14), []⟩,
  ⟨some 5, none, .mov (.m 15), []⟩,
  ⟨none, none, .kill [11], []⟩])
def rg_book_Get_2 : VC := (.reg false [
  ⟨some 16, none, .mov (.s 5), []⟩,
  ⟨some 17, none, .bin .neq (.m 16) (.c (.d (.int .i64 0))), []⟩])
def rg_book_Get_3 : VC := (.reg false [
  ⟨some 18, none, .build [.d (.int .i64 0), .d (.int .i64 0), .nl, .nl] [], []⟩,
  ⟨some 19, none, .mov (.m 5), []⟩,
  ⟨none, none, .st 4 (.s 2) (.m 18), []⟩,
  ⟨some 3, none, .mov (.m 19), []⟩])
def rg_book_Get_4 : VC := (.regP [0, 1, 2, 3, 4, 6, 7, 5, 8, 9, 10, 11] [0, 1, 2, 3, 4, 5, 6, 7, 8, 9, 10, 11] [] [
  ⟨some 20, none, .mov (.m 0), []⟩,
  ⟨some 21, none, .fa 3 (.s 4), []⟩,
  ⟨some 22, none, .ld none 0 (.m 21), []⟩,
  ⟨some 23, none, .ld (some 4) 0 (.s 4), []⟩,
  ⟨some 24, none, .call f_book_kind_many [.m 23], []⟩,
  ⟨some 25, none, .mkslice [.int .i64 0] (.s 24) (.s 24), [(0, 0)]⟩,
  ⟨some 26, none, .ld (some 4) 0 (.s 4), []⟩,
  ⟨some 27, none, .call f_book_kind_many [.m 26], []⟩,
  ⟨some 28, none, .mkslice [.int .i64 0] (.s 27) (.s 27), [(0, 0)]⟩,
  ⟨some 29, none, .build [.d (.int .i64 0), .d (.int .i64 0), .nl, .nl] [(0, 1, .m 20), (1, 1, .m 22), (2, 1, .m 25), (3, 1, .m 28)], []⟩,
  ⟨some 6, none, .alloc [.d (.int .i64 0), .d (.int .i64 0), .nl, .nl], []⟩,
  ⟨none, none, .st 4 (.s 6) (.m 29), []⟩])
def rg_book_Get_5 : VC := (.reg false [
  ⟨some 30, none, .ld (some 4) 1 (.s 4), []⟩,
  ⟨some 31, none, .call f_book_kind_sizes [.m 30], []⟩,
  ⟨some 7, none, .alloc [.d (.int .u8 0), .d (.int .u8 0), .d (.int .u8 0), .d (.int .u8 0), .d (.int .u8 0), .d (.int .u8 0), .d (.int .u8 0), .d (.int .u8 0), .d (.int .u8 0), .d (.int .u8 0), .d (.int .u8 0), .d (.int .u8 0), .d (.int .u8 0), .d (.int .u8 0), .d (.int .u8 0), .d (.int .u8 0), .d (.int .u8 0), .d (.int .u8 0), .d (.int .u8 0), .d (.int .u8 0), .d (.int .u8 0), .d (.int .u8 0), .d (.int .u8 0), .d (.int .u8 0), .d (.int .u8 0), .d (.int .u8 0), .d (.int .u8 0), .d (.int .u8 0), .d (.int .u8 0), .d (.int .u8 0), .d (.int .u8 0), .d (.int .u8 0), .d (.int .u8 0), .d (.int .u8 0), .d (.int .u8 0), .d (.int .u8 0), .d (.int .u8 0), .d (.int .u8 0), .d (.int .u8 0), .d (.int .u8 0), .d (.int .u8 0), .d (.int .u8 0), .d (.int .u8 0), .d (.int .u8 0), .d (.int .u8 0), .d (.int .u8 0), .d (.int .u8 0), .d (.int .u8 0), .d (.int .u8 0), .d (.int .u8 0), .d (.int .u8 0), .d (.int .u8 0), .d (.int .u8 0), .d (.int .u8 0), .d (.int .u8 0), .d (.int .u8 0), .d (.int .u8 0), .d (.int .u8 0), .d (.int .u8 0), .d (.int .u8 0), .d (.int .u8 0), .d (.int .u8 0), .d (.int .u8 0), .d (.int .u8 0), .d (.int .u8 0), .d (.int .u8 0), .d (.int .u8 0), .d (.int .u8 0), .d (.int .u8 0), .d (.int .u8 0), .d (.int .u8 0), .d (.int .u8 0), .d (.int .u8 0), .d (.int .u8 0), .d (.int .u8 0), .d (.int .u8 0), .d (.int .u8 0), .d (.int .u8 0), .d (.int .u8 0), .d (.int .u8 0), .d (.int .u8 0), .d (.int .u8 0), .d (.int .u8 0), .d (.int .u8 0), .d (.int .u8 0), .d (.int .u8 0), .d (.int .u8 0), .d (.int .u8 0), .d (.int .u8 0), .d (.int .u8 0), .d (.int .u8 0), .d (.int .u8 0), .d (.int .u8 0), .d (.int .u8 0), .d (.int .u8 0), .d (.int .u8 0), .d (.int .u8 0), .d (.int .u8 0), .d (.int .u8 0), .d (.int .u8 0), .d (.int .u8 0), .d (.int .u8 0), .d (.int .u8 0), .d (.int .u8 0), .d (.int .u8 0), .d (.int .u8 0), .d (.int .u8 0), .d (.int .u8 0), .d (.int .u8 0), .d (.int .u8 0), .d (.int .u8 0), .d (.int .u8 0), .d (.int .u8 0), .d (.int .u8 0), .d (.int .u8 0), .d (.int .u8 0), .d (.int .u8 0), .d (.int .u8 0), .d (.int .u8 0), .d (.int .u8 0), .d (.int .u8 0), .d (.int .u8 0), .d (.int .u8 0), .d (.int .u8 0), .d (.int .u8 0), .d (.int .u8 0), .d (.int .u8 0), .d (.int .u8 0), .d (.int .u8 0), .d (.int .u8 0), .d (.int .u8 0), .d (.int .u8 0), .d (.int .u8 0), .d (.int .u8 0), .d (.int .u8 0), .d (.int .u8 0), .d (.int .u8 0), .d (.int .u8 0), .d (.int .u8 0), .d (.int .u8 0), .d (.int .u8 0), .d (.int .u8 0), .d (.int .u8 0), .d (.int .u8 0), .d (.int .u8 0), .d (.int .u8 0), .d (.int .u8 0), .d (.int .u8 0), .d (.int .u8 0), .d (.int .u8 0), .d (.int .u8 0), .d (.int .u8 0), .d (.int .u8 0), .d (.int .u8 0), .d (.int .u8 0), .d (.int .u8 0), .d (.int .u8 0), .d (.int .u8 0), .d (.int .u8 0), .d (.int .u8 0), .d (.int .u8 0), .d (.int .u8 0), .d (.int .u8 0), .d (.int .u8 0), .d (.int .u8 0), .d (.int .u8 0), .d (.int .u8 0), .d (.int .u8 0), .d (.int .u8 0), .d (.int .u8 0), .d (.int .u8 0), .d (.int .u8 0), .d (.int .u8 0), .d (.int .u8 0), .d (.int .u8 0), .d (.int .u8 0), .d (.int .u8 0), .d (.int .u8 0), .d (.int .u8 0), .d (.int .u8 0), .d (.int .u8 0), .d (.int .u8 0), .d (.int .u8 0), .d (.int .u8 0), .d (.int .u8 0), .d (.int .u8 0), .d (.int .u8 0), .d (.int .u8 0), .d (.int .u8 0), .d (.int .u8 0), .d (.int .u8 0), .d (.int .u8 0), .d (.int .u8 0), .d (.int .u8 0), .d (.int .u8 0), .d (.int .u8 0), .d (.int .u8 0), .d (.int .u8 0), .d (.int .u8 0), .d (.int .u8 0), .d (.int .u8 0), .d (.int .u8 0), .d (.int .u8 0), .d (.int .u8 0), .d (.int .u8 0), .d (.int .u8 0), .d (.int .u8 0), .d (.int .u8 0), .d (.int .u8 0), .d (.int .u8 0), .d (.int .u8 0), .d (.int .u8 0), .d (.int .u8 0), .d (.int .u8 0), .d (.int .u8 0), .d (.int .u8 0), .d (.int .u8 0), .d (.int .u8 0), .d (.int .u8 0), .d (.int .u8 0), .d (.int .u8 0), .d (.int .u8 0), .d (.int .u8 0), .d (.int .u8 0), .d (.int .u8 0), .d (.int .u8 0), .d (.int .u8 0), .d (.int .u8 0), .d (.int .u8 0), .d (.int .u8 0), .d (.int .u8 0), .d (.int .u8 0), .d (.int .u8 0), .d (.int .u8 0), .d (.int .u8 0), .d (.int .u8 0), .d (.int .u8 0), .d (.int .u8 0), .d (.int .u8 0), .d (.int .u8 0), .d (.int .u8 0), .d (.int .u8 0), .d (.int .u8 0), .d (.int .u8 0), .d (.int .u8 0), .d (.int .u8 0), .d (.int .u8 0), .d (.int .u8 0), .d (.int .u8 0), .d (.int .u8 0), .d (.int .u8 0), .d (.int .u8 0), .d (.int .u8 0), .d (.int .u8 0), .d (.int .u8 0), .d (.int .u8 0), .d (.int .u8 0), .d (.int .u8 0), .d (.int .u8 0), .d (.int .u8 0), .d (.int .u8 0), .d (.int .u8 0), .d (.int .u8 0), .d (.int .u8 0), .d (.int .u8 0), .d (.int .u8 0), .d (.int .u8 0), .d (.int .u8 0), .d (.int .u8 0), .d (.int .u8 0), .d (.int .u8 0), .d (.int .u8 0), .d (.int .u8 0), .d (.int .u8 0), .d (.int .u8 0), .d (.int .u8 0), .d (.int .u8 0), .d (.int .u8 0), .d (.int .u8 0), .d (.int .u8 0), .d (.int .u8 0), .d (.int .u8 0), .d (.int .u8 0), .d (.int .u8 0), .d (.int .u8 0), .d (.int .u8 0), .d (.int .u8 0), .d (.int .u8 0), .d (.int .u8 0)], []⟩,
  ⟨none, none, .st 289 (.s 7) (.m 31), []⟩])
def rg_book_Get_6 : VC := (.reg false [
  ⟨some 32, none, .fa 2 (.s 6), []⟩,
  ⟨some 33, none, .ld none 0 (.m 32), []⟩,
  ⟨some 34, none, .len (.m 33), []⟩,
  ⟨some 35, none, .mov (.c (.d (.int .i64 0))), []⟩])
def rg_book_Get_7 : VC := (.reg false [
  ⟨some 36, none, .bin .lss (.s 35) (.s 34), []⟩])
def rg_book_Get_8 : VC := (.reg false [
  ⟨some 37, none, .mov (.s 35), []⟩,
  ⟨some 8, none, .mov (.m 37), []⟩])
def rg_book_Get_9 : VC := (.reg false [
  ⟨some 38, none, .fa 2 (.s 6), []⟩,
  ⟨some 39, none, .ld none 0 (.m 38), []⟩,
  ⟨some 40, none, .mov (.s 8), []⟩,
  ⟨some 41, none, .mov (.m 8), []⟩,
  ⟨some 42, none, .ia 1 (.m 39) (.m 40), []⟩,
  ⟨none, none, .st 1 (.m 42) (.m 41), []⟩])
def rg_book_Get_10 : VC := (.reg false [
  ⟨some 43, none, .bin .add (.m 35) (.c (.d (.int .i64 1))), []⟩,
  ⟨some 35, none, .mov (.m 43), []⟩])
def c_book_Get_L0 : VC := (.seq rg_book_Get_7
(.seq (.cond (.m 36)
.skip
(.seq (K [34, 35]) (.exit 0)))
(.seq (.block 1
(.seq rg_book_Get_8
rg_book_Get_9))
rg_book_Get_10)))
def rg_book_Get_11 : VC := (.reg false [
  ⟨some 44, none, .fa 2 (.s 6), []⟩,
  ⟨some 45, none, .ld none 0 (.m 44), []⟩,
  ⟨some 46, none, .mkfn f_book_Get_1 [] [.m 7], []⟩,
  ⟨some 47, none, .calli f_slices_SortStableFunc_Lint [.m 45, .m 46], []⟩,
  ⟨none, none, .kill [47], []⟩])
def rg_book_Get_12 : VC := (.reg false [
  ⟨some 48, none, .fa 2 (.s 6), []⟩,
  ⟨some 49, none, .ld none 0 (.m 48), []⟩,
  ⟨some 50, none, .len (.s 49), []⟩,
  ⟨some 51, none, .mov (.c (.d (.int .i64 0))), []⟩])
def rg_book_Get_13 : VC := (.reg false [
  ⟨some 52, none, .bin .lss (.s 51) (.s 50), []⟩])
def rg_book_Get_14 : VC := (.reg false [
  ⟨some 53, none, .mov (.s 51), []⟩,
  ⟨some 54, none, .ia 1 (.s 49) (.s 51), []⟩,
  ⟨some 55, none, .ld none 0 (.m 54), []⟩,
  ⟨some 9, none, .mov (.m 53), []⟩,
  ⟨some 10, none, .mov (.m 55), []⟩])
def rg_book_Get_15 : VC := (.reg false [
  ⟨some 56, none, .fa 3 (.s 6), []⟩,
  ⟨some 57, none, .ld none 0 (.m 56), []⟩,
  ⟨some 58, none, .mov (.m 10), []⟩,
  ⟨some 59, none, .mov (.m 9), []⟩,
  ⟨some 60, none, .ia 1 (.m 57) (.m 58), []⟩,
  ⟨none, none, .st 1 (.m 60) (.m 59), []⟩])
def rg_book_Get_16 : VC := (.reg false [
  ⟨some 61, none, .bin .add (.m 51) (.c (.d (.int .i64 1))), []⟩,
  ⟨some 51, none, .mov (.m 61), []⟩])
def c_book_Get_L1 : VC := (.seq rg_book_Get_13
(.seq (.cond (.m 52)
.skip
(.seq (K [49, 50, 51]) (.exit 2)))
(.seq (.block 3
(.seq rg_book_Get_14
rg_book_Get_15))
rg_book_Get_16)))
def rg_book_Get_17 : VC := (.reg false [
  ⟨some 62, none, .ld (some 4) 1 (.s 6), []⟩,
  ⟨none, none, .st 4 (.s 2) (.m 62), []⟩,
  ⟨some 3, none, .mov (.c (.d (.int .i64 0))), []⟩])
def c_book_Get : VFunc := ⟨1, [.cell 2 (some 4), .tmp 3],
(.seq rg_book_Get_0
(.seq rg_book_Get_1
(.seq (.seq rg_book_Get_2
(.cond (.m 17)
(.seq (.seq (K [0]) (F 4)) (.seq rg_book_Get_3
.ret))
(.seq (K [5]) .skip)))
(.seq (.seq rg_book_Get_4 (K [24, 27]))
(.seq (.seq rg_book_Get_5 (F 4))
(.seq (.seq rg_book_Get_6
(.block 0
(.seq (.loop c_book_Get_L0) (K [34, 35]))))
(.seq rg_book_Get_11
(.seq (.seq rg_book_Get_12
(.block 2
(.seq (.loop c_book_Get_L1) (K [49, 50, 51]))))
(.seq (.seq rg_book_Get_17 (F 6))
.ret)))))))))⟩
def rg_math_bits_Len_0 : VC := (.reg false [
  ⟨some 2, none, .mov (.c (.d (.int .i64 0))), []⟩,
  ⟨none, none, .kill [2], []⟩])
def rg_math_bits_Len_1 : VC := (.reg false [
  ⟨some 3, none, .mov (.m 0), []⟩,
  ⟨some 4, none, .conv .u32 (.m 3), []⟩,
  ⟨some 5, none, .call f_math_bits_Len32 [.m 4], []⟩,
  ⟨some 2, none, .mov (.m 5), []⟩])
def rg_math_bits_Len_2 : VC := (.reg false [
  ⟨some 6, none, .mov (.m 0), []⟩,
  ⟨some 7, none, .call f_math_bits_Len64 [.m 6], []⟩,
  ⟨some 2, none, .mov (.m 7), []⟩])
def c_math_bits_Len : VFunc := ⟨1, [.tmp 2],
(.seq rg_math_bits_Len_0
(.seq (.cond (.c (.d (.bool false)))
(.seq rg_math_bits_Len_1
.ret)
.skip)
(.seq rg_math_bits_Len_2
.ret)))⟩
def rg_pick_lines_0 : VC := (.reg false [
  ⟨some 4, none, .box (.m 0), []⟩,
  ⟨some 5, none, .box (.m 1), []⟩,
  ⟨some 6, none, .box (.m 2), []⟩,
  ⟨some 7, none, .box (.m 3), []⟩,
  ⟨some 8, none, .mov (.c (.nilf)), []⟩,
  ⟨none, none, .kill [8], []⟩])
def rg_pick_lines_1 : VC := (.reg false [
  ⟨some 9, none, .mkfn f_pick_lines_1 [] [.m 4, .m 5, .m 7, .m 6], []⟩,
  ⟨some 8, none, .mov (.m 9), []⟩])
def c_pick_lines : VFunc := ⟨4, [.tmp 8],
(.seq rg_pick_lines_0
(.seq rg_pick_lines_1
.ret))⟩
def rg_pick_size_0 : VC := (.reg false [
  ⟨some 2, none, .mov (.c (.d (.int .i64 0))), []⟩,
  ⟨none, none, .kill [2], []⟩])
def rg_pick_size_1 : VC := (.reg false [
  ⟨some 3, none, .mov (.s 0), []⟩,
  ⟨some 4, none, .mov (.m 0), []⟩,
  ⟨some 5, none, .un .neg (.m 4), []⟩,
  ⟨some 6, none, .minmax true [.m 3, .m 5], []⟩,
  ⟨some 2, none, .mov (.m 6), []⟩])
def c_pick_size : VFunc := ⟨1, [.tmp 2],
(.seq rg_pick_size_0
(.seq rg_pick_size_1
.ret))⟩
def rg_pick_shelf_least_0 : VC := (.reg false [
  ⟨some 4, none, .box (.m 0), []⟩,
  ⟨some 6, none, .box (.m 2), []⟩,
  ⟨some 8, none, .mov (.c (.nl)), []⟩])
def rg_pick_shelf_least_1 : VC := (.reg false [
  ⟨some 23, none, .fa 3 (.s 6), []⟩,
  ⟨some 24, none, .ld none 0 (.m 23), []⟩,
  ⟨some 25, none, .len (.m 24), []⟩,
  ⟨some 26, none, .mov (.c (.d (.int .i64 0))), []⟩])
def rg_pick_shelf_least_2 : VC := (.reg false [
  ⟨some 27, none, .bin .lss (.s 26) (.s 25), []⟩])
def rg_pick_shelf_least_3 : VC := (.reg false [
  ⟨some 28, none, .mov (.s 26), []⟩,
  ⟨some 9, none, .mov (.m 28), []⟩])
def rg_pick_shelf_least_4 : VC := (.reg false [
  ⟨some 29, none, .fa 2 (.s 6), []⟩,
  ⟨some 30, none, .ld none 0 (.m 29), []⟩,
  ⟨some 31, none, .mkslice [.int .i64 0, .int .i64 0, .int .i64 0, .int .i64 0, .int .i64 0, .int .i64 0, .int .i64 0, .int .i64 0, .int .i64 0, .int .i64 0, .int .i64 0, .int .i64 0] (.s 30) (.s 30), [(0, 0)]⟩,
  ⟨some 10, none, .alloc [.nl], []⟩,
  ⟨none, none, .st 1 (.s 10) (.m 31), []⟩,
  ⟨none, none, .kill [30], []⟩])
def rg_pick_shelf_least_5 : VC := (.reg false [
  ⟨some 32, none, .mov (.s 1), []⟩,
  ⟨some 33, none, .ld (some 4) 0 (.s 6), []⟩,
  ⟨some 34, none, .mov (.s 3), []⟩,
  ⟨some 35, none, .mov (.m 9), []⟩,
  ⟨some 36, none, .calli f_pick_lines [.m 32, .m 33, .m 34, .m 35], []⟩])
def rg_pick_shelf_least_6 : VC := (.reg false [
  ⟨some 11, none, .mov (.m 37), []⟩,
  ⟨none, none, .kill [1, 3, 6, 8, 25, 26, 36], []⟩])
def rg_pick_shelf_least_7 : VC := (.reg false [
  ⟨some 12, none, .mov (.m 38), []⟩])
def rg_pick_shelf_least_8 : VC := (.reg false [
  ⟨some 39, none, .mov (.c (.d (.int .i64 0))), []⟩])
def rg_pick_shelf_least_9 : VC := (.reg false [
  ⟨some 40, none, .bin .lss (.s 39) (.c (.d (.int .i64 12))), []⟩])
def rg_pick_shelf_least_10 : VC := (.reg false [
  ⟨some 41, none, .mov (.s 39), []⟩,
  ⟨some 13, none, .mov (.m 41), []⟩])
def rg_pick_shelf_least_11 : VC := (.regP [0, 1, 2, 3, 4, 5, 7, 6, 8, 9] [0, 1, 2, 3, 4, 5, 6, 7, 8, 9] [0, 6, 7] [
  ⟨some 42, none, .ld none 0 (.s 10), []⟩,
  ⟨some 43, none, .mov (.s 11), []⟩,
  ⟨some 44, none, .mov (.s 13), []⟩,
  ⟨some 45, none, .ld none 0 (.s 4), []⟩,
  ⟨some 46, none, .mov (.s 13), []⟩,
  ⟨some 47, none, .mov (.s 12), []⟩,
  ⟨some 48, none, .calli f_pick_shelf_cost [.m 45, .m 46, .m 47], []⟩,
  ⟨some 49, none, .ia 12 (.m 42) (.m 43), []⟩,
  ⟨some 50, none, .iarr 12 1 (.m 49) (.m 44), []⟩,
  ⟨none, none, .st 1 (.m 50) (.m 48), []⟩])
def rg_pick_shelf_least_12 : VC := (.reg false [
  ⟨some 51, none, .bin .add (.m 39) (.c (.d (.int .i64 1))), []⟩,
  ⟨some 39, none, .mov (.m 51), []⟩])
def c_pick_shelf_least_L0 : VC := (.seq rg_pick_shelf_least_9
(.seq (.cond (.m 40)
.skip
(.seq (K [4, 10, 11, 12, 39]) (.exit 4)))
(.seq (.block 5
(.seq rg_pick_shelf_least_10
(.seq rg_pick_shelf_least_11 (K [13]))))
rg_pick_shelf_least_12)))
def c_pick_shelf_least_A0 : VC := (.seq rg_pick_shelf_least_6
rg_pick_shelf_least_7)
def c_pick_shelf_least_B0 : VC := (.block 3
(.seq rg_pick_shelf_least_8
(.block 4
(.seq (.loop c_pick_shelf_least_L0) (K [4, 10, 11, 12, 39])))))
def rg_pick_shelf_least_13 : VC := (.reg false [
  ⟨some 52, none, .fa 2 (.s 6), []⟩,
  ⟨some 53, none, .ld none 0 (.m 52), []⟩,
  ⟨some 54, none, .bin .add (.m 53) (.c (.d (.int .i64 1))), []⟩,
  ⟨some 55, none, .mkslice [.int .i64 0, .int .i64 0, .int .i64 0] (.s 54) (.s 54), [(0, 0)]⟩,
  ⟨some 14, none, .mov (.m 55), []⟩,
  ⟨none, none, .kill [54], []⟩])
def rg_pick_shelf_least_14 : VC := (.reg false [
  ⟨some 56, none, .fa 2 (.s 6), []⟩,
  ⟨some 57, none, .ld none 0 (.m 56), []⟩,
  ⟨some 58, none, .bin .sub (.m 57) (.c (.d (.int .i64 1))), []⟩,
  ⟨some 15, none, .mov (.m 58), []⟩])
def rg_pick_shelf_least_15 : VC := (.reg false [
  ⟨some 59, none, .mov (.s 15), []⟩,
  ⟨some 60, none, .bin .geq (.m 59) (.c (.d (.int .i64 0))), []⟩])
def rg_pick_shelf_least_16 : VC := (.reg false [
  ⟨some 16, none, .alloc [.d (.int .i64 0), .d (.int .i64 0), .d (.int .i64 0), .d (.int .i64 0), .d (.int .i64 0), .d (.int .i64 0), .d (.int .i64 0), .d (.int .i64 0), .d (.int .i64 0), .d (.int .i64 0), .d (.int .i64 0), .d (.int .i64 0)], []⟩])
def rg_pick_shelf_least_17 : VC := (.reg false [
  ⟨some 63, none, .mov (.s 15), []⟩,
  ⟨some 17, none, .mov (.m 63), []⟩])
def rg_pick_shelf_least_18 : VC := (.reg false [
  ⟨some 64, none, .mov (.s 17), []⟩,
  ⟨some 65, none, .fa 2 (.s 6), []⟩,
  ⟨some 66, none, .ld none 0 (.m 65), []⟩,
  ⟨some 67, none, .bin .lss (.m 64) (.m 66), []⟩])
def rg_pick_shelf_least_19 : VC := (.reg false [
  ⟨some 70, none, .ld none 0 (.s 10), []⟩,
  ⟨some 71, none, .mov (.s 17), []⟩,
  ⟨some 72, none, .ia 12 (.m 70) (.m 71), []⟩,
  ⟨some 73, none, .ld (some 12) 0 (.m 72), []⟩,
  ⟨some 74, none, .mov (.c (.d (.int .i64 0))), []⟩])
def rg_pick_shelf_least_20 : VC := (.reg false [
  ⟨some 75, none, .bin .lss (.s 74) (.c (.d (.int .i64 12))), []⟩])
def rg_pick_shelf_least_21 : VC := (.reg false [
  ⟨some 76, none, .mov (.s 74), []⟩,
  ⟨some 77, none, .ix 12 1 false (.s 73) (.s 74), []⟩,
  ⟨some 18, none, .mov (.m 76), []⟩,
  ⟨some 19, none, .mov (.m 77), []⟩])
def rg_pick_shelf_least_22 : VC := (.reg false [
  ⟨some 78, none, .mov (.s 19), []⟩,
  ⟨some 79, none, .bin .lss (.m 78) (.c (.d (.int .i64 0))), []⟩,
  ⟨some 80, none, .mov (.m 79), []⟩,
  ⟨some 81, (some (80, false)), .mov (.s 18), []⟩,
  ⟨some 82, (some (80, false)), .iarr 12 1 (.s 16) (.s 81), []⟩,
  ⟨some 83, (some (80, false)), .ld none 0 (.s 82), []⟩,
  ⟨some 84, (some (80, false)), .bin .lss (.s 83) (.c (.d (.int .i64 0))), []⟩,
  ⟨some 85, none, .pick (.m 80) (.c (.d (.bool true))) (.s 84), []⟩,
  ⟨none, none, .kill [81, 82, 83, 84], []⟩])
def rg_pick_shelf_least_23 : VC := (.reg false [
  ⟨some 86, none, .mov (.m 18), []⟩,
  ⟨some 87, none, .iarr 12 1 (.s 16) (.m 86), []⟩,
  ⟨none, none, .st 1 (.m 87) (.c (.d (.int .i64 (-1)))), []⟩])
def rg_pick_shelf_least_24 : VC := (.reg false [
  ⟨some 88, none, .mov (.s 18), []⟩,
  ⟨some 89, none, .iarr 12 1 (.s 16) (.s 88), []⟩,
  ⟨some 90, none, .ld none 0 (.m 89), []⟩,
  ⟨some 91, none, .mov (.m 19), []⟩,
  ⟨some 92, none, .bin .add (.m 90) (.m 91), []⟩,
  ⟨some 93, none, .iarr 12 1 (.s 16) (.m 88), []⟩,
  ⟨none, none, .st 1 (.m 93) (.m 92), []⟩])
def rg_pick_shelf_least_25 : VC := (.reg true [
  ⟨some 94, none, .ld (some 4) 0 (.s 6), []⟩,
  ⟨some 95, none, .mov (.s 17), []⟩,
  ⟨some 96, none, .bin .add (.m 95) (.c (.d (.int .i64 1))), []⟩,
  ⟨some 97, none, .mov (.s 15), []⟩,
  ⟨some 98, none, .bin .sub (.m 96) (.m 97), []⟩,
  ⟨some 99, none, .call f_pick_header [.m 94, .m 98], []⟩,
  ⟨some 100, none, .mov (.s 18), []⟩,
  ⟨some 101, none, .iarr 12 1 (.s 16) (.m 100), []⟩,
  ⟨some 102, none, .ld none 0 (.m 101), []⟩,
  ⟨some 103, none, .bin .add (.m 99) (.m 102), []⟩,
  ⟨some 104, none, .mov (.s 14), []⟩,
  ⟨some 105, none, .mov (.s 17), []⟩,
  ⟨some 106, none, .bin .add (.m 105) (.c (.d (.int .i64 1))), []⟩,
  ⟨some 107, none, .ia 3 (.m 104) (.m 106), []⟩,
  ⟨some 108, none, .fa 0 (.m 107), []⟩,
  ⟨some 109, none, .ld none 0 (.m 108), []⟩,
  ⟨some 110, none, .bin .add (.m 103) (.m 109), []⟩,
  ⟨some 20, none, .mov (.m 110), []⟩])
def rg_pick_shelf_least_26 : VC := (.reg false [
  ⟨some 111, none, .mov (.s 14), []⟩,
  ⟨some 112, none, .mov (.s 15), []⟩,
  ⟨some 113, none, .ia 3 (.m 111) (.m 112), []⟩,
  ⟨some 114, none, .ld (some 3) 0 (.m 113), []⟩,
  ⟨some 115, none, .build [.d (.int .i64 0), .d (.int .i64 0), .d (.int .i64 0)] [], []⟩,
  ⟨some 116, none, .bina false [true, true, true] (.m 114) (.m 115), []⟩,
  ⟨some 117, none, .mov (.m 116), []⟩,
  ⟨some 118, (some (117, false)), .mov (.s 20), []⟩,
  ⟨some 119, (some (117, false)), .mov (.s 14), []⟩,
  ⟨some 120, (some (117, false)), .mov (.s 15), []⟩,
  ⟨some 121, (some (117, false)), .ia 3 (.s 119) (.s 120), []⟩,
  ⟨some 122, (some (117, false)), .fa 0 (.s 121), []⟩,
  ⟨some 123, (some (117, false)), .ld none 0 (.s 122), []⟩,
  ⟨some 124, (some (117, false)), .bin .lss (.s 118) (.s 123), []⟩,
  ⟨some 125, none, .pick (.m 117) (.c (.d (.bool true))) (.s 124), []⟩,
  ⟨none, none, .kill [118, 119, 120, 121, 122, 123, 124], []⟩])
def rg_pick_shelf_least_27 : VC := (.reg false [
  ⟨some 126, none, .mov (.s 14), []⟩,
  ⟨some 127, none, .mov (.s 15), []⟩,
  ⟨some 128, none, .mov (.m 20), []⟩,
  ⟨some 129, none, .mov (.m 18), []⟩,
  ⟨some 130, none, .mov (.s 17), []⟩,
  ⟨some 131, none, .bin .add (.m 130) (.c (.d (.int .i64 1))), []⟩,
  ⟨some 132, none, .mov (.s 15), []⟩,
  ⟨some 133, none, .bin .sub (.m 131) (.m 132), []⟩,
  ⟨some 134, none, .build [.d (.int .i64 0), .d (.int .i64 0)] [(0, 1, .m 129), (1, 1, .m 133)], []⟩,
  ⟨some 135, none, .build [.d (.int .i64 0), .d (.int .i64 0), .d (.int .i64 0)] [(0, 1, .m 128), (1, 2, .m 134)], []⟩,
  ⟨some 136, none, .ia 3 (.m 126) (.m 127), []⟩,
  ⟨none, none, .st 3 (.m 136) (.m 135), []⟩])
def rg_pick_shelf_least_28 : VC := (.reg false [
  ⟨some 137, none, .bin .add (.m 74) (.c (.d (.int .i64 1))), []⟩,
  ⟨some 74, none, .mov (.m 137), []⟩])
def c_pick_shelf_least_L1 : VC := (.seq rg_pick_shelf_least_20
(.seq (.cond (.m 75)
.skip
(.seq (K [73, 74]) (.exit 10)))
(.seq (.block 11
(.seq rg_pick_shelf_least_21
(.seq (.seq rg_pick_shelf_least_22
(.cond (.m 85)
(.seq (K [19]) (.seq rg_pick_shelf_least_23
(.exit 11)))
.skip))
(.seq rg_pick_shelf_least_24
(.seq rg_pick_shelf_least_25
(.seq rg_pick_shelf_least_26
(.cond (.m 125)
rg_pick_shelf_least_27
(.seq (K [18, 20]) .skip))))))))
rg_pick_shelf_least_28)))
def rg_pick_shelf_least_29 : VC := (.reg false [
  ⟨some 68, none, .mov (.m 17), []⟩,
  ⟨some 69, none, .bin .add (.m 68) (.c (.d (.int .i64 1))), []⟩,
  ⟨some 17, none, .mov (.m 69), []⟩])
def c_pick_shelf_least_L2 : VC := (.seq (.seq rg_pick_shelf_least_18
(.cond (.m 67)
.skip
(.seq (.seq (K [17]) (F 16)) (.exit 8))))
(.seq (.block 9
(.seq rg_pick_shelf_least_19
(.block 10
(.seq (.loop c_pick_shelf_least_L1) (K [73, 74])))))
rg_pick_shelf_least_29))
def rg_pick_shelf_least_30 : VC := (.reg false [
  ⟨some 61, none, .mov (.m 15), []⟩,
  ⟨some 62, none, .bin .sub (.m 61) (.c (.d (.int .i64 1))), []⟩,
  ⟨some 15, none, .mov (.m 62), []⟩])
def c_pick_shelf_least_L3 : VC := (.seq (.seq rg_pick_shelf_least_15
(.cond (.m 60)
.skip
(.seq (.seq (K [15]) (F 10)) (.exit 6))))
(.seq (.block 7
(.seq rg_pick_shelf_least_16
(.seq rg_pick_shelf_least_17
(.block 8
(.seq (.loop c_pick_shelf_least_L2) (.seq (K [17]) (F 16)))))))
rg_pick_shelf_least_30))
def rg_pick_shelf_least_31 : VC := (.reg false [
  ⟨some 21, none, .mov (.c (.nl)), []⟩])
def rg_pick_shelf_least_32 : VC := (.reg false [
  ⟨some 22, none, .mov (.c (.d (.int .i64 0))), []⟩])
def rg_pick_shelf_least_33 : VC := (.reg false [
  ⟨some 138, none, .mov (.s 22), []⟩,
  ⟨some 139, none, .fa 2 (.s 6), []⟩,
  ⟨some 140, none, .ld none 0 (.m 139), []⟩,
  ⟨some 141, none, .bin .lss (.m 138) (.m 140), []⟩])
def rg_pick_shelf_least_34 : VC := (.reg false [
  ⟨some 150, none, .mov (.m 21), []⟩,
  ⟨some 151, none, .mov (.s 14), []⟩,
  ⟨some 152, none, .mov (.s 22), []⟩,
  ⟨some 153, none, .ia 3 (.m 151) (.m 152), []⟩,
  ⟨some 154, none, .fa 1 (.m 153), []⟩,
  ⟨some 155, none, .ld (some 2) 0 (.m 154), []⟩,
  ⟨some 156, none, .mks 2 [.m 155], []⟩,
  ⟨some 157, none, .app 2 (.m 150) (.m 156), []⟩,
  ⟨some 21, none, .mov (.m 157), []⟩])
def rg_pick_shelf_least_35 : VC := (.reg false [
  ⟨some 142, none, .mov (.s 22), []⟩,
  ⟨some 143, none, .mov (.s 14), []⟩,
  ⟨some 144, none, .mov (.m 22), []⟩,
  ⟨some 145, none, .ia 3 (.m 143) (.m 144), []⟩,
  ⟨some 146, none, .fa 1 (.m 145), []⟩,
  ⟨some 147, none, .fa 1 (.m 146), []⟩,
  ⟨some 148, none, .ld none 0 (.m 147), []⟩,
  ⟨some 149, none, .bin .add (.m 142) (.m 148), []⟩,
  ⟨some 22, none, .mov (.m 149), []⟩])
def c_pick_shelf_least_L4 : VC := (.seq (.seq rg_pick_shelf_least_33
(.cond (.m 141)
.skip
(.seq (K [14, 22]) (.exit 12))))
(.seq (.block 13
rg_pick_shelf_least_34)
rg_pick_shelf_least_35))
def rg_pick_shelf_least_36 : VC := (.reg false [
  ⟨some 158, none, .mov (.m 8), []⟩,
  ⟨some 159, none, .mov (.m 21), []⟩,
  ⟨some 160, none, .mks 1 [.m 159], []⟩,
  ⟨some 161, none, .app 1 (.m 158) (.m 160), []⟩,
  ⟨some 8, none, .mov (.m 161), []⟩])
def rg_pick_shelf_least_37 : VC := (.reg false [
  ⟨some 162, none, .bin .add (.m 26) (.c (.d (.int .i64 1))), []⟩,
  ⟨some 26, none, .mov (.m 162), []⟩])
def c_pick_shelf_least_L5 : VC := (.seq rg_pick_shelf_least_2
(.seq (.cond (.m 27)
.skip
(.seq (.seq (.seq (K [1, 3, 25, 26]) (F 4)) (F 6)) (.exit 0)))
(.seq (.block 1
(.seq rg_pick_shelf_least_3
(.seq rg_pick_shelf_least_4
(.seq (.seq rg_pick_shelf_least_5
(.block 2
(.seq (.rangeF (.s 36) [37, 38] c_pick_shelf_least_A0 c_pick_shelf_least_B0) (F 36))))
(.seq rg_pick_shelf_least_13
(.seq (.seq rg_pick_shelf_least_14
(.block 6
(.seq (.loop c_pick_shelf_least_L3) (.seq (K [15]) (F 10)))))
(.seq rg_pick_shelf_least_31
(.seq (.seq rg_pick_shelf_least_32
(.block 12
(.seq (.loop c_pick_shelf_least_L4) (K [14, 22]))))
rg_pick_shelf_least_36))))))))
rg_pick_shelf_least_37)))
def c_pick_shelf_least : VFunc := ⟨4, [.tmp 8],
(.seq rg_pick_shelf_least_0
(.seq (.seq rg_pick_shelf_least_1
(.block 0
(.seq (.loop c_pick_shelf_least_L5) (.seq (.seq (K [1, 3, 25, 26]) (F 4)) (F 6)))))
.ret))⟩
def rg_info_Windows_0 : VC := (.reg false [
  ⟨some 1, none, .box (.m 0), []⟩,
  ⟨some 2, none, .mov (.c (.d (.int .i64 0))), []⟩,
  ⟨some 3, none, .mov (.c (.d (.int .i64 0))), []⟩,
  ⟨none, none, .kill [2, 3], []⟩])
def rg_info_Windows_1 : VC := (.reg false [
  ⟨some 5, none, .ld (some 4) 0 (.s 1), []⟩,
  ⟨some 6, none, .call f_info_some [.m 5], []⟩,
  ⟨some 7, none, .un .not (.m 6), []⟩,
  ⟨some 4, none, .mov (.m 7), []⟩])
def rg_info_Windows_2 : VC := (.reg false [
  ⟨some 2, none, .mov (.c (.d (.int .i64 0))), []⟩,
  ⟨some 3, none, .mov (.c (.d (.int .i64 8))), []⟩])
def rg_info_Windows_3 : VC := (.reg false [
  ⟨some 9, none, .fa 0 (.m 1), []⟩,
  ⟨some 10, none, .ld none 0 (.m 9), []⟩,
  ⟨some 11, none, .bin .eql (.m 10) (.c (.d (.int .u8 2))), []⟩,
  ⟨some 8, none, .mov (.m 11), []⟩])
def rg_info_Windows_4 : VC := (.reg false [
  ⟨some 2, none, .mov (.c (.d (.int .i64 8))), []⟩,
  ⟨some 3, none, .mov (.c (.d (.int .i64 0))), []⟩])
def rg_info_Windows_5 : VC := (.reg false [
  ⟨some 2, none, .mov (.c (.d (.int .i64 1))), []⟩,
  ⟨some 3, none, .mov (.c (.d (.int .i64 0))), []⟩])
def c_info_Windows : VFunc := ⟨1, [.tmp 2, .tmp 3],
(.seq rg_info_Windows_0
(.seq (.block 0
(.seq rg_info_Windows_1
(.cond (.m 4)
(.seq (K [1]) (.seq rg_info_Windows_2
.ret))
(.seq rg_info_Windows_3
(.cond (.m 8)
(.seq rg_info_Windows_4
.ret)
.skip)))))
(.seq rg_info_Windows_5
.ret)))⟩
def rg_slices_Min_Lint_0 : VC := (.reg false [
  ⟨some 2, none, .mov (.c (.d (.int .i64 0))), []⟩,
  ⟨none, none, .kill [2], []⟩])
def rg_slices_Min_Lint_1 : VC := (.reg false [
  ⟨some 5, none, .mov (.s 0), []⟩,
  ⟨some 6, none, .len (.m 5), []⟩,
  ⟨some 7, none, .bin .lss (.m 6) (.c (.d (.int .i64 1))), []⟩])
def rg_slices_Min_Lint_2 : VC := (.reg false [
  ⟨some 8, none, .bad, []⟩,
  ⟨none, none, .bad, []⟩])
def rg_slices_Min_Lint_3 : VC := (.reg false [
  ⟨some 9, none, .mov (.s 0), []⟩,
  ⟨some 10, none, .ia 1 (.m 9) (.c (.d (.int .i64 0))), []⟩,
  ⟨some 11, none, .ld none 0 (.m 10), []⟩,
  ⟨some 3, none, .mov (.m 11), []⟩])
def rg_slices_Min_Lint_4 : VC := (.reg false [
  ⟨some 4, none, .mov (.c (.d (.int .i64 1))), []⟩])
def rg_slices_Min_Lint_5 : VC := (.reg false [
  ⟨some 12, none, .mov (.s 4), []⟩,
  ⟨some 13, none, .mov (.s 0), []⟩,
  ⟨some 14, none, .len (.m 13), []⟩,
  ⟨some 15, none, .bin .lss (.m 12) (.m 14), []⟩])
def rg_slices_Min_Lint_6 : VC := (.reg false [
  ⟨some 18, none, .mov (.m 3), []⟩,
  ⟨some 19, none, .mov (.s 0), []⟩,
  ⟨some 20, none, .mov (.s 4), []⟩,
  ⟨some 21, none, .ia 1 (.m 19) (.m 20), []⟩,
  ⟨some 22, none, .ld none 0 (.m 21), []⟩,
  ⟨some 23, none, .minmax false [.m 18, .m 22], []⟩,
  ⟨some 3, none, .mov (.m 23), []⟩])
def rg_slices_Min_Lint_7 : VC := (.reg false [
  ⟨some 16, none, .mov (.m 4), []⟩,
  ⟨some 17, none, .bin .add (.m 16) (.c (.d (.int .i64 1))), []⟩,
  ⟨some 4, none, .mov (.m 17), []⟩])
def c_slices_Min_Lint_L0 : VC := (.seq (.seq rg_slices_Min_Lint_5
(.cond (.m 15)
.skip
(.seq (K [0, 4]) (.exit 0))))
(.seq (.block 1
rg_slices_Min_Lint_6)
rg_slices_Min_Lint_7))
def rg_slices_Min_Lint_8 : VC := (.reg false [
  ⟨some 24, none, .mov (.m 3), []⟩,
  ⟨some 2, none, .mov (.m 24), []⟩])
def c_slices_Min_Lint : VFunc := ⟨1, [.tmp 2],
(.seq rg_slices_Min_Lint_0
(.seq (.seq rg_slices_Min_Lint_1
(.cond (.m 7)
rg_slices_Min_Lint_2
.skip))
(.seq rg_slices_Min_Lint_3
(.seq (.seq rg_slices_Min_Lint_4
(.block 0
(.seq (.loop c_slices_Min_Lint_L0) (K [0, 4]))))
(.seq rg_slices_Min_Lint_8
.ret)))))⟩
def rg_slices_Max_Lint_0 : VC := (.reg false [
  ⟨some 2, none, .mov (.c (.d (.int .i64 0))), []⟩,
  ⟨none, none, .kill [2], []⟩])
def rg_slices_Max_Lint_1 : VC := (.reg false [
  ⟨some 5, none, .mov (.s 0), []⟩,
  ⟨some 6, none, .len (.m 5), []⟩,
  ⟨some 7, none, .bin .lss (.m 6) (.c (.d (.int .i64 1))), []⟩])
def rg_slices_Max_Lint_2 : VC := (.reg false [
  ⟨some 8, none, .bad, []⟩,
  ⟨none, none, .bad, []⟩])
def rg_slices_Max_Lint_3 : VC := (.reg false [
  ⟨some 9, none, .mov (.s 0), []⟩,
  ⟨some 10, none, .ia 1 (.m 9) (.c (.d (.int .i64 0))), []⟩,
  ⟨some 11, none, .ld none 0 (.m 10), []⟩,
  ⟨some 3, none, .mov (.m 11), []⟩])
def rg_slices_Max_Lint_4 : VC := (.reg false [
  ⟨some 4, none, .mov (.c (.d (.int .i64 1))), []⟩])
def rg_slices_Max_Lint_5 : VC := (.reg false [
  ⟨some 12, none, .mov (.s 4), []⟩,
  ⟨some 13, none, .mov (.s 0), []⟩,
  ⟨some 14, none, .len (.m 13), []⟩,
  ⟨some 15, none, .bin .lss (.m 12) (.m 14), []⟩])
def rg_slices_Max_Lint_6 : VC := (.reg false [
  ⟨some 18, none, .mov (.m 3), []⟩,
  ⟨some 19, none, .mov (.s 0), []⟩,
  ⟨some 20, none, .mov (.s 4), []⟩,
  ⟨some 21, none, .ia 1 (.m 19) (.m 20), []⟩,
  ⟨some 22, none, .ld none 0 (.m 21), []⟩,
  ⟨some 23, none, .minmax true [.m 18, .m 22], []⟩,
  ⟨some 3, none, .mov (.m 23), []⟩])
def rg_slices_Max_Lint_7 : VC := (.reg false [
  ⟨some 16, none, .mov (.m 4), []⟩,
  ⟨some 17, none, .bin .add (.m 16) (.c (.d (.int .i64 1))), []⟩,
  ⟨some 4, none, .mov (.m 17), []⟩])
def c_slices_Max_Lint_L0 : VC := (.seq (.seq rg_slices_Max_Lint_5
(.cond (.m 15)
.skip
(.seq (K [0, 4]) (.exit 0))))
(.seq (.block 1
rg_slices_Max_Lint_6)
rg_slices_Max_Lint_7))
def rg_slices_Max_Lint_8 : VC := (.reg false [
  ⟨some 24, none, .mov (.m 3), []⟩,
  ⟨some 2, none, .mov (.m 24), []⟩])
def c_slices_Max_Lint : VFunc := ⟨1, [.tmp 2],
(.seq rg_slices_Max_Lint_0
(.seq (.seq rg_slices_Max_Lint_1
(.cond (.m 7)
rg_slices_Max_Lint_2
.skip))
(.seq rg_slices_Max_Lint_3
(.seq (.seq rg_slices_Max_Lint_4
(.block 0
(.seq (.loop c_slices_Max_Lint_L0) (K [0, 4]))))
(.seq rg_slices_Max_Lint_8
.ret)))))⟩
def rg_slices_Chunk_Lint_0 : VC := (.reg false [
  ⟨some 2, none, .box (.m 0), []⟩,
  ⟨some 3, none, .box (.m 1), []⟩,
  ⟨some 4, none, .mov (.c (.nilf)), []⟩,
  ⟨none, none, .kill [4], []⟩])
def rg_slices_Chunk_Lint_1 : VC := (.reg false [
  ⟨some 5, none, .ld none 0 (.s 3), []⟩,
  ⟨some 6, none, .bin .lss (.m 5) (.c (.d (.int .i64 1))), []⟩])
def rg_slices_Chunk_Lint_2 : VC := (.reg false [
  ⟨some 7, none, .bad, []⟩,
  ⟨none, none, .bad, []⟩])
def rg_slices_Chunk_Lint_3 : VC := (.reg false [
  ⟨some 8, none, .mkfn f_slices_Chunk_Lint_1 [] [.m 2, .m 3], []⟩,
  ⟨some 4, none, .mov (.m 8), []⟩])
def c_slices_Chunk_Lint : VFunc := ⟨2, [.tmp 4],
(.seq rg_slices_Chunk_Lint_0
(.seq (.seq rg_slices_Chunk_Lint_1
(.cond (.m 6)
rg_slices_Chunk_Lint_2
.skip))
(.seq rg_slices_Chunk_Lint_3
.ret)))⟩
def rg_band_Offsets_0 : VC := (.reg false [
  ⟨some 4, none, .mov (.c (.nl)), []⟩,
  ⟨some 5, none, .mov (.c (.d (.int .i64 0))), []⟩,
  ⟨none, none, .kill [4, 5], []⟩])
def rg_band_Offsets_1 : VC := (.reg false [
  ⟨some 11, none, .mov (.s 0), []⟩,
  ⟨some 12, none, .bin .lss (.m 11) (.c (.d (.int .i64 0))), []⟩,
  ⟨some 13, none, .mov (.m 12), []⟩,
  ⟨some 14, (some (13, false)), .mov (.s 0), []⟩,
  ⟨some 15, (some (13, false)), .bin .gtr (.s 14) (.c (.d (.int .i64 11))), []⟩,
  ⟨some 16, none, .pick (.m 13) (.c (.d (.bool true))) (.s 15), []⟩,
  ⟨none, none, .kill [14, 15], []⟩])
def rg_band_Offsets_2 : VC := (.reg false [
  ⟨some 4, none, .mov (.c (.nl)), []⟩,
  ⟨some 5, none, .mov (.c (.d (.int .i64 2))), []⟩])
def rg_band_Offsets_3 : VC := (.reg false [
  ⟨some 17, none, .mov (.m 0), []⟩,
  ⟨some 18, none, .bin .sub (.c (.d (.int .i64 11))) (.m 17), []⟩,
  ⟨some 19, none, .bin .quo (.m 18) (.c (.d (.int .i64 2))), []⟩,
  ⟨some 20, none, .bin .add (.c (.d (.int .i64 3))) (.m 19), []⟩,
  ⟨some 6, none, .mov (.m 20), []⟩,
  ⟨some 7, none, .mov (.c (.d (.int .i64 256))), []⟩,
  ⟨some 8, none, .mov (.c (.d (.int .i64 256))), []⟩])
def rg_band_Offsets_4 : VC := (.reg false [
  ⟨some 21, none, .mov (.m 1), []⟩])
def rg_band_Offsets_5 : VC := (.reg false [
  ⟨some 7, none, .mov (.c (.d (.int .i64 32))), []⟩,
  ⟨some 8, none, .mov (.c (.d (.int .i64 64))), []⟩])
def rg_band_Offsets_6 : VC := (.reg false [
  ⟨some 9, none, .mov (.c (.nl)), []⟩])
def rg_band_Offsets_7 : VC := (.reg false [
  ⟨some 10, none, .mov (.c (.d (.int .i64 0))), []⟩])
def rg_band_Offsets_8 : VC := (.reg false [
  ⟨some 22, none, .mov (.m 9), []⟩,
  ⟨some 23, none, .mov (.s 10), []⟩,
  ⟨some 24, none, .mks 1 [.m 23], []⟩,
  ⟨some 25, none, .app 1 (.m 22) (.m 24), []⟩,
  ⟨some 9, none, .mov (.m 25), []⟩])
def rg_band_Offsets_9 : VC := (.reg false [
  ⟨some 26, none, .mov (.s 10), []⟩,
  ⟨some 27, none, .mov (.s 7), []⟩,
  ⟨some 28, none, .bin .lss (.m 26) (.m 27), []⟩])
def rg_band_Offsets_10 : VC := (.reg false [
  ⟨some 29, none, .mov (.s 7), []⟩,
  ⟨some 30, none, .mov (.s 10), []⟩,
  ⟨some 31, none, .bin .add (.m 30) (.c (.d (.int .i64 4))), []⟩,
  ⟨some 32, none, .mov (.m 10), []⟩,
  ⟨some 33, none, .mov (.s 6), []⟩,
  ⟨some 34, none, .bin .mul (.m 32) (.m 33), []⟩,
  ⟨some 35, none, .mov (.s 8), []⟩,
  ⟨some 36, none, .bin .quo (.m 34) (.m 35), []⟩,
  ⟨some 37, none, .bin .mul (.c (.d (.int .i64 4))) (.m 36), []⟩,
  ⟨some 38, none, .bin .add (.m 31) (.m 37), []⟩,
  ⟨some 39, none, .minmax false [.m 29, .m 38], []⟩,
  ⟨some 10, none, .mov (.m 39), []⟩])
def rg_band_Offsets_11 : VC := (.reg false [
  ⟨some 40, none, .mov (.m 9), []⟩,
  ⟨some 4, none, .mov (.m 40), []⟩,
  ⟨some 5, none, .mov (.c (.d (.int .i64 0))), []⟩])
def c_band_Offsets : VFunc := ⟨2, [.tmp 4, .tmp 5],
(.seq rg_band_Offsets_0
(.scope
(.seq (.seq rg_band_Offsets_1
(.cond (.m 16)
(.seq (K [0, 1]) (.seq rg_band_Offsets_2
.ret))
.skip))
(.seq rg_band_Offsets_3
(.seq (.seq rg_band_Offsets_4
(.cond (.m 21)
(.seq (K [7, 8]) rg_band_Offsets_5)
.skip))
(.seq rg_band_Offsets_6
(.seq rg_band_Offsets_7
(.seq (.label 0)
(.seq rg_band_Offsets_8
(.seq (.seq rg_band_Offsets_9
(.cond (.m 28)
(.seq rg_band_Offsets_10
(.goto 0))
(.seq (K [6, 7, 8, 10]) .skip)))
(.seq rg_band_Offsets_11
.ret)))))))))))⟩
def rg_slices_Equal_Lint_0 : VC := (.reg false [
  ⟨some 4, none, .mov (.c (.d (.bool false))), []⟩,
  ⟨none, none, .kill [4], []⟩])
def rg_slices_Equal_Lint_1 : VC := (.reg false [
  ⟨some 6, none, .mov (.s 0), []⟩,
  ⟨some 7, none, .len (.m 6), []⟩,
  ⟨some 8, none, .mov (.s 1), []⟩,
  ⟨some 9, none, .len (.m 8), []⟩,
  ⟨some 10, none, .bin .neq (.m 7) (.m 9), []⟩])
def rg_slices_Equal_Lint_2 : VC := (.reg false [
  ⟨some 4, none, .mov (.c (.d (.bool false))), []⟩])
def rg_slices_Equal_Lint_3 : VC := (.reg false [
  ⟨some 11, none, .mov (.s 0), []⟩,
  ⟨some 12, none, .len (.m 11), []⟩,
  ⟨some 13, none, .mov (.c (.d (.int .i64 0))), []⟩])
def rg_slices_Equal_Lint_4 : VC := (.reg false [
  ⟨some 14, none, .bin .lss (.s 13) (.s 12), []⟩])
def rg_slices_Equal_Lint_5 : VC := (.reg false [
  ⟨some 15, none, .mov (.s 13), []⟩,
  ⟨some 5, none, .mov (.m 15), []⟩])
def rg_slices_Equal_Lint_6 : VC := (.reg true [
  ⟨some 16, none, .mov (.s 0), []⟩,
  ⟨some 17, none, .mov (.s 5), []⟩,
  ⟨some 18, none, .ia 1 (.m 16) (.m 17), []⟩,
  ⟨some 19, none, .ld none 0 (.m 18), []⟩,
  ⟨some 20, none, .mov (.s 1), []⟩,
  ⟨some 21, none, .mov (.s 5), []⟩,
  ⟨some 22, none, .ia 1 (.m 20) (.m 21), []⟩,
  ⟨some 23, none, .ld none 0 (.m 22), []⟩,
  ⟨some 24, none, .bin .neq (.m 19) (.m 23), []⟩])
def rg_slices_Equal_Lint_7 : VC := (.reg false [
  ⟨some 4, none, .mov (.c (.d (.bool false))), []⟩])
def rg_slices_Equal_Lint_8 : VC := (.reg false [
  ⟨some 25, none, .bin .add (.m 13) (.c (.d (.int .i64 1))), []⟩,
  ⟨some 13, none, .mov (.m 25), []⟩])
def c_slices_Equal_Lint_L0 : VC := (.seq rg_slices_Equal_Lint_4
(.seq (.cond (.m 14)
.skip
(.seq (K [0, 1, 12, 13]) (.exit 0)))
(.seq (.block 1
(.seq rg_slices_Equal_Lint_5
(.seq (.seq rg_slices_Equal_Lint_6 (K [5]))
(.cond (.m 24)
(.seq (K [0, 1, 12, 13]) (.seq rg_slices_Equal_Lint_7
.ret))
.skip))))
rg_slices_Equal_Lint_8)))
def rg_slices_Equal_Lint_9 : VC := (.reg false [
  ⟨some 4, none, .mov (.c (.d (.bool true))), []⟩])
def c_slices_Equal_Lint : VFunc := ⟨2, [.tmp 4],
(.seq rg_slices_Equal_Lint_0
(.seq (.seq rg_slices_Equal_Lint_1
(.cond (.m 10)
(.seq (K [0, 1]) (.seq rg_slices_Equal_Lint_2
.ret))
.skip))
(.seq (.seq rg_slices_Equal_Lint_3
(.block 0
(.seq (.loop c_slices_Equal_Lint_L0) (K [0, 1, 12, 13]))))
(.seq rg_slices_Equal_Lint_9
.ret))))⟩
def rg_slices_ContainsFunc_Lint_0 : VC := (.reg false [
  ⟨some 4, none, .mov (.c (.d (.bool false))), []⟩,
  ⟨none, none, .kill [4], []⟩])
def rg_slices_ContainsFunc_Lint_1 : VC := (.reg false [
  ⟨some 5, none, .mov (.m 0), []⟩,
  ⟨some 6, none, .mov (.m 1), []⟩,
  ⟨some 7, none, .calli f_slices_IndexFunc_Lint [.m 5, .m 6], []⟩,
  ⟨some 8, none, .bin .geq (.m 7) (.c (.d (.int .i64 0))), []⟩,
  ⟨some 4, none, .mov (.m 8), []⟩])
def c_slices_ContainsFunc_Lint : VFunc := ⟨2, [.tmp 4],
(.seq rg_slices_ContainsFunc_Lint_0
(.seq rg_slices_ContainsFunc_Lint_1
.ret))⟩
def rg_pick_odd_1_0 : VC := (.reg false [
  ⟨some 3, none, .mov (.c (.d (.bool false))), []⟩,
  ⟨none, none, .kill [3], []⟩])
def rg_pick_odd_1_1 : VC := (.reg true [
  ⟨some 4, none, .mov (.m 0), []⟩,
  ⟨some 5, none, .call f_pick_size [.m 4], []⟩,
  ⟨some 6, none, .ld none 0 (.m 1), []⟩,
  ⟨some 7, none, .bin .gtr (.m 5) (.m 6), []⟩,
  ⟨some 3, none, .mov (.m 7), []⟩])
def c_pick_odd_1 : VFunc := ⟨2, [.tmp 3],
(.seq rg_pick_odd_1_0
(.seq rg_pick_odd_1_1
.ret))⟩
def rg_book_of_0 : VC := (.reg false [
  ⟨some 2, none, .alloc [.d (.int .i64 0), .d (.int .i64 0), .d (.int .i64 0), .d (.int .i64 0)], []⟩,
  ⟨some 3, none, .mov (.c (.d (.int .i64 0))), []⟩,
  ⟨none, none, .kill [3], []⟩])
def rg_book_of_1 : VC := (.reg false [
  ⟨some 4, none, .mov (.s 0), []⟩,
  ⟨some 5, none, .bin .lss (.m 4) (.c (.d (.int .i64 1))), []⟩,
  ⟨some 6, none, .mov (.m 5), []⟩,
  ⟨some 7, (some (6, false)), .mov (.s 0), []⟩,
  ⟨some 8, (some (6, false)), .bin .gtr (.s 7) (.c (.d (.int .i64 12))), []⟩,
  ⟨some 9, none, .pick (.m 6) (.c (.d (.bool true))) (.s 8), []⟩,
  ⟨none, none, .kill [7, 8], []⟩])
def rg_book_of_2 : VC := (.reg false [
  ⟨some 10, none, .build [.d (.int .i64 0), .d (.int .i64 0), .d (.int .i64 0), .d (.int .i64 0)] [], []⟩,
  ⟨none, none, .st 4 (.s 2) (.m 10), []⟩,
  ⟨some 3, none, .mov (.c (.d (.int .i64 2))), []⟩])
def rg_book_of_3 : VC := (.reg false [
  ⟨some 11, none, .call f_book_kinds [], []⟩,
  ⟨some 12, none, .mov (.m 0), []⟩,
  ⟨some 13, none, .ix 13 4 true (.m 11) (.m 12), []⟩,
  ⟨none, none, .st 4 (.s 2) (.m 13), []⟩,
  ⟨some 3, none, .mov (.c (.d (.int .i64 0))), []⟩])
def c_book_of : VFunc := ⟨1, [.cell 2 (some 4), .tmp 3],
(.seq rg_book_of_0
(.seq (.seq rg_book_of_1
(.cond (.m 9)
(.seq (K [0]) (.seq rg_book_of_2
.ret))
.skip))
(.seq rg_book_of_3
.ret)))⟩
def rg_book_kind_many_0 : VC := (.reg false [
  ⟨some 1, none, .box (.m 0), []⟩,
  ⟨some 2, none, .mov (.c (.d (.int .i64 0))), []⟩,
  ⟨none, none, .kill [2], []⟩])
def rg_book_kind_many_1 : VC := (.reg false [
  ⟨some 3, none, .mov (.c (.d (.int .i64 1))), []⟩])
def rg_book_kind_many_2 : VC := (.reg false [
  ⟨some 4, none, .fa 0 (.s 1), []⟩,
  ⟨some 5, none, .ld none 0 (.m 4), []⟩,
  ⟨some 6, none, .mov (.c (.d (.int .i64 0))), []⟩])
def rg_book_kind_many_3 : VC := (.reg false [
  ⟨some 7, none, .bin .lss (.s 6) (.s 5), []⟩])
def rg_book_kind_many_4 : VC := (.reg false [
  ⟨some 8, none, .mov (.m 3), []⟩,
  ⟨some 9, none, .ld (some 4) 0 (.s 1), []⟩,
  ⟨some 10, none, .call f_book_kind_wide [.m 9], []⟩,
  ⟨some 11, none, .bin .mul (.m 8) (.m 10), []⟩,
  ⟨some 3, none, .mov (.m 11), []⟩])
def rg_book_kind_many_5 : VC := (.reg false [
  ⟨some 12, none, .bin .add (.m 6) (.c (.d (.int .i64 1))), []⟩,
  ⟨some 6, none, .mov (.m 12), []⟩])
def c_book_kind_many_L0 : VC := (.seq rg_book_kind_many_3
(.seq (.cond (.m 7)
.skip
(.seq (.seq (K [5, 6]) (F 1)) (.exit 0)))
(.seq (.block 1
rg_book_kind_many_4)
rg_book_kind_many_5)))
def rg_book_kind_many_6 : VC := (.reg false [
  ⟨some 13, none, .mov (.m 3), []⟩,
  ⟨some 2, none, .mov (.m 13), []⟩])
def c_book_kind_many : VFunc := ⟨1, [.tmp 2],
(.seq rg_book_kind_many_0
(.seq rg_book_kind_many_1
(.seq (.seq rg_book_kind_many_2
(.block 0
(.seq (.loop c_book_kind_many_L0) (.seq (K [5, 6]) (F 1)))))
(.seq rg_book_kind_many_6
.ret))))⟩
def rg_book_kind_sizes_0 : VC := (.reg false [
  ⟨some 1, none, .box (.m 0), []⟩,
  ⟨some 2, none, .alloc [.d (.int .u8 0), .d (.int .u8 0), .d (.int .u8 0), .d (.int .u8 0), .d (.int .u8 0), .d (.int .u8 0), .d (.int .u8 0), .d (.int .u8 0), .d (.int .u8 0), .d (.int .u8 0), .d (.int .u8 0), .d (.int .u8 0), .d (.int .u8 0), .d (.int .u8 0), .d (.int .u8 0), .d (.int .u8 0), .d (.int .u8 0), .d (.int .u8 0), .d (.int .u8 0), .d (.int .u8 0), .d (.int .u8 0), .d (.int .u8 0), .d (.int .u8 0), .d (.int .u8 0), .d (.int .u8 0), .d (.int .u8 0), .d (.int .u8 0), .d (.int .u8 0), .d (.int .u8 0), .d (.int .u8 0), .d (.int .u8 0), .d (.int .u8 0), .d (.int .u8 0), .d (.int .u8 0), .d (.int .u8 0), .d (.int .u8 0), .d (.int .u8 0), .d (.int .u8 0), .d (.int .u8 0), .d (.int .u8 0), .d (.int .u8 0), .d (.int .u8 0), .d (.int .u8 0), .d (.int .u8 0), .d (.int .u8 0), .d (.int .u8 0), .d (.int .u8 0), .d (.int .u8 0), .d (.int .u8 0), .d (.int .u8 0), .d (.int .u8 0), .d (.int .u8 0), .d (.int .u8 0), .d (.int .u8 0), .d (.int .u8 0), .d (.int .u8 0), .d (.int .u8 0), .d (.int .u8 0), .d (.int .u8 0), .d (.int .u8 0), .d (.int .u8 0), .d (.int .u8 0), .d (.int .u8 0), .d (.int .u8 0), .d (.int .u8 0), .d (.int .u8 0), .d (.int .u8 0), .d (.int .u8 0), .d (.int .u8 0), .d (.int .u8 0), .d (.int .u8 0), .d (.int .u8 0), .d (.int .u8 0), .d (.int .u8 0), .d (.int .u8 0), .d (.int .u8 0), .d (.int .u8 0), .d (.int .u8 0), .d (.int .u8 0), .d (.int .u8 0), .d (.int .u8 0), .d (.int .u8 0), .d (.int .u8 0), .d (.int .u8 0), .d (.int .u8 0), .d (.int .u8 0), .d (.int .u8 0), .d (.int .u8 0), .d (.int .u8 0), .d (.int .u8 0), .d (.int .u8 0), .d (.int .u8 0), .d (.int .u8 0), .d (.int .u8 0), .d (.int .u8 0), .d (.int .u8 0), .d (.int .u8 0), .d (.int .u8 0), .d (.int .u8 0), .d (.int .u8 0), .d (.int .u8 0), .d (.int .u8 0), .d (.int .u8 0), .d (.int .u8 0), .d (.int .u8 0), .d (.int .u8 0), .d (.int .u8 0), .d (.int .u8 0), .d (.int .u8 0), .d (.int .u8 0), .d (.int .u8 0), .d (.int .u8 0), .d (.int .u8 0), .d (.int .u8 0), .d (.int .u8 0), .d (.int .u8 0), .d (.int .u8 0), .d (.int .u8 0), .d (.int .u8 0), .d (.int .u8 0), .d (.int .u8 0), .d (.int .u8 0), .d (.int .u8 0), .d (.int .u8 0), .d (.int .u8 0), .d (.int .u8 0), .d (.int .u8 0), .d (.int .u8 0), .d (.int .u8 0), .d (.int .u8 0), .d (.int .u8 0), .d (.int .u8 0), .d (.int .u8 0), .d (.int .u8 0), .d (.int .u8 0), .d (.int .u8 0), .d (.int .u8 0), .d (.int .u8 0), .d (.int .u8 0), .d (.int .u8 0), .d (.int .u8 0), .d (.int .u8 0), .d (.int .u8 0), .d (.int .u8 0), .d (.int .u8 0), .d (.int .u8 0), .d (.int .u8 0), .d (.int .u8 0), .d (.int .u8 0), .d (.int .u8 0), .d (.int .u8 0), .d (.int .u8 0), .d (.int .u8 0), .d (.int .u8 0), .d (.int .u8 0), .d (.int .u8 0), .d (.int .u8 0), .d (.int .u8 0), .d (.int .u8 0), .d (.int .u8 0), .d (.int .u8 0), .d (.int .u8 0), .d (.int .u8 0), .d (.int .u8 0), .d (.int .u8 0), .d (.int .u8 0), .d (.int .u8 0), .d (.int .u8 0), .d (.int .u8 0), .d (.int .u8 0), .d (.int .u8 0), .d (.int .u8 0), .d (.int .u8 0), .d (.int .u8 0), .d (.int .u8 0), .d (.int .u8 0), .d (.int .u8 0), .d (.int .u8 0), .d (.int .u8 0), .d (.int .u8 0), .d (.int .u8 0), .d (.int .u8 0), .d (.int .u8 0), .d (.int .u8 0), .d (.int .u8 0), .d (.int .u8 0), .d (.int .u8 0), .d (.int .u8 0), .d (.int .u8 0), .d (.int .u8 0), .d (.int .u8 0), .d (.int .u8 0), .d (.int .u8 0), .d (.int .u8 0), .d (.int .u8 0), .d (.int .u8 0), .d (.int .u8 0), .d (.int .u8 0), .d (.int .u8 0), .d (.int .u8 0), .d (.int .u8 0), .d (.int .u8 0), .d (.int .u8 0), .d (.int .u8 0), .d (.int .u8 0), .d (.int .u8 0), .d (.int .u8 0), .d (.int .u8 0), .d (.int .u8 0), .d (.int .u8 0), .d (.int .u8 0), .d (.int .u8 0), .d (.int .u8 0), .d (.int .u8 0), .d (.int .u8 0), .d (.int .u8 0), .d (.int .u8 0), .d (.int .u8 0), .d (.int .u8 0), .d (.int .u8 0), .d (.int .u8 0), .d (.int .u8 0), .d (.int .u8 0), .d (.int .u8 0), .d (.int .u8 0), .d (.int .u8 0), .d (.int .u8 0), .d (.int .u8 0), .d (.int .u8 0), .d (.int .u8 0), .d (.int .u8 0), .d (.int .u8 0), .d (.int .u8 0), .d (.int .u8 0), .d (.int .u8 0), .d (.int .u8 0), .d (.int .u8 0), .d (.int .u8 0), .d (.int .u8 0), .d (.int .u8 0), .d (.int .u8 0), .d (.int .u8 0), .d (.int .u8 0), .d (.int .u8 0), .d (.int .u8 0), .d (.int .u8 0), .d (.int .u8 0), .d (.int .u8 0), .d (.int .u8 0), .d (.int .u8 0), .d (.int .u8 0), .d (.int .u8 0), .d (.int .u8 0), .d (.int .u8 0), .d (.int .u8 0), .d (.int .u8 0), .d (.int .u8 0), .d (.int .u8 0), .d (.int .u8 0), .d (.int .u8 0), .d (.int .u8 0), .d (.int .u8 0), .d (.int .u8 0), .d (.int .u8 0), .d (.int .u8 0), .d (.int .u8 0), .d (.int .u8 0), .d (.int .u8 0), .d (.int .u8 0), .d (.int .u8 0), .d (.int .u8 0), .d (.int .u8 0), .d (.int .u8 0), .d (.int .u8 0), .d (.int .u8 0), .d (.int .u8 0), .d (.int .u8 0), .d (.int .u8 0), .d (.int .u8 0), .d (.int .u8 0), .d (.int .u8 0), .d (.int .u8 0), .d (.int .u8 0), .d (.int .u8 0), .d (.int .u8 0), .d (.int .u8 0), .d (.int .u8 0), .d (.int .u8 0), .d (.int .u8 0)], []⟩])
def rg_book_kind_sizes_1 : VC := (.reg false [
  ⟨some 3, none, .alloc [.d (.int .i64 0), .d (.int .i64 0), .d (.int .i64 0), .d (.int .i64 0)], []⟩])
def rg_book_kind_sizes_2 : VC := (.reg false [
  ⟨some 10, none, .fa 0 (.s 1), []⟩,
  ⟨some 11, none, .ld none 0 (.m 10), []⟩,
  ⟨some 12, none, .mov (.c (.d (.int .i64 0))), []⟩])
def rg_book_kind_sizes_3 : VC := (.reg false [
  ⟨some 13, none, .bin .lss (.s 12) (.s 11), []⟩])
def rg_book_kind_sizes_4 : VC := (.reg false [
  ⟨some 14, none, .mov (.s 12), []⟩,
  ⟨some 4, none, .mov (.m 14), []⟩])
def rg_book_kind_sizes_5 : VC := (.reg false [
  ⟨some 15, none, .mov (.m 4), []⟩,
  ⟨some 16, none, .fa 1 (.s 1), []⟩,
  ⟨some 17, none, .ld none 0 (.m 16), []⟩,
  ⟨some 18, none, .iarr 4 1 (.s 3) (.m 15), []⟩,
  ⟨none, none, .st 1 (.m 18) (.m 17), []⟩])
def rg_book_kind_sizes_6 : VC := (.reg false [
  ⟨some 19, none, .bin .add (.m 12) (.c (.d (.int .i64 1))), []⟩,
  ⟨some 12, none, .mov (.m 19), []⟩])
def c_book_kind_sizes_L0 : VC := (.seq rg_book_kind_sizes_3
(.seq (.cond (.m 13)
.skip
(.seq (K [11, 12]) (.exit 0)))
(.seq (.block 1
(.seq rg_book_kind_sizes_4
rg_book_kind_sizes_5))
rg_book_kind_sizes_6)))
def rg_book_kind_sizes_7 : VC := (.reg false [
  ⟨some 20, none, .ld (some 4) 0 (.s 1), []⟩,
  ⟨some 21, none, .call f_book_kind_many [.m 20], []⟩,
  ⟨some 22, none, .mov (.c (.d (.int .i64 0))), []⟩])
def rg_book_kind_sizes_8 : VC := (.reg false [
  ⟨some 23, none, .bin .lss (.s 22) (.s 21), []⟩])
def rg_book_kind_sizes_9 : VC := (.reg false [
  ⟨some 24, none, .mov (.s 22), []⟩,
  ⟨some 5, none, .mov (.m 24), []⟩])
def rg_book_kind_sizes_10 : VC := (.reg false [
  ⟨some 6, none, .mov (.c (.d (.int .i64 0))), []⟩])
def rg_book_kind_sizes_11 : VC := (.reg false [
  ⟨some 25, none, .fa 0 (.s 1), []⟩,
  ⟨some 26, none, .ld none 0 (.m 25), []⟩,
  ⟨some 27, none, .slarr 4 (.s 3) none (some (.m 26)) none, []⟩,
  ⟨some 28, none, .len (.s 27), []⟩,
  ⟨some 29, none, .mov (.c (.d (.int .i64 0))), []⟩])
def rg_book_kind_sizes_12 : VC := (.reg false [
  ⟨some 30, none, .bin .lss (.s 29) (.s 28), []⟩])
def rg_book_kind_sizes_13 : VC := (.reg false [
  ⟨some 31, none, .ia 1 (.s 27) (.s 29), []⟩,
  ⟨some 32, none, .ld none 0 (.m 31), []⟩,
  ⟨some 8, none, .mov (.m 32), []⟩])
def rg_book_kind_sizes_14 : VC := (.reg false [
  ⟨some 33, none, .mov (.m 6), []⟩,
  ⟨some 34, none, .mov (.s 8), []⟩,
  ⟨some 35, none, .mov (.m 8), []⟩,
  ⟨some 36, none, .un .neg (.m 35), []⟩,
  ⟨some 37, none, .minmax true [.m 34, .m 36], []⟩,
  ⟨some 38, none, .bin .add (.m 33) (.m 37), []⟩,
  ⟨some 6, none, .mov (.m 38), []⟩])
def rg_book_kind_sizes_15 : VC := (.reg false [
  ⟨some 39, none, .bin .add (.m 29) (.c (.d (.int .i64 1))), []⟩,
  ⟨some 29, none, .mov (.m 39), []⟩])
def c_book_kind_sizes_L1 : VC := (.seq rg_book_kind_sizes_12
(.seq (.cond (.m 30)
.skip
(.seq (K [27, 28, 29]) (.exit 4)))
(.seq (.block 5
(.seq rg_book_kind_sizes_13
rg_book_kind_sizes_14))
rg_book_kind_sizes_15)))
def rg_book_kind_sizes_16 : VC := (.reg false [
  ⟨some 40, none, .mov (.m 5), []⟩,
  ⟨some 41, none, .mov (.m 6), []⟩,
  ⟨some 42, none, .conv .u8 (.m 41), []⟩,
  ⟨some 43, none, .iarr 289 1 (.s 2) (.m 40), []⟩,
  ⟨none, none, .st 1 (.m 43) (.m 42), []⟩])
def rg_book_kind_sizes_17 : VC := (.reg false [
  ⟨some 44, none, .fa 0 (.s 1), []⟩,
  ⟨some 45, none, .ld none 0 (.m 44), []⟩,
  ⟨some 46, none, .bin .sub (.m 45) (.c (.d (.int .i64 1))), []⟩,
  ⟨some 9, none, .mov (.m 46), []⟩])
def rg_book_kind_sizes_18 : VC := (.reg false [
  ⟨some 47, none, .mov (.s 9), []⟩,
  ⟨some 48, none, .bin .geq (.m 47) (.c (.d (.int .i64 0))), []⟩])
def rg_book_kind_sizes_19 : VC := (.reg false [
  ⟨some 51, none, .mov (.s 9), []⟩,
  ⟨some 52, none, .iarr 4 1 (.s 3) (.s 51), []⟩,
  ⟨some 53, none, .ld none 0 (.m 52), []⟩,
  ⟨some 54, none, .bin .add (.m 53) (.c (.d (.int .i64 1))), []⟩,
  ⟨some 55, none, .iarr 4 1 (.s 3) (.m 51), []⟩,
  ⟨none, none, .st 1 (.m 55) (.m 54), []⟩])
def rg_book_kind_sizes_20 : VC := (.reg true [
  ⟨some 56, none, .mov (.s 9), []⟩,
  ⟨some 57, none, .iarr 4 1 (.s 3) (.m 56), []⟩,
  ⟨some 58, none, .ld none 0 (.m 57), []⟩,
  ⟨some 59, none, .fa 2 (.s 1), []⟩,
  ⟨some 60, none, .ld none 0 (.m 59), []⟩,
  ⟨some 61, none, .bin .leq (.m 58) (.m 60), []⟩])
def rg_book_kind_sizes_21 : VC := (.reg false [
  ⟨some 62, none, .mov (.s 9), []⟩,
  ⟨some 63, none, .fa 1 (.s 1), []⟩,
  ⟨some 64, none, .ld none 0 (.m 63), []⟩,
  ⟨some 65, none, .iarr 4 1 (.s 3) (.m 62), []⟩,
  ⟨none, none, .st 1 (.m 65) (.m 64), []⟩])
def rg_book_kind_sizes_22 : VC := (.reg false [
  ⟨some 49, none, .mov (.m 9), []⟩,
  ⟨some 50, none, .bin .sub (.m 49) (.c (.d (.int .i64 1))), []⟩,
  ⟨some 9, none, .mov (.m 50), []⟩])
def c_book_kind_sizes_L2 : VC := (.seq (.seq rg_book_kind_sizes_18
(.cond (.m 48)
.skip
(.seq (K [9]) (.exit 6))))
(.seq (.block 7
(.seq (.seq rg_book_kind_sizes_19
(.seq rg_book_kind_sizes_20
(.cond (.m 61)
(.seq (K [9]) (.exit 6))
.skip)))
rg_book_kind_sizes_21))
rg_book_kind_sizes_22))
def rg_book_kind_sizes_23 : VC := (.reg false [
  ⟨some 66, none, .bin .add (.m 22) (.c (.d (.int .i64 1))), []⟩,
  ⟨some 22, none, .mov (.m 66), []⟩])
def c_book_kind_sizes_L3 : VC := (.seq rg_book_kind_sizes_8
(.seq (.cond (.m 23)
.skip
(.seq (.seq (K [3, 21, 22]) (F 1)) (.exit 2)))
(.seq (.block 3
(.seq rg_book_kind_sizes_9
(.seq rg_book_kind_sizes_10
(.seq (.seq rg_book_kind_sizes_11
(.block 4
(.seq (.loop c_book_kind_sizes_L1) (K [27, 28, 29]))))
(.seq rg_book_kind_sizes_16
(.seq rg_book_kind_sizes_17
(.block 6
(.seq (.loop c_book_kind_sizes_L2) (K [9])))))))))
rg_book_kind_sizes_23)))
def c_book_kind_sizes : VFunc := ⟨1, [.cell 2 (some 289)],
(.seq rg_book_kind_sizes_0
(.seq rg_book_kind_sizes_1
(.seq (.seq rg_book_kind_sizes_2
(.block 0
(.seq (.loop c_book_kind_sizes_L0) (K [11, 12]))))
(.seq (.seq rg_book_kind_sizes_7
(.block 2
(.seq (.loop c_book_kind_sizes_L3) (.seq (K [3, 21, 22]) (F 1)))))
.ret))))⟩
def rg_slices_SortStableFunc_Lint_0 : VC := (.reg false [
  ⟨some 4, none, .mov (.s 0), []⟩,
  ⟨some 5, none, .mov (.m 0), []⟩,
  ⟨some 6, none, .len (.m 5), [(0, 0)]⟩,
  ⟨some 7, none, .mov (.m 1), []⟩,
  ⟨some 8, none, .calli f_slices_stableCmpFunc_int [.m 4, .m 6, .m 7], []⟩,
  ⟨none, none, .kill [8], []⟩])
def c_slices_SortStableFunc_Lint : VFunc := ⟨2, [],
rg_slices_SortStableFunc_Lint_0⟩
def rg_book_Get_1_0 : VC := (.reg false [
  ⟨some 5, none, .mov (.c (.d (.int .i64 0))), []⟩,
  ⟨none, none, .kill [5], []⟩])
def rg_book_Get_1_1 : VC := (.reg true [
  ⟨some 6, none, .mov (.m 0), []⟩,
  ⟨some 7, none, .iarr 289 1 (.s 2) (.m 6), []⟩,
  ⟨some 8, none, .ld none 0 (.m 7), []⟩,
  ⟨some 9, none, .mov (.m 1), []⟩,
  ⟨some 10, none, .iarr 289 1 (.s 2) (.m 9), []⟩,
  ⟨some 11, none, .ld none 0 (.m 10), []⟩,
  ⟨some 12, none, .call f_cmp_Compare_uint8 [.m 8, .m 11], []⟩,
  ⟨some 5, none, .mov (.m 12), []⟩])
def c_book_Get_1 : VFunc := ⟨3, [.tmp 5],
(.seq rg_book_Get_1_0
(.seq (.seq rg_book_Get_1_1 (K [2]))
.ret))⟩
def rg_cmp_Compare_uint8_0 : VC := (.reg false [
  ⟨some 4, none, .mov (.c (.d (.int .i64 0))), []⟩,
  ⟨none, none, .kill [4], []⟩])
def rg_cmp_Compare_uint8_1 : VC := (.reg false [
  ⟨some 7, none, .mov (.s 0), []⟩,
  ⟨some 8, none, .call f_cmp_isNaN_uint8 [.m 7], []⟩,
  ⟨some 5, none, .mov (.m 8), []⟩])
def rg_cmp_Compare_uint8_2 : VC := (.reg false [
  ⟨some 9, none, .mov (.s 1), []⟩,
  ⟨some 10, none, .call f_cmp_isNaN_uint8 [.m 9], []⟩,
  ⟨some 6, none, .mov (.m 10), []⟩])
def rg_cmp_Compare_uint8_3 : VC := (.reg false [
  ⟨some 11, none, .mov (.m 5), []⟩])
def rg_cmp_Compare_uint8_4 : VC := (.reg false [
  ⟨some 12, none, .mov (.m 6), []⟩])
def rg_cmp_Compare_uint8_5 : VC := (.reg false [
  ⟨some 4, none, .mov (.c (.d (.int .i64 0))), []⟩])
def rg_cmp_Compare_uint8_6 : VC := (.reg false [
  ⟨some 4, none, .mov (.c (.d (.int .i64 (-1)))), []⟩])
def rg_cmp_Compare_uint8_7 : VC := (.reg false [
  ⟨some 13, none, .mov (.m 6), []⟩])
def rg_cmp_Compare_uint8_8 : VC := (.reg false [
  ⟨some 4, none, .mov (.c (.d (.int .i64 1))), []⟩])
def rg_cmp_Compare_uint8_9 : VC := (.reg false [
  ⟨some 14, none, .mov (.s 0), []⟩,
  ⟨some 15, none, .mov (.s 1), []⟩,
  ⟨some 16, none, .bin .lss (.m 14) (.m 15), []⟩])
def rg_cmp_Compare_uint8_10 : VC := (.reg false [
  ⟨some 4, none, .mov (.c (.d (.int .i64 (-1)))), []⟩])
def rg_cmp_Compare_uint8_11 : VC := (.reg false [
  ⟨some 17, none, .mov (.m 0), []⟩,
  ⟨some 18, none, .mov (.m 1), []⟩,
  ⟨some 19, none, .bin .gtr (.m 17) (.m 18), []⟩])
def rg_cmp_Compare_uint8_12 : VC := (.reg false [
  ⟨some 4, none, .mov (.c (.d (.int .i64 1))), []⟩])
def rg_cmp_Compare_uint8_13 : VC := (.reg false [
  ⟨some 4, none, .mov (.c (.d (.int .i64 0))), []⟩])
def c_cmp_Compare_uint8 : VFunc := ⟨2, [.tmp 4],
(.seq rg_cmp_Compare_uint8_0
(.seq rg_cmp_Compare_uint8_1
(.seq rg_cmp_Compare_uint8_2
(.seq (.seq rg_cmp_Compare_uint8_3
(.cond (.m 11)
(.seq (K [0, 1]) (.seq (.seq rg_cmp_Compare_uint8_4
(.cond (.m 12)
(.seq rg_cmp_Compare_uint8_5
.ret)
.skip))
(.seq rg_cmp_Compare_uint8_6
.ret)))
.skip))
(.seq (.seq rg_cmp_Compare_uint8_7
(.cond (.m 13)
(.seq (K [0, 1]) (.seq rg_cmp_Compare_uint8_8
.ret))
.skip))
(.seq (.seq rg_cmp_Compare_uint8_9
(.cond (.m 16)
(.seq (K [0, 1]) (.seq rg_cmp_Compare_uint8_10
.ret))
.skip))
(.seq (.seq rg_cmp_Compare_uint8_11
(.cond (.m 19)
(.seq rg_cmp_Compare_uint8_12
.ret)
.skip))
(.seq rg_cmp_Compare_uint8_13
.ret))))))))⟩
def rg_math_bits_Len64_0 : VC := (.reg false [
  ⟨some 2, none, .mov (.c (.d (.int .i64 0))), []⟩])
def rg_math_bits_Len64_1 : VC := (.reg false [
  ⟨some 3, none, .mov (.s 0), []⟩,
  ⟨some 4, none, .bin .geq (.m 3) (.c (.d (.int .u64 4294967296))), []⟩])
def rg_math_bits_Len64_2 : VC := (.reg false [
  ⟨some 5, none, .mov (.m 0), []⟩,
  ⟨some 6, none, .bin .shr (.m 5) (.c (.d (.int .u64 32))), []⟩,
  ⟨some 0, none, .mov (.m 6), []⟩])
def rg_math_bits_Len64_3 : VC := (.reg false [
  ⟨some 2, none, .mov (.c (.d (.int .i64 32))), []⟩])
def rg_math_bits_Len64_4 : VC := (.reg false [
  ⟨some 7, none, .mov (.s 0), []⟩,
  ⟨some 8, none, .bin .geq (.m 7) (.c (.d (.int .u64 65536))), []⟩])
def rg_math_bits_Len64_5 : VC := (.reg false [
  ⟨some 9, none, .mov (.m 0), []⟩,
  ⟨some 10, none, .bin .shr (.m 9) (.c (.d (.int .u64 16))), []⟩,
  ⟨some 0, none, .mov (.m 10), []⟩])
def rg_math_bits_Len64_6 : VC := (.reg false [
  ⟨some 11, none, .mov (.m 2), []⟩,
  ⟨some 12, none, .bin .add (.m 11) (.c (.d (.int .i64 16))), []⟩,
  ⟨some 2, none, .mov (.m 12), []⟩])
def rg_math_bits_Len64_7 : VC := (.reg false [
  ⟨some 13, none, .mov (.s 0), []⟩,
  ⟨some 14, none, .bin .geq (.m 13) (.c (.d (.int .u64 256))), []⟩])
def rg_math_bits_Len64_8 : VC := (.reg false [
  ⟨some 15, none, .mov (.m 0), []⟩,
  ⟨some 16, none, .bin .shr (.m 15) (.c (.d (.int .u64 8))), []⟩,
  ⟨some 0, none, .mov (.m 16), []⟩])
def rg_math_bits_Len64_9 : VC := (.reg false [
  ⟨some 17, none, .mov (.m 2), []⟩,
  ⟨some 18, none, .bin .add (.m 17) (.c (.d (.int .i64 8))), []⟩,
  ⟨some 2, none, .mov (.m 18), []⟩])
def rg_math_bits_Len64_10 : VC := (.reg false [
  ⟨some 19, none, .mov (.m 2), []⟩,
  ⟨some 20, none, .mov (.m 0), []⟩,
  ⟨some 21, none, .conv .u8 (.m 20), []⟩,
  ⟨some 22, none, .ixs (.c (.d (.str [0,1,2,2,3,3,3,3,4,4,4,4,4,4,4,4,5,5,5,5,5,5,5,5,5,5,5,5,5,5,5,5,6,6,6,6,6,6,6,6,6,6,6,6,6,6,6,6,6,6,6,6,6,6,6,6,6,6,6,6,6,6,6,6,7,7,7,7,7,7,7,7,7,7,7,7,7,7,7,7,7,7,7,7,7,7,7,7,7,7,7,7,7,7,7,7,7,7,7,7,7,7,7,7,7,7,7,7,7,7,7,7,7,7,7,7,7,7,7,7,7,7,7,7,7,7,7,7,8,8,8,8,8,8,8,8,8,8,8,8,8,8,8,8,8,8,8,8,8,8,8,8,8,8,8,8,8,8,8,8,8,8,8,8,8,8,8,8,8,8,8,8,8,8,8,8,8,8,8,8,8,8,8,8,8,8,8,8,8,8,8,8,8,8,8,8,8,8,8,8,8,8,8,8,8,8,8,8,8,8,8,8,8,8,8,8,8,8,8,8,8,8,8,8,8,8,8,8,8,8,8,8,8,8,8,8,8,8,8,8,8,8,8,8,8,8,8,8,8,8,8,8,8,8,8,8]))) (.m 21), []⟩,
  ⟨some 23, none, .conv .i64 (.m 22), []⟩,
  ⟨some 24, none, .bin .add (.m 19) (.m 23), []⟩,
  ⟨some 2, none, .mov (.m 24), []⟩])
def c_math_bits_Len64 : VFunc := ⟨1, [.tmp 2],
(.seq rg_math_bits_Len64_0
(.seq (.seq rg_math_bits_Len64_1
(.cond (.m 4)
(.seq (K [2]) (.seq rg_math_bits_Len64_2
rg_math_bits_Len64_3))
.skip))
(.seq (.seq rg_math_bits_Len64_4
(.cond (.m 8)
(.seq rg_math_bits_Len64_5
rg_math_bits_Len64_6)
.skip))
(.seq (.seq rg_math_bits_Len64_7
(.cond (.m 14)
(.seq rg_math_bits_Len64_8
rg_math_bits_Len64_9)
.skip))
(.seq rg_math_bits_Len64_10
.ret)))))⟩
def rg_pick_lines_1_0 : VC := (.reg false [
  ⟨some 16, none, .ld none 0 (.m 1), []⟩,
  ⟨some 17, none, .fa 0 (.s 2), []⟩,
  ⟨some 18, none, .ld none 0 (.m 17), []⟩,
  ⟨some 19, none, .bin .eql (.m 18) (.c (.d (.int .u8 2))), []⟩,
  ⟨some 20, none, .call f_band_Offsets [.m 16, .m 19], []⟩,
  ⟨some 15, none, .mov (.m 20), []⟩,
  ⟨some 21, none, .ext 15 true 0, []⟩,
  ⟨some 22, none, .ext 15 false 1, []⟩,
  ⟨some 6, none, .mov (.m 21), []⟩,
  ⟨some 7, none, .mov (.m 22), []⟩,
  ⟨none, none, .kill [7, 15], []⟩])
def rg_pick_lines_1_1 : VC := (.reg false [
  ⟨some 24, none, .ld (some 4) 0 (.s 2), []⟩,
  ⟨some 25, none, .call f_info_Windows [.m 24], []⟩,
  ⟨some 23, none, .mov (.m 25), []⟩,
  ⟨some 26, none, .ext 23 false 0, []⟩,
  ⟨some 27, none, .ext 23 false 1, []⟩,
  ⟨some 8, none, .mov (.m 26), []⟩,
  ⟨some 9, none, .mov (.m 27), []⟩,
  ⟨none, none, .kill [9, 23], []⟩])
def rg_pick_lines_1_2 : VC := (.reg false [
  ⟨some 28, none, .fa 2 (.s 2), []⟩,
  ⟨some 29, none, .ld none 0 (.m 28), []⟩,
  ⟨some 30, none, .mov (.c (.d (.int .i64 0))), []⟩])
def rg_pick_lines_1_3 : VC := (.reg false [
  ⟨some 31, none, .bin .lss (.s 30) (.s 29), []⟩])
def rg_pick_lines_1_4 : VC := (.reg false [
  ⟨some 32, none, .mov (.s 30), []⟩,
  ⟨some 10, none, .mov (.m 32), []⟩])
def rg_pick_lines_1_5 : VC := (.reg false [
  ⟨some 11, none, .mov (.c (.nl)), []⟩])
def rg_pick_lines_1_6 : VC := (.reg false [
  ⟨some 33, none, .mov (.s 8), []⟩,
  ⟨some 34, none, .mov (.c (.d (.int .i64 0))), []⟩])
def rg_pick_lines_1_7 : VC := (.reg false [
  ⟨some 35, none, .bin .lss (.s 34) (.s 33), []⟩])
def rg_pick_lines_1_8 : VC := (.reg false [
  ⟨some 36, none, .mov (.s 34), []⟩,
  ⟨some 12, none, .mov (.m 36), []⟩])
def rg_pick_lines_1_9 : VC := (.reg false [
  ⟨some 38, none, .ld (some 4) 0 (.s 2), []⟩,
  ⟨some 39, none, .mov (.s 12), []⟩,
  ⟨some 40, none, .call f_info_Group [.m 38, .m 39], []⟩,
  ⟨some 37, none, .mov (.m 40), []⟩,
  ⟨some 41, none, .ext 37 false 0, []⟩,
  ⟨some 42, none, .ext 37 false 1, []⟩,
  ⟨some 13, none, .mov (.m 41), []⟩,
  ⟨some 14, none, .mov (.m 42), []⟩,
  ⟨none, none, .kill [14, 37], []⟩])
def rg_pick_lines_1_10 : VC := (.reg false [
  ⟨some 43, none, .mov (.m 13), []⟩,
  ⟨some 44, none, .ld none 0 (.s 3), []⟩,
  ⟨some 45, none, .bin .eql (.m 43) (.m 44), []⟩])
def rg_pick_lines_1_11 : VC := (.regP [0, 1, 2, 3, 4, 5, 6, 7, 8, 9, 10, 11, 12, 13, 14, 15, 16, 17, 18, 19] [0, 1, 2, 3, 4, 5, 6, 7, 8, 9, 10, 11, 12, 13, 14, 15, 16, 17, 18, 19] [] [
  ⟨some 46, none, .mov (.m 11), []⟩,
  ⟨some 47, none, .ld none 0 (.s 4), []⟩,
  ⟨some 48, none, .mov (.s 12), []⟩,
  ⟨some 49, none, .bin .mul (.c (.d (.int .i64 32))) (.m 48), []⟩,
  ⟨some 50, none, .mov (.s 6), []⟩,
  ⟨some 51, none, .mov (.s 10), []⟩,
  ⟨some 52, none, .ia 1 (.m 50) (.m 51), []⟩,
  ⟨some 53, none, .ld none 0 (.m 52), []⟩,
  ⟨some 54, none, .bin .add (.m 49) (.m 53), []⟩,
  ⟨some 55, none, .mov (.s 12), []⟩,
  ⟨some 56, none, .bin .mul (.c (.d (.int .i64 32))) (.m 55), []⟩,
  ⟨some 57, none, .mov (.s 6), []⟩,
  ⟨some 58, none, .mov (.s 10), []⟩,
  ⟨some 59, none, .bin .add (.m 58) (.c (.d (.int .i64 1))), []⟩,
  ⟨some 60, none, .ia 1 (.m 57) (.m 59), []⟩,
  ⟨some 61, none, .ld none 0 (.m 60), []⟩,
  ⟨some 62, none, .bin .add (.m 56) (.m 61), []⟩,
  ⟨some 63, none, .slice 1 (.m 47) (some (.m 54)) (some (.m 62)) none, []⟩,
  ⟨some 64, none, .app 1 (.m 46) (.m 63), []⟩,
  ⟨some 11, none, .mov (.m 64), []⟩])
def rg_pick_lines_1_12 : VC := (.reg false [
  ⟨some 65, none, .bin .add (.m 34) (.c (.d (.int .i64 1))), []⟩,
  ⟨some 34, none, .mov (.m 65), []⟩])
def c_pick_lines_1_L0 : VC := (.seq rg_pick_lines_1_7
(.seq (.cond (.m 35)
.skip
(.seq (K [33, 34]) (.exit 2)))
(.seq (.block 3
(.seq rg_pick_lines_1_8
(.seq rg_pick_lines_1_9
(.seq rg_pick_lines_1_10
(.cond (.m 45)
(.seq rg_pick_lines_1_11 (K [12]))
(.seq (K [12]) .skip))))))
rg_pick_lines_1_12)))
def rg_pick_lines_1_13 : VC := (.reg false [
  ⟨some 66, none, .mov (.s 0), []⟩,
  ⟨some 67, none, .mov (.m 10), []⟩,
  ⟨some 68, none, .mov (.m 11), []⟩,
  ⟨some 69, none, .callv (.m 66) [.m 67, .m 68], []⟩,
  ⟨some 70, none, .un .not (.m 69), []⟩])
def rg_pick_lines_1_14 : VC := (.reg false [
  ⟨some 71, none, .bin .add (.m 30) (.c (.d (.int .i64 1))), []⟩,
  ⟨some 30, none, .mov (.m 71), []⟩])
def c_pick_lines_1_L1 : VC := (.seq rg_pick_lines_1_3
(.seq (.cond (.m 31)
.skip
(.seq (K [0, 2, 3, 4, 6, 8, 29, 30]) (.exit 0)))
(.seq (.block 1
(.seq rg_pick_lines_1_4
(.seq rg_pick_lines_1_5
(.seq (.seq rg_pick_lines_1_6
(.block 2
(.seq (.loop c_pick_lines_1_L0) (K [33, 34]))))
(.seq rg_pick_lines_1_13
(.cond (.m 70)
(.seq (K [0, 2, 3, 4, 6, 8, 29, 30]) .ret)
.skip))))))
rg_pick_lines_1_14)))
def c_pick_lines_1 : VFunc := ⟨5, [],
(.seq rg_pick_lines_1_0
(.seq rg_pick_lines_1_1
(.seq rg_pick_lines_1_2
(.block 0
(.seq (.loop c_pick_lines_1_L1) (K [0, 2, 3, 4, 6, 8, 29, 30]))))))⟩
def rg_info_Group_0 : VC := (.reg false [
  ⟨some 2, none, .box (.m 0), []⟩,
  ⟨some 4, none, .mov (.c (.d (.int .i64 0))), []⟩,
  ⟨some 5, none, .mov (.c (.d (.int .i64 0))), []⟩,
  ⟨none, none, .kill [4, 5], []⟩])
def rg_info_Group_1 : VC := (.reg false [
  ⟨some 11, none, .ld (some 4) 0 (.s 2), []⟩,
  ⟨some 12, none, .call f_info_Windows [.m 11], []⟩,
  ⟨some 10, none, .mov (.m 12), []⟩,
  ⟨some 13, none, .ext 10 false 0, []⟩,
  ⟨some 14, none, .ext 10 false 1, []⟩,
  ⟨some 6, none, .mov (.m 13), []⟩,
  ⟨some 7, none, .mov (.m 14), []⟩,
  ⟨none, none, .kill [10], []⟩])
def rg_info_Group_2 : VC := (.reg false [
  ⟨some 15, none, .mov (.s 7), []⟩,
  ⟨some 16, none, .bin .neq (.m 15) (.c (.d (.int .i64 0))), []⟩])
def rg_info_Group_3 : VC := (.reg false [
  ⟨some 17, none, .mov (.m 7), []⟩,
  ⟨some 4, none, .mov (.c (.d (.int .i64 0))), []⟩,
  ⟨some 5, none, .mov (.m 17), []⟩])
def rg_info_Group_4 : VC := (.reg false [
  ⟨some 18, none, .mov (.s 1), []⟩,
  ⟨some 19, none, .bin .lss (.m 18) (.c (.d (.int .i64 0))), []⟩,
  ⟨some 20, none, .mov (.m 19), []⟩,
  ⟨some 21, (some (20, false)), .mov (.s 1), []⟩,
  ⟨some 22, (some (20, false)), .mov (.s 6), []⟩,
  ⟨some 23, (some (20, false)), .bin .geq (.s 21) (.s 22), []⟩,
  ⟨some 24, none, .pick (.m 20) (.c (.d (.bool true))) (.s 23), []⟩,
  ⟨none, none, .kill [6, 21, 22, 23], []⟩])
def rg_info_Group_5 : VC := (.reg false [
  ⟨some 4, none, .mov (.c (.d (.int .i64 0))), []⟩,
  ⟨some 5, none, .mov (.c (.d (.int .i64 2))), []⟩])
def rg_info_Group_6 : VC := (.reg false [
  ⟨some 8, none, .mov (.c (.d (.int .i64 0))), []⟩])
def rg_info_Group_7 : VC := (.reg false [
  ⟨some 25, none, .mov (.m 1), []⟩,
  ⟨some 9, none, .mov (.m 25), []⟩])
def rg_info_Group_8 : VC := (.reg false [
  ⟨some 26, none, .mov (.s 9), []⟩,
  ⟨some 27, none, .fa 3 (.s 2), []⟩,
  ⟨some 28, none, .ld none 0 (.m 27), []⟩,
  ⟨some 29, none, .mov (.s 8), []⟩,
  ⟨some 30, none, .ia 1 (.m 28) (.m 29), []⟩,
  ⟨some 31, none, .ld none 0 (.m 30), []⟩,
  ⟨some 32, none, .bin .geq (.m 26) (.m 31), []⟩])
def rg_info_Group_9 : VC := (.reg false [
  ⟨some 35, none, .mov (.m 9), []⟩,
  ⟨some 36, none, .fa 3 (.s 2), []⟩,
  ⟨some 37, none, .ld none 0 (.m 36), []⟩,
  ⟨some 38, none, .mov (.s 8), []⟩,
  ⟨some 39, none, .ia 1 (.m 37) (.m 38), []⟩,
  ⟨some 40, none, .ld none 0 (.m 39), []⟩,
  ⟨some 41, none, .bin .sub (.m 35) (.m 40), []⟩,
  ⟨some 9, none, .mov (.m 41), []⟩])
def rg_info_Group_10 : VC := (.reg false [
  ⟨some 33, none, .mov (.m 8), []⟩,
  ⟨some 34, none, .bin .add (.m 33) (.c (.d (.int .i64 1))), []⟩,
  ⟨some 8, none, .mov (.m 34), []⟩])
def c_info_Group_L0 : VC := (.seq (.seq rg_info_Group_8
(.cond (.m 32)
.skip
(.seq (K [2, 9]) (.exit 0))))
(.seq (.block 1
rg_info_Group_9)
rg_info_Group_10))
def rg_info_Group_11 : VC := (.reg false [
  ⟨some 42, none, .mov (.m 8), []⟩,
  ⟨some 4, none, .mov (.m 42), []⟩,
  ⟨some 5, none, .mov (.c (.d (.int .i64 0))), []⟩])
def c_info_Group : VFunc := ⟨2, [.tmp 4, .tmp 5],
(.seq rg_info_Group_0
(.seq rg_info_Group_1
(.seq (.seq rg_info_Group_2
(.cond (.m 16)
(.seq (K [1, 2, 6]) (.seq rg_info_Group_3
.ret))
(.seq (K [7]) .skip)))
(.seq (.seq rg_info_Group_4
(.cond (.m 24)
(.seq (K [1, 2]) (.seq rg_info_Group_5
.ret))
.skip))
(.seq rg_info_Group_6
(.seq (.seq rg_info_Group_7
(.block 0
(.seq (.loop c_info_Group_L0) (K [2, 9]))))
(.seq rg_info_Group_11
.ret)))))))⟩
def rg_pick_shelf_cost_0 : VC := (.reg false [
  ⟨some 3, none, .box (.m 0), []⟩,
  ⟨some 4, none, .box (.m 1), []⟩,
  ⟨some 6, none, .alloc [.d (.int .i64 0)], []⟩])
def rg_pick_shelf_cost_1 : VC := (.reg false [
  ⟨some 12, none, .ld none 0 (.s 4), []⟩,
  ⟨some 13, none, .bin .eql (.m 12) (.c (.d (.int .i64 0))), []⟩,
  ⟨some 14, none, .mov (.m 13), []⟩,
  ⟨some 15, (some (14, false)), .ld none 0 (.s 4), []⟩,
  ⟨some 16, (some (14, false)), .bin .gtr (.s 15) (.c (.d (.int .i64 11))), []⟩,
  ⟨some 17, none, .pick (.m 14) (.c (.d (.bool true))) (.s 16), []⟩,
  ⟨none, none, .kill [15, 16], []⟩])
def rg_pick_shelf_cost_2 : VC := (.reg false [
  ⟨some 18, none, .mov (.m 2), []⟩,
  ⟨some 19, none, .call f_pick_odd [.m 18, .c (.d (.int .i64 0))], []⟩])
def rg_pick_shelf_cost_3 : VC := (.reg false [
  ⟨none, none, .st 1 (.s 6) (.c (.d (.int .i64 (-1)))), []⟩])
def rg_pick_shelf_cost_4 : VC := (.reg false [
  ⟨none, none, .st 1 (.s 6) (.c (.d (.int .i64 0))), []⟩])
def rg_pick_shelf_cost_5 : VC := (.regP [0, 1, 2, 3, 4] [0, 1, 2, 3, 4] [] [
  ⟨some 20, none, .call f_pick_kinds [], []⟩,
  ⟨some 21, none, .ld none 0 (.s 4), []⟩,
  ⟨some 22, none, .ix 12 4 true (.m 20) (.m 21), []⟩,
  ⟨some 7, none, .alloc [.d (.int .i64 0), .d (.int .i64 0), .d (.int .i64 0), .d (.int .i64 0)], []⟩,
  ⟨none, none, .st 4 (.s 7) (.m 22), []⟩])
def rg_pick_shelf_cost_6 : VC := (.reg false [
  ⟨some 23, none, .mov (.s 2), []⟩,
  ⟨some 24, none, .fa 3 (.s 7), []⟩,
  ⟨some 25, none, .ld none 0 (.m 24), []⟩,
  ⟨some 26, none, .call f_pick_odd [.m 23, .m 25], []⟩])
def rg_pick_shelf_cost_7 : VC := (.reg false [
  ⟨none, none, .st 1 (.s 6) (.c (.d (.int .i64 (-1)))), []⟩])
def rg_pick_shelf_cost_8 : VC := (.reg false [
  ⟨some 27, none, .mov (.m 2), []⟩,
  ⟨some 28, none, .fa 0 (.s 7), []⟩,
  ⟨some 29, none, .ld none 0 (.m 28), []⟩,
  ⟨some 30, none, .calli f_slices_Chunk_Lint [.m 27, .m 29], []⟩])
def rg_pick_shelf_cost_9 : VC := (.reg false [
  ⟨some 8, none, .mov (.m 31), []⟩,
  ⟨none, none, .kill [30], []⟩])
def rg_pick_shelf_cost_10 : VC := (.reg false [
  ⟨some 9, none, .mov (.c (.d (.int .i64 0))), []⟩])
def rg_pick_shelf_cost_11 : VC := (.reg false [
  ⟨some 32, none, .mov (.m 8), []⟩,
  ⟨some 33, none, .len (.s 32), []⟩,
  ⟨some 34, none, .mov (.c (.d (.int .i64 0))), []⟩])
def rg_pick_shelf_cost_12 : VC := (.reg false [
  ⟨some 35, none, .bin .lss (.s 34) (.s 33), []⟩])
def rg_pick_shelf_cost_13 : VC := (.reg false [
  ⟨some 36, none, .ia 1 (.s 32) (.s 34), []⟩,
  ⟨some 37, none, .ld none 0 (.m 36), []⟩,
  ⟨some 11, none, .mov (.m 37), []⟩])
def rg_pick_shelf_cost_14 : VC := (.reg false [
  ⟨some 38, none, .fa 1 (.s 7), []⟩,
  ⟨some 39, none, .ld none 0 (.m 38), []⟩,
  ⟨some 40, none, .bin .eql (.m 39) (.c (.d (.int .i64 0))), []⟩])
def rg_pick_shelf_cost_15 : VC := (.reg false [
  ⟨some 41, none, .mov (.m 11), []⟩,
  ⟨some 42, none, .call f_pick_size [.m 41], []⟩,
  ⟨some 11, none, .mov (.m 42), []⟩])
def rg_pick_shelf_cost_16 : VC := (.reg false [
  ⟨some 43, none, .mov (.s 11), []⟩,
  ⟨some 44, none, .bin .gtr (.m 43) (.c (.d (.int .i64 0))), []⟩])
def rg_pick_shelf_cost_17 : VC := (.reg false [
  ⟨some 45, none, .ld none 0 (.s 6), []⟩,
  ⟨some 46, none, .bin .add (.m 45) (.c (.d (.int .i64 1))), []⟩,
  ⟨none, none, .st 1 (.s 6) (.m 46), []⟩])
def rg_pick_shelf_cost_18 : VC := (.reg false [
  ⟨some 47, none, .mov (.s 11), []⟩,
  ⟨some 48, none, .bin .gtr (.m 47) (.c (.d (.int .i64 15))), []⟩])
def rg_pick_shelf_cost_19 : VC := (.regP [0, 1, 2, 3, 4, 5, 6, 7, 8] [0, 1, 2, 3, 4, 5, 6, 7, 8] [] [
  ⟨some 49, none, .ld none 0 (.s 6), []⟩,
  ⟨some 50, none, .mov (.s 11), []⟩,
  ⟨some 51, none, .conv .u64 (.m 50), []⟩,
  ⟨some 52, none, .call f_math_bits_Len [.m 51], []⟩,
  ⟨some 53, none, .bin .sub (.m 52) (.c (.d (.int .i64 5))), []⟩,
  ⟨some 54, none, .bin .mul (.c (.d (.int .i64 2))) (.m 53), []⟩,
  ⟨some 55, none, .bin .add (.m 54) (.c (.d (.int .i64 5))), []⟩,
  ⟨some 56, none, .bin .add (.m 49) (.m 55), []⟩,
  ⟨none, none, .st 1 (.s 6) (.m 56), []⟩])
def rg_pick_shelf_cost_20 : VC := (.reg false [
  ⟨some 57, none, .mov (.m 9), []⟩,
  ⟨some 58, none, .fa 2 (.s 7), []⟩,
  ⟨some 59, none, .ld none 0 (.m 58), []⟩,
  ⟨some 60, none, .fa 1 (.s 7), []⟩,
  ⟨some 61, none, .ld none 0 (.m 60), []⟩,
  ⟨some 62, none, .bin .sub (.m 59) (.m 61), []⟩,
  ⟨some 63, none, .bin .add (.m 62) (.c (.d (.int .i64 1))), []⟩,
  ⟨some 64, none, .bin .mul (.m 57) (.m 63), []⟩,
  ⟨some 65, none, .mov (.m 11), []⟩,
  ⟨some 66, none, .fa 2 (.s 7), []⟩,
  ⟨some 67, none, .ld none 0 (.m 66), []⟩,
  ⟨some 68, none, .minmax false [.m 65, .m 67], []⟩,
  ⟨some 69, none, .bin .add (.m 64) (.m 68), []⟩,
  ⟨some 70, none, .fa 1 (.s 7), []⟩,
  ⟨some 71, none, .ld none 0 (.m 70), []⟩,
  ⟨some 72, none, .bin .sub (.m 69) (.m 71), []⟩,
  ⟨some 9, none, .mov (.m 72), []⟩])
def rg_pick_shelf_cost_21 : VC := (.reg false [
  ⟨some 73, none, .bin .add (.m 34) (.c (.d (.int .i64 1))), []⟩,
  ⟨some 34, none, .mov (.m 73), []⟩])
def c_pick_shelf_cost_L0 : VC := (.seq rg_pick_shelf_cost_12
(.seq (.cond (.m 35)
.skip
(.seq (K [7, 32, 33, 34]) (.exit 2)))
(.seq (.block 3
(.seq rg_pick_shelf_cost_13
(.seq (.seq rg_pick_shelf_cost_14
(.cond (.m 40)
(.seq rg_pick_shelf_cost_15
(.seq (.seq rg_pick_shelf_cost_16
(.cond (.m 44)
rg_pick_shelf_cost_17
.skip))
(.seq rg_pick_shelf_cost_18
(.cond (.m 48)
rg_pick_shelf_cost_19
.skip))))
.skip))
rg_pick_shelf_cost_20)))
rg_pick_shelf_cost_21)))
def rg_pick_shelf_cost_22 : VC := (.regP [0, 1, 2, 3, 4, 5, 6, 7, 8, 9, 10] [0, 1, 2, 3, 4, 5, 6, 7, 8, 9, 10] [] [
  ⟨some 74, none, .ld none 0 (.s 6), []⟩,
  ⟨some 75, none, .ld none 0 (.s 3), []⟩,
  ⟨some 76, none, .ld none 0 (.s 4), []⟩,
  ⟨some 77, none, .nilck (.m 75), []⟩,
  ⟨some 78, none, .iarr 12 1 (.m 77) (.m 76), []⟩,
  ⟨some 79, none, .ld none 0 (.m 78), []⟩,
  ⟨some 80, none, .mov (.m 9), []⟩,
  ⟨some 81, none, .ia 1 (.m 79) (.m 80), []⟩,
  ⟨some 82, none, .ld none 0 (.m 81), []⟩,
  ⟨some 83, none, .bin .add (.m 74) (.m 82), []⟩,
  ⟨none, none, .st 1 (.s 6) (.m 83), []⟩])
def c_pick_shelf_cost_A0 : VC := rg_pick_shelf_cost_9
def c_pick_shelf_cost_B0 : VC := (.block 1
(.seq rg_pick_shelf_cost_10
(.seq (.seq rg_pick_shelf_cost_11
(.block 2
(.seq (.loop c_pick_shelf_cost_L0) (K [7, 32, 33, 34]))))
(.seq rg_pick_shelf_cost_22 (K [3, 4, 6])))))
def c_pick_shelf_cost : VFunc := ⟨3, [.cell 6 none],
(.seq rg_pick_shelf_cost_0
(.seq (.seq rg_pick_shelf_cost_1
(.cond (.m 17)
(.seq (.seq (F 3) (F 4)) (.seq (.seq rg_pick_shelf_cost_2
(.cond (.m 19)
(.seq rg_pick_shelf_cost_3
.ret)
.skip))
(.seq rg_pick_shelf_cost_4
.ret)))
.skip))
(.seq rg_pick_shelf_cost_5
(.seq (.seq rg_pick_shelf_cost_6
(.cond (.m 26)
(.seq (.seq (.seq (.seq (K [2]) (F 3)) (F 4)) (F 7)) (.seq rg_pick_shelf_cost_7
.ret))
.skip))
(.seq (.seq rg_pick_shelf_cost_8
(.block 0
(.seq (.rangeF (.s 30) [31] c_pick_shelf_cost_A0 c_pick_shelf_cost_B0) (.seq (.seq (.seq (F 3) (F 4)) (F 7)) (F 30)))))
.ret)))))⟩
def rg_pick_header_0 : VC := (.reg false [
  ⟨some 2, none, .box (.m 0), []⟩,
  ⟨some 4, none, .mov (.c (.d (.int .i64 0))), []⟩,
  ⟨none, none, .kill [4], []⟩])
def rg_pick_header_1 : VC := (.reg false [
  ⟨some 5, none, .fa 0 (.s 2), []⟩,
  ⟨some 6, none, .ld none 0 (.m 5), []⟩,
  ⟨some 7, none, .bin .eql (.m 6) (.c (.d (.int .u8 2))), []⟩])
def rg_pick_header_2 : VC := (.reg false [
  ⟨some 8, none, .mov (.m 1), []⟩,
  ⟨some 9, none, .bin .quo (.m 8) (.c (.d (.int .i64 7))), []⟩,
  ⟨some 10, none, .bin .add (.m 9) (.c (.d (.int .i64 1))), []⟩,
  ⟨some 11, none, .bin .mul (.c (.d (.int .i64 3))) (.m 10), []⟩,
  ⟨some 12, none, .bin .add (.c (.d (.int .i64 4))) (.m 11), []⟩,
  ⟨some 4, none, .mov (.m 12), []⟩])
def rg_pick_header_3 : VC := (.reg false [
  ⟨some 13, none, .mov (.m 1), []⟩,
  ⟨some 14, none, .bin .quo (.m 13) (.c (.d (.int .i64 31))), []⟩,
  ⟨some 15, none, .bin .add (.m 14) (.c (.d (.int .i64 1))), []⟩,
  ⟨some 16, none, .bin .mul (.c (.d (.int .i64 5))) (.m 15), []⟩,
  ⟨some 17, none, .bin .add (.c (.d (.int .i64 4))) (.m 16), []⟩,
  ⟨some 4, none, .mov (.m 17), []⟩])
def c_pick_header : VFunc := ⟨2, [.tmp 4],
(.seq rg_pick_header_0
(.seq (.seq (.seq rg_pick_header_1 (F 2))
(.cond (.m 7)
(.seq rg_pick_header_2
.ret)
.skip))
(.seq rg_pick_header_3
.ret)))⟩
def rg_info_some_0 : VC := (.reg false [
  ⟨some 1, none, .box (.m 0), []⟩,
  ⟨some 2, none, .mov (.c (.d (.bool false))), []⟩,
  ⟨none, none, .kill [2], []⟩])
def rg_info_some_1 : VC := (.reg false [
  ⟨some 3, none, .ld (some 4) 1 (.m 1), []⟩,
  ⟨some 4, none, .call f_info_Check [.c (.d (.int .i64 11)), .m 3], []⟩,
  ⟨some 5, none, .bin .eql (.m 4) (.c (.d (.int .i64 0))), []⟩,
  ⟨some 2, none, .mov (.m 5), []⟩])
def c_info_some : VFunc := ⟨1, [.tmp 2],
(.seq rg_info_some_0
(.seq rg_info_some_1
.ret))⟩
def rg_slices_Chunk_Lint_1_0 : VC := (.reg false [
  ⟨some 4, none, .mov (.c (.d (.int .i64 0))), []⟩])
def rg_slices_Chunk_Lint_1_1 : VC := (.reg false [
  ⟨some 6, none, .mov (.s 4), []⟩,
  ⟨some 7, none, .ld none 0 (.s 1), []⟩,
  ⟨some 8, none, .len (.m 7), []⟩,
  ⟨some 9, none, .bin .lss (.m 6) (.m 8), []⟩])
def rg_slices_Chunk_Lint_1_2 : VC := (.reg true [
  ⟨some 13, none, .ld none 0 (.s 2), []⟩,
  ⟨some 14, none, .ld none 0 (.s 1), []⟩,
  ⟨some 15, none, .mov (.s 4), []⟩,
  ⟨some 16, none, .slice 1 (.m 14) (some (.m 15)) none none, []⟩,
  ⟨some 17, none, .len (.m 16), []⟩,
  ⟨some 18, none, .minmax false [.m 13, .m 17], []⟩,
  ⟨some 5, none, .mov (.m 18), []⟩])
def rg_slices_Chunk_Lint_1_3 : VC := (.reg false [
  ⟨some 19, none, .mov (.s 0), []⟩,
  ⟨some 20, none, .ld none 0 (.s 1), []⟩,
  ⟨some 21, none, .mov (.s 4), []⟩,
  ⟨some 22, none, .mov (.s 4), []⟩,
  ⟨some 23, none, .mov (.s 5), []⟩,
  ⟨some 24, none, .bin .add (.m 22) (.m 23), []⟩,
  ⟨some 25, none, .mov (.s 4), []⟩,
  ⟨some 26, none, .mov (.m 5), []⟩,
  ⟨some 27, none, .bin .add (.m 25) (.m 26), []⟩,
  ⟨some 28, none, .slice 1 (.m 20) (some (.m 21)) (some (.m 24)) (some (.m 27)), []⟩,
  ⟨some 29, none, .callv (.m 19) [.m 28], []⟩,
  ⟨some 30, none, .un .not (.m 29), []⟩])
def rg_slices_Chunk_Lint_1_4 : VC := (.reg false [
  ⟨some 10, none, .mov (.m 4), []⟩,
  ⟨some 11, none, .ld none 0 (.s 2), []⟩,
  ⟨some 12, none, .bin .add (.m 10) (.m 11), []⟩,
  ⟨some 4, none, .mov (.m 12), []⟩])
def c_slices_Chunk_Lint_1_L0 : VC := (.seq (.seq rg_slices_Chunk_Lint_1_1
(.cond (.m 9)
.skip
(.seq (K [0, 1, 2, 4]) (.exit 0))))
(.seq (.block 1
(.seq rg_slices_Chunk_Lint_1_2
(.seq rg_slices_Chunk_Lint_1_3
(.cond (.m 30)
(.seq (K [0, 1, 2, 4]) .ret)
.skip))))
rg_slices_Chunk_Lint_1_4))
def c_slices_Chunk_Lint_1 : VFunc := ⟨3, [],
(.seq rg_slices_Chunk_Lint_1_0
(.block 0
(.seq (.loop c_slices_Chunk_Lint_1_L0) (K [0, 1, 2, 4]))))⟩
def rg_slices_IndexFunc_Lint_0 : VC := (.reg false [
  ⟨some 4, none, .mov (.c (.d (.int .i64 0))), []⟩,
  ⟨none, none, .kill [4], []⟩])
def rg_slices_IndexFunc_Lint_1 : VC := (.reg false [
  ⟨some 6, none, .mov (.s 0), []⟩,
  ⟨some 7, none, .len (.m 6), []⟩,
  ⟨some 8, none, .mov (.c (.d (.int .i64 0))), []⟩])
def rg_slices_IndexFunc_Lint_2 : VC := (.reg false [
  ⟨some 9, none, .bin .lss (.s 8) (.s 7), []⟩])
def rg_slices_IndexFunc_Lint_3 : VC := (.reg false [
  ⟨some 10, none, .mov (.s 8), []⟩,
  ⟨some 5, none, .mov (.m 10), []⟩])
def rg_slices_IndexFunc_Lint_4 : VC := (.reg false [
  ⟨some 11, none, .mov (.s 1), []⟩,
  ⟨some 12, none, .mov (.s 0), []⟩,
  ⟨some 13, none, .mov (.s 5), []⟩,
  ⟨some 14, none, .ia 1 (.m 12) (.m 13), []⟩,
  ⟨some 15, none, .ld none 0 (.m 14), []⟩,
  ⟨some 16, none, .callv (.m 11) [.m 15], []⟩])
def rg_slices_IndexFunc_Lint_5 : VC := (.reg false [
  ⟨some 17, none, .mov (.m 5), []⟩,
  ⟨some 4, none, .mov (.m 17), []⟩])
def rg_slices_IndexFunc_Lint_6 : VC := (.reg false [
  ⟨some 18, none, .bin .add (.m 8) (.c (.d (.int .i64 1))), []⟩,
  ⟨some 8, none, .mov (.m 18), []⟩])
def c_slices_IndexFunc_Lint_L0 : VC := (.seq rg_slices_IndexFunc_Lint_2
(.seq (.cond (.m 9)
.skip
(.seq (K [0, 1, 7, 8]) (.exit 0)))
(.seq (.block 1
(.seq rg_slices_IndexFunc_Lint_3
(.seq rg_slices_IndexFunc_Lint_4
(.cond (.m 16)
(.seq (K [0, 1, 7, 8]) (.seq rg_slices_IndexFunc_Lint_5
.ret))
(.seq (K [5]) .skip)))))
rg_slices_IndexFunc_Lint_6)))
def rg_slices_IndexFunc_Lint_7 : VC := (.reg false [
  ⟨some 4, none, .mov (.c (.d (.int .i64 (-1)))), []⟩])
def c_slices_IndexFunc_Lint : VFunc := ⟨2, [.tmp 4],
(.seq rg_slices_IndexFunc_Lint_0
(.seq (.seq rg_slices_IndexFunc_Lint_1
(.block 0
(.seq (.loop c_slices_IndexFunc_Lint_L0) (K [0, 1, 7, 8]))))
(.seq rg_slices_IndexFunc_Lint_7
.ret)))⟩
def rg_book_kinds_0 : VC := (.reg false [
  ⟨some 0, none, .alloc [.d (.int .i64 0), .d (.int .i64 0), .d (.int .i64 0), .d (.int .i64 0), .d (.int .i64 0), .d (.int .i64 0), .d (.int .i64 0), .d (.int .i64 0), .d (.int .i64 0), .d (.int .i64 0), .d (.int .i64 0), .d (.int .i64 0), .d (.int .i64 0), .d (.int .i64 0), .d (.int .i64 0), .d (.int .i64 0), .d (.int .i64 0), .d (.int .i64 0), .d (.int .i64 0), .d (.int .i64 0), .d (.int .i64 0), .d (.int .i64 0), .d (.int .i64 0), .d (.int .i64 0), .d (.int .i64 0), .d (.int .i64 0), .d (.int .i64 0), .d (.int .i64 0), .d (.int .i64 0), .d (.int .i64 0), .d (.int .i64 0), .d (.int .i64 0), .d (.int .i64 0), .d (.int .i64 0), .d (.int .i64 0), .d (.int .i64 0), .d (.int .i64 0), .d (.int .i64 0), .d (.int .i64 0), .d (.int .i64 0), .d (.int .i64 0), .d (.int .i64 0), .d (.int .i64 0), .d (.int .i64 0), .d (.int .i64 0), .d (.int .i64 0), .d (.int .i64 0), .d (.int .i64 0), .d (.int .i64 0), .d (.int .i64 0), .d (.int .i64 0), .d (.int .i64 0)], []⟩])
def rg_book_kinds_1 : VC := (.reg false [
  ⟨some 1, none, .build [.d (.int .i64 0), .d (.int .i64 0), .d (.int .i64 0), .d (.int .i64 0)] [(0, 1, .c (.d (.int .i64 4))), (1, 1, .c (.d (.int .i64 (-1)))), (2, 1, .c (.d (.int .i64 1))), (3, 1, .c (.d (.int .i64 0)))], []⟩,
  ⟨some 2, none, .build [.d (.int .i64 0), .d (.int .i64 0), .d (.int .i64 0), .d (.int .i64 0)] [(0, 1, .c (.d (.int .i64 4))), (1, 1, .c (.d (.int .i64 (-1)))), (2, 1, .c (.d (.int .i64 1))), (3, 1, .c (.d (.int .i64 1)))], []⟩,
  ⟨some 3, none, .build [.d (.int .i64 0), .d (.int .i64 0), .d (.int .i64 0), .d (.int .i64 0)] [(0, 1, .c (.d (.int .i64 4))), (1, 1, .c (.d (.int .i64 0))), (2, 1, .c (.d (.int .i64 2))), (3, 1, .c (.d (.int .i64 0)))], []⟩,
  ⟨some 4, none, .build [.d (.int .i64 0), .d (.int .i64 0), .d (.int .i64 0), .d (.int .i64 0)] [(0, 1, .c (.d (.int .i64 4))), (1, 1, .c (.d (.int .i64 0))), (2, 1, .c (.d (.int .i64 2))), (3, 1, .c (.d (.int .i64 1)))], []⟩,
  ⟨some 5, none, .build [.d (.int .i64 0), .d (.int .i64 0), .d (.int .i64 0), .d (.int .i64 0)] [(0, 1, .c (.d (.int .i64 2))), (1, 1, .c (.d (.int .i64 (-4)))), (2, 1, .c (.d (.int .i64 4))), (3, 1, .c (.d (.int .i64 0)))], []⟩,
  ⟨some 6, none, .build [.d (.int .i64 0), .d (.int .i64 0), .d (.int .i64 0), .d (.int .i64 0)] [(0, 1, .c (.d (.int .i64 2))), (1, 1, .c (.d (.int .i64 (-4)))), (2, 1, .c (.d (.int .i64 4))), (3, 1, .c (.d (.int .i64 1)))], []⟩,
  ⟨some 7, none, .build [.d (.int .i64 0), .d (.int .i64 0), .d (.int .i64 0), .d (.int .i64 0)] [(0, 1, .c (.d (.int .i64 2))), (1, 1, .c (.d (.int .i64 0))), (2, 1, .c (.d (.int .i64 7))), (3, 1, .c (.d (.int .i64 1)))], []⟩,
  ⟨some 8, none, .build [.d (.int .i64 0), .d (.int .i64 0), .d (.int .i64 0), .d (.int .i64 0)] [(0, 1, .c (.d (.int .i64 2))), (1, 1, .c (.d (.int .i64 0))), (2, 1, .c (.d (.int .i64 7))), (3, 1, .c (.d (.int .i64 2)))], []⟩,
  ⟨some 9, none, .build [.d (.int .i64 0), .d (.int .i64 0), .d (.int .i64 0), .d (.int .i64 0)] [(0, 1, .c (.d (.int .i64 2))), (1, 1, .c (.d (.int .i64 0))), (2, 1, .c (.d (.int .i64 12))), (3, 1, .c (.d (.int .i64 1)))], []⟩,
  ⟨some 10, none, .build [.d (.int .i64 0), .d (.int .i64 0), .d (.int .i64 0), .d (.int .i64 0)] [(0, 1, .c (.d (.int .i64 2))), (1, 1, .c (.d (.int .i64 0))), (2, 1, .c (.d (.int .i64 12))), (3, 1, .c (.d (.int .i64 2)))], []⟩,
  ⟨some 11, none, .build [.d (.int .i64 0), .d (.int .i64 0), .d (.int .i64 0), .d (.int .i64 0)] [(0, 1, .c (.d (.int .i64 2))), (1, 1, .c (.d (.int .i64 0))), (2, 1, .c (.d (.int .i64 16))), (3, 1, .c (.d (.int .i64 2)))], []⟩,
  ⟨some 12, none, .build [.d (.int .i64 0), .d (.int .i64 0), .d (.int .i64 0), .d (.int .i64 0)] [(0, 1, .c (.d (.int .i64 1))), (1, 1, .c (.d (.int .i64 (-60)))), (2, 1, .c (.d (.int .i64 60))), (3, 1, .c (.d (.int .i64 0)))], []⟩,
  ⟨some 13, none, .build [.d (.int .i64 0), .d (.int .i64 0), .d (.int .i64 0), .d (.int .i64 0), .d (.int .i64 0), .d (.int .i64 0), .d (.int .i64 0), .d (.int .i64 0), .d (.int .i64 0), .d (.int .i64 0), .d (.int .i64 0), .d (.int .i64 0), .d (.int .i64 0), .d (.int .i64 0), .d (.int .i64 0), .d (.int .i64 0), .d (.int .i64 0), .d (.int .i64 0), .d (.int .i64 0), .d (.int .i64 0), .d (.int .i64 0), .d (.int .i64 0), .d (.int .i64 0), .d (.int .i64 0), .d (.int .i64 0), .d (.int .i64 0), .d (.int .i64 0), .d (.int .i64 0), .d (.int .i64 0), .d (.int .i64 0), .d (.int .i64 0), .d (.int .i64 0), .d (.int .i64 0), .d (.int .i64 0), .d (.int .i64 0), .d (.int .i64 0), .d (.int .i64 0), .d (.int .i64 0), .d (.int .i64 0), .d (.int .i64 0), .d (.int .i64 0), .d (.int .i64 0), .d (.int .i64 0), .d (.int .i64 0), .d (.int .i64 0), .d (.int .i64 0), .d (.int .i64 0), .d (.int .i64 0), .d (.int .i64 0), .d (.int .i64 0), .d (.int .i64 0), .d (.int .i64 0)] [(4, 4, .m 1), (8, 4, .m 2), (12, 4, .m 3), (16, 4, .m 4), (20, 4, .m 5), (24, 4, .m 6), (28, 4, .m 7), (32, 4, .m 8), (36, 4, .m 9), (40, 4, .m 10), (44, 4, .m 11), (48, 4, .m 12)], []⟩,
  ⟨none, none, .st 52 (.s 0) (.m 13), []⟩])
def c_book_kinds : VFunc := ⟨0, [.cell 0 (some 52)],
(.seq rg_book_kinds_0
(.seq rg_book_kinds_1
.ret))⟩
def rg_book_kind_wide_0 : VC := (.reg false [
  ⟨some 1, none, .box (.m 0), []⟩,
  ⟨some 2, none, .mov (.c (.d (.int .i64 0))), []⟩,
  ⟨none, none, .kill [2], []⟩])
def rg_book_kind_wide_1 : VC := (.reg false [
  ⟨some 3, none, .fa 2 (.s 1), []⟩,
  ⟨some 4, none, .ld none 0 (.m 3), []⟩,
  ⟨some 5, none, .fa 1 (.s 1), []⟩,
  ⟨some 6, none, .ld none 0 (.m 5), []⟩,
  ⟨some 7, none, .bin .sub (.m 4) (.m 6), []⟩,
  ⟨some 8, none, .bin .add (.m 7) (.c (.d (.int .i64 1))), []⟩,
  ⟨some 2, none, .mov (.m 8), []⟩])
def c_book_kind_wide : VFunc := ⟨1, [.tmp 2],
(.seq rg_book_kind_wide_0
(.seq (.seq rg_book_kind_wide_1 (F 1))
.ret))⟩
def rg_slices_stableCmpFunc_int_0 : VC := (.reg false [
  ⟨some 6, none, .mov (.c (.d (.int .i64 20))), []⟩])
def rg_slices_stableCmpFunc_int_1 : VC := (.reg false [
  ⟨some 10, none, .mov (.s 6), []⟩,
  ⟨some 7, none, .mov (.c (.d (.int .i64 0))), []⟩,
  ⟨some 8, none, .mov (.m 10), []⟩])
def rg_slices_stableCmpFunc_int_2 : VC := (.reg false [
  ⟨some 11, none, .mov (.s 8), []⟩,
  ⟨some 12, none, .mov (.s 1), []⟩,
  ⟨some 13, none, .bin .leq (.m 11) (.m 12), []⟩])
def rg_slices_stableCmpFunc_int_3 : VC := (.reg false [
  ⟨some 14, none, .mov (.s 0), []⟩,
  ⟨some 15, none, .mov (.m 7), []⟩,
  ⟨some 16, none, .mov (.s 8), []⟩,
  ⟨some 17, none, .mov (.s 2), []⟩,
  ⟨some 18, none, .calli f_slices_insertionSortCmpFunc_int [.m 14, .m 15, .m 16, .m 17], []⟩,
  ⟨none, none, .kill [18], []⟩])
def rg_slices_stableCmpFunc_int_4 : VC := (.reg false [
  ⟨some 19, none, .mov (.s 8), []⟩,
  ⟨some 7, none, .mov (.m 19), []⟩])
def rg_slices_stableCmpFunc_int_5 : VC := (.reg false [
  ⟨some 20, none, .mov (.m 8), []⟩,
  ⟨some 21, none, .mov (.s 6), []⟩,
  ⟨some 22, none, .bin .add (.m 20) (.m 21), []⟩,
  ⟨some 8, none, .mov (.m 22), []⟩])
def c_slices_stableCmpFunc_int_L0 : VC := (.seq (.seq rg_slices_stableCmpFunc_int_2
(.cond (.m 13)
.skip
(.seq (K [8]) (.exit 0))))
(.block 1
(.seq rg_slices_stableCmpFunc_int_3
(.seq rg_slices_stableCmpFunc_int_4
rg_slices_stableCmpFunc_int_5))))
def rg_slices_stableCmpFunc_int_6 : VC := (.reg false [
  ⟨some 23, none, .mov (.s 0), []⟩,
  ⟨some 24, none, .mov (.m 7), []⟩,
  ⟨some 25, none, .mov (.s 1), []⟩,
  ⟨some 26, none, .mov (.s 2), []⟩,
  ⟨some 27, none, .calli f_slices_insertionSortCmpFunc_int [.m 23, .m 24, .m 25, .m 26], []⟩,
  ⟨none, none, .kill [27], []⟩])
def rg_slices_stableCmpFunc_int_7 : VC := (.reg false [
  ⟨some 28, none, .mov (.s 6), []⟩,
  ⟨some 29, none, .mov (.s 1), []⟩,
  ⟨some 30, none, .bin .lss (.m 28) (.m 29), []⟩])
def rg_slices_stableCmpFunc_int_8 : VC := (.reg false [
  ⟨some 31, none, .mov (.s 6), []⟩,
  ⟨some 32, none, .bin .mul (.c (.d (.int .i64 2))) (.m 31), []⟩,
  ⟨some 7, none, .mov (.c (.d (.int .i64 0))), []⟩,
  ⟨some 8, none, .mov (.m 32), []⟩])
def rg_slices_stableCmpFunc_int_9 : VC := (.reg false [
  ⟨some 33, none, .mov (.s 8), []⟩,
  ⟨some 34, none, .mov (.s 1), []⟩,
  ⟨some 35, none, .bin .leq (.m 33) (.m 34), []⟩])
def rg_slices_stableCmpFunc_int_10 : VC := (.reg false [
  ⟨some 36, none, .mov (.s 0), []⟩,
  ⟨some 37, none, .mov (.s 7), []⟩,
  ⟨some 38, none, .mov (.m 7), []⟩,
  ⟨some 39, none, .mov (.s 6), []⟩,
  ⟨some 40, none, .bin .add (.m 38) (.m 39), []⟩,
  ⟨some 41, none, .mov (.s 8), []⟩,
  ⟨some 42, none, .mov (.s 2), []⟩,
  ⟨some 43, none, .calli f_slices_symMergeCmpFunc_int [.m 36, .m 37, .m 40, .m 41, .m 42], []⟩,
  ⟨none, none, .kill [43], []⟩])
def rg_slices_stableCmpFunc_int_11 : VC := (.reg false [
  ⟨some 44, none, .mov (.s 8), []⟩,
  ⟨some 7, none, .mov (.m 44), []⟩])
def rg_slices_stableCmpFunc_int_12 : VC := (.reg false [
  ⟨some 45, none, .mov (.m 8), []⟩,
  ⟨some 46, none, .mov (.s 6), []⟩,
  ⟨some 47, none, .bin .mul (.c (.d (.int .i64 2))) (.m 46), []⟩,
  ⟨some 48, none, .bin .add (.m 45) (.m 47), []⟩,
  ⟨some 8, none, .mov (.m 48), []⟩])
def c_slices_stableCmpFunc_int_L1 : VC := (.seq (.seq rg_slices_stableCmpFunc_int_9
(.cond (.m 35)
.skip
(.seq (K [8]) (.exit 4))))
(.block 5
(.seq rg_slices_stableCmpFunc_int_10
(.seq rg_slices_stableCmpFunc_int_11
rg_slices_stableCmpFunc_int_12))))
def rg_slices_stableCmpFunc_int_13 : VC := (.reg false [
  ⟨some 49, none, .mov (.s 7), []⟩,
  ⟨some 50, none, .mov (.s 6), []⟩,
  ⟨some 51, none, .bin .add (.m 49) (.m 50), []⟩,
  ⟨some 9, none, .mov (.m 51), []⟩])
def rg_slices_stableCmpFunc_int_14 : VC := (.reg false [
  ⟨some 52, none, .mov (.s 9), []⟩,
  ⟨some 53, none, .mov (.s 1), []⟩,
  ⟨some 54, none, .bin .lss (.m 52) (.m 53), []⟩])
def rg_slices_stableCmpFunc_int_15 : VC := (.reg false [
  ⟨some 55, none, .mov (.s 0), []⟩,
  ⟨some 56, none, .mov (.m 7), []⟩,
  ⟨some 57, none, .mov (.m 9), []⟩,
  ⟨some 58, none, .mov (.s 1), []⟩,
  ⟨some 59, none, .mov (.s 2), []⟩,
  ⟨some 60, none, .calli f_slices_symMergeCmpFunc_int [.m 55, .m 56, .m 57, .m 58, .m 59], []⟩,
  ⟨none, none, .kill [60], []⟩])
def rg_slices_stableCmpFunc_int_16 : VC := (.reg false [
  ⟨some 61, none, .mov (.m 6), []⟩,
  ⟨some 62, none, .bin .mul (.m 61) (.c (.d (.int .i64 2))), []⟩,
  ⟨some 6, none, .mov (.m 62), []⟩])
def c_slices_stableCmpFunc_int_L2 : VC := (.seq (.seq rg_slices_stableCmpFunc_int_7
(.cond (.m 30)
.skip
(.seq (K [0, 1, 2, 6]) (.exit 2))))
(.block 3
(.seq rg_slices_stableCmpFunc_int_8
(.seq (.block 4
(.seq (.loop c_slices_stableCmpFunc_int_L1) (K [8])))
(.seq (.seq rg_slices_stableCmpFunc_int_13
(.seq rg_slices_stableCmpFunc_int_14
(.cond (.m 54)
rg_slices_stableCmpFunc_int_15
(.seq (K [7, 9]) .skip))))
rg_slices_stableCmpFunc_int_16)))))
def c_slices_stableCmpFunc_int : VFunc := ⟨3, [],
(.seq rg_slices_stableCmpFunc_int_0
(.seq rg_slices_stableCmpFunc_int_1
(.seq (.block 0
(.seq (.loop c_slices_stableCmpFunc_int_L0) (K [8])))
(.seq rg_slices_stableCmpFunc_int_6
(.block 2
(.seq (.loop c_slices_stableCmpFunc_int_L2) (K [0, 1, 2, 6])))))))⟩
def rg_cmp_isNaN_uint8_0 : VC := (.reg false [
  ⟨some 2, none, .mov (.c (.d (.bool false))), []⟩,
  ⟨none, none, .kill [2], []⟩])
def rg_cmp_isNaN_uint8_1 : VC := (.reg false [
  ⟨some 3, none, .mov (.s 0), []⟩,
  ⟨some 4, none, .mov (.m 0), []⟩,
  ⟨some 5, none, .bin .neq (.m 3) (.m 4), []⟩,
  ⟨some 2, none, .mov (.m 5), []⟩])
def c_cmp_isNaN_uint8 : VFunc := ⟨1, [.tmp 2],
(.seq rg_cmp_isNaN_uint8_0
(.seq rg_cmp_isNaN_uint8_1
.ret))⟩
def rg_pick_kinds_0 : VC := (.reg false [
  ⟨some 0, none, .alloc [.d (.int .i64 0), .d (.int .i64 0), .d (.int .i64 0), .d (.int .i64 0), .d (.int .i64 0), .d (.int .i64 0), .d (.int .i64 0), .d (.int .i64 0), .d (.int .i64 0), .d (.int .i64 0), .d (.int .i64 0), .d (.int .i64 0), .d (.int .i64 0), .d (.int .i64 0), .d (.int .i64 0), .d (.int .i64 0), .d (.int .i64 0), .d (.int .i64 0), .d (.int .i64 0), .d (.int .i64 0), .d (.int .i64 0), .d (.int .i64 0), .d (.int .i64 0), .d (.int .i64 0), .d (.int .i64 0), .d (.int .i64 0), .d (.int .i64 0), .d (.int .i64 0), .d (.int .i64 0), .d (.int .i64 0), .d (.int .i64 0), .d (.int .i64 0), .d (.int .i64 0), .d (.int .i64 0), .d (.int .i64 0), .d (.int .i64 0), .d (.int .i64 0), .d (.int .i64 0), .d (.int .i64 0), .d (.int .i64 0), .d (.int .i64 0), .d (.int .i64 0), .d (.int .i64 0), .d (.int .i64 0), .d (.int .i64 0), .d (.int .i64 0), .d (.int .i64 0), .d (.int .i64 0)], []⟩])
def rg_pick_kinds_1 : VC := (.reg false [
  ⟨some 1, none, .build [.d (.int .i64 0), .d (.int .i64 0), .d (.int .i64 0), .d (.int .i64 0)] [], []⟩,
  ⟨some 2, none, .build [.d (.int .i64 0), .d (.int .i64 0), .d (.int .i64 0), .d (.int .i64 0)] [(0, 1, .c (.d (.int .i64 4))), (1, 1, .c (.d (.int .i64 (-1)))), (2, 1, .c (.d (.int .i64 1))), (3, 1, .c (.d (.int .i64 1)))], []⟩,
  ⟨some 3, none, .build [.d (.int .i64 0), .d (.int .i64 0), .d (.int .i64 0), .d (.int .i64 0)] [(0, 1, .c (.d (.int .i64 4))), (1, 1, .c (.d (.int .i64 (-1)))), (2, 1, .c (.d (.int .i64 1))), (3, 1, .c (.d (.int .i64 1)))], []⟩,
  ⟨some 4, none, .build [.d (.int .i64 0), .d (.int .i64 0), .d (.int .i64 0), .d (.int .i64 0)] [(0, 1, .c (.d (.int .i64 4))), (1, 1, .c (.d (.int .i64 0))), (2, 1, .c (.d (.int .i64 2))), (3, 1, .c (.d (.int .i64 2)))], []⟩,
  ⟨some 5, none, .build [.d (.int .i64 0), .d (.int .i64 0), .d (.int .i64 0), .d (.int .i64 0)] [(0, 1, .c (.d (.int .i64 4))), (1, 1, .c (.d (.int .i64 0))), (2, 1, .c (.d (.int .i64 2))), (3, 1, .c (.d (.int .i64 2)))], []⟩,
  ⟨some 6, none, .build [.d (.int .i64 0), .d (.int .i64 0), .d (.int .i64 0), .d (.int .i64 0)] [(0, 1, .c (.d (.int .i64 2))), (1, 1, .c (.d (.int .i64 (-4)))), (2, 1, .c (.d (.int .i64 4))), (3, 1, .c (.d (.int .i64 4)))], []⟩,
  ⟨some 7, none, .build [.d (.int .i64 0), .d (.int .i64 0), .d (.int .i64 0), .d (.int .i64 0)] [(0, 1, .c (.d (.int .i64 2))), (1, 1, .c (.d (.int .i64 (-4)))), (2, 1, .c (.d (.int .i64 4))), (3, 1, .c (.d (.int .i64 4)))], []⟩,
  ⟨some 8, none, .build [.d (.int .i64 0), .d (.int .i64 0), .d (.int .i64 0), .d (.int .i64 0)] [(0, 1, .c (.d (.int .i64 2))), (1, 1, .c (.d (.int .i64 0))), (2, 1, .c (.d (.int .i64 7))), (3, 1, .c (.d (.int .i64 7)))], []⟩,
  ⟨some 9, none, .build [.d (.int .i64 0), .d (.int .i64 0), .d (.int .i64 0), .d (.int .i64 0)] [(0, 1, .c (.d (.int .i64 2))), (1, 1, .c (.d (.int .i64 0))), (2, 1, .c (.d (.int .i64 7))), (3, 1, .c (.d (.int .i64 7)))], []⟩,
  ⟨some 10, none, .build [.d (.int .i64 0), .d (.int .i64 0), .d (.int .i64 0), .d (.int .i64 0)] [(0, 1, .c (.d (.int .i64 2))), (1, 1, .c (.d (.int .i64 0))), (2, 1, .c (.d (.int .i64 12))), (3, 1, .c (.d (.int .i64 12)))], []⟩,
  ⟨some 11, none, .build [.d (.int .i64 0), .d (.int .i64 0), .d (.int .i64 0), .d (.int .i64 0)] [(0, 1, .c (.d (.int .i64 2))), (1, 1, .c (.d (.int .i64 0))), (2, 1, .c (.d (.int .i64 12))), (3, 1, .c (.d (.int .i64 12)))], []⟩,
  ⟨some 12, none, .build [.d (.int .i64 0), .d (.int .i64 0), .d (.int .i64 0), .d (.int .i64 0)] [(0, 1, .c (.d (.int .i64 2))), (1, 1, .c (.d (.int .i64 0))), (2, 1, .c (.d (.int .i64 16))), (3, 1, .c (.d (.int .i64 8191)))], []⟩,
  ⟨some 13, none, .build [.d (.int .i64 0), .d (.int .i64 0), .d (.int .i64 0), .d (.int .i64 0), .d (.int .i64 0), .d (.int .i64 0), .d (.int .i64 0), .d (.int .i64 0), .d (.int .i64 0), .d (.int .i64 0), .d (.int .i64 0), .d (.int .i64 0), .d (.int .i64 0), .d (.int .i64 0), .d (.int .i64 0), .d (.int .i64 0), .d (.int .i64 0), .d (.int .i64 0), .d (.int .i64 0), .d (.int .i64 0), .d (.int .i64 0), .d (.int .i64 0), .d (.int .i64 0), .d (.int .i64 0), .d (.int .i64 0), .d (.int .i64 0), .d (.int .i64 0), .d (.int .i64 0), .d (.int .i64 0), .d (.int .i64 0), .d (.int .i64 0), .d (.int .i64 0), .d (.int .i64 0), .d (.int .i64 0), .d (.int .i64 0), .d (.int .i64 0), .d (.int .i64 0), .d (.int .i64 0), .d (.int .i64 0), .d (.int .i64 0), .d (.int .i64 0), .d (.int .i64 0), .d (.int .i64 0), .d (.int .i64 0), .d (.int .i64 0), .d (.int .i64 0), .d (.int .i64 0), .d (.int .i64 0)] [(0, 4, .m 1), (4, 4, .m 2), (8, 4, .m 3), (12, 4, .m 4), (16, 4, .m 5), (20, 4, .m 6), (24, 4, .m 7), (28, 4, .m 8), (32, 4, .m 9), (36, 4, .m 10), (40, 4, .m 11), (44, 4, .m 12)], []⟩,
  ⟨none, none, .st 48 (.s 0) (.m 13), []⟩])
def c_pick_kinds : VFunc := ⟨0, [.cell 0 (some 48)],
(.seq rg_pick_kinds_0
(.seq rg_pick_kinds_1
.ret))⟩
def rg_slices_insertionSortCmpFunc_int_0 : VC := (.reg false [
  ⟨some 10, none, .mov (.s 1), []⟩,
  ⟨some 11, none, .bin .add (.m 10) (.c (.d (.int .i64 1))), []⟩,
  ⟨some 8, none, .mov (.m 11), []⟩])
def rg_slices_insertionSortCmpFunc_int_1 : VC := (.reg false [
  ⟨some 12, none, .mov (.s 8), []⟩,
  ⟨some 13, none, .mov (.s 2), []⟩,
  ⟨some 14, none, .bin .lss (.m 12) (.m 13), []⟩])
def rg_slices_insertionSortCmpFunc_int_2 : VC := (.reg false [
  ⟨some 17, none, .mov (.s 8), []⟩,
  ⟨some 9, none, .mov (.m 17), []⟩])
def rg_slices_insertionSortCmpFunc_int_3 : VC := (.regP [0, 1, 2, 3, 4, 5, 6, 7, 8, 9, 10, 11, 12, 13, 14, 15, 16] [0, 1, 2, 3, 4, 5, 6, 7, 8, 9, 10, 11, 12, 13, 14, 15, 16] [] [
  ⟨some 18, none, .mov (.s 9), []⟩,
  ⟨some 19, none, .mov (.s 1), []⟩,
  ⟨some 20, none, .bin .gtr (.m 18) (.m 19), []⟩,
  ⟨some 21, none, .mov (.m 20), []⟩,
  ⟨some 22, (some (21, true)), .mov (.s 3), []⟩,
  ⟨some 23, (some (21, true)), .mov (.s 0), []⟩,
  ⟨some 24, (some (21, true)), .mov (.s 9), []⟩,
  ⟨some 25, (some (21, true)), .ia 1 (.s 23) (.s 24), []⟩,
  ⟨some 26, (some (21, true)), .ld none 0 (.s 25), []⟩,
  ⟨some 27, (some (21, true)), .mov (.s 0), []⟩,
  ⟨some 28, (some (21, true)), .mov (.s 9), []⟩,
  ⟨some 29, (some (21, true)), .bin .sub (.s 28) (.c (.d (.int .i64 1))), []⟩,
  ⟨some 30, (some (21, true)), .ia 1 (.s 27) (.s 29), []⟩,
  ⟨some 31, (some (21, true)), .ld none 0 (.s 30), []⟩,
  ⟨some 32, (some (21, true)), .callv (.s 22) [.s 26, .s 31], []⟩,
  ⟨some 33, (some (21, true)), .bin .lss (.s 32) (.c (.d (.int .i64 0))), []⟩,
  ⟨some 34, none, .pick (.s 21) (.s 33) (.c (.d (.bool false))), []⟩])
def rg_slices_insertionSortCmpFunc_int_4 : VC := (.regP [0, 1, 2, 3, 4, 5, 6, 7, 8, 9, 10, 11, 12, 13, 14, 15, 16, 17] [0, 1, 5, 6, 7, 8, 9, 10, 11, 12, 13, 14, 15, 2, 3, 4, 16, 17] [] [
  ⟨some 37, none, .mov (.s 0), []⟩,
  ⟨some 38, none, .mov (.s 9), []⟩,
  ⟨some 39, none, .mov (.s 0), []⟩,
  ⟨some 40, none, .mov (.s 9), []⟩,
  ⟨some 41, none, .bin .sub (.m 40) (.c (.d (.int .i64 1))), []⟩,
  ⟨some 42, none, .mov (.s 0), []⟩,
  ⟨some 43, none, .mov (.s 9), []⟩,
  ⟨some 44, none, .bin .sub (.m 43) (.c (.d (.int .i64 1))), []⟩,
  ⟨some 45, none, .ia 1 (.m 42) (.m 44), []⟩,
  ⟨some 46, none, .ld none 0 (.m 45), []⟩,
  ⟨some 47, none, .mov (.s 0), []⟩,
  ⟨some 48, none, .mov (.s 9), []⟩,
  ⟨some 49, none, .ia 1 (.m 47) (.m 48), []⟩,
  ⟨some 50, none, .ld none 0 (.m 49), []⟩,
  ⟨some 51, none, .ia 1 (.m 37) (.m 38), []⟩,
  ⟨none, none, .st 1 (.m 51) (.m 46), []⟩,
  ⟨some 52, none, .ia 1 (.m 39) (.m 41), []⟩,
  ⟨none, none, .st 1 (.m 52) (.m 50), []⟩])
def rg_slices_insertionSortCmpFunc_int_5 : VC := (.reg false [
  ⟨some 35, none, .mov (.m 9), []⟩,
  ⟨some 36, none, .bin .sub (.m 35) (.c (.d (.int .i64 1))), []⟩,
  ⟨some 9, none, .mov (.m 36), []⟩])
def c_slices_insertionSortCmpFunc_int_L0 : VC := (.seq (.seq (.seq rg_slices_insertionSortCmpFunc_int_3 (K [21, 22, 23, 24, 25, 26, 27, 28, 29, 30, 31, 32, 33]))
(.cond (.m 34)
.skip
(.seq (K [9]) (.exit 2))))
(.seq (.block 3
rg_slices_insertionSortCmpFunc_int_4)
rg_slices_insertionSortCmpFunc_int_5))
def rg_slices_insertionSortCmpFunc_int_6 : VC := (.reg false [
  ⟨some 15, none, .mov (.m 8), []⟩,
  ⟨some 16, none, .bin .add (.m 15) (.c (.d (.int .i64 1))), []⟩,
  ⟨some 8, none, .mov (.m 16), []⟩])
def c_slices_insertionSortCmpFunc_int_L1 : VC := (.seq (.seq rg_slices_insertionSortCmpFunc_int_1
(.cond (.m 14)
.skip
(.seq (K [0, 1, 2, 3, 8]) (.exit 0))))
(.seq (.block 1
(.seq rg_slices_insertionSortCmpFunc_int_2
(.block 2
(.seq (.loop c_slices_insertionSortCmpFunc_int_L0) (K [9])))))
rg_slices_insertionSortCmpFunc_int_6))
def c_slices_insertionSortCmpFunc_int : VFunc := ⟨4, [],
(.seq rg_slices_insertionSortCmpFunc_int_0
(.block 0
(.seq (.loop c_slices_insertionSortCmpFunc_int_L1) (K [0, 1, 2, 3, 8]))))⟩
def rg_slices_symMergeCmpFunc_int_0 : VC := (.reg false [
  ⟨some 25, none, .mov (.s 2), []⟩,
  ⟨some 26, none, .mov (.s 1), []⟩,
  ⟨some 27, none, .bin .sub (.m 25) (.m 26), []⟩,
  ⟨some 28, none, .bin .eql (.m 27) (.c (.d (.int .i64 1))), []⟩])
def rg_slices_symMergeCmpFunc_int_1 : VC := (.reg false [
  ⟨some 29, none, .mov (.m 2), []⟩,
  ⟨some 10, none, .mov (.m 29), []⟩])
def rg_slices_symMergeCmpFunc_int_2 : VC := (.reg false [
  ⟨some 30, none, .mov (.m 3), []⟩,
  ⟨some 11, none, .mov (.m 30), []⟩])
def rg_slices_symMergeCmpFunc_int_3 : VC := (.reg false [
  ⟨some 31, none, .mov (.s 10), []⟩,
  ⟨some 32, none, .mov (.s 11), []⟩,
  ⟨some 33, none, .bin .lss (.m 31) (.m 32), []⟩])
def rg_slices_symMergeCmpFunc_int_4 : VC := (.reg false [
  ⟨some 34, none, .mov (.s 10), []⟩,
  ⟨some 35, none, .mov (.s 11), []⟩,
  ⟨some 36, none, .bin .add (.m 34) (.m 35), []⟩,
  ⟨some 37, none, .conv .u64 (.m 36), []⟩,
  ⟨some 38, none, .bin .shr (.m 37) (.c (.d (.int .u64 1))), []⟩,
  ⟨some 39, none, .conv .i64 (.m 38), []⟩,
  ⟨some 12, none, .mov (.m 39), []⟩])
def rg_slices_symMergeCmpFunc_int_5 : VC := (.regP [0, 1, 2, 3, 4, 5, 6, 7, 8, 9, 10] [0, 1, 2, 3, 4, 5, 6, 7, 8, 9, 10] [] [
  ⟨some 40, none, .mov (.s 4), []⟩,
  ⟨some 41, none, .mov (.s 0), []⟩,
  ⟨some 42, none, .mov (.s 12), []⟩,
  ⟨some 43, none, .ia 1 (.m 41) (.m 42), []⟩,
  ⟨some 44, none, .ld none 0 (.m 43), []⟩,
  ⟨some 45, none, .mov (.s 0), []⟩,
  ⟨some 46, none, .mov (.s 1), []⟩,
  ⟨some 47, none, .ia 1 (.m 45) (.m 46), []⟩,
  ⟨some 48, none, .ld none 0 (.m 47), []⟩,
  ⟨some 49, none, .callv (.m 40) [.m 44, .m 48], []⟩,
  ⟨some 50, none, .bin .lss (.m 49) (.c (.d (.int .i64 0))), []⟩])
def rg_slices_symMergeCmpFunc_int_6 : VC := (.reg false [
  ⟨some 51, none, .mov (.m 12), []⟩,
  ⟨some 52, none, .bin .add (.m 51) (.c (.d (.int .i64 1))), []⟩,
  ⟨some 10, none, .mov (.m 52), []⟩])
def rg_slices_symMergeCmpFunc_int_7 : VC := (.reg false [
  ⟨some 53, none, .mov (.m 12), []⟩,
  ⟨some 11, none, .mov (.m 53), []⟩])
def c_slices_symMergeCmpFunc_int_L0 : VC := (.seq (.seq rg_slices_symMergeCmpFunc_int_3
(.cond (.m 33)
.skip
(.seq (K [4, 11]) (.exit 0))))
(.block 1
(.seq rg_slices_symMergeCmpFunc_int_4
(.seq rg_slices_symMergeCmpFunc_int_5
(.cond (.m 50)
(.seq (K [10]) rg_slices_symMergeCmpFunc_int_6)
(.seq (K [11]) rg_slices_symMergeCmpFunc_int_7))))))
def rg_slices_symMergeCmpFunc_int_8 : VC := (.reg false [
  ⟨some 54, none, .mov (.m 1), []⟩,
  ⟨some 13, none, .mov (.m 54), []⟩])
def rg_slices_symMergeCmpFunc_int_9 : VC := (.reg false [
  ⟨some 55, none, .mov (.s 13), []⟩,
  ⟨some 56, none, .mov (.s 10), []⟩,
  ⟨some 57, none, .bin .sub (.m 56) (.c (.d (.int .i64 1))), []⟩,
  ⟨some 58, none, .bin .lss (.m 55) (.m 57), []⟩])
def rg_slices_symMergeCmpFunc_int_10 : VC := (.regP [0, 1, 2, 3, 4, 5, 6, 7, 8, 9, 10, 11, 12, 13, 14, 15, 16, 17] [0, 1, 5, 6, 7, 8, 9, 10, 11, 12, 13, 14, 15, 2, 3, 4, 16, 17] [] [
  ⟨some 61, none, .mov (.s 0), []⟩,
  ⟨some 62, none, .mov (.s 13), []⟩,
  ⟨some 63, none, .mov (.s 0), []⟩,
  ⟨some 64, none, .mov (.s 13), []⟩,
  ⟨some 65, none, .bin .add (.m 64) (.c (.d (.int .i64 1))), []⟩,
  ⟨some 66, none, .mov (.s 0), []⟩,
  ⟨some 67, none, .mov (.s 13), []⟩,
  ⟨some 68, none, .bin .add (.m 67) (.c (.d (.int .i64 1))), []⟩,
  ⟨some 69, none, .ia 1 (.m 66) (.m 68), []⟩,
  ⟨some 70, none, .ld none 0 (.m 69), []⟩,
  ⟨some 71, none, .mov (.s 0), []⟩,
  ⟨some 72, none, .mov (.s 13), []⟩,
  ⟨some 73, none, .ia 1 (.m 71) (.m 72), []⟩,
  ⟨some 74, none, .ld none 0 (.m 73), []⟩,
  ⟨some 75, none, .ia 1 (.m 61) (.m 62), []⟩,
  ⟨none, none, .st 1 (.m 75) (.m 70), []⟩,
  ⟨some 76, none, .ia 1 (.m 63) (.m 65), []⟩,
  ⟨none, none, .st 1 (.m 76) (.m 74), []⟩])
def rg_slices_symMergeCmpFunc_int_11 : VC := (.reg false [
  ⟨some 59, none, .mov (.m 13), []⟩,
  ⟨some 60, none, .bin .add (.m 59) (.c (.d (.int .i64 1))), []⟩,
  ⟨some 13, none, .mov (.m 60), []⟩])
def c_slices_symMergeCmpFunc_int_L1 : VC := (.seq (.seq rg_slices_symMergeCmpFunc_int_9
(.cond (.m 58)
.skip
(.seq (K [0, 10, 13]) (.exit 2))))
(.seq (.block 3
rg_slices_symMergeCmpFunc_int_10)
rg_slices_symMergeCmpFunc_int_11))
def rg_slices_symMergeCmpFunc_int_12 : VC := (.reg false [
  ⟨some 77, none, .mov (.s 3), []⟩,
  ⟨some 78, none, .mov (.s 2), []⟩,
  ⟨some 79, none, .bin .sub (.m 77) (.m 78), []⟩,
  ⟨some 80, none, .bin .eql (.m 79) (.c (.d (.int .i64 1))), []⟩])
def rg_slices_symMergeCmpFunc_int_13 : VC := (.reg false [
  ⟨some 81, none, .mov (.m 1), []⟩,
  ⟨some 14, none, .mov (.m 81), []⟩])
def rg_slices_symMergeCmpFunc_int_14 : VC := (.reg false [
  ⟨some 82, none, .mov (.s 2), []⟩,
  ⟨some 15, none, .mov (.m 82), []⟩])
def rg_slices_symMergeCmpFunc_int_15 : VC := (.reg false [
  ⟨some 83, none, .mov (.s 14), []⟩,
  ⟨some 84, none, .mov (.s 15), []⟩,
  ⟨some 85, none, .bin .lss (.m 83) (.m 84), []⟩])
def rg_slices_symMergeCmpFunc_int_16 : VC := (.reg false [
  ⟨some 86, none, .mov (.s 14), []⟩,
  ⟨some 87, none, .mov (.s 15), []⟩,
  ⟨some 88, none, .bin .add (.m 86) (.m 87), []⟩,
  ⟨some 89, none, .conv .u64 (.m 88), []⟩,
  ⟨some 90, none, .bin .shr (.m 89) (.c (.d (.int .u64 1))), []⟩,
  ⟨some 91, none, .conv .i64 (.m 90), []⟩,
  ⟨some 16, none, .mov (.m 91), []⟩])
def rg_slices_symMergeCmpFunc_int_17 : VC := (.regP [0, 1, 2, 3, 4, 5, 6, 7, 8, 9, 10, 11] [0, 1, 2, 3, 4, 5, 6, 7, 8, 9, 10, 11] [] [
  ⟨some 92, none, .mov (.s 4), []⟩,
  ⟨some 93, none, .mov (.s 0), []⟩,
  ⟨some 94, none, .mov (.s 2), []⟩,
  ⟨some 95, none, .ia 1 (.m 93) (.m 94), []⟩,
  ⟨some 96, none, .ld none 0 (.m 95), []⟩,
  ⟨some 97, none, .mov (.s 0), []⟩,
  ⟨some 98, none, .mov (.s 16), []⟩,
  ⟨some 99, none, .ia 1 (.m 97) (.m 98), []⟩,
  ⟨some 100, none, .ld none 0 (.m 99), []⟩,
  ⟨some 101, none, .callv (.m 92) [.m 96, .m 100], []⟩,
  ⟨some 102, none, .bin .lss (.m 101) (.c (.d (.int .i64 0))), []⟩,
  ⟨some 103, none, .un .not (.m 102), []⟩])
def rg_slices_symMergeCmpFunc_int_18 : VC := (.reg false [
  ⟨some 104, none, .mov (.m 16), []⟩,
  ⟨some 105, none, .bin .add (.m 104) (.c (.d (.int .i64 1))), []⟩,
  ⟨some 14, none, .mov (.m 105), []⟩])
def rg_slices_symMergeCmpFunc_int_19 : VC := (.reg false [
  ⟨some 106, none, .mov (.m 16), []⟩,
  ⟨some 15, none, .mov (.m 106), []⟩])
def c_slices_symMergeCmpFunc_int_L2 : VC := (.seq (.seq rg_slices_symMergeCmpFunc_int_15
(.cond (.m 85)
.skip
(.seq (K [4, 15]) (.exit 4))))
(.block 5
(.seq rg_slices_symMergeCmpFunc_int_16
(.seq rg_slices_symMergeCmpFunc_int_17
(.cond (.m 103)
(.seq (K [14]) rg_slices_symMergeCmpFunc_int_18)
(.seq (K [15]) rg_slices_symMergeCmpFunc_int_19))))))
def rg_slices_symMergeCmpFunc_int_20 : VC := (.reg false [
  ⟨some 107, none, .mov (.m 2), []⟩,
  ⟨some 17, none, .mov (.m 107), []⟩])
def rg_slices_symMergeCmpFunc_int_21 : VC := (.reg false [
  ⟨some 108, none, .mov (.s 17), []⟩,
  ⟨some 109, none, .mov (.s 14), []⟩,
  ⟨some 110, none, .bin .gtr (.m 108) (.m 109), []⟩])
def rg_slices_symMergeCmpFunc_int_22 : VC := (.regP [0, 1, 2, 3, 4, 5, 6, 7, 8, 9, 10, 11, 12, 13, 14, 15, 16, 17] [0, 1, 5, 6, 7, 8, 9, 10, 11, 12, 13, 14, 15, 2, 3, 4, 16, 17] [] [
  ⟨some 113, none, .mov (.s 0), []⟩,
  ⟨some 114, none, .mov (.s 17), []⟩,
  ⟨some 115, none, .mov (.s 0), []⟩,
  ⟨some 116, none, .mov (.s 17), []⟩,
  ⟨some 117, none, .bin .sub (.m 116) (.c (.d (.int .i64 1))), []⟩,
  ⟨some 118, none, .mov (.s 0), []⟩,
  ⟨some 119, none, .mov (.s 17), []⟩,
  ⟨some 120, none, .bin .sub (.m 119) (.c (.d (.int .i64 1))), []⟩,
  ⟨some 121, none, .ia 1 (.m 118) (.m 120), []⟩,
  ⟨some 122, none, .ld none 0 (.m 121), []⟩,
  ⟨some 123, none, .mov (.s 0), []⟩,
  ⟨some 124, none, .mov (.s 17), []⟩,
  ⟨some 125, none, .ia 1 (.m 123) (.m 124), []⟩,
  ⟨some 126, none, .ld none 0 (.m 125), []⟩,
  ⟨some 127, none, .ia 1 (.m 113) (.m 114), []⟩,
  ⟨none, none, .st 1 (.m 127) (.m 122), []⟩,
  ⟨some 128, none, .ia 1 (.m 115) (.m 117), []⟩,
  ⟨none, none, .st 1 (.m 128) (.m 126), []⟩])
def rg_slices_symMergeCmpFunc_int_23 : VC := (.reg false [
  ⟨some 111, none, .mov (.m 17), []⟩,
  ⟨some 112, none, .bin .sub (.m 111) (.c (.d (.int .i64 1))), []⟩,
  ⟨some 17, none, .mov (.m 112), []⟩])
def c_slices_symMergeCmpFunc_int_L3 : VC := (.seq (.seq rg_slices_symMergeCmpFunc_int_21
(.cond (.m 110)
.skip
(.seq (K [0, 14, 17]) (.exit 6))))
(.seq (.block 7
rg_slices_symMergeCmpFunc_int_22)
rg_slices_symMergeCmpFunc_int_23))
def rg_slices_symMergeCmpFunc_int_24 : VC := (.reg false [
  ⟨some 129, none, .mov (.s 1), []⟩,
  ⟨some 130, none, .mov (.s 3), []⟩,
  ⟨some 131, none, .bin .add (.m 129) (.m 130), []⟩,
  ⟨some 132, none, .conv .u64 (.m 131), []⟩,
  ⟨some 133, none, .bin .shr (.m 132) (.c (.d (.int .u64 1))), []⟩,
  ⟨some 134, none, .conv .i64 (.m 133), []⟩,
  ⟨some 18, none, .mov (.m 134), []⟩])
def rg_slices_symMergeCmpFunc_int_25 : VC := (.reg false [
  ⟨some 135, none, .mov (.s 18), []⟩,
  ⟨some 136, none, .mov (.s 2), []⟩,
  ⟨some 137, none, .bin .add (.m 135) (.m 136), []⟩,
  ⟨some 19, none, .mov (.m 137), []⟩])
def rg_slices_symMergeCmpFunc_int_26 : VC := (.reg false [
  ⟨some 20, none, .mov (.c (.d (.int .i64 0))), []⟩,
  ⟨some 21, none, .mov (.c (.d (.int .i64 0))), []⟩,
  ⟨none, none, .kill [20, 21], []⟩])
def rg_slices_symMergeCmpFunc_int_27 : VC := (.reg false [
  ⟨some 138, none, .mov (.s 2), []⟩,
  ⟨some 139, none, .mov (.s 18), []⟩,
  ⟨some 140, none, .bin .gtr (.m 138) (.m 139), []⟩])
def rg_slices_symMergeCmpFunc_int_28 : VC := (.reg false [
  ⟨some 141, none, .mov (.s 19), []⟩,
  ⟨some 142, none, .mov (.s 3), []⟩,
  ⟨some 143, none, .bin .sub (.m 141) (.m 142), []⟩,
  ⟨some 20, none, .mov (.m 143), []⟩])
def rg_slices_symMergeCmpFunc_int_29 : VC := (.reg false [
  ⟨some 144, none, .mov (.s 18), []⟩,
  ⟨some 21, none, .mov (.m 144), []⟩])
def rg_slices_symMergeCmpFunc_int_30 : VC := (.reg false [
  ⟨some 145, none, .mov (.s 1), []⟩,
  ⟨some 20, none, .mov (.m 145), []⟩])
def rg_slices_symMergeCmpFunc_int_31 : VC := (.reg false [
  ⟨some 146, none, .mov (.s 2), []⟩,
  ⟨some 21, none, .mov (.m 146), []⟩])
def rg_slices_symMergeCmpFunc_int_32 : VC := (.reg false [
  ⟨some 147, none, .mov (.s 19), []⟩,
  ⟨some 148, none, .bin .sub (.m 147) (.c (.d (.int .i64 1))), []⟩,
  ⟨some 22, none, .mov (.m 148), []⟩])
def rg_slices_symMergeCmpFunc_int_33 : VC := (.reg false [
  ⟨some 149, none, .mov (.s 20), []⟩,
  ⟨some 150, none, .mov (.s 21), []⟩,
  ⟨some 151, none, .bin .lss (.m 149) (.m 150), []⟩])
def rg_slices_symMergeCmpFunc_int_34 : VC := (.reg false [
  ⟨some 152, none, .mov (.s 20), []⟩,
  ⟨some 153, none, .mov (.s 21), []⟩,
  ⟨some 154, none, .bin .add (.m 152) (.m 153), []⟩,
  ⟨some 155, none, .conv .u64 (.m 154), []⟩,
  ⟨some 156, none, .bin .shr (.m 155) (.c (.d (.int .u64 1))), []⟩,
  ⟨some 157, none, .conv .i64 (.m 156), []⟩,
  ⟨some 23, none, .mov (.m 157), []⟩])
def rg_slices_symMergeCmpFunc_int_35 : VC := (.regP [0, 1, 2, 3, 4, 5, 6, 7, 8, 9, 10, 11, 12, 13] [0, 1, 2, 3, 4, 5, 6, 7, 8, 9, 10, 11, 12, 13] [] [
  ⟨some 158, none, .mov (.s 4), []⟩,
  ⟨some 159, none, .mov (.s 0), []⟩,
  ⟨some 160, none, .mov (.s 22), []⟩,
  ⟨some 161, none, .mov (.s 23), []⟩,
  ⟨some 162, none, .bin .sub (.m 160) (.m 161), []⟩,
  ⟨some 163, none, .ia 1 (.m 159) (.m 162), []⟩,
  ⟨some 164, none, .ld none 0 (.m 163), []⟩,
  ⟨some 165, none, .mov (.s 0), []⟩,
  ⟨some 166, none, .mov (.s 23), []⟩,
  ⟨some 167, none, .ia 1 (.m 165) (.m 166), []⟩,
  ⟨some 168, none, .ld none 0 (.m 167), []⟩,
  ⟨some 169, none, .callv (.m 158) [.m 164, .m 168], []⟩,
  ⟨some 170, none, .bin .lss (.m 169) (.c (.d (.int .i64 0))), []⟩,
  ⟨some 171, none, .un .not (.m 170), []⟩])
def rg_slices_symMergeCmpFunc_int_36 : VC := (.reg false [
  ⟨some 172, none, .mov (.m 23), []⟩,
  ⟨some 173, none, .bin .add (.m 172) (.c (.d (.int .i64 1))), []⟩,
  ⟨some 20, none, .mov (.m 173), []⟩])
def rg_slices_symMergeCmpFunc_int_37 : VC := (.reg false [
  ⟨some 174, none, .mov (.m 23), []⟩,
  ⟨some 21, none, .mov (.m 174), []⟩])
def c_slices_symMergeCmpFunc_int_L4 : VC := (.seq (.seq rg_slices_symMergeCmpFunc_int_33
(.cond (.m 151)
.skip
(.seq (K [21, 22]) (.exit 8))))
(.block 9
(.seq rg_slices_symMergeCmpFunc_int_34
(.seq rg_slices_symMergeCmpFunc_int_35
(.cond (.m 171)
(.seq (K [20]) rg_slices_symMergeCmpFunc_int_36)
(.seq (K [21]) rg_slices_symMergeCmpFunc_int_37))))))
def rg_slices_symMergeCmpFunc_int_38 : VC := (.reg false [
  ⟨some 175, none, .mov (.m 19), []⟩,
  ⟨some 176, none, .mov (.s 20), []⟩,
  ⟨some 177, none, .bin .sub (.m 175) (.m 176), []⟩,
  ⟨some 24, none, .mov (.m 177), []⟩])
def rg_slices_symMergeCmpFunc_int_39 : VC := (.reg false [
  ⟨some 178, none, .mov (.s 20), []⟩,
  ⟨some 179, none, .mov (.s 2), []⟩,
  ⟨some 180, none, .bin .lss (.m 178) (.m 179), []⟩,
  ⟨some 181, none, .mov (.m 180), []⟩,
  ⟨some 182, (some (181, true)), .mov (.s 2), []⟩,
  ⟨some 183, (some (181, true)), .mov (.s 24), []⟩,
  ⟨some 184, (some (181, true)), .bin .lss (.s 182) (.s 183), []⟩,
  ⟨some 185, none, .pick (.m 181) (.s 184) (.c (.d (.bool false))), []⟩,
  ⟨none, none, .kill [182, 183, 184], []⟩])
def rg_slices_symMergeCmpFunc_int_40 : VC := (.reg false [
  ⟨some 186, none, .mov (.s 0), []⟩,
  ⟨some 187, none, .mov (.s 20), []⟩,
  ⟨some 188, none, .mov (.m 2), []⟩,
  ⟨some 189, none, .mov (.s 24), []⟩,
  ⟨some 190, none, .mov (.s 4), []⟩,
  ⟨some 191, none, .calli f_slices_rotateCmpFunc_int [.m 186, .m 187, .m 188, .m 189, .m 190], []⟩,
  ⟨none, none, .kill [191], []⟩])
def rg_slices_symMergeCmpFunc_int_41 : VC := (.reg false [
  ⟨some 192, none, .mov (.s 1), []⟩,
  ⟨some 193, none, .mov (.s 20), []⟩,
  ⟨some 194, none, .bin .lss (.m 192) (.m 193), []⟩,
  ⟨some 195, none, .mov (.m 194), []⟩,
  ⟨some 196, (some (195, true)), .mov (.s 20), []⟩,
  ⟨some 197, (some (195, true)), .mov (.s 18), []⟩,
  ⟨some 198, (some (195, true)), .bin .lss (.s 196) (.s 197), []⟩,
  ⟨some 199, none, .pick (.m 195) (.s 198) (.c (.d (.bool false))), []⟩,
  ⟨none, none, .kill [196, 197, 198], []⟩])
def rg_slices_symMergeCmpFunc_int_42 : VC := (.reg false [
  ⟨some 200, none, .mov (.s 0), []⟩,
  ⟨some 201, none, .mov (.m 1), []⟩,
  ⟨some 202, none, .mov (.m 20), []⟩,
  ⟨some 203, none, .mov (.s 18), []⟩,
  ⟨some 204, none, .mov (.s 4), []⟩,
  ⟨some 205, none, .calli f_slices_symMergeCmpFunc_int [.m 200, .m 201, .m 202, .m 203, .m 204], []⟩,
  ⟨none, none, .kill [205], []⟩])
def rg_slices_symMergeCmpFunc_int_43 : VC := (.reg false [
  ⟨some 206, none, .mov (.s 18), []⟩,
  ⟨some 207, none, .mov (.s 24), []⟩,
  ⟨some 208, none, .bin .lss (.m 206) (.m 207), []⟩,
  ⟨some 209, none, .mov (.m 208), []⟩,
  ⟨some 210, (some (209, true)), .mov (.s 24), []⟩,
  ⟨some 211, (some (209, true)), .mov (.s 3), []⟩,
  ⟨some 212, (some (209, true)), .bin .lss (.s 210) (.s 211), []⟩,
  ⟨some 213, none, .pick (.m 209) (.s 212) (.c (.d (.bool false))), []⟩,
  ⟨none, none, .kill [210, 211, 212], []⟩])
def rg_slices_symMergeCmpFunc_int_44 : VC := (.reg false [
  ⟨some 214, none, .mov (.m 0), []⟩,
  ⟨some 215, none, .mov (.m 18), []⟩,
  ⟨some 216, none, .mov (.m 24), []⟩,
  ⟨some 217, none, .mov (.m 3), []⟩,
  ⟨some 218, none, .mov (.m 4), []⟩,
  ⟨some 219, none, .calli f_slices_symMergeCmpFunc_int [.m 214, .m 215, .m 216, .m 217, .m 218], []⟩,
  ⟨none, none, .kill [219], []⟩])
def c_slices_symMergeCmpFunc_int : VFunc := ⟨5, [],
(.seq (.seq rg_slices_symMergeCmpFunc_int_0
(.cond (.m 28)
(.seq rg_slices_symMergeCmpFunc_int_1
(.seq rg_slices_symMergeCmpFunc_int_2
(.seq (.block 0
(.seq (.loop c_slices_symMergeCmpFunc_int_L0) (K [4, 11])))
(.seq (.seq rg_slices_symMergeCmpFunc_int_8
(.block 2
(.seq (.loop c_slices_symMergeCmpFunc_int_L1) (K [0, 10, 13]))))
.ret))))
.skip))
(.seq (.seq rg_slices_symMergeCmpFunc_int_12
(.cond (.m 80)
(.seq (K [3]) (.seq rg_slices_symMergeCmpFunc_int_13
(.seq rg_slices_symMergeCmpFunc_int_14
(.seq (.block 4
(.seq (.loop c_slices_symMergeCmpFunc_int_L2) (K [4, 15])))
(.seq (.seq rg_slices_symMergeCmpFunc_int_20
(.block 6
(.seq (.loop c_slices_symMergeCmpFunc_int_L3) (K [0, 14, 17]))))
.ret)))))
.skip))
(.seq rg_slices_symMergeCmpFunc_int_24
(.seq rg_slices_symMergeCmpFunc_int_25
(.seq rg_slices_symMergeCmpFunc_int_26
(.seq (.seq rg_slices_symMergeCmpFunc_int_27
(.cond (.m 140)
(.seq rg_slices_symMergeCmpFunc_int_28
rg_slices_symMergeCmpFunc_int_29)
(.seq rg_slices_symMergeCmpFunc_int_30
rg_slices_symMergeCmpFunc_int_31)))
(.seq rg_slices_symMergeCmpFunc_int_32
(.seq (.block 8
(.seq (.loop c_slices_symMergeCmpFunc_int_L4) (K [21, 22])))
(.seq rg_slices_symMergeCmpFunc_int_38
(.seq (.seq rg_slices_symMergeCmpFunc_int_39
(.cond (.m 185)
rg_slices_symMergeCmpFunc_int_40
(.seq (K [2]) .skip)))
(.seq (.seq rg_slices_symMergeCmpFunc_int_41
(.cond (.m 199)
rg_slices_symMergeCmpFunc_int_42
(.seq (K [1, 20]) .skip)))
(.seq rg_slices_symMergeCmpFunc_int_43
(.cond (.m 213)
rg_slices_symMergeCmpFunc_int_44
(.seq (K [0, 3, 4, 18, 24]) .skip))))))))))))))⟩
def rg_slices_rotateCmpFunc_int_0 : VC := (.reg false [
  ⟨some 12, none, .mov (.s 2), []⟩,
  ⟨some 13, none, .mov (.m 1), []⟩,
  ⟨some 14, none, .bin .sub (.m 12) (.m 13), []⟩,
  ⟨some 10, none, .mov (.m 14), []⟩])
def rg_slices_rotateCmpFunc_int_1 : VC := (.reg false [
  ⟨some 15, none, .mov (.m 3), []⟩,
  ⟨some 16, none, .mov (.s 2), []⟩,
  ⟨some 17, none, .bin .sub (.m 15) (.m 16), []⟩,
  ⟨some 11, none, .mov (.m 17), []⟩])
def rg_slices_rotateCmpFunc_int_2 : VC := (.reg false [
  ⟨some 18, none, .mov (.s 10), []⟩,
  ⟨some 19, none, .mov (.s 11), []⟩,
  ⟨some 20, none, .bin .neq (.m 18) (.m 19), []⟩])
def rg_slices_rotateCmpFunc_int_3 : VC := (.reg false [
  ⟨some 21, none, .mov (.s 10), []⟩,
  ⟨some 22, none, .mov (.s 11), []⟩,
  ⟨some 23, none, .bin .gtr (.m 21) (.m 22), []⟩])
def rg_slices_rotateCmpFunc_int_4 : VC := (.reg false [
  ⟨some 24, none, .mov (.s 0), []⟩,
  ⟨some 25, none, .mov (.s 2), []⟩,
  ⟨some 26, none, .mov (.s 10), []⟩,
  ⟨some 27, none, .bin .sub (.m 25) (.m 26), []⟩,
  ⟨some 28, none, .mov (.s 2), []⟩,
  ⟨some 29, none, .mov (.s 11), []⟩,
  ⟨some 30, none, .mov (.s 4), []⟩,
  ⟨some 31, none, .calli f_slices_swapRangeCmpFunc_int [.m 24, .m 27, .m 28, .m 29, .m 30], []⟩,
  ⟨none, none, .kill [31], []⟩])
def rg_slices_rotateCmpFunc_int_5 : VC := (.reg false [
  ⟨some 32, none, .mov (.m 10), []⟩,
  ⟨some 33, none, .mov (.s 11), []⟩,
  ⟨some 34, none, .bin .sub (.m 32) (.m 33), []⟩,
  ⟨some 10, none, .mov (.m 34), []⟩])
def rg_slices_rotateCmpFunc_int_6 : VC := (.reg false [
  ⟨some 35, none, .mov (.s 0), []⟩,
  ⟨some 36, none, .mov (.s 2), []⟩,
  ⟨some 37, none, .mov (.s 10), []⟩,
  ⟨some 38, none, .bin .sub (.m 36) (.m 37), []⟩,
  ⟨some 39, none, .mov (.s 2), []⟩,
  ⟨some 40, none, .mov (.s 11), []⟩,
  ⟨some 41, none, .bin .add (.m 39) (.m 40), []⟩,
  ⟨some 42, none, .mov (.s 10), []⟩,
  ⟨some 43, none, .bin .sub (.m 41) (.m 42), []⟩,
  ⟨some 44, none, .mov (.s 10), []⟩,
  ⟨some 45, none, .mov (.s 4), []⟩,
  ⟨some 46, none, .calli f_slices_swapRangeCmpFunc_int [.m 35, .m 38, .m 43, .m 44, .m 45], []⟩,
  ⟨none, none, .kill [46], []⟩])
def rg_slices_rotateCmpFunc_int_7 : VC := (.reg false [
  ⟨some 47, none, .mov (.m 11), []⟩,
  ⟨some 48, none, .mov (.s 10), []⟩,
  ⟨some 49, none, .bin .sub (.m 47) (.m 48), []⟩,
  ⟨some 11, none, .mov (.m 49), []⟩])
def c_slices_rotateCmpFunc_int_L0 : VC := (.seq (.seq rg_slices_rotateCmpFunc_int_2
(.cond (.m 20)
.skip
(.seq (K [11]) (.exit 0))))
(.block 1
(.seq rg_slices_rotateCmpFunc_int_3
(.cond (.m 23)
(.seq rg_slices_rotateCmpFunc_int_4
rg_slices_rotateCmpFunc_int_5)
(.seq rg_slices_rotateCmpFunc_int_6
rg_slices_rotateCmpFunc_int_7)))))
def rg_slices_rotateCmpFunc_int_8 : VC := (.reg false [
  ⟨some 50, none, .mov (.m 0), []⟩,
  ⟨some 51, none, .mov (.s 2), []⟩,
  ⟨some 52, none, .mov (.s 10), []⟩,
  ⟨some 53, none, .bin .sub (.m 51) (.m 52), []⟩,
  ⟨some 54, none, .mov (.m 2), []⟩,
  ⟨some 55, none, .mov (.m 10), []⟩,
  ⟨some 56, none, .mov (.m 4), []⟩,
  ⟨some 57, none, .calli f_slices_swapRangeCmpFunc_int [.m 50, .m 53, .m 54, .m 55, .m 56], []⟩,
  ⟨none, none, .kill [57], []⟩])
def c_slices_rotateCmpFunc_int : VFunc := ⟨5, [],
(.seq rg_slices_rotateCmpFunc_int_0
(.seq rg_slices_rotateCmpFunc_int_1
(.seq (.block 0
(.seq (.loop c_slices_rotateCmpFunc_int_L0) (K [11])))
rg_slices_rotateCmpFunc_int_8)))⟩
def rg_slices_swapRangeCmpFunc_int_0 : VC := (.reg false [
  ⟨some 10, none, .mov (.c (.d (.int .i64 0))), []⟩])
def rg_slices_swapRangeCmpFunc_int_1 : VC := (.reg false [
  ⟨some 11, none, .mov (.s 10), []⟩,
  ⟨some 12, none, .mov (.s 3), []⟩,
  ⟨some 13, none, .bin .lss (.m 11) (.m 12), []⟩])
def rg_slices_swapRangeCmpFunc_int_2 : VC := (.regP [0, 1, 2, 3, 4, 5, 6, 7, 8, 9, 10, 11, 12, 13, 14, 15, 16, 17, 18, 19, 20, 21, 22, 23] [0, 1, 2, 3, 8, 9, 10, 11, 12, 13, 14, 15, 16, 17, 18, 19, 20, 21, 4, 5, 6, 7, 22, 23] [] [
  ⟨some 16, none, .mov (.s 0), []⟩,
  ⟨some 17, none, .mov (.s 1), []⟩,
  ⟨some 18, none, .mov (.s 10), []⟩,
  ⟨some 19, none, .bin .add (.m 17) (.m 18), []⟩,
  ⟨some 20, none, .mov (.s 0), []⟩,
  ⟨some 21, none, .mov (.s 2), []⟩,
  ⟨some 22, none, .mov (.s 10), []⟩,
  ⟨some 23, none, .bin .add (.m 21) (.m 22), []⟩,
  ⟨some 24, none, .mov (.s 0), []⟩,
  ⟨some 25, none, .mov (.s 2), []⟩,
  ⟨some 26, none, .mov (.s 10), []⟩,
  ⟨some 27, none, .bin .add (.m 25) (.m 26), []⟩,
  ⟨some 28, none, .ia 1 (.m 24) (.m 27), []⟩,
  ⟨some 29, none, .ld none 0 (.m 28), []⟩,
  ⟨some 30, none, .mov (.s 0), []⟩,
  ⟨some 31, none, .mov (.s 1), []⟩,
  ⟨some 32, none, .mov (.s 10), []⟩,
  ⟨some 33, none, .bin .add (.m 31) (.m 32), []⟩,
  ⟨some 34, none, .ia 1 (.m 30) (.m 33), []⟩,
  ⟨some 35, none, .ld none 0 (.m 34), []⟩,
  ⟨some 36, none, .ia 1 (.m 16) (.m 19), []⟩,
  ⟨none, none, .st 1 (.m 36) (.m 29), []⟩,
  ⟨some 37, none, .ia 1 (.m 20) (.m 23), []⟩,
  ⟨none, none, .st 1 (.m 37) (.m 35), []⟩])
def rg_slices_swapRangeCmpFunc_int_3 : VC := (.reg false [
  ⟨some 14, none, .mov (.m 10), []⟩,
  ⟨some 15, none, .bin .add (.m 14) (.c (.d (.int .i64 1))), []⟩,
  ⟨some 10, none, .mov (.m 15), []⟩])
def c_slices_swapRangeCmpFunc_int_L0 : VC := (.seq (.seq rg_slices_swapRangeCmpFunc_int_1
(.cond (.m 13)
.skip
(.seq (K [0, 1, 2, 3, 10]) (.exit 0))))
(.seq (.block 1
rg_slices_swapRangeCmpFunc_int_2)
rg_slices_swapRangeCmpFunc_int_3))
def c_slices_swapRangeCmpFunc_int : VFunc := ⟨5, [],
(.seq (K [4]) (.seq rg_slices_swapRangeCmpFunc_int_0
(.block 0
(.seq (.loop c_slices_swapRangeCmpFunc_int_L0) (K [0, 1, 2, 3, 10])))))⟩
def table : T := (.node 31 c_pick_odd_1 (.node 16 c_book_Get (.node 9 c_pick_stocked (.node 6 c_reedpipelaw27_alive (.node 4 c_pick_Seq (.node 3 c_reedpipelaw27_PickNames .leaf .leaf) (.node 5 c_pick_Chan .leaf .leaf)) (.node 8 c_pick_ready (.node 7 c_info_Check .leaf .leaf) .leaf)) (.node 13 c_band_Many (.node 12 c_pick_Sections (.node 11 c_pick_Attack .leaf .leaf) .leaf) (.node 15 c_pick_odd (.node 14 c_info_grouped .leaf .leaf) .leaf))) (.node 25 c_slices_Min_Lint (.node 20 c_pick_size (.node 19 c_pick_lines (.node 17 c_math_bits_Len .leaf .leaf) .leaf) (.node 24 c_info_Windows (.node 23 c_pick_shelf_least .leaf .leaf) .leaf)) (.node 28 c_band_Offsets (.node 27 c_slices_Chunk_Lint (.node 26 c_slices_Max_Lint .leaf .leaf) .leaf) (.node 30 c_slices_ContainsFunc_Lint (.node 29 c_slices_Equal_Lint .leaf .leaf) .leaf)))) (.node 49 c_info_some (.node 37 c_cmp_Compare_uint8 (.node 34 c_book_kind_sizes (.node 33 c_book_kind_many (.node 32 c_book_of .leaf .leaf) .leaf) (.node 36 c_book_Get_1 (.node 35 c_slices_SortStableFunc_Lint .leaf .leaf) .leaf)) (.node 42 c_info_Group (.node 41 c_pick_lines_1 (.node 39 c_math_bits_Len64 .leaf .leaf) .leaf) (.node 48 c_pick_header (.node 47 c_pick_shelf_cost .leaf .leaf) .leaf))) (.node 55 c_cmp_isNaN_uint8 (.node 52 c_book_kinds (.node 51 c_slices_IndexFunc_Lint (.node 50 c_slices_Chunk_Lint_1 .leaf .leaf) .leaf) (.node 54 c_slices_stableCmpFunc_int (.node 53 c_book_kind_wide .leaf .leaf) .leaf)) (.node 69 c_slices_symMergeCmpFunc_int (.node 68 c_slices_insertionSortCmpFunc_int (.node 67 c_pick_kinds .leaf .leaf) .leaf) (.node 77 c_slices_swapRangeCmpFunc_int (.node 75 c_slices_rotateCmpFunc_int .leaf .leaf) .leaf)))))
def prog : Nat → Option VFunc := table.look
end Go.Vm
