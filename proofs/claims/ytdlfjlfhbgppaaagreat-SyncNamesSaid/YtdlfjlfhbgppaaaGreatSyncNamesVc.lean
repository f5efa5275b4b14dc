import Derived.Test.YtdlfjlfhbgppaaaGreatVmA
namespace Go.Vm
set_option maxRecDepth 100000
abbrev K (l : List Nat) : VC := .reg false [⟨none, none, .kill l, []⟩]
def c4 : VFunc := ⟨0, [.tmp 0],
 (.seq (.reg false [
  ⟨some 0, none, .mov (.c (.d (.bool false))), []⟩,
  ⟨none, none, .kill [0], []⟩])
 (.seq (.reg false [
  ⟨some 10, none, .call 7 [], [(0, 0)]⟩,
  ⟨some 1, none, .mov (.m 10), []⟩])
 (.seq (.reg false [
  ⟨some 11, none, .mov (.s 1), []⟩,
  ⟨some 12, none, .ia 1 (.m 11) (.c (.d (.int .i64 10))), []⟩,
  ⟨none, none, .st 1 (.m 12) (.c (.d (.int .u8 6))), []⟩])
 (.seq (.reg false [
  ⟨some 14, none, .call 9 [], []⟩,
  ⟨some 15, none, .mov (.m 1), []⟩,
  ⟨some 16, none, .call 7 [], []⟩,
  ⟨some 17, none, .app 1 (.m 15) (.m 16), []⟩,
  ⟨some 18, none, .call 8 [.m 14, .m 17], []⟩,
  ⟨some 13, none, .mov (.m 18), []⟩,
  ⟨some 19, none, .ext 13 true 0, []⟩,
  ⟨some 20, none, .ext 13 false 1, []⟩,
  ⟨some 2, none, .mov (.m 19), []⟩,
  ⟨some 3, none, .mov (.m 20), []⟩])
 (.seq (.reg false [
  ⟨some 22, none, .call 9 [], []⟩,
  ⟨some 23, none, .call 7 [], []⟩,
  ⟨some 24, none, .slice 1 (.m 23) none (some (.c (.d (.int .i64 10)))) none, []⟩,
  ⟨some 25, none, .call 8 [.m 22, .m 24], []⟩,
  ⟨some 21, none, .mov (.m 25), []⟩,
  ⟨some 26, none, .ext 21 true 0, []⟩,
  ⟨some 27, none, .ext 21 false 1, []⟩,
  ⟨some 4, none, .mov (.m 26), []⟩,
  ⟨some 5, none, .mov (.m 27), []⟩])
 (.seq (.reg false [
  ⟨some 29, none, .call 9 [], []⟩,
  ⟨some 30, none, .call 8 [.m 29, .c (.nl)], []⟩,
  ⟨some 28, none, .mov (.m 30), []⟩,
  ⟨some 31, none, .ext 28 true 0, []⟩,
  ⟨some 32, none, .ext 28 false 1, []⟩,
  ⟨some 6, none, .mov (.m 31), []⟩,
  ⟨some 7, none, .mov (.m 32), []⟩])
 (.seq (.reg false [
  ⟨some 34, none, .build [.d (.int .i64 0), .d (.int .i64 0), .d (.bool false), .d (.int .i64 0)] [(1, 1, .c (.d (.int .i64 3)))], []⟩,
  ⟨some 35, none, .call 8 [.m 34, .c (.nl)], []⟩,
  ⟨some 33, none, .mov (.m 35), []⟩,
  ⟨some 36, none, .ext 33 true 0, []⟩,
  ⟨some 37, none, .ext 33 false 1, []⟩,
  ⟨some 8, none, .mov (.m 36), []⟩,
  ⟨some 9, none, .mov (.m 37), []⟩,
  ⟨none, none, .kill [8], []⟩])
 (.seq (.reg false [
  ⟨some 38, none, .call 10 [], []⟩,
  ⟨some 39, none, .mov (.m 38), []⟩,
  ⟨some 40, (some (39, true)), .mov (.s 3), []⟩,
  ⟨some 41, (some (39, true)), .bin .eql (.s 40) (.c (.d (.int .i64 0))), []⟩,
  ⟨some 42, none, .pick (.m 39) (.m 41) (.c (.d (.bool false))), []⟩,
  ⟨some 43, none, .mov (.m 42), []⟩,
  ⟨some 44, (some (43, true)), .mov (.s 2), []⟩,
  ⟨some 45, (some (43, true)), .len (.s 44), []⟩,
  ⟨some 46, (some (43, true)), .bin .eql (.s 45) (.c (.d (.int .i64 2))), []⟩,
  ⟨some 47, none, .pick (.m 43) (.m 46) (.c (.d (.bool false))), []⟩,
  ⟨some 48, none, .mov (.m 47), []⟩,
  ⟨some 49, (some (48, true)), .mov (.s 2), []⟩,
  ⟨some 50, (some (48, true)), .ia 8 (.s 49) (.c (.d (.int .i64 0))), []⟩,
  ⟨some 51, (some (48, true)), .fa 2 (.s 50), []⟩,
  ⟨some 52, (some (48, true)), .ld none 0 (.s 51), []⟩,
  ⟨some 53, none, .pick (.m 48) (.m 52) (.c (.d (.bool false))), []⟩,
  ⟨some 54, none, .mov (.m 53), []⟩,
  ⟨some 55, (some (54, true)), .mov (.s 2), []⟩,
  ⟨some 56, (some (54, true)), .ia 8 (.s 55) (.c (.d (.int .i64 0))), []⟩,
  ⟨some 57, (some (54, true)), .fa 1 (.s 56), []⟩,
  ⟨some 58, (some (54, true)), .ld none 0 (.s 57), []⟩,
  ⟨some 59, (some (54, true)), .bin .eql (.s 58) (.c (.d (.int .i64 11))), []⟩,
  ⟨some 60, none, .pick (.m 54) (.m 59) (.c (.d (.bool false))), []⟩,
  ⟨some 61, none, .mov (.m 60), []⟩,
  ⟨some 62, (some (61, true)), .mov (.s 2), []⟩,
  ⟨some 63, (some (61, true)), .ia 8 (.s 62) (.c (.d (.int .i64 1))), []⟩,
  ⟨some 64, (some (61, true)), .fa 0 (.s 63), []⟩,
  ⟨some 65, (some (61, true)), .ld none 0 (.s 64), []⟩,
  ⟨some 66, (some (61, true)), .bin .eql (.s 65) (.c (.d (.int .i64 11))), []⟩,
  ⟨some 67, none, .pick (.m 61) (.m 66) (.c (.d (.bool false))), []⟩,
  ⟨some 68, none, .mov (.m 67), []⟩,
  ⟨some 69, (some (68, true)), .mov (.s 2), []⟩,
  ⟨some 70, (some (68, true)), .ia 8 (.s 69) (.c (.d (.int .i64 1))), []⟩,
  ⟨some 71, (some (68, true)), .fa 2 (.s 70), []⟩,
  ⟨some 72, (some (68, true)), .ld none 0 (.s 71), []⟩,
  ⟨some 73, (some (68, true)), .un .not (.s 72), []⟩,
  ⟨some 74, none, .pick (.m 68) (.m 73) (.c (.d (.bool false))), []⟩,
  ⟨some 75, none, .mov (.m 74), []⟩,
  ⟨some 76, (some (75, true)), .mov (.s 5), []⟩,
  ⟨some 77, (some (75, true)), .bin .eql (.s 76) (.c (.d (.int .i64 0))), []⟩,
  ⟨some 78, none, .pick (.m 75) (.m 77) (.c (.d (.bool false))), []⟩,
  ⟨some 79, none, .mov (.m 78), []⟩,
  ⟨some 80, (some (79, true)), .mov (.s 4), []⟩,
  ⟨some 81, (some (79, true)), .len (.s 80), []⟩,
  ⟨some 82, (some (79, true)), .bin .eql (.s 81) (.c (.d (.int .i64 0))), []⟩,
  ⟨some 83, none, .pick (.m 79) (.m 82) (.c (.d (.bool false))), []⟩,
  ⟨some 84, none, .mov (.m 83), []⟩,
  ⟨some 85, (some (84, true)), .mov (.s 7), []⟩,
  ⟨some 86, (some (84, true)), .bin .eql (.s 85) (.c (.d (.int .i64 0))), []⟩,
  ⟨some 87, none, .pick (.m 84) (.m 86) (.c (.d (.bool false))), []⟩,
  ⟨some 88, none, .mov (.m 87), []⟩,
  ⟨some 89, (some (88, true)), .mov (.s 6), []⟩,
  ⟨some 90, (some (88, true)), .len (.s 89), []⟩,
  ⟨some 91, (some (88, true)), .bin .eql (.s 90) (.c (.d (.int .i64 0))), []⟩,
  ⟨some 92, none, .pick (.m 88) (.m 91) (.c (.d (.bool false))), []⟩,
  ⟨some 93, none, .mov (.m 92), []⟩,
  ⟨some 94, (some (93, true)), .mov (.s 9), []⟩,
  ⟨some 95, (some (93, true)), .bin .eql (.s 94) (.c (.d (.int .i64 2))), []⟩,
  ⟨some 96, none, .pick (.m 93) (.m 95) (.c (.d (.bool false))), []⟩,
  ⟨some 0, none, .mov (.m 96), []⟩,
  ⟨none, none, .kill [2, 3, 4, 5, 6, 7, 9, 40, 44, 45, 49, 50, 51, 55, 56, 57, 58, 62, 63, 64, 65, 69, 70, 71, 72, 76, 80, 81, 85, 89, 90, 94], []⟩])
 .ret))))))))⟩
def c7 : VFunc := ⟨0, [.tmp 0],
 (.seq (.reg false [
  ⟨some 0, none, .mov (.c (.nl)), []⟩,
  ⟨none, none, .kill [0], []⟩])
 (.seq (.reg false [
  ⟨some 1, none, .mks 1 [.c (.d (.int .u8 255)), .c (.d (.int .u8 241)), .c (.d (.int .u8 64)), .c (.d (.int .u8 64)), .c (.d (.int .u8 1)), .c (.d (.int .u8 96)), .c (.d (.int .u8 20)), .c (.d (.int .u8 0)), .c (.d (.int .u8 0)), .c (.d (.int .u8 0)), .c (.d (.int .u8 7))], []⟩,
  ⟨some 0, none, .mov (.m 1), []⟩])
 .ret))⟩
def c8 : VFunc := ⟨2, [.tmp 4, .tmp 5],
 (.seq (.reg false [
  ⟨some 2, none, .box (.m 0), []⟩,
  ⟨some 4, none, .mov (.c (.nl)), []⟩,
  ⟨some 5, none, .mov (.c (.d (.int .i64 0))), []⟩,
  ⟨none, none, .kill [4, 5], []⟩])
 (.scope
 (.seq (.seq (.reg false [
  ⟨some 21, none, .ld (some 4) 0 (.s 2), []⟩,
  ⟨some 22, none, .build [.nl, .d (.bool false), .d (.int .i64 0), .nl, .nl] [], []⟩,
  ⟨some 23, none, .call 14 [.m 21, .m 22], []⟩,
  ⟨some 20, none, .mov (.m 23), []⟩,
  ⟨some 24, none, .ext 20 false 0, []⟩,
  ⟨some 25, none, .ext 20 false 1, []⟩,
  ⟨some 6, none, .mov (.m 24), []⟩,
  ⟨some 7, none, .mov (.m 25), []⟩,
  ⟨none, none, .kill [6], []⟩])
 (.seq (.reg false [
  ⟨some 26, none, .mov (.m 7), []⟩,
  ⟨some 27, none, .bin .eql (.m 26) (.c (.d (.int .i64 2))), []⟩])
 (.cond (.m 27)
 (.seq (K [1, 2]) (.seq (.reg false [
  ⟨some 4, none, .mov (.c (.nl)), []⟩,
  ⟨some 5, none, .mov (.c (.d (.int .i64 2))), []⟩])
 .ret))
 .skip)))
 (.seq (.seq (.reg false [
  ⟨some 28, none, .mov (.s 1), []⟩,
  ⟨some 29, none, .len (.m 28), []⟩,
  ⟨some 30, none, .bin .gtr (.m 29) (.c (.d (.int .i64 16777216))), []⟩])
 (.cond (.m 30)
 (.seq (K [1, 2]) (.seq (.reg false [
  ⟨some 4, none, .mov (.c (.nl)), []⟩,
  ⟨some 5, none, .mov (.c (.d (.int .i64 3))), []⟩])
 .ret))
 .skip))
 (.seq (.reg false [
  ⟨some 8, none, .mov (.c (.nl)), []⟩])
 (.seq (.reg false [
  ⟨some 9, none, .mov (.c (.d (.int .i64 0))), []⟩])
 (.seq (.label 0)
 (.block 0
 (.loop
 (.seq (.block 1
 (.seq (.seq (.reg true [
  ⟨some 31, none, .ld (some 4) 0 (.s 2), []⟩,
  ⟨some 32, none, .mov (.s 1), []⟩,
  ⟨some 33, none, .mov (.s 9), []⟩,
  ⟨some 34, none, .slice 1 (.m 32) (some (.m 33)) none none, []⟩,
  ⟨some 35, none, .call 15 [.m 31, .m 34], []⟩,
  ⟨some 10, none, .mov (.m 35), []⟩])
 (.seq (.reg false [
  ⟨some 36, none, .mov (.s 10), []⟩,
  ⟨some 37, none, .bin .gtr (.m 36) (.c (.d (.int .i64 0))), []⟩])
 (.cond (.m 37)
 (.seq (.reg false [
  ⟨some 39, none, .mov (.s 1), []⟩,
  ⟨some 40, none, .mov (.s 9), []⟩,
  ⟨some 41, none, .mov (.s 9), []⟩,
  ⟨some 42, none, .mov (.s 10), []⟩,
  ⟨some 43, none, .bin .add (.m 41) (.m 42), []⟩,
  ⟨some 44, none, .slice 1 (.m 39) (some (.m 40)) (some (.m 43)) none, []⟩,
  ⟨some 45, none, .call 16 [.m 44], []⟩,
  ⟨some 38, none, .mov (.m 45), []⟩,
  ⟨some 46, none, .ext 38 true 0, []⟩,
  ⟨some 47, none, .ext 38 true 1, []⟩,
  ⟨some 48, none, .ext 38 false 2, []⟩,
  ⟨some 11, none, .alloc [.d (.int .i64 0), .d (.int .i64 0), .d (.bool false), .d (.int .i64 0), .d (.int .i64 0)], []⟩,
  ⟨some 12, none, .alloc [.nl, .d (.bool false), .d (.int .i64 0), .nl, .nl], []⟩,
  ⟨none, none, .st 5 (.m 11) (.m 46), []⟩,
  ⟨none, none, .st 5 (.s 12) (.m 47), []⟩,
  ⟨some 13, none, .mov (.m 48), []⟩])
 (.seq (.reg false [
  ⟨some 49, none, .mov (.m 8), []⟩,
  ⟨some 50, none, .mov (.s 9), []⟩,
  ⟨some 51, none, .mov (.s 10), []⟩,
  ⟨some 52, none, .mov (.m 13), []⟩,
  ⟨some 53, none, .bin .neq (.m 52) (.c (.d (.int .i64 0))), []⟩,
  ⟨some 54, none, .ld (some 5) 1 (.m 12), []⟩,
  ⟨some 55, none, .build [.d (.int .i64 0), .d (.int .i64 0), .d (.bool false), .nl, .d (.bool false), .d (.int .i64 0), .nl, .nl] [(0, 1, .m 50), (1, 1, .m 51), (2, 1, .m 53), (3, 5, .m 54)], []⟩,
  ⟨some 56, none, .mks 8 [.m 55], []⟩,
  ⟨some 57, none, .app 8 (.m 49) (.m 56), []⟩,
  ⟨some 8, none, .mov (.m 57), []⟩])
 (.seq (.reg false [
  ⟨some 58, none, .mov (.m 9), []⟩,
  ⟨some 59, none, .mov (.m 10), []⟩,
  ⟨some 60, none, .bin .add (.m 58) (.m 59), []⟩,
  ⟨some 9, none, .mov (.m 60), []⟩])
 (.exit 1))))
 (.seq (K [10]) .skip))))
 (.seq (.seq (.reg false [
  ⟨some 61, none, .mov (.m 9), []⟩,
  ⟨some 62, none, .bin .add (.m 61) (.c (.d (.int .i64 1))), []⟩,
  ⟨some 14, none, .mov (.m 62), []⟩])
 (.block 2
 (.loop
 (.seq (.seq (.reg false [
  ⟨some 63, none, .mov (.s 14), []⟩,
  ⟨some 64, none, .mov (.s 1), []⟩,
  ⟨some 65, none, .len (.m 64), []⟩,
  ⟨some 66, none, .bin .lss (.m 63) (.m 65), []⟩])
 (.cond (.m 66)
 .skip
 (.seq (K [1, 2, 14]) (.exit 2))))
 (.seq (.block 3
 (.seq (.reg false [
  ⟨some 69, none, .mov (.s 1), []⟩,
  ⟨some 70, none, .mov (.s 14), []⟩,
  ⟨some 71, none, .slice 1 (.m 69) (some (.m 70)) none none, []⟩,
  ⟨some 72, none, .call 17 [.m 71, .c (.d (.int .u8 255))], []⟩,
  ⟨some 15, none, .mov (.m 72), []⟩])
 (.seq (.seq (.reg false [
  ⟨some 73, none, .mov (.s 15), []⟩,
  ⟨some 74, none, .bin .lss (.m 73) (.c (.d (.int .i64 0))), []⟩])
 (.cond (.m 74)
 (.seq (K [1, 2, 14, 15]) (.exit 2))
 .skip))
 (.seq (.reg false [
  ⟨some 75, none, .mov (.m 14), []⟩,
  ⟨some 76, none, .mov (.m 15), []⟩,
  ⟨some 77, none, .bin .add (.m 75) (.m 76), []⟩,
  ⟨some 14, none, .mov (.m 77), []⟩])
 (.seq (.reg true [
  ⟨some 78, none, .ld (some 4) 0 (.s 2), []⟩,
  ⟨some 79, none, .mov (.s 1), []⟩,
  ⟨some 80, none, .mov (.s 14), []⟩,
  ⟨some 81, none, .slice 1 (.m 79) (some (.m 80)) none none, []⟩,
  ⟨some 82, none, .call 15 [.m 78, .m 81], []⟩,
  ⟨some 16, none, .mov (.m 82), []⟩])
 (.seq (.seq (.reg false [
  ⟨some 83, none, .mov (.s 16), []⟩,
  ⟨some 84, none, .bin .eql (.m 83) (.c (.d (.int .i64 0))), []⟩])
 (.cond (.m 84)
 (.seq (K [16]) (.exit 3))
 .skip))
 (.seq (.reg false [
  ⟨some 86, none, .mov (.s 1), []⟩,
  ⟨some 87, none, .mov (.s 14), []⟩,
  ⟨some 88, none, .mov (.s 14), []⟩,
  ⟨some 89, none, .mov (.m 16), []⟩,
  ⟨some 90, none, .bin .add (.m 88) (.m 89), []⟩,
  ⟨some 91, none, .slice 1 (.m 86) (some (.m 87)) (some (.m 90)) none, []⟩,
  ⟨some 92, none, .call 16 [.m 91], []⟩,
  ⟨some 85, none, .mov (.m 92), []⟩,
  ⟨some 93, none, .ext 85 true 0, []⟩,
  ⟨some 94, none, .ext 85 true 1, []⟩,
  ⟨some 95, none, .ext 85 false 2, []⟩,
  ⟨some 17, none, .alloc [.d (.int .i64 0), .d (.int .i64 0), .d (.bool false), .d (.int .i64 0), .d (.int .i64 0)], []⟩,
  ⟨some 18, none, .alloc [.nl, .d (.bool false), .d (.int .i64 0), .nl, .nl], []⟩,
  ⟨none, none, .st 5 (.m 17) (.m 93), []⟩,
  ⟨none, none, .st 5 (.m 18) (.m 94), []⟩,
  ⟨some 19, none, .mov (.m 95), []⟩])
 (.seq (.reg false [
  ⟨some 96, none, .mov (.m 19), []⟩,
  ⟨some 97, none, .bin .eql (.m 96) (.c (.d (.int .i64 0))), []⟩])
 (.cond (.m 97)
 (.seq (.reg false [
  ⟨some 98, none, .mov (.m 14), []⟩,
  ⟨some 9, none, .mov (.m 98), []⟩])
 (.exit 1))
 .skip)))))))))
 (.reg false [
  ⟨some 67, none, .mov (.m 14), []⟩,
  ⟨some 68, none, .bin .add (.m 67) (.c (.d (.int .i64 1))), []⟩,
  ⟨some 14, none, .mov (.m 68), []⟩,
  ⟨none, none, .kill [9, 15, 16, 17, 18, 19, 69, 70, 71, 72, 73, 74, 75, 76, 77, 78, 79, 80, 81, 82, 83, 84, 85, 86, 87, 88, 89, 90, 91, 92, 93, 94, 95, 96, 97, 98], []⟩]))))))
 (.seq (.reg false [
  ⟨some 99, none, .mov (.m 8), []⟩,
  ⟨some 4, none, .mov (.m 99), []⟩,
  ⟨some 5, none, .mov (.c (.d (.int .i64 0))), []⟩,
  ⟨none, none, .kill [1, 2, 9, 14, 15, 16, 17, 18, 19, 63, 64, 65, 66, 67, 68, 69, 70, 71, 72, 73, 74, 75, 76, 77, 78, 79, 80, 81, 82, 83, 84, 85, 86, 87, 88, 89, 90, 91, 92, 93, 94, 95, 96, 97, 98], []⟩])
 .ret)))) (K [4, 5, 10, 11, 12, 13, 14, 15, 16, 17, 18, 19, 31, 32, 33, 34, 35, 36, 37, 38, 39, 40, 41, 42, 43, 44, 45, 46, 47, 48, 49, 50, 51, 52, 53, 54, 55, 56, 57, 58, 59, 60, 61, 62, 63, 64, 65, 66, 67, 68, 69, 70, 71, 72, 73, 74, 75, 76, 77, 78, 79, 80, 81, 82, 83, 84, 85, 86, 87, 88, 89, 90, 91, 92, 93, 94, 95, 96, 97, 98, 99])))))))))))⟩
def c9 : VFunc := ⟨0, [.cell 0 (some 4)],
 (.seq (.reg false [
  ⟨some 0, none, .alloc [.d (.int .i64 0), .d (.int .i64 0), .d (.bool false), .d (.int .i64 0)], []⟩])
 (.seq (.reg false [
  ⟨some 1, none, .build [.d (.int .i64 0), .d (.int .i64 0), .d (.bool false), .d (.int .i64 0)] [(1, 1, .c (.d (.int .i64 1)))], []⟩,
  ⟨none, none, .st 4 (.s 0) (.m 1), []⟩])
 .ret))⟩
def c10 : VFunc := ⟨0, [.tmp 0],
 (.seq (.reg false [
  ⟨some 0, none, .mov (.c (.d (.bool false))), []⟩,
  ⟨none, none, .kill [0], []⟩])
 (.seq (.reg false [
  ⟨some 6, none, .call 9 [], []⟩,
  ⟨some 7, none, .call 7 [], []⟩,
  ⟨some 8, none, .call 7 [], []⟩,
  ⟨some 9, none, .app 1 (.m 7) (.m 8), []⟩,
  ⟨some 10, none, .call 8 [.m 6, .m 9], []⟩,
  ⟨some 5, none, .mov (.m 10), []⟩,
  ⟨some 11, none, .ext 5 true 0, []⟩,
  ⟨some 12, none, .ext 5 false 1, []⟩,
  ⟨some 1, none, .mov (.m 11), []⟩,
  ⟨some 2, none, .mov (.m 12), []⟩])
 (.seq (.reg false [
  ⟨some 14, none, .call 9 [], []⟩,
  ⟨some 15, none, .mks 1 [.c (.d (.int .u8 0)), .c (.d (.int .u8 1))], []⟩,
  ⟨some 16, none, .call 7 [], []⟩,
  ⟨some 17, none, .app 1 (.m 15) (.m 16), []⟩,
  ⟨some 18, none, .call 8 [.m 14, .m 17], []⟩,
  ⟨some 13, none, .mov (.m 18), []⟩,
  ⟨some 19, none, .ext 13 true 0, []⟩,
  ⟨some 20, none, .ext 13 false 1, []⟩,
  ⟨some 3, none, .mov (.m 19), []⟩,
  ⟨some 4, none, .mov (.m 20), []⟩])
 (.seq (.reg false [
  ⟨some 21, none, .mov (.m 2), []⟩,
  ⟨some 22, none, .bin .eql (.m 21) (.c (.d (.int .i64 0))), []⟩,
  ⟨some 23, none, .mov (.m 22), []⟩,
  ⟨some 24, (some (23, true)), .mov (.s 1), []⟩,
  ⟨some 25, (some (23, true)), .len (.s 24), []⟩,
  ⟨some 26, (some (23, true)), .bin .eql (.s 25) (.c (.d (.int .i64 2))), []⟩,
  ⟨some 27, none, .pick (.m 23) (.m 26) (.c (.d (.bool false))), []⟩,
  ⟨some 28, none, .mov (.m 27), []⟩,
  ⟨some 29, (some (28, true)), .mov (.s 1), []⟩,
  ⟨some 30, (some (28, true)), .ia 8 (.s 29) (.c (.d (.int .i64 0))), []⟩,
  ⟨some 31, (some (28, true)), .fa 0 (.s 30), []⟩,
  ⟨some 32, (some (28, true)), .ld none 0 (.s 31), []⟩,
  ⟨some 33, (some (28, true)), .bin .eql (.s 32) (.c (.d (.int .i64 0))), []⟩,
  ⟨some 34, none, .pick (.m 28) (.m 33) (.c (.d (.bool false))), []⟩,
  ⟨some 35, none, .mov (.m 34), []⟩,
  ⟨some 36, (some (35, true)), .mov (.s 1), []⟩,
  ⟨some 37, (some (35, true)), .ia 8 (.s 36) (.c (.d (.int .i64 1))), []⟩,
  ⟨some 38, (some (35, true)), .fa 0 (.s 37), []⟩,
  ⟨some 39, (some (35, true)), .ld none 0 (.s 38), []⟩,
  ⟨some 40, (some (35, true)), .bin .eql (.s 39) (.c (.d (.int .i64 11))), []⟩,
  ⟨some 41, none, .pick (.m 35) (.m 40) (.c (.d (.bool false))), []⟩,
  ⟨some 42, none, .mov (.m 41), []⟩,
  ⟨some 43, (some (42, true)), .mov (.s 1), []⟩,
  ⟨some 44, (some (42, true)), .ia 8 (.s 43) (.c (.d (.int .i64 1))), []⟩,
  ⟨some 45, (some (42, true)), .fa 1 (.s 44), []⟩,
  ⟨some 46, (some (42, true)), .ld none 0 (.s 45), []⟩,
  ⟨some 47, (some (42, true)), .bin .eql (.s 46) (.c (.d (.int .i64 11))), []⟩,
  ⟨some 48, none, .pick (.m 42) (.m 47) (.c (.d (.bool false))), []⟩,
  ⟨some 49, none, .mov (.m 48), []⟩,
  ⟨some 50, (some (49, true)), .mov (.s 1), []⟩,
  ⟨some 51, (some (49, true)), .ia 8 (.s 50) (.c (.d (.int .i64 1))), []⟩,
  ⟨some 52, (some (49, true)), .fa 2 (.s 51), []⟩,
  ⟨some 53, (some (49, true)), .ld none 0 (.s 52), []⟩,
  ⟨some 54, (some (49, true)), .un .not (.s 53), []⟩,
  ⟨some 55, none, .pick (.m 49) (.m 54) (.c (.d (.bool false))), []⟩,
  ⟨some 56, none, .mov (.m 55), []⟩,
  ⟨some 57, (some (56, true)), .mov (.s 4), []⟩,
  ⟨some 58, (some (56, true)), .bin .eql (.s 57) (.c (.d (.int .i64 0))), []⟩,
  ⟨some 59, none, .pick (.m 56) (.m 58) (.c (.d (.bool false))), []⟩,
  ⟨some 60, none, .mov (.m 59), []⟩,
  ⟨some 61, (some (60, true)), .mov (.s 3), []⟩,
  ⟨some 62, (some (60, true)), .len (.s 61), []⟩,
  ⟨some 63, (some (60, true)), .bin .eql (.s 62) (.c (.d (.int .i64 1))), []⟩,
  ⟨some 64, none, .pick (.m 60) (.m 63) (.c (.d (.bool false))), []⟩,
  ⟨some 65, none, .mov (.m 64), []⟩,
  ⟨some 66, (some (65, true)), .mov (.s 3), []⟩,
  ⟨some 67, (some (65, true)), .ia 8 (.s 66) (.c (.d (.int .i64 0))), []⟩,
  ⟨some 68, (some (65, true)), .fa 0 (.s 67), []⟩,
  ⟨some 69, (some (65, true)), .ld none 0 (.s 68), []⟩,
  ⟨some 70, (some (65, true)), .bin .eql (.s 69) (.c (.d (.int .i64 2))), []⟩,
  ⟨some 71, none, .pick (.m 65) (.m 70) (.c (.d (.bool false))), []⟩,
  ⟨some 0, none, .mov (.m 71), []⟩,
  ⟨none, none, .kill [1, 3, 4, 24, 25, 29, 30, 31, 32, 36, 37, 38, 39, 43, 44, 45, 46, 50, 51, 52, 53, 57, 61, 62, 66, 67, 68, 69], []⟩])
 .ret))))⟩
def c14 : VFunc := ⟨2, [.tmp 4, .tmp 5],
 (.seq (.reg false [
  ⟨some 2, none, .box (.m 0), []⟩,
  ⟨some 3, none, .box (.m 1), []⟩,
  ⟨some 4, none, .mov (.c (.d (.int .i64 0))), []⟩,
  ⟨some 5, none, .mov (.c (.d (.int .i64 0))), []⟩,
  ⟨none, none, .kill [4, 5], []⟩])
 (.seq (.block 0
 (.seq (.reg false [
  ⟨some 7, none, .ld (some 4) 0 (.s 2), []⟩,
  ⟨some 8, none, .call 28 [.m 7], []⟩,
  ⟨some 9, none, .un .not (.m 8), []⟩,
  ⟨some 6, none, .mov (.m 9), []⟩])
 (.cond (.m 6)
 (.seq (K [2, 3]) (.seq (.reg false [
  ⟨some 4, none, .mov (.c (.d (.int .i64 0))), []⟩,
  ⟨some 5, none, .mov (.c (.d (.int .i64 2))), []⟩])
 .ret))
 (.seq (.reg false [
  ⟨some 11, none, .ld (some 4) 0 (.s 2), []⟩,
  ⟨some 12, none, .ld (some 5) 0 (.s 3), []⟩,
  ⟨some 13, none, .call 29 [.m 11, .m 12], []⟩,
  ⟨some 14, none, .un .not (.m 13), []⟩,
  ⟨some 10, none, .mov (.m 14), []⟩])
 (.cond (.m 10)
 (.seq (K [2, 3]) (.seq (.reg false [
  ⟨some 4, none, .mov (.c (.d (.int .i64 0))), []⟩,
  ⟨some 5, none, .mov (.c (.d (.int .i64 8))), []⟩])
 .ret))
 .skip)))))
 (.seq (.reg false [
  ⟨some 15, none, .ld (some 4) 1 (.m 2), []⟩,
  ⟨some 16, none, .ld (some 5) 1 (.m 3), []⟩,
  ⟨some 17, none, .call 30 [.m 15, .m 16], []⟩,
  ⟨some 18, none, .len (.m 17), []⟩,
  ⟨some 4, none, .mov (.m 18), []⟩,
  ⟨some 5, none, .mov (.c (.d (.int .i64 0))), []⟩,
  ⟨none, none, .kill [6, 7, 8, 9, 10, 11, 12, 13, 14], []⟩])
 .ret)))⟩
def c15 : VFunc := ⟨2, [.tmp 4],
 (.seq (.reg false [
  ⟨some 2, none, .box (.m 0), []⟩,
  ⟨some 4, none, .mov (.c (.d (.int .i64 0))), []⟩,
  ⟨none, none, .kill [4], []⟩])
 (.seq (.reg false [
  ⟨some 8, none, .mov (.s 1), []⟩,
  ⟨some 9, none, .call 31 [.m 8], []⟩,
  ⟨some 7, none, .mov (.m 9), []⟩,
  ⟨some 10, none, .ext 7 true 0, []⟩,
  ⟨some 11, none, .ext 7 false 1, []⟩,
  ⟨some 5, none, .alloc [.d (.int .i64 0), .d (.int .i64 0), .d (.bool false), .d (.int .i64 0), .d (.int .i64 0)], []⟩,
  ⟨none, none, .st 5 (.s 5) (.m 10), []⟩,
  ⟨some 6, none, .mov (.m 11), []⟩])
 (.seq (.seq (.reg false [
  ⟨some 12, none, .mov (.m 6), []⟩,
  ⟨some 13, none, .bin .neq (.m 12) (.c (.d (.int .i64 0))), []⟩,
  ⟨some 14, none, .mov (.m 13), []⟩,
  ⟨some 15, (some (14, false)), .fa 0 (.s 5), []⟩,
  ⟨some 16, (some (14, false)), .ld none 0 (.s 15), []⟩,
  ⟨some 17, (some (14, false)), .fa 0 (.s 2), []⟩,
  ⟨some 18, (some (14, false)), .ld none 0 (.s 17), []⟩,
  ⟨some 19, (some (14, false)), .bin .neq (.s 16) (.s 18), []⟩,
  ⟨some 20, none, .pick (.m 14) (.c (.d (.bool true))) (.m 19), []⟩,
  ⟨some 21, none, .mov (.m 20), []⟩,
  ⟨some 22, (some (21, false)), .fa 1 (.s 5), []⟩,
  ⟨some 23, (some (21, false)), .ld none 0 (.s 22), []⟩,
  ⟨some 24, (some (21, false)), .fa 1 (.s 2), []⟩,
  ⟨some 25, (some (21, false)), .ld none 0 (.s 24), []⟩,
  ⟨some 26, (some (21, false)), .bin .neq (.s 23) (.s 25), []⟩,
  ⟨some 27, none, .pick (.m 21) (.c (.d (.bool true))) (.m 26), []⟩,
  ⟨some 28, none, .mov (.m 27), []⟩,
  ⟨some 29, (some (28, false)), .fa 2 (.s 5), []⟩,
  ⟨some 30, (some (28, false)), .ld none 0 (.s 29), []⟩,
  ⟨some 31, (some (28, false)), .fa 2 (.s 2), []⟩,
  ⟨some 32, (some (28, false)), .ld none 0 (.s 31), []⟩,
  ⟨some 33, (some (28, false)), .binb true (.s 30) (.s 32), []⟩,
  ⟨some 34, none, .pick (.m 28) (.c (.d (.bool true))) (.m 33), []⟩,
  ⟨some 35, none, .mov (.m 34), []⟩,
  ⟨some 36, (some (35, false)), .fa 3 (.s 5), []⟩,
  ⟨some 37, (some (35, false)), .ld none 0 (.s 36), []⟩,
  ⟨some 38, (some (35, false)), .mov (.s 1), []⟩,
  ⟨some 39, (some (35, false)), .len (.s 38), []⟩,
  ⟨some 40, (some (35, false)), .bin .gtr (.s 37) (.s 39), []⟩,
  ⟨some 41, none, .pick (.m 35) (.c (.d (.bool true))) (.m 40), []⟩,
  ⟨none, none, .kill [1, 2, 15, 16, 17, 18, 22, 23, 24, 25, 29, 30, 31, 32, 36, 37, 38, 39], []⟩])
 (.cond (.m 41)
 (.seq (K [5]) (.seq (.reg false [
  ⟨some 4, none, .mov (.c (.d (.int .i64 0))), []⟩])
 .ret))
 .skip))
 (.seq (.reg false [
  ⟨some 42, none, .fa 3 (.m 5), []⟩,
  ⟨some 43, none, .ld none 0 (.m 42), []⟩,
  ⟨some 4, none, .mov (.m 43), []⟩])
 .ret))))⟩
def c16 : VFunc := ⟨1, [.cell 2 (some 5), .cell 3 (some 5), .tmp 4],
 (.seq (.reg false [
  ⟨some 2, none, .alloc [.d (.int .i64 0), .d (.int .i64 0), .d (.bool false), .d (.int .i64 0), .d (.int .i64 0)], []⟩,
  ⟨some 3, none, .alloc [.nl, .d (.bool false), .d (.int .i64 0), .nl, .nl], []⟩,
  ⟨some 4, none, .mov (.c (.d (.int .i64 0))), []⟩,
  ⟨none, none, .kill [4], []⟩])
 (.seq (.reg false [
  ⟨some 10, none, .mov (.s 0), []⟩,
  ⟨some 11, none, .call 31 [.m 10], []⟩,
  ⟨some 9, none, .mov (.m 11), []⟩,
  ⟨some 12, none, .ext 9 true 0, []⟩,
  ⟨some 13, none, .ext 9 false 1, []⟩,
  ⟨some 5, none, .alloc [.d (.int .i64 0), .d (.int .i64 0), .d (.bool false), .d (.int .i64 0), .d (.int .i64 0)], []⟩,
  ⟨none, none, .st 5 (.s 5) (.m 12), []⟩,
  ⟨some 6, none, .mov (.m 13), []⟩])
 (.seq (.block 0
 (.seq (.reg false [
  ⟨some 15, none, .mov (.s 6), []⟩,
  ⟨some 16, none, .bin .neq (.m 15) (.c (.d (.int .i64 0))), []⟩,
  ⟨some 14, none, .mov (.m 16), []⟩])
 (.cond (.m 14)
 (.seq (K [0, 5]) (.seq (.reg false [
  ⟨some 17, none, .build [.d (.int .i64 0), .d (.int .i64 0), .d (.bool false), .d (.int .i64 0), .d (.int .i64 0)] [], []⟩,
  ⟨some 18, none, .build [.nl, .d (.bool false), .d (.int .i64 0), .nl, .nl] [], []⟩,
  ⟨some 19, none, .mov (.m 6), []⟩,
  ⟨none, none, .st 5 (.s 2) (.m 17), []⟩,
  ⟨none, none, .st 5 (.s 3) (.m 18), []⟩,
  ⟨some 4, none, .mov (.m 19), []⟩])
 .ret))
 (.seq (K [6]) (.seq (.reg false [
  ⟨some 21, none, .mov (.s 0), []⟩,
  ⟨some 22, none, .len (.m 21), []⟩,
  ⟨some 23, none, .fa 3 (.s 5), []⟩,
  ⟨some 24, none, .ld none 0 (.m 23), []⟩,
  ⟨some 25, none, .bin .lss (.m 22) (.m 24), []⟩,
  ⟨some 20, none, .mov (.m 25), []⟩])
 (.cond (.m 20)
 (.seq (K [0, 5]) (.seq (.reg false [
  ⟨some 26, none, .build [.d (.int .i64 0), .d (.int .i64 0), .d (.bool false), .d (.int .i64 0), .d (.int .i64 0)] [], []⟩,
  ⟨some 27, none, .build [.nl, .d (.bool false), .d (.int .i64 0), .nl, .nl] [], []⟩,
  ⟨none, none, .st 5 (.s 2) (.m 26), []⟩,
  ⟨none, none, .st 5 (.s 3) (.m 27), []⟩,
  ⟨some 4, none, .mov (.c (.d (.int .i64 5))), []⟩])
 .ret))
 (.seq (.reg false [
  ⟨some 29, none, .mov (.s 0), []⟩,
  ⟨some 30, none, .len (.m 29), []⟩,
  ⟨some 31, none, .fa 3 (.s 5), []⟩,
  ⟨some 32, none, .ld none 0 (.m 31), []⟩,
  ⟨some 33, none, .bin .gtr (.m 30) (.m 32), []⟩,
  ⟨some 28, none, .mov (.m 33), []⟩])
 (.cond (.m 28)
 (.seq (K [0, 5]) (.seq (.reg false [
  ⟨some 34, none, .build [.d (.int .i64 0), .d (.int .i64 0), .d (.bool false), .d (.int .i64 0), .d (.int .i64 0)] [], []⟩,
  ⟨some 35, none, .build [.nl, .d (.bool false), .d (.int .i64 0), .nl, .nl] [], []⟩,
  ⟨none, none, .st 5 (.s 2) (.m 34), []⟩,
  ⟨none, none, .st 5 (.s 3) (.m 35), []⟩,
  ⟨some 4, none, .mov (.c (.d (.int .i64 8))), []⟩])
 .ret))
 .skip))))))))
 (.seq (.reg false [
  ⟨some 36, none, .mov (.s 0), []⟩,
  ⟨some 37, none, .fa 2 (.s 5), []⟩,
  ⟨some 38, none, .ld none 0 (.m 37), []⟩,
  ⟨some 39, none, .call 32 [.m 38], []⟩,
  ⟨some 40, none, .slice 1 (.m 36) (some (.m 39)) none none, []⟩,
  ⟨some 7, none, .mov (.m 40), []⟩,
  ⟨none, none, .kill [4, 14, 15, 16, 17, 18, 19, 20, 21, 22, 23, 24, 25, 26, 27, 28, 29, 30, 31, 32, 33, 34, 35], []⟩])
 (.seq (.seq (.seq (.reg true [
  ⟨some 41, none, .fa 2 (.s 5), []⟩,
  ⟨some 42, none, .ld none 0 (.m 41), []⟩,
  ⟨some 43, none, .mov (.m 42), []⟩,
  ⟨some 44, (some (43, true)), .mov (.s 0), []⟩,
  ⟨some 45, (some (43, true)), .slice 1 (.s 44) none (some (.c (.d (.int .i64 7)))) none, []⟩,
  ⟨some 46, (some (43, true)), .mov (.s 7), []⟩,
  ⟨some 47, (some (43, true)), .mks 1 [.s 45, .s 46], []⟩,
  ⟨some 48, (some (43, true)), .call 33 [.s 47], []⟩,
  ⟨some 49, (some (43, true)), .mov (.s 0), []⟩,
  ⟨some 50, (some (43, true)), .ia 1 (.s 49) (.c (.d (.int .i64 7))), []⟩,
  ⟨some 51, (some (43, true)), .ld none 0 (.s 50), []⟩,
  ⟨some 52, (some (43, true)), .conv .i64 (.s 51), []⟩,
  ⟨some 53, (some (43, true)), .bin .shl (.s 52) (.c (.d (.int .u64 8))), []⟩,
  ⟨some 54, (some (43, true)), .mov (.s 0), []⟩,
  ⟨some 55, (some (43, true)), .ia 1 (.s 54) (.c (.d (.int .i64 8))), []⟩,
  ⟨some 56, (some (43, true)), .ld none 0 (.s 55), []⟩,
  ⟨some 57, (some (43, true)), .conv .i64 (.s 56), []⟩,
  ⟨some 58, (some (43, true)), .bin .or (.s 53) (.s 57), []⟩,
  ⟨some 59, (some (43, true)), .bin .neq (.s 48) (.s 58), []⟩,
  ⟨some 60, none, .pick (.s 43) (.m 59) (.c (.d (.bool false))), []⟩]) (K [0, 43, 44, 45, 46, 47, 48, 49, 50, 51, 52, 53, 54, 55, 56, 57, 58]))
 (.cond (.m 60)
 (.seq (K [5, 7]) (.seq (.reg false [
  ⟨some 61, none, .build [.d (.int .i64 0), .d (.int .i64 0), .d (.bool false), .d (.int .i64 0), .d (.int .i64 0)] [], []⟩,
  ⟨some 62, none, .build [.nl, .d (.bool false), .d (.int .i64 0), .nl, .nl] [], []⟩,
  ⟨none, none, .st 5 (.s 2) (.m 61), []⟩,
  ⟨none, none, .st 5 (.s 3) (.m 62), []⟩,
  ⟨some 4, none, .mov (.c (.d (.int .i64 250))), []⟩])
 .ret))
 .skip))
 (.seq (.reg false [
  ⟨some 64, none, .fa 0 (.s 5), []⟩,
  ⟨some 65, none, .ld none 0 (.m 64), []⟩,
  ⟨some 66, none, .fa 1 (.s 5), []⟩,
  ⟨some 67, none, .ld none 0 (.m 66), []⟩,
  ⟨some 68, none, .build [.d (.int .i64 0), .d (.int .i64 0), .d (.bool false), .d (.int .i64 0)] [(0, 1, .m 65), (1, 1, .m 67)], []⟩,
  ⟨some 69, none, .mov (.m 7), []⟩,
  ⟨some 70, none, .call 34 [.m 68, .m 69], []⟩,
  ⟨some 63, none, .mov (.m 70), []⟩,
  ⟨some 71, none, .ext 63 true 0, []⟩,
  ⟨some 72, none, .ext 63 false 1, []⟩,
  ⟨some 8, none, .alloc [.nl, .d (.bool false), .d (.int .i64 0), .nl, .nl], []⟩,
  ⟨none, none, .st 5 (.s 8) (.m 71), []⟩,
  ⟨some 6, none, .mov (.m 72), []⟩])
 (.seq (.seq (.reg false [
  ⟨some 73, none, .mov (.s 6), []⟩,
  ⟨some 74, none, .bin .neq (.m 73) (.c (.d (.int .i64 0))), []⟩])
 (.cond (.m 74)
 (.seq (K [5, 8]) (.seq (.reg false [
  ⟨some 75, none, .build [.d (.int .i64 0), .d (.int .i64 0), .d (.bool false), .d (.int .i64 0), .d (.int .i64 0)] [], []⟩,
  ⟨some 76, none, .build [.nl, .d (.bool false), .d (.int .i64 0), .nl, .nl] [], []⟩,
  ⟨some 77, none, .mov (.m 6), []⟩,
  ⟨none, none, .st 5 (.s 2) (.m 75), []⟩,
  ⟨none, none, .st 5 (.s 3) (.m 76), []⟩,
  ⟨some 4, none, .mov (.m 77), []⟩])
 .ret))
 (.seq (K [6]) .skip)))
 (.seq (.regP [0, 1, 2, 3, 4] [0, 2, 1, 3, 4] [1, 2] [
  ⟨some 78, none, .ld (some 5) 0 (.m 5), []⟩,
  ⟨some 79, none, .ld (some 5) 0 (.m 8), []⟩,
  ⟨none, none, .st 5 (.s 2) (.m 78), []⟩,
  ⟨none, none, .st 5 (.s 3) (.m 79), []⟩,
  ⟨some 4, none, .mov (.c (.d (.int .i64 0))), []⟩])
 .ret))))))))⟩
def c17 : VFunc := ⟨2, [.tmp 4],
 (.seq (.reg false [
  ⟨some 4, none, .mov (.c (.d (.int .i64 0))), []⟩,
  ⟨none, none, .kill [4], []⟩])
 (.seq (.reg false [
  ⟨some 5, none, .mov (.m 0), []⟩,
  ⟨some 6, none, .mov (.m 1), []⟩,
  ⟨some 7, none, .idxb (.m 5) (.m 6), []⟩,
  ⟨some 4, none, .mov (.m 7), []⟩])
 .ret))⟩
def c20 : VFunc := ⟨1, [.tmp 2],
 (.clone 1)⟩
def c28 : VFunc := ⟨1, [.tmp 2],
 (.seq (.reg false [
  ⟨some 1, none, .box (.m 0), []⟩,
  ⟨some 2, none, .mov (.c (.d (.bool false))), []⟩,
  ⟨none, none, .kill [2], []⟩])
 (.seq (.reg false [
  ⟨some 3, none, .fa 0 (.s 1), []⟩,
  ⟨some 4, none, .ld none 0 (.m 3), []⟩,
  ⟨some 5, none, .bin .geq (.m 4) (.c (.d (.int .i64 0))), []⟩,
  ⟨some 6, none, .mov (.m 5), []⟩,
  ⟨some 7, (some (6, true)), .fa 0 (.s 1), []⟩,
  ⟨some 8, (some (6, true)), .ld none 0 (.s 7), []⟩,
  ⟨some 9, (some (6, true)), .bin .leq (.s 8) (.c (.d (.int .i64 11))), []⟩,
  ⟨some 10, none, .pick (.m 6) (.m 9) (.c (.d (.bool false))), []⟩,
  ⟨some 11, none, .mov (.m 10), []⟩,
  ⟨some 12, (some (11, true)), .fa 1 (.s 1), []⟩,
  ⟨some 13, (some (11, true)), .ld none 0 (.s 12), []⟩,
  ⟨some 14, (some (11, true)), .bin .eql (.s 13) (.c (.d (.int .i64 1))), []⟩,
  ⟨some 15, (some (11, true)), .mov (.s 14), []⟩,
  ⟨some 16, (some (15, false)), .fa 1 (.s 1), []⟩,
  ⟨some 17, (some (15, false)), .ld none 0 (.s 16), []⟩,
  ⟨some 18, (some (15, false)), .bin .eql (.s 17) (.c (.d (.int .i64 2))), []⟩,
  ⟨some 19, (some (11, true)), .pick (.s 15) (.c (.d (.bool true))) (.s 18), []⟩,
  ⟨some 20, none, .pick (.m 11) (.m 19) (.c (.d (.bool false))), []⟩,
  ⟨some 2, none, .mov (.m 20), []⟩,
  ⟨none, none, .kill [1, 7, 8, 12, 13, 14, 15, 16, 17, 18], []⟩])
 .ret))⟩
def c29 : VFunc := ⟨2, [.tmp 4],
 (.seq (.reg false [
  ⟨some 2, none, .box (.m 0), []⟩,
  ⟨some 3, none, .box (.m 1), []⟩,
  ⟨some 4, none, .mov (.c (.d (.bool false))), []⟩,
  ⟨none, none, .kill [4], []⟩])
 (.seq (.seq (.reg false [
  ⟨some 6, none, .fa 0 (.s 3), []⟩,
  ⟨some 7, none, .ld none 0 (.m 6), []⟩,
  ⟨some 8, none, .len (.m 7), []⟩,
  ⟨some 9, none, .fa 1 (.s 2), []⟩,
  ⟨some 10, none, .ld none 0 (.m 9), []⟩,
  ⟨some 11, none, .bin .neq (.m 8) (.m 10), []⟩,
  ⟨some 12, none, .mov (.m 11), []⟩,
  ⟨some 13, (some (12, false)), .fa 4 (.s 3), []⟩,
  ⟨some 14, (some (12, false)), .ld none 0 (.s 13), []⟩,
  ⟨some 15, (some (12, false)), .len (.s 14), []⟩,
  ⟨some 16, (some (12, false)), .bin .gtr (.s 15) (.c (.d (.int .i64 269))), []⟩,
  ⟨some 17, none, .pick (.m 12) (.c (.d (.bool true))) (.m 16), []⟩,
  ⟨some 18, none, .mov (.m 17), []⟩,
  ⟨some 19, (some (18, false)), .fa 2 (.s 3), []⟩,
  ⟨some 20, (some (18, false)), .ld none 0 (.s 19), []⟩,
  ⟨some 21, (some (18, false)), .bin .lss (.s 20) (.c (.d (.int .i64 0))), []⟩,
  ⟨some 22, none, .pick (.m 18) (.c (.d (.bool true))) (.m 21), []⟩,
  ⟨some 23, none, .mov (.m 22), []⟩,
  ⟨some 24, (some (23, false)), .fa 2 (.s 3), []⟩,
  ⟨some 25, (some (23, false)), .ld none 0 (.s 24), []⟩,
  ⟨some 26, (some (23, false)), .bin .gtr (.s 25) (.c (.d (.int .i64 2))), []⟩,
  ⟨some 27, none, .pick (.m 23) (.c (.d (.bool true))) (.m 26), []⟩,
  ⟨none, none, .kill [13, 14, 15, 19, 20, 24, 25], []⟩])
 (.cond (.m 27)
 (.seq (K [2, 3]) (.seq (.reg false [
  ⟨some 4, none, .mov (.c (.d (.bool false))), []⟩])
 .ret))
 .skip))
 (.seq (.seq (.reg false [
  ⟨some 28, none, .fa 0 (.s 3), []⟩,
  ⟨some 29, none, .ld none 0 (.m 28), []⟩,
  ⟨some 30, none, .mkfn 49 [] [.s 2], []⟩,
  ⟨some 31, none, .calli 48 [.m 29, .m 30], []⟩])
 (.cond (.m 31)
 (.seq (K [2, 3]) (.seq (.reg false [
  ⟨some 4, none, .mov (.c (.d (.bool false))), []⟩])
 .ret))
 .skip))
 (.seq (.reg false [
  ⟨some 32, none, .fa 0 (.s 3), []⟩,
  ⟨some 33, none, .ld none 0 (.m 32), []⟩,
  ⟨some 34, none, .ia 9 (.m 33) (.c (.d (.int .i64 0))), []⟩,
  ⟨some 35, none, .fa 1 (.m 34), []⟩,
  ⟨some 36, none, .ld (some 4) 0 (.m 35), []⟩,
  ⟨some 5, none, .alloc [.d (.int .u8 0), .d (.int .u8 0), .d (.int .i64 0), .nl], []⟩,
  ⟨none, none, .st 4 (.s 5) (.m 36), []⟩])
 (.seq (.block 0
 (.seq (.reg false [
  ⟨some 38, none, .fa 1 (.s 3), []⟩,
  ⟨some 39, none, .ld none 0 (.m 38), []⟩,
  ⟨some 40, none, .un .not (.m 39), []⟩,
  ⟨some 37, none, .mov (.m 40), []⟩])
 (.cond (.m 37)
 (.seq (K [2, 5]) (.seq (.reg false [
  ⟨some 41, none, .fa 2 (.s 3), []⟩,
  ⟨some 42, none, .ld none 0 (.m 41), []⟩,
  ⟨some 43, none, .bin .eql (.m 42) (.c (.d (.int .i64 0))), []⟩,
  ⟨some 44, none, .mov (.m 43), []⟩,
  ⟨some 45, (some (44, true)), .fa 3 (.s 3), []⟩,
  ⟨some 46, (some (44, true)), .ld none 0 (.s 45), []⟩,
  ⟨some 47, (some (44, true)), .len (.s 46), []⟩,
  ⟨some 48, (some (44, true)), .bin .eql (.s 47) (.c (.d (.int .i64 0))), []⟩,
  ⟨some 49, none, .pick (.m 44) (.m 48) (.c (.d (.bool false))), []⟩,
  ⟨some 4, none, .mov (.m 49), []⟩,
  ⟨none, none, .kill [3, 45, 46, 47], []⟩])
 .ret))
 (.seq (.seq (.reg true [
  ⟨some 51, none, .fa 1 (.m 2), []⟩,
  ⟨some 52, none, .ld none 0 (.m 51), []⟩,
  ⟨some 53, none, .bin .eql (.m 52) (.c (.d (.int .i64 1))), []⟩,
  ⟨some 54, none, .mov (.m 53), []⟩,
  ⟨some 55, (some (54, false)), .ld (some 4) 0 (.s 5), []⟩,
  ⟨some 56, (some (54, false)), .fa 0 (.s 3), []⟩,
  ⟨some 57, (some (54, false)), .ld none 0 (.s 56), []⟩,
  ⟨some 58, (some (54, false)), .ia 9 (.s 57) (.c (.d (.int .i64 1))), []⟩,
  ⟨some 59, (some (54, false)), .fa 1 (.s 58), []⟩,
  ⟨some 60, (some (54, false)), .ld (some 4) 0 (.s 59), []⟩,
  ⟨some 61, (some (54, false)), .call 45 [.s 55, .s 60], []⟩,
  ⟨some 62, (some (54, false)), .un .not (.s 61), []⟩,
  ⟨some 63, none, .pick (.s 54) (.c (.d (.bool true))) (.m 62), []⟩,
  ⟨some 50, none, .mov (.m 63), []⟩]) (K [54, 55, 56, 57, 58, 59, 60, 61]))
 (.cond (.m 50)
 (.seq (K [3, 5]) (.seq (.reg false [
  ⟨some 4, none, .mov (.c (.d (.bool false))), []⟩])
 .ret))
 (.seq (.reg false [
  ⟨some 65, none, .fa 2 (.s 3), []⟩,
  ⟨some 66, none, .ld none 0 (.m 65), []⟩,
  ⟨some 67, none, .bin .neq (.m 66) (.c (.d (.int .i64 1))), []⟩,
  ⟨some 64, none, .mov (.m 67), []⟩])
 (.cond (.m 64)
 (.seq (K [5]) (.seq (.reg false [
  ⟨some 68, none, .fa 3 (.m 3), []⟩,
  ⟨some 69, none, .ld none 0 (.m 68), []⟩,
  ⟨some 70, none, .len (.m 69), []⟩,
  ⟨some 71, none, .bin .eql (.m 70) (.c (.d (.int .i64 0))), []⟩,
  ⟨some 4, none, .mov (.m 71), []⟩])
 .ret))
 .skip)))))))
 (.seq (.reg false [
  ⟨some 72, none, .fa 3 (.s 3), []⟩,
  ⟨some 73, none, .ld none 0 (.m 72), []⟩,
  ⟨some 74, none, .len (.m 73), []⟩,
  ⟨some 75, none, .fa 3 (.s 5), []⟩,
  ⟨some 76, none, .ld none 0 (.m 75), []⟩,
  ⟨some 77, none, .len (.m 76), []⟩,
  ⟨some 78, none, .bin .eql (.m 74) (.m 77), []⟩,
  ⟨some 79, none, .mov (.m 78), []⟩,
  ⟨some 80, (some (79, true)), .fa 3 (.s 3), []⟩,
  ⟨some 81, (some (79, true)), .ld none 0 (.s 80), []⟩,
  ⟨some 82, (some (79, true)), .mkfn 50 [] [.s 5], []⟩,
  ⟨some 83, (some (79, true)), .calli 47 [.s 81, .s 82], []⟩,
  ⟨some 84, (some (79, true)), .un .not (.s 83), []⟩,
  ⟨some 85, none, .pick (.m 79) (.m 84) (.c (.d (.bool false))), []⟩,
  ⟨some 4, none, .mov (.m 85), []⟩,
  ⟨none, none, .kill [3, 5, 37, 38, 39, 40, 41, 42, 43, 44, 45, 46, 47, 48, 49, 50, 51, 52, 53, 54, 55, 56, 57, 58, 59, 60, 61, 62, 63, 64, 65, 66, 67, 68, 69, 70, 71, 80, 81, 82, 83], []⟩])
 .ret))))))⟩
def c31 : VFunc := ⟨1, [.cell 2 (some 5), .tmp 3],
 (.seq (.reg false [
  ⟨some 2, none, .alloc [.d (.int .i64 0), .d (.int .i64 0), .d (.bool false), .d (.int .i64 0), .d (.int .i64 0)], []⟩,
  ⟨some 3, none, .mov (.c (.d (.int .i64 0))), []⟩,
  ⟨none, none, .kill [3], []⟩])
 (.seq (.seq (.reg false [
  ⟨some 12, none, .mov (.s 0), []⟩,
  ⟨some 13, none, .len (.m 12), []⟩,
  ⟨some 14, none, .bin .lss (.m 13) (.c (.d (.int .i64 7))), []⟩])
 (.cond (.m 14)
 (.seq (K [0]) (.seq (.reg false [
  ⟨some 15, none, .ld (some 5) 0 (.s 2), []⟩,
  ⟨none, none, .st 5 (.s 2) (.m 15), []⟩,
  ⟨some 3, none, .mov (.c (.d (.int .i64 5))), []⟩])
 .ret))
 .skip))
 (.seq (.reg false [
  ⟨some 17, none, .mov (.s 0), []⟩,
  ⟨some 18, none, .slice 1 (.m 17) none (some (.c (.d (.int .i64 7)))) none, []⟩,
  ⟨some 19, none, .call 57 [.m 18], []⟩,
  ⟨some 16, none, .mov (.m 19), []⟩,
  ⟨some 20, none, .ext 16 true 0, []⟩,
  ⟨some 21, none, .ext 16 false 1, []⟩,
  ⟨some 4, none, .mov (.m 20), []⟩,
  ⟨some 5, none, .mov (.m 21), []⟩,
  ⟨none, none, .kill [5], []⟩])
 (.seq (.reg false [
  ⟨some 6, none, .mov (.c (.d (.int .i64 0))), []⟩])
 (.seq (.seq (.reg false [
  ⟨some 22, none, .ld (some 5) 0 (.s 2), []⟩,
  ⟨some 23, none, .call 58 [.m 22], []⟩,
  ⟨some 24, none, .mov (.c (.d (.int .i64 0))), []⟩])
 (.block 0
 (.loop
 (.seq (.reg false [
  ⟨some 25, none, .bin .lss (.s 24) (.c (.d (.int .i64 14))), []⟩])
 (.seq (.cond (.m 25)
 .skip
 (.seq (K [6, 23, 24]) (.exit 0)))
 (.seq (.block 1
 (.seq (.reg false [
  ⟨some 26, none, .mov (.s 24), []⟩,
  ⟨some 27, none, .ix 14 2 true (.s 23) (.s 24), []⟩,
  ⟨some 8, none, .alloc [.d (.int .i64 0), .d (.int .i64 0)], []⟩,
  ⟨some 7, none, .mov (.m 26), []⟩,
  ⟨none, none, .st 2 (.s 8) (.m 27), []⟩])
 (.seq (.reg false [
  ⟨some 29, none, .mov (.s 4), []⟩,
  ⟨some 30, none, .mov (.m 6), []⟩,
  ⟨some 31, none, .fa 1 (.m 8), []⟩,
  ⟨some 32, none, .ld none 0 (.m 31), []⟩,
  ⟨some 33, none, .call 59 [.m 29, .m 30, .m 32], []⟩,
  ⟨some 28, none, .mov (.m 33), []⟩,
  ⟨some 34, none, .ext 28 false 0, []⟩,
  ⟨some 35, none, .ext 28 false 1, []⟩,
  ⟨some 36, none, .ext 28 false 2, []⟩,
  ⟨some 9, none, .mov (.m 34), []⟩,
  ⟨some 10, none, .mov (.m 35), []⟩,
  ⟨some 11, none, .mov (.m 36), []⟩,
  ⟨none, none, .kill [11], []⟩])
 (.seq (.reg false [
  ⟨some 37, none, .mov (.m 10), []⟩,
  ⟨some 6, none, .mov (.m 37), []⟩])
 (.seq (.reg false [
  ⟨some 38, none, .mov (.m 7), []⟩])
 (.block 2
 (.seq (.reg false [
  ⟨some 40, none, .bin .eql (.s 38) (.c (.d (.int .i64 3))), []⟩,
  ⟨some 39, none, .mov (.m 40), []⟩])
 (.cond (.m 39)
 (.seq (K [38]) (.reg false [
  ⟨some 41, none, .mov (.m 9), []⟩,
  ⟨some 42, none, .bin .eql (.m 41) (.c (.d (.int .i64 0))), []⟩,
  ⟨some 43, none, .fa 2 (.s 2), []⟩,
  ⟨none, none, .st 1 (.m 43) (.m 42), []⟩]))
 (.seq (.reg false [
  ⟨some 45, none, .bin .eql (.s 38) (.c (.d (.int .i64 5))), []⟩,
  ⟨some 44, none, .mov (.m 45), []⟩])
 (.cond (.m 44)
 (.seq (K [38]) (.reg false [
  ⟨some 46, none, .mov (.m 9), []⟩,
  ⟨some 47, none, .fa 0 (.s 2), []⟩,
  ⟨none, none, .st 1 (.m 47) (.m 46), []⟩]))
 (.seq (.reg false [
  ⟨some 49, none, .bin .eql (.s 38) (.c (.d (.int .i64 7))), []⟩,
  ⟨some 48, none, .mov (.m 49), []⟩])
 (.cond (.m 48)
 (.seq (K [38]) (.reg false [
  ⟨some 50, none, .mov (.m 9), []⟩,
  ⟨some 51, none, .fa 1 (.s 2), []⟩,
  ⟨none, none, .st 1 (.m 51) (.m 50), []⟩]))
 (.seq (.reg false [
  ⟨some 53, none, .bin .eql (.s 38) (.c (.d (.int .i64 11))), []⟩,
  ⟨some 52, none, .mov (.m 53), []⟩])
 (.cond (.m 52)
 (.seq (K [38]) (.reg false [
  ⟨some 54, none, .mov (.m 9), []⟩,
  ⟨some 55, none, .fa 3 (.s 2), []⟩,
  ⟨none, none, .st 1 (.m 55) (.m 54), []⟩]))
 (.seq (.reg false [
  ⟨some 57, none, .bin .eql (.m 38) (.c (.d (.int .i64 12))), []⟩,
  ⟨some 56, none, .mov (.m 57), []⟩])
 (.cond (.m 56)
 (.reg false [
  ⟨some 58, none, .mov (.m 9), []⟩,
  ⟨some 59, none, .fa 4 (.s 2), []⟩,
  ⟨none, none, .st 1 (.m 59) (.m 58), []⟩])
 (.seq (K [9]) .skip)))))))))))))))))
 (.reg false [
  ⟨some 60, none, .bin .add (.m 24) (.c (.d (.int .i64 1))), []⟩,
  ⟨some 24, none, .mov (.m 60), []⟩,
  ⟨none, none, .kill [7, 8, 9, 10, 11, 26, 27, 28, 29, 30, 31, 32, 33, 34, 35, 36, 37, 38, 39, 40, 41, 42, 43, 44, 45, 46, 47, 48, 49, 50, 51, 52, 53, 54, 55, 56, 57, 58, 59], []⟩])))))))
 (.seq (.block 3
 (.seq (.reg false [
  ⟨some 62, none, .mov (.m 0), []⟩,
  ⟨some 63, none, .len (.m 62), []⟩,
  ⟨some 64, none, .fa 2 (.s 2), []⟩,
  ⟨some 65, none, .ld none 0 (.m 64), []⟩,
  ⟨some 66, none, .call 32 [.m 65], []⟩,
  ⟨some 67, none, .bin .lss (.m 63) (.m 66), []⟩,
  ⟨some 61, none, .mov (.m 67), []⟩,
  ⟨none, none, .kill [6, 7, 8, 9, 10, 11, 23, 24, 25, 26, 27, 28, 29, 30, 31, 32, 33, 34, 35, 36, 37, 38, 39, 40, 41, 42, 43, 44, 45, 46, 47, 48, 49, 50, 51, 52, 53, 54, 55, 56, 57, 58, 59, 60], []⟩])
 (.cond (.m 61)
 (.seq (K [4]) (.seq (.reg false [
  ⟨some 68, none, .build [.d (.int .i64 0), .d (.int .i64 0), .d (.bool false), .d (.int .i64 0), .d (.int .i64 0)] [], []⟩,
  ⟨none, none, .st 5 (.s 2) (.m 68), []⟩,
  ⟨some 3, none, .mov (.c (.d (.int .i64 5))), []⟩])
 .ret))
 (.seq (.reg false [
  ⟨some 70, none, .ld (some 5) 0 (.s 2), []⟩,
  ⟨some 71, none, .call 60 [.m 70], []⟩,
  ⟨some 72, none, .un .not (.m 71), []⟩,
  ⟨some 73, none, .mov (.m 72), []⟩,
  ⟨some 74, (some (73, false)), .ld (some 5) 0 (.s 2), []⟩,
  ⟨some 75, (some (73, false)), .call 62 [.s 74], []⟩,
  ⟨some 76, (some (73, false)), .mov (.s 4), []⟩,
  ⟨some 77, (some (73, false)), .call 61 [.s 75, .s 76], []⟩,
  ⟨some 78, (some (73, false)), .un .not (.s 77), []⟩,
  ⟨some 79, none, .pick (.m 73) (.c (.d (.bool true))) (.m 78), []⟩,
  ⟨some 69, none, .mov (.m 79), []⟩,
  ⟨none, none, .kill [4, 74, 75, 76, 77], []⟩])
 (.cond (.m 69)
 (.seq (.reg false [
  ⟨some 80, none, .build [.d (.int .i64 0), .d (.int .i64 0), .d (.bool false), .d (.int .i64 0), .d (.int .i64 0)] [], []⟩,
  ⟨none, none, .st 5 (.s 2) (.m 80), []⟩,
  ⟨some 3, none, .mov (.c (.d (.int .i64 8))), []⟩])
 .ret)
 .skip)))))
 (.seq (.reg false [
  ⟨some 81, none, .ld (some 5) 0 (.s 2), []⟩,
  ⟨none, none, .st 5 (.s 2) (.m 81), []⟩,
  ⟨some 3, none, .mov (.c (.d (.int .i64 0))), []⟩,
  ⟨none, none, .kill [61, 62, 63, 64, 65, 66, 67, 68, 69, 70, 71, 72, 73, 74, 75, 76, 77, 78, 79, 80], []⟩])
 .ret)))))))⟩
def c32 : VFunc := ⟨1, [.tmp 2],
 (.seq (.reg false [
  ⟨some 2, none, .mov (.c (.d (.int .i64 0))), []⟩,
  ⟨none, none, .kill [2], []⟩])
 (.seq (.seq (.reg false [
  ⟨some 3, none, .mov (.m 0), []⟩])
 (.cond (.m 3)
 (.seq (.reg false [
  ⟨some 2, none, .mov (.c (.d (.int .i64 9))), []⟩])
 .ret)
 .skip))
 (.seq (.reg false [
  ⟨some 2, none, .mov (.c (.d (.int .i64 7))), []⟩])
 .ret)))⟩
def c34 : VFunc := ⟨2, [.cell 4 (some 5), .tmp 5],
 (.seq (.reg false [
  ⟨some 2, none, .box (.m 0), []⟩,
  ⟨some 4, none, .alloc [.nl, .d (.bool false), .d (.int .i64 0), .nl, .nl], []⟩,
  ⟨some 5, none, .mov (.c (.d (.int .i64 0))), []⟩,
  ⟨none, none, .kill [5], []⟩])
 (.seq (.block 0
 (.seq (.reg false [
  ⟨some 12, none, .ld (some 4) 0 (.s 2), []⟩,
  ⟨some 13, none, .call 28 [.m 12], []⟩,
  ⟨some 14, none, .un .not (.m 13), []⟩,
  ⟨some 11, none, .mov (.m 14), []⟩])
 (.cond (.m 11)
 (.seq (K [1, 2]) (.seq (.reg false [
  ⟨some 15, none, .ld (some 5) 0 (.s 4), []⟩,
  ⟨none, none, .st 5 (.s 4) (.m 15), []⟩,
  ⟨some 5, none, .mov (.c (.d (.int .i64 2))), []⟩])
 .ret))
 (.seq (.reg false [
  ⟨some 17, none, .mov (.s 1), []⟩,
  ⟨some 18, none, .len (.m 17), []⟩,
  ⟨some 19, none, .fa 1 (.s 2), []⟩,
  ⟨some 20, none, .ld none 0 (.m 19), []⟩,
  ⟨some 21, none, .bin .mul (.c (.d (.int .i64 192))) (.m 20), []⟩,
  ⟨some 22, none, .bin .gtr (.m 18) (.m 21), []⟩,
  ⟨some 16, none, .mov (.m 22), []⟩])
 (.cond (.m 16)
 (.seq (K [1, 2]) (.seq (.reg false [
  ⟨some 23, none, .ld (some 5) 0 (.s 4), []⟩,
  ⟨none, none, .st 5 (.s 4) (.m 23), []⟩,
  ⟨some 5, none, .mov (.c (.d (.int .i64 3))), []⟩])
 .ret))
 .skip)))))
 (.seq (.reg false [
  ⟨some 24, none, .build [.nl, .d (.int .i64 0), .d (.int .i64 0)] [], []⟩,
  ⟨some 25, none, .box (.m 24), []⟩,
  ⟨some 6, none, .mov (.m 25), []⟩,
  ⟨none, none, .kill [5, 11, 12, 13, 14, 15, 16, 17, 18, 19, 20, 21, 22, 23], []⟩])
 (.seq (.reg false [
  ⟨some 27, none, .mov (.s 6), []⟩,
  ⟨some 28, none, .mov (.m 1), []⟩,
  ⟨some 29, none, .call 57 [.m 28], []⟩,
  ⟨some 26, none, .mov (.m 29), []⟩,
  ⟨some 30, none, .ext 26 true 0, []⟩,
  ⟨some 31, none, .ext 26 false 1, []⟩,
  ⟨some 32, none, .nilck (.m 27), []⟩,
  ⟨some 33, none, .fa 0 (.m 32), []⟩,
  ⟨none, none, .st 1 (.m 33) (.m 30), []⟩,
  ⟨none, none, .kill [31], []⟩])
 (.seq (.seq (.regP [0, 1, 3, 4, 5, 2, 6, 7] [0, 1, 2, 3, 4, 5, 6, 7] [2, 4] [
  ⟨some 34, none, .mov (.s 6), []⟩,
  ⟨some 35, none, .mov (.s 6), []⟩,
  ⟨some 36, none, .calli 65 [.m 35, .c (.d (.int .i64 3))], []⟩,
  ⟨some 37, none, .fa 1 (.s 2), []⟩,
  ⟨some 38, none, .ld none 0 (.m 37), []⟩,
  ⟨some 39, none, .bin .sub (.m 38) (.c (.d (.int .i64 1))), []⟩,
  ⟨some 40, none, .bin .eql (.m 36) (.m 39), []⟩,
  ⟨some 41, none, .calli 64 [.m 34, .m 40], []⟩]) (K [41]))
 (.seq (.reg false [
  ⟨some 42, none, .mov (.s 6), []⟩,
  ⟨some 43, none, .mov (.s 6), []⟩,
  ⟨some 44, none, .calli 65 [.m 43, .c (.d (.int .i64 4))], []⟩,
  ⟨some 45, none, .bin .eql (.m 44) (.c (.d (.int .i64 0))), []⟩,
  ⟨some 46, none, .calli 64 [.m 42, .m 45], []⟩,
  ⟨none, none, .kill [46], []⟩])
 (.seq (.reg false [
  ⟨some 7, none, .alloc [.d (.int .u8 0), .d (.int .u8 0), .d (.int .i64 0), .nl], []⟩])
 (.seq (.seq (.reg false [
  ⟨some 47, none, .fa 1 (.s 2), []⟩,
  ⟨some 48, none, .ld none 0 (.m 47), []⟩,
  ⟨some 49, none, .bin .eql (.m 48) (.c (.d (.int .i64 2))), []⟩])
 (.cond (.m 49)
 (.reg false [
  ⟨some 50, none, .mov (.s 6), []⟩,
  ⟨some 51, none, .calli 65 [.m 50, .c (.d (.int .i64 1))], []⟩,
  ⟨some 52, none, .bin .eql (.m 51) (.c (.d (.int .i64 1))), []⟩,
  ⟨some 53, none, .fa 1 (.s 4), []⟩,
  ⟨none, none, .st 1 (.m 53) (.m 52), []⟩])
 .skip))
 (.seq (.seq (.reg false [
  ⟨some 54, none, .fa 1 (.s 4), []⟩,
  ⟨some 55, none, .ld none 0 (.m 54), []⟩,
  ⟨some 56, none, .mov (.m 55), []⟩,
  ⟨some 57, (some (56, true)), .mov (.s 6), []⟩,
  ⟨some 58, (some (56, true)), .nilck (.s 57), []⟩,
  ⟨some 59, (some (56, true)), .fa 2 (.s 58), []⟩,
  ⟨some 60, (some (56, true)), .ld none 0 (.s 59), []⟩,
  ⟨some 61, (some (56, true)), .bin .eql (.s 60) (.c (.d (.int .i64 0))), []⟩,
  ⟨some 62, none, .pick (.m 56) (.m 61) (.c (.d (.bool false))), []⟩,
  ⟨none, none, .kill [57, 58, 59, 60], []⟩])
 (.cond (.m 62)
 (.seq (.seq (.seq (.regP [0, 1, 2, 3, 4, 5, 6, 7, 8, 9, 10, 11, 12, 13, 14, 15, 16, 17, 18, 19, 20, 21, 22, 23] [2, 3, 4, 5, 6, 7, 8, 9, 10, 11, 12, 13, 14, 17, 0, 15, 18, 19, 20, 1, 16, 21, 22, 23] [] [
  ⟨some 64, none, .mov (.s 6), []⟩,
  ⟨some 65, none, .mov (.s 6), []⟩,
  ⟨some 66, none, .mov (.s 6), []⟩,
  ⟨some 67, none, .nilck (.m 66), []⟩,
  ⟨some 68, none, .fa 0 (.m 67), []⟩,
  ⟨some 69, none, .ld none 0 (.m 68), []⟩,
  ⟨some 70, none, .mov (.s 6), []⟩,
  ⟨some 71, none, .nilck (.m 70), []⟩,
  ⟨some 72, none, .fa 1 (.m 71), []⟩,
  ⟨some 73, none, .ld none 0 (.m 72), []⟩,
  ⟨some 74, none, .fa 0 (.s 2), []⟩,
  ⟨some 75, none, .ld none 0 (.m 74), []⟩,
  ⟨some 76, none, .call 66 [.m 69, .m 73, .m 75], []⟩,
  ⟨some 63, none, .mov (.m 76), []⟩,
  ⟨some 77, none, .ext 63 true 0, []⟩,
  ⟨some 78, none, .ext 63 false 1, []⟩,
  ⟨some 79, none, .ext 63 false 2, []⟩,
  ⟨none, none, .st 4 (.s 7) (.m 77), []⟩,
  ⟨some 80, none, .nilck (.m 64), []⟩,
  ⟨some 81, none, .fa 1 (.m 80), []⟩,
  ⟨none, none, .st 1 (.m 81) (.m 78), []⟩,
  ⟨some 82, none, .nilck (.m 65), []⟩,
  ⟨some 83, none, .fa 2 (.m 82), []⟩,
  ⟨none, none, .st 1 (.m 83) (.m 79), []⟩]) (K [63]))
 (.seq (.reg false [
  ⟨some 84, none, .mov (.s 6), []⟩,
  ⟨some 85, none, .nilck (.m 84), []⟩,
  ⟨some 86, none, .fa 2 (.m 85), []⟩,
  ⟨some 87, none, .ld none 0 (.m 86), []⟩,
  ⟨some 88, none, .bin .neq (.m 87) (.c (.d (.int .i64 0))), []⟩])
 (.cond (.m 88)
 (.seq (K [2, 7]) (.seq (.regP [0, 1, 2, 3, 4, 5, 6] [0, 5, 1, 2, 3, 4, 6] [4, 5] [
  ⟨some 89, none, .build [.nl, .d (.bool false), .d (.int .i64 0), .nl, .nl] [], []⟩,
  ⟨some 90, none, .mov (.m 6), []⟩,
  ⟨some 91, none, .nilck (.m 90), []⟩,
  ⟨some 92, none, .fa 2 (.m 91), []⟩,
  ⟨some 93, none, .ld none 0 (.m 92), []⟩,
  ⟨none, none, .st 5 (.s 4) (.m 89), []⟩,
  ⟨some 5, none, .mov (.m 93), []⟩])
 .ret))
 .skip)))
 (.seq (.reg false [
  ⟨some 94, none, .mov (.s 6), []⟩,
  ⟨some 95, none, .calli 65 [.m 94, .c (.d (.int .i64 2))], []⟩,
  ⟨some 96, none, .fa 2 (.s 4), []⟩,
  ⟨none, none, .st 1 (.m 96) (.m 95), []⟩])
 (.seq (.reg false [
  ⟨some 97, none, .mov (.s 6), []⟩,
  ⟨some 98, none, .fa 2 (.s 4), []⟩,
  ⟨some 99, none, .ld none 0 (.m 98), []⟩,
  ⟨some 100, none, .bin .lss (.m 99) (.c (.d (.int .i64 3))), []⟩,
  ⟨some 101, none, .calli 64 [.m 97, .m 100], []⟩,
  ⟨none, none, .kill [101], []⟩])
 (.seq (.reg false [
  ⟨some 102, none, .fa 3 (.s 7), []⟩,
  ⟨some 103, none, .ld none 0 (.m 102), []⟩,
  ⟨some 104, none, .len (.m 103), []⟩,
  ⟨some 105, none, .mov (.c (.d (.int .i64 0))), []⟩])
 (.block 1
 (.loop
 (.seq (.reg false [
  ⟨some 106, none, .bin .lss (.s 105) (.s 104), []⟩])
 (.seq (.cond (.m 106)
 .skip
 (.seq (K [104, 105]) (.exit 1)))
 (.seq (.block 2
 (.seq (.seq (.reg false [
  ⟨some 107, none, .fa 2 (.s 4), []⟩,
  ⟨some 108, none, .ld none 0 (.m 107), []⟩,
  ⟨some 109, none, .bin .neq (.m 108) (.c (.d (.int .i64 1))), []⟩,
  ⟨some 110, none, .mov (.m 109), []⟩,
  ⟨some 111, (some (110, false)), .mov (.s 6), []⟩,
  ⟨some 112, (some (110, false)), .nilck (.s 111), []⟩,
  ⟨some 113, (some (110, false)), .fa 2 (.s 112), []⟩,
  ⟨some 114, (some (110, false)), .ld none 0 (.s 113), []⟩,
  ⟨some 115, (some (110, false)), .bin .neq (.s 114) (.c (.d (.int .i64 0))), []⟩,
  ⟨some 116, none, .pick (.m 110) (.c (.d (.bool true))) (.m 115), []⟩,
  ⟨none, none, .kill [111, 112, 113, 114], []⟩])
 (.cond (.m 116)
 (.seq (K [104, 105]) (.exit 1))
 .skip))
 (.seq (.reg false [
  ⟨some 117, none, .fa 2 (.s 7), []⟩,
  ⟨some 118, none, .ld none 0 (.m 117), []⟩,
  ⟨some 119, none, .mkslice [.bool false] (.s 118) (.s 118), [(0, 0)]⟩,
  ⟨some 8, none, .mov (.m 119), []⟩,
  ⟨none, none, .kill [118], []⟩])
 (.seq (.seq (.reg false [
  ⟨some 120, none, .mov (.s 8), []⟩,
  ⟨some 121, none, .len (.m 120), []⟩,
  ⟨some 122, none, .mov (.c (.d (.int .i64 0))), []⟩])
 (.block 3
 (.loop
 (.seq (.reg false [
  ⟨some 123, none, .bin .lss (.s 122) (.s 121), []⟩])
 (.seq (.cond (.m 123)
 .skip
 (.seq (K [121, 122]) (.exit 3)))
 (.seq (.block 4
 (.seq (.reg false [
  ⟨some 124, none, .mov (.s 122), []⟩,
  ⟨some 9, none, .mov (.m 124), []⟩])
 (.reg false [
  ⟨some 125, none, .mov (.s 8), []⟩,
  ⟨some 126, none, .mov (.m 9), []⟩,
  ⟨some 127, none, .mov (.s 6), []⟩,
  ⟨some 128, none, .calli 65 [.m 127, .c (.d (.int .i64 1))], []⟩,
  ⟨some 129, none, .bin .eql (.m 128) (.c (.d (.int .i64 1))), []⟩,
  ⟨some 130, none, .ia 1 (.m 125) (.m 126), []⟩,
  ⟨none, none, .st 1 (.m 130) (.m 129), []⟩])))
 (.reg false [
  ⟨some 131, none, .bin .add (.m 122) (.c (.d (.int .i64 1))), []⟩,
  ⟨some 122, none, .mov (.m 131), []⟩,
  ⟨none, none, .kill [9, 124, 125, 126, 127, 128, 129, 130], []⟩])))))))
 (.reg false [
  ⟨some 132, none, .fa 3 (.s 4), []⟩,
  ⟨some 133, none, .ld none 1 (.m 132), []⟩,
  ⟨some 134, none, .mov (.m 8), []⟩,
  ⟨none, none, .frz 134, []⟩,
  ⟨some 135, none, .mks 1 [.m 134], []⟩,
  ⟨some 136, none, .app 1 (.m 133) (.m 135), [(0, 0)]⟩,
  ⟨some 137, none, .fa 3 (.s 4), []⟩,
  ⟨none, none, .st 1 (.m 137) (.m 136), []⟩,
  ⟨none, none, .kill [9, 121, 122, 123, 124, 125, 126, 127, 128, 129, 130, 131], []⟩])))))
 (.reg false [
  ⟨some 138, none, .bin .add (.m 105) (.c (.d (.int .i64 1))), []⟩,
  ⟨some 105, none, .mov (.m 138), []⟩,
  ⟨none, none, .kill [8, 9, 107, 108, 109, 110, 111, 112, 113, 114, 115, 116, 117, 118, 119, 120, 121, 122, 123, 124, 125, 126, 127, 128, 129, 130, 131, 132, 133, 134, 135, 136, 137], []⟩]))))))))))
 .skip))
 (.seq (.seq (.reg false [
  ⟨some 139, none, .fa 1 (.s 2), []⟩,
  ⟨some 140, none, .ld none 0 (.m 139), []⟩,
  ⟨some 141, none, .mov (.c (.d (.int .i64 0))), []⟩,
  ⟨none, none, .kill [8, 9, 104, 105, 106, 107, 108, 109, 110, 111, 112, 113, 114, 115, 116, 117, 118, 119, 120, 121, 122, 123, 124, 125, 126, 127, 128, 129, 130, 131, 132, 133, 134, 135, 136, 137, 138], []⟩])
 (.block 5
 (.loop
 (.seq (.reg false [
  ⟨some 142, none, .bin .lss (.s 141) (.s 140), []⟩])
 (.seq (.cond (.m 142)
 .skip
 (.seq (K [2, 7, 140, 141]) (.exit 5)))
 (.seq (.block 6
 (.seq (.seq (.reg false [
  ⟨some 143, none, .mov (.s 6), []⟩,
  ⟨some 144, none, .nilck (.m 143), []⟩,
  ⟨some 145, none, .fa 2 (.m 144), []⟩,
  ⟨some 146, none, .ld none 0 (.m 145), []⟩,
  ⟨some 147, none, .bin .neq (.m 146) (.c (.d (.int .i64 0))), []⟩])
 (.cond (.m 147)
 (.seq (K [2, 7, 140, 141]) (.seq (.regP [0, 1, 2, 3, 4, 5, 6] [0, 5, 1, 2, 3, 4, 6] [4, 5] [
  ⟨some 148, none, .build [.nl, .d (.bool false), .d (.int .i64 0), .nl, .nl] [], []⟩,
  ⟨some 149, none, .mov (.m 6), []⟩,
  ⟨some 150, none, .nilck (.m 149), []⟩,
  ⟨some 151, none, .fa 2 (.m 150), []⟩,
  ⟨some 152, none, .ld none 0 (.m 151), []⟩,
  ⟨none, none, .st 5 (.s 4) (.m 148), []⟩,
  ⟨some 5, none, .mov (.m 152), []⟩])
 .ret))
 .skip))
 (.seq (.reg false [
  ⟨some 10, none, .alloc [.d (.int .i64 0), .d (.int .u8 0), .d (.int .u8 0), .d (.int .i64 0), .nl, .nl, .nl, .nl, .nl], []⟩])
 (.seq (.seq (.seq (.regP [0, 1, 2, 3, 4, 5, 6, 7, 8, 9, 10, 11, 12, 13, 14, 15, 16, 17, 18, 19, 20, 21, 22, 23, 24, 25, 26] [2, 3, 4, 5, 6, 7, 8, 9, 10, 11, 12, 13, 14, 15, 16, 17, 20, 0, 18, 21, 22, 23, 1, 19, 24, 25, 26] [] [
  ⟨some 154, none, .mov (.s 6), []⟩,
  ⟨some 155, none, .mov (.s 6), []⟩,
  ⟨some 156, none, .mov (.s 6), []⟩,
  ⟨some 157, none, .nilck (.m 156), []⟩,
  ⟨some 158, none, .fa 0 (.m 157), []⟩,
  ⟨some 159, none, .ld none 0 (.m 158), []⟩,
  ⟨some 160, none, .mov (.s 6), []⟩,
  ⟨some 161, none, .nilck (.m 160), []⟩,
  ⟨some 162, none, .fa 1 (.m 161), []⟩,
  ⟨some 163, none, .ld none 0 (.m 162), []⟩,
  ⟨some 164, none, .fa 0 (.s 2), []⟩,
  ⟨some 165, none, .ld none 0 (.m 164), []⟩,
  ⟨some 166, none, .fa 1 (.s 4), []⟩,
  ⟨some 167, none, .ld none 0 (.m 166), []⟩,
  ⟨some 168, none, .ld (some 4) 0 (.s 7), []⟩,
  ⟨some 169, none, .call 67 [.m 159, .m 163, .m 165, .m 167, .m 168], []⟩,
  ⟨some 153, none, .mov (.m 169), []⟩,
  ⟨some 170, none, .ext 153 true 0, []⟩,
  ⟨some 171, none, .ext 153 false 1, []⟩,
  ⟨some 172, none, .ext 153 false 2, []⟩,
  ⟨none, none, .st 9 (.s 10) (.m 170), []⟩,
  ⟨some 173, none, .nilck (.m 154), []⟩,
  ⟨some 174, none, .fa 1 (.m 173), []⟩,
  ⟨none, none, .st 1 (.m 174) (.m 171), []⟩,
  ⟨some 175, none, .nilck (.m 155), []⟩,
  ⟨some 176, none, .fa 2 (.m 175), []⟩,
  ⟨none, none, .st 1 (.m 176) (.m 172), []⟩]) (K [153]))
 (.seq (.reg false [
  ⟨some 177, none, .mov (.s 6), []⟩,
  ⟨some 178, none, .nilck (.m 177), []⟩,
  ⟨some 179, none, .fa 2 (.m 178), []⟩,
  ⟨some 180, none, .ld none 0 (.m 179), []⟩,
  ⟨some 181, none, .bin .neq (.m 180) (.c (.d (.int .i64 0))), []⟩])
 (.cond (.m 181)
 (.seq (K [2, 7, 10, 140, 141]) (.seq (.regP [0, 1, 2, 3, 4, 5, 6] [0, 5, 1, 2, 3, 4, 6] [4, 5] [
  ⟨some 182, none, .build [.nl, .d (.bool false), .d (.int .i64 0), .nl, .nl] [], []⟩,
  ⟨some 183, none, .mov (.m 6), []⟩,
  ⟨some 184, none, .nilck (.m 183), []⟩,
  ⟨some 185, none, .fa 2 (.m 184), []⟩,
  ⟨some 186, none, .ld none 0 (.m 185), []⟩,
  ⟨none, none, .st 5 (.s 4) (.m 182), []⟩,
  ⟨some 5, none, .mov (.m 186), []⟩])
 .ret))
 .skip)))
 (.reg false [
  ⟨some 187, none, .fa 0 (.s 4), []⟩,
  ⟨some 188, none, .ld none 1 (.m 187), []⟩,
  ⟨some 189, none, .ld (some 9) 1 (.m 10), []⟩,
  ⟨some 190, none, .mks 9 [.m 189], []⟩,
  ⟨some 191, none, .app 9 (.m 188) (.m 190), [(0, 0)]⟩,
  ⟨some 192, none, .fa 0 (.s 4), []⟩,
  ⟨none, none, .st 1 (.m 192) (.m 191), []⟩])))))
 (.reg false [
  ⟨some 193, none, .bin .add (.m 141) (.c (.d (.int .i64 1))), []⟩,
  ⟨some 141, none, .mov (.m 193), []⟩,
  ⟨none, none, .kill [5, 10, 143, 144, 145, 146, 147, 148, 149, 150, 151, 152, 153, 154, 155, 156, 157, 158, 159, 160, 161, 162, 163, 164, 165, 166, 167, 168, 169, 170, 171, 172, 173, 174, 175, 176, 177, 178, 179, 180, 181, 182, 183, 184, 185, 186, 187, 188, 189, 190, 191, 192], []⟩])))))))
 (.seq (.reg false [
  ⟨some 195, none, .mov (.s 6), []⟩,
  ⟨some 196, none, .calli 68 [.m 195], []⟩,
  ⟨some 194, none, .mov (.m 196), []⟩,
  ⟨some 197, none, .ext 194 true 0, []⟩,
  ⟨some 198, none, .ext 194 false 1, []⟩,
  ⟨some 199, none, .fa 4 (.s 4), []⟩,
  ⟨none, none, .st 1 (.m 199) (.m 197), []⟩,
  ⟨none, none, .kill [2, 5, 7, 10, 140, 141, 142, 143, 144, 145, 146, 147, 148, 149, 150, 151, 152, 153, 154, 155, 156, 157, 158, 159, 160, 161, 162, 163, 164, 165, 166, 167, 168, 169, 170, 171, 172, 173, 174, 175, 176, 177, 178, 179, 180, 181, 182, 183, 184, 185, 186, 187, 188, 189, 190, 191, 192, 193, 198], []⟩])
 (.seq (.seq (.reg false [
  ⟨some 200, none, .mov (.s 6), []⟩,
  ⟨some 201, none, .nilck (.m 200), []⟩,
  ⟨some 202, none, .fa 2 (.m 201), []⟩,
  ⟨some 203, none, .ld none 0 (.m 202), []⟩,
  ⟨some 204, none, .bin .neq (.m 203) (.c (.d (.int .i64 0))), []⟩])
 (.cond (.m 204)
 (.seq (.regP [0, 1, 2, 3, 4, 5, 6] [0, 5, 1, 2, 3, 4, 6] [4, 5] [
  ⟨some 205, none, .build [.nl, .d (.bool false), .d (.int .i64 0), .nl, .nl] [], []⟩,
  ⟨some 206, none, .mov (.m 6), []⟩,
  ⟨some 207, none, .nilck (.m 206), []⟩,
  ⟨some 208, none, .fa 2 (.m 207), []⟩,
  ⟨some 209, none, .ld none 0 (.m 208), []⟩,
  ⟨none, none, .st 5 (.s 4) (.m 205), []⟩,
  ⟨some 5, none, .mov (.m 209), []⟩])
 .ret)
 .skip))
 (.seq (.seq (.seq (.reg true [
  ⟨some 210, none, .mov (.s 6), []⟩,
  ⟨some 211, none, .nilck (.m 210), []⟩,
  ⟨some 212, none, .fa 0 (.m 211), []⟩,
  ⟨some 213, none, .ld none 0 (.m 212), []⟩,
  ⟨some 214, none, .len (.m 213), []⟩,
  ⟨some 215, none, .mov (.s 6), []⟩,
  ⟨some 216, none, .nilck (.m 215), []⟩,
  ⟨some 217, none, .fa 1 (.m 216), []⟩,
  ⟨some 218, none, .ld none 0 (.m 217), []⟩,
  ⟨some 219, none, .bin .sub (.m 214) (.m 218), []⟩,
  ⟨some 220, none, .bin .gtr (.m 219) (.c (.d (.int .i64 7))), []⟩,
  ⟨some 221, none, .mov (.m 220), []⟩,
  ⟨some 222, (some (221, false)), .mov (.s 6), []⟩,
  ⟨some 223, (some (221, false)), .nilck (.s 222), []⟩,
  ⟨some 224, (some (221, false)), .fa 0 (.s 223), []⟩,
  ⟨some 225, (some (221, false)), .ld none 0 (.s 224), []⟩,
  ⟨some 226, (some (221, false)), .mov (.s 6), []⟩,
  ⟨some 227, (some (221, false)), .nilck (.s 226), []⟩,
  ⟨some 228, (some (221, false)), .fa 1 (.s 227), []⟩,
  ⟨some 229, (some (221, false)), .ld none 0 (.s 228), []⟩,
  ⟨some 230, (some (221, false)), .slice 1 (.s 225) (some (.s 229)) none none, []⟩,
  ⟨some 231, (some (221, false)), .call 69 [.s 230, .c (.d (.int .u8 1))], []⟩,
  ⟨some 232, none, .pick (.s 221) (.c (.d (.bool true))) (.m 231), []⟩]) (K [6, 221, 222, 223, 224, 225, 226, 227, 228, 229, 230]))
 (.cond (.m 232)
 (.seq (.reg false [
  ⟨some 233, none, .build [.nl, .d (.bool false), .d (.int .i64 0), .nl, .nl] [], []⟩,
  ⟨none, none, .st 5 (.s 4) (.m 233), []⟩,
  ⟨some 5, none, .mov (.c (.d (.int .i64 8))), []⟩])
 .ret)
 .skip))
 (.seq (.reg false [
  ⟨some 234, none, .ld (some 5) 0 (.s 4), []⟩,
  ⟨none, none, .st 5 (.s 4) (.m 234), []⟩,
  ⟨some 5, none, .mov (.c (.d (.int .i64 0))), []⟩])
 .ret))))))))))))))⟩
def c36 : VFunc := ⟨1, [.cell 2 (some 4)],
 (.seq (.reg false [
  ⟨some 1, none, .box (.m 0), []⟩,
  ⟨some 2, none, .alloc [.d (.int .u8 0), .d (.int .u8 0), .d (.int .i64 0), .nl], []⟩])
 (.seq (.reg false [
  ⟨some 3, none, .fa 3 (.s 1), []⟩,
  ⟨some 4, none, .ld none 0 (.m 3), []⟩,
  ⟨some 5, none, .call 40 [.m 4], [(0, 0)]⟩,
  ⟨some 6, none, .fa 3 (.s 1), []⟩,
  ⟨none, none, .st 1 (.m 6) (.m 5), []⟩])
 (.seq (.reg false [
  ⟨some 7, none, .ld (some 4) 1 (.m 1), []⟩,
  ⟨none, none, .st 4 (.s 2) (.m 7), []⟩])
 .ret)))⟩
def c40 : VFunc := ⟨1, [.tmp 2],
 (.clone 1)⟩
def c52 : VFunc := ⟨3, [.tmp 6, .tmp 7],
 (.seq (.reg false [
  ⟨some 6, none, .mov (.c (.nl)), []⟩,
  ⟨some 7, none, .mov (.c (.d (.int .i64 0))), []⟩,
  ⟨none, none, .kill [6, 7], []⟩])
 (.seq (.seq (.reg false [
  ⟨some 8, none, .mov (.s 2), []⟩,
  ⟨some 9, none, .call 91 [.m 8], []⟩,
  ⟨some 10, none, .un .not (.m 9), []⟩,
  ⟨some 11, none, .mov (.m 10), []⟩,
  ⟨some 12, (some (11, false)), .mov (.s 1), []⟩,
  ⟨some 13, (some (11, false)), .bin .lss (.s 12) (.c (.d (.int .i64 0))), []⟩,
  ⟨some 14, none, .pick (.m 11) (.c (.d (.bool true))) (.m 13), []⟩,
  ⟨some 15, none, .mov (.m 14), []⟩,
  ⟨some 16, (some (15, false)), .mov (.s 1), []⟩,
  ⟨some 17, (some (15, false)), .mov (.s 2), []⟩,
  ⟨some 18, (some (15, false)), .bin .shr (.s 16) (.s 17), []⟩,
  ⟨some 19, (some (15, false)), .bin .neq (.s 18) (.c (.d (.int .i64 0))), []⟩,
  ⟨some 20, none, .pick (.m 15) (.c (.d (.bool true))) (.m 19), []⟩,
  ⟨none, none, .kill [12, 16, 17, 18], []⟩])
 (.cond (.m 20)
 (.seq (K [0, 1, 2]) (.seq (.reg false [
  ⟨some 6, none, .mov (.c (.nl)), []⟩,
  ⟨some 7, none, .mov (.c (.d (.int .i64 2))), []⟩])
 .ret))
 .skip))
 (.seq (.reg false [
  ⟨some 21, none, .mov (.m 0), []⟩,
  ⟨some 22, none, .call 20 [.m 21], []⟩,
  ⟨some 23, none, .mov (.m 1), []⟩,
  ⟨some 24, none, .mov (.m 2), []⟩,
  ⟨some 25, none, .calli 93 [.m 23, .m 24], []⟩,
  ⟨some 26, none, .calli 92 [.m 22, .m 25], []⟩,
  ⟨some 6, none, .mov (.m 26), []⟩,
  ⟨some 7, none, .mov (.c (.d (.int .i64 0))), []⟩])
 .ret)))⟩
def c57 : VFunc := ⟨1, [.tmp 2, .tmp 3],
 (.seq (.reg false [
  ⟨some 2, none, .mov (.c (.nl)), []⟩,
  ⟨some 3, none, .mov (.c (.d (.int .i64 0))), []⟩,
  ⟨none, none, .kill [2, 3], []⟩])
 (.seq (.seq (.reg false [
  ⟨some 8, none, .mov (.s 0), []⟩,
  ⟨some 9, none, .len (.m 8), []⟩,
  ⟨some 10, none, .bin .gtr (.m 9) (.c (.d (.int .i64 2097152))), []⟩])
 (.cond (.m 10)
 (.seq (K [0]) (.seq (.reg false [
  ⟨some 2, none, .mov (.c (.nl)), []⟩,
  ⟨some 3, none, .mov (.c (.d (.int .i64 3))), []⟩])
 .ret))
 .skip))
 (.seq (.reg false [
  ⟨some 11, none, .mov (.s 0), []⟩,
  ⟨some 12, none, .len (.m 11), []⟩,
  ⟨some 13, none, .bin .mul (.c (.d (.int .i64 8))) (.m 12), []⟩,
  ⟨some 14, none, .mkslice [.int .u8 0] (.c (.d (.int .i64 0))) (.m 13), []⟩,
  ⟨some 4, none, .alloc [.nl], []⟩,
  ⟨none, none, .st 1 (.s 4) (.m 14), []⟩])
 (.seq (.seq (.reg false [
  ⟨some 15, none, .mov (.m 0), []⟩,
  ⟨some 16, none, .len (.s 15), []⟩,
  ⟨some 17, none, .mov (.c (.d (.int .i64 0))), []⟩])
 (.block 0
 (.loop
 (.seq (.reg false [
  ⟨some 18, none, .bin .lss (.s 17) (.s 16), []⟩])
 (.seq (.cond (.m 18)
 .skip
 (.seq (K [15, 16, 17]) (.exit 0)))
 (.seq (.block 1
 (.seq (.reg false [
  ⟨some 19, none, .ia 1 (.s 15) (.s 17), []⟩,
  ⟨some 20, none, .ld none 0 (.m 19), []⟩,
  ⟨some 6, none, .mov (.m 20), []⟩])
 (.seq (.reg false [
  ⟨some 21, none, .mov (.m 6), []⟩,
  ⟨some 22, none, .conv .i64 (.m 21), []⟩,
  ⟨some 23, none, .calli 93 [.m 22, .c (.d (.int .i64 8))], []⟩])
 (.block 2
 (.rangeF (.m 23) [24]
 (.reg false [
  ⟨some 7, none, .mov (.m 24), []⟩,
  ⟨none, none, .kill [15, 16, 17], []⟩])
 (.block 3
 (.reg false [
  ⟨some 25, none, .ld none 1 (.s 4), []⟩,
  ⟨some 26, none, .mov (.m 7), []⟩,
  ⟨some 27, none, .mks 1 [.m 26], []⟩,
  ⟨some 28, none, .app 1 (.m 25) (.m 27), []⟩,
  ⟨none, none, .st 1 (.m 4) (.m 28), []⟩])))))))
 (.reg false [
  ⟨some 29, none, .bin .add (.m 17) (.c (.d (.int .i64 1))), []⟩,
  ⟨some 17, none, .mov (.m 29), []⟩,
  ⟨none, none, .kill [6, 7, 19, 20, 21, 22, 23, 25, 26, 27, 28], []⟩])))))))
 (.seq (.reg false [
  ⟨some 30, none, .ld none 1 (.m 4), []⟩,
  ⟨some 2, none, .mov (.m 30), []⟩,
  ⟨some 3, none, .mov (.c (.d (.int .i64 0))), []⟩,
  ⟨none, none, .kill [6, 7, 15, 16, 17, 18, 19, 20, 21, 22, 23, 25, 26, 27, 28, 29], []⟩])
 .ret)))))⟩
def c58 : VFunc := ⟨1, [.cell 2 (some 28)],
 (.seq (.reg false [
  ⟨some 1, none, .box (.m 0), []⟩,
  ⟨some 2, none, .alloc [.d (.int .i64 0), .d (.int .i64 0), .d (.int .i64 0), .d (.int .i64 0), .d (.int .i64 0), .d (.int .i64 0), .d (.int .i64 0), .d (.int .i64 0), .d (.int .i64 0), .d (.int .i64 0), .d (.int .i64 0), .d (.int .i64 0), .d (.int .i64 0), .d (.int .i64 0), .d (.int .i64 0), .d (.int .i64 0), .d (.int .i64 0), .d (.int .i64 0), .d (.int .i64 0), .d (.int .i64 0), .d (.int .i64 0), .d (.int .i64 0), .d (.int .i64 0), .d (.int .i64 0), .d (.int .i64 0), .d (.int .i64 0), .d (.int .i64 0), .d (.int .i64 0)], []⟩])
 (.seq (.reg false [
  ⟨some 3, none, .mov (.c (.d (.int .i64 1))), []⟩])
 (.seq (.seq (.reg false [
  ⟨some 4, none, .fa 2 (.s 1), []⟩,
  ⟨some 5, none, .ld none 0 (.m 4), []⟩])
 (.cond (.m 5)
 (.seq (K [3]) (.reg false [
  ⟨some 3, none, .mov (.c (.d (.int .i64 0))), []⟩]))
 .skip))
 (.seq (.reg false [
  ⟨some 6, none, .build [.d (.int .i64 0), .d (.int .i64 0)] [(0, 1, .c (.d (.int .i64 4095))), (1, 1, .c (.d (.int .i64 12)))], []⟩,
  ⟨some 7, none, .build [.d (.int .i64 0), .d (.int .i64 0)] [(0, 1, .c (.d (.int .i64 0))), (1, 1, .c (.d (.int .i64 1)))], []⟩,
  ⟨some 8, none, .build [.d (.int .i64 0), .d (.int .i64 0)] [(0, 1, .c (.d (.int .i64 0))), (1, 1, .c (.d (.int .i64 2)))], []⟩,
  ⟨some 9, none, .mov (.m 3), []⟩,
  ⟨some 10, none, .build [.d (.int .i64 0), .d (.int .i64 0)] [(0, 1, .m 9), (1, 1, .c (.d (.int .i64 1)))], []⟩,
  ⟨some 11, none, .build [.d (.int .i64 0), .d (.int .i64 0)] [(0, 1, .c (.d (.int .i64 1))), (1, 1, .c (.d (.int .i64 2)))], []⟩,
  ⟨some 12, none, .fa 0 (.s 1), []⟩,
  ⟨some 13, none, .ld none 0 (.m 12), []⟩,
  ⟨some 14, none, .build [.d (.int .i64 0), .d (.int .i64 0)] [(0, 1, .m 13), (1, 1, .c (.d (.int .i64 4)))], []⟩,
  ⟨some 15, none, .build [.d (.int .i64 0), .d (.int .i64 0)] [(0, 1, .c (.d (.int .i64 0))), (1, 1, .c (.d (.int .i64 1)))], []⟩,
  ⟨some 16, none, .fa 1 (.s 1), []⟩,
  ⟨some 17, none, .ld none 0 (.m 16), []⟩,
  ⟨some 18, none, .build [.d (.int .i64 0), .d (.int .i64 0)] [(0, 1, .m 17), (1, 1, .c (.d (.int .i64 3)))], []⟩,
  ⟨some 19, none, .build [.d (.int .i64 0), .d (.int .i64 0)] [(0, 1, .c (.d (.int .i64 0))), (1, 1, .c (.d (.int .i64 1)))], []⟩,
  ⟨some 20, none, .build [.d (.int .i64 0), .d (.int .i64 0)] [(0, 1, .c (.d (.int .i64 0))), (1, 1, .c (.d (.int .i64 1)))], []⟩,
  ⟨some 21, none, .build [.d (.int .i64 0), .d (.int .i64 0)] [(0, 1, .c (.d (.int .i64 0))), (1, 1, .c (.d (.int .i64 2)))], []⟩,
  ⟨some 22, none, .fa 3 (.s 1), []⟩,
  ⟨some 23, none, .ld none 0 (.m 22), []⟩,
  ⟨some 24, none, .build [.d (.int .i64 0), .d (.int .i64 0)] [(0, 1, .m 23), (1, 1, .c (.d (.int .i64 13)))], []⟩,
  ⟨some 25, none, .fa 4 (.m 1), []⟩,
  ⟨some 26, none, .ld none 0 (.m 25), []⟩,
  ⟨some 27, none, .build [.d (.int .i64 0), .d (.int .i64 0)] [(0, 1, .m 26), (1, 1, .c (.d (.int .i64 11)))], []⟩,
  ⟨some 28, none, .build [.d (.int .i64 0), .d (.int .i64 0)] [(0, 1, .c (.d (.int .i64 0))), (1, 1, .c (.d (.int .i64 2)))], []⟩,
  ⟨some 29, none, .build [.d (.int .i64 0), .d (.int .i64 0), .d (.int .i64 0), .d (.int .i64 0), .d (.int .i64 0), .d (.int .i64 0), .d (.int .i64 0), .d (.int .i64 0), .d (.int .i64 0), .d (.int .i64 0), .d (.int .i64 0), .d (.int .i64 0), .d (.int .i64 0), .d (.int .i64 0), .d (.int .i64 0), .d (.int .i64 0), .d (.int .i64 0), .d (.int .i64 0), .d (.int .i64 0), .d (.int .i64 0), .d (.int .i64 0), .d (.int .i64 0), .d (.int .i64 0), .d (.int .i64 0), .d (.int .i64 0), .d (.int .i64 0), .d (.int .i64 0), .d (.int .i64 0)] [(0, 2, .m 6), (2, 2, .m 7), (4, 2, .m 8), (6, 2, .m 10), (8, 2, .m 11), (10, 2, .m 14), (12, 2, .m 15), (14, 2, .m 18), (16, 2, .m 19), (18, 2, .m 20), (20, 2, .m 21), (22, 2, .m 24), (24, 2, .m 27), (26, 2, .m 28)], []⟩,
  ⟨none, none, .st 28 (.s 2) (.m 29), []⟩])
 .ret))))⟩
def c59 : VFunc := ⟨3, [.tmp 6, .tmp 7, .tmp 8],
 (.seq (.reg false [
  ⟨some 6, none, .mov (.c (.d (.int .i64 0))), []⟩,
  ⟨some 7, none, .mov (.c (.d (.int .i64 0))), []⟩,
  ⟨some 8, none, .mov (.c (.d (.int .i64 0))), []⟩,
  ⟨none, none, .kill [7, 8], []⟩])
 (.seq (.block 0
 (.seq (.reg false [
  ⟨some 11, none, .mov (.s 2), []⟩,
  ⟨some 12, none, .call 91 [.m 11], []⟩,
  ⟨some 13, none, .un .not (.m 12), []⟩,
  ⟨some 14, none, .mov (.m 13), []⟩,
  ⟨some 15, (some (14, false)), .mov (.s 1), []⟩,
  ⟨some 16, (some (14, false)), .bin .lss (.s 15) (.c (.d (.int .i64 0))), []⟩,
  ⟨some 17, none, .pick (.m 14) (.c (.d (.bool true))) (.m 16), []⟩,
  ⟨some 18, none, .mov (.m 17), []⟩,
  ⟨some 19, (some (18, false)), .mov (.s 1), []⟩,
  ⟨some 20, (some (18, false)), .mov (.s 0), []⟩,
  ⟨some 21, (some (18, false)), .len (.s 20), []⟩,
  ⟨some 22, (some (18, false)), .bin .gtr (.s 19) (.s 21), []⟩,
  ⟨some 23, none, .pick (.m 18) (.c (.d (.bool true))) (.m 22), []⟩,
  ⟨some 10, none, .mov (.m 23), []⟩,
  ⟨none, none, .kill [15, 19, 20, 21], []⟩])
 (.cond (.m 10)
 (.seq (K [0, 1, 2, 6]) (.seq (.reg false [
  ⟨some 6, none, .mov (.c (.d (.int .i64 0))), []⟩,
  ⟨some 7, none, .mov (.c (.d (.int .i64 0))), []⟩,
  ⟨some 8, none, .mov (.c (.d (.int .i64 2))), []⟩])
 .ret))
 (.seq (.reg false [
  ⟨some 25, none, .mov (.s 0), []⟩,
  ⟨some 26, none, .len (.m 25), []⟩,
  ⟨some 27, none, .mov (.s 1), []⟩,
  ⟨some 28, none, .bin .sub (.m 26) (.m 27), []⟩,
  ⟨some 29, none, .mov (.s 2), []⟩,
  ⟨some 30, none, .bin .lss (.m 28) (.m 29), []⟩,
  ⟨some 24, none, .mov (.m 30), []⟩])
 (.cond (.m 24)
 (.seq (K [0, 1, 2, 6]) (.seq (.reg false [
  ⟨some 6, none, .mov (.c (.d (.int .i64 0))), []⟩,
  ⟨some 7, none, .mov (.c (.d (.int .i64 0))), []⟩,
  ⟨some 8, none, .mov (.c (.d (.int .i64 5))), []⟩])
 .ret))
 .skip)))))
 (.seq (.seq (.reg false [
  ⟨some 31, none, .mov (.s 2), []⟩,
  ⟨some 32, none, .mov (.c (.d (.int .i64 0))), []⟩,
  ⟨none, none, .kill [7, 8, 10, 11, 12, 13, 14, 15, 16, 17, 18, 19, 20, 21, 22, 23, 24, 25, 26, 27, 28, 29, 30], []⟩])
 (.block 1
 (.loop
 (.seq (.reg false [
  ⟨some 33, none, .bin .lss (.s 32) (.s 31), []⟩])
 (.seq (.cond (.m 33)
 .skip
 (.seq (K [0, 31, 32]) (.exit 1)))
 (.seq (.block 2
 (.seq (.reg false [
  ⟨some 34, none, .mov (.s 32), []⟩,
  ⟨some 9, none, .mov (.m 34), []⟩])
 (.seq (.seq (.reg false [
  ⟨some 35, none, .mov (.s 0), []⟩,
  ⟨some 36, none, .mov (.s 1), []⟩,
  ⟨some 37, none, .mov (.s 9), []⟩,
  ⟨some 38, none, .bin .add (.m 36) (.m 37), []⟩,
  ⟨some 39, none, .ia 1 (.m 35) (.m 38), []⟩,
  ⟨some 40, none, .ld none 0 (.m 39), []⟩,
  ⟨some 41, none, .bin .gtr (.m 40) (.c (.d (.int .u8 1))), []⟩])
 (.cond (.m 41)
 (.seq (K [0, 1, 2, 6, 9, 31, 32]) (.seq (.reg false [
  ⟨some 6, none, .mov (.c (.d (.int .i64 0))), []⟩,
  ⟨some 7, none, .mov (.c (.d (.int .i64 0))), []⟩,
  ⟨some 8, none, .mov (.c (.d (.int .i64 8))), []⟩])
 .ret))
 .skip))
 (.reg false [
  ⟨some 42, none, .mov (.m 6), []⟩,
  ⟨some 43, none, .bin .shl (.m 42) (.c (.d (.int .u64 1))), []⟩,
  ⟨some 44, none, .mov (.s 0), []⟩,
  ⟨some 45, none, .mov (.s 1), []⟩,
  ⟨some 46, none, .mov (.m 9), []⟩,
  ⟨some 47, none, .bin .add (.m 45) (.m 46), []⟩,
  ⟨some 48, none, .ia 1 (.m 44) (.m 47), []⟩,
  ⟨some 49, none, .ld none 0 (.m 48), []⟩,
  ⟨some 50, none, .conv .i64 (.m 49), []⟩,
  ⟨some 51, none, .bin .or (.m 43) (.m 50), []⟩,
  ⟨some 6, none, .mov (.m 51), []⟩]))))
 (.reg false [
  ⟨some 52, none, .bin .add (.m 32) (.c (.d (.int .i64 1))), []⟩,
  ⟨some 32, none, .mov (.m 52), []⟩,
  ⟨none, none, .kill [7, 8, 9, 34, 35, 36, 37, 38, 39, 40, 41, 42, 43, 44, 45, 46, 47, 48, 49, 50, 51], []⟩])))))))
 (.seq (.reg false [
  ⟨some 53, none, .mov (.m 6), []⟩,
  ⟨some 54, none, .mov (.m 1), []⟩,
  ⟨some 55, none, .mov (.m 2), []⟩,
  ⟨some 56, none, .bin .add (.m 54) (.m 55), []⟩,
  ⟨some 6, none, .mov (.m 53), []⟩,
  ⟨some 7, none, .mov (.m 56), []⟩,
  ⟨some 8, none, .mov (.c (.d (.int .i64 0))), []⟩,
  ⟨none, none, .kill [0, 9, 31, 32, 33, 34, 35, 36, 37, 38, 39, 40, 41, 42, 43, 44, 45, 46, 47, 48, 49, 50, 51, 52], []⟩])
 .ret))))⟩
def c60 : VFunc := ⟨1, [.tmp 2],
 (.seq (.reg false [
  ⟨some 1, none, .box (.m 0), []⟩,
  ⟨some 2, none, .mov (.c (.d (.bool false))), []⟩,
  ⟨none, none, .kill [2], []⟩])
 (.seq (.reg false [
  ⟨some 5, none, .fa 2 (.s 1), []⟩,
  ⟨some 6, none, .ld none 0 (.m 5), []⟩,
  ⟨some 7, none, .call 32 [.m 6], []⟩,
  ⟨some 3, none, .mov (.m 7), []⟩])
 (.seq (.reg false [
  ⟨some 8, none, .fa 0 (.s 1), []⟩,
  ⟨some 9, none, .ld none 0 (.m 8), []⟩,
  ⟨some 10, none, .bin .geq (.m 9) (.c (.d (.int .i64 0))), []⟩,
  ⟨some 11, none, .mov (.m 10), []⟩,
  ⟨some 12, (some (11, true)), .fa 0 (.s 1), []⟩,
  ⟨some 13, (some (11, true)), .ld none 0 (.s 12), []⟩,
  ⟨some 14, (some (11, true)), .bin .leq (.s 13) (.c (.d (.int .i64 11))), []⟩,
  ⟨some 15, none, .pick (.m 11) (.m 14) (.c (.d (.bool false))), []⟩,
  ⟨some 16, none, .mov (.m 15), []⟩,
  ⟨some 17, (some (16, true)), .fa 1 (.s 1), []⟩,
  ⟨some 18, (some (16, true)), .ld none 0 (.s 17), []⟩,
  ⟨some 19, (some (16, true)), .bin .eql (.s 18) (.c (.d (.int .i64 1))), []⟩,
  ⟨some 20, (some (16, true)), .mov (.s 19), []⟩,
  ⟨some 21, (some (20, false)), .fa 1 (.s 1), []⟩,
  ⟨some 22, (some (20, false)), .ld none 0 (.s 21), []⟩,
  ⟨some 23, (some (20, false)), .bin .eql (.s 22) (.c (.d (.int .i64 2))), []⟩,
  ⟨some 24, (some (16, true)), .pick (.s 20) (.c (.d (.bool true))) (.s 23), []⟩,
  ⟨some 25, none, .pick (.m 16) (.m 24) (.c (.d (.bool false))), []⟩,
  ⟨some 4, none, .mov (.m 25), []⟩,
  ⟨none, none, .kill [12, 13, 17, 18, 19, 20, 21, 22, 23], []⟩])
 (.seq (.reg false [
  ⟨some 26, none, .mov (.m 4), []⟩,
  ⟨some 27, none, .mov (.m 26), []⟩,
  ⟨some 28, (some (27, true)), .fa 4 (.s 1), []⟩,
  ⟨some 29, (some (27, true)), .ld none 0 (.s 28), []⟩,
  ⟨some 30, (some (27, true)), .bin .geq (.s 29) (.c (.d (.int .i64 0))), []⟩,
  ⟨some 31, none, .pick (.m 27) (.m 30) (.c (.d (.bool false))), []⟩,
  ⟨some 32, none, .mov (.m 31), []⟩,
  ⟨some 33, (some (32, true)), .fa 4 (.s 1), []⟩,
  ⟨some 34, (some (32, true)), .ld none 0 (.s 33), []⟩,
  ⟨some 35, (some (32, true)), .bin .leq (.s 34) (.c (.d (.int .i64 2047))), []⟩,
  ⟨some 36, none, .pick (.m 32) (.m 35) (.c (.d (.bool false))), []⟩,
  ⟨some 37, none, .mov (.m 36), []⟩,
  ⟨some 38, (some (37, true)), .fa 3 (.s 1), []⟩,
  ⟨some 39, (some (37, true)), .ld none 0 (.s 38), []⟩,
  ⟨some 40, (some (37, true)), .mov (.s 3), []⟩,
  ⟨some 41, (some (37, true)), .bin .gtr (.s 39) (.s 40), []⟩,
  ⟨some 42, none, .pick (.m 37) (.m 41) (.c (.d (.bool false))), []⟩,
  ⟨some 43, none, .mov (.m 42), []⟩,
  ⟨some 44, (some (43, true)), .fa 3 (.s 1), []⟩,
  ⟨some 45, (some (43, true)), .ld none 0 (.s 44), []⟩,
  ⟨some 46, (some (43, true)), .mov (.s 3), []⟩,
  ⟨some 47, (some (43, true)), .fa 1 (.s 1), []⟩,
  ⟨some 48, (some (43, true)), .ld none 0 (.s 47), []⟩,
  ⟨some 49, (some (43, true)), .bin .mul (.c (.d (.int .i64 192))) (.s 48), []⟩,
  ⟨some 50, (some (43, true)), .bin .add (.s 46) (.s 49), []⟩,
  ⟨some 51, (some (43, true)), .bin .leq (.s 45) (.s 50), []⟩,
  ⟨some 52, none, .pick (.m 43) (.m 51) (.c (.d (.bool false))), []⟩,
  ⟨some 2, none, .mov (.m 52), []⟩,
  ⟨none, none, .kill [1, 3, 28, 29, 33, 34, 38, 39, 40, 44, 45, 46, 47, 48, 49, 50], []⟩])
 .ret))))⟩
def c61 : VFunc := ⟨2, [.tmp 4],
 (.seq (.reg false [
  ⟨some 4, none, .mov (.c (.d (.bool false))), []⟩,
  ⟨none, none, .kill [4], []⟩])
 (.seq (.seq (.reg false [
  ⟨some 6, none, .mov (.s 0), []⟩,
  ⟨some 7, none, .len (.m 6), []⟩,
  ⟨some 8, none, .mov (.s 1), []⟩,
  ⟨some 9, none, .len (.m 8), []⟩,
  ⟨some 10, none, .bin .neq (.m 7) (.m 9), []⟩])
 (.cond (.m 10)
 (.seq (K [0, 1]) (.seq (.reg false [
  ⟨some 4, none, .mov (.c (.d (.bool false))), []⟩])
 .ret))
 .skip))
 (.seq (.seq (.reg false [
  ⟨some 11, none, .mov (.s 0), []⟩,
  ⟨some 12, none, .len (.m 11), []⟩,
  ⟨some 13, none, .mov (.c (.d (.int .i64 0))), []⟩])
 (.block 0
 (.loop
 (.seq (.reg false [
  ⟨some 14, none, .bin .lss (.s 13) (.s 12), []⟩])
 (.seq (.cond (.m 14)
 .skip
 (.seq (K [0, 1, 12, 13]) (.exit 0)))
 (.seq (.block 1
 (.seq (.reg false [
  ⟨some 15, none, .mov (.s 13), []⟩,
  ⟨some 5, none, .mov (.m 15), []⟩])
 (.seq (.seq (.reg true [
  ⟨some 16, none, .mov (.s 0), []⟩,
  ⟨some 17, none, .mov (.s 5), []⟩,
  ⟨some 18, none, .ia 1 (.m 16) (.m 17), []⟩,
  ⟨some 19, none, .ld none 0 (.m 18), []⟩,
  ⟨some 20, none, .mov (.s 1), []⟩,
  ⟨some 21, none, .mov (.s 5), []⟩,
  ⟨some 22, none, .ia 1 (.m 20) (.m 21), []⟩,
  ⟨some 23, none, .ld none 0 (.m 22), []⟩,
  ⟨some 24, none, .bin .neq (.m 19) (.m 23), []⟩]) (K [5]))
 (.cond (.m 24)
 (.seq (K [0, 1, 12, 13]) (.seq (.reg false [
  ⟨some 4, none, .mov (.c (.d (.bool false))), []⟩])
 .ret))
 .skip))))
 (.reg false [
  ⟨some 25, none, .bin .add (.m 13) (.c (.d (.int .i64 1))), []⟩,
  ⟨some 13, none, .mov (.m 25), []⟩,
  ⟨none, none, .kill [4, 5, 15, 16, 17, 18, 19, 20, 21, 22, 23, 24], []⟩])))))))
 (.seq (.reg false [
  ⟨some 4, none, .mov (.c (.d (.bool true))), []⟩,
  ⟨none, none, .kill [0, 1, 5, 12, 13, 14, 15, 16, 17, 18, 19, 20, 21, 22, 23, 24, 25], []⟩])
 .ret))))⟩
def c62 : VFunc := ⟨1, [.tmp 2],
 (.seq (.reg false [
  ⟨some 1, none, .box (.m 0), []⟩,
  ⟨some 2, none, .mov (.c (.nl)), []⟩])
 (.seq (.seq (.reg false [
  ⟨some 5, none, .ld (some 5) 1 (.m 1), []⟩,
  ⟨some 6, none, .call 58 [.m 5], []⟩,
  ⟨some 7, none, .mov (.c (.d (.int .i64 0))), []⟩])
 (.block 0
 (.loop
 (.seq (.reg false [
  ⟨some 8, none, .bin .lss (.s 7) (.c (.d (.int .i64 14))), []⟩])
 (.seq (.cond (.m 8)
 .skip
 (.seq (K [6, 7]) (.exit 0)))
 (.seq (.block 1
 (.seq (.reg false [
  ⟨some 9, none, .ix 14 2 true (.s 6) (.s 7), []⟩,
  ⟨some 4, none, .alloc [.d (.int .i64 0), .d (.int .i64 0)], []⟩,
  ⟨none, none, .st 2 (.s 4) (.m 9), []⟩])
 (.reg false [
  ⟨some 11, none, .mov (.m 2), []⟩,
  ⟨some 12, none, .fa 0 (.s 4), []⟩,
  ⟨some 13, none, .ld none 0 (.m 12), []⟩,
  ⟨some 14, none, .fa 1 (.m 4), []⟩,
  ⟨some 15, none, .ld none 0 (.m 14), []⟩,
  ⟨some 16, none, .call 52 [.m 11, .m 13, .m 15], []⟩,
  ⟨some 10, none, .mov (.m 16), []⟩,
  ⟨some 17, none, .ext 10 true 0, []⟩,
  ⟨some 18, none, .ext 10 false 1, []⟩,
  ⟨some 2, none, .mov (.m 17), []⟩,
  ⟨none, none, .kill [18], []⟩])))
 (.reg false [
  ⟨some 19, none, .bin .add (.m 7) (.c (.d (.int .i64 1))), []⟩,
  ⟨some 7, none, .mov (.m 19), []⟩,
  ⟨none, none, .kill [4, 9, 10, 11, 12, 13, 14, 15, 16, 17, 18], []⟩])))))))
 .ret))⟩
def c64 : VFunc := ⟨2, [],
 (.seq (.reg false [
  ⟨some 4, none, .mov (.m 1), []⟩,
  ⟨some 5, none, .un .not (.m 4), []⟩,
  ⟨some 6, none, .mov (.m 5), []⟩,
  ⟨some 7, (some (6, true)), .mov (.s 0), []⟩,
  ⟨some 8, (some (6, true)), .nilck (.s 7), []⟩,
  ⟨some 9, (some (6, true)), .fa 2 (.s 8), []⟩,
  ⟨some 10, (some (6, true)), .ld none 0 (.s 9), []⟩,
  ⟨some 11, (some (6, true)), .bin .eql (.s 10) (.c (.d (.int .i64 0))), []⟩,
  ⟨some 12, none, .pick (.m 6) (.m 11) (.c (.d (.bool false))), []⟩,
  ⟨none, none, .kill [7, 8, 9, 10], []⟩])
 (.cond (.m 12)
 (.reg false [
  ⟨some 13, none, .mov (.m 0), []⟩,
  ⟨some 14, none, .nilck (.m 13), []⟩,
  ⟨some 15, none, .fa 2 (.m 14), []⟩,
  ⟨none, none, .st 1 (.m 15) (.c (.d (.int .i64 8))), []⟩])
 (.seq (K [0]) .skip)))⟩
def c65 : VFunc := ⟨2, [.tmp 4],
 (.seq (.reg false [
  ⟨some 4, none, .mov (.c (.d (.int .i64 0))), []⟩,
  ⟨none, none, .kill [4], []⟩])
 (.seq (.seq (.reg false [
  ⟨some 7, none, .mov (.s 0), []⟩,
  ⟨some 8, none, .nilck (.m 7), []⟩,
  ⟨some 9, none, .fa 2 (.m 8), []⟩,
  ⟨some 10, none, .ld none 0 (.m 9), []⟩,
  ⟨some 11, none, .bin .neq (.m 10) (.c (.d (.int .i64 0))), []⟩])
 (.cond (.m 11)
 (.seq (K [0, 1]) (.seq (.reg false [
  ⟨some 4, none, .mov (.c (.d (.int .i64 0))), []⟩])
 .ret))
 .skip))
 (.seq (.seq (.regP [0, 1, 2, 3, 4, 5, 6, 7, 8, 9, 10, 11, 12, 13, 14, 15, 16] [0, 1, 2, 3, 4, 5, 6, 7, 8, 9, 10, 11, 14, 12, 15, 13, 16] [] [
  ⟨some 13, none, .mov (.s 0), []⟩,
  ⟨some 14, none, .nilck (.m 13), []⟩,
  ⟨some 15, none, .fa 0 (.m 14), []⟩,
  ⟨some 16, none, .ld none 0 (.m 15), []⟩,
  ⟨some 17, none, .mov (.s 0), []⟩,
  ⟨some 18, none, .nilck (.m 17), []⟩,
  ⟨some 19, none, .fa 1 (.m 18), []⟩,
  ⟨some 20, none, .ld none 0 (.m 19), []⟩,
  ⟨some 21, none, .mov (.m 1), []⟩,
  ⟨some 22, none, .call 59 [.m 16, .m 20, .m 21], []⟩,
  ⟨some 12, none, .mov (.m 22), []⟩,
  ⟨some 23, none, .ext 12 false 0, []⟩,
  ⟨some 24, none, .ext 12 false 1, []⟩,
  ⟨some 25, none, .ext 12 false 2, []⟩,
  ⟨some 4, none, .mov (.m 23), []⟩,
  ⟨some 5, none, .mov (.m 24), []⟩,
  ⟨some 6, none, .mov (.m 25), []⟩]) (K [12]))
 (.seq (.seq (.reg false [
  ⟨some 26, none, .mov (.s 0), []⟩,
  ⟨some 27, none, .mov (.s 6), []⟩,
  ⟨some 28, none, .nilck (.m 26), []⟩,
  ⟨some 29, none, .fa 2 (.m 28), []⟩,
  ⟨none, none, .st 1 (.m 29) (.m 27), []⟩])
 (.seq (.reg false [
  ⟨some 30, none, .mov (.m 6), []⟩,
  ⟨some 31, none, .bin .eql (.m 30) (.c (.d (.int .i64 0))), []⟩])
 (.cond (.m 31)
 (.reg false [
  ⟨some 32, none, .mov (.m 0), []⟩,
  ⟨some 33, none, .mov (.m 5), []⟩,
  ⟨some 34, none, .nilck (.m 32), []⟩,
  ⟨some 35, none, .fa 1 (.m 34), []⟩,
  ⟨none, none, .st 1 (.m 35) (.m 33), []⟩])
 (.seq (K [0, 5]) .skip))))
 (.seq (.reg false [
  ⟨some 36, none, .mov (.m 4), []⟩,
  ⟨some 4, none, .mov (.m 36), []⟩])
 .ret)))))⟩
def c66 : VFunc := ⟨3, [.cell 6 (some 4), .cell 7 none, .cell 8 none],
 (.seq (.reg false [
  ⟨some 3, none, .box (.m 0), []⟩,
  ⟨some 6, none, .alloc [.d (.int .u8 0), .d (.int .u8 0), .d (.int .i64 0), .nl], []⟩,
  ⟨some 7, none, .alloc [.d (.int .i64 0)], []⟩,
  ⟨some 8, none, .alloc [.d (.int .i64 0)], []⟩])
 (.seq (.seq (.reg false [
  ⟨some 12, none, .mov (.s 2), []⟩,
  ⟨some 13, none, .call 105 [.m 12, .c (.d (.bool false))], []⟩,
  ⟨some 11, none, .mov (.m 13), []⟩,
  ⟨some 14, none, .ext 11 false 0, []⟩,
  ⟨some 15, none, .ext 11 false 1, []⟩,
  ⟨none, none, .st 1 (.s 8) (.m 15), []⟩,
  ⟨none, none, .kill [14], []⟩])
 (.seq (.reg false [
  ⟨some 16, none, .ld none 0 (.s 8), []⟩,
  ⟨some 17, none, .bin .neq (.m 16) (.c (.d (.int .i64 0))), []⟩])
 (.cond (.m 17)
 (.seq (K [1, 2, 3]) (.seq (.regP [0, 1, 2, 3, 4] [0, 1, 2, 3, 4] [1, 2, 3] [
  ⟨some 18, none, .ld (some 4) 0 (.s 6), []⟩,
  ⟨some 19, none, .ld none 0 (.s 8), []⟩,
  ⟨none, none, .st 4 (.s 6) (.m 18), []⟩,
  ⟨none, none, .st 1 (.s 7) (.c (.d (.int .i64 0))), []⟩,
  ⟨none, none, .st 1 (.s 8) (.m 19), []⟩])
 .ret))
 .skip)))
 (.seq (.reg false [
  ⟨some 20, none, .mov (.m 1), []⟩,
  ⟨none, none, .st 1 (.s 7) (.m 20), []⟩])
 (.seq (.reg false [
  ⟨some 21, none, .mkfn 106 [] [.s 8, .m 3, .s 7], []⟩,
  ⟨some 9, none, .mov (.m 21), []⟩])
 (.seq (.reg false [
  ⟨some 22, none, .mov (.s 9), []⟩,
  ⟨some 23, none, .callv (.m 22) [.c (.d (.int .i64 1))], []⟩,
  ⟨some 10, none, .mov (.m 23), []⟩])
 (.seq (.reg false [
  ⟨some 24, none, .mov (.s 9), []⟩,
  ⟨some 25, none, .callv (.m 24) [.c (.d (.int .i64 2))], []⟩,
  ⟨some 26, none, .conv .u8 (.m 25), []⟩,
  ⟨some 27, none, .fa 0 (.s 6), []⟩,
  ⟨none, none, .st 1 (.m 27) (.m 26), []⟩])
 (.seq (.reg false [
  ⟨some 28, none, .mov (.s 9), []⟩,
  ⟨some 29, none, .callv (.m 28) [.c (.d (.int .i64 1))], []⟩,
  ⟨some 30, none, .conv .u8 (.m 29), []⟩,
  ⟨some 31, none, .fa 1 (.s 6), []⟩,
  ⟨none, none, .st 1 (.m 31) (.m 30), []⟩])
 (.seq (.seq (.reg false [
  ⟨some 32, none, .fa 0 (.s 6), []⟩,
  ⟨some 33, none, .ld none 0 (.m 32), []⟩,
  ⟨some 34, none, .bin .eql (.m 33) (.c (.d (.int .u8 2))), []⟩])
 (.cond (.m 34)
 (.seq (.reg false [
  ⟨some 35, none, .mov (.s 9), []⟩,
  ⟨some 36, none, .callv (.m 35) [.c (.d (.int .i64 4))], []⟩,
  ⟨some 37, none, .fa 2 (.s 6), []⟩,
  ⟨none, none, .st 1 (.m 37) (.m 36), []⟩])
 (.seq (.reg false [
  ⟨some 38, none, .mks 1 [.c (.d (.int .i64 1))], [(0, 0)]⟩,
  ⟨some 39, none, .fa 3 (.s 6), []⟩,
  ⟨none, none, .st 1 (.m 39) (.m 38), []⟩])
 (.seq (.reg false [
  ⟨some 40, none, .mov (.c (.d (.int .i64 0))), []⟩])
 (.block 0
 (.loop
 (.seq (.reg false [
  ⟨some 41, none, .bin .lss (.s 40) (.c (.d (.int .i64 7))), []⟩])
 (.seq (.cond (.m 41)
 .skip
 (.seq (K [9, 40]) (.exit 0)))
 (.seq (.block 1
 (.seq (.reg false [
  ⟨some 42, none, .mov (.s 9), []⟩,
  ⟨some 43, none, .callv (.m 42) [.c (.d (.int .i64 1))], []⟩,
  ⟨some 44, none, .bin .eql (.m 43) (.c (.d (.int .i64 1))), []⟩])
 (.cond (.m 44)
 (.reg false [
  ⟨some 45, none, .fa 3 (.s 6), []⟩,
  ⟨some 46, none, .ld none 0 (.m 45), []⟩,
  ⟨some 47, none, .fa 3 (.s 6), []⟩,
  ⟨some 48, none, .ld none 0 (.m 47), []⟩,
  ⟨some 49, none, .len (.m 48), []⟩,
  ⟨some 50, none, .bin .sub (.m 49) (.c (.d (.int .i64 1))), []⟩,
  ⟨some 51, none, .ia 1 (.s 46) (.s 50), []⟩,
  ⟨some 52, none, .ld none 0 (.m 51), []⟩,
  ⟨some 53, none, .bin .add (.m 52) (.c (.d (.int .i64 1))), []⟩,
  ⟨some 54, none, .ia 1 (.m 46) (.m 50), []⟩,
  ⟨none, none, .st 1 (.m 54) (.m 53), []⟩])
 (.reg false [
  ⟨some 55, none, .fa 3 (.s 6), []⟩,
  ⟨some 56, none, .ld none 1 (.m 55), []⟩,
  ⟨some 57, none, .mks 1 [.c (.d (.int .i64 1))], []⟩,
  ⟨some 58, none, .app 1 (.m 56) (.m 57), [(0, 0)]⟩,
  ⟨some 59, none, .fa 3 (.s 6), []⟩,
  ⟨none, none, .st 1 (.m 59) (.m 58), []⟩]))))
 (.reg false [
  ⟨some 60, none, .bin .add (.m 40) (.c (.d (.int .i64 1))), []⟩,
  ⟨some 40, none, .mov (.m 60), []⟩,
  ⟨none, none, .kill [42, 43, 44, 45, 46, 47, 48, 49, 50, 51, 52, 53, 54, 55, 56, 57, 58, 59], []⟩])))))))))
 (.seq (.reg false [
  ⟨some 61, none, .mov (.s 9), []⟩,
  ⟨some 62, none, .callv (.m 61) [.c (.d (.int .i64 6))], []⟩,
  ⟨some 63, none, .fa 2 (.s 6), []⟩,
  ⟨none, none, .st 1 (.m 63) (.m 62), []⟩])
 (.seq (.reg false [
  ⟨some 64, none, .mov (.m 10), []⟩,
  ⟨some 65, none, .mov (.m 9), []⟩,
  ⟨some 66, none, .callv (.m 65) [.c (.d (.int .i64 1))], []⟩,
  ⟨some 67, none, .bin .or (.m 64) (.m 66), []⟩,
  ⟨some 10, none, .mov (.m 67), []⟩])
 (.reg false [
  ⟨some 68, none, .mks 1 [.c (.d (.int .i64 1))], [(0, 0)]⟩,
  ⟨some 69, none, .fa 3 (.s 6), []⟩,
  ⟨none, none, .st 1 (.m 69) (.m 68), []⟩])))))
 (.seq (.block 2
 (.seq (.reg false [
  ⟨some 71, none, .ld none 0 (.s 8), []⟩,
  ⟨some 72, none, .bin .neq (.m 71) (.c (.d (.int .i64 0))), []⟩,
  ⟨some 70, none, .mov (.m 72), []⟩,
  ⟨none, none, .kill [9, 40, 41, 42, 43, 44, 45, 46, 47, 48, 49, 50, 51, 52, 53, 54, 55, 56, 57, 58, 59, 60], []⟩])
 (.cond (.m 70)
 (.seq (K [2, 10]) (.seq (.regP [0, 1, 2, 3, 4] [0, 1, 2, 3, 4] [1, 2, 3] [
  ⟨some 73, none, .build [.d (.int .u8 0), .d (.int .u8 0), .d (.int .i64 0), .nl] [], []⟩,
  ⟨some 74, none, .ld none 0 (.s 8), []⟩,
  ⟨none, none, .st 4 (.s 6) (.m 73), []⟩,
  ⟨none, none, .st 1 (.s 7) (.c (.d (.int .i64 0))), []⟩,
  ⟨none, none, .st 1 (.s 8) (.m 74), []⟩])
 .ret))
 (.seq (.reg false [
  ⟨some 76, none, .mov (.m 10), []⟩,
  ⟨some 77, none, .bin .neq (.m 76) (.c (.d (.int .i64 0))), []⟩,
  ⟨some 78, none, .mov (.m 77), []⟩,
  ⟨some 79, (some (78, false)), .mov (.s 2), []⟩,
  ⟨some 80, (some (78, false)), .ld (some 4) 0 (.s 6), []⟩,
  ⟨some 81, (some (78, false)), .call 76 [.s 79, .s 80], []⟩,
  ⟨some 82, (some (78, false)), .bin .neq (.s 81) (.c (.d (.int .i64 0))), []⟩,
  ⟨some 83, none, .pick (.m 78) (.c (.d (.bool true))) (.m 82), []⟩,
  ⟨some 75, none, .mov (.m 83), []⟩,
  ⟨none, none, .kill [2, 79, 80, 81], []⟩])
 (.cond (.m 75)
 (.seq (.reg false [
  ⟨some 84, none, .build [.d (.int .u8 0), .d (.int .u8 0), .d (.int .i64 0), .nl] [], []⟩,
  ⟨none, none, .st 4 (.s 6) (.m 84), []⟩,
  ⟨none, none, .st 1 (.s 7) (.c (.d (.int .i64 0))), []⟩,
  ⟨none, none, .st 1 (.s 8) (.c (.d (.int .i64 8))), []⟩])
 .ret)
 .skip)))))
 (.seq (.seq (.regP [0, 1, 2, 3, 4] [0, 2, 1, 3, 4] [1, 2] [
  ⟨some 85, none, .ld (some 4) 0 (.s 6), []⟩,
  ⟨some 86, none, .ld none 0 (.s 7), []⟩,
  ⟨none, none, .st 4 (.s 6) (.m 85), []⟩,
  ⟨none, none, .st 1 (.s 7) (.m 86), []⟩,
  ⟨none, none, .st 1 (.s 8) (.c (.d (.int .i64 0))), []⟩]) (K [70, 71, 72, 73, 74, 75, 76, 77, 78, 79, 80, 81, 82, 83, 84]))
 .ret))))))))))⟩
def c67 : VFunc := ⟨5, [.cell 10 (some 9), .cell 11 none, .cell 12 none],
 (.seq (.reg false [
  ⟨some 5, none, .box (.m 0), []⟩,
  ⟨some 7, none, .box (.m 2), []⟩,
  ⟨some 8, none, .box (.m 3), []⟩,
  ⟨some 9, none, .box (.m 4), []⟩,
  ⟨some 10, none, .alloc [.d (.int .i64 0), .d (.int .u8 0), .d (.int .u8 0), .d (.int .i64 0), .nl, .nl, .nl, .nl, .nl], []⟩,
  ⟨some 11, none, .alloc [.d (.int .i64 0)], []⟩,
  ⟨some 12, none, .alloc [.d (.int .i64 0)], []⟩])
 (.seq (.seq (.reg false [
  ⟨some 22, none, .ld none 0 (.s 7), []⟩,
  ⟨some 23, none, .call 105 [.m 22, .c (.d (.bool false))], []⟩,
  ⟨some 21, none, .mov (.m 23), []⟩,
  ⟨some 24, none, .ext 21 false 0, []⟩,
  ⟨some 25, none, .ext 21 false 1, []⟩,
  ⟨none, none, .st 1 (.s 12) (.m 25), []⟩,
  ⟨none, none, .kill [24], []⟩])
 (.seq (.reg false [
  ⟨some 26, none, .ld none 0 (.s 12), []⟩,
  ⟨some 27, none, .bin .neq (.m 26) (.c (.d (.int .i64 0))), []⟩])
 (.cond (.m 27)
 (.seq (K [1, 5, 7, 8, 9]) (.seq (.regP [0, 1, 2, 3, 4] [0, 1, 2, 3, 4] [1, 2, 3] [
  ⟨some 28, none, .build [.d (.int .i64 0), .d (.int .u8 0), .d (.int .u8 0), .d (.int .i64 0), .nl, .nl, .nl, .nl, .nl] [], []⟩,
  ⟨some 29, none, .ld none 0 (.s 12), []⟩,
  ⟨none, none, .st 9 (.s 10) (.m 28), []⟩,
  ⟨none, none, .st 1 (.s 11) (.c (.d (.int .i64 0))), []⟩,
  ⟨none, none, .st 1 (.s 12) (.m 29), []⟩])
 .ret))
 .skip)))
 (.seq (.seq (.reg false [
  ⟨some 31, none, .ld none 0 (.s 5), []⟩,
  ⟨some 32, none, .mov (.m 1), []⟩,
  ⟨some 33, none, .call 59 [.m 31, .m 32, .c (.d (.int .i64 0))], []⟩,
  ⟨some 30, none, .mov (.m 33), []⟩,
  ⟨some 34, none, .ext 30 false 0, []⟩,
  ⟨some 35, none, .ext 30 false 1, []⟩,
  ⟨some 36, none, .ext 30 false 2, []⟩,
  ⟨none, none, .st 1 (.s 11) (.m 35), []⟩,
  ⟨none, none, .st 1 (.s 12) (.m 36), []⟩,
  ⟨none, none, .kill [34], []⟩])
 (.seq (.reg false [
  ⟨some 37, none, .ld none 0 (.s 12), []⟩,
  ⟨some 38, none, .bin .neq (.m 37) (.c (.d (.int .i64 0))), []⟩])
 (.cond (.m 38)
 (.seq (K [5, 7, 8, 9]) (.seq (.regP [0, 1, 2, 3, 4] [0, 1, 2, 3, 4] [1, 2, 3] [
  ⟨some 39, none, .build [.d (.int .i64 0), .d (.int .u8 0), .d (.int .u8 0), .d (.int .i64 0), .nl, .nl, .nl, .nl, .nl] [], []⟩,
  ⟨some 40, none, .ld none 0 (.s 12), []⟩,
  ⟨none, none, .st 9 (.s 10) (.m 39), []⟩,
  ⟨none, none, .st 1 (.s 11) (.c (.d (.int .i64 0))), []⟩,
  ⟨none, none, .st 1 (.s 12) (.m 40), []⟩])
 .ret))
 .skip)))
 (.seq (.seq (.reg false [
  ⟨some 41, none, .ld none 0 (.s 7), []⟩,
  ⟨some 42, none, .ld (some 4) 0 (.s 9), []⟩,
  ⟨some 43, none, .call 76 [.m 41, .m 42], []⟩,
  ⟨none, none, .st 1 (.s 12) (.m 43), []⟩])
 (.seq (.reg false [
  ⟨some 44, none, .ld none 0 (.s 8), []⟩,
  ⟨some 45, none, .mov (.m 44), []⟩,
  ⟨some 46, (some (45, true)), .ld none 0 (.s 12), []⟩,
  ⟨some 47, (some (45, true)), .bin .neq (.s 46) (.c (.d (.int .i64 0))), []⟩,
  ⟨some 48, none, .pick (.m 45) (.m 47) (.c (.d (.bool false))), []⟩,
  ⟨none, none, .kill [46], []⟩])
 (.cond (.m 48)
 (.seq (K [5, 7, 8, 9]) (.seq (.regP [0, 1, 2, 3, 4] [0, 1, 2, 3, 4] [1, 2, 3] [
  ⟨some 49, none, .build [.d (.int .i64 0), .d (.int .u8 0), .d (.int .u8 0), .d (.int .i64 0), .nl, .nl, .nl, .nl, .nl] [], []⟩,
  ⟨some 50, none, .ld none 0 (.s 12), []⟩,
  ⟨none, none, .st 9 (.s 10) (.m 49), []⟩,
  ⟨none, none, .st 1 (.s 11) (.c (.d (.int .i64 0))), []⟩,
  ⟨none, none, .st 1 (.s 12) (.m 50), []⟩])
 .ret))
 .skip)))
 (.seq (.reg false [
  ⟨some 13, none, .alloc [.d (.int .i64 0)], []⟩,
  ⟨some 14, none, .alloc [.d (.int .i64 0)], []⟩,
  ⟨none, none, .st 1 (.s 13) (.c (.d (.int .i64 0))), []⟩,
  ⟨none, none, .st 1 (.s 14) (.c (.d (.int .i64 0))), []⟩])
 (.seq (.reg false [
  ⟨some 51, none, .mkfn 107 [] [.s 5, .s 11, .s 12], []⟩,
  ⟨some 15, none, .alloc [.nilf], []⟩,
  ⟨none, none, .st 1 (.s 15) (.m 51), []⟩])
 (.seq (.seq (.reg false [
  ⟨some 52, none, .mkfn 108 [] [.s 5, .s 11, .s 10, .s 12], []⟩,
  ⟨some 53, none, .mkfn 109 [] [.m 9, .s 10, .m 8, .s 5, .s 11, .s 7, .s 12], []⟩,
  ⟨some 54, none, .mkfn 110 [] [.s 5, .s 11, .s 10, .s 12], []⟩,
  ⟨some 55, none, .mkfn 112 [] [.s 5, .s 11, .s 10, .s 12], []⟩,
  ⟨some 56, none, .mkfn 114 [] [.s 15, .s 13], []⟩,
  ⟨some 57, none, .mkfn 115 [] [.s 15, .s 14], []⟩,
  ⟨some 58, none, .mkfn 116 [] [.s 14, .s 5, .s 11, .s 10, .s 12], []⟩,
  ⟨some 59, none, .mkfn 118 [] [.s 13, .m 15], []⟩,
  ⟨some 60, none, .mksv 1 [.m 52, .m 53, .m 54, .m 55, .m 56, .m 57, .m 58, .m 59], []⟩,
  ⟨some 61, none, .len (.s 60), []⟩,
  ⟨some 62, none, .mov (.c (.d (.int .i64 0))), []⟩])
 (.block 0
 (.loop
 (.seq (.reg false [
  ⟨some 63, none, .bin .lss (.s 62) (.s 61), []⟩])
 (.seq (.cond (.m 63)
 .skip
 (.seq (K [60, 61, 62]) (.exit 0)))
 (.seq (.block 1
 (.seq (.reg false [
  ⟨some 64, none, .ia 1 (.s 60) (.s 62), []⟩,
  ⟨some 65, none, .ld none 0 (.m 64), []⟩,
  ⟨some 17, none, .mov (.m 65), []⟩])
 (.seq (.reg false [
  ⟨none, none, .st 1 (.s 12) (.c (.d (.int .i64 0))), []⟩])
 (.seq (.reg false [
  ⟨some 66, none, .mov (.m 17), []⟩,
  ⟨some 67, none, .callv (.m 66) [], []⟩,
  ⟨none, none, .kill [67], []⟩])
 (.seq (.reg false [
  ⟨some 68, none, .ld none 0 (.s 12), []⟩,
  ⟨some 69, none, .bin .neq (.m 68) (.c (.d (.int .i64 0))), []⟩])
 (.cond (.m 69)
 (.seq (K [5, 7, 13, 14, 60, 61, 62]) (.seq (.regP [0, 1, 2, 3, 4] [0, 1, 2, 3, 4] [1, 2, 3] [
  ⟨some 70, none, .build [.d (.int .i64 0), .d (.int .u8 0), .d (.int .u8 0), .d (.int .i64 0), .nl, .nl, .nl, .nl, .nl] [], []⟩,
  ⟨some 71, none, .ld none 0 (.s 12), []⟩,
  ⟨none, none, .st 9 (.s 10) (.m 70), []⟩,
  ⟨none, none, .st 1 (.s 11) (.c (.d (.int .i64 0))), []⟩,
  ⟨none, none, .st 1 (.s 12) (.m 71), []⟩])
 .ret))
 .skip))))))
 (.reg false [
  ⟨some 72, none, .bin .add (.m 62) (.c (.d (.int .i64 1))), []⟩,
  ⟨some 62, none, .mov (.m 72), []⟩,
  ⟨none, none, .kill [17, 64, 65, 66, 67, 68, 69, 70, 71], []⟩])))))))
 (.seq (.reg false [
  ⟨some 73, none, .mkslice [.int .i64 0] (.c (.d (.int .i64 256))) (.c (.d (.int .i64 256))), [(0, 0)]⟩,
  ⟨some 74, none, .fa 8 (.s 10), []⟩,
  ⟨none, none, .st 1 (.m 74) (.m 73), []⟩,
  ⟨none, none, .kill [17, 60, 61, 62, 63, 64, 65, 66, 67, 68, 69, 70, 71, 72], []⟩])
 (.seq (.reg false [
  ⟨some 75, none, .build [.d (.int .i64 0), .d (.int .i64 0), .nl, .nl, .d (.int .i64 0), .d (.int .i64 0), .nl, .nl, .d (.int .i64 0), .d (.int .i64 0), .nl, .nl, .d (.int .i64 0), .d (.int .i64 0), .nl, .nl, .d (.int .i64 0), .d (.int .i64 0), .nl, .nl, .d (.int .i64 0), .d (.int .i64 0), .nl, .nl, .d (.int .i64 0), .d (.int .i64 0), .nl, .nl, .d (.int .i64 0), .d (.int .i64 0), .nl, .nl, .d (.int .i64 0), .d (.int .i64 0), .nl, .nl, .d (.int .i64 0), .d (.int .i64 0), .nl, .nl, .d (.int .i64 0), .d (.int .i64 0), .nl, .nl, .d (.int .i64 0), .d (.int .i64 0), .nl, .nl] [], []⟩,
  ⟨some 76, none, .box (.m 75), []⟩,
  ⟨some 18, none, .alloc [.nilp], []⟩,
  ⟨none, none, .st 1 (.s 18) (.m 76), []⟩])
 (.seq (.seq (.reg false [
  ⟨some 77, none, .ld none 1 (.m 7), []⟩,
  ⟨some 78, none, .fa 1 (.s 10), []⟩,
  ⟨some 79, none, .ld (some 4) 0 (.m 78), []⟩,
  ⟨some 80, none, .fa 5 (.s 10), []⟩,
  ⟨some 81, none, .ld none 0 (.m 80), []⟩,
  ⟨some 82, none, .calli 101 [.m 77, .m 79, .m 81], []⟩])
 (.block 2
 (.rangeF (.m 82) [83]
 (.reg false [
  ⟨some 19, none, .alloc [.d (.int .i64 0), .d (.int .i64 0), .d (.int .i64 0)], []⟩,
  ⟨none, none, .st 3 (.s 19) (.m 83), []⟩,
  ⟨none, none, .kill [13, 14], []⟩])
 (.block 3
 (.seq (.reg false [
  ⟨some 20, none, .mov (.c (.nl)), []⟩,
  ⟨none, none, .kill [20], []⟩])
 (.seq (.seq (.seq (.regP [0, 1, 2, 3, 4, 5, 6, 7, 8, 9, 10, 11, 12, 13] [0, 1, 2, 3, 4, 5, 6, 7, 8, 11, 9, 12, 10, 13] [0, 1, 5] [
  ⟨some 85, none, .ld none 0 (.m 5), []⟩,
  ⟨some 86, none, .ld none 0 (.s 11), []⟩,
  ⟨some 87, none, .ld none 0 (.m 18), []⟩,
  ⟨some 88, none, .fa 0 (.s 19), []⟩,
  ⟨some 89, none, .ld none 0 (.m 88), []⟩,
  ⟨some 90, none, .calli 103 [.m 87, .m 89], []⟩,
  ⟨some 91, none, .call 119 [.m 85, .m 86, .m 90], []⟩,
  ⟨some 84, none, .mov (.m 91), []⟩,
  ⟨some 92, none, .ext 84 true 0, []⟩,
  ⟨some 93, none, .ext 84 false 1, []⟩,
  ⟨some 94, none, .ext 84 false 2, []⟩,
  ⟨some 20, none, .mov (.m 92), []⟩,
  ⟨none, none, .st 1 (.s 11) (.m 93), []⟩,
  ⟨none, none, .st 1 (.s 12) (.m 94), []⟩]) (K [84]))
 (.seq (.reg false [
  ⟨some 95, none, .ld none 0 (.s 12), []⟩,
  ⟨some 96, none, .bin .neq (.m 95) (.c (.d (.int .i64 0))), []⟩])
 (.cond (.m 96)
 (.seq (K [19, 20]) (.seq (.seq (.regP [0, 1, 2, 3, 4] [0, 1, 2, 3, 4] [1, 2, 3] [
  ⟨some 97, none, .build [.d (.int .i64 0), .d (.int .u8 0), .d (.int .u8 0), .d (.int .i64 0), .nl, .nl, .nl, .nl, .nl] [], []⟩,
  ⟨some 98, none, .ld none 0 (.s 12), []⟩,
  ⟨none, none, .st 9 (.m 10) (.m 97), []⟩,
  ⟨none, none, .st 1 (.m 11) (.c (.d (.int .i64 0))), []⟩,
  ⟨none, none, .st 1 (.s 12) (.m 98), []⟩]) (K [12]))
 .ret))
 (.seq (K [11, 12]) .skip))))
 (.reg false [
  ⟨some 99, none, .fa 8 (.m 10), []⟩,
  ⟨some 100, none, .ld none 0 (.m 99), []⟩,
  ⟨some 101, none, .fa 1 (.s 19), []⟩,
  ⟨some 102, none, .ld none 0 (.m 101), []⟩,
  ⟨some 103, none, .fa 2 (.m 19), []⟩,
  ⟨some 104, none, .ld none 0 (.m 103), []⟩,
  ⟨some 105, none, .slice 1 (.m 100) (some (.m 102)) (some (.m 104)) none, []⟩,
  ⟨some 106, none, .mov (.m 20), []⟩,
  ⟨some 107, none, .cpy 1 (.m 105) (.m 106), []⟩,
  ⟨none, none, .kill [107], []⟩])))))))
 (.seq (.seq (.reg false [
  ⟨some 108, none, .ld none 1 (.m 13), []⟩,
  ⟨some 109, none, .bin .neq (.m 108) (.c (.d (.int .i64 0))), []⟩,
  ⟨some 110, none, .mov (.m 109), []⟩,
  ⟨some 111, (some (110, false)), .ld none 0 (.s 14), []⟩,
  ⟨some 112, (some (110, false)), .bin .eql (.s 111) (.c (.d (.int .i64 1))), []⟩,
  ⟨some 113, (some (110, false)), .mov (.s 112), []⟩,
  ⟨some 114, (some (113, true)), .fa 7 (.s 10), []⟩,
  ⟨some 115, (some (113, true)), .ld none 0 (.s 114), []⟩,
  ⟨some 116, (some (113, true)), .call 99 [.s 115], []⟩,
  ⟨some 117, (some (113, true)), .un .not (.s 116), []⟩,
  ⟨some 118, (some (110, false)), .pick (.s 113) (.s 117) (.c (.d (.bool false))), []⟩,
  ⟨some 119, none, .pick (.m 110) (.c (.d (.bool true))) (.m 118), []⟩,
  ⟨none, none, .kill [5, 14, 18, 19, 20, 82, 84, 85, 86, 87, 88, 89, 90, 91, 92, 93, 94, 95, 96, 97, 98, 99, 100, 101, 102, 103, 104, 105, 106, 107, 111, 112, 113, 114, 115, 116, 117], []⟩])
 (.cond (.m 119)
 (.seq (.reg false [
  ⟨some 120, none, .build [.d (.int .i64 0), .d (.int .u8 0), .d (.int .u8 0), .d (.int .i64 0), .nl, .nl, .nl, .nl, .nl] [], []⟩,
  ⟨none, none, .st 9 (.s 10) (.m 120), []⟩,
  ⟨none, none, .st 1 (.s 11) (.c (.d (.int .i64 0))), []⟩,
  ⟨none, none, .st 1 (.s 12) (.c (.d (.int .i64 8))), []⟩])
 .ret)
 .skip))
 (.seq (.regP [0, 1, 2, 3, 4] [0, 1, 2, 3, 4] [1, 2] [
  ⟨some 121, none, .ld (some 9) 0 (.s 10), []⟩,
  ⟨some 122, none, .ld none 0 (.s 11), []⟩,
  ⟨none, none, .st 9 (.s 10) (.m 121), []⟩,
  ⟨none, none, .st 1 (.s 11) (.m 122), []⟩,
  ⟨none, none, .st 1 (.s 12) (.c (.d (.int .i64 0))), []⟩])
 .ret))))))))))))⟩
def c68 : VFunc := ⟨1, [.tmp 2, .tmp 3],
 (.seq (.reg false [
  ⟨some 2, none, .mov (.c (.nl)), []⟩,
  ⟨some 3, none, .mov (.c (.d (.int .i64 0))), []⟩,
  ⟨none, none, .kill [3], []⟩])
 (.seq (.seq (.reg false [
  ⟨some 6, none, .mov (.s 0), []⟩,
  ⟨some 7, none, .calli 65 [.m 6, .c (.d (.int .i64 3))], []⟩,
  ⟨some 3, none, .mov (.m 7), []⟩])
 (.seq (.reg false [
  ⟨some 8, none, .mov (.s 3), []⟩])
 (.block 0
 (.seq (.block 2
 (.seq (.block 1
 (.seq (.seq (.reg false [
  ⟨some 10, none, .bin .eql (.m 8) (.c (.d (.int .i64 6))), []⟩,
  ⟨some 9, none, .mov (.m 10), []⟩])
 (.cond (.m 9)
 (.seq (K [3]) (.exit 1))
 .skip))
 (.exit 2)))
 (.seq (.reg false [
  ⟨some 11, none, .mov (.s 0), []⟩,
  ⟨some 12, none, .calli 65 [.m 11, .c (.d (.int .i64 4))], []⟩,
  ⟨some 4, none, .mov (.m 12), []⟩,
  ⟨none, none, .kill [9, 10], []⟩])
 (.seq (.reg false [
  ⟨some 13, none, .mov (.s 0), []⟩,
  ⟨some 14, none, .mov (.s 4), []⟩,
  ⟨some 15, none, .bin .gtr (.m 14) (.c (.d (.int .i64 0))), []⟩,
  ⟨some 16, none, .calli 64 [.m 13, .m 15], []⟩,
  ⟨none, none, .kill [16], []⟩])
 (.seq (.seq (.reg false [
  ⟨some 17, none, .mov (.s 4), []⟩,
  ⟨some 18, none, .bin .eql (.m 17) (.c (.d (.int .i64 15))), []⟩])
 (.cond (.m 18)
 (.seq (K [4]) (.seq (.reg false [
  ⟨some 19, none, .mov (.s 0), []⟩,
  ⟨some 20, none, .calli 65 [.m 19, .c (.d (.int .i64 8))], []⟩,
  ⟨some 5, none, .mov (.m 20), []⟩])
 (.seq (.reg false [
  ⟨some 21, none, .mov (.s 0), []⟩,
  ⟨some 22, none, .mov (.s 5), []⟩,
  ⟨some 23, none, .bin .gtr (.m 22) (.c (.d (.int .i64 0))), []⟩,
  ⟨some 24, none, .calli 64 [.m 21, .m 23], []⟩,
  ⟨none, none, .kill [24], []⟩])
 (.reg false [
  ⟨some 25, none, .mov (.m 5), []⟩,
  ⟨some 26, none, .bin .add (.m 25) (.c (.d (.int .i64 14))), []⟩,
  ⟨some 4, none, .mov (.m 26), []⟩]))))
 .skip))
 (.seq (.seq (.reg false [
  ⟨some 27, none, .mov (.m 4), []⟩,
  ⟨some 28, none, .mov (.c (.d (.int .i64 0))), []⟩])
 (.block 3
 (.loop
 (.seq (.reg false [
  ⟨some 29, none, .bin .lss (.s 28) (.s 27), []⟩])
 (.seq (.cond (.m 29)
 .skip
 (.seq (K [27, 28]) (.exit 3)))
 (.seq (.block 4
 (.seq (.seq (.reg false [
  ⟨some 30, none, .mov (.s 0), []⟩,
  ⟨some 31, none, .nilck (.m 30), []⟩,
  ⟨some 32, none, .fa 2 (.m 31), []⟩,
  ⟨some 33, none, .ld none 0 (.m 32), []⟩,
  ⟨some 34, none, .bin .neq (.m 33) (.c (.d (.int .i64 0))), []⟩])
 (.cond (.m 34)
 (.seq (K [0, 2, 27, 28]) (.seq (.reg false [
  ⟨some 2, none, .mov (.c (.nl)), []⟩,
  ⟨some 3, none, .mov (.c (.d (.int .i64 0))), []⟩])
 .ret))
 .skip))
 (.reg false [
  ⟨some 35, none, .mov (.m 2), []⟩,
  ⟨some 36, none, .mov (.s 0), []⟩,
  ⟨some 37, none, .calli 65 [.m 36, .c (.d (.int .i64 8))], []⟩,
  ⟨some 38, none, .conv .u8 (.m 37), []⟩,
  ⟨some 39, none, .mks 1 [.m 38], []⟩,
  ⟨some 40, none, .app 1 (.m 35) (.m 39), []⟩,
  ⟨some 2, none, .mov (.m 40), []⟩])))
 (.reg false [
  ⟨some 41, none, .bin .add (.m 28) (.c (.d (.int .i64 1))), []⟩,
  ⟨some 28, none, .mov (.m 41), []⟩,
  ⟨none, none, .kill [3, 30, 31, 32, 33, 34, 35, 36, 37, 38, 39, 40], []⟩])))))))
 (.reg false [
  ⟨some 42, none, .mov (.s 0), []⟩,
  ⟨some 43, none, .calli 65 [.m 42, .c (.d (.int .i64 3))], []⟩,
  ⟨some 3, none, .mov (.m 43), []⟩,
  ⟨none, none, .kill [27, 28, 29, 30, 31, 32, 33, 34, 35, 36, 37, 38, 39, 40, 41], []⟩])))))))
 (.seq (.reg false [
  ⟨some 44, none, .mov (.m 0), []⟩,
  ⟨some 45, none, .mov (.s 3), []⟩,
  ⟨some 46, none, .bin .eql (.m 45) (.c (.d (.int .i64 7))), []⟩,
  ⟨some 47, none, .calli 64 [.m 44, .m 46], []⟩,
  ⟨none, none, .kill [4, 5, 9, 10, 11, 12, 13, 14, 15, 16, 17, 18, 19, 20, 21, 22, 23, 24, 25, 26, 27, 28, 29, 30, 31, 32, 33, 34, 35, 36, 37, 38, 39, 40, 41, 42, 43, 47], []⟩])
 (.exit 0))))))
 .ret))⟩
def c69 : VFunc := ⟨2, [.tmp 4],
 (.seq (.reg false [
  ⟨some 4, none, .mov (.c (.d (.bool false))), []⟩,
  ⟨none, none, .kill [4], []⟩])
 (.seq (.reg false [
  ⟨some 5, none, .mov (.m 0), []⟩,
  ⟨some 6, none, .mov (.m 1), []⟩,
  ⟨some 7, none, .call 120 [.m 5, .m 6], []⟩,
  ⟨some 8, none, .bin .geq (.m 7) (.c (.d (.int .i64 0))), []⟩,
  ⟨some 4, none, .mov (.m 8), []⟩])
 .ret))⟩
def c76 : VFunc := ⟨2, [.tmp 4],
 (.seq (.reg false [
  ⟨some 3, none, .box (.m 1), []⟩,
  ⟨some 4, none, .mov (.c (.d (.int .i64 0))), []⟩,
  ⟨none, none, .kill [4], []⟩])
 (.seq (.reg false [
  ⟨some 8, none, .mov (.m 0), []⟩,
  ⟨some 9, none, .fa 0 (.s 3), []⟩,
  ⟨some 10, none, .ld none 0 (.m 9), []⟩,
  ⟨some 11, none, .bin .eql (.m 10) (.c (.d (.int .u8 2))), []⟩,
  ⟨some 12, none, .call 105 [.m 8, .m 11], []⟩,
  ⟨some 7, none, .mov (.m 12), []⟩,
  ⟨some 13, none, .ext 7 false 0, []⟩,
  ⟨some 14, none, .ext 7 false 1, []⟩,
  ⟨some 5, none, .mov (.m 13), []⟩,
  ⟨some 6, none, .mov (.m 14), []⟩])
 (.seq (.seq (.reg false [
  ⟨some 15, none, .mov (.s 6), []⟩,
  ⟨some 16, none, .bin .neq (.m 15) (.c (.d (.int .i64 0))), []⟩])
 (.cond (.m 16)
 (.seq (K [3, 5]) (.seq (.reg false [
  ⟨some 17, none, .mov (.m 6), []⟩,
  ⟨some 4, none, .mov (.m 17), []⟩])
 .ret))
 (.seq (K [6]) .skip)))
 (.seq (.seq (.reg false [
  ⟨some 18, none, .fa 0 (.s 3), []⟩,
  ⟨some 19, none, .ld none 0 (.m 18), []⟩,
  ⟨some 20, none, .bin .gtr (.m 19) (.c (.d (.int .u8 3))), []⟩,
  ⟨some 21, none, .mov (.m 20), []⟩,
  ⟨some 22, (some (21, false)), .fa 1 (.s 3), []⟩,
  ⟨some 23, (some (21, false)), .ld none 0 (.s 22), []⟩,
  ⟨some 24, (some (21, false)), .bin .gtr (.s 23) (.c (.d (.int .u8 1))), []⟩,
  ⟨some 25, none, .pick (.m 21) (.c (.d (.bool true))) (.m 24), []⟩,
  ⟨some 26, none, .mov (.m 25), []⟩,
  ⟨some 27, (some (26, false)), .fa 2 (.s 3), []⟩,
  ⟨some 28, (some (26, false)), .ld none 0 (.s 27), []⟩,
  ⟨some 29, (some (26, false)), .bin .lss (.s 28) (.c (.d (.int .i64 0))), []⟩,
  ⟨some 30, none, .pick (.m 26) (.c (.d (.bool true))) (.m 29), []⟩,
  ⟨some 31, none, .mov (.m 30), []⟩,
  ⟨some 32, (some (31, false)), .fa 2 (.s 3), []⟩,
  ⟨some 33, (some (31, false)), .ld none 0 (.s 32), []⟩,
  ⟨some 34, (some (31, false)), .mov (.s 5), []⟩,
  ⟨some 35, (some (31, false)), .bin .gtr (.s 33) (.s 34), []⟩,
  ⟨some 36, none, .pick (.m 31) (.c (.d (.bool true))) (.m 35), []⟩,
  ⟨some 37, none, .mov (.m 36), []⟩,
  ⟨some 38, (some (37, false)), .ld (some 4) 0 (.s 3), []⟩,
  ⟨some 39, (some (37, false)), .call 121 [.s 38], []⟩,
  ⟨some 40, (some (37, false)), .un .not (.s 39), []⟩,
  ⟨some 41, none, .pick (.m 37) (.c (.d (.bool true))) (.m 40), []⟩,
  ⟨none, none, .kill [3, 5, 22, 23, 27, 28, 32, 33, 34, 38, 39], []⟩])
 (.cond (.m 41)
 (.seq (.reg false [
  ⟨some 4, none, .mov (.c (.d (.int .i64 8))), []⟩])
 .ret)
 .skip))
 (.seq (.reg false [
  ⟨some 4, none, .mov (.c (.d (.int .i64 0))), []⟩])
 .ret)))))⟩
def c77 : VFunc := ⟨1, [.tmp 2, .tmp 3],
 (.seq (.reg false [
  ⟨some 1, none, .box (.m 0), []⟩,
  ⟨some 2, none, .mov (.c (.d (.int .i64 0))), []⟩,
  ⟨some 3, none, .mov (.c (.d (.int .i64 0))), []⟩,
  ⟨none, none, .kill [2, 3], []⟩])
 (.seq (.block 0
 (.seq (.reg false [
  ⟨some 5, none, .ld (some 4) 0 (.s 1), []⟩,
  ⟨some 6, none, .call 122 [.m 5], []⟩,
  ⟨some 7, none, .un .not (.m 6), []⟩,
  ⟨some 4, none, .mov (.m 7), []⟩])
 (.cond (.m 4)
 (.seq (K [1]) (.seq (.reg false [
  ⟨some 2, none, .mov (.c (.d (.int .i64 0))), []⟩,
  ⟨some 3, none, .mov (.c (.d (.int .i64 8))), []⟩])
 .ret))
 (.seq (.reg false [
  ⟨some 9, none, .fa 0 (.m 1), []⟩,
  ⟨some 10, none, .ld none 0 (.m 9), []⟩,
  ⟨some 11, none, .bin .eql (.m 10) (.c (.d (.int .u8 2))), []⟩,
  ⟨some 8, none, .mov (.m 11), []⟩])
 (.cond (.m 8)
 (.seq (.reg false [
  ⟨some 2, none, .mov (.c (.d (.int .i64 8))), []⟩,
  ⟨some 3, none, .mov (.c (.d (.int .i64 0))), []⟩])
 .ret)
 .skip)))))
 (.seq (.reg false [
  ⟨some 2, none, .mov (.c (.d (.int .i64 1))), []⟩,
  ⟨some 3, none, .mov (.c (.d (.int .i64 0))), []⟩,
  ⟨none, none, .kill [4, 5, 6, 7, 8, 9, 10, 11], []⟩])
 .ret)))⟩
def c88 : VFunc := ⟨2, [.tmp 4],
 (.seq (.reg false [
  ⟨some 4, none, .mov (.c (.d (.bool false))), []⟩,
  ⟨none, none, .kill [4], []⟩])
 (.seq (.seq (.reg false [
  ⟨some 6, none, .mov (.s 0), []⟩,
  ⟨some 7, none, .len (.m 6), []⟩,
  ⟨some 8, none, .mov (.s 1), []⟩,
  ⟨some 9, none, .len (.m 8), []⟩,
  ⟨some 10, none, .bin .neq (.m 7) (.m 9), []⟩])
 (.cond (.m 10)
 (.seq (K [0, 1]) (.seq (.reg false [
  ⟨some 4, none, .mov (.c (.d (.bool false))), []⟩])
 .ret))
 .skip))
 (.seq (.seq (.reg false [
  ⟨some 11, none, .mov (.s 0), []⟩,
  ⟨some 12, none, .len (.m 11), []⟩,
  ⟨some 13, none, .mov (.c (.d (.int .i64 0))), []⟩])
 (.block 0
 (.loop
 (.seq (.reg false [
  ⟨some 14, none, .bin .lss (.s 13) (.s 12), []⟩])
 (.seq (.cond (.m 14)
 .skip
 (.seq (K [0, 1, 12, 13]) (.exit 0)))
 (.seq (.block 1
 (.seq (.reg false [
  ⟨some 15, none, .mov (.s 13), []⟩,
  ⟨some 5, none, .mov (.m 15), []⟩])
 (.seq (.seq (.reg true [
  ⟨some 16, none, .mov (.s 0), []⟩,
  ⟨some 17, none, .mov (.s 5), []⟩,
  ⟨some 18, none, .ia 1 (.m 16) (.m 17), []⟩,
  ⟨some 19, none, .ld none 0 (.m 18), []⟩,
  ⟨some 20, none, .mov (.s 1), []⟩,
  ⟨some 21, none, .mov (.s 5), []⟩,
  ⟨some 22, none, .ia 1 (.m 20) (.m 21), []⟩,
  ⟨some 23, none, .ld none 0 (.m 22), []⟩,
  ⟨some 24, none, .bin .neq (.m 19) (.m 23), []⟩]) (K [5]))
 (.cond (.m 24)
 (.seq (K [0, 1, 12, 13]) (.seq (.reg false [
  ⟨some 4, none, .mov (.c (.d (.bool false))), []⟩])
 .ret))
 .skip))))
 (.reg false [
  ⟨some 25, none, .bin .add (.m 13) (.c (.d (.int .i64 1))), []⟩,
  ⟨some 13, none, .mov (.m 25), []⟩,
  ⟨none, none, .kill [4, 5, 15, 16, 17, 18, 19, 20, 21, 22, 23, 24], []⟩])))))))
 (.seq (.reg false [
  ⟨some 4, none, .mov (.c (.d (.bool true))), []⟩,
  ⟨none, none, .kill [0, 1, 5, 12, 13, 14, 15, 16, 17, 18, 19, 20, 21, 22, 23, 24, 25], []⟩])
 .ret))))⟩
def c91 : VFunc := ⟨1, [.tmp 2],
 (.seq (.reg false [
  ⟨some 2, none, .mov (.c (.d (.bool false))), []⟩,
  ⟨none, none, .kill [2], []⟩])
 (.seq (.reg false [
  ⟨some 3, none, .mov (.s 0), []⟩,
  ⟨some 4, none, .bin .geq (.m 3) (.c (.d (.int .i64 0))), []⟩,
  ⟨some 5, none, .mov (.m 4), []⟩,
  ⟨some 6, (some (5, true)), .mov (.s 0), []⟩,
  ⟨some 7, (some (5, true)), .bin .leq (.s 6) (.c (.d (.int .i64 31))), []⟩,
  ⟨some 8, none, .pick (.m 5) (.m 7) (.c (.d (.bool false))), []⟩,
  ⟨some 2, none, .mov (.m 8), []⟩,
  ⟨none, none, .kill [0, 6], []⟩])
 .ret))⟩
def c92 : VFunc := ⟨2, [.tmp 4],
 (.seq (.reg false [
  ⟨some 2, none, .box (.m 0), []⟩,
  ⟨some 4, none, .mov (.c (.nl)), []⟩,
  ⟨none, none, .kill [4], []⟩])
 (.seq (.seq (.reg false [
  ⟨some 6, none, .mov (.m 1), []⟩])
 (.block 0
 (.rangeF (.m 6) [7]
 (.reg false [
  ⟨some 5, none, .mov (.m 7), []⟩])
 (.block 1
 (.reg false [
  ⟨some 8, none, .ld none 1 (.s 2), []⟩,
  ⟨some 9, none, .mov (.m 5), []⟩,
  ⟨some 10, none, .mks 1 [.m 9], []⟩,
  ⟨some 11, none, .app 1 (.m 8) (.m 10), []⟩,
  ⟨none, none, .st 1 (.m 2) (.m 11), []⟩])))))
 (.seq (.reg false [
  ⟨some 12, none, .ld none 1 (.m 2), []⟩,
  ⟨some 4, none, .mov (.m 12), []⟩,
  ⟨none, none, .kill [5, 6, 8, 9, 10, 11], []⟩])
 .ret)))⟩
def c93 : VFunc := ⟨2, [.tmp 4],
 (.seq (.reg false [
  ⟨some 2, none, .box (.m 0), []⟩,
  ⟨some 3, none, .box (.m 1), []⟩,
  ⟨some 4, none, .mov (.c (.nilf)), []⟩,
  ⟨none, none, .kill [4], []⟩])
 (.seq (.reg false [
  ⟨some 5, none, .mkfn 130 [] [.m 3, .m 2], []⟩,
  ⟨some 4, none, .mov (.m 5), []⟩])
 .ret))⟩
def c101 : VFunc := ⟨3, [.tmp 6],
 (.seq (.reg false [
  ⟨some 4, none, .box (.m 1), []⟩,
  ⟨some 5, none, .box (.m 2), []⟩,
  ⟨some 6, none, .mov (.c (.nilf)), []⟩,
  ⟨none, none, .kill [6], []⟩])
 (.seq (.reg false [
  ⟨some 10, none, .mov (.m 0), []⟩,
  ⟨some 11, none, .fa 0 (.s 4), []⟩,
  ⟨some 12, none, .ld none 0 (.m 11), []⟩,
  ⟨some 13, none, .bin .eql (.m 12) (.c (.d (.int .u8 2))), []⟩,
  ⟨some 14, none, .call 128 [.m 10, .m 13], []⟩,
  ⟨some 9, none, .mov (.m 14), []⟩,
  ⟨some 15, none, .ext 9 true 0, []⟩,
  ⟨some 16, none, .ext 9 false 1, []⟩,
  ⟨some 7, none, .alloc [.nl], []⟩,
  ⟨none, none, .st 1 (.s 7) (.m 15), []⟩,
  ⟨some 8, none, .mov (.m 16), []⟩,
  ⟨none, none, .kill [8], []⟩])
 (.seq (.reg false [
  ⟨some 17, none, .mkfn 146 [] [.m 5, .m 4, .m 7], []⟩,
  ⟨some 6, none, .mov (.m 17), []⟩])
 .ret)))⟩
def c105 : VFunc := ⟨2, [.tmp 4, .tmp 5],
 (.seq (.reg false [
  ⟨some 4, none, .mov (.c (.d (.int .i64 0))), []⟩,
  ⟨some 5, none, .mov (.c (.d (.int .i64 0))), []⟩,
  ⟨none, none, .kill [4, 5], []⟩])
 (.seq (.reg false [
  ⟨some 9, none, .mov (.m 0), []⟩,
  ⟨some 10, none, .mov (.m 1), []⟩,
  ⟨some 11, none, .call 128 [.m 9, .m 10], []⟩,
  ⟨some 8, none, .mov (.m 11), []⟩,
  ⟨some 12, none, .ext 8 true 0, []⟩,
  ⟨some 13, none, .ext 8 false 1, []⟩,
  ⟨some 6, none, .mov (.m 12), []⟩,
  ⟨some 7, none, .mov (.m 13), []⟩])
 (.seq (.reg false [
  ⟨some 14, none, .mov (.m 6), []⟩,
  ⟨some 15, none, .len (.m 14), []⟩,
  ⟨some 16, none, .bin .sub (.m 15) (.c (.d (.int .i64 1))), []⟩,
  ⟨some 17, none, .minmax true [.m 16, .c (.d (.int .i64 0))], []⟩,
  ⟨some 18, none, .mov (.m 7), []⟩,
  ⟨some 4, none, .mov (.m 17), []⟩,
  ⟨some 5, none, .mov (.m 18), []⟩])
 .ret)))⟩
def c106 : VFunc := ⟨4, [.tmp 5],
 (.seq (.reg false [
  ⟨some 5, none, .mov (.c (.d (.int .i64 0))), []⟩])
 (.seq (.seq (.reg false [
  ⟨some 6, none, .ld none 0 (.s 1), []⟩,
  ⟨some 7, none, .bin .eql (.m 6) (.c (.d (.int .i64 0))), []⟩])
 (.cond (.m 7)
 (.seq (K [5]) (.reg false [
  ⟨some 9, none, .ld none 0 (.m 2), []⟩,
  ⟨some 10, none, .ld none 0 (.s 3), []⟩,
  ⟨some 11, none, .mov (.m 0), []⟩,
  ⟨some 12, none, .call 59 [.m 9, .m 10, .m 11], []⟩,
  ⟨some 8, none, .mov (.m 12), []⟩,
  ⟨some 13, none, .ext 8 false 0, []⟩,
  ⟨some 14, none, .ext 8 false 1, []⟩,
  ⟨some 15, none, .ext 8 false 2, []⟩,
  ⟨some 5, none, .mov (.m 13), []⟩,
  ⟨none, none, .st 1 (.m 3) (.m 14), []⟩,
  ⟨none, none, .st 1 (.m 1) (.m 15), []⟩]))
 (.seq (K [0, 1, 2, 3]) .skip)))
 .ret))⟩
def c107 : VFunc := ⟨3, [.tmp 3],
 (.seq (.reg false [
  ⟨some 3, none, .mov (.c (.d (.int .i64 0))), []⟩,
  ⟨none, none, .kill [3], []⟩])
 (.seq (.reg false [
  ⟨some 5, none, .ld none 0 (.m 0), []⟩,
  ⟨some 6, none, .ld none 0 (.s 1), []⟩,
  ⟨some 7, none, .call 59 [.m 5, .m 6, .c (.d (.int .i64 1))], []⟩,
  ⟨some 4, none, .mov (.m 7), []⟩,
  ⟨some 8, none, .ext 4 false 0, []⟩,
  ⟨some 9, none, .ext 4 false 1, []⟩,
  ⟨some 10, none, .ext 4 false 2, []⟩,
  ⟨some 3, none, .mov (.m 8), []⟩,
  ⟨none, none, .st 1 (.m 1) (.m 9), []⟩,
  ⟨none, none, .st 1 (.m 2) (.m 10), []⟩])
 .ret))⟩
def c108 : VFunc := ⟨4, [],
 (.reg false [
  ⟨some 5, none, .ld none 0 (.m 0), []⟩,
  ⟨some 6, none, .ld none 0 (.s 1), []⟩,
  ⟨some 7, none, .call 59 [.m 5, .m 6, .c (.d (.int .i64 8))], []⟩,
  ⟨some 4, none, .mov (.m 7), []⟩,
  ⟨some 8, none, .ext 4 false 0, []⟩,
  ⟨some 9, none, .ext 4 false 1, []⟩,
  ⟨some 10, none, .ext 4 false 2, []⟩,
  ⟨some 11, none, .fa 0 (.m 2), []⟩,
  ⟨none, none, .st 1 (.m 11) (.m 8), []⟩,
  ⟨none, none, .st 1 (.m 1) (.m 9), []⟩,
  ⟨none, none, .st 1 (.m 3) (.m 10), []⟩])⟩
def c109 : VFunc := ⟨7, [],
 (.seq (.reg false [
  ⟨some 7, none, .ld (some 4) 0 (.m 0), []⟩,
  ⟨some 8, none, .call 36 [.m 7], []⟩,
  ⟨some 9, none, .fa 1 (.s 1), []⟩,
  ⟨none, none, .st 4 (.m 9) (.m 8), []⟩])
 (.seq (.reg false [
  ⟨some 10, none, .ld none 0 (.m 2), []⟩,
  ⟨some 11, none, .un .not (.m 10), []⟩])
 (.cond (.m 11)
 (.reg false [
  ⟨some 13, none, .ld none 0 (.m 3), []⟩,
  ⟨some 14, none, .ld none 0 (.s 4), []⟩,
  ⟨some 15, none, .ld none 0 (.m 5), []⟩,
  ⟨some 16, none, .call 66 [.m 13, .m 14, .m 15], []⟩,
  ⟨some 12, none, .mov (.m 16), []⟩,
  ⟨some 17, none, .ext 12 true 0, []⟩,
  ⟨some 18, none, .ext 12 false 1, []⟩,
  ⟨some 19, none, .ext 12 false 2, []⟩,
  ⟨some 20, none, .fa 1 (.m 1), []⟩,
  ⟨none, none, .st 4 (.m 20) (.m 17), []⟩,
  ⟨none, none, .st 1 (.m 4) (.m 18), []⟩,
  ⟨none, none, .st 1 (.m 6) (.m 19), []⟩])
 (.seq (K [1, 3, 4, 5, 6]) .skip))))⟩
def c110 : VFunc := ⟨4, [],
 (.reg false [
  ⟨some 5, none, .ld none 0 (.m 0), []⟩,
  ⟨some 6, none, .ld none 0 (.s 1), []⟩,
  ⟨some 7, none, .fa 1 (.s 2), []⟩,
  ⟨some 8, none, .ld (some 4) 0 (.m 7), []⟩,
  ⟨some 9, none, .call 111 [.m 5, .m 6, .m 8], []⟩,
  ⟨some 4, none, .mov (.m 9), []⟩,
  ⟨some 10, none, .ext 4 true 0, []⟩,
  ⟨some 11, none, .ext 4 false 1, []⟩,
  ⟨some 12, none, .ext 4 false 2, []⟩,
  ⟨some 13, none, .fa 5 (.m 2), []⟩,
  ⟨none, none, .st 1 (.m 13) (.m 10), []⟩,
  ⟨none, none, .st 1 (.m 1) (.m 11), []⟩,
  ⟨none, none, .st 1 (.m 3) (.m 12), []⟩])⟩
def c111 : VFunc := ⟨3, [.tmp 6, .tmp 7, .tmp 8],
 (.seq (.reg false [
  ⟨some 5, none, .box (.m 2), []⟩,
  ⟨some 6, none, .mov (.c (.nl)), []⟩,
  ⟨some 7, none, .mov (.c (.d (.int .i64 0))), []⟩,
  ⟨some 8, none, .mov (.c (.d (.int .i64 0))), []⟩,
  ⟨none, none, .kill [7, 8], []⟩])
 (.seq (.seq (.reg false [
  ⟨some 16, none, .ld (some 4) 0 (.s 5), []⟩,
  ⟨some 17, none, .call 77 [.m 16], []⟩,
  ⟨some 15, none, .mov (.m 17), []⟩,
  ⟨some 18, none, .ext 15 false 0, []⟩,
  ⟨some 19, none, .ext 15 false 1, []⟩,
  ⟨some 8, none, .mov (.m 19), []⟩,
  ⟨none, none, .kill [18], []⟩])
 (.seq (.reg false [
  ⟨some 20, none, .mov (.s 8), []⟩,
  ⟨some 21, none, .bin .neq (.m 20) (.c (.d (.int .i64 0))), []⟩])
 (.cond (.m 21)
 (.seq (K [0, 1, 5, 6]) (.seq (.reg false [
  ⟨some 22, none, .mov (.m 8), []⟩,
  ⟨some 6, none, .mov (.c (.nl)), []⟩,
  ⟨some 7, none, .mov (.c (.d (.int .i64 0))), []⟩,
  ⟨some 8, none, .mov (.m 22), []⟩])
 .ret))
 (.seq (K [8]) .skip))))
 (.seq (.seq (.reg false [
  ⟨some 24, none, .mov (.s 0), []⟩,
  ⟨some 25, none, .mov (.m 1), []⟩,
  ⟨some 26, none, .call 59 [.m 24, .m 25, .c (.d (.int .i64 0))], []⟩,
  ⟨some 23, none, .mov (.m 26), []⟩,
  ⟨some 27, none, .ext 23 false 0, []⟩,
  ⟨some 28, none, .ext 23 false 1, []⟩,
  ⟨some 29, none, .ext 23 false 2, []⟩,
  ⟨some 7, none, .mov (.m 28), []⟩,
  ⟨some 8, none, .mov (.m 29), []⟩,
  ⟨none, none, .kill [27], []⟩])
 (.seq (.reg false [
  ⟨some 30, none, .mov (.s 8), []⟩,
  ⟨some 31, none, .bin .neq (.m 30) (.c (.d (.int .i64 0))), []⟩])
 (.cond (.m 31)
 (.seq (K [0, 5, 6, 7]) (.seq (.reg false [
  ⟨some 32, none, .mov (.m 8), []⟩,
  ⟨some 6, none, .mov (.c (.nl)), []⟩,
  ⟨some 7, none, .mov (.c (.d (.int .i64 0))), []⟩,
  ⟨some 8, none, .mov (.m 32), []⟩])
 .ret))
 (.seq (K [8]) .skip))))
 (.seq (.reg false [
  ⟨some 34, none, .ld (some 4) 0 (.s 5), []⟩,
  ⟨some 35, none, .call 132 [.m 34], []⟩,
  ⟨some 33, none, .mov (.m 35), []⟩,
  ⟨some 36, none, .ext 33 false 0, []⟩,
  ⟨some 37, none, .ext 33 false 1, []⟩,
  ⟨some 9, none, .mov (.m 36), []⟩,
  ⟨some 10, none, .mov (.m 37), []⟩])
 (.seq (.seq (.reg false [
  ⟨some 38, none, .fa 3 (.s 5), []⟩,
  ⟨some 39, none, .ld none 0 (.m 38), []⟩,
  ⟨some 40, none, .len (.m 39), []⟩,
  ⟨some 41, none, .mov (.c (.d (.int .i64 0))), []⟩])
 (.block 0
 (.loop
 (.seq (.reg false [
  ⟨some 42, none, .bin .lss (.s 41) (.s 40), []⟩])
 (.seq (.cond (.m 42)
 .skip
 (.seq (K [0, 5, 9, 10, 40, 41]) (.exit 0)))
 (.seq (.block 1
 (.seq (.reg false [
  ⟨some 11, none, .mov (.c (.nl)), []⟩])
 (.seq (.seq (.reg false [
  ⟨some 43, none, .fa 2 (.s 5), []⟩,
  ⟨some 44, none, .ld none 0 (.m 43), []⟩,
  ⟨some 12, none, .mov (.m 44), []⟩])
 (.block 2
 (.loop
 (.seq (.seq (.seq (.reg false [
  ⟨some 45, none, .mov (.s 12), []⟩,
  ⟨some 46, none, .bin .gtr (.m 45) (.c (.d (.int .i64 0))), []⟩])
 (.cond (.m 46)
 .skip
 (.seq (K [12]) (.exit 2))))
 (.block 3
 (.seq (.reg false [
  ⟨some 13, none, .alloc [.d (.int .i64 0), .d (.int .i64 0)], []⟩])
 (.seq (.seq (.reg false [
  ⟨some 48, none, .mov (.s 0), []⟩,
  ⟨some 49, none, .mov (.m 7), []⟩,
  ⟨some 50, none, .call 59 [.m 48, .m 49, .c (.d (.int .i64 4))], []⟩,
  ⟨some 47, none, .mov (.m 50), []⟩,
  ⟨some 51, none, .ext 47 false 0, []⟩,
  ⟨some 52, none, .ext 47 false 1, []⟩,
  ⟨some 53, none, .ext 47 false 2, []⟩,
  ⟨some 54, none, .fa 0 (.s 13), []⟩,
  ⟨none, none, .st 1 (.m 54) (.m 51), []⟩,
  ⟨some 7, none, .mov (.m 52), []⟩,
  ⟨some 8, none, .mov (.m 53), []⟩])
 (.seq (.reg false [
  ⟨some 55, none, .mov (.s 8), []⟩,
  ⟨some 56, none, .bin .neq (.m 55) (.c (.d (.int .i64 0))), []⟩])
 (.cond (.m 56)
 (.seq (K [0, 5, 6, 7, 9, 10, 11, 12, 13, 40, 41]) (.seq (.reg false [
  ⟨some 57, none, .mov (.m 8), []⟩,
  ⟨some 6, none, .mov (.c (.nl)), []⟩,
  ⟨some 7, none, .mov (.c (.d (.int .i64 0))), []⟩,
  ⟨some 8, none, .mov (.m 57), []⟩])
 .ret))
 (.seq (K [8]) .skip))))
 (.seq (.seq (.reg false [
  ⟨some 58, none, .fa 0 (.s 13), []⟩,
  ⟨some 59, none, .ld none 0 (.m 58), []⟩,
  ⟨some 60, none, .bin .gtr (.m 59) (.c (.d (.int .i64 11))), []⟩,
  ⟨some 61, none, .mov (.m 60), []⟩,
  ⟨some 62, (some (61, true)), .fa 0 (.s 13), []⟩,
  ⟨some 63, (some (61, true)), .ld none 0 (.s 62), []⟩,
  ⟨some 64, (some (61, true)), .bin .neq (.s 63) (.c (.d (.int .i64 13))), []⟩,
  ⟨some 65, none, .pick (.m 61) (.m 64) (.c (.d (.bool false))), []⟩,
  ⟨none, none, .kill [62, 63], []⟩])
 (.cond (.m 65)
 (.seq (K [0, 5, 6, 7, 9, 10, 11, 12, 13, 40, 41]) (.seq (.reg false [
  ⟨some 6, none, .mov (.c (.nl)), []⟩,
  ⟨some 7, none, .mov (.c (.d (.int .i64 0))), []⟩,
  ⟨some 8, none, .mov (.c (.d (.int .i64 8))), []⟩])
 .ret))
 .skip))
 (.seq (.seq (.reg false [
  ⟨some 66, none, .mov (.s 10), []⟩,
  ⟨some 14, none, .mov (.m 66), []⟩])
 (.block 4
 (.loop
 (.seq (.seq (.reg false [
  ⟨some 67, none, .mov (.m 14), []⟩,
  ⟨some 68, none, .mov (.s 10), []⟩,
  ⟨some 69, none, .bin .eql (.m 67) (.m 68), []⟩])
 (.cond (.m 69)
 .skip
 (.exit 4)))
 (.seq (.block 5
 (.seq (.seq (.reg false [
  ⟨some 76, none, .mov (.s 0), []⟩,
  ⟨some 77, none, .mov (.m 7), []⟩,
  ⟨some 78, none, .mov (.s 9), []⟩,
  ⟨some 79, none, .call 59 [.m 76, .m 77, .m 78], []⟩,
  ⟨some 75, none, .mov (.m 79), []⟩,
  ⟨some 80, none, .ext 75 false 0, []⟩,
  ⟨some 81, none, .ext 75 false 1, []⟩,
  ⟨some 82, none, .ext 75 false 2, []⟩,
  ⟨some 14, none, .mov (.m 80), []⟩,
  ⟨some 7, none, .mov (.m 81), []⟩,
  ⟨some 8, none, .mov (.m 82), []⟩])
 (.seq (.reg false [
  ⟨some 83, none, .mov (.s 8), []⟩,
  ⟨some 84, none, .bin .neq (.m 83) (.c (.d (.int .i64 0))), []⟩])
 (.cond (.m 84)
 (.seq (K [0, 5, 6, 7, 9, 10, 11, 12, 13, 14, 40, 41]) (.seq (.reg false [
  ⟨some 85, none, .mov (.m 8), []⟩,
  ⟨some 6, none, .mov (.c (.nl)), []⟩,
  ⟨some 7, none, .mov (.c (.d (.int .i64 0))), []⟩,
  ⟨some 8, none, .mov (.m 85), []⟩])
 .ret))
 (.seq (K [8]) .skip))))
 (.seq (.reg false [
  ⟨some 86, none, .fa 1 (.s 13), []⟩,
  ⟨some 87, none, .ld none 0 (.m 86), []⟩,
  ⟨some 88, none, .mov (.s 14), []⟩,
  ⟨some 89, none, .bin .add (.m 87) (.m 88), []⟩,
  ⟨some 90, none, .mov (.s 12), []⟩,
  ⟨some 91, none, .bin .gtr (.m 89) (.m 90), []⟩])
 (.cond (.m 91)
 (.seq (K [0, 5, 6, 7, 9, 10, 11, 12, 13, 14, 40, 41]) (.seq (.reg false [
  ⟨some 6, none, .mov (.c (.nl)), []⟩,
  ⟨some 7, none, .mov (.c (.d (.int .i64 0))), []⟩,
  ⟨some 8, none, .mov (.c (.d (.int .i64 8))), []⟩])
 .ret))
 .skip))))
 (.reg false [
  ⟨some 70, none, .fa 1 (.s 13), []⟩,
  ⟨some 71, none, .ld none 0 (.m 70), []⟩,
  ⟨some 72, none, .mov (.s 14), []⟩,
  ⟨some 73, none, .bin .add (.m 71) (.m 72), []⟩,
  ⟨some 74, none, .fa 1 (.s 13), []⟩,
  ⟨none, none, .st 1 (.m 74) (.m 73), []⟩,
  ⟨none, none, .kill [8, 75, 76, 77, 78, 79, 80, 81, 82, 83, 84, 85, 86, 87, 88, 89, 90, 91], []⟩]))))))
 (.seq (.seq (.reg false [
  ⟨some 92, none, .ld (some 2) 0 (.s 13), []⟩,
  ⟨some 93, none, .mov (.s 12), []⟩,
  ⟨some 94, none, .call 159 [.m 92, .m 93], []⟩,
  ⟨some 95, none, .un .not (.m 94), []⟩,
  ⟨none, none, .kill [8, 14, 67, 68, 69, 70, 71, 72, 73, 74, 75, 76, 77, 78, 79, 80, 81, 82, 83, 84, 85, 86, 87, 88, 89, 90, 91], []⟩])
 (.cond (.m 95)
 (.seq (K [0, 5, 6, 7, 9, 10, 11, 12, 13, 40, 41]) (.seq (.reg false [
  ⟨some 6, none, .mov (.c (.nl)), []⟩,
  ⟨some 7, none, .mov (.c (.d (.int .i64 0))), []⟩,
  ⟨some 8, none, .mov (.c (.d (.int .i64 8))), []⟩])
 .ret))
 .skip))
 (.seq (.reg false [
  ⟨some 96, none, .mov (.m 12), []⟩,
  ⟨some 97, none, .fa 1 (.s 13), []⟩,
  ⟨some 98, none, .ld none 0 (.m 97), []⟩,
  ⟨some 99, none, .bin .sub (.m 96) (.m 98), []⟩,
  ⟨some 12, none, .mov (.m 99), []⟩])
 (.reg false [
  ⟨some 100, none, .mov (.m 11), []⟩,
  ⟨some 101, none, .ld (some 2) 1 (.m 13), []⟩,
  ⟨some 102, none, .mks 2 [.m 101], []⟩,
  ⟨some 103, none, .app 2 (.m 100) (.m 102), []⟩,
  ⟨some 11, none, .mov (.m 103), []⟩]))))))))) (K [8, 13, 14, 47, 48, 49, 50, 51, 52, 53, 54, 55, 56, 57, 58, 59, 60, 61, 62, 63, 64, 65, 66, 67, 68, 69, 70, 71, 72, 73, 74, 75, 76, 77, 78, 79, 80, 81, 82, 83, 84, 85, 86, 87, 88, 89, 90, 91, 92, 93, 94, 95, 96, 97, 98, 99, 100, 101, 102, 103])))))
 (.reg false [
  ⟨some 104, none, .mov (.m 6), []⟩,
  ⟨some 105, none, .mov (.m 11), []⟩,
  ⟨some 106, none, .mks 1 [.m 105], []⟩,
  ⟨some 107, none, .app 1 (.m 104) (.m 106), []⟩,
  ⟨some 6, none, .mov (.m 107), []⟩,
  ⟨none, none, .kill [8, 12, 13, 14, 45, 46, 47, 48, 49, 50, 51, 52, 53, 54, 55, 56, 57, 58, 59, 60, 61, 62, 63, 64, 65, 66, 67, 68, 69, 70, 71, 72, 73, 74, 75, 76, 77, 78, 79, 80, 81, 82, 83, 84, 85, 86, 87, 88, 89, 90, 91, 92, 93, 94, 95, 96, 97, 98, 99, 100, 101, 102, 103], []⟩]))))
 (.reg false [
  ⟨some 108, none, .bin .add (.m 41) (.c (.d (.int .i64 1))), []⟩,
  ⟨some 41, none, .mov (.m 108), []⟩,
  ⟨none, none, .kill [8, 11, 12, 13, 14, 43, 44, 45, 46, 47, 48, 49, 50, 51, 52, 53, 54, 55, 56, 57, 58, 59, 60, 61, 62, 63, 64, 65, 66, 67, 68, 69, 70, 71, 72, 73, 74, 75, 76, 77, 78, 79, 80, 81, 82, 83, 84, 85, 86, 87, 88, 89, 90, 91, 92, 93, 94, 95, 96, 97, 98, 99, 100, 101, 102, 103, 104, 105, 106, 107], []⟩])))))))
 (.seq (.reg false [
  ⟨some 109, none, .mov (.m 6), []⟩,
  ⟨some 110, none, .mov (.m 7), []⟩,
  ⟨some 6, none, .mov (.m 109), []⟩,
  ⟨some 7, none, .mov (.m 110), []⟩,
  ⟨some 8, none, .mov (.c (.d (.int .i64 0))), []⟩,
  ⟨none, none, .kill [0, 5, 9, 10, 11, 12, 13, 14, 40, 41, 42, 43, 44, 45, 46, 47, 48, 49, 50, 51, 52, 53, 54, 55, 56, 57, 58, 59, 60, 61, 62, 63, 64, 65, 66, 67, 68, 69, 70, 71, 72, 73, 74, 75, 76, 77, 78, 79, 80, 81, 82, 83, 84, 85, 86, 87, 88, 89, 90, 91, 92, 93, 94, 95, 96, 97, 98, 99, 100, 101, 102, 103, 104, 105, 106, 107, 108], []⟩])
 .ret))))))⟩
def c112 : VFunc := ⟨4, [],
 (.reg false [
  ⟨some 5, none, .ld none 0 (.m 0), []⟩,
  ⟨some 6, none, .ld none 0 (.s 1), []⟩,
  ⟨some 7, none, .fa 0 (.s 2), []⟩,
  ⟨some 8, none, .ld none 0 (.m 7), []⟩,
  ⟨some 9, none, .fa 5 (.s 2), []⟩,
  ⟨some 10, none, .ld none 0 (.m 9), []⟩,
  ⟨some 11, none, .call 113 [.m 5, .m 6, .m 8, .m 10], []⟩,
  ⟨some 4, none, .mov (.m 11), []⟩,
  ⟨some 12, none, .ext 4 true 0, []⟩,
  ⟨some 13, none, .ext 4 false 1, []⟩,
  ⟨some 14, none, .ext 4 false 2, []⟩,
  ⟨some 15, none, .fa 6 (.m 2), []⟩,
  ⟨none, none, .st 1 (.m 15) (.m 12), []⟩,
  ⟨none, none, .st 1 (.m 1) (.m 13), []⟩,
  ⟨none, none, .st 1 (.m 3) (.m 14), []⟩])⟩
def c113 : VFunc := ⟨4, [.cell 8 none, .cell 9 none, .cell 10 none],
 (.seq (.reg false [
  ⟨some 4, none, .box (.m 0), []⟩,
  ⟨some 8, none, .alloc [.nl], []⟩,
  ⟨some 9, none, .alloc [.d (.int .i64 0)], []⟩,
  ⟨some 10, none, .alloc [.d (.int .i64 0)], []⟩])
 (.seq (.seq (.reg false [
  ⟨some 18, none, .mov (.s 2), []⟩,
  ⟨some 19, none, .mov (.s 3), []⟩,
  ⟨some 20, none, .call 160 [.m 18, .m 19], []⟩,
  ⟨some 21, none, .un .not (.m 20), []⟩])
 (.cond (.m 21)
 (.seq (K [1, 2, 3, 4]) (.seq (.reg false [
  ⟨none, none, .st 1 (.s 8) (.c (.nl)), []⟩,
  ⟨none, none, .st 1 (.s 9) (.c (.d (.int .i64 0))), []⟩,
  ⟨none, none, .st 1 (.s 10) (.c (.d (.int .i64 8))), []⟩])
 .ret))
 .skip))
 (.seq (.seq (.reg false [
  ⟨some 23, none, .ld none 0 (.s 4), []⟩,
  ⟨some 24, none, .mov (.m 1), []⟩,
  ⟨some 25, none, .call 59 [.m 23, .m 24, .c (.d (.int .i64 0))], []⟩,
  ⟨some 22, none, .mov (.m 25), []⟩,
  ⟨some 26, none, .ext 22 false 0, []⟩,
  ⟨some 27, none, .ext 22 false 1, []⟩,
  ⟨some 28, none, .ext 22 false 2, []⟩,
  ⟨none, none, .st 1 (.s 9) (.m 27), []⟩,
  ⟨none, none, .st 1 (.s 10) (.m 28), []⟩,
  ⟨none, none, .kill [26], []⟩])
 (.seq (.reg false [
  ⟨some 29, none, .ld none 0 (.s 10), []⟩,
  ⟨some 30, none, .bin .neq (.m 29) (.c (.d (.int .i64 0))), []⟩])
 (.cond (.m 30)
 (.seq (K [2, 3, 4]) (.seq (.regP [0, 1, 2, 3] [0, 1, 2, 3] [0, 1, 2] [
  ⟨some 31, none, .ld none 0 (.s 10), []⟩,
  ⟨none, none, .st 1 (.s 8) (.c (.nl)), []⟩,
  ⟨none, none, .st 1 (.s 9) (.c (.d (.int .i64 0))), []⟩,
  ⟨none, none, .st 1 (.s 10) (.m 31), []⟩])
 .ret))
 .skip)))
 (.seq (.reg false [
  ⟨some 32, none, .mov (.m 2), []⟩,
  ⟨some 33, none, .build [.d (.int .i64 0), .d (.int .i64 0)] [(0, 1, .m 32), (1, 1, .c (.d (.int .i64 (-1))))], []⟩,
  ⟨some 34, none, .box (.m 33), []⟩,
  ⟨some 11, none, .alloc [.nilp], []⟩,
  ⟨none, none, .st 1 (.s 11) (.m 34), []⟩])
 (.seq (.seq (.reg false [
  ⟨some 35, none, .mov (.m 3), []⟩,
  ⟨some 36, none, .len (.s 35), []⟩,
  ⟨some 37, none, .mov (.c (.d (.int .i64 0))), []⟩])
 (.block 0
 (.loop
 (.seq (.reg false [
  ⟨some 38, none, .bin .lss (.s 37) (.s 36), []⟩])
 (.seq (.cond (.m 38)
 .skip
 (.seq (K [4, 11, 35, 36, 37]) (.exit 0)))
 (.seq (.block 1
 (.seq (.reg false [
  ⟨some 39, none, .ia 1 (.s 35) (.s 37), []⟩,
  ⟨some 40, none, .ld none 0 (.m 39), []⟩,
  ⟨some 13, none, .mov (.m 40), []⟩])
 (.seq (.reg false [
  ⟨some 14, none, .alloc [.nl], []⟩])
 (.seq (.seq (.reg false [
  ⟨some 41, none, .mov (.m 13), []⟩,
  ⟨some 42, none, .calli 135 [.m 41], []⟩])
 (.block 2
 (.rangeF (.m 42) [43, 44]
 (.reg false [
  ⟨some 16, none, .mov (.m 44), []⟩,
  ⟨none, none, .kill [35, 36, 37, 43], []⟩])
 (.block 3
 (.seq (.reg false [
  ⟨some 17, none, .mov (.c (.d (.int .i64 0))), []⟩])
 (.seq (.block 4
 (.seq (.reg false [
  ⟨some 46, none, .mov (.s 16), []⟩,
  ⟨some 47, none, .bin .eql (.m 46) (.c (.d (.int .i64 13))), []⟩,
  ⟨some 48, none, .mov (.m 47), []⟩,
  ⟨some 49, (some (48, true)), .ld none 0 (.s 11), []⟩,
  ⟨some 50, (some (48, true)), .nilck (.s 49), []⟩,
  ⟨some 51, (some (48, true)), .fa 1 (.s 50), []⟩,
  ⟨some 52, (some (48, true)), .ld none 0 (.s 51), []⟩,
  ⟨some 53, (some (48, true)), .bin .lss (.s 52) (.c (.d (.int .i64 0))), []⟩,
  ⟨some 54, none, .pick (.m 48) (.m 53) (.c (.d (.bool false))), []⟩,
  ⟨some 45, none, .mov (.m 54), []⟩,
  ⟨none, none, .kill [49, 50, 51, 52], []⟩])
 (.cond (.m 45)
 (.seq (K [17]) (.reg false [
  ⟨some 56, none, .ld none 0 (.m 4), []⟩,
  ⟨some 57, none, .ld none 0 (.s 9), []⟩,
  ⟨some 58, none, .call 59 [.m 56, .m 57, .c (.d (.int .i64 9))], []⟩,
  ⟨some 55, none, .mov (.m 58), []⟩,
  ⟨some 59, none, .ext 55 false 0, []⟩,
  ⟨some 60, none, .ext 55 false 1, []⟩,
  ⟨some 61, none, .ext 55 false 2, []⟩,
  ⟨some 17, none, .mov (.m 59), []⟩,
  ⟨none, none, .st 1 (.s 9) (.m 60), []⟩,
  ⟨none, none, .st 1 (.s 10) (.m 61), []⟩]))
 (.seq (.reg false [
  ⟨some 63, none, .mov (.s 16), []⟩,
  ⟨some 64, none, .bin .eql (.m 63) (.c (.d (.int .i64 13))), []⟩,
  ⟨some 62, none, .mov (.m 64), []⟩])
 (.cond (.m 62)
 (.seq (K [17]) (.seq (.reg false [
  ⟨some 66, none, .ld none 0 (.m 4), []⟩,
  ⟨some 67, none, .ld none 0 (.s 9), []⟩,
  ⟨some 68, none, .call 161 [.m 66, .m 67], []⟩,
  ⟨some 65, none, .mov (.m 68), []⟩,
  ⟨some 69, none, .ext 65 false 0, []⟩,
  ⟨some 70, none, .ext 65 false 1, []⟩,
  ⟨some 71, none, .ext 65 false 2, []⟩,
  ⟨some 17, none, .mov (.m 69), []⟩,
  ⟨none, none, .st 1 (.s 9) (.m 70), []⟩,
  ⟨none, none, .st 1 (.s 10) (.m 71), []⟩])
 (.reg false [
  ⟨some 72, none, .mov (.m 17), []⟩,
  ⟨some 73, none, .ld none 0 (.s 11), []⟩,
  ⟨some 74, none, .nilck (.m 73), []⟩,
  ⟨some 75, none, .fa 1 (.m 74), []⟩,
  ⟨some 76, none, .ld none 0 (.m 75), []⟩,
  ⟨some 77, none, .bin .add (.m 72) (.m 76), []⟩,
  ⟨some 17, none, .mov (.m 77), []⟩])))
 (.seq (.reg false [
  ⟨some 79, none, .mov (.s 16), []⟩,
  ⟨some 80, none, .bin .gtr (.m 79) (.c (.d (.int .i64 0))), []⟩,
  ⟨some 78, none, .mov (.m 80), []⟩])
 (.cond (.m 78)
 (.seq (K [17]) (.seq (.reg false [
  ⟨some 82, none, .ld none 0 (.m 4), []⟩,
  ⟨some 83, none, .ld none 0 (.s 9), []⟩,
  ⟨some 84, none, .call 161 [.m 82, .m 83], []⟩,
  ⟨some 81, none, .mov (.m 84), []⟩,
  ⟨some 85, none, .ext 81 false 0, []⟩,
  ⟨some 86, none, .ext 81 false 1, []⟩,
  ⟨some 87, none, .ext 81 false 2, []⟩,
  ⟨some 17, none, .mov (.m 85), []⟩,
  ⟨none, none, .st 1 (.s 9) (.m 86), []⟩,
  ⟨none, none, .st 1 (.s 10) (.m 87), []⟩])
 (.reg false [
  ⟨some 88, none, .mov (.m 17), []⟩,
  ⟨some 89, none, .ld none 0 (.s 11), []⟩,
  ⟨some 90, none, .nilck (.m 89), []⟩,
  ⟨some 91, none, .fa 0 (.m 90), []⟩,
  ⟨some 92, none, .ld none 0 (.m 91), []⟩,
  ⟨some 93, none, .bin .add (.m 88) (.m 92), []⟩,
  ⟨some 17, none, .mov (.m 93), []⟩])))
 (.seq (K [4]) .skip))))))))
 (.seq (.seq (.reg false [
  ⟨some 94, none, .ld none 0 (.s 10), []⟩,
  ⟨some 95, none, .bin .neq (.m 94) (.c (.d (.int .i64 0))), []⟩,
  ⟨none, none, .kill [45, 46, 47, 48, 49, 50, 51, 52, 53, 54, 55, 56, 57, 58, 59, 60, 61, 62, 63, 64, 65, 66, 67, 68, 69, 70, 71, 72, 73, 74, 75, 76, 77, 78, 79, 80, 81, 82, 83, 84, 85, 86, 87, 88, 89, 90, 91, 92, 93], []⟩])
 (.cond (.m 95)
 (.seq (K [11, 14, 16, 17]) (.seq (.seq (.regP [0, 1, 2, 3] [0, 1, 2, 3] [0, 1, 2] [
  ⟨some 96, none, .ld none 0 (.s 10), []⟩,
  ⟨none, none, .st 1 (.m 8) (.c (.nl)), []⟩,
  ⟨none, none, .st 1 (.m 9) (.c (.d (.int .i64 0))), []⟩,
  ⟨none, none, .st 1 (.s 10) (.m 96), []⟩]) (K [10]))
 .ret))
 .skip))
 (.seq (.seq (.reg false [
  ⟨some 97, none, .mov (.s 16), []⟩,
  ⟨some 98, none, .bin .gtr (.m 97) (.c (.d (.int .i64 0))), []⟩,
  ⟨some 99, none, .mov (.m 98), []⟩,
  ⟨some 100, (some (99, true)), .ld none 0 (.s 11), []⟩,
  ⟨some 101, (some (99, true)), .mov (.s 16), []⟩,
  ⟨some 102, (some (99, true)), .mov (.s 17), []⟩,
  ⟨some 103, (some (99, true)), .calli 137 [.s 100, .s 101, .s 102], []⟩,
  ⟨some 104, (some (99, true)), .un .not (.s 103), []⟩,
  ⟨some 105, none, .pick (.m 99) (.m 104) (.c (.d (.bool false))), []⟩,
  ⟨none, none, .kill [11, 16, 100, 101, 102, 103], []⟩])
 (.cond (.m 105)
 (.seq (K [14, 17]) (.seq (.reg false [
  ⟨none, none, .st 1 (.m 8) (.c (.nl)), []⟩,
  ⟨none, none, .st 1 (.m 9) (.c (.d (.int .i64 0))), []⟩,
  ⟨none, none, .st 1 (.m 10) (.c (.d (.int .i64 8))), []⟩])
 .ret))
 (.seq (K [8, 9, 10]) .skip)))
 (.reg false [
  ⟨some 106, none, .ld none 1 (.s 14), []⟩,
  ⟨some 107, none, .mov (.m 17), []⟩,
  ⟨some 108, none, .mks 1 [.m 107], []⟩,
  ⟨some 109, none, .app 1 (.m 106) (.m 108), []⟩,
  ⟨none, none, .st 1 (.m 14) (.m 109), []⟩])))))))))
 (.reg false [
  ⟨some 110, none, .ld none 1 (.s 8), []⟩,
  ⟨some 111, none, .ld none 1 (.m 14), []⟩,
  ⟨some 112, none, .mks 1 [.m 111], []⟩,
  ⟨some 113, none, .app 1 (.m 110) (.m 112), []⟩,
  ⟨none, none, .st 1 (.s 8) (.m 113), []⟩,
  ⟨none, none, .kill [16, 17, 42, 45, 46, 47, 48, 49, 50, 51, 52, 53, 54, 55, 56, 57, 58, 59, 60, 61, 62, 63, 64, 65, 66, 67, 68, 69, 70, 71, 72, 73, 74, 75, 76, 77, 78, 79, 80, 81, 82, 83, 84, 85, 86, 87, 88, 89, 90, 91, 92, 93, 94, 95, 96, 97, 98, 99, 100, 101, 102, 103, 104, 105, 106, 107, 108, 109], []⟩])))))
 (.reg false [
  ⟨some 114, none, .bin .add (.m 37) (.c (.d (.int .i64 1))), []⟩,
  ⟨some 37, none, .mov (.m 114), []⟩,
  ⟨none, none, .kill [13, 14, 16, 17, 39, 40, 41, 42, 45, 46, 47, 48, 49, 50, 51, 52, 53, 54, 55, 56, 57, 58, 59, 60, 61, 62, 63, 64, 65, 66, 67, 68, 69, 70, 71, 72, 73, 74, 75, 76, 77, 78, 79, 80, 81, 82, 83, 84, 85, 86, 87, 88, 89, 90, 91, 92, 93, 94, 95, 96, 97, 98, 99, 100, 101, 102, 103, 104, 105, 106, 107, 108, 109, 110, 111, 112, 113], []⟩])))))))
 (.seq (.seq (.regP [0, 1, 2, 3, 4] [0, 1, 2, 3, 4] [1, 2] [
  ⟨some 115, none, .ld none 0 (.s 8), []⟩,
  ⟨some 116, none, .ld none 0 (.s 9), []⟩,
  ⟨none, none, .st 1 (.s 8) (.m 115), []⟩,
  ⟨none, none, .st 1 (.s 9) (.m 116), []⟩,
  ⟨none, none, .st 1 (.s 10) (.c (.d (.int .i64 0))), []⟩]) (K [4, 11, 13, 14, 16, 17, 35, 36, 37, 38, 39, 40, 41, 42, 45, 46, 47, 48, 49, 50, 51, 52, 53, 54, 55, 56, 57, 58, 59, 60, 61, 62, 63, 64, 65, 66, 67, 68, 69, 70, 71, 72, 73, 74, 75, 76, 77, 78, 79, 80, 81, 82, 83, 84, 85, 86, 87, 88, 89, 90, 91, 92, 93, 94, 95, 96, 97, 98, 99, 100, 101, 102, 103, 104, 105, 106, 107, 108, 109, 110, 111, 112, 113, 114]))
 .ret))))))⟩
def c114 : VFunc := ⟨2, [],
 (.reg false [
  ⟨some 2, none, .ld none 0 (.m 0), []⟩,
  ⟨some 3, none, .callv (.m 2) [], []⟩,
  ⟨none, none, .st 1 (.m 1) (.m 3), []⟩])⟩
def c115 : VFunc := ⟨2, [],
 (.reg false [
  ⟨some 2, none, .ld none 0 (.m 0), []⟩,
  ⟨some 3, none, .callv (.m 2) [], []⟩,
  ⟨none, none, .st 1 (.m 1) (.m 3), []⟩])⟩
def c116 : VFunc := ⟨5, [],
 (.seq (.seq (.reg false [
  ⟨some 7, none, .ld none 0 (.m 0), []⟩,
  ⟨some 8, none, .bin .eql (.m 7) (.c (.d (.int .i64 1))), []⟩])
 (.cond (.m 8)
 (.seq (.reg false [
  ⟨some 10, none, .ld none 0 (.m 1), []⟩,
  ⟨some 11, none, .ld none 0 (.s 2), []⟩,
  ⟨some 12, none, .fa 1 (.s 3), []⟩,
  ⟨some 13, none, .ld (some 4) 0 (.m 12), []⟩,
  ⟨some 14, none, .call 117 [.m 10, .m 11, .m 13], []⟩,
  ⟨some 9, none, .mov (.m 14), []⟩,
  ⟨some 15, none, .ext 9 true 0, []⟩,
  ⟨some 16, none, .ext 9 false 1, []⟩,
  ⟨some 17, none, .ext 9 false 2, []⟩,
  ⟨some 18, none, .fa 7 (.m 3), []⟩,
  ⟨none, none, .st 1 (.m 18) (.m 15), []⟩,
  ⟨none, none, .st 1 (.m 2) (.m 16), []⟩,
  ⟨none, none, .st 1 (.m 4) (.m 17), []⟩])
 .ret)
 (.seq (K [1, 2, 4]) .skip)))
 (.seq (.reg false [
  ⟨some 20, none, .fa 1 (.s 3), []⟩,
  ⟨some 21, none, .ld (some 4) 0 (.m 20), []⟩,
  ⟨some 22, none, .call 77 [.m 21], []⟩,
  ⟨some 19, none, .mov (.m 22), []⟩,
  ⟨some 23, none, .ext 19 false 0, []⟩,
  ⟨some 24, none, .ext 19 false 1, []⟩,
  ⟨some 5, none, .mov (.m 23), []⟩,
  ⟨some 6, none, .mov (.m 24), []⟩,
  ⟨none, none, .kill [6], []⟩])
 (.reg false [
  ⟨some 25, none, .mov (.m 5), []⟩,
  ⟨some 26, none, .mkslice [.lst []] (.s 25) (.s 25), []⟩,
  ⟨some 27, none, .fa 7 (.m 3), []⟩,
  ⟨none, none, .st 1 (.m 27) (.m 26), []⟩,
  ⟨none, none, .kill [25], []⟩])))⟩
def c118 : VFunc := ⟨2, [],
 (.seq (.regP [0, 1, 2, 3, 4] [0, 1, 2, 3, 4] [0, 2] [
  ⟨some 2, none, .ld none 0 (.s 0), []⟩,
  ⟨some 3, none, .ld none 0 (.m 1), []⟩,
  ⟨some 4, none, .callv (.m 3) [], []⟩,
  ⟨some 5, none, .bin .or (.m 2) (.m 4), []⟩,
  ⟨none, none, .st 1 (.s 0) (.m 5), []⟩]) (K [0]))⟩
def c120 : VFunc := ⟨2, [.tmp 4],
 (.seq (.reg false [
  ⟨some 4, none, .mov (.c (.d (.int .i64 0))), []⟩,
  ⟨none, none, .kill [4], []⟩])
 (.seq (.seq (.reg false [
  ⟨some 6, none, .mov (.s 0), []⟩,
  ⟨some 7, none, .len (.m 6), []⟩,
  ⟨some 8, none, .mov (.c (.d (.int .i64 0))), []⟩])
 (.block 0
 (.loop
 (.seq (.reg false [
  ⟨some 9, none, .bin .lss (.s 8) (.s 7), []⟩])
 (.seq (.cond (.m 9)
 .skip
 (.seq (K [0, 1, 7, 8]) (.exit 0)))
 (.seq (.block 1
 (.seq (.reg false [
  ⟨some 10, none, .mov (.s 8), []⟩,
  ⟨some 5, none, .mov (.m 10), []⟩])
 (.seq (.reg false [
  ⟨some 11, none, .mov (.s 1), []⟩,
  ⟨some 12, none, .mov (.s 0), []⟩,
  ⟨some 13, none, .mov (.s 5), []⟩,
  ⟨some 14, none, .ia 1 (.m 12) (.m 13), []⟩,
  ⟨some 15, none, .ld none 0 (.m 14), []⟩,
  ⟨some 16, none, .bin .eql (.m 11) (.m 15), []⟩])
 (.cond (.m 16)
 (.seq (K [0, 1, 7, 8]) (.seq (.reg false [
  ⟨some 17, none, .mov (.m 5), []⟩,
  ⟨some 4, none, .mov (.m 17), []⟩])
 .ret))
 (.seq (K [5]) .skip)))))
 (.reg false [
  ⟨some 18, none, .bin .add (.m 8) (.c (.d (.int .i64 1))), []⟩,
  ⟨some 8, none, .mov (.m 18), []⟩,
  ⟨none, none, .kill [4, 5, 10, 11, 12, 13, 14, 15, 16, 17], []⟩])))))))
 (.seq (.reg false [
  ⟨some 4, none, .mov (.c (.d (.int .i64 (-1)))), []⟩,
  ⟨none, none, .kill [0, 1, 5, 7, 8, 9, 10, 11, 12, 13, 14, 15, 16, 17, 18], []⟩])
 .ret)))⟩
def c121 : VFunc := ⟨1, [.tmp 2],
 (.seq (.reg false [
  ⟨some 1, none, .box (.m 0), []⟩,
  ⟨some 2, none, .mov (.c (.d (.bool false))), []⟩,
  ⟨none, none, .kill [2], []⟩])
 (.seq (.seq (.reg false [
  ⟨some 6, none, .fa 0 (.s 1), []⟩,
  ⟨some 7, none, .ld none 0 (.m 6), []⟩,
  ⟨some 8, none, .bin .neq (.m 7) (.c (.d (.int .u8 2))), []⟩])
 (.cond (.m 8)
 (.seq (.reg false [
  ⟨some 9, none, .fa 3 (.m 1), []⟩,
  ⟨some 10, none, .ld none 0 (.m 9), []⟩,
  ⟨some 11, none, .mks 1 [.c (.d (.int .i64 1))], []⟩,
  ⟨some 12, none, .call 88 [.m 10, .m 11], []⟩,
  ⟨some 2, none, .mov (.m 12), []⟩])
 .ret)
 .skip))
 (.seq (.reg false [
  ⟨some 3, none, .mov (.c (.d (.int .i64 0))), []⟩])
 (.seq (.seq (.reg false [
  ⟨some 13, none, .fa 3 (.s 1), []⟩,
  ⟨some 14, none, .ld none 0 (.m 13), []⟩,
  ⟨some 15, none, .len (.s 14), []⟩,
  ⟨some 16, none, .mov (.c (.d (.int .i64 0))), []⟩])
 (.block 0
 (.loop
 (.seq (.reg false [
  ⟨some 17, none, .bin .lss (.s 16) (.s 15), []⟩])
 (.seq (.cond (.m 17)
 .skip
 (.seq (K [14, 15, 16]) (.exit 0)))
 (.seq (.block 1
 (.seq (.reg false [
  ⟨some 18, none, .ia 1 (.s 14) (.s 16), []⟩,
  ⟨some 19, none, .ld none 0 (.m 18), []⟩,
  ⟨some 5, none, .mov (.m 19), []⟩])
 (.seq (.seq (.reg false [
  ⟨some 20, none, .mov (.s 5), []⟩,
  ⟨some 21, none, .bin .lss (.m 20) (.c (.d (.int .i64 1))), []⟩,
  ⟨some 22, none, .mov (.m 21), []⟩,
  ⟨some 23, (some (22, false)), .mov (.s 5), []⟩,
  ⟨some 24, (some (22, false)), .bin .gtr (.s 23) (.c (.d (.int .i64 8))), []⟩,
  ⟨some 25, none, .pick (.m 22) (.c (.d (.bool true))) (.m 24), []⟩,
  ⟨none, none, .kill [23], []⟩])
 (.cond (.m 25)
 (.seq (K [1, 3, 5, 14, 15, 16]) (.seq (.reg false [
  ⟨some 2, none, .mov (.c (.d (.bool false))), []⟩])
 .ret))
 .skip))
 (.reg false [
  ⟨some 26, none, .mov (.m 3), []⟩,
  ⟨some 27, none, .mov (.m 5), []⟩,
  ⟨some 28, none, .bin .add (.m 26) (.m 27), []⟩,
  ⟨some 3, none, .mov (.m 28), []⟩]))))
 (.reg false [
  ⟨some 29, none, .bin .add (.m 16) (.c (.d (.int .i64 1))), []⟩,
  ⟨some 16, none, .mov (.m 29), []⟩,
  ⟨none, none, .kill [2, 5, 18, 19, 20, 21, 22, 23, 24, 25, 26, 27, 28], []⟩])))))))
 (.seq (.reg false [
  ⟨some 30, none, .mov (.m 3), []⟩,
  ⟨some 31, none, .bin .eql (.m 30) (.c (.d (.int .i64 8))), []⟩,
  ⟨some 32, none, .mov (.m 31), []⟩,
  ⟨some 33, (some (32, true)), .fa 3 (.s 1), []⟩,
  ⟨some 34, (some (32, true)), .ld none 0 (.s 33), []⟩,
  ⟨some 35, (some (32, true)), .len (.s 34), []⟩,
  ⟨some 36, (some (32, true)), .bin .leq (.s 35) (.c (.d (.int .i64 8))), []⟩,
  ⟨some 37, none, .pick (.m 32) (.m 36) (.c (.d (.bool false))), []⟩,
  ⟨some 2, none, .mov (.m 37), []⟩,
  ⟨none, none, .kill [1, 5, 14, 15, 16, 17, 18, 19, 20, 21, 22, 23, 24, 25, 26, 27, 28, 29, 33, 34, 35], []⟩])
 .ret)))))⟩
def c122 : VFunc := ⟨1, [.tmp 2],
 (.seq (.reg false [
  ⟨some 1, none, .box (.m 0), []⟩,
  ⟨some 2, none, .mov (.c (.d (.bool false))), []⟩,
  ⟨none, none, .kill [2], []⟩])
 (.seq (.reg false [
  ⟨some 3, none, .ld (some 4) 1 (.m 1), []⟩,
  ⟨some 4, none, .call 76 [.c (.d (.int .i64 11)), .m 3], []⟩,
  ⟨some 5, none, .bin .eql (.m 4) (.c (.d (.int .i64 0))), []⟩,
  ⟨some 2, none, .mov (.m 5), []⟩])
 .ret))⟩
def c128 : VFunc := ⟨2, [.tmp 4, .tmp 5],
 (.seq (.reg false [
  ⟨some 4, none, .mov (.c (.nl)), []⟩,
  ⟨some 5, none, .mov (.c (.d (.int .i64 0))), []⟩,
  ⟨none, none, .kill [4, 5], []⟩])
 (.scope
 (.seq (.seq (.reg false [
  ⟨some 11, none, .mov (.s 0), []⟩,
  ⟨some 12, none, .bin .lss (.m 11) (.c (.d (.int .i64 0))), []⟩,
  ⟨some 13, none, .mov (.m 12), []⟩,
  ⟨some 14, (some (13, false)), .mov (.s 0), []⟩,
  ⟨some 15, (some (13, false)), .bin .gtr (.s 14) (.c (.d (.int .i64 11))), []⟩,
  ⟨some 16, none, .pick (.m 13) (.c (.d (.bool true))) (.m 15), []⟩,
  ⟨none, none, .kill [14], []⟩])
 (.cond (.m 16)
 (.seq (K [0, 1]) (.seq (.reg false [
  ⟨some 4, none, .mov (.c (.nl)), []⟩,
  ⟨some 5, none, .mov (.c (.d (.int .i64 2))), []⟩])
 .ret))
 .skip))
 (.seq (.reg false [
  ⟨some 17, none, .mov (.m 0), []⟩,
  ⟨some 18, none, .bin .sub (.c (.d (.int .i64 11))) (.m 17), []⟩,
  ⟨some 19, none, .bin .quo (.m 18) (.c (.d (.int .i64 2))), []⟩,
  ⟨some 20, none, .bin .add (.c (.d (.int .i64 3))) (.m 19), []⟩,
  ⟨some 6, none, .mov (.m 20), []⟩,
  ⟨some 7, none, .mov (.c (.d (.int .i64 256))), []⟩,
  ⟨some 8, none, .mov (.c (.d (.int .i64 256))), []⟩])
 (.seq (.seq (.reg false [
  ⟨some 21, none, .mov (.m 1), []⟩])
 (.cond (.m 21)
 (.seq (K [7, 8]) (.reg false [
  ⟨some 7, none, .mov (.c (.d (.int .i64 32))), []⟩,
  ⟨some 8, none, .mov (.c (.d (.int .i64 64))), []⟩]))
 .skip))
 (.seq (.reg false [
  ⟨some 9, none, .mov (.c (.nl)), []⟩])
 (.seq (.reg false [
  ⟨some 10, none, .mov (.c (.d (.int .i64 0))), []⟩])
 (.seq (.label 0)
 (.seq (.reg false [
  ⟨some 22, none, .mov (.m 9), []⟩,
  ⟨some 23, none, .mov (.s 10), []⟩,
  ⟨some 24, none, .mks 1 [.m 23], []⟩,
  ⟨some 25, none, .app 1 (.m 22) (.m 24), []⟩,
  ⟨some 9, none, .mov (.m 25), []⟩])
 (.seq (.seq (.reg false [
  ⟨some 26, none, .mov (.s 10), []⟩,
  ⟨some 27, none, .mov (.s 7), []⟩,
  ⟨some 28, none, .bin .lss (.m 26) (.m 27), []⟩])
 (.cond (.m 28)
 (.seq (.reg false [
  ⟨some 29, none, .mov (.s 7), []⟩,
  ⟨some 30, none, .mov (.s 10), []⟩,
  ⟨some 31, none, .bin .add (.m 30) (.c (.d (.int .i64 4))), []⟩,
  ⟨some 32, none, .mov (.m 10), []⟩,
  ⟨some 33, none, .mov (.s 6), []⟩,
  ⟨some 34, none, .bin .mul (.m 32) (.m 33), []⟩,
  ⟨some 35, none, .mov (.s 8), []⟩,
  ⟨some 36, none, .bin .quo (.m 34) (.m 35), []⟩,
  ⟨some 37, none, .bin .mul (.c (.d (.int .i64 4))) (.m 36), []⟩,
  ⟨some 38, none, .bin .add (.m 31) (.m 37), []⟩,
  ⟨some 39, none, .minmax false [.m 29, .m 38], []⟩,
  ⟨some 10, none, .mov (.m 39), []⟩])
 (.goto 0))
 (.seq (K [6, 7, 8, 10]) .skip)))
 (.seq (.reg false [
  ⟨some 40, none, .mov (.m 9), []⟩,
  ⟨some 4, none, .mov (.m 40), []⟩,
  ⟨some 5, none, .mov (.c (.d (.int .i64 0))), []⟩])
 .ret)))))))))))⟩
def c130 : VFunc := ⟨3, [],
 (.seq (.reg false [
  ⟨some 5, none, .ld none 0 (.m 1), []⟩,
  ⟨some 6, none, .bin .sub (.m 5) (.c (.d (.int .i64 1))), []⟩,
  ⟨some 4, none, .mov (.m 6), []⟩])
 (.block 0
 (.loop
 (.seq (.seq (.reg false [
  ⟨some 7, none, .mov (.s 4), []⟩,
  ⟨some 8, none, .bin .geq (.m 7) (.c (.d (.int .i64 0))), []⟩])
 (.cond (.m 8)
 .skip
 (.seq (K [0, 2, 4]) (.exit 0))))
 (.seq (.block 1
 (.seq (.reg false [
  ⟨some 11, none, .mov (.s 0), []⟩,
  ⟨some 12, none, .ld none 0 (.s 2), []⟩,
  ⟨some 13, none, .mov (.s 4), []⟩,
  ⟨some 14, none, .bin .shr (.m 12) (.m 13), []⟩,
  ⟨some 15, none, .bin .and (.m 14) (.c (.d (.int .i64 1))), []⟩,
  ⟨some 16, none, .conv .u8 (.m 15), []⟩,
  ⟨some 17, none, .callv (.m 11) [.m 16], []⟩,
  ⟨some 18, none, .un .not (.m 17), []⟩])
 (.cond (.m 18)
 (.seq (K [0, 2, 4]) .ret)
 .skip)))
 (.reg false [
  ⟨some 9, none, .mov (.m 4), []⟩,
  ⟨some 10, none, .bin .sub (.m 9) (.c (.d (.int .i64 1))), []⟩,
  ⟨some 4, none, .mov (.m 10), []⟩,
  ⟨none, none, .kill [11, 12, 13, 14, 15, 16, 17, 18], []⟩]))))))⟩
def c132 : VFunc := ⟨1, [.tmp 2, .tmp 3],
 (.seq (.reg false [
  ⟨some 1, none, .box (.m 0), []⟩,
  ⟨some 2, none, .mov (.c (.d (.int .i64 0))), []⟩,
  ⟨some 3, none, .mov (.c (.d (.int .i64 0))), []⟩,
  ⟨none, none, .kill [2, 3], []⟩])
 (.seq (.reg false [
  ⟨some 2, none, .mov (.c (.d (.int .i64 5))), []⟩])
 (.seq (.seq (.reg false [
  ⟨some 4, none, .fa 0 (.m 1), []⟩,
  ⟨some 5, none, .ld none 0 (.m 4), []⟩,
  ⟨some 6, none, .bin .eql (.m 5) (.c (.d (.int .u8 2))), []⟩])
 (.cond (.m 6)
 (.seq (K [2]) (.reg false [
  ⟨some 2, none, .mov (.c (.d (.int .i64 3))), []⟩]))
 .skip))
 (.seq (.reg true [
  ⟨some 7, none, .mov (.s 2), []⟩,
  ⟨some 8, none, .mov (.s 2), []⟩,
  ⟨some 9, none, .bin .shl (.c (.d (.int .i64 1))) (.m 8), []⟩,
  ⟨some 10, none, .bin .sub (.m 9) (.c (.d (.int .i64 1))), []⟩,
  ⟨some 2, none, .mov (.m 7), []⟩,
  ⟨some 3, none, .mov (.m 10), []⟩])
 .ret))))⟩
def c135 : VFunc := ⟨1, [.tmp 2],
 (.seq (.reg false [
  ⟨some 1, none, .box (.m 0), []⟩,
  ⟨some 2, none, .mov (.c (.nilf)), []⟩,
  ⟨none, none, .kill [2], []⟩])
 (.seq (.reg false [
  ⟨some 3, none, .mkfn 171 [] [.m 1], []⟩,
  ⟨some 2, none, .mov (.m 3), []⟩])
 .ret))⟩
def c146 : VFunc := ⟨4, [],
 (.seq (.reg false [
  ⟨some 5, none, .mov (.c (.d (.int .i64 0))), []⟩])
 (.seq (.reg false [
  ⟨some 14, none, .ld none 0 (.m 1), []⟩,
  ⟨some 15, none, .len (.s 14), []⟩,
  ⟨some 16, none, .mov (.c (.d (.int .i64 0))), []⟩])
 (.block 0
 (.loop
 (.seq (.reg false [
  ⟨some 17, none, .bin .lss (.s 16) (.s 15), []⟩])
 (.seq (.cond (.m 17)
 .skip
 (.seq (K [0, 2, 3, 5, 14, 15, 16]) (.exit 0)))
 (.seq (.block 1
 (.seq (.reg false [
  ⟨some 18, none, .mov (.s 16), []⟩,
  ⟨some 19, none, .ia 1 (.s 14) (.s 16), []⟩,
  ⟨some 20, none, .ld none 0 (.m 19), []⟩,
  ⟨some 6, none, .mov (.m 18), []⟩,
  ⟨some 7, none, .mov (.m 20), []⟩])
 (.seq (.reg false [
  ⟨some 8, none, .mov (.c (.d (.int .i64 0))), []⟩])
 (.seq (.seq (.reg false [
  ⟨some 21, none, .mov (.m 7), []⟩,
  ⟨some 22, none, .len (.s 21), []⟩,
  ⟨some 23, none, .mov (.c (.d (.int .i64 0))), []⟩])
 (.block 2
 (.loop
 (.seq (.reg false [
  ⟨some 24, none, .bin .lss (.s 23) (.s 22), []⟩])
 (.seq (.cond (.m 24)
 .skip
 (.seq (K [8, 21, 22, 23]) (.exit 2)))
 (.seq (.block 3
 (.seq (.reg false [
  ⟨some 25, none, .ia 2 (.s 21) (.s 23), []⟩,
  ⟨some 26, none, .ld (some 2) 0 (.m 25), []⟩,
  ⟨some 10, none, .alloc [.d (.int .i64 0), .d (.int .i64 0)], []⟩,
  ⟨none, none, .st 2 (.s 10) (.m 26), []⟩])
 (.seq (.reg false [
  ⟨some 27, none, .mov (.s 8), []⟩,
  ⟨some 28, none, .fa 1 (.s 10), []⟩,
  ⟨some 29, none, .ld none 0 (.m 28), []⟩,
  ⟨some 30, none, .bin .add (.m 27) (.m 29), []⟩,
  ⟨some 11, none, .mov (.m 30), []⟩])
 (.block 4
 (.loop
 (.seq (.seq (.reg false [
  ⟨some 31, none, .mov (.s 8), []⟩,
  ⟨some 32, none, .mov (.s 11), []⟩,
  ⟨some 33, none, .bin .lss (.m 31) (.m 32), []⟩])
 (.cond (.m 33)
 .skip
 (.seq (K [10, 11]) (.exit 4))))
 (.seq (.block 5
 (.seq (.seq (.reg false [
  ⟨some 36, none, .fa 0 (.s 10), []⟩,
  ⟨some 37, none, .ld none 0 (.m 36), []⟩,
  ⟨some 38, none, .bin .eql (.m 37) (.c (.d (.int .i64 0))), []⟩,
  ⟨some 39, none, .mov (.m 38), []⟩,
  ⟨some 40, (some (39, false)), .fa 0 (.s 10), []⟩,
  ⟨some 41, (some (39, false)), .ld none 0 (.s 40), []⟩,
  ⟨some 42, (some (39, false)), .bin .eql (.s 41) (.c (.d (.int .i64 13))), []⟩,
  ⟨some 43, none, .pick (.m 39) (.c (.d (.bool true))) (.m 42), []⟩,
  ⟨none, none, .kill [40, 41], []⟩])
 (.cond (.m 43)
 (.exit 5)
 .skip))
 (.seq (.reg false [
  ⟨some 44, none, .mov (.s 5), []⟩,
  ⟨some 12, none, .mov (.m 44), []⟩])
 (.block 6
 (.loop
 (.seq (.seq (.reg false [
  ⟨some 45, none, .mov (.s 12), []⟩,
  ⟨some 46, none, .mov (.s 5), []⟩,
  ⟨some 47, none, .fa 3 (.s 2), []⟩,
  ⟨some 48, none, .ld none 0 (.m 47), []⟩,
  ⟨some 49, none, .mov (.s 6), []⟩,
  ⟨some 50, none, .ia 1 (.m 48) (.m 49), []⟩,
  ⟨some 51, none, .ld none 0 (.m 50), []⟩,
  ⟨some 52, none, .bin .add (.m 46) (.m 51), []⟩,
  ⟨some 53, none, .bin .lss (.m 45) (.m 52), []⟩])
 (.cond (.m 53)
 .skip
 (.seq (K [12]) (.exit 6))))
 (.seq (.block 7
 (.seq (.reg false [
  ⟨some 56, none, .ld none 0 (.s 3), []⟩,
  ⟨some 57, none, .mov (.s 8), []⟩,
  ⟨some 58, none, .ia 1 (.m 56) (.m 57), []⟩,
  ⟨some 59, none, .ld none 0 (.m 58), []⟩,
  ⟨some 13, none, .mov (.m 59), []⟩])
 (.block 8
 (.loop
 (.seq (.seq (.reg false [
  ⟨some 60, none, .mov (.s 13), []⟩,
  ⟨some 61, none, .ld none 0 (.s 3), []⟩,
  ⟨some 62, none, .mov (.s 8), []⟩,
  ⟨some 63, none, .bin .add (.m 62) (.c (.d (.int .i64 1))), []⟩,
  ⟨some 64, none, .ia 1 (.m 61) (.m 63), []⟩,
  ⟨some 65, none, .ld none 0 (.m 64), []⟩,
  ⟨some 66, none, .bin .lss (.m 60) (.m 65), []⟩])
 (.cond (.m 66)
 .skip
 (.seq (K [13]) (.exit 8))))
 (.seq (.block 9
 (.seq (.regP [0, 1, 2, 3, 4, 5, 6, 7, 8, 9, 10, 11, 12, 13, 14, 15, 16, 17] [0, 1, 2, 3, 4, 5, 6, 7, 8, 9, 10, 11, 12, 13, 14, 15, 16, 17] [] [
  ⟨some 72, none, .mov (.s 0), []⟩,
  ⟨some 73, none, .fa 0 (.s 10), []⟩,
  ⟨some 74, none, .ld none 0 (.m 73), []⟩,
  ⟨some 75, none, .mov (.s 12), []⟩,
  ⟨some 76, none, .bin .mul (.m 75) (.c (.d (.int .i64 32))), []⟩,
  ⟨some 77, none, .mov (.s 13), []⟩,
  ⟨some 78, none, .bin .add (.m 76) (.m 77), []⟩,
  ⟨some 79, none, .mov (.s 12), []⟩,
  ⟨some 80, none, .bin .mul (.m 79) (.c (.d (.int .i64 32))), []⟩,
  ⟨some 81, none, .mov (.s 13), []⟩,
  ⟨some 82, none, .bin .add (.m 80) (.m 81), []⟩,
  ⟨some 83, none, .fa 0 (.s 10), []⟩,
  ⟨some 84, none, .ld none 0 (.m 83), []⟩,
  ⟨some 85, none, .call 147 [.m 84], []⟩,
  ⟨some 86, none, .bin .add (.m 82) (.m 85), []⟩,
  ⟨some 87, none, .build [.d (.int .i64 0), .d (.int .i64 0), .d (.int .i64 0)] [(0, 1, .m 74), (1, 1, .m 78), (2, 1, .m 86)], []⟩,
  ⟨some 88, none, .callv (.m 72) [.m 87], []⟩,
  ⟨some 89, none, .un .not (.m 88), []⟩])
 (.cond (.m 89)
 (.seq (K [0, 2, 3, 5, 6, 8, 10, 11, 12, 13, 14, 15, 16, 21, 22, 23]) .ret)
 .skip)))
 (.reg false [
  ⟨some 67, none, .mov (.m 13), []⟩,
  ⟨some 68, none, .fa 0 (.s 10), []⟩,
  ⟨some 69, none, .ld none 0 (.m 68), []⟩,
  ⟨some 70, none, .call 147 [.m 69], []⟩,
  ⟨some 71, none, .bin .add (.m 67) (.m 70), []⟩,
  ⟨some 13, none, .mov (.m 71), []⟩,
  ⟨none, none, .kill [72, 73, 74, 75, 76, 77, 78, 79, 80, 81, 82, 83, 84, 85, 86, 87, 88, 89], []⟩])))))))
 (.reg false [
  ⟨some 54, none, .mov (.m 12), []⟩,
  ⟨some 55, none, .bin .add (.m 54) (.c (.d (.int .i64 1))), []⟩,
  ⟨some 12, none, .mov (.m 55), []⟩,
  ⟨none, none, .kill [13, 56, 57, 58, 59, 60, 61, 62, 63, 64, 65, 66, 67, 68, 69, 70, 71, 72, 73, 74, 75, 76, 77, 78, 79, 80, 81, 82, 83, 84, 85, 86, 87, 88, 89], []⟩]))))))))
 (.reg false [
  ⟨some 34, none, .mov (.m 8), []⟩,
  ⟨some 35, none, .bin .add (.m 34) (.c (.d (.int .i64 1))), []⟩,
  ⟨some 8, none, .mov (.m 35), []⟩,
  ⟨none, none, .kill [12, 13, 36, 37, 38, 39, 40, 41, 42, 43, 44, 45, 46, 47, 48, 49, 50, 51, 52, 53, 54, 55, 56, 57, 58, 59, 60, 61, 62, 63, 64, 65, 66, 67, 68, 69, 70, 71, 72, 73, 74, 75, 76, 77, 78, 79, 80, 81, 82, 83, 84, 85, 86, 87, 88, 89], []⟩]))))))))
 (.reg false [
  ⟨some 90, none, .bin .add (.m 23) (.c (.d (.int .i64 1))), []⟩,
  ⟨some 23, none, .mov (.m 90), []⟩,
  ⟨none, none, .kill [10, 11, 12, 13, 25, 26, 27, 28, 29, 30, 31, 32, 33, 34, 35, 36, 37, 38, 39, 40, 41, 42, 43, 44, 45, 46, 47, 48, 49, 50, 51, 52, 53, 54, 55, 56, 57, 58, 59, 60, 61, 62, 63, 64, 65, 66, 67, 68, 69, 70, 71, 72, 73, 74, 75, 76, 77, 78, 79, 80, 81, 82, 83, 84, 85, 86, 87, 88, 89], []⟩])))))))
 (.reg false [
  ⟨some 91, none, .mov (.m 5), []⟩,
  ⟨some 92, none, .fa 3 (.s 2), []⟩,
  ⟨some 93, none, .ld none 0 (.m 92), []⟩,
  ⟨some 94, none, .mov (.m 6), []⟩,
  ⟨some 95, none, .ia 1 (.m 93) (.m 94), []⟩,
  ⟨some 96, none, .ld none 0 (.m 95), []⟩,
  ⟨some 97, none, .bin .add (.m 91) (.m 96), []⟩,
  ⟨some 5, none, .mov (.m 97), []⟩,
  ⟨none, none, .kill [8, 10, 11, 12, 13, 21, 22, 23, 24, 25, 26, 27, 28, 29, 30, 31, 32, 33, 34, 35, 36, 37, 38, 39, 40, 41, 42, 43, 44, 45, 46, 47, 48, 49, 50, 51, 52, 53, 54, 55, 56, 57, 58, 59, 60, 61, 62, 63, 64, 65, 66, 67, 68, 69, 70, 71, 72, 73, 74, 75, 76, 77, 78, 79, 80, 81, 82, 83, 84, 85, 86, 87, 88, 89, 90], []⟩])))))
 (.reg false [
  ⟨some 98, none, .bin .add (.m 16) (.c (.d (.int .i64 1))), []⟩,
  ⟨some 16, none, .mov (.m 98), []⟩,
  ⟨none, none, .kill [6, 7, 8, 10, 11, 12, 13, 18, 19, 20, 21, 22, 23, 24, 25, 26, 27, 28, 29, 30, 31, 32, 33, 34, 35, 36, 37, 38, 39, 40, 41, 42, 43, 44, 45, 46, 47, 48, 49, 50, 51, 52, 53, 54, 55, 56, 57, 58, 59, 60, 61, 62, 63, 64, 65, 66, 67, 68, 69, 70, 71, 72, 73, 74, 75, 76, 77, 78, 79, 80, 81, 82, 83, 84, 85, 86, 87, 88, 89, 90, 91, 92, 93, 94, 95, 96, 97], []⟩]))))))))⟩
def c160 : VFunc := ⟨2, [.tmp 4],
 (.seq (.reg false [
  ⟨some 4, none, .mov (.c (.d (.bool false))), []⟩,
  ⟨none, none, .kill [4], []⟩])
 (.seq (.seq (.reg false [
  ⟨some 10, none, .mov (.s 0), []⟩,
  ⟨some 11, none, .bin .lss (.m 10) (.c (.d (.int .i64 0))), []⟩,
  ⟨some 12, none, .mov (.m 11), []⟩,
  ⟨some 13, (some (12, false)), .mov (.s 0), []⟩,
  ⟨some 14, (some (12, false)), .bin .gtr (.s 13) (.c (.d (.int .i64 255))), []⟩,
  ⟨some 15, none, .pick (.m 12) (.c (.d (.bool true))) (.m 14), []⟩,
  ⟨some 16, none, .mov (.m 15), []⟩,
  ⟨some 17, (some (16, false)), .mov (.s 1), []⟩,
  ⟨some 18, (some (16, false)), .len (.s 17), []⟩,
  ⟨some 19, (some (16, false)), .bin .gtr (.s 18) (.c (.d (.int .i64 8))), []⟩,
  ⟨some 20, none, .pick (.m 16) (.c (.d (.bool true))) (.m 19), []⟩,
  ⟨none, none, .kill [0, 13, 17, 18], []⟩])
 (.cond (.m 20)
 (.seq (K [1]) (.seq (.reg false [
  ⟨some 4, none, .mov (.c (.d (.bool false))), []⟩])
 .ret))
 .skip))
 (.seq (.seq (.reg false [
  ⟨some 21, none, .mov (.m 1), []⟩,
  ⟨some 22, none, .len (.s 21), []⟩,
  ⟨some 23, none, .mov (.c (.d (.int .i64 0))), []⟩])
 (.block 0
 (.loop
 (.seq (.reg false [
  ⟨some 24, none, .bin .lss (.s 23) (.s 22), []⟩])
 (.seq (.cond (.m 24)
 .skip
 (.seq (K [21, 22, 23]) (.exit 0)))
 (.seq (.block 1
 (.seq (.reg false [
  ⟨some 25, none, .ia 1 (.s 21) (.s 23), []⟩,
  ⟨some 26, none, .ld none 0 (.m 25), []⟩,
  ⟨some 6, none, .mov (.m 26), []⟩])
 (.seq (.reg false [
  ⟨some 7, none, .mov (.c (.d (.int .i64 40))), []⟩])
 (.seq (.reg false [
  ⟨some 27, none, .mov (.m 6), []⟩,
  ⟨some 28, none, .len (.s 27), []⟩,
  ⟨some 29, none, .mov (.c (.d (.int .i64 0))), []⟩])
 (.block 2
 (.loop
 (.seq (.reg false [
  ⟨some 30, none, .bin .lss (.s 29) (.s 28), []⟩])
 (.seq (.cond (.m 30)
 .skip
 (.seq (K [7, 27, 28, 29]) (.exit 2)))
 (.seq (.block 3
 (.seq (.reg false [
  ⟨some 31, none, .ia 2 (.s 27) (.s 29), []⟩,
  ⟨some 32, none, .ld (some 2) 0 (.m 31), []⟩,
  ⟨some 9, none, .alloc [.d (.int .i64 0), .d (.int .i64 0)], []⟩,
  ⟨none, none, .st 2 (.s 9) (.m 32), []⟩])
 (.seq (.seq (.reg false [
  ⟨some 33, none, .fa 1 (.s 9), []⟩,
  ⟨some 34, none, .ld none 0 (.m 33), []⟩,
  ⟨some 35, none, .bin .lss (.m 34) (.c (.d (.int .i64 1))), []⟩,
  ⟨some 36, none, .mov (.m 35), []⟩,
  ⟨some 37, (some (36, false)), .fa 1 (.s 9), []⟩,
  ⟨some 38, (some (36, false)), .ld none 0 (.s 37), []⟩,
  ⟨some 39, (some (36, false)), .mov (.s 7), []⟩,
  ⟨some 40, (some (36, false)), .bin .gtr (.s 38) (.s 39), []⟩,
  ⟨some 41, none, .pick (.m 36) (.c (.d (.bool true))) (.m 40), []⟩,
  ⟨some 42, none, .mov (.m 41), []⟩,
  ⟨some 43, (some (42, false)), .fa 0 (.s 9), []⟩,
  ⟨some 44, (some (42, false)), .ld none 0 (.s 43), []⟩,
  ⟨some 45, (some (42, false)), .bin .lss (.s 44) (.c (.d (.int .i64 0))), []⟩,
  ⟨some 46, none, .pick (.m 42) (.c (.d (.bool true))) (.m 45), []⟩,
  ⟨some 47, none, .mov (.m 46), []⟩,
  ⟨some 48, (some (47, false)), .fa 0 (.s 9), []⟩,
  ⟨some 49, (some (47, false)), .ld none 0 (.s 48), []⟩,
  ⟨some 50, (some (47, false)), .bin .gtr (.s 49) (.c (.d (.int .i64 11))), []⟩,
  ⟨some 51, (some (47, false)), .mov (.s 50), []⟩,
  ⟨some 52, (some (51, true)), .fa 0 (.s 9), []⟩,
  ⟨some 53, (some (51, true)), .ld none 0 (.s 52), []⟩,
  ⟨some 54, (some (51, true)), .bin .neq (.s 53) (.c (.d (.int .i64 13))), []⟩,
  ⟨some 55, (some (47, false)), .pick (.s 51) (.s 54) (.c (.d (.bool false))), []⟩,
  ⟨some 56, none, .pick (.m 47) (.c (.d (.bool true))) (.m 55), []⟩,
  ⟨none, none, .kill [37, 38, 39, 43, 44, 48, 49, 50, 51, 52, 53, 54], []⟩])
 (.cond (.m 56)
 (.seq (K [7, 9, 21, 22, 23, 27, 28, 29]) (.seq (.reg false [
  ⟨some 4, none, .mov (.c (.d (.bool false))), []⟩])
 .ret))
 .skip))
 (.reg false [
  ⟨some 57, none, .mov (.m 7), []⟩,
  ⟨some 58, none, .fa 1 (.m 9), []⟩,
  ⟨some 59, none, .ld none 0 (.m 58), []⟩,
  ⟨some 60, none, .bin .sub (.m 57) (.m 59), []⟩,
  ⟨some 7, none, .mov (.m 60), []⟩]))))
 (.reg false [
  ⟨some 61, none, .bin .add (.m 29) (.c (.d (.int .i64 1))), []⟩,
  ⟨some 29, none, .mov (.m 61), []⟩,
  ⟨none, none, .kill [4, 9, 31, 32, 33, 34, 35, 36, 37, 38, 39, 40, 41, 42, 43, 44, 45, 46, 47, 48, 49, 50, 51, 52, 53, 54, 55, 56, 57, 58, 59, 60], []⟩]))))))))))
 (.reg false [
  ⟨some 62, none, .bin .add (.m 23) (.c (.d (.int .i64 1))), []⟩,
  ⟨some 23, none, .mov (.m 62), []⟩,
  ⟨none, none, .kill [4, 6, 7, 9, 25, 26, 27, 28, 29, 30, 31, 32, 33, 34, 35, 36, 37, 38, 39, 40, 41, 42, 43, 44, 45, 46, 47, 48, 49, 50, 51, 52, 53, 54, 55, 56, 57, 58, 59, 60, 61], []⟩])))))))
 (.seq (.reg false [
  ⟨some 4, none, .mov (.c (.d (.bool true))), []⟩,
  ⟨none, none, .kill [6, 7, 9, 21, 22, 23, 24, 25, 26, 27, 28, 29, 30, 31, 32, 33, 34, 35, 36, 37, 38, 39, 40, 41, 42, 43, 44, 45, 46, 47, 48, 49, 50, 51, 52, 53, 54, 55, 56, 57, 58, 59, 60, 61, 62], []⟩])
 .ret))))⟩
def c171 : VFunc := ⟨2, [],
 (.seq (.reg false [
  ⟨some 3, none, .mov (.c (.d (.int .i64 0))), []⟩])
 (.seq (.reg false [
  ⟨some 6, none, .ld none 0 (.m 1), []⟩,
  ⟨some 7, none, .len (.s 6), []⟩,
  ⟨some 8, none, .mov (.c (.d (.int .i64 0))), []⟩])
 (.block 0
 (.loop
 (.seq (.reg false [
  ⟨some 9, none, .bin .lss (.s 8) (.s 7), []⟩])
 (.seq (.cond (.m 9)
 .skip
 (.seq (K [0, 3, 6, 7, 8]) (.exit 0)))
 (.seq (.block 1
 (.seq (.reg false [
  ⟨some 10, none, .ia 2 (.s 6) (.s 8), []⟩,
  ⟨some 11, none, .ld (some 2) 0 (.m 10), []⟩,
  ⟨some 5, none, .alloc [.d (.int .i64 0), .d (.int .i64 0)], []⟩,
  ⟨none, none, .st 2 (.s 5) (.m 11), []⟩])
 (.seq (.reg false [
  ⟨some 12, none, .fa 1 (.s 5), []⟩,
  ⟨some 13, none, .ld none 0 (.m 12), []⟩,
  ⟨some 14, none, .mov (.c (.d (.int .i64 0))), []⟩])
 (.block 2
 (.loop
 (.seq (.reg false [
  ⟨some 15, none, .bin .lss (.s 14) (.s 13), []⟩])
 (.seq (.cond (.m 15)
 .skip
 (.seq (K [5, 13, 14]) (.exit 2)))
 (.seq (.block 3
 (.seq (.seq (.reg false [
  ⟨some 16, none, .mov (.s 0), []⟩,
  ⟨some 17, none, .mov (.s 3), []⟩,
  ⟨some 18, none, .fa 0 (.s 5), []⟩,
  ⟨some 19, none, .ld none 0 (.m 18), []⟩,
  ⟨some 20, none, .callv (.m 16) [.m 17, .m 19], []⟩,
  ⟨some 21, none, .un .not (.m 20), []⟩])
 (.cond (.m 21)
 (.seq (K [0, 3, 5, 6, 7, 8, 13, 14]) .ret)
 .skip))
 (.reg false [
  ⟨some 22, none, .mov (.m 3), []⟩,
  ⟨some 23, none, .bin .add (.m 22) (.c (.d (.int .i64 1))), []⟩,
  ⟨some 3, none, .mov (.m 23), []⟩])))
 (.reg false [
  ⟨some 24, none, .bin .add (.m 14) (.c (.d (.int .i64 1))), []⟩,
  ⟨some 14, none, .mov (.m 24), []⟩,
  ⟨none, none, .kill [16, 17, 18, 19, 20, 21, 22, 23], []⟩])))))))))
 (.reg false [
  ⟨some 25, none, .bin .add (.m 8) (.c (.d (.int .i64 1))), []⟩,
  ⟨some 8, none, .mov (.m 25), []⟩,
  ⟨none, none, .kill [5, 10, 11, 12, 13, 14, 15, 16, 17, 18, 19, 20, 21, 22, 23, 24], []⟩]))))))))⟩
def table : T := (.node 76 c76 (.node 36 c36 (.node 16 c16 (.node 9 c9 (.node 7 c7 (.node 4 c4 .leaf .leaf) (.node 8 c8 .leaf .leaf)) (.node 14 c14 (.node 10 c10 .leaf .leaf) (.node 15 c15 .leaf .leaf))) (.node 29 c29 (.node 20 c20 (.node 17 c17 .leaf .leaf) (.node 28 c28 .leaf .leaf)) (.node 32 c32 (.node 31 c31 .leaf .leaf) (.node 34 c34 .leaf .leaf)))) (.node 62 c62 (.node 58 c58 (.node 52 c52 (.node 40 c40 .leaf .leaf) (.node 57 c57 .leaf .leaf)) (.node 60 c60 (.node 59 c59 .leaf .leaf) (.node 61 c61 .leaf .leaf))) (.node 67 c67 (.node 65 c65 (.node 64 c64 .leaf .leaf) (.node 66 c66 .leaf .leaf)) (.node 69 c69 (.node 68 c68 .leaf .leaf) .leaf)))) (.node 113 c113 (.node 106 c106 (.node 92 c92 (.node 88 c88 (.node 77 c77 .leaf .leaf) (.node 91 c91 .leaf .leaf)) (.node 101 c101 (.node 93 c93 .leaf .leaf) (.node 105 c105 .leaf .leaf))) (.node 110 c110 (.node 108 c108 (.node 107 c107 .leaf .leaf) (.node 109 c109 .leaf .leaf)) (.node 112 c112 (.node 111 c111 .leaf .leaf) .leaf))) (.node 128 c128 (.node 118 c118 (.node 115 c115 (.node 114 c114 .leaf .leaf) (.node 116 c116 .leaf .leaf)) (.node 121 c121 (.node 120 c120 .leaf .leaf) (.node 122 c122 .leaf .leaf))) (.node 146 c146 (.node 132 c132 (.node 130 c130 .leaf .leaf) (.node 135 c135 .leaf .leaf)) (.node 171 c171 (.node 160 c160 .leaf .leaf) .leaf)))))
def prog : Nat → Option VFunc := table.look
end Go.Vm
