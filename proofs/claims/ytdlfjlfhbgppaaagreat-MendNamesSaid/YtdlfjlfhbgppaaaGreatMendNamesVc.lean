import Derived.Test.YtdlfjlfhbgppaaaGreatVmA
namespace Go.Vm
set_option maxRecDepth 100000
abbrev K (l : List Nat) : VC := .reg false [⟨none, none, .kill l, []⟩]
def c3 : VFunc := ⟨0, [.tmp 0],
 (.seq (.reg false [
  ⟨some 0, none, .mov (.c (.d (.bool false))), []⟩,
  ⟨none, none, .kill [0], []⟩])
 (.seq (.reg false [
  ⟨some 8, none, .build [.d (.int .i64 0), .d (.int .i64 0), .d (.bool false), .d (.int .i64 0)] [(1, 1, .c (.d (.int .i64 1)))], []⟩,
  ⟨some 9, none, .mks 1 [.c (.d (.int .u8 1))], []⟩,
  ⟨some 10, none, .build [.nl, .d (.bool false), .d (.int .i64 0), .nl, .nl] [], []⟩,
  ⟨some 11, none, .call 5 [.m 8, .m 9, .m 10], []⟩,
  ⟨some 7, none, .mov (.m 11), []⟩,
  ⟨some 12, none, .ext 7 true 0, []⟩,
  ⟨some 13, none, .ext 7 false 1, []⟩,
  ⟨some 1, none, .alloc [.nl, .d (.bool false), .d (.int .i64 0), .nl, .nl], []⟩,
  ⟨none, none, .st 5 (.s 1) (.m 12), []⟩,
  ⟨some 2, none, .mov (.m 13), []⟩])
 (.seq (.reg false [
  ⟨some 15, none, .build [.d (.int .i64 0), .d (.int .i64 0), .d (.bool false), .d (.int .i64 0)] [(1, 1, .c (.d (.int .i64 1)))], []⟩,
  ⟨some 16, none, .build [.nl, .d (.bool false), .d (.int .i64 0), .nl, .nl] [], []⟩,
  ⟨some 17, none, .call 5 [.m 15, .c (.nl), .m 16], []⟩,
  ⟨some 14, none, .mov (.m 17), []⟩,
  ⟨some 18, none, .ext 14 true 0, []⟩,
  ⟨some 19, none, .ext 14 false 1, []⟩,
  ⟨some 3, none, .alloc [.nl, .d (.bool false), .d (.int .i64 0), .nl, .nl], []⟩,
  ⟨none, none, .st 5 (.m 3) (.m 18), []⟩,
  ⟨some 4, none, .mov (.m 19), []⟩])
 (.seq (.reg false [
  ⟨some 21, none, .build [.d (.int .i64 0), .d (.int .i64 0), .d (.bool false), .d (.int .i64 0)] [(1, 1, .c (.d (.int .i64 1)))], []⟩,
  ⟨some 22, none, .mks 1 [.c (.d (.int .u8 4))], []⟩,
  ⟨some 23, none, .build [.nl, .d (.bool false), .d (.int .i64 0), .nl, .nl] [], []⟩,
  ⟨some 24, none, .call 5 [.m 21, .m 22, .m 23], []⟩,
  ⟨some 20, none, .mov (.m 24), []⟩,
  ⟨some 25, none, .ext 20 true 0, []⟩,
  ⟨some 26, none, .ext 20 false 1, []⟩,
  ⟨some 5, none, .alloc [.nl, .d (.bool false), .d (.int .i64 0), .nl, .nl], []⟩,
  ⟨none, none, .st 5 (.m 5) (.m 25), []⟩,
  ⟨some 6, none, .mov (.m 26), []⟩])
 (.seq (.reg false [
  ⟨some 27, none, .mov (.c (.d (.bool true))), []⟩,
  ⟨some 28, (some (27, true)), .call 6 [], []⟩,
  ⟨some 29, none, .pick (.m 27) (.m 28) (.c (.d (.bool false))), []⟩,
  ⟨some 30, none, .mov (.m 29), []⟩,
  ⟨some 31, (some (30, true)), .mov (.s 2), []⟩,
  ⟨some 32, (some (30, true)), .bin .eql (.s 31) (.c (.d (.int .i64 0))), []⟩,
  ⟨some 33, none, .pick (.m 30) (.m 32) (.c (.d (.bool false))), []⟩,
  ⟨some 34, none, .mov (.m 33), []⟩,
  ⟨some 35, (some (34, true)), .fa 0 (.s 1), []⟩,
  ⟨some 36, (some (34, true)), .ld none 0 (.s 35), []⟩,
  ⟨some 37, (some (34, true)), .len (.s 36), []⟩,
  ⟨some 38, (some (34, true)), .bin .eql (.s 37) (.c (.d (.int .i64 1))), []⟩,
  ⟨some 39, none, .pick (.m 34) (.m 38) (.c (.d (.bool false))), []⟩,
  ⟨some 40, none, .mov (.m 39), []⟩,
  ⟨some 41, (some (40, true)), .fa 0 (.s 1), []⟩,
  ⟨some 42, (some (40, true)), .ld none 0 (.s 41), []⟩,
  ⟨some 43, (some (40, true)), .ia 9 (.s 42) (.c (.d (.int .i64 0))), []⟩,
  ⟨some 44, (some (40, true)), .fa 1 (.s 43), []⟩,
  ⟨some 45, (some (40, true)), .fa 0 (.s 44), []⟩,
  ⟨some 46, (some (40, true)), .ld none 0 (.s 45), []⟩,
  ⟨some 47, (some (40, true)), .bin .eql (.s 46) (.c (.d (.int .u8 3))), []⟩,
  ⟨some 48, none, .pick (.m 40) (.m 47) (.c (.d (.bool false))), []⟩,
  ⟨some 49, none, .mov (.m 48), []⟩,
  ⟨some 50, (some (49, true)), .mov (.s 4), []⟩,
  ⟨some 51, (some (49, true)), .bin .eql (.s 50) (.c (.d (.int .i64 4))), []⟩,
  ⟨some 52, none, .pick (.m 49) (.m 51) (.c (.d (.bool false))), []⟩,
  ⟨some 53, none, .mov (.m 52), []⟩,
  ⟨some 54, (some (53, true)), .mov (.s 6), []⟩,
  ⟨some 55, (some (53, true)), .bin .eql (.s 54) (.c (.d (.int .i64 2))), []⟩,
  ⟨some 56, none, .pick (.m 53) (.m 55) (.c (.d (.bool false))), []⟩,
  ⟨some 0, none, .mov (.m 56), []⟩,
  ⟨none, none, .kill [1, 2, 4, 6, 31, 35, 36, 37, 41, 42, 43, 44, 45, 46, 50, 54], []⟩])
 .ret)))))⟩
def c5 : VFunc := ⟨3, [.cell 6 (some 5), .tmp 7],
 (.seq (.reg false [
  ⟨some 3, none, .box (.m 0), []⟩,
  ⟨some 5, none, .box (.m 2), []⟩,
  ⟨some 6, none, .alloc [.nl, .d (.bool false), .d (.int .i64 0), .nl, .nl], []⟩,
  ⟨some 7, none, .mov (.c (.d (.int .i64 0))), []⟩,
  ⟨none, none, .kill [7], []⟩])
 (.seq (.block 0
 (.seq (.reg false [
  ⟨some 10, none, .fa 0 (.s 3), []⟩,
  ⟨some 11, none, .ld none 0 (.m 10), []⟩,
  ⟨some 12, none, .bin .lss (.m 11) (.c (.d (.int .i64 0))), []⟩,
  ⟨some 13, none, .mov (.m 12), []⟩,
  ⟨some 14, (some (13, false)), .fa 0 (.s 3), []⟩,
  ⟨some 15, (some (13, false)), .ld none 0 (.s 14), []⟩,
  ⟨some 16, (some (13, false)), .bin .gtr (.s 15) (.c (.d (.int .i64 11))), []⟩,
  ⟨some 17, none, .pick (.m 13) (.c (.d (.bool true))) (.m 16), []⟩,
  ⟨some 18, none, .mov (.m 17), []⟩,
  ⟨some 19, (some (18, false)), .fa 1 (.s 3), []⟩,
  ⟨some 20, (some (18, false)), .ld none 0 (.s 19), []⟩,
  ⟨some 21, (some (18, false)), .bin .lss (.s 20) (.c (.d (.int .i64 1))), []⟩,
  ⟨some 22, none, .pick (.m 18) (.c (.d (.bool true))) (.m 21), []⟩,
  ⟨some 23, none, .mov (.m 22), []⟩,
  ⟨some 24, (some (23, false)), .fa 1 (.s 3), []⟩,
  ⟨some 25, (some (23, false)), .ld none 0 (.s 24), []⟩,
  ⟨some 26, (some (23, false)), .bin .gtr (.s 25) (.c (.d (.int .i64 2))), []⟩,
  ⟨some 27, none, .pick (.m 23) (.c (.d (.bool true))) (.m 26), []⟩,
  ⟨some 9, none, .mov (.m 27), []⟩,
  ⟨none, none, .kill [14, 15, 19, 20, 24, 25], []⟩])
 (.cond (.m 9)
 (.seq (K [1, 3, 5]) (.seq (.reg false [
  ⟨some 28, none, .build [.nl, .d (.bool false), .d (.int .i64 0), .nl, .nl] [], []⟩,
  ⟨none, none, .st 5 (.s 6) (.m 28), []⟩,
  ⟨some 7, none, .mov (.c (.d (.int .i64 2))), []⟩])
 .ret))
 (.seq (.reg false [
  ⟨some 30, none, .mov (.s 1), []⟩,
  ⟨some 31, none, .len (.m 30), []⟩,
  ⟨some 32, none, .fa 1 (.s 3), []⟩,
  ⟨some 33, none, .ld none 0 (.m 32), []⟩,
  ⟨some 34, none, .bin .neq (.m 31) (.m 33), []⟩,
  ⟨some 29, none, .mov (.m 34), []⟩])
 (.cond (.m 29)
 (.seq (K [1, 3, 5]) (.seq (.reg false [
  ⟨some 35, none, .build [.nl, .d (.bool false), .d (.int .i64 0), .nl, .nl] [], []⟩,
  ⟨none, none, .st 5 (.s 6) (.m 35), []⟩,
  ⟨some 7, none, .mov (.c (.d (.int .i64 4))), []⟩])
 .ret))
 (.seq (.reg false [
  ⟨some 37, none, .mov (.s 1), []⟩,
  ⟨some 38, none, .call 11 [.m 37], []⟩,
  ⟨some 39, none, .bin .gtr (.m 38) (.c (.d (.int .u8 3))), []⟩,
  ⟨some 36, none, .mov (.m 39), []⟩])
 (.cond (.m 36)
 (.seq (K [1, 3, 5]) (.seq (.reg false [
  ⟨some 40, none, .build [.nl, .d (.bool false), .d (.int .i64 0), .nl, .nl] [], []⟩,
  ⟨none, none, .st 5 (.s 6) (.m 40), []⟩,
  ⟨some 7, none, .mov (.c (.d (.int .i64 2))), []⟩])
 .ret))
 .skip)))))))
 (.seq (.seq (.regP [0, 1, 2, 3, 4, 5, 6] [0, 1, 2, 3, 4, 5, 6] [] [
  ⟨some 41, none, .ld (some 4) 0 (.m 3), []⟩,
  ⟨some 42, none, .mov (.m 1), []⟩,
  ⟨some 43, none, .ld (some 5) 2 (.m 5), []⟩,
  ⟨some 44, none, .call 12 [.m 43], [(0, 0)]⟩,
  ⟨some 45, none, .build [.d (.int .i64 0), .d (.int .i64 0), .d (.bool false), .d (.int .i64 0), .nl, .nl, .d (.bool false), .d (.int .i64 0), .nl, .nl] [(0, 4, .m 41), (4, 1, .m 42), (5, 5, .m 44)], []⟩,
  ⟨some 46, none, .box (.m 45), []⟩,
  ⟨some 8, none, .mov (.m 46), []⟩]) (K [7, 9, 10, 11, 12, 13, 14, 15, 16, 17, 18, 19, 20, 21, 22, 23, 24, 25, 26, 27, 28, 29, 30, 31, 32, 33, 34, 35, 36, 37, 38, 39, 40]))
 (.seq (.reg false [
  ⟨some 47, none, .mov (.s 8), []⟩,
  ⟨some 48, none, .calli 13 [.m 47], []⟩,
  ⟨none, none, .kill [48], []⟩])
 (.seq (.reg false [
  ⟨some 49, none, .mov (.m 8), []⟩,
  ⟨some 50, none, .nilck (.m 49), []⟩,
  ⟨some 51, none, .fa 5 (.m 50), []⟩,
  ⟨some 52, none, .ld (some 5) 0 (.m 51), []⟩,
  ⟨none, none, .st 5 (.s 6) (.m 52), []⟩,
  ⟨some 7, none, .mov (.c (.d (.int .i64 0))), []⟩])
 .ret)))))⟩
def c6 : VFunc := ⟨0, [.tmp 0],
 (.seq (.reg false [
  ⟨some 0, none, .mov (.c (.d (.bool false))), []⟩,
  ⟨none, none, .kill [0], []⟩])
 (.seq (.reg false [
  ⟨some 4, none, .build [.d (.int .i64 0), .d (.int .i64 0), .d (.bool false), .d (.int .i64 0)] [(1, 1, .c (.d (.int .i64 1)))], []⟩,
  ⟨some 5, none, .mks 1 [.c (.d (.int .u8 0))], []⟩,
  ⟨some 6, none, .build [.nl, .d (.bool false), .d (.int .i64 0), .nl, .nl] [], []⟩,
  ⟨some 7, none, .call 5 [.m 4, .m 5, .m 6], []⟩,
  ⟨some 3, none, .mov (.m 7), []⟩,
  ⟨some 8, none, .ext 3 true 0, []⟩,
  ⟨some 9, none, .ext 3 false 1, []⟩,
  ⟨some 1, none, .alloc [.nl, .d (.bool false), .d (.int .i64 0), .nl, .nl], []⟩,
  ⟨none, none, .st 5 (.s 1) (.m 8), []⟩,
  ⟨some 2, none, .mov (.m 9), []⟩])
 (.seq (.reg false [
  ⟨some 10, none, .mov (.m 2), []⟩,
  ⟨some 11, none, .bin .eql (.m 10) (.c (.d (.int .i64 0))), []⟩,
  ⟨some 12, none, .mov (.m 11), []⟩,
  ⟨some 13, (some (12, true)), .fa 0 (.s 1), []⟩,
  ⟨some 14, (some (12, true)), .ld none 0 (.s 13), []⟩,
  ⟨some 15, (some (12, true)), .len (.s 14), []⟩,
  ⟨some 16, (some (12, true)), .bin .eql (.s 15) (.c (.d (.int .i64 1))), []⟩,
  ⟨some 17, none, .pick (.m 12) (.m 16) (.c (.d (.bool false))), []⟩,
  ⟨some 18, none, .mov (.m 17), []⟩,
  ⟨some 19, (some (18, true)), .fa 0 (.s 1), []⟩,
  ⟨some 20, (some (18, true)), .ld none 0 (.s 19), []⟩,
  ⟨some 21, (some (18, true)), .ia 9 (.s 20) (.c (.d (.int .i64 0))), []⟩,
  ⟨some 22, (some (18, true)), .fa 1 (.s 21), []⟩,
  ⟨some 23, (some (18, true)), .fa 0 (.s 22), []⟩,
  ⟨some 24, (some (18, true)), .ld none 0 (.s 23), []⟩,
  ⟨some 25, (some (18, true)), .bin .eql (.s 24) (.c (.d (.int .u8 0))), []⟩,
  ⟨some 26, none, .pick (.m 18) (.m 25) (.c (.d (.bool false))), []⟩,
  ⟨some 27, none, .mov (.m 26), []⟩,
  ⟨some 28, (some (27, true)), .fa 0 (.s 1), []⟩,
  ⟨some 29, (some (27, true)), .ld none 0 (.s 28), []⟩,
  ⟨some 30, (some (27, true)), .ia 9 (.s 29) (.c (.d (.int .i64 0))), []⟩,
  ⟨some 31, (some (27, true)), .fa 1 (.s 30), []⟩,
  ⟨some 32, (some (27, true)), .fa 2 (.s 31), []⟩,
  ⟨some 33, (some (27, true)), .ld none 0 (.s 32), []⟩,
  ⟨some 34, (some (27, true)), .bin .eql (.s 33) (.c (.d (.int .i64 0))), []⟩,
  ⟨some 35, none, .pick (.m 27) (.m 34) (.c (.d (.bool false))), []⟩,
  ⟨some 36, none, .mov (.m 35), []⟩,
  ⟨some 37, (some (36, true)), .fa 0 (.s 1), []⟩,
  ⟨some 38, (some (36, true)), .ld none 0 (.s 37), []⟩,
  ⟨some 39, (some (36, true)), .ia 9 (.s 38) (.c (.d (.int .i64 0))), []⟩,
  ⟨some 40, (some (36, true)), .fa 8 (.s 39), []⟩,
  ⟨some 41, (some (36, true)), .ld none 0 (.s 40), []⟩,
  ⟨some 42, (some (36, true)), .len (.s 41), []⟩,
  ⟨some 43, (some (36, true)), .bin .eql (.s 42) (.c (.d (.int .i64 256))), []⟩,
  ⟨some 44, none, .pick (.m 36) (.m 43) (.c (.d (.bool false))), []⟩,
  ⟨some 0, none, .mov (.m 44), []⟩,
  ⟨none, none, .kill [1, 13, 14, 15, 19, 20, 21, 22, 23, 24, 28, 29, 30, 31, 32, 33, 37, 38, 39, 40, 41, 42], []⟩])
 .ret)))⟩
def c11 : VFunc := ⟨1, [.tmp 2],
 (.seq (.reg false [
  ⟨some 2, none, .mov (.c (.d (.int .u8 0))), []⟩,
  ⟨none, none, .kill [2], []⟩])
 (.seq (.seq (.reg false [
  ⟨some 5, none, .mov (.s 0), []⟩,
  ⟨some 6, none, .len (.m 5), []⟩,
  ⟨some 7, none, .bin .lss (.m 6) (.c (.d (.int .i64 1))), []⟩])
 (.cond (.m 7)
 (.reg false [
  ⟨some 8, none, .bad, []⟩,
  ⟨none, none, .bad, []⟩])
 .skip))
 (.seq (.reg false [
  ⟨some 9, none, .mov (.s 0), []⟩,
  ⟨some 10, none, .ia 1 (.m 9) (.c (.d (.int .i64 0))), []⟩,
  ⟨some 11, none, .ld none 0 (.m 10), []⟩,
  ⟨some 3, none, .mov (.m 11), []⟩])
 (.seq (.seq (.reg false [
  ⟨some 4, none, .mov (.c (.d (.int .i64 1))), []⟩])
 (.block 0
 (.loop
 (.seq (.seq (.reg false [
  ⟨some 12, none, .mov (.s 4), []⟩,
  ⟨some 13, none, .mov (.s 0), []⟩,
  ⟨some 14, none, .len (.m 13), []⟩,
  ⟨some 15, none, .bin .lss (.m 12) (.m 14), []⟩])
 (.cond (.m 15)
 .skip
 (.seq (K [0, 4]) (.exit 0))))
 (.seq (.block 1
 (.reg false [
  ⟨some 18, none, .mov (.m 3), []⟩,
  ⟨some 19, none, .mov (.s 0), []⟩,
  ⟨some 20, none, .mov (.s 4), []⟩,
  ⟨some 21, none, .ia 1 (.m 19) (.m 20), []⟩,
  ⟨some 22, none, .ld none 0 (.m 21), []⟩,
  ⟨some 23, none, .minmax true [.m 18, .m 22], []⟩,
  ⟨some 3, none, .mov (.m 23), []⟩]))
 (.reg false [
  ⟨some 16, none, .mov (.m 4), []⟩,
  ⟨some 17, none, .bin .add (.m 16) (.c (.d (.int .i64 1))), []⟩,
  ⟨some 4, none, .mov (.m 17), []⟩,
  ⟨none, none, .kill [18, 19, 20, 21, 22, 23], []⟩]))))))
 (.seq (.reg false [
  ⟨some 24, none, .mov (.m 3), []⟩,
  ⟨some 2, none, .mov (.m 24), []⟩,
  ⟨none, none, .kill [0, 4, 12, 13, 14, 15, 16, 17, 18, 19, 20, 21, 22, 23], []⟩])
 .ret)))))⟩
def c12 : VFunc := ⟨1, [.cell 2 (some 5)],
 (.seq (.reg false [
  ⟨some 1, none, .box (.m 0), []⟩,
  ⟨some 2, none, .alloc [.nl, .d (.bool false), .d (.int .i64 0), .nl, .nl], []⟩])
 (.seq (.regP [0, 1, 3, 4, 6, 7, 2, 9, 5, 8, 10, 11, 12, 13, 14] [0, 1, 2, 3, 4, 5, 6, 7, 8, 9, 10, 11, 12, 13, 14] [] [
  ⟨some 5, none, .fa 0 (.s 1), []⟩,
  ⟨some 6, none, .ld none 0 (.m 5), []⟩,
  ⟨some 7, none, .call 18 [.m 6], [(0, 0)]⟩,
  ⟨some 8, none, .fa 3 (.s 1), []⟩,
  ⟨some 9, none, .ld none 0 (.m 8), []⟩,
  ⟨some 10, none, .call 19 [.m 9], [(0, 0)]⟩,
  ⟨some 11, none, .fa 4 (.s 1), []⟩,
  ⟨some 12, none, .ld none 0 (.m 11), []⟩,
  ⟨some 13, none, .call 20 [.m 12], []⟩,
  ⟨some 14, none, .fa 0 (.s 1), []⟩,
  ⟨none, none, .st 1 (.m 14) (.m 7), []⟩,
  ⟨some 15, none, .fa 3 (.s 1), []⟩,
  ⟨none, none, .st 1 (.m 15) (.m 10), []⟩,
  ⟨some 16, none, .fa 4 (.s 1), []⟩,
  ⟨none, none, .st 1 (.m 16) (.m 13), []⟩])
 (.seq (.seq (.reg false [
  ⟨some 17, none, .fa 0 (.s 1), []⟩,
  ⟨some 18, none, .ld none 0 (.m 17), []⟩,
  ⟨some 19, none, .len (.m 18), []⟩,
  ⟨some 20, none, .mov (.c (.d (.int .i64 0))), []⟩])
 (.block 0
 (.loop
 (.seq (.reg false [
  ⟨some 21, none, .bin .lss (.s 20) (.s 19), []⟩])
 (.seq (.cond (.m 21)
 .skip
 (.seq (K [19, 20]) (.exit 0)))
 (.seq (.block 1
 (.seq (.reg false [
  ⟨some 22, none, .mov (.s 20), []⟩,
  ⟨some 3, none, .mov (.m 22), []⟩])
 (.seq (.regP [0, 1, 2, 3, 4, 5, 6, 7, 8, 9, 10] [0, 1, 2, 3, 4, 5, 6, 7, 8, 9, 10] [] [
  ⟨some 23, none, .fa 0 (.s 1), []⟩,
  ⟨some 24, none, .ld none 0 (.m 23), []⟩,
  ⟨some 25, none, .mov (.s 3), []⟩,
  ⟨some 26, none, .fa 0 (.s 1), []⟩,
  ⟨some 27, none, .ld none 0 (.m 26), []⟩,
  ⟨some 28, none, .mov (.s 3), []⟩,
  ⟨some 29, none, .ia 9 (.m 27) (.m 28), []⟩,
  ⟨some 30, none, .ld (some 9) 0 (.m 29), []⟩,
  ⟨some 31, none, .call 21 [.m 30], []⟩,
  ⟨some 32, none, .ia 9 (.m 24) (.m 25), []⟩,
  ⟨none, none, .st 9 (.m 32) (.m 31), []⟩]) (K [3]))))
 (.reg false [
  ⟨some 33, none, .bin .add (.m 20) (.c (.d (.int .i64 1))), []⟩,
  ⟨some 20, none, .mov (.m 33), []⟩,
  ⟨none, none, .kill [3, 22, 23, 24, 25, 26, 27, 28, 29, 30, 31, 32], []⟩])))))))
 (.seq (.seq (.reg false [
  ⟨some 34, none, .fa 3 (.s 1), []⟩,
  ⟨some 35, none, .ld none 0 (.m 34), []⟩,
  ⟨some 36, none, .len (.m 35), []⟩,
  ⟨some 37, none, .mov (.c (.d (.int .i64 0))), []⟩,
  ⟨none, none, .kill [3, 19, 20, 21, 22, 23, 24, 25, 26, 27, 28, 29, 30, 31, 32, 33], []⟩])
 (.block 2
 (.loop
 (.seq (.reg false [
  ⟨some 38, none, .bin .lss (.s 37) (.s 36), []⟩])
 (.seq (.cond (.m 38)
 .skip
 (.seq (K [36, 37]) (.exit 2)))
 (.seq (.block 3
 (.seq (.reg false [
  ⟨some 39, none, .mov (.s 37), []⟩,
  ⟨some 4, none, .mov (.m 39), []⟩])
 (.seq (.regP [0, 1, 2, 3, 4, 5, 6, 7, 8, 9, 10] [0, 1, 2, 3, 4, 5, 6, 7, 8, 9, 10] [] [
  ⟨some 40, none, .fa 3 (.s 1), []⟩,
  ⟨some 41, none, .ld none 0 (.m 40), []⟩,
  ⟨some 42, none, .mov (.s 4), []⟩,
  ⟨some 43, none, .fa 3 (.s 1), []⟩,
  ⟨some 44, none, .ld none 0 (.m 43), []⟩,
  ⟨some 45, none, .mov (.s 4), []⟩,
  ⟨some 46, none, .ia 1 (.m 44) (.m 45), []⟩,
  ⟨some 47, none, .ld none 0 (.m 46), []⟩,
  ⟨some 48, none, .call 22 [.m 47], []⟩,
  ⟨some 49, none, .ia 1 (.m 41) (.m 42), []⟩,
  ⟨none, none, .st 1 (.m 49) (.m 48), []⟩]) (K [4]))))
 (.reg false [
  ⟨some 50, none, .bin .add (.m 37) (.c (.d (.int .i64 1))), []⟩,
  ⟨some 37, none, .mov (.m 50), []⟩,
  ⟨none, none, .kill [4, 39, 40, 41, 42, 43, 44, 45, 46, 47, 48, 49], []⟩])))))))
 (.seq (.reg false [
  ⟨some 51, none, .ld (some 5) 1 (.m 1), []⟩,
  ⟨none, none, .st 5 (.s 2) (.m 51), []⟩,
  ⟨none, none, .kill [4, 36, 37, 38, 39, 40, 41, 42, 43, 44, 45, 46, 47, 48, 49, 50], []⟩])
 .ret)))))⟩
def c13 : VFunc := ⟨1, [],
 (.late 0 4 23
 (.seq (K [4]) (.seq (.reg false [
  ⟨some 5, none, .mksv 1 [.c (.fn 24 [] []), .c (.fn 25 [] []), .c (.fn 26 [] []), .c (.fn 27 [] [])], []⟩,
  ⟨some 6, none, .len (.s 5), []⟩,
  ⟨some 7, none, .mov (.c (.d (.int .i64 0))), []⟩])
 (.block 0
 (.loop
 (.seq (.reg false [
  ⟨some 8, none, .bin .lss (.s 7) (.s 6), []⟩])
 (.seq (.cond (.m 8)
 .skip
 (.seq (K [0, 5, 6, 7]) (.exit 0)))
 (.seq (.block 1
 (.seq (.reg false [
  ⟨some 9, none, .ia 1 (.s 5) (.s 7), []⟩,
  ⟨some 10, none, .ld none 0 (.m 9), []⟩,
  ⟨some 3, none, .mov (.m 10), []⟩])
 (.reg false [
  ⟨some 11, none, .mov (.m 3), []⟩,
  ⟨some 12, none, .mov (.s 0), []⟩,
  ⟨some 13, none, .callv (.m 11) [.m 12], []⟩,
  ⟨none, none, .kill [13], []⟩])))
 (.reg false [
  ⟨some 14, none, .bin .add (.m 7) (.c (.d (.int .i64 1))), []⟩,
  ⟨some 7, none, .mov (.m 14), []⟩,
  ⟨none, none, .kill [3, 9, 10, 11, 12, 13], []⟩])))))))))⟩
def c14 : VFunc := ⟨2, [.tmp 4, .tmp 5],
 (.seq (.reg false [
  ⟨some 2, none, .box (.m 0), []⟩,
  ⟨some 3, none, .box (.m 1), []⟩,
  ⟨some 4, none, .mov (.c (.d (.int .i64 0))), []⟩,
  ⟨some 5, none, .mov (.c (.d (.int .i64 0))), []⟩,
  ⟨none, none, .kill [4, 5], []⟩])
 (.seq (.block 0
 (.seq (.reg false [
  ⟨some 7, none, .ld (some 4) 0 (.s 2), []⟩,
  ⟨some 8, none, .call 28 [.m 7], []⟩,
  ⟨some 9, none, .un .not (.m 8), []⟩,
  ⟨some 6, none, .mov (.m 9), []⟩])
 (.cond (.m 6)
 (.seq (K [2, 3]) (.seq (.reg false [
  ⟨some 4, none, .mov (.c (.d (.int .i64 0))), []⟩,
  ⟨some 5, none, .mov (.c (.d (.int .i64 2))), []⟩])
 .ret))
 (.seq (.reg false [
  ⟨some 11, none, .ld (some 4) 0 (.s 2), []⟩,
  ⟨some 12, none, .ld (some 5) 0 (.s 3), []⟩,
  ⟨some 13, none, .call 29 [.m 11, .m 12], []⟩,
  ⟨some 14, none, .un .not (.m 13), []⟩,
  ⟨some 10, none, .mov (.m 14), []⟩])
 (.cond (.m 10)
 (.seq (K [2, 3]) (.seq (.reg false [
  ⟨some 4, none, .mov (.c (.d (.int .i64 0))), []⟩,
  ⟨some 5, none, .mov (.c (.d (.int .i64 8))), []⟩])
 .ret))
 .skip)))))
 (.seq (.reg false [
  ⟨some 15, none, .ld (some 4) 1 (.m 2), []⟩,
  ⟨some 16, none, .ld (some 5) 1 (.m 3), []⟩,
  ⟨some 17, none, .call 30 [.m 15, .m 16], []⟩,
  ⟨some 18, none, .len (.m 17), []⟩,
  ⟨some 4, none, .mov (.m 18), []⟩,
  ⟨some 5, none, .mov (.c (.d (.int .i64 0))), []⟩,
  ⟨none, none, .kill [6, 7, 8, 9, 10, 11, 12, 13, 14], []⟩])
 .ret)))⟩
def c18 : VFunc := ⟨1, [.tmp 2],
 (.clone 9)⟩
def c19 : VFunc := ⟨1, [.tmp 2],
 (.clone 1)⟩
def c20 : VFunc := ⟨1, [.tmp 2],
 (.clone 1)⟩
def c23 : VFunc := ⟨1, [],
 (.seq (.seq (.reg true [
  ⟨some 5, none, .mov (.s 0), []⟩,
  ⟨some 6, none, .nilck (.m 5), []⟩,
  ⟨some 7, none, .fa 0 (.m 6), []⟩,
  ⟨some 8, none, .ld (some 4) 0 (.m 7), []⟩,
  ⟨some 9, none, .mov (.s 0), []⟩,
  ⟨some 10, none, .nilck (.m 9), []⟩,
  ⟨some 11, none, .fa 5 (.m 10), []⟩,
  ⟨some 12, none, .ld (some 5) 0 (.m 11), []⟩,
  ⟨some 13, none, .call 41 [.m 8, .m 12], []⟩,
  ⟨some 14, none, .bin .eql (.m 13) (.c (.d (.int .i64 0))), []⟩])
 (.cond (.m 14)
 (.seq (K [0]) .ret)
 .skip))
 (.seq (.reg false [
  ⟨some 2, none, .mov (.c (.nl)), []⟩])
 (.seq (.seq (.reg false [
  ⟨some 15, none, .mov (.s 0), []⟩,
  ⟨some 16, none, .nilck (.m 15), []⟩,
  ⟨some 17, none, .fa 5 (.m 16), []⟩,
  ⟨some 18, none, .fa 0 (.m 17), []⟩,
  ⟨some 19, none, .ld none 0 (.m 18), []⟩,
  ⟨some 20, none, .len (.s 19), []⟩,
  ⟨some 21, none, .mov (.c (.d (.int .i64 0))), []⟩])
 (.block 0
 (.loop
 (.seq (.reg false [
  ⟨some 22, none, .bin .lss (.s 21) (.s 20), []⟩])
 (.seq (.cond (.m 22)
 .skip
 (.seq (K [19, 20, 21]) (.exit 0)))
 (.seq (.block 1
 (.seq (.reg false [
  ⟨some 23, none, .mov (.s 21), []⟩,
  ⟨some 24, none, .ia 9 (.s 19) (.s 21), []⟩,
  ⟨some 25, none, .ld (some 9) 0 (.m 24), []⟩,
  ⟨some 4, none, .alloc [.d (.int .i64 0), .d (.int .u8 0), .d (.int .u8 0), .d (.int .i64 0), .nl, .nl, .nl, .nl, .nl], []⟩,
  ⟨some 3, none, .mov (.m 23), []⟩,
  ⟨none, none, .st 9 (.s 4) (.m 25), []⟩])
 (.reg false [
  ⟨some 26, none, .mov (.m 2), []⟩,
  ⟨some 27, none, .mov (.s 0), []⟩,
  ⟨some 28, none, .mov (.m 3), []⟩,
  ⟨some 29, none, .fa 1 (.m 4), []⟩,
  ⟨some 30, none, .fa 1 (.m 29), []⟩,
  ⟨some 31, none, .ld none 0 (.m 30), []⟩,
  ⟨some 32, none, .calli 42 [.m 27, .m 28, .m 31], []⟩,
  ⟨some 33, none, .mks 9 [.m 32], []⟩,
  ⟨some 34, none, .app 9 (.m 26) (.m 33), [(0, 0)]⟩,
  ⟨some 2, none, .mov (.m 34), []⟩])))
 (.reg false [
  ⟨some 35, none, .bin .add (.m 21) (.c (.d (.int .i64 1))), []⟩,
  ⟨some 21, none, .mov (.m 35), []⟩,
  ⟨none, none, .kill [3, 4, 23, 24, 25, 26, 27, 28, 29, 30, 31, 32, 33, 34], []⟩])))))))
 (.reg false [
  ⟨some 36, none, .mov (.m 0), []⟩,
  ⟨some 37, none, .mov (.m 2), []⟩,
  ⟨some 38, none, .build [.nl, .d (.bool false), .d (.int .i64 0), .nl, .nl] [(0, 1, .m 37)], []⟩,
  ⟨some 39, none, .nilck (.m 36), []⟩,
  ⟨some 40, none, .fa 5 (.m 39), []⟩,
  ⟨none, none, .st 5 (.m 40) (.m 38), []⟩,
  ⟨none, none, .kill [3, 4, 19, 20, 21, 22, 23, 24, 25, 26, 27, 28, 29, 30, 31, 32, 33, 34, 35], []⟩]))))⟩
def c24 : VFunc := ⟨1, [],
 (.seq (.block 0
 (.loop
 (.seq (.seq (.seq (.reg true [
  ⟨some 2, none, .mov (.s 0), []⟩,
  ⟨some 3, none, .nilck (.m 2), []⟩,
  ⟨some 4, none, .fa 5 (.m 3), []⟩,
  ⟨some 5, none, .fa 0 (.m 4), []⟩,
  ⟨some 6, none, .ld none 0 (.m 5), []⟩,
  ⟨some 7, none, .len (.m 6), []⟩,
  ⟨some 8, none, .mov (.s 0), []⟩,
  ⟨some 9, none, .nilck (.m 8), []⟩,
  ⟨some 10, none, .fa 0 (.m 9), []⟩,
  ⟨some 11, none, .fa 1 (.m 10), []⟩,
  ⟨some 12, none, .ld none 0 (.m 11), []⟩,
  ⟨some 13, none, .bin .lss (.m 7) (.m 12), []⟩])
 (.cond (.m 13)
 .skip
 (.exit 0)))
 (.block 1
 (.reg false [
  ⟨some 14, none, .mov (.s 0), []⟩,
  ⟨some 15, none, .mov (.s 0), []⟩,
  ⟨some 16, none, .nilck (.m 15), []⟩,
  ⟨some 17, none, .fa 5 (.m 16), []⟩,
  ⟨some 18, none, .fa 0 (.m 17), []⟩,
  ⟨some 19, none, .ld none 1 (.m 18), []⟩,
  ⟨some 20, none, .build [.d (.int .i64 0), .d (.int .u8 0), .d (.int .u8 0), .d (.int .i64 0), .nl, .nl, .nl, .nl, .nl] [], []⟩,
  ⟨some 21, none, .mks 9 [.m 20], []⟩,
  ⟨some 22, none, .app 9 (.m 19) (.m 21), [(0, 0)]⟩,
  ⟨some 23, none, .nilck (.m 14), []⟩,
  ⟨some 24, none, .fa 5 (.m 23), []⟩,
  ⟨some 25, none, .fa 0 (.m 24), []⟩,
  ⟨none, none, .st 1 (.m 25) (.m 22), []⟩]))) (K [14, 15, 16, 17, 18, 19, 20, 21, 22, 23, 24, 25]))))
 (.seq (.regP [0, 1, 2, 3, 4, 5, 6, 7, 8, 9, 10, 11, 12, 13, 14, 15] [0, 1, 2, 3, 4, 5, 6, 7, 8, 9, 10, 11, 12, 13, 14, 15] [] [
  ⟨some 26, none, .mov (.s 0), []⟩,
  ⟨some 27, none, .mov (.s 0), []⟩,
  ⟨some 28, none, .nilck (.m 27), []⟩,
  ⟨some 29, none, .fa 5 (.m 28), []⟩,
  ⟨some 30, none, .fa 0 (.m 29), []⟩,
  ⟨some 31, none, .ld none 0 (.m 30), []⟩,
  ⟨some 32, none, .mov (.s 0), []⟩,
  ⟨some 33, none, .nilck (.m 32), []⟩,
  ⟨some 34, none, .fa 0 (.m 33), []⟩,
  ⟨some 35, none, .fa 1 (.m 34), []⟩,
  ⟨some 36, none, .ld none 0 (.m 35), []⟩,
  ⟨some 37, none, .slice 9 (.m 31) none (some (.m 36)) none, []⟩,
  ⟨some 38, none, .nilck (.m 26), []⟩,
  ⟨some 39, none, .fa 5 (.m 38), []⟩,
  ⟨some 40, none, .fa 0 (.m 39), []⟩,
  ⟨none, none, .st 1 (.m 40) (.m 37), []⟩]) (K [0, 2, 3, 4, 5, 6, 7, 8, 9, 10, 11, 12, 13, 14, 15, 16, 17, 18, 19, 20, 21, 22, 23, 24, 25])))⟩
def c25 : VFunc := ⟨1, [],
 (.seq (.reg false [
  ⟨some 4, none, .mov (.s 0), []⟩,
  ⟨some 5, none, .nilck (.m 4), []⟩,
  ⟨some 6, none, .fa 5 (.m 5), []⟩,
  ⟨some 7, none, .fa 0 (.m 6), []⟩,
  ⟨some 8, none, .ld none 0 (.m 7), []⟩,
  ⟨some 9, none, .len (.s 8), []⟩,
  ⟨some 10, none, .mov (.c (.d (.int .i64 0))), []⟩])
 (.block 0
 (.loop
 (.seq (.reg false [
  ⟨some 11, none, .bin .lss (.s 10) (.s 9), []⟩])
 (.seq (.cond (.m 11)
 .skip
 (.seq (K [0, 8, 9, 10]) (.exit 0)))
 (.seq (.block 1
 (.seq (.reg false [
  ⟨some 12, none, .mov (.s 10), []⟩,
  ⟨some 13, none, .ia 9 (.s 8) (.s 10), []⟩,
  ⟨some 14, none, .ld (some 9) 0 (.m 13), []⟩,
  ⟨some 3, none, .alloc [.d (.int .i64 0), .d (.int .u8 0), .d (.int .u8 0), .d (.int .i64 0), .nl, .nl, .nl, .nl, .nl], []⟩,
  ⟨some 2, none, .mov (.m 12), []⟩,
  ⟨none, none, .st 9 (.s 3) (.m 14), []⟩])
 (.seq (.seq (.reg true [
  ⟨some 15, none, .mov (.s 0), []⟩,
  ⟨some 16, none, .nilck (.m 15), []⟩,
  ⟨some 17, none, .fa 0 (.m 16), []⟩,
  ⟨some 18, none, .fa 0 (.m 17), []⟩,
  ⟨some 19, none, .ld none 0 (.m 18), []⟩,
  ⟨some 20, none, .ld (some 9) 0 (.s 3), []⟩,
  ⟨some 21, none, .call 43 [.m 19, .m 20], []⟩,
  ⟨some 22, none, .bin .neq (.m 21) (.c (.d (.int .i64 0))), []⟩,
  ⟨some 23, none, .mov (.m 22), []⟩,
  ⟨some 24, (some (23, false)), .mov (.s 0), []⟩,
  ⟨some 25, (some (23, false)), .nilck (.s 24), []⟩,
  ⟨some 26, (some (23, false)), .fa 4 (.s 25), []⟩,
  ⟨some 27, (some (23, false)), .ld none 0 (.s 26), []⟩,
  ⟨some 28, (some (23, false)), .mov (.s 2), []⟩,
  ⟨some 29, (some (23, false)), .ia 1 (.s 27) (.s 28), []⟩,
  ⟨some 30, (some (23, false)), .ld none 0 (.s 29), []⟩,
  ⟨some 31, (some (23, false)), .fa 1 (.s 3), []⟩,
  ⟨some 32, (some (23, false)), .fa 0 (.s 31), []⟩,
  ⟨some 33, (some (23, false)), .ld none 0 (.s 32), []⟩,
  ⟨some 34, (some (23, false)), .call 44 [.s 30, .s 33], []⟩,
  ⟨some 35, (some (23, false)), .un .not (.s 34), []⟩,
  ⟨some 36, none, .pick (.s 23) (.c (.d (.bool true))) (.m 35), []⟩]) (K [23, 24, 25, 26, 27, 28, 29, 30, 31, 32, 33, 34]))
 (.cond (.m 36)
 (.seq (.regP [0, 1, 2, 3, 4, 5, 6, 7, 8, 9, 10, 11, 12, 13] [0, 1, 2, 3, 4, 5, 6, 7, 8, 9, 10, 11, 12, 13] [4, 11] [
  ⟨some 37, none, .mov (.s 0), []⟩,
  ⟨some 38, none, .nilck (.m 37), []⟩,
  ⟨some 39, none, .fa 5 (.m 38), []⟩,
  ⟨some 40, none, .fa 0 (.m 39), []⟩,
  ⟨some 41, none, .ld none 0 (.m 40), []⟩,
  ⟨some 42, none, .mov (.s 2), []⟩,
  ⟨some 43, none, .mov (.s 0), []⟩,
  ⟨some 44, none, .mov (.s 2), []⟩,
  ⟨some 45, none, .fa 1 (.m 3), []⟩,
  ⟨some 46, none, .fa 1 (.m 45), []⟩,
  ⟨some 47, none, .ld none 0 (.m 46), []⟩,
  ⟨some 48, none, .calli 42 [.m 43, .m 44, .m 47], []⟩,
  ⟨some 49, none, .ia 9 (.m 41) (.m 42), []⟩,
  ⟨none, none, .st 9 (.m 49) (.m 48), []⟩]) (K [2]))
 (.seq (K [2, 3]) .skip)))))
 (.reg false [
  ⟨some 50, none, .bin .add (.m 10) (.c (.d (.int .i64 1))), []⟩,
  ⟨some 10, none, .mov (.m 50), []⟩,
  ⟨none, none, .kill [2, 3, 12, 13, 14, 15, 16, 17, 18, 19, 20, 21, 22, 23, 24, 25, 26, 27, 28, 29, 30, 31, 32, 33, 34, 35, 36, 37, 38, 39, 40, 41, 42, 43, 44, 45, 46, 47, 48, 49], []⟩])))))))⟩
def c26 : VFunc := ⟨1, [],
 (.seq (.reg false [
  ⟨some 5, none, .mov (.m 0), []⟩,
  ⟨some 6, none, .nilck (.m 5), []⟩,
  ⟨some 7, none, .fa 5 (.m 6), []⟩,
  ⟨some 2, none, .mov (.m 7), []⟩])
 (.seq (.reg false [
  ⟨some 8, none, .mov (.s 2), []⟩,
  ⟨some 9, none, .nilck (.m 8), []⟩,
  ⟨some 10, none, .fa 0 (.m 9), []⟩,
  ⟨some 11, none, .ld none 0 (.m 10), []⟩,
  ⟨some 12, none, .ia 9 (.m 11) (.c (.d (.int .i64 0))), []⟩,
  ⟨some 13, none, .fa 1 (.m 12), []⟩,
  ⟨some 14, none, .ld (some 4) 0 (.m 13), []⟩,
  ⟨some 3, none, .alloc [.d (.int .u8 0), .d (.int .u8 0), .d (.int .i64 0), .nl], []⟩,
  ⟨none, none, .st 4 (.s 3) (.m 14), []⟩])
 (.seq (.seq (.regP [0, 1, 2, 3, 4, 5, 6, 7, 8, 9, 10, 11, 12, 13, 14, 15, 16, 17, 18, 19, 20, 21, 22, 23, 24, 25, 26] [0, 1, 2, 3, 4, 5, 6, 7, 8, 9, 10, 11, 12, 13, 14, 15, 16, 17, 18, 19, 20, 21, 22, 23, 24, 25, 26] [] [
  ⟨some 15, none, .mov (.s 2), []⟩,
  ⟨some 16, none, .mov (.s 2), []⟩,
  ⟨some 17, none, .nilck (.m 16), []⟩,
  ⟨some 18, none, .fa 1 (.m 17), []⟩,
  ⟨some 19, none, .ld none 0 (.m 18), []⟩,
  ⟨some 20, none, .mov (.m 19), []⟩,
  ⟨some 21, (some (20, true)), .mov (.s 2), []⟩,
  ⟨some 22, (some (20, true)), .nilck (.s 21), []⟩,
  ⟨some 23, (some (20, true)), .fa 0 (.s 22), []⟩,
  ⟨some 24, (some (20, true)), .ld none 0 (.s 23), []⟩,
  ⟨some 25, (some (20, true)), .len (.s 24), []⟩,
  ⟨some 26, (some (20, true)), .bin .eql (.s 25) (.c (.d (.int .i64 2))), []⟩,
  ⟨some 27, none, .pick (.s 20) (.m 26) (.c (.d (.bool false))), []⟩,
  ⟨some 28, none, .mov (.m 27), []⟩,
  ⟨some 29, (some (28, true)), .ld (some 4) 0 (.s 3), []⟩,
  ⟨some 30, (some (28, true)), .mov (.s 2), []⟩,
  ⟨some 31, (some (28, true)), .nilck (.s 30), []⟩,
  ⟨some 32, (some (28, true)), .fa 0 (.s 31), []⟩,
  ⟨some 33, (some (28, true)), .ld none 0 (.s 32), []⟩,
  ⟨some 34, (some (28, true)), .ia 9 (.s 33) (.c (.d (.int .i64 1))), []⟩,
  ⟨some 35, (some (28, true)), .fa 1 (.s 34), []⟩,
  ⟨some 36, (some (28, true)), .ld (some 4) 0 (.s 35), []⟩,
  ⟨some 37, (some (28, true)), .call 45 [.s 29, .s 36], []⟩,
  ⟨some 38, none, .pick (.s 28) (.m 37) (.c (.d (.bool false))), []⟩,
  ⟨some 39, none, .nilck (.m 15), []⟩,
  ⟨some 40, none, .fa 1 (.m 39), []⟩,
  ⟨none, none, .st 1 (.m 40) (.m 38), []⟩]) (K [20, 21, 22, 23, 24, 25, 28, 29, 30, 31, 32, 33, 34, 35, 36]))
 (.seq (.reg false [
  ⟨some 41, none, .mkfn 46 [] [.s 3], []⟩,
  ⟨some 4, none, .mov (.m 41), []⟩])
 (.seq (.seq (.seq (.regP [0, 1, 2, 3, 4, 5, 6, 7, 8, 9, 10, 11, 12, 13, 14, 15, 16, 17, 18, 19, 20, 21, 22, 23, 24, 25, 26, 27, 28, 29, 30, 31, 32, 33, 34, 35, 36, 37, 38, 39, 40, 41, 42, 43, 44] [0, 1, 2, 3, 4, 5, 6, 7, 8, 9, 10, 11, 12, 13, 14, 15, 16, 17, 18, 19, 20, 21, 22, 23, 24, 25, 26, 27, 28, 29, 30, 31, 32, 33, 34, 35, 36, 37, 38, 39, 40, 41, 42, 43, 44] [] [
  ⟨some 42, none, .mov (.s 2), []⟩,
  ⟨some 43, none, .nilck (.m 42), []⟩,
  ⟨some 44, none, .fa 1 (.m 43), []⟩,
  ⟨some 45, none, .ld none 0 (.m 44), []⟩,
  ⟨some 46, none, .un .not (.m 45), []⟩,
  ⟨some 47, none, .mov (.m 46), []⟩,
  ⟨some 48, (some (47, false)), .mov (.s 2), []⟩,
  ⟨some 49, (some (47, false)), .nilck (.s 48), []⟩,
  ⟨some 50, (some (47, false)), .fa 2 (.s 49), []⟩,
  ⟨some 51, (some (47, false)), .ld none 0 (.s 50), []⟩,
  ⟨some 52, (some (47, false)), .bin .lss (.s 51) (.c (.d (.int .i64 0))), []⟩,
  ⟨some 53, none, .pick (.s 47) (.c (.d (.bool true))) (.m 52), []⟩,
  ⟨some 54, none, .mov (.m 53), []⟩,
  ⟨some 55, (some (54, false)), .mov (.s 2), []⟩,
  ⟨some 56, (some (54, false)), .nilck (.s 55), []⟩,
  ⟨some 57, (some (54, false)), .fa 2 (.s 56), []⟩,
  ⟨some 58, (some (54, false)), .ld none 0 (.s 57), []⟩,
  ⟨some 59, (some (54, false)), .bin .gtr (.s 58) (.c (.d (.int .i64 2))), []⟩,
  ⟨some 60, none, .pick (.s 54) (.c (.d (.bool true))) (.m 59), []⟩,
  ⟨some 61, none, .mov (.m 60), []⟩,
  ⟨some 62, (some (61, false)), .mov (.s 2), []⟩,
  ⟨some 63, (some (61, false)), .nilck (.s 62), []⟩,
  ⟨some 64, (some (61, false)), .fa 2 (.s 63), []⟩,
  ⟨some 65, (some (61, false)), .ld none 0 (.s 64), []⟩,
  ⟨some 66, (some (61, false)), .bin .eql (.s 65) (.c (.d (.int .i64 1))), []⟩,
  ⟨some 67, (some (61, false)), .mov (.s 66), []⟩,
  ⟨some 68, (some (67, true)), .mov (.s 2), []⟩,
  ⟨some 69, (some (67, true)), .nilck (.s 68), []⟩,
  ⟨some 70, (some (67, true)), .fa 3 (.s 69), []⟩,
  ⟨some 71, (some (67, true)), .ld none 0 (.s 70), []⟩,
  ⟨some 72, (some (67, true)), .len (.s 71), []⟩,
  ⟨some 73, (some (67, true)), .fa 3 (.s 3), []⟩,
  ⟨some 74, (some (67, true)), .ld none 0 (.s 73), []⟩,
  ⟨some 75, (some (67, true)), .len (.s 74), []⟩,
  ⟨some 76, (some (67, true)), .bin .neq (.s 72) (.s 75), []⟩,
  ⟨some 77, (some (67, true)), .mov (.s 76), []⟩,
  ⟨some 78, (some (77, false)), .mov (.s 2), []⟩,
  ⟨some 79, (some (77, false)), .nilck (.s 78), []⟩,
  ⟨some 80, (some (77, false)), .fa 3 (.s 79), []⟩,
  ⟨some 81, (some (77, false)), .ld none 0 (.s 80), []⟩,
  ⟨some 82, (some (77, false)), .mov (.s 4), []⟩,
  ⟨some 83, (some (77, false)), .calli 47 [.s 81, .s 82], []⟩,
  ⟨some 84, (some (67, true)), .pick (.s 77) (.c (.d (.bool true))) (.s 83), []⟩,
  ⟨some 85, (some (61, false)), .pick (.s 67) (.s 84) (.c (.d (.bool false))), []⟩,
  ⟨some 86, none, .pick (.s 61) (.c (.d (.bool true))) (.m 85), []⟩]) (K [3, 4, 47, 48, 49, 50, 51, 54, 55, 56, 57, 58, 61, 62, 63, 64, 65, 66, 67, 68, 69, 70, 71, 72, 73, 74, 75, 76, 77, 78, 79, 80, 81, 82, 83, 84]))
 (.cond (.m 86)
 (.reg false [
  ⟨some 87, none, .mov (.s 2), []⟩,
  ⟨some 88, none, .nilck (.m 87), []⟩,
  ⟨some 89, none, .fa 2 (.m 88), []⟩,
  ⟨none, none, .st 1 (.m 89) (.c (.d (.int .i64 0))), []⟩])
 .skip))
 (.seq (.reg false [
  ⟨some 90, none, .mov (.s 2), []⟩,
  ⟨some 91, none, .nilck (.m 90), []⟩,
  ⟨some 92, none, .fa 2 (.m 91), []⟩,
  ⟨some 93, none, .ld none 0 (.m 92), []⟩,
  ⟨some 94, none, .bin .neq (.m 93) (.c (.d (.int .i64 1))), []⟩])
 (.cond (.m 94)
 (.reg false [
  ⟨some 95, none, .mov (.m 2), []⟩,
  ⟨some 96, none, .nilck (.m 95), []⟩,
  ⟨some 97, none, .fa 3 (.m 96), []⟩,
  ⟨none, none, .st 1 (.m 97) (.c (.nl)), []⟩])
 (.seq (K [2]) .skip))))))))⟩
def c27 : VFunc := ⟨1, [],
 (.seq (.reg false [
  ⟨some 2, none, .mov (.s 0), []⟩,
  ⟨some 3, none, .nilck (.m 2), []⟩,
  ⟨some 4, none, .fa 5 (.m 3), []⟩,
  ⟨some 5, none, .fa 4 (.m 4), []⟩,
  ⟨some 6, none, .ld none 0 (.m 5), []⟩,
  ⟨some 7, none, .len (.m 6), []⟩,
  ⟨some 8, none, .bin .gtr (.m 7) (.c (.d (.int .i64 269))), []⟩])
 (.cond (.m 8)
 (.reg false [
  ⟨some 9, none, .mov (.m 0), []⟩,
  ⟨some 10, none, .nilck (.m 9), []⟩,
  ⟨some 11, none, .fa 5 (.m 10), []⟩,
  ⟨some 12, none, .fa 4 (.m 11), []⟩,
  ⟨none, none, .st 1 (.m 12) (.c (.nl)), []⟩])
 (.seq (K [0]) .skip)))⟩
def c28 : VFunc := ⟨1, [.tmp 2],
 (.seq (.reg false [
  ⟨some 1, none, .box (.m 0), []⟩,
  ⟨some 2, none, .mov (.c (.d (.bool false))), []⟩,
  ⟨none, none, .kill [2], []⟩])
 (.seq (.reg false [
  ⟨some 3, none, .fa 0 (.s 1), []⟩,
  ⟨some 4, none, .ld none 0 (.m 3), []⟩,
  ⟨some 5, none, .bin .geq (.m 4) (.c (.d (.int .i64 0))), []⟩,
  ⟨some 6, none, .mov (.m 5), []⟩,
  ⟨some 7, (some (6, true)), .fa 0 (.s 1), []⟩,
  ⟨some 8, (some (6, true)), .ld none 0 (.s 7), []⟩,
  ⟨some 9, (some (6, true)), .bin .leq (.s 8) (.c (.d (.int .i64 11))), []⟩,
  ⟨some 10, none, .pick (.m 6) (.m 9) (.c (.d (.bool false))), []⟩,
  ⟨some 11, none, .mov (.m 10), []⟩,
  ⟨some 12, (some (11, true)), .fa 1 (.s 1), []⟩,
  ⟨some 13, (some (11, true)), .ld none 0 (.s 12), []⟩,
  ⟨some 14, (some (11, true)), .bin .eql (.s 13) (.c (.d (.int .i64 1))), []⟩,
  ⟨some 15, (some (11, true)), .mov (.s 14), []⟩,
  ⟨some 16, (some (15, false)), .fa 1 (.s 1), []⟩,
  ⟨some 17, (some (15, false)), .ld none 0 (.s 16), []⟩,
  ⟨some 18, (some (15, false)), .bin .eql (.s 17) (.c (.d (.int .i64 2))), []⟩,
  ⟨some 19, (some (11, true)), .pick (.s 15) (.c (.d (.bool true))) (.s 18), []⟩,
  ⟨some 20, none, .pick (.m 11) (.m 19) (.c (.d (.bool false))), []⟩,
  ⟨some 2, none, .mov (.m 20), []⟩,
  ⟨none, none, .kill [1, 7, 8, 12, 13, 14, 15, 16, 17, 18], []⟩])
 .ret))⟩
def c29 : VFunc := ⟨2, [.tmp 4],
 (.seq (.reg false [
  ⟨some 2, none, .box (.m 0), []⟩,
  ⟨some 3, none, .box (.m 1), []⟩,
  ⟨some 4, none, .mov (.c (.d (.bool false))), []⟩,
  ⟨none, none, .kill [4], []⟩])
 (.seq (.seq (.reg false [
  ⟨some 6, none, .fa 0 (.s 3), []⟩,
  ⟨some 7, none, .ld none 0 (.m 6), []⟩,
  ⟨some 8, none, .len (.m 7), []⟩,
  ⟨some 9, none, .fa 1 (.s 2), []⟩,
  ⟨some 10, none, .ld none 0 (.m 9), []⟩,
  ⟨some 11, none, .bin .neq (.m 8) (.m 10), []⟩,
  ⟨some 12, none, .mov (.m 11), []⟩,
  ⟨some 13, (some (12, false)), .fa 4 (.s 3), []⟩,
  ⟨some 14, (some (12, false)), .ld none 0 (.s 13), []⟩,
  ⟨some 15, (some (12, false)), .len (.s 14), []⟩,
  ⟨some 16, (some (12, false)), .bin .gtr (.s 15) (.c (.d (.int .i64 269))), []⟩,
  ⟨some 17, none, .pick (.m 12) (.c (.d (.bool true))) (.m 16), []⟩,
  ⟨some 18, none, .mov (.m 17), []⟩,
  ⟨some 19, (some (18, false)), .fa 2 (.s 3), []⟩,
  ⟨some 20, (some (18, false)), .ld none 0 (.s 19), []⟩,
  ⟨some 21, (some (18, false)), .bin .lss (.s 20) (.c (.d (.int .i64 0))), []⟩,
  ⟨some 22, none, .pick (.m 18) (.c (.d (.bool true))) (.m 21), []⟩,
  ⟨some 23, none, .mov (.m 22), []⟩,
  ⟨some 24, (some (23, false)), .fa 2 (.s 3), []⟩,
  ⟨some 25, (some (23, false)), .ld none 0 (.s 24), []⟩,
  ⟨some 26, (some (23, false)), .bin .gtr (.s 25) (.c (.d (.int .i64 2))), []⟩,
  ⟨some 27, none, .pick (.m 23) (.c (.d (.bool true))) (.m 26), []⟩,
  ⟨none, none, .kill [13, 14, 15, 19, 20, 24, 25], []⟩])
 (.cond (.m 27)
 (.seq (K [2, 3]) (.seq (.reg false [
  ⟨some 4, none, .mov (.c (.d (.bool false))), []⟩])
 .ret))
 .skip))
 (.seq (.seq (.reg false [
  ⟨some 28, none, .fa 0 (.s 3), []⟩,
  ⟨some 29, none, .ld none 0 (.m 28), []⟩,
  ⟨some 30, none, .mkfn 49 [] [.s 2], []⟩,
  ⟨some 31, none, .calli 48 [.m 29, .m 30], []⟩])
 (.cond (.m 31)
 (.seq (K [2, 3]) (.seq (.reg false [
  ⟨some 4, none, .mov (.c (.d (.bool false))), []⟩])
 .ret))
 .skip))
 (.seq (.reg false [
  ⟨some 32, none, .fa 0 (.s 3), []⟩,
  ⟨some 33, none, .ld none 0 (.m 32), []⟩,
  ⟨some 34, none, .ia 9 (.m 33) (.c (.d (.int .i64 0))), []⟩,
  ⟨some 35, none, .fa 1 (.m 34), []⟩,
  ⟨some 36, none, .ld (some 4) 0 (.m 35), []⟩,
  ⟨some 5, none, .alloc [.d (.int .u8 0), .d (.int .u8 0), .d (.int .i64 0), .nl], []⟩,
  ⟨none, none, .st 4 (.s 5) (.m 36), []⟩])
 (.seq (.block 0
 (.seq (.reg false [
  ⟨some 38, none, .fa 1 (.s 3), []⟩,
  ⟨some 39, none, .ld none 0 (.m 38), []⟩,
  ⟨some 40, none, .un .not (.m 39), []⟩,
  ⟨some 37, none, .mov (.m 40), []⟩])
 (.cond (.m 37)
 (.seq (K [2, 5]) (.seq (.reg false [
  ⟨some 41, none, .fa 2 (.s 3), []⟩,
  ⟨some 42, none, .ld none 0 (.m 41), []⟩,
  ⟨some 43, none, .bin .eql (.m 42) (.c (.d (.int .i64 0))), []⟩,
  ⟨some 44, none, .mov (.m 43), []⟩,
  ⟨some 45, (some (44, true)), .fa 3 (.s 3), []⟩,
  ⟨some 46, (some (44, true)), .ld none 0 (.s 45), []⟩,
  ⟨some 47, (some (44, true)), .len (.s 46), []⟩,
  ⟨some 48, (some (44, true)), .bin .eql (.s 47) (.c (.d (.int .i64 0))), []⟩,
  ⟨some 49, none, .pick (.m 44) (.m 48) (.c (.d (.bool false))), []⟩,
  ⟨some 4, none, .mov (.m 49), []⟩,
  ⟨none, none, .kill [3, 45, 46, 47], []⟩])
 .ret))
 (.seq (.seq (.reg true [
  ⟨some 51, none, .fa 1 (.m 2), []⟩,
  ⟨some 52, none, .ld none 0 (.m 51), []⟩,
  ⟨some 53, none, .bin .eql (.m 52) (.c (.d (.int .i64 1))), []⟩,
  ⟨some 54, none, .mov (.m 53), []⟩,
  ⟨some 55, (some (54, false)), .ld (some 4) 0 (.s 5), []⟩,
  ⟨some 56, (some (54, false)), .fa 0 (.s 3), []⟩,
  ⟨some 57, (some (54, false)), .ld none 0 (.s 56), []⟩,
  ⟨some 58, (some (54, false)), .ia 9 (.s 57) (.c (.d (.int .i64 1))), []⟩,
  ⟨some 59, (some (54, false)), .fa 1 (.s 58), []⟩,
  ⟨some 60, (some (54, false)), .ld (some 4) 0 (.s 59), []⟩,
  ⟨some 61, (some (54, false)), .call 45 [.s 55, .s 60], []⟩,
  ⟨some 62, (some (54, false)), .un .not (.s 61), []⟩,
  ⟨some 63, none, .pick (.s 54) (.c (.d (.bool true))) (.m 62), []⟩,
  ⟨some 50, none, .mov (.m 63), []⟩]) (K [54, 55, 56, 57, 58, 59, 60, 61]))
 (.cond (.m 50)
 (.seq (K [3, 5]) (.seq (.reg false [
  ⟨some 4, none, .mov (.c (.d (.bool false))), []⟩])
 .ret))
 (.seq (.reg false [
  ⟨some 65, none, .fa 2 (.s 3), []⟩,
  ⟨some 66, none, .ld none 0 (.m 65), []⟩,
  ⟨some 67, none, .bin .neq (.m 66) (.c (.d (.int .i64 1))), []⟩,
  ⟨some 64, none, .mov (.m 67), []⟩])
 (.cond (.m 64)
 (.seq (K [5]) (.seq (.reg false [
  ⟨some 68, none, .fa 3 (.m 3), []⟩,
  ⟨some 69, none, .ld none 0 (.m 68), []⟩,
  ⟨some 70, none, .len (.m 69), []⟩,
  ⟨some 71, none, .bin .eql (.m 70) (.c (.d (.int .i64 0))), []⟩,
  ⟨some 4, none, .mov (.m 71), []⟩])
 .ret))
 .skip)))))))
 (.seq (.reg false [
  ⟨some 72, none, .fa 3 (.s 3), []⟩,
  ⟨some 73, none, .ld none 0 (.m 72), []⟩,
  ⟨some 74, none, .len (.m 73), []⟩,
  ⟨some 75, none, .fa 3 (.s 5), []⟩,
  ⟨some 76, none, .ld none 0 (.m 75), []⟩,
  ⟨some 77, none, .len (.m 76), []⟩,
  ⟨some 78, none, .bin .eql (.m 74) (.m 77), []⟩,
  ⟨some 79, none, .mov (.m 78), []⟩,
  ⟨some 80, (some (79, true)), .fa 3 (.s 3), []⟩,
  ⟨some 81, (some (79, true)), .ld none 0 (.s 80), []⟩,
  ⟨some 82, (some (79, true)), .mkfn 50 [] [.s 5], []⟩,
  ⟨some 83, (some (79, true)), .calli 47 [.s 81, .s 82], []⟩,
  ⟨some 84, (some (79, true)), .un .not (.s 83), []⟩,
  ⟨some 85, none, .pick (.m 79) (.m 84) (.c (.d (.bool false))), []⟩,
  ⟨some 4, none, .mov (.m 85), []⟩,
  ⟨none, none, .kill [3, 5, 37, 38, 39, 40, 41, 42, 43, 44, 45, 46, 47, 48, 49, 50, 51, 52, 53, 54, 55, 56, 57, 58, 59, 60, 61, 62, 63, 64, 65, 66, 67, 68, 69, 70, 71, 80, 81, 82, 83], []⟩])
 .ret))))))⟩
def c30 : VFunc := ⟨2, [.cell 4 none],
 (.seq (.reg false [
  ⟨some 2, none, .box (.m 0), []⟩,
  ⟨some 3, none, .box (.m 1), []⟩,
  ⟨some 4, none, .alloc [.nl], []⟩])
 (.seq (.reg false [
  ⟨some 13, none, .mkfn 51 [] [.s 4], []⟩,
  ⟨some 5, none, .mov (.m 13), []⟩])
 (.seq (.seq (.reg false [
  ⟨some 14, none, .fa 1 (.s 2), []⟩,
  ⟨some 15, none, .ld none 0 (.m 14), []⟩])
 (.block 0
 (.seq (.reg false [
  ⟨some 57, none, .bin .eql (.m 15) (.c (.d (.int .i64 1))), []⟩,
  ⟨some 56, none, .mov (.m 57), []⟩])
 (.cond (.m 56)
 (.seq (.reg false [
  ⟨some 58, none, .mov (.s 5), []⟩,
  ⟨some 59, none, .callv (.m 58) [.c (.d (.int .i64 0)), .c (.d (.int .i64 3))], []⟩,
  ⟨none, none, .kill [59], []⟩])
 (.reg false [
  ⟨some 60, none, .mov (.s 5), []⟩,
  ⟨some 61, none, .callv (.m 60) [.c (.d (.int .i64 0)), .c (.d (.int .i64 4))], []⟩,
  ⟨none, none, .kill [61], []⟩]))
 (.seq (.reg false [
  ⟨some 16, none, .mov (.s 5), []⟩,
  ⟨some 17, none, .callv (.m 16) [.c (.d (.int .i64 1)), .c (.d (.int .i64 3))], []⟩,
  ⟨none, none, .kill [17], []⟩])
 (.seq (.reg false [
  ⟨some 18, none, .mov (.s 5), []⟩,
  ⟨some 19, none, .callv (.m 18) [.c (.d (.int .i64 0)), .c (.d (.int .i64 4))], []⟩,
  ⟨none, none, .kill [19], []⟩])
 (.seq (.reg false [
  ⟨some 20, none, .mov (.s 5), []⟩,
  ⟨some 21, none, .fa 1 (.s 3), []⟩,
  ⟨some 22, none, .ld none 0 (.m 21), []⟩,
  ⟨some 23, none, .call 53 [.m 22], []⟩,
  ⟨some 24, none, .callv (.m 20) [.m 23, .c (.d (.int .i64 1))], []⟩,
  ⟨none, none, .kill [24], []⟩])
 (.seq (.reg false [
  ⟨some 25, none, .fa 1 (.s 3), []⟩,
  ⟨some 26, none, .ld none 0 (.m 25), []⟩])
 (.cond (.m 26)
 (.seq (.seq (.regP [0, 1, 2, 3, 4, 5, 6, 7, 8, 9, 10, 11, 12] [0, 1, 2, 3, 4, 5, 6, 7, 8, 9, 10, 12, 11] [] [
  ⟨some 28, none, .ld none 0 (.s 4), []⟩,
  ⟨some 29, none, .fa 0 (.s 2), []⟩,
  ⟨some 30, none, .ld none 0 (.m 29), []⟩,
  ⟨some 31, none, .fa 0 (.s 3), []⟩,
  ⟨some 32, none, .ld none 0 (.m 31), []⟩,
  ⟨some 33, none, .ia 9 (.m 32) (.c (.d (.int .i64 0))), []⟩,
  ⟨some 34, none, .fa 1 (.m 33), []⟩,
  ⟨some 35, none, .ld (some 4) 0 (.m 34), []⟩,
  ⟨some 36, none, .call 54 [.m 28, .m 30, .m 35], []⟩,
  ⟨some 27, none, .mov (.m 36), []⟩,
  ⟨some 37, none, .ext 27 true 0, []⟩,
  ⟨some 38, none, .ext 27 false 1, []⟩,
  ⟨none, none, .st 1 (.s 4) (.m 37), []⟩]) (K [27, 38]))
 (.seq (.reg false [
  ⟨some 39, none, .mov (.s 5), []⟩,
  ⟨some 40, none, .fa 2 (.s 3), []⟩,
  ⟨some 41, none, .ld none 0 (.m 40), []⟩,
  ⟨some 42, none, .callv (.m 39) [.m 41, .c (.d (.int .i64 2))], []⟩,
  ⟨none, none, .kill [42], []⟩])
 (.seq (.reg false [
  ⟨some 43, none, .fa 3 (.s 3), []⟩,
  ⟨some 44, none, .ld none 0 (.m 43), []⟩,
  ⟨some 45, none, .call 55 [.m 44], []⟩,
  ⟨some 46, none, .len (.s 45), []⟩,
  ⟨some 47, none, .mov (.c (.d (.int .i64 0))), []⟩])
 (.block 1
 (.loop
 (.seq (.reg false [
  ⟨some 48, none, .bin .lss (.s 47) (.s 46), []⟩])
 (.seq (.cond (.m 48)
 .skip
 (.seq (K [45, 46, 47]) (.exit 1)))
 (.seq (.block 2
 (.seq (.reg false [
  ⟨some 49, none, .ia 1 (.s 45) (.s 47), []⟩,
  ⟨some 50, none, .ld none 0 (.m 49), []⟩,
  ⟨some 7, none, .mov (.m 50), []⟩])
 (.reg false [
  ⟨some 51, none, .mov (.s 5), []⟩,
  ⟨some 52, none, .mov (.m 7), []⟩,
  ⟨some 53, none, .call 53 [.m 52], []⟩,
  ⟨some 54, none, .callv (.m 51) [.m 53, .c (.d (.int .i64 1))], []⟩,
  ⟨none, none, .kill [54], []⟩])))
 (.reg false [
  ⟨some 55, none, .bin .add (.m 47) (.c (.d (.int .i64 1))), []⟩,
  ⟨some 47, none, .mov (.m 55), []⟩,
  ⟨none, none, .kill [7, 49, 50, 51, 52, 53, 54], []⟩])))))))))
 .skip)))))))))
 (.seq (.seq (.reg false [
  ⟨some 62, none, .fa 0 (.s 3), []⟩,
  ⟨some 63, none, .ld none 0 (.m 62), []⟩,
  ⟨some 64, none, .len (.s 63), []⟩,
  ⟨some 65, none, .mov (.c (.d (.int .i64 0))), []⟩,
  ⟨none, none, .kill [7, 16, 17, 18, 19, 20, 21, 22, 23, 24, 25, 26, 27, 28, 29, 30, 31, 32, 33, 34, 35, 36, 37, 38, 39, 40, 41, 42, 43, 44, 45, 46, 47, 48, 49, 50, 51, 52, 53, 54, 55, 56, 57, 58, 59, 60, 61], []⟩])
 (.block 3
 (.loop
 (.seq (.reg false [
  ⟨some 66, none, .bin .lss (.s 65) (.s 64), []⟩])
 (.seq (.cond (.m 66)
 .skip
 (.seq (K [2, 63, 64, 65]) (.exit 3)))
 (.seq (.block 4
 (.seq (.reg false [
  ⟨some 67, none, .ia 9 (.s 63) (.s 65), []⟩,
  ⟨some 68, none, .ld (some 9) 0 (.m 67), []⟩,
  ⟨some 9, none, .alloc [.d (.int .i64 0), .d (.int .u8 0), .d (.int .u8 0), .d (.int .i64 0), .nl, .nl, .nl, .nl, .nl], []⟩,
  ⟨none, none, .st 9 (.s 9) (.m 68), []⟩])
 (.reg false [
  ⟨some 70, none, .ld none 0 (.s 4), []⟩,
  ⟨some 71, none, .fa 0 (.s 2), []⟩,
  ⟨some 72, none, .ld none 0 (.m 71), []⟩,
  ⟨some 73, none, .ld (some 9) 1 (.m 9), []⟩,
  ⟨some 74, none, .fa 1 (.s 3), []⟩,
  ⟨some 75, none, .ld none 0 (.m 74), []⟩,
  ⟨some 76, none, .call 56 [.m 70, .m 72, .m 73, .m 75], []⟩,
  ⟨some 69, none, .mov (.m 76), []⟩,
  ⟨some 77, none, .ext 69 true 0, []⟩,
  ⟨some 78, none, .ext 69 false 1, []⟩,
  ⟨none, none, .st 1 (.s 4) (.m 77), []⟩,
  ⟨none, none, .kill [78], []⟩])))
 (.reg false [
  ⟨some 79, none, .bin .add (.m 65) (.c (.d (.int .i64 1))), []⟩,
  ⟨some 65, none, .mov (.m 79), []⟩,
  ⟨none, none, .kill [9, 67, 68, 69, 70, 71, 72, 73, 74, 75, 76, 77, 78], []⟩])))))))
 (.seq (.seq (.reg false [
  ⟨some 80, none, .fa 4 (.s 3), []⟩,
  ⟨some 81, none, .ld none 0 (.m 80), []⟩,
  ⟨some 82, none, .len (.m 81), []⟩,
  ⟨some 10, none, .mov (.m 82), []⟩,
  ⟨none, none, .kill [2, 9, 63, 64, 65, 66, 67, 68, 69, 70, 71, 72, 73, 74, 75, 76, 77, 78, 79], []⟩])
 (.seq (.reg false [
  ⟨some 83, none, .mov (.s 10), []⟩,
  ⟨some 84, none, .bin .gtr (.m 83) (.c (.d (.int .i64 0))), []⟩])
 (.cond (.m 84)
 (.seq (.reg false [
  ⟨some 85, none, .mov (.s 5), []⟩,
  ⟨some 86, none, .callv (.m 85) [.c (.d (.int .i64 6)), .c (.d (.int .i64 3))], []⟩,
  ⟨none, none, .kill [86], []⟩])
 (.seq (.reg false [
  ⟨some 87, none, .mov (.s 5), []⟩,
  ⟨some 88, none, .mov (.s 10), []⟩,
  ⟨some 89, none, .minmax false [.m 88, .c (.d (.int .i64 15))], []⟩,
  ⟨some 90, none, .callv (.m 87) [.m 89, .c (.d (.int .i64 4))], []⟩,
  ⟨none, none, .kill [90], []⟩])
 (.seq (.seq (.reg false [
  ⟨some 91, none, .mov (.s 10), []⟩,
  ⟨some 92, none, .bin .geq (.m 91) (.c (.d (.int .i64 15))), []⟩])
 (.cond (.m 92)
 (.reg false [
  ⟨some 93, none, .mov (.s 5), []⟩,
  ⟨some 94, none, .mov (.m 10), []⟩,
  ⟨some 95, none, .bin .sub (.m 94) (.c (.d (.int .i64 14))), []⟩,
  ⟨some 96, none, .callv (.m 93) [.m 95, .c (.d (.int .i64 8))], []⟩,
  ⟨none, none, .kill [96], []⟩])
 (.seq (K [10]) .skip)))
 (.seq (.reg false [
  ⟨some 98, none, .fa 4 (.m 3), []⟩,
  ⟨some 99, none, .ld none 0 (.m 98), []⟩,
  ⟨some 100, none, .call 57 [.m 99], []⟩,
  ⟨some 97, none, .mov (.m 100), []⟩,
  ⟨some 101, none, .ext 97 true 0, []⟩,
  ⟨some 102, none, .ext 97 false 1, []⟩,
  ⟨some 11, none, .mov (.m 101), []⟩,
  ⟨some 12, none, .mov (.m 102), []⟩,
  ⟨none, none, .kill [12], []⟩])
 (.reg false [
  ⟨some 103, none, .ld none 1 (.s 4), []⟩,
  ⟨some 104, none, .mov (.m 11), []⟩,
  ⟨some 105, none, .app 1 (.m 103) (.m 104), []⟩,
  ⟨none, none, .st 1 (.s 4) (.m 105), []⟩])))))
 (.seq (K [3, 10]) .skip))))
 (.seq (.reg false [
  ⟨some 106, none, .mov (.m 5), []⟩,
  ⟨some 107, none, .callv (.m 106) [.c (.d (.int .i64 7)), .c (.d (.int .i64 3))], []⟩,
  ⟨none, none, .kill [107], []⟩])
 (.seq (.reg false [
  ⟨some 108, none, .ld none 2 (.s 4), []⟩,
  ⟨some 109, none, .ld none 0 (.s 4), []⟩,
  ⟨some 110, none, .len (.m 109), []⟩,
  ⟨some 111, none, .bin .rem (.m 110) (.c (.d (.int .i64 8))), []⟩,
  ⟨some 112, none, .bin .sub (.c (.d (.int .i64 8))) (.m 111), []⟩,
  ⟨some 113, none, .bin .rem (.m 112) (.c (.d (.int .i64 8))), []⟩,
  ⟨some 114, none, .appz [.int .u8 0] (.m 108) (.m 113), []⟩,
  ⟨none, none, .st 1 (.s 4) (.m 114), []⟩])
 .ret)))))))⟩
def c36 : VFunc := ⟨1, [.cell 2 (some 4)],
 (.seq (.reg false [
  ⟨some 1, none, .box (.m 0), []⟩,
  ⟨some 2, none, .alloc [.d (.int .u8 0), .d (.int .u8 0), .d (.int .i64 0), .nl], []⟩])
 (.seq (.reg false [
  ⟨some 3, none, .fa 3 (.s 1), []⟩,
  ⟨some 4, none, .ld none 0 (.m 3), []⟩,
  ⟨some 5, none, .call 40 [.m 4], [(0, 0)]⟩,
  ⟨some 6, none, .fa 3 (.s 1), []⟩,
  ⟨none, none, .st 1 (.m 6) (.m 5), []⟩])
 (.seq (.reg false [
  ⟨some 7, none, .ld (some 4) 1 (.m 1), []⟩,
  ⟨none, none, .st 4 (.s 2) (.m 7), []⟩])
 .ret)))⟩
def c40 : VFunc := ⟨1, [.tmp 2],
 (.clone 1)⟩
def c41 : VFunc := ⟨2, [.tmp 4],
 (.seq (.reg false [
  ⟨some 2, none, .box (.m 0), []⟩,
  ⟨some 3, none, .box (.m 1), []⟩,
  ⟨some 4, none, .mov (.c (.d (.int .i64 0))), []⟩,
  ⟨none, none, .kill [4], []⟩])
 (.seq (.reg false [
  ⟨some 8, none, .ld (some 4) 0 (.s 2), []⟩,
  ⟨some 9, none, .ld (some 5) 1 (.m 3), []⟩,
  ⟨some 10, none, .call 14 [.m 8, .m 9], []⟩,
  ⟨some 7, none, .mov (.m 10), []⟩,
  ⟨some 11, none, .ext 7 false 0, []⟩,
  ⟨some 12, none, .ext 7 false 1, []⟩,
  ⟨some 5, none, .mov (.m 11), []⟩,
  ⟨some 6, none, .mov (.m 12), []⟩])
 (.seq (.seq (.reg false [
  ⟨some 13, none, .mov (.s 6), []⟩,
  ⟨some 14, none, .bin .eql (.m 13) (.c (.d (.int .i64 0))), []⟩,
  ⟨some 15, none, .mov (.m 14), []⟩,
  ⟨some 16, (some (15, true)), .mov (.s 5), []⟩,
  ⟨some 17, (some (15, true)), .fa 1 (.s 2), []⟩,
  ⟨some 18, (some (15, true)), .ld none 0 (.s 17), []⟩,
  ⟨some 19, (some (15, true)), .bin .mul (.c (.d (.int .i64 1536))) (.s 18), []⟩,
  ⟨some 20, (some (15, true)), .bin .gtr (.s 16) (.s 19), []⟩,
  ⟨some 21, none, .pick (.m 15) (.m 20) (.c (.d (.bool false))), []⟩,
  ⟨none, none, .kill [2, 5, 16, 17, 18, 19], []⟩])
 (.cond (.m 21)
 (.seq (K [6]) (.reg false [
  ⟨some 6, none, .mov (.c (.d (.int .i64 9))), []⟩]))
 .skip))
 (.seq (.reg false [
  ⟨some 22, none, .mov (.m 6), []⟩,
  ⟨some 4, none, .mov (.m 22), []⟩])
 .ret))))⟩
def c42 : VFunc := ⟨3, [.cell 6 (some 9)],
 (.seq (.reg false [
  ⟨some 6, none, .alloc [.d (.int .i64 0), .d (.int .u8 0), .d (.int .u8 0), .d (.int .i64 0), .nl, .nl, .nl, .nl, .nl], []⟩])
 (.seq (.reg false [
  ⟨some 11, none, .mks 1 [.c (.d (.int .i64 1))], []⟩,
  ⟨some 12, none, .build [.d (.int .u8 0), .d (.int .u8 0), .d (.int .i64 0), .nl] [(0, 1, .c (.d (.int .u8 0))), (3, 1, .m 11)], []⟩,
  ⟨some 7, none, .alloc [.d (.int .u8 0), .d (.int .u8 0), .d (.int .i64 0), .nl], []⟩,
  ⟨none, none, .st 4 (.s 7) (.m 12), []⟩])
 (.seq (.seq (.reg false [
  ⟨some 13, none, .mov (.s 0), []⟩,
  ⟨some 14, none, .nilck (.m 13), []⟩,
  ⟨some 15, none, .fa 4 (.m 14), []⟩,
  ⟨some 16, none, .ld none 0 (.m 15), []⟩,
  ⟨some 17, none, .mov (.m 1), []⟩,
  ⟨some 18, none, .ia 1 (.m 16) (.m 17), []⟩,
  ⟨some 19, none, .ld none 0 (.m 18), []⟩,
  ⟨some 8, none, .mov (.m 19), []⟩])
 (.seq (.reg false [
  ⟨some 20, none, .mov (.s 8), []⟩,
  ⟨some 21, none, .bin .eql (.m 20) (.c (.d (.int .u8 1))), []⟩,
  ⟨some 22, none, .mov (.m 21), []⟩,
  ⟨some 23, (some (22, false)), .mov (.s 8), []⟩,
  ⟨some 24, (some (22, false)), .bin .eql (.s 23) (.c (.d (.int .u8 2))), []⟩,
  ⟨some 25, none, .pick (.m 22) (.c (.d (.bool true))) (.m 24), []⟩,
  ⟨none, none, .kill [8, 23], []⟩])
 (.cond (.m 25)
 (.reg false [
  ⟨some 26, none, .fa 0 (.s 7), []⟩,
  ⟨none, none, .st 1 (.m 26) (.c (.d (.int .u8 3))), []⟩])
 .skip)))
 (.seq (.seq (.reg false [
  ⟨some 27, none, .mov (.s 2), []⟩,
  ⟨some 28, none, .bin .leq (.m 27) (.c (.d (.int .u8 1))), []⟩])
 (.cond (.m 28)
 (.reg false [
  ⟨some 29, none, .mov (.m 2), []⟩,
  ⟨some 30, none, .fa 1 (.s 7), []⟩,
  ⟨none, none, .st 1 (.m 30) (.m 29), []⟩])
 (.seq (K [2]) .skip)))
 (.seq (.seq (.regP [0, 1, 2, 3, 4, 5, 6, 7, 8, 9, 10, 11, 12] [0, 1, 2, 3, 4, 5, 6, 7, 8, 10, 11, 9, 12] [] [
  ⟨some 32, none, .mov (.m 0), []⟩,
  ⟨some 33, none, .nilck (.m 32), []⟩,
  ⟨some 34, none, .fa 0 (.m 33), []⟩,
  ⟨some 35, none, .fa 0 (.m 34), []⟩,
  ⟨some 36, none, .ld none 0 (.m 35), []⟩,
  ⟨some 37, none, .ld (some 4) 2 (.m 7), []⟩,
  ⟨some 38, none, .call 75 [.m 36, .m 37], []⟩,
  ⟨some 31, none, .mov (.m 38), []⟩,
  ⟨some 39, none, .ext 31 true 0, []⟩,
  ⟨some 40, none, .ext 31 false 1, []⟩,
  ⟨some 9, none, .alloc [.d (.int .i64 0), .d (.int .u8 0), .d (.int .u8 0), .d (.int .i64 0), .nl, .nl, .nl, .nl, .nl], []⟩,
  ⟨none, none, .st 9 (.s 9) (.m 39), []⟩,
  ⟨some 10, none, .mov (.m 40), []⟩]) (K [10, 31]))
 (.seq (.reg false [
  ⟨some 41, none, .ld (some 9) 1 (.m 9), []⟩,
  ⟨none, none, .st 9 (.s 6) (.m 41), []⟩])
 .ret))))))⟩
def c43 : VFunc := ⟨2, [.tmp 4],
 (.seq (.reg false [
  ⟨some 2, none, .box (.m 0), []⟩,
  ⟨some 3, none, .box (.m 1), []⟩,
  ⟨some 4, none, .mov (.c (.d (.int .i64 0))), []⟩,
  ⟨none, none, .kill [4], []⟩])
 (.seq (.seq (.reg false [
  ⟨some 10, none, .ld none 0 (.s 2), []⟩,
  ⟨some 11, none, .fa 1 (.s 3), []⟩,
  ⟨some 12, none, .ld (some 4) 0 (.m 11), []⟩,
  ⟨some 13, none, .call 76 [.m 10, .m 12], []⟩,
  ⟨some 5, none, .mov (.m 13), []⟩])
 (.seq (.reg false [
  ⟨some 14, none, .mov (.s 5), []⟩,
  ⟨some 15, none, .bin .neq (.m 14) (.c (.d (.int .i64 0))), []⟩])
 (.cond (.m 15)
 (.seq (K [2, 3]) (.seq (.reg false [
  ⟨some 16, none, .mov (.m 5), []⟩,
  ⟨some 4, none, .mov (.m 16), []⟩])
 .ret))
 (.seq (K [5]) .skip))))
 (.seq (.reg false [
  ⟨some 18, none, .fa 1 (.s 3), []⟩,
  ⟨some 19, none, .ld (some 4) 0 (.m 18), []⟩,
  ⟨some 20, none, .call 77 [.m 19], []⟩,
  ⟨some 17, none, .mov (.m 20), []⟩,
  ⟨some 21, none, .ext 17 false 0, []⟩,
  ⟨some 22, none, .ext 17 false 1, []⟩,
  ⟨some 6, none, .alloc [.d (.int .i64 0)], []⟩,
  ⟨none, none, .st 1 (.s 6) (.m 21), []⟩,
  ⟨some 7, none, .mov (.m 22), []⟩,
  ⟨none, none, .kill [7], []⟩])
 (.seq (.seq (.reg false [
  ⟨some 23, none, .mkfn 78 [] [.s 3], []⟩,
  ⟨some 24, none, .mkfn 79 [] [.s 3], []⟩,
  ⟨some 25, none, .mkfn 81 [] [.s 3], []⟩,
  ⟨some 26, none, .mkfn 83 [] [.s 3, .s 6], []⟩,
  ⟨some 27, none, .mkfn 85 [] [.m 2, .m 3, .m 6], []⟩,
  ⟨some 28, none, .mksv 1 [.m 23, .m 24, .m 25, .m 26, .m 27], []⟩,
  ⟨some 29, none, .len (.s 28), []⟩,
  ⟨some 30, none, .mov (.c (.d (.int .i64 0))), []⟩])
 (.block 0
 (.loop
 (.seq (.reg false [
  ⟨some 31, none, .bin .lss (.s 30) (.s 29), []⟩])
 (.seq (.cond (.m 31)
 .skip
 (.seq (K [28, 29, 30]) (.exit 0)))
 (.seq (.block 1
 (.seq (.reg false [
  ⟨some 32, none, .ia 1 (.s 28) (.s 30), []⟩,
  ⟨some 33, none, .ld none 0 (.m 32), []⟩,
  ⟨some 9, none, .mov (.m 33), []⟩])
 (.seq (.reg false [
  ⟨some 34, none, .mov (.m 9), []⟩,
  ⟨some 35, none, .callv (.m 34) [], []⟩,
  ⟨some 36, none, .un .not (.m 35), []⟩])
 (.cond (.m 36)
 (.seq (K [28, 29, 30]) (.seq (.reg false [
  ⟨some 4, none, .mov (.c (.d (.int .i64 8))), []⟩])
 .ret))
 .skip))))
 (.reg false [
  ⟨some 37, none, .bin .add (.m 30) (.c (.d (.int .i64 1))), []⟩,
  ⟨some 30, none, .mov (.m 37), []⟩,
  ⟨none, none, .kill [4, 9, 32, 33, 34, 35, 36], []⟩])))))))
 (.seq (.reg false [
  ⟨some 4, none, .mov (.c (.d (.int .i64 0))), []⟩,
  ⟨none, none, .kill [9, 28, 29, 30, 31, 32, 33, 34, 35, 36, 37], []⟩])
 .ret)))))⟩
def c48 : VFunc := ⟨2, [.tmp 4],
 (.seq (.reg false [
  ⟨some 4, none, .mov (.c (.d (.bool false))), []⟩,
  ⟨none, none, .kill [4], []⟩])
 (.seq (.reg false [
  ⟨some 5, none, .mov (.m 0), []⟩,
  ⟨some 6, none, .mov (.m 1), []⟩,
  ⟨some 7, none, .calli 90 [.m 5, .m 6], []⟩,
  ⟨some 8, none, .bin .geq (.m 7) (.c (.d (.int .i64 0))), []⟩,
  ⟨some 4, none, .mov (.m 8), []⟩])
 .ret))⟩
def c49 : VFunc := ⟨2, [.tmp 3],
 (.seq (.reg false [
  ⟨some 2, none, .box (.m 0), []⟩,
  ⟨some 3, none, .mov (.c (.d (.bool false))), []⟩,
  ⟨none, none, .kill [3], []⟩])
 (.seq (.reg false [
  ⟨some 4, none, .fa 0 (.m 1), []⟩,
  ⟨some 5, none, .ld none 0 (.m 4), []⟩,
  ⟨some 6, none, .ld (some 9) 1 (.m 2), []⟩,
  ⟨some 7, none, .call 43 [.m 5, .m 6], []⟩,
  ⟨some 8, none, .bin .neq (.m 7) (.c (.d (.int .i64 0))), []⟩,
  ⟨some 3, none, .mov (.m 8), []⟩])
 .ret))⟩
def c51 : VFunc := ⟨3, [],
 (.reg false [
  ⟨some 6, none, .ld none 0 (.s 2), []⟩,
  ⟨some 7, none, .mov (.m 0), []⟩,
  ⟨some 8, none, .mov (.m 1), []⟩,
  ⟨some 9, none, .call 52 [.m 6, .m 7, .m 8], []⟩,
  ⟨some 5, none, .mov (.m 9), []⟩,
  ⟨some 10, none, .ext 5 true 0, []⟩,
  ⟨some 11, none, .ext 5 false 1, []⟩,
  ⟨none, none, .st 1 (.m 2) (.m 10), []⟩,
  ⟨none, none, .kill [11], []⟩])⟩
def c52 : VFunc := ⟨3, [.tmp 6, .tmp 7],
 (.seq (.reg false [
  ⟨some 6, none, .mov (.c (.nl)), []⟩,
  ⟨some 7, none, .mov (.c (.d (.int .i64 0))), []⟩,
  ⟨none, none, .kill [6, 7], []⟩])
 (.seq (.seq (.reg false [
  ⟨some 8, none, .mov (.s 2), []⟩,
  ⟨some 9, none, .call 91 [.m 8], []⟩,
  ⟨some 10, none, .un .not (.m 9), []⟩,
  ⟨some 11, none, .mov (.m 10), []⟩,
  ⟨some 12, (some (11, false)), .mov (.s 1), []⟩,
  ⟨some 13, (some (11, false)), .bin .lss (.s 12) (.c (.d (.int .i64 0))), []⟩,
  ⟨some 14, none, .pick (.m 11) (.c (.d (.bool true))) (.m 13), []⟩,
  ⟨some 15, none, .mov (.m 14), []⟩,
  ⟨some 16, (some (15, false)), .mov (.s 1), []⟩,
  ⟨some 17, (some (15, false)), .mov (.s 2), []⟩,
  ⟨some 18, (some (15, false)), .bin .shr (.s 16) (.s 17), []⟩,
  ⟨some 19, (some (15, false)), .bin .neq (.s 18) (.c (.d (.int .i64 0))), []⟩,
  ⟨some 20, none, .pick (.m 15) (.c (.d (.bool true))) (.m 19), []⟩,
  ⟨none, none, .kill [12, 16, 17, 18], []⟩])
 (.cond (.m 20)
 (.seq (K [0, 1, 2]) (.seq (.reg false [
  ⟨some 6, none, .mov (.c (.nl)), []⟩,
  ⟨some 7, none, .mov (.c (.d (.int .i64 2))), []⟩])
 .ret))
 .skip))
 (.seq (.reg false [
  ⟨some 21, none, .mov (.m 0), []⟩,
  ⟨some 22, none, .call 20 [.m 21], []⟩,
  ⟨some 23, none, .mov (.m 1), []⟩,
  ⟨some 24, none, .mov (.m 2), []⟩,
  ⟨some 25, none, .calli 93 [.m 23, .m 24], []⟩,
  ⟨some 26, none, .calli 92 [.m 22, .m 25], []⟩,
  ⟨some 6, none, .mov (.m 26), []⟩,
  ⟨some 7, none, .mov (.c (.d (.int .i64 0))), []⟩])
 .ret)))⟩
def c54 : VFunc := ⟨3, [.tmp 6, .tmp 7],
 (.seq (.reg false [
  ⟨some 3, none, .box (.m 0), []⟩,
  ⟨some 5, none, .box (.m 2), []⟩,
  ⟨some 6, none, .mov (.c (.nl)), []⟩,
  ⟨some 7, none, .mov (.c (.d (.int .i64 0))), []⟩,
  ⟨none, none, .kill [6, 7], []⟩])
 (.seq (.seq (.reg false [
  ⟨some 15, none, .mov (.m 1), []⟩,
  ⟨some 16, none, .ld (some 4) 0 (.s 5), []⟩,
  ⟨some 17, none, .call 76 [.m 15, .m 16], []⟩,
  ⟨some 8, none, .mov (.m 17), []⟩])
 (.seq (.reg false [
  ⟨some 18, none, .mov (.s 8), []⟩,
  ⟨some 19, none, .bin .neq (.m 18) (.c (.d (.int .i64 0))), []⟩])
 (.cond (.m 19)
 (.seq (K [3, 5]) (.seq (.reg false [
  ⟨some 20, none, .mov (.m 8), []⟩,
  ⟨some 6, none, .mov (.c (.nl)), []⟩,
  ⟨some 7, none, .mov (.m 20), []⟩])
 .ret))
 (.seq (K [8]) .skip))))
 (.seq (.reg false [
  ⟨some 21, none, .mkfn 94 [] [.s 3], []⟩,
  ⟨some 9, none, .mov (.m 21), []⟩])
 (.seq (.reg false [
  ⟨some 22, none, .mov (.s 9), []⟩,
  ⟨some 23, none, .callv (.m 22) [.c (.d (.int .i64 0)), .c (.d (.int .i64 1))], []⟩,
  ⟨none, none, .kill [23], []⟩])
 (.seq (.reg false [
  ⟨some 24, none, .mov (.s 9), []⟩,
  ⟨some 25, none, .fa 0 (.s 5), []⟩,
  ⟨some 26, none, .ld none 0 (.m 25), []⟩,
  ⟨some 27, none, .conv .i64 (.m 26), []⟩,
  ⟨some 28, none, .callv (.m 24) [.m 27, .c (.d (.int .i64 2))], []⟩,
  ⟨none, none, .kill [28], []⟩])
 (.seq (.reg false [
  ⟨some 29, none, .mov (.s 9), []⟩,
  ⟨some 30, none, .fa 1 (.s 5), []⟩,
  ⟨some 31, none, .ld none 0 (.m 30), []⟩,
  ⟨some 32, none, .conv .i64 (.m 31), []⟩,
  ⟨some 33, none, .callv (.m 29) [.m 32, .c (.d (.int .i64 1))], []⟩,
  ⟨none, none, .kill [33], []⟩])
 (.seq (.seq (.reg false [
  ⟨some 34, none, .fa 0 (.s 5), []⟩,
  ⟨some 35, none, .ld none 0 (.m 34), []⟩,
  ⟨some 36, none, .bin .neq (.m 35) (.c (.d (.int .u8 2))), []⟩])
 (.cond (.m 36)
 (.seq (.reg false [
  ⟨some 37, none, .mov (.s 9), []⟩,
  ⟨some 38, none, .fa 2 (.m 5), []⟩,
  ⟨some 39, none, .ld none 0 (.m 38), []⟩,
  ⟨some 40, none, .callv (.m 37) [.m 39, .c (.d (.int .i64 6))], []⟩,
  ⟨none, none, .kill [40], []⟩])
 (.seq (.reg false [
  ⟨some 41, none, .mov (.m 9), []⟩,
  ⟨some 42, none, .callv (.m 41) [.c (.d (.int .i64 0)), .c (.d (.int .i64 1))], []⟩,
  ⟨none, none, .kill [42], []⟩])
 (.seq (.reg false [
  ⟨some 43, none, .ld none 1 (.m 3), []⟩,
  ⟨some 6, none, .mov (.m 43), []⟩,
  ⟨some 7, none, .mov (.c (.d (.int .i64 0))), []⟩])
 .ret)))
 .skip))
 (.seq (.reg false [
  ⟨some 44, none, .mov (.s 9), []⟩,
  ⟨some 45, none, .fa 2 (.s 5), []⟩,
  ⟨some 46, none, .ld none 0 (.m 45), []⟩,
  ⟨some 47, none, .callv (.m 44) [.m 46, .c (.d (.int .i64 4))], []⟩,
  ⟨none, none, .kill [47], []⟩])
 (.seq (.seq (.reg false [
  ⟨some 10, none, .mov (.c (.d (.int .i64 1))), []⟩])
 (.block 0
 (.loop
 (.seq (.seq (.reg false [
  ⟨some 48, none, .mov (.s 10), []⟩,
  ⟨some 49, none, .bin .lss (.m 48) (.c (.d (.int .i64 8))), []⟩])
 (.cond (.m 49)
 .skip
 (.seq (K [5, 9, 10]) (.exit 0))))
 (.seq (.block 1
 (.seq (.reg false [
  ⟨some 53, none, .ld (some 4) 0 (.s 5), []⟩,
  ⟨some 54, none, .mov (.s 10), []⟩,
  ⟨some 55, none, .bin .sub (.m 54) (.c (.d (.int .i64 1))), []⟩,
  ⟨some 56, none, .call 95 [.m 53, .m 55], []⟩,
  ⟨some 52, none, .mov (.m 56), []⟩,
  ⟨some 57, none, .ext 52 false 0, []⟩,
  ⟨some 58, none, .ext 52 false 1, []⟩,
  ⟨some 11, none, .mov (.m 57), []⟩,
  ⟨some 12, none, .mov (.m 58), []⟩,
  ⟨none, none, .kill [12], []⟩])
 (.seq (.reg false [
  ⟨some 60, none, .ld (some 4) 0 (.s 5), []⟩,
  ⟨some 61, none, .mov (.s 10), []⟩,
  ⟨some 62, none, .call 95 [.m 60, .m 61], []⟩,
  ⟨some 59, none, .mov (.m 62), []⟩,
  ⟨some 63, none, .ext 59 false 0, []⟩,
  ⟨some 64, none, .ext 59 false 1, []⟩,
  ⟨some 13, none, .mov (.m 63), []⟩,
  ⟨some 14, none, .mov (.m 64), []⟩,
  ⟨none, none, .kill [14], []⟩])
 (.seq (.reg false [
  ⟨some 65, none, .mov (.m 11), []⟩,
  ⟨some 66, none, .mov (.m 13), []⟩,
  ⟨some 67, none, .bin .eql (.m 65) (.m 66), []⟩])
 (.cond (.m 67)
 (.reg false [
  ⟨some 68, none, .mov (.s 9), []⟩,
  ⟨some 69, none, .callv (.m 68) [.c (.d (.int .i64 1)), .c (.d (.int .i64 1))], []⟩,
  ⟨none, none, .kill [69], []⟩])
 (.reg false [
  ⟨some 70, none, .mov (.s 9), []⟩,
  ⟨some 71, none, .callv (.m 70) [.c (.d (.int .i64 0)), .c (.d (.int .i64 1))], []⟩,
  ⟨none, none, .kill [71], []⟩]))))))
 (.reg false [
  ⟨some 50, none, .mov (.m 10), []⟩,
  ⟨some 51, none, .bin .add (.m 50) (.c (.d (.int .i64 1))), []⟩,
  ⟨some 10, none, .mov (.m 51), []⟩,
  ⟨none, none, .kill [11, 12, 13, 14, 52, 53, 54, 55, 56, 57, 58, 59, 60, 61, 62, 63, 64, 65, 66, 67, 68, 69, 70, 71], []⟩]))))))
 (.seq (.reg false [
  ⟨some 72, none, .ld none 1 (.m 3), []⟩,
  ⟨some 6, none, .mov (.m 72), []⟩,
  ⟨some 7, none, .mov (.c (.d (.int .i64 0))), []⟩,
  ⟨none, none, .kill [5, 9, 10, 11, 12, 13, 14, 48, 49, 50, 51, 52, 53, 54, 55, 56, 57, 58, 59, 60, 61, 62, 63, 64, 65, 66, 67, 68, 69, 70, 71], []⟩])
 .ret))))))))))⟩
def c56 : VFunc := ⟨4, [.tmp 8, .tmp 9],
 (.seq (.reg false [
  ⟨some 6, none, .box (.m 2), []⟩,
  ⟨some 8, none, .mov (.c (.nl)), []⟩,
  ⟨some 9, none, .mov (.c (.d (.int .i64 0))), []⟩,
  ⟨none, none, .kill [8, 9], []⟩])
 (.seq (.seq (.reg false [
  ⟨some 16, none, .mov (.s 1), []⟩,
  ⟨some 17, none, .ld (some 9) 0 (.s 6), []⟩,
  ⟨some 18, none, .call 43 [.m 16, .m 17], []⟩,
  ⟨some 10, none, .mov (.m 18), []⟩])
 (.seq (.reg false [
  ⟨some 19, none, .mov (.s 10), []⟩,
  ⟨some 20, none, .bin .neq (.m 19) (.c (.d (.int .i64 0))), []⟩])
 (.cond (.m 20)
 (.seq (K [0, 1, 3, 6]) (.seq (.reg false [
  ⟨some 21, none, .mov (.m 10), []⟩,
  ⟨some 8, none, .mov (.c (.nl)), []⟩,
  ⟨some 9, none, .mov (.m 21), []⟩])
 .ret))
 (.seq (K [10]) .skip))))
 (.seq (.reg false [
  ⟨some 23, none, .mov (.m 0), []⟩,
  ⟨some 24, none, .fa 0 (.s 6), []⟩,
  ⟨some 25, none, .ld none 0 (.m 24), []⟩,
  ⟨some 26, none, .call 52 [.m 23, .m 25, .c (.d (.int .i64 8))], []⟩,
  ⟨some 22, none, .mov (.m 26), []⟩,
  ⟨some 27, none, .ext 22 true 0, []⟩,
  ⟨some 28, none, .ext 22 false 1, []⟩,
  ⟨some 0, none, .mov (.m 27), []⟩,
  ⟨none, none, .kill [28], []⟩])
 (.seq (.seq (.reg false [
  ⟨some 29, none, .mov (.m 3), []⟩,
  ⟨some 30, none, .un .not (.m 29), []⟩])
 (.cond (.m 30)
 (.reg false [
  ⟨some 32, none, .mov (.m 0), []⟩,
  ⟨some 33, none, .mov (.s 1), []⟩,
  ⟨some 34, none, .fa 1 (.s 6), []⟩,
  ⟨some 35, none, .ld (some 4) 0 (.m 34), []⟩,
  ⟨some 36, none, .call 54 [.m 32, .m 33, .m 35], []⟩,
  ⟨some 31, none, .mov (.m 36), []⟩,
  ⟨some 37, none, .ext 31 true 0, []⟩,
  ⟨some 38, none, .ext 31 false 1, []⟩,
  ⟨some 0, none, .mov (.m 37), []⟩,
  ⟨none, none, .kill [38], []⟩])
 .skip))
 (.seq (.reg false [
  ⟨some 40, none, .mov (.m 0), []⟩,
  ⟨some 41, none, .fa 1 (.s 6), []⟩,
  ⟨some 42, none, .ld (some 4) 0 (.m 41), []⟩,
  ⟨some 43, none, .fa 5 (.s 6), []⟩,
  ⟨some 44, none, .ld none 0 (.m 43), []⟩,
  ⟨some 45, none, .call 97 [.m 40, .m 42, .m 44], []⟩,
  ⟨some 39, none, .mov (.m 45), []⟩,
  ⟨some 46, none, .ext 39 true 0, []⟩,
  ⟨some 47, none, .ext 39 false 1, []⟩,
  ⟨some 0, none, .mov (.m 46), []⟩,
  ⟨none, none, .kill [47], []⟩])
 (.seq (.reg false [
  ⟨some 49, none, .mov (.m 0), []⟩,
  ⟨some 50, none, .fa 0 (.s 6), []⟩,
  ⟨some 51, none, .ld none 0 (.m 50), []⟩,
  ⟨some 52, none, .fa 5 (.s 6), []⟩,
  ⟨some 53, none, .ld none 0 (.m 52), []⟩,
  ⟨some 54, none, .fa 6 (.s 6), []⟩,
  ⟨some 55, none, .ld none 0 (.m 54), []⟩,
  ⟨some 56, none, .call 98 [.m 49, .m 51, .m 53, .m 55], []⟩,
  ⟨some 48, none, .mov (.m 56), []⟩,
  ⟨some 57, none, .ext 48 true 0, []⟩,
  ⟨some 58, none, .ext 48 false 1, []⟩,
  ⟨some 0, none, .mov (.m 57), []⟩,
  ⟨none, none, .kill [58], []⟩])
 (.seq (.seq (.reg false [
  ⟨some 59, none, .fa 7 (.s 6), []⟩,
  ⟨some 60, none, .ld none 0 (.m 59), []⟩,
  ⟨some 61, none, .call 99 [.m 60], []⟩])
 (.cond (.m 61)
 (.seq (.seq (.regP [0, 1, 2, 3, 4, 5, 6, 7, 8, 9, 10, 11] [0, 1, 2, 3, 4, 5, 6, 7, 8, 9, 11, 10] [] [
  ⟨some 63, none, .mov (.m 0), []⟩,
  ⟨some 64, none, .mks 1 [.c (.d (.int .u8 0)), .c (.d (.int .u8 1))], []⟩,
  ⟨some 65, none, .app 1 (.m 63) (.m 64), []⟩,
  ⟨some 66, none, .fa 1 (.s 6), []⟩,
  ⟨some 67, none, .ld (some 4) 0 (.m 66), []⟩,
  ⟨some 68, none, .fa 7 (.s 6), []⟩,
  ⟨some 69, none, .ld none 0 (.m 68), []⟩,
  ⟨some 70, none, .call 100 [.m 65, .m 67, .m 69], []⟩,
  ⟨some 62, none, .mov (.m 70), []⟩,
  ⟨some 71, none, .ext 62 true 0, []⟩,
  ⟨some 72, none, .ext 62 false 1, []⟩,
  ⟨some 0, none, .mov (.m 71), []⟩]) (K [62, 72]))
 (.reg false [
  ⟨some 73, none, .mov (.m 0), []⟩,
  ⟨some 74, none, .mks 1 [.c (.d (.int .u8 0))], []⟩,
  ⟨some 75, none, .app 1 (.m 73) (.m 74), []⟩,
  ⟨some 0, none, .mov (.m 75), []⟩]))
 (.reg false [
  ⟨some 76, none, .mov (.m 0), []⟩,
  ⟨some 77, none, .mks 1 [.c (.d (.int .u8 0)), .c (.d (.int .u8 0)), .c (.d (.int .u8 0))], []⟩,
  ⟨some 78, none, .app 1 (.m 76) (.m 77), []⟩,
  ⟨some 0, none, .mov (.m 78), []⟩])))
 (.seq (.reg false [
  ⟨some 79, none, .build [.d (.int .i64 0), .d (.int .i64 0), .nl, .nl, .d (.int .i64 0), .d (.int .i64 0), .nl, .nl, .d (.int .i64 0), .d (.int .i64 0), .nl, .nl, .d (.int .i64 0), .d (.int .i64 0), .nl, .nl, .d (.int .i64 0), .d (.int .i64 0), .nl, .nl, .d (.int .i64 0), .d (.int .i64 0), .nl, .nl, .d (.int .i64 0), .d (.int .i64 0), .nl, .nl, .d (.int .i64 0), .d (.int .i64 0), .nl, .nl, .d (.int .i64 0), .d (.int .i64 0), .nl, .nl, .d (.int .i64 0), .d (.int .i64 0), .nl, .nl, .d (.int .i64 0), .d (.int .i64 0), .nl, .nl, .d (.int .i64 0), .d (.int .i64 0), .nl, .nl] [], []⟩,
  ⟨some 80, none, .box (.m 79), []⟩,
  ⟨some 11, none, .alloc [.nilp], []⟩,
  ⟨none, none, .st 1 (.s 11) (.m 80), []⟩])
 (.seq (.reg false [
  ⟨some 12, none, .alloc [.nl], []⟩])
 (.seq (.seq (.reg false [
  ⟨some 81, none, .mov (.m 1), []⟩,
  ⟨some 82, none, .fa 1 (.s 6), []⟩,
  ⟨some 83, none, .ld (some 4) 0 (.m 82), []⟩,
  ⟨some 84, none, .fa 5 (.s 6), []⟩,
  ⟨some 85, none, .ld none 0 (.m 84), []⟩,
  ⟨some 86, none, .calli 101 [.m 81, .m 83, .m 85], []⟩])
 (.block 0
 (.rangeF (.m 86) [87]
 (.reg false [
  ⟨some 13, none, .alloc [.d (.int .i64 0), .d (.int .i64 0), .d (.int .i64 0)], []⟩,
  ⟨none, none, .st 3 (.s 13) (.m 87), []⟩,
  ⟨none, none, .kill [0], []⟩])
 (.block 1
 (.seq (.seq (.regP [0, 1, 2, 4, 5, 6, 7, 8, 9, 10, 3, 11, 12, 13, 14, 15, 16] [0, 1, 2, 3, 4, 5, 6, 7, 8, 9, 10, 11, 12, 13, 15, 14, 16] [3, 5, 7, 9, 10] [
  ⟨some 89, none, .ld none 0 (.m 11), []⟩,
  ⟨some 90, none, .fa 0 (.s 13), []⟩,
  ⟨some 91, none, .ld none 0 (.m 90), []⟩,
  ⟨some 92, none, .calli 103 [.m 89, .m 91], []⟩,
  ⟨some 93, none, .fa 8 (.m 6), []⟩,
  ⟨some 94, none, .ld none 0 (.m 93), []⟩,
  ⟨some 95, none, .fa 1 (.s 13), []⟩,
  ⟨some 96, none, .ld none 0 (.m 95), []⟩,
  ⟨some 97, none, .fa 2 (.s 13), []⟩,
  ⟨some 98, none, .ld none 0 (.m 97), []⟩,
  ⟨some 99, none, .slice 1 (.m 94) (some (.m 96)) (some (.m 98)) none, []⟩,
  ⟨some 100, none, .call 102 [.c (.nl), .m 92, .m 99], []⟩,
  ⟨some 88, none, .mov (.m 100), []⟩,
  ⟨some 101, none, .ext 88 true 0, []⟩,
  ⟨some 102, none, .ext 88 false 1, []⟩,
  ⟨some 14, none, .mov (.m 101), []⟩,
  ⟨some 15, none, .mov (.m 102), []⟩]) (K [13, 15, 88]))
 (.reg false [
  ⟨some 103, none, .ld none 1 (.s 12), []⟩,
  ⟨some 104, none, .mov (.m 14), []⟩,
  ⟨some 105, none, .app 1 (.m 103) (.m 104), []⟩,
  ⟨none, none, .st 1 (.m 12) (.m 105), []⟩]))))))
 (.seq (.reg false [
  ⟨some 106, none, .mov (.m 0), []⟩,
  ⟨some 107, none, .ld none 1 (.m 12), []⟩,
  ⟨some 108, none, .app 1 (.m 106) (.m 107), []⟩,
  ⟨some 8, none, .mov (.m 108), []⟩,
  ⟨some 9, none, .mov (.c (.d (.int .i64 0))), []⟩,
  ⟨none, none, .kill [6, 11, 13, 14, 15, 86, 88, 89, 90, 91, 92, 93, 94, 95, 96, 97, 98, 99, 100, 101, 102, 103, 104, 105], []⟩])
 .ret)))))))))))⟩
def c75 : VFunc := ⟨2, [.cell 4 (some 9), .tmp 5],
 (.seq (.reg false [
  ⟨some 3, none, .box (.m 1), []⟩,
  ⟨some 4, none, .alloc [.d (.int .i64 0), .d (.int .u8 0), .d (.int .u8 0), .d (.int .i64 0), .nl, .nl, .nl, .nl, .nl], []⟩,
  ⟨some 5, none, .mov (.c (.d (.int .i64 0))), []⟩,
  ⟨none, none, .kill [5], []⟩])
 (.seq (.seq (.reg false [
  ⟨some 11, none, .mov (.m 0), []⟩,
  ⟨some 12, none, .ld (some 4) 0 (.s 3), []⟩,
  ⟨some 13, none, .call 76 [.m 11, .m 12], []⟩,
  ⟨some 6, none, .mov (.m 13), []⟩])
 (.seq (.reg false [
  ⟨some 14, none, .mov (.s 6), []⟩,
  ⟨some 15, none, .bin .neq (.m 14) (.c (.d (.int .i64 0))), []⟩])
 (.cond (.m 15)
 (.seq (K [3]) (.seq (.reg false [
  ⟨some 16, none, .build [.d (.int .i64 0), .d (.int .u8 0), .d (.int .u8 0), .d (.int .i64 0), .nl, .nl, .nl, .nl, .nl] [], []⟩,
  ⟨some 17, none, .mov (.m 6), []⟩,
  ⟨none, none, .st 9 (.s 4) (.m 16), []⟩,
  ⟨some 5, none, .mov (.m 17), []⟩])
 .ret))
 (.seq (K [6]) .skip))))
 (.seq (.reg false [
  ⟨some 19, none, .ld (some 4) 0 (.s 3), []⟩,
  ⟨some 20, none, .call 77 [.m 19], []⟩,
  ⟨some 18, none, .mov (.m 20), []⟩,
  ⟨some 21, none, .ext 18 false 0, []⟩,
  ⟨some 22, none, .ext 18 false 1, []⟩,
  ⟨some 7, none, .mov (.m 21), []⟩,
  ⟨some 8, none, .mov (.m 22), []⟩,
  ⟨none, none, .kill [8], []⟩])
 (.seq (.seq (.regP [0, 1, 2, 3, 4, 5, 6, 7] [0, 1, 2, 3, 4, 5, 6, 7] [] [
  ⟨some 23, none, .ld (some 4) 0 (.s 3), []⟩,
  ⟨some 24, none, .call 36 [.m 23], []⟩,
  ⟨some 25, none, .mov (.m 7), []⟩,
  ⟨some 26, none, .mkslice [.lst []] (.s 25) (.s 25), []⟩,
  ⟨some 27, none, .mkslice [.int .i64 0] (.c (.d (.int .i64 256))) (.c (.d (.int .i64 256))), []⟩,
  ⟨some 28, none, .build [.d (.int .i64 0), .d (.int .u8 0), .d (.int .u8 0), .d (.int .i64 0), .nl, .nl, .nl, .nl, .nl] [(1, 4, .m 24), (7, 1, .m 26), (8, 1, .m 27)], []⟩,
  ⟨some 9, none, .alloc [.d (.int .i64 0), .d (.int .u8 0), .d (.int .u8 0), .d (.int .i64 0), .nl, .nl, .nl, .nl, .nl], []⟩,
  ⟨none, none, .st 9 (.s 9) (.m 28), []⟩]) (K [25]))
 (.seq (.seq (.reg false [
  ⟨some 29, none, .fa 3 (.s 3), []⟩,
  ⟨some 30, none, .ld none 0 (.m 29), []⟩,
  ⟨some 31, none, .len (.m 30), []⟩,
  ⟨some 32, none, .mov (.c (.d (.int .i64 0))), []⟩])
 (.block 0
 (.loop
 (.seq (.reg false [
  ⟨some 33, none, .bin .lss (.s 32) (.s 31), []⟩])
 (.seq (.cond (.m 33)
 .skip
 (.seq (K [3, 31, 32]) (.exit 0)))
 (.seq (.block 1
 (.seq (.reg false [
  ⟨some 10, none, .mov (.c (.nl)), []⟩])
 (.seq (.seq (.reg false [
  ⟨some 34, none, .fa 2 (.s 3), []⟩,
  ⟨some 35, none, .ld none 0 (.m 34), []⟩,
  ⟨some 36, none, .bin .gtr (.m 35) (.c (.d (.int .i64 0))), []⟩])
 (.cond (.m 36)
 (.seq (K [10]) (.reg false [
  ⟨some 37, none, .fa 2 (.s 3), []⟩,
  ⟨some 38, none, .ld none 0 (.m 37), []⟩,
  ⟨some 39, none, .build [.d (.int .i64 0), .d (.int .i64 0)] [(1, 1, .m 38)], []⟩,
  ⟨some 40, none, .mks 2 [.m 39], []⟩,
  ⟨some 10, none, .mov (.m 40), []⟩]))
 .skip))
 (.seq (.regP [0, 1, 2, 3, 4, 5, 6, 7, 8, 9, 10, 11, 12, 13, 14, 15] [0, 1, 2, 3, 4, 5, 6, 7, 8, 9, 10, 11, 12, 13, 14, 15] [1, 6] [
  ⟨some 41, none, .fa 5 (.s 9), []⟩,
  ⟨some 42, none, .ld none 2 (.m 41), []⟩,
  ⟨some 43, none, .mov (.m 10), []⟩,
  ⟨some 44, none, .mks 1 [.m 43], []⟩,
  ⟨some 45, none, .app 1 (.m 42) (.m 44), []⟩,
  ⟨some 46, none, .fa 6 (.s 9), []⟩,
  ⟨some 47, none, .ld none 2 (.m 46), []⟩,
  ⟨some 48, none, .fa 2 (.s 3), []⟩,
  ⟨some 49, none, .ld none 0 (.m 48), []⟩,
  ⟨some 50, none, .mkslice [.int .i64 0] (.s 49) (.s 49), []⟩,
  ⟨some 51, none, .mks 1 [.m 50], []⟩,
  ⟨some 52, none, .app 1 (.m 47) (.m 51), []⟩,
  ⟨some 53, none, .fa 5 (.s 9), []⟩,
  ⟨none, none, .st 1 (.m 53) (.m 45), []⟩,
  ⟨some 54, none, .fa 6 (.s 9), []⟩,
  ⟨none, none, .st 1 (.m 54) (.m 52), []⟩]) (K [49])))))
 (.reg false [
  ⟨some 55, none, .bin .add (.m 32) (.c (.d (.int .i64 1))), []⟩,
  ⟨some 32, none, .mov (.m 55), []⟩,
  ⟨none, none, .kill [10, 34, 35, 36, 37, 38, 39, 40, 41, 42, 43, 44, 45, 46, 47, 48, 49, 50, 51, 52, 53, 54], []⟩])))))))
 (.seq (.reg false [
  ⟨some 56, none, .ld (some 9) 1 (.m 9), []⟩,
  ⟨none, none, .st 9 (.s 4) (.m 56), []⟩,
  ⟨some 5, none, .mov (.c (.d (.int .i64 0))), []⟩,
  ⟨none, none, .kill [3, 10, 31, 32, 33, 34, 35, 36, 37, 38, 39, 40, 41, 42, 43, 44, 45, 46, 47, 48, 49, 50, 51, 52, 53, 54, 55], []⟩])
 .ret))))))⟩
def c76 : VFunc := ⟨2, [.tmp 4],
 (.seq (.reg false [
  ⟨some 3, none, .box (.m 1), []⟩,
  ⟨some 4, none, .mov (.c (.d (.int .i64 0))), []⟩,
  ⟨none, none, .kill [4], []⟩])
 (.seq (.reg false [
  ⟨some 8, none, .mov (.m 0), []⟩,
  ⟨some 9, none, .fa 0 (.s 3), []⟩,
  ⟨some 10, none, .ld none 0 (.m 9), []⟩,
  ⟨some 11, none, .bin .eql (.m 10) (.c (.d (.int .u8 2))), []⟩,
  ⟨some 12, none, .call 105 [.m 8, .m 11], []⟩,
  ⟨some 7, none, .mov (.m 12), []⟩,
  ⟨some 13, none, .ext 7 false 0, []⟩,
  ⟨some 14, none, .ext 7 false 1, []⟩,
  ⟨some 5, none, .mov (.m 13), []⟩,
  ⟨some 6, none, .mov (.m 14), []⟩])
 (.seq (.seq (.reg false [
  ⟨some 15, none, .mov (.s 6), []⟩,
  ⟨some 16, none, .bin .neq (.m 15) (.c (.d (.int .i64 0))), []⟩])
 (.cond (.m 16)
 (.seq (K [3, 5]) (.seq (.reg false [
  ⟨some 17, none, .mov (.m 6), []⟩,
  ⟨some 4, none, .mov (.m 17), []⟩])
 .ret))
 (.seq (K [6]) .skip)))
 (.seq (.seq (.reg false [
  ⟨some 18, none, .fa 0 (.s 3), []⟩,
  ⟨some 19, none, .ld none 0 (.m 18), []⟩,
  ⟨some 20, none, .bin .gtr (.m 19) (.c (.d (.int .u8 3))), []⟩,
  ⟨some 21, none, .mov (.m 20), []⟩,
  ⟨some 22, (some (21, false)), .fa 1 (.s 3), []⟩,
  ⟨some 23, (some (21, false)), .ld none 0 (.s 22), []⟩,
  ⟨some 24, (some (21, false)), .bin .gtr (.s 23) (.c (.d (.int .u8 1))), []⟩,
  ⟨some 25, none, .pick (.m 21) (.c (.d (.bool true))) (.m 24), []⟩,
  ⟨some 26, none, .mov (.m 25), []⟩,
  ⟨some 27, (some (26, false)), .fa 2 (.s 3), []⟩,
  ⟨some 28, (some (26, false)), .ld none 0 (.s 27), []⟩,
  ⟨some 29, (some (26, false)), .bin .lss (.s 28) (.c (.d (.int .i64 0))), []⟩,
  ⟨some 30, none, .pick (.m 26) (.c (.d (.bool true))) (.m 29), []⟩,
  ⟨some 31, none, .mov (.m 30), []⟩,
  ⟨some 32, (some (31, false)), .fa 2 (.s 3), []⟩,
  ⟨some 33, (some (31, false)), .ld none 0 (.s 32), []⟩,
  ⟨some 34, (some (31, false)), .mov (.s 5), []⟩,
  ⟨some 35, (some (31, false)), .bin .gtr (.s 33) (.s 34), []⟩,
  ⟨some 36, none, .pick (.m 31) (.c (.d (.bool true))) (.m 35), []⟩,
  ⟨some 37, none, .mov (.m 36), []⟩,
  ⟨some 38, (some (37, false)), .ld (some 4) 0 (.s 3), []⟩,
  ⟨some 39, (some (37, false)), .call 121 [.s 38], []⟩,
  ⟨some 40, (some (37, false)), .un .not (.s 39), []⟩,
  ⟨some 41, none, .pick (.m 37) (.c (.d (.bool true))) (.m 40), []⟩,
  ⟨none, none, .kill [3, 5, 22, 23, 27, 28, 32, 33, 34, 38, 39], []⟩])
 (.cond (.m 41)
 (.seq (.reg false [
  ⟨some 4, none, .mov (.c (.d (.int .i64 8))), []⟩])
 .ret)
 .skip))
 (.seq (.reg false [
  ⟨some 4, none, .mov (.c (.d (.int .i64 0))), []⟩])
 .ret)))))⟩
def c77 : VFunc := ⟨1, [.tmp 2, .tmp 3],
 (.seq (.reg false [
  ⟨some 1, none, .box (.m 0), []⟩,
  ⟨some 2, none, .mov (.c (.d (.int .i64 0))), []⟩,
  ⟨some 3, none, .mov (.c (.d (.int .i64 0))), []⟩,
  ⟨none, none, .kill [2, 3], []⟩])
 (.seq (.block 0
 (.seq (.reg false [
  ⟨some 5, none, .ld (some 4) 0 (.s 1), []⟩,
  ⟨some 6, none, .call 122 [.m 5], []⟩,
  ⟨some 7, none, .un .not (.m 6), []⟩,
  ⟨some 4, none, .mov (.m 7), []⟩])
 (.cond (.m 4)
 (.seq (K [1]) (.seq (.reg false [
  ⟨some 2, none, .mov (.c (.d (.int .i64 0))), []⟩,
  ⟨some 3, none, .mov (.c (.d (.int .i64 8))), []⟩])
 .ret))
 (.seq (.reg false [
  ⟨some 9, none, .fa 0 (.m 1), []⟩,
  ⟨some 10, none, .ld none 0 (.m 9), []⟩,
  ⟨some 11, none, .bin .eql (.m 10) (.c (.d (.int .u8 2))), []⟩,
  ⟨some 8, none, .mov (.m 11), []⟩])
 (.cond (.m 8)
 (.seq (.reg false [
  ⟨some 2, none, .mov (.c (.d (.int .i64 8))), []⟩,
  ⟨some 3, none, .mov (.c (.d (.int .i64 0))), []⟩])
 .ret)
 .skip)))))
 (.seq (.reg false [
  ⟨some 2, none, .mov (.c (.d (.int .i64 1))), []⟩,
  ⟨some 3, none, .mov (.c (.d (.int .i64 0))), []⟩,
  ⟨none, none, .kill [4, 5, 6, 7, 8, 9, 10, 11], []⟩])
 .ret)))⟩
def c78 : VFunc := ⟨1, [.tmp 1],
 (.seq (.reg false [
  ⟨some 1, none, .mov (.c (.d (.bool false))), []⟩,
  ⟨none, none, .kill [1], []⟩])
 (.seq (.reg false [
  ⟨some 2, none, .fa 0 (.s 0), []⟩,
  ⟨some 3, none, .ld none 0 (.m 2), []⟩,
  ⟨some 4, none, .bin .geq (.m 3) (.c (.d (.int .i64 0))), []⟩,
  ⟨some 5, none, .mov (.m 4), []⟩,
  ⟨some 6, (some (5, true)), .fa 0 (.s 0), []⟩,
  ⟨some 7, (some (5, true)), .ld none 0 (.s 6), []⟩,
  ⟨some 8, (some (5, true)), .bin .leq (.s 7) (.c (.d (.int .i64 255))), []⟩,
  ⟨some 9, none, .pick (.m 5) (.m 8) (.c (.d (.bool false))), []⟩,
  ⟨some 1, none, .mov (.m 9), []⟩,
  ⟨none, none, .kill [0, 6, 7], []⟩])
 .ret))⟩
def c79 : VFunc := ⟨1, [.tmp 1],
 (.seq (.reg false [
  ⟨some 1, none, .mov (.c (.d (.bool false))), []⟩,
  ⟨none, none, .kill [1], []⟩])
 (.seq (.reg false [
  ⟨some 2, none, .ld (some 9) 0 (.m 0), []⟩,
  ⟨some 3, none, .call 80 [.m 2], []⟩,
  ⟨some 1, none, .mov (.m 3), []⟩])
 .ret))⟩
def c80 : VFunc := ⟨1, [.tmp 2],
 (.seq (.reg false [
  ⟨some 1, none, .box (.m 0), []⟩,
  ⟨some 2, none, .mov (.c (.d (.bool false))), []⟩,
  ⟨none, none, .kill [2], []⟩])
 (.seq (.seq (.reg false [
  ⟨some 8, none, .fa 5 (.s 1), []⟩,
  ⟨some 9, none, .ld none 0 (.m 8), []⟩,
  ⟨some 10, none, .len (.m 9), []⟩,
  ⟨some 11, none, .fa 1 (.s 1), []⟩,
  ⟨some 12, none, .fa 3 (.m 11), []⟩,
  ⟨some 13, none, .ld none 0 (.m 12), []⟩,
  ⟨some 14, none, .len (.m 13), []⟩,
  ⟨some 15, none, .bin .neq (.m 10) (.m 14), []⟩])
 (.cond (.m 15)
 (.seq (K [1]) (.seq (.reg false [
  ⟨some 2, none, .mov (.c (.d (.bool false))), []⟩])
 .ret))
 .skip))
 (.seq (.seq (.reg false [
  ⟨some 16, none, .fa 5 (.s 1), []⟩,
  ⟨some 17, none, .ld none 0 (.m 16), []⟩,
  ⟨some 18, none, .len (.s 17), []⟩,
  ⟨some 19, none, .mov (.c (.d (.int .i64 0))), []⟩])
 (.block 0
 (.loop
 (.seq (.reg false [
  ⟨some 20, none, .bin .lss (.s 19) (.s 18), []⟩])
 (.seq (.cond (.m 20)
 .skip
 (.seq (K [1, 17, 18, 19]) (.exit 0)))
 (.seq (.block 1
 (.seq (.reg false [
  ⟨some 21, none, .ia 1 (.s 17) (.s 19), []⟩,
  ⟨some 22, none, .ld none 0 (.m 21), []⟩,
  ⟨some 4, none, .mov (.m 22), []⟩])
 (.seq (.reg false [
  ⟨some 5, none, .mov (.c (.d (.int .i64 0))), []⟩])
 (.seq (.seq (.reg false [
  ⟨some 23, none, .mov (.s 4), []⟩,
  ⟨some 24, none, .len (.s 23), []⟩,
  ⟨some 25, none, .mov (.c (.d (.int .i64 0))), []⟩])
 (.block 2
 (.loop
 (.seq (.reg false [
  ⟨some 26, none, .bin .lss (.s 25) (.s 24), []⟩])
 (.seq (.cond (.m 26)
 .skip
 (.seq (K [23, 24, 25]) (.exit 2)))
 (.seq (.block 3
 (.seq (.reg false [
  ⟨some 27, none, .ia 2 (.s 23) (.s 25), []⟩,
  ⟨some 28, none, .ld (some 2) 0 (.m 27), []⟩,
  ⟨some 7, none, .alloc [.d (.int .i64 0), .d (.int .i64 0)], []⟩,
  ⟨none, none, .st 2 (.s 7) (.m 28), []⟩])
 (.seq (.seq (.reg false [
  ⟨some 29, none, .fa 1 (.s 7), []⟩,
  ⟨some 30, none, .ld none 0 (.m 29), []⟩,
  ⟨some 31, none, .bin .lss (.m 30) (.c (.d (.int .i64 1))), []⟩,
  ⟨some 32, none, .mov (.m 31), []⟩,
  ⟨some 33, (some (32, false)), .fa 1 (.s 7), []⟩,
  ⟨some 34, (some (32, false)), .ld none 0 (.s 33), []⟩,
  ⟨some 35, (some (32, false)), .bin .gtr (.s 34) (.c (.d (.int .i64 40))), []⟩,
  ⟨some 36, none, .pick (.m 32) (.c (.d (.bool true))) (.m 35), []⟩,
  ⟨some 37, none, .mov (.m 36), []⟩,
  ⟨some 38, (some (37, false)), .fa 0 (.s 7), []⟩,
  ⟨some 39, (some (37, false)), .ld none 0 (.s 38), []⟩,
  ⟨some 40, (some (37, false)), .bin .lss (.s 39) (.c (.d (.int .i64 0))), []⟩,
  ⟨some 41, none, .pick (.m 37) (.c (.d (.bool true))) (.m 40), []⟩,
  ⟨some 42, none, .mov (.m 41), []⟩,
  ⟨some 43, (some (42, false)), .fa 0 (.s 7), []⟩,
  ⟨some 44, (some (42, false)), .ld none 0 (.s 43), []⟩,
  ⟨some 45, (some (42, false)), .bin .gtr (.s 44) (.c (.d (.int .i64 11))), []⟩,
  ⟨some 46, (some (42, false)), .mov (.s 45), []⟩,
  ⟨some 47, (some (46, true)), .fa 0 (.s 7), []⟩,
  ⟨some 48, (some (46, true)), .ld none 0 (.s 47), []⟩,
  ⟨some 49, (some (46, true)), .bin .neq (.s 48) (.c (.d (.int .i64 13))), []⟩,
  ⟨some 50, (some (42, false)), .pick (.s 46) (.s 49) (.c (.d (.bool false))), []⟩,
  ⟨some 51, none, .pick (.m 42) (.c (.d (.bool true))) (.m 50), []⟩,
  ⟨none, none, .kill [33, 34, 38, 39, 43, 44, 45, 46, 47, 48, 49], []⟩])
 (.cond (.m 51)
 (.seq (K [1, 4, 5, 7, 17, 18, 19, 23, 24, 25]) (.seq (.reg false [
  ⟨some 2, none, .mov (.c (.d (.bool false))), []⟩])
 .ret))
 .skip))
 (.reg false [
  ⟨some 52, none, .mov (.m 5), []⟩,
  ⟨some 53, none, .fa 1 (.m 7), []⟩,
  ⟨some 54, none, .ld none 0 (.m 53), []⟩,
  ⟨some 55, none, .bin .add (.m 52) (.m 54), []⟩,
  ⟨some 5, none, .mov (.m 55), []⟩]))))
 (.reg false [
  ⟨some 56, none, .bin .add (.m 25) (.c (.d (.int .i64 1))), []⟩,
  ⟨some 25, none, .mov (.m 56), []⟩,
  ⟨none, none, .kill [2, 7, 27, 28, 29, 30, 31, 32, 33, 34, 35, 36, 37, 38, 39, 40, 41, 42, 43, 44, 45, 46, 47, 48, 49, 50, 51, 52, 53, 54, 55], []⟩])))))))
 (.seq (.reg false [
  ⟨some 57, none, .mov (.m 5), []⟩,
  ⟨some 58, none, .fa 1 (.s 1), []⟩,
  ⟨some 59, none, .fa 2 (.m 58), []⟩,
  ⟨some 60, none, .ld none 0 (.m 59), []⟩,
  ⟨some 61, none, .bin .neq (.m 57) (.m 60), []⟩,
  ⟨some 62, none, .mov (.m 61), []⟩,
  ⟨some 63, (some (62, false)), .mov (.s 4), []⟩,
  ⟨some 64, (some (62, false)), .len (.s 63), []⟩,
  ⟨some 65, (some (62, false)), .bin .gtr (.s 64) (.c (.d (.int .i64 40))), []⟩,
  ⟨some 66, none, .pick (.m 62) (.c (.d (.bool true))) (.m 65), []⟩,
  ⟨none, none, .kill [2, 4, 7, 23, 24, 25, 26, 27, 28, 29, 30, 31, 32, 33, 34, 35, 36, 37, 38, 39, 40, 41, 42, 43, 44, 45, 46, 47, 48, 49, 50, 51, 52, 53, 54, 55, 56, 63, 64], []⟩])
 (.cond (.m 66)
 (.seq (K [1, 17, 18, 19]) (.seq (.reg false [
  ⟨some 2, none, .mov (.c (.d (.bool false))), []⟩])
 .ret))
 .skip))))))
 (.reg false [
  ⟨some 67, none, .bin .add (.m 19) (.c (.d (.int .i64 1))), []⟩,
  ⟨some 19, none, .mov (.m 67), []⟩,
  ⟨none, none, .kill [2, 4, 5, 7, 21, 22, 23, 24, 25, 26, 27, 28, 29, 30, 31, 32, 33, 34, 35, 36, 37, 38, 39, 40, 41, 42, 43, 44, 45, 46, 47, 48, 49, 50, 51, 52, 53, 54, 55, 56, 57, 58, 59, 60, 61, 62, 63, 64, 65, 66], []⟩])))))))
 (.seq (.reg false [
  ⟨some 2, none, .mov (.c (.d (.bool true))), []⟩,
  ⟨none, none, .kill [1, 4, 5, 7, 17, 18, 19, 20, 21, 22, 23, 24, 25, 26, 27, 28, 29, 30, 31, 32, 33, 34, 35, 36, 37, 38, 39, 40, 41, 42, 43, 44, 45, 46, 47, 48, 49, 50, 51, 52, 53, 54, 55, 56, 57, 58, 59, 60, 61, 62, 63, 64, 65, 66, 67], []⟩])
 .ret))))⟩
def c81 : VFunc := ⟨1, [.tmp 1],
 (.seq (.reg false [
  ⟨some 1, none, .mov (.c (.d (.bool false))), []⟩,
  ⟨none, none, .kill [1], []⟩])
 (.seq (.reg false [
  ⟨some 2, none, .ld (some 9) 0 (.m 0), []⟩,
  ⟨some 3, none, .call 82 [.m 2], []⟩,
  ⟨some 1, none, .mov (.m 3), []⟩])
 .ret))⟩
def c82 : VFunc := ⟨1, [.tmp 2],
 (.seq (.reg false [
  ⟨some 1, none, .box (.m 0), []⟩,
  ⟨some 2, none, .mov (.c (.d (.bool false))), []⟩,
  ⟨none, none, .kill [2], []⟩])
 (.seq (.seq (.reg false [
  ⟨some 12, none, .fa 6 (.s 1), []⟩,
  ⟨some 13, none, .ld none 0 (.m 12), []⟩,
  ⟨some 14, none, .len (.m 13), []⟩,
  ⟨some 15, none, .fa 1 (.s 1), []⟩,
  ⟨some 16, none, .fa 3 (.m 15), []⟩,
  ⟨some 17, none, .ld none 0 (.m 16), []⟩,
  ⟨some 18, none, .len (.m 17), []⟩,
  ⟨some 19, none, .bin .neq (.m 14) (.m 18), []⟩])
 (.cond (.m 19)
 (.seq (K [1]) (.seq (.reg false [
  ⟨some 2, none, .mov (.c (.d (.bool false))), []⟩])
 .ret))
 .skip))
 (.seq (.reg false [
  ⟨some 20, none, .fa 0 (.s 1), []⟩,
  ⟨some 21, none, .ld none 0 (.m 20), []⟩,
  ⟨some 3, none, .mov (.m 21), []⟩,
  ⟨some 4, none, .mov (.c (.d (.int .i64 0))), []⟩,
  ⟨some 5, none, .mov (.c (.d (.bool false))), []⟩])
 (.seq (.seq (.reg false [
  ⟨some 22, none, .fa 6 (.s 1), []⟩,
  ⟨some 23, none, .ld none 0 (.m 22), []⟩,
  ⟨some 24, none, .len (.s 23), []⟩,
  ⟨some 25, none, .mov (.c (.d (.int .i64 0))), []⟩])
 (.block 0
 (.loop
 (.seq (.reg false [
  ⟨some 26, none, .bin .lss (.s 25) (.s 24), []⟩])
 (.seq (.cond (.m 26)
 .skip
 (.seq (K [1, 3, 4, 5, 23, 24, 25]) (.exit 0)))
 (.seq (.block 1
 (.seq (.reg false [
  ⟨some 27, none, .mov (.s 25), []⟩,
  ⟨some 28, none, .ia 1 (.s 23) (.s 25), []⟩,
  ⟨some 29, none, .ld none 0 (.m 28), []⟩,
  ⟨some 6, none, .mov (.m 27), []⟩,
  ⟨some 7, none, .mov (.m 29), []⟩])
 (.seq (.seq (.reg false [
  ⟨some 30, none, .mov (.s 7), []⟩,
  ⟨some 31, none, .len (.m 30), []⟩,
  ⟨some 32, none, .fa 1 (.s 1), []⟩,
  ⟨some 33, none, .fa 2 (.m 32), []⟩,
  ⟨some 34, none, .ld none 0 (.m 33), []⟩,
  ⟨some 35, none, .bin .neq (.m 31) (.m 34), []⟩])
 (.cond (.m 35)
 (.seq (K [1, 3, 4, 5, 6, 7, 23, 24, 25]) (.seq (.reg false [
  ⟨some 2, none, .mov (.c (.d (.bool false))), []⟩])
 .ret))
 .skip))
 (.seq (.reg false [
  ⟨some 36, none, .mov (.m 7), []⟩,
  ⟨some 37, none, .len (.s 36), []⟩,
  ⟨some 38, none, .mov (.c (.d (.int .i64 0))), []⟩])
 (.block 2
 (.loop
 (.seq (.reg false [
  ⟨some 39, none, .bin .lss (.s 38) (.s 37), []⟩])
 (.seq (.cond (.m 39)
 .skip
 (.seq (K [6, 36, 37, 38]) (.exit 2)))
 (.seq (.block 3
 (.seq (.reg false [
  ⟨some 40, none, .mov (.s 38), []⟩,
  ⟨some 41, none, .ia 1 (.s 36) (.s 38), []⟩,
  ⟨some 42, none, .ld none 0 (.m 41), []⟩,
  ⟨some 8, none, .mov (.m 40), []⟩,
  ⟨some 9, none, .mov (.m 42), []⟩])
 (.seq (.reg false [
  ⟨some 44, none, .fa 5 (.s 1), []⟩,
  ⟨some 45, none, .ld none 0 (.m 44), []⟩,
  ⟨some 46, none, .mov (.s 6), []⟩,
  ⟨some 47, none, .mov (.m 8), []⟩,
  ⟨some 48, none, .call 123 [.m 45, .m 46, .m 47], []⟩,
  ⟨some 43, none, .mov (.m 48), []⟩,
  ⟨some 49, none, .ext 43 false 0, []⟩,
  ⟨some 50, none, .ext 43 false 1, []⟩,
  ⟨some 10, none, .mov (.m 49), []⟩,
  ⟨some 11, none, .mov (.m 50), []⟩,
  ⟨none, none, .kill [11], []⟩])
 (.block 4
 (.seq (.reg false [
  ⟨some 52, none, .mov (.s 10), []⟩,
  ⟨some 53, none, .bin .eql (.m 52) (.c (.d (.int .i64 0))), []⟩,
  ⟨some 54, none, .mov (.m 53), []⟩,
  ⟨some 55, (some (54, true)), .mov (.s 9), []⟩,
  ⟨some 56, (some (54, true)), .bin .neq (.s 55) (.c (.d (.int .i64 0))), []⟩,
  ⟨some 57, none, .pick (.m 54) (.m 56) (.c (.d (.bool false))), []⟩,
  ⟨some 51, none, .mov (.m 57), []⟩,
  ⟨none, none, .kill [55], []⟩])
 (.cond (.m 51)
 (.seq (K [1, 3, 4, 5, 6, 9, 10, 23, 24, 25, 36, 37, 38]) (.seq (.reg false [
  ⟨some 2, none, .mov (.c (.d (.bool false))), []⟩])
 .ret))
 (.seq (.reg false [
  ⟨some 59, none, .mov (.s 10), []⟩,
  ⟨some 60, none, .bin .eql (.m 59) (.c (.d (.int .i64 13))), []⟩,
  ⟨some 58, none, .mov (.m 60), []⟩])
 (.cond (.m 58)
 (.seq (K [10]) (.seq (.seq (.reg false [
  ⟨some 61, none, .mov (.s 9), []⟩,
  ⟨some 62, none, .bin .lss (.m 61) (.c (.d (.int .i64 0))), []⟩,
  ⟨some 63, none, .mov (.m 62), []⟩,
  ⟨some 64, (some (63, false)), .mov (.s 9), []⟩,
  ⟨some 65, (some (63, false)), .bin .gtr (.s 64) (.c (.d (.int .i64 511))), []⟩,
  ⟨some 66, none, .pick (.m 63) (.c (.d (.bool true))) (.m 65), []⟩,
  ⟨some 67, none, .mov (.m 66), []⟩,
  ⟨some 68, (some (67, false)), .mov (.s 5), []⟩,
  ⟨some 69, (some (67, false)), .mov (.s 68), []⟩,
  ⟨some 70, (some (69, true)), .mov (.s 4), []⟩,
  ⟨some 71, (some (69, true)), .mov (.s 9), []⟩,
  ⟨some 72, (some (69, true)), .call 124 [.s 70, .s 71], []⟩,
  ⟨some 73, (some (69, true)), .un .not (.s 72), []⟩,
  ⟨some 74, (some (67, false)), .pick (.s 69) (.s 73) (.c (.d (.bool false))), []⟩,
  ⟨some 75, none, .pick (.m 67) (.c (.d (.bool true))) (.m 74), []⟩,
  ⟨none, none, .kill [4, 5, 64, 68, 69, 70, 71, 72, 73], []⟩])
 (.cond (.m 75)
 (.seq (K [1, 3, 6, 9, 23, 24, 25, 36, 37, 38]) (.seq (.reg false [
  ⟨some 2, none, .mov (.c (.d (.bool false))), []⟩])
 .ret))
 .skip))
 (.reg false [
  ⟨some 76, none, .mov (.m 9), []⟩,
  ⟨some 4, none, .mov (.m 76), []⟩,
  ⟨some 5, none, .mov (.c (.d (.bool true))), []⟩])))
 (.seq (.reg false [
  ⟨some 78, none, .mov (.m 10), []⟩,
  ⟨some 79, none, .bin .gtr (.m 78) (.c (.d (.int .i64 0))), []⟩,
  ⟨some 77, none, .mov (.m 79), []⟩])
 (.cond (.m 77)
 (.seq (.seq (.reg false [
  ⟨some 80, none, .mov (.s 9), []⟩,
  ⟨some 81, none, .bin .lss (.m 80) (.c (.d (.int .i64 0))), []⟩,
  ⟨some 82, none, .mov (.m 81), []⟩,
  ⟨some 83, (some (82, false)), .mov (.s 9), []⟩,
  ⟨some 84, (some (82, false)), .bin .gtr (.s 83) (.c (.d (.int .i64 255))), []⟩,
  ⟨some 85, none, .pick (.m 82) (.c (.d (.bool true))) (.m 84), []⟩,
  ⟨some 86, none, .mov (.m 85), []⟩,
  ⟨some 87, (some (86, false)), .mov (.s 3), []⟩,
  ⟨some 88, (some (86, false)), .mov (.s 9), []⟩,
  ⟨some 89, (some (86, false)), .call 124 [.s 87, .s 88], []⟩,
  ⟨some 90, (some (86, false)), .un .not (.s 89), []⟩,
  ⟨some 91, none, .pick (.m 86) (.c (.d (.bool true))) (.m 90), []⟩,
  ⟨none, none, .kill [3, 83, 87, 88, 89], []⟩])
 (.cond (.m 91)
 (.seq (K [1, 4, 5, 6, 9, 23, 24, 25, 36, 37, 38]) (.seq (.reg false [
  ⟨some 2, none, .mov (.c (.d (.bool false))), []⟩])
 .ret))
 .skip))
 (.reg false [
  ⟨some 92, none, .mov (.m 9), []⟩,
  ⟨some 3, none, .mov (.m 92), []⟩]))
 (.seq (K [9]) .skip)))))))))))
 (.reg false [
  ⟨some 93, none, .bin .add (.m 38) (.c (.d (.int .i64 1))), []⟩,
  ⟨some 38, none, .mov (.m 93), []⟩,
  ⟨none, none, .kill [2, 8, 9, 10, 11, 40, 41, 42, 43, 44, 45, 46, 47, 48, 49, 50, 51, 52, 53, 54, 55, 56, 57, 58, 59, 60, 61, 62, 63, 64, 65, 66, 67, 68, 69, 70, 71, 72, 73, 74, 75, 76, 77, 78, 79, 80, 81, 82, 83, 84, 85, 86, 87, 88, 89, 90, 91, 92], []⟩]))))))))))
 (.reg false [
  ⟨some 94, none, .bin .add (.m 25) (.c (.d (.int .i64 1))), []⟩,
  ⟨some 25, none, .mov (.m 94), []⟩,
  ⟨none, none, .kill [2, 6, 7, 8, 9, 10, 11, 27, 28, 29, 30, 31, 32, 33, 34, 35, 36, 37, 38, 39, 40, 41, 42, 43, 44, 45, 46, 47, 48, 49, 50, 51, 52, 53, 54, 55, 56, 57, 58, 59, 60, 61, 62, 63, 64, 65, 66, 67, 68, 69, 70, 71, 72, 73, 74, 75, 76, 77, 78, 79, 80, 81, 82, 83, 84, 85, 86, 87, 88, 89, 90, 91, 92, 93], []⟩])))))))
 (.seq (.reg false [
  ⟨some 2, none, .mov (.c (.d (.bool true))), []⟩,
  ⟨none, none, .kill [1, 3, 4, 5, 6, 7, 8, 9, 10, 11, 23, 24, 25, 26, 27, 28, 29, 30, 31, 32, 33, 34, 35, 36, 37, 38, 39, 40, 41, 42, 43, 44, 45, 46, 47, 48, 49, 50, 51, 52, 53, 54, 55, 56, 57, 58, 59, 60, 61, 62, 63, 64, 65, 66, 67, 68, 69, 70, 71, 72, 73, 74, 75, 76, 77, 78, 79, 80, 81, 82, 83, 84, 85, 86, 87, 88, 89, 90, 91, 92, 93, 94], []⟩])
 .ret)))))⟩
def c83 : VFunc := ⟨2, [.tmp 2],
 (.seq (.reg false [
  ⟨some 2, none, .mov (.c (.d (.bool false))), []⟩,
  ⟨none, none, .kill [2], []⟩])
 (.seq (.reg false [
  ⟨some 3, none, .ld (some 9) 0 (.m 0), []⟩,
  ⟨some 4, none, .ld none 0 (.m 1), []⟩,
  ⟨some 5, none, .call 84 [.m 3, .m 4], []⟩,
  ⟨some 2, none, .mov (.m 5), []⟩])
 .ret))⟩
def c84 : VFunc := ⟨2, [.tmp 4],
 (.seq (.reg false [
  ⟨some 2, none, .box (.m 0), []⟩,
  ⟨some 4, none, .mov (.c (.d (.bool false))), []⟩,
  ⟨none, none, .kill [4], []⟩])
 (.seq (.reg false [
  ⟨some 9, none, .fa 1 (.s 2), []⟩,
  ⟨some 10, none, .fa 0 (.m 9), []⟩,
  ⟨some 11, none, .ld none 0 (.m 10), []⟩,
  ⟨some 12, none, .bin .eql (.m 11) (.c (.d (.int .u8 2))), []⟩,
  ⟨some 5, none, .alloc [.d (.bool false)], []⟩,
  ⟨none, none, .st 1 (.s 5) (.m 12), []⟩])
 (.seq (.reg false [
  ⟨some 6, none, .mov (.c (.d (.int .i64 3))), []⟩])
 (.seq (.seq (.reg false [
  ⟨some 13, none, .ld none 0 (.s 5), []⟩])
 (.cond (.m 13)
 (.seq (K [6]) (.reg false [
  ⟨some 6, none, .mov (.c (.d (.int .i64 1))), []⟩]))
 .skip))
 (.seq (.seq (.reg false [
  ⟨some 14, none, .fa 7 (.s 2), []⟩,
  ⟨some 15, none, .ld none 0 (.m 14), []⟩,
  ⟨some 16, none, .len (.m 15), []⟩,
  ⟨some 17, none, .mov (.m 1), []⟩,
  ⟨some 18, none, .bin .neq (.m 16) (.m 17), []⟩])
 (.cond (.m 18)
 (.seq (K [2, 5, 6]) (.seq (.reg false [
  ⟨some 4, none, .mov (.c (.d (.bool false))), []⟩])
 .ret))
 .skip))
 (.seq (.seq (.reg false [
  ⟨some 19, none, .fa 7 (.m 2), []⟩,
  ⟨some 20, none, .ld none 0 (.m 19), []⟩,
  ⟨some 21, none, .len (.s 20), []⟩,
  ⟨some 22, none, .mov (.c (.d (.int .i64 0))), []⟩])
 (.block 0
 (.loop
 (.seq (.reg false [
  ⟨some 23, none, .bin .lss (.s 22) (.s 21), []⟩])
 (.seq (.cond (.m 23)
 .skip
 (.seq (K [5, 6, 20, 21, 22]) (.exit 0)))
 (.seq (.block 1
 (.seq (.reg false [
  ⟨some 24, none, .ia 1 (.s 20) (.s 22), []⟩,
  ⟨some 25, none, .ld none 0 (.m 24), []⟩,
  ⟨some 8, none, .alloc [.nl], []⟩,
  ⟨none, none, .st 1 (.s 8) (.m 25), []⟩])
 (.seq (.reg false [
  ⟨some 26, none, .ld none 0 (.s 8), []⟩,
  ⟨some 27, none, .len (.m 26), []⟩,
  ⟨some 28, none, .mov (.s 6), []⟩,
  ⟨some 29, none, .bin .gtr (.m 27) (.m 28), []⟩,
  ⟨some 30, none, .mov (.m 29), []⟩,
  ⟨some 31, (some (30, false)), .ld none 0 (.s 8), []⟩,
  ⟨some 32, (some (30, false)), .mkfn 126 [] [.s 5, .s 8], []⟩,
  ⟨some 33, (some (30, false)), .calli 125 [.s 31, .s 32], []⟩,
  ⟨some 34, none, .pick (.m 30) (.c (.d (.bool true))) (.m 33), []⟩,
  ⟨none, none, .kill [8, 31, 32], []⟩])
 (.cond (.m 34)
 (.seq (K [5, 6, 20, 21, 22]) (.seq (.reg false [
  ⟨some 4, none, .mov (.c (.d (.bool false))), []⟩])
 .ret))
 .skip))))
 (.reg false [
  ⟨some 35, none, .bin .add (.m 22) (.c (.d (.int .i64 1))), []⟩,
  ⟨some 22, none, .mov (.m 35), []⟩,
  ⟨none, none, .kill [4, 8, 24, 25, 26, 27, 28, 29, 30, 31, 32, 33, 34], []⟩])))))))
 (.seq (.reg false [
  ⟨some 4, none, .mov (.c (.d (.bool true))), []⟩,
  ⟨none, none, .kill [5, 6, 8, 20, 21, 22, 23, 24, 25, 26, 27, 28, 29, 30, 31, 32, 33, 34, 35], []⟩])
 .ret)))))))⟩
def c85 : VFunc := ⟨3, [.tmp 3],
 (.seq (.reg false [
  ⟨some 3, none, .mov (.c (.d (.bool false))), []⟩,
  ⟨none, none, .kill [3], []⟩])
 (.seq (.reg false [
  ⟨some 4, none, .ld none 0 (.m 0), []⟩,
  ⟨some 5, none, .ld (some 9) 0 (.m 1), []⟩,
  ⟨some 6, none, .ld none 0 (.m 2), []⟩,
  ⟨some 7, none, .call 86 [.m 4, .m 5, .m 6], []⟩,
  ⟨some 3, none, .mov (.m 7), []⟩])
 .ret))⟩
def c86 : VFunc := ⟨3, [.tmp 6],
 (.seq (.reg false [
  ⟨some 4, none, .box (.m 1), []⟩,
  ⟨some 6, none, .mov (.c (.d (.bool false))), []⟩,
  ⟨none, none, .kill [6], []⟩])
 (.seq (.seq (.reg false [
  ⟨some 18, none, .fa 8 (.s 4), []⟩,
  ⟨some 19, none, .ld none 0 (.m 18), []⟩,
  ⟨some 20, none, .len (.m 19), []⟩,
  ⟨some 21, none, .bin .neq (.m 20) (.c (.d (.int .i64 256))), []⟩])
 (.cond (.m 21)
 (.seq (K [0, 2, 4]) (.seq (.reg false [
  ⟨some 6, none, .mov (.c (.d (.bool false))), []⟩])
 .ret))
 .skip))
 (.seq (.reg false [
  ⟨some 22, none, .fa 1 (.s 4), []⟩,
  ⟨some 23, none, .fa 0 (.m 22), []⟩,
  ⟨some 24, none, .ld none 0 (.m 23), []⟩,
  ⟨some 25, none, .bin .eql (.m 24) (.c (.d (.int .u8 2))), []⟩,
  ⟨some 7, none, .mov (.m 25), []⟩])
 (.seq (.reg false [
  ⟨some 27, none, .mov (.m 0), []⟩,
  ⟨some 28, none, .mov (.m 7), []⟩,
  ⟨some 29, none, .call 128 [.m 27, .m 28], []⟩,
  ⟨some 26, none, .mov (.m 29), []⟩,
  ⟨some 30, none, .ext 26 true 0, []⟩,
  ⟨some 31, none, .ext 26 false 1, []⟩,
  ⟨some 8, none, .mov (.m 30), []⟩,
  ⟨some 9, none, .mov (.m 31), []⟩,
  ⟨none, none, .kill [9], []⟩])
 (.seq (.reg false [
  ⟨some 32, none, .mov (.s 2), []⟩,
  ⟨some 33, none, .bin .quo (.c (.d (.int .i64 256))) (.m 32), []⟩,
  ⟨some 10, none, .mov (.m 33), []⟩])
 (.seq (.seq (.reg false [
  ⟨some 34, none, .mov (.m 2), []⟩,
  ⟨some 35, none, .mov (.c (.d (.int .i64 0))), []⟩])
 (.block 0
 (.loop
 (.seq (.reg false [
  ⟨some 36, none, .bin .lss (.s 35) (.s 34), []⟩])
 (.seq (.cond (.m 36)
 .skip
 (.seq (K [4, 8, 10, 34, 35]) (.exit 0)))
 (.seq (.block 1
 (.seq (.reg false [
  ⟨some 37, none, .mov (.s 35), []⟩,
  ⟨some 11, none, .mov (.m 37), []⟩])
 (.seq (.reg false [
  ⟨some 39, none, .fa 1 (.s 4), []⟩,
  ⟨some 40, none, .ld (some 4) 0 (.m 39), []⟩,
  ⟨some 41, none, .mov (.s 11), []⟩,
  ⟨some 42, none, .call 95 [.m 40, .m 41], []⟩,
  ⟨some 38, none, .mov (.m 42), []⟩,
  ⟨some 43, none, .ext 38 false 0, []⟩,
  ⟨some 44, none, .ext 38 false 1, []⟩,
  ⟨some 12, none, .mov (.m 43), []⟩,
  ⟨some 13, none, .mov (.m 44), []⟩,
  ⟨none, none, .kill [13], []⟩])
 (.seq (.reg false [
  ⟨some 14, none, .mov (.c (.d (.int .i64 0))), []⟩])
 (.seq (.reg false [
  ⟨some 45, none, .fa 8 (.s 4), []⟩,
  ⟨some 46, none, .ld none 0 (.m 45), []⟩,
  ⟨some 47, none, .mov (.s 11), []⟩,
  ⟨some 48, none, .mov (.s 10), []⟩,
  ⟨some 49, none, .bin .mul (.m 47) (.m 48), []⟩,
  ⟨some 50, none, .mov (.m 11), []⟩,
  ⟨some 51, none, .bin .add (.m 50) (.c (.d (.int .i64 1))), []⟩,
  ⟨some 52, none, .mov (.s 10), []⟩,
  ⟨some 53, none, .bin .mul (.m 51) (.m 52), []⟩,
  ⟨some 54, none, .slice 1 (.m 46) (some (.m 49)) (some (.m 53)) none, []⟩,
  ⟨some 55, none, .len (.s 54), []⟩,
  ⟨some 56, none, .mov (.c (.d (.int .i64 0))), []⟩])
 (.block 2
 (.loop
 (.seq (.reg false [
  ⟨some 57, none, .bin .lss (.s 56) (.s 55), []⟩])
 (.seq (.cond (.m 57)
 .skip
 (.seq (K [12, 14, 54, 55, 56]) (.exit 2)))
 (.seq (.block 3
 (.seq (.reg false [
  ⟨some 58, none, .mov (.s 56), []⟩,
  ⟨some 59, none, .ia 1 (.s 54) (.s 56), []⟩,
  ⟨some 60, none, .ld none 0 (.m 59), []⟩,
  ⟨some 15, none, .mov (.m 58), []⟩,
  ⟨some 16, none, .mov (.m 60), []⟩])
 (.seq (.seq (.reg false [
  ⟨some 61, none, .mov (.s 16), []⟩,
  ⟨some 62, none, .bin .eql (.m 61) (.c (.d (.int .i64 0))), []⟩])
 (.cond (.m 62)
 (.seq (K [15, 16]) (.exit 3))
 .skip))
 (.seq (.block 4
 (.loop
 (.seq (.seq (.seq (.reg false [
  ⟨some 63, none, .mov (.s 15), []⟩,
  ⟨some 64, none, .mov (.s 8), []⟩,
  ⟨some 65, none, .mov (.s 14), []⟩,
  ⟨some 66, none, .bin .add (.m 65) (.c (.d (.int .i64 1))), []⟩,
  ⟨some 67, none, .ia 1 (.m 64) (.m 66), []⟩,
  ⟨some 68, none, .ld none 0 (.m 67), []⟩,
  ⟨some 69, none, .bin .geq (.m 63) (.m 68), []⟩])
 (.cond (.m 69)
 .skip
 (.seq (K [15]) (.exit 4))))
 (.block 5
 (.reg false [
  ⟨some 70, none, .mov (.m 14), []⟩,
  ⟨some 71, none, .bin .add (.m 70) (.c (.d (.int .i64 1))), []⟩,
  ⟨some 14, none, .mov (.m 71), []⟩]))) (K [70, 71]))))
 (.seq (.reg false [
  ⟨some 17, none, .mov (.c (.d (.int .i64 0))), []⟩,
  ⟨none, none, .kill [15, 63, 64, 65, 66, 67, 68, 69, 70, 71], []⟩])
 (.seq (.seq (.reg false [
  ⟨some 72, none, .mov (.s 14), []⟩,
  ⟨some 73, none, .fa 1 (.s 4), []⟩,
  ⟨some 74, none, .fa 2 (.m 73), []⟩,
  ⟨some 75, none, .ld none 0 (.m 74), []⟩,
  ⟨some 76, none, .bin .lss (.m 72) (.m 75), []⟩])
 (.cond (.m 76)
 (.seq (K [17]) (.reg false [
  ⟨some 78, none, .fa 5 (.s 4), []⟩,
  ⟨some 79, none, .ld none 0 (.m 78), []⟩,
  ⟨some 80, none, .mov (.s 12), []⟩,
  ⟨some 81, none, .mov (.s 14), []⟩,
  ⟨some 82, none, .call 123 [.m 79, .m 80, .m 81], []⟩,
  ⟨some 77, none, .mov (.m 82), []⟩,
  ⟨some 83, none, .ext 77 false 0, []⟩,
  ⟨some 84, none, .ext 77 false 1, []⟩,
  ⟨some 17, none, .mov (.m 83), []⟩,
  ⟨none, none, .kill [84], []⟩]))
 .skip))
 (.seq (.reg false [
  ⟨some 85, none, .mov (.s 17), []⟩,
  ⟨some 86, none, .bin .lss (.m 85) (.c (.d (.int .i64 1))), []⟩,
  ⟨some 87, none, .mov (.m 86), []⟩,
  ⟨some 88, (some (87, false)), .mov (.s 17), []⟩,
  ⟨some 89, (some (87, false)), .bin .gtr (.s 88) (.c (.d (.int .i64 11))), []⟩,
  ⟨some 90, none, .pick (.m 87) (.c (.d (.bool true))) (.m 89), []⟩,
  ⟨some 91, none, .mov (.m 90), []⟩,
  ⟨some 92, (some (91, false)), .mov (.s 17), []⟩,
  ⟨some 93, (some (91, false)), .mov (.s 16), []⟩,
  ⟨some 94, (some (91, false)), .call 129 [.s 92, .s 93], []⟩,
  ⟨some 95, (some (91, false)), .un .not (.s 94), []⟩,
  ⟨some 96, none, .pick (.m 91) (.c (.d (.bool true))) (.m 95), []⟩,
  ⟨none, none, .kill [16, 17, 88, 92, 93, 94], []⟩])
 (.cond (.m 96)
 (.seq (K [4, 8, 10, 12, 14, 34, 35, 54, 55, 56]) (.seq (.reg false [
  ⟨some 6, none, .mov (.c (.d (.bool false))), []⟩])
 .ret))
 .skip))))))))
 (.reg false [
  ⟨some 97, none, .bin .add (.m 56) (.c (.d (.int .i64 1))), []⟩,
  ⟨some 56, none, .mov (.m 97), []⟩,
  ⟨none, none, .kill [6, 15, 16, 17, 58, 59, 60, 61, 62, 63, 64, 65, 66, 67, 68, 69, 70, 71, 72, 73, 74, 75, 76, 77, 78, 79, 80, 81, 82, 83, 84, 85, 86, 87, 88, 89, 90, 91, 92, 93, 94, 95, 96], []⟩])))))))))))
 (.reg false [
  ⟨some 98, none, .bin .add (.m 35) (.c (.d (.int .i64 1))), []⟩,
  ⟨some 35, none, .mov (.m 98), []⟩,
  ⟨none, none, .kill [6, 11, 12, 13, 14, 15, 16, 17, 37, 38, 39, 40, 41, 42, 43, 44, 45, 46, 47, 48, 49, 50, 51, 52, 53, 54, 55, 56, 57, 58, 59, 60, 61, 62, 63, 64, 65, 66, 67, 68, 69, 70, 71, 72, 73, 74, 75, 76, 77, 78, 79, 80, 81, 82, 83, 84, 85, 86, 87, 88, 89, 90, 91, 92, 93, 94, 95, 96, 97], []⟩])))))))
 (.seq (.reg false [
  ⟨some 6, none, .mov (.c (.d (.bool true))), []⟩,
  ⟨none, none, .kill [4, 8, 10, 11, 12, 13, 14, 15, 16, 17, 34, 35, 36, 37, 38, 39, 40, 41, 42, 43, 44, 45, 46, 47, 48, 49, 50, 51, 52, 53, 54, 55, 56, 57, 58, 59, 60, 61, 62, 63, 64, 65, 66, 67, 68, 69, 70, 71, 72, 73, 74, 75, 76, 77, 78, 79, 80, 81, 82, 83, 84, 85, 86, 87, 88, 89, 90, 91, 92, 93, 94, 95, 96, 97, 98], []⟩])
 .ret)))))))⟩
def c88 : VFunc := ⟨2, [.tmp 4],
 (.seq (.reg false [
  ⟨some 4, none, .mov (.c (.d (.bool false))), []⟩,
  ⟨none, none, .kill [4], []⟩])
 (.seq (.seq (.reg false [
  ⟨some 6, none, .mov (.s 0), []⟩,
  ⟨some 7, none, .len (.m 6), []⟩,
  ⟨some 8, none, .mov (.s 1), []⟩,
  ⟨some 9, none, .len (.m 8), []⟩,
  ⟨some 10, none, .bin .neq (.m 7) (.m 9), []⟩])
 (.cond (.m 10)
 (.seq (K [0, 1]) (.seq (.reg false [
  ⟨some 4, none, .mov (.c (.d (.bool false))), []⟩])
 .ret))
 .skip))
 (.seq (.seq (.reg false [
  ⟨some 11, none, .mov (.s 0), []⟩,
  ⟨some 12, none, .len (.m 11), []⟩,
  ⟨some 13, none, .mov (.c (.d (.int .i64 0))), []⟩])
 (.block 0
 (.loop
 (.seq (.reg false [
  ⟨some 14, none, .bin .lss (.s 13) (.s 12), []⟩])
 (.seq (.cond (.m 14)
 .skip
 (.seq (K [0, 1, 12, 13]) (.exit 0)))
 (.seq (.block 1
 (.seq (.reg false [
  ⟨some 15, none, .mov (.s 13), []⟩,
  ⟨some 5, none, .mov (.m 15), []⟩])
 (.seq (.seq (.reg true [
  ⟨some 16, none, .mov (.s 0), []⟩,
  ⟨some 17, none, .mov (.s 5), []⟩,
  ⟨some 18, none, .ia 1 (.m 16) (.m 17), []⟩,
  ⟨some 19, none, .ld none 0 (.m 18), []⟩,
  ⟨some 20, none, .mov (.s 1), []⟩,
  ⟨some 21, none, .mov (.s 5), []⟩,
  ⟨some 22, none, .ia 1 (.m 20) (.m 21), []⟩,
  ⟨some 23, none, .ld none 0 (.m 22), []⟩,
  ⟨some 24, none, .bin .neq (.m 19) (.m 23), []⟩]) (K [5]))
 (.cond (.m 24)
 (.seq (K [0, 1, 12, 13]) (.seq (.reg false [
  ⟨some 4, none, .mov (.c (.d (.bool false))), []⟩])
 .ret))
 .skip))))
 (.reg false [
  ⟨some 25, none, .bin .add (.m 13) (.c (.d (.int .i64 1))), []⟩,
  ⟨some 13, none, .mov (.m 25), []⟩,
  ⟨none, none, .kill [4, 5, 15, 16, 17, 18, 19, 20, 21, 22, 23, 24], []⟩])))))))
 (.seq (.reg false [
  ⟨some 4, none, .mov (.c (.d (.bool true))), []⟩,
  ⟨none, none, .kill [0, 1, 5, 12, 13, 14, 15, 16, 17, 18, 19, 20, 21, 22, 23, 24, 25], []⟩])
 .ret))))⟩
def c90 : VFunc := ⟨2, [.tmp 4],
 (.seq (.reg false [
  ⟨some 4, none, .mov (.c (.d (.int .i64 0))), []⟩,
  ⟨none, none, .kill [4], []⟩])
 (.seq (.seq (.reg false [
  ⟨some 6, none, .mov (.s 0), []⟩,
  ⟨some 7, none, .len (.m 6), []⟩,
  ⟨some 8, none, .mov (.c (.d (.int .i64 0))), []⟩])
 (.block 0
 (.loop
 (.seq (.reg false [
  ⟨some 9, none, .bin .lss (.s 8) (.s 7), []⟩])
 (.seq (.cond (.m 9)
 .skip
 (.seq (K [0, 1, 7, 8]) (.exit 0)))
 (.seq (.block 1
 (.seq (.reg false [
  ⟨some 10, none, .mov (.s 8), []⟩,
  ⟨some 5, none, .mov (.m 10), []⟩])
 (.seq (.reg false [
  ⟨some 11, none, .mov (.s 1), []⟩,
  ⟨some 12, none, .mov (.s 0), []⟩,
  ⟨some 13, none, .mov (.s 5), []⟩,
  ⟨some 14, none, .ia 9 (.m 12) (.m 13), []⟩,
  ⟨some 15, none, .ld (some 9) 0 (.m 14), []⟩,
  ⟨some 16, none, .callv (.m 11) [.m 15], []⟩])
 (.cond (.m 16)
 (.seq (K [0, 1, 7, 8]) (.seq (.reg false [
  ⟨some 17, none, .mov (.m 5), []⟩,
  ⟨some 4, none, .mov (.m 17), []⟩])
 .ret))
 (.seq (K [5]) .skip)))))
 (.reg false [
  ⟨some 18, none, .bin .add (.m 8) (.c (.d (.int .i64 1))), []⟩,
  ⟨some 8, none, .mov (.m 18), []⟩,
  ⟨none, none, .kill [4, 5, 10, 11, 12, 13, 14, 15, 16, 17], []⟩])))))))
 (.seq (.reg false [
  ⟨some 4, none, .mov (.c (.d (.int .i64 (-1)))), []⟩,
  ⟨none, none, .kill [0, 1, 5, 7, 8, 9, 10, 11, 12, 13, 14, 15, 16, 17, 18], []⟩])
 .ret)))⟩
def c91 : VFunc := ⟨1, [.tmp 2],
 (.seq (.reg false [
  ⟨some 2, none, .mov (.c (.d (.bool false))), []⟩,
  ⟨none, none, .kill [2], []⟩])
 (.seq (.reg false [
  ⟨some 3, none, .mov (.s 0), []⟩,
  ⟨some 4, none, .bin .geq (.m 3) (.c (.d (.int .i64 0))), []⟩,
  ⟨some 5, none, .mov (.m 4), []⟩,
  ⟨some 6, (some (5, true)), .mov (.s 0), []⟩,
  ⟨some 7, (some (5, true)), .bin .leq (.s 6) (.c (.d (.int .i64 31))), []⟩,
  ⟨some 8, none, .pick (.m 5) (.m 7) (.c (.d (.bool false))), []⟩,
  ⟨some 2, none, .mov (.m 8), []⟩,
  ⟨none, none, .kill [0, 6], []⟩])
 .ret))⟩
def c92 : VFunc := ⟨2, [.tmp 4],
 (.seq (.reg false [
  ⟨some 2, none, .box (.m 0), []⟩,
  ⟨some 4, none, .mov (.c (.nl)), []⟩,
  ⟨none, none, .kill [4], []⟩])
 (.seq (.seq (.reg false [
  ⟨some 6, none, .mov (.m 1), []⟩])
 (.block 0
 (.rangeF (.m 6) [7]
 (.reg false [
  ⟨some 5, none, .mov (.m 7), []⟩])
 (.block 1
 (.reg false [
  ⟨some 8, none, .ld none 1 (.s 2), []⟩,
  ⟨some 9, none, .mov (.m 5), []⟩,
  ⟨some 10, none, .mks 1 [.m 9], []⟩,
  ⟨some 11, none, .app 1 (.m 8) (.m 10), []⟩,
  ⟨none, none, .st 1 (.m 2) (.m 11), []⟩])))))
 (.seq (.reg false [
  ⟨some 12, none, .ld none 1 (.m 2), []⟩,
  ⟨some 4, none, .mov (.m 12), []⟩,
  ⟨none, none, .kill [5, 6, 8, 9, 10, 11], []⟩])
 .ret)))⟩
def c93 : VFunc := ⟨2, [.tmp 4],
 (.seq (.reg false [
  ⟨some 2, none, .box (.m 0), []⟩,
  ⟨some 3, none, .box (.m 1), []⟩,
  ⟨some 4, none, .mov (.c (.nilf)), []⟩,
  ⟨none, none, .kill [4], []⟩])
 (.seq (.reg false [
  ⟨some 5, none, .mkfn 130 [] [.m 3, .m 2], []⟩,
  ⟨some 4, none, .mov (.m 5), []⟩])
 .ret))⟩
def c94 : VFunc := ⟨3, [],
 (.reg false [
  ⟨some 6, none, .ld none 0 (.s 2), []⟩,
  ⟨some 7, none, .mov (.m 0), []⟩,
  ⟨some 8, none, .mov (.m 1), []⟩,
  ⟨some 9, none, .call 52 [.m 6, .m 7, .m 8], []⟩,
  ⟨some 5, none, .mov (.m 9), []⟩,
  ⟨some 10, none, .ext 5 true 0, []⟩,
  ⟨some 11, none, .ext 5 false 1, []⟩,
  ⟨none, none, .st 1 (.m 2) (.m 10), []⟩,
  ⟨none, none, .kill [11], []⟩])⟩
def c95 : VFunc := ⟨2, [.tmp 4, .tmp 5],
 (.seq (.reg false [
  ⟨some 2, none, .box (.m 0), []⟩,
  ⟨some 4, none, .mov (.c (.d (.int .i64 0))), []⟩,
  ⟨some 5, none, .mov (.c (.d (.int .i64 0))), []⟩,
  ⟨none, none, .kill [4, 5], []⟩])
 (.seq (.reg false [
  ⟨some 11, none, .ld (some 4) 0 (.s 2), []⟩,
  ⟨some 12, none, .call 77 [.m 11], []⟩,
  ⟨some 10, none, .mov (.m 12), []⟩,
  ⟨some 13, none, .ext 10 false 0, []⟩,
  ⟨some 14, none, .ext 10 false 1, []⟩,
  ⟨some 6, none, .mov (.m 13), []⟩,
  ⟨some 7, none, .mov (.m 14), []⟩])
 (.seq (.seq (.reg false [
  ⟨some 15, none, .mov (.s 7), []⟩,
  ⟨some 16, none, .bin .neq (.m 15) (.c (.d (.int .i64 0))), []⟩])
 (.cond (.m 16)
 (.seq (K [1, 2, 6]) (.seq (.reg false [
  ⟨some 17, none, .mov (.m 7), []⟩,
  ⟨some 4, none, .mov (.c (.d (.int .i64 0))), []⟩,
  ⟨some 5, none, .mov (.m 17), []⟩])
 .ret))
 (.seq (K [7]) .skip)))
 (.seq (.seq (.reg false [
  ⟨some 18, none, .mov (.s 1), []⟩,
  ⟨some 19, none, .bin .lss (.m 18) (.c (.d (.int .i64 0))), []⟩,
  ⟨some 20, none, .mov (.m 19), []⟩,
  ⟨some 21, (some (20, false)), .mov (.s 1), []⟩,
  ⟨some 22, (some (20, false)), .mov (.s 6), []⟩,
  ⟨some 23, (some (20, false)), .bin .geq (.s 21) (.s 22), []⟩,
  ⟨some 24, none, .pick (.m 20) (.c (.d (.bool true))) (.m 23), []⟩,
  ⟨none, none, .kill [6, 21, 22], []⟩])
 (.cond (.m 24)
 (.seq (K [1, 2]) (.seq (.reg false [
  ⟨some 4, none, .mov (.c (.d (.int .i64 0))), []⟩,
  ⟨some 5, none, .mov (.c (.d (.int .i64 2))), []⟩])
 .ret))
 .skip))
 (.seq (.reg false [
  ⟨some 8, none, .mov (.c (.d (.int .i64 0))), []⟩])
 (.seq (.seq (.reg false [
  ⟨some 25, none, .mov (.m 1), []⟩,
  ⟨some 9, none, .mov (.m 25), []⟩])
 (.block 0
 (.loop
 (.seq (.seq (.reg false [
  ⟨some 26, none, .mov (.s 9), []⟩,
  ⟨some 27, none, .fa 3 (.s 2), []⟩,
  ⟨some 28, none, .ld none 0 (.m 27), []⟩,
  ⟨some 29, none, .mov (.s 8), []⟩,
  ⟨some 30, none, .ia 1 (.m 28) (.m 29), []⟩,
  ⟨some 31, none, .ld none 0 (.m 30), []⟩,
  ⟨some 32, none, .bin .geq (.m 26) (.m 31), []⟩])
 (.cond (.m 32)
 .skip
 (.seq (K [2, 9]) (.exit 0))))
 (.seq (.block 1
 (.reg false [
  ⟨some 35, none, .mov (.m 9), []⟩,
  ⟨some 36, none, .fa 3 (.s 2), []⟩,
  ⟨some 37, none, .ld none 0 (.m 36), []⟩,
  ⟨some 38, none, .mov (.s 8), []⟩,
  ⟨some 39, none, .ia 1 (.m 37) (.m 38), []⟩,
  ⟨some 40, none, .ld none 0 (.m 39), []⟩,
  ⟨some 41, none, .bin .sub (.m 35) (.m 40), []⟩,
  ⟨some 9, none, .mov (.m 41), []⟩]))
 (.reg false [
  ⟨some 33, none, .mov (.m 8), []⟩,
  ⟨some 34, none, .bin .add (.m 33) (.c (.d (.int .i64 1))), []⟩,
  ⟨some 8, none, .mov (.m 34), []⟩,
  ⟨none, none, .kill [35, 36, 37, 38, 39, 40, 41], []⟩]))))))
 (.seq (.reg false [
  ⟨some 42, none, .mov (.m 8), []⟩,
  ⟨some 4, none, .mov (.m 42), []⟩,
  ⟨some 5, none, .mov (.c (.d (.int .i64 0))), []⟩,
  ⟨none, none, .kill [2, 9, 26, 27, 28, 29, 30, 31, 32, 33, 34, 35, 36, 37, 38, 39, 40, 41], []⟩])
 .ret)))))))⟩
def c97 : VFunc := ⟨3, [.tmp 6, .tmp 7],
 (.seq (.reg false [
  ⟨some 3, none, .box (.m 0), []⟩,
  ⟨some 4, none, .box (.m 1), []⟩,
  ⟨some 6, none, .mov (.c (.nl)), []⟩,
  ⟨some 7, none, .mov (.c (.d (.int .i64 0))), []⟩,
  ⟨none, none, .kill [6, 7], []⟩])
 (.seq (.seq (.reg false [
  ⟨some 16, none, .ld (some 4) 0 (.s 4), []⟩,
  ⟨some 17, none, .mov (.s 2), []⟩,
  ⟨some 18, none, .call 131 [.m 16, .m 17], []⟩,
  ⟨some 8, none, .mov (.m 18), []⟩])
 (.seq (.reg false [
  ⟨some 19, none, .mov (.s 8), []⟩,
  ⟨some 20, none, .bin .neq (.m 19) (.c (.d (.int .i64 0))), []⟩])
 (.cond (.m 20)
 (.seq (K [2, 3, 4]) (.seq (.reg false [
  ⟨some 21, none, .mov (.m 8), []⟩,
  ⟨some 6, none, .mov (.c (.nl)), []⟩,
  ⟨some 7, none, .mov (.m 21), []⟩])
 .ret))
 (.seq (K [8]) .skip))))
 (.seq (.reg false [
  ⟨some 23, none, .ld (some 4) 1 (.m 4), []⟩,
  ⟨some 24, none, .call 132 [.m 23], []⟩,
  ⟨some 22, none, .mov (.m 24), []⟩,
  ⟨some 25, none, .ext 22 false 0, []⟩,
  ⟨some 26, none, .ext 22 false 1, []⟩,
  ⟨some 9, none, .alloc [.d (.int .i64 0)], []⟩,
  ⟨none, none, .st 1 (.s 9) (.m 25), []⟩,
  ⟨some 10, none, .mov (.m 26), []⟩])
 (.seq (.reg false [
  ⟨some 28, none, .ld none 0 (.s 3), []⟩,
  ⟨some 29, none, .call 52 [.m 28, .c (.d (.int .i64 0)), .c (.d (.int .i64 0))], []⟩,
  ⟨some 27, none, .mov (.m 29), []⟩,
  ⟨some 30, none, .ext 27 true 0, []⟩,
  ⟨some 31, none, .ext 27 false 1, []⟩,
  ⟨none, none, .st 1 (.s 3) (.m 30), []⟩,
  ⟨none, none, .kill [31], []⟩])
 (.seq (.seq (.reg false [
  ⟨some 32, none, .mov (.m 2), []⟩,
  ⟨some 33, none, .len (.s 32), []⟩,
  ⟨some 34, none, .mov (.c (.d (.int .i64 0))), []⟩])
 (.block 0
 (.loop
 (.seq (.reg false [
  ⟨some 35, none, .bin .lss (.s 34) (.s 33), []⟩])
 (.seq (.cond (.m 35)
 .skip
 (.seq (K [9, 10, 32, 33, 34]) (.exit 0)))
 (.seq (.block 1
 (.seq (.reg false [
  ⟨some 36, none, .ia 1 (.s 32) (.s 34), []⟩,
  ⟨some 37, none, .ld none 0 (.m 36), []⟩,
  ⟨some 12, none, .mov (.m 37), []⟩])
 (.seq (.reg false [
  ⟨some 38, none, .mov (.m 12), []⟩,
  ⟨some 39, none, .len (.s 38), []⟩,
  ⟨some 40, none, .mov (.c (.d (.int .i64 0))), []⟩])
 (.block 2
 (.loop
 (.seq (.reg false [
  ⟨some 41, none, .bin .lss (.s 40) (.s 39), []⟩])
 (.seq (.cond (.m 41)
 .skip
 (.seq (K [38, 39, 40]) (.exit 2)))
 (.seq (.block 3
 (.seq (.reg false [
  ⟨some 42, none, .ia 2 (.s 38) (.s 40), []⟩,
  ⟨some 43, none, .ld (some 2) 0 (.m 42), []⟩,
  ⟨some 14, none, .alloc [.d (.int .i64 0), .d (.int .i64 0)], []⟩,
  ⟨none, none, .st 2 (.s 14) (.m 43), []⟩])
 (.seq (.reg false [
  ⟨some 45, none, .ld none 0 (.s 3), []⟩,
  ⟨some 46, none, .fa 0 (.s 14), []⟩,
  ⟨some 47, none, .ld none 0 (.m 46), []⟩,
  ⟨some 48, none, .call 52 [.m 45, .m 47, .c (.d (.int .i64 4))], []⟩,
  ⟨some 44, none, .mov (.m 48), []⟩,
  ⟨some 49, none, .ext 44 true 0, []⟩,
  ⟨some 50, none, .ext 44 false 1, []⟩,
  ⟨none, none, .st 1 (.s 3) (.m 49), []⟩,
  ⟨none, none, .kill [50], []⟩])
 (.seq (.reg false [
  ⟨some 51, none, .fa 1 (.m 14), []⟩,
  ⟨some 52, none, .ld none 0 (.m 51), []⟩,
  ⟨some 53, none, .mov (.s 10), []⟩,
  ⟨some 54, none, .calli 133 [.m 52, .m 53], []⟩])
 (.block 4
 (.rangeF (.m 54) [55]
 (.reg false [
  ⟨some 15, none, .mov (.m 55), []⟩,
  ⟨none, none, .kill [10, 32, 33, 34, 38, 39, 40], []⟩])
 (.block 5
 (.reg false [
  ⟨some 57, none, .ld none 0 (.s 3), []⟩,
  ⟨some 58, none, .mov (.m 15), []⟩,
  ⟨some 59, none, .ld none 0 (.m 9), []⟩,
  ⟨some 60, none, .call 52 [.m 57, .m 58, .m 59], []⟩,
  ⟨some 56, none, .mov (.m 60), []⟩,
  ⟨some 61, none, .ext 56 true 0, []⟩,
  ⟨some 62, none, .ext 56 false 1, []⟩,
  ⟨none, none, .st 1 (.m 3) (.m 61), []⟩,
  ⟨none, none, .kill [62], []⟩]))))))))
 (.reg false [
  ⟨some 63, none, .bin .add (.m 40) (.c (.d (.int .i64 1))), []⟩,
  ⟨some 40, none, .mov (.m 63), []⟩,
  ⟨none, none, .kill [14, 15, 42, 43, 44, 45, 46, 47, 48, 49, 50, 51, 52, 53, 54, 56, 57, 58, 59, 60, 61, 62], []⟩])))))))))
 (.reg false [
  ⟨some 64, none, .bin .add (.m 34) (.c (.d (.int .i64 1))), []⟩,
  ⟨some 34, none, .mov (.m 64), []⟩,
  ⟨none, none, .kill [12, 14, 15, 36, 37, 38, 39, 40, 41, 42, 43, 44, 45, 46, 47, 48, 49, 50, 51, 52, 53, 54, 56, 57, 58, 59, 60, 61, 62, 63], []⟩])))))))
 (.seq (.reg false [
  ⟨some 65, none, .ld none 1 (.m 3), []⟩,
  ⟨some 6, none, .mov (.m 65), []⟩,
  ⟨some 7, none, .mov (.c (.d (.int .i64 0))), []⟩,
  ⟨none, none, .kill [9, 10, 12, 14, 15, 32, 33, 34, 35, 36, 37, 38, 39, 40, 41, 42, 43, 44, 45, 46, 47, 48, 49, 50, 51, 52, 53, 54, 56, 57, 58, 59, 60, 61, 62, 63, 64], []⟩])
 .ret))))))⟩
def c98 : VFunc := ⟨4, [.tmp 8, .tmp 9],
 (.seq (.reg false [
  ⟨some 4, none, .box (.m 0), []⟩,
  ⟨some 7, none, .box (.m 3), []⟩,
  ⟨some 8, none, .mov (.c (.nl)), []⟩,
  ⟨some 9, none, .mov (.c (.d (.int .i64 0))), []⟩,
  ⟨none, none, .kill [8, 9], []⟩])
 (.seq (.seq (.reg false [
  ⟨some 17, none, .mov (.s 1), []⟩,
  ⟨some 18, none, .mov (.s 2), []⟩,
  ⟨some 19, none, .ld none 0 (.s 7), []⟩,
  ⟨some 20, none, .call 134 [.m 17, .m 18, .m 19], []⟩,
  ⟨some 10, none, .mov (.m 20), []⟩])
 (.seq (.reg false [
  ⟨some 21, none, .mov (.s 10), []⟩,
  ⟨some 22, none, .bin .neq (.m 21) (.c (.d (.int .i64 0))), []⟩])
 (.cond (.m 22)
 (.seq (K [1, 2, 4, 7]) (.seq (.reg false [
  ⟨some 23, none, .mov (.m 10), []⟩,
  ⟨some 8, none, .mov (.c (.nl)), []⟩,
  ⟨some 9, none, .mov (.m 23), []⟩])
 .ret))
 (.seq (K [10]) .skip))))
 (.seq (.reg false [
  ⟨some 25, none, .ld none 0 (.s 4), []⟩,
  ⟨some 26, none, .call 52 [.m 25, .c (.d (.int .i64 0)), .c (.d (.int .i64 0))], []⟩,
  ⟨some 24, none, .mov (.m 26), []⟩,
  ⟨some 27, none, .ext 24 true 0, []⟩,
  ⟨some 28, none, .ext 24 false 1, []⟩,
  ⟨none, none, .st 1 (.s 4) (.m 27), []⟩,
  ⟨none, none, .kill [28], []⟩])
 (.seq (.reg false [
  ⟨some 29, none, .mov (.m 1), []⟩,
  ⟨some 30, none, .build [.d (.int .i64 0), .d (.int .i64 0)] [(0, 1, .m 29), (1, 1, .c (.d (.int .i64 (-1))))], []⟩,
  ⟨some 31, none, .box (.m 30), []⟩,
  ⟨some 11, none, .alloc [.nilp], []⟩,
  ⟨none, none, .st 1 (.s 11) (.m 31), []⟩])
 (.seq (.seq (.reg false [
  ⟨some 32, none, .mov (.m 2), []⟩,
  ⟨some 33, none, .len (.s 32), []⟩,
  ⟨some 34, none, .mov (.c (.d (.int .i64 0))), []⟩])
 (.block 0
 (.loop
 (.seq (.reg false [
  ⟨some 35, none, .bin .lss (.s 34) (.s 33), []⟩])
 (.seq (.cond (.m 35)
 .skip
 (.seq (K [7, 11, 32, 33, 34]) (.exit 0)))
 (.seq (.block 1
 (.seq (.reg false [
  ⟨some 36, none, .mov (.s 34), []⟩,
  ⟨some 37, none, .ia 1 (.s 32) (.s 34), []⟩,
  ⟨some 38, none, .ld none 0 (.m 37), []⟩,
  ⟨some 12, none, .alloc [.d (.int .i64 0)], []⟩,
  ⟨none, none, .st 1 (.s 12) (.m 36), []⟩,
  ⟨some 13, none, .mov (.m 38), []⟩])
 (.seq (.reg false [
  ⟨some 39, none, .mov (.m 13), []⟩,
  ⟨some 40, none, .calli 135 [.m 39], []⟩])
 (.block 2
 (.rangeF (.m 40) [41, 42]
 (.seq (.reg false [
  ⟨some 14, none, .mov (.m 41), []⟩,
  ⟨none, none, .kill [32, 33, 34], []⟩])
 (.reg false [
  ⟨some 15, none, .mov (.m 42), []⟩]))
 (.block 3
 (.seq (.reg false [
  ⟨some 43, none, .ld none 0 (.m 7), []⟩,
  ⟨some 44, none, .ld none 0 (.m 12), []⟩,
  ⟨some 45, none, .ia 1 (.m 43) (.m 44), []⟩,
  ⟨some 46, none, .ld none 0 (.m 45), []⟩,
  ⟨some 47, none, .mov (.m 14), []⟩,
  ⟨some 48, none, .ia 1 (.m 46) (.m 47), []⟩,
  ⟨some 49, none, .ld none 0 (.m 48), []⟩,
  ⟨some 16, none, .mov (.m 49), []⟩])
 (.seq (.block 4
 (.seq (.reg false [
  ⟨some 62, none, .mov (.s 15), []⟩,
  ⟨some 63, none, .bin .eql (.m 62) (.c (.d (.int .i64 0))), []⟩,
  ⟨some 61, none, .mov (.m 63), []⟩])
 (.cond (.m 61)
 (.seq (K [4, 11, 15, 16]) (.exit 3))
 (.seq (.reg false [
  ⟨some 65, none, .mov (.s 15), []⟩,
  ⟨some 66, none, .bin .eql (.m 65) (.c (.d (.int .i64 13))), []⟩,
  ⟨some 67, none, .mov (.m 66), []⟩,
  ⟨some 68, (some (67, true)), .ld none 0 (.s 11), []⟩,
  ⟨some 69, (some (67, true)), .nilck (.s 68), []⟩,
  ⟨some 70, (some (67, true)), .fa 1 (.s 69), []⟩,
  ⟨some 71, (some (67, true)), .ld none 0 (.s 70), []⟩,
  ⟨some 72, (some (67, true)), .bin .lss (.s 71) (.c (.d (.int .i64 0))), []⟩,
  ⟨some 73, none, .pick (.m 67) (.m 72) (.c (.d (.bool false))), []⟩,
  ⟨some 64, none, .mov (.m 73), []⟩,
  ⟨none, none, .kill [68, 69, 70, 71], []⟩])
 (.cond (.m 64)
 (.reg false [
  ⟨some 75, none, .ld none 0 (.s 4), []⟩,
  ⟨some 76, none, .mov (.s 16), []⟩,
  ⟨some 77, none, .call 52 [.m 75, .m 76, .c (.d (.int .i64 9))], []⟩,
  ⟨some 74, none, .mov (.m 77), []⟩,
  ⟨some 78, none, .ext 74 true 0, []⟩,
  ⟨some 79, none, .ext 74 false 1, []⟩,
  ⟨none, none, .st 1 (.m 4) (.m 78), []⟩,
  ⟨none, none, .kill [79], []⟩])
 (.seq (.reg false [
  ⟨some 81, none, .mov (.s 15), []⟩,
  ⟨some 82, none, .bin .eql (.m 81) (.c (.d (.int .i64 13))), []⟩,
  ⟨some 80, none, .mov (.m 82), []⟩])
 (.cond (.m 80)
 (.seq (.regP [0, 1, 2, 3, 4, 5, 6, 7, 8, 9, 10, 11] [0, 1, 2, 3, 4, 5, 6, 7, 8, 9, 11, 10] [] [
  ⟨some 84, none, .ld none 0 (.s 4), []⟩,
  ⟨some 85, none, .mov (.s 16), []⟩,
  ⟨some 86, none, .ld none 0 (.s 11), []⟩,
  ⟨some 87, none, .nilck (.m 86), []⟩,
  ⟨some 88, none, .fa 1 (.m 87), []⟩,
  ⟨some 89, none, .ld none 0 (.m 88), []⟩,
  ⟨some 90, none, .bin .sub (.m 85) (.m 89), []⟩,
  ⟨some 91, none, .call 136 [.m 84, .m 90], []⟩,
  ⟨some 83, none, .mov (.m 91), []⟩,
  ⟨some 92, none, .ext 83 true 0, []⟩,
  ⟨some 93, none, .ext 83 false 1, []⟩,
  ⟨none, none, .st 1 (.s 4) (.m 92), []⟩]) (K [4, 83, 93]))
 (.seq (.regP [0, 1, 2, 3, 4, 5, 6, 7, 8, 9, 10, 11] [0, 1, 2, 3, 4, 5, 6, 7, 8, 9, 11, 10] [] [
  ⟨some 51, none, .ld none 0 (.s 4), []⟩,
  ⟨some 52, none, .mov (.s 16), []⟩,
  ⟨some 53, none, .ld none 0 (.s 11), []⟩,
  ⟨some 54, none, .nilck (.m 53), []⟩,
  ⟨some 55, none, .fa 0 (.m 54), []⟩,
  ⟨some 56, none, .ld none 0 (.m 55), []⟩,
  ⟨some 57, none, .bin .sub (.m 52) (.m 56), []⟩,
  ⟨some 58, none, .call 136 [.m 51, .m 57], []⟩,
  ⟨some 50, none, .mov (.m 58), []⟩,
  ⟨some 59, none, .ext 50 true 0, []⟩,
  ⟨some 60, none, .ext 50 false 1, []⟩,
  ⟨none, none, .st 1 (.s 4) (.m 59), []⟩]) (K [4, 50, 60])))))))))
 (.reg false [
  ⟨some 94, none, .ld none 0 (.m 11), []⟩,
  ⟨some 95, none, .mov (.m 15), []⟩,
  ⟨some 96, none, .mov (.m 16), []⟩,
  ⟨some 97, none, .calli 137 [.m 94, .m 95, .m 96], []⟩,
  ⟨none, none, .kill [50, 51, 52, 53, 54, 55, 56, 57, 58, 59, 60, 61, 62, 63, 64, 65, 66, 67, 68, 69, 70, 71, 72, 73, 74, 75, 76, 77, 78, 79, 80, 81, 82, 83, 84, 85, 86, 87, 88, 89, 90, 91, 92, 93, 97], []⟩])))))))))
 (.reg false [
  ⟨some 98, none, .bin .add (.m 34) (.c (.d (.int .i64 1))), []⟩,
  ⟨some 34, none, .mov (.m 98), []⟩,
  ⟨none, none, .kill [12, 13, 14, 15, 16, 36, 37, 38, 39, 40, 43, 44, 45, 46, 47, 48, 49, 50, 51, 52, 53, 54, 55, 56, 57, 58, 59, 60, 61, 62, 63, 64, 65, 66, 67, 68, 69, 70, 71, 72, 73, 74, 75, 76, 77, 78, 79, 80, 81, 82, 83, 84, 85, 86, 87, 88, 89, 90, 91, 92, 93, 94, 95, 96, 97], []⟩])))))))
 (.seq (.reg false [
  ⟨some 99, none, .ld none 1 (.m 4), []⟩,
  ⟨some 8, none, .mov (.m 99), []⟩,
  ⟨some 9, none, .mov (.c (.d (.int .i64 0))), []⟩,
  ⟨none, none, .kill [7, 11, 12, 13, 14, 15, 16, 32, 33, 34, 35, 36, 37, 38, 39, 40, 43, 44, 45, 46, 47, 48, 49, 50, 51, 52, 53, 54, 55, 56, 57, 58, 59, 60, 61, 62, 63, 64, 65, 66, 67, 68, 69, 70, 71, 72, 73, 74, 75, 76, 77, 78, 79, 80, 81, 82, 83, 84, 85, 86, 87, 88, 89, 90, 91, 92, 93, 94, 95, 96, 97, 98], []⟩])
 .ret))))))⟩
def c99 : VFunc := ⟨1, [.tmp 2],
 (.seq (.reg false [
  ⟨some 2, none, .mov (.c (.d (.bool false))), []⟩,
  ⟨none, none, .kill [2], []⟩])
 (.seq (.reg false [
  ⟨some 3, none, .mov (.m 0), []⟩,
  ⟨some 4, none, .calli 138 [.m 3, .c (.fn 139 [] [])], []⟩,
  ⟨some 2, none, .mov (.m 4), []⟩])
 .ret))⟩
def c101 : VFunc := ⟨3, [.tmp 6],
 (.seq (.reg false [
  ⟨some 4, none, .box (.m 1), []⟩,
  ⟨some 5, none, .box (.m 2), []⟩,
  ⟨some 6, none, .mov (.c (.nilf)), []⟩,
  ⟨none, none, .kill [6], []⟩])
 (.seq (.reg false [
  ⟨some 10, none, .mov (.m 0), []⟩,
  ⟨some 11, none, .fa 0 (.s 4), []⟩,
  ⟨some 12, none, .ld none 0 (.m 11), []⟩,
  ⟨some 13, none, .bin .eql (.m 12) (.c (.d (.int .u8 2))), []⟩,
  ⟨some 14, none, .call 128 [.m 10, .m 13], []⟩,
  ⟨some 9, none, .mov (.m 14), []⟩,
  ⟨some 15, none, .ext 9 true 0, []⟩,
  ⟨some 16, none, .ext 9 false 1, []⟩,
  ⟨some 7, none, .alloc [.nl], []⟩,
  ⟨none, none, .st 1 (.s 7) (.m 15), []⟩,
  ⟨some 8, none, .mov (.m 16), []⟩,
  ⟨none, none, .kill [8], []⟩])
 (.seq (.reg false [
  ⟨some 17, none, .mkfn 146 [] [.m 5, .m 4, .m 7], []⟩,
  ⟨some 6, none, .mov (.m 17), []⟩])
 .ret)))⟩
def c105 : VFunc := ⟨2, [.tmp 4, .tmp 5],
 (.seq (.reg false [
  ⟨some 4, none, .mov (.c (.d (.int .i64 0))), []⟩,
  ⟨some 5, none, .mov (.c (.d (.int .i64 0))), []⟩,
  ⟨none, none, .kill [4, 5], []⟩])
 (.seq (.reg false [
  ⟨some 9, none, .mov (.m 0), []⟩,
  ⟨some 10, none, .mov (.m 1), []⟩,
  ⟨some 11, none, .call 128 [.m 9, .m 10], []⟩,
  ⟨some 8, none, .mov (.m 11), []⟩,
  ⟨some 12, none, .ext 8 true 0, []⟩,
  ⟨some 13, none, .ext 8 false 1, []⟩,
  ⟨some 6, none, .mov (.m 12), []⟩,
  ⟨some 7, none, .mov (.m 13), []⟩])
 (.seq (.reg false [
  ⟨some 14, none, .mov (.m 6), []⟩,
  ⟨some 15, none, .len (.m 14), []⟩,
  ⟨some 16, none, .bin .sub (.m 15) (.c (.d (.int .i64 1))), []⟩,
  ⟨some 17, none, .minmax true [.m 16, .c (.d (.int .i64 0))], []⟩,
  ⟨some 18, none, .mov (.m 7), []⟩,
  ⟨some 4, none, .mov (.m 17), []⟩,
  ⟨some 5, none, .mov (.m 18), []⟩])
 .ret)))⟩
def c121 : VFunc := ⟨1, [.tmp 2],
 (.seq (.reg false [
  ⟨some 1, none, .box (.m 0), []⟩,
  ⟨some 2, none, .mov (.c (.d (.bool false))), []⟩,
  ⟨none, none, .kill [2], []⟩])
 (.seq (.seq (.reg false [
  ⟨some 6, none, .fa 0 (.s 1), []⟩,
  ⟨some 7, none, .ld none 0 (.m 6), []⟩,
  ⟨some 8, none, .bin .neq (.m 7) (.c (.d (.int .u8 2))), []⟩])
 (.cond (.m 8)
 (.seq (.reg false [
  ⟨some 9, none, .fa 3 (.m 1), []⟩,
  ⟨some 10, none, .ld none 0 (.m 9), []⟩,
  ⟨some 11, none, .mks 1 [.c (.d (.int .i64 1))], []⟩,
  ⟨some 12, none, .call 88 [.m 10, .m 11], []⟩,
  ⟨some 2, none, .mov (.m 12), []⟩])
 .ret)
 .skip))
 (.seq (.reg false [
  ⟨some 3, none, .mov (.c (.d (.int .i64 0))), []⟩])
 (.seq (.seq (.reg false [
  ⟨some 13, none, .fa 3 (.s 1), []⟩,
  ⟨some 14, none, .ld none 0 (.m 13), []⟩,
  ⟨some 15, none, .len (.s 14), []⟩,
  ⟨some 16, none, .mov (.c (.d (.int .i64 0))), []⟩])
 (.block 0
 (.loop
 (.seq (.reg false [
  ⟨some 17, none, .bin .lss (.s 16) (.s 15), []⟩])
 (.seq (.cond (.m 17)
 .skip
 (.seq (K [14, 15, 16]) (.exit 0)))
 (.seq (.block 1
 (.seq (.reg false [
  ⟨some 18, none, .ia 1 (.s 14) (.s 16), []⟩,
  ⟨some 19, none, .ld none 0 (.m 18), []⟩,
  ⟨some 5, none, .mov (.m 19), []⟩])
 (.seq (.seq (.reg false [
  ⟨some 20, none, .mov (.s 5), []⟩,
  ⟨some 21, none, .bin .lss (.m 20) (.c (.d (.int .i64 1))), []⟩,
  ⟨some 22, none, .mov (.m 21), []⟩,
  ⟨some 23, (some (22, false)), .mov (.s 5), []⟩,
  ⟨some 24, (some (22, false)), .bin .gtr (.s 23) (.c (.d (.int .i64 8))), []⟩,
  ⟨some 25, none, .pick (.m 22) (.c (.d (.bool true))) (.m 24), []⟩,
  ⟨none, none, .kill [23], []⟩])
 (.cond (.m 25)
 (.seq (K [1, 3, 5, 14, 15, 16]) (.seq (.reg false [
  ⟨some 2, none, .mov (.c (.d (.bool false))), []⟩])
 .ret))
 .skip))
 (.reg false [
  ⟨some 26, none, .mov (.m 3), []⟩,
  ⟨some 27, none, .mov (.m 5), []⟩,
  ⟨some 28, none, .bin .add (.m 26) (.m 27), []⟩,
  ⟨some 3, none, .mov (.m 28), []⟩]))))
 (.reg false [
  ⟨some 29, none, .bin .add (.m 16) (.c (.d (.int .i64 1))), []⟩,
  ⟨some 16, none, .mov (.m 29), []⟩,
  ⟨none, none, .kill [2, 5, 18, 19, 20, 21, 22, 23, 24, 25, 26, 27, 28], []⟩])))))))
 (.seq (.reg false [
  ⟨some 30, none, .mov (.m 3), []⟩,
  ⟨some 31, none, .bin .eql (.m 30) (.c (.d (.int .i64 8))), []⟩,
  ⟨some 32, none, .mov (.m 31), []⟩,
  ⟨some 33, (some (32, true)), .fa 3 (.s 1), []⟩,
  ⟨some 34, (some (32, true)), .ld none 0 (.s 33), []⟩,
  ⟨some 35, (some (32, true)), .len (.s 34), []⟩,
  ⟨some 36, (some (32, true)), .bin .leq (.s 35) (.c (.d (.int .i64 8))), []⟩,
  ⟨some 37, none, .pick (.m 32) (.m 36) (.c (.d (.bool false))), []⟩,
  ⟨some 2, none, .mov (.m 37), []⟩,
  ⟨none, none, .kill [1, 5, 14, 15, 16, 17, 18, 19, 20, 21, 22, 23, 24, 25, 26, 27, 28, 29, 33, 34, 35], []⟩])
 .ret)))))⟩
def c122 : VFunc := ⟨1, [.tmp 2],
 (.seq (.reg false [
  ⟨some 1, none, .box (.m 0), []⟩,
  ⟨some 2, none, .mov (.c (.d (.bool false))), []⟩,
  ⟨none, none, .kill [2], []⟩])
 (.seq (.reg false [
  ⟨some 3, none, .ld (some 4) 1 (.m 1), []⟩,
  ⟨some 4, none, .call 76 [.c (.d (.int .i64 11)), .m 3], []⟩,
  ⟨some 5, none, .bin .eql (.m 4) (.c (.d (.int .i64 0))), []⟩,
  ⟨some 2, none, .mov (.m 5), []⟩])
 .ret))⟩
def c125 : VFunc := ⟨2, [.tmp 4],
 (.seq (.reg false [
  ⟨some 4, none, .mov (.c (.d (.bool false))), []⟩,
  ⟨none, none, .kill [4], []⟩])
 (.seq (.reg false [
  ⟨some 5, none, .mov (.m 0), []⟩,
  ⟨some 6, none, .mov (.m 1), []⟩,
  ⟨some 7, none, .calli 167 [.m 5, .m 6], []⟩,
  ⟨some 8, none, .bin .geq (.m 7) (.c (.d (.int .i64 0))), []⟩,
  ⟨some 4, none, .mov (.m 8), []⟩])
 .ret))⟩
def c128 : VFunc := ⟨2, [.tmp 4, .tmp 5],
 (.seq (.reg false [
  ⟨some 4, none, .mov (.c (.nl)), []⟩,
  ⟨some 5, none, .mov (.c (.d (.int .i64 0))), []⟩,
  ⟨none, none, .kill [4, 5], []⟩])
 (.scope
 (.seq (.seq (.reg false [
  ⟨some 11, none, .mov (.s 0), []⟩,
  ⟨some 12, none, .bin .lss (.m 11) (.c (.d (.int .i64 0))), []⟩,
  ⟨some 13, none, .mov (.m 12), []⟩,
  ⟨some 14, (some (13, false)), .mov (.s 0), []⟩,
  ⟨some 15, (some (13, false)), .bin .gtr (.s 14) (.c (.d (.int .i64 11))), []⟩,
  ⟨some 16, none, .pick (.m 13) (.c (.d (.bool true))) (.m 15), []⟩,
  ⟨none, none, .kill [14], []⟩])
 (.cond (.m 16)
 (.seq (K [0, 1]) (.seq (.reg false [
  ⟨some 4, none, .mov (.c (.nl)), []⟩,
  ⟨some 5, none, .mov (.c (.d (.int .i64 2))), []⟩])
 .ret))
 .skip))
 (.seq (.reg false [
  ⟨some 17, none, .mov (.m 0), []⟩,
  ⟨some 18, none, .bin .sub (.c (.d (.int .i64 11))) (.m 17), []⟩,
  ⟨some 19, none, .bin .quo (.m 18) (.c (.d (.int .i64 2))), []⟩,
  ⟨some 20, none, .bin .add (.c (.d (.int .i64 3))) (.m 19), []⟩,
  ⟨some 6, none, .mov (.m 20), []⟩,
  ⟨some 7, none, .mov (.c (.d (.int .i64 256))), []⟩,
  ⟨some 8, none, .mov (.c (.d (.int .i64 256))), []⟩])
 (.seq (.seq (.reg false [
  ⟨some 21, none, .mov (.m 1), []⟩])
 (.cond (.m 21)
 (.seq (K [7, 8]) (.reg false [
  ⟨some 7, none, .mov (.c (.d (.int .i64 32))), []⟩,
  ⟨some 8, none, .mov (.c (.d (.int .i64 64))), []⟩]))
 .skip))
 (.seq (.reg false [
  ⟨some 9, none, .mov (.c (.nl)), []⟩])
 (.seq (.reg false [
  ⟨some 10, none, .mov (.c (.d (.int .i64 0))), []⟩])
 (.seq (.label 0)
 (.seq (.reg false [
  ⟨some 22, none, .mov (.m 9), []⟩,
  ⟨some 23, none, .mov (.s 10), []⟩,
  ⟨some 24, none, .mks 1 [.m 23], []⟩,
  ⟨some 25, none, .app 1 (.m 22) (.m 24), []⟩,
  ⟨some 9, none, .mov (.m 25), []⟩])
 (.seq (.seq (.reg false [
  ⟨some 26, none, .mov (.s 10), []⟩,
  ⟨some 27, none, .mov (.s 7), []⟩,
  ⟨some 28, none, .bin .lss (.m 26) (.m 27), []⟩])
 (.cond (.m 28)
 (.seq (.reg false [
  ⟨some 29, none, .mov (.s 7), []⟩,
  ⟨some 30, none, .mov (.s 10), []⟩,
  ⟨some 31, none, .bin .add (.m 30) (.c (.d (.int .i64 4))), []⟩,
  ⟨some 32, none, .mov (.m 10), []⟩,
  ⟨some 33, none, .mov (.s 6), []⟩,
  ⟨some 34, none, .bin .mul (.m 32) (.m 33), []⟩,
  ⟨some 35, none, .mov (.s 8), []⟩,
  ⟨some 36, none, .bin .quo (.m 34) (.m 35), []⟩,
  ⟨some 37, none, .bin .mul (.c (.d (.int .i64 4))) (.m 36), []⟩,
  ⟨some 38, none, .bin .add (.m 31) (.m 37), []⟩,
  ⟨some 39, none, .minmax false [.m 29, .m 38], []⟩,
  ⟨some 10, none, .mov (.m 39), []⟩])
 (.goto 0))
 (.seq (K [6, 7, 8, 10]) .skip)))
 (.seq (.reg false [
  ⟨some 40, none, .mov (.m 9), []⟩,
  ⟨some 4, none, .mov (.m 40), []⟩,
  ⟨some 5, none, .mov (.c (.d (.int .i64 0))), []⟩])
 .ret)))))))))))⟩
def c130 : VFunc := ⟨3, [],
 (.seq (.reg false [
  ⟨some 5, none, .ld none 0 (.m 1), []⟩,
  ⟨some 6, none, .bin .sub (.m 5) (.c (.d (.int .i64 1))), []⟩,
  ⟨some 4, none, .mov (.m 6), []⟩])
 (.block 0
 (.loop
 (.seq (.seq (.reg false [
  ⟨some 7, none, .mov (.s 4), []⟩,
  ⟨some 8, none, .bin .geq (.m 7) (.c (.d (.int .i64 0))), []⟩])
 (.cond (.m 8)
 .skip
 (.seq (K [0, 2, 4]) (.exit 0))))
 (.seq (.block 1
 (.seq (.reg false [
  ⟨some 11, none, .mov (.s 0), []⟩,
  ⟨some 12, none, .ld none 0 (.s 2), []⟩,
  ⟨some 13, none, .mov (.s 4), []⟩,
  ⟨some 14, none, .bin .shr (.m 12) (.m 13), []⟩,
  ⟨some 15, none, .bin .and (.m 14) (.c (.d (.int .i64 1))), []⟩,
  ⟨some 16, none, .conv .u8 (.m 15), []⟩,
  ⟨some 17, none, .callv (.m 11) [.m 16], []⟩,
  ⟨some 18, none, .un .not (.m 17), []⟩])
 (.cond (.m 18)
 (.seq (K [0, 2, 4]) .ret)
 .skip)))
 (.reg false [
  ⟨some 9, none, .mov (.m 4), []⟩,
  ⟨some 10, none, .bin .sub (.m 9) (.c (.d (.int .i64 1))), []⟩,
  ⟨some 4, none, .mov (.m 10), []⟩,
  ⟨none, none, .kill [11, 12, 13, 14, 15, 16, 17, 18], []⟩]))))))⟩
def c131 : VFunc := ⟨2, [.tmp 4],
 (.seq (.reg false [
  ⟨some 2, none, .box (.m 0), []⟩,
  ⟨some 4, none, .mov (.c (.d (.int .i64 0))), []⟩,
  ⟨none, none, .kill [4], []⟩])
 (.seq (.seq (.reg false [
  ⟨some 13, none, .ld (some 4) 0 (.s 2), []⟩,
  ⟨some 14, none, .call 77 [.m 13], []⟩,
  ⟨some 12, none, .mov (.m 14), []⟩,
  ⟨some 15, none, .ext 12 false 0, []⟩,
  ⟨some 16, none, .ext 12 false 1, []⟩,
  ⟨some 5, none, .mov (.m 15), []⟩,
  ⟨some 6, none, .mov (.m 16), []⟩,
  ⟨none, none, .kill [5], []⟩])
 (.seq (.reg false [
  ⟨some 17, none, .mov (.s 6), []⟩,
  ⟨some 18, none, .bin .neq (.m 17) (.c (.d (.int .i64 0))), []⟩])
 (.cond (.m 18)
 (.seq (K [1, 2]) (.seq (.reg false [
  ⟨some 19, none, .mov (.m 6), []⟩,
  ⟨some 4, none, .mov (.m 19), []⟩])
 .ret))
 (.seq (K [6]) .skip))))
 (.seq (.seq (.reg false [
  ⟨some 20, none, .mov (.s 1), []⟩,
  ⟨some 21, none, .len (.m 20), []⟩,
  ⟨some 22, none, .fa 3 (.s 2), []⟩,
  ⟨some 23, none, .ld none 0 (.m 22), []⟩,
  ⟨some 24, none, .len (.m 23), []⟩,
  ⟨some 25, none, .bin .neq (.m 21) (.m 24), []⟩])
 (.cond (.m 25)
 (.seq (K [1, 2]) (.seq (.reg false [
  ⟨some 4, none, .mov (.c (.d (.int .i64 8))), []⟩])
 .ret))
 .skip))
 (.seq (.seq (.reg false [
  ⟨some 26, none, .mov (.m 1), []⟩,
  ⟨some 27, none, .len (.s 26), []⟩,
  ⟨some 28, none, .mov (.c (.d (.int .i64 0))), []⟩])
 (.block 0
 (.loop
 (.seq (.reg false [
  ⟨some 29, none, .bin .lss (.s 28) (.s 27), []⟩])
 (.seq (.cond (.m 29)
 .skip
 (.seq (K [2, 26, 27, 28]) (.exit 0)))
 (.seq (.block 1
 (.seq (.reg false [
  ⟨some 30, none, .ia 1 (.s 26) (.s 28), []⟩,
  ⟨some 31, none, .ld none 0 (.m 30), []⟩,
  ⟨some 8, none, .mov (.m 31), []⟩])
 (.seq (.reg false [
  ⟨some 32, none, .fa 2 (.s 2), []⟩,
  ⟨some 33, none, .ld none 0 (.m 32), []⟩,
  ⟨some 9, none, .mov (.m 33), []⟩])
 (.seq (.seq (.reg false [
  ⟨some 34, none, .mov (.m 8), []⟩,
  ⟨some 35, none, .len (.s 34), []⟩,
  ⟨some 36, none, .mov (.c (.d (.int .i64 0))), []⟩])
 (.block 2
 (.loop
 (.seq (.reg false [
  ⟨some 37, none, .bin .lss (.s 36) (.s 35), []⟩])
 (.seq (.cond (.m 37)
 .skip
 (.seq (K [34, 35, 36]) (.exit 2)))
 (.seq (.block 3
 (.seq (.reg false [
  ⟨some 38, none, .ia 2 (.s 34) (.s 36), []⟩,
  ⟨some 39, none, .ld (some 2) 0 (.m 38), []⟩,
  ⟨some 11, none, .alloc [.d (.int .i64 0), .d (.int .i64 0)], []⟩,
  ⟨none, none, .st 2 (.s 11) (.m 39), []⟩])
 (.seq (.seq (.reg false [
  ⟨some 40, none, .ld (some 2) 0 (.s 11), []⟩,
  ⟨some 41, none, .mov (.s 9), []⟩,
  ⟨some 42, none, .call 159 [.m 40, .m 41], []⟩,
  ⟨some 43, none, .un .not (.m 42), []⟩])
 (.cond (.m 43)
 (.seq (K [2, 9, 11, 26, 27, 28, 34, 35, 36]) (.seq (.reg false [
  ⟨some 4, none, .mov (.c (.d (.int .i64 8))), []⟩])
 .ret))
 .skip))
 (.reg false [
  ⟨some 44, none, .mov (.m 9), []⟩,
  ⟨some 45, none, .fa 1 (.m 11), []⟩,
  ⟨some 46, none, .ld none 0 (.m 45), []⟩,
  ⟨some 47, none, .bin .sub (.m 44) (.m 46), []⟩,
  ⟨some 9, none, .mov (.m 47), []⟩]))))
 (.reg false [
  ⟨some 48, none, .bin .add (.m 36) (.c (.d (.int .i64 1))), []⟩,
  ⟨some 36, none, .mov (.m 48), []⟩,
  ⟨none, none, .kill [4, 11, 38, 39, 40, 41, 42, 43, 44, 45, 46, 47], []⟩])))))))
 (.seq (.reg false [
  ⟨some 49, none, .mov (.m 9), []⟩,
  ⟨some 50, none, .bin .neq (.m 49) (.c (.d (.int .i64 0))), []⟩,
  ⟨none, none, .kill [4, 11, 34, 35, 36, 37, 38, 39, 40, 41, 42, 43, 44, 45, 46, 47, 48], []⟩])
 (.cond (.m 50)
 (.seq (K [2, 26, 27, 28]) (.seq (.reg false [
  ⟨some 4, none, .mov (.c (.d (.int .i64 8))), []⟩])
 .ret))
 .skip))))))
 (.reg false [
  ⟨some 51, none, .bin .add (.m 28) (.c (.d (.int .i64 1))), []⟩,
  ⟨some 28, none, .mov (.m 51), []⟩,
  ⟨none, none, .kill [4, 8, 9, 11, 30, 31, 32, 33, 34, 35, 36, 37, 38, 39, 40, 41, 42, 43, 44, 45, 46, 47, 48, 49, 50], []⟩])))))))
 (.seq (.reg false [
  ⟨some 4, none, .mov (.c (.d (.int .i64 0))), []⟩,
  ⟨none, none, .kill [2, 8, 9, 11, 26, 27, 28, 29, 30, 31, 32, 33, 34, 35, 36, 37, 38, 39, 40, 41, 42, 43, 44, 45, 46, 47, 48, 49, 50, 51], []⟩])
 .ret)))))⟩
def c132 : VFunc := ⟨1, [.tmp 2, .tmp 3],
 (.seq (.reg false [
  ⟨some 1, none, .box (.m 0), []⟩,
  ⟨some 2, none, .mov (.c (.d (.int .i64 0))), []⟩,
  ⟨some 3, none, .mov (.c (.d (.int .i64 0))), []⟩,
  ⟨none, none, .kill [2, 3], []⟩])
 (.seq (.reg false [
  ⟨some 2, none, .mov (.c (.d (.int .i64 5))), []⟩])
 (.seq (.seq (.reg false [
  ⟨some 4, none, .fa 0 (.m 1), []⟩,
  ⟨some 5, none, .ld none 0 (.m 4), []⟩,
  ⟨some 6, none, .bin .eql (.m 5) (.c (.d (.int .u8 2))), []⟩])
 (.cond (.m 6)
 (.seq (K [2]) (.reg false [
  ⟨some 2, none, .mov (.c (.d (.int .i64 3))), []⟩]))
 .skip))
 (.seq (.reg true [
  ⟨some 7, none, .mov (.s 2), []⟩,
  ⟨some 8, none, .mov (.s 2), []⟩,
  ⟨some 9, none, .bin .shl (.c (.d (.int .i64 1))) (.m 8), []⟩,
  ⟨some 10, none, .bin .sub (.m 9) (.c (.d (.int .i64 1))), []⟩,
  ⟨some 2, none, .mov (.m 7), []⟩,
  ⟨some 3, none, .mov (.m 10), []⟩])
 .ret))))⟩
def c134 : VFunc := ⟨3, [.cell 6 none],
 (.seq (.reg false [
  ⟨some 5, none, .box (.m 2), []⟩,
  ⟨some 6, none, .alloc [.d (.int .i64 0)], []⟩])
 (.seq (.seq (.reg false [
  ⟨some 13, none, .mov (.s 0), []⟩,
  ⟨some 14, none, .mov (.s 1), []⟩,
  ⟨some 15, none, .call 160 [.m 13, .m 14], []⟩,
  ⟨some 16, none, .un .not (.m 15), []⟩,
  ⟨some 17, none, .mov (.m 16), []⟩,
  ⟨some 18, (some (17, false)), .mov (.s 1), []⟩,
  ⟨some 19, (some (17, false)), .len (.s 18), []⟩,
  ⟨some 20, (some (17, false)), .ld none 0 (.s 5), []⟩,
  ⟨some 21, (some (17, false)), .len (.s 20), []⟩,
  ⟨some 22, (some (17, false)), .bin .neq (.s 19) (.s 21), []⟩,
  ⟨some 23, none, .pick (.m 17) (.c (.d (.bool true))) (.m 22), []⟩,
  ⟨none, none, .kill [18, 19, 20, 21], []⟩])
 (.cond (.m 23)
 (.seq (K [0, 1, 5]) (.seq (.reg false [
  ⟨none, none, .st 1 (.s 6) (.c (.d (.int .i64 8))), []⟩])
 .ret))
 .skip))
 (.seq (.reg false [
  ⟨some 24, none, .mov (.m 0), []⟩,
  ⟨some 25, none, .build [.d (.int .i64 0), .d (.int .i64 0)] [(0, 1, .m 24), (1, 1, .c (.d (.int .i64 (-1))))], []⟩,
  ⟨some 26, none, .box (.m 25), []⟩,
  ⟨some 7, none, .alloc [.nilp], []⟩,
  ⟨none, none, .st 1 (.s 7) (.m 26), []⟩])
 (.seq (.seq (.reg false [
  ⟨some 27, none, .mov (.m 1), []⟩,
  ⟨some 28, none, .len (.s 27), []⟩,
  ⟨some 29, none, .mov (.c (.d (.int .i64 0))), []⟩])
 (.block 0
 (.loop
 (.seq (.reg false [
  ⟨some 30, none, .bin .lss (.s 29) (.s 28), []⟩])
 (.seq (.cond (.m 30)
 .skip
 (.seq (K [5, 7, 27, 28, 29]) (.exit 0)))
 (.seq (.block 1
 (.seq (.reg false [
  ⟨some 31, none, .mov (.s 29), []⟩,
  ⟨some 32, none, .ia 1 (.s 27) (.s 29), []⟩,
  ⟨some 33, none, .ld none 0 (.m 32), []⟩,
  ⟨some 8, none, .alloc [.d (.int .i64 0)], []⟩,
  ⟨none, none, .st 1 (.s 8) (.m 31), []⟩,
  ⟨some 9, none, .mov (.m 33), []⟩])
 (.seq (.reg false [
  ⟨some 10, none, .alloc [.d (.int .i64 0)], []⟩,
  ⟨none, none, .st 1 (.s 10) (.c (.d (.int .i64 0))), []⟩])
 (.seq (.seq (.reg false [
  ⟨some 34, none, .mov (.m 9), []⟩,
  ⟨some 35, none, .calli 135 [.m 34], []⟩])
 (.block 2
 (.rangeF (.m 35) [36, 37]
 (.seq (.reg false [
  ⟨some 11, none, .mov (.m 36), []⟩,
  ⟨none, none, .kill [27, 28, 29], []⟩])
 (.reg false [
  ⟨some 12, none, .mov (.m 37), []⟩]))
 (.block 3
 (.seq (.reg false [
  ⟨some 38, none, .ld none 0 (.s 10), []⟩,
  ⟨some 39, none, .bin .add (.m 38) (.c (.d (.int .i64 1))), []⟩,
  ⟨none, none, .st 1 (.m 10) (.m 39), []⟩])
 (.seq (.seq (.regP [0, 1, 2, 3, 4, 5, 6, 7, 8, 9, 10, 11, 12, 13, 14, 15, 16, 17, 18, 19, 20, 21, 22, 23, 24, 25, 26, 27, 28, 29, 30, 31, 32, 33, 34, 35, 36, 37] [0, 1, 2, 3, 4, 5, 6, 7, 8, 9, 10, 11, 12, 13, 14, 15, 16, 17, 18, 19, 20, 21, 22, 23, 24, 25, 26, 27, 28, 29, 30, 31, 32, 33, 34, 35, 36, 37] [] [
  ⟨some 40, none, .mov (.s 11), []⟩,
  ⟨some 41, none, .ld none 0 (.s 5), []⟩,
  ⟨some 42, none, .ld none 0 (.s 8), []⟩,
  ⟨some 43, none, .ia 1 (.m 41) (.m 42), []⟩,
  ⟨some 44, none, .ld none 0 (.m 43), []⟩,
  ⟨some 45, none, .len (.m 44), []⟩,
  ⟨some 46, none, .bin .geq (.m 40) (.m 45), []⟩,
  ⟨some 47, none, .mov (.m 46), []⟩,
  ⟨some 48, (some (47, false)), .mov (.s 12), []⟩,
  ⟨some 49, (some (47, false)), .bin .eql (.s 48) (.c (.d (.int .i64 0))), []⟩,
  ⟨some 50, (some (47, false)), .mov (.s 49), []⟩,
  ⟨some 51, (some (50, true)), .ld none 0 (.s 5), []⟩,
  ⟨some 52, (some (50, true)), .ld none 0 (.s 8), []⟩,
  ⟨some 53, (some (50, true)), .ia 1 (.s 51) (.s 52), []⟩,
  ⟨some 54, (some (50, true)), .ld none 0 (.s 53), []⟩,
  ⟨some 55, (some (50, true)), .mov (.s 11), []⟩,
  ⟨some 56, (some (50, true)), .ia 1 (.s 54) (.s 55), []⟩,
  ⟨some 57, (some (50, true)), .ld none 0 (.s 56), []⟩,
  ⟨some 58, (some (50, true)), .bin .neq (.s 57) (.c (.d (.int .i64 0))), []⟩,
  ⟨some 59, (some (47, false)), .pick (.s 50) (.s 58) (.c (.d (.bool false))), []⟩,
  ⟨some 60, none, .pick (.s 47) (.c (.d (.bool true))) (.m 59), []⟩,
  ⟨some 61, none, .mov (.m 60), []⟩,
  ⟨some 62, (some (61, false)), .mov (.s 12), []⟩,
  ⟨some 63, (some (61, false)), .bin .gtr (.s 62) (.c (.d (.int .i64 0))), []⟩,
  ⟨some 64, (some (61, false)), .mov (.s 63), []⟩,
  ⟨some 65, (some (64, true)), .ld none 0 (.s 7), []⟩,
  ⟨some 66, (some (64, true)), .mov (.s 12), []⟩,
  ⟨some 67, (some (64, true)), .ld none 0 (.s 5), []⟩,
  ⟨some 68, (some (64, true)), .ld none 0 (.s 8), []⟩,
  ⟨some 69, (some (64, true)), .ia 1 (.s 67) (.s 68), []⟩,
  ⟨some 70, (some (64, true)), .ld none 0 (.s 69), []⟩,
  ⟨some 71, (some (64, true)), .mov (.s 11), []⟩,
  ⟨some 72, (some (64, true)), .ia 1 (.s 70) (.s 71), []⟩,
  ⟨some 73, (some (64, true)), .ld none 0 (.s 72), []⟩,
  ⟨some 74, (some (64, true)), .calli 137 [.s 65, .s 66, .s 73], []⟩,
  ⟨some 75, (some (64, true)), .un .not (.s 74), []⟩,
  ⟨some 76, (some (61, false)), .pick (.s 64) (.s 75) (.c (.d (.bool false))), []⟩,
  ⟨some 77, none, .pick (.s 61) (.c (.d (.bool true))) (.m 76), []⟩]) (K [5, 7, 8, 11, 12, 47, 48, 49, 50, 51, 52, 53, 54, 55, 56, 57, 58, 61, 62, 63, 64, 65, 66, 67, 68, 69, 70, 71, 72, 73, 74, 75]))
 (.cond (.m 77)
 (.seq (.reg false [
  ⟨none, none, .st 1 (.m 6) (.c (.d (.int .i64 8))), []⟩])
 .ret)
 (.seq (K [6]) .skip))))))))
 (.seq (.seq (.reg true [
  ⟨some 78, none, .ld none 0 (.m 10), []⟩,
  ⟨some 79, none, .ld none 0 (.s 5), []⟩,
  ⟨some 80, none, .ld none 0 (.m 8), []⟩,
  ⟨some 81, none, .ia 1 (.m 79) (.m 80), []⟩,
  ⟨some 82, none, .ld none 0 (.m 81), []⟩,
  ⟨some 83, none, .len (.m 82), []⟩,
  ⟨some 84, none, .bin .neq (.m 78) (.m 83), []⟩]) (K [11, 12, 35, 38, 39, 40, 41, 42, 43, 44, 45, 46, 47, 48, 49, 50, 51, 52, 53, 54, 55, 56, 57, 58, 59, 60, 61, 62, 63, 64, 65, 66, 67, 68, 69, 70, 71, 72, 73, 74, 75, 76, 77]))
 (.cond (.m 84)
 (.seq (K [5, 7, 27, 28, 29]) (.seq (.reg false [
  ⟨none, none, .st 1 (.s 6) (.c (.d (.int .i64 8))), []⟩])
 .ret))
 .skip))))))
 (.reg false [
  ⟨some 85, none, .bin .add (.m 29) (.c (.d (.int .i64 1))), []⟩,
  ⟨some 29, none, .mov (.m 85), []⟩,
  ⟨none, none, .kill [8, 9, 10, 11, 12, 31, 32, 33, 34, 35, 38, 39, 40, 41, 42, 43, 44, 45, 46, 47, 48, 49, 50, 51, 52, 53, 54, 55, 56, 57, 58, 59, 60, 61, 62, 63, 64, 65, 66, 67, 68, 69, 70, 71, 72, 73, 74, 75, 76, 77, 78, 79, 80, 81, 82, 83, 84], []⟩])))))))
 (.seq (.reg false [
  ⟨none, none, .st 1 (.s 6) (.c (.d (.int .i64 0))), []⟩,
  ⟨none, none, .kill [5, 7, 8, 9, 10, 11, 12, 27, 28, 29, 30, 31, 32, 33, 34, 35, 38, 39, 40, 41, 42, 43, 44, 45, 46, 47, 48, 49, 50, 51, 52, 53, 54, 55, 56, 57, 58, 59, 60, 61, 62, 63, 64, 65, 66, 67, 68, 69, 70, 71, 72, 73, 74, 75, 76, 77, 78, 79, 80, 81, 82, 83, 84, 85], []⟩])
 .ret)))))⟩
def c135 : VFunc := ⟨1, [.tmp 2],
 (.seq (.reg false [
  ⟨some 1, none, .box (.m 0), []⟩,
  ⟨some 2, none, .mov (.c (.nilf)), []⟩,
  ⟨none, none, .kill [2], []⟩])
 (.seq (.reg false [
  ⟨some 3, none, .mkfn 171 [] [.m 1], []⟩,
  ⟨some 2, none, .mov (.m 3), []⟩])
 .ret))⟩
def c138 : VFunc := ⟨2, [.tmp 4],
 (.seq (.reg false [
  ⟨some 4, none, .mov (.c (.d (.bool false))), []⟩,
  ⟨none, none, .kill [4], []⟩])
 (.seq (.reg false [
  ⟨some 5, none, .mov (.m 0), []⟩,
  ⟨some 6, none, .mov (.m 1), []⟩,
  ⟨some 7, none, .calli 172 [.m 5, .m 6], []⟩,
  ⟨some 8, none, .bin .geq (.m 7) (.c (.d (.int .i64 0))), []⟩,
  ⟨some 4, none, .mov (.m 8), []⟩])
 .ret))⟩
def c139 : VFunc := ⟨1, [.tmp 2],
 (.seq (.reg false [
  ⟨some 2, none, .mov (.c (.d (.bool false))), []⟩,
  ⟨none, none, .kill [2], []⟩])
 (.seq (.reg false [
  ⟨some 3, none, .mov (.m 0), []⟩,
  ⟨some 4, none, .len (.m 3), []⟩,
  ⟨some 5, none, .bin .gtr (.m 4) (.c (.d (.int .i64 0))), []⟩,
  ⟨some 2, none, .mov (.m 5), []⟩])
 .ret))⟩
def c146 : VFunc := ⟨4, [],
 (.seq (.reg false [
  ⟨some 5, none, .mov (.c (.d (.int .i64 0))), []⟩])
 (.seq (.reg false [
  ⟨some 14, none, .ld none 0 (.m 1), []⟩,
  ⟨some 15, none, .len (.s 14), []⟩,
  ⟨some 16, none, .mov (.c (.d (.int .i64 0))), []⟩])
 (.block 0
 (.loop
 (.seq (.reg false [
  ⟨some 17, none, .bin .lss (.s 16) (.s 15), []⟩])
 (.seq (.cond (.m 17)
 .skip
 (.seq (K [0, 2, 3, 5, 14, 15, 16]) (.exit 0)))
 (.seq (.block 1
 (.seq (.reg false [
  ⟨some 18, none, .mov (.s 16), []⟩,
  ⟨some 19, none, .ia 1 (.s 14) (.s 16), []⟩,
  ⟨some 20, none, .ld none 0 (.m 19), []⟩,
  ⟨some 6, none, .mov (.m 18), []⟩,
  ⟨some 7, none, .mov (.m 20), []⟩])
 (.seq (.reg false [
  ⟨some 8, none, .mov (.c (.d (.int .i64 0))), []⟩])
 (.seq (.seq (.reg false [
  ⟨some 21, none, .mov (.m 7), []⟩,
  ⟨some 22, none, .len (.s 21), []⟩,
  ⟨some 23, none, .mov (.c (.d (.int .i64 0))), []⟩])
 (.block 2
 (.loop
 (.seq (.reg false [
  ⟨some 24, none, .bin .lss (.s 23) (.s 22), []⟩])
 (.seq (.cond (.m 24)
 .skip
 (.seq (K [8, 21, 22, 23]) (.exit 2)))
 (.seq (.block 3
 (.seq (.reg false [
  ⟨some 25, none, .ia 2 (.s 21) (.s 23), []⟩,
  ⟨some 26, none, .ld (some 2) 0 (.m 25), []⟩,
  ⟨some 10, none, .alloc [.d (.int .i64 0), .d (.int .i64 0)], []⟩,
  ⟨none, none, .st 2 (.s 10) (.m 26), []⟩])
 (.seq (.reg false [
  ⟨some 27, none, .mov (.s 8), []⟩,
  ⟨some 28, none, .fa 1 (.s 10), []⟩,
  ⟨some 29, none, .ld none 0 (.m 28), []⟩,
  ⟨some 30, none, .bin .add (.m 27) (.m 29), []⟩,
  ⟨some 11, none, .mov (.m 30), []⟩])
 (.block 4
 (.loop
 (.seq (.seq (.reg false [
  ⟨some 31, none, .mov (.s 8), []⟩,
  ⟨some 32, none, .mov (.s 11), []⟩,
  ⟨some 33, none, .bin .lss (.m 31) (.m 32), []⟩])
 (.cond (.m 33)
 .skip
 (.seq (K [10, 11]) (.exit 4))))
 (.seq (.block 5
 (.seq (.seq (.reg false [
  ⟨some 36, none, .fa 0 (.s 10), []⟩,
  ⟨some 37, none, .ld none 0 (.m 36), []⟩,
  ⟨some 38, none, .bin .eql (.m 37) (.c (.d (.int .i64 0))), []⟩,
  ⟨some 39, none, .mov (.m 38), []⟩,
  ⟨some 40, (some (39, false)), .fa 0 (.s 10), []⟩,
  ⟨some 41, (some (39, false)), .ld none 0 (.s 40), []⟩,
  ⟨some 42, (some (39, false)), .bin .eql (.s 41) (.c (.d (.int .i64 13))), []⟩,
  ⟨some 43, none, .pick (.m 39) (.c (.d (.bool true))) (.m 42), []⟩,
  ⟨none, none, .kill [40, 41], []⟩])
 (.cond (.m 43)
 (.exit 5)
 .skip))
 (.seq (.reg false [
  ⟨some 44, none, .mov (.s 5), []⟩,
  ⟨some 12, none, .mov (.m 44), []⟩])
 (.block 6
 (.loop
 (.seq (.seq (.reg false [
  ⟨some 45, none, .mov (.s 12), []⟩,
  ⟨some 46, none, .mov (.s 5), []⟩,
  ⟨some 47, none, .fa 3 (.s 2), []⟩,
  ⟨some 48, none, .ld none 0 (.m 47), []⟩,
  ⟨some 49, none, .mov (.s 6), []⟩,
  ⟨some 50, none, .ia 1 (.m 48) (.m 49), []⟩,
  ⟨some 51, none, .ld none 0 (.m 50), []⟩,
  ⟨some 52, none, .bin .add (.m 46) (.m 51), []⟩,
  ⟨some 53, none, .bin .lss (.m 45) (.m 52), []⟩])
 (.cond (.m 53)
 .skip
 (.seq (K [12]) (.exit 6))))
 (.seq (.block 7
 (.seq (.reg false [
  ⟨some 56, none, .ld none 0 (.s 3), []⟩,
  ⟨some 57, none, .mov (.s 8), []⟩,
  ⟨some 58, none, .ia 1 (.m 56) (.m 57), []⟩,
  ⟨some 59, none, .ld none 0 (.m 58), []⟩,
  ⟨some 13, none, .mov (.m 59), []⟩])
 (.block 8
 (.loop
 (.seq (.seq (.reg false [
  ⟨some 60, none, .mov (.s 13), []⟩,
  ⟨some 61, none, .ld none 0 (.s 3), []⟩,
  ⟨some 62, none, .mov (.s 8), []⟩,
  ⟨some 63, none, .bin .add (.m 62) (.c (.d (.int .i64 1))), []⟩,
  ⟨some 64, none, .ia 1 (.m 61) (.m 63), []⟩,
  ⟨some 65, none, .ld none 0 (.m 64), []⟩,
  ⟨some 66, none, .bin .lss (.m 60) (.m 65), []⟩])
 (.cond (.m 66)
 .skip
 (.seq (K [13]) (.exit 8))))
 (.seq (.block 9
 (.seq (.regP [0, 1, 2, 3, 4, 5, 6, 7, 8, 9, 10, 11, 12, 13, 14, 15, 16, 17] [0, 1, 2, 3, 4, 5, 6, 7, 8, 9, 10, 11, 12, 13, 14, 15, 16, 17] [] [
  ⟨some 72, none, .mov (.s 0), []⟩,
  ⟨some 73, none, .fa 0 (.s 10), []⟩,
  ⟨some 74, none, .ld none 0 (.m 73), []⟩,
  ⟨some 75, none, .mov (.s 12), []⟩,
  ⟨some 76, none, .bin .mul (.m 75) (.c (.d (.int .i64 32))), []⟩,
  ⟨some 77, none, .mov (.s 13), []⟩,
  ⟨some 78, none, .bin .add (.m 76) (.m 77), []⟩,
  ⟨some 79, none, .mov (.s 12), []⟩,
  ⟨some 80, none, .bin .mul (.m 79) (.c (.d (.int .i64 32))), []⟩,
  ⟨some 81, none, .mov (.s 13), []⟩,
  ⟨some 82, none, .bin .add (.m 80) (.m 81), []⟩,
  ⟨some 83, none, .fa 0 (.s 10), []⟩,
  ⟨some 84, none, .ld none 0 (.m 83), []⟩,
  ⟨some 85, none, .call 147 [.m 84], []⟩,
  ⟨some 86, none, .bin .add (.m 82) (.m 85), []⟩,
  ⟨some 87, none, .build [.d (.int .i64 0), .d (.int .i64 0), .d (.int .i64 0)] [(0, 1, .m 74), (1, 1, .m 78), (2, 1, .m 86)], []⟩,
  ⟨some 88, none, .callv (.m 72) [.m 87], []⟩,
  ⟨some 89, none, .un .not (.m 88), []⟩])
 (.cond (.m 89)
 (.seq (K [0, 2, 3, 5, 6, 8, 10, 11, 12, 13, 14, 15, 16, 21, 22, 23]) .ret)
 .skip)))
 (.reg false [
  ⟨some 67, none, .mov (.m 13), []⟩,
  ⟨some 68, none, .fa 0 (.s 10), []⟩,
  ⟨some 69, none, .ld none 0 (.m 68), []⟩,
  ⟨some 70, none, .call 147 [.m 69], []⟩,
  ⟨some 71, none, .bin .add (.m 67) (.m 70), []⟩,
  ⟨some 13, none, .mov (.m 71), []⟩,
  ⟨none, none, .kill [72, 73, 74, 75, 76, 77, 78, 79, 80, 81, 82, 83, 84, 85, 86, 87, 88, 89], []⟩])))))))
 (.reg false [
  ⟨some 54, none, .mov (.m 12), []⟩,
  ⟨some 55, none, .bin .add (.m 54) (.c (.d (.int .i64 1))), []⟩,
  ⟨some 12, none, .mov (.m 55), []⟩,
  ⟨none, none, .kill [13, 56, 57, 58, 59, 60, 61, 62, 63, 64, 65, 66, 67, 68, 69, 70, 71, 72, 73, 74, 75, 76, 77, 78, 79, 80, 81, 82, 83, 84, 85, 86, 87, 88, 89], []⟩]))))))))
 (.reg false [
  ⟨some 34, none, .mov (.m 8), []⟩,
  ⟨some 35, none, .bin .add (.m 34) (.c (.d (.int .i64 1))), []⟩,
  ⟨some 8, none, .mov (.m 35), []⟩,
  ⟨none, none, .kill [12, 13, 36, 37, 38, 39, 40, 41, 42, 43, 44, 45, 46, 47, 48, 49, 50, 51, 52, 53, 54, 55, 56, 57, 58, 59, 60, 61, 62, 63, 64, 65, 66, 67, 68, 69, 70, 71, 72, 73, 74, 75, 76, 77, 78, 79, 80, 81, 82, 83, 84, 85, 86, 87, 88, 89], []⟩]))))))))
 (.reg false [
  ⟨some 90, none, .bin .add (.m 23) (.c (.d (.int .i64 1))), []⟩,
  ⟨some 23, none, .mov (.m 90), []⟩,
  ⟨none, none, .kill [10, 11, 12, 13, 25, 26, 27, 28, 29, 30, 31, 32, 33, 34, 35, 36, 37, 38, 39, 40, 41, 42, 43, 44, 45, 46, 47, 48, 49, 50, 51, 52, 53, 54, 55, 56, 57, 58, 59, 60, 61, 62, 63, 64, 65, 66, 67, 68, 69, 70, 71, 72, 73, 74, 75, 76, 77, 78, 79, 80, 81, 82, 83, 84, 85, 86, 87, 88, 89], []⟩])))))))
 (.reg false [
  ⟨some 91, none, .mov (.m 5), []⟩,
  ⟨some 92, none, .fa 3 (.s 2), []⟩,
  ⟨some 93, none, .ld none 0 (.m 92), []⟩,
  ⟨some 94, none, .mov (.m 6), []⟩,
  ⟨some 95, none, .ia 1 (.m 93) (.m 94), []⟩,
  ⟨some 96, none, .ld none 0 (.m 95), []⟩,
  ⟨some 97, none, .bin .add (.m 91) (.m 96), []⟩,
  ⟨some 5, none, .mov (.m 97), []⟩,
  ⟨none, none, .kill [8, 10, 11, 12, 13, 21, 22, 23, 24, 25, 26, 27, 28, 29, 30, 31, 32, 33, 34, 35, 36, 37, 38, 39, 40, 41, 42, 43, 44, 45, 46, 47, 48, 49, 50, 51, 52, 53, 54, 55, 56, 57, 58, 59, 60, 61, 62, 63, 64, 65, 66, 67, 68, 69, 70, 71, 72, 73, 74, 75, 76, 77, 78, 79, 80, 81, 82, 83, 84, 85, 86, 87, 88, 89, 90], []⟩])))))
 (.reg false [
  ⟨some 98, none, .bin .add (.m 16) (.c (.d (.int .i64 1))), []⟩,
  ⟨some 16, none, .mov (.m 98), []⟩,
  ⟨none, none, .kill [6, 7, 8, 10, 11, 12, 13, 18, 19, 20, 21, 22, 23, 24, 25, 26, 27, 28, 29, 30, 31, 32, 33, 34, 35, 36, 37, 38, 39, 40, 41, 42, 43, 44, 45, 46, 47, 48, 49, 50, 51, 52, 53, 54, 55, 56, 57, 58, 59, 60, 61, 62, 63, 64, 65, 66, 67, 68, 69, 70, 71, 72, 73, 74, 75, 76, 77, 78, 79, 80, 81, 82, 83, 84, 85, 86, 87, 88, 89, 90, 91, 92, 93, 94, 95, 96, 97], []⟩]))))))))⟩
def c160 : VFunc := ⟨2, [.tmp 4],
 (.seq (.reg false [
  ⟨some 4, none, .mov (.c (.d (.bool false))), []⟩,
  ⟨none, none, .kill [4], []⟩])
 (.seq (.seq (.reg false [
  ⟨some 10, none, .mov (.s 0), []⟩,
  ⟨some 11, none, .bin .lss (.m 10) (.c (.d (.int .i64 0))), []⟩,
  ⟨some 12, none, .mov (.m 11), []⟩,
  ⟨some 13, (some (12, false)), .mov (.s 0), []⟩,
  ⟨some 14, (some (12, false)), .bin .gtr (.s 13) (.c (.d (.int .i64 255))), []⟩,
  ⟨some 15, none, .pick (.m 12) (.c (.d (.bool true))) (.m 14), []⟩,
  ⟨some 16, none, .mov (.m 15), []⟩,
  ⟨some 17, (some (16, false)), .mov (.s 1), []⟩,
  ⟨some 18, (some (16, false)), .len (.s 17), []⟩,
  ⟨some 19, (some (16, false)), .bin .gtr (.s 18) (.c (.d (.int .i64 8))), []⟩,
  ⟨some 20, none, .pick (.m 16) (.c (.d (.bool true))) (.m 19), []⟩,
  ⟨none, none, .kill [0, 13, 17, 18], []⟩])
 (.cond (.m 20)
 (.seq (K [1]) (.seq (.reg false [
  ⟨some 4, none, .mov (.c (.d (.bool false))), []⟩])
 .ret))
 .skip))
 (.seq (.seq (.reg false [
  ⟨some 21, none, .mov (.m 1), []⟩,
  ⟨some 22, none, .len (.s 21), []⟩,
  ⟨some 23, none, .mov (.c (.d (.int .i64 0))), []⟩])
 (.block 0
 (.loop
 (.seq (.reg false [
  ⟨some 24, none, .bin .lss (.s 23) (.s 22), []⟩])
 (.seq (.cond (.m 24)
 .skip
 (.seq (K [21, 22, 23]) (.exit 0)))
 (.seq (.block 1
 (.seq (.reg false [
  ⟨some 25, none, .ia 1 (.s 21) (.s 23), []⟩,
  ⟨some 26, none, .ld none 0 (.m 25), []⟩,
  ⟨some 6, none, .mov (.m 26), []⟩])
 (.seq (.reg false [
  ⟨some 7, none, .mov (.c (.d (.int .i64 40))), []⟩])
 (.seq (.reg false [
  ⟨some 27, none, .mov (.m 6), []⟩,
  ⟨some 28, none, .len (.s 27), []⟩,
  ⟨some 29, none, .mov (.c (.d (.int .i64 0))), []⟩])
 (.block 2
 (.loop
 (.seq (.reg false [
  ⟨some 30, none, .bin .lss (.s 29) (.s 28), []⟩])
 (.seq (.cond (.m 30)
 .skip
 (.seq (K [7, 27, 28, 29]) (.exit 2)))
 (.seq (.block 3
 (.seq (.reg false [
  ⟨some 31, none, .ia 2 (.s 27) (.s 29), []⟩,
  ⟨some 32, none, .ld (some 2) 0 (.m 31), []⟩,
  ⟨some 9, none, .alloc [.d (.int .i64 0), .d (.int .i64 0)], []⟩,
  ⟨none, none, .st 2 (.s 9) (.m 32), []⟩])
 (.seq (.seq (.reg false [
  ⟨some 33, none, .fa 1 (.s 9), []⟩,
  ⟨some 34, none, .ld none 0 (.m 33), []⟩,
  ⟨some 35, none, .bin .lss (.m 34) (.c (.d (.int .i64 1))), []⟩,
  ⟨some 36, none, .mov (.m 35), []⟩,
  ⟨some 37, (some (36, false)), .fa 1 (.s 9), []⟩,
  ⟨some 38, (some (36, false)), .ld none 0 (.s 37), []⟩,
  ⟨some 39, (some (36, false)), .mov (.s 7), []⟩,
  ⟨some 40, (some (36, false)), .bin .gtr (.s 38) (.s 39), []⟩,
  ⟨some 41, none, .pick (.m 36) (.c (.d (.bool true))) (.m 40), []⟩,
  ⟨some 42, none, .mov (.m 41), []⟩,
  ⟨some 43, (some (42, false)), .fa 0 (.s 9), []⟩,
  ⟨some 44, (some (42, false)), .ld none 0 (.s 43), []⟩,
  ⟨some 45, (some (42, false)), .bin .lss (.s 44) (.c (.d (.int .i64 0))), []⟩,
  ⟨some 46, none, .pick (.m 42) (.c (.d (.bool true))) (.m 45), []⟩,
  ⟨some 47, none, .mov (.m 46), []⟩,
  ⟨some 48, (some (47, false)), .fa 0 (.s 9), []⟩,
  ⟨some 49, (some (47, false)), .ld none 0 (.s 48), []⟩,
  ⟨some 50, (some (47, false)), .bin .gtr (.s 49) (.c (.d (.int .i64 11))), []⟩,
  ⟨some 51, (some (47, false)), .mov (.s 50), []⟩,
  ⟨some 52, (some (51, true)), .fa 0 (.s 9), []⟩,
  ⟨some 53, (some (51, true)), .ld none 0 (.s 52), []⟩,
  ⟨some 54, (some (51, true)), .bin .neq (.s 53) (.c (.d (.int .i64 13))), []⟩,
  ⟨some 55, (some (47, false)), .pick (.s 51) (.s 54) (.c (.d (.bool false))), []⟩,
  ⟨some 56, none, .pick (.m 47) (.c (.d (.bool true))) (.m 55), []⟩,
  ⟨none, none, .kill [37, 38, 39, 43, 44, 48, 49, 50, 51, 52, 53, 54], []⟩])
 (.cond (.m 56)
 (.seq (K [7, 9, 21, 22, 23, 27, 28, 29]) (.seq (.reg false [
  ⟨some 4, none, .mov (.c (.d (.bool false))), []⟩])
 .ret))
 .skip))
 (.reg false [
  ⟨some 57, none, .mov (.m 7), []⟩,
  ⟨some 58, none, .fa 1 (.m 9), []⟩,
  ⟨some 59, none, .ld none 0 (.m 58), []⟩,
  ⟨some 60, none, .bin .sub (.m 57) (.m 59), []⟩,
  ⟨some 7, none, .mov (.m 60), []⟩]))))
 (.reg false [
  ⟨some 61, none, .bin .add (.m 29) (.c (.d (.int .i64 1))), []⟩,
  ⟨some 29, none, .mov (.m 61), []⟩,
  ⟨none, none, .kill [4, 9, 31, 32, 33, 34, 35, 36, 37, 38, 39, 40, 41, 42, 43, 44, 45, 46, 47, 48, 49, 50, 51, 52, 53, 54, 55, 56, 57, 58, 59, 60], []⟩]))))))))))
 (.reg false [
  ⟨some 62, none, .bin .add (.m 23) (.c (.d (.int .i64 1))), []⟩,
  ⟨some 23, none, .mov (.m 62), []⟩,
  ⟨none, none, .kill [4, 6, 7, 9, 25, 26, 27, 28, 29, 30, 31, 32, 33, 34, 35, 36, 37, 38, 39, 40, 41, 42, 43, 44, 45, 46, 47, 48, 49, 50, 51, 52, 53, 54, 55, 56, 57, 58, 59, 60, 61], []⟩])))))))
 (.seq (.reg false [
  ⟨some 4, none, .mov (.c (.d (.bool true))), []⟩,
  ⟨none, none, .kill [6, 7, 9, 21, 22, 23, 24, 25, 26, 27, 28, 29, 30, 31, 32, 33, 34, 35, 36, 37, 38, 39, 40, 41, 42, 43, 44, 45, 46, 47, 48, 49, 50, 51, 52, 53, 54, 55, 56, 57, 58, 59, 60, 61, 62], []⟩])
 .ret))))⟩
def c167 : VFunc := ⟨2, [.tmp 4],
 (.seq (.reg false [
  ⟨some 4, none, .mov (.c (.d (.int .i64 0))), []⟩,
  ⟨none, none, .kill [4], []⟩])
 (.seq (.seq (.reg false [
  ⟨some 6, none, .mov (.s 0), []⟩,
  ⟨some 7, none, .len (.m 6), []⟩,
  ⟨some 8, none, .mov (.c (.d (.int .i64 0))), []⟩])
 (.block 0
 (.loop
 (.seq (.reg false [
  ⟨some 9, none, .bin .lss (.s 8) (.s 7), []⟩])
 (.seq (.cond (.m 9)
 .skip
 (.seq (K [0, 1, 7, 8]) (.exit 0)))
 (.seq (.block 1
 (.seq (.reg false [
  ⟨some 10, none, .mov (.s 8), []⟩,
  ⟨some 5, none, .mov (.m 10), []⟩])
 (.seq (.reg false [
  ⟨some 11, none, .mov (.s 1), []⟩,
  ⟨some 12, none, .mov (.s 0), []⟩,
  ⟨some 13, none, .mov (.s 5), []⟩,
  ⟨some 14, none, .ia 5 (.m 12) (.m 13), []⟩,
  ⟨some 15, none, .ld (some 5) 0 (.m 14), []⟩,
  ⟨some 16, none, .callv (.m 11) [.m 15], []⟩])
 (.cond (.m 16)
 (.seq (K [0, 1, 7, 8]) (.seq (.reg false [
  ⟨some 17, none, .mov (.m 5), []⟩,
  ⟨some 4, none, .mov (.m 17), []⟩])
 .ret))
 (.seq (K [5]) .skip)))))
 (.reg false [
  ⟨some 18, none, .bin .add (.m 8) (.c (.d (.int .i64 1))), []⟩,
  ⟨some 8, none, .mov (.m 18), []⟩,
  ⟨none, none, .kill [4, 5, 10, 11, 12, 13, 14, 15, 16, 17], []⟩])))))))
 (.seq (.reg false [
  ⟨some 4, none, .mov (.c (.d (.int .i64 (-1)))), []⟩,
  ⟨none, none, .kill [0, 1, 5, 7, 8, 9, 10, 11, 12, 13, 14, 15, 16, 17, 18], []⟩])
 .ret)))⟩
def c171 : VFunc := ⟨2, [],
 (.seq (.reg false [
  ⟨some 3, none, .mov (.c (.d (.int .i64 0))), []⟩])
 (.seq (.reg false [
  ⟨some 6, none, .ld none 0 (.m 1), []⟩,
  ⟨some 7, none, .len (.s 6), []⟩,
  ⟨some 8, none, .mov (.c (.d (.int .i64 0))), []⟩])
 (.block 0
 (.loop
 (.seq (.reg false [
  ⟨some 9, none, .bin .lss (.s 8) (.s 7), []⟩])
 (.seq (.cond (.m 9)
 .skip
 (.seq (K [0, 3, 6, 7, 8]) (.exit 0)))
 (.seq (.block 1
 (.seq (.reg false [
  ⟨some 10, none, .ia 2 (.s 6) (.s 8), []⟩,
  ⟨some 11, none, .ld (some 2) 0 (.m 10), []⟩,
  ⟨some 5, none, .alloc [.d (.int .i64 0), .d (.int .i64 0)], []⟩,
  ⟨none, none, .st 2 (.s 5) (.m 11), []⟩])
 (.seq (.reg false [
  ⟨some 12, none, .fa 1 (.s 5), []⟩,
  ⟨some 13, none, .ld none 0 (.m 12), []⟩,
  ⟨some 14, none, .mov (.c (.d (.int .i64 0))), []⟩])
 (.block 2
 (.loop
 (.seq (.reg false [
  ⟨some 15, none, .bin .lss (.s 14) (.s 13), []⟩])
 (.seq (.cond (.m 15)
 .skip
 (.seq (K [5, 13, 14]) (.exit 2)))
 (.seq (.block 3
 (.seq (.seq (.reg false [
  ⟨some 16, none, .mov (.s 0), []⟩,
  ⟨some 17, none, .mov (.s 3), []⟩,
  ⟨some 18, none, .fa 0 (.s 5), []⟩,
  ⟨some 19, none, .ld none 0 (.m 18), []⟩,
  ⟨some 20, none, .callv (.m 16) [.m 17, .m 19], []⟩,
  ⟨some 21, none, .un .not (.m 20), []⟩])
 (.cond (.m 21)
 (.seq (K [0, 3, 5, 6, 7, 8, 13, 14]) .ret)
 .skip))
 (.reg false [
  ⟨some 22, none, .mov (.m 3), []⟩,
  ⟨some 23, none, .bin .add (.m 22) (.c (.d (.int .i64 1))), []⟩,
  ⟨some 3, none, .mov (.m 23), []⟩])))
 (.reg false [
  ⟨some 24, none, .bin .add (.m 14) (.c (.d (.int .i64 1))), []⟩,
  ⟨some 14, none, .mov (.m 24), []⟩,
  ⟨none, none, .kill [16, 17, 18, 19, 20, 21, 22, 23], []⟩])))))))))
 (.reg false [
  ⟨some 25, none, .bin .add (.m 8) (.c (.d (.int .i64 1))), []⟩,
  ⟨some 8, none, .mov (.m 25), []⟩,
  ⟨none, none, .kill [5, 10, 11, 12, 13, 14, 15, 16, 17, 18, 19, 20, 21, 22, 23, 24], []⟩]))))))))⟩
def c172 : VFunc := ⟨2, [.tmp 4],
 (.seq (.reg false [
  ⟨some 4, none, .mov (.c (.d (.int .i64 0))), []⟩,
  ⟨none, none, .kill [4], []⟩])
 (.seq (.seq (.reg false [
  ⟨some 6, none, .mov (.s 0), []⟩,
  ⟨some 7, none, .len (.m 6), []⟩,
  ⟨some 8, none, .mov (.c (.d (.int .i64 0))), []⟩])
 (.block 0
 (.loop
 (.seq (.reg false [
  ⟨some 9, none, .bin .lss (.s 8) (.s 7), []⟩])
 (.seq (.cond (.m 9)
 .skip
 (.seq (K [0, 1, 7, 8]) (.exit 0)))
 (.seq (.block 1
 (.seq (.reg false [
  ⟨some 10, none, .mov (.s 8), []⟩,
  ⟨some 5, none, .mov (.m 10), []⟩])
 (.seq (.reg false [
  ⟨some 11, none, .mov (.s 1), []⟩,
  ⟨some 12, none, .mov (.s 0), []⟩,
  ⟨some 13, none, .mov (.s 5), []⟩,
  ⟨some 14, none, .ia 1 (.m 12) (.m 13), []⟩,
  ⟨some 15, none, .ld none 0 (.m 14), []⟩,
  ⟨some 16, none, .callv (.m 11) [.m 15], []⟩])
 (.cond (.m 16)
 (.seq (K [0, 1, 7, 8]) (.seq (.reg false [
  ⟨some 17, none, .mov (.m 5), []⟩,
  ⟨some 4, none, .mov (.m 17), []⟩])
 .ret))
 (.seq (K [5]) .skip)))))
 (.reg false [
  ⟨some 18, none, .bin .add (.m 8) (.c (.d (.int .i64 1))), []⟩,
  ⟨some 8, none, .mov (.m 18), []⟩,
  ⟨none, none, .kill [4, 5, 10, 11, 12, 13, 14, 15, 16, 17], []⟩])))))))
 (.seq (.reg false [
  ⟨some 4, none, .mov (.c (.d (.int .i64 (-1)))), []⟩,
  ⟨none, none, .kill [0, 1, 5, 7, 8, 9, 10, 11, 12, 13, 14, 15, 16, 17, 18], []⟩])
 .ret)))⟩
def table : T := (.node 80 c80 (.node 30 c30 (.node 19 c19 (.node 12 c12 (.node 6 c6 (.node 5 c5 (.node 3 c3 .leaf .leaf) .leaf) (.node 11 c11 .leaf .leaf)) (.node 14 c14 (.node 13 c13 .leaf .leaf) (.node 18 c18 .leaf .leaf))) (.node 26 c26 (.node 24 c24 (.node 23 c23 (.node 20 c20 .leaf .leaf) .leaf) (.node 25 c25 .leaf .leaf)) (.node 28 c28 (.node 27 c27 .leaf .leaf) (.node 29 c29 .leaf .leaf)))) (.node 52 c52 (.node 43 c43 (.node 41 c41 (.node 40 c40 (.node 36 c36 .leaf .leaf) .leaf) (.node 42 c42 .leaf .leaf)) (.node 49 c49 (.node 48 c48 .leaf .leaf) (.node 51 c51 .leaf .leaf))) (.node 76 c76 (.node 56 c56 (.node 54 c54 .leaf .leaf) (.node 75 c75 .leaf .leaf)) (.node 78 c78 (.node 77 c77 .leaf .leaf) (.node 79 c79 .leaf .leaf))))) (.node 105 c105 (.node 91 c91 (.node 85 c85 (.node 83 c83 (.node 82 c82 (.node 81 c81 .leaf .leaf) .leaf) (.node 84 c84 .leaf .leaf)) (.node 88 c88 (.node 86 c86 .leaf .leaf) (.node 90 c90 .leaf .leaf))) (.node 97 c97 (.node 94 c94 (.node 93 c93 (.node 92 c92 .leaf .leaf) .leaf) (.node 95 c95 .leaf .leaf)) (.node 99 c99 (.node 98 c98 .leaf .leaf) (.node 101 c101 .leaf .leaf)))) (.node 135 c135 (.node 130 c130 (.node 125 c125 (.node 122 c122 (.node 121 c121 .leaf .leaf) .leaf) (.node 128 c128 .leaf .leaf)) (.node 132 c132 (.node 131 c131 .leaf .leaf) (.node 134 c134 .leaf .leaf))) (.node 160 c160 (.node 139 c139 (.node 138 c138 .leaf .leaf) (.node 146 c146 .leaf .leaf)) (.node 171 c171 (.node 167 c167 .leaf .leaf) (.node 172 c172 .leaf .leaf))))))
def prog : Nat → Option VFunc := table.look
end Go.Vm
