import Derived.Test.YtdkneeepkgbgeaaGreatVmA
namespace Go.Vm
set_option maxRecDepth 100000
abbrev K (l : List Nat) : VC := .reg false [⟨none, none, .kill l, []⟩]
def c3 : VFunc := ⟨0, [.tmp 0],
 (.seq (.reg false [
  ⟨some 0, none, .mov (.c (.d (.bool false))), []⟩,
  ⟨none, none, .kill [0], []⟩])
 (.seq (.reg false [
  ⟨some 8, none, .call 4 [.c (.d (.int .i64 3))], []⟩,
  ⟨some 7, none, .mov (.m 8), []⟩,
  ⟨some 9, none, .ext 7 true 0, []⟩,
  ⟨some 10, none, .ext 7 false 1, []⟩,
  ⟨some 1, none, .mov (.m 9), []⟩,
  ⟨some 2, none, .mov (.m 10), []⟩,
  ⟨none, none, .kill [1], []⟩])
 (.seq (.reg false [
  ⟨some 12, none, .build [.d (.int .i64 0), .d (.int .i64 0), .d (.bool false), .d (.int .i64 0)] [(1, 1, .c (.d (.int .i64 3)))], []⟩,
  ⟨some 13, none, .call 5 [.m 12, .c (.nl)], []⟩,
  ⟨some 11, none, .mov (.m 13), []⟩,
  ⟨some 14, none, .ext 11 true 0, []⟩,
  ⟨some 15, none, .ext 11 false 1, []⟩,
  ⟨some 3, none, .mov (.m 14), []⟩,
  ⟨some 4, none, .mov (.m 15), []⟩,
  ⟨none, none, .kill [3], []⟩])
 (.seq (.reg false [
  ⟨some 17, none, .build [.d (.int .i64 0), .d (.int .i64 0), .d (.bool false), .d (.int .i64 0)] [(1, 1, .c (.d (.int .i64 2))), (0, 1, .c (.d (.int .i64 12)))], []⟩,
  ⟨some 18, none, .call 5 [.m 17, .c (.nl)], []⟩,
  ⟨some 16, none, .mov (.m 18), []⟩,
  ⟨some 19, none, .ext 16 true 0, []⟩,
  ⟨some 20, none, .ext 16 false 1, []⟩,
  ⟨some 5, none, .mov (.m 19), []⟩,
  ⟨some 6, none, .mov (.m 20), []⟩,
  ⟨none, none, .kill [5], []⟩])
 (.seq (.reg false [
  ⟨some 21, none, .mov (.c (.d (.bool true))), []⟩,
  ⟨some 22, (some (21, true)), .call 6 [], []⟩,
  ⟨some 23, none, .pick (.m 21) (.m 22) (.c (.d (.bool false))), []⟩,
  ⟨some 24, none, .mov (.m 23), []⟩,
  ⟨some 25, (some (24, true)), .mov (.s 2), []⟩,
  ⟨some 26, (some (24, true)), .bin .eql (.s 25) (.c (.d (.int .i64 2))), []⟩,
  ⟨some 27, none, .pick (.m 24) (.m 26) (.c (.d (.bool false))), []⟩,
  ⟨some 28, none, .mov (.m 27), []⟩,
  ⟨some 29, (some (28, true)), .mov (.s 4), []⟩,
  ⟨some 30, (some (28, true)), .bin .eql (.s 29) (.c (.d (.int .i64 2))), []⟩,
  ⟨some 31, none, .pick (.m 28) (.m 30) (.c (.d (.bool false))), []⟩,
  ⟨some 32, none, .mov (.m 31), []⟩,
  ⟨some 33, (some (32, true)), .mov (.s 6), []⟩,
  ⟨some 34, (some (32, true)), .bin .eql (.s 33) (.c (.d (.int .i64 2))), []⟩,
  ⟨some 35, none, .pick (.m 32) (.m 34) (.c (.d (.bool false))), []⟩,
  ⟨some 0, none, .mov (.m 35), []⟩,
  ⟨none, none, .kill [2, 4, 6, 25, 29, 33], []⟩])
 .ret)))))⟩
def c4 : VFunc := ⟨1, [.tmp 2, .tmp 3],
 (.seq (.reg false [
  ⟨some 2, none, .mov (.c (.nl)), []⟩,
  ⟨some 3, none, .mov (.c (.d (.int .i64 0))), []⟩,
  ⟨none, none, .kill [3], []⟩])
 (.seq (.seq (.reg false [
  ⟨some 4, none, .mov (.s 0), []⟩,
  ⟨some 5, none, .bin .neq (.m 4) (.c (.d (.int .i64 1))), []⟩,
  ⟨some 6, none, .mov (.m 5), []⟩,
  ⟨some 7, (some (6, true)), .mov (.s 0), []⟩,
  ⟨some 8, (some (6, true)), .bin .neq (.s 7) (.c (.d (.int .i64 2))), []⟩,
  ⟨some 9, none, .pick (.m 6) (.m 8) (.c (.d (.bool false))), []⟩,
  ⟨none, none, .kill [7], []⟩])
 (.cond (.m 9)
 (.seq (K [0, 2]) (.seq (.reg false [
  ⟨some 2, none, .mov (.c (.nl)), []⟩,
  ⟨some 3, none, .mov (.c (.d (.int .i64 2))), []⟩])
 .ret))
 .skip))
 (.seq (.seq (.reg false [
  ⟨some 10, none, .mov (.m 0), []⟩,
  ⟨some 11, none, .mov (.c (.d (.int .i64 0))), []⟩])
 (.block 0
 (.loop
 (.seq (.reg false [
  ⟨some 12, none, .bin .lss (.s 11) (.s 10), []⟩])
 (.seq (.cond (.m 12)
 .skip
 (.seq (K [10, 11]) (.exit 0)))
 (.seq (.block 1
 (.reg false [
  ⟨some 13, none, .mov (.m 2), []⟩,
  ⟨some 14, none, .call 7 [], []⟩,
  ⟨some 15, none, .mks 3 [.m 14], []⟩,
  ⟨some 16, none, .app 3 (.m 13) (.m 15), []⟩,
  ⟨some 2, none, .mov (.m 16), []⟩]))
 (.reg false [
  ⟨some 17, none, .bin .add (.m 11) (.c (.d (.int .i64 1))), []⟩,
  ⟨some 11, none, .mov (.m 17), []⟩,
  ⟨none, none, .kill [13, 14, 15, 16], []⟩])))))))
 (.seq (.reg false [
  ⟨some 18, none, .mov (.m 2), []⟩,
  ⟨some 2, none, .mov (.m 18), []⟩,
  ⟨some 3, none, .mov (.c (.d (.int .i64 0))), []⟩,
  ⟨none, none, .kill [10, 11, 12, 13, 14, 15, 16, 17], []⟩])
 .ret))))⟩
def c5 : VFunc := ⟨2, [.cell 4 none, .cell 5 none],
 (.seq (.reg false [
  ⟨some 2, none, .box (.m 0), []⟩,
  ⟨some 4, none, .alloc [.nl], []⟩,
  ⟨some 5, none, .alloc [.d (.int .i64 0)], []⟩])
 (.seq (.seq (.reg false [
  ⟨some 11, none, .fa 0 (.s 2), []⟩,
  ⟨some 12, none, .ld none 0 (.m 11), []⟩,
  ⟨some 13, none, .bin .lss (.m 12) (.c (.d (.int .i64 0))), []⟩,
  ⟨some 14, none, .mov (.m 13), []⟩,
  ⟨some 15, (some (14, false)), .fa 0 (.s 2), []⟩,
  ⟨some 16, (some (14, false)), .ld none 0 (.s 15), []⟩,
  ⟨some 17, (some (14, false)), .bin .gtr (.s 16) (.c (.d (.int .i64 11))), []⟩,
  ⟨some 18, none, .pick (.m 14) (.c (.d (.bool true))) (.m 17), []⟩,
  ⟨some 19, none, .mov (.m 18), []⟩,
  ⟨some 20, (some (19, false)), .fa 1 (.s 2), []⟩,
  ⟨some 21, (some (19, false)), .ld none 0 (.s 20), []⟩,
  ⟨some 22, (some (19, false)), .bin .lss (.s 21) (.c (.d (.int .i64 1))), []⟩,
  ⟨some 23, none, .pick (.m 19) (.c (.d (.bool true))) (.m 22), []⟩,
  ⟨some 24, none, .mov (.m 23), []⟩,
  ⟨some 25, (some (24, false)), .fa 1 (.s 2), []⟩,
  ⟨some 26, (some (24, false)), .ld none 0 (.s 25), []⟩,
  ⟨some 27, (some (24, false)), .bin .gtr (.s 26) (.c (.d (.int .i64 2))), []⟩,
  ⟨some 28, none, .pick (.m 24) (.c (.d (.bool true))) (.m 27), []⟩,
  ⟨none, none, .kill [15, 16, 20, 21, 25, 26], []⟩])
 (.cond (.m 28)
 (.seq (K [1, 2]) (.seq (.reg false [
  ⟨none, none, .st 1 (.s 4) (.c (.nl)), []⟩,
  ⟨none, none, .st 1 (.s 5) (.c (.d (.int .i64 2))), []⟩])
 .ret))
 .skip))
 (.seq (.seq (.reg false [
  ⟨some 29, none, .mov (.s 1), []⟩,
  ⟨some 30, none, .len (.m 29), []⟩,
  ⟨some 31, none, .bin .gtr (.m 30) (.c (.d (.int .i64 65536))), []⟩])
 (.cond (.m 31)
 (.seq (K [1, 2]) (.seq (.reg false [
  ⟨none, none, .st 1 (.s 4) (.c (.nl)), []⟩,
  ⟨none, none, .st 1 (.s 5) (.c (.d (.int .i64 4))), []⟩])
 .ret))
 .skip))
 (.seq (.reg false [
  ⟨some 32, none, .fa 1 (.s 2), []⟩,
  ⟨some 33, none, .ld none 0 (.m 32), []⟩,
  ⟨some 34, none, .mkslice [.lst []] (.s 33) (.s 33), [(0, 0)]⟩,
  ⟨some 6, none, .alloc [.nl], []⟩,
  ⟨none, none, .st 1 (.s 6) (.m 34), []⟩,
  ⟨none, none, .kill [33], []⟩])
 (.seq (.seq (.reg false [
  ⟨some 35, none, .ld (some 4) 1 (.m 2), []⟩,
  ⟨some 36, none, .mov (.m 1), []⟩,
  ⟨some 37, none, .calli 8 [.m 35, .m 36], []⟩])
 (.block 0
 (.rangeF (.m 37) [38, 39]
 (.seq (.reg false [
  ⟨some 7, none, .mov (.m 38), []⟩])
 (.reg false [
  ⟨some 8, none, .mov (.m 39), []⟩]))
 (.block 1
 (.seq (.seq (.reg false [
  ⟨some 40, none, .mov (.s 8), []⟩,
  ⟨some 41, none, .bin .neq (.m 40) (.c (.d (.int .i64 0))), []⟩])
 (.cond (.m 41)
 (.seq (K [6, 7]) (.seq (.reg false [
  ⟨some 42, none, .mov (.m 8), []⟩,
  ⟨none, none, .st 1 (.m 4) (.c (.nl)), []⟩,
  ⟨none, none, .st 1 (.m 5) (.m 42), []⟩])
 .ret))
 (.seq (K [4, 5, 8]) .skip)))
 (.seq (.reg false [
  ⟨some 43, none, .mov (.m 7), []⟩,
  ⟨some 44, none, .len (.s 43), []⟩,
  ⟨some 45, none, .mov (.c (.d (.int .i64 0))), []⟩])
 (.block 2
 (.loop
 (.seq (.reg false [
  ⟨some 46, none, .bin .lss (.s 45) (.s 44), []⟩])
 (.seq (.cond (.m 46)
 .skip
 (.seq (K [6, 43, 44, 45]) (.exit 2)))
 (.seq (.block 3
 (.seq (.reg false [
  ⟨some 47, none, .mov (.s 45), []⟩,
  ⟨some 48, none, .ia 1 (.s 43) (.s 45), []⟩,
  ⟨some 49, none, .ld none 0 (.m 48), []⟩,
  ⟨some 9, none, .mov (.m 47), []⟩,
  ⟨some 10, none, .mov (.m 49), []⟩])
 (.seq (.regP [2, 3, 4, 5, 6, 7, 0, 1, 8, 9] [0, 1, 2, 3, 4, 5, 6, 7, 8, 9] [] [
  ⟨some 50, none, .ld none 0 (.s 6), []⟩,
  ⟨some 51, none, .mov (.s 9), []⟩,
  ⟨some 52, none, .ld none 0 (.s 6), []⟩,
  ⟨some 53, none, .mov (.s 9), []⟩,
  ⟨some 54, none, .ia 1 (.m 52) (.m 53), []⟩,
  ⟨some 55, none, .ld none 0 (.m 54), []⟩,
  ⟨some 56, none, .mov (.m 10), []⟩,
  ⟨some 57, none, .app 1 (.m 55) (.m 56), []⟩,
  ⟨some 58, none, .ia 1 (.m 50) (.m 51), []⟩,
  ⟨none, none, .st 1 (.m 58) (.m 57), []⟩]) (K [9]))))
 (.reg false [
  ⟨some 59, none, .bin .add (.m 45) (.c (.d (.int .i64 1))), []⟩,
  ⟨some 45, none, .mov (.m 59), []⟩,
  ⟨none, none, .kill [9, 10, 47, 48, 49, 50, 51, 52, 53, 54, 55, 56, 57, 58], []⟩]))))))))))))
 (.seq (.reg false [
  ⟨some 60, none, .ld none 1 (.m 6), []⟩,
  ⟨none, none, .st 1 (.s 4) (.m 60), []⟩,
  ⟨none, none, .st 1 (.s 5) (.c (.d (.int .i64 0))), []⟩,
  ⟨none, none, .kill [7, 8, 9, 10, 37, 40, 41, 42, 43, 44, 45, 46, 47, 48, 49, 50, 51, 52, 53, 54, 55, 56, 57, 58, 59], []⟩])
 .ret))))))⟩
def c6 : VFunc := ⟨0, [.tmp 0],
 (.seq (.reg false [
  ⟨some 0, none, .mov (.c (.d (.bool false))), []⟩,
  ⟨none, none, .kill [0], []⟩])
 (.seq (.reg false [
  ⟨some 6, none, .call 4 [.c (.d (.int .i64 1))], []⟩,
  ⟨some 5, none, .mov (.m 6), []⟩,
  ⟨some 7, none, .ext 5 true 0, []⟩,
  ⟨some 8, none, .ext 5 false 1, []⟩,
  ⟨some 1, none, .mov (.m 7), []⟩,
  ⟨some 2, none, .mov (.m 8), []⟩])
 (.seq (.reg false [
  ⟨some 10, none, .build [.d (.int .i64 0), .d (.int .i64 0), .d (.bool false), .d (.int .i64 0)] [(1, 1, .c (.d (.int .i64 1)))], []⟩,
  ⟨some 11, none, .call 5 [.m 10, .c (.nl)], []⟩,
  ⟨some 9, none, .mov (.m 11), []⟩,
  ⟨some 12, none, .ext 9 true 0, []⟩,
  ⟨some 13, none, .ext 9 false 1, []⟩,
  ⟨some 3, none, .mov (.m 12), []⟩,
  ⟨some 4, none, .mov (.m 13), []⟩])
 (.seq (.reg false [
  ⟨some 14, none, .mov (.m 2), []⟩,
  ⟨some 15, none, .bin .eql (.m 14) (.c (.d (.int .i64 0))), []⟩,
  ⟨some 16, none, .mov (.m 15), []⟩,
  ⟨some 17, (some (16, true)), .mov (.s 1), []⟩,
  ⟨some 18, (some (16, true)), .len (.s 17), []⟩,
  ⟨some 19, (some (16, true)), .bin .eql (.s 18) (.c (.d (.int .i64 1))), []⟩,
  ⟨some 20, none, .pick (.m 16) (.m 19) (.c (.d (.bool false))), []⟩,
  ⟨some 21, none, .mov (.m 20), []⟩,
  ⟨some 22, (some (21, true)), .mov (.s 1), []⟩,
  ⟨some 23, (some (21, true)), .ia 3 (.s 22) (.c (.d (.int .i64 0))), []⟩,
  ⟨some 24, (some (21, true)), .ld (some 3) 0 (.s 23), []⟩,
  ⟨some 25, (some (21, true)), .call 9 [.s 24], []⟩,
  ⟨some 26, (some (21, true)), .bin .eql (.s 25) (.c (.d (.int .i64 0))), []⟩,
  ⟨some 27, none, .pick (.m 21) (.m 26) (.c (.d (.bool false))), []⟩,
  ⟨some 28, none, .mov (.m 27), []⟩,
  ⟨some 29, (some (28, true)), .mov (.s 4), []⟩,
  ⟨some 30, (some (28, true)), .bin .eql (.s 29) (.c (.d (.int .i64 0))), []⟩,
  ⟨some 31, none, .pick (.m 28) (.m 30) (.c (.d (.bool false))), []⟩,
  ⟨some 32, none, .mov (.m 31), []⟩,
  ⟨some 33, (some (32, true)), .mov (.s 3), []⟩,
  ⟨some 34, (some (32, true)), .len (.s 33), []⟩,
  ⟨some 35, (some (32, true)), .bin .eql (.s 34) (.c (.d (.int .i64 1))), []⟩,
  ⟨some 36, none, .pick (.m 32) (.m 35) (.c (.d (.bool false))), []⟩,
  ⟨some 37, none, .mov (.m 36), []⟩,
  ⟨some 38, (some (37, true)), .mov (.s 3), []⟩,
  ⟨some 39, (some (37, true)), .ia 1 (.s 38) (.c (.d (.int .i64 0))), []⟩,
  ⟨some 40, (some (37, true)), .ld none 0 (.s 39), []⟩,
  ⟨some 41, (some (37, true)), .len (.s 40), []⟩,
  ⟨some 42, (some (37, true)), .bin .eql (.s 41) (.c (.d (.int .i64 0))), []⟩,
  ⟨some 43, none, .pick (.m 37) (.m 42) (.c (.d (.bool false))), []⟩,
  ⟨some 0, none, .mov (.m 43), []⟩,
  ⟨none, none, .kill [1, 3, 4, 17, 18, 22, 23, 24, 25, 29, 33, 34, 38, 39, 40, 41], []⟩])
 .ret))))⟩
def c7 : VFunc := ⟨0, [.cell 0 (some 3)],
 (.seq (.reg false [
  ⟨some 0, none, .alloc [.nl, .d (.int .u8 0), .d (.int .u8 0)], []⟩])
 (.seq (.reg false [
  ⟨some 1, none, .mkslice [.int .i64 0] (.c (.d (.int .i64 256))) (.c (.d (.int .i64 256))), []⟩,
  ⟨some 2, none, .build [.nl, .d (.int .u8 0), .d (.int .u8 0)] [(0, 1, .m 1)], []⟩,
  ⟨none, none, .st 3 (.s 0) (.m 2), []⟩])
 .ret))⟩
def c8 : VFunc := ⟨2, [.tmp 4],
 (.seq (.reg false [
  ⟨some 2, none, .box (.m 0), []⟩,
  ⟨some 3, none, .box (.m 1), []⟩,
  ⟨some 4, none, .mov (.c (.nilf)), []⟩,
  ⟨none, none, .kill [4], []⟩])
 (.seq (.reg false [
  ⟨some 5, none, .mkfn 10 [] [.m 2, .m 3], []⟩,
  ⟨some 4, none, .mov (.m 5), []⟩])
 .ret))⟩
def c9 : VFunc := ⟨1, [.tmp 2],
 (.seq (.reg false [
  ⟨some 1, none, .box (.m 0), []⟩,
  ⟨some 2, none, .mov (.c (.d (.int .i64 0))), []⟩,
  ⟨none, none, .kill [2], []⟩])
 (.seq (.reg false [
  ⟨some 3, none, .mov (.c (.fn 12 [] [])), []⟩])
 (.seq (.seq (.reg false [
  ⟨some 4, none, .fa 0 (.s 1), []⟩,
  ⟨some 5, none, .ld none 0 (.m 4), []⟩,
  ⟨some 6, none, .len (.m 5), []⟩,
  ⟨some 7, none, .bin .neq (.m 6) (.c (.d (.int .i64 256))), []⟩,
  ⟨some 8, none, .mov (.m 7), []⟩,
  ⟨some 9, (some (8, false)), .fa 0 (.s 1), []⟩,
  ⟨some 10, (some (8, false)), .ld none 0 (.s 9), []⟩,
  ⟨some 11, (some (8, false)), .mov (.s 3), []⟩,
  ⟨some 12, (some (8, false)), .calli 13 [.s 10, .s 11], []⟩,
  ⟨some 13, none, .pick (.m 8) (.c (.d (.bool true))) (.m 12), []⟩,
  ⟨some 14, none, .mov (.m 13), []⟩,
  ⟨some 15, (some (14, false)), .fa 1 (.s 1), []⟩,
  ⟨some 16, (some (14, false)), .ld none 0 (.s 15), []⟩,
  ⟨some 17, (some (14, false)), .bin .gtr (.s 16) (.c (.d (.int .u8 3))), []⟩,
  ⟨some 18, none, .pick (.m 14) (.c (.d (.bool true))) (.m 17), []⟩,
  ⟨some 19, none, .mov (.m 18), []⟩,
  ⟨some 20, (some (19, false)), .fa 2 (.s 1), []⟩,
  ⟨some 21, (some (19, false)), .ld none 0 (.s 20), []⟩,
  ⟨some 22, (some (19, false)), .bin .gtr (.s 21) (.c (.d (.int .u8 1))), []⟩,
  ⟨some 23, none, .pick (.m 19) (.c (.d (.bool true))) (.m 22), []⟩,
  ⟨none, none, .kill [1, 3, 9, 10, 11, 15, 16, 20, 21], []⟩])
 (.cond (.m 23)
 (.seq (.reg false [
  ⟨some 2, none, .mov (.c (.d (.int .i64 8))), []⟩])
 .ret)
 .skip))
 (.seq (.reg false [
  ⟨some 2, none, .mov (.c (.d (.int .i64 0))), []⟩])
 .ret))))⟩
def c10 : VFunc := ⟨3, [],
 (.seq (.reg false [
  ⟨some 10, none, .fa 1 (.s 1), []⟩,
  ⟨some 11, none, .ld none 0 (.m 10), []⟩,
  ⟨some 12, none, .call 4 [.m 11], []⟩,
  ⟨some 9, none, .mov (.m 12), []⟩,
  ⟨some 13, none, .ext 9 true 0, []⟩,
  ⟨some 14, none, .ext 9 false 1, []⟩,
  ⟨some 4, none, .mov (.m 13), []⟩,
  ⟨some 5, none, .mov (.m 14), []⟩])
 (.seq (.reg false [
  ⟨some 15, none, .ld none 0 (.m 2), []⟩,
  ⟨some 16, none, .len (.s 15), []⟩,
  ⟨some 17, none, .mov (.c (.d (.int .i64 0))), []⟩])
 (.block 0
 (.loop
 (.seq (.reg false [
  ⟨some 18, none, .bin .lss (.s 17) (.s 16), []⟩])
 (.seq (.cond (.m 18)
 .skip
 (.seq (K [0, 1, 4, 5, 15, 16, 17]) (.exit 0)))
 (.seq (.block 1
 (.seq (.reg false [
  ⟨some 19, none, .ia 5 (.s 15) (.s 17), []⟩,
  ⟨some 20, none, .ld (some 5) 0 (.m 19), []⟩,
  ⟨some 7, none, .alloc [.nl, .d (.bool false), .d (.int .i64 0), .nl, .nl], []⟩,
  ⟨none, none, .st 5 (.s 7) (.m 20), []⟩])
 (.seq (.reg false [
  ⟨some 8, none, .mov (.c (.nl)), []⟩])
 (.seq (.seq (.reg false [
  ⟨some 21, none, .mov (.s 5), []⟩,
  ⟨some 22, none, .bin .eql (.m 21) (.c (.d (.int .i64 0))), []⟩])
 (.cond (.m 22)
 (.seq (K [5, 8]) (.reg false [
  ⟨some 24, none, .ld (some 4) 0 (.s 1), []⟩,
  ⟨some 25, none, .mov (.m 4), []⟩,
  ⟨some 26, none, .ld (some 5) 1 (.m 7), []⟩,
  ⟨some 27, none, .call 11 [.m 24, .m 25, .m 26], []⟩,
  ⟨some 23, none, .mov (.m 27), []⟩,
  ⟨some 28, none, .ext 23 true 0, []⟩,
  ⟨some 29, none, .ext 23 true 1, []⟩,
  ⟨some 30, none, .ext 23 false 2, []⟩,
  ⟨some 4, none, .mov (.m 28), []⟩,
  ⟨some 8, none, .mov (.m 29), []⟩,
  ⟨some 5, none, .mov (.m 30), []⟩]))
 (.seq (K [7]) .skip)))
 (.seq (.reg false [
  ⟨some 31, none, .mov (.s 0), []⟩,
  ⟨some 32, none, .mov (.m 8), []⟩,
  ⟨some 33, none, .mov (.s 5), []⟩,
  ⟨some 34, none, .callv (.m 31) [.m 32, .m 33], []⟩,
  ⟨some 35, none, .un .not (.m 34), []⟩,
  ⟨some 36, none, .mov (.m 35), []⟩,
  ⟨some 37, (some (36, false)), .mov (.s 5), []⟩,
  ⟨some 38, (some (36, false)), .bin .neq (.s 37) (.c (.d (.int .i64 0))), []⟩,
  ⟨some 39, none, .pick (.m 36) (.c (.d (.bool true))) (.m 38), []⟩,
  ⟨none, none, .kill [37], []⟩])
 (.cond (.m 39)
 (.seq (K [0, 1, 4, 5, 15, 16, 17]) .ret)
 .skip))))))
 (.reg false [
  ⟨some 40, none, .bin .add (.m 17) (.c (.d (.int .i64 1))), []⟩,
  ⟨some 17, none, .mov (.m 40), []⟩,
  ⟨none, none, .kill [7, 8, 19, 20, 21, 22, 23, 24, 25, 26, 27, 28, 29, 30, 31, 32, 33, 34, 35, 36, 37, 38, 39], []⟩]))))))))⟩
def c12 : VFunc := ⟨1, [.tmp 2],
 (.seq (.reg false [
  ⟨some 2, none, .mov (.c (.d (.bool false))), []⟩,
  ⟨none, none, .kill [2], []⟩])
 (.seq (.reg false [
  ⟨some 3, none, .mov (.s 0), []⟩,
  ⟨some 4, none, .bin .lss (.m 3) (.c (.d (.int .i64 (-1099511627776)))), []⟩,
  ⟨some 5, none, .mov (.m 4), []⟩,
  ⟨some 6, (some (5, false)), .mov (.s 0), []⟩,
  ⟨some 7, (some (5, false)), .bin .gtr (.s 6) (.c (.d (.int .i64 1099511627776))), []⟩,
  ⟨some 8, none, .pick (.m 5) (.c (.d (.bool true))) (.m 7), []⟩,
  ⟨some 2, none, .mov (.m 8), []⟩,
  ⟨none, none, .kill [0, 6], []⟩])
 .ret))⟩
def c13 : VFunc := ⟨2, [.tmp 4],
 (.seq (.reg false [
  ⟨some 4, none, .mov (.c (.d (.bool false))), []⟩,
  ⟨none, none, .kill [4], []⟩])
 (.seq (.reg false [
  ⟨some 5, none, .mov (.m 0), []⟩,
  ⟨some 6, none, .mov (.m 1), []⟩,
  ⟨some 7, none, .calli 17 [.m 5, .m 6], []⟩,
  ⟨some 8, none, .bin .geq (.m 7) (.c (.d (.int .i64 0))), []⟩,
  ⟨some 4, none, .mov (.m 8), []⟩])
 .ret))⟩
def c17 : VFunc := ⟨2, [.tmp 4],
 (.seq (.reg false [
  ⟨some 4, none, .mov (.c (.d (.int .i64 0))), []⟩,
  ⟨none, none, .kill [4], []⟩])
 (.seq (.seq (.reg false [
  ⟨some 6, none, .mov (.s 0), []⟩,
  ⟨some 7, none, .len (.m 6), []⟩,
  ⟨some 8, none, .mov (.c (.d (.int .i64 0))), []⟩])
 (.block 0
 (.loop
 (.seq (.reg false [
  ⟨some 9, none, .bin .lss (.s 8) (.s 7), []⟩])
 (.seq (.cond (.m 9)
 .skip
 (.seq (K [0, 1, 7, 8]) (.exit 0)))
 (.seq (.block 1
 (.seq (.reg false [
  ⟨some 10, none, .mov (.s 8), []⟩,
  ⟨some 5, none, .mov (.m 10), []⟩])
 (.seq (.reg false [
  ⟨some 11, none, .mov (.s 1), []⟩,
  ⟨some 12, none, .mov (.s 0), []⟩,
  ⟨some 13, none, .mov (.s 5), []⟩,
  ⟨some 14, none, .ia 1 (.m 12) (.m 13), []⟩,
  ⟨some 15, none, .ld none 0 (.m 14), []⟩,
  ⟨some 16, none, .callv (.m 11) [.m 15], []⟩])
 (.cond (.m 16)
 (.seq (K [0, 1, 7, 8]) (.seq (.reg false [
  ⟨some 17, none, .mov (.m 5), []⟩,
  ⟨some 4, none, .mov (.m 17), []⟩])
 .ret))
 (.seq (K [5]) .skip)))))
 (.reg false [
  ⟨some 18, none, .bin .add (.m 8) (.c (.d (.int .i64 1))), []⟩,
  ⟨some 8, none, .mov (.m 18), []⟩,
  ⟨none, none, .kill [4, 5, 10, 11, 12, 13, 14, 15, 16, 17], []⟩])))))))
 (.seq (.reg false [
  ⟨some 4, none, .mov (.c (.d (.int .i64 (-1)))), []⟩,
  ⟨none, none, .kill [0, 1, 5, 7, 8, 9, 10, 11, 12, 13, 14, 15, 16, 17, 18], []⟩])
 .ret)))⟩
def table : T := (.node 8 c8 (.node 5 c5 (.node 4 c4 (.node 3 c3 .leaf .leaf) .leaf) (.node 7 c7 (.node 6 c6 .leaf .leaf) .leaf)) (.node 12 c12 (.node 10 c10 (.node 9 c9 .leaf .leaf) .leaf) (.node 17 c17 (.node 13 c13 .leaf .leaf) .leaf)))
def prog : Nat → Option VFunc := table.look
end Go.Vm
