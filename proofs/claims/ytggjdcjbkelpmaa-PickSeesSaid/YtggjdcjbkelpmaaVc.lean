import Derived.Test.YtggjdcjbkelpmaaVmA
namespace Go.Vm
set_option maxRecDepth 100000
abbrev K (l : List Nat) : VC := .reg false [⟨none, none, .kill l, []⟩]
def c3 : VFunc := ⟨4, [.tmp 8],
 (.seq (.reg false [
  ⟨some 8, none, .mov (.c (.d (.bool false))), []⟩,
  ⟨none, none, .kill [8], []⟩])
 (.seq (.seq (.reg false [
  ⟨some 17, none, .mov (.s 0), []⟩,
  ⟨some 18, none, .len (.m 17), []⟩,
  ⟨some 19, none, .bin .gtr (.m 18) (.c (.d (.int .i64 1000))), []⟩])
 (.cond (.m 19)
 (.seq (K [0, 1, 2, 3]) (.seq (.reg false [
  ⟨some 8, none, .mov (.c (.d (.bool true))), []⟩])
 .ret))
 .skip))
 (.seq (.reg false [
  ⟨some 21, none, .mov (.s 0), []⟩,
  ⟨some 22, none, .call 5 [.m 21], []⟩,
  ⟨some 20, none, .mov (.m 22), []⟩,
  ⟨some 23, none, .ext 20 false 0, []⟩,
  ⟨some 24, none, .ext 20 false 1, []⟩,
  ⟨some 9, none, .mov (.m 23), []⟩,
  ⟨some 10, none, .mov (.m 24), []⟩])
 (.seq (.reg false [
  ⟨some 26, none, .mov (.m 0), []⟩,
  ⟨some 27, none, .call 6 [.m 26], []⟩,
  ⟨some 25, none, .mov (.m 27), []⟩,
  ⟨some 28, none, .ext 25 false 0, []⟩,
  ⟨some 29, none, .ext 25 false 1, []⟩,
  ⟨some 11, none, .mov (.m 28), []⟩,
  ⟨some 12, none, .mov (.m 29), []⟩])
 (.seq (.reg false [
  ⟨some 31, none, .mov (.s 1), []⟩,
  ⟨some 32, none, .mov (.s 2), []⟩,
  ⟨some 33, none, .mov (.s 3), []⟩,
  ⟨some 34, none, .call 7 [.m 31, .m 32, .m 33], []⟩,
  ⟨some 30, none, .mov (.m 34), []⟩,
  ⟨some 35, none, .ext 30 false 0, []⟩,
  ⟨some 36, none, .ext 30 false 1, []⟩,
  ⟨some 13, none, .mov (.m 35), []⟩,
  ⟨some 14, none, .mov (.m 36), []⟩])
 (.seq (.reg false [
  ⟨some 38, none, .mov (.m 1), []⟩,
  ⟨some 39, none, .mov (.m 2), []⟩,
  ⟨some 40, none, .mov (.m 3), []⟩,
  ⟨some 41, none, .call 8 [.m 38, .m 39, .m 40], []⟩,
  ⟨some 37, none, .mov (.m 41), []⟩,
  ⟨some 42, none, .ext 37 false 0, []⟩,
  ⟨some 43, none, .ext 37 false 1, []⟩,
  ⟨some 15, none, .mov (.m 42), []⟩,
  ⟨some 16, none, .mov (.m 43), []⟩])
 (.seq (.reg false [
  ⟨some 44, none, .mov (.m 9), []⟩,
  ⟨some 45, none, .mov (.m 11), []⟩,
  ⟨some 46, none, .binb false (.m 44) (.m 45), []⟩,
  ⟨some 47, none, .mov (.m 46), []⟩,
  ⟨some 48, (some (47, true)), .mov (.s 10), []⟩,
  ⟨some 49, (some (47, true)), .mov (.s 12), []⟩,
  ⟨some 50, (some (47, true)), .bin .eql (.s 48) (.s 49), []⟩,
  ⟨some 51, none, .pick (.m 47) (.m 50) (.c (.d (.bool false))), []⟩,
  ⟨some 52, none, .mov (.m 51), []⟩,
  ⟨some 53, (some (52, true)), .mov (.s 13), []⟩,
  ⟨some 54, (some (52, true)), .mov (.s 15), []⟩,
  ⟨some 55, (some (52, true)), .bin .eql (.s 53) (.s 54), []⟩,
  ⟨some 56, none, .pick (.m 52) (.m 55) (.c (.d (.bool false))), []⟩,
  ⟨some 57, none, .mov (.m 56), []⟩,
  ⟨some 58, (some (57, true)), .mov (.s 14), []⟩,
  ⟨some 59, (some (57, true)), .mov (.s 16), []⟩,
  ⟨some 60, (some (57, true)), .bin .eql (.s 58) (.s 59), []⟩,
  ⟨some 61, none, .pick (.m 57) (.m 60) (.c (.d (.bool false))), []⟩,
  ⟨some 8, none, .mov (.m 61), []⟩,
  ⟨none, none, .kill [10, 12, 13, 14, 15, 16, 48, 49, 53, 54, 58, 59], []⟩])
 .ret)))))))⟩
def c5 : VFunc := ⟨1, [.cell 2 none, .cell 3 none],
 (.seq (.reg false [
  ⟨some 2, none, .alloc [.d (.bool false)], []⟩,
  ⟨some 3, none, .alloc [.d (.int .i64 0)], []⟩])
 (.seq (.seq (.reg false [
  ⟨some 10, none, .mov (.s 0), []⟩,
  ⟨some 11, none, .len (.m 10), []⟩,
  ⟨some 12, none, .bin .neq (.m 11) (.c (.d (.int .i64 256))), []⟩])
 (.cond (.m 12)
 (.seq (K [0]) (.seq (.reg false [
  ⟨none, none, .st 1 (.s 2) (.c (.d (.bool false))), []⟩,
  ⟨none, none, .st 1 (.s 3) (.c (.d (.int .i64 4))), []⟩])
 .ret))
 .skip))
 (.seq (.seq (.reg false [
  ⟨some 13, none, .mov (.s 0), []⟩,
  ⟨some 14, none, .call 14 [.m 13], []⟩,
  ⟨some 15, none, .bin .lss (.m 14) (.c (.d (.int .i64 (-32768)))), []⟩,
  ⟨some 16, none, .mov (.m 15), []⟩,
  ⟨some 17, (some (16, false)), .mov (.s 0), []⟩,
  ⟨some 18, (some (16, false)), .call 15 [.s 17], []⟩,
  ⟨some 19, (some (16, false)), .bin .geq (.s 18) (.c (.d (.int .i64 32768))), []⟩,
  ⟨some 20, none, .pick (.m 16) (.c (.d (.bool true))) (.m 19), []⟩,
  ⟨none, none, .kill [17, 18], []⟩])
 (.cond (.m 20)
 (.seq (K [0]) (.seq (.reg false [
  ⟨none, none, .st 1 (.s 2) (.c (.d (.bool false))), []⟩,
  ⟨none, none, .st 1 (.s 3) (.c (.d (.int .i64 2))), []⟩])
 .ret))
 .skip))
 (.seq (.reg false [
  ⟨some 4, none, .alloc [.d (.int .i64 0)], []⟩,
  ⟨some 5, none, .alloc [.d (.int .i64 0)], []⟩,
  ⟨none, none, .st 1 (.s 4) (.c (.d (.int .i64 0))), []⟩,
  ⟨none, none, .st 1 (.s 5) (.c (.d (.int .i64 0))), []⟩])
 (.seq (.seq (.reg false [
  ⟨some 21, none, .mov (.m 0), []⟩,
  ⟨some 22, none, .calli 16 [.m 21, .c (.d (.int .i64 32))], []⟩])
 (.block 0
 (.rangeF (.m 22) [23]
 (.reg false [
  ⟨some 6, none, .mov (.m 23), []⟩])
 (.block 1
 (.seq (.reg false [
  ⟨some 7, none, .mov (.c (.d (.int .i64 0))), []⟩])
 (.seq (.seq (.reg false [
  ⟨some 24, none, .mov (.m 6), []⟩,
  ⟨some 25, none, .len (.s 24), []⟩,
  ⟨some 26, none, .mov (.c (.d (.int .i64 0))), []⟩])
 (.block 2
 (.loop
 (.seq (.reg false [
  ⟨some 27, none, .bin .lss (.s 26) (.s 25), []⟩])
 (.seq (.cond (.m 27)
 .skip
 (.seq (K [24, 25, 26]) (.exit 2)))
 (.seq (.block 3
 (.seq (.reg false [
  ⟨some 28, none, .ia 1 (.s 24) (.s 26), []⟩,
  ⟨some 29, none, .ld none 0 (.m 28), []⟩,
  ⟨some 9, none, .mov (.m 29), []⟩])
 (.reg false [
  ⟨some 30, none, .mov (.m 7), []⟩,
  ⟨some 31, none, .mov (.s 9), []⟩,
  ⟨some 32, none, .mov (.m 9), []⟩,
  ⟨some 33, none, .bin .mul (.m 31) (.m 32), []⟩,
  ⟨some 34, none, .bin .add (.m 30) (.m 33), []⟩,
  ⟨some 7, none, .mov (.m 34), []⟩])))
 (.reg false [
  ⟨some 35, none, .bin .add (.m 26) (.c (.d (.int .i64 1))), []⟩,
  ⟨some 26, none, .mov (.m 35), []⟩,
  ⟨none, none, .kill [9, 28, 29, 30, 31, 32, 33, 34], []⟩])))))))
 (.seq (.seq (.reg false [
  ⟨some 36, none, .ld none 0 (.s 5), []⟩,
  ⟨some 37, none, .bin .gtr (.m 36) (.c (.d (.int .i64 0))), []⟩,
  ⟨some 38, none, .mov (.m 37), []⟩,
  ⟨some 39, (some (38, true)), .ld none 0 (.s 5), []⟩,
  ⟨some 40, (some (38, true)), .mov (.s 7), []⟩,
  ⟨some 41, (some (38, true)), .bin .mul (.s 39) (.s 40), []⟩,
  ⟨some 42, (some (38, true)), .ld none 0 (.s 4), []⟩,
  ⟨some 43, (some (38, true)), .bin .mul (.c (.d (.int .i64 8))) (.s 42), []⟩,
  ⟨some 44, (some (38, true)), .ld none 0 (.s 5), []⟩,
  ⟨some 45, (some (38, true)), .bin .shl (.s 44) (.c (.d (.int .u64 20))), []⟩,
  ⟨some 46, (some (38, true)), .bin .add (.s 43) (.s 45), []⟩,
  ⟨some 47, (some (38, true)), .bin .gtr (.s 41) (.s 46), []⟩,
  ⟨some 48, none, .pick (.m 38) (.m 47) (.c (.d (.bool false))), []⟩,
  ⟨none, none, .kill [9, 24, 25, 26, 27, 28, 29, 30, 31, 32, 33, 34, 35, 39, 40, 41, 42, 43, 44, 45, 46], []⟩])
 (.cond (.m 48)
 (.seq (K [4, 5, 7]) (.seq (.reg false [
  ⟨none, none, .st 1 (.m 2) (.c (.d (.bool true))), []⟩,
  ⟨none, none, .st 1 (.m 3) (.c (.d (.int .i64 0))), []⟩])
 .ret))
 (.seq (K [2, 3]) .skip)))
 (.seq (.reg false [
  ⟨some 49, none, .ld none 0 (.s 4), []⟩,
  ⟨some 50, none, .mov (.m 7), []⟩,
  ⟨some 51, none, .bin .add (.m 49) (.m 50), []⟩,
  ⟨none, none, .st 1 (.m 4) (.m 51), []⟩])
 (.reg false [
  ⟨some 52, none, .ld none 0 (.s 5), []⟩,
  ⟨some 53, none, .bin .add (.m 52) (.c (.d (.int .i64 1))), []⟩,
  ⟨none, none, .st 1 (.m 5) (.m 53), []⟩])))))))))
 (.seq (.reg false [
  ⟨none, none, .st 1 (.s 2) (.c (.d (.bool false))), []⟩,
  ⟨none, none, .st 1 (.s 3) (.c (.d (.int .i64 0))), []⟩,
  ⟨none, none, .kill [4, 5, 6, 7, 9, 22, 24, 25, 26, 27, 28, 29, 30, 31, 32, 33, 34, 35, 36, 37, 38, 39, 40, 41, 42, 43, 44, 45, 46, 47, 48, 49, 50, 51, 52, 53], []⟩])
 .ret))))))⟩
def c6 : VFunc := ⟨1, [.tmp 2, .tmp 3],
 (.seq (.reg false [
  ⟨some 2, none, .mov (.c (.d (.bool false))), []⟩,
  ⟨some 3, none, .mov (.c (.d (.int .i64 0))), []⟩,
  ⟨none, none, .kill [2, 3], []⟩])
 (.seq (.seq (.reg false [
  ⟨some 4, none, .mov (.s 0), []⟩,
  ⟨some 5, none, .len (.m 4), []⟩,
  ⟨some 6, none, .bin .neq (.m 5) (.c (.d (.int .i64 256))), []⟩])
 (.cond (.m 6)
 (.seq (K [0]) (.seq (.reg false [
  ⟨some 2, none, .mov (.c (.d (.bool false))), []⟩,
  ⟨some 3, none, .mov (.c (.d (.int .i64 4))), []⟩])
 .ret))
 .skip))
 (.seq (.seq (.reg false [
  ⟨some 7, none, .mov (.s 0), []⟩,
  ⟨some 8, none, .call 17 [.m 7, .c (.d (.int .i64 (-32768))), .c (.d (.int .i64 32767))], []⟩,
  ⟨some 9, none, .un .not (.m 8), []⟩])
 (.cond (.m 9)
 (.seq (K [0]) (.seq (.reg false [
  ⟨some 2, none, .mov (.c (.d (.bool false))), []⟩,
  ⟨some 3, none, .mov (.c (.d (.int .i64 2))), []⟩])
 .ret))
 .skip))
 (.seq (.reg false [
  ⟨some 10, none, .mov (.m 0), []⟩,
  ⟨some 11, none, .call 18 [.m 10], []⟩,
  ⟨some 2, none, .mov (.m 11), []⟩,
  ⟨some 3, none, .mov (.c (.d (.int .i64 0))), []⟩])
 .ret))))⟩
def c7 : VFunc := ⟨3, [.tmp 6, .tmp 7],
 (.seq (.reg false [
  ⟨some 6, none, .mov (.c (.d (.int .u8 0))), []⟩,
  ⟨some 7, none, .mov (.c (.d (.int .i64 0))), []⟩,
  ⟨none, none, .kill [6, 7], []⟩])
 (.seq (.block 0
 (.seq (.reg false [
  ⟨some 9, none, .mov (.s 0), []⟩,
  ⟨some 10, none, .bin .gtr (.m 9) (.c (.d (.int .u8 3))), []⟩,
  ⟨some 8, none, .mov (.m 10), []⟩])
 (.cond (.m 8)
 (.seq (K [0, 1, 2]) (.seq (.reg false [
  ⟨some 6, none, .mov (.c (.d (.int .u8 0))), []⟩,
  ⟨some 7, none, .mov (.c (.d (.int .i64 2))), []⟩])
 .ret))
 (.seq (.reg false [
  ⟨some 12, none, .mov (.s 0), []⟩,
  ⟨some 13, none, .bin .eql (.m 12) (.c (.d (.int .u8 1))), []⟩,
  ⟨some 14, none, .mov (.m 13), []⟩,
  ⟨some 15, (some (14, false)), .mov (.s 0), []⟩,
  ⟨some 16, (some (14, false)), .bin .eql (.s 15) (.c (.d (.int .u8 2))), []⟩,
  ⟨some 17, none, .pick (.m 14) (.c (.d (.bool true))) (.m 16), []⟩,
  ⟨some 11, none, .mov (.m 17), []⟩,
  ⟨none, none, .kill [0, 15], []⟩])
 (.cond (.m 11)
 (.seq (.seq (.reg false [
  ⟨some 18, none, .mov (.m 1), []⟩,
  ⟨some 19, none, .mov (.m 18), []⟩,
  ⟨some 20, (some (19, false)), .mov (.s 2), []⟩,
  ⟨some 21, none, .pick (.m 19) (.c (.d (.bool true))) (.m 20), []⟩,
  ⟨none, none, .kill [2], []⟩])
 (.cond (.m 21)
 (.seq (.reg false [
  ⟨some 6, none, .mov (.c (.d (.int .u8 2))), []⟩,
  ⟨some 7, none, .mov (.c (.d (.int .i64 0))), []⟩])
 .ret)
 .skip))
 (.seq (.reg false [
  ⟨some 6, none, .mov (.c (.d (.int .u8 3))), []⟩,
  ⟨some 7, none, .mov (.c (.d (.int .i64 0))), []⟩])
 .ret))
 (.seq (K [1]) (.seq (.reg false [
  ⟨some 23, none, .mov (.m 2), []⟩,
  ⟨some 22, none, .mov (.m 23), []⟩])
 (.cond (.m 22)
 (.seq (.reg false [
  ⟨some 6, none, .mov (.c (.d (.int .u8 1))), []⟩,
  ⟨some 7, none, .mov (.c (.d (.int .i64 0))), []⟩])
 .ret)
 .skip))))))))
 (.seq (.reg false [
  ⟨some 6, none, .mov (.c (.d (.int .u8 0))), []⟩,
  ⟨some 7, none, .mov (.c (.d (.int .i64 0))), []⟩,
  ⟨none, none, .kill [8, 9, 10, 11, 12, 13, 14, 15, 16, 17, 18, 19, 20, 21, 22, 23], []⟩])
 .ret)))⟩
def c8 : VFunc := ⟨3, [.tmp 6, .tmp 7],
 (.seq (.reg false [
  ⟨some 6, none, .mov (.c (.d (.int .u8 0))), []⟩,
  ⟨some 7, none, .mov (.c (.d (.int .i64 0))), []⟩,
  ⟨none, none, .kill [6, 7], []⟩])
 (.seq (.seq (.reg false [
  ⟨some 8, none, .mov (.s 0), []⟩,
  ⟨some 9, none, .bin .gtr (.m 8) (.c (.d (.int .u8 3))), []⟩])
 (.cond (.m 9)
 (.seq (K [0, 1, 2]) (.seq (.reg false [
  ⟨some 6, none, .mov (.c (.d (.int .u8 0))), []⟩,
  ⟨some 7, none, .mov (.c (.d (.int .i64 2))), []⟩])
 .ret))
 .skip))
 (.seq (.reg false [
  ⟨some 10, none, .mov (.m 0), []⟩,
  ⟨some 11, none, .mov (.m 1), []⟩,
  ⟨some 12, none, .mov (.m 2), []⟩,
  ⟨some 13, none, .call 19 [.m 10, .m 11, .m 12], []⟩,
  ⟨some 6, none, .mov (.m 13), []⟩,
  ⟨some 7, none, .mov (.c (.d (.int .i64 0))), []⟩])
 .ret)))⟩
def c14 : VFunc := ⟨1, [.tmp 2],
 (.seq (.reg false [
  ⟨some 2, none, .mov (.c (.d (.int .i64 0))), []⟩,
  ⟨none, none, .kill [2], []⟩])
 (.seq (.seq (.reg false [
  ⟨some 5, none, .mov (.s 0), []⟩,
  ⟨some 6, none, .len (.m 5), []⟩,
  ⟨some 7, none, .bin .lss (.m 6) (.c (.d (.int .i64 1))), []⟩])
 (.cond (.m 7)
 (.reg false [
  ⟨some 8, none, .bad, []⟩,
  ⟨none, none, .bad, []⟩])
 .skip))
 (.seq (.reg false [
  ⟨some 9, none, .mov (.s 0), []⟩,
  ⟨some 10, none, .ia 1 (.m 9) (.c (.d (.int .i64 0))), []⟩,
  ⟨some 11, none, .ld none 0 (.m 10), []⟩,
  ⟨some 3, none, .mov (.m 11), []⟩])
 (.seq (.seq (.reg false [
  ⟨some 4, none, .mov (.c (.d (.int .i64 1))), []⟩])
 (.block 0
 (.loop
 (.seq (.seq (.reg false [
  ⟨some 12, none, .mov (.s 4), []⟩,
  ⟨some 13, none, .mov (.s 0), []⟩,
  ⟨some 14, none, .len (.m 13), []⟩,
  ⟨some 15, none, .bin .lss (.m 12) (.m 14), []⟩])
 (.cond (.m 15)
 .skip
 (.seq (K [0, 4]) (.exit 0))))
 (.seq (.block 1
 (.reg false [
  ⟨some 18, none, .mov (.m 3), []⟩,
  ⟨some 19, none, .mov (.s 0), []⟩,
  ⟨some 20, none, .mov (.s 4), []⟩,
  ⟨some 21, none, .ia 1 (.m 19) (.m 20), []⟩,
  ⟨some 22, none, .ld none 0 (.m 21), []⟩,
  ⟨some 23, none, .minmax false [.m 18, .m 22], []⟩,
  ⟨some 3, none, .mov (.m 23), []⟩]))
 (.reg false [
  ⟨some 16, none, .mov (.m 4), []⟩,
  ⟨some 17, none, .bin .add (.m 16) (.c (.d (.int .i64 1))), []⟩,
  ⟨some 4, none, .mov (.m 17), []⟩,
  ⟨none, none, .kill [18, 19, 20, 21, 22, 23], []⟩]))))))
 (.seq (.reg false [
  ⟨some 24, none, .mov (.m 3), []⟩,
  ⟨some 2, none, .mov (.m 24), []⟩,
  ⟨none, none, .kill [0, 4, 12, 13, 14, 15, 16, 17, 18, 19, 20, 21, 22, 23], []⟩])
 .ret)))))⟩
def c15 : VFunc := ⟨1, [.tmp 2],
 (.seq (.reg false [
  ⟨some 2, none, .mov (.c (.d (.int .i64 0))), []⟩,
  ⟨none, none, .kill [2], []⟩])
 (.seq (.seq (.reg false [
  ⟨some 5, none, .mov (.s 0), []⟩,
  ⟨some 6, none, .len (.m 5), []⟩,
  ⟨some 7, none, .bin .lss (.m 6) (.c (.d (.int .i64 1))), []⟩])
 (.cond (.m 7)
 (.reg false [
  ⟨some 8, none, .bad, []⟩,
  ⟨none, none, .bad, []⟩])
 .skip))
 (.seq (.reg false [
  ⟨some 9, none, .mov (.s 0), []⟩,
  ⟨some 10, none, .ia 1 (.m 9) (.c (.d (.int .i64 0))), []⟩,
  ⟨some 11, none, .ld none 0 (.m 10), []⟩,
  ⟨some 3, none, .mov (.m 11), []⟩])
 (.seq (.seq (.reg false [
  ⟨some 4, none, .mov (.c (.d (.int .i64 1))), []⟩])
 (.block 0
 (.loop
 (.seq (.seq (.reg false [
  ⟨some 12, none, .mov (.s 4), []⟩,
  ⟨some 13, none, .mov (.s 0), []⟩,
  ⟨some 14, none, .len (.m 13), []⟩,
  ⟨some 15, none, .bin .lss (.m 12) (.m 14), []⟩])
 (.cond (.m 15)
 .skip
 (.seq (K [0, 4]) (.exit 0))))
 (.seq (.block 1
 (.reg false [
  ⟨some 18, none, .mov (.m 3), []⟩,
  ⟨some 19, none, .mov (.s 0), []⟩,
  ⟨some 20, none, .mov (.s 4), []⟩,
  ⟨some 21, none, .ia 1 (.m 19) (.m 20), []⟩,
  ⟨some 22, none, .ld none 0 (.m 21), []⟩,
  ⟨some 23, none, .minmax true [.m 18, .m 22], []⟩,
  ⟨some 3, none, .mov (.m 23), []⟩]))
 (.reg false [
  ⟨some 16, none, .mov (.m 4), []⟩,
  ⟨some 17, none, .bin .add (.m 16) (.c (.d (.int .i64 1))), []⟩,
  ⟨some 4, none, .mov (.m 17), []⟩,
  ⟨none, none, .kill [18, 19, 20, 21, 22, 23], []⟩]))))))
 (.seq (.reg false [
  ⟨some 24, none, .mov (.m 3), []⟩,
  ⟨some 2, none, .mov (.m 24), []⟩,
  ⟨none, none, .kill [0, 4, 12, 13, 14, 15, 16, 17, 18, 19, 20, 21, 22, 23], []⟩])
 .ret)))))⟩
def c16 : VFunc := ⟨2, [.tmp 4],
 (.seq (.reg false [
  ⟨some 2, none, .box (.m 0), []⟩,
  ⟨some 3, none, .box (.m 1), []⟩,
  ⟨some 4, none, .mov (.c (.nilf)), []⟩,
  ⟨none, none, .kill [4], []⟩])
 (.seq (.seq (.reg false [
  ⟨some 5, none, .ld none 0 (.s 3), []⟩,
  ⟨some 6, none, .bin .lss (.m 5) (.c (.d (.int .i64 1))), []⟩])
 (.cond (.m 6)
 (.reg false [
  ⟨some 7, none, .bad, []⟩,
  ⟨none, none, .bad, []⟩])
 .skip))
 (.seq (.reg false [
  ⟨some 8, none, .mkfn 33 [] [.m 2, .m 3], []⟩,
  ⟨some 4, none, .mov (.m 8), []⟩])
 .ret)))⟩
def c17 : VFunc := ⟨3, [.tmp 6],
 (.seq (.reg false [
  ⟨some 6, none, .mov (.c (.d (.bool false))), []⟩,
  ⟨none, none, .kill [6], []⟩])
 (.seq (.seq (.reg false [
  ⟨some 7, none, .mov (.c (.d (.int .i64 0))), []⟩])
 (.block 0
 (.loop
 (.seq (.seq (.reg false [
  ⟨some 8, none, .mov (.s 7), []⟩,
  ⟨some 9, none, .mov (.s 0), []⟩,
  ⟨some 10, none, .len (.m 9), []⟩,
  ⟨some 11, none, .bin .lss (.m 8) (.m 10), []⟩])
 (.cond (.m 11)
 .skip
 (.seq (K [0, 1, 2, 7]) (.exit 0))))
 (.seq (.block 1
 (.seq (.reg false [
  ⟨some 14, none, .mov (.s 0), []⟩,
  ⟨some 15, none, .mov (.s 7), []⟩,
  ⟨some 16, none, .ia 1 (.m 14) (.m 15), []⟩,
  ⟨some 17, none, .ld none 0 (.m 16), []⟩,
  ⟨some 18, none, .mov (.s 1), []⟩,
  ⟨some 19, none, .bin .lss (.m 17) (.m 18), []⟩,
  ⟨some 20, none, .mov (.m 19), []⟩,
  ⟨some 21, (some (20, false)), .mov (.s 0), []⟩,
  ⟨some 22, (some (20, false)), .mov (.s 7), []⟩,
  ⟨some 23, (some (20, false)), .ia 1 (.s 21) (.s 22), []⟩,
  ⟨some 24, (some (20, false)), .ld none 0 (.s 23), []⟩,
  ⟨some 25, (some (20, false)), .mov (.s 2), []⟩,
  ⟨some 26, (some (20, false)), .bin .gtr (.s 24) (.s 25), []⟩,
  ⟨some 27, none, .pick (.m 20) (.c (.d (.bool true))) (.m 26), []⟩,
  ⟨none, none, .kill [21, 22, 23, 24, 25], []⟩])
 (.cond (.m 27)
 (.seq (K [0, 1, 2, 7]) (.seq (.reg false [
  ⟨some 6, none, .mov (.c (.d (.bool false))), []⟩])
 .ret))
 .skip)))
 (.reg false [
  ⟨some 12, none, .mov (.m 7), []⟩,
  ⟨some 13, none, .bin .add (.m 12) (.c (.d (.int .i64 1))), []⟩,
  ⟨some 7, none, .mov (.m 13), []⟩,
  ⟨none, none, .kill [6, 14, 15, 16, 17, 18, 19, 20, 21, 22, 23, 24, 25, 26, 27], []⟩]))))))
 (.seq (.reg false [
  ⟨some 6, none, .mov (.c (.d (.bool true))), []⟩,
  ⟨none, none, .kill [0, 1, 2, 7, 8, 9, 10, 11, 12, 13, 14, 15, 16, 17, 18, 19, 20, 21, 22, 23, 24, 25, 26, 27], []⟩])
 .ret)))⟩
def c18 : VFunc := ⟨1, [.tmp 2],
 (.seq (.reg false [
  ⟨some 2, none, .mov (.c (.d (.bool false))), []⟩,
  ⟨none, none, .kill [2], []⟩])
 (.seq (.reg false [
  ⟨some 3, none, .mov (.c (.d (.int .i64 0))), []⟩])
 (.seq (.seq (.reg false [
  ⟨some 4, none, .mov (.c (.d (.int .i64 0))), []⟩])
 (.block 0
 (.loop
 (.seq (.seq (.reg false [
  ⟨some 7, none, .mov (.s 4), []⟩,
  ⟨some 8, none, .bin .lss (.m 7) (.c (.d (.int .i64 8))), []⟩])
 (.cond (.m 8)
 .skip
 (.seq (K [0, 3, 4]) (.exit 0))))
 (.seq (.block 1
 (.seq (.reg false [
  ⟨some 5, none, .mov (.c (.d (.int .i64 0))), []⟩])
 (.seq (.seq (.reg false [
  ⟨some 11, none, .mov (.s 4), []⟩,
  ⟨some 12, none, .bin .mul (.c (.d (.int .i64 32))) (.m 11), []⟩,
  ⟨some 6, none, .mov (.m 12), []⟩])
 (.block 2
 (.loop
 (.seq (.seq (.reg false [
  ⟨some 13, none, .mov (.s 6), []⟩,
  ⟨some 14, none, .mov (.s 4), []⟩,
  ⟨some 15, none, .bin .mul (.c (.d (.int .i64 32))) (.m 14), []⟩,
  ⟨some 16, none, .bin .add (.m 15) (.c (.d (.int .i64 32))), []⟩,
  ⟨some 17, none, .bin .lss (.m 13) (.m 16), []⟩])
 (.cond (.m 17)
 .skip
 (.seq (K [6]) (.exit 2))))
 (.seq (.block 3
 (.reg true [
  ⟨some 20, none, .mov (.m 5), []⟩,
  ⟨some 21, none, .mov (.s 0), []⟩,
  ⟨some 22, none, .mov (.s 6), []⟩,
  ⟨some 23, none, .ia 1 (.m 21) (.m 22), []⟩,
  ⟨some 24, none, .ld none 0 (.m 23), []⟩,
  ⟨some 25, none, .mov (.s 0), []⟩,
  ⟨some 26, none, .mov (.s 6), []⟩,
  ⟨some 27, none, .ia 1 (.m 25) (.m 26), []⟩,
  ⟨some 28, none, .ld none 0 (.m 27), []⟩,
  ⟨some 29, none, .bin .mul (.m 24) (.m 28), []⟩,
  ⟨some 30, none, .bin .add (.m 20) (.m 29), []⟩,
  ⟨some 5, none, .mov (.m 30), []⟩]))
 (.reg false [
  ⟨some 18, none, .mov (.m 6), []⟩,
  ⟨some 19, none, .bin .add (.m 18) (.c (.d (.int .i64 1))), []⟩,
  ⟨some 6, none, .mov (.m 19), []⟩,
  ⟨none, none, .kill [20, 21, 22, 23, 24, 25, 26, 27, 28, 29, 30], []⟩]))))))
 (.seq (.seq (.reg false [
  ⟨some 31, none, .mov (.s 4), []⟩,
  ⟨some 32, none, .bin .gtr (.m 31) (.c (.d (.int .i64 0))), []⟩,
  ⟨some 33, none, .mov (.m 32), []⟩,
  ⟨some 34, (some (33, true)), .mov (.s 4), []⟩,
  ⟨some 35, (some (33, true)), .mov (.s 5), []⟩,
  ⟨some 36, (some (33, true)), .bin .mul (.s 34) (.s 35), []⟩,
  ⟨some 37, (some (33, true)), .mov (.s 3), []⟩,
  ⟨some 38, (some (33, true)), .bin .mul (.c (.d (.int .i64 8))) (.s 37), []⟩,
  ⟨some 39, (some (33, true)), .mov (.s 4), []⟩,
  ⟨some 40, (some (33, true)), .bin .mul (.s 39) (.c (.d (.int .i64 1048576))), []⟩,
  ⟨some 41, (some (33, true)), .bin .add (.s 38) (.s 40), []⟩,
  ⟨some 42, (some (33, true)), .bin .gtr (.s 36) (.s 41), []⟩,
  ⟨some 43, none, .pick (.m 33) (.m 42) (.c (.d (.bool false))), []⟩,
  ⟨none, none, .kill [6, 13, 14, 15, 16, 17, 18, 19, 20, 21, 22, 23, 24, 25, 26, 27, 28, 29, 30, 34, 35, 36, 37, 38, 39, 40, 41], []⟩])
 (.cond (.m 43)
 (.seq (K [0, 3, 4, 5]) (.seq (.reg false [
  ⟨some 2, none, .mov (.c (.d (.bool true))), []⟩])
 .ret))
 .skip))
 (.reg false [
  ⟨some 44, none, .mov (.m 3), []⟩,
  ⟨some 45, none, .mov (.m 5), []⟩,
  ⟨some 46, none, .bin .add (.m 44) (.m 45), []⟩,
  ⟨some 3, none, .mov (.m 46), []⟩])))))
 (.reg false [
  ⟨some 9, none, .mov (.m 4), []⟩,
  ⟨some 10, none, .bin .add (.m 9) (.c (.d (.int .i64 1))), []⟩,
  ⟨some 4, none, .mov (.m 10), []⟩,
  ⟨none, none, .kill [2, 5, 6, 11, 12, 13, 14, 15, 16, 17, 18, 19, 20, 21, 22, 23, 24, 25, 26, 27, 28, 29, 30, 31, 32, 33, 34, 35, 36, 37, 38, 39, 40, 41, 42, 43, 44, 45, 46], []⟩]))))))
 (.seq (.reg false [
  ⟨some 2, none, .mov (.c (.d (.bool false))), []⟩,
  ⟨none, none, .kill [0, 3, 4, 5, 6, 7, 8, 9, 10, 11, 12, 13, 14, 15, 16, 17, 18, 19, 20, 21, 22, 23, 24, 25, 26, 27, 28, 29, 30, 31, 32, 33, 34, 35, 36, 37, 38, 39, 40, 41, 42, 43, 44, 45, 46], []⟩])
 .ret))))⟩
def c19 : VFunc := ⟨3, [.tmp 6],
 (.seq (.reg false [
  ⟨some 6, none, .mov (.c (.d (.int .u8 0))), []⟩,
  ⟨none, none, .kill [6], []⟩])
 (.seq (.seq (.reg false [
  ⟨some 7, none, .mov (.s 0), []⟩,
  ⟨some 8, none, .bin .eql (.m 7) (.c (.d (.int .u8 0))), []⟩,
  ⟨some 9, none, .mov (.m 8), []⟩,
  ⟨some 10, (some (9, false)), .mov (.s 0), []⟩,
  ⟨some 11, (some (9, false)), .bin .eql (.s 10) (.c (.d (.int .u8 3))), []⟩,
  ⟨some 12, none, .pick (.m 9) (.c (.d (.bool true))) (.m 11), []⟩,
  ⟨none, none, .kill [0, 10], []⟩])
 (.cond (.m 12)
 (.seq (K [1]) (.seq (.seq (.reg false [
  ⟨some 13, none, .mov (.m 2), []⟩])
 (.cond (.m 13)
 (.seq (.reg false [
  ⟨some 6, none, .mov (.c (.d (.int .u8 1))), []⟩])
 .ret)
 .skip))
 (.seq (.reg false [
  ⟨some 6, none, .mov (.c (.d (.int .u8 0))), []⟩])
 .ret)))
 .skip))
 (.seq (.seq (.reg false [
  ⟨some 14, none, .mov (.m 1), []⟩,
  ⟨some 15, none, .mov (.m 14), []⟩,
  ⟨some 16, (some (15, false)), .mov (.s 2), []⟩,
  ⟨some 17, none, .pick (.m 15) (.c (.d (.bool true))) (.m 16), []⟩,
  ⟨none, none, .kill [2], []⟩])
 (.cond (.m 17)
 (.seq (.reg false [
  ⟨some 6, none, .mov (.c (.d (.int .u8 2))), []⟩])
 .ret)
 .skip))
 (.seq (.reg false [
  ⟨some 6, none, .mov (.c (.d (.int .u8 3))), []⟩])
 .ret))))⟩
def c33 : VFunc := ⟨3, [],
 (.seq (.reg false [
  ⟨some 4, none, .mov (.c (.d (.int .i64 0))), []⟩])
 (.block 0
 (.loop
 (.seq (.seq (.reg false [
  ⟨some 6, none, .mov (.s 4), []⟩,
  ⟨some 7, none, .ld none 0 (.s 1), []⟩,
  ⟨some 8, none, .len (.m 7), []⟩,
  ⟨some 9, none, .bin .lss (.m 6) (.m 8), []⟩])
 (.cond (.m 9)
 .skip
 (.seq (K [0, 1, 2, 4]) (.exit 0))))
 (.seq (.block 1
 (.seq (.reg true [
  ⟨some 13, none, .ld none 0 (.s 2), []⟩,
  ⟨some 14, none, .ld none 0 (.s 1), []⟩,
  ⟨some 15, none, .mov (.s 4), []⟩,
  ⟨some 16, none, .slice 1 (.m 14) (some (.m 15)) none none, []⟩,
  ⟨some 17, none, .len (.m 16), []⟩,
  ⟨some 18, none, .minmax false [.m 13, .m 17], []⟩,
  ⟨some 5, none, .mov (.m 18), []⟩])
 (.seq (.reg false [
  ⟨some 19, none, .mov (.s 0), []⟩,
  ⟨some 20, none, .ld none 0 (.s 1), []⟩,
  ⟨some 21, none, .mov (.s 4), []⟩,
  ⟨some 22, none, .mov (.s 4), []⟩,
  ⟨some 23, none, .mov (.s 5), []⟩,
  ⟨some 24, none, .bin .add (.m 22) (.m 23), []⟩,
  ⟨some 25, none, .mov (.s 4), []⟩,
  ⟨some 26, none, .mov (.m 5), []⟩,
  ⟨some 27, none, .bin .add (.m 25) (.m 26), []⟩,
  ⟨some 28, none, .slice 1 (.m 20) (some (.m 21)) (some (.m 24)) (some (.m 27)), []⟩,
  ⟨some 29, none, .callv (.m 19) [.m 28], []⟩,
  ⟨some 30, none, .un .not (.m 29), []⟩])
 (.cond (.m 30)
 (.seq (K [0, 1, 2, 4]) .ret)
 .skip))))
 (.reg false [
  ⟨some 10, none, .mov (.m 4), []⟩,
  ⟨some 11, none, .ld none 0 (.s 2), []⟩,
  ⟨some 12, none, .bin .add (.m 10) (.m 11), []⟩,
  ⟨some 4, none, .mov (.m 12), []⟩,
  ⟨none, none, .kill [5, 13, 14, 15, 16, 17, 18, 19, 20, 21, 22, 23, 24, 25, 26, 27, 28, 29, 30], []⟩]))))))⟩
def table : T := (.node 15 c15 (.node 7 c7 (.node 5 c5 (.node 3 c3 .leaf .leaf) (.node 6 c6 .leaf .leaf)) (.node 14 c14 (.node 8 c8 .leaf .leaf) .leaf)) (.node 18 c18 (.node 17 c17 (.node 16 c16 .leaf .leaf) .leaf) (.node 33 c33 (.node 19 c19 .leaf .leaf) .leaf)))
def prog : Nat → Option VFunc := table.look
end Go.Vm
