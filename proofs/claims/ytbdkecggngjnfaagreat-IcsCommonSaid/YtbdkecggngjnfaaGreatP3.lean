import Derived.KernelRfl
import Derived.Test.YtbdkecggngjnfaaGreatP2
set_option linter.unusedVariables false
set_option linter.unusedSimpArgs false
noncomputable section
namespace Go.Vm
set_option maxRecDepth 100000
def gq:Nat:=3
def jk:Nat:=4
def fV:Nat:=5
def dp:Nat:=6
def gE:Nat:=7
def uV:Nat:=8
def Iq:Nat:=9
def pG:Nat:=10
def je:Nat:=11
def fk:Nat:=12
def lQ:Nat:=13
def l0:Nat:=14
def kG:Nat:=15
def lL:Nat:=16
def pc:Nat:=17
def md:Nat:=18
def mi:Nat:=19
def lG:Nat:=20
def kQ:Nat:=21
def cx:Nat:=22
def AL:Nat:=23
def yf:Nat:=24
def rL:Nat:=25
def mX:Nat:=26
def vN:Nat:=27
def uE:Nat:=28
def kw:Nat:=29
def lD:Nat:=30
def ln:Nat:=31
def Ys:Nat:=32
def yo:Nat:=33
def rE:Nat:=34
def yW:Nat:=35
def sM:Nat:=36
def sU:Nat:=37
def bx:Nat:=38
def fm:Nat:=39
def tI:Nat:=40
def gO:Nat:=41
def yI:Nat:=42
def wL:Nat:=43
def ik:Nat:=44
def dD:Nat:=45
def yy:Nat:=46
def v8:Nat:=47
def vY:Nat:=48
def tP:Nat:=49
def tW:Nat:=50
def mU:Nat:=51
def j4:Nat:=52
def fH:Nat:=53
def eI:Nat:=54
def jH:Nat:=55
def pw:Nat:=56
def fP:Nat:=57
def fO:Nat:=58
def iC:Nat:=59
def lS:Nat:=60
def mV:Nat:=61
def ff:Nat:=62
def tC:Nat:=63
def sJ:Nat:=64
def Sk:Nat:=65
def Ct:Nat:=66
def kP:Nat:=67
def j7:Nat:=68
def ed:Nat:=69
def xV:Nat:=70
def kI:Nat:=71
def oB:Nat:=72
def mh:Nat:=73
def CO:Nat:=74
def km:Nat:=75
def f9:Nat:=76
def b6:Nat:=77
def iU:Nat:=78
def j1:Nat:=79
def vq:Nat:=80
def eC:Nat:=81
def yU:Nat:=82
def eF:Nat:=83
def fK:Nat:=84
def eQ:Nat:=85
def pK:Nat:=86
def kH:Nat:=87
def Ca:Nat:=88
def xu:Nat:=89
def na:Nat:=90
def xj:Nat:=91
def jQ:Nat:=92
def qf:Nat:=93
def kl:Nat:=94
def Hy:Nat:=95
def mu:Nat:=96
def NJ:Nat:=97
def dw:Nat:=98
def cZ:Nat:=99
def fj:Nat:=100
def py:Nat:=101
def kg:Nat:=102
def iw:Nat:=103
def X2:Nat:=104
def GG:Nat:=105
def Ha:Nat:=106
def fW:Nat:=107
def jd:Nat:=108
def cH:Nat:=109
def aw:Nat:=110
def f7:Nat:=111
def cq:Nat:=112
abbrev rD:VC:=(.reg false [
 V 3 (.box (.m 1)),
 V 4 (.mov (.c (.d (.bool false)))),
 N (.kill [4])])
abbrev rA:VC:=(.reg false [
 V 12 (.call jk []),
 V 5 (.mov (.m 12))])
abbrev qY:VC:=(.reg false [
 V 13 (.ld (some 9) 0 (.s 3)),
 V 14 (.call fV [.m 13]),
 V 15 (.mov (.m 14)),
 U 15 16 (.mov (.s 0)),
 U 15 17 (.ld (some 9) 0 (.s 3)),
 U 15 18 (.call dp [.s 16,.s 17]),
 U 15 19 (.bin .neq (.s 18) (.c (.d (.int .i64 0)))),
 V 20 (.pick (.m 15) (.c (.d (.bool true))) (.s 19)),
 V 21 (.mov (.m 20)),
 U 21 22 (.mov (.s 5)),
 U 21 23 (.un .not (.s 22)),
 V 24 (.pick (.m 21) (.c (.d (.bool true))) (.s 23)),
 N (.kill [16,17,18,19,22,23])])
abbrev qV:VC:=(.reg false [
 V 25 (.mov (.m 5)),
 V 4 (.mov (.m 25))])
abbrev rM:VC:=(.reg false [
 V 27 (.mov (.s 0)),
 V 28 (.ld (some 9) 0 (.s 3)),
 V 29 (.call gE [.c (.nl),.m 27,.m 28,.c (.d (.bool true))]),
 V 26 (.mov (.m 29)),
 V 30 (.ext 26 true 0),
 V 31 (.ext 26 false 1),
 V 6 (.mov (.m 30)),
 V 7 (.mov (.m 31)),
 N (.kill [26])])
abbrev rZ:VC:=(.reg false [
 V 33 (.mov (.s 0)),
 V 34 (.ld (some 9) 0 (.s 3)),
 V 35 (.call gE [.c (.nl),.m 33,.m 34,.c (.d (.bool false))]),
 V 32 (.mov (.m 35)),
 V 36 (.ext 32 true 0),
 V 37 (.ext 32 false 1),
 V 8 (.mov (.m 36)),
 V 9 (.mov (.m 37)),
 N (.kill [32])])
abbrev rQ:VC:=(.reg false [
 V 39 (.mov (.m 0)),
 V 40 (.fa 1 (.s 3)),
 V 41 (.ld (some 4) 0 (.m 40)),
 V 42 (.call uV [.c (.nl),.m 39,.m 41]),
 V 38 (.mov (.m 42)),
 V 43 (.ext 38 true 0),
 V 44 (.ext 38 false 1),
 V 10 (.mov (.m 43)),
 V 11 (.mov (.m 44)),
 N (.kill [38])])
abbrev rO:VC:=(.reg true [
 V 45 (.mov (.m 7)),
 V 46 (.bin .eql (.m 45) (.c (.d (.int .i64 0)))),
 V 47 (.mov (.m 46)),
 W 47 48 (.mov (.s 9)),
 W 47 49 (.bin .eql (.s 48) (.c (.d (.int .i64 0)))),
 V 50 (.pick (.s 47) (.s 49) (.c (.d (.bool false)))),
 V 51 (.mov (.m 50)),
 W 51 52 (.mov (.s 11)),
 W 51 53 (.bin .eql (.s 52) (.c (.d (.int .i64 0)))),
 V 54 (.pick (.s 51) (.s 53) (.c (.d (.bool false)))),
 V 55 (.mov (.m 54)),
 W 55 56 (.mov (.s 8)),
 W 55 57 (.toStr (.s 56)),
 W 55 58 (.mov (.s 6)),
 W 55 59 (.slice 1 (.s 58) none (some (.c (.d (.int .i64 8)))) none),
 W 55 60 (.toStr (.s 59)),
 W 55 61 (.mov (.s 10)),
 W 55 62 (.toStr (.s 61)),
 W 55 63 (.bin .add (.s 60) (.s 62)),
 W 55 64 (.mov (.s 6)),
 W 55 65 (.slice 1 (.s 64) (some (.c (.d (.int .i64 8)))) none none),
 W 55 66 (.toStr (.s 65)),
 W 55 67 (.bin .add (.s 63) (.s 66)),
 W 55 68 (.bin .eql (.s 57) (.s 67)),
 V 69 (.pick (.s 55) (.s 68) (.c (.d (.bool false)))),
 V 4 (.mov (.m 69))])
def db:af:=⟨2,[.tmp 4],
 (.seq rD
 (.seq rA
 (.seq (.seq qY
 (.cond (.m 24)
 (.seq (.seq (K [0]) (F 3)) (.seq qV
 .ret))
 (.seq (K [5]) .skip)))
 (.seq rM
 (.seq rZ
 (.seq (.seq rQ (F 3))
 (.seq (.seq rO (K [6,8,9,10,11,47,48,49,51,52,53,55,56,57,58,59,60,61,62,63,64,65,66,67,68]))
 .ret)))))))⟩
abbrev wB:VC:=(.reg false [
 V 0 (.mov (.c (.d (.bool false)))),
 N (.kill [0])])
abbrev vG:VC:=(.reg false [
 V 8 (.call pG []),
 V 9 (.call Iq [.c (.d (.int .i64 0)),.m 8]),
 V 7 (.mov (.m 9)),
 V 10 (.ext 7 true 0),
 V 11 (.ext 7 false 1),
 V 1 (.alloc [.d (.int .i64 0),.d (.int .u8 0),.d (.int .u8 0),.d (.int .i64 0),.nl,.nl,.nl,.nl,.nl]),
 N (.st 9 (.s 1) (.m 10)),
 V 2 (.mov (.m 11)),
 N (.kill [7])])
abbrev wE:VC:=(.reg false [
 V 13 (.ld (some 9) 0 (.s 1)),
 V 14 (.call gE [.c (.nl),.c (.d (.int .i64 0)),.m 13,.c (.d (.bool true))]),
 V 12 (.mov (.m 14)),
 V 15 (.ext 12 true 0),
 V 16 (.ext 12 false 1),
 V 3 (.mov (.m 15)),
 V 4 (.mov (.m 16)),
 N (.kill [12])])
abbrev wG:VC:=(.reg false [
 V 18 (.ld (some 9) 1 (.s 1)),
 V 19 (.call gE [.c (.nl),.c (.d (.int .i64 0)),.m 18,.c (.d (.bool false))]),
 V 17 (.mov (.m 19)),
 V 20 (.ext 17 true 0),
 V 21 (.ext 17 false 1),
 V 5 (.mov (.m 20)),
 V 6 (.mov (.m 21)),
 N (.kill [17])])
abbrev ww:VC:=(.reg true [
 V 22 (.mov (.m 2)),
 V 23 (.bin .eql (.m 22) (.c (.d (.int .i64 0)))),
 V 24 (.mov (.m 23)),
 W 24 25 (.mov (.s 4)),
 W 24 26 (.bin .eql (.s 25) (.c (.d (.int .i64 0)))),
 V 27 (.pick (.s 24) (.s 26) (.c (.d (.bool false)))),
 V 28 (.mov (.m 27)),
 W 28 29 (.mov (.s 3)),
 W 28 30 (.toStr (.s 29)),
 W 28 31 (.mkslice [.int .u8 0] (.c (.d (.int .i64 11))) (.c (.d (.int .i64 11)))),
 W 28 32 (.toStr (.s 31)),
 W 28 33 (.bin .eql (.s 30) (.s 32)),
 V 34 (.pick (.s 28) (.s 33) (.c (.d (.bool false)))),
 V 35 (.mov (.m 34)),
 W 35 36 (.mov (.s 6)),
 W 35 37 (.bin .eql (.s 36) (.c (.d (.int .i64 0)))),
 V 38 (.pick (.s 35) (.s 37) (.c (.d (.bool false)))),
 V 39 (.mov (.m 38)),
 W 39 40 (.mov (.s 5)),
 W 39 41 (.len (.s 40)),
 W 39 42 (.bin .eql (.s 41) (.c (.d (.int .i64 22)))),
 V 43 (.pick (.s 39) (.s 42) (.c (.d (.bool false)))),
 V 0 (.mov (.m 43))])
def jg:af:=⟨0,[.tmp 0],
 (.seq wB
 (.seq vG
 (.seq wE
 (.seq (.seq wG (F 1))
 (.seq (.seq ww (K [3,4,5,6,24,25,26,28,29,30,31,32,33,35,36,37,39,40,41,42]))
 .ret)))))⟩
abbrev vJ:VC:=(.reg false [
 V 1 (.box (.m 0)),
 V 2 (.mov (.c (.d (.bool false)))),
 N (.kill [2])])
abbrev wM:VC:=(.reg false [
 V 7 (.fa 1 (.s 1)),
 V 8 (.fa 3 (.m 7)),
 V 9 (.ld none 0 (.m 8)),
 V 10 (.len (.m 9)),
 V 11 (.bin .gtr (.m 10) (.c (.d (.int .i64 40)))),
 V 12 (.mov (.m 11)),
 U 12 13 (.fa 5 (.s 1)),
 U 12 14 (.ld none 0 (.s 13)),
 U 12 15 (.len (.s 14)),
 U 12 16 (.bin .gtr (.s 15) (.c (.d (.int .i64 40)))),
 V 17 (.pick (.m 12) (.c (.d (.bool true))) (.s 16)),
 V 18 (.mov (.m 17)),
 U 18 19 (.fa 6 (.s 1)),
 U 18 20 (.ld none 0 (.s 19)),
 U 18 21 (.len (.s 20)),
 U 18 22 (.bin .gtr (.s 21) (.c (.d (.int .i64 40)))),
 V 23 (.pick (.m 18) (.c (.d (.bool true))) (.s 22)),
 V 24 (.mov (.m 23)),
 U 24 25 (.fa 7 (.s 1)),
 U 24 26 (.ld none 0 (.s 25)),
 U 24 27 (.len (.s 26)),
 U 24 28 (.bin .gtr (.s 27) (.c (.d (.int .i64 40)))),
 V 29 (.pick (.m 24) (.c (.d (.bool true))) (.s 28)),
 V 30 (.mov (.m 29)),
 U 30 31 (.fa 8 (.s 1)),
 U 30 32 (.ld none 0 (.s 31)),
 U 30 33 (.len (.s 32)),
 U 30 34 (.bin .gtr (.s 33) (.c (.d (.int .i64 2000)))),
 V 35 (.pick (.m 30) (.c (.d (.bool true))) (.s 34)),
 N (.kill [13,14,15,16,19,20,21,22,25,26,27,28,31,32,33,34])])
abbrev vR:VC:=(.reg false [
 V 2 (.mov (.c (.d (.bool true))))])
abbrev wp:VC:=(.reg false [
 V 3 (.mov (.c (.d (.int .i64 0))))])
abbrev vP:VC:=(.reg false [
 V 36 (.mov (.s 3)),
 V 37 (.fa 5 (.s 1)),
 V 38 (.ld none 0 (.m 37)),
 V 39 (.len (.m 38)),
 V 40 (.bin .lss (.m 36) (.m 39))])
abbrev wY:VC:=(.reg false [
 V 43 (.fa 5 (.s 1)),
 V 44 (.ld none 0 (.m 43)),
 V 45 (.mov (.s 3)),
 V 46 (.ia 1 (.m 44) (.m 45)),
 V 47 (.ld none 0 (.m 46)),
 V 48 (.len (.m 47)),
 V 49 (.bin .gtr (.m 48) (.c (.d (.int .i64 100))))])
abbrev wZ:VC:=(.reg false [
 V 2 (.mov (.c (.d (.bool true))))])
abbrev vH:VC:=(.reg false [
 V 41 (.mov (.m 3)),
 V 42 (.bin .add (.m 41) (.c (.d (.int .i64 1)))),
 V 3 (.mov (.m 42))])
def bQ:VC:=(.seq (.seq vP
 (.cond (.m 40)
 .skip
 (.seq (K [3]) (.exit 0))))
 (.seq (.block 1
 (.seq wY
 (.cond (.m 49)
 (.seq (.seq (K [3]) (F 1)) (.seq wZ
 .ret))
 .skip)))
 vH))
abbrev vC:VC:=(.reg false [
 V 4 (.mov (.c (.d (.int .i64 0))))])
abbrev wz:VC:=(.reg false [
 V 50 (.mov (.s 4)),
 V 51 (.fa 6 (.s 1)),
 V 52 (.ld none 0 (.m 51)),
 V 53 (.len (.m 52)),
 V 54 (.bin .lss (.m 50) (.m 53))])
abbrev uH:VC:=(.reg false [
 V 57 (.fa 6 (.s 1)),
 V 58 (.ld none 0 (.m 57)),
 V 59 (.mov (.s 4)),
 V 60 (.ia 1 (.m 58) (.m 59)),
 V 61 (.ld none 0 (.m 60)),
 V 62 (.len (.m 61)),
 V 63 (.bin .gtr (.m 62) (.c (.d (.int .i64 200))))])
abbrev uF:VC:=(.reg false [
 V 2 (.mov (.c (.d (.bool true))))])
abbrev uM:VC:=(.reg false [
 V 55 (.mov (.m 4)),
 V 56 (.bin .add (.m 55) (.c (.d (.int .i64 1)))),
 V 4 (.mov (.m 56))])
def bR:VC:=(.seq (.seq wz
 (.cond (.m 54)
 .skip
 (.seq (K [4]) (.exit 2))))
 (.seq (.block 3
 (.seq uH
 (.cond (.m 63)
 (.seq (.seq (K [4]) (F 1)) (.seq uF
 .ret))
 .skip)))
 uM))
abbrev uA:VC:=(.reg false [
 V 5 (.mov (.c (.d (.int .i64 0))))])
abbrev uN:VC:=(.reg false [
 V 64 (.mov (.s 5)),
 V 65 (.fa 7 (.s 1)),
 V 66 (.ld none 0 (.m 65)),
 V 67 (.len (.m 66)),
 V 68 (.bin .lss (.m 64) (.m 67))])
abbrev uI:VC:=(.reg false [
 V 71 (.fa 7 (.s 1)),
 V 72 (.ld none 0 (.m 71)),
 V 73 (.mov (.s 5)),
 V 74 (.ia 1 (.m 72) (.m 73)),
 V 75 (.ld none 0 (.m 74)),
 V 76 (.len (.m 75)),
 V 77 (.bin .gtr (.m 76) (.c (.d (.int .i64 20))))])
abbrev uG:VC:=(.reg false [
 V 2 (.mov (.c (.d (.bool true))))])
abbrev uK:VC:=(.reg false [
 V 6 (.mov (.c (.d (.int .i64 0))))])
abbrev uZ:VC:=(.reg false [
 V 78 (.mov (.s 6)),
 V 79 (.fa 7 (.s 1)),
 V 80 (.ld none 0 (.m 79)),
 V 81 (.mov (.s 5)),
 V 82 (.ia 1 (.m 80) (.m 81)),
 V 83 (.ld none 0 (.m 82)),
 V 84 (.len (.m 83)),
 V 85 (.bin .lss (.m 78) (.m 84))])
abbrev uY:VC:=(.reg false [
 V 88 (.fa 7 (.s 1)),
 V 89 (.ld none 0 (.m 88)),
 V 90 (.mov (.s 5)),
 V 91 (.ia 1 (.m 89) (.m 90)),
 V 92 (.ld none 0 (.m 91)),
 V 93 (.mov (.s 6)),
 V 94 (.ia 5 (.m 92) (.m 93)),
 V 95 (.fa 4 (.m 94)),
 V 96 (.ld none 0 (.m 95)),
 V 97 (.len (.m 96)),
 V 98 (.bin .gtr (.m 97) (.c (.d (.int .i64 100))))])
abbrev uJ:VC:=(.reg false [
 V 2 (.mov (.c (.d (.bool true))))])
abbrev uv:VC:=(.reg false [
 V 86 (.mov (.m 6)),
 V 87 (.bin .add (.m 86) (.c (.d (.int .i64 1)))),
 V 6 (.mov (.m 87))])
def bS:VC:=(.seq (.seq uZ
 (.cond (.m 85)
 .skip
 (.seq (K [6]) (.exit 6))))
 (.seq (.block 7
 (.seq uY
 (.cond (.m 98)
 (.seq (.seq (K [5,6]) (F 1)) (.seq uJ
 .ret))
 .skip)))
 uv))
abbrev uR:VC:=(.reg false [
 V 69 (.mov (.m 5)),
 V 70 (.bin .add (.m 69) (.c (.d (.int .i64 1)))),
 V 5 (.mov (.m 70))])
def bE:VC:=(.seq (.seq uN
 (.cond (.m 68)
 .skip
 (.seq (.seq (K [5]) (F 1)) (.exit 4))))
 (.seq (.block 5
 (.seq (.seq uI
 (.cond (.m 77)
 (.seq (.seq (K [5]) (F 1)) (.seq uG
 .ret))
 .skip))
 (.seq uK
 (.block 6
 (.seq (.loop bS) (K [6]))))))
 uR))
abbrev uT:VC:=(.reg false [
 V 2 (.mov (.c (.d (.bool false))))])
def bf:af:=⟨1,[.tmp 2],
 (.seq vJ
 (.seq (.seq wM
 (.cond (.m 35)
 (.seq (F 1) (.seq vR
 .ret))
 .skip))
 (.seq (.seq wp
 (.block 0
 (.seq (.loop bQ) (K [3]))))
 (.seq (.seq vC
 (.block 2
 (.seq (.loop bR) (K [4]))))
 (.seq (.seq uA
 (.block 4
 (.seq (.loop bE) (.seq (K [5]) (F 1)))))
 (.seq uT
 .ret))))))⟩
abbrev Lq:VC:=(.reg false [
 V 2 (.box (.m 0)),
 V 3 (.box (.m 1)),
 V 4 (.mov (.c (.d (.int .i64 0)))),
 N (.kill [4])])
abbrev OU:VC:=(.reg false [
 V 10 (.ld none 0 (.s 2)),
 V 11 (.fa 1 (.s 3)),
 V 12 (.ld (some 4) 0 (.m 11)),
 V 13 (.call je [.m 10,.m 12]),
 V 5 (.mov (.m 13))])
abbrev Mn:VC:=(.reg false [
 V 14 (.mov (.s 5)),
 V 15 (.bin .neq (.m 14) (.c (.d (.int .i64 0))))])
abbrev Ot:VC:=(.reg false [
 V 16 (.mov (.m 5)),
 V 4 (.mov (.m 16))])
abbrev Pn:VC:=(.reg false [
 V 18 (.fa 1 (.s 3)),
 V 19 (.ld (some 4) 0 (.m 18)),
 V 20 (.call fk [.m 19]),
 V 17 (.mov (.m 20)),
 V 21 (.ext 17 false 0),
 V 22 (.ext 17 false 1),
 V 6 (.alloc [.d (.int .i64 0)]),
 N (.st 1 (.s 6) (.m 21)),
 V 7 (.mov (.m 22)),
 N (.kill [7,17])])
abbrev MT:VC:=(.reg false [
 V 23 (.mkfn lQ [] [.s 3]),
 V 24 (.mkfn l0 [] [.s 3]),
 V 25 (.mkfn lL [] [.s 3]),
 V 26 (.mkfn md [] [.s 3,.s 6]),
 V 27 (.mkfn lG [] [.m 2,.m 3,.m 6]),
 V 28 (.mksv 1 [.m 23,.m 24,.m 25,.m 26,.m 27]),
 V 29 (.len (.s 28)),
 V 30 (.mov (.c (.d (.int .i64 0))))])
abbrev NA:VC:=(.reg false [
 V 31 (.bin .lss (.s 30) (.s 29))])
abbrev MN:VC:=(.reg false [
 V 32 (.ia 1 (.s 28) (.s 30)),
 V 33 (.ld none 0 (.m 32)),
 V 9 (.mov (.m 33))])
abbrev OW:VC:=(.reg false [
 V 34 (.mov (.m 9)),
 V 35 (.callv (.m 34) []),
 V 36 (.un .not (.m 35))])
abbrev Nl:VC:=(.reg false [
 V 4 (.mov (.c (.d (.int .i64 8))))])
abbrev KL:VC:=(.reg false [
 V 37 (.bin .add (.m 30) (.c (.d (.int .i64 1)))),
 V 30 (.mov (.m 37))])
def ez:VC:=(.seq NA
 (.seq (.cond (.m 31)
 .skip
 (.seq (K [28,29,30]) (.exit 0)))
 (.seq (.block 1
 (.seq MN
 (.seq OW
 (.cond (.m 36)
 (.seq (K [28,29,30]) (.seq Nl
 .ret))
 .skip))))
 KL)))
abbrev J6:VC:=(.reg false [
 V 4 (.mov (.c (.d (.int .i64 0))))])
def lr:af:=⟨2,[.tmp 4],
 (.seq Lq
 (.seq (.seq OU
 (.seq Mn
 (.cond (.m 15)
 (.seq (K [2,3]) (.seq Ot
 .ret))
 (.seq (K [5]) .skip))))
 (.seq Pn
 (.seq (.seq MT
 (.block 0
 (.seq (.loop ez) (K [28,29,30]))))
 (.seq J6
 .ret)))))⟩
abbrev XP:VC:=(.reg false [
 V 6 (.box (.m 2)),
 V 8 (.mov (.c (.nl))),
 V 9 (.mov (.c (.d (.int .i64 0)))),
 N (.kill [8,9])])
abbrev Wq:VC:=(.reg false [
 V 16 (.mov (.s 1)),
 V 17 (.ld (some 9) 0 (.s 6)),
 V 18 (.call dp [.m 16,.m 17]),
 V 10 (.mov (.m 18))])
abbrev Wa:VC:=(.reg false [
 V 19 (.mov (.s 10)),
 V 20 (.bin .neq (.m 19) (.c (.d (.int .i64 0))))])
abbrev XO:VC:=(.reg false [
 V 21 (.mov (.m 10)),
 V 8 (.mov (.c (.nl))),
 V 9 (.mov (.m 21))])
abbrev XI:VC:=(.reg false [
 V 23 (.mov (.m 0)),
 V 24 (.fa 0 (.s 6)),
 V 25 (.ld none 0 (.m 24)),
 V 26 (.call cx [.m 23,.m 25,.c (.d (.int .i64 8))]),
 V 22 (.mov (.m 26)),
 V 27 (.ext 22 true 0),
 V 28 (.ext 22 false 1),
 V 0 (.mov (.m 27)),
 N (.kill [22,28])])
abbrev W5:VC:=(.reg false [
 V 29 (.mov (.m 3)),
 V 30 (.un .not (.m 29))])
abbrev Wr:VC:=(.reg false [
 V 32 (.mov (.m 0)),
 V 33 (.mov (.s 1)),
 V 34 (.fa 1 (.s 6)),
 V 35 (.ld (some 4) 0 (.m 34)),
 V 36 (.call uV [.m 32,.m 33,.m 35]),
 V 31 (.mov (.m 36)),
 V 37 (.ext 31 true 0),
 V 38 (.ext 31 false 1),
 V 0 (.mov (.m 37)),
 N (.kill [31,38])])
abbrev Wk:VC:=(.reg false [
 V 40 (.mov (.m 0)),
 V 41 (.fa 1 (.s 6)),
 V 42 (.ld (some 4) 0 (.m 41)),
 V 43 (.fa 5 (.s 6)),
 V 44 (.ld none 0 (.m 43)),
 V 45 (.call AL [.m 40,.m 42,.m 44]),
 V 39 (.mov (.m 45)),
 V 46 (.ext 39 true 0),
 V 47 (.ext 39 false 1),
 V 0 (.mov (.m 46)),
 N (.kill [39,47])])
abbrev Yb:VC:=(.reg false [
 V 49 (.mov (.m 0)),
 V 50 (.fa 0 (.s 6)),
 V 51 (.ld none 0 (.m 50)),
 V 52 (.fa 5 (.s 6)),
 V 53 (.ld none 0 (.m 52)),
 V 54 (.fa 6 (.s 6)),
 V 55 (.ld none 0 (.m 54)),
 V 56 (.call yf [.m 49,.m 51,.m 53,.m 55]),
 V 48 (.mov (.m 56)),
 V 57 (.ext 48 true 0),
 V 58 (.ext 48 false 1),
 V 0 (.mov (.m 57)),
 N (.kill [48,58])])
abbrev XN:VC:=(.reg false [
 V 59 (.fa 7 (.s 6)),
 V 60 (.ld none 0 (.m 59)),
 V 61 (.call rL [.m 60])])
def Cx:VC:=(.regP [0,1,2,3,4,5,6,7,8,9,10,11] [0,1,2,3,4,5,6,7,8,9,11,10] [] [
 V 63 (.mov (.m 0)),
 V 64 (.mks 1 [.c (.d (.int .u8 0)),.c (.d (.int .u8 1))]),
 V 65 (.app 1 (.m 63) (.m 64)),
 V 66 (.fa 1 (.s 6)),
 V 67 (.ld (some 4) 0 (.m 66)),
 V 68 (.fa 7 (.s 6)),
 V 69 (.ld none 0 (.m 68)),
 V 70 (.call mX [.m 65,.m 67,.m 69]),
 V 62 (.mov (.m 70)),
 V 71 (.ext 62 true 0),
 V 72 (.ext 62 false 1),
 V 0 (.mov (.m 71))])
abbrev Vj:VC:=(.reg false [
 V 73 (.mov (.m 0)),
 V 74 (.mks 1 [.c (.d (.int .u8 0))]),
 V 75 (.app 1 (.m 73) (.m 74)),
 V 0 (.mov (.m 75))])
abbrev Vk:VC:=(.reg false [
 V 76 (.mov (.m 0)),
 V 77 (.mks 1 [.c (.d (.int .u8 0)),.c (.d (.int .u8 0)),.c (.d (.int .u8 0))]),
 V 78 (.app 1 (.m 76) (.m 77)),
 V 0 (.mov (.m 78))])
abbrev Vp:VC:=(.reg false [
 V 79 (.build [.d (.int .i64 0),.d (.int .i64 0),.nl,.nl,.d (.int .i64 0),.d (.int .i64 0),.nl,.nl,.d (.int .i64 0),.d (.int .i64 0),.nl,.nl,.d (.int .i64 0),.d (.int .i64 0),.nl,.nl,.d (.int .i64 0),.d (.int .i64 0),.nl,.nl,.d (.int .i64 0),.d (.int .i64 0),.nl,.nl,.d (.int .i64 0),.d (.int .i64 0),.nl,.nl,.d (.int .i64 0),.d (.int .i64 0),.nl,.nl,.d (.int .i64 0),.d (.int .i64 0),.nl,.nl,.d (.int .i64 0),.d (.int .i64 0),.nl,.nl,.d (.int .i64 0),.d (.int .i64 0),.nl,.nl,.d (.int .i64 0),.d (.int .i64 0),.nl,.nl] []),
 V 80 (.box (.m 79)),
 V 11 (.alloc [.nilp]),
 N (.st 1 (.s 11) (.m 80))])
abbrev U4:VC:=(.reg false [
 V 12 (.alloc [.nl])])
abbrev UG:VC:=(.reg false [
 V 81 (.mov (.m 1)),
 V 82 (.fa 1 (.s 6)),
 V 83 (.ld (some 4) 0 (.m 82)),
 V 84 (.fa 5 (.s 6)),
 V 85 (.ld none 0 (.m 84)),
 V 86 (.calli vN [.m 81,.m 83,.m 85])])
abbrev T9:VC:=(.reg false [
 V 13 (.alloc [.d (.int .i64 0),.d (.int .i64 0),.d (.int .i64 0)]),
 N (.st 3 (.s 13) (.m 87)),
 N (.kill [0,86])])
def Cu:VC:=(.regP [0,1,2,4,5,6,7,8,9,10,3,11,12,13,14,15,16] [0,1,2,3,4,5,6,7,8,9,10,11,12,13,15,14,16] [3,5,7,9,10] [
 V 89 (.ld none 0 (.s 11)),
 V 90 (.fa 0 (.s 13)),
 V 91 (.ld none 0 (.m 90)),
 V 92 (.calli kw [.m 89,.m 91]),
 V 93 (.fa 8 (.s 6)),
 V 94 (.ld none 0 (.m 93)),
 V 95 (.fa 1 (.s 13)),
 V 96 (.ld none 0 (.m 95)),
 V 97 (.fa 2 (.s 13)),
 V 98 (.ld none 0 (.m 97)),
 V 99 (.slice 1 (.m 94) (some (.m 96)) (some (.m 98)) none),
 V 100 (.call uE [.c (.nl),.m 92,.m 99]),
 V 88 (.mov (.m 100)),
 V 101 (.ext 88 true 0),
 V 102 (.ext 88 false 1),
 V 14 (.mov (.m 101)),
 V 15 (.mov (.m 102))])
abbrev Uj:VC:=(.reg false [
 V 103 (.ld none 1 (.s 12)),
 V 104 (.mov (.m 14)),
 V 105 (.app 1 (.m 103) (.m 104)),
 N (.st 1 (.s 12) (.m 105)),
 N (.kill [12])])
def kL:VC:=T9
def lk:VC:=(.block 1
 (.seq (.seq Cu (.seq (K [6,11,15,88]) (F 13)))
 Uj))
abbrev VB:VC:=(.reg false [
 V 106 (.mov (.m 0)),
 V 107 (.ld none 1 (.s 12)),
 V 108 (.app 1 (.m 106) (.m 107)),
 V 8 (.mov (.m 108)),
 V 9 (.mov (.c (.d (.int .i64 0))))])
def xI:af:=⟨4,[.tmp 8,.tmp 9],
 (.seq XP
 (.seq (.seq Wq
 (.seq Wa
 (.cond (.m 20)
 (.seq (.seq (K [0,1,3]) (F 6)) (.seq XO
 .ret))
 (.seq (K [10]) .skip))))
 (.seq XI
 (.seq (.seq W5
 (.cond (.m 30)
 Wr
 .skip))
 (.seq Wk
 (.seq Yb
 (.seq (.seq XN
 (.cond (.m 61)
 (.seq (.seq Cx (K [62,72]))
 Vj)
 Vk))
 (.seq Vp
 (.seq U4
 (.seq (.seq UG
 (.block 0
 (.seq (.rangeF (.s 86) [87] kL lk) (.seq (.seq (F 6) (F 11)) (F 86)))))
 (.seq (.seq VB (F 12))
 .ret)))))))))))⟩
abbrev UB:VC:=(.reg false [
 V 3 (.box (.m 0)),
 V 5 (.box (.m 2)),
 V 6 (.mov (.c (.nl))),
 V 7 (.mov (.c (.d (.int .i64 0)))),
 N (.kill [6,7])])
abbrev Ug:VC:=(.reg false [
 V 15 (.mov (.m 1)),
 V 16 (.ld (some 4) 0 (.s 5)),
 V 17 (.call je [.m 15,.m 16]),
 V 8 (.mov (.m 17))])
abbrev Uq:VC:=(.reg false [
 V 18 (.mov (.s 8)),
 V 19 (.bin .neq (.m 18) (.c (.d (.int .i64 0))))])
abbrev Uv:VC:=(.reg false [
 V 20 (.mov (.m 8)),
 V 6 (.mov (.c (.nl))),
 V 7 (.mov (.m 20))])
abbrev UX:VC:=(.reg false [
 V 21 (.mkfn lD [] [.s 3]),
 V 9 (.mov (.m 21))])
abbrev UZ:VC:=(.reg false [
 V 22 (.mov (.s 9)),
 V 23 (.callv (.m 22) [.c (.d (.int .i64 0)),.c (.d (.int .i64 1))]),
 N (.kill [23])])
abbrev Vn:VC:=(.reg false [
 V 24 (.mov (.s 9)),
 V 25 (.fa 0 (.s 5)),
 V 26 (.ld none 0 (.m 25)),
 V 27 (.conv .i64 (.m 26)),
 V 28 (.callv (.m 24) [.m 27,.c (.d (.int .i64 2))]),
 N (.kill [28])])
abbrev U5:VC:=(.reg false [
 V 29 (.mov (.s 9)),
 V 30 (.fa 1 (.s 5)),
 V 31 (.ld none 0 (.m 30)),
 V 32 (.conv .i64 (.m 31)),
 V 33 (.callv (.m 29) [.m 32,.c (.d (.int .i64 1))]),
 N (.kill [33])])
abbrev Vc:VC:=(.reg false [
 V 34 (.fa 0 (.s 5)),
 V 35 (.ld none 0 (.m 34)),
 V 36 (.bin .neq (.m 35) (.c (.d (.int .u8 2))))])
abbrev U0:VC:=(.reg false [
 V 37 (.mov (.s 9)),
 V 38 (.fa 2 (.m 5)),
 V 39 (.ld none 0 (.m 38)),
 V 40 (.callv (.m 37) [.m 39,.c (.d (.int .i64 6))]),
 N (.kill [40])])
abbrev PK:VC:=(.reg false [
 V 41 (.mov (.m 9)),
 V 42 (.callv (.m 41) [.c (.d (.int .i64 0)),.c (.d (.int .i64 1))]),
 N (.kill [42])])
abbrev QK:VC:=(.reg false [
 V 43 (.ld none 1 (.m 3)),
 V 6 (.mov (.m 43)),
 V 7 (.mov (.c (.d (.int .i64 0))))])
abbrev PX:VC:=(.reg false [
 V 44 (.mov (.s 9)),
 V 45 (.fa 2 (.s 5)),
 V 46 (.ld none 0 (.m 45)),
 V 47 (.callv (.m 44) [.m 46,.c (.d (.int .i64 4))]),
 N (.kill [47])])
abbrev RN:VC:=(.reg false [
 V 10 (.mov (.c (.d (.int .i64 1))))])
abbrev Sd:VC:=(.reg false [
 V 48 (.mov (.s 10)),
 V 49 (.bin .lss (.m 48) (.c (.d (.int .i64 8))))])
abbrev PH:VC:=(.reg false [
 V 53 (.ld (some 4) 0 (.s 5)),
 V 54 (.mov (.s 10)),
 V 55 (.bin .sub (.m 54) (.c (.d (.int .i64 1)))),
 V 56 (.call ln [.m 53,.m 55]),
 V 52 (.mov (.m 56)),
 V 57 (.ext 52 false 0),
 V 58 (.ext 52 false 1),
 V 11 (.mov (.m 57)),
 V 12 (.mov (.m 58)),
 N (.kill [12,52])])
abbrev SS:VC:=(.reg false [
 V 60 (.ld (some 4) 0 (.s 5)),
 V 61 (.mov (.s 10)),
 V 62 (.call ln [.m 60,.m 61]),
 V 59 (.mov (.m 62)),
 V 63 (.ext 59 false 0),
 V 64 (.ext 59 false 1),
 V 13 (.mov (.m 63)),
 V 14 (.mov (.m 64)),
 N (.kill [14,59])])
abbrev QE:VC:=(.reg false [
 V 65 (.mov (.m 11)),
 V 66 (.mov (.m 13)),
 V 67 (.bin .eql (.m 65) (.m 66))])
abbrev S6:VC:=(.reg false [
 V 68 (.mov (.s 9)),
 V 69 (.callv (.m 68) [.c (.d (.int .i64 1)),.c (.d (.int .i64 1))]),
 N (.kill [69])])
abbrev Sp:VC:=(.reg false [
 V 70 (.mov (.s 9)),
 V 71 (.callv (.m 70) [.c (.d (.int .i64 0)),.c (.d (.int .i64 1))]),
 N (.kill [71])])
abbrev PD:VC:=(.reg false [
 V 50 (.mov (.m 10)),
 V 51 (.bin .add (.m 50) (.c (.d (.int .i64 1)))),
 V 10 (.mov (.m 51))])
def mR:VC:=(.seq (.seq Sd
 (.cond (.m 49)
 .skip
 (.seq (K [5,9,10]) (.exit 0))))
 (.seq (.block 1
 (.seq PH
 (.seq SS
 (.seq QE
 (.cond (.m 67)
 S6
 Sp)))))
 PD))
abbrev Q6:VC:=(.reg false [
 V 72 (.ld none 1 (.m 3)),
 V 6 (.mov (.m 72)),
 V 7 (.mov (.c (.d (.int .i64 0))))])
def Bn:af:=⟨3,[.tmp 6,.tmp 7],
 (.seq UB
 (.seq (.seq Ug
 (.seq Uq
 (.cond (.m 19)
 (.seq (K [3,5]) (.seq Uv
 .ret))
 (.seq (K [8]) .skip))))
 (.seq UX
 (.seq UZ
 (.seq Vn
 (.seq U5
 (.seq (.seq Vc
 (.cond (.m 36)
 (.seq U0
 (.seq PK
 (.seq QK
 .ret)))
 .skip))
 (.seq PX
 (.seq (.seq RN
 (.block 0
 (.seq (.loop mR) (K [5,9,10]))))
 (.seq Q6
 .ret))))))))))⟩
abbrev QA:VC:=(.reg false [
 V 3 (.box (.m 1)),
 V 4 (.alloc [.d (.int .i64 0),.d (.int .u8 0),.d (.int .u8 0),.d (.int .i64 0),.nl,.nl,.nl,.nl,.nl]),
 V 5 (.mov (.c (.d (.int .i64 0)))),
 N (.kill [5])])
abbrev Q3:VC:=(.reg false [
 V 11 (.mov (.m 0)),
 V 12 (.ld (some 4) 0 (.s 3)),
 V 13 (.call je [.m 11,.m 12]),
 V 6 (.mov (.m 13))])
abbrev S7:VC:=(.reg false [
 V 14 (.mov (.s 6)),
 V 15 (.bin .neq (.m 14) (.c (.d (.int .i64 0))))])
abbrev SJ:VC:=(.reg false [
 V 16 (.build [.d (.int .i64 0),.d (.int .u8 0),.d (.int .u8 0),.d (.int .i64 0),.nl,.nl,.nl,.nl,.nl] []),
 V 17 (.mov (.m 6)),
 N (.st 9 (.s 4) (.m 16)),
 V 5 (.mov (.m 17))])
abbrev Ss:VC:=(.reg false [
 V 19 (.ld (some 4) 0 (.s 3)),
 V 20 (.call fk [.m 19]),
 V 18 (.mov (.m 20)),
 V 21 (.ext 18 false 0),
 V 22 (.ext 18 false 1),
 V 7 (.mov (.m 21)),
 V 8 (.mov (.m 22)),
 N (.kill [8,18])])
def PS:VC:=(.regP [0,1,2,3,4,5,6,7] [0,1,2,3,4,5,6,7] [] [
 V 23 (.ld (some 4) 0 (.s 3)),
 V 24 (.call Ys [.m 23]),
 V 25 (.mov (.m 7)),
 V 26 (.mkslice [.lst []] (.s 25) (.s 25)),
 V 27 (.mkslice [.int .i64 0] (.c (.d (.int .i64 256))) (.c (.d (.int .i64 256)))),
 V 28 (.build [.d (.int .i64 0),.d (.int .u8 0),.d (.int .u8 0),.d (.int .i64 0),.nl,.nl,.nl,.nl,.nl] [(1,4,.m 24),(7,1,.m 26),(8,1,.m 27)]),
 V 9 (.alloc [.d (.int .i64 0),.d (.int .u8 0),.d (.int .u8 0),.d (.int .i64 0),.nl,.nl,.nl,.nl,.nl]),
 N (.st 9 (.s 9) (.m 28))])
abbrev Qq:VC:=(.reg false [
 V 29 (.fa 3 (.s 3)),
 V 30 (.ld none 0 (.m 29)),
 V 31 (.len (.m 30)),
 V 32 (.mov (.c (.d (.int .i64 0))))])
abbrev S8:VC:=(.reg false [
 V 33 (.bin .lss (.s 32) (.s 31))])
abbrev Qm:VC:=(.reg false [
 V 10 (.mov (.c (.nl)))])
abbrev Qs:VC:=(.reg false [
 V 34 (.fa 2 (.s 3)),
 V 35 (.ld none 0 (.m 34)),
 V 36 (.bin .gtr (.m 35) (.c (.d (.int .i64 0))))])
abbrev Na:VC:=(.reg false [
 V 37 (.fa 2 (.s 3)),
 V 38 (.ld none 0 (.m 37)),
 V 39 (.build [.d (.int .i64 0),.d (.int .i64 0)] [(1,1,.m 38)]),
 V 40 (.mks 2 [.m 39]),
 V 10 (.mov (.m 40))])
def O8:VC:=(.regP [0,1,2,3,4,5,6,7,8,9,10,11,12,13,14,15] [0,1,2,3,4,5,6,7,8,9,10,11,12,13,14,15] [1,6] [
 V 41 (.fa 5 (.s 9)),
 V 42 (.ld none 2 (.m 41)),
 V 43 (.mov (.m 10)),
 V 44 (.mks 1 [.m 43]),
 V 45 (.app 1 (.m 42) (.m 44)),
 V 46 (.fa 6 (.s 9)),
 V 47 (.ld none 2 (.m 46)),
 V 48 (.fa 2 (.s 3)),
 V 49 (.ld none 0 (.m 48)),
 V 50 (.mkslice [.int .i64 0] (.s 49) (.s 49)),
 V 51 (.mks 1 [.m 50]),
 V 52 (.app 1 (.m 47) (.m 51)),
 V 53 (.fa 5 (.s 9)),
 N (.st 1 (.m 53) (.m 45)),
 V 54 (.fa 6 (.s 9)),
 N (.st 1 (.m 54) (.m 52))])
abbrev NF:VC:=(.reg false [
 V 55 (.bin .add (.m 32) (.c (.d (.int .i64 1)))),
 V 32 (.mov (.m 55))])
def Rp:VC:=(.seq S8
 (.seq (.cond (.m 33)
 .skip
 (.seq (.seq (K [31,32]) (F 3)) (.exit 0)))
 (.seq (.block 1
 (.seq Qm
 (.seq (.seq Qs
 (.cond (.m 36)
 (.seq (K [10]) Na)
 .skip))
 (.seq O8 (K [49])))))
 NF)))
abbrev Ml:VC:=(.reg false [
 V 56 (.ld (some 9) 1 (.s 9)),
 N (.st 9 (.s 4) (.m 56)),
 V 5 (.mov (.c (.d (.int .i64 0))))])
def YE:af:=⟨2,[.cell 4 (some 9),.tmp 5],
 (.seq QA
 (.seq (.seq Q3
 (.seq S7
 (.cond (.m 15)
 (.seq (F 3) (.seq SJ
 .ret))
 (.seq (K [6]) .skip))))
 (.seq Ss
 (.seq (.seq PS (K [25]))
 (.seq (.seq Qq
 (.block 0
 (.seq (.loop Rp) (.seq (K [31,32]) (F 3)))))
 (.seq (.seq Ml (F 9))
 .ret))))))⟩
abbrev xc:VC:=(.reg false [
 V 0 (.alloc [.d (.int .u8 0),.d (.int .u8 0),.d (.int .i64 0),.nl])])
abbrev xb:VC:=(.reg false [
 V 1 (.mks 1 [.c (.d (.int .i64 1))]),
 V 2 (.build [.d (.int .u8 0),.d (.int .u8 0),.d (.int .i64 0),.nl] [(3,1,.m 1)]),
 N (.st 4 (.s 0) (.m 2))])
def BE:af:=⟨0,[.cell 0 (some 4)],
 (.seq xc
 (.seq xb
 .ret))⟩
abbrev M9:VC:=(.reg false [
 V 3 (.box (.m 1)),
 V 4 (.mov (.c (.d (.int .i64 0)))),
 N (.kill [4])])
abbrev Ol:VC:=(.reg false [
 V 8 (.mov (.m 0)),
 V 9 (.fa 0 (.s 3)),
 V 10 (.ld none 0 (.m 9)),
 V 11 (.bin .eql (.m 10) (.c (.d (.int .u8 2)))),
 V 12 (.call yo [.m 8,.m 11]),
 V 7 (.mov (.m 12)),
 V 13 (.ext 7 false 0),
 V 14 (.ext 7 false 1),
 V 5 (.mov (.m 13)),
 V 6 (.mov (.m 14)),
 N (.kill [7])])
abbrev OE:VC:=(.reg false [
 V 15 (.mov (.s 6)),
 V 16 (.bin .neq (.m 15) (.c (.d (.int .i64 0))))])
abbrev L3:VC:=(.reg false [
 V 17 (.mov (.m 6)),
 V 4 (.mov (.m 17))])
abbrev Mh:VC:=(.reg false [
 V 18 (.fa 0 (.s 3)),
 V 19 (.ld none 0 (.m 18)),
 V 20 (.bin .gtr (.m 19) (.c (.d (.int .u8 3)))),
 V 21 (.mov (.m 20)),
 U 21 22 (.fa 1 (.s 3)),
 U 21 23 (.ld none 0 (.s 22)),
 U 21 24 (.bin .gtr (.s 23) (.c (.d (.int .u8 1)))),
 V 25 (.pick (.m 21) (.c (.d (.bool true))) (.s 24)),
 V 26 (.mov (.m 25)),
 U 26 27 (.fa 2 (.s 3)),
 U 26 28 (.ld none 0 (.s 27)),
 U 26 29 (.bin .lss (.s 28) (.c (.d (.int .i64 0)))),
 V 30 (.pick (.m 26) (.c (.d (.bool true))) (.s 29)),
 V 31 (.mov (.m 30)),
 U 31 32 (.fa 2 (.s 3)),
 U 31 33 (.ld none 0 (.s 32)),
 U 31 34 (.mov (.s 5)),
 U 31 35 (.bin .gtr (.s 33) (.s 34)),
 V 36 (.pick (.m 31) (.c (.d (.bool true))) (.s 35)),
 V 37 (.mov (.m 36)),
 U 37 38 (.ld (some 4) 0 (.s 3)),
 U 37 39 (.call rE [.s 38]),
 U 37 40 (.un .not (.s 39)),
 V 41 (.pick (.m 37) (.c (.d (.bool true))) (.s 40)),
 N (.kill [3,5,22,23,24,27,28,29,32,33,34,35,38,39,40])])
abbrev N5:VC:=(.reg false [
 V 4 (.mov (.c (.d (.int .i64 8))))])
abbrev NH:VC:=(.reg false [
 V 4 (.mov (.c (.d (.int .i64 0))))])
def wn:af:=⟨2,[.tmp 4],
 (.seq M9
 (.seq Ol
 (.seq (.seq OE
 (.cond (.m 16)
 (.seq (K [3,5]) (.seq L3
 .ret))
 (.seq (K [6]) .skip)))
 (.seq (.seq Mh
 (.cond (.m 41)
 (.seq N5
 .ret)
 .skip))
 (.seq NH
 .ret)))))⟩
abbrev HX:VC:=(.reg false [
 V 1 (.box (.m 0)),
 V 2 (.mov (.c (.d (.int .i64 0)))),
 V 3 (.mov (.c (.d (.int .i64 0)))),
 N (.kill [2,3])])
abbrev HY:VC:=(.reg false [
 V 5 (.ld (some 4) 0 (.s 1)),
 V 6 (.call yW [.m 5]),
 V 7 (.un .not (.m 6)),
 V 4 (.mov (.m 7))])
abbrev H8:VC:=(.reg false [
 V 2 (.mov (.c (.d (.int .i64 0)))),
 V 3 (.mov (.c (.d (.int .i64 8))))])
abbrev Hn:VC:=(.reg false [
 V 9 (.fa 0 (.m 1)),
 V 10 (.ld none 0 (.m 9)),
 V 11 (.bin .eql (.m 10) (.c (.d (.int .u8 2)))),
 V 8 (.mov (.m 11))])
abbrev Hf:VC:=(.reg false [
 V 2 (.mov (.c (.d (.int .i64 8)))),
 V 3 (.mov (.c (.d (.int .i64 0))))])
abbrev Gz:VC:=(.reg false [
 V 2 (.mov (.c (.d (.int .i64 1)))),
 V 3 (.mov (.c (.d (.int .i64 0))))])
def sj:af:=⟨1,[.tmp 2,.tmp 3],
 (.seq HX
 (.seq (.block 0
 (.seq HY
 (.cond (.m 4)
 (.seq (K [1]) (.seq H8
 .ret))
 (.seq Hn
 (.cond (.m 8)
 (.seq Hf
 .ret)
 .skip)))))
 (.seq Gz
 .ret)))⟩
abbrev Hw:VC:=(.reg false [
 V 1 (.mov (.c (.d (.bool false)))),
 N (.kill [1])])
abbrev Hj:VC:=(.reg false [
 V 2 (.fa 0 (.s 0)),
 V 3 (.ld none 0 (.m 2)),
 V 4 (.bin .geq (.m 3) (.c (.d (.int .i64 0)))),
 V 5 (.mov (.m 4)),
 W 5 6 (.fa 0 (.s 0)),
 W 5 7 (.ld none 0 (.s 6)),
 W 5 8 (.bin .leq (.s 7) (.c (.d (.int .i64 255)))),
 V 9 (.pick (.m 5) (.s 8) (.c (.d (.bool false)))),
 V 1 (.mov (.m 9)),
 N (.kill [0,6,7,8])])
def sf:af:=⟨1,[.tmp 1],
 (.seq Hw
 (.seq Hj
 .ret))⟩
abbrev Gw:VC:=(.reg false [
 V 1 (.mov (.c (.d (.bool false)))),
 N (.kill [1])])
abbrev Hs:VC:=(.reg false [
 V 2 (.ld (some 9) 0 (.m 0)),
 V 3 (.call kG [.m 2]),
 V 1 (.mov (.m 3))])
def rC:af:=⟨1,[.tmp 1],
 (.seq Gw
 (.seq Hs
 .ret))⟩
abbrev D5:VC:=(.reg false [
 V 1 (.box (.m 0)),
 V 2 (.mov (.c (.d (.bool false)))),
 N (.kill [2])])
abbrev DE:VC:=(.reg false [
 V 8 (.fa 5 (.s 1)),
 V 9 (.ld none 0 (.m 8)),
 V 10 (.len (.m 9)),
 V 11 (.fa 1 (.s 1)),
 V 12 (.fa 3 (.m 11)),
 V 13 (.ld none 0 (.m 12)),
 V 14 (.len (.m 13)),
 V 15 (.bin .neq (.m 10) (.m 14))])
abbrev DV:VC:=(.reg false [
 V 2 (.mov (.c (.d (.bool false))))])
abbrev Fc:VC:=(.reg false [
 V 16 (.fa 5 (.s 1)),
 V 17 (.ld none 0 (.m 16)),
 V 18 (.len (.s 17)),
 V 19 (.mov (.c (.d (.int .i64 0))))])
abbrev Fk:VC:=(.reg false [
 V 20 (.bin .lss (.s 19) (.s 18))])
abbrev Eu:VC:=(.reg false [
 V 21 (.ia 1 (.s 17) (.s 19)),
 V 22 (.ld none 0 (.m 21)),
 V 4 (.mov (.m 22))])
abbrev DW:VC:=(.reg false [
 V 5 (.mov (.c (.d (.int .i64 0))))])
abbrev DA:VC:=(.reg false [
 V 23 (.mov (.s 4)),
 V 24 (.len (.s 23)),
 V 25 (.mov (.c (.d (.int .i64 0))))])
abbrev ET:VC:=(.reg false [
 V 26 (.bin .lss (.s 25) (.s 24))])
abbrev ED:VC:=(.reg false [
 V 27 (.ia 2 (.s 23) (.s 25)),
 V 28 (.ld (some 2) 0 (.m 27)),
 V 7 (.alloc [.d (.int .i64 0),.d (.int .i64 0)]),
 N (.st 2 (.s 7) (.m 28))])
abbrev CM:VC:=(.reg false [
 V 29 (.fa 1 (.s 7)),
 V 30 (.ld none 0 (.m 29)),
 V 31 (.bin .lss (.m 30) (.c (.d (.int .i64 1)))),
 V 32 (.mov (.m 31)),
 U 32 33 (.fa 1 (.s 7)),
 U 32 34 (.ld none 0 (.s 33)),
 U 32 35 (.bin .gtr (.s 34) (.c (.d (.int .i64 40)))),
 V 36 (.pick (.m 32) (.c (.d (.bool true))) (.s 35)),
 V 37 (.mov (.m 36)),
 U 37 38 (.fa 0 (.s 7)),
 U 37 39 (.ld none 0 (.s 38)),
 U 37 40 (.bin .lss (.s 39) (.c (.d (.int .i64 0)))),
 V 41 (.pick (.m 37) (.c (.d (.bool true))) (.s 40)),
 V 42 (.mov (.m 41)),
 U 42 43 (.fa 0 (.s 7)),
 U 42 44 (.ld none 0 (.s 43)),
 U 42 45 (.bin .gtr (.s 44) (.c (.d (.int .i64 11)))),
 U 42 46 (.mov (.s 45)),
 W 46 47 (.fa 0 (.s 7)),
 W 46 48 (.ld none 0 (.s 47)),
 W 46 49 (.bin .neq (.s 48) (.c (.d (.int .i64 13)))),
 U 42 50 (.pick (.s 46) (.s 49) (.c (.d (.bool false)))),
 V 51 (.pick (.m 42) (.c (.d (.bool true))) (.s 50)),
 N (.kill [33,34,35,38,39,40,43,44,45,46,47,48,49,50])])
abbrev C4:VC:=(.reg false [
 V 2 (.mov (.c (.d (.bool false))))])
abbrev CT:VC:=(.reg false [
 V 52 (.mov (.m 5)),
 V 53 (.fa 1 (.s 7)),
 V 54 (.ld none 0 (.m 53)),
 V 55 (.bin .add (.m 52) (.m 54)),
 V 5 (.mov (.m 55))])
abbrev CH:VC:=(.reg false [
 V 56 (.bin .add (.m 25) (.c (.d (.int .i64 1)))),
 V 25 (.mov (.m 56))])
def fI:VC:=(.seq ET
 (.seq (.cond (.m 26)
 .skip
 (.seq (K [23,24,25]) (.exit 2)))
 (.seq (.block 3
 (.seq ED
 (.seq (.seq CM
 (.cond (.m 51)
 (.seq (.seq (.seq (K [4,5,17,18,19,23,24,25]) (F 1)) (F 7)) (.seq C4
 .ret))
 .skip))
 (.seq CT (F 7)))))
 CH)))
abbrev CE:VC:=(.reg false [
 V 57 (.mov (.m 5)),
 V 58 (.fa 1 (.s 1)),
 V 59 (.fa 2 (.m 58)),
 V 60 (.ld none 0 (.m 59)),
 V 61 (.bin .neq (.m 57) (.m 60)),
 V 62 (.mov (.m 61)),
 U 62 63 (.mov (.s 4)),
 U 62 64 (.len (.s 63)),
 U 62 65 (.bin .gtr (.s 64) (.c (.d (.int .i64 40)))),
 V 66 (.pick (.m 62) (.c (.d (.bool true))) (.s 65)),
 N (.kill [4,63,64,65])])
abbrev CF:VC:=(.reg false [
 V 2 (.mov (.c (.d (.bool false))))])
abbrev C5:VC:=(.reg false [
 V 67 (.bin .add (.m 19) (.c (.d (.int .i64 1)))),
 V 19 (.mov (.m 67))])
def d9:VC:=(.seq Fk
 (.seq (.cond (.m 20)
 .skip
 (.seq (.seq (K [17,18,19]) (F 1)) (.exit 0)))
 (.seq (.block 1
 (.seq Eu
 (.seq DW
 (.seq (.seq DA
 (.block 2
 (.seq (.loop fI) (K [23,24,25]))))
 (.seq CE
 (.cond (.m 66)
 (.seq (.seq (K [17,18,19]) (F 1)) (.seq CF
 .ret))
 .skip))))))
 C5)))
abbrev CN:VC:=(.reg false [
 V 2 (.mov (.c (.d (.bool true))))])
def pf:af:=⟨1,[.tmp 2],
 (.seq D5
 (.seq (.seq DE
 (.cond (.m 15)
 (.seq (F 1) (.seq DV
 .ret))
 .skip))
 (.seq (.seq Fc
 (.block 0
 (.seq (.loop d9) (.seq (K [17,18,19]) (F 1)))))
 (.seq CN
 .ret))))⟩
abbrev HE:VC:=(.reg false [
 V 1 (.mov (.c (.d (.bool false)))),
 N (.kill [1])])
abbrev HZ:VC:=(.reg false [
 V 2 (.ld (some 9) 0 (.m 0)),
 V 3 (.call pc [.m 2]),
 V 1 (.mov (.m 3))])
def sq:af:=⟨1,[.tmp 1],
 (.seq HE
 (.seq HZ
 .ret))⟩
abbrev OV:VC:=(.reg false [
 V 1 (.box (.m 0)),
 V 2 (.mov (.c (.d (.bool false)))),
 N (.kill [2])])
abbrev MA:VC:=(.reg false [
 V 12 (.fa 6 (.s 1)),
 V 13 (.ld none 0 (.m 12)),
 V 14 (.len (.m 13)),
 V 15 (.fa 1 (.s 1)),
 V 16 (.fa 3 (.m 15)),
 V 17 (.ld none 0 (.m 16)),
 V 18 (.len (.m 17)),
 V 19 (.bin .neq (.m 14) (.m 18))])
abbrev OL:VC:=(.reg false [
 V 2 (.mov (.c (.d (.bool false))))])
abbrev Mg:VC:=(.reg false [
 V 20 (.fa 0 (.s 1)),
 V 21 (.ld none 0 (.m 20)),
 V 3 (.mov (.m 21)),
 V 4 (.mov (.c (.d (.int .i64 0)))),
 V 5 (.mov (.c (.d (.bool false))))])
abbrev Lu:VC:=(.reg false [
 V 22 (.fa 6 (.s 1)),
 V 23 (.ld none 0 (.m 22)),
 V 24 (.len (.s 23)),
 V 25 (.mov (.c (.d (.int .i64 0))))])
abbrev NL:VC:=(.reg false [
 V 26 (.bin .lss (.s 25) (.s 24))])
abbrev OZ:VC:=(.reg false [
 V 27 (.mov (.s 25)),
 V 28 (.ia 1 (.s 23) (.s 25)),
 V 29 (.ld none 0 (.m 28)),
 V 6 (.mov (.m 27)),
 V 7 (.mov (.m 29))])
abbrev ND:VC:=(.reg false [
 V 30 (.mov (.s 7)),
 V 31 (.len (.m 30)),
 V 32 (.fa 1 (.s 1)),
 V 33 (.fa 2 (.m 32)),
 V 34 (.ld none 0 (.m 33)),
 V 35 (.bin .neq (.m 31) (.m 34))])
abbrev Oo:VC:=(.reg false [
 V 2 (.mov (.c (.d (.bool false))))])
abbrev N1:VC:=(.reg false [
 V 36 (.mov (.m 7)),
 V 37 (.len (.s 36)),
 V 38 (.mov (.c (.d (.int .i64 0))))])
abbrev JI:VC:=(.reg false [
 V 39 (.bin .lss (.s 38) (.s 37))])
abbrev IQ:VC:=(.reg false [
 V 40 (.mov (.s 38)),
 V 41 (.ia 1 (.s 36) (.s 38)),
 V 42 (.ld none 0 (.m 41)),
 V 8 (.mov (.m 40)),
 V 9 (.mov (.m 42))])
abbrev JP:VC:=(.reg false [
 V 44 (.fa 5 (.s 1)),
 V 45 (.ld none 0 (.m 44)),
 V 46 (.mov (.s 6)),
 V 47 (.mov (.m 8)),
 V 48 (.call sM [.m 45,.m 46,.m 47]),
 V 43 (.mov (.m 48)),
 V 49 (.ext 43 false 0),
 V 50 (.ext 43 false 1),
 V 10 (.mov (.m 49)),
 V 11 (.mov (.m 50)),
 N (.kill [11,43])])
abbrev Kb:VC:=(.reg false [
 V 52 (.mov (.s 10)),
 V 53 (.bin .eql (.m 52) (.c (.d (.int .i64 0)))),
 V 54 (.mov (.m 53)),
 W 54 55 (.mov (.s 9)),
 W 54 56 (.bin .neq (.s 55) (.c (.d (.int .i64 0)))),
 V 57 (.pick (.m 54) (.s 56) (.c (.d (.bool false)))),
 V 51 (.mov (.m 57)),
 N (.kill [55,56])])
abbrev Ke:VC:=(.reg false [
 V 2 (.mov (.c (.d (.bool false))))])
abbrev Jx:VC:=(.reg false [
 V 59 (.mov (.s 10)),
 V 60 (.bin .eql (.m 59) (.c (.d (.int .i64 13)))),
 V 58 (.mov (.m 60))])
abbrev K6:VC:=(.reg false [
 V 61 (.mov (.s 9)),
 V 62 (.bin .lss (.m 61) (.c (.d (.int .i64 0)))),
 V 63 (.mov (.m 62)),
 U 63 64 (.mov (.s 9)),
 U 63 65 (.bin .gtr (.s 64) (.c (.d (.int .i64 511)))),
 V 66 (.pick (.m 63) (.c (.d (.bool true))) (.s 65)),
 V 67 (.mov (.m 66)),
 U 67 68 (.mov (.s 5)),
 U 67 69 (.mov (.s 68)),
 W 69 70 (.mov (.s 4)),
 W 69 71 (.mov (.s 9)),
 W 69 72 (.call sU [.s 70,.s 71]),
 W 69 73 (.un .not (.s 72)),
 U 67 74 (.pick (.s 69) (.s 73) (.c (.d (.bool false)))),
 V 75 (.pick (.m 67) (.c (.d (.bool true))) (.s 74)),
 N (.kill [4,5,64,65,68,69,70,71,72,73,74])])
abbrev JL:VC:=(.reg false [
 V 2 (.mov (.c (.d (.bool false))))])
abbrev K7:VC:=(.reg false [
 V 76 (.mov (.m 9)),
 V 4 (.mov (.m 76)),
 V 5 (.mov (.c (.d (.bool true))))])
abbrev JZ:VC:=(.reg false [
 V 78 (.mov (.m 10)),
 V 79 (.bin .gtr (.m 78) (.c (.d (.int .i64 0)))),
 V 77 (.mov (.m 79))])
abbrev J9:VC:=(.reg false [
 V 80 (.mov (.s 9)),
 V 81 (.bin .lss (.m 80) (.c (.d (.int .i64 0)))),
 V 82 (.mov (.m 81)),
 U 82 83 (.mov (.s 9)),
 U 82 84 (.bin .gtr (.s 83) (.c (.d (.int .i64 255)))),
 V 85 (.pick (.m 82) (.c (.d (.bool true))) (.s 84)),
 V 86 (.mov (.m 85)),
 U 86 87 (.mov (.s 3)),
 U 86 88 (.mov (.s 9)),
 U 86 89 (.call sU [.s 87,.s 88]),
 U 86 90 (.un .not (.s 89)),
 V 91 (.pick (.m 86) (.c (.d (.bool true))) (.s 90)),
 N (.kill [3,83,84,87,88,89,90])])
abbrev KK:VC:=(.reg false [
 V 2 (.mov (.c (.d (.bool false))))])
abbrev Jq:VC:=(.reg false [
 V 92 (.mov (.m 9)),
 V 3 (.mov (.m 92))])
abbrev Ky:VC:=(.reg false [
 V 93 (.bin .add (.m 38) (.c (.d (.int .i64 1)))),
 V 38 (.mov (.m 93))])
def de:VC:=(.seq JI
 (.seq (.cond (.m 39)
 .skip
 (.seq (K [6,36,37,38]) (.exit 2)))
 (.seq (.block 3
 (.seq IQ
 (.seq JP
 (.block 4
 (.seq Kb
 (.cond (.m 51)
 (.seq (.seq (K [3,4,5,6,9,10,23,24,25,36,37,38]) (F 1)) (.seq Ke
 .ret))
 (.seq Jx
 (.cond (.m 58)
 (.seq (K [10]) (.seq (.seq K6
 (.cond (.m 75)
 (.seq (.seq (K [3,6,9,23,24,25,36,37,38]) (F 1)) (.seq JL
 .ret))
 .skip))
 K7))
 (.seq JZ
 (.cond (.m 77)
 (.seq (.seq J9
 (.cond (.m 91)
 (.seq (.seq (K [4,5,6,9,23,24,25,36,37,38]) (F 1)) (.seq KK
 .ret))
 .skip))
 Jq)
 (.seq (K [9]) .skip)))))))))))
 Ky)))
abbrev K4:VC:=(.reg false [
 V 94 (.bin .add (.m 25) (.c (.d (.int .i64 1)))),
 V 25 (.mov (.m 94))])
def fU:VC:=(.seq NL
 (.seq (.cond (.m 26)
 .skip
 (.seq (.seq (K [3,4,5,23,24,25]) (F 1)) (.exit 0)))
 (.seq (.block 1
 (.seq OZ
 (.seq (.seq ND
 (.cond (.m 35)
 (.seq (.seq (K [3,4,5,6,7,23,24,25]) (F 1)) (.seq Oo
 .ret))
 .skip))
 (.seq N1
 (.block 2
 (.seq (.loop de) (K [6,36,37,38])))))))
 K4)))
abbrev Jv:VC:=(.reg false [
 V 2 (.mov (.c (.d (.bool true))))])
def wW:af:=⟨1,[.tmp 2],
 (.seq OV
 (.seq (.seq MA
 (.cond (.m 19)
 (.seq (F 1) (.seq OL
 .ret))
 .skip))
 (.seq Mg
 (.seq (.seq Lu
 (.block 0
 (.seq (.loop fU) (.seq (K [3,4,5,23,24,25]) (F 1)))))
 (.seq Jv
 .ret)))))⟩
abbrev GJ:VC:=(.reg false [
 V 2 (.mov (.c (.d (.bool false)))),
 N (.kill [2])])
abbrev HG:VC:=(.reg false [
 V 3 (.ld (some 9) 0 (.m 0)),
 V 4 (.ld none 0 (.m 1)),
 V 5 (.call mi [.m 3,.m 4]),
 V 2 (.mov (.m 5))])
def rW:af:=⟨2,[.tmp 2],
 (.seq GJ
 (.seq HG
 .ret))⟩
abbrev G5:VC:=(.reg false [
 V 2 (.box (.m 0)),
 V 4 (.mov (.c (.d (.bool false)))),
 N (.kill [4])])
abbrev He:VC:=(.reg false [
 V 9 (.fa 1 (.s 2)),
 V 10 (.fa 0 (.m 9)),
 V 11 (.ld none 0 (.m 10)),
 V 12 (.bin .eql (.m 11) (.c (.d (.int .u8 2)))),
 V 5 (.alloc [.d (.bool false)]),
 N (.st 1 (.s 5) (.m 12))])
abbrev HO:VC:=(.reg false [
 V 6 (.mov (.c (.d (.int .i64 3))))])
abbrev Gj:VC:=(.reg false [
 V 13 (.ld none 0 (.s 5))])
abbrev GD:VC:=(.reg false [
 V 6 (.mov (.c (.d (.int .i64 1))))])
abbrev GP:VC:=(.reg false [
 V 14 (.fa 7 (.s 2)),
 V 15 (.ld none 0 (.m 14)),
 V 16 (.len (.m 15)),
 V 17 (.mov (.m 1)),
 V 18 (.bin .neq (.m 16) (.m 17))])
abbrev H7:VC:=(.reg false [
 V 4 (.mov (.c (.d (.bool false))))])
abbrev GY:VC:=(.reg false [
 V 19 (.fa 7 (.s 2)),
 V 20 (.ld none 0 (.m 19)),
 V 21 (.len (.s 20)),
 V 22 (.mov (.c (.d (.int .i64 0))))])
abbrev Gf:VC:=(.reg false [
 V 23 (.bin .lss (.s 22) (.s 21))])
abbrev GO:VC:=(.reg false [
 V 24 (.ia 1 (.s 20) (.s 22)),
 V 25 (.ld none 0 (.m 24)),
 V 8 (.alloc [.nl]),
 N (.st 1 (.s 8) (.m 25))])
abbrev EP:VC:=(.reg false [
 V 26 (.ld none 0 (.s 8)),
 V 27 (.len (.m 26)),
 V 28 (.mov (.s 6)),
 V 29 (.bin .gtr (.m 27) (.m 28)),
 V 30 (.mov (.m 29)),
 U 30 31 (.ld none 0 (.s 8)),
 U 30 32 (.mkfn fm [] [.s 5,.s 8]),
 U 30 33 (.calli bx [.s 31,.s 32]),
 V 34 (.pick (.m 30) (.c (.d (.bool true))) (.s 33)),
 N (.kill [8,31,32,33])])
abbrev Eg:VC:=(.reg false [
 V 4 (.mov (.c (.d (.bool false))))])
abbrev E1:VC:=(.reg false [
 V 35 (.bin .add (.m 22) (.c (.d (.int .i64 1)))),
 V 22 (.mov (.m 35))])
def c6:VC:=(.seq Gf
 (.seq (.cond (.m 23)
 .skip
 (.seq (K [5,6,20,21,22]) (.exit 0)))
 (.seq (.block 1
 (.seq GO
 (.seq EP
 (.cond (.m 34)
 (.seq (K [5,6,20,21,22]) (.seq Eg
 .ret))
 .skip))))
 E1)))
abbrev Dq:VC:=(.reg false [
 V 4 (.mov (.c (.d (.bool true))))])
def r8:af:=⟨2,[.tmp 4],
 (.seq G5
 (.seq He
 (.seq HO
 (.seq (.seq Gj
 (.cond (.m 13)
 (.seq (K [6]) GD)
 .skip))
 (.seq (.seq GP
 (.cond (.m 18)
 (.seq (.seq (K [5,6]) (F 2)) (.seq H7
 .ret))
 .skip))
 (.seq (.seq (.seq GY (F 2))
 (.block 0
 (.seq (.loop c6) (K [5,6,20,21,22]))))
 (.seq Dq
 .ret)))))))⟩
abbrev HD:VC:=(.reg false [
 V 3 (.mov (.c (.d (.bool false)))),
 N (.kill [3])])
abbrev GR:VC:=(.reg false [
 V 4 (.ld none 0 (.m 0)),
 V 5 (.ld (some 9) 0 (.m 1)),
 V 6 (.ld none 0 (.m 2)),
 V 7 (.call kQ [.m 4,.m 5,.m 6]),
 V 3 (.mov (.m 7))])
def rR:af:=⟨3,[.tmp 3],
 (.seq HD
 (.seq GR
 .ret))⟩
abbrev Lz:VC:=(.reg false [
 V 4 (.box (.m 1)),
 V 6 (.mov (.c (.d (.bool false)))),
 N (.kill [6])])
abbrev Ps:VC:=(.reg false [
 V 18 (.fa 8 (.s 4)),
 V 19 (.ld none 0 (.m 18)),
 V 20 (.len (.m 19)),
 V 21 (.bin .neq (.m 20) (.c (.d (.int .i64 256))))])
abbrev Nx:VC:=(.reg false [
 V 6 (.mov (.c (.d (.bool false))))])
abbrev OO:VC:=(.reg false [
 V 22 (.fa 1 (.s 4)),
 V 23 (.fa 0 (.m 22)),
 V 24 (.ld none 0 (.m 23)),
 V 25 (.bin .eql (.m 24) (.c (.d (.int .u8 2)))),
 V 7 (.mov (.m 25))])
abbrev Mc:VC:=(.reg false [
 V 27 (.mov (.m 0)),
 V 28 (.mov (.m 7)),
 V 29 (.call gO [.m 27,.m 28]),
 V 26 (.mov (.m 29)),
 V 30 (.ext 26 true 0),
 V 31 (.ext 26 false 1),
 V 8 (.mov (.m 30)),
 V 9 (.mov (.m 31)),
 N (.kill [9,26])])
abbrev LV:VC:=(.reg false [
 V 32 (.mov (.s 2)),
 V 33 (.bin .quo (.c (.d (.int .i64 256))) (.m 32)),
 V 10 (.mov (.m 33))])
abbrev NE:VC:=(.reg false [
 V 34 (.mov (.m 2)),
 V 35 (.mov (.c (.d (.int .i64 0))))])
abbrev MR:VC:=(.reg false [
 V 36 (.bin .lss (.s 35) (.s 34))])
abbrev Mf:VC:=(.reg false [
 V 37 (.mov (.s 35)),
 V 11 (.mov (.m 37))])
abbrev Ng:VC:=(.reg false [
 V 39 (.fa 1 (.s 4)),
 V 40 (.ld (some 4) 0 (.m 39)),
 V 41 (.mov (.s 11)),
 V 42 (.call ln [.m 40,.m 41]),
 V 38 (.mov (.m 42)),
 V 43 (.ext 38 false 0),
 V 44 (.ext 38 false 1),
 V 12 (.mov (.m 43)),
 V 13 (.mov (.m 44)),
 N (.kill [13,38])])
abbrev Kg:VC:=(.reg false [
 V 14 (.mov (.c (.d (.int .i64 0))))])
abbrev Ko:VC:=(.reg false [
 V 45 (.fa 8 (.s 4)),
 V 46 (.ld none 0 (.m 45)),
 V 47 (.mov (.s 11)),
 V 48 (.mov (.s 10)),
 V 49 (.bin .mul (.m 47) (.m 48)),
 V 50 (.mov (.m 11)),
 V 51 (.bin .add (.m 50) (.c (.d (.int .i64 1)))),
 V 52 (.mov (.s 10)),
 V 53 (.bin .mul (.m 51) (.m 52)),
 V 54 (.slice 1 (.m 46) (some (.m 49)) (some (.m 53)) none),
 V 55 (.len (.s 54)),
 V 56 (.mov (.c (.d (.int .i64 0))))])
abbrev JU:VC:=(.reg false [
 V 57 (.bin .lss (.s 56) (.s 55))])
abbrev J7:VC:=(.reg false [
 V 58 (.mov (.s 56)),
 V 59 (.ia 1 (.s 54) (.s 56)),
 V 60 (.ld none 0 (.m 59)),
 V 15 (.mov (.m 58)),
 V 16 (.mov (.m 60))])
abbrev Je:VC:=(.reg false [
 V 61 (.mov (.s 16)),
 V 62 (.bin .eql (.m 61) (.c (.d (.int .i64 0))))])
abbrev Lc:VC:=(.reg false [
 V 63 (.mov (.s 15)),
 V 64 (.mov (.s 8)),
 V 65 (.mov (.s 14)),
 V 66 (.bin .add (.m 65) (.c (.d (.int .i64 1)))),
 V 67 (.ia 1 (.m 64) (.m 66)),
 V 68 (.ld none 0 (.m 67)),
 V 69 (.bin .geq (.m 63) (.m 68))])
abbrev JV:VC:=(.reg false [
 V 70 (.mov (.m 14)),
 V 71 (.bin .add (.m 70) (.c (.d (.int .i64 1)))),
 V 14 (.mov (.m 71))])
def ph:VC:=(.seq (.seq Lc
 (.cond (.m 69)
 .skip
 (.seq (K [15]) (.exit 4))))
 (.block 5
 JV))
abbrev Ji:VC:=(.reg false [
 V 17 (.mov (.c (.d (.int .i64 0))))])
abbrev JH:VC:=(.reg false [
 V 72 (.mov (.s 14)),
 V 73 (.fa 1 (.s 4)),
 V 74 (.fa 2 (.m 73)),
 V 75 (.ld none 0 (.m 74)),
 V 76 (.bin .lss (.m 72) (.m 75))])
abbrev IS:VC:=(.reg false [
 V 78 (.fa 5 (.s 4)),
 V 79 (.ld none 0 (.m 78)),
 V 80 (.mov (.s 12)),
 V 81 (.mov (.s 14)),
 V 82 (.call sM [.m 79,.m 80,.m 81]),
 V 77 (.mov (.m 82)),
 V 83 (.ext 77 false 0),
 V 84 (.ext 77 false 1),
 V 17 (.mov (.m 83)),
 N (.kill [77,84])])
abbrev I3:VC:=(.reg false [
 V 85 (.mov (.s 17)),
 V 86 (.bin .lss (.m 85) (.c (.d (.int .i64 1)))),
 V 87 (.mov (.m 86)),
 U 87 88 (.mov (.s 17)),
 U 87 89 (.bin .gtr (.s 88) (.c (.d (.int .i64 11)))),
 V 90 (.pick (.m 87) (.c (.d (.bool true))) (.s 89)),
 V 91 (.mov (.m 90)),
 U 91 92 (.mov (.s 17)),
 U 91 93 (.mov (.s 16)),
 U 91 94 (.call yI [.s 92,.s 93]),
 U 91 95 (.un .not (.s 94)),
 V 96 (.pick (.m 91) (.c (.d (.bool true))) (.s 95)),
 N (.kill [16,17,88,89,92,93,94,95])])
abbrev Ki:VC:=(.reg false [
 V 6 (.mov (.c (.d (.bool false))))])
abbrev Jf:VC:=(.reg false [
 V 97 (.bin .add (.m 56) (.c (.d (.int .i64 1)))),
 V 56 (.mov (.m 97))])
def ck:VC:=(.seq JU
 (.seq (.cond (.m 57)
 .skip
 (.seq (K [12,14,54,55,56]) (.exit 2)))
 (.seq (.block 3
 (.seq J7
 (.seq (.seq Je
 (.cond (.m 62)
 (.seq (K [15,16]) (.exit 3))
 .skip))
 (.seq (.block 4
 (.seq (.loop ph) (K [15])))
 (.seq Ji
 (.seq (.seq JH
 (.cond (.m 76)
 (.seq (K [17]) IS)
 .skip))
 (.seq I3
 (.cond (.m 96)
 (.seq (.seq (K [8,10,12,14,34,35,54,55,56]) (F 4)) (.seq Ki
 .ret))
 .skip))))))))
 Jf)))
abbrev Kf:VC:=(.reg false [
 V 98 (.bin .add (.m 35) (.c (.d (.int .i64 1)))),
 V 35 (.mov (.m 98))])
def et:VC:=(.seq MR
 (.seq (.cond (.m 36)
 .skip
 (.seq (.seq (K [8,10,34,35]) (F 4)) (.exit 0)))
 (.seq (.block 1
 (.seq Mf
 (.seq Ng
 (.seq Kg
 (.seq Ko
 (.block 2
 (.seq (.loop ck) (K [12,14,54,55,56]))))))))
 Kf)))
abbrev Km:VC:=(.reg false [
 V 6 (.mov (.c (.d (.bool true))))])
def vE:af:=⟨3,[.tmp 6],
 (.seq Lz
 (.seq (.seq Ps
 (.cond (.m 21)
 (.seq (.seq (K [0,2]) (F 4)) (.seq Nx
 .ret))
 .skip))
 (.seq OO
 (.seq Mc
 (.seq LV
 (.seq (.seq NE
 (.block 0
 (.seq (.loop et) (.seq (K [8,10,34,35]) (F 4)))))
 (.seq Km
 .ret)))))))⟩
abbrev Ur:VC:=(.reg false [
 V 6 (.mov (.c (.nl))),
 V 7 (.mov (.c (.d (.int .i64 0)))),
 N (.kill [6,7])])
abbrev Um:VC:=(.reg false [
 V 8 (.mov (.s 2)),
 V 9 (.call wL [.m 8]),
 V 10 (.un .not (.m 9)),
 V 11 (.mov (.m 10)),
 U 11 12 (.mov (.s 1)),
 U 11 13 (.bin .lss (.s 12) (.c (.d (.int .i64 0)))),
 V 14 (.pick (.m 11) (.c (.d (.bool true))) (.s 13)),
 V 15 (.mov (.m 14)),
 U 15 16 (.mov (.s 1)),
 U 15 17 (.mov (.s 2)),
 U 15 18 (.bin .shr (.s 16) (.s 17)),
 U 15 19 (.bin .neq (.s 18) (.c (.d (.int .i64 0)))),
 V 20 (.pick (.m 15) (.c (.d (.bool true))) (.s 19)),
 N (.kill [12,13,16,17,18,19])])
abbrev Uw:VC:=(.reg false [
 V 6 (.mov (.c (.nl))),
 V 7 (.mov (.c (.d (.int .i64 2))))])
abbrev UI:VC:=(.reg false [
 V 21 (.mov (.m 0)),
 V 22 (.call dD [.m 21]),
 V 23 (.mov (.m 1)),
 V 24 (.mov (.m 2)),
 V 25 (.calli yy [.m 23,.m 24]),
 V 26 (.calli ik [.m 22,.m 25]),
 V 6 (.mov (.m 26)),
 V 7 (.mov (.c (.d (.int .i64 0))))])
def AU:af:=⟨3,[.tmp 6,.tmp 7],
 (.seq Ur
 (.seq (.seq Um
 (.cond (.m 20)
 (.seq (K [0,1,2]) (.seq Uw
 .ret))
 .skip))
 (.seq UI
 .ret)))⟩
abbrev Va:VC:=(.reg false [
 V 3 (.box (.m 0)),
 V 4 (.box (.m 1)),
 V 6 (.mov (.c (.nl))),
 V 7 (.mov (.c (.d (.int .i64 0)))),
 N (.kill [6,7])])
abbrev Vr:VC:=(.reg false [
 V 16 (.ld (some 4) 0 (.s 4)),
 V 17 (.mov (.s 2)),
 V 18 (.call v8 [.m 16,.m 17]),
 V 8 (.mov (.m 18))])
abbrev Ui:VC:=(.reg false [
 V 19 (.mov (.s 8)),
 V 20 (.bin .neq (.m 19) (.c (.d (.int .i64 0))))])
abbrev Up:VC:=(.reg false [
 V 21 (.mov (.m 8)),
 V 6 (.mov (.c (.nl))),
 V 7 (.mov (.m 21))])
abbrev Ua:VC:=(.reg false [
 V 23 (.ld (some 4) 1 (.m 4)),
 V 24 (.call vY [.m 23]),
 V 22 (.mov (.m 24)),
 V 25 (.ext 22 false 0),
 V 26 (.ext 22 false 1),
 V 9 (.alloc [.d (.int .i64 0)]),
 N (.st 1 (.s 9) (.m 25)),
 V 10 (.mov (.m 26)),
 N (.kill [22])])
abbrev UR:VC:=(.reg false [
 V 28 (.ld none 0 (.s 3)),
 V 29 (.call cx [.m 28,.c (.d (.int .i64 0)),.c (.d (.int .i64 0))]),
 V 27 (.mov (.m 29)),
 V 30 (.ext 27 true 0),
 V 31 (.ext 27 false 1),
 N (.st 1 (.s 3) (.m 30)),
 N (.kill [27,31])])
abbrev Vi:VC:=(.reg false [
 V 32 (.mov (.m 2)),
 V 33 (.len (.s 32)),
 V 34 (.mov (.c (.d (.int .i64 0))))])
abbrev Vy:VC:=(.reg false [
 V 35 (.bin .lss (.s 34) (.s 33))])
abbrev Vq:VC:=(.reg false [
 V 36 (.ia 1 (.s 32) (.s 34)),
 V 37 (.ld none 0 (.m 36)),
 V 12 (.mov (.m 37))])
abbrev Un:VC:=(.reg false [
 V 38 (.mov (.m 12)),
 V 39 (.len (.s 38)),
 V 40 (.mov (.c (.d (.int .i64 0))))])
abbrev Qe:VC:=(.reg false [
 V 41 (.bin .lss (.s 40) (.s 39))])
abbrev Sc:VC:=(.reg false [
 V 42 (.ia 2 (.s 38) (.s 40)),
 V 43 (.ld (some 2) 0 (.m 42)),
 V 14 (.alloc [.d (.int .i64 0),.d (.int .i64 0)]),
 N (.st 2 (.s 14) (.m 43))])
abbrev R5:VC:=(.reg false [
 V 45 (.ld none 0 (.s 3)),
 V 46 (.fa 0 (.s 14)),
 V 47 (.ld none 0 (.m 46)),
 V 48 (.call cx [.m 45,.m 47,.c (.d (.int .i64 4))]),
 V 44 (.mov (.m 48)),
 V 49 (.ext 44 true 0),
 V 50 (.ext 44 false 1),
 N (.st 1 (.s 3) (.m 49)),
 N (.kill [44,50])])
abbrev RZ:VC:=(.reg false [
 V 51 (.fa 1 (.s 14)),
 V 52 (.ld none 0 (.m 51)),
 V 53 (.mov (.s 10)),
 V 54 (.calli tP [.m 52,.m 53])])
abbrev R7:VC:=(.reg false [
 V 15 (.mov (.m 55)),
 N (.kill [10,32,33,34,38,39,40,54])])
abbrev S4:VC:=(.reg false [
 V 57 (.ld none 0 (.s 3)),
 V 58 (.mov (.m 15)),
 V 59 (.ld none 0 (.m 9)),
 V 60 (.call cx [.m 57,.m 58,.m 59]),
 V 56 (.mov (.m 60)),
 V 61 (.ext 56 true 0),
 V 62 (.ext 56 false 1),
 N (.st 1 (.m 3) (.m 61)),
 N (.kill [56,62])])
def uj:VC:=R7
def ui:VC:=(.block 5
 S4)
abbrev QH:VC:=(.reg false [
 V 63 (.bin .add (.m 40) (.c (.d (.int .i64 1)))),
 V 40 (.mov (.m 63))])
def jY:VC:=(.seq Qe
 (.seq (.cond (.m 41)
 .skip
 (.seq (K [38,39,40]) (.exit 2)))
 (.seq (.block 3
 (.seq Sc
 (.seq R5
 (.seq (.seq RZ (F 14))
 (.block 4
 (.seq (.rangeF (.s 54) [55] uj ui) (F 54)))))))
 QH)))
abbrev Rb:VC:=(.reg false [
 V 64 (.bin .add (.m 34) (.c (.d (.int .i64 1)))),
 V 34 (.mov (.m 64))])
def mT:VC:=(.seq Vy
 (.seq (.cond (.m 35)
 .skip
 (.seq (K [9,10,32,33,34]) (.exit 0)))
 (.seq (.block 1
 (.seq Vq
 (.seq Un
 (.block 2
 (.seq (.loop jY) (K [38,39,40]))))))
 Rb)))
abbrev P7:VC:=(.reg false [
 V 65 (.ld none 1 (.m 3)),
 V 6 (.mov (.m 65)),
 V 7 (.mov (.c (.d (.int .i64 0))))])
def A7:af:=⟨3,[.tmp 6,.tmp 7],
 (.seq Va
 (.seq (.seq Vr
 (.seq Ui
 (.cond (.m 20)
 (.seq (K [2,3,4]) (.seq Up
 .ret))
 (.seq (K [8]) .skip))))
 (.seq Ua
 (.seq UR
 (.seq (.seq Vi
 (.block 0
 (.seq (.loop mT) (K [9,10,32,33,34]))))
 (.seq P7
 .ret))))))⟩
abbrev QY:VC:=(.reg false [
 V 4 (.box (.m 0)),
 V 7 (.box (.m 3)),
 V 8 (.mov (.c (.nl))),
 V 9 (.mov (.c (.d (.int .i64 0)))),
 N (.kill [8,9])])
abbrev RW:VC:=(.reg false [
 V 17 (.mov (.s 1)),
 V 18 (.mov (.s 2)),
 V 19 (.ld none 0 (.s 7)),
 V 20 (.call tW [.m 17,.m 18,.m 19]),
 V 10 (.mov (.m 20))])
abbrev Qi:VC:=(.reg false [
 V 21 (.mov (.s 10)),
 V 22 (.bin .neq (.m 21) (.c (.d (.int .i64 0))))])
abbrev Qx:VC:=(.reg false [
 V 23 (.mov (.m 10)),
 V 8 (.mov (.c (.nl))),
 V 9 (.mov (.m 23))])
abbrev RA:VC:=(.reg false [
 V 25 (.ld none 0 (.s 4)),
 V 26 (.call cx [.m 25,.c (.d (.int .i64 0)),.c (.d (.int .i64 0))]),
 V 24 (.mov (.m 26)),
 V 27 (.ext 24 true 0),
 V 28 (.ext 24 false 1),
 N (.st 1 (.s 4) (.m 27)),
 N (.kill [24,28])])
abbrev PF:VC:=(.reg false [
 V 29 (.mov (.m 1)),
 V 30 (.build [.d (.int .i64 0),.d (.int .i64 0)] [(0,1,.m 29),(1,1,.c (.d (.int .i64 (-1))))]),
 V 31 (.box (.m 30)),
 V 11 (.alloc [.nilp]),
 N (.st 1 (.s 11) (.m 31))])
abbrev PZ:VC:=(.reg false [
 V 32 (.mov (.m 2)),
 V 33 (.len (.s 32)),
 V 34 (.mov (.c (.d (.int .i64 0))))])
abbrev Sg:VC:=(.reg false [
 V 35 (.bin .lss (.s 34) (.s 33))])
abbrev Sv:VC:=(.reg false [
 V 36 (.mov (.s 34)),
 V 37 (.ia 1 (.s 32) (.s 34)),
 V 38 (.ld none 0 (.m 37)),
 V 12 (.alloc [.d (.int .i64 0)]),
 N (.st 1 (.s 12) (.m 36)),
 V 13 (.mov (.m 38))])
abbrev RP:VC:=(.reg false [
 V 39 (.mov (.m 13)),
 V 40 (.calli mU [.m 39])])
abbrev OX:VC:=(.reg false [
 V 14 (.mov (.m 41)),
 N (.kill [32,33,34,40])])
abbrev OM:VC:=(.reg false [
 V 15 (.mov (.m 42))])
abbrev OF:VC:=(.reg false [
 V 43 (.ld none 0 (.s 7)),
 V 44 (.ld none 0 (.s 12)),
 V 45 (.ia 1 (.m 43) (.m 44)),
 V 46 (.ld none 0 (.m 45)),
 V 47 (.mov (.m 14)),
 V 48 (.ia 1 (.m 46) (.m 47)),
 V 49 (.ld none 0 (.m 48)),
 V 16 (.mov (.m 49)),
 N (.kill [7,12])])
abbrev Mv:VC:=(.reg false [
 V 62 (.mov (.s 15)),
 V 63 (.bin .eql (.m 62) (.c (.d (.int .i64 0)))),
 V 61 (.mov (.m 63))])
abbrev LC:VC:=(.reg false [
 V 65 (.mov (.s 15)),
 V 66 (.bin .eql (.m 65) (.c (.d (.int .i64 13)))),
 V 67 (.mov (.m 66)),
 W 67 68 (.ld none 0 (.s 11)),
 W 67 69 (.nilck (.s 68)),
 W 67 70 (.fa 1 (.s 69)),
 W 67 71 (.ld none 0 (.s 70)),
 W 67 72 (.bin .lss (.s 71) (.c (.d (.int .i64 0)))),
 V 73 (.pick (.m 67) (.s 72) (.c (.d (.bool false)))),
 V 64 (.mov (.m 73)),
 N (.kill [68,69,70,71,72])])
abbrev NM:VC:=(.reg false [
 V 75 (.ld none 0 (.s 4)),
 V 76 (.mov (.s 16)),
 V 77 (.call cx [.m 75,.m 76,.c (.d (.int .i64 9))]),
 V 74 (.mov (.m 77)),
 V 78 (.ext 74 true 0),
 V 79 (.ext 74 false 1),
 N (.st 1 (.s 4) (.m 78)),
 N (.kill [4,74,79])])
abbrev NW:VC:=(.reg false [
 V 81 (.mov (.s 15)),
 V 82 (.bin .eql (.m 81) (.c (.d (.int .i64 13)))),
 V 80 (.mov (.m 82))])
def xg:VC:=(.regP [0,1,2,3,4,5,6,7,8,9,10,11] [0,1,2,3,4,5,6,7,8,9,11,10] [] [
 V 84 (.ld none 0 (.s 4)),
 V 85 (.mov (.s 16)),
 V 86 (.ld none 0 (.s 11)),
 V 87 (.nilck (.m 86)),
 V 88 (.fa 1 (.m 87)),
 V 89 (.ld none 0 (.m 88)),
 V 90 (.bin .sub (.m 85) (.m 89)),
 V 91 (.call j4 [.m 84,.m 90]),
 V 83 (.mov (.m 91)),
 V 92 (.ext 83 true 0),
 V 93 (.ext 83 false 1),
 N (.st 1 (.s 4) (.m 92))])
def xC:VC:=(.regP [0,1,2,3,4,5,6,7,8,9,10,11] [0,1,2,3,4,5,6,7,8,9,11,10] [] [
 V 51 (.ld none 0 (.s 4)),
 V 52 (.mov (.s 16)),
 V 53 (.ld none 0 (.s 11)),
 V 54 (.nilck (.m 53)),
 V 55 (.fa 0 (.m 54)),
 V 56 (.ld none 0 (.m 55)),
 V 57 (.bin .sub (.m 52) (.m 56)),
 V 58 (.call j4 [.m 51,.m 57]),
 V 50 (.mov (.m 58)),
 V 59 (.ext 50 true 0),
 V 60 (.ext 50 false 1),
 N (.st 1 (.s 4) (.m 59))])
abbrev Nn:VC:=(.reg false [
 V 94 (.ld none 0 (.s 11)),
 V 95 (.mov (.m 15)),
 V 96 (.mov (.m 16)),
 V 97 (.calli fH [.m 94,.m 95,.m 96]),
 N (.kill [11,97])])
def gI:VC:=(.seq OX
 OM)
def gG:VC:=(.block 3
 (.seq OF
 (.seq (.block 4
 (.seq Mv
 (.cond (.m 61)
 (.seq (K [4,11,15,16]) (.exit 3))
 (.seq LC
 (.cond (.m 64)
 NM
 (.seq NW
 (.cond (.m 80)
 (.seq xg (K [4,83,93]))
 (.seq xC (K [4,50,60])))))))))
 Nn)))
abbrev MO:VC:=(.reg false [
 V 98 (.bin .add (.m 34) (.c (.d (.int .i64 1)))),
 V 34 (.mov (.m 98))])
def lM:VC:=(.seq Sg
 (.seq (.cond (.m 35)
 .skip
 (.seq (.seq (.seq (K [32,33,34]) (F 7)) (F 11)) (.exit 0)))
 (.seq (.block 1
 (.seq Sv
 (.seq RP
 (.block 2
 (.seq (.rangeF (.s 40) [41,42] gI gG) (.seq (F 12) (F 40)))))))
 MO)))
abbrev N9:VC:=(.reg false [
 V 99 (.ld none 1 (.s 4)),
 V 8 (.mov (.m 99)),
 V 9 (.mov (.c (.d (.int .i64 0))))])
def yL:af:=⟨4,[.tmp 8,.tmp 9],
 (.seq QY
 (.seq (.seq RW
 (.seq Qi
 (.cond (.m 22)
 (.seq (.seq (.seq (K [1,2]) (F 4)) (F 7)) (.seq Qx
 .ret))
 (.seq (K [10]) .skip))))
 (.seq RA
 (.seq PF
 (.seq (.seq PZ
 (.block 0
 (.seq (.loop lM) (.seq (.seq (K [32,33,34]) (F 7)) (F 11)))))
 (.seq (.seq N9 (F 4))
 .ret))))))⟩
abbrev H4:VC:=(.reg false [
 V 2 (.mov (.c (.d (.bool false)))),
 N (.kill [2])])
abbrev GL:VC:=(.reg false [
 V 3 (.mov (.m 0)),
 V 4 (.calli eI [.m 3,.c (.fn jH [] [])]),
 V 2 (.mov (.m 4))])
def rJ:af:=⟨1,[.tmp 2],
 (.seq H4
 (.seq GL
 .ret))⟩
abbrev I9:VC:=(.reg false [
 V 3 (.box (.m 0)),
 V 4 (.box (.m 1)),
 V 6 (.mov (.c (.nl))),
 V 7 (.mov (.c (.d (.int .i64 0)))),
 N (.kill [6,7])])
abbrev Kv:VC:=(.reg false [
 V 19 (.ld (some 4) 0 (.s 4)),
 V 20 (.mov (.s 2)),
 V 21 (.call pw [.m 19,.m 20]),
 V 8 (.mov (.m 21))])
abbrev Ks:VC:=(.reg false [
 V 22 (.mov (.s 8)),
 V 23 (.bin .neq (.m 22) (.c (.d (.int .i64 0))))])
abbrev Kd:VC:=(.reg false [
 V 24 (.mov (.m 8)),
 V 6 (.mov (.c (.nl))),
 V 7 (.mov (.m 24))])
abbrev JX:VC:=(.reg false [
 V 25 (.ld none 0 (.s 3)),
 V 26 (.call dD [.m 25]),
 N (.st 1 (.s 3) (.m 26))])
abbrev Jd:VC:=(.reg false [
 V 27 (.mkfn fP [] [.s 3]),
 V 9 (.mov (.m 27))])
abbrev JO:VC:=(.reg false [
 V 28 (.ld (some 4) 1 (.s 4)),
 V 29 (.call fO [.m 28]),
 V 10 (.alloc [.d (.int .i64 0),.d (.int .i64 0),.d (.int .i64 0),.d (.int .i64 0),.d (.int .i64 0)]),
 N (.st 5 (.s 10) (.m 29))])
abbrev Kx:VC:=(.reg false [
 V 30 (.mov (.m 2)),
 V 31 (.len (.s 30)),
 V 32 (.mov (.c (.d (.int .i64 0))))])
abbrev JA:VC:=(.reg false [
 V 33 (.bin .lss (.s 32) (.s 31))])
abbrev IU:VC:=(.reg false [
 V 34 (.ia 1 (.s 30) (.s 32)),
 V 35 (.ld none 0 (.m 34)),
 V 12 (.mov (.m 35))])
abbrev H3:VC:=(.reg false [
 V 36 (.mov (.s 9)),
 V 37 (.mov (.s 12)),
 V 38 (.len (.m 37)),
 V 39 (.iarr 5 1 (.s 10) (.c (.d (.int .i64 0)))),
 V 40 (.ld none 0 (.m 39)),
 V 41 (.callv (.m 36) [.m 38,.m 40]),
 N (.kill [41])])
abbrev H1:VC:=(.reg false [
 V 42 (.mov (.s 12)),
 V 43 (.len (.m 42)),
 V 44 (.bin .gtr (.m 43) (.c (.d (.int .i64 0))))])
abbrev G0:VC:=(.reg false [
 V 45 (.mov (.s 9)),
 V 46 (.mov (.s 12)),
 V 47 (.ia 5 (.m 46) (.c (.d (.int .i64 0)))),
 V 48 (.fa 3 (.m 47)),
 V 49 (.ld none 0 (.m 48)),
 V 50 (.call iC [.m 49]),
 V 51 (.callv (.m 45) [.m 50,.c (.d (.int .i64 1))]),
 N (.kill [51])])
abbrev HF:VC:=(.reg false [
 V 52 (.mov (.m 12)),
 V 53 (.len (.s 52)),
 V 54 (.mov (.c (.d (.int .i64 0))))])
abbrev HC:VC:=(.reg false [
 V 55 (.bin .lss (.s 54) (.s 53))])
abbrev G9:VC:=(.reg false [
 V 56 (.ia 5 (.s 52) (.s 54)),
 V 57 (.ld (some 5) 0 (.m 56)),
 V 14 (.alloc [.d (.int .i64 0),.d (.int .i64 0),.d (.bool false),.d (.bool false),.nl]),
 N (.st 5 (.s 14) (.m 57))])
abbrev GC:VC:=(.reg false [
 V 58 (.mov (.s 9)),
 V 59 (.fa 0 (.s 14)),
 V 60 (.ld none 0 (.m 59)),
 V 61 (.iarr 5 1 (.s 10) (.c (.d (.int .i64 1)))),
 V 62 (.ld none 0 (.m 61)),
 V 63 (.callv (.m 58) [.m 60,.m 62]),
 N (.kill [63])])
abbrev H6:VC:=(.reg false [
 V 64 (.mov (.s 9)),
 V 65 (.fa 1 (.s 14)),
 V 66 (.ld none 0 (.m 65)),
 V 67 (.iarr 5 1 (.s 10) (.c (.d (.int .i64 2)))),
 V 68 (.ld none 0 (.m 67)),
 V 69 (.callv (.m 64) [.m 66,.m 68]),
 N (.kill [69])])
abbrev Ht:VC:=(.reg false [
 V 70 (.fa 1 (.s 14)),
 V 71 (.ld none 0 (.m 70)),
 V 72 (.bin .eql (.m 71) (.c (.d (.int .i64 0))))])
abbrev HI:VC:=(.reg false [
 V 73 (.fa 3 (.s 14)),
 V 74 (.ld none 0 (.m 73)),
 V 75 (.call lS [.m 74]),
 V 15 (.mov (.m 75))])
abbrev Hx:VC:=(.reg false [
 V 76 (.fa 4 (.s 14)),
 V 77 (.ld none 0 (.m 76)),
 V 78 (.mov (.s 15)),
 V 79 (.bin .sub (.m 78) (.c (.d (.int .i64 1)))),
 V 80 (.call mV [.m 77,.m 79]),
 V 16 (.mov (.m 80))])
abbrev Hc:VC:=(.reg false [
 V 81 (.mov (.s 9)),
 V 82 (.fa 2 (.s 14)),
 V 83 (.ld none 0 (.m 82)),
 V 84 (.call iC [.m 83]),
 V 85 (.callv (.m 81) [.m 84,.c (.d (.int .i64 1))]),
 N (.kill [85])])
abbrev GM:VC:=(.reg false [
 V 86 (.mov (.s 9)),
 V 87 (.mov (.s 16)),
 V 88 (.call iC [.m 87]),
 V 89 (.callv (.m 86) [.m 88,.c (.d (.int .i64 1))]),
 N (.kill [89])])
abbrev Gy:VC:=(.reg false [
 V 90 (.fa 4 (.s 14)),
 V 91 (.ld none 0 (.m 90)),
 V 92 (.len (.s 91)),
 V 93 (.mov (.c (.d (.int .i64 0))))])
abbrev GA:VC:=(.reg false [
 V 94 (.bin .lss (.s 93) (.s 92))])
abbrev GB:VC:=(.reg false [
 V 95 (.ia 1 (.s 91) (.s 93)),
 V 96 (.ld none 0 (.m 95)),
 V 18 (.mov (.m 96))])
abbrev GQ:VC:=(.reg false [
 V 97 (.mov (.s 9)),
 V 98 (.mov (.m 18)),
 V 99 (.mov (.s 15)),
 V 100 (.mov (.s 16)),
 V 101 (.call iC [.m 100]),
 V 102 (.bin .sub (.m 99) (.m 101)),
 V 103 (.callv (.m 97) [.m 98,.m 102]),
 N (.kill [103])])
abbrev H0:VC:=(.reg false [
 V 104 (.bin .add (.m 93) (.c (.d (.int .i64 1)))),
 V 93 (.mov (.m 104))])
def jC:VC:=(.seq GA
 (.seq (.cond (.m 94)
 .skip
 (.seq (K [15,16,91,92,93]) (.exit 4)))
 (.seq (.block 5
 (.seq GB
 GQ))
 H0)))
abbrev HV:VC:=(.reg false [
 V 105 (.bin .add (.m 54) (.c (.d (.int .i64 1)))),
 V 54 (.mov (.m 105))])
def gR:VC:=(.seq HC
 (.seq (.cond (.m 55)
 .skip
 (.seq (K [52,53,54]) (.exit 2)))
 (.seq (.block 3
 (.seq G9
 (.seq GC
 (.seq H6
 (.seq (.seq Ht
 (.cond (.m 72)
 (.seq (F 14) (.exit 3))
 .skip))
 (.seq HI
 (.seq Hx
 (.seq Hc
 (.seq GM
 (.seq (.seq Gy (F 14))
 (.block 4
 (.seq (.loop jC) (K [15,16,91,92,93])))))))))))))
 HV)))
abbrev Hg:VC:=(.reg false [
 V 106 (.bin .add (.m 32) (.c (.d (.int .i64 1)))),
 V 32 (.mov (.m 106))])
def gZ:VC:=(.seq JA
 (.seq (.cond (.m 33)
 .skip
 (.seq (.seq (K [9,30,31,32]) (F 10)) (.exit 0)))
 (.seq (.block 1
 (.seq IU
 (.seq H3
 (.seq (.seq H1
 (.cond (.m 44)
 G0
 .skip))
 (.seq HF
 (.block 2
 (.seq (.loop gR) (K [52,53,54]))))))))
 Hg)))
abbrev GF:VC:=(.reg false [
 V 107 (.ld none 1 (.m 3)),
 V 6 (.mov (.m 107)),
 V 7 (.mov (.c (.d (.int .i64 0))))])
def t4:af:=⟨3,[.tmp 6,.tmp 7],
 (.seq I9
 (.seq (.seq Kv
 (.seq Ks
 (.cond (.m 23)
 (.seq (.seq (K [2,3]) (F 4)) (.seq Kd
 .ret))
 (.seq (K [8]) .skip))))
 (.seq JX
 (.seq Jd
 (.seq (.seq JO (F 4))
 (.seq (.seq Kx
 (.block 0
 (.seq (.loop gZ) (.seq (K [9,30,31,32]) (F 10)))))
 (.seq GF
 .ret)))))))⟩
abbrev Ny:VC:=(.reg false [
 V 4 (.box (.m 1)),
 V 5 (.box (.m 2)),
 V 6 (.mov (.c (.nilf))),
 N (.kill [6])])
abbrev L0:VC:=(.reg false [
 V 10 (.mov (.m 0)),
 V 11 (.fa 0 (.s 4)),
 V 12 (.ld none 0 (.m 11)),
 V 13 (.bin .eql (.m 12) (.c (.d (.int .u8 2)))),
 V 14 (.call gO [.m 10,.m 13]),
 V 9 (.mov (.m 14)),
 V 15 (.ext 9 true 0),
 V 16 (.ext 9 false 1),
 V 7 (.alloc [.nl]),
 N (.st 1 (.s 7) (.m 15)),
 V 8 (.mov (.m 16)),
 N (.kill [8,9])])
abbrev LA:VC:=(.reg false [
 V 17 (.mkfn ff [] [.m 5,.m 4,.m 7]),
 V 6 (.mov (.m 17))])
def vT:af:=⟨3,[.tmp 6],
 (.seq Ny
 (.seq L0
 (.seq LA
 .ret)))⟩
abbrev Uo:VC:=(.reg false [
 V 4 (.box (.m 1)),
 V 6 (.mov (.c (.nl))),
 V 7 (.mov (.c (.d (.int .i64 0)))),
 N (.kill [6,7])])
abbrev UA:VC:=(.reg false [
 V 27 (.fa 0 (.s 4)),
 V 28 (.ld none 0 (.m 27)),
 V 29 (.mov (.s 2)),
 V 30 (.call sJ [.m 28,.m 29]),
 V 26 (.mov (.m 30)),
 V 31 (.ext 26 false 0),
 V 32 (.ext 26 false 1),
 V 8 (.mov (.m 31)),
 V 9 (.mov (.m 32)),
 N (.kill [26])])
abbrev U7:VC:=(.reg false [
 V 33 (.mov (.s 9)),
 V 34 (.bin .neq (.m 33) (.c (.d (.int .i64 0)))),
 V 35 (.mov (.m 34)),
 U 35 36 (.mov (.s 8)),
 U 35 37 (.un .not (.s 36)),
 V 38 (.pick (.m 35) (.c (.d (.bool true))) (.s 37)),
 N (.kill [8,36,37])])
abbrev U9:VC:=(.reg false [
 V 39 (.ld (some 4) 1 (.s 4)),
 V 40 (.call Sk [.m 39]),
 V 10 (.mov (.m 40))])
abbrev Vo:VC:=(.reg false [
 V 41 (.mov (.s 10)),
 V 42 (.bin .neq (.m 41) (.c (.d (.int .i64 0))))])
abbrev UC:VC:=(.reg false [
 V 43 (.mov (.m 10)),
 V 6 (.mov (.c (.nl))),
 V 7 (.mov (.m 43))])
abbrev Vf:VC:=(.reg false [
 V 44 (.mov (.m 9)),
 V 45 (.minmax true [.m 44,.c (.d (.int .i64 2))]),
 V 6 (.mov (.c (.nl))),
 V 7 (.mov (.m 45))])
abbrev Vv:VC:=(.reg false [
 V 46 (.fa 0 (.s 4)),
 V 47 (.ld none 0 (.m 46)),
 V 48 (.call Ct [.m 47])])
abbrev UT:VC:=(.reg false [
 V 50 (.fa 0 (.s 4)),
 V 51 (.ld none 0 (.m 50)),
 V 52 (.mov (.m 2)),
 V 53 (.call kP [.m 51,.m 52]),
 V 49 (.mov (.m 53)),
 V 54 (.ext 49 false 0),
 V 55 (.ext 49 false 1),
 V 11 (.mov (.m 54)),
 V 12 (.mov (.m 55)),
 N (.kill [12,49])])
abbrev Vx:VC:=(.reg false [
 V 57 (.ld (some 4) 1 (.s 4)),
 V 58 (.mov (.m 11)),
 V 59 (.call j7 [.m 57,.m 58]),
 V 56 (.mov (.m 59)),
 V 60 (.ext 56 true 0),
 V 61 (.ext 56 false 1),
 V 13 (.mov (.m 60)),
 V 14 (.mov (.m 61)),
 N (.kill [56])])
abbrev Q4:VC:=(.reg false [
 V 62 (.mov (.s 14)),
 V 63 (.bin .neq (.m 62) (.c (.d (.int .i64 0))))])
abbrev Sf:VC:=(.reg false [
 V 64 (.mov (.m 14)),
 V 6 (.mov (.c (.nl))),
 V 7 (.mov (.m 64))])
abbrev Rs:VC:=(.reg false [
 V 65 (.mov (.m 0)),
 V 66 (.mov (.m 13)),
 V 67 (.mks 1 [.m 65,.m 66]),
 V 68 (.call ed [.m 67]),
 V 6 (.mov (.m 68)),
 V 7 (.mov (.c (.d (.int .i64 0))))])
abbrev SH:VC:=(.reg false [
 V 15 (.mov (.c (.nl)))])
abbrev P9:VC:=(.reg false [
 V 16 (.mov (.c (.nl))),
 V 17 (.mov (.c (.nl)))])
abbrev RX:VC:=(.reg false [
 V 69 (.mov (.m 2)),
 V 70 (.len (.s 69)),
 V 71 (.mov (.c (.d (.int .i64 0))))])
abbrev RG:VC:=(.reg false [
 V 72 (.bin .lss (.s 71) (.s 70))])
abbrev RC:VC:=(.reg false [
 V 73 (.ia 1 (.s 69) (.s 71)),
 V 74 (.ld none 0 (.m 73)),
 V 19 (.mov (.m 74))])
abbrev Qr:VC:=(.reg false [
 V 75 (.mov (.s 19)),
 V 76 (.call xV [.m 75]),
 V 20 (.mov (.m 76))])
abbrev P3:VC:=(.reg false [
 V 77 (.mov (.s 19)),
 V 78 (.bin .neq (.m 77) (.c (.d (.int .i64 0))))])
abbrev QV:VC:=(.reg false [
 V 79 (.mov (.m 16)),
 V 80 (.mov (.m 19)),
 V 81 (.conv .u64 (.m 80)),
 V 82 (.bin .shr (.m 81) (.c (.d (.int .u64 63)))),
 V 83 (.conv .u8 (.m 82)),
 V 84 (.mks 1 [.m 83]),
 V 85 (.app 1 (.m 79) (.m 84)),
 V 16 (.mov (.m 85))])
abbrev Rn:VC:=(.reg false [
 V 86 (.fa 0 (.s 4)),
 V 87 (.ld none 0 (.m 86)),
 V 88 (.bin .eql (.m 87) (.c (.d (.int .i64 11)))),
 V 89 (.mov (.m 88)),
 W 89 90 (.mov (.s 20)),
 W 89 91 (.bin .geq (.s 90) (.c (.d (.int .i64 16)))),
 V 92 (.pick (.m 89) (.s 91) (.c (.d (.bool false)))),
 N (.kill [90,91])])
abbrev Rh:VC:=(.reg false [
 V 93 (.mov (.s 20)),
 V 94 (.conv .u64 (.m 93)),
 V 95 (.call kI [.m 94]),
 V 96 (.bin .sub (.m 95) (.c (.d (.int .i64 5)))),
 V 21 (.mov (.m 96))])
abbrev RJ:VC:=(.reg false [
 V 97 (.mov (.m 17)),
 V 98 (.mks 1 [.c (.d (.int .u8 1))]),
 V 99 (.mov (.s 21)),
 V 100 (.call oB [.m 98,.m 99]),
 V 101 (.app 1 (.m 97) (.m 100)),
 V 17 (.mov (.m 101))])
def zT:VC:=(.regP [0,1,2,3,4,5,6,7,8,9,10,11,12,13,14,15] [0,1,2,3,4,5,6,7,8,9,10,11,12,13,15,14] [] [
 V 103 (.mov (.m 17)),
 V 104 (.mks 1 [.c (.d (.int .u8 0))]),
 V 105 (.app 1 (.m 103) (.m 104)),
 V 106 (.mov (.m 20)),
 V 107 (.mov (.s 21)),
 V 108 (.bin .add (.m 107) (.c (.d (.int .i64 4)))),
 V 109 (.bin .shl (.c (.d (.int .i64 1))) (.m 108)),
 V 110 (.bin .sub (.m 109) (.c (.d (.int .i64 1)))),
 V 111 (.bin .and (.m 106) (.m 110)),
 V 112 (.mov (.s 21)),
 V 113 (.bin .add (.m 112) (.c (.d (.int .i64 4)))),
 V 114 (.call cx [.m 105,.m 111,.m 113]),
 V 102 (.mov (.m 114)),
 V 115 (.ext 102 true 0),
 V 116 (.ext 102 false 1),
 V 17 (.mov (.m 115))])
abbrev Qa:VC:=(.reg false [
 V 20 (.mov (.c (.d (.int .i64 16))))])
abbrev ST:VC:=(.reg false [
 V 117 (.mov (.m 15)),
 V 118 (.mov (.m 20)),
 V 119 (.mks 1 [.m 118]),
 V 120 (.app 1 (.m 117) (.m 119)),
 V 15 (.mov (.m 120))])
abbrev SF:VC:=(.reg false [
 V 121 (.bin .add (.m 71) (.c (.d (.int .i64 1)))),
 V 71 (.mov (.m 121))])
def jW:VC:=(.seq RG
 (.seq (.cond (.m 72)
 .skip
 (.seq (K [69,70,71]) (.exit 0)))
 (.seq (.block 1
 (.seq RC
 (.seq Qr
 (.seq (.seq P3
 (.cond (.m 78)
 QV
 (.seq (K [19]) .skip)))
 (.seq (.seq Rn
 (.cond (.m 92)
 (.seq Rh
 (.seq RJ
 (.seq (.seq zT (K [21,102,116]))
 Qa)))
 .skip))
 ST)))))
 SF)))
abbrev Qz:VC:=(.reg false [
 V 123 (.fa 0 (.s 4)),
 V 124 (.ld none 0 (.m 123)),
 V 125 (.mov (.m 15)),
 V 126 (.call kP [.m 124,.m 125]),
 V 122 (.mov (.m 126)),
 V 127 (.ext 122 false 0),
 V 128 (.ext 122 false 1),
 V 22 (.mov (.m 127)),
 V 23 (.mov (.m 128)),
 N (.kill [23,122])])
abbrev Sj:VC:=(.reg false [
 V 130 (.ld (some 4) 1 (.s 4)),
 V 131 (.mov (.m 22)),
 V 132 (.call j7 [.m 130,.m 131]),
 V 129 (.mov (.m 132)),
 V 133 (.ext 129 true 0),
 V 134 (.ext 129 false 1),
 V 24 (.mov (.m 133)),
 V 25 (.mov (.m 134)),
 N (.kill [129])])
abbrev RE:VC:=(.reg false [
 V 135 (.mov (.s 25)),
 V 136 (.bin .neq (.m 135) (.c (.d (.int .i64 0))))])
abbrev RU:VC:=(.reg false [
 V 137 (.mov (.m 25)),
 V 6 (.mov (.c (.nl))),
 V 7 (.mov (.m 137))])
abbrev R4:VC:=(.reg false [
 V 138 (.mov (.m 0)),
 V 139 (.mov (.m 24)),
 V 140 (.mov (.m 16)),
 V 141 (.mov (.m 17)),
 V 142 (.mks 1 [.m 138,.m 139,.m 140,.m 141]),
 V 143 (.call ed [.m 142]),
 V 6 (.mov (.m 143)),
 V 7 (.mov (.c (.d (.int .i64 0))))])
def uS:af:=⟨3,[.tmp 6,.tmp 7],
 (.seq Uo
 (.seq UA
 (.seq (.seq U7
 (.cond (.m 38)
 (.seq (K [0,2]) (.seq (.seq (.seq U9 (F 4))
 (.seq Vo
 (.cond (.m 42)
 (.seq (K [9]) (.seq UC
 .ret))
 (.seq (K [10]) .skip))))
 (.seq Vf
 .ret)))
 (.seq (K [9]) .skip)))
 (.seq (.seq Vv
 (.cond (.m 48)
 (.seq UT
 (.seq (.seq Vx (F 4))
 (.seq (.seq Q4
 (.cond (.m 63)
 (.seq (K [0,13]) (.seq Sf
 .ret))
 (.seq (K [14]) .skip)))
 (.seq Rs
 .ret))))
 .skip))
 (.seq SH
 (.seq P9
 (.seq (.seq RX
 (.block 0
 (.seq (.loop jW) (K [69,70,71]))))
 (.seq Qz
 (.seq (.seq Sj (F 4))
 (.seq (.seq RE
 (.cond (.m 136)
 (.seq (K [0,16,17,24]) (.seq RU
 .ret))
 (.seq (K [25]) .skip)))
 (.seq R4
 .ret)))))))))))⟩
abbrev E4:VC:=(.reg false [
 V 4 (.alloc [.d (.int .i64 0),.d (.int .i64 0),.nl,.nl])])
abbrev EO:VC:=(.reg false [
 V 5 (.mov (.s 0)),
 V 6 (.mov (.s 1)),
 V 7 (.nilck (.m 5)),
 V 8 (.iarr 12 4 (.m 7) (.m 6)),
 V 9 (.fa 0 (.m 8)),
 V 10 (.ld none 0 (.m 9)),
 V 11 (.bin .eql (.m 10) (.c (.d (.int .i64 0))))])
def tA:VC:=(.regP [0,1,2,3,4,5,6,7,8,9] [0,1,2,3,4,5,7,8,9,6] [] [
 V 13 (.mov (.s 0)),
 V 14 (.mov (.s 1)),
 V 15 (.mov (.s 1)),
 V 16 (.call mh [.m 15]),
 V 12 (.mov (.m 16)),
 V 17 (.ext 12 true 0),
 V 18 (.ext 12 false 1),
 V 19 (.nilck (.m 13)),
 V 20 (.iarr 12 4 (.m 19) (.m 14)),
 N (.st 4 (.m 20) (.m 17))])
abbrev Du:VC:=(.reg false [
 V 21 (.mov (.m 0)),
 V 22 (.mov (.m 1)),
 V 23 (.nilck (.m 21)),
 V 24 (.iarr 12 4 (.m 23) (.m 22)),
 V 25 (.ld (some 4) 0 (.m 24)),
 N (.st 4 (.s 4) (.m 25))])
def p9:af:=⟨2,[.cell 4 (some 4)],
 (.seq E4
 (.seq (.seq EO
 (.cond (.m 11)
 (.seq tA (K [12,18]))
 .skip))
 (.seq Du
 .ret)))⟩
abbrev Pp:VC:=(.reg false [
 V 6 (.ld none 0 (.s 2)),
 V 7 (.mov (.m 0)),
 V 8 (.mov (.m 1)),
 V 9 (.call cx [.m 6,.m 7,.m 8]),
 V 5 (.mov (.m 9)),
 V 10 (.ext 5 true 0),
 V 11 (.ext 5 false 1),
 N (.st 1 (.m 2) (.m 10)),
 N (.kill [5,11])])
def wc:af:=⟨3,[],
 Pp⟩
abbrev Og:VC:=(.reg false [
 V 2 (.box (.m 0)),
 V 4 (.mov (.c (.d (.int .i64 0)))),
 V 5 (.mov (.c (.d (.int .i64 0)))),
 N (.kill [4,5])])
abbrev PA:VC:=(.reg false [
 V 11 (.ld (some 4) 0 (.s 2)),
 V 12 (.call fk [.m 11]),
 V 10 (.mov (.m 12)),
 V 13 (.ext 10 false 0),
 V 14 (.ext 10 false 1),
 V 6 (.mov (.m 13)),
 V 7 (.mov (.m 14)),
 N (.kill [10])])
abbrev Nw:VC:=(.reg false [
 V 15 (.mov (.s 7)),
 V 16 (.bin .neq (.m 15) (.c (.d (.int .i64 0))))])
abbrev Pu:VC:=(.reg false [
 V 17 (.mov (.m 7)),
 V 4 (.mov (.c (.d (.int .i64 0)))),
 V 5 (.mov (.m 17))])
abbrev NT:VC:=(.reg false [
 V 18 (.mov (.s 1)),
 V 19 (.bin .lss (.m 18) (.c (.d (.int .i64 0)))),
 V 20 (.mov (.m 19)),
 U 20 21 (.mov (.s 1)),
 U 20 22 (.mov (.s 6)),
 U 20 23 (.bin .geq (.s 21) (.s 22)),
 V 24 (.pick (.m 20) (.c (.d (.bool true))) (.s 23)),
 N (.kill [6,21,22,23])])
abbrev MS:VC:=(.reg false [
 V 4 (.mov (.c (.d (.int .i64 0)))),
 V 5 (.mov (.c (.d (.int .i64 2))))])
abbrev Pa:VC:=(.reg false [
 V 8 (.mov (.c (.d (.int .i64 0))))])
abbrev No:VC:=(.reg false [
 V 25 (.mov (.m 1)),
 V 9 (.mov (.m 25))])
abbrev Ok:VC:=(.reg false [
 V 26 (.mov (.s 9)),
 V 27 (.fa 3 (.s 2)),
 V 28 (.ld none 0 (.m 27)),
 V 29 (.mov (.s 8)),
 V 30 (.ia 1 (.m 28) (.m 29)),
 V 31 (.ld none 0 (.m 30)),
 V 32 (.bin .geq (.m 26) (.m 31))])
abbrev NU:VC:=(.reg false [
 V 35 (.mov (.m 9)),
 V 36 (.fa 3 (.s 2)),
 V 37 (.ld none 0 (.m 36)),
 V 38 (.mov (.s 8)),
 V 39 (.ia 1 (.m 37) (.m 38)),
 V 40 (.ld none 0 (.m 39)),
 V 41 (.bin .sub (.m 35) (.m 40)),
 V 9 (.mov (.m 41))])
abbrev Kt:VC:=(.reg false [
 V 33 (.mov (.m 8)),
 V 34 (.bin .add (.m 33) (.c (.d (.int .i64 1)))),
 V 8 (.mov (.m 34))])
def pP:VC:=(.seq (.seq Ok
 (.cond (.m 32)
 .skip
 (.seq (K [2,9]) (.exit 0))))
 (.seq (.block 1
 NU)
 Kt))
abbrev Jn:VC:=(.reg false [
 V 42 (.mov (.m 8)),
 V 4 (.mov (.m 42)),
 V 5 (.mov (.c (.d (.int .i64 0))))])
def wV:af:=⟨2,[.tmp 4,.tmp 5],
 (.seq Og
 (.seq PA
 (.seq (.seq Nw
 (.cond (.m 16)
 (.seq (K [1,2,6]) (.seq Pu
 .ret))
 (.seq (K [7]) .skip)))
 (.seq (.seq NT
 (.cond (.m 24)
 (.seq (K [1,2]) (.seq MS
 .ret))
 .skip))
 (.seq Pa
 (.seq (.seq No
 (.block 0
 (.seq (.loop pP) (K [2,9]))))
 (.seq Jn
 .ret)))))))⟩
abbrev QQ:VC:=(.reg false [
 V 1 (.box (.m 0)),
 V 2 (.alloc [.d (.int .u8 0),.d (.int .u8 0),.d (.int .i64 0),.nl])])
abbrev PM:VC:=(.reg false [
 V 3 (.fa 3 (.s 1)),
 V 4 (.ld none 0 (.m 3)),
 V 5 (.call CO [.m 4]),
 V 6 (.fa 3 (.s 1)),
 N (.st 1 (.m 6) (.m 5))])
abbrev Rc:VC:=(.reg false [
 V 7 (.ld (some 4) 1 (.m 1)),
 N (.st 4 (.s 2) (.m 7))])
def YT:af:=⟨1,[.cell 2 (some 4)],
 (.seq QQ
 (.seq PM
 (.seq Rc
 .ret)))⟩
abbrev P4:VC:=(.reg false [
 V 4 (.mov (.c (.d (.int .i64 0)))),
 V 5 (.mov (.c (.d (.int .i64 0)))),
 N (.kill [4,5])])
abbrev RI:VC:=(.reg false [
 V 9 (.mov (.m 0)),
 V 10 (.mov (.m 1)),
 V 11 (.call gO [.m 9,.m 10]),
 V 8 (.mov (.m 11)),
 V 12 (.ext 8 true 0),
 V 13 (.ext 8 false 1),
 V 6 (.mov (.m 12)),
 V 7 (.mov (.m 13)),
 N (.kill [8])])
abbrev S2:VC:=(.reg false [
 V 14 (.mov (.m 6)),
 V 15 (.len (.m 14)),
 V 16 (.bin .sub (.m 15) (.c (.d (.int .i64 1)))),
 V 17 (.minmax true [.m 16,.c (.d (.int .i64 0))]),
 V 18 (.mov (.m 7)),
 V 4 (.mov (.m 17)),
 V 5 (.mov (.m 18))])
def yV:af:=⟨2,[.tmp 4,.tmp 5],
 (.seq P4
 (.seq RI
 (.seq S2
 .ret)))⟩
abbrev G8:VC:=(.reg false [
 V 1 (.box (.m 0)),
 V 2 (.mov (.c (.d (.bool false)))),
 N (.kill [2])])
abbrev Hr:VC:=(.reg false [
 V 6 (.fa 0 (.s 1)),
 V 7 (.ld none 0 (.m 6)),
 V 8 (.bin .neq (.m 7) (.c (.d (.int .u8 2))))])
abbrev Gi:VC:=(.reg false [
 V 9 (.fa 3 (.m 1)),
 V 10 (.ld none 0 (.m 9)),
 V 11 (.mks 1 [.c (.d (.int .i64 1))]),
 V 12 (.call km [.m 10,.m 11]),
 V 2 (.mov (.m 12))])
abbrev GX:VC:=(.reg false [
 V 3 (.mov (.c (.d (.int .i64 0))))])
abbrev Hq:VC:=(.reg false [
 V 13 (.fa 3 (.s 1)),
 V 14 (.ld none 0 (.m 13)),
 V 15 (.len (.s 14)),
 V 16 (.mov (.c (.d (.int .i64 0))))])
abbrev Hb:VC:=(.reg false [
 V 17 (.bin .lss (.s 16) (.s 15))])
abbrev HP:VC:=(.reg false [
 V 18 (.ia 1 (.s 14) (.s 16)),
 V 19 (.ld none 0 (.m 18)),
 V 5 (.mov (.m 19))])
abbrev HH:VC:=(.reg false [
 V 20 (.mov (.s 5)),
 V 21 (.bin .lss (.m 20) (.c (.d (.int .i64 1)))),
 V 22 (.mov (.m 21)),
 U 22 23 (.mov (.s 5)),
 U 22 24 (.bin .gtr (.s 23) (.c (.d (.int .i64 8)))),
 V 25 (.pick (.m 22) (.c (.d (.bool true))) (.s 24)),
 N (.kill [23,24])])
abbrev Gr:VC:=(.reg false [
 V 2 (.mov (.c (.d (.bool false))))])
abbrev G7:VC:=(.reg false [
 V 26 (.mov (.m 3)),
 V 27 (.mov (.m 5)),
 V 28 (.bin .add (.m 26) (.m 27)),
 V 3 (.mov (.m 28))])
abbrev Dx:VC:=(.reg false [
 V 29 (.bin .add (.m 16) (.c (.d (.int .i64 1)))),
 V 16 (.mov (.m 29))])
def i9:VC:=(.seq Hb
 (.seq (.cond (.m 17)
 .skip
 (.seq (K [14,15,16]) (.exit 0)))
 (.seq (.block 1
 (.seq HP
 (.seq (.seq HH
 (.cond (.m 25)
 (.seq (K [1,3,5,14,15,16]) (.seq Gr
 .ret))
 .skip))
 G7)))
 Dx)))
abbrev EV:VC:=(.reg false [
 V 30 (.mov (.m 3)),
 V 31 (.bin .eql (.m 30) (.c (.d (.int .i64 8)))),
 V 32 (.mov (.m 31)),
 W 32 33 (.fa 3 (.s 1)),
 W 32 34 (.ld none 0 (.s 33)),
 W 32 35 (.len (.s 34)),
 W 32 36 (.bin .leq (.s 35) (.c (.d (.int .i64 8)))),
 V 37 (.pick (.m 32) (.s 36) (.c (.d (.bool false)))),
 V 2 (.mov (.m 37)),
 N (.kill [1,33,34,35,36])])
def sE:af:=⟨1,[.tmp 2],
 (.seq G8
 (.seq (.seq Hr
 (.cond (.m 8)
 (.seq Gi
 .ret)
 .skip))
 (.seq GX
 (.seq (.seq Hq
 (.block 0
 (.seq (.loop i9) (K [14,15,16]))))
 (.seq EV
 .ret)))))⟩
abbrev SY:VC:=(.reg false [
 V 1 (.box (.m 0)),
 V 2 (.mov (.c (.d (.bool false)))),
 N (.kill [2])])
abbrev QD:VC:=(.reg false [
 V 3 (.ld (some 4) 1 (.m 1)),
 V 4 (.call je [.c (.d (.int .i64 11)),.m 3]),
 V 5 (.bin .eql (.m 4) (.c (.d (.int .i64 0)))),
 V 2 (.mov (.m 5))])
def yY:af:=⟨1,[.tmp 2],
 (.seq SY
 (.seq QD
 .ret))⟩
abbrev S5:VC:=(.reg false [
 V 6 (.mov (.c (.d (.int .i64 0)))),
 V 7 (.mov (.c (.d (.int .i64 0)))),
 N (.kill [6,7])])
abbrev Sn:VC:=(.reg false [
 V 10 (.mov (.s 1)),
 V 11 (.bin .lss (.m 10) (.c (.d (.int .i64 0)))),
 V 12 (.mov (.m 11)),
 U 12 13 (.mov (.s 1)),
 U 12 14 (.mov (.s 0)),
 U 12 15 (.len (.s 14)),
 U 12 16 (.bin .geq (.s 13) (.s 15)),
 V 17 (.pick (.m 12) (.c (.d (.bool true))) (.s 16)),
 V 18 (.mov (.m 17)),
 U 18 19 (.mov (.s 2)),
 U 18 20 (.bin .lss (.s 19) (.c (.d (.int .i64 0)))),
 V 21 (.pick (.m 18) (.c (.d (.bool true))) (.s 20)),
 N (.kill [13,14,15,16,19,20])])
abbrev PE:VC:=(.reg false [
 V 6 (.mov (.c (.d (.int .i64 0)))),
 V 7 (.mov (.c (.d (.int .i64 2))))])
abbrev Ry:VC:=(.reg false [
 V 22 (.mov (.m 0)),
 V 23 (.mov (.m 1)),
 V 24 (.ia 1 (.m 22) (.m 23)),
 V 25 (.ld none 0 (.m 24)),
 V 26 (.len (.s 25)),
 V 27 (.mov (.c (.d (.int .i64 0))))])
abbrev QL:VC:=(.reg false [
 V 28 (.bin .lss (.s 27) (.s 26))])
abbrev S9:VC:=(.reg false [
 V 29 (.ia 2 (.s 25) (.s 27)),
 V 30 (.ld (some 2) 0 (.m 29)),
 V 9 (.alloc [.d (.int .i64 0),.d (.int .i64 0)]),
 N (.st 2 (.s 9) (.m 30))])
abbrev RT:VC:=(.reg false [
 V 31 (.fa 1 (.s 9)),
 V 32 (.ld none 0 (.m 31)),
 V 33 (.bin .lss (.m 32) (.c (.d (.int .i64 1))))])
abbrev PC:VC:=(.reg false [
 V 34 (.mov (.s 2)),
 V 35 (.fa 1 (.s 9)),
 V 36 (.ld none 0 (.m 35)),
 V 37 (.bin .lss (.m 34) (.m 36))])
abbrev SO:VC:=(.reg false [
 V 38 (.fa 0 (.s 9)),
 V 39 (.ld none 0 (.m 38)),
 V 6 (.mov (.m 39)),
 V 7 (.mov (.c (.d (.int .i64 0))))])
abbrev SD:VC:=(.reg false [
 V 40 (.mov (.m 2)),
 V 41 (.fa 1 (.s 9)),
 V 42 (.ld none 0 (.m 41)),
 V 43 (.bin .sub (.m 40) (.m 42)),
 V 2 (.mov (.m 43))])
abbrev MC:VC:=(.reg false [
 V 44 (.bin .add (.m 27) (.c (.d (.int .i64 1)))),
 V 27 (.mov (.m 44))])
def lX:VC:=(.seq QL
 (.seq (.cond (.m 28)
 .skip
 (.seq (K [2,25,26,27]) (.exit 0)))
 (.seq (.block 1
 (.seq S9
 (.seq (.seq RT
 (.cond (.m 33)
 (.seq (F 9) (.exit 1))
 .skip))
 (.seq (.seq PC
 (.cond (.m 37)
 (.seq (K [2,25,26,27]) (.seq (.seq SO (F 9))
 .ret))
 .skip))
 (.seq SD (F 9))))))
 MC)))
abbrev NV:VC:=(.reg false [
 V 6 (.mov (.c (.d (.int .i64 0)))),
 V 7 (.mov (.c (.d (.int .i64 2))))])
def yH:af:=⟨3,[.tmp 6,.tmp 7],
 (.seq S5
 (.seq (.seq Sn
 (.cond (.m 21)
 (.seq (K [0,1,2]) (.seq PE
 .ret))
 .skip))
 (.seq (.seq Ry
 (.block 0
 (.seq (.loop lX) (K [2,25,26,27]))))
 (.seq NV
 .ret))))⟩
abbrev RH:VC:=(.reg false [
 V 4 (.mov (.c (.d (.bool false)))),
 N (.kill [4])])
abbrev PI:VC:=(.reg false [
 V 5 (.mov (.s 1)),
 V 6 (.mov (.s 0)),
 V 7 (.bin .sub (.m 6) (.c (.d (.int .i64 60)))),
 V 8 (.bin .geq (.m 5) (.m 7)),
 V 9 (.mov (.m 8)),
 W 9 10 (.mov (.s 1)),
 W 9 11 (.mov (.s 0)),
 W 9 12 (.bin .add (.s 11) (.c (.d (.int .i64 60)))),
 W 9 13 (.bin .leq (.s 10) (.s 12)),
 V 14 (.pick (.m 9) (.s 13) (.c (.d (.bool false)))),
 V 4 (.mov (.m 14)),
 N (.kill [0,1,10,11,12,13])])
def xT:af:=⟨2,[.tmp 4],
 (.seq RH
 (.seq PI
 .ret))⟩
abbrev nz:VC:=(.reg false [
 V 4 (.mov (.c (.d (.bool false)))),
 N (.kill [4])])
abbrev nW:VC:=(.reg false [
 V 5 (.mov (.m 0)),
 V 6 (.mov (.m 1)),
 V 7 (.calli f9 [.m 5,.m 6]),
 V 8 (.bin .geq (.m 7) (.c (.d (.int .i64 0)))),
 V 4 (.mov (.m 8))])
def eW:af:=⟨2,[.tmp 4],
 (.seq nz
 (.seq nW
 .ret))⟩
abbrev CL:VC:=(.reg false [
 V 3 (.box (.m 0)),
 V 4 (.mov (.c (.d (.bool false)))),
 N (.kill [4])])
abbrev CK:VC:=(.reg true [
 V 5 (.ld (some 5) 0 (.s 3)),
 V 6 (.ld none 0 (.m 1)),
 V 7 (.call tI [.m 5,.m 6]),
 V 8 (.un .not (.m 7)),
 V 9 (.mov (.m 8)),
 U 9 10 (.fa 3 (.s 3)),
 U 9 11 (.ld none 0 (.s 10)),
 U 9 12 (.ld none 0 (.s 2)),
 U 9 13 (.ia 5 (.s 12) (.c (.d (.int .i64 0)))),
 U 9 14 (.fa 3 (.s 13)),
 U 9 15 (.ld none 0 (.s 14)),
 U 9 16 (.binb true (.s 11) (.s 15)),
 V 17 (.pick (.s 9) (.c (.d (.bool true))) (.s 16)),
 V 4 (.mov (.m 17))])
def np:af:=⟨3,[.tmp 4],
 (.seq CL
 (.seq (.seq CK (.seq (K [2,9,10,11,12,13,14,15,16]) (F 3)))
 .ret))⟩
abbrev IV:VC:=(.reg false [
 V 2 (.box (.m 0)),
 V 4 (.mov (.c (.d (.bool false)))),
 N (.kill [4])])
abbrev KS:VC:=(.reg false [
 V 5 (.mov (.c (.d (.int .i64 63)))),
 V 6 (.mov (.c (.d (.int .i64 12))))])
abbrev JQ:VC:=(.reg false [
 V 9 (.mov (.m 1))])
abbrev IR:VC:=(.reg false [
 V 5 (.mov (.c (.d (.int .i64 15)))),
 V 6 (.mov (.c (.d (.int .i64 7))))])
abbrev Lg:VC:=(.reg false [
 V 10 (.fa 0 (.s 2)),
 V 11 (.ld none 0 (.m 10)),
 V 12 (.bin .lss (.m 11) (.c (.d (.int .i64 0)))),
 V 13 (.mov (.m 12)),
 U 13 14 (.fa 0 (.s 2)),
 U 13 15 (.ld none 0 (.s 14)),
 U 13 16 (.mov (.s 5)),
 U 13 17 (.bin .gtr (.s 15) (.s 16)),
 V 18 (.pick (.m 13) (.c (.d (.bool true))) (.s 17)),
 V 19 (.mov (.m 18)),
 U 19 20 (.fa 1 (.s 2)),
 U 19 21 (.ld none 0 (.s 20)),
 U 19 22 (.bin .lss (.s 21) (.c (.d (.int .i64 0)))),
 V 23 (.pick (.m 19) (.c (.d (.bool true))) (.s 22)),
 V 24 (.mov (.m 23)),
 U 24 25 (.fa 1 (.s 2)),
 U 24 26 (.ld none 0 (.s 25)),
 U 24 27 (.mov (.s 6)),
 U 24 28 (.bin .gtr (.s 26) (.s 27)),
 V 29 (.pick (.m 24) (.c (.d (.bool true))) (.s 28)),
 V 30 (.mov (.m 29)),
 U 30 31 (.fa 4 (.s 2)),
 U 30 32 (.ld none 0 (.s 31)),
 U 30 33 (.len (.s 32)),
 U 30 34 (.fa 1 (.s 2)),
 U 30 35 (.ld none 0 (.s 34)),
 U 30 36 (.bin .neq (.s 33) (.s 35)),
 V 37 (.pick (.m 30) (.c (.d (.bool true))) (.s 36)),
 V 38 (.mov (.m 37)),
 U 38 39 (.fa 1 (.s 2)),
 U 38 40 (.ld none 0 (.s 39)),
 U 38 41 (.bin .eql (.s 40) (.c (.d (.int .i64 0)))),
 U 38 42 (.mov (.s 41)),
 W 42 43 (.fa 2 (.s 2)),
 W 42 44 (.ld none 0 (.s 43)),
 U 38 45 (.pick (.s 42) (.s 44) (.c (.d (.bool false)))),
 V 46 (.pick (.m 38) (.c (.d (.bool true))) (.s 45)),
 N (.kill [5,6,14,15,16,17,20,21,22,25,26,27,28,31,32,33,34,35,36,39,40,41,42,43,44,45])])
abbrev JC:VC:=(.reg false [
 V 4 (.mov (.c (.d (.bool false))))])
abbrev JW:VC:=(.reg false [
 V 7 (.alloc [.d (.int .i64 0)]),
 V 8 (.alloc [.d (.int .i64 0)]),
 N (.st 1 (.s 7) (.c (.d (.int .i64 (-4))))),
 N (.st 1 (.s 8) (.c (.d (.int .i64 3))))])
abbrev K9:VC:=(.reg false [
 V 47 (.fa 3 (.s 2)),
 V 48 (.ld none 0 (.m 47))])
abbrev KN:VC:=(.reg false [
 N (.st 1 (.s 7) (.c (.d (.int .i64 (-8))))),
 N (.st 1 (.s 8) (.c (.d (.int .i64 7))))])
abbrev Ln:VC:=(.reg false [
 V 49 (.fa 4 (.s 2)),
 V 50 (.ld none 0 (.m 49)),
 V 51 (.mkfn iU [] [.m 7,.m 8]),
 V 52 (.calli b6 [.m 50,.m 51]),
 V 53 (.un .not (.m 52)),
 V 4 (.mov (.m 53))])
def tM:af:=⟨2,[.tmp 4],
 (.seq IV
 (.seq KS
 (.seq (.seq JQ
 (.cond (.m 9)
 (.seq (K [5,6]) IR)
 .skip))
 (.seq (.seq Lg
 (.cond (.m 46)
 (.seq (F 2) (.seq JC
 .ret))
 .skip))
 (.seq JW
 (.seq (.seq K9
 (.cond (.m 48)
 KN
 .skip))
 (.seq (.seq Ln (F 2))
 .ret)))))))⟩
abbrev Gt:VC:=(.reg false [
 V 4 (.mov (.c (.nl))),
 V 5 (.mov (.c (.d (.int .i64 0)))),
 N (.kill [4,5])])
abbrev GW:VC:=(.reg false [
 V 11 (.mov (.s 0)),
 V 12 (.bin .lss (.m 11) (.c (.d (.int .i64 0)))),
 V 13 (.mov (.m 12)),
 U 13 14 (.mov (.s 0)),
 U 13 15 (.bin .gtr (.s 14) (.c (.d (.int .i64 11)))),
 V 16 (.pick (.m 13) (.c (.d (.bool true))) (.s 15)),
 N (.kill [14,15])])
abbrev Gq:VC:=(.reg false [
 V 4 (.mov (.c (.nl))),
 V 5 (.mov (.c (.d (.int .i64 2))))])
abbrev Ho:VC:=(.reg false [
 V 17 (.mov (.m 0)),
 V 18 (.bin .sub (.c (.d (.int .i64 11))) (.m 17)),
 V 19 (.bin .quo (.m 18) (.c (.d (.int .i64 2)))),
 V 20 (.bin .add (.c (.d (.int .i64 3))) (.m 19)),
 V 6 (.mov (.m 20)),
 V 7 (.mov (.c (.d (.int .i64 256)))),
 V 8 (.mov (.c (.d (.int .i64 256))))])
abbrev GT:VC:=(.reg false [
 V 21 (.mov (.m 1))])
abbrev Gp:VC:=(.reg false [
 V 7 (.mov (.c (.d (.int .i64 32)))),
 V 8 (.mov (.c (.d (.int .i64 64))))])
abbrev HQ:VC:=(.reg false [
 V 9 (.mov (.c (.nl)))])
abbrev HU:VC:=(.reg false [
 V 10 (.mov (.c (.d (.int .i64 0))))])
abbrev G6:VC:=(.reg false [
 V 22 (.mov (.m 9)),
 V 23 (.mov (.s 10)),
 V 24 (.mks 1 [.m 23]),
 V 25 (.app 1 (.m 22) (.m 24)),
 V 9 (.mov (.m 25))])
abbrev HR:VC:=(.reg false [
 V 26 (.mov (.s 10)),
 V 27 (.mov (.s 7)),
 V 28 (.bin .lss (.m 26) (.m 27))])
abbrev DT:VC:=(.reg false [
 V 29 (.mov (.s 7)),
 V 30 (.mov (.s 10)),
 V 31 (.bin .add (.m 30) (.c (.d (.int .i64 4)))),
 V 32 (.mov (.m 10)),
 V 33 (.mov (.s 6)),
 V 34 (.bin .mul (.m 32) (.m 33)),
 V 35 (.mov (.s 8)),
 V 36 (.bin .quo (.m 34) (.m 35)),
 V 37 (.bin .mul (.c (.d (.int .i64 4))) (.m 36)),
 V 38 (.bin .add (.m 31) (.m 37)),
 V 39 (.minmax false [.m 29,.m 38]),
 V 10 (.mov (.m 39))])
abbrev Ej:VC:=(.reg false [
 V 40 (.mov (.m 9)),
 V 4 (.mov (.m 40)),
 V 5 (.mov (.c (.d (.int .i64 0))))])
def rl:af:=⟨2,[.tmp 4,.tmp 5],
 (.seq Gt
 (.scope
 (.seq (.seq GW
 (.cond (.m 16)
 (.seq (K [0,1]) (.seq Gq
 .ret))
 .skip))
 (.seq Ho
 (.seq (.seq GT
 (.cond (.m 21)
 (.seq (K [7,8]) Gp)
 .skip))
 (.seq HQ
 (.seq HU
 (.seq (.label 0)
 (.seq G6
 (.seq (.seq HR
 (.cond (.m 28)
 (.seq DT
 (.goto 0))
 (.seq (K [6,7,8,10]) .skip)))
 (.seq Ej
 .ret)))))))))))⟩
abbrev SU:VC:=(.reg false [
 V 4 (.mov (.c (.d (.bool false)))),
 N (.kill [4])])
abbrev Ri:VC:=(.reg false [
 V 8 (.mov (.m 1)),
 V 9 (.mks 1 [.m 8,.c (.d (.int .i64 0)),.c (.d (.int .i64 0)),.c (.d (.int .i64 0))]),
 V 5 (.mov (.m 9))])
abbrev Rl:VC:=(.reg false [
 V 10 (.mov (.s 0)),
 V 11 (.bin .gtr (.m 10) (.c (.d (.int .i64 4))))])
abbrev Si:VC:=(.reg false [
 V 12 (.mov (.m 5)),
 V 13 (.slice 1 (.m 12) none (some (.c (.d (.int .i64 2)))) none),
 V 5 (.mov (.m 13))])
abbrev Qw:VC:=(.reg false [
 V 15 (.mov (.m 0)),
 V 16 (.mov (.m 5)),
 V 17 (.call sJ [.m 15,.m 16]),
 V 14 (.mov (.m 17)),
 V 18 (.ext 14 false 0),
 V 19 (.ext 14 false 1),
 V 6 (.mov (.m 18)),
 V 7 (.mov (.m 19)),
 N (.kill [14])])
abbrev QG:VC:=(.reg false [
 V 20 (.mov (.m 7)),
 V 21 (.bin .eql (.m 20) (.c (.d (.int .i64 0)))),
 V 22 (.mov (.m 21)),
 W 22 23 (.mov (.s 6)),
 V 24 (.pick (.m 22) (.s 23) (.c (.d (.bool false)))),
 V 4 (.mov (.m 24)),
 N (.kill [6,23])])
def yl:af:=⟨2,[.tmp 4],
 (.seq SU
 (.seq Ri
 (.seq (.seq Rl
 (.cond (.m 11)
 Si
 .skip))
 (.seq Qw
 (.seq QG
 .ret)))))⟩
abbrev LR:VC:=(.reg false [
 V 2 (.mov (.c (.d (.bool false)))),
 N (.kill [2])])
abbrev OS:VC:=(.reg false [
 V 3 (.mov (.s 0)),
 V 4 (.bin .geq (.m 3) (.c (.d (.int .i64 0)))),
 V 5 (.mov (.m 4)),
 W 5 6 (.mov (.s 0)),
 W 5 7 (.bin .leq (.s 6) (.c (.d (.int .i64 31)))),
 V 8 (.pick (.m 5) (.s 7) (.c (.d (.bool false)))),
 V 2 (.mov (.m 8)),
 N (.kill [0,6,7])])
def vu:af:=⟨1,[.tmp 2],
 (.seq LR
 (.seq OS
 .ret))⟩
abbrev sV:VC:=(.reg false [
 V 2 (.box (.m 0)),
 V 4 (.mov (.c (.nl))),
 N (.kill [4])])
abbrev s8:VC:=(.reg false [
 V 6 (.mov (.m 1))])
abbrev sY:VC:=(.reg false [
 V 5 (.mov (.m 7))])
abbrev td:VC:=(.reg false [
 V 8 (.ld none 1 (.s 2)),
 V 9 (.mov (.m 5)),
 V 10 (.mks 1 [.m 9]),
 V 11 (.app 1 (.m 8) (.m 10)),
 N (.st 1 (.m 2) (.m 11))])
def fy:VC:=sY
def fD:VC:=(.block 1
 td)
abbrev tq:VC:=(.reg false [
 V 12 (.ld none 1 (.m 2)),
 V 4 (.mov (.m 12))])
def ic:af:=⟨2,[.tmp 4],
 (.seq sV
 (.seq (.seq s8
 (.block 0
 (.seq (.rangeF (.m 6) [7] fy fD) (K [6]))))
 (.seq tq
 .ret)))⟩
def jS:af:=⟨1,[.tmp 2],
 (.clone 1)⟩
abbrev Ro:VC:=(.reg false [
 V 2 (.box (.m 0)),
 V 3 (.box (.m 1)),
 V 4 (.mov (.c (.nilf))),
 N (.kill [4])])
abbrev Qj:VC:=(.reg false [
 V 5 (.mkfn j1 [] [.m 3,.m 2]),
 V 4 (.mov (.m 5))])
def yF:af:=⟨2,[.tmp 4],
 (.seq Ro
 (.seq Qj
 .ret))⟩
abbrev Nd:VC:=(.reg false [
 V 2 (.box (.m 0)),
 V 4 (.mov (.c (.d (.int .i64 0)))),
 N (.kill [4])])
abbrev Lw:VC:=(.reg false [
 V 13 (.ld (some 4) 0 (.s 2)),
 V 14 (.call fk [.m 13]),
 V 12 (.mov (.m 14)),
 V 15 (.ext 12 false 0),
 V 16 (.ext 12 false 1),
 V 5 (.mov (.m 15)),
 V 6 (.mov (.m 16)),
 N (.kill [5,12])])
abbrev NP:VC:=(.reg false [
 V 17 (.mov (.s 6)),
 V 18 (.bin .neq (.m 17) (.c (.d (.int .i64 0))))])
abbrev LW:VC:=(.reg false [
 V 19 (.mov (.m 6)),
 V 4 (.mov (.m 19))])
abbrev Ph:VC:=(.reg false [
 V 20 (.mov (.s 1)),
 V 21 (.len (.m 20)),
 V 22 (.fa 3 (.s 2)),
 V 23 (.ld none 0 (.m 22)),
 V 24 (.len (.m 23)),
 V 25 (.bin .neq (.m 21) (.m 24))])
abbrev NQ:VC:=(.reg false [
 V 4 (.mov (.c (.d (.int .i64 8))))])
abbrev Oj:VC:=(.reg false [
 V 26 (.mov (.m 1)),
 V 27 (.len (.s 26)),
 V 28 (.mov (.c (.d (.int .i64 0))))])
abbrev My:VC:=(.reg false [
 V 29 (.bin .lss (.s 28) (.s 27))])
abbrev NR:VC:=(.reg false [
 V 30 (.ia 1 (.s 26) (.s 28)),
 V 31 (.ld none 0 (.m 30)),
 V 8 (.mov (.m 31))])
abbrev NN:VC:=(.reg false [
 V 32 (.fa 2 (.s 2)),
 V 33 (.ld none 0 (.m 32)),
 V 9 (.mov (.m 33))])
abbrev IN:VC:=(.reg false [
 V 34 (.mov (.m 8)),
 V 35 (.len (.s 34)),
 V 36 (.mov (.c (.d (.int .i64 0))))])
abbrev K5:VC:=(.reg false [
 V 37 (.bin .lss (.s 36) (.s 35))])
abbrev JM:VC:=(.reg false [
 V 38 (.ia 2 (.s 34) (.s 36)),
 V 39 (.ld (some 2) 0 (.m 38)),
 V 11 (.alloc [.d (.int .i64 0),.d (.int .i64 0)]),
 N (.st 2 (.s 11) (.m 39))])
abbrev I4:VC:=(.reg false [
 V 40 (.ld (some 2) 0 (.s 11)),
 V 41 (.mov (.s 9)),
 V 42 (.call vq [.m 40,.m 41]),
 V 43 (.un .not (.m 42))])
abbrev KX:VC:=(.reg false [
 V 4 (.mov (.c (.d (.int .i64 8))))])
abbrev KU:VC:=(.reg false [
 V 44 (.mov (.m 9)),
 V 45 (.fa 1 (.s 11)),
 V 46 (.ld none 0 (.m 45)),
 V 47 (.bin .sub (.m 44) (.m 46)),
 V 9 (.mov (.m 47))])
abbrev Li:VC:=(.reg false [
 V 48 (.bin .add (.m 36) (.c (.d (.int .i64 1)))),
 V 36 (.mov (.m 48))])
def iH:VC:=(.seq K5
 (.seq (.cond (.m 37)
 .skip
 (.seq (K [34,35,36]) (.exit 2)))
 (.seq (.block 3
 (.seq JM
 (.seq (.seq I4
 (.cond (.m 43)
 (.seq (.seq (K [2,9,26,27,28,34,35,36]) (F 11)) (.seq KX
 .ret))
 .skip))
 (.seq KU (F 11)))))
 Li)))
abbrev Jp:VC:=(.reg false [
 V 49 (.mov (.m 9)),
 V 50 (.bin .neq (.m 49) (.c (.d (.int .i64 0))))])
abbrev IY:VC:=(.reg false [
 V 4 (.mov (.c (.d (.int .i64 8))))])
abbrev KG:VC:=(.reg false [
 V 51 (.bin .add (.m 28) (.c (.d (.int .i64 1)))),
 V 28 (.mov (.m 51))])
def fQ:VC:=(.seq My
 (.seq (.cond (.m 29)
 .skip
 (.seq (K [2,26,27,28]) (.exit 0)))
 (.seq (.block 1
 (.seq NR
 (.seq NN
 (.seq (.seq IN
 (.block 2
 (.seq (.loop iH) (K [34,35,36]))))
 (.seq Jp
 (.cond (.m 50)
 (.seq (K [2,26,27,28]) (.seq IY
 .ret))
 .skip))))))
 KG)))
abbrev Jt:VC:=(.reg false [
 V 4 (.mov (.c (.d (.int .i64 0))))])
def vp:af:=⟨2,[.tmp 4],
 (.seq Nd
 (.seq (.seq Lw
 (.seq NP
 (.cond (.m 18)
 (.seq (K [1,2]) (.seq LW
 .ret))
 (.seq (K [6]) .skip))))
 (.seq (.seq Ph
 (.cond (.m 25)
 (.seq (K [1,2]) (.seq NQ
 .ret))
 .skip))
 (.seq (.seq Oj
 (.block 0
 (.seq (.loop fQ) (K [2,26,27,28]))))
 (.seq Jt
 .ret)))))⟩
abbrev Nv:VC:=(.reg false [
 V 1 (.box (.m 0)),
 V 2 (.mov (.c (.d (.int .i64 0)))),
 V 3 (.mov (.c (.d (.int .i64 0)))),
 N (.kill [2,3])])
abbrev N7:VC:=(.reg false [
 V 2 (.mov (.c (.d (.int .i64 5))))])
abbrev OK:VC:=(.reg false [
 V 4 (.fa 0 (.m 1)),
 V 5 (.ld none 0 (.m 4)),
 V 6 (.bin .eql (.m 5) (.c (.d (.int .u8 2))))])
abbrev Pk:VC:=(.reg false [
 V 2 (.mov (.c (.d (.int .i64 3))))])
abbrev Pg:VC:=(.reg true [
 V 7 (.mov (.s 2)),
 V 8 (.mov (.s 2)),
 V 9 (.bin .shl (.c (.d (.int .i64 1))) (.m 8)),
 V 10 (.bin .sub (.m 9) (.c (.d (.int .i64 1)))),
 V 2 (.mov (.m 7)),
 V 3 (.mov (.m 10))])
def v6:af:=⟨1,[.tmp 2,.tmp 3],
 (.seq Nv
 (.seq N7
 (.seq (.seq OK
 (.cond (.m 6)
 (.seq (K [2]) Pk)
 .skip))
 (.seq Pg
 .ret))))⟩
abbrev JE:VC:=(.reg false [
 V 2 (.box (.m 0)),
 V 3 (.box (.m 1)),
 V 4 (.mov (.c (.nilf))),
 N (.kill [4])])
abbrev KH:VC:=(.reg false [
 V 5 (.mkfn eC [] [.m 2,.m 3]),
 V 4 (.mov (.m 5))])
def uh:af:=⟨2,[.tmp 4],
 (.seq JE
 (.seq KH
 .ret))⟩
abbrev Jh:VC:=(.reg false [
 V 5 (.box (.m 2)),
 V 6 (.alloc [.d (.int .i64 0)])])
abbrev KZ:VC:=(.reg false [
 V 13 (.mov (.s 0)),
 V 14 (.mov (.s 1)),
 V 15 (.call yU [.m 13,.m 14]),
 V 16 (.un .not (.m 15)),
 V 17 (.mov (.m 16)),
 U 17 18 (.mov (.s 1)),
 U 17 19 (.len (.s 18)),
 U 17 20 (.ld none 0 (.s 5)),
 U 17 21 (.len (.s 20)),
 U 17 22 (.bin .neq (.s 19) (.s 21)),
 V 23 (.pick (.m 17) (.c (.d (.bool true))) (.s 22)),
 N (.kill [18,19,20,21,22])])
abbrev KB:VC:=(.reg false [
 N (.st 1 (.s 6) (.c (.d (.int .i64 8))))])
abbrev KR:VC:=(.reg false [
 V 24 (.mov (.m 0)),
 V 25 (.build [.d (.int .i64 0),.d (.int .i64 0)] [(0,1,.m 24),(1,1,.c (.d (.int .i64 (-1))))]),
 V 26 (.box (.m 25)),
 V 7 (.alloc [.nilp]),
 N (.st 1 (.s 7) (.m 26))])
abbrev IP:VC:=(.reg false [
 V 27 (.mov (.m 1)),
 V 28 (.len (.s 27)),
 V 29 (.mov (.c (.d (.int .i64 0))))])
abbrev K3:VC:=(.reg false [
 V 30 (.bin .lss (.s 29) (.s 28))])
abbrev KE:VC:=(.reg false [
 V 31 (.mov (.s 29)),
 V 32 (.ia 1 (.s 27) (.s 29)),
 V 33 (.ld none 0 (.m 32)),
 V 8 (.alloc [.d (.int .i64 0)]),
 N (.st 1 (.s 8) (.m 31)),
 V 9 (.mov (.m 33))])
abbrev Jr:VC:=(.reg false [
 V 10 (.alloc [.d (.int .i64 0)]),
 N (.st 1 (.s 10) (.c (.d (.int .i64 0))))])
abbrev Ll:VC:=(.reg false [
 V 34 (.mov (.m 9)),
 V 35 (.calli mU [.m 34])])
abbrev KF:VC:=(.reg false [
 V 11 (.mov (.m 36)),
 N (.kill [27,28,29,35])])
abbrev Gx:VC:=(.reg false [
 V 12 (.mov (.m 37))])
abbrev HN:VC:=(.reg false [
 V 38 (.ld none 0 (.s 10)),
 V 39 (.bin .add (.m 38) (.c (.d (.int .i64 1)))),
 N (.st 1 (.s 10) (.m 39)),
 N (.kill [10])])
def um:VC:=(.regP [0,1,2,3,4,5,6,7,8,9,10,11,12,13,14,15,16,17,18,19,20,21,22,23,24,25,26,27,28,29,30,31,32,33,34,35,36,37] [0,1,2,3,4,5,6,7,8,9,10,11,12,13,14,15,16,17,18,19,20,21,22,23,24,25,26,27,28,29,30,31,32,33,34,35,36,37] [] [
 V 40 (.mov (.s 11)),
 V 41 (.ld none 0 (.s 5)),
 V 42 (.ld none 0 (.s 8)),
 V 43 (.ia 1 (.m 41) (.m 42)),
 V 44 (.ld none 0 (.m 43)),
 V 45 (.len (.m 44)),
 V 46 (.bin .geq (.m 40) (.m 45)),
 V 47 (.mov (.m 46)),
 U 47 48 (.mov (.s 12)),
 U 47 49 (.bin .eql (.s 48) (.c (.d (.int .i64 0)))),
 U 47 50 (.mov (.s 49)),
 W 50 51 (.ld none 0 (.s 5)),
 W 50 52 (.ld none 0 (.s 8)),
 W 50 53 (.ia 1 (.s 51) (.s 52)),
 W 50 54 (.ld none 0 (.s 53)),
 W 50 55 (.mov (.s 11)),
 W 50 56 (.ia 1 (.s 54) (.s 55)),
 W 50 57 (.ld none 0 (.s 56)),
 W 50 58 (.bin .neq (.s 57) (.c (.d (.int .i64 0)))),
 U 47 59 (.pick (.s 50) (.s 58) (.c (.d (.bool false)))),
 V 60 (.pick (.s 47) (.c (.d (.bool true))) (.s 59)),
 V 61 (.mov (.m 60)),
 U 61 62 (.mov (.s 12)),
 U 61 63 (.bin .gtr (.s 62) (.c (.d (.int .i64 0)))),
 U 61 64 (.mov (.s 63)),
 W 64 65 (.ld none 0 (.s 7)),
 W 64 66 (.mov (.s 12)),
 W 64 67 (.ld none 0 (.s 5)),
 W 64 68 (.ld none 0 (.s 8)),
 W 64 69 (.ia 1 (.s 67) (.s 68)),
 W 64 70 (.ld none 0 (.s 69)),
 W 64 71 (.mov (.s 11)),
 W 64 72 (.ia 1 (.s 70) (.s 71)),
 W 64 73 (.ld none 0 (.s 72)),
 W 64 74 (.calli fH [.s 65,.s 66,.s 73]),
 W 64 75 (.un .not (.s 74)),
 U 61 76 (.pick (.s 64) (.s 75) (.c (.d (.bool false)))),
 V 77 (.pick (.s 61) (.c (.d (.bool true))) (.s 76))])
abbrev H5:VC:=(.reg false [
 N (.st 1 (.m 6) (.c (.d (.int .i64 8))))])
def dX:VC:=(.seq KF
 Gx)
def dW:VC:=(.block 3
 (.seq HN
 (.seq (.seq um (K [5,7,8,11,12,47,48,49,50,51,52,53,54,55,56,57,58,59,61,62,63,64,65,66,67,68,69,70,71,72,73,74,75,76]))
 (.cond (.m 77)
 (.seq H5
 .ret)
 (.seq (K [6]) .skip)))))
abbrev Gm:VC:=(.reg true [
 V 78 (.ld none 0 (.s 10)),
 V 79 (.ld none 0 (.s 5)),
 V 80 (.ld none 0 (.s 8)),
 V 81 (.ia 1 (.m 79) (.m 80)),
 V 82 (.ld none 0 (.m 81)),
 V 83 (.len (.m 82)),
 V 84 (.bin .neq (.m 78) (.m 83))])
abbrev H9:VC:=(.reg false [
 N (.st 1 (.s 6) (.c (.d (.int .i64 8))))])
abbrev HL:VC:=(.reg false [
 V 85 (.bin .add (.m 29) (.c (.d (.int .i64 1)))),
 V 29 (.mov (.m 85))])
def jG:VC:=(.seq K3
 (.seq (.cond (.m 30)
 .skip
 (.seq (.seq (.seq (K [27,28,29]) (F 5)) (F 7)) (.exit 0)))
 (.seq (.block 1
 (.seq KE
 (.seq Jr
 (.seq (.seq Ll
 (.block 2
 (.seq (.rangeF (.s 35) [36,37] dX dW) (F 35))))
 (.seq (.seq Gm (.seq (F 8) (F 10)))
 (.cond (.m 84)
 (.seq (.seq (.seq (K [27,28,29]) (F 5)) (F 7)) (.seq H9
 .ret))
 .skip))))))
 HL)))
abbrev Gg:VC:=(.reg false [
 N (.st 1 (.s 6) (.c (.d (.int .i64 0))))])
def ua:af:=⟨3,[.cell 6 none],
 (.seq Jh
 (.seq (.seq KZ
 (.cond (.m 23)
 (.seq (.seq (K [0,1]) (F 5)) (.seq KB
 .ret))
 .skip))
 (.seq KR
 (.seq (.seq IP
 (.block 0
 (.seq (.loop jG) (.seq (.seq (K [27,28,29]) (F 5)) (F 7)))))
 (.seq Gg
 .ret)))))⟩
abbrev Kz:VC:=(.reg false [
 V 1 (.box (.m 0)),
 V 2 (.mov (.c (.nilf))),
 N (.kill [2])])
abbrev Jw:VC:=(.reg false [
 V 3 (.mkfn eF [] [.m 1]),
 V 2 (.mov (.m 3))])
def tK:af:=⟨1,[.tmp 2],
 (.seq Kz
 (.seq Jw
 .ret))⟩
abbrev PT:VC:=(.reg false [
 V 4 (.mov (.c (.nl))),
 V 5 (.mov (.c (.d (.int .i64 0)))),
 N (.kill [4,5])])
abbrev Ta:VC:=(.reg false [
 V 13 (.mov (.m 1)),
 V 14 (.mks 1 [.m 13]),
 V 15 (.call kP [.c (.d (.int .i64 12)),.m 14]),
 V 12 (.mov (.m 15)),
 V 16 (.ext 12 false 0),
 V 17 (.ext 12 false 1),
 V 6 (.mov (.m 16)),
 V 7 (.mov (.m 17)),
 N (.kill [12])])
abbrev PJ:VC:=(.reg false [
 V 18 (.mov (.m 7)),
 V 19 (.bin .neq (.m 18) (.c (.d (.int .i64 0))))])
abbrev QI:VC:=(.reg false [
 V 4 (.mov (.c (.nl))),
 V 5 (.mov (.c (.d (.int .i64 2))))])
abbrev QW:VC:=(.reg false [
 V 21 (.call mh [.c (.d (.int .i64 12))]),
 V 20 (.mov (.m 21)),
 V 22 (.ext 20 true 0),
 V 23 (.ext 20 false 1),
 V 8 (.alloc [.d (.int .i64 0),.d (.int .i64 0),.nl,.nl]),
 N (.st 4 (.s 8) (.m 22)),
 V 9 (.mov (.m 23)),
 N (.kill [9,20])])
abbrev QF:VC:=(.reg false [
 V 25 (.ld (some 4) 1 (.s 8)),
 V 26 (.mov (.m 6)),
 V 27 (.call j7 [.m 25,.m 26]),
 V 24 (.mov (.m 27)),
 V 28 (.ext 24 true 0),
 V 29 (.ext 24 false 1),
 V 10 (.mov (.m 28)),
 V 11 (.mov (.m 29)),
 N (.kill [11,24])])
abbrev QT:VC:=(.reg false [
 V 30 (.mov (.m 0)),
 V 31 (.mov (.m 10)),
 V 32 (.mks 1 [.m 30,.m 31]),
 V 33 (.call ed [.m 32]),
 V 4 (.mov (.m 33)),
 V 5 (.mov (.c (.d (.int .i64 0))))])
def yZ:af:=⟨2,[.tmp 4,.tmp 5],
 (.seq PT
 (.seq Ta
 (.seq (.seq PJ
 (.cond (.m 19)
 (.seq (K [0,6]) (.seq QI
 .ret))
 .skip))
 (.seq QW
 (.seq (.seq QF (F 8))
 (.seq QT
 .ret))))))⟩
abbrev Aj:VC:=(.reg false [
 V 6 (.mov (.c (.d (.bool false)))),
 N (.kill [6])])
abbrev zH:VC:=(.reg false [
 V 10 (.mov (.s 0)),
 V 11 (.nilck (.m 10)),
 V 12 (.fa 0 (.m 11)),
 V 7 (.mov (.m 12)),
 V 8 (.mov (.c (.d (.int .i64 255)))),
 V 9 (.mov (.c (.d (.bool false))))])
abbrev zW:VC:=(.reg false [
 V 13 (.mov (.m 1)),
 V 14 (.bin .eql (.m 13) (.c (.d (.int .i64 13))))])
def om:VC:=(.regP [0,1,2,3,4,5,6,7,8,9,10] [0,1,2,8,9,3,4,5,6,7,10] [] [
 V 15 (.mov (.s 0)),
 V 16 (.nilck (.m 15)),
 V 17 (.fa 1 (.m 16)),
 V 18 (.mov (.s 0)),
 V 19 (.nilck (.m 18)),
 V 20 (.fa 1 (.m 19)),
 V 21 (.ld none 0 (.m 20)),
 V 22 (.bin .lss (.m 21) (.c (.d (.int .i64 0)))),
 V 7 (.mov (.m 17)),
 V 8 (.mov (.c (.d (.int .i64 511)))),
 V 9 (.mov (.m 22))])
abbrev zN:VC:=(.reg false [
 V 23 (.mov (.s 2)),
 V 24 (.bin .lss (.m 23) (.c (.d (.int .i64 0)))),
 V 25 (.mov (.m 24)),
 U 25 26 (.mov (.s 2)),
 U 25 27 (.mov (.s 8)),
 U 25 28 (.bin .gtr (.s 26) (.s 27)),
 V 29 (.pick (.m 25) (.c (.d (.bool true))) (.s 28)),
 V 30 (.mov (.m 29)),
 U 30 31 (.mov (.s 9)),
 U 30 32 (.un .not (.s 31)),
 U 30 33 (.mov (.s 32)),
 W 33 34 (.mov (.s 2)),
 W 33 35 (.mov (.s 7)),
 W 33 36 (.nilck (.s 35)),
 W 33 37 (.ld none 0 (.s 36)),
 W 33 38 (.bin .sub (.s 37) (.c (.d (.int .i64 60)))),
 W 33 39 (.bin .lss (.s 34) (.s 38)),
 W 33 40 (.mov (.s 39)),
 U 40 41 (.mov (.s 2)),
 U 40 42 (.mov (.s 7)),
 U 40 43 (.nilck (.s 42)),
 U 40 44 (.ld none 0 (.s 43)),
 U 40 45 (.bin .add (.s 44) (.c (.d (.int .i64 60)))),
 U 40 46 (.bin .gtr (.s 41) (.s 45)),
 W 33 47 (.pick (.s 40) (.c (.d (.bool true))) (.s 46)),
 U 30 48 (.pick (.s 33) (.s 47) (.c (.d (.bool false)))),
 V 49 (.pick (.m 30) (.c (.d (.bool true))) (.s 48)),
 N (.kill [8,9,26,27,28,31,32,33,34,35,36,37,38,39,40,41,42,43,44,45,46,47,48])])
abbrev z5:VC:=(.reg false [
 V 6 (.mov (.c (.d (.bool false))))])
abbrev zp:VC:=(.reg false [
 V 50 (.mov (.m 7)),
 V 51 (.mov (.m 2)),
 V 52 (.nilck (.m 50)),
 N (.st 1 (.m 52) (.m 51))])
abbrev zC:VC:=(.reg false [
 V 6 (.mov (.c (.d (.bool true))))])
def kN:af:=⟨3,[.tmp 6],
 (.seq Aj
 (.seq zH
 (.seq (.seq zW
 (.cond (.m 14)
 (.seq (K [7,8,9]) (.seq om (K [0])))
 (.seq (K [0]) .skip)))
 (.seq (.seq zN
 (.cond (.m 49)
 (.seq (K [2,7]) (.seq z5
 .ret))
 .skip))
 (.seq zp
 (.seq zC
 .ret))))))⟩
abbrev mz:VC:=(.reg false [
 V 4 (.mov (.c (.d (.bool false)))),
 N (.kill [4])])
abbrev mI:VC:=(.reg false [
 V 5 (.mov (.m 0)),
 V 6 (.mov (.m 1)),
 V 7 (.calli fK [.m 5,.m 6]),
 V 8 (.bin .geq (.m 7) (.c (.d (.int .i64 0)))),
 V 4 (.mov (.m 8))])
def eJ:af:=⟨2,[.tmp 4],
 (.seq mz
 (.seq mI
 .ret))⟩
abbrev CX:VC:=(.reg false [
 V 2 (.mov (.c (.d (.bool false)))),
 N (.kill [2])])
abbrev CQ:VC:=(.reg false [
 V 3 (.mov (.m 0)),
 V 4 (.len (.m 3)),
 V 5 (.bin .gtr (.m 4) (.c (.d (.int .i64 0)))),
 V 2 (.mov (.m 5))])
def nT:af:=⟨1,[.tmp 2],
 (.seq CX
 (.seq CQ
 .ret))⟩
abbrev Fx:VC:=(.reg false [
 V 2 (.box (.m 0)),
 V 4 (.mov (.c (.d (.int .i64 0)))),
 N (.kill [4])])
abbrev Fy:VC:=(.reg false [
 V 10 (.ld (some 4) 0 (.s 2)),
 V 11 (.call fk [.m 10]),
 V 9 (.mov (.m 11)),
 V 12 (.ext 9 false 0),
 V 13 (.ext 9 false 1),
 V 5 (.mov (.m 12)),
 V 6 (.mov (.m 13)),
 N (.kill [9])])
abbrev DU:VC:=(.reg false [
 V 14 (.mov (.s 6)),
 V 15 (.bin .neq (.m 14) (.c (.d (.int .i64 0))))])
abbrev ER:VC:=(.reg false [
 V 16 (.mov (.m 6)),
 V 4 (.mov (.m 16))])
abbrev Ed:VC:=(.reg false [
 V 17 (.mov (.s 1)),
 V 18 (.len (.m 17)),
 V 19 (.mov (.m 5)),
 V 20 (.bin .neq (.m 18) (.m 19))])
abbrev Ec:VC:=(.reg false [
 V 4 (.mov (.c (.d (.int .i64 8))))])
abbrev Ey:VC:=(.reg false [
 V 21 (.mov (.m 1)),
 V 22 (.len (.s 21)),
 V 23 (.mov (.c (.d (.int .i64 0))))])
abbrev Fm:VC:=(.reg false [
 V 24 (.bin .lss (.s 23) (.s 22))])
abbrev Ei:VC:=(.reg false [
 V 25 (.ia 1 (.s 21) (.s 23)),
 V 26 (.ld none 0 (.m 25)),
 V 8 (.alloc [.nl]),
 N (.st 1 (.s 8) (.m 26))])
def tu:VC:=(.regP [0,1,2,3,4,5,6,7,8,9,10] [0,1,2,3,4,5,6,7,8,9,10] [] [
 V 27 (.ld none 0 (.s 8)),
 V 28 (.len (.m 27)),
 V 29 (.ld (some 4) 0 (.s 2)),
 V 30 (.call fO [.m 29]),
 V 31 (.ix 5 1 false (.m 30) (.c (.d (.int .i64 3)))),
 V 32 (.bin .gtr (.m 28) (.m 31)),
 V 33 (.mov (.m 32)),
 U 33 34 (.ld none 0 (.s 8)),
 U 33 35 (.mkfn eQ [] [.s 2,.s 8]),
 U 33 36 (.calli bx [.s 34,.s 35]),
 V 37 (.pick (.s 33) (.c (.d (.bool true))) (.s 36))])
abbrev CJ:VC:=(.reg false [
 V 4 (.mov (.c (.d (.int .i64 8))))])
abbrev CV:VC:=(.reg false [
 V 38 (.bin .add (.m 23) (.c (.d (.int .i64 1)))),
 V 23 (.mov (.m 38))])
def iG:VC:=(.seq Fm
 (.seq (.cond (.m 24)
 .skip
 (.seq (K [2,21,22,23]) (.exit 0)))
 (.seq (.block 1
 (.seq Ei
 (.seq (.seq tu (K [8,33,34,35,36]))
 (.cond (.m 37)
 (.seq (K [2,21,22,23]) (.seq CJ
 .ret))
 .skip))))
 CV)))
abbrev CU:VC:=(.reg false [
 V 4 (.mov (.c (.d (.int .i64 0))))])
def oO:af:=⟨2,[.tmp 4],
 (.seq Fx
 (.seq Fy
 (.seq (.seq DU
 (.cond (.m 15)
 (.seq (K [1,2,5]) (.seq ER
 .ret))
 (.seq (K [6]) .skip)))
 (.seq (.seq Ed
 (.cond (.m 20)
 (.seq (K [1,2]) (.seq Ec
 .ret))
 .skip))
 (.seq (.seq Ey
 (.block 0
 (.seq (.loop iG) (K [2,21,22,23]))))
 (.seq CU
 .ret))))))⟩
def tB:VC:=(.regP [0,1,2,3,4,5,6,7,8,9,10,11] [0,1,2,3,4,5,6,7,8,9,11,10] [] [
 V 6 (.ld none 0 (.s 2)),
 V 7 (.mov (.m 0)),
 V 8 (.mov (.s 1)),
 V 9 (.bin .shl (.c (.d (.int .i64 1))) (.m 8)),
 V 10 (.bin .sub (.m 9) (.c (.d (.int .i64 1)))),
 V 11 (.bin .and (.m 7) (.m 10)),
 V 12 (.mov (.s 1)),
 V 13 (.call cx [.m 6,.m 11,.m 12]),
 V 5 (.mov (.m 13)),
 V 14 (.ext 5 true 0),
 V 15 (.ext 5 false 1),
 N (.st 1 (.s 2) (.m 14))])
def px:af:=⟨3,[],
 (.seq tB (K [1,2,5,15]))⟩
abbrev EK:VC:=(.reg false [
 V 1 (.box (.m 0)),
 V 2 (.alloc [.d (.int .i64 0),.d (.int .i64 0),.d (.int .i64 0),.d (.int .i64 0),.d (.int .i64 0)])])
abbrev Es:VC:=(.reg false [
 V 3 (.fa 0 (.s 1)),
 V 4 (.ld none 0 (.m 3)),
 V 5 (.bin .eql (.m 4) (.c (.d (.int .u8 2))))])
abbrev Dm:VC:=(.reg false [
 V 6 (.build [.d (.int .i64 0),.d (.int .i64 0),.d (.int .i64 0),.d (.int .i64 0),.d (.int .i64 0)] [(0,1,.c (.d (.int .i64 1))),(1,1,.c (.d (.int .i64 4))),(2,1,.c (.d (.int .i64 3))),(3,1,.c (.d (.int .i64 1))),(4,1,.c (.d (.int .i64 7)))]),
 N (.st 5 (.s 2) (.m 6))])
abbrev Et:VC:=(.reg false [
 V 7 (.build [.d (.int .i64 0),.d (.int .i64 0),.d (.int .i64 0),.d (.int .i64 0),.d (.int .i64 0)] [(0,1,.c (.d (.int .i64 2))),(1,1,.c (.d (.int .i64 6))),(2,1,.c (.d (.int .i64 5))),(3,1,.c (.d (.int .i64 3))),(4,1,.c (.d (.int .i64 12)))]),
 N (.st 5 (.s 2) (.m 7))])
def qa:af:=⟨1,[.cell 2 (some 5)],
 (.seq EK
 (.seq (.seq (.seq Es (F 1))
 (.cond (.m 5)
 (.seq Dm
 .ret)
 .skip))
 (.seq Et
 .ret)))⟩
abbrev J1:VC:=(.reg false [
 V 2 (.mov (.c (.d (.int .i64 0)))),
 N (.kill [2])])
abbrev II:VC:=(.reg false [
 V 3 (.mov (.m 0))])
abbrev KM:VC:=(.reg false [
 V 2 (.mov (.c (.d (.int .i64 1))))])
abbrev Kh:VC:=(.reg false [
 V 2 (.mov (.c (.d (.int .i64 0))))])
def tZ:af:=⟨1,[.tmp 2],
 (.seq J1
 (.seq (.seq II
 (.cond (.m 3)
 (.seq KM
 .ret)
 .skip))
 (.seq Kh
 .ret)))⟩
abbrev GV:VC:=(.reg false [
 V 2 (.mov (.c (.d (.int .i64 0)))),
 N (.kill [2])])
abbrev Gu:VC:=(.reg false [
 V 3 (.mov (.m 0))])
abbrev Hu:VC:=(.reg false [
 V 2 (.mov (.c (.d (.int .i64 4))))])
abbrev Hk:VC:=(.reg false [
 V 2 (.mov (.c (.d (.int .i64 3))))])
def rX:af:=⟨1,[.tmp 2],
 (.seq GV
 (.seq (.seq Gu
 (.cond (.m 3)
 (.seq Hu
 .ret)
 .skip))
 (.seq Hk
 .ret)))⟩
abbrev IK:VC:=(.reg false [
 V 4 (.mov (.c (.d (.bool false)))),
 N (.kill [4])])
abbrev JG:VC:=(.reg false [
 V 6 (.mov (.m 1)),
 V 7 (.bin .sub (.m 6) (.c (.d (.int .i64 1)))),
 V 8 (.bin .shl (.c (.d (.int .i64 1))) (.m 7)),
 V 5 (.alloc [.d (.int .i64 0)]),
 N (.st 1 (.s 5) (.m 8))])
abbrev Lb:VC:=(.reg false [
 V 9 (.mov (.m 0)),
 V 10 (.mkfn kH [] [.m 5]),
 V 11 (.calli b6 [.m 9,.m 10]),
 V 12 (.un .not (.m 11)),
 V 4 (.mov (.m 12))])
def t9:af:=⟨2,[.tmp 4],
 (.seq IK
 (.seq JG
 (.seq Lb
 .ret)))⟩
abbrev HJ:VC:=(.reg false [
 V 5 (.mov (.c (.d (.int .i64 0))))])
abbrev Hd:VC:=(.reg false [
 V 14 (.ld none 0 (.m 1)),
 V 15 (.len (.s 14)),
 V 16 (.mov (.c (.d (.int .i64 0))))])
abbrev Hm:VC:=(.reg false [
 V 17 (.bin .lss (.s 16) (.s 15))])
abbrev GH:VC:=(.reg false [
 V 18 (.mov (.s 16)),
 V 19 (.ia 1 (.s 14) (.s 16)),
 V 20 (.ld none 0 (.m 19)),
 V 6 (.mov (.m 18)),
 V 7 (.mov (.m 20))])
abbrev HA:VC:=(.reg false [
 V 8 (.mov (.c (.d (.int .i64 0))))])
abbrev HT:VC:=(.reg false [
 V 21 (.mov (.m 7)),
 V 22 (.len (.s 21)),
 V 23 (.mov (.c (.d (.int .i64 0))))])
abbrev GS:VC:=(.reg false [
 V 24 (.bin .lss (.s 23) (.s 22))])
abbrev Gv:VC:=(.reg false [
 V 25 (.ia 2 (.s 21) (.s 23)),
 V 26 (.ld (some 2) 0 (.m 25)),
 V 10 (.alloc [.d (.int .i64 0),.d (.int .i64 0)]),
 N (.st 2 (.s 10) (.m 26))])
abbrev HB:VC:=(.reg false [
 V 27 (.mov (.s 8)),
 V 28 (.fa 1 (.s 10)),
 V 29 (.ld none 0 (.m 28)),
 V 30 (.bin .add (.m 27) (.m 29)),
 V 11 (.mov (.m 30))])
abbrev GZ:VC:=(.reg false [
 V 31 (.mov (.s 8)),
 V 32 (.mov (.s 11)),
 V 33 (.bin .lss (.m 31) (.m 32))])
abbrev EX:VC:=(.reg false [
 V 36 (.fa 0 (.s 10)),
 V 37 (.ld none 0 (.m 36)),
 V 38 (.bin .eql (.m 37) (.c (.d (.int .i64 0)))),
 V 39 (.mov (.m 38)),
 U 39 40 (.fa 0 (.s 10)),
 U 39 41 (.ld none 0 (.s 40)),
 U 39 42 (.bin .eql (.s 41) (.c (.d (.int .i64 13)))),
 V 43 (.pick (.m 39) (.c (.d (.bool true))) (.s 42)),
 N (.kill [40,41,42])])
abbrev EY:VC:=(.reg false [
 V 44 (.mov (.s 5)),
 V 12 (.mov (.m 44))])
abbrev Fl:VC:=(.reg false [
 V 45 (.mov (.s 12)),
 V 46 (.mov (.s 5)),
 V 47 (.fa 3 (.s 2)),
 V 48 (.ld none 0 (.m 47)),
 V 49 (.mov (.s 6)),
 V 50 (.ia 1 (.m 48) (.m 49)),
 V 51 (.ld none 0 (.m 50)),
 V 52 (.bin .add (.m 46) (.m 51)),
 V 53 (.bin .lss (.m 45) (.m 52))])
abbrev EA:VC:=(.reg false [
 V 56 (.ld none 0 (.s 3)),
 V 57 (.mov (.s 8)),
 V 58 (.ia 1 (.m 56) (.m 57)),
 V 59 (.ld none 0 (.m 58)),
 V 13 (.mov (.m 59))])
abbrev DP:VC:=(.reg false [
 V 60 (.mov (.s 13)),
 V 61 (.ld none 0 (.s 3)),
 V 62 (.mov (.s 8)),
 V 63 (.bin .add (.m 62) (.c (.d (.int .i64 1)))),
 V 64 (.ia 1 (.m 61) (.m 63)),
 V 65 (.ld none 0 (.m 64)),
 V 66 (.bin .lss (.m 60) (.m 65))])
def tE:VC:=(.regP [0,1,2,3,4,5,6,7,8,9,10,11,12,13,14,15,16,17] [0,1,2,3,4,5,6,7,8,9,10,11,12,13,14,15,16,17] [] [
 V 72 (.mov (.s 0)),
 V 73 (.fa 0 (.s 10)),
 V 74 (.ld none 0 (.m 73)),
 V 75 (.mov (.s 12)),
 V 76 (.bin .mul (.m 75) (.c (.d (.int .i64 32)))),
 V 77 (.mov (.s 13)),
 V 78 (.bin .add (.m 76) (.m 77)),
 V 79 (.mov (.s 12)),
 V 80 (.bin .mul (.m 79) (.c (.d (.int .i64 32)))),
 V 81 (.mov (.s 13)),
 V 82 (.bin .add (.m 80) (.m 81)),
 V 83 (.fa 0 (.s 10)),
 V 84 (.ld none 0 (.m 83)),
 V 85 (.call tC [.m 84]),
 V 86 (.bin .add (.m 82) (.m 85)),
 V 87 (.build [.d (.int .i64 0),.d (.int .i64 0),.d (.int .i64 0)] [(0,1,.m 74),(1,1,.m 78),(2,1,.m 86)]),
 V 88 (.callv (.m 72) [.m 87]),
 V 89 (.un .not (.m 88))])
abbrev DB:VC:=(.reg false [
 V 67 (.mov (.m 13)),
 V 68 (.fa 0 (.s 10)),
 V 69 (.ld none 0 (.m 68)),
 V 70 (.call tC [.m 69]),
 V 71 (.bin .add (.m 67) (.m 70)),
 V 13 (.mov (.m 71))])
def c7:VC:=(.seq (.seq DP
 (.cond (.m 66)
 .skip
 (.seq (K [13]) (.exit 8))))
 (.seq (.block 9
 (.seq tE
 (.cond (.m 89)
 (.seq (.seq (K [0,2,3,5,6,8,11,12,13,14,15,16,21,22,23]) (F 10)) .ret)
 .skip)))
 DB))
abbrev Fa:VC:=(.reg false [
 V 54 (.mov (.m 12)),
 V 55 (.bin .add (.m 54) (.c (.d (.int .i64 1)))),
 V 12 (.mov (.m 55))])
def dG:VC:=(.seq (.seq Fl
 (.cond (.m 53)
 .skip
 (.seq (K [12]) (.exit 6))))
 (.seq (.block 7
 (.seq EA
 (.block 8
 (.seq (.loop c7) (K [13])))))
 Fa))
abbrev Ft:VC:=(.reg false [
 V 34 (.mov (.m 8)),
 V 35 (.bin .add (.m 34) (.c (.d (.int .i64 1)))),
 V 8 (.mov (.m 35))])
def cw:VC:=(.seq (.seq GZ
 (.cond (.m 33)
 .skip
 (.seq (.seq (K [11]) (F 10)) (.exit 4))))
 (.seq (.block 5
 (.seq (.seq EX
 (.cond (.m 43)
 (.exit 5)
 .skip))
 (.seq EY
 (.block 6
 (.seq (.loop dG) (K [12]))))))
 Ft))
abbrev EI:VC:=(.reg false [
 V 90 (.bin .add (.m 23) (.c (.d (.int .i64 1)))),
 V 23 (.mov (.m 90))])
def dI:VC:=(.seq GS
 (.seq (.cond (.m 24)
 .skip
 (.seq (K [8,21,22,23]) (.exit 2)))
 (.seq (.block 3
 (.seq Gv
 (.seq HB
 (.block 4
 (.seq (.loop cw) (.seq (K [11]) (F 10)))))))
 EI)))
abbrev DD:VC:=(.reg false [
 V 91 (.mov (.m 5)),
 V 92 (.fa 3 (.s 2)),
 V 93 (.ld none 0 (.m 92)),
 V 94 (.mov (.m 6)),
 V 95 (.ia 1 (.m 93) (.m 94)),
 V 96 (.ld none 0 (.m 95)),
 V 97 (.bin .add (.m 91) (.m 96)),
 V 5 (.mov (.m 97))])
abbrev E2:VC:=(.reg false [
 V 98 (.bin .add (.m 16) (.c (.d (.int .i64 1)))),
 V 16 (.mov (.m 98))])
def dH:VC:=(.seq Hm
 (.seq (.cond (.m 17)
 .skip
 (.seq (K [0,2,3,5,14,15,16]) (.exit 0)))
 (.seq (.block 1
 (.seq GH
 (.seq HA
 (.seq (.seq HT
 (.block 2
 (.seq (.loop dI) (K [8,21,22,23]))))
 DD))))
 E2)))
def sA:af:=⟨4,[],
 (.seq HJ
 (.seq Hd
 (.block 0
 (.seq (.loop dH) (K [0,2,3,5,14,15,16])))))⟩
abbrev Xa:VC:=(.reg false [
 V 2 (.mov (.c (.d (.int .i64 0)))),
 N (.kill [2])])
abbrev XD:VC:=(.reg false [
 V 3 (.mov (.m 0)),
 V 4 (.bin .lss (.m 3) (.c (.d (.int .i64 5))))])
abbrev VV:VC:=(.reg false [
 V 2 (.mov (.c (.d (.int .i64 4))))])
abbrev Wj:VC:=(.reg false [
 V 2 (.mov (.c (.d (.int .i64 2))))])
def Ep:af:=⟨1,[.tmp 2],
 (.seq Xa
 (.seq (.seq XD
 (.cond (.m 4)
 (.seq VV
 .ret)
 .skip))
 (.seq Wj
 .ret)))⟩
abbrev P8:VC:=(.reg false [
 V 4 (.mov (.c (.d (.bool false)))),
 V 5 (.mov (.c (.d (.int .i64 0)))),
 N (.kill [4,5])])
abbrev Qb:VC:=(.reg false [
 V 8 (.mov (.s 0)),
 V 9 (.bin .lss (.m 8) (.c (.d (.int .i64 1)))),
 V 10 (.mov (.m 9)),
 U 10 11 (.mov (.s 0)),
 U 10 12 (.bin .gtr (.s 11) (.c (.d (.int .i64 11)))),
 V 13 (.pick (.m 10) (.c (.d (.bool true))) (.s 12)),
 V 7 (.mov (.m 13)),
 N (.kill [11,12])])
abbrev Q8:VC:=(.reg false [
 V 4 (.mov (.c (.d (.bool false)))),
 V 5 (.mov (.c (.d (.int .i64 2))))])
abbrev Q9:VC:=(.reg false [
 V 15 (.mov (.s 1)),
 V 16 (.len (.m 15)),
 V 17 (.mov (.s 0)),
 V 18 (.call Ca [.m 17]),
 V 19 (.bin .neq (.m 16) (.m 18)),
 V 14 (.mov (.m 19))])
abbrev QB:VC:=(.reg false [
 V 4 (.mov (.c (.d (.bool false)))),
 V 5 (.mov (.c (.d (.int .i64 4))))])
abbrev SK:VC:=(.reg false [
 V 20 (.call xu []),
 V 21 (.mov (.m 0)),
 V 22 (.ix 13 1 false (.m 20) (.m 21)),
 V 6 (.alloc [.d (.int .i64 0)]),
 N (.st 1 (.s 6) (.m 22))])
abbrev R6:VC:=(.reg false [
 V 23 (.mov (.m 1)),
 V 24 (.mkfn na [] [.m 6]),
 V 25 (.calli b6 [.m 23,.m 24]),
 V 26 (.un .not (.m 25)),
 V 4 (.mov (.m 26)),
 V 5 (.mov (.c (.d (.int .i64 0))))])
def xW:af:=⟨2,[.tmp 4,.tmp 5],
 (.seq P8
 (.seq (.block 0
 (.seq Qb
 (.cond (.m 7)
 (.seq (K [0,1]) (.seq Q8
 .ret))
 (.seq Q9
 (.cond (.m 14)
 (.seq (K [0,1]) (.seq QB
 .ret))
 .skip)))))
 (.seq SK
 (.seq R6
 .ret))))⟩
abbrev Hz:VC:=(.reg false [
 V 1 (.box (.m 0)),
 V 2 (.mov (.c (.d (.int .i64 0)))),
 N (.kill [2])])
abbrev Gn:VC:=(.reg false [
 V 6 (.ld (some 4) 0 (.s 1)),
 V 7 (.call j7 [.m 6,.c (.d (.int .i64 0))]),
 V 5 (.mov (.m 7)),
 V 8 (.ext 5 true 0),
 V 9 (.ext 5 false 1),
 V 3 (.mov (.m 8)),
 V 4 (.mov (.m 9)),
 N (.kill [3,5])])
abbrev GN:VC:=(.reg false [
 V 10 (.mov (.s 4)),
 V 11 (.bin .neq (.m 10) (.c (.d (.int .i64 0))))])
abbrev Gl:VC:=(.reg false [
 V 12 (.mov (.m 4)),
 V 2 (.mov (.m 12))])
abbrev HM:VC:=(.reg false [
 V 13 (.fa 0 (.s 1)),
 V 14 (.ld none 0 (.m 13)),
 V 15 (.bin .gtr (.m 14) (.c (.d (.int .i64 11))))])
abbrev Hh:VC:=(.reg false [
 V 2 (.mov (.c (.d (.int .i64 2))))])
abbrev Gk:VC:=(.reg false [
 V 2 (.mov (.c (.d (.int .i64 0))))])
def Sy:af:=⟨1,[.tmp 2],
 (.seq Hz
 (.seq (.seq Gn
 (.seq GN
 (.cond (.m 11)
 (.seq (F 1) (.seq Gl
 .ret))
 (.seq (K [4]) .skip))))
 (.seq (.seq (.seq HM (F 1))
 (.cond (.m 15)
 (.seq Hh
 .ret)
 .skip))
 (.seq Gk
 .ret))))⟩
abbrev IX:VC:=(.reg false [
 V 2 (.mov (.c (.d (.bool false)))),
 N (.kill [2])])
abbrev IL:VC:=(.reg false [
 V 3 (.mov (.s 0)),
 V 4 (.bin .lss (.m 3) (.c (.d (.int .i64 3)))),
 V 5 (.mov (.m 4)),
 U 5 6 (.mov (.s 0)),
 U 5 7 (.bin .eql (.s 6) (.c (.d (.int .i64 5)))),
 V 8 (.pick (.m 5) (.c (.d (.bool true))) (.s 7)),
 V 9 (.mov (.m 8)),
 U 9 10 (.mov (.s 0)),
 U 9 11 (.bin .eql (.s 10) (.c (.d (.int .i64 6)))),
 V 12 (.pick (.m 9) (.c (.d (.bool true))) (.s 11)),
 V 2 (.mov (.m 12)),
 N (.kill [0,6,7,10,11])])
def Vh:af:=⟨1,[.tmp 2],
 (.seq IX
 (.seq IL
 .ret))⟩
abbrev L5:VC:=(.reg false [
 V 4 (.mov (.c (.d (.int .i64 0)))),
 V 5 (.mov (.c (.d (.int .i64 0)))),
 N (.kill [4,5])])
abbrev Mm:VC:=(.reg false [
 V 12 (.mov (.m 0)),
 V 13 (.call xj [.m 12]),
 V 11 (.mov (.m 13)),
 V 14 (.ext 11 true 0),
 V 15 (.ext 11 false 1),
 V 6 (.alloc [.d (.int .i64 0),.d (.int .i64 0),.d (.int .i64 0),.d (.int .i64 0)]),
 N (.st 4 (.s 6) (.m 14)),
 V 7 (.mov (.m 15)),
 N (.kill [11])])
abbrev LT:VC:=(.reg false [
 V 17 (.mov (.s 7)),
 V 18 (.bin .neq (.m 17) (.c (.d (.int .i64 0)))),
 V 16 (.mov (.m 18))])
abbrev MX:VC:=(.reg false [
 V 19 (.mov (.m 7)),
 V 4 (.mov (.c (.d (.int .i64 0)))),
 V 5 (.mov (.m 19))])
abbrev Pf:VC:=(.reg false [
 V 21 (.mov (.s 1)),
 V 22 (.len (.m 21)),
 V 23 (.fa 0 (.s 6)),
 V 24 (.ld none 0 (.m 23)),
 V 25 (.bin .neq (.m 22) (.m 24)),
 V 20 (.mov (.m 25))])
abbrev OG:VC:=(.reg false [
 V 4 (.mov (.c (.d (.int .i64 0)))),
 V 5 (.mov (.c (.d (.int .i64 4))))])
abbrev L9:VC:=(.reg false [
 V 8 (.mov (.c (.d (.int .i64 0))))])
abbrev Mz:VC:=(.reg false [
 V 26 (.mov (.m 1)),
 V 27 (.len (.s 26)),
 V 28 (.mov (.c (.d (.int .i64 0))))])
abbrev Ms:VC:=(.reg false [
 V 29 (.bin .lss (.s 28) (.s 27))])
abbrev LQ:VC:=(.reg false [
 V 30 (.ia 1 (.s 26) (.s 28)),
 V 31 (.ld none 0 (.m 30)),
 V 10 (.mov (.m 31))])
abbrev J3:VC:=(.reg false [
 V 32 (.mov (.s 10)),
 V 33 (.fa 1 (.s 6)),
 V 34 (.ld none 0 (.m 33)),
 V 35 (.bin .lss (.m 32) (.m 34)),
 V 36 (.mov (.m 35)),
 U 36 37 (.mov (.s 10)),
 U 36 38 (.fa 2 (.s 6)),
 U 36 39 (.ld none 0 (.s 38)),
 U 36 40 (.bin .gtr (.s 37) (.s 39)),
 V 41 (.pick (.m 36) (.c (.d (.bool true))) (.s 40)),
 N (.kill [37,38,39,40])])
abbrev KI:VC:=(.reg false [
 V 4 (.mov (.c (.d (.int .i64 0)))),
 V 5 (.mov (.c (.d (.int .i64 2))))])
abbrev I8:VC:=(.reg true [
 V 42 (.mov (.m 8)),
 V 43 (.ld (some 4) 0 (.s 6)),
 V 44 (.call jQ [.m 43]),
 V 45 (.bin .mul (.m 42) (.m 44)),
 V 46 (.mov (.m 10)),
 V 47 (.bin .add (.m 45) (.m 46)),
 V 48 (.fa 1 (.s 6)),
 V 49 (.ld none 0 (.m 48)),
 V 50 (.bin .sub (.m 47) (.m 49)),
 V 8 (.mov (.m 50))])
abbrev Jk:VC:=(.reg false [
 V 51 (.bin .add (.m 28) (.c (.d (.int .i64 1)))),
 V 28 (.mov (.m 51))])
def kE:VC:=(.seq Ms
 (.seq (.cond (.m 29)
 .skip
 (.seq (.seq (K [26,27,28]) (F 6)) (.exit 1)))
 (.seq (.block 2
 (.seq LQ
 (.seq (.seq J3
 (.cond (.m 41)
 (.seq (.seq (K [8,10,26,27,28]) (F 6)) (.seq KI
 .ret))
 .skip))
 I8)))
 Jk)))
abbrev I7:VC:=(.reg false [
 V 52 (.mov (.m 8)),
 V 4 (.mov (.m 52)),
 V 5 (.mov (.c (.d (.int .i64 0))))])
def wt:af:=⟨2,[.tmp 4,.tmp 5],
 (.seq L5
 (.seq Mm
 (.seq (.block 0
 (.seq LT
 (.cond (.m 16)
 (.seq (.seq (K [1]) (F 6)) (.seq MX
 .ret))
 (.seq (K [7]) (.seq Pf
 (.cond (.m 20)
 (.seq (.seq (K [1]) (F 6)) (.seq OG
 .ret))
 .skip))))))
 (.seq L9
 (.seq (.seq Mz
 (.block 1
 (.seq (.loop kE) (.seq (K [26,27,28]) (F 6)))))
 (.seq I7
 .ret))))))⟩
abbrev Rk:VC:=(.reg false [
 V 2 (.box (.m 0)),
 V 4 (.mov (.c (.nl))),
 V 5 (.mov (.c (.d (.int .i64 0)))),
 N (.kill [4,5])])
abbrev Qv:VC:=(.reg false [
 V 11 (.ld (some 4) 0 (.s 2)),
 V 12 (.call qf [.m 11]),
 V 13 (.un .not (.m 12))])
abbrev PG:VC:=(.reg false [
 V 4 (.mov (.c (.nl))),
 V 5 (.mov (.c (.d (.int .i64 8))))])
abbrev Rj:VC:=(.reg false [
 V 14 (.mov (.s 1)),
 V 15 (.bin .lss (.m 14) (.c (.d (.int .i64 0)))),
 V 16 (.mov (.m 15)),
 U 16 17 (.mov (.s 1)),
 U 16 18 (.fa 3 (.s 2)),
 U 16 19 (.ld none 0 (.s 18)),
 U 16 20 (.len (.s 19)),
 U 16 21 (.bin .geq (.s 17) (.s 20)),
 V 22 (.pick (.m 16) (.c (.d (.bool true))) (.s 21)),
 N (.kill [17,18,19,20,21])])
abbrev So:VC:=(.reg false [
 V 4 (.mov (.c (.nl))),
 V 5 (.mov (.c (.d (.int .i64 2))))])
abbrev Qo:VC:=(.reg false [
 V 23 (.fa 3 (.s 2)),
 V 24 (.ld none 0 (.m 23)),
 V 25 (.mov (.m 1)),
 V 26 (.ia 1 (.m 24) (.m 25)),
 V 27 (.ld none 0 (.m 26)),
 V 6 (.mov (.m 27))])
abbrev PL:VC:=(.reg false [
 V 28 (.mov (.s 6)),
 V 29 (.fa 1 (.s 2)),
 V 30 (.ld none 0 (.m 29)),
 V 31 (.bin .shr (.m 28) (.m 30)),
 V 32 (.bin .add (.m 31) (.c (.d (.int .i64 1)))),
 V 7 (.mov (.m 32))])
abbrev PB:VC:=(.reg false [
 V 33 (.mov (.s 7)),
 V 34 (.conv .u64 (.m 33)),
 V 35 (.call kI [.m 34]),
 V 8 (.mov (.m 35))])
abbrev PU:VC:=(.reg false [
 V 37 (.mov (.m 7)),
 V 38 (.mov (.m 8)),
 V 39 (.bin .mul (.c (.d (.int .i64 2))) (.m 38)),
 V 40 (.bin .sub (.m 39) (.c (.d (.int .i64 1)))),
 V 41 (.call cx [.c (.nl),.m 37,.m 40]),
 V 36 (.mov (.m 41)),
 V 42 (.ext 36 true 0),
 V 43 (.ext 36 false 1),
 V 9 (.mov (.m 42)),
 V 10 (.mov (.m 43)),
 N (.kill [10,36])])
def Ar:VC:=(.regP [0,1,2,3,4,5,6,7,8,9,10,11,12,13] [0,1,2,3,4,5,6,7,8,9,10,11,12,13] [] [
 V 44 (.mov (.m 9)),
 V 45 (.mov (.m 6)),
 V 46 (.fa 1 (.s 2)),
 V 47 (.ld none 0 (.m 46)),
 V 48 (.bin .shl (.c (.d (.int .i64 1))) (.m 47)),
 V 49 (.bin .sub (.m 48) (.c (.d (.int .i64 1)))),
 V 50 (.bin .and (.m 45) (.m 49)),
 V 51 (.fa 1 (.s 2)),
 V 52 (.ld none 0 (.m 51)),
 V 53 (.call cx [.m 44,.m 50,.m 52]),
 V 54 (.ext 53 true 0),
 V 55 (.ext 53 false 1),
 V 4 (.mov (.m 54)),
 V 5 (.mov (.m 55))])
def yK:af:=⟨2,[.tmp 4,.tmp 5],
 (.seq Rk
 (.seq (.seq Qv
 (.cond (.m 13)
 (.seq (.seq (K [1]) (F 2)) (.seq PG
 .ret))
 .skip))
 (.seq (.seq Rj
 (.cond (.m 22)
 (.seq (.seq (K [1]) (F 2)) (.seq So
 .ret))
 .skip))
 (.seq Qo
 (.seq PL
 (.seq PB
 (.seq PU
 (.seq (.seq Ar (.seq (K [53]) (F 2)))
 .ret))))))))⟩
abbrev vU:VC:=(.reg false [
 V 2 (.mov (.c (.nl))),
 N (.kill [2])])
abbrev vQ:VC:=(.reg false [
 V 3 (.mov (.c (.d (.int .i64 0))))])
abbrev wA:VC:=(.reg false [
 V 9 (.mov (.s 0)),
 V 10 (.len (.s 9)),
 V 11 (.mov (.c (.d (.int .i64 0))))])
abbrev wa:VC:=(.reg false [
 V 12 (.bin .lss (.s 11) (.s 10))])
abbrev vS:VC:=(.reg false [
 V 13 (.ia 1 (.s 9) (.s 11)),
 V 14 (.ld none 0 (.m 13)),
 V 5 (.mov (.m 14))])
abbrev vA:VC:=(.reg false [
 V 15 (.mov (.m 3)),
 V 16 (.mov (.m 5)),
 V 17 (.len (.m 16)),
 V 18 (.bin .add (.m 15) (.m 17)),
 V 3 (.mov (.m 18))])
abbrev vM:VC:=(.reg false [
 V 19 (.mov (.s 3)),
 V 20 (.bin .lss (.m 19) (.c (.d (.int .i64 0))))])
abbrev vD:VC:=(.reg false [
 V 21 (.bad ),
 N (.bad )])
abbrev v9:VC:=(.reg false [
 V 22 (.bin .add (.m 11) (.c (.d (.int .i64 1)))),
 V 11 (.mov (.m 22))])
def eE:VC:=(.seq wa
 (.seq (.cond (.m 12)
 .skip
 (.seq (K [9,10,11]) (.exit 0)))
 (.seq (.block 1
 (.seq vS
 (.seq vA
 (.seq vM
 (.cond (.m 20)
 vD
 .skip)))))
 v9)))
abbrev wy:VC:=(.reg false [
 V 23 (.mov (.m 3)),
 V 24 (.calli kl [.c (.nl),.m 23]),
 V 6 (.mov (.m 24))])
abbrev uX:VC:=(.reg false [
 V 25 (.mov (.m 0)),
 V 26 (.len (.s 25)),
 V 27 (.mov (.c (.d (.int .i64 0))))])
abbrev ur:VC:=(.reg false [
 V 28 (.bin .lss (.s 27) (.s 26))])
abbrev uU:VC:=(.reg false [
 V 29 (.ia 1 (.s 25) (.s 27)),
 V 30 (.ld none 0 (.m 29)),
 V 8 (.mov (.m 30))])
abbrev ux:VC:=(.reg false [
 V 31 (.mov (.m 6)),
 V 32 (.mov (.m 8)),
 V 33 (.app 1 (.m 31) (.m 32)),
 V 6 (.mov (.m 33))])
abbrev uP:VC:=(.reg false [
 V 34 (.bin .add (.m 27) (.c (.d (.int .i64 1)))),
 V 27 (.mov (.m 34))])
def dr:VC:=(.seq ur
 (.seq (.cond (.m 28)
 .skip
 (.seq (K [25,26,27]) (.exit 2)))
 (.seq (.block 3
 (.seq uU
 ux))
 uP)))
abbrev uL:VC:=(.reg false [
 V 35 (.mov (.m 6)),
 V 2 (.mov (.m 35))])
def jq:af:=⟨1,[.tmp 2],
 (.seq vU
 (.seq vQ
 (.seq (.seq wA
 (.block 0
 (.seq (.loop eE) (K [9,10,11]))))
 (.seq wy
 (.seq (.seq uX
 (.block 2
 (.seq (.loop dr) (K [25,26,27]))))
 (.seq uL
 .ret))))))⟩
abbrev SN:VC:=(.reg false [
 V 2 (.mov (.c (.d (.int .i64 0)))),
 N (.kill [2])])
abbrev Rf:VC:=(.reg false [
 V 3 (.mov (.s 0)),
 V 4 (.mov (.m 0)),
 V 5 (.un .neg (.m 4)),
 V 6 (.minmax true [.m 3,.m 5]),
 V 2 (.mov (.m 6))])
def yP:af:=⟨1,[.tmp 2],
 (.seq SN
 (.seq Rf
 .ret))⟩
abbrev EJ:VC:=(.reg false [
 V 2 (.mov (.c (.d (.int .i64 0)))),
 N (.kill [2])])
abbrev DR:VC:=(.reg false [
 V 3 (.mov (.m 0)),
 V 4 (.conv .u32 (.m 3)),
 V 5 (.call Hy [.m 4]),
 V 2 (.mov (.m 5))])
abbrev Ff:VC:=(.reg false [
 V 6 (.mov (.m 0)),
 V 7 (.call mu [.m 6]),
 V 2 (.mov (.m 7))])
def pS:af:=⟨1,[.tmp 2],
 (.seq EJ
 (.seq (.cond (.c (.d (.bool false)))
 (.seq DR
 .ret)
 .skip)
 (.seq Ff
 .ret)))⟩
abbrev wo:VC:=(.reg false [
 V 4 (.mov (.c (.nl))),
 N (.kill [4])])
abbrev wb:VC:=(.reg false [
 V 9 (.mov (.s 1)),
 V 10 (.bin .lss (.m 9) (.c (.d (.int .i64 0))))])
abbrev wO:VC:=(.reg false [
 V 11 (.bad ),
 N (.bad )])
abbrev w6:VC:=(.reg false [
 V 13 (.mov (.s 0)),
 V 14 (.len (.m 13)),
 V 15 (.conv .u64 (.m 14)),
 V 16 (.mov (.m 1)),
 V 17 (.conv .u64 (.m 16)),
 V 18 (.call NJ [.m 15,.m 17]),
 V 12 (.mov (.m 18)),
 V 19 (.ext 12 false 0),
 V 20 (.ext 12 false 1),
 V 5 (.mov (.m 19)),
 V 6 (.mov (.m 20)),
 N (.kill [12])])
abbrev wT:VC:=(.reg false [
 V 21 (.mov (.m 5)),
 V 22 (.bin .gtr (.m 21) (.c (.d (.int .u64 0)))),
 V 23 (.mov (.m 22)),
 U 23 24 (.mov (.s 6)),
 U 23 25 (.bin .gtr (.s 24) (.c (.d (.int .u64 9223372036854775807)))),
 V 26 (.pick (.m 23) (.c (.d (.bool true))) (.s 25)),
 N (.kill [24,25])])
abbrev wl:VC:=(.reg false [
 V 27 (.bad ),
 N (.bad )])
abbrev wN:VC:=(.reg false [
 V 28 (.mov (.m 6)),
 V 29 (.conv .i64 (.m 28)),
 ⟨some 30,none,.mkslice [.int .u8 0] (.s 29) (.s 29),[(0,0)]⟩,
 V 7 (.mov (.m 30)),
 N (.kill [29])])
abbrev vB:VC:=(.reg false [
 V 31 (.mov (.s 7)),
 V 32 (.mov (.m 0)),
 V 33 (.cpy 1 (.m 31) (.m 32)),
 V 8 (.mov (.m 33))])
abbrev wm:VC:=(.reg false [
 V 34 (.mov (.s 8)),
 V 35 (.mov (.s 7)),
 V 36 (.len (.m 35)),
 V 37 (.bin .lss (.m 34) (.m 36))])
def v5:VC:=(.regP [0,1,2,3,4,5,6,7,8,9] [0,1,2,3,4,5,6,7,8,9] [] [
 V 38 (.mov (.s 8)),
 V 39 (.mov (.s 7)),
 V 40 (.mov (.s 8)),
 V 41 (.slice 1 (.m 39) (some (.m 40)) none none),
 V 42 (.mov (.s 7)),
 V 43 (.mov (.s 8)),
 V 44 (.slice 1 (.m 42) none (some (.m 43)) none),
 V 45 (.cpy 1 (.m 41) (.m 44)),
 V 46 (.bin .add (.m 38) (.m 45)),
 V 8 (.mov (.m 46))])
def vI:VC:=(.seq (.seq wm
 (.cond (.m 37)
 .skip
 (.seq (K [8]) (.exit 0))))
 (.block 1
 v5))
abbrev uW:VC:=(.reg false [
 V 47 (.mov (.m 7)),
 V 4 (.mov (.m 47))])
def zy:af:=⟨2,[.tmp 4],
 (.seq wo
 (.seq (.seq wb
 (.cond (.m 10)
 wO
 .skip))
 (.seq w6
 (.seq (.seq wT
 (.cond (.m 26)
 wl
 .skip))
 (.seq wN
 (.seq vB
 (.seq (.block 0
 (.seq (.loop vI) (K [8])))
 (.seq uW
 .ret))))))))⟩
abbrev UV:VC:=(.reg false [
 V 2 (.alloc [.d (.int .i64 0),.d (.int .i64 0),.nl,.nl]),
 V 3 (.mov (.c (.d (.int .i64 0)))),
 N (.kill [3])])
abbrev Vt:VC:=(.reg false [
 V 12 (.mov (.s 0)),
 V 13 (.call xj [.m 12]),
 V 11 (.mov (.m 13)),
 V 14 (.ext 11 true 0),
 V 15 (.ext 11 false 1),
 V 4 (.alloc [.d (.int .i64 0),.d (.int .i64 0),.d (.int .i64 0),.d (.int .i64 0)]),
 N (.st 4 (.s 4) (.m 14)),
 V 5 (.mov (.m 15)),
 N (.kill [11])])
abbrev Vs:VC:=(.reg false [
 V 16 (.mov (.s 5)),
 V 17 (.bin .neq (.m 16) (.c (.d (.int .i64 0))))])
abbrev UN:VC:=(.reg false [
 V 18 (.build [.d (.int .i64 0),.d (.int .i64 0),.nl,.nl] []),
 V 19 (.mov (.m 5)),
 N (.st 4 (.s 2) (.m 18)),
 V 3 (.mov (.m 19))])
def Cy:VC:=(.regP [0,1,2,3,4,6,7,5,8,9,10,11] [0,1,2,3,4,5,6,7,8,9,10,11] [] [
 V 20 (.mov (.m 0)),
 V 21 (.fa 3 (.s 4)),
 V 22 (.ld none 0 (.m 21)),
 V 23 (.ld (some 4) 0 (.s 4)),
 V 24 (.call dw [.m 23]),
 ⟨some 25,none,.mkslice [.int .i64 0] (.s 24) (.s 24),[(0,0)]⟩,
 V 26 (.ld (some 4) 0 (.s 4)),
 V 27 (.call dw [.m 26]),
 ⟨some 28,none,.mkslice [.int .i64 0] (.s 27) (.s 27),[(0,0)]⟩,
 V 29 (.build [.d (.int .i64 0),.d (.int .i64 0),.nl,.nl] [(0,1,.m 20),(1,1,.m 22),(2,1,.m 25),(3,1,.m 28)]),
 V 6 (.alloc [.d (.int .i64 0),.d (.int .i64 0),.nl,.nl]),
 N (.st 4 (.s 6) (.m 29))])
def tX:VC:=(.reg false [
 V 30 (.ld (some 4) 1 (.s 4)),
 V 31 (.call cZ [.m 30]),
 V 7 (.alloc [.d (.int .u8 0),.d (.int .u8 0),.d (.int .u8 0),.d (.int .u8 0),.d (.int .u8 0),.d (.int .u8 0),.d (.int .u8 0),.d (.int .u8 0),.d (.int .u8 0),.d (.int .u8 0),.d (.int .u8 0),.d (.int .u8 0),.d (.int .u8 0),.d (.int .u8 0),.d (.int .u8 0),.d (.int .u8 0),.d (.int .u8 0),.d (.int .u8 0),.d (.int .u8 0),.d (.int .u8 0),.d (.int .u8 0),.d (.int .u8 0),.d (.int .u8 0),.d (.int .u8 0),.d (.int .u8 0),.d (.int .u8 0),.d (.int .u8 0),.d (.int .u8 0),.d (.int .u8 0),.d (.int .u8 0),.d (.int .u8 0),.d (.int .u8 0),.d (.int .u8 0),.d (.int .u8 0),.d (.int .u8 0),.d (.int .u8 0),.d (.int .u8 0),.d (.int .u8 0),.d (.int .u8 0),.d (.int .u8 0),.d (.int .u8 0),.d (.int .u8 0),.d (.int .u8 0),.d (.int .u8 0),.d (.int .u8 0),.d (.int .u8 0),.d (.int .u8 0),.d (.int .u8 0),.d (.int .u8 0),.d (.int .u8 0),.d (.int .u8 0),.d (.int .u8 0),.d (.int .u8 0),.d (.int .u8 0),.d (.int .u8 0),.d (.int .u8 0),.d (.int .u8 0),.d (.int .u8 0),.d (.int .u8 0),.d (.int .u8 0),.d (.int .u8 0),.d (.int .u8 0),.d (.int .u8 0),.d (.int .u8 0),.d (.int .u8 0),.d (.int .u8 0),.d (.int .u8 0),.d (.int .u8 0),.d (.int .u8 0),.d (.int .u8 0),.d (.int .u8 0),.d (.int .u8 0),.d (.int .u8 0),.d (.int .u8 0),.d (.int .u8 0),.d (.int .u8 0),.d (.int .u8 0),.d (.int .u8 0),.d (.int .u8 0),.d (.int .u8 0),.d (.int .u8 0),.d (.int .u8 0),.d (.int .u8 0),.d (.int .u8 0),.d (.int .u8 0),.d (.int .u8 0),.d (.int .u8 0),.d (.int .u8 0),.d (.int .u8 0),.d (.int .u8 0),.d (.int .u8 0),.d (.int .u8 0),.d (.int .u8 0),.d (.int .u8 0),.d (.int .u8 0),.d (.int .u8 0),.d (.int .u8 0),.d (.int .u8 0),.d (.int .u8 0),.d (.int .u8 0),.d (.int .u8 0),.d (.int .u8 0),.d (.int .u8 0),.d (.int .u8 0),.d (.int .u8 0),.d (.int .u8 0),.d (.int .u8 0),.d (.int .u8 0),.d (.int .u8 0),.d (.int .u8 0),.d (.int .u8 0),.d (.int .u8 0),.d (.int .u8 0),.d (.int .u8 0),.d (.int .u8 0),.d (.int .u8 0),.d (.int .u8 0),.d (.int .u8 0),.d (.int .u8 0),.d (.int .u8 0),.d (.int .u8 0),.d (.int .u8 0),.d (.int .u8 0),.d (.int .u8 0),.d (.int .u8 0),.d (.int .u8 0),.d (.int .u8 0),.d (.int .u8 0),.d (.int .u8 0),.d (.int .u8 0),.d (.int .u8 0),.d (.int .u8 0),.d (.int .u8 0),.d (.int .u8 0),.d (.int .u8 0),.d (.int .u8 0),.d (.int .u8 0),.d (.int .u8 0),.d (.int .u8 0),.d (.int .u8 0),.d (.int .u8 0),.d (.int .u8 0),.d (.int .u8 0),.d (.int .u8 0),.d (.int .u8 0),.d (.int .u8 0),.d (.int .u8 0),.d (.int .u8 0),.d (.int .u8 0),.d (.int .u8 0),.d (.int .u8 0),.d (.int .u8 0),.d (.int .u8 0),.d (.int .u8 0),.d (.int .u8 0),.d (.int .u8 0),.d (.int .u8 0),.d (.int .u8 0),.d (.int .u8 0),.d (.int .u8 0),.d (.int .u8 0),.d (.int .u8 0),.d (.int .u8 0),.d (.int .u8 0),.d (.int .u8 0),.d (.int .u8 0),.d (.int .u8 0),.d (.int .u8 0),.d (.int .u8 0),.d (.int .u8 0),.d (.int .u8 0),.d (.int .u8 0),.d (.int .u8 0),.d (.int .u8 0),.d (.int .u8 0),.d (.int .u8 0),.d (.int .u8 0),.d (.int .u8 0),.d (.int .u8 0),.d (.int .u8 0),.d (.int .u8 0),.d (.int .u8 0),.d (.int .u8 0),.d (.int .u8 0),.d (.int .u8 0),.d (.int .u8 0),.d (.int .u8 0),.d (.int .u8 0),.d (.int .u8 0),.d (.int .u8 0),.d (.int .u8 0),.d (.int .u8 0),.d (.int .u8 0),.d (.int .u8 0),.d (.int .u8 0),.d (.int .u8 0),.d (.int .u8 0),.d (.int .u8 0),.d (.int .u8 0),.d (.int .u8 0),.d (.int .u8 0),.d (.int .u8 0),.d (.int .u8 0),.d (.int .u8 0),.d (.int .u8 0),.d (.int .u8 0),.d (.int .u8 0),.d (.int .u8 0),.d (.int .u8 0),.d (.int .u8 0),.d (.int .u8 0),.d (.int .u8 0),.d (.int .u8 0),.d (.int .u8 0),.d (.int .u8 0),.d (.int .u8 0),.d (.int .u8 0),.d (.int .u8 0),.d (.int .u8 0),.d (.int .u8 0),.d (.int .u8 0),.d (.int .u8 0),.d (.int .u8 0),.d (.int .u8 0),.d (.int .u8 0),.d (.int .u8 0),.d (.int .u8 0),.d (.int .u8 0),.d (.int .u8 0),.d (.int .u8 0),.d (.int .u8 0),.d (.int .u8 0),.d (.int .u8 0),.d (.int .u8 0),.d (.int .u8 0),.d (.int .u8 0),.d (.int .u8 0),.d (.int .u8 0),.d (.int .u8 0),.d (.int .u8 0),.d (.int .u8 0),.d (.int .u8 0),.d (.int .u8 0),.d (.int .u8 0),.d (.int .u8 0),.d (.int .u8 0),.d (.int .u8 0),.d (.int .u8 0),.d (.int .u8 0),.d (.int .u8 0),.d (.int .u8 0),.d (.int .u8 0),.d (.int .u8 0),.d (.int .u8 0),.d (.int .u8 0),.d (.int .u8 0),.d (.int .u8 0),.d (.int .u8 0),.d (.int .u8 0),.d (.int .u8 0),.d (.int .u8 0),.d (.int .u8 0),.d (.int .u8 0),.d (.int .u8 0),.d (.int .u8 0),.d (.int .u8 0),.d (.int .u8 0),.d (.int .u8 0),.d (.int .u8 0),.d (.int .u8 0),.d (.int .u8 0),.d (.int .u8 0),.d (.int .u8 0),.d (.int .u8 0),.d (.int .u8 0),.d (.int .u8 0),.d (.int .u8 0),.d (.int .u8 0),.d (.int .u8 0),.d (.int .u8 0),.d (.int .u8 0),.d (.int .u8 0),.d (.int .u8 0),.d (.int .u8 0),.d (.int .u8 0),.d (.int .u8 0),.d (.int .u8 0),.d (.int .u8 0),.d (.int .u8 0)]),
 N (.st 289 (.s 7) (.m 31))])
abbrev Ul:VC:=(.reg false [
 V 32 (.fa 2 (.s 6)),
 V 33 (.ld none 0 (.m 32)),
 V 34 (.len (.m 33)),
 V 35 (.mov (.c (.d (.int .i64 0))))])
abbrev UL:VC:=(.reg false [
 V 36 (.bin .lss (.s 35) (.s 34))])
abbrev Vz:VC:=(.reg false [
 V 37 (.mov (.s 35)),
 V 8 (.mov (.m 37))])
abbrev Ut:VC:=(.reg false [
 V 38 (.fa 2 (.s 6)),
 V 39 (.ld none 0 (.m 38)),
 V 40 (.mov (.s 8)),
 V 41 (.mov (.m 8)),
 V 42 (.ia 1 (.m 39) (.m 40)),
 N (.st 1 (.m 42) (.m 41))])
abbrev P0:VC:=(.reg false [
 V 43 (.bin .add (.m 35) (.c (.d (.int .i64 1)))),
 V 35 (.mov (.m 43))])
def mJ:VC:=(.seq UL
 (.seq (.cond (.m 36)
 .skip
 (.seq (K [34,35]) (.exit 0)))
 (.seq (.block 1
 (.seq Vz
 Ut))
 P0)))
abbrev Sr:VC:=(.reg false [
 V 44 (.fa 2 (.s 6)),
 V 45 (.ld none 0 (.m 44)),
 V 46 (.mkfn py [] [.m 7]),
 V 47 (.calli fj [.m 45,.m 46]),
 N (.kill [47])])
abbrev P5:VC:=(.reg false [
 V 48 (.fa 2 (.s 6)),
 V 49 (.ld none 0 (.m 48)),
 V 50 (.len (.s 49)),
 V 51 (.mov (.c (.d (.int .i64 0))))])
abbrev S0:VC:=(.reg false [
 V 52 (.bin .lss (.s 51) (.s 50))])
abbrev SA:VC:=(.reg false [
 V 53 (.mov (.s 51)),
 V 54 (.ia 1 (.s 49) (.s 51)),
 V 55 (.ld none 0 (.m 54)),
 V 9 (.mov (.m 53)),
 V 10 (.mov (.m 55))])
abbrev Su:VC:=(.reg false [
 V 56 (.fa 3 (.s 6)),
 V 57 (.ld none 0 (.m 56)),
 V 58 (.mov (.m 10)),
 V 59 (.mov (.m 9)),
 V 60 (.ia 1 (.m 57) (.m 58)),
 N (.st 1 (.m 60) (.m 59))])
abbrev Qf:VC:=(.reg false [
 V 61 (.bin .add (.m 51) (.c (.d (.int .i64 1)))),
 V 51 (.mov (.m 61))])
def mS:VC:=(.seq S0
 (.seq (.cond (.m 52)
 .skip
 (.seq (K [49,50,51]) (.exit 2)))
 (.seq (.block 3
 (.seq SA
 Su))
 Qf)))
abbrev SX:VC:=(.reg false [
 V 62 (.ld (some 4) 1 (.s 6)),
 N (.st 4 (.s 2) (.m 62)),
 V 3 (.mov (.c (.d (.int .i64 0))))])
def Ck:af:=⟨1,[.cell 2 (some 4),.tmp 3],
 (.seq UV
 (.seq Vt
 (.seq (.seq Vs
 (.cond (.m 17)
 (.seq (.seq (K [0]) (F 4)) (.seq UN
 .ret))
 (.seq (K [5]) .skip)))
 (.seq (.seq Cy (K [24,27]))
 (.seq (.seq tX (F 4))
 (.seq (.seq Ul
 (.block 0
 (.seq (.loop mJ) (K [34,35]))))
 (.seq Sr
 (.seq (.seq P5
 (.block 2
 (.seq (.loop mS) (K [49,50,51]))))
 (.seq (.seq SX (F 6))
 .ret)))))))))⟩
def C7:af:=⟨1,[.tmp 2],
 (.clone 1)⟩
abbrev ya:VC:=(.reg false [
 V 4 (.mov (.c (.d (.bool false)))),
 N (.kill [4])])
abbrev ye:VC:=(.reg false [
 V 6 (.mov (.s 0)),
 V 7 (.len (.m 6)),
 V 8 (.mov (.s 1)),
 V 9 (.len (.m 8)),
 V 10 (.bin .neq (.m 7) (.m 9))])
abbrev yn:VC:=(.reg false [
 V 4 (.mov (.c (.d (.bool false))))])
abbrev yD:VC:=(.reg false [
 V 11 (.mov (.s 0)),
 V 12 (.len (.m 11)),
 V 13 (.mov (.c (.d (.int .i64 0))))])
abbrev yT:VC:=(.reg false [
 V 14 (.bin .lss (.s 13) (.s 12))])
abbrev yN:VC:=(.reg false [
 V 15 (.mov (.s 13)),
 V 5 (.mov (.m 15))])
abbrev xR:VC:=(.reg true [
 V 16 (.mov (.s 0)),
 V 17 (.mov (.s 5)),
 V 18 (.ia 1 (.m 16) (.m 17)),
 V 19 (.ld none 0 (.m 18)),
 V 20 (.mov (.s 1)),
 V 21 (.mov (.s 5)),
 V 22 (.ia 1 (.m 20) (.m 21)),
 V 23 (.ld none 0 (.m 22)),
 V 24 (.bin .neq (.m 19) (.m 23))])
abbrev xS:VC:=(.reg false [
 V 4 (.mov (.c (.d (.bool false))))])
abbrev ym:VC:=(.reg false [
 V 25 (.bin .add (.m 13) (.c (.d (.int .i64 1)))),
 V 13 (.mov (.m 25))])
def fq:VC:=(.seq yT
 (.seq (.cond (.m 14)
 .skip
 (.seq (K [0,1,12,13]) (.exit 0)))
 (.seq (.block 1
 (.seq yN
 (.seq (.seq xR (K [5]))
 (.cond (.m 24)
 (.seq (K [0,1,12,13]) (.seq xS
 .ret))
 .skip))))
 ym)))
abbrev y7:VC:=(.reg false [
 V 4 (.mov (.c (.d (.bool true))))])
def kh:af:=⟨2,[.tmp 4],
 (.seq ya
 (.seq (.seq ye
 (.cond (.m 10)
 (.seq (K [0,1]) (.seq yn
 .ret))
 .skip))
 (.seq (.seq yD
 (.block 0
 (.seq (.loop fq) (K [0,1,12,13]))))
 (.seq y7
 .ret))))⟩
abbrev qG:VC:=(.reg false [
 V 4 (.mov (.c (.d (.int .i64 0)))),
 N (.kill [4])])
abbrev qm:VC:=(.reg false [
 V 6 (.mov (.s 0)),
 V 7 (.len (.m 6)),
 V 8 (.mov (.c (.d (.int .i64 0))))])
abbrev qB:VC:=(.reg false [
 V 9 (.bin .lss (.s 8) (.s 7))])
abbrev qC:VC:=(.reg false [
 V 10 (.mov (.s 8)),
 V 5 (.mov (.m 10))])
abbrev qF:VC:=(.reg false [
 V 11 (.mov (.s 1)),
 V 12 (.mov (.s 0)),
 V 13 (.mov (.s 5)),
 V 14 (.ia 5 (.m 12) (.m 13)),
 V 15 (.ld (some 5) 0 (.m 14)),
 V 16 (.callv (.m 11) [.m 15])])
abbrev qK:VC:=(.reg false [
 V 17 (.mov (.m 5)),
 V 4 (.mov (.m 17))])
abbrev qp:VC:=(.reg false [
 V 18 (.bin .add (.m 8) (.c (.d (.int .i64 1)))),
 V 8 (.mov (.m 18))])
def bz:VC:=(.seq qB
 (.seq (.cond (.m 9)
 .skip
 (.seq (K [0,1,7,8]) (.exit 0)))
 (.seq (.block 1
 (.seq qC
 (.seq qF
 (.cond (.m 16)
 (.seq (K [0,1,7,8]) (.seq qK
 .ret))
 (.seq (K [5]) .skip)))))
 qp)))
abbrev qy:VC:=(.reg false [
 V 4 (.mov (.c (.d (.int .i64 (-1)))))])
def dU:af:=⟨2,[.tmp 4],
 (.seq qG
 (.seq (.seq qm
 (.block 0
 (.seq (.loop bz) (K [0,1,7,8]))))
 (.seq qy
 .ret)))⟩
abbrev qQ:VC:=(.reg false [
 V 4 (.mov (.c (.d (.bool false)))),
 N (.kill [4])])
abbrev qD:VC:=(.reg false [
 V 5 (.mov (.m 0)),
 V 6 (.mov (.m 1)),
 V 7 (.calli iw [.m 5,.m 6]),
 V 8 (.bin .geq (.m 7) (.c (.d (.int .i64 0)))),
 V 4 (.mov (.m 8))])
def gb:af:=⟨2,[.tmp 4],
 (.seq qQ
 (.seq qD
 .ret))⟩
abbrev DJ:VC:=(.reg false [
 V 4 (.mov (.c (.d (.bool false)))),
 N (.kill [4])])
abbrev El:VC:=(.reg false [
 V 5 (.mov (.s 0)),
 V 6 (.ld none 0 (.m 1)),
 V 7 (.bin .lss (.m 5) (.m 6)),
 V 8 (.mov (.m 7)),
 U 8 9 (.mov (.s 0)),
 U 8 10 (.ld none 0 (.s 2)),
 U 8 11 (.bin .gtr (.s 9) (.s 10)),
 V 12 (.pick (.m 8) (.c (.d (.bool true))) (.s 11)),
 V 4 (.mov (.m 12)),
 N (.kill [0,2,9,10,11])])
def pO:af:=⟨3,[.tmp 4],
 (.seq DJ
 (.seq El
 .ret))⟩
abbrev Jj:VC:=(.reg false [
 V 5 (.ld none 0 (.m 1)),
 V 6 (.bin .sub (.m 5) (.c (.d (.int .i64 1)))),
 V 4 (.mov (.m 6))])
abbrev Kw:VC:=(.reg false [
 V 7 (.mov (.s 4)),
 V 8 (.bin .geq (.m 7) (.c (.d (.int .i64 0))))])
abbrev Kl:VC:=(.reg false [
 V 11 (.mov (.s 0)),
 V 12 (.ld none 0 (.s 2)),
 V 13 (.mov (.s 4)),
 V 14 (.bin .shr (.m 12) (.m 13)),
 V 15 (.bin .and (.m 14) (.c (.d (.int .i64 1)))),
 V 16 (.conv .u8 (.m 15)),
 V 17 (.callv (.m 11) [.m 16]),
 V 18 (.un .not (.m 17))])
abbrev I5:VC:=(.reg false [
 V 9 (.mov (.m 4)),
 V 10 (.bin .sub (.m 9) (.c (.d (.int .i64 1)))),
 V 4 (.mov (.m 10))])
def jO:VC:=(.seq (.seq Kw
 (.cond (.m 8)
 .skip
 (.seq (K [0,2,4]) (.exit 0))))
 (.seq (.block 1
 (.seq Kl
 (.cond (.m 18)
 (.seq (K [0,2,4]) .ret)
 .skip)))
 I5))
def tU:af:=⟨3,[],
 (.seq Jj
 (.block 0
 (.seq (.loop jO) (K [0,2,4]))))⟩
abbrev MZ:VC:=(.reg false [
 V 2 (.box (.m 0)),
 V 4 (.mov (.c (.d (.bool false)))),
 N (.kill [4])])
abbrev ON:VC:=(.reg false [
 V 5 (.fa 1 (.s 2)),
 V 6 (.ld none 0 (.m 5)),
 V 7 (.bin .geq (.m 6) (.c (.d (.int .i64 1)))),
 V 8 (.mov (.m 7)),
 W 8 9 (.fa 1 (.s 2)),
 W 8 10 (.ld none 0 (.s 9)),
 W 8 11 (.mov (.s 1)),
 W 8 12 (.bin .leq (.s 10) (.s 11)),
 V 13 (.pick (.m 8) (.s 12) (.c (.d (.bool false)))),
 V 14 (.mov (.m 13)),
 W 14 15 (.fa 0 (.s 2)),
 W 14 16 (.ld none 0 (.s 15)),
 W 14 17 (.bin .geq (.s 16) (.c (.d (.int .i64 0)))),
 V 18 (.pick (.m 14) (.s 17) (.c (.d (.bool false)))),
 V 19 (.mov (.m 18)),
 W 19 20 (.fa 0 (.s 2)),
 W 19 21 (.ld none 0 (.s 20)),
 W 19 22 (.bin .leq (.s 21) (.c (.d (.int .i64 11)))),
 W 19 23 (.mov (.s 22)),
 U 23 24 (.fa 0 (.s 2)),
 U 23 25 (.ld none 0 (.s 24)),
 U 23 26 (.bin .eql (.s 25) (.c (.d (.int .i64 13)))),
 W 19 27 (.pick (.s 23) (.c (.d (.bool true))) (.s 26)),
 V 28 (.pick (.m 19) (.s 27) (.c (.d (.bool false)))),
 V 4 (.mov (.m 28)),
 N (.kill [1,2,9,10,11,12,15,16,17,20,21,22,23,24,25,26,27])])
def v3:af:=⟨2,[.tmp 4],
 (.seq MZ
 (.seq ON
 .ret))⟩
abbrev DN:VC:=(.reg false [
 V 4 (.ld none 0 (.s 1)),
 V 5 (.ld none 0 (.s 2)),
 V 6 (.bin .geq (.m 4) (.m 5))])
abbrev Fd:VC:=(.reg false [
 V 10 (.mov (.s 0)),
 V 11 (.ld none 0 (.s 2)),
 V 12 (.callv (.m 10) [.m 11]),
 V 13 (.un .not (.m 12))])
abbrev Fj:VC:=(.reg false [
 V 7 (.ld none 0 (.s 1)),
 V 8 (.ld none 0 (.s 2)),
 V 9 (.bin .sub (.m 7) (.m 8)),
 N (.st 1 (.s 1) (.m 9))])
def fF:VC:=(.seq (.seq DN
 (.cond (.m 6)
 .skip
 (.seq (K [2]) (.exit 0))))
 (.seq (.block 1
 (.seq Fd
 (.cond (.m 13)
 (.seq (K [0,1,2]) .ret)
 .skip)))
 Fj))
abbrev Fe:VC:=(.reg false [
 V 14 (.mov (.m 0)),
 V 15 (.ld none 0 (.m 1)),
 V 16 (.callv (.m 14) [.m 15]),
 N (.kill [16])])
def pU:af:=⟨3,[],
 (.seq (.block 0
 (.seq (.loop fF) (K [2])))
 Fe)⟩
abbrev PQ:VC:=(.reg false [
 V 4 (.mov (.c (.d (.bool false)))),
 N (.kill [4])])
abbrev Qh:VC:=(.reg false [
 V 10 (.mov (.s 0)),
 V 11 (.bin .lss (.m 10) (.c (.d (.int .i64 0)))),
 V 12 (.mov (.m 11)),
 U 12 13 (.mov (.s 0)),
 U 12 14 (.bin .gtr (.s 13) (.c (.d (.int .i64 255)))),
 V 15 (.pick (.m 12) (.c (.d (.bool true))) (.s 14)),
 V 16 (.mov (.m 15)),
 U 16 17 (.mov (.s 1)),
 U 16 18 (.len (.s 17)),
 U 16 19 (.bin .gtr (.s 18) (.c (.d (.int .i64 8)))),
 V 20 (.pick (.m 16) (.c (.d (.bool true))) (.s 19)),
 N (.kill [0,13,14,17,18,19])])
abbrev Ra:VC:=(.reg false [
 V 4 (.mov (.c (.d (.bool false))))])
abbrev Qy:VC:=(.reg false [
 V 21 (.mov (.m 1)),
 V 22 (.len (.s 21)),
 V 23 (.mov (.c (.d (.int .i64 0))))])
abbrev Sz:VC:=(.reg false [
 V 24 (.bin .lss (.s 23) (.s 22))])
abbrev RY:VC:=(.reg false [
 V 25 (.ia 1 (.s 21) (.s 23)),
 V 26 (.ld none 0 (.m 25)),
 V 6 (.mov (.m 26))])
abbrev SC:VC:=(.reg false [
 V 7 (.mov (.c (.d (.int .i64 40))))])
abbrev Rx:VC:=(.reg false [
 V 27 (.mov (.m 6)),
 V 28 (.len (.s 27)),
 V 29 (.mov (.c (.d (.int .i64 0))))])
abbrev Rr:VC:=(.reg false [
 V 30 (.bin .lss (.s 29) (.s 28))])
abbrev Re:VC:=(.reg false [
 V 31 (.ia 2 (.s 27) (.s 29)),
 V 32 (.ld (some 2) 0 (.m 31)),
 V 9 (.alloc [.d (.int .i64 0),.d (.int .i64 0)]),
 N (.st 2 (.s 9) (.m 32))])
abbrev OB:VC:=(.reg false [
 V 33 (.fa 1 (.s 9)),
 V 34 (.ld none 0 (.m 33)),
 V 35 (.bin .lss (.m 34) (.c (.d (.int .i64 1)))),
 V 36 (.mov (.m 35)),
 U 36 37 (.fa 1 (.s 9)),
 U 36 38 (.ld none 0 (.s 37)),
 U 36 39 (.mov (.s 7)),
 U 36 40 (.bin .gtr (.s 38) (.s 39)),
 V 41 (.pick (.m 36) (.c (.d (.bool true))) (.s 40)),
 V 42 (.mov (.m 41)),
 U 42 43 (.fa 0 (.s 9)),
 U 42 44 (.ld none 0 (.s 43)),
 U 42 45 (.bin .lss (.s 44) (.c (.d (.int .i64 0)))),
 V 46 (.pick (.m 42) (.c (.d (.bool true))) (.s 45)),
 V 47 (.mov (.m 46)),
 U 47 48 (.fa 0 (.s 9)),
 U 47 49 (.ld none 0 (.s 48)),
 U 47 50 (.bin .gtr (.s 49) (.c (.d (.int .i64 11)))),
 U 47 51 (.mov (.s 50)),
 W 51 52 (.fa 0 (.s 9)),
 W 51 53 (.ld none 0 (.s 52)),
 W 51 54 (.bin .neq (.s 53) (.c (.d (.int .i64 13)))),
 U 47 55 (.pick (.s 51) (.s 54) (.c (.d (.bool false)))),
 V 56 (.pick (.m 47) (.c (.d (.bool true))) (.s 55)),
 N (.kill [37,38,39,40,43,44,45,48,49,50,51,52,53,54,55])])
abbrev O9:VC:=(.reg false [
 V 4 (.mov (.c (.d (.bool false))))])
abbrev LY:VC:=(.reg false [
 V 57 (.mov (.m 7)),
 V 58 (.fa 1 (.s 9)),
 V 59 (.ld none 0 (.m 58)),
 V 60 (.bin .sub (.m 57) (.m 59)),
 V 7 (.mov (.m 60))])
abbrev Pz:VC:=(.reg false [
 V 61 (.bin .add (.m 29) (.c (.d (.int .i64 1)))),
 V 29 (.mov (.m 61))])
def lE:VC:=(.seq Rr
 (.seq (.cond (.m 30)
 .skip
 (.seq (K [7,27,28,29]) (.exit 2)))
 (.seq (.block 3
 (.seq Re
 (.seq (.seq OB
 (.cond (.m 56)
 (.seq (.seq (K [7,21,22,23,27,28,29]) (F 9)) (.seq O9
 .ret))
 .skip))
 (.seq LY (F 9)))))
 Pz)))
abbrev Ni:VC:=(.reg false [
 V 62 (.bin .add (.m 23) (.c (.d (.int .i64 1)))),
 V 23 (.mov (.m 62))])
def me:VC:=(.seq Sz
 (.seq (.cond (.m 24)
 .skip
 (.seq (K [21,22,23]) (.exit 0)))
 (.seq (.block 1
 (.seq RY
 (.seq SC
 (.seq Rx
 (.block 2
 (.seq (.loop lE) (K [7,27,28,29])))))))
 Ni)))
abbrev Mk:VC:=(.reg false [
 V 4 (.mov (.c (.d (.bool true))))])
def za:af:=⟨2,[.tmp 4],
 (.seq PQ
 (.seq (.seq Qh
 (.cond (.m 20)
 (.seq (K [1]) (.seq Ra
 .ret))
 .skip))
 (.seq (.seq Qy
 (.block 0
 (.seq (.loop me) (K [21,22,23]))))
 (.seq Mk
 .ret))))⟩
abbrev Dy:VC:=(.reg false [
 V 3 (.mov (.c (.d (.int .i64 0))))])
abbrev Ez:VC:=(.reg false [
 V 6 (.ld none 0 (.m 1)),
 V 7 (.len (.s 6)),
 V 8 (.mov (.c (.d (.int .i64 0))))])
abbrev E8:VC:=(.reg false [
 V 9 (.bin .lss (.s 8) (.s 7))])
abbrev Fb:VC:=(.reg false [
 V 10 (.ia 2 (.s 6) (.s 8)),
 V 11 (.ld (some 2) 0 (.m 10)),
 V 5 (.alloc [.d (.int .i64 0),.d (.int .i64 0)]),
 N (.st 2 (.s 5) (.m 11))])
abbrev Fg:VC:=(.reg false [
 V 12 (.fa 1 (.s 5)),
 V 13 (.ld none 0 (.m 12)),
 V 14 (.mov (.c (.d (.int .i64 0))))])
abbrev DS:VC:=(.reg false [
 V 15 (.bin .lss (.s 14) (.s 13))])
abbrev DG:VC:=(.reg false [
 V 16 (.mov (.s 0)),
 V 17 (.mov (.s 3)),
 V 18 (.fa 0 (.s 5)),
 V 19 (.ld none 0 (.m 18)),
 V 20 (.callv (.m 16) [.m 17,.m 19]),
 V 21 (.un .not (.m 20))])
abbrev D1:VC:=(.reg false [
 V 22 (.mov (.m 3)),
 V 23 (.bin .add (.m 22) (.c (.d (.int .i64 1)))),
 V 3 (.mov (.m 23))])
abbrev Fv:VC:=(.reg false [
 V 24 (.bin .add (.m 14) (.c (.d (.int .i64 1)))),
 V 14 (.mov (.m 24))])
def dZ:VC:=(.seq DS
 (.seq (.cond (.m 15)
 .skip
 (.seq (.seq (K [13,14]) (F 5)) (.exit 2)))
 (.seq (.block 3
 (.seq (.seq DG
 (.cond (.m 21)
 (.seq (.seq (K [0,3,6,7,8,13,14]) (F 5)) .ret)
 .skip))
 D1))
 Fv)))
abbrev Fp:VC:=(.reg false [
 V 25 (.bin .add (.m 8) (.c (.d (.int .i64 1)))),
 V 8 (.mov (.m 25))])
def dn:VC:=(.seq E8
 (.seq (.cond (.m 9)
 .skip
 (.seq (K [0,3,6,7,8]) (.exit 0)))
 (.seq (.block 1
 (.seq Fb
 (.seq Fg
 (.block 2
 (.seq (.loop dZ) (.seq (K [13,14]) (F 5)))))))
 Fp)))
def pD:af:=⟨2,[],
 (.seq Dy
 (.seq Ez
 (.block 0
 (.seq (.loop dn) (K [0,3,6,7,8])))))⟩
abbrev oY:VC:=(.reg false [
 V 4 (.mov (.c (.d (.int .i64 0)))),
 N (.kill [4])])
abbrev oX:VC:=(.reg false [
 V 6 (.mov (.s 0)),
 V 7 (.len (.m 6)),
 V 8 (.mov (.c (.d (.int .i64 0))))])
abbrev qb:VC:=(.reg false [
 V 9 (.bin .lss (.s 8) (.s 7))])
abbrev pR:VC:=(.reg false [
 V 10 (.mov (.s 8)),
 V 5 (.mov (.m 10))])
abbrev pB:VC:=(.reg false [
 V 11 (.mov (.s 1)),
 V 12 (.mov (.s 0)),
 V 13 (.mov (.s 5)),
 V 14 (.ia 1 (.m 12) (.m 13)),
 V 15 (.ld none 0 (.m 14)),
 V 16 (.callv (.m 11) [.m 15])])
abbrev oV:VC:=(.reg false [
 V 17 (.mov (.m 5)),
 V 4 (.mov (.m 17))])
abbrev oU:VC:=(.reg false [
 V 18 (.bin .add (.m 8) (.c (.d (.int .i64 1)))),
 V 8 (.mov (.m 18))])
def bn:VC:=(.seq qb
 (.seq (.cond (.m 9)
 .skip
 (.seq (K [0,1,7,8]) (.exit 0)))
 (.seq (.block 1
 (.seq pR
 (.seq pB
 (.cond (.m 16)
 (.seq (K [0,1,7,8]) (.seq oV
 .ret))
 (.seq (K [5]) .skip)))))
 oU)))
abbrev qk:VC:=(.reg false [
 V 4 (.mov (.c (.d (.int .i64 (-1)))))])
def dL:af:=⟨2,[.tmp 4],
 (.seq oY
 (.seq (.seq oX
 (.block 0
 (.seq (.loop bn) (K [0,1,7,8]))))
 (.seq qk
 .ret)))⟩
abbrev BU:VC:=(.reg false [
 V 3 (.box (.m 0)),
 V 4 (.mov (.c (.d (.bool false)))),
 N (.kill [4])])
abbrev AE:VC:=(.reg true [
 V 5 (.ld (some 4) 0 (.m 1)),
 V 6 (.ld (some 5) 0 (.s 3)),
 V 7 (.call pK [.m 5,.m 6]),
 V 8 (.un .not (.m 7)),
 V 9 (.mov (.m 8)),
 U 9 10 (.fa 3 (.s 3)),
 U 9 11 (.ld none 0 (.s 10)),
 U 9 12 (.ld none 0 (.s 2)),
 U 9 13 (.ia 5 (.s 12) (.c (.d (.int .i64 0)))),
 U 9 14 (.fa 3 (.s 13)),
 U 9 15 (.ld none 0 (.s 14)),
 U 9 16 (.binb true (.s 11) (.s 15)),
 V 17 (.pick (.s 9) (.c (.d (.bool true))) (.s 16)),
 V 4 (.mov (.m 17))])
def mr:af:=⟨3,[.tmp 4],
 (.seq BU
 (.seq (.seq AE (.seq (K [2,9,10,11,12,13,14,15,16]) (F 3)))
 .ret))⟩
abbrev DQ:VC:=(.reg false [
 V 2 (.box (.m 0)),
 V 3 (.box (.m 1)),
 V 4 (.mov (.c (.d (.bool false)))),
 N (.kill [4])])
abbrev EU:VC:=(.reg false [
 V 6 (.ld (some 4) 1 (.s 2)),
 V 7 (.call fO [.m 6]),
 V 5 (.alloc [.d (.int .i64 0),.d (.int .i64 0),.d (.int .i64 0),.d (.int .i64 0),.d (.int .i64 0)]),
 N (.st 5 (.s 5) (.m 7))])
abbrev Dg:VC:=(.reg true [
 V 8 (.fa 0 (.s 3)),
 V 9 (.ld none 0 (.m 8)),
 V 10 (.bin .geq (.m 9) (.c (.d (.int .i64 0)))),
 V 11 (.mov (.m 10)),
 W 11 12 (.fa 0 (.s 3)),
 W 11 13 (.ld none 0 (.s 12)),
 W 11 14 (.iarr 5 1 (.s 5) (.c (.d (.int .i64 1)))),
 W 11 15 (.ld none 0 (.s 14)),
 W 11 16 (.bin .shl (.c (.d (.int .i64 1))) (.s 15)),
 W 11 17 (.bin .lss (.s 13) (.s 16)),
 V 18 (.pick (.s 11) (.s 17) (.c (.d (.bool false)))),
 V 19 (.mov (.m 18)),
 W 19 20 (.fa 1 (.s 3)),
 W 19 21 (.ld none 0 (.s 20)),
 W 19 22 (.bin .geq (.s 21) (.c (.d (.int .i64 0)))),
 V 23 (.pick (.s 19) (.s 22) (.c (.d (.bool false)))),
 V 24 (.mov (.m 23)),
 W 24 25 (.fa 1 (.s 3)),
 W 24 26 (.ld none 0 (.s 25)),
 W 24 27 (.iarr 5 1 (.s 5) (.c (.d (.int .i64 4)))),
 W 24 28 (.ld none 0 (.s 27)),
 W 24 29 (.bin .leq (.s 26) (.s 28)),
 V 30 (.pick (.s 24) (.s 29) (.c (.d (.bool false)))),
 V 31 (.mov (.m 30)),
 W 31 32 (.fa 4 (.s 3)),
 W 31 33 (.ld none 0 (.s 32)),
 W 31 34 (.len (.s 33)),
 W 31 35 (.fa 1 (.s 3)),
 W 31 36 (.ld none 0 (.s 35)),
 W 31 37 (.bin .eql (.s 34) (.s 36)),
 V 38 (.pick (.s 31) (.s 37) (.c (.d (.bool false)))),
 V 39 (.mov (.m 38)),
 W 39 40 (.fa 1 (.s 3)),
 W 39 41 (.ld none 0 (.s 40)),
 W 39 42 (.bin .gtr (.s 41) (.c (.d (.int .i64 0)))),
 W 39 43 (.mov (.s 42)),
 U 43 44 (.fa 2 (.s 3)),
 U 43 45 (.ld none 0 (.s 44)),
 U 43 46 (.un .not (.s 45)),
 W 39 47 (.pick (.s 43) (.c (.d (.bool true))) (.s 46)),
 V 48 (.pick (.s 39) (.s 47) (.c (.d (.bool false)))),
 V 49 (.mov (.m 48)),
 W 49 50 (.fa 4 (.s 3)),
 W 49 51 (.ld none 0 (.s 50)),
 W 49 52 (.fa 3 (.s 3)),
 W 49 53 (.ld none 0 (.s 52)),
 W 49 54 (.call lS [.s 53]),
 W 49 55 (.call mV [.s 51,.s 54]),
 V 56 (.pick (.s 49) (.s 55) (.c (.d (.bool false)))),
 V 4 (.mov (.m 56))])
def pe:af:=⟨2,[.tmp 4],
 (.seq DQ
 (.seq (.seq EU (F 2))
 (.seq (.seq Dg (.seq (.seq (K [11,12,13,14,15,16,17,19,20,21,22,24,25,26,27,28,29,31,32,33,34,35,36,37,39,40,41,42,43,44,45,46,47,49,50,51,52,53,54,55]) (F 3)) (F 5)))
 .ret)))⟩
abbrev Fs:VC:=(.reg false [
 V 3 (.mov (.c (.d (.bool false)))),
 N (.kill [3])])
abbrev Dp:VC:=(.reg false [
 V 4 (.mov (.s 0)),
 V 5 (.ld none 0 (.s 1)),
 V 6 (.un .neg (.m 5)),
 V 7 (.bin .lss (.m 4) (.m 6)),
 V 8 (.mov (.m 7)),
 U 8 9 (.mov (.s 0)),
 U 8 10 (.ld none 0 (.s 1)),
 U 8 11 (.bin .geq (.s 9) (.s 10)),
 V 12 (.pick (.m 8) (.c (.d (.bool true))) (.s 11)),
 V 3 (.mov (.m 12)),
 N (.kill [0,1,9,10,11])])
def pV:af:=⟨2,[.tmp 3],
 (.seq Fs
 (.seq Dp
 .ret))⟩
abbrev Ve:VC:=(.reg false [
 V 2 (.mov (.c (.d (.int .i64 0)))),
 N (.kill [2])])
abbrev US:VC:=(.reg false [
 V 3 (.mov (.m 0)),
 V 4 (.bin .lss (.m 3) (.c (.d (.int .i64 5))))])
abbrev Uz:VC:=(.reg false [
 V 2 (.mov (.c (.d (.int .i64 4))))])
abbrev Uy:VC:=(.reg false [
 V 2 (.mov (.c (.d (.int .i64 2))))])
def AG:af:=⟨1,[.tmp 2],
 (.seq Ve
 (.seq (.seq US
 (.cond (.m 4)
 (.seq Uz
 .ret)
 .skip))
 (.seq Uy
 .ret)))⟩
abbrev Dr:VC:=(.reg false [
 V 0 (.alloc [.d (.int .i64 0),.d (.int .i64 0),.d (.int .i64 0),.d (.int .i64 0),.d (.int .i64 0),.d (.int .i64 0),.d (.int .i64 0),.d (.int .i64 0),.d (.int .i64 0),.d (.int .i64 0),.d (.int .i64 0),.d (.int .i64 0),.d (.int .i64 0)])])
abbrev E7:VC:=(.reg false [
 V 1 (.build [.d (.int .i64 0),.d (.int .i64 0),.d (.int .i64 0),.d (.int .i64 0),.d (.int .i64 0),.d (.int .i64 0),.d (.int .i64 0),.d (.int .i64 0),.d (.int .i64 0),.d (.int .i64 0),.d (.int .i64 0),.d (.int .i64 0),.d (.int .i64 0)] [(1,1,.c (.d (.int .i64 1))),(2,1,.c (.d (.int .i64 1))),(3,1,.c (.d (.int .i64 2))),(4,1,.c (.d (.int .i64 2))),(5,1,.c (.d (.int .i64 4))),(6,1,.c (.d (.int .i64 4))),(7,1,.c (.d (.int .i64 7))),(8,1,.c (.d (.int .i64 7))),(9,1,.c (.d (.int .i64 12))),(10,1,.c (.d (.int .i64 12))),(11,1,.c (.d (.int .i64 8191)))]),
 N (.st 13 (.s 0) (.m 1))])
def Nq:af:=⟨0,[.cell 0 (some 13)],
 (.seq Dr
 (.seq E7
 .ret))⟩
abbrev Lj:VC:=(.reg false [
 V 3 (.mov (.c (.d (.bool false)))),
 N (.kill [3])])
abbrev JJ:VC:=(.reg false [
 V 4 (.mov (.s 0)),
 V 5 (.ld none 0 (.s 1)),
 V 6 (.bin .gtr (.m 4) (.m 5)),
 V 7 (.mov (.m 6)),
 U 7 8 (.mov (.s 0)),
 U 7 9 (.ld none 0 (.s 1)),
 U 7 10 (.un .neg (.s 9)),
 U 7 11 (.bin .lss (.s 8) (.s 10)),
 V 12 (.pick (.m 7) (.c (.d (.bool true))) (.s 11)),
 V 3 (.mov (.m 12)),
 N (.kill [0,1,8,9,10,11])])
def ud:af:=⟨2,[.tmp 3],
 (.seq Lj
 (.seq JJ
 .ret))⟩
abbrev Yj:VC:=(.reg false [
 V 2 (.alloc [.d (.int .i64 0),.d (.int .i64 0),.d (.int .i64 0),.d (.int .i64 0)]),
 V 3 (.mov (.c (.d (.int .i64 0)))),
 N (.kill [3])])
abbrev Xg:VC:=(.reg false [
 V 4 (.mov (.s 0)),
 V 5 (.bin .lss (.m 4) (.c (.d (.int .i64 1)))),
 V 6 (.mov (.m 5)),
 U 6 7 (.mov (.s 0)),
 U 6 8 (.bin .gtr (.s 7) (.c (.d (.int .i64 12)))),
 V 9 (.pick (.m 6) (.c (.d (.bool true))) (.s 8)),
 N (.kill [7,8])])
abbrev Xr:VC:=(.reg false [
 V 10 (.build [.d (.int .i64 0),.d (.int .i64 0),.d (.int .i64 0),.d (.int .i64 0)] []),
 N (.st 4 (.s 2) (.m 10)),
 V 3 (.mov (.c (.d (.int .i64 2))))])
abbrev XJ:VC:=(.reg false [
 V 11 (.call X2 []),
 V 12 (.mov (.m 0)),
 V 13 (.ix 13 4 true (.m 11) (.m 12)),
 N (.st 4 (.s 2) (.m 13)),
 V 3 (.mov (.c (.d (.int .i64 0))))])
def adc:af:=⟨1,[.cell 2 (some 4),.tmp 3],
 (.seq Yj
 (.seq (.seq Xg
 (.cond (.m 9)
 (.seq (K [0]) (.seq Xr
 .ret))
 .skip))
 (.seq XJ
 .ret)))⟩
abbrev CG:VC:=(.reg false [
 V 1 (.box (.m 0)),
 V 2 (.mov (.c (.d (.int .i64 0)))),
 N (.kill [2])])
abbrev CW:VC:=(.reg false [
 V 3 (.fa 2 (.s 1)),
 V 4 (.ld none 0 (.m 3)),
 V 5 (.fa 1 (.s 1)),
 V 6 (.ld none 0 (.m 5)),
 V 7 (.bin .sub (.m 4) (.m 6)),
 V 8 (.bin .add (.m 7) (.c (.d (.int .i64 1)))),
 V 2 (.mov (.m 8))])
def n5:af:=⟨1,[.tmp 2],
 (.seq CG
 (.seq (.seq CW (F 1))
 .ret))⟩
abbrev NX:VC:=(.reg false [
 V 1 (.box (.m 0)),
 V 2 (.mov (.c (.d (.bool false)))),
 N (.kill [2])])
abbrev L8:VC:=(.reg false [
 V 10 (.fa 0 (.s 1)),
 V 11 (.ld none 0 (.m 10)),
 V 12 (.call xj [.m 11]),
 V 9 (.mov (.m 12)),
 V 13 (.ext 9 true 0),
 V 14 (.ext 9 false 1),
 V 3 (.alloc [.d (.int .i64 0),.d (.int .i64 0),.d (.int .i64 0),.d (.int .i64 0)]),
 N (.st 4 (.s 3) (.m 13)),
 V 4 (.mov (.m 14)),
 N (.kill [9])])
abbrev Py:VC:=(.reg true [
 V 15 (.mov (.m 4)),
 V 16 (.bin .neq (.m 15) (.c (.d (.int .i64 0)))),
 V 17 (.mov (.m 16)),
 U 17 18 (.fa 1 (.s 1)),
 U 17 19 (.ld none 0 (.s 18)),
 U 17 20 (.fa 3 (.s 3)),
 U 17 21 (.ld none 0 (.s 20)),
 U 17 22 (.bin .neq (.s 19) (.s 21)),
 V 23 (.pick (.s 17) (.c (.d (.bool true))) (.s 22)),
 V 24 (.mov (.m 23)),
 U 24 25 (.fa 2 (.s 1)),
 U 24 26 (.ld none 0 (.s 25)),
 U 24 27 (.len (.s 26)),
 U 24 28 (.ld (some 4) 0 (.s 3)),
 U 24 29 (.call dw [.s 28]),
 U 24 30 (.bin .neq (.s 27) (.s 29)),
 V 31 (.pick (.s 24) (.c (.d (.bool true))) (.s 30)),
 V 32 (.mov (.m 31)),
 U 32 33 (.fa 3 (.s 1)),
 U 32 34 (.ld none 0 (.s 33)),
 U 32 35 (.len (.s 34)),
 U 32 36 (.ld (some 4) 0 (.s 3)),
 U 32 37 (.call dw [.s 36]),
 U 32 38 (.bin .neq (.s 35) (.s 37)),
 V 39 (.pick (.s 32) (.c (.d (.bool true))) (.s 38))])
abbrev Pi:VC:=(.reg false [
 V 2 (.mov (.c (.d (.bool false))))])
def o9:VC:=(.reg false [
 V 40 (.ld (some 4) 1 (.s 3)),
 V 41 (.call cZ [.m 40]),
 V 5 (.alloc [.d (.int .u8 0),.d (.int .u8 0),.d (.int .u8 0),.d (.int .u8 0),.d (.int .u8 0),.d (.int .u8 0),.d (.int .u8 0),.d (.int .u8 0),.d (.int .u8 0),.d (.int .u8 0),.d (.int .u8 0),.d (.int .u8 0),.d (.int .u8 0),.d (.int .u8 0),.d (.int .u8 0),.d (.int .u8 0),.d (.int .u8 0),.d (.int .u8 0),.d (.int .u8 0),.d (.int .u8 0),.d (.int .u8 0),.d (.int .u8 0),.d (.int .u8 0),.d (.int .u8 0),.d (.int .u8 0),.d (.int .u8 0),.d (.int .u8 0),.d (.int .u8 0),.d (.int .u8 0),.d (.int .u8 0),.d (.int .u8 0),.d (.int .u8 0),.d (.int .u8 0),.d (.int .u8 0),.d (.int .u8 0),.d (.int .u8 0),.d (.int .u8 0),.d (.int .u8 0),.d (.int .u8 0),.d (.int .u8 0),.d (.int .u8 0),.d (.int .u8 0),.d (.int .u8 0),.d (.int .u8 0),.d (.int .u8 0),.d (.int .u8 0),.d (.int .u8 0),.d (.int .u8 0),.d (.int .u8 0),.d (.int .u8 0),.d (.int .u8 0),.d (.int .u8 0),.d (.int .u8 0),.d (.int .u8 0),.d (.int .u8 0),.d (.int .u8 0),.d (.int .u8 0),.d (.int .u8 0),.d (.int .u8 0),.d (.int .u8 0),.d (.int .u8 0),.d (.int .u8 0),.d (.int .u8 0),.d (.int .u8 0),.d (.int .u8 0),.d (.int .u8 0),.d (.int .u8 0),.d (.int .u8 0),.d (.int .u8 0),.d (.int .u8 0),.d (.int .u8 0),.d (.int .u8 0),.d (.int .u8 0),.d (.int .u8 0),.d (.int .u8 0),.d (.int .u8 0),.d (.int .u8 0),.d (.int .u8 0),.d (.int .u8 0),.d (.int .u8 0),.d (.int .u8 0),.d (.int .u8 0),.d (.int .u8 0),.d (.int .u8 0),.d (.int .u8 0),.d (.int .u8 0),.d (.int .u8 0),.d (.int .u8 0),.d (.int .u8 0),.d (.int .u8 0),.d (.int .u8 0),.d (.int .u8 0),.d (.int .u8 0),.d (.int .u8 0),.d (.int .u8 0),.d (.int .u8 0),.d (.int .u8 0),.d (.int .u8 0),.d (.int .u8 0),.d (.int .u8 0),.d (.int .u8 0),.d (.int .u8 0),.d (.int .u8 0),.d (.int .u8 0),.d (.int .u8 0),.d (.int .u8 0),.d (.int .u8 0),.d (.int .u8 0),.d (.int .u8 0),.d (.int .u8 0),.d (.int .u8 0),.d (.int .u8 0),.d (.int .u8 0),.d (.int .u8 0),.d (.int .u8 0),.d (.int .u8 0),.d (.int .u8 0),.d (.int .u8 0),.d (.int .u8 0),.d (.int .u8 0),.d (.int .u8 0),.d (.int .u8 0),.d (.int .u8 0),.d (.int .u8 0),.d (.int .u8 0),.d (.int .u8 0),.d (.int .u8 0),.d (.int .u8 0),.d (.int .u8 0),.d (.int .u8 0),.d (.int .u8 0),.d (.int .u8 0),.d (.int .u8 0),.d (.int .u8 0),.d (.int .u8 0),.d (.int .u8 0),.d (.int .u8 0),.d (.int .u8 0),.d (.int .u8 0),.d (.int .u8 0),.d (.int .u8 0),.d (.int .u8 0),.d (.int .u8 0),.d (.int .u8 0),.d (.int .u8 0),.d (.int .u8 0),.d (.int .u8 0),.d (.int .u8 0),.d (.int .u8 0),.d (.int .u8 0),.d (.int .u8 0),.d (.int .u8 0),.d (.int .u8 0),.d (.int .u8 0),.d (.int .u8 0),.d (.int .u8 0),.d (.int .u8 0),.d (.int .u8 0),.d (.int .u8 0),.d (.int .u8 0),.d (.int .u8 0),.d (.int .u8 0),.d (.int .u8 0),.d (.int .u8 0),.d (.int .u8 0),.d (.int .u8 0),.d (.int .u8 0),.d (.int .u8 0),.d (.int .u8 0),.d (.int .u8 0),.d (.int .u8 0),.d (.int .u8 0),.d (.int .u8 0),.d (.int .u8 0),.d (.int .u8 0),.d (.int .u8 0),.d (.int .u8 0),.d (.int .u8 0),.d (.int .u8 0),.d (.int .u8 0),.d (.int .u8 0),.d (.int .u8 0),.d (.int .u8 0),.d (.int .u8 0),.d (.int .u8 0),.d (.int .u8 0),.d (.int .u8 0),.d (.int .u8 0),.d (.int .u8 0),.d (.int .u8 0),.d (.int .u8 0),.d (.int .u8 0),.d (.int .u8 0),.d (.int .u8 0),.d (.int .u8 0),.d (.int .u8 0),.d (.int .u8 0),.d (.int .u8 0),.d (.int .u8 0),.d (.int .u8 0),.d (.int .u8 0),.d (.int .u8 0),.d (.int .u8 0),.d (.int .u8 0),.d (.int .u8 0),.d (.int .u8 0),.d (.int .u8 0),.d (.int .u8 0),.d (.int .u8 0),.d (.int .u8 0),.d (.int .u8 0),.d (.int .u8 0),.d (.int .u8 0),.d (.int .u8 0),.d (.int .u8 0),.d (.int .u8 0),.d (.int .u8 0),.d (.int .u8 0),.d (.int .u8 0),.d (.int .u8 0),.d (.int .u8 0),.d (.int .u8 0),.d (.int .u8 0),.d (.int .u8 0),.d (.int .u8 0),.d (.int .u8 0),.d (.int .u8 0),.d (.int .u8 0),.d (.int .u8 0),.d (.int .u8 0),.d (.int .u8 0),.d (.int .u8 0),.d (.int .u8 0),.d (.int .u8 0),.d (.int .u8 0),.d (.int .u8 0),.d (.int .u8 0),.d (.int .u8 0),.d (.int .u8 0),.d (.int .u8 0),.d (.int .u8 0),.d (.int .u8 0),.d (.int .u8 0),.d (.int .u8 0),.d (.int .u8 0),.d (.int .u8 0),.d (.int .u8 0),.d (.int .u8 0),.d (.int .u8 0),.d (.int .u8 0),.d (.int .u8 0),.d (.int .u8 0),.d (.int .u8 0),.d (.int .u8 0),.d (.int .u8 0),.d (.int .u8 0),.d (.int .u8 0),.d (.int .u8 0),.d (.int .u8 0),.d (.int .u8 0),.d (.int .u8 0),.d (.int .u8 0),.d (.int .u8 0),.d (.int .u8 0),.d (.int .u8 0),.d (.int .u8 0),.d (.int .u8 0),.d (.int .u8 0),.d (.int .u8 0),.d (.int .u8 0),.d (.int .u8 0),.d (.int .u8 0),.d (.int .u8 0),.d (.int .u8 0),.d (.int .u8 0),.d (.int .u8 0),.d (.int .u8 0),.d (.int .u8 0),.d (.int .u8 0),.d (.int .u8 0),.d (.int .u8 0),.d (.int .u8 0),.d (.int .u8 0),.d (.int .u8 0),.d (.int .u8 0),.d (.int .u8 0),.d (.int .u8 0),.d (.int .u8 0),.d (.int .u8 0)]),
 N (.st 289 (.s 5) (.m 41))])
abbrev Mq:VC:=(.reg false [
 V 42 (.fa 2 (.s 1)),
 V 43 (.ld none 0 (.m 42)),
 V 44 (.len (.s 43)),
 V 45 (.mov (.c (.d (.int .i64 0))))])
abbrev Pe:VC:=(.reg false [
 V 46 (.bin .lss (.s 45) (.s 44))])
abbrev OQ:VC:=(.reg false [
 V 47 (.mov (.s 45)),
 V 48 (.ia 1 (.s 43) (.s 45)),
 V 49 (.ld none 0 (.m 48)),
 V 6 (.mov (.m 47)),
 V 7 (.mov (.m 49))])
abbrev Mi:VC:=(.reg false [
 V 50 (.mov (.s 7)),
 V 51 (.bin .lss (.m 50) (.c (.d (.int .i64 0)))),
 V 52 (.mov (.m 51)),
 U 52 53 (.mov (.s 7)),
 U 52 54 (.fa 3 (.s 1)),
 U 52 55 (.ld none 0 (.s 54)),
 U 52 56 (.len (.s 55)),
 U 52 57 (.bin .geq (.s 53) (.s 56)),
 V 58 (.pick (.m 52) (.c (.d (.bool true))) (.s 57)),
 V 59 (.mov (.m 58)),
 U 59 60 (.fa 3 (.s 1)),
 U 59 61 (.ld none 0 (.s 60)),
 U 59 62 (.mov (.s 7)),
 U 59 63 (.ia 1 (.s 61) (.s 62)),
 U 59 64 (.ld none 0 (.s 63)),
 U 59 65 (.mov (.s 6)),
 U 59 66 (.bin .neq (.s 64) (.s 65)),
 V 67 (.pick (.m 59) (.c (.d (.bool true))) (.s 66)),
 N (.kill [53,54,55,56,57,60,61,62,63,64,65,66])])
abbrev O7:VC:=(.reg false [
 V 2 (.mov (.c (.d (.bool false))))])
abbrev K8:VC:=(.reg false [
 V 68 (.mov (.s 6)),
 V 69 (.bin .eql (.m 68) (.c (.d (.int .i64 0))))])
abbrev Kr:VC:=(.reg false [
 V 70 (.fa 2 (.s 1)),
 V 71 (.ld none 0 (.m 70)),
 V 72 (.mov (.m 6)),
 V 73 (.bin .sub (.m 72) (.c (.d (.int .i64 1)))),
 V 74 (.ia 1 (.m 71) (.m 73)),
 V 75 (.ld none 0 (.m 74)),
 V 8 (.mov (.m 75))])
abbrev JB:VC:=(.reg true [
 V 76 (.mov (.s 8)),
 V 77 (.iarr 289 1 (.s 5) (.m 76)),
 V 78 (.ld none 0 (.m 77)),
 V 79 (.mov (.s 7)),
 V 80 (.iarr 289 1 (.s 5) (.m 79)),
 V 81 (.ld none 0 (.m 80)),
 V 82 (.bin .gtr (.m 78) (.m 81)),
 V 83 (.mov (.m 82)),
 U 83 84 (.mov (.s 8)),
 U 83 85 (.iarr 289 1 (.s 5) (.s 84)),
 U 83 86 (.ld none 0 (.s 85)),
 U 83 87 (.mov (.s 7)),
 U 83 88 (.iarr 289 1 (.s 5) (.s 87)),
 U 83 89 (.ld none 0 (.s 88)),
 U 83 90 (.bin .eql (.s 86) (.s 89)),
 U 83 91 (.mov (.s 90)),
 W 91 92 (.mov (.s 8)),
 W 91 93 (.mov (.s 7)),
 W 91 94 (.bin .gtr (.s 92) (.s 93)),
 U 83 95 (.pick (.s 91) (.s 94) (.c (.d (.bool false)))),
 V 96 (.pick (.s 83) (.c (.d (.bool true))) (.s 95))])
abbrev JY:VC:=(.reg false [
 V 2 (.mov (.c (.d (.bool false))))])
abbrev J5:VC:=(.reg false [
 V 97 (.bin .add (.m 45) (.c (.d (.int .i64 1)))),
 V 45 (.mov (.m 97))])
def kx:VC:=(.seq Pe
 (.seq (.cond (.m 46)
 .skip
 (.seq (.seq (.seq (K [43,44,45]) (F 1)) (F 5)) (.exit 0)))
 (.seq (.block 1
 (.seq OQ
 (.seq (.seq Mi
 (.cond (.m 67)
 (.seq (.seq (.seq (K [6,7,43,44,45]) (F 1)) (F 5)) (.seq O7
 .ret))
 .skip))
 (.seq (.seq K8
 (.cond (.m 69)
 (.seq (K [6,7]) (.exit 1))
 .skip))
 (.seq Kr
 (.seq (.seq JB (K [7,8,83,84,85,86,87,88,89,90,91,92,93,94,95]))
 (.cond (.m 96)
 (.seq (.seq (.seq (K [43,44,45]) (F 1)) (F 5)) (.seq JY
 .ret))
 .skip)))))))
 J5)))
abbrev IJ:VC:=(.reg false [
 V 2 (.mov (.c (.d (.bool true))))])
def vZ:af:=⟨1,[.tmp 2],
 (.seq NX
 (.seq L8
 (.seq (.seq (.seq Py (K [17,18,19,20,21,22,24,25,26,27,28,29,30,32,33,34,35,36,37,38]))
 (.cond (.m 39)
 (.seq (.seq (F 1) (F 3)) (.seq Pi
 .ret))
 .skip))
 (.seq (.seq o9 (F 3))
 (.seq (.seq Mq
 (.block 0
 (.seq (.loop kx) (.seq (.seq (K [43,44,45]) (F 1)) (F 5)))))
 (.seq IJ
 .ret))))))⟩
abbrev yw:VC:=(.reg false [
 V 4 (.mov (.c (.nl))),
 N (.kill [4])])
abbrev yv:VC:=(.reg false [
 V 5 (.mov (.s 1)),
 V 6 (.bin .lss (.m 5) (.c (.d (.int .i64 0))))])
abbrev xY:VC:=(.reg false [
 V 7 (.bad ),
 N (.bad )])
abbrev yh:VC:=(.reg false [
 V 8 (.mov (.m 1)),
 V 9 (.mov (.s 0)),
 V 10 (.cap (.m 9)),
 V 11 (.mov (.s 0)),
 V 12 (.len (.m 11)),
 V 13 (.bin .sub (.m 10) (.m 12)),
 V 14 (.bin .sub (.m 8) (.m 13)),
 V 1 (.mov (.m 14))])
abbrev xU:VC:=(.reg false [
 V 15 (.mov (.s 1)),
 V 16 (.bin .gtr (.m 15) (.c (.d (.int .i64 0))))])
abbrev yG:VC:=(.reg false [
 V 17 (.mov (.s 0)),
 V 18 (.mov (.s 0)),
 V 19 (.cap (.m 18)),
 V 20 (.slice 1 (.m 17) none (some (.m 19)) none),
 V 21 (.mov (.m 1)),
 ⟨some 22,none,.appz [.int .u8 0] (.m 20) (.m 21),[(0,0)]⟩,
 V 23 (.mov (.m 0)),
 V 24 (.len (.m 23)),
 V 25 (.slice 1 (.m 22) none (some (.m 24)) none),
 V 0 (.mov (.m 25))])
abbrev yS:VC:=(.reg false [
 V 26 (.mov (.m 0)),
 V 4 (.mov (.m 26))])
def kp:af:=⟨2,[.tmp 4],
 (.seq yw
 (.seq (.seq yv
 (.cond (.m 6)
 xY
 .skip))
 (.seq (.seq yh
 (.seq xU
 (.cond (.m 16)
 yG
 (.seq (K [1]) .skip))))
 (.seq yS
 .ret))))⟩
abbrev Bz:VC:=(.reg false [
 V 2 (.mov (.c (.d (.int .i64 0))))])
abbrev BA:VC:=(.reg false [
 V 3 (.mov (.s 0)),
 V 4 (.bin .geq (.m 3) (.c (.d (.int .u32 65536))))])
abbrev Ce:VC:=(.reg false [
 V 5 (.mov (.m 0)),
 V 6 (.bin .shr (.m 5) (.c (.d (.int .u64 16)))),
 V 0 (.mov (.m 6))])
abbrev AH:VC:=(.reg false [
 V 2 (.mov (.c (.d (.int .i64 16))))])
abbrev AN:VC:=(.reg false [
 V 7 (.mov (.s 0)),
 V 8 (.bin .geq (.m 7) (.c (.d (.int .u32 256))))])
abbrev A6:VC:=(.reg false [
 V 9 (.mov (.m 0)),
 V 10 (.bin .shr (.m 9) (.c (.d (.int .u64 8)))),
 V 0 (.mov (.m 10))])
abbrev BW:VC:=(.reg false [
 V 11 (.mov (.m 2)),
 V 12 (.bin .add (.m 11) (.c (.d (.int .i64 8)))),
 V 2 (.mov (.m 12))])
abbrev By:VC:=(.reg false [
 V 13 (.mov (.m 2)),
 V 14 (.mov (.m 0)),
 V 15 (.conv .u8 (.m 14)),
 V 16 (.ixs (.c (.d (.str [0,1,2,2,3,3,3,3,4,4,4,4,4,4,4,4,5,5,5,5,5,5,5,5,5,5,5,5,5,5,5,5,6,6,6,6,6,6,6,6,6,6,6,6,6,6,6,6,6,6,6,6,6,6,6,6,6,6,6,6,6,6,6,6,7,7,7,7,7,7,7,7,7,7,7,7,7,7,7,7,7,7,7,7,7,7,7,7,7,7,7,7,7,7,7,7,7,7,7,7,7,7,7,7,7,7,7,7,7,7,7,7,7,7,7,7,7,7,7,7,7,7,7,7,7,7,7,7,8,8,8,8,8,8,8,8,8,8,8,8,8,8,8,8,8,8,8,8,8,8,8,8,8,8,8,8,8,8,8,8,8,8,8,8,8,8,8,8,8,8,8,8,8,8,8,8,8,8,8,8,8,8,8,8,8,8,8,8,8,8,8,8,8,8,8,8,8,8,8,8,8,8,8,8,8,8,8,8,8,8,8,8,8,8,8,8,8,8,8,8,8,8,8,8,8,8,8,8,8,8,8,8,8,8,8,8,8,8,8,8,8,8,8,8,8,8,8,8,8,8,8,8,8,8,8,8]))) (.m 15)),
 V 17 (.conv .i64 (.m 16)),
 V 18 (.bin .add (.m 13) (.m 17)),
 V 2 (.mov (.m 18))])
def GI:af:=⟨1,[.tmp 2],
 (.seq Bz
 (.seq (.seq BA
 (.cond (.m 4)
 (.seq (K [2]) (.seq Ce
 AH))
 .skip))
 (.seq (.seq AN
 (.cond (.m 8)
 (.seq A6
 BW)
 .skip))
 (.seq By
 .ret))))⟩
abbrev Bj:VC:=(.reg false [
 V 2 (.mov (.c (.d (.int .i64 0))))])
abbrev BI:VC:=(.reg false [
 V 3 (.mov (.s 0)),
 V 4 (.bin .geq (.m 3) (.c (.d (.int .u64 4294967296))))])
abbrev BV:VC:=(.reg false [
 V 5 (.mov (.m 0)),
 V 6 (.bin .shr (.m 5) (.c (.d (.int .u64 32)))),
 V 0 (.mov (.m 6))])
abbrev AC:VC:=(.reg false [
 V 2 (.mov (.c (.d (.int .i64 32))))])
abbrev A5:VC:=(.reg false [
 V 7 (.mov (.s 0)),
 V 8 (.bin .geq (.m 7) (.c (.d (.int .u64 65536))))])
abbrev Bo:VC:=(.reg false [
 V 9 (.mov (.m 0)),
 V 10 (.bin .shr (.m 9) (.c (.d (.int .u64 16)))),
 V 0 (.mov (.m 10))])
abbrev AY:VC:=(.reg false [
 V 11 (.mov (.m 2)),
 V 12 (.bin .add (.m 11) (.c (.d (.int .i64 16)))),
 V 2 (.mov (.m 12))])
abbrev AB:VC:=(.reg false [
 V 13 (.mov (.s 0)),
 V 14 (.bin .geq (.m 13) (.c (.d (.int .u64 256))))])
abbrev BD:VC:=(.reg false [
 V 15 (.mov (.m 0)),
 V 16 (.bin .shr (.m 15) (.c (.d (.int .u64 8)))),
 V 0 (.mov (.m 16))])
abbrev Bb:VC:=(.reg false [
 V 17 (.mov (.m 2)),
 V 18 (.bin .add (.m 17) (.c (.d (.int .i64 8)))),
 V 2 (.mov (.m 18))])
abbrev zR:VC:=(.reg false [
 V 19 (.mov (.m 2)),
 V 20 (.mov (.m 0)),
 V 21 (.conv .u8 (.m 20)),
 V 22 (.ixs (.c (.d (.str [0,1,2,2,3,3,3,3,4,4,4,4,4,4,4,4,5,5,5,5,5,5,5,5,5,5,5,5,5,5,5,5,6,6,6,6,6,6,6,6,6,6,6,6,6,6,6,6,6,6,6,6,6,6,6,6,6,6,6,6,6,6,6,6,7,7,7,7,7,7,7,7,7,7,7,7,7,7,7,7,7,7,7,7,7,7,7,7,7,7,7,7,7,7,7,7,7,7,7,7,7,7,7,7,7,7,7,7,7,7,7,7,7,7,7,7,7,7,7,7,7,7,7,7,7,7,7,7,8,8,8,8,8,8,8,8,8,8,8,8,8,8,8,8,8,8,8,8,8,8,8,8,8,8,8,8,8,8,8,8,8,8,8,8,8,8,8,8,8,8,8,8,8,8,8,8,8,8,8,8,8,8,8,8,8,8,8,8,8,8,8,8,8,8,8,8,8,8,8,8,8,8,8,8,8,8,8,8,8,8,8,8,8,8,8,8,8,8,8,8,8,8,8,8,8,8,8,8,8,8,8,8,8,8,8,8,8,8,8,8,8,8,8,8,8,8,8,8,8,8,8,8,8,8,8,8]))) (.m 21)),
 V 23 (.conv .i64 (.m 22)),
 V 24 (.bin .add (.m 19) (.m 23)),
 V 2 (.mov (.m 24))])
def mo:af:=⟨1,[.tmp 2],
 (.seq Bj
 (.seq (.seq BI
 (.cond (.m 4)
 (.seq (K [2]) (.seq BV
 AC))
 .skip))
 (.seq (.seq A5
 (.cond (.m 8)
 (.seq Bo
 AY)
 .skip))
 (.seq (.seq AB
 (.cond (.m 14)
 (.seq BD
 Bb)
 .skip))
 (.seq zR
 .ret)))))⟩
abbrev Dz:VC:=(.reg false [
 V 4 (.mov (.c (.d (.int .u64 0)))),
 V 5 (.mov (.c (.d (.int .u64 0)))),
 N (.kill [4,5])])
abbrev Fi:VC:=(.reg false [
 V 11 (.mov (.m 0)),
 V 12 (.conv .u32 (.m 11)),
 V 13 (.mov (.m 1)),
 V 14 (.conv .u32 (.m 13)),
 V 15 (.call GG [.m 12,.m 14]),
 V 10 (.mov (.m 15)),
 V 16 (.ext 10 false 0),
 V 17 (.ext 10 false 1),
 V 6 (.mov (.m 16)),
 V 7 (.mov (.m 17)),
 N (.kill [10])])
abbrev Fq:VC:=(.reg false [
 V 18 (.mov (.m 6)),
 V 19 (.conv .u64 (.m 18)),
 V 20 (.mov (.m 7)),
 V 21 (.conv .u64 (.m 20)),
 V 4 (.mov (.m 19)),
 V 5 (.mov (.m 21))])
abbrev Db:VC:=(.reg false [
 V 23 (.mov (.m 0)),
 V 24 (.mov (.m 1)),
 V 25 (.call Ha [.m 23,.m 24]),
 V 22 (.mov (.m 25)),
 V 26 (.ext 22 false 0),
 V 27 (.ext 22 false 1),
 V 8 (.mov (.m 26)),
 V 9 (.mov (.m 27)),
 N (.kill [22])])
abbrev Fr:VC:=(.reg false [
 V 28 (.mov (.m 8)),
 V 29 (.mov (.m 9)),
 V 4 (.mov (.m 28)),
 V 5 (.mov (.m 29))])
def Ly:af:=⟨2,[.tmp 4,.tmp 5],
 (.seq Dz
 (.seq (.cond (.c (.d (.bool false)))
 (.seq Fi
 (.seq Fq
 .ret))
 .skip)
 (.seq Db
 (.seq Fr
 .ret))))⟩
abbrev C0:VC:=(.reg false [
 V 1 (.box (.m 0)),
 V 2 (.mov (.c (.d (.int .i64 0)))),
 N (.kill [2])])
abbrev C3:VC:=(.reg false [
 V 3 (.mov (.c (.d (.int .i64 1))))])
abbrev CZ:VC:=(.reg false [
 V 4 (.fa 0 (.s 1)),
 V 5 (.ld none 0 (.m 4)),
 V 6 (.mov (.c (.d (.int .i64 0))))])
abbrev CP:VC:=(.reg false [
 V 7 (.bin .lss (.s 6) (.s 5))])
abbrev CI:VC:=(.reg false [
 V 8 (.mov (.m 3)),
 V 9 (.ld (some 4) 0 (.s 1)),
 V 10 (.call jQ [.m 9]),
 V 11 (.bin .mul (.m 8) (.m 10)),
 V 3 (.mov (.m 11))])
abbrev CS:VC:=(.reg false [
 V 12 (.bin .add (.m 6) (.c (.d (.int .i64 1)))),
 V 6 (.mov (.m 12))])
def C1:VC:=(.seq CP
 (.seq (.cond (.m 7)
 .skip
 (.seq (.seq (K [5,6]) (F 1)) (.exit 0)))
 (.seq (.block 1
 CI)
 CS)))
abbrev C8:VC:=(.reg false [
 V 13 (.mov (.m 3)),
 V 2 (.mov (.m 13))])
def KO:af:=⟨1,[.tmp 2],
 (.seq C0
 (.seq C3
 (.seq (.seq CZ
 (.block 0
 (.seq (.loop C1) (.seq (K [5,6]) (F 1)))))
 (.seq C8
 .ret))))⟩
def jN:VC:=(.reg false [
 V 1 (.box (.m 0)),
 V 2 (.alloc [.d (.int .u8 0),.d (.int .u8 0),.d (.int .u8 0),.d (.int .u8 0),.d (.int .u8 0),.d (.int .u8 0),.d (.int .u8 0),.d (.int .u8 0),.d (.int .u8 0),.d (.int .u8 0),.d (.int .u8 0),.d (.int .u8 0),.d (.int .u8 0),.d (.int .u8 0),.d (.int .u8 0),.d (.int .u8 0),.d (.int .u8 0),.d (.int .u8 0),.d (.int .u8 0),.d (.int .u8 0),.d (.int .u8 0),.d (.int .u8 0),.d (.int .u8 0),.d (.int .u8 0),.d (.int .u8 0),.d (.int .u8 0),.d (.int .u8 0),.d (.int .u8 0),.d (.int .u8 0),.d (.int .u8 0),.d (.int .u8 0),.d (.int .u8 0),.d (.int .u8 0),.d (.int .u8 0),.d (.int .u8 0),.d (.int .u8 0),.d (.int .u8 0),.d (.int .u8 0),.d (.int .u8 0),.d (.int .u8 0),.d (.int .u8 0),.d (.int .u8 0),.d (.int .u8 0),.d (.int .u8 0),.d (.int .u8 0),.d (.int .u8 0),.d (.int .u8 0),.d (.int .u8 0),.d (.int .u8 0),.d (.int .u8 0),.d (.int .u8 0),.d (.int .u8 0),.d (.int .u8 0),.d (.int .u8 0),.d (.int .u8 0),.d (.int .u8 0),.d (.int .u8 0),.d (.int .u8 0),.d (.int .u8 0),.d (.int .u8 0),.d (.int .u8 0),.d (.int .u8 0),.d (.int .u8 0),.d (.int .u8 0),.d (.int .u8 0),.d (.int .u8 0),.d (.int .u8 0),.d (.int .u8 0),.d (.int .u8 0),.d (.int .u8 0),.d (.int .u8 0),.d (.int .u8 0),.d (.int .u8 0),.d (.int .u8 0),.d (.int .u8 0),.d (.int .u8 0),.d (.int .u8 0),.d (.int .u8 0),.d (.int .u8 0),.d (.int .u8 0),.d (.int .u8 0),.d (.int .u8 0),.d (.int .u8 0),.d (.int .u8 0),.d (.int .u8 0),.d (.int .u8 0),.d (.int .u8 0),.d (.int .u8 0),.d (.int .u8 0),.d (.int .u8 0),.d (.int .u8 0),.d (.int .u8 0),.d (.int .u8 0),.d (.int .u8 0),.d (.int .u8 0),.d (.int .u8 0),.d (.int .u8 0),.d (.int .u8 0),.d (.int .u8 0),.d (.int .u8 0),.d (.int .u8 0),.d (.int .u8 0),.d (.int .u8 0),.d (.int .u8 0),.d (.int .u8 0),.d (.int .u8 0),.d (.int .u8 0),.d (.int .u8 0),.d (.int .u8 0),.d (.int .u8 0),.d (.int .u8 0),.d (.int .u8 0),.d (.int .u8 0),.d (.int .u8 0),.d (.int .u8 0),.d (.int .u8 0),.d (.int .u8 0),.d (.int .u8 0),.d (.int .u8 0),.d (.int .u8 0),.d (.int .u8 0),.d (.int .u8 0),.d (.int .u8 0),.d (.int .u8 0),.d (.int .u8 0),.d (.int .u8 0),.d (.int .u8 0),.d (.int .u8 0),.d (.int .u8 0),.d (.int .u8 0),.d (.int .u8 0),.d (.int .u8 0),.d (.int .u8 0),.d (.int .u8 0),.d (.int .u8 0),.d (.int .u8 0),.d (.int .u8 0),.d (.int .u8 0),.d (.int .u8 0),.d (.int .u8 0),.d (.int .u8 0),.d (.int .u8 0),.d (.int .u8 0),.d (.int .u8 0),.d (.int .u8 0),.d (.int .u8 0),.d (.int .u8 0),.d (.int .u8 0),.d (.int .u8 0),.d (.int .u8 0),.d (.int .u8 0),.d (.int .u8 0),.d (.int .u8 0),.d (.int .u8 0),.d (.int .u8 0),.d (.int .u8 0),.d (.int .u8 0),.d (.int .u8 0),.d (.int .u8 0),.d (.int .u8 0),.d (.int .u8 0),.d (.int .u8 0),.d (.int .u8 0),.d (.int .u8 0),.d (.int .u8 0),.d (.int .u8 0),.d (.int .u8 0),.d (.int .u8 0),.d (.int .u8 0),.d (.int .u8 0),.d (.int .u8 0),.d (.int .u8 0),.d (.int .u8 0),.d (.int .u8 0),.d (.int .u8 0),.d (.int .u8 0),.d (.int .u8 0),.d (.int .u8 0),.d (.int .u8 0),.d (.int .u8 0),.d (.int .u8 0),.d (.int .u8 0),.d (.int .u8 0),.d (.int .u8 0),.d (.int .u8 0),.d (.int .u8 0),.d (.int .u8 0),.d (.int .u8 0),.d (.int .u8 0),.d (.int .u8 0),.d (.int .u8 0),.d (.int .u8 0),.d (.int .u8 0),.d (.int .u8 0),.d (.int .u8 0),.d (.int .u8 0),.d (.int .u8 0),.d (.int .u8 0),.d (.int .u8 0),.d (.int .u8 0),.d (.int .u8 0),.d (.int .u8 0),.d (.int .u8 0),.d (.int .u8 0),.d (.int .u8 0),.d (.int .u8 0),.d (.int .u8 0),.d (.int .u8 0),.d (.int .u8 0),.d (.int .u8 0),.d (.int .u8 0),.d (.int .u8 0),.d (.int .u8 0),.d (.int .u8 0),.d (.int .u8 0),.d (.int .u8 0),.d (.int .u8 0),.d (.int .u8 0),.d (.int .u8 0),.d (.int .u8 0),.d (.int .u8 0),.d (.int .u8 0),.d (.int .u8 0),.d (.int .u8 0),.d (.int .u8 0),.d (.int .u8 0),.d (.int .u8 0),.d (.int .u8 0),.d (.int .u8 0),.d (.int .u8 0),.d (.int .u8 0),.d (.int .u8 0),.d (.int .u8 0),.d (.int .u8 0),.d (.int .u8 0),.d (.int .u8 0),.d (.int .u8 0),.d (.int .u8 0),.d (.int .u8 0),.d (.int .u8 0),.d (.int .u8 0),.d (.int .u8 0),.d (.int .u8 0),.d (.int .u8 0),.d (.int .u8 0),.d (.int .u8 0),.d (.int .u8 0),.d (.int .u8 0),.d (.int .u8 0),.d (.int .u8 0),.d (.int .u8 0),.d (.int .u8 0),.d (.int .u8 0),.d (.int .u8 0),.d (.int .u8 0),.d (.int .u8 0),.d (.int .u8 0),.d (.int .u8 0),.d (.int .u8 0),.d (.int .u8 0),.d (.int .u8 0),.d (.int .u8 0),.d (.int .u8 0),.d (.int .u8 0),.d (.int .u8 0),.d (.int .u8 0),.d (.int .u8 0),.d (.int .u8 0),.d (.int .u8 0),.d (.int .u8 0),.d (.int .u8 0),.d (.int .u8 0),.d (.int .u8 0),.d (.int .u8 0),.d (.int .u8 0),.d (.int .u8 0),.d (.int .u8 0),.d (.int .u8 0),.d (.int .u8 0),.d (.int .u8 0),.d (.int .u8 0),.d (.int .u8 0),.d (.int .u8 0),.d (.int .u8 0),.d (.int .u8 0),.d (.int .u8 0),.d (.int .u8 0),.d (.int .u8 0),.d (.int .u8 0)])])
abbrev Bg:VC:=(.reg false [
 V 3 (.alloc [.d (.int .i64 0),.d (.int .i64 0),.d (.int .i64 0),.d (.int .i64 0)])])
abbrev Bp:VC:=(.reg false [
 V 10 (.fa 0 (.s 1)),
 V 11 (.ld none 0 (.m 10)),
 V 12 (.mov (.c (.d (.int .i64 0))))])
abbrev Cb:VC:=(.reg false [
 V 13 (.bin .lss (.s 12) (.s 11))])
abbrev Bx:VC:=(.reg false [
 V 14 (.mov (.s 12)),
 V 4 (.mov (.m 14))])
abbrev BP:VC:=(.reg false [
 V 15 (.mov (.m 4)),
 V 16 (.fa 1 (.s 1)),
 V 17 (.ld none 0 (.m 16)),
 V 18 (.iarr 4 1 (.s 3) (.m 15)),
 N (.st 1 (.m 18) (.m 17))])
abbrev Bd:VC:=(.reg false [
 V 19 (.bin .add (.m 12) (.c (.d (.int .i64 1)))),
 V 12 (.mov (.m 19))])
def gv:VC:=(.seq Cb
 (.seq (.cond (.m 13)
 .skip
 (.seq (K [11,12]) (.exit 0)))
 (.seq (.block 1
 (.seq Bx
 BP))
 Bd)))
abbrev BT:VC:=(.reg false [
 V 20 (.ld (some 4) 0 (.s 1)),
 V 21 (.call dw [.m 20]),
 V 22 (.mov (.c (.d (.int .i64 0))))])
abbrev AO:VC:=(.reg false [
 V 23 (.bin .lss (.s 22) (.s 21))])
abbrev Co:VC:=(.reg false [
 V 24 (.mov (.s 22)),
 V 5 (.mov (.m 24))])
abbrev Ai:VC:=(.reg false [
 V 6 (.mov (.c (.d (.int .i64 0))))])
abbrev zX:VC:=(.reg false [
 V 25 (.fa 0 (.s 1)),
 V 26 (.ld none 0 (.m 25)),
 V 27 (.slarr 4 (.s 3) none (some (.m 26)) none),
 V 28 (.len (.s 27)),
 V 29 (.mov (.c (.d (.int .i64 0))))])
abbrev zE:VC:=(.reg false [
 V 30 (.bin .lss (.s 29) (.s 28))])
abbrev z8:VC:=(.reg false [
 V 31 (.ia 1 (.s 27) (.s 29)),
 V 32 (.ld none 0 (.m 31)),
 V 8 (.mov (.m 32))])
abbrev zJ:VC:=(.reg false [
 V 33 (.mov (.m 6)),
 V 34 (.mov (.s 8)),
 V 35 (.mov (.m 8)),
 V 36 (.un .neg (.m 35)),
 V 37 (.minmax true [.m 34,.m 36]),
 V 38 (.bin .add (.m 33) (.m 37)),
 V 6 (.mov (.m 38))])
abbrev zQ:VC:=(.reg false [
 V 39 (.bin .add (.m 29) (.c (.d (.int .i64 1)))),
 V 29 (.mov (.m 39))])
def gz:VC:=(.seq zE
 (.seq (.cond (.m 30)
 .skip
 (.seq (K [27,28,29]) (.exit 4)))
 (.seq (.block 5
 (.seq z8
 zJ))
 zQ)))
abbrev Ae:VC:=(.reg false [
 V 40 (.mov (.m 5)),
 V 41 (.mov (.m 6)),
 V 42 (.conv .u8 (.m 41)),
 V 43 (.iarr 289 1 (.s 2) (.m 40)),
 N (.st 1 (.m 43) (.m 42))])
abbrev zA:VC:=(.reg false [
 V 44 (.fa 0 (.s 1)),
 V 45 (.ld none 0 (.m 44)),
 V 46 (.bin .sub (.m 45) (.c (.d (.int .i64 1)))),
 V 9 (.mov (.m 46))])
abbrev zm:VC:=(.reg false [
 V 47 (.mov (.s 9)),
 V 48 (.bin .geq (.m 47) (.c (.d (.int .i64 0))))])
abbrev zD:VC:=(.reg false [
 V 51 (.mov (.s 9)),
 V 52 (.iarr 4 1 (.s 3) (.s 51)),
 V 53 (.ld none 0 (.m 52)),
 V 54 (.bin .add (.m 53) (.c (.d (.int .i64 1)))),
 V 55 (.iarr 4 1 (.s 3) (.m 51)),
 N (.st 1 (.m 55) (.m 54))])
abbrev As:VC:=(.reg true [
 V 56 (.mov (.s 9)),
 V 57 (.iarr 4 1 (.s 3) (.m 56)),
 V 58 (.ld none 0 (.m 57)),
 V 59 (.fa 2 (.s 1)),
 V 60 (.ld none 0 (.m 59)),
 V 61 (.bin .leq (.m 58) (.m 60))])
abbrev zw:VC:=(.reg false [
 V 62 (.mov (.s 9)),
 V 63 (.fa 1 (.s 1)),
 V 64 (.ld none 0 (.m 63)),
 V 65 (.iarr 4 1 (.s 3) (.m 62)),
 N (.st 1 (.m 65) (.m 64))])
abbrev zx:VC:=(.reg false [
 V 49 (.mov (.m 9)),
 V 50 (.bin .sub (.m 49) (.c (.d (.int .i64 1)))),
 V 9 (.mov (.m 50))])
def gw:VC:=(.seq (.seq zm
 (.cond (.m 48)
 .skip
 (.seq (K [9]) (.exit 6))))
 (.seq (.block 7
 (.seq (.seq zD
 (.seq As
 (.cond (.m 61)
 (.seq (K [9]) (.exit 6))
 .skip)))
 zw))
 zx))
abbrev z4:VC:=(.reg false [
 V 66 (.bin .add (.m 22) (.c (.d (.int .i64 1)))),
 V 22 (.mov (.m 66))])
def gp:VC:=(.seq AO
 (.seq (.cond (.m 23)
 .skip
 (.seq (.seq (K [3,21,22]) (F 1)) (.exit 2)))
 (.seq (.block 3
 (.seq Co
 (.seq Ai
 (.seq (.seq zX
 (.block 4
 (.seq (.loop gz) (K [27,28,29]))))
 (.seq Ae
 (.seq zA
 (.block 6
 (.seq (.loop gw) (K [9])))))))))
 z4)))
def mt:af:=⟨1,[.cell 2 (some 289)],
 (.seq jN
 (.seq Bg
 (.seq (.seq Bp
 (.block 0
 (.seq (.loop gv) (K [11,12]))))
 (.seq (.seq BT
 (.block 2
 (.seq (.loop gp) (.seq (K [3,21,22]) (F 1)))))
 .ret))))⟩
abbrev oK:VC:=(.reg false [
 V 4 (.mov (.s 0)),
 V 5 (.mov (.m 0)),
 ⟨some 6,none,.len (.m 5),[(0,0)]⟩,
 V 7 (.mov (.m 1)),
 V 8 (.calli fW [.m 4,.m 6,.m 7]),
 N (.kill [8])])
def fg:af:=⟨2,[],
 oK⟩
abbrev LI:VC:=(.reg false [
 V 5 (.mov (.c (.d (.int .i64 0)))),
 N (.kill [5])])
abbrev L6:VC:=(.reg true [
 V 6 (.mov (.m 0)),
 V 7 (.iarr 289 1 (.s 2) (.m 6)),
 V 8 (.ld none 0 (.m 7)),
 V 9 (.mov (.m 1)),
 V 10 (.iarr 289 1 (.s 2) (.m 9)),
 V 11 (.ld none 0 (.m 10)),
 V 12 (.call kg [.m 8,.m 11]),
 V 5 (.mov (.m 12))])
def vx:af:=⟨3,[.tmp 5],
 (.seq LI
 (.seq (.seq L6 (K [2]))
 .ret))⟩
abbrev yk:VC:=(.reg false [
 V 4 (.mov (.c (.d (.int .i64 0)))),
 N (.kill [4])])
abbrev yX:VC:=(.reg false [
 V 7 (.mov (.s 0)),
 V 8 (.call jd [.m 7]),
 V 5 (.mov (.m 8))])
abbrev xQ:VC:=(.reg false [
 V 9 (.mov (.s 1)),
 V 10 (.call jd [.m 9]),
 V 6 (.mov (.m 10))])
abbrev yJ:VC:=(.reg false [
 V 11 (.mov (.m 5))])
abbrev yz:VC:=(.reg false [
 V 12 (.mov (.m 6))])
abbrev xZ:VC:=(.reg false [
 V 4 (.mov (.c (.d (.int .i64 0))))])
abbrev yM:VC:=(.reg false [
 V 4 (.mov (.c (.d (.int .i64 (-1)))))])
abbrev yQ:VC:=(.reg false [
 V 13 (.mov (.m 6))])
abbrev y4:VC:=(.reg false [
 V 4 (.mov (.c (.d (.int .i64 1))))])
abbrev yd:VC:=(.reg false [
 V 14 (.mov (.s 0)),
 V 15 (.mov (.s 1)),
 V 16 (.bin .lss (.m 14) (.m 15))])
abbrev xe:VC:=(.reg false [
 V 4 (.mov (.c (.d (.int .i64 (-1)))))])
abbrev w9:VC:=(.reg false [
 V 17 (.mov (.m 0)),
 V 18 (.mov (.m 1)),
 V 19 (.bin .gtr (.m 17) (.m 18))])
abbrev xd:VC:=(.reg false [
 V 4 (.mov (.c (.d (.int .i64 1))))])
abbrev xa:VC:=(.reg false [
 V 4 (.mov (.c (.d (.int .i64 0))))])
def kf:af:=⟨2,[.tmp 4],
 (.seq yk
 (.seq yX
 (.seq xQ
 (.seq (.seq yJ
 (.cond (.m 11)
 (.seq (K [0,1]) (.seq (.seq yz
 (.cond (.m 12)
 (.seq xZ
 .ret)
 .skip))
 (.seq yM
 .ret)))
 .skip))
 (.seq (.seq yQ
 (.cond (.m 13)
 (.seq (K [0,1]) (.seq y4
 .ret))
 .skip))
 (.seq (.seq yd
 (.cond (.m 16)
 (.seq (K [0,1]) (.seq xe
 .ret))
 .skip))
 (.seq (.seq w9
 (.cond (.m 19)
 (.seq xd
 .ret)
 .skip))
 (.seq xa
 .ret))))))))⟩
abbrev ul:VC:=(.reg false [
 V 4 (.mov (.c (.d (.int .i64 0)))),
 N (.kill [4])])
abbrev tF:VC:=(.reg false [
 V 6 (.mov (.s 0)),
 V 7 (.len (.m 6)),
 V 8 (.mov (.c (.d (.int .i64 0))))])
abbrev tG:VC:=(.reg false [
 V 9 (.bin .lss (.s 8) (.s 7))])
abbrev tN:VC:=(.reg false [
 V 10 (.mov (.s 8)),
 V 5 (.mov (.m 10))])
abbrev tO:VC:=(.reg false [
 V 11 (.mov (.s 1)),
 V 12 (.mov (.s 0)),
 V 13 (.mov (.s 5)),
 V 14 (.ia 1 (.m 12) (.m 13)),
 V 15 (.ld none 0 (.m 14)),
 V 16 (.callv (.m 11) [.m 15])])
abbrev tT:VC:=(.reg false [
 V 17 (.mov (.m 5)),
 V 4 (.mov (.m 17))])
abbrev tR:VC:=(.reg false [
 V 18 (.bin .add (.m 8) (.c (.d (.int .i64 1)))),
 V 8 (.mov (.m 18))])
def bH:VC:=(.seq tG
 (.seq (.cond (.m 9)
 .skip
 (.seq (K [0,1,7,8]) (.exit 0)))
 (.seq (.block 1
 (.seq tN
 (.seq tO
 (.cond (.m 16)
 (.seq (K [0,1,7,8]) (.seq tT
 .ret))
 (.seq (K [5]) .skip)))))
 tR)))
abbrev t8:VC:=(.reg false [
 V 4 (.mov (.c (.d (.int .i64 (-1)))))])
def eY:af:=⟨2,[.tmp 4],
 (.seq ul
 (.seq (.seq tF
 (.block 0
 (.seq (.loop bH) (K [0,1,7,8]))))
 (.seq t8
 .ret)))⟩
abbrev Pd:VC:=(.reg false [
 V 0 (.alloc [.d (.int .i64 0),.d (.int .i64 0),.d (.int .i64 0),.d (.int .i64 0),.d (.int .i64 0),.d (.int .i64 0),.d (.int .i64 0),.d (.int .i64 0),.d (.int .i64 0),.d (.int .i64 0),.d (.int .i64 0),.d (.int .i64 0),.d (.int .i64 0),.d (.int .i64 0),.d (.int .i64 0),.d (.int .i64 0),.d (.int .i64 0),.d (.int .i64 0),.d (.int .i64 0),.d (.int .i64 0),.d (.int .i64 0),.d (.int .i64 0),.d (.int .i64 0),.d (.int .i64 0),.d (.int .i64 0),.d (.int .i64 0),.d (.int .i64 0),.d (.int .i64 0),.d (.int .i64 0),.d (.int .i64 0),.d (.int .i64 0),.d (.int .i64 0),.d (.int .i64 0),.d (.int .i64 0),.d (.int .i64 0),.d (.int .i64 0),.d (.int .i64 0),.d (.int .i64 0),.d (.int .i64 0),.d (.int .i64 0),.d (.int .i64 0),.d (.int .i64 0),.d (.int .i64 0),.d (.int .i64 0),.d (.int .i64 0),.d (.int .i64 0),.d (.int .i64 0),.d (.int .i64 0),.d (.int .i64 0),.d (.int .i64 0),.d (.int .i64 0),.d (.int .i64 0)])])
abbrev Oy:VC:=(.reg false [
 V 1 (.build [.d (.int .i64 0),.d (.int .i64 0),.d (.int .i64 0),.d (.int .i64 0)] [(0,1,.c (.d (.int .i64 4))),(1,1,.c (.d (.int .i64 (-1)))),(2,1,.c (.d (.int .i64 1))),(3,1,.c (.d (.int .i64 0)))]),
 V 2 (.build [.d (.int .i64 0),.d (.int .i64 0),.d (.int .i64 0),.d (.int .i64 0)] [(0,1,.c (.d (.int .i64 4))),(1,1,.c (.d (.int .i64 (-1)))),(2,1,.c (.d (.int .i64 1))),(3,1,.c (.d (.int .i64 1)))]),
 V 3 (.build [.d (.int .i64 0),.d (.int .i64 0),.d (.int .i64 0),.d (.int .i64 0)] [(0,1,.c (.d (.int .i64 4))),(1,1,.c (.d (.int .i64 0))),(2,1,.c (.d (.int .i64 2))),(3,1,.c (.d (.int .i64 0)))]),
 V 4 (.build [.d (.int .i64 0),.d (.int .i64 0),.d (.int .i64 0),.d (.int .i64 0)] [(0,1,.c (.d (.int .i64 4))),(1,1,.c (.d (.int .i64 0))),(2,1,.c (.d (.int .i64 2))),(3,1,.c (.d (.int .i64 1)))]),
 V 5 (.build [.d (.int .i64 0),.d (.int .i64 0),.d (.int .i64 0),.d (.int .i64 0)] [(0,1,.c (.d (.int .i64 2))),(1,1,.c (.d (.int .i64 (-4)))),(2,1,.c (.d (.int .i64 4))),(3,1,.c (.d (.int .i64 0)))]),
 V 6 (.build [.d (.int .i64 0),.d (.int .i64 0),.d (.int .i64 0),.d (.int .i64 0)] [(0,1,.c (.d (.int .i64 2))),(1,1,.c (.d (.int .i64 (-4)))),(2,1,.c (.d (.int .i64 4))),(3,1,.c (.d (.int .i64 1)))]),
 V 7 (.build [.d (.int .i64 0),.d (.int .i64 0),.d (.int .i64 0),.d (.int .i64 0)] [(0,1,.c (.d (.int .i64 2))),(1,1,.c (.d (.int .i64 0))),(2,1,.c (.d (.int .i64 7))),(3,1,.c (.d (.int .i64 1)))]),
 V 8 (.build [.d (.int .i64 0),.d (.int .i64 0),.d (.int .i64 0),.d (.int .i64 0)] [(0,1,.c (.d (.int .i64 2))),(1,1,.c (.d (.int .i64 0))),(2,1,.c (.d (.int .i64 7))),(3,1,.c (.d (.int .i64 2)))]),
 V 9 (.build [.d (.int .i64 0),.d (.int .i64 0),.d (.int .i64 0),.d (.int .i64 0)] [(0,1,.c (.d (.int .i64 2))),(1,1,.c (.d (.int .i64 0))),(2,1,.c (.d (.int .i64 12))),(3,1,.c (.d (.int .i64 1)))]),
 V 10 (.build [.d (.int .i64 0),.d (.int .i64 0),.d (.int .i64 0),.d (.int .i64 0)] [(0,1,.c (.d (.int .i64 2))),(1,1,.c (.d (.int .i64 0))),(2,1,.c (.d (.int .i64 12))),(3,1,.c (.d (.int .i64 2)))]),
 V 11 (.build [.d (.int .i64 0),.d (.int .i64 0),.d (.int .i64 0),.d (.int .i64 0)] [(0,1,.c (.d (.int .i64 2))),(1,1,.c (.d (.int .i64 0))),(2,1,.c (.d (.int .i64 16))),(3,1,.c (.d (.int .i64 2)))]),
 V 12 (.build [.d (.int .i64 0),.d (.int .i64 0),.d (.int .i64 0),.d (.int .i64 0)] [(0,1,.c (.d (.int .i64 1))),(1,1,.c (.d (.int .i64 (-60)))),(2,1,.c (.d (.int .i64 60))),(3,1,.c (.d (.int .i64 0)))]),
 V 13 (.build [.d (.int .i64 0),.d (.int .i64 0),.d (.int .i64 0),.d (.int .i64 0),.d (.int .i64 0),.d (.int .i64 0),.d (.int .i64 0),.d (.int .i64 0),.d (.int .i64 0),.d (.int .i64 0),.d (.int .i64 0),.d (.int .i64 0),.d (.int .i64 0),.d (.int .i64 0),.d (.int .i64 0),.d (.int .i64 0),.d (.int .i64 0),.d (.int .i64 0),.d (.int .i64 0),.d (.int .i64 0),.d (.int .i64 0),.d (.int .i64 0),.d (.int .i64 0),.d (.int .i64 0),.d (.int .i64 0),.d (.int .i64 0),.d (.int .i64 0),.d (.int .i64 0),.d (.int .i64 0),.d (.int .i64 0),.d (.int .i64 0),.d (.int .i64 0),.d (.int .i64 0),.d (.int .i64 0),.d (.int .i64 0),.d (.int .i64 0),.d (.int .i64 0),.d (.int .i64 0),.d (.int .i64 0),.d (.int .i64 0),.d (.int .i64 0),.d (.int .i64 0),.d (.int .i64 0),.d (.int .i64 0),.d (.int .i64 0),.d (.int .i64 0),.d (.int .i64 0),.d (.int .i64 0),.d (.int .i64 0),.d (.int .i64 0),.d (.int .i64 0),.d (.int .i64 0)] [(4,4,.m 1),(8,4,.m 2),(12,4,.m 3),(16,4,.m 4),(20,4,.m 5),(24,4,.m 6),(28,4,.m 7),(32,4,.m 8),(36,4,.m 9),(40,4,.m 10),(44,4,.m 11),(48,4,.m 12)]),
 N (.st 52 (.s 0) (.m 13))])
def Wt:af:=⟨0,[.cell 0 (some 52)],
 (.seq Pd
 (.seq Oy
 .ret))⟩
abbrev Bl:VC:=(.reg false [
 V 4 (.mov (.c (.d (.int .u32 0)))),
 V 5 (.mov (.c (.d (.int .u32 0)))),
 N (.kill [4,5])])
abbrev A0:VC:=(.reg false [
 V 7 (.mov (.m 0)),
 V 8 (.conv .u64 (.m 7)),
 V 9 (.mov (.m 1)),
 V 10 (.conv .u64 (.m 9)),
 V 11 (.bin .mul (.m 8) (.m 10)),
 V 6 (.mov (.m 11))])
abbrev AJ:VC:=(.reg false [
 V 12 (.mov (.s 6)),
 V 13 (.bin .shr (.m 12) (.c (.d (.int .u64 32)))),
 V 14 (.conv .u32 (.m 13)),
 V 15 (.mov (.m 6)),
 V 16 (.conv .u32 (.m 15)),
 V 4 (.mov (.m 14)),
 V 5 (.mov (.m 16))])
def GU:af:=⟨2,[.tmp 4,.tmp 5],
 (.seq Bl
 (.seq A0
 (.seq AJ
 .ret)))⟩
abbrev Az:VC:=(.reg false [
 V 4 (.mov (.c (.d (.int .u64 0)))),
 V 5 (.mov (.c (.d (.int .u64 0)))),
 N (.kill [4,5])])
abbrev AR:VC:=(.reg false [
 V 14 (.mov (.s 0)),
 V 15 (.bin .and (.m 14) (.c (.d (.int .u64 4294967295)))),
 V 6 (.mov (.m 15))])
abbrev Ch:VC:=(.reg false [
 V 16 (.mov (.s 0)),
 V 17 (.bin .shr (.m 16) (.c (.d (.int .u64 32)))),
 V 7 (.mov (.m 17))])
abbrev Bc:VC:=(.reg false [
 V 18 (.mov (.s 1)),
 V 19 (.bin .and (.m 18) (.c (.d (.int .u64 4294967295)))),
 V 8 (.mov (.m 19))])
abbrev AF:VC:=(.reg false [
 V 20 (.mov (.s 1)),
 V 21 (.bin .shr (.m 20) (.c (.d (.int .u64 32)))),
 V 9 (.mov (.m 21))])
abbrev AX:VC:=(.reg false [
 V 22 (.mov (.s 6)),
 V 23 (.mov (.s 8)),
 V 24 (.bin .mul (.m 22) (.m 23)),
 V 10 (.mov (.m 24))])
abbrev BY:VC:=(.reg false [
 V 25 (.mov (.s 7)),
 V 26 (.mov (.m 8)),
 V 27 (.bin .mul (.m 25) (.m 26)),
 V 28 (.mov (.m 10)),
 V 29 (.bin .shr (.m 28) (.c (.d (.int .u64 32)))),
 V 30 (.bin .add (.m 27) (.m 29)),
 V 11 (.mov (.m 30))])
abbrev Be:VC:=(.reg false [
 V 31 (.mov (.s 11)),
 V 32 (.bin .and (.m 31) (.c (.d (.int .u64 4294967295)))),
 V 12 (.mov (.m 32))])
abbrev Bv:VC:=(.reg false [
 V 33 (.mov (.m 11)),
 V 34 (.bin .shr (.m 33) (.c (.d (.int .u64 32)))),
 V 13 (.mov (.m 34))])
abbrev Bf:VC:=(.reg false [
 V 35 (.mov (.m 12)),
 V 36 (.mov (.m 6)),
 V 37 (.mov (.s 9)),
 V 38 (.bin .mul (.m 36) (.m 37)),
 V 39 (.bin .add (.m 35) (.m 38)),
 V 12 (.mov (.m 39))])
abbrev Ap:VC:=(.reg false [
 V 40 (.mov (.m 7)),
 V 41 (.mov (.m 9)),
 V 42 (.bin .mul (.m 40) (.m 41)),
 V 43 (.mov (.m 13)),
 V 44 (.bin .add (.m 42) (.m 43)),
 V 45 (.mov (.m 12)),
 V 46 (.bin .shr (.m 45) (.c (.d (.int .u64 32)))),
 V 47 (.bin .add (.m 44) (.m 46)),
 V 4 (.mov (.m 47))])
abbrev zI:VC:=(.reg false [
 V 48 (.mov (.m 0)),
 V 49 (.mov (.m 1)),
 V 50 (.bin .mul (.m 48) (.m 49)),
 V 5 (.mov (.m 50))])
def Gs:af:=⟨2,[.tmp 4,.tmp 5],
 (.seq Az
 (.seq AR
 (.seq Ch
 (.seq Bc
 (.seq AF
 (.seq AX
 (.seq BY
 (.seq Be
 (.seq Bv
 (.seq Bf
 (.seq Ap
 (.seq zI
 .ret))))))))))))⟩
abbrev ql:VC:=(.reg false [
 V 6 (.mov (.c (.d (.int .i64 20))))])
abbrev qr:VC:=(.reg false [
 V 10 (.mov (.s 6)),
 V 7 (.mov (.c (.d (.int .i64 0)))),
 V 8 (.mov (.m 10))])
abbrev qo:VC:=(.reg false [
 V 11 (.mov (.s 8)),
 V 12 (.mov (.s 1)),
 V 13 (.bin .leq (.m 11) (.m 12))])
abbrev qq:VC:=(.reg false [
 V 14 (.mov (.s 0)),
 V 15 (.mov (.m 7)),
 V 16 (.mov (.s 8)),
 V 17 (.mov (.s 2)),
 V 18 (.calli cH [.m 14,.m 15,.m 16,.m 17]),
 N (.kill [18])])
abbrev qE:VC:=(.reg false [
 V 19 (.mov (.s 8)),
 V 7 (.mov (.m 19))])
abbrev qt:VC:=(.reg false [
 V 20 (.mov (.m 8)),
 V 21 (.mov (.s 6)),
 V 22 (.bin .add (.m 20) (.m 21)),
 V 8 (.mov (.m 22))])
def dj:VC:=(.seq (.seq qo
 (.cond (.m 13)
 .skip
 (.seq (K [8]) (.exit 0))))
 (.block 1
 (.seq qq
 (.seq qE
 qt))))
abbrev qR:VC:=(.reg false [
 V 23 (.mov (.s 0)),
 V 24 (.mov (.m 7)),
 V 25 (.mov (.s 1)),
 V 26 (.mov (.s 2)),
 V 27 (.calli cH [.m 23,.m 24,.m 25,.m 26]),
 N (.kill [27])])
abbrev qz:VC:=(.reg false [
 V 28 (.mov (.s 6)),
 V 29 (.mov (.s 1)),
 V 30 (.bin .lss (.m 28) (.m 29))])
abbrev qP:VC:=(.reg false [
 V 31 (.mov (.s 6)),
 V 32 (.bin .mul (.c (.d (.int .i64 2))) (.m 31)),
 V 7 (.mov (.c (.d (.int .i64 0)))),
 V 8 (.mov (.m 32))])
abbrev qL:VC:=(.reg false [
 V 33 (.mov (.s 8)),
 V 34 (.mov (.s 1)),
 V 35 (.bin .leq (.m 33) (.m 34))])
abbrev pn:VC:=(.reg false [
 V 36 (.mov (.s 0)),
 V 37 (.mov (.s 7)),
 V 38 (.mov (.m 7)),
 V 39 (.mov (.s 6)),
 V 40 (.bin .add (.m 38) (.m 39)),
 V 41 (.mov (.s 8)),
 V 42 (.mov (.s 2)),
 V 43 (.calli aw [.m 36,.m 37,.m 40,.m 41,.m 42]),
 N (.kill [43])])
abbrev pL:VC:=(.reg false [
 V 44 (.mov (.s 8)),
 V 7 (.mov (.m 44))])
abbrev qd:VC:=(.reg false [
 V 45 (.mov (.m 8)),
 V 46 (.mov (.s 6)),
 V 47 (.bin .mul (.c (.d (.int .i64 2))) (.m 46)),
 V 48 (.bin .add (.m 45) (.m 47)),
 V 8 (.mov (.m 48))])
def di:VC:=(.seq (.seq qL
 (.cond (.m 35)
 .skip
 (.seq (K [8]) (.exit 4))))
 (.block 5
 (.seq pn
 (.seq pL
 qd))))
abbrev pE:VC:=(.reg false [
 V 49 (.mov (.s 7)),
 V 50 (.mov (.s 6)),
 V 51 (.bin .add (.m 49) (.m 50)),
 V 9 (.mov (.m 51))])
abbrev pW:VC:=(.reg false [
 V 52 (.mov (.s 9)),
 V 53 (.mov (.s 1)),
 V 54 (.bin .lss (.m 52) (.m 53))])
abbrev pZ:VC:=(.reg false [
 V 55 (.mov (.s 0)),
 V 56 (.mov (.m 7)),
 V 57 (.mov (.m 9)),
 V 58 (.mov (.s 1)),
 V 59 (.mov (.s 2)),
 V 60 (.calli aw [.m 55,.m 56,.m 57,.m 58,.m 59]),
 N (.kill [60])])
abbrev pH:VC:=(.reg false [
 V 61 (.mov (.m 6)),
 V 62 (.bin .mul (.m 61) (.c (.d (.int .i64 2)))),
 V 6 (.mov (.m 62))])
def dk:VC:=(.seq (.seq qz
 (.cond (.m 30)
 .skip
 (.seq (K [0,1,2,6]) (.exit 2))))
 (.block 3
 (.seq qP
 (.seq (.block 4
 (.seq (.loop di) (K [8])))
 (.seq (.seq pE
 (.seq pW
 (.cond (.m 54)
 pZ
 (.seq (K [7,9]) .skip))))
 pH)))))
def gg:af:=⟨3,[],
 (.seq ql
 (.seq qr
 (.seq (.block 0
 (.seq (.loop dj) (K [8])))
 (.seq qR
 (.block 2
 (.seq (.loop dk) (K [0,1,2,6])))))))⟩
abbrev BC:VC:=(.reg false [
 V 2 (.mov (.c (.d (.bool false)))),
 N (.kill [2])])
abbrev BL:VC:=(.reg false [
 V 3 (.mov (.s 0)),
 V 4 (.mov (.m 0)),
 V 5 (.bin .neq (.m 3) (.m 4)),
 V 2 (.mov (.m 5))])
def mq:af:=⟨1,[.tmp 2],
 (.seq BC
 (.seq BL
 .ret))⟩
abbrev kV:VC:=(.reg false [
 V 10 (.mov (.s 1)),
 V 11 (.bin .add (.m 10) (.c (.d (.int .i64 1)))),
 V 8 (.mov (.m 11))])
abbrev kY:VC:=(.reg false [
 V 12 (.mov (.s 8)),
 V 13 (.mov (.s 2)),
 V 14 (.bin .lss (.m 12) (.m 13))])
abbrev kK:VC:=(.reg false [
 V 17 (.mov (.s 8)),
 V 9 (.mov (.m 17))])
def fw:VC:=(.regP [0,1,2,3,4,5,6,7,8,9,10,11,12,13,14,15,16] [0,1,2,3,4,5,6,7,8,9,10,11,12,13,14,15,16] [] [
 V 18 (.mov (.s 9)),
 V 19 (.mov (.s 1)),
 V 20 (.bin .gtr (.m 18) (.m 19)),
 V 21 (.mov (.m 20)),
 W 21 22 (.mov (.s 3)),
 W 21 23 (.mov (.s 0)),
 W 21 24 (.mov (.s 9)),
 W 21 25 (.ia 1 (.s 23) (.s 24)),
 W 21 26 (.ld none 0 (.s 25)),
 W 21 27 (.mov (.s 0)),
 W 21 28 (.mov (.s 9)),
 W 21 29 (.bin .sub (.s 28) (.c (.d (.int .i64 1)))),
 W 21 30 (.ia 1 (.s 27) (.s 29)),
 W 21 31 (.ld none 0 (.s 30)),
 W 21 32 (.callv (.s 22) [.s 26,.s 31]),
 W 21 33 (.bin .lss (.s 32) (.c (.d (.int .i64 0)))),
 V 34 (.pick (.s 21) (.s 33) (.c (.d (.bool false))))])
def fG:VC:=(.regP [0,1,2,3,4,5,6,7,8,9,10,11,12,13,14,15,16,17] [0,1,5,6,7,8,9,10,11,12,13,14,15,2,3,4,16,17] [] [
 V 37 (.mov (.s 0)),
 V 38 (.mov (.s 9)),
 V 39 (.mov (.s 0)),
 V 40 (.mov (.s 9)),
 V 41 (.bin .sub (.m 40) (.c (.d (.int .i64 1)))),
 V 42 (.mov (.s 0)),
 V 43 (.mov (.s 9)),
 V 44 (.bin .sub (.m 43) (.c (.d (.int .i64 1)))),
 V 45 (.ia 1 (.m 42) (.m 44)),
 V 46 (.ld none 0 (.m 45)),
 V 47 (.mov (.s 0)),
 V 48 (.mov (.s 9)),
 V 49 (.ia 1 (.m 47) (.m 48)),
 V 50 (.ld none 0 (.m 49)),
 V 51 (.ia 1 (.m 37) (.m 38)),
 N (.st 1 (.m 51) (.m 46)),
 V 52 (.ia 1 (.m 39) (.m 41)),
 N (.st 1 (.m 52) (.m 50))])
abbrev kZ:VC:=(.reg false [
 V 35 (.mov (.m 9)),
 V 36 (.bin .sub (.m 35) (.c (.d (.int .i64 1)))),
 V 9 (.mov (.m 36))])
def cm:VC:=(.seq (.seq (.seq fw (K [21,22,23,24,25,26,27,28,29,30,31,32,33]))
 (.cond (.m 34)
 .skip
 (.seq (K [9]) (.exit 2))))
 (.seq (.block 3
 fG)
 kZ))
abbrev kT:VC:=(.reg false [
 V 15 (.mov (.m 8)),
 V 16 (.bin .add (.m 15) (.c (.d (.int .i64 1)))),
 V 8 (.mov (.m 16))])
def b8:VC:=(.seq (.seq kY
 (.cond (.m 14)
 .skip
 (.seq (K [0,1,2,3,8]) (.exit 0))))
 (.seq (.block 1
 (.seq kK
 (.block 2
 (.seq (.loop cm) (K [9])))))
 kT))
def dS:af:=⟨4,[],
 (.seq kV
 (.block 0
 (.seq (.loop b8) (K [0,1,2,3,8]))))⟩
abbrev oG:VC:=(.reg false [
 V 25 (.mov (.s 2)),
 V 26 (.mov (.s 1)),
 V 27 (.bin .sub (.m 25) (.m 26)),
 V 28 (.bin .eql (.m 27) (.c (.d (.int .i64 1))))])
abbrev oH:VC:=(.reg false [
 V 29 (.mov (.m 2)),
 V 10 (.mov (.m 29))])
abbrev oL:VC:=(.reg false [
 V 30 (.mov (.m 3)),
 V 11 (.mov (.m 30))])
abbrev oC:VC:=(.reg false [
 V 31 (.mov (.s 10)),
 V 32 (.mov (.s 11)),
 V 33 (.bin .lss (.m 31) (.m 32))])
abbrev oE:VC:=(.reg false [
 V 34 (.mov (.s 10)),
 V 35 (.mov (.s 11)),
 V 36 (.bin .add (.m 34) (.m 35)),
 V 37 (.conv .u64 (.m 36)),
 V 38 (.bin .shr (.m 37) (.c (.d (.int .u64 1)))),
 V 39 (.conv .i64 (.m 38)),
 V 12 (.mov (.m 39))])
def iv:VC:=(.regP [0,1,2,3,4,5,6,7,8,9,10] [0,1,2,3,4,5,6,7,8,9,10] [] [
 V 40 (.mov (.s 4)),
 V 41 (.mov (.s 0)),
 V 42 (.mov (.s 12)),
 V 43 (.ia 1 (.m 41) (.m 42)),
 V 44 (.ld none 0 (.m 43)),
 V 45 (.mov (.s 0)),
 V 46 (.mov (.s 1)),
 V 47 (.ia 1 (.m 45) (.m 46)),
 V 48 (.ld none 0 (.m 47)),
 V 49 (.callv (.m 40) [.m 44,.m 48]),
 V 50 (.bin .lss (.m 49) (.c (.d (.int .i64 0))))])
abbrev oI:VC:=(.reg false [
 V 51 (.mov (.m 12)),
 V 52 (.bin .add (.m 51) (.c (.d (.int .i64 1)))),
 V 10 (.mov (.m 52))])
abbrev oF:VC:=(.reg false [
 V 53 (.mov (.m 12)),
 V 11 (.mov (.m 53))])
def cU:VC:=(.seq (.seq oC
 (.cond (.m 33)
 .skip
 (.seq (K [4,11]) (.exit 0))))
 (.block 1
 (.seq oE
 (.seq iv
 (.cond (.m 50)
 (.seq (K [10]) oI)
 (.seq (K [11]) oF))))))
abbrev oD:VC:=(.reg false [
 V 54 (.mov (.m 1)),
 V 13 (.mov (.m 54))])
abbrev oJ:VC:=(.reg false [
 V 55 (.mov (.s 13)),
 V 56 (.mov (.s 10)),
 V 57 (.bin .sub (.m 56) (.c (.d (.int .i64 1)))),
 V 58 (.bin .lss (.m 55) (.m 57))])
def ie:VC:=(.regP [0,1,2,3,4,5,6,7,8,9,10,11,12,13,14,15,16,17] [0,1,5,6,7,8,9,10,11,12,13,14,15,2,3,4,16,17] [] [
 V 61 (.mov (.s 0)),
 V 62 (.mov (.s 13)),
 V 63 (.mov (.s 0)),
 V 64 (.mov (.s 13)),
 V 65 (.bin .add (.m 64) (.c (.d (.int .i64 1)))),
 V 66 (.mov (.s 0)),
 V 67 (.mov (.s 13)),
 V 68 (.bin .add (.m 67) (.c (.d (.int .i64 1)))),
 V 69 (.ia 1 (.m 66) (.m 68)),
 V 70 (.ld none 0 (.m 69)),
 V 71 (.mov (.s 0)),
 V 72 (.mov (.s 13)),
 V 73 (.ia 1 (.m 71) (.m 72)),
 V 74 (.ld none 0 (.m 73)),
 V 75 (.ia 1 (.m 61) (.m 62)),
 N (.st 1 (.m 75) (.m 70)),
 V 76 (.ia 1 (.m 63) (.m 65)),
 N (.st 1 (.m 76) (.m 74))])
abbrev nX:VC:=(.reg false [
 V 59 (.mov (.m 13)),
 V 60 (.bin .add (.m 59) (.c (.d (.int .i64 1)))),
 V 13 (.mov (.m 60))])
def cV:VC:=(.seq (.seq oJ
 (.cond (.m 58)
 .skip
 (.seq (K [0,10,13]) (.exit 2))))
 (.seq (.block 3
 ie)
 nX))
abbrev n8:VC:=(.reg false [
 V 77 (.mov (.s 3)),
 V 78 (.mov (.s 2)),
 V 79 (.bin .sub (.m 77) (.m 78)),
 V 80 (.bin .eql (.m 79) (.c (.d (.int .i64 1))))])
abbrev nx:VC:=(.reg false [
 V 81 (.mov (.m 1)),
 V 14 (.mov (.m 81))])
abbrev nt:VC:=(.reg false [
 V 82 (.mov (.s 2)),
 V 15 (.mov (.m 82))])
abbrev nh:VC:=(.reg false [
 V 83 (.mov (.s 14)),
 V 84 (.mov (.s 15)),
 V 85 (.bin .lss (.m 83) (.m 84))])
abbrev nY:VC:=(.reg false [
 V 86 (.mov (.s 14)),
 V 87 (.mov (.s 15)),
 V 88 (.bin .add (.m 86) (.m 87)),
 V 89 (.conv .u64 (.m 88)),
 V 90 (.bin .shr (.m 89) (.c (.d (.int .u64 1)))),
 V 91 (.conv .i64 (.m 90)),
 V 16 (.mov (.m 91))])
def ib:VC:=(.regP [0,1,2,3,4,5,6,7,8,9,10,11] [0,1,2,3,4,5,6,7,8,9,10,11] [] [
 V 92 (.mov (.s 4)),
 V 93 (.mov (.s 0)),
 V 94 (.mov (.s 2)),
 V 95 (.ia 1 (.m 93) (.m 94)),
 V 96 (.ld none 0 (.m 95)),
 V 97 (.mov (.s 0)),
 V 98 (.mov (.s 16)),
 V 99 (.ia 1 (.m 97) (.m 98)),
 V 100 (.ld none 0 (.m 99)),
 V 101 (.callv (.m 92) [.m 96,.m 100]),
 V 102 (.bin .lss (.m 101) (.c (.d (.int .i64 0)))),
 V 103 (.un .not (.m 102))])
abbrev nM:VC:=(.reg false [
 V 104 (.mov (.m 16)),
 V 105 (.bin .add (.m 104) (.c (.d (.int .i64 1)))),
 V 14 (.mov (.m 105))])
abbrev nJ:VC:=(.reg false [
 V 106 (.mov (.m 16)),
 V 15 (.mov (.m 106))])
def cS:VC:=(.seq (.seq nh
 (.cond (.m 85)
 .skip
 (.seq (K [4,15]) (.exit 4))))
 (.block 5
 (.seq nY
 (.seq ib
 (.cond (.m 103)
 (.seq (K [14]) nM)
 (.seq (K [15]) nJ))))))
abbrev nO:VC:=(.reg false [
 V 107 (.mov (.m 2)),
 V 17 (.mov (.m 107))])
abbrev nK:VC:=(.reg false [
 V 108 (.mov (.s 17)),
 V 109 (.mov (.s 14)),
 V 110 (.bin .gtr (.m 108) (.m 109))])
def hU:VC:=(.regP [0,1,2,3,4,5,6,7,8,9,10,11,12,13,14,15,16,17] [0,1,5,6,7,8,9,10,11,12,13,14,15,2,3,4,16,17] [] [
 V 113 (.mov (.s 0)),
 V 114 (.mov (.s 17)),
 V 115 (.mov (.s 0)),
 V 116 (.mov (.s 17)),
 V 117 (.bin .sub (.m 116) (.c (.d (.int .i64 1)))),
 V 118 (.mov (.s 0)),
 V 119 (.mov (.s 17)),
 V 120 (.bin .sub (.m 119) (.c (.d (.int .i64 1)))),
 V 121 (.ia 1 (.m 118) (.m 120)),
 V 122 (.ld none 0 (.m 121)),
 V 123 (.mov (.s 0)),
 V 124 (.mov (.s 17)),
 V 125 (.ia 1 (.m 123) (.m 124)),
 V 126 (.ld none 0 (.m 125)),
 V 127 (.ia 1 (.m 113) (.m 114)),
 N (.st 1 (.m 127) (.m 122)),
 V 128 (.ia 1 (.m 115) (.m 117)),
 N (.st 1 (.m 128) (.m 126))])
abbrev nG:VC:=(.reg false [
 V 111 (.mov (.m 17)),
 V 112 (.bin .sub (.m 111) (.c (.d (.int .i64 1)))),
 V 17 (.mov (.m 112))])
def cW:VC:=(.seq (.seq nK
 (.cond (.m 110)
 .skip
 (.seq (K [0,14,17]) (.exit 6))))
 (.seq (.block 7
 hU)
 nG))
abbrev nQ:VC:=(.reg false [
 V 129 (.mov (.s 1)),
 V 130 (.mov (.s 3)),
 V 131 (.bin .add (.m 129) (.m 130)),
 V 132 (.conv .u64 (.m 131)),
 V 133 (.bin .shr (.m 132) (.c (.d (.int .u64 1)))),
 V 134 (.conv .i64 (.m 133)),
 V 18 (.mov (.m 134))])
abbrev ni:VC:=(.reg false [
 V 135 (.mov (.s 18)),
 V 136 (.mov (.s 2)),
 V 137 (.bin .add (.m 135) (.m 136)),
 V 19 (.mov (.m 137))])
abbrev n6:VC:=(.reg false [
 V 20 (.mov (.c (.d (.int .i64 0)))),
 V 21 (.mov (.c (.d (.int .i64 0)))),
 N (.kill [20,21])])
abbrev nR:VC:=(.reg false [
 V 138 (.mov (.s 2)),
 V 139 (.mov (.s 18)),
 V 140 (.bin .gtr (.m 138) (.m 139))])
abbrev nv:VC:=(.reg false [
 V 141 (.mov (.s 19)),
 V 142 (.mov (.s 3)),
 V 143 (.bin .sub (.m 141) (.m 142)),
 V 20 (.mov (.m 143))])
abbrev nV:VC:=(.reg false [
 V 144 (.mov (.s 18)),
 V 21 (.mov (.m 144))])
abbrev nf:VC:=(.reg false [
 V 145 (.mov (.s 1)),
 V 20 (.mov (.m 145))])
abbrev nH:VC:=(.reg false [
 V 146 (.mov (.s 2)),
 V 21 (.mov (.m 146))])
abbrev nu:VC:=(.reg false [
 V 147 (.mov (.s 19)),
 V 148 (.bin .sub (.m 147) (.c (.d (.int .i64 1)))),
 V 22 (.mov (.m 148))])
abbrev nA:VC:=(.reg false [
 V 149 (.mov (.s 20)),
 V 150 (.mov (.s 21)),
 V 151 (.bin .lss (.m 149) (.m 150))])
abbrev nN:VC:=(.reg false [
 V 152 (.mov (.s 20)),
 V 153 (.mov (.s 21)),
 V 154 (.bin .add (.m 152) (.m 153)),
 V 155 (.conv .u64 (.m 154)),
 V 156 (.bin .shr (.m 155) (.c (.d (.int .u64 1)))),
 V 157 (.conv .i64 (.m 156)),
 V 23 (.mov (.m 157))])
def ij:VC:=(.regP [0,1,2,3,4,5,6,7,8,9,10,11,12,13] [0,1,2,3,4,5,6,7,8,9,10,11,12,13] [] [
 V 158 (.mov (.s 4)),
 V 159 (.mov (.s 0)),
 V 160 (.mov (.s 22)),
 V 161 (.mov (.s 23)),
 V 162 (.bin .sub (.m 160) (.m 161)),
 V 163 (.ia 1 (.m 159) (.m 162)),
 V 164 (.ld none 0 (.m 163)),
 V 165 (.mov (.s 0)),
 V 166 (.mov (.s 23)),
 V 167 (.ia 1 (.m 165) (.m 166)),
 V 168 (.ld none 0 (.m 167)),
 V 169 (.callv (.m 158) [.m 164,.m 168]),
 V 170 (.bin .lss (.m 169) (.c (.d (.int .i64 0)))),
 V 171 (.un .not (.m 170))])
abbrev nm:VC:=(.reg false [
 V 172 (.mov (.m 23)),
 V 173 (.bin .add (.m 172) (.c (.d (.int .i64 1)))),
 V 20 (.mov (.m 173))])
abbrev ng:VC:=(.reg false [
 V 174 (.mov (.m 23)),
 V 21 (.mov (.m 174))])
def cT:VC:=(.seq (.seq nA
 (.cond (.m 151)
 .skip
 (.seq (K [21,22]) (.exit 8))))
 (.block 9
 (.seq nN
 (.seq ij
 (.cond (.m 171)
 (.seq (K [20]) nm)
 (.seq (K [21]) ng))))))
abbrev nE:VC:=(.reg false [
 V 175 (.mov (.m 19)),
 V 176 (.mov (.s 20)),
 V 177 (.bin .sub (.m 175) (.m 176)),
 V 24 (.mov (.m 177))])
abbrev nb:VC:=(.reg false [
 V 178 (.mov (.s 20)),
 V 179 (.mov (.s 2)),
 V 180 (.bin .lss (.m 178) (.m 179)),
 V 181 (.mov (.m 180)),
 W 181 182 (.mov (.s 2)),
 W 181 183 (.mov (.s 24)),
 W 181 184 (.bin .lss (.s 182) (.s 183)),
 V 185 (.pick (.m 181) (.s 184) (.c (.d (.bool false)))),
 N (.kill [182,183,184])])
abbrev nq:VC:=(.reg false [
 V 186 (.mov (.s 0)),
 V 187 (.mov (.s 20)),
 V 188 (.mov (.m 2)),
 V 189 (.mov (.s 24)),
 V 190 (.mov (.s 4)),
 V 191 (.calli f7 [.m 186,.m 187,.m 188,.m 189,.m 190]),
 N (.kill [191])])
abbrev nD:VC:=(.reg false [
 V 192 (.mov (.s 1)),
 V 193 (.mov (.s 20)),
 V 194 (.bin .lss (.m 192) (.m 193)),
 V 195 (.mov (.m 194)),
 W 195 196 (.mov (.s 20)),
 W 195 197 (.mov (.s 18)),
 W 195 198 (.bin .lss (.s 196) (.s 197)),
 V 199 (.pick (.m 195) (.s 198) (.c (.d (.bool false)))),
 N (.kill [196,197,198])])
abbrev nB:VC:=(.reg false [
 V 200 (.mov (.s 0)),
 V 201 (.mov (.m 1)),
 V 202 (.mov (.m 20)),
 V 203 (.mov (.s 18)),
 V 204 (.mov (.s 4)),
 V 205 (.calli aw [.m 200,.m 201,.m 202,.m 203,.m 204]),
 N (.kill [205])])
abbrev n9:VC:=(.reg false [
 V 206 (.mov (.s 18)),
 V 207 (.mov (.s 24)),
 V 208 (.bin .lss (.m 206) (.m 207)),
 V 209 (.mov (.m 208)),
 W 209 210 (.mov (.s 24)),
 W 209 211 (.mov (.s 3)),
 W 209 212 (.bin .lss (.s 210) (.s 211)),
 V 213 (.pick (.m 209) (.s 212) (.c (.d (.bool false)))),
 N (.kill [210,211,212])])
abbrev nP:VC:=(.reg false [
 V 214 (.mov (.m 0)),
 V 215 (.mov (.m 18)),
 V 216 (.mov (.m 24)),
 V 217 (.mov (.m 3)),
 V 218 (.mov (.m 4)),
 V 219 (.calli aw [.m 214,.m 215,.m 216,.m 217,.m 218]),
 N (.kill [219])])
def bg:af:=⟨5,[],
 (.seq (.seq oG
 (.cond (.m 28)
 (.seq oH
 (.seq oL
 (.seq (.block 0
 (.seq (.loop cU) (K [4,11])))
 (.seq (.seq oD
 (.block 2
 (.seq (.loop cV) (K [0,10,13]))))
 .ret))))
 .skip))
 (.seq (.seq n8
 (.cond (.m 80)
 (.seq (K [3]) (.seq nx
 (.seq nt
 (.seq (.block 4
 (.seq (.loop cS) (K [4,15])))
 (.seq (.seq nO
 (.block 6
 (.seq (.loop cW) (K [0,14,17]))))
 .ret)))))
 .skip))
 (.seq nQ
 (.seq ni
 (.seq n6
 (.seq (.seq nR
 (.cond (.m 140)
 (.seq nv
 nV)
 (.seq nf
 nH)))
 (.seq nu
 (.seq (.block 8
 (.seq (.loop cT) (K [21,22])))
 (.seq nE
 (.seq (.seq nb
 (.cond (.m 185)
 nq
 (.seq (K [2]) .skip)))
 (.seq (.seq nD
 (.cond (.m 199)
 nB
 (.seq (K [1,20]) .skip)))
 (.seq n9
 (.cond (.m 213)
 nP
 (.seq (K [0,3,4,18,24]) .skip))))))))))))))⟩
abbrev qH:VC:=(.reg false [
 V 12 (.mov (.s 2)),
 V 13 (.mov (.m 1)),
 V 14 (.bin .sub (.m 12) (.m 13)),
 V 10 (.mov (.m 14))])
abbrev qO:VC:=(.reg false [
 V 15 (.mov (.m 3)),
 V 16 (.mov (.s 2)),
 V 17 (.bin .sub (.m 15) (.m 16)),
 V 11 (.mov (.m 17))])
abbrev qM:VC:=(.reg false [
 V 18 (.mov (.s 10)),
 V 19 (.mov (.s 11)),
 V 20 (.bin .neq (.m 18) (.m 19))])
abbrev qw:VC:=(.reg false [
 V 21 (.mov (.s 10)),
 V 22 (.mov (.s 11)),
 V 23 (.bin .gtr (.m 21) (.m 22))])
abbrev qx:VC:=(.reg false [
 V 24 (.mov (.s 0)),
 V 25 (.mov (.s 2)),
 V 26 (.mov (.s 10)),
 V 27 (.bin .sub (.m 25) (.m 26)),
 V 28 (.mov (.s 2)),
 V 29 (.mov (.s 11)),
 V 30 (.mov (.s 4)),
 V 31 (.calli cq [.m 24,.m 27,.m 28,.m 29,.m 30]),
 N (.kill [31])])
abbrev qN:VC:=(.reg false [
 V 32 (.mov (.m 10)),
 V 33 (.mov (.s 11)),
 V 34 (.bin .sub (.m 32) (.m 33)),
 V 10 (.mov (.m 34))])
abbrev qu:VC:=(.reg false [
 V 35 (.mov (.s 0)),
 V 36 (.mov (.s 2)),
 V 37 (.mov (.s 10)),
 V 38 (.bin .sub (.m 36) (.m 37)),
 V 39 (.mov (.s 2)),
 V 40 (.mov (.s 11)),
 V 41 (.bin .add (.m 39) (.m 40)),
 V 42 (.mov (.s 10)),
 V 43 (.bin .sub (.m 41) (.m 42)),
 V 44 (.mov (.s 10)),
 V 45 (.mov (.s 4)),
 V 46 (.calli cq [.m 35,.m 38,.m 43,.m 44,.m 45]),
 N (.kill [46])])
abbrev qA:VC:=(.reg false [
 V 47 (.mov (.m 11)),
 V 48 (.mov (.s 10)),
 V 49 (.bin .sub (.m 47) (.m 48)),
 V 11 (.mov (.m 49))])
def eV:VC:=(.seq (.seq qM
 (.cond (.m 20)
 .skip
 (.seq (K [11]) (.exit 0))))
 (.block 1
 (.seq qw
 (.cond (.m 23)
 (.seq qx
 qN)
 (.seq qu
 qA)))))
abbrev qI:VC:=(.reg false [
 V 50 (.mov (.m 0)),
 V 51 (.mov (.s 2)),
 V 52 (.mov (.s 10)),
 V 53 (.bin .sub (.m 51) (.m 52)),
 V 54 (.mov (.m 2)),
 V 55 (.mov (.m 10)),
 V 56 (.mov (.m 4)),
 V 57 (.calli cq [.m 50,.m 53,.m 54,.m 55,.m 56]),
 N (.kill [57])])
def fZ:af:=⟨5,[],
 (.seq qH
 (.seq qO
 (.seq (.block 0
 (.seq (.loop eV) (K [11])))
 qI)))⟩
abbrev nU:VC:=(.reg false [
 V 10 (.mov (.c (.d (.int .i64 0))))])
abbrev nZ:VC:=(.reg false [
 V 11 (.mov (.s 10)),
 V 12 (.mov (.s 3)),
 V 13 (.bin .lss (.m 11) (.m 12))])
def gT:VC:=(.regP [0,1,2,3,4,5,6,7,8,9,10,11,12,13,14,15,16,17,18,19,20,21,22,23] [0,1,2,3,8,9,10,11,12,13,14,15,16,17,18,19,20,21,4,5,6,7,22,23] [] [
 V 16 (.mov (.s 0)),
 V 17 (.mov (.s 1)),
 V 18 (.mov (.s 10)),
 V 19 (.bin .add (.m 17) (.m 18)),
 V 20 (.mov (.s 0)),
 V 21 (.mov (.s 2)),
 V 22 (.mov (.s 10)),
 V 23 (.bin .add (.m 21) (.m 22)),
 V 24 (.mov (.s 0)),
 V 25 (.mov (.s 2)),
 V 26 (.mov (.s 10)),
 V 27 (.bin .add (.m 25) (.m 26)),
 V 28 (.ia 1 (.m 24) (.m 27)),
 V 29 (.ld none 0 (.m 28)),
 V 30 (.mov (.s 0)),
 V 31 (.mov (.s 1)),
 V 32 (.mov (.s 10)),
 V 33 (.bin .add (.m 31) (.m 32)),
 V 34 (.ia 1 (.m 30) (.m 33)),
 V 35 (.ld none 0 (.m 34)),
 V 36 (.ia 1 (.m 16) (.m 19)),
 N (.st 1 (.m 36) (.m 29)),
 V 37 (.ia 1 (.m 20) (.m 23)),
 N (.st 1 (.m 37) (.m 35))])
abbrev nj:VC:=(.reg false [
 V 14 (.mov (.m 10)),
 V 15 (.bin .add (.m 14) (.c (.d (.int .i64 1)))),
 V 10 (.mov (.m 15))])
def cK:VC:=(.seq (.seq nZ
 (.cond (.m 13)
 .skip
 (.seq (K [0,1,2,3,10]) (.exit 0))))
 (.seq (.block 1
 gT)
 nj))
def eX:af:=⟨5,[],
 (.seq (K [4]) (.seq nU
 (.block 0
 (.seq (.loop cK) (K [0,1,2,3,10])))))⟩
def afx:T:=(.node 58 qa (.node 30 wc (.node 16 sq (.node 9 YE (.node 6 lr (.node 4 jg (.node 3 db .leaf .leaf) (.node 5 bf .leaf .leaf)) (.node 8 Bn (.node 7 xI .leaf .leaf) .leaf)) (.node 13 sf (.node 11 wn (.node 10 BE .leaf .leaf) (.node 12 sj .leaf .leaf)) (.node 15 pf (.node 14 rC .leaf .leaf) .leaf))) (.node 23 A7 (.node 20 rR (.node 18 rW (.node 17 wW .leaf .leaf) (.node 19 r8 .leaf .leaf)) (.node 22 AU (.node 21 vE .leaf .leaf) .leaf)) (.node 27 vT (.node 25 rJ (.node 24 yL .leaf .leaf) (.node 26 t4 .leaf .leaf)) (.node 29 p9 (.node 28 uS .leaf .leaf) .leaf)))) (.node 44 ic (.node 37 xT (.node 34 sE (.node 32 YT (.node 31 wV .leaf .leaf) (.node 33 yV .leaf .leaf)) (.node 36 yH (.node 35 yY .leaf .leaf) .leaf)) (.node 41 rl (.node 39 np (.node 38 eW .leaf .leaf) (.node 40 tM .leaf .leaf)) (.node 43 vu (.node 42 yl .leaf .leaf) .leaf))) (.node 51 tK (.node 48 v6 (.node 46 yF (.node 45 jS .leaf .leaf) (.node 47 vp .leaf .leaf)) (.node 50 ua (.node 49 uh .leaf .leaf) .leaf)) (.node 55 nT (.node 53 kN (.node 52 yZ .leaf .leaf) (.node 54 eJ .leaf .leaf)) (.node 57 px (.node 56 oO .leaf .leaf) .leaf))))) (.node 86 pe (.node 72 zy (.node 65 Sy (.node 62 sA (.node 60 rX (.node 59 tZ .leaf .leaf) (.node 61 t9 .leaf .leaf)) (.node 64 xW (.node 63 Ep .leaf .leaf) .leaf)) (.node 69 jq (.node 67 wt (.node 66 Vh .leaf .leaf) (.node 68 yK .leaf .leaf)) (.node 71 pS (.node 70 yP .leaf .leaf) .leaf))) (.node 79 tU (.node 76 dU (.node 74 C7 (.node 73 Ck .leaf .leaf) (.node 75 kh .leaf .leaf)) (.node 78 pO (.node 77 gb .leaf .leaf) .leaf)) (.node 83 pD (.node 81 pU (.node 80 v3 .leaf .leaf) (.node 82 za .leaf .leaf)) (.node 85 mr (.node 84 dL .leaf .leaf) .leaf)))) (.node 100 fg (.node 93 vZ (.node 90 ud (.node 88 AG (.node 87 pV .leaf .leaf) (.node 89 Nq .leaf .leaf)) (.node 92 n5 (.node 91 adc .leaf .leaf) .leaf)) (.node 97 Ly (.node 95 GI (.node 94 kp .leaf .leaf) (.node 96 mo .leaf .leaf)) (.node 99 mt (.node 98 KO .leaf .leaf) .leaf))) (.node 107 gg (.node 104 Wt (.node 102 kf (.node 101 vx .leaf .leaf) (.node 103 eY .leaf .leaf)) (.node 106 Gs (.node 105 GU .leaf .leaf) .leaf)) (.node 110 bg (.node 109 dS (.node 108 mq .leaf .leaf) .leaf) (.node 112 eX (.node 111 fZ .leaf .leaf) .leaf))))))
def prog:Nat→Option af:=afx.look
end Go.Vm
namespace Go.Vm
set_option maxRecDepth 100000
@[simp] theorem ahf {x0:AV}{y1:D}{x6:AV}{h:ac}{n:Nat}:(Dn prog).code Cx ⟨[(0,x0),(1,.d y1),(6,x6)],⟨h,n⟩⟩=cM (bA (dh 1 [.d (.int .u8 0),.d (.int .u8 1)]) fun a1=>bP (DO 1 h (firm x0) (.own false 1 a1)) fun a2 h3=>bA (bM 1 (share x6)) fun a4=>bA (bc h3 (some 4) (firm a4)) fun a5=>bA (bM 7 (share x6)) fun a6=>bA (bc h3 none (firm a6)) fun a7=>bA (aU (Dn prog) mX [firm a2,firm a5,firm a7] h3) fun a8=>bA (fu true (firm (firm a8)) 0) fun a9=>bA (fu false (jf (firm (firm a8)) 0) 1) fun a10=>some ⟨[(0,firm (firm a9)),(1,.d y1),(6,x6),(62,jf (firm (firm a8)) 0),(72,firm a10)],⟨h3,n⟩⟩):=bF rfl rfl (by kernel_rfl)
@[simp] theorem agD {x6:AV}{x11:AV}{x12:AV}{x13:AV}{h:ac}{n:Nat}:(Dn prog).code Cu ⟨[(6,x6),(11,x11),(12,x12),(13,x13)],⟨h,n⟩⟩=cM (bA (bc h none (share x11)) fun a1=>bA (bM 0 (share x13)) fun a2=>bA (bc h none (firm a2)) fun a3=>bA (bM 8 (share x6)) fun a4=>bA (bc ((eh (qe (firm a4)++[]) h)) none (firm a4)) fun a5=>bA (bM 1 (share x13)) fun a6=>bA (bc ((eh (qe (firm a6)++[]) h)) none (firm a6)) fun a7=>bA (bM 2 (share x13)) fun a8=>bA (bc ((eh (qe (firm a8)++[]) h)) none (firm a8)) fun a9=>bA (lg ((eh (qe (firm a5)++[]) h)) 1 (firm a5) (some (firm a7)) (some (firm a9)) none) fun a10=>bP ((Dn prog).call kw [firm a1,firm a3] ⟨h,n⟩) fun a11 s12=>dt (iQ (((qe (firm a5)++[])++((qe (firm a8)++[])++((qe (firm a6)++[])++((qe (firm a4)++[])++[]))))) h s12.heap) <| bA (aU (Dn prog) uE [.nl,firm a11,firm a10] s12.heap) fun a13=>bA (fu true (firm (firm a13)) 0) fun a14=>bA (fu false (jf (firm (firm a13)) 0) 1) fun a15=>some ⟨[(6,x6),(11,x11),(12,x12),(13,x13),(14,firm (firm a14)),(15,firm (firm a15)),(88,jf (firm (firm a13)) 0)],⟨s12.heap,s12.next⟩⟩):=aag rfl rfl (by kernel_rfl)
@[simp] theorem ae6 {x4:AV}{x11:AV}{y15:D}{y16:D}{h:ac}{n:Nat}:(Dn prog).code xg ⟨[(4,x4),(11,x11),(15,.d y15),(16,.d y16)],⟨h,n⟩⟩=cM (bA (bc h none (share x4)) fun a1=>bA (bc h none (share x11)) fun a2=>bA (oN (firm a2)) fun a3=>bA (bM 1 (firm a3)) fun a4=>bA (bc h none (firm a4)) fun a5=>bA (aV .sub (.d y16) (firm a5)) fun a6=>bA (aU (Dn prog) j4 [firm a1,.d a6] h) fun a7=>bA (fu true (firm (firm a7)) 0) fun a8=>bA (fu false (jf (firm (firm a7)) 0) 1) fun a9=>bA (storeAt h 1 (share x4) (firm a8)) fun h10=>some ⟨[(4,x4),(11,x11),(15,.d y15),(16,.d y16),(83,jf (firm (firm a7)) 0),(93,firm a9)],⟨h10,n⟩⟩):=bF rfl rfl (by kernel_rfl)
@[simp] theorem aeM {x4:AV}{x11:AV}{y15:D}{y16:D}{h:ac}{n:Nat}:(Dn prog).code xC ⟨[(4,x4),(11,x11),(15,.d y15),(16,.d y16)],⟨h,n⟩⟩=cM (bA (bc h none (share x4)) fun a1=>bA (bc h none (share x11)) fun a2=>bA (oN (firm a2)) fun a3=>bA (bM 0 (firm a3)) fun a4=>bA (bc h none (firm a4)) fun a5=>bA (aV .sub (.d y16) (firm a5)) fun a6=>bA (aU (Dn prog) j4 [firm a1,.d a6] h) fun a7=>bA (fu true (firm (firm a7)) 0) fun a8=>bA (fu false (jf (firm (firm a7)) 0) 1) fun a9=>bA (storeAt h 1 (share x4) (firm a8)) fun h10=>some ⟨[(4,x4),(11,x11),(15,.d y15),(16,.d y16),(50,jf (firm (firm a7)) 0),(60,firm a9)],⟨h10,n⟩⟩):=bF rfl rfl (by kernel_rfl)
@[simp] theorem afG {x0:AV}{x4:AV}{x15:AV}{x16:AV}{x17:AV}{y20:D}{y21:D}{x69:AV}{y70:D}{y71:D}{h:ac}{n:Nat}:(Dn prog).code zT ⟨[(0,x0),(4,x4),(15,x15),(16,x16),(17,x17),(20,.d y20),(21,.d y21),(69,x69),(70,.d y70),(71,.d y71)],⟨h,n⟩⟩=cM (bA (dh 1 [.d (.int .u8 0)]) fun a1=>bP (DO 1 h (firm x17) (.own false 1 a1)) fun a2 h3=>bA (aV .add (.d y21) (.d (.int .i64 4))) fun a4=>bA (aV .shl (.d (.int .i64 1)) (.d a4)) fun a5=>bA (aV .sub (.d a5) (.d (.int .i64 1))) fun a6=>bA (aV .and (.d y20) (.d a6)) fun a7=>bA (aV .add (.d y21) (.d (.int .i64 4))) fun a8=>bA (aU (Dn prog) cx [firm a2,.d a7,.d a8] h3) fun a9=>bA (fu true (firm (firm a9)) 0) fun a10=>bA (fu false (jf (firm (firm a9)) 0) 1) fun a11=>some ⟨[(0,x0),(4,x4),(15,x15),(16,x16),(17,firm (firm a10)),(21,.d y21),(69,x69),(70,.d y70),(71,.d y71),(102,jf (firm (firm a9)) 0),(116,firm a11)],⟨h3,n⟩⟩):=bF rfl rfl (by kernel_rfl)
@[simp] theorem abB {x0:AV}{y1:D}{x4:AV}{h:ac}{n:Nat}:(Dn prog).code tA ⟨[(0,x0),(1,.d y1),(4,x4)],⟨h,n⟩⟩=cM (bA (aU (Dn prog) mh [.d y1] h) fun a1=>bA (fu true (firm (firm a1)) 0) fun a2=>bA (fu false (jf (firm (firm a1)) 0) 1) fun a3=>bA (oN (firm (share x0))) fun a4=>bA (AA 12 4 (firm a4) (.d y1)) fun a5=>bA (storeAt h 4 (firm a5) (firm a2)) fun h6=>some ⟨[(0,x0),(1,.d y1),(4,x4),(12,jf (firm (firm a1)) 0),(18,firm a3)],⟨h6,n⟩⟩):=bF rfl rfl (by kernel_rfl)
@[simp] theorem abI {x5:AV}{x6:AV}{x7:AV}{x8:AV}{y11:D}{y12:D}{h:ac}{n:Nat}:(Dn prog).code um ⟨[(5,x5),(6,x6),(7,x7),(8,x8),(11,.d y11),(12,.d y12)],⟨h,n⟩⟩=cM (bA (bc h none (share x5)) fun a1=>bA (bc h none (share x8)) fun a2=>bA (fo h 1 (firm a1) (firm a2)) fun a3=>bA (bc h none (firm a3)) fun a4=>bA (lenOf (firm a4)) fun a5=>bA (aV .geq (.d y11) (.int .i64 (.ofNat a5))) fun a6=>bA (gV (.d a6) false (some (.d y12))) fun a7=>bA (gV (.d a6) false (bA (aV .eql (share (firm a7)) (.d (.int .i64 0))) fun v=>some (.d v))) fun a8=>bA (gV (.d a6) false (some (share (firm a8)))) fun a9=>bA (gV (firm a9) true (bA (bc h none (share x5)) fun v=>some v)) fun a10=>bA (gV (firm a9) true (bA (bc h none (share x8)) fun v=>some v)) fun a11=>bA (gV (firm a9) true (bA (fo h 1 (share (firm a10)) (share (firm a11))) fun v=>some v)) fun a12=>bA (gV (firm a9) true (bA (bc h none (share (firm a12))) fun v=>some v)) fun a13=>bA (gV (firm a9) true (some (.d y11))) fun a14=>bA (gV (firm a9) true (bA (fo h 1 (share (firm a13)) (share (firm a14))) fun v=>some v)) fun a15=>bA (gV (firm a9) true (bA (bc h none (share (firm a15))) fun v=>some v)) fun a16=>bA (gV (firm a9) true (bA (aV .neq (share (firm a16)) (.d (.int .i64 0))) fun v=>some (.d v))) fun a17=>bA (gV (.d a6) false (bA (lN (share (firm a9)) (share (firm a17)) (.d (.bool false))) fun v=>some v)) fun a18=>bA (lN (.d a6) (.d (.bool true)) (share (firm a18))) fun a19=>bA (gV (firm (firm a19)) false (some (.d y12))) fun a20=>bA (gV (firm (firm a19)) false (bA (aV .gtr (share (firm a20)) (.d (.int .i64 0))) fun v=>some (.d v))) fun a21=>bA (gV (firm (firm a19)) false (some (share (firm a21)))) fun a22=>bA (gV (firm a22) true (bA (bc h none (share x7)) fun v=>some v)) fun a23=>bA (gV (firm a22) true (some (.d y12))) fun a24=>bA (gV (firm a22) true (bA (bc h none (share x5)) fun v=>some v)) fun a25=>bA (gV (firm a22) true (bA (bc h none (share x8)) fun v=>some v)) fun a26=>bA (gV (firm a22) true (bA (fo h 1 (share (firm a25)) (share (firm a26))) fun v=>some v)) fun a27=>bA (gV (firm a22) true (bA (bc h none (share (firm a27))) fun v=>some v)) fun a28=>bA (gV (firm a22) true (some (.d y11))) fun a29=>bA (gV (firm a22) true (bA (fo h 1 (share (firm a28)) (share (firm a29))) fun v=>some v)) fun a30=>bA (gV (firm a22) true (bA (bc h none (share (firm a30))) fun v=>some v)) fun a31=>bP (gH (firm a22) true ⟨h,n⟩ (bP ((Dn prog).call fH [share (firm a23),share (firm a24),share (firm a31)] ⟨h,n⟩) fun v s=>some (v,s))) fun a32 s33=>bA (gV (firm a22) true (bA (OT .not (share (firm a32))) fun v=>some (.d v))) fun a34=>bA (gV (firm (firm a19)) false (bA (lN (share (firm a22)) (share (firm a34)) (.d (.bool false))) fun v=>some v)) fun a35=>bA (lN (share (firm (firm a19))) (.d (.bool true)) (share (firm a35))) fun a36=>some ⟨[(5,x5),(6,x6),(7,x7),(8,x8),(11,.d y11),(12,.d y12),(47,.d a6),(48,firm a7),(49,firm a8),(50,firm a9),(51,firm a10),(52,firm a11),(53,firm a12),(54,firm a13),(55,firm a14),(56,firm a15),(57,firm a16),(58,firm a17),(59,firm a18),(61,firm (firm a19)),(62,firm a20),(63,firm a21),(64,firm a22),(65,firm a23),(66,firm a24),(67,firm a25),(68,firm a26),(69,firm a27),(70,firm a28),(71,firm a29),(72,firm a30),(73,firm a31),(74,firm a32),(75,firm a34),(76,firm a35),(77,firm a36)],⟨s33.heap,s33.next⟩⟩):=bF rfl rfl (by kernel_rfl)
@[simp] theorem YM {x0:AV}{y2:D}{h:ac}{n:Nat}:(Dn prog).code om ⟨[(0,x0),(2,.d y2)],⟨h,n⟩⟩=cM (bA (oN (firm (share x0))) fun a1=>bA (bM 1 (firm a1)) fun a2=>bA (oN (firm (share x0))) fun a3=>bA (bM 1 (firm a3)) fun a4=>bA (bc h none (firm a4)) fun a5=>bA (aV .lss (firm a5) (.d (.int .i64 0))) fun a6=>some ⟨[(0,x0),(2,.d y2),(7,firm (firm a2)),(8,.d (.int .i64 511)),(9,.d a6)],⟨h,n⟩⟩):=bF rfl rfl (by kernel_rfl)
@[simp] theorem abz {x2:AV}{x8:AV}{x21:AV}{y22:D}{y23:D}{h:ac}{n:Nat}:(Dn prog).code tu ⟨[(2,x2),(8,x8),(21,x21),(22,.d y22),(23,.d y23)],⟨h,n⟩⟩=cM (bA (bc h none (share x8)) fun a1=>bA (lenOf (firm a1)) fun a2=>bA (bc h (some 4) (share x2)) fun a3=>bA (aU (Dn prog) fO [firm a3] h) fun a4=>bA (Zt 5 1 false (firm a4) (.d (.int .i64 3))) fun a5=>bA (aV .gtr (.int .i64 (.ofNat a2)) (firm a5)) fun a6=>bA (gV (.d a6) false (bA (bc h none (share x8)) fun v=>some v)) fun a7=>bA (gV (.d a6) false (some (.fn eQ [] (aB [share x2,share x8])))) fun a8=>bP (gH (.d a6) false ⟨h,n⟩ (bP ((Dn prog).call bx [share (firm a7),share (firm a8)] ⟨h,n⟩) fun v s=>some (v,s))) fun a9 s10=>bA (lN (.d a6) (.d (.bool true)) (share (firm a9))) fun a11=>some ⟨[(2,x2),(8,x8),(21,x21),(22,.d y22),(23,.d y23),(33,.d a6),(34,firm a7),(35,firm a8),(36,firm a9),(37,firm a11)],⟨s10.heap,s10.next⟩⟩):=bF rfl rfl (by kernel_rfl)
@[simp] theorem abA {y0:D}{y1:D}{x2:AV}{h:ac}{n:Nat}:(Dn prog).code tB ⟨[(0,.d y0),(1,.d y1),(2,x2)],⟨h,n⟩⟩=cM (bA (bc h none (share x2)) fun a1=>bA (aV .shl (.d (.int .i64 1)) (.d y1)) fun a2=>bA (aV .sub (.d a2) (.d (.int .i64 1))) fun a3=>bA (aV .and (.d y0) (.d a3)) fun a4=>bA (aU (Dn prog) cx [firm a1,.d a4,.d y1] h) fun a5=>bA (fu true (firm (firm a5)) 0) fun a6=>bA (fu false (jf (firm (firm a5)) 0) 1) fun a7=>bA (storeAt h 1 (share x2) (firm a6)) fun h8=>some ⟨[(1,.d y1),(2,x2),(5,jf (firm (firm a5)) 0),(15,firm a7)],⟨h8,n⟩⟩):=bF rfl rfl (by kernel_rfl)
@[simp] theorem aby {x0:AV}{x2:AV}{x3:AV}{y5:D}{y6:D}{y8:D}{x10:AV}{y11:D}{y12:D}{y13:D}{x14:AV}{y15:D}{y16:D}{x21:AV}{y22:D}{y23:D}{h:ac}{n:Nat}:(Dn prog).code tE ⟨[(0,x0),(2,x2),(3,x3),(5,.d y5),(6,.d y6),(8,.d y8),(10,x10),(11,.d y11),(12,.d y12),(13,.d y13),(14,x14),(15,.d y15),(16,.d y16),(21,x21),(22,.d y22),(23,.d y23)],⟨h,n⟩⟩=cM (bA (bM 0 (share x10)) fun a1=>bA (bc h none (firm a1)) fun a2=>bA (aV .mul (.d y12) (.d (.int .i64 32))) fun a3=>bA (aV .add (.d a3) (.d y13)) fun a4=>bA (aV .mul (.d y12) (.d (.int .i64 32))) fun a5=>bA (aV .add (.d a5) (.d y13)) fun a6=>bA (bM 0 (share x10)) fun a7=>bA (bc h none (firm a7)) fun a8=>bA (aU (Dn prog) tC [firm a8] h) fun a9=>bA (aV .add (.d a6) (firm a9)) fun a10=>bA (dl [.d (.int .i64 0),.d (.int .i64 0),.d (.int .i64 0)] [(0,1,firm a2),(1,1,.d a4),(2,1,.d a10)]) fun a11=>bP (aM (Dn prog) (firm (share x0)) [firm (.agg a11)] ⟨h,n⟩) fun a12 s13=>bA (OT .not (firm a12)) fun a14=>some ⟨[(0,x0),(2,x2),(3,x3),(5,.d y5),(6,.d y6),(8,.d y8),(10,x10),(11,.d y11),(12,.d y12),(13,.d y13),(14,x14),(15,.d y15),(16,.d y16),(21,x21),(22,.d y22),(23,.d y23),(89,.d a14)],⟨s13.heap,s13.next⟩⟩):=bF rfl rfl (by kernel_rfl)
@[simp] theorem afB {x2:AV}{y6:D}{x9:AV}{h:ac}{n:Nat}:(Dn prog).code Ar ⟨[(2,x2),(6,.d y6),(9,x9)],⟨h,n⟩⟩=cM (bA (bM 1 (share x2)) fun a1=>bA (bc h none (firm a1)) fun a2=>bA (aV .shl (.d (.int .i64 1)) (firm a2)) fun a3=>bA (aV .sub (.d a3) (.d (.int .i64 1))) fun a4=>bA (aV .and (.d y6) (.d a4)) fun a5=>bA (bM 1 (share x2)) fun a6=>bA (bc h none (firm a6)) fun a7=>bA (aU (Dn prog) cx [firm x9,.d a5,firm a7] h) fun a8=>bA (fu true (firm a8) 0) fun a9=>bA (fu false (jf (firm a8) 0) 1) fun a10=>some ⟨[(2,x2),(4,firm (firm a9)),(5,firm (firm a10)),(53,jf (firm a8) 0)],⟨h,n⟩⟩):=bF rfl rfl (by kernel_rfl)
@[simp] theorem agd {y0:D}{x2:AV}{x4:AV}{h:ac}{n:Nat}:(Dn prog).code Cy ⟨[(0,.d y0),(2,x2),(4,x4)],⟨h,n⟩⟩=cM (bA (bM 3 (share x4)) fun a1=>bA (bc h none (firm a1)) fun a2=>bA (bc h (some 4) (share x4)) fun a3=>bA (aU (Dn prog) dw [firm a3] h) fun a4=>bA (bc h (some 4) (share x4)) fun a5=>bA (aU (Dn prog) dw [firm a5] h) fun a6=>bA (tp [.int .i64 0] (share (firm a4)) (share (firm a4))) fun a7=>lP (bv [(0,0)] a7 ⟨h,n⟩) fun a8 s9=>bA (tp [.int .i64 0] (share (firm a6)) (share (firm a6))) fun a10=>lP (bv [(0,0)] a10 ⟨s9.heap,s9.next⟩) fun a11 s12=>bA (dl [.d (.int .i64 0),.d (.int .i64 0),.nl,.nl] [(0,1,.d y0),(1,1,firm a2),(2,1,firm a8),(3,1,firm a11)]) fun a13=>lA (put s12.heap s12.next (.cells [.d (.int .i64 0),.d (.int .i64 0),.nl,.nl])) fun h14=>bA (storeAt h14 4 (.ptr s12.next 0) (firm (.agg a13))) fun h15=>some ⟨[(2,x2),(4,x4),(6,.ptr s12.next 0),(24,firm a4),(27,firm a6)],⟨h15,s12.next+1⟩⟩):=bF rfl rfl (by kernel_rfl)
@[simp] theorem An {x2:AV}{x4:AV}{x6:AV}{h:ac}{n:Nat}:(Dn prog).code tX ⟨[(2,x2),(4,x4),(6,x6)],⟨h,n⟩⟩=cM (bP (loadAt h (some 4) 1 (share x4)) fun a1 h2=>bA (aU (Dn prog) cZ [firm a1] h2) fun a3=>lA (put h2 n (.cells [.d (.int .u8 0),.d (.int .u8 0),.d (.int .u8 0),.d (.int .u8 0),.d (.int .u8 0),.d (.int .u8 0),.d (.int .u8 0),.d (.int .u8 0),.d (.int .u8 0),.d (.int .u8 0),.d (.int .u8 0),.d (.int .u8 0),.d (.int .u8 0),.d (.int .u8 0),.d (.int .u8 0),.d (.int .u8 0),.d (.int .u8 0),.d (.int .u8 0),.d (.int .u8 0),.d (.int .u8 0),.d (.int .u8 0),.d (.int .u8 0),.d (.int .u8 0),.d (.int .u8 0),.d (.int .u8 0),.d (.int .u8 0),.d (.int .u8 0),.d (.int .u8 0),.d (.int .u8 0),.d (.int .u8 0),.d (.int .u8 0),.d (.int .u8 0),.d (.int .u8 0),.d (.int .u8 0),.d (.int .u8 0),.d (.int .u8 0),.d (.int .u8 0),.d (.int .u8 0),.d (.int .u8 0),.d (.int .u8 0),.d (.int .u8 0),.d (.int .u8 0),.d (.int .u8 0),.d (.int .u8 0),.d (.int .u8 0),.d (.int .u8 0),.d (.int .u8 0),.d (.int .u8 0),.d (.int .u8 0),.d (.int .u8 0),.d (.int .u8 0),.d (.int .u8 0),.d (.int .u8 0),.d (.int .u8 0),.d (.int .u8 0),.d (.int .u8 0),.d (.int .u8 0),.d (.int .u8 0),.d (.int .u8 0),.d (.int .u8 0),.d (.int .u8 0),.d (.int .u8 0),.d (.int .u8 0),.d (.int .u8 0),.d (.int .u8 0),.d (.int .u8 0),.d (.int .u8 0),.d (.int .u8 0),.d (.int .u8 0),.d (.int .u8 0),.d (.int .u8 0),.d (.int .u8 0),.d (.int .u8 0),.d (.int .u8 0),.d (.int .u8 0),.d (.int .u8 0),.d (.int .u8 0),.d (.int .u8 0),.d (.int .u8 0),.d (.int .u8 0),.d (.int .u8 0),.d (.int .u8 0),.d (.int .u8 0),.d (.int .u8 0),.d (.int .u8 0),.d (.int .u8 0),.d (.int .u8 0),.d (.int .u8 0),.d (.int .u8 0),.d (.int .u8 0),.d (.int .u8 0),.d (.int .u8 0),.d (.int .u8 0),.d (.int .u8 0),.d (.int .u8 0),.d (.int .u8 0),.d (.int .u8 0),.d (.int .u8 0),.d (.int .u8 0),.d (.int .u8 0),.d (.int .u8 0),.d (.int .u8 0),.d (.int .u8 0),.d (.int .u8 0),.d (.int .u8 0),.d (.int .u8 0),.d (.int .u8 0),.d (.int .u8 0),.d (.int .u8 0),.d (.int .u8 0),.d (.int .u8 0),.d (.int .u8 0),.d (.int .u8 0),.d (.int .u8 0),.d (.int .u8 0),.d (.int .u8 0),.d (.int .u8 0),.d (.int .u8 0),.d (.int .u8 0),.d (.int .u8 0),.d (.int .u8 0),.d (.int .u8 0),.d (.int .u8 0),.d (.int .u8 0),.d (.int .u8 0),.d (.int .u8 0),.d (.int .u8 0),.d (.int .u8 0),.d (.int .u8 0),.d (.int .u8 0),.d (.int .u8 0),.d (.int .u8 0),.d (.int .u8 0),.d (.int .u8 0),.d (.int .u8 0),.d (.int .u8 0),.d (.int .u8 0),.d (.int .u8 0),.d (.int .u8 0),.d (.int .u8 0),.d (.int .u8 0),.d (.int .u8 0),.d (.int .u8 0),.d (.int .u8 0),.d (.int .u8 0),.d (.int .u8 0),.d (.int .u8 0),.d (.int .u8 0),.d (.int .u8 0),.d (.int .u8 0),.d (.int .u8 0),.d (.int .u8 0),.d (.int .u8 0),.d (.int .u8 0),.d (.int .u8 0),.d (.int .u8 0),.d (.int .u8 0),.d (.int .u8 0),.d (.int .u8 0),.d (.int .u8 0),.d (.int .u8 0),.d (.int .u8 0),.d (.int .u8 0),.d (.int .u8 0),.d (.int .u8 0),.d (.int .u8 0),.d (.int .u8 0),.d (.int .u8 0),.d (.int .u8 0),.d (.int .u8 0),.d (.int .u8 0),.d (.int .u8 0),.d (.int .u8 0),.d (.int .u8 0),.d (.int .u8 0),.d (.int .u8 0),.d (.int .u8 0),.d (.int .u8 0),.d (.int .u8 0),.d (.int .u8 0),.d (.int .u8 0),.d (.int .u8 0),.d (.int .u8 0),.d (.int .u8 0),.d (.int .u8 0),.d (.int .u8 0),.d (.int .u8 0),.d (.int .u8 0),.d (.int .u8 0),.d (.int .u8 0),.d (.int .u8 0),.d (.int .u8 0),.d (.int .u8 0),.d (.int .u8 0),.d (.int .u8 0),.d (.int .u8 0),.d (.int .u8 0),.d (.int .u8 0),.d (.int .u8 0),.d (.int .u8 0),.d (.int .u8 0),.d (.int .u8 0),.d (.int .u8 0),.d (.int .u8 0),.d (.int .u8 0),.d (.int .u8 0),.d (.int .u8 0),.d (.int .u8 0),.d (.int .u8 0),.d (.int .u8 0),.d (.int .u8 0),.d (.int .u8 0),.d (.int .u8 0),.d (.int .u8 0),.d (.int .u8 0),.d (.int .u8 0),.d (.int .u8 0),.d (.int .u8 0),.d (.int .u8 0),.d (.int .u8 0),.d (.int .u8 0),.d (.int .u8 0),.d (.int .u8 0),.d (.int .u8 0),.d (.int .u8 0),.d (.int .u8 0),.d (.int .u8 0),.d (.int .u8 0),.d (.int .u8 0),.d (.int .u8 0),.d (.int .u8 0),.d (.int .u8 0),.d (.int .u8 0),.d (.int .u8 0),.d (.int .u8 0),.d (.int .u8 0),.d (.int .u8 0),.d (.int .u8 0),.d (.int .u8 0),.d (.int .u8 0),.d (.int .u8 0),.d (.int .u8 0),.d (.int .u8 0),.d (.int .u8 0),.d (.int .u8 0),.d (.int .u8 0),.d (.int .u8 0),.d (.int .u8 0),.d (.int .u8 0),.d (.int .u8 0),.d (.int .u8 0),.d (.int .u8 0),.d (.int .u8 0),.d (.int .u8 0),.d (.int .u8 0),.d (.int .u8 0),.d (.int .u8 0),.d (.int .u8 0),.d (.int .u8 0),.d (.int .u8 0),.d (.int .u8 0),.d (.int .u8 0),.d (.int .u8 0),.d (.int .u8 0),.d (.int .u8 0),.d (.int .u8 0),.d (.int .u8 0),.d (.int .u8 0),.d (.int .u8 0),.d (.int .u8 0),.d (.int .u8 0),.d (.int .u8 0),.d (.int .u8 0),.d (.int .u8 0),.d (.int .u8 0),.d (.int .u8 0),.d (.int .u8 0),.d (.int .u8 0),.d (.int .u8 0),.d (.int .u8 0),.d (.int .u8 0),.d (.int .u8 0),.d (.int .u8 0),.d (.int .u8 0),.d (.int .u8 0),.d (.int .u8 0),.d (.int .u8 0),.d (.int .u8 0),.d (.int .u8 0)])) fun h4=>bA (storeAt h4 289 (.ptr n 0) (firm a3)) fun h5=>some ⟨[(2,x2),(4,x4),(6,x6),(7,.ptr n 0)],⟨h5,n+1⟩⟩):=te (by kernel_rfl)
@[simp] theorem wX {x1:AV}{x3:AV}{h:ac}{n:Nat}:(Dn prog).code o9 ⟨[(1,x1),(3,x3)],⟨h,n⟩⟩=cM (bP (loadAt h (some 4) 1 (share x3)) fun a1 h2=>bA (aU (Dn prog) cZ [firm a1] h2) fun a3=>lA (put h2 n (.cells [.d (.int .u8 0),.d (.int .u8 0),.d (.int .u8 0),.d (.int .u8 0),.d (.int .u8 0),.d (.int .u8 0),.d (.int .u8 0),.d (.int .u8 0),.d (.int .u8 0),.d (.int .u8 0),.d (.int .u8 0),.d (.int .u8 0),.d (.int .u8 0),.d (.int .u8 0),.d (.int .u8 0),.d (.int .u8 0),.d (.int .u8 0),.d (.int .u8 0),.d (.int .u8 0),.d (.int .u8 0),.d (.int .u8 0),.d (.int .u8 0),.d (.int .u8 0),.d (.int .u8 0),.d (.int .u8 0),.d (.int .u8 0),.d (.int .u8 0),.d (.int .u8 0),.d (.int .u8 0),.d (.int .u8 0),.d (.int .u8 0),.d (.int .u8 0),.d (.int .u8 0),.d (.int .u8 0),.d (.int .u8 0),.d (.int .u8 0),.d (.int .u8 0),.d (.int .u8 0),.d (.int .u8 0),.d (.int .u8 0),.d (.int .u8 0),.d (.int .u8 0),.d (.int .u8 0),.d (.int .u8 0),.d (.int .u8 0),.d (.int .u8 0),.d (.int .u8 0),.d (.int .u8 0),.d (.int .u8 0),.d (.int .u8 0),.d (.int .u8 0),.d (.int .u8 0),.d (.int .u8 0),.d (.int .u8 0),.d (.int .u8 0),.d (.int .u8 0),.d (.int .u8 0),.d (.int .u8 0),.d (.int .u8 0),.d (.int .u8 0),.d (.int .u8 0),.d (.int .u8 0),.d (.int .u8 0),.d (.int .u8 0),.d (.int .u8 0),.d (.int .u8 0),.d (.int .u8 0),.d (.int .u8 0),.d (.int .u8 0),.d (.int .u8 0),.d (.int .u8 0),.d (.int .u8 0),.d (.int .u8 0),.d (.int .u8 0),.d (.int .u8 0),.d (.int .u8 0),.d (.int .u8 0),.d (.int .u8 0),.d (.int .u8 0),.d (.int .u8 0),.d (.int .u8 0),.d (.int .u8 0),.d (.int .u8 0),.d (.int .u8 0),.d (.int .u8 0),.d (.int .u8 0),.d (.int .u8 0),.d (.int .u8 0),.d (.int .u8 0),.d (.int .u8 0),.d (.int .u8 0),.d (.int .u8 0),.d (.int .u8 0),.d (.int .u8 0),.d (.int .u8 0),.d (.int .u8 0),.d (.int .u8 0),.d (.int .u8 0),.d (.int .u8 0),.d (.int .u8 0),.d (.int .u8 0),.d (.int .u8 0),.d (.int .u8 0),.d (.int .u8 0),.d (.int .u8 0),.d (.int .u8 0),.d (.int .u8 0),.d (.int .u8 0),.d (.int .u8 0),.d (.int .u8 0),.d (.int .u8 0),.d (.int .u8 0),.d (.int .u8 0),.d (.int .u8 0),.d (.int .u8 0),.d (.int .u8 0),.d (.int .u8 0),.d (.int .u8 0),.d (.int .u8 0),.d (.int .u8 0),.d (.int .u8 0),.d (.int .u8 0),.d (.int .u8 0),.d (.int .u8 0),.d (.int .u8 0),.d (.int .u8 0),.d (.int .u8 0),.d (.int .u8 0),.d (.int .u8 0),.d (.int .u8 0),.d (.int .u8 0),.d (.int .u8 0),.d (.int .u8 0),.d (.int .u8 0),.d (.int .u8 0),.d (.int .u8 0),.d (.int .u8 0),.d (.int .u8 0),.d (.int .u8 0),.d (.int .u8 0),.d (.int .u8 0),.d (.int .u8 0),.d (.int .u8 0),.d (.int .u8 0),.d (.int .u8 0),.d (.int .u8 0),.d (.int .u8 0),.d (.int .u8 0),.d (.int .u8 0),.d (.int .u8 0),.d (.int .u8 0),.d (.int .u8 0),.d (.int .u8 0),.d (.int .u8 0),.d (.int .u8 0),.d (.int .u8 0),.d (.int .u8 0),.d (.int .u8 0),.d (.int .u8 0),.d (.int .u8 0),.d (.int .u8 0),.d (.int .u8 0),.d (.int .u8 0),.d (.int .u8 0),.d (.int .u8 0),.d (.int .u8 0),.d (.int .u8 0),.d (.int .u8 0),.d (.int .u8 0),.d (.int .u8 0),.d (.int .u8 0),.d (.int .u8 0),.d (.int .u8 0),.d (.int .u8 0),.d (.int .u8 0),.d (.int .u8 0),.d (.int .u8 0),.d (.int .u8 0),.d (.int .u8 0),.d (.int .u8 0),.d (.int .u8 0),.d (.int .u8 0),.d (.int .u8 0),.d (.int .u8 0),.d (.int .u8 0),.d (.int .u8 0),.d (.int .u8 0),.d (.int .u8 0),.d (.int .u8 0),.d (.int .u8 0),.d (.int .u8 0),.d (.int .u8 0),.d (.int .u8 0),.d (.int .u8 0),.d (.int .u8 0),.d (.int .u8 0),.d (.int .u8 0),.d (.int .u8 0),.d (.int .u8 0),.d (.int .u8 0),.d (.int .u8 0),.d (.int .u8 0),.d (.int .u8 0),.d (.int .u8 0),.d (.int .u8 0),.d (.int .u8 0),.d (.int .u8 0),.d (.int .u8 0),.d (.int .u8 0),.d (.int .u8 0),.d (.int .u8 0),.d (.int .u8 0),.d (.int .u8 0),.d (.int .u8 0),.d (.int .u8 0),.d (.int .u8 0),.d (.int .u8 0),.d (.int .u8 0),.d (.int .u8 0),.d (.int .u8 0),.d (.int .u8 0),.d (.int .u8 0),.d (.int .u8 0),.d (.int .u8 0),.d (.int .u8 0),.d (.int .u8 0),.d (.int .u8 0),.d (.int .u8 0),.d (.int .u8 0),.d (.int .u8 0),.d (.int .u8 0),.d (.int .u8 0),.d (.int .u8 0),.d (.int .u8 0),.d (.int .u8 0),.d (.int .u8 0),.d (.int .u8 0),.d (.int .u8 0),.d (.int .u8 0),.d (.int .u8 0),.d (.int .u8 0),.d (.int .u8 0),.d (.int .u8 0),.d (.int .u8 0),.d (.int .u8 0),.d (.int .u8 0),.d (.int .u8 0),.d (.int .u8 0),.d (.int .u8 0),.d (.int .u8 0),.d (.int .u8 0),.d (.int .u8 0),.d (.int .u8 0),.d (.int .u8 0),.d (.int .u8 0),.d (.int .u8 0),.d (.int .u8 0),.d (.int .u8 0),.d (.int .u8 0),.d (.int .u8 0),.d (.int .u8 0),.d (.int .u8 0),.d (.int .u8 0),.d (.int .u8 0),.d (.int .u8 0),.d (.int .u8 0),.d (.int .u8 0),.d (.int .u8 0),.d (.int .u8 0),.d (.int .u8 0),.d (.int .u8 0),.d (.int .u8 0),.d (.int .u8 0),.d (.int .u8 0),.d (.int .u8 0),.d (.int .u8 0),.d (.int .u8 0),.d (.int .u8 0),.d (.int .u8 0),.d (.int .u8 0),.d (.int .u8 0),.d (.int .u8 0),.d (.int .u8 0),.d (.int .u8 0),.d (.int .u8 0),.d (.int .u8 0),.d (.int .u8 0),.d (.int .u8 0),.d (.int .u8 0)])) fun h4=>bA (storeAt h4 289 (.ptr n 0) (firm a3)) fun h5=>some ⟨[(1,x1),(3,x3),(5,.ptr n 0)],⟨h5,n+1⟩⟩):=te (by kernel_rfl)
@[simp] theorem ov {x0:AV}{h:ac}{n:Nat}:(Dn prog).code jN ⟨[(0,x0)],⟨h,n⟩⟩=cM (dt ((AV.cells x0).all cy) <| lA (put h n (.cells (AV.cells x0))) fun h1=>lA (put h1 (n+1) (.cells [.d (.int .u8 0),.d (.int .u8 0),.d (.int .u8 0),.d (.int .u8 0),.d (.int .u8 0),.d (.int .u8 0),.d (.int .u8 0),.d (.int .u8 0),.d (.int .u8 0),.d (.int .u8 0),.d (.int .u8 0),.d (.int .u8 0),.d (.int .u8 0),.d (.int .u8 0),.d (.int .u8 0),.d (.int .u8 0),.d (.int .u8 0),.d (.int .u8 0),.d (.int .u8 0),.d (.int .u8 0),.d (.int .u8 0),.d (.int .u8 0),.d (.int .u8 0),.d (.int .u8 0),.d (.int .u8 0),.d (.int .u8 0),.d (.int .u8 0),.d (.int .u8 0),.d (.int .u8 0),.d (.int .u8 0),.d (.int .u8 0),.d (.int .u8 0),.d (.int .u8 0),.d (.int .u8 0),.d (.int .u8 0),.d (.int .u8 0),.d (.int .u8 0),.d (.int .u8 0),.d (.int .u8 0),.d (.int .u8 0),.d (.int .u8 0),.d (.int .u8 0),.d (.int .u8 0),.d (.int .u8 0),.d (.int .u8 0),.d (.int .u8 0),.d (.int .u8 0),.d (.int .u8 0),.d (.int .u8 0),.d (.int .u8 0),.d (.int .u8 0),.d (.int .u8 0),.d (.int .u8 0),.d (.int .u8 0),.d (.int .u8 0),.d (.int .u8 0),.d (.int .u8 0),.d (.int .u8 0),.d (.int .u8 0),.d (.int .u8 0),.d (.int .u8 0),.d (.int .u8 0),.d (.int .u8 0),.d (.int .u8 0),.d (.int .u8 0),.d (.int .u8 0),.d (.int .u8 0),.d (.int .u8 0),.d (.int .u8 0),.d (.int .u8 0),.d (.int .u8 0),.d (.int .u8 0),.d (.int .u8 0),.d (.int .u8 0),.d (.int .u8 0),.d (.int .u8 0),.d (.int .u8 0),.d (.int .u8 0),.d (.int .u8 0),.d (.int .u8 0),.d (.int .u8 0),.d (.int .u8 0),.d (.int .u8 0),.d (.int .u8 0),.d (.int .u8 0),.d (.int .u8 0),.d (.int .u8 0),.d (.int .u8 0),.d (.int .u8 0),.d (.int .u8 0),.d (.int .u8 0),.d (.int .u8 0),.d (.int .u8 0),.d (.int .u8 0),.d (.int .u8 0),.d (.int .u8 0),.d (.int .u8 0),.d (.int .u8 0),.d (.int .u8 0),.d (.int .u8 0),.d (.int .u8 0),.d (.int .u8 0),.d (.int .u8 0),.d (.int .u8 0),.d (.int .u8 0),.d (.int .u8 0),.d (.int .u8 0),.d (.int .u8 0),.d (.int .u8 0),.d (.int .u8 0),.d (.int .u8 0),.d (.int .u8 0),.d (.int .u8 0),.d (.int .u8 0),.d (.int .u8 0),.d (.int .u8 0),.d (.int .u8 0),.d (.int .u8 0),.d (.int .u8 0),.d (.int .u8 0),.d (.int .u8 0),.d (.int .u8 0),.d (.int .u8 0),.d (.int .u8 0),.d (.int .u8 0),.d (.int .u8 0),.d (.int .u8 0),.d (.int .u8 0),.d (.int .u8 0),.d (.int .u8 0),.d (.int .u8 0),.d (.int .u8 0),.d (.int .u8 0),.d (.int .u8 0),.d (.int .u8 0),.d (.int .u8 0),.d (.int .u8 0),.d (.int .u8 0),.d (.int .u8 0),.d (.int .u8 0),.d (.int .u8 0),.d (.int .u8 0),.d (.int .u8 0),.d (.int .u8 0),.d (.int .u8 0),.d (.int .u8 0),.d (.int .u8 0),.d (.int .u8 0),.d (.int .u8 0),.d (.int .u8 0),.d (.int .u8 0),.d (.int .u8 0),.d (.int .u8 0),.d (.int .u8 0),.d (.int .u8 0),.d (.int .u8 0),.d (.int .u8 0),.d (.int .u8 0),.d (.int .u8 0),.d (.int .u8 0),.d (.int .u8 0),.d (.int .u8 0),.d (.int .u8 0),.d (.int .u8 0),.d (.int .u8 0),.d (.int .u8 0),.d (.int .u8 0),.d (.int .u8 0),.d (.int .u8 0),.d (.int .u8 0),.d (.int .u8 0),.d (.int .u8 0),.d (.int .u8 0),.d (.int .u8 0),.d (.int .u8 0),.d (.int .u8 0),.d (.int .u8 0),.d (.int .u8 0),.d (.int .u8 0),.d (.int .u8 0),.d (.int .u8 0),.d (.int .u8 0),.d (.int .u8 0),.d (.int .u8 0),.d (.int .u8 0),.d (.int .u8 0),.d (.int .u8 0),.d (.int .u8 0),.d (.int .u8 0),.d (.int .u8 0),.d (.int .u8 0),.d (.int .u8 0),.d (.int .u8 0),.d (.int .u8 0),.d (.int .u8 0),.d (.int .u8 0),.d (.int .u8 0),.d (.int .u8 0),.d (.int .u8 0),.d (.int .u8 0),.d (.int .u8 0),.d (.int .u8 0),.d (.int .u8 0),.d (.int .u8 0),.d (.int .u8 0),.d (.int .u8 0),.d (.int .u8 0),.d (.int .u8 0),.d (.int .u8 0),.d (.int .u8 0),.d (.int .u8 0),.d (.int .u8 0),.d (.int .u8 0),.d (.int .u8 0),.d (.int .u8 0),.d (.int .u8 0),.d (.int .u8 0),.d (.int .u8 0),.d (.int .u8 0),.d (.int .u8 0),.d (.int .u8 0),.d (.int .u8 0),.d (.int .u8 0),.d (.int .u8 0),.d (.int .u8 0),.d (.int .u8 0),.d (.int .u8 0),.d (.int .u8 0),.d (.int .u8 0),.d (.int .u8 0),.d (.int .u8 0),.d (.int .u8 0),.d (.int .u8 0),.d (.int .u8 0),.d (.int .u8 0),.d (.int .u8 0),.d (.int .u8 0),.d (.int .u8 0),.d (.int .u8 0),.d (.int .u8 0),.d (.int .u8 0),.d (.int .u8 0),.d (.int .u8 0),.d (.int .u8 0),.d (.int .u8 0),.d (.int .u8 0),.d (.int .u8 0),.d (.int .u8 0),.d (.int .u8 0),.d (.int .u8 0),.d (.int .u8 0),.d (.int .u8 0),.d (.int .u8 0),.d (.int .u8 0),.d (.int .u8 0),.d (.int .u8 0),.d (.int .u8 0),.d (.int .u8 0),.d (.int .u8 0),.d (.int .u8 0),.d (.int .u8 0),.d (.int .u8 0),.d (.int .u8 0),.d (.int .u8 0),.d (.int .u8 0),.d (.int .u8 0),.d (.int .u8 0),.d (.int .u8 0),.d (.int .u8 0),.d (.int .u8 0),.d (.int .u8 0),.d (.int .u8 0),.d (.int .u8 0),.d (.int .u8 0),.d (.int .u8 0),.d (.int .u8 0),.d (.int .u8 0),.d (.int .u8 0),.d (.int .u8 0),.d (.int .u8 0),.d (.int .u8 0),.d (.int .u8 0),.d (.int .u8 0),.d (.int .u8 0),.d (.int .u8 0),.d (.int .u8 0),.d (.int .u8 0),.d (.int .u8 0),.d (.int .u8 0)])) fun h2=>some ⟨[(1,.ptr n 0),(2,.ptr (n+1) 0)],⟨h2,n+1+1⟩⟩):=te (by kernel_rfl)
@[simp] theorem Da {x0:AV}{y1:D}{y2:D}{x3:AV}{y8:D}{y9:D}{h:ac}{n:Nat}:(Dn prog).code fw ⟨[(0,x0),(1,.d y1),(2,.d y2),(3,x3),(8,.d y8),(9,.d y9)],⟨h,n⟩⟩=cM (bA (aV .gtr (.d y9) (.d y1)) fun a1=>bA (gV (.d a1) true (some (share x3))) fun a2=>bA (gV (.d a1) true (some (share x0))) fun a3=>bA (gV (.d a1) true (some (.d y9))) fun a4=>bA (gV (.d a1) true (bA (fo h 1 (share (firm a3)) (share (firm a4))) fun v=>some v)) fun a5=>bA (gV (.d a1) true (bA (bc h none (share (firm a5))) fun v=>some v)) fun a6=>bA (gV (.d a1) true (some (share x0))) fun a7=>bA (gV (.d a1) true (some (.d y9))) fun a8=>bA (gV (.d a1) true (bA (aV .sub (share (firm a8)) (.d (.int .i64 1))) fun v=>some (.d v))) fun a9=>bA (gV (.d a1) true (bA (fo h 1 (share (firm a7)) (share (firm a9))) fun v=>some v)) fun a10=>bA (gV (.d a1) true (bA (bc h none (share (firm a10))) fun v=>some v)) fun a11=>bP (gH (.d a1) true ⟨h,n⟩ (bP (aM (Dn prog) (share (firm a2)) [share (firm a6),share (firm a11)] ⟨h,n⟩) fun v s=>some (v,s))) fun a12 s13=>bA (gV (.d a1) true (bA (aV .lss (share (firm a12)) (.d (.int .i64 0))) fun v=>some (.d v))) fun a14=>bA (lN (.d a1) (share (firm a14)) (.d (.bool false))) fun a15=>some ⟨[(0,x0),(1,.d y1),(2,.d y2),(3,x3),(8,.d y8),(9,.d y9),(21,.d a1),(22,firm a2),(23,firm a3),(24,firm a4),(25,firm a5),(26,firm a6),(27,firm a7),(28,firm a8),(29,firm a9),(30,firm a10),(31,firm a11),(32,firm a12),(33,firm a14),(34,firm a15)],⟨s13.heap,s13.next⟩⟩):=bF rfl rfl (by kernel_rfl)
@[simp] theorem C9 {x0:AV}{y1:D}{y2:D}{x3:AV}{y8:D}{y9:D}{h:ac}{n:Nat}:(Dn prog).code fG ⟨[(0,x0),(1,.d y1),(2,.d y2),(3,x3),(8,.d y8),(9,.d y9)],⟨h,n⟩⟩=cM (bA (aV .sub (.d y9) (.d (.int .i64 1))) fun a1=>bA (aV .sub (.d y9) (.d (.int .i64 1))) fun a2=>bA (fo h 1 (firm (share x0)) (.d a2)) fun a3=>bA (bc h none (firm a3)) fun a4=>bA (fo h 1 (firm (share x0)) (.d y9)) fun a5=>bA (bc h none (firm a5)) fun a6=>bA (fo h 1 (firm (share x0)) (.d y9)) fun a7=>bA (storeAt h 1 (firm a7) (firm a4)) fun h8=>bA (fo h8 1 (firm (share x0)) (.d a1)) fun a9=>bA (storeAt h8 1 (firm a9) (firm a6)) fun h10=>some ⟨[(0,x0),(1,.d y1),(2,.d y2),(3,x3),(8,.d y8),(9,.d y9)],⟨h10,n⟩⟩):=bF rfl rfl (by kernel_rfl)
@[simp] theorem JF {x0:AV}{y1:D}{x4:AV}{y10:D}{y11:D}{y12:D}{h:ac}{n:Nat}:(Dn prog).code iv ⟨[(0,x0),(1,.d y1),(4,x4),(10,.d y10),(11,.d y11),(12,.d y12)],⟨h,n⟩⟩=cM (bA (fo h 1 (firm (share x0)) (.d y12)) fun a1=>bA (bc h none (firm a1)) fun a2=>bA (fo h 1 (firm (share x0)) (.d y1)) fun a3=>bA (bc h none (firm a3)) fun a4=>bP (aM (Dn prog) (firm (share x4)) [firm a2,firm a4] ⟨h,n⟩) fun a5 s6=>bA (aV .lss (firm a5) (.d (.int .i64 0))) fun a7=>some ⟨[(0,x0),(1,.d y1),(4,x4),(10,.d y10),(11,.d y11),(12,.d y12),(50,.d a7)],⟨s6.heap,s6.next⟩⟩):=bF rfl rfl (by kernel_rfl)
@[simp] theorem Ie {x0:AV}{y10:D}{y13:D}{h:ac}{n:Nat}:(Dn prog).code ie ⟨[(0,x0),(10,.d y10),(13,.d y13)],⟨h,n⟩⟩=cM (bA (aV .add (.d y13) (.d (.int .i64 1))) fun a1=>bA (aV .add (.d y13) (.d (.int .i64 1))) fun a2=>bA (fo h 1 (firm (share x0)) (.d a2)) fun a3=>bA (bc h none (firm a3)) fun a4=>bA (fo h 1 (firm (share x0)) (.d y13)) fun a5=>bA (bc h none (firm a5)) fun a6=>bA (fo h 1 (firm (share x0)) (.d y13)) fun a7=>bA (storeAt h 1 (firm a7) (firm a4)) fun h8=>bA (fo h8 1 (firm (share x0)) (.d a1)) fun a9=>bA (storeAt h8 1 (firm a9) (firm a6)) fun h10=>some ⟨[(0,x0),(10,.d y10),(13,.d y13)],⟨h10,n⟩⟩):=bF rfl rfl (by kernel_rfl)
@[simp] theorem Ih {x0:AV}{y2:D}{x4:AV}{y14:D}{y15:D}{y16:D}{h:ac}{n:Nat}:(Dn prog).code ib ⟨[(0,x0),(2,.d y2),(4,x4),(14,.d y14),(15,.d y15),(16,.d y16)],⟨h,n⟩⟩=cM (bA (fo h 1 (firm (share x0)) (.d y2)) fun a1=>bA (bc h none (firm a1)) fun a2=>bA (fo h 1 (firm (share x0)) (.d y16)) fun a3=>bA (bc h none (firm a3)) fun a4=>bP (aM (Dn prog) (firm (share x4)) [firm a2,firm a4] ⟨h,n⟩) fun a5 s6=>bA (aV .lss (firm a5) (.d (.int .i64 0))) fun a7=>bA (OT .not (.d a7)) fun a8=>some ⟨[(0,x0),(2,.d y2),(4,x4),(14,.d y14),(15,.d y15),(16,.d y16),(103,.d a8)],⟨s6.heap,s6.next⟩⟩):=bF rfl rfl (by kernel_rfl)
@[simp] theorem Is {x0:AV}{y14:D}{y17:D}{h:ac}{n:Nat}:(Dn prog).code hU ⟨[(0,x0),(14,.d y14),(17,.d y17)],⟨h,n⟩⟩=cM (bA (aV .sub (.d y17) (.d (.int .i64 1))) fun a1=>bA (aV .sub (.d y17) (.d (.int .i64 1))) fun a2=>bA (fo h 1 (firm (share x0)) (.d a2)) fun a3=>bA (bc h none (firm a3)) fun a4=>bA (fo h 1 (firm (share x0)) (.d y17)) fun a5=>bA (bc h none (firm a5)) fun a6=>bA (fo h 1 (firm (share x0)) (.d y17)) fun a7=>bA (storeAt h 1 (firm a7) (firm a4)) fun h8=>bA (fo h8 1 (firm (share x0)) (.d a1)) fun a9=>bA (storeAt h8 1 (firm a9) (firm a6)) fun h10=>some ⟨[(0,x0),(14,.d y14),(17,.d y17)],⟨h10,n⟩⟩):=bF rfl rfl (by kernel_rfl)
@[simp] theorem Il {x0:AV}{y1:D}{y2:D}{y3:D}{x4:AV}{y18:D}{y19:D}{y20:D}{y21:D}{y22:D}{y23:D}{h:ac}{n:Nat}:(Dn prog).code ij ⟨[(0,x0),(1,.d y1),(2,.d y2),(3,.d y3),(4,x4),(18,.d y18),(19,.d y19),(20,.d y20),(21,.d y21),(22,.d y22),(23,.d y23)],⟨h,n⟩⟩=cM (bA (aV .sub (.d y22) (.d y23)) fun a1=>bA (fo h 1 (firm (share x0)) (.d a1)) fun a2=>bA (bc h none (firm a2)) fun a3=>bA (fo h 1 (firm (share x0)) (.d y23)) fun a4=>bA (bc h none (firm a4)) fun a5=>bP (aM (Dn prog) (firm (share x4)) [firm a3,firm a5] ⟨h,n⟩) fun a6 s7=>bA (aV .lss (firm a6) (.d (.int .i64 0))) fun a8=>bA (OT .not (.d a8)) fun a9=>some ⟨[(0,x0),(1,.d y1),(2,.d y2),(3,.d y3),(4,x4),(18,.d y18),(19,.d y19),(20,.d y20),(21,.d y21),(22,.d y22),(23,.d y23),(171,.d a9)],⟨s7.heap,s7.next⟩⟩):=bF rfl rfl (by kernel_rfl)
@[simp] theorem Iy {x0:AV}{y1:D}{y2:D}{y3:D}{y10:D}{h:ac}{n:Nat}:(Dn prog).code gT ⟨[(0,x0),(1,.d y1),(2,.d y2),(3,.d y3),(10,.d y10)],⟨h,n⟩⟩=cM (bA (aV .add (.d y1) (.d y10)) fun a1=>bA (aV .add (.d y2) (.d y10)) fun a2=>bA (aV .add (.d y2) (.d y10)) fun a3=>bA (fo h 1 (firm (share x0)) (.d a3)) fun a4=>bA (bc h none (firm a4)) fun a5=>bA (aV .add (.d y1) (.d y10)) fun a6=>bA (fo h 1 (firm (share x0)) (.d a6)) fun a7=>bA (bc h none (firm a7)) fun a8=>bA (fo h 1 (firm (share x0)) (.d a1)) fun a9=>bA (storeAt h 1 (firm a9) (firm a5)) fun h10=>bA (fo h10 1 (firm (share x0)) (.d a2)) fun a11=>bA (storeAt h10 1 (firm a11) (firm a8)) fun h12=>some ⟨[(0,x0),(1,.d y1),(2,.d y2),(3,.d y3),(10,.d y10)],⟨h12,n⟩⟩):=bF rfl rfl (by kernel_rfl)
theorem gn:prog gq=some db:=rfl
theorem zo:prog jk=some jg:=rfl
theorem bG:prog fV=some bf:=rfl
theorem wU:prog dp=some lr:=rfl
theorem TB:prog gE=some xI:=rfl
theorem aa2:prog uV=some Bn:=rfl
theorem XU:prog je=some wn:=rfl
theorem Qu:prog fk=some sj:=rfl
theorem Qp:prog lQ=some sf:=rfl
theorem PO:prog l0=some rC:=rfl
theorem Nc:prog kG=some pf:=rfl
theorem Q5:prog lL=some sq:=rfl
theorem XF:prog pc=some wW:=rfl
theorem Sl:prog md=some rW:=rfl
theorem Qc:prog mi=some r8:=rfl
theorem Rv:prog lG=some rR:=rfl
theorem XH:prog kQ=some vE:=rfl
theorem aan:prog cx=some AU:=rfl
theorem aaB:prog AL=some A7:=rfl
theorem Y6:prog yf=some yL:=rfl
theorem Sb:prog rL=some rJ:=rfl
theorem UD:prog mX=some t4:=rfl
theorem XZ:prog vN=some vT:=rfl
theorem Pb:prog uE=some uS:=rfl
theorem Lr:prog kw=some p9:=rfl
theorem Ya:prog lD=some wc:=rfl
theorem XK:prog ln=some wV:=rfl
theorem YG:prog yo=some yV:=rfl
theorem SR:prog rE=some sE:=rfl
theorem YS:prog yW=some yY:=rfl
theorem Y2:prog sM=some yH:=rfl
theorem YW:prog sU=some xT:=rfl
theorem qJ:prog bx=some eW:=rfl
theorem Kj:prog fm=some np:=rfl
theorem Uc:prog tI=some tM:=rfl
theorem PW:prog gO=some rl:=rfl
theorem Yz:prog yI=some yl:=rfl
theorem Xf:prog wL=some vu:=rfl
theorem wQ:prog ik=some ic:=rfl
theorem BG:prog dD=some jS:=rfl
theorem Y4:prog yy=some yF:=rfl
theorem WC:prog v8=some vp:=rfl
theorem Wv:prog vY=some v6:=rfl
theorem Us:prog tP=some uh:=rfl
theorem Vl:prog tW=some ua:=rfl
theorem Uk:prog mU=some tK:=rfl
theorem Y0:prog j4=some yZ:=rfl
theorem E5:prog fH=some kN:=rfl
theorem pp:prog eI=some eJ:=rfl
theorem Lf:prog jH=some nT:=rfl
theorem LJ:prog pw=some oO:=rfl
theorem ME:prog fP=some px:=rfl
theorem Pr:prog fO=some qa:=rfl
theorem UE:prog iC=some tZ:=rfl
theorem QX:prog lS=some rX:=rfl
theorem Vb:prog mV=some t9:=rfl
theorem P6:prog ff=some sA:=rfl
theorem ac6:prog tC=some Ep:=rfl
theorem Za:prog sJ=some xW:=rfl
theorem VT:prog kP=some wt:=rfl
theorem Yq:prog j7=some yK:=rfl
theorem zO:prog ed=some jq:=rfl
theorem Yx:prog xV=some yP:=rfl
theorem NZ:prog kI=some pS:=rfl
theorem aaw:prog mh=some Ck:=rfl
theorem C6:prog km=some kh:=rfl
theorem jU:prog f9=some dU:=rfl
theorem tJ:prog b6=some gb:=rfl
theorem LD:prog iU=some pO:=rfl
theorem U6:prog j1=some tU:=rfl
theorem WV:prog vq=some v3:=rfl
theorem Px:prog eC=some pU:=rfl
theorem Yu:prog yU=some za:=rfl
theorem M5:prog eF=some pD:=rfl
theorem jw:prog fK=some dL:=rfl
theorem GE:prog eQ=some mr:=rfl
theorem MI:prog pK=some pe:=rfl
theorem Nh:prog kH=some pV:=rfl
theorem aa5:prog Ca=some AG:=rfl
theorem U1:prog na=some ud:=rfl
theorem Kp:prog jQ=some n5:=rfl
theorem XE:prog qf=some vZ:=rfl
theorem CR:prog kl=some kp:=rfl
theorem HW:prog mu=some mo:=rfl
theorem Hi:prog cZ=some mt:=rfl
theorem rG:prog fj=some fg:=rfl
theorem Xk:prog py=some vx:=rfl
theorem CY:prog kg=some kf:=rfl
theorem ml:prog iw=some eY:=rfl
theorem tH:prog fW=some gg:=rfl
theorem GK:prog jd=some mq:=rfl
theorem mw:prog cH=some dS:=rfl
theorem bN:prog aw=some bg:=rfl
theorem ue:prog f7=some fZ:=rfl
theorem qn:prog cq=some eX:=rfl
end Go.Vm
namespace Go.Vm
set_option maxHeartbeats 2000000
abbrev i64 (n:Int):Prop:=-9223372036854775808≤n∧n≤9223372036854775807
theorem qi (n:Int):aW prog wL [.d (.int .i64 n)]=if 0≤n∧n≤31 then some (.d (.bool true)) else some (.d (.bool false)):=by
 rw[au Xf vu.eq_1 rfl]
 simp
def val:List Nat→Nat→Nat
 | [],n=>n
 | x::r,n=>val r (2*n+x)
abbrev bin (l:List Nat):Prop:=∀ x∈l,x≤1
def adB (b:List Nat) (a s:Int):R Nat :=
 if (0≤s∧s≤31)∧0≤a∧a≤b.length then
  if b.length-a<s then .er 4
  else if bin ((b.drop a.toNat).take s.toNat) then .ok (val ((b.drop a.toNat).take s.toNat) 0) (a.toNat+s.toNat)
  else .er 7
 else .er 1
end Go.Vm
namespace Go.Vm
variable {P:Nat→Option af}
def xJ (l:Nat) (e:am) (x:Option (AV×HS)):Option (aT×St) :=
 match x with
 | some (_,hs)=>match get hs.heap l with
  | some (.loop _ _ _ _ false pend)=>match pend with
   | none=>some (.normal,⟨e,⟨del hs.heap l,hs.next⟩⟩)
   | some o=>some (o,⟨e,⟨del hs.heap l,hs.next⟩⟩)
  | _=>none
 | none=>none
def rgF (P:Nat→Option af) (params:List Nat) (a b:VC) (hs:HS) (x:Option (AV×am)):Option (aT×St) :=
 match x with
 | some (.fn g first caps,e)=>xJ hs.next e ((Dn P).call g (first++([.yield hs.next]++caps)) ⟨put hs.heap hs.next (.loop (e.map fun kv=>(kv.1,share kv.2)) params a b false none),hs.next+1⟩)
 | _=>none
theorem aeN {f:Rd}{params:List Nat}{a b:VC}{e:am}{hs:HS}:(Dn P).code (.rangeF f params a b) ⟨e,hs⟩=rgF P params a b hs (rd e f):=by
 rw[dM]
 simp only[aR,rB,rgF]
 cases rd e f with
 | none=>rfl
 | some p =>
  obtain⟨v,e1⟩:=p
  cases v<;>rfl
theorem aje {params:List Nat}{a b:VC}{h:ac}{n g:Nat}{first caps:List AV}{e:am}:rgF P params a b ⟨h,n⟩ (some (.fn g first caps,e))=xJ n e ((Dn P).call g (first++([.yield n]++caps)) ⟨put h n (.loop (e.map fun kv=>(kv.1,share kv.2)) params a b false none),n+1⟩):=rfl
def pdO (o:Obj):Option (Option aT) :=
 match o with
 | .loop _ _ _ _ false pend=>some pend
 | _=>none
theorem ajv {s:am}{p:List Nat}{a b:VC}{q:Option aT}:pdO (.loop s p a b false q)=some q:=rfl
def pdE (e:am) (hs:HS) (l:Nat) (q:Option aT):Option (aT×St):=some (q.getD .normal,⟨e,⟨del hs.heap l,hs.next⟩⟩)
theorem akk {e:am}{h:ac}{n l:Nat}:pdE e ⟨h,n⟩ l none=some (.normal,⟨e,⟨del h l,n⟩⟩):=rfl
theorem akF {e:am}{h:ac}{n l:Nat}{o:aT}:pdE e ⟨h,n⟩ l (some o)=some (o,⟨e,⟨del h l,n⟩⟩):=rfl
theorem akr {l n:Nat}{e:am}{v:AV}{h:ac}:xJ l e (some (v,⟨h,n⟩))=bA (get h l) fun o=>bA (pdO o) fun q=>pdE e ⟨h,n⟩ l q:=by
 simp only[xJ]
 cases get h l with
 | none=>rfl
 | some o =>
  cases o with
  | loop s p a b busy pend=>cases busy<;>cases pend<;>rfl
  | cells=>rfl
  | arr=>rfl
theorem akm {l:Nat}{e:am}:xJ l e none=none:=rfl
theorem akJ {c:Prop}[Decidable c] {l:Nat}{e:am}{x y:Option (AV×HS)}:xJ l e (if c then x else y)=if c then xJ l e x else xJ l e y:=by split<;>rfl
theorem aj2 {α:Type}{p:α→Nat→Prop}{r:R α}{l:Nat}{e:am}{f:α→Nat→Option (AV×HS)}{g:Nat→Option (AV×HS)}:xJ l e (rK p r f g)=rK p r (fun v n=>xJ l e (f v n)) fun x=>xJ l e (g x):=ab2 (xJ l e)
theorem ahV {l:Nat}{e:am}{x y:Option (AV×HS)}(h:x=y):xJ l e x=xJ l e y:=by rw[h]
def yB (l:Nat) (x:Option (aT×St)):Option (AV×HS) :=
 match x with
 | none=>none
 | some (o,st)=>match get st.hs.heap l with
  | some (.loop snap params assign body true none) =>
   match o with
   | .normal=>some (.bool true,⟨put st.hs.heap l (.loop snap params assign body false none),st.hs.next⟩)
   | o=>some (.bool false,⟨put st.hs.heap l (.loop snap params assign body false (some o)),st.hs.next⟩)
  | _=>none
def yA (P:Nat→Option af) (l:Nat) (body:VC) (x:Option (aT×St)):Option (AV×HS) :=
 match x with
 | some (.normal,st)=>match get st.hs.heap l with
  | some (.loop snap params assign body2 false none)=>yB l ((Dn P).code body ⟨st.env,⟨put st.hs.heap l (.loop snap params assign body2 true none),st.hs.next⟩⟩)
  | _=>none
 | _=>none
def yO (P:Nat→Option af) (l:Nat) (args:List AV) (hs:HS) (o:Obj):Option (AV×HS) :=
 match o with
 | .loop snap params assign body false none=>bA (lh snap params args) fun e=>yA P l body ((Dn P).code assign ⟨e,hs⟩)
 | _=>none
theorem ft {l:Nat}{args:List AV}{hs:HS}:aM (Dn P) (.yield l) args hs=bA (get hs.heap l) fun o=>yO P l args hs o:=by
 simp only[aM,kb]
 cases get hs.heap l with
 | none=>rfl
 | some o =>
  cases o with
  | cells=>rfl
  | arr=>rfl
  | loop snap params assign body busy pend =>
   cases busy
   ·cases pend with
    | some q=>rfl
    | none =>
     simp only[bA,yO]
     cases lh snap params args with
     | none=>rfl
     | some e =>
      simp only
      cases (Dn P).code assign ⟨e,hs⟩ with
      | none=>rfl
      | some p =>
       obtain⟨o,st⟩:=p
       cases o<;>rfl
   ·rfl
theorem ana {l:Nat}{args:List AV}{hs:HS}{s:am}{p:List Nat}{a b:VC}:yO P l args hs (.loop s p a b false none)=bA (lh s p args) fun e=>yA P l b ((Dn P).code a ⟨e,hs⟩):=rfl
def afo (o:Obj):Option Obj :=
 match o with
 | .loop s p a b false none=>some (.loop s p a b true none)
 | _=>none
theorem agu {s:am}{p:List Nat}{a b:VC}:afo (.loop s p a b false none)=some (.loop s p a b true none):=rfl
theorem amG {l:Nat}{b:VC}{e:am}{h:ac}{n:Nat}:yA P l b (some (.normal,⟨e,⟨h,n⟩⟩))=bA (get h l) fun o=>bA (afo o) fun o=>yB l ((Dn P).code b ⟨e,⟨put h l o,n⟩⟩):=by
 simp only[yA]
 cases get h l with
 | none=>rfl
 | some o =>
  cases o with
  | cells=>rfl
  | arr=>rfl
  | loop s p a b busy pend=>cases busy<;>cases pend<;>rfl
def VH (q:Option aT) (o:Obj):Option Obj :=
 match o with
 | .loop s p a b true none=>some (.loop s p a b false q)
 | _=>none
theorem ag4 {q:Option aT}{s:am}{p:List Nat}{a b:VC}:VH q (.loop s p a b true none)=some (.loop s p a b false q):=rfl
theorem anm {l:Nat}{e:am}{h:ac}{n:Nat}:yB l (some (.normal,⟨e,⟨h,n⟩⟩))=bA (get h l) fun o=>bA (VH none o) fun o=>some (.bool true,⟨put h l o,n⟩):=by
 simp only[yB]
 cases get h l with
 | none=>rfl
 | some o =>
  cases o with
  | cells=>rfl
  | arr=>rfl
  | loop s p a b busy pend=>cases busy<;>cases pend<;>rfl
theorem aml {l:Nat}{e:am}{h:ac}{n:Nat}:yB l (some (.ret,⟨e,⟨h,n⟩⟩))=bA (get h l) fun o=>bA (VH (some .ret) o) fun o=>some (.bool false,⟨put h l o,n⟩):=by
 simp only[yB]
 cases get h l with
 | none=>rfl
 | some o =>
  cases o with
  | cells=>rfl
  | arr=>rfl
  | loop s p a b busy pend=>cases busy<;>cases pend<;>rfl
theorem alV {l i:Nat}{e:am}{h:ac}{n:Nat}:yB l (some (.exit i,⟨e,⟨h,n⟩⟩))=bA (get h l) fun o=>bA (VH (some (.exit i)) o) fun o=>some (.bool false,⟨put h l o,n⟩):=by
 simp only[yB]
 cases get h l with
 | none=>rfl
 | some o =>
  cases o with
  | cells=>rfl
  | arr=>rfl
  | loop s p a b busy pend=>cases busy<;>cases pend<;>rfl
theorem am5 {l:Nat}:yB l none=none:=rfl
theorem am2 {c:Prop}[Decidable c] {l:Nat}{x y:Option (aT×St)}:yB l (if c then x else y)=if c then yB l x else yB l y:=by split<;>rfl
theorem amo {α:Type}{p:α→Nat→Prop}{r:R α}{l:Nat}{f:α→Nat→Option (aT×St)}{g:Nat→Option (aT×St)}:yB l (rK p r f g)=rK p r (fun v n=>yB l (f v n)) fun x=>yB l (g x):=ab2 (yB l)
theorem ajF {l:Nat}{x y:Option (aT×St)}(h:x=y):yB l x=yB l y:=by rw[h]
theorem ajY {l:Nat}{b:VC}{x y:Option (aT×St)}(h:x=y):yA P l b x=yA P l b y:=by rw[h]
attribute [simp ↓] aeN aje ajv akk akF akr akm akJ aj2 ana agu amG ag4 anm aml alV am5 am2 amo ft
attribute [congr] ahV ajF ajY
attribute [simp] lh
end Go.Vm
namespace Go.Vm
set_option maxHeartbeats 2000000
def cN (m:Nat) (xs:List (List D)):AV:=match xs with
 | []=>.nl
 | x::r=>.own false m (x::r)
theorem Wl {m:Nat}:cN m []=.nl:=rfl
theorem TM {m:Nat}{x:List D}{r:List (List D)}:cN m (x::r)=.own false m (x::r):=rfl
theorem ka {m:Nat}{xs:List (List D)}(h:xs≠[]):cN m xs=.own false m xs:=by cases xs with | nil=>exact absurd rfl h | cons=>rfl
@[simp] theorem aoF {m:Nat}{xs:List (List D)}:firm (cN m xs)=cN m xs:=by cases xs<;>rfl
@[simp] theorem apD {m:Nat}{xs:List (List D)}:sX (cN m xs)=some (.lst xs):=by cases xs<;>rfl
@[simp] theorem anz {m:Nat}{xs:List (List D)}:AV.cells (cN m xs)=[cN m xs]:=by cases xs<;>rfl
@[simp] theorem an1 {h:ac}{m:Nat}{xs:List (List D)}:elems h (cN m xs)=some xs:=by cases xs<;>rfl
@[simp] theorem apn {m:Nat}{h:ac}{xs:List (List D)}{y:List D}(hy:y.length=m) (hl:xs.length<1000000000):DO m h (cN m xs) (.own false m [y])=some (.own (decide (xs=[])) m (xs++[y]),h):=by
 subst hy
 cases xs with
 | nil=>simp[cN,elems,decide_true]
 | cons x r=>simp[cN,elems];simp at hl;omega
@[simp] theorem aph {m:Nat}{h:ac}{xs:List (List D)}{y:List D}(hl:xs.length<1000000000):bK m h (cN m xs) [y]=some (.own (decide (xs=[])) m (xs++[y]),h):=by
 cases xs with
 | nil=>simp[cN,decide_true]
 | cons x r=>simp[cN];simp at hl;omega
def ad1 (o:Obj) (h:ac) (id off len:Nat):Option (AV×ac) :=
 match o with
 | .arr m xs=>dt (Nat.ble (off+len) xs.length) (some (.own true m (sub xs off len),del h id))
 | _=>none
@[simp ↓] theorem aoN {m:Nat}{xs:List (List D)}{h:ac}{id off len:Nat}:ad1 (.arr m xs) h id off len=dt (Nat.ble (off+len) xs.length) (some (.own true m (sub xs off len),del h id)):=(rfl)
@[simp] theorem ao9 {h:ac}{id off len:Nat}:fe h (.sl id off len)=bA (get h id) fun o=>ad1 o h id off len:=by
 simp only[fe]
 cases get h id with
 | none=>rfl
 | some o =>
  cases o with
  | arr m xs=>simp only[bA,ad1];cases Nat.ble (off+len) xs.length<;>rfl
  | cells cs=>rfl
  | loop=>rfl
end Go.Vm
namespace Go.Vm
set_option maxHeartbeats 2000000
set_option maxRecDepth 100000
def al (n:Nat):Nat→List Nat
 | 0=>[]
 | k+1=>n / 2 ^ k % 2::al n k
@[simp] theorem eB {n:Nat}:∀ {k:Nat},(al n k).length=k
 | 0=>rfl
 | k+1=>by rw[al,List.length_cons,eB]
theorem adZ {n k:Nat}(hk:k≤63):aV .shr (.d (.int .i64 (n:Int))) (.d (.int .i64 (k:Int)))=some (.int .i64 ((n / 2 ^ k:Nat):Int)):=by
 rw[fJ (by omega)]
 have:min ((k:Int)).toNat IntKind.i64.bits=k:=by simp only[Int.toNat_natCast,IntKind.bits];omega
 rw[this,Int.fdiv_eq_ediv_of_nonneg _ (Int.natCast_nonneg _),←Int.natCast_ediv]
theorem am6 {a:Nat}(h:a<9223372036854775808):aV .and (.d (.int .i64 (a:Int))) (.d (.int .i64 1))=some (.int .i64 ((a % 2:Nat):Int)):=by
 have:=acn (k:=.i64) (a:=a) (b:=1) (by simpa [pq,IntKind.signed] using h) (by decide)
 rw[Nat.and_one_is_mod]at this
 exact this
theorem acV {σ:Type}{hp:σ→ac}{l p N:Nat}{st:σ→Nat→σ}{bp:Nat→σ→Prop}(hI:∀ k s x,bp (k+1) s→bp k (st s x)) (n:Nat) (hn:n≤9223372036854775807) (hg:∀ s,get (hp s) p=some (.cells [.d (.int .i64 n)]))
  (hy:∀ (k:Nat) (s:σ) (x:Nat),bp (k+1) s→x≤1→aM (Dn prog) (.yield l) [.d (.int .u8 (x:Int))] ⟨hp s,N⟩=some (.d (.bool true),⟨hp (st s x),N⟩)):∀ (k:Nat) (I:Int) (s:σ),k≤31→bp k s→I=k-1→
  (Dn prog).code (.loop jO) ⟨[(0,.yield l),(2,.ptr p 0),(4,.d (.int .i64 I))],⟨hp s,N⟩⟩=some (.exit 0,⟨[],⟨hp ((al n k).foldl st s),N⟩⟩):=by
 intro k
 induction k with
 | zero =>
  intro I s hk hi hI
  subst hI
  rw[aa jO.eq_1]
  simp (maxSteps:=300000) (disch:=omega) [↓if_neg,al]
 | succ k ih =>
  intro I s hk hi hI
  subst hI
  have c:((k+1:Nat):Int)-1=(k:Int):=by omega
  have h1:n / 2 ^ k≤n:=Nat.div_le_self _ _
  have h2:=adZ (n:=n) (k:=k) (by omega)
  have h3:=am6 (a:=n / 2 ^ k) (by omega)
  have h4:=hy k s (n / 2 ^ k % 2) hi (by omega)
  have h5:=ih ((k:Int)-1) (st s (n / 2 ^ k % 2)) (by omega) (hI _ _ _ hi) rfl
  rw[c,aa jO.eq_1,al,List.foldl_cons]
  generalize n / 2 ^ k=Q at *
  have c2:((Q % 2:Nat):Int)=(Q:Int) % 2:=by omega
  rw[c2]at h4
  simp (maxSteps:=300000) (disch:=omega) [↓if_pos,hg,-fJ,h2,h3,-ft,h4]
  exact h5
theorem aiU {σ:Type}{hp:σ→ac}{l p q N:Nat}{st:σ→Nat→σ}{bp:Nat→σ→Prop}(hI:∀ k s x,bp (k+1) s→bp k (st s x)) (n k:Nat) (hn:n≤9223372036854775807) (hk:k≤31) (hg:∀ s,get (hp s) p=some (.cells [.d (.int .i64 n)])) (hg2:∀ s,get (hp s) q=some (.cells [.d (.int .i64 k)]))
  (hy:∀ (k:Nat) (s:σ) (x:Nat),bp (k+1) s→x≤1→aM (Dn prog) (.yield l) [.d (.int .u8 (x:Int))] ⟨hp s,N⟩=some (.d (.bool true),⟨hp (st s x),N⟩)) (s:σ) (hs:bp k s) :
  (Dn prog).call j1 [.yield l,.ptr q 0,.ptr p 0] ⟨hp s,N⟩=some (.tup [],⟨hp ((al n k).foldl st s),N⟩):=by
 rw[aJ U6 tU.eq_1 rfl]
 have h:=acV hI n hn hg hy k ((k:Int)-1) s hk hs rfl
 simp (maxSteps:=300000) (disch:=omega) [hg2,h]
abbrev aej (n k:Int) (acc:List Nat):ac:=[(0,.cells [.d (.int .i64 n)]),(1,.cells [.d (.int .i64 k)]),(2,.cells [.own false 1 (ah acc)]),(3,.loop [(2,.ptr 2 0)] [7] fy fD false none)]
theorem adA {l acc:List Nat}:l.foldl (fun(s:List Nat) x=>s++[x]) acc=acc++l:=by
 induction l generalizing acc with
 | nil=>simp
 | cons x r ih=>rw[List.foldl_cons,ih];simp
theorem al1 (n k:Int) (s:List Nat) (x:Nat) (hs:s.length≤990000000):aM (Dn prog) (.yield 3) [.d (.int .u8 (x:Int))] ⟨aej n k s,4⟩=some (.d (.bool true),⟨aej n k (s++[x]),4⟩):=by
 have hl:(ah s).length=s.length:=by simp[ah]
 simp (maxSteps:=300000) (disch:=omega) [fy,fD]
 omega
theorem Rz (acc:List Nat) (n k:Nat) (hn:n≤9223372036854775807) (hk:k≤31) (ha:acc.length≤900000000) :
  (Dn prog).call ik [.own false 1 (ah acc),.fn j1 [] [.ptr 1 0,.ptr 0 0]] ⟨[(0,.cells [.d (.int .i64 n)]),(1,.cells [.d (.int .i64 k)])],2⟩ =
  some (.own false 1 (ah (acc++al n k)),⟨[(0,.cells [.d (.int .i64 n)]),(1,.cells [.d (.int .i64 k)]),(2,.cells [.junk])],4⟩):=by
 have h:=aiU (hp:=aej n k) (l:=3) (p:=0) (q:=1) (N:=4) (st:=fun s x=>s++[x]) (bp:=fun k s=>s.length+k≤980000000) (fun k s x h=>by simp only[List.length_append,List.length_cons,List.length_nil];omega) n k hn hk (fun s=>by simp) (fun s=>by simp) (fun j s x h _=>al1 n k s x (by omega)) acc (by omega)
 rw[adA]at h
 rw[aJ wQ ic.eq_1 rfl]
 simp (maxSteps:=300000) (disch:=omega) [rd,h]
theorem abX (n k:Int):(Dn prog).call yy [.d (.int .i64 n),.d (.int .i64 k)] ⟨[],0⟩=some (.fn j1 [] [.ptr 1 0,.ptr 0 0],⟨[(0,.cells [.d (.int .i64 n)]),(1,.cells [.d (.int .i64 k)])],2⟩):=by
 rw[aJ Y4 yF.eq_1 rfl]
 simp (maxSteps:=300000) (disch:=omega)
abbrev io (n s:Int):Prop:=(0≤s∧s≤31)∧0≤n∧n.toNat<2 ^ s.toNat
theorem zz (x:AV) (b:List Nat) (hb:b.length≤1000000000) (hx:elems [] x=some (ah b)):aW prog dD [x]=some (.own true 1 (ah b)):=by
 have hl:(ah b).length=b.length:=by simp[ah]
 rw[au BG jS.eq_1 rfl]
 have h4:Nat.ble b.length 4294967296=true:=by rw[Nat.ble_eq];omega
 rw[dM]
 simp (maxSteps:=300000) (disch:=omega) [aR,FC,hx,h4]
theorem il (b:List Nat) (n s:Int) (hb:b.length≤900000000) (hn:i64 n) (x:AV) (hx:x=.d (.lst (ah b))∨x=.nl∧b=[]):aW prog cx [x,.d (.int .i64 n),.d (.int .i64 s)] =
  if io n s then some (.tup [.own true 1 (ah (b++al n.toNat s.toNat)),.d (.int .i64 0)]) else some (.tup [.nl,.d (.int .i64 2)]):=by
 have hc:aW prog dD [x]=some (.own true 1 (ah b)):=by
  refine zz x b (by omega) ?_
  rcases hx with rfl | ⟨rfl,rfl⟩<;>rfl
 rw[au aan AU.eq_1 rfl]
 by_cases h1:0≤s∧s≤31
 ·obtain⟨S,rfl⟩:=Int.eq_ofNat_of_zero_le h1.1
  by_cases h2:n<0
  ·rw[if_neg (by simp only[io];omega)]
   simp (maxSteps:=300000) (disch:=omega) [qi,↓if_pos,↓if_neg]
  ·obtain⟨M,rfl⟩:=Int.eq_ofNat_of_zero_le (Int.not_lt.1 h2)
   have h3:=adZ (n:=M) (k:=S) (by omega)
   by_cases h4:M<2 ^ S
   ·rw[if_pos (by simp only[io,Int.toNat_natCast];omega)]
    rw[Nat.div_eq_of_lt h4]at h3
    have h5:=Rz b M S (by omega) (by omega) hb
    rcases hx with rfl | ⟨rfl,rfl⟩
    ·simp (maxSteps:=300000) (disch:=omega) [qi,↓if_pos,↓if_neg,-fJ,h3,hc,abX,h5]
    ·simp (maxSteps:=300000) (disch:=omega) [qi,↓if_pos,↓if_neg,-fJ,h3,hc,abX,h5]
   ·rw[if_neg (by simp only[io,Int.toNat_natCast];omega)]
    have h6:M / 2 ^ S≠0:=by
     intro h
     rcases Nat.div_eq_zero_iff.1 h with h | h
     ·have:=Nat.two_pow_pos S;omega
     ·exact h4 h
    have h7:¬ (((M / 2 ^ S:Nat):Int)=0):=by omega
    generalize M / 2 ^ S=Q at *
    simp (maxSteps:=300000) (disch:=omega) [qi,↓if_pos,↓if_neg,-fJ,h3]
 ·rw[if_neg (by simp only[io];omega)]
  simp (maxSteps:=300000) (disch:=omega) [qi,↓if_pos,↓if_neg]
end Go.Vm
namespace Go.Vm
set_option maxHeartbeats 2000000
set_option maxRecDepth 100000
def aam (k lines by_:Nat):Nat→Nat→List Nat
 | 0,at_=>[at_]
 | f+1,at_=>at_::if at_<lines then aam k lines by_ f (min lines (at_+4+4*(at_*k / by_))) else []
def bj (rate:Nat) (short:Bool):List Nat:=cond short (aam (3+(11-rate) / 2) 32 64 99 0) (aam (3+(11-rate) / 2) 256 256 99 0)
def uQ:List (Nat×Bool):=(List.range 12).flatMap fun r=>[(r,false),(r,true)]
theorem iX {r:Nat}{s:Bool}(h:r<12):(r,s)∈uQ:=by
 simp only[uQ,List.mem_flatMap,List.mem_range]
 exact⟨r,h,by cases s<;>simp⟩
theorem Ub:∀ x∈uQ,aW prog gO [.d (.int .i64 x.1),.d (.bool x.2)]=some (.tup [.own true 1 (bm (bj x.1 x.2)),.d (.int .i64 0)]):=wj 100 uQ (by kernel_rfl)
theorem OC:∀ x∈uQ,1≤(bj x.1 x.2).length∧(bj x.1 x.2).length≤64:=by decide +kernel
def pg (rate:Nat) (short:Bool):Nat:=(bj rate short).length-1
theorem Jl {r:Nat}{s:Bool}(h:r<12):pg r s≤63:=by
 have:=OC _ (iX (s:=s) h);simp only[pg]at *;omega
abbrev iN (r:Int):Prop:=0≤r∧r≤11
end Go.Vm
namespace Go.Vm
set_option maxHeartbeats 2000000
theorem pt (r:Int) (s:Bool):aW prog gO [.d (.int .i64 r),.d (.bool s)]=if iN r then some (.tup [.own true 1 (bm (bj r.toNat s)),.d (.int .i64 0)]) else some (.tup [.nl,.d (.int .i64 2)]):=by
 by_cases h:iN r
 ·obtain⟨R,rfl⟩:=Int.eq_ofNat_of_zero_le h.1
  rw[if_pos h,Ub (R,s) (iX (by omega))];rfl
 ·rw[if_neg h,au PW rl.eq_1 rfl]
  simp (maxSteps:=300000) (disch:=omega) [↓if_pos,af4]
theorem xz (r:Int) (s:Bool):aW prog yo [.d (.int .i64 r),.d (.bool s)]=if iN r then some (.tup [.d (.int .i64 (pg r.toNat s)),.d (.int .i64 0)]) else some (.tup [.d (.int .i64 0),.d (.int .i64 2)]):=by
 rw[au YG yV.eq_1 rfl]
 by_cases h:iN r
 ·have h2:=OC _ (iX (r:=r.toNat) (s:=s) (by omega))
  simp (maxSteps:=300000) (disch:=omega) only at h2
  simp (maxSteps:=300000) (disch:=omega) [pt,if_pos h,pg]
  split<;>simp<;>omega
 ·simp (maxSteps:=300000) (disch:=omega) [pt,if_neg h]
end Go.Vm
namespace Go.Vm
set_option maxHeartbeats 2000000
structure aG where
 seq:Nat
 shape:Nat
 max:Int
 groups:List Int
@[simp] def aG.cells (i:aG):List AV:=[.d (.int .u8 i.seq),.d (.int .u8 i.shape),.d (.int .i64 i.max),.d (.lst (aP i.groups))]
structure aG.Fit (i:aG):Prop where
 seq:i.seq≤255
 shape:i.shape≤255
 max:i64 i.max
 len:i.groups.length≤1000
 groups:∀ n∈i.groups,i64 n
theorem MF (a b:List Int) (hl:a.length≤1000000) (he:a.length=b.length) (h:ac) (m:Nat):∀ (k i:Nat) (I:Int),I=i→i+k=a.length→
  (Dn prog).code (.loop fq) ⟨[(0,.d (.lst (aP a))),(1,.d (.lst (aP b))),(12,.d (.int .i64 a.length)),(13,.d (.int .i64 I))],⟨h,m⟩⟩=if a.drop i=b.drop i then some (.exit 0,⟨[],⟨h,m⟩⟩) else some (.ret,⟨[(4,.d (.bool false))],⟨h,m⟩⟩):=by
 intro k
 induction k with
 | zero =>
  intro i I hI hi
  subst hI
  rw[aa fq.eq_1,List.drop_eq_nil_of_le (by omega),List.drop_eq_nil_of_le (by omega)]
  simp (maxSteps:=300000) (disch:=omega) [↓if_neg]
 | succ k ih =>
  intro i I hI hi
  subst hI
  rw[aa fq.eq_1,lv (l:=a) (by omega),lv (l:=b) (by omega)]
  simp (maxSteps:=300000) (disch:=omega) [↓if_pos]
  rw[ih (i+1) _ (by omega) (by omega)]
  by_cases hx:nth a i=nth b i<;>simp[hx]
theorem WS (a b:List Int) (hl:a.length≤1000000) (hb:b.length≤1000000):aW prog km [.d (.lst (aP a)),.d (.lst (aP b))]=if a=b then some (.d (.bool true)) else some (.d (.bool false)):=by
 rw[au C6 kh.eq_1 rfl]
 by_cases he:a.length=b.length
 ·have:=MF a b hl he [] 0 a.length 0 0 rfl (by omega)
  simp (maxSteps:=300000) (disch:=omega) [this,↓if_pos]
 ·have:a≠b:=fun h=>he (by rw[h])
  simp (maxSteps:=300000) (disch:=omega) [this,↓if_neg]
def aG.grouped (i:aG):Prop:=if i.seq=2 then (∀ n∈i.groups,1≤n∧n≤8)∧i.groups.sum=8∧(i.groups.length:Int)≤8 else i.groups=[1]
instance {i:aG}:Decidable i.grouped:=by unfold aG.grouped;infer_instance
theorem aa6 (i:aG) (hi:i.groups.length≤1000) (m:Nat):∀ (k j:Nat) (J S:Int),J=j→j+k=i.groups.length→0≤S∧S≤8*j→
  (Dn prog).code (.loop i9) ⟨[(1,.ptr 0 0),(3,.d (.int .i64 S)),(14,.d (.lst (aP i.groups))),(15,.d (.int .i64 i.groups.length)),(16,.d (.int .i64 J))],⟨[(0,.cells i.cells)],m⟩⟩ =
   if ∀ n∈i.groups.drop j,1≤n∧n≤8 then some (.exit 0,⟨[(1,.ptr 0 0),(3,.d (.int .i64 (S+(i.groups.drop j).sum)))],⟨[(0,.cells i.cells)],m⟩⟩) else some (.ret,⟨[(2,.d (.bool false))],⟨[(0,.cells i.cells)],m⟩⟩):=by
 simp only[aG.cells]
 intro k
 induction k with
 | zero =>
  intro j J S hJ hj hS
  subst hJ
  rw[aa i9.eq_1,List.drop_eq_nil_of_le (by omega)]
  simp (maxSteps:=300000) (disch:=omega) [↓if_neg]
 | succ k ih =>
  intro j J S hJ hj hS
  subst hJ
  rw[aa i9.eq_1,lv (by omega)]
  simp (maxSteps:=300000) (disch:=omega) [↓if_pos]
  by_cases hx:1≤nth i.groups j∧nth i.groups j≤8
  ·rw[if_neg (by omega),ih (j+1) _ _ (by omega) (by omega) (by omega)]
   simp[hx,Int.add_assoc]
  ·rw[if_pos (by omega),if_neg (fun h=>hx ⟨h.1.1,h.1.2⟩)]
theorem W3 (i:aG) (hi:i.Fit):aW prog rE [.agg i.cells]=if i.grouped then some (.d (.bool true)) else some (.d (.bool false)):=by
 have hl:=hi.len
 rw[au SR sE.eq_1 rfl]
 unfold aG.grouped
 by_cases hs:i.seq=2
 ·have:=aa6 i hi.len 1 i.groups.length 0 0 0 rfl (by omega) (by omega)
  simp only[aG.cells]at this
  simp (maxSteps:=300000) (disch:=omega) [↓if_pos,↓if_neg,this]
 ·have:=WS i.groups [1] (by omega) (by simp)
  have h1:aP [1]=[[.int .i64 1]]:=rfl
  rw[h1]at this
  simp (maxSteps:=300000) (disch:=omega) [this,↓if_neg,↓if_pos]
def aG.may (r:Nat) (i:aG):Prop:=i.seq≤3∧i.shape≤1∧0≤i.max∧i.max≤pg r (decide (i.seq=2))∧i.grouped
instance {r:Nat}{i:aG}:Decidable (i.may r):=by unfold aG.may;infer_instance
theorem Bq (r:Int) (i:aG) (hi:i.Fit):aW prog je [.d (.int .i64 r),.agg i.cells]=if iN r then if i.may r.toNat then some (.d (.int .i64 0)) else some (.d (.int .i64 8)) else some (.d (.int .i64 2)):=by
 have hg:=W3 i hi
 simp only[aG.cells]at hg
 rw[au XU wn.eq_1 rfl]
 by_cases hr:iN r
 ·by_cases hs:i.seq=2
  ·simp (config := { maxSteps:=1000000 }) (disch:=omega) [xz,↓if_pos,↓if_neg,hg]
   refine afC ?_
   by_cases h:i.grouped<;>simp[aG.may,h,hs]
   omega
  ·simp (config := { maxSteps:=1000000 }) (disch:=omega) [xz,↓if_pos,↓if_neg,hg]
   refine afC ?_
   by_cases h:i.grouped<;>simp[aG.may,h,hs]
   omega
 ·by_cases hs:i.seq=2
  ·simp (config := { maxSteps:=1000000 }) (disch:=omega) [xz,↓if_pos,↓if_neg]
  ·simp (config := { maxSteps:=1000000 }) (disch:=omega) [xz,↓if_pos,↓if_neg]
theorem ab1 (i:aG) (hi:i.Fit):aW prog yW [.agg i.cells]=if i.may 11 then some (.d (.bool true)) else some (.d (.bool false)):=by
 have hg:=Bq 11 i hi
 simp only[aG.cells]at hg
 rw[au YS yY.eq_1 rfl]
 simp (config := { maxSteps:=1000000 }) (disch:=omega) [hg,↓if_pos]
def aG.many (i:aG):Nat:=if i.seq=2 then 8 else 1
theorem pQ (i:aG) (hi:i.Fit):aW prog fk [.agg i.cells]=if i.may 11 then some (.tup [.d (.int .i64 i.many),.d (.int .i64 0)]) else some (.tup [.d (.int .i64 0),.d (.int .i64 8)]):=by
 have hg:=ab1 i hi
 simp only[aG.cells]at hg
 rw[au Qu sj.eq_1 rfl]
 by_cases hs:i.seq=2
 ·simp (config := { maxSteps:=1000000 }) (disch:=omega) [hg,↓if_pos,aG.many]
 ·simp (config := { maxSteps:=1000000 }) (disch:=omega) [hg,↓if_neg,aG.many]
theorem ou:∀ {l:List Int},(∀ n∈l,1≤n)→(l.length:Int)≤l.sum
 | [],_=>by simp
 | x::r,h=>by
  have:=ou (l:=r) (fun n hn=>h n (by simp[hn]))
  have:=h x (by simp)
  simp;omega
end Go.Vm
namespace Go.Vm
set_option maxHeartbeats 2000000
set_option maxRecDepth 100000
structure Hv (hp:AV→ac) (p:Nat):Prop where
 get:∀ v,get (hp v) p=some (.cells [v])
 put:∀ v w,put (hp v) p (.cells [w])=hp w
def inB (x:AV) (b:List Nat):Prop:=x=.own false 1 (ah b)∨x=.d (.lst (ah b))∨x=.nl∧b=[]
theorem rT {b:List Nat}:inB (.own false 1 (ah b)) b:=.inl rfl
theorem Bt {hp:AV→ac}{p N:Nat}(H:Hv hp p) {x:AV}{b:List Nat}(hx:inB x b) (hb:b.length≤900000000) (n s:Int) (ho:io n s) (hn:i64 n) :
  (Dn prog).call lD [.d (.int .i64 n),.d (.int .i64 s),.ptr p 0] ⟨hp x,N⟩=some (.tup [],⟨hp (.own false 1 (ah (b++al n.toNat s.toNat))),N⟩):=by
 have h1:=fun x hx=>il b n s hb hn x hx
 simp only[if_pos ho]at h1
 rw[aJ Ya wc.eq_1 rfl]
 rcases hx with rfl | rfl | ⟨rfl,rfl⟩
 ·have h2:=h1 _ (.inl rfl)
  simp (maxSteps:=300000) (disch:=omega) [H.get,H.put,h2]
 ·have h2:=h1 _ (.inl rfl)
  simp (maxSteps:=300000) (disch:=omega) [H.get,H.put,h2]
 ·have h2:=h1 _ (.inr ⟨rfl,rfl⟩)
  simp (maxSteps:=300000) (disch:=omega) [H.get,H.put,h2]
theorem lK {hp:AV→ac}{p N:Nat}(H:Hv hp p) {x:AV}{b:List Nat}(hx:inB x b) (hb:b.length≤900000000) (n s:Nat) (hs:s≤31) (ho:n<2 ^ s) (nI sI:Int) (en:nI=n) (es:sI=s) :
  (Dn prog).call lD [.d (.int .i64 nI),.d (.int .i64 sI),.ptr p 0] ⟨hp x,N⟩=some (.tup [],⟨hp (.own false 1 (ah (b++al n s))),N⟩):=by
 subst en es
 have h31:2 ^ s≤2 ^ 31:=Nat.pow_le_pow_right (by omega) hs
 exact Bt H hx hb n s (by simp only[io,Int.toNat_natCast];omega) (by omega)
def ip:List Int→Int→Nat
 | [],_=>0
 | n::r,w=>if w<n then 0 else ip r (w-n)+1
theorem UF (i:aG) (hi:i.groups.length≤1000) (hg:∀ n∈i.groups,1≤n∧n≤8) (m:Nat):∀ (r:List Int) (g:Nat) (w:Int),i.groups.drop g=r→0≤w→w<r.sum→w≤8→
  (Dn prog).code (.loop pP) ⟨[(2,.ptr 0 0),(8,.d (.int .i64 g)),(9,.d (.int .i64 w))],⟨[(0,.cells i.cells)],m⟩⟩=some (.exit 0,⟨[(8,.d (.int .i64 (g+ip r w:Nat)))],⟨[(0,.cells i.cells)],m⟩⟩):=by
 simp only[aG.cells]
 intro r
 induction r with
 | nil=>intro g w h1 h2 h3;simp at h3;omega
 | cons n r ih =>
  intro g w h1 h2 h3 h4
  have hlt:g<i.groups.length:=by
   rcases Nat.lt_or_ge g i.groups.length with h | h
   ·exact h
   ·rw[List.drop_eq_nil_of_le h]at h1;exact absurd h1 (by simp)
  have h5:=List.drop_eq_getElem_cons hlt
  have e1:i.groups[g]=n∧i.groups.drop (g+1)=r:=by rw[h1]at h5;injection h5 with a b;exact⟨a.symm,b.symm⟩
  have hn:=hg _ (List.getElem_mem hlt)
  rw[e1.1]at hn
  have hnt:nth i.groups g=n:=by have:=oA hlt;rw[List.getElem?_eq_getElem hlt,e1.1]at this;injection this with this;exact this.symm
  rw[aa pP.eq_1,ip]
  by_cases h6:w<n
  ·rw[if_pos h6]
   simp (maxSteps:=300000) (disch:=omega) [↓if_pos,↓if_neg,hnt]
  ·have h7:=ih (g+1) (w-n) e1.2 (by omega) (by simp only[List.sum_cons]at h3;omega) (by omega)
   have c1:((g+1:Nat):Int)=(g:Int)+1:=rfl
   have c2:g+1+ip r (w-n)=g+(ip r (w-n)+1):=by omega
   rw[c1,c2]at h7
   rw[if_neg h6]
   simp (maxSteps:=300000) (disch:=omega) [↓if_pos,↓if_neg,hnt]
   exact h7
theorem gu {i:aG}(hm:i.may 11):(∀ n∈i.groups,1≤n∧n≤8)∧i.groups.sum=i.many:=by
 obtain⟨_,_,_,_,h⟩:=hm
 unfold aG.grouped at h
 unfold aG.many
 by_cases hs:i.seq=2
 ·rw[if_pos hs]at h⊢
  exact⟨h.1,h.2.1⟩
 ·rw[if_neg hs]at h⊢
  rw[h]
  simp
theorem AQ (i:aG) (hi:i.Fit) (hm:i.may 11) (w:Int) (h0:0≤w) (h1:w<i.many):aW prog ln [.agg i.cells,.d (.int .i64 w)]=some (.tup [.d (.int .i64 (ip i.groups w)),.d (.int .i64 0)]):=by
 have hw:=pQ i hi
 rw[if_pos hm]at hw
 obtain⟨g1,g2⟩:=gu hm
 have hmm:i.many≤8:=by unfold aG.many;split<;>omega
 have hl:=UF i hi.len g1 1 i.groups 0 w rfl h0 (by omega) (by omega)
 have c0:((0:Nat):Int)=0:=rfl
 rw[c0,Nat.zero_add]at hl
 simp only[aG.cells]at hw hl
 rw[au XK wV.eq_1 rfl]
 simp (maxSteps:=300000) (disch:=omega) [hw,↓if_pos,↓if_neg,hl]
theorem OH:∀ x∈uQ,pg x.1 x.2≤pg 11 x.2∧pg x.1 true≤14:=by decide +kernel
theorem vt {r:Nat}{i:aG}(hr:r≤11) (h:i.may r):i.may 11:=by
 obtain⟨h1,h2,h3,h4,h5⟩:=h
 have:=(OH _ (iX (r:=r) (s:=decide (i.seq=2)) (by omega))).1
 exact⟨h1,h2,h3,by simp only[]at this;omega,h5⟩
def Tg (g:List Int):Nat→Nat→List Nat
 | 0,_=>[]
 | k+1,w=>(if ip g w=ip g (w+1) then al 1 1 else al 0 1)++Tg g k (w+1)
theorem Z4 {g:List Int}:∀ {k w:Nat},(Tg g k w).length=k
 | 0,_=>rfl
 | k+1,w=>by rw[Tg,List.length_append,Z4];split<;>simp<;>omega
def kC (i:aG):List Nat:=al 0 1++(al i.seq 2++(al i.shape 1++(if i.seq=2 then al i.max.toNat 4++Tg i.groups 7 0 else al i.max.toNat 6++al 0 1)))
abbrev hpP (i:aG) (v:AV):ac:=[(0,.cells [v]),(1,.cells i.cells)]
theorem Dt (i:aG):Hv (hpP i) 0:=⟨fun v=>by simp,fun v w=>by simp⟩
theorem Y9 (i:aG) (hi:i.Fit) (hm:i.may 11) (hs:i.seq=2) (N:Nat):∀ (k w:Nat) (b:List Nat),w+k=7→b.length≤800000000+w→
  (Dn prog).code (.loop mR) ⟨[(3,.ptr 0 0),(5,.ptr 1 0),(9,.fn lD [] [.ptr 0 0]),(10,.d (.int .i64 ((w:Int)+1)))],⟨hpP i (.own false 1 (ah b)),N⟩⟩ =
  some (.exit 0,⟨[(3,.ptr 0 0)],⟨hpP i (.own false 1 (ah (b++Tg i.groups k w))),N⟩⟩):=by
 have hmm:i.many=8:=by unfold aG.many;rw[if_pos hs]
 intro k
 induction k with
 | zero =>
  intro w b h1 h2
  rw[aa mR.eq_1,Tg]
  simp (maxSteps:=300000) (disch:=omega) [↓if_neg]
 | succ k ih =>
  intro w b h1 h2
  have g1:=AQ i hi hm w (by omega) (by omega)
  have g2:=AQ i hi hm (w+1) (by omega) (by omega)
  have p1:=Bt (Dt i) (N:=N) (rT (b:=b)) (by omega) 1 1 (by decide) (by omega)
  have p0:=Bt (Dt i) (N:=N) (rT (b:=b)) (by omega) 0 1 (by decide) (by omega)
  have i1:=ih (w+1) (b++al 1 1) (by omega) (by simp;omega)
  have i0:=ih (w+1) (b++al 0 1) (by omega) (by simp;omega)
  have c1:((w+1:Nat):Int)=(w:Int)+1:=rfl
  have t1:(1:Int).toNat=1:=rfl
  have t0:(0:Int).toNat=0:=rfl
  simp only[aG.cells]at g1 g2
  simp only[c1,t1,t0,List.append_assoc]at p1 p0 i1 i0
  rw[aa mR.eq_1,Tg]
  by_cases h:ip i.groups w=ip i.groups (w+1)
  ·rw[if_pos h]
   simp (maxSteps:=300000) (disch:=omega) [↓if_pos,g1,g2,h,p1]
   exact i1
  ·rw[if_neg h]
   simp (maxSteps:=300000) (disch:=omega) [↓if_pos,↓if_neg,g1,g2,h,p0]
   exact i0
theorem W6 (b:List Nat) (hb:b.length≤700000000) (x:AV) (hx:x=.d (.lst (ah b))∨x=.nl∧b=[]) (r:Int) (i:aG) (hi:i.Fit):aW prog uV [x,.d (.int .i64 r),.agg i.cells] =
  if iN r then if i.may r.toNat then some (.tup [.own true 1 (ah (b++kC i)),.d (.int .i64 0)]) else some (.tup [.nl,.d (.int .i64 8)]) else some (.tup [.nl,.d (.int .i64 2)]):=by
 have hc:=Bq r i hi
 simp only[aG.cells]at hc
 have hxx:inB x b:=by
  rcases hx with rfl | ⟨rfl,rfl⟩
  ·exact .inr (.inl rfl)
  ·exact .inr (.inr ⟨rfl,rfl⟩)
 rw[au aa2 Bn.eq_1 rfl]
 by_cases hr:iN r
 ·rw[if_pos hr]at hc⊢
  by_cases hm:i.may r.toNat
  ·rw[if_pos hm]at hc⊢
   have hm11:i.may 11:=vt (by omega) hm
   obtain⟨m1,m2,m3,m4,m5⟩:=hm
   have hmb:=Jl (r:=r.toNat) (s:=decide (i.seq=2)) (by omega)
   have q1:=lK (Dt i) (N:=2) hxx (by omega) 0 1 (by decide) (by decide) 0 1 rfl rfl
   have q2:=lK (Dt i) (N:=2) (rT (b:=b++al 0 1)) (by simp;omega) i.seq 2 (by decide) (by omega) i.seq 2 rfl rfl
   have q3:=lK (Dt i) (N:=2) (rT (b:=b++al 0 1++al i.seq 2)) (by simp;omega) i.shape 1 (by decide) (by omega) i.shape 1 rfl rfl
   by_cases hs:i.seq=2
   ·rw[decide_eq_true hs]at m4
    have hmb:=(OH _ (iX (r:=r.toNat) (s:=true) (by omega))).2
    simp only[]at hmb
    have q4:=lK (Dt i) (N:=2) (rT (b:=b++al 0 1++al i.seq 2++al i.shape 1)) (by simp;omega) i.max.toNat 4 (by decide) (by omega) i.max 4 (by omega) rfl
    have q5:=Y9 i hi hm11 hs 2 7 0 (b++al 0 1++al i.seq 2++al i.shape 1++al i.max.toNat 4) (by omega) (by simp;omega)
    have c0:((0:Nat):Int)+1=1:=rfl
    rw[c0]at q5
    have e:b++al 0 1++al i.seq 2++al i.shape 1++al i.max.toNat 4++Tg i.groups 7 0=b++kC i:=by simp only[kC,if_pos hs,List.append_assoc]
    rw[e]at q5
    simp only[hpP,aG.cells]at q1 q2 q3 q4 q5
    generalize b++al 0 1=B1 at *
    generalize B1++al i.seq 2=B2 at *
    generalize B2++al i.shape 1=B3 at *
    generalize B3++al i.max.toNat 4=B4 at *
    generalize kC i=IB at *
    rcases hx with rfl | ⟨rfl,rfl⟩
    all_goals
     simp (maxSteps:=300000) (disch:=omega) [hc,↓if_pos,↓if_neg,q1,q2,q3,q4,q5]
   ·have q4:=lK (Dt i) (N:=2) (rT (b:=b++al 0 1++al i.seq 2++al i.shape 1)) (by simp;omega) i.max.toNat 6 (by decide) (by omega) i.max 6 (by omega) rfl
    have q5:=lK (Dt i) (N:=2) (rT (b:=b++al 0 1++al i.seq 2++al i.shape 1++al i.max.toNat 6)) (by simp;omega) 0 1 (by decide) (by decide) 0 1 rfl rfl
    have e:b++al 0 1++al i.seq 2++al i.shape 1++al i.max.toNat 6++al 0 1=b++kC i:=by simp only[kC,if_neg hs,List.append_assoc]
    rw[e]at q5
    simp only[hpP,aG.cells]at q1 q2 q3 q4 q5
    generalize b++al 0 1=B1 at *
    generalize B1++al i.seq 2=B2 at *
    generalize B2++al i.shape 1=B3 at *
    generalize B3++al i.max.toNat 6=B4 at *
    generalize kC i=IB at *
    rcases hx with rfl | ⟨rfl,rfl⟩
    all_goals
     simp (maxSteps:=300000) (disch:=omega) [hc,↓if_pos,↓if_neg,q1,q2,q3,q4,q5]
  ·rw[if_neg hm]at hc⊢
   rcases hx with rfl | ⟨rfl,rfl⟩
   all_goals simp (maxSteps:=300000) (disch:=omega) [hc,↓if_pos,↓if_neg]
 ·rw[if_neg hr]at hc⊢
  rcases hx with rfl | ⟨rfl,rfl⟩
  all_goals simp (maxSteps:=300000) (disch:=omega) [hc,↓if_pos,↓if_neg]
end Go.Vm
namespace Go.Vm
set_option maxHeartbeats 2000000
structure RS where
 a:Int
 e:Nat
def ra (s:RS):Int:=s.a
def re (s:RS):Nat:=s.e
def RS.fit (st:RS):Prop:=i64 st.a
def grow:List Int→List Nat→List Int
 | g,[]=>g
 | g,x::r=>grow (if x=1 then g.set (g.length-1) (nth g (g.length-1)+1) else g++[1]) r
end Go.Vm
namespace Go.Vm
set_option maxHeartbeats 2000000
def R.bind {α β:Type}(x:R α) (f:α→Nat→R β):R β :=
 match x with
 | .ok v n=>f v n
 | .er e=>.er e
@[simp] theorem anK {α β:Type}{v:α}{n:Nat}{f:α→Nat→R β}:R.bind (.ok v n) f=f v n:=rfl
@[simp] theorem anR {α β:Type}{e:Nat}{f:α→Nat→R β}:R.bind (.er e) f=.er e:=rfl
end Go.Vm
namespace Go.Vm
set_option maxHeartbeats 2000000
end Go.Vm
namespace Go.Vm
set_option maxHeartbeats 2000000
end Go.Vm
namespace Go.Vm
set_option maxHeartbeats 2000000
structure aA where
 book:Int
 len:Int
abbrev aA.cells (s:aA):List D:=[.int .i64 s.book,.int .i64 s.len]
def iz (l:List aA):List (List D):=l.map aA.cells
@[simp] theorem ane {l:List aA}:(iz l).length=l.length:=by simp[iz]
end Go.Vm
namespace Go.Vm
set_option maxHeartbeats 2000000
def aG.fsz (i:aG):Nat:=if i.seq=2 then 3 else 5
theorem aaO (i:aG):aW prog vY [.agg i.cells]=some (.tup [.d (.int .i64 i.fsz),.d (.int .i64 ((2 ^ i.fsz-1:Nat):Int))]):=by
 rw[au Wv v6.eq_1 rfl]
 unfold aG.fsz
 by_cases h:i.seq=2
 ·simp (disch:=first | omega | assumption) [↓if_pos,↓if_neg,h]
 ·simp (disch:=first | omega | assumption) [↓if_pos,↓if_neg,h]
abbrev EF (k:Int):Prop:=0≤k∧(k≤11∨k=13)
abbrev aA.right (s:aA) (left:Int):Prop:=(1≤s.len∧s.len≤left)∧EF s.book
theorem aay (s:aA) (left:Int):aW prog vq [.agg [.d (.int .i64 s.book),.d (.int .i64 s.len)],.d (.int .i64 left)]=if s.right left then some (.d (.bool true)) else some (.d (.bool false)):=by
 rw[au WV v3.eq_1 rfl]
 by_cases h1:1≤s.len<;>by_cases h2:s.len≤left<;>by_cases h3:0≤s.book<;>by_cases h4:s.book≤11<;>by_cases h5:s.book=13<;>
  simp (disch:=first | omega | assumption) [↓if_pos,↓if_neg]
def fitsS:Int→List aA→Prop
 | left,[]=>left=0
 | left,s::l=>s.right left∧fitsS (left-s.len) l
instance:∀ (left:Int) (l:List aA),Decidable (fitsS left l)
 | left,[]=>by unfold fitsS;infer_instance
 | left,s::l=>by
  unfold fitsS
  have:Decidable (fitsS (left-s.len) l):=instDecidableFitsS _ l
  infer_instance
def da (g:List (List aA)):List (List D):=g.map fun l=>[.lst (iz l)]
@[simp] theorem alz {g:List (List aA)}:(da g).length=g.length:=by simp[da]
end Go.Vm
namespace Go.Vm
set_option maxHeartbeats 2000000
end Go.Vm
namespace Go.Vm
set_option maxHeartbeats 2000000
end Go.Vm
namespace Go.Vm
set_option maxHeartbeats 2000000
end Go.Vm
end
