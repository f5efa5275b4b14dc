import Derived.KernelRfl
import Derived.Test.YtihfeifaelcdaaaGreatP2
set_option linter.unusedVariables false
set_option linter.unusedSimpArgs false
noncomputable section
namespace Go.Vm
set_option maxRecDepth 100000
set_option maxHeartbeats 4000000
abbrev O:AV:=.d (.int .i64 0)
abbrev O8:AV:=.d (.int .u8 0)
abbrev Q (n:Int):Rd:=.c (.d (I n))
abbrev tt:Rd:=.c (.d (.bool true))
abbrev ff:Rd:=.c (.d (.bool false))
abbrev A (d s:Nat):VI:=V d (.mov (.m s))
abbrev B (d s:Nat):VI:=V d (.mov (.s s))
abbrev C (d:Nat) (s:Rd):VI:=V d (.mov s)
abbrev M (d s:Nat):VI:=V d (.ld none 0 (.m s))
abbrev G (d s:Nat):VI:=V d (.ld none 0 (.s s))
abbrev Z (l:List Nat):VI:=N (.kill l)
abbrev H (d:Nat) (f:FuncId) (l:List Rd):VI:=V d (.call f l)
abbrev L (d:Nat) (o:BinOp) (x y:Nat):VI:=V d (.bin o (.m x) (.m y))
abbrev P (d:Nat) (o:BinOp) (x:Nat) (n:Int):VI:=V d (.bin o (.m x) (Q n))
abbrev J (d:Nat) (o:BinOp) (x y:Nat):VI:=V d (.bin o (.s x) (.s y))
abbrev X (d n s:Nat):VI:=V d (.fa n (.s s))
abbrev E (d s:Nat) (x:Bool) (n:Nat):VI:=V d (.ext s x n)
abbrev Yd (n a b:Nat):VI:=N (.st n (.s a) (.m b))
abbrev Rg (l:List VI):VC:=.reg false l
def unp (q:List Nat) (l:List VI):List VI:=q.filterMap fun i=>l[i]?
def qc:Nat:=3
def iO:Nat:=5
def iN:Nat:=6
def kq:Nat:=7
def dW:Nat:=8
def kB:Nat:=9
def jp:Nat:=10
def ami:Nat:=11
def QQ:Nat:=12
def uI:Nat:=13
def ed:Nat:=14
def Hy:Nat:=15
def HW:Nat:=16
def EF:Nat:=17
def pV:Nat:=18
def zD:Nat:=19
def uO:Nat:=20
def AI:Nat:=21
def iV:Nat:=22
def dV:Nat:=23
def dB:Nat:=24
def pi:Nat:=25
def pP:Nat:=26
def nT:Nat:=27
def pq:Nat:=28
def tN:Nat:=29
def pb:Nat:=30
def pW:Nat:=31
def pe:Nat:=32
def oc:Nat:=33
def qo:Nat:=34
def cB:Nat:=35
def xx:Nat:=36
def ni:Nat:=37
def ic:Nat:=38
def qw:Nat:=39
def t4:Nat:=40
def mZ:Nat:=41
def Jm:Nat:=42
def mX:Nat:=43
def EV:Nat:=44
def na:Nat:=45
def nq:Nat:=46
def il:Nat:=47
def zq:Nat:=48
def mY:Nat:=49
def pC:Nat:=50
def mc:Nat:=51
def ej:Nat:=52
def gU:Nat:=53
def js:Nat:=54
def kh:Nat:=55
def j0:Nat:=56
def tW:Nat:=57
def jM:Nat:=58
def eq:Nat:=59
def Ek:Nat:=60
def oZ:Nat:=61
def oi:Nat:=62
def Bc:Nat:=63
def uj:Nat:=64
def zQ:Nat:=65
def zi:Nat:=66
def kl:Nat:=67
def xE:Nat:=68
def fw:Nat:=69
def fR:Nat:=70
def mg:Nat:=71
def uw:Nat:=72
def iI:Nat:=73
def iL:Nat:=74
def ko:Nat:=75
def jy:Nat:=76
def kp:Nat:=77
def jz:Nat:=78
def dA:Nat:=79
def DI:Nat:=80
def xl:Nat:=81
def G7:Nat:=82
def yU:Nat:=83
def oI:Nat:=84
def mW:Nat:=85
def fB:Nat:=86
def Fh:Nat:=87
def nW:Nat:=88
def sS:Nat:=89
def pt:Nat:=90
def wB:Nat:=91
def Ep:Nat:=92
def xH:Nat:=93
def xF:Nat:=94
def bW:Nat:=95
def gT:Nat:=96
def zh:Nat:=97
def Fj:Nat:=98
def nG:Nat:=99
def li:Nat:=100
def ul:Nat:=101
def xt:Nat:=102
def pw:Nat:=103
def n9:Nat:=104
def xr:Nat:=105
def qT:Nat:=106
def jh:Nat:=107
def lO:Nat:=108
def mO:Nat:=109
def f9:Nat:=110
def dR:Nat:=111
def iF:Nat:=112
def jk:Nat:=113
def uq:Nat:=114
def cu:Nat:=115
def nP:Nat:=116
def Hu:Nat:=117
def DR:Nat:=118
def qK:Nat:=119
def ya:Nat:=120
def gY:Nat:=121
def oM:Nat:=122
def nH:Nat:=123
def P3:Nat:=124
def qm:Nat:=125
def Y0:Nat:=126
def fp:Nat:=127
def dG:Nat:=128
def gW:Nat:=129
def uJ:Nat:=130
def nB:Nat:=131
def jg:Nat:=132
def kD:Nat:=133
def oQ:Nat:=134
def ke:Nat:=135
def ajZ:Nat:=136
def PH:Nat:=137
def QD:Nat:=138
def jb:Nat:=139
def kZ:Nat:=140
def c6:Nat:=141
def aF:Nat:=142
def i9:Nat:=143
def cJ:Nat:=144
abbrev zP:=Rg [V 5 (.box (.m 1)),C 8 ff,Z [8]]
abbrev yC:=Rg [H 15 iO [],A 9 15]
abbrev zY:=Rg [V 16 (.ld (some 9) 0 (.s 5)),H 17 iN [.m 16],A 18 17,U 18 19 (.mov (.s 3)),U 18 20 (.len (.s 19)),U 18 21 (.bin .gtr (.s 20) (Q 10000)),V 22 (.pick (.m 18) tt (.s 21)),A 23 22,U 23 24 (.mov (.s 9)),U 23 25 (.un .not (.s 24)),V 26 (.pick (.m 23) tt (.s 25)),Z [19,20,21,24,25]]
abbrev zg:=Rg [A 27 9,A 8 27]
abbrev yw:=Rg [B 29 0,V 30 (.ld (some 9) 0 (.s 5)),B 31 2,H 32 kq [.c (.nl),.m 29,.m 30,.m 31],A 28 32,E 33 28 true 0,E 34 28 false 1,A 10 33,A 11 34,Z [28]]
abbrev zk:=Rg [B 35 11,P 36 .neq 35 0]
abbrev zu:=Rg [A 37 11,A 38 0,V 39 (.ld (some 9) 1 (.s 5)),H 40 dW [.m 38,.m 39],L 41 .eql 37 40,A 42 41,W 42 43 (.mov (.s 10)),W 42 44 (.len (.s 43)),W 42 45 (.bin .eql (.s 44) (Q 0)),V 46 (.pick (.m 42) (.s 45) ff),A 8 46,Z [10,43,44,45]]
abbrev nQ:=[V 48 (.mks 1 []),B 49 10,V 50 (.app 1 (.m 48) (.m 49)),A 51 3,V 52 (.app 1 (.m 50) (.m 51)),A 53 0,A 54 2,X 55 1 5,V 56 (.ld (some 4) 0 (.m 55)),H 57 kB [.m 52,Q 0,.m 53,.m 54,.m 56],A 47 57,E 58 47 true 0,E 59 47 false 1,E 60 47 false 2,V 12 (.alloc [O,O8,O8,O,.nl,.nl,.nl,.nl,.nl]),Yd 9 12 58,A 13 59,A 14 60]
def mJ:VC:=.regP (.range 18) [0,1,2,3,4,5,6,7,8,9,10,11,14,15,12,16,13,17] [] nQ
abbrev yS:=Rg [A 61 14,P 62 .eql 61 0,A 63 62,W 63 64 (.mov (.s 13)),W 63 65 (.mov (.s 10)),W 63 66 (.len (.s 65)),W 63 67 (.bin .eql (.s 64) (.s 66)),V 68 (.pick (.m 63) (.s 67) ff),A 69 68,W 69 70 (.ld (some 9) 0 (.s 12)),W 69 71 (.ld (some 9) 0 (.s 5)),W 69 72 (.call jp [.s 70,.s 71]),V 73 (.pick (.m 69) (.s 72) ff),A 8 73,Z [10,13,64,65,66,67,70,71,72]]
def dg:ae:=⟨4,[.tmp 8],
 (.seq zP
 (.seq yC
 (.seq (.seq zY
 (.cond (.m 26)
 (.seq (.seq (K [0,2,3]) (F 5)) (.seq zg
 .ret))
 (.seq (K [9]) .skip)))
 (.seq yw
 (.seq (.seq zk
 (.cond (.m 36)
 (.seq (K [2,3]) (.seq (.seq zu (F 5))
 .ret))
 (.seq (K [11]) .skip)))
 (.seq (.seq mJ (K [47]))
 (.seq (.seq yS (.seq (F 5) (F 12)))
 .ret)))))))⟩
abbrev yy:=Rg [V 9 (.box (.m 4)),C 10 ff,Z [10]]
abbrev yQ:=Rg [H 17 iO [],A 11 17]
abbrev zw:=Rg [B 18 0,V 19 (.len (.m 18)),P 20 .gtr 19 10000,A 21 20,U 21 22 (.fa 3 (.s 9)),U 21 23 (.ld none 0 (.s 22)),U 21 24 (.len (.s 23)),U 21 25 (.bin .gtr (.s 24) (Q 1000)),V 26 (.pick (.m 21) tt (.s 25)),A 27 26,U 27 28 (.mov (.s 11)),U 27 29 (.un .not (.s 28)),V 30 (.pick (.m 27) tt (.s 29)),Z [22,23,24,25,28,29]]
abbrev yH:=Rg [A 31 11,A 10 31]
abbrev z4:=Rg [B 33 0,B 34 1,B 35 2,B 36 3,V 37 (.ld (some 4) 0 (.s 9)),H 38 kB [.m 33,.m 34,.m 35,.m 36,.m 37],A 32 38,E 39 32 true 0,E 40 32 false 1,E 41 32 false 2,V 12 (.alloc [O,O8,O8,O,.nl,.nl,.nl,.nl,.nl]),Yd 9 12 39,A 13 40,A 14 41,Z [32]]
abbrev zX:=Rg [A 42 14,P 43 .neq 42 0]
abbrev zJ:=Rg [A 44 13,P 45 .eql 44 0,A 46 45,W 46 47 (.ld (some 9) 0 (.s 12)),W 46 48 (.build [O,O8,O8,O,.nl,.nl,.nl,.nl,.nl] []),W 46 49 (.call jp [.s 47,.s 48]),V 50 (.pick (.m 46) (.s 49) ff),A 10 50,Z [47,48,49]]
abbrev zF:=Rg [B 52 2,V 53 (.ld (some 9) 0 (.s 12)),B 54 3,H 55 kq [.c (.nl),.m 52,.m 53,.m 54],A 51 55,E 56 51 true 0,E 57 51 false 1,A 15 56,A 16 57,Z [51]]
abbrev zR:VC:=(.reg true [
 A 58 16,
 P 59 .eql 58 0,
 A 60 59,
 W 60 61 (.mov (.s 15)),
 W 60 62 (.toStr (.s 61)),
 W 60 63 (.mov (.s 0)),
 W 60 64 (.mov (.s 1)),
 W 60 65 (.mov (.s 13)),
 W 60 66 (.slice 1 (.s 63) (some (.s 64)) (some (.s 65)) none),
 W 60 67 (.toStr (.s 66)),
 W 60 68 (.bin .eql (.s 62) (.s 67)),
 V 69 (.pick (.s 60) (.s 68) ff),
 A 70 69,
 W 70 71 (.mov (.s 2)),
 W 70 72 (.ld (some 9) 0 (.s 12)),
 W 70 73 (.call dW [.s 71,.s 72]),
 W 70 74 (.bin .eql (.s 73) (Q 0)),
 V 75 (.pick (.s 70) (.s 74) ff),
 A 76 75,
 W 76 77 (.mov (.s 3)),
 W 76 78 (.un .not (.s 77)),
 W 76 79 (.mov (.s 78)),
 U 79 80 (.fa 1 (.s 12)),
 U 79 81 (.ld (some 4) 0 (.s 80)),
 U 79 82 (.ld (some 4) 0 (.s 9)),
 U 79 83 (.call ami [.s 81,.s 82]),
 W 76 84 (.pick (.s 79) tt (.s 83)),
 V 85 (.pick (.s 76) (.s 84) ff),
 A 10 85])
def C6:ae:=⟨5,[.tmp 10],
 (.seq yy
 (.seq yQ
 (.seq (.seq zw
 (.cond (.m 30)
 (.seq (.seq (K [0,1,2,3]) (F 9)) (.seq yH
 .ret))
 (.seq (K [11]) .skip)))
 (.seq z4
 (.seq (.seq zX
 (.cond (.m 43)
 (.seq (.seq (K [0,1,2,3]) (F 9)) (.seq (.seq zJ (F 12))
 .ret))
 .skip))
 (.seq zF
 (.seq (.seq zR (.seq (.seq (K [0,1,2,3,13,15,60,61,62,63,64,65,66,67,68,70,71,72,73,74,76,77,78,79,80,81,82,83,84]) (F 9)) (F 12)))
 .ret)))))))⟩
abbrev BD:=Rg [C 0 ff,Z [0]]
abbrev Ce:=Rg [H 8 uI [],H 9 QQ [Q 0,.m 8],A 7 9,E 10 7 true 0,E 11 7 false 1,V 1 (.alloc [O,O8,O8,O,.nl,.nl,.nl,.nl,.nl]),Yd 9 1 10,A 2 11,Z [7]]
abbrev BT:=Rg [V 13 (.ld (some 9) 0 (.s 1)),H 14 kq [.c (.nl),Q 0,.m 13,tt],A 12 14,E 15 12 true 0,E 16 12 false 1,A 3 15,A 4 16,Z [12]]
abbrev Ck:=Rg [V 18 (.ld (some 9) 1 (.s 1)),H 19 kq [.c (.nl),Q 0,.m 18,ff],A 17 19,E 20 17 true 0,E 21 17 false 1,A 5 20,A 6 21,Z [17]]
abbrev CQ:VC:=(.reg true [
 A 22 2,
 P 23 .eql 22 0,
 A 24 23,
 W 24 25 (.mov (.s 4)),
 W 24 26 (.bin .eql (.s 25) (Q 0)),
 V 27 (.pick (.s 24) (.s 26) ff),
 A 28 27,
 W 28 29 (.mov (.s 3)),
 W 28 30 (.toStr (.s 29)),
 W 28 31 (.mkslice [.int .u8 0] (Q 11) (Q 11)),
 W 28 32 (.toStr (.s 31)),
 W 28 33 (.bin .eql (.s 30) (.s 32)),
 V 34 (.pick (.s 28) (.s 33) ff),
 A 35 34,
 W 35 36 (.mov (.s 6)),
 W 35 37 (.bin .eql (.s 36) (Q 0)),
 V 38 (.pick (.s 35) (.s 37) ff),
 A 39 38,
 W 39 40 (.mov (.s 5)),
 W 39 41 (.len (.s 40)),
 W 39 42 (.bin .eql (.s 41) (Q 22)),
 V 43 (.pick (.s 39) (.s 42) ff),
 A 0 43])
def lK:ae:=⟨0,[.tmp 0],
 (.seq BD
 (.seq Ce
 (.seq BT
 (.seq (.seq Ck (F 1))
 (.seq (.seq CQ (K [3,4,5,6,24,25,26,28,29,30,31,32,33,35,36,37,39,40,41,42]))
 .ret)))))⟩
abbrev Cw:=Rg [V 1 (.box (.m 0)),C 2 ff,Z [2]]
abbrev Be:=Rg [X 7 1 1,V 8 (.fa 3 (.m 7)),M 9 8,V 10 (.len (.m 9)),P 11 .gtr 10 40,A 12 11,U 12 13 (.fa 5 (.s 1)),U 12 14 (.ld none 0 (.s 13)),U 12 15 (.len (.s 14)),U 12 16 (.bin .gtr (.s 15) (Q 40)),V 17 (.pick (.m 12) tt (.s 16)),A 18 17,U 18 19 (.fa 6 (.s 1)),U 18 20 (.ld none 0 (.s 19)),U 18 21 (.len (.s 20)),U 18 22 (.bin .gtr (.s 21) (Q 40)),V 23 (.pick (.m 18) tt (.s 22)),A 24 23,U 24 25 (.fa 7 (.s 1)),U 24 26 (.ld none 0 (.s 25)),U 24 27 (.len (.s 26)),U 24 28 (.bin .gtr (.s 27) (Q 40)),V 29 (.pick (.m 24) tt (.s 28)),A 30 29,U 30 31 (.fa 8 (.s 1)),U 30 32 (.ld none 0 (.s 31)),U 30 33 (.len (.s 32)),U 30 34 (.bin .gtr (.s 33) (Q 2000)),V 35 (.pick (.m 30) tt (.s 34)),Z [13,14,15,16,19,20,21,22,25,26,27,28,31,32,33,34]]
abbrev B8:=Rg [C 2 tt]
abbrev CU:=Rg [C 3 (Q 0)]
abbrev BZ:=Rg [B 36 3,X 37 5 1,M 38 37,V 39 (.len (.m 38)),L 40 .lss 36 39]
abbrev BI:=Rg [X 43 5 1,M 44 43,B 45 3,V 46 (.ia 1 (.m 44) (.m 45)),M 47 46,V 48 (.len (.m 47)),P 49 .gtr 48 100]
abbrev CE:=Rg [C 2 tt]
abbrev CG:=Rg [A 41 3,P 42 .add 41 1,A 3 42]
def cf:VC:=(.seq (.seq BZ
 (.cond (.m 40)
 .skip
 (.seq (K [3]) (.exit 0))))
 (.seq (.block 1
 (.seq BI
 (.cond (.m 49)
 (.seq (.seq (K [3]) (F 1)) (.seq CE
 .ret))
 .skip)))
 CG))
abbrev B9:=Rg [C 4 (Q 0)]
abbrev BO:=Rg [B 50 4,X 51 6 1,M 52 51,V 53 (.len (.m 52)),L 54 .lss 50 53]
abbrev AO:=Rg [X 57 6 1,M 58 57,B 59 4,V 60 (.ia 1 (.m 58) (.m 59)),M 61 60,V 62 (.len (.m 61)),P 63 .gtr 62 200]
abbrev AK:=Rg [C 2 tt]
abbrev Ap:=Rg [A 55 4,P 56 .add 55 1,A 4 56]
def cg:VC:=(.seq (.seq BO
 (.cond (.m 54)
 .skip
 (.seq (K [4]) (.exit 2))))
 (.seq (.block 3
 (.seq AO
 (.cond (.m 63)
 (.seq (.seq (K [4]) (F 1)) (.seq AK
 .ret))
 .skip)))
 Ap))
abbrev AM:=Rg [C 5 (Q 0)]
abbrev Am:=Rg [B 64 5,X 65 7 1,M 66 65,V 67 (.len (.m 66)),L 68 .lss 64 67]
abbrev Aj:=Rg [X 71 7 1,M 72 71,B 73 5,V 74 (.ia 1 (.m 72) (.m 73)),M 75 74,V 76 (.len (.m 75)),P 77 .gtr 76 20]
abbrev AJ:=Rg [C 2 tt]
abbrev Ar:=Rg [C 6 (Q 0)]
abbrev Ax:=Rg [B 78 6,X 79 7 1,M 80 79,B 81 5,V 82 (.ia 1 (.m 80) (.m 81)),M 83 82,V 84 (.len (.m 83)),L 85 .lss 78 84]
abbrev Av:=Rg [X 88 7 1,M 89 88,B 90 5,V 91 (.ia 1 (.m 89) (.m 90)),M 92 91,B 93 6,V 94 (.ia 5 (.m 92) (.m 93)),V 95 (.fa 4 (.m 94)),M 96 95,V 97 (.len (.m 96)),P 98 .gtr 97 100]
abbrev AG:=Rg [C 2 tt]
abbrev Ak:=Rg [A 86 6,P 87 .add 86 1,A 6 87]
def cb:VC:=(.seq (.seq Ax
 (.cond (.m 85)
 .skip
 (.seq (K [6]) (.exit 6))))
 (.seq (.block 7
 (.seq Av
 (.cond (.m 98)
 (.seq (.seq (K [5,6]) (F 1)) (.seq AG
 .ret))
 .skip)))
 Ak))
abbrev Ay:=Rg [A 69 5,P 70 .add 69 1,A 5 70]
def bN:VC:=(.seq (.seq Am
 (.cond (.m 68)
 .skip
 (.seq (.seq (K [5]) (F 1)) (.exit 4))))
 (.seq (.block 5
 (.seq (.seq Aj
 (.cond (.m 77)
 (.seq (.seq (K [5]) (F 1)) (.seq AJ
 .ret))
 .skip))
 (.seq Ar
 (.block 6
 (.seq (.loop cb) (K [6]))))))
 Ay))
abbrev Ao:=Rg [C 2 ff]
def bz:ae:=⟨1,[.tmp 2],
 (.seq Cw
 (.seq (.seq Be
 (.cond (.m 35)
 (.seq (F 1) (.seq B8
 .ret))
 .skip))
 (.seq (.seq CU
 (.block 0
 (.seq (.loop cf) (K [3]))))
 (.seq (.seq B9
 (.block 2
 (.seq (.loop cg) (K [4]))))
 (.seq (.seq AM
 (.block 4
 (.seq (.loop bN) (.seq (K [5]) (F 1)))))
 (.seq Ao
 .ret))))))⟩
abbrev ai0:=Rg [V 6 (.box (.m 2)),V 8 (.mov (.c (.nl))),C 9 (Q 0),Z [8,9]]
abbrev ajz:=Rg [B 16 1,V 17 (.ld (some 9) 0 (.s 6)),H 18 dW [.m 16,.m 17],A 10 18]
abbrev akS:=Rg [B 19 10,P 20 .neq 19 0]
abbrev ajU:=Rg [A 21 10,V 8 (.mov (.c (.nl))),A 9 21]
abbrev aiV:=Rg [A 23 0,X 24 0 6,M 25 24,H 26 ed [.m 23,.m 25,Q 8],A 22 26,E 27 22 true 0,E 28 22 false 1,A 0 27,Z [22,28]]
abbrev ak0:=Rg [A 29 3,V 30 (.un .not (.m 29))]
abbrev akK:=Rg [A 32 0,B 33 1,X 34 1 6,V 35 (.ld (some 4) 0 (.m 34)),H 36 Hy [.m 32,.m 33,.m 35],A 31 36,E 37 31 true 0,E 38 31 false 1,A 0 37,Z [31,38]]
abbrev ajS:=Rg [A 40 0,X 41 1 6,V 42 (.ld (some 4) 0 (.m 41)),X 43 5 6,M 44 43,H 45 HW [.m 40,.m 42,.m 44],A 39 45,E 46 39 true 0,E 47 39 false 1,A 0 46,Z [39,47]]
abbrev aiy:=Rg [A 49 0,X 50 0 6,M 51 50,X 52 5 6,M 53 52,X 54 6 6,M 55 54,H 56 EF [.m 49,.m 51,.m 53,.m 55],A 48 56,E 57 48 true 0,E 58 48 false 1,A 0 57,Z [48,58]]
abbrev akp:=Rg [X 59 7 6,M 60 59,H 61 pV [.m 60]]
abbrev KV:=[A 63 0,V 64 (.mks 1 [.c (.d (.int .u8 0)),.c (.d (.int .u8 1))]),V 65 (.app 1 (.m 63) (.m 64)),X 66 1 6,V 67 (.ld (some 4) 0 (.m 66)),X 68 7 6,M 69 68,H 70 zD [.m 65,.m 67,.m 69],A 62 70,E 71 62 true 0,E 72 62 false 1,A 0 71]
def Jt:VC:=.regP (.range 12) [0,1,2,3,4,5,6,7,8,9,11,10] [] KV
abbrev ahl:=Rg [A 73 0,V 74 (.mks 1 [.c (.d (.int .u8 0))]),V 75 (.app 1 (.m 73) (.m 74)),A 0 75]
abbrev agP:=Rg [A 76 0,V 77 (.mks 1 [.c (.d (.int .u8 0)),.c (.d (.int .u8 0)),.c (.d (.int .u8 0))]),V 78 (.app 1 (.m 76) (.m 77)),A 0 78]
abbrev agU:=Rg [V 79 (.build [O,O,.nl,.nl,O,O,.nl,.nl,O,O,.nl,.nl,O,O,.nl,.nl,O,O,.nl,.nl,O,O,.nl,.nl,O,O,.nl,.nl,O,O,.nl,.nl,O,O,.nl,.nl,O,O,.nl,.nl,O,O,.nl,.nl,O,O,.nl,.nl] []),V 80 (.box (.m 79)),V 11 (.alloc [.nilp]),Yd 1 11 80]
abbrev ahs:=Rg [V 12 (.alloc [.nl])]
abbrev agt:=Rg [A 81 1,X 82 1 6,V 83 (.ld (some 4) 0 (.m 82)),X 84 5 6,M 85 84,V 86 (.calli uO [.m 81,.m 83,.m 85])]
abbrev agi:=Rg [V 13 (.alloc [O,O,O]),Yd 3 13 87,Z [0,86]]
def JF:VC:=.regP [0,1,2,4,5,6,7,8,9,10,3,11,12,13,14,15,16] [0,1,2,3,4,5,6,7,8,9,10,11,12,13,15,14,16] [3,5,7,9,10] [G 89 11,X 90 0 13,M 91 90,V 92 (.calli iV [.m 89,.m 91]),X 93 8 6,M 94 93,X 95 1 13,M 96 95,X 97 2 13,M 98 97,V 99 (.slice 1 (.m 94) (some (.m 96)) (some (.m 98)) none),H 100 AI [.c (.nl),.m 92,.m 99],A 88 100,E 101 88 true 0,E 102 88 false 1,A 14 101,A 15 102]
abbrev ahj:=Rg [V 103 (.ld none 1 (.s 12)),A 104 14,V 105 (.app 1 (.m 103) (.m 104)),Yd 1 12 105,Z [12]]
def oH:VC:=agi
def oT:VC:=(.block 1
 (.seq (.seq JF (.seq (K [6,11,15,88]) (F 13)))
 ahj))
abbrev agX:=Rg [A 106 0,V 107 (.ld none 1 (.s 12)),V 108 (.app 1 (.m 106) (.m 107)),A 8 108,C 9 (Q 0)]
def DF:ae:=⟨4,[.tmp 8,.tmp 9],
 (.seq ai0
 (.seq (.seq ajz
 (.seq akS
 (.cond (.m 20)
 (.seq (.seq (K [0,1,3]) (F 6)) (.seq ajU
 .ret))
 (.seq (K [10]) .skip))))
 (.seq aiV
 (.seq (.seq ak0
 (.cond (.m 30)
 akK
 .skip))
 (.seq ajS
 (.seq aiy
 (.seq (.seq akp
 (.cond (.m 61)
 (.seq (.seq Jt (K [62,72]))
 ahl)
 agP))
 (.seq agU
 (.seq ahs
 (.seq (.seq agt
 (.block 0
 (.seq (.rangeF (.s 86) [87] oH oT) (.seq (.seq (F 6) (F 11)) (F 86)))))
 (.seq (.seq agX (F 12))
 .ret)))))))))))⟩
abbrev Yo:=Rg [V 2 (.box (.m 0)),V 3 (.box (.m 1)),C 4 (Q 0),Z [4]]
abbrev X7:=Rg [G 10 2,X 11 1 3,V 12 (.ld (some 4) 0 (.m 11)),H 13 dV [.m 10,.m 12],A 5 13]
abbrev Yp:=Rg [B 14 5,P 15 .neq 14 0]
abbrev X5:=Rg [A 16 5,A 4 16]
abbrev Zm:=Rg [X 18 1 3,V 19 (.ld (some 4) 0 (.m 18)),H 20 dB [.m 19],A 17 20,E 21 17 false 0,E 22 17 false 1,V 6 (.alloc [O]),Yd 1 6 21,A 7 22,Z [7,17]]
abbrev Y7:=Rg [V 23 (.mkfn pi [] [.s 3]),V 24 (.mkfn pP [] [.s 3]),V 25 (.mkfn pq [] [.s 3]),V 26 (.mkfn pb [] [.s 3,.s 6]),V 27 (.mkfn pe [] [.m 2,.m 3,.m 6]),V 28 (.mksv 1 [.m 23,.m 24,.m 25,.m 26,.m 27]),V 29 (.len (.s 28)),C 30 (Q 0)]
abbrev WT:=Rg [J 31 .lss 30 29]
abbrev WB:=Rg [V 32 (.ia 1 (.s 28) (.s 30)),M 33 32,A 9 33]
abbrev Wd:=Rg [A 34 9,V 35 (.callv (.m 34) []),V 36 (.un .not (.m 35))]
abbrev Zf:=Rg [C 4 (Q 8)]
abbrev So:=Rg [P 37 .add 30 1,A 30 37]
def fT:VC:=(.seq WT
 (.seq (.cond (.m 31)
 .skip
 (.seq (K [28,29,30]) (.exit 0)))
 (.seq (.block 1
 (.seq WB
 (.seq Wd
 (.cond (.m 36)
 (.seq (K [28,29,30]) (.seq Zf
 .ret))
 .skip))))
 So)))
abbrev TA:=Rg [C 4 (Q 0)]
def oL:ae:=⟨2,[.tmp 4],
 (.seq Yo
 (.seq (.seq X7
 (.seq Yp
 (.cond (.m 15)
 (.seq (K [2,3]) (.seq X5
 .ret))
 (.seq (K [5]) .skip))))
 (.seq Zm
 (.seq (.seq Y7
 (.block 0
 (.seq (.loop fT) (K [28,29,30]))))
 (.seq TA
 .ret)))))⟩
abbrev ai5:=Rg [V 5 (.box (.m 0)),V 7 (.box (.m 2)),V 8 (.box (.m 3)),V 9 (.box (.m 4)),V 10 (.alloc [O,O8,O8,O,.nl,.nl,.nl,.nl,.nl]),V 11 (.alloc [O]),V 12 (.alloc [O])]
abbrev ak4:=Rg [G 22 7,H 23 qo [.m 22,ff],A 21 23,E 24 21 false 0,E 25 21 false 1,Yd 1 12 25,Z [21,24]]
abbrev aiq:=Rg [G 26 12,P 27 .neq 26 0]
def aku:VC:=.regP (.range 5) (.range 5) [1,2,3] [V 28 (.build [O,O8,O8,O,.nl,.nl,.nl,.nl,.nl] []),G 29 12,Yd 9 10 28,N (.st 1 (.s 11) (Q 0)),Yd 1 12 29]
abbrev aiG:=Rg [G 31 5,A 32 1,H 33 cB [.m 31,.m 32,Q 0],A 30 33,E 34 30 false 0,E 35 30 false 1,E 36 30 false 2,Yd 1 11 35,Yd 1 12 36,Z [30,34]]
abbrev ajL:=Rg [G 37 12,P 38 .neq 37 0]
def Lw:VC:=.regP (.range 5) (.range 5) [1,2,3] [V 39 (.build [O,O8,O8,O,.nl,.nl,.nl,.nl,.nl] []),G 40 12,Yd 9 10 39,N (.st 1 (.s 11) (Q 0)),Yd 1 12 40]
abbrev aiZ:=Rg [G 41 7,V 42 (.ld (some 4) 0 (.s 9)),H 43 dV [.m 41,.m 42],Yd 1 12 43]
abbrev aiW:=Rg [G 44 8,A 45 44,W 45 46 (.ld none 0 (.s 12)),W 45 47 (.bin .neq (.s 46) (Q 0)),V 48 (.pick (.m 45) (.s 47) ff),Z [46,47]]
def MT:VC:=.regP (.range 5) (.range 5) [1,2,3] [V 49 (.build [O,O8,O8,O,.nl,.nl,.nl,.nl,.nl] []),G 50 12,Yd 9 10 49,N (.st 1 (.s 11) (Q 0)),Yd 1 12 50]
abbrev afP:=Rg [V 13 (.alloc [O]),V 14 (.alloc [O]),N (.st 1 (.s 13) (Q 0)),N (.st 1 (.s 14) (Q 0))]
abbrev agH:=Rg [V 51 (.mkfn xx [] [.s 5,.s 11,.s 12]),V 15 (.alloc [.nilf]),Yd 1 15 51]
abbrev ahz:=Rg [V 52 (.mkfn ni [] [.s 5,.s 11,.s 10,.s 12]),V 53 (.mkfn ic [] [.m 9,.s 10,.m 8,.s 5,.s 11,.s 7,.s 12]),V 54 (.mkfn mZ [] [.s 5,.s 11,.s 10,.s 12]),V 55 (.mkfn mX [] [.s 5,.s 11,.s 10,.s 12]),V 56 (.mkfn na [] [.s 15,.s 13]),V 57 (.mkfn nq [] [.s 15,.s 14]),V 58 (.mkfn il [] [.s 14,.s 5,.s 11,.s 10,.s 12]),V 59 (.mkfn mY [] [.s 13,.m 15]),V 60 (.mksv 1 [.m 52,.m 53,.m 54,.m 55,.m 56,.m 57,.m 58,.m 59]),V 61 (.len (.s 60)),C 62 (Q 0)]
abbrev ahV:=Rg [J 63 .lss 62 61]
abbrev afR:=Rg [V 64 (.ia 1 (.s 60) (.s 62)),M 65 64,A 17 65]
abbrev ahg:=Rg [N (.st 1 (.s 12) (Q 0))]
abbrev ahJ:=Rg [A 66 17,V 67 (.callv (.m 66) []),Z [67]]
abbrev ahN:=Rg [G 68 12,P 69 .neq 68 0]
def JB:VC:=.regP (.range 5) (.range 5) [1,2,3] [V 70 (.build [O,O8,O8,O,.nl,.nl,.nl,.nl,.nl] []),G 71 12,Yd 9 10 70,N (.st 1 (.s 11) (Q 0)),Yd 1 12 71]
abbrev ag4:=Rg [P 72 .add 62 1,A 62 72]
def eV:VC:=(.seq ahV
 (.seq (.cond (.m 63)
 .skip
 (.seq (K [60,61,62]) (.exit 0)))
 (.seq (.block 1
 (.seq afR
 (.seq ahg
 (.seq ahJ
 (.seq ahN
 (.cond (.m 69)
 (.seq (K [5,7,13,14,60,61,62]) (.seq JB
 .ret))
 .skip))))))
 ag4)))
abbrev agJ:=Rg [⟨some 73,none,.mkslice [.int .i64 0] (Q 256) (Q 256),[(0,0)]⟩,X 74 8 10,N (.st 1 (.m 74) (.m 73))]
abbrev ah1:=Rg [V 75 (.build [O,O,.nl,.nl,O,O,.nl,.nl,O,O,.nl,.nl,O,O,.nl,.nl,O,O,.nl,.nl,O,O,.nl,.nl,O,O,.nl,.nl,O,O,.nl,.nl,O,O,.nl,.nl,O,O,.nl,.nl,O,O,.nl,.nl,O,O,.nl,.nl] []),V 76 (.box (.m 75)),V 18 (.alloc [.nilp]),Yd 1 18 76]
abbrev ag1:=Rg [V 77 (.ld none 1 (.m 7)),X 78 1 10,V 79 (.ld (some 4) 0 (.m 78)),X 80 5 10,M 81 80,V 82 (.calli uO [.m 77,.m 79,.m 81])]
abbrev zH:=Rg [V 19 (.alloc [O,O,O]),Yd 3 19 83,Z [13,14,82]]
abbrev yY:=Rg [V 20 (.mov (.c (.nl))),Z [20]]
def qV:VC:=.regP (.range 14) [0,1,2,3,4,5,6,7,8,11,9,12,10,13] [0,1,5] [M 85 5,G 86 11,G 87 18,X 88 0 19,M 89 88,V 90 (.calli iV [.m 87,.m 89]),H 91 pC [.m 85,.m 86,.m 90],A 84 91,E 92 84 true 0,E 93 84 false 1,E 94 84 false 2,A 20 92,Yd 1 11 93,Yd 1 12 94]
abbrev zp:=Rg [G 95 12,P 96 .neq 95 0]
def qP:VC:=.regP (.range 5) (.range 5) [1,2,3] [V 97 (.build [O,O8,O8,O,.nl,.nl,.nl,.nl,.nl] []),G 98 12,N (.st 9 (.m 10) (.m 97)),N (.st 1 (.m 11) (Q 0)),Yd 1 12 98]
abbrev zM:=Rg [V 99 (.fa 8 (.m 10)),M 100 99,X 101 1 19,M 102 101,X 103 2 19,M 104 103,V 105 (.slice 1 (.m 100) (some (.m 102)) (some (.m 104)) none),A 106 20,V 107 (.cpy 1 (.m 105) (.m 106)),Z [107]]
def om:VC:=zH
def oz:VC:=(.block 3
 (.seq yY
 (.seq (.seq (.seq qV (K [18,84]))
 (.seq zp
 (.cond (.m 96)
 (.seq (.seq (K [20]) (F 19)) (.seq (.seq qP (K [12]))
 .ret))
 (.seq (K [11,12]) .skip))))
 (.seq zM (F 19)))))
abbrev afM:=Rg [V 108 (.ld none 1 (.m 13)),P 109 .neq 108 0,A 110 109,U 110 111 (.ld none 0 (.s 14)),U 110 112 (.bin .eql (.s 111) (Q 1)),U 110 113 (.mov (.s 112)),W 113 114 (.fa 7 (.s 10)),W 113 115 (.ld none 0 (.s 114)),W 113 116 (.call pV [.s 115]),W 113 117 (.un .not (.s 116)),U 110 118 (.pick (.s 113) (.s 117) ff),V 119 (.pick (.m 110) tt (.s 118)),Z [14,111,112,113,114,115,116,117,118]]
abbrev agW:=Rg [V 120 (.build [O,O8,O8,O,.nl,.nl,.nl,.nl,.nl] []),Yd 9 10 120,N (.st 1 (.s 11) (Q 0)),N (.st 1 (.s 12) (Q 8))]
def JJ:VC:=.regP (.range 5) (.range 5) [1,2] [V 121 (.ld (some 9) 0 (.s 10)),G 122 11,Yd 9 10 121,Yd 1 11 122,N (.st 1 (.s 12) (Q 0))]
def oY:ae:=⟨5,[.cell 10 (some 9),.cell 11 none,.cell 12 none],
 (.seq ai5
 (.seq (.seq ak4
 (.seq aiq
 (.cond (.m 27)
 (.seq (K [1,5,7,8,9]) (.seq aku
 .ret))
 .skip)))
 (.seq (.seq aiG
 (.seq ajL
 (.cond (.m 38)
 (.seq (K [5,7,8,9]) (.seq Lw
 .ret))
 .skip)))
 (.seq (.seq aiZ
 (.seq aiW
 (.cond (.m 48)
 (.seq (K [5,7,8,9]) (.seq MT
 .ret))
 .skip)))
 (.seq afP
 (.seq agH
 (.seq (.seq ahz
 (.block 0
 (.seq (.loop eV) (K [60,61,62]))))
 (.seq agJ
 (.seq ah1
 (.seq (.seq ag1
 (.block 2
 (.seq (.rangeF (.s 82) [83] om oz) (.seq (.seq (K [5]) (F 18)) (F 82)))))
 (.seq (.seq afM
 (.cond (.m 119)
 (.seq agW
 .ret)
 .skip))
 (.seq JJ
 .ret))))))))))))⟩
abbrev Dg:=Rg [V 2 (.box (.m 0)),V 3 (.box (.m 1)),C 4 ff,Z [4]]
abbrev De:=Rg [X 5 0 2,M 6 5,X 7 0 3,M 8 7,L 9 .eql 6 8,A 10 9,W 10 11 (.fa 1 (.s 2)),W 10 12 (.ld (some 4) 0 (.s 11)),W 10 13 (.fa 1 (.s 3)),W 10 14 (.ld (some 4) 0 (.s 13)),W 10 15 (.call mc [.s 12,.s 14]),V 16 (.pick (.m 10) (.s 15) ff),A 17 16,W 17 18 (.fa 8 (.s 2)),W 17 19 (.ld none 0 (.s 18)),W 17 20 (.fa 8 (.s 3)),W 17 21 (.ld none 0 (.s 20)),W 17 22 (.call ej [.s 19,.s 21]),V 23 (.pick (.m 17) (.s 22) ff),A 24 23,W 24 25 (.fa 5 (.s 2)),W 24 26 (.ld none 0 (.s 25)),W 24 27 (.fa 5 (.s 3)),W 24 28 (.ld none 0 (.s 27)),W 24 29 (.call gU [.s 26,.s 28]),V 30 (.pick (.m 24) (.s 29) ff),A 31 30,W 31 32 (.fa 6 (.s 2)),W 31 33 (.ld none 0 (.s 32)),W 31 34 (.fa 6 (.s 3)),W 31 35 (.ld none 0 (.s 34)),W 31 36 (.call js [.s 33,.s 35]),V 37 (.pick (.m 31) (.s 36) ff),A 38 37,W 38 39 (.fa 7 (.s 2)),W 38 40 (.ld none 0 (.s 39)),W 38 41 (.fa 7 (.s 3)),W 38 42 (.ld none 0 (.s 41)),W 38 43 (.call kh [.s 40,.s 42]),V 44 (.pick (.m 38) (.s 43) ff),A 4 44,Z [11,12,13,14,15,18,19,20,21,22,25,26,27,28,29,32,33,34,35,36,39,40,41,42,43]]
def ma:ae:=⟨2,[.tmp 4],
 (.seq Dg
 (.seq (.seq De (.seq (F 2) (F 3)))
 .ret))⟩
abbrev ad9:=Rg [V 2 (.box (.m 0)),V 3 (.box (.m 1)),C 4 ff,Z [4]]
abbrev adh:=Rg [X 5 0 2,M 6 5,X 7 0 3,M 8 7,L 9 .eql 6 8,A 10 9,W 10 11 (.fa 1 (.s 2)),W 10 12 (.ld none 0 (.s 11)),W 10 13 (.fa 1 (.s 3)),W 10 14 (.ld none 0 (.s 13)),W 10 15 (.bin .eql (.s 12) (.s 14)),V 16 (.pick (.m 10) (.s 15) ff),A 17 16,W 17 18 (.fa 2 (.s 2)),W 17 19 (.ld none 0 (.s 18)),W 17 20 (.fa 2 (.s 3)),W 17 21 (.ld none 0 (.s 20)),W 17 22 (.bin .eql (.s 19) (.s 21)),V 23 (.pick (.m 17) (.s 22) ff),A 24 23,W 24 25 (.fa 3 (.s 2)),W 24 26 (.ld none 0 (.s 25)),W 24 27 (.fa 3 (.s 3)),W 24 28 (.ld none 0 (.s 27)),W 24 29 (.call j0 [.s 26,.s 28]),V 30 (.pick (.m 24) (.s 29) ff),A 4 30,Z [2,3,11,12,13,14,15,18,19,20,21,22,25,26,27,28,29]]
def alv:ae:=⟨2,[.tmp 4],
 (.seq ad9
 (.seq adh
 .ret))⟩
abbrev aaL:=Rg [V 3 (.box (.m 1)),V 4 (.alloc [O,O8,O8,O,.nl,.nl,.nl,.nl,.nl]),C 5 (Q 0),Z [5]]
abbrev acO:=Rg [A 11 0,V 12 (.ld (some 4) 0 (.s 3)),H 13 dV [.m 11,.m 12],A 6 13]
abbrev adL:=Rg [B 14 6,P 15 .neq 14 0]
abbrev aa0:=Rg [V 16 (.build [O,O8,O8,O,.nl,.nl,.nl,.nl,.nl] []),A 17 6,Yd 9 4 16,A 5 17]
abbrev acR:=Rg [V 19 (.ld (some 4) 0 (.s 3)),H 20 dB [.m 19],A 18 20,E 21 18 false 0,E 22 18 false 1,A 7 21,A 8 22,Z [8,18]]
abbrev af0:=[V 23 (.ld (some 4) 0 (.s 3)),H 24 qw [.m 23],A 25 7,V 26 (.mkslice [.lst []] (.s 25) (.s 25)),V 27 (.mkslice [.int .i64 0] (Q 256) (Q 256)),V 28 (.build [O,O8,O8,O,.nl,.nl,.nl,.nl,.nl] [(1,4,.m 24),(7,1,.m 26),(8,1,.m 27)]),V 9 (.alloc [O,O8,O8,O,.nl,.nl,.nl,.nl,.nl]),Yd 9 9 28]
def aa5:VC:=.regP (.range 8) (.range 8) [] af0
abbrev aaO:=Rg [X 29 3 3,M 30 29,V 31 (.len (.m 30)),C 32 (Q 0)]
abbrev abY:=Rg [J 33 .lss 32 31]
abbrev aaN:=Rg [V 10 (.mov (.c (.nl)))]
abbrev aa1:=Rg [X 34 2 3,M 35 34,P 36 .gtr 35 0]
abbrev XI:=Rg [X 37 2 3,M 38 37,V 39 (.build [O,O] [(1,1,.m 38)]),V 40 (.mks 2 [.m 39]),A 10 40]
def YU:VC:=.regP (.range 16) (.range 16) [1,6] [X 41 5 9,V 42 (.ld none 2 (.m 41)),A 43 10,V 44 (.mks 1 [.m 43]),V 45 (.app 1 (.m 42) (.m 44)),X 46 6 9,V 47 (.ld none 2 (.m 46)),X 48 2 3,M 49 48,V 50 (.mkslice [.int .i64 0] (.s 49) (.s 49)),V 51 (.mks 1 [.m 50]),V 52 (.app 1 (.m 47) (.m 51)),X 53 5 9,N (.st 1 (.m 53) (.m 45)),X 54 6 9,N (.st 1 (.m 54) (.m 52))]
abbrev Wh:=Rg [P 55 .add 32 1,A 32 55]
def acY:VC:=(.seq abY
 (.seq (.cond (.m 33)
 .skip
 (.seq (.seq (K [31,32]) (F 3)) (.exit 0)))
 (.seq (.block 1
 (.seq aaN
 (.seq (.seq aa1
 (.cond (.m 36)
 (.seq (K [10]) XI)
 .skip))
 (.seq YU (K [49])))))
 Wh)))
abbrev WZ:=Rg [V 56 (.ld (some 9) 1 (.s 9)),Yd 9 4 56,C 5 (Q 0)]
def alx:ae:=⟨2,[.cell 4 (some 9),.tmp 5],
 (.seq aaL
 (.seq (.seq acO
 (.seq adL
 (.cond (.m 15)
 (.seq (F 3) (.seq aa0
 .ret))
 (.seq (K [6]) .skip))))
 (.seq acR
 (.seq (.seq aa5 (K [25]))
 (.seq (.seq aaO
 (.block 0
 (.seq (.loop acY) (.seq (K [31,32]) (F 3)))))
 (.seq (.seq WZ (F 9))
 .ret))))))⟩
abbrev Dk:=Rg [V 0 (.alloc [O8,O8,O,.nl])]
abbrev Do:=Rg [V 1 (.mks 1 [Q 1]),V 2 (.build [O8,O8,O,.nl] [(3,1,.m 1)]),Yd 4 0 2]
def HN:ae:=⟨0,[.cell 0 (some 4)],
 (.seq Dk
 (.seq Do
 .ret))⟩
abbrev aht:=Rg [V 6 (.mov (.c (.nl))),C 7 (Q 0),Z [6,7]]
abbrev agj:=Rg [B 8 2,H 9 tW [.m 8],V 10 (.un .not (.m 9)),A 11 10,U 11 12 (.mov (.s 1)),U 11 13 (.bin .lss (.s 12) (Q 0)),V 14 (.pick (.m 11) tt (.s 13)),A 15 14,U 15 16 (.mov (.s 1)),U 15 17 (.mov (.s 2)),U 15 18 (.bin .shr (.s 16) (.s 17)),U 15 19 (.bin .neq (.s 18) (Q 0)),V 20 (.pick (.m 15) tt (.s 19)),Z [12,13,16,17,18,19]]
abbrev ahf:=Rg [V 6 (.mov (.c (.nl))),C 7 (Q 2)]
abbrev agT:=Rg [A 21 0,H 22 eq [.m 21],A 23 1,A 24 2,V 25 (.calli Ek [.m 23,.m 24]),V 26 (.calli jM [.m 22,.m 25]),A 6 26,C 7 (Q 0)]
def IY:ae:=⟨3,[.tmp 6,.tmp 7],
 (.seq aht
 (.seq (.seq agj
 (.cond (.m 20)
 (.seq (K [0,1,2]) (.seq ahf
 .ret))
 .skip))
 (.seq agT
 .ret)))⟩
abbrev afX:=Rg [V 3 (.box (.m 0)),V 5 (.box (.m 2)),V 6 (.mov (.c (.nl))),C 7 (Q 0),Z [6,7]]
abbrev ahq:=Rg [A 15 1,V 16 (.ld (some 4) 0 (.s 5)),H 17 dV [.m 15,.m 16],A 8 17]
abbrev afI:=Rg [B 18 8,P 19 .neq 18 0]
abbrev ag2:=Rg [A 20 8,V 6 (.mov (.c (.nl))),A 7 20]
abbrev ahi:=Rg [V 21 (.mkfn oZ [] [.s 3]),A 9 21]
abbrev agb:=Rg [B 22 9,V 23 (.callv (.m 22) [Q 0,Q 1]),Z [23]]
abbrev ahy:=Rg [B 24 9,X 25 0 5,M 26 25,V 27 (.conv .i64 (.m 26)),V 28 (.callv (.m 24) [.m 27,Q 2]),Z [28]]
abbrev ahE:=Rg [B 29 9,X 30 1 5,M 31 30,V 32 (.conv .i64 (.m 31)),V 33 (.callv (.m 29) [.m 32,Q 1]),Z [33]]
abbrev ahB:=Rg [X 34 0 5,M 35 34,V 36 (.bin .neq (.m 35) (.c (.d (.int .u8 2))))]
abbrev agp:=Rg [B 37 9,V 38 (.fa 2 (.m 5)),M 39 38,V 40 (.callv (.m 37) [.m 39,Q 6]),Z [40]]
abbrev aee:=Rg [A 41 9,V 42 (.callv (.m 41) [Q 0,Q 1]),Z [42]]
abbrev aa6:=Rg [V 43 (.ld none 1 (.m 3)),A 6 43,C 7 (Q 0)]
abbrev aex:=Rg [B 44 9,X 45 2 5,M 46 45,V 47 (.callv (.m 44) [.m 46,Q 4]),Z [47]]
abbrev abg:=Rg [C 10 (Q 1)]
abbrev ad6:=Rg [B 48 10,P 49 .lss 48 8]
abbrev acu:=Rg [V 53 (.ld (some 4) 0 (.s 5)),B 54 10,P 55 .sub 54 1,H 56 oi [.m 53,.m 55],A 52 56,E 57 52 false 0,E 58 52 false 1,A 11 57,A 12 58,Z [12,52]]
abbrev aan:=Rg [V 60 (.ld (some 4) 0 (.s 5)),B 61 10,H 62 oi [.m 60,.m 61],A 59 62,E 63 59 false 0,E 64 59 false 1,A 13 63,A 14 64,Z [14,59]]
abbrev Z4:=Rg [A 65 11,A 66 13,L 67 .eql 65 66]
abbrev adP:=Rg [B 68 9,V 69 (.callv (.m 68) [Q 1,Q 1]),Z [69]]
abbrev aat:=Rg [B 70 9,V 71 (.callv (.m 70) [Q 0,Q 1]),Z [71]]
abbrev Zx:=Rg [A 50 10,P 51 .add 50 1,A 10 51]
def qQ:VC:=(.seq (.seq ad6
 (.cond (.m 49)
 .skip
 (.seq (K [5,9,10]) (.exit 0))))
 (.seq (.block 1
 (.seq acu
 (.seq aan
 (.seq Z4
 (.cond (.m 67)
 adP
 aat)))))
 Zx))
abbrev aaa:=Rg [V 72 (.ld none 1 (.m 3)),A 6 72,C 7 (Q 0)]
def Ir:ae:=⟨3,[.tmp 6,.tmp 7],
 (.seq afX
 (.seq (.seq ahq
 (.seq afI
 (.cond (.m 19)
 (.seq (K [3,5]) (.seq ag2
 .ret))
 (.seq (K [8]) .skip))))
 (.seq ahi
 (.seq agb
 (.seq ahy
 (.seq ahE
 (.seq (.seq ahB
 (.cond (.m 36)
 (.seq agp
 (.seq aee
 (.seq aa6
 .ret)))
 .skip))
 (.seq aex
 (.seq (.seq abg
 (.block 0
 (.seq (.loop qQ) (K [5,9,10]))))
 (.seq aaa
 .ret))))))))))⟩
abbrev age:=Rg [V 3 (.box (.m 0)),V 4 (.box (.m 1)),V 6 (.mov (.c (.nl))),C 7 (Q 0),Z [6,7]]
abbrev ah2:=Rg [V 16 (.ld (some 4) 0 (.s 4)),B 17 2,H 18 Bc [.m 16,.m 17],A 8 18]
abbrev afJ:=Rg [B 19 8,P 20 .neq 19 0]
abbrev agw:=Rg [A 21 8,V 6 (.mov (.c (.nl))),A 7 21]
abbrev ahW:=Rg [V 23 (.ld (some 4) 1 (.m 4)),H 24 uj [.m 23],A 22 24,E 25 22 false 0,E 26 22 false 1,V 9 (.alloc [O]),Yd 1 9 25,A 10 26,Z [22]]
abbrev afO:=Rg [G 28 3,H 29 ed [.m 28,Q 0,Q 0],A 27 29,E 30 27 true 0,E 31 27 false 1,Yd 1 3 30,Z [27,31]]
abbrev afH:=Rg [A 32 2,V 33 (.len (.s 32)),C 34 (Q 0)]
abbrev ahI:=Rg [J 35 .lss 34 33]
abbrev agA:=Rg [V 36 (.ia 1 (.s 32) (.s 34)),M 37 36,A 12 37]
abbrev agQ:=Rg [A 38 12,V 39 (.len (.s 38)),C 40 (Q 0)]
abbrev abK:=Rg [J 41 .lss 40 39]
abbrev ZD:=Rg [V 42 (.ia 2 (.s 38) (.s 40)),V 43 (.ld (some 2) 0 (.m 42)),V 14 (.alloc [O,O]),Yd 2 14 43]
abbrev aaf:=Rg [G 45 3,X 46 0 14,M 47 46,H 48 ed [.m 45,.m 47,Q 4],A 44 48,E 49 44 true 0,E 50 44 false 1,Yd 1 3 49,Z [44,50]]
abbrev ZX:=Rg [X 51 1 14,M 52 51,B 53 10,V 54 (.calli zQ [.m 52,.m 53])]
abbrev ado:=Rg [A 15 55,Z [10,32,33,34,38,39,40,54]]
abbrev act:=Rg [G 57 3,A 58 15,M 59 9,H 60 ed [.m 57,.m 58,.m 59],A 56 60,E 61 56 true 0,E 62 56 false 1,N (.st 1 (.m 3) (.m 61)),Z [56,62]]
def zG:VC:=ado
def zj:VC:=(.block 5
 act)
abbrev adA:=Rg [P 63 .add 40 1,A 40 63]
def mK:VC:=(.seq abK
 (.seq (.cond (.m 41)
 .skip
 (.seq (K [38,39,40]) (.exit 2)))
 (.seq (.block 3
 (.seq ZD
 (.seq aaf
 (.seq (.seq ZX (F 14))
 (.block 4
 (.seq (.rangeF (.s 54) [55] zG zj) (F 54)))))))
 adA)))
abbrev aej:=Rg [P 64 .add 34 1,A 34 64]
def qL:VC:=(.seq ahI
 (.seq (.cond (.m 35)
 .skip
 (.seq (K [9,10,32,33,34]) (.exit 0)))
 (.seq (.block 1
 (.seq agA
 (.seq agQ
 (.block 2
 (.seq (.loop mK) (K [38,39,40]))))))
 aej)))
abbrev acX:=Rg [V 65 (.ld none 1 (.m 3)),A 6 65,C 7 (Q 0)]
def Ix:ae:=⟨3,[.tmp 6,.tmp 7],
 (.seq age
 (.seq (.seq ah2
 (.seq afJ
 (.cond (.m 20)
 (.seq (K [2,3,4]) (.seq agw
 .ret))
 (.seq (K [8]) .skip))))
 (.seq ahW
 (.seq afO
 (.seq (.seq afH
 (.block 0
 (.seq (.loop qL) (K [9,10,32,33,34]))))
 (.seq acX
 .ret))))))⟩
abbrev abl:=Rg [V 4 (.box (.m 0)),V 7 (.box (.m 3)),V 8 (.mov (.c (.nl))),C 9 (Q 0),Z [8,9]]
abbrev acq:=Rg [B 17 1,B 18 2,G 19 7,H 20 zi [.m 17,.m 18,.m 19],A 10 20]
abbrev abL:=Rg [B 21 10,P 22 .neq 21 0]
abbrev acv:=Rg [A 23 10,V 8 (.mov (.c (.nl))),A 9 23]
abbrev abm:=Rg [G 25 4,H 26 ed [.m 25,Q 0,Q 0],A 24 26,E 27 24 true 0,E 28 24 false 1,Yd 1 4 27,Z [24,28]]
abbrev aah:=Rg [A 29 1,V 30 (.build [O,O] [(0,1,.m 29),(1,1,Q (-1))]),V 31 (.box (.m 30)),V 11 (.alloc [.nilp]),Yd 1 11 31]
abbrev acN:=Rg [A 32 2,V 33 (.len (.s 32)),C 34 (Q 0)]
abbrev ZZ:=Rg [J 35 .lss 34 33]
abbrev ab8:=Rg [B 36 34,V 37 (.ia 1 (.s 32) (.s 34)),M 38 37,V 12 (.alloc [O]),Yd 1 12 36,A 13 38]
abbrev acH:=Rg [A 39 13,V 40 (.calli kl [.m 39])]
abbrev Vt:=Rg [A 14 41,Z [32,33,34,40]]
abbrev Xt:=Rg [A 15 42]
abbrev Xg:=Rg [G 43 7,G 44 12,V 45 (.ia 1 (.m 43) (.m 44)),M 46 45,A 47 14,V 48 (.ia 1 (.m 46) (.m 47)),M 49 48,A 16 49,Z [7,12]]
abbrev Yn:=Rg [B 62 15,P 63 .eql 62 0,A 61 63]
abbrev Zp:=Rg [B 65 15,P 66 .eql 65 13,A 67 66,W 67 68 (.ld none 0 (.s 11)),W 67 69 (.nilck (.s 68)),W 67 70 (.fa 1 (.s 69)),W 67 71 (.ld none 0 (.s 70)),W 67 72 (.bin .lss (.s 71) (Q 0)),V 73 (.pick (.m 67) (.s 72) ff),A 64 73,Z [68,69,70,71,72]]
abbrev WL:=Rg [G 75 4,B 76 16,H 77 ed [.m 75,.m 76,Q 9],A 74 77,E 78 74 true 0,E 79 74 false 1,Yd 1 4 78,Z [4,74,79]]
abbrev Yb:=Rg [B 81 15,P 82 .eql 81 13,A 80 82]
abbrev Fz:=[G 84 4,B 85 16,G 86 11,V 87 (.nilck (.m 86)),V 88 (.fa 1 (.m 87)),M 89 88,L 90 .sub 85 89,H 91 xE [.m 84,.m 90],A 83 91,E 92 83 true 0,E 93 83 false 1,Yd 1 4 92]
def D4:VC:=.regP (.range 12) [0,1,2,3,4,5,6,7,8,9,11,10] [] Fz
abbrev GG:=[G 51 4,B 52 16,G 53 11,V 54 (.nilck (.m 53)),V 55 (.fa 0 (.m 54)),M 56 55,L 57 .sub 52 56,H 58 xE [.m 51,.m 57],A 50 58,E 59 50 true 0,E 60 50 false 1,Yd 1 4 59]
def D2:VC:=.regP (.range 12) [0,1,2,3,4,5,6,7,8,9,11,10] [] GG
abbrev Yk:=Rg [G 94 11,A 95 15,A 96 16,V 97 (.calli fw [.m 94,.m 95,.m 96]),Z [11,97]]
def jA:VC:=(.seq Vt
 Xt)
def jB:VC:=(.block 3
 (.seq Xg
 (.seq (.block 4
 (.seq Yn
 (.cond (.m 61)
 (.seq (K [4,11,15,16]) (.exit 3))
 (.seq Zp
 (.cond (.m 64)
 WL
 (.seq Yb
 (.cond (.m 80)
 (.seq D4 (K [4,83,93]))
 (.seq D2 (K [4,50,60])))))))))
 Yk)))
abbrev Y8:=Rg [P 98 .add 34 1,A 34 98]
def pf:VC:=(.seq ZZ
 (.seq (.cond (.m 35)
 .skip
 (.seq (.seq (.seq (K [32,33,34]) (F 7)) (F 11)) (.exit 0)))
 (.seq (.block 1
 (.seq ab8
 (.seq acH
 (.block 2
 (.seq (.rangeF (.s 40) [41,42] jA jB) (.seq (F 12) (F 40)))))))
 Y8)))
abbrev Zr:=Rg [V 99 (.ld none 1 (.s 4)),A 8 99,C 9 (Q 0)]
def D8:ae:=⟨4,[.tmp 8,.tmp 9],
 (.seq abl
 (.seq (.seq acq
 (.seq abL
 (.cond (.m 22)
 (.seq (.seq (.seq (K [1,2]) (F 4)) (F 7)) (.seq acv
 .ret))
 (.seq (K [10]) .skip))))
 (.seq abm
 (.seq aah
 (.seq (.seq acN
 (.block 0
 (.seq (.loop pf) (.seq (.seq (K [32,33,34]) (F 7)) (F 11)))))
 (.seq (.seq Zr (F 4))
 .ret))))))⟩
abbrev OP:=Rg [C 2 ff,Z [2]]
abbrev Og:=Rg [A 3 0,V 4 (.calli fR [.m 3,.c (.fn mg [] [])]),A 2 4]
def wm:ae:=⟨1,[.tmp 2],
 (.seq OP
 (.seq Og
 .ret))⟩
abbrev R9:=Rg [V 3 (.box (.m 0)),V 4 (.box (.m 1)),V 6 (.mov (.c (.nl))),C 7 (Q 0),Z [6,7]]
abbrev Tu:=Rg [V 19 (.ld (some 4) 0 (.s 4)),B 20 2,H 21 uw [.m 19,.m 20],A 8 21]
abbrev SE:=Rg [B 22 8,P 23 .neq 22 0]
abbrev TZ:=Rg [A 24 8,V 6 (.mov (.c (.nl))),A 7 24]
abbrev UG:=Rg [G 25 3,H 26 eq [.m 25],Yd 1 3 26]
abbrev Th:=Rg [V 27 (.mkfn iI [] [.s 3]),A 9 27]
abbrev SF:=Rg [V 28 (.ld (some 4) 1 (.s 4)),H 29 iL [.m 28],V 10 (.alloc [O,O,O,O,O]),Yd 5 10 29]
abbrev TX:=Rg [A 30 2,V 31 (.len (.s 30)),C 32 (Q 0)]
abbrev SC:=Rg [J 33 .lss 32 31]
abbrev SU:=Rg [V 34 (.ia 1 (.s 30) (.s 32)),M 35 34,A 12 35]
abbrev OQ:=Rg [B 36 9,B 37 12,V 38 (.len (.m 37)),V 39 (.iarr 5 1 (.s 10) (Q 0)),M 40 39,V 41 (.callv (.m 36) [.m 38,.m 40]),Z [41]]
abbrev PZ:=Rg [B 42 12,V 43 (.len (.m 42)),P 44 .gtr 43 0]
abbrev PA:=Rg [B 45 9,B 46 12,V 47 (.ia 5 (.m 46) (Q 0)),V 48 (.fa 3 (.m 47)),M 49 48,H 50 ko [.m 49],V 51 (.callv (.m 45) [.m 50,Q 1]),Z [51]]
abbrev Qr:=Rg [A 52 12,V 53 (.len (.s 52)),C 54 (Q 0)]
abbrev Pt:=Rg [J 55 .lss 54 53]
abbrev Qm:=Rg [V 56 (.ia 5 (.s 52) (.s 54)),V 57 (.ld (some 5) 0 (.m 56)),V 14 (.alloc [O,O,.d (.bool false),.d (.bool false),.nl]),Yd 5 14 57]
abbrev QA:=Rg [B 58 9,X 59 0 14,M 60 59,V 61 (.iarr 5 1 (.s 10) (Q 1)),M 62 61,V 63 (.callv (.m 58) [.m 60,.m 62]),Z [63]]
abbrev PT:=Rg [B 64 9,X 65 1 14,M 66 65,V 67 (.iarr 5 1 (.s 10) (Q 2)),M 68 67,V 69 (.callv (.m 64) [.m 66,.m 68]),Z [69]]
abbrev Pc:=Rg [X 70 1 14,M 71 70,P 72 .eql 71 0]
abbrev PN:=Rg [X 73 3 14,M 74 73,H 75 jy [.m 74],A 15 75]
abbrev OT:=Rg [X 76 4 14,M 77 76,B 78 15,P 79 .sub 78 1,H 80 kp [.m 77,.m 79],A 16 80]
abbrev PL:=Rg [B 81 9,X 82 2 14,M 83 82,H 84 ko [.m 83],V 85 (.callv (.m 81) [.m 84,Q 1]),Z [85]]
abbrev O7:=Rg [B 86 9,B 87 16,H 88 ko [.m 87],V 89 (.callv (.m 86) [.m 88,Q 1]),Z [89]]
abbrev N5:=Rg [X 90 4 14,M 91 90,V 92 (.len (.s 91)),C 93 (Q 0)]
abbrev PB:=Rg [J 94 .lss 93 92]
abbrev OR:=Rg [V 95 (.ia 1 (.s 91) (.s 93)),M 96 95,A 18 96]
abbrev QN:=Rg [B 97 9,A 98 18,B 99 15,B 100 16,H 101 ko [.m 100],L 102 .sub 99 101,V 103 (.callv (.m 97) [.m 98,.m 102]),Z [103]]
abbrev PR:=Rg [P 104 .add 93 1,A 93 104]
def mu:VC:=(.seq PB
 (.seq (.cond (.m 94)
 .skip
 (.seq (K [15,16,91,92,93]) (.exit 4)))
 (.seq (.block 5
 (.seq OR
 QN))
 PR)))
abbrev OJ:=Rg [P 105 .add 54 1,A 54 105]
def jF:VC:=(.seq Pt
 (.seq (.cond (.m 55)
 .skip
 (.seq (K [52,53,54]) (.exit 2)))
 (.seq (.block 3
 (.seq Qm
 (.seq QA
 (.seq PT
 (.seq (.seq Pc
 (.cond (.m 72)
 (.seq (F 14) (.exit 3))
 .skip))
 (.seq PN
 (.seq OT
 (.seq PL
 (.seq O7
 (.seq (.seq N5 (F 14))
 (.block 4
 (.seq (.loop mu) (K [15,16,91,92,93])))))))))))))
 OJ)))
abbrev P9:=Rg [P 106 .add 32 1,A 32 106]
def jX:VC:=(.seq SC
 (.seq (.cond (.m 33)
 .skip
 (.seq (.seq (K [9,30,31,32]) (F 10)) (.exit 0)))
 (.seq (.block 1
 (.seq SU
 (.seq OQ
 (.seq (.seq PZ
 (.cond (.m 44)
 PA
 .skip))
 (.seq Qr
 (.block 2
 (.seq (.loop jF) (K [52,53,54]))))))))
 P9)))
abbrev PI:=Rg [V 107 (.ld none 1 (.m 3)),A 6 107,C 7 (Q 0)]
def yE:ae:=⟨3,[.tmp 6,.tmp 7],
 (.seq R9
 (.seq (.seq Tu
 (.seq SE
 (.cond (.m 23)
 (.seq (.seq (K [2,3]) (F 4)) (.seq TZ
 .ret))
 (.seq (K [8]) .skip))))
 (.seq UG
 (.seq Th
 (.seq (.seq SF (F 4))
 (.seq (.seq TX
 (.block 0
 (.seq (.loop jX) (.seq (K [9,30,31,32]) (F 10)))))
 (.seq PI
 .ret)))))))⟩
abbrev UW:=Rg [V 4 (.box (.m 1)),V 5 (.box (.m 2)),V 6 (.mov (.c (.nilf))),Z [6]]
abbrev WC:=Rg [A 10 0,X 11 0 4,M 12 11,V 13 (.bin .eql (.m 12) (.c (.d (.int .u8 2)))),H 14 jz [.m 10,.m 13],A 9 14,E 15 9 true 0,E 16 9 false 1,V 7 (.alloc [.nl]),Yd 1 7 15,A 8 16,Z [8,9]]
abbrev Wj:=Rg [V 17 (.mkfn dA [] [.m 5,.m 4,.m 7]),A 6 17]
def Bo:ae:=⟨3,[.tmp 6],
 (.seq UW
 (.seq WC
 (.seq Wj
 .ret)))⟩
abbrev ahY:=Rg [V 4 (.box (.m 1)),V 6 (.mov (.c (.nl))),C 7 (Q 0),Z [6,7]]
abbrev af1:=Rg [X 27 0 4,M 28 27,B 29 2,H 30 xl [.m 28,.m 29],A 26 30,E 31 26 false 0,E 32 26 false 1,A 8 31,A 9 32,Z [26]]
abbrev afW:=Rg [B 33 9,P 34 .neq 33 0,A 35 34,U 35 36 (.mov (.s 8)),U 35 37 (.un .not (.s 36)),V 38 (.pick (.m 35) tt (.s 37)),Z [8,36,37]]
abbrev afQ:=Rg [V 39 (.ld (some 4) 1 (.s 4)),H 40 G7 [.m 39],A 10 40]
abbrev ahm:=Rg [B 41 10,P 42 .neq 41 0]
abbrev agq:=Rg [A 43 10,V 6 (.mov (.c (.nl))),A 7 43]
abbrev ags:=Rg [A 44 9,V 45 (.minmax true [.m 44,Q 2]),V 6 (.mov (.c (.nl))),A 7 45]
abbrev ahr:=Rg [X 46 0 4,M 47 46,H 48 yU [.m 47]]
abbrev agL:=Rg [X 50 0 4,M 51 50,A 52 2,H 53 oI [.m 51,.m 52],A 49 53,E 54 49 false 0,E 55 49 false 1,A 11 54,A 12 55,Z [12,49]]
abbrev agc:=Rg [V 57 (.ld (some 4) 1 (.s 4)),A 58 11,H 59 mW [.m 57,.m 58],A 56 59,E 60 56 true 0,E 61 56 false 1,A 13 60,A 14 61,Z [56]]
abbrev abB:=Rg [B 62 14,P 63 .neq 62 0]
abbrev abS:=Rg [A 64 14,V 6 (.mov (.c (.nl))),A 7 64]
abbrev adJ:=Rg [A 65 0,A 66 13,V 67 (.mks 1 [.m 65,.m 66]),H 68 fB [.m 67],A 6 68,C 7 (Q 0)]
abbrev abD:=Rg [V 15 (.mov (.c (.nl)))]
abbrev ZT:=Rg [V 16 (.mov (.c (.nl))),V 17 (.mov (.c (.nl)))]
abbrev abT:=Rg [A 69 2,V 70 (.len (.s 69)),C 71 (Q 0)]
abbrev abt:=Rg [J 72 .lss 71 70]
abbrev ab4:=Rg [V 73 (.ia 1 (.s 69) (.s 71)),M 74 73,A 19 74]
abbrev abV:=Rg [B 75 19,H 76 Fh [.m 75],A 20 76]
abbrev ab1:=Rg [B 77 19,P 78 .neq 77 0]
abbrev ael:=Rg [A 79 16,A 80 19,V 81 (.conv .u64 (.m 80)),V 82 (.bin .shr (.m 81) (.c (.d (.int .u64 63)))),V 83 (.conv .u8 (.m 82)),V 84 (.mks 1 [.m 83]),V 85 (.app 1 (.m 79) (.m 84)),A 16 85]
abbrev adI:=Rg [X 86 0 4,M 87 86,P 88 .eql 87 11,A 89 88,W 89 90 (.mov (.s 20)),W 89 91 (.bin .geq (.s 90) (Q 16)),V 92 (.pick (.m 89) (.s 91) ff),Z [90,91]]
abbrev adW:=Rg [B 93 20,V 94 (.conv .u64 (.m 93)),H 95 nW [.m 94],P 96 .sub 95 5,A 21 96]
abbrev Zv:=Rg [A 97 17,V 98 (.mks 1 [.c (.d (.int .u8 1))]),B 99 21,H 100 sS [.m 98,.m 99],V 101 (.app 1 (.m 97) (.m 100)),A 17 101]
abbrev JA:=[A 103 17,V 104 (.mks 1 [.c (.d (.int .u8 0))]),V 105 (.app 1 (.m 103) (.m 104)),A 106 20,B 107 21,P 108 .add 107 4,V 109 (.bin .shl (Q 1) (.m 108)),P 110 .sub 109 1,L 111 .and 106 110,B 112 21,P 113 .add 112 4,H 114 ed [.m 105,.m 111,.m 113],A 102 114,E 115 102 true 0,E 116 102 false 1,A 17 115]
def Gd:VC:=.regP (.range 16) [0,1,2,3,4,5,6,7,8,9,10,11,12,13,15,14] [] JA
abbrev abq:=Rg [C 20 (Q 16)]
abbrev acE:=Rg [A 117 15,A 118 20,V 119 (.mks 1 [.m 118]),V 120 (.app 1 (.m 117) (.m 119)),A 15 120]
abbrev ZB:=Rg [P 121 .add 71 1,A 71 121]
def mI:VC:=(.seq abt
 (.seq (.cond (.m 72)
 .skip
 (.seq (K [69,70,71]) (.exit 0)))
 (.seq (.block 1
 (.seq ab4
 (.seq abV
 (.seq (.seq ab1
 (.cond (.m 78)
 ael
 (.seq (K [19]) .skip)))
 (.seq (.seq adI
 (.cond (.m 92)
 (.seq adW
 (.seq Zv
 (.seq (.seq Gd (K [21,102,116]))
 abq)))
 .skip))
 acE)))))
 ZB)))
abbrev aam:=Rg [X 123 0 4,M 124 123,A 125 15,H 126 oI [.m 124,.m 125],A 122 126,E 127 122 false 0,E 128 122 false 1,A 22 127,A 23 128,Z [23,122]]
abbrev aad:=Rg [V 130 (.ld (some 4) 1 (.s 4)),A 131 22,H 132 mW [.m 130,.m 131],A 129 132,E 133 129 true 0,E 134 129 false 1,A 24 133,A 25 134,Z [129]]
abbrev acf:=Rg [B 135 25,P 136 .neq 135 0]
abbrev adF:=Rg [A 137 25,V 6 (.mov (.c (.nl))),A 7 137]
abbrev abx:=Rg [A 138 0,A 139 24,A 140 16,A 141 17,V 142 (.mks 1 [.m 138,.m 139,.m 140,.m 141]),H 143 fB [.m 142],A 6 143,C 7 (Q 0)]
def Ai:ae:=⟨3,[.tmp 6,.tmp 7],
 (.seq ahY
 (.seq af1
 (.seq (.seq afW
 (.cond (.m 38)
 (.seq (K [0,2]) (.seq (.seq (.seq afQ (F 4))
 (.seq ahm
 (.cond (.m 42)
 (.seq (K [9]) (.seq agq
 .ret))
 (.seq (K [10]) .skip))))
 (.seq ags
 .ret)))
 (.seq (K [9]) .skip)))
 (.seq (.seq ahr
 (.cond (.m 48)
 (.seq agL
 (.seq (.seq agc (F 4))
 (.seq (.seq abB
 (.cond (.m 63)
 (.seq (K [0,13]) (.seq abS
 .ret))
 (.seq (K [14]) .skip)))
 (.seq adJ
 .ret))))
 .skip))
 (.seq abD
 (.seq ZT
 (.seq (.seq abT
 (.block 0
 (.seq (.loop mI) (K [69,70,71]))))
 (.seq aam
 (.seq (.seq aad (F 4))
 (.seq (.seq acf
 (.cond (.m 136)
 (.seq (K [0,16,17,24]) (.seq adF
 .ret))
 (.seq (K [25]) .skip)))
 (.seq abx
 .ret)))))))))))⟩
abbrev M4:=Rg [V 4 (.alloc [O,O,.nl,.nl])]
abbrev Kn:=Rg [B 5 0,B 6 1,V 7 (.nilck (.m 5)),V 8 (.iarr 12 4 (.m 7) (.m 6)),V 9 (.fa 0 (.m 8)),M 10 9,P 11 .eql 10 0]
abbrev z7:=[B 13 0,B 14 1,B 15 1,H 16 pt [.m 15],A 12 16,E 17 12 true 0,E 18 12 false 1,V 19 (.nilck (.m 13)),V 20 (.iarr 12 4 (.m 19) (.m 14)),N (.st 4 (.m 20) (.m 17))]
def yj:VC:=.regP (.range 10) [0,1,2,3,4,5,7,8,9,6] [] z7
abbrev Mf:=Rg [A 21 0,A 22 1,V 23 (.nilck (.m 21)),V 24 (.iarr 12 4 (.m 23) (.m 22)),V 25 (.ld (some 4) 0 (.m 24)),Yd 4 4 25]
def uo:ae:=⟨2,[.cell 4 (some 4)],
 (.seq M4
 (.seq (.seq Kn
 (.cond (.m 11)
 (.seq yj (K [12,18]))
 .skip))
 (.seq Mf
 .ret)))⟩
abbrev U7:=Rg [V 3 (.box (.m 1)),C 4 (Q 0),Z [4]]
abbrev US:=Rg [A 8 0,X 9 0 3,M 10 9,V 11 (.bin .eql (.m 10) (.c (.d (.int .u8 2)))),H 12 qo [.m 8,.m 11],A 7 12,E 13 7 false 0,E 14 7 false 1,A 5 13,A 6 14,Z [7]]
abbrev YE:=Rg [B 15 6,P 16 .neq 15 0]
abbrev XC:=Rg [A 17 6,A 4 17]
abbrev XS:=Rg [X 18 0 3,M 19 18,V 20 (.bin .gtr (.m 19) (.c (.d (.int .u8 3)))),A 21 20,U 21 22 (.fa 1 (.s 3)),U 21 23 (.ld none 0 (.s 22)),U 21 24 (.bin .gtr (.s 23) (.c (.d (.int .u8 1)))),V 25 (.pick (.m 21) tt (.s 24)),A 26 25,U 26 27 (.fa 2 (.s 3)),U 26 28 (.ld none 0 (.s 27)),U 26 29 (.bin .lss (.s 28) (Q 0)),V 30 (.pick (.m 26) tt (.s 29)),A 31 30,U 31 32 (.fa 2 (.s 3)),U 31 33 (.ld none 0 (.s 32)),U 31 34 (.mov (.s 5)),U 31 35 (.bin .gtr (.s 33) (.s 34)),V 36 (.pick (.m 31) tt (.s 35)),A 37 36,U 37 38 (.ld (some 4) 0 (.s 3)),U 37 39 (.call wB [.s 38]),U 37 40 (.un .not (.s 39)),V 41 (.pick (.m 37) tt (.s 40)),Z [3,5,22,23,24,27,28,29,32,33,34,35,38,39,40]]
abbrev Wf:=Rg [C 4 (Q 8)]
abbrev Wa:=Rg [C 4 (Q 0)]
def Cx:ae:=⟨2,[.tmp 4],
 (.seq U7
 (.seq US
 (.seq (.seq YE
 (.cond (.m 16)
 (.seq (K [3,5]) (.seq XC
 .ret))
 (.seq (K [6]) .skip)))
 (.seq (.seq XS
 (.cond (.m 41)
 (.seq Wf
 .ret)
 .skip))
 (.seq Wa
 .ret)))))⟩
abbrev Qq:=Rg [V 1 (.box (.m 0)),C 2 (Q 0),C 3 (Q 0),Z [2,3]]
abbrev N7:=Rg [V 5 (.ld (some 4) 0 (.s 1)),H 6 Ep [.m 5],V 7 (.un .not (.m 6)),A 4 7]
abbrev OF:=Rg [C 2 (Q 0),C 3 (Q 8)]
abbrev P4:=Rg [V 9 (.fa 0 (.m 1)),M 10 9,V 11 (.bin .eql (.m 10) (.c (.d (.int .u8 2)))),A 8 11]
abbrev OU:=Rg [C 2 (Q 8),C 3 (Q 0)]
abbrev Od:=Rg [C 2 (Q 1),C 3 (Q 0)]
def w9:ae:=⟨1,[.tmp 2,.tmp 3],
 (.seq Qq
 (.seq (.block 0
 (.seq N7
 (.cond (.m 4)
 (.seq (K [1]) (.seq OF
 .ret))
 (.seq P4
 (.cond (.m 8)
 (.seq OU
 .ret)
 .skip)))))
 (.seq Od
 .ret)))⟩
abbrev OV:=Rg [C 1 ff,Z [1]]
abbrev Px:=Rg [X 2 0 0,M 3 2,P 4 .geq 3 0,A 5 4,W 5 6 (.fa 0 (.s 0)),W 5 7 (.ld none 0 (.s 6)),W 5 8 (.bin .leq (.s 7) (Q 255)),V 9 (.pick (.m 5) (.s 8) ff),A 1 9,Z [0,6,7,8]]
def wa:ae:=⟨1,[.tmp 1],
 (.seq OV
 (.seq Px
 .ret))⟩
abbrev Qi:=Rg [C 1 ff,Z [1]]
abbrev Ps:=Rg [V 2 (.ld (some 9) 0 (.m 0)),H 3 nT [.m 2],A 1 3]
def wj:ae:=⟨1,[.tmp 1],
 (.seq Qi
 (.seq Ps
 .ret))⟩
abbrev LJ:=Rg [V 1 (.box (.m 0)),C 2 ff,Z [2]]
abbrev KF:=Rg [X 8 5 1,M 9 8,V 10 (.len (.m 9)),X 11 1 1,V 12 (.fa 3 (.m 11)),M 13 12,V 14 (.len (.m 13)),L 15 .neq 10 14]
abbrev MB:=Rg [C 2 ff]
abbrev L7:=Rg [X 16 5 1,M 17 16,V 18 (.len (.s 17)),C 19 (Q 0)]
abbrev Mv:=Rg [J 20 .lss 19 18]
abbrev Lj:=Rg [V 21 (.ia 1 (.s 17) (.s 19)),M 22 21,A 4 22]
abbrev Lp:=Rg [C 5 (Q 0)]
abbrev MY:=Rg [B 23 4,V 24 (.len (.s 23)),C 25 (Q 0)]
abbrev Mk:=Rg [J 26 .lss 25 24]
abbrev Kx:=Rg [V 27 (.ia 2 (.s 23) (.s 25)),V 28 (.ld (some 2) 0 (.m 27)),V 7 (.alloc [O,O]),Yd 2 7 28]
abbrev Kb:=Rg [X 29 1 7,M 30 29,P 31 .lss 30 1,A 32 31,U 32 33 (.fa 1 (.s 7)),U 32 34 (.ld none 0 (.s 33)),U 32 35 (.bin .gtr (.s 34) (Q 40)),V 36 (.pick (.m 32) tt (.s 35)),A 37 36,U 37 38 (.fa 0 (.s 7)),U 37 39 (.ld none 0 (.s 38)),U 37 40 (.bin .lss (.s 39) (Q 0)),V 41 (.pick (.m 37) tt (.s 40)),A 42 41,U 42 43 (.fa 0 (.s 7)),U 42 44 (.ld none 0 (.s 43)),U 42 45 (.bin .gtr (.s 44) (Q 11)),U 42 46 (.mov (.s 45)),W 46 47 (.fa 0 (.s 7)),W 46 48 (.ld none 0 (.s 47)),W 46 49 (.bin .neq (.s 48) (Q 13)),U 42 50 (.pick (.s 46) (.s 49) ff),V 51 (.pick (.m 42) tt (.s 50)),Z [33,34,35,38,39,40,43,44,45,46,47,48,49,50]]
abbrev J2:=Rg [C 2 ff]
abbrev JQ:=Rg [A 52 5,X 53 1 7,M 54 53,L 55 .add 52 54,A 5 55]
abbrev JN:=Rg [P 56 .add 25 1,A 25 56]
def iG:VC:=(.seq Mk
 (.seq (.cond (.m 26)
 .skip
 (.seq (K [23,24,25]) (.exit 2)))
 (.seq (.block 3
 (.seq Kx
 (.seq (.seq Kb
 (.cond (.m 51)
 (.seq (.seq (.seq (K [4,5,17,18,19,23,24,25]) (F 1)) (F 7)) (.seq J2
 .ret))
 .skip))
 (.seq JQ (F 7)))))
 JN)))
abbrev J3:=Rg [A 57 5,X 58 1 1,V 59 (.fa 2 (.m 58)),M 60 59,L 61 .neq 57 60,A 62 61,U 62 63 (.mov (.s 4)),U 62 64 (.len (.s 63)),U 62 65 (.bin .gtr (.s 64) (Q 40)),V 66 (.pick (.m 62) tt (.s 65)),Z [4,63,64,65]]
abbrev JS:=Rg [C 2 ff]
abbrev JX:=Rg [P 67 .add 19 1,A 19 67]
def fA:VC:=(.seq Mv
 (.seq (.cond (.m 20)
 .skip
 (.seq (.seq (K [17,18,19]) (F 1)) (.exit 0)))
 (.seq (.block 1
 (.seq Lj
 (.seq Lp
 (.seq (.seq MY
 (.block 2
 (.seq (.loop iG) (K [23,24,25]))))
 (.seq J3
 (.cond (.m 66)
 (.seq (.seq (K [17,18,19]) (F 1)) (.seq JS
 .ret))
 .skip))))))
 JX)))
abbrev JW:=Rg [C 2 tt]
def uP:ae:=⟨1,[.tmp 2],
 (.seq LJ
 (.seq (.seq KF
 (.cond (.m 15)
 (.seq (F 1) (.seq MB
 .ret))
 .skip))
 (.seq (.seq L7
 (.block 0
 (.seq (.loop fA) (.seq (K [17,18,19]) (F 1)))))
 (.seq JW
 .ret))))⟩
abbrev Pi:=Rg [C 1 ff,Z [1]]
abbrev PV:=Rg [V 2 (.ld (some 9) 0 (.m 0)),H 3 tN [.m 2],A 1 3]
def wI:ae:=⟨1,[.tmp 1],
 (.seq Pi
 (.seq PV
 .ret))⟩
abbrev YV:=Rg [V 1 (.box (.m 0)),C 2 ff,Z [2]]
abbrev XV:=Rg [X 12 6 1,M 13 12,V 14 (.len (.m 13)),X 15 1 1,V 16 (.fa 3 (.m 15)),M 17 16,V 18 (.len (.m 17)),L 19 .neq 14 18]
abbrev UY:=Rg [C 2 ff]
abbrev YC:=Rg [X 20 0 1,M 21 20,A 3 21,C 4 (Q 0),C 5 ff]
abbrev Vi:=Rg [X 22 6 1,M 23 22,V 24 (.len (.s 23)),C 25 (Q 0)]
abbrev UT:=Rg [J 26 .lss 25 24]
abbrev W8:=Rg [B 27 25,V 28 (.ia 1 (.s 23) (.s 25)),M 29 28,A 6 27,A 7 29]
abbrev Yt:=Rg [B 30 7,V 31 (.len (.m 30)),X 32 1 1,V 33 (.fa 2 (.m 32)),M 34 33,L 35 .neq 31 34]
abbrev Xu:=Rg [C 2 ff]
abbrev Yz:=Rg [A 36 7,V 37 (.len (.s 36)),C 38 (Q 0)]
abbrev Uc:=Rg [J 39 .lss 38 37]
abbrev TS:=Rg [B 40 38,V 41 (.ia 1 (.s 36) (.s 38)),M 42 41,A 8 40,A 9 42]
abbrev Tx:=Rg [X 44 5 1,M 45 44,B 46 6,A 47 8,H 48 xH [.m 45,.m 46,.m 47],A 43 48,E 49 43 false 0,E 50 43 false 1,A 10 49,A 11 50,Z [11,43]]
abbrev Sq:=Rg [B 52 10,P 53 .eql 52 0,A 54 53,W 54 55 (.mov (.s 9)),W 54 56 (.bin .neq (.s 55) (Q 0)),V 57 (.pick (.m 54) (.s 56) ff),A 51 57,Z [55,56]]
abbrev Ue:=Rg [C 2 ff]
abbrev TB:=Rg [B 59 10,P 60 .eql 59 13,A 58 60]
abbrev TE:=Rg [B 61 9,P 62 .lss 61 0,A 63 62,U 63 64 (.mov (.s 9)),U 63 65 (.bin .gtr (.s 64) (Q 511)),V 66 (.pick (.m 63) tt (.s 65)),A 67 66,U 67 68 (.mov (.s 5)),U 67 69 (.mov (.s 68)),W 69 70 (.mov (.s 4)),W 69 71 (.mov (.s 9)),W 69 72 (.call xF [.s 70,.s 71]),W 69 73 (.un .not (.s 72)),U 67 74 (.pick (.s 69) (.s 73) ff),V 75 (.pick (.m 67) tt (.s 74)),Z [4,5,64,65,68,69,70,71,72,73,74]]
abbrev Ts:=Rg [C 2 ff]
abbrev Tf:=Rg [A 76 9,A 4 76,C 5 tt]
abbrev S4:=Rg [A 78 10,P 79 .gtr 78 0,A 77 79]
abbrev T6:=Rg [B 80 9,P 81 .lss 80 0,A 82 81,U 82 83 (.mov (.s 9)),U 82 84 (.bin .gtr (.s 83) (Q 255)),V 85 (.pick (.m 82) tt (.s 84)),A 86 85,U 86 87 (.mov (.s 3)),U 86 88 (.mov (.s 9)),U 86 89 (.call xF [.s 87,.s 88]),U 86 90 (.un .not (.s 89)),V 91 (.pick (.m 86) tt (.s 90)),Z [3,83,84,87,88,89,90]]
abbrev UR:=Rg [C 2 ff]
abbrev TV:=Rg [A 92 9,A 3 92]
abbrev UH:=Rg [P 93 .add 38 1,A 38 93]
def dO:VC:=(.seq Uc
 (.seq (.cond (.m 39)
 .skip
 (.seq (K [6,36,37,38]) (.exit 2)))
 (.seq (.block 3
 (.seq TS
 (.seq Tx
 (.block 4
 (.seq Sq
 (.cond (.m 51)
 (.seq (.seq (K [3,4,5,6,9,10,23,24,25,36,37,38]) (F 1)) (.seq Ue
 .ret))
 (.seq TB
 (.cond (.m 58)
 (.seq (K [10]) (.seq (.seq TE
 (.cond (.m 75)
 (.seq (.seq (K [3,6,9,23,24,25,36,37,38]) (F 1)) (.seq Ts
 .ret))
 .skip))
 Tf))
 (.seq S4
 (.cond (.m 77)
 (.seq (.seq T6
 (.cond (.m 91)
 (.seq (.seq (K [4,5,6,9,23,24,25,36,37,38]) (F 1)) (.seq UR
 .ret))
 .skip))
 TV)
 (.seq (K [9]) .skip)))))))))))
 UH)))
abbrev TP:=Rg [P 94 .add 25 1,A 25 94]
def iU:VC:=(.seq UT
 (.seq (.cond (.m 26)
 .skip
 (.seq (.seq (K [3,4,5,23,24,25]) (F 1)) (.exit 0)))
 (.seq (.block 1
 (.seq W8
 (.seq (.seq Yt
 (.cond (.m 35)
 (.seq (.seq (K [3,4,5,6,7,23,24,25]) (F 1)) (.seq Xu
 .ret))
 .skip))
 (.seq Yz
 (.block 2
 (.seq (.loop dO) (K [6,36,37,38])))))))
 TP)))
abbrev TR:=Rg [C 2 tt]
def Bl:ae:=⟨1,[.tmp 2],
 (.seq YV
 (.seq (.seq XV
 (.cond (.m 19)
 (.seq (F 1) (.seq UY
 .ret))
 .skip))
 (.seq YC
 (.seq (.seq Vi
 (.block 0
 (.seq (.loop iU) (.seq (K [3,4,5,23,24,25]) (F 1)))))
 (.seq TR
 .ret)))))⟩
abbrev PY:=Rg [C 2 ff,Z [2]]
abbrev QE:=Rg [V 3 (.ld (some 9) 0 (.m 0)),M 4 1,H 5 pW [.m 3,.m 4],A 2 5]
def wu:ae:=⟨2,[.tmp 2],
 (.seq PY
 (.seq QE
 .ret))⟩
abbrev Qg:=Rg [V 2 (.box (.m 0)),C 4 ff,Z [4]]
abbrev N9:=Rg [X 9 1 2,V 10 (.fa 0 (.m 9)),M 11 10,V 12 (.bin .eql (.m 11) (.c (.d (.int .u8 2)))),V 5 (.alloc [.d (.bool false)]),Yd 1 5 12]
abbrev QI:=Rg [C 6 (Q 3)]
abbrev QC:=Rg [G 13 5]
abbrev Ql:=Rg [C 6 (Q 1)]
abbrev Qx:=Rg [X 14 7 2,M 15 14,V 16 (.len (.m 15)),A 17 1,L 18 .neq 16 17]
abbrev Qt:=Rg [C 4 ff]
abbrev Ot:=Rg [X 19 7 2,M 20 19,V 21 (.len (.s 20)),C 22 (Q 0)]
abbrev Ol:=Rg [J 23 .lss 22 21]
abbrev PS:=Rg [V 24 (.ia 1 (.s 20) (.s 22)),M 25 24,V 8 (.alloc [.nl]),Yd 1 8 25]
abbrev Ll:=Rg [G 26 8,V 27 (.len (.m 26)),B 28 6,L 29 .gtr 27 28,A 30 29,U 30 31 (.ld none 0 (.s 8)),U 30 32 (.mkfn gT [] [.s 5,.s 8]),U 30 33 (.calli bW [.s 31,.s 32]),V 34 (.pick (.m 30) tt (.s 33)),Z [8,31,32,33]]
abbrev LD:=Rg [C 4 ff]
abbrev Lx:=Rg [P 35 .add 22 1,A 22 35]
def dE:VC:=(.seq Ol
 (.seq (.cond (.m 23)
 .skip
 (.seq (K [5,6,20,21,22]) (.exit 0)))
 (.seq (.block 1
 (.seq PS
 (.seq Ll
 (.cond (.m 34)
 (.seq (K [5,6,20,21,22]) (.seq LD
 .ret))
 .skip))))
 Lx)))
abbrev Lo:=Rg [C 4 tt]
def wY:ae:=⟨2,[.tmp 4],
 (.seq Qg
 (.seq N9
 (.seq QI
 (.seq (.seq QC
 (.cond (.m 13)
 (.seq (K [6]) Ql)
 .skip))
 (.seq (.seq Qx
 (.cond (.m 18)
 (.seq (.seq (K [5,6]) (F 2)) (.seq Qt
 .ret))
 .skip))
 (.seq (.seq (.seq Ot (F 2))
 (.block 0
 (.seq (.loop dE) (K [5,6,20,21,22]))))
 (.seq Lo
 .ret)))))))⟩
abbrev Po:=Rg [C 3 ff,Z [3]]
abbrev OL:=Rg [M 4 0,V 5 (.ld (some 9) 0 (.m 1)),M 6 2,H 7 oc [.m 4,.m 5,.m 6],A 3 7]
def we:ae:=⟨3,[.tmp 3],
 (.seq Po
 (.seq OL
 .ret))⟩
abbrev VW:=Rg [V 4 (.box (.m 1)),C 6 ff,Z [6]]
abbrev XW:=Rg [X 18 8 4,M 19 18,V 20 (.len (.m 19)),P 21 .neq 20 256]
abbrev Yh:=Rg [C 6 ff]
abbrev V7:=Rg [X 22 1 4,V 23 (.fa 0 (.m 22)),M 24 23,V 25 (.bin .eql (.m 24) (.c (.d (.int .u8 2)))),A 7 25]
abbrev VE:=Rg [A 27 0,A 28 7,H 29 jz [.m 27,.m 28],A 26 29,E 30 26 true 0,E 31 26 false 1,A 8 30,A 9 31,Z [9,26]]
abbrev Vq:=Rg [B 32 2,V 33 (.bin .quo (Q 256) (.m 32)),A 10 33]
abbrev We:=Rg [A 34 2,C 35 (Q 0)]
abbrev YR:=Rg [J 36 .lss 35 34]
abbrev Wt:=Rg [B 37 35,A 11 37]
abbrev UZ:=Rg [X 39 1 4,V 40 (.ld (some 4) 0 (.m 39)),B 41 11,H 42 oi [.m 40,.m 41],A 38 42,E 43 38 false 0,E 44 38 false 1,A 12 43,A 13 44,Z [13,38]]
abbrev RP:=Rg [C 14 (Q 0)]
abbrev SM:=Rg [X 45 8 4,M 46 45,B 47 11,B 48 10,L 49 .mul 47 48,A 50 11,P 51 .add 50 1,B 52 10,L 53 .mul 51 52,V 54 (.slice 1 (.m 46) (some (.m 49)) (some (.m 53)) none),V 55 (.len (.s 54)),C 56 (Q 0)]
abbrev SK:=Rg [J 57 .lss 56 55]
abbrev RI:=Rg [B 58 56,V 59 (.ia 1 (.s 54) (.s 56)),M 60 59,A 15 58,A 16 60]
abbrev Se:=Rg [B 61 16,P 62 .eql 61 0]
abbrev Tt:=Rg [B 63 15,B 64 8,B 65 14,P 66 .add 65 1,V 67 (.ia 1 (.m 64) (.m 66)),M 68 67,L 69 .geq 63 68]
abbrev Sp:=Rg [A 70 14,P 71 .add 70 1,A 14 71]
def uY:VC:=(.seq (.seq Tt
 (.cond (.m 69)
 .skip
 (.seq (K [15]) (.exit 4))))
 (.block 5
 Sp))
abbrev TL:=Rg [C 17 (Q 0)]
abbrev TQ:=Rg [B 72 14,X 73 1 4,V 74 (.fa 2 (.m 73)),M 75 74,L 76 .lss 72 75]
abbrev Ta:=Rg [X 78 5 4,M 79 78,B 80 12,B 81 14,H 82 xH [.m 79,.m 80,.m 81],A 77 82,E 83 77 false 0,E 84 77 false 1,A 17 83,Z [77,84]]
abbrev RY:=Rg [B 85 17,P 86 .lss 85 1,A 87 86,U 87 88 (.mov (.s 17)),U 87 89 (.bin .gtr (.s 88) (Q 11)),V 90 (.pick (.m 87) tt (.s 89)),A 91 90,U 91 92 (.mov (.s 17)),U 91 93 (.mov (.s 16)),U 91 94 (.call Fj [.s 92,.s 93]),U 91 95 (.un .not (.s 94)),V 96 (.pick (.m 91) tt (.s 95)),Z [16,17,88,89,92,93,94,95]]
abbrev S5:=Rg [C 6 ff]
abbrev Ul:=Rg [P 97 .add 56 1,A 56 97]
def cy:VC:=(.seq SK
 (.seq (.cond (.m 57)
 .skip
 (.seq (K [12,14,54,55,56]) (.exit 2)))
 (.seq (.block 3
 (.seq RI
 (.seq (.seq Se
 (.cond (.m 62)
 (.seq (K [15,16]) (.exit 3))
 .skip))
 (.seq (.block 4
 (.seq (.loop uY) (K [15])))
 (.seq TL
 (.seq (.seq TQ
 (.cond (.m 76)
 (.seq (K [17]) Ta)
 .skip))
 (.seq RY
 (.cond (.m 96)
 (.seq (.seq (K [8,10,12,14,34,35,54,55,56]) (F 4)) (.seq S5
 .ret))
 .skip))))))))
 Ul)))
abbrev Sz:=Rg [P 98 .add 35 1,A 35 98]
def f8:VC:=(.seq YR
 (.seq (.cond (.m 36)
 .skip
 (.seq (.seq (K [8,10,34,35]) (F 4)) (.exit 0)))
 (.seq (.block 1
 (.seq Wt
 (.seq UZ
 (.seq RP
 (.seq SM
 (.block 2
 (.seq (.loop cy) (K [12,14,54,55,56]))))))))
 Sz)))
abbrev UF:=Rg [C 6 tt]
def CA:ae:=⟨3,[.tmp 6],
 (.seq VW
 (.seq (.seq XW
 (.cond (.m 21)
 (.seq (.seq (K [0,2]) (F 4)) (.seq Yh
 .ret))
 .skip))
 (.seq V7
 (.seq VE
 (.seq Vq
 (.seq (.seq We
 (.block 0
 (.seq (.loop f8) (.seq (K [8,10,34,35]) (F 4)))))
 (.seq UF
 .ret)))))))⟩
abbrev aco:=Rg [C 4 (Q 0),C 5 (Q 0),Z [4,5]]
abbrev aaS:=Rg [A 9 0,A 10 1,H 11 jz [.m 9,.m 10],A 8 11,E 12 8 true 0,E 13 8 false 1,A 6 12,A 7 13,Z [8]]
abbrev aaq:=Rg [A 14 6,V 15 (.len (.m 14)),P 16 .sub 15 1,V 17 (.minmax true [.m 16,Q 0]),A 18 7,A 4 17,A 5 18]
def EZ:ae:=⟨2,[.tmp 4,.tmp 5],
 (.seq aco
 (.seq aaS
 (.seq aaq
 .ret)))⟩
abbrev agz:=Rg [C 6 (Q 0),C 7 (Q 0),C 8 (Q 0),Z [7,8]]
abbrev afG:=Rg [B 11 2,H 12 tW [.m 11],V 13 (.un .not (.m 12)),A 14 13,U 14 15 (.mov (.s 1)),U 14 16 (.bin .lss (.s 15) (Q 0)),V 17 (.pick (.m 14) tt (.s 16)),A 18 17,U 18 19 (.mov (.s 1)),U 18 20 (.mov (.s 0)),U 18 21 (.len (.s 20)),U 18 22 (.bin .gtr (.s 19) (.s 21)),V 23 (.pick (.m 18) tt (.s 22)),A 10 23,Z [15,16,19,20,21,22]]
abbrev ahZ:=Rg [C 6 (Q 0),C 7 (Q 0),C 8 (Q 2)]
abbrev agl:=Rg [B 25 0,V 26 (.len (.m 25)),B 27 1,L 28 .sub 26 27,B 29 2,L 30 .lss 28 29,A 24 30]
abbrev afZ:=Rg [C 6 (Q 0),C 7 (Q 0),C 8 (Q 5)]
abbrev af2:=Rg [B 31 2,C 32 (Q 0)]
abbrev agR:=Rg [J 33 .lss 32 31]
abbrev ahA:=Rg [B 34 32,A 9 34]
abbrev ahw:=Rg [B 35 0,B 36 1,B 37 9,L 38 .add 36 37,V 39 (.ia 1 (.m 35) (.m 38)),M 40 39,V 41 (.bin .gtr (.m 40) (.c (.d (.int .u8 1))))]
abbrev afV:=Rg [C 6 (Q 0),C 7 (Q 0),C 8 (Q 8)]
abbrev Z5:=Rg [A 42 6,V 43 (.bin .shl (.m 42) (.c (.d (.int .u64 1)))),B 44 0,B 45 1,A 46 9,L 47 .add 45 46,V 48 (.ia 1 (.m 44) (.m 47)),M 49 48,V 50 (.conv .i64 (.m 49)),L 51 .or 43 50,A 6 51]
abbrev ads:=Rg [P 52 .add 32 1,A 32 52]
def qM:VC:=(.seq agR
 (.seq (.cond (.m 33)
 .skip
 (.seq (K [0,31,32]) (.exit 1)))
 (.seq (.block 2
 (.seq ahA
 (.seq (.seq ahw
 (.cond (.m 41)
 (.seq (K [0,1,2,6,9,31,32]) (.seq afV
 .ret))
 .skip))
 Z5)))
 ads)))
abbrev aca:=Rg [A 53 6,A 54 1,A 55 2,L 56 .add 54 55,A 6 53,A 7 56,C 8 (Q 0)]
def HH:ae:=⟨3,[.tmp 6,.tmp 7,.tmp 8],
 (.seq agz
 (.seq (.block 0
 (.seq afG
 (.cond (.m 10)
 (.seq (K [0,1,2,6]) (.seq ahZ
 .ret))
 (.seq agl
 (.cond (.m 24)
 (.seq (K [0,1,2,6]) (.seq afZ
 .ret))
 .skip)))))
 (.seq (.seq af2
 (.block 1
 (.seq (.loop qM) (K [0,31,32]))))
 (.seq aca
 .ret))))⟩
abbrev ZU:=Rg [C 3 (Q 0),Z [3]]
abbrev aap:=Rg [M 5 0,G 6 1,H 7 cB [.m 5,.m 6,Q 1],A 4 7,E 8 4 false 0,E 9 4 false 1,E 10 4 false 2,A 3 8,N (.st 1 (.m 1) (.m 9)),N (.st 1 (.m 2) (.m 10)),Z [4]]
def EC:ae:=⟨3,[.tmp 3],
 (.seq ZU
 (.seq aap
 .ret))⟩
abbrev aeq:=Rg [M 5 0,G 6 1,H 7 cB [.m 5,.m 6,Q 8],A 4 7,E 8 4 false 0,E 9 4 false 1,E 10 4 false 2,V 11 (.fa 0 (.m 2)),N (.st 1 (.m 11) (.m 8)),N (.st 1 (.m 1) (.m 9)),N (.st 1 (.m 3) (.m 10)),Z [4]]
def Fe:ae:=⟨4,[],
 aeq⟩
abbrev ZC:=Rg [V 7 (.ld (some 4) 0 (.m 0)),H 8 qw [.m 7],X 9 1 1,N (.st 4 (.m 9) (.m 8))]
abbrev ad3:=Rg [M 10 2,V 11 (.un .not (.m 10))]
abbrev ac8:=Rg [M 13 3,G 14 4,M 15 5,H 16 t4 [.m 13,.m 14,.m 15],A 12 16,E 17 12 true 0,E 18 12 false 1,E 19 12 false 2,V 20 (.fa 1 (.m 1)),N (.st 4 (.m 20) (.m 17)),N (.st 1 (.m 4) (.m 18)),N (.st 1 (.m 6) (.m 19)),Z [12]]
def xz:ae:=⟨7,[],
 (.seq ZC
 (.seq ad3
 (.cond (.m 11)
 ac8
 (.seq (K [1,3,4,5,6]) .skip))))⟩
abbrev aea:=Rg [V 1 (.box (.m 0)),V 2 (.alloc [O8,O8,O,.nl])]
abbrev ab2:=Rg [X 3 3 1,M 4 3,⟨some 5,none,.call nG [.m 4],[(0,0)]⟩,X 6 3 1,N (.st 1 (.m 6) (.m 5))]
abbrev abO:=Rg [V 7 (.ld (some 4) 1 (.m 1)),Yd 4 2 7]
def Fq:ae:=⟨1,[.cell 2 (some 4)],
 (.seq aea
 (.seq ab2
 (.seq abO
 .ret)))⟩
abbrev afY:=Rg [V 3 (.box (.m 0)),V 6 (.alloc [O8,O8,O,.nl]),V 7 (.alloc [O]),V 8 (.alloc [O])]
abbrev aho:=Rg [B 12 2,H 13 qo [.m 12,ff],A 11 13,E 14 11 false 0,E 15 11 false 1,Yd 1 8 15,Z [11,14]]
abbrev ahT:=Rg [G 16 8,P 17 .neq 16 0]
def Jy:VC:=.regP (.range 5) (.range 5) [1,2,3] [V 18 (.ld (some 4) 0 (.s 6)),G 19 8,Yd 4 6 18,N (.st 1 (.s 7) (Q 0)),Yd 1 8 19]
abbrev ahK:=Rg [A 20 1,Yd 1 7 20]
abbrev ahh:=Rg [V 21 (.mkfn li [] [.s 8,.m 3,.s 7]),A 9 21]
abbrev af9:=Rg [B 22 9,V 23 (.callv (.m 22) [Q 1]),A 10 23]
abbrev ahC:=Rg [B 24 9,V 25 (.callv (.m 24) [Q 2]),V 26 (.conv .u8 (.m 25)),X 27 0 6,N (.st 1 (.m 27) (.m 26))]
abbrev afK:=Rg [B 28 9,V 29 (.callv (.m 28) [Q 1]),V 30 (.conv .u8 (.m 29)),X 31 1 6,N (.st 1 (.m 31) (.m 30))]
abbrev ahv:=Rg [X 32 0 6,M 33 32,V 34 (.bin .eql (.m 33) (.c (.d (.int .u8 2))))]
abbrev aei:=Rg [B 35 9,V 36 (.callv (.m 35) [Q 4]),X 37 2 6,N (.st 1 (.m 37) (.m 36))]
abbrev ZM:=Rg [⟨some 38,none,.mks 1 [Q 1],[(0,0)]⟩,X 39 3 6,N (.st 1 (.m 39) (.m 38))]
abbrev aek:=Rg [C 40 (Q 0)]
abbrev ac4:=Rg [V 41 (.bin .lss (.s 40) (Q 7))]
abbrev ac9:=Rg [B 42 9,V 43 (.callv (.m 42) [Q 1]),P 44 .eql 43 1]
abbrev adn:=Rg [X 45 3 6,M 46 45,X 47 3 6,M 48 47,V 49 (.len (.m 48)),P 50 .sub 49 1,V 51 (.ia 1 (.s 46) (.s 50)),M 52 51,P 53 .add 52 1,V 54 (.ia 1 (.m 46) (.m 50)),N (.st 1 (.m 54) (.m 53))]
abbrev abr:=Rg [X 55 3 6,V 56 (.ld none 1 (.m 55)),V 57 (.mks 1 [Q 1]),⟨some 58,none,.app 1 (.m 56) (.m 57),[(0,0)]⟩,X 59 3 6,N (.st 1 (.m 59) (.m 58))]
abbrev abA:=Rg [P 60 .add 40 1,A 40 60]
def mR:VC:=(.seq ac4
 (.seq (.cond (.m 41)
 .skip
 (.seq (K [9,40]) (.exit 0)))
 (.seq (.block 1
 (.seq ac9
 (.cond (.m 44)
 adn
 abr)))
 abA)))
abbrev abH:=Rg [B 61 9,V 62 (.callv (.m 61) [Q 6]),X 63 2 6,N (.st 1 (.m 63) (.m 62))]
abbrev abf:=Rg [A 64 10,A 65 9,V 66 (.callv (.m 65) [Q 1]),L 67 .or 64 66,A 10 67]
abbrev acM:=Rg [⟨some 68,none,.mks 1 [Q 1],[(0,0)]⟩,X 69 3 6,N (.st 1 (.m 69) (.m 68))]
abbrev adM:=Rg [G 71 8,P 72 .neq 71 0,A 70 72]
def FH:VC:=.regP (.range 5) (.range 5) [1,2,3] [V 73 (.build [O8,O8,O,.nl] []),G 74 8,Yd 4 6 73,N (.st 1 (.s 7) (Q 0)),Yd 1 8 74]
abbrev abN:=Rg [A 76 10,P 77 .neq 76 0,A 78 77,U 78 79 (.mov (.s 2)),U 78 80 (.ld (some 4) 0 (.s 6)),U 78 81 (.call dV [.s 79,.s 80]),U 78 82 (.bin .neq (.s 81) (Q 0)),V 83 (.pick (.m 78) tt (.s 82)),A 75 83,Z [2,79,80,81,82]]
abbrev abz:=Rg [V 84 (.build [O8,O8,O,.nl] []),Yd 4 6 84,N (.st 1 (.s 7) (Q 0)),N (.st 1 (.s 8) (Q 8))]
def Gg:VC:=.regP (.range 5) [0,2,1,3,4] [1,2] [V 85 (.ld (some 4) 0 (.s 6)),G 86 7,Yd 4 6 85,Yd 1 7 86,N (.st 1 (.s 8) (Q 0))]
def uH:ae:=⟨3,[.cell 6 (some 4),.cell 7 none,.cell 8 none],
 (.seq afY
 (.seq (.seq aho
 (.seq ahT
 (.cond (.m 17)
 (.seq (K [1,2,3]) (.seq Jy
 .ret))
 .skip)))
 (.seq ahK
 (.seq ahh
 (.seq af9
 (.seq ahC
 (.seq afK
 (.seq (.seq ahv
 (.cond (.m 34)
 (.seq aei
 (.seq ZM
 (.seq aek
 (.block 0
 (.seq (.loop mR) (K [9,40]))))))
 (.seq abH
 (.seq abf
 acM))))
 (.seq (.block 2
 (.seq adM
 (.cond (.m 70)
 (.seq (K [2,10]) (.seq FH
 .ret))
 (.seq abN
 (.cond (.m 75)
 (.seq abz
 .ret)
 .skip)))))
 (.seq Gg
 .ret))))))))))⟩
abbrev adz:=Rg [M 5 0,G 6 1,X 7 1 2,V 8 (.ld (some 4) 0 (.m 7)),H 9 Jm [.m 5,.m 6,.m 8],A 4 9,E 10 4 true 0,E 11 4 false 1,E 12 4 false 2,V 13 (.fa 5 (.m 2)),N (.st 1 (.m 13) (.m 10)),N (.st 1 (.m 1) (.m 11)),N (.st 1 (.m 3) (.m 12)),Z [4]]
def Ea:ae:=⟨4,[],
 adz⟩
abbrev ahk:=Rg [V 5 (.box (.m 2)),V 6 (.mov (.c (.nl))),C 7 (Q 0),C 8 (Q 0),Z [7,8]]
abbrev ahH:=Rg [V 16 (.ld (some 4) 0 (.s 5)),H 17 dB [.m 16],A 15 17,E 18 15 false 0,E 19 15 false 1,A 8 19,Z [15,18]]
abbrev afU:=Rg [B 20 8,P 21 .neq 20 0]
abbrev ah3:=Rg [A 22 8,V 6 (.mov (.c (.nl))),C 7 (Q 0),A 8 22]
abbrev agf:=Rg [B 24 0,A 25 1,H 26 cB [.m 24,.m 25,Q 0],A 23 26,E 27 23 false 0,E 28 23 false 1,E 29 23 false 2,A 7 28,A 8 29,Z [23,27]]
abbrev ag6:=Rg [B 30 8,P 31 .neq 30 0]
abbrev ahR:=Rg [A 32 8,V 6 (.mov (.c (.nl))),C 7 (Q 0),A 8 32]
abbrev af5:=Rg [V 34 (.ld (some 4) 0 (.s 5)),H 35 uj [.m 34],A 33 35,E 36 33 false 0,E 37 33 false 1,A 9 36,A 10 37,Z [33]]
abbrev ahS:=Rg [X 38 3 5,M 39 38,V 40 (.len (.m 39)),C 41 (Q 0)]
abbrev ahc:=Rg [J 42 .lss 41 40]
abbrev acV:=Rg [V 11 (.mov (.c (.nl)))]
abbrev aal:=Rg [X 43 2 5,M 44 43,A 12 44]
abbrev acI:=Rg [B 45 12,P 46 .gtr 45 0]
abbrev aaX:=Rg [V 13 (.alloc [O,O])]
abbrev ab6:=Rg [B 48 0,A 49 7,H 50 cB [.m 48,.m 49,Q 4],A 47 50,E 51 47 false 0,E 52 47 false 1,E 53 47 false 2,X 54 0 13,N (.st 1 (.m 54) (.m 51)),A 7 52,A 8 53,Z [47]]
abbrev adu:=Rg [B 55 8,P 56 .neq 55 0]
abbrev aaP:=Rg [A 57 8,V 6 (.mov (.c (.nl))),C 7 (Q 0),A 8 57]
abbrev acC:=Rg [X 58 0 13,M 59 58,P 60 .gtr 59 11,A 61 60,W 61 62 (.fa 0 (.s 13)),W 61 63 (.ld none 0 (.s 62)),W 61 64 (.bin .neq (.s 63) (Q 13)),V 65 (.pick (.m 61) (.s 64) ff),Z [62,63,64]]
abbrev abu:=Rg [V 6 (.mov (.c (.nl))),C 7 (Q 0),C 8 (Q 8)]
abbrev acn:=Rg [B 66 10,A 14 66]
abbrev aaC:=Rg [A 67 14,B 68 10,L 69 .eql 67 68]
abbrev adp:=Rg [B 76 0,A 77 7,B 78 9,H 79 cB [.m 76,.m 77,.m 78],A 75 79,E 80 75 false 0,E 81 75 false 1,E 82 75 false 2,A 14 80,A 7 81,A 8 82,Z [75]]
abbrev aaU:=Rg [B 83 8,P 84 .neq 83 0]
abbrev ad0:=Rg [A 85 8,V 6 (.mov (.c (.nl))),C 7 (Q 0),A 8 85]
abbrev aba:=Rg [X 86 1 13,M 87 86,B 88 14,L 89 .add 87 88,B 90 12,L 91 .gtr 89 90]
abbrev aeA:=Rg [V 6 (.mov (.c (.nl))),C 7 (Q 0),C 8 (Q 8)]
abbrev aa4:=Rg [X 70 1 13,M 71 70,B 72 14,L 73 .add 71 72,X 74 1 13,N (.st 1 (.m 74) (.m 73))]
def qW:VC:=(.seq (.seq aaC
 (.cond (.m 69)
 .skip
 (.exit 4)))
 (.seq (.block 5
 (.seq (.seq adp
 (.seq aaU
 (.cond (.m 84)
 (.seq (.seq (K [0,5,6,7,9,10,11,12,14,40,41]) (F 13)) (.seq ad0
 .ret))
 (.seq (K [8]) .skip))))
 (.seq aba
 (.cond (.m 91)
 (.seq (.seq (K [0,5,6,7,9,10,11,12,14,40,41]) (F 13)) (.seq aeA
 .ret))
 .skip))))
 aa4))
abbrev aaF:=Rg [V 92 (.ld (some 2) 0 (.s 13)),B 93 12,H 94 ul [.m 92,.m 93],V 95 (.un .not (.m 94))]
abbrev abe:=Rg [V 6 (.mov (.c (.nl))),C 7 (Q 0),C 8 (Q 8)]
abbrev acL:=Rg [A 96 12,X 97 1 13,M 98 97,L 99 .sub 96 98,A 12 99]
abbrev abj:=Rg [A 100 11,V 101 (.ld (some 2) 1 (.s 13)),V 102 (.mks 2 [.m 101]),V 103 (.app 2 (.m 100) (.m 102)),A 11 103]
def ki:VC:=(.seq (.seq acI
 (.cond (.m 46)
 .skip
 (.seq (K [12]) (.exit 2))))
 (.block 3
 (.seq aaX
 (.seq (.seq ab6
 (.seq adu
 (.cond (.m 56)
 (.seq (.seq (K [0,5,6,7,9,10,11,12,40,41]) (F 13)) (.seq aaP
 .ret))
 (.seq (K [8]) .skip))))
 (.seq (.seq acC
 (.cond (.m 65)
 (.seq (.seq (K [0,5,6,7,9,10,11,12,40,41]) (F 13)) (.seq abu
 .ret))
 .skip))
 (.seq (.seq acn
 (.block 4
 (.seq (.loop qW) (K [14]))))
 (.seq (.seq aaF
 (.cond (.m 95)
 (.seq (.seq (K [0,5,6,7,9,10,11,12,40,41]) (F 13)) (.seq abe
 .ret))
 .skip))
 (.seq acL
 (.seq abj (F 13))))))))))
abbrev acr:=Rg [A 104 6,A 105 11,V 106 (.mks 1 [.m 105]),V 107 (.app 1 (.m 104) (.m 106)),A 6 107]
abbrev adX:=Rg [P 108 .add 41 1,A 41 108]
def mH:VC:=(.seq ahc
 (.seq (.cond (.m 42)
 .skip
 (.seq (K [0,5,9,10,40,41]) (.exit 0)))
 (.seq (.block 1
 (.seq acV
 (.seq (.seq aal
 (.block 2
 (.seq (.loop ki) (K [12]))))
 acr)))
 adX)))
abbrev abi:=Rg [A 109 6,A 110 7,A 6 109,A 7 110,C 8 (Q 0)]
def Ib:ae:=⟨3,[.tmp 6,.tmp 7,.tmp 8],
 (.seq ahk
 (.seq (.seq ahH
 (.seq afU
 (.cond (.m 21)
 (.seq (K [0,1,5,6]) (.seq ah3
 .ret))
 (.seq (K [8]) .skip))))
 (.seq (.seq agf
 (.seq ag6
 (.cond (.m 31)
 (.seq (K [0,5,6,7]) (.seq ahR
 .ret))
 (.seq (K [8]) .skip))))
 (.seq af5
 (.seq (.seq ahS
 (.block 0
 (.seq (.loop mH) (K [0,5,9,10,40,41]))))
 (.seq abi
 .ret))))))⟩
abbrev ZE:=Rg [M 5 0,G 6 1,X 7 0 2,M 8 7,X 9 5 2,M 10 9,H 11 EV [.m 5,.m 6,.m 8,.m 10],A 4 11,E 12 4 true 0,E 13 4 false 1,E 14 4 false 2,V 15 (.fa 6 (.m 2)),N (.st 1 (.m 15) (.m 12)),N (.st 1 (.m 1) (.m 13)),N (.st 1 (.m 3) (.m 14)),Z [4]]
def Ed:ae:=⟨4,[],
 ZE⟩
abbrev ade:=Rg [V 4 (.box (.m 0)),V 8 (.alloc [.nl]),V 9 (.alloc [O]),V 10 (.alloc [O])]
abbrev adD:=Rg [B 18 2,B 19 3,H 20 xt [.m 18,.m 19],V 21 (.un .not (.m 20))]
abbrev abF:=Rg [N (.st 1 (.s 8) (.c (.nl))),N (.st 1 (.s 9) (Q 0)),N (.st 1 (.s 10) (Q 8))]
abbrev acK:=Rg [G 23 4,A 24 1,H 25 cB [.m 23,.m 24,Q 0],A 22 25,E 26 22 false 0,E 27 22 false 1,E 28 22 false 2,Yd 1 9 27,Yd 1 10 28,Z [22,26]]
abbrev aed:=Rg [G 29 10,P 30 .neq 29 0]
def FN:VC:=.regP (.range 4) (.range 4) [0,1,2] [G 31 10,N (.st 1 (.s 8) (.c (.nl))),N (.st 1 (.s 9) (Q 0)),Yd 1 10 31]
abbrev aay:=Rg [A 32 2,V 33 (.build [O,O] [(0,1,.m 32),(1,1,Q (-1))]),V 34 (.box (.m 33)),V 11 (.alloc [.nilp]),Yd 1 11 34]
abbrev abv:=Rg [A 35 3,V 36 (.len (.s 35)),C 37 (Q 0)]
abbrev aem:=Rg [J 38 .lss 37 36]
abbrev aet:=Rg [V 39 (.ia 1 (.s 35) (.s 37)),M 40 39,A 13 40]
abbrev Y6:=Rg [V 14 (.alloc [.nl])]
abbrev VN:=Rg [A 41 13,V 42 (.calli kl [.m 41])]
abbrev Xw:=Rg [A 16 44,Z [35,36,37,42,43]]
abbrev VK:=Rg [C 17 (Q 0)]
abbrev Xk:=Rg [B 46 16,P 47 .eql 46 13,A 48 47,W 48 49 (.ld none 0 (.s 11)),W 48 50 (.nilck (.s 49)),W 48 51 (.fa 1 (.s 50)),W 48 52 (.ld none 0 (.s 51)),W 48 53 (.bin .lss (.s 52) (Q 0)),V 54 (.pick (.m 48) (.s 53) ff),A 45 54,Z [49,50,51,52,53]]
abbrev Zd:=Rg [G 56 4,G 57 9,H 58 cB [.m 56,.m 57,Q 9],A 55 58,E 59 55 false 0,E 60 55 false 1,E 61 55 false 2,A 17 59,Yd 1 9 60,Yd 1 10 61,Z [4,55]]
abbrev Zl:=Rg [B 63 16,P 64 .eql 63 13,A 62 64]
abbrev Ya:=Rg [G 66 4,G 67 9,H 68 pw [.m 66,.m 67],A 65 68,E 69 65 false 0,E 70 65 false 1,E 71 65 false 2,A 17 69,Yd 1 9 70,Yd 1 10 71,Z [4,65]]
abbrev Wp:=Rg [A 72 17,G 73 11,V 74 (.nilck (.m 73)),V 75 (.fa 1 (.m 74)),M 76 75,L 77 .add 72 76,A 17 77]
abbrev Zb:=Rg [B 79 16,P 80 .gtr 79 0,A 78 80]
abbrev Vo:=Rg [G 82 4,G 83 9,H 84 pw [.m 82,.m 83],A 81 84,E 85 81 false 0,E 86 81 false 1,E 87 81 false 2,A 17 85,Yd 1 9 86,Yd 1 10 87,Z [4,81]]
abbrev Yx:=Rg [A 88 17,G 89 11,V 90 (.nilck (.m 89)),V 91 (.fa 0 (.m 90)),M 92 91,L 93 .add 88 92,A 17 93]
abbrev Xh:=Rg [G 94 10,P 95 .neq 94 0]
def DQ:VC:=.regP (.range 4) (.range 4) [0,1,2] [G 96 10,N (.st 1 (.m 8) (.c (.nl))),N (.st 1 (.m 9) (Q 0)),Yd 1 10 96]
abbrev XQ:=Rg [B 97 16,P 98 .gtr 97 0,A 99 98,W 99 100 (.ld none 0 (.s 11)),W 99 101 (.mov (.s 16)),W 99 102 (.mov (.s 17)),W 99 103 (.calli fw [.s 100,.s 101,.s 102]),W 99 104 (.un .not (.s 103)),V 105 (.pick (.m 99) (.s 104) ff),Z [11,16,100,101,102,103,104]]
abbrev WJ:=Rg [N (.st 1 (.m 8) (.c (.nl))),N (.st 1 (.m 9) (Q 0)),N (.st 1 (.m 10) (Q 8))]
abbrev Ws:=Rg [V 106 (.ld none 1 (.s 14)),A 107 17,V 108 (.mks 1 [.m 107]),V 109 (.app 1 (.m 106) (.m 108)),Yd 1 14 109,Z [14]]
def cR:VC:=Xw
def cQ:VC:=(.block 3
 (.seq VK
 (.seq (.block 4
 (.seq Xk
 (.cond (.m 45)
 (.seq (K [17]) Zd)
 (.seq Zl
 (.cond (.m 62)
 (.seq (K [17]) (.seq Ya
 Wp))
 (.seq Zb
 (.cond (.m 78)
 (.seq (K [17]) (.seq Vo
 Yx))
 (.seq (K [4]) .skip))))))))
 (.seq (.seq Xh
 (.cond (.m 95)
 (.seq (K [11,14,16,17]) (.seq (.seq DQ (K [10]))
 .ret))
 .skip))
 (.seq (.seq XQ
 (.cond (.m 105)
 (.seq (K [14,17]) (.seq WJ
 .ret))
 (.seq (K [8,9,10]) .skip)))
 Ws)))))
abbrev WF:=Rg [V 110 (.ld none 1 (.s 8)),V 111 (.ld none 1 (.s 14)),V 112 (.mks 1 [.m 111]),V 113 (.app 1 (.m 110) (.m 112)),Yd 1 8 113]
abbrev XF:=Rg [P 114 .add 37 1,A 37 114]
def fD:VC:=(.seq aem
 (.seq (.cond (.m 38)
 .skip
 (.seq (.seq (.seq (K [35,36,37]) (F 4)) (F 11)) (.exit 0)))
 (.seq (.block 1
 (.seq aet
 (.seq Y6
 (.seq (.seq VN
 (.block 2
 (.seq (.rangeF (.s 42) [43,44] cR cQ) (F 42))))
 (.seq WF (F 14))))))
 XF)))
def DT:VC:=.regP (.range 5) (.range 5) [1,2] [G 115 8,G 116 9,Yd 1 8 115,Yd 1 9 116,N (.st 1 (.s 10) (Q 0))]
def EP:ae:=⟨4,[.cell 8 none,.cell 9 none,.cell 10 none],
 (.seq ade
 (.seq (.seq adD
 (.cond (.m 21)
 (.seq (.seq (K [1,2,3]) (F 4)) (.seq abF
 .ret))
 .skip))
 (.seq (.seq acK
 (.seq aed
 (.cond (.m 30)
 (.seq (.seq (K [2,3]) (F 4)) (.seq FN
 .ret))
 .skip)))
 (.seq aay
 (.seq (.seq abv
 (.block 0
 (.seq (.loop fD) (.seq (.seq (K [35,36,37]) (F 4)) (F 11)))))
 (.seq DT
 .ret))))))⟩
abbrev adC:=Rg [M 2 0,V 3 (.callv (.m 2) []),N (.st 1 (.m 1) (.m 3))]
def Fg:ae:=⟨2,[],
 adC⟩
abbrev aeg:=Rg [M 2 0,V 3 (.callv (.m 2) []),N (.st 1 (.m 1) (.m 3))]
def Ef:ae:=⟨2,[],
 aeg⟩
abbrev aaI:=Rg [M 7 0,P 8 .eql 7 1]
abbrev ac0:=Rg [M 10 1,G 11 2,X 12 1 3,V 13 (.ld (some 4) 0 (.m 12)),H 14 zq [.m 10,.m 11,.m 13],A 9 14,E 15 9 true 0,E 16 9 false 1,E 17 9 false 2,V 18 (.fa 7 (.m 3)),N (.st 1 (.m 18) (.m 15)),N (.st 1 (.m 2) (.m 16)),N (.st 1 (.m 4) (.m 17)),Z [9]]
abbrev ab5:=Rg [X 20 1 3,V 21 (.ld (some 4) 0 (.m 20)),H 22 dB [.m 21],A 19 22,E 23 19 false 0,E 24 19 false 1,A 5 23,A 6 24,Z [6,19]]
abbrev aab:=Rg [A 25 5,V 26 (.mkslice [.lst []] (.s 25) (.s 25)),V 27 (.fa 7 (.m 3)),N (.st 1 (.m 27) (.m 26)),Z [25]]
def xA:ae:=⟨5,[],
 (.seq (.seq aaI
 (.cond (.m 8)
 (.seq ac0
 .ret)
 (.seq (K [1,2,4]) .skip)))
 (.seq ab5
 aab))⟩
abbrev R4:=Rg [V 3 (.box (.m 0)),V 5 (.box (.m 2)),V 6 (.mov (.c (.nl))),V 7 (.alloc [O]),V 8 (.alloc [O])]
abbrev Sr:=Rg [V 21 (.ld (some 4) 0 (.s 5)),H 22 dB [.m 21],A 20 22,E 23 20 false 0,E 24 20 false 1,A 9 23,Yd 1 8 24,Z [20]]
abbrev TC:=Rg [G 25 8,P 26 .neq 25 0]
def SV:VC:=.regP (.range 4) (.range 4) [0,2] [G 27 8,V 6 (.mov (.c (.nl))),N (.st 1 (.s 7) (Q 0)),Yd 1 8 27]
abbrev TW:=Rg [A 28 1,Yd 1 7 28]
abbrev UC:=Rg [V 29 (.mkfn n9 [] [.s 8,.m 3,.s 7]),A 10 29]
abbrev To:=Rg [V 30 (.ld (some 4) 1 (.s 5)),H 31 iL [.m 30],V 11 (.alloc [O,O,O,O,O]),Yd 5 11 31]
abbrev Uu:=Rg [C 12 ff]
abbrev UN:=Rg [A 32 9,C 33 (Q 0)]
abbrev Td:=Rg [J 34 .lss 33 32]
abbrev Qf:=Rg [V 13 (.mov (.c (.nl)))]
abbrev PF:=Rg [B 35 10,V 36 (.iarr 5 1 (.s 11) (Q 0)),M 37 36,V 38 (.callv (.m 35) [.m 37]),A 14 38]
abbrev OB:=Rg [B 39 14,P 40 .gtr 39 0,A 41 40,W 41 42 (.mov (.s 10)),W 41 43 (.callv (.s 42) [Q 1]),W 41 44 (.bin .eql (.s 43) (Q 1)),V 45 (.pick (.m 41) (.s 44) ff),A 15 45,Z [42,43,44]]
abbrev PW:=Rg [A 46 14,C 47 (Q 0)]
abbrev ON:=Rg [J 48 .lss 47 46]
def Ah:VC:=.regP [0,1,2,3,5,6,7,4,8,9,10,11] (.range 12) [4,7] [B 49 15,B 50 10,V 51 (.iarr 5 1 (.s 11) (Q 1)),M 52 51,V 53 (.callv (.m 50) [.m 52]),B 54 10,V 55 (.iarr 5 1 (.s 11) (Q 2)),M 56 55,V 57 (.callv (.m 54) [.m 56]),V 58 (.build [O,O,.d (.bool false),.d (.bool false),.nl] [(3,1,.m 49),(0,1,.m 53),(1,1,.m 57)]),V 16 (.alloc [O,O,.d (.bool false),.d (.bool false),.nl]),Yd 5 16 58]
abbrev Qv:=Rg [X 59 1 16,M 60 59,P 61 .gtr 60 12,A 62 61,W 62 63 (.ld none 0 (.s 8)),W 62 64 (.bin .eql (.s 63) (Q 0)),V 65 (.pick (.m 62) (.s 64) ff),Z [63,64]]
abbrev P5:=Rg [V 6 (.mov (.c (.nl))),N (.st 1 (.s 7) (Q 0)),N (.st 1 (.s 8) (Q 8))]
abbrev OI:=Rg [X 66 1 16,M 67 66,P 68 .gtr 67 0]
abbrev Qp:=Rg [B 69 10,V 70 (.callv (.m 69) [Q 1]),P 71 .eql 70 1,X 72 2 16,N (.st 1 (.m 72) (.m 71))]
abbrev QJ:=Rg [B 73 10,V 74 (.callv (.m 73) [Q 1]),A 17 74]
abbrev Qa:=Rg [B 75 15,H 76 jy [.m 75],B 77 17,L 78 .sub 76 77,A 18 78]
abbrev QG:=Rg [X 79 1 16,M 80 79,C 81 (Q 0)]
abbrev Pb:=Rg [J 82 .lss 81 80]
abbrev OA:=Rg [B 83 10,B 84 18,V 85 (.callv (.m 83) [.m 84]),A 19 85]
abbrev Ch:=[X 86 4 16,V 87 (.ld none 2 (.m 86)),B 88 19,B 89 19,B 90 18,P 91 .sub 90 1,L 92 .shr 89 91,B 93 18,L 94 .shl 92 93,L 95 .sub 88 94,V 96 (.mks 1 [.m 95]),V 97 (.app 1 (.m 87) (.m 96)),X 98 4 16,N (.st 1 (.m 98) (.m 97))]
def Ad:VC:=.regP (.range 14) (.range 14) [] Ch
abbrev Pj:=Rg [P 99 .add 81 1,A 81 99]
def mz:VC:=(.seq Pb
 (.seq (.cond (.m 82)
 .skip
 (.seq (K [80,81]) (.exit 4)))
 (.seq (.block 5
 (.seq OA
 (.seq Ad (K [19]))))
 Pj)))
abbrev PK:=Rg [A 100 12,A 101 100,U 101 102 (.mov (.s 17)),U 101 103 (.bin .eql (.s 102) (Q 0)),U 101 104 (.mov (.s 103)),W 104 105 (.fa 4 (.s 16)),W 104 106 (.ld none 0 (.s 105)),W 104 107 (.mov (.s 18)),W 104 108 (.bin .sub (.s 107) (Q 1)),W 104 109 (.call kp [.s 106,.s 108]),U 101 110 (.pick (.s 104) (.s 109) ff),V 111 (.pick (.m 101) tt (.s 110)),A 12 111,Z [17,18,102,103,104,105,106,107,108,109,110]]
abbrev OC:=Rg [A 112 13,V 113 (.ld (some 5) 1 (.s 16)),V 114 (.mks 5 [.m 113]),V 115 (.app 5 (.m 112) (.m 114)),A 13 115]
abbrev Pu:=Rg [P 116 .add 47 1,A 47 116]
def cH:VC:=(.seq ON
 (.seq (.cond (.m 48)
 .skip
 (.seq (K [15,46,47]) (.exit 2)))
 (.seq (.block 3
 (.seq Ah
 (.seq (.seq Qv
 (.cond (.m 65)
 (.seq (.seq (.seq (K [6,10,12,13,15,32,33,46,47]) (F 11)) (F 16)) (.seq P5
 .ret))
 .skip))
 (.seq (.seq OI
 (.cond (.m 68)
 (.seq Qp
 (.seq QJ
 (.seq Qa
 (.seq (.seq QG
 (.block 4
 (.seq (.loop mz) (K [80,81]))))
 PK))))
 .skip))
 (.seq OC (F 16))))))
 Pu)))
abbrev OK:=Rg [A 117 6,A 118 13,V 119 (.mks 1 [.m 118]),V 120 (.app 1 (.m 117) (.m 119)),A 6 120]
abbrev PO:=Rg [P 121 .add 33 1,A 33 121]
def fk:VC:=(.seq Td
 (.seq (.cond (.m 34)
 .skip
 (.seq (.seq (K [10,32,33]) (F 11)) (.exit 0)))
 (.seq (.block 1
 (.seq Qf
 (.seq PF
 (.seq OB
 (.seq (.seq PW
 (.block 2
 (.seq (.loop cH) (K [15,46,47]))))
 OK)))))
 PO)))
abbrev QL:=Rg [G 123 8,P 124 .neq 123 0,A 122 124]
def Ae:VC:=.regP (.range 4) (.range 4) [0,2] [G 125 8,V 6 (.mov (.c (.nl))),N (.st 1 (.s 7) (Q 0)),Yd 1 8 125]
abbrev P8:=Rg [A 127 12,A 126 127]
abbrev OD:=Rg [V 6 (.mov (.c (.nl))),N (.st 1 (.s 7) (Q 0)),N (.st 1 (.s 8) (Q 8))]
abbrev BQ:=[A 128 6,G 129 7,A 6 128,Yd 1 7 129,N (.st 1 (.s 8) (Q 0))]
def Ac:VC:=.regP (.range 5) [0,2,1,3,4] [] BQ
def y7:ae:=⟨3,[.tmp 6,.cell 7 none,.cell 8 none],
 (.seq R4
 (.seq Sr
 (.seq (.seq TC
 (.cond (.m 26)
 (.seq (.seq (K [1,3,6,9]) (F 5)) (.seq SV
 .ret))
 .skip))
 (.seq TW
 (.seq UC
 (.seq (.seq To (F 5))
 (.seq Uu
 (.seq (.seq UN
 (.block 0
 (.seq (.loop fk) (.seq (K [10,32,33]) (F 11)))))
 (.seq (.block 6
 (.seq QL
 (.cond (.m 122)
 (.seq (K [6,12]) (.seq Ae
 .ret))
 (.seq P8
 (.cond (.m 126)
 (.seq (K [6]) (.seq OD
 .ret))
 .skip)))))
 (.seq Ac
 .ret))))))))))⟩
def F5:VC:=.regP (.range 5) (.range 5) [0,2] [G 2 0,M 3 1,V 4 (.callv (.m 3) []),L 5 .or 2 4,Yd 1 0 5]
def Fa:ae:=⟨2,[],
 (.seq F5 (K [0]))⟩
abbrev agG:=Rg [V 5 (.box (.m 2)),V 6 (.mov (.c (.nl))),C 7 (Q 0),C 8 (Q 0),Z [6,7,8]]
abbrev agF:=Rg [X 16 0 5,M 17 16,P 18 .gtr 17 11]
abbrev agr:=Rg [V 19 (.ld (some 4) 1 (.s 5)),H 20 G7 [.m 19],V 6 (.mov (.c (.nl))),C 7 (Q 0),A 8 20]
abbrev ahQ:=Rg [V 22 (.ld (some 4) 0 (.s 5)),B 23 0,A 24 1,H 25 xr [.m 22,.m 23,.m 24],A 21 25,E 26 21 false 0,E 27 21 false 1,E 28 21 false 2,A 9 26,A 7 27,A 8 28,Z [21]]
abbrev agh:=Rg [B 29 8,P 30 .neq 29 0]
abbrev ag3:=Rg [A 31 8,V 6 (.mov (.c (.nl))),C 7 (Q 0),A 8 31]
abbrev af7:=Rg [X 33 0 5,M 34 33,A 35 9,⟨some 36,none,.call qT [.m 34,.m 35],[(0,0)]⟩,A 32 36,E 37 32 true 0,E 38 32 false 1,A 6 37,Z [32,38]]
abbrev agu:=Rg [X 39 0 5,M 40 39,H 41 yU [.m 40]]
abbrev agd:=Rg [A 42 6,A 43 7,A 6 42,A 7 43,C 8 (Q 0)]
abbrev JE:=Rg [A 44 0,A 45 7,V 46 (.build [.nl,O,O] [(0,1,.m 44),(1,1,.m 45)]),V 47 (.box (.m 46)),A 10 47]
abbrev FJ:=Rg [B 48 6,V 49 (.len (.m 48)),⟨some 50,none,.mkslice [.int .i64 0] (.s 49) (.s 49),[(0,0)]⟩,A 11 50,Z [49]]
abbrev Gx:=Rg [B 51 6,V 52 (.len (.s 51)),C 53 (Q 0)]
abbrev acz:=Rg [J 54 .lss 53 52]
abbrev acQ:=Rg [B 55 53,V 56 (.ia 1 (.s 51) (.s 53)),M 57 56,A 12 55,A 13 57]
abbrev abX:=Rg [A 58 13,P 59 .neq 58 0]
abbrev adB:=Rg [B 60 11,A 61 12,B 62 10,V 63 (.calli jh [.m 62,Q 1]),V 64 (.ia 1 (.m 60) (.m 61)),N (.st 1 (.m 64) (.m 63))]
abbrev ac6:=Rg [P 65 .add 53 1,A 53 65]
def mP:VC:=(.seq acz
 (.seq (.cond (.m 54)
 .skip
 (.seq (K [51,52,53]) (.exit 0)))
 (.seq (.block 1
 (.seq acQ
 (.seq abX
 (.cond (.m 59)
 adB
 (.seq (K [12]) .skip)))))
 ac6)))
abbrev GI:=Rg [B 66 6,V 67 (.len (.s 66)),C 68 (Q 0)]
abbrev adf:=Rg [J 69 .lss 68 67]
abbrev adO:=Rg [B 70 68,V 71 (.ia 1 (.s 66) (.s 68)),M 72 71,A 14 70,A 15 72]
abbrev acl:=Rg [X 73 0 5,M 74 73,P 75 .eql 74 11,A 76 75,W 76 77 (.mov (.s 15)),W 76 78 (.bin .eql (.s 77) (Q 16)),V 79 (.pick (.m 76) (.s 78) ff),Z [15,77,78]]
abbrev ac2:=Rg [B 80 6,B 81 14,B 82 10,V 83 (.calli lO [.m 82]),V 84 (.ia 1 (.m 80) (.m 81)),N (.st 1 (.m 84) (.m 83))]
abbrev ZJ:=Rg [B 85 11,B 86 14,V 87 (.ia 1 (.m 85) (.m 86)),M 88 87,P 89 .eql 88 1]
abbrev ab7:=Rg [B 90 6,B 91 14,B 92 6,A 93 14,V 94 (.ia 1 (.m 92) (.m 93)),M 95 94,V 96 (.un .neg (.m 95)),V 97 (.ia 1 (.m 90) (.m 91)),N (.st 1 (.m 97) (.m 96))]
abbrev aaV:=Rg [P 98 .add 68 1,A 68 98]
def mU:VC:=(.seq adf
 (.seq (.cond (.m 69)
 .skip
 (.seq (.seq (K [11,66,67,68]) (F 5)) (.exit 2)))
 (.seq (.block 3
 (.seq adO
 (.seq (.seq acl
 (.cond (.m 79)
 ac2
 .skip))
 (.seq ZJ
 (.cond (.m 89)
 ab7
 (.seq (K [14]) .skip))))))
 aaV)))
abbrev Gc:=Rg [B 99 10,V 100 (.nilck (.m 99)),V 101 (.fa 2 (.m 100)),M 102 101,P 103 .neq 102 0]
abbrev JD:=[A 104 10,V 105 (.nilck (.m 104)),V 106 (.fa 2 (.m 105)),M 107 106,V 6 (.mov (.c (.nl))),C 7 (Q 0),A 8 107]
def wb:VC:=.regP (.range 7) [4,5,0,1,2,3,6] [] JD
abbrev Jq:=[A 108 6,A 109 10,V 110 (.nilck (.m 109)),V 111 (.fa 1 (.m 110)),M 112 111,A 6 108,A 7 112,C 8 (Q 0)]
def wo:VC:=.regP (.range 8) [0,5,1,2,3,4,6,7] [] Jq
def Ik:ae:=⟨3,[.tmp 6,.tmp 7,.tmp 8],
 (.seq agG
 (.seq (.seq agF
 (.cond (.m 18)
 (.seq (K [0,1]) (.seq (.seq agr (F 5))
 .ret))
 .skip))
 (.seq ahQ
 (.seq (.seq agh
 (.cond (.m 30)
 (.seq (.seq (K [0,7,9]) (F 5)) (.seq ag3
 .ret))
 (.seq (K [8]) .skip)))
 (.seq af7
 (.seq (.seq agu
 (.cond (.m 41)
 (.seq (.seq (K [0]) (F 5)) (.seq agd
 .ret))
 .skip))
 (.seq JE
 (.seq FJ
 (.seq (.seq Gx
 (.block 0
 (.seq (.loop mP) (K [51,52,53]))))
 (.seq (.seq GI
 (.block 2
 (.seq (.loop mU) (.seq (K [11,66,67,68]) (F 5)))))
 (.seq (.seq Gc
 (.cond (.m 103)
 (.seq (K [6]) (.seq wb
 .ret))
 .skip))
 (.seq wo
 .ret))))))))))))⟩
abbrev C7:=Rg [V 2 (.box (.m 0)),V 3 (.box (.m 1)),C 4 ff,Z [4]]
abbrev Ds:=Rg [X 5 0 2,M 6 5,X 7 0 3,M 8 7,L 9 .eql 6 8,A 10 9,W 10 11 (.fa 1 (.s 2)),W 10 12 (.ld none 0 (.s 11)),W 10 13 (.fa 1 (.s 3)),W 10 14 (.ld none 0 (.s 13)),W 10 15 (.bin .eql (.s 12) (.s 14)),V 16 (.pick (.m 10) (.s 15) ff),A 17 16,W 17 18 (.fa 2 (.s 2)),W 17 19 (.ld none 0 (.s 18)),W 17 20 (.fa 2 (.s 3)),W 17 21 (.ld none 0 (.s 20)),W 17 22 (.bin .eql (.s 19) (.s 21)),V 23 (.pick (.m 17) (.s 22) ff),A 24 23,W 24 25 (.fa 3 (.s 2)),W 24 26 (.ld none 0 (.s 25)),W 24 27 (.fa 3 (.s 3)),W 24 28 (.ld none 0 (.s 27)),W 24 29 (.call ej [.s 26,.s 28]),V 30 (.pick (.m 24) (.s 29) ff),A 4 30,Z [2,3,11,12,13,14,15,18,19,20,21,22,25,26,27,28,29]]
def mb:ae:=⟨2,[.tmp 4],
 (.seq C7
 (.seq Ds
 .ret))⟩
abbrev Df:=Rg [C 4 ff,Z [4]]
abbrev Dc:=Rg [B 6 0,V 7 (.len (.m 6)),B 8 1,V 9 (.len (.m 8)),L 10 .neq 7 9]
abbrev Db:=Rg [C 4 ff]
abbrev Di:=Rg [C 5 (Q 0)]
abbrev Dq:=Rg [B 11 5,B 12 0,V 13 (.len (.m 12)),L 14 .lss 11 13]
abbrev C9:VC:=(.reg true [
 B 17 0,
 B 18 5,
 V 19 (.ia 1 (.m 17) (.m 18)),
 M 20 19,
 B 21 1,
 B 22 5,
 V 23 (.ia 1 (.m 21) (.m 22)),
 M 24 23,
 L 25 .neq 20 24])
abbrev Da:=Rg [C 4 ff]
abbrev C5:=Rg [A 15 5,P 16 .add 15 1,A 5 16]
def gG:VC:=(.seq (.seq Dq
 (.cond (.m 14)
 .skip
 (.seq (K [0,1,5]) (.exit 0))))
 (.seq (.block 1
 (.seq C9
 (.cond (.m 25)
 (.seq (K [0,1,5]) (.seq Da
 .ret))
 .skip)))
 C5))
abbrev Dr:=Rg [C 4 tt]
def mB:ae:=⟨2,[.tmp 4],
 (.seq Df
 (.seq (.seq Dc
 (.cond (.m 10)
 (.seq (K [0,1]) (.seq Db
 .ret))
 .skip))
 (.seq (.seq Di
 (.block 0
 (.seq (.loop gG) (K [0,1,5]))))
 (.seq Dr
 .ret))))⟩
abbrev tv:=Rg [C 4 ff,Z [4]]
abbrev tE:=Rg [B 7 0,V 8 (.len (.m 7)),B 9 1,V 10 (.len (.m 9)),L 11 .neq 8 10]
abbrev tK:=Rg [C 4 ff]
abbrev tD:=Rg [C 5 (Q 0)]
abbrev tA:=Rg [B 12 5,B 13 0,V 14 (.len (.m 13)),L 15 .lss 12 14]
abbrev tq:VC:=(.reg true [
 B 18 0,
 B 19 5,
 V 20 (.ia 1 (.m 18) (.m 19)),
 M 21 20,
 V 22 (.len (.m 21)),
 B 23 1,
 B 24 5,
 V 25 (.ia 1 (.m 23) (.m 24)),
 M 26 25,
 V 27 (.len (.m 26)),
 L 28 .neq 22 27])
abbrev tH:=Rg [C 4 ff]
abbrev tu:=Rg [C 6 (Q 0)]
abbrev tC:=Rg [B 29 6,B 30 0,B 31 5,V 32 (.ia 1 (.m 30) (.m 31)),M 33 32,V 34 (.len (.m 33)),L 35 .lss 29 34]
abbrev tp:VC:=(.reg true [
 B 38 0,
 B 39 5,
 V 40 (.ia 1 (.m 38) (.m 39)),
 M 41 40,
 B 42 6,
 V 43 (.ia 2 (.m 41) (.m 42)),
 V 44 (.ld (some 2) 0 (.m 43)),
 B 45 1,
 B 46 5,
 V 47 (.ia 1 (.m 45) (.m 46)),
 M 48 47,
 B 49 6,
 V 50 (.ia 2 (.m 48) (.m 49)),
 V 51 (.ld (some 2) 0 (.m 50)),
 V 52 (.bina true [true,true] (.m 44) (.m 51))])
abbrev rP:=Rg [C 4 ff]
abbrev sv:=Rg [A 36 6,P 37 .add 36 1,A 6 37]
def dy:VC:=(.seq (.seq tC
 (.cond (.m 35)
 .skip
 (.seq (K [6]) (.exit 2))))
 (.seq (.block 3
 (.seq tp
 (.cond (.m 52)
 (.seq (K [0,1,5,6]) (.seq rP
 .ret))
 .skip)))
 sv))
abbrev rk:=Rg [A 16 5,P 17 .add 16 1,A 5 17]
def dq:VC:=(.seq (.seq tA
 (.cond (.m 15)
 .skip
 (.seq (K [0,1,5]) (.exit 0))))
 (.seq (.block 1
 (.seq (.seq tq
 (.cond (.m 28)
 (.seq (K [0,1,5]) (.seq tH
 .ret))
 .skip))
 (.seq tu
 (.block 2
 (.seq (.loop dy) (K [6]))))))
 rk))
abbrev rM:=Rg [C 4 tt]
def gZ:ae:=⟨2,[.tmp 4],
 (.seq tv
 (.seq (.seq tE
 (.cond (.m 11)
 (.seq (K [0,1]) (.seq tK
 .ret))
 .skip))
 (.seq (.seq tD
 (.block 0
 (.seq (.loop dq) (K [0,1,5]))))
 (.seq rM
 .ret))))⟩
abbrev xe:=Rg [C 4 ff,Z [4]]
abbrev wc:=Rg [B 6 0,V 7 (.len (.m 6)),B 8 1,V 9 (.len (.m 8)),L 10 .neq 7 9]
abbrev wA:=Rg [C 4 ff]
abbrev wn:=Rg [C 5 (Q 0)]
abbrev wW:=Rg [B 11 5,B 12 0,V 13 (.len (.m 12)),L 14 .lss 11 13]
abbrev wG:VC:=(.reg true [
 B 17 0,
 B 18 5,
 V 19 (.ia 1 (.m 17) (.m 18)),
 M 20 19,
 B 21 1,
 B 22 5,
 V 23 (.ia 1 (.m 21) (.m 22)),
 M 24 23,
 H 25 ej [.m 20,.m 24],
 V 26 (.un .not (.m 25))])
abbrev wg:=Rg [C 4 ff]
abbrev wP:=Rg [A 15 5,P 16 .add 15 1,A 5 16]
def ec:VC:=(.seq (.seq wW
 (.cond (.m 14)
 .skip
 (.seq (K [0,1,5]) (.exit 0))))
 (.seq (.block 1
 (.seq wG
 (.cond (.m 26)
 (.seq (K [0,1,5]) (.seq wg
 .ret))
 .skip)))
 wP))
abbrev wU:=Rg [C 4 tt]
def jm:ae:=⟨2,[.tmp 4],
 (.seq xe
 (.seq (.seq wc
 (.cond (.m 10)
 (.seq (K [0,1]) (.seq wA
 .ret))
 .skip))
 (.seq (.seq wn
 (.block 0
 (.seq (.loop ec) (K [0,1,5]))))
 (.seq wU
 .ret))))⟩
abbrev zS:=Rg [C 4 ff,Z [4]]
abbrev zN:=Rg [B 9 0,V 10 (.len (.m 9)),B 11 1,V 12 (.len (.m 11)),L 13 .neq 10 12]
abbrev yK:=Rg [C 4 ff]
abbrev yF:=Rg [C 5 (Q 0)]
abbrev zy:=Rg [B 14 5,B 15 0,V 16 (.len (.m 15)),L 17 .lss 14 16]
abbrev yI:VC:=(.reg true [
 B 20 0,
 B 21 5,
 V 22 (.ia 1 (.m 20) (.m 21)),
 M 23 22,
 V 24 (.len (.m 23)),
 B 25 1,
 B 26 5,
 V 27 (.ia 1 (.m 25) (.m 26)),
 M 28 27,
 V 29 (.len (.m 28)),
 L 30 .neq 24 29])
abbrev zU:=Rg [C 4 ff]
abbrev yx:=Rg [C 6 (Q 0)]
abbrev zK:=Rg [B 31 6,B 32 0,B 33 5,V 34 (.ia 1 (.m 32) (.m 33)),M 35 34,V 36 (.len (.m 35)),L 37 .lss 31 36]
abbrev zV:=Rg [B 40 0,B 41 5,V 42 (.ia 1 (.m 40) (.m 41)),M 43 42,B 44 6,V 45 (.ia 5 (.m 43) (.m 44)),V 46 (.ld (some 5) 0 (.m 45)),V 7 (.alloc [O,O,.d (.bool false),.d (.bool false),.nl]),Yd 5 7 46]
abbrev xM:=Rg [B 47 1,B 48 5,V 49 (.ia 1 (.m 47) (.m 48)),M 50 49,B 51 6,V 52 (.ia 5 (.m 50) (.m 51)),V 53 (.ld (some 5) 0 (.m 52)),V 8 (.alloc [O,O,.d (.bool false),.d (.bool false),.nl]),Yd 5 8 53]
abbrev yn:=Rg [X 54 0 7,M 55 54,X 56 0 8,M 57 56,L 58 .neq 55 57,A 59 58,U 59 60 (.fa 1 (.s 7)),U 59 61 (.ld none 0 (.s 60)),U 59 62 (.fa 1 (.s 8)),U 59 63 (.ld none 0 (.s 62)),U 59 64 (.bin .neq (.s 61) (.s 63)),V 65 (.pick (.m 59) tt (.s 64)),A 66 65,U 66 67 (.fa 2 (.s 7)),U 66 68 (.ld none 0 (.s 67)),U 66 69 (.fa 2 (.s 8)),U 66 70 (.ld none 0 (.s 69)),U 66 71 (.binb true (.s 68) (.s 70)),V 72 (.pick (.m 66) tt (.s 71)),A 73 72,U 73 74 (.fa 3 (.s 7)),U 73 75 (.ld none 0 (.s 74)),U 73 76 (.fa 3 (.s 8)),U 73 77 (.ld none 0 (.s 76)),U 73 78 (.binb true (.s 75) (.s 77)),V 79 (.pick (.m 73) tt (.s 78)),A 80 79,U 80 81 (.fa 4 (.s 7)),U 80 82 (.ld none 0 (.s 81)),U 80 83 (.fa 4 (.s 8)),U 80 84 (.ld none 0 (.s 83)),U 80 85 (.call ej [.s 82,.s 84]),U 80 86 (.un .not (.s 85)),V 87 (.pick (.m 80) tt (.s 86)),Z [60,61,62,63,64,67,68,69,70,71,74,75,76,77,78,81,82,83,84,85,86]]
abbrev xT:=Rg [C 4 ff]
abbrev yb:=Rg [A 38 6,P 39 .add 38 1,A 6 39]
def fj:VC:=(.seq (.seq zK
 (.cond (.m 37)
 .skip
 (.seq (K [6]) (.exit 2))))
 (.seq (.block 3
 (.seq zV
 (.seq xM
 (.seq (.seq yn (.seq (F 7) (F 8)))
 (.cond (.m 87)
 (.seq (K [0,1,5,6]) (.seq xT
 .ret))
 .skip)))))
 yb))
abbrev yg:=Rg [A 18 5,P 19 .add 18 1,A 5 19]
def fe:VC:=(.seq (.seq zy
 (.cond (.m 17)
 .skip
 (.seq (K [0,1,5]) (.exit 0))))
 (.seq (.block 1
 (.seq (.seq yI
 (.cond (.m 30)
 (.seq (K [0,1,5]) (.seq zU
 .ret))
 .skip))
 (.seq yx
 (.block 2
 (.seq (.loop fj) (K [6]))))))
 yg))
abbrev ye:=Rg [C 4 tt]
def kg:ae:=⟨2,[.tmp 4],
 (.seq zS
 (.seq (.seq zN
 (.cond (.m 13)
 (.seq (K [0,1]) (.seq yK
 .ret))
 .skip))
 (.seq (.seq yF
 (.block 0
 (.seq (.loop fe) (K [0,1,5]))))
 (.seq ye
 .ret))))⟩
abbrev Fp:=Rg [C 4 ff,Z [4]]
abbrev E7:=Rg [B 6 0,V 7 (.len (.m 6)),B 8 1,V 9 (.len (.m 8)),L 10 .neq 7 9]
abbrev EW:=Rg [C 4 ff]
abbrev Ex:=Rg [B 11 0,V 12 (.len (.m 11)),C 13 (Q 0)]
abbrev ET:=Rg [J 14 .lss 13 12]
abbrev E9:=Rg [B 15 13,A 5 15]
abbrev Fd:VC:=(.reg true [
 B 16 0,
 B 17 5,
 V 18 (.ia 1 (.m 16) (.m 17)),
 M 19 18,
 B 20 1,
 B 21 5,
 V 22 (.ia 1 (.m 20) (.m 21)),
 M 23 22,
 L 24 .neq 19 23])
abbrev EI:=Rg [C 4 ff]
abbrev Eo:=Rg [P 25 .add 13 1,A 13 25]
def ig:VC:=(.seq ET
 (.seq (.cond (.m 14)
 .skip
 (.seq (K [0,1,12,13]) (.exit 0)))
 (.seq (.block 1
 (.seq E9
 (.seq (.seq Fd (K [5]))
 (.cond (.m 24)
 (.seq (K [0,1,12,13]) (.seq EI
 .ret))
 .skip))))
 Eo)))
abbrev Ey:=Rg [C 4 tt]
def nD:ae:=⟨2,[.tmp 4],
 (.seq Fp
 (.seq (.seq E7
 (.cond (.m 10)
 (.seq (K [0,1]) (.seq EW
 .ret))
 .skip))
 (.seq (.seq Ex
 (.block 0
 (.seq (.loop ig) (K [0,1,12,13]))))
 (.seq Ey
 .ret))))⟩
abbrev Xi:=Rg [C 2 ff,Z [2]]
abbrev Yf:=Rg [B 3 0,P 4 .geq 3 0,A 5 4,W 5 6 (.mov (.s 0)),W 5 7 (.bin .leq (.s 6) (Q 31)),V 8 (.pick (.m 5) (.s 7) ff),A 2 8,Z [0,6,7]]
def CH:ae:=⟨1,[.tmp 2],
 (.seq Xi
 (.seq Yf
 .ret))⟩
abbrev xV:=Rg [V 2 (.box (.m 0)),V 4 (.mov (.c (.nl))),Z [4]]
abbrev yp:=Rg [A 6 1]
abbrev xX:=Rg [A 5 7]
abbrev yc:=Rg [V 8 (.ld none 1 (.s 2)),A 9 5,V 10 (.mks 1 [.m 9]),V 11 (.app 1 (.m 8) (.m 10)),N (.st 1 (.m 2) (.m 11))]
def iC:VC:=xX
def iE:VC:=(.block 1
 yc)
abbrev xO:=Rg [V 12 (.ld none 1 (.m 2)),A 4 12]
def jU:ae:=⟨2,[.tmp 4],
 (.seq xV
 (.seq (.seq yp
 (.block 0
 (.seq (.rangeF (.m 6) [7] iC iE) (K [6]))))
 (.seq xO
 .ret)))⟩
def mD:ae:=⟨1,[.tmp 2],
 (.clone 1)⟩
abbrev acs:=Rg [V 2 (.box (.m 0)),V 3 (.box (.m 1)),V 4 (.mov (.c (.nilf))),Z [4]]
abbrev aez:=Rg [V 5 (.mkfn mO [] [.m 3,.m 2]),A 4 5]
def EX:ae:=⟨2,[.tmp 4],
 (.seq acs
 (.seq aez
 .ret))⟩
abbrev W5:=Rg [G 6 2,A 7 0,A 8 1,H 9 ed [.m 6,.m 7,.m 8],A 5 9,E 10 5 true 0,E 11 5 false 1,N (.st 1 (.m 2) (.m 10)),Z [5,11]]
def Ba:ae:=⟨3,[],
 W5⟩
abbrev Ve:=Rg [V 2 (.box (.m 0)),C 4 (Q 0),C 5 (Q 0),Z [4,5]]
abbrev Wb:=Rg [V 11 (.ld (some 4) 0 (.s 2)),H 12 dB [.m 11],A 10 12,E 13 10 false 0,E 14 10 false 1,A 6 13,A 7 14,Z [10]]
abbrev WK:=Rg [B 15 7,P 16 .neq 15 0]
abbrev WQ:=Rg [A 17 7,C 4 (Q 0),A 5 17]
abbrev V2:=Rg [B 18 1,P 19 .lss 18 0,A 20 19,U 20 21 (.mov (.s 1)),U 20 22 (.mov (.s 6)),U 20 23 (.bin .geq (.s 21) (.s 22)),V 24 (.pick (.m 20) tt (.s 23)),Z [6,21,22,23]]
abbrev Y1:=Rg [C 4 (Q 0),C 5 (Q 2)]
abbrev YD:=Rg [C 8 (Q 0)]
abbrev Vn:=Rg [A 25 1,A 9 25]
abbrev Vk:=Rg [B 26 9,X 27 3 2,M 28 27,B 29 8,V 30 (.ia 1 (.m 28) (.m 29)),M 31 30,L 32 .geq 26 31]
abbrev Wu:=Rg [A 35 9,X 36 3 2,M 37 36,B 38 8,V 39 (.ia 1 (.m 37) (.m 38)),M 40 39,L 41 .sub 35 40,A 9 41]
abbrev RZ:=Rg [A 33 8,P 34 .add 33 1,A 8 34]
def vg:VC:=(.seq (.seq Vk
 (.cond (.m 32)
 .skip
 (.seq (K [2,9]) (.exit 0))))
 (.seq (.block 1
 Wu)
 RZ))
abbrev Ub:=Rg [A 42 8,A 4 42,C 5 (Q 0)]
def CD:ae:=⟨2,[.tmp 4,.tmp 5],
 (.seq Ve
 (.seq Wb
 (.seq (.seq WK
 (.cond (.m 16)
 (.seq (K [1,2,6]) (.seq WQ
 .ret))
 (.seq (K [7]) .skip)))
 (.seq (.seq V2
 (.cond (.m 24)
 (.seq (K [1,2]) (.seq Y1
 .ret))
 .skip))
 (.seq YD
 (.seq (.seq Vn
 (.block 0
 (.seq (.loop vg) (K [2,9]))))
 (.seq Ub
 .ret)))))))⟩
abbrev X6:=Rg [V 2 (.box (.m 0)),C 4 (Q 0),Z [4]]
abbrev Wg:=Rg [V 13 (.ld (some 4) 0 (.s 2)),H 14 dB [.m 13],A 12 14,E 15 12 false 0,E 16 12 false 1,A 5 15,A 6 16,Z [5,12]]
abbrev Xo:=Rg [B 17 6,P 18 .neq 17 0]
abbrev U4:=Rg [A 19 6,A 4 19]
abbrev XJ:=Rg [B 20 1,V 21 (.len (.m 20)),X 22 3 2,M 23 22,V 24 (.len (.m 23)),L 25 .neq 21 24]
abbrev XX:=Rg [C 4 (Q 8)]
abbrev WV:=Rg [A 26 1,V 27 (.len (.s 26)),C 28 (Q 0)]
abbrev Xr:=Rg [J 29 .lss 28 27]
abbrev WE:=Rg [V 30 (.ia 1 (.s 26) (.s 28)),M 31 30,A 8 31]
abbrev Zs:=Rg [X 32 2 2,M 33 32,A 9 33]
abbrev Sa:=Rg [A 34 8,V 35 (.len (.s 34)),C 36 (Q 0)]
abbrev RU:=Rg [J 37 .lss 36 35]
abbrev Si:=Rg [V 38 (.ia 2 (.s 34) (.s 36)),V 39 (.ld (some 2) 0 (.m 38)),V 11 (.alloc [O,O]),Yd 2 11 39]
abbrev Tv:=Rg [V 40 (.ld (some 2) 0 (.s 11)),B 41 9,H 42 ul [.m 40,.m 41],V 43 (.un .not (.m 42))]
abbrev UQ:=Rg [C 4 (Q 8)]
abbrev ST:=Rg [A 44 9,X 45 1 11,M 46 45,L 47 .sub 44 46,A 9 47]
abbrev Uy:=Rg [P 48 .add 36 1,A 36 48]
def kC:VC:=(.seq RU
 (.seq (.cond (.m 37)
 .skip
 (.seq (K [34,35,36]) (.exit 2)))
 (.seq (.block 3
 (.seq Si
 (.seq (.seq Tv
 (.cond (.m 43)
 (.seq (.seq (K [2,9,26,27,28,34,35,36]) (F 11)) (.seq UQ
 .ret))
 .skip))
 (.seq ST (F 11)))))
 Uy)))
abbrev R8:=Rg [A 49 9,P 50 .neq 49 0]
abbrev RC:=Rg [C 4 (Q 8)]
abbrev Uh:=Rg [P 51 .add 28 1,A 28 51]
def iQ:VC:=(.seq Xr
 (.seq (.cond (.m 29)
 .skip
 (.seq (K [2,26,27,28]) (.exit 0)))
 (.seq (.block 1
 (.seq WE
 (.seq Zs
 (.seq (.seq Sa
 (.block 2
 (.seq (.loop kC) (K [34,35,36]))))
 (.seq R8
 (.cond (.m 50)
 (.seq (K [2,26,27,28]) (.seq RC
 .ret))
 .skip))))))
 Uh)))
abbrev Tz:=Rg [C 4 (Q 0)]
def CV:ae:=⟨2,[.tmp 4],
 (.seq X6
 (.seq (.seq Wg
 (.seq Xo
 (.cond (.m 18)
 (.seq (K [1,2]) (.seq U4
 .ret))
 (.seq (K [6]) .skip))))
 (.seq (.seq XJ
 (.cond (.m 25)
 (.seq (K [1,2]) (.seq XX
 .ret))
 .skip))
 (.seq (.seq WV
 (.block 0
 (.seq (.loop iQ) (K [2,26,27,28]))))
 (.seq Tz
 .ret)))))⟩
abbrev Yq:=Rg [V 1 (.box (.m 0)),C 2 (Q 0),C 3 (Q 0),Z [2,3]]
abbrev WD:=Rg [C 2 (Q 5)]
abbrev Vb:=Rg [V 4 (.fa 0 (.m 1)),M 5 4,V 6 (.bin .eql (.m 5) (.c (.d (.int .u8 2))))]
abbrev U8:=Rg [C 2 (Q 3)]
abbrev Zn:VC:=(.reg true [
 B 7 2,
 B 8 2,
 V 9 (.bin .shl (Q 1) (.m 8)),
 P 10 .sub 9 1,
 A 2 7,
 A 3 10])
def Bv:ae:=⟨1,[.tmp 2,.tmp 3],
 (.seq Yq
 (.seq WD
 (.seq (.seq Vb
 (.cond (.m 6)
 (.seq (K [2]) U8)
 .skip))
 (.seq Zn
 .ret))))⟩
abbrev Sg:=Rg [V 2 (.box (.m 0)),V 3 (.box (.m 1)),V 4 (.mov (.c (.nilf))),Z [4]]
abbrev TG:=Rg [V 5 (.mkfn f9 [] [.m 2,.m 3]),A 4 5]
def yX:ae:=⟨2,[.tmp 4],
 (.seq Sg
 (.seq TG
 .ret))⟩
abbrev R5:=Rg [V 5 (.box (.m 2)),V 6 (.alloc [O])]
abbrev Sw:=Rg [B 13 0,B 14 1,H 15 xt [.m 13,.m 14],V 16 (.un .not (.m 15)),A 17 16,U 17 18 (.mov (.s 1)),U 17 19 (.len (.s 18)),U 17 20 (.ld none 0 (.s 5)),U 17 21 (.len (.s 20)),U 17 22 (.bin .neq (.s 19) (.s 21)),V 23 (.pick (.m 17) tt (.s 22)),Z [18,19,20,21,22]]
abbrev SI:=Rg [N (.st 1 (.s 6) (Q 8))]
abbrev UO:=Rg [A 24 0,V 25 (.build [O,O] [(0,1,.m 24),(1,1,Q (-1))]),V 26 (.box (.m 25)),V 7 (.alloc [.nilp]),Yd 1 7 26]
abbrev SN:=Rg [A 27 1,V 28 (.len (.s 27)),C 29 (Q 0)]
abbrev RN:=Rg [J 30 .lss 29 28]
abbrev TY:=Rg [B 31 29,V 32 (.ia 1 (.s 27) (.s 29)),M 33 32,V 8 (.alloc [O]),Yd 1 8 31,A 9 33]
abbrev Sy:=Rg [V 10 (.alloc [O]),N (.st 1 (.s 10) (Q 0))]
abbrev UP:=Rg [A 34 9,V 35 (.calli kl [.m 34])]
abbrev RK:=Rg [A 11 36,Z [27,28,29,35]]
abbrev P0:=Rg [A 12 37]
abbrev Qy:=Rg [G 38 10,P 39 .add 38 1,Yd 1 10 39,Z [10]]
abbrev Co:=[B 40 11,G 41 5,G 42 8,V 43 (.ia 1 (.m 41) (.m 42)),M 44 43,V 45 (.len (.m 44)),L 46 .geq 40 45,A 47 46,U 47 48 (.mov (.s 12)),U 47 49 (.bin .eql (.s 48) (Q 0)),U 47 50 (.mov (.s 49)),W 50 51 (.ld none 0 (.s 5)),W 50 52 (.ld none 0 (.s 8)),W 50 53 (.ia 1 (.s 51) (.s 52)),W 50 54 (.ld none 0 (.s 53)),W 50 55 (.mov (.s 11)),W 50 56 (.ia 1 (.s 54) (.s 55)),W 50 57 (.ld none 0 (.s 56)),W 50 58 (.bin .neq (.s 57) (Q 0)),U 47 59 (.pick (.s 50) (.s 58) ff),V 60 (.pick (.s 47) tt (.s 59)),A 61 60,U 61 62 (.mov (.s 12)),U 61 63 (.bin .gtr (.s 62) (Q 0)),U 61 64 (.mov (.s 63)),W 64 65 (.ld none 0 (.s 7)),W 64 66 (.mov (.s 12)),W 64 67 (.ld none 0 (.s 5)),W 64 68 (.ld none 0 (.s 8)),W 64 69 (.ia 1 (.s 67) (.s 68)),W 64 70 (.ld none 0 (.s 69)),W 64 71 (.mov (.s 11)),W 64 72 (.ia 1 (.s 70) (.s 71)),W 64 73 (.ld none 0 (.s 72)),W 64 74 (.calli fw [.s 65,.s 66,.s 73]),W 64 75 (.un .not (.s 74)),U 61 76 (.pick (.s 64) (.s 75) ff),V 77 (.pick (.s 61) tt (.s 76))]
def z6:VC:=.regP (.range 38) (.range 38) [] Co
abbrev Qb:=Rg [N (.st 1 (.m 6) (Q 8))]
def fm:VC:=(.seq RK
 P0)
def fo:VC:=(.block 3
 (.seq Qy
 (.seq (.seq z6 (K [5,7,8,11,12,47,48,49,50,51,52,53,54,55,56,57,58,59,61,62,63,64,65,66,67,68,69,70,71,72,73,74,75,76]))
 (.cond (.m 77)
 (.seq Qb
 .ret)
 (.seq (K [6]) .skip)))))
abbrev Pq:VC:=(.reg true [
 G 78 10,
 G 79 5,
 G 80 8,
 V 81 (.ia 1 (.m 79) (.m 80)),
 M 82 81,
 V 83 (.len (.m 82)),
 L 84 .neq 78 83])
abbrev PC:=Rg [N (.st 1 (.s 6) (Q 8))]
abbrev QF:=Rg [P 85 .add 29 1,A 29 85]
def mr:VC:=(.seq RN
 (.seq (.cond (.m 30)
 .skip
 (.seq (.seq (.seq (K [27,28,29]) (F 5)) (F 7)) (.exit 0)))
 (.seq (.block 1
 (.seq TY
 (.seq Sy
 (.seq (.seq UP
 (.block 2
 (.seq (.rangeF (.s 35) [36,37] fm fo) (F 35))))
 (.seq (.seq Pq (.seq (F 8) (F 10)))
 (.cond (.m 84)
 (.seq (.seq (.seq (K [27,28,29]) (F 5)) (F 7)) (.seq PC
 .ret))
 .skip))))))
 QF)))
abbrev Qe:=Rg [N (.st 1 (.s 6) (Q 0))]
def z5:ae:=⟨3,[.cell 6 none],
 (.seq R5
 (.seq (.seq Sw
 (.cond (.m 23)
 (.seq (.seq (K [0,1]) (F 5)) (.seq SI
 .ret))
 .skip))
 (.seq UO
 (.seq (.seq SN
 (.block 0
 (.seq (.loop mr) (.seq (.seq (K [27,28,29]) (F 5)) (F 7)))))
 (.seq Qe
 .ret)))))⟩
abbrev Sn:=Rg [V 1 (.box (.m 0)),V 2 (.mov (.c (.nilf))),Z [2]]
abbrev TN:=Rg [V 3 (.mkfn dR [] [.m 1]),A 2 3]
def zx:ae:=⟨1,[.tmp 2],
 (.seq Sn
 (.seq TN
 .ret))⟩
abbrev acg:=Rg [V 4 (.mov (.c (.nl))),C 5 (Q 0),Z [4,5]]
abbrev ZG:=Rg [A 13 1,V 14 (.mks 1 [.m 13]),H 15 oI [Q 12,.m 14],A 12 15,E 16 12 false 0,E 17 12 false 1,A 6 16,A 7 17,Z [12]]
abbrev abM:=Rg [A 18 7,P 19 .neq 18 0]
abbrev adU:=Rg [V 4 (.mov (.c (.nl))),C 5 (Q 2)]
abbrev ac5:=Rg [H 21 pt [Q 12],A 20 21,E 22 20 true 0,E 23 20 false 1,V 8 (.alloc [O,O,.nl,.nl]),Yd 4 8 22,A 9 23,Z [9,20]]
abbrev aar:=Rg [V 25 (.ld (some 4) 1 (.s 8)),A 26 6,H 27 mW [.m 25,.m 26],A 24 27,E 28 24 true 0,E 29 24 false 1,A 10 28,A 11 29,Z [11,24]]
abbrev abh:=Rg [A 30 0,A 31 10,V 32 (.mks 1 [.m 30,.m 31]),H 33 fB [.m 32],A 4 33,C 5 (Q 0)]
def EH:ae:=⟨2,[.tmp 4,.tmp 5],
 (.seq acg
 (.seq ZG
 (.seq (.seq abM
 (.cond (.m 19)
 (.seq (K [0,6]) (.seq adU
 .ret))
 .skip))
 (.seq ac5
 (.seq (.seq aar (F 8))
 (.seq abh
 .ret))))))⟩
abbrev F3:=Rg [C 6 ff,Z [6]]
abbrev Gn:=Rg [B 10 0,V 11 (.nilck (.m 10)),V 12 (.fa 0 (.m 11)),A 7 12,C 8 (Q 255),C 9 ff]
abbrev F2:=Rg [A 13 1,P 14 .eql 13 13]
abbrev ur:=[B 15 0,V 16 (.nilck (.m 15)),V 17 (.fa 1 (.m 16)),B 18 0,V 19 (.nilck (.m 18)),V 20 (.fa 1 (.m 19)),M 21 20,P 22 .lss 21 0,A 7 17,C 8 (Q 511),A 9 22]
def tn:VC:=.regP (.range 11) [0,1,2,8,9,3,4,5,6,7,10] [] ur
abbrev FO:=Rg [B 23 2,P 24 .lss 23 0,A 25 24,U 25 26 (.mov (.s 2)),U 25 27 (.mov (.s 8)),U 25 28 (.bin .gtr (.s 26) (.s 27)),V 29 (.pick (.m 25) tt (.s 28)),A 30 29,U 30 31 (.mov (.s 9)),U 30 32 (.un .not (.s 31)),U 30 33 (.mov (.s 32)),W 33 34 (.mov (.s 2)),W 33 35 (.mov (.s 7)),W 33 36 (.nilck (.s 35)),W 33 37 (.ld none 0 (.s 36)),W 33 38 (.bin .sub (.s 37) (Q 60)),W 33 39 (.bin .lss (.s 34) (.s 38)),W 33 40 (.mov (.s 39)),U 40 41 (.mov (.s 2)),U 40 42 (.mov (.s 7)),U 40 43 (.nilck (.s 42)),U 40 44 (.ld none 0 (.s 43)),U 40 45 (.bin .add (.s 44) (Q 60)),U 40 46 (.bin .gtr (.s 41) (.s 45)),W 33 47 (.pick (.s 40) tt (.s 46)),U 30 48 (.pick (.s 33) (.s 47) ff),V 49 (.pick (.m 30) tt (.s 48)),Z [8,9,26,27,28,31,32,33,34,35,36,37,38,39,40,41,42,43,44,45,46,47,48]]
abbrev FX:=Rg [C 6 ff]
abbrev GU:=Rg [A 50 7,A 51 2,V 52 (.nilck (.m 50)),N (.st 1 (.m 52) (.m 51))]
abbrev GY:=Rg [C 6 tt]
def og:ae:=⟨3,[.tmp 6],
 (.seq F3
 (.seq Gn
 (.seq (.seq F2
 (.cond (.m 14)
 (.seq (K [7,8,9]) (.seq tn (K [0])))
 (.seq (K [0]) .skip)))
 (.seq (.seq FO
 (.cond (.m 49)
 (.seq (K [2,7]) (.seq FX
 .ret))
 .skip))
 (.seq GU
 (.seq GY
 .ret))))))⟩
abbrev qA:=Rg [C 4 ff,Z [4]]
abbrev qB:=Rg [A 5 0,A 6 1,V 7 (.calli iF [.m 5,.m 6]),P 8 .geq 7 0,A 4 8]
def fY:ae:=⟨2,[.tmp 4],
 (.seq qA
 (.seq qB
 .ret))⟩
abbrev J8:=Rg [C 2 ff,Z [2]]
abbrev J5:=Rg [A 3 0,V 4 (.len (.m 3)),P 5 .gtr 4 0,A 2 5]
def sf:ae:=⟨1,[.tmp 2],
 (.seq J8
 (.seq J5
 .ret))⟩
abbrev Kr:=Rg [V 2 (.box (.m 0)),C 4 (Q 0),Z [4]]
abbrev MN:=Rg [V 10 (.ld (some 4) 0 (.s 2)),H 11 dB [.m 10],A 9 11,E 12 9 false 0,E 13 9 false 1,A 5 12,A 6 13,Z [9]]
abbrev MP:=Rg [B 14 6,P 15 .neq 14 0]
abbrev Mq:=Rg [A 16 6,A 4 16]
abbrev MM:=Rg [B 17 1,V 18 (.len (.m 17)),A 19 5,L 20 .neq 18 19]
abbrev L4:=Rg [C 4 (Q 8)]
abbrev Mr:=Rg [A 21 1,V 22 (.len (.s 21)),C 23 (Q 0)]
abbrev Md:=Rg [J 24 .lss 23 22]
abbrev Ko:=Rg [V 25 (.ia 1 (.s 21) (.s 23)),M 26 25,V 8 (.alloc [.nl]),Yd 1 8 26]
abbrev Ab:=[G 27 8,V 28 (.len (.m 27)),V 29 (.ld (some 4) 0 (.s 2)),H 30 iL [.m 29],V 31 (.ix 5 1 false (.m 30) (Q 3)),L 32 .gtr 28 31,A 33 32,U 33 34 (.ld none 0 (.s 8)),U 33 35 (.mkfn jk [] [.s 2,.s 8]),U 33 36 (.calli bW [.s 34,.s 35]),V 37 (.pick (.s 33) tt (.s 36))]
def xL:VC:=.regP (.range 11) (.range 11) [] Ab
abbrev JR:=Rg [C 4 (Q 8)]
abbrev Kc:=Rg [P 38 .add 23 1,A 23 38]
def kK:VC:=(.seq Md
 (.seq (.cond (.m 24)
 .skip
 (.seq (K [2,21,22,23]) (.exit 0)))
 (.seq (.block 1
 (.seq Ko
 (.seq (.seq xL (K [8,33,34,35,36]))
 (.cond (.m 37)
 (.seq (K [2,21,22,23]) (.seq JR
 .ret))
 .skip))))
 Kc)))
abbrev J1:=Rg [C 4 (Q 0)]
def uk:ae:=⟨2,[.tmp 4],
 (.seq Kr
 (.seq MN
 (.seq (.seq MP
 (.cond (.m 15)
 (.seq (K [1,2,5]) (.seq Mq
 .ret))
 (.seq (K [6]) .skip)))
 (.seq (.seq MM
 (.cond (.m 20)
 (.seq (K [1,2]) (.seq L4
 .ret))
 .skip))
 (.seq (.seq Mr
 (.block 0
 (.seq (.loop kK) (K [2,21,22,23]))))
 (.seq J1
 .ret))))))⟩
abbrev Af:=[G 6 2,A 7 0,B 8 1,V 9 (.bin .shl (Q 1) (.m 8)),P 10 .sub 9 1,L 11 .and 7 10,B 12 1,H 13 ed [.m 6,.m 11,.m 12],A 5 13,E 14 5 true 0,E 15 5 false 1,Yd 1 2 14]
def yd:VC:=.regP (.range 12) [0,1,2,3,4,5,6,7,8,9,11,10] [] Af
def ui:ae:=⟨3,[],
 (.seq yd (K [1,2,5,15]))⟩
abbrev KI:=Rg [V 1 (.box (.m 0)),V 2 (.alloc [O,O,O,O,O])]
abbrev LM:=Rg [X 3 0 1,M 4 3,V 5 (.bin .eql (.m 4) (.c (.d (.int .u8 2))))]
abbrev LR:=Rg [V 6 (.build [O,O,O,O,O] [(0,1,Q 1),(1,1,Q 4),(2,1,Q 3),(3,1,Q 1),(4,1,Q 7)]),Yd 5 2 6]
abbrev Ls:=Rg [V 7 (.build [O,O,O,O,O] [(0,1,Q 2),(1,1,Q 6),(2,1,Q 5),(3,1,Q 3),(4,1,Q 12)]),Yd 5 2 7]
def uZ:ae:=⟨1,[.cell 2 (some 5)],
 (.seq KI
 (.seq (.seq (.seq LM (F 1))
 (.cond (.m 5)
 (.seq LR
 .ret)
 .skip))
 (.seq Ls
 .ret)))⟩
abbrev TH:=Rg [C 2 (Q 0),Z [2]]
abbrev Uo:=Rg [A 3 0]
abbrev Tw:=Rg [C 2 (Q 1)]
abbrev SY:=Rg [C 2 (Q 0)]
def zA:ae:=⟨1,[.tmp 2],
 (.seq TH
 (.seq (.seq Uo
 (.cond (.m 3)
 (.seq Tw
 .ret)
 .skip))
 (.seq SY
 .ret)))⟩
abbrev Pg:=Rg [C 2 (Q 0),Z [2]]
abbrev Pd:=Rg [A 3 0]
abbrev QK:=Rg [C 2 (Q 4)]
abbrev OH:=Rg [C 2 (Q 3)]
def wF:ae:=⟨1,[.tmp 2],
 (.seq Pg
 (.seq (.seq Pd
 (.cond (.m 3)
 (.seq QK
 .ret)
 .skip))
 (.seq OH
 .ret)))⟩
abbrev T3:=Rg [C 4 ff,Z [4]]
abbrev Ss:=Rg [A 6 1,P 7 .sub 6 1,V 8 (.bin .shl (Q 1) (.m 7)),V 5 (.alloc [O]),Yd 1 5 8]
abbrev S3:=Rg [A 9 0,V 10 (.mkfn nP [] [.m 5]),V 11 (.calli cu [.m 9,.m 10]),V 12 (.un .not (.m 11)),A 4 12]
def yP:ae:=⟨2,[.tmp 4],
 (.seq T3
 (.seq Ss
 (.seq S3
 .ret)))⟩
abbrev QB:=Rg [V 4 (.mov (.c (.nl))),C 5 (Q 0),Z [4,5]]
abbrev OS:=Rg [B 11 0,P 12 .lss 11 0,A 13 12,U 13 14 (.mov (.s 0)),U 13 15 (.bin .gtr (.s 14) (Q 11)),V 16 (.pick (.m 13) tt (.s 15)),Z [14,15]]
abbrev Qs:=Rg [V 4 (.mov (.c (.nl))),C 5 (Q 2)]
abbrev PQ:=Rg [A 17 0,V 18 (.bin .sub (Q 11) (.m 17)),P 19 .quo 18 2,V 20 (.bin .add (Q 3) (.m 19)),A 6 20,C 7 (Q 256),C 8 (Q 256)]
abbrev OM:=Rg [A 21 1]
abbrev Pe:=Rg [C 7 (Q 32),C 8 (Q 64)]
abbrev Pf:=Rg [V 9 (.mov (.c (.nl)))]
abbrev OZ:=Rg [C 10 (Q 0)]
abbrev Pa:=Rg [A 22 9,B 23 10,V 24 (.mks 1 [.m 23]),V 25 (.app 1 (.m 22) (.m 24)),A 9 25]
abbrev Qk:=Rg [B 26 10,B 27 7,L 28 .lss 26 27]
abbrev Nd:=Rg [B 29 7,B 30 10,P 31 .add 30 4,A 32 10,B 33 6,L 34 .mul 32 33,B 35 8,L 36 .quo 34 35,V 37 (.bin .mul (Q 4) (.m 36)),L 38 .add 31 37,V 39 (.minmax false [.m 29,.m 38]),A 10 39]
abbrev MX:=Rg [A 40 9,A 4 40,C 5 (Q 0)]
def wX:ae:=⟨2,[.tmp 4,.tmp 5],
 (.seq QB
 (.scope
 (.seq (.seq OS
 (.cond (.m 16)
 (.seq (K [0,1]) (.seq Qs
 .ret))
 .skip))
 (.seq PQ
 (.seq (.seq OM
 (.cond (.m 21)
 (.seq (K [7,8]) Pe)
 .skip))
 (.seq Pf
 (.seq OZ
 (.seq (.label 0)
 (.seq Pa
 (.seq (.seq Qk
 (.cond (.m 28)
 (.seq Nd
 (.goto 0))
 (.seq (K [6,7,8,10]) .skip)))
 (.seq MX
 .ret)))))))))))⟩
abbrev Qz:=Rg [C 5 (Q 0)]
abbrev Qu:=Rg [M 14 1,V 15 (.len (.s 14)),C 16 (Q 0)]
abbrev PJ:=Rg [J 17 .lss 16 15]
abbrev Py:=Rg [B 18 16,V 19 (.ia 1 (.s 14) (.s 16)),M 20 19,A 6 18,A 7 20]
abbrev Ph:=Rg [C 8 (Q 0)]
abbrev Ok:=Rg [A 21 7,V 22 (.len (.s 21)),C 23 (Q 0)]
abbrev Pk:=Rg [J 24 .lss 23 22]
abbrev N6:=Rg [V 25 (.ia 2 (.s 21) (.s 23)),V 26 (.ld (some 2) 0 (.m 25)),V 10 (.alloc [O,O]),Yd 2 10 26]
abbrev P7:=Rg [B 27 8,X 28 1 10,M 29 28,L 30 .add 27 29,A 11 30]
abbrev Pn:=Rg [B 31 8,B 32 11,L 33 .lss 31 32]
abbrev KN:=Rg [X 36 0 10,M 37 36,P 38 .eql 37 0,A 39 38,U 39 40 (.fa 0 (.s 10)),U 39 41 (.ld none 0 (.s 40)),U 39 42 (.bin .eql (.s 41) (Q 13)),V 43 (.pick (.m 39) tt (.s 42)),Z [40,41,42]]
abbrev Mb:=Rg [B 44 5,A 12 44]
abbrev M8:=Rg [B 45 12,B 46 5,X 47 3 2,M 48 47,B 49 6,V 50 (.ia 1 (.m 48) (.m 49)),M 51 50,L 52 .add 46 51,L 53 .lss 45 52]
abbrev LF:=Rg [G 56 3,B 57 8,V 58 (.ia 1 (.m 56) (.m 57)),M 59 58,A 13 59]
abbrev KC:=Rg [B 60 13,G 61 3,B 62 8,P 63 .add 62 1,V 64 (.ia 1 (.m 61) (.m 63)),M 65 64,L 66 .lss 60 65]
abbrev z8:=[B 72 0,X 73 0 10,M 74 73,B 75 12,P 76 .mul 75 32,B 77 13,L 78 .add 76 77,B 79 12,P 80 .mul 79 32,B 81 13,L 82 .add 80 81,X 83 0 10,M 84 83,H 85 DI [.m 84],L 86 .add 82 85,V 87 (.build [O,O,O] [(0,1,.m 74),(1,1,.m 78),(2,1,.m 86)]),V 88 (.callv (.m 72) [.m 87]),V 89 (.un .not (.m 88))]
def xZ:VC:=.regP (.range 18) (.range 18) [] z8
abbrev Kl:=Rg [A 67 13,X 68 0 10,M 69 68,H 70 DI [.m 69],L 71 .add 67 70,A 13 71]
def dF:VC:=(.seq (.seq KC
 (.cond (.m 66)
 .skip
 (.seq (K [13]) (.exit 8))))
 (.seq (.block 9
 (.seq xZ
 (.cond (.m 89)
 (.seq (.seq (K [0,2,3,5,6,8,11,12,13,14,15,16,21,22,23]) (F 10)) .ret)
 .skip)))
 Kl))
abbrev Ln:=Rg [A 54 12,P 55 .add 54 1,A 12 55]
def eC:VC:=(.seq (.seq M8
 (.cond (.m 53)
 .skip
 (.seq (K [12]) (.exit 6))))
 (.seq (.block 7
 (.seq LF
 (.block 8
 (.seq (.loop dF) (K [13])))))
 Ln))
abbrev L6:=Rg [A 34 8,P 35 .add 34 1,A 8 35]
def cO:VC:=(.seq (.seq Pn
 (.cond (.m 33)
 .skip
 (.seq (.seq (K [11]) (F 10)) (.exit 4))))
 (.seq (.block 5
 (.seq (.seq KN
 (.cond (.m 43)
 (.exit 5)
 .skip))
 (.seq Mb
 (.block 6
 (.seq (.loop eC) (K [12]))))))
 L6))
abbrev KL:=Rg [P 90 .add 23 1,A 23 90]
def ew:VC:=(.seq Pk
 (.seq (.cond (.m 24)
 .skip
 (.seq (K [8,21,22,23]) (.exit 2)))
 (.seq (.block 3
 (.seq N6
 (.seq P7
 (.block 4
 (.seq (.loop cO) (.seq (K [11]) (F 10)))))))
 KL)))
abbrev MS:=Rg [A 91 5,X 92 3 2,M 93 92,A 94 6,V 95 (.ia 1 (.m 93) (.m 94)),M 96 95,L 97 .add 91 96,A 5 97]
abbrev Kj:=Rg [P 98 .add 16 1,A 16 98]
def eu:VC:=(.seq PJ
 (.seq (.cond (.m 17)
 .skip
 (.seq (K [0,2,3,5,14,15,16]) (.exit 0)))
 (.seq (.block 1
 (.seq Py
 (.seq Ph
 (.seq (.seq Ok
 (.block 2
 (.seq (.loop ew) (K [8,21,22,23]))))
 MS))))
 Kj)))
def wS:ae:=⟨4,[],
 (.seq Qz
 (.seq Qu
 (.block 0
 (.seq (.loop eu) (K [0,2,3,5,14,15,16])))))⟩
abbrev akf:=Rg [C 2 (Q 0),Z [2]]
abbrev aiN:=Rg [A 3 0,P 4 .lss 3 5]
abbrev akE:=Rg [C 2 (Q 4)]
abbrev aky:=Rg [C 2 (Q 2)]
def LU:ae:=⟨1,[.tmp 2],
 (.seq akf
 (.seq (.seq aiN
 (.cond (.m 4)
 (.seq akE
 .ret)
 .skip))
 (.seq aky
 .ret)))⟩
abbrev abI:=Rg [C 4 ff,C 5 (Q 0),Z [4,5]]
abbrev adk:=Rg [B 8 0,P 9 .lss 8 1,A 10 9,U 10 11 (.mov (.s 0)),U 10 12 (.bin .gtr (.s 11) (Q 11)),V 13 (.pick (.m 10) tt (.s 12)),A 7 13,Z [11,12]]
abbrev Z3:=Rg [C 4 ff,C 5 (Q 2)]
abbrev ZH:=Rg [B 15 1,V 16 (.len (.m 15)),B 17 0,H 18 Hu [.m 17],L 19 .neq 16 18,A 14 19]
abbrev aen:=Rg [C 4 ff,C 5 (Q 4)]
abbrev acm:=Rg [H 20 DR [],A 21 0,V 22 (.ix 13 1 false (.m 20) (.m 21)),V 6 (.alloc [O]),Yd 1 6 22]
abbrev aec:=Rg [A 23 1,V 24 (.mkfn qK [] [.m 6]),V 25 (.calli cu [.m 23,.m 24]),V 26 (.un .not (.m 25)),A 4 26,C 5 (Q 0)]
def Eq:ae:=⟨2,[.tmp 4,.tmp 5],
 (.seq abI
 (.seq (.block 0
 (.seq adk
 (.cond (.m 7)
 (.seq (K [0,1]) (.seq Z3
 .ret))
 (.seq ZH
 (.cond (.m 14)
 (.seq (K [0,1]) (.seq aen
 .ret))
 .skip)))))
 (.seq acm
 (.seq aec
 .ret))))⟩
abbrev OO:=Rg [V 1 (.box (.m 0)),C 2 (Q 0),Z [2]]
abbrev OE:=Rg [V 6 (.ld (some 4) 0 (.s 1)),H 7 mW [.m 6,Q 0],A 5 7,E 8 5 true 0,E 9 5 false 1,A 3 8,A 4 9,Z [3,5]]
abbrev QM:=Rg [B 10 4,P 11 .neq 10 0]
abbrev OY:=Rg [A 12 4,A 2 12]
abbrev Pp:=Rg [X 13 0 1,M 14 13,P 15 .gtr 14 11]
abbrev Qo:=Rg [C 2 (Q 2)]
abbrev Qh:=Rg [C 2 (Q 0)]
def aaD:ae:=⟨1,[.tmp 2],
 (.seq OO
 (.seq (.seq OE
 (.seq QM
 (.cond (.m 11)
 (.seq (F 1) (.seq OY
 .ret))
 (.seq (K [4]) .skip))))
 (.seq (.seq (.seq Pp (F 1))
 (.cond (.m 15)
 (.seq Qo
 .ret)
 .skip))
 (.seq Qh
 .ret))))⟩
abbrev R3:=Rg [C 2 ff,Z [2]]
abbrev Tq:=Rg [B 3 0,P 4 .lss 3 3,A 5 4,U 5 6 (.mov (.s 0)),U 5 7 (.bin .eql (.s 6) (Q 5)),V 8 (.pick (.m 5) tt (.s 7)),A 9 8,U 9 10 (.mov (.s 0)),U 9 11 (.bin .eql (.s 10) (Q 6)),V 12 (.pick (.m 9) tt (.s 11)),A 2 12,Z [0,6,7,10,11]]
def ahU:ae:=⟨1,[.tmp 2],
 (.seq R3
 (.seq Tq
 .ret))⟩
abbrev XA:=Rg [C 4 (Q 0),C 5 (Q 0),Z [4,5]]
abbrev Xs:=Rg [A 12 0,H 13 ya [.m 12],A 11 13,E 14 11 true 0,E 15 11 false 1,V 6 (.alloc [O,O,O,O]),Yd 4 6 14,A 7 15,Z [11]]
abbrev Xf:=Rg [B 17 7,P 18 .neq 17 0,A 16 18]
abbrev Wk:=Rg [A 19 7,C 4 (Q 0),A 5 19]
abbrev Wc:=Rg [B 21 1,V 22 (.len (.m 21)),X 23 0 6,M 24 23,L 25 .neq 22 24,A 20 25]
abbrev Vx:=Rg [C 4 (Q 0),C 5 (Q 4)]
abbrev XK:=Rg [C 8 (Q 0)]
abbrev YA:=Rg [A 26 1,V 27 (.len (.s 26)),C 28 (Q 0)]
abbrev Zt:=Rg [J 29 .lss 28 27]
abbrev Vp:=Rg [V 30 (.ia 1 (.s 26) (.s 28)),M 31 30,A 10 31]
abbrev Tj:=Rg [B 32 10,X 33 1 6,M 34 33,L 35 .lss 32 34,A 36 35,U 36 37 (.mov (.s 10)),U 36 38 (.fa 2 (.s 6)),U 36 39 (.ld none 0 (.s 38)),U 36 40 (.bin .gtr (.s 37) (.s 39)),V 41 (.pick (.m 36) tt (.s 40)),Z [37,38,39,40]]
abbrev TK:=Rg [C 4 (Q 0),C 5 (Q 2)]
abbrev Tg:VC:=(.reg true [
 A 42 8,
 V 43 (.ld (some 4) 0 (.s 6)),
 H 44 gY [.m 43],
 L 45 .mul 42 44,
 A 46 10,
 L 47 .add 45 46,
 X 48 1 6,
 M 49 48,
 L 50 .sub 47 49,
 A 8 50])
abbrev UJ:=Rg [P 51 .add 28 1,A 28 51]
def nY:VC:=(.seq Zt
 (.seq (.cond (.m 29)
 .skip
 (.seq (.seq (K [26,27,28]) (F 6)) (.exit 1)))
 (.seq (.block 2
 (.seq Vp
 (.seq (.seq Tj
 (.cond (.m 41)
 (.seq (.seq (K [8,10,26,27,28]) (F 6)) (.seq TK
 .ret))
 .skip))
 Tg)))
 UJ)))
abbrev RG:=Rg [A 52 8,A 4 52,C 5 (Q 0)]
def BH:ae:=⟨2,[.tmp 4,.tmp 5],
 (.seq XA
 (.seq Xs
 (.seq (.block 0
 (.seq Xf
 (.cond (.m 16)
 (.seq (.seq (K [1]) (F 6)) (.seq Wk
 .ret))
 (.seq (K [7]) (.seq Wc
 (.cond (.m 20)
 (.seq (.seq (K [1]) (F 6)) (.seq Vx
 .ret))
 .skip))))))
 (.seq XK
 (.seq (.seq YA
 (.block 1
 (.seq (.loop nY) (.seq (K [26,27,28]) (F 6)))))
 (.seq RG
 .ret))))))⟩
abbrev aa3:=Rg [V 2 (.box (.m 0)),V 4 (.mov (.c (.nl))),C 5 (Q 0),Z [4,5]]
abbrev acJ:=Rg [V 11 (.ld (some 4) 0 (.s 2)),H 12 oM [.m 11],V 13 (.un .not (.m 12))]
abbrev Z6:=Rg [V 4 (.mov (.c (.nl))),C 5 (Q 8)]
abbrev aaJ:=Rg [B 14 1,P 15 .lss 14 0,A 16 15,U 16 17 (.mov (.s 1)),U 16 18 (.fa 3 (.s 2)),U 16 19 (.ld none 0 (.s 18)),U 16 20 (.len (.s 19)),U 16 21 (.bin .geq (.s 17) (.s 20)),V 22 (.pick (.m 16) tt (.s 21)),Z [17,18,19,20,21]]
abbrev abG:=Rg [V 4 (.mov (.c (.nl))),C 5 (Q 2)]
abbrev aao:=Rg [X 23 3 2,M 24 23,A 25 1,V 26 (.ia 1 (.m 24) (.m 25)),M 27 26,A 6 27]
abbrev abU:=Rg [B 28 6,X 29 1 2,M 30 29,L 31 .shr 28 30,P 32 .add 31 1,A 7 32]
abbrev aaR:=Rg [B 33 7,V 34 (.conv .u64 (.m 33)),H 35 nW [.m 34],A 8 35]
abbrev ZK:=Rg [A 37 7,A 38 8,V 39 (.bin .mul (Q 2) (.m 38)),P 40 .sub 39 1,H 41 ed [.c (.nl),.m 37,.m 40],A 36 41,E 42 36 true 0,E 43 36 false 1,A 9 42,A 10 43,Z [10,36]]
abbrev Jz:=[A 44 9,A 45 6,X 46 1 2,M 47 46,V 48 (.bin .shl (Q 1) (.m 47)),P 49 .sub 48 1,L 50 .and 45 49,X 51 1 2,M 52 51,H 53 ed [.m 44,.m 50,.m 52],E 54 53 true 0,E 55 53 false 1,A 4 54,A 5 55]
def GT:VC:=.regP (.range 14) (.range 14) [] Jz
def Ee:ae:=⟨2,[.tmp 4,.tmp 5],
 (.seq aa3
 (.seq (.seq acJ
 (.cond (.m 13)
 (.seq (.seq (K [1]) (F 2)) (.seq Z6
 .ret))
 .skip))
 (.seq (.seq aaJ
 (.cond (.m 22)
 (.seq (.seq (K [1]) (F 2)) (.seq abG
 .ret))
 .skip))
 (.seq aao
 (.seq abU
 (.seq aaR
 (.seq ZK
 (.seq (.seq GT (.seq (K [53]) (F 2)))
 .ret))))))))⟩
abbrev CM:=Rg [V 2 (.mov (.c (.nl))),Z [2]]
abbrev BC:=Rg [C 3 (Q 0)]
abbrev Cv:=Rg [B 9 0,V 10 (.len (.s 9)),C 11 (Q 0)]
abbrev CY:=Rg [J 12 .lss 11 10]
abbrev Bq:=Rg [V 13 (.ia 1 (.s 9) (.s 11)),M 14 13,A 5 14]
abbrev Bb:=Rg [A 15 3,A 16 5,V 17 (.len (.m 16)),L 18 .add 15 17,A 3 18]
abbrev BA:=Rg [B 19 3,P 20 .lss 19 0]
abbrev Br:=Rg [V 21 (.bad ),N (.bad )]
abbrev BX:=Rg [P 22 .add 11 1,A 11 22]
def gb:VC:=(.seq CY
 (.seq (.cond (.m 12)
 .skip
 (.seq (K [9,10,11]) (.exit 0)))
 (.seq (.block 1
 (.seq Bq
 (.seq Bb
 (.seq BA
 (.cond (.m 20)
 Br
 .skip)))))
 BX)))
abbrev BG:=Rg [A 23 3,V 24 (.calli nH [.c (.nl),.m 23]),A 6 24]
abbrev AD:=Rg [A 25 0,V 26 (.len (.s 25)),C 27 (Q 0)]
abbrev Al:=Rg [J 28 .lss 27 26]
abbrev Az:=Rg [V 29 (.ia 1 (.s 25) (.s 27)),M 30 29,A 8 30]
abbrev AN:=Rg [A 31 6,A 32 8,V 33 (.app 1 (.m 31) (.m 32)),A 6 33]
abbrev AA:=Rg [P 34 .add 27 1,A 27 34]
def dY:VC:=(.seq Al
 (.seq (.cond (.m 28)
 .skip
 (.seq (K [25,26,27]) (.exit 2)))
 (.seq (.block 3
 (.seq Az
 AN))
 AA)))
abbrev An:=Rg [A 35 6,A 2 35]
def lN:ae:=⟨1,[.tmp 2],
 (.seq CM
 (.seq BC
 (.seq (.seq Cv
 (.block 0
 (.seq (.loop gb) (K [9,10,11]))))
 (.seq BG
 (.seq (.seq AD
 (.block 2
 (.seq (.loop dY) (K [25,26,27]))))
 (.seq An
 .ret))))))⟩
abbrev aaw:=Rg [C 2 (Q 0),Z [2]]
abbrev aer:=Rg [B 3 0,A 4 0,V 5 (.un .neg (.m 4)),V 6 (.minmax true [.m 3,.m 5]),A 2 6]
def E2:ae:=⟨1,[.tmp 2],
 (.seq aaw
 (.seq aer
 .ret))⟩
abbrev KX:=Rg [C 2 (Q 0),Z [2]]
abbrev Me:=Rg [A 3 0,V 4 (.conv .u32 (.m 3)),H 5 P3 [.m 4],A 2 5]
abbrev Lv:=Rg [A 6 0,H 7 qm [.m 6],A 2 7]
def tS:ae:=⟨1,[.tmp 2],
 (.seq KX
 (.seq (.cond ff
 (.seq Me
 .ret)
 .skip)
 (.seq Lv
 .ret)))⟩
abbrev C0:=Rg [V 4 (.mov (.c (.nl))),Z [4]]
abbrev CJ:=Rg [B 9 1,P 10 .lss 9 0]
abbrev C3:=Rg [V 11 (.bad ),N (.bad )]
abbrev Bm:=Rg [B 13 0,V 14 (.len (.m 13)),V 15 (.conv .u64 (.m 14)),A 16 1,V 17 (.conv .u64 (.m 16)),H 18 Y0 [.m 15,.m 17],A 12 18,E 19 12 false 0,E 20 12 false 1,A 5 19,A 6 20,Z [12]]
abbrev Bg:=Rg [A 21 5,V 22 (.bin .gtr (.m 21) (.c (.d (.int .u64 0)))),A 23 22,U 23 24 (.mov (.s 6)),U 23 25 (.bin .gtr (.s 24) (.c (.d (.int .u64 9223372036854775807)))),V 26 (.pick (.m 23) tt (.s 25)),Z [24,25]]
abbrev BM:=Rg [V 27 (.bad ),N (.bad )]
abbrev BL:=Rg [A 28 6,V 29 (.conv .i64 (.m 28)),⟨some 30,none,.mkslice [.int .u8 0] (.s 29) (.s 29),[(0,0)]⟩,A 7 30,Z [29]]
abbrev BJ:=Rg [B 31 7,A 32 0,V 33 (.cpy 1 (.m 31) (.m 32)),A 8 33]
abbrev Bd:=Rg [B 34 8,B 35 7,V 36 (.len (.m 35)),L 37 .lss 34 36]
abbrev Dm:=[B 38 8,B 39 7,B 40 8,V 41 (.slice 1 (.m 39) (some (.m 40)) none none),B 42 7,B 43 8,V 44 (.slice 1 (.m 42) none (some (.m 43)) none),V 45 (.cpy 1 (.m 41) (.m 44)),L 46 .add 38 45,A 8 46]
def CK:VC:=.regP (.range 10) (.range 10) [] Dm
def C1:VC:=(.seq (.seq Bd
 (.cond (.m 37)
 .skip
 (.seq (K [8]) (.exit 0))))
 (.block 1
 CK))
abbrev As:=Rg [A 47 7,A 4 47]
def GW:ae:=⟨2,[.tmp 4],
 (.seq C0
 (.seq (.seq CJ
 (.cond (.m 10)
 C3
 .skip))
 (.seq Bm
 (.seq (.seq Bg
 (.cond (.m 26)
 BM
 .skip))
 (.seq BL
 (.seq BJ
 (.seq (.block 0
 (.seq (.loop C1) (K [8])))
 (.seq As
 .ret))))))))⟩
abbrev agx:=Rg [V 2 (.alloc [O,O,.nl,.nl]),C 3 (Q 0),Z [3]]
abbrev afN:=Rg [B 12 0,H 13 ya [.m 12],A 11 13,E 14 11 true 0,E 15 11 false 1,V 4 (.alloc [O,O,O,O]),Yd 4 4 14,A 5 15,Z [11]]
abbrev agy:=Rg [B 16 5,P 17 .neq 16 0]
abbrev aha:=Rg [V 18 (.build [O,O,.nl,.nl] []),A 19 5,Yd 4 2 18,A 3 19]
abbrev K7:=[A 20 0,X 21 3 4,M 22 21,V 23 (.ld (some 4) 0 (.s 4)),H 24 fp [.m 23],V 26 (.ld (some 4) 0 (.s 4)),H 27 fp [.m 26],⟨some 25,none,.mkslice [.int .i64 0] (.s 24) (.s 24),[(0,0)]⟩,⟨some 28,none,.mkslice [.int .i64 0] (.s 27) (.s 27),[(0,0)]⟩,V 29 (.build [O,O,.nl,.nl] [(0,1,.m 20),(1,1,.m 22),(2,1,.m 25),(3,1,.m 28)]),V 6 (.alloc [O,O,.nl,.nl]),Yd 4 6 29]
def Jx:VC:=.regP [0,1,2,3,4,6,7,5,8,9,10,11] (.range 12) [] (unp [0,1,2,3,4,7,5,6,8,9,10,11] K7)
def yz:=Rg [V 30 (.ld (some 4) 1 (.s 4)),H 31 dG [.m 30],V 7 (.alloc [O8,O8,O8,O8,O8,O8,O8,O8,O8,O8,O8,O8,O8,O8,O8,O8,O8,O8,O8,O8,O8,O8,O8,O8,O8,O8,O8,O8,O8,O8,O8,O8,O8,O8,O8,O8,O8,O8,O8,O8,O8,O8,O8,O8,O8,O8,O8,O8,O8,O8,O8,O8,O8,O8,O8,O8,O8,O8,O8,O8,O8,O8,O8,O8,O8,O8,O8,O8,O8,O8,O8,O8,O8,O8,O8,O8,O8,O8,O8,O8,O8,O8,O8,O8,O8,O8,O8,O8,O8,O8,O8,O8,O8,O8,O8,O8,O8,O8,O8,O8,O8,O8,O8,O8,O8,O8,O8,O8,O8,O8,O8,O8,O8,O8,O8,O8,O8,O8,O8,O8,O8,O8,O8,O8,O8,O8,O8,O8,O8,O8,O8,O8,O8,O8,O8,O8,O8,O8,O8,O8,O8,O8,O8,O8,O8,O8,O8,O8,O8,O8,O8,O8,O8,O8,O8,O8,O8,O8,O8,O8,O8,O8,O8,O8,O8,O8,O8,O8,O8,O8,O8,O8,O8,O8,O8,O8,O8,O8,O8,O8,O8,O8,O8,O8,O8,O8,O8,O8,O8,O8,O8,O8,O8,O8,O8,O8,O8,O8,O8,O8,O8,O8,O8,O8,O8,O8,O8,O8,O8,O8,O8,O8,O8,O8,O8,O8,O8,O8,O8,O8,O8,O8,O8,O8,O8,O8,O8,O8,O8,O8,O8,O8,O8,O8,O8,O8,O8,O8,O8,O8,O8,O8,O8,O8,O8,O8,O8,O8,O8,O8,O8,O8,O8,O8,O8,O8,O8,O8,O8,O8,O8,O8,O8,O8,O8,O8,O8,O8,O8,O8,O8,O8,O8,O8,O8,O8,O8,O8,O8,O8,O8,O8,O8,O8,O8,O8,O8,O8,O8]),Yd 289 7 31]
abbrev agZ:=Rg [X 32 2 6,M 33 32,V 34 (.len (.m 33)),C 35 (Q 0)]
abbrev ahu:=Rg [J 36 .lss 35 34]
abbrev ag7:=Rg [B 37 35,A 8 37]
abbrev agB:=Rg [X 38 2 6,M 39 38,B 40 8,A 41 8,V 42 (.ia 1 (.m 39) (.m 40)),N (.st 1 (.m 42) (.m 41))]
abbrev adR:=Rg [P 43 .add 35 1,A 35 43]
def qR:VC:=(.seq ahu
 (.seq (.cond (.m 36)
 .skip
 (.seq (K [34,35]) (.exit 0)))
 (.seq (.block 1
 (.seq ag7
 agB))
 adR)))
abbrev acS:=Rg [X 44 2 6,M 45 44,V 46 (.mkfn uJ [] [.m 7]),V 47 (.calli gW [.m 45,.m 46]),Z [47]]
abbrev adY:=Rg [X 48 2 6,M 49 48,V 50 (.len (.s 49)),C 51 (Q 0)]
abbrev aaQ:=Rg [J 52 .lss 51 50]
abbrev ZN:=Rg [B 53 51,V 54 (.ia 1 (.s 49) (.s 51)),M 55 54,A 9 53,A 10 55]
abbrev adi:=Rg [X 56 3 6,M 57 56,A 58 10,A 59 9,V 60 (.ia 1 (.m 57) (.m 58)),N (.st 1 (.m 60) (.m 59))]
abbrev ack:=Rg [P 61 .add 51 1,A 51 61]
def qI:VC:=(.seq aaQ
 (.seq (.cond (.m 52)
 .skip
 (.seq (K [49,50,51]) (.exit 2)))
 (.seq (.block 3
 (.seq ZN
 adi))
 ack)))
abbrev adj:=Rg [V 62 (.ld (some 4) 1 (.s 6)),Yd 4 2 62,C 3 (Q 0)]
def IM:ae:=⟨1,[.cell 2 (some 4),.tmp 3],
 (.seq agx
 (.seq afN
 (.seq (.seq agy
 (.cond (.m 17)
 (.seq (.seq (K [0]) (F 4)) (.seq aha
 .ret))
 (.seq (K [5]) .skip)))
 (.seq (.seq Jx (K [24,27]))
 (.seq (.seq yz (F 4))
 (.seq (.seq agZ
 (.block 0
 (.seq (.loop qR) (K [34,35]))))
 (.seq acS
 (.seq (.seq adY
 (.block 2
 (.seq (.loop qI) (K [49,50,51]))))
 (.seq (.seq adj (F 6))
 .ret)))))))))⟩
abbrev PX:=Rg [V 1 (.box (.m 0)),C 2 ff,Z [2]]
abbrev Pr:=Rg [X 6 0 1,M 7 6,V 8 (.bin .neq (.m 7) (.c (.d (.int .u8 2))))]
abbrev Qd:=Rg [V 9 (.fa 3 (.m 1)),M 10 9,V 11 (.mks 1 [Q 1]),H 12 j0 [.m 10,.m 11],A 2 12]
abbrev Qw:=Rg [C 3 (Q 0)]
abbrev Pl:=Rg [X 13 3 1,M 14 13,V 15 (.len (.s 14)),C 16 (Q 0)]
abbrev Pm:=Rg [J 17 .lss 16 15]
abbrev Oy:=Rg [V 18 (.ia 1 (.s 14) (.s 16)),M 19 18,A 5 19]
abbrev PD:=Rg [B 20 5,P 21 .lss 20 1,A 22 21,U 22 23 (.mov (.s 5)),U 22 24 (.bin .gtr (.s 23) (Q 8)),V 25 (.pick (.m 22) tt (.s 24)),Z [23,24]]
abbrev Qc:=Rg [C 2 ff]
abbrev O9:=Rg [A 26 3,A 27 5,L 28 .add 26 27,A 3 28]
abbrev KM:=Rg [P 29 .add 16 1,A 16 29]
def lg:VC:=(.seq Pm
 (.seq (.cond (.m 17)
 .skip
 (.seq (K [14,15,16]) (.exit 0)))
 (.seq (.block 1
 (.seq Oy
 (.seq (.seq PD
 (.cond (.m 25)
 (.seq (K [1,3,5,14,15,16]) (.seq Qc
 .ret))
 .skip))
 O9)))
 KM)))
abbrev MQ:=Rg [A 30 3,P 31 .eql 30 8,A 32 31,W 32 33 (.fa 3 (.s 1)),W 32 34 (.ld none 0 (.s 33)),W 32 35 (.len (.s 34)),W 32 36 (.bin .leq (.s 35) (Q 8)),V 37 (.pick (.m 32) (.s 36) ff),A 2 37,Z [1,33,34,35,36]]
def v9:ae:=⟨1,[.tmp 2],
 (.seq PX
 (.seq (.seq Pr
 (.cond (.m 8)
 (.seq Qd
 .ret)
 .skip))
 (.seq Qw
 (.seq (.seq Pl
 (.block 0
 (.seq (.loop lg) (K [14,15,16]))))
 (.seq MQ
 .ret)))))⟩
abbrev abk:=Rg [V 1 (.box (.m 0)),C 2 ff,Z [2]]
abbrev adG:=Rg [V 3 (.ld (some 4) 1 (.m 1)),H 4 dV [Q 11,.m 3],P 5 .eql 4 0,A 2 5]
def Fo:ae:=⟨1,[.tmp 2],
 (.seq abk
 (.seq adG
 .ret))⟩
abbrev abJ:=Rg [C 6 (Q 0),C 7 (Q 0),Z [6,7]]
abbrev acZ:=Rg [B 10 1,P 11 .lss 10 0,A 12 11,U 12 13 (.mov (.s 1)),U 12 14 (.mov (.s 0)),U 12 15 (.len (.s 14)),U 12 16 (.bin .geq (.s 13) (.s 15)),V 17 (.pick (.m 12) tt (.s 16)),A 18 17,U 18 19 (.mov (.s 2)),U 18 20 (.bin .lss (.s 19) (Q 0)),V 21 (.pick (.m 18) tt (.s 20)),Z [13,14,15,16,19,20]]
abbrev acj:=Rg [C 6 (Q 0),C 7 (Q 2)]
abbrev abE:=Rg [A 22 0,A 23 1,V 24 (.ia 1 (.m 22) (.m 23)),M 25 24,V 26 (.len (.s 25)),C 27 (Q 0)]
abbrev ZR:=Rg [J 28 .lss 27 26]
abbrev adq:=Rg [V 29 (.ia 2 (.s 25) (.s 27)),V 30 (.ld (some 2) 0 (.m 29)),V 9 (.alloc [O,O]),Yd 2 9 30]
abbrev ZQ:=Rg [X 31 1 9,M 32 31,P 33 .lss 32 1]
abbrev Zw:=Rg [B 34 2,X 35 1 9,M 36 35,L 37 .lss 34 36]
abbrev aau:=Rg [X 38 0 9,M 39 38,A 6 39,C 7 (Q 0)]
abbrev acy:=Rg [A 40 2,X 41 1 9,M 42 41,L 43 .sub 40 42,A 2 43]
abbrev YJ:=Rg [P 44 .add 27 1,A 27 44]
def pU:VC:=(.seq ZR
 (.seq (.cond (.m 28)
 .skip
 (.seq (K [2,25,26,27]) (.exit 0)))
 (.seq (.block 1
 (.seq adq
 (.seq (.seq ZQ
 (.cond (.m 33)
 (.seq (F 9) (.exit 1))
 .skip))
 (.seq (.seq Zw
 (.cond (.m 37)
 (.seq (K [2,25,26,27]) (.seq (.seq aau (F 9))
 .ret))
 .skip))
 (.seq acy (F 9))))))
 YJ)))
abbrev VT:=Rg [C 6 (Q 0),C 7 (Q 2)]
def Ff:ae:=⟨3,[.tmp 6,.tmp 7],
 (.seq abJ
 (.seq (.seq acZ
 (.cond (.m 21)
 (.seq (K [0,1,2]) (.seq acj
 .ret))
 .skip))
 (.seq (.seq abE
 (.block 0
 (.seq (.loop pU) (K [2,25,26,27]))))
 (.seq VT
 .ret))))⟩
abbrev aai:=Rg [C 4 ff,Z [4]]
abbrev abW:=Rg [B 5 1,B 6 0,P 7 .sub 6 60,L 8 .geq 5 7,A 9 8,W 9 10 (.mov (.s 1)),W 9 11 (.mov (.s 0)),W 9 12 (.bin .add (.s 11) (Q 60)),W 9 13 (.bin .leq (.s 10) (.s 12)),V 14 (.pick (.m 9) (.s 13) ff),A 4 14,Z [0,1,10,11,12,13]]
def Ej:ae:=⟨2,[.tmp 4],
 (.seq aai
 (.seq abW
 .ret))⟩
abbrev sk:=Rg [C 4 ff,Z [4]]
abbrev sq:=Rg [A 5 0,A 6 1,V 7 (.calli jg [.m 5,.m 6]),P 8 .geq 7 0,A 4 8]
def gD:ae:=⟨2,[.tmp 4],
 (.seq sk
 (.seq sq
 .ret))⟩
abbrev JZ:=Rg [V 3 (.box (.m 0)),C 4 ff,Z [4]]
abbrev JT:VC:=(.reg true [
 V 5 (.ld (some 5) 0 (.s 3)),
 M 6 1,
 H 7 zh [.m 5,.m 6],
 V 8 (.un .not (.m 7)),
 A 9 8,
 U 9 10 (.fa 3 (.s 3)),
 U 9 11 (.ld none 0 (.s 10)),
 U 9 12 (.ld none 0 (.s 2)),
 U 9 13 (.ia 5 (.s 12) (Q 0)),
 U 9 14 (.fa 3 (.s 13)),
 U 9 15 (.ld none 0 (.s 14)),
 U 9 16 (.binb true (.s 11) (.s 15)),
 V 17 (.pick (.s 9) tt (.s 16)),
 A 4 17])
def so:ae:=⟨3,[.tmp 4],
 (.seq JZ
 (.seq (.seq JT (.seq (K [2,9,10,11,12,13,14,15,16]) (F 3)))
 .ret))⟩
abbrev Sf:=Rg [V 2 (.box (.m 0)),C 4 ff,Z [4]]
abbrev Ur:=Rg [C 5 (Q 63),C 6 (Q 12)]
abbrev S6:=Rg [A 9 1]
abbrev Tn:=Rg [C 5 (Q 15),C 6 (Q 7)]
abbrev Un:=Rg [X 10 0 2,M 11 10,P 12 .lss 11 0,A 13 12,U 13 14 (.fa 0 (.s 2)),U 13 15 (.ld none 0 (.s 14)),U 13 16 (.mov (.s 5)),U 13 17 (.bin .gtr (.s 15) (.s 16)),V 18 (.pick (.m 13) tt (.s 17)),A 19 18,U 19 20 (.fa 1 (.s 2)),U 19 21 (.ld none 0 (.s 20)),U 19 22 (.bin .lss (.s 21) (Q 0)),V 23 (.pick (.m 19) tt (.s 22)),A 24 23,U 24 25 (.fa 1 (.s 2)),U 24 26 (.ld none 0 (.s 25)),U 24 27 (.mov (.s 6)),U 24 28 (.bin .gtr (.s 26) (.s 27)),V 29 (.pick (.m 24) tt (.s 28)),A 30 29,U 30 31 (.fa 4 (.s 2)),U 30 32 (.ld none 0 (.s 31)),U 30 33 (.len (.s 32)),U 30 34 (.fa 1 (.s 2)),U 30 35 (.ld none 0 (.s 34)),U 30 36 (.bin .neq (.s 33) (.s 35)),V 37 (.pick (.m 30) tt (.s 36)),A 38 37,U 38 39 (.fa 1 (.s 2)),U 38 40 (.ld none 0 (.s 39)),U 38 41 (.bin .eql (.s 40) (Q 0)),U 38 42 (.mov (.s 41)),W 42 43 (.fa 2 (.s 2)),W 42 44 (.ld none 0 (.s 43)),U 38 45 (.pick (.s 42) (.s 44) ff),V 46 (.pick (.m 38) tt (.s 45)),Z [5,6,14,15,16,17,20,21,22,25,26,27,28,31,32,33,34,35,36,39,40,41,42,43,44,45]]
abbrev SA:=Rg [C 4 ff]
abbrev UA:=Rg [V 7 (.alloc [O]),V 8 (.alloc [O]),N (.st 1 (.s 7) (Q (-4))),N (.st 1 (.s 8) (Q 3))]
abbrev Tb:=Rg [X 47 3 2,M 48 47]
abbrev RA:=Rg [N (.st 1 (.s 7) (Q (-8))),N (.st 1 (.s 8) (Q 7))]
abbrev RR:=Rg [X 49 4 2,M 50 49,V 51 (.mkfn kD [] [.m 7,.m 8]),V 52 (.calli cu [.m 50,.m 51]),V 53 (.un .not (.m 52)),A 4 53]
def yR:ae:=⟨2,[.tmp 4],
 (.seq Sf
 (.seq Ur
 (.seq (.seq S6
 (.cond (.m 9)
 (.seq (K [5,6]) Tn)
 .skip))
 (.seq (.seq Un
 (.cond (.m 46)
 (.seq (F 2) (.seq SA
 .ret))
 .skip))
 (.seq UA
 (.seq (.seq Tb
 (.cond (.m 48)
 RA
 .skip))
 (.seq (.seq RR (F 2))
 .ret)))))))⟩
abbrev aep:=Rg [C 4 ff,Z [4]]
abbrev aaM:=Rg [A 8 1,V 9 (.mks 1 [.m 8,Q 0,Q 0,Q 0]),A 5 9]
abbrev adV:=Rg [B 10 0,P 11 .gtr 10 4]
abbrev ab3:=Rg [A 12 5,V 13 (.slice 1 (.m 12) none (some (Q 2)) none),A 5 13]
abbrev ZV:=Rg [A 15 0,A 16 5,H 17 xl [.m 15,.m 16],A 14 17,E 18 14 false 0,E 19 14 false 1,A 6 18,A 7 19,Z [14]]
abbrev aev:=Rg [A 20 7,P 21 .eql 20 0,A 22 21,W 22 23 (.mov (.s 6)),V 24 (.pick (.m 22) (.s 23) ff),A 4 24,Z [6,23]]
def EQ:ae:=⟨2,[.tmp 4],
 (.seq aep
 (.seq aaM
 (.seq (.seq adV
 (.cond (.m 11)
 ab3
 .skip))
 (.seq ZV
 (.seq aev
 .ret)))))⟩
def nz:ae:=⟨1,[.tmp 2],
 (.clone 1)⟩
abbrev Yc:=Rg [C 5 (Q 0)]
abbrev U9:=Rg [G 6 1,P 7 .eql 6 0]
abbrev W6:=Rg [M 9 2,G 10 3,A 11 0,H 12 cB [.m 9,.m 10,.m 11],A 8 12,E 13 8 false 0,E 14 8 false 1,E 15 8 false 2,A 5 13,N (.st 1 (.m 3) (.m 14)),N (.st 1 (.m 1) (.m 15)),Z [8]]
def Cj:ae:=⟨4,[.tmp 5],
 (.seq Yc
 (.seq (.seq U9
 (.cond (.m 7)
 (.seq (K [5]) W6)
 (.seq (K [0,1,2,3]) .skip)))
 .ret))⟩
abbrev YY:=Rg [V 2 (.box (.m 0)),C 4 ff,Z [4]]
abbrev VM:=Rg [X 5 1 2,M 6 5,P 7 .geq 6 1,A 8 7,W 8 9 (.fa 1 (.s 2)),W 8 10 (.ld none 0 (.s 9)),W 8 11 (.mov (.s 1)),W 8 12 (.bin .leq (.s 10) (.s 11)),V 13 (.pick (.m 8) (.s 12) ff),A 14 13,W 14 15 (.fa 0 (.s 2)),W 14 16 (.ld none 0 (.s 15)),W 14 17 (.bin .geq (.s 16) (Q 0)),V 18 (.pick (.m 14) (.s 17) ff),A 19 18,W 19 20 (.fa 0 (.s 2)),W 19 21 (.ld none 0 (.s 20)),W 19 22 (.bin .leq (.s 21) (Q 11)),W 19 23 (.mov (.s 22)),U 23 24 (.fa 0 (.s 2)),U 23 25 (.ld none 0 (.s 24)),U 23 26 (.bin .eql (.s 25) (Q 13)),W 19 27 (.pick (.s 23) tt (.s 26)),V 28 (.pick (.m 19) (.s 27) ff),A 4 28,Z [1,2,9,10,11,12,15,16,17,20,21,22,23,24,25,26,27]]
def Cc:ae:=⟨2,[.tmp 4],
 (.seq YY
 (.seq VM
 .ret))⟩
abbrev ace:=Rg [C 4 ff,Z [4]]
abbrev acD:=Rg [B 10 0,P 11 .lss 10 0,A 12 11,U 12 13 (.mov (.s 0)),U 12 14 (.bin .gtr (.s 13) (Q 255)),V 15 (.pick (.m 12) tt (.s 14)),A 16 15,U 16 17 (.mov (.s 1)),U 16 18 (.len (.s 17)),U 16 19 (.bin .gtr (.s 18) (Q 8)),V 20 (.pick (.m 16) tt (.s 19)),Z [0,13,14,17,18,19]]
abbrev ZL:=Rg [C 4 ff]
abbrev abR:=Rg [A 21 1,V 22 (.len (.s 21)),C 23 (Q 0)]
abbrev acF:=Rg [J 24 .lss 23 22]
abbrev adl:=Rg [V 25 (.ia 1 (.s 21) (.s 23)),M 26 25,A 6 26]
abbrev abw:=Rg [C 7 (Q 40)]
abbrev aef:=Rg [A 27 6,V 28 (.len (.s 27)),C 29 (Q 0)]
abbrev ZY:=Rg [J 30 .lss 29 28]
abbrev abn:=Rg [V 31 (.ia 2 (.s 27) (.s 29)),V 32 (.ld (some 2) 0 (.m 31)),V 9 (.alloc [O,O]),Yd 2 9 32]
abbrev YT:=Rg [X 33 1 9,M 34 33,P 35 .lss 34 1,A 36 35,U 36 37 (.fa 1 (.s 9)),U 36 38 (.ld none 0 (.s 37)),U 36 39 (.mov (.s 7)),U 36 40 (.bin .gtr (.s 38) (.s 39)),V 41 (.pick (.m 36) tt (.s 40)),A 42 41,U 42 43 (.fa 0 (.s 9)),U 42 44 (.ld none 0 (.s 43)),U 42 45 (.bin .lss (.s 44) (Q 0)),V 46 (.pick (.m 42) tt (.s 45)),A 47 46,U 47 48 (.fa 0 (.s 9)),U 47 49 (.ld none 0 (.s 48)),U 47 50 (.bin .gtr (.s 49) (Q 11)),U 47 51 (.mov (.s 50)),W 51 52 (.fa 0 (.s 9)),W 51 53 (.ld none 0 (.s 52)),W 51 54 (.bin .neq (.s 53) (Q 13)),U 47 55 (.pick (.s 51) (.s 54) ff),V 56 (.pick (.m 47) tt (.s 55)),Z [37,38,39,40,43,44,45,48,49,50,51,52,53,54,55]]
abbrev WO:=Rg [C 4 ff]
abbrev YW:=Rg [A 57 7,X 58 1 9,M 59 58,L 60 .sub 57 59,A 7 60]
abbrev Ze:=Rg [P 61 .add 29 1,A 29 61]
def ph:VC:=(.seq ZY
 (.seq (.cond (.m 30)
 .skip
 (.seq (K [7,27,28,29]) (.exit 2)))
 (.seq (.block 3
 (.seq abn
 (.seq (.seq YT
 (.cond (.m 56)
 (.seq (.seq (K [7,21,22,23,27,28,29]) (F 9)) (.seq WO
 .ret))
 .skip))
 (.seq YW (F 9)))))
 Ze)))
abbrev VO:=Rg [P 62 .add 23 1,A 23 62]
def pE:VC:=(.seq acF
 (.seq (.cond (.m 24)
 .skip
 (.seq (K [21,22,23]) (.exit 0)))
 (.seq (.block 1
 (.seq adl
 (.seq abw
 (.seq aef
 (.block 2
 (.seq (.loop ph) (K [7,27,28,29])))))))
 VO)))
abbrev WW:=Rg [C 4 tt]
def Ei:ae:=⟨2,[.tmp 4],
 (.seq ace
 (.seq (.seq acD
 (.cond (.m 20)
 (.seq (K [1]) (.seq ZL
 .ret))
 .skip))
 (.seq (.seq abR
 (.block 0
 (.seq (.loop pE) (K [21,22,23]))))
 (.seq WW
 .ret))))⟩
abbrev P6:=Rg [C 4 (Q 0),C 5 (Q 0),C 6 (Q 0),Z [4,5,6]]
abbrev Pz:=Rg [H 13 pt [Q 12],A 12 13,E 14 12 true 0,E 15 12 false 1,V 7 (.alloc [O,O,.nl,.nl]),Yd 4 7 14,A 8 15,Z [8,12]]
abbrev Qn:=Rg [V 17 (.ld (some 4) 1 (.s 7)),A 18 0,A 19 1,H 20 xr [.m 17,.m 18,.m 19],A 16 20,E 21 16 false 0,E 22 16 false 1,E 23 16 false 2,A 9 21,A 5 22,A 6 23,Z [16]]
abbrev N8:=Rg [B 24 6,P 25 .neq 24 0]
abbrev OX:=Rg [A 26 6,C 4 (Q 0),C 5 (Q 0),A 6 26]
abbrev PM:=Rg [A 28 9,H 29 qT [Q 12,.m 28],A 27 29,E 30 27 true 0,E 31 27 false 1,A 10 30,A 11 31,Z [11,27]]
abbrev Oo:=Rg [A 32 10,V 33 (.ia 1 (.m 32) (Q 0)),M 34 33,A 35 5,A 4 34,A 5 35,C 6 (Q 0)]
def xi:ae:=⟨2,[.tmp 4,.tmp 5,.tmp 6],
 (.seq P6
 (.seq Pz
 (.seq (.seq Qn (F 7))
 (.seq (.seq N8
 (.cond (.m 25)
 (.seq (K [5,9]) (.seq OX
 .ret))
 (.seq (K [6]) .skip)))
 (.seq PM
 (.seq Oo
 .ret))))))⟩
abbrev L3:=Rg [C 5 (Q 0)]
abbrev Lz:=Rg [G 6 1,P 7 .eql 6 0]
abbrev Mh:=Rg [M 9 2,G 10 3,A 11 0,H 12 cB [.m 9,.m 10,.m 11],A 8 12,E 13 8 false 0,E 14 8 false 1,E 15 8 false 2,A 5 13,N (.st 1 (.m 3) (.m 14)),N (.st 1 (.m 1) (.m 15)),Z [8]]
def um:ae:=⟨4,[.tmp 5],
 (.seq L3
 (.seq (.seq Lz
 (.cond (.m 7)
 (.seq (K [5]) Mh)
 (.seq (K [0,1,2,3]) .skip)))
 .ret))⟩
abbrev aac:=Rg [V 3 (.box (.m 0)),C 6 (Q 0),C 7 (Q 0),C 8 (Q 0),Z [6,7,8]]
abbrev aaj:=Rg [V 14 (.ld (some 4) 0 (.s 3)),H 15 oM [.m 14],V 16 (.un .not (.m 15))]
abbrev aey:=Rg [C 6 (Q 0),C 7 (Q 0),C 8 (Q 8)]
abbrev aas:=Rg [C 9 (Q 0),C 10 (Q 0)]
abbrev ad7:=Rg [A 17 2,A 7 17]
abbrev acP:=Rg [A 18 10,P 19 .eql 18 0]
abbrev acU:=Rg [B 22 9,P 23 .gtr 22 9]
abbrev ad4:=Rg [C 6 (Q 0),C 7 (Q 0),C 8 (Q 8)]
abbrev adZ:=Rg [B 25 1,A 26 7,H 27 cB [.m 25,.m 26,Q 1],A 24 27,E 28 24 false 0,E 29 24 false 1,E 30 24 false 2,A 10 28,A 7 29,A 8 30,Z [24]]
abbrev adS:=Rg [B 31 8,P 32 .neq 31 0]
abbrev Zi:=Rg [A 33 8,C 6 (Q 0),C 7 (Q 0),A 8 33]
abbrev WH:=Rg [A 20 9,P 21 .add 20 1,A 9 21]
def lC:VC:=(.seq (.seq acP
 (.cond (.m 19)
 .skip
 (.exit 0)))
 (.seq (.block 1
 (.seq (.seq acU
 (.cond (.m 23)
 (.seq (.seq (K [1,7,9]) (F 3)) (.seq ad4
 .ret))
 .skip))
 (.seq adZ
 (.seq adS
 (.cond (.m 32)
 (.seq (.seq (K [1,7,9,10]) (F 3)) (.seq Zi
 .ret))
 (.seq (K [8]) .skip))))))
 WH))
abbrev Xy:=Rg [B 35 1,A 36 7,B 37 9,P 38 .sub 37 1,H 39 cB [.m 35,.m 36,.m 38],A 34 39,E 40 34 false 0,E 41 34 false 1,E 42 34 false 2,A 11 40,A 7 41,A 8 42,Z [34]]
abbrev Ye:=Rg [B 43 8,P 44 .neq 43 0]
abbrev Vj:=Rg [A 45 8,C 6 (Q 0),C 7 (Q 0),A 8 45]
abbrev Vd:=Rg [A 47 1,A 48 7,X 49 1 3,M 50 49,H 51 cB [.m 47,.m 48,.m 50],A 46 51,E 52 46 false 0,E 53 46 false 1,E 54 46 false 2,A 12 52,A 7 53,A 8 54,Z [46]]
abbrev W4:=Rg [B 55 8,P 56 .neq 55 0]
abbrev V9:=Rg [A 57 8,C 6 (Q 0),C 7 (Q 0),A 8 57]
abbrev V3:VC:=(.reg true [
 A 58 9,
 P 59 .sub 58 1,
 V 60 (.bin .shl (Q 1) (.m 59)),
 A 61 11,
 L 62 .add 60 61,
 P 63 .sub 62 1,
 X 64 1 3,
 M 65 64,
 L 66 .shl 63 65,
 A 67 12,
 L 68 .add 66 67,
 A 13 68])
abbrev DA:=Rg [B 69 13,X 70 2 3,M 71 70,V 72 (.len (.m 71)),L 73 .geq 69 72]
abbrev D0:=Rg [C 6 (Q 0),C 7 (Q 0),C 8 (Q 8)]
abbrev Dz:=Rg [X 74 2 3,M 75 74,A 76 13,V 77 (.ia 1 (.m 75) (.m 76)),M 78 77,A 79 7,A 6 78,A 7 79,C 8 (Q 0)]
def E3:ae:=⟨3,[.tmp 6,.tmp 7,.tmp 8],
 (.seq aac
 (.seq (.seq aaj
 (.cond (.m 16)
 (.seq (.seq (K [1,2]) (F 3)) (.seq aey
 .ret))
 .skip))
 (.seq aas
 (.seq (.seq ad7
 (.block 0
 (.seq (.loop lC) (K [10]))))
 (.seq Xy
 (.seq (.seq Ye
 (.cond (.m 44)
 (.seq (.seq (K [1,7,9,11]) (F 3)) (.seq Vj
 .ret))
 (.seq (K [8]) .skip)))
 (.seq Vd
 (.seq (.seq W4
 (.cond (.m 56)
 (.seq (.seq (K [7,9,11,12]) (F 3)) (.seq V9
 .ret))
 (.seq (K [8]) .skip)))
 (.seq V3
 (.seq (.seq DA
 (.cond (.m 73)
 (.seq (.seq (K [7,13]) (F 3)) (.seq D0
 .ret))
 .skip))
 (.seq (.seq Dz (F 3))
 .ret)))))))))))⟩
abbrev Tm:=Rg [V 4 (.mov (.c (.nl))),C 5 (Q 0),Z [4,5]]
abbrev UB:=Rg [A 9 0,H 10 ya [.m 9],A 8 10,E 11 8 true 0,E 12 8 false 1,V 6 (.alloc [O,O,O,O]),Yd 4 6 11,A 7 12,Z [8]]
abbrev Ti:=Rg [A 13 7,P 14 .neq 13 0,A 15 14,U 15 16 (.mov (.s 1)),U 15 17 (.bin .lss (.s 16) (Q 0)),V 18 (.pick (.m 15) tt (.s 17)),A 19 18,U 19 20 (.mov (.s 1)),U 19 21 (.ld (some 4) 0 (.s 6)),U 19 22 (.call fp [.s 21]),U 19 23 (.bin .geq (.s 20) (.s 22)),V 24 (.pick (.m 19) tt (.s 23)),Z [16,17,20,21,22,23]]
abbrev SX:=Rg [V 4 (.mov (.c (.nl))),C 5 (Q 2)]
abbrev S2:=Rg [V 25 (.ld (some 4) 1 (.s 6)),A 26 1,H 27 oQ [.m 25,.m 26],A 4 27,C 5 (Q 0)]
def zo:ae:=⟨2,[.tmp 4,.tmp 5],
 (.seq Tm
 (.seq UB
 (.seq (.seq Ti
 (.cond (.m 24)
 (.seq (.seq (K [1]) (F 6)) (.seq SX
 .ret))
 .skip))
 (.seq (.seq S2 (F 6))
 .ret))))⟩
abbrev Jb:=Rg [C 4 (Q 0),Z [4]]
abbrev IA:=Rg [B 7 0,V 8 (.nilck (.m 7)),V 9 (.fa 2 (.m 8)),M 10 9,P 11 .neq 10 0]
abbrev I6:=Rg [C 4 (Q 0)]
abbrev v8:=[B 13 0,V 14 (.nilck (.m 13)),V 15 (.fa 0 (.m 14)),M 16 15,B 17 0,V 18 (.nilck (.m 17)),V 19 (.fa 1 (.m 18)),M 20 19,A 21 1,H 22 cB [.m 16,.m 20,.m 21],A 12 22,E 23 12 false 0,E 24 12 false 1,E 25 12 false 2,A 4 23,A 5 24,A 6 25]
def vk:VC:=.regP (.range 17) [0,1,2,3,4,5,6,7,8,9,10,11,14,12,15,13,16] [] v8
abbrev ID:=Rg [B 26 0,B 27 6,V 28 (.nilck (.m 26)),V 29 (.fa 2 (.m 28)),N (.st 1 (.m 29) (.m 27))]
abbrev In:=Rg [A 30 6,P 31 .eql 30 0]
abbrev HB:=Rg [A 32 0,A 33 5,V 34 (.nilck (.m 32)),V 35 (.fa 1 (.m 34)),N (.st 1 (.m 35) (.m 33))]
abbrev If:=Rg [A 36 4,A 4 36]
def qf:ae:=⟨2,[.tmp 4],
 (.seq Jb
 (.seq (.seq IA
 (.cond (.m 11)
 (.seq (K [0,1]) (.seq I6
 .ret))
 .skip))
 (.seq (.seq vk (K [12]))
 (.seq (.seq ID
 (.seq In
 (.cond (.m 31)
 HB
 (.seq (K [0,5]) .skip))))
 (.seq If
 .ret)))))⟩
abbrev Ci:=Rg [C 2 (Q 0),Z [2]]
abbrev A9:=Rg [C 3 (Q 0)]
abbrev Cg:=Rg [B 4 0,V 5 (.calli jh [.m 4,Q 1]),P 6 .eql 5 1,A 7 6,W 7 8 (.mov (.s 0)),W 7 9 (.nilck (.s 8)),W 7 10 (.fa 2 (.s 9)),W 7 11 (.ld none 0 (.s 10)),W 7 12 (.bin .eql (.s 11) (Q 0)),V 13 (.pick (.m 7) (.s 12) ff),Z [8,9,10,11,12]]
abbrev BK:=Rg [A 14 3,P 15 .add 14 1,A 3 15]
abbrev Cn:=Rg [B 16 3,P 17 .gtr 16 8]
abbrev BR:=Rg [B 18 0,V 19 (.nilck (.m 18)),V 20 (.fa 2 (.m 19)),N (.st 1 (.m 20) (Q 8))]
def jT:VC:=(.seq (.seq Cg
 (.cond (.m 13)
 .skip
 (.exit 0)))
 (.block 1
 (.seq BK
 (.seq Cn
 (.cond (.m 17)
 BR
 .skip)))))
abbrev p9:=[B 21 3,P 22 .add 21 4,V 23 (.bin .shl (Q 1) (.m 22)),A 24 0,B 25 3,P 26 .add 25 4,V 27 (.calli jh [.m 24,.m 26]),L 28 .add 23 27,A 2 28]
def oy:VC:=.regP (.range 9) (.range 9) [] p9
def lM:ae:=⟨1,[.tmp 2],
 (.seq Ci
 (.seq A9
 (.seq (.block 0
 (.loop jT))
 (.seq (.seq oy (K [3]))
 .ret))))⟩
abbrev TJ:=Rg [M 5 1,P 6 .sub 5 1,A 4 6]
abbrev Ry:=Rg [B 7 4,P 8 .geq 7 0]
abbrev Tp:=Rg [B 11 0,G 12 2,B 13 4,L 14 .shr 12 13,P 15 .and 14 1,V 16 (.conv .u8 (.m 15)),V 17 (.callv (.m 11) [.m 16]),V 18 (.un .not (.m 17))]
abbrev Rz:=Rg [A 9 4,P 10 .sub 9 1,A 4 10]
def mC:VC:=(.seq (.seq Ry
 (.cond (.m 8)
 .skip
 (.seq (K [0,2,4]) (.exit 0))))
 (.seq (.block 1
 (.seq Tp
 (.cond (.m 18)
 (.seq (K [0,2,4]) .ret)
 .skip)))
 Rz))
def yM:ae:=⟨3,[],
 (.seq TJ
 (.block 0
 (.seq (.loop mC) (K [0,2,4]))))⟩
abbrev MF:=Rg [G 4 1,G 5 2,L 6 .geq 4 5]
abbrev Lc:=Rg [B 10 0,G 11 2,V 12 (.callv (.m 10) [.m 11]),V 13 (.un .not (.m 12))]
abbrev KB:=Rg [G 7 1,G 8 2,L 9 .sub 7 8,Yd 1 1 9]
def iq:VC:=(.seq (.seq MF
 (.cond (.m 6)
 .skip
 (.seq (K [2]) (.exit 0))))
 (.seq (.block 1
 (.seq Lc
 (.cond (.m 13)
 (.seq (K [0,1,2]) .ret)
 .skip)))
 KB))
abbrev Mz:=Rg [A 14 0,M 15 1,V 16 (.callv (.m 14) [.m 15]),Z [16]]
def u4:ae:=⟨3,[],
 (.seq (.block 0
 (.seq (.loop iq) (K [2])))
 Mz)⟩
abbrev Li:=Rg [C 3 (Q 0)]
abbrev Mc:=Rg [M 6 1,V 7 (.len (.s 6)),C 8 (Q 0)]
abbrev Lh:=Rg [J 9 .lss 8 7]
abbrev Nb:=Rg [V 10 (.ia 2 (.s 6) (.s 8)),V 11 (.ld (some 2) 0 (.m 10)),V 5 (.alloc [O,O]),Yd 2 5 11]
abbrev MG:=Rg [X 12 1 5,M 13 12,C 14 (Q 0)]
abbrev Lb:=Rg [J 15 .lss 14 13]
abbrev KE:=Rg [B 16 0,B 17 3,X 18 0 5,M 19 18,V 20 (.callv (.m 16) [.m 17,.m 19]),V 21 (.un .not (.m 20))]
abbrev KG:=Rg [A 22 3,P 23 .add 22 1,A 3 23]
abbrev MJ:=Rg [P 24 .add 14 1,A 14 24]
def fF:VC:=(.seq Lb
 (.seq (.cond (.m 15)
 .skip
 (.seq (.seq (K [13,14]) (F 5)) (.exit 2)))
 (.seq (.block 3
 (.seq (.seq KE
 (.cond (.m 21)
 (.seq (.seq (K [0,3,6,7,8,13,14]) (F 5)) .ret)
 .skip))
 KG))
 MJ)))
abbrev Ks:=Rg [P 25 .add 8 1,A 8 25]
def dX:VC:=(.seq Lh
 (.seq (.cond (.m 9)
 .skip
 (.seq (K [0,3,6,7,8]) (.exit 0)))
 (.seq (.block 1
 (.seq Nb
 (.seq MG
 (.block 2
 (.seq (.loop fF) (.seq (K [13,14]) (F 5)))))))
 Ks)))
def uf:ae:=⟨2,[],
 (.seq Li
 (.seq Mc
 (.block 0
 (.seq (.loop dX) (K [0,3,6,7,8])))))⟩
abbrev uD:=Rg [C 4 (Q 0),Z [4]]
abbrev tX:=Rg [B 6 0,V 7 (.len (.m 6)),C 8 (Q 0)]
abbrev uR:=Rg [J 9 .lss 8 7]
abbrev tQ:=Rg [B 10 8,A 5 10]
abbrev ut:=Rg [B 11 1,B 12 0,B 13 5,V 14 (.ia 1 (.m 12) (.m 13)),M 15 14,V 16 (.callv (.m 11) [.m 15])]
abbrev uF:=Rg [A 17 5,A 4 17]
abbrev tR:=Rg [P 18 .add 8 1,A 8 18]
def bC:VC:=(.seq uR
 (.seq (.cond (.m 9)
 .skip
 (.seq (K [0,1,7,8]) (.exit 0)))
 (.seq (.block 1
 (.seq tQ
 (.seq ut
 (.cond (.m 16)
 (.seq (K [0,1,7,8]) (.seq uF
 .ret))
 (.seq (K [5]) .skip)))))
 tR)))
abbrev uL:=Rg [C 4 (Q (-1))]
def eG:ae:=⟨2,[.tmp 4],
 (.seq uD
 (.seq (.seq tX
 (.block 0
 (.seq (.loop bC) (K [0,1,7,8]))))
 (.seq uL
 .ret)))⟩
abbrev Io:=Rg [V 3 (.box (.m 0)),C 4 ff,Z [4]]
abbrev It:VC:=(.reg true [
 V 5 (.ld (some 4) 0 (.m 1)),
 V 6 (.ld (some 5) 0 (.s 3)),
 H 7 uq [.m 5,.m 6],
 V 8 (.un .not (.m 7)),
 A 9 8,
 U 9 10 (.fa 3 (.s 3)),
 U 9 11 (.ld none 0 (.s 10)),
 U 9 12 (.ld none 0 (.s 2)),
 U 9 13 (.ia 5 (.s 12) (Q 0)),
 U 9 14 (.fa 3 (.s 13)),
 U 9 15 (.ld none 0 (.s 14)),
 U 9 16 (.binb true (.s 11) (.s 15)),
 V 17 (.pick (.s 9) tt (.s 16)),
 A 4 17])
def qi:ae:=⟨3,[.tmp 4],
 (.seq Io
 (.seq (.seq It (.seq (K [2,9,10,11,12,13,14,15,16]) (F 3)))
 .ret))⟩
abbrev M3:=Rg [V 2 (.box (.m 0)),V 3 (.box (.m 1)),C 4 ff,Z [4]]
abbrev LX:=Rg [V 6 (.ld (some 4) 1 (.s 2)),H 7 iL [.m 6],V 5 (.alloc [O,O,O,O,O]),Yd 5 5 7]
abbrev MD:VC:=(.reg true [
 X 8 0 3,
 M 9 8,
 P 10 .geq 9 0,
 A 11 10,
 W 11 12 (.fa 0 (.s 3)),
 W 11 13 (.ld none 0 (.s 12)),
 W 11 14 (.iarr 5 1 (.s 5) (Q 1)),
 W 11 15 (.ld none 0 (.s 14)),
 W 11 16 (.bin .shl (Q 1) (.s 15)),
 W 11 17 (.bin .lss (.s 13) (.s 16)),
 V 18 (.pick (.s 11) (.s 17) ff),
 A 19 18,
 W 19 20 (.fa 1 (.s 3)),
 W 19 21 (.ld none 0 (.s 20)),
 W 19 22 (.bin .geq (.s 21) (Q 0)),
 V 23 (.pick (.s 19) (.s 22) ff),
 A 24 23,
 W 24 25 (.fa 1 (.s 3)),
 W 24 26 (.ld none 0 (.s 25)),
 W 24 27 (.iarr 5 1 (.s 5) (Q 4)),
 W 24 28 (.ld none 0 (.s 27)),
 W 24 29 (.bin .leq (.s 26) (.s 28)),
 V 30 (.pick (.s 24) (.s 29) ff),
 A 31 30,
 W 31 32 (.fa 4 (.s 3)),
 W 31 33 (.ld none 0 (.s 32)),
 W 31 34 (.len (.s 33)),
 W 31 35 (.fa 1 (.s 3)),
 W 31 36 (.ld none 0 (.s 35)),
 W 31 37 (.bin .eql (.s 34) (.s 36)),
 V 38 (.pick (.s 31) (.s 37) ff),
 A 39 38,
 W 39 40 (.fa 1 (.s 3)),
 W 39 41 (.ld none 0 (.s 40)),
 W 39 42 (.bin .gtr (.s 41) (Q 0)),
 W 39 43 (.mov (.s 42)),
 U 43 44 (.fa 2 (.s 3)),
 U 43 45 (.ld none 0 (.s 44)),
 U 43 46 (.un .not (.s 45)),
 W 39 47 (.pick (.s 43) tt (.s 46)),
 V 48 (.pick (.s 39) (.s 47) ff),
 A 49 48,
 W 49 50 (.fa 4 (.s 3)),
 W 49 51 (.ld none 0 (.s 50)),
 W 49 52 (.fa 3 (.s 3)),
 W 49 53 (.ld none 0 (.s 52)),
 W 49 54 (.call jy [.s 53]),
 W 49 55 (.call kp [.s 51,.s 54]),
 V 56 (.pick (.s 49) (.s 55) ff),
 A 4 56])
def ve:ae:=⟨2,[.tmp 4],
 (.seq M3
 (.seq (.seq LX (F 2))
 (.seq (.seq MD (.seq (.seq (K [11,12,13,14,15,16,17,19,20,21,22,24,25,26,27,28,29,31,32,33,34,35,36,37,39,40,41,42,43,44,45,46,47,49,50,51,52,53,54,55]) (F 3)) (F 5)))
 .ret)))⟩
abbrev vw:=Rg [C 4 ff,Z [4]]
abbrev vK:=Rg [A 5 0,A 6 1,V 7 (.calli ke [.m 5,.m 6]),P 8 .geq 7 0,A 4 8]
def jc:ae:=⟨2,[.tmp 4],
 (.seq vw
 (.seq vK
 .ret))⟩
abbrev MV:=Rg [C 3 ff,Z [3]]
abbrev Ms:=Rg [B 4 0,G 5 1,V 6 (.un .neg (.m 5)),L 7 .lss 4 6,A 8 7,U 8 9 (.mov (.s 0)),U 8 10 (.ld none 0 (.s 1)),U 8 11 (.bin .geq (.s 9) (.s 10)),V 12 (.pick (.m 8) tt (.s 11)),A 3 12,Z [0,1,9,10,11]]
def uV:ae:=⟨2,[.tmp 3],
 (.seq MV
 (.seq Ms
 .ret))⟩
abbrev agK:=Rg [C 2 (Q 0),Z [2]]
abbrev agD:=Rg [A 3 0,P 4 .lss 3 5]
abbrev ahM:=Rg [C 2 (Q 4)]
abbrev agC:=Rg [C 2 (Q 2)]
def HC:ae:=⟨1,[.tmp 2],
 (.seq agK
 (.seq (.seq agD
 (.cond (.m 4)
 (.seq ahM
 .ret)
 .skip))
 (.seq agC
 .ret)))⟩
abbrev L5:=Rg [V 0 (.alloc [O,O,O,O,O,O,O,O,O,O,O,O,O])]
abbrev LH:=Rg [V 1 (.build [O,O,O,O,O,O,O,O,O,O,O,O,O] [(1,1,Q 1),(2,1,Q 1),(3,1,Q 2),(4,1,Q 2),(5,1,Q 4),(6,1,Q 4),(7,1,Q 7),(8,1,Q 7),(9,1,Q 12),(10,1,Q 12),(11,1,Q 8191)]),Yd 13 0 1]
def Zk:ae:=⟨0,[.cell 0 (some 13)],
 (.seq L5
 (.seq LH
 .ret))⟩
abbrev Sk:=Rg [C 3 ff,Z [3]]
abbrev UL:=Rg [B 4 0,G 5 1,L 6 .gtr 4 5,A 7 6,U 7 8 (.mov (.s 0)),U 7 9 (.ld none 0 (.s 1)),U 7 10 (.un .neg (.s 9)),U 7 11 (.bin .lss (.s 8) (.s 10)),V 12 (.pick (.m 7) tt (.s 11)),A 3 12,Z [0,1,8,9,10,11]]
def yL:ae:=⟨2,[.tmp 3],
 (.seq Sk
 (.seq UL
 .ret))⟩
abbrev aiY:=Rg [V 2 (.alloc [O,O,O,O]),C 3 (Q 0),Z [3]]
abbrev akj:=Rg [B 4 0,P 5 .lss 4 1,A 6 5,U 6 7 (.mov (.s 0)),U 6 8 (.bin .gtr (.s 7) (Q 12)),V 9 (.pick (.m 6) tt (.s 8)),Z [7,8]]
abbrev ale:=Rg [V 10 (.build [O,O,O,O] []),Yd 4 2 10,C 3 (Q 2)]
abbrev akm:=Rg [H 11 ajZ [],A 12 0,V 13 (.ix 13 4 true (.m 11) (.m 12)),Yd 4 2 13,C 3 (Q 0)]
def ary:ae:=⟨1,[.cell 2 (some 4),.tmp 3],
 (.seq aiY
 (.seq (.seq akj
 (.cond (.m 9)
 (.seq (K [0]) (.seq ale
 .ret))
 .skip))
 (.seq akm
 .ret)))⟩
abbrev JP:=Rg [V 1 (.box (.m 0)),C 2 (Q 0),Z [2]]
abbrev JY:=Rg [X 3 2 1,M 4 3,X 5 1 1,M 6 5,L 7 .sub 4 6,P 8 .add 7 1,A 2 8]
def rL:ae:=⟨1,[.tmp 2],
 (.seq JP
 (.seq (.seq JY (F 1))
 .ret))⟩
abbrev W3:=Rg [V 1 (.box (.m 0)),C 2 ff,Z [2]]
abbrev Wm:=Rg [X 10 0 1,M 11 10,H 12 ya [.m 11],A 9 12,E 13 9 true 0,E 14 9 false 1,V 3 (.alloc [O,O,O,O]),Yd 4 3 13,A 4 14,Z [9]]
abbrev V5:VC:=(.reg true [
 A 15 4,
 P 16 .neq 15 0,
 A 17 16,
 U 17 18 (.fa 1 (.s 1)),
 U 17 19 (.ld none 0 (.s 18)),
 U 17 20 (.fa 3 (.s 3)),
 U 17 21 (.ld none 0 (.s 20)),
 U 17 22 (.bin .neq (.s 19) (.s 21)),
 V 23 (.pick (.s 17) tt (.s 22)),
 A 24 23,
 U 24 25 (.fa 2 (.s 1)),
 U 24 26 (.ld none 0 (.s 25)),
 U 24 27 (.len (.s 26)),
 U 24 28 (.ld (some 4) 0 (.s 3)),
 U 24 29 (.call fp [.s 28]),
 U 24 30 (.bin .neq (.s 27) (.s 29)),
 V 31 (.pick (.s 24) tt (.s 30)),
 A 32 31,
 U 32 33 (.fa 3 (.s 1)),
 U 32 34 (.ld none 0 (.s 33)),
 U 32 35 (.len (.s 34)),
 U 32 36 (.ld (some 4) 0 (.s 3)),
 U 32 37 (.call fp [.s 36]),
 U 32 38 (.bin .neq (.s 35) (.s 37)),
 V 39 (.pick (.s 32) tt (.s 38))])
abbrev Vg:=Rg [C 2 ff]
def uU:=Rg [V 40 (.ld (some 4) 1 (.s 3)),H 41 dG [.m 40],V 5 (.alloc [O8,O8,O8,O8,O8,O8,O8,O8,O8,O8,O8,O8,O8,O8,O8,O8,O8,O8,O8,O8,O8,O8,O8,O8,O8,O8,O8,O8,O8,O8,O8,O8,O8,O8,O8,O8,O8,O8,O8,O8,O8,O8,O8,O8,O8,O8,O8,O8,O8,O8,O8,O8,O8,O8,O8,O8,O8,O8,O8,O8,O8,O8,O8,O8,O8,O8,O8,O8,O8,O8,O8,O8,O8,O8,O8,O8,O8,O8,O8,O8,O8,O8,O8,O8,O8,O8,O8,O8,O8,O8,O8,O8,O8,O8,O8,O8,O8,O8,O8,O8,O8,O8,O8,O8,O8,O8,O8,O8,O8,O8,O8,O8,O8,O8,O8,O8,O8,O8,O8,O8,O8,O8,O8,O8,O8,O8,O8,O8,O8,O8,O8,O8,O8,O8,O8,O8,O8,O8,O8,O8,O8,O8,O8,O8,O8,O8,O8,O8,O8,O8,O8,O8,O8,O8,O8,O8,O8,O8,O8,O8,O8,O8,O8,O8,O8,O8,O8,O8,O8,O8,O8,O8,O8,O8,O8,O8,O8,O8,O8,O8,O8,O8,O8,O8,O8,O8,O8,O8,O8,O8,O8,O8,O8,O8,O8,O8,O8,O8,O8,O8,O8,O8,O8,O8,O8,O8,O8,O8,O8,O8,O8,O8,O8,O8,O8,O8,O8,O8,O8,O8,O8,O8,O8,O8,O8,O8,O8,O8,O8,O8,O8,O8,O8,O8,O8,O8,O8,O8,O8,O8,O8,O8,O8,O8,O8,O8,O8,O8,O8,O8,O8,O8,O8,O8,O8,O8,O8,O8,O8,O8,O8,O8,O8,O8,O8,O8,O8,O8,O8,O8,O8,O8,O8,O8,O8,O8,O8,O8,O8,O8,O8,O8,O8,O8,O8,O8,O8,O8,O8]),Yd 289 5 41]
abbrev XN:=Rg [X 42 2 1,M 43 42,V 44 (.len (.s 43)),C 45 (Q 0)]
abbrev VU:=Rg [J 46 .lss 45 44]
abbrev Zh:=Rg [B 47 45,V 48 (.ia 1 (.s 43) (.s 45)),M 49 48,A 6 47,A 7 49]
abbrev XZ:=Rg [B 50 7,P 51 .lss 50 0,A 52 51,U 52 53 (.mov (.s 7)),U 52 54 (.fa 3 (.s 1)),U 52 55 (.ld none 0 (.s 54)),U 52 56 (.len (.s 55)),U 52 57 (.bin .geq (.s 53) (.s 56)),V 58 (.pick (.m 52) tt (.s 57)),A 59 58,U 59 60 (.fa 3 (.s 1)),U 59 61 (.ld none 0 (.s 60)),U 59 62 (.mov (.s 7)),U 59 63 (.ia 1 (.s 61) (.s 62)),U 59 64 (.ld none 0 (.s 63)),U 59 65 (.mov (.s 6)),U 59 66 (.bin .neq (.s 64) (.s 65)),V 67 (.pick (.m 59) tt (.s 66)),Z [53,54,55,56,57,60,61,62,63,64,65,66]]
abbrev Xn:=Rg [C 2 ff]
abbrev SD:=Rg [B 68 6,P 69 .eql 68 0]
abbrev RX:=Rg [X 70 2 1,M 71 70,A 72 6,P 73 .sub 72 1,V 74 (.ia 1 (.m 71) (.m 73)),M 75 74,A 8 75]
abbrev Uk:VC:=(.reg true [
 B 76 8,
 V 77 (.iarr 289 1 (.s 5) (.m 76)),
 M 78 77,
 B 79 7,
 V 80 (.iarr 289 1 (.s 5) (.m 79)),
 M 81 80,
 L 82 .gtr 78 81,
 A 83 82,
 U 83 84 (.mov (.s 8)),
 U 83 85 (.iarr 289 1 (.s 5) (.s 84)),
 U 83 86 (.ld none 0 (.s 85)),
 U 83 87 (.mov (.s 7)),
 U 83 88 (.iarr 289 1 (.s 5) (.s 87)),
 U 83 89 (.ld none 0 (.s 88)),
 U 83 90 (.bin .eql (.s 86) (.s 89)),
 U 83 91 (.mov (.s 90)),
 W 91 92 (.mov (.s 8)),
 W 91 93 (.mov (.s 7)),
 W 91 94 (.bin .gtr (.s 92) (.s 93)),
 U 83 95 (.pick (.s 91) (.s 94) ff),
 V 96 (.pick (.s 83) tt (.s 95))])
abbrev T7:=Rg [C 2 ff]
abbrev Ui:=Rg [P 97 .add 45 1,A 45 97]
def nK:VC:=(.seq VU
 (.seq (.cond (.m 46)
 .skip
 (.seq (.seq (.seq (K [43,44,45]) (F 1)) (F 5)) (.exit 0)))
 (.seq (.block 1
 (.seq Zh
 (.seq (.seq XZ
 (.cond (.m 67)
 (.seq (.seq (.seq (K [6,7,43,44,45]) (F 1)) (F 5)) (.seq Xn
 .ret))
 .skip))
 (.seq (.seq SD
 (.cond (.m 69)
 (.seq (K [6,7]) (.exit 1))
 .skip))
 (.seq RX
 (.seq (.seq Uk (K [7,8,83,84,85,86,87,88,89,90,91,92,93,94,95]))
 (.cond (.m 96)
 (.seq (.seq (.seq (K [43,44,45]) (F 1)) (F 5)) (.seq T7
 .ret))
 .skip)))))))
 Ui)))
abbrev Sd:=Rg [C 2 tt]
def Cb:ae:=⟨1,[.tmp 2],
 (.seq W3
 (.seq Wm
 (.seq (.seq (.seq V5 (K [17,18,19,20,21,22,24,25,26,27,28,29,30,32,33,34,35,36,37,38]))
 (.cond (.m 39)
 (.seq (.seq (F 1) (F 3)) (.seq Vg
 .ret))
 .skip))
 (.seq (.seq uU (F 3))
 (.seq (.seq XN
 (.block 0
 (.seq (.loop nK) (.seq (.seq (K [43,44,45]) (F 1)) (F 5)))))
 (.seq Sd
 .ret))))))⟩
abbrev En:=Rg [V 4 (.mov (.c (.nl))),Z [4]]
abbrev ED:=Rg [B 5 1,P 6 .lss 5 0]
abbrev Et:=Rg [V 7 (.bad ),N (.bad )]
abbrev Eb:=Rg [A 8 1,B 9 0,V 10 (.cap (.m 9)),B 11 0,V 12 (.len (.m 11)),L 13 .sub 10 12,L 14 .sub 8 13,A 1 14]
abbrev Fl:=Rg [B 15 1,P 16 .gtr 15 0]
abbrev EU:=Rg [B 17 0,B 18 0,V 19 (.cap (.m 18)),V 20 (.slice 1 (.m 17) none (some (.m 19)) none),A 21 1,⟨some 22,none,.appz [.int .u8 0] (.m 20) (.m 21),[(0,0)]⟩,A 23 0,V 24 (.len (.m 23)),V 25 (.slice 1 (.m 22) none (some (.m 24)) none),A 0 25]
abbrev Fm:=Rg [A 26 0,A 4 26]
def nA:ae:=⟨2,[.tmp 4],
 (.seq En
 (.seq (.seq ED
 (.cond (.m 6)
 Et
 .skip))
 (.seq (.seq Eb
 (.seq Fl
 (.cond (.m 16)
 EU
 (.seq (K [1]) .skip))))
 (.seq Fm
 .ret))))⟩
abbrev IE:=Rg [C 2 (Q 0)]
abbrev I5:=Rg [B 3 0,V 4 (.bin .geq (.m 3) (.c (.d (.int .u32 65536))))]
abbrev Hr:=Rg [A 5 0,V 6 (.bin .shr (.m 5) (.c (.d (.int .u64 16)))),A 0 6]
abbrev HI:=Rg [C 2 (Q 16)]
abbrev IN:=Rg [B 7 0,V 8 (.bin .geq (.m 7) (.c (.d (.int .u32 256))))]
abbrev Iy:=Rg [A 9 0,V 10 (.bin .shr (.m 9) (.c (.d (.int .u64 8)))),A 0 10]
abbrev HP:=Rg [A 11 2,P 12 .add 11 8,A 2 12]
abbrev IS:=Rg [A 13 2,A 14 0,V 15 (.conv .u8 (.m 14)),V 16 (.ixs (.c (.d (.str [0,1,2,2,3,3,3,3,4,4,4,4,4,4,4,4,5,5,5,5,5,5,5,5,5,5,5,5,5,5,5,5,6,6,6,6,6,6,6,6,6,6,6,6,6,6,6,6,6,6,6,6,6,6,6,6,6,6,6,6,6,6,6,6,7,7,7,7,7,7,7,7,7,7,7,7,7,7,7,7,7,7,7,7,7,7,7,7,7,7,7,7,7,7,7,7,7,7,7,7,7,7,7,7,7,7,7,7,7,7,7,7,7,7,7,7,7,7,7,7,7,7,7,7,7,7,7,7,8,8,8,8,8,8,8,8,8,8,8,8,8,8,8,8,8,8,8,8,8,8,8,8,8,8,8,8,8,8,8,8,8,8,8,8,8,8,8,8,8,8,8,8,8,8,8,8,8,8,8,8,8,8,8,8,8,8,8,8,8,8,8,8,8,8,8,8,8,8,8,8,8,8,8,8,8,8,8,8,8,8,8,8,8,8,8,8,8,8,8,8,8,8,8,8,8,8,8,8,8,8,8,8,8,8,8,8,8,8,8,8,8,8,8,8,8,8,8,8,8,8,8,8,8,8,8,8]))) (.m 15)),V 17 (.conv .i64 (.m 16)),L 18 .add 13 17,A 2 18]
def PU:ae:=⟨1,[.tmp 2],
 (.seq IE
 (.seq (.seq I5
 (.cond (.m 4)
 (.seq (K [2]) (.seq Hr
 HI))
 .skip))
 (.seq (.seq IN
 (.cond (.m 8)
 (.seq Iy
 HP)
 .skip))
 (.seq IS
 .ret))))⟩
abbrev IH:=Rg [C 2 (Q 0)]
abbrev HG:=Rg [B 3 0,V 4 (.bin .geq (.m 3) (.c (.d (.int .u64 4294967296))))]
abbrev Ic:=Rg [A 5 0,V 6 (.bin .shr (.m 5) (.c (.d (.int .u64 32)))),A 0 6]
abbrev Jg:=Rg [C 2 (Q 32)]
abbrev Iq:=Rg [B 7 0,V 8 (.bin .geq (.m 7) (.c (.d (.int .u64 65536))))]
abbrev HY:=Rg [A 9 0,V 10 (.bin .shr (.m 9) (.c (.d (.int .u64 16)))),A 0 10]
abbrev IL:=Rg [A 11 2,P 12 .add 11 16,A 2 12]
abbrev Ip:=Rg [B 13 0,V 14 (.bin .geq (.m 13) (.c (.d (.int .u64 256))))]
abbrev HE:=Rg [A 15 0,V 16 (.bin .shr (.m 15) (.c (.d (.int .u64 8)))),A 0 16]
abbrev H1:=Rg [A 17 2,P 18 .add 17 8,A 2 18]
abbrev Fx:=Rg [A 19 2,A 20 0,V 21 (.conv .u8 (.m 20)),V 22 (.ixs (.c (.d (.str [0,1,2,2,3,3,3,3,4,4,4,4,4,4,4,4,5,5,5,5,5,5,5,5,5,5,5,5,5,5,5,5,6,6,6,6,6,6,6,6,6,6,6,6,6,6,6,6,6,6,6,6,6,6,6,6,6,6,6,6,6,6,6,6,7,7,7,7,7,7,7,7,7,7,7,7,7,7,7,7,7,7,7,7,7,7,7,7,7,7,7,7,7,7,7,7,7,7,7,7,7,7,7,7,7,7,7,7,7,7,7,7,7,7,7,7,7,7,7,7,7,7,7,7,7,7,7,7,8,8,8,8,8,8,8,8,8,8,8,8,8,8,8,8,8,8,8,8,8,8,8,8,8,8,8,8,8,8,8,8,8,8,8,8,8,8,8,8,8,8,8,8,8,8,8,8,8,8,8,8,8,8,8,8,8,8,8,8,8,8,8,8,8,8,8,8,8,8,8,8,8,8,8,8,8,8,8,8,8,8,8,8,8,8,8,8,8,8,8,8,8,8,8,8,8,8,8,8,8,8,8,8,8,8,8,8,8,8,8,8,8,8,8,8,8,8,8,8,8,8,8,8,8,8,8,8]))) (.m 21)),V 23 (.conv .i64 (.m 22)),L 24 .add 19 23,A 2 24]
def qn:ae:=⟨1,[.tmp 2],
 (.seq IH
 (.seq (.seq HG
 (.cond (.m 4)
 (.seq (K [2]) (.seq Ic
 Jg))
 .skip))
 (.seq (.seq Iq
 (.cond (.m 8)
 (.seq HY
 IL)
 .skip))
 (.seq (.seq Ip
 (.cond (.m 14)
 (.seq HE
 H1)
 .skip))
 (.seq Fx
 .ret)))))⟩
abbrev Mj:=Rg [V 4 (.mov (.c (.d (.int .u64 0)))),V 5 (.mov (.c (.d (.int .u64 0)))),Z [4,5]]
abbrev KH:=Rg [A 11 0,V 12 (.conv .u32 (.m 11)),A 13 1,V 14 (.conv .u32 (.m 13)),H 15 PH [.m 12,.m 14],A 10 15,E 16 10 false 0,E 17 10 false 1,A 6 16,A 7 17,Z [10]]
abbrev Lu:=Rg [A 18 6,V 19 (.conv .u64 (.m 18)),A 20 7,V 21 (.conv .u64 (.m 20)),A 4 19,A 5 21]
abbrev MR:=Rg [A 23 0,A 24 1,H 25 QD [.m 23,.m 24],A 22 25,E 26 22 false 0,E 27 22 false 1,A 8 26,A 9 27,Z [22]]
abbrev Kp:=Rg [A 28 8,A 29 9,A 4 28,A 5 29]
def Vz:ae:=⟨2,[.tmp 4,.tmp 5],
 (.seq Mj
 (.seq (.cond ff
 (.seq KH
 (.seq Lu
 .ret))
 .skip)
 (.seq MR
 (.seq Kp
 .ret))))⟩
abbrev JO:=Rg [V 1 (.box (.m 0)),C 2 (Q 0),Z [2]]
abbrev J7:=Rg [C 3 (Q 1)]
abbrev JV:=Rg [X 4 0 1,M 5 4,C 6 (Q 0)]
abbrev J9:=Rg [J 7 .lss 6 5]
abbrev J0:=Rg [A 8 3,V 9 (.ld (some 4) 0 (.s 1)),H 10 gY [.m 9],L 11 .mul 8 10,A 3 11]
abbrev JU:=Rg [P 12 .add 6 1,A 6 12]
def JL:VC:=(.seq J9
 (.seq (.cond (.m 7)
 .skip
 (.seq (.seq (K [5,6]) (F 1)) (.exit 0)))
 (.seq (.block 1
 J0)
 JU)))
abbrev J6:=Rg [A 13 3,A 2 13]
def Up:ae:=⟨1,[.tmp 2],
 (.seq JO
 (.seq J7
 (.seq (.seq JV
 (.block 0
 (.seq (.loop JL) (.seq (K [5,6]) (F 1)))))
 (.seq J6
 .ret))))⟩
def mi:=Rg [V 1 (.box (.m 0)),V 2 (.alloc [O8,O8,O8,O8,O8,O8,O8,O8,O8,O8,O8,O8,O8,O8,O8,O8,O8,O8,O8,O8,O8,O8,O8,O8,O8,O8,O8,O8,O8,O8,O8,O8,O8,O8,O8,O8,O8,O8,O8,O8,O8,O8,O8,O8,O8,O8,O8,O8,O8,O8,O8,O8,O8,O8,O8,O8,O8,O8,O8,O8,O8,O8,O8,O8,O8,O8,O8,O8,O8,O8,O8,O8,O8,O8,O8,O8,O8,O8,O8,O8,O8,O8,O8,O8,O8,O8,O8,O8,O8,O8,O8,O8,O8,O8,O8,O8,O8,O8,O8,O8,O8,O8,O8,O8,O8,O8,O8,O8,O8,O8,O8,O8,O8,O8,O8,O8,O8,O8,O8,O8,O8,O8,O8,O8,O8,O8,O8,O8,O8,O8,O8,O8,O8,O8,O8,O8,O8,O8,O8,O8,O8,O8,O8,O8,O8,O8,O8,O8,O8,O8,O8,O8,O8,O8,O8,O8,O8,O8,O8,O8,O8,O8,O8,O8,O8,O8,O8,O8,O8,O8,O8,O8,O8,O8,O8,O8,O8,O8,O8,O8,O8,O8,O8,O8,O8,O8,O8,O8,O8,O8,O8,O8,O8,O8,O8,O8,O8,O8,O8,O8,O8,O8,O8,O8,O8,O8,O8,O8,O8,O8,O8,O8,O8,O8,O8,O8,O8,O8,O8,O8,O8,O8,O8,O8,O8,O8,O8,O8,O8,O8,O8,O8,O8,O8,O8,O8,O8,O8,O8,O8,O8,O8,O8,O8,O8,O8,O8,O8,O8,O8,O8,O8,O8,O8,O8,O8,O8,O8,O8,O8,O8,O8,O8,O8,O8,O8,O8,O8,O8,O8,O8,O8,O8,O8,O8,O8,O8,O8,O8,O8,O8,O8,O8,O8,O8,O8,O8,O8,O8])]
abbrev HL:=Rg [V 3 (.alloc [O,O,O,O])]
abbrev IT:=Rg [X 10 0 1,M 11 10,C 12 (Q 0)]
abbrev Hw:=Rg [J 13 .lss 12 11]
abbrev Hn:=Rg [B 14 12,A 4 14]
abbrev Je:=Rg [A 15 4,X 16 1 1,M 17 16,V 18 (.iarr 4 1 (.s 3) (.m 15)),N (.st 1 (.m 18) (.m 17))]
abbrev IF:=Rg [P 19 .add 12 1,A 12 19]
def jo:VC:=(.seq Hw
 (.seq (.cond (.m 13)
 .skip
 (.seq (K [11,12]) (.exit 0)))
 (.seq (.block 1
 (.seq Hn
 Je))
 IF)))
abbrev H3:=Rg [V 20 (.ld (some 4) 0 (.s 1)),H 21 fp [.m 20],C 22 (Q 0)]
abbrev Id:=Rg [J 23 .lss 22 21]
abbrev Im:=Rg [B 24 22,A 5 24]
abbrev Ge:=Rg [C 6 (Q 0)]
abbrev Hb:=Rg [X 25 0 1,M 26 25,V 27 (.slarr 4 (.s 3) none (some (.m 26)) none),V 28 (.len (.s 27)),C 29 (Q 0)]
abbrev Gu:=Rg [J 30 .lss 29 28]
abbrev GX:=Rg [V 31 (.ia 1 (.s 27) (.s 29)),M 32 31,A 8 32]
abbrev F4:=Rg [A 33 6,B 34 8,A 35 8,V 36 (.un .neg (.m 35)),V 37 (.minmax true [.m 34,.m 36]),L 38 .add 33 37,A 6 38]
abbrev Gz:=Rg [P 39 .add 29 1,A 29 39]
def jq:VC:=(.seq Gu
 (.seq (.cond (.m 30)
 .skip
 (.seq (K [27,28,29]) (.exit 4)))
 (.seq (.block 5
 (.seq GX
 F4))
 Gz)))
abbrev Fv:=Rg [A 40 5,A 41 6,V 42 (.conv .u8 (.m 41)),V 43 (.iarr 289 1 (.s 2) (.m 40)),N (.st 1 (.m 43) (.m 42))]
abbrev Fw:=Rg [X 44 0 1,M 45 44,P 46 .sub 45 1,A 9 46]
abbrev FA:=Rg [B 47 9,P 48 .geq 47 0]
abbrev GE:=Rg [B 51 9,V 52 (.iarr 4 1 (.s 3) (.s 51)),M 53 52,P 54 .add 53 1,V 55 (.iarr 4 1 (.s 3) (.m 51)),N (.st 1 (.m 55) (.m 54))]
abbrev F8:VC:=(.reg true [
 B 56 9,
 V 57 (.iarr 4 1 (.s 3) (.m 56)),
 M 58 57,
 X 59 2 1,
 M 60 59,
 L 61 .leq 58 60])
abbrev FY:=Rg [B 62 9,X 63 1 1,M 64 63,V 65 (.iarr 4 1 (.s 3) (.m 62)),N (.st 1 (.m 65) (.m 64))]
abbrev G8:=Rg [A 49 9,P 50 .sub 49 1,A 9 50]
def jn:VC:=(.seq (.seq FA
 (.cond (.m 48)
 .skip
 (.seq (K [9]) (.exit 6))))
 (.seq (.block 7
 (.seq (.seq GE
 (.seq F8
 (.cond (.m 61)
 (.seq (K [9]) (.exit 6))
 .skip)))
 FY))
 G8))
abbrev F6:=Rg [P 66 .add 22 1,A 22 66]
def jl:VC:=(.seq Id
 (.seq (.cond (.m 23)
 .skip
 (.seq (.seq (K [3,21,22]) (F 1)) (.exit 2)))
 (.seq (.block 3
 (.seq Im
 (.seq Ge
 (.seq (.seq Hb
 (.block 4
 (.seq (.loop jq) (K [27,28,29]))))
 (.seq Fv
 (.seq Fw
 (.block 6
 (.seq (.loop jn) (K [9])))))))))
 F6)))
def qj:ae:=⟨1,[.cell 2 (some 289)],
 (.seq mi
 (.seq HL
 (.seq (.seq IT
 (.block 0
 (.seq (.loop jo) (K [11,12]))))
 (.seq (.seq H3
 (.block 2
 (.seq (.loop jl) (.seq (K [3,21,22]) (F 1)))))
 .ret))))⟩
abbrev tw:=Rg [B 4 0,A 5 0,⟨some 6,none,.len (.m 5),[(0,0)]⟩,A 7 1,V 8 (.calli jb [.m 4,.m 6,.m 7]),Z [8]]
def gS:ae:=⟨2,[],
 tw⟩
abbrev XT:=Rg [C 5 (Q 0),Z [5]]
abbrev Y9:VC:=(.reg true [
 A 6 0,
 V 7 (.iarr 289 1 (.s 2) (.m 6)),
 M 8 7,
 A 9 1,
 V 10 (.iarr 289 1 (.s 2) (.m 9)),
 M 11 10,
 H 12 nB [.m 8,.m 11],
 A 5 12])
def Ca:ae:=⟨3,[.tmp 5],
 (.seq XT
 (.seq (.seq Y9 (K [2]))
 .ret))⟩
abbrev EB:=Rg [C 4 (Q 0),Z [4]]
abbrev EL:=Rg [B 7 0,H 8 kZ [.m 7],A 5 8]
abbrev El:=Rg [B 9 1,H 10 kZ [.m 9],A 6 10]
abbrev Ew:=Rg [A 11 5]
abbrev Fn:=Rg [A 12 6]
abbrev EO:=Rg [C 4 (Q 0)]
abbrev D7:=Rg [C 4 (Q (-1))]
abbrev Es:=Rg [A 13 6]
abbrev Ez:=Rg [C 4 (Q 1)]
abbrev Fc:=Rg [B 14 0,B 15 1,L 16 .lss 14 15]
abbrev C8:=Rg [C 4 (Q (-1))]
abbrev C4:=Rg [A 17 0,A 18 1,L 19 .gtr 17 18]
abbrev Dj:=Rg [C 4 (Q 1)]
abbrev Dp:=Rg [C 4 (Q 0)]
def nE:ae:=⟨2,[.tmp 4],
 (.seq EB
 (.seq EL
 (.seq El
 (.seq (.seq Ew
 (.cond (.m 11)
 (.seq (K [0,1]) (.seq (.seq Fn
 (.cond (.m 12)
 (.seq EO
 .ret)
 .skip))
 (.seq D7
 .ret)))
 .skip))
 (.seq (.seq Es
 (.cond (.m 13)
 (.seq (K [0,1]) (.seq Ez
 .ret))
 .skip))
 (.seq (.seq Fc
 (.cond (.m 16)
 (.seq (K [0,1]) (.seq C8
 .ret))
 .skip))
 (.seq (.seq C4
 (.cond (.m 19)
 (.seq Dj
 .ret)
 .skip))
 (.seq Dp
 .ret))))))))⟩
abbrev vP:=Rg [C 4 (Q 0),Z [4]]
abbrev vF:=Rg [B 6 0,V 7 (.len (.m 6)),C 8 (Q 0)]
abbrev vE:=Rg [J 9 .lss 8 7]
abbrev vH:=Rg [B 10 8,A 5 10]
abbrev vB:=Rg [B 11 1,B 12 0,B 13 5,V 14 (.ia 5 (.m 12) (.m 13)),V 15 (.ld (some 5) 0 (.m 14)),V 16 (.callv (.m 11) [.m 15])]
abbrev vu:=Rg [A 17 5,A 4 17]
abbrev vC:=Rg [P 18 .add 8 1,A 8 18]
def bG:VC:=(.seq vE
 (.seq (.cond (.m 9)
 .skip
 (.seq (K [0,1,7,8]) (.exit 0)))
 (.seq (.block 1
 (.seq vH
 (.seq vB
 (.cond (.m 16)
 (.seq (K [0,1,7,8]) (.seq vu
 .ret))
 (.seq (K [5]) .skip)))))
 vC)))
abbrev vx:=Rg [C 4 (Q (-1))]
def fg:ae:=⟨2,[.tmp 4],
 (.seq vP
 (.seq (.seq vF
 (.block 0
 (.seq (.loop bG) (K [0,1,7,8]))))
 (.seq vx
 .ret)))⟩
abbrev M9:=Rg [C 4 ff,Z [4]]
abbrev L8:=Rg [B 5 0,M 6 1,L 7 .lss 5 6,A 8 7,U 8 9 (.mov (.s 0)),U 8 10 (.ld none 0 (.s 2)),U 8 11 (.bin .gtr (.s 9) (.s 10)),V 12 (.pick (.m 8) tt (.s 11)),A 4 12,Z [0,2,9,10,11]]
def u5:ae:=⟨3,[.tmp 4],
 (.seq M9
 (.seq L8
 .ret))⟩
abbrev GJ:=Rg [V 2 (.box (.m 0)),V 4 (.mov (.c (.nl))),Z [4]]
abbrev Gk:=Rg [X 7 0 2,M 8 7,⟨some 9,none,.mkslice [.int .i64 0] (.s 8) (.s 8),[(0,0)]⟩,A 5 9,Z [8]]
abbrev GR:=Rg [X 10 0 2,M 11 10,P 12 .sub 11 1,A 6 12]
abbrev Gf:=Rg [B 13 6,P 14 .geq 13 0]
abbrev ua:=[B 17 5,B 18 6,B 19 1,V 20 (.ld (some 4) 0 (.s 2)),H 21 gY [.m 20],L 22 .rem 19 21,X 23 1 2,M 24 23,L 25 .add 22 24,B 26 1,V 27 (.ld (some 4) 0 (.s 2)),H 28 gY [.m 27],L 29 .quo 26 28,V 30 (.ia 1 (.m 17) (.m 18)),N (.st 1 (.m 30) (.m 25)),A 1 29]
def sR:VC:=.regP (.range 16) [0,1,2,3,4,5,6,7,8,10,11,13,14,9,12,15] [] ua
abbrev GK:=Rg [A 15 6,P 16 .sub 15 1,A 6 16]
def iR:VC:=(.seq (.seq Gf
 (.cond (.m 14)
 .skip
 (.seq (.seq (K [1,6]) (F 2)) (.exit 0))))
 (.seq (.block 1
 sR)
 GK))
abbrev Fs:=Rg [A 31 5,A 4 31]
def oC:ae:=⟨2,[.tmp 4],
 (.seq GJ
 (.seq Gk
 (.seq (.seq GR
 (.block 0
 (.seq (.loop iR) (.seq (K [1,6]) (F 2)))))
 (.seq Fs
 .ret))))⟩
abbrev za:=Rg [C 4 (Q 0),Z [4]]
abbrev zO:=Rg [B 6 0,V 7 (.len (.m 6)),C 8 (Q 0)]
abbrev yZ:=Rg [J 9 .lss 8 7]
abbrev yW:=Rg [B 10 8,A 5 10]
abbrev zW:=Rg [B 11 1,B 12 0,B 13 5,V 14 (.ia 1 (.m 12) (.m 13)),M 15 14,V 16 (.callv (.m 11) [.m 15])]
abbrev zC:=Rg [A 17 5,A 4 17]
abbrev zE:=Rg [P 18 .add 8 1,A 8 18]
def bS:VC:=(.seq yZ
 (.seq (.cond (.m 9)
 .skip
 (.seq (K [0,1,7,8]) (.exit 0)))
 (.seq (.block 1
 (.seq yW
 (.seq zW
 (.cond (.m 16)
 (.seq (K [0,1,7,8]) (.seq zC
 .ret))
 (.seq (K [5]) .skip)))))
 zE)))
abbrev ze:=Rg [C 4 (Q (-1))]
def gK:ae:=⟨2,[.tmp 4],
 (.seq za
 (.seq (.seq zO
 (.block 0
 (.seq (.loop bS) (K [0,1,7,8]))))
 (.seq ze
 .ret)))⟩
abbrev XG:=Rg [V 0 (.alloc [O,O,O,O,O,O,O,O,O,O,O,O,O,O,O,O,O,O,O,O,O,O,O,O,O,O,O,O,O,O,O,O,O,O,O,O,O,O,O,O,O,O,O,O,O,O,O,O,O,O,O,O])]
abbrev Xc:=Rg [V 1 (.build [O,O,O,O] [(0,1,Q 4),(1,1,Q (-1)),(2,1,Q 1),(3,1,Q 0)]),V 2 (.build [O,O,O,O] [(0,1,Q 4),(1,1,Q (-1)),(2,1,Q 1),(3,1,Q 1)]),V 3 (.build [O,O,O,O] [(0,1,Q 4),(1,1,Q 0),(2,1,Q 2),(3,1,Q 0)]),V 4 (.build [O,O,O,O] [(0,1,Q 4),(1,1,Q 0),(2,1,Q 2),(3,1,Q 1)]),V 5 (.build [O,O,O,O] [(0,1,Q 2),(1,1,Q (-4)),(2,1,Q 4),(3,1,Q 0)]),V 6 (.build [O,O,O,O] [(0,1,Q 2),(1,1,Q (-4)),(2,1,Q 4),(3,1,Q 1)]),V 7 (.build [O,O,O,O] [(0,1,Q 2),(1,1,Q 0),(2,1,Q 7),(3,1,Q 1)]),V 8 (.build [O,O,O,O] [(0,1,Q 2),(1,1,Q 0),(2,1,Q 7),(3,1,Q 2)]),V 9 (.build [O,O,O,O] [(0,1,Q 2),(1,1,Q 0),(2,1,Q 12),(3,1,Q 1)]),V 10 (.build [O,O,O,O] [(0,1,Q 2),(1,1,Q 0),(2,1,Q 12),(3,1,Q 2)]),V 11 (.build [O,O,O,O] [(0,1,Q 2),(1,1,Q 0),(2,1,Q 16),(3,1,Q 2)]),V 12 (.build [O,O,O,O] [(0,1,Q 1),(1,1,Q (-60)),(2,1,Q 60),(3,1,Q 0)]),V 13 (.build [O,O,O,O,O,O,O,O,O,O,O,O,O,O,O,O,O,O,O,O,O,O,O,O,O,O,O,O,O,O,O,O,O,O,O,O,O,O,O,O,O,O,O,O,O,O,O,O,O,O,O,O] [(4,4,.m 1),(8,4,.m 2),(12,4,.m 3),(16,4,.m 4),(20,4,.m 5),(24,4,.m 6),(28,4,.m 7),(32,4,.m 8),(36,4,.m 9),(40,4,.m 10),(44,4,.m 11),(48,4,.m 12)]),Yd 52 0 13]
def akV:ae:=⟨0,[.cell 0 (some 52)],
 (.seq XG
 (.seq Xc
 .ret))⟩
abbrev HJ:=Rg [V 4 (.mov (.c (.d (.int .u32 0)))),V 5 (.mov (.c (.d (.int .u32 0)))),Z [4,5]]
abbrev Hh:=Rg [A 7 0,V 8 (.conv .u64 (.m 7)),A 9 1,V 10 (.conv .u64 (.m 9)),L 11 .mul 8 10,A 6 11]
abbrev I4:=Rg [B 12 6,V 13 (.bin .shr (.m 12) (.c (.d (.int .u64 32)))),V 14 (.conv .u32 (.m 13)),A 15 6,V 16 (.conv .u32 (.m 15)),A 4 14,A 5 16]
def Pw:ae:=⟨2,[.tmp 4,.tmp 5],
 (.seq HJ
 (.seq Hh
 (.seq I4
 .ret)))⟩
abbrev Is:=Rg [V 4 (.mov (.c (.d (.int .u64 0)))),V 5 (.mov (.c (.d (.int .u64 0)))),Z [4,5]]
abbrev HF:=Rg [B 14 0,V 15 (.bin .and (.m 14) (.c (.d (.int .u64 4294967295)))),A 6 15]
abbrev Jj:=Rg [B 16 0,V 17 (.bin .shr (.m 16) (.c (.d (.int .u64 32)))),A 7 17]
abbrev Ie:=Rg [B 18 1,V 19 (.bin .and (.m 18) (.c (.d (.int .u64 4294967295)))),A 8 19]
abbrev HD:=Rg [B 20 1,V 21 (.bin .shr (.m 20) (.c (.d (.int .u64 32)))),A 9 21]
abbrev IG:=Rg [B 22 6,B 23 8,L 24 .mul 22 23,A 10 24]
abbrev Hi:=Rg [B 25 7,A 26 8,L 27 .mul 25 26,A 28 10,V 29 (.bin .shr (.m 28) (.c (.d (.int .u64 32)))),L 30 .add 27 29,A 11 30]
abbrev Jl:=Rg [B 31 11,V 32 (.bin .and (.m 31) (.c (.d (.int .u64 4294967295)))),A 12 32]
abbrev H9:=Rg [A 33 11,V 34 (.bin .shr (.m 33) (.c (.d (.int .u64 32)))),A 13 34]
abbrev II:=Rg [A 35 12,A 36 6,B 37 9,L 38 .mul 36 37,L 39 .add 35 38,A 12 39]
abbrev FM:=Rg [A 40 7,A 41 9,L 42 .mul 40 41,A 43 13,L 44 .add 42 43,A 45 12,V 46 (.bin .shr (.m 45) (.c (.d (.int .u64 32)))),L 47 .add 44 46,A 4 47]
abbrev Gr:=Rg [A 48 0,A 49 1,L 50 .mul 48 49,A 5 50]
def PG:ae:=⟨2,[.tmp 4,.tmp 5],
 (.seq Is
 (.seq HF
 (.seq Jj
 (.seq Ie
 (.seq HD
 (.seq IG
 (.seq Hi
 (.seq Jl
 (.seq H9
 (.seq II
 (.seq FM
 (.seq Gr
 .ret))))))))))))⟩
abbrev vQ:=Rg [C 6 (Q 20)]
abbrev vq:=Rg [B 10 6,C 7 (Q 0),A 8 10]
abbrev vA:=Rg [B 11 8,B 12 1,L 13 .leq 11 12]
abbrev vJ:=Rg [B 14 0,A 15 7,B 16 8,B 17 2,V 18 (.calli c6 [.m 14,.m 15,.m 16,.m 17]),Z [18]]
abbrev vT:=Rg [B 19 8,A 7 19]
abbrev vW:=Rg [A 20 8,B 21 6,L 22 .add 20 21,A 8 22]
def dT:VC:=(.seq (.seq vA
 (.cond (.m 13)
 .skip
 (.seq (K [8]) (.exit 0))))
 (.block 1
 (.seq vJ
 (.seq vT
 vW))))
abbrev vD:=Rg [B 23 0,A 24 7,B 25 1,B 26 2,V 27 (.calli c6 [.m 23,.m 24,.m 25,.m 26]),Z [27]]
abbrev vS:=Rg [B 28 6,B 29 1,L 30 .lss 28 29]
abbrev vz:=Rg [B 31 6,V 32 (.bin .mul (Q 2) (.m 31)),C 7 (Q 0),A 8 32]
abbrev vI:=Rg [B 33 8,B 34 1,L 35 .leq 33 34]
abbrev uG:=Rg [B 36 0,B 37 7,A 38 7,B 39 6,L 40 .add 38 39,B 41 8,B 42 2,V 43 (.calli aF [.m 36,.m 37,.m 40,.m 41,.m 42]),Z [43]]
abbrev tV:=Rg [B 44 8,A 7 44]
abbrev uu:=Rg [A 45 8,B 46 6,V 47 (.bin .mul (Q 2) (.m 46)),L 48 .add 45 47,A 8 48]
def dU:VC:=(.seq (.seq vI
 (.cond (.m 35)
 .skip
 (.seq (K [8]) (.exit 4))))
 (.block 5
 (.seq uG
 (.seq tV
 uu))))
abbrev uW:=Rg [B 49 7,B 50 6,L 51 .add 49 50,A 9 51]
abbrev tO:=Rg [B 52 9,B 53 1,L 54 .lss 52 53]
abbrev t8:=Rg [B 55 0,A 56 7,A 57 9,B 58 1,B 59 2,V 60 (.calli aF [.m 55,.m 56,.m 57,.m 58,.m 59]),Z [60]]
abbrev uC:=Rg [A 61 6,P 62 .mul 61 2,A 6 62]
def dS:VC:=(.seq (.seq vS
 (.cond (.m 30)
 .skip
 (.seq (K [0,1,2,6]) (.exit 2))))
 (.block 3
 (.seq vz
 (.seq (.block 4
 (.seq (.loop dU) (K [8])))
 (.seq (.seq uW
 (.seq tO
 (.cond (.m 54)
 t8
 (.seq (K [7,9]) .skip))))
 uC)))))
def iX:ae:=⟨3,[],
 (.seq vQ
 (.seq vq
 (.seq (.block 0
 (.seq (.loop dT) (K [8])))
 (.seq vD
 (.block 2
 (.seq (.loop dS) (K [0,1,2,6])))))))⟩
abbrev IW:=Rg [C 2 ff,Z [2]]
abbrev Ia:=Rg [B 3 0,A 4 0,L 5 .neq 3 4,A 2 5]
def qk:ae:=⟨1,[.tmp 2],
 (.seq IW
 (.seq Ia
 .ret))⟩
abbrev oS:=Rg [B 10 1,P 11 .add 10 1,A 8 11]
abbrev ox:=Rg [B 12 8,B 13 2,L 14 .lss 12 13]
abbrev oO:=Rg [B 17 8,A 9 17]
abbrev iT:=[B 18 9,B 19 1,L 20 .gtr 18 19,A 21 20,W 21 22 (.mov (.s 3)),W 21 23 (.mov (.s 0)),W 21 24 (.mov (.s 9)),W 21 25 (.ia 1 (.s 23) (.s 24)),W 21 26 (.ld none 0 (.s 25)),W 21 27 (.mov (.s 0)),W 21 28 (.mov (.s 9)),W 21 29 (.bin .sub (.s 28) (Q 1)),W 21 30 (.ia 1 (.s 27) (.s 29)),W 21 31 (.ld none 0 (.s 30)),W 21 32 (.callv (.s 22) [.s 26,.s 31]),W 21 33 (.bin .lss (.s 32) (Q 0)),V 34 (.pick (.s 21) (.s 33) ff)]
def iy:VC:=.regP (.range 17) (.range 17) [] iT
abbrev iK:=[B 37 0,B 38 9,B 39 0,B 40 9,P 41 .sub 40 1,B 42 0,B 43 9,P 44 .sub 43 1,V 45 (.ia 1 (.m 42) (.m 44)),M 46 45,B 47 0,B 48 9,V 49 (.ia 1 (.m 47) (.m 48)),M 50 49,V 51 (.ia 1 (.m 37) (.m 38)),N (.st 1 (.m 51) (.m 46)),V 52 (.ia 1 (.m 39) (.m 41)),N (.st 1 (.m 52) (.m 50))]
def iA:VC:=.regP (.range 18) [0,1,5,6,7,8,9,10,11,12,13,14,15,2,3,4,16,17] [] iK
abbrev oP:=Rg [A 35 9,P 36 .sub 35 1,A 9 36]
def cA:VC:=(.seq (.seq (.seq iy (K [21,22,23,24,25,26,27,28,29,30,31,32,33]))
 (.cond (.m 34)
 .skip
 (.seq (K [9]) (.exit 2))))
 (.seq (.block 3
 iA)
 oP))
abbrev oK:=Rg [A 15 8,P 16 .add 15 1,A 8 16]
def cw:VC:=(.seq (.seq ox
 (.cond (.m 14)
 .skip
 (.seq (K [0,1,2,3,8]) (.exit 0))))
 (.seq (.block 1
 (.seq oO
 (.block 2
 (.seq (.loop cA) (K [9])))))
 oK))
def eW:ae:=⟨4,[],
 (.seq oS
 (.block 0
 (.seq (.loop cw) (K [0,1,2,3,8]))))⟩
abbrev tL:=Rg [B 25 2,B 26 1,L 27 .sub 25 26,P 28 .eql 27 1]
abbrev tB:=Rg [A 29 2,A 10 29]
abbrev tJ:=Rg [A 30 3,A 11 30]
abbrev tF:=Rg [B 31 10,B 32 11,L 33 .lss 31 32]
abbrev tM:=Rg [B 34 10,B 35 11,L 36 .add 34 35,V 37 (.conv .u64 (.m 36)),V 38 (.bin .shr (.m 37) (.c (.d (.int .u64 1)))),V 39 (.conv .i64 (.m 38)),A 12 39]
abbrev kt:=[B 40 4,B 41 0,B 42 12,V 43 (.ia 1 (.m 41) (.m 42)),M 44 43,B 45 0,B 46 1,V 47 (.ia 1 (.m 45) (.m 46)),M 48 47,V 49 (.callv (.m 40) [.m 44,.m 48]),P 50 .lss 49 0]
def j7:VC:=.regP (.range 11) (.range 11) [] kt
abbrev tI:=Rg [A 51 12,P 52 .add 51 1,A 10 52]
abbrev tz:=Rg [A 53 12,A 11 53]
def dx:VC:=(.seq (.seq tF
 (.cond (.m 33)
 .skip
 (.seq (K [4,11]) (.exit 0))))
 (.block 1
 (.seq tM
 (.seq j7
 (.cond (.m 50)
 (.seq (K [10]) tI)
 (.seq (K [11]) tz))))))
abbrev tG:=Rg [A 54 1,A 13 54]
abbrev tx:=Rg [B 55 13,B 56 10,P 57 .sub 56 1,L 58 .lss 55 57]
abbrev j9:=[B 61 0,B 62 13,B 63 0,B 64 13,P 65 .add 64 1,B 66 0,B 67 13,P 68 .add 67 1,V 69 (.ia 1 (.m 66) (.m 68)),M 70 69,B 71 0,B 72 13,V 73 (.ia 1 (.m 71) (.m 72)),M 74 73,V 75 (.ia 1 (.m 61) (.m 62)),N (.st 1 (.m 75) (.m 70)),V 76 (.ia 1 (.m 63) (.m 65)),N (.st 1 (.m 76) (.m 74))]
def jS:VC:=.regP (.range 18) [0,1,5,6,7,8,9,10,11,12,13,14,15,2,3,4,16,17] [] j9
abbrev sc:=Rg [A 59 13,P 60 .add 59 1,A 13 60]
def dw:VC:=(.seq (.seq tx
 (.cond (.m 58)
 .skip
 (.seq (K [0,10,13]) (.exit 2))))
 (.seq (.block 3
 jS)
 sc))
abbrev rF:=Rg [B 77 3,B 78 2,L 79 .sub 77 78,P 80 .eql 79 1]
abbrev sm:=Rg [A 81 1,A 14 81]
abbrev rX:=Rg [B 82 2,A 15 82]
abbrev r5:=Rg [B 83 14,B 84 15,L 85 .lss 83 84]
abbrev q9:=Rg [B 86 14,B 87 15,L 88 .add 86 87,V 89 (.conv .u64 (.m 88)),V 90 (.bin .shr (.m 89) (.c (.d (.int .u64 1)))),V 91 (.conv .i64 (.m 90)),A 16 91]
abbrev ka:=[B 92 4,B 93 0,B 94 2,V 95 (.ia 1 (.m 93) (.m 94)),M 96 95,B 97 0,B 98 16,V 99 (.ia 1 (.m 97) (.m 98)),M 100 99,V 101 (.callv (.m 92) [.m 96,.m 100]),P 102 .lss 101 0,V 103 (.un .not (.m 102))]
def jE:VC:=.regP (.range 12) (.range 12) [] ka
abbrev rB:=Rg [A 104 16,P 105 .add 104 1,A 14 105]
abbrev sH:=Rg [A 106 16,A 15 106]
def dz:VC:=(.seq (.seq r5
 (.cond (.m 85)
 .skip
 (.seq (K [4,15]) (.exit 4))))
 (.block 5
 (.seq q9
 (.seq jE
 (.cond (.m 103)
 (.seq (K [14]) rB)
 (.seq (K [15]) sH))))))
abbrev rI:=Rg [A 107 2,A 17 107]
abbrev rE:=Rg [B 108 17,B 109 14,L 110 .gtr 108 109]
abbrev j5:=[B 113 0,B 114 17,B 115 0,B 116 17,P 117 .sub 116 1,B 118 0,B 119 17,P 120 .sub 119 1,V 121 (.ia 1 (.m 118) (.m 120)),M 122 121,B 123 0,B 124 17,V 125 (.ia 1 (.m 123) (.m 124)),M 126 125,V 127 (.ia 1 (.m 113) (.m 114)),N (.st 1 (.m 127) (.m 122)),V 128 (.ia 1 (.m 115) (.m 117)),N (.st 1 (.m 128) (.m 126))]
def jC:VC:=.regP (.range 18) [0,1,5,6,7,8,9,10,11,12,13,14,15,2,3,4,16,17] [] j5
abbrev q7:=Rg [A 111 17,P 112 .sub 111 1,A 17 112]
def dt:VC:=(.seq (.seq rE
 (.cond (.m 110)
 .skip
 (.seq (K [0,14,17]) (.exit 6))))
 (.seq (.block 7
 jC)
 q7))
abbrev rD:=Rg [B 129 1,B 130 3,L 131 .add 129 130,V 132 (.conv .u64 (.m 131)),V 133 (.bin .shr (.m 132) (.c (.d (.int .u64 1)))),V 134 (.conv .i64 (.m 133)),A 18 134]
abbrev rg:=Rg [B 135 18,B 136 2,L 137 .add 135 136,A 19 137]
abbrev qZ:=Rg [C 20 (Q 0),C 21 (Q 0),Z [20,21]]
abbrev sA:=Rg [B 138 2,B 139 18,L 140 .gtr 138 139]
abbrev rG:=Rg [B 141 19,B 142 3,L 143 .sub 141 142,A 20 143]
abbrev sj:=Rg [B 144 18,A 21 144]
abbrev r8:=Rg [B 145 1,A 20 145]
abbrev r7:=Rg [B 146 2,A 21 146]
abbrev su:=Rg [B 147 19,P 148 .sub 147 1,A 22 148]
abbrev sB:=Rg [B 149 20,B 150 21,L 151 .lss 149 150]
abbrev sn:=Rg [B 152 20,B 153 21,L 154 .add 152 153,V 155 (.conv .u64 (.m 154)),V 156 (.bin .shr (.m 155) (.c (.d (.int .u64 1)))),V 157 (.conv .i64 (.m 156)),A 23 157]
abbrev kb:=[B 158 4,B 159 0,B 160 22,B 161 23,L 162 .sub 160 161,V 163 (.ia 1 (.m 159) (.m 162)),M 164 163,B 165 0,B 166 23,V 167 (.ia 1 (.m 165) (.m 166)),M 168 167,V 169 (.callv (.m 158) [.m 164,.m 168]),P 170 .lss 169 0,V 171 (.un .not (.m 170))]
def jL:VC:=.regP (.range 14) (.range 14) [] kb
abbrev rH:=Rg [A 172 23,P 173 .add 172 1,A 20 173]
abbrev rA:=Rg [A 174 23,A 21 174]
def dr:VC:=(.seq (.seq sB
 (.cond (.m 151)
 .skip
 (.seq (K [21,22]) (.exit 8))))
 (.block 9
 (.seq sn
 (.seq jL
 (.cond (.m 171)
 (.seq (K [20]) rH)
 (.seq (K [21]) rA))))))
abbrev rC:=Rg [A 175 19,B 176 20,L 177 .sub 175 176,A 24 177]
abbrev sC:=Rg [B 178 20,B 179 2,L 180 .lss 178 179,A 181 180,W 181 182 (.mov (.s 2)),W 181 183 (.mov (.s 24)),W 181 184 (.bin .lss (.s 182) (.s 183)),V 185 (.pick (.m 181) (.s 184) ff),Z [182,183,184]]
abbrev sy:=Rg [B 186 0,B 187 20,A 188 2,B 189 24,B 190 4,V 191 (.calli i9 [.m 186,.m 187,.m 188,.m 189,.m 190]),Z [191]]
abbrev rq:=Rg [B 192 1,B 193 20,L 194 .lss 192 193,A 195 194,W 195 196 (.mov (.s 20)),W 195 197 (.mov (.s 18)),W 195 198 (.bin .lss (.s 196) (.s 197)),V 199 (.pick (.m 195) (.s 198) ff),Z [196,197,198]]
abbrev r9:=Rg [B 200 0,A 201 1,A 202 20,B 203 18,B 204 4,V 205 (.calli aF [.m 200,.m 201,.m 202,.m 203,.m 204]),Z [205]]
abbrev sF:=Rg [B 206 18,B 207 24,L 208 .lss 206 207,A 209 208,W 209 210 (.mov (.s 24)),W 209 211 (.mov (.s 3)),W 209 212 (.bin .lss (.s 210) (.s 211)),V 213 (.pick (.m 209) (.s 212) ff),Z [210,211,212]]
abbrev rl:=Rg [A 214 0,A 215 18,A 216 24,A 217 3,A 218 4,V 219 (.calli aF [.m 214,.m 215,.m 216,.m 217,.m 218]),Z [219]]
def bx:ae:=⟨5,[],
 (.seq (.seq tL
 (.cond (.m 28)
 (.seq tB
 (.seq tJ
 (.seq (.block 0
 (.seq (.loop dx) (K [4,11])))
 (.seq (.seq tG
 (.block 2
 (.seq (.loop dw) (K [0,10,13]))))
 .ret))))
 .skip))
 (.seq (.seq rF
 (.cond (.m 80)
 (.seq (K [3]) (.seq sm
 (.seq rX
 (.seq (.block 4
 (.seq (.loop dz) (K [4,15])))
 (.seq (.seq rI
 (.block 6
 (.seq (.loop dt) (K [0,14,17]))))
 .ret)))))
 .skip))
 (.seq rD
 (.seq rg
 (.seq qZ
 (.seq (.seq sA
 (.cond (.m 140)
 (.seq rG
 sj)
 (.seq r8
 r7)))
 (.seq su
 (.seq (.block 8
 (.seq (.loop dr) (K [21,22])))
 (.seq rC
 (.seq (.seq sC
 (.cond (.m 185)
 sy
 (.seq (K [2]) .skip)))
 (.seq (.seq rq
 (.cond (.m 199)
 r9
 (.seq (K [1,20]) .skip)))
 (.seq sF
 (.cond (.m 213)
 rl
 (.seq (K [0,3,4,18,24]) .skip))))))))))))))⟩
abbrev vR:=Rg [B 12 2,A 13 1,L 14 .sub 12 13,A 10 14]
abbrev vN:=Rg [A 15 3,B 16 2,L 17 .sub 15 16,A 11 17]
abbrev vV:=Rg [B 18 10,B 19 11,L 20 .neq 18 19]
abbrev vG:=Rg [B 21 10,B 22 11,L 23 .gtr 21 22]
abbrev vt:=Rg [B 24 0,B 25 2,B 26 10,L 27 .sub 25 26,B 28 2,B 29 11,B 30 4,V 31 (.calli cJ [.m 24,.m 27,.m 28,.m 29,.m 30]),Z [31]]
abbrev vY:=Rg [A 32 10,B 33 11,L 34 .sub 32 33,A 10 34]
abbrev vL:=Rg [B 35 0,B 36 2,B 37 10,L 38 .sub 36 37,B 39 2,B 40 11,L 41 .add 39 40,B 42 10,L 43 .sub 41 42,B 44 10,B 45 4,V 46 (.calli cJ [.m 35,.m 38,.m 43,.m 44,.m 45]),Z [46]]
abbrev vy:=Rg [A 47 11,B 48 10,L 49 .sub 47 48,A 11 49]
def gC:VC:=(.seq (.seq vV
 (.cond (.m 20)
 .skip
 (.seq (K [11]) (.exit 0))))
 (.block 1
 (.seq vG
 (.cond (.m 23)
 (.seq vt
 vY)
 (.seq vL
 vy)))))
abbrev vp:=Rg [A 50 0,B 51 2,B 52 10,L 53 .sub 51 52,A 54 2,A 55 10,A 56 4,V 57 (.calli cJ [.m 50,.m 53,.m 54,.m 55,.m 56]),Z [57]]
def jd:ae:=⟨5,[],
 (.seq vR
 (.seq vN
 (.seq (.block 0
 (.seq (.loop gC) (K [11])))
 vp)))⟩
abbrev rZ:=Rg [C 10 (Q 0)]
abbrev rU:=Rg [B 11 10,B 12 3,L 13 .lss 11 12]
abbrev j8:=[B 16 0,B 17 1,B 18 10,L 19 .add 17 18,B 20 0,B 21 2,B 22 10,L 23 .add 21 22,B 24 0,B 25 2,B 26 10,L 27 .add 25 26,V 28 (.ia 1 (.m 24) (.m 27)),M 29 28,B 30 0,B 31 1,B 32 10,L 33 .add 31 32,V 34 (.ia 1 (.m 30) (.m 33)),M 35 34,V 36 (.ia 1 (.m 16) (.m 19)),N (.st 1 (.m 36) (.m 29)),V 37 (.ia 1 (.m 20) (.m 23)),N (.st 1 (.m 37) (.m 35))]
def jP:VC:=.regP (.range 24) [0,1,2,3,8,9,10,11,12,13,14,15,16,17,18,19,20,21,4,5,6,7,22,23] [] j8
abbrev rQ:=Rg [A 14 10,P 15 .add 14 1,A 10 15]
def dj:VC:=(.seq (.seq rU
 (.cond (.m 13)
 .skip
 (.seq (K [0,1,2,3,10]) (.exit 0))))
 (.seq (.block 1
 jP)
 rQ))
def gE:ae:=⟨5,[],
 (.seq (K [4]) (.seq rZ
 (.block 0
 (.seq (.loop dj) (K [0,1,2,3,10])))))⟩
def auD:T:=(.node 74 uZ (.node 38 xz (.node 20 Bo (.node 11 alv (.node 7 DF (.node 5 lK (.node 4 C6 (.node 3 dg .leaf .leaf) .leaf) (.node 6 bz .leaf .leaf)) (.node 9 oY (.node 8 oL .leaf .leaf) (.node 10 ma .leaf .leaf))) (.node 16 Ix (.node 14 IY (.node 13 HN (.node 12 alx .leaf .leaf) .leaf) (.node 15 Ir .leaf .leaf)) (.node 18 wm (.node 17 D8 .leaf .leaf) (.node 19 yE .leaf .leaf)))) (.node 29 Bl (.node 25 wa (.node 23 Cx (.node 22 uo (.node 21 Ai .leaf .leaf) .leaf) (.node 24 w9 .leaf .leaf)) (.node 27 uP (.node 26 wj .leaf .leaf) (.node 28 wI .leaf .leaf))) (.node 34 EZ (.node 32 we (.node 31 wY (.node 30 wu .leaf .leaf) .leaf) (.node 33 CA .leaf .leaf)) (.node 36 EC (.node 35 HH .leaf .leaf) (.node 37 Fe .leaf .leaf))))) (.node 56 nD (.node 47 xA (.node 43 Ed (.node 41 Ea (.node 40 uH (.node 39 Fq .leaf .leaf) .leaf) (.node 42 Ib .leaf .leaf)) (.node 45 Fg (.node 44 EP .leaf .leaf) (.node 46 Ef .leaf .leaf))) (.node 52 mB (.node 50 Ik (.node 49 Fa (.node 48 y7 .leaf .leaf) .leaf) (.node 51 mb .leaf .leaf)) (.node 54 jm (.node 53 gZ .leaf .leaf) (.node 55 kg .leaf .leaf)))) (.node 65 yX (.node 61 Ba (.node 59 mD (.node 58 jU (.node 57 CH .leaf .leaf) .leaf) (.node 60 EX .leaf .leaf)) (.node 63 CV (.node 62 CD .leaf .leaf) (.node 64 Bv .leaf .leaf))) (.node 70 fY (.node 68 EH (.node 67 zx (.node 66 z5 .leaf .leaf) .leaf) (.node 69 og .leaf .leaf)) (.node 72 uk (.node 71 sf .leaf .leaf) (.node 73 ui .leaf .leaf)))))) (.node 110 u4 (.node 92 Fo (.node 83 ahU (.node 79 wS (.node 77 yP (.node 76 wF (.node 75 zA .leaf .leaf) .leaf) (.node 78 wX .leaf .leaf)) (.node 81 Eq (.node 80 LU .leaf .leaf) (.node 82 aaD .leaf .leaf))) (.node 88 tS (.node 86 lN (.node 85 Ee (.node 84 BH .leaf .leaf) .leaf) (.node 87 E2 .leaf .leaf)) (.node 90 IM (.node 89 GW .leaf .leaf) (.node 91 v9 .leaf .leaf)))) (.node 101 Cc (.node 97 yR (.node 95 gD (.node 94 Ej (.node 93 Ff .leaf .leaf) .leaf) (.node 96 so .leaf .leaf)) (.node 99 nz (.node 98 EQ .leaf .leaf) (.node 100 Cj .leaf .leaf))) (.node 106 zo (.node 104 um (.node 103 xi (.node 102 Ei .leaf .leaf) .leaf) (.node 105 E3 .leaf .leaf)) (.node 108 lM (.node 107 qf .leaf .leaf) (.node 109 yM .leaf .leaf))))) (.node 128 qj (.node 119 yL (.node 115 jc (.node 113 qi (.node 112 eG (.node 111 uf .leaf .leaf) .leaf) (.node 114 ve .leaf .leaf)) (.node 117 HC (.node 116 uV .leaf .leaf) (.node 118 Zk .leaf .leaf))) (.node 124 PU (.node 122 Cb (.node 121 rL (.node 120 ary .leaf .leaf) .leaf) (.node 123 nA .leaf .leaf)) (.node 126 Vz (.node 125 qn .leaf .leaf) (.node 127 Up .leaf .leaf)))) (.node 137 Pw (.node 133 u5 (.node 131 nE (.node 130 Ca (.node 129 gS .leaf .leaf) .leaf) (.node 132 fg .leaf .leaf)) (.node 135 gK (.node 134 oC .leaf .leaf) (.node 136 akV .leaf .leaf))) (.node 141 eW (.node 139 iX (.node 138 PG .leaf .leaf) (.node 140 qk .leaf .leaf)) (.node 143 jd (.node 142 bx .leaf .leaf) (.node 144 gE .leaf .leaf)))))))
def prog:Nat→Option ae:=auD.look
@[simp] theorem afh {y0:D}{y2:D}{x3:AV}{x5:AV}{x10:AV}{h:ac}{n:Nat}:(Dn prog).code mJ ⟨[(0,.d y0),(2,.d y2),(3,x3),(5,x5),(10,x10)],⟨h,n⟩⟩=br (bX prog nQ [(0,.d y0),(2,.d y2),(3,x3),(5,x5),(10,x10)] ⟨h,n⟩):=bl (by kernel_rfl) (by kernel_rfl) (by kernel_rfl)
@[simp] theorem avX {x0:AV}{y1:D}{x6:AV}{h:ac}{n:Nat}:(Dn prog).code Jt ⟨[(0,x0),(1,.d y1),(6,x6)],⟨h,n⟩⟩=br (bX prog KV [(0,x0),(1,.d y1),(6,x6)] ⟨h,n⟩):=bl (by kernel_rfl) (by kernel_rfl) (by kernel_rfl)
@[simp] theorem awb {x6:AV}{x11:AV}{x12:AV}{x13:AV}{h:ac}{n:Nat}:(Dn prog).code JF ⟨[(6,x6),(11,x11),(12,x12),(13,x13)],⟨h,n⟩⟩=br (bA (da h none (share x11)) fun a1=>bA (gP 0 (share x13)) fun a2=>bA (da h none (firm a2)) fun a3=>bA (gP 8 (share x6)) fun a4=>bA (da ((bY (bv (firm a4)++[]) h)) none (firm a4)) fun a5=>bA (gP 1 (share x13)) fun a6=>bA (da ((bY (bv (firm a6)++[]) h)) none (firm a6)) fun a7=>bA (gP 2 (share x13)) fun a8=>bA (da ((bY (bv (firm a8)++[]) h)) none (firm a8)) fun a9=>bA (uB ((bY (bv (firm a5)++[]) h)) 1 (firm a5) (some (firm a7)) (some (firm a9)) none) fun a10=>bP ((Dn prog).call iV [firm a1,firm a3] ⟨h,n⟩) fun a11 s12=>bQ (bT (((bv (firm a5)++[])++((bv (firm a8)++[])++((bv (firm a6)++[])++((bv (firm a4)++[])++[]))))) h s12.heap) <| bA (ca (Dn prog) AI [.nl,firm a11,firm a10] s12.heap) fun a13=>bA (rT true (firm (firm a13)) 0) fun a14=>bA (rT false (Hc (firm (firm a13)) 0) 1) fun a15=>some ⟨[(6,x6),(11,x11),(12,x12),(13,x13),(14,firm (firm a14)),(15,firm (firm a15)),(88,Hc (firm (firm a13)) 0)],⟨s12.heap,s12.next⟩⟩):=cM rfl rfl (by kernel_rfl)
@[simp] theorem axt {x10:AV}{x11:AV}{x12:AV}{h:ac}{n:Nat}:(Dn prog).code Lw ⟨[(10,x10),(11,x11),(12,x12)],⟨h,n⟩⟩=br (bA (cL [O,O8,O8,O,.nl,.nl,.nl,.nl,.nl] []) fun a1=>bA (da ((bY (bv x12++[]) h)) none (share x12)) fun a2=>bA (storeAt h 9 (share x10) (firm (.agg a1))) fun h3=>bQ (bT (((bv x12++[])++[])) h h3) <| bA (storeAt h3 1 (share x11) (O)) fun h4=>bQ (bT (((bv x12++[])++[])) h3 h4) <| bA (storeAt h4 1 (share x12) (firm a2)) fun h5=>some ⟨[(10,x10),(11,x11),(12,x12)],⟨h5,n⟩⟩):=cM rfl rfl (by kernel_rfl)
@[simp] theorem axu {x10:AV}{x11:AV}{x12:AV}{h:ac}{n:Nat}:(Dn prog).code MT ⟨[(10,x10),(11,x11),(12,x12)],⟨h,n⟩⟩=br (bA (cL [O,O8,O8,O,.nl,.nl,.nl,.nl,.nl] []) fun a1=>bA (da ((bY (bv x12++[]) h)) none (share x12)) fun a2=>bA (storeAt h 9 (share x10) (firm (.agg a1))) fun h3=>bQ (bT (((bv x12++[])++[])) h h3) <| bA (storeAt h3 1 (share x11) (O)) fun h4=>bQ (bT (((bv x12++[])++[])) h3 h4) <| bA (storeAt h4 1 (share x12) (firm a2)) fun h5=>some ⟨[(10,x10),(11,x11),(12,x12)],⟨h5,n⟩⟩):=cM rfl rfl (by kernel_rfl)
@[simp] theorem awG {x10:AV}{x11:AV}{x12:AV}{h:ac}{n:Nat}:(Dn prog).code JB ⟨[(10,x10),(11,x11),(12,x12)],⟨h,n⟩⟩=br (bA (cL [O,O8,O8,O,.nl,.nl,.nl,.nl,.nl] []) fun a1=>bA (da ((bY (bv x12++[]) h)) none (share x12)) fun a2=>bA (storeAt h 9 (share x10) (firm (.agg a1))) fun h3=>bQ (bT (((bv x12++[])++[])) h h3) <| bA (storeAt h3 1 (share x11) (O)) fun h4=>bQ (bT (((bv x12++[])++[])) h3 h4) <| bA (storeAt h4 1 (share x12) (firm a2)) fun h5=>some ⟨[(10,x10),(11,x11),(12,x12)],⟨h5,n⟩⟩):=cM rfl rfl (by kernel_rfl)
@[simp] theorem avI {x5:AV}{x10:AV}{x11:AV}{x12:AV}{x18:AV}{x19:AV}{h:ac}{n:Nat}:(Dn prog).code qV ⟨[(5,x5),(10,x10),(11,x11),(12,x12),(18,x18),(19,x19)],⟨h,n⟩⟩=br (bA (da ((bY (bv x5++[]) h)) none x5) fun a1=>bA (da ((bY (bv x11++[]) h)) none (share x11)) fun a2=>bA (da h none (share x18)) fun a3=>bA (gP 0 (share x19)) fun a4=>bA (da h none (firm a4)) fun a5=>bP ((Dn prog).call iV [firm a3,firm a5] ⟨h,n⟩) fun a6 s7=>bQ (bT (((bv x11++[])++((bv x5++[])++[]))) h s7.heap) <| bA (ca (Dn prog) pC [firm a1,firm a2,firm a6] s7.heap) fun a8=>bA (rT true (firm (firm a8)) 0) fun a9=>bA (rT false (Hc (firm (firm a8)) 0) 1) fun a10=>bA (rT false (Hc (firm (firm a8)) 0) 2) fun a11=>bA (storeAt s7.heap 1 (share x11) (firm a10)) fun h12=>bA (storeAt h12 1 (share x12) (firm a11)) fun h13=>some ⟨[(10,x10),(11,x11),(12,x12),(18,x18),(19,x19),(20,firm (firm a9)),(84,Hc (firm (firm a8)) 0)],⟨h13,s7.next⟩⟩):=cM rfl rfl (by kernel_rfl)
@[simp] theorem av5 {x10:AV}{x11:AV}{x12:AV}{h:ac}{n:Nat}:(Dn prog).code qP ⟨[(10,x10),(11,x11),(12,x12)],⟨h,n⟩⟩=br (bA (cL [O,O8,O8,O,.nl,.nl,.nl,.nl,.nl] []) fun a1=>bA (da ((bY (bv x12++[]) h)) none (share x12)) fun a2=>bA (storeAt h 9 x10 (firm (.agg a1))) fun h3=>bQ (bT (((bv x12++[])++[])) h h3) <| bA (storeAt h3 1 x11 (O)) fun h4=>bQ (bT (((bv x12++[])++[])) h3 h4) <| bA (storeAt h4 1 (share x12) (firm a2)) fun h5=>some ⟨[(12,x12)],⟨h5,n⟩⟩):=cM rfl rfl (by kernel_rfl)
@[simp] theorem awF {x10:AV}{x11:AV}{x12:AV}{h:ac}{n:Nat}:(Dn prog).code JJ ⟨[(10,x10),(11,x11),(12,x12)],⟨h,n⟩⟩=br (bA (da h (some 9) (share x10)) fun a1=>bA (da ((bY (bv x11++[]) h)) none (share x11)) fun a2=>bA (storeAt h 9 (share x10) (firm a1)) fun h3=>bQ (bT (((bv x11++[])++[])) h h3) <| bA (storeAt h3 1 (share x11) (firm a2)) fun h4=>bA (storeAt h4 1 (share x12) (O)) fun h5=>some ⟨[(10,x10),(11,x11),(12,x12)],⟨h5,n⟩⟩):=cM rfl rfl (by kernel_rfl)
@[simp] theorem asW {x4:AV}{x11:AV}{y15:D}{y16:D}{h:ac}{n:Nat}:(Dn prog).code D4 ⟨[(4,x4),(11,x11),(15,.d y15),(16,.d y16)],⟨h,n⟩⟩=br (bX prog Fz [(4,x4),(11,x11),(15,.d y15),(16,.d y16)] ⟨h,n⟩):=bl (by kernel_rfl) (by kernel_rfl) (by kernel_rfl)
@[simp] theorem atZ {x4:AV}{x11:AV}{y15:D}{y16:D}{h:ac}{n:Nat}:(Dn prog).code D2 ⟨[(4,x4),(11,x11),(15,.d y15),(16,.d y16)],⟨h,n⟩⟩=br (bX prog GG [(4,x4),(11,x11),(15,.d y15),(16,.d y16)] ⟨h,n⟩):=bl (by kernel_rfl) (by kernel_rfl) (by kernel_rfl)
@[simp] theorem au7 {x0:AV}{x4:AV}{x15:AV}{x16:AV}{x17:AV}{y20:D}{y21:D}{x69:AV}{y70:D}{y71:D}{h:ac}{n:Nat}:(Dn prog).code Gd ⟨[(0,x0),(4,x4),(15,x15),(16,x16),(17,x17),(20,.d y20),(21,.d y21),(69,x69),(70,.d y70),(71,.d y71)],⟨h,n⟩⟩=br (bX prog JA [(0,x0),(4,x4),(15,x15),(16,x16),(17,x17),(20,.d y20),(21,.d y21),(69,x69),(70,.d y70),(71,.d y71)] ⟨h,n⟩):=bl (by kernel_rfl) (by kernel_rfl) (by kernel_rfl)
@[simp] theorem apJ {x0:AV}{y1:D}{x4:AV}{h:ac}{n:Nat}:(Dn prog).code yj ⟨[(0,x0),(1,.d y1),(4,x4)],⟨h,n⟩⟩=br (bX prog z7 [(0,x0),(1,.d y1),(4,x4)] ⟨h,n⟩):=bl (by kernel_rfl) (by kernel_rfl) (by kernel_rfl)
@[simp] theorem awu {x6:AV}{x7:AV}{x8:AV}{h:ac}{n:Nat}:(Dn prog).code Jy ⟨[(6,x6),(7,x7),(8,x8)],⟨h,n⟩⟩=br (bA (da h (some 4) (share x6)) fun a1=>bA (da ((bY (bv x8++[]) h)) none (share x8)) fun a2=>bA (storeAt h 4 (share x6) (firm a1)) fun h3=>bQ (bT (((bv x8++[])++[])) h h3) <| bA (storeAt h3 1 (share x7) (O)) fun h4=>bQ (bT (((bv x8++[])++[])) h3 h4) <| bA (storeAt h4 1 (share x8) (firm a2)) fun h5=>some ⟨[(6,x6),(7,x7),(8,x8)],⟨h5,n⟩⟩):=cM rfl rfl (by kernel_rfl)
@[simp] theorem auT {x6:AV}{x7:AV}{x8:AV}{h:ac}{n:Nat}:(Dn prog).code FH ⟨[(6,x6),(7,x7),(8,x8)],⟨h,n⟩⟩=br (bA (cL [O8,O8,O,.nl] []) fun a1=>bA (da ((bY (bv x8++[]) h)) none (share x8)) fun a2=>bA (storeAt h 4 (share x6) (firm (.agg a1))) fun h3=>bQ (bT (((bv x8++[])++[])) h h3) <| bA (storeAt h3 1 (share x7) (O)) fun h4=>bQ (bT (((bv x8++[])++[])) h3 h4) <| bA (storeAt h4 1 (share x8) (firm a2)) fun h5=>some ⟨[(6,x6),(7,x7),(8,x8)],⟨h5,n⟩⟩):=cM rfl rfl (by kernel_rfl)
@[simp] theorem auw {x6:AV}{x7:AV}{x8:AV}{h:ac}{n:Nat}:(Dn prog).code Gg ⟨[(6,x6),(7,x7),(8,x8)],⟨h,n⟩⟩=br (bA (da h (some 4) (share x6)) fun a1=>bA (da ((bY (bv x7++[]) h)) none (share x7)) fun a2=>bA (storeAt h 4 (share x6) (firm a1)) fun h3=>bQ (bT (((bv x7++[])++[])) h h3) <| bA (storeAt h3 1 (share x7) (firm a2)) fun h4=>bA (storeAt h4 1 (share x8) (O)) fun h5=>some ⟨[(6,x6),(7,x7),(8,x8)],⟨h5,n⟩⟩):=cM rfl rfl (by kernel_rfl)
@[simp] theorem auY {x8:AV}{x9:AV}{x10:AV}{h:ac}{n:Nat}:(Dn prog).code FN ⟨[(8,x8),(9,x9),(10,x10)],⟨h,n⟩⟩=br (bA (da ((bY (bv x10++[]) h)) none (share x10)) fun a1=>bA (storeAt h 1 (share x8) .nl) fun h2=>bQ (bT (((bv x10++[])++[])) h h2) <| bA (storeAt h2 1 (share x9) (O)) fun h3=>bQ (bT (((bv x10++[])++[])) h2 h3) <| bA (storeAt h3 1 (share x10) (firm a1)) fun h4=>some ⟨[(8,x8),(9,x9),(10,x10)],⟨h4,n⟩⟩):=cM rfl rfl (by kernel_rfl)
@[simp] theorem asC {x8:AV}{x9:AV}{x10:AV}{h:ac}{n:Nat}:(Dn prog).code DQ ⟨[(8,x8),(9,x9),(10,x10)],⟨h,n⟩⟩=br (bA (da ((bY (bv x10++[]) h)) none (share x10)) fun a1=>bA (storeAt h 1 x8 .nl) fun h2=>bQ (bT (((bv x10++[])++[])) h h2) <| bA (storeAt h2 1 x9 (O)) fun h3=>bQ (bT (((bv x10++[])++[])) h2 h3) <| bA (storeAt h3 1 (share x10) (firm a1)) fun h4=>some ⟨[(10,x10)],⟨h4,n⟩⟩):=cM rfl rfl (by kernel_rfl)
@[simp] theorem aul {x8:AV}{x9:AV}{x10:AV}{h:ac}{n:Nat}:(Dn prog).code DT ⟨[(8,x8),(9,x9),(10,x10)],⟨h,n⟩⟩=br (bA (da h none (share x8)) fun a1=>bA (da ((bY (bv x9++[]) h)) none (share x9)) fun a2=>bA (storeAt h 1 (share x8) (firm a1)) fun h3=>bQ (bT (((bv x9++[])++[])) h h3) <| bA (storeAt h3 1 (share x9) (firm a2)) fun h4=>bA (storeAt h4 1 (share x10) (O)) fun h5=>some ⟨[(8,x8),(9,x9),(10,x10)],⟨h5,n⟩⟩):=cM rfl rfl (by kernel_rfl)
@[simp] theorem arF {x6:AV}{x7:AV}{x8:AV}{x10:AV}{x11:AV}{y12:D}{x13:AV}{y15:D}{y32:D}{y33:D}{y46:D}{y47:D}{h:ac}{n:Nat}:(Dn prog).code Ah ⟨[(6,x6),(7,x7),(8,x8),(10,x10),(11,x11),(12,.d y12),(13,x13),(15,.d y15),(32,.d y32),(33,.d y33),(46,.d y46),(47,.d y47)],⟨h,n⟩⟩=br (bA (Dy 5 1 (share x11) (.d (.int .i64 1))) fun a1=>bA (da h none (firm a1)) fun a2=>bA (Dy 5 1 (share x11) (.d (.int .i64 2))) fun a3=>bA (da ((bY (bv (firm a3)++[]) h)) none (firm a3)) fun a4=>bP (bf (Dn prog) (firm (share x10)) [firm a2] ⟨h,n⟩) fun a5 s6=>bQ (bT (((bv (firm a3)++[])++[])) h s6.heap) <| bP (bf (Dn prog) (firm (share x10)) [firm a4] ⟨s6.heap,s6.next⟩) fun a7 s8=>bA (cL [O,O,.d (.bool false),.d (.bool false),.nl] [(3,1,.d y15),(0,1,firm a5),(1,1,firm a7)]) fun a9=>lA (put s8.heap s8.next (.cells [O,O,.d (.bool false),.d (.bool false),.nl])) fun h10=>bA (storeAt h10 5 (.ptr s8.next 0) (firm (.agg a9))) fun h11=>some ⟨[(6,x6),(7,x7),(8,x8),(10,x10),(11,x11),(12,.d y12),(13,x13),(15,.d y15),(16,.ptr s8.next 0),(32,.d y32),(33,.d y33),(46,.d y46),(47,.d y47)],⟨h11,s8.next+1⟩⟩):=cM rfl rfl (by kernel_rfl)
@[simp] theorem arZ {x6:AV}{x7:AV}{x8:AV}{x10:AV}{x11:AV}{y12:D}{x13:AV}{y15:D}{x16:AV}{y17:D}{y18:D}{y19:D}{y32:D}{y33:D}{y46:D}{y47:D}{y80:D}{y81:D}{h:ac}{n:Nat}:(Dn prog).code Ad ⟨[(6,x6),(7,x7),(8,x8),(10,x10),(11,x11),(12,.d y12),(13,x13),(15,.d y15),(16,x16),(17,.d y17),(18,.d y18),(19,.d y19),(32,.d y32),(33,.d y33),(46,.d y46),(47,.d y47),(80,.d y80),(81,.d y81)],⟨h,n⟩⟩=br (bX prog Ch [(6,x6),(7,x7),(8,x8),(10,x10),(11,x11),(12,.d y12),(13,x13),(15,.d y15),(16,x16),(17,.d y17),(18,.d y18),(19,.d y19),(32,.d y32),(33,.d y33),(46,.d y46),(47,.d y47),(80,.d y80),(81,.d y81)] ⟨h,n⟩):=bl (by kernel_rfl) (by kernel_rfl) (by kernel_rfl)
@[simp] theorem arn {x7:AV}{x8:AV}{h:ac}{n:Nat}:(Dn prog).code Ae ⟨[(7,x7),(8,x8)],⟨h,n⟩⟩=br (bA (da ((bY (bv x8++[]) h)) none (share x8)) fun a1=>bA (storeAt h 1 (share x7) (O)) fun h2=>bQ (bT (((bv x8++[])++[])) h h2) <| bA (storeAt h2 1 (share x8) (firm a1)) fun h3=>some ⟨[(6,.nl),(7,x7),(8,x8)],⟨h3,n⟩⟩):=cM rfl rfl (by kernel_rfl)
@[simp] theorem aqf {x6:AV}{x7:AV}{x8:AV}{h:ac}{n:Nat}:(Dn prog).code Ac ⟨[(6,x6),(7,x7),(8,x8)],⟨h,n⟩⟩=br (bX prog BQ [(6,x6),(7,x7),(8,x8)] ⟨h,n⟩):=bl (by kernel_rfl) (by kernel_rfl) (by kernel_rfl)
@[simp] theorem auU {x0:AV}{x1:AV}{h:ac}{n:Nat}:(Dn prog).code F5 ⟨[(0,x0),(1,x1)],⟨h,n⟩⟩=br (bA (da ((bY (bv x0++[]) h)) none (share x0)) fun a1=>bA (da h none x1) fun a2=>bP (bf (Dn prog) (firm a2) [] ⟨h,n⟩) fun a3 s4=>bQ (bT (((bv x0++[])++[])) h s4.heap) <| bA (c8 .or (firm a1) (firm a3)) fun a5=>bA (storeAt s4.heap 1 (share x0) (.d a5)) fun h6=>some ⟨[(0,x0)],⟨h6,s4.next⟩⟩):=cM rfl rfl (by kernel_rfl)
@[simp] theorem auB {x10:AV}{h:ac}{n:Nat}:(Dn prog).code wb ⟨[(10,x10)],⟨h,n⟩⟩=br (bX prog JD [(10,x10)] ⟨h,n⟩):=bl (by kernel_rfl) (by kernel_rfl) (by kernel_rfl)
@[simp] theorem au2 {x6:AV}{x10:AV}{h:ac}{n:Nat}:(Dn prog).code wo ⟨[(6,x6),(10,x10)],⟨h,n⟩⟩=br (bX prog Jq [(6,x6),(10,x10)] ⟨h,n⟩):=bl (by kernel_rfl) (by kernel_rfl) (by kernel_rfl)
@[simp] theorem aqm {x5:AV}{x6:AV}{x7:AV}{x8:AV}{y11:D}{y12:D}{h:ac}{n:Nat}:(Dn prog).code z6 ⟨[(5,x5),(6,x6),(7,x7),(8,x8),(11,.d y11),(12,.d y12)],⟨h,n⟩⟩=br (bX prog Co [(5,x5),(6,x6),(7,x7),(8,x8),(11,.d y11),(12,.d y12)] ⟨h,n⟩):=bl (by kernel_rfl) (by kernel_rfl) (by kernel_rfl)
@[simp] theorem alz {x0:AV}{y2:D}{h:ac}{n:Nat}:(Dn prog).code tn ⟨[(0,x0),(2,.d y2)],⟨h,n⟩⟩=br (bX prog ur [(0,x0),(2,.d y2)] ⟨h,n⟩):=bl (by kernel_rfl) (by kernel_rfl) (by kernel_rfl)
@[simp] theorem apG {x2:AV}{x8:AV}{x21:AV}{y22:D}{y23:D}{h:ac}{n:Nat}:(Dn prog).code xL ⟨[(2,x2),(8,x8),(21,x21),(22,.d y22),(23,.d y23)],⟨h,n⟩⟩=br (bX prog Ab [(2,x2),(8,x8),(21,x21),(22,.d y22),(23,.d y23)] ⟨h,n⟩):=bl (by kernel_rfl) (by kernel_rfl) (by kernel_rfl)
@[simp] theorem apI {y0:D}{y1:D}{x2:AV}{h:ac}{n:Nat}:(Dn prog).code yd ⟨[(0,.d y0),(1,.d y1),(2,x2)],⟨h,n⟩⟩=br (bX prog Af [(0,.d y0),(1,.d y1),(2,x2)] ⟨h,n⟩):=bl (by kernel_rfl) (by kernel_rfl) (by kernel_rfl)
@[simp] theorem apH {x0:AV}{x2:AV}{x3:AV}{y5:D}{y6:D}{y8:D}{x10:AV}{y11:D}{y12:D}{y13:D}{x14:AV}{y15:D}{y16:D}{x21:AV}{y22:D}{y23:D}{h:ac}{n:Nat}:(Dn prog).code xZ ⟨[(0,x0),(2,x2),(3,x3),(5,.d y5),(6,.d y6),(8,.d y8),(10,x10),(11,.d y11),(12,.d y12),(13,.d y13),(14,x14),(15,.d y15),(16,.d y16),(21,x21),(22,.d y22),(23,.d y23)],⟨h,n⟩⟩=br (bX prog z8 [(0,x0),(2,x2),(3,x3),(5,.d y5),(6,.d y6),(8,.d y8),(10,x10),(11,.d y11),(12,.d y12),(13,.d y13),(14,x14),(15,.d y15),(16,.d y16),(21,x21),(22,.d y22),(23,.d y23)] ⟨h,n⟩):=bl (by kernel_rfl) (by kernel_rfl) (by kernel_rfl)
@[simp] theorem auS {x2:AV}{y6:D}{x9:AV}{h:ac}{n:Nat}:(Dn prog).code GT ⟨[(2,x2),(6,.d y6),(9,x9)],⟨h,n⟩⟩=br (bX prog Jz [(2,x2),(6,.d y6),(9,x9)] ⟨h,n⟩):=bl (by kernel_rfl) (by kernel_rfl) (by kernel_rfl)
@[simp] theorem axf {y0:D}{x2:AV}{x4:AV}{h:ac}{n:Nat}:(Dn prog).code Jx ⟨[(0,.d y0),(2,x2),(4,x4)],⟨h,n⟩⟩=br (bX prog K7 [(0,.d y0),(2,x2),(4,x4)] ⟨h,n⟩):=bl (by kernel_rfl) (by kernel_rfl) (by kernel_rfl)
@[simp] theorem GZ {x2:AV}{x4:AV}{x6:AV}{h:ac}{n:Nat}:(Dn prog).code yz ⟨[(2,x2),(4,x4),(6,x6)],⟨h,n⟩⟩=br (bP (loadAt h (some 4) 1 (share x4)) fun a1 h2=>bA (ca (Dn prog) dG [firm a1] h2) fun a3=>lA (put h2 n (.cells [O8,O8,O8,O8,O8,O8,O8,O8,O8,O8,O8,O8,O8,O8,O8,O8,O8,O8,O8,O8,O8,O8,O8,O8,O8,O8,O8,O8,O8,O8,O8,O8,O8,O8,O8,O8,O8,O8,O8,O8,O8,O8,O8,O8,O8,O8,O8,O8,O8,O8,O8,O8,O8,O8,O8,O8,O8,O8,O8,O8,O8,O8,O8,O8,O8,O8,O8,O8,O8,O8,O8,O8,O8,O8,O8,O8,O8,O8,O8,O8,O8,O8,O8,O8,O8,O8,O8,O8,O8,O8,O8,O8,O8,O8,O8,O8,O8,O8,O8,O8,O8,O8,O8,O8,O8,O8,O8,O8,O8,O8,O8,O8,O8,O8,O8,O8,O8,O8,O8,O8,O8,O8,O8,O8,O8,O8,O8,O8,O8,O8,O8,O8,O8,O8,O8,O8,O8,O8,O8,O8,O8,O8,O8,O8,O8,O8,O8,O8,O8,O8,O8,O8,O8,O8,O8,O8,O8,O8,O8,O8,O8,O8,O8,O8,O8,O8,O8,O8,O8,O8,O8,O8,O8,O8,O8,O8,O8,O8,O8,O8,O8,O8,O8,O8,O8,O8,O8,O8,O8,O8,O8,O8,O8,O8,O8,O8,O8,O8,O8,O8,O8,O8,O8,O8,O8,O8,O8,O8,O8,O8,O8,O8,O8,O8,O8,O8,O8,O8,O8,O8,O8,O8,O8,O8,O8,O8,O8,O8,O8,O8,O8,O8,O8,O8,O8,O8,O8,O8,O8,O8,O8,O8,O8,O8,O8,O8,O8,O8,O8,O8,O8,O8,O8,O8,O8,O8,O8,O8,O8,O8,O8,O8,O8,O8,O8,O8,O8,O8,O8,O8,O8,O8,O8,O8,O8,O8,O8,O8,O8,O8,O8,O8,O8,O8,O8,O8,O8,O8,O8])) fun h4=>bA (storeAt h4 289 (.ptr n 0) (firm a3)) fun h5=>some ⟨[(2,x2),(4,x4),(6,x6),(7,.ptr n 0)],⟨h5,n+1⟩⟩):=yr (by kernel_rfl)
@[simp] theorem amH {x0:AV}{y1:D}{h:ac}{n:Nat}:(Dn prog).code vk ⟨[(0,x0),(1,.d y1)],⟨h,n⟩⟩=br (bX prog v8 [(0,x0),(1,.d y1)] ⟨h,n⟩):=bl (by kernel_rfl) (by kernel_rfl) (by kernel_rfl)
@[simp] theorem ah7 {x0:AV}{y3:D}{h:ac}{n:Nat}:(Dn prog).code oy ⟨[(0,x0),(3,.d y3)],⟨h,n⟩⟩=br (bX prog p9 [(0,x0),(3,.d y3)] ⟨h,n⟩):=bl (by kernel_rfl) (by kernel_rfl) (by kernel_rfl)
@[simp] theorem Bp {x1:AV}{x3:AV}{h:ac}{n:Nat}:(Dn prog).code uU ⟨[(1,x1),(3,x3)],⟨h,n⟩⟩=br (bP (loadAt h (some 4) 1 (share x3)) fun a1 h2=>bA (ca (Dn prog) dG [firm a1] h2) fun a3=>lA (put h2 n (.cells [O8,O8,O8,O8,O8,O8,O8,O8,O8,O8,O8,O8,O8,O8,O8,O8,O8,O8,O8,O8,O8,O8,O8,O8,O8,O8,O8,O8,O8,O8,O8,O8,O8,O8,O8,O8,O8,O8,O8,O8,O8,O8,O8,O8,O8,O8,O8,O8,O8,O8,O8,O8,O8,O8,O8,O8,O8,O8,O8,O8,O8,O8,O8,O8,O8,O8,O8,O8,O8,O8,O8,O8,O8,O8,O8,O8,O8,O8,O8,O8,O8,O8,O8,O8,O8,O8,O8,O8,O8,O8,O8,O8,O8,O8,O8,O8,O8,O8,O8,O8,O8,O8,O8,O8,O8,O8,O8,O8,O8,O8,O8,O8,O8,O8,O8,O8,O8,O8,O8,O8,O8,O8,O8,O8,O8,O8,O8,O8,O8,O8,O8,O8,O8,O8,O8,O8,O8,O8,O8,O8,O8,O8,O8,O8,O8,O8,O8,O8,O8,O8,O8,O8,O8,O8,O8,O8,O8,O8,O8,O8,O8,O8,O8,O8,O8,O8,O8,O8,O8,O8,O8,O8,O8,O8,O8,O8,O8,O8,O8,O8,O8,O8,O8,O8,O8,O8,O8,O8,O8,O8,O8,O8,O8,O8,O8,O8,O8,O8,O8,O8,O8,O8,O8,O8,O8,O8,O8,O8,O8,O8,O8,O8,O8,O8,O8,O8,O8,O8,O8,O8,O8,O8,O8,O8,O8,O8,O8,O8,O8,O8,O8,O8,O8,O8,O8,O8,O8,O8,O8,O8,O8,O8,O8,O8,O8,O8,O8,O8,O8,O8,O8,O8,O8,O8,O8,O8,O8,O8,O8,O8,O8,O8,O8,O8,O8,O8,O8,O8,O8,O8,O8,O8,O8,O8,O8,O8,O8,O8,O8,O8,O8,O8,O8,O8,O8,O8,O8,O8,O8])) fun h4=>bA (storeAt h4 289 (.ptr n 0) (firm a3)) fun h5=>some ⟨[(1,x1),(3,x3),(5,.ptr n 0)],⟨h5,n+1⟩⟩):=yr (by kernel_rfl)
@[simp] theorem sX {x0:AV}{h:ac}{n:Nat}:(Dn prog).code mi ⟨[(0,x0)],⟨h,n⟩⟩=br (bQ ((AV.cells x0).all bM) <| lA (put h n (.cells (AV.cells x0))) fun h1=>lA (put h1 (n+1) (.cells [O8,O8,O8,O8,O8,O8,O8,O8,O8,O8,O8,O8,O8,O8,O8,O8,O8,O8,O8,O8,O8,O8,O8,O8,O8,O8,O8,O8,O8,O8,O8,O8,O8,O8,O8,O8,O8,O8,O8,O8,O8,O8,O8,O8,O8,O8,O8,O8,O8,O8,O8,O8,O8,O8,O8,O8,O8,O8,O8,O8,O8,O8,O8,O8,O8,O8,O8,O8,O8,O8,O8,O8,O8,O8,O8,O8,O8,O8,O8,O8,O8,O8,O8,O8,O8,O8,O8,O8,O8,O8,O8,O8,O8,O8,O8,O8,O8,O8,O8,O8,O8,O8,O8,O8,O8,O8,O8,O8,O8,O8,O8,O8,O8,O8,O8,O8,O8,O8,O8,O8,O8,O8,O8,O8,O8,O8,O8,O8,O8,O8,O8,O8,O8,O8,O8,O8,O8,O8,O8,O8,O8,O8,O8,O8,O8,O8,O8,O8,O8,O8,O8,O8,O8,O8,O8,O8,O8,O8,O8,O8,O8,O8,O8,O8,O8,O8,O8,O8,O8,O8,O8,O8,O8,O8,O8,O8,O8,O8,O8,O8,O8,O8,O8,O8,O8,O8,O8,O8,O8,O8,O8,O8,O8,O8,O8,O8,O8,O8,O8,O8,O8,O8,O8,O8,O8,O8,O8,O8,O8,O8,O8,O8,O8,O8,O8,O8,O8,O8,O8,O8,O8,O8,O8,O8,O8,O8,O8,O8,O8,O8,O8,O8,O8,O8,O8,O8,O8,O8,O8,O8,O8,O8,O8,O8,O8,O8,O8,O8,O8,O8,O8,O8,O8,O8,O8,O8,O8,O8,O8,O8,O8,O8,O8,O8,O8,O8,O8,O8,O8,O8,O8,O8,O8,O8,O8,O8,O8,O8,O8,O8,O8,O8,O8,O8,O8,O8,O8,O8,O8])) fun h2=>some ⟨[(1,.ptr n 0),(2,.ptr (n+1) 0)],⟨h2,n+1+1⟩⟩):=yr (by kernel_rfl)
@[simp] theorem ama {y1:D}{x2:AV}{x5:AV}{y6:D}{h:ac}{n:Nat}:(Dn prog).code sR ⟨[(1,.d y1),(2,x2),(5,x5),(6,.d y6)],⟨h,n⟩⟩=br (bX prog ua [(1,.d y1),(2,x2),(5,x5),(6,.d y6)] ⟨h,n⟩):=bl (by kernel_rfl) (by kernel_rfl) (by kernel_rfl)
@[simp] theorem Kg {x0:AV}{y1:D}{y2:D}{x3:AV}{y8:D}{y9:D}{h:ac}{n:Nat}:(Dn prog).code iy ⟨[(0,x0),(1,.d y1),(2,.d y2),(3,x3),(8,.d y8),(9,.d y9)],⟨h,n⟩⟩=br (bX prog iT [(0,x0),(1,.d y1),(2,.d y2),(3,x3),(8,.d y8),(9,.d y9)] ⟨h,n⟩):=bl (by kernel_rfl) (by kernel_rfl) (by kernel_rfl)
@[simp] theorem Kf {x0:AV}{y1:D}{y2:D}{x3:AV}{y8:D}{y9:D}{h:ac}{n:Nat}:(Dn prog).code iA ⟨[(0,x0),(1,.d y1),(2,.d y2),(3,x3),(8,.d y8),(9,.d y9)],⟨h,n⟩⟩=br (bX prog iK [(0,x0),(1,.d y1),(2,.d y2),(3,x3),(8,.d y8),(9,.d y9)] ⟨h,n⟩):=bl (by kernel_rfl) (by kernel_rfl) (by kernel_rfl)
@[simp] theorem Um {x0:AV}{y1:D}{x4:AV}{y10:D}{y11:D}{y12:D}{h:ac}{n:Nat}:(Dn prog).code j7 ⟨[(0,x0),(1,.d y1),(4,x4),(10,.d y10),(11,.d y11),(12,.d y12)],⟨h,n⟩⟩=br (bX prog kt [(0,x0),(1,.d y1),(4,x4),(10,.d y10),(11,.d y11),(12,.d y12)] ⟨h,n⟩):=bl (by kernel_rfl) (by kernel_rfl) (by kernel_rfl)
@[simp] theorem Q7 {x0:AV}{y10:D}{y13:D}{h:ac}{n:Nat}:(Dn prog).code jS ⟨[(0,x0),(10,.d y10),(13,.d y13)],⟨h,n⟩⟩=br (bX prog j9 [(0,x0),(10,.d y10),(13,.d y13)] ⟨h,n⟩):=bl (by kernel_rfl) (by kernel_rfl) (by kernel_rfl)
@[simp] theorem Q4 {x0:AV}{y2:D}{x4:AV}{y14:D}{y15:D}{y16:D}{h:ac}{n:Nat}:(Dn prog).code jE ⟨[(0,x0),(2,.d y2),(4,x4),(14,.d y14),(15,.d y15),(16,.d y16)],⟨h,n⟩⟩=br (bX prog ka [(0,x0),(2,.d y2),(4,x4),(14,.d y14),(15,.d y15),(16,.d y16)] ⟨h,n⟩):=bl (by kernel_rfl) (by kernel_rfl) (by kernel_rfl)
@[simp] theorem QO {x0:AV}{y14:D}{y17:D}{h:ac}{n:Nat}:(Dn prog).code jC ⟨[(0,x0),(14,.d y14),(17,.d y17)],⟨h,n⟩⟩=br (bX prog j5 [(0,x0),(14,.d y14),(17,.d y17)] ⟨h,n⟩):=bl (by kernel_rfl) (by kernel_rfl) (by kernel_rfl)
@[simp] theorem Rn {x0:AV}{y1:D}{y2:D}{y3:D}{x4:AV}{y18:D}{y19:D}{y20:D}{y21:D}{y22:D}{y23:D}{h:ac}{n:Nat}:(Dn prog).code jL ⟨[(0,x0),(1,.d y1),(2,.d y2),(3,.d y3),(4,x4),(18,.d y18),(19,.d y19),(20,.d y20),(21,.d y21),(22,.d y22),(23,.d y23)],⟨h,n⟩⟩=br (bX prog kb [(0,x0),(1,.d y1),(2,.d y2),(3,.d y3),(4,x4),(18,.d y18),(19,.d y19),(20,.d y20),(21,.d y21),(22,.d y22),(23,.d y23)] ⟨h,n⟩):=bl (by kernel_rfl) (by kernel_rfl) (by kernel_rfl)
@[simp] theorem Q8 {x0:AV}{y1:D}{y2:D}{y3:D}{y10:D}{h:ac}{n:Nat}:(Dn prog).code jP ⟨[(0,x0),(1,.d y1),(2,.d y2),(3,.d y3),(10,.d y10)],⟨h,n⟩⟩=br (bX prog j8 [(0,x0),(1,.d y1),(2,.d y2),(3,.d y3),(10,.d y10)] ⟨h,n⟩):=bl (by kernel_rfl) (by kernel_rfl) (by kernel_rfl)
theorem gI:prog qc=some dg:=rfl
theorem F0:prog iO=some lK:=rfl
theorem bR:prog iN=some bz:=rfl
theorem afy:prog kq=some DF:=rfl
theorem CZ:prog dW=some oL:=rfl
theorem yi:prog kB=some oY:=rfl
theorem I3:prog jp=some ma:=rfl
theorem api:prog ed=some IY:=rfl
theorem apr:prog Hy=some Ir:=rfl
theorem apu:prog HW=some Ix:=rfl
theorem alk:prog EF=some D8:=rfl
theorem aes:prog pV=some wm:=rfl
theorem aga:prog zD=some yE:=rfl
theorem akI:prog uO=some Bo:=rfl
theorem Xz:prog AI=some Ai:=rfl
theorem VZ:prog iV=some uo:=rfl
theorem akM:prog dV=some Cx:=rfl
theorem aaG:prog dB=some w9:=rfl
theorem ac1:prog pi=some wa:=rfl
theorem aaZ:prog pP=some wj:=rfl
theorem VL:prog nT=some uP:=rfl
theorem aeh:prog pq=some wI:=rfl
theorem akR:prog tN=some Bl:=rfl
theorem acd:prog pb=some wu:=rfl
theorem aa9:prog pW=some wY:=rfl
theorem ach:prog pe=some we:=rfl
theorem aja:prog oc=some CA:=rfl
theorem alR:prog qo=some EZ:=rfl
theorem aoK:prog cB=some HH:=rfl
theorem amc:prog xx=some EC:=rfl
theorem amq:prog ni=some Fe:=rfl
theorem Rw:prog ic=some xz:=rfl
theorem alU:prog qw=some Fq:=rfl
theorem Hq:prog t4=some uH:=rfl
theorem al1:prog mZ=some Ea:=rfl
theorem aoM:prog Jm=some Ib:=rfl
theorem alu:prog mX=some Ed:=rfl
theorem alo:prog EV=some EP:=rfl
theorem al0:prog na=some Fg:=rfl
theorem alL:prog nq=some Ef:=rfl
theorem Rc:prog il=some xA:=rfl
theorem ahP:prog zq=some y7:=rfl
theorem aml:prog mY=some Fa:=rfl
theorem apw:prog pC=some Ik:=rfl
theorem He:prog mc=some mb:=rfl
theorem Iz:prog ej=some mB:=rfl
theorem xf:prog gU=some gZ:=rfl
theorem Aw:prog js=some jm:=rfl
theorem Dh:prog kh=some kg:=rfl
theorem Kd:prog j0=some nD:=rfl
theorem ajg:prog tW=some CH:=rfl
theorem Bj:prog jM=some jU:=rfl
theorem Jf:prog eq=some mD:=rfl
theorem amg:prog Ek=some EX:=rfl
theorem ajm:prog oZ=some Ba:=rfl
theorem akB:prog oi=some CD:=rfl
theorem akx:prog Bc=some CV:=rfl
theorem ajv:prog uj=some Bv:=rfl
theorem agI:prog zQ=some yX:=rfl
theorem ago:prog zi=some z5:=rfl
theorem agN:prog kl=some zx:=rfl
theorem al3:prog xE=some EH:=rfl
theorem ME:prog fw=some og:=rfl
theorem tY:prog fR=some fY:=rfl
theorem Uw:prog mg=some sf:=rfl
theorem Yy:prog uw=some uk:=rfl
theorem U5:prog iI=some ui:=rfl
theorem Xp:prog iL=some uZ:=rfl
theorem agm:prog ko=some zA:=rfl
theorem adr:prog jy=some wF:=rfl
theorem agM:prog kp=some yP:=rfl
theorem acx:prog jz=some wX:=rfl
theorem ab0:prog dA=some wS:=rfl
theorem aqP:prog DI=some LU:=rfl
theorem al5:prog xl=some Eq:=rfl
theorem ajj:prog oI=some BH:=rfl
theorem alw:prog mW=some Ee:=rfl
theorem Gi:prog fB=some lN:=rfl
theorem alQ:prog Fh=some E2:=rfl
theorem Yj:prog nW=some tS:=rfl
theorem aoa:prog pt=some IM:=rfl
theorem acA:prog wB=some v9:=rfl
theorem alm:prog Ep=some Fo:=rfl
theorem al8:prog xH=some Ff:=rfl
theorem alP:prog xF=some Ej:=rfl
theorem vX:prog bW=some gD:=rfl
theorem SB:prog gT=some so:=rfl
theorem af8:prog zh=some yR:=rfl
theorem amv:prog Fj=some EQ:=rfl
theorem JM:prog nG=some nz:=rfl
theorem alc:prog li=some Cj:=rfl
theorem aiH:prog ul=some Cc:=rfl
theorem al7:prog xt=some Ei:=rfl
theorem aaH:prog pw=some xi:=rfl
theorem VH:prog n9=some um:=rfl
theorem amu:prog xr=some E3:=rfl
theorem ahO:prog qT=some zo:=rfl
theorem OG:prog jh=some qf:=rfl
theorem Gw:prog lO=some lM:=rfl
theorem ahb:prog mO=some yM:=rfl
theorem Vy:prog f9=some u4:=rfl
theorem X4:prog dR=some uf:=rfl
theorem lZ:prog iF=some eG:=rfl
theorem OW:prog jk=some qi:=rfl
theorem VY:prog uq=some ve:=rfl
theorem zB:prog cu=some jc:=rfl
theorem VA:prog nP=some uV:=rfl
theorem apE:prog Hu=some HC:=rfl
theorem ahe:prog qK=some yL:=rfl
theorem Te:prog gY=some rL:=rfl
theorem ait:prog oM=some Cb:=rfl
theorem Ka:prog nH=some nA:=rfl
theorem Oj:prog qm=some qn:=rfl
theorem QH:prog dG=some qj:=rfl
theorem wT:prog gW=some gS:=rfl
theorem ajl:prog uJ=some Ca:=rfl
theorem Ke:prog nB=some nE:=rfl
theorem mL:prog jg=some fg:=rfl
theorem Xa:prog kD=some u5:=rfl
theorem La:prog oQ=some oC:=rfl
theorem qb:prog ke=some gK:=rfl
theorem zZ:prog jb=some iX:=rfl
theorem PE:prog kZ=some qk:=rfl
theorem qE:prog c6=some eW:=rfl
theorem b6:prog aF=some bx:=rfl
theorem zT:prog i9=some jd:=rfl
theorem vU:prog cJ=some gE:=rfl
abbrev i64 (n:Int):Prop:=-9223372036854775808≤n∧n≤9223372036854775807
theorem pg (n:Int):aO prog tW [.d (.int .i64 n)]=if 0≤n∧n≤31 then some (.d (.bool true)) else some (.d (.bool false)):=by
 rw[aq ajg CH.eq_1 rfl];simp
def val:List Nat→Nat→Nat
 | [],n=>n
 | x::r,n=>val r (2*n+x)
abbrev bin (l:List Nat):Prop:=∀ x∈l,x≤1
theorem Ki:∀ {l:List Nat}{n i:Nat},bin l→n<2 ^ i→val l n<2 ^ (i+l.length)
 | [],n,i,h,hn=>by simpa [val] using hn
 | x::r,n,i,h,hn=>by
  have h1:2 ^ (i+1)=2*2 ^ i:=by rw[Nat.pow_succ];omega
  have h2:=h x (by simp);have:=Ki (l:=r) (n:=2*n+x) (i:=i+1) (fun y hy=>h y (by simp[hy])) (by omega);simpa [val,Nat.add_assoc,Nat.add_comm 1] using this
def aQ (b:List Nat) (a s:Int):R Nat :=
 if (0≤s∧s≤31)∧0≤a∧a≤b.length then
  if b.length-a<s then .er 4
  else if bin ((b.drop a.toNat).take s.toNat) then .ok (val ((b.drop a.toNat).take s.toNat) 0) (a.toNat+s.toNat)
  else .er 7
 else .er 1
abbrev pG (b:List Nat) (s:Int) (v n:Nat):Prop:=v<2 ^ s.toNat∧n≤b.length
theorem awZ {γ:Type}{b:List Nat}{a s:Int}{f:Nat→Nat→γ}{g:Nat→γ}:rK (pG b s) (aQ b a s) f g =
  if (0≤s∧s≤31)∧0≤a∧a≤b.length then
   if b.length-a<s then g 4
   else if bin ((b.drop a.toNat).take s.toNat) then f (val ((b.drop a.toNat).take s.toNat) 0) (a.toNat+s.toNat) else g 7
  else g 1:=by
 unfold aQ;by_cases h1:(0≤s∧s≤31)∧0≤a∧a≤b.length
 ·rw[if_pos h1,if_pos h1];by_cases h2:b.length-a<s
  ·rw[if_pos h2,if_pos h2,fc]
  ·rw[if_neg h2,if_neg h2];by_cases h3:bin ((b.drop a.toNat).take s.toNat)
   ·rw[if_pos h3,if_pos h3,cG];have:=Ki (n:=0) (i:=0) h3 (by omega);have hl:((b.drop a.toNat).take s.toNat).length=s.toNat:=by simp;omega
    rw[hl]at this;exact⟨by simpa using this,by omega⟩
   ·rw[if_neg h3,if_neg h3,fc]
 ·rw[if_neg h1,if_neg h1,fc]
theorem alS (b:List Nat) (a sz:Nat) (hl:b.length≤1000000000) (hb:a+sz≤b.length) (hs:sz≤31) (h:ac) (m:Nat):∀ (k i n:Nat) (I N:Int),I=i→N=n→i+k=sz→n<2 ^ i→
  (Dn prog).code (.loop qM) ⟨[(0,.d (.lst (af b))),(1,.d (.int .i64 a)),(2,.d (.int .i64 sz)),(6,.d (.int .i64 N)),(31,.d (.int .i64 sz)),(32,.d (.int .i64 I))],⟨h,m⟩⟩ =
   if bin ((b.drop (a+i)).take k) then some (.exit 1,⟨[(1,.d (.int .i64 a)),(2,.d (.int .i64 sz)),(6,.d (.int .i64 (val ((b.drop (a+i)).take k) n:Nat)))],⟨h,m⟩⟩)
   else some (.ret,⟨[(6,.d (.int .i64 0)),(7,.d (.int .i64 0)),(8,.d (.int .i64 8))],⟨h,m⟩⟩):=by
 intro k
 induction k with
 | zero =>
  intro i n I N hI hN hi hn;subst hI hN;rw[aa qM.eq_1];have:¬ (i<sz):=by omega
  simp (disch:=omega) [this,val,bin]
 | succ k ih =>
  intro i n I N hI hN hi hn;subst hI hN;rw[aa qM.eq_1,kR (by omega),List.take_succ_cons];have:i<sz:=by omega
  have h2:2 ^ i≤2 ^ 30:=Nat.pow_le_pow_right (by omega) (by omega);have h3:2 ^ (i+1)=2*2 ^ i:=by rw[Nat.pow_succ];omega
  simp (disch:=omega) [this,val,bin];by_cases hx:nth b (a+i)≤1
  ·rw[if_neg (by omega),ih (i+1) (2*n+nth b (a+i)) _ _ (by omega) (by omega) (by omega) (by omega)];simp[hx,bin,Nat.add_assoc]
  ·rw[if_pos (by omega)];simp[hx]
theorem ez (b:List Nat) (a s:Int) (hb:b.length≤1000000000) (ha:i64 a):aO prog cB [.d (.lst (af b)),.d (.int .i64 a),.d (.int .i64 s)]=rK (pG b s) (aQ b a s) (fun v n=>some (.tup [.d (.int .i64 v),.d (.int .i64 n),.d (.int .i64 0)])) fun e=>some (.tup [.d (.int .i64 0),.d (.int .i64 0),.d (.int .i64 (e+1))]):=by
 rw[aq aoK HH.eq_1 rfl,awZ];simp (disch:=omega) [pg];by_cases h1:(0≤s∧s≤31)∧0≤a∧a≤b.length
 ·obtain⟨⟨s0,s1⟩,a0,a1⟩:=h1;obtain⟨S,rfl⟩:=Int.eq_ofNat_of_zero_le s0;obtain⟨A,rfl⟩:=Int.eq_ofNat_of_zero_le a0;by_cases h2:(b.length:Int)-A<S
  ·simp[h2]
  ·have:=alS b A S hb (by omega) (by omega) [] 0 S 0 0 0 0 rfl rfl (by omega) (by omega);rw[Nat.add_zero]at this;simp (disch:=omega) [this]
 ·simp[h1]
def ao3 (k lines by_:Nat):Nat→Nat→List Nat
 | 0,at_=>[at_]
 | f+1,at_=>at_::if at_<lines then ao3 k lines by_ f (min lines (at_+4+4*(at_*k / by_))) else []
def offs (rate:Nat) (short:Bool):List Nat:=cond short (ao3 (3+(11-rate) / 2) 32 64 99 0) (ao3 (3+(11-rate) / 2) 256 256 99 0)
def AF:List (Nat×Bool):=(List.range 12).flatMap fun r=>[(r,false),(r,true)]
theorem dI {r:Nat}{s:Bool}(h:r<12):(r,s)∈AF:=by
 simp only[AF,List.mem_flatMap,List.mem_range];exact⟨r,h,by cases s<;>simp⟩
theorem agV:∀ x∈AF,aO prog jz [.d (.int .i64 x.1),.d (.bool x.2)]=some (.tup [.own true 1 (bj (offs x.1 x.2)),.d (.int .i64 0)]):=BE 100 AF (by kernel_rfl)
theorem Vs:∀ x∈AF,1≤(offs x.1 x.2).length∧(offs x.1 x.2).length≤64:=by decide +kernel
def nU (rate:Nat) (short:Bool):Nat:=(offs rate short).length-1
theorem CR {r:Nat}{s:Bool}(h:r<12):nU r s≤63:=by
 have:=Vs _ (dI (s:=s) h);simp only[nU]at *;omega
abbrev dc (r:Int):Prop:=0≤r∧r≤11
theorem uv (r:Int) (s:Bool):aO prog jz [.d (.int .i64 r),.d (.bool s)]=if dc r then some (.tup [.own true 1 (bj (offs r.toNat s)),.d (.int .i64 0)]) else some (.tup [.nl,.d (.int .i64 2)]):=by
 by_cases h:dc r
 ·obtain⟨R,rfl⟩:=Int.eq_ofNat_of_zero_le h.1;rw[if_pos h,agV (R,s) (dI (by omega))];rfl
 ·rw[if_neg h,aq acx wX.eq_1 rfl];simp (disch:=omega) [↓if_pos,awe]
theorem gx (r:Int) (s:Bool):aO prog qo [.d (.int .i64 r),.d (.bool s)]=if dc r then some (.tup [.d (.int .i64 (nU r.toNat s)),.d (.int .i64 0)]) else some (.tup [.d (.int .i64 0),.d (.int .i64 2)]):=by
 rw[aq alR EZ.eq_1 rfl];by_cases h:dc r
 ·have h2:=Vs _ (dI (r:=r.toNat) (s:=s) (by omega));simp (disch:=omega) only at h2;simp (disch:=omega) [uv,if_pos h,nU];split<;>simp<;>omega
 ·simp (disch:=omega) [uv,if_neg h]
structure am where
 seq:Nat
 shape:Nat
 max:Int
 groups:List Int
@[simp] def am.cells (i:am):List AV:=[.d (.int .u8 i.seq),.d (.int .u8 i.shape),.d (.int .i64 i.max),.d (.lst (ai i.groups))]
structure am.Fit (i:am):Prop where
 seq:i.seq≤255
 shape:i.shape≤255
 max:i64 i.max
 len:i.groups.length≤1000
 groups:∀ n∈i.groups,i64 n
theorem Y2 (a b:List Int) (hl:a.length≤1000000) (he:a.length=b.length) (h:ac) (m:Nat):∀ (k i:Nat) (I:Int),I=i→i+k=a.length→
  (Dn prog).code (.loop ig) ⟨[(0,.d (.lst (ai a))),(1,.d (.lst (ai b))),(12,.d (.int .i64 a.length)),(13,.d (.int .i64 I))],⟨h,m⟩⟩=if a.drop i=b.drop i then some (.exit 0,⟨[],⟨h,m⟩⟩) else some (.ret,⟨[(4,.d (.bool false))],⟨h,m⟩⟩):=by
 intro k
 induction k with
 | zero =>
  intro i I hI hi;subst hI;rw[aa ig.eq_1,List.drop_eq_nil_of_le (by omega),List.drop_eq_nil_of_le (by omega)];simp (disch:=omega) [↓if_neg]
 | succ k ih =>
  intro i I hI hi;subst hI;rw[aa ig.eq_1,kR (l:=a) (by omega),kR (l:=b) (by omega)];simp (disch:=omega) [↓if_pos];rw[ih (i+1) _ (by omega) (by omega)];by_cases hx:nth a i=nth b i<;>simp[hx]
theorem aiP (a b:List Int) (hl:a.length≤1000000) (hb:b.length≤1000000):aO prog j0 [.d (.lst (ai a)),.d (.lst (ai b))]=if a=b then some (.d (.bool true)) else some (.d (.bool false)):=by
 rw[aq Kd nD.eq_1 rfl];by_cases he:a.length=b.length
 ·have:=Y2 a b hl he [] 0 a.length 0 0 rfl (by omega);simp (disch:=omega) [this,↓if_pos]
 ·have:a≠b:=fun h=>he (by rw[h])
  simp (disch:=omega) [this,↓if_neg]
def am.grouped (i:am):Prop:=if i.seq=2 then (∀ n∈i.groups,1≤n∧n≤8)∧i.groups.sum=8∧(i.groups.length:Int)≤8 else i.groups=[1]
instance {i:am}:Decidable i.grouped:=by unfold am.grouped;infer_instance
theorem apd (i:am) (hi:i.groups.length≤1000) (m:Nat):∀ (k j:Nat) (J S:Int),J=j→j+k=i.groups.length→0≤S∧S≤8*j→
  (Dn prog).code (.loop lg) ⟨[(1,.ptr 0 0),(3,.d (.int .i64 S)),(14,.d (.lst (ai i.groups))),(15,.d (.int .i64 i.groups.length)),(16,.d (.int .i64 J))],⟨[(0,.cells i.cells)],m⟩⟩ =
   if ∀ n∈i.groups.drop j,1≤n∧n≤8 then some (.exit 0,⟨[(1,.ptr 0 0),(3,.d (.int .i64 (S+(i.groups.drop j).sum)))],⟨[(0,.cells i.cells)],m⟩⟩) else some (.ret,⟨[(2,.d (.bool false))],⟨[(0,.cells i.cells)],m⟩⟩):=by
 simp only[am.cells];intro k
 induction k with
 | zero =>
  intro j J S hJ hj hS;subst hJ;rw[aa lg.eq_1,List.drop_eq_nil_of_le (by omega)];simp (disch:=omega) [↓if_neg]
 | succ k ih =>
  intro j J S hJ hj hS;subst hJ;rw[aa lg.eq_1,kR (by omega)];simp (disch:=omega) [↓if_pos];by_cases hx:1≤nth i.groups j∧nth i.groups j≤8
  ·rw[if_neg (by omega),ih (j+1) _ _ (by omega) (by omega) (by omega)];simp[hx,Int.add_assoc]
  ·rw[if_pos (by omega),if_neg (fun h=>hx ⟨h.1.1,h.1.2⟩)]
theorem aje (i:am) (hi:i.Fit):aO prog wB [.agg i.cells]=if i.grouped then some (.d (.bool true)) else some (.d (.bool false)):=by
 have hl:=hi.len;rw[aq acA v9.eq_1 rfl];unfold am.grouped;by_cases hs:i.seq=2
 ·have:=apd i hi.len 1 i.groups.length 0 0 0 rfl (by omega) (by omega);simp only[am.cells]at this;simp (disch:=omega) [↓if_pos,↓if_neg,this]
 ·have:=aiP i.groups [1] (by omega) (by simp);have h1:ai [1]=[[.int .i64 1]]:=rfl;rw[h1]at this;simp (disch:=omega) [this,↓if_neg,↓if_pos]
def am.may (r:Nat) (i:am):Prop:=i.seq≤3∧i.shape≤1∧0≤i.max∧i.max≤nU r (decide (i.seq=2))∧i.grouped
instance {r:Nat}{i:am}:Decidable (i.may r):=by unfold am.may;infer_instance
theorem pr (r:Int) (i:am) (hi:i.Fit):aO prog dV [.d (.int .i64 r),.agg i.cells]=if dc r then if i.may r.toNat then some (.d (.int .i64 0)) else some (.d (.int .i64 8)) else some (.d (.int .i64 2)):=by
 have hg:=aje i hi;simp only[am.cells]at hg;rw[aq akM Cx.eq_1 rfl];by_cases hr:dc r
 ·by_cases hs:i.seq=2
  ·simp (config := { maxSteps:=1000000 }) (disch:=omega) [gx,↓if_pos,↓if_neg,hg];refine auF ?_;by_cases h:i.grouped<;>simp[am.may,h,hs];omega
  ·simp (config := { maxSteps:=1000000 }) (disch:=omega) [gx,↓if_pos,↓if_neg,hg];refine auF ?_;by_cases h:i.grouped<;>simp[am.may,h,hs];omega
 ·by_cases hs:i.seq=2
  ·simp (config := { maxSteps:=1000000 }) (disch:=omega) [gx,↓if_pos,↓if_neg]
  ·simp (config := { maxSteps:=1000000 }) (disch:=omega) [gx,↓if_pos,↓if_neg]
theorem aq4 (i:am) (hi:i.Fit):aO prog Ep [.agg i.cells]=if i.may 11 then some (.d (.bool true)) else some (.d (.bool false)):=by
 have hg:=pr 11 i hi;simp only[am.cells]at hg;rw[aq alm Fo.eq_1 rfl];simp (config := { maxSteps:=1000000 }) (disch:=omega) [hg,↓if_pos]
def am.many (i:am):Nat:=if i.seq=2 then 8 else 1
theorem jD (i:am) (hi:i.Fit):aO prog dB [.agg i.cells]=if i.may 11 then some (.tup [.d (.int .i64 i.many),.d (.int .i64 0)]) else some (.tup [.d (.int .i64 0),.d (.int .i64 8)]):=by
 have hg:=aq4 i hi;simp only[am.cells]at hg;rw[aq aaG w9.eq_1 rfl];by_cases hs:i.seq=2
 ·simp (config := { maxSteps:=1000000 }) (disch:=omega) [hg,↓if_pos,am.many]
 ·simp (config := { maxSteps:=1000000 }) (disch:=omega) [hg,↓if_neg,am.many]
theorem lk:∀ {l:List Int},(∀ n∈l,1≤n)→(l.length:Int)≤l.sum
 | [],_=>by simp
 | x::r,h=>by
  have:=lk (l:=r) (fun n hn=>h n (by simp[hn]));have:=h x (by simp);simp;omega
def vO (b:List Nat) (a s:Int):Nat:=match aQ b a s with | .ok v _=>v | .er _=>0
def nO (b:List Nat) (a s:Int):Nat:=match aQ b a s with | .ok _ n=>n | .er _=>0
def eO (b:List Nat) (a s:Int):Nat:=match aQ b a s with | .ok _ _=>0 | .er e=>e+1
theorem cZ {b:List Nat}{a s:Int}{v n:Nat}(h:aQ b a s=.ok v n):pG b s v n:=by
 unfold aQ at h;by_cases h1:(0≤s∧s≤31)∧0≤a∧a≤b.length
 ·rw[if_pos h1]at h;by_cases h2:b.length-a<s
  ·rw[if_pos h2]at h;exact absurd h (by simp)
  ·rw[if_neg h2]at h;by_cases h3:bin ((b.drop a.toNat).take s.toNat)
   ·rw[if_pos h3]at h;injection h with hv hn
    have:=Ki (n:=0) (i:=0) h3 (by omega);have hl:((b.drop a.toNat).take s.toNat).length=s.toNat:=by simp;omega
    rw[hl]at this;subst hv hn;exact⟨by simpa using this,by omega⟩
   ·rw[if_neg h3]at h;exact absurd h (by simp)
 ·rw[if_neg h1]at h;exact absurd h (by simp)
theorem DM (b:List Nat) (a s:Int) (hb:b.length≤1000000000) (ha:i64 a):aO prog cB [.d (.lst (af b)),.d (.int .i64 a),.d (.int .i64 s)]=some (.tup [.d (.int .i64 (vO b a s)),.d (.int .i64 (nO b a s)),.d (.int .i64 (eO b a s))]):=by
 rw[ez b a s hb ha];unfold vO nO eO
 cases h:aQ b a s with
 | ok v n=>rw[cG (cZ h)];simp
 | er e=>simp[rK]
structure RS where
 a:Int
 e:Nat
def ra (s:RS):Int:=s.a
def re (s:RS):Nat:=s.e
def sV (b:List Nat) (st:RS) (s:Int):Nat:=if st.e=0 then vO b st.a s else 0
def sN (b:List Nat) (st:RS) (s:Int):RS:=if st.e=0 then ⟨nO b st.a s,eO b st.a s⟩ else st
theorem aAk {b:List Nat}{a s:Int}:vO b a s<2 ^ s.toNat:=by
 unfold vO
 cases h:aQ b a s with
 | ok v n=>exact(cZ h).1
 | er e=>exact Nat.two_pow_pos _
theorem oa {b:List Nat}{st:RS}{s:Int}:sV b st s<2 ^ s.toNat:=by
 unfold sV;split
 ·exact aAk
 ·exact Nat.two_pow_pos _
theorem aph {b:List Nat}{a s:Int}:nO b a s≤b.length:=by
 unfold nO
 cases h:aQ b a s with
 | ok v n=>exact(cZ h).2
 | er e=>exact Nat.zero_le _
def RS.fit (st:RS):Prop:=i64 st.a
theorem db {b:List Nat}{st:RS}{s:Int}(hb:b.length≤1000000000) (h:st.fit):(sN b st s).fit:=by
 unfold sN;split
 ·have:=aph (b:=b) (a:=st.a) (s:=s);show i64 _;simp only[];omega
 ·exact h
def sL (b:List Nat):Nat→RS→List Nat
 | 0,_=>[]
 | k+1,st=>sV b st 1::sL b k (sN b st 1)
def D3 (b:List Nat):Nat→RS→RS
 | 0,st=>st
 | k+1,st=>D3 b k (sN b st 1)
theorem tP (b:List Nat) (s:Int) (st:RS) (X:Obj) (R:ac) (N:Nat) (hb:b.length≤1000000000) (ha:st.fit):(Dn prog).call li [.d (.int .i64 s),.ptr 3 0,.ptr 0 0,.ptr 2 0] ⟨(0,.cells [.d (.lst (af b))])::(1,X)::(2,.cells [.d (.int .i64 (ra st))])::(3,.cells [.d (.int .i64 (re st))])::R,N⟩ =
  some (.d (.int .i64 (sV b st s)),⟨(0,.cells [.d (.lst (af b))])::(1,X)::(2,.cells [.d (.int .i64 (ra (sN b st s)))])::(3,.cells [.d (.int .i64 (re (sN b st s)))])::R,N⟩):=by
 rw[aD alc Cj.eq_1 rfl];obtain⟨a,e⟩:=st;have hf:i64 a:=ha;by_cases he:e=0
 ·subst he;simp (config := { maxSteps:=1000000 }) (disch:=omega) [DM,ra,re,sV,sN]
 ·simp (config := { maxSteps:=1000000 }) (disch:=omega) [ra,re,sV,sN,he]
def grow:List Int→List Nat→List Int
 | g,[]=>g
 | g,x::r=>grow (if x=1 then g.set (g.length-1) (nth g (g.length-1)+1) else g++[1]) r
def nm (g:List Int):Nat:=3+g.length
theorem aCF {g:List Int}(h:g≠[]):4≤nm g:=by have:=List.length_pos_iff.2 h;unfold nm;omega
abbrev hpI (b:List Nat) (q s:Nat) (m:Int) (g:List Int) (st:RS):HS:=⟨[(0,.cells [.d (.lst (af b))]),(1,.cells [.d (.int .u8 q),.d (.int .u8 s),.d (.int .i64 m),.sl (3+g.length) 0 g.length]),
           (2,.cells [.d (.int .i64 (ra st))]),(3,.cells [.d (.int .i64 (re st))]),(3+g.length,.arr 1 (ai g))],4+g.length⟩
theorem alr (b:List Nat) (r o m:Int) (q s:Nat) (hb:b.length≤1000000000):∀ (k i:Nat) (g:List Int) (st:RS) (I:Int),I=i→i+k=7→g≠[]→g.length+k≤100→(∀ n∈g,0≤n∧n+k≤100)→st.fit→
  (Dn prog).code (.loop mR) ⟨[(2,AV.d (D.int IntKind.i64 r)),(6,AV.ptr 1 0),(7,AV.ptr 2 0),(8,AV.ptr 3 0),
           (9,AV.fn li [] [AV.ptr 3 0,AV.ptr 0 0,AV.ptr 2 0]),(10,.d (.int .i64 o)),(40,.d (.int .i64 I))],hpI b q s m g st⟩ =
   some (.exit 0,⟨[(2,AV.d (D.int IntKind.i64 r)),(6,AV.ptr 1 0),(7,AV.ptr 2 0),(8,AV.ptr 3 0),(10,.d (.int .i64 o))],hpI b q s m (grow g (sL b k st)) (D3 b k st)⟩):=by
 intro k
 induction k with
 | zero =>
  intro i g st I hI hi hg hl hn ha;subst hI;rw[aa mR.eq_1];simp (disch:=omega) [↓if_neg,hpI,grow,sL,D3]
 | succ k ih =>
  intro i g st I hI hi hg hl hn ha;subst hI;have:=List.length_pos_iff.2 hg;have h3:3+(g.length+1)=4+g.length:=by omega
  have h4:4+(g.length+1)=4+g.length+1:=by omega
  rw[aa mR.eq_1];have hv:nth g (g.length-1)∈g:=gn (by omega);have hv2:=hn _ hv;simp only[grow,sL,D3];by_cases h1:sV b st 1=1
  ·have hs:(g.set (g.length-1) (nth g (g.length-1)+1)).length=g.length:=by simp
   have h:=ih (i+1) (g.set (g.length-1) (nth g (g.length-1)+1)) (sN b st 1) (i+1) (by omega) (by omega) (by intro h0;rw[h0,List.length_nil]at hs;omega) (by rw[hs];omega) (fun x hx=>by
    rcases List.mem_or_eq_of_mem_set hx with h | h
    ·have:=hn x h;omega
    ·omega) (db hb ha)
   simp only[hpI,hs]at h;simp (maxSteps:=300000) (disch:=first | omega | assumption) [↓if_pos,↓if_neg,tP,h3,h4,hpI];rw[h]
  ·have h:=ih (i+1) (g++[1]) (sN b st 1) (i+1) (by omega) (by omega) (by simp) (by simp;omega) (fun x hx=>by
    rcases List.mem_append.1 hx with h | h
    ·have:=hn x h;omega
    ·simp at h;omega) (db hb ha)
   simp only[hpI,List.length_append,List.length_cons,List.length_nil,Nat.zero_add,h3,h4]at h;simp (maxSteps:=300000) (disch:=first | omega | assumption) [↓if_pos,↓if_neg,tP,h3,h4,hpI];rw[h]
def ax (m:Nat) (xs:List (List D)):AV:=match xs with
 | []=>.nl
 | x::r=>.own false m (x::r)
theorem kL {m:Nat}:ax m []=.nl:=rfl
theorem aeL {m:Nat}{x:List D}{r:List (List D)}:ax m (x::r)=.own false m (x::r):=rfl
theorem lY {m:Nat}{xs:List (List D)}{y:List D}:ax m (xs++[y])=.own false m (xs++[y]):=by cases xs<;>rfl
theorem lR {m:Nat}{xs:List (List D)}(h:xs≠[]):ax m xs=.own false m xs:=by cases xs with | nil=>exact absurd rfl h | cons=>rfl
@[simp] theorem aFQ {m:Nat}{xs:List (List D)}:firm (ax m xs)=ax m xs:=by cases xs<;>rfl
@[simp] theorem aE8 {m:Nat}{xs:List (List D)}:kY (ax m xs)=ax m xs:=by cases xs<;>rfl
@[simp] theorem aEy {m:Nat}{xs:List (List D)}:u7 (ax m xs)=ax m xs:=by cases xs<;>rfl
@[simp] theorem aGA {m:Nat}{xs:List (List D)}:xN (ax m xs)=some (.lst xs):=by cases xs<;>rfl
@[simp] theorem aEx {m:Nat}{xs:List (List D)}:AV.cells (ax m xs)=[ax m xs]:=by cases xs<;>rfl
@[simp] theorem aDc {m:Nat}{xs:List (List D)}:bM (ax m xs)=true:=by cases xs<;>rfl
@[simp] theorem aFe {h:ac}{m:Nat}{xs:List (List D)}:elems h (ax m xs)=some xs:=by cases xs<;>rfl
@[simp] theorem aC0 {h:ac}{m:Nat}{xs:List (List D)}:dQ h (ax m xs)=some (ax m xs,h):=by cases xs<;>rfl
@[simp] theorem aGD {m:Nat}{h:ac}{xs:List (List D)}{y:List D}(hy:y.length=m) (hl:xs.length<1000000000):aeB m h (ax m xs) (.own false m [y])=some (.own (decide (xs=[])) m (xs++[y]),h):=by
 subst hy
 cases xs with
 | nil=>simp[ax,elems,decide_true]
 | cons x r=>simp[ax,elems];simp at hl;omega
@[simp] theorem aGC {m:Nat}{h:ac}{xs:List (List D)}{y:List D}(hl:xs.length<1000000000):ct m h (ax m xs) [y]=some (.own (decide (xs=[])) m (xs++[y]),h):=by
 cases xs with
 | nil=>simp[ax,decide_true]
 | cons x r=>simp[ax];simp at hl;omega
def auk (o:Obj) (h:ac) (id off len:Nat):Option (AV×ac) :=
 match o with
 | .arr m xs=>bQ (Nat.ble (off+len) xs.length) (some (.own true m (sub xs off len),del h id))
 | _=>none
@[simp ↓] theorem aGa {m:Nat}{xs:List (List D)}{h:ac}{id off len:Nat}:auk (.arr m xs) h id off len=bQ (Nat.ble (off+len) xs.length) (some (.own true m (sub xs off len),del h id)):=(rfl)
@[simp] theorem aF8 {h:ac}{id off len:Nat}:gk h (.sl id off len)=bA (get h id) fun o=>auk o h id off len:=by
 simp only[gk]
 cases get h id with
 | none=>rfl
 | some o =>
  cases o with
  | arr m xs=>simp only[bA,auk];cases Nat.ble (off+len) xs.length<;>rfl
  | cells cs=>rfl
  | loop=>rfl
theorem RH:∀ {l:List Nat}{g:List Int}{t:Int},g≠[]→(∀ n∈g,0≤n∧n+l.length≤t)→1+l.length≤t→∀ n∈grow g l,0≤n∧n≤t
 | [],g,t,h0,h,ht,n,hn=>by grind [grow]
 | x::r,g,t,h0,h,ht,n,hn=>by
  rw[grow]at hn;have hl:=List.length_pos_iff.2 h0;simp only[List.length_cons]at h ht;by_cases hx:x=1
  ·have h1:=h _ (gn (l:=g) (i:=g.length-1) (by omega));refine RH (l:=r) (t:=t) (fun h2=>?_) (fun y hy=>?_) (by omega) n hn
   all_goals grind [List.length_nil]
  ·rw[if_neg hx]at hn;refine RH (l:=r) (t:=t) (by simp) (fun y hy=>?_) (by omega) n hn
   grind
theorem ai1:∀ {l:List Nat}{g:List Int},(grow g l).length≤g.length+l.length
 | [],g=>by simp[grow]
 | x::r,g=>by
  rw[grow];have:=ai1 (l:=r) (g:=if x=1 then g.set (g.length-1) (nth g (g.length-1)+1) else g++[1])
  grind
theorem UX {b:List Nat}:∀ {k:Nat}{st:RS},(sL b k st).length=k
 | 0,_=>rfl
 | k+1,_=>by simp[sL,UX (k:=k)]
theorem Ri (r m:Int) (q s:Nat) (g:List Int) (hq:q≤255) (hs:s≤255) (hm:i64 m) (hg:g.length≤100) (h:∀ n∈g,0≤n∧n≤100):aO prog dV [.d (.int .i64 r),.agg [.d (.int .u8 q),.d (.int .u8 s),.d (.int .i64 m),.d (.lst (ai g))]]=if dc r then if am.may r.toNat ⟨q,s,m,g⟩ then some (.d (.int .i64 0)) else some (.d (.int .i64 8)) else some (.d (.int .i64 2)) :=
 pr r ⟨q,s,m,g⟩ ⟨hq,hs,hm,by grind,fun n hn=>by grind⟩
def sG (b:List Nat) (st:RS):List Int:=grow [1] (sL b 7 st)
theorem akr {b:List Nat}{st:RS}:4≤nm (sG b st)∧(sG b st).length≤100∧∀ n∈sG b st,0≤n∧n≤100:=by
 have h1:=ai1 (l:=sL b 7 st) (g:=[1]);rw[UX]at h1;have h2:=RH (l:=sL b 7 st) (g:=[1]) (t:=100) (by simp) (by simp[UX]) (by rw[UX];omega);refine⟨?_,by grind [sG],h2⟩;have:sG b st≠[]:=by
  unfold sG;have:∀ (l:List Nat) (g:List Int),g≠[]→grow g l≠[]:=by
   intro l
   induction l<;>grind [grow]
  simp_all
 exact aCF this
theorem alK (b:List Nat) (r o m:Int) (q s:Nat) (st:RS) (hb:b.length≤1000000000) (hs:st.fit) :
  (Dn prog).code (.loop mR) ⟨[(2,AV.d (D.int IntKind.i64 r)),(6,AV.ptr 1 0),(7,AV.ptr 2 0),(8,AV.ptr 3 0),
           (9,AV.fn li [] [AV.ptr 3 0,AV.ptr 0 0,AV.ptr 2 0]),(10,.d (.int .i64 o)),(40,.d (.int .i64 0))],⟨[(0,.cells [.d (.lst (af b))]),(1,.cells [.d (.int .u8 q),.d (.int .u8 s),.d (.int .i64 m),.sl 4 0 1]),(2,.cells [.d (.int .i64 (ra st))]),(3,.cells [.d (.int .i64 (re st))]),(4,.arr 1 [[.int .i64 1]])],5⟩⟩ =
   some (.exit 0,⟨[(2,AV.d (D.int IntKind.i64 r)),(6,AV.ptr 1 0),(7,AV.ptr 2 0),(8,AV.ptr 3 0),(10,.d (.int .i64 o))],⟨[(0,.cells [.d (.lst (af b))]),(1,.cells [.d (.int .u8 q),.d (.int .u8 s),.d (.int .i64 m),.sl (nm (sG b st)) 0 (sG b st).length]),
           (2,.cells [.d (.int .i64 (ra (D3 b 7 st)))]),(3,.cells [.d (.int .i64 (re (D3 b 7 st)))]),(nm (sG b st),.arr 1 (ai (sG b st)))],4+(sG b st).length⟩⟩) :=
 alr b r o m q s hb 7 0 [1] st 0 rfl rfl (by simp) (by simp) (by simp) hs
theorem ajC {b:List Nat}{st:RS}:sV b st 1≤1:=by have:=oa (b:=b) (st:=st) (s:=1);grind
theorem ax8 {b:List Nat}{st:RS}:sV b st 2≤3:=by have:=oa (b:=b) (st:=st) (s:=2);grind
theorem aEb {b:List Nat}{st:RS}:sV b st 4≤15:=by have:=oa (b:=b) (st:=st) (s:=4);grind
theorem aDE {b:List Nat}{st:RS}:sV b st 6≤63:=by have:=oa (b:=b) (st:=st) (s:=6);grind
theorem azZ {a:Int}:ra ⟨a,0⟩=a:=rfl
theorem aA6 {a:Int}:re ⟨a,0⟩=0:=rfl
theorem Q5 (b:List Nat) (s a:Int) (X:Obj) (R:ac) (N:Nat) (hb:b.length≤1000000000) (ha:i64 a):(Dn prog).call li [.d (.int .i64 s),.ptr 3 0,.ptr 0 0,.ptr 2 0] ⟨(0,.cells [.d (.lst (af b))])::(1,X)::(2,.cells [.d (.int .i64 a)])::(3,.cells [.d (.int .i64 0)])::R,N⟩ =
  some (.d (.int .i64 (sV b ⟨a,0⟩ s)),⟨(0,.cells [.d (.lst (af b))])::(1,X)::(2,.cells [.d (.int .i64 (ra (sN b ⟨a,0⟩ s)))])::(3,.cells [.d (.int .i64 (re (sN b ⟨a,0⟩ s)))])::R,N⟩) :=
 tP b s ⟨a,0⟩ X R N hb ha
def R.bind {α β:Type}(x:R α) (f:α→Nat→R β):R β :=
 match x with
 | .ok v n=>f v n
 | .er e=>.er e
@[simp] theorem ak {α β:Type}{v:α}{n:Nat}{f:α→Nat→R β}:R.bind (.ok v n) f=f v n:=rfl
@[simp] theorem cX {α β:Type}{e:Nat}{f:α→Nat→R β}:R.bind (.er e) f=.er e:=rfl
def MZ {α:Type}(c:Prop) [Decidable c] (v:α) (n:Nat):R α:=if c then .ok v n else .er 7
def qH (b:List Nat):Nat→Nat→R (List Nat)
 | 0,a=>.ok [] a
 | k+1,a=>(aQ b a 1).bind fun v n=>(qH b k n).bind fun l m=>.ok (v::l) m
def pp (b:List Nat) (a:Int) (r:Nat):R am :=
 (aQ b a 1).bind fun o n=>(aQ b n 2).bind fun q n=>(aQ b n 1).bind fun s n =>
 if q=2 then (aQ b n 4).bind fun m n=>(qH b 7 n).bind fun l n=>MZ (o=0∧am.may r ⟨q,s,m,grow [1] l⟩) ⟨q,s,m,grow [1] l⟩ n
 else (aQ b n 6).bind fun m n=>(aQ b n 1).bind fun p n=>MZ ((o=0∧p=0)∧am.may r ⟨q,s,m,[1]⟩) ⟨q,s,m,[1]⟩ n
theorem gm {b:List Nat}{a s:Int}{v n:Nat}(h:aQ b a s=.ok v n):sV b ⟨a,0⟩ s=v∧sN b ⟨a,0⟩ s=⟨n,0⟩:=by
 grind [sV,sN,vO,nO,eO]
theorem ug {b:List Nat}{a s:Int}{e:Nat}(h:aQ b a s=.er e):sV b ⟨a,0⟩ s=0∧sN b ⟨a,0⟩ s=⟨0,e+1⟩:=by
 grind [sV,sN,vO,nO,eO]
theorem TF {b:List Nat}{a s:Int}{e:Nat}:sV b ⟨a,e+1⟩ s=0∧sN b ⟨a,e+1⟩ s=⟨a,e+1⟩:=by
 grind [sV,sN]
theorem aif {b:List Nat}{a:Int}{e:Nat}:∀ {k:Nat},D3 b k ⟨a,e+1⟩=⟨a,e+1⟩
 | 0=>rfl
 | k+1=>by rw[D3,TF.2,aif]
theorem ayO {b:List Nat}:∀ {k a:Nat},match qH b k a with
  | .ok l n=>sL b k ⟨a,0⟩=l∧D3 b k ⟨a,0⟩=⟨n,0⟩∧(0<k→n≤b.length)
  | .er e=>D3 b k ⟨a,0⟩=⟨0,e+1⟩
 | 0,a=>⟨rfl,rfl,fun h=>absurd h (by omega)⟩
 | k+1,a=>by
  simp only[qH,sL,D3]
  cases h:aQ b a 1 with
  | ok v n =>
   have hp:=(cZ h).2;rw[(gm h).1,(gm h).2,ak];have ih:=ayO (b:=b) (k:=k) (a:=n)
   cases h2:qH b k n with
   | ok l m =>
    rw[h2]at ih;refine⟨by rw[ih.1],ih.2.1,fun _=>?_⟩
    cases k<;>grind [qH]
   | er e=>simp_all
  | er e=>simp_all [ug,aif]
abbrev Ua:List AV:=[.d (.int .u8 0),.d (.int .u8 0),.d (.int .i64 0),.nl]
abbrev Uj (i:am):List AV:=[.d (.int .u8 i.seq),.d (.int .u8 i.shape),.d (.int .i64 i.max),.own true 1 (ai i.groups)]
set_option maxHeartbeats 4000000 in
theorem aqM (b:List Nat) (a r:Int) (hb:b.length≤1000000000) (ha:i64 a) (hr:dc r) (s1 s2 s3 s4:RS) (e1:s1=sN b ⟨a,0⟩ 1) (e2:s2=sN b s1 2) (e3:s3=sN b s2 1) (e4:s4=sN b s3 4) (hq:sV b s1 2=2):aO prog t4 [.d (.lst (af b)),.d (.int .i64 a),.d (.int .i64 r)] =
  if re (D3 b 7 s4)=0 then if sV b ⟨a,0⟩ 1=0∧am.may r.toNat ⟨sV b s1 2,sV b s2 1,sV b s3 4,sG b s4⟩ then some (.tup [.agg (Uj ⟨sV b s1 2,sV b s2 1,sV b s3 4,sG b s4⟩),.d (.int .i64 (ra (D3 b 7 s4))),.d (.int .i64 0)])
   else some (.tup [.agg Ua,.d (.int .i64 0),.d (.int .i64 8)])
  else some (.tup [.agg Ua,.d (.int .i64 0),.d (.int .i64 (re (D3 b 7 s4)))]):=by
 rw[aq Hq uH.eq_1 rfl];have f1:s1.fit:=e1▸db hb ha;have f2:s2.fit:=e2▸db hb f1;have f3:s3.fit:=e3▸db hb f2;have f4:s4.fit:=e4▸db hb f3;have v1:=ajC (b:=b) (st:=⟨a,0⟩);have v2:=ax8 (b:=b) (st:=s1);have v3:=ajC (b:=b) (st:=s2);have v4:=aEb (b:=b) (st:=s3);obtain⟨g1,g2,g3⟩:=akr (b:=b) (st:=s4);simp (maxSteps:=300000) (disch:=first | omega | assumption) [gx,↓if_pos,↓if_neg,tP,Q5,alK,Ri,←e1,←e2,←e3,←e4,YL,arY]
set_option maxHeartbeats 4000000 in
theorem aqb (b:List Nat) (a r:Int) (hb:b.length≤1000000000) (ha:i64 a) (hr:dc r) (s1 s2 s3 s4 s5:RS) (e1:s1=sN b ⟨a,0⟩ 1) (e2:s2=sN b s1 2) (e3:s3=sN b s2 1) (e4:s4=sN b s3 6) (e5:s5=sN b s4 1) (hq:sV b s1 2≠2):aO prog t4 [.d (.lst (af b)),.d (.int .i64 a),.d (.int .i64 r)] =
  if re s5=0 then if (sV b ⟨a,0⟩ 1=0∧sV b s4 1=0)∧am.may r.toNat ⟨sV b s1 2,sV b s2 1,sV b s3 6,[1]⟩ then some (.tup [.agg (Uj ⟨sV b s1 2,sV b s2 1,sV b s3 6,[1]⟩),.d (.int .i64 (ra s5)),.d (.int .i64 0)])
   else some (.tup [.agg Ua,.d (.int .i64 0),.d (.int .i64 8)])
  else some (.tup [.agg Ua,.d (.int .i64 0),.d (.int .i64 (re s5))]):=by
 rw[aq Hq uH.eq_1 rfl];have f1:s1.fit:=e1▸db hb ha;have f2:s2.fit:=e2▸db hb f1;have f3:s3.fit:=e3▸db hb f2;have f4:s4.fit:=e4▸db hb f3;have v1:=ajC (b:=b) (st:=⟨a,0⟩);have v2:=ax8 (b:=b) (st:=s1);have v3:=ajC (b:=b) (st:=s2);have v4:=aDE (b:=b) (st:=s3);have v5:=ajC (b:=b) (st:=s4);have hc:=Ri r (sV b s3 6) (sV b s1 2) (sV b s2 1) [1] (by omega) (by omega) (by omega) (by simp) (by simp);have h1:ai [1]=[[.int .i64 1]]:=rfl;rw[h1]at hc;simp (maxSteps:=300000) (disch:=first | omega | assumption) [gx,↓if_pos,↓if_neg,tP,Q5,hc,←e1,←e2,←e3,←e4,←e5,YL,arY,ai];rfl
abbrev pI (b:List Nat) (r:Nat) (i:am) (n:Nat):Prop:=i.may r∧n≤b.length∧i.groups.length≤100
theorem am7 {α γ:Type}{p:α→Nat→Prop}{c:Prop}[Decidable c] {v:α}{n:Nat}{f:α→Nat→γ}{g:Nat→γ}(h:c→p v n):rK p (MZ c v n) f g=if c then f v n else g 7:=by
 grind [MZ,cG,fc]
theorem atO (b:List Nat) (a r:Int) (hb:b.length≤1000000000) (ha:i64 a):aO prog t4 [.d (.lst (af b)),.d (.int .i64 a),.d (.int .i64 r)] =
  if dc r then rK (pI b r.toNat) (pp b a r.toNat) (fun i n=>some (.tup [.agg (Uj i),.d (.int .i64 n),.d (.int .i64 0)])) fun e=>some (.tup [.agg Ua,.d (.int .i64 0),.d (.int .i64 (e+1))])
  else some (.tup [.agg Ua,.d (.int .i64 0),.d (.int .i64 2)]):=by
 by_cases hr:dc r
 ·rw[if_pos hr];unfold pp;by_cases hq:sV b (sN b ⟨a,0⟩ 1) 2=2
  ·rw[aqM b a r hb ha hr _ _ _ _ rfl rfl rfl rfl hq]
   cases h1:aQ b a 1 with
   | er e=>simp_all [ug,TF]
   | ok o n =>
    rw[(gm h1).2]at hq⊢;rw[(gm h1).1,ak]
    cases h2:aQ b n 2 with
    | er e=>simp_all [ug]
    | ok q n =>
     rw[(gm h2).1]at hq⊢;rw[(gm h2).2,ak]
     cases h3:aQ b n 1 with
     | er e=>simp_all [ug,TF,aif,re]
     | ok s n =>
      rw[(gm h3).2,(gm h3).1,ak,if_pos hq]
      cases h4:aQ b n 4 with
      | er e=>simp_all [ug,aif,re]
      | ok m n =>
       rw[(gm h4).2,(gm h4).1,ak];have h5:=ayO (b:=b) (k:=7) (a:=n);have h6:=(akr (b:=b) (st:=⟨n,0⟩)).2.1;unfold sG at h6⊢
       cases h7:qH b 7 n with
       | er e=>simp_all [re]
       | ok l n =>
        grind [ak,am7,re,ra]
  ·rw[aqb b a r hb ha hr _ _ _ _ _ rfl rfl rfl rfl rfl hq]
   cases h1:aQ b a 1 with
   | er e=>simp_all [ug,TF,re]
   | ok o n =>
    rw[(gm h1).2]at hq⊢;rw[(gm h1).1,ak]
    cases h2:aQ b n 2 with
    | er e=>simp_all [ug,TF,re]
    | ok q n =>
     rw[(gm h2).1]at hq⊢;rw[(gm h2).2,ak]
     cases h3:aQ b n 1 with
     | er e=>simp_all [ug,TF,re]
     | ok s n =>
      rw[(gm h3).2,(gm h3).1,ak,if_neg hq]
      cases h4:aQ b n 6 with
      | er e=>simp_all [ug,TF,re]
      | ok m n =>
       rw[(gm h4).2,(gm h4).1,ak]
       cases h5:aQ b n 1 with
       | er e=>simp_all [ug,re]
       | ok p n =>
        rw[(gm h5).2,(gm h5).1,ak,am7 (fun h=>⟨h.2,(cZ h5).2,by simp⟩)];simp[re,ra]
 ·rw[if_neg hr,aq Hq uH.eq_1 rfl];simp (disch:=first | omega | assumption) [gx,↓if_neg]
theorem pn {α β γ:Type}{p:α→Nat→Prop}{q:β→Nat→Prop}{x:R β}{f:β→Nat→R α}{F:α→Nat→γ}{G:Nat→γ}(h:∀ v n,x=.ok v n→q v n):rK p (x.bind f) F G=rK q x (fun v n=>rK p (f v n) F G) G:=by
 cases x with
 | ok v n=>rw[ak,cG (h v n rfl)]
 | er e=>rfl
theorem Bt {α γ:Type}{p:α→Nat→Prop}{b:List Nat}{a s:Int}{f:Nat→Nat→R α}{F:α→Nat→γ}{G:Nat→γ}:rK p ((aQ b a s).bind f) F G=rK (pG b s) (aQ b a s) (fun v n=>rK p (f v n) F G) G:=pn fun _ _ h=>cZ h
structure ao where
 book:Int
 len:Int
abbrev ao.cells (s:ao):List D:=[.int .i64 s.book,.int .i64 s.len]
def dL (l:List ao):List (List D):=l.map ao.cells
@[simp] theorem at9 {l:List ao}:(dL l).length=l.length:=by simp[dL]
@[simp] theorem aCx {l:List ao}{s:ao}:dL (l++[s])=dL l++[s.cells]:=by simp[dL]
def qh (b:List Nat) (sz au left:Nat):Nat→Nat→Nat→R Nat
 | 0,_,_=>.er 7
 | f+1,a,acc=>(aQ b a sz).bind fun n a=>if left<acc+n then .er 7 else if n=au then qh b sz au left f a (acc+n) else .ok (acc+n) a
abbrev pL (b:List Nat) (left n a:Nat):Prop:=n≤left∧a≤b.length
theorem ak5 {b:List Nat}{sz au left:Nat}:∀ {f a acc n m:Nat},qh b sz au left f a acc=.ok n m→pL b left n m
 | 0,_,_,_,_,h=>absurd h (by simp[qh])
 | f+1,a,acc,n,m,h=>by
  rw[qh]at h
  cases h1:aQ b a sz with
  | er e=>rw[h1]at h;exact absurd h (by simp)
  | ok v k =>
   rw[h1,ak]at h;by_cases h2:left<acc+v
   ·rw[if_pos h2]at h;exact absurd h (by simp)
   ·rw[if_neg h2]at h;by_cases h3:v=au
    ·rw[if_pos h3]at h;exact ak5 h
    ·rw[if_neg h3]at h;injection h with e1 e2
     subst e1 e2;exact⟨by omega,(cZ h1).2⟩
theorem at8 {α γ:Type}{p:α→Nat→Prop}{b:List Nat}{sz au left f a acc:Nat}{g:Nat→Nat→R α}{F:α→Nat→γ}{G:Nat→γ}:rK p ((qh b sz au left f a acc).bind g) F G=rK (pL b left) (qh b sz au left f a acc) (fun v n=>rK p (g v n) F G) G:=pn fun _ _ h=>ak5 h
theorem avO {γ:Type}{b:List Nat}{sz au left f a acc:Nat}{F:Nat→Nat→γ}{G:Nat→γ}:rK (pL b left) (qh b sz au left (f+1) a acc) F G=rK (pG b sz) (aQ b a sz) (fun n a=>if left<acc+n then G 7 else if n=au then rK (pL b left) (qh b sz au left f a (acc+n)) F G else F (acc+n) a) G:=by
 rw[qh,Bt];refine fI (fun _ _=>rfl) (fun n a hp=>?_) fun _=>rfl
 by_cases h2:left<acc+n
 ·rw[if_pos h2,if_pos h2,fc]
 ·rw[if_neg h2,if_neg h2];by_cases h3:n=au
  ·rw[if_pos h3,if_pos h3]
  ·rw[if_neg h3,if_neg h3,cG ⟨by omega,hp.2⟩]
abbrev er3 (e:Nat) (h:HS):Option (aZ×St):=some (.ret,⟨[(6,.nl),(7,.d (.int .i64 0)),(8,.d (.int .i64 (e+1)))],h⟩)
theorem al4 (b:List Nat) (sz au left:Nat) (hb:b.length≤1000000000) (hsz:sz≤5) (hm:au=2 ^ sz-1) (hs1:1≤sz) (hl:left≤1000) (x6 x11:AV) (bk:Int) (X:Obj) (y40 y41:D) (M N:Nat) (hM:1≤M):∀ (f a acc:Nat),left<acc+f→acc≤left→a≤b.length→
  (Dn prog).code (.loop qW) ⟨[(0,.d (.lst (af b))),(5,.ptr 0 0),(6,x6),(7,.d (.int .i64 a)),(9,.d (.int .i64 sz)),(10,.d (.int .i64 au)),(11,x11),(12,.d (.int .i64 left)),(13,.ptr M 0),(14,.d (.int .i64 au)),(40,.d y40),(41,.d y41)],⟨[(0,X),(M,.cells [.d (.int .i64 bk),.d (.int .i64 acc)])],N⟩⟩ =
  rK (pL b left) (qh b sz au left f a acc) (fun n a=>some (.exit 4,⟨[(0,.d (.lst (af b))),(5,.ptr 0 0),(6,x6),(7,.d (.int .i64 a)),(9,.d (.int .i64 sz)),(10,.d (.int .i64 au)),(11,x11),(12,.d (.int .i64 left)),(13,.ptr M 0),(40,.d y40),(41,.d y41)],⟨[(0,X),(M,.cells [.d (.int .i64 bk),.d (.int .i64 n)])],N⟩⟩)) (fun e=>er3 e ⟨[(0,X)],N⟩):=by
 intro f
 induction f with
 | zero=>intro a acc h1 h2;omega
 | succ f ih =>
  intro a acc h1 h2 ha;rw[aa qW.eq_1,avO];have hp2:2 ^ sz≤2 ^ 5:=Nat.pow_le_pow_right (by omega) hsz;have hp3:2 ^ 1≤2 ^ sz:=Nat.pow_le_pow_right (by omega) hs1;have hM0:M≠0:=by omega
  simp (maxSteps:=300000) (disch:=first | omega | assumption) [↓if_pos,↓if_neg,ez,hM0,pG];refine fI (fun _ _=>rfl) (fun n a' hp=>?_) fun _=>rfl
  have hp4:n<2 ^ sz:=hp.1;by_cases h3:left<acc+n
  ·rw[if_pos h3,if_pos (by omega)];rfl
  ·rw[if_neg h3,if_neg (by omega)];by_cases h4:n=au
   ·subst h4;rw[if_pos rfl,←ih a' (acc+n) (by omega) (by omega) hp.2];simp
   ·rw[if_neg h4,aa qW.eq_1];simp (maxSteps:=300000) (disch:=first | omega | assumption) [↓if_pos,↓if_neg]
def am.fsz (i:am):Nat:=if i.seq=2 then 3 else 5
theorem Vu (i:am):aO prog uj [.agg i.cells]=some (.tup [.d (.int .i64 i.fsz),.d (.int .i64 ((2 ^ i.fsz-1:Nat):Int))]):=by
 rw[aq ajv Bv.eq_1 rfl];unfold am.fsz;by_cases h:i.seq=2
 ·simp (disch:=first | omega | assumption) [↓if_pos,h]
 ·simp (disch:=first | omega | assumption) [↓if_pos,↓if_neg]
abbrev FL (k:Int):Prop:=0≤k∧(k≤11∨k=13)
abbrev ao.right (s:ao) (left:Int):Prop:=(1≤s.len∧s.len≤left)∧FL s.book
theorem W9 (s:ao) (left:Int):aO prog ul [.agg [.d (.int .i64 s.book),.d (.int .i64 s.len)],.d (.int .i64 left)]=if s.right left then some (.d (.bool true)) else some (.d (.bool false)):=by
 rw[aq aiH Cc.eq_1 rfl];by_cases h1:1≤s.len<;>by_cases h2:s.len≤left<;>by_cases h3:0≤s.book<;>by_cases h4:s.book≤11<;>by_cases h5:s.book=13<;>
  simp (disch:=first | omega | assumption) [↓if_pos,↓if_neg]
def Cr (b:List Nat) (sz left:Nat) (a:Nat):R ao :=
 (aQ b a 4).bind fun k a=>if k=12∨13<k then .er 7 else (qh b sz (2 ^ sz-1) left (left+1) a 0).bind fun n a=>if n=0 then .er 7 else .ok ⟨k,n⟩ a
abbrev pS (b:List Nat) (left:Nat) (s:ao) (a:Nat):Prop:=(s.right left)∧a≤b.length
theorem axm {γ:Type}{b:List Nat}{sz left a:Nat}{F:ao→Nat→γ}{G:Nat→γ}:rK (pS b left) (Cr b sz left a) F G=rK (pG b 4) (aQ b a 4) (fun k a=>if k=12∨13<k then G 7 else rK (pL b left) (qh b sz (2 ^ sz-1) left (left+1) a 0) (fun n a=>if n=0 then G 7 else F ⟨k,n⟩ a) G) G:=by
 rw[Cr,Bt];refine fI (fun _ _=>rfl) (fun k a hp=>?_) fun _=>rfl
 by_cases h:k=12∨13<k
 ·simp_all
 ·rw[if_neg h,if_neg h,at8];refine fI (fun _ _=>rfl) (fun n a hq=>?_) fun _=>rfl
  grind [fc,cG]
theorem aj2 {b:List Nat}{sz left a m:Nat}{s:ao}(h:Cr b sz left a=.ok s m):pS b left s m:=by
 rw[Cr]at h
 cases h1:aQ b a 4 with
 | er e=>simp_all
 | ok k a1 =>
  by_cases hk:k=12∨13<k
  ·simp_all
  ·cases h2:qh b sz (2 ^ sz-1) left (left+1) a1 0 with
   | er e=>simp_all
   | ok n a2 =>
    have hq:=ak5 h2
    grind [ak]
def gj (b:List Nat) (sz:Nat):Nat→Nat→Nat→R (List ao)
 | 0,_,a=>.ok [] a
 | f+1,left,a=>if left=0 then .ok [] a else (Cr b sz left a).bind fun s a=>(gj b sz f (left-s.len.toNat) a).bind fun l a=>.ok (s::l) a
def fitsS:Int→List ao→Prop
 | left,[]=>left=0
 | left,s::l=>s.right left∧fitsS (left-s.len) l
instance:∀ (left:Int) (l:List ao),Decidable (fitsS left l)
 | left,[]=>by unfold fitsS;infer_instance
 | left,s::l=>by
  unfold fitsS;have:Decidable (fitsS (left-s.len) l):=instDecidableFitsS _ l
  infer_instance
abbrev Xv (b:List Nat) (left:Nat) (l:List ao) (a:Nat):Prop:=fitsS left l∧a≤b.length∧l.length≤left
theorem CW {b:List Nat}{sz:Nat}:∀ {f left a m:Nat}{l:List ao},left≤f→a≤b.length→gj b sz f left a=.ok l m→Xv b left l m
 | 0,left,a,m,l,h,ha,e=>by
  grind [gj,fitsS]
 | f+1,left,a,m,l,h,ha,e=>by
  simp only[gj]at e;by_cases h0:left=0
  ·grind [fitsS]
  ·rw[if_neg h0]at e
   cases h1:Cr b sz left a with
   | er e2=>simp_all
   | ok s a1 =>
    have hs:=aj2 h1;rw[h1,ak]at e
    cases h2:gj b sz f (left-s.len.toNat) a1 with
    | er e2=>simp_all
    | ok l2 a2 =>
     have ih:=CW (by omega) hs.2 h2;rw[h2,ak]at e;injection e with e1 e2
     subst e1 e2;refine⟨⟨hs.1,?_⟩,ih.2.1,?_⟩
     all_goals grind
theorem apN {γ:Type}{b:List Nat}{sz f left a:Nat}{F:List ao→Nat→γ}{G:Nat→γ}(hf:left≤f+1) (h0:left≠0):rK (Xv b left) (gj b sz (f+1) left a) F G =
  rK (pS b left) (Cr b sz left a) (fun s a=>rK (Xv b (left-s.len.toNat)) (gj b sz f (left-s.len.toNat) a) (fun l a=>F (s::l) a) G) G:=by
 rw[gj,if_neg h0,pn (q:=pS b left) fun _ _ h=>aj2 h];refine fI (fun _ _=>rfl) (fun s a hp=>?_) fun _=>rfl
 rw[pn (q:=Xv b (left-s.len.toNat)) fun _ _ h=>CW (by omega) hp.2 h];refine fI (fun _ _=>rfl) (fun l a hq=>?_) fun _=>rfl
 rw[cG];refine⟨⟨hp.1,?_⟩,hq.2.1,?_⟩
 all_goals grind
theorem Wx {γ:Type}{b:List Nat}{sz f a:Nat}{F:List ao→Nat→γ}{G:Nat→γ}(ha:a≤b.length):rK (Xv b 0) (gj b sz f 0 a) F G=F [] a:=by
 cases f<;>grind [gj,cG,fitsS]
theorem WX {α γ:Type}{p:α→Nat→Prop}{r:R α}{f f2:α→Nat→γ}{g g2:Nat→γ}(hp:∀ v n,r=.ok v n→p v n) (h:∀ v n,r=.ok v n→p v n→f v n=f2 v n) (k:∀ e,r=.er e→g e=g2 e):rK p r f g=rK p r f2 g2:=by
 cases r<;>simp_all [cG]
theorem amf (b:List Nat) (sz:Nat) (hb:b.length≤1000000000) (hsz:sz≤5) (hs1:1≤sz) (x6:AV) (X:Obj) (y40 y41:D) (left a N:Nat) (G:List ao) (h0:left≠0) (h2:left≤1000) (h3:G.length+left≤10000) (h4:1≤N) (ha:a≤b.length) :
  (Dn prog).code ki ⟨[(0,.d (.lst (af b))),(5,.ptr 0 0),(6,x6),(7,.d (.int .i64 a)),(9,.d (.int .i64 sz)),(10,.d (.int .i64 ((2 ^ sz-1:Nat):Int))),(11,ax 2 (dL G)),(12,.d (.int .i64 left)),(40,.d y40),(41,.d y41)],⟨[(0,X)],N⟩⟩ =
  rK (pS b left) (Cr b sz left a) (fun s a=>some (.normal,⟨[(0,.d (.lst (af b))),(5,.ptr 0 0),(6,x6),(7,.d (.int .i64 a)),(9,.d (.int .i64 sz)),(10,.d (.int .i64 ((2 ^ sz-1:Nat):Int))),(11,ax 2 (dL (G++[s]))),(12,.d (.int .i64 ((left-s.len.toNat:Nat):Int))),(40,.d y40),(41,.d y41)],⟨[(0,X)],N+1⟩⟩)) (fun e=>er3 e ⟨[(0,X)],N+1⟩):=by
 rw[axm,ki.eq_1];have hp3:2 ^ 1≤2 ^ sz:=Nat.pow_le_pow_right (by omega) hs1;have hN0:N≠0:=by omega
 have c0:((0:Nat):Int)=0:=rfl;have h5:=fun bk M N hM a h1 h2' ha=>al4 b sz (2 ^ sz-1) left hb hsz rfl hs1 h2 x6 (ax 2 (dL G)) bk X y40 y41 M N hM (left+1) a 0 h1 h2' ha
 simp only[c0]at h5;have h6:=fun k n left=>W9 ⟨k,n⟩ left
 simp (maxSteps:=300000) (disch:=first | omega | assumption) [↓if_pos,↓if_neg,ez];refine fI (fun _ _=>rfl) (fun k a1 hp=>?_) fun _=>rfl
 have hp1:k<16:=hp.1;by_cases hk:k=12∨13<k
 ·grind
 ·rw[if_neg hk,if_neg (by omega),h5 k N (N+1) h4 a1 (by omega) (by omega) hp.2];simp only[axK,axQ];refine fI (fun _ _=>rfl) (fun n a2 hq=>?_) fun _=>rfl
  by_cases hn:n=0
  ·have hr:¬ ao.right ⟨k,n⟩ left:=by simp_all
   simp (disch:=first | omega | assumption) [↓if_pos,↓if_neg,h6]
  ·have hr:ao.right ⟨k,n⟩ left:=by grind
   have e1:((left-n:Nat):Int)=(left:Int)-n:=by omega
   have e2:(dL G).length<1000000000:=by grind [at9]
   simp (disch:=first | omega | assumption) [↓if_pos,↓if_neg,h6,e1,lY]
def NR (b:List Nat) (sz:Nat):Nat→Nat→Nat→Nat
 | 0,_,_=>0
 | f+1,left,a=>if left=0 then 0 else match Cr b sz left a with
  | .ok s a=>NR b sz f (left-s.len.toNat) a+1
  | .er _=>1
theorem amb (b:List Nat) (sz:Nat) (hb:b.length≤1000000000) (hsz:sz≤5) (hs1:1≤sz) (x6:AV) (X:Obj) (y40 y41:D):∀ (f left a N:Nat) (G:List ao),left≤f→left≤1000→G.length+left≤10000→1≤N→a≤b.length→
  (Dn prog).code (.loop ki) ⟨[(0,.d (.lst (af b))),(5,.ptr 0 0),(6,x6),(7,.d (.int .i64 a)),(9,.d (.int .i64 sz)),(10,.d (.int .i64 ((2 ^ sz-1:Nat):Int))),(11,ax 2 (dL G)),(12,.d (.int .i64 left)),(40,.d y40),(41,.d y41)],⟨[(0,X)],N⟩⟩ =
  rK (Xv b left) (gj b sz f left a) (fun l a=>some (.exit 2,⟨[(0,.d (.lst (af b))),(5,.ptr 0 0),(6,x6),(7,.d (.int .i64 a)),(9,.d (.int .i64 sz)),(10,.d (.int .i64 ((2 ^ sz-1:Nat):Int))),(11,ax 2 (dL (G++l))),(40,.d y40),(41,.d y41)],⟨[(0,X)],N+l.length⟩⟩)) (fun e=>er3 e ⟨[(0,X)],N+NR b sz f left a⟩):=by
 intro f
 induction f with
 | zero =>
  intro left a N G h1 h2 h3 h4 ha;have:left=0:=by omega
  subst this;rw[Wx ha,aa ki.eq_1];simp (disch:=first | omega | assumption) [↓if_neg]
 | succ f ih =>
  intro left a N G h1 h2 h3 h4 ha;by_cases h0:left=0
  ·subst h0;rw[Wx ha,aa ki.eq_1];simp (disch:=first | omega | assumption) [↓if_neg]
  ·rw[apN h1 h0,aa rfl,amf b sz hb hsz hs1 x6 X y40 y41 left a N G h0 h2 h3 h4 ha,ane];refine WX (fun _ _ h=>aj2 h) (fun s a1 e1 hp=>?_) (fun e e1=>?_)
   ·rw[Gj,ih (left-s.len.toNat) a1 (N+1) (G++[s]) (by omega) (by omega) (by grind) (by omega) hp.2]
    grind [NR]
   simp_all [NR]
def mj (b:List Nat) (sz au:Nat):Nat→Nat→R (List (List ao))
 | 0,a=>.ok [] a
 | k+1,a=>(gj b sz au au a).bind fun l a=>(mj b sz au k a).bind fun g a=>.ok (l::g) a
abbrev Rt (b:List Nat) (max k:Nat) (g:List (List ao)) (a:Nat):Prop:=(∀ l∈g,fitsS max l∧l.length≤max)∧a≤b.length∧g.length=k
theorem NS {b:List Nat}{sz max:Nat}:∀ {k a m:Nat}{g:List (List ao)},a≤b.length→mj b sz max k a=.ok g m→Rt b max k g m
 | 0,a,m,g,ha,h=>by
  grind [mj]
 | k+1,a,m,g,ha,h=>by
  simp only[mj]at h
  cases h1:gj b sz max max a with
  | er e=>simp_all
  | ok l a1 =>
   have hp:=CW (Nat.le_refl _) ha h1
   cases h2:mj b sz max k a1 with
   | er e=>simp_all
   | ok g2 a2 =>
    have hq:=NS hp.2.1 h2
    grind [ak]
theorem atl {γ:Type}{b:List Nat}{sz max k a:Nat}{F:List (List ao)→Nat→γ}{G:Nat→γ}(ha:a≤b.length):rK (Rt b max (k+1)) (mj b sz max (k+1) a) F G =
  rK (Xv b max) (gj b sz max max a) (fun l a=>rK (Rt b max k) (mj b sz max k a) (fun g a=>F (l::g) a) G) G:=by
 rw[mj,pn (q:=Xv b max) fun _ _ h=>CW (Nat.le_refl _) ha h];refine fI (fun _ _=>rfl) (fun l a hp=>?_) fun _=>rfl
 rw[pn (q:=Rt b max k) fun _ _ h=>NS hp.2.1 h];refine fI (fun _ _=>rfl) (fun g a hq=>?_) fun _=>rfl
 grind [cG]
theorem aqt {γ:Type}{b:List Nat}{sz max a:Nat}{F:List (List ao)→Nat→γ}{G:Nat→γ}(ha:a≤b.length):rK (Rt b max 0) (mj b sz max 0 a) F G=F [] a:=by
 grind [mj,cG]
def aC (g:List (List ao)):List (List D):=g.map fun l=>[.lst (dL l)]
@[simp] theorem aru {g:List (List ao)}:(aC g).length=g.length:=by simp[aC]
@[simp] theorem aAl {g:List (List ao)}{l:List ao}:aC (g++[l])=aC g++[[.lst (dL l)]]:=by simp[aC]
def aoO:List (List ao)→Nat
 | []=>0
 | l::g=>l.length+aoO g
def an4 (b:List Nat) (sz max:Nat):Nat→Nat→Nat
 | 0,_=>0
 | k+1,a=>match gj b sz max max a with
  | .ok l a=>l.length+an4 b sz max k a
  | .er _=>NR b sz max max a
theorem amh (b:List Nat) (i:am) (sz mx:Nat) (hmx:i.max=mx) (hb:b.length≤1000000000) (hsz:sz≤5) (hs1:1≤sz) (h2:mx≤1000) (a N j len:Nat) (Gs:List (List ao)) (h3:Gs.length≤10000) (h4:1≤N) (ha:a≤b.length) (hj:j<len) (hlen:len≤10000) :
  (Dn prog).code mH ⟨[(0,.d (.lst (af b))),(5,.ptr 0 0),(6,ax 1 (aC Gs)),(7,.d (.int .i64 a)),(9,.d (.int .i64 sz)),(10,.d (.int .i64 ((2 ^ sz-1:Nat):Int))),(40,.d (.int .i64 len)),(41,.d (.int .i64 j))],⟨[(0,.cells i.cells)],N⟩⟩ =
  rK (Xv b mx) (gj b sz mx mx a) (fun l a=>some (.normal,⟨[(0,.d (.lst (af b))),(5,.ptr 0 0),(6,ax 1 (aC (Gs++[l]))),(7,.d (.int .i64 a)),(9,.d (.int .i64 sz)),(10,.d (.int .i64 ((2 ^ sz-1:Nat):Int))),(40,.d (.int .i64 len)),(41,.d (.int .i64 ((j+1:Nat):Int)))],⟨[(0,.cells i.cells)],N+l.length⟩⟩)) (fun e=>er3 e ⟨[(0,.cells i.cells)],N+NR b sz mx mx a⟩):=by
 rw[mH.eq_1];have h5:=fun y40 y41=>amb b sz hb hsz hs1 (ax 1 (aC Gs)) (.cells i.cells) y40 y41 mx mx a N [] (Nat.le_refl _) h2 (by simp;omega) h4 ha
 simp only[dL,List.map_nil,kL,List.nil_append,am.cells,hmx]at h5;have e2:(aC Gs).length<1000000000:=by rw[aru];omega
 simp (maxSteps:=300000) (disch:=first | omega | assumption) [↓if_pos,↓if_neg,h5,hmx];refine fI (fun _ _=>rfl) (fun l a2 hq=>?_) fun e=>rfl
 simp[lY,dL]
theorem alT (b:List Nat) (i:am) (sz mx:Nat) (hmx:i.max=mx) (hb:b.length≤1000000000) (hsz:sz≤5) (hs1:1≤sz) (h2:mx≤1000) (len:Nat) (hlen:len≤1000):∀ (k a N j:Nat) (Gs:List (List ao)),j+k=len→Gs.length+k≤10000→1≤N→a≤b.length→
  (Dn prog).code (.loop mH) ⟨[(0,.d (.lst (af b))),(5,.ptr 0 0),(6,ax 1 (aC Gs)),(7,.d (.int .i64 a)),(9,.d (.int .i64 sz)),(10,.d (.int .i64 ((2 ^ sz-1:Nat):Int))),(40,.d (.int .i64 len)),(41,.d (.int .i64 j))],⟨[(0,.cells i.cells)],N⟩⟩ =
  rK (Rt b mx k) (mj b sz mx k a) (fun g a=>some (.exit 0,⟨[(6,ax 1 (aC (Gs++g))),(7,.d (.int .i64 a))],⟨[(0,.cells i.cells)],N+aoO g⟩⟩)) (fun e=>er3 e ⟨[(0,.cells i.cells)],N+an4 b sz mx k a⟩):=by
 intro k
 induction k with
 | zero =>
  intro a N j Gs h1 h3 h4 ha;rw[aqt ha,aa mH.eq_1];simp (maxSteps:=300000) (disch:=first | omega | assumption) [↓if_pos,↓if_neg,aoO]
 | succ k ih =>
  intro a N j Gs h1 h3 h4 ha;rw[atl ha,aa rfl,amh b i sz mx hmx hb hsz hs1 h2 a N j len Gs (by omega) h4 ha (by omega) (by omega),ane];refine WX (fun _ _ h=>CW (Nat.le_refl _) ha h) (fun l a1 e1 hp=>?_) (fun e e1=>?_)
  ·rw[Gj,ih a1 (N+l.length) (j+1) (Gs++[l]) (by omega) (by simp;omega) (by omega) hp.2.1];refine WX (fun _ _ h=>NS hp.2.1 h) (fun g a2 e2 hq=>?_) (fun e e2=>?_)
   ·simp[aoO,Nat.add_assoc]
   ·simp[an4,e1,Nat.add_assoc]
  ·simp[an4,e1]
theorem atH {m:Nat}{xs:List (List D)}(h:∀ x∈xs,∃ l,x=[D.lst l]) (hf:iH (ax m xs)=true):kG (ax m xs)=ax m xs:=by
 cases xs with
 | nil=>rfl
 | cons x r =>
  obtain⟨l,rfl⟩:=h x (by simp);simp[ax,iH,eY,jY]at hf
theorem awO {g:List (List ao)}:∀ x∈aC g,∃ l,x=[D.lst l]:=by
 intro x hx;simp only[aC,List.mem_map]at hx;obtain⟨l,_,rfl⟩:=hx;exact⟨_,rfl⟩
def nb (b:List Nat) (i:am) (a:Int):R (List (List ao)) :=
 if 0≤a∧a≤b.length then mj b i.fsz i.max.toNat i.groups.length a.toNat else .er 1
theorem arz {b:List Nat}{a:Int}:aQ b a 0=if 0≤a∧a≤b.length then .ok 0 a.toNat else .er 1:=by
 unfold aQ;by_cases h:0≤a∧a≤b.length
 ·rw[if_pos h,if_pos (by omega),if_neg (by omega),if_pos (by simp[bin])];simp[val]
 ·rw[if_neg h,if_neg (by omega)]
theorem atC (b:List Nat) (a:Int) (i:am) (hb:b.length≤1000000000) (ha:i64 a) (hi:i.Fit) (hm:i.may 11):aO prog Jm [.d (.lst (af b)),.d (.int .i64 a),.agg i.cells] =
  rK (Rt b i.max.toNat i.groups.length) (nb b i a) (fun g n=>some (.tup [ax 1 (aC g),.d (.int .i64 n),.d (.int .i64 0)])) (fun e=>some (.tup [.nl,.d (.int .i64 0),.d (.int .i64 (e+1))])):=by
 have hw:=jD i hi;rw[if_pos hm]at hw;have hf:=Vu i;have hmx:i.max=i.max.toNat:=by have:=hm.2.2.1;omega
 have hmb:i.max.toNat≤1000:=by have:=hm.2.2.2.1;have:=CR (r:=11) (s:=decide (i.seq=2)) (by omega);omega
 have hsz:1≤i.fsz∧i.fsz≤5:=by unfold am.fsz;split<;>omega
 have hll:=hi.len;rw[aq aoM Ib.eq_1 rfl];have hl:=alT b i i.fsz i.max.toNat hmx hb hsz.2 hsz.1 hmb i.groups.length hi.len;simp only[am.cells]at hw hf;unfold nb;by_cases h0:0≤a∧a≤b.length
 ·obtain⟨A,rfl⟩:=Int.eq_ofNat_of_zero_le h0.1;have h1:=hl i.groups.length A 1 0 [] (by omega) (by simp;omega) (by omega) (by omega);have c0:((0:Nat):Int)=0:=rfl;simp only[am.cells,aC,List.map_nil,kL,List.nil_append,c0]at h1;rw[if_pos h0];simp (maxSteps:=300000) (disch:=first | omega | assumption) [↓if_pos,↓if_neg,hw,hf,ez,arz,h0];rw[cG ⟨by simp,by omega⟩];simp (maxSteps:=300000) (disch:=first | omega | assumption) [h1];refine fI (fun _ _=>rfl) (fun g n hp=>?_) fun _=>rfl
  have hb:=atH (m:=1) (awO (g:=g));simp only[aC]at hb⊢;by_cases hf:iH (ax 1 (List.map (fun l=>[D.lst (dL l)]) g))=true
  ·rw[if_pos hf,hb hf]
  ·rw[if_neg hf]
 ·rw[if_neg h0];simp (maxSteps:=300000) (disch:=first | omega | assumption) [↓if_pos,↓if_neg,hw,hf,ez,arz,h0]
abbrev Z2:Obj:=.cells [.d (.int .i64 0),.d (.int .i64 0)]
structure Hp (hp:List Nat→ac) (D:Nat):Prop where
 get:∀ xs,get (hp xs) D=some (.arr 1 (bj xs))
 put:∀ xs ys,put (hp xs) D (.arr 1 (bj ys))=hp ys
def swp (xs:List Nat) (i j:Nat):List Nat:=(xs.set i (nth xs j)).set j (nth xs i)
@[simp] theorem pc {xs:List Nat}{i j:Nat}:(swp xs i j).length=xs.length:=by simp[swp]
def swpR (xs:List Nat) (a b:Nat):Nat→Nat→List Nat
 | 0,_=>xs
 | k+1,i=>swpR (swp xs (a+i) (b+i)) a b k (i+1)
@[simp] theorem wN {a b:Nat}:∀ {k i:Nat}{xs:List Nat},(swpR xs a b k i).length=xs.length
 | 0,_,_=>rfl
 | k+1,i,xs=>by rw[swpR,wN,pc]
section
variable {hp:List Nat→ac}{D:Nat}
theorem aj1 (H:Hp hp D) (len:Nat) (hlen:len≤1000000000) (a b n N:Nat) (ha:a+n≤len) (hb:b+n≤len):∀ (k i:Nat) (xs:List Nat),i+k=n→xs.length=len→
  (Dn prog).code (.loop dj) ⟨[(0,.sl D 0 len),(1,.d (.int .i64 a)),(2,.d (.int .i64 b)),(3,.d (.int .i64 n)),(10,.d (.int .i64 i))],⟨hp xs,N⟩⟩ =
  some (.exit 0,⟨[],⟨hp (swpR xs a b k i),N⟩⟩):=by
 intro k
 induction k with
 | zero =>
  intro i xs hi hx;rw[aa dj.eq_1];simp (maxSteps:=300000) (disch:=omega) [↓if_pos,↓if_neg,swpR]
 | succ k ih =>
  intro i xs hi hx;rw[aa dj.eq_1];have l1:=List.length_set (as:=xs) (i:=a+i) (a:=nth xs (b+i));simp (maxSteps:=300000) (disch:=omega) [↓if_pos,↓if_neg,H.get,H.put];have h:=ih (i+1) (swp xs (a+i) (b+i)) (by omega) (by simpa using hx);have c1:((i+1:Nat):Int)=(i:Int)+1:=rfl;rw[c1]at h;rw[swpR,←h];rfl
theorem LZ (H:Hp hp D) (F:AV) (len:Nat) (hlen:len≤1000000000) (a b n N:Nat) (ha:a+n≤len) (hb:b+n≤len) (xs:List Nat) (hx:xs.length=len) :
  (Dn prog).call cJ [.sl D 0 len,.d (.int .i64 a),.d (.int .i64 b),.d (.int .i64 n),F] ⟨hp xs,N⟩=some (.tup [],⟨hp (swpR xs a b n 0),N⟩):=by
 rw[aD vU gE.eq_1 rfl];have h:=aj1 H len hlen a b n N ha hb n 0 xs (by omega) hx;have c0:((0:Nat):Int)=0:=rfl;rw[c0]at h;simp (maxSteps:=300000) (disch:=omega) [↓if_pos,↓if_neg,h]
def rot (m:Nat):Nat→List Nat→Nat→Nat→List Nat
 | 0,xs,i,j=>xs
 | f+1,xs,i,j=>if i=j then swpR xs (m-i) m i 0 else if j<i then rot m f (swpR xs (m-i) m j 0) (i-j) j else rot m f (swpR xs (m-i) (m+j-i) i 0) i (j-i)
theorem A8 {m:Nat}:∀ {f:Nat}{xs:List Nat}{i j:Nat},(rot m f xs i j).length=xs.length
 | 0,_,_,_=>rfl
 | f+1,xs,i,j=>by
  rw[rot];split
  ·exact wN
  ·split
   ·rw[A8,wN]
   ·rw[A8,wN]
theorem aqC (H:Hp hp D) (F:AV) (hF:share F=F) (hG:firm F=F) (len:Nat) (hlen:len≤1000000000) (m N:Nat):∀ (f i j:Nat) (xs:List Nat),i+j≤f→1≤i→1≤j→i≤m→m+j≤len→xs.length=len→
  ∃ (k:Nat) (ys:List Nat),(Dn prog).code (.loop gC) ⟨[(0,.sl D 0 len),(2,.d (.int .i64 m)),(4,F),(10,.d (.int .i64 i)),(11,.d (.int .i64 j))],⟨hp xs,N⟩⟩ =
   some (.exit 0,⟨[(0,.sl D 0 len),(2,.d (.int .i64 m)),(4,F),(10,.d (.int .i64 k))],⟨hp ys,N⟩⟩)∧k≤m∧m+k≤len∧ys.length=len∧swpR ys (m-k) m k 0=rot m f xs i j:=by
 intro f
 induction f with
 | zero=>intro i j xs h h1 h2;omega
 | succ f ih =>
  intro i j xs h h1 h2 h3 h4 hx;rw[aa gC.eq_1];by_cases e:i=j
  ·subst e;refine⟨i,xs,?_,h3,h4,hx,?_⟩
   ·simp (maxSteps:=300000) (disch:=omega) [↓if_pos,↓if_neg]
   ·rw[rot,if_pos rfl]
  ·by_cases e2:j<i
   ·obtain⟨k,ys,g1,g2,g3,g4,g5⟩:=ih (i-j) j (swpR xs (m-i) m j 0) (by omega) (by omega) h2 (by omega) h4 (by simpa using hx);refine⟨k,ys,?_,g2,g3,g4,?_⟩
    ·have hs:=LZ H F len hlen (m-i) m j N (by omega) (by omega) xs hx;have c1:((m-i:Nat):Int)=(m:Int)-i:=by omega
     have c2:((i-j:Nat):Int)=(i:Int)-j:=by omega
     rw[c1]at hs;rw[c2]at g1;simp (maxSteps:=300000) (disch:=omega) [↓if_pos,↓if_neg,hs,hF,hG,g1]
    ·rw[rot,if_neg e,if_pos e2,g5]
   ·obtain⟨k,ys,g1,g2,g3,g4,g5⟩:=ih i (j-i) (swpR xs (m-i) (m+j-i) i 0) (by omega) h1 (by omega) h3 (by omega) (by simpa using hx);refine⟨k,ys,?_,g2,g3,g4,?_⟩
    ·have hs:=LZ H F len hlen (m-i) (m+j-i) i N (by omega) (by omega) xs hx;have c1:((m-i:Nat):Int)=(m:Int)-i:=by omega
     have c2:((j-i:Nat):Int)=(j:Int)-i:=by omega
     have c3:((m+j-i:Nat):Int)=(m:Int)+j-i:=by omega
     rw[c1,c3]at hs;rw[c2]at g1;simp (maxSteps:=300000) (disch:=omega) [↓if_pos,↓if_neg,hs,hF,hG,g1]
    ·rw[rot,if_neg e,if_neg e2,g5]
theorem aqW (H:Hp hp D) (F:AV) (hF:share F=F) (hG:firm F=F) (len:Nat) (hlen:len≤1000000000) (a m b N:Nat) (h1:a<m) (h2:m<b) (h3:b≤len) (xs:List Nat) (hx:xs.length=len) :
  (Dn prog).call i9 [.sl D 0 len,.d (.int .i64 a),.d (.int .i64 m),.d (.int .i64 b),F] ⟨hp xs,N⟩=some (.tup [],⟨hp (rot m (b-a) xs (m-a) (b-m)),N⟩):=by
 obtain⟨k,ys,g1,g2,g3,g4,g5⟩:=aqC H F hF hG len hlen m N (b-a) (m-a) (b-m) xs (by omega) (by omega) (by omega) (by omega) (by omega) hx;have hs:=LZ H F len hlen (m-k) m k N (by omega) (by omega) ys g4;have c1:((m-k:Nat):Int)=(m:Int)-k:=by omega
 have c2:((m-a:Nat):Int)=(m:Int)-a:=by omega
 have c3:((b-m:Nat):Int)=(b:Int)-m:=by omega
 rw[c1,g5]at hs;rw[c2,c3]at g1;rw[aD zT jd.eq_1 rfl];simp (maxSteps:=300000) (disch:=omega) [↓if_pos,↓if_neg,hs,hF,hG,g1]
end
structure Cm (hp:List Nat→ac) (L:Nat) (F:AV) (C:Nat→Nat→Int):Prop where
 sh:share F=F
 fi:firm F=F
 cl:∀ xs N x y,x<L→y<L→bf (Dn prog) F [.d (.int .i64 (x:Nat)),.d (.int .i64 (y:Nat))] ⟨hp xs,N⟩=some (.d (.int .i64 (C x y)),⟨hp xs,N⟩)
abbrev ck (L:Nat) (xs:List Nat):Prop:=∀ x∈xs,x<L
theorem ck.nth {L:Nat}{xs:List Nat}(u:ck L xs) {i:Nat}(h:i<xs.length):Vm.nth xs i<L:=u _ (gn h)
theorem ck.swp {L:Nat}{xs:List Nat}(u:ck L xs) {i j:Nat}(hi:i<xs.length) (hj:j<xs.length):ck L (swp xs i j):=by
 intro x hx;rcases List.mem_or_eq_of_mem_set hx with h | h
 ·rcases List.mem_or_eq_of_mem_set h with h | h
  ·exact u x h
  ·exact h▸u.nth hj
 ·exact h▸u.nth hi
theorem ck.swpR {L a b:Nat}:∀ {k i:Nat}{xs:List Nat},ck L xs→a+i+k≤xs.length→b+i+k≤xs.length→ck L (swpR xs a b k i)
 | 0,_,_,u,_,_=>u
 | k+1,i,xs,u,h1,h2=>by
  rw[Vm.swpR];exact ck.swpR (u.swp (by omega) (by omega)) (by rw[pc];omega) (by rw[pc];omega)
theorem ck.rot {L m:Nat}:∀ {f i j:Nat}{xs:List Nat},ck L xs→i≤m→m+j≤xs.length→ck L (rot m f xs i j)
 | 0,_,_,_,u,_,_=>u
 | f+1,i,j,xs,u,h1,h2=>by
  rw[Vm.rot];split
  ·exact u.swpR (by omega) (by omega)
  ·split
   ·exact(u.swpR (by omega) (by omega)).rot (by omega) (by rw[wN];omega)
   ·exact(u.swpR (by omega) (by omega)).rot (by omega) (by rw[wN];omega)
def insJ (C:Nat→Nat→Int) (a:Nat):Nat→List Nat→List Nat
 | 0,xs=>xs
 | j+1,xs=>if a≤j∧C (nth xs (j+1)) (nth xs j)<0 then insJ C a j (swp xs (j+1) j) else xs
def insO (C:Nat→Nat→Int) (a:Nat):Nat→Nat→List Nat→List Nat
 | 0,_,xs=>xs
 | k+1,i,xs=>insO C a k (i+1) (insJ C a i xs)
section
variable {C:Nat→Nat→Int}{a:Nat}
theorem Ht:∀ {j:Nat}{xs:List Nat},(insJ C a j xs).length=xs.length
 | 0,_=>rfl
 | j+1,xs=>by
  rw[insJ];split
  ·rw[Ht,pc]
  ·rfl
theorem UE:∀ {k i:Nat}{xs:List Nat},(insO C a k i xs).length=xs.length
 | 0,_,_=>rfl
 | k+1,i,xs=>by rw[insO,UE,Ht]
theorem ck.insJ {L:Nat}:∀ {j:Nat}{xs:List Nat},ck L xs→j<xs.length→ck L (insJ C a j xs)
 | 0,_,u,_=>u
 | j+1,xs,u,h=>by
  rw[Vm.insJ];split
  ·exact(u.swp h (by omega)).insJ (by rw[pc];omega)
  ·exact u
theorem ck.insO {L:Nat}:∀ {k i:Nat}{xs:List Nat},ck L xs→i+k≤xs.length→ck L (insO C a k i xs)
 | 0,_,_,u,_=>u
 | k+1,i,xs,u,h=>by
  rw[Vm.insO];exact(u.insJ (by omega)).insO (by rw[Ht];omega)
end
section
variable {hp:List Nat→ac}{D L:Nat}{F:AV}{C:Nat→Nat→Int}
theorem arN (H:Hp hp D) (K:Cm hp L F C) (len:Nat) (hlen:len≤1000000000) (a b I N:Nat):∀ (j:Nat) (xs:List Nat),j<len→xs.length=len→ck L xs→
  (Dn prog).code (.loop cA) ⟨[(0,.sl D 0 len),(1,.d (.int .i64 a)),(2,.d (.int .i64 b)),(3,F),(8,.d (.int .i64 I)),(9,.d (.int .i64 j))],⟨hp xs,N⟩⟩ =
  some (.exit 2,⟨[(0,.sl D 0 len),(1,.d (.int .i64 a)),(2,.d (.int .i64 b)),(3,F),(8,.d (.int .i64 I))],⟨hp (insJ C a j xs),N⟩⟩):=by
 intro j
 induction j with
 | zero =>
  intro xs hj hx u;rw[aa cA.eq_1];simp (maxSteps:=300000) (disch:=omega) [↓if_pos,↓if_neg,insJ,K.sh,K.fi]
 | succ j ih =>
  intro xs hj hx u;rw[aa cA.eq_1];have c1:((j+1:Nat):Int)=(j:Int)+1:=rfl;by_cases h1:a≤j
  ·have hc:=K.cl xs N _ _ (u.nth (i:=j+1) (by omega)) (u.nth (i:=j) (by omega));have l1:=List.length_set (as:=xs) (i:=j+1) (a:=nth xs j);by_cases h2:C (nth xs (j+1)) (nth xs j)<0
   ·have h:=ih (swp xs (j+1) j) (by omega) (by simpa using hx) (u.swp (by omega) (by omega));rw[insJ,if_pos ⟨h1,h2⟩,←h];simp (maxSteps:=300000) (disch:=omega) [↓if_pos,↓if_neg,K.sh,K.fi,H.get,H.put,hc,c1];rfl
   ·rw[insJ,if_neg (fun h=>h2 h.2)];simp (maxSteps:=300000) (disch:=omega) [↓if_pos,↓if_neg,K.sh,K.fi,H.get,H.put,hc,c1]
  ·rw[insJ,if_neg (fun h=>h1 h.1)];simp (maxSteps:=300000) (disch:=omega) [↓if_pos,↓if_neg,K.sh,K.fi,c1]
theorem aqu (H:Hp hp D) (K:Cm hp L F C) (len:Nat) (hlen:len≤1000000000) (a b N:Nat) (hb:b≤len):∀ (k i:Nat) (xs:List Nat),i+k=b→xs.length=len→ck L xs→
  (Dn prog).code (.loop cw) ⟨[(0,.sl D 0 len),(1,.d (.int .i64 a)),(2,.d (.int .i64 b)),(3,F),(8,.d (.int .i64 i))],⟨hp xs,N⟩⟩ =
  some (.exit 0,⟨[],⟨hp (insO C a k i xs),N⟩⟩):=by
 intro k
 induction k with
 | zero =>
  intro i xs hi hx u;rw[aa cw.eq_1];simp (maxSteps:=300000) (disch:=omega) [↓if_pos,↓if_neg,insO,K.sh,K.fi]
 | succ k ih =>
  intro i xs hi hx u;rw[aa cw.eq_1];have h0:=arN H K len hlen a b i N i xs (by omega) hx u;have h:=ih (i+1) (insJ C a i xs) (by omega) (by rw[Ht];exact hx) (u.insJ (by omega));have c1:((i+1:Nat):Int)=(i:Int)+1:=rfl;rw[c1]at h;rw[insO,←h];simp (maxSteps:=300000) (disch:=omega) [↓if_pos,↓if_neg,K.sh,K.fi,h0]
theorem JG (H:Hp hp D) (K:Cm hp L F C) (len:Nat) (hlen:len≤1000000000) (a b N:Nat) (hab:a<b) (hb:b≤len) (xs:List Nat) (hx:xs.length=len) (u:ck L xs) :
  (Dn prog).call c6 [.sl D 0 len,.d (.int .i64 a),.d (.int .i64 b),F] ⟨hp xs,N⟩=some (.tup [],⟨hp (insO C a (b-(a+1)) (a+1) xs),N⟩):=by
 rw[aD qE eW.eq_1 rfl];have h:=aqu H K len hlen a b N hb (b-(a+1)) (a+1) xs (by omega) hx u;have c1:((a+1:Nat):Int)=(a:Int)+1:=rfl;rw[c1]at h;simp (maxSteps:=300000) (disch:=omega) [↓if_pos,↓if_neg,K.sh,K.fi,h]
end
def Gl (C:Nat→Nat→Int) (xs:List Nat) (a:Nat):Nat→Nat→Nat→Nat
 | 0,i,_=>i
 | f+1,i,j=>if i<j then (if C (nth xs ((i+j) / 2)) (nth xs a)<0 then Gl C xs a f ((i+j) / 2+1) j else Gl C xs a f i ((i+j) / 2)) else i
def GA (C:Nat→Nat→Int) (xs:List Nat) (m:Nat):Nat→Nat→Nat→Nat
 | 0,i,_=>i
 | f+1,i,j=>if i<j then (if C (nth xs m) (nth xs ((i+j) / 2))<0 then GA C xs m f i ((i+j) / 2) else GA C xs m f ((i+j) / 2+1) j) else i
def lm (C:Nat→Nat→Int) (xs:List Nat) (p:Nat):Nat→Nat→Nat→Nat
 | 0,i,_=>i
 | f+1,i,j=>if i<j then (if C (nth xs (p-(i+j) / 2)) (nth xs ((i+j) / 2))<0 then lm C xs p f i ((i+j) / 2) else lm C xs p f ((i+j) / 2+1) j) else i
def shU:Nat→Nat→List Nat→List Nat
 | 0,_,xs=>xs
 | n+1,k,xs=>shU n (k+1) (swp xs k (k+1))
def shD:Nat→Nat→List Nat→List Nat
 | 0,_,xs=>xs
 | n+1,k,xs=>shD n (k-1) (swp xs k (k-1))
theorem RB {i j:Nat}:((i:Int)+j).fdiv 2=(((i+j) / 2:Nat):Int):=by
 rw[Int.fdiv_eq_ediv_of_nonneg _ (by omega)];omega
section
variable {hp:List Nat→ac}{D L:Nat}{F:AV}{C:Nat→Nat→Int}
theorem alM (H:Hp hp D) (K:Cm hp L F C) (len:Nat) (hlen:len≤1000000000) (a N:Nat) (ha:a<len) (xs:List Nat) (hx:xs.length=len) (u:ck L xs):∀ (f i j:Nat),j-i≤f→i≤j→j≤len→
  (Dn prog).code (.loop dx) ⟨[(0,.sl D 0 len),(1,.d (.int .i64 a)),(4,F),(10,.d (.int .i64 i)),(11,.d (.int .i64 j))],⟨hp xs,N⟩⟩ =
  some (.exit 0,⟨[(0,.sl D 0 len),(1,.d (.int .i64 a)),(10,.d (.int .i64 (Gl C xs a f i j:Nat)))],⟨hp xs,N⟩⟩):=by
 intro f
 induction f with
 | zero =>
  intro i j h1 h2 h3;rw[aa dx.eq_1];simp (maxSteps:=300000) (disch:=omega) [↓if_pos,↓if_neg,Gl,K.sh,K.fi]
 | succ f ih =>
  intro i j h1 h2 h3;rw[aa dx.eq_1];by_cases h:i<j
  ·have hf:=RB (i:=i) (j:=j);rw[Gl,if_pos h];have q1:i≤(i+j) / 2∧(i+j) / 2<j:=by omega
   generalize (i+j) / 2=q at *;have hc:=K.cl xs N _ _ (u.nth (i:=q) (by omega)) (u.nth (i:=a) (by omega));by_cases g:C (nth xs q) (nth xs a)<0
   ·have h5:=ih (q+1) j (by omega) (by omega) h3;rw[if_pos g,←h5];simp (maxSteps:=300000) (disch:=omega) [↓if_pos,↓if_neg,K.sh,K.fi,H.get,H.put,hc,hf]
   ·have h5:=ih i q (by omega) (by omega) (by omega);rw[if_neg g,←h5];simp (maxSteps:=300000) (disch:=omega) [↓if_pos,↓if_neg,K.sh,K.fi,H.get,H.put,hc,hf]
  ·rw[Gl,if_neg h];simp (maxSteps:=300000) (disch:=omega) [↓if_pos,↓if_neg,K.sh,K.fi]
theorem alV (H:Hp hp D) (len:Nat) (hlen:len≤1000000000) (I N:Nat) (hI:I≤len):∀ (n k:Nat) (xs:List Nat),k+n=I-1→xs.length=len→
  (Dn prog).code (.loop dw) ⟨[(0,.sl D 0 len),(10,.d (.int .i64 I)),(13,.d (.int .i64 k))],⟨hp xs,N⟩⟩=some (.exit 2,⟨[],⟨hp (shU n k xs),N⟩⟩):=by
 intro n
 induction n with
 | zero =>
  intro k xs h hx;rw[aa dw.eq_1];simp (maxSteps:=300000) (disch:=omega) [↓if_pos,↓if_neg,shU]
 | succ n ih =>
  intro k xs h hx;rw[aa dw.eq_1];have l1:=List.length_set (as:=xs) (i:=k) (a:=nth xs (k+1));have h5:=ih (k+1) (swp xs k (k+1)) (by omega) (by simpa using hx);rw[shU,←h5];simp (maxSteps:=300000) (disch:=omega) [↓if_pos,↓if_neg,H.get,H.put];rfl
theorem alZ (H:Hp hp D) (K:Cm hp L F C) (len:Nat) (hlen:len≤1000000000) (m N:Nat) (ha:m<len) (xs:List Nat) (hx:xs.length=len) (u:ck L xs):∀ (f i j:Nat),j-i≤f→i≤j→j≤len→
  (Dn prog).code (.loop dz) ⟨[(0,.sl D 0 len),(2,.d (.int .i64 m)),(4,F),(14,.d (.int .i64 i)),(15,.d (.int .i64 j))],⟨hp xs,N⟩⟩ =
  some (.exit 4,⟨[(0,.sl D 0 len),(2,.d (.int .i64 m)),(14,.d (.int .i64 (GA C xs m f i j:Nat)))],⟨hp xs,N⟩⟩):=by
 intro f
 induction f with
 | zero =>
  intro i j h1 h2 h3;rw[aa dz.eq_1];simp (maxSteps:=300000) (disch:=omega) [↓if_pos,↓if_neg,GA,K.sh,K.fi]
 | succ f ih =>
  intro i j h1 h2 h3;rw[aa dz.eq_1];by_cases h:i<j
  ·have hf:=RB (i:=i) (j:=j);rw[GA,if_pos h];have q1:i≤(i+j) / 2∧(i+j) / 2<j:=by omega
   generalize (i+j) / 2=q at *;have hc:=K.cl xs N _ _ (u.nth (i:=m) (by omega)) (u.nth (i:=q) (by omega));by_cases g:C (nth xs m) (nth xs q)<0
   ·have h5:=ih i q (by omega) (by omega) (by omega);rw[if_pos g,←h5];simp (maxSteps:=300000) (disch:=omega) [↓if_pos,↓if_neg,K.sh,K.fi,H.get,H.put,hc,hf]
   ·have h5:=ih (q+1) j (by omega) (by omega) h3;rw[if_neg g,←h5];simp (maxSteps:=300000) (disch:=omega) [↓if_pos,↓if_neg,K.sh,K.fi,H.get,H.put,hc,hf]
  ·rw[GA,if_neg h];simp (maxSteps:=300000) (disch:=omega) [↓if_pos,↓if_neg,K.sh,K.fi]
theorem amp (H:Hp hp D) (len:Nat) (hlen:len≤1000000000) (I N:Nat):∀ (n k:Nat) (xs:List Nat),I+n=k→k<len→xs.length=len→
  (Dn prog).code (.loop dt) ⟨[(0,.sl D 0 len),(14,.d (.int .i64 I)),(17,.d (.int .i64 k))],⟨hp xs,N⟩⟩=some (.exit 6,⟨[],⟨hp (shD n k xs),N⟩⟩):=by
 intro n
 induction n with
 | zero =>
  intro k xs h hk hx;rw[aa dt.eq_1];simp (maxSteps:=300000) (disch:=omega) [↓if_pos,↓if_neg,shD]
 | succ n ih =>
  intro k xs h hk hx;obtain⟨q,rfl⟩:∃ q,k=q+1:=⟨k-1,by omega⟩
  rw[aa dt.eq_1];have l1:=List.length_set (as:=xs) (i:=q+1) (a:=nth xs q);have h5:=ih q (swp xs (q+1) q) (by omega) (by omega) (by simpa using hx);rw[shD,Nat.add_sub_cancel,←h5];simp (maxSteps:=300000) (disch:=omega) [↓if_pos,↓if_neg,H.get,H.put];rfl
theorem xC (H:Hp hp D) (K:Cm hp L F C) (len:Nat) (hlen:len≤1000000000) (a m b M n p N:Nat) (xs:List Nat) (hx:xs.length=len) (u:ck L xs):∀ (f i j:Nat),j-i≤f→i≤j→j≤len→j≤p+1→p<len+i→
  (Dn prog).code (.loop dr) ⟨[(0,.sl D 0 len),(1,.d (.int .i64 a)),(2,.d (.int .i64 m)),(3,.d (.int .i64 b)),(4,F),(18,.d (.int .i64 M)),(19,.d (.int .i64 n)),(20,.d (.int .i64 i)),(21,.d (.int .i64 j)),(22,.d (.int .i64 p))],⟨hp xs,N⟩⟩ =
  some (.exit 8,⟨[(0,.sl D 0 len),(1,.d (.int .i64 a)),(2,.d (.int .i64 m)),(3,.d (.int .i64 b)),(4,F),(18,.d (.int .i64 M)),(19,.d (.int .i64 n)),(20,.d (.int .i64 (lm C xs p f i j:Nat)))],⟨hp xs,N⟩⟩):=by
 intro f
 induction f with
 | zero =>
  intro i j h1 h2 h3 h4 h5;rw[aa dr.eq_1];simp (maxSteps:=300000) (disch:=omega) [↓if_pos,↓if_neg,lm,K.sh,K.fi]
 | succ f ih =>
  intro i j h1 h2 h3 h4 h5;rw[aa dr.eq_1];by_cases h:i<j
  ·have hf:=RB (i:=i) (j:=j);rw[lm,if_pos h];have q1:i≤(i+j) / 2∧(i+j) / 2<j:=by omega
   generalize (i+j) / 2=q at *;have hp1:p-q<len:=by omega
   have hpq:((p:Int)-q)=((p-q:Nat):Int):=by omega
   generalize p-q=r at *;have hc:=K.cl xs N _ _ (u.nth (i:=r) (by omega)) (u.nth (i:=q) (by omega));by_cases g:C (nth xs r) (nth xs q)<0
   ·have h6:=ih i q (by omega) (by omega) (by omega) (by omega) (by omega);rw[if_pos g,←h6];simp (maxSteps:=300000) (disch:=omega) [↓if_pos,↓if_neg,K.sh,K.fi,H.get,H.put,hc,hf,hpq]
   ·have h6:=ih (q+1) j (by omega) (by omega) h3 (by omega) (by omega);rw[if_neg g,←h6];simp (maxSteps:=300000) (disch:=omega) [↓if_pos,↓if_neg,K.sh,K.fi,H.get,H.put,hc,hf,hpq]
  ·rw[lm,if_neg h];simp (maxSteps:=300000) (disch:=omega) [↓if_pos,↓if_neg,K.sh,K.fi]
end
def symM (C:Nat→Nat→Int):Nat→List Nat→Nat→Nat→Nat→List Nat
 | 0,xs,_,_,_=>xs
 | f+1,xs,a,m,b =>
  if m-a=1 then shU (Gl C xs a (b-m) m b-1-a) a xs
  else if b-m=1 then shD (m-GA C xs m (m-a) a m) m xs
  else
   let s:=if (a+b) / 2<m then lm C xs ((a+b) / 2+m-1) (b-a) ((a+b) / 2+m-b) ((a+b) / 2) else lm C xs ((a+b) / 2+m-1) (b-a) a m
   let e:=(a+b) / 2+m-s
   let ys:=if s<m∧m<e then rot m (e-s) xs (m-s) (e-m) else xs
   let zs:=if a<s∧s<(a+b) / 2 then symM C f ys a s ((a+b) / 2) else ys
   if (a+b) / 2<e∧e<b then symM C f zs ((a+b) / 2) e b else zs
theorem VV {C:Nat→Nat→Int}{xs:List Nat}{a:Nat}:∀ {f i j:Nat},i≤j→i≤Gl C xs a f i j∧Gl C xs a f i j≤j
 | 0,i,j,h=>⟨Nat.le_refl _,h⟩
 | f+1,i,j,h=>by
  rw[Gl];split
  ·split
   ·have:=VV (C:=C) (xs:=xs) (a:=a) (f:=f) (i:=(i+j) / 2+1) (j:=j) (by omega);omega
   ·have:=VV (C:=C) (xs:=xs) (a:=a) (f:=f) (i:=i) (j:=(i+j) / 2) (by omega);omega
  ·exact⟨Nat.le_refl _,h⟩
theorem akF {C:Nat→Nat→Int}{xs:List Nat}{m:Nat}:∀ {f i j:Nat},i≤j→i≤GA C xs m f i j∧GA C xs m f i j≤j
 | 0,i,j,h=>⟨Nat.le_refl _,h⟩
 | f+1,i,j,h=>by
  rw[GA];split
  ·split
   ·have:=akF (C:=C) (xs:=xs) (m:=m) (f:=f) (i:=i) (j:=(i+j) / 2) (by omega);omega
   ·have:=akF (C:=C) (xs:=xs) (m:=m) (f:=f) (i:=(i+j) / 2+1) (j:=j) (by omega);omega
  ·exact⟨Nat.le_refl _,h⟩
theorem CF {C:Nat→Nat→Int}{xs:List Nat}{p:Nat}:∀ {f i j:Nat},i≤j→i≤lm C xs p f i j∧lm C xs p f i j≤j
 | 0,i,j,h=>⟨Nat.le_refl _,h⟩
 | f+1,i,j,h=>by
  rw[lm];split
  ·split
   ·have:=CF (C:=C) (xs:=xs) (p:=p) (f:=f) (i:=i) (j:=(i+j) / 2) (by omega);omega
   ·have:=CF (C:=C) (xs:=xs) (p:=p) (f:=f) (i:=(i+j) / 2+1) (j:=j) (by omega);omega
  ·exact⟨Nat.le_refl _,h⟩
theorem amE:∀ {n k:Nat}{xs:List Nat},(shU n k xs).length=xs.length
 | 0,_,_=>rfl
 | n+1,k,xs=>by rw[shU,amE,pc]
theorem am8:∀ {n k:Nat}{xs:List Nat},(shD n k xs).length=xs.length
 | 0,_,_=>rfl
 | n+1,k,xs=>by rw[shD,am8,pc]
theorem ck.shU {L:Nat}:∀ {n k:Nat}{xs:List Nat},ck L xs→k+n<xs.length→ck L (shU n k xs)
 | 0,_,_,u,_=>u
 | n+1,k,xs,u,h=>by rw[Vm.shU];exact(u.swp (by omega) (by omega)).shU (by rw[pc];omega)
theorem ck.shD {L:Nat}:∀ {n k:Nat}{xs:List Nat},ck L xs→k<xs.length→ck L (shD n k xs)
 | 0,_,_,u,_=>u
 | n+1,k,xs,u,h=>by rw[Vm.shD];exact(u.swp (by omega) (by omega)).shD (by rw[pc];omega)
theorem rO {C:Nat→Nat→Int}:∀ {f:Nat}{xs:List Nat}{a m b:Nat},(symM C f xs a m b).length=xs.length
 | 0,_,_,_,_=>rfl
 | f+1,xs,a,m,b=>by
  rw[symM];split
  ·exact amE
  ·split
   ·exact am8
   ·simp only
    repeat' split
    all_goals simp only[rO,A8]
theorem ck.symM {L:Nat}{C:Nat→Nat→Int}:∀ {f:Nat}{xs:List Nat}{a m b:Nat},ck L xs→a<m→m<b→b≤xs.length→ck L (symM C f xs a m b)
 | 0,_,_,_,_,u,_,_,_=>u
 | f+1,xs,a,m,b,u,h1,h2,h3=>by
  rw[Go.Vm.symM];split
  ·have:=VV (C:=C) (xs:=xs) (a:=a) (f:=b-m) (i:=m) (j:=b) (by omega);exact u.shU (by omega)
  ·split
   ·exact u.shD (by omega)
   ·simp only;generalize hs:(if (a+b) / 2<m then lm C xs ((a+b) / 2+m-1) (b-a) ((a+b) / 2+m-b) ((a+b) / 2) else lm C xs ((a+b) / 2+m-1) (b-a) a m)=s;have s1:s≤m∧s≤(a+b) / 2+m∧a≤s+1∧(a+b) / 2+m-s≤b:=by
     grind [CF]
    generalize hys:(if s<m∧m<(a+b) / 2+m-s then Go.Vm.rot m ((a+b) / 2+m-s-s) xs (m-s) ((a+b) / 2+m-s-m) else xs)=ys;have uy:ck L ys∧ys.length=xs.length:=by
     subst hys;split
     ·exact⟨u.rot (by omega) (by omega),A8⟩
     grind
    generalize hzs:(if a<s∧s<(a+b) / 2 then Go.Vm.symM C f ys a s ((a+b) / 2) else ys)=zs;have uz:ck L zs∧zs.length=xs.length:=by
     subst hzs;split
     ·exact⟨uy.1.symM (by omega) (by omega) (by omega),by grind [rO]⟩
     omega
    split
    ·exact uz.1.symM (by omega) (by omega) (by omega)
    grind
section
variable {hp:List Nat→ac}{D L:Nat}{F:AV}{C:Nat→Nat→Int}
theorem ame (H:Hp hp D) (K:Cm hp L F C) (len:Nat) (hlen:len≤1000000000) (N f:Nat) (ih:∀ (a m b:Nat) (xs:List Nat),b-a≤f→a<m→m<b→b≤len→xs.length=len→ck L xs→
  (Dn prog).call aF [.sl D 0 len,.d (.int .i64 a),.d (.int .i64 m),.d (.int .i64 b),F] ⟨hp xs,N⟩=some (.tup [],⟨hp (symM C f xs a m b),N⟩))
  (a m b:Nat) (xs:List Nat) (h1:b-a≤f+1) (h2:a<m) (h3:m<b) (h4:b≤len) (hx:xs.length=len) (u:ck L xs) (c1:¬ m-a=1) (c2:¬ b-m=1) (c3:(a+b) / 2<m) (d1:(lm C xs ((a+b) / 2+m-1) (b-a) ((a+b) / 2+m-b) ((a+b) / 2)<m∧m<(a+b) / 2+m-lm C xs ((a+b) / 2+m-1) (b-a) ((a+b) / 2+m-b) ((a+b) / 2))) :
  (Dn prog).call aF [.sl D 0 len,.d (.int .i64 a),.d (.int .i64 m),.d (.int .i64 b),F] ⟨hp xs,N⟩=some (.tup [],⟨hp (symM C (f+1) xs a m b),N⟩):=by
 rw[aD b6 bx.eq_1 rfl,symM,if_neg c1,if_neg c2];simp only;have hf:=RB (i:=a) (j:=b);have q1:a<(a+b) / 2∧(a+b) / 2<b∧(a+b) / 2*2≤a+b∧a+b≤(a+b) / 2*2+1:=by omega
 rw[if_pos c3];generalize (a+b) / 2=M at *;have cn:((M+m:Nat):Int)=(M:Int)+m:=rfl;have cp:((M+m-1:Nat):Int)=(M:Int)+m-1:=by omega
 have s1:=CF (C:=C) (xs:=xs) (p:=M+m-1) (f:=b-a) (i:=M+m-b) (j:=M) (by omega);have g4:=xC H K len hlen a m b M (M+m) (M+m-1) N xs hx u (b-a) (M+m-b) M (by omega) (by omega) (by omega) (by omega) (by omega);have ci:((M+m-b:Nat):Int)=(M:Int)+m-b:=by omega
 rw[cn,cp,ci]at g4;generalize lm C xs (M+m-1) (b-a) (M+m-b) M=s at *;have ce:((M+m-s:Nat):Int)=(M:Int)+m-s:=by omega
 rw[if_pos d1];have hr:=aqW H F K.sh K.fi len hlen s m (M+m-s) N d1.1 d1.2 (by omega) xs hx;have uy:ck L (rot m (M+m-s-s) xs (m-s) (M+m-s-m)):=u.rot (by omega) (by omega);have ly:(rot m (M+m-s-s) xs (m-s) (M+m-s-m)).length=len:=by grind [A8]
 generalize rot m (M+m-s-s) xs (m-s) (M+m-s-m)=ys at *;rw[ce]at hr;by_cases d2:a<s∧s<M
 ·rw[if_pos d2];have h6:=ih a s M ys (by omega) d2.1 d2.2 (by omega) ly uy;have uz:ck L (symM C f ys a s M):=uy.symM d2.1 d2.2 (by omega);have lz:(symM C f ys a s M).length=len:=by grind [rO]
  generalize symM C f ys a s M=zs at *;by_cases d3:M<M+m-s∧M+m-s<b
  ·rw[if_pos d3];have h7:=ih M (M+m-s) b zs (by omega) d3.1 d3.2 h4 lz uz;rw[ce]at h7
   first
    | (exfalso;omega)
    | simp (disch:=omega) [↓if_pos,↓if_neg,K.sh,K.fi,hf,g4,hr,h6,h7]
  ·rw[if_neg d3];have h7:True:=trivial
   first
    | (exfalso;omega)
    | simp (disch:=omega) [↓if_pos,↓if_neg,K.sh,K.fi,hf,g4,hr,h6]
 ·rw[if_neg d2];have uz:=uy;have lz:=ly;have h6:True:=trivial;by_cases d3:M<M+m-s∧M+m-s<b
  ·rw[if_pos d3];have h7:=ih M (M+m-s) b ys (by omega) d3.1 d3.2 h4 lz uz
   first
    | omega
    | simp (disch:=omega) [↓if_pos,↓if_neg,K.sh,K.fi,hf,g4,hr,h6,h7]
  ·first
    | (omega)
    | simp (disch:=omega) [↓if_pos,↓if_neg,K.sh,K.fi,hf,g4,hr]
theorem alW (H:Hp hp D) (K:Cm hp L F C) (len:Nat) (hlen:len≤1000000000) (N f:Nat) (ih:∀ (a m b:Nat) (xs:List Nat),b-a≤f→a<m→m<b→b≤len→xs.length=len→ck L xs→
  (Dn prog).call aF [.sl D 0 len,.d (.int .i64 a),.d (.int .i64 m),.d (.int .i64 b),F] ⟨hp xs,N⟩=some (.tup [],⟨hp (symM C f xs a m b),N⟩))
  (a m b:Nat) (xs:List Nat) (h1:b-a≤f+1) (h2:a<m) (h3:m<b) (h4:b≤len) (hx:xs.length=len) (u:ck L xs) (c1:¬ m-a=1) (c2:¬ b-m=1) (c3:(a+b) / 2<m) (d1:¬ (lm C xs ((a+b) / 2+m-1) (b-a) ((a+b) / 2+m-b) ((a+b) / 2)<m∧m<(a+b) / 2+m-lm C xs ((a+b) / 2+m-1) (b-a) ((a+b) / 2+m-b) ((a+b) / 2))) :
  (Dn prog).call aF [.sl D 0 len,.d (.int .i64 a),.d (.int .i64 m),.d (.int .i64 b),F] ⟨hp xs,N⟩=some (.tup [],⟨hp (symM C (f+1) xs a m b),N⟩):=by
 rw[aD b6 bx.eq_1 rfl,symM,if_neg c1,if_neg c2];simp only;have hf:=RB (i:=a) (j:=b);have q1:a<(a+b) / 2∧(a+b) / 2<b∧(a+b) / 2*2≤a+b∧a+b≤(a+b) / 2*2+1:=by omega
 rw[if_pos c3];generalize (a+b) / 2=M at *;have cn:((M+m:Nat):Int)=(M:Int)+m:=rfl;have cp:((M+m-1:Nat):Int)=(M:Int)+m-1:=by omega
 have s1:=CF (C:=C) (xs:=xs) (p:=M+m-1) (f:=b-a) (i:=M+m-b) (j:=M) (by omega);have g4:=xC H K len hlen a m b M (M+m) (M+m-1) N xs hx u (b-a) (M+m-b) M (by omega) (by omega) (by omega) (by omega) (by omega);have ci:((M+m-b:Nat):Int)=(M:Int)+m-b:=by omega
 rw[cn,cp,ci]at g4;generalize lm C xs (M+m-1) (b-a) (M+m-b) M=s at *;have ce:((M+m-s:Nat):Int)=(M:Int)+m-s:=by omega
 rw[if_neg d1];have uy:=u;have ly:=hx;have hr:True:=trivial;by_cases d2:a<s∧s<M
 ·rw[if_pos d2];have h6:=ih a s M xs (by omega) d2.1 d2.2 (by omega) ly uy;have uz:ck L (symM C f xs a s M):=uy.symM d2.1 d2.2 (by omega);have lz:(symM C f xs a s M).length=len:=by omega
  generalize symM C f xs a s M=zs at *;by_cases d3:M<M+m-s∧M+m-s<b
  ·rw[if_pos d3];have h7:=ih M (M+m-s) b zs (by omega) d3.1 d3.2 h4 lz uz;rw[ce]at h7
   first
    | omega
    | simp (disch:=omega) [↓if_pos,↓if_neg,K.sh,K.fi,hf,g4,hr,h6,h7]
  ·rw[if_neg d3];have h7:True:=trivial
   first
    | omega
    | simp (disch:=omega) [↓if_pos,↓if_neg,K.sh,K.fi,hf,g4,hr,h6,h7]
 ·rw[if_neg d2];have uz:=uy;have lz:=ly;by_cases d3:M<M+m-s∧M+m-s<b
  ·have h7:=ih M (M+m-s) b xs (by omega) d3.1 d3.2 h4 lz uz;rw[ce]at h7
   first
    | (omega)
    | simp (disch:=omega) [↓if_pos,↓if_neg,K.fi,hf,g4,h7]
  ·first
    | omega
    | simp (disch:=omega) [↓if_pos,↓if_neg,K.sh,K.fi,hf,g4,hr,h6,h7]
theorem al6 (H:Hp hp D) (K:Cm hp L F C) (len:Nat) (hlen:len≤1000000000) (N f:Nat) (ih:∀ (a m b:Nat) (xs:List Nat),b-a≤f→a<m→m<b→b≤len→xs.length=len→ck L xs→
  (Dn prog).call aF [.sl D 0 len,.d (.int .i64 a),.d (.int .i64 m),.d (.int .i64 b),F] ⟨hp xs,N⟩=some (.tup [],⟨hp (symM C f xs a m b),N⟩))
  (a m b:Nat) (xs:List Nat) (h1:b-a≤f+1) (h2:a<m) (h3:m<b) (h4:b≤len) (hx:xs.length=len) (u:ck L xs) (c1:¬ m-a=1) (c2:¬ b-m=1) (c3:¬ (a+b) / 2<m) (d1:(lm C xs ((a+b) / 2+m-1) (b-a) a m<m∧m<(a+b) / 2+m-lm C xs ((a+b) / 2+m-1) (b-a) a m)) :
  (Dn prog).call aF [.sl D 0 len,.d (.int .i64 a),.d (.int .i64 m),.d (.int .i64 b),F] ⟨hp xs,N⟩=some (.tup [],⟨hp (symM C (f+1) xs a m b),N⟩):=by
 rw[aD b6 bx.eq_1 rfl,symM,if_neg c1,if_neg c2];simp only;have hf:=RB (i:=a) (j:=b);have q1:a<(a+b) / 2∧(a+b) / 2<b∧(a+b) / 2*2≤a+b∧a+b≤(a+b) / 2*2+1:=by omega
 rw[if_neg c3];generalize (a+b) / 2=M at *;have cn:((M+m:Nat):Int)=(M:Int)+m:=rfl;have cp:((M+m-1:Nat):Int)=(M:Int)+m-1:=by omega
 have s1:=CF (C:=C) (xs:=xs) (p:=M+m-1) (f:=b-a) (i:=a) (j:=m) (by omega);have g4:=xC H K len hlen a m b M (M+m) (M+m-1) N xs hx u (b-a) a m (by omega) (by omega) (by omega) (by omega) (by omega);rw[cn,cp]at g4;generalize lm C xs (M+m-1) (b-a) a m=s at *;have ce:((M+m-s:Nat):Int)=(M:Int)+m-s:=by omega
 rw[if_pos d1];have hr:=aqW H F K.sh K.fi len hlen s m (M+m-s) N d1.1 d1.2 (by omega) xs hx;have uy:ck L (rot m (M+m-s-s) xs (m-s) (M+m-s-m)):=u.rot (by omega) (by omega);have ly:(rot m (M+m-s-s) xs (m-s) (M+m-s-m)).length=len:=by grind [A8]
 generalize rot m (M+m-s-s) xs (m-s) (M+m-s-m)=ys at *;rw[ce]at hr;by_cases d2:a<s∧s<M
 ·rw[if_pos d2];have h6:=ih a s M ys (by omega) d2.1 d2.2 (by omega) ly uy;have uz:ck L (symM C f ys a s M):=uy.symM d2.1 d2.2 (by omega);have lz:(symM C f ys a s M).length=len:=by grind [rO]
  generalize symM C f ys a s M=zs at *;by_cases d3:M<M+m-s∧M+m-s<b
  ·rw[if_pos d3];have h7:=ih M (M+m-s) b zs (by omega) d3.1 d3.2 h4 lz uz;rw[ce]at h7
   first
    | (exfalso;omega)
    | simp (disch:=omega) [↓if_pos,↓if_neg,K.sh,K.fi,hf,g4,hr,h6,h7]
  ·rw[if_neg d3];have h7:True:=trivial
   first
    | omega
    | simp (disch:=omega) [↓if_pos,↓if_neg,K.sh,K.fi,hf,g4,hr,h6,h7]
 ·rw[if_neg d2];have uz:=uy;have lz:=ly;have h6:True:=trivial;by_cases d3:M<M+m-s∧M+m-s<b
  ·rw[if_pos d3];have h7:=ih M (M+m-s) b ys (by omega) d3.1 d3.2 h4 lz uz;rw[ce]at h7
   first
    | (omega)
    | simp (disch:=omega) [↓if_pos,↓if_neg,K.sh,K.fi,hf,g4,hr,h7]
  ·first
    | (omega)
    | simp (disch:=omega) [↓if_pos,↓if_neg,K.sh,K.fi,hf,g4,hr]
theorem alp (H:Hp hp D) (K:Cm hp L F C) (len:Nat) (hlen:len≤1000000000) (N f:Nat) (ih:∀ (a m b:Nat) (xs:List Nat),b-a≤f→a<m→m<b→b≤len→xs.length=len→ck L xs→
  (Dn prog).call aF [.sl D 0 len,.d (.int .i64 a),.d (.int .i64 m),.d (.int .i64 b),F] ⟨hp xs,N⟩=some (.tup [],⟨hp (symM C f xs a m b),N⟩))
  (a m b:Nat) (xs:List Nat) (h1:b-a≤f+1) (h2:a<m) (h3:m<b) (h4:b≤len) (hx:xs.length=len) (u:ck L xs) (c1:¬ m-a=1) (c2:¬ b-m=1) (c3:¬ (a+b) / 2<m) (d1:¬ (lm C xs ((a+b) / 2+m-1) (b-a) a m<m∧m<(a+b) / 2+m-lm C xs ((a+b) / 2+m-1) (b-a) a m)) :
  (Dn prog).call aF [.sl D 0 len,.d (.int .i64 a),.d (.int .i64 m),.d (.int .i64 b),F] ⟨hp xs,N⟩=some (.tup [],⟨hp (symM C (f+1) xs a m b),N⟩):=by
 rw[aD b6 bx.eq_1 rfl,symM,if_neg c1,if_neg c2];simp only;have hf:=RB (i:=a) (j:=b);have q1:a<(a+b) / 2∧(a+b) / 2<b∧(a+b) / 2*2≤a+b∧a+b≤(a+b) / 2*2+1:=by omega
 rw[if_neg c3];generalize (a+b) / 2=M at *;have cn:((M+m:Nat):Int)=(M:Int)+m:=rfl;have cp:((M+m-1:Nat):Int)=(M:Int)+m-1:=by omega
 have s1:=CF (C:=C) (xs:=xs) (p:=M+m-1) (f:=b-a) (i:=a) (j:=m) (by omega);have g4:=xC H K len hlen a m b M (M+m) (M+m-1) N xs hx u (b-a) a m (by omega) (by omega) (by omega) (by omega) (by omega);rw[cn,cp]at g4;generalize lm C xs (M+m-1) (b-a) a m=s at *;have ce:((M+m-s:Nat):Int)=(M:Int)+m-s:=by omega
 rw[if_neg d1];have uy:=u;have ly:=hx;have hr:True:=trivial;by_cases d2:a<s∧s<M
 ·rw[if_pos d2];have h6:=ih a s M xs (by omega) d2.1 d2.2 (by omega) ly uy;have uz:ck L (symM C f xs a s M):=uy.symM d2.1 d2.2 (by omega);have lz:(symM C f xs a s M).length=len:=by grind [rO]
  generalize symM C f xs a s M=zs at *;by_cases d3:M<M+m-s∧M+m-s<b
  ·rw[if_pos d3];have h7:=ih M (M+m-s) b zs (by omega) d3.1 d3.2 h4 lz uz;rw[ce]at h7
   first
    | omega
    | simp (disch:=omega) [↓if_pos,↓if_neg,K.sh,K.fi,hf,g4,hr,h6,h7]
  ·rw[if_neg d3];have h7:True:=trivial
   first
    | (exfalso;omega)
    | simp (disch:=omega) [↓if_pos,↓if_neg,K.sh,K.fi,hf,g4,h6]
 ·rw[if_neg d2];have uz:=uy;have lz:=ly;have h6:True:=trivial;by_cases d3:M<M+m-s∧M+m-s<b
  ·first
    | omega
    | simp (disch:=omega) [↓if_pos,↓if_neg,K.sh,K.fi,hf,g4,hr,h6,h7]
  ·first
    | (omega)
    | simp (disch:=omega) [↓if_pos,↓if_neg,hf,g4]
theorem ai2 (H:Hp hp D) (K:Cm hp L F C) (len:Nat) (hlen:len≤1000000000) (N:Nat):∀ (f a m b:Nat) (xs:List Nat),b-a≤f→a<m→m<b→b≤len→xs.length=len→ck L xs→
  (Dn prog).call aF [.sl D 0 len,.d (.int .i64 a),.d (.int .i64 m),.d (.int .i64 b),F] ⟨hp xs,N⟩=some (.tup [],⟨hp (symM C f xs a m b),N⟩):=by
 intro f
 induction f with
 | zero=>omega
 | succ f ih =>
  intro a m b xs h1 h2 h3 h4 hx u;by_cases c1:m-a=1
  ·rw[aD b6 bx.eq_1 rfl,symM,if_pos c1];have hb:=VV (C:=C) (xs:=xs) (a:=a) (f:=b-m) (i:=m) (j:=b) (by omega);have g0:=alM H K len hlen a N (by omega) xs hx u (b-m) m b (by omega) (by omega) h4;generalize Gl C xs a (b-m) m b=I at *;have g1:=alV H len hlen I N (by omega) (I-1-a) a xs (by omega) hx;simp (disch:=omega) [↓if_pos,g0,g1]
  ·by_cases c2:b-m=1
   ·rw[aD b6 bx.eq_1 rfl,symM,if_neg c1,if_pos c2];have hb:=akF (C:=C) (xs:=xs) (m:=m) (f:=m-a) (i:=a) (j:=m) (by omega);have g0:=alZ H K len hlen m N (by omega) xs hx u (m-a) a m (by omega) (by omega) (by omega);generalize GA C xs m (m-a) a m=I at *;have g1:=amp H len hlen I N (m-I) m xs (by omega) (by omega) hx;simp (disch:=omega) [↓if_pos,↓if_neg,g0,g1]
   grind [ame,alW,al6,alp]
end
end Go.Vm
end
