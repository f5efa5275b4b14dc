import Derived.KernelRfl
import Derived.Test.YtihfeifaelcdaaaGreatP2
set_option linter.unusedVariables false
set_option linter.unusedSimpArgs false
noncomputable section
namespace Go.Vm
set_option maxRecDepth 100000
set_option maxHeartbeats 4000000
abbrev O:AV:=.d (.int .i64 0)
abbrev O8:AV:=.d (.int .u8 0)
abbrev Q (n:Int):Rd:=.c (.d (I n))
abbrev tt:Rd:=.c (.d (.bool true))
abbrev ff:Rd:=.c (.d (.bool false))
abbrev A (d s:Nat):VI:=V d (.mov (.m s))
abbrev B (d s:Nat):VI:=V d (.mov (.s s))
abbrev C (d:Nat) (s:Rd):VI:=V d (.mov s)
abbrev M (d s:Nat):VI:=V d (.ld none 0 (.m s))
abbrev G (d s:Nat):VI:=V d (.ld none 0 (.s s))
abbrev Z (l:List Nat):VI:=N (.kill l)
abbrev H (d:Nat) (f:FuncId) (l:List Rd):VI:=V d (.call f l)
abbrev L (d:Nat) (o:BinOp) (x y:Nat):VI:=V d (.bin o (.m x) (.m y))
abbrev P (d:Nat) (o:BinOp) (x:Nat) (n:Int):VI:=V d (.bin o (.m x) (Q n))
abbrev J (d:Nat) (o:BinOp) (x y:Nat):VI:=V d (.bin o (.s x) (.s y))
abbrev X (d n s:Nat):VI:=V d (.fa n (.s s))
abbrev E (d s:Nat) (x:Bool) (n:Nat):VI:=V d (.ext s x n)
abbrev Yd (n a b:Nat):VI:=N (.st n (.s a) (.m b))
abbrev Rg (l:List VI):VC:=.reg false l
def unp (q:List Nat) (l:List VI):List VI:=q.filterMap fun i=>l[i]?
def jU:Nat:=4
def iE:Nat:=5
def G6:Nat:=6
def jd:Nat:=7
def dh:Nat:=8
def gU:Nat:=9
def lR:Nat:=10
def xg:Nat:=11
def Q8:Nat:=12
def ub:Nat:=13
def dU:Nat:=14
def HX:Nat:=15
def IT:Nat:=16
def EE:Nat:=17
def oH:Nat:=18
def ya:Nat:=19
def uh:Nat:=20
def Au:Nat:=21
def iq:Nat:=22
def dO:Nat:=23
def dr:Nat:=24
def ph:Nat:=25
def oG:Nat:=26
def nv:Nat:=27
def oS:Nat:=28
def tv:Nat:=29
def oJ:Nat:=30
def oO:Nat:=31
def pn:Nat:=32
def oB:Nat:=33
def p9:Nat:=34
def cy:Nat:=35
def wZ:Nat:=36
def mK:Nat:=37
def gJ:Nat:=38
def pV:Nat:=39
def uC:Nat:=40
def mJ:Nat:=41
def Je:Nat:=42
def mH:Nat:=43
def Eq:Nat:=44
def mO:Nat:=45
def mR:Nat:=46
def gO:Nat:=47
def yv:Nat:=48
def mG:Nat:=49
def oN:Nat:=50
def Hr:Nat:=51
def jb:Nat:=52
def vL:Nat:=53
def z8:Nat:=54
def CW:Nat:=55
def jJ:Nat:=56
def uq:Nat:=57
def jB:Nat:=58
def dX:Nat:=59
def Ed:Nat:=60
def oD:Nat:=61
def nL:Nat:=62
def Bz:Nat:=63
def uJ:Nat:=64
def yH:Nat:=65
def zD:Nat:=66
def jX:Nat:=67
def xn:Nat:=68
def fp:Nat:=69
def fL:Nat:=70
def l8:Nat:=71
def uF:Nat:=72
def iA:Nat:=73
def iy:Nat:=74
def j0:Nat:=75
def jg:Nat:=76
def jW:Nat:=77
def je:Nat:=78
def dq:Nat:=79
def DR:Nat:=80
def xl:Nat:=81
def FL:Nat:=82
def zx:Nat:=83
def ox:Nat:=84
def mI:Nat:=85
def fg:Nat:=86
def Fc:Nat:=87
def nu:Nat:=88
def sf:Nat:=89
def pb:Nat:=90
def wy:Nat:=91
def E5:Nat:=92
def wY:Nat:=93
def w9:Nat:=94
def bS:Nat:=95
def gF:Nat:=96
def yG:Nat:=97
def EK:Nat:=98
def mX:Nat:=99
def kX:Nat:=100
def tM:Nat:=101
def xc:Nat:=102
def oV:Nat:=103
def nD:Nat:=104
def xa:Nat:=105
def qe:Nat:=106
def iU:Nat:=107
def kW:Nat:=108
def mB:Nat:=109
def fM:Nat:=110
def dH:Nat:=111
def gZ:Nat:=112
def iV:Nat:=113
def ux:Nat:=114
def cj:Nat:=115
def nk:Nat:=116
def IA:Nat:=117
def Dv:Nat:=118
def qk:Nat:=119
def xr:Nat:=120
def gC:Nat:=121
def nM:Nat:=122
def nb:Nat:=123
def OR:Nat:=124
def pt:Nat:=125
def Zj:Nat:=126
def eQ:Nat:=127
def dw:Nat:=128
def gD:Nat:=129
def uc:Nat:=130
def mU:Nat:=131
def iO:Nat:=132
def kf:Nat:=133
def ov:Nat:=134
def jS:Nat:=135
def ale:Nat:=136
def OU:Nat:=137
def Qx:Nat:=138
def iM:Nat:=139
def kJ:Nat:=140
def cY:Nat:=141
def aF:Nat:=142
def iI:Nat:=143
def cG:Nat:=144
abbrev zw:=Rg [V 5 (.box (.m 1)),C 8 ff,Z [8]]
abbrev yx:=Rg [H 15 iE [],A 9 15]
abbrev yZ:=Rg [V 16 (.ld (some 9) 0 (.s 5)),H 17 G6 [.m 16],A 18 17,U 18 19 (.mov (.s 3)),U 18 20 (.len (.s 19)),U 18 21 (.bin .gtr (.s 20) (Q 10000)),V 22 (.pick (.m 18) tt (.s 21)),A 23 22,U 23 24 (.mov (.s 9)),U 23 25 (.un .not (.s 24)),V 26 (.pick (.m 23) tt (.s 25)),Z [19,20,21,24,25]]
abbrev zp:=Rg [A 27 9,A 8 27]
abbrev zE:=Rg [B 29 0,V 30 (.ld (some 9) 0 (.s 5)),B 31 2,H 32 jd [.c (.nl),.m 29,.m 30,.m 31],A 28 32,E 33 28 true 0,E 34 28 false 1,A 10 33,A 11 34,Z [28]]
abbrev yq:=Rg [B 35 11,P 36 .neq 35 0]
abbrev yb:=Rg [A 37 11,A 38 0,V 39 (.ld (some 9) 1 (.s 5)),H 40 dh [.m 38,.m 39],L 41 .eql 37 40,A 42 41,W 42 43 (.mov (.s 10)),W 42 44 (.len (.s 43)),W 42 45 (.bin .eql (.s 44) (Q 0)),V 46 (.pick (.m 42) (.s 45) ff),A 8 46,Z [10,43,44,45]]
abbrev z4:=[V 48 (.mks 1 []),B 49 10,V 50 (.app 1 (.m 48) (.m 49)),A 51 3,V 52 (.app 1 (.m 50) (.m 51)),A 53 0,A 54 2,X 55 1 5,V 56 (.ld (some 4) 0 (.m 55)),H 57 gU [.m 52,Q 0,.m 53,.m 54,.m 56],A 47 57,E 58 47 true 0,E 59 47 false 1,E 60 47 false 2,V 12 (.alloc [O,O8,O8,O,.nl,.nl,.nl,.nl,.nl]),Yd 9 12 58,A 13 59,A 14 60]
def zC:VC:=.regP (.range 18) [0,1,2,3,4,5,6,7,8,9,10,11,14,15,12,16,13,17] [] z4
abbrev yE:=Rg [A 61 14,P 62 .eql 61 0,A 63 62,W 63 64 (.mov (.s 13)),W 63 65 (.mov (.s 10)),W 63 66 (.len (.s 65)),W 63 67 (.bin .eql (.s 64) (.s 66)),V 68 (.pick (.m 63) (.s 67) ff),A 69 68,W 69 70 (.ld (some 9) 0 (.s 12)),W 69 71 (.ld (some 9) 0 (.s 5)),W 69 72 (.call lR [.s 70,.s 71]),V 73 (.pick (.m 69) (.s 72) ff),A 8 73,Z [10,13,64,65,66,67,70,71,72]]
def C1:ae:=⟨4,[.tmp 8],
 (.seq zw
 (.seq yx
 (.seq (.seq yZ
 (.cond (.m 26)
 (.seq (.seq (K [0,2,3]) (F 5)) (.seq zp
 .ret))
 (.seq (K [9]) .skip)))
 (.seq zE
 (.seq (.seq yq
 (.cond (.m 36)
 (.seq (K [2,3]) (.seq (.seq yb (F 5))
 .ret))
 (.seq (K [11]) .skip)))
 (.seq (.seq zC (K [47]))
 (.seq (.seq yE (.seq (F 5) (F 12)))
 .ret)))))))⟩
abbrev zq:=Rg [V 9 (.box (.m 4)),C 10 ff,Z [10]]
abbrev zm:=Rg [H 17 iE [],A 11 17]
abbrev zF:=Rg [B 18 0,V 19 (.len (.m 18)),P 20 .gtr 19 10000,A 21 20,U 21 22 (.fa 3 (.s 9)),U 21 23 (.ld none 0 (.s 22)),U 21 24 (.len (.s 23)),U 21 25 (.bin .gtr (.s 24) (Q 1000)),V 26 (.pick (.m 21) tt (.s 25)),A 27 26,U 27 28 (.mov (.s 11)),U 27 29 (.un .not (.s 28)),V 30 (.pick (.m 27) tt (.s 29)),Z [22,23,24,25,28,29]]
abbrev zL:=Rg [A 31 11,A 10 31]
abbrev ye:=Rg [B 33 0,B 34 1,B 35 2,B 36 3,V 37 (.ld (some 4) 0 (.s 9)),H 38 gU [.m 33,.m 34,.m 35,.m 36,.m 37],A 32 38,E 39 32 true 0,E 40 32 false 1,E 41 32 false 2,V 12 (.alloc [O,O8,O8,O,.nl,.nl,.nl,.nl,.nl]),Yd 9 12 39,A 13 40,A 14 41,Z [32]]
abbrev zj:=Rg [A 42 14,P 43 .neq 42 0]
abbrev yk:=Rg [A 44 13,P 45 .eql 44 0,A 46 45,W 46 47 (.ld (some 9) 0 (.s 12)),W 46 48 (.build [O,O8,O8,O,.nl,.nl,.nl,.nl,.nl] []),W 46 49 (.call lR [.s 47,.s 48]),V 50 (.pick (.m 46) (.s 49) ff),A 10 50,Z [47,48,49]]
abbrev zK:=Rg [B 52 2,V 53 (.ld (some 9) 0 (.s 12)),B 54 3,H 55 jd [.c (.nl),.m 52,.m 53,.m 54],A 51 55,E 56 51 true 0,E 57 51 false 1,A 15 56,A 16 57,Z [51]]
abbrev yj:VC:=(.reg true [
 A 58 16,
 P 59 .eql 58 0,
 A 60 59,
 W 60 61 (.mov (.s 15)),
 W 60 62 (.toStr (.s 61)),
 W 60 63 (.mov (.s 0)),
 W 60 64 (.mov (.s 1)),
 W 60 65 (.mov (.s 13)),
 W 60 66 (.slice 1 (.s 63) (some (.s 64)) (some (.s 65)) none),
 W 60 67 (.toStr (.s 66)),
 W 60 68 (.bin .eql (.s 62) (.s 67)),
 V 69 (.pick (.s 60) (.s 68) ff),
 A 70 69,
 W 70 71 (.mov (.s 2)),
 W 70 72 (.ld (some 9) 0 (.s 12)),
 W 70 73 (.call dh [.s 71,.s 72]),
 W 70 74 (.bin .eql (.s 73) (Q 0)),
 V 75 (.pick (.s 70) (.s 74) ff),
 A 76 75,
 W 76 77 (.mov (.s 3)),
 W 76 78 (.un .not (.s 77)),
 W 76 79 (.mov (.s 78)),
 U 79 80 (.fa 1 (.s 12)),
 U 79 81 (.ld (some 4) 0 (.s 80)),
 U 79 82 (.ld (some 4) 0 (.s 9)),
 U 79 83 (.call xg [.s 81,.s 82]),
 W 76 84 (.pick (.s 79) tt (.s 83)),
 V 85 (.pick (.s 76) (.s 84) ff),
 A 10 85])
def c8:ae:=⟨5,[.tmp 10],
 (.seq zq
 (.seq zm
 (.seq (.seq zF
 (.cond (.m 30)
 (.seq (.seq (K [0,1,2,3]) (F 9)) (.seq zL
 .ret))
 (.seq (K [11]) .skip)))
 (.seq ye
 (.seq (.seq zj
 (.cond (.m 43)
 (.seq (.seq (K [0,1,2,3]) (F 9)) (.seq (.seq yk (F 12))
 .ret))
 .skip))
 (.seq zK
 (.seq (.seq yj (.seq (.seq (K [0,1,2,3,13,15,60,61,62,63,64,65,66,67,68,70,71,72,73,74,76,77,78,79,80,81,82,83,84]) (F 9)) (F 12)))
 .ret)))))))⟩
abbrev BV:=Rg [C 0 ff,Z [0]]
abbrev Bc:=Rg [H 8 ub [],H 9 Q8 [Q 0,.m 8],A 7 9,E 10 7 true 0,E 11 7 false 1,V 1 (.alloc [O,O8,O8,O,.nl,.nl,.nl,.nl,.nl]),Yd 9 1 10,A 2 11,Z [7]]
abbrev Cy:=Rg [V 13 (.ld (some 9) 0 (.s 1)),H 14 jd [.c (.nl),Q 0,.m 13,tt],A 12 14,E 15 12 true 0,E 16 12 false 1,A 3 15,A 4 16,Z [12]]
abbrev CM:=Rg [V 18 (.ld (some 9) 1 (.s 1)),H 19 jd [.c (.nl),Q 0,.m 18,ff],A 17 19,E 20 17 true 0,E 21 17 false 1,A 5 20,A 6 21,Z [17]]
abbrev Cz:VC:=(.reg true [
 A 22 2,
 P 23 .eql 22 0,
 A 24 23,
 W 24 25 (.mov (.s 4)),
 W 24 26 (.bin .eql (.s 25) (Q 0)),
 V 27 (.pick (.s 24) (.s 26) ff),
 A 28 27,
 W 28 29 (.mov (.s 3)),
 W 28 30 (.toStr (.s 29)),
 W 28 31 (.mkslice [.int .u8 0] (Q 11) (Q 11)),
 W 28 32 (.toStr (.s 31)),
 W 28 33 (.bin .eql (.s 30) (.s 32)),
 V 34 (.pick (.s 28) (.s 33) ff),
 A 35 34,
 W 35 36 (.mov (.s 6)),
 W 35 37 (.bin .eql (.s 36) (Q 0)),
 V 38 (.pick (.s 35) (.s 37) ff),
 A 39 38,
 W 39 40 (.mov (.s 5)),
 W 39 41 (.len (.s 40)),
 W 39 42 (.bin .eql (.s 41) (Q 22)),
 V 43 (.pick (.s 39) (.s 42) ff),
 A 0 43])
def ln:ae:=⟨0,[.tmp 0],
 (.seq BV
 (.seq Bc
 (.seq Cy
 (.seq (.seq CM (F 1))
 (.seq (.seq Cz (K [3,4,5,6,24,25,26,28,29,30,31,32,33,35,36,37,39,40,41,42]))
 .ret)))))⟩
abbrev Cp:=Rg [V 1 (.box (.m 0)),C 2 ff,Z [2]]
abbrev BW:=Rg [X 7 1 1,V 8 (.fa 3 (.m 7)),M 9 8,V 10 (.len (.m 9)),P 11 .gtr 10 40,A 12 11,U 12 13 (.fa 5 (.s 1)),U 12 14 (.ld none 0 (.s 13)),U 12 15 (.len (.s 14)),U 12 16 (.bin .gtr (.s 15) (Q 40)),V 17 (.pick (.m 12) tt (.s 16)),A 18 17,U 18 19 (.fa 6 (.s 1)),U 18 20 (.ld none 0 (.s 19)),U 18 21 (.len (.s 20)),U 18 22 (.bin .gtr (.s 21) (Q 40)),V 23 (.pick (.m 18) tt (.s 22)),A 24 23,U 24 25 (.fa 7 (.s 1)),U 24 26 (.ld none 0 (.s 25)),U 24 27 (.len (.s 26)),U 24 28 (.bin .gtr (.s 27) (Q 40)),V 29 (.pick (.m 24) tt (.s 28)),A 30 29,U 30 31 (.fa 8 (.s 1)),U 30 32 (.ld none 0 (.s 31)),U 30 33 (.len (.s 32)),U 30 34 (.bin .gtr (.s 33) (Q 2000)),V 35 (.pick (.m 30) tt (.s 34)),Z [13,14,15,16,19,20,21,22,25,26,27,28,31,32,33,34]]
abbrev Bq:=Rg [C 2 tt]
abbrev BI:=Rg [C 3 (Q 0)]
abbrev AS:=Rg [B 36 3,X 37 5 1,M 38 37,V 39 (.len (.m 38)),L 40 .lss 36 39]
abbrev AU:=Rg [X 43 5 1,M 44 43,B 45 3,V 46 (.ia 1 (.m 44) (.m 45)),M 47 46,V 48 (.len (.m 47)),P 49 .gtr 48 100]
abbrev Be:=Rg [C 2 tt]
abbrev Bm:=Rg [A 41 3,P 42 .add 41 1,A 3 42]
def BZ:VC:=(.seq (.seq AS
 (.cond (.m 40)
 .skip
 (.seq (K [3]) (.exit 0))))
 (.seq (.block 1
 (.seq AU
 (.cond (.m 49)
 (.seq (.seq (K [3]) (F 1)) (.seq Be
 .ret))
 .skip)))
 Bm))
abbrev AY:=Rg [C 4 (Q 0)]
abbrev CK:=Rg [B 50 4,X 51 6 1,M 52 51,V 53 (.len (.m 52)),L 54 .lss 50 53]
abbrev Al:=Rg [X 57 6 1,M 58 57,B 59 4,V 60 (.ia 1 (.m 58) (.m 59)),M 61 60,V 62 (.len (.m 61)),P 63 .gtr 62 200]
abbrev Az:=Rg [C 2 tt]
abbrev Ag:=Rg [A 55 4,P 56 .add 55 1,A 4 56]
def AT:VC:=(.seq (.seq CK
 (.cond (.m 54)
 .skip
 (.seq (K [4]) (.exit 2))))
 (.seq (.block 3
 (.seq Al
 (.cond (.m 63)
 (.seq (.seq (K [4]) (F 1)) (.seq Az
 .ret))
 .skip)))
 Ag))
abbrev Ae:=Rg [C 5 (Q 0)]
abbrev Ar:=Rg [B 64 5,X 65 7 1,M 66 65,V 67 (.len (.m 66)),L 68 .lss 64 67]
abbrev Ah:=Rg [X 71 7 1,M 72 71,B 73 5,V 74 (.ia 1 (.m 72) (.m 73)),M 75 74,V 76 (.len (.m 75)),P 77 .gtr 76 20]
abbrev Ac:=Rg [C 2 tt]
abbrev Aj:=Rg [C 6 (Q 0)]
abbrev Af:=Rg [B 78 6,X 79 7 1,M 80 79,B 81 5,V 82 (.ia 1 (.m 80) (.m 81)),M 83 82,V 84 (.len (.m 83)),L 85 .lss 78 84]
abbrev Ak:=Rg [X 88 7 1,M 89 88,B 90 5,V 91 (.ia 1 (.m 89) (.m 90)),M 92 91,B 93 6,V 94 (.ia 5 (.m 92) (.m 93)),V 95 (.fa 4 (.m 94)),M 96 95,V 97 (.len (.m 96)),P 98 .gtr 97 100]
abbrev Ay:=Rg [C 2 tt]
abbrev Ab:=Rg [A 86 6,P 87 .add 86 1,A 6 87]
def AW:VC:=(.seq (.seq Af
 (.cond (.m 85)
 .skip
 (.seq (K [6]) (.exit 6))))
 (.seq (.block 7
 (.seq Ak
 (.cond (.m 98)
 (.seq (.seq (K [5,6]) (F 1)) (.seq Ay
 .ret))
 .skip)))
 Ab))
abbrev Aa:=Rg [A 69 5,P 70 .add 69 1,A 5 70]
def BG:VC:=(.seq (.seq Ar
 (.cond (.m 68)
 .skip
 (.seq (.seq (K [5]) (F 1)) (.exit 4))))
 (.seq (.block 5
 (.seq (.seq Ah
 (.cond (.m 77)
 (.seq (.seq (K [5]) (F 1)) (.seq Ac
 .ret))
 .skip))
 (.seq Aj
 (.block 6
 (.seq (.loop AW) (K [6]))))))
 Aa))
abbrev As:=Rg [C 2 ff]
def F6:ae:=⟨1,[.tmp 2],
 (.seq Cp
 (.seq (.seq BW
 (.cond (.m 35)
 (.seq (F 1) (.seq Bq
 .ret))
 .skip))
 (.seq (.seq BI
 (.block 0
 (.seq (.loop BZ) (K [3]))))
 (.seq (.seq AY
 (.block 2
 (.seq (.loop AT) (K [4]))))
 (.seq (.seq Ae
 (.block 4
 (.seq (.loop BG) (.seq (K [5]) (F 1)))))
 (.seq As
 .ret))))))⟩
abbrev aiq:=Rg [V 6 (.box (.m 2)),V 8 (.mov (.c (.nl))),C 9 (Q 0),Z [8,9]]
abbrev aiS:=Rg [B 16 1,V 17 (.ld (some 9) 0 (.s 6)),H 18 dh [.m 16,.m 17],A 10 18]
abbrev akh:=Rg [B 19 10,P 20 .neq 19 0]
abbrev akt:=Rg [A 21 10,V 8 (.mov (.c (.nl))),A 9 21]
abbrev akv:=Rg [A 23 0,X 24 0 6,M 25 24,H 26 dU [.m 23,.m 25,Q 8],A 22 26,E 27 22 true 0,E 28 22 false 1,A 0 27,Z [22,28]]
abbrev akq:=Rg [A 29 3,V 30 (.un .not (.m 29))]
abbrev ajg:=Rg [A 32 0,B 33 1,X 34 1 6,V 35 (.ld (some 4) 0 (.m 34)),H 36 HX [.m 32,.m 33,.m 35],A 31 36,E 37 31 true 0,E 38 31 false 1,A 0 37,Z [31,38]]
abbrev aiJ:=Rg [A 40 0,X 41 1 6,V 42 (.ld (some 4) 0 (.m 41)),X 43 5 6,M 44 43,H 45 IT [.m 40,.m 42,.m 44],A 39 45,E 46 39 true 0,E 47 39 false 1,A 0 46,Z [39,47]]
abbrev aj8:=Rg [A 49 0,X 50 0 6,M 51 50,X 52 5 6,M 53 52,X 54 6 6,M 55 54,H 56 EE [.m 49,.m 51,.m 53,.m 55],A 48 56,E 57 48 true 0,E 58 48 false 1,A 0 57,Z [48,58]]
abbrev ajj:=Rg [X 59 7 6,M 60 59,H 61 oH [.m 60]]
abbrev K9:=[A 63 0,V 64 (.mks 1 [.c (.d (.int .u8 0)),.c (.d (.int .u8 1))]),V 65 (.app 1 (.m 63) (.m 64)),X 66 1 6,V 67 (.ld (some 4) 0 (.m 66)),X 68 7 6,M 69 68,H 70 ya [.m 65,.m 67,.m 69],A 62 70,E 71 62 true 0,E 72 62 false 1,A 0 71]
def Jy:VC:=.regP (.range 12) [0,1,2,3,4,5,6,7,8,9,11,10] [] K9
abbrev ahQ:=Rg [A 73 0,V 74 (.mks 1 [.c (.d (.int .u8 0))]),V 75 (.app 1 (.m 73) (.m 74)),A 0 75]
abbrev ahc:=Rg [A 76 0,V 77 (.mks 1 [.c (.d (.int .u8 0)),.c (.d (.int .u8 0)),.c (.d (.int .u8 0))]),V 78 (.app 1 (.m 76) (.m 77)),A 0 78]
abbrev af0:=Rg [V 79 (.build [O,O,.nl,.nl,O,O,.nl,.nl,O,O,.nl,.nl,O,O,.nl,.nl,O,O,.nl,.nl,O,O,.nl,.nl,O,O,.nl,.nl,O,O,.nl,.nl,O,O,.nl,.nl,O,O,.nl,.nl,O,O,.nl,.nl,O,O,.nl,.nl] []),V 80 (.box (.m 79)),V 11 (.alloc [.nilp]),Yd 1 11 80]
abbrev ahN:=Rg [V 12 (.alloc [.nl])]
abbrev afT:=Rg [A 81 1,X 82 1 6,V 83 (.ld (some 4) 0 (.m 82)),X 84 5 6,M 85 84,V 86 (.calli uh [.m 81,.m 83,.m 85])]
abbrev ahm:=Rg [V 13 (.alloc [O,O,O]),Yd 3 13 87,Z [0,86]]
def JL:VC:=.regP [0,1,2,4,5,6,7,8,9,10,3,11,12,13,14,15,16] [0,1,2,3,4,5,6,7,8,9,10,11,12,13,15,14,16] [3,5,7,9,10] [G 89 11,X 90 0 13,M 91 90,V 92 (.calli iq [.m 89,.m 91]),X 93 8 6,M 94 93,X 95 1 13,M 96 95,X 97 2 13,M 98 97,V 99 (.slice 1 (.m 94) (some (.m 96)) (some (.m 98)) none),H 100 Au [.c (.nl),.m 92,.m 99],A 88 100,E 101 88 true 0,E 102 88 false 1,A 14 101,A 15 102]
abbrev agX:=Rg [V 103 (.ld none 1 (.s 12)),A 104 14,V 105 (.app 1 (.m 103) (.m 104)),Yd 1 12 105,Z [12]]
def oe:VC:=ahm
def nS:VC:=(.block 1
 (.seq (.seq JL (.seq (K [6,11,15,88]) (F 13)))
 agX))
abbrev agZ:=Rg [A 106 0,V 107 (.ld none 1 (.s 12)),V 108 (.app 1 (.m 106) (.m 107)),A 8 108,C 9 (Q 0)]
def DU:ae:=⟨4,[.tmp 8,.tmp 9],
 (.seq aiq
 (.seq (.seq aiS
 (.seq akh
 (.cond (.m 20)
 (.seq (.seq (K [0,1,3]) (F 6)) (.seq akt
 .ret))
 (.seq (K [10]) .skip))))
 (.seq akv
 (.seq (.seq akq
 (.cond (.m 30)
 ajg
 .skip))
 (.seq aiJ
 (.seq aj8
 (.seq (.seq ajj
 (.cond (.m 61)
 (.seq (.seq Jy (K [62,72]))
 ahQ)
 ahc))
 (.seq af0
 (.seq ahN
 (.seq (.seq afT
 (.block 0
 (.seq (.rangeF (.s 86) [87] oe nS) (.seq (.seq (F 6) (F 11)) (F 86)))))
 (.seq (.seq agZ (F 12))
 .ret)))))))))))⟩
abbrev Y6:=Rg [V 2 (.box (.m 0)),V 3 (.box (.m 1)),C 4 (Q 0),Z [4]]
abbrev Zd:=Rg [G 10 2,X 11 1 3,V 12 (.ld (some 4) 0 (.m 11)),H 13 dO [.m 10,.m 12],A 5 13]
abbrev Xu:=Rg [B 14 5,P 15 .neq 14 0]
abbrev WB:=Rg [A 16 5,A 4 16]
abbrev WT:=Rg [X 18 1 3,V 19 (.ld (some 4) 0 (.m 18)),H 20 dr [.m 19],A 17 20,E 21 17 false 0,E 22 17 false 1,V 6 (.alloc [O]),Yd 1 6 21,A 7 22,Z [7,17]]
abbrev Yb:=Rg [V 23 (.mkfn ph [] [.s 3]),V 24 (.mkfn oG [] [.s 3]),V 25 (.mkfn oS [] [.s 3]),V 26 (.mkfn oJ [] [.s 3,.s 6]),V 27 (.mkfn pn [] [.m 2,.m 3,.m 6]),V 28 (.mksv 1 [.m 23,.m 24,.m 25,.m 26,.m 27]),V 29 (.len (.s 28)),C 30 (Q 0)]
abbrev Yx:=Rg [J 31 .lss 30 29]
abbrev Xz:=Rg [V 32 (.ia 1 (.s 28) (.s 30)),M 33 32,A 9 33]
abbrev Wm:=Rg [A 34 9,V 35 (.callv (.m 34) []),V 36 (.un .not (.m 35))]
abbrev W6:=Rg [C 4 (Q 8)]
abbrev TH:=Rg [P 37 .add 30 1,A 30 37]
def fO:VC:=(.seq Yx
 (.seq (.cond (.m 31)
 .skip
 (.seq (K [28,29,30]) (.exit 0)))
 (.seq (.block 1
 (.seq Xz
 (.seq Wm
 (.cond (.m 36)
 (.seq (K [28,29,30]) (.seq W6
 .ret))
 .skip))))
 TH)))
abbrev Uo:=Rg [C 4 (Q 0)]
def ou:ae:=⟨2,[.tmp 4],
 (.seq Y6
 (.seq (.seq Zd
 (.seq Xu
 (.cond (.m 15)
 (.seq (K [2,3]) (.seq WB
 .ret))
 (.seq (K [5]) .skip))))
 (.seq WT
 (.seq (.seq Yb
 (.block 0
 (.seq (.loop fO) (K [28,29,30]))))
 (.seq Uo
 .ret)))))⟩
abbrev ajC:=Rg [V 5 (.box (.m 0)),V 7 (.box (.m 2)),V 8 (.box (.m 3)),V 9 (.box (.m 4)),V 10 (.alloc [O,O8,O8,O,.nl,.nl,.nl,.nl,.nl]),V 11 (.alloc [O]),V 12 (.alloc [O])]
abbrev ajS:=Rg [G 22 7,H 23 p9 [.m 22,ff],A 21 23,E 24 21 false 0,E 25 21 false 1,Yd 1 12 25,Z [21,24]]
abbrev akm:=Rg [G 26 12,P 27 .neq 26 0]
def KX:VC:=.regP (.range 5) (.range 5) [1,2,3] [V 28 (.build [O,O8,O8,O,.nl,.nl,.nl,.nl,.nl] []),G 29 12,Yd 9 10 28,N (.st 1 (.s 11) (Q 0)),Yd 1 12 29]
abbrev akc:=Rg [G 31 5,A 32 1,H 33 cy [.m 31,.m 32,Q 0],A 30 33,E 34 30 false 0,E 35 30 false 1,E 36 30 false 2,Yd 1 11 35,Yd 1 12 36,Z [30,34]]
abbrev akG:=Rg [G 37 12,P 38 .neq 37 0]
def LE:VC:=.regP (.range 5) (.range 5) [1,2,3] [V 39 (.build [O,O8,O8,O,.nl,.nl,.nl,.nl,.nl] []),G 40 12,Yd 9 10 39,N (.st 1 (.s 11) (Q 0)),Yd 1 12 40]
abbrev akf:=Rg [G 41 7,V 42 (.ld (some 4) 0 (.s 9)),H 43 dO [.m 41,.m 42],Yd 1 12 43]
abbrev aky:=Rg [G 44 8,A 45 44,W 45 46 (.ld none 0 (.s 12)),W 45 47 (.bin .neq (.s 46) (Q 0)),V 48 (.pick (.m 45) (.s 47) ff),Z [46,47]]
def Ll:VC:=.regP (.range 5) (.range 5) [1,2,3] [V 49 (.build [O,O8,O8,O,.nl,.nl,.nl,.nl,.nl] []),G 50 12,Yd 9 10 49,N (.st 1 (.s 11) (Q 0)),Yd 1 12 50]
abbrev aho:=Rg [V 13 (.alloc [O]),V 14 (.alloc [O]),N (.st 1 (.s 13) (Q 0)),N (.st 1 (.s 14) (Q 0))]
abbrev ahe:=Rg [V 51 (.mkfn wZ [] [.s 5,.s 11,.s 12]),V 15 (.alloc [.nilf]),Yd 1 15 51]
abbrev ahR:=Rg [V 52 (.mkfn mK [] [.s 5,.s 11,.s 10,.s 12]),V 53 (.mkfn gJ [] [.m 9,.s 10,.m 8,.s 5,.s 11,.s 7,.s 12]),V 54 (.mkfn mJ [] [.s 5,.s 11,.s 10,.s 12]),V 55 (.mkfn mH [] [.s 5,.s 11,.s 10,.s 12]),V 56 (.mkfn mO [] [.s 15,.s 13]),V 57 (.mkfn mR [] [.s 15,.s 14]),V 58 (.mkfn gO [] [.s 14,.s 5,.s 11,.s 10,.s 12]),V 59 (.mkfn mG [] [.s 13,.m 15]),V 60 (.mksv 1 [.m 52,.m 53,.m 54,.m 55,.m 56,.m 57,.m 58,.m 59]),V 61 (.len (.s 60)),C 62 (Q 0)]
abbrev agM:=Rg [J 63 .lss 62 61]
abbrev ahw:=Rg [V 64 (.ia 1 (.s 60) (.s 62)),M 65 64,A 17 65]
abbrev agf:=Rg [N (.st 1 (.s 12) (Q 0))]
abbrev agI:=Rg [A 66 17,V 67 (.callv (.m 66) []),Z [67]]
abbrev ago:=Rg [G 68 12,P 69 .neq 68 0]
def Jz:VC:=.regP (.range 5) (.range 5) [1,2,3] [V 70 (.build [O,O8,O8,O,.nl,.nl,.nl,.nl,.nl] []),G 71 12,Yd 9 10 70,N (.st 1 (.s 11) (Q 0)),Yd 1 12 71]
abbrev agO:=Rg [P 72 .add 62 1,A 62 72]
def eI:VC:=(.seq agM
 (.seq (.cond (.m 63)
 .skip
 (.seq (K [60,61,62]) (.exit 0)))
 (.seq (.block 1
 (.seq ahw
 (.seq agf
 (.seq agI
 (.seq ago
 (.cond (.m 69)
 (.seq (K [5,7,13,14,60,61,62]) (.seq Jz
 .ret))
 .skip))))))
 agO)))
abbrev agk:=Rg [⟨some 73,none,.mkslice [.int .i64 0] (Q 256) (Q 256),[(0,0)]⟩,X 74 8 10,N (.st 1 (.m 74) (.m 73))]
abbrev agc:=Rg [V 75 (.build [O,O,.nl,.nl,O,O,.nl,.nl,O,O,.nl,.nl,O,O,.nl,.nl,O,O,.nl,.nl,O,O,.nl,.nl,O,O,.nl,.nl,O,O,.nl,.nl,O,O,.nl,.nl,O,O,.nl,.nl,O,O,.nl,.nl,O,O,.nl,.nl] []),V 76 (.box (.m 75)),V 18 (.alloc [.nilp]),Yd 1 18 76]
abbrev ahO:=Rg [V 77 (.ld none 1 (.m 7)),X 78 1 10,V 79 (.ld (some 4) 0 (.m 78)),X 80 5 10,M 81 80,V 82 (.calli uh [.m 77,.m 79,.m 81])]
abbrev yW:=Rg [V 19 (.alloc [O,O,O]),Yd 3 19 83,Z [13,14,82]]
abbrev yz:=Rg [V 20 (.mov (.c (.nl))),Z [20]]
def qd:VC:=.regP (.range 14) [0,1,2,3,4,5,6,7,8,11,9,12,10,13] [0,1,5] [M 85 5,G 86 11,G 87 18,X 88 0 19,M 89 88,V 90 (.calli iq [.m 87,.m 89]),H 91 oN [.m 85,.m 86,.m 90],A 84 91,E 92 84 true 0,E 93 84 false 1,E 94 84 false 2,A 20 92,Yd 1 11 93,Yd 1 12 94]
abbrev zh:=Rg [G 95 12,P 96 .neq 95 0]
def qx:VC:=.regP (.range 5) (.range 5) [1,2,3] [V 97 (.build [O,O8,O8,O,.nl,.nl,.nl,.nl,.nl] []),G 98 12,N (.st 9 (.m 10) (.m 97)),N (.st 1 (.m 11) (Q 0)),Yd 1 12 98]
abbrev yC:=Rg [V 99 (.fa 8 (.m 10)),M 100 99,X 101 1 19,M 102 101,X 103 2 19,M 104 103,V 105 (.slice 1 (.m 100) (some (.m 102)) (some (.m 104)) none),A 106 20,V 107 (.cpy 1 (.m 105) (.m 106)),Z [107]]
def nY:VC:=yW
def nX:VC:=(.block 3
 (.seq yz
 (.seq (.seq (.seq qd (K [18,84]))
 (.seq zh
 (.cond (.m 96)
 (.seq (.seq (K [20]) (F 19)) (.seq (.seq qx (K [12]))
 .ret))
 (.seq (K [11,12]) .skip))))
 (.seq yC (F 19)))))
abbrev afL:=Rg [V 108 (.ld none 1 (.m 13)),P 109 .neq 108 0,A 110 109,U 110 111 (.ld none 0 (.s 14)),U 110 112 (.bin .eql (.s 111) (Q 1)),U 110 113 (.mov (.s 112)),W 113 114 (.fa 7 (.s 10)),W 113 115 (.ld none 0 (.s 114)),W 113 116 (.call oH [.s 115]),W 113 117 (.un .not (.s 116)),U 110 118 (.pick (.s 113) (.s 117) ff),V 119 (.pick (.m 110) tt (.s 118)),Z [14,111,112,113,114,115,116,117,118]]
abbrev agJ:=Rg [V 120 (.build [O,O8,O8,O,.nl,.nl,.nl,.nl,.nl] []),Yd 9 10 120,N (.st 1 (.s 11) (Q 0)),N (.st 1 (.s 12) (Q 8))]
def Js:VC:=.regP (.range 5) (.range 5) [1,2] [V 121 (.ld (some 9) 0 (.s 10)),G 122 11,Yd 9 10 121,Yd 1 11 122,N (.st 1 (.s 12) (Q 0))]
def lG:ae:=⟨5,[.cell 10 (some 9),.cell 11 none,.cell 12 none],
 (.seq ajC
 (.seq (.seq ajS
 (.seq akm
 (.cond (.m 27)
 (.seq (K [1,5,7,8,9]) (.seq KX
 .ret))
 .skip)))
 (.seq (.seq akc
 (.seq akG
 (.cond (.m 38)
 (.seq (K [5,7,8,9]) (.seq LE
 .ret))
 .skip)))
 (.seq (.seq akf
 (.seq aky
 (.cond (.m 48)
 (.seq (K [5,7,8,9]) (.seq Ll
 .ret))
 .skip)))
 (.seq aho
 (.seq ahe
 (.seq (.seq ahR
 (.block 0
 (.seq (.loop eI) (K [60,61,62]))))
 (.seq agk
 (.seq agc
 (.seq (.seq ahO
 (.block 2
 (.seq (.rangeF (.s 82) [83] nY nX) (.seq (.seq (K [5]) (F 18)) (F 82)))))
 (.seq (.seq afL
 (.cond (.m 119)
 (.seq agJ
 .ret)
 .skip))
 (.seq Js
 .ret))))))))))))⟩
abbrev C3:=Rg [V 2 (.box (.m 0)),V 3 (.box (.m 1)),C 4 ff,Z [4]]
abbrev Dh:=Rg [X 5 0 2,M 6 5,X 7 0 3,M 8 7,L 9 .eql 6 8,A 10 9,W 10 11 (.fa 1 (.s 2)),W 10 12 (.ld (some 4) 0 (.s 11)),W 10 13 (.fa 1 (.s 3)),W 10 14 (.ld (some 4) 0 (.s 13)),W 10 15 (.call Hr [.s 12,.s 14]),V 16 (.pick (.m 10) (.s 15) ff),A 17 16,W 17 18 (.fa 8 (.s 2)),W 17 19 (.ld none 0 (.s 18)),W 17 20 (.fa 8 (.s 3)),W 17 21 (.ld none 0 (.s 20)),W 17 22 (.call jb [.s 19,.s 21]),V 23 (.pick (.m 17) (.s 22) ff),A 24 23,W 24 25 (.fa 5 (.s 2)),W 24 26 (.ld none 0 (.s 25)),W 24 27 (.fa 5 (.s 3)),W 24 28 (.ld none 0 (.s 27)),W 24 29 (.call vL [.s 26,.s 28]),V 30 (.pick (.m 24) (.s 29) ff),A 31 30,W 31 32 (.fa 6 (.s 2)),W 31 33 (.ld none 0 (.s 32)),W 31 34 (.fa 6 (.s 3)),W 31 35 (.ld none 0 (.s 34)),W 31 36 (.call z8 [.s 33,.s 35]),V 37 (.pick (.m 31) (.s 36) ff),A 38 37,W 38 39 (.fa 7 (.s 2)),W 38 40 (.ld none 0 (.s 39)),W 38 41 (.fa 7 (.s 3)),W 38 42 (.ld none 0 (.s 41)),W 38 43 (.call CW [.s 40,.s 42]),V 44 (.pick (.m 38) (.s 43) ff),A 4 44,Z [11,12,13,14,15,18,19,20,21,22,25,26,27,28,29,32,33,34,35,36,39,40,41,42,43]]
def Jm:ae:=⟨2,[.tmp 4],
 (.seq C3
 (.seq (.seq Dh (.seq (F 2) (F 3)))
 .ret))⟩
abbrev aet:=Rg [V 2 (.box (.m 0)),V 3 (.box (.m 1)),C 4 ff,Z [4]]
abbrev ZO:=Rg [X 5 0 2,M 6 5,X 7 0 3,M 8 7,L 9 .eql 6 8,A 10 9,W 10 11 (.fa 1 (.s 2)),W 10 12 (.ld none 0 (.s 11)),W 10 13 (.fa 1 (.s 3)),W 10 14 (.ld none 0 (.s 13)),W 10 15 (.bin .eql (.s 12) (.s 14)),V 16 (.pick (.m 10) (.s 15) ff),A 17 16,W 17 18 (.fa 2 (.s 2)),W 17 19 (.ld none 0 (.s 18)),W 17 20 (.fa 2 (.s 3)),W 17 21 (.ld none 0 (.s 20)),W 17 22 (.bin .eql (.s 19) (.s 21)),V 23 (.pick (.m 17) (.s 22) ff),A 24 23,W 24 25 (.fa 3 (.s 2)),W 24 26 (.ld none 0 (.s 25)),W 24 27 (.fa 3 (.s 3)),W 24 28 (.ld none 0 (.s 27)),W 24 29 (.call jJ [.s 26,.s 28]),V 30 (.pick (.m 24) (.s 29) ff),A 4 30,Z [2,3,11,12,13,14,15,18,19,20,21,22,25,26,27,28,29]]
def Eb:ae:=⟨2,[.tmp 4],
 (.seq aet
 (.seq ZO
 .ret))⟩
abbrev ZH:=Rg [V 3 (.box (.m 1)),V 4 (.alloc [O,O8,O8,O,.nl,.nl,.nl,.nl,.nl]),C 5 (Q 0),Z [5]]
abbrev adn:=Rg [A 11 0,V 12 (.ld (some 4) 0 (.s 3)),H 13 dO [.m 11,.m 12],A 6 13]
abbrev adC:=Rg [B 14 6,P 15 .neq 14 0]
abbrev ZI:=Rg [V 16 (.build [O,O8,O8,O,.nl,.nl,.nl,.nl,.nl] []),A 17 6,Yd 9 4 16,A 5 17]
abbrev ab0:=Rg [V 19 (.ld (some 4) 0 (.s 3)),H 20 dr [.m 19],A 18 20,E 21 18 false 0,E 22 18 false 1,A 7 21,A 8 22,Z [8,18]]
abbrev agi:=[V 23 (.ld (some 4) 0 (.s 3)),H 24 pV [.m 23],A 25 7,V 26 (.mkslice [.lst []] (.s 25) (.s 25)),V 27 (.mkslice [.int .i64 0] (Q 256) (Q 256)),V 28 (.build [O,O8,O8,O,.nl,.nl,.nl,.nl,.nl] [(1,4,.m 24),(7,1,.m 26),(8,1,.m 27)]),V 9 (.alloc [O,O8,O8,O,.nl,.nl,.nl,.nl,.nl]),Yd 9 9 28]
def Z1:VC:=.regP (.range 8) (.range 8) [] agi
abbrev acu:=Rg [X 29 3 3,M 30 29,V 31 (.len (.m 30)),C 32 (Q 0)]
abbrev acC:=Rg [J 33 .lss 32 31]
abbrev abN:=Rg [V 10 (.mov (.c (.nl)))]
abbrev adc:=Rg [X 34 2 3,M 35 34,P 36 .gtr 35 0]
abbrev V4:=Rg [X 37 2 3,M 38 37,V 39 (.build [O,O] [(1,1,.m 38)]),V 40 (.mks 2 [.m 39]),A 10 40]
def XW:VC:=.regP (.range 16) (.range 16) [1,6] [X 41 5 9,V 42 (.ld none 2 (.m 41)),A 43 10,V 44 (.mks 1 [.m 43]),V 45 (.app 1 (.m 42) (.m 44)),X 46 6 9,V 47 (.ld none 2 (.m 46)),X 48 2 3,M 49 48,V 50 (.mkslice [.int .i64 0] (.s 49) (.s 49)),V 51 (.mks 1 [.m 50]),V 52 (.app 1 (.m 47) (.m 51)),X 53 5 9,N (.st 1 (.m 53) (.m 45)),X 54 6 9,N (.st 1 (.m 54) (.m 52))]
abbrev Wv:=Rg [P 55 .add 32 1,A 32 55]
def aea:VC:=(.seq acC
 (.seq (.cond (.m 33)
 .skip
 (.seq (.seq (K [31,32]) (F 3)) (.exit 0)))
 (.seq (.block 1
 (.seq abN
 (.seq (.seq adc
 (.cond (.m 36)
 (.seq (K [10]) V4)
 .skip))
 (.seq XW (K [49])))))
 Wv)))
abbrev Wx:=Rg [V 56 (.ld (some 9) 1 (.s 9)),Yd 9 4 56,C 5 (Q 0)]
def alQ:ae:=⟨2,[.cell 4 (some 9),.tmp 5],
 (.seq ZH
 (.seq (.seq adn
 (.seq adC
 (.cond (.m 15)
 (.seq (F 3) (.seq ZI
 .ret))
 (.seq (K [6]) .skip))))
 (.seq ab0
 (.seq (.seq Z1 (K [25]))
 (.seq (.seq acu
 (.block 0
 (.seq (.loop aea) (.seq (K [31,32]) (F 3)))))
 (.seq (.seq Wx (F 9))
 .ret))))))⟩
abbrev Df:=Rg [V 0 (.alloc [O8,O8,O,.nl])]
abbrev CV:=Rg [V 1 (.mks 1 [Q 1]),V 2 (.build [O8,O8,O,.nl] [(3,1,.m 1)]),Yd 4 0 2]
def Is:ae:=⟨0,[.cell 0 (some 4)],
 (.seq Df
 (.seq CV
 .ret))⟩
abbrev agE:=Rg [V 6 (.mov (.c (.nl))),C 7 (Q 0),Z [6,7]]
abbrev afO:=Rg [B 8 2,H 9 uq [.m 8],V 10 (.un .not (.m 9)),A 11 10,U 11 12 (.mov (.s 1)),U 11 13 (.bin .lss (.s 12) (Q 0)),V 14 (.pick (.m 11) tt (.s 13)),A 15 14,U 15 16 (.mov (.s 1)),U 15 17 (.mov (.s 2)),U 15 18 (.bin .shr (.s 16) (.s 17)),U 15 19 (.bin .neq (.s 18) (Q 0)),V 20 (.pick (.m 15) tt (.s 19)),Z [12,13,16,17,18,19]]
abbrev agh:=Rg [V 6 (.mov (.c (.nl))),C 7 (Q 2)]
abbrev ahr:=Rg [A 21 0,H 22 dX [.m 21],A 23 1,A 24 2,V 25 (.calli Ed [.m 23,.m 24]),V 26 (.calli jB [.m 22,.m 25]),A 6 26,C 7 (Q 0)]
def Hm:ae:=⟨3,[.tmp 6,.tmp 7],
 (.seq agE
 (.seq (.seq afO
 (.cond (.m 20)
 (.seq (K [0,1,2]) (.seq agh
 .ret))
 .skip))
 (.seq ahr
 .ret)))⟩
abbrev afY:=Rg [V 3 (.box (.m 0)),V 5 (.box (.m 2)),V 6 (.mov (.c (.nl))),C 7 (Q 0),Z [6,7]]
abbrev afX:=Rg [A 15 1,V 16 (.ld (some 4) 0 (.s 5)),H 17 dO [.m 15,.m 16],A 8 17]
abbrev afS:=Rg [B 18 8,P 19 .neq 18 0]
abbrev agU:=Rg [A 20 8,V 6 (.mov (.c (.nl))),A 7 20]
abbrev agG:=Rg [V 21 (.mkfn oD [] [.s 3]),A 9 21]
abbrev ahv:=Rg [B 22 9,V 23 (.callv (.m 22) [Q 0,Q 1]),Z [23]]
abbrev af8:=Rg [B 24 9,X 25 0 5,M 26 25,V 27 (.conv .i64 (.m 26)),V 28 (.callv (.m 24) [.m 27,Q 2]),Z [28]]
abbrev agl:=Rg [B 29 9,X 30 1 5,M 31 30,V 32 (.conv .i64 (.m 31)),V 33 (.callv (.m 29) [.m 32,Q 1]),Z [33]]
abbrev ag8:=Rg [X 34 0 5,M 35 34,V 36 (.bin .neq (.m 35) (.c (.d (.int .u8 2))))]
abbrev ag3:=Rg [B 37 9,V 38 (.fa 2 (.m 5)),M 39 38,V 40 (.callv (.m 37) [.m 39,Q 6]),Z [40]]
abbrev ac2:=Rg [A 41 9,V 42 (.callv (.m 41) [Q 0,Q 1]),Z [42]]
abbrev aaX:=Rg [V 43 (.ld none 1 (.m 3)),A 6 43,C 7 (Q 0)]
abbrev abD:=Rg [B 44 9,X 45 2 5,M 46 45,V 47 (.callv (.m 44) [.m 46,Q 4]),Z [47]]
abbrev abY:=Rg [C 10 (Q 1)]
abbrev acp:=Rg [B 48 10,P 49 .lss 48 8]
abbrev ach:=Rg [V 53 (.ld (some 4) 0 (.s 5)),B 54 10,P 55 .sub 54 1,H 56 nL [.m 53,.m 55],A 52 56,E 57 52 false 0,E 58 52 false 1,A 11 57,A 12 58,Z [12,52]]
abbrev acf:=Rg [V 60 (.ld (some 4) 0 (.s 5)),B 61 10,H 62 nL [.m 60,.m 61],A 59 62,E 63 59 false 0,E 64 59 false 1,A 13 63,A 14 64,Z [14,59]]
abbrev ZT:=Rg [A 65 11,A 66 13,L 67 .eql 65 66]
abbrev abv:=Rg [B 68 9,V 69 (.callv (.m 68) [Q 1,Q 1]),Z [69]]
abbrev aa3:=Rg [B 70 9,V 71 (.callv (.m 70) [Q 0,Q 1]),Z [71]]
abbrev ac8:=Rg [A 50 10,P 51 .add 50 1,A 10 51]
def qg:VC:=(.seq (.seq acp
 (.cond (.m 49)
 .skip
 (.seq (K [5,9,10]) (.exit 0))))
 (.seq (.block 1
 (.seq ach
 (.seq acf
 (.seq ZT
 (.cond (.m 67)
 abv
 aa3)))))
 ac8))
abbrev ab7:=Rg [V 72 (.ld none 1 (.m 3)),A 6 72,C 7 (Q 0)]
def Hw:ae:=⟨3,[.tmp 6,.tmp 7],
 (.seq afY
 (.seq (.seq afX
 (.seq afS
 (.cond (.m 19)
 (.seq (K [3,5]) (.seq agU
 .ret))
 (.seq (K [8]) .skip))))
 (.seq agG
 (.seq ahv
 (.seq af8
 (.seq agl
 (.seq (.seq ag8
 (.cond (.m 36)
 (.seq ag3
 (.seq ac2
 (.seq aaX
 .ret)))
 .skip))
 (.seq abD
 (.seq (.seq abY
 (.block 0
 (.seq (.loop qg) (K [5,9,10]))))
 (.seq ab7
 .ret))))))))))⟩
abbrev ahd:=Rg [V 3 (.box (.m 0)),V 4 (.box (.m 1)),V 6 (.mov (.c (.nl))),C 7 (Q 0),Z [6,7]]
abbrev ag2:=Rg [V 16 (.ld (some 4) 0 (.s 4)),B 17 2,H 18 Bz [.m 16,.m 17],A 8 18]
abbrev agm:=Rg [B 19 8,P 20 .neq 19 0]
abbrev ahy:=Rg [A 21 8,V 6 (.mov (.c (.nl))),A 7 21]
abbrev agj:=Rg [V 23 (.ld (some 4) 1 (.m 4)),H 24 uJ [.m 23],A 22 24,E 25 22 false 0,E 26 22 false 1,V 9 (.alloc [O]),Yd 1 9 25,A 10 26,Z [22]]
abbrev agS:=Rg [G 28 3,H 29 dU [.m 28,Q 0,Q 0],A 27 29,E 30 27 true 0,E 31 27 false 1,Yd 1 3 30,Z [27,31]]
abbrev ahs:=Rg [A 32 2,V 33 (.len (.s 32)),C 34 (Q 0)]
abbrev ahz:=Rg [J 35 .lss 34 33]
abbrev ag5:=Rg [V 36 (.ia 1 (.s 32) (.s 34)),M 37 36,A 12 37]
abbrev afR:=Rg [A 38 12,V 39 (.len (.s 38)),C 40 (Q 0)]
abbrev aeu:=Rg [J 41 .lss 40 39]
abbrev adT:=Rg [V 42 (.ia 2 (.s 38) (.s 40)),V 43 (.ld (some 2) 0 (.m 42)),V 14 (.alloc [O,O]),Yd 2 14 43]
abbrev abZ:=Rg [G 45 3,X 46 0 14,M 47 46,H 48 dU [.m 45,.m 47,Q 4],A 44 48,E 49 44 true 0,E 50 44 false 1,Yd 1 3 49,Z [44,50]]
abbrev acR:=Rg [X 51 1 14,M 52 51,B 53 10,V 54 (.calli yH [.m 52,.m 53])]
abbrev ad1:=Rg [A 15 55,Z [10,32,33,34,38,39,40,54]]
abbrev acM:=Rg [G 57 3,A 58 15,M 59 9,H 60 dU [.m 57,.m 58,.m 59],A 56 60,E 61 56 true 0,E 62 56 false 1,N (.st 1 (.m 3) (.m 61)),Z [56,62]]
def zy:VC:=ad1
def zk:VC:=(.block 5
 acM)
abbrev aaq:=Rg [P 63 .add 40 1,A 40 63]
def ml:VC:=(.seq aeu
 (.seq (.cond (.m 41)
 .skip
 (.seq (K [38,39,40]) (.exit 2)))
 (.seq (.block 3
 (.seq adT
 (.seq abZ
 (.seq (.seq acR (F 14))
 (.block 4
 (.seq (.rangeF (.s 54) [55] zy zk) (F 54)))))))
 aaq)))
abbrev aag:=Rg [P 64 .add 34 1,A 34 64]
def qt:VC:=(.seq ahz
 (.seq (.cond (.m 35)
 .skip
 (.seq (K [9,10,32,33,34]) (.exit 0)))
 (.seq (.block 1
 (.seq ag5
 (.seq afR
 (.block 2
 (.seq (.loop ml) (K [38,39,40]))))))
 aag)))
abbrev adL:=Rg [V 65 (.ld none 1 (.m 3)),A 6 65,C 7 (Q 0)]
def Ix:ae:=⟨3,[.tmp 6,.tmp 7],
 (.seq ahd
 (.seq (.seq ag2
 (.seq agm
 (.cond (.m 20)
 (.seq (K [2,3,4]) (.seq ahy
 .ret))
 (.seq (K [8]) .skip))))
 (.seq agj
 (.seq agS
 (.seq (.seq ahs
 (.block 0
 (.seq (.loop qt) (K [9,10,32,33,34]))))
 (.seq adL
 .ret))))))⟩
abbrev aae:=Rg [V 4 (.box (.m 0)),V 7 (.box (.m 3)),V 8 (.mov (.c (.nl))),C 9 (Q 0),Z [8,9]]
abbrev acd:=Rg [B 17 1,B 18 2,G 19 7,H 20 zD [.m 17,.m 18,.m 19],A 10 20]
abbrev aam:=Rg [B 21 10,P 22 .neq 21 0]
abbrev abJ:=Rg [A 23 10,V 8 (.mov (.c (.nl))),A 9 23]
abbrev aem:=Rg [G 25 4,H 26 dU [.m 25,Q 0,Q 0],A 24 26,E 27 24 true 0,E 28 24 false 1,Yd 1 4 27,Z [24,28]]
abbrev aek:=Rg [A 29 1,V 30 (.build [O,O] [(0,1,.m 29),(1,1,Q (-1))]),V 31 (.box (.m 30)),V 11 (.alloc [.nilp]),Yd 1 11 31]
abbrev abP:=Rg [A 32 2,V 33 (.len (.s 32)),C 34 (Q 0)]
abbrev adl:=Rg [J 35 .lss 34 33]
abbrev aaZ:=Rg [B 36 34,V 37 (.ia 1 (.s 32) (.s 34)),M 38 37,V 12 (.alloc [O]),Yd 1 12 36,A 13 38]
abbrev aak:=Rg [A 39 13,V 40 (.calli jX [.m 39])]
abbrev U6:=Rg [A 14 41,Z [32,33,34,40]]
abbrev XS:=Rg [A 15 42]
abbrev Vd:=Rg [G 43 7,G 44 12,V 45 (.ia 1 (.m 43) (.m 44)),M 46 45,A 47 14,V 48 (.ia 1 (.m 46) (.m 47)),M 49 48,A 16 49,Z [7,12]]
abbrev VK:=Rg [B 62 15,P 63 .eql 62 0,A 61 63]
abbrev Wp:=Rg [B 65 15,P 66 .eql 65 13,A 67 66,W 67 68 (.ld none 0 (.s 11)),W 67 69 (.nilck (.s 68)),W 67 70 (.fa 1 (.s 69)),W 67 71 (.ld none 0 (.s 70)),W 67 72 (.bin .lss (.s 71) (Q 0)),V 73 (.pick (.m 67) (.s 72) ff),A 64 73,Z [68,69,70,71,72]]
abbrev WL:=Rg [G 75 4,B 76 16,H 77 dU [.m 75,.m 76,Q 9],A 74 77,E 78 74 true 0,E 79 74 false 1,Yd 1 4 78,Z [4,74,79]]
abbrev Zo:=Rg [B 81 15,P 82 .eql 81 13,A 80 82]
abbrev FU:=[G 84 4,B 85 16,G 86 11,V 87 (.nilck (.m 86)),V 88 (.fa 1 (.m 87)),M 89 88,L 90 .sub 85 89,H 91 xn [.m 84,.m 90],A 83 91,E 92 83 true 0,E 93 83 false 1,Yd 1 4 92]
def Dr:VC:=.regP (.range 12) [0,1,2,3,4,5,6,7,8,9,11,10] [] FU
abbrev Gp:=[G 51 4,B 52 16,G 53 11,V 54 (.nilck (.m 53)),V 55 (.fa 0 (.m 54)),M 56 55,L 57 .sub 52 56,H 58 xn [.m 51,.m 57],A 50 58,E 59 50 true 0,E 60 50 false 1,Yd 1 4 59]
def DT:VC:=.regP (.range 12) [0,1,2,3,4,5,6,7,8,9,11,10] [] Gp
abbrev Vc:=Rg [G 94 11,A 95 15,A 96 16,V 97 (.calli fp [.m 94,.m 95,.m 96]),Z [11,97]]
def jk:VC:=(.seq U6
 XS)
def jf:VC:=(.block 3
 (.seq Vd
 (.seq (.block 4
 (.seq VK
 (.cond (.m 61)
 (.seq (K [4,11,15,16]) (.exit 3))
 (.seq Wp
 (.cond (.m 64)
 WL
 (.seq Zo
 (.cond (.m 80)
 (.seq Dr (K [4,83,93]))
 (.seq DT (K [4,50,60])))))))))
 Vc)))
abbrev Xw:=Rg [P 98 .add 34 1,A 34 98]
def oU:VC:=(.seq adl
 (.seq (.cond (.m 35)
 .skip
 (.seq (.seq (.seq (K [32,33,34]) (F 7)) (F 11)) (.exit 0)))
 (.seq (.block 1
 (.seq aaZ
 (.seq aak
 (.block 2
 (.seq (.rangeF (.s 40) [41,42] jk jf) (.seq (F 12) (F 40)))))))
 Xw)))
abbrev Wh:=Rg [V 99 (.ld none 1 (.s 4)),A 8 99,C 9 (Q 0)]
def EQ:ae:=⟨4,[.tmp 8,.tmp 9],
 (.seq aae
 (.seq (.seq acd
 (.seq aam
 (.cond (.m 22)
 (.seq (.seq (.seq (K [1,2]) (F 4)) (F 7)) (.seq abJ
 .ret))
 (.seq (K [10]) .skip))))
 (.seq aem
 (.seq aek
 (.seq (.seq abP
 (.block 0
 (.seq (.loop oU) (.seq (.seq (K [32,33,34]) (F 7)) (F 11)))))
 (.seq (.seq Wh (F 4))
 .ret))))))⟩
abbrev OQ:=Rg [C 2 ff,Z [2]]
abbrev PA:=Rg [A 3 0,V 4 (.calli fL [.m 3,.c (.fn l8 [] [])]),A 2 4]
def wR:ae:=⟨1,[.tmp 2],
 (.seq OQ
 (.seq PA
 .ret))⟩
abbrev T2:=Rg [V 3 (.box (.m 0)),V 4 (.box (.m 1)),V 6 (.mov (.c (.nl))),C 7 (Q 0),Z [6,7]]
abbrev TM:=Rg [V 19 (.ld (some 4) 0 (.s 4)),B 20 2,H 21 uF [.m 19,.m 20],A 8 21]
abbrev TQ:=Rg [B 22 8,P 23 .neq 22 0]
abbrev ST:=Rg [A 24 8,V 6 (.mov (.c (.nl))),A 7 24]
abbrev Sa:=Rg [G 25 3,H 26 dX [.m 25],Yd 1 3 26]
abbrev TW:=Rg [V 27 (.mkfn iA [] [.s 3]),A 9 27]
abbrev TC:=Rg [V 28 (.ld (some 4) 1 (.s 4)),H 29 iy [.m 28],V 10 (.alloc [O,O,O,O,O]),Yd 5 10 29]
abbrev UH:=Rg [A 30 2,V 31 (.len (.s 30)),C 32 (Q 0)]
abbrev Sn:=Rg [J 33 .lss 32 31]
abbrev Tk:=Rg [V 34 (.ia 1 (.s 30) (.s 32)),M 35 34,A 12 35]
abbrev Pq:=Rg [B 36 9,B 37 12,V 38 (.len (.m 37)),V 39 (.iarr 5 1 (.s 10) (Q 0)),M 40 39,V 41 (.callv (.m 36) [.m 38,.m 40]),Z [41]]
abbrev P7:=Rg [B 42 12,V 43 (.len (.m 42)),P 44 .gtr 43 0]
abbrev QP:=Rg [B 45 9,B 46 12,V 47 (.ia 5 (.m 46) (Q 0)),V 48 (.fa 3 (.m 47)),M 49 48,H 50 j0 [.m 49],V 51 (.callv (.m 45) [.m 50,Q 1]),Z [51]]
abbrev OK:=Rg [A 52 12,V 53 (.len (.s 52)),C 54 (Q 0)]
abbrev OH:=Rg [J 55 .lss 54 53]
abbrev QL:=Rg [V 56 (.ia 5 (.s 52) (.s 54)),V 57 (.ld (some 5) 0 (.m 56)),V 14 (.alloc [O,O,.d (.bool false),.d (.bool false),.nl]),Yd 5 14 57]
abbrev ON:=Rg [B 58 9,X 59 0 14,M 60 59,V 61 (.iarr 5 1 (.s 10) (Q 1)),M 62 61,V 63 (.callv (.m 58) [.m 60,.m 62]),Z [63]]
abbrev PS:=Rg [B 64 9,X 65 1 14,M 66 65,V 67 (.iarr 5 1 (.s 10) (Q 2)),M 68 67,V 69 (.callv (.m 64) [.m 66,.m 68]),Z [69]]
abbrev Qz:=Rg [X 70 1 14,M 71 70,P 72 .eql 71 0]
abbrev Pr:=Rg [X 73 3 14,M 74 73,H 75 jg [.m 74],A 15 75]
abbrev P6:=Rg [X 76 4 14,M 77 76,B 78 15,P 79 .sub 78 1,H 80 jW [.m 77,.m 79],A 16 80]
abbrev Qc:=Rg [B 81 9,X 82 2 14,M 83 82,H 84 j0 [.m 83],V 85 (.callv (.m 81) [.m 84,Q 1]),Z [85]]
abbrev Pd:=Rg [B 86 9,B 87 16,H 88 j0 [.m 87],V 89 (.callv (.m 86) [.m 88,Q 1]),Z [89]]
abbrev Qa:=Rg [X 90 4 14,M 91 90,V 92 (.len (.s 91)),C 93 (Q 0)]
abbrev Qy:=Rg [J 94 .lss 93 92]
abbrev Og:=Rg [V 95 (.ia 1 (.s 91) (.s 93)),M 96 95,A 18 96]
abbrev Po:=Rg [B 97 9,A 98 18,B 99 15,B 100 16,H 101 j0 [.m 100],L 102 .sub 99 101,V 103 (.callv (.m 97) [.m 98,.m 102]),Z [103]]
abbrev Pk:=Rg [P 104 .add 93 1,A 93 104]
def lZ:VC:=(.seq Qy
 (.seq (.cond (.m 94)
 .skip
 (.seq (K [15,16,91,92,93]) (.exit 4)))
 (.seq (.block 5
 (.seq Og
 Po))
 Pk)))
abbrev PX:=Rg [P 105 .add 54 1,A 54 105]
def jH:VC:=(.seq OH
 (.seq (.cond (.m 55)
 .skip
 (.seq (K [52,53,54]) (.exit 2)))
 (.seq (.block 3
 (.seq QL
 (.seq ON
 (.seq PS
 (.seq (.seq Qz
 (.cond (.m 72)
 (.seq (F 14) (.exit 3))
 .skip))
 (.seq Pr
 (.seq P6
 (.seq Qc
 (.seq Pd
 (.seq (.seq Qa (F 14))
 (.block 4
 (.seq (.loop lZ) (K [15,16,91,92,93])))))))))))))
 PX)))
abbrev QB:=Rg [P 106 .add 32 1,A 32 106]
def jw:VC:=(.seq Sn
 (.seq (.cond (.m 33)
 .skip
 (.seq (.seq (K [9,30,31,32]) (F 10)) (.exit 0)))
 (.seq (.block 1
 (.seq Tk
 (.seq Pq
 (.seq (.seq P7
 (.cond (.m 44)
 QP
 .skip))
 (.seq OK
 (.block 2
 (.seq (.loop jH) (K [52,53,54]))))))))
 QB)))
abbrev OV:=Rg [V 107 (.ld none 1 (.m 3)),A 6 107,C 7 (Q 0)]
def zn:ae:=⟨3,[.tmp 6,.tmp 7],
 (.seq T2
 (.seq (.seq TM
 (.seq TQ
 (.cond (.m 23)
 (.seq (.seq (K [2,3]) (F 4)) (.seq ST
 .ret))
 (.seq (K [8]) .skip))))
 (.seq Sa
 (.seq TW
 (.seq (.seq TC (F 4))
 (.seq (.seq UH
 (.block 0
 (.seq (.loop jw) (.seq (K [9,30,31,32]) (F 10)))))
 (.seq OV
 .ret)))))))⟩
abbrev WA:=Rg [V 4 (.box (.m 1)),V 5 (.box (.m 2)),V 6 (.mov (.c (.nilf))),Z [6]]
abbrev Zf:=Rg [A 10 0,X 11 0 4,M 12 11,V 13 (.bin .eql (.m 12) (.c (.d (.int .u8 2)))),H 14 je [.m 10,.m 13],A 9 14,E 15 9 true 0,E 16 9 false 1,V 7 (.alloc [.nl]),Yd 1 7 15,A 8 16,Z [8,9]]
abbrev W8:=Rg [V 17 (.mkfn dq [] [.m 5,.m 4,.m 7]),A 6 17]
def AZ:ae:=⟨3,[.tmp 6],
 (.seq WA
 (.seq Zf
 (.seq W8
 .ret)))⟩
abbrev ahk:=Rg [V 4 (.box (.m 1)),V 6 (.mov (.c (.nl))),C 7 (Q 0),Z [6,7]]
abbrev agp:=Rg [X 27 0 4,M 28 27,B 29 2,H 30 xl [.m 28,.m 29],A 26 30,E 31 26 false 0,E 32 26 false 1,A 8 31,A 9 32,Z [26]]
abbrev ahM:=Rg [B 33 9,P 34 .neq 33 0,A 35 34,U 35 36 (.mov (.s 8)),U 35 37 (.un .not (.s 36)),V 38 (.pick (.m 35) tt (.s 37)),Z [8,36,37]]
abbrev ag1:=Rg [V 39 (.ld (some 4) 1 (.s 4)),H 40 FL [.m 39],A 10 40]
abbrev afV:=Rg [B 41 10,P 42 .neq 41 0]
abbrev agY:=Rg [A 43 10,V 6 (.mov (.c (.nl))),A 7 43]
abbrev ahT:=Rg [A 44 9,V 45 (.minmax true [.m 44,Q 2]),V 6 (.mov (.c (.nl))),A 7 45]
abbrev afF:=Rg [X 46 0 4,M 47 46,H 48 zx [.m 47]]
abbrev af6:=Rg [X 50 0 4,M 51 50,A 52 2,H 53 ox [.m 51,.m 52],A 49 53,E 54 49 false 0,E 55 49 false 1,A 11 54,A 12 55,Z [12,49]]
abbrev ag7:=Rg [V 57 (.ld (some 4) 1 (.s 4)),A 58 11,H 59 mI [.m 57,.m 58],A 56 59,E 60 56 true 0,E 61 56 false 1,A 13 60,A 14 61,Z [56]]
abbrev ab8:=Rg [B 62 14,P 63 .neq 62 0]
abbrev adQ:=Rg [A 64 14,V 6 (.mov (.c (.nl))),A 7 64]
abbrev abw:=Rg [A 65 0,A 66 13,V 67 (.mks 1 [.m 65,.m 66]),H 68 fg [.m 67],A 6 68,C 7 (Q 0)]
abbrev acE:=Rg [V 15 (.mov (.c (.nl)))]
abbrev ab1:=Rg [V 16 (.mov (.c (.nl))),V 17 (.mov (.c (.nl)))]
abbrev aac:=Rg [A 69 2,V 70 (.len (.s 69)),C 71 (Q 0)]
abbrev aci:=Rg [J 72 .lss 71 70]
abbrev ad7:=Rg [V 73 (.ia 1 (.s 69) (.s 71)),M 74 73,A 19 74]
abbrev acY:=Rg [B 75 19,H 76 Fc [.m 75],A 20 76]
abbrev abG:=Rg [B 77 19,P 78 .neq 77 0]
abbrev Z9:=Rg [A 79 16,A 80 19,V 81 (.conv .u64 (.m 80)),V 82 (.bin .shr (.m 81) (.c (.d (.int .u64 63)))),V 83 (.conv .u8 (.m 82)),V 84 (.mks 1 [.m 83]),V 85 (.app 1 (.m 79) (.m 84)),A 16 85]
abbrev adw:=Rg [X 86 0 4,M 87 86,P 88 .eql 87 11,A 89 88,W 89 90 (.mov (.s 20)),W 89 91 (.bin .geq (.s 90) (Q 16)),V 92 (.pick (.m 89) (.s 91) ff),Z [90,91]]
abbrev Zy:=Rg [B 93 20,V 94 (.conv .u64 (.m 93)),H 95 nu [.m 94],P 96 .sub 95 5,A 21 96]
abbrev acw:=Rg [A 97 17,V 98 (.mks 1 [.c (.d (.int .u8 1))]),B 99 21,H 100 sf [.m 98,.m 99],V 101 (.app 1 (.m 97) (.m 100)),A 17 101]
abbrev Jx:=[A 103 17,V 104 (.mks 1 [.c (.d (.int .u8 0))]),V 105 (.app 1 (.m 103) (.m 104)),A 106 20,B 107 21,P 108 .add 107 4,V 109 (.bin .shl (Q 1) (.m 108)),P 110 .sub 109 1,L 111 .and 106 110,B 112 21,P 113 .add 112 4,H 114 dU [.m 105,.m 111,.m 113],A 102 114,E 115 102 true 0,E 116 102 false 1,A 17 115]
def Gb:VC:=.regP (.range 16) [0,1,2,3,4,5,6,7,8,9,10,11,12,13,15,14] [] Jx
abbrev aad:=Rg [C 20 (Q 16)]
abbrev ack:=Rg [A 117 15,A 118 20,V 119 (.mks 1 [.m 118]),V 120 (.app 1 (.m 117) (.m 119)),A 15 120]
abbrev abn:=Rg [P 121 .add 71 1,A 71 121]
def mq:VC:=(.seq aci
 (.seq (.cond (.m 72)
 .skip
 (.seq (K [69,70,71]) (.exit 0)))
 (.seq (.block 1
 (.seq ad7
 (.seq acY
 (.seq (.seq abG
 (.cond (.m 78)
 Z9
 (.seq (K [19]) .skip)))
 (.seq (.seq adw
 (.cond (.m 92)
 (.seq Zy
 (.seq acw
 (.seq (.seq Gb (K [21,102,116]))
 aad)))
 .skip))
 ack)))))
 abn)))
abbrev ZR:=Rg [X 123 0 4,M 124 123,A 125 15,H 126 ox [.m 124,.m 125],A 122 126,E 127 122 false 0,E 128 122 false 1,A 22 127,A 23 128,Z [23,122]]
abbrev ab6:=Rg [V 130 (.ld (some 4) 1 (.s 4)),A 131 22,H 132 mI [.m 130,.m 131],A 129 132,E 133 129 true 0,E 134 129 false 1,A 24 133,A 25 134,Z [129]]
abbrev acU:=Rg [B 135 25,P 136 .neq 135 0]
abbrev acA:=Rg [A 137 25,V 6 (.mov (.c (.nl))),A 7 137]
abbrev aed:=Rg [A 138 0,A 139 24,A 140 16,A 141 17,V 142 (.mks 1 [.m 138,.m 139,.m 140,.m 141]),H 143 fg [.m 142],A 6 143,C 7 (Q 0)]
def zZ:ae:=⟨3,[.tmp 6,.tmp 7],
 (.seq ahk
 (.seq agp
 (.seq (.seq ahM
 (.cond (.m 38)
 (.seq (K [0,2]) (.seq (.seq (.seq ag1 (F 4))
 (.seq afV
 (.cond (.m 42)
 (.seq (K [9]) (.seq agY
 .ret))
 (.seq (K [10]) .skip))))
 (.seq ahT
 .ret)))
 (.seq (K [9]) .skip)))
 (.seq (.seq afF
 (.cond (.m 48)
 (.seq af6
 (.seq (.seq ag7 (F 4))
 (.seq (.seq ab8
 (.cond (.m 63)
 (.seq (K [0,13]) (.seq adQ
 .ret))
 (.seq (K [14]) .skip)))
 (.seq abw
 .ret))))
 .skip))
 (.seq acE
 (.seq ab1
 (.seq (.seq aac
 (.block 0
 (.seq (.loop mq) (K [69,70,71]))))
 (.seq ZR
 (.seq (.seq ab6 (F 4))
 (.seq (.seq acU
 (.cond (.m 136)
 (.seq (K [0,16,17,24]) (.seq acA
 .ret))
 (.seq (K [25]) .skip)))
 (.seq aed
 .ret)))))))))))⟩
abbrev LJ:=Rg [V 4 (.alloc [O,O,.nl,.nl])]
abbrev KJ:=Rg [B 5 0,B 6 1,V 7 (.nilck (.m 5)),V 8 (.iarr 12 4 (.m 7) (.m 6)),V 9 (.fa 0 (.m 8)),M 10 9,P 11 .eql 10 0]
abbrev zM:=[B 13 0,B 14 1,B 15 1,H 16 pb [.m 15],A 12 16,E 17 12 true 0,E 18 12 false 1,V 19 (.nilck (.m 13)),V 20 (.iarr 12 4 (.m 19) (.m 14)),N (.st 4 (.m 20) (.m 17))]
def xN:VC:=.regP (.range 10) [0,1,2,3,4,5,7,8,9,6] [] zM
abbrev L7:=Rg [A 21 0,A 22 1,V 23 (.nilck (.m 21)),V 24 (.iarr 12 4 (.m 23) (.m 22)),V 25 (.ld (some 4) 0 (.m 24)),Yd 4 4 25]
def tJ:ae:=⟨2,[.cell 4 (some 4)],
 (.seq LJ
 (.seq (.seq KJ
 (.cond (.m 11)
 (.seq xN (K [12,18]))
 .skip))
 (.seq L7
 .ret)))⟩
abbrev XH:=Rg [V 3 (.box (.m 1)),C 4 (Q 0),Z [4]]
abbrev YR:=Rg [A 8 0,X 9 0 3,M 10 9,V 11 (.bin .eql (.m 10) (.c (.d (.int .u8 2)))),H 12 p9 [.m 8,.m 11],A 7 12,E 13 7 false 0,E 14 7 false 1,A 5 13,A 6 14,Z [7]]
abbrev Y1:=Rg [B 15 6,P 16 .neq 15 0]
abbrev Vk:=Rg [A 17 6,A 4 17]
abbrev YG:=Rg [X 18 0 3,M 19 18,V 20 (.bin .gtr (.m 19) (.c (.d (.int .u8 3)))),A 21 20,U 21 22 (.fa 1 (.s 3)),U 21 23 (.ld none 0 (.s 22)),U 21 24 (.bin .gtr (.s 23) (.c (.d (.int .u8 1)))),V 25 (.pick (.m 21) tt (.s 24)),A 26 25,U 26 27 (.fa 2 (.s 3)),U 26 28 (.ld none 0 (.s 27)),U 26 29 (.bin .lss (.s 28) (Q 0)),V 30 (.pick (.m 26) tt (.s 29)),A 31 30,U 31 32 (.fa 2 (.s 3)),U 31 33 (.ld none 0 (.s 32)),U 31 34 (.mov (.s 5)),U 31 35 (.bin .gtr (.s 33) (.s 34)),V 36 (.pick (.m 31) tt (.s 35)),A 37 36,U 37 38 (.ld (some 4) 0 (.s 3)),U 37 39 (.call wy [.s 38]),U 37 40 (.un .not (.s 39)),V 41 (.pick (.m 37) tt (.s 40)),Z [3,5,22,23,24,27,28,29,32,33,34,35,38,39,40]]
abbrev WN:=Rg [C 4 (Q 8)]
abbrev Vz:=Rg [C 4 (Q 0)]
def BD:ae:=⟨2,[.tmp 4],
 (.seq XH
 (.seq YR
 (.seq (.seq Y1
 (.cond (.m 16)
 (.seq (K [3,5]) (.seq Vk
 .ret))
 (.seq (K [6]) .skip)))
 (.seq (.seq YG
 (.cond (.m 41)
 (.seq WN
 .ret)
 .skip))
 (.seq Vz
 .ret)))))⟩
abbrev PM:=Rg [V 1 (.box (.m 0)),C 2 (Q 0),C 3 (Q 0),Z [2,3]]
abbrev O7:=Rg [V 5 (.ld (some 4) 0 (.s 1)),H 6 E5 [.m 5],V 7 (.un .not (.m 6)),A 4 7]
abbrev Ot:=Rg [C 2 (Q 0),C 3 (Q 8)]
abbrev Pj:=Rg [V 9 (.fa 0 (.m 1)),M 10 9,V 11 (.bin .eql (.m 10) (.c (.d (.int .u8 2)))),A 8 11]
abbrev OI:=Rg [C 2 (Q 8),C 3 (Q 0)]
abbrev O9:=Rg [C 2 (Q 1),C 3 (Q 0)]
def wl:ae:=⟨1,[.tmp 2,.tmp 3],
 (.seq PM
 (.seq (.block 0
 (.seq O7
 (.cond (.m 4)
 (.seq (K [1]) (.seq Ot
 .ret))
 (.seq Pj
 (.cond (.m 8)
 (.seq OI
 .ret)
 .skip)))))
 (.seq O9
 .ret)))⟩
abbrev OF:=Rg [C 1 ff,Z [1]]
abbrev Qn:=Rg [X 2 0 0,M 3 2,P 4 .geq 3 0,A 5 4,W 5 6 (.fa 0 (.s 0)),W 5 7 (.ld none 0 (.s 6)),W 5 8 (.bin .leq (.s 7) (Q 255)),V 9 (.pick (.m 5) (.s 8) ff),A 1 9,Z [0,6,7,8]]
def v7:ae:=⟨1,[.tmp 1],
 (.seq OF
 (.seq Qn
 .ret))⟩
abbrev PT:=Rg [C 1 ff,Z [1]]
abbrev Pz:=Rg [V 2 (.ld (some 9) 0 (.m 0)),H 3 nv [.m 2],A 1 3]
def v9:ae:=⟨1,[.tmp 1],
 (.seq PT
 (.seq Pz
 .ret))⟩
abbrev KK:=Rg [V 1 (.box (.m 0)),C 2 ff,Z [2]]
abbrev Lw:=Rg [X 8 5 1,M 9 8,V 10 (.len (.m 9)),X 11 1 1,V 12 (.fa 3 (.m 11)),M 13 12,V 14 (.len (.m 13)),L 15 .neq 10 14]
abbrev Lf:=Rg [C 2 ff]
abbrev Lv:=Rg [X 16 5 1,M 17 16,V 18 (.len (.s 17)),C 19 (Q 0)]
abbrev KO:=Rg [J 20 .lss 19 18]
abbrev Kz:=Rg [V 21 (.ia 1 (.s 17) (.s 19)),M 22 21,A 4 22]
abbrev MJ:=Rg [C 5 (Q 0)]
abbrev L5:=Rg [B 23 4,V 24 (.len (.s 23)),C 25 (Q 0)]
abbrev MT:=Rg [J 26 .lss 25 24]
abbrev MH:=Rg [V 27 (.ia 2 (.s 23) (.s 25)),V 28 (.ld (some 2) 0 (.m 27)),V 7 (.alloc [O,O]),Yd 2 7 28]
abbrev Kd:=Rg [X 29 1 7,M 30 29,P 31 .lss 30 1,A 32 31,U 32 33 (.fa 1 (.s 7)),U 32 34 (.ld none 0 (.s 33)),U 32 35 (.bin .gtr (.s 34) (Q 40)),V 36 (.pick (.m 32) tt (.s 35)),A 37 36,U 37 38 (.fa 0 (.s 7)),U 37 39 (.ld none 0 (.s 38)),U 37 40 (.bin .lss (.s 39) (Q 0)),V 41 (.pick (.m 37) tt (.s 40)),A 42 41,U 42 43 (.fa 0 (.s 7)),U 42 44 (.ld none 0 (.s 43)),U 42 45 (.bin .gtr (.s 44) (Q 11)),U 42 46 (.mov (.s 45)),W 46 47 (.fa 0 (.s 7)),W 46 48 (.ld none 0 (.s 47)),W 46 49 (.bin .neq (.s 48) (Q 13)),U 42 50 (.pick (.s 46) (.s 49) ff),V 51 (.pick (.m 42) tt (.s 50)),Z [33,34,35,38,39,40,43,44,45,46,47,48,49,50]]
abbrev JS:=Rg [C 2 ff]
abbrev Kg:=Rg [A 52 5,X 53 1 7,M 54 53,L 55 .add 52 54,A 5 55]
abbrev J7:=Rg [P 56 .add 25 1,A 25 56]
def gW:VC:=(.seq MT
 (.seq (.cond (.m 26)
 .skip
 (.seq (K [23,24,25]) (.exit 2)))
 (.seq (.block 3
 (.seq MH
 (.seq (.seq Kd
 (.cond (.m 51)
 (.seq (.seq (.seq (K [4,5,17,18,19,23,24,25]) (F 1)) (F 7)) (.seq JS
 .ret))
 .skip))
 (.seq Kg (F 7)))))
 J7)))
abbrev J9:=Rg [A 57 5,X 58 1 1,V 59 (.fa 2 (.m 58)),M 60 59,L 61 .neq 57 60,A 62 61,U 62 63 (.mov (.s 4)),U 62 64 (.len (.s 63)),U 62 65 (.bin .gtr (.s 64) (Q 40)),V 66 (.pick (.m 62) tt (.s 65)),Z [4,63,64,65]]
abbrev JQ:=Rg [C 2 ff]
abbrev J0:=Rg [P 67 .add 19 1,A 19 67]
def fj:VC:=(.seq KO
 (.seq (.cond (.m 20)
 .skip
 (.seq (.seq (K [17,18,19]) (F 1)) (.exit 0)))
 (.seq (.block 1
 (.seq Kz
 (.seq MJ
 (.seq (.seq L5
 (.block 2
 (.seq (.loop gW) (K [23,24,25]))))
 (.seq J9
 (.cond (.m 66)
 (.seq (.seq (K [17,18,19]) (F 1)) (.seq JQ
 .ret))
 .skip))))))
 J0)))
abbrev Ke:=Rg [C 2 tt]
def uo:ae:=⟨1,[.tmp 2],
 (.seq KK
 (.seq (.seq Lw
 (.cond (.m 15)
 (.seq (F 1) (.seq Lf
 .ret))
 .skip))
 (.seq (.seq Lv
 (.block 0
 (.seq (.loop fj) (.seq (K [17,18,19]) (F 1)))))
 (.seq Ke
 .ret))))⟩
abbrev QN:=Rg [C 1 ff,Z [1]]
abbrev OY:=Rg [V 2 (.ld (some 9) 0 (.m 0)),H 3 tv [.m 2],A 1 3]
def wb:ae:=⟨1,[.tmp 1],
 (.seq QN
 (.seq OY
 .ret))⟩
abbrev WU:=Rg [V 1 (.box (.m 0)),C 2 ff,Z [2]]
abbrev XY:=Rg [X 12 6 1,M 13 12,V 14 (.len (.m 13)),X 15 1 1,V 16 (.fa 3 (.m 15)),M 17 16,V 18 (.len (.m 17)),L 19 .neq 14 18]
abbrev YJ:=Rg [C 2 ff]
abbrev Vq:=Rg [X 20 0 1,M 21 20,A 3 21,C 4 (Q 0),C 5 ff]
abbrev XC:=Rg [X 22 6 1,M 23 22,V 24 (.len (.s 23)),C 25 (Q 0)]
abbrev WZ:=Rg [J 26 .lss 25 24]
abbrev Zk:=Rg [B 27 25,V 28 (.ia 1 (.s 23) (.s 25)),M 29 28,A 6 27,A 7 29]
abbrev Vp:=Rg [B 30 7,V 31 (.len (.m 30)),X 32 1 1,V 33 (.fa 2 (.m 32)),M 34 33,L 35 .neq 31 34]
abbrev Vh:=Rg [C 2 ff]
abbrev WE:=Rg [A 36 7,V 37 (.len (.s 36)),C 38 (Q 0)]
abbrev Ue:=Rg [J 39 .lss 38 37]
abbrev RH:=Rg [B 40 38,V 41 (.ia 1 (.s 36) (.s 38)),M 42 41,A 8 40,A 9 42]
abbrev SE:=Rg [X 44 5 1,M 45 44,B 46 6,A 47 8,H 48 wY [.m 45,.m 46,.m 47],A 43 48,E 49 43 false 0,E 50 43 false 1,A 10 49,A 11 50,Z [11,43]]
abbrev UL:=Rg [B 52 10,P 53 .eql 52 0,A 54 53,W 54 55 (.mov (.s 9)),W 54 56 (.bin .neq (.s 55) (Q 0)),V 57 (.pick (.m 54) (.s 56) ff),A 51 57,Z [55,56]]
abbrev Ur:=Rg [C 2 ff]
abbrev Ua:=Rg [B 59 10,P 60 .eql 59 13,A 58 60]
abbrev UE:=Rg [B 61 9,P 62 .lss 61 0,A 63 62,U 63 64 (.mov (.s 9)),U 63 65 (.bin .gtr (.s 64) (Q 511)),V 66 (.pick (.m 63) tt (.s 65)),A 67 66,U 67 68 (.mov (.s 5)),U 67 69 (.mov (.s 68)),W 69 70 (.mov (.s 4)),W 69 71 (.mov (.s 9)),W 69 72 (.call w9 [.s 70,.s 71]),W 69 73 (.un .not (.s 72)),U 67 74 (.pick (.s 69) (.s 73) ff),V 75 (.pick (.m 67) tt (.s 74)),Z [4,5,64,65,68,69,70,71,72,73,74]]
abbrev RG:=Rg [C 2 ff]
abbrev RW:=Rg [A 76 9,A 4 76,C 5 tt]
abbrev Uc:=Rg [A 78 10,P 79 .gtr 78 0,A 77 79]
abbrev T9:=Rg [B 80 9,P 81 .lss 80 0,A 82 81,U 82 83 (.mov (.s 9)),U 82 84 (.bin .gtr (.s 83) (Q 255)),V 85 (.pick (.m 82) tt (.s 84)),A 86 85,U 86 87 (.mov (.s 3)),U 86 88 (.mov (.s 9)),U 86 89 (.call w9 [.s 87,.s 88]),U 86 90 (.un .not (.s 89)),V 91 (.pick (.m 86) tt (.s 90)),Z [3,83,84,87,88,89,90]]
abbrev UQ:=Rg [C 2 ff]
abbrev Us:=Rg [A 92 9,A 3 92]
abbrev UV:=Rg [P 93 .add 38 1,A 38 93]
def dG:VC:=(.seq Ue
 (.seq (.cond (.m 39)
 .skip
 (.seq (K [6,36,37,38]) (.exit 2)))
 (.seq (.block 3
 (.seq RH
 (.seq SE
 (.block 4
 (.seq UL
 (.cond (.m 51)
 (.seq (.seq (K [3,4,5,6,9,10,23,24,25,36,37,38]) (F 1)) (.seq Ur
 .ret))
 (.seq Ua
 (.cond (.m 58)
 (.seq (K [10]) (.seq (.seq UE
 (.cond (.m 75)
 (.seq (.seq (K [3,6,9,23,24,25,36,37,38]) (F 1)) (.seq RG
 .ret))
 .skip))
 RW))
 (.seq Uc
 (.cond (.m 77)
 (.seq (.seq T9
 (.cond (.m 91)
 (.seq (.seq (K [4,5,6,9,23,24,25,36,37,38]) (F 1)) (.seq UQ
 .ret))
 .skip))
 Us)
 (.seq (K [9]) .skip)))))))))))
 UV)))
abbrev Sb:=Rg [P 94 .add 25 1,A 25 94]
def iu:VC:=(.seq WZ
 (.seq (.cond (.m 26)
 .skip
 (.seq (.seq (K [3,4,5,23,24,25]) (F 1)) (.exit 0)))
 (.seq (.block 1
 (.seq Zk
 (.seq (.seq Vp
 (.cond (.m 35)
 (.seq (.seq (K [3,4,5,6,7,23,24,25]) (F 1)) (.seq Vh
 .ret))
 .skip))
 (.seq WE
 (.block 2
 (.seq (.loop dG) (K [6,36,37,38])))))))
 Sb)))
abbrev Uu:=Rg [C 2 tt]
def By:ae:=⟨1,[.tmp 2],
 (.seq WU
 (.seq (.seq XY
 (.cond (.m 19)
 (.seq (F 1) (.seq YJ
 .ret))
 .skip))
 (.seq Vq
 (.seq (.seq XC
 (.block 0
 (.seq (.loop iu) (.seq (K [3,4,5,23,24,25]) (F 1)))))
 (.seq Uu
 .ret)))))⟩
abbrev Qh:=Rg [C 2 ff,Z [2]]
abbrev PQ:=Rg [V 3 (.ld (some 9) 0 (.m 0)),M 4 1,H 5 oO [.m 3,.m 4],A 2 5]
def vW:ae:=⟨2,[.tmp 2],
 (.seq Qh
 (.seq PQ
 .ret))⟩
abbrev Ps:=Rg [V 2 (.box (.m 0)),C 4 ff,Z [4]]
abbrev Qs:=Rg [X 9 1 2,V 10 (.fa 0 (.m 9)),M 11 10,V 12 (.bin .eql (.m 11) (.c (.d (.int .u8 2)))),V 5 (.alloc [.d (.bool false)]),Yd 1 5 12]
abbrev Px:=Rg [C 6 (Q 3)]
abbrev OC:=Rg [G 13 5]
abbrev QA:=Rg [C 6 (Q 1)]
abbrev Pa:=Rg [X 14 7 2,M 15 14,V 16 (.len (.m 15)),A 17 1,L 18 .neq 16 17]
abbrev PD:=Rg [C 4 ff]
abbrev Pv:=Rg [X 19 7 2,M 20 19,V 21 (.len (.s 20)),C 22 (Q 0)]
abbrev PE:=Rg [J 23 .lss 22 21]
abbrev Qg:=Rg [V 24 (.ia 1 (.s 20) (.s 22)),M 25 24,V 8 (.alloc [.nl]),Yd 1 8 25]
abbrev Mb:=Rg [G 26 8,V 27 (.len (.m 26)),B 28 6,L 29 .gtr 27 28,A 30 29,U 30 31 (.ld none 0 (.s 8)),U 30 32 (.mkfn gF [] [.s 5,.s 8]),U 30 33 (.calli bS [.s 31,.s 32]),V 34 (.pick (.m 30) tt (.s 33)),Z [8,31,32,33]]
abbrev Mc:=Rg [C 4 ff]
abbrev K3:=Rg [P 35 .add 22 1,A 22 35]
def dy:VC:=(.seq PE
 (.seq (.cond (.m 23)
 .skip
 (.seq (K [5,6,20,21,22]) (.exit 0)))
 (.seq (.block 1
 (.seq Qg
 (.seq Mb
 (.cond (.m 34)
 (.seq (K [5,6,20,21,22]) (.seq Mc
 .ret))
 .skip))))
 K3)))
abbrev Mo:=Rg [C 4 tt]
def wB:ae:=⟨2,[.tmp 4],
 (.seq Ps
 (.seq Qs
 (.seq Px
 (.seq (.seq OC
 (.cond (.m 13)
 (.seq (K [6]) QA)
 .skip))
 (.seq (.seq Pa
 (.cond (.m 18)
 (.seq (.seq (K [5,6]) (F 2)) (.seq PD
 .ret))
 .skip))
 (.seq (.seq (.seq Pv (F 2))
 (.block 0
 (.seq (.loop dy) (K [5,6,20,21,22]))))
 (.seq Mo
 .ret)))))))⟩
abbrev PF:=Rg [C 3 ff,Z [3]]
abbrev OP:=Rg [M 4 0,V 5 (.ld (some 9) 0 (.m 1)),M 6 2,H 7 oB [.m 4,.m 5,.m 6],A 3 7]
def wz:ae:=⟨3,[.tmp 3],
 (.seq PF
 (.seq OP
 .ret))⟩
abbrev YN:=Rg [V 4 (.box (.m 1)),C 6 ff,Z [6]]
abbrev VJ:=Rg [X 18 8 4,M 19 18,V 20 (.len (.m 19)),P 21 .neq 20 256]
abbrev Zi:=Rg [C 6 ff]
abbrev WX:=Rg [X 22 1 4,V 23 (.fa 0 (.m 22)),M 24 23,V 25 (.bin .eql (.m 24) (.c (.d (.int .u8 2)))),A 7 25]
abbrev Xr:=Rg [A 27 0,A 28 7,H 29 je [.m 27,.m 28],A 26 29,E 30 26 true 0,E 31 26 false 1,A 8 30,A 9 31,Z [9,26]]
abbrev XM:=Rg [B 32 2,V 33 (.bin .quo (Q 256) (.m 32)),A 10 33]
abbrev XV:=Rg [A 34 2,C 35 (Q 0)]
abbrev Vn:=Rg [J 36 .lss 35 34]
abbrev YA:=Rg [B 37 35,A 11 37]
abbrev U8:=Rg [X 39 1 4,V 40 (.ld (some 4) 0 (.m 39)),B 41 11,H 42 nL [.m 40,.m 41],A 38 42,E 43 38 false 0,E 44 38 false 1,A 12 43,A 13 44,Z [13,38]]
abbrev RX:=Rg [C 14 (Q 0)]
abbrev UK:=Rg [X 45 8 4,M 46 45,B 47 11,B 48 10,L 49 .mul 47 48,A 50 11,P 51 .add 50 1,B 52 10,L 53 .mul 51 52,V 54 (.slice 1 (.m 46) (some (.m 49)) (some (.m 53)) none),V 55 (.len (.s 54)),C 56 (Q 0)]
abbrev Sr:=Rg [J 57 .lss 56 55]
abbrev R3:=Rg [B 58 56,V 59 (.ia 1 (.s 54) (.s 56)),M 60 59,A 15 58,A 16 60]
abbrev RC:=Rg [B 61 16,P 62 .eql 61 0]
abbrev TU:=Rg [B 63 15,B 64 8,B 65 14,P 66 .add 65 1,V 67 (.ia 1 (.m 64) (.m 66)),M 68 67,L 69 .geq 63 68]
abbrev Tf:=Rg [A 70 14,P 71 .add 70 1,A 14 71]
def uv:VC:=(.seq (.seq TU
 (.cond (.m 69)
 .skip
 (.seq (K [15]) (.exit 4))))
 (.block 5
 Tf))
abbrev TF:=Rg [C 17 (Q 0)]
abbrev T5:=Rg [B 72 14,X 73 1 4,V 74 (.fa 2 (.m 73)),M 75 74,L 76 .lss 72 75]
abbrev SP:=Rg [X 78 5 4,M 79 78,B 80 12,B 81 14,H 82 wY [.m 79,.m 80,.m 81],A 77 82,E 83 77 false 0,E 84 77 false 1,A 17 83,Z [77,84]]
abbrev S2:=Rg [B 85 17,P 86 .lss 85 1,A 87 86,U 87 88 (.mov (.s 17)),U 87 89 (.bin .gtr (.s 88) (Q 11)),V 90 (.pick (.m 87) tt (.s 89)),A 91 90,U 91 92 (.mov (.s 17)),U 91 93 (.mov (.s 16)),U 91 94 (.call EK [.s 92,.s 93]),U 91 95 (.un .not (.s 94)),V 96 (.pick (.m 91) tt (.s 95)),Z [16,17,88,89,92,93,94,95]]
abbrev Ti:=Rg [C 6 ff]
abbrev UC:=Rg [P 97 .add 56 1,A 56 97]
def co:VC:=(.seq Sr
 (.seq (.cond (.m 57)
 .skip
 (.seq (K [12,14,54,55,56]) (.exit 2)))
 (.seq (.block 3
 (.seq R3
 (.seq (.seq RC
 (.cond (.m 62)
 (.seq (K [15,16]) (.exit 3))
 .skip))
 (.seq (.block 4
 (.seq (.loop uv) (K [15])))
 (.seq TF
 (.seq (.seq T5
 (.cond (.m 76)
 (.seq (K [17]) SP)
 .skip))
 (.seq S2
 (.cond (.m 96)
 (.seq (.seq (K [8,10,12,14,34,35,54,55,56]) (F 4)) (.seq Ti
 .ret))
 .skip))))))))
 UC)))
abbrev R6:=Rg [P 98 .add 35 1,A 35 98]
def fG:VC:=(.seq Vn
 (.seq (.cond (.m 36)
 .skip
 (.seq (.seq (K [8,10,34,35]) (F 4)) (.exit 0)))
 (.seq (.block 1
 (.seq YA
 (.seq U8
 (.seq RX
 (.seq UK
 (.block 2
 (.seq (.loop co) (K [12,14,54,55,56]))))))))
 R6)))
abbrev RP:=Rg [C 6 tt]
def Bn:ae:=⟨3,[.tmp 6],
 (.seq YN
 (.seq (.seq VJ
 (.cond (.m 21)
 (.seq (.seq (K [0,2]) (F 4)) (.seq Zi
 .ret))
 .skip))
 (.seq WX
 (.seq Xr
 (.seq XM
 (.seq (.seq XV
 (.block 0
 (.seq (.loop fG) (.seq (K [8,10,34,35]) (F 4)))))
 (.seq RP
 .ret)))))))⟩
abbrev abk:=Rg [C 4 (Q 0),C 5 (Q 0),Z [4,5]]
abbrev aa8:=Rg [A 9 0,A 10 1,H 11 je [.m 9,.m 10],A 8 11,E 12 8 true 0,E 13 8 false 1,A 6 12,A 7 13,Z [8]]
abbrev Z6:=Rg [A 14 6,V 15 (.len (.m 14)),P 16 .sub 15 1,V 17 (.minmax true [.m 16,Q 0]),A 18 7,A 4 17,A 5 18]
def D6:ae:=⟨2,[.tmp 4,.tmp 5],
 (.seq abk
 (.seq aa8
 (.seq Z6
 .ret)))⟩
abbrev af2:=Rg [C 6 (Q 0),C 7 (Q 0),C 8 (Q 0),Z [7,8]]
abbrev ahx:=Rg [B 11 2,H 12 uq [.m 11],V 13 (.un .not (.m 12)),A 14 13,U 14 15 (.mov (.s 1)),U 14 16 (.bin .lss (.s 15) (Q 0)),V 17 (.pick (.m 14) tt (.s 16)),A 18 17,U 18 19 (.mov (.s 1)),U 18 20 (.mov (.s 0)),U 18 21 (.len (.s 20)),U 18 22 (.bin .gtr (.s 19) (.s 21)),V 23 (.pick (.m 18) tt (.s 22)),A 10 23,Z [15,16,19,20,21,22]]
abbrev ahb:=Rg [C 6 (Q 0),C 7 (Q 0),C 8 (Q 2)]
abbrev ahV:=Rg [B 25 0,V 26 (.len (.m 25)),B 27 1,L 28 .sub 26 27,B 29 2,L 30 .lss 28 29,A 24 30]
abbrev ahZ:=Rg [C 6 (Q 0),C 7 (Q 0),C 8 (Q 5)]
abbrev afW:=Rg [B 31 2,C 32 (Q 0)]
abbrev ahq:=Rg [J 33 .lss 32 31]
abbrev ahl:=Rg [B 34 32,A 9 34]
abbrev ag4:=Rg [B 35 0,B 36 1,B 37 9,L 38 .add 36 37,V 39 (.ia 1 (.m 35) (.m 38)),M 40 39,V 41 (.bin .gtr (.m 40) (.c (.d (.int .u8 1))))]
abbrev agK:=Rg [C 6 (Q 0),C 7 (Q 0),C 8 (Q 8)]
abbrev aeh:=Rg [A 42 6,V 43 (.bin .shl (.m 42) (.c (.d (.int .u64 1)))),B 44 0,B 45 1,A 46 9,L 47 .add 45 46,V 48 (.ia 1 (.m 44) (.m 47)),M 49 48,V 50 (.conv .i64 (.m 49)),L 51 .or 43 50,A 6 51]
abbrev ZK:=Rg [P 52 .add 32 1,A 32 52]
def qj:VC:=(.seq ahq
 (.seq (.cond (.m 33)
 .skip
 (.seq (K [0,31,32]) (.exit 1)))
 (.seq (.block 2
 (.seq ahl
 (.seq (.seq ag4
 (.cond (.m 41)
 (.seq (K [0,1,2,6,9,31,32]) (.seq agK
 .ret))
 .skip))
 aeh)))
 ZK)))
abbrev acj:=Rg [A 53 6,A 54 1,A 55 2,L 56 .add 54 55,A 6 53,A 7 56,C 8 (Q 0)]
def Jj:ae:=⟨3,[.tmp 6,.tmp 7,.tmp 8],
 (.seq af2
 (.seq (.block 0
 (.seq ahx
 (.cond (.m 10)
 (.seq (K [0,1,2,6]) (.seq ahb
 .ret))
 (.seq ahV
 (.cond (.m 24)
 (.seq (K [0,1,2,6]) (.seq ahZ
 .ret))
 .skip)))))
 (.seq (.seq afW
 (.block 1
 (.seq (.loop qj) (K [0,31,32]))))
 (.seq acj
 .ret))))⟩
abbrev aaH:=Rg [C 3 (Q 0),Z [3]]
abbrev ab9:=Rg [M 5 0,G 6 1,H 7 cy [.m 5,.m 6,Q 1],A 4 7,E 8 4 false 0,E 9 4 false 1,E 10 4 false 2,A 3 8,N (.st 1 (.m 1) (.m 9)),N (.st 1 (.m 2) (.m 10)),Z [4]]
def Ec:ae:=⟨3,[.tmp 3],
 (.seq aaH
 (.seq ab9
 .ret))⟩
abbrev aep:=Rg [M 5 0,G 6 1,H 7 cy [.m 5,.m 6,Q 8],A 4 7,E 8 4 false 0,E 9 4 false 1,E 10 4 false 2,V 11 (.fa 0 (.m 2)),N (.st 1 (.m 11) (.m 8)),N (.st 1 (.m 1) (.m 9)),N (.st 1 (.m 3) (.m 10)),Z [4]]
def Et:ae:=⟨4,[],
 aep⟩
abbrev aa1:=Rg [V 7 (.ld (some 4) 0 (.m 0)),H 8 pV [.m 7],X 9 1 1,N (.st 4 (.m 9) (.m 8))]
abbrev adX:=Rg [M 10 2,V 11 (.un .not (.m 10))]
abbrev ad6:=Rg [M 13 3,G 14 4,M 15 5,H 16 uC [.m 13,.m 14,.m 15],A 12 16,E 17 12 true 0,E 18 12 false 1,E 19 12 false 2,V 20 (.fa 1 (.m 1)),N (.st 4 (.m 20) (.m 17)),N (.st 1 (.m 4) (.m 18)),N (.st 1 (.m 6) (.m 19)),Z [12]]
def xh:ae:=⟨7,[],
 (.seq aa1
 (.seq adX
 (.cond (.m 11)
 ad6
 (.seq (K [1,3,4,5,6]) .skip))))⟩
abbrev aeq:=Rg [V 1 (.box (.m 0)),V 2 (.alloc [O8,O8,O,.nl])]
abbrev aa2:=Rg [X 3 3 1,M 4 3,⟨some 5,none,.call mX [.m 4],[(0,0)]⟩,X 6 3 1,N (.st 1 (.m 6) (.m 5))]
abbrev ad9:=Rg [V 7 (.ld (some 4) 1 (.m 1)),Yd 4 2 7]
def E1:ae:=⟨1,[.cell 2 (some 4)],
 (.seq aeq
 (.seq aa2
 (.seq ad9
 .ret)))⟩
abbrev agx:=Rg [V 3 (.box (.m 0)),V 6 (.alloc [O8,O8,O,.nl]),V 7 (.alloc [O]),V 8 (.alloc [O])]
abbrev ahS:=Rg [B 12 2,H 13 p9 [.m 12,ff],A 11 13,E 14 11 false 0,E 15 11 false 1,Yd 1 8 15,Z [11,14]]
abbrev ahW:=Rg [G 16 8,P 17 .neq 16 0]
def JD:VC:=.regP (.range 5) (.range 5) [1,2,3] [V 18 (.ld (some 4) 0 (.s 6)),G 19 8,Yd 4 6 18,N (.st 1 (.s 7) (Q 0)),Yd 1 8 19]
abbrev af7:=Rg [A 20 1,Yd 1 7 20]
abbrev afM:=Rg [V 21 (.mkfn kX [] [.s 8,.m 3,.s 7]),A 9 21]
abbrev af1:=Rg [B 22 9,V 23 (.callv (.m 22) [Q 1]),A 10 23]
abbrev ahY:=Rg [B 24 9,V 25 (.callv (.m 24) [Q 2]),V 26 (.conv .u8 (.m 25)),X 27 0 6,N (.st 1 (.m 27) (.m 26))]
abbrev ahF:=Rg [B 28 9,V 29 (.callv (.m 28) [Q 1]),V 30 (.conv .u8 (.m 29)),X 31 1 6,N (.st 1 (.m 31) (.m 30))]
abbrev agq:=Rg [X 32 0 6,M 33 32,V 34 (.bin .eql (.m 33) (.c (.d (.int .u8 2))))]
abbrev adg:=Rg [B 35 9,V 36 (.callv (.m 35) [Q 4]),X 37 2 6,N (.st 1 (.m 37) (.m 36))]
abbrev acx:=Rg [⟨some 38,none,.mks 1 [Q 1],[(0,0)]⟩,X 39 3 6,N (.st 1 (.m 39) (.m 38))]
abbrev aaT:=Rg [C 40 (Q 0)]
abbrev aa6:=Rg [V 41 (.bin .lss (.s 40) (Q 7))]
abbrev aco:=Rg [B 42 9,V 43 (.callv (.m 42) [Q 1]),P 44 .eql 43 1]
abbrev ZY:=Rg [X 45 3 6,M 46 45,X 47 3 6,M 48 47,V 49 (.len (.m 48)),P 50 .sub 49 1,V 51 (.ia 1 (.s 46) (.s 50)),M 52 51,P 53 .add 52 1,V 54 (.ia 1 (.m 46) (.m 50)),N (.st 1 (.m 54) (.m 53))]
abbrev aaF:=Rg [X 55 3 6,V 56 (.ld none 1 (.m 55)),V 57 (.mks 1 [Q 1]),⟨some 58,none,.app 1 (.m 56) (.m 57),[(0,0)]⟩,X 59 3 6,N (.st 1 (.m 59) (.m 58))]
abbrev adU:=Rg [P 60 .add 40 1,A 40 60]
def mz:VC:=(.seq aa6
 (.seq (.cond (.m 41)
 .skip
 (.seq (K [9,40]) (.exit 0)))
 (.seq (.block 1
 (.seq aco
 (.cond (.m 44)
 ZY
 aaF)))
 adU)))
abbrev aa7:=Rg [B 61 9,V 62 (.callv (.m 61) [Q 6]),X 63 2 6,N (.st 1 (.m 63) (.m 62))]
abbrev abb:=Rg [A 64 10,A 65 9,V 66 (.callv (.m 65) [Q 1]),L 67 .or 64 66,A 10 67]
abbrev Zz:=Rg [⟨some 68,none,.mks 1 [Q 1],[(0,0)]⟩,X 69 3 6,N (.st 1 (.m 69) (.m 68))]
abbrev ac3:=Rg [G 71 8,P 72 .neq 71 0,A 70 72]
def G8:VC:=.regP (.range 5) (.range 5) [1,2,3] [V 73 (.build [O8,O8,O,.nl] []),G 74 8,Yd 4 6 73,N (.st 1 (.s 7) (Q 0)),Yd 1 8 74]
abbrev acP:=Rg [A 76 10,P 77 .neq 76 0,A 78 77,U 78 79 (.mov (.s 2)),U 78 80 (.ld (some 4) 0 (.s 6)),U 78 81 (.call dO [.s 79,.s 80]),U 78 82 (.bin .neq (.s 81) (Q 0)),V 83 (.pick (.m 78) tt (.s 82)),A 75 83,Z [2,79,80,81,82]]
abbrev adm:=Rg [V 84 (.build [O8,O8,O,.nl] []),Yd 4 6 84,N (.st 1 (.s 7) (Q 0)),N (.st 1 (.s 8) (Q 8))]
def FZ:VC:=.regP (.range 5) [0,2,1,3,4] [1,2] [V 85 (.ld (some 4) 0 (.s 6)),G 86 7,Yd 4 6 85,Yd 1 7 86,N (.st 1 (.s 8) (Q 0))]
def uG:ae:=⟨3,[.cell 6 (some 4),.cell 7 none,.cell 8 none],
 (.seq agx
 (.seq (.seq ahS
 (.seq ahW
 (.cond (.m 17)
 (.seq (K [1,2,3]) (.seq JD
 .ret))
 .skip)))
 (.seq af7
 (.seq afM
 (.seq af1
 (.seq ahY
 (.seq ahF
 (.seq (.seq agq
 (.cond (.m 34)
 (.seq adg
 (.seq acx
 (.seq aaT
 (.block 0
 (.seq (.loop mz) (K [9,40]))))))
 (.seq aa7
 (.seq abb
 Zz))))
 (.seq (.block 2
 (.seq ac3
 (.cond (.m 70)
 (.seq (K [2,10]) (.seq G8
 .ret))
 (.seq acP
 (.cond (.m 75)
 (.seq adm
 .ret)
 .skip)))))
 (.seq FZ
 .ret))))))))))⟩
abbrev adD:=Rg [M 5 0,G 6 1,X 7 1 2,V 8 (.ld (some 4) 0 (.m 7)),H 9 Je [.m 5,.m 6,.m 8],A 4 9,E 10 4 true 0,E 11 4 false 1,E 12 4 false 2,V 13 (.fa 5 (.m 2)),N (.st 1 (.m 13) (.m 10)),N (.st 1 (.m 1) (.m 11)),N (.st 1 (.m 3) (.m 12)),Z [4]]
def Fk:ae:=⟨4,[],
 adD⟩
abbrev ahG:=Rg [V 5 (.box (.m 2)),V 6 (.mov (.c (.nl))),C 7 (Q 0),C 8 (Q 0),Z [7,8]]
abbrev ahP:=Rg [V 16 (.ld (some 4) 0 (.s 5)),H 17 dr [.m 16],A 15 17,E 18 15 false 0,E 19 15 false 1,A 8 19,Z [15,18]]
abbrev ahL:=Rg [B 20 8,P 21 .neq 20 0]
abbrev ahg:=Rg [A 22 8,V 6 (.mov (.c (.nl))),C 7 (Q 0),A 8 22]
abbrev ah0:=Rg [B 24 0,A 25 1,H 26 cy [.m 24,.m 25,Q 0],A 23 26,E 27 23 false 0,E 28 23 false 1,E 29 23 false 2,A 7 28,A 8 29,Z [23,27]]
abbrev afG:=Rg [B 30 8,P 31 .neq 30 0]
abbrev agR:=Rg [A 32 8,V 6 (.mov (.c (.nl))),C 7 (Q 0),A 8 32]
abbrev agd:=Rg [V 34 (.ld (some 4) 0 (.s 5)),H 35 uJ [.m 34],A 33 35,E 36 33 false 0,E 37 33 false 1,A 9 36,A 10 37,Z [33]]
abbrev ag6:=Rg [X 38 3 5,M 39 38,V 40 (.len (.m 39)),C 41 (Q 0)]
abbrev agP:=Rg [J 42 .lss 41 40]
abbrev adh:=Rg [V 11 (.mov (.c (.nl)))]
abbrev aaL:=Rg [X 43 2 5,M 44 43,A 12 44]
abbrev abV:=Rg [B 45 12,P 46 .gtr 45 0]
abbrev Zw:=Rg [V 13 (.alloc [O,O])]
abbrev acB:=Rg [B 48 0,A 49 7,H 50 cy [.m 48,.m 49,Q 4],A 47 50,E 51 47 false 0,E 52 47 false 1,E 53 47 false 2,X 54 0 13,N (.st 1 (.m 54) (.m 51)),A 7 52,A 8 53,Z [47]]
abbrev acZ:=Rg [B 55 8,P 56 .neq 55 0]
abbrev aaG:=Rg [A 57 8,V 6 (.mov (.c (.nl))),C 7 (Q 0),A 8 57]
abbrev abC:=Rg [X 58 0 13,M 59 58,P 60 .gtr 59 11,A 61 60,W 61 62 (.fa 0 (.s 13)),W 61 63 (.ld none 0 (.s 62)),W 61 64 (.bin .neq (.s 63) (Q 13)),V 65 (.pick (.m 61) (.s 64) ff),Z [62,63,64]]
abbrev adO:=Rg [V 6 (.mov (.c (.nl))),C 7 (Q 0),C 8 (Q 8)]
abbrev ZG:=Rg [B 66 10,A 14 66]
abbrev ZD:=Rg [A 67 14,B 68 10,L 69 .eql 67 68]
abbrev adr:=Rg [B 76 0,A 77 7,B 78 9,H 79 cy [.m 76,.m 77,.m 78],A 75 79,E 80 75 false 0,E 81 75 false 1,E 82 75 false 2,A 14 80,A 7 81,A 8 82,Z [75]]
abbrev abo:=Rg [B 83 8,P 84 .neq 83 0]
abbrev ZN:=Rg [A 85 8,V 6 (.mov (.c (.nl))),C 7 (Q 0),A 8 85]
abbrev abI:=Rg [X 86 1 13,M 87 86,B 88 14,L 89 .add 87 88,B 90 12,L 91 .gtr 89 90]
abbrev aax:=Rg [V 6 (.mov (.c (.nl))),C 7 (Q 0),C 8 (Q 8)]
abbrev ado:=Rg [X 70 1 13,M 71 70,B 72 14,L 73 .add 71 72,X 74 1 13,N (.st 1 (.m 74) (.m 73))]
def qq:VC:=(.seq (.seq ZD
 (.cond (.m 69)
 .skip
 (.exit 4)))
 (.seq (.block 5
 (.seq (.seq adr
 (.seq abo
 (.cond (.m 84)
 (.seq (.seq (K [0,5,6,7,9,10,11,12,14,40,41]) (F 13)) (.seq ZN
 .ret))
 (.seq (K [8]) .skip))))
 (.seq abI
 (.cond (.m 91)
 (.seq (.seq (K [0,5,6,7,9,10,11,12,14,40,41]) (F 13)) (.seq aax
 .ret))
 .skip))))
 ado))
abbrev acD:=Rg [V 92 (.ld (some 2) 0 (.s 13)),B 93 12,H 94 tM [.m 92,.m 93],V 95 (.un .not (.m 94))]
abbrev aar:=Rg [V 6 (.mov (.c (.nl))),C 7 (Q 0),C 8 (Q 8)]
abbrev adK:=Rg [A 96 12,X 97 1 13,M 98 97,L 99 .sub 96 98,A 12 99]
abbrev abB:=Rg [A 100 11,V 101 (.ld (some 2) 1 (.s 13)),V 102 (.mks 2 [.m 101]),V 103 (.app 2 (.m 100) (.m 102)),A 11 103]
def j5:VC:=(.seq (.seq abV
 (.cond (.m 46)
 .skip
 (.seq (K [12]) (.exit 2))))
 (.block 3
 (.seq Zw
 (.seq (.seq acB
 (.seq acZ
 (.cond (.m 56)
 (.seq (.seq (K [0,5,6,7,9,10,11,12,40,41]) (F 13)) (.seq aaG
 .ret))
 (.seq (K [8]) .skip))))
 (.seq (.seq abC
 (.cond (.m 65)
 (.seq (.seq (K [0,5,6,7,9,10,11,12,40,41]) (F 13)) (.seq adO
 .ret))
 .skip))
 (.seq (.seq ZG
 (.block 4
 (.seq (.loop qq) (K [14]))))
 (.seq (.seq acD
 (.cond (.m 95)
 (.seq (.seq (K [0,5,6,7,9,10,11,12,40,41]) (F 13)) (.seq aar
 .ret))
 .skip))
 (.seq adK
 (.seq abB (F 13))))))))))
abbrev ZE:=Rg [A 104 6,A 105 11,V 106 (.mks 1 [.m 105]),V 107 (.app 1 (.m 104) (.m 106)),A 6 107]
abbrev aaA:=Rg [P 108 .add 41 1,A 41 108]
def mp:VC:=(.seq agP
 (.seq (.cond (.m 42)
 .skip
 (.seq (K [0,5,9,10,40,41]) (.exit 0)))
 (.seq (.block 1
 (.seq adh
 (.seq (.seq aaL
 (.block 2
 (.seq (.loop j5) (K [12]))))
 ZE)))
 aaA)))
abbrev abh:=Rg [A 109 6,A 110 7,A 6 109,A 7 110,C 8 (Q 0)]
def Jl:ae:=⟨3,[.tmp 6,.tmp 7,.tmp 8],
 (.seq ahG
 (.seq (.seq ahP
 (.seq ahL
 (.cond (.m 21)
 (.seq (K [0,1,5,6]) (.seq ahg
 .ret))
 (.seq (K [8]) .skip))))
 (.seq (.seq ah0
 (.seq afG
 (.cond (.m 31)
 (.seq (K [0,5,6,7]) (.seq agR
 .ret))
 (.seq (K [8]) .skip))))
 (.seq agd
 (.seq (.seq ag6
 (.block 0
 (.seq (.loop mp) (K [0,5,9,10,40,41]))))
 (.seq abh
 .ret))))))⟩
abbrev adp:=Rg [M 5 0,G 6 1,X 7 0 2,M 8 7,X 9 5 2,M 10 9,H 11 Eq [.m 5,.m 6,.m 8,.m 10],A 4 11,E 12 4 true 0,E 13 4 false 1,E 14 4 false 2,V 15 (.fa 6 (.m 2)),N (.st 1 (.m 15) (.m 12)),N (.st 1 (.m 1) (.m 13)),N (.st 1 (.m 3) (.m 14)),Z [4]]
def EY:ae:=⟨4,[],
 adp⟩
abbrev aas:=Rg [V 4 (.box (.m 0)),V 8 (.alloc [.nl]),V 9 (.alloc [O]),V 10 (.alloc [O])]
abbrev abx:=Rg [B 18 2,B 19 3,H 20 xc [.m 18,.m 19],V 21 (.un .not (.m 20))]
abbrev ac6:=Rg [N (.st 1 (.s 8) (.c (.nl))),N (.st 1 (.s 9) (Q 0)),N (.st 1 (.s 10) (Q 8))]
abbrev aaR:=Rg [G 23 4,A 24 1,H 25 cy [.m 23,.m 24,Q 0],A 22 25,E 26 22 false 0,E 27 22 false 1,E 28 22 false 2,Yd 1 9 27,Yd 1 10 28,Z [22,26]]
abbrev adJ:=Rg [G 29 10,P 30 .neq 29 0]
def Fu:VC:=.regP (.range 4) (.range 4) [0,1,2] [G 31 10,N (.st 1 (.s 8) (.c (.nl))),N (.st 1 (.s 9) (Q 0)),Yd 1 10 31]
abbrev acX:=Rg [A 32 2,V 33 (.build [O,O] [(0,1,.m 32),(1,1,Q (-1))]),V 34 (.box (.m 33)),V 11 (.alloc [.nilp]),Yd 1 11 34]
abbrev aaP:=Rg [A 35 3,V 36 (.len (.s 35)),C 37 (Q 0)]
abbrev act:=Rg [J 38 .lss 37 36]
abbrev aaM:=Rg [V 39 (.ia 1 (.s 35) (.s 37)),M 40 39,A 13 40]
abbrev WG:=Rg [V 14 (.alloc [.nl])]
abbrev Wi:=Rg [A 41 13,V 42 (.calli jX [.m 41])]
abbrev Yp:=Rg [A 16 44,Z [35,36,37,42,43]]
abbrev Yi:=Rg [C 17 (Q 0)]
abbrev Xt:=Rg [B 46 16,P 47 .eql 46 13,A 48 47,W 48 49 (.ld none 0 (.s 11)),W 48 50 (.nilck (.s 49)),W 48 51 (.fa 1 (.s 50)),W 48 52 (.ld none 0 (.s 51)),W 48 53 (.bin .lss (.s 52) (Q 0)),V 54 (.pick (.m 48) (.s 53) ff),A 45 54,Z [49,50,51,52,53]]
abbrev Zq:=Rg [G 56 4,G 57 9,H 58 cy [.m 56,.m 57,Q 9],A 55 58,E 59 55 false 0,E 60 55 false 1,E 61 55 false 2,A 17 59,Yd 1 9 60,Yd 1 10 61,Z [4,55]]
abbrev Xb:=Rg [B 63 16,P 64 .eql 63 13,A 62 64]
abbrev UY:=Rg [G 66 4,G 67 9,H 68 oV [.m 66,.m 67],A 65 68,E 69 65 false 0,E 70 65 false 1,E 71 65 false 2,A 17 69,Yd 1 9 70,Yd 1 10 71,Z [4,65]]
abbrev Xs:=Rg [A 72 17,G 73 11,V 74 (.nilck (.m 73)),V 75 (.fa 1 (.m 74)),M 76 75,L 77 .add 72 76,A 17 77]
abbrev Ym:=Rg [B 79 16,P 80 .gtr 79 0,A 78 80]
abbrev Zl:=Rg [G 82 4,G 83 9,H 84 oV [.m 82,.m 83],A 81 84,E 85 81 false 0,E 86 81 false 1,E 87 81 false 2,A 17 85,Yd 1 9 86,Yd 1 10 87,Z [4,81]]
abbrev XB:=Rg [A 88 17,G 89 11,V 90 (.nilck (.m 89)),V 91 (.fa 0 (.m 90)),M 92 91,L 93 .add 88 92,A 17 93]
abbrev Wg:=Rg [G 94 10,P 95 .neq 94 0]
def DJ:VC:=.regP (.range 4) (.range 4) [0,1,2] [G 96 10,N (.st 1 (.m 8) (.c (.nl))),N (.st 1 (.m 9) (Q 0)),Yd 1 10 96]
abbrev Xy:=Rg [B 97 16,P 98 .gtr 97 0,A 99 98,W 99 100 (.ld none 0 (.s 11)),W 99 101 (.mov (.s 16)),W 99 102 (.mov (.s 17)),W 99 103 (.calli fp [.s 100,.s 101,.s 102]),W 99 104 (.un .not (.s 103)),V 105 (.pick (.m 99) (.s 104) ff),Z [11,16,100,101,102,103,104]]
abbrev YK:=Rg [N (.st 1 (.m 8) (.c (.nl))),N (.st 1 (.m 9) (Q 0)),N (.st 1 (.m 10) (Q 8))]
abbrev WS:=Rg [V 106 (.ld none 1 (.s 14)),A 107 17,V 108 (.mks 1 [.m 107]),V 109 (.app 1 (.m 106) (.m 108)),Yd 1 14 109,Z [14]]
def cR:VC:=Yp
def cV:VC:=(.block 3
 (.seq Yi
 (.seq (.block 4
 (.seq Xt
 (.cond (.m 45)
 (.seq (K [17]) Zq)
 (.seq Xb
 (.cond (.m 62)
 (.seq (K [17]) (.seq UY
 Xs))
 (.seq Ym
 (.cond (.m 78)
 (.seq (K [17]) (.seq Zl
 XB))
 (.seq (K [4]) .skip))))))))
 (.seq (.seq Wg
 (.cond (.m 95)
 (.seq (K [11,14,16,17]) (.seq (.seq DJ (K [10]))
 .ret))
 .skip))
 (.seq (.seq Xy
 (.cond (.m 105)
 (.seq (K [14,17]) (.seq YK
 .ret))
 (.seq (K [8,9,10]) .skip)))
 WS)))))
abbrev Xq:=Rg [V 110 (.ld none 1 (.s 8)),V 111 (.ld none 1 (.s 14)),V 112 (.mks 1 [.m 111]),V 113 (.app 1 (.m 110) (.m 112)),Yd 1 8 113]
abbrev VT:=Rg [P 114 .add 37 1,A 37 114]
def fc:VC:=(.seq act
 (.seq (.cond (.m 38)
 .skip
 (.seq (.seq (.seq (K [35,36,37]) (F 4)) (F 11)) (.exit 0)))
 (.seq (.block 1
 (.seq aaM
 (.seq WG
 (.seq (.seq Wi
 (.block 2
 (.seq (.rangeF (.s 42) [43,44] cR cV) (F 42))))
 (.seq Xq (F 14))))))
 VT)))
def D0:VC:=.regP (.range 5) (.range 5) [1,2] [G 115 8,G 116 9,Yd 1 8 115,Yd 1 9 116,N (.st 1 (.s 10) (Q 0))]
def E7:ae:=⟨4,[.cell 8 none,.cell 9 none,.cell 10 none],
 (.seq aas
 (.seq (.seq abx
 (.cond (.m 21)
 (.seq (.seq (K [1,2,3]) (F 4)) (.seq ac6
 .ret))
 .skip))
 (.seq (.seq aaR
 (.seq adJ
 (.cond (.m 30)
 (.seq (.seq (K [2,3]) (F 4)) (.seq Fu
 .ret))
 .skip)))
 (.seq acX
 (.seq (.seq aaP
 (.block 0
 (.seq (.loop fc) (.seq (.seq (K [35,36,37]) (F 4)) (F 11)))))
 (.seq D0
 .ret))))))⟩
abbrev ZX:=Rg [M 2 0,V 3 (.callv (.m 2) []),N (.st 1 (.m 1) (.m 3))]
def EP:ae:=⟨2,[],
 ZX⟩
abbrev adH:=Rg [M 2 0,V 3 (.callv (.m 2) []),N (.st 1 (.m 1) (.m 3))]
def Em:ae:=⟨2,[],
 adH⟩
abbrev adW:=Rg [M 7 0,P 8 .eql 7 1]
abbrev acg:=Rg [M 10 1,G 11 2,X 12 1 3,V 13 (.ld (some 4) 0 (.m 12)),H 14 yv [.m 10,.m 11,.m 13],A 9 14,E 15 9 true 0,E 16 9 false 1,E 17 9 false 2,V 18 (.fa 7 (.m 3)),N (.st 1 (.m 18) (.m 15)),N (.st 1 (.m 2) (.m 16)),N (.st 1 (.m 4) (.m 17)),Z [9]]
abbrev ads:=Rg [X 20 1 3,V 21 (.ld (some 4) 0 (.m 20)),H 22 dr [.m 21],A 19 22,E 23 19 false 0,E 24 19 false 1,A 5 23,A 6 24,Z [6,19]]
abbrev abF:=Rg [A 25 5,V 26 (.mkslice [.lst []] (.s 25) (.s 25)),V 27 (.fa 7 (.m 3)),N (.st 1 (.m 27) (.m 26)),Z [25]]
def xo:ae:=⟨5,[],
 (.seq (.seq adW
 (.cond (.m 8)
 (.seq acg
 .ret)
 (.seq (K [1,2,4]) .skip)))
 (.seq ads
 abF))⟩
abbrev Tm:=Rg [V 3 (.box (.m 0)),V 5 (.box (.m 2)),V 6 (.mov (.c (.nl))),V 7 (.alloc [O]),V 8 (.alloc [O])]
abbrev R8:=Rg [V 21 (.ld (some 4) 0 (.s 5)),H 22 dr [.m 21],A 20 22,E 23 20 false 0,E 24 20 false 1,A 9 23,Yd 1 8 24,Z [20]]
abbrev R7:=Rg [G 25 8,P 26 .neq 25 0]
def RF:VC:=.regP (.range 4) (.range 4) [0,2] [G 27 8,V 6 (.mov (.c (.nl))),N (.st 1 (.s 7) (Q 0)),Yd 1 8 27]
abbrev Ui:=Rg [A 28 1,Yd 1 7 28]
abbrev Tp:=Rg [V 29 (.mkfn nD [] [.s 8,.m 3,.s 7]),A 10 29]
abbrev Ug:=Rg [V 30 (.ld (some 4) 1 (.s 5)),H 31 iy [.m 30],V 11 (.alloc [O,O,O,O,O]),Yd 5 11 31]
abbrev Su:=Rg [C 12 ff]
abbrev TI:=Rg [A 32 9,C 33 (Q 0)]
abbrev Sw:=Rg [J 34 .lss 33 32]
abbrev QM:=Rg [V 13 (.mov (.c (.nl)))]
abbrev Qe:=Rg [B 35 10,V 36 (.iarr 5 1 (.s 11) (Q 0)),M 37 36,V 38 (.callv (.m 35) [.m 37]),A 14 38]
abbrev OE:=Rg [B 39 14,P 40 .gtr 39 0,A 41 40,W 41 42 (.mov (.s 10)),W 41 43 (.callv (.s 42) [Q 1]),W 41 44 (.bin .eql (.s 43) (Q 1)),V 45 (.pick (.m 41) (.s 44) ff),A 15 45,Z [42,43,44]]
abbrev Pt:=Rg [A 46 14,C 47 (Q 0)]
abbrev OZ:=Rg [J 48 .lss 47 46]
def zP:VC:=.regP [0,1,2,3,5,6,7,4,8,9,10,11] (.range 12) [4,7] [B 49 15,B 50 10,V 51 (.iarr 5 1 (.s 11) (Q 1)),M 52 51,V 53 (.callv (.m 50) [.m 52]),B 54 10,V 55 (.iarr 5 1 (.s 11) (Q 2)),M 56 55,V 57 (.callv (.m 54) [.m 56]),V 58 (.build [O,O,.d (.bool false),.d (.bool false),.nl] [(3,1,.m 49),(0,1,.m 53),(1,1,.m 57)]),V 16 (.alloc [O,O,.d (.bool false),.d (.bool false),.nl]),Yd 5 16 58]
abbrev Ok:=Rg [X 59 1 16,M 60 59,P 61 .gtr 60 12,A 62 61,W 62 63 (.ld none 0 (.s 8)),W 62 64 (.bin .eql (.s 63) (Q 0)),V 65 (.pick (.m 62) (.s 64) ff),Z [63,64]]
abbrev Qd:=Rg [V 6 (.mov (.c (.nl))),N (.st 1 (.s 7) (Q 0)),N (.st 1 (.s 8) (Q 8))]
abbrev N9:=Rg [X 66 1 16,M 67 66,P 68 .gtr 67 0]
abbrev Qu:=Rg [B 69 10,V 70 (.callv (.m 69) [Q 1]),P 71 .eql 70 1,X 72 2 16,N (.st 1 (.m 72) (.m 71))]
abbrev PJ:=Rg [B 73 10,V 74 (.callv (.m 73) [Q 1]),A 17 74]
abbrev QE:=Rg [B 75 15,H 76 jg [.m 75],B 77 17,L 78 .sub 76 77,A 18 78]
abbrev P9:=Rg [X 79 1 16,M 80 79,C 81 (Q 0)]
abbrev Qb:=Rg [J 82 .lss 81 80]
abbrev Qp:=Rg [B 83 10,B 84 18,V 85 (.callv (.m 83) [.m 84]),A 19 85]
abbrev AX:=[X 86 4 16,V 87 (.ld none 2 (.m 86)),B 88 19,B 89 19,B 90 18,P 91 .sub 90 1,L 92 .shr 89 91,B 93 18,L 94 .shl 92 93,L 95 .sub 88 94,V 96 (.mks 1 [.m 95]),V 97 (.app 1 (.m 87) (.m 96)),X 98 4 16,N (.st 1 (.m 98) (.m 97))]
def zR:VC:=.regP (.range 14) (.range 14) [] AX
abbrev OS:=Rg [P 99 .add 81 1,A 81 99]
def mj:VC:=(.seq Qb
 (.seq (.cond (.m 82)
 .skip
 (.seq (K [80,81]) (.exit 4)))
 (.seq (.block 5
 (.seq Qp
 (.seq zR (K [19]))))
 OS)))
abbrev P8:=Rg [A 100 12,A 101 100,U 101 102 (.mov (.s 17)),U 101 103 (.bin .eql (.s 102) (Q 0)),U 101 104 (.mov (.s 103)),W 104 105 (.fa 4 (.s 16)),W 104 106 (.ld none 0 (.s 105)),W 104 107 (.mov (.s 18)),W 104 108 (.bin .sub (.s 107) (Q 1)),W 104 109 (.call jW [.s 106,.s 108]),U 101 110 (.pick (.s 104) (.s 109) ff),V 111 (.pick (.m 101) tt (.s 110)),A 12 111,Z [17,18,102,103,104,105,106,107,108,109,110]]
abbrev PU:=Rg [A 112 13,V 113 (.ld (some 5) 1 (.s 16)),V 114 (.mks 5 [.m 113]),V 115 (.app 5 (.m 112) (.m 114)),A 13 115]
abbrev PL:=Rg [P 116 .add 47 1,A 47 116]
def cA:VC:=(.seq OZ
 (.seq (.cond (.m 48)
 .skip
 (.seq (K [15,46,47]) (.exit 2)))
 (.seq (.block 3
 (.seq zP
 (.seq (.seq Ok
 (.cond (.m 65)
 (.seq (.seq (.seq (K [6,10,12,13,15,32,33,46,47]) (F 11)) (F 16)) (.seq Qd
 .ret))
 .skip))
 (.seq (.seq N9
 (.cond (.m 68)
 (.seq Qu
 (.seq PJ
 (.seq QE
 (.seq (.seq P9
 (.block 4
 (.seq (.loop mj) (K [80,81]))))
 P8))))
 .skip))
 (.seq PU (F 16))))))
 PL)))
abbrev QQ:=Rg [A 117 6,A 118 13,V 119 (.mks 1 [.m 118]),V 120 (.app 1 (.m 117) (.m 119)),A 6 120]
abbrev OW:=Rg [P 121 .add 33 1,A 33 121]
def eW:VC:=(.seq Sw
 (.seq (.cond (.m 34)
 .skip
 (.seq (.seq (K [10,32,33]) (F 11)) (.exit 0)))
 (.seq (.block 1
 (.seq QM
 (.seq Qe
 (.seq OE
 (.seq (.seq Pt
 (.block 2
 (.seq (.loop cA) (K [15,46,47]))))
 QQ)))))
 OW)))
abbrev QH:=Rg [G 123 8,P 124 .neq 123 0,A 122 124]
def zQ:VC:=.regP (.range 4) (.range 4) [0,2] [G 125 8,V 6 (.mov (.c (.nl))),N (.st 1 (.s 7) (Q 0)),Yd 1 8 125]
abbrev P5:=Rg [A 127 12,A 126 127]
abbrev PC:=Rg [V 6 (.mov (.c (.nl))),N (.st 1 (.s 7) (Q 0)),N (.st 1 (.s 8) (Q 8))]
abbrev Bu:=[A 128 6,G 129 7,A 6 128,Yd 1 7 129,N (.st 1 (.s 8) (Q 0))]
def zO:VC:=.regP (.range 5) [0,2,1,3,4] [] Bu
def yM:ae:=⟨3,[.tmp 6,.cell 7 none,.cell 8 none],
 (.seq Tm
 (.seq R8
 (.seq (.seq R7
 (.cond (.m 26)
 (.seq (.seq (K [1,3,6,9]) (F 5)) (.seq RF
 .ret))
 .skip))
 (.seq Ui
 (.seq Tp
 (.seq (.seq Ug (F 5))
 (.seq Su
 (.seq (.seq TI
 (.block 0
 (.seq (.loop eW) (.seq (K [10,32,33]) (F 11)))))
 (.seq (.block 6
 (.seq QH
 (.cond (.m 122)
 (.seq (K [6,12]) (.seq zQ
 .ret))
 (.seq P5
 (.cond (.m 126)
 (.seq (K [6]) (.seq PC
 .ret))
 .skip)))))
 (.seq zO
 .ret))))))))))⟩
def Gm:VC:=.regP (.range 5) (.range 5) [0,2] [G 2 0,M 3 1,V 4 (.callv (.m 3) []),L 5 .or 2 4,Yd 1 0 5]
def D7:ae:=⟨2,[],
 (.seq Gm (K [0]))⟩
abbrev ahK:=Rg [V 5 (.box (.m 2)),V 6 (.mov (.c (.nl))),C 7 (Q 0),C 8 (Q 0),Z [6,7,8]]
abbrev ahD:=Rg [X 16 0 5,M 17 16,P 18 .gtr 17 11]
abbrev ag9:=Rg [V 19 (.ld (some 4) 1 (.s 5)),H 20 FL [.m 19],V 6 (.mov (.c (.nl))),C 7 (Q 0),A 8 20]
abbrev agr:=Rg [V 22 (.ld (some 4) 0 (.s 5)),B 23 0,A 24 1,H 25 xa [.m 22,.m 23,.m 24],A 21 25,E 26 21 false 0,E 27 21 false 1,E 28 21 false 2,A 9 26,A 7 27,A 8 28,Z [21]]
abbrev agb:=Rg [B 29 8,P 30 .neq 29 0]
abbrev afJ:=Rg [A 31 8,V 6 (.mov (.c (.nl))),C 7 (Q 0),A 8 31]
abbrev afI:=Rg [X 33 0 5,M 34 33,A 35 9,⟨some 36,none,.call qe [.m 34,.m 35],[(0,0)]⟩,A 32 36,E 37 32 true 0,E 38 32 false 1,A 6 37,Z [32,38]]
abbrev agt:=Rg [X 39 0 5,M 40 39,H 41 zx [.m 40]]
abbrev agB:=Rg [A 42 6,A 43 7,A 6 42,A 7 43,C 8 (Q 0)]
abbrev Jt:=Rg [A 44 0,A 45 7,V 46 (.build [.nl,O,O] [(0,1,.m 44),(1,1,.m 45)]),V 47 (.box (.m 46)),A 10 47]
abbrev Fx:=Rg [B 48 6,V 49 (.len (.m 48)),⟨some 50,none,.mkslice [.int .i64 0] (.s 49) (.s 49),[(0,0)]⟩,A 11 50,Z [49]]
abbrev F5:=Rg [B 51 6,V 52 (.len (.s 51)),C 53 (Q 0)]
abbrev acQ:=Rg [J 54 .lss 53 52]
abbrev adR:=Rg [B 55 53,V 56 (.ia 1 (.s 51) (.s 53)),M 57 56,A 12 55,A 13 57]
abbrev adF:=Rg [A 58 13,P 59 .neq 58 0]
abbrev acK:=Rg [B 60 11,A 61 12,B 62 10,V 63 (.calli iU [.m 62,Q 1]),V 64 (.ia 1 (.m 60) (.m 61)),N (.st 1 (.m 64) (.m 63))]
abbrev ZQ:=Rg [P 65 .add 53 1,A 53 65]
def mr:VC:=(.seq acQ
 (.seq (.cond (.m 54)
 .skip
 (.seq (K [51,52,53]) (.exit 0)))
 (.seq (.block 1
 (.seq adR
 (.seq adF
 (.cond (.m 59)
 acK
 (.seq (K [12]) .skip)))))
 ZQ)))
abbrev Fs:=Rg [B 66 6,V 67 (.len (.s 66)),C 68 (Q 0)]
abbrev aaQ:=Rg [J 69 .lss 68 67]
abbrev adE:=Rg [B 70 68,V 71 (.ia 1 (.s 66) (.s 68)),M 72 71,A 14 70,A 15 72]
abbrev aca:=Rg [X 73 0 5,M 74 73,P 75 .eql 74 11,A 76 75,W 76 77 (.mov (.s 15)),W 76 78 (.bin .eql (.s 77) (Q 16)),V 79 (.pick (.m 76) (.s 78) ff),Z [15,77,78]]
abbrev aaa:=Rg [B 80 6,B 81 14,B 82 10,V 83 (.calli kW [.m 82]),V 84 (.ia 1 (.m 80) (.m 81)),N (.st 1 (.m 84) (.m 83))]
abbrev ZS:=Rg [B 85 11,B 86 14,V 87 (.ia 1 (.m 85) (.m 86)),M 88 87,P 89 .eql 88 1]
abbrev aeg:=Rg [B 90 6,B 91 14,B 92 6,A 93 14,V 94 (.ia 1 (.m 92) (.m 93)),M 95 94,V 96 (.un .neg (.m 95)),V 97 (.ia 1 (.m 90) (.m 91)),N (.st 1 (.m 97) (.m 96))]
abbrev aev:=Rg [P 98 .add 68 1,A 68 98]
def mt:VC:=(.seq aaQ
 (.seq (.cond (.m 69)
 .skip
 (.seq (.seq (K [11,66,67,68]) (F 5)) (.exit 2)))
 (.seq (.block 3
 (.seq adE
 (.seq (.seq aca
 (.cond (.m 79)
 aaa
 .skip))
 (.seq ZS
 (.cond (.m 89)
 aeg
 (.seq (K [14]) .skip))))))
 aev)))
abbrev Gi:=Rg [B 99 10,V 100 (.nilck (.m 99)),V 101 (.fa 2 (.m 100)),M 102 101,P 103 .neq 102 0]
abbrev Ju:=[A 104 10,V 105 (.nilck (.m 104)),V 106 (.fa 2 (.m 105)),M 107 106,V 6 (.mov (.c (.nl))),C 7 (Q 0),A 8 107]
def wE:VC:=.regP (.range 7) [4,5,0,1,2,3,6] [] Ju
abbrev JN:=[A 108 6,A 109 10,V 110 (.nilck (.m 109)),V 111 (.fa 1 (.m 110)),M 112 111,A 6 108,A 7 112,C 8 (Q 0)]
def wc:VC:=.regP (.range 8) [0,5,1,2,3,4,6,7] [] JN
def IG:ae:=⟨3,[.tmp 6,.tmp 7,.tmp 8],
 (.seq ahK
 (.seq (.seq ahD
 (.cond (.m 18)
 (.seq (K [0,1]) (.seq (.seq ag9 (F 5))
 .ret))
 .skip))
 (.seq agr
 (.seq (.seq agb
 (.cond (.m 30)
 (.seq (.seq (K [0,7,9]) (F 5)) (.seq afJ
 .ret))
 (.seq (K [8]) .skip)))
 (.seq afI
 (.seq (.seq agt
 (.cond (.m 41)
 (.seq (.seq (K [0]) (F 5)) (.seq agB
 .ret))
 .skip))
 (.seq Jt
 (.seq Fx
 (.seq (.seq F5
 (.block 0
 (.seq (.loop mr) (K [51,52,53]))))
 (.seq (.seq Fs
 (.block 2
 (.seq (.loop mt) (.seq (K [11,66,67,68]) (F 5)))))
 (.seq (.seq Gi
 (.cond (.m 103)
 (.seq (K [6]) (.seq wE
 .ret))
 .skip))
 (.seq wc
 .ret))))))))))))⟩
abbrev Dj:=Rg [V 2 (.box (.m 0)),V 3 (.box (.m 1)),C 4 ff,Z [4]]
abbrev C5:=Rg [X 5 0 2,M 6 5,X 7 0 3,M 8 7,L 9 .eql 6 8,A 10 9,W 10 11 (.fa 1 (.s 2)),W 10 12 (.ld none 0 (.s 11)),W 10 13 (.fa 1 (.s 3)),W 10 14 (.ld none 0 (.s 13)),W 10 15 (.bin .eql (.s 12) (.s 14)),V 16 (.pick (.m 10) (.s 15) ff),A 17 16,W 17 18 (.fa 2 (.s 2)),W 17 19 (.ld none 0 (.s 18)),W 17 20 (.fa 2 (.s 3)),W 17 21 (.ld none 0 (.s 20)),W 17 22 (.bin .eql (.s 19) (.s 21)),V 23 (.pick (.m 17) (.s 22) ff),A 24 23,W 24 25 (.fa 3 (.s 2)),W 24 26 (.ld none 0 (.s 25)),W 24 27 (.fa 3 (.s 3)),W 24 28 (.ld none 0 (.s 27)),W 24 29 (.call jb [.s 26,.s 28]),V 30 (.pick (.m 24) (.s 29) ff),A 4 30,Z [2,3,11,12,13,14,15,18,19,20,21,22,25,26,27,28,29]]
def IE:ae:=⟨2,[.tmp 4],
 (.seq Dj
 (.seq C5
 .ret))⟩
abbrev CZ:=Rg [C 4 ff,Z [4]]
abbrev CX:=Rg [B 6 0,V 7 (.len (.m 6)),B 8 1,V 9 (.len (.m 8)),L 10 .neq 7 9]
abbrev C0:=Rg [C 4 ff]
abbrev C7:=Rg [C 5 (Q 0)]
abbrev C6:=Rg [B 11 5,B 12 0,V 13 (.len (.m 12)),L 14 .lss 11 13]
abbrev C8:VC:=(.reg true [
 B 17 0,
 B 18 5,
 V 19 (.ia 1 (.m 17) (.m 18)),
 M 20 19,
 B 21 1,
 B 22 5,
 V 23 (.ia 1 (.m 21) (.m 22)),
 M 24 23,
 L 25 .neq 20 24])
abbrev Di:=Rg [C 4 ff]
abbrev Dg:=Rg [A 15 5,P 16 .add 15 1,A 5 16]
def De:VC:=(.seq (.seq C6
 (.cond (.m 14)
 .skip
 (.seq (K [0,1,5]) (.exit 0))))
 (.seq (.block 1
 (.seq C8
 (.cond (.m 25)
 (.seq (K [0,1,5]) (.seq Di
 .ret))
 .skip)))
 Dg))
abbrev CY:=Rg [C 4 tt]
def I0:ae:=⟨2,[.tmp 4],
 (.seq CZ
 (.seq (.seq CX
 (.cond (.m 10)
 (.seq (K [0,1]) (.seq C0
 .ret))
 .skip))
 (.seq (.seq C7
 (.block 0
 (.seq (.loop De) (K [0,1,5]))))
 (.seq CY
 .ret))))⟩
abbrev ta:=Rg [C 4 ff,Z [4]]
abbrev sR:=Rg [B 7 0,V 8 (.len (.m 7)),B 9 1,V 10 (.len (.m 9)),L 11 .neq 8 10]
abbrev tj:=Rg [C 4 ff]
abbrev tg:=Rg [C 5 (Q 0)]
abbrev tf:=Rg [B 12 5,B 13 0,V 14 (.len (.m 13)),L 15 .lss 12 14]
abbrev tn:VC:=(.reg true [
 B 18 0,
 B 19 5,
 V 20 (.ia 1 (.m 18) (.m 19)),
 M 21 20,
 V 22 (.len (.m 21)),
 B 23 1,
 B 24 5,
 V 25 (.ia 1 (.m 23) (.m 24)),
 M 26 25,
 V 27 (.len (.m 26)),
 L 28 .neq 22 27])
abbrev s9:=Rg [C 4 ff]
abbrev sW:=Rg [C 6 (Q 0)]
abbrev tq:=Rg [B 29 6,B 30 0,B 31 5,V 32 (.ia 1 (.m 30) (.m 31)),M 33 32,V 34 (.len (.m 33)),L 35 .lss 29 34]
abbrev tp:VC:=(.reg true [
 B 38 0,
 B 39 5,
 V 40 (.ia 1 (.m 38) (.m 39)),
 M 41 40,
 B 42 6,
 V 43 (.ia 2 (.m 41) (.m 42)),
 V 44 (.ld (some 2) 0 (.m 43)),
 B 45 1,
 B 46 5,
 V 47 (.ia 1 (.m 45) (.m 46)),
 M 48 47,
 B 49 6,
 V 50 (.ia 2 (.m 48) (.m 49)),
 V 51 (.ld (some 2) 0 (.m 50)),
 V 52 (.bina true [true,true] (.m 44) (.m 51))])
abbrev rA:=Rg [C 4 ff]
abbrev qD:=Rg [A 36 6,P 37 .add 36 1,A 6 37]
def sQ:VC:=(.seq (.seq tq
 (.cond (.m 35)
 .skip
 (.seq (K [6]) (.exit 2))))
 (.seq (.block 3
 (.seq tp
 (.cond (.m 52)
 (.seq (K [0,1,5,6]) (.seq rA
 .ret))
 .skip)))
 qD))
abbrev qZ:=Rg [A 16 5,P 17 .add 16 1,A 5 17]
def sY:VC:=(.seq (.seq tf
 (.cond (.m 15)
 .skip
 (.seq (K [0,1,5]) (.exit 0))))
 (.seq (.block 1
 (.seq (.seq tn
 (.cond (.m 28)
 (.seq (K [0,1,5]) (.seq s9
 .ret))
 .skip))
 (.seq sW
 (.block 2
 (.seq (.loop sQ) (K [6]))))))
 qZ))
abbrev qX:=Rg [C 4 tt]
def v8:ae:=⟨2,[.tmp 4],
 (.seq ta
 (.seq (.seq sR
 (.cond (.m 11)
 (.seq (K [0,1]) (.seq tj
 .ret))
 .skip))
 (.seq (.seq tg
 (.block 0
 (.seq (.loop sY) (K [0,1,5]))))
 (.seq qX
 .ret))))⟩
abbrev wu:=Rg [C 4 ff,Z [4]]
abbrev vN:=Rg [B 6 0,V 7 (.len (.m 6)),B 8 1,V 9 (.len (.m 8)),L 10 .neq 7 9]
abbrev wo:=Rg [C 4 ff]
abbrev wF:=Rg [C 5 (Q 0)]
abbrev vQ:=Rg [B 11 5,B 12 0,V 13 (.len (.m 12)),L 14 .lss 11 13]
abbrev ww:VC:=(.reg true [
 B 17 0,
 B 18 5,
 V 19 (.ia 1 (.m 17) (.m 18)),
 M 20 19,
 B 21 1,
 B 22 5,
 V 23 (.ia 1 (.m 21) (.m 22)),
 M 24 23,
 H 25 jb [.m 20,.m 24],
 V 26 (.un .not (.m 25))])
abbrev wH:=Rg [C 4 ff]
abbrev wQ:=Rg [A 15 5,P 16 .add 15 1,A 5 16]
def vS:VC:=(.seq (.seq vQ
 (.cond (.m 14)
 .skip
 (.seq (K [0,1,5]) (.exit 0))))
 (.seq (.block 1
 (.seq ww
 (.cond (.m 26)
 (.seq (K [0,1,5]) (.seq wH
 .ret))
 .skip)))
 wQ))
abbrev v6:=Rg [C 4 tt]
def Aq:ae:=⟨2,[.tmp 4],
 (.seq wu
 (.seq (.seq vN
 (.cond (.m 10)
 (.seq (K [0,1]) (.seq wo
 .ret))
 .skip))
 (.seq (.seq wF
 (.block 0
 (.seq (.loop vS) (K [0,1,5]))))
 (.seq v6
 .ret))))⟩
abbrev yp:=Rg [C 4 ff,Z [4]]
abbrev yo:=Rg [B 9 0,V 10 (.len (.m 9)),B 11 1,V 12 (.len (.m 11)),L 13 .neq 10 12]
abbrev yY:=Rg [C 4 ff]
abbrev yl:=Rg [C 5 (Q 0)]
abbrev yc:=Rg [B 14 5,B 15 0,V 16 (.len (.m 15)),L 17 .lss 14 16]
abbrev yg:VC:=(.reg true [
 B 20 0,
 B 21 5,
 V 22 (.ia 1 (.m 20) (.m 21)),
 M 23 22,
 V 24 (.len (.m 23)),
 B 25 1,
 B 26 5,
 V 27 (.ia 1 (.m 25) (.m 26)),
 M 28 27,
 V 29 (.len (.m 28)),
 L 30 .neq 24 29])
abbrev yr:=Rg [C 4 ff]
abbrev zB:=Rg [C 6 (Q 0)]
abbrev zJ:=Rg [B 31 6,B 32 0,B 33 5,V 34 (.ia 1 (.m 32) (.m 33)),M 35 34,V 36 (.len (.m 35)),L 37 .lss 31 36]
abbrev zG:=Rg [B 40 0,B 41 5,V 42 (.ia 1 (.m 40) (.m 41)),M 43 42,B 44 6,V 45 (.ia 5 (.m 43) (.m 44)),V 46 (.ld (some 5) 0 (.m 45)),V 7 (.alloc [O,O,.d (.bool false),.d (.bool false),.nl]),Yd 5 7 46]
abbrev xD:=Rg [B 47 1,B 48 5,V 49 (.ia 1 (.m 47) (.m 48)),M 50 49,B 51 6,V 52 (.ia 5 (.m 50) (.m 51)),V 53 (.ld (some 5) 0 (.m 52)),V 8 (.alloc [O,O,.d (.bool false),.d (.bool false),.nl]),Yd 5 8 53]
abbrev xI:=Rg [X 54 0 7,M 55 54,X 56 0 8,M 57 56,L 58 .neq 55 57,A 59 58,U 59 60 (.fa 1 (.s 7)),U 59 61 (.ld none 0 (.s 60)),U 59 62 (.fa 1 (.s 8)),U 59 63 (.ld none 0 (.s 62)),U 59 64 (.bin .neq (.s 61) (.s 63)),V 65 (.pick (.m 59) tt (.s 64)),A 66 65,U 66 67 (.fa 2 (.s 7)),U 66 68 (.ld none 0 (.s 67)),U 66 69 (.fa 2 (.s 8)),U 66 70 (.ld none 0 (.s 69)),U 66 71 (.binb true (.s 68) (.s 70)),V 72 (.pick (.m 66) tt (.s 71)),A 73 72,U 73 74 (.fa 3 (.s 7)),U 73 75 (.ld none 0 (.s 74)),U 73 76 (.fa 3 (.s 8)),U 73 77 (.ld none 0 (.s 76)),U 73 78 (.binb true (.s 75) (.s 77)),V 79 (.pick (.m 73) tt (.s 78)),A 80 79,U 80 81 (.fa 4 (.s 7)),U 80 82 (.ld none 0 (.s 81)),U 80 83 (.fa 4 (.s 8)),U 80 84 (.ld none 0 (.s 83)),U 80 85 (.call jb [.s 82,.s 84]),U 80 86 (.un .not (.s 85)),V 87 (.pick (.m 80) tt (.s 86)),Z [60,61,62,63,64,67,68,69,70,71,74,75,76,77,78,81,82,83,84,85,86]]
abbrev xU:=Rg [C 4 ff]
abbrev xu:=Rg [A 38 6,P 39 .add 38 1,A 6 39]
def yI:VC:=(.seq (.seq zJ
 (.cond (.m 37)
 .skip
 (.seq (K [6]) (.exit 2))))
 (.seq (.block 3
 (.seq zG
 (.seq xD
 (.seq (.seq xI (.seq (F 7) (F 8)))
 (.cond (.m 87)
 (.seq (K [0,1,5,6]) (.seq xU
 .ret))
 .skip)))))
 xu))
abbrev xt:=Rg [A 18 5,P 19 .add 18 1,A 5 19]
def yf:VC:=(.seq (.seq yc
 (.cond (.m 17)
 .skip
 (.seq (K [0,1,5]) (.exit 0))))
 (.seq (.block 1
 (.seq (.seq yg
 (.cond (.m 30)
 (.seq (K [0,1,5]) (.seq yr
 .ret))
 .skip))
 (.seq zB
 (.block 2
 (.seq (.loop yI) (K [6]))))))
 xt))
abbrev xF:=Rg [C 4 tt]
def Dc:ae:=⟨2,[.tmp 4],
 (.seq yp
 (.seq (.seq yo
 (.cond (.m 13)
 (.seq (K [0,1]) (.seq yY
 .ret))
 .skip))
 (.seq (.seq yl
 (.block 0
 (.seq (.loop yf) (K [0,1,5]))))
 (.seq xF
 .ret))))⟩
abbrev Ek:=Rg [C 4 ff,Z [4]]
abbrev Fl:=Rg [B 6 0,V 7 (.len (.m 6)),B 8 1,V 9 (.len (.m 8)),L 10 .neq 7 9]
abbrev EL:=Rg [C 4 ff]
abbrev E9:=Rg [B 11 0,V 12 (.len (.m 11)),C 13 (Q 0)]
abbrev En:=Rg [J 14 .lss 13 12]
abbrev E6:=Rg [B 15 13,A 5 15]
abbrev Fi:VC:=(.reg true [
 B 16 0,
 B 17 5,
 V 18 (.ia 1 (.m 16) (.m 17)),
 M 19 18,
 B 20 1,
 B 21 5,
 V 22 (.ia 1 (.m 20) (.m 21)),
 M 23 22,
 L 24 .neq 19 23])
abbrev E2:=Rg [C 4 ff]
abbrev EC:=Rg [P 25 .add 13 1,A 13 25]
def gR:VC:=(.seq En
 (.seq (.cond (.m 14)
 .skip
 (.seq (K [0,1,12,13]) (.exit 0)))
 (.seq (.block 1
 (.seq E6
 (.seq (.seq Fi (K [5]))
 (.cond (.m 24)
 (.seq (K [0,1,12,13]) (.seq E2
 .ret))
 .skip))))
 EC)))
abbrev Eu:=Rg [C 4 tt]
def mT:ae:=⟨2,[.tmp 4],
 (.seq Ek
 (.seq (.seq Fl
 (.cond (.m 10)
 (.seq (K [0,1]) (.seq EL
 .ret))
 .skip))
 (.seq (.seq E9
 (.block 0
 (.seq (.loop gR) (K [0,1,12,13]))))
 (.seq Eu
 .ret))))⟩
abbrev XF:=Rg [C 2 ff,Z [2]]
abbrev Yq:=Rg [B 3 0,P 4 .geq 3 0,A 5 4,W 5 6 (.mov (.s 0)),W 5 7 (.bin .leq (.s 6) (Q 31)),V 8 (.pick (.m 5) (.s 7) ff),A 2 8,Z [0,6,7]]
def BN:ae:=⟨1,[.tmp 2],
 (.seq XF
 (.seq Yq
 .ret))⟩
abbrev xV:=Rg [V 2 (.box (.m 0)),V 4 (.mov (.c (.nl))),Z [4]]
abbrev xw:=Rg [A 6 1]
abbrev xX:=Rg [A 5 7]
abbrev xG:=Rg [V 8 (.ld none 1 (.s 2)),A 9 5,V 10 (.mks 1 [.m 9]),V 11 (.app 1 (.m 8) (.m 10)),N (.st 1 (.m 2) (.m 11))]
def gX:VC:=xX
def ik:VC:=(.block 1
 xG)
abbrev xW:=Rg [V 12 (.ld none 1 (.m 2)),A 4 12]
def jC:ae:=⟨2,[.tmp 4],
 (.seq xV
 (.seq (.seq xw
 (.block 0
 (.seq (.rangeF (.m 6) [7] gX ik) (K [6]))))
 (.seq xW
 .ret)))⟩
def l9:ae:=⟨1,[.tmp 2],
 (.clone 1)⟩
abbrev abl:=Rg [V 2 (.box (.m 0)),V 3 (.box (.m 1)),V 4 (.mov (.c (.nilf))),Z [4]]
abbrev aaw:=Rg [V 5 (.mkfn mB [] [.m 3,.m 2]),A 4 5]
def Eh:ae:=⟨2,[.tmp 4],
 (.seq abl
 (.seq aaw
 .ret))⟩
abbrev VU:=Rg [G 6 2,A 7 0,A 8 1,H 9 dU [.m 6,.m 7,.m 8],A 5 9,E 10 5 true 0,E 11 5 false 1,N (.st 1 (.m 2) (.m 10)),Z [5,11]]
def CN:ae:=⟨3,[],
 VU⟩
abbrev Wl:=Rg [V 2 (.box (.m 0)),C 4 (Q 0),C 5 (Q 0),Z [4,5]]
abbrev Y2:=Rg [V 11 (.ld (some 4) 0 (.s 2)),H 12 dr [.m 11],A 10 12,E 13 10 false 0,E 14 10 false 1,A 6 13,A 7 14,Z [10]]
abbrev Xd:=Rg [B 15 7,P 16 .neq 15 0]
abbrev XN:=Rg [A 17 7,C 4 (Q 0),A 5 17]
abbrev WH:=Rg [B 18 1,P 19 .lss 18 0,A 20 19,U 20 21 (.mov (.s 1)),U 20 22 (.mov (.s 6)),U 20 23 (.bin .geq (.s 21) (.s 22)),V 24 (.pick (.m 20) tt (.s 23)),Z [6,21,22,23]]
abbrev VM:=Rg [C 4 (Q 0),C 5 (Q 2)]
abbrev Zh:=Rg [C 8 (Q 0)]
abbrev VV:=Rg [A 25 1,A 9 25]
abbrev Xp:=Rg [B 26 9,X 27 3 2,M 28 27,B 29 8,V 30 (.ia 1 (.m 28) (.m 29)),M 31 30,L 32 .geq 26 31]
abbrev Xv:=Rg [A 35 9,X 36 3 2,M 37 36,B 38 8,V 39 (.ia 1 (.m 37) (.m 38)),M 40 39,L 41 .sub 35 40,A 9 41]
abbrev UU:=Rg [A 33 8,P 34 .add 33 1,A 8 34]
def tC:VC:=(.seq (.seq Xp
 (.cond (.m 32)
 .skip
 (.seq (K [2,9]) (.exit 0))))
 (.seq (.block 1
 Xv)
 UU))
abbrev TY:=Rg [A 42 8,A 4 42,C 5 (Q 0)]
def CF:ae:=⟨2,[.tmp 4,.tmp 5],
 (.seq Wl
 (.seq Y2
 (.seq (.seq Xd
 (.cond (.m 16)
 (.seq (K [1,2,6]) (.seq XN
 .ret))
 (.seq (K [7]) .skip)))
 (.seq (.seq WH
 (.cond (.m 24)
 (.seq (K [1,2]) (.seq VM
 .ret))
 .skip))
 (.seq Zh
 (.seq (.seq VV
 (.block 0
 (.seq (.loop tC) (K [2,9]))))
 (.seq TY
 .ret)))))))⟩
abbrev Zp:=Rg [V 2 (.box (.m 0)),C 4 (Q 0),Z [4]]
abbrev Xm:=Rg [V 13 (.ld (some 4) 0 (.s 2)),H 14 dr [.m 13],A 12 14,E 15 12 false 0,E 16 12 false 1,A 5 15,A 6 16,Z [5,12]]
abbrev Wn:=Rg [B 17 6,P 18 .neq 17 0]
abbrev XD:=Rg [A 19 6,A 4 19]
abbrev Wf:=Rg [B 20 1,V 21 (.len (.m 20)),X 22 3 2,M 23 22,V 24 (.len (.m 23)),L 25 .neq 21 24]
abbrev Zt:=Rg [C 4 (Q 8)]
abbrev Yu:=Rg [A 26 1,V 27 (.len (.s 26)),C 28 (Q 0)]
abbrev X9:=Rg [J 29 .lss 28 27]
abbrev WM:=Rg [V 30 (.ia 1 (.s 26) (.s 28)),M 31 30,A 8 31]
abbrev VB:=Rg [X 32 2 2,M 33 32,A 9 33]
abbrev SB:=Rg [A 34 8,V 35 (.len (.s 34)),C 36 (Q 0)]
abbrev S8:=Rg [J 37 .lss 36 35]
abbrev Ts:=Rg [V 38 (.ia 2 (.s 34) (.s 36)),V 39 (.ld (some 2) 0 (.m 38)),V 11 (.alloc [O,O]),Yd 2 11 39]
abbrev UM:=Rg [V 40 (.ld (some 2) 0 (.s 11)),B 41 9,H 42 tM [.m 40,.m 41],V 43 (.un .not (.m 42))]
abbrev S3:=Rg [C 4 (Q 8)]
abbrev TD:=Rg [A 44 9,X 45 1 11,M 46 45,L 47 .sub 44 46,A 9 47]
abbrev Uw:=Rg [P 48 .add 36 1,A 36 48]
def kl:VC:=(.seq S8
 (.seq (.cond (.m 37)
 .skip
 (.seq (K [34,35,36]) (.exit 2)))
 (.seq (.block 3
 (.seq Ts
 (.seq (.seq UM
 (.cond (.m 43)
 (.seq (.seq (K [2,9,26,27,28,34,35,36]) (F 11)) (.seq S3
 .ret))
 .skip))
 (.seq TD (F 11)))))
 Uw)))
abbrev RJ:=Rg [A 49 9,P 50 .neq 49 0]
abbrev UT:=Rg [C 4 (Q 8)]
abbrev SQ:=Rg [P 51 .add 28 1,A 28 51]
def iF:VC:=(.seq X9
 (.seq (.cond (.m 29)
 .skip
 (.seq (K [2,26,27,28]) (.exit 0)))
 (.seq (.block 1
 (.seq WM
 (.seq VB
 (.seq (.seq SB
 (.block 2
 (.seq (.loop kl) (K [34,35,36]))))
 (.seq RJ
 (.cond (.m 50)
 (.seq (K [2,26,27,28]) (.seq UT
 .ret))
 .skip))))))
 SQ)))
abbrev TV:=Rg [C 4 (Q 0)]
def CA:ae:=⟨2,[.tmp 4],
 (.seq Zp
 (.seq (.seq Xm
 (.seq Wn
 (.cond (.m 18)
 (.seq (K [1,2]) (.seq XD
 .ret))
 (.seq (K [6]) .skip))))
 (.seq (.seq Wf
 (.cond (.m 25)
 (.seq (K [1,2]) (.seq Zt
 .ret))
 .skip))
 (.seq (.seq Yu
 (.block 0
 (.seq (.loop iF) (K [2,26,27,28]))))
 (.seq TV
 .ret)))))⟩
abbrev V8:=Rg [V 1 (.box (.m 0)),C 2 (Q 0),C 3 (Q 0),Z [2,3]]
abbrev Wq:=Rg [C 2 (Q 5)]
abbrev Vo:=Rg [V 4 (.fa 0 (.m 1)),M 5 4,V 6 (.bin .eql (.m 5) (.c (.d (.int .u8 2))))]
abbrev Vg:=Rg [C 2 (Q 3)]
abbrev VD:VC:=(.reg true [
 B 7 2,
 B 8 2,
 V 9 (.bin .shl (Q 1) (.m 8)),
 P 10 .sub 9 1,
 A 2 7,
 A 3 10])
def Ct:ae:=⟨1,[.tmp 2,.tmp 3],
 (.seq V8
 (.seq Wq
 (.seq (.seq Vo
 (.cond (.m 6)
 (.seq (K [2]) Vg)
 .skip))
 (.seq VD
 .ret))))⟩
abbrev TX:=Rg [V 2 (.box (.m 0)),V 3 (.box (.m 1)),V 4 (.mov (.c (.nilf))),Z [4]]
abbrev UA:=Rg [V 5 (.mkfn fM [] [.m 2,.m 3]),A 4 5]
def yu:ae:=⟨2,[.tmp 4],
 (.seq TX
 (.seq UA
 .ret))⟩
abbrev UR:=Rg [V 5 (.box (.m 2)),V 6 (.alloc [O])]
abbrev Tv:=Rg [B 13 0,B 14 1,H 15 xc [.m 13,.m 14],V 16 (.un .not (.m 15)),A 17 16,U 17 18 (.mov (.s 1)),U 17 19 (.len (.s 18)),U 17 20 (.ld none 0 (.s 5)),U 17 21 (.len (.s 20)),U 17 22 (.bin .neq (.s 19) (.s 21)),V 23 (.pick (.m 17) tt (.s 22)),Z [18,19,20,21,22]]
abbrev Tt:=Rg [N (.st 1 (.s 6) (Q 8))]
abbrev To:=Rg [A 24 0,V 25 (.build [O,O] [(0,1,.m 24),(1,1,Q (-1))]),V 26 (.box (.m 25)),V 7 (.alloc [.nilp]),Yd 1 7 26]
abbrev US:=Rg [A 27 1,V 28 (.len (.s 27)),C 29 (Q 0)]
abbrev Td:=Rg [J 30 .lss 29 28]
abbrev T8:=Rg [B 31 29,V 32 (.ia 1 (.s 27) (.s 29)),M 33 32,V 8 (.alloc [O]),Yd 1 8 31,A 9 33]
abbrev Uy:=Rg [V 10 (.alloc [O]),N (.st 1 (.s 10) (Q 0))]
abbrev Tz:=Rg [A 34 9,V 35 (.calli jX [.m 34])]
abbrev T6:=Rg [A 11 36,Z [27,28,29,35]]
abbrev OJ:=Rg [A 12 37]
abbrev Qi:=Rg [G 38 10,P 39 .add 38 1,Yd 1 10 39,Z [10]]
abbrev BJ:=[B 40 11,G 41 5,G 42 8,V 43 (.ia 1 (.m 41) (.m 42)),M 44 43,V 45 (.len (.m 44)),L 46 .geq 40 45,A 47 46,U 47 48 (.mov (.s 12)),U 47 49 (.bin .eql (.s 48) (Q 0)),U 47 50 (.mov (.s 49)),W 50 51 (.ld none 0 (.s 5)),W 50 52 (.ld none 0 (.s 8)),W 50 53 (.ia 1 (.s 51) (.s 52)),W 50 54 (.ld none 0 (.s 53)),W 50 55 (.mov (.s 11)),W 50 56 (.ia 1 (.s 54) (.s 55)),W 50 57 (.ld none 0 (.s 56)),W 50 58 (.bin .neq (.s 57) (Q 0)),U 47 59 (.pick (.s 50) (.s 58) ff),V 60 (.pick (.s 47) tt (.s 59)),A 61 60,U 61 62 (.mov (.s 12)),U 61 63 (.bin .gtr (.s 62) (Q 0)),U 61 64 (.mov (.s 63)),W 64 65 (.ld none 0 (.s 7)),W 64 66 (.mov (.s 12)),W 64 67 (.ld none 0 (.s 5)),W 64 68 (.ld none 0 (.s 8)),W 64 69 (.ia 1 (.s 67) (.s 68)),W 64 70 (.ld none 0 (.s 69)),W 64 71 (.mov (.s 11)),W 64 72 (.ia 1 (.s 70) (.s 71)),W 64 73 (.ld none 0 (.s 72)),W 64 74 (.calli fp [.s 65,.s 66,.s 73]),W 64 75 (.un .not (.s 74)),U 61 76 (.pick (.s 64) (.s 75) ff),V 77 (.pick (.s 61) tt (.s 76))]
def zS:VC:=.regP (.range 38) (.range 38) [] BJ
abbrev PW:=Rg [N (.st 1 (.m 6) (Q 8))]
def eV:VC:=(.seq T6
 OJ)
def eU:VC:=(.block 3
 (.seq Qi
 (.seq (.seq zS (K [5,7,8,11,12,47,48,49,50,51,52,53,54,55,56,57,58,59,61,62,63,64,65,66,67,68,69,70,71,72,73,74,75,76]))
 (.cond (.m 77)
 (.seq PW
 .ret)
 (.seq (K [6]) .skip)))))
abbrev PO:VC:=(.reg true [
 G 78 10,
 G 79 5,
 G 80 8,
 V 81 (.ia 1 (.m 79) (.m 80)),
 M 82 81,
 V 83 (.len (.m 82)),
 L 84 .neq 78 83])
abbrev OD:=Rg [N (.st 1 (.s 6) (Q 8))]
abbrev Qf:=Rg [P 85 .add 29 1,A 29 85]
def mg:VC:=(.seq Td
 (.seq (.cond (.m 30)
 .skip
 (.seq (.seq (.seq (K [27,28,29]) (F 5)) (F 7)) (.exit 0)))
 (.seq (.block 1
 (.seq T8
 (.seq Uy
 (.seq (.seq Tz
 (.block 2
 (.seq (.rangeF (.s 35) [36,37] eV eU) (F 35))))
 (.seq (.seq PO (.seq (F 8) (F 10)))
 (.cond (.m 84)
 (.seq (.seq (.seq (K [27,28,29]) (F 5)) (F 7)) (.seq OD
 .ret))
 .skip))))))
 Qf)))
abbrev Qj:=Rg [N (.st 1 (.s 6) (Q 0))]
def yw:ae:=⟨3,[.cell 6 none],
 (.seq UR
 (.seq (.seq Tv
 (.cond (.m 23)
 (.seq (.seq (K [0,1]) (F 5)) (.seq Tt
 .ret))
 .skip))
 (.seq To
 (.seq (.seq US
 (.block 0
 (.seq (.loop mg) (.seq (.seq (K [27,28,29]) (F 5)) (F 7)))))
 (.seq Qj
 .ret)))))⟩
abbrev Ub:=Rg [V 1 (.box (.m 0)),V 2 (.mov (.c (.nilf))),Z [2]]
abbrev Sq:=Rg [V 3 (.mkfn dH [] [.m 1]),A 2 3]
def yN:ae:=⟨1,[.tmp 2],
 (.seq Ub
 (.seq Sq
 .ret))⟩
abbrev aah:=Rg [V 4 (.mov (.c (.nl))),C 5 (Q 0),Z [4,5]]
abbrev Zx:=Rg [A 13 1,V 14 (.mks 1 [.m 13]),H 15 ox [Q 12,.m 14],A 12 15,E 16 12 false 0,E 17 12 false 1,A 6 16,A 7 17,Z [12]]
abbrev ZA:=Rg [A 18 7,P 19 .neq 18 0]
abbrev aer:=Rg [V 4 (.mov (.c (.nl))),C 5 (Q 2)]
abbrev Z5:=Rg [H 21 pb [Q 12],A 20 21,E 22 20 true 0,E 23 20 false 1,V 8 (.alloc [O,O,.nl,.nl]),Yd 4 8 22,A 9 23,Z [9,20]]
abbrev adM:=Rg [V 25 (.ld (some 4) 1 (.s 8)),A 26 6,H 27 mI [.m 25,.m 26],A 24 27,E 28 24 true 0,E 29 24 false 1,A 10 28,A 11 29,Z [11,24]]
abbrev ZJ:=Rg [A 30 0,A 31 10,V 32 (.mks 1 [.m 30,.m 31]),H 33 fg [.m 32],A 4 33,C 5 (Q 0)]
def EB:ae:=⟨2,[.tmp 4,.tmp 5],
 (.seq aah
 (.seq Zx
 (.seq (.seq ZA
 (.cond (.m 19)
 (.seq (K [0,6]) (.seq aer
 .ret))
 .skip))
 (.seq Z5
 (.seq (.seq adM (F 8))
 (.seq ZJ
 .ret))))))⟩
abbrev G7:=Rg [C 6 ff,Z [6]]
abbrev F0:=Rg [B 10 0,V 11 (.nilck (.m 10)),V 12 (.fa 0 (.m 11)),A 7 12,C 8 (Q 255),C 9 ff]
abbrev FX:=Rg [A 13 1,P 14 .eql 13 13]
abbrev uR:=[B 15 0,V 16 (.nilck (.m 15)),V 17 (.fa 1 (.m 16)),B 18 0,V 19 (.nilck (.m 18)),V 20 (.fa 1 (.m 19)),M 21 20,P 22 .lss 21 0,A 7 17,C 8 (Q 511),A 9 22]
def sK:VC:=.regP (.range 11) [0,1,2,8,9,3,4,5,6,7,10] [] uR
abbrev Fy:=Rg [B 23 2,P 24 .lss 23 0,A 25 24,U 25 26 (.mov (.s 2)),U 25 27 (.mov (.s 8)),U 25 28 (.bin .gtr (.s 26) (.s 27)),V 29 (.pick (.m 25) tt (.s 28)),A 30 29,U 30 31 (.mov (.s 9)),U 30 32 (.un .not (.s 31)),U 30 33 (.mov (.s 32)),W 33 34 (.mov (.s 2)),W 33 35 (.mov (.s 7)),W 33 36 (.nilck (.s 35)),W 33 37 (.ld none 0 (.s 36)),W 33 38 (.bin .sub (.s 37) (Q 60)),W 33 39 (.bin .lss (.s 34) (.s 38)),W 33 40 (.mov (.s 39)),U 40 41 (.mov (.s 2)),U 40 42 (.mov (.s 7)),U 40 43 (.nilck (.s 42)),U 40 44 (.ld none 0 (.s 43)),U 40 45 (.bin .add (.s 44) (Q 60)),U 40 46 (.bin .gtr (.s 41) (.s 45)),W 33 47 (.pick (.s 40) tt (.s 46)),U 30 48 (.pick (.s 33) (.s 47) ff),V 49 (.pick (.m 30) tt (.s 48)),Z [8,9,26,27,28,31,32,33,34,35,36,37,38,39,40,41,42,43,44,45,46,47,48]]
abbrev GY:=Rg [C 6 ff]
abbrev GS:=Rg [A 50 7,A 51 2,V 52 (.nilck (.m 50)),N (.st 1 (.m 52) (.m 51))]
abbrev F3:=Rg [C 6 tt]
def nE:ae:=⟨3,[.tmp 6],
 (.seq G7
 (.seq F0
 (.seq (.seq FX
 (.cond (.m 14)
 (.seq (K [7,8,9]) (.seq sK (K [0])))
 (.seq (K [0]) .skip)))
 (.seq (.seq Fy
 (.cond (.m 49)
 (.seq (K [2,7]) (.seq GY
 .ret))
 .skip))
 (.seq GS
 (.seq F3
 .ret))))))⟩
abbrev pW:=Rg [C 4 ff,Z [4]]
abbrev pO:=Rg [A 5 0,A 6 1,V 7 (.calli gZ [.m 5,.m 6]),P 8 .geq 7 0,A 4 8]
def fT:ae:=⟨2,[.tmp 4],
 (.seq pW
 (.seq pO
 .ret))⟩
abbrev J2:=Rg [C 2 ff,Z [2]]
abbrev J8:=Rg [A 3 0,V 4 (.len (.m 3)),P 5 .gtr 4 0,A 2 5]
def rQ:ae:=⟨1,[.tmp 2],
 (.seq J2
 (.seq J8
 .ret))⟩
abbrev Mn:=Rg [V 2 (.box (.m 0)),C 4 (Q 0),Z [4]]
abbrev MO:=Rg [V 10 (.ld (some 4) 0 (.s 2)),H 11 dr [.m 10],A 9 11,E 12 9 false 0,E 13 9 false 1,A 5 12,A 6 13,Z [9]]
abbrev MQ:=Rg [B 14 6,P 15 .neq 14 0]
abbrev La:=Rg [A 16 6,A 4 16]
abbrev MW:=Rg [B 17 1,V 18 (.len (.m 17)),A 19 5,L 20 .neq 18 19]
abbrev Kl:=Rg [C 4 (Q 8)]
abbrev MU:=Rg [A 21 1,V 22 (.len (.s 21)),C 23 (Q 0)]
abbrev Kp:=Rg [J 24 .lss 23 22]
abbrev MB:=Rg [V 25 (.ia 1 (.s 21) (.s 23)),M 26 25,V 8 (.alloc [.nl]),Yd 1 8 26]
abbrev zT:=[G 27 8,V 28 (.len (.m 27)),V 29 (.ld (some 4) 0 (.s 2)),H 30 iy [.m 29],V 31 (.ix 5 1 false (.m 30) (Q 3)),L 32 .gtr 28 31,A 33 32,U 33 34 (.ld none 0 (.s 8)),U 33 35 (.mkfn iV [] [.s 2,.s 8]),U 33 36 (.calli bS [.s 34,.s 35]),V 37 (.pick (.s 33) tt (.s 36))]
def xq:VC:=.regP (.range 11) (.range 11) [] zT
abbrev J5:=Rg [C 4 (Q 8)]
abbrev Kb:=Rg [P 38 .add 23 1,A 23 38]
def kg:VC:=(.seq Kp
 (.seq (.cond (.m 24)
 .skip
 (.seq (K [2,21,22,23]) (.exit 0)))
 (.seq (.block 1
 (.seq MB
 (.seq (.seq xq (K [8,33,34,35,36]))
 (.cond (.m 37)
 (.seq (K [2,21,22,23]) (.seq J5
 .ret))
 .skip))))
 Kb)))
abbrev JR:=Rg [C 4 (Q 0)]
def uB:ae:=⟨2,[.tmp 4],
 (.seq Mn
 (.seq MO
 (.seq (.seq MQ
 (.cond (.m 15)
 (.seq (K [1,2,5]) (.seq La
 .ret))
 (.seq (K [6]) .skip)))
 (.seq (.seq MW
 (.cond (.m 20)
 (.seq (K [1,2]) (.seq Kl
 .ret))
 .skip))
 (.seq (.seq MU
 (.block 0
 (.seq (.loop kg) (K [2,21,22,23]))))
 (.seq JR
 .ret))))))⟩
abbrev zN:=[G 6 2,A 7 0,B 8 1,V 9 (.bin .shl (Q 1) (.m 8)),P 10 .sub 9 1,L 11 .and 7 10,B 12 1,H 13 dU [.m 6,.m 11,.m 12],A 5 13,E 14 5 true 0,E 15 5 false 1,Yd 1 2 14]
def xS:VC:=.regP (.range 12) [0,1,2,3,4,5,6,7,8,9,11,10] [] zN
def tQ:ae:=⟨3,[],
 (.seq xS (K [1,2,5,15]))⟩
abbrev Na:=Rg [V 1 (.box (.m 0)),V 2 (.alloc [O,O,O,O,O])]
abbrev Mw:=Rg [X 3 0 1,M 4 3,V 5 (.bin .eql (.m 4) (.c (.d (.int .u8 2))))]
abbrev Lu:=Rg [V 6 (.build [O,O,O,O,O] [(0,1,Q 1),(1,1,Q 4),(2,1,Q 3),(3,1,Q 1),(4,1,Q 7)]),Yd 5 2 6]
abbrev MX:=Rg [V 7 (.build [O,O,O,O,O] [(0,1,Q 2),(1,1,Q 6),(2,1,Q 5),(3,1,Q 3),(4,1,Q 12)]),Yd 5 2 7]
def tO:ae:=⟨1,[.cell 2 (some 5)],
 (.seq Na
 (.seq (.seq (.seq Mw (F 1))
 (.cond (.m 5)
 (.seq Lu
 .ret)
 .skip))
 (.seq MX
 .ret)))⟩
abbrev Sp:=Rg [C 2 (Q 0),Z [2]]
abbrev Sv:=Rg [A 3 0]
abbrev TJ:=Rg [C 2 (Q 1)]
abbrev S7:=Rg [C 2 (Q 0)]
def yd:ae:=⟨1,[.tmp 2],
 (.seq Sp
 (.seq (.seq Sv
 (.cond (.m 3)
 (.seq TJ
 .ret)
 .skip))
 (.seq S7
 .ret)))⟩
abbrev Pe:=Rg [C 2 (Q 0),Z [2]]
abbrev PN:=Rg [A 3 0]
abbrev QJ:=Rg [C 2 (Q 4)]
abbrev Py:=Rg [C 2 (Q 3)]
def wV:ae:=⟨1,[.tmp 2],
 (.seq Pe
 (.seq (.seq PN
 (.cond (.m 3)
 (.seq QJ
 .ret)
 .skip))
 (.seq Py
 .ret)))⟩
abbrev Up:=Rg [C 4 ff,Z [4]]
abbrev SA:=Rg [A 6 1,P 7 .sub 6 1,V 8 (.bin .shl (Q 1) (.m 7)),V 5 (.alloc [O]),Yd 1 5 8]
abbrev TK:=Rg [A 9 0,V 10 (.mkfn nk [] [.m 5]),V 11 (.calli cj [.m 9,.m 10]),V 12 (.un .not (.m 11)),A 4 12]
def yJ:ae:=⟨2,[.tmp 4],
 (.seq Up
 (.seq SA
 (.seq TK
 .ret)))⟩
abbrev Pb:=Rg [V 4 (.mov (.c (.nl))),C 5 (Q 0),Z [4,5]]
abbrev OG:=Rg [B 11 0,P 12 .lss 11 0,A 13 12,U 13 14 (.mov (.s 0)),U 13 15 (.bin .gtr (.s 14) (Q 11)),V 16 (.pick (.m 13) tt (.s 15)),Z [14,15]]
abbrev Pu:=Rg [V 4 (.mov (.c (.nl))),C 5 (Q 2)]
abbrev OA:=Rg [A 17 0,V 18 (.bin .sub (Q 11) (.m 17)),P 19 .quo 18 2,V 20 (.bin .add (Q 3) (.m 19)),A 6 20,C 7 (Q 256),C 8 (Q 256)]
abbrev Qk:=Rg [A 21 1]
abbrev Qm:=Rg [C 7 (Q 32),C 8 (Q 64)]
abbrev Pc:=Rg [V 9 (.mov (.c (.nl)))]
abbrev QF:=Rg [C 10 (Q 0)]
abbrev Pg:=Rg [A 22 9,B 23 10,V 24 (.mks 1 [.m 23]),V 25 (.app 1 (.m 22) (.m 24)),A 9 25]
abbrev PY:=Rg [B 26 10,B 27 7,L 28 .lss 26 27]
abbrev L3:=Rg [B 29 7,B 30 10,P 31 .add 30 4,A 32 10,B 33 6,L 34 .mul 32 33,B 35 8,L 36 .quo 34 35,V 37 (.bin .mul (Q 4) (.m 36)),L 38 .add 31 37,V 39 (.minmax false [.m 29,.m 38]),A 10 39]
abbrev MM:=Rg [A 40 9,A 4 40,C 5 (Q 0)]
def wJ:ae:=⟨2,[.tmp 4,.tmp 5],
 (.seq Pb
 (.scope
 (.seq (.seq OG
 (.cond (.m 16)
 (.seq (K [0,1]) (.seq Pu
 .ret))
 .skip))
 (.seq OA
 (.seq (.seq Qk
 (.cond (.m 21)
 (.seq (K [7,8]) Qm)
 .skip))
 (.seq Pc
 (.seq QF
 (.seq (.label 0)
 (.seq Pg
 (.seq (.seq PY
 (.cond (.m 28)
 (.seq L3
 (.goto 0))
 (.seq (K [6,7,8,10]) .skip)))
 (.seq MM
 .ret)))))))))))⟩
abbrev Pw:=Rg [C 5 (Q 0)]
abbrev OL:=Rg [M 14 1,V 15 (.len (.s 14)),C 16 (Q 0)]
abbrev QO:=Rg [J 17 .lss 16 15]
abbrev Pi:=Rg [B 18 16,V 19 (.ia 1 (.s 14) (.s 16)),M 20 19,A 6 18,A 7 20]
abbrev Qo:=Rg [C 8 (Q 0)]
abbrev Oy:=Rg [A 21 7,V 22 (.len (.s 21)),C 23 (Q 0)]
abbrev OT:=Rg [J 24 .lss 23 22]
abbrev P0:=Rg [V 25 (.ia 2 (.s 21) (.s 23)),V 26 (.ld (some 2) 0 (.m 25)),V 10 (.alloc [O,O]),Yd 2 10 26]
abbrev PI:=Rg [B 27 8,X 28 1 10,M 29 28,L 30 .add 27 29,A 11 30]
abbrev PG:=Rg [B 31 8,B 32 11,L 33 .lss 31 32]
abbrev M9:=Rg [X 36 0 10,M 37 36,P 38 .eql 37 0,A 39 38,U 39 40 (.fa 0 (.s 10)),U 39 41 (.ld none 0 (.s 40)),U 39 42 (.bin .eql (.s 41) (Q 13)),V 43 (.pick (.m 39) tt (.s 42)),Z [40,41,42]]
abbrev LR:=Rg [B 44 5,A 12 44]
abbrev K7:=Rg [B 45 12,B 46 5,X 47 3 2,M 48 47,B 49 6,V 50 (.ia 1 (.m 48) (.m 49)),M 51 50,L 52 .add 46 51,L 53 .lss 45 52]
abbrev Ly:=Rg [G 56 3,B 57 8,V 58 (.ia 1 (.m 56) (.m 57)),M 59 58,A 13 59]
abbrev Km:=Rg [B 60 13,G 61 3,B 62 8,P 63 .add 62 1,V 64 (.ia 1 (.m 61) (.m 63)),M 65 64,L 66 .lss 60 65]
abbrev zW:=[B 72 0,X 73 0 10,M 74 73,B 75 12,P 76 .mul 75 32,B 77 13,L 78 .add 76 77,B 79 12,P 80 .mul 79 32,B 81 13,L 82 .add 80 81,X 83 0 10,M 84 83,H 85 DR [.m 84],L 86 .add 82 85,V 87 (.build [O,O,O] [(0,1,.m 74),(1,1,.m 78),(2,1,.m 86)]),V 88 (.callv (.m 72) [.m 87]),V 89 (.un .not (.m 88))]
def xz:VC:=.regP (.range 18) (.range 18) [] zW
abbrev LG:=Rg [A 67 13,X 68 0 10,M 69 68,H 70 DR [.m 69],L 71 .add 67 70,A 13 71]
def dz:VC:=(.seq (.seq Km
 (.cond (.m 66)
 .skip
 (.seq (K [13]) (.exit 8))))
 (.seq (.block 9
 (.seq xz
 (.cond (.m 89)
 (.seq (.seq (K [0,2,3,5,6,8,11,12,13,14,15,16,21,22,23]) (F 10)) .ret)
 .skip)))
 LG))
abbrev L8:=Rg [A 54 12,P 55 .add 54 1,A 12 55]
def ef:VC:=(.seq (.seq K7
 (.cond (.m 53)
 .skip
 (.seq (K [12]) (.exit 6))))
 (.seq (.block 7
 (.seq Ly
 (.block 8
 (.seq (.loop dz) (K [13])))))
 L8))
abbrev Mr:=Rg [A 34 8,P 35 .add 34 1,A 8 35]
def cL:VC:=(.seq (.seq PG
 (.cond (.m 33)
 .skip
 (.seq (.seq (K [11]) (F 10)) (.exit 4))))
 (.seq (.block 5
 (.seq (.seq M9
 (.cond (.m 43)
 (.exit 5)
 .skip))
 (.seq LR
 (.block 6
 (.seq (.loop ef) (K [12]))))))
 Mr))
abbrev KG:=Rg [P 90 .add 23 1,A 23 90]
def ed:VC:=(.seq OT
 (.seq (.cond (.m 24)
 .skip
 (.seq (K [8,21,22,23]) (.exit 2)))
 (.seq (.block 3
 (.seq P0
 (.seq PI
 (.block 4
 (.seq (.loop cL) (.seq (K [11]) (F 10)))))))
 KG)))
abbrev LM:=Rg [A 91 5,X 92 3 2,M 93 92,A 94 6,V 95 (.ia 1 (.m 93) (.m 94)),M 96 95,L 97 .add 91 96,A 5 97]
abbrev MG:=Rg [P 98 .add 16 1,A 16 98]
def ec:VC:=(.seq QO
 (.seq (.cond (.m 17)
 .skip
 (.seq (K [0,2,3,5,14,15,16]) (.exit 0)))
 (.seq (.block 1
 (.seq Pi
 (.seq Qo
 (.seq (.seq Oy
 (.block 2
 (.seq (.loop ed) (K [8,21,22,23]))))
 LM))))
 MG)))
def wa:ae:=⟨4,[],
 (.seq Pw
 (.seq OL
 (.block 0
 (.seq (.loop ec) (K [0,2,3,5,14,15,16])))))⟩
abbrev ajM:=Rg [C 2 (Q 0),Z [2]]
abbrev ajb:=Rg [A 3 0,P 4 .lss 3 5]
abbrev akA:=Rg [C 2 (Q 4)]
abbrev ain:=Rg [C 2 (Q 2)]
def Mq:ae:=⟨1,[.tmp 2],
 (.seq ajM
 (.seq (.seq ajb
 (.cond (.m 4)
 (.seq akA
 .ret)
 .skip))
 (.seq ain
 .ret)))⟩
abbrev aec:=Rg [C 4 ff,C 5 (Q 0),Z [4,5]]
abbrev adA:=Rg [B 8 0,P 9 .lss 8 1,A 10 9,U 10 11 (.mov (.s 0)),U 10 12 (.bin .gtr (.s 11) (Q 11)),V 13 (.pick (.m 10) tt (.s 12)),A 7 13,Z [11,12]]
abbrev ad8:=Rg [C 4 ff,C 5 (Q 2)]
abbrev ZZ:=Rg [B 15 1,V 16 (.len (.m 15)),B 17 0,H 18 IA [.m 17],L 19 .neq 16 18,A 14 19]
abbrev ZP:=Rg [C 4 ff,C 5 (Q 4)]
abbrev aby:=Rg [H 20 Dv [],A 21 0,V 22 (.ix 13 1 false (.m 20) (.m 21)),V 6 (.alloc [O]),Yd 1 6 22]
abbrev adv:=Rg [A 23 1,V 24 (.mkfn qk [] [.m 6]),V 25 (.calli cj [.m 23,.m 24]),V 26 (.un .not (.m 25)),A 4 26,C 5 (Q 0)]
def Fb:ae:=⟨2,[.tmp 4,.tmp 5],
 (.seq aec
 (.seq (.block 0
 (.seq adA
 (.cond (.m 7)
 (.seq (K [0,1]) (.seq ad8
 .ret))
 (.seq ZZ
 (.cond (.m 14)
 (.seq (K [0,1]) (.seq ZP
 .ret))
 .skip)))))
 (.seq aby
 (.seq adv
 .ret))))⟩
abbrev Qr:=Rg [V 1 (.box (.m 0)),C 2 (Q 0),Z [2]]
abbrev Ol:=Rg [V 6 (.ld (some 4) 0 (.s 1)),H 7 mI [.m 6,Q 0],A 5 7,E 8 5 true 0,E 9 5 false 1,A 3 8,A 4 9,Z [3,5]]
abbrev Ph:=Rg [B 10 4,P 11 .neq 10 0]
abbrev OM:=Rg [A 12 4,A 2 12]
abbrev Od:=Rg [X 13 0 1,M 14 13,P 15 .gtr 14 11]
abbrev QD:=Rg [C 2 (Q 2)]
abbrev Oo:=Rg [C 2 (Q 0)]
def acV:ae:=⟨1,[.tmp 2],
 (.seq Qr
 (.seq (.seq Ol
 (.seq Ph
 (.cond (.m 11)
 (.seq (F 1) (.seq OM
 .ret))
 (.seq (K [4]) .skip))))
 (.seq (.seq (.seq Od (F 1))
 (.cond (.m 15)
 (.seq QD
 .ret)
 .skip))
 (.seq Oo
 .ret))))⟩
abbrev SH:=Rg [C 2 ff,Z [2]]
abbrev TS:=Rg [B 3 0,P 4 .lss 3 3,A 5 4,U 5 6 (.mov (.s 0)),U 5 7 (.bin .eql (.s 6) (Q 5)),V 8 (.pick (.m 5) tt (.s 7)),A 9 8,U 9 10 (.mov (.s 0)),U 9 11 (.bin .eql (.s 10) (Q 6)),V 12 (.pick (.m 9) tt (.s 11)),A 2 12,Z [0,6,7,10,11]]
def ahu:ae:=⟨1,[.tmp 2],
 (.seq SH
 (.seq TS
 .ret))⟩
abbrev Vi:=Rg [C 4 (Q 0),C 5 (Q 0),Z [4,5]]
abbrev Vy:=Rg [A 12 0,H 13 xr [.m 12],A 11 13,E 14 11 true 0,E 15 11 false 1,V 6 (.alloc [O,O,O,O]),Yd 4 6 14,A 7 15,Z [11]]
abbrev Ys:=Rg [B 17 7,P 18 .neq 17 0,A 16 18]
abbrev Yk:=Rg [A 19 7,C 4 (Q 0),A 5 19]
abbrev XQ:=Rg [B 21 1,V 22 (.len (.m 21)),X 23 0 6,M 24 23,L 25 .neq 22 24,A 20 25]
abbrev VX:=Rg [C 4 (Q 0),C 5 (Q 4)]
abbrev V3:=Rg [C 8 (Q 0)]
abbrev VF:=Rg [A 26 1,V 27 (.len (.s 26)),C 28 (Q 0)]
abbrev VE:=Rg [J 29 .lss 28 27]
abbrev YO:=Rg [V 30 (.ia 1 (.s 26) (.s 28)),M 31 30,A 10 31]
abbrev SR:=Rg [B 32 10,X 33 1 6,M 34 33,L 35 .lss 32 34,A 36 35,U 36 37 (.mov (.s 10)),U 36 38 (.fa 2 (.s 6)),U 36 39 (.ld none 0 (.s 38)),U 36 40 (.bin .gtr (.s 37) (.s 39)),V 41 (.pick (.m 36) tt (.s 40)),Z [37,38,39,40]]
abbrev So:=Rg [C 4 (Q 0),C 5 (Q 2)]
abbrev Uq:VC:=(.reg true [
 A 42 8,
 V 43 (.ld (some 4) 0 (.s 6)),
 H 44 gC [.m 43],
 L 45 .mul 42 44,
 A 46 10,
 L 47 .add 45 46,
 X 48 1 6,
 M 49 48,
 L 50 .sub 47 49,
 A 8 50])
abbrev SK:=Rg [P 51 .add 28 1,A 28 51]
def nf:VC:=(.seq VE
 (.seq (.cond (.m 29)
 .skip
 (.seq (.seq (K [26,27,28]) (F 6)) (.exit 1)))
 (.seq (.block 2
 (.seq YO
 (.seq (.seq SR
 (.cond (.m 41)
 (.seq (.seq (K [8,10,26,27,28]) (F 6)) (.seq So
 .ret))
 .skip))
 Uq)))
 SK)))
abbrev SJ:=Rg [A 52 8,A 4 52,C 5 (Q 0)]
def BH:ae:=⟨2,[.tmp 4,.tmp 5],
 (.seq Vi
 (.seq Vy
 (.seq (.block 0
 (.seq Ys
 (.cond (.m 16)
 (.seq (.seq (K [1]) (F 6)) (.seq Yk
 .ret))
 (.seq (K [7]) (.seq XQ
 (.cond (.m 20)
 (.seq (.seq (K [1]) (F 6)) (.seq VX
 .ret))
 .skip))))))
 (.seq V3
 (.seq (.seq VF
 (.block 1
 (.seq (.loop nf) (.seq (K [26,27,28]) (F 6)))))
 (.seq SJ
 .ret))))))⟩
abbrev aaE:=Rg [V 2 (.box (.m 0)),V 4 (.mov (.c (.nl))),C 5 (Q 0),Z [4,5]]
abbrev abT:=Rg [V 11 (.ld (some 4) 0 (.s 2)),H 12 nM [.m 11],V 13 (.un .not (.m 12))]
abbrev ZL:=Rg [V 4 (.mov (.c (.nl))),C 5 (Q 8)]
abbrev abS:=Rg [B 14 1,P 15 .lss 14 0,A 16 15,U 16 17 (.mov (.s 1)),U 16 18 (.fa 3 (.s 2)),U 16 19 (.ld none 0 (.s 18)),U 16 20 (.len (.s 19)),U 16 21 (.bin .geq (.s 17) (.s 20)),V 22 (.pick (.m 16) tt (.s 21)),Z [17,18,19,20,21]]
abbrev ZV:=Rg [V 4 (.mov (.c (.nl))),C 5 (Q 2)]
abbrev aaN:=Rg [X 23 3 2,M 24 23,A 25 1,V 26 (.ia 1 (.m 24) (.m 25)),M 27 26,A 6 27]
abbrev adY:=Rg [B 28 6,X 29 1 2,M 30 29,L 31 .shr 28 30,P 32 .add 31 1,A 7 32]
abbrev Zv:=Rg [B 33 7,V 34 (.conv .u64 (.m 33)),H 35 nu [.m 34],A 8 35]
abbrev ac7:=Rg [A 37 7,A 38 8,V 39 (.bin .mul (Q 2) (.m 38)),P 40 .sub 39 1,H 41 dU [.c (.nl),.m 37,.m 40],A 36 41,E 42 36 true 0,E 43 36 false 1,A 9 42,A 10 43,Z [10,36]]
abbrev JI:=[A 44 9,A 45 6,X 46 1 2,M 47 46,V 48 (.bin .shl (Q 1) (.m 47)),P 49 .sub 48 1,L 50 .and 45 49,X 51 1 2,M 52 51,H 53 dU [.m 44,.m 50,.m 52],E 54 53 true 0,E 55 53 false 1,A 4 54,A 5 55]
def FW:VC:=.regP (.range 14) (.range 14) [] JI
def Fh:ae:=⟨2,[.tmp 4,.tmp 5],
 (.seq aaE
 (.seq (.seq abT
 (.cond (.m 13)
 (.seq (.seq (K [1]) (F 2)) (.seq ZL
 .ret))
 .skip))
 (.seq (.seq abS
 (.cond (.m 22)
 (.seq (.seq (K [1]) (F 2)) (.seq ZV
 .ret))
 .skip))
 (.seq aaN
 (.seq adY
 (.seq Zv
 (.seq ac7
 (.seq (.seq FW (.seq (K [53]) (F 2)))
 .ret))))))))⟩
abbrev A7:=Rg [V 2 (.mov (.c (.nl))),Z [2]]
abbrev CP:=Rg [C 3 (Q 0)]
abbrev CC:=Rg [B 9 0,V 10 (.len (.s 9)),C 11 (Q 0)]
abbrev Bg:=Rg [J 12 .lss 11 10]
abbrev Co:=Rg [V 13 (.ia 1 (.s 9) (.s 11)),M 14 13,A 5 14]
abbrev AN:=Rg [A 15 3,A 16 5,V 17 (.len (.m 16)),L 18 .add 15 17,A 3 18]
abbrev CR:=Rg [B 19 3,P 20 .lss 19 0]
abbrev Ck:=Rg [V 21 (.bad ),N (.bad )]
abbrev Bj:=Rg [P 22 .add 11 1,A 11 22]
def fI:VC:=(.seq Bg
 (.seq (.cond (.m 12)
 .skip
 (.seq (K [9,10,11]) (.exit 0)))
 (.seq (.block 1
 (.seq Co
 (.seq AN
 (.seq CR
 (.cond (.m 20)
 Ck
 .skip)))))
 Bj)))
abbrev BE:=Rg [A 23 3,V 24 (.calli nb [.c (.nl),.m 23]),A 6 24]
abbrev Ap:=Rg [A 25 0,V 26 (.len (.s 25)),C 27 (Q 0)]
abbrev zX:=Rg [J 28 .lss 27 26]
abbrev Ao:=Rg [V 29 (.ia 1 (.s 25) (.s 27)),M 30 29,A 8 30]
abbrev Aw:=Rg [A 31 6,A 32 8,V 33 (.app 1 (.m 31) (.m 32)),A 6 33]
abbrev Am:=Rg [P 34 .add 27 1,A 27 34]
def dS:VC:=(.seq zX
 (.seq (.cond (.m 28)
 .skip
 (.seq (K [25,26,27]) (.exit 2)))
 (.seq (.block 3
 (.seq Ao
 Aw))
 Am)))
abbrev Ai:=Rg [A 35 6,A 2 35]
def lD:ae:=⟨1,[.tmp 2],
 (.seq A7
 (.seq CP
 (.seq (.seq CC
 (.block 0
 (.seq (.loop fI) (K [9,10,11]))))
 (.seq BE
 (.seq (.seq Ap
 (.block 2
 (.seq (.loop dS) (K [25,26,27]))))
 (.seq Ai
 .ret))))))⟩
abbrev aei:=Rg [C 2 (Q 0),Z [2]]
abbrev aba:=Rg [B 3 0,A 4 0,V 5 (.un .neg (.m 4)),V 6 (.minmax true [.m 3,.m 5]),A 2 6]
def D9:ae:=⟨1,[.tmp 2],
 (.seq aei
 (.seq aba
 .ret))⟩
abbrev Lb:=Rg [C 2 (Q 0),Z [2]]
abbrev MY:=Rg [A 3 0,V 4 (.conv .u32 (.m 3)),H 5 OR [.m 4],A 2 5]
abbrev Mz:=Rg [A 6 0,H 7 pt [.m 6],A 2 7]
def uN:ae:=⟨1,[.tmp 2],
 (.seq Lb
 (.seq (.cond ff
 (.seq MY
 .ret)
 .skip)
 (.seq Mz
 .ret)))⟩
abbrev BL:=Rg [V 4 (.mov (.c (.nl))),Z [4]]
abbrev Cv:=Rg [B 9 1,P 10 .lss 9 0]
abbrev Bs:=Rg [V 11 (.bad ),N (.bad )]
abbrev BK:=Rg [B 13 0,V 14 (.len (.m 13)),V 15 (.conv .u64 (.m 14)),A 16 1,V 17 (.conv .u64 (.m 16)),H 18 Zj [.m 15,.m 17],A 12 18,E 19 12 false 0,E 20 12 false 1,A 5 19,A 6 20,Z [12]]
abbrev Cx:=Rg [A 21 5,V 22 (.bin .gtr (.m 21) (.c (.d (.int .u64 0)))),A 23 22,U 23 24 (.mov (.s 6)),U 23 25 (.bin .gtr (.s 24) (.c (.d (.int .u64 9223372036854775807)))),V 26 (.pick (.m 23) tt (.s 25)),Z [24,25]]
abbrev Bo:=Rg [V 27 (.bad ),N (.bad )]
abbrev Cb:=Rg [A 28 6,V 29 (.conv .i64 (.m 28)),⟨some 30,none,.mkslice [.int .u8 0] (.s 29) (.s 29),[(0,0)]⟩,A 7 30,Z [29]]
abbrev B9:=Rg [B 31 7,A 32 0,V 33 (.cpy 1 (.m 31) (.m 32)),A 8 33]
abbrev BS:=Rg [B 34 8,B 35 7,V 36 (.len (.m 35)),L 37 .lss 34 36]
abbrev CU:=[B 38 8,B 39 7,B 40 8,V 41 (.slice 1 (.m 39) (some (.m 40)) none none),B 42 7,B 43 8,V 44 (.slice 1 (.m 42) none (some (.m 43)) none),V 45 (.cpy 1 (.m 41) (.m 44)),L 46 .add 38 45,A 8 46]
def Cw:VC:=.regP (.range 10) (.range 10) [] CU
def Bx:VC:=(.seq (.seq BS
 (.cond (.m 37)
 .skip
 (.seq (K [8]) (.exit 0))))
 (.block 1
 Cw))
abbrev z5:=Rg [A 47 7,A 4 47]
def GZ:ae:=⟨2,[.tmp 4],
 (.seq BL
 (.seq (.seq Cv
 (.cond (.m 10)
 Bs
 .skip))
 (.seq BK
 (.seq (.seq Cx
 (.cond (.m 26)
 Bo
 .skip))
 (.seq Cb
 (.seq B9
 (.seq (.block 0
 (.seq (.loop Bx) (K [8])))
 (.seq z5
 .ret))))))))⟩
abbrev ahE:=Rg [V 2 (.alloc [O,O,.nl,.nl]),C 3 (Q 0),Z [3]]
abbrev agn:=Rg [B 12 0,H 13 xr [.m 12],A 11 13,E 14 11 true 0,E 15 11 false 1,V 4 (.alloc [O,O,O,O]),Yd 4 4 14,A 5 15,Z [11]]
abbrev agT:=Rg [B 16 5,P 17 .neq 16 0]
abbrev agN:=Rg [V 18 (.build [O,O,.nl,.nl] []),A 19 5,Yd 4 2 18,A 3 19]
abbrev Kv:=[A 20 0,X 21 3 4,M 22 21,V 23 (.ld (some 4) 0 (.s 4)),H 24 eQ [.m 23],V 26 (.ld (some 4) 0 (.s 4)),H 27 eQ [.m 26],⟨some 25,none,.mkslice [.int .i64 0] (.s 24) (.s 24),[(0,0)]⟩,⟨some 28,none,.mkslice [.int .i64 0] (.s 27) (.s 27),[(0,0)]⟩,V 29 (.build [O,O,.nl,.nl] [(0,1,.m 20),(1,1,.m 22),(2,1,.m 25),(3,1,.m 28)]),V 6 (.alloc [O,O,.nl,.nl]),Yd 4 6 29]
def JF:VC:=.regP [0,1,2,3,4,6,7,5,8,9,10,11] (.range 12) [] (unp [0,1,2,3,4,7,5,6,8,9,10,11] Kv)
def zA:=Rg [V 30 (.ld (some 4) 1 (.s 4)),H 31 dw [.m 30],V 7 (.alloc [O8,O8,O8,O8,O8,O8,O8,O8,O8,O8,O8,O8,O8,O8,O8,O8,O8,O8,O8,O8,O8,O8,O8,O8,O8,O8,O8,O8,O8,O8,O8,O8,O8,O8,O8,O8,O8,O8,O8,O8,O8,O8,O8,O8,O8,O8,O8,O8,O8,O8,O8,O8,O8,O8,O8,O8,O8,O8,O8,O8,O8,O8,O8,O8,O8,O8,O8,O8,O8,O8,O8,O8,O8,O8,O8,O8,O8,O8,O8,O8,O8,O8,O8,O8,O8,O8,O8,O8,O8,O8,O8,O8,O8,O8,O8,O8,O8,O8,O8,O8,O8,O8,O8,O8,O8,O8,O8,O8,O8,O8,O8,O8,O8,O8,O8,O8,O8,O8,O8,O8,O8,O8,O8,O8,O8,O8,O8,O8,O8,O8,O8,O8,O8,O8,O8,O8,O8,O8,O8,O8,O8,O8,O8,O8,O8,O8,O8,O8,O8,O8,O8,O8,O8,O8,O8,O8,O8,O8,O8,O8,O8,O8,O8,O8,O8,O8,O8,O8,O8,O8,O8,O8,O8,O8,O8,O8,O8,O8,O8,O8,O8,O8,O8,O8,O8,O8,O8,O8,O8,O8,O8,O8,O8,O8,O8,O8,O8,O8,O8,O8,O8,O8,O8,O8,O8,O8,O8,O8,O8,O8,O8,O8,O8,O8,O8,O8,O8,O8,O8,O8,O8,O8,O8,O8,O8,O8,O8,O8,O8,O8,O8,O8,O8,O8,O8,O8,O8,O8,O8,O8,O8,O8,O8,O8,O8,O8,O8,O8,O8,O8,O8,O8,O8,O8,O8,O8,O8,O8,O8,O8,O8,O8,O8,O8,O8,O8,O8,O8,O8,O8,O8,O8,O8,O8,O8,O8,O8,O8,O8,O8,O8,O8,O8,O8,O8,O8,O8,O8,O8]),Yd 289 7 31]
abbrev agz:=Rg [X 32 2 6,M 33 32,V 34 (.len (.m 33)),C 35 (Q 0)]
abbrev agQ:=Rg [J 36 .lss 35 34]
abbrev afK:=Rg [B 37 35,A 8 37]
abbrev agu:=Rg [X 38 2 6,M 39 38,B 40 8,A 41 8,V 42 (.ia 1 (.m 39) (.m 40)),N (.st 1 (.m 42) (.m 41))]
abbrev abf:=Rg [P 43 .add 35 1,A 35 43]
def ql:VC:=(.seq agQ
 (.seq (.cond (.m 36)
 .skip
 (.seq (K [34,35]) (.exit 0)))
 (.seq (.block 1
 (.seq afK
 agu))
 abf)))
abbrev ab3:=Rg [X 44 2 6,M 45 44,V 46 (.mkfn uc [] [.m 7]),V 47 (.calli gD [.m 45,.m 46]),Z [47]]
abbrev aaf:=Rg [X 48 2 6,M 49 48,V 50 (.len (.s 49)),C 51 (Q 0)]
abbrev acS:=Rg [J 52 .lss 51 50]
abbrev aay:=Rg [B 53 51,V 54 (.ia 1 (.s 49) (.s 51)),M 55 54,A 9 53,A 10 55]
abbrev Zu:=Rg [X 56 3 6,M 57 56,A 58 10,A 59 9,V 60 (.ia 1 (.m 57) (.m 58)),N (.st 1 (.m 60) (.m 59))]
abbrev ace:=Rg [P 61 .add 51 1,A 51 61]
def qf:VC:=(.seq acS
 (.seq (.cond (.m 52)
 .skip
 (.seq (K [49,50,51]) (.exit 2)))
 (.seq (.block 3
 (.seq aay
 Zu))
 ace)))
abbrev adP:=Rg [V 62 (.ld (some 4) 1 (.s 6)),Yd 4 2 62,C 3 (Q 0)]
def H0:ae:=⟨1,[.cell 2 (some 4),.tmp 3],
 (.seq ahE
 (.seq agn
 (.seq (.seq agT
 (.cond (.m 17)
 (.seq (.seq (K [0]) (F 4)) (.seq agN
 .ret))
 (.seq (K [5]) .skip)))
 (.seq (.seq JF (K [24,27]))
 (.seq (.seq zA (F 4))
 (.seq (.seq agz
 (.block 0
 (.seq (.loop ql) (K [34,35]))))
 (.seq ab3
 (.seq (.seq aaf
 (.block 2
 (.seq (.loop qf) (K [49,50,51]))))
 (.seq (.seq adP (F 6))
 .ret)))))))))⟩
abbrev PR:=Rg [V 1 (.box (.m 0)),C 2 ff,Z [2]]
abbrev QR:=Rg [X 6 0 1,M 7 6,V 8 (.bin .neq (.m 7) (.c (.d (.int .u8 2))))]
abbrev Qw:=Rg [V 9 (.fa 3 (.m 1)),M 10 9,V 11 (.mks 1 [Q 1]),H 12 jJ [.m 10,.m 11],A 2 12]
abbrev Pp:=Rg [C 3 (Q 0)]
abbrev OX:=Rg [X 13 3 1,M 14 13,V 15 (.len (.s 14)),C 16 (Q 0)]
abbrev QI:=Rg [J 17 .lss 16 15]
abbrev Qt:=Rg [V 18 (.ia 1 (.s 14) (.s 16)),M 19 18,A 5 19]
abbrev Qv:=Rg [B 20 5,P 21 .lss 20 1,A 22 21,U 22 23 (.mov (.s 5)),U 22 24 (.bin .gtr (.s 23) (Q 8)),V 25 (.pick (.m 22) tt (.s 24)),Z [23,24]]
abbrev Oj:=Rg [C 2 ff]
abbrev QK:=Rg [A 26 3,A 27 5,L 28 .add 26 27,A 3 28]
abbrev MP:=Rg [P 29 .add 16 1,A 16 29]
def kG:VC:=(.seq QI
 (.seq (.cond (.m 17)
 .skip
 (.seq (K [14,15,16]) (.exit 0)))
 (.seq (.block 1
 (.seq Qt
 (.seq (.seq Qv
 (.cond (.m 25)
 (.seq (K [1,3,5,14,15,16]) (.seq Oj
 .ret))
 .skip))
 QK)))
 MP)))
abbrev K6:=Rg [A 30 3,P 31 .eql 30 8,A 32 31,W 32 33 (.fa 3 (.s 1)),W 32 34 (.ld none 0 (.s 33)),W 32 35 (.len (.s 34)),W 32 36 (.bin .leq (.s 35) (Q 8)),V 37 (.pick (.m 32) (.s 36) ff),A 2 37,Z [1,33,34,35,36]]
def wU:ae:=⟨1,[.tmp 2],
 (.seq PR
 (.seq (.seq QR
 (.cond (.m 8)
 (.seq Qw
 .ret)
 .skip))
 (.seq Pp
 (.seq (.seq OX
 (.block 0
 (.seq (.loop kG) (K [14,15,16]))))
 (.seq K6
 .ret)))))⟩
abbrev abE:=Rg [V 1 (.box (.m 0)),C 2 ff,Z [2]]
abbrev abp:=Rg [V 3 (.ld (some 4) 1 (.m 1)),H 4 dO [Q 11,.m 3],P 5 .eql 4 0,A 2 5]
def Fa:ae:=⟨1,[.tmp 2],
 (.seq abE
 (.seq abp
 .ret))⟩
abbrev aa9:=Rg [C 6 (Q 0),C 7 (Q 0),Z [6,7]]
abbrev ad5:=Rg [B 10 1,P 11 .lss 10 0,A 12 11,U 12 13 (.mov (.s 1)),U 12 14 (.mov (.s 0)),U 12 15 (.len (.s 14)),U 12 16 (.bin .geq (.s 13) (.s 15)),V 17 (.pick (.m 12) tt (.s 16)),A 18 17,U 18 19 (.mov (.s 2)),U 18 20 (.bin .lss (.s 19) (Q 0)),V 21 (.pick (.m 18) tt (.s 20)),Z [13,14,15,16,19,20]]
abbrev aaK:=Rg [C 6 (Q 0),C 7 (Q 2)]
abbrev acW:=Rg [A 22 0,A 23 1,V 24 (.ia 1 (.m 22) (.m 23)),M 25 24,V 26 (.len (.s 25)),C 27 (Q 0)]
abbrev Z4:=Rg [J 28 .lss 27 26]
abbrev aes:=Rg [V 29 (.ia 2 (.s 25) (.s 27)),V 30 (.ld (some 2) 0 (.m 29)),V 9 (.alloc [O,O]),Yd 2 9 30]
abbrev aeo:=Rg [X 31 1 9,M 32 31,P 33 .lss 32 1]
abbrev abq:=Rg [B 34 2,X 35 1 9,M 36 35,L 37 .lss 34 36]
abbrev abX:=Rg [X 38 0 9,M 39 38,A 6 39,C 7 (Q 0)]
abbrev adj:=Rg [A 40 2,X 41 1 9,M 42 41,L 43 .sub 40 42,A 2 43]
abbrev U7:=Rg [P 44 .add 27 1,A 27 44]
def oL:VC:=(.seq Z4
 (.seq (.cond (.m 28)
 .skip
 (.seq (K [2,25,26,27]) (.exit 0)))
 (.seq (.block 1
 (.seq aes
 (.seq (.seq aeo
 (.cond (.m 33)
 (.seq (F 9) (.exit 1))
 .skip))
 (.seq (.seq abq
 (.cond (.m 37)
 (.seq (K [2,25,26,27]) (.seq (.seq abX (F 9))
 .ret))
 .skip))
 (.seq adj (F 9))))))
 U7)))
abbrev Wj:=Rg [C 6 (Q 0),C 7 (Q 2)]
def Eg:ae:=⟨3,[.tmp 6,.tmp 7],
 (.seq aa9
 (.seq (.seq ad5
 (.cond (.m 21)
 (.seq (K [0,1,2]) (.seq aaK
 .ret))
 .skip))
 (.seq (.seq acW
 (.block 0
 (.seq (.loop oL) (K [2,25,26,27]))))
 (.seq Wj
 .ret))))⟩
abbrev ZM:=Rg [C 4 ff,Z [4]]
abbrev ad4:=Rg [B 5 1,B 6 0,P 7 .sub 6 60,L 8 .geq 5 7,A 9 8,W 9 10 (.mov (.s 1)),W 9 11 (.mov (.s 0)),W 9 12 (.bin .add (.s 11) (Q 60)),W 9 13 (.bin .leq (.s 10) (.s 12)),V 14 (.pick (.m 9) (.s 13) ff),A 4 14,Z [0,1,10,11,12,13]]
def Fg:ae:=⟨2,[.tmp 4],
 (.seq ZM
 (.seq ad4
 .ret))⟩
abbrev rI:=Rg [C 4 ff,Z [4]]
abbrev q9:=Rg [A 5 0,A 6 1,V 7 (.calli iO [.m 5,.m 6]),P 8 .geq 7 0,A 4 8]
def gk:ae:=⟨2,[.tmp 4],
 (.seq rI
 (.seq q9
 .ret))⟩
abbrev Kf:=Rg [V 3 (.box (.m 0)),C 4 ff,Z [4]]
abbrev JY:VC:=(.reg true [
 V 5 (.ld (some 5) 0 (.s 3)),
 M 6 1,
 H 7 yG [.m 5,.m 6],
 V 8 (.un .not (.m 7)),
 A 9 8,
 U 9 10 (.fa 3 (.s 3)),
 U 9 11 (.ld none 0 (.s 10)),
 U 9 12 (.ld none 0 (.s 2)),
 U 9 13 (.ia 5 (.s 12) (Q 0)),
 U 9 14 (.fa 3 (.s 13)),
 U 9 15 (.ld none 0 (.s 14)),
 U 9 16 (.binb true (.s 11) (.s 15)),
 V 17 (.pick (.s 9) tt (.s 16)),
 A 4 17])
def rX:ae:=⟨3,[.tmp 4],
 (.seq Kf
 (.seq (.seq JY (.seq (K [2,9,10,11,12,13,14,15,16]) (F 3)))
 .ret))⟩
abbrev RY:=Rg [V 2 (.box (.m 0)),C 4 ff,Z [4]]
abbrev UO:=Rg [C 5 (Q 63),C 6 (Q 12)]
abbrev TE:=Rg [A 9 1]
abbrev Uh:=Rg [C 5 (Q 15),C 6 (Q 7)]
abbrev Ud:=Rg [X 10 0 2,M 11 10,P 12 .lss 11 0,A 13 12,U 13 14 (.fa 0 (.s 2)),U 13 15 (.ld none 0 (.s 14)),U 13 16 (.mov (.s 5)),U 13 17 (.bin .gtr (.s 15) (.s 16)),V 18 (.pick (.m 13) tt (.s 17)),A 19 18,U 19 20 (.fa 1 (.s 2)),U 19 21 (.ld none 0 (.s 20)),U 19 22 (.bin .lss (.s 21) (Q 0)),V 23 (.pick (.m 19) tt (.s 22)),A 24 23,U 24 25 (.fa 1 (.s 2)),U 24 26 (.ld none 0 (.s 25)),U 24 27 (.mov (.s 6)),U 24 28 (.bin .gtr (.s 26) (.s 27)),V 29 (.pick (.m 24) tt (.s 28)),A 30 29,U 30 31 (.fa 4 (.s 2)),U 30 32 (.ld none 0 (.s 31)),U 30 33 (.len (.s 32)),U 30 34 (.fa 1 (.s 2)),U 30 35 (.ld none 0 (.s 34)),U 30 36 (.bin .neq (.s 33) (.s 35)),V 37 (.pick (.m 30) tt (.s 36)),A 38 37,U 38 39 (.fa 1 (.s 2)),U 38 40 (.ld none 0 (.s 39)),U 38 41 (.bin .eql (.s 40) (Q 0)),U 38 42 (.mov (.s 41)),W 42 43 (.fa 2 (.s 2)),W 42 44 (.ld none 0 (.s 43)),U 38 45 (.pick (.s 42) (.s 44) ff),V 46 (.pick (.m 38) tt (.s 45)),Z [5,6,14,15,16,17,20,21,22,25,26,27,28,31,32,33,34,35,36,39,40,41,42,43,44,45]]
abbrev UN:=Rg [C 4 ff]
abbrev Ul:=Rg [V 7 (.alloc [O]),V 8 (.alloc [O]),N (.st 1 (.s 7) (Q (-4))),N (.st 1 (.s 8) (Q 3))]
abbrev Ux:=Rg [X 47 3 2,M 48 47]
abbrev SV:=Rg [N (.st 1 (.s 7) (Q (-8))),N (.st 1 (.s 8) (Q 7))]
abbrev SD:=Rg [X 49 4 2,M 50 49,V 51 (.mkfn kf [] [.m 7,.m 8]),V 52 (.calli cj [.m 50,.m 51]),V 53 (.un .not (.m 52)),A 4 53]
def yS:ae:=⟨2,[.tmp 4],
 (.seq RY
 (.seq UO
 (.seq (.seq TE
 (.cond (.m 9)
 (.seq (K [5,6]) Uh)
 .skip))
 (.seq (.seq Ud
 (.cond (.m 46)
 (.seq (F 2) (.seq UN
 .ret))
 .skip))
 (.seq Ul
 (.seq (.seq Ux
 (.cond (.m 48)
 SV
 .skip))
 (.seq (.seq SD (F 2))
 .ret)))))))⟩
abbrev aao:=Rg [C 4 ff,Z [4]]
abbrev adS:=Rg [A 8 1,V 9 (.mks 1 [.m 8,Q 0,Q 0,Q 0]),A 5 9]
abbrev ad3:=Rg [B 10 0,P 11 .gtr 10 4]
abbrev abm:=Rg [A 12 5,V 13 (.slice 1 (.m 12) none (some (Q 2)) none),A 5 13]
abbrev adZ:=Rg [A 15 0,A 16 5,H 17 xl [.m 15,.m 16],A 14 17,E 18 14 false 0,E 19 14 false 1,A 6 18,A 7 19,Z [14]]
abbrev acH:=Rg [A 20 7,P 21 .eql 20 0,A 22 21,W 22 23 (.mov (.s 6)),V 24 (.pick (.m 22) (.s 23) ff),A 4 24,Z [6,23]]
def Ej:ae:=⟨2,[.tmp 4],
 (.seq aao
 (.seq adS
 (.seq (.seq ad3
 (.cond (.m 11)
 abm
 .skip))
 (.seq adZ
 (.seq acH
 .ret)))))⟩
def mW:ae:=⟨1,[.tmp 2],
 (.clone 1)⟩
abbrev XO:=Rg [C 5 (Q 0)]
abbrev W9:=Rg [G 6 1,P 7 .eql 6 0]
abbrev Ya:=Rg [M 9 2,G 10 3,A 11 0,H 12 cy [.m 9,.m 10,.m 11],A 8 12,E 13 8 false 0,E 14 8 false 1,E 15 8 false 2,A 5 13,N (.st 1 (.m 3) (.m 14)),N (.st 1 (.m 1) (.m 15)),Z [8]]
def Cn:ae:=⟨4,[.tmp 5],
 (.seq XO
 (.seq (.seq W9
 (.cond (.m 7)
 (.seq (K [5]) Ya)
 (.seq (K [0,1,2,3]) .skip)))
 .ret))⟩
abbrev X5:=Rg [V 2 (.box (.m 0)),C 4 ff,Z [4]]
abbrev Xj:=Rg [X 5 1 2,M 6 5,P 7 .geq 6 1,A 8 7,W 8 9 (.fa 1 (.s 2)),W 8 10 (.ld none 0 (.s 9)),W 8 11 (.mov (.s 1)),W 8 12 (.bin .leq (.s 10) (.s 11)),V 13 (.pick (.m 8) (.s 12) ff),A 14 13,W 14 15 (.fa 0 (.s 2)),W 14 16 (.ld none 0 (.s 15)),W 14 17 (.bin .geq (.s 16) (Q 0)),V 18 (.pick (.m 14) (.s 17) ff),A 19 18,W 19 20 (.fa 0 (.s 2)),W 19 21 (.ld none 0 (.s 20)),W 19 22 (.bin .leq (.s 21) (Q 11)),W 19 23 (.mov (.s 22)),U 23 24 (.fa 0 (.s 2)),U 23 25 (.ld none 0 (.s 24)),U 23 26 (.bin .eql (.s 25) (Q 13)),W 19 27 (.pick (.s 23) tt (.s 26)),V 28 (.pick (.m 19) (.s 27) ff),A 4 28,Z [1,2,9,10,11,12,15,16,17,20,21,22,23,24,25,26,27]]
def CD:ae:=⟨2,[.tmp 4],
 (.seq X5
 (.seq Xj
 .ret))⟩
abbrev aaO:=Rg [C 4 ff,Z [4]]
abbrev acv:=Rg [B 10 0,P 11 .lss 10 0,A 12 11,U 12 13 (.mov (.s 0)),U 12 14 (.bin .gtr (.s 13) (Q 255)),V 15 (.pick (.m 12) tt (.s 14)),A 16 15,U 16 17 (.mov (.s 1)),U 16 18 (.len (.s 17)),U 16 19 (.bin .gtr (.s 18) (Q 8)),V 20 (.pick (.m 16) tt (.s 19)),Z [0,13,14,17,18,19]]
abbrev aan:=Rg [C 4 ff]
abbrev acl:=Rg [A 21 1,V 22 (.len (.s 21)),C 23 (Q 0)]
abbrev acF:=Rg [J 24 .lss 23 22]
abbrev abd:=Rg [V 25 (.ia 1 (.s 21) (.s 23)),M 26 25,A 6 26]
abbrev aaV:=Rg [C 7 (Q 40)]
abbrev aaJ:=Rg [A 27 6,V 28 (.len (.s 27)),C 29 (Q 0)]
abbrev abi:=Rg [J 30 .lss 29 28]
abbrev acO:=Rg [V 31 (.ia 2 (.s 27) (.s 29)),V 32 (.ld (some 2) 0 (.m 31)),V 9 (.alloc [O,O]),Yd 2 9 32]
abbrev Ww:=Rg [X 33 1 9,M 34 33,P 35 .lss 34 1,A 36 35,U 36 37 (.fa 1 (.s 9)),U 36 38 (.ld none 0 (.s 37)),U 36 39 (.mov (.s 7)),U 36 40 (.bin .gtr (.s 38) (.s 39)),V 41 (.pick (.m 36) tt (.s 40)),A 42 41,U 42 43 (.fa 0 (.s 9)),U 42 44 (.ld none 0 (.s 43)),U 42 45 (.bin .lss (.s 44) (Q 0)),V 46 (.pick (.m 42) tt (.s 45)),A 47 46,U 47 48 (.fa 0 (.s 9)),U 47 49 (.ld none 0 (.s 48)),U 47 50 (.bin .gtr (.s 49) (Q 11)),U 47 51 (.mov (.s 50)),W 51 52 (.fa 0 (.s 9)),W 51 53 (.ld none 0 (.s 52)),W 51 54 (.bin .neq (.s 53) (Q 13)),U 47 55 (.pick (.s 51) (.s 54) ff),V 56 (.pick (.m 47) tt (.s 55)),Z [37,38,39,40,43,44,45,48,49,50,51,52,53,54,55]]
abbrev W1:=Rg [C 4 ff]
abbrev Xg:=Rg [A 57 7,X 58 1 9,M 59 58,L 60 .sub 57 59,A 7 60]
abbrev Wa:=Rg [P 61 .add 29 1,A 29 61]
def pe:VC:=(.seq abi
 (.seq (.cond (.m 30)
 .skip
 (.seq (K [7,27,28,29]) (.exit 2)))
 (.seq (.block 3
 (.seq acO
 (.seq (.seq Ww
 (.cond (.m 56)
 (.seq (.seq (K [7,21,22,23,27,28,29]) (F 9)) (.seq W1
 .ret))
 .skip))
 (.seq Xg (F 9)))))
 Wa)))
abbrev U4:=Rg [P 62 .add 23 1,A 23 62]
def oT:VC:=(.seq acF
 (.seq (.cond (.m 24)
 .skip
 (.seq (K [21,22,23]) (.exit 0)))
 (.seq (.block 1
 (.seq abd
 (.seq aaV
 (.seq aaJ
 (.block 2
 (.seq (.loop pe) (K [7,27,28,29])))))))
 U4)))
abbrev XE:=Rg [C 4 tt]
def E4:ae:=⟨2,[.tmp 4],
 (.seq aaO
 (.seq (.seq acv
 (.cond (.m 20)
 (.seq (K [1]) (.seq aan
 .ret))
 .skip))
 (.seq (.seq acl
 (.block 0
 (.seq (.loop oT) (K [21,22,23]))))
 (.seq XE
 .ret))))⟩
abbrev Pm:=Rg [C 4 (Q 0),C 5 (Q 0),C 6 (Q 0),Z [4,5,6]]
abbrev PK:=Rg [H 13 pb [Q 12],A 12 13,E 14 12 true 0,E 15 12 false 1,V 7 (.alloc [O,O,.nl,.nl]),Yd 4 7 14,A 8 15,Z [8,12]]
abbrev QG:=Rg [V 17 (.ld (some 4) 1 (.s 7)),A 18 0,A 19 1,H 20 xa [.m 17,.m 18,.m 19],A 16 20,E 21 16 false 0,E 22 16 false 1,E 23 16 false 2,A 9 21,A 5 22,A 6 23,Z [16]]
abbrev PZ:=Rg [B 24 6,P 25 .neq 24 0]
abbrev Pn:=Rg [A 26 6,C 4 (Q 0),C 5 (Q 0),A 6 26]
abbrev Pl:=Rg [A 28 9,H 29 qe [Q 12,.m 28],A 27 29,E 30 27 true 0,E 31 27 false 1,A 10 30,A 11 31,Z [11,27]]
abbrev Ql:=Rg [A 32 10,V 33 (.ia 1 (.m 32) (Q 0)),M 34 33,A 35 5,A 4 34,A 5 35,C 6 (Q 0)]
def vT:ae:=⟨2,[.tmp 4,.tmp 5,.tmp 6],
 (.seq Pm
 (.seq PK
 (.seq (.seq QG (F 7))
 (.seq (.seq PZ
 (.cond (.m 25)
 (.seq (K [5,9]) (.seq Pn
 .ret))
 (.seq (K [6]) .skip)))
 (.seq Pl
 (.seq Ql
 .ret))))))⟩
abbrev MA:=Rg [C 5 (Q 0)]
abbrev LD:=Rg [G 6 1,P 7 .eql 6 0]
abbrev Ne:=Rg [M 9 2,G 10 3,A 11 0,H 12 cy [.m 9,.m 10,.m 11],A 8 12,E 13 8 false 0,E 14 8 false 1,E 15 8 false 2,A 5 13,N (.st 1 (.m 3) (.m 14)),N (.st 1 (.m 1) (.m 15)),Z [8]]
def ui:ae:=⟨4,[.tmp 5],
 (.seq MA
 (.seq (.seq LD
 (.cond (.m 7)
 (.seq (K [5]) Ne)
 (.seq (K [0,1,2,3]) .skip)))
 .ret))⟩
abbrev acn:=Rg [V 3 (.box (.m 0)),C 6 (Q 0),C 7 (Q 0),C 8 (Q 0),Z [6,7,8]]
abbrev abc:=Rg [V 14 (.ld (some 4) 0 (.s 3)),H 15 nM [.m 14],V 16 (.un .not (.m 15))]
abbrev acI:=Rg [C 6 (Q 0),C 7 (Q 0),C 8 (Q 8)]
abbrev aee:=Rg [C 9 (Q 0),C 10 (Q 0)]
abbrev adB:=Rg [A 17 2,A 7 17]
abbrev abj:=Rg [A 18 10,P 19 .eql 18 0]
abbrev aaU:=Rg [B 22 9,P 23 .gtr 22 9]
abbrev acm:=Rg [C 6 (Q 0),C 7 (Q 0),C 8 (Q 8)]
abbrev aa5:=Rg [B 25 1,A 26 7,H 27 cy [.m 25,.m 26,Q 1],A 24 27,E 28 24 false 0,E 29 24 false 1,E 30 24 false 2,A 10 28,A 7 29,A 8 30,Z [24]]
abbrev aaI:=Rg [B 31 8,P 32 .neq 31 0]
abbrev XL:=Rg [A 33 8,C 6 (Q 0),C 7 (Q 0),A 8 33]
abbrev XT:=Rg [A 20 9,P 21 .add 20 1,A 9 21]
def lx:VC:=(.seq (.seq abj
 (.cond (.m 19)
 .skip
 (.exit 0)))
 (.seq (.block 1
 (.seq (.seq aaU
 (.cond (.m 23)
 (.seq (.seq (K [1,7,9]) (F 3)) (.seq acm
 .ret))
 .skip))
 (.seq aa5
 (.seq aaI
 (.cond (.m 32)
 (.seq (.seq (K [1,7,9,10]) (F 3)) (.seq XL
 .ret))
 (.seq (K [8]) .skip))))))
 XT))
abbrev W5:=Rg [B 35 1,A 36 7,B 37 9,P 38 .sub 37 1,H 39 cy [.m 35,.m 36,.m 38],A 34 39,E 40 34 false 0,E 41 34 false 1,E 42 34 false 2,A 11 40,A 7 41,A 8 42,Z [34]]
abbrev Xx:=Rg [B 43 8,P 44 .neq 43 0]
abbrev Ws:=Rg [A 45 8,C 6 (Q 0),C 7 (Q 0),A 8 45]
abbrev Y9:=Rg [A 47 1,A 48 7,X 49 1 3,M 50 49,H 51 cy [.m 47,.m 48,.m 50],A 46 51,E 52 46 false 0,E 53 46 false 1,E 54 46 false 2,A 12 52,A 7 53,A 8 54,Z [46]]
abbrev We:=Rg [B 55 8,P 56 .neq 55 0]
abbrev WJ:=Rg [A 57 8,C 6 (Q 0),C 7 (Q 0),A 8 57]
abbrev YH:VC:=(.reg true [
 A 58 9,
 P 59 .sub 58 1,
 V 60 (.bin .shl (Q 1) (.m 59)),
 A 61 11,
 L 62 .add 60 61,
 P 63 .sub 62 1,
 X 64 1 3,
 M 65 64,
 L 66 .shl 63 65,
 A 67 12,
 L 68 .add 66 67,
 A 13 68])
abbrev Dz:=Rg [B 69 13,X 70 2 3,M 71 70,V 72 (.len (.m 71)),L 73 .geq 69 72]
abbrev D3:=Rg [C 6 (Q 0),C 7 (Q 0),C 8 (Q 8)]
abbrev DB:=Rg [X 74 2 3,M 75 74,A 76 13,V 77 (.ia 1 (.m 75) (.m 76)),M 78 77,A 79 7,A 6 78,A 7 79,C 8 (Q 0)]
def Fj:ae:=⟨3,[.tmp 6,.tmp 7,.tmp 8],
 (.seq acn
 (.seq (.seq abc
 (.cond (.m 16)
 (.seq (.seq (K [1,2]) (F 3)) (.seq acI
 .ret))
 .skip))
 (.seq aee
 (.seq (.seq adB
 (.block 0
 (.seq (.loop lx) (K [10]))))
 (.seq W5
 (.seq (.seq Xx
 (.cond (.m 44)
 (.seq (.seq (K [1,7,9,11]) (F 3)) (.seq Ws
 .ret))
 (.seq (K [8]) .skip)))
 (.seq Y9
 (.seq (.seq We
 (.cond (.m 56)
 (.seq (.seq (K [7,9,11,12]) (F 3)) (.seq WJ
 .ret))
 (.seq (K [8]) .skip)))
 (.seq YH
 (.seq (.seq Dz
 (.cond (.m 73)
 (.seq (.seq (K [7,13]) (F 3)) (.seq D3
 .ret))
 .skip))
 (.seq (.seq DB (F 3))
 .ret)))))))))))⟩
abbrev UD:=Rg [V 4 (.mov (.c (.nl))),C 5 (Q 0),Z [4,5]]
abbrev Tq:=Rg [A 9 0,H 10 xr [.m 9],A 8 10,E 11 8 true 0,E 12 8 false 1,V 6 (.alloc [O,O,O,O]),Yd 4 6 11,A 7 12,Z [8]]
abbrev Tn:=Rg [A 13 7,P 14 .neq 13 0,A 15 14,U 15 16 (.mov (.s 1)),U 15 17 (.bin .lss (.s 16) (Q 0)),V 18 (.pick (.m 15) tt (.s 17)),A 19 18,U 19 20 (.mov (.s 1)),U 19 21 (.ld (some 4) 0 (.s 6)),U 19 22 (.call eQ [.s 21]),U 19 23 (.bin .geq (.s 20) (.s 22)),V 24 (.pick (.m 19) tt (.s 23)),Z [16,17,20,21,22,23]]
abbrev Tc:=Rg [V 4 (.mov (.c (.nl))),C 5 (Q 2)]
abbrev Si:=Rg [V 25 (.ld (some 4) 1 (.s 6)),A 26 1,H 27 ov [.m 25,.m 26],A 4 27,C 5 (Q 0)]
def yi:ae:=⟨2,[.tmp 4,.tmp 5],
 (.seq UD
 (.seq Tq
 (.seq (.seq Tn
 (.cond (.m 24)
 (.seq (.seq (K [1]) (F 6)) (.seq Tc
 .ret))
 .skip))
 (.seq (.seq Si (F 6))
 .ret))))⟩
abbrev I6:=Rg [C 4 (Q 0),Z [4]]
abbrev Hk:=Rg [B 7 0,V 8 (.nilck (.m 7)),V 9 (.fa 2 (.m 8)),M 10 9,P 11 .neq 10 0]
abbrev I9:=Rg [C 4 (Q 0)]
abbrev vG:=[B 13 0,V 14 (.nilck (.m 13)),V 15 (.fa 0 (.m 14)),M 16 15,B 17 0,V 18 (.nilck (.m 17)),V 19 (.fa 1 (.m 18)),M 20 19,A 21 1,H 22 cy [.m 16,.m 20,.m 21],A 12 22,E 23 12 false 0,E 24 12 false 1,E 25 12 false 2,A 4 23,A 5 24,A 6 25]
def uw:VC:=.regP (.range 17) [0,1,2,3,4,5,6,7,8,9,10,11,14,12,15,13,16] [] vG
abbrev Ik:=Rg [B 26 0,B 27 6,V 28 (.nilck (.m 26)),V 29 (.fa 2 (.m 28)),N (.st 1 (.m 29) (.m 27))]
abbrev In:=Rg [A 30 6,P 31 .eql 30 0]
abbrev Iq:=Rg [A 32 0,A 33 5,V 34 (.nilck (.m 32)),V 35 (.fa 1 (.m 34)),N (.st 1 (.m 35) (.m 33))]
abbrev H3:=Rg [A 36 4,A 4 36]
def pD:ae:=⟨2,[.tmp 4],
 (.seq I6
 (.seq (.seq Hk
 (.cond (.m 11)
 (.seq (K [0,1]) (.seq I9
 .ret))
 .skip))
 (.seq (.seq uw (K [12]))
 (.seq (.seq Ik
 (.seq In
 (.cond (.m 31)
 Iq
 (.seq (K [0,5]) .skip))))
 (.seq H3
 .ret)))))⟩
abbrev CQ:=Rg [C 2 (Q 0),Z [2]]
abbrev BY:=Rg [C 3 (Q 0)]
abbrev CE:=Rg [B 4 0,V 5 (.calli iU [.m 4,Q 1]),P 6 .eql 5 1,A 7 6,W 7 8 (.mov (.s 0)),W 7 9 (.nilck (.s 8)),W 7 10 (.fa 2 (.s 9)),W 7 11 (.ld none 0 (.s 10)),W 7 12 (.bin .eql (.s 11) (Q 0)),V 13 (.pick (.m 7) (.s 12) ff),Z [8,9,10,11,12]]
abbrev AO:=Rg [A 14 3,P 15 .add 14 1,A 3 15]
abbrev Ch:=Rg [B 16 3,P 17 .gtr 16 8]
abbrev Ba:=Rg [B 18 0,V 19 (.nilck (.m 18)),V 20 (.fa 2 (.m 19)),N (.st 1 (.m 20) (Q 8))]
def jz:VC:=(.seq (.seq CE
 (.cond (.m 13)
 .skip
 (.exit 0)))
 (.block 1
 (.seq AO
 (.seq Ch
 (.cond (.m 17)
 Ba
 .skip)))))
abbrev pp:=[B 21 3,P 22 .add 21 4,V 23 (.bin .shl (Q 1) (.m 22)),A 24 0,B 25 3,P 26 .add 25 4,V 27 (.calli iU [.m 24,.m 26]),L 28 .add 23 27,A 2 28]
def nP:VC:=.regP (.range 9) (.range 9) [] pp
def kV:ae:=⟨1,[.tmp 2],
 (.seq CQ
 (.seq BY
 (.seq (.block 0
 (.loop jz))
 (.seq (.seq nP (K [3]))
 .ret))))⟩
abbrev TA:=Rg [M 5 1,P 6 .sub 5 1,A 4 6]
abbrev Sc:=Rg [B 7 4,P 8 .geq 7 0]
abbrev SN:=Rg [B 11 0,G 12 2,B 13 4,L 14 .shr 12 13,P 15 .and 14 1,V 16 (.conv .u8 (.m 15)),V 17 (.callv (.m 11) [.m 16]),V 18 (.un .not (.m 17))]
abbrev RZ:=Rg [A 9 4,P 10 .sub 9 1,A 4 10]
def lV:VC:=(.seq (.seq Sc
 (.cond (.m 8)
 .skip
 (.seq (K [0,2,4]) (.exit 0))))
 (.seq (.block 1
 (.seq SN
 (.cond (.m 18)
 (.seq (K [0,2,4]) .ret)
 .skip)))
 RZ))
def zH:ae:=⟨3,[],
 (.seq TA
 (.block 0
 (.seq (.loop lV) (K [0,2,4]))))⟩
abbrev Me:=Rg [G 4 1,G 5 2,L 6 .geq 4 5]
abbrev LY:=Rg [B 10 0,G 11 2,V 12 (.callv (.m 10) [.m 11]),V 13 (.un .not (.m 12))]
abbrev LZ:=Rg [G 7 1,G 8 2,L 9 .sub 7 8,Yd 1 1 9]
def gS:VC:=(.seq (.seq Me
 (.cond (.m 6)
 .skip
 (.seq (K [2]) (.exit 0))))
 (.seq (.block 1
 (.seq LY
 (.cond (.m 13)
 (.seq (K [0,1,2]) .ret)
 .skip)))
 LZ))
abbrev LU:=Rg [A 14 0,M 15 1,V 16 (.callv (.m 14) [.m 15]),Z [16]]
def uL:ae:=⟨3,[],
 (.seq (.block 0
 (.seq (.loop gS) (K [2])))
 LU)⟩
abbrev Lz:=Rg [C 3 (Q 0)]
abbrev L4:=Rg [M 6 1,V 7 (.len (.s 6)),C 8 (Q 0)]
abbrev KS:=Rg [J 9 .lss 8 7]
abbrev M8:=Rg [V 10 (.ia 2 (.s 6) (.s 8)),V 11 (.ld (some 2) 0 (.m 10)),V 5 (.alloc [O,O]),Yd 2 5 11]
abbrev KI:=Rg [X 12 1 5,M 13 12,C 14 (Q 0)]
abbrev Ml:=Rg [J 15 .lss 14 13]
abbrev Mx:=Rg [B 16 0,B 17 3,X 18 0 5,M 19 18,V 20 (.callv (.m 16) [.m 17,.m 19]),V 21 (.un .not (.m 20))]
abbrev Lq:=Rg [A 22 3,P 23 .add 22 1,A 3 23]
abbrev Lc:=Rg [P 24 .add 14 1,A 14 24]
def fm:VC:=(.seq Ml
 (.seq (.cond (.m 15)
 .skip
 (.seq (.seq (K [13,14]) (F 5)) (.exit 2)))
 (.seq (.block 3
 (.seq (.seq Mx
 (.cond (.m 21)
 (.seq (.seq (K [0,3,6,7,8,13,14]) (F 5)) .ret)
 .skip))
 Lq))
 Lc)))
abbrev KV:=Rg [P 25 .add 8 1,A 8 25]
def dR:VC:=(.seq KS
 (.seq (.cond (.m 9)
 .skip
 (.seq (K [0,3,6,7,8]) (.exit 0)))
 (.seq (.block 1
 (.seq M8
 (.seq KI
 (.block 2
 (.seq (.loop fm) (.seq (K [13,14]) (F 5)))))))
 KV)))
def uO:ae:=⟨2,[],
 (.seq Lz
 (.seq L4
 (.block 0
 (.seq (.loop dR) (K [0,3,6,7,8])))))⟩
abbrev uP:=Rg [C 4 (Q 0),Z [4]]
abbrev t8:=Rg [B 6 0,V 7 (.len (.m 6)),C 8 (Q 0)]
abbrev uf:=Rg [J 9 .lss 8 7]
abbrev uj:=Rg [B 10 8,A 5 10]
abbrev tR:=Rg [B 11 1,B 12 0,B 13 5,V 14 (.ia 1 (.m 12) (.m 13)),M 15 14,V 16 (.callv (.m 11) [.m 15])]
abbrev uM:=Rg [A 17 5,A 4 17]
abbrev tG:=Rg [P 18 .add 8 1,A 8 18]
def bz:VC:=(.seq uf
 (.seq (.cond (.m 9)
 .skip
 (.seq (K [0,1,7,8]) (.exit 0)))
 (.seq (.block 1
 (.seq uj
 (.seq tR
 (.cond (.m 16)
 (.seq (K [0,1,7,8]) (.seq uM
 .ret))
 (.seq (K [5]) .skip)))))
 tG)))
abbrev tW:=Rg [C 4 (Q (-1))]
def ep:ae:=⟨2,[.tmp 4],
 (.seq uP
 (.seq (.seq t8
 (.block 0
 (.seq (.loop bz) (K [0,1,7,8]))))
 (.seq tW
 .ret)))⟩
abbrev HI:=Rg [V 3 (.box (.m 0)),C 4 ff,Z [4]]
abbrev Hz:VC:=(.reg true [
 V 5 (.ld (some 4) 0 (.m 1)),
 V 6 (.ld (some 5) 0 (.s 3)),
 H 7 ux [.m 5,.m 6],
 V 8 (.un .not (.m 7)),
 A 9 8,
 U 9 10 (.fa 3 (.s 3)),
 U 9 11 (.ld none 0 (.s 10)),
 U 9 12 (.ld none 0 (.s 2)),
 U 9 13 (.ia 5 (.s 12) (Q 0)),
 U 9 14 (.fa 3 (.s 13)),
 U 9 15 (.ld none 0 (.s 14)),
 U 9 16 (.binb true (.s 11) (.s 15)),
 V 17 (.pick (.s 9) tt (.s 16)),
 A 4 17])
def pC:ae:=⟨3,[.tmp 4],
 (.seq HI
 (.seq (.seq Hz (.seq (K [2,9,10,11,12,13,14,15,16]) (F 3)))
 .ret))⟩
abbrev MN:=Rg [V 2 (.box (.m 0)),V 3 (.box (.m 1)),C 4 ff,Z [4]]
abbrev Li:=Rg [V 6 (.ld (some 4) 1 (.s 2)),H 7 iy [.m 6],V 5 (.alloc [O,O,O,O,O]),Yd 5 5 7]
abbrev My:VC:=(.reg true [
 X 8 0 3,
 M 9 8,
 P 10 .geq 9 0,
 A 11 10,
 W 11 12 (.fa 0 (.s 3)),
 W 11 13 (.ld none 0 (.s 12)),
 W 11 14 (.iarr 5 1 (.s 5) (Q 1)),
 W 11 15 (.ld none 0 (.s 14)),
 W 11 16 (.bin .shl (Q 1) (.s 15)),
 W 11 17 (.bin .lss (.s 13) (.s 16)),
 V 18 (.pick (.s 11) (.s 17) ff),
 A 19 18,
 W 19 20 (.fa 1 (.s 3)),
 W 19 21 (.ld none 0 (.s 20)),
 W 19 22 (.bin .geq (.s 21) (Q 0)),
 V 23 (.pick (.s 19) (.s 22) ff),
 A 24 23,
 W 24 25 (.fa 1 (.s 3)),
 W 24 26 (.ld none 0 (.s 25)),
 W 24 27 (.iarr 5 1 (.s 5) (Q 4)),
 W 24 28 (.ld none 0 (.s 27)),
 W 24 29 (.bin .leq (.s 26) (.s 28)),
 V 30 (.pick (.s 24) (.s 29) ff),
 A 31 30,
 W 31 32 (.fa 4 (.s 3)),
 W 31 33 (.ld none 0 (.s 32)),
 W 31 34 (.len (.s 33)),
 W 31 35 (.fa 1 (.s 3)),
 W 31 36 (.ld none 0 (.s 35)),
 W 31 37 (.bin .eql (.s 34) (.s 36)),
 V 38 (.pick (.s 31) (.s 37) ff),
 A 39 38,
 W 39 40 (.fa 1 (.s 3)),
 W 39 41 (.ld none 0 (.s 40)),
 W 39 42 (.bin .gtr (.s 41) (Q 0)),
 W 39 43 (.mov (.s 42)),
 U 43 44 (.fa 2 (.s 3)),
 U 43 45 (.ld none 0 (.s 44)),
 U 43 46 (.un .not (.s 45)),
 W 39 47 (.pick (.s 43) tt (.s 46)),
 V 48 (.pick (.s 39) (.s 47) ff),
 A 49 48,
 W 49 50 (.fa 4 (.s 3)),
 W 49 51 (.ld none 0 (.s 50)),
 W 49 52 (.fa 3 (.s 3)),
 W 49 53 (.ld none 0 (.s 52)),
 W 49 54 (.call jg [.s 53]),
 W 49 55 (.call jW [.s 51,.s 54]),
 V 56 (.pick (.s 49) (.s 55) ff),
 A 4 56])
def uu:ae:=⟨2,[.tmp 4],
 (.seq MN
 (.seq (.seq Li (F 2))
 (.seq (.seq My (.seq (.seq (K [11,12,13,14,15,16,17,19,20,21,22,24,25,26,27,28,29,31,32,33,34,35,36,37,39,40,41,42,43,44,45,46,47,49,50,51,52,53,54,55]) (F 3)) (F 5)))
 .ret)))⟩
abbrev uT:=Rg [C 4 ff,Z [4]]
abbrev vd:=Rg [A 5 0,A 6 1,V 7 (.calli jS [.m 5,.m 6]),P 8 .geq 7 0,A 4 8]
def iQ:ae:=⟨2,[.tmp 4],
 (.seq uT
 (.seq vd
 .ret))⟩
abbrev Lj:=Rg [C 3 ff,Z [3]]
abbrev KF:=Rg [B 4 0,G 5 1,V 6 (.un .neg (.m 5)),L 7 .lss 4 6,A 8 7,U 8 9 (.mov (.s 0)),U 8 10 (.ld none 0 (.s 1)),U 8 11 (.bin .geq (.s 9) (.s 10)),V 12 (.pick (.m 8) tt (.s 11)),A 3 12,Z [0,1,9,10,11]]
def ul:ae:=⟨2,[.tmp 3],
 (.seq Lj
 (.seq KF
 .ret))⟩
abbrev agy:=Rg [C 2 (Q 0),Z [2]]
abbrev ahU:=Rg [A 3 0,P 4 .lss 3 5]
abbrev agF:=Rg [C 2 (Q 4)]
abbrev agV:=Rg [C 2 (Q 2)]
def HR:ae:=⟨1,[.tmp 2],
 (.seq agy
 (.seq (.seq ahU
 (.cond (.m 4)
 (.seq agF
 .ret)
 .skip))
 (.seq agV
 .ret)))⟩
abbrev Lr:=Rg [V 0 (.alloc [O,O,O,O,O,O,O,O,O,O,O,O,O])]
abbrev Ko:=Rg [V 1 (.build [O,O,O,O,O,O,O,O,O,O,O,O,O] [(1,1,Q 1),(2,1,Q 1),(3,1,Q 2),(4,1,Q 2),(5,1,Q 4),(6,1,Q 4),(7,1,Q 7),(8,1,Q 7),(9,1,Q 12),(10,1,Q 12),(11,1,Q 8191)]),Yd 13 0 1]
def YT:ae:=⟨0,[.cell 0 (some 13)],
 (.seq Lr
 (.seq Ko
 .ret))⟩
abbrev Uv:=Rg [C 3 ff,Z [3]]
abbrev TN:=Rg [B 4 0,G 5 1,L 6 .gtr 4 5,A 7 6,U 7 8 (.mov (.s 0)),U 7 9 (.ld none 0 (.s 1)),U 7 10 (.un .neg (.s 9)),U 7 11 (.bin .lss (.s 8) (.s 10)),V 12 (.pick (.m 7) tt (.s 11)),A 3 12,Z [0,1,8,9,10,11]]
def yn:ae:=⟨2,[.tmp 3],
 (.seq Uv
 (.seq TN
 .ret))⟩
abbrev ak3:=Rg [V 2 (.alloc [O,O,O,O]),C 3 (Q 0),Z [3]]
abbrev akU:=Rg [B 4 0,P 5 .lss 4 1,A 6 5,U 6 7 (.mov (.s 0)),U 6 8 (.bin .gtr (.s 7) (Q 12)),V 9 (.pick (.m 6) tt (.s 8)),Z [7,8]]
abbrev ajw:=Rg [V 10 (.build [O,O,O,O] []),Yd 4 2 10,C 3 (Q 2)]
abbrev aja:=Rg [H 11 ale [],A 12 0,V 13 (.ix 13 4 true (.m 11) (.m 12)),Yd 4 2 13,C 3 (Q 0)]
def apT:ae:=⟨1,[.cell 2 (some 4),.tmp 3],
 (.seq ak3
 (.seq (.seq akU
 (.cond (.m 9)
 (.seq (K [0]) (.seq ajw
 .ret))
 .skip))
 (.seq aja
 .ret)))⟩
abbrev JO:=Rg [V 1 (.box (.m 0)),C 2 (Q 0),Z [2]]
abbrev J3:=Rg [X 3 2 1,M 4 3,X 5 1 1,M 6 5,L 7 .sub 4 6,P 8 .add 7 1,A 2 8]
def rk:ae:=⟨1,[.tmp 2],
 (.seq JO
 (.seq (.seq J3 (F 1))
 .ret))⟩
abbrev Xh:=Rg [V 1 (.box (.m 0)),C 2 ff,Z [2]]
abbrev Zg:=Rg [X 10 0 1,M 11 10,H 12 xr [.m 11],A 9 12,E 13 9 true 0,E 14 9 false 1,V 3 (.alloc [O,O,O,O]),Yd 4 3 13,A 4 14,Z [9]]
abbrev Vl:VC:=(.reg true [
 A 15 4,
 P 16 .neq 15 0,
 A 17 16,
 U 17 18 (.fa 1 (.s 1)),
 U 17 19 (.ld none 0 (.s 18)),
 U 17 20 (.fa 3 (.s 3)),
 U 17 21 (.ld none 0 (.s 20)),
 U 17 22 (.bin .neq (.s 19) (.s 21)),
 V 23 (.pick (.s 17) tt (.s 22)),
 A 24 23,
 U 24 25 (.fa 2 (.s 1)),
 U 24 26 (.ld none 0 (.s 25)),
 U 24 27 (.len (.s 26)),
 U 24 28 (.ld (some 4) 0 (.s 3)),
 U 24 29 (.call eQ [.s 28]),
 U 24 30 (.bin .neq (.s 27) (.s 29)),
 V 31 (.pick (.s 24) tt (.s 30)),
 A 32 31,
 U 32 33 (.fa 3 (.s 1)),
 U 32 34 (.ld none 0 (.s 33)),
 U 32 35 (.len (.s 34)),
 U 32 36 (.ld (some 4) 0 (.s 3)),
 U 32 37 (.call eQ [.s 36]),
 U 32 38 (.bin .neq (.s 35) (.s 37)),
 V 39 (.pick (.s 32) tt (.s 38))])
abbrev YI:=Rg [C 2 ff]
def tN:=Rg [V 40 (.ld (some 4) 1 (.s 3)),H 41 dw [.m 40],V 5 (.alloc [O8,O8,O8,O8,O8,O8,O8,O8,O8,O8,O8,O8,O8,O8,O8,O8,O8,O8,O8,O8,O8,O8,O8,O8,O8,O8,O8,O8,O8,O8,O8,O8,O8,O8,O8,O8,O8,O8,O8,O8,O8,O8,O8,O8,O8,O8,O8,O8,O8,O8,O8,O8,O8,O8,O8,O8,O8,O8,O8,O8,O8,O8,O8,O8,O8,O8,O8,O8,O8,O8,O8,O8,O8,O8,O8,O8,O8,O8,O8,O8,O8,O8,O8,O8,O8,O8,O8,O8,O8,O8,O8,O8,O8,O8,O8,O8,O8,O8,O8,O8,O8,O8,O8,O8,O8,O8,O8,O8,O8,O8,O8,O8,O8,O8,O8,O8,O8,O8,O8,O8,O8,O8,O8,O8,O8,O8,O8,O8,O8,O8,O8,O8,O8,O8,O8,O8,O8,O8,O8,O8,O8,O8,O8,O8,O8,O8,O8,O8,O8,O8,O8,O8,O8,O8,O8,O8,O8,O8,O8,O8,O8,O8,O8,O8,O8,O8,O8,O8,O8,O8,O8,O8,O8,O8,O8,O8,O8,O8,O8,O8,O8,O8,O8,O8,O8,O8,O8,O8,O8,O8,O8,O8,O8,O8,O8,O8,O8,O8,O8,O8,O8,O8,O8,O8,O8,O8,O8,O8,O8,O8,O8,O8,O8,O8,O8,O8,O8,O8,O8,O8,O8,O8,O8,O8,O8,O8,O8,O8,O8,O8,O8,O8,O8,O8,O8,O8,O8,O8,O8,O8,O8,O8,O8,O8,O8,O8,O8,O8,O8,O8,O8,O8,O8,O8,O8,O8,O8,O8,O8,O8,O8,O8,O8,O8,O8,O8,O8,O8,O8,O8,O8,O8,O8,O8,O8,O8,O8,O8,O8,O8,O8,O8,O8,O8,O8,O8,O8,O8,O8]),Yd 289 5 41]
abbrev YM:=Rg [X 42 2 1,M 43 42,V 44 (.len (.s 43)),C 45 (Q 0)]
abbrev Va:=Rg [J 46 .lss 45 44]
abbrev Zn:=Rg [B 47 45,V 48 (.ia 1 (.s 43) (.s 45)),M 49 48,A 6 47,A 7 49]
abbrev U1:=Rg [B 50 7,P 51 .lss 50 0,A 52 51,U 52 53 (.mov (.s 7)),U 52 54 (.fa 3 (.s 1)),U 52 55 (.ld none 0 (.s 54)),U 52 56 (.len (.s 55)),U 52 57 (.bin .geq (.s 53) (.s 56)),V 58 (.pick (.m 52) tt (.s 57)),A 59 58,U 59 60 (.fa 3 (.s 1)),U 59 61 (.ld none 0 (.s 60)),U 59 62 (.mov (.s 7)),U 59 63 (.ia 1 (.s 61) (.s 62)),U 59 64 (.ld none 0 (.s 63)),U 59 65 (.mov (.s 6)),U 59 66 (.bin .neq (.s 64) (.s 65)),V 67 (.pick (.m 59) tt (.s 66)),Z [53,54,55,56,57,60,61,62,63,64,65,66]]
abbrev YZ:=Rg [C 2 ff]
abbrev TL:=Rg [B 68 6,P 69 .eql 68 0]
abbrev TP:=Rg [X 70 2 1,M 71 70,A 72 6,P 73 .sub 72 1,V 74 (.ia 1 (.m 71) (.m 73)),M 75 74,A 8 75]
abbrev Tw:VC:=(.reg true [
 B 76 8,
 V 77 (.iarr 289 1 (.s 5) (.m 76)),
 M 78 77,
 B 79 7,
 V 80 (.iarr 289 1 (.s 5) (.m 79)),
 M 81 80,
 L 82 .gtr 78 81,
 A 83 82,
 U 83 84 (.mov (.s 8)),
 U 83 85 (.iarr 289 1 (.s 5) (.s 84)),
 U 83 86 (.ld none 0 (.s 85)),
 U 83 87 (.mov (.s 7)),
 U 83 88 (.iarr 289 1 (.s 5) (.s 87)),
 U 83 89 (.ld none 0 (.s 88)),
 U 83 90 (.bin .eql (.s 86) (.s 89)),
 U 83 91 (.mov (.s 90)),
 W 91 92 (.mov (.s 8)),
 W 91 93 (.mov (.s 7)),
 W 91 94 (.bin .gtr (.s 92) (.s 93)),
 U 83 95 (.pick (.s 91) (.s 94) ff),
 V 96 (.pick (.s 83) tt (.s 95))])
abbrev Ut:=Rg [C 2 ff]
abbrev UI:=Rg [P 97 .add 45 1,A 45 97]
def nC:VC:=(.seq Va
 (.seq (.cond (.m 46)
 .skip
 (.seq (.seq (.seq (K [43,44,45]) (F 1)) (F 5)) (.exit 0)))
 (.seq (.block 1
 (.seq Zn
 (.seq (.seq U1
 (.cond (.m 67)
 (.seq (.seq (.seq (K [6,7,43,44,45]) (F 1)) (F 5)) (.seq YZ
 .ret))
 .skip))
 (.seq (.seq TL
 (.cond (.m 69)
 (.seq (K [6,7]) (.exit 1))
 .skip))
 (.seq TP
 (.seq (.seq Tw (K [7,8,83,84,85,86,87,88,89,90,91,92,93,94,95]))
 (.cond (.m 96)
 (.seq (.seq (.seq (K [43,44,45]) (F 1)) (F 5)) (.seq Ut
 .ret))
 .skip)))))))
 UI)))
abbrev UJ:=Rg [C 2 tt]
def Cj:ae:=⟨1,[.tmp 2],
 (.seq Xh
 (.seq Zg
 (.seq (.seq (.seq Vl (K [17,18,19,20,21,22,24,25,26,27,28,29,30,32,33,34,35,36,37,38]))
 (.cond (.m 39)
 (.seq (.seq (F 1) (F 3)) (.seq YI
 .ret))
 .skip))
 (.seq (.seq tN (F 3))
 (.seq (.seq YM
 (.block 0
 (.seq (.loop nC) (.seq (.seq (K [43,44,45]) (F 1)) (F 5)))))
 (.seq UJ
 .ret))))))⟩
abbrev Fn:=Rg [V 4 (.mov (.c (.nl))),Z [4]]
abbrev Eo:=Rg [B 5 1,P 6 .lss 5 0]
abbrev ER:=Rg [V 7 (.bad ),N (.bad )]
abbrev Fd:=Rg [A 8 1,B 9 0,V 10 (.cap (.m 9)),B 11 0,V 12 (.len (.m 11)),L 13 .sub 10 12,L 14 .sub 8 13,A 1 14]
abbrev EH:=Rg [B 15 1,P 16 .gtr 15 0]
abbrev Ei:=Rg [B 17 0,B 18 0,V 19 (.cap (.m 18)),V 20 (.slice 1 (.m 17) none (some (.m 19)) none),A 21 1,⟨some 22,none,.appz [.int .u8 0] (.m 20) (.m 21),[(0,0)]⟩,A 23 0,V 24 (.len (.m 23)),V 25 (.slice 1 (.m 22) none (some (.m 24)) none),A 0 25]
abbrev EW:=Rg [A 26 0,A 4 26]
def mY:ae:=⟨2,[.tmp 4],
 (.seq Fn
 (.seq (.seq Eo
 (.cond (.m 6)
 ER
 .skip))
 (.seq (.seq Fd
 (.seq EH
 (.cond (.m 16)
 Ei
 (.seq (K [1]) .skip))))
 (.seq EW
 .ret))))⟩
abbrev HA:=Rg [C 2 (Q 0)]
abbrev Id:=Rg [B 3 0,V 4 (.bin .geq (.m 3) (.c (.d (.int .u32 65536))))]
abbrev Iv:=Rg [A 5 0,V 6 (.bin .shr (.m 5) (.c (.d (.int .u64 16)))),A 0 6]
abbrev I1:=Rg [C 2 (Q 16)]
abbrev Im:=Rg [B 7 0,V 8 (.bin .geq (.m 7) (.c (.d (.int .u32 256))))]
abbrev IC:=Rg [A 9 0,V 10 (.bin .shr (.m 9) (.c (.d (.int .u64 8)))),A 0 10]
abbrev Ii:=Rg [A 11 2,P 12 .add 11 8,A 2 12]
abbrev HG:=Rg [A 13 2,A 14 0,V 15 (.conv .u8 (.m 14)),V 16 (.ixs (.c (.d (.str [0,1,2,2,3,3,3,3,4,4,4,4,4,4,4,4,5,5,5,5,5,5,5,5,5,5,5,5,5,5,5,5,6,6,6,6,6,6,6,6,6,6,6,6,6,6,6,6,6,6,6,6,6,6,6,6,6,6,6,6,6,6,6,6,7,7,7,7,7,7,7,7,7,7,7,7,7,7,7,7,7,7,7,7,7,7,7,7,7,7,7,7,7,7,7,7,7,7,7,7,7,7,7,7,7,7,7,7,7,7,7,7,7,7,7,7,7,7,7,7,7,7,7,7,7,7,7,7,8,8,8,8,8,8,8,8,8,8,8,8,8,8,8,8,8,8,8,8,8,8,8,8,8,8,8,8,8,8,8,8,8,8,8,8,8,8,8,8,8,8,8,8,8,8,8,8,8,8,8,8,8,8,8,8,8,8,8,8,8,8,8,8,8,8,8,8,8,8,8,8,8,8,8,8,8,8,8,8,8,8,8,8,8,8,8,8,8,8,8,8,8,8,8,8,8,8,8,8,8,8,8,8,8,8,8,8,8,8,8,8,8,8,8,8,8,8,8,8,8,8,8,8,8,8,8,8]))) (.m 15)),V 17 (.conv .i64 (.m 16)),L 18 .add 13 17,A 2 18]
def OO:ae:=⟨1,[.tmp 2],
 (.seq HA
 (.seq (.seq Id
 (.cond (.m 4)
 (.seq (K [2]) (.seq Iv
 I1))
 .skip))
 (.seq (.seq Im
 (.cond (.m 8)
 (.seq IC
 Ii)
 .skip))
 (.seq HG
 .ret))))⟩
abbrev Jk:=Rg [C 2 (Q 0)]
abbrev IU:=Rg [B 3 0,V 4 (.bin .geq (.m 3) (.c (.d (.int .u64 4294967296))))]
abbrev Ij:=Rg [A 5 0,V 6 (.bin .shr (.m 5) (.c (.d (.int .u64 32)))),A 0 6]
abbrev Jp:=Rg [C 2 (Q 32)]
abbrev Ji:=Rg [B 7 0,V 8 (.bin .geq (.m 7) (.c (.d (.int .u64 65536))))]
abbrev Jn:=Rg [A 9 0,V 10 (.bin .shr (.m 9) (.c (.d (.int .u64 16)))),A 0 10]
abbrev IJ:=Rg [A 11 2,P 12 .add 11 16,A 2 12]
abbrev HJ:=Rg [B 13 0,V 14 (.bin .geq (.m 13) (.c (.d (.int .u64 256))))]
abbrev IZ:=Rg [A 15 0,V 16 (.bin .shr (.m 15) (.c (.d (.int .u64 8)))),A 0 16]
abbrev HE:=Rg [A 17 2,P 18 .add 17 8,A 2 18]
abbrev Ha:=Rg [A 19 2,A 20 0,V 21 (.conv .u8 (.m 20)),V 22 (.ixs (.c (.d (.str [0,1,2,2,3,3,3,3,4,4,4,4,4,4,4,4,5,5,5,5,5,5,5,5,5,5,5,5,5,5,5,5,6,6,6,6,6,6,6,6,6,6,6,6,6,6,6,6,6,6,6,6,6,6,6,6,6,6,6,6,6,6,6,6,7,7,7,7,7,7,7,7,7,7,7,7,7,7,7,7,7,7,7,7,7,7,7,7,7,7,7,7,7,7,7,7,7,7,7,7,7,7,7,7,7,7,7,7,7,7,7,7,7,7,7,7,7,7,7,7,7,7,7,7,7,7,7,7,8,8,8,8,8,8,8,8,8,8,8,8,8,8,8,8,8,8,8,8,8,8,8,8,8,8,8,8,8,8,8,8,8,8,8,8,8,8,8,8,8,8,8,8,8,8,8,8,8,8,8,8,8,8,8,8,8,8,8,8,8,8,8,8,8,8,8,8,8,8,8,8,8,8,8,8,8,8,8,8,8,8,8,8,8,8,8,8,8,8,8,8,8,8,8,8,8,8,8,8,8,8,8,8,8,8,8,8,8,8,8,8,8,8,8,8,8,8,8,8,8,8,8,8,8,8,8,8]))) (.m 21)),V 23 (.conv .i64 (.m 22)),L 24 .add 19 23,A 2 24]
def py:ae:=⟨1,[.tmp 2],
 (.seq Jk
 (.seq (.seq IU
 (.cond (.m 4)
 (.seq (K [2]) (.seq Ij
 Jp))
 .skip))
 (.seq (.seq Ji
 (.cond (.m 8)
 (.seq Jn
 IJ)
 .skip))
 (.seq (.seq HJ
 (.cond (.m 14)
 (.seq IZ
 HE)
 .skip))
 (.seq Ha
 .ret)))))⟩
abbrev KD:=Rg [V 4 (.mov (.c (.d (.int .u64 0)))),V 5 (.mov (.c (.d (.int .u64 0)))),Z [4,5]]
abbrev L0:=Rg [A 11 0,V 12 (.conv .u32 (.m 11)),A 13 1,V 14 (.conv .u32 (.m 13)),H 15 OU [.m 12,.m 14],A 10 15,E 16 10 false 0,E 17 10 false 1,A 6 16,A 7 17,Z [10]]
abbrev Ld:=Rg [A 18 6,V 19 (.conv .u64 (.m 18)),A 20 7,V 21 (.conv .u64 (.m 20)),A 4 19,A 5 21]
abbrev K0:=Rg [A 23 0,A 24 1,H 25 Qx [.m 23,.m 24],A 22 25,E 26 22 false 0,E 27 22 false 1,A 8 26,A 9 27,Z [22]]
abbrev MR:=Rg [A 28 8,A 29 9,A 4 28,A 5 29]
def Yg:ae:=⟨2,[.tmp 4,.tmp 5],
 (.seq KD
 (.seq (.cond ff
 (.seq L0
 (.seq Ld
 .ret))
 .skip)
 (.seq K0
 (.seq MR
 .ret))))⟩
abbrev J1:=Rg [V 1 (.box (.m 0)),C 2 (Q 0),Z [2]]
abbrev J6:=Rg [C 3 (Q 1)]
abbrev JP:=Rg [X 4 0 1,M 5 4,C 6 (Q 0)]
abbrev Kh:=Rg [J 7 .lss 6 5]
abbrev Kc:=Rg [A 8 3,V 9 (.ld (some 4) 0 (.s 1)),H 10 gC [.m 9],L 11 .mul 8 10,A 3 11]
abbrev JZ:=Rg [P 12 .add 6 1,A 6 12]
def JV:VC:=(.seq Kh
 (.seq (.cond (.m 7)
 .skip
 (.seq (.seq (K [5,6]) (F 1)) (.exit 0)))
 (.seq (.block 1
 Kc)
 JZ)))
abbrev JT:=Rg [A 13 3,A 2 13]
def T7:ae:=⟨1,[.tmp 2],
 (.seq J1
 (.seq J6
 (.seq (.seq JP
 (.block 0
 (.seq (.loop JV) (.seq (K [5,6]) (F 1)))))
 (.seq JT
 .ret))))⟩
def mh:=Rg [V 1 (.box (.m 0)),V 2 (.alloc [O8,O8,O8,O8,O8,O8,O8,O8,O8,O8,O8,O8,O8,O8,O8,O8,O8,O8,O8,O8,O8,O8,O8,O8,O8,O8,O8,O8,O8,O8,O8,O8,O8,O8,O8,O8,O8,O8,O8,O8,O8,O8,O8,O8,O8,O8,O8,O8,O8,O8,O8,O8,O8,O8,O8,O8,O8,O8,O8,O8,O8,O8,O8,O8,O8,O8,O8,O8,O8,O8,O8,O8,O8,O8,O8,O8,O8,O8,O8,O8,O8,O8,O8,O8,O8,O8,O8,O8,O8,O8,O8,O8,O8,O8,O8,O8,O8,O8,O8,O8,O8,O8,O8,O8,O8,O8,O8,O8,O8,O8,O8,O8,O8,O8,O8,O8,O8,O8,O8,O8,O8,O8,O8,O8,O8,O8,O8,O8,O8,O8,O8,O8,O8,O8,O8,O8,O8,O8,O8,O8,O8,O8,O8,O8,O8,O8,O8,O8,O8,O8,O8,O8,O8,O8,O8,O8,O8,O8,O8,O8,O8,O8,O8,O8,O8,O8,O8,O8,O8,O8,O8,O8,O8,O8,O8,O8,O8,O8,O8,O8,O8,O8,O8,O8,O8,O8,O8,O8,O8,O8,O8,O8,O8,O8,O8,O8,O8,O8,O8,O8,O8,O8,O8,O8,O8,O8,O8,O8,O8,O8,O8,O8,O8,O8,O8,O8,O8,O8,O8,O8,O8,O8,O8,O8,O8,O8,O8,O8,O8,O8,O8,O8,O8,O8,O8,O8,O8,O8,O8,O8,O8,O8,O8,O8,O8,O8,O8,O8,O8,O8,O8,O8,O8,O8,O8,O8,O8,O8,O8,O8,O8,O8,O8,O8,O8,O8,O8,O8,O8,O8,O8,O8,O8,O8,O8,O8,O8,O8,O8,O8,O8,O8,O8,O8,O8,O8,O8,O8,O8])]
abbrev IW:=Rg [V 3 (.alloc [O,O,O,O])]
abbrev IF:=Rg [X 10 0 1,M 11 10,C 12 (Q 0)]
abbrev Hi:=Rg [J 13 .lss 12 11]
abbrev Ip:=Rg [B 14 12,A 4 14]
abbrev Jh:=Rg [A 15 4,X 16 1 1,M 17 16,V 18 (.iarr 4 1 (.s 3) (.m 15)),N (.st 1 (.m 18) (.m 17))]
abbrev Iz:=Rg [P 19 .add 12 1,A 12 19]
def i9:VC:=(.seq Hi
 (.seq (.cond (.m 13)
 .skip
 (.seq (K [11,12]) (.exit 0)))
 (.seq (.block 1
 (.seq Ip
 Jh))
 Iz)))
abbrev Jc:=Rg [V 20 (.ld (some 4) 0 (.s 1)),H 21 eQ [.m 20],C 22 (Q 0)]
abbrev Jg:=Rg [J 23 .lss 22 21]
abbrev HP:=Rg [B 24 22,A 5 24]
abbrev Fz:=Rg [C 6 (Q 0)]
abbrev F9:=Rg [X 25 0 1,M 26 25,V 27 (.slarr 4 (.s 3) none (some (.m 26)) none),V 28 (.len (.s 27)),C 29 (Q 0)]
abbrev Gj:=Rg [J 30 .lss 29 28]
abbrev FT:=Rg [V 31 (.ia 1 (.s 27) (.s 29)),M 32 31,A 8 32]
abbrev FD:=Rg [A 33 6,B 34 8,A 35 8,V 36 (.un .neg (.m 35)),V 37 (.minmax true [.m 34,.m 36]),L 38 .add 33 37,A 6 38]
abbrev GG:=Rg [P 39 .add 29 1,A 29 39]
def iW:VC:=(.seq Gj
 (.seq (.cond (.m 30)
 .skip
 (.seq (K [27,28,29]) (.exit 4)))
 (.seq (.block 5
 (.seq FT
 FD))
 GG)))
abbrev GX:=Rg [A 40 5,A 41 6,V 42 (.conv .u8 (.m 41)),V 43 (.iarr 289 1 (.s 2) (.m 40)),N (.st 1 (.m 43) (.m 42))]
abbrev GK:=Rg [X 44 0 1,M 45 44,P 46 .sub 45 1,A 9 46]
abbrev Fv:=Rg [B 47 9,P 48 .geq 47 0]
abbrev Gl:=Rg [B 51 9,V 52 (.iarr 4 1 (.s 3) (.s 51)),M 53 52,P 54 .add 53 1,V 55 (.iarr 4 1 (.s 3) (.m 51)),N (.st 1 (.m 55) (.m 54))]
abbrev Gq:VC:=(.reg true [
 B 56 9,
 V 57 (.iarr 4 1 (.s 3) (.m 56)),
 M 58 57,
 X 59 2 1,
 M 60 59,
 L 61 .leq 58 60])
abbrev Ge:=Rg [B 62 9,X 63 1 1,M 64 63,V 65 (.iarr 4 1 (.s 3) (.m 62)),N (.st 1 (.m 65) (.m 64))]
abbrev Gr:=Rg [A 49 9,P 50 .sub 49 1,A 9 50]
def iY:VC:=(.seq (.seq Fv
 (.cond (.m 48)
 .skip
 (.seq (K [9]) (.exit 6))))
 (.seq (.block 7
 (.seq (.seq Gl
 (.seq Gq
 (.cond (.m 61)
 (.seq (K [9]) (.exit 6))
 .skip)))
 Ge))
 Gr))
abbrev GN:=Rg [P 66 .add 22 1,A 22 66]
def iZ:VC:=(.seq Jg
 (.seq (.cond (.m 23)
 .skip
 (.seq (.seq (K [3,21,22]) (F 1)) (.exit 2)))
 (.seq (.block 3
 (.seq HP
 (.seq Fz
 (.seq (.seq F9
 (.block 4
 (.seq (.loop iW) (K [27,28,29]))))
 (.seq GX
 (.seq GK
 (.block 6
 (.seq (.loop iY) (K [9])))))))))
 GN)))
def pB:ae:=⟨1,[.cell 2 (some 289)],
 (.seq mh
 (.seq IW
 (.seq (.seq IF
 (.block 0
 (.seq (.loop i9) (K [11,12]))))
 (.seq (.seq Jc
 (.block 2
 (.seq (.loop iZ) (.seq (K [3,21,22]) (F 1)))))
 .ret))))⟩
abbrev sS:=Rg [B 4 0,A 5 0,⟨some 6,none,.len (.m 5),[(0,0)]⟩,A 7 1,V 8 (.calli iM [.m 4,.m 6,.m 7]),Z [8]]
def gE:ae:=⟨2,[],
 sS⟩
abbrev X7:=Rg [C 5 (Q 0),Z [5]]
abbrev WR:VC:=(.reg true [
 A 6 0,
 V 7 (.iarr 289 1 (.s 2) (.m 6)),
 M 8 7,
 A 9 1,
 V 10 (.iarr 289 1 (.s 2) (.m 9)),
 M 11 10,
 H 12 mU [.m 8,.m 11],
 A 5 12])
def Ci:ae:=⟨3,[.tmp 5],
 (.seq X7
 (.seq (.seq WR (K [2]))
 .ret))⟩
abbrev EI:=Rg [C 4 (Q 0),Z [4]]
abbrev Ee:=Rg [B 7 0,H 8 kJ [.m 7],A 5 8]
abbrev D4:=Rg [B 9 1,H 10 kJ [.m 9],A 6 10]
abbrev EO:=Rg [A 11 5]
abbrev EF:=Rg [A 12 6]
abbrev Ef:=Rg [C 4 (Q 0)]
abbrev Es:=Rg [C 4 (Q (-1))]
abbrev D8:=Rg [A 13 6]
abbrev D5:=Rg [C 4 (Q 1)]
abbrev Ex:=Rg [B 14 0,B 15 1,L 16 .lss 14 15]
abbrev C9:=Rg [C 4 (Q (-1))]
abbrev C4:=Rg [A 17 0,A 18 1,L 19 .gtr 17 18]
abbrev Db:=Rg [C 4 (Q 1)]
abbrev Da:=Rg [C 4 (Q 0)]
def mZ:ae:=⟨2,[.tmp 4],
 (.seq EI
 (.seq Ee
 (.seq D4
 (.seq (.seq EO
 (.cond (.m 11)
 (.seq (K [0,1]) (.seq (.seq EF
 (.cond (.m 12)
 (.seq Ef
 .ret)
 .skip))
 (.seq Es
 .ret)))
 .skip))
 (.seq (.seq D8
 (.cond (.m 13)
 (.seq (K [0,1]) (.seq D5
 .ret))
 .skip))
 (.seq (.seq Ex
 (.cond (.m 16)
 (.seq (K [0,1]) (.seq C9
 .ret))
 .skip))
 (.seq (.seq C4
 (.cond (.m 19)
 (.seq Db
 .ret)
 .skip))
 (.seq Da
 .ret))))))))⟩
abbrev u5:=Rg [C 4 (Q 0),Z [4]]
abbrev vD:=Rg [B 6 0,V 7 (.len (.m 6)),C 8 (Q 0)]
abbrev vw:=Rg [J 9 .lss 8 7]
abbrev vq:=Rg [B 10 8,A 5 10]
abbrev vg:=Rg [B 11 1,B 12 0,B 13 5,V 14 (.ia 5 (.m 12) (.m 13)),V 15 (.ld (some 5) 0 (.m 14)),V 16 (.callv (.m 11) [.m 15])]
abbrev vB:=Rg [A 17 5,A 4 17]
abbrev vA:=Rg [P 18 .add 8 1,A 8 18]
def bG:VC:=(.seq vw
 (.seq (.cond (.m 9)
 .skip
 (.seq (K [0,1,7,8]) (.exit 0)))
 (.seq (.block 1
 (.seq vq
 (.seq vg
 (.cond (.m 16)
 (.seq (K [0,1,7,8]) (.seq vB
 .ret))
 (.seq (K [5]) .skip)))))
 vA)))
abbrev vy:=Rg [C 4 (Q (-1))]
def eJ:ae:=⟨2,[.tmp 4],
 (.seq u5
 (.seq (.seq vD
 (.block 0
 (.seq (.loop bG) (K [0,1,7,8]))))
 (.seq vy
 .ret)))⟩
abbrev KN:=Rg [C 4 ff,Z [4]]
abbrev Nf:=Rg [B 5 0,M 6 1,L 7 .lss 5 6,A 8 7,U 8 9 (.mov (.s 0)),U 8 10 (.ld none 0 (.s 2)),U 8 11 (.bin .gtr (.s 9) (.s 10)),V 12 (.pick (.m 8) tt (.s 11)),A 4 12,Z [0,2,9,10,11]]
def uA:ae:=⟨3,[.tmp 4],
 (.seq KN
 (.seq Nf
 .ret))⟩
abbrev Fp:=Rg [V 2 (.box (.m 0)),V 4 (.mov (.c (.nl))),Z [4]]
abbrev FE:=Rg [X 7 0 2,M 8 7,⟨some 9,none,.mkslice [.int .i64 0] (.s 8) (.s 8),[(0,0)]⟩,A 5 9,Z [8]]
abbrev G0:=Rg [X 10 0 2,M 11 10,P 12 .sub 11 1,A 6 12]
abbrev FB:=Rg [B 13 6,P 14 .geq 13 0]
abbrev tV:=[B 17 5,B 18 6,B 19 1,V 20 (.ld (some 4) 0 (.s 2)),H 21 gC [.m 20],L 22 .rem 19 21,X 23 1 2,M 24 23,L 25 .add 22 24,B 26 1,V 27 (.ld (some 4) 0 (.s 2)),H 28 gC [.m 27],L 29 .quo 26 28,V 30 (.ia 1 (.m 17) (.m 18)),N (.st 1 (.m 30) (.m 25)),A 1 29]
def r7:VC:=.regP (.range 16) [0,1,2,3,4,5,6,7,8,10,11,13,14,9,12,15] [] tV
abbrev Gf:=Rg [A 15 6,P 16 .sub 15 1,A 6 16]
def ir:VC:=(.seq (.seq FB
 (.cond (.m 14)
 .skip
 (.seq (.seq (K [1,6]) (F 2)) (.exit 0))))
 (.seq (.block 1
 r7)
 Gf))
abbrev F8:=Rg [A 31 5,A 4 31]
def oy:ae:=⟨2,[.tmp 4],
 (.seq Fp
 (.seq FE
 (.seq (.seq G0
 (.block 0
 (.seq (.loop ir) (.seq (K [1,6]) (F 2)))))
 (.seq F8
 .ret))))⟩
abbrev yD:=Rg [C 4 (Q 0),Z [4]]
abbrev yL:=Rg [B 6 0,V 7 (.len (.m 6)),C 8 (Q 0)]
abbrev yK:=Rg [J 9 .lss 8 7]
abbrev yh:=Rg [B 10 8,A 5 10]
abbrev yV:=Rg [B 11 1,B 12 0,B 13 5,V 14 (.ia 1 (.m 12) (.m 13)),M 15 14,V 16 (.callv (.m 11) [.m 15])]
abbrev ze:=Rg [A 17 5,A 4 17]
abbrev zu:=Rg [P 18 .add 8 1,A 8 18]
def bN:VC:=(.seq yK
 (.seq (.cond (.m 9)
 .skip
 (.seq (K [0,1,7,8]) (.exit 0)))
 (.seq (.block 1
 (.seq yh
 (.seq yV
 (.cond (.m 16)
 (.seq (K [0,1,7,8]) (.seq ze
 .ret))
 (.seq (K [5]) .skip)))))
 zu)))
abbrev yR:=Rg [C 4 (Q (-1))]
def gv:ae:=⟨2,[.tmp 4],
 (.seq yD
 (.seq (.seq yL
 (.block 0
 (.seq (.loop bN) (K [0,1,7,8]))))
 (.seq yR
 .ret)))⟩
abbrev W3:=Rg [V 0 (.alloc [O,O,O,O,O,O,O,O,O,O,O,O,O,O,O,O,O,O,O,O,O,O,O,O,O,O,O,O,O,O,O,O,O,O,O,O,O,O,O,O,O,O,O,O,O,O,O,O,O,O,O,O])]
abbrev Vu:=Rg [V 1 (.build [O,O,O,O] [(0,1,Q 4),(1,1,Q (-1)),(2,1,Q 1),(3,1,Q 0)]),V 2 (.build [O,O,O,O] [(0,1,Q 4),(1,1,Q (-1)),(2,1,Q 1),(3,1,Q 1)]),V 3 (.build [O,O,O,O] [(0,1,Q 4),(1,1,Q 0),(2,1,Q 2),(3,1,Q 0)]),V 4 (.build [O,O,O,O] [(0,1,Q 4),(1,1,Q 0),(2,1,Q 2),(3,1,Q 1)]),V 5 (.build [O,O,O,O] [(0,1,Q 2),(1,1,Q (-4)),(2,1,Q 4),(3,1,Q 0)]),V 6 (.build [O,O,O,O] [(0,1,Q 2),(1,1,Q (-4)),(2,1,Q 4),(3,1,Q 1)]),V 7 (.build [O,O,O,O] [(0,1,Q 2),(1,1,Q 0),(2,1,Q 7),(3,1,Q 1)]),V 8 (.build [O,O,O,O] [(0,1,Q 2),(1,1,Q 0),(2,1,Q 7),(3,1,Q 2)]),V 9 (.build [O,O,O,O] [(0,1,Q 2),(1,1,Q 0),(2,1,Q 12),(3,1,Q 1)]),V 10 (.build [O,O,O,O] [(0,1,Q 2),(1,1,Q 0),(2,1,Q 12),(3,1,Q 2)]),V 11 (.build [O,O,O,O] [(0,1,Q 2),(1,1,Q 0),(2,1,Q 16),(3,1,Q 2)]),V 12 (.build [O,O,O,O] [(0,1,Q 1),(1,1,Q (-60)),(2,1,Q 60),(3,1,Q 0)]),V 13 (.build [O,O,O,O,O,O,O,O,O,O,O,O,O,O,O,O,O,O,O,O,O,O,O,O,O,O,O,O,O,O,O,O,O,O,O,O,O,O,O,O,O,O,O,O,O,O,O,O,O,O,O,O] [(4,4,.m 1),(8,4,.m 2),(12,4,.m 3),(16,4,.m 4),(20,4,.m 5),(24,4,.m 6),(28,4,.m 7),(32,4,.m 8),(36,4,.m 9),(40,4,.m 10),(44,4,.m 11),(48,4,.m 12)]),Yd 52 0 13]
def akD:ae:=⟨0,[.cell 0 (some 52)],
 (.seq W3
 (.seq Vu
 .ret))⟩
abbrev Hl:=Rg [V 4 (.mov (.c (.d (.int .u32 0)))),V 5 (.mov (.c (.d (.int .u32 0)))),Z [4,5]]
abbrev H8:=Rg [A 7 0,V 8 (.conv .u64 (.m 7)),A 9 1,V 10 (.conv .u64 (.m 9)),L 11 .mul 8 10,A 6 11]
abbrev H9:=Rg [B 12 6,V 13 (.bin .shr (.m 12) (.c (.d (.int .u64 32)))),V 14 (.conv .u32 (.m 13)),A 15 6,V 16 (.conv .u32 (.m 15)),A 4 14,A 5 16]
def Qq:ae:=⟨2,[.tmp 4,.tmp 5],
 (.seq Hl
 (.seq H8
 (.seq H9
 .ret)))⟩
abbrev He:=Rg [V 4 (.mov (.c (.d (.int .u64 0)))),V 5 (.mov (.c (.d (.int .u64 0)))),Z [4,5]]
abbrev HV:=Rg [B 14 0,V 15 (.bin .and (.m 14) (.c (.d (.int .u64 4294967295)))),A 6 15]
abbrev HZ:=Rg [B 16 0,V 17 (.bin .shr (.m 16) (.c (.d (.int .u64 32)))),A 7 17]
abbrev Ia:=Rg [B 18 1,V 19 (.bin .and (.m 18) (.c (.d (.int .u64 4294967295)))),A 8 19]
abbrev Hu:=Rg [B 20 1,V 21 (.bin .shr (.m 20) (.c (.d (.int .u64 32)))),A 9 21]
abbrev Jr:=Rg [B 22 6,B 23 8,L 24 .mul 22 23,A 10 24]
abbrev Iw:=Rg [B 25 7,A 26 8,L 27 .mul 25 26,A 28 10,V 29 (.bin .shr (.m 28) (.c (.d (.int .u64 32)))),L 30 .add 27 29,A 11 30]
abbrev Hq:=Rg [B 31 11,V 32 (.bin .and (.m 31) (.c (.d (.int .u64 4294967295)))),A 12 32]
abbrev Ja:=Rg [A 33 11,V 34 (.bin .shr (.m 33) (.c (.d (.int .u64 32)))),A 13 34]
abbrev IY:=Rg [A 35 12,A 36 6,B 37 9,L 38 .mul 36 37,L 39 .add 35 38,A 12 39]
abbrev GJ:=Rg [A 40 7,A 41 9,L 42 .mul 40 41,A 43 13,L 44 .add 42 43,A 45 12,V 46 (.bin .shr (.m 45) (.c (.d (.int .u64 32)))),L 47 .add 44 46,A 4 47]
abbrev FI:=Rg [A 48 0,A 49 1,L 50 .mul 48 49,A 5 50]
def QC:ae:=⟨2,[.tmp 4,.tmp 5],
 (.seq He
 (.seq HV
 (.seq HZ
 (.seq Ia
 (.seq Hu
 (.seq Jr
 (.seq Iw
 (.seq Hq
 (.seq Ja
 (.seq IY
 (.seq GJ
 (.seq FI
 .ret))))))))))))⟩
abbrev vk:=Rg [C 6 (Q 20)]
abbrev uZ:=Rg [B 10 6,C 7 (Q 0),A 8 10]
abbrev uY:=Rg [B 11 8,B 12 1,L 13 .leq 11 12]
abbrev vz:=Rg [B 14 0,A 15 7,B 16 8,B 17 2,V 18 (.calli cY [.m 14,.m 15,.m 16,.m 17]),Z [18]]
abbrev uV:=Rg [B 19 8,A 7 19]
abbrev vj:=Rg [A 20 8,B 21 6,L 22 .add 20 21,A 8 22]
def dK:VC:=(.seq (.seq uY
 (.cond (.m 13)
 .skip
 (.seq (K [8]) (.exit 0))))
 (.block 1
 (.seq vz
 (.seq uV
 vj))))
abbrev ve:=Rg [B 23 0,A 24 7,B 25 1,B 26 2,V 27 (.calli cY [.m 23,.m 24,.m 25,.m 26]),Z [27]]
abbrev u7:=Rg [B 28 6,B 29 1,L 30 .lss 28 29]
abbrev vx:=Rg [B 31 6,V 32 (.bin .mul (Q 2) (.m 31)),C 7 (Q 0),A 8 32]
abbrev vp:=Rg [B 33 8,B 34 1,L 35 .leq 33 34]
abbrev tZ:=Rg [B 36 0,B 37 7,A 38 7,B 39 6,L 40 .add 38 39,B 41 8,B 42 2,V 43 (.calli aF [.m 36,.m 37,.m 40,.m 41,.m 42]),Z [43]]
abbrev uH:=Rg [B 44 8,A 7 44]
abbrev uK:=Rg [A 45 8,B 46 6,V 47 (.bin .mul (Q 2) (.m 46)),L 48 .add 45 47,A 8 48]
def dJ:VC:=(.seq (.seq vp
 (.cond (.m 35)
 .skip
 (.seq (K [8]) (.exit 4))))
 (.block 5
 (.seq tZ
 (.seq uH
 uK))))
abbrev t9:=Rg [B 49 7,B 50 6,L 51 .add 49 50,A 9 51]
abbrev uI:=Rg [B 52 9,B 53 1,L 54 .lss 52 53]
abbrev tS:=Rg [B 55 0,A 56 7,A 57 9,B 58 1,B 59 2,V 60 (.calli aF [.m 55,.m 56,.m 57,.m 58,.m 59]),Z [60]]
abbrev tT:=Rg [A 61 6,P 62 .mul 61 2,A 6 62]
def dL:VC:=(.seq (.seq u7
 (.cond (.m 30)
 .skip
 (.seq (K [0,1,2,6]) (.exit 2))))
 (.block 3
 (.seq vx
 (.seq (.block 4
 (.seq (.loop dJ) (K [8])))
 (.seq (.seq t9
 (.seq uI
 (.cond (.m 54)
 tS
 (.seq (K [7,9]) .skip))))
 tT)))))
def iR:ae:=⟨3,[],
 (.seq vk
 (.seq uZ
 (.seq (.block 0
 (.seq (.loop dK) (K [8])))
 (.seq ve
 (.block 2
 (.seq (.loop dL) (K [0,1,2,6])))))))⟩
abbrev Jo:=Rg [C 2 ff,Z [2]]
abbrev Hn:=Rg [B 3 0,A 4 0,L 5 .neq 3 4,A 2 5]
def pJ:ae:=⟨1,[.tmp 2],
 (.seq Jo
 (.seq Hn
 .ret))⟩
abbrev ow:=Rg [B 10 1,P 11 .add 10 1,A 8 11]
abbrev nT:=Rg [B 12 8,B 13 2,L 14 .lss 12 13]
abbrev oa:=Rg [B 17 8,A 9 17]
abbrev io:=[B 18 9,B 19 1,L 20 .gtr 18 19,A 21 20,W 21 22 (.mov (.s 3)),W 21 23 (.mov (.s 0)),W 21 24 (.mov (.s 9)),W 21 25 (.ia 1 (.s 23) (.s 24)),W 21 26 (.ld none 0 (.s 25)),W 21 27 (.mov (.s 0)),W 21 28 (.mov (.s 9)),W 21 29 (.bin .sub (.s 28) (Q 1)),W 21 30 (.ia 1 (.s 27) (.s 29)),W 21 31 (.ld none 0 (.s 30)),W 21 32 (.callv (.s 22) [.s 26,.s 31]),W 21 33 (.bin .lss (.s 32) (Q 0)),V 34 (.pick (.s 21) (.s 33) ff)]
def il:VC:=.regP (.range 17) (.range 17) [] io
abbrev iG:=[B 37 0,B 38 9,B 39 0,B 40 9,P 41 .sub 40 1,B 42 0,B 43 9,P 44 .sub 43 1,V 45 (.ia 1 (.m 42) (.m 44)),M 46 45,B 47 0,B 48 9,V 49 (.ia 1 (.m 47) (.m 48)),M 50 49,V 51 (.ia 1 (.m 37) (.m 38)),N (.st 1 (.m 51) (.m 46)),V 52 (.ia 1 (.m 39) (.m 41)),N (.st 1 (.m 52) (.m 50))]
def gT:VC:=.regP (.range 18) [0,1,5,6,7,8,9,10,11,12,13,14,15,2,3,4,16,17] [] iG
abbrev nQ:=Rg [A 35 9,P 36 .sub 35 1,A 9 36]
def cq:VC:=(.seq (.seq (.seq il (K [21,22,23,24,25,26,27,28,29,30,31,32,33]))
 (.cond (.m 34)
 .skip
 (.seq (K [9]) (.exit 2))))
 (.seq (.block 3
 gT)
 nQ))
abbrev nV:=Rg [A 15 8,P 16 .add 15 1,A 8 16]
def cm:VC:=(.seq (.seq nT
 (.cond (.m 14)
 .skip
 (.seq (K [0,1,2,3,8]) (.exit 0))))
 (.seq (.block 1
 (.seq oa
 (.block 2
 (.seq (.loop cq) (K [9])))))
 nV))
def eD:ae:=⟨4,[],
 (.seq ow
 (.block 0
 (.seq (.loop cm) (K [0,1,2,3,8]))))⟩
abbrev tk:=Rg [B 25 2,B 26 1,L 27 .sub 25 26,P 28 .eql 27 1]
abbrev sT:=Rg [A 29 2,A 10 29]
abbrev tc:=Rg [A 30 3,A 11 30]
abbrev tu:=Rg [B 31 10,B 32 11,L 33 .lss 31 32]
abbrev te:=Rg [B 34 10,B 35 11,L 36 .add 34 35,V 37 (.conv .u64 (.m 36)),V 38 (.bin .shr (.m 37) (.c (.d (.int .u64 1)))),V 39 (.conv .i64 (.m 38)),A 12 39]
abbrev ku:=[B 40 4,B 41 0,B 42 12,V 43 (.ia 1 (.m 41) (.m 42)),M 44 43,B 45 0,B 46 1,V 47 (.ia 1 (.m 45) (.m 46)),M 48 47,V 49 (.callv (.m 40) [.m 44,.m 48]),P 50 .lss 49 0]
def jN:VC:=.regP (.range 11) (.range 11) [] ku
abbrev sU:=Rg [A 51 12,P 52 .add 51 1,A 10 52]
abbrev sX:=Rg [A 53 12,A 11 53]
def dj:VC:=(.seq (.seq tu
 (.cond (.m 33)
 .skip
 (.seq (K [4,11]) (.exit 0))))
 (.block 1
 (.seq te
 (.seq jN
 (.cond (.m 50)
 (.seq (K [10]) sU)
 (.seq (K [11]) sX))))))
abbrev ti:=Rg [A 54 1,A 13 54]
abbrev sZ:=Rg [B 55 13,B 56 10,P 57 .sub 56 1,L 58 .lss 55 57]
abbrev jP:=[B 61 0,B 62 13,B 63 0,B 64 13,P 65 .add 64 1,B 66 0,B 67 13,P 68 .add 67 1,V 69 (.ia 1 (.m 66) (.m 68)),M 70 69,B 71 0,B 72 13,V 73 (.ia 1 (.m 71) (.m 72)),M 74 73,V 75 (.ia 1 (.m 61) (.m 62)),N (.st 1 (.m 75) (.m 70)),V 76 (.ia 1 (.m 63) (.m 65)),N (.st 1 (.m 76) (.m 74))]
def ju:VC:=.regP (.range 18) [0,1,5,6,7,8,9,10,11,12,13,14,15,2,3,4,16,17] [] jP
abbrev rE:=Rg [A 59 13,P 60 .add 59 1,A 13 60]
def dl:VC:=(.seq (.seq sZ
 (.cond (.m 58)
 .skip
 (.seq (K [0,10,13]) (.exit 2))))
 (.seq (.block 3
 ju)
 rE))
abbrev qQ:=Rg [B 77 3,B 78 2,L 79 .sub 77 78,P 80 .eql 79 1]
abbrev qW:=Rg [A 81 1,A 14 81]
abbrev qF:=Rg [B 82 2,A 15 82]
abbrev qE:=Rg [B 83 14,B 84 15,L 85 .lss 83 84]
abbrev rM:=Rg [B 86 14,B 87 15,L 88 .add 86 87,V 89 (.conv .u64 (.m 88)),V 90 (.bin .shr (.m 89) (.c (.d (.int .u64 1)))),V 91 (.conv .i64 (.m 90)),A 16 91]
abbrev jQ:=[B 92 4,B 93 0,B 94 2,V 95 (.ia 1 (.m 93) (.m 94)),M 96 95,B 97 0,B 98 16,V 99 (.ia 1 (.m 97) (.m 98)),M 100 99,V 101 (.callv (.m 92) [.m 96,.m 100]),P 102 .lss 101 0,V 103 (.un .not (.m 102))]
def jF:VC:=.regP (.range 12) (.range 12) [] jQ
abbrev rD:=Rg [A 104 16,P 105 .add 104 1,A 14 105]
abbrev qA:=Rg [A 106 16,A 15 106]
def dk:VC:=(.seq (.seq qE
 (.cond (.m 85)
 .skip
 (.seq (K [4,15]) (.exit 4))))
 (.block 5
 (.seq rM
 (.seq jF
 (.cond (.m 103)
 (.seq (K [14]) rD)
 (.seq (K [15]) qA))))))
abbrev qH:=Rg [A 107 2,A 17 107]
abbrev qV:=Rg [B 108 17,B 109 14,L 110 .gtr 108 109]
abbrev jO:=[B 113 0,B 114 17,B 115 0,B 116 17,P 117 .sub 116 1,B 118 0,B 119 17,P 120 .sub 119 1,V 121 (.ia 1 (.m 118) (.m 120)),M 122 121,B 123 0,B 124 17,V 125 (.ia 1 (.m 123) (.m 124)),M 126 125,V 127 (.ia 1 (.m 113) (.m 114)),N (.st 1 (.m 127) (.m 122)),V 128 (.ia 1 (.m 115) (.m 117)),N (.st 1 (.m 128) (.m 126))]
def jG:VC:=.regP (.range 18) [0,1,5,6,7,8,9,10,11,12,13,14,15,2,3,4,16,17] [] jO
abbrev rU:=Rg [A 111 17,P 112 .sub 111 1,A 17 112]
def dp:VC:=(.seq (.seq qV
 (.cond (.m 110)
 .skip
 (.seq (K [0,14,17]) (.exit 6))))
 (.seq (.block 7
 jG)
 rU))
abbrev qT:=Rg [B 129 1,B 130 3,L 131 .add 129 130,V 132 (.conv .u64 (.m 131)),V 133 (.bin .shr (.m 132) (.c (.d (.int .u64 1)))),V 134 (.conv .i64 (.m 133)),A 18 134]
abbrev qL:=Rg [B 135 18,B 136 2,L 137 .add 135 136,A 19 137]
abbrev qY:=Rg [C 20 (Q 0),C 21 (Q 0),Z [20,21]]
abbrev rZ:=Rg [B 138 2,B 139 18,L 140 .gtr 138 139]
abbrev rB:=Rg [B 141 19,B 142 3,L 143 .sub 141 142,A 20 143]
abbrev rg:=Rg [B 144 18,A 21 144]
abbrev rF:=Rg [B 145 1,A 20 145]
abbrev qS:=Rg [B 146 2,A 21 146]
abbrev qU:=Rg [B 147 19,P 148 .sub 147 1,A 22 148]
abbrev rT:=Rg [B 149 20,B 150 21,L 151 .lss 149 150]
abbrev rG:=Rg [B 152 20,B 153 21,L 154 .add 152 153,V 155 (.conv .u64 (.m 154)),V 156 (.bin .shr (.m 155) (.c (.d (.int .u64 1)))),V 157 (.conv .i64 (.m 156)),A 23 157]
abbrev jM:=[B 158 4,B 159 0,B 160 22,B 161 23,L 162 .sub 160 161,V 163 (.ia 1 (.m 159) (.m 162)),M 164 163,B 165 0,B 166 23,V 167 (.ia 1 (.m 165) (.m 166)),M 168 167,V 169 (.callv (.m 158) [.m 164,.m 168]),P 170 .lss 169 0,V 171 (.un .not (.m 170))]
def jD:VC:=.regP (.range 14) (.range 14) [] jM
abbrev rP:=Rg [A 172 23,P 173 .add 172 1,A 20 173]
abbrev rH:=Rg [A 174 23,A 21 174]
def dn:VC:=(.seq (.seq rT
 (.cond (.m 151)
 .skip
 (.seq (K [21,22]) (.exit 8))))
 (.block 9
 (.seq rG
 (.seq jD
 (.cond (.m 171)
 (.seq (K [20]) rP)
 (.seq (K [21]) rH))))))
abbrev rY:=Rg [A 175 19,B 176 20,L 177 .sub 175 176,A 24 177]
abbrev qM:=Rg [B 178 20,B 179 2,L 180 .lss 178 179,A 181 180,W 181 182 (.mov (.s 2)),W 181 183 (.mov (.s 24)),W 181 184 (.bin .lss (.s 182) (.s 183)),V 185 (.pick (.m 181) (.s 184) ff),Z [182,183,184]]
abbrev rR:=Rg [B 186 0,B 187 20,A 188 2,B 189 24,B 190 4,V 191 (.calli iI [.m 186,.m 187,.m 188,.m 189,.m 190]),Z [191]]
abbrev qB:=Rg [B 192 1,B 193 20,L 194 .lss 192 193,A 195 194,W 195 196 (.mov (.s 20)),W 195 197 (.mov (.s 18)),W 195 198 (.bin .lss (.s 196) (.s 197)),V 199 (.pick (.m 195) (.s 198) ff),Z [196,197,198]]
abbrev qR:=Rg [B 200 0,A 201 1,A 202 20,B 203 18,B 204 4,V 205 (.calli aF [.m 200,.m 201,.m 202,.m 203,.m 204]),Z [205]]
abbrev qI:=Rg [B 206 18,B 207 24,L 208 .lss 206 207,A 209 208,W 209 210 (.mov (.s 24)),W 209 211 (.mov (.s 3)),W 209 212 (.bin .lss (.s 210) (.s 211)),V 213 (.pick (.m 209) (.s 212) ff),Z [210,211,212]]
abbrev rW:=Rg [A 214 0,A 215 18,A 216 24,A 217 3,A 218 4,V 219 (.calli aF [.m 214,.m 215,.m 216,.m 217,.m 218]),Z [219]]
def bv:ae:=⟨5,[],
 (.seq (.seq tk
 (.cond (.m 28)
 (.seq sT
 (.seq tc
 (.seq (.block 0
 (.seq (.loop dj) (K [4,11])))
 (.seq (.seq ti
 (.block 2
 (.seq (.loop dl) (K [0,10,13]))))
 .ret))))
 .skip))
 (.seq (.seq qQ
 (.cond (.m 80)
 (.seq (K [3]) (.seq qW
 (.seq qF
 (.seq (.block 4
 (.seq (.loop dk) (K [4,15])))
 (.seq (.seq qH
 (.block 6
 (.seq (.loop dp) (K [0,14,17]))))
 .ret)))))
 .skip))
 (.seq qT
 (.seq qL
 (.seq qY
 (.seq (.seq rZ
 (.cond (.m 140)
 (.seq rB
 rg)
 (.seq rF
 qS)))
 (.seq qU
 (.seq (.block 8
 (.seq (.loop dn) (K [21,22])))
 (.seq rY
 (.seq (.seq qM
 (.cond (.m 185)
 rR
 (.seq (K [2]) .skip)))
 (.seq (.seq qB
 (.cond (.m 199)
 qR
 (.seq (K [1,20]) .skip)))
 (.seq qI
 (.cond (.m 213)
 rW
 (.seq (K [0,3,4,18,24]) .skip))))))))))))))⟩
abbrev uU:=Rg [B 12 2,A 13 1,L 14 .sub 12 13,A 10 14]
abbrev vt:=Rg [A 15 3,B 16 2,L 17 .sub 15 16,A 11 17]
abbrev uW:=Rg [B 18 10,B 19 11,L 20 .neq 18 19]
abbrev vu:=Rg [B 21 10,B 22 11,L 23 .gtr 21 22]
abbrev vE:=Rg [B 24 0,B 25 2,B 26 10,L 27 .sub 25 26,B 28 2,B 29 11,B 30 4,V 31 (.calli cG [.m 24,.m 27,.m 28,.m 29,.m 30]),Z [31]]
abbrev uX:=Rg [A 32 10,B 33 11,L 34 .sub 32 33,A 10 34]
abbrev vC:=Rg [B 35 0,B 36 2,B 37 10,L 38 .sub 36 37,B 39 2,B 40 11,L 41 .add 39 40,B 42 10,L 43 .sub 41 42,B 44 10,B 45 4,V 46 (.calli cG [.m 35,.m 38,.m 43,.m 44,.m 45]),Z [46]]
abbrev u6:=Rg [A 47 11,B 48 10,L 49 .sub 47 48,A 11 49]
def gm:VC:=(.seq (.seq uW
 (.cond (.m 20)
 .skip
 (.seq (K [11]) (.exit 0))))
 (.block 1
 (.seq vu
 (.cond (.m 23)
 (.seq vE
 uX)
 (.seq vC
 u6)))))
abbrev u9:=Rg [A 50 0,B 51 2,B 52 10,L 53 .sub 51 52,A 54 2,A 55 10,A 56 4,V 57 (.calli cG [.m 50,.m 53,.m 54,.m 55,.m 56]),Z [57]]
def iJ:ae:=⟨5,[],
 (.seq uU
 (.seq vt
 (.seq (.block 0
 (.seq (.loop gm) (K [11])))
 u9)))⟩
abbrev qG:=Rg [C 10 (Q 0)]
abbrev qP:=Rg [B 11 10,B 12 3,L 13 .lss 11 12]
abbrev jL:=[B 16 0,B 17 1,B 18 10,L 19 .add 17 18,B 20 0,B 21 2,B 22 10,L 23 .add 21 22,B 24 0,B 25 2,B 26 10,L 27 .add 25 26,V 28 (.ia 1 (.m 24) (.m 27)),M 29 28,B 30 0,B 31 1,B 32 10,L 33 .add 31 32,V 34 (.ia 1 (.m 30) (.m 33)),M 35 34,V 36 (.ia 1 (.m 16) (.m 19)),N (.st 1 (.m 36) (.m 29)),V 37 (.ia 1 (.m 20) (.m 23)),N (.st 1 (.m 37) (.m 35))]
def jn:VC:=.regP (.range 24) [0,1,2,3,8,9,10,11,12,13,14,15,16,17,18,19,20,21,4,5,6,7,22,23] [] jL
abbrev qN:=Rg [A 14 10,P 15 .add 14 1,A 10 15]
def dc:VC:=(.seq (.seq qP
 (.cond (.m 13)
 .skip
 (.seq (K [0,1,2,3,10]) (.exit 0))))
 (.seq (.block 1
 jn)
 qN))
def gj:ae:=⟨5,[],
 (.seq (K [4]) (.seq qG
 (.block 0
 (.seq (.loop dc) (K [0,1,2,3,10])))))⟩
def auF:T:=(.node 74 tO (.node 38 xh (.node 20 AZ (.node 11 Eb (.node 7 DU (.node 5 ln (.node 4 c8 (.node 3 C1 .leaf .leaf) .leaf) (.node 6 F6 .leaf .leaf)) (.node 9 lG (.node 8 ou .leaf .leaf) (.node 10 Jm .leaf .leaf))) (.node 16 Ix (.node 14 Hm (.node 13 Is (.node 12 alQ .leaf .leaf) .leaf) (.node 15 Hw .leaf .leaf)) (.node 18 wR (.node 17 EQ .leaf .leaf) (.node 19 zn .leaf .leaf)))) (.node 29 By (.node 25 v7 (.node 23 BD (.node 22 tJ (.node 21 zZ .leaf .leaf) .leaf) (.node 24 wl .leaf .leaf)) (.node 27 uo (.node 26 v9 .leaf .leaf) (.node 28 wb .leaf .leaf))) (.node 34 D6 (.node 32 wz (.node 31 wB (.node 30 vW .leaf .leaf) .leaf) (.node 33 Bn .leaf .leaf)) (.node 36 Ec (.node 35 Jj .leaf .leaf) (.node 37 Et .leaf .leaf))))) (.node 56 mT (.node 47 xo (.node 43 EY (.node 41 Fk (.node 40 uG (.node 39 E1 .leaf .leaf) .leaf) (.node 42 Jl .leaf .leaf)) (.node 45 EP (.node 44 E7 .leaf .leaf) (.node 46 Em .leaf .leaf))) (.node 52 I0 (.node 50 IG (.node 49 D7 (.node 48 yM .leaf .leaf) .leaf) (.node 51 IE .leaf .leaf)) (.node 54 Aq (.node 53 v8 .leaf .leaf) (.node 55 Dc .leaf .leaf)))) (.node 65 yu (.node 61 CN (.node 59 l9 (.node 58 jC (.node 57 BN .leaf .leaf) .leaf) (.node 60 Eh .leaf .leaf)) (.node 63 CA (.node 62 CF .leaf .leaf) (.node 64 Ct .leaf .leaf))) (.node 70 fT (.node 68 EB (.node 67 yN (.node 66 yw .leaf .leaf) .leaf) (.node 69 nE .leaf .leaf)) (.node 72 uB (.node 71 rQ .leaf .leaf) (.node 73 tQ .leaf .leaf)))))) (.node 110 uL (.node 92 Fa (.node 83 ahu (.node 79 wa (.node 77 yJ (.node 76 wV (.node 75 yd .leaf .leaf) .leaf) (.node 78 wJ .leaf .leaf)) (.node 81 Fb (.node 80 Mq .leaf .leaf) (.node 82 acV .leaf .leaf))) (.node 88 uN (.node 86 lD (.node 85 Fh (.node 84 BH .leaf .leaf) .leaf) (.node 87 D9 .leaf .leaf)) (.node 90 H0 (.node 89 GZ .leaf .leaf) (.node 91 wU .leaf .leaf)))) (.node 101 CD (.node 97 yS (.node 95 gk (.node 94 Fg (.node 93 Eg .leaf .leaf) .leaf) (.node 96 rX .leaf .leaf)) (.node 99 mW (.node 98 Ej .leaf .leaf) (.node 100 Cn .leaf .leaf))) (.node 106 yi (.node 104 ui (.node 103 vT (.node 102 E4 .leaf .leaf) .leaf) (.node 105 Fj .leaf .leaf)) (.node 108 kV (.node 107 pD .leaf .leaf) (.node 109 zH .leaf .leaf))))) (.node 128 pB (.node 119 yn (.node 115 iQ (.node 113 pC (.node 112 ep (.node 111 uO .leaf .leaf) .leaf) (.node 114 uu .leaf .leaf)) (.node 117 HR (.node 116 ul .leaf .leaf) (.node 118 YT .leaf .leaf))) (.node 124 OO (.node 122 Cj (.node 121 rk (.node 120 apT .leaf .leaf) .leaf) (.node 123 mY .leaf .leaf)) (.node 126 Yg (.node 125 py .leaf .leaf) (.node 127 T7 .leaf .leaf)))) (.node 137 Qq (.node 133 uA (.node 131 mZ (.node 130 Ci (.node 129 gE .leaf .leaf) .leaf) (.node 132 eJ .leaf .leaf)) (.node 135 gv (.node 134 oy .leaf .leaf) (.node 136 akD .leaf .leaf))) (.node 141 eD (.node 139 iR (.node 138 QC .leaf .leaf) (.node 140 pJ .leaf .leaf)) (.node 143 iJ (.node 142 bv .leaf .leaf) (.node 144 gj .leaf .leaf)))))))
def prog:Nat→Option ae:=auF.look
@[simp] theorem awq {x0:AV}{y1:D}{x6:AV}{h:ac}{n:Nat}:(Dn prog).code Jy ⟨[(0,x0),(1,.d y1),(6,x6)],⟨h,n⟩⟩=bp (bU prog K9 [(0,x0),(1,.d y1),(6,x6)] ⟨h,n⟩):=bl (by kernel_rfl) (by kernel_rfl) (by kernel_rfl)
@[simp] theorem avF {x6:AV}{x11:AV}{x12:AV}{x13:AV}{h:ac}{n:Nat}:(Dn prog).code JL ⟨[(6,x6),(11,x11),(12,x12),(13,x13)],⟨h,n⟩⟩=bp (bA (cP h none (share x11)) fun a1=>bA (gy 0 (share x13)) fun a2=>bA (cP h none (firm a2)) fun a3=>bA (gy 8 (share x6)) fun a4=>bA (cP ((bO (bm (firm a4)++[]) h)) none (firm a4)) fun a5=>bA (gy 1 (share x13)) fun a6=>bA (cP ((bO (bm (firm a6)++[]) h)) none (firm a6)) fun a7=>bA (gy 2 (share x13)) fun a8=>bA (cP ((bO (bm (firm a8)++[]) h)) none (firm a8)) fun a9=>bA (pw ((bO (bm (firm a5)++[]) h)) 1 (firm a5) (some (firm a7)) (some (firm a9)) none) fun a10=>bP ((Dn prog).call iq [firm a1,firm a3] ⟨h,n⟩) fun a11 s12=>bI (bM (((bm (firm a5)++[])++((bm (firm a8)++[])++((bm (firm a6)++[])++((bm (firm a4)++[])++[]))))) h s12.heap) <| bA (bZ (Dn prog) Au [.nl,firm a11,firm a10] s12.heap) fun a13=>bA (rL true (firm (firm a13)) 0) fun a14=>bA (rL false (HY (firm (firm a13)) 0) 1) fun a15=>some ⟨[(6,x6),(11,x11),(12,x12),(13,x13),(14,firm (firm a14)),(15,firm (firm a15)),(88,HY (firm (firm a13)) 0)],⟨s12.heap,s12.next⟩⟩):=cx rfl rfl (by kernel_rfl)
@[simp] theorem axm {x10:AV}{x11:AV}{x12:AV}{h:ac}{n:Nat}:(Dn prog).code KX ⟨[(10,x10),(11,x11),(12,x12)],⟨h,n⟩⟩=bp (bA (ck [O,O8,O8,O,.nl,.nl,.nl,.nl,.nl] []) fun a1=>bA (cP ((bO (bm x12++[]) h)) none (share x12)) fun a2=>bA (storeAt h 9 (share x10) (firm (.agg a1))) fun h3=>bI (bM (((bm x12++[])++[])) h h3) <| bA (storeAt h3 1 (share x11) (O)) fun h4=>bI (bM (((bm x12++[])++[])) h3 h4) <| bA (storeAt h4 1 (share x12) (firm a2)) fun h5=>some ⟨[(10,x10),(11,x11),(12,x12)],⟨h5,n⟩⟩):=cx rfl rfl (by kernel_rfl)
@[simp] theorem axl {x10:AV}{x11:AV}{x12:AV}{h:ac}{n:Nat}:(Dn prog).code LE ⟨[(10,x10),(11,x11),(12,x12)],⟨h,n⟩⟩=bp (bA (ck [O,O8,O8,O,.nl,.nl,.nl,.nl,.nl] []) fun a1=>bA (cP ((bO (bm x12++[]) h)) none (share x12)) fun a2=>bA (storeAt h 9 (share x10) (firm (.agg a1))) fun h3=>bI (bM (((bm x12++[])++[])) h h3) <| bA (storeAt h3 1 (share x11) (O)) fun h4=>bI (bM (((bm x12++[])++[])) h3 h4) <| bA (storeAt h4 1 (share x12) (firm a2)) fun h5=>some ⟨[(10,x10),(11,x11),(12,x12)],⟨h5,n⟩⟩):=cx rfl rfl (by kernel_rfl)
@[simp] theorem axk {x10:AV}{x11:AV}{x12:AV}{h:ac}{n:Nat}:(Dn prog).code Ll ⟨[(10,x10),(11,x11),(12,x12)],⟨h,n⟩⟩=bp (bA (ck [O,O8,O8,O,.nl,.nl,.nl,.nl,.nl] []) fun a1=>bA (cP ((bO (bm x12++[]) h)) none (share x12)) fun a2=>bA (storeAt h 9 (share x10) (firm (.agg a1))) fun h3=>bI (bM (((bm x12++[])++[])) h h3) <| bA (storeAt h3 1 (share x11) (O)) fun h4=>bI (bM (((bm x12++[])++[])) h3 h4) <| bA (storeAt h4 1 (share x12) (firm a2)) fun h5=>some ⟨[(10,x10),(11,x11),(12,x12)],⟨h5,n⟩⟩):=cx rfl rfl (by kernel_rfl)
@[simp] theorem awO {x10:AV}{x11:AV}{x12:AV}{h:ac}{n:Nat}:(Dn prog).code Jz ⟨[(10,x10),(11,x11),(12,x12)],⟨h,n⟩⟩=bp (bA (ck [O,O8,O8,O,.nl,.nl,.nl,.nl,.nl] []) fun a1=>bA (cP ((bO (bm x12++[]) h)) none (share x12)) fun a2=>bA (storeAt h 9 (share x10) (firm (.agg a1))) fun h3=>bI (bM (((bm x12++[])++[])) h h3) <| bA (storeAt h3 1 (share x11) (O)) fun h4=>bI (bM (((bm x12++[])++[])) h3 h4) <| bA (storeAt h4 1 (share x12) (firm a2)) fun h5=>some ⟨[(10,x10),(11,x11),(12,x12)],⟨h5,n⟩⟩):=cx rfl rfl (by kernel_rfl)
@[simp] theorem awN {x5:AV}{x10:AV}{x11:AV}{x12:AV}{x18:AV}{x19:AV}{h:ac}{n:Nat}:(Dn prog).code qd ⟨[(5,x5),(10,x10),(11,x11),(12,x12),(18,x18),(19,x19)],⟨h,n⟩⟩=bp (bA (cP ((bO (bm x5++[]) h)) none x5) fun a1=>bA (cP ((bO (bm x11++[]) h)) none (share x11)) fun a2=>bA (cP h none (share x18)) fun a3=>bA (gy 0 (share x19)) fun a4=>bA (cP h none (firm a4)) fun a5=>bP ((Dn prog).call iq [firm a3,firm a5] ⟨h,n⟩) fun a6 s7=>bI (bM (((bm x11++[])++((bm x5++[])++[]))) h s7.heap) <| bA (bZ (Dn prog) oN [firm a1,firm a2,firm a6] s7.heap) fun a8=>bA (rL true (firm (firm a8)) 0) fun a9=>bA (rL false (HY (firm (firm a8)) 0) 1) fun a10=>bA (rL false (HY (firm (firm a8)) 0) 2) fun a11=>bA (storeAt s7.heap 1 (share x11) (firm a10)) fun h12=>bA (storeAt h12 1 (share x12) (firm a11)) fun h13=>some ⟨[(10,x10),(11,x11),(12,x12),(18,x18),(19,x19),(20,firm (firm a9)),(84,HY (firm (firm a8)) 0)],⟨h13,s7.next⟩⟩):=cx rfl rfl (by kernel_rfl)
@[simp] theorem avB {x10:AV}{x11:AV}{x12:AV}{h:ac}{n:Nat}:(Dn prog).code qx ⟨[(10,x10),(11,x11),(12,x12)],⟨h,n⟩⟩=bp (bA (ck [O,O8,O8,O,.nl,.nl,.nl,.nl,.nl] []) fun a1=>bA (cP ((bO (bm x12++[]) h)) none (share x12)) fun a2=>bA (storeAt h 9 x10 (firm (.agg a1))) fun h3=>bI (bM (((bm x12++[])++[])) h h3) <| bA (storeAt h3 1 x11 (O)) fun h4=>bI (bM (((bm x12++[])++[])) h3 h4) <| bA (storeAt h4 1 (share x12) (firm a2)) fun h5=>some ⟨[(12,x12)],⟨h5,n⟩⟩):=cx rfl rfl (by kernel_rfl)
@[simp] theorem avG {x10:AV}{x11:AV}{x12:AV}{h:ac}{n:Nat}:(Dn prog).code Js ⟨[(10,x10),(11,x11),(12,x12)],⟨h,n⟩⟩=bp (bA (cP h (some 9) (share x10)) fun a1=>bA (cP ((bO (bm x11++[]) h)) none (share x11)) fun a2=>bA (storeAt h 9 (share x10) (firm a1)) fun h3=>bI (bM (((bm x11++[])++[])) h h3) <| bA (storeAt h3 1 (share x11) (firm a2)) fun h4=>bA (storeAt h4 1 (share x12) (O)) fun h5=>some ⟨[(10,x10),(11,x11),(12,x12)],⟨h5,n⟩⟩):=cx rfl rfl (by kernel_rfl)
@[simp] theorem asr {x4:AV}{x11:AV}{y15:D}{y16:D}{h:ac}{n:Nat}:(Dn prog).code Dr ⟨[(4,x4),(11,x11),(15,.d y15),(16,.d y16)],⟨h,n⟩⟩=bp (bU prog FU [(4,x4),(11,x11),(15,.d y15),(16,.d y16)] ⟨h,n⟩):=bl (by kernel_rfl) (by kernel_rfl) (by kernel_rfl)
@[simp] theorem asq {x4:AV}{x11:AV}{y15:D}{y16:D}{h:ac}{n:Nat}:(Dn prog).code DT ⟨[(4,x4),(11,x11),(15,.d y15),(16,.d y16)],⟨h,n⟩⟩=bp (bU prog Gp [(4,x4),(11,x11),(15,.d y15),(16,.d y16)] ⟨h,n⟩):=bl (by kernel_rfl) (by kernel_rfl) (by kernel_rfl)
@[simp] theorem auM {x0:AV}{x4:AV}{x15:AV}{x16:AV}{x17:AV}{y20:D}{y21:D}{x69:AV}{y70:D}{y71:D}{h:ac}{n:Nat}:(Dn prog).code Gb ⟨[(0,x0),(4,x4),(15,x15),(16,x16),(17,x17),(20,.d y20),(21,.d y21),(69,x69),(70,.d y70),(71,.d y71)],⟨h,n⟩⟩=bp (bU prog Jx [(0,x0),(4,x4),(15,x15),(16,x16),(17,x17),(20,.d y20),(21,.d y21),(69,x69),(70,.d y70),(71,.d y71)] ⟨h,n⟩):=bl (by kernel_rfl) (by kernel_rfl) (by kernel_rfl)
@[simp] theorem apz {x0:AV}{y1:D}{x4:AV}{h:ac}{n:Nat}:(Dn prog).code xN ⟨[(0,x0),(1,.d y1),(4,x4)],⟨h,n⟩⟩=bp (bU prog zM [(0,x0),(1,.d y1),(4,x4)] ⟨h,n⟩):=bl (by kernel_rfl) (by kernel_rfl) (by kernel_rfl)
@[simp] theorem awu {x6:AV}{x7:AV}{x8:AV}{h:ac}{n:Nat}:(Dn prog).code JD ⟨[(6,x6),(7,x7),(8,x8)],⟨h,n⟩⟩=bp (bA (cP h (some 4) (share x6)) fun a1=>bA (cP ((bO (bm x8++[]) h)) none (share x8)) fun a2=>bA (storeAt h 4 (share x6) (firm a1)) fun h3=>bI (bM (((bm x8++[])++[])) h h3) <| bA (storeAt h3 1 (share x7) (O)) fun h4=>bI (bM (((bm x8++[])++[])) h3 h4) <| bA (storeAt h4 1 (share x8) (firm a2)) fun h5=>some ⟨[(6,x6),(7,x7),(8,x8)],⟨h5,n⟩⟩):=cx rfl rfl (by kernel_rfl)
@[simp] theorem auU {x6:AV}{x7:AV}{x8:AV}{h:ac}{n:Nat}:(Dn prog).code G8 ⟨[(6,x6),(7,x7),(8,x8)],⟨h,n⟩⟩=bp (bA (ck [O8,O8,O,.nl] []) fun a1=>bA (cP ((bO (bm x8++[]) h)) none (share x8)) fun a2=>bA (storeAt h 4 (share x6) (firm (.agg a1))) fun h3=>bI (bM (((bm x8++[])++[])) h h3) <| bA (storeAt h3 1 (share x7) (O)) fun h4=>bI (bM (((bm x8++[])++[])) h3 h4) <| bA (storeAt h4 1 (share x8) (firm a2)) fun h5=>some ⟨[(6,x6),(7,x7),(8,x8)],⟨h5,n⟩⟩):=cx rfl rfl (by kernel_rfl)
@[simp] theorem auY {x6:AV}{x7:AV}{x8:AV}{h:ac}{n:Nat}:(Dn prog).code FZ ⟨[(6,x6),(7,x7),(8,x8)],⟨h,n⟩⟩=bp (bA (cP h (some 4) (share x6)) fun a1=>bA (cP ((bO (bm x7++[]) h)) none (share x7)) fun a2=>bA (storeAt h 4 (share x6) (firm a1)) fun h3=>bI (bM (((bm x7++[])++[])) h h3) <| bA (storeAt h3 1 (share x7) (firm a2)) fun h4=>bA (storeAt h4 1 (share x8) (O)) fun h5=>some ⟨[(6,x6),(7,x7),(8,x8)],⟨h5,n⟩⟩):=cx rfl rfl (by kernel_rfl)
@[simp] theorem auE {x8:AV}{x9:AV}{x10:AV}{h:ac}{n:Nat}:(Dn prog).code Fu ⟨[(8,x8),(9,x9),(10,x10)],⟨h,n⟩⟩=bp (bA (cP ((bO (bm x10++[]) h)) none (share x10)) fun a1=>bA (storeAt h 1 (share x8) .nl) fun h2=>bI (bM (((bm x10++[])++[])) h h2) <| bA (storeAt h2 1 (share x9) (O)) fun h3=>bI (bM (((bm x10++[])++[])) h2 h3) <| bA (storeAt h3 1 (share x10) (firm a1)) fun h4=>some ⟨[(8,x8),(9,x9),(10,x10)],⟨h4,n⟩⟩):=cx rfl rfl (by kernel_rfl)
@[simp] theorem asg {x8:AV}{x9:AV}{x10:AV}{h:ac}{n:Nat}:(Dn prog).code DJ ⟨[(8,x8),(9,x9),(10,x10)],⟨h,n⟩⟩=bp (bA (cP ((bO (bm x10++[]) h)) none (share x10)) fun a1=>bA (storeAt h 1 x8 .nl) fun h2=>bI (bM (((bm x10++[])++[])) h h2) <| bA (storeAt h2 1 x9 (O)) fun h3=>bI (bM (((bm x10++[])++[])) h2 h3) <| bA (storeAt h3 1 (share x10) (firm a1)) fun h4=>some ⟨[(10,x10)],⟨h4,n⟩⟩):=cx rfl rfl (by kernel_rfl)
@[simp] theorem aue {x8:AV}{x9:AV}{x10:AV}{h:ac}{n:Nat}:(Dn prog).code D0 ⟨[(8,x8),(9,x9),(10,x10)],⟨h,n⟩⟩=bp (bA (cP h none (share x8)) fun a1=>bA (cP ((bO (bm x9++[]) h)) none (share x9)) fun a2=>bA (storeAt h 1 (share x8) (firm a1)) fun h3=>bI (bM (((bm x9++[])++[])) h h3) <| bA (storeAt h3 1 (share x9) (firm a2)) fun h4=>bA (storeAt h4 1 (share x10) (O)) fun h5=>some ⟨[(8,x8),(9,x9),(10,x10)],⟨h5,n⟩⟩):=cx rfl rfl (by kernel_rfl)
@[simp] theorem aq8 {x6:AV}{x7:AV}{x8:AV}{x10:AV}{x11:AV}{y12:D}{x13:AV}{y15:D}{y32:D}{y33:D}{y46:D}{y47:D}{h:ac}{n:Nat}:(Dn prog).code zP ⟨[(6,x6),(7,x7),(8,x8),(10,x10),(11,x11),(12,.d y12),(13,x13),(15,.d y15),(32,.d y32),(33,.d y33),(46,.d y46),(47,.d y47)],⟨h,n⟩⟩=bp (bA (DS 5 1 (share x11) (.d (.int .i64 1))) fun a1=>bA (cP h none (firm a1)) fun a2=>bA (DS 5 1 (share x11) (.d (.int .i64 2))) fun a3=>bA (cP ((bO (bm (firm a3)++[]) h)) none (firm a3)) fun a4=>bP (bc (Dn prog) (firm (share x10)) [firm a2] ⟨h,n⟩) fun a5 s6=>bI (bM (((bm (firm a3)++[])++[])) h s6.heap) <| bP (bc (Dn prog) (firm (share x10)) [firm a4] ⟨s6.heap,s6.next⟩) fun a7 s8=>bA (ck [O,O,.d (.bool false),.d (.bool false),.nl] [(3,1,.d y15),(0,1,firm a5),(1,1,firm a7)]) fun a9=>lA (put s8.heap s8.next (.cells [O,O,.d (.bool false),.d (.bool false),.nl])) fun h10=>bA (storeAt h10 5 (.ptr s8.next 0) (firm (.agg a9))) fun h11=>some ⟨[(6,x6),(7,x7),(8,x8),(10,x10),(11,x11),(12,.d y12),(13,x13),(15,.d y15),(16,.ptr s8.next 0),(32,.d y32),(33,.d y33),(46,.d y46),(47,.d y47)],⟨h11,s8.next+1⟩⟩):=cx rfl rfl (by kernel_rfl)
@[simp] theorem arJ {x6:AV}{x7:AV}{x8:AV}{x10:AV}{x11:AV}{y12:D}{x13:AV}{y15:D}{x16:AV}{y17:D}{y18:D}{y19:D}{y32:D}{y33:D}{y46:D}{y47:D}{y80:D}{y81:D}{h:ac}{n:Nat}:(Dn prog).code zR ⟨[(6,x6),(7,x7),(8,x8),(10,x10),(11,x11),(12,.d y12),(13,x13),(15,.d y15),(16,x16),(17,.d y17),(18,.d y18),(19,.d y19),(32,.d y32),(33,.d y33),(46,.d y46),(47,.d y47),(80,.d y80),(81,.d y81)],⟨h,n⟩⟩=bp (bU prog AX [(6,x6),(7,x7),(8,x8),(10,x10),(11,x11),(12,.d y12),(13,x13),(15,.d y15),(16,x16),(17,.d y17),(18,.d y18),(19,.d y19),(32,.d y32),(33,.d y33),(46,.d y46),(47,.d y47),(80,.d y80),(81,.d y81)] ⟨h,n⟩):=bl (by kernel_rfl) (by kernel_rfl) (by kernel_rfl)
@[simp] theorem arA {x7:AV}{x8:AV}{h:ac}{n:Nat}:(Dn prog).code zQ ⟨[(7,x7),(8,x8)],⟨h,n⟩⟩=bp (bA (cP ((bO (bm x8++[]) h)) none (share x8)) fun a1=>bA (storeAt h 1 (share x7) (O)) fun h2=>bI (bM (((bm x8++[])++[])) h h2) <| bA (storeAt h2 1 (share x8) (firm a1)) fun h3=>some ⟨[(6,.nl),(7,x7),(8,x8)],⟨h3,n⟩⟩):=cx rfl rfl (by kernel_rfl)
@[simp] theorem apW {x6:AV}{x7:AV}{x8:AV}{h:ac}{n:Nat}:(Dn prog).code zO ⟨[(6,x6),(7,x7),(8,x8)],⟨h,n⟩⟩=bp (bU prog Bu [(6,x6),(7,x7),(8,x8)] ⟨h,n⟩):=bl (by kernel_rfl) (by kernel_rfl) (by kernel_rfl)
@[simp] theorem auD {x0:AV}{x1:AV}{h:ac}{n:Nat}:(Dn prog).code Gm ⟨[(0,x0),(1,x1)],⟨h,n⟩⟩=bp (bA (cP ((bO (bm x0++[]) h)) none (share x0)) fun a1=>bA (cP h none x1) fun a2=>bP (bc (Dn prog) (firm a2) [] ⟨h,n⟩) fun a3 s4=>bI (bM (((bm x0++[])++[])) h s4.heap) <| bA (cZ .or (firm a1) (firm a3)) fun a5=>bA (storeAt s4.heap 1 (share x0) (.d a5)) fun h6=>some ⟨[(0,x0)],⟨h6,s4.next⟩⟩):=cx rfl rfl (by kernel_rfl)
@[simp] theorem au3 {x10:AV}{h:ac}{n:Nat}:(Dn prog).code wE ⟨[(10,x10)],⟨h,n⟩⟩=bp (bU prog Ju [(10,x10)] ⟨h,n⟩):=bl (by kernel_rfl) (by kernel_rfl) (by kernel_rfl)
@[simp] theorem au1 {x6:AV}{x10:AV}{h:ac}{n:Nat}:(Dn prog).code wc ⟨[(6,x6),(10,x10)],⟨h,n⟩⟩=bp (bU prog JN [(6,x6),(10,x10)] ⟨h,n⟩):=bl (by kernel_rfl) (by kernel_rfl) (by kernel_rfl)
@[simp] theorem apZ {x5:AV}{x6:AV}{x7:AV}{x8:AV}{y11:D}{y12:D}{h:ac}{n:Nat}:(Dn prog).code zS ⟨[(5,x5),(6,x6),(7,x7),(8,x8),(11,.d y11),(12,.d y12)],⟨h,n⟩⟩=bp (bU prog BJ [(5,x5),(6,x6),(7,x7),(8,x8),(11,.d y11),(12,.d y12)] ⟨h,n⟩):=bl (by kernel_rfl) (by kernel_rfl) (by kernel_rfl)
@[simp] theorem aly {x0:AV}{y2:D}{h:ac}{n:Nat}:(Dn prog).code sK ⟨[(0,x0),(2,.d y2)],⟨h,n⟩⟩=bp (bU prog uR [(0,x0),(2,.d y2)] ⟨h,n⟩):=bl (by kernel_rfl) (by kernel_rfl) (by kernel_rfl)
@[simp] theorem apA {x2:AV}{x8:AV}{x21:AV}{y22:D}{y23:D}{h:ac}{n:Nat}:(Dn prog).code xq ⟨[(2,x2),(8,x8),(21,x21),(22,.d y22),(23,.d y23)],⟨h,n⟩⟩=bp (bU prog zT [(2,x2),(8,x8),(21,x21),(22,.d y22),(23,.d y23)] ⟨h,n⟩):=bl (by kernel_rfl) (by kernel_rfl) (by kernel_rfl)
@[simp] theorem apy {y0:D}{y1:D}{x2:AV}{h:ac}{n:Nat}:(Dn prog).code xS ⟨[(0,.d y0),(1,.d y1),(2,x2)],⟨h,n⟩⟩=bp (bU prog zN [(0,.d y0),(1,.d y1),(2,x2)] ⟨h,n⟩):=bl (by kernel_rfl) (by kernel_rfl) (by kernel_rfl)
@[simp] theorem apB {x0:AV}{x2:AV}{x3:AV}{y5:D}{y6:D}{y8:D}{x10:AV}{y11:D}{y12:D}{y13:D}{x14:AV}{y15:D}{y16:D}{x21:AV}{y22:D}{y23:D}{h:ac}{n:Nat}:(Dn prog).code xz ⟨[(0,x0),(2,x2),(3,x3),(5,.d y5),(6,.d y6),(8,.d y8),(10,x10),(11,.d y11),(12,.d y12),(13,.d y13),(14,x14),(15,.d y15),(16,.d y16),(21,x21),(22,.d y22),(23,.d y23)],⟨h,n⟩⟩=bp (bU prog zW [(0,x0),(2,x2),(3,x3),(5,.d y5),(6,.d y6),(8,.d y8),(10,x10),(11,.d y11),(12,.d y12),(13,.d y13),(14,x14),(15,.d y15),(16,.d y16),(21,x21),(22,.d y22),(23,.d y23)] ⟨h,n⟩):=bl (by kernel_rfl) (by kernel_rfl) (by kernel_rfl)
@[simp] theorem auI {x2:AV}{y6:D}{x9:AV}{h:ac}{n:Nat}:(Dn prog).code FW ⟨[(2,x2),(6,.d y6),(9,x9)],⟨h,n⟩⟩=bp (bU prog JI [(2,x2),(6,.d y6),(9,x9)] ⟨h,n⟩):=bl (by kernel_rfl) (by kernel_rfl) (by kernel_rfl)
@[simp] theorem axe {y0:D}{x2:AV}{x4:AV}{h:ac}{n:Nat}:(Dn prog).code JF ⟨[(0,.d y0),(2,x2),(4,x4)],⟨h,n⟩⟩=bp (bU prog Kv [(0,.d y0),(2,x2),(4,x4)] ⟨h,n⟩):=bl (by kernel_rfl) (by kernel_rfl) (by kernel_rfl)
@[simp] theorem F7 {x2:AV}{x4:AV}{x6:AV}{h:ac}{n:Nat}:(Dn prog).code zA ⟨[(2,x2),(4,x4),(6,x6)],⟨h,n⟩⟩=bp (bP (loadAt h (some 4) 1 (share x4)) fun a1 h2=>bA (bZ (Dn prog) dw [firm a1] h2) fun a3=>lA (put h2 n (.cells [O8,O8,O8,O8,O8,O8,O8,O8,O8,O8,O8,O8,O8,O8,O8,O8,O8,O8,O8,O8,O8,O8,O8,O8,O8,O8,O8,O8,O8,O8,O8,O8,O8,O8,O8,O8,O8,O8,O8,O8,O8,O8,O8,O8,O8,O8,O8,O8,O8,O8,O8,O8,O8,O8,O8,O8,O8,O8,O8,O8,O8,O8,O8,O8,O8,O8,O8,O8,O8,O8,O8,O8,O8,O8,O8,O8,O8,O8,O8,O8,O8,O8,O8,O8,O8,O8,O8,O8,O8,O8,O8,O8,O8,O8,O8,O8,O8,O8,O8,O8,O8,O8,O8,O8,O8,O8,O8,O8,O8,O8,O8,O8,O8,O8,O8,O8,O8,O8,O8,O8,O8,O8,O8,O8,O8,O8,O8,O8,O8,O8,O8,O8,O8,O8,O8,O8,O8,O8,O8,O8,O8,O8,O8,O8,O8,O8,O8,O8,O8,O8,O8,O8,O8,O8,O8,O8,O8,O8,O8,O8,O8,O8,O8,O8,O8,O8,O8,O8,O8,O8,O8,O8,O8,O8,O8,O8,O8,O8,O8,O8,O8,O8,O8,O8,O8,O8,O8,O8,O8,O8,O8,O8,O8,O8,O8,O8,O8,O8,O8,O8,O8,O8,O8,O8,O8,O8,O8,O8,O8,O8,O8,O8,O8,O8,O8,O8,O8,O8,O8,O8,O8,O8,O8,O8,O8,O8,O8,O8,O8,O8,O8,O8,O8,O8,O8,O8,O8,O8,O8,O8,O8,O8,O8,O8,O8,O8,O8,O8,O8,O8,O8,O8,O8,O8,O8,O8,O8,O8,O8,O8,O8,O8,O8,O8,O8,O8,O8,O8,O8,O8,O8,O8,O8,O8,O8,O8,O8,O8,O8,O8,O8,O8,O8,O8,O8,O8,O8,O8,O8])) fun h4=>bA (storeAt h4 289 (.ptr n 0) (firm a3)) fun h5=>some ⟨[(2,x2),(4,x4),(6,x6),(7,.ptr n 0)],⟨h5,n+1⟩⟩):=xZ (by kernel_rfl)
@[simp] theorem amF {x0:AV}{y1:D}{h:ac}{n:Nat}:(Dn prog).code uw ⟨[(0,x0),(1,.d y1)],⟨h,n⟩⟩=bp (bU prog vG [(0,x0),(1,.d y1)] ⟨h,n⟩):=bl (by kernel_rfl) (by kernel_rfl) (by kernel_rfl)
@[simp] theorem aif {x0:AV}{y3:D}{h:ac}{n:Nat}:(Dn prog).code nP ⟨[(0,x0),(3,.d y3)],⟨h,n⟩⟩=bp (bU prog pp [(0,x0),(3,.d y3)] ⟨h,n⟩):=bl (by kernel_rfl) (by kernel_rfl) (by kernel_rfl)
@[simp] theorem B0 {x1:AV}{x3:AV}{h:ac}{n:Nat}:(Dn prog).code tN ⟨[(1,x1),(3,x3)],⟨h,n⟩⟩=bp (bP (loadAt h (some 4) 1 (share x3)) fun a1 h2=>bA (bZ (Dn prog) dw [firm a1] h2) fun a3=>lA (put h2 n (.cells [O8,O8,O8,O8,O8,O8,O8,O8,O8,O8,O8,O8,O8,O8,O8,O8,O8,O8,O8,O8,O8,O8,O8,O8,O8,O8,O8,O8,O8,O8,O8,O8,O8,O8,O8,O8,O8,O8,O8,O8,O8,O8,O8,O8,O8,O8,O8,O8,O8,O8,O8,O8,O8,O8,O8,O8,O8,O8,O8,O8,O8,O8,O8,O8,O8,O8,O8,O8,O8,O8,O8,O8,O8,O8,O8,O8,O8,O8,O8,O8,O8,O8,O8,O8,O8,O8,O8,O8,O8,O8,O8,O8,O8,O8,O8,O8,O8,O8,O8,O8,O8,O8,O8,O8,O8,O8,O8,O8,O8,O8,O8,O8,O8,O8,O8,O8,O8,O8,O8,O8,O8,O8,O8,O8,O8,O8,O8,O8,O8,O8,O8,O8,O8,O8,O8,O8,O8,O8,O8,O8,O8,O8,O8,O8,O8,O8,O8,O8,O8,O8,O8,O8,O8,O8,O8,O8,O8,O8,O8,O8,O8,O8,O8,O8,O8,O8,O8,O8,O8,O8,O8,O8,O8,O8,O8,O8,O8,O8,O8,O8,O8,O8,O8,O8,O8,O8,O8,O8,O8,O8,O8,O8,O8,O8,O8,O8,O8,O8,O8,O8,O8,O8,O8,O8,O8,O8,O8,O8,O8,O8,O8,O8,O8,O8,O8,O8,O8,O8,O8,O8,O8,O8,O8,O8,O8,O8,O8,O8,O8,O8,O8,O8,O8,O8,O8,O8,O8,O8,O8,O8,O8,O8,O8,O8,O8,O8,O8,O8,O8,O8,O8,O8,O8,O8,O8,O8,O8,O8,O8,O8,O8,O8,O8,O8,O8,O8,O8,O8,O8,O8,O8,O8,O8,O8,O8,O8,O8,O8,O8,O8,O8,O8,O8,O8,O8,O8,O8,O8,O8])) fun h4=>bA (storeAt h4 289 (.ptr n 0) (firm a3)) fun h5=>some ⟨[(1,x1),(3,x3),(5,.ptr n 0)],⟨h5,n+1⟩⟩):=xZ (by kernel_rfl)
@[simp] theorem r8 {x0:AV}{h:ac}{n:Nat}:(Dn prog).code mh ⟨[(0,x0)],⟨h,n⟩⟩=bp (bI ((AV.cells x0).all bJ) <| lA (put h n (.cells (AV.cells x0))) fun h1=>lA (put h1 (n+1) (.cells [O8,O8,O8,O8,O8,O8,O8,O8,O8,O8,O8,O8,O8,O8,O8,O8,O8,O8,O8,O8,O8,O8,O8,O8,O8,O8,O8,O8,O8,O8,O8,O8,O8,O8,O8,O8,O8,O8,O8,O8,O8,O8,O8,O8,O8,O8,O8,O8,O8,O8,O8,O8,O8,O8,O8,O8,O8,O8,O8,O8,O8,O8,O8,O8,O8,O8,O8,O8,O8,O8,O8,O8,O8,O8,O8,O8,O8,O8,O8,O8,O8,O8,O8,O8,O8,O8,O8,O8,O8,O8,O8,O8,O8,O8,O8,O8,O8,O8,O8,O8,O8,O8,O8,O8,O8,O8,O8,O8,O8,O8,O8,O8,O8,O8,O8,O8,O8,O8,O8,O8,O8,O8,O8,O8,O8,O8,O8,O8,O8,O8,O8,O8,O8,O8,O8,O8,O8,O8,O8,O8,O8,O8,O8,O8,O8,O8,O8,O8,O8,O8,O8,O8,O8,O8,O8,O8,O8,O8,O8,O8,O8,O8,O8,O8,O8,O8,O8,O8,O8,O8,O8,O8,O8,O8,O8,O8,O8,O8,O8,O8,O8,O8,O8,O8,O8,O8,O8,O8,O8,O8,O8,O8,O8,O8,O8,O8,O8,O8,O8,O8,O8,O8,O8,O8,O8,O8,O8,O8,O8,O8,O8,O8,O8,O8,O8,O8,O8,O8,O8,O8,O8,O8,O8,O8,O8,O8,O8,O8,O8,O8,O8,O8,O8,O8,O8,O8,O8,O8,O8,O8,O8,O8,O8,O8,O8,O8,O8,O8,O8,O8,O8,O8,O8,O8,O8,O8,O8,O8,O8,O8,O8,O8,O8,O8,O8,O8,O8,O8,O8,O8,O8,O8,O8,O8,O8,O8,O8,O8,O8,O8,O8,O8,O8,O8,O8,O8,O8,O8,O8])) fun h2=>some ⟨[(1,.ptr n 0),(2,.ptr (n+1) 0)],⟨h2,n+1+1⟩⟩):=xZ (by kernel_rfl)
@[simp] theorem amc {y1:D}{x2:AV}{x5:AV}{y6:D}{h:ac}{n:Nat}:(Dn prog).code r7 ⟨[(1,.d y1),(2,x2),(5,x5),(6,.d y6)],⟨h,n⟩⟩=bp (bU prog tV [(1,.d y1),(2,x2),(5,x5),(6,.d y6)] ⟨h,n⟩):=bl (by kernel_rfl) (by kernel_rfl) (by kernel_rfl)
@[simp] theorem Kj {x0:AV}{y1:D}{y2:D}{x3:AV}{y8:D}{y9:D}{h:ac}{n:Nat}:(Dn prog).code il ⟨[(0,x0),(1,.d y1),(2,.d y2),(3,x3),(8,.d y8),(9,.d y9)],⟨h,n⟩⟩=bp (bU prog io [(0,x0),(1,.d y1),(2,.d y2),(3,x3),(8,.d y8),(9,.d y9)] ⟨h,n⟩):=bl (by kernel_rfl) (by kernel_rfl) (by kernel_rfl)
@[simp] theorem Ki {x0:AV}{y1:D}{y2:D}{x3:AV}{y8:D}{y9:D}{h:ac}{n:Nat}:(Dn prog).code gT ⟨[(0,x0),(1,.d y1),(2,.d y2),(3,x3),(8,.d y8),(9,.d y9)],⟨h,n⟩⟩=bp (bU prog iG [(0,x0),(1,.d y1),(2,.d y2),(3,x3),(8,.d y8),(9,.d y9)] ⟨h,n⟩):=bl (by kernel_rfl) (by kernel_rfl) (by kernel_rfl)
@[simp] theorem SL {x0:AV}{y1:D}{x4:AV}{y10:D}{y11:D}{y12:D}{h:ac}{n:Nat}:(Dn prog).code jN ⟨[(0,x0),(1,.d y1),(4,x4),(10,.d y10),(11,.d y11),(12,.d y12)],⟨h,n⟩⟩=bp (bU prog ku [(0,x0),(1,.d y1),(4,x4),(10,.d y10),(11,.d y11),(12,.d y12)] ⟨h,n⟩):=bl (by kernel_rfl) (by kernel_rfl) (by kernel_rfl)
@[simp] theorem Rk {x0:AV}{y10:D}{y13:D}{h:ac}{n:Nat}:(Dn prog).code ju ⟨[(0,x0),(10,.d y10),(13,.d y13)],⟨h,n⟩⟩=bp (bU prog jP [(0,x0),(10,.d y10),(13,.d y13)] ⟨h,n⟩):=bl (by kernel_rfl) (by kernel_rfl) (by kernel_rfl)
@[simp] theorem Rn {x0:AV}{y2:D}{x4:AV}{y14:D}{y15:D}{y16:D}{h:ac}{n:Nat}:(Dn prog).code jF ⟨[(0,x0),(2,.d y2),(4,x4),(14,.d y14),(15,.d y15),(16,.d y16)],⟨h,n⟩⟩=bp (bU prog jQ [(0,x0),(2,.d y2),(4,x4),(14,.d y14),(15,.d y15),(16,.d y16)] ⟨h,n⟩):=bl (by kernel_rfl) (by kernel_rfl) (by kernel_rfl)
@[simp] theorem Rb {x0:AV}{y14:D}{y17:D}{h:ac}{n:Nat}:(Dn prog).code jG ⟨[(0,x0),(14,.d y14),(17,.d y17)],⟨h,n⟩⟩=bp (bU prog jO [(0,x0),(14,.d y14),(17,.d y17)] ⟨h,n⟩):=bl (by kernel_rfl) (by kernel_rfl) (by kernel_rfl)
@[simp] theorem Rz {x0:AV}{y1:D}{y2:D}{y3:D}{x4:AV}{y18:D}{y19:D}{y20:D}{y21:D}{y22:D}{y23:D}{h:ac}{n:Nat}:(Dn prog).code jD ⟨[(0,x0),(1,.d y1),(2,.d y2),(3,.d y3),(4,x4),(18,.d y18),(19,.d y19),(20,.d y20),(21,.d y21),(22,.d y22),(23,.d y23)],⟨h,n⟩⟩=bp (bU prog jM [(0,x0),(1,.d y1),(2,.d y2),(3,.d y3),(4,x4),(18,.d y18),(19,.d y19),(20,.d y20),(21,.d y21),(22,.d y22),(23,.d y23)] ⟨h,n⟩):=bl (by kernel_rfl) (by kernel_rfl) (by kernel_rfl)
@[simp] theorem Rm {x0:AV}{y1:D}{y2:D}{y3:D}{y10:D}{h:ac}{n:Nat}:(Dn prog).code jn ⟨[(0,x0),(1,.d y1),(2,.d y2),(3,.d y3),(10,.d y10)],⟨h,n⟩⟩=bp (bU prog jL [(0,x0),(1,.d y1),(2,.d y2),(3,.d y3),(10,.d y10)] ⟨h,n⟩):=bl (by kernel_rfl) (by kernel_rfl) (by kernel_rfl)
theorem gu:prog jU=some c8:=rfl
theorem GW:prog iE=some ln:=rfl
theorem ae8:prog jd=some DU:=rfl
theorem Cl:prog dh=some ou:=rfl
theorem sH:prog gU=some lG:=rfl
theorem amp:prog xg=some Eb:=rfl
theorem aof:prog dU=some Hm:=rfl
theorem aoo:prog HX=some Hw:=rfl
theorem ao1:prog IT=some Ix:=rfl
theorem alI:prog EE=some EQ:=rfl
theorem aaD:prog oH=some wR:=rfl
theorem ahn:prog ya=some zn:=rfl
theorem aj2:prog uh=some AZ:=rfl
theorem Wc:prog Au=some zZ:=rfl
theorem Zm:prog iq=some tJ:=rfl
theorem aiH:prog dO=some BD:=rfl
theorem acz:prog dr=some wl:=rfl
theorem aaC:prog ph=some v7:=rfl
theorem adf:prog oG=some v9:=rfl
theorem Vx:prog nv=some uo:=rfl
theorem aaj:prog oS=some wb:=rfl
theorem ajh:prog tv=some By:=rfl
theorem aab:prog oJ=some vW:=rfl
theorem acT:prog oO=some wB:=rfl
theorem Z7:prog pn=some wz:=rfl
theorem ai5:prog oB=some Bn:=rfl
theorem alp:prog p9=some D6:=rfl
theorem an4:prog cy=some Jj:=rfl
theorem amn:prog wZ=some Ec:=rfl
theorem alu:prog mK=some Et:=rfl
theorem Ra:prog gJ=some xh:=rfl
theorem alw:prog pV=some E1:=rfl
theorem I2:prog uC=some uG:=rfl
theorem al8:prog mJ=some Fk:=rfl
theorem an3:prog Je=some Jl:=rfl
theorem amg:prog mH=some EY:=rfl
theorem alH:prog Eq=some E7:=rfl
theorem aln:prog mO=some EP:=rfl
theorem alo:prog mR=some Em:=rfl
theorem QW:prog gO=some xo:=rfl
theorem age:prog yv=some yM:=rfl
theorem alj:prog mG=some D7:=rfl
theorem api:prog oN=some IG:=rfl
theorem JW:prog jJ=some mT:=rfl
theorem aj4:prog uq=some BN:=rfl
theorem Bi:prog jB=some jC:=rfl
theorem Ho:prog dX=some l9:=rfl
theorem al7:prog Ed=some Eh:=rfl
theorem akx:prog oD=some CN:=rfl
theorem ajc:prog nL=some CF:=rfl
theorem aiP:prog Bz=some CA:=rfl
theorem ajU:prog uJ=some Ct:=rfl
theorem afQ:prog yH=some yu:=rfl
theorem afP:prog zD=some yw:=rfl
theorem ahh:prog jX=some yN:=rfl
theorem alE:prog xn=some EB:=rfl
theorem Mm:prog fp=some nE:=rfl
theorem tx:prog fL=some fT:=rfl
theorem R5:prog l8=some rQ:=rfl
theorem WF:prog uF=some uB:=rfl
theorem XG:prog iA=some tQ:=rfl
theorem V6:prog iy=some tO:=rfl
theorem aha:prog j0=some yd:=rfl
theorem acr:prog jg=some wV:=rfl
theorem af5:prog jW=some yJ:=rfl
theorem aa0:prog je=some wJ:=rfl
theorem ac9:prog dq=some wa:=rfl
theorem arq:prog DR=some Mq:=rfl
theorem al3:prog xl=some Fb:=rfl
theorem ajD:prog ox=some BH:=rfl
theorem ame:prog mI=some Fh:=rfl
theorem GB:prog fg=some lD:=rfl
theorem alv:prog Fc=some D9:=rfl
theorem WC:prog nu=some uN:=rfl
theorem aod:prog pb=some H0:=rfl
theorem ade:prog wy=some wU:=rfl
theorem alZ:prog E5=some Fa:=rfl
theorem alC:prog wY=some Eg:=rfl
theorem al0:prog w9=some Fg:=rfl
theorem u4:prog bS=some gk:=rfl
theorem SU:prog gF=some rX:=rfl
theorem ahB:prog yG=some yS:=rfl
theorem amo:prog EK=some Ej:=rfl
theorem Ka:prog mX=some mW:=rfl
theorem ail:prog kX=some Cn:=rfl
theorem aiN:prog tM=some CD:=rfl
theorem alJ:prog xc=some E4:=rfl
theorem abL:prog oV=some vT:=rfl
theorem Yl:prog nD=some ui:=rfl
theorem amr:prog xa=some Fj:=rfl
theorem ahX:prog qe=some yi:=rfl
theorem PB:prog iU=some pD:=rfl
theorem FO:prog kW=some kV:=rfl
theorem ags:prog mB=some zH:=rfl
theorem XJ:prog fM=some uL:=rfl
theorem U0:prog dH=some uO:=rfl
theorem lH:prog gZ=some ep:=rfl
theorem PH:prog iV=some pC:=rfl
theorem WY:prog ux=some uu:=rfl
theorem yT:prog cj=some iQ:=rfl
theorem Vf:prog nk=some ul:=rfl
theorem ao4:prog IA=some HR:=rfl
theorem afU:prog qk=some yn:=rfl
theorem S4:prog gC=some rk:=rfl
theorem ak4:prog nM=some Cj:=rfl
theorem JX:prog nb=some mY:=rfl
theorem PV:prog pt=some py:=rfl
theorem P4:prog dw=some pB:=rfl
theorem wp:prog gD=some gE:=rfl
theorem ak6:prog uc=some Ci:=rfl
theorem JU:prog mU=some mZ:=rfl
theorem mu:prog iO=some eJ:=rfl
theorem WK:prog kf=some uA:=rfl
theorem M3:prog ov=some oy:=rfl
theorem pq:prog jS=some gv:=rfl
theorem yX:prog iM=some iR:=rfl
theorem OB:prog kJ=some pJ:=rfl
theorem pP:prog cY=some eD:=rfl
theorem bT:prog aF=some bv:=rfl
theorem yy:prog iI=some iJ:=rfl
theorem vF:prog cG=some gj:=rfl
abbrev i64 (n:Int):Prop:=-9223372036854775808≤n∧n≤9223372036854775807
theorem pi (n:Int):aM prog uq [.d (.int .i64 n)]=if 0≤n∧n≤31 then some (.d (.bool true)) else some (.d (.bool false)):=by
 rw[az aj4 BN.eq_1 rfl];simp
def val:List Nat→Nat→Nat
 | [],n=>n
 | x::r,n=>val r (2*n+x)
abbrev bin (l:List Nat):Prop:=∀ x∈l,x≤1
theorem KM:∀ {l:List Nat}{n i:Nat},bin l→n<2 ^ i→val l n<2 ^ (i+l.length)
 | [],n,i,h,hn=>by simpa [val] using hn
 | x::r,n,i,h,hn=>by
  have h1:2 ^ (i+1)=2*2 ^ i:=by rw[Nat.pow_succ];omega
  have h2:=h x (by simp);have:=KM (l:=r) (n:=2*n+x) (i:=i+1) (fun y hy=>h y (by simp[hy])) (by omega);simpa [val,Nat.add_assoc,Nat.add_comm 1] using this
def aO (b:List Nat) (a s:Int):R Nat :=
 if (0≤s∧s≤31)∧0≤a∧a≤b.length then
  if b.length-a<s then .er 4
  else if bin ((b.drop a.toNat).take s.toNat) then .ok (val ((b.drop a.toNat).take s.toNat) 0) (a.toNat+s.toNat)
  else .er 7
 else .er 1
abbrev pG (b:List Nat) (s:Int) (v n:Nat):Prop:=v<2 ^ s.toNat∧n≤b.length
theorem awy {γ:Type}{b:List Nat}{a s:Int}{f:Nat→Nat→γ}{g:Nat→γ}:rK (pG b s) (aO b a s) f g =
  if (0≤s∧s≤31)∧0≤a∧a≤b.length then
   if b.length-a<s then g 4
   else if bin ((b.drop a.toNat).take s.toNat) then f (val ((b.drop a.toNat).take s.toNat) 0) (a.toNat+s.toNat) else g 7
  else g 1:=by
 unfold aO;by_cases h1:(0≤s∧s≤31)∧0≤a∧a≤b.length
 ·rw[if_pos h1,if_pos h1];by_cases h2:b.length-a<s
  ·rw[if_pos h2,if_pos h2,eK]
  ·rw[if_neg h2,if_neg h2];by_cases h3:bin ((b.drop a.toNat).take s.toNat)
   ·rw[if_pos h3,if_pos h3,cu];have:=KM (n:=0) (i:=0) h3 (by omega);have hl:((b.drop a.toNat).take s.toNat).length=s.toNat:=by simp;omega
    rw[hl]at this;exact⟨by simpa using this,by omega⟩
   ·rw[if_neg h3,if_neg h3,eK]
 ·rw[if_neg h1,if_neg h1,eK]
theorem alX (b:List Nat) (a sz:Nat) (hl:b.length≤1000000000) (hb:a+sz≤b.length) (hs:sz≤31) (h:ac) (m:Nat):∀ (k i n:Nat) (I N:Int),I=i→N=n→i+k=sz→n<2 ^ i→
  (Dn prog).code (.loop qj) ⟨[(0,.d (.lst (af b))),(1,.d (.int .i64 a)),(2,.d (.int .i64 sz)),(6,.d (.int .i64 N)),(31,.d (.int .i64 sz)),(32,.d (.int .i64 I))],⟨h,m⟩⟩ =
   if bin ((b.drop (a+i)).take k) then some (.exit 1,⟨[(1,.d (.int .i64 a)),(2,.d (.int .i64 sz)),(6,.d (.int .i64 (val ((b.drop (a+i)).take k) n:Nat)))],⟨h,m⟩⟩)
   else some (.ret,⟨[(6,.d (.int .i64 0)),(7,.d (.int .i64 0)),(8,.d (.int .i64 8))],⟨h,m⟩⟩):=by
 intro k
 induction k with
 | zero =>
  intro i n I N hI hN hi hn;subst hI hN;rw[aa qj.eq_1];have:¬ (i<sz):=by omega
  simp (disch:=omega) [this,val,bin]
 | succ k ih =>
  intro i n I N hI hN hi hn;subst hI hN;rw[aa qj.eq_1,kA (by omega),List.take_succ_cons];have:i<sz:=by omega
  have h2:2 ^ i≤2 ^ 30:=Nat.pow_le_pow_right (by omega) (by omega);have h3:2 ^ (i+1)=2*2 ^ i:=by rw[Nat.pow_succ];omega
  simp (disch:=omega) [this,val,bin];by_cases hx:nth b (a+i)≤1
  ·rw[if_neg (by omega),ih (i+1) (2*n+nth b (a+i)) _ _ (by omega) (by omega) (by omega) (by omega)];simp[hx,bin,Nat.add_assoc]
  ·rw[if_pos (by omega)];simp[hx]
theorem d8 (b:List Nat) (a s:Int) (hb:b.length≤1000000000) (ha:i64 a):aM prog cy [.d (.lst (af b)),.d (.int .i64 a),.d (.int .i64 s)]=rK (pG b s) (aO b a s) (fun v n=>some (.tup [.d (.int .i64 v),.d (.int .i64 n),.d (.int .i64 0)])) fun e=>some (.tup [.d (.int .i64 0),.d (.int .i64 0),.d (.int .i64 (e+1))]):=by
 rw[az an4 Jj.eq_1 rfl,awy];simp (disch:=omega) [pi];by_cases h1:(0≤s∧s≤31)∧0≤a∧a≤b.length
 ·obtain⟨⟨s0,s1⟩,a0,a1⟩:=h1;obtain⟨S,rfl⟩:=Int.eq_ofNat_of_zero_le s0;obtain⟨A,rfl⟩:=Int.eq_ofNat_of_zero_le a0;by_cases h2:(b.length:Int)-A<S
  ·simp[h2]
  ·have:=alX b A S hb (by omega) (by omega) [] 0 S 0 0 0 0 rfl rfl (by omega) (by omega);rw[Nat.add_zero]at this;simp (disch:=omega) [this]
 ·simp[h1]
def aow (k lines by_:Nat):Nat→Nat→List Nat
 | 0,at_=>[at_]
 | f+1,at_=>at_::if at_<lines then aow k lines by_ f (min lines (at_+4+4*(at_*k / by_))) else []
def offs (rate:Nat) (short:Bool):List Nat:=cond short (aow (3+(11-rate) / 2) 32 64 99 0) (aow (3+(11-rate) / 2) 256 256 99 0)
def z7:List (Nat×Bool):=(List.range 12).flatMap fun r=>[(r,false),(r,true)]
theorem dQ {r:Nat}{s:Bool}(h:r<12):(r,s)∈z7:=by
 simp only[z7,List.mem_flatMap,List.mem_range];exact⟨r,h,by cases s<;>simp⟩
theorem ag0:∀ x∈z7,aM prog je [.d (.int .i64 x.1),.d (.bool x.2)]=some (.tup [.own true 1 (bf (offs x.1 x.2)),.d (.int .i64 0)]):=Bl 100 z7 (by kernel_rfl)
theorem W4:∀ x∈z7,1≤(offs x.1 x.2).length∧(offs x.1 x.2).length≤64:=by decide +kernel
def kL (rate:Nat) (short:Bool):Nat:=(offs rate short).length-1
theorem Ce {r:Nat}{s:Bool}(h:r<12):kL r s≤63:=by
 have:=W4 _ (dQ (s:=s) h);simp only[kL]at *;omega
abbrev ct (r:Int):Prop:=0≤r∧r≤11
theorem ug (r:Int) (s:Bool):aM prog je [.d (.int .i64 r),.d (.bool s)]=if ct r then some (.tup [.own true 1 (bf (offs r.toNat s)),.d (.int .i64 0)]) else some (.tup [.nl,.d (.int .i64 2)]):=by
 by_cases h:ct r
 ·obtain⟨R,rfl⟩:=Int.eq_ofNat_of_zero_le h.1;rw[if_pos h,ag0 (R,s) (dQ (by omega))];rfl
 ·rw[if_neg h,az aa0 wJ.eq_1 rfl];simp (disch:=omega) [↓if_pos,awF]
theorem fe (r:Int) (s:Bool):aM prog p9 [.d (.int .i64 r),.d (.bool s)]=if ct r then some (.tup [.d (.int .i64 (kL r.toNat s)),.d (.int .i64 0)]) else some (.tup [.d (.int .i64 0),.d (.int .i64 2)]):=by
 rw[az alp D6.eq_1 rfl];by_cases h:ct r
 ·have h2:=W4 _ (dQ (r:=r.toNat) (s:=s) (by omega));simp (disch:=omega) only at h2;simp (disch:=omega) [ug,if_pos h,kL];split<;>simp<;>omega
 ·simp (disch:=omega) [ug,if_neg h]
structure al where
 seq:Nat
 shape:Nat
 max:Int
 groups:List Int
@[simp] def al.cells (i:al):List AV:=[.d (.int .u8 i.seq),.d (.int .u8 i.shape),.d (.int .i64 i.max),.d (.lst (ai i.groups))]
structure al.Fit (i:al):Prop where
 seq:i.seq≤255
 shape:i.shape≤255
 max:i64 i.max
 len:i.groups.length≤1000
 groups:∀ n∈i.groups,i64 n
theorem X8 (a b:List Int) (hl:a.length≤1000000) (he:a.length=b.length) (h:ac) (m:Nat):∀ (k i:Nat) (I:Int),I=i→i+k=a.length→
  (Dn prog).code (.loop gR) ⟨[(0,.d (.lst (ai a))),(1,.d (.lst (ai b))),(12,.d (.int .i64 a.length)),(13,.d (.int .i64 I))],⟨h,m⟩⟩=if a.drop i=b.drop i then some (.exit 0,⟨[],⟨h,m⟩⟩) else some (.ret,⟨[(4,.d (.bool false))],⟨h,m⟩⟩):=by
 intro k
 induction k with
 | zero =>
  intro i I hI hi;subst hI;rw[aa gR.eq_1,List.drop_eq_nil_of_le (by omega),List.drop_eq_nil_of_le (by omega)];simp (disch:=omega) [↓if_neg]
 | succ k ih =>
  intro i I hI hi;subst hI;rw[aa gR.eq_1,kA (l:=a) (by omega),kA (l:=b) (by omega)];simp (disch:=omega) [↓if_pos];rw[ih (i+1) _ (by omega) (by omega)];by_cases hx:nth a i=nth b i<;>simp[hx]
theorem Ks (a b:List Int) (hl:a.length≤1000000) (hb:b.length≤1000000):aM prog jJ [.d (.lst (ai a)),.d (.lst (ai b))]=if a=b then some (.d (.bool true)) else some (.d (.bool false)):=by
 rw[az JW mT.eq_1 rfl];by_cases he:a.length=b.length
 ·have:=X8 a b hl he [] 0 a.length 0 0 rfl (by omega);simp (disch:=omega) [this,↓if_pos]
 ·have:a≠b:=fun h=>he (by rw[h])
  simp (disch:=omega) [this,↓if_neg]
def al.grouped (i:al):Prop:=if i.seq=2 then (∀ n∈i.groups,1≤n∧n≤8)∧i.groups.sum=8∧(i.groups.length:Int)≤8 else i.groups=[1]
instance {i:al}:Decidable i.grouped:=by unfold al.grouped;infer_instance
theorem aos (i:al) (hi:i.groups.length≤1000) (m:Nat):∀ (k j:Nat) (J S:Int),J=j→j+k=i.groups.length→0≤S∧S≤8*j→
  (Dn prog).code (.loop kG) ⟨[(1,.ptr 0 0),(3,.d (.int .i64 S)),(14,.d (.lst (ai i.groups))),(15,.d (.int .i64 i.groups.length)),(16,.d (.int .i64 J))],⟨[(0,.cells i.cells)],m⟩⟩ =
   if ∀ n∈i.groups.drop j,1≤n∧n≤8 then some (.exit 0,⟨[(1,.ptr 0 0),(3,.d (.int .i64 (S+(i.groups.drop j).sum)))],⟨[(0,.cells i.cells)],m⟩⟩) else some (.ret,⟨[(2,.d (.bool false))],⟨[(0,.cells i.cells)],m⟩⟩):=by
 simp only[al.cells];intro k
 induction k with
 | zero =>
  intro j J S hJ hj hS;subst hJ;rw[aa kG.eq_1,List.drop_eq_nil_of_le (by omega)];simp (disch:=omega) [↓if_neg]
 | succ k ih =>
  intro j J S hJ hj hS;subst hJ;rw[aa kG.eq_1,kA (by omega)];simp (disch:=omega) [↓if_pos];by_cases hx:1≤nth i.groups j∧nth i.groups j≤8
  ·rw[if_neg (by omega),ih (j+1) _ _ (by omega) (by omega) (by omega)];simp[hx,Int.add_assoc]
  ·rw[if_pos (by omega),if_neg (fun h=>hx ⟨h.1.1,h.1.2⟩)]
theorem aj3 (i:al) (hi:i.Fit):aM prog wy [.agg i.cells]=if i.grouped then some (.d (.bool true)) else some (.d (.bool false)):=by
 have hl:=hi.len;rw[az ade wU.eq_1 rfl];unfold al.grouped;by_cases hs:i.seq=2
 ·have:=aos i hi.len 1 i.groups.length 0 0 0 rfl (by omega) (by omega);simp only[al.cells]at this;simp (disch:=omega) [↓if_pos,↓if_neg,this]
 ·have:=Ks i.groups [1] (by omega) (by simp);have h1:ai [1]=[[.int .i64 1]]:=rfl;rw[h1]at this;simp (disch:=omega) [this,↓if_neg,↓if_pos]
def al.may (r:Nat) (i:al):Prop:=i.seq≤3∧i.shape≤1∧0≤i.max∧i.max≤kL r (decide (i.seq=2))∧i.grouped
instance {r:Nat}{i:al}:Decidable (i.may r):=by unfold al.may;infer_instance
theorem pk (r:Int) (i:al) (hi:i.Fit):aM prog dO [.d (.int .i64 r),.agg i.cells]=if ct r then if i.may r.toNat then some (.d (.int .i64 0)) else some (.d (.int .i64 8)) else some (.d (.int .i64 2)):=by
 have hg:=aj3 i hi;simp only[al.cells]at hg;rw[az aiH BD.eq_1 rfl];by_cases hr:ct r
 ·by_cases hs:i.seq=2
  ·simp (config := { maxSteps:=1000000 }) (disch:=omega) [fe,↓if_pos,↓if_neg,hg];refine auL ?_;by_cases h:i.grouped<;>simp[al.may,h,hs];omega
  ·simp (config := { maxSteps:=1000000 }) (disch:=omega) [fe,↓if_pos,↓if_neg,hg];refine auL ?_;by_cases h:i.grouped<;>simp[al.may,h,hs];omega
 ·by_cases hs:i.seq=2
  ·simp (config := { maxSteps:=1000000 }) (disch:=omega) [fe,↓if_pos,↓if_neg]
  ·simp (config := { maxSteps:=1000000 }) (disch:=omega) [fe,↓if_pos,↓if_neg]
theorem aqH (i:al) (hi:i.Fit):aM prog E5 [.agg i.cells]=if i.may 11 then some (.d (.bool true)) else some (.d (.bool false)):=by
 have hg:=pk 11 i hi;simp only[al.cells]at hg;rw[az alZ Fa.eq_1 rfl];simp (config := { maxSteps:=1000000 }) (disch:=omega) [hg,↓if_pos]
def al.many (i:al):Nat:=if i.seq=2 then 8 else 1
theorem jr (i:al) (hi:i.Fit):aM prog dr [.agg i.cells]=if i.may 11 then some (.tup [.d (.int .i64 i.many),.d (.int .i64 0)]) else some (.tup [.d (.int .i64 0),.d (.int .i64 8)]):=by
 have hg:=aqH i hi;simp only[al.cells]at hg;rw[az acz wl.eq_1 rfl];by_cases hs:i.seq=2
 ·simp (config := { maxSteps:=1000000 }) (disch:=omega) [hg,↓if_pos,al.many]
 ·simp (config := { maxSteps:=1000000 }) (disch:=omega) [hg,↓if_neg,al.many]
theorem j6:∀ {l:List Int},(∀ n∈l,1≤n)→(l.length:Int)≤l.sum
 | [],_=>by simp
 | x::r,h=>by
  have:=j6 (l:=r) (fun n hn=>h n (by simp[hn]));have:=h x (by simp);simp;omega
def vO (b:List Nat) (a s:Int):Nat:=match aO b a s with | .ok v _=>v | .er _=>0
def nO (b:List Nat) (a s:Int):Nat:=match aO b a s with | .ok _ n=>n | .er _=>0
def eO (b:List Nat) (a s:Int):Nat:=match aO b a s with | .ok _ _=>0 | .er e=>e+1
theorem cW {b:List Nat}{a s:Int}{v n:Nat}(h:aO b a s=.ok v n):pG b s v n:=by
 unfold aO at h;by_cases h1:(0≤s∧s≤31)∧0≤a∧a≤b.length
 ·rw[if_pos h1]at h;by_cases h2:b.length-a<s
  ·rw[if_pos h2]at h;exact absurd h (by simp)
  ·rw[if_neg h2]at h;by_cases h3:bin ((b.drop a.toNat).take s.toNat)
   ·rw[if_pos h3]at h;injection h with hv hn
    have:=KM (n:=0) (i:=0) h3 (by omega);have hl:((b.drop a.toNat).take s.toNat).length=s.toNat:=by simp;omega
    rw[hl]at this;subst hv hn;exact⟨by simpa using this,by omega⟩
   ·rw[if_neg h3]at h;exact absurd h (by simp)
 ·rw[if_neg h1]at h;exact absurd h (by simp)
theorem DQ (b:List Nat) (a s:Int) (hb:b.length≤1000000000) (ha:i64 a):aM prog cy [.d (.lst (af b)),.d (.int .i64 a),.d (.int .i64 s)]=some (.tup [.d (.int .i64 (vO b a s)),.d (.int .i64 (nO b a s)),.d (.int .i64 (eO b a s))]):=by
 rw[d8 b a s hb ha];unfold vO nO eO
 cases h:aO b a s with
 | ok v n=>rw[cu (cW h)];simp
 | er e=>simp[rK]
structure RS where
 a:Int
 e:Nat
def ra (s:RS):Int:=s.a
def re (s:RS):Nat:=s.e
def sV (b:List Nat) (st:RS) (s:Int):Nat:=if st.e=0 then vO b st.a s else 0
def sN (b:List Nat) (st:RS) (s:Int):RS:=if st.e=0 then ⟨nO b st.a s,eO b st.a s⟩ else st
theorem az0 {b:List Nat}{a s:Int}:vO b a s<2 ^ s.toNat:=by
 unfold vO
 cases h:aO b a s with
 | ok v n=>exact(cW h).1
 | er e=>exact Nat.two_pow_pos _
theorem nc {b:List Nat}{st:RS}{s:Int}:sV b st s<2 ^ s.toNat:=by
 unfold sV;split
 ·exact az0
 ·exact Nat.two_pow_pos _
theorem aph {b:List Nat}{a s:Int}:nO b a s≤b.length:=by
 unfold nO
 cases h:aO b a s with
 | ok v n=>exact(cW h).2
 | er e=>exact Nat.zero_le _
def RS.fit (st:RS):Prop:=i64 st.a
theorem c7 {b:List Nat}{st:RS}{s:Int}(hb:b.length≤1000000000) (h:st.fit):(sN b st s).fit:=by
 unfold sN;split
 ·have:=aph (b:=b) (a:=st.a) (s:=s);show i64 _;simp only[];omega
 ·exact h
def sL (b:List Nat):Nat→RS→List Nat
 | 0,_=>[]
 | k+1,st=>sV b st 1::sL b k (sN b st 1)
def DC (b:List Nat):Nat→RS→RS
 | 0,st=>st
 | k+1,st=>DC b k (sN b st 1)
theorem t4 (b:List Nat) (s:Int) (st:RS) (X:Obj) (R:ac) (N:Nat) (hb:b.length≤1000000000) (ha:st.fit):(Dn prog).call kX [.d (.int .i64 s),.ptr 3 0,.ptr 0 0,.ptr 2 0] ⟨(0,.cells [.d (.lst (af b))])::(1,X)::(2,.cells [.d (.int .i64 (ra st))])::(3,.cells [.d (.int .i64 (re st))])::R,N⟩ =
  some (.d (.int .i64 (sV b st s)),⟨(0,.cells [.d (.lst (af b))])::(1,X)::(2,.cells [.d (.int .i64 (ra (sN b st s)))])::(3,.cells [.d (.int .i64 (re (sN b st s)))])::R,N⟩):=by
 rw[aD ail Cn.eq_1 rfl];obtain⟨a,e⟩:=st;have hf:i64 a:=ha;by_cases he:e=0
 ·subst he;simp (config := { maxSteps:=1000000 }) (disch:=omega) [DQ,ra,re,sV,sN]
 ·simp (config := { maxSteps:=1000000 }) (disch:=omega) [ra,re,sV,sN,he]
def grow:List Int→List Nat→List Int
 | g,[]=>g
 | g,x::r=>grow (if x=1 then g.set (g.length-1) (nth g (g.length-1)+1) else g++[1]) r
def nm (g:List Int):Nat:=3+g.length
theorem aEe {g:List Int}(h:g≠[]):4≤nm g:=by have:=List.length_pos_iff.2 h;unfold nm;omega
abbrev hpI (b:List Nat) (q s:Nat) (m:Int) (g:List Int) (st:RS):HS:=⟨[(0,.cells [.d (.lst (af b))]),(1,.cells [.d (.int .u8 q),.d (.int .u8 s),.d (.int .i64 m),.sl (3+g.length) 0 g.length]),
           (2,.cells [.d (.int .i64 (ra st))]),(3,.cells [.d (.int .i64 (re st))]),(3+g.length,.arr 1 (ai g))],4+g.length⟩
theorem alq (b:List Nat) (r o m:Int) (q s:Nat) (hb:b.length≤1000000000):∀ (k i:Nat) (g:List Int) (st:RS) (I:Int),I=i→i+k=7→g≠[]→g.length+k≤100→(∀ n∈g,0≤n∧n+k≤100)→st.fit→
  (Dn prog).code (.loop mz) ⟨[(2,AV.d (D.int IntKind.i64 r)),(6,AV.ptr 1 0),(7,AV.ptr 2 0),(8,AV.ptr 3 0),
           (9,AV.fn kX [] [AV.ptr 3 0,AV.ptr 0 0,AV.ptr 2 0]),(10,.d (.int .i64 o)),(40,.d (.int .i64 I))],hpI b q s m g st⟩ =
   some (.exit 0,⟨[(2,AV.d (D.int IntKind.i64 r)),(6,AV.ptr 1 0),(7,AV.ptr 2 0),(8,AV.ptr 3 0),(10,.d (.int .i64 o))],hpI b q s m (grow g (sL b k st)) (DC b k st)⟩):=by
 intro k
 induction k with
 | zero =>
  intro i g st I hI hi hg hl hn ha;subst hI;rw[aa mz.eq_1];simp (disch:=omega) [↓if_neg,hpI,grow,sL,DC]
 | succ k ih =>
  intro i g st I hI hi hg hl hn ha;subst hI;have:=List.length_pos_iff.2 hg;have h3:3+(g.length+1)=4+g.length:=by omega
  have h4:4+(g.length+1)=4+g.length+1:=by omega
  rw[aa mz.eq_1];have hv:nth g (g.length-1)∈g:=fk (by omega);have hv2:=hn _ hv;simp only[grow,sL,DC];by_cases h1:sV b st 1=1
  ·have hs:(g.set (g.length-1) (nth g (g.length-1)+1)).length=g.length:=by simp
   have h:=ih (i+1) (g.set (g.length-1) (nth g (g.length-1)+1)) (sN b st 1) (i+1) (by omega) (by omega) (by intro h0;rw[h0,List.length_nil]at hs;omega) (by rw[hs];omega) (fun x hx=>by
    rcases List.mem_or_eq_of_mem_set hx with h | h
    ·have:=hn x h;omega
    ·omega) (c7 hb ha)
   simp only[hpI,hs]at h;simp (maxSteps:=300000) (disch:=first | omega | assumption) [↓if_pos,↓if_neg,t4,h3,h4,hpI];rw[h]
  ·have h:=ih (i+1) (g++[1]) (sN b st 1) (i+1) (by omega) (by omega) (by simp) (by simp;omega) (fun x hx=>by
    rcases List.mem_append.1 hx with h | h
    ·have:=hn x h;omega
    ·simp at h;omega) (c7 hb ha)
   simp only[hpI,List.length_append,List.length_cons,List.length_nil,Nat.zero_add,h3,h4]at h;simp (maxSteps:=300000) (disch:=first | omega | assumption) [↓if_pos,↓if_neg,t4,h3,h4,hpI];rw[h]
def au (m:Nat) (xs:List (List D)):AV:=match xs with
 | []=>.nl
 | x::r=>.own false m (x::r)
theorem ky {m:Nat}:au m []=.nl:=rfl
theorem afl {m:Nat}{x:List D}{r:List (List D)}:au m (x::r)=.own false m (x::r):=rfl
theorem lJ {m:Nat}{xs:List (List D)}{y:List D}:au m (xs++[y])=.own false m (xs++[y]):=by cases xs<;>rfl
theorem lE {m:Nat}{xs:List (List D)}(h:xs≠[]):au m xs=.own false m xs:=by cases xs with | nil=>exact absurd rfl h | cons=>rfl
@[simp] theorem aFk {m:Nat}{xs:List (List D)}:firm (au m xs)=au m xs:=by cases xs<;>rfl
@[simp] theorem aEv {m:Nat}{xs:List (List D)}:kM (au m xs)=au m xs:=by cases xs<;>rfl
@[simp] theorem aE1 {m:Nat}{xs:List (List D)}:tP (au m xs)=au m xs:=by cases xs<;>rfl
@[simp] theorem aGK {m:Nat}{xs:List (List D)}:xx (au m xs)=some (.lst xs):=by cases xs<;>rfl
@[simp] theorem aE0 {m:Nat}{xs:List (List D)}:AV.cells (au m xs)=[au m xs]:=by cases xs<;>rfl
@[simp] theorem aCB {m:Nat}{xs:List (List D)}:bJ (au m xs)=true:=by cases xs<;>rfl
@[simp] theorem aE5 {h:ac}{m:Nat}{xs:List (List D)}:elems h (au m xs)=some xs:=by cases xs<;>rfl
@[simp] theorem aD0 {h:ac}{m:Nat}{xs:List (List D)}:dE h (au m xs)=some (au m xs,h):=by cases xs<;>rfl
@[simp] theorem aGn {m:Nat}{h:ac}{xs:List (List D)}{y:List D}(hy:y.length=m) (hl:xs.length<1000000000):acs m h (au m xs) (.own false m [y])=some (.own (decide (xs=[])) m (xs++[y]),h):=by
 subst hy
 cases xs with
 | nil=>simp[au,elems,decide_true]
 | cons x r=>simp[au,elems];simp at hl;omega
@[simp] theorem aGp {m:Nat}{h:ac}{xs:List (List D)}{y:List D}(hl:xs.length<1000000000):cf m h (au m xs) [y]=some (.own (decide (xs=[])) m (xs++[y]),h):=by
 cases xs with
 | nil=>simp[au,decide_true]
 | cons x r=>simp[au];simp at hl;omega
def aui (o:Obj) (h:ac) (id off len:Nat):Option (AV×ac) :=
 match o with
 | .arr m xs=>bI (Nat.ble (off+len) xs.length) (some (.own true m (sub xs off len),del h id))
 | _=>none
@[simp ↓] theorem aF3 {m:Nat}{xs:List (List D)}{h:ac}{id off len:Nat}:aui (.arr m xs) h id off len=bI (Nat.ble (off+len) xs.length) (some (.own true m (sub xs off len),del h id)):=(rfl)
@[simp] theorem aFy {h:ac}{id off len:Nat}:fR h (.sl id off len)=bA (get h id) fun o=>aui o h id off len:=by
 simp only[fR]
 cases get h id with
 | none=>rfl
 | some o =>
  cases o with
  | arr m xs=>simp only[bA,aui];cases Nat.ble (off+len) xs.length<;>rfl
  | cells cs=>rfl
  | loop=>rfl
theorem Tj:∀ {l:List Nat}{g:List Int}{t:Int},g≠[]→(∀ n∈g,0≤n∧n+l.length≤t)→1+l.length≤t→∀ n∈grow g l,0≤n∧n≤t
 | [],g,t,h0,h,ht,n,hn=>by grind [grow]
 | x::r,g,t,h0,h,ht,n,hn=>by
  rw[grow]at hn;have hl:=List.length_pos_iff.2 h0;simp only[List.length_cons]at h ht;by_cases hx:x=1
  ·have h1:=h _ (fk (l:=g) (i:=g.length-1) (by omega));refine Tj (l:=r) (t:=t) (fun h2=>?_) (fun y hy=>?_) (by omega) n hn
   all_goals grind [List.length_nil]
  ·rw[if_neg hx]at hn;refine Tj (l:=r) (t:=t) (by simp) (fun y hy=>?_) (by omega) n hn
   grind
theorem ajR:∀ {l:List Nat}{g:List Int},(grow g l).length≤g.length+l.length
 | [],g=>by simp[grow]
 | x::r,g=>by
  rw[grow];have:=ajR (l:=r) (g:=if x=1 then g.set (g.length-1) (nth g (g.length-1)+1) else g++[1])
  grind
theorem Vs {b:List Nat}:∀ {k:Nat}{st:RS},(sL b k st).length=k
 | 0,_=>rfl
 | k+1,_=>by simp[sL,Vs (k:=k)]
theorem Ru (r m:Int) (q s:Nat) (g:List Int) (hq:q≤255) (hs:s≤255) (hm:i64 m) (hg:g.length≤100) (h:∀ n∈g,0≤n∧n≤100):aM prog dO [.d (.int .i64 r),.agg [.d (.int .u8 q),.d (.int .u8 s),.d (.int .i64 m),.d (.lst (ai g))]]=if ct r then if al.may r.toNat ⟨q,s,m,g⟩ then some (.d (.int .i64 0)) else some (.d (.int .i64 8)) else some (.d (.int .i64 2)) :=
 pk r ⟨q,s,m,g⟩ ⟨hq,hs,hm,by grind,fun n hn=>by grind⟩
def sG (b:List Nat) (st:RS):List Int:=grow [1] (sL b 7 st)
theorem akj {b:List Nat}{st:RS}:4≤nm (sG b st)∧(sG b st).length≤100∧∀ n∈sG b st,0≤n∧n≤100:=by
 have h1:=ajR (l:=sL b 7 st) (g:=[1]);rw[Vs]at h1;have h2:=Tj (l:=sL b 7 st) (g:=[1]) (t:=100) (by simp) (by simp[Vs]) (by rw[Vs];omega);refine⟨?_,by grind [sG],h2⟩;have:sG b st≠[]:=by
  unfold sG;have:∀ (l:List Nat) (g:List Int),g≠[]→grow g l≠[]:=by
   intro l
   induction l<;>grind [grow]
  simp_all
 exact aEe this
theorem al5 (b:List Nat) (r o m:Int) (q s:Nat) (st:RS) (hb:b.length≤1000000000) (hs:st.fit) :
  (Dn prog).code (.loop mz) ⟨[(2,AV.d (D.int IntKind.i64 r)),(6,AV.ptr 1 0),(7,AV.ptr 2 0),(8,AV.ptr 3 0),
           (9,AV.fn kX [] [AV.ptr 3 0,AV.ptr 0 0,AV.ptr 2 0]),(10,.d (.int .i64 o)),(40,.d (.int .i64 0))],⟨[(0,.cells [.d (.lst (af b))]),(1,.cells [.d (.int .u8 q),.d (.int .u8 s),.d (.int .i64 m),.sl 4 0 1]),(2,.cells [.d (.int .i64 (ra st))]),(3,.cells [.d (.int .i64 (re st))]),(4,.arr 1 [[.int .i64 1]])],5⟩⟩ =
   some (.exit 0,⟨[(2,AV.d (D.int IntKind.i64 r)),(6,AV.ptr 1 0),(7,AV.ptr 2 0),(8,AV.ptr 3 0),(10,.d (.int .i64 o))],⟨[(0,.cells [.d (.lst (af b))]),(1,.cells [.d (.int .u8 q),.d (.int .u8 s),.d (.int .i64 m),.sl (nm (sG b st)) 0 (sG b st).length]),
           (2,.cells [.d (.int .i64 (ra (DC b 7 st)))]),(3,.cells [.d (.int .i64 (re (DC b 7 st)))]),(nm (sG b st),.arr 1 (ai (sG b st)))],4+(sG b st).length⟩⟩) :=
 alq b r o m q s hb 7 0 [1] st 0 rfl rfl (by simp) (by simp) (by simp) hs
theorem aiV {b:List Nat}{st:RS}:sV b st 1≤1:=by have:=nc (b:=b) (st:=st) (s:=1);grind
theorem azr {b:List Nat}{st:RS}:sV b st 2≤3:=by have:=nc (b:=b) (st:=st) (s:=2);grind
theorem aDJ {b:List Nat}{st:RS}:sV b st 4≤15:=by have:=nc (b:=b) (st:=st) (s:=4);grind
theorem aDD {b:List Nat}{st:RS}:sV b st 6≤63:=by have:=nc (b:=b) (st:=st) (s:=6);grind
theorem aAb {a:Int}:ra ⟨a,0⟩=a:=rfl
theorem aA8 {a:Int}:re ⟨a,0⟩=0:=rfl
theorem Q0 (b:List Nat) (s a:Int) (X:Obj) (R:ac) (N:Nat) (hb:b.length≤1000000000) (ha:i64 a):(Dn prog).call kX [.d (.int .i64 s),.ptr 3 0,.ptr 0 0,.ptr 2 0] ⟨(0,.cells [.d (.lst (af b))])::(1,X)::(2,.cells [.d (.int .i64 a)])::(3,.cells [.d (.int .i64 0)])::R,N⟩ =
  some (.d (.int .i64 (sV b ⟨a,0⟩ s)),⟨(0,.cells [.d (.lst (af b))])::(1,X)::(2,.cells [.d (.int .i64 (ra (sN b ⟨a,0⟩ s)))])::(3,.cells [.d (.int .i64 (re (sN b ⟨a,0⟩ s)))])::R,N⟩) :=
 t4 b s ⟨a,0⟩ X R N hb ha
def R.bind {α β:Type}(x:R α) (f:α→Nat→R β):R β :=
 match x with
 | .ok v n=>f v n
 | .er e=>.er e
@[simp] theorem aw {α β:Type}{v:α}{n:Nat}{f:α→Nat→R β}:R.bind (.ok v n) f=f v n:=rfl
@[simp] theorem cS {α β:Type}{e:Nat}{f:α→Nat→R β}:R.bind (.er e) f=.er e:=rfl
def MC {α:Type}(c:Prop) [Decidable c] (v:α) (n:Nat):R α:=if c then .ok v n else .er 7
def qu (b:List Nat):Nat→Nat→R (List Nat)
 | 0,a=>.ok [] a
 | k+1,a=>(aO b a 1).bind fun v n=>(qu b k n).bind fun l m=>.ok (v::l) m
def sj (b:List Nat) (a:Int) (r:Nat):R al :=
 (aO b a 1).bind fun o n=>(aO b n 2).bind fun q n=>(aO b n 1).bind fun s n =>
 if q=2 then (aO b n 4).bind fun m n=>(qu b 7 n).bind fun l n=>MC (o=0∧al.may r ⟨q,s,m,grow [1] l⟩) ⟨q,s,m,grow [1] l⟩ n
 else (aO b n 6).bind fun m n=>(aO b n 1).bind fun p n=>MC ((o=0∧p=0)∧al.may r ⟨q,s,m,[1]⟩) ⟨q,s,m,[1]⟩ n
theorem fY {b:List Nat}{a s:Int}{v n:Nat}(h:aO b a s=.ok v n):sV b ⟨a,0⟩ s=v∧sN b ⟨a,0⟩ s=⟨n,0⟩:=by
 grind [sV,sN,vO,nO,eO]
theorem ud {b:List Nat}{a s:Int}{e:Nat}(h:aO b a s=.er e):sV b ⟨a,0⟩ s=0∧sN b ⟨a,0⟩ s=⟨0,e+1⟩:=by
 grind [sV,sN,vO,nO,eO]
theorem Sk {b:List Nat}{a s:Int}{e:Nat}:sV b ⟨a,e+1⟩ s=0∧sN b ⟨a,e+1⟩ s=⟨a,e+1⟩:=by
 grind [sV,sN]
theorem ah4 {b:List Nat}{a:Int}{e:Nat}:∀ {k:Nat},DC b k ⟨a,e+1⟩=⟨a,e+1⟩
 | 0=>rfl
 | k+1=>by rw[DC,Sk.2,ah4]
theorem ayh {b:List Nat}:∀ {k a:Nat},match qu b k a with
  | .ok l n=>sL b k ⟨a,0⟩=l∧DC b k ⟨a,0⟩=⟨n,0⟩∧(0<k→n≤b.length)
  | .er e=>DC b k ⟨a,0⟩=⟨0,e+1⟩
 | 0,a=>⟨rfl,rfl,fun h=>absurd h (by omega)⟩
 | k+1,a=>by
  simp only[qu,sL,DC]
  cases h:aO b a 1 with
  | ok v n =>
   have hp:=(cW h).2;rw[(fY h).1,(fY h).2,aw];have ih:=ayh (b:=b) (k:=k) (a:=n)
   cases h2:qu b k n with
   | ok l m =>
    rw[h2]at ih;refine⟨by rw[ih.1],ih.2.1,fun _=>?_⟩
    cases k<;>grind [qu]
   | er e=>simp_all
  | er e=>simp_all [ud,ah4]
abbrev S9:List AV:=[.d (.int .u8 0),.d (.int .u8 0),.d (.int .i64 0),.nl]
abbrev Sg (i:al):List AV:=[.d (.int .u8 i.seq),.d (.int .u8 i.shape),.d (.int .i64 i.max),.own true 1 (ai i.groups)]
set_option maxHeartbeats 4000000 in
theorem aqj (b:List Nat) (a r:Int) (hb:b.length≤1000000000) (ha:i64 a) (hr:ct r) (s1 s2 s3 s4:RS) (e1:s1=sN b ⟨a,0⟩ 1) (e2:s2=sN b s1 2) (e3:s3=sN b s2 1) (e4:s4=sN b s3 4) (hq:sV b s1 2=2):aM prog uC [.d (.lst (af b)),.d (.int .i64 a),.d (.int .i64 r)] =
  if re (DC b 7 s4)=0 then if sV b ⟨a,0⟩ 1=0∧al.may r.toNat ⟨sV b s1 2,sV b s2 1,sV b s3 4,sG b s4⟩ then some (.tup [.agg (Sg ⟨sV b s1 2,sV b s2 1,sV b s3 4,sG b s4⟩),.d (.int .i64 (ra (DC b 7 s4))),.d (.int .i64 0)])
   else some (.tup [.agg S9,.d (.int .i64 0),.d (.int .i64 8)])
  else some (.tup [.agg S9,.d (.int .i64 0),.d (.int .i64 (re (DC b 7 s4)))]):=by
 rw[az I2 uG.eq_1 rfl];have f1:s1.fit:=e1▸c7 hb ha;have f2:s2.fit:=e2▸c7 hb f1;have f3:s3.fit:=e3▸c7 hb f2;have f4:s4.fit:=e4▸c7 hb f3;have v1:=aiV (b:=b) (st:=⟨a,0⟩);have v2:=azr (b:=b) (st:=s1);have v3:=aiV (b:=b) (st:=s2);have v4:=aDJ (b:=b) (st:=s3);obtain⟨g1,g2,g3⟩:=akj (b:=b) (st:=s4);simp (maxSteps:=300000) (disch:=first | omega | assumption) [fe,↓if_pos,↓if_neg,t4,Q0,al5,Ru,←e1,←e2,←e3,←e4,YE,ap7]
set_option maxHeartbeats 4000000 in
theorem arb (b:List Nat) (a r:Int) (hb:b.length≤1000000000) (ha:i64 a) (hr:ct r) (s1 s2 s3 s4 s5:RS) (e1:s1=sN b ⟨a,0⟩ 1) (e2:s2=sN b s1 2) (e3:s3=sN b s2 1) (e4:s4=sN b s3 6) (e5:s5=sN b s4 1) (hq:sV b s1 2≠2):aM prog uC [.d (.lst (af b)),.d (.int .i64 a),.d (.int .i64 r)] =
  if re s5=0 then if (sV b ⟨a,0⟩ 1=0∧sV b s4 1=0)∧al.may r.toNat ⟨sV b s1 2,sV b s2 1,sV b s3 6,[1]⟩ then some (.tup [.agg (Sg ⟨sV b s1 2,sV b s2 1,sV b s3 6,[1]⟩),.d (.int .i64 (ra s5)),.d (.int .i64 0)])
   else some (.tup [.agg S9,.d (.int .i64 0),.d (.int .i64 8)])
  else some (.tup [.agg S9,.d (.int .i64 0),.d (.int .i64 (re s5))]):=by
 rw[az I2 uG.eq_1 rfl];have f1:s1.fit:=e1▸c7 hb ha;have f2:s2.fit:=e2▸c7 hb f1;have f3:s3.fit:=e3▸c7 hb f2;have f4:s4.fit:=e4▸c7 hb f3;have v1:=aiV (b:=b) (st:=⟨a,0⟩);have v2:=azr (b:=b) (st:=s1);have v3:=aiV (b:=b) (st:=s2);have v4:=aDD (b:=b) (st:=s3);have v5:=aiV (b:=b) (st:=s4);have hc:=Ru r (sV b s3 6) (sV b s1 2) (sV b s2 1) [1] (by omega) (by omega) (by omega) (by simp) (by simp);have h1:ai [1]=[[.int .i64 1]]:=rfl;rw[h1]at hc;simp (maxSteps:=300000) (disch:=first | omega | assumption) [fe,↓if_pos,↓if_neg,t4,Q0,hc,←e1,←e2,←e3,←e4,←e5,YE,ap7,ai];rfl
abbrev pI (b:List Nat) (r:Nat) (i:al) (n:Nat):Prop:=i.may r∧n≤b.length∧i.groups.length≤100
theorem amx {α γ:Type}{p:α→Nat→Prop}{c:Prop}[Decidable c] {v:α}{n:Nat}{f:α→Nat→γ}{g:Nat→γ}(h:c→p v n):rK p (MC c v n) f g=if c then f v n else g 7:=by
 grind [MC,cu,eK]
theorem auc (b:List Nat) (a r:Int) (hb:b.length≤1000000000) (ha:i64 a):aM prog uC [.d (.lst (af b)),.d (.int .i64 a),.d (.int .i64 r)] =
  if ct r then rK (pI b r.toNat) (sj b a r.toNat) (fun i n=>some (.tup [.agg (Sg i),.d (.int .i64 n),.d (.int .i64 0)])) fun e=>some (.tup [.agg S9,.d (.int .i64 0),.d (.int .i64 (e+1))])
  else some (.tup [.agg S9,.d (.int .i64 0),.d (.int .i64 2)]):=by
 by_cases hr:ct r
 ·rw[if_pos hr];unfold sj;by_cases hq:sV b (sN b ⟨a,0⟩ 1) 2=2
  ·rw[aqj b a r hb ha hr _ _ _ _ rfl rfl rfl rfl hq]
   cases h1:aO b a 1 with
   | er e=>simp_all [ud,Sk]
   | ok o n =>
    rw[(fY h1).2]at hq⊢;rw[(fY h1).1,aw]
    cases h2:aO b n 2 with
    | er e=>simp_all [ud]
    | ok q n =>
     rw[(fY h2).1]at hq⊢;rw[(fY h2).2,aw]
     cases h3:aO b n 1 with
     | er e=>simp_all [ud,Sk,ah4,re]
     | ok s n =>
      rw[(fY h3).2,(fY h3).1,aw,if_pos hq]
      cases h4:aO b n 4 with
      | er e=>simp_all [ud,ah4,re]
      | ok m n =>
       rw[(fY h4).2,(fY h4).1,aw];have h5:=ayh (b:=b) (k:=7) (a:=n);have h6:=(akj (b:=b) (st:=⟨n,0⟩)).2.1;unfold sG at h6⊢
       cases h7:qu b 7 n with
       | er e=>simp_all [re]
       | ok l n =>
        grind [aw,amx,re,ra]
  ·rw[arb b a r hb ha hr _ _ _ _ _ rfl rfl rfl rfl rfl hq]
   cases h1:aO b a 1 with
   | er e=>simp_all [ud,Sk,re]
   | ok o n =>
    rw[(fY h1).2]at hq⊢;rw[(fY h1).1,aw]
    cases h2:aO b n 2 with
    | er e=>simp_all [ud,Sk,re]
    | ok q n =>
     rw[(fY h2).1]at hq⊢;rw[(fY h2).2,aw]
     cases h3:aO b n 1 with
     | er e=>simp_all [ud,Sk,re]
     | ok s n =>
      rw[(fY h3).2,(fY h3).1,aw,if_neg hq]
      cases h4:aO b n 6 with
      | er e=>simp_all [ud,Sk,re]
      | ok m n =>
       rw[(fY h4).2,(fY h4).1,aw]
       cases h5:aO b n 1 with
       | er e=>simp_all [ud,re]
       | ok p n =>
        rw[(fY h5).2,(fY h5).1,aw,amx (fun h=>⟨h.2,(cW h5).2,by simp⟩)];simp[re,ra]
 ·rw[if_neg hr,az I2 uG.eq_1 rfl];simp (disch:=first | omega | assumption) [fe,↓if_neg]
theorem oZ {α β γ:Type}{p:α→Nat→Prop}{q:β→Nat→Prop}{x:R β}{f:β→Nat→R α}{F:α→Nat→γ}{G:Nat→γ}(h:∀ v n,x=.ok v n→q v n):rK p (x.bind f) F G=rK q x (fun v n=>rK p (f v n) F G) G:=by
 cases x with
 | ok v n=>rw[aw,cu (h v n rfl)]
 | er e=>rfl
theorem Cq {α γ:Type}{p:α→Nat→Prop}{b:List Nat}{a s:Int}{f:Nat→Nat→R α}{F:α→Nat→γ}{G:Nat→γ}:rK p ((aO b a s).bind f) F G=rK (pG b s) (aO b a s) (fun v n=>rK p (f v n) F G) G:=oZ fun _ _ h=>cW h
structure am where
 book:Int
 len:Int
abbrev am.cells (s:am):List D:=[.int .i64 s.book,.int .i64 s.len]
def dA (l:List am):List (List D):=l.map am.cells
@[simp] theorem asd {l:List am}:(dA l).length=l.length:=by simp[dA]
@[simp] theorem aBI {l:List am}{s:am}:dA (l++[s])=dA l++[s.cells]:=by simp[dA]
def px (b:List Nat) (sz aq left:Nat):Nat→Nat→Nat→R Nat
 | 0,_,_=>.er 7
 | f+1,a,acc=>(aO b a sz).bind fun n a=>if left<acc+n then .er 7 else if n=aq then px b sz aq left f a (acc+n) else .ok (acc+n) a
abbrev pL (b:List Nat) (left n a:Nat):Prop:=n≤left∧a≤b.length
theorem akZ {b:List Nat}{sz aq left:Nat}:∀ {f a acc n m:Nat},px b sz aq left f a acc=.ok n m→pL b left n m
 | 0,_,_,_,_,h=>absurd h (by simp[px])
 | f+1,a,acc,n,m,h=>by
  rw[px]at h
  cases h1:aO b a sz with
  | er e=>rw[h1]at h;exact absurd h (by simp)
  | ok v k =>
   rw[h1,aw]at h;by_cases h2:left<acc+v
   ·rw[if_pos h2]at h;exact absurd h (by simp)
   ·rw[if_neg h2]at h;by_cases h3:v=aq
    ·rw[if_pos h3]at h;exact akZ h
    ·rw[if_neg h3]at h;injection h with e1 e2
     subst e1 e2;exact⟨by omega,(cW h1).2⟩
theorem aug {α γ:Type}{p:α→Nat→Prop}{b:List Nat}{sz aq left f a acc:Nat}{g:Nat→Nat→R α}{F:α→Nat→γ}{G:Nat→γ}:rK p ((px b sz aq left f a acc).bind g) F G=rK (pL b left) (px b sz aq left f a acc) (fun v n=>rK p (g v n) F G) G:=oZ fun _ _ h=>akZ h
theorem avW {γ:Type}{b:List Nat}{sz aq left f a acc:Nat}{F:Nat→Nat→γ}{G:Nat→γ}:rK (pL b left) (px b sz aq left (f+1) a acc) F G=rK (pG b sz) (aO b a sz) (fun n a=>if left<acc+n then G 7 else if n=aq then rK (pL b left) (px b sz aq left f a (acc+n)) F G else F (acc+n) a) G:=by
 rw[px,Cq];refine fA (fun _ _=>rfl) (fun n a hp=>?_) fun _=>rfl
 by_cases h2:left<acc+n
 ·rw[if_pos h2,if_pos h2,eK]
 ·rw[if_neg h2,if_neg h2];by_cases h3:n=aq
  ·rw[if_pos h3,if_pos h3]
  ·rw[if_neg h3,if_neg h3,cu ⟨by omega,hp.2⟩]
abbrev er3 (e:Nat) (h:HS):Option (aX×St):=some (.ret,⟨[(6,.nl),(7,.d (.int .i64 0)),(8,.d (.int .i64 (e+1)))],h⟩)
theorem ami (b:List Nat) (sz aq left:Nat) (hb:b.length≤1000000000) (hsz:sz≤5) (hm:aq=2 ^ sz-1) (hs1:1≤sz) (hl:left≤1000) (x6 x11:AV) (bk:Int) (X:Obj) (y40 y41:D) (M N:Nat) (hM:1≤M):∀ (f a acc:Nat),left<acc+f→acc≤left→a≤b.length→
  (Dn prog).code (.loop qq) ⟨[(0,.d (.lst (af b))),(5,.ptr 0 0),(6,x6),(7,.d (.int .i64 a)),(9,.d (.int .i64 sz)),(10,.d (.int .i64 aq)),(11,x11),(12,.d (.int .i64 left)),(13,.ptr M 0),(14,.d (.int .i64 aq)),(40,.d y40),(41,.d y41)],⟨[(0,X),(M,.cells [.d (.int .i64 bk),.d (.int .i64 acc)])],N⟩⟩ =
  rK (pL b left) (px b sz aq left f a acc) (fun n a=>some (.exit 4,⟨[(0,.d (.lst (af b))),(5,.ptr 0 0),(6,x6),(7,.d (.int .i64 a)),(9,.d (.int .i64 sz)),(10,.d (.int .i64 aq)),(11,x11),(12,.d (.int .i64 left)),(13,.ptr M 0),(40,.d y40),(41,.d y41)],⟨[(0,X),(M,.cells [.d (.int .i64 bk),.d (.int .i64 n)])],N⟩⟩)) (fun e=>er3 e ⟨[(0,X)],N⟩):=by
 intro f
 induction f with
 | zero=>intro a acc h1 h2;omega
 | succ f ih =>
  intro a acc h1 h2 ha;rw[aa qq.eq_1,avW];have hp2:2 ^ sz≤2 ^ 5:=Nat.pow_le_pow_right (by omega) hsz;have hp3:2 ^ 1≤2 ^ sz:=Nat.pow_le_pow_right (by omega) hs1;have hM0:M≠0:=by omega
  simp (maxSteps:=300000) (disch:=first | omega | assumption) [↓if_pos,↓if_neg,d8,hM0,pG];refine fA (fun _ _=>rfl) (fun n a' hp=>?_) fun _=>rfl
  have hp4:n<2 ^ sz:=hp.1;by_cases h3:left<acc+n
  ·rw[if_pos h3,if_pos (by omega)];rfl
  ·rw[if_neg h3,if_neg (by omega)];by_cases h4:n=aq
   ·subst h4;rw[if_pos rfl,←ih a' (acc+n) (by omega) (by omega) hp.2];simp
   ·rw[if_neg h4,aa qq.eq_1];simp (maxSteps:=300000) (disch:=first | omega | assumption) [↓if_pos,↓if_neg]
def al.fsz (i:al):Nat:=if i.seq=2 then 3 else 5
theorem XA (i:al):aM prog uJ [.agg i.cells]=some (.tup [.d (.int .i64 i.fsz),.d (.int .i64 ((2 ^ i.fsz-1:Nat):Int))]):=by
 rw[az ajU Ct.eq_1 rfl];unfold al.fsz;by_cases h:i.seq=2
 ·simp (disch:=first | omega | assumption) [↓if_pos,h]
 ·simp (disch:=first | omega | assumption) [↓if_pos,↓if_neg]
abbrev FM (k:Int):Prop:=0≤k∧(k≤11∨k=13)
abbrev am.right (s:am) (left:Int):Prop:=(1≤s.len∧s.len≤left)∧FM s.book
theorem Vj (s:am) (left:Int):aM prog tM [.agg [.d (.int .i64 s.book),.d (.int .i64 s.len)],.d (.int .i64 left)]=if s.right left then some (.d (.bool true)) else some (.d (.bool false)):=by
 rw[az aiN CD.eq_1 rfl];by_cases h1:1≤s.len<;>by_cases h2:s.len≤left<;>by_cases h3:0≤s.book<;>by_cases h4:s.book≤11<;>by_cases h5:s.book=13<;>
  simp (disch:=first | omega | assumption) [↓if_pos,↓if_neg]
def CH (b:List Nat) (sz left:Nat) (a:Nat):R am :=
 (aO b a 4).bind fun k a=>if k=12∨13<k then .er 7 else (px b sz (2 ^ sz-1) left (left+1) a 0).bind fun n a=>if n=0 then .er 7 else .ok ⟨k,n⟩ a
abbrev pS (b:List Nat) (left:Nat) (s:am) (a:Nat):Prop:=(s.right left)∧a≤b.length
theorem awc {γ:Type}{b:List Nat}{sz left a:Nat}{F:am→Nat→γ}{G:Nat→γ}:rK (pS b left) (CH b sz left a) F G=rK (pG b 4) (aO b a 4) (fun k a=>if k=12∨13<k then G 7 else rK (pL b left) (px b sz (2 ^ sz-1) left (left+1) a 0) (fun n a=>if n=0 then G 7 else F ⟨k,n⟩ a) G) G:=by
 rw[CH,Cq];refine fA (fun _ _=>rfl) (fun k a hp=>?_) fun _=>rfl
 by_cases h:k=12∨13<k
 ·simp_all
 ·rw[if_neg h,if_neg h,aug];refine fA (fun _ _=>rfl) (fun n a hq=>?_) fun _=>rfl
  grind [eK,cu]
theorem akC {b:List Nat}{sz left a m:Nat}{s:am}(h:CH b sz left a=.ok s m):pS b left s m:=by
 rw[CH]at h
 cases h1:aO b a 4 with
 | er e=>simp_all
 | ok k a1 =>
  by_cases hk:k=12∨13<k
  ·simp_all
  ·cases h2:px b sz (2 ^ sz-1) left (left+1) a1 0 with
   | er e=>simp_all
   | ok n a2 =>
    have hq:=akZ h2
    grind [aw]
def fW (b:List Nat) (sz:Nat):Nat→Nat→Nat→R (List am)
 | 0,_,a=>.ok [] a
 | f+1,left,a=>if left=0 then .ok [] a else (CH b sz left a).bind fun s a=>(fW b sz f (left-s.len.toNat) a).bind fun l a=>.ok (s::l) a
def fitsS:Int→List am→Prop
 | left,[]=>left=0
 | left,s::l=>s.right left∧fitsS (left-s.len) l
instance:∀ (left:Int) (l:List am),Decidable (fitsS left l)
 | left,[]=>by unfold fitsS;infer_instance
 | left,s::l=>by
  unfold fitsS;have:Decidable (fitsS (left-s.len) l):=instDecidableFitsS _ l
  infer_instance
abbrev Yn (b:List Nat) (left:Nat) (l:List am) (a:Nat):Prop:=fitsS left l∧a≤b.length∧l.length≤left
theorem AM {b:List Nat}{sz:Nat}:∀ {f left a m:Nat}{l:List am},left≤f→a≤b.length→fW b sz f left a=.ok l m→Yn b left l m
 | 0,left,a,m,l,h,ha,e=>by
  grind [fW,fitsS]
 | f+1,left,a,m,l,h,ha,e=>by
  simp only[fW]at e;by_cases h0:left=0
  ·grind [fitsS]
  ·rw[if_neg h0]at e
   cases h1:CH b sz left a with
   | er e2=>simp_all
   | ok s a1 =>
    have hs:=akC h1;rw[h1,aw]at e
    cases h2:fW b sz f (left-s.len.toNat) a1 with
    | er e2=>simp_all
    | ok l2 a2 =>
     have ih:=AM (by omega) hs.2 h2;rw[h2,aw]at e;injection e with e1 e2
     subst e1 e2;refine⟨⟨hs.1,?_⟩,ih.2.1,?_⟩
     all_goals grind
theorem aqp {γ:Type}{b:List Nat}{sz f left a:Nat}{F:List am→Nat→γ}{G:Nat→γ}(hf:left≤f+1) (h0:left≠0):rK (Yn b left) (fW b sz (f+1) left a) F G =
  rK (pS b left) (CH b sz left a) (fun s a=>rK (Yn b (left-s.len.toNat)) (fW b sz f (left-s.len.toNat) a) (fun l a=>F (s::l) a) G) G:=by
 rw[fW,if_neg h0,oZ (q:=pS b left) fun _ _ h=>akC h];refine fA (fun _ _=>rfl) (fun s a hp=>?_) fun _=>rfl
 rw[oZ (q:=Yn b (left-s.len.toNat)) fun _ _ h=>AM (by omega) hp.2 h];refine fA (fun _ _=>rfl) (fun l a hq=>?_) fun _=>rfl
 rw[cu];refine⟨⟨hp.1,?_⟩,hq.2.1,?_⟩
 all_goals grind
theorem XR {γ:Type}{b:List Nat}{sz f a:Nat}{F:List am→Nat→γ}{G:Nat→γ}(ha:a≤b.length):rK (Yn b 0) (fW b sz f 0 a) F G=F [] a:=by
 cases f<;>grind [fW,cu,fitsS]
theorem U5 {α γ:Type}{p:α→Nat→Prop}{r:R α}{f f2:α→Nat→γ}{g g2:Nat→γ}(hp:∀ v n,r=.ok v n→p v n) (h:∀ v n,r=.ok v n→p v n→f v n=f2 v n) (k:∀ e,r=.er e→g e=g2 e):rK p r f g=rK p r f2 g2:=by
 cases r<;>simp_all [cu]
theorem al2 (b:List Nat) (sz:Nat) (hb:b.length≤1000000000) (hsz:sz≤5) (hs1:1≤sz) (x6:AV) (X:Obj) (y40 y41:D) (left a N:Nat) (G:List am) (h0:left≠0) (h2:left≤1000) (h3:G.length+left≤10000) (h4:1≤N) (ha:a≤b.length) :
  (Dn prog).code j5 ⟨[(0,.d (.lst (af b))),(5,.ptr 0 0),(6,x6),(7,.d (.int .i64 a)),(9,.d (.int .i64 sz)),(10,.d (.int .i64 ((2 ^ sz-1:Nat):Int))),(11,au 2 (dA G)),(12,.d (.int .i64 left)),(40,.d y40),(41,.d y41)],⟨[(0,X)],N⟩⟩ =
  rK (pS b left) (CH b sz left a) (fun s a=>some (.normal,⟨[(0,.d (.lst (af b))),(5,.ptr 0 0),(6,x6),(7,.d (.int .i64 a)),(9,.d (.int .i64 sz)),(10,.d (.int .i64 ((2 ^ sz-1:Nat):Int))),(11,au 2 (dA (G++[s]))),(12,.d (.int .i64 ((left-s.len.toNat:Nat):Int))),(40,.d y40),(41,.d y41)],⟨[(0,X)],N+1⟩⟩)) (fun e=>er3 e ⟨[(0,X)],N+1⟩):=by
 rw[awc,j5.eq_1];have hp3:2 ^ 1≤2 ^ sz:=Nat.pow_le_pow_right (by omega) hs1;have hN0:N≠0:=by omega
 have c0:((0:Nat):Int)=0:=rfl;have h5:=fun bk M N hM a h1 h2' ha=>ami b sz (2 ^ sz-1) left hb hsz rfl hs1 h2 x6 (au 2 (dA G)) bk X y40 y41 M N hM (left+1) a 0 h1 h2' ha
 simp only[c0]at h5;have h6:=fun k n left=>Vj ⟨k,n⟩ left
 simp (maxSteps:=300000) (disch:=first | omega | assumption) [↓if_pos,↓if_neg,d8];refine fA (fun _ _=>rfl) (fun k a1 hp=>?_) fun _=>rfl
 have hp1:k<16:=hp.1;by_cases hk:k=12∨13<k
 ·grind
 ·rw[if_neg hk,if_neg (by omega),h5 k N (N+1) h4 a1 (by omega) (by omega) hp.2];simp only[ayn,ayK];refine fA (fun _ _=>rfl) (fun n a2 hq=>?_) fun _=>rfl
  by_cases hn:n=0
  ·have hr:¬ am.right ⟨k,n⟩ left:=by simp_all
   simp (disch:=first | omega | assumption) [↓if_pos,↓if_neg,h6]
  ·have hr:am.right ⟨k,n⟩ left:=by grind
   have e1:((left-n:Nat):Int)=(left:Int)-n:=by omega
   have e2:(dA G).length<1000000000:=by grind [asd]
   simp (disch:=first | omega | assumption) [↓if_pos,↓if_neg,h6,e1,lJ]
def Nm (b:List Nat) (sz:Nat):Nat→Nat→Nat→Nat
 | 0,_,_=>0
 | f+1,left,a=>if left=0 then 0 else match CH b sz left a with
  | .ok s a=>Nm b sz f (left-s.len.toNat) a+1
  | .er _=>1
theorem alx (b:List Nat) (sz:Nat) (hb:b.length≤1000000000) (hsz:sz≤5) (hs1:1≤sz) (x6:AV) (X:Obj) (y40 y41:D):∀ (f left a N:Nat) (G:List am),left≤f→left≤1000→G.length+left≤10000→1≤N→a≤b.length→
  (Dn prog).code (.loop j5) ⟨[(0,.d (.lst (af b))),(5,.ptr 0 0),(6,x6),(7,.d (.int .i64 a)),(9,.d (.int .i64 sz)),(10,.d (.int .i64 ((2 ^ sz-1:Nat):Int))),(11,au 2 (dA G)),(12,.d (.int .i64 left)),(40,.d y40),(41,.d y41)],⟨[(0,X)],N⟩⟩ =
  rK (Yn b left) (fW b sz f left a) (fun l a=>some (.exit 2,⟨[(0,.d (.lst (af b))),(5,.ptr 0 0),(6,x6),(7,.d (.int .i64 a)),(9,.d (.int .i64 sz)),(10,.d (.int .i64 ((2 ^ sz-1:Nat):Int))),(11,au 2 (dA (G++l))),(40,.d y40),(41,.d y41)],⟨[(0,X)],N+l.length⟩⟩)) (fun e=>er3 e ⟨[(0,X)],N+Nm b sz f left a⟩):=by
 intro f
 induction f with
 | zero =>
  intro left a N G h1 h2 h3 h4 ha;have:left=0:=by omega
  subst this;rw[XR ha,aa j5.eq_1];simp (disch:=first | omega | assumption) [↓if_neg]
 | succ f ih =>
  intro left a N G h1 h2 h3 h4 ha;by_cases h0:left=0
  ·subst h0;rw[XR ha,aa j5.eq_1];simp (disch:=first | omega | assumption) [↓if_neg]
  ·rw[aqp h1 h0,aa rfl,al2 b sz hb hsz hs1 x6 X y40 y41 left a N G h0 h2 h3 h4 ha,anu];refine U5 (fun _ _ h=>akC h) (fun s a1 e1 hp=>?_) (fun e e1=>?_)
   ·rw[Gg,ih (left-s.len.toNat) a1 (N+1) (G++[s]) (by omega) (by omega) (by grind) (by omega) hp.2]
    grind [Nm]
   simp_all [Nm]
def lQ (b:List Nat) (sz aq:Nat):Nat→Nat→R (List (List am))
 | 0,a=>.ok [] a
 | k+1,a=>(fW b sz aq aq a).bind fun l a=>(lQ b sz aq k a).bind fun g a=>.ok (l::g) a
abbrev Ro (b:List Nat) (max k:Nat) (g:List (List am)) (a:Nat):Prop:=(∀ l∈g,fitsS max l∧l.length≤max)∧a≤b.length∧g.length=k
theorem NI {b:List Nat}{sz max:Nat}:∀ {k a m:Nat}{g:List (List am)},a≤b.length→lQ b sz max k a=.ok g m→Ro b max k g m
 | 0,a,m,g,ha,h=>by
  grind [lQ]
 | k+1,a,m,g,ha,h=>by
  simp only[lQ]at h
  cases h1:fW b sz max max a with
  | er e=>simp_all
  | ok l a1 =>
   have hp:=AM (Nat.le_refl _) ha h1
   cases h2:lQ b sz max k a1 with
   | er e=>simp_all
   | ok g2 a2 =>
    have hq:=NI hp.2.1 h2
    grind [aw]
theorem atw {γ:Type}{b:List Nat}{sz max k a:Nat}{F:List (List am)→Nat→γ}{G:Nat→γ}(ha:a≤b.length):rK (Ro b max (k+1)) (lQ b sz max (k+1) a) F G =
  rK (Yn b max) (fW b sz max max a) (fun l a=>rK (Ro b max k) (lQ b sz max k a) (fun g a=>F (l::g) a) G) G:=by
 rw[lQ,oZ (q:=Yn b max) fun _ _ h=>AM (Nat.le_refl _) ha h];refine fA (fun _ _=>rfl) (fun l a hp=>?_) fun _=>rfl
 rw[oZ (q:=Ro b max k) fun _ _ h=>NI hp.2.1 h];refine fA (fun _ _=>rfl) (fun g a hq=>?_) fun _=>rfl
 grind [cu]
theorem apF {γ:Type}{b:List Nat}{sz max a:Nat}{F:List (List am)→Nat→γ}{G:Nat→γ}(ha:a≤b.length):rK (Ro b max 0) (lQ b sz max 0 a) F G=F [] a:=by
 grind [lQ,cu]
def aK (g:List (List am)):List (List D):=g.map fun l=>[.lst (dA l)]
@[simp] theorem apO {g:List (List am)}:(aK g).length=g.length:=by simp[aK]
@[simp] theorem aBb {g:List (List am)}{l:List am}:aK (g++[l])=aK g++[[.lst (dA l)]]:=by simp[aK]
def aoG:List (List am)→Nat
 | []=>0
 | l::g=>l.length+aoG g
def aoe (b:List Nat) (sz max:Nat):Nat→Nat→Nat
 | 0,_=>0
 | k+1,a=>match fW b sz max max a with
  | .ok l a=>l.length+aoe b sz max k a
  | .er _=>Nm b sz max max a
theorem alY (b:List Nat) (i:al) (sz mx:Nat) (hmx:i.max=mx) (hb:b.length≤1000000000) (hsz:sz≤5) (hs1:1≤sz) (h2:mx≤1000) (a N j len:Nat) (Gs:List (List am)) (h3:Gs.length≤10000) (h4:1≤N) (ha:a≤b.length) (hj:j<len) (hlen:len≤10000) :
  (Dn prog).code mp ⟨[(0,.d (.lst (af b))),(5,.ptr 0 0),(6,au 1 (aK Gs)),(7,.d (.int .i64 a)),(9,.d (.int .i64 sz)),(10,.d (.int .i64 ((2 ^ sz-1:Nat):Int))),(40,.d (.int .i64 len)),(41,.d (.int .i64 j))],⟨[(0,.cells i.cells)],N⟩⟩ =
  rK (Yn b mx) (fW b sz mx mx a) (fun l a=>some (.normal,⟨[(0,.d (.lst (af b))),(5,.ptr 0 0),(6,au 1 (aK (Gs++[l]))),(7,.d (.int .i64 a)),(9,.d (.int .i64 sz)),(10,.d (.int .i64 ((2 ^ sz-1:Nat):Int))),(40,.d (.int .i64 len)),(41,.d (.int .i64 ((j+1:Nat):Int)))],⟨[(0,.cells i.cells)],N+l.length⟩⟩)) (fun e=>er3 e ⟨[(0,.cells i.cells)],N+Nm b sz mx mx a⟩):=by
 rw[mp.eq_1];have h5:=fun y40 y41=>alx b sz hb hsz hs1 (au 1 (aK Gs)) (.cells i.cells) y40 y41 mx mx a N [] (Nat.le_refl _) h2 (by simp;omega) h4 ha
 simp only[dA,List.map_nil,ky,List.nil_append,al.cells,hmx]at h5;have e2:(aK Gs).length<1000000000:=by rw[apO];omega
 simp (maxSteps:=300000) (disch:=first | omega | assumption) [↓if_pos,↓if_neg,h5,hmx];refine fA (fun _ _=>rfl) (fun l a2 hq=>?_) fun e=>rfl
 simp[lJ,dA]
theorem alF (b:List Nat) (i:al) (sz mx:Nat) (hmx:i.max=mx) (hb:b.length≤1000000000) (hsz:sz≤5) (hs1:1≤sz) (h2:mx≤1000) (len:Nat) (hlen:len≤1000):∀ (k a N j:Nat) (Gs:List (List am)),j+k=len→Gs.length+k≤10000→1≤N→a≤b.length→
  (Dn prog).code (.loop mp) ⟨[(0,.d (.lst (af b))),(5,.ptr 0 0),(6,au 1 (aK Gs)),(7,.d (.int .i64 a)),(9,.d (.int .i64 sz)),(10,.d (.int .i64 ((2 ^ sz-1:Nat):Int))),(40,.d (.int .i64 len)),(41,.d (.int .i64 j))],⟨[(0,.cells i.cells)],N⟩⟩ =
  rK (Ro b mx k) (lQ b sz mx k a) (fun g a=>some (.exit 0,⟨[(6,au 1 (aK (Gs++g))),(7,.d (.int .i64 a))],⟨[(0,.cells i.cells)],N+aoG g⟩⟩)) (fun e=>er3 e ⟨[(0,.cells i.cells)],N+aoe b sz mx k a⟩):=by
 intro k
 induction k with
 | zero =>
  intro a N j Gs h1 h3 h4 ha;rw[apF ha,aa mp.eq_1];simp (maxSteps:=300000) (disch:=first | omega | assumption) [↓if_pos,↓if_neg,aoG]
 | succ k ih =>
  intro a N j Gs h1 h3 h4 ha;rw[atw ha,aa rfl,alY b i sz mx hmx hb hsz hs1 h2 a N j len Gs (by omega) h4 ha (by omega) (by omega),anu];refine U5 (fun _ _ h=>AM (Nat.le_refl _) ha h) (fun l a1 e1 hp=>?_) (fun e e1=>?_)
  ·rw[Gg,ih a1 (N+l.length) (j+1) (Gs++[l]) (by omega) (by simp;omega) (by omega) hp.2.1];refine U5 (fun _ _ h=>NI hp.2.1 h) (fun g a2 e2 hq=>?_) (fun e e2=>?_)
   ·simp[aoG,Nat.add_assoc]
   ·simp[aoe,e1,Nat.add_assoc]
  ·simp[aoe,e1]
theorem aud {m:Nat}{xs:List (List D)}(h:∀ x∈xs,∃ l,x=[D.lst l]) (hf:ij (au m xs)=true):km (au m xs)=au m xs:=by
 cases xs with
 | nil=>rfl
 | cons x r =>
  obtain⟨l,rfl⟩:=h x (by simp);simp[au,ij,ez,jK]at hf
theorem av1 {g:List (List am)}:∀ x∈aK g,∃ l,x=[D.lst l]:=by
 intro x hx;simp only[aK,List.mem_map]at hx;obtain⟨l,_,rfl⟩:=hx;exact⟨_,rfl⟩
def oQ (b:List Nat) (i:al) (a:Int):R (List (List am)) :=
 if 0≤a∧a≤b.length then lQ b i.fsz i.max.toNat i.groups.length a.toNat else .er 1
theorem aru {b:List Nat}{a:Int}:aO b a 0=if 0≤a∧a≤b.length then .ok 0 a.toNat else .er 1:=by
 unfold aO;by_cases h:0≤a∧a≤b.length
 ·rw[if_pos h,if_pos (by omega),if_neg (by omega),if_pos (by simp[bin])];simp[val]
 ·rw[if_neg h,if_neg (by omega)]
theorem asi (b:List Nat) (a:Int) (i:al) (hb:b.length≤1000000000) (ha:i64 a) (hi:i.Fit) (hm:i.may 11):aM prog Je [.d (.lst (af b)),.d (.int .i64 a),.agg i.cells] =
  rK (Ro b i.max.toNat i.groups.length) (oQ b i a) (fun g n=>some (.tup [au 1 (aK g),.d (.int .i64 n),.d (.int .i64 0)])) (fun e=>some (.tup [.nl,.d (.int .i64 0),.d (.int .i64 (e+1))])):=by
 have hw:=jr i hi;rw[if_pos hm]at hw;have hf:=XA i;have hmx:i.max=i.max.toNat:=by have:=hm.2.2.1;omega
 have hmb:i.max.toNat≤1000:=by have:=hm.2.2.2.1;have:=Ce (r:=11) (s:=decide (i.seq=2)) (by omega);omega
 have hsz:1≤i.fsz∧i.fsz≤5:=by unfold al.fsz;split<;>omega
 have hll:=hi.len;rw[az an3 Jl.eq_1 rfl];have hl:=alF b i i.fsz i.max.toNat hmx hb hsz.2 hsz.1 hmb i.groups.length hi.len;simp only[al.cells]at hw hf;unfold oQ;by_cases h0:0≤a∧a≤b.length
 ·obtain⟨A,rfl⟩:=Int.eq_ofNat_of_zero_le h0.1;have h1:=hl i.groups.length A 1 0 [] (by omega) (by simp;omega) (by omega) (by omega);have c0:((0:Nat):Int)=0:=rfl;simp only[al.cells,aK,List.map_nil,ky,List.nil_append,c0]at h1;rw[if_pos h0];simp (maxSteps:=300000) (disch:=first | omega | assumption) [↓if_pos,↓if_neg,hw,hf,d8,aru,h0];rw[cu ⟨by simp,by omega⟩];simp (maxSteps:=300000) (disch:=first | omega | assumption) [h1];refine fA (fun _ _=>rfl) (fun g n hp=>?_) fun _=>rfl
  have hb:=aud (m:=1) (av1 (g:=g));simp only[aK]at hb⊢;by_cases hf:ij (au 1 (List.map (fun l=>[D.lst (dA l)]) g))=true
  ·rw[if_pos hf,hb hf]
  ·rw[if_neg hf]
 ·rw[if_neg h0];simp (maxSteps:=300000) (disch:=first | omega | assumption) [↓if_pos,↓if_neg,hw,hf,d8,aru,h0]
abbrev Z2:Obj:=.cells [.d (.int .i64 0),.d (.int .i64 0)]
structure Hp (hp:List Nat→ac) (D:Nat):Prop where
 get:∀ xs,get (hp xs) D=some (.arr 1 (bf xs))
 put:∀ xs ys,put (hp xs) D (.arr 1 (bf ys))=hp ys
def swp (xs:List Nat) (i j:Nat):List Nat:=(xs.set i (nth xs j)).set j (nth xs i)
@[simp] theorem oK {xs:List Nat}{i j:Nat}:(swp xs i j).length=xs.length:=by simp[swp]
def swpR (xs:List Nat) (a b:Nat):Nat→Nat→List Nat
 | 0,_=>xs
 | k+1,i=>swpR (swp xs (a+i) (b+i)) a b k (i+1)
@[simp] theorem wS {a b:Nat}:∀ {k i:Nat}{xs:List Nat},(swpR xs a b k i).length=xs.length
 | 0,_,_=>rfl
 | k+1,i,xs=>by rw[swpR,wS,oK]
section
variable {hp:List Nat→ac}{D:Nat}
theorem akw (H:Hp hp D) (len:Nat) (hlen:len≤1000000000) (a b n N:Nat) (ha:a+n≤len) (hb:b+n≤len):∀ (k i:Nat) (xs:List Nat),i+k=n→xs.length=len→
  (Dn prog).code (.loop dc) ⟨[(0,.sl D 0 len),(1,.d (.int .i64 a)),(2,.d (.int .i64 b)),(3,.d (.int .i64 n)),(10,.d (.int .i64 i))],⟨hp xs,N⟩⟩ =
  some (.exit 0,⟨[],⟨hp (swpR xs a b k i),N⟩⟩):=by
 intro k
 induction k with
 | zero =>
  intro i xs hi hx;rw[aa dc.eq_1];simp (maxSteps:=300000) (disch:=omega) [↓if_pos,↓if_neg,swpR]
 | succ k ih =>
  intro i xs hi hx;rw[aa dc.eq_1];have l1:=List.length_set (as:=xs) (i:=a+i) (a:=nth xs (b+i));simp (maxSteps:=300000) (disch:=omega) [↓if_pos,↓if_neg,H.get,H.put];have h:=ih (i+1) (swp xs (a+i) (b+i)) (by omega) (by simpa using hx);have c1:((i+1:Nat):Int)=(i:Int)+1:=rfl;rw[c1]at h;rw[swpR,←h];rfl
theorem Mf (H:Hp hp D) (F:AV) (len:Nat) (hlen:len≤1000000000) (a b n N:Nat) (ha:a+n≤len) (hb:b+n≤len) (xs:List Nat) (hx:xs.length=len) :
  (Dn prog).call cG [.sl D 0 len,.d (.int .i64 a),.d (.int .i64 b),.d (.int .i64 n),F] ⟨hp xs,N⟩=some (.tup [],⟨hp (swpR xs a b n 0),N⟩):=by
 rw[aD vF gj.eq_1 rfl];have h:=akw H len hlen a b n N ha hb n 0 xs (by omega) hx;have c0:((0:Nat):Int)=0:=rfl;rw[c0]at h;simp (maxSteps:=300000) (disch:=omega) [↓if_pos,↓if_neg,h]
def rot (m:Nat):Nat→List Nat→Nat→Nat→List Nat
 | 0,xs,i,j=>xs
 | f+1,xs,i,j=>if i=j then swpR xs (m-i) m i 0 else if j<i then rot m f (swpR xs (m-i) m j 0) (i-j) j else rot m f (swpR xs (m-i) (m+j-i) i 0) i (j-i)
theorem AI {m:Nat}:∀ {f:Nat}{xs:List Nat}{i j:Nat},(rot m f xs i j).length=xs.length
 | 0,_,_,_=>rfl
 | f+1,xs,i,j=>by
  rw[rot];split
  ·exact wS
  ·split
   ·rw[AI,wS]
   ·rw[AI,wS]
theorem arn (H:Hp hp D) (F:AV) (hF:share F=F) (hG:firm F=F) (len:Nat) (hlen:len≤1000000000) (m N:Nat):∀ (f i j:Nat) (xs:List Nat),i+j≤f→1≤i→1≤j→i≤m→m+j≤len→xs.length=len→
  ∃ (k:Nat) (ys:List Nat),(Dn prog).code (.loop gm) ⟨[(0,.sl D 0 len),(2,.d (.int .i64 m)),(4,F),(10,.d (.int .i64 i)),(11,.d (.int .i64 j))],⟨hp xs,N⟩⟩ =
   some (.exit 0,⟨[(0,.sl D 0 len),(2,.d (.int .i64 m)),(4,F),(10,.d (.int .i64 k))],⟨hp ys,N⟩⟩)∧k≤m∧m+k≤len∧ys.length=len∧swpR ys (m-k) m k 0=rot m f xs i j:=by
 intro f
 induction f with
 | zero=>intro i j xs h h1 h2;omega
 | succ f ih =>
  intro i j xs h h1 h2 h3 h4 hx;rw[aa gm.eq_1];by_cases e:i=j
  ·subst e;refine⟨i,xs,?_,h3,h4,hx,?_⟩
   ·simp (maxSteps:=300000) (disch:=omega) [↓if_pos,↓if_neg]
   ·rw[rot,if_pos rfl]
  ·by_cases e2:j<i
   ·obtain⟨k,ys,g1,g2,g3,g4,g5⟩:=ih (i-j) j (swpR xs (m-i) m j 0) (by omega) (by omega) h2 (by omega) h4 (by simpa using hx);refine⟨k,ys,?_,g2,g3,g4,?_⟩
    ·have hs:=Mf H F len hlen (m-i) m j N (by omega) (by omega) xs hx;have c1:((m-i:Nat):Int)=(m:Int)-i:=by omega
     have c2:((i-j:Nat):Int)=(i:Int)-j:=by omega
     rw[c1]at hs;rw[c2]at g1;simp (maxSteps:=300000) (disch:=omega) [↓if_pos,↓if_neg,hs,hF,hG,g1]
    ·rw[rot,if_neg e,if_pos e2,g5]
   ·obtain⟨k,ys,g1,g2,g3,g4,g5⟩:=ih i (j-i) (swpR xs (m-i) (m+j-i) i 0) (by omega) h1 (by omega) h3 (by omega) (by simpa using hx);refine⟨k,ys,?_,g2,g3,g4,?_⟩
    ·have hs:=Mf H F len hlen (m-i) (m+j-i) i N (by omega) (by omega) xs hx;have c1:((m-i:Nat):Int)=(m:Int)-i:=by omega
     have c2:((j-i:Nat):Int)=(j:Int)-i:=by omega
     have c3:((m+j-i:Nat):Int)=(m:Int)+j-i:=by omega
     rw[c1,c3]at hs;rw[c2]at g1;simp (maxSteps:=300000) (disch:=omega) [↓if_pos,↓if_neg,hs,hF,hG,g1]
    ·rw[rot,if_neg e,if_neg e2,g5]
theorem aqi (H:Hp hp D) (F:AV) (hF:share F=F) (hG:firm F=F) (len:Nat) (hlen:len≤1000000000) (a m b N:Nat) (h1:a<m) (h2:m<b) (h3:b≤len) (xs:List Nat) (hx:xs.length=len) :
  (Dn prog).call iI [.sl D 0 len,.d (.int .i64 a),.d (.int .i64 m),.d (.int .i64 b),F] ⟨hp xs,N⟩=some (.tup [],⟨hp (rot m (b-a) xs (m-a) (b-m)),N⟩):=by
 obtain⟨k,ys,g1,g2,g3,g4,g5⟩:=arn H F hF hG len hlen m N (b-a) (m-a) (b-m) xs (by omega) (by omega) (by omega) (by omega) (by omega) hx;have hs:=Mf H F len hlen (m-k) m k N (by omega) (by omega) ys g4;have c1:((m-k:Nat):Int)=(m:Int)-k:=by omega
 have c2:((m-a:Nat):Int)=(m:Int)-a:=by omega
 have c3:((b-m:Nat):Int)=(b:Int)-m:=by omega
 rw[c1,g5]at hs;rw[c2,c3]at g1;rw[aD yy iJ.eq_1 rfl];simp (maxSteps:=300000) (disch:=omega) [↓if_pos,↓if_neg,hs,hF,hG,g1]
end
structure Cm (hp:List Nat→ac) (L:Nat) (F:AV) (C:Nat→Nat→Int):Prop where
 sh:share F=F
 fi:firm F=F
 cl:∀ xs N x y,x<L→y<L→bc (Dn prog) F [.d (.int .i64 (x:Nat)),.d (.int .i64 (y:Nat))] ⟨hp xs,N⟩=some (.d (.int .i64 (C x y)),⟨hp xs,N⟩)
abbrev b8 (L:Nat) (xs:List Nat):Prop:=∀ x∈xs,x<L
theorem b8.nth {L:Nat}{xs:List Nat}(u:b8 L xs) {i:Nat}(h:i<xs.length):Vm.nth xs i<L:=u _ (fk h)
theorem b8.swp {L:Nat}{xs:List Nat}(u:b8 L xs) {i j:Nat}(hi:i<xs.length) (hj:j<xs.length):b8 L (swp xs i j):=by
 intro x hx;rcases List.mem_or_eq_of_mem_set hx with h | h
 ·rcases List.mem_or_eq_of_mem_set h with h | h
  ·exact u x h
  ·exact h▸u.nth hj
 ·exact h▸u.nth hi
theorem b8.swpR {L a b:Nat}:∀ {k i:Nat}{xs:List Nat},b8 L xs→a+i+k≤xs.length→b+i+k≤xs.length→b8 L (swpR xs a b k i)
 | 0,_,_,u,_,_=>u
 | k+1,i,xs,u,h1,h2=>by
  rw[Vm.swpR];exact b8.swpR (u.swp (by omega) (by omega)) (by rw[oK];omega) (by rw[oK];omega)
theorem b8.rot {L m:Nat}:∀ {f i j:Nat}{xs:List Nat},b8 L xs→i≤m→m+j≤xs.length→b8 L (rot m f xs i j)
 | 0,_,_,_,u,_,_=>u
 | f+1,i,j,xs,u,h1,h2=>by
  rw[Vm.rot];split
  ·exact u.swpR (by omega) (by omega)
  ·split
   ·exact(u.swpR (by omega) (by omega)).rot (by omega) (by rw[wS];omega)
   ·exact(u.swpR (by omega) (by omega)).rot (by omega) (by rw[wS];omega)
def insJ (C:Nat→Nat→Int) (a:Nat):Nat→List Nat→List Nat
 | 0,xs=>xs
 | j+1,xs=>if a≤j∧C (nth xs (j+1)) (nth xs j)<0 then insJ C a j (swp xs (j+1) j) else xs
def insO (C:Nat→Nat→Int) (a:Nat):Nat→Nat→List Nat→List Nat
 | 0,_,xs=>xs
 | k+1,i,xs=>insO C a k (i+1) (insJ C a i xs)
section
variable {C:Nat→Nat→Int}{a:Nat}
theorem Hy:∀ {j:Nat}{xs:List Nat},(insJ C a j xs).length=xs.length
 | 0,_=>rfl
 | j+1,xs=>by
  rw[insJ];split
  ·rw[Hy,oK]
  ·rfl
theorem Tb:∀ {k i:Nat}{xs:List Nat},(insO C a k i xs).length=xs.length
 | 0,_,_=>rfl
 | k+1,i,xs=>by rw[insO,Tb,Hy]
theorem b8.insJ {L:Nat}:∀ {j:Nat}{xs:List Nat},b8 L xs→j<xs.length→b8 L (insJ C a j xs)
 | 0,_,u,_=>u
 | j+1,xs,u,h=>by
  rw[Vm.insJ];split
  ·exact(u.swp h (by omega)).insJ (by rw[oK];omega)
  ·exact u
theorem b8.insO {L:Nat}:∀ {k i:Nat}{xs:List Nat},b8 L xs→i+k≤xs.length→b8 L (insO C a k i xs)
 | 0,_,_,u,_=>u
 | k+1,i,xs,u,h=>by
  rw[Vm.insO];exact(u.insJ (by omega)).insO (by rw[Hy];omega)
end
section
variable {hp:List Nat→ac}{D L:Nat}{F:AV}{C:Nat→Nat→Int}
theorem apC (H:Hp hp D) (K:Cm hp L F C) (len:Nat) (hlen:len≤1000000000) (a b I N:Nat):∀ (j:Nat) (xs:List Nat),j<len→xs.length=len→b8 L xs→
  (Dn prog).code (.loop cq) ⟨[(0,.sl D 0 len),(1,.d (.int .i64 a)),(2,.d (.int .i64 b)),(3,F),(8,.d (.int .i64 I)),(9,.d (.int .i64 j))],⟨hp xs,N⟩⟩ =
  some (.exit 2,⟨[(0,.sl D 0 len),(1,.d (.int .i64 a)),(2,.d (.int .i64 b)),(3,F),(8,.d (.int .i64 I))],⟨hp (insJ C a j xs),N⟩⟩):=by
 intro j
 induction j with
 | zero =>
  intro xs hj hx u;rw[aa cq.eq_1];simp (maxSteps:=300000) (disch:=omega) [↓if_pos,↓if_neg,insJ,K.sh,K.fi]
 | succ j ih =>
  intro xs hj hx u;rw[aa cq.eq_1];have c1:((j+1:Nat):Int)=(j:Int)+1:=rfl;by_cases h1:a≤j
  ·have hc:=K.cl xs N _ _ (u.nth (i:=j+1) (by omega)) (u.nth (i:=j) (by omega));have l1:=List.length_set (as:=xs) (i:=j+1) (a:=nth xs j);by_cases h2:C (nth xs (j+1)) (nth xs j)<0
   ·have h:=ih (swp xs (j+1) j) (by omega) (by simpa using hx) (u.swp (by omega) (by omega));rw[insJ,if_pos ⟨h1,h2⟩,←h];simp (maxSteps:=300000) (disch:=omega) [↓if_pos,↓if_neg,K.sh,K.fi,H.get,H.put,hc,c1];rfl
   ·rw[insJ,if_neg (fun h=>h2 h.2)];simp (maxSteps:=300000) (disch:=omega) [↓if_pos,↓if_neg,K.sh,K.fi,H.get,H.put,hc,c1]
  ·rw[insJ,if_neg (fun h=>h1 h.1)];simp (maxSteps:=300000) (disch:=omega) [↓if_pos,↓if_neg,K.sh,K.fi,c1]
theorem apV (H:Hp hp D) (K:Cm hp L F C) (len:Nat) (hlen:len≤1000000000) (a b N:Nat) (hb:b≤len):∀ (k i:Nat) (xs:List Nat),i+k=b→xs.length=len→b8 L xs→
  (Dn prog).code (.loop cm) ⟨[(0,.sl D 0 len),(1,.d (.int .i64 a)),(2,.d (.int .i64 b)),(3,F),(8,.d (.int .i64 i))],⟨hp xs,N⟩⟩ =
  some (.exit 0,⟨[],⟨hp (insO C a k i xs),N⟩⟩):=by
 intro k
 induction k with
 | zero =>
  intro i xs hi hx u;rw[aa cm.eq_1];simp (maxSteps:=300000) (disch:=omega) [↓if_pos,↓if_neg,insO,K.sh,K.fi]
 | succ k ih =>
  intro i xs hi hx u;rw[aa cm.eq_1];have h0:=apC H K len hlen a b i N i xs (by omega) hx u;have h:=ih (i+1) (insJ C a i xs) (by omega) (by rw[Hy];exact hx) (u.insJ (by omega));have c1:((i+1:Nat):Int)=(i:Int)+1:=rfl;rw[c1]at h;rw[insO,←h];simp (maxSteps:=300000) (disch:=omega) [↓if_pos,↓if_neg,K.sh,K.fi,h0]
theorem JM (H:Hp hp D) (K:Cm hp L F C) (len:Nat) (hlen:len≤1000000000) (a b N:Nat) (hab:a<b) (hb:b≤len) (xs:List Nat) (hx:xs.length=len) (u:b8 L xs) :
  (Dn prog).call cY [.sl D 0 len,.d (.int .i64 a),.d (.int .i64 b),F] ⟨hp xs,N⟩=some (.tup [],⟨hp (insO C a (b-(a+1)) (a+1) xs),N⟩):=by
 rw[aD pP eD.eq_1 rfl];have h:=apV H K len hlen a b N hb (b-(a+1)) (a+1) xs (by omega) hx u;have c1:((a+1:Nat):Int)=(a:Int)+1:=rfl;rw[c1]at h;simp (maxSteps:=300000) (disch:=omega) [↓if_pos,↓if_neg,K.sh,K.fi,h]
end
def GD (C:Nat→Nat→Int) (xs:List Nat) (a:Nat):Nat→Nat→Nat→Nat
 | 0,i,_=>i
 | f+1,i,j=>if i<j then (if C (nth xs ((i+j) / 2)) (nth xs a)<0 then GD C xs a f ((i+j) / 2+1) j else GD C xs a f i ((i+j) / 2)) else i
def F2 (C:Nat→Nat→Int) (xs:List Nat) (m:Nat):Nat→Nat→Nat→Nat
 | 0,i,_=>i
 | f+1,i,j=>if i<j then (if C (nth xs m) (nth xs ((i+j) / 2))<0 then F2 C xs m f i ((i+j) / 2) else F2 C xs m f ((i+j) / 2+1) j) else i
def kY (C:Nat→Nat→Int) (xs:List Nat) (p:Nat):Nat→Nat→Nat→Nat
 | 0,i,_=>i
 | f+1,i,j=>if i<j then (if C (nth xs (p-(i+j) / 2)) (nth xs ((i+j) / 2))<0 then kY C xs p f i ((i+j) / 2) else kY C xs p f ((i+j) / 2+1) j) else i
def shU:Nat→Nat→List Nat→List Nat
 | 0,_,xs=>xs
 | n+1,k,xs=>shU n (k+1) (swp xs k (k+1))
def shD:Nat→Nat→List Nat→List Nat
 | 0,_,xs=>xs
 | n+1,k,xs=>shD n (k-1) (swp xs k (k-1))
theorem Un {i j:Nat}:((i:Int)+j).fdiv 2=(((i+j) / 2:Nat):Int):=by
 rw[Int.fdiv_eq_ediv_of_nonneg _ (by omega)];omega
section
variable {hp:List Nat→ac}{D L:Nat}{F:AV}{C:Nat→Nat→Int}
theorem al9 (H:Hp hp D) (K:Cm hp L F C) (len:Nat) (hlen:len≤1000000000) (a N:Nat) (ha:a<len) (xs:List Nat) (hx:xs.length=len) (u:b8 L xs):∀ (f i j:Nat),j-i≤f→i≤j→j≤len→
  (Dn prog).code (.loop dj) ⟨[(0,.sl D 0 len),(1,.d (.int .i64 a)),(4,F),(10,.d (.int .i64 i)),(11,.d (.int .i64 j))],⟨hp xs,N⟩⟩ =
  some (.exit 0,⟨[(0,.sl D 0 len),(1,.d (.int .i64 a)),(10,.d (.int .i64 (GD C xs a f i j:Nat)))],⟨hp xs,N⟩⟩):=by
 intro f
 induction f with
 | zero =>
  intro i j h1 h2 h3;rw[aa dj.eq_1];simp (maxSteps:=300000) (disch:=omega) [↓if_pos,↓if_neg,GD,K.sh,K.fi]
 | succ f ih =>
  intro i j h1 h2 h3;rw[aa dj.eq_1];by_cases h:i<j
  ·have hf:=Un (i:=i) (j:=j);rw[GD,if_pos h];have q1:i≤(i+j) / 2∧(i+j) / 2<j:=by omega
   generalize (i+j) / 2=q at *;have hc:=K.cl xs N _ _ (u.nth (i:=q) (by omega)) (u.nth (i:=a) (by omega));by_cases g:C (nth xs q) (nth xs a)<0
   ·have h5:=ih (q+1) j (by omega) (by omega) h3;rw[if_pos g,←h5];simp (maxSteps:=300000) (disch:=omega) [↓if_pos,↓if_neg,K.sh,K.fi,H.get,H.put,hc,hf]
   ·have h5:=ih i q (by omega) (by omega) (by omega);rw[if_neg g,←h5];simp (maxSteps:=300000) (disch:=omega) [↓if_pos,↓if_neg,K.sh,K.fi,H.get,H.put,hc,hf]
  ·rw[GD,if_neg h];simp (maxSteps:=300000) (disch:=omega) [↓if_pos,↓if_neg,K.sh,K.fi]
theorem al6 (H:Hp hp D) (len:Nat) (hlen:len≤1000000000) (I N:Nat) (hI:I≤len):∀ (n k:Nat) (xs:List Nat),k+n=I-1→xs.length=len→
  (Dn prog).code (.loop dl) ⟨[(0,.sl D 0 len),(10,.d (.int .i64 I)),(13,.d (.int .i64 k))],⟨hp xs,N⟩⟩=some (.exit 2,⟨[],⟨hp (shU n k xs),N⟩⟩):=by
 intro n
 induction n with
 | zero =>
  intro k xs h hx;rw[aa dl.eq_1];simp (maxSteps:=300000) (disch:=omega) [↓if_pos,↓if_neg,shU]
 | succ n ih =>
  intro k xs h hx;rw[aa dl.eq_1];have l1:=List.length_set (as:=xs) (i:=k) (a:=nth xs (k+1));have h5:=ih (k+1) (swp xs k (k+1)) (by omega) (by simpa using hx);rw[shU,←h5];simp (maxSteps:=300000) (disch:=omega) [↓if_pos,↓if_neg,H.get,H.put];rfl
theorem ali (H:Hp hp D) (K:Cm hp L F C) (len:Nat) (hlen:len≤1000000000) (m N:Nat) (ha:m<len) (xs:List Nat) (hx:xs.length=len) (u:b8 L xs):∀ (f i j:Nat),j-i≤f→i≤j→j≤len→
  (Dn prog).code (.loop dk) ⟨[(0,.sl D 0 len),(2,.d (.int .i64 m)),(4,F),(14,.d (.int .i64 i)),(15,.d (.int .i64 j))],⟨hp xs,N⟩⟩ =
  some (.exit 4,⟨[(0,.sl D 0 len),(2,.d (.int .i64 m)),(14,.d (.int .i64 (F2 C xs m f i j:Nat)))],⟨hp xs,N⟩⟩):=by
 intro f
 induction f with
 | zero =>
  intro i j h1 h2 h3;rw[aa dk.eq_1];simp (maxSteps:=300000) (disch:=omega) [↓if_pos,↓if_neg,F2,K.sh,K.fi]
 | succ f ih =>
  intro i j h1 h2 h3;rw[aa dk.eq_1];by_cases h:i<j
  ·have hf:=Un (i:=i) (j:=j);rw[F2,if_pos h];have q1:i≤(i+j) / 2∧(i+j) / 2<j:=by omega
   generalize (i+j) / 2=q at *;have hc:=K.cl xs N _ _ (u.nth (i:=m) (by omega)) (u.nth (i:=q) (by omega));by_cases g:C (nth xs m) (nth xs q)<0
   ·have h5:=ih i q (by omega) (by omega) (by omega);rw[if_pos g,←h5];simp (maxSteps:=300000) (disch:=omega) [↓if_pos,↓if_neg,K.sh,K.fi,H.get,H.put,hc,hf]
   ·have h5:=ih (q+1) j (by omega) (by omega) h3;rw[if_neg g,←h5];simp (maxSteps:=300000) (disch:=omega) [↓if_pos,↓if_neg,K.sh,K.fi,H.get,H.put,hc,hf]
  ·rw[F2,if_neg h];simp (maxSteps:=300000) (disch:=omega) [↓if_pos,↓if_neg,K.sh,K.fi]
theorem alN (H:Hp hp D) (len:Nat) (hlen:len≤1000000000) (I N:Nat):∀ (n k:Nat) (xs:List Nat),I+n=k→k<len→xs.length=len→
  (Dn prog).code (.loop dp) ⟨[(0,.sl D 0 len),(14,.d (.int .i64 I)),(17,.d (.int .i64 k))],⟨hp xs,N⟩⟩=some (.exit 6,⟨[],⟨hp (shD n k xs),N⟩⟩):=by
 intro n
 induction n with
 | zero =>
  intro k xs h hk hx;rw[aa dp.eq_1];simp (maxSteps:=300000) (disch:=omega) [↓if_pos,↓if_neg,shD]
 | succ n ih =>
  intro k xs h hk hx;obtain⟨q,rfl⟩:∃ q,k=q+1:=⟨k-1,by omega⟩
  rw[aa dp.eq_1];have l1:=List.length_set (as:=xs) (i:=q+1) (a:=nth xs q);have h5:=ih q (swp xs (q+1) q) (by omega) (by omega) (by simpa using hx);rw[shD,Nat.add_sub_cancel,←h5];simp (maxSteps:=300000) (disch:=omega) [↓if_pos,↓if_neg,H.get,H.put];rfl
theorem xi (H:Hp hp D) (K:Cm hp L F C) (len:Nat) (hlen:len≤1000000000) (a m b M n p N:Nat) (xs:List Nat) (hx:xs.length=len) (u:b8 L xs):∀ (f i j:Nat),j-i≤f→i≤j→j≤len→j≤p+1→p<len+i→
  (Dn prog).code (.loop dn) ⟨[(0,.sl D 0 len),(1,.d (.int .i64 a)),(2,.d (.int .i64 m)),(3,.d (.int .i64 b)),(4,F),(18,.d (.int .i64 M)),(19,.d (.int .i64 n)),(20,.d (.int .i64 i)),(21,.d (.int .i64 j)),(22,.d (.int .i64 p))],⟨hp xs,N⟩⟩ =
  some (.exit 8,⟨[(0,.sl D 0 len),(1,.d (.int .i64 a)),(2,.d (.int .i64 m)),(3,.d (.int .i64 b)),(4,F),(18,.d (.int .i64 M)),(19,.d (.int .i64 n)),(20,.d (.int .i64 (kY C xs p f i j:Nat)))],⟨hp xs,N⟩⟩):=by
 intro f
 induction f with
 | zero =>
  intro i j h1 h2 h3 h4 h5;rw[aa dn.eq_1];simp (maxSteps:=300000) (disch:=omega) [↓if_pos,↓if_neg,kY,K.sh,K.fi]
 | succ f ih =>
  intro i j h1 h2 h3 h4 h5;rw[aa dn.eq_1];by_cases h:i<j
  ·have hf:=Un (i:=i) (j:=j);rw[kY,if_pos h];have q1:i≤(i+j) / 2∧(i+j) / 2<j:=by omega
   generalize (i+j) / 2=q at *;have hp1:p-q<len:=by omega
   have hpq:((p:Int)-q)=((p-q:Nat):Int):=by omega
   generalize p-q=r at *;have hc:=K.cl xs N _ _ (u.nth (i:=r) (by omega)) (u.nth (i:=q) (by omega));by_cases g:C (nth xs r) (nth xs q)<0
   ·have h6:=ih i q (by omega) (by omega) (by omega) (by omega) (by omega);rw[if_pos g,←h6];simp (maxSteps:=300000) (disch:=omega) [↓if_pos,↓if_neg,K.sh,K.fi,H.get,H.put,hc,hf,hpq]
   ·have h6:=ih (q+1) j (by omega) (by omega) h3 (by omega) (by omega);rw[if_neg g,←h6];simp (maxSteps:=300000) (disch:=omega) [↓if_pos,↓if_neg,K.sh,K.fi,H.get,H.put,hc,hf,hpq]
  ·rw[kY,if_neg h];simp (maxSteps:=300000) (disch:=omega) [↓if_pos,↓if_neg,K.sh,K.fi]
end
def symM (C:Nat→Nat→Int):Nat→List Nat→Nat→Nat→Nat→List Nat
 | 0,xs,_,_,_=>xs
 | f+1,xs,a,m,b =>
  if m-a=1 then shU (GD C xs a (b-m) m b-1-a) a xs
  else if b-m=1 then shD (m-F2 C xs m (m-a) a m) m xs
  else
   let s:=if (a+b) / 2<m then kY C xs ((a+b) / 2+m-1) (b-a) ((a+b) / 2+m-b) ((a+b) / 2) else kY C xs ((a+b) / 2+m-1) (b-a) a m
   let e:=(a+b) / 2+m-s
   let ys:=if s<m∧m<e then rot m (e-s) xs (m-s) (e-m) else xs
   let zs:=if a<s∧s<(a+b) / 2 then symM C f ys a s ((a+b) / 2) else ys
   if (a+b) / 2<e∧e<b then symM C f zs ((a+b) / 2) e b else zs
theorem Wd {C:Nat→Nat→Int}{xs:List Nat}{a:Nat}:∀ {f i j:Nat},i≤j→i≤GD C xs a f i j∧GD C xs a f i j≤j
 | 0,i,j,h=>⟨Nat.le_refl _,h⟩
 | f+1,i,j,h=>by
  rw[GD];split
  ·split
   ·have:=Wd (C:=C) (xs:=xs) (a:=a) (f:=f) (i:=(i+j) / 2+1) (j:=j) (by omega);omega
   ·have:=Wd (C:=C) (xs:=xs) (a:=a) (f:=f) (i:=i) (j:=(i+j) / 2) (by omega);omega
  ·exact⟨Nat.le_refl _,h⟩
theorem ai9 {C:Nat→Nat→Int}{xs:List Nat}{m:Nat}:∀ {f i j:Nat},i≤j→i≤F2 C xs m f i j∧F2 C xs m f i j≤j
 | 0,i,j,h=>⟨Nat.le_refl _,h⟩
 | f+1,i,j,h=>by
  rw[F2];split
  ·split
   ·have:=ai9 (C:=C) (xs:=xs) (m:=m) (f:=f) (i:=i) (j:=(i+j) / 2) (by omega);omega
   ·have:=ai9 (C:=C) (xs:=xs) (m:=m) (f:=f) (i:=(i+j) / 2+1) (j:=j) (by omega);omega
  ·exact⟨Nat.le_refl _,h⟩
theorem BU {C:Nat→Nat→Int}{xs:List Nat}{p:Nat}:∀ {f i j:Nat},i≤j→i≤kY C xs p f i j∧kY C xs p f i j≤j
 | 0,i,j,h=>⟨Nat.le_refl _,h⟩
 | f+1,i,j,h=>by
  rw[kY];split
  ·split
   ·have:=BU (C:=C) (xs:=xs) (p:=p) (f:=f) (i:=i) (j:=(i+j) / 2) (by omega);omega
   ·have:=BU (C:=C) (xs:=xs) (p:=p) (f:=f) (i:=(i+j) / 2+1) (j:=j) (by omega);omega
  ·exact⟨Nat.le_refl _,h⟩
theorem anO:∀ {n k:Nat}{xs:List Nat},(shU n k xs).length=xs.length
 | 0,_,_=>rfl
 | n+1,k,xs=>by rw[shU,anO,oK]
theorem anw:∀ {n k:Nat}{xs:List Nat},(shD n k xs).length=xs.length
 | 0,_,_=>rfl
 | n+1,k,xs=>by rw[shD,anw,oK]
theorem b8.shU {L:Nat}:∀ {n k:Nat}{xs:List Nat},b8 L xs→k+n<xs.length→b8 L (shU n k xs)
 | 0,_,_,u,_=>u
 | n+1,k,xs,u,h=>by rw[Vm.shU];exact(u.swp (by omega) (by omega)).shU (by rw[oK];omega)
theorem b8.shD {L:Nat}:∀ {n k:Nat}{xs:List Nat},b8 L xs→k<xs.length→b8 L (shD n k xs)
 | 0,_,_,u,_=>u
 | n+1,k,xs,u,h=>by rw[Vm.shD];exact(u.swp (by omega) (by omega)).shD (by rw[oK];omega)
theorem q7 {C:Nat→Nat→Int}:∀ {f:Nat}{xs:List Nat}{a m b:Nat},(symM C f xs a m b).length=xs.length
 | 0,_,_,_,_=>rfl
 | f+1,xs,a,m,b=>by
  rw[symM];split
  ·exact anO
  ·split
   ·exact anw
   ·simp only
    repeat' split
    all_goals simp only[q7,AI]
theorem b8.symM {L:Nat}{C:Nat→Nat→Int}:∀ {f:Nat}{xs:List Nat}{a m b:Nat},b8 L xs→a<m→m<b→b≤xs.length→b8 L (symM C f xs a m b)
 | 0,_,_,_,_,u,_,_,_=>u
 | f+1,xs,a,m,b,u,h1,h2,h3=>by
  rw[Go.Vm.symM];split
  ·have:=Wd (C:=C) (xs:=xs) (a:=a) (f:=b-m) (i:=m) (j:=b) (by omega);exact u.shU (by omega)
  ·split
   ·exact u.shD (by omega)
   ·simp only;generalize hs:(if (a+b) / 2<m then kY C xs ((a+b) / 2+m-1) (b-a) ((a+b) / 2+m-b) ((a+b) / 2) else kY C xs ((a+b) / 2+m-1) (b-a) a m)=s;have s1:s≤m∧s≤(a+b) / 2+m∧a≤s+1∧(a+b) / 2+m-s≤b:=by
     grind [BU]
    generalize hys:(if s<m∧m<(a+b) / 2+m-s then Go.Vm.rot m ((a+b) / 2+m-s-s) xs (m-s) ((a+b) / 2+m-s-m) else xs)=ys;have uy:b8 L ys∧ys.length=xs.length:=by
     subst hys;split
     ·exact⟨u.rot (by omega) (by omega),AI⟩
     grind
    generalize hzs:(if a<s∧s<(a+b) / 2 then Go.Vm.symM C f ys a s ((a+b) / 2) else ys)=zs;have uz:b8 L zs∧zs.length=xs.length:=by
     subst hzs;split
     ·exact⟨uy.1.symM (by omega) (by omega) (by omega),by grind [q7]⟩
     omega
    split
    ·exact uz.1.symM (by omega) (by omega) (by omega)
    grind
section
variable {hp:List Nat→ac}{D L:Nat}{F:AV}{C:Nat→Nat→Int}
theorem al4 (H:Hp hp D) (K:Cm hp L F C) (len:Nat) (hlen:len≤1000000000) (N f:Nat) (ih:∀ (a m b:Nat) (xs:List Nat),b-a≤f→a<m→m<b→b≤len→xs.length=len→b8 L xs→
  (Dn prog).call aF [.sl D 0 len,.d (.int .i64 a),.d (.int .i64 m),.d (.int .i64 b),F] ⟨hp xs,N⟩=some (.tup [],⟨hp (symM C f xs a m b),N⟩))
  (a m b:Nat) (xs:List Nat) (h1:b-a≤f+1) (h2:a<m) (h3:m<b) (h4:b≤len) (hx:xs.length=len) (u:b8 L xs) (c1:¬ m-a=1) (c2:¬ b-m=1) (c3:(a+b) / 2<m) (d1:(kY C xs ((a+b) / 2+m-1) (b-a) ((a+b) / 2+m-b) ((a+b) / 2)<m∧m<(a+b) / 2+m-kY C xs ((a+b) / 2+m-1) (b-a) ((a+b) / 2+m-b) ((a+b) / 2))) :
  (Dn prog).call aF [.sl D 0 len,.d (.int .i64 a),.d (.int .i64 m),.d (.int .i64 b),F] ⟨hp xs,N⟩=some (.tup [],⟨hp (symM C (f+1) xs a m b),N⟩):=by
 rw[aD bT bv.eq_1 rfl,symM,if_neg c1,if_neg c2];simp only;have hf:=Un (i:=a) (j:=b);have q1:a<(a+b) / 2∧(a+b) / 2<b∧(a+b) / 2*2≤a+b∧a+b≤(a+b) / 2*2+1:=by omega
 rw[if_pos c3];generalize (a+b) / 2=M at *;have cn:((M+m:Nat):Int)=(M:Int)+m:=rfl;have cp:((M+m-1:Nat):Int)=(M:Int)+m-1:=by omega
 have s1:=BU (C:=C) (xs:=xs) (p:=M+m-1) (f:=b-a) (i:=M+m-b) (j:=M) (by omega);have g4:=xi H K len hlen a m b M (M+m) (M+m-1) N xs hx u (b-a) (M+m-b) M (by omega) (by omega) (by omega) (by omega) (by omega);have ci:((M+m-b:Nat):Int)=(M:Int)+m-b:=by omega
 rw[cn,cp,ci]at g4;generalize kY C xs (M+m-1) (b-a) (M+m-b) M=s at *;have ce:((M+m-s:Nat):Int)=(M:Int)+m-s:=by omega
 rw[if_pos d1];have hr:=aqi H F K.sh K.fi len hlen s m (M+m-s) N d1.1 d1.2 (by omega) xs hx;have uy:b8 L (rot m (M+m-s-s) xs (m-s) (M+m-s-m)):=u.rot (by omega) (by omega);have ly:(rot m (M+m-s-s) xs (m-s) (M+m-s-m)).length=len:=by grind [AI]
 generalize rot m (M+m-s-s) xs (m-s) (M+m-s-m)=ys at *;rw[ce]at hr;by_cases d2:a<s∧s<M
 ·rw[if_pos d2];have h6:=ih a s M ys (by omega) d2.1 d2.2 (by omega) ly uy;have uz:b8 L (symM C f ys a s M):=uy.symM d2.1 d2.2 (by omega);have lz:(symM C f ys a s M).length=len:=by grind [q7]
  generalize symM C f ys a s M=zs at *;by_cases d3:M<M+m-s∧M+m-s<b
  ·rw[if_pos d3];have h7:=ih M (M+m-s) b zs (by omega) d3.1 d3.2 h4 lz uz;rw[ce]at h7
   first
    | (exfalso;omega)
    | simp (disch:=omega) [↓if_pos,↓if_neg,K.sh,K.fi,hf,g4,hr,h6,h7]
  ·rw[if_neg d3];have h7:True:=trivial
   first
    | (exfalso;omega)
    | simp (disch:=omega) [↓if_pos,↓if_neg,K.sh,K.fi,hf,g4,hr,h6]
 ·rw[if_neg d2];have uz:=uy;have lz:=ly;have h6:True:=trivial;by_cases d3:M<M+m-s∧M+m-s<b
  ·rw[if_pos d3];have h7:=ih M (M+m-s) b ys (by omega) d3.1 d3.2 h4 lz uz
   first
    | omega
    | simp (disch:=omega) [↓if_pos,↓if_neg,K.sh,K.fi,hf,g4,hr,h6,h7]
  ·first
    | (omega)
    | simp (disch:=omega) [↓if_pos,↓if_neg,K.sh,K.fi,hf,g4,hr]
theorem alA (H:Hp hp D) (K:Cm hp L F C) (len:Nat) (hlen:len≤1000000000) (N f:Nat) (ih:∀ (a m b:Nat) (xs:List Nat),b-a≤f→a<m→m<b→b≤len→xs.length=len→b8 L xs→
  (Dn prog).call aF [.sl D 0 len,.d (.int .i64 a),.d (.int .i64 m),.d (.int .i64 b),F] ⟨hp xs,N⟩=some (.tup [],⟨hp (symM C f xs a m b),N⟩))
  (a m b:Nat) (xs:List Nat) (h1:b-a≤f+1) (h2:a<m) (h3:m<b) (h4:b≤len) (hx:xs.length=len) (u:b8 L xs) (c1:¬ m-a=1) (c2:¬ b-m=1) (c3:(a+b) / 2<m) (d1:¬ (kY C xs ((a+b) / 2+m-1) (b-a) ((a+b) / 2+m-b) ((a+b) / 2)<m∧m<(a+b) / 2+m-kY C xs ((a+b) / 2+m-1) (b-a) ((a+b) / 2+m-b) ((a+b) / 2))) :
  (Dn prog).call aF [.sl D 0 len,.d (.int .i64 a),.d (.int .i64 m),.d (.int .i64 b),F] ⟨hp xs,N⟩=some (.tup [],⟨hp (symM C (f+1) xs a m b),N⟩):=by
 rw[aD bT bv.eq_1 rfl,symM,if_neg c1,if_neg c2];simp only;have hf:=Un (i:=a) (j:=b);have q1:a<(a+b) / 2∧(a+b) / 2<b∧(a+b) / 2*2≤a+b∧a+b≤(a+b) / 2*2+1:=by omega
 rw[if_pos c3];generalize (a+b) / 2=M at *;have cn:((M+m:Nat):Int)=(M:Int)+m:=rfl;have cp:((M+m-1:Nat):Int)=(M:Int)+m-1:=by omega
 have s1:=BU (C:=C) (xs:=xs) (p:=M+m-1) (f:=b-a) (i:=M+m-b) (j:=M) (by omega);have g4:=xi H K len hlen a m b M (M+m) (M+m-1) N xs hx u (b-a) (M+m-b) M (by omega) (by omega) (by omega) (by omega) (by omega);have ci:((M+m-b:Nat):Int)=(M:Int)+m-b:=by omega
 rw[cn,cp,ci]at g4;generalize kY C xs (M+m-1) (b-a) (M+m-b) M=s at *;have ce:((M+m-s:Nat):Int)=(M:Int)+m-s:=by omega
 rw[if_neg d1];have uy:=u;have ly:=hx;have hr:True:=trivial;by_cases d2:a<s∧s<M
 ·rw[if_pos d2];have h6:=ih a s M xs (by omega) d2.1 d2.2 (by omega) ly uy;have uz:b8 L (symM C f xs a s M):=uy.symM d2.1 d2.2 (by omega);have lz:(symM C f xs a s M).length=len:=by omega
  generalize symM C f xs a s M=zs at *;by_cases d3:M<M+m-s∧M+m-s<b
  ·rw[if_pos d3];have h7:=ih M (M+m-s) b zs (by omega) d3.1 d3.2 h4 lz uz;rw[ce]at h7
   first
    | omega
    | simp (disch:=omega) [↓if_pos,↓if_neg,K.sh,K.fi,hf,g4,hr,h6,h7]
  ·rw[if_neg d3];have h7:True:=trivial
   first
    | omega
    | simp (disch:=omega) [↓if_pos,↓if_neg,K.sh,K.fi,hf,g4,hr,h6,h7]
 ·rw[if_neg d2];have uz:=uy;have lz:=ly;by_cases d3:M<M+m-s∧M+m-s<b
  ·have h7:=ih M (M+m-s) b xs (by omega) d3.1 d3.2 h4 lz uz;rw[ce]at h7
   first
    | (omega)
    | simp (disch:=omega) [↓if_pos,↓if_neg,K.fi,hf,g4,h7]
  ·first
    | omega
    | simp (disch:=omega) [↓if_pos,↓if_neg,K.sh,K.fi,hf,g4,hr,h6,h7]
theorem alL (H:Hp hp D) (K:Cm hp L F C) (len:Nat) (hlen:len≤1000000000) (N f:Nat) (ih:∀ (a m b:Nat) (xs:List Nat),b-a≤f→a<m→m<b→b≤len→xs.length=len→b8 L xs→
  (Dn prog).call aF [.sl D 0 len,.d (.int .i64 a),.d (.int .i64 m),.d (.int .i64 b),F] ⟨hp xs,N⟩=some (.tup [],⟨hp (symM C f xs a m b),N⟩))
  (a m b:Nat) (xs:List Nat) (h1:b-a≤f+1) (h2:a<m) (h3:m<b) (h4:b≤len) (hx:xs.length=len) (u:b8 L xs) (c1:¬ m-a=1) (c2:¬ b-m=1) (c3:¬ (a+b) / 2<m) (d1:(kY C xs ((a+b) / 2+m-1) (b-a) a m<m∧m<(a+b) / 2+m-kY C xs ((a+b) / 2+m-1) (b-a) a m)) :
  (Dn prog).call aF [.sl D 0 len,.d (.int .i64 a),.d (.int .i64 m),.d (.int .i64 b),F] ⟨hp xs,N⟩=some (.tup [],⟨hp (symM C (f+1) xs a m b),N⟩):=by
 rw[aD bT bv.eq_1 rfl,symM,if_neg c1,if_neg c2];simp only;have hf:=Un (i:=a) (j:=b);have q1:a<(a+b) / 2∧(a+b) / 2<b∧(a+b) / 2*2≤a+b∧a+b≤(a+b) / 2*2+1:=by omega
 rw[if_neg c3];generalize (a+b) / 2=M at *;have cn:((M+m:Nat):Int)=(M:Int)+m:=rfl;have cp:((M+m-1:Nat):Int)=(M:Int)+m-1:=by omega
 have s1:=BU (C:=C) (xs:=xs) (p:=M+m-1) (f:=b-a) (i:=a) (j:=m) (by omega);have g4:=xi H K len hlen a m b M (M+m) (M+m-1) N xs hx u (b-a) a m (by omega) (by omega) (by omega) (by omega) (by omega);rw[cn,cp]at g4;generalize kY C xs (M+m-1) (b-a) a m=s at *;have ce:((M+m-s:Nat):Int)=(M:Int)+m-s:=by omega
 rw[if_pos d1];have hr:=aqi H F K.sh K.fi len hlen s m (M+m-s) N d1.1 d1.2 (by omega) xs hx;have uy:b8 L (rot m (M+m-s-s) xs (m-s) (M+m-s-m)):=u.rot (by omega) (by omega);have ly:(rot m (M+m-s-s) xs (m-s) (M+m-s-m)).length=len:=by grind [AI]
 generalize rot m (M+m-s-s) xs (m-s) (M+m-s-m)=ys at *;rw[ce]at hr;by_cases d2:a<s∧s<M
 ·rw[if_pos d2];have h6:=ih a s M ys (by omega) d2.1 d2.2 (by omega) ly uy;have uz:b8 L (symM C f ys a s M):=uy.symM d2.1 d2.2 (by omega);have lz:(symM C f ys a s M).length=len:=by grind [q7]
  generalize symM C f ys a s M=zs at *;by_cases d3:M<M+m-s∧M+m-s<b
  ·rw[if_pos d3];have h7:=ih M (M+m-s) b zs (by omega) d3.1 d3.2 h4 lz uz;rw[ce]at h7
   first
    | (exfalso;omega)
    | simp (disch:=omega) [↓if_pos,↓if_neg,K.sh,K.fi,hf,g4,hr,h6,h7]
  ·rw[if_neg d3];have h7:True:=trivial
   first
    | omega
    | simp (disch:=omega) [↓if_pos,↓if_neg,K.sh,K.fi,hf,g4,hr,h6,h7]
 ·rw[if_neg d2];have uz:=uy;have lz:=ly;have h6:True:=trivial;by_cases d3:M<M+m-s∧M+m-s<b
  ·rw[if_pos d3];have h7:=ih M (M+m-s) b ys (by omega) d3.1 d3.2 h4 lz uz;rw[ce]at h7
   first
    | (omega)
    | simp (disch:=omega) [↓if_pos,↓if_neg,K.sh,K.fi,hf,g4,hr,h7]
  ·first
    | (omega)
    | simp (disch:=omega) [↓if_pos,↓if_neg,K.sh,K.fi,hf,g4,hr]
theorem alW (H:Hp hp D) (K:Cm hp L F C) (len:Nat) (hlen:len≤1000000000) (N f:Nat) (ih:∀ (a m b:Nat) (xs:List Nat),b-a≤f→a<m→m<b→b≤len→xs.length=len→b8 L xs→
  (Dn prog).call aF [.sl D 0 len,.d (.int .i64 a),.d (.int .i64 m),.d (.int .i64 b),F] ⟨hp xs,N⟩=some (.tup [],⟨hp (symM C f xs a m b),N⟩))
  (a m b:Nat) (xs:List Nat) (h1:b-a≤f+1) (h2:a<m) (h3:m<b) (h4:b≤len) (hx:xs.length=len) (u:b8 L xs) (c1:¬ m-a=1) (c2:¬ b-m=1) (c3:¬ (a+b) / 2<m) (d1:¬ (kY C xs ((a+b) / 2+m-1) (b-a) a m<m∧m<(a+b) / 2+m-kY C xs ((a+b) / 2+m-1) (b-a) a m)) :
  (Dn prog).call aF [.sl D 0 len,.d (.int .i64 a),.d (.int .i64 m),.d (.int .i64 b),F] ⟨hp xs,N⟩=some (.tup [],⟨hp (symM C (f+1) xs a m b),N⟩):=by
 rw[aD bT bv.eq_1 rfl,symM,if_neg c1,if_neg c2];simp only;have hf:=Un (i:=a) (j:=b);have q1:a<(a+b) / 2∧(a+b) / 2<b∧(a+b) / 2*2≤a+b∧a+b≤(a+b) / 2*2+1:=by omega
 rw[if_neg c3];generalize (a+b) / 2=M at *;have cn:((M+m:Nat):Int)=(M:Int)+m:=rfl;have cp:((M+m-1:Nat):Int)=(M:Int)+m-1:=by omega
 have s1:=BU (C:=C) (xs:=xs) (p:=M+m-1) (f:=b-a) (i:=a) (j:=m) (by omega);have g4:=xi H K len hlen a m b M (M+m) (M+m-1) N xs hx u (b-a) a m (by omega) (by omega) (by omega) (by omega) (by omega);rw[cn,cp]at g4;generalize kY C xs (M+m-1) (b-a) a m=s at *;have ce:((M+m-s:Nat):Int)=(M:Int)+m-s:=by omega
 rw[if_neg d1];have uy:=u;have ly:=hx;have hr:True:=trivial;by_cases d2:a<s∧s<M
 ·rw[if_pos d2];have h6:=ih a s M xs (by omega) d2.1 d2.2 (by omega) ly uy;have uz:b8 L (symM C f xs a s M):=uy.symM d2.1 d2.2 (by omega);have lz:(symM C f xs a s M).length=len:=by grind [q7]
  generalize symM C f xs a s M=zs at *;by_cases d3:M<M+m-s∧M+m-s<b
  ·rw[if_pos d3];have h7:=ih M (M+m-s) b zs (by omega) d3.1 d3.2 h4 lz uz;rw[ce]at h7
   first
    | omega
    | simp (disch:=omega) [↓if_pos,↓if_neg,K.sh,K.fi,hf,g4,hr,h6,h7]
  ·rw[if_neg d3];have h7:True:=trivial
   first
    | (exfalso;omega)
    | simp (disch:=omega) [↓if_pos,↓if_neg,K.sh,K.fi,hf,g4,h6]
 ·rw[if_neg d2];have uz:=uy;have lz:=ly;have h6:True:=trivial;by_cases d3:M<M+m-s∧M+m-s<b
  ·first
    | omega
    | simp (disch:=omega) [↓if_pos,↓if_neg,K.sh,K.fi,hf,g4,hr,h6,h7]
  ·first
    | (omega)
    | simp (disch:=omega) [↓if_pos,↓if_neg,hf,g4]
theorem ajk (H:Hp hp D) (K:Cm hp L F C) (len:Nat) (hlen:len≤1000000000) (N:Nat):∀ (f a m b:Nat) (xs:List Nat),b-a≤f→a<m→m<b→b≤len→xs.length=len→b8 L xs→
  (Dn prog).call aF [.sl D 0 len,.d (.int .i64 a),.d (.int .i64 m),.d (.int .i64 b),F] ⟨hp xs,N⟩=some (.tup [],⟨hp (symM C f xs a m b),N⟩):=by
 intro f
 induction f with
 | zero=>omega
 | succ f ih =>
  intro a m b xs h1 h2 h3 h4 hx u;by_cases c1:m-a=1
  ·rw[aD bT bv.eq_1 rfl,symM,if_pos c1];have hb:=Wd (C:=C) (xs:=xs) (a:=a) (f:=b-m) (i:=m) (j:=b) (by omega);have g0:=al9 H K len hlen a N (by omega) xs hx u (b-m) m b (by omega) (by omega) h4;generalize GD C xs a (b-m) m b=I at *;have g1:=al6 H len hlen I N (by omega) (I-1-a) a xs (by omega) hx;simp (disch:=omega) [↓if_pos,g0,g1]
  ·by_cases c2:b-m=1
   ·rw[aD bT bv.eq_1 rfl,symM,if_neg c1,if_pos c2];have hb:=ai9 (C:=C) (xs:=xs) (m:=m) (f:=m-a) (i:=a) (j:=m) (by omega);have g0:=ali H K len hlen m N (by omega) xs hx u (m-a) a m (by omega) (by omega) (by omega);generalize F2 C xs m (m-a) a m=I at *;have g1:=alN H len hlen I N (m-I) m xs (by omega) (by omega) hx;simp (disch:=omega) [↓if_pos,↓if_neg,g0,g1]
   grind [al4,alA,alL,alW]
end
end Go.Vm
end
