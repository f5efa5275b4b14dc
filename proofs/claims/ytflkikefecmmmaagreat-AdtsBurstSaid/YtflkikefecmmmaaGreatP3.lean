import Derived.KernelRfl
import Derived.Test.YtflkikefecmmmaaGreatP2
set_option linter.unusedVariables false
set_option linter.unusedSimpArgs false
set_option linter.defProp false
set_option linter.unusedSectionVars false
noncomputable section
namespace Go.Vm
set_option maxRecDepth 100000
set_option maxHeartbeats 8000000
theorem e_ {p:Prop}(h:p:=by decide +kernel):p:=h
theorem g_ {p:Prop}(h:p:=by simp;omega):p:=h
theorem t_ {p:Prop}(h:p:=by simp only[];omega):p:=h
def aup:Nat->Nat->Nat->Nat->Nat×Nat
 |0,_,a,n=>(a,n)
 |f+1,m,a,n=>match Nat.ble (n % 16) 7 with
  |true=>(a+m*(n % 16),n / 16)
  |false=>aup f (m*8) (a+m*(n % 16-8)) (n / 16)
def gO (α:Type):=Nat×Nat->α×(Nat×Nat)
def bY {α:Type}(x:α):gO α:=λs=>(x,s)
def gO.a {α β:Type}(p:gO (α->β))(q:gO α):gO β:=λs=>match p s with
 |(f,s)=>match q s with
  |(x,s)=>(f x,s)
def gO.b {α β:Type}(p:gO α)(q:α->gO β):gO β:=λs=>match p s with
 |(x,s)=>q x s
def fc:gO Nat:=λs=>match s with
 |(t,n)=>match aup 40 1 0 n with
  |(v,n)=>(v,(t,n))
def ata:gO Nat:=λs=>match s with
 |(t,n)=>(t,(t,n))
def aAA {α:Type}(p:gO α):Nat->gO (List α)
 |0=>bY []
 |k+1=>(bY .cons).a p |>.a (aAA p k)
def qW {α:Type}(p:gO α):gO (List α):=fc.b (aAA p)
def ZH (v:Nat):Bool:=Nat.beq (v % 2) 0
def aoN (t v:Nat):Nat:=match ZH v with
 |true=>t-v / 2
 |false=>v / 2
def WQ:gO Nat:=fc.b λv=>ata.b λt=>bY (aoN t v)
def atD:gO Nat:=λs=>match s with
 |(t,n)=>match aup 40 1 0 n with
  |(v,n)=>match ZH v with
   |true=>(t+1+v / 2,(t+1+v / 2,n))
   |false=>(v / 2,(v / 2,n))
def apj:Nat->Nat->Int
 |0,_=>0
 |f+1,v=>match v with
  |0=>0
  |v=>match ZH v with
   |true=>2*apj f (v / 2)
   |false=>2*apj f (v / 2)+1
def aFf (v:Nat):Int:=match ZH v with
 |true=>apj 80 (v / 2)
 |false=>-apj 80 (v / 2+1)
def acR:gO Int:=(bY aFf).a fc
def aAc:Nat->IntKind
 |0=>.i64
 |1=>.u8
 |2=>.u64
 |3=>.u32
 |5=>.u16
 |_=>.i64
def XD:gO Bool:=(bY λv=>Nat.beq v 1).a fc
def aCO:Nat->gO D
 |0=>bY (.bool false)
 |1=>bY (.bool true)
 |k=>(bY λz=>D.int (aAc (k-2)) z).a acR
def asU:gO D:=fc.b aCO
def awv:Nat->gO AV
 |0=>(bY λz=>A_ z).a acR
 |1=>bY (B_ true)
 |2=>bY (B_ false)
 |3=>bY .nl
 |4=>(bY λz=>.d (.int .u8 z)).a acR
 |5=>(bY .d).a asU
 |6=>bY .nilp
 |7=>bY .nilf
 |9=>(bY λz=>.d (.int .u64 z)).a acR
 |10=>(bY λz=>.d (.int .u32 z)).a acR
 |12=>(bY λz=>.d (.int .u16 z)).a acR
 |19=>bY .junk
 |20=>(bY λf=>.fn f [] []).a fc
 |_=>bY .junk
def aBt:gO AV:=fc.b awv
def aCm:Nat->Nat->gO Rd
 |0,v=>ata.b λt=>bY (.m (aoN t v))
 |1,v=>ata.b λt=>bY (.s (aoN t v))
 |_,v=>(bY .c).a (awv v)
def dV:gO Rd:=fc.b λv=>aCm (v % 3) (v / 3)
def acm {α:Type}(p:gO α):gO (Option α):=fc.b λv=>match v with
 |0=>bY none
 |_=>(bY some).a p
def aAJ:gO I_:=(bY λv=>match v with
 |0=>none
 |v+1=>some v).a fc
def aF7:Nat->BinOp
 |1=>.eql
 |2=>.lss
 |3=>.neq
 |4=>.gtr
 |5=>.sub
 |6=>.geq
 |7=>.mul
 |8=>.shr
 |9=>.leq
 |10=>.shl
 |11=>.rem
 |12=>.and
 |13=>.quo
 |14=>.or
 |15=>.xor
 |_=>.add
def aG7:Nat->UnOp
 |1=>.neg
 |_=>.not
def afZ:Nat->gO pk
 |0=>(bY .mov).a dV
 |1=>(bY .bin).a ((bY aF7).a fc) |>.a dV |>.a dV
 |2=>(bY .ld).a aAJ |>.a fc |>.a dV
 |3=>(bY .fa).a fc |>.a dV
 |4=>(bY .kill).a (qW WQ)
 |5=>(bY .st).a fc |>.a dV |>.a dV
 |6=>(bY .ext).a WQ |>.a XD |>.a fc
 |7=>(bY .call).a fc |>.a (qW dV)
 |8=>(bY .pick).a dV |>.a dV |>.a dV
 |9=>(bY .len).a dV
 |10=>(bY .ia).a fc |>.a dV |>.a dV
 |11=>(bY .box).a dV
 |12=>(bY .alloc).a (qW aBt)
 |13=>(bY .calli).a fc |>.a (qW dV)
 |14=>(bY .callv).a dV |>.a (qW dV)
 |15=>(bY .nilck).a dV
 |16=>(bY .un).a ((bY aG7).a fc) |>.a dV
 |17=>(bY .build).a (qW aBt) |>.a (qW ((bY λa b c=>(a,b,c)).a fc |>.a fc |>.a dV))
 |18=>(bY .app).a fc |>.a dV |>.a dV
 |19=>(bY .mks).a fc |>.a (qW dV)
 |20=>(bY .conv).a ((bY aAc).a fc) |>.a dV
 |21=>(bY .mkfn).a fc |>.a (qW dV) |>.a (qW dV)
 |22=>(bY .iarr).a fc |>.a fc |>.a dV |>.a dV
 |23=>(bY .mkslice).a (qW asU) |>.a dV |>.a dV
 |24=>(bY .slice).a fc |>.a dV |>.a (acm dV) |>.a (acm dV) |>.a (acm dV)
 |26=>(bY .toStr).a dV
 |27=>(bY .binb).a XD |>.a dV |>.a dV
 |28=>(bY .minmax).a XD |>.a (qW dV)
 |29=>(bY .ix).a fc |>.a fc |>.a XD |>.a dV |>.a dV
 |30=>(bY .ixs).a dV |>.a dV
 |32=>(bY .bina).a XD |>.a (qW XD) |>.a dV |>.a dV
 |33=>(bY .appz).a (qW asU) |>.a dV |>.a dV
 |34=>(bY .cpy).a fc |>.a dV |>.a dV
 |36=>(bY .mksv).a fc |>.a (qW dV)
 |37=>(bY .slarr).a fc |>.a dV |>.a (acm dV) |>.a (acm dV) |>.a (acm dV)
 |39=>(bY .cap).a dV
 |42=>(bY .frz).a fc
 |_=>bY .bad
def aFD:gO (Nat×Nat):=(bY .mk).a fc |>.a fc
def aCG:Nat->Nat->gO VI
 |0,o=>atD.b λd=>(bY λo=>⟨some d,none,o,[]⟩).a (afZ o)
 |1,o=>(bY λo=>⟨none,none,o,[]⟩).a (afZ o)
 |2,o=>atD.b λd=>WQ.b λg=>(bY λo=>⟨some d,some (g,true),o,[]⟩).a (afZ o)
 |_,o=>atD.b λd=>WQ.b λg=>(bY λo=>⟨some d,some (g,false),o,[]⟩).a (afZ o)
def anC (v:Nat):gO VI:=aCG (v % 4) (v / 4)
def aDA:Nat->gO VI
 |184=>(bY fun(th:R_) (x:VI)=>⟨x.dst,x.guard,x.op,th⟩).a (qW aFD) |>.a (fc.b anC)
 |181=>(bY fun(g:Nat) (w:Bool) (x:VI)=>⟨x.dst,some (g,w),x.op,x.th⟩).a WQ |>.a XD |>.a (fc.b anC)
 |v=>anC v
def aBm:gO VI:=fc.b aDA
def aDm (s:List VC)(r:gO VC):Nat->gO VC
 |0=>(bY .seq).a r |>.a r
 |1=>(bY (.reg false)).a (qW aBm)
 |2=>(bY .cond).a dV |>.a r |>.a r
 |3=>(bY K).a (qW WQ)
 |4=>bY .skip
 |5=>bY .ret
 |6=>(bY .block).a fc |>.a r
 |7=>(bY λk=>s.getD k .skip).a fc
 |8=>(bY F).a WQ
 |9=>(bY .exit).a fc
 |10=>(bY .loop).a r
 |11=>(bY (.reg true)).a (qW aBm)
 |12=>(bY .rangeF).a dV |>.a (qW fc) |>.a r |>.a r
 |13=>(bY .scope).a r
 |14=>(bY .label).a fc
 |15=>(bY .goto).a fc
 |16=>(bY .clone).a fc
 |_=>bY .skip
def atV (s:List VC):Nat->gO VC
 |0=>bY .skip
 |f+1=>fc.b (aDm s (atV s f))
def aFk:gO tv:=fc.b λv=>match ZH v with
 |true=>bY (.tmp (v / 2))
 |false=>(bY (.cell (v / 2))).a aAJ
def bx (s:List VC)(n:Nat):VC:=(atV s 1000 (0,n)).1
def aQ (s:List VC)(n:Nat):al:=((bY .mk).a fc |>.a (qW aFk) |>.a (atV s 1000) <|(0,n)).1
def aF {α:Type}(c:α){d:α}(h:c=d:=by show ?c=?d;refine(?f:?c=?d->?c=?d) ?h;rotate_left;cbv;exact λ_=>by kernel_rfl):c=d:=h
def cg {α:Type}(c:α){k d:α}(h:k=d)(g:c=k:=by exact rfl):c=d:=g.trans h
abbrev O:AV:=A_ 0
abbrev O8:AV:=.d (.int .u8 0)
abbrev Q (n:Int):Rd:=.c (.d (I n))
abbrev tt:Rd:=.c (B_ true)
abbrev ff:Rd:=.c (B_ false)
abbrev A (d s:Nat):VI:=V d (.mov (.m s))
abbrev B (d s:Nat):VI:=V d (.mov (.s s))
abbrev C (d:Nat)(s:Rd):VI:=V d (.mov s)
abbrev M (d s:Nat):VI:=V d (.ld none 0 (.m s))
abbrev G (d s:Nat):VI:=V d (.ld none 0 (.s s))
abbrev Z (l:C_):VI:=N (.kill l)
abbrev H (d:Nat)(f:FuncId)(l:U_):VI:=V d (.call f l)
abbrev L (d:Nat)(o:BinOp)(x y:Nat):VI:=V d (.bin o (.m x) (.m y))
abbrev P (d:Nat)(o:BinOp)(x:Nat)(n:Int):VI:=V d (.bin o (.m x) (Q n))
abbrev J (d:Nat)(o:BinOp)(x y:Nat):VI:=V d (.bin o (.s x) (.s y))
abbrev X (d n s:Nat):VI:=V d (.fa n (.s s))
abbrev E (d s:Nat)(x:Bool)(n:Nat):VI:=V d (.ext s x n)
abbrev Yd (n a b:Nat):VI:=N (.st n (.s a) (.m b))
abbrev Rg (l:S_):VC:=.reg false l
def unp (q:C_)(l:S_):S_:=q.filterMap λi=>l[i]?
abbrev wg:Nat:=3
abbrev A8:Nat:=4
abbrev tc:Nat:=5
abbrev xK:Nat:=6
abbrev Fz:Nat:=7
abbrev Q8:Nat:=8
abbrev VJ:Nat:=9
abbrev ti:Nat:=10
abbrev Mp:Nat:=11
abbrev LA:Nat:=12
abbrev Rz:Nat:=13
abbrev VL:Nat:=14
abbrev E9:Nat:=15
abbrev CE:Nat:=16
abbrev PZ:Nat:=17
abbrev aBT:Nat:=18
abbrev GT:Nat:=19
abbrev afF:Nat:=20
abbrev yf:Nat:=21
abbrev CU:Nat:=22
abbrev zO:Nat:=23
abbrev P8:Nat:=24
abbrev yx:Nat:=25
abbrev ag5:Nat:=26
abbrev J2:Nat:=27
abbrev lV:Nat:=28
abbrev j6:Nat:=29
abbrev Cv:Nat:=30
abbrev tR:Nat:=31
abbrev vT:Nat:=32
abbrev qg:Nat:=33
abbrev wP:Nat:=34
abbrev NL:Nat:=35
abbrev FA:Nat:=36
abbrev LV:Nat:=37
abbrev Sy:Nat:=38
abbrev Ps:Nat:=39
abbrev fL:Nat:=40
abbrev adl:Nat:=41
abbrev O9:Nat:=42
abbrev sP:Nat:=43
abbrev Gj:Nat:=44
abbrev xD:Nat:=45
abbrev oj:Nat:=46
abbrev aa1:Nat:=47
abbrev VY:Nat:=48
abbrev wR:Nat:=49
abbrev Ls:Nat:=50
abbrev zw:Nat:=51
abbrev oH:Nat:=52
abbrev zB:Nat:=53
abbrev Zi:Nat:=54
abbrev zC:Nat:=55
abbrev V8:Nat:=56
abbrev zQ:Nat:=57
abbrev zy:Nat:=58
abbrev oC:Nat:=59
abbrev QG:Nat:=60
abbrev zN:Nat:=61
abbrev SY:Nat:=62
abbrev yq:Nat:=63
abbrev mZ:Nat:=64
abbrev Nv:Nat:=65
abbrev uw:Nat:=66
abbrev NQ:Nat:=67
abbrev Vq:Nat:=68
abbrev DH:Nat:=69
abbrev qj:Nat:=70
abbrev Mj:Nat:=71
abbrev Dh:Nat:=72
abbrev RR:Nat:=73
abbrev vK:Nat:=74
abbrev jL:Nat:=75
abbrev ZJ:Nat:=76
abbrev Wc:Nat:=77
abbrev GA:Nat:=78
abbrev H1:Nat:=79
abbrev JW:Nat:=80
abbrev Ey:Nat:=81
abbrev Rn:Nat:=82
abbrev ST:Nat:=83
abbrev Vd:Nat:=84
abbrev GV:Nat:=85
abbrev NC:Nat:=86
abbrev qR:Nat:=87
abbrev Dj:Nat:=88
abbrev Dc:Nat:=89
abbrev El:Nat:=90
abbrev Hk:Nat:=91
abbrev jh:Nat:=92
abbrev Tj:Nat:=93
abbrev aw5:Nat:=94
abbrev Vj:Nat:=95
abbrev Qn:Nat:=96
abbrev aeF:Nat:=97
abbrev zg:Nat:=98
abbrev Bn:Nat:=99
abbrev HY:Nat:=100
abbrev qL:Nat:=101
abbrev AK:Nat:=102
abbrev DG:Nat:=103
abbrev tP:Nat:=104
abbrev GU:Nat:=105
abbrev Vu:Nat:=106
abbrev sD:Nat:=107
abbrev Hn:Nat:=108
abbrev Fi:Nat:=109
abbrev Ei:Nat:=110
abbrev Cu:Nat:=111
abbrev ET:Nat:=112
abbrev It:Nat:=113
abbrev Fh:Nat:=114
abbrev E4:Nat:=115
abbrev Fg:Nat:=116
abbrev Cx:Nat:=117
abbrev Tc:Nat:=118
abbrev Qu:Nat:=119
abbrev Qq:Nat:=120
abbrev Fy:Nat:=121
abbrev Kw:Nat:=122
abbrev qy:Nat:=123
abbrev QP:Nat:=124
abbrev Ww:Nat:=125
abbrev Sr:Nat:=126
abbrev U9:Nat:=127
abbrev Bm:Nat:=128
abbrev V4:Nat:=129
abbrev KJ:Nat:=130
abbrev Nq:Nat:=131
abbrev jD:Nat:=132
abbrev nE:Nat:=133
abbrev Dx:Nat:=134
abbrev JT:Nat:=135
abbrev arW:Nat:=136
abbrev AZ:Nat:=137
abbrev Gk:Nat:=138
abbrev ig:Nat:=139
abbrev sW:Nat:=140
abbrev Ja:Nat:=141
abbrev DI:Nat:=142
abbrev tM:Nat:=143
abbrev xq:Nat:=144
abbrev v8:Nat:=145
abbrev VD:Nat:=146
abbrev Vw:Nat:=147
abbrev fT:Nat:=148
abbrev pg:Nat:=149
abbrev QL:Nat:=150
abbrev VX:Nat:=151
abbrev nh:Nat:=152
abbrev nY:Nat:=153
abbrev K0:Nat:=154
abbrev YO:Nat:=155
abbrev Zn:Nat:=156
abbrev Hq:Nat:=157
abbrev ut:Nat:=158
abbrev DL:Nat:=159
abbrev asI:Nat:=160
abbrev HN:Nat:=161
abbrev awr:Nat:=162
abbrev yJ:Nat:=163
abbrev aA4:Nat:=164
abbrev vq:Nat:=165
abbrev Ht:Nat:=166
abbrev vk:Nat:=167
abbrev wE:Nat:=168
abbrev asG:Nat:=169
abbrev asH:Nat:=170
abbrev oG:Nat:=171
abbrev cW:Nat:=172
abbrev vg:Nat:=173
abbrev rA:Nat:=174
abbrev sU:=[B 79 16,B 80 21,P 81 .quo 80 8,B 82 16,B 83 21,P 84 .quo 83 8,V 85 (.ia 1 (.m 82) (.m 84)),M 86 85,B 87 21,P 88 .rem 87 8,V 89 (.bin .shr (.c (.d (.int .u8 128))) (.m 88)),L 90 .xor 86 89,V 91 (.ia 1 (.m 79) (.m 81)),N (.st 1 (.m 91) (.m 90))]
def lm:VC:=.regP (.range 14) (.range 14) [] sU
def tH (a0:VC):VC:=bx [a0] 0x16bb5902260041fb1ba03140130707af5b061c0041fc0061c0041ee001da006100224e610424e61c0461c18041fc004a40510160019594f4d4b1b530402246181a5291874c04871d21a061e8180271d06061fc4021ee20260048262041fc1ea01a100
def E2 (a0:VC):=aF (tH a0)
def fZ:VC:=tH lm
def sq:=cg fZ (E2 lm)
def wJ (a0:VC):al:=aQ [a0] 0x153c93bf3bd3bb3b93af697291ad93901875a048752b1c04a7ec2714072ac203760202714062ac20260064c001dc62a104601d81cb00601d81af000261042ac2aa02a1021841802f9129199900198b152d18fd752d330023506800002000055d68201a038111803801643818ef2f9061703c1cc2a801c10002461b53071a006020011005b94f061c1b041e8006001a82d18e0510448200111e824b01104d4b230023b18c011004fb4d02a8265046282704604c1b87e05102a82001104cb49061c101980012f81b8000118a19c0012f8410454a9390026104604c1af004101b197330020263041bd6a021001e181d18018d1293eb003dd3d0101c038011a18383cf18d061c2a3603c6c16018190058152181a1005012d582581c21043b130538b3901a90021029181d181b1973430000224229752a048704018b1aa20360061503c6c06381871002b93b004383c210012918601f25c31a5c4103816
def HZ (a0:VC):=aF (wJ a0)
def ov:al:=wJ fZ
def iA:=cg ov (HZ fZ)
abbrev xh:=Rg [A 24 3,A 25 24,W 25 26 (.mov (.s 5)),W 25 27 (.bin .eql (.s 26) (Q 0)),V 28 (.pick (.m 25) (.s 27) ff),A 29 28,W 29 30 (.mov (.s 4)),W 29 31 (.toStr (.s 30)),W 29 32 (.bin .eql (.s 31) (.c (.d (.str [255,241,64,64,1,96,20,0,0,0,7])))),V 33 (.pick (.m 29) (.s 32) ff),A 34 33,W 34 35 (.mov (.s 7)),W 34 36 (.bin .eql (.s 35) (Q 0)),V 37 (.pick (.m 34) (.s 36) ff),A 38 37,W 38 39 (.ld (some 5) 0 (.s 6)),W 38 40 (.build [O,O,B_ false,O,O] [(1,1,Q 1),(3,1,Q 11),(4,1,Q 5)]),W 38 41 (.bina false [true,true,false,true,true] (.s 39) (.s 40)),V 42 (.pick (.m 38) (.s 41) ff),A 0 42,Z [4,5,7,26,27,30,31,32,35,36,39,40,41]]
def Bo (a0:VC):al:=aQ [a0] 0x1521807004f12929d0028f152d00002000051d6810180380164382894f0611903c3c3c0191051831803b1291df001d9190101a03801186381cb3b061a21c3603c28160181a152c18191002912919b0018d152d7f742d330023506800200004368201803811603801423879290018283c1b1001291810210010
def MI (a0:VC):=aF (Bo a0)
def tD:al:=Bo xh
def MS:=cg tD (MI xh)
def iW:VC:=bx [] 0x11bd702260042d2e031455501103187130002611a03c601a01861c190582e006000181a041c6101600197130402242291872a0482c2724062e202600638204604c6000181a001c1d1801a100
def iM:=aF iW
def i9:VC:=bx [] 0x138b1902260043b7803145550110318191300026a826404604c60001861c10583c006000181a341c71036021919130402242291872a0481a82724063c202600638204604c6000181a301c3c5a01a100
def iS:=aF i9
def BK (a0 a1:VC):al:=aQ [a0,a1] 0x152181dd1db1d91cf1c91bf1bd1bb182959d50753e0487ec827418077604f700401b1a4201f600753e0481a827418077604f700401b1a3201f6002c26404604c6000181a018e1c2a100013171a02602001100013071a0060200110001291800305c310411
def ML (a0 a1:VC):=aF (BK a0 a1)
def sJ:al:=BK iW i9
def MQ:=cg sJ (ML iW i9)
abbrev Nn:=[X 23 0 3,M 24 23,X 25 1 3,M 26 25,X 27 2 3,M 28 27,X 29 2 3,M 30 29,H 31 LA [.m 30],B 32 8,V 33 (.len (.m 32)),L 34 .add 31 33,A 35 1,V 36 (.build [O,O,B_ false,O,O] [(0,1,.m 24),(1,1,.m 26),(2,1,.m 28),(3,1,.m 34),(4,1,.m 35)]),V 10 (.alloc [O,O,B_ false,O,O]),Yd 5 10 36]
def Dg:VC:=.regP (.range 16) (.range 16) [] Nn
def SL (a0:VC):al:=aQ [a0] 0x1502005ef1d061c101986b0018d1c8051045cd2f065a1019862a21019c6101a81a9006101a8283d618041aa0018d19c01914ed3b0612803c61c21019c6c0018e00510027186000182e218a1c210004181a902294a90049b2f0101a038011863848d1a90611e03c611f03c1881618a18191004542001b1d02102d18718291300002600188611d03c188067a18310007042b130528f001b1d079003107182932300020263047a2c0210018183d1291ed001df290101a03801186381d93d061c21b03c4a160182e051e18191000222902001b001f25c345c5101e1c23
def aik (a0:VC):=aF (SL a0)
def Ji:al:=SL Dg
def CT:=cg Ji (aik Dg)
abbrev EE:VC:=(.reg true [
 X 41 2 5,
 M 42 41,
 A 43 42,
 W 43 44 (.mov (.s 0)),
 W 43 45 (.slice 1 (.s 44) none (some (Q 7)) none),
 W 43 46 (.mov (.s 7)),
 W 43 47 (.mks 1 [.s 45,.s 46]),
 W 43 48 (.call CE [.s 47]),
 W 43 49 (.mov (.s 0)),
 W 43 50 (.ia 1 (.s 49) (Q 7)),
 W 43 51 (.ld none 0 (.s 50)),
 W 43 52 (.conv .i64 (.s 51)),
 W 43 53 (.bin .shl (.s 52) (.c (.d (.int .u64 8)))),
 W 43 54 (.mov (.s 0)),
 W 43 55 (.ia 1 (.s 54) (Q 8)),
 W 43 56 (.ld none 0 (.s 55)),
 W 43 57 (.conv .i64 (.s 56)),
 W 43 58 (.bin .or (.s 53) (.s 57)),
 W 43 59 (.bin .neq (.s 48) (.s 58)),
 V 60 (.pick (.s 43) (.s 59) ff)])
def Ct:VC:=.regP (.range 5) [0,2,1,3,4] [1,2] [V 78 (.ld (some 5) 0 (.s 5)),V 79 (.ld (some 5) 0 (.s 8)),Yd 5 2 78,Yd 5 3 79,C 4 (Q 0)]
def V5 (a0 a1:VC):al:=aQ [a0,a1] 0x1529181b180170041d13057a919062e52d1c2852d4f0003300235018c00000200005018c61029181b1800020263045828c021001ff1296eb1d06dd152d33002352968102a03801281e386cf1ff061c22903c5d006112a10200200004018c6000184a101c6000184a01ee1c1e10457ec219002e52d62852d03300235018c000002000051da18c510418013005db21ef1ed1eb1e91df1dd1db1d91cf1cd1cb1c91bf1bd1bb1b91af12a3070003eb1f0006138101c8611c03c6000184a201c47e06104528219002e52d62852d03300235018c000002000051a18c5101b18113000239979062a4046000184a301c604c468061051a219002e52d62852d03300235018c000002000051a18c5101b1811300022b959062a2046000184a301c604c44806101d13051ed19062e52d1c2852d4f0003300235018c00000200005418c6101b1811300021cb3d0026304582803100602b1291a90019b152d00002000051b68101803801643818d2b0611903c41a01910012902003300235068000020000526841018676531
def akM (a0 a1:VC):=aF (V5 a0 a1)
def Mi:al:=V5 EE Ct
def oI:=cg Mi (akM EE Ct)
def LE:VC:=.regP (.range 9) [0,6,1,2,3,7,4,5,8] [1,6] [V 11 (.build [O,O,B_ false,O] [(1,1,Q 1)]),V 12 (.ld (some 9) 0 (.s 3)),V 13 (.mks 9 [.m 12]),V 14 (.build [.nl,B_ false,O,.nl,.nl] [(0,1,.m 13)]),A 15 4,P 16 .eql 15 0,Yd 4 0 11,Yd 5 1 14,A 2 16]
def Ra (a0:VC):al:=aQ [a0] 0x1521807001b1297f00791192d333330004040019768101a03801186386b1b060222a03c613130004044018c2211619c1a10012918003300235068002000041684104635130
def Rb:al:=Ra LE
def xU:VC:=bx [] 0x15db690222ab0042142b1306012d28401c792031025b91e903821ea1242106012d28301c7920313c130025891d902e21bb1242106012d28101c7920312c130024d91c901e218b1242106012d28001c7920311c130024a91b901a25b1242106012d28201c0261047920412130023eb19f0621d124210265d7e01103c91d07f6a02106187902293bb003ad0039f2b02028038101e038001c1a3839979062a3832d03c6000186c101c4f003c5a01d1002cd6c22d2bf1f00000229682b39121e01ec1d00510160019241d33040203c272684110
def MU:=aF xU
def Vo (a0:VC):al:=aQ [a0] 0x15027002852d28062ba18310452827002852d000002000052c18c310022bd2bb2b92af2ad196297bd29b0754c048701a018b71d22e1803f3c603711f403f2806201b600600188611d03c280628c181c1051a27002852d000002000051c18c31019130026ad1fb0638204611c03c60001828201c604c319a0710360021d33071a0060200612c03c28063e1831000200110490229289001fb190101a03801186381ed490612b03c01e2106101c843a01910451a27002852d28060183101130021e26204604c4280310001290200000020000526831066521
def alz (a0:VC):=aF (Vo a0)
def LR:al:=Vo xU
def Va:=cg LR (alz xU)
def iK:VC:=bx [] 0x13ff702260042d19c03145550110318713000239826404604c60001861c10582e006000181a541c7101600197130402638204604c6000181a501c2e18e05100
def kO:=aF iK
def iT:VC:=bx [] 0x15ab1902260043b1d803145550110318191300026a826404604c60001861c10583c006000181a641c71036021919130402638204604c6000181a601c3c1ca05100
def kI:=aF iT
def iV:VC:=bx [] 0x1189d1d02260044f2ce031455501103181d1b23000239826404604c6000186401c61c5058580060001861c10584a006000181a741c1b107606191d13040265a204604c60001861c10584a006000181a701c582ba018100
def kX:=aF iV
def xg (a0:VC):VC:=bx [a0] 0x16cf1b0226004491fc031013071a0660260110455501103181b1300025826404604c60001861c10584a006000181a741c71005604193181b1300402638204604c6000181a701c4a1fe05100
def Iv (a0:VC):=aF (xg a0)
def iP:VC:=xg iV
def iJ:=cg iP (Iv iV)
def Bz (a0 a1 a2:VC):al:=aQ [a0,a1,a2] 0x1518501103180130271a04602001100013171a02602001100013071a0060200110045550110318002246181e282a2c3a3c3e48493f3d3b2829753e0487ec827418077604f700401b1a18201f600753e0481a827418077604f700401b1a7201f600753e0481a827418077604f700401b1a6201f600753e0481a827418077604f700401b1a5201f6001a826404604c6000186301c1a1181c3e10001291800305c310411
def Nu (a0 a1 a2:VC):=aF (Bz a0 a1 a2)
def tk:al:=Bz iK iT iP
def eG:=cg tk (Nu iK iT iP)
def Mc:al:=aQ [] 0x154185180491291df001d9190104038012038611e03c61c23803c2e1601828151e181910041d130519b001b1904c0031071851800020263043960210791d061c22f03c2e06018280521841000222902001b001905c325c5101a1822
def Wv:=aF Mc
def LH:al:=aQ [] 0x151e250110452a25011002300110001290220210411
def alm:=aF LH
def J6:al:=aQ [] 0x152181cf1cd1cb1c91bf1bd1bb1b91ab1a919f19d18f18d18b7d7b7972b294fb501876e04874d19280673901e067688271c067001a01a1a11801e2e602700401a1a3201e6001873e04871d418062e602700401a1a3201e600187380487ffe2719606700401a1a4201e600187380480276606700401a1a4201e6003b5a03d100695f5d5b594f4d4b3d3b391b292b91901876e04875392804a4271607700401b1a1201f718022271606700401a1a1201e600187380482e2719606700401a1a0201e6000266046000181a0181c2c105d70611c03c6000181a241c41001291800305c310411
def ahp:=aF J6
abbrev QA:=[B 24 4,B 25 5,P 26 .quo 25 8,V 27 (.ia 1 (.s 24) (.s 26)),M 28 27,A 29 6,B 30 5,P 31 .rem 30 8,V 32 (.bin .sub (Q 7) (.m 31)),L 33 .shl 29 32,L 34 .or 28 33,V 35 (.ia 1 (.s 24) (.s 26)),N (.st 1 (.m 35) (.m 34))]
def D7:VC:=.regP (.range 13) (.range 13) [] QA
def M8 (a0:VC):VC:=bx [a0] 0x13bb4b0221d901884216d691b3307045282001b502101c1e281d1b196300221e6404583e02100289001ed1b06000182b3f10581d0051016001924633040201d724a4110
def acC (a0:VC):=aF (M8 a0)
def kh:VC:=M8 D7
def My:=cg kh (acC D7)
def Ve (a0:VC):al:=aQ [a0] 0x1502003c9503b4e031002433071a0060200704c32c031003b1291af1907703101bc0012f828261d041e26004604c41c07104562001b5021011300228888888826404604c46031000222902001b203106421
def akF (a0:VC):=aF (Ve a0)
def Me:al:=Ve kh
def akV:=cg Me (akF kh)
def rT:VC:=bx [] 0x11ed1f0225d04842119184d2d2291d9501028038011e1c381cb2d062a3e33903c6000183c101c6000183c001c1f1c01b1079122d0000219681d2b121e01ec3101600192423040203c2721e4110
def HG:=aF rT
def Ns (a0:VC):al:=aQ [a0] 0x150223071a0063180200612c03c1a16418310001b00305c210411
def ab0 (a0:VC):=aF (Ns a0)
def E6:al:=Ns rT
def acB:=cg E6 (ab0 rT)
def Aa:VC:=bx [] 0x12ab3902219805842129d7061c101984f002d3a0414902291fb001ed1d010180380164381df490612b03c492e018101bd1b06000181d39105831016001924633040201d72384110
def QD:=aF Aa
def YH (a0:VC):al:=aQ [a0] 0x152ef506b5802106b02292e9002db29010180380064382cd6b0613a03c2d3a0181002433071a0060200704c31c031001b0011001290220210411
def anF (a0:VC):=aF (YH a0)
def OQ:al:=YH Aa
def aoC:=cg OQ (anF Aa)
def An:VC:=bx [] 0x11cad3ed0226e004216012d383e105822610422623d06c580079006c3ce0711bdb2b01d002104603192423040201d723ec4110
def Qs:=aF An
def Qx (a0:VC):VC:=bx [a0] 0x11cff3ab02238e004216012d3c301c62a10198611019c28e2d96b006100183c32a1c1810223071a0360200604c6c3be031003dd1291b9d290770101bc0012f86000185e201c51041192e3823002246181a529754c04802731a077001801b72601f7407f582036002263046000183c201c1b1002601192423040201d723aa4110
def aeR (a0:VC):=aF (Qx a0)
def fX:VC:=Qx An
def Gq:=cg fX (aeR An)
def Ep:VC:=.regP (.range 7) [0,5,1,2,3,4,6] [4,5] [V 148 (.build [.nl,B_ false,O,.nl,.nl] []),A 149 6,V 150 (.nilck (.m 149)),V 151 (.fa 2 (.m 150)),M 152 151,Yd 5 4 148,A 5 152]
abbrev QM:=[B 154 6,B 155 6,B 156 6,V 157 (.nilck (.m 156)),V 158 (.fa 0 (.m 157)),M 159 158,B 160 6,V 161 (.nilck (.m 160)),V 162 (.fa 1 (.m 161)),M 163 162,X 164 0 2,M 165 164,X 166 1 4,M 167 166,V 168 (.ld (some 4) 0 (.s 7)),H 169 tR [.m 159,.m 163,.m 165,.m 167,.m 168],A 153 169,E 170 153 true 0,E 171 153 false 1,E 172 153 false 2,Yd 9 10 170,V 173 (.nilck (.m 154)),V 174 (.fa 1 (.m 173)),N (.st 1 (.m 174) (.m 171)),V 175 (.nilck (.m 155)),V 176 (.fa 2 (.m 175)),N (.st 1 (.m 176) (.m 172))]
def Ek:VC:=.regP (.range 27) [2,3,4,5,6,7,8,9,10,11,12,13,14,15,16,17,20,0,18,21,22,23,1,19,24,25,26] [] QM
def Eu:VC:=.regP (.range 7) [0,5,1,2,3,4,6] [4,5] [V 182 (.build [.nl,B_ false,O,.nl,.nl] []),A 183 6,V 184 (.nilck (.m 183)),V 185 (.fa 2 (.m 184)),M 186 185,Yd 5 4 182,A 5 186]
def Qm (a0 a1 a2:VC):VC:=bx [a0,a1,a2] 0x12a994bb0224f8004212d186012d3c001c62a1901986119019c18811a0186100183c01a1c710452702d181f185181a81aa230000020263046000186201c607c5859c05104eb13170003333300040400192d68110450701f185181c1e23000020263046000186201c607c580051006605191f18518242300040201d724ba4110
def afe (a0 a1 a2:VC):=aF (Qm a0 a1 a2)
def fI:VC:=Qm Ep Ek Eu
def zY:=cg fI (afe Ep Ek Eu)
def uZ:VC:=.regP [0,1,3,4,5,2,6,7] (.range 8) [2,4] [B 34 6,B 35 6,V 36 (.calli j6 [.m 35,Q 3]),X 37 1 2,M 38 37,P 39 .sub 38 1,L 40 .eql 36 39,V 41 (.calli lV [.m 34,.m 40])]
abbrev Ak:=Rg [B 42 6,B 43 6,V 44 (.calli j6 [.m 43,Q 4]),P 45 .eql 44 0,V 46 (.calli lV [.m 42,.m 45]),Z [46]]
abbrev Ac:=Rg [V 7 (.alloc [O8,O8,O,.nl])]
abbrev sm:=Rg [X 47 1 2,M 48 47,P 49 .eql 48 2]
abbrev sE:=Rg [B 50 6,V 51 (.calli j6 [.m 50,Q 1]),P 52 .eql 51 1,X 53 1 4,N (.st 1 (.m 53) (.m 52))]
abbrev lT:=Rg [X 54 1 4,M 55 54,A 56 55,W 56 57 (.mov (.s 6)),W 56 58 (.nilck (.s 57)),W 56 59 (.fa 2 (.s 58)),W 56 60 (.ld none 0 (.s 59)),W 56 61 (.bin .eql (.s 60) (Q 0)),V 62 (.pick (.m 56) (.s 61) ff),Z [57,58,59,60,61]]
abbrev Qd:=[B 64 6,B 65 6,B 66 6,V 67 (.nilck (.m 66)),V 68 (.fa 0 (.m 67)),M 69 68,B 70 6,V 71 (.nilck (.m 70)),V 72 (.fa 1 (.m 71)),M 73 72,X 74 0 2,M 75 74,H 76 Cv [.m 69,.m 73,.m 75],A 63 76,E 77 63 true 0,E 78 63 false 1,E 79 63 false 2,Yd 4 7 77,V 80 (.nilck (.m 64)),V 81 (.fa 1 (.m 80)),N (.st 1 (.m 81) (.m 78)),V 82 (.nilck (.m 65)),V 83 (.fa 2 (.m 82)),N (.st 1 (.m 83) (.m 79))]
def xR:VC:=.regP (.range 24) [2,3,4,5,6,7,8,9,10,11,12,13,14,17,0,15,18,19,20,1,16,21,22,23] [] Qd
abbrev DQ:=Rg [B 84 6,V 85 (.nilck (.m 84)),V 86 (.fa 2 (.m 85)),M 87 86,P 88 .neq 87 0]
def yz:VC:=.regP (.range 7) [0,5,1,2,3,4,6] [4,5] [V 89 (.build [.nl,B_ false,O,.nl,.nl] []),A 90 6,V 91 (.nilck (.m 90)),V 92 (.fa 2 (.m 91)),M 93 92,Yd 5 4 89,A 5 93]
abbrev yo:=Rg [B 94 6,V 95 (.calli j6 [.m 94,Q 2]),X 96 2 4,N (.st 1 (.m 96) (.m 95))]
abbrev yu:=Rg [B 97 6,X 98 2 4,M 99 98,P 100 .lss 99 3,V 101 (.calli lV [.m 97,.m 100]),Z [101]]
abbrev ym:=Rg [X 102 3 7,M 103 102,V 104 (.len (.m 103)),C 105 (Q 0)]
abbrev D2:=Rg [X 139 1 2,M 140 139,C 141 (Q 0)]
abbrev DR:=Rg [B 195 6,V 196 (.calli vT [.m 195]),A 194 196,E 197 194 true 0,E 198 194 false 1,X 199 4 4,N (.st 1 (.m 199) (.m 197)),Z [194,198]]
abbrev DY:=Rg [B 200 6,V 201 (.nilck (.m 200)),V 202 (.fa 2 (.m 201)),M 203 202,P 204 .neq 203 0]
def yk:VC:=.regP (.range 7) [0,5,1,2,3,4,6] [4,5] [V 205 (.build [.nl,B_ false,O,.nl,.nl] []),A 206 6,V 207 (.nilck (.m 206)),V 208 (.fa 2 (.m 207)),M 209 208,Yd 5 4 205,A 5 209]
abbrev Fe:VC:=(.reg true [
 B 210 6,
 V 211 (.nilck (.m 210)),
 V 212 (.fa 0 (.m 211)),
 M 213 212,
 V 214 (.len (.m 213)),
 B 215 6,
 V 216 (.nilck (.m 215)),
 V 217 (.fa 1 (.m 216)),
 M 218 217,
 L 219 .sub 214 218,
 P 220 .gtr 219 7,
 A 221 220,
 U 221 222 (.mov (.s 6)),
 U 221 223 (.nilck (.s 222)),
 U 221 224 (.fa 0 (.s 223)),
 U 221 225 (.ld none 0 (.s 224)),
 U 221 226 (.mov (.s 6)),
 U 221 227 (.nilck (.s 226)),
 U 221 228 (.fa 1 (.s 227)),
 U 221 229 (.ld none 0 (.s 228)),
 U 221 230 (.slice 1 (.s 225) (some (.s 229)) none none),
 U 221 231 (.call qg [.s 230,.c (.d (.int .u8 1))]),
 V 232 (.pick (.s 221) tt (.s 231))])
abbrev Eo:=Rg [V 233 (.build [.nl,B_ false,O,.nl,.nl] []),Yd 5 4 233,C 5 (Q 8)]
abbrev Ej:=Rg [V 234 (.ld (some 5) 0 (.s 4)),Yd 5 4 234,C 5 (Q 0)]
def Yv (a0 a1 a2 a3 a4 a5 a6 a7 a8 a9 a10 a11 a12 a13 a14 a15 a16 a17 a18 a19 a20:VC):al:=aQ [a0,a1,a2,a3,a4,a5,a6,a7,a8,a9,a10,a11,a12,a13,a14,a15,a16,a17,a18,a19,a20] 0x152c70452b702deb279f79d79b79978f78d78b7896ff6fd6fb1d1c32a70004529702b9b2287001f701f185184bb4b923001e71a0561d70043ab3a9231c71a0161b701a7019704518701f185180018ab27701ff13670005ef257004474d9237002701701ab13070041e2292a012d6001c3e07c101a03801186382e96d0612b03c1900585801a102b91d0605c00000334c18c31045621b003c52d3c061c18310518313000228f4906384046688270460001828101c604c1a2e07105421b003c52d3c0661831051831300021af2f0600188613b03c28051c18410060012902003300235268325c4101a61922
def anL (a0 a1 a2 a3 a4 a5 a6 a7 a8 a9 a10 a11 a12 a13 a14 a15 a16 a17 a18 a19 a20:VC):=aF (Yv a0 a1 a2 a3 a4 a5 a6 a7 a8 a9 a10 a11 a12 a13 a14 a15 a16 a17 a18 a19 a20)
def OZ:al:=Yv uZ Ak Ac sm sE lT xR DQ yz yo yu ym fX D2 fI DR DY yk Fe Eo Ej
def an0:=cg OZ (anL uZ Ak Ac sm sE lT xR DQ yz yo yu ym fX D2 fI DR DY yk Fe Eo Ej)
def aaM:VC:=.regP (.range 16) (.range 16) [1,6] [X 41 5 9,V 42 (.ld none 2 (.m 41)),A 43 10,V 44 (.mks 1 [.m 43]),V 45 (.app 1 (.m 42) (.m 44)),X 46 6 9,V 47 (.ld none 2 (.m 46)),X 48 2 3,M 49 48,V 50 (.mkslice [.int .i64 0] (.s 49) (.s 49)),V 51 (.mks 1 [.m 50]),V 52 (.app 1 (.m 47) (.m 51)),X 53 5 9,N (.st 1 (.m 53) (.m 45)),X 54 6 9,N (.st 1 (.m 54) (.m 52))]
def acA (a0:VC):VC:=bx [a0] 0x159d18902229a01b84211cb1307043eb2d0612019c611100002018c6000182e201c512d130020264046000182e25e1c31001b2d011016001971824230040201d721884110
def acs:VC:=acA aaM
abbrev afy:=[V 23 (.ld (some 4) 0 (.s 3)),H 24 FA [.m 23],A 25 7,V 26 (.mkslice [.lst []] (.s 25) (.s 25)),V 27 (.mkslice [.int .i64 0] (Q 256) (Q 256)),V 28 (.build [O,O8,O8,O,.nl,.nl,.nl,.nl,.nl] [(1,4,.m 24),(7,1,.m 26),(8,1,.m 27)]),V 9 (.alloc [O,O8,O8,O,.nl,.nl,.nl,.nl,.nl]),Yd 9 9 28]
def acv:VC:=.regP (.range 8) (.range 8) [] afy
def alc (a0 a1:VC):al:=aQ [a0,a1] 0x152b18021b003c192d7a11a5e18310071802230171a0060200604c6000182e3581c41006b1307004d022928f002891f010180380064381fb4d0614b03c2e053a18181041d13051d91b063c192d4f000333330004040019018c410718002026304581e02101a91d061c24a03c2e0501831a04100012902003333300040400190681945c4101a1a1922
def ajQ:al:=alc acv acs
def ug:VC:=bx [] 0x15f4b493f4292ab1c021
def Xn:=aF ug
def t8:VC:=bx [] 0x103b12d62a10198611019c5d003c1068185136
def Xm:=aF t8
def I8 (a0 a1:VC):VC:=bx [a0,a1] 0x12e94b02219801a421018170738111c026282624d06c6001a84f3c03101fb1d06000181d39105831016001924633040201d724a4110
def Xc (a0 a1:VC):=aF (I8 a0 a1)
def uM:VC:=I8 ug t8
def AO:=cg uM (Xc ug t8)
def QJ (a0:VC):al:=aQ [a0] 0x1502002ef503b10381831002433071a0060200704c32c031001af112d31196860203101bc6282704604c41e06104562001b502101130022888888826404604c418031000222902001b203106421
def ae5 (a0:VC):=aF (QJ a0)
def GK:al:=QJ uM
def afc:=cg GK (ae5 uM)
def afE:al:=aQ [] 0x153180283c2d623a1c2383e22e6822c6e22a7c22818a21e1ac21c1af21a18d2187f266b245d224f201e000000000000000000000000000000000000000000000000000000003c018c42110210200002018c2e211610200002018c6000181a401c3a211610200002018c6000181a301c42110210200002018c22110210200002018c22110210200002018c6211610200002018c6000181a101c22110210200002018c18211610200002018c6000181a001c42112210200002018c2211610200002018c2d0042110210200002018c22110210200002018c382111fffe210200002418c3910040270114130026000181a201c21002200110000000000000000000000000000000000000000000000000000000003c068305c2103d511
def Av:VC:=bx [] 0x14fb1890221f801ba4214ed1d06681e046001a8600018638105861c00479001a0040023d61a044f18a01b145282000200021d03102a2c2b1d5317300221e6404600018638105861c0047a001a0046a0710039f2b01d0021026011924133040201d721884110
def QN:=aF Av
def ZO (a0:VC):al:=aQ [a0] 0x1502005ab005891d061c0041f0019004f58071002133071a0160200285c02100451a2000200021d03101d531430022ef69061c204280061c5041a00604c4480710542000200021d031018531430025d5b594f493f62929d2d0753e04872b418077604f44031a203600752a04802724071a203600600188614e03c28401f100600222902000200021a0410281e1c33
def ao0 (a0:VC):=aF (ZO a0)
def PU:al:=ZO Av
def apo:=cg PU (ao0 Av)
def lG:VC:=bx [] 0x12b93b02219805842145181901102e3831430021b1363e30460001861c10584a001a0060001861c10584a0042c0191b001bd1b01d00210160019243143040201d723a4110
def yP:=aF lG
def CM (a0:VC):al:=aQ [a0] 0x155190110023143071a0060200604c41c031004518190110312300262a304604c1a00604c4205100012918602101812
def NY (a0:VC):=aF (CM a0)
def ur:al:=CM lG
def Pj:=cg ur (NY lG)
def LD:al:=aQ [] 0x1528f1904f3e021042a21d0111d13002518246181a1b6291874c04873941a0676888271806700601a281401e4a202600026104581c01a10006181f12919b0018d1b0101a03800186387f1f061c24f03c2e16018280561819100012902001905c325c4101812
def ala:=aF LD
def tW:VC:=bx [] 0x159d1bf0226800421012922622a078615903c5d004a1ae0514df1f06000181d39105831026011924633040201d721be4110
def Je:=aF tW
def tS:VC:=bx [] 0x17bd28b0221ac004212b1802a22963c12d102a03801281e3879b29b062a384c45c03c6000182e101c7a11a01860001828001c3c001f8181c106bb1192d3333300040400192b68601a0181d3919058410460319518246330040201d7228a4110
def JV:=aF tS
abbrev JJ:=[G 28 4,X 29 0 2,M 30 29,X 31 0 3,M 32 31,V 33 (.ia 9 (.m 32) (Q 0)),V 34 (.fa 1 (.m 33)),V 35 (.ld (some 4) 0 (.m 34)),H 36 O9 [.m 28,.m 30,.m 35],A 27 36,E 37 27 true 0,E 38 27 false 1,Yd 1 4 37]
def za:VC:=.regP (.range 13) [0,1,2,3,4,5,6,7,8,9,10,12,11] [] JJ
abbrev rF:=Rg [X 80 4 3,M 81 80,V 82 (.len (.m 81)),A 10 82]
abbrev rW:=Rg [B 83 10,P 84 .gtr 83 0]
abbrev rY:=Rg [B 85 5,V 86 (.callv (.m 85) [Q 6,Q 3]),Z [86]]
abbrev rZ:=Rg [B 87 5,B 88 10,V 89 (.minmax false [.m 88,Q 15]),V 90 (.callv (.m 87) [.m 89,Q 4]),Z [90]]
abbrev si:=Rg [B 91 10,P 92 .geq 91 15]
abbrev rS:=Rg [B 93 5,A 94 10,P 95 .sub 94 14,V 96 (.callv (.m 93) [.m 95,Q 8]),Z [96]]
abbrev rG:=Rg [X 98 4 3,M 99 98,H 100 GT [.m 99],A 97 100,E 101 97 true 0,E 102 97 false 1,A 11 101,A 12 102,Z [12,97]]
abbrev rH:=Rg [V 103 (.ld none 1 (.s 4)),A 104 11,V 105 (.app 1 (.m 103) (.m 104)),Yd 1 4 105]
abbrev r9:=Rg [A 106 5,V 107 (.callv (.m 106) [Q 7,Q 3]),Z [107]]
abbrev r5:=Rg [V 108 (.ld none 2 (.s 4)),G 109 4,V 110 (.len (.m 109)),P 111 .rem 110 8,V 112 (.bin .sub (Q 8) (.m 111)),P 113 .rem 112 8,V 114 (.appz [.int .u8 0] (.m 108) (.m 113)),Yd 1 4 114]
def Qo (a0 a1 a2 a3 a4 a5 a6 a7 a8 a9 a10 a11 a12:VC):al:=aQ [a0,a1,a2,a3,a4,a5,a6,a7,a8,a9,a10,a11,a12] 0x151c701b7047182d13001a77181970042d13018718db277006705707fb24703700518024330271a0360200704c6000182e03c1c4100402433171a0160200704c615b03c6000182e301c510012942622a0786000182e201c4a38051019d6f230700026000182e101c2100129226238078615903c6000182e101c4a00610012918202260784a0031001296222260784a490310012918202260784a003101296202260784a20310025b91e90221bd11aa421006600018281281c21001a91b03c1058281ac210310681905c325c31001912
def ae4 (a0 a1 a2 a3 a4 a5 a6 a7 a8 a9 a10 a11 a12:VC):=aF (Qo a0 a1 a2 a3 a4 a5 a6 a7 a8 a9 a10 a11 a12)
def Gu:al:=Qo za tW tS rF rW rY rZ si rS rG rH r9 r5
def aeE:=cg Gu (ae4 za tW tS rF rW rY rZ si rS rG rH r9 r5)
def OD:al:=aQ [] 0x1502002bf1d063825d06c61c24d06c1f001900615e03c33a018104542001b1d021053133002246181e28629753e0480273180771d18607284031a203600752a04802724071a203600600188614e03c28001e1000222902001b1a03101e1c23
def an1:=aF OD
def WT:al:=aQ [] 0x151b1295d004f5010403800203863ffffe225f03c30071002229020002203106421
def atK:=aF WT
def IE:al:=aQ [] 0x152184f4d4b493f3d3b392b291f1b291fb501876e04875392804a4271607700401b1a1201f718022271606700401a1a1201e600187380482e2719606700401a1a0201e6000266046000181a001c2c10001291800305c310411
def agh:=aF IE
def AI:al:=aQ [] 0x141130282012d6201c607c3004102246181a5291874c04802711a067001801a72601e7407e420260060018819601a1002
def WG:=aF AI
abbrev F8:=[B 13 0,V 14 (.nilck (.m 13)),V 15 (.fa 0 (.m 14)),M 16 15,B 17 0,V 18 (.nilck (.m 17)),V 19 (.fa 1 (.m 18)),M 20 19,A 21 1,H 22 yf [.m 16,.m 20,.m 21],A 12 22,E 23 12 false 0,E 24 12 false 1,E 25 12 false 2,A 4 23,A 5 24,A 6 25]
def v6:VC:=.regP (.range 17) [0,1,2,3,4,5,6,7,8,9,10,11,14,12,15,13,16] [] F8
def Jc (a0:VC):al:=aQ [a0] 0x153bb1903b0021041b12301c012d6101c1c07c490030051020261044f002101c012d6201c1c07c580045a0510039130700450219011031230020263046000186201c607c4405100012902602101812
def XT (a0:VC):=aF (Jc a0)
def AD:al:=Jc v6
def Xb:=cg AD (XT v6)
def u7:VC:=bx [] 0x15db1a90221f8004216012d58301c61c101980012f82211019c61001858301c616012d3868105822600460001873f1058226504604c60001858301c60001858301c1b10222610422160787a0031016001922b23040201e2721a84110
def QQ:=aF u7
def G5:VC:=.regP (.range 5) (.range 5) [1,2,3] [V 18 (.ld (some 4) 0 (.s 6)),G 19 8,Yd 4 6 18,N (.st 1 (.s 7) (Q 0)),Yd 1 8 19]
def D5:VC:=.regP (.range 5) (.range 5) [1,2,3] [V 73 (.build [O8,O8,O,.nl] []),G 74 8,Yd 4 6 73,N (.st 1 (.s 7) (Q 0)),Yd 1 8 74]
def EB:VC:=.regP (.range 5) [0,2,1,3,4] [1,2] [V 85 (.ld (some 4) 0 (.s 6)),G 86 7,Yd 4 6 85,Yd 1 7 86,N (.st 1 (.s 8) (Q 0))]
def aag (a0 a1 a2 a3:VC):al:=aQ [a0,a1,a2,a3] 0x15370452826c12d025e12d05842d0300040442818c410022cd2cb2c92bf55297ed2af0753e0480273180771d24a603f5805401b282036000263047f1a01a1052702d5230026eb29d00263046c002183102606012d58301c22111ea19c0012f8316ad2d062a1e04221607879007f005106012d58201c1c2160787a58041002b23171a00602001106012d58301c2211019c0012f83106012d58201c182160787a004100241e610460001858001c31006012d58101c6101a822160787a005106012d58001c6101a842160787a3a051029d2d022160787a3803102892b05e2d6c306901ac21005e12d19402104507075333002026304690001821021822905b12d10180380064381a92f018626803c2860710000106800106830004044468345c41002901f51d33
def apq (a0 a1 a2 a3:VC):=aF (aag a0 a1 a2 a3)
def Od:al:=aag G5 u7 D5 EB
def PO:=cg Od (apq G5 u7 D5 EB)
def GC:VC:=.regP (.range 5) (.range 5) [1,2,3] [V 70 (.build [O,O8,O8,O,.nl,.nl,.nl,.nl,.nl] []),G 71 12,Yd 9 10 70,N (.st 1 (.s 11) (Q 0)),Yd 1 12 71]
def Rv (a0:VC):VC:=bx [a0] 0x16eb1fd0227c04421450701e282a3d3b1f1b7300202630419c000182100129060781d91c80310023f12d1106994b06000181d39105831016001924633040201d721fc4110
def aiB (a0:VC):=aF (Rv a0)
def kC:VC:=Rv GC
def ID:=cg kC (aiB GC)
abbrev GG:=Rg [V 19 (.alloc [O,O,O]),Yd 3 19 83,Z [13,14,82]]
def ahq (a0:VC):VC:=bx [a0] 0x107
def tj:VC:=ahq GG
abbrev G6:=Rg [V 20 (.mov (.c (.nl))),Z [20]]
def Am:VC:=.regP (.range 14) [0,1,2,3,4,5,6,7,8,11,9,12,10,13] [0,1,5] [M 85 5,G 86 11,G 87 18,X 88 0 19,M 89 88,V 90 (.calli mZ [.m 87,.m 89]),H 91 yq [.m 85,.m 86,.m 90],A 84 91,E 92 84 true 0,E 93 84 false 1,E 94 84 false 2,A 20 92,Yd 1 11 93,Yd 1 12 94]
abbrev GM:=Rg [G 95 12,P 96 .neq 95 0]
def Ab:VC:=.regP (.range 5) (.range 5) [1,2,3] [V 97 (.build [O,O8,O8,O,.nl,.nl,.nl,.nl,.nl] []),G 98 12,N (.st 9 (.m 10) (.m 97)),N (.st 1 (.m 11) (Q 0)),Yd 1 12 98]
abbrev Gy:=Rg [V 99 (.fa 8 (.m 10)),M 100 99,X 101 1 19,M 102 101,X 103 2 19,M 104 103,V 105 (.slice 1 (.m 100) (some (.m 102)) (some (.m 104)) none),A 106 20,V 107 (.cpy 1 (.m 105) (.m 106)),Z [107]]
def agt (a0 a1 a2 a3 a4:VC):VC:=bx [a0,a1,a2,a3,a4] 0x14f184704392f2305391337004f18591300198b22702d94d231700007036
def sF:VC:=agt G6 Am GM Ab Gy
def Tp:VC:=.regP (.range 5) (.range 5) [1,2,3] [V 28 (.build [O,O8,O8,O,.nl,.nl,.nl,.nl,.nl] []),G 29 12,Yd 9 10 28,N (.st 1 (.s 11) (Q 0)),Yd 1 12 29]
def IC:VC:=.regP (.range 5) (.range 5) [1,2,3] [V 39 (.build [O,O8,O8,O,.nl,.nl,.nl,.nl,.nl] []),G 40 12,Yd 9 10 39,N (.st 1 (.s 11) (Q 0)),Yd 1 12 40]
def IW:VC:=.regP (.range 5) (.range 5) [1,2,3] [V 49 (.build [O,O8,O8,O,.nl,.nl,.nl,.nl,.nl] []),G 50 12,Yd 9 10 49,N (.st 1 (.s 11) (Q 0)),Yd 1 12 50]
def GX:VC:=.regP (.range 5) (.range 5) [1,2] [V 121 (.ld (some 9) 0 (.s 10)),G 122 11,Yd 9 10 121,Yd 1 11 122,N (.st 1 (.s 12) (Q 0))]
def adW (a0 a1 a2 a3 a4 a5 a6:VC):al:=aQ [a0,a1,a2,a3,a4,a5,a6] 0x156704528219c12d0218e12d0188192d0333330004040019018c41002246181a1c1e283d1929756e0481873f2804b7018018a71189603e700401a1887201e760322714071b800201b6000263041a9106a181d1000184d181b130057471ab111c02662a3e37e06c600018188501c605018188101c5d101ec18610079b112d614d68605c033000033000033000033000033000033000033000033000033000033000033000033000068018c4106012d1881801c18882188820212c1bc0012f831002433371a0060200704c61c2a383e4c5a6818102a81bd1aa207d01ac19c18818e4a1b8507b01ac1b81be207a01ac1aa1be207901ac19c18818e4a406f01ac19c18818e4a406d01ac19c5e18e4a6b18879706c01ac19c18818e4a406b1981ac1b1004ed112d713f6819c18e4a306a1981ac31002112d02712d0010680013b68410452702b291f1b43002242291872a048027340619c00201a6006c00018610019c12d61c24a03c7a050185e004184100451702b291f1b4300202630419c0001821041c229019c12d618e12d201c038101a03800186383997d00261c32d03c19004a006181a100450702b291f1b35300202630419c00018210218229019c12d101803800643829d5b018626803c5e002a1871000010680010683333300040400190683b05c2d05c1f25c3185c71003902f1a2d35
def arU (a0 a1 a2 a3 a4 a5 a6:VC):=aF (adW a0 a1 a2 a3 a4 a5 a6)
def Sf:al:=adW Tp IC IW kC tj sF GX
def F7:=cg Sf (arU Tp IC IW kC tj sF GX)
def dw:VC:=bx [] 0x13f97902219e019c4213eb5063e10198611019c6101a8282623d06c4001f7e0714502001b502101c1e51430020263046000186201c607c40051004603192423040201d72784110
def qS:=aF dw
def DM (a0:VC):al:=aQ [a0] 0x15019012962a23c06c1e261042e0031a8051048d7062623d06c43a0310223071a03602003b5c0210042bf1903c26004490031012962a23c06c0264044a0043e05101fb1b0282623d06c40031019130023e261043c002100012962a23c06c0264043c00428051019b190182623d06c42031021941197130027f2b01c21c1242100160260062e1801105d7062623d06c4403100012902001b203106421
def Q3 (a0:VC):=aF (DM a0)
def vU:al:=DM dw
def lN:=cg vU (Q3 dw)
def qd:al:=aQ [] 0x156b19002660461c218a03c1900300510012918602101812
def yN:=aF qd
def Iz:al:=aQ [] 0x150219011045282190110022461c1e282a383a3c4a4c4e1b71f297538048706018b7118b403f2e05201b600753e04871d418074a603700401b2e2201f60075380480272607700401b2e2201f600753804821e74607700401b2e1201f60061e64046000182e03a1c3910041d13051d91904f002101b7230020263045828021001f1291af001a91b0101e038001c1a3819b1f063826803c41e61046000182e001c3601b10012902001945c3101812
def agy:=aF Iz
def Ee:al:=aQ [] 0x1502002250210450200282502100218d29041e61046000181901a1c41052820002502103130025d1906001886118c03c1a052184100600222902000200305c4106421
def abu:=aF Ee
def Mo:al:=aQ [] 0x1502842d19150182106012d1a301c6118d03c0012f86000181a301c51030004044068305c2105511
def ale:=aF Mo
def Mk:al:=aQ [] 0x15491901f1c2018e01ac21001292f001905c325c4101812
def VN:=aF Mk
def JK:al:=aQ [] 0x151f1d13296b501872a0487e27194064202600026604400181001291820210411
def ahL:=aF JK
def OL:al:=aQ [] 0x15418518002001df190604c61c23803c2e1601828152a18610045282000219021071851800021af2d060018861c218f03c2e0601828051a1851054200021902106185180002791d0600188613b03c280521841006002229020002001905c325c5101a1822
def PE:=aF OL
def Dm:al:=aQ [] 0x101b22961f12d101b038011a1838791b061c2a33903c190030028001a1819103
def aaH:=aF Dm
def Ta:al:=aQ [] 0x15025011045225011002300110001290220210411
def aq4:=aF Ta
def zV:VC:=bx [] 0x14ed2d02260047f1cd03101292202260787a003101292222260787a00310261c1041a90018d1cc03101ef022968b005fd3b0101a03800186385ef1ef061c219903c188004a051be1819101d902295bf005b92f0101c038001a18385ab1d9062a219903c226504188004a056181a101600192d2b1b33040228262041881be02100
def Qv:=aF zV
def YX (a0:VC):al:=aQ [a0] 0x1502006eb1d02d101fa18310021a33071a006222d011000129182622a0786000184a201c7a198051045020048d1d02d100183100129220226078790031001291c2622a07860001849201c7a005100241e63046000184a001c310001292262380786001a86000184a101c7a0061001294262380786001a86000184a001c7a0061001292202260787a3803102892b02e101983a1ac21042913051fb001b1d06b003101b7230020263046c2a02101d929061c24a03c4a05018191e041000222902001b001f25c345c5101e1c23
def apg (a0:VC):=aF (YX a0)
def Oj:al:=YX zV
def apF:=cg Oj (apg zV)
def kQ:VC:=bx [] 0x128f2f02218a0042141cd01cc21020262042e3e02101df7062a004604c49002d2a05101af1b06000181d39105831016001924633040201d722e4110
def oT:=aF kQ
def iU:VC:=bx [] 0x139f6f0225a06e4213991d061c101986b004f5c0412ef2906000181d39105831036021924633040201d726e4110
def gb:=aF iU
def BI (a0 a1:VC):al:=aQ [a0,a1] 0x153ad504f1e021002433171a0260200704c34c031002ab1d061b219a06c2d2e031002433071a0060200704c41a03100020011001291b20210411
def MN (a0 a1:VC):=aF (BI a0 a1)
def sO:al:=BI kQ iU
def Bc:=cg sO (MN kQ iU)
def w7:VC:=bx [] 0x12dd1229189d132d0000003386831
def Ss:=aF w7
def Ho:VC:=.regP [0,1,2,4,5,6,7,8,9,10,3,11,12,13,14,15,16] [0,1,2,3,4,5,6,7,8,9,10,11,12,13,15,14,16] [3,5,7,9,10] [G 89 11,X 90 0 13,M 91 90,V 92 (.calli mZ [.m 89,.m 91]),X 93 8 6,M 94 93,X 95 1 13,M 96 95,X 97 2 13,M 98 97,V 99 (.slice 1 (.m 94) (some (.m 96)) (some (.m 98)) none),H 100 H1 [.c (.nl),.m 92,.m 99],A 88 100,E 101 88 true 0,E 102 88 false 1,A 14 101,A 15 102]
def RH (a0:VC):VC:=bx [a0] 0x139129019c12d61c101981af0019c1039c18513b182e93f2f1d430070016
def ah8 (a0:VC):=aF (RH a0)
def xG:VC:=RH Ho
def S8:=cg xG (ah8 Ho)
abbrev SN:=[A 63 0,V 64 (.mks 1 [.c (.d (.int .u8 0)),.c (.d (.int .u8 1))]),V 65 (.app 1 (.m 63) (.m 64)),X 66 1 6,V 67 (.ld (some 4) 0 (.m 66)),X 68 7 6,M 69 68,H 70 GA [.m 65,.m 67,.m 69],A 62 70,E 71 62 true 0,E 72 62 false 1,A 0 71]
def Ha:VC:=.regP (.range 12) [0,1,2,3,4,5,6,7,8,9,11,10] [] SN
def adU (a0 a1 a2:VC):al:=aQ [a0,a1,a2] 0x15391802001a9b29061c1019819c1001834e051000182f181d180027171af111c00662a3e37e06c60001858501c60501858101c1929806100310681107cb112d612f68605c0330000330000330000330000330000330000330000330000330000330000330000330000682bc18c4107af1061c1019801e01e01e31019c32ae04178d1061c1019801e11019c32e0412a91fd230700026118903c6000185871ec1c31001ed1c92295b910102c038012a28385ab1c9062a3e5a419d03c60001858601c60001858501c60001858001c31c801d101bf19f2294af101028038011e1c384a919f062a3e319c03c60001858501c60501858101c319e01b10419d7f2293c910101e038011c1a383bb7f062a3835a03c60501858101c1a003201a1026001882d7802100795d2292cd10101c038011a18382bf5d028262a33903c60001858001c33a0191042d1305289001b2907f003101d187313300020263046f2802101df2d061c219b03c5801a0181a1c041000222902001b201f1a5c4102a2824
def apP (a0 a1 a2:VC):=aF (adU a0 a1 a2)
def RB:al:=adU Ha w7 xG
def aei:=cg RB (apP Ha w7 xG)
def jv:VC:=bx [] 0x15d18011
def Gm:=aF jv
def jy:VC:=bx [] 0x101f12d62a10198611019c380028101e185116
def FZ:=aF jy
def w9 (a0 a1:VC):al:=aQ [a0,a1] 0x1519b1901f101a1821001317077101c0061920110001291b20325c3101812
def I0 (a0 a1:VC):=aF (w9 a0 a1)
def pw:al:=w9 jv jy
def Jy:=cg pw (I0 jv jy)
def tX:al:=aQ [] 0x1128411
def OV:=aF tX
def Af:VC:=bx [] 0x12ef5b0226e004210129611c07879005e5a0414528200021902101a1c1e2b1f1d6300221e64047a3e021002ab2b06000181d3910583101600192461f43040201d725a4110
def QF:=aF Af
def Ya (a0:VC):al:=aQ [a0] 0x15020038b1906001a84f102a184100241f43071a0060200704c192e031001df1f058101a82e1ac2101d9112d01c11d686501a832c041045420002190210312300224229752a0483ffffe27440742036000262044180710002229020002603101a1822
def aoS (a0:VC):=aF (Ya a0)
def PR:al:=Ya Af
def aoG:=cg PR (aoS Af)
def Ml:al:=aQ [] 0x151df001d91905d000262101e8226504604c4f1c0710291291a90019b1d0101a038011863818d29061c21a903c1900360191002229020002603101a1822
def ajU:=aF Ml
def JL:al:=aQ [] 0x1544531430291291bd1912d1af1c12d1a91b0201e038101c038001a183819b29061c2a32d03c3002e000181f002181c14130020261041a000182100021801101a14
def ajm:=aF JL
def LO:al:=aQ [] 0x15191297f612d791912d6b702019038101903800186385d1902261c32d03c1a000183002181b1001290240210613
def ajR:=aF LO
def L3:al:=aQ [] 0x11912962d12d1c1912d2a012d1f001c2019038101903800186385d19028261c32d03c1a0001830018181c104
def akp:=aF L3
def L7:al:=aQ [] 0x141d1b19735302812964f12d1c3b12d2a042d19101c201e038101c038011a18381cb39061c2a33e03c49000183c000182d002181d1026001881f000182106042d1a101c614c03c3051c1841007
def Wp:=aF L7
def LZ:al:=aQ [] 0x11912962d12d1c1912d2a012d1f501c2019038101903801191a387919062a3836e03c60501828101c1a0001830018181e104
def ajJ:=aF LZ
def Aj:VC:=bx [] 0x16012d1aa101c61c0041b8006000181aa11fa1c61452820002001b1d03103b181ab1a93d392f2d2b1f1d1b11b3000261c40419c0061c0041b8006000181aa12ba1c61040130518890002001b1d06b004103b181ab1a93d392f2d2b1f1d1b11b300020263046c2ac02102af1297df007d91f07cb3d0201e038101c038001a18387bd2af061c2a32d03c7a005d0041c01c10056041940261c104188001af28c03100
def QH:=aF Aj
def Qy (a0:VC):VC:=bx [a0] 0x13b1819dd2f062a20198612019c1aa1301818d2de051019ad39062a5046000181aa101c19b2de0510452820002001b1d03103b181ab1a9392f2d2b1f1d1b11a3000260018861c21ab03c19c001aa032ba184100013071a04669f3d01881ea02100452820002001b1d03103b18686a392f2d2b1f1d1b11a30002246329187380483a273606700401a1aa0201e6002e264046000181aa01ca1c191004013055b90002001b1d06b004103b183e48392f2d2b1f1d1b11a300020263046c1bc02101bf129589004fb1f02a012d1aa001c201c038101a03800186384df1bf018261c32d03c5d00418c01c100000023b68110362193913040202640419c1b802100
def aeK (a0:VC):=aF (Qy a0)
def uU:VC:=Qy Aj
def GQ:=cg uU (aeK Aj)
def QK (a0:VC):VC:=bx [a0] 0x11a9b1ab0223f9039a4211a8d1d062a10198611019c18d004f2ee051013071a02649b3906000184a27e1c31001b2f0110160019242d2b1b163040201d721aa4110
def afu (a0:VC):=aF (QK a0)
def ve:VC:=QK uU
def Qt:=cg ve (afu uU)
def aab (a0:VC):al:=aQ [a0] 0x1502001aaf001aa91d05d004f28e0510022d2b1b163071a0060200604c6000184a36e1c410018b1293c9003bb2b010180380064383ad18b0611aa03c4a056a18181040130538b0002001b1d06b004101f1d1b1430020263046c5a02106f5f2292e9002db1f0201c038101a03800186382bf5f00261c32d03c190043e01a10040130528f0002001b1d06b004101d1b31430020263046c2e02104d3f2291ed29010180380064381d93f0614b03c4a051e18710002229020002001b001f185c510281e1c33
def ao8 (a0:VC):=aF (aab a0)
def PJ:al:=aab ve
def apl:=cg PJ (ao8 ve)
def Lr:al:=aQ [] 0x11912962d12d1c1912d2a012d1f601c2019038101903801191e3818d19062a3e4947803c60001828501c60001828001c1a00018300181828104
def ajP:=aF Lr
def yE:VC:=bx [] 0x11af1ad19b19918f52949b3e021
def je:=aF yE
def Cy:VC:=.regP (.range 4) (.range 4) [0,1,2] [G 96 10,N (.st 1 (.m 8) (.c (.nl))),N (.st 1 (.m 9) (Q 0)),Yd 1 10 96]
def MH (a0:VC):VC:=bx [a0] 0x13d12901b812d62a10198611019c1d9001b8100186142d2b2933052827f12d027912d1b6b12d3104b3d23002246181a492f7291874c048701a018a71d2b31af1806e1da6021cc40218e00201a6000264041cc201a100452d1307004b493d2f43002026304188002b818210041913018e94b063e0046000186001c607c18e000181d929c0712cb19229189d5b12d188f6912d18894b0201c038101a03800186387fb2cb061c21ae03c7a000183c006181b104b130027cb2bd00264041cc1fa03107a94b063e0046000186101c607c18e000181d91dc07128b192296dd5b12d6cf6912d6c94b0201c038101a03800186386bb28b061c21ae03c7a000183c006181b104b1300268b1fd03a261041cc1ba03101df192295e95b12d5db6912d5cd4b0201c038101a03800186385bf1df02a261c32d03c7a000183c002c181b14b130021db1d91cf1cd1cb52958f1bb01874c04802721a067001801a71601e7407e18e00201a6003a261041cc7801b104600248011036
def ab6 (a0:VC):=aF (MH a0)
def xT:VC:=MH Cy
def jl:=cg xT (ab6 Cy)
def Mv (a0 a1:VC):VC:=bx [a0,a1] 0x11adf19b0223c9004213d1806c12d62a10198611019c1b8100186c1028e1851001817075c5b211c026611ad06c1a96c02100310681103eb3b06000181d3910583101600192f1819182463300040201d7219a4110
def abO (a0 a1:VC):=aF (Mv a0 a1)
def lX:VC:=Mv yE xT
def Ec:=cg lX (abO yE xT)
def ED:VC:=.regP (.range 4) (.range 4) [0,1,2] [G 31 10,N (.st 1 (.s 8) (.c (.nl))),N (.st 1 (.s 9) (Q 0)),Yd 1 10 31]
def Do:VC:=.regP (.range 5) (.range 5) [1,2] [G 115 8,G 116 9,Yd 1 8 115,Yd 1 9 116,N (.st 1 (.s 10) (Q 0))]
def VA (a0 a1 a2:VC):al:=aQ [a0,a1,a2] 0x152702f1819180243300171a0060200704c2d5e0310039f112d612f68605c1211610200002018c1f20510450701918752300020263041880001821041c229018812d67a12d201c038101a03800186382b95d00261c32d03c19003c002181a1004528218812d027a12d1b6c12d310191875333000260018861c21ac03c2e00281e0410000106800106831668365c41002d02b02934
def aky (a0 a1 a2:VC):=aF (VA a0 a1 a2)
def Lu:al:=VA ED lX Do
def aj5:=cg Lu (aky ED lX Do)
def LF:al:=aQ [] 0x101912d060783002183102
def ald:=aF LF
def Lv:al:=aQ [] 0x101912d060783002183102
def ajY:=aF Lv
abbrev M6:=Rg [A 25 5,V 26 (.mkslice [.lst []] (.s 25) (.s 25)),V 27 (.fa 7 (.m 3)),N (.st 1 (.m 27) (.m 26)),Z [25]]
def VB (a0:VC):al:=aQ [a0] 0x1074f02292ab0029d1b0101a038001863828f4f0614b03c6050182e121c19104195333052a12963b12d1c1f12d2a012d2d701c2028038101e038011c1a381af2b062a3837c03c6050182e101c280001819002181e10022261043001c18210005
def akh (a0:VC):=aF (VB a0)
def L8:al:=VB M6
def Vx:=cg L8 (akh M6)
abbrev Iq:=[X 86 4 16,V 87 (.ld none 2 (.m 86)),B 88 19,B 89 19,B 90 18,P 91 .sub 90 1,L 92 .shr 89 91,B 93 18,L 94 .shl 92 93,L 95 .sub 88 94,V 96 (.mks 1 [.m 95]),V 97 (.app 1 (.m 87) (.m 96)),X 98 4 16,N (.st 1 (.m 98) (.m 97))]
def yV:VC:=.regP (.range 14) (.range 14) [] Iq
def Jj (a0:VC):VC:=bx [a0] 0x119ad2cb0221dc02be42101307018894f0611c0781e800188004105604192423040201d722ca4110
def WN (a0:VC):=aF (Jj a0)
def uv:VC:=Jj yV
def IA:=cg uv (WN yV)
def yZ:VC:=.regP [0,1,2,3,5,6,7,4,8,9,10,11] (.range 12) [4,7] [B 49 15,B 50 10,V 51 (.iarr 5 1 (.s 11) (Q 1)),M 52 51,V 53 (.callv (.m 50) [.m 52]),B 54 10,V 55 (.iarr 5 1 (.s 11) (Q 2)),M 56 55,V 57 (.callv (.m 54) [.m 56]),V 58 (.build [O,O,B_ false,B_ false,.nl] [(3,1,.m 49),(0,1,.m 53),(1,1,.m 57)]),V 16 (.alloc [O,O,B_ false,B_ false,.nl]),Yd 5 16 58]
def I7 (a0 a1:VC):VC:=bx [a0,a1] 0x11afb1bf0224bd039c42149181aed3b062a50198615019c1cc160181a938e051043bd3bb3b93af3ad3ab3a939f39d4d4b1b291abd390757c0481874d2a04b72b21bb1a03e227518061e8602700401a1cc4201e760302714071da20360019b4c01e10223171a04602006000181cc11f81c31007af4d061c5041da00611ba03c1be1ea05106ff4b02216078188003106012d1cc201c226104221607818800510020264046000181cc11ee1c3100452826c12d025e12d1b1d031049182f184c4e1881893f3b392d1d19300002242291872a04802714066c00201a60038264046000181cc12c1c18100070360219243f33040201d721be4110
def Xj (a0 a1:VC):=aF (I7 a0 a1)
def ja:VC:=I7 yZ uv
def uA:=cg ja (Xj yZ uv)
def IX (a0:VC):VC:=bx [a0] 0x11bb918b02239903cc4211bab1d062a10198611019c1a9004f29a051023f33071a02602001af7c021001b91af1ad3294a93f01873804822716062217407a1882026000264041b868019103cf3d0612a0786000180218e1501b81885a05101b3b01101600192f18242d330040201d7218a4110
def XF (a0:VC):=aF (IX a0)
def ma:VC:=IX ja
def AY:=cg ma (XF ja)
def Kd:VC:=.regP (.range 4) (.range 4) [0,2] [G 27 8,V 6 (.mov (.c (.nl))),N (.st 1 (.s 7) (Q 0)),Yd 1 8 27]
def yW:VC:=.regP (.range 4) (.range 4) [0,2] [G 125 8,V 6 (.mov (.c (.nl))),N (.st 1 (.s 7) (Q 0)),Yd 1 8 125]
abbrev IH:=[A 128 6,G 129 7,A 6 128,Yd 1 7 129,N (.st 1 (.s 8) (Q 0))]
def zn:VC:=.regP (.range 5) [0,2,1,3,4] [] IH
def Qf (a0 a1 a2 a3:VC):al:=aQ [a0,a1,a2,a3] 0x15370452826c12d025e12d1b1d03101d130021bfd3fd019b1802105270391d230021bdb3ed00263046c002ea183106602f18022d330171a0060200794e0210018001101b182fd152d000000000052f68611b903c4a154e1841002e92d05e2d6c301b801ac21005e12d1920210450701b182b1d734300020263046c003e182100591292ab712d29d2b0101803800643828f590614b03c4a05381818100010680010681b001f25c345c51002901f1c33
def afx (a0 a1 a2 a3:VC):=aF (Qf a0 a1 a2 a3)
def Gv:al:=Qf Kd ma yW zn
def ae2:=cg Gv (afx Kd ma yW zn)
def Em:VC:=.regP (.range 5) (.range 5) [0,2] [G 2 0,M 3 1,V 4 (.callv (.m 3) []),L 5 .or 2 4,Yd 1 0 5]
def Vn (a0:VC):al:=aQ [a0] 0x101307002
def ako (a0:VC):=aF (Vn a0)
def LX:al:=Vn Em
def alu:=cg LX (ako Em)
def Jk:al:=aQ [] 0x151d91d05d3b49301bc281ac2102b02291cb001bd112d311f68101e038011c1a381af2b063821a903c41e61046000183c001c3601c1001292f001f05c1965c4101c13
def aja:=aF Jk
def vd:VC:=bx [] 0x16991db022198004214391306012d2a38105822621ca06c1880019b0018e0061020263041a91b802105b90059d3906000182b3f10581d0051016001924633040201d721da4110
def Qb:=aF vd
def vp:VC:=bx [] 0x1199f2990222ec0042143d1306012d4c5a105861018860001861c10581af0058001b80058001910222610460001861c10581b80018e0051046012d2a381058611cb06c188001b80058006102243f3291872a048482714061be2026002e261046000184a01ea1c181006eb006cf3d06000182b3f10581d005103602191b182462f430040201d722984110
def Qp:=aF vp
abbrev GD:=Rg [A 44 0,A 45 7,V 46 (.build [.nl,O,O] [(0,1,.m 44),(1,1,.m 45)]),V 47 (.box (.m 46)),A 10 47]
abbrev EW:=Rg [B 48 6,V 49 (.len (.m 48)),⟨some 50,none,.mkslice [.int .i64 0] (.s 49) (.s 49),[(0,0)]⟩,A 11 50,Z [49]]
abbrev EV:=Rg [B 51 6,V 52 (.len (.s 51)),C 53 (Q 0)]
abbrev EK:=Rg [B 66 6,V 67 (.len (.s 66)),C 68 (Q 0)]
abbrev E3:=Rg [B 99 10,V 100 (.nilck (.m 99)),V 101 (.fa 2 (.m 100)),M 102 101,P 103 .neq 102 0]
abbrev QB:=[A 104 10,V 105 (.nilck (.m 104)),V 106 (.fa 2 (.m 105)),M 107 106,V 6 (.mov (.c (.nl))),C 7 (Q 0),A 8 107]
def yn:VC:=.regP (.range 7) [4,5,0,1,2,3,6] [] QB
abbrev Qc:=[A 108 6,A 109 10,V 110 (.nilck (.m 109)),V 111 (.fa 1 (.m 110)),M 112 111,A 6 108,A 7 112,C 8 (Q 0)]
def yr:VC:=.regP (.range 8) [0,5,1,2,3,4,6,7] [] Qc
def YK (a0 a1 a2 a3 a4 a5 a6 a7 a8:VC):al:=aQ [a0,a1,a2,a3,a4,a5,a6,a7,a8] 0x15187045770413019dd2670061829928f28d2f430571a02647001db1d91cf33371a006270017007045020048d003ff1d05d004f005101b181130002611c903c6000184a01881c310019d1892293c91d0101c038011a18383bb189061c21c803c0012f879006000184a0681c19104013052fd0002001b1d06b004101b182b1f13300020263046c58021005b1292db002cd1f02bf2b0201e038101c038001a18382b95b061c2a31bf03c19004004a053a181c10456181fb0002001b1d0611be03c4a15018510031230022e264046000184a01e1c3100024329020002001b001f185c510281e1c33
def ao3 (a0 a1 a2 a3 a4 a5 a6 a7 a8:VC):=aF (YK a0 a1 a2 a3 a4 a5 a6 a7 a8)
def PS:al:=YK GD EW EV vd EK vp E3 yn yr
def aoK:=cg PS (ao3 GD EW EV vd EK vp E3 yn yr)
abbrev HI:=[B 13 0,B 14 1,B 15 1,H 16 HY [.m 15],A 12 16,E 17 12 true 0,E 18 12 false 1,V 19 (.nilck (.m 13)),V 20 (.iarr 12 4 (.m 19) (.m 14)),N (.st 4 (.m 20) (.m 17))]
def xH:VC:=.regP (.range 10) [0,1,2,3,4,5,7,8,9,6] [] HI
def Kg (a0:VC):al:=aQ [a0] 0x1503c42d6050181c641c01b81c07c190032a061044d3923070020261046000186001c1c641c01b81c07c1a004007100330000466811051912
def aan (a0:VC):=aF (Kg a0)
def Cw:al:=Kg xH
def ZK:=cg Cw (aan xH)
def Fc:al:=aQ [] 0x153b501ce7e621cd06c30031001291820210411
def ace:=aF Fc
def js:VC:=bx [] 0x11df290226b03a42141b13051d91904900210281f314300263e10460001861c10584a004001a1a06107f1b01d00210160019243143040201d72284110
def yG:=aF js
def Ce (a0:VC):al:=aQ [a0] 0x1512190110023143071a0060200604c4203100012902602101812
def OS (a0:VC):=aF (Ce a0)
def ui:al:=Ce js
def CG:=cg ui (OS js)
def rJ:VC:=bx [] 0x12e94902219e06a4212db7061c00449002d5e0414518501102a2c2e1b736300224229752a048282744074a2036002262044a3c071001ed1b06000181d39105831016001924633040201d72484110
def HC:=aF rJ
def MP (a0:VC):al:=aQ [a0] 0x1519918f18d18b25293c9501873e04828271918067604e700401a1a3201e60028261042d3a01a1002433071a0060200704c6000181a32a1c410002001104519b5061c21cf03c2211019c60001819301c5100241e63046000181a061c310001291800305c310411
def abM (a0:VC):=aF (MP a0)
def E5:al:=MP rJ
def aa9:=cg E5 (abM rJ)
def LI:al:=aQ [] 0x15495002610462e224a03c191501841001291800305c310411
def akY:=aF LI
def vZ:al:=aQ [] 0x1128411
def QY:=aF vZ
def uu:VC:=bx [] 0x17f1902265043b2b03145195133002600188614c0786101a82261c0461c18043c002800018440181016001918513304020266042b1c02100
def Jh:=aF uu
def Qw (a0:VC):al:=aQ [a0] 0x104133071a0064f1902265041900181831003
def aeY (a0:VC):=aF (Qw a0)
def GY:al:=Qw uu
def aeS:=cg GY (aeY uu)
def Mf:al:=aQ [] 0x152182d92cf2cd2cb2c91b62918891901874c048701a018a71d21db1806e4a101dc601ae700401a2e3201e600638104604c6000184a301c604c6000182e328e1c28100452186dd190026104604c6000182e361c51001b130026ad28902263046000182e21f81c4105181901107181b1300021fd1fb1f91ef1ed1eb1e91df1dd1935fd1cd0756f0487028018b74d21da1e03f7051c01b711a01f227191805b700601b2e0401f4a05201b6002261046000181f11bc1c1e1b0052181c91bf1bd1bb4294d91901873e048027118067604e700401a2e3201e6000261046000182e261c1b1001b5230023eb19b06001886000182e11881c4100603bb142d300040441b686050186101c026190586000182e06e1c7104518190110718513000261c21d806c28101d901ac6000182e05e1c4100451819011071851300022461c1e282e383a3b1a2975380484274607700401b2e2201f60075380480272607700401b2e2201f600753e04818ba27418077604f700401b2e4201f60062a30460001828101c604c6000182b021c2f100012918001905c325c4101812
def akg:=aF Mf
def JA:al:=aQ [] 0x101b22961f12d101b038011a1838791b061c2a33903c190030028001a1819103
def agI:=aF JA
def wh:VC:=bx [] 0x139f2902260046b5e0313f92b064c50460001861c10586c0060001828301c79401811600192b523040264c60460001861c10586c0060001828301c7a6a07100
def Za:=aF wh
def Rt (a0:VC):al:=aQ [a0] 0x1502003ff1906b18803100523071a0062b92b019480210002401104542000219021053230022461d429753804871d6607584031a2036000262041a3801810041f13051d900021905d003101d53330020263045e1e021002d1291af001a91d0101803800643819b2d0614b03c28051a1818100222902000220325c4101a1822
def ais (a0:VC):=aF (Rt a0)
def JC:al:=Rt wh
def agi:=cg JC (ais wh)
def vP:al:=aQ [] 0x152bf19036a0210431302b91006102a101c8604c30061c01028c0012f8190006102a101c8602bc4004001a1020264041a3a02101af3064c50462a504604c400602bc40019001810041cd01cc21020262041a00210001291b602101812
def DK:=aF vP
def kR:VC:=bx [] 0x13c97d0225a0188421452821901101c1e283300260018806078796803103992b06000181d39105831016001924633040201d727c4110
def Lc:=aF kR
def SV (a0:VC):al:=aQ [a0] 0x150219011002433071a0060200704c61c2a383e5102a84f2d1f301ec01ac582e201ea01ac2e101e801ac2e101de01ac2e101dd3e1ac181004b022928f00289112d0011d68101a03800186381fb4b0614b03c6050182e13a1c1a1041b13051cb190490021075230020263044a2802101a91b062a24a03c6050182e101c28001a185100012902001905c325c4101812
def ahv (a0:VC):=aF (SV a0)
def IV:al:=SV kR
def Iy:=cg IV (ahv kR)
def Ax:VC:=bx [] 0x11dd1a919f19d18d18b1891a182959d3c021
def aeM:=aF Ax
def Ag:VC:=bx [] 0x101c22962d12d101c038011a18385db1e9061c2a33903c79000181bd002e001e81819156
def aeA:=aF Ag
def QC (a0 a1:VC):VC:=bx [a0,a1] 0x15fd1a902229a02842101817076f111c0463d1861c21ef06c188006000181b8101c410001c22962e12d101c038011a18384cb1b9018262a33903c6000181b8001c2e007c18191048d122d000023d686030181d39205841036021924633040201d721a84110
def afK (a0 a1:VC):=aF (QC a0 a1)
def uT:VC:=QC Ax Ag
def Qj:=cg uT (afK Ax Ag)
def Qe (a0:VC):VC:=bx [a0] 0x168b18d0222ec05e42102433071a0260200704c19b6a03103c93906000181d3910583101600192462d2b53040201d7218c4110
def aeX (a0:VC):=aF (Qe a0)
def Ap:VC:=Qe uT
def QO:=cg Ap (aeX uT)
def aaO (a0:VC):al:=aQ [a0] 0x1502006991d02d107c183100242d2b53071a0060200704c1f00310001822962e12d10180380164382e96f00202633903c2e004a187105d1292bf002b9112d0012b6810180380064382ab5d0611aa03c3b153e1819104291305289001b1d06b003101975330020263046c2c02101df29061c21ee03c28003c05281841000222902001b201905c345c5101e1c23
def anI (a0:VC):=aF (aaO a0)
def P3:al:=aaO Ap
def an9:=cg P3 (anI Ap)
def xW:VC:=bx [] 0x13ff00111a918d18b1894293f93a0210
def xZ:=aF xW
abbrev NG:=[G 84 4,B 85 16,G 86 11,V 87 (.nilck (.m 86)),V 88 (.fa 1 (.m 87)),M 89 88,L 90 .sub 85 89,H 91 Fy [.m 84,.m 90],A 83 91,E 92 83 true 0,E 93 83 false 1,Yd 1 4 92]
def De:VC:=.regP (.range 12) [0,1,2,3,4,5,6,7,8,9,11,10] [] NG
abbrev NI:=[G 51 4,B 52 16,G 53 11,V 54 (.nilck (.m 53)),V 55 (.fa 0 (.m 54)),M 56 55,L 57 .sub 52 56,H 58 Fy [.m 51,.m 57],A 50 58,E 59 50 true 0,E 60 50 false 1,Yd 1 4 59]
def Ch:VC:=.regP (.range 12) [0,1,2,3,4,5,6,7,8,9,11,10] [] NI
def MX (a0 a1:VC):VC:=bx [a0,a1] 0x102f22961c2a31af06c1cb001bd0018e003a1851587c19331702fb2cf1933070027df2c903a261041be2031001a1932963c12d101a03801186387a92ad02a261c33903c1cc003c002c18181022a929f29d29b2995296f928901874c04802721a067001801a71601e7407e18e00201a6003a261041be601b10319493f2f19430025fd1fb00261041be1ba0310460181f2294d949060001861c10581af0060001861c105819c000185e001ac18191036
def acl (a0 a1:VC):=aF (MX a0 a1)
def xP:VC:=MX De Ch
def xM:=cg xP (acl De Ch)
def Mr (a0 a1:VC):VC:=bx [a0,a1] 0x1199f18d02239f01ea4210183918017075a59211c026611ad06c1a96a02103cf003bb112d00139686000182b3f10581d006101600192f181f182463300040201d7218c4110
def acG (a0 a1:VC):=aF (Mr a0 a1)
def yc:VC:=Mr xW xP
def NT:=cg yc (acG xW xP)
def Vp (a0:VC):al:=aQ [a0] 0x151918020019ad2903c102881831002f181f180243300071a0060200704c1f58031002fd112d612f68605c1211610200002018c190051001822963c12d10180380164382bf6900202633903c3c003e1871042d130529d001b2907f003101f1819185323000020263041882c02101fb2d061c2a31f803c5e0001828001a1e051000222902001b002d45c365c5102a2824
def alp (a0:VC):=aF (Vp a0)
def LJ:al:=Vp yc
def alo:=cg LJ (alp yc)
def uD:VC:=bx [] 0x119eb2fb02218a00421012963e24c07862a504611fc03c1cc001be001df007a2bc0181198b4d06000181d391058310560419246493f53040201d722fa4110
def IK:=aF uD
def I2 (a0:VC):VC:=bx [a0] 0x119f91dd0224ea02e421024493f53071a0463d180200704c6000181b8401c4100012922622a078611fc03c1cc007a005100129226238078611fc03c6000181b8201c7a28806107cb49062a21bb03c2265041be006000181b841f81c61078d3f0611ba03c6000181b8301c41043193d180020261046000181b8101c3100012962a23e078600018421881501b86000181b8101c7a00710012962a23e078600018221881501b86000181b8001c7a1ae07105b9152d322000053d686060181d39505841036021924633040201d721dc4110
def Xi (a0:VC):=aF (I2 a0)
def pt:VC:=I2 uD
def JZ:=cg pt (Xi uD)
def I5 (a0:VC):VC:=bx [a0] 0x119ff18902238b01ce42102433071a0260200704c19b003104012922624c078611fc03c6000186301c026505819c007a0018102026404604c19c003100012962a23e078600018021881501b8604c19c007a5e07103ad3906000181d3910583101600192d182462b430040201d721884110
def Xu (a0:VC):=aF (I5 a0)
def uF:VC:=I5 pt
def AX:=cg uF (Xu pt)
def Qi (a0:VC):al:=aQ [a0] 0x1502001a8d1d02d102ac183102d180242b430071a0060200704c1f4e0310019182e9152d000000000052d68611b903c3c154c1841002cd2b02e101fb01ac21002e12d615e03c2e004a1831042913052ab001b1d06b003101918752300020263046c3a021028929061c21fa03c28003c052e1841000222902001b201905c345c5101e1c23
def afb (a0:VC):=aF (Qi a0)
def GP:al:=Qi uF
def afs:=cg GP (afb uF)
abbrev QE:=[A 103 17,V 104 (.mks 1 [.c (.d (.int .u8 0))]),V 105 (.app 1 (.m 103) (.m 104)),A 106 20,B 107 21,P 108 .add 107 4,V 109 (.bin .shl (Q 1) (.m 108)),P 110 .sub 109 1,L 111 .and 106 110,B 112 21,P 113 .add 112 4,H 114 yx [.m 105,.m 111,.m 113],A 102 114,E 115 102 true 0,E 116 102 false 1,A 17 115]
def EY:VC:=.regP (.range 16) [0,1,2,3,4,5,6,7,8,9,10,11,12,13,15,14] [] QE
def QU (a0:VC):VC:=bx [a0] 0x11bb929f0224dc03aa4211bab3f062a10198611019c1fb001bd388051448240113d939d5b33070019c94b06381019861c228b03c28a0021e11019c1d92ae0610198b5b01a265046128a03c6201a81fc0051002242291872a048482764061fc2026002e261046000183c029a1c1810044f130188949064c10198611019c6101a81fe3d618046201a81ed001cb00181020263041ee1e80210079b5906128903c1ee1de03106ff4f06000181d39105831016001924633040201d7229e4110
def afo (a0:VC):=aF (QU a0)
def Al:VC:=QU EY
def GZ:=cg Al (afo EY)
def Ze (a0:VC):al:=aQ [a0] 0x1502001dbd1d06128803c61c2a3841019c1d9001cb002ab00348c0181046b13051cf9001b1d02b900310694b491430020263042ba3ba02100191848b1291ccf001cc9690101a03801186381cbb48b061c21ff03c28f003c153ac18191003ed02291c8b001bfd5d0101c038001a18381bef3ed061c21fe03c1bd006000183c01ce1c1a1002433071a0060200704c1f1ce031001b001b002101b1e01104502006bb1d06128803c61c21019c1a90031ea061043d130568b001b1d01af003103b1230020263041b81be0210019181e91295e9005db3b0101a03801186385cd1e9061c21ff03c18d003c151b818191001cb022959d0058f2f0101c038001a18385891cb061c21fe03c1f006000183c021c1a1002611c903c6000183c019c1c310042b13054a9001b1d04262101e879198041042d130548d001b1d07f003102b130020263041887c021019183eb2d0611be03c3c150183100051230022429329752a048704018b6c2036000263047a5e071006d12938b002fd290101c038001a18382ef6d061c21fd03c28006000183c04e1c1a100222902001b201965c4101e1c23
def aoT (a0:VC):=aF (Ze a0)
def Oy:al:=Ze Al
def aaw:=cg Oy (aoT Al)
def JQ:al:=aQ [] 0x14313001912d28889a4e61f041a0001831022d0011001a12d23d61a041a001a183106b7061c3043006101a83e3d618041a0061861002
def ajt:=aF JQ
def E7:al:=aQ [] 0x1502003eb190797a031040461843001f3dd2d067c2001e865a004618270461c1d046c0061c70458007f001826004188005e001c100261c2045e0018848031002b92b062a10198611019c18800792e051001e002001101b00110428820018821f021291f23002193801100188820018882001fb1d06620044261d0462e250432e07104542001b190210312300224229752a0482e274407420360002620441a071001d0222902001b603101a1822
def acU:=aF E7
def Jp:al:=aQ [] 0x157f005d502265046221a0428002818061b0462501151300241e610460001819021c31001a2501100222902000200305c4106421
def ahb:=aF Jp
def Kc:al:=aQ [] 0x156f6d6b695f5d5b594b493f392f2d2b4329292db1901876e04875392804a3a271607700401b280201f718022e2719606700401a280201e600187380480276606700401a280201e6001873e04871d1918061a602700401a281201e60022660460001828101c3a1001291820325c3101812
def ah3:=aF Kc
def xY:VC:=bx [] 0x15e97b0222e901da4212b185db1f062a5046000187a101c5d1d8051045181901102b186e786f5f5d5b1f730002246181a1c1e282e383a484a4c4e1f29756e048187392804b3a273606700401a7a0201e718032e274607700401b7a0201f60075380480272607700401b7a0201f600753e04871d418075e603700401b7a1201f6002262046000187a15e1c3910038b122d000022b686030181d3920584103602192461f43040201d727a4110
def Mz:=aF xY
def M9 (a0:VC):VC:=bx [a0] 0x15ef5f02229d01884210241f43071a0260200704c4f4e03101a82001102bf1d06000181d39105831016001924633040201d725e4110
def acn (a0:VC):=aF (M9 a0)
def yh:VC:=M9 xY
def Nh:=cg yh (acn xY)
def Wi (a0:VC):al:=aQ [a0] 0x15519011002433071a0060200704c19480310045181901103130022461c1e16297538048282746077404f1a203600752a0487fe274407420360002620441a01c100012918602101812
def aj4 (a0:VC):=aF (Wi a0)
def Lm:al:=Wi yh
def alt:=cg Lm (aj4 yh)
def GN:al:=aQ [] 0x152d50191028c01ac21001292f00305c310411
def afv:=aF GN
def EG:al:=aQ [] 0x1502003ad0039f190490060001802610587f5807106f02292fd002ef2d010180380164382e96f0638221c803c795a018104013052bf000200021904f004102b1b23002026304584a021001f184912929d0028f1b02892b0201e038101c038001a18381fb49061c2a31bf03c19003005e1528181c1003902291bd001af142d33000041f681060380142381a939038211cc1c3c18100243290200020002604101c1a1832
def abB:=aF EG
abbrev Df:=[B 15 0,V 16 (.nilck (.m 15)),V 17 (.fa 1 (.m 16)),B 18 0,V 19 (.nilck (.m 18)),V 20 (.fa 1 (.m 19)),M 21 20,P 22 .lss 21 0,A 7 17,C 8 (Q 511),A 9 22]
def tz:VC:=.regP (.range 11) [0,1,2,8,9,3,4,5,6,7,10] [] Df
def FO (a0:VC):al:=aQ [a0] 0x1551d01106012d1c07c1f005d1ae041045181d01101f523002246181a1c1e282a2c2e383a3c3e484a4c5a5c5e2b292f29751ea0481871bb4c04b755b3c04a73f41c071f82701a077001801b7607f5e4032820371e0273f21c061f82751a067001801a7607e5e402282027603704018b7a203600753804871d46076c40328203600026204282803c100411301130701a1c1e330023a261041960210018007fe20019b1f06001c607c4606100129181a02101c13
def Sj (a0:VC):=aF (FO a0)
def xB:al:=FO tz
def Rq:=cg xB (Sj tz)
def C6:al:=aQ [] 0x1544531430291291bd1912d1af1c12d1a91b0201e038101c038001a183819b29061c2a32d03c3002e000181f002181c14130020261041a000182100021801101a14
def Zj:=aF C6
def CD:al:=aQ [] 0x1502852d3821462131a2121c2114210500000000005018c2104502852d1e21422136212182112210500000000005018c2100231841e61046000181a001c3100000000000005068305c2106511
def Z4:=aF CD
def Fk:al:=aQ [] 0x156250110451825011002300110001290220210411
def abW:=aF Fk
def Hc:al:=aQ [] 0x1519b19060018861c228d06c3e1028e01ac3605106b112d0011b686221a042265041920510012918602101812
def afO:=aF Hc
abbrev HA:=[B 72 0,X 73 0 10,M 74 73,B 75 12,P 76 .mul 75 32,B 77 13,L 78 .add 76 77,B 79 12,P 80 .mul 79 32,B 81 13,L 82 .add 80 81,X 83 0 10,M 84 83,H 85 Tj [.m 84],L 86 .add 82 85,V 87 (.build [O,O,O] [(0,1,.m 74),(1,1,.m 78),(2,1,.m 86)]),V 88 (.callv (.m 72) [.m 87]),V 89 (.un .not (.m 88))]
def wM:VC:=.regP (.range 18) (.range 18) [] HA
def HM (a0:VC):VC:=bx [a0] 0x16dd3b0638004611bd03c600018188001c1a90061452d185f5d5b493f3d3b392f291d1b7511f30018b92070196018193b13040264c20460001862a10582260046c002e000181aa1ee07100
def U1 (a0:VC):=aF (HM a0)
def nV:VC:=HM wM
def nJ:=cg nV (U1 wM)
def Hy (a0:VC):VC:=bx [a0] 0x159d39022600419b1a8031013071a01865cd3b060001861c10586c002e004185107606193913040266820464c00460001861c1058580060001828301c4a0019c1b8019100
def UU (a0:VC):=aF (Hy a0)
def nL:VC:=Hy nV
def rL:=cg nL (UU nV)
def HL (a0:VC):VC:=bx [a0] 0x13ad2902260046b5a031013071a06649b3904a0021045190224632975380483a271607700401b1880201f600026104600018188041c191005604192d182f130040261c20418e006c7c03100
def UL (a0:VC):=aF (HL a0)
def nX:VC:=HL nL
def lh:=cg nX (UL nL)
def HB (a0:VC):VC:=bx [a0] 0x118bf5f02229d02bc4212180130071a0462ef2f062a004600018188101c6c4805102bf122d000022d686030181d3920584103602192462943040201d725e4110
def U3 (a0:VC):=aF (HB a0)
def nW:VC:=HB nX
def rI:=cg nW (U3 nX)
def HP (a0:VC):VC:=bx [a0] 0x1199f490221cb02f842119991b064c00460001861c10584f0060001828301c4928e01810242943071a0260200704c5d380310002001101fb001df1d06000182b3f10581d005101600192461b75173040201d72484110
def U5 (a0:VC):=aF (HP a0)
def n9:VC:=HP nW
def rR:=cg n9 (U5 nW)
def Nl (a0:VC):al:=aQ [a0] 0x10241b75173071a0060200704c190028183100218011004
def acJ (a0:VC):=aF (Nl a0)
def EF:al:=Nl n9
def abU:=cg EF (acJ n9)
def Sc:al:=aQ [] 0x1542501104518250110021a26204300210001290220210411
def ark:=aF Sc
def acL:al:=aQ [] 0x150250110454250110023182e264046000181a02c1c31000419130519b503b002103180020263043c1a02101b222979006b7010180380164385d1b002621ff03c1a056181810001290200305c310411
def yj:VC:=bx [] 0x12892b0226004792e031401305399000200021d06b004107182d2b1f34300020263046c5c0210691292ef002e91f02db2d0201c038101a03800186382cd6902261c32d03c5d001a4801b1045282000200021d03107182b1f33300022a264047a402100160019402026104684a02100
def Er:=aF yj
abbrev BW:=Rg [B 69 13,X 70 2 3,M 71 70,V 72 (.len (.m 71)),L 73 .geq 69 72]
abbrev CA:=Rg [C 6 (Q 0),C 7 (Q 0),C 8 (Q 8)]
abbrev Di:=Rg [X 74 2 3,M 75 74,A 76 13,V 77 (.ia 1 (.m 75) (.m 76)),M 78 77,A 79 7,A 6 78,A 7 79,C 8 (Q 0)]
def V9 (a0 a1 a2 a3:VC):al:=aQ [a0,a1,a2,a3] 0x1571837004527071801c23006f9217006bb3b061c00419b0062a1a046000182e101c22650461c00418d006221a04226504791ca01c1b04013055b9000200021d06b00410718392f2b1f4300020263046c1bc021001bd12958f005891f04fb3902028038101e038001c1a384ed1bd062a3832d03c6000182e101c5d001919c01d104013054a9000200021d06b004107182f2b1f34300020263046c18c0210018d1293ff003f91f03eb2f02028038101e038001c1a383dd18d062a3832d03c2265047a005d001a6e01d102d13071a0061d91f01f1c021000200020021045282000200021d0310718532300026001886128f03c2e051a183100024329020002000240345c510281e1c33
def aln (a0 a1 a2 a3:VC):=aF (V9 a0 a1 a2 a3)
def Ln:al:=V9 yj BW CA Di
def ajZ:=cg Ln (aln yj BW CA Di)
def Gx:al:=aQ [] 0x151d1802002cd19061c229a03c190058154e1851004542001b1902101d183130002246181e28629753e04872b6180771299603f5805401b1a203600752a04802724071a2036000263044c1a01d1002912919b0018d142d0000000041d6810180380164387f2906129803c36019100222902001b603101a1822
def ae9:=aF Gx
def afI:al:=aQ [] 0x152f2d1f1d152919b50752a0481c2714074203600752a0481a27140742036006262044001c1001291820210411
abbrev DN:=[B 13 0,V 14 (.nilck (.m 13)),V 15 (.fa 0 (.m 14)),M 16 15,B 17 0,V 18 (.nilck (.m 17)),V 19 (.fa 1 (.m 18)),M 20 19,A 21 1,H 22 yf [.m 16,.m 20,.m 21],A 12 22,E 23 12 false 0,E 24 12 false 1,E 25 12 false 2,A 4 23,A 5 24,A 6 25]
def ue:VC:=.regP (.range 17) [0,1,2,3,4,5,6,7,8,9,10,11,14,12,15,13,16] [] DN
def HO (a0:VC):al:=aQ [a0] 0x153bb1903b0021041b12301c012d6101c1c07c490030051020261044f002101c012d6201c1c07c580045a0510039130700450219011031230020263046000186201c607c4405100012902602101812
def U2 (a0:VC):=aF (HO a0)
def yU:al:=HO ue
def U0:=cg yU (U2 ue)
def kF:VC:=bx [] 0x14282012d6201c607c400410228264042e3802101bd702260042d0031016019402246181a5291874c04802711a067001801a72601e7407e420260022610422621ca06c4601b100
def JY:=aF kF
abbrev yI:=[B 21 3,P 22 .add 21 4,V 23 (.bin .shl (Q 1) (.m 22)),A 24 0,B 25 3,P 26 .add 25 4,V 27 (.calli zg [.m 24,.m 26]),L 28 .add 23 27,A 2 28]
def oV:VC:=.regP (.range 9) (.range 9) [] yI
def Br (a0 a1:VC):al:=aQ [a0,a1] 0x150131700071a060020011001290220210411
def NR (a0 a1:VC):=aF (Br a0 a1)
def tC:al:=Br kF oV
def Ms:=cg tC (NR kF oV)
def zZ:VC:=bx [] 0x148d18f02268004216012d1c2a10586b006c006000185827a1c613c92901d002101600192423040201d7218e4110
def QR:=aF zZ
def Ao:VC:=bx [] 0x15e91cf0227c004216012d1c2a105879007f006000185831ba1c6159d005892b06000182b3f10581d0051036021924633040201d721ce4110
def P6:=aF Ao
abbrev Rw:=[A 20 0,X 21 3 4,M 22 21,V 23 (.ld (some 4) 0 (.s 4)),H 24 AZ [.m 23],V 26 (.ld (some 4) 0 (.s 4)),H 27 AZ [.m 26],⟨some 25,none,.mkslice [.int .i64 0] (.s 24) (.s 24),[(0,0)]⟩,⟨some 28,none,.mkslice [.int .i64 0] (.s 27) (.s 27),[(0,0)]⟩,V 29 (.build [O,O,.nl,.nl] [(0,1,.m 20),(1,1,.m 22),(2,1,.m 25),(3,1,.m 28)]),V 6 (.alloc [O,O,.nl,.nl]),Yd 4 6 29]
def GR:VC:=.regP [0,1,2,3,4,6,7,5,8,9,10,11] (.range 12) [] (unp [0,1,2,3,4,7,5,6,8,9,10,11] Rw)
def Ah:=Rg [V 30 (.ld (some 4) 1 (.s 4)),H 31 ig [.m 30],V 7 (.alloc [O8,O8,O8,O8,O8,O8,O8,O8,O8,O8,O8,O8,O8,O8,O8,O8,O8,O8,O8,O8,O8,O8,O8,O8,O8,O8,O8,O8,O8,O8,O8,O8,O8,O8,O8,O8,O8,O8,O8,O8,O8,O8,O8,O8,O8,O8,O8,O8,O8,O8,O8,O8,O8,O8,O8,O8,O8,O8,O8,O8,O8,O8,O8,O8,O8,O8,O8,O8,O8,O8,O8,O8,O8,O8,O8,O8,O8,O8,O8,O8,O8,O8,O8,O8,O8,O8,O8,O8,O8,O8,O8,O8,O8,O8,O8,O8,O8,O8,O8,O8,O8,O8,O8,O8,O8,O8,O8,O8,O8,O8,O8,O8,O8,O8,O8,O8,O8,O8,O8,O8,O8,O8,O8,O8,O8,O8,O8,O8,O8,O8,O8,O8,O8,O8,O8,O8,O8,O8,O8,O8,O8,O8,O8,O8,O8,O8,O8,O8,O8,O8,O8,O8,O8,O8,O8,O8,O8,O8,O8,O8,O8,O8,O8,O8,O8,O8,O8,O8,O8,O8,O8,O8,O8,O8,O8,O8,O8,O8,O8,O8,O8,O8,O8,O8,O8,O8,O8,O8,O8,O8,O8,O8,O8,O8,O8,O8,O8,O8,O8,O8,O8,O8,O8,O8,O8,O8,O8,O8,O8,O8,O8,O8,O8,O8,O8,O8,O8,O8,O8,O8,O8,O8,O8,O8,O8,O8,O8,O8,O8,O8,O8,O8,O8,O8,O8,O8,O8,O8,O8,O8,O8,O8,O8,O8,O8,O8,O8,O8,O8,O8,O8,O8,O8,O8,O8,O8,O8,O8,O8,O8,O8,O8,O8,O8,O8,O8,O8,O8,O8,O8,O8,O8,O8,O8,O8,O8,O8,O8,O8,O8,O8,O8,O8,O8,O8,O8,O8,O8,O8]),Yd 289 7 31]
def Zf (a0 a1 a2 a3:VC):al:=aQ [a0,a1,a2,a3] 0x151d18027002842d58152c18310002433371a0260200704c60001858201c4100012961c229c06c5d1029d01ac600018582281c5100223271a0060200604c600018582781c4100191817006f6923070041b13051ed7062842d490003300004018c410191811300020263044a2c021002f1291bd001af142d000000004196810180380164381a92f06129803c4280191001290200330000426831065521
def aoL (a0 a1 a2 a3:VC):=aF (Zf a0 a1 a2 a3)
def Oo:al:=Zf GR Ah zZ Ao
def apv:=cg Oo (aoL GR Ah zZ Ao)
def kW:al:=aQ [] 0x156b19002660461c229f06c1900300510012918602101812
def Cs:=aF kW
def AE:al:=aQ [] 0x154950026404604c30041001291820210411
def Xy:=aF AE
def mr:VC:=bx [] 0x12b93b02219805842145181901102e3831430021b1363e30460001861c10584a001a0060001861c10584a0042c0191b001bd1b01d00210160019243143040201d723a4110
def zL:=aF mr
def DO (a0:VC):al:=aQ [a0] 0x155190110023143071a0060200604c41c031004518190110312300262a304604c1a00604c4205100012918602101812
def Q7 (a0:VC):=aF (DO a0)
def vL:al:=DO mr
def Q0:=cg vL (Q7 mr)
def mI:al:=aQ [] 0x156b19002660461c22a806c1900300510012918602101812
def FM:=aF mI
def G8:al:=aQ [] 0x152186b7002630461c219b03c2811a01860001819001c610001291800325c310612
def afd:=aF G8
def L0:al:=aQ [] 0x157b796f6d6b5d5b594f4d3f3d3b392f2429292ef1901874c04872b21cf1a03e7001801a2e3601e700401a283201e6001874c04872b11a067001801a2e2601e700401a282201e6001874c04872b11a067001801a2e1601e700401a281201e60062a1046000182e001c60001828001c3c10012918001905c325c4101812
def akm:=aF L0
def lY:al:=aQ [] 0x156b19002660461c22a906c1900300510012918602101812
def Eg:=aF lY
def Hg:al:=aQ [] 0x156b7062a30460001819201c604c30061001291840210612
def ae3:=aF Hg
def Ez:al:=aQ [] 0x15291f1d14297930187380487fe2719606700401a40201e6000266046000184001c1a1001291800210211
def ac4:=aF Ez
def EJ:al:=aQ [] 0x152d30611df03c301a01831001291800210211
def abr:=aF EJ
def qA:VC:=bx [] 0x15ab6b0222b901cc4211f1859d1b062a0046000185e101c491ca05104518501101f183186b695f4f4d4b1b1918300002246181a1c1e282e383a484a4c1e29756e048187392804b3a273606700401a5e0201e718032e274607700401b5e0201f60075380480272607700401b5e0201f60075380481a8274607700401b5e1201f6002262046000185e15a1c381002db122d000021f686030181d39205841036021924633040201d726a4110
def xc:=aF qA
def F4 (a0:VC):VC:=bx [a0] 0x16ad4f0221ed02884214518501103184f4d4b3300022461942975380481a82746077404f3c2036006383046000186201c1a101c497e01b1002433071a0260200704c3c4a03100020011028f1906000181d391058310160019318246330040201d724e4110
def S6 (a0:VC):=aF (F4 a0)
def qF:VC:=F4 qA
def qJ:=cg qF (S6 qA)
def KN (a0:VC):al:=aQ [a0] 0x15550110318024330071a0060200704c6000181a53a1c410045185011031800263e304604c6000186301c1a101c604c6000181a51a1c1810001291800305c310411
def Zm (a0:VC):=aF (KN a0)
def Cc:al:=KN qF
def ZP:=cg Cc (Zm qF)
def Fj:al:=aQ [] 0x152d30611e903c301a01831001291800210211
def abv:=aF Fj
def wu:VC:=bx [] 0x118e919d0223cf02ea42142b13018db70792ea02145185011031819d19b1996b695f2b1d1b191a30002246181e287729753e0487018018b71d22ab603f7a4032e203600752a0487fe2744077a2036000262047a401d100027bd2bb00264047f2a8031050079b190792aa03145185011031819a19b1996b695f2b1d71930002246181a1c1e2c2e1b191b2975680481873f1e04b7018018a71d22ab603e7a4023c20274034a203600752a0481ffe2744077a2036000262047a40281002d130025db1ed03a261041881e80310518501103183a3c3e6b695f2d2b1d1b1971c300021e91df2295b91cf01872a04802734067a2026000261041881a801810461af02294df004d92d0101e038001c1a384cb1af061c2a32aa03c6b0058006000181a518c1c1b103ff003eb2906000182b3f10581d005103602192461d43040201d7219c4110
def kJ:=aF wu
def Ks (a0:VC):VC:=bx [a0] 0x118ef6b0222b901de4210241d43071a0260200704c5d18a03104518501103182c2e381f1d1b19718300026383046000186201c1a101c604c5e5c061002e9002cd1d06000182b3f10581d005101600193182461b197630040201d726a4110
def Z5 (a0:VC):=aF (Ks a0)
def wG:VC:=Ks wu
def we:=cg wG (Z5 wu)
def SK (a0:VC):al:=aQ [a0] 0x155501103180241b197630071a0060200704c6000181a6481c410018000200289706000181a04a1c51045185011031800263e304604c6000186301c1a101c604c6000181a62a1c1810001291800305c310411
def aiX (a0:VC):=aF (SK a0)
def IP:al:=SK wG
def agZ:=cg IP (aiX wG)
def Es:al:=aQ [] 0x15495061c21eb03c1900018301a01841001291820210412
def acg:=aF Es
def nK:VC:=bx [] 0x13ad5d02219e07c4214518190110383a3c1d1b5300224629429753804871d22ac606f6c4a202ad401af6c00201b60061c4045800604c6c004a181a102b9112d3129686000181d3910584101600192461d1b53040201d725c4110
def oa:=aF nK
def Ng (a0:VC):al:=aQ [a0] 0x1551901100241d1b53071a0065180200704c6000182873c1c4100045181901105181d1b23000261c3041900604c6000182871e1c51004221d0111d130024a001c181100620011019b112d211b6841e61046000186001c281181c61001291820325c3101812
def acd (a0:VC):=aF (Ng a0)
def DW:al:=Ng nK
def aa5:=cg DW (acd nK)
def Ew:al:=aQ [] 0x155d7061c2a31ed03c1f000181901a01830001851001291840210613
def acP:=aF Ew
def wa:VC:=bx [] 0x16dd3d02260041af0031564193f13040264c60460001862a10582260041b8006c001be1fc07100
def ZG:=aF wa
def K7 (a0:VC):VC:=bx [a0] 0x119991e90223ee02ec42145181d011019181a81aa1ac18f18d3d392d291930002246181e284b491829753e0487018018b71d22af603f1cc4031da203600752a0482e2744071da2036002262041da28e01d1042d92bb2297ed4b0101e038001c1a387df2bb061c2a32aa03c1b80019c006000183c521c1a14b130026382046000186201c3c101c1b81dc05100024b01103f13071a04604319493f230020261041cc1b8021005db005bf3f06000182b3f10581d005103602192463d3953040201d721e84110
def YN (a0:VC):=aF (K7 a0)
def qm:VC:=K7 wa
def jx:=cg qm (YN wa)
def KH (a0:VC):VC:=bx [a0] 0x1199f18f0223ad01aa4210243d3953071a0260200704c0613e168101c861c7041880022600418d0061c7041880018e006000183c187c1c1c10020011019d022949b0048d390101c038001a18383ff19d061c219903c18e006050183c16e1c1a103c92f01d002101600191918242d29430040201d7218e4110
def aaS (a0:VC):=aF (KH a0)
def ql:VC:=KH qm
def v9:=cg ql (aaS qm)
def RW (a0:VC):al:=aQ [a0] 0x1551d01101918022d29430071a00602001f5e021003992d06188821d04285c03106d02292fd002ef290101a03801186382e96d061c21a903c5d0034e019102b91f041e61046000186001c3c13e1c51045181d0110191851230002188826304604c6000183c182e1c4100012918201965c3101c13
def ajk (a0:VC):=aF (RW a0)
def Jn:al:=RW ql
def ahK:=cg Jn (ajk ql)
def wA:VC:=bx [] 0x14cb199022198019c4212f184bd2b062a50460001818e101c7919e0510452821901102f181e282a3e484a2b5183000260018861c21ab03c7a0018e03781841003dd122d000022f686030181d39205841036021924633040201d721984110
def Ds:=aF wA
def Ld (a0:VC):VC:=bx [a0] 0x14ed7902229a01bc421452821901105c5e685430020263047938021002433071a0260200704c6b68031003992b06000182825e1c3102fd2906000181d391058310160019246543040201d72784110
def Yb (a0:VC):=aF (Ld a0)
def wI:VC:=Ld wA
def wm:=cg wI (Yb wA)
def Tt (a0:VC):al:=aQ [a0] 0x1502190110024543071a0060200704c195a03100452821901105323002638304604c60001828301c604c1a3e0610041d13051ed1904f002105323002026304582c02103922291cb001bd1b010180380064381af390614b03c280528181810001290220325c3101812
def ail (a0:VC):=aF (Tt a0)
def Jd:al:=Tt wI
def agP:=cg Jd (ail wI)
def GL:al:=aQ [] 0x15491901c1f202b801ac21001292f001905c325c4101812
def afQ:=aF GL
def md:VC:=bx [] 0x13c9001118f7b796f4293bb2c0210
def AA:=aF md
abbrev IL:=[B 40 11,G 41 5,G 42 8,V 43 (.ia 1 (.m 41) (.m 42)),M 44 43,V 45 (.len (.m 44)),L 46 .geq 40 45,A 47 46,U 47 48 (.mov (.s 12)),U 47 49 (.bin .eql (.s 48) (Q 0)),U 47 50 (.mov (.s 49)),W 50 51 (.ld none 0 (.s 5)),W 50 52 (.ld none 0 (.s 8)),W 50 53 (.ia 1 (.s 51) (.s 52)),W 50 54 (.ld none 0 (.s 53)),W 50 55 (.mov (.s 11)),W 50 56 (.ia 1 (.s 54) (.s 55)),W 50 57 (.ld none 0 (.s 56)),W 50 58 (.bin .neq (.s 57) (Q 0)),U 47 59 (.pick (.s 50) (.s 58) ff),V 60 (.pick (.s 47) tt (.s 59)),A 61 60,U 61 62 (.mov (.s 12)),U 61 63 (.bin .gtr (.s 62) (Q 0)),U 61 64 (.mov (.s 63)),W 64 65 (.ld none 0 (.s 7)),W 64 66 (.mov (.s 12)),W 64 67 (.ld none 0 (.s 5)),W 64 68 (.ld none 0 (.s 8)),W 64 69 (.ia 1 (.s 67) (.s 68)),W 64 70 (.ld none 0 (.s 69)),W 64 71 (.mov (.s 11)),W 64 72 (.ia 1 (.s 70) (.s 71)),W 64 73 (.ld none 0 (.s 72)),W 64 74 (.calli qR [.s 65,.s 66,.s 73]),W 64 75 (.un .not (.s 74)),U 61 76 (.pick (.s 64) (.s 75) ff),V 77 (.pick (.s 61) tt (.s 76))]
def ze:VC:=.regP (.range 38) (.range 38) [] IL
def JS (a0:VC):VC:=bx [a0] 0x141d13052824f12d1107a922b92af2ad2ab2a929f29d29b29928f28d28b2891ff1fd1fb1ef1ed1eb1e91df1dd1db1d91cf1cd1cb1c91bf392f291f1b4a307002d129018812d2260041880019a1841036
def XC (a0:VC):=aF (JS a0)
def mj:VC:=JS ze
def A7:=cg mj (XC ze)
def IR (a0 a1:VC):VC:=bx [a0,a1] 0x118897b0222e900421452825812d1101f181b187b796f33000022d182918064c304604c60001861c10586c000184a00018188001ac1871b0001817074d4c211c026611ad06c795e0210002112d001068210399002fd112d00129686000182b3f10581d006101600191f181b182463300040201d727a4110
def Xr (a0 a1:VC):=aF (IR a0 a1)
def uC:VC:=IR md mj
def IM:=cg uC (Xr md mj)
def Qz (a0:VC):al:=aQ [a0] 0x15025812d1101f181b180243300071a0060200704c194e031002bf112d611f68605c1211610200002018c300510452825812d1101b1831230002246181a529754c04872b31a0771804f4a00601b7404f1a20360060018861c21ac03c1a0041c01c1000010681f185c21001d13
def aff (a0:VC):=aF (Qz a0)
def Hs:al:=Qz uC
def afw:=cg Hs (aff uC)
def Ly:al:=aQ [] 0x1502003991906128803c61c21019c7f0034c06106186902292e9002db2d0101a03801186382cd69061c21ff03c4f006c153e181910059022929d0028f142d3300004296810603801423828959038211cc3e3c18104542001b1902101d1230020263045d2c02100391291d9001cb1d0101a03800186381bd390638221fe03c611019c191e019100222902001b603101a1822
def ajV:=aF Ly
abbrev HF:=[G 27 8,V 28 (.len (.m 27)),V 29 (.ld (some 4) 0 (.s 2)),H 30 Dc [.m 29],V 31 (.ix 5 1 false (.m 30) (Q 3)),L 32 .gtr 28 31,A 33 32,U 33 34 (.ld none 0 (.s 8)),U 33 35 (.mkfn nY [] [.s 2,.s 8]),U 33 36 (.calli fT [.s 34,.s 35]),V 37 (.pick (.s 33) tt (.s 36))]
def xz:VC:=.regP (.range 11) (.range 11) [] HF
def FH (a0:VC):VC:=bx [a0] 0x13cf5f0221ba018a421452821901105f5d5b54303c9219918f18d18b05307002bf112d3129686000181d391058410160019246543040201d725e4110
def Tn (a0:VC):=aF (FH a0)
def qG:VC:=FH xz
def FT:=cg qG (Tn xz)
def KX (a0:VC):al:=aQ [a0] 0x1502190110024543071a0060200704c19480310045282190110532300261c3044900604c1a380410041d13051cb1904f002101b5333002026304581e021002b1291a90019b1b0101803800643818d2b0614b03c28051a18181001290220325c3101812
def YR (a0:VC):=aF (KX a0)
def C3:al:=KX qG
def Zo:=cg C3 (YR qG)
abbrev Hu:=[G 6 2,A 7 0,B 8 1,V 9 (.bin .shl (Q 1) (.m 8)),P 10 .sub 9 1,L 11 .and 7 10,B 12 1,H 13 yx [.m 6,.m 11,.m 12],A 5 13,E 14 5 true 0,E 15 5 false 1,Yd 1 2 14]
def wO:VC:=.regP (.range 12) [0,1,2,3,4,5,6,7,8,9,11,10] [] Hu
def K6 (a0:VC):al:=aQ [a0] 0x13f1b534307003
def aar (a0:VC):=aF (K6 a0)
def Dp:al:=K6 wO
def Z1:=cg Dp (aar wO)
def GB:al:=aQ [] 0x15025011045225011002300110001290220210411
def ae1:=aF GB
def Mb:al:=aQ [] 0x1502002bf19060018861c228d06c4f102bd01ac1948061028f112d0011d6861c011d01ec30002bc3c3c51045182001819021031230021ed3d062a304612bb03c400604c1a2a061054200181902103123002392f2291a91f0752a0482e2744074203600226204440181006002229020018603101a1822
def akN:=aF Mb
def wc:VC:=bx [] 0x14ed7902229a01ac4214df29062a50460001858101c61c0047f0062a704612be03c58050186b19801a1b454200021902101d183a3c3e2d2953000224618429753e04872b41807700601b582401f18820360062a20460001858101c1885a01b1002fd2d06000181d3910583102601191d18246330040201d72784110
def La:=aF wc
def To (a0:VC):al:=aQ [a0] 0x1502004fb1906b5e03101d18024330071a0160200704c194a0310002401104518200021902101d1831300022b959062a30460001858001c604c1a3e06101f13051ed00021905d403101d1831300021df4900263045e2a03100602f1291bd001af142d0000000041d6810180380164381a92f06129803c31c0191002229020002603101a1822
def agW (a0:VC):=aF (To a0)
def JU:al:=To wc
def ajH:=cg JU (agW wc)
abbrev Qh:=[A 44 9,A 45 6,X 46 1 2,M 47 46,V 48 (.bin .shl (Q 1) (.m 47)),P 49 .sub 48 1,L 50 .and 45 49,X 51 1 2,M 52 51,H 53 yx [.m 44,.m 50,.m 52],E 54 53 true 0,E 55 53 false 1,A 4 54,A 5 55]
def D3:VC:=.regP (.range 14) (.range 14) [] Qh
def V6 (a0:VC):al:=aQ [a0] 0x155181db1300700199022948d003ff2b0101e038011c1a383f919906381b33903c2265046427046b005d7801b103ad2906128a03c6201a85e6a041038b1f022600462a180460001828101c585a06102cd1d060001861c105819006000182834a1c6104542001b1902105183130002246181a529754c04873961a0771804f700601b283401f1a2036000262041a2801a10045282001b19021051831300026001886128f03c28051a1831000222902001b20325c4101a1822
def aj8 (a0:VC):=aF (V6 a0)
def Lj:al:=V6 D3
def ak0:=cg Lj (aj8 D3)
def kG:VC:=bx [] 0x128f2f02218a0042141cd01cc21020262042e3e02101df7062a004604c49002d2a05101af1b06000181d39105831016001924633040201d722e4110
def wL:=aF kG
def kP:VC:=bx [] 0x139f6f0225a06e4213991d061c101986b004f5c0412ef2906000181d39105831036021924633040201d726e4110
def pe:=aF kP
def BQ (a0 a1:VC):al:=aQ [a0,a1] 0x153ad504f1e021002433171a0260200704c34c031002ab1d061b22bf06c2d2e031002433071a0060200704c41a03100020011001291b20210411
def NE (a0 a1:VC):=aF (BQ a0 a1)
def tf:al:=BQ kG kP
def MT:=cg tf (NE kG kP)
def LC:al:=aQ [] 0x154f5062a2101e861018830040051001290220210411
def ak3:=aF LC
def CW:al:=aQ [] 0x155d50612c903c360310454950612c803c6301a8300410182001290220210411
def Zh:=aF CW
abbrev Ke:=[B 38 8,B 39 7,B 40 8,V 41 (.slice 1 (.m 39) (some (.m 40)) none none),B 42 7,B 43 8,V 44 (.slice 1 (.m 42) none (some (.m 43)) none),V 45 (.cpy 1 (.m 41) (.m 44)),L 46 .add 38 45,A 8 46]
def I4:VC:=.regP (.range 10) (.range 10) [] Ke
def I1 (a0:VC):VC:=bx [a0] 0x107160192913040262a204604c5e006c18a04100
def IQ:VC:=I1 I4
def Nt (a0:VC):al:=aQ [a0] 0x154bd1905d19c0210013071a006039929061c102983005e5e04107b1292ef1f07703101bc0012f86001a84f0051041cd01cc210224229752a0481ffffffffffffffffffffe3d744075820360003d6404493c07100391291fb001ed1b01028038001e1c381df39062a22ca03c6201a819006201a8604c4201c1041cd01cc21020262041a180210001291b602101812
def MK:al:=Nt IQ
def mK:VC:=bx [] 0x12ab3d0227c05842129d702260042d0031451b181e28291f1d7173000260018862a2380786000184a001c2e0040061003602191b1824230040201d723c4110
def wW:=aF mK
def F9 (a0:VC):VC:=bx [a0] 0x12b9290226b02c4211b1802230071a02602006000184a11c1c31018d122d000021b686030181d3920584101600192467153040201d72284110
def SR (a0:VC):=aF (F9 a0)
def mS:VC:=F9 mK
def qI:=cg mS (SR mK)
def KF (a0:VC):al:=aQ [a0] 0x10247153071a0060200704c1900418310024011002
def X8 (a0:VC):=aF (KF a0)
def Dk:al:=KF mS
def aaC:=cg Dk (X8 mS)
def nt:al:=aQ [] 0x156b19002660461c22cb06c1900300510012918602101812
def GF:=aF nt
def Dw:al:=aQ [] 0x152f2d2b3152919b70753804871d66071a00401b420360062a2046101881a000184001b1001291840210612
def Yf:=aF Dw
def wF:VC:=bx [] 0x119991bb0224a902fc4214518501101b183181bb1b91af3300002246181a1c1e282a2c2e383a291f1f37519f048187393804b71d46065e4026c2027280373911e077001c01b74a14c91a01bb5e1803700601b74a14c9401bb6c20360063840460001864a14c901b85e0060001864a14c901b86c28e02d1b0078d29060001862a10582265044f006000181a201c71041191f1d230020261045828a021004518501101b183185c5e681f1d5300002246181a1c1e2c2e383a3c1c29756804871d31e07581c037001a01b71d11805b5e603700401b1a3201f600754c04873961a0771804f700601b1a3401f5e2036000262045e1ac02b1004d9004bd1d06000182b3f10581d005101600191b183182463300040201d721ba4110
def KB:=aF wF
def wd:=Rg [V 40 (.ld (some 4) 1 (.s 3)),H 41 ig [.m 40],V 5 (.alloc [O8,O8,O8,O8,O8,O8,O8,O8,O8,O8,O8,O8,O8,O8,O8,O8,O8,O8,O8,O8,O8,O8,O8,O8,O8,O8,O8,O8,O8,O8,O8,O8,O8,O8,O8,O8,O8,O8,O8,O8,O8,O8,O8,O8,O8,O8,O8,O8,O8,O8,O8,O8,O8,O8,O8,O8,O8,O8,O8,O8,O8,O8,O8,O8,O8,O8,O8,O8,O8,O8,O8,O8,O8,O8,O8,O8,O8,O8,O8,O8,O8,O8,O8,O8,O8,O8,O8,O8,O8,O8,O8,O8,O8,O8,O8,O8,O8,O8,O8,O8,O8,O8,O8,O8,O8,O8,O8,O8,O8,O8,O8,O8,O8,O8,O8,O8,O8,O8,O8,O8,O8,O8,O8,O8,O8,O8,O8,O8,O8,O8,O8,O8,O8,O8,O8,O8,O8,O8,O8,O8,O8,O8,O8,O8,O8,O8,O8,O8,O8,O8,O8,O8,O8,O8,O8,O8,O8,O8,O8,O8,O8,O8,O8,O8,O8,O8,O8,O8,O8,O8,O8,O8,O8,O8,O8,O8,O8,O8,O8,O8,O8,O8,O8,O8,O8,O8,O8,O8,O8,O8,O8,O8,O8,O8,O8,O8,O8,O8,O8,O8,O8,O8,O8,O8,O8,O8,O8,O8,O8,O8,O8,O8,O8,O8,O8,O8,O8,O8,O8,O8,O8,O8,O8,O8,O8,O8,O8,O8,O8,O8,O8,O8,O8,O8,O8,O8,O8,O8,O8,O8,O8,O8,O8,O8,O8,O8,O8,O8,O8,O8,O8,O8,O8,O8,O8,O8,O8,O8,O8,O8,O8,O8,O8,O8,O8,O8,O8,O8,O8,O8,O8,O8,O8,O8,O8,O8,O8,O8,O8,O8,O8,O8,O8,O8,O8,O8,O8,O8,O8]),Yd 289 5 41]
def SQ (a0 a1:VC):al:=aQ [a0,a1] 0x155501101b183180243300171a0060200704c6000181a219e1c410071807004518501107183180002246181a1c1e2a2c2e383a3c3e4a4c4e4f4d4b2c3755b04872b31c07712991a03f2e051801b7604f700401b1a3201f600755b04872b31c07712991a03f2e051801b7604f700401b1a2201f600754d04872b31a077001801b2e3601f700401b1a1201f6000263043b2c0391b0002b1291af001a9142d000000004768101a038011863819b2b06129803c6000181a01e1c1a1001291800305c310411
def agX (a0 a1:VC):=aF (SQ a0 a1)
def IF:al:=SQ wd wF
def ajv:=cg IF (agX wd wF)
def aqy:al:=aQ [] 0x15027002842d61c141d01ec30002cc1e3c51045427002842d0000000004018c31011300224229752a04838274407420360022620440071000129020000000000426831065521
def Re:VC:=bx [] 0x119b1d0224c02842118d7062a704612be03c1a050182d005116001931824230040201d721c4110
def Xl (a0:VC):al:=aQ [a0] 0x151a9502d1c021031802230071a00602006000181a001c3100220011001290200305c310411
def Xx:al:=Xl Re
abbrev Cb:=[B 17 5,B 18 6,B 19 1,V 20 (.ld (some 4) 0 (.s 2)),H 21 ut [.m 20],L 22 .rem 19 21,X 23 1 2,M 24 23,L 25 .add 22 24,B 26 1,V 27 (.ld (some 4) 0 (.s 2)),H 28 ut [.m 27],L 29 .quo 26 28,V 30 (.ia 1 (.m 17) (.m 18)),N (.st 1 (.m 30) (.m 25)),A 1 29]
def s9:VC:=.regP (.range 16) [0,1,2,3,4,5,6,7,8,10,11,13,14,9,12,15] [] Cb
def Bg (a0:VC):VC:=bx [a0] 0x11cb1d02265044f0031071600195181d32300402026604583802100
def NS (a0:VC):=aF (Bg a0)
def mV:VC:=Bg s9
def BE:=cg mV (NS s9)
def Gn (a0:VC):al:=aQ [a0] 0x152fd1904968021051803230071a00619b1d0226504600018280181c410029129791b07702101bc0012f860001828041c51001291b20325c3101812
def Tu (a0:VC):=aF (Gn a0)
def xF:al:=Gn mV
def RK:=cg xF (Tu mV)
def ox:VC:=bx [] 0x11ed390225a004216012d2a2e1401b86000181a101c3b2c0511af1901d002101600192423040201d72384110
def C8:=aF ox
def oh:VC:=bx [] 0x13dd7b0227c01884213cf1d063e00462a2101e86101886b006c004f6807138b2906000181d39105831056041924633040201d727a4110
def Db:=aF oh
def oB:VC:=bx [] 0x14df2b0226504791cb0316012d2a2e1401b86000181a101c7a005146192b1300262a19046000181a201c60001862e1401b87a0061b06012d382e1401b822600460001872e1401b87a4061007606192b1304020266047a1bc02100
def C7:=aF oB
def Ci (a0 a1:VC):VC:=bx [a0,a1] 0x169f5d02228f01e8421013171a0664af2b02265046000181a001c4106012d2a2814c901b86101a84f00492c051002433071a0460200704c06102e402ac6000181a04c1c510002001102ab1b01d00210360219318247330040201d725c4110
def N8 (a0 a1:VC):=aF (Ci a0 a1)
def oi:VC:=Ci oh oB
def CR:=cg oi (N8 oh oB)
def ou:=Rg [V 1 (.box (.m 0)),V 2 (.alloc [O8,O8,O8,O8,O8,O8,O8,O8,O8,O8,O8,O8,O8,O8,O8,O8,O8,O8,O8,O8,O8,O8,O8,O8,O8,O8,O8,O8,O8,O8,O8,O8,O8,O8,O8,O8,O8,O8,O8,O8,O8,O8,O8,O8,O8,O8,O8,O8,O8,O8,O8,O8,O8,O8,O8,O8,O8,O8,O8,O8,O8,O8,O8,O8,O8,O8,O8,O8,O8,O8,O8,O8,O8,O8,O8,O8,O8,O8,O8,O8,O8,O8,O8,O8,O8,O8,O8,O8,O8,O8,O8,O8,O8,O8,O8,O8,O8,O8,O8,O8,O8,O8,O8,O8,O8,O8,O8,O8,O8,O8,O8,O8,O8,O8,O8,O8,O8,O8,O8,O8,O8,O8,O8,O8,O8,O8,O8,O8,O8,O8,O8,O8,O8,O8,O8,O8,O8,O8,O8,O8,O8,O8,O8,O8,O8,O8,O8,O8,O8,O8,O8,O8,O8,O8,O8,O8,O8,O8,O8,O8,O8,O8,O8,O8,O8,O8,O8,O8,O8,O8,O8,O8,O8,O8,O8,O8,O8,O8,O8,O8,O8,O8,O8,O8,O8,O8,O8,O8,O8,O8,O8,O8,O8,O8,O8,O8,O8,O8,O8,O8,O8,O8,O8,O8,O8,O8,O8,O8,O8,O8,O8,O8,O8,O8,O8,O8,O8,O8,O8,O8,O8,O8,O8,O8,O8,O8,O8,O8,O8,O8,O8,O8,O8,O8,O8,O8,O8,O8,O8,O8,O8,O8,O8,O8,O8,O8,O8,O8,O8,O8,O8,O8,O8,O8,O8,O8,O8,O8,O8,O8,O8,O8,O8,O8,O8,O8,O8,O8,O8,O8,O8,O8,O8,O8,O8,O8,O8,O8,O8,O8,O8,O8,O8,O8,O8,O8,O8,O8,O8])]
def HE (a0 a1 a2:VC):al:=aQ [a0,a1,a2] 0x15318027330271a02602006129903c1a051e1831000223171a00602006000181a01c1c31000000000044681100704ca511
def UY (a0 a1 a2:VC):=aF (HE a0 a1 a2)
def yT:al:=HE ou ox oi
def UW:=cg yT (UY ou ox oi)
def lZ:al:=aQ [] 0x1012961c3832cd06c1900604c0012f83004606102
def Fb:=aF lZ
def Jz:al:=aQ [] 0x1551319b1b0638229e03c60001862814c901b8190060001862814c901b8300181b000129021802101a13
def ai3:=aF Jz
def vY:al:=aQ [] 0x150219011045221901100261c4041900338031004512190110312300261c2041a0042a03100452219011031230024f280110045121901104502190110024c00110031230024918011007f1d0612ce03c1a603106b1b0612ce03c440310012902602101812
def Q9:=aF vY
def fN:VC:=bx [] 0x11df290226b03a42141b13051d91904900210281f3143002613e07860001861c10584a004001a1a06107f1b01d00210160019243143040201d72284110
def iB:=aF fN
def tO (a0:VC):al:=aQ [a0] 0x1512190110023143071a0060200604c4203100012902602101812
def FU (a0:VC):=aF (tO a0)
def mC:al:=tO fN
def tQ:=cg mC (FU fN)
def gu:VC:=bx [] 0x11df290226b03a42141b13051d91904900210281f3143002613e078601a01861c190584a004001a1a06107f1b01d00210160019243143040201d72284110
def jC:=aF gu
def xj (a0:VC):al:=aQ [a0] 0x1512190110023143071a0060200604c4203100012902602101812
def Kb (a0:VC):=aF (xj a0)
def oQ:al:=xj gu
def xp:=cg oQ (Kb gu)
def gh:VC:=bx [] 0x11df290226b03a42141b13051d91904900210281f3143002613e07860001861c10584a004001a1a06107f1b01d00210160019243143040201d72284110
def jc:=aF gh
def wn (a0:VC):al:=aQ [a0] 0x1512190110023143071a0060200604c4203100012902602101812
def H4 (a0:VC):=aF (wn a0)
def oq:al:=wn gh
def wp:=cg oq (H4 gh)
def xX:VC:=bx [] 0x149b6f0221ce01aa4212b1848d5062a5046000187a101c1f1880510452b1802003dd1d06000187a001c41002c2e3854300262a2046000187a101c2800410041192b180022262046000187a15a1c31002ef122d000022b686030181d392058410160019246543040201d726e4110
def Mu:=aF xX
def Vf (a0:VC):al:=aQ [a0] 0x154200021d0210024543071a0060200704c60001861c1058190033c06100454200021d021053133002241a1c1e28629752a048027240728203600753e04872b618077604f44031a2036000262041a401d100022290200021a03101e1c23
def akb (a0:VC):=aF (Vf a0)
def Ll:al:=Vf xX
def akl:=cg Ll (akb xX)
def LQ:al:=aQ [] 0x153b392f2d316291af1901873e04872b1918061f827060644021a20260062a6041f8265044001a001c10012918602101812
def akc:=aF LQ
def ln:al:=aQ [] 0x156b19002660461c22cf06c1900300510012918602101812
def Dy:=aF ln
def AU:al:=aQ [] 0x15218493f3d3b392f2d2b419301d9190756904873f11e01df7001c01b731a01f02751805b2800601b700401b2e3201f60060018861c22ae03c19000181d060181e1b0001291800345c3101813
def W1:=aF AU
def Gt:al:=aQ [] 0x1541858919060018861c228d06c6b5d202d801ac60001828401c610041e26c12d1f25e12d210260001828319c1c210062112d72712d0010680014684104518190110518002246181a1c1e2c2e383a3c3e4c4e585a5d5b594b493f3d1d1b3a2975680481872b1e04b700401a282201e718030271607700401b281201f600755a04872b31c077001a01b2811801f7604f700401b284201f600753e04871d4180758603700401b281201f60075380480272607700401b281201f600753e04871d418074a603700401b280201f60002620460001828061c4e10041e2003e21b0216182300219401100382001fe20021001291820325c3101812
def afz:=aF Gt
def Lo:al:=aQ [] 0x155f1d2292ab1901871c048582026000261045d3807103d1291ed001df1d0101a03800186381d93d061c21fd03c490032a0191041a91b0042106101c849003102182640441802100791b0020202641019c1960310012918602101812
def akq:=aF Lo
def qC:VC:=bx [] 0x101a12d61c50428000181a001f18414553133002600188611c0782800018460410160019513040261c60428000181a006183100
def xu:=aF qC
def KZ (a0:VC):al:=aQ [a0] 0x10129611c078190001833a041513071a006003
def Zd (a0:VC):=aF (KZ a0)
def CK:al:=KZ qC
def aaI:=cg CK (Zd qC)
def yY:al:=aQ [] 0x15218493f3d3b392f2d2b419301d9190756904873f11e01df7001c01b731a01f02751805b2800601b700401b2e3201f60060018861c22ba03c2b0601819050181e1b0001291800345c3101813
def UJ:=aF yY
def CI:al:=aQ [] 0x151b182181df1dd1db1d91cf1cd1cb1bf1bd1bb1b91af1ad1ab1a919f19b19918f18d18b1897f7b796f6d6b695d5b594f4b493f3d3b392f583005ab1901875b04873921bb1c03e711ba1a03e7001801a2e3601e700401a2e4201e6001876f04875392804a706018b700401b2e2201f718020274606700401a2e1201e6001875b04872b11c067001a01a2e11801e7604e700401a2e4201e6001874d04872b191a067001801a1824a15601ba700401a2e1201e600187390480276606700401a2e1201e6001875b04873921c067221a1a067001801a224a15601ba700401a2e0201e6000266046000182e041c6a1b005185d152d000000000051b68611b903c28152184100012918001905c325c4101812
def aaG:=aF CI
def PD:al:=aQ [] 0x1542501104518250110021a26204300210001290220210411
def an3:=aF PD
def aak:al:=aQ [] 0x15041d2d3fffe211b38211a3821191e21181e217182161821542144213221222111b000000000000000000000000001d018c210000000000000000000000000001d1681101e110
def G0:al:=aQ [] 0x152f2d2b293162919b70753e04872b21807716018b1a00401b420360061c4041a000184001b1001291840210612
def ae8:=aF G0
def AF:al:=aQ [] 0x152186b5022600462a5046000181a101c6000181a201c710001290200305c310411
def Xo:=aF AF
def vR:al:=aQ [] 0x152bf19036a0210431302b91006102a101c8604c30061c031028c0012f8190006102a101c8602bc4004001a1020264041a3a02101af3064c50462a504604c400602bc40019001810041cd01cc21020262041a00210001291b602101812
def Q5:=aF vR
abbrev Pe:=Rg [A 13 2,A 14 0,V 15 (.conv .u8 (.m 14)),V 16 (.ixs (.c (.d (.str [0,1,2,2,3,3,3,3,4,4,4,4,4,4,4,4,5,5,5,5,5,5,5,5,5,5,5,5,5,5,5,5,6,6,6,6,6,6,6,6,6,6,6,6,6,6,6,6,6,6,6,6,6,6,6,6,6,6,6,6,6,6,6,6,7,7,7,7,7,7,7,7,7,7,7,7,7,7,7,7,7,7,7,7,7,7,7,7,7,7,7,7,7,7,7,7,7,7,7,7,7,7,7,7,7,7,7,7,7,7,7,7,7,7,7,7,7,7,7,7,7,7,7,7,7,7,7,7,8,8,8,8,8,8,8,8,8,8,8,8,8,8,8,8,8,8,8,8,8,8,8,8,8,8,8,8,8,8,8,8,8,8,8,8,8,8,8,8,8,8,8,8,8,8,8,8,8,8,8,8,8,8,8,8,8,8,8,8,8,8,8,8,8,8,8,8,8,8,8,8,8,8,8,8,8,8,8,8,8,8,8,8,8,8,8,8,8,8,8,8,8,8,8,8,8,8,8,8,8,8,8,8,8,8,8,8,8,8,8,8,8,8,8,8,8,8,8,8,8,8,8,8,8,8,8,8]))) (.m 15)),V 17 (.conv .i64 (.m 16)),L 18 .add 13 17,A 2 18]
def UX (a0:VC):al:=aQ [a0] 0x15070419b5028260041f2c0317f10283d6180430031002188848660441802100448220114f10483d6180430031041300248888848660440021000220110411
def US:al:=UX Pe
abbrev Bs:=Rg [A 19 2,A 20 0,V 21 (.conv .u8 (.m 20)),V 22 (.ixs (.c (.d (.str [0,1,2,2,3,3,3,3,4,4,4,4,4,4,4,4,5,5,5,5,5,5,5,5,5,5,5,5,5,5,5,5,6,6,6,6,6,6,6,6,6,6,6,6,6,6,6,6,6,6,6,6,6,6,6,6,6,6,6,6,6,6,6,6,7,7,7,7,7,7,7,7,7,7,7,7,7,7,7,7,7,7,7,7,7,7,7,7,7,7,7,7,7,7,7,7,7,7,7,7,7,7,7,7,7,7,7,7,7,7,7,7,7,7,7,7,7,7,7,7,7,7,7,7,7,7,7,7,8,8,8,8,8,8,8,8,8,8,8,8,8,8,8,8,8,8,8,8,8,8,8,8,8,8,8,8,8,8,8,8,8,8,8,8,8,8,8,8,8,8,8,8,8,8,8,8,8,8,8,8,8,8,8,8,8,8,8,8,8,8,8,8,8,8,8,8,8,8,8,8,8,8,8,8,8,8,8,8,8,8,8,8,8,8,8,8,8,8,8,8,8,8,8,8,8,8,8,8,8,8,8,8,8,8,8,8,8,8,8,8,8,8,8,8,8,8,8,8,8,8,8,8,8,8,8,8]))) (.m 21)),V 23 (.conv .i64 (.m 22)),L 24 .add 19 23,A 2 24]
def Hz (a0:VC):al:=aQ [a0] 0x1507041df5028260041f480311cb10283d618043003100218883d660442c02100419b5048260041f2c0317f10483d61804300310024888883d6604418021004188220114f101883d618043003104130021888888888883d660440021000220110411
def UK (a0:VC):=aF (Hz a0)
def zh:al:=Hz Bs
def U4:=cg zh (UK Bs)
def aaE:al:=aQ [] 0x152e9002db19079006b4c04105d1292cd002bf290101a03800186382b95d061c22da03c190034a0191045289001ed1906201a85d006201a84f2c06102d1291d9001cb1d0101e038001c1a381bd2d062a22d903c6301a819006301a831a01b1018200222903d0003d603101a1822
def gQ:VC:=bx [] 0x11df290226b03a42141b13051d91904900210281f3143002613e07860001861c10584a004001a1a06107f1b01d00210160019243143040201d72284110
def jT:=aF gQ
def yK (a0:VC):al:=aQ [a0] 0x1512190110023143071a0060200604c4203100012902602101812
def Kf (a0:VC):=aF (yK a0)
def qc:al:=yK gQ
def yL:=cg qc (Kf gQ)
def ah9:al:=aQ [] 0x15046c2d64681c45c2a4583844c3e4484c43c4f4384942c3b4282d41c1f41819441c000000000000000000000000000000000000000000000000000000000000000000000000000000000000000000000000000000006c018c02131f82121ef21122104000000004018c421348212021142104000000004018c421338212021142104000000004018c221338212021142104000000004018c42131e212021142104000000004018c22131e212021142104000000004018c221318212721142104000000004018c021318212721142104000000004018c221342120211182104000000004018c021342120211182104000000004018c221322121211182104000000004018c021322121211182104000000004018c1e10000000000000000000000000000000000000000000000000000000000000000000000000000000000000000000000000000000006c1681106d110
def iG:VC:=bx [] 0x128f29061c00458006b380411ed1f06c00210012961c2a3842db06c280069005d00400610160191a13040261c19041a002b2c03100
def q9:=aF iG
def iE:VC:=bx [] 0x14cb29062a00464270458006b19a05149b1f06c00210012961c2a4c5a52dc06c28006c0061c00458005d005e004001910564192913040261c19041a006c18803100
def rB:=aF iE
def rC (a0:VC):VC:=bx [a0] 0x15ef1d04267044f003142b1f230012961c2a383e52dc06c28001a0079005d00400710261c2041a007a1ac03104ed2b061c00458005e1a804100013071a046038b00021f06427045800410362191d53143040261c2041a00586e03100
def DB (a0:VC):=aF (rC a0)
def iF:VC:=rC iE
def rk:=cg iF (DB iE)
def uP (a0 a1:VC):al:=aQ [a0,a1] 0x11d53143171a026012961c2a3842db06c28001a005d0043c0610013071a00607f00021f039603105821a011003
def Hi (a0 a1:VC):=aF (uP a0 a1)
def nv:al:=uP iG iF
def Hb:=cg nv (Hi iG iF)
def yS:al:=aQ [] 0x15495061c30430040041001291820210411
def UO:=aF yS
def fR:VC:=bx [] 0x11df290226b03a42141b13051d91904900210281f3143002613e07860601861c50584a004001a1a06107f1b01d00210160019243143040201d72284110
def iH:=aF fR
def u9 (a0:VC):al:=aQ [a0] 0x1512190110023143071a0060200604c4203100012902602101812
def Gw (a0:VC):=aF (u9 a0)
def nF:al:=u9 fR
def u5:=cg nF (Gw fR)
def Cj:al:=aQ [] 0x152f2d2b4152919b190753804871d46072800401b420360061c20419000184001a10012918602101813
def aat:=aF Cj
def UQ:al:=aQ [] 0x151cb001af1906301a84f006301a81883d618044d1a071018d1d062a7046201a819006201a83206100222904800048603101a1822
def UP:al:=aQ [] 0x154df1b061c704190031ae04104bd19062a0041883d6180419b0061c0041a90061c70479005d6e019103dd39063800461c7047a004f0019b5a061039f3b01883d6180418d58031038b3907fffffffffe3d61c0418e4e03102ef2f062a0041883d618047f0061c7046b005e3c07102ab2d061c7046c00583804102892b01883d618041a2e03101ed2907fffffffffe3d61c041a2c03101d91f01883d6180442a03101bd1d07fffffffffe3d61c0442803100222903d0003d603101a1822
abbrev nf:=[B 18 9,B 19 1,L 20 .gtr 18 19,A 21 20,W 21 22 (.mov (.s 3)),W 21 23 (.mov (.s 0)),W 21 24 (.mov (.s 9)),W 21 25 (.ia 1 (.s 23) (.s 24)),W 21 26 (.ld none 0 (.s 25)),W 21 27 (.mov (.s 0)),W 21 28 (.mov (.s 9)),W 21 29 (.bin .sub (.s 28) (Q 1)),W 21 30 (.ia 1 (.s 27) (.s 29)),W 21 31 (.ld none 0 (.s 30)),W 21 32 (.callv (.s 22) [.s 26,.s 31]),W 21 33 (.bin .lss (.s 32) (Q 0)),V 34 (.pick (.s 21) (.s 33) ff)]
def iX:VC:=.regP (.range 17) (.range 17) [] nf
abbrev ni:=[B 37 0,B 38 9,B 39 0,B 40 9,P 41 .sub 40 1,B 42 0,B 43 9,P 44 .sub 43 1,V 45 (.ia 1 (.m 42) (.m 44)),M 46 45,B 47 0,B 48 9,V 49 (.ia 1 (.m 47) (.m 48)),M 50 49,V 51 (.ia 1 (.m 37) (.m 38)),N (.st 1 (.m 51) (.m 46)),V 52 (.ia 1 (.m 39) (.m 41)),N (.st 1 (.m 52) (.m 50))]
def iO:VC:=.regP (.range 18) [0,1,5,6,7,8,9,10,11,12,13,14,15,2,3,4,16,17] [] ni
def mJ (a0 a1:VC):VC:=bx [a0,a1] 0x13bb2b02265047918c031173602192b130439f218b1897f7d7b796f6d6b695f5d5b1d307000
def xI (a0 a1:VC):=aF (mJ a0 a1)
def fM:VC:=mJ iX iO
def mQ:=cg fM (xI iX iO)
def mH (a0:VC):VC:=bx [a0] 0x11cb2902260045a1a031013071a0261d92b06c402101600191c753153040261c2042800392e03100
def wX (a0:VC):=aF (mH a0)
def fK:VC:=mH fM
def mG:=cg fK (wX fM)
def oJ (a0:VC):al:=aQ [a0] 0x10753153071a00618d2902260041a2a031004
def zo (a0:VC):=aF (oJ a0)
def jO:al:=oJ fK
def zK:=cg jO (zo fK)
abbrev qp:=[B 40 4,B 41 0,B 42 12,V 43 (.ia 1 (.m 41) (.m 42)),M 44 43,B 45 0,B 46 1,V 47 (.ia 1 (.m 45) (.m 46)),M 48 47,V 49 (.callv (.m 40) [.m 44,.m 48]),P 50 .lss 49 0]
def kz:VC:=.regP (.range 11) (.range 11) [] qp
def pC (a0:VC):VC:=bx [a0] 0x15892f019b1ac0212f1304fb2d022600419b19c03141304df20703dd3906001a823d618046201a861c00418e0018800710160192f1923040261c20418e001887c03100
def BU (a0:VC):=aF (pC a0)
def gS:VC:=pC kz
def pY:=cg gS (BU kz)
abbrev pV:=[B 61 0,B 62 13,B 63 0,B 64 13,P 65 .add 64 1,B 66 0,B 67 13,P 68 .add 67 1,V 69 (.ia 1 (.m 66) (.m 68)),M 70 69,B 71 0,B 72 13,V 73 (.ia 1 (.m 71) (.m 72)),M 74 73,V 75 (.ia 1 (.m 61) (.m 62)),N (.st 1 (.m 75) (.m 70)),V 76 (.ia 1 (.m 63) (.m 65)),N (.st 1 (.m 76) (.m 74))]
def jW:VC:=.regP (.range 18) [0,1,5,6,7,8,9,10,11,12,13,14,15,2,3,4,16,17] [] pV
def pX (a0:VC):VC:=bx [a0] 0x15db3b02260041a90031073602193b2d133040262a204226504188001aa1dc04100
def BR (a0:VC):=aF (pX a0)
def gX:VC:=pX jW
def pF:=cg gX (BR jW)
abbrev pQ:=[B 92 4,B 93 0,B 94 2,V 95 (.ia 1 (.m 93) (.m 94)),M 96 95,B 97 0,B 98 16,V 99 (.ia 1 (.m 97) (.m 98)),M 100 99,V 101 (.callv (.m 92) [.m 96,.m 100]),P 102 .lss 101 0,V 103 (.un .not (.m 102))]
def jX:VC:=.regP (.range 12) (.range 12) [] pQ
def pE (a0:VC):VC:=bx [a0] 0x119ff3f01cb2ee0213f13019f93d02260041cb2de031413019dd207018cd4906001a823d618046201a861c0041be001b800710564193f1923040261c2041be001b82cc03100
def BV (a0:VC):=aF (pE a0)
def gW:VC:=pE jX
def pW:=cg gW (BV jX)
abbrev pP:=[B 113 0,B 114 17,B 115 0,B 116 17,P 117 .sub 116 1,B 118 0,B 119 17,P 120 .sub 119 1,V 121 (.ia 1 (.m 118) (.m 120)),M 122 121,B 123 0,B 124 17,V 125 (.ia 1 (.m 123) (.m 124)),M 126 125,V 127 (.ia 1 (.m 113) (.m 114)),N (.st 1 (.m 127) (.m 122)),V 128 (.ia 1 (.m 115) (.m 117)),N (.st 1 (.m 128) (.m 126))]
def j0:VC:=.regP (.range 18) [0,1,5,6,7,8,9,10,11,12,13,14,15,2,3,4,16,17] [] pP
def pD (a0:VC):VC:=bx [a0] 0x11acb4b02265041d90031077606194b3d133040261c4041b8001da3ae03100
def BS (a0:VC):=aF (pD a0)
def ib:VC:=pD j0
def pT:=cg ib (BS j0)
abbrev pU:=[B 158 4,B 159 0,B 160 22,B 161 23,L 162 .sub 160 161,V 163 (.ia 1 (.m 159) (.m 162)),M 164 163,B 165 0,B 166 23,V 167 (.ia 1 (.m 165) (.m 166)),M 168 167,V 169 (.callv (.m 158) [.m 164,.m 168]),P 170 .lss 169 0,V 171 (.un .not (.m 170))]
def j5:VC:=.regP (.range 14) (.range 14) [] pU
def pK (a0:VC):VC:=bx [a0] 0x128af5b029d4ea0215b13028a959022600429d4d80316130288d20701ee95f06001a823d618046201a861c00428a001fc0071019618195d5b23040261c20428a001fc4d803100
def BT (a0:VC):=aF (pK a0)
def gU:VC:=pK j5
def pJ:=cg gU (BT j5)
def sy (a0 a1 a2 a3 a4:VC):al:=aQ [a0,a1,a2,a3,a4] 0x14694d1971530012961c2a383e52dc06c3b002d002ab001df0030071022463291873804871d26062e4022ac20260061c2042ac001e80019104593230012961c2a383e52dc06c3c001e8001fb00190040071022463291873804871d26061e84021fc20260061c2041fc001a001910045130012961c2a383e52dd06c3c002ac001f001fc0040071022463291873804871d26062ac4022820260061c20428001fc4ea01910028d969061c5041fc001ed4e804100223471a018601dfb5d02265041ee3fa03101ddf5b0283fa0211dd95901a3ee02101dcb5b01e83ee0211dbd59061c5042e001ee004100261c4041e800283d80310002229020002003101cf94f061c00428001e83d804101ccf4d06001a823d618046201a861c0042e001a3be07104506133371a0661a8d4b01f2ee0210001923271a04607df3f02828e02107d93d0190021071300222610461c50428002e1fe041004506133171a02658f3b0191ac0210001923071a00602ef2f02d4e02102e92d01f002100222610461c5041a0028680410005
def EZ (a0 a1 a2 a3 a4:VC):=aF (sy a0 a1 a2 a3 a4)
def mg:al:=sy gS gX gW ib gU
def fj:=cg mg (EZ gS gX gW ib gU)
def iI:VC:=bx [] 0x14d92f061c5041880018d0041012961c2a6818a52de06c3c001880061c5041880061c00418e00280061c50418800280046801d1039f2d061c50418e007f0041012961c2a385a52de06c3c0018e00280061c50418800280040019100261c40418b0018800310160192a13040261c3046900694a03100
def Dz:=aF iI
def uV (a0:VC):al:=aQ [a0] 0x1012961c2a385a52de06c3b007f001f0061c504188002800319c0191013071a00601d92f061c50428002d1804101af2d061c5041900282e041005
def GS (a0:VC):=aF (uV a0)
def nB:al:=uV iI
def Hj:=cg nB (GS iI)
abbrev pR:=[B 16 0,B 17 1,B 18 10,L 19 .add 17 18,B 20 0,B 21 2,B 22 10,L 23 .add 21 22,B 24 0,B 25 2,B 26 10,L 27 .add 25 26,V 28 (.ia 1 (.m 24) (.m 27)),M 29 28,B 30 0,B 31 1,B 32 10,L 33 .add 31 32,V 34 (.ia 1 (.m 30) (.m 33)),M 35 34,V 36 (.ia 1 (.m 16) (.m 19)),N (.st 1 (.m 36) (.m 29)),V 37 (.ia 1 (.m 20) (.m 23)),N (.st 1 (.m 37) (.m 35))]
def jZ:VC:=.regP (.range 24) [0,1,2,3,8,9,10,11,12,13,14,15,16,17,18,19,20,21,4,5,6,7,22,23] [] pR
def oY (a0:VC):VC:=bx [a0] 0x11bd2d0226004380031071600196753153040261c2042e0072c03100
def Ay (a0:VC):=aF (oY a0)
def gE:VC:=oY jZ
def pn:=cg gE (Ay jZ)
def q7 (a0:VC):al:=aQ [a0] 0x10753153071a006022a01101913005
def DA (a0:VC):=aF (q7 a0)
def lC:al:=q7 gE
def DD:=cg lC (DA gE)
def awn:T:=(.node 89 CD (.node 46 tX (.node 24 Gu (.node 13 J6 (.node 8 Rb (.node 5 sJ (.node 4 tD (.node 3 ov .leaf .leaf) .leaf) (.node 7 Mi (.node 6 Ji .leaf .leaf) .leaf)) (.node 11 Mc (.node 10 tk (.node 9 LR .leaf .leaf) .leaf) (.node 12 LH .leaf .leaf))) (.node 19 GK (.node 16 OQ (.node 15 E6 (.node 14 Me .leaf .leaf) .leaf) (.node 18 ajQ (.node 17 OZ .leaf .leaf) .leaf)) (.node 22 ur (.node 21 PU (.node 20 afE .leaf .leaf) .leaf) (.node 23 LD .leaf .leaf)))) (.node 35 Ee (.node 30 Od (.node 27 IE (.node 26 WT (.node 25 OD .leaf .leaf) .leaf) (.node 29 AD (.node 28 AI .leaf .leaf) .leaf)) (.node 33 qd (.node 32 vU (.node 31 Sf .leaf .leaf) .leaf) (.node 34 Iz .leaf .leaf))) (.node 41 Ta (.node 38 JK (.node 37 Mk (.node 36 Mo .leaf .leaf) .leaf) (.node 40 Dm (.node 39 OL .leaf .leaf) .leaf)) (.node 44 RB (.node 43 sO (.node 42 Oj .leaf .leaf) .leaf) (.node 45 pw .leaf .leaf))))) (.node 68 LI (.node 57 LF (.node 52 L7 (.node 49 JL (.node 48 Ml (.node 47 PR .leaf .leaf) .leaf) (.node 51 L3 (.node 50 LO .leaf .leaf) .leaf)) (.node 55 Lr (.node 54 PJ (.node 53 LZ .leaf .leaf) .leaf) (.node 56 Lu .leaf .leaf))) (.node 63 PS (.node 60 Gv (.node 59 L8 (.node 58 Lv .leaf .leaf) .leaf) (.node 62 Jk (.node 61 LX .leaf .leaf) .leaf)) (.node 66 ui (.node 65 Fc (.node 64 Cw .leaf .leaf) .leaf) (.node 67 E5 .leaf .leaf)))) (.node 79 Oy (.node 74 vP (.node 71 Mf (.node 70 GY (.node 69 vZ .leaf .leaf) .leaf) (.node 73 JC (.node 72 JA .leaf .leaf) .leaf)) (.node 77 LJ (.node 76 P3 (.node 75 IV .leaf .leaf) .leaf) (.node 78 GP .leaf .leaf))) (.node 84 Lm (.node 82 Jp (.node 81 E7 (.node 80 JQ .leaf .leaf) .leaf) (.node 83 Kc .leaf .leaf)) (.node 87 xB (.node 86 EG (.node 85 GN .leaf .leaf) .leaf) (.node 88 C6 .leaf .leaf)))))) (.node 132 Dk (.node 111 Cc (.node 100 Oo (.node 95 Ln (.node 92 EF (.node 91 Hc (.node 90 Fk .leaf .leaf) .leaf) (.node 94 acL (.node 93 Sc .leaf .leaf) .leaf)) (.node 98 yU (.node 97 afI (.node 96 Gx .leaf .leaf) .leaf) (.node 99 tC .leaf .leaf))) (.node 106 L0 (.node 103 vL (.node 102 AE (.node 101 kW .leaf .leaf) .leaf) (.node 105 G8 (.node 104 mI .leaf .leaf) .leaf)) (.node 109 Ez (.node 108 Hg (.node 107 lY .leaf .leaf) .leaf) (.node 110 EJ .leaf .leaf)))) (.node 122 C3 (.node 117 Jn (.node 114 Es (.node 113 IP (.node 112 Fj .leaf .leaf) .leaf) (.node 116 Ew (.node 115 DW .leaf .leaf) .leaf)) (.node 120 Hs (.node 119 GL (.node 118 Jd .leaf .leaf) .leaf) (.node 121 Ly .leaf .leaf))) (.node 127 Lj (.node 125 Mb (.node 124 GB (.node 123 Dp .leaf .leaf) .leaf) (.node 126 JU .leaf .leaf)) (.node 130 CW (.node 129 LC (.node 128 tf .leaf .leaf) .leaf) (.node 131 MK .leaf .leaf))))) (.node 154 CI (.node 143 mC (.node 138 xF (.node 135 IF (.node 134 Dw (.node 133 nt .leaf .leaf) .leaf) (.node 137 Xx (.node 136 aqy .leaf .leaf) .leaf)) (.node 141 Jz (.node 140 lZ (.node 139 yT .leaf .leaf) .leaf) (.node 142 vY .leaf .leaf))) (.node 149 AU (.node 146 Ll (.node 145 oq (.node 144 oQ .leaf .leaf) .leaf) (.node 148 ln (.node 147 LQ .leaf .leaf) .leaf)) (.node 152 CK (.node 151 Lo (.node 150 Gt .leaf .leaf) .leaf) (.node 153 yY .leaf .leaf)))) (.node 165 nv (.node 160 US (.node 157 G0 (.node 156 aak (.node 155 PD .leaf .leaf) .leaf) (.node 159 vR (.node 158 AF .leaf .leaf) .leaf)) (.node 163 qc (.node 162 aaE (.node 161 zh .leaf .leaf) .leaf) (.node 164 ah9 .leaf .leaf))) (.node 170 UP (.node 168 Cj (.node 167 nF (.node 166 yS .leaf .leaf) .leaf) (.node 169 UQ .leaf .leaf)) (.node 173 nB (.node 172 mg (.node 171 jO .leaf .leaf) .leaf) (.node 174 lC .leaf .leaf)))))))
def prog:Nat->Z_:=awn.look
abbrev rP (r:VC)(l:S_)(e:aZ):Prop:=∀{h:am}{n:Nat},(Dn prog).code r ⟨e,⟨h,n⟩⟩=fH (qe prog l e ⟨h,n⟩)
def mY {p g:C_}{o:S_}{l:S_}{e:aZ}(a:tE e o=true:=by kernel_rfl)(b:(p.all λi=>decide (i<o.length))=true:=by kernel_rfl)(c:p.filterMap (λi=>o[i]?)=l:=by kernel_rfl):rP (.regP p g [] o) l e:=an7 a b (by rw[c])
variable {x0 x1 x2 x3 x4 x5 x6 x7 x8 x9 x10 x11 x12 x13 x14 x15 x16 x17 x18 x19 x21 x69:AV}{y0 y1 y2 y3 y4 y5 y6 y7 y8 y9 y10 y11 y12 y13 y14 y15 y16 y17 y18 y19 y20 y21 y22 y23 y31 y32 y33 y46 y47 y70 y71 y80 y81 y140 y141:D}{h:am}{n:Nat}
@[simp] def aaj:rP lm sU [(5,.d y5),(14,x14),(16,x16),(17,.d y17),(18,.d y18),(19,.d y19),(20,.d y20),(21,.d y21)]:=mY
@[simp] def auL:rP Dg Nn [(1,.d y1),(3,x3),(8,x8)]:=mY
@[simp] def aub:(Dn prog).code Ct ⟨[(2,x2),(3,x3),(5,x5),(8,x8)],⟨h,n⟩⟩=fH (bA (ft h (some 5) (share x5)) λa1=>bA (ft ((ed (cO x8++[]) h)) (some 5) (share x8)) λa2=>bA (storeAt h 5 (share x2) (firm a1)) λh3=>dU (dR (((cO x8++[])++[])) h h3) <|bA (storeAt h3 5 (share x3) (firm a2)) λh4=>some ⟨[(2,x2),(3,x3),(4,O),(5,x5),(8,x8)],⟨h4,n⟩⟩):=d9 rfl rfl (by kernel_rfl)
@[simp] def awp:rP D7 QA [(4,x4),(5,.d y5),(6,.d y6),(15,x15),(16,.d y16),(17,.d y17)]:=mY
@[simp] def axQ:(Dn prog).code uZ ⟨[(2,x2),(4,x4),(6,x6)],⟨h,n⟩⟩=fH (bA (iQ 1 (share x2)) λa1=>bA (ft ((ed (cO (firm a1)++[]) h)) none (firm a1)) λa2=>bA (fe .sub (firm a2) (A_ 1)) λa3=>bP ((Dn prog).call j6 [firm (share x6),A_ 3] ⟨h,n⟩) λa4 s5=>dU (dR (((cO (firm a1)++[])++[])) h s5.heap) <|bA (fe .eql (firm a4) (.d a3)) λa6=>bP ((Dn prog).call lV [firm (share x6),.d a6] ⟨s5.heap,s5.next⟩) λa7 s8=>some ⟨[(2,x2),(4,x4),(6,x6),(41,firm a7)],⟨s8.heap,s8.next⟩⟩):=d9 rfl rfl (by kernel_rfl)
@[simp] def awq:rP xR Qd [(2,x2),(4,x4),(6,x6),(7,x7)]:=mY
@[simp] def avR:(Dn prog).code yz ⟨[(4,x4),(6,x6)],⟨h,n⟩⟩=fH (bA (eQ [.nl,B_ false,O,.nl,.nl] []) λa1=>bA (Gd (firm x6)) λa2=>bA (iQ 2 (firm a2)) λa3=>bA (ft ((ed (cO (firm a3)++[]) h)) none (firm a3)) λa4=>bA (storeAt h 5 (share x4) (firm (.agg a1))) λh5=>dU (dR (((cO (firm a3)++[])++[])) h h5) <|some ⟨[(4,x4),(5,firm (firm a4))],⟨h5,n⟩⟩):=d9 rfl rfl (by kernel_rfl)
@[simp] def awi:(Dn prog).code Ep ⟨[(4,x4),(6,x6)],⟨h,n⟩⟩=fH (bA (eQ [.nl,B_ false,O,.nl,.nl] []) λa1=>bA (Gd (firm x6)) λa2=>bA (iQ 2 (firm a2)) λa3=>bA (ft ((ed (cO (firm a3)++[]) h)) none (firm a3)) λa4=>bA (storeAt h 5 (share x4) (firm (.agg a1))) λh5=>dU (dR (((cO (firm a3)++[])++[])) h h5) <|some ⟨[(4,x4),(5,firm (firm a4))],⟨h5,n⟩⟩):=d9 rfl rfl (by kernel_rfl)
@[simp] def awh:rP Ek QM [(2,x2),(4,x4),(6,x6),(7,x7),(10,x10),(140,.d y140),(141,.d y141)]:=mY
@[simp] def avB:(Dn prog).code Eu ⟨[(4,x4),(6,x6)],⟨h,n⟩⟩=fH (bA (eQ [.nl,B_ false,O,.nl,.nl] []) λa1=>bA (Gd (firm x6)) λa2=>bA (iQ 2 (firm a2)) λa3=>bA (ft ((ed (cO (firm a3)++[]) h)) none (firm a3)) λa4=>bA (storeAt h 5 (share x4) (firm (.agg a1))) λh5=>dU (dR (((cO (firm a3)++[])++[])) h h5) <|some ⟨[(4,x4),(5,firm (firm a4))],⟨h5,n⟩⟩):=d9 rfl rfl (by kernel_rfl)
@[simp] def awk:(Dn prog).code yk ⟨[(4,x4),(6,x6)],⟨h,n⟩⟩=fH (bA (eQ [.nl,B_ false,O,.nl,.nl] []) λa1=>bA (Gd (firm x6)) λa2=>bA (iQ 2 (firm a2)) λa3=>bA (ft ((ed (cO (firm a3)++[]) h)) none (firm a3)) λa4=>bA (storeAt h 5 (share x4) (firm (.agg a1))) λh5=>dU (dR (((cO (firm a3)++[])++[])) h h5) <|some ⟨[(4,x4),(5,firm (firm a4))],⟨h5,n⟩⟩):=d9 rfl rfl (by kernel_rfl)
@[simp] def aqV:rP za JJ [(2,x2),(3,x3),(4,x4),(5,x5)]:=mY
@[simp] def aoE:rP v6 F8 [(0,x0),(1,.d y1)]:=mY
@[simp] def ayf:(Dn prog).code G5 ⟨[(6,x6),(7,x7),(8,x8)],⟨h,n⟩⟩=fH (bA (ft h (some 4) (share x6)) λa1=>bA (ft ((ed (cO x8++[]) h)) none (share x8)) λa2=>bA (storeAt h 4 (share x6) (firm a1)) λh3=>dU (dR (((cO x8++[])++[])) h h3) <|bA (storeAt h3 1 (share x7) (O)) λh4=>dU (dR (((cO x8++[])++[])) h3 h4) <|bA (storeAt h4 1 (share x8) (firm a2)) λh5=>some ⟨[(6,x6),(7,x7),(8,x8)],⟨h5,n⟩⟩):=d9 rfl rfl (by kernel_rfl)
@[simp] def aww:(Dn prog).code D5 ⟨[(6,x6),(7,x7),(8,x8)],⟨h,n⟩⟩=fH (bA (eQ [O8,O8,O,.nl] []) λa1=>bA (ft ((ed (cO x8++[]) h)) none (share x8)) λa2=>bA (storeAt h 4 (share x6) (firm (.agg a1))) λh3=>dU (dR (((cO x8++[])++[])) h h3) <|bA (storeAt h3 1 (share x7) (O)) λh4=>dU (dR (((cO x8++[])++[])) h3 h4) <|bA (storeAt h4 1 (share x8) (firm a2)) λh5=>some ⟨[(6,x6),(7,x7),(8,x8)],⟨h5,n⟩⟩):=d9 rfl rfl (by kernel_rfl)
@[simp] def avL:(Dn prog).code EB ⟨[(6,x6),(7,x7),(8,x8)],⟨h,n⟩⟩=fH (bA (ft h (some 4) (share x6)) λa1=>bA (ft ((ed (cO x7++[]) h)) none (share x7)) λa2=>bA (storeAt h 4 (share x6) (firm a1)) λh3=>dU (dR (((cO x7++[])++[])) h h3) <|bA (storeAt h3 1 (share x7) (firm a2)) λh4=>bA (storeAt h4 1 (share x8) (O)) λh5=>some ⟨[(6,x6),(7,x7),(8,x8)],⟨h5,n⟩⟩):=d9 rfl rfl (by kernel_rfl)
@[simp] def aza:(Dn prog).code IC ⟨[(10,x10),(11,x11),(12,x12)],⟨h,n⟩⟩=fH (bA (eQ [O,O8,O8,O,.nl,.nl,.nl,.nl,.nl] []) λa1=>bA (ft ((ed (cO x12++[]) h)) none (share x12)) λa2=>bA (storeAt h 9 (share x10) (firm (.agg a1))) λh3=>dU (dR (((cO x12++[])++[])) h h3) <|bA (storeAt h3 1 (share x11) (O)) λh4=>dU (dR (((cO x12++[])++[])) h3 h4) <|bA (storeAt h4 1 (share x12) (firm a2)) λh5=>some ⟨[(10,x10),(11,x11),(12,x12)],⟨h5,n⟩⟩):=d9 rfl rfl (by kernel_rfl)
@[simp] def azb:(Dn prog).code IW ⟨[(10,x10),(11,x11),(12,x12)],⟨h,n⟩⟩=fH (bA (eQ [O,O8,O8,O,.nl,.nl,.nl,.nl,.nl] []) λa1=>bA (ft ((ed (cO x12++[]) h)) none (share x12)) λa2=>bA (storeAt h 9 (share x10) (firm (.agg a1))) λh3=>dU (dR (((cO x12++[])++[])) h h3) <|bA (storeAt h3 1 (share x11) (O)) λh4=>dU (dR (((cO x12++[])++[])) h3 h4) <|bA (storeAt h4 1 (share x12) (firm a2)) λh5=>some ⟨[(10,x10),(11,x11),(12,x12)],⟨h5,n⟩⟩):=d9 rfl rfl (by kernel_rfl)
@[simp] def ayy:(Dn prog).code GC ⟨[(10,x10),(11,x11),(12,x12)],⟨h,n⟩⟩=fH (bA (eQ [O,O8,O8,O,.nl,.nl,.nl,.nl,.nl] []) λa1=>bA (ft ((ed (cO x12++[]) h)) none (share x12)) λa2=>bA (storeAt h 9 (share x10) (firm (.agg a1))) λh3=>dU (dR (((cO x12++[])++[])) h h3) <|bA (storeAt h3 1 (share x11) (O)) λh4=>dU (dR (((cO x12++[])++[])) h3 h4) <|bA (storeAt h4 1 (share x12) (firm a2)) λh5=>some ⟨[(10,x10),(11,x11),(12,x12)],⟨h5,n⟩⟩):=d9 rfl rfl (by kernel_rfl)
@[simp] def ayn:(Dn prog).code Am ⟨[(5,x5),(10,x10),(11,x11),(12,x12),(18,x18),(19,x19)],⟨h,n⟩⟩=fH (bA (ft ((ed (cO x5++[]) h)) none x5) λa1=>bA (ft ((ed (cO x11++[]) h)) none (share x11)) λa2=>bA (ft h none (share x18)) λa3=>bA (iQ 0 (share x19)) λa4=>bA (ft h none (firm a4)) λa5=>bP ((Dn prog).call mZ [firm a3,firm a5] ⟨h,n⟩) λa6 s7=>dU (dR (((cO x11++[])++((cO x5++[])++[]))) h s7.heap) <|bA (fw (Dn prog) yq [firm a1,firm a2,firm a6] s7.heap) λa8=>bA (AP true (firm (firm a8)) 0) λa9=>bA (AP false (PB (firm (firm a8)) 0) 1) λa10=>bA (AP false (PB (firm (firm a8)) 0) 2) λa11=>bA (storeAt s7.heap 1 (share x11) (firm a10)) λh12=>bA (storeAt h12 1 (share x12) (firm a11)) λh13=>some ⟨[(10,x10),(11,x11),(12,x12),(18,x18),(19,x19),(20,firm (firm a9)),(84,PB (firm (firm a8)) 0)],⟨h13,s7.next⟩⟩):=d9 rfl rfl (by kernel_rfl)
@[simp] def ayI:(Dn prog).code Ab ⟨[(10,x10),(11,x11),(12,x12)],⟨h,n⟩⟩=fH (bA (eQ [O,O8,O8,O,.nl,.nl,.nl,.nl,.nl] []) λa1=>bA (ft ((ed (cO x12++[]) h)) none (share x12)) λa2=>bA (storeAt h 9 x10 (firm (.agg a1))) λh3=>dU (dR (((cO x12++[])++[])) h h3) <|bA (storeAt h3 1 x11 (O)) λh4=>dU (dR (((cO x12++[])++[])) h3 h4) <|bA (storeAt h4 1 (share x12) (firm a2)) λh5=>some ⟨[(12,x12)],⟨h5,n⟩⟩):=d9 rfl rfl (by kernel_rfl)
@[simp] def ayd:(Dn prog).code GX ⟨[(10,x10),(11,x11),(12,x12)],⟨h,n⟩⟩=fH (bA (ft h (some 9) (share x10)) λa1=>bA (ft ((ed (cO x11++[]) h)) none (share x11)) λa2=>bA (storeAt h 9 (share x10) (firm a1)) λh3=>dU (dR (((cO x11++[])++[])) h h3) <|bA (storeAt h3 1 (share x11) (firm a2)) λh4=>bA (storeAt h4 1 (share x12) (O)) λh5=>some ⟨[(10,x10),(11,x11),(12,x12)],⟨h5,n⟩⟩):=d9 rfl rfl (by kernel_rfl)
@[simp] def axu:rP Ha SN [(0,x0),(1,.d y1),(6,x6)]:=mY
@[simp] def ayZ:(Dn prog).code Ho ⟨[(6,x6),(11,x11),(12,x12),(13,x13)],⟨h,n⟩⟩=fH (bA (ft h none (share x11)) λa1=>bA (iQ 0 (share x13)) λa2=>bA (ft h none (firm a2)) λa3=>bA (iQ 8 (share x6)) λa4=>bA (ft ((ed (cO (firm a4)++[]) h)) none (firm a4)) λa5=>bA (iQ 1 (share x13)) λa6=>bA (ft ((ed (cO (firm a6)++[]) h)) none (firm a6)) λa7=>bA (iQ 2 (share x13)) λa8=>bA (ft ((ed (cO (firm a8)++[]) h)) none (firm a8)) λa9=>bA (mF ((ed (cO (firm a5)++[]) h)) 1 (firm a5) (some (firm a7)) (some (firm a9)) none) λa10=>bP ((Dn prog).call mZ [firm a1,firm a3] ⟨h,n⟩) λa11 s12=>dU (dR (((cO (firm a5)++[])++((cO (firm a8)++[])++((cO (firm a6)++[])++((cO (firm a4)++[])++[]))))) h s12.heap) <|bA (fw (Dn prog) H1 [.nl,firm a11,firm a10] s12.heap) λa13=>bA (AP true (firm (firm a13)) 0) λa14=>bA (AP false (PB (firm (firm a13)) 0) 1) λa15=>some ⟨[(6,x6),(11,x11),(12,x12),(13,x13),(14,firm (firm a14)),(15,firm (firm a15)),(88,PB (firm (firm a13)) 0)],⟨s12.heap,s12.next⟩⟩):=d9 rfl rfl (by kernel_rfl)
@[simp] def avN:(Dn prog).code ED ⟨[(8,x8),(9,x9),(10,x10)],⟨h,n⟩⟩=fH (bA (ft ((ed (cO x10++[]) h)) none (share x10)) λa1=>bA (storeAt h 1 (share x8) .nl) λh2=>dU (dR (((cO x10++[])++[])) h h2) <|bA (storeAt h2 1 (share x9) (O)) λh3=>dU (dR (((cO x10++[])++[])) h2 h3) <|bA (storeAt h3 1 (share x10) (firm a1)) λh4=>some ⟨[(8,x8),(9,x9),(10,x10)],⟨h4,n⟩⟩):=d9 rfl rfl (by kernel_rfl)
@[simp] def atJ:(Dn prog).code Cy ⟨[(8,x8),(9,x9),(10,x10)],⟨h,n⟩⟩=fH (bA (ft ((ed (cO x10++[]) h)) none (share x10)) λa1=>bA (storeAt h 1 x8 .nl) λh2=>dU (dR (((cO x10++[])++[])) h h2) <|bA (storeAt h2 1 x9 (O)) λh3=>dU (dR (((cO x10++[])++[])) h2 h3) <|bA (storeAt h3 1 (share x10) (firm a1)) λh4=>some ⟨[(10,x10)],⟨h4,n⟩⟩):=d9 rfl rfl (by kernel_rfl)
@[simp] def atL:(Dn prog).code Do ⟨[(8,x8),(9,x9),(10,x10)],⟨h,n⟩⟩=fH (bA (ft h none (share x8)) λa1=>bA (ft ((ed (cO x9++[]) h)) none (share x9)) λa2=>bA (storeAt h 1 (share x8) (firm a1)) λh3=>dU (dR (((cO x9++[])++[])) h h3) <|bA (storeAt h3 1 (share x9) (firm a2)) λh4=>bA (storeAt h4 1 (share x10) (O)) λh5=>some ⟨[(8,x8),(9,x9),(10,x10)],⟨h5,n⟩⟩):=d9 rfl rfl (by kernel_rfl)
@[simp] def aso:(Dn prog).code yZ ⟨[(6,x6),(7,x7),(8,x8),(10,x10),(11,x11),(12,.d y12),(13,x13),(15,.d y15),(32,.d y32),(33,.d y33),(46,.d y46),(47,.d y47)],⟨h,n⟩⟩=fH (bA (KD 5 1 (share x11) (A_ 1)) λa1=>bA (ft h none (firm a1)) λa2=>bA (KD 5 1 (share x11) (A_ 2)) λa3=>bA (ft ((ed (cO (firm a3)++[]) h)) none (firm a3)) λa4=>bP (cA (Dn prog) (firm (share x10)) [firm a2] ⟨h,n⟩) λa5 s6=>dU (dR (((cO (firm a3)++[])++[])) h s6.heap) <|bP (cA (Dn prog) (firm (share x10)) [firm a4] ⟨s6.heap,s6.next⟩) λa7 s8=>bA (eQ [O,O,B_ false,B_ false,.nl] [(3,1,.d y15),(0,1,firm a5),(1,1,firm a7)]) λa9=>lA (put s8.heap s8.next (.cells [O,O,B_ false,B_ false,.nl])) λh10=>bA (storeAt h10 5 (.ptr s8.next 0) (firm (.agg a9))) λh11=>some ⟨[(6,x6),(7,x7),(8,x8),(10,x10),(11,x11),(12,.d y12),(13,x13),(15,.d y15),(16,.ptr s8.next 0),(32,.d y32),(33,.d y33),(46,.d y46),(47,.d y47)],⟨h11,s8.next+1⟩⟩):=d9 rfl rfl (by kernel_rfl)
@[simp] def arx:rP yV Iq [(6,x6),(7,x7),(8,x8),(10,x10),(11,x11),(12,.d y12),(13,x13),(15,.d y15),(16,x16),(17,.d y17),(18,.d y18),(19,.d y19),(32,.d y32),(33,.d y33),(46,.d y46),(47,.d y47),(80,.d y80),(81,.d y81)]:=mY
@[simp] def arP:(Dn prog).code yW ⟨[(7,x7),(8,x8)],⟨h,n⟩⟩=fH (bA (ft ((ed (cO x8++[]) h)) none (share x8)) λa1=>bA (storeAt h 1 (share x7) (O)) λh2=>dU (dR (((cO x8++[])++[])) h h2) <|bA (storeAt h2 1 (share x8) (firm a1)) λh3=>some ⟨[(6,.nl),(7,x7),(8,x8)],⟨h3,n⟩⟩):=d9 rfl rfl (by kernel_rfl)
@[simp] def aru:rP zn IH [(6,x6),(7,x7),(8,x8)]:=mY
@[simp] def avw:(Dn prog).code Em ⟨[(0,x0),(1,x1)],⟨h,n⟩⟩=fH (bA (ft ((ed (cO x0++[]) h)) none (share x0)) λa1=>bA (ft h none x1) λa2=>bP (cA (Dn prog) (firm a2) [] ⟨h,n⟩) λa3 s4=>dU (dR (((cO x0++[])++[])) h s4.heap) <|bA (fe .or (firm a1) (firm a3)) λa5=>bA (storeAt s4.heap 1 (share x0) (.d a5)) λh6=>some ⟨[(0,x0)],⟨h6,s4.next⟩⟩):=d9 rfl rfl (by kernel_rfl)
@[simp] def avX:rP yn QB [(10,x10)]:=mY
@[simp] def awd:rP yr Qc [(6,x6),(10,x10)]:=mY
@[simp] def apJ:rP xH HI [(0,x0),(1,.d y1),(4,x4)]:=mY
@[simp] def auG:rP De NG [(4,x4),(11,x11),(15,.d y15),(16,.d y16)]:=mY
@[simp] def aui:rP Ch NI [(4,x4),(11,x11),(15,.d y15),(16,.d y16)]:=mY
@[simp] def av1:rP EY QE [(0,x0),(4,x4),(15,x15),(16,x16),(17,x17),(20,.d y20),(21,.d y21),(69,x69),(70,.d y70),(71,.d y71)]:=mY
@[simp] def akO:rP tz Df [(0,x0),(2,.d y2)]:=mY
@[simp] def apL:rP wM HA [(0,x0),(2,x2),(3,x3),(5,.d y5),(6,.d y6),(8,.d y8),(10,x10),(11,.d y11),(12,.d y12),(13,.d y13),(14,x14),(15,.d y15),(16,.d y16),(21,x21),(22,.d y22),(23,.d y23)]:=mY
@[simp] def amz:rP ue DN [(0,x0),(1,.d y1)]:=mY
@[simp] def afU:rP oV yI [(0,x0),(3,.d y3)]:=mY
@[simp] def ax6:rP GR Rw [(0,.d y0),(2,x2),(4,x4)]:=mY
@[simp] def MM:(Dn prog).code Ah ⟨[(2,x2),(4,x4),(6,x6)],⟨h,n⟩⟩=fH (bP (loadAt h (some 4) 1 (share x4)) λa1 h2=>bA (fw (Dn prog) ig [firm a1] h2) λa3=>lA (put h2 n (.cells [O8,O8,O8,O8,O8,O8,O8,O8,O8,O8,O8,O8,O8,O8,O8,O8,O8,O8,O8,O8,O8,O8,O8,O8,O8,O8,O8,O8,O8,O8,O8,O8,O8,O8,O8,O8,O8,O8,O8,O8,O8,O8,O8,O8,O8,O8,O8,O8,O8,O8,O8,O8,O8,O8,O8,O8,O8,O8,O8,O8,O8,O8,O8,O8,O8,O8,O8,O8,O8,O8,O8,O8,O8,O8,O8,O8,O8,O8,O8,O8,O8,O8,O8,O8,O8,O8,O8,O8,O8,O8,O8,O8,O8,O8,O8,O8,O8,O8,O8,O8,O8,O8,O8,O8,O8,O8,O8,O8,O8,O8,O8,O8,O8,O8,O8,O8,O8,O8,O8,O8,O8,O8,O8,O8,O8,O8,O8,O8,O8,O8,O8,O8,O8,O8,O8,O8,O8,O8,O8,O8,O8,O8,O8,O8,O8,O8,O8,O8,O8,O8,O8,O8,O8,O8,O8,O8,O8,O8,O8,O8,O8,O8,O8,O8,O8,O8,O8,O8,O8,O8,O8,O8,O8,O8,O8,O8,O8,O8,O8,O8,O8,O8,O8,O8,O8,O8,O8,O8,O8,O8,O8,O8,O8,O8,O8,O8,O8,O8,O8,O8,O8,O8,O8,O8,O8,O8,O8,O8,O8,O8,O8,O8,O8,O8,O8,O8,O8,O8,O8,O8,O8,O8,O8,O8,O8,O8,O8,O8,O8,O8,O8,O8,O8,O8,O8,O8,O8,O8,O8,O8,O8,O8,O8,O8,O8,O8,O8,O8,O8,O8,O8,O8,O8,O8,O8,O8,O8,O8,O8,O8,O8,O8,O8,O8,O8,O8,O8,O8,O8,O8,O8,O8,O8,O8,O8,O8,O8,O8,O8,O8,O8,O8,O8,O8,O8,O8,O8,O8,O8])) λh4=>bA (storeAt h4 289 (.ptr n 0) (firm a3)) λh5=>some ⟨[(2,x2),(4,x4),(6,x6),(7,.ptr n 0)],⟨h5,n+1⟩⟩):=FY (by kernel_rfl)
@[simp] def aqg:rP ze IL [(5,x5),(6,x6),(7,x7),(8,x8),(11,.d y11),(12,.d y12)]:=mY
@[simp] def apK:rP xz HF [(2,x2),(8,x8),(21,x21),(22,.d y22),(23,.d y23)]:=mY
@[simp] def apM:rP wO Hu [(0,.d y0),(1,.d y1),(2,x2)]:=mY
@[simp] def awl:rP D3 Qh [(2,x2),(6,.d y6),(9,x9)]:=mY
@[simp] def JB:(Dn prog).code wd ⟨[(1,x1),(3,x3)],⟨h,n⟩⟩=fH (bP (loadAt h (some 4) 1 (share x3)) λa1 h2=>bA (fw (Dn prog) ig [firm a1] h2) λa3=>lA (put h2 n (.cells [O8,O8,O8,O8,O8,O8,O8,O8,O8,O8,O8,O8,O8,O8,O8,O8,O8,O8,O8,O8,O8,O8,O8,O8,O8,O8,O8,O8,O8,O8,O8,O8,O8,O8,O8,O8,O8,O8,O8,O8,O8,O8,O8,O8,O8,O8,O8,O8,O8,O8,O8,O8,O8,O8,O8,O8,O8,O8,O8,O8,O8,O8,O8,O8,O8,O8,O8,O8,O8,O8,O8,O8,O8,O8,O8,O8,O8,O8,O8,O8,O8,O8,O8,O8,O8,O8,O8,O8,O8,O8,O8,O8,O8,O8,O8,O8,O8,O8,O8,O8,O8,O8,O8,O8,O8,O8,O8,O8,O8,O8,O8,O8,O8,O8,O8,O8,O8,O8,O8,O8,O8,O8,O8,O8,O8,O8,O8,O8,O8,O8,O8,O8,O8,O8,O8,O8,O8,O8,O8,O8,O8,O8,O8,O8,O8,O8,O8,O8,O8,O8,O8,O8,O8,O8,O8,O8,O8,O8,O8,O8,O8,O8,O8,O8,O8,O8,O8,O8,O8,O8,O8,O8,O8,O8,O8,O8,O8,O8,O8,O8,O8,O8,O8,O8,O8,O8,O8,O8,O8,O8,O8,O8,O8,O8,O8,O8,O8,O8,O8,O8,O8,O8,O8,O8,O8,O8,O8,O8,O8,O8,O8,O8,O8,O8,O8,O8,O8,O8,O8,O8,O8,O8,O8,O8,O8,O8,O8,O8,O8,O8,O8,O8,O8,O8,O8,O8,O8,O8,O8,O8,O8,O8,O8,O8,O8,O8,O8,O8,O8,O8,O8,O8,O8,O8,O8,O8,O8,O8,O8,O8,O8,O8,O8,O8,O8,O8,O8,O8,O8,O8,O8,O8,O8,O8,O8,O8,O8,O8,O8,O8,O8,O8,O8,O8,O8,O8,O8,O8,O8])) λh4=>bA (storeAt h4 289 (.ptr n 0) (firm a3)) λh5=>some ⟨[(1,x1),(3,x3),(5,.ptr n 0)],⟨h5,n+1⟩⟩):=FY (by kernel_rfl)
@[simp] def akv:rP s9 Cb [(1,.d y1),(2,x2),(5,x5),(6,.d y6)]:=mY
@[simp] def BH:(Dn prog).code ou ⟨[(0,x0)],⟨h,n⟩⟩=fH (dU ((AV.cells x0).all bl) <|lA (put h n (.cells (AV.cells x0))) λh1=>lA (put h1 (n+1) (.cells [O8,O8,O8,O8,O8,O8,O8,O8,O8,O8,O8,O8,O8,O8,O8,O8,O8,O8,O8,O8,O8,O8,O8,O8,O8,O8,O8,O8,O8,O8,O8,O8,O8,O8,O8,O8,O8,O8,O8,O8,O8,O8,O8,O8,O8,O8,O8,O8,O8,O8,O8,O8,O8,O8,O8,O8,O8,O8,O8,O8,O8,O8,O8,O8,O8,O8,O8,O8,O8,O8,O8,O8,O8,O8,O8,O8,O8,O8,O8,O8,O8,O8,O8,O8,O8,O8,O8,O8,O8,O8,O8,O8,O8,O8,O8,O8,O8,O8,O8,O8,O8,O8,O8,O8,O8,O8,O8,O8,O8,O8,O8,O8,O8,O8,O8,O8,O8,O8,O8,O8,O8,O8,O8,O8,O8,O8,O8,O8,O8,O8,O8,O8,O8,O8,O8,O8,O8,O8,O8,O8,O8,O8,O8,O8,O8,O8,O8,O8,O8,O8,O8,O8,O8,O8,O8,O8,O8,O8,O8,O8,O8,O8,O8,O8,O8,O8,O8,O8,O8,O8,O8,O8,O8,O8,O8,O8,O8,O8,O8,O8,O8,O8,O8,O8,O8,O8,O8,O8,O8,O8,O8,O8,O8,O8,O8,O8,O8,O8,O8,O8,O8,O8,O8,O8,O8,O8,O8,O8,O8,O8,O8,O8,O8,O8,O8,O8,O8,O8,O8,O8,O8,O8,O8,O8,O8,O8,O8,O8,O8,O8,O8,O8,O8,O8,O8,O8,O8,O8,O8,O8,O8,O8,O8,O8,O8,O8,O8,O8,O8,O8,O8,O8,O8,O8,O8,O8,O8,O8,O8,O8,O8,O8,O8,O8,O8,O8,O8,O8,O8,O8,O8,O8,O8,O8,O8,O8,O8,O8,O8,O8,O8,O8,O8,O8,O8,O8,O8,O8,O8])) λh2=>some ⟨[(1,.ptr n 0),(2,.ptr (n+1) 0)],⟨h2,n+1+1⟩⟩):=FY (by kernel_rfl)
@[simp] def Rf:rP iX nf [(0,x0),(1,.d y1),(2,.d y2),(3,x3),(8,.d y8),(9,.d y9)]:=mY
@[simp] def Rh:rP iO ni [(0,x0),(1,.d y1),(2,.d y2),(3,x3),(8,.d y8),(9,.d y9)]:=mY
@[simp] def Xd:rP kz qp [(0,x0),(1,.d y1),(4,x4),(10,.d y10),(11,.d y11),(12,.d y12)]:=mY
@[simp] def Vi:rP jW pV [(0,x0),(10,.d y10),(13,.d y13)]:=mY
@[simp] def Vv:rP jX pQ [(0,x0),(2,.d y2),(4,x4),(14,.d y14),(15,.d y15),(16,.d y16)]:=mY
@[simp] def Vh:rP j0 pP [(0,x0),(14,.d y14),(17,.d y17)]:=mY
@[simp] def V2:rP j5 pU [(0,x0),(1,.d y1),(2,.d y2),(3,.d y3),(4,x4),(18,.d y18),(19,.d y19),(20,.d y20),(21,.d y21),(22,.d y22),(23,.d y23)]:=mY
@[simp] def VG:rP jZ pR [(0,x0),(1,.d y1),(2,.d y2),(3,.d y3),(10,.d y10)]:=mY
def iy:prog wg=some ov:=rfl
def MG:prog A8=some tD:=rfl
def MC:prog tc=some sJ:=rfl
def Da:prog xK=some Ji:=rfl
def oK:prog Fz=some Mi:=rfl
def Vr:prog VJ=some LR:=rfl
def eI:prog ti=some tk:=rfl
def Vz:prog Mp=some Mc:=rfl
def alv:prog LA=some LH:=rfl
def aic:prog Rz=some J6:=rfl
def alF:prog VL=some Me:=rfl
def ab7:prog E9=some E6:=rfl
def aoi:prog CE=some OQ:=rfl
def aoj:prog PZ=some OZ:=rfl
def afA:prog GT=some GK:=rfl
def aph:prog yf=some PU:=rfl
def PA:prog CU=some ur:=rfl
def akf:prog zO=some LD:=rfl
def ae0:prog P8=some Gu:=rfl
def anj:prog yx=some OD:=rfl
def auB:prog ag5=some WT:=rfl
def aiH:prog J2=some IE:=rfl
def XR:prog lV=some AI:=rfl
def WU:prog j6=some AD:=rfl
def NW:prog Cv=some Od:=rfl
def Gi:prog tR=some Sf:=rfl
def lQ:prog vT=some vU:=rfl
def yF:prog qg=some qd:=rfl
def ahH:prog wP=some Iz:=rfl
def acp:prog NL=some Ee:=rfl
def aks:prog FA=some Mo:=rfl
def U8:prog LV=some Mk:=rfl
def ahz:prog Sy=some JK:=rfl
def OI:prog Ps=some OL:=rfl
def ZE:prog fL=some Dm:=rfl
def arv:prog adl=some Ta:=rfl
def aop:prog O9=some Oj:=rfl
def Bx:prog sP=some sO:=rfl
def adS:prog Gj=some RB:=rfl
def JE:prog xD=some pw:=rfl
def PH:prog oj=some tX:=rfl
def aoo:prog aa1=some PR:=rfl
def ajI:prog VY=some Ml:=rfl
def ag4:prog wR=some JL:=rfl
def akk:prog Ls=some LO:=rfl
def ajN:prog zw=some L3:=rfl
def VU:prog oH=some L7:=rfl
def aj2:prog zB=some LZ:=rfl
def anM:prog Zi=some PJ:=rfl
def aj7:prog zC=some Lr:=rfl
def akH:prog V8=some Lu:=rfl
def akI:prog zQ=some LF:=rfl
def akw:prog zy=some Lv:=rfl
def We:prog oC=some L8:=rfl
def ae7:prog QG=some Gv:=rfl
def akU:prog zN=some LX:=rfl
def aje:prog SY=some Jk:=rfl
def aoB:prog yq=some PS:=rfl
def ZA:prog mZ=some Cw:=rfl
def abt:prog Nv=some Fc:=rfl
def Cn:prog uw=some ui:=rfl
def aa7:prog NQ=some E5:=rfl
def alE:prog Vq=some LI:=rfl
def QZ:prog DH=some vZ:=rfl
def ae6:prog qj=some GY:=rfl
def akT:prog Mj=some Mf:=rfl
def ajB:prog Dh=some JA:=rfl
def ahc:prog RR=some JC:=rfl
def DF:prog vK=some vP:=rfl
def IJ:prog jL=some IV:=rfl
def api:prog ZJ=some P3:=rfl
def alr:prog Wc=some LJ:=rfl
def afr:prog GA=some GP:=rfl
def ZD:prog H1=some Oy:=rfl
def agk:prog JW=some JQ:=rfl
def ab2:prog Ey=some E7:=rfl
def agB:prog Rn=some Jp:=rfl
def aiy:prog ST=some Kc:=rfl
def ak6:prog Vd=some Lm:=rfl
def aeI:prog GV=some GN:=rfl
def abA:prog NC=some EG:=rfl
def RX:prog qR=some xB:=rfl
def ZS:prog Dj=some C6:=rfl
def aaL:prog Dc=some CD:=rfl
def abX:prog El=some Fk:=rfl
def afH:prog Hk=some Hc:=rfl
def abf:prog jh=some EF:=rfl
def aqp:prog Tj=some Sc:=rfl
def alC:prog Vj=some Ln:=rfl
def aeL:prog Qn=some Gx:=rfl
def UN:prog zg=some yU:=rfl
def NM:prog Bn=some tC:=rfl
def apc:prog HY=some Oo:=rfl
def Cp:prog qL=some kW:=rfl
def WZ:prog AK=some AE:=rfl
def Rc:prog DG=some vL:=rfl
def FN:prog tP=some mI:=rfl
def afq:prog GU=some G8:=rfl
def akK:prog Vu=some L0:=rfl
def EL:prog sD=some lY:=rfl
def aeP:prog Hn=some Hg:=rfl
def abI:prog Fi=some Ez:=rfl
def acH:prog Ei=some EJ:=rfl
def X6:prog Cu=some Cc:=rfl
def aa8:prog ET=some Fj:=rfl
def ahr:prog It=some IP:=rfl
def ac8:prog Fh=some Es:=rfl
def aca:prog E4=some DW:=rfl
def ac1:prog Fg=some Ew:=rfl
def agL:prog Cx=some Jn:=rfl
def aiD:prog Tc=some Jd:=rfl
def aeC:prog Qu=some GL:=rfl
def afk:prog Qq=some Hs:=rfl
def ak1:prog Fy=some Ly:=rfl
def aaP:prog Kw=some C3:=rfl
def YU:prog qy=some Dp:=rfl
def afL:prog QP=some GB:=rfl
def alx:prog Ww=some Mb:=rfl
def ai9:prog Sr=some JU:=rfl
def ak7:prog U9=some Lj:=rfl
def Mw:prog Bm=some tf:=rfl
def ajL:prog V4=some LC:=rfl
def aae:prog KJ=some CW:=rfl
def aa3:prog jD=some Dk:=rfl
def Hf:prog nE=some nt:=rfl
def aaD:prog Dx=some Dw:=rfl
def ajd:prog JT=some IF:=rfl
def SD:prog Gk=some xF:=rfl
def UM:prog ig=some yT:=rfl
def Ef:prog sW=some lZ:=rfl
def ai2:prog Ja=some Jz:=rfl
def Q4:prog DI=some vY:=rfl
def tN:prog tM=some mC:=rfl
def wY:prog xq=some oQ:=rfl
def ww:prog v8=some oq:=rfl
def ak2:prog VD=some Ll:=rfl
def alk:prog Vw=some LQ:=rfl
def DC:prog fT=some ln:=rfl
def Xf:prog pg=some AU:=rfl
def afG:prog QL=some Gt:=rfl
def alj:prog VX=some Lo:=rfl
def X9:prog nh=some CK:=rfl
def UV:prog nY=some yY:=rfl
def aaq:prog K0=some CI:=rfl
def anQ:prog YO=some PD:=rfl
def afB:prog Hq=some G0:=rfl
def W4:prog ut=some AF:=rfl
def Q6:prog DL=some vR:=rfl
def U6:prog HN=some zh:=rfl
def yQ:prog yJ=some qc:=rfl
def GW:prog vq=some nv:=rfl
def UT:prog Ht=some yS:=rfl
def uY:prog vk=some nF:=rfl
def aad:prog wE=some Cj:=rfl
def zM:prog oG=some jO:=rfl
def fm:prog cW=some mg:=rfl
def GI:prog vg=some nB:=rfl
def DE:prog rA=some lC:=rfl
variable {P:Nat->Z_}
inductive R (α:Type) where
 |ok (v:α) (n:Nat)
 |er (e:Nat)
open Classical in
def rK {α γ:Type}(p:α->Nat->Prop)(r:R α)(f:α->Nat->γ)(g:Nat->γ):γ :=
 match r with
 |.ok v n=>if p v n then f v n else g 0
 |.er e=>g e
def kl {α γ:Type}{p q:α->Nat->Prop}{r:R α}{f f2:α->Nat->γ}{g g2:Nat->γ}(hp:∀v n,p v n=q v n)(h:∀v n,q v n->f v n=f2 v n)(k:∀e,g e=g2 e):rK p r f g=rK q r f2 g2:=by
 have:p=q:=funext λv=>funext λn=>hp v n
 subst this
 cases r with
 |ok v n =>
  simp only[rK];split
  .exact h _ _ ‹_›
  .exact k 0
 |er e=>exact k e
attribute [congr] kl
def zS {α γ δ:Type}{p:α->Nat->Prop}{r:R α}{f:α->Nat->γ}{g:Nat->γ}(k:γ->δ):k (rK p r f g)=rK p r (λv n=>k (f v n)) λe=>k (g e):=by
 cases r with
 |ok v n=>simp only[rK];split<;>rfl
 |er e=>rfl
section
variable {α:Type}{p:α->Nat->Prop}{r:R α}
@[simp ↓] def aAG {f:α->Nat->J_}{g:Nat->J_}{b:VC}:AN P (rK p r f g) b=rK p r (λv n=>AN P (f v n) b) λe=>AN P (g e) b:=zS λx=>AN P x b
@[simp ↓] def aBj {f:α->Nat->J_}{g:Nat->J_}{i:Nat}:zk i (rK p r f g)=rK p r (λv n=>zk i (f v n)) λe=>zk i (g e):=zS (zk i)
@[simp ↓] def alG {f:α->Nat->J_}{g:Nat->J_}{a:VC}:rV P a (rK p r f g)=rK p r (λv n=>rV P a (f v n)) λe=>rV P a (g e):=zS (rV P a)
@[simp ↓] def aIn {f:α->Nat->Y_}{g:Nat->Y_}:fH (rK p r f g)=rK p r (λv n=>fH (f v n)) λe=>fH (g e):=zS fH
@[simp ↓] def aIz {f:α->Nat->J_}{g:Nat->J_}{rs:AH_}:wS rs (rK p r f g)=rK p r (λv n=>wS rs (f v n)) λe=>wS rs (g e):=zS (wS rs)
@[simp ↓] def aIo {f:α->Nat->X_}{g:Nat->X_}:tZ (rK p r f g)=rK p r (λv n=>tZ (f v n)) λe=>tZ (g e):=zS tZ
@[simp ↓] def aJ4 {γ β:Type}{f:α->Nat->Option γ}{g:Nat->Option γ}{k:γ->Option β}:bA (rK p r f g) k=rK p r (λv n=>bA (f v n) k) λe=>bA (g e) k:=zS λx=>bA x k
@[simp ↓] def aKb {γ δ β:Type}{f:α->Nat->Option (γ×δ)}{g:Nat->Option (γ×δ)}{k:γ->δ->Option β}:bP (rK p r f g) k=rK p r (λv n=>bP (f v n) k) λe=>bP (g e) k:=zS λx=>bP x k
@[simp] theorem jf {γ:Type}{f:α->Nat->γ}{g:Nat->γ}{e:Nat}:rK p (.er e) f g=g e:=(rfl)
theorem fp {γ:Type}{f:α->Nat->γ}{g:Nat->γ}{v:α}{n:Nat}(h:p v n):rK p (.ok v n) f g=f v n:=by simp only[rK,ac h]
@[simp] def aJo {γ:Type}{f:α->Nat->γ}{g:Nat->γ}{c:Prop}[Decidable c]{x y:R α}:rK p (if c then x else y) f g=if c then rK p x f g else rK p y f g:=by split<;>rfl
end
def avz {α:Type}{a b:Prop}[Decidable a][Decidable b]{x y:α}(h:b↔¬a):(if a then x else y)=if b then y else x:=by
 by_cases ha:a
 .rw[ac ha,aa (λhb=>h.1 hb ha)]
 .rw[aa ha,ac (h.2 ha)]
def avU {α:Type}{a b:Prop}[Decidable a][Decidable b]{x y:α}(h:a↔b):(if a then x else y)=if b then x else y:=by
 by_cases ha:a
 .rw[ac ha,ac (h.1 ha)]
 .rw[aa ha,aa (λhb=>ha (h.2 hb))]
def cellsOf:Obj->Option D_
 |.cells cs=>some cs
 |_=>none
def apf:Obj->AE_
 |.arr _ xs=>some xs
 |_=>none
@[simp ↓] def aEh {cs:D_}:cellsOf (.cells cs)=some cs:=(rfl)
@[simp ↓] def aHT {m:Nat}{xs:E_}:apf (.arr m xs)=some xs:=(rfl)
@[simp] def aHQ {h:am}{id off:Nat}:ft h none (.ptr id off)=bA (get h id) λo=>bA (cellsOf o) λcs=>bA cs[off]? λv=>some (share v):=by
 simp only[ft,loadAt]
 cases get h id with
 |none=>rfl
 |some o =>
  cases o<;>try rfl
  rename_i cs;simp only[bA,cellsOf]
  cases cs[off]?<;>rfl
@[simp] def aGK {h:am}{id off n:Nat}:ft h (some n) (.ptr id off)=bA (get h id) λo=>bA (cellsOf o) λcs=>dU (Nat.ble (off+n) cs.length) (some (.agg (shareAll (sub cs off n)))):=by
 simp only[ft,loadAt]
 cases get h id with
 |none=>rfl
 |some o =>
  cases o<;>try rfl
  rename_i cs;simp only[bA,cellsOf]
  cases Nat.ble (off+n) cs.length<;>rfl
@[simp] def aC2 {h:am}{id off t:Nat}:loadAt h none (t+1) (.ptr id off)=bA (get h id) λo=>bA (cellsOf o) λcs=>bA cs[off]? λv=>some ((sc (t+1) v).1,put h id (.cells (cs.set off (sc (t+1) v).2))):=by
 simp only[loadAt]
 cases get h id with
 |none=>rfl
 |some o =>
  cases o<;>try rfl
  rename_i cs;simp only[bA,cellsOf]
  cases cs[off]?<;>rfl
@[simp] def aBV {h:am}{id off n t:Nat}:loadAt h (some n) (t+1) (.ptr id off)=bA (get h id) λo=>bA (cellsOf o) λcs=>dU (Nat.ble (off+n) cs.length) (some (.agg (fY (t+1) (sub cs off n)).1,put h id (.cells (aH cs off (fY (t+1) (sub cs off n)).2)))):=by
 simp only[loadAt]
 cases get h id with
 |none=>rfl
 |some o =>
  cases o<;>try rfl
@[simp] def aBY {h:am}{id off n:Nat}{x:AV}:storeAt h n (.ptr id off) x=dU (Nat.beq x.cells.length n) (bA (get h id) λo=>bA (cellsOf o) λcs=>dU (Nat.ble (off+n) cs.length && x.cells.all bl) (some (put h id (.cells (aH cs off x.cells))))):=by
 simp only[storeAt]
 cases Nat.beq x.cells.length n with
 |false=>rfl
 |true =>
  simp only[dU]
  cases get h id with
  |none=>rfl
  |some o =>
   cases o<;>try rfl
@[simp ↓] theorem ab5 {β:Type}{a b:Nat}{x:Option β}:dU (Nat.ble a b) x=if a<=b then x else none:=by
 rw[abH];by_cases h:a<=b<;>simp[h]
@[simp ↓] theorem amn {β:Type}{a b:Nat}{x:Option β}:dU (Nat.beq a b) x=if a=b then x else none:=by
 rw[ac2];by_cases h:a=b<;>simp[h]
@[simp ↓] theorem amo {β:Type}{a b:Bool}{x:Option β}:dU (a && b) x=dU a (dU b x):=by
 cases a<;>cases b<;>rfl
attribute [simp] sc fY sub aH bl
def scK (P:Nat->Z_)(a:VC)(x:J_):J_ :=
 match x with
 |some (.goto l,st)=>match wb a l with
  |some rest=>(Dn P).code (.inScope a rest) st
  |none=>some (.goto l,st)
 |x=>x
@[simp ↓] def aDS {a:VC}{st:St}:(Dn P).code (.scope a) st=(Dn P).code (.inScope a a) st:=by rw[jq];rfl
def axJ {a c:VC}{st:St}:(Dn P).code (.inScope a c) st=scK P a ((Dn P).code c st):=by
 rw[jq];rfl
@[simp ↓] def aJD {a:VC}{st:St}:scK P a (some (.ret,st))=some (.ret,st):=(rfl)
def aAK {a:VC}{x y:J_}(h:x=y):scK P a x=scK P a y:=by rw[h]
attribute [congr] aAK
def BP {f:FuncId}{args:D_}{v:AV}(n:Nat)(h:tZ ((run P n).call f args ⟨[],0⟩)=some v):bq P f args=some v:=by
 cases hx:(run P n).call f args ⟨[],0⟩ with
 |none=>rw[hx]at h;simp[tZ]at h
 |some q=>rw[hx]at h;rw[bq,Xw hx,h]
def JF {α:Type}{f:FuncId}{a:α->D_}{v:α->AV}(n:Nat)(l:List α)(h:(l.map λx=>tZ ((run P n).call f (a x) ⟨[],0⟩))=l.map λx=>some (v x))(x:α)(hx:x∈l):bq P f (a x)=some (v x) :=
 BP n (List.map_inj_left.1 h x hx)
def cY (l:C_):E_:=l.map λn=>[.int .i64 (n:Nat)]
@[simp] def aGP {l:C_}:(cY l).length=l.length:=by simp[cY]
@[simp] theorem DT {l:C_}{i:Nat}(h:i<l.length):(cY l)[i]?=some [.int .i64 (nth l i:Nat)]:=by simp[cY,yg h]
@[simp high] def aBP {p:Bool}{m:Nat}{l:C_}:jG (.own p m (cY l))=true:=by simp[jG,cY,mA]
@[simp high] def Vt {p:Bool}{m:Nat}{l:G_}:jG (.own p m (aI l))=true:=by simp[jG,aI,mA]
@[simp high] def aBQ {p:Bool}{m:Nat}{l:G_}:lR (.own p m (aI l))=true:=Vt (p:=p) (m:=m)
@[simp high] def aB3 {p:Bool}{m:Nat}{l:G_}:kb (.own p m (aI l))=true:=Vt (p:=p) (m:=m)
@[simp high] def Wx {p:Bool}{m:Nat}{l:C_}:jG (.own p m (ai l))=true:=by simp[jG,ai,mA]
@[simp high] def aBS {p:Bool}{m:Nat}{l:C_}:lR (.own p m (ai l))=true:=Wx (p:=p) (m:=m)
@[simp high] def aBZ {p:Bool}{m:Nat}{l:C_}:kb (.own p m (ai l))=true:=Wx (p:=p) (m:=m)
@[simp] def aD0 {a:G_}{x:Int}:aI a++[[.int .i64 x]]=aI (a++[x]):=by simp[aI]
@[simp] def ahh {a b:C_}:ai a++ai b=ai (a++b):=by simp[ai]
@[simp] def aEO {a:C_}{x:Nat}:ai a++[[.int .u8 (x:Int)]]=ai (a++[x]):=by simp[ai]
@[simp] def aIj {k:IntKind}{a b:Int}:DS true [.d (.int k a),.d (.int k b)]=if a<b then some (.d (.int k b)) else some (.d (.int k a)):=by
 have:ph k k=true:=by cases k<;>rfl
 simp only[DS,BY,DU,this];by_cases h:a<b<;>simp[h]
@[simp] def aIO {k:IntKind}{a b:Int}:DS false [.d (.int k a),.d (.int k b)]=if b<a then some (.d (.int k b)) else some (.d (.int k a)):=by
 have:ph k k=true:=by cases k<;>rfl
 simp only[DS,BY,DU,this];by_cases h:b<a<;>simp[h]
def iaO (o:Obj)(n id j:Nat):M_ :=
 match o with
 |.arr m _=>dU (Nat.beq m n) (some (.pel id j 0))
 |.cells _=>dU (Nat.beq n 1) (some (.ptr id j))
 |_=>none
@[simp ↓] def aJP {m n id j:Nat}{xs:E_}:iaO (.arr m xs) n id j=dU (Nat.beq m n) (some (.pel id j 0)):=(rfl)
@[simp ↓] def aJz {n id j:Nat}{cs:D_}:iaO (.cells cs) n id j=dU (Nat.beq n 1) (some (.ptr id j)):=(rfl)
@[simp] def aJT {h:am}{n id off len:Nat}{k:IntKind}{i:Int}(h0:0<=i)(h1:i.toNat<len):ZM h n (.sl id off len) (.d (.int k i))=bA (get h id) λo=>iaO o n id (off+i.toNat):=by
 have:Nat.ble len i.toNat=false:=by rw[abH];simp;omega
 simp only[ZM,Us h0,this]
 cases get h id with
 |none=>rfl
 |some o =>
  cases o with
  |cells cs=>simp only[bA,iaO];cases Nat.beq n 1<;>rfl
  |arr m xs=>simp only[bA,iaO];cases Nat.beq m n<;>rfl
  |loop=>rfl
@[simp] def aHm {h:am}{id i off:Nat}{n:I_}:ft h n (.pel id i off)=bA (get h id) λo=>bA (apf o) λxs=>bA xs[i]? λx=>oS n x off:=by
 simp only[ft,loadAt]
 cases get h id with
 |none=>rfl
 |some o =>
  cases o<;>try rfl
  rename_i m xs;simp only[bA,apf]
  cases xs[i]? with
  |none=>rfl
  |some x=>simp only;cases oS n x off<;>rfl
def stO (o:Obj)(h:am)(n id i off:Nat)(ds:W_):Option am :=
 match o with
 |.arr m xs=>bA xs[i]? λe=>dU (Nat.ble (off+n) e.length) (some (put h id (.arr m (xs.set i (aH e off ds)))))
 |_=>none
@[simp ↓] def aJR {h:am}{m n id i off:Nat}{ds:W_}{xs:E_}:stO (.arr m xs) h n id i off ds=bA xs[i]? λe=>dU (Nat.ble (off+n) e.length) (some (put h id (.arr m (xs.set i (aH e off ds))))):=(rfl)
@[simp] def aBU {h:am}{id i off n:Nat}{x:AV}:storeAt h n (.pel id i off) x=dU (Nat.beq x.cells.length n) (bA (mO x.cells) λds=>bA (get h id) λo=>stO o h n id i off ds):=by
 simp only[storeAt]
 cases Nat.beq x.cells.length n with
 |false=>rfl
 |true =>
  simp only[dU]
  cases mO x.cells with
  |none=>rfl
  |some ds =>
   simp only[bA]
   cases get h id with
   |none=>rfl
   |some o =>
    cases o<;>try rfl
    rename_i m xs;simp only[stO]
    cases xs[i]? with
    |none=>rfl
    |some e=>simp only[bA];cases Nat.ble (off+n) e.length<;>rfl
@[simp] def aE0 {l:G_}{i:Nat}:(aI l).take i=aI (l.take i):=by simp[aI]
@[simp] def aER {l:G_}{i:Nat}:(aI l).drop i=aI (l.drop i):=by simp[aI]
@[simp] def aE8 {l:C_}{i:Nat}:(cY l).take i=cY (l.take i):=by simp[cY]
@[simp] def ahD {l:G_}{i:Nat}{x:Int}:(aI l).set i [.int .i64 x]=aI (l.set i x):=by simp[aI,jU]
@[simp] def aGX {l:C_}{i:Nat}{x:Nat}:(cY l).set i [.int .i64 (x:Int)]=cY (l.set i x):=by simp[cY,jU]
@[simp] def avn {l:C_}{i:Nat}{x:Nat}:(ai l).set i [.int .u8 (x:Int)]=ai (l.set i x):=by simp[ai,jU]
def elO (o:Obj):AE_ :=
 match o with
 |.arr _ xs=>some xs
 |.cells cs=>bA (mO cs) λds=>some (Lw ds)
 |_=>none
@[simp ↓] def aJJ {m:Nat}{xs:E_}:elO (.arr m xs)=some xs:=(rfl)
@[simp] def aFy {h:am}{id off len:Nat}:elems h (.sl id off len)=bA (get h id) λo=>bA (elO o) λxs=>dU (Nat.ble (off+len) xs.length) (some (sub xs off len)):=by
 simp only[elems,objElems]
 cases get h id with
 |none=>rfl
 |some o =>
  cases o with
  |cells cs =>
   simp only[bA,elO]
   cases mO cs with
   |none=>rfl
   |some ds=>simp only;cases Nat.ble (off+len) (Lw ds).length<;>rfl
  |arr m xs=>simp only[bA,elO];cases Nat.ble (off+len) xs.length<;>rfl
  |loop=>rfl
attribute [simp] Lw
@[simp] def aJe {m:Nat}{h:am}{a b:AV}:abS m h a b=bA (elems h b) λys=>dU (gB m ys) (eM m h a ys):=by
 simp only[abS]
 cases elems h b with
 |none=>rfl
 |some ys=>simp only[bA];cases gB m ys<;>rfl
@[simp] theorem T8 {m k:Nat}{p:Bool}{h:am}{xs ys:E_}:eM m h (.own p k xs) ys=dU (Nat.ble ys.length aY) (dU (Nat.beq k m && Nat.ble (xs.length+ys.length) aY) (some (.own false m (xs++ys),h))):=by
 simp only[eM]
 cases Nat.ble ys.length aY with
 |false=>rfl
 |true=>simp only[dU];cases Nat.beq k m && Nat.ble (xs.length+ys.length) aY<;>rfl
@[simp] def aH5 {m:Nat}{h:am}:eM m h .nl []=some (.nl,h):=(rfl)
@[simp] def al3 {m:Nat}{h:am}{y:W_}{r:E_}:eM m h .nl (y::r)=dU (Nat.ble (r.length+1) aY) (some (.own true m (y::r),h)):=by
 simp only[eM,aq]
 cases Nat.ble (r.length+1) aY<;>rfl
def atm (o:Obj)(m:Nat)(h:am)(id off len:Nat)(ys:E_):AF_ :=
 match o with
 |.arr k xs=>dU (Nat.beq k m && Nat.ble (off+len) xs.length && Nat.ble (len+ys.length) aY) (some (.own true m (sub xs off len++ys),del h id))
 |_=>none
@[simp ↓] def aId {k m id off len:Nat}{h:am}{xs ys:E_}:atm (.arr k xs) m h id off len ys=dU (Nat.beq k m && Nat.ble (off+len) xs.length && Nat.ble (len+ys.length) aY) (some (.own true m (sub xs off len++ys),del h id)):=(rfl)
@[simp] def aJa {m id off len:Nat}{h:am}{ys:E_}:eM m h (.sl id off len) ys=dU (Nat.ble ys.length aY) (bA (get h id) λo=>atm o m h id off len ys):=by
 simp only[eM]
 cases Nat.ble ys.length aY with
 |false=>rfl
 |true =>
  simp only[dU]
  cases get h id with
  |none=>rfl
  |some o =>
   cases o with
   |arr k xs=>simp only[bA,atm];cases Nat.beq k m && Nat.ble (off+len) xs.length && Nat.ble (len+ys.length) aY<;>rfl
   |cells cs=>rfl
   |loop=>rfl
attribute [simp] aY
def TG {α:Type}{f:α->D}:∀{l:List α},gB 1 (l.map λx=>[f x])=true
 |[]=>rfl
 |x::r=>by simp only[bL,gB,aq,bt];exact TG
@[simp] def auS {l:G_}:gB 1 (aI l)=true:=TG
@[simp] def Pf {l:C_}:gB 1 (ai l)=true:=TG
@[simp] def aJW {m:Nat}:gB m []=true:=(rfl)
@[simp] def aJZ {m:Nat}{x:W_}{r:E_}:gB m (x::r)=(Nat.beq x.length m && gB m r):=by
 simp only[gB];cases Nat.beq x.length m<;>rfl
mutual
theorem ahB:∀d:D,Qr d d=true
 |.int k n=>by simp[Qr,Wm]
 |.bool b=>by simp[Qr]
 |.str s=>by simp[Qr]
 |.lst xs=>by rw[Qr];exact eqDss_self xs
theorem SH:∀l:W_,Tm l l=true
 |[]=>rfl
 |a::r=>by rw[Tm,ahB a,SH r];rfl
theorem eqDss_self:∀l:E_,eqDss l l=true
 |[]=>rfl
 |a::r=>by rw[eqDss,SH a,eqDss_self r];rfl
end
mutual
theorem apQ:∀v:AV,jt v v=true
 |.junk=>by simp[jt]
 |.d x=>by simp[jt,ahB]
 |.nl=>by simp[jt]
 |.own p m xs=>by simp[jt,eqDss_self]
 |.gl n=>by simp[jt]
 |.agg a=>by rw[jt];exact eqAVs_self a
 |.tup a=>by rw[jt];exact eqAVs_self a
 |.nilp=>by simp[jt]
 |.ptr a b=>by simp[jt]
 |.pel a b c=>by simp[jt]
 |.pim a b=>by simp[jt,SH]
 |.sl a b c=>by simp[jt]
 |.fn f a c=>by rw[jt,eqAVs_self a,eqAVs_self c];simp
 |.nilf=>by simp[jt]
 |.yield a=>by simp[jt]
theorem eqAVs_self:∀l:D_,eqAVs l l=true
 |[]=>by rw[eqAVs]
 |a::r=>by rw[eqAVs,apQ a,eqAVs_self r];rfl
end
@[simp] def aJS {a:D_}:eqO (.cells a) (.cells a)=true:=by rw[eqO];exact eqAVs_self a
@[simp] def aHt {h k:am}:dR [] h k=true:=(rfl)
@[simp] def aHs {i:Nat}{r:C_}{h k:am}:dR (i::r) h k=((match get h i with
  |some o=>(match get k i with|some o'=>eqO o o'|none=>false)
  |none=>true) && dR r h k):=(rfl)
@[simp] def aHI {h:am}:ed [] h=[]:=(rfl)
@[simp] def aHK {i:Nat}{r:C_}{h:am}:ed (i::r) h=match get h i with
  |some o=>put (ed r h) i o
  |none=>ed r h:=(rfl)
attribute [simp] Lg cO idsAll
attribute [simp] eC qT nA oP
def ZQ (a b:Int):Int:=if a=0 then b else 1
def Yp {a b:Int}(h:0<=a)(h1:a<=1)(h2:0<=b)(h3:b<=1):fe .or (A_ a) (A_ b)=some (.int .i64 (ZQ a b)):=by
 have ha:a=0∨a=1:=o_;have hb:b=0∨b=1:=o_;rcases ha with rfl|rfl<;>rcases hb with rfl|rfl<;>rfl
@[simp] def aIs {a:Int}(h:0<=a)(h1:a<=1):ZQ a 0=a:=by
 have ha:a=0∨a=1:=o_;rcases ha with rfl|rfl<;>rfl
def ap7 {a b:Int}:(ZQ a b=0)↔a=0∧b=0:=by
 unfold ZQ;by_cases h:a=0<;>simp[h]
variable {P:Nat->Z_}
def Kz (l:Nat)(e:aZ)(x:X_):J_ :=
 match x with
 |some (_,hs)=>match get hs.heap l with
  |some (.loop _ _ _ _ false pend)=>match pend with
   |none=>some (.normal,⟨e,⟨del hs.heap l,hs.next⟩⟩)
   |some o=>some (o,⟨e,⟨del hs.heap l,hs.next⟩⟩)
  |_=>none
 |none=>none
def rgF (P:Nat->Z_)(params:C_)(a b:VC)(hs:HS)(x:Option (AV×aZ)):J_ :=
 match x with
 |some (.fn g first caps,e)=>Kz hs.next e ((Dn P).call g (first++([.yield hs.next]++caps)) ⟨put hs.heap hs.next (.loop (e.map λkv=>(kv.1,share kv.2)) params a b false none),hs.next+1⟩)
 |_=>none
def auJ {f:Rd}{params:C_}{a b:VC}{e:aZ}{hs:HS}:(Dn P).code (.rangeF f params a b) ⟨e,hs⟩=rgF P params a b hs (rd e f):=by
 rw[jq];simp only[df,EX,rgF]
 cases rd e f with
 |none=>rfl
 |some p =>
  obtain⟨v,e1⟩:=p
  cases v<;>rfl
def azB {params:C_}{a b:VC}{h:am}{n g:Nat}{first caps:D_}{e:aZ}:rgF P params a b ⟨h,n⟩ (some (.fn g first caps,e))=Kz n e ((Dn P).call g (first++([.yield n]++caps)) ⟨put h n (.loop (e.map λkv=>(kv.1,share kv.2)) params a b false none),n+1⟩):=rfl
def pdO (o:Obj):Option BH_ :=
 match o with
 |.loop _ _ _ _ false pend=>some pend
 |_=>none
def aCI {s:aZ}{p:C_}{a b:VC}{q:BH_}:pdO (.loop s p a b false q)=some q:=rfl
def pdE (e:aZ)(hs:HS)(l:Nat)(q:BH_):J_:=some (q.getD .normal,⟨e,⟨del hs.heap l,hs.next⟩⟩)
def aCS {e:aZ}{h:am}{n l:Nat}:pdE e ⟨h,n⟩ l none=some (.normal,⟨e,⟨del h l,n⟩⟩):=rfl
def aDQ {e:aZ}{h:am}{n l:Nat}{o:cJ}:pdE e ⟨h,n⟩ l (some o)=some (o,⟨e,⟨del h l,n⟩⟩):=rfl
def aCL {l n:Nat}{e:aZ}{v:AV}{h:am}:Kz l e (some (v,⟨h,n⟩))=bA (get h l) λo=>bA (pdO o) λq=>pdE e ⟨h,n⟩ l q:=by
 simp only[Kz]
 cases get h l with
 |none=>rfl
 |some o =>
  cases o with
  |loop s p a b busy pend=>cases busy<;>cases pend<;>rfl
  |cells=>rfl
  |arr=>rfl
def aDI {l:Nat}{e:aZ}:Kz l e none=none:=rfl
def aDg {c:Prop}[Decidable c]{l:Nat}{e:aZ}{x y:X_}:Kz l e (if c then x else y)=if c then Kz l e x else Kz l e y:=d_
def aCa {α:Type}{p:α->Nat->Prop}{r:R α}{l:Nat}{e:aZ}{f:α->Nat->X_}{g:Nat->X_}:Kz l e (rK p r f g)=rK p r (λv n=>Kz l e (f v n)) λx=>Kz l e (g x):=zS (Kz l e)
def azL {l:Nat}{e:aZ}{x y:X_}(h:x=y):Kz l e x=Kz l e y:=by rw[h]
def yB (l:Nat)(x:J_):X_ :=
 match x with
 |none=>none
 |some (o,st)=>match get st.hs.heap l with
  |some (.loop snap params assign body true none) =>
   match o with
   |.normal=>some (.bool true,⟨put st.hs.heap l (.loop snap params assign body false none),st.hs.next⟩)
   |o=>some (.bool false,⟨put st.hs.heap l (.loop snap params assign body false (some o)),st.hs.next⟩)
  |_=>none
def yA (P:Nat->Z_)(l:Nat)(body:VC)(x:J_):X_ :=
 match x with
 |some (.normal,st)=>match get st.hs.heap l with
  |some (.loop snap params assign body2 false none)=>yB l ((Dn P).code body ⟨st.env,⟨put st.hs.heap l (.loop snap params assign body2 true none),st.hs.next⟩⟩)
  |_=>none
 |_=>none
def yO (P:Nat->Z_)(l:Nat)(args:D_)(hs:HS)(o:Obj):X_ :=
 match o with
 |.loop snap params assign body false none=>bA (xe snap params args) λe=>yA P l body ((Dn P).code assign ⟨e,hs⟩)
 |_=>none
def mz {l:Nat}{args:D_}{hs:HS}:cA (Dn P) (.yield l) args hs=bA (get hs.heap l) λo=>yO P l args hs o:=by
 simp only[cA,vF]
 cases get hs.heap l with
 |none=>rfl
 |some o =>
  cases o with
  |cells=>rfl
  |arr=>rfl
  |loop snap params assign body busy pend =>
   cases busy
   .cases pend with
    |some q=>rfl
    |none =>
     simp only[bA,yO]
     cases xe snap params args with
     |none=>rfl
     |some e =>
      cases (Dn P).code assign ⟨e,hs⟩ with
      |none=>rfl
      |some p =>
       obtain⟨o,st⟩:=p
       cases o<;>rfl
   .rfl
def aFw {l:Nat}{args:D_}{hs:HS}{s:aZ}{p:C_}{a b:VC}:yO P l args hs (.loop s p a b false none)=bA (xe s p args) λe=>yA P l b ((Dn P).code a ⟨e,hs⟩):=rfl
def awx (o:Obj):Option Obj :=
 match o with
 |.loop s p a b false none=>some (.loop s p a b true none)
 |_=>none
def axH {s:aZ}{p:C_}{a b:VC}:awx (.loop s p a b false none)=some (.loop s p a b true none):=rfl
def aF6 {l:Nat}{b:VC}{e:aZ}{h:am}{n:Nat}:yA P l b (some (.normal,⟨e,⟨h,n⟩⟩))=bA (get h l) λo=>bA (awx o) λo=>yB l ((Dn P).code b ⟨e,⟨put h l o,n⟩⟩):=by
 simp only[yA]
 cases get h l with
 |none=>rfl
 |some o =>
  cases o with
  |cells=>rfl
  |arr=>rfl
  |loop s p a b busy pend=>cases busy<;>cases pend<;>rfl
def af9 (q:BH_)(o:Obj):Option Obj :=
 match o with
 |.loop s p a b true none=>some (.loop s p a b false q)
 |_=>none
def axx {q:BH_}{s:aZ}{p:C_}{a b:VC}:af9 q (.loop s p a b true none)=some (.loop s p a b false q):=rfl
def aGM {l:Nat}{e:aZ}{h:am}{n:Nat}:yB l (some (.normal,⟨e,⟨h,n⟩⟩))=bA (get h l) λo=>bA (af9 none o) λo=>some (.bool true,⟨put h l o,n⟩):=by
 simp only[yB]
 cases get h l with
 |none=>rfl
 |some o =>
  cases o with
  |cells=>rfl
  |arr=>rfl
  |loop s p a b busy pend=>cases busy<;>cases pend<;>rfl
def aGm {l:Nat}{e:aZ}{h:am}{n:Nat}:yB l (some (.ret,⟨e,⟨h,n⟩⟩))=bA (get h l) λo=>bA (af9 (some .ret) o) λo=>some (.bool false,⟨put h l o,n⟩):=by
 simp only[yB]
 cases get h l with
 |none=>rfl
 |some o =>
  cases o with
  |cells=>rfl
  |arr=>rfl
  |loop s p a b busy pend=>cases busy<;>cases pend<;>rfl
def aGr {l i:Nat}{e:aZ}{h:am}{n:Nat}:yB l (some (.exit i,⟨e,⟨h,n⟩⟩))=bA (get h l) λo=>bA (af9 (some (.exit i)) o) λo=>some (.bool false,⟨put h l o,n⟩):=by
 simp only[yB]
 cases get h l with
 |none=>rfl
 |some o =>
  cases o with
  |cells=>rfl
  |arr=>rfl
  |loop s p a b busy pend=>cases busy<;>cases pend<;>rfl
def aGo {l:Nat}:yB l none=none:=rfl
def aF9 {c:Prop}[Decidable c]{l:Nat}{x y:J_}:yB l (if c then x else y)=if c then yB l x else yB l y:=d_
def aFb {α:Type}{p:α->Nat->Prop}{r:R α}{l:Nat}{f:α->Nat->J_}{g:Nat->J_}:yB l (rK p r f g)=rK p r (λv n=>yB l (f v n)) λx=>yB l (g x):=zS (yB l)
def aCg {l:Nat}{x y:J_}(h:x=y):yB l x=yB l y:=by rw[h]
def aCM {l:Nat}{b:VC}{x y:J_}(h:x=y):yA P l b x=yA P l b y:=by rw[h]
attribute [simp ↓] auJ azB aCI aCS aDQ aCL aDI aDg aCa aFw axH aF6 axx aGM aGm aGr aGo aF9 aFb mz
attribute [congr] azL aCg aCM
attribute [simp] xe
def aE (m:Nat)(xs:E_):AV:=match xs with
 |[]=>.nl
 |x::r=>.own false m (x::r)
def qU {m:Nat}:aE m []=.nl:=rfl
theorem aef {m:Nat}{x:W_}{r:E_}:aE m (x::r)=.own false m (x::r):=rfl
def oM {m:Nat}{xs:E_}{y:W_}:aE m (xs++[y])=.own false m (xs++[y]):=by cases xs<;>rfl
def mi {m:Nat}{xs:E_}(h:xs≠[]):aE m xs=.own false m xs:=by cases xs with|nil=>exact absurd rfl h|cons=>rfl
@[simp] def aIY {m:Nat}{xs:E_}:firm (aE m xs)=aE m xs:=by cases xs<;>rfl
@[simp] def awM {m:Nat}{xs:E_}:mW (aE m xs)=aE m xs:=by cases xs<;>rfl
@[simp] def aHe {m:Nat}{xs:E_}:Cq (aE m xs)=aE m xs:=by cases xs<;>rfl
@[simp] def aJv {m:Nat}{xs:E_}:toD (aE m xs)=some (.lst xs):=by cases xs<;>rfl
@[simp] def aHc {m:Nat}{xs:E_}:AV.cells (aE m xs)=[aE m xs]:=by cases xs<;>rfl
@[simp] def atn {m:Nat}{xs:E_}:bl (aE m xs)=true:=by cases xs<;>rfl
@[simp] def aHO {h:am}{m:Nat}{xs:E_}:elems h (aE m xs)=some xs:=by cases xs<;>rfl
@[simp] def aG6 {h:am}{m:Nat}{xs:E_}:gz h (aE m xs)=some (aE m xs,h):=by cases xs<;>rfl
@[simp] def aJU {m:Nat}{h:am}{xs:E_}{y:W_}(hy:y.length=m)(hl:xs.length<1000000000):abS m h (aE m xs) (.own false m [y])=some (.own (decide (xs=[])) m (xs++[y]),h):=by
 subst hy
 cases xs with
 |nil=>simp[aE,elems,decide_true]
 |cons x r=>simp[aE,elems];simp at hl;omega
@[simp] def aJQ {m:Nat}{h:am}{xs:E_}{y:W_}(hl:xs.length<1000000000):eM m h (aE m xs) [y]=some (.own (decide (xs=[])) m (xs++[y]),h):=by
 cases xs with
 |nil=>simp[aE,decide_true]
 |cons x r=>simp[aE];simp at hl;omega
def atQ (o:Obj)(h:am)(id off len:Nat):AF_ :=
 match o with
 |.arr m xs=>dU (Nat.ble (off+len) xs.length) (some (.own true m (sub xs off len),del h id))
 |_=>none
@[simp ↓] def aJh {m:Nat}{xs:E_}{h:am}{id off len:Nat}:atQ (.arr m xs) h id off len=dU (Nat.ble (off+len) xs.length) (some (.own true m (sub xs off len),del h id)):=(rfl)
@[simp] def aIJ {h:am}{id off len:Nat}:kj h (.sl id off len)=bA (get h id) λo=>atQ o h id off len:=by
 simp only[kj]
 cases get h id with
 |none=>rfl
 |some o =>
  cases o with
  |arr m xs=>simp only[bA,atQ];cases Nat.ble (off+len) xs.length<;>rfl
  |cells cs=>rfl
  |loop=>rfl
abbrev da:=@Nat.pow_succ
abbrev pq:=@Nat.add_comm
abbrev aw:=@Nat.pow_le_pow_right
abbrev ej:=@Nat.add_zero
abbrev i64 (n:Int):Prop:=-9223372036854775808<=n∧n<=9223372036854775807
def yy (n:Int):bq prog Sy [A_ n]=if 0<=n∧n<=31 then some (B_ true) else some (B_ false):=by
 rw[aG ahz ahL rfl];simp
def val:C_->Nat->Nat
 |[],n=>n
 |x::r,n=>val r (2*n+x)
abbrev bin (l:C_):Prop:=∀x∈l,x<=1
def Jq:∀{l:C_}{n i:Nat},bin l->n<2 ^ i->val l n<2 ^ (i+l.length)
 |[],n,i,h,hn=>by simpa [val] using hn
 |x::r,n,i,h,hn=>by
  have h1:2 ^ (i+1)=2*2 ^ i:=by rw[da];omega
  have h2:=h x s_;have:=Jq (l:=r) (n:=2*n+x) (i:=i+1) (λy hy=>h y (by simp[hy])) o_;simpa [val,dP,pq 1] using this
def bi (b:C_)(a s:Int):R Nat :=
 if (0<=s∧s<=31)∧0<=a∧a<=b.length then
  if b.length-a<s then .er 4
  else if bin ((b.drop a.toNat).take s.toNat) then .ok (val ((b.drop a.toNat).take s.toNat) 0) (a.toNat+s.toNat)
  else .er 7
 else .er 1
abbrev pG (b:C_)(s:Int)(v n:Nat):Prop:=v<2 ^ s.toNat∧n<=b.length
def axh {γ:Type}{b:C_}{a s:Int}{f:Nat->Nat->γ}{g:Nat->γ}:rK (pG b s) (bi b a s) f g =
  if (0<=s∧s<=31)∧0<=a∧a<=b.length then
   if b.length-a<s then g 4
   else if bin ((b.drop a.toNat).take s.toNat) then f (val ((b.drop a.toNat).take s.toNat) 0) (a.toNat+s.toNat) else g 7
  else g 1:=by
 unfold bi;by_cases h1:(0<=s∧s<=31)∧0<=a∧a<=b.length
 .rw[ac h1,ac h1];by_cases h2:b.length-a<s
  .rw[ac h2,ac h2,jf]
  .rw[aa h2,aa h2];by_cases h3:bin ((b.drop a.toNat).take s.toNat)
   .rw[ac h3,ac h3,fp];have:=Jq (n:=0) (i:=0) h3 o_;have hl:((b.drop a.toNat).take s.toNat).length=s.toNat:=by simp;omega
    rw[hl]at this;exact⟨by simpa using this,o_⟩
   .rw[aa h3,aa h3,jf]
 .rw[aa h1,aa h1,jf]
def akA (b:C_)(a sz:Nat)(hl:b.length<=1000000000)(hb:a+sz<=b.length)(hs:sz<=31)(h:am)(m:Nat):∀(k i n:Nat) (I N:Int),I=i->N=n->i+k=sz->n<2 ^ i->
  (Dn prog).code (.loop Av) ⟨[(0,.d (.lst (ai b))),(1,A_ a),(2,A_ sz),(6,A_ N),(31,A_ sz),(32,A_ I)],⟨h,m⟩⟩ =
   if bin ((b.drop (a+i)).take k) then some (.exit 1,⟨[(1,A_ a),(2,A_ sz),(6,A_ ((val ((b.drop (a+i)).take k) n:Nat)))],⟨h,m⟩⟩)
   else some (.ret,⟨[(6,A_ 0),(7,A_ 0),(8,A_ 8)],⟨h,m⟩⟩):=by
 intro k
 induction k with
 |zero =>
  intro i n I N hI hN hi hn;subst hI hN;rw[ah QN];have:¬(i<sz):=o_;simp(disch:=omega)[this,val,bin]
 |succ k ih =>
  intro i n I N hI hN hi hn;subst hI hN;rw[ah QN,qX o_,List.take_succ_cons];have:i<sz:=o_;have h2:2 ^ i<=2 ^ 30:=aw o_ o_;have h3:2 ^ (i+1)=2*2 ^ i:=by rw[da];omega
  simp(disch:=omega)[this,val,bin];by_cases hx:nth b (a+i)<=1
  .rw[aa o_,ih (i+1) (2*n+nth b (a+i)) _ _ o_ o_ o_ o_];simp[hx,bin,dP]
  .rw[ac o_];simp[hx]
def ik (b:C_)(a s:Int)(hb:b.length<=1000000000)(ha:i64 a):bq prog yf [.d (.lst (ai b)),A_ a,A_ s]=rK (pG b s) (bi b a s) (λv n=>some (.tup [A_ v,A_ n,A_ 0])) λe=>some (.tup [A_ 0,A_ 0,A_ (e+1)]):=by
 rw[aG aph apo rfl,axh];simp(disch:=omega)[yy];by_cases h1:(0<=s∧s<=31)∧0<=a∧a<=b.length
 .obtain⟨⟨s0,s1⟩,a0,a1⟩:=h1;obtain⟨S,rfl⟩:=aA s0;obtain⟨A,rfl⟩:=aA a0;by_cases h2:(b.length:Int)-A<S
  .simp[h2]
  .have:=akA b A S hb o_ o_ [] 0 S 0 0 0 0 rfl rfl o_ o_;rw[ej]at this;simp(disch:=omega)[this]
 .simp[h1]
abbrev jg:=@List.mem_flatMap
def anA (k lines by_:Nat):Nat->Nat->C_
 |0,at_=>[at_]
 |f+1,at_=>at_::if at_<lines then anA k lines by_ f (min lines (at_+4+4*(at_*k / by_))) else []
def offs (rate:Nat)(short:Bool):C_:=cond short (anA (3+(11-rate) / 2) 32 64 99 0) (anA (3+(11-rate) / 2) 256 256 99 0)
def HX:List (Nat×Bool):=(List.range 12).flatMap λr=>[(r,false),(r,true)]
def fP {r:Nat}{s:Bool}(h:r<12):(r,s)∈HX:=by
 simp only[HX,jg,et];exact⟨r,h,by cases s<;>simp⟩
def afa:∀x∈HX,bq prog Ey [A_ x.1,B_ x.2]=some (.tup [.own true 1 (cY (offs x.1 x.2)),A_ 0]):=JF 100 HX (by kernel_rfl)
def aaZ:∀x∈HX,1<=(offs x.1 x.2).length∧(offs x.1 x.2).length<=64:=e_
def r8 (rate:Nat)(short:Bool):Nat:=(offs rate short).length-1
theorem J7 {r:Nat}{s:Bool}(h:r<12):r8 r s<=63:=by
 have:=aaZ _ (fP (s:=s) h);simp only[r8]at *;omega
abbrev ep (r:Int):Prop:=0<=r∧r<=11
def BZ (r:Int)(s:Bool):bq prog Ey [A_ r,B_ s]=if ep r then some (.tup [.own true 1 (cY (offs r.toNat s)),A_ 0]) else some (.tup [.nl,A_ 2]):=by
 by_cases h:ep r
 .obtain⟨R,rfl⟩:=aA h.1;rw[ac h,afa (R,s) (fP o_)];rfl
 .rw[aa h,aG ab2 acU rfl];simp(disch:=omega)[↓ac,axJ]
def ll (r:Int)(s:Bool):bq prog VY [A_ r,B_ s]=if ep r then some (.tup [A_ (r8 r.toNat s),A_ 0]) else some (.tup [A_ 0,A_ 2]):=by
 rw[aG ajI ajU rfl];by_cases h:ep r
 .have h2:=aaZ _ (fP (r:=r.toNat) (s:=s) o_);simp(disch:=omega) only at h2;simp(disch:=omega)[BZ,ac h,r8];split<;>simp<;>omega
 .simp(disch:=omega)[BZ,aa h]
abbrev co:=@List.drop_eq_nil_of_le
structure aO where
 seq:Nat
 shape:Nat
 max:Int
 groups:G_
@[simp] def aO.cells (i:aO):D_:=[.d (.int .u8 i.seq),.d (.int .u8 i.shape),A_ i.max,.d (.lst (aI i.groups))]
structure aO.Fit (i:aO):Prop where
 seq:i.seq<=255
 shape:i.shape<=255
 max:i64 i.max
 len:i.groups.length<=1000
 groups:∀n∈i.groups,i64 n
def aac (a b:G_)(hl:a.length<=1000000)(he:a.length=b.length)(h:am)(m:Nat):∀(k i:Nat) (I:Int),I=i->i+k=a.length->
  (Dn prog).code (.loop mr) ⟨[(0,.d (.lst (aI a))),(1,.d (.lst (aI b))),(12,A_ a.length),(13,A_ I)],⟨h,m⟩⟩=if a.drop i=b.drop i then some (.exit 0,⟨[],⟨h,m⟩⟩) else some (.ret,⟨[(4,B_ false)],⟨h,m⟩⟩):=by
 intro k
 induction k with
 |zero =>
  intro i I hI hi;subst hI;rw[ah zL,co o_,co o_];simp(disch:=omega)[↓aa]
 |succ k ih =>
  intro i I hI hi;subst hI;rw[ah zL,qX (l:=a) o_,qX (l:=b) o_];simp(disch:=omega)[↓ac];rw[ih (i+1) _ o_ o_];by_cases hx:nth a i=nth b i<;>simp[hx]
def Rj (a b:G_)(hl:a.length<=1000000)(hb:b.length<=1000000):bq prog DG [.d (.lst (aI a)),.d (.lst (aI b))]=if a=b then some (B_ true) else some (B_ false):=by
 rw[aG Rc Q0 rfl];by_cases he:a.length=b.length
 .have:=aac a b hl he [] 0 a.length 0 0 rfl o_;simp(disch:=omega)[this,↓ac]
 .have:a≠b:=λh=>he (by rw[h])
  simp(disch:=omega)[this,↓aa]
def aO.grouped (i:aO):Prop:=if i.seq=2 then (∀n∈i.groups,1<=n∧n<=8)∧i.groups.sum=8∧(i.groups.length:Int)<=8 else i.groups=[1]
instance {i:aO}:Decidable i.grouped:=by unfold aO.grouped;infer_instance
def ano (i:aO)(hi:i.groups.length<=1000)(m:Nat):∀(k j:Nat) (J S:Int),J=j->j+k=i.groups.length->0<=S∧S<=8*j->
  (Dn prog).code (.loop rJ) ⟨[(1,.ptr 0 0),(3,A_ S),(14,.d (.lst (aI i.groups))),(15,A_ i.groups.length),(16,A_ J)],⟨[(0,.cells i.cells)],m⟩⟩ =
   if ∀n∈i.groups.drop j,1<=n∧n<=8 then some (.exit 0,⟨[(1,.ptr 0 0),(3,A_ (S+(i.groups.drop j).sum))],⟨[(0,.cells i.cells)],m⟩⟩) else some (.ret,⟨[(2,B_ false)],⟨[(0,.cells i.cells)],m⟩⟩):=by
 simp only[aO.cells];intro k
 induction k with
 |zero =>
  intro j J S hJ hj hS;subst hJ;rw[ah HC,co o_];simp(disch:=omega)[↓aa]
 |succ k ih =>
  intro j J S hJ hj hS;subst hJ;rw[ah HC,qX o_];simp(disch:=omega)[↓ac];by_cases hx:1<=nth i.groups j∧nth i.groups j<=8
  .rw[aa o_,ih (j+1) _ _ o_ o_ o_];simp[hx,Int.add_assoc]
  .rw[ac o_,aa (λh=>hx ⟨h.1.1,h.1.2⟩)]
def agl (i:aO)(hi:i.Fit):bq prog NQ [.agg i.cells]=if i.grouped then some (B_ true) else some (B_ false):=by
 have hl:=hi.len;rw[aG aa7 aa9 rfl];unfold aO.grouped;by_cases hs:i.seq=2
 .have:=ano i hi.len 1 i.groups.length 0 0 0 rfl o_ o_;simp only[aO.cells]at this;simp(disch:=omega)[↓ac,↓aa,this]
 .have:=Rj i.groups [1] o_ s_;have h1:aI [1]=[[.int .i64 1]]:=rfl;rw[h1]at this;simp(disch:=omega)[this,↓aa,↓ac]
def aO.may (r:Nat)(i:aO):Prop:=i.seq<=3∧i.shape<=1∧0<=i.max∧i.max<=r8 r (decide (i.seq=2))∧i.grouped
instance {r:Nat}{i:aO}:Decidable (i.may r):=by unfold aO.may;infer_instance
def xL (r:Int)(i:aO)(hi:i.Fit):bq prog wP [A_ r,.agg i.cells]=if ep r then if i.may r.toNat then some (A_ 0) else some (A_ 8) else some (A_ 2):=by
 have hg:=agl i hi;simp only[aO.cells]at hg;rw[aG ahH agy rfl];by_cases hr:ep r
 .by_cases hs:i.seq=2
  .simp(config := { maxSteps:=9^7 }) (disch:=omega)[ll,↓ac,↓aa,hg];refine avz ?_;by_cases h:i.grouped<;>simp[aO.may,h,hs];omega
  .simp(config := { maxSteps:=9^7 }) (disch:=omega)[ll,↓ac,↓aa,hg];refine avz ?_;by_cases h:i.grouped<;>simp[aO.may,h,hs];omega
 .by_cases hs:i.seq=2
  .simp(config := { maxSteps:=9^7 }) (disch:=omega)[ll,↓ac,↓aa]
  .simp(config := { maxSteps:=9^7 }) (disch:=omega)[ll,↓ac,↓aa]
def aqW (i:aO)(hi:i.Fit):bq prog Vq [.agg i.cells]=if i.may 11 then some (B_ true) else some (B_ false):=by
 have hg:=xL 11 i hi;simp only[aO.cells]at hg;rw[aG alE akY rfl];simp(config := { maxSteps:=9^7 }) (disch:=omega)[hg,↓ac]
def aO.many (i:aO):Nat:=if i.seq=2 then 8 else 1
def oZ (i:aO)(hi:i.Fit):bq prog NL [.agg i.cells]=if i.may 11 then some (.tup [A_ i.many,A_ 0]) else some (.tup [A_ 0,A_ 8]):=by
 have hg:=aqW i hi;simp only[aO.cells]at hg;rw[aG acp abu rfl];by_cases hs:i.seq=2
 .simp(config := { maxSteps:=9^7 }) (disch:=omega)[hg,↓ac,aO.many]
 .simp(config := { maxSteps:=9^7 }) (disch:=omega)[hg,↓aa,aO.many]
def mT:∀{l:G_},(∀n∈l,1<=n)->(l.length:Int)<=l.sum
 |[],_=>by simp
 |x::r,h=>by
  have:=mT (l:=r) (λn hn=>h n (by simp[hn]));have:=h x s_;simp;omega
abbrev bN:=@Nat.two_pow_pos
abbrev fU:=@List.mem_or_eq_of_mem_set
def vO (b:C_)(a s:Int):Nat:=match bi b a s with|.ok v _=>v|.er _=>0
def nO (b:C_)(a s:Int):Nat:=match bi b a s with|.ok _ n=>n|.er _=>0
def eO (b:C_)(a s:Int):Nat:=match bi b a s with|.ok _ _=>0|.er e=>e+1
def eV {b:C_}{a s:Int}{v n:Nat}(h:bi b a s=.ok v n):pG b s v n:=by
 unfold bi at h;by_cases h1:(0<=s∧s<=31)∧0<=a∧a<=b.length
 .rw[ac h1]at h;by_cases h2:b.length-a<s
  .rw[ac h2]at h;exact absurd h (by simp)
  .rw[aa h2]at h;by_cases h3:bin ((b.drop a.toNat).take s.toNat)
   .rw[ac h3]at h;injection h with hv hn
    have:=Jq (n:=0) (i:=0) h3 o_;have hl:((b.drop a.toNat).take s.toNat).length=s.toNat:=by simp;omega
    rw[hl]at this;subst hv hn;exact⟨by simpa using this,o_⟩
   .rw[aa h3]at h;exact absurd h (by simp)
 .rw[aa h1]at h;exact absurd h (by simp)
def KY (b:C_)(a s:Int)(hb:b.length<=1000000000)(ha:i64 a):bq prog yf [.d (.lst (ai b)),A_ a,A_ s]=some (.tup [A_ (vO b a s),A_ (nO b a s),A_ (eO b a s)]):=by
 rw[ik b a s hb ha];unfold vO nO eO
 cases h:bi b a s with
 |ok v n=>rw[fp (eV h)];simp
 |er e=>simp[rK]
structure RS where
 a:Int
 e:Nat
def ra (s:RS):Int:=s.a
def re (s:RS):Nat:=s.e
def sV (b:C_)(st:RS)(s:Int):Nat:=if st.e=0 then vO b st.a s else 0
def sN (b:C_)(st:RS)(s:Int):RS:=if st.e=0 then ⟨nO b st.a s,eO b st.a s⟩ else st
def aDV {b:C_}{a s:Int}:vO b a s<2 ^ s.toNat:=by
 unfold vO
 cases h:bi b a s with
 |ok v n=>exact(eV h).1
 |er e=>exact bN _
def wC {b:C_}{st:RS}{s:Int}:sV b st s<2 ^ s.toNat:=by
 unfold sV;split
 .exact aDV
 .exact bN _
def apd {b:C_}{a s:Int}:nO b a s<=b.length:=by
 unfold nO
 cases h:bi b a s with
 |ok v n=>exact(eV h).2
 |er e=>exact dD _
def RS.fit (st:RS):Prop:=i64 st.a
def gq {b:C_}{st:RS}{s:Int}(hb:b.length<=1000000000)(h:st.fit):(sN b st s).fit:=by
 unfold sN;split
 .have:=apd (b:=b) (a:=st.a) (s:=s);show i64 _;simp only[];omega
 .exact h
def sL (b:C_):Nat->RS->C_
 |0,_=>[]
 |k+1,st=>sV b st 1::sL b k (sN b st 1)
def Lb (b:C_):Nat->RS->RS
 |0,st=>st
 |k+1,st=>Lb b k (sN b st 1)
def CX (b:C_)(s:Int)(st:RS)(X:Obj)(R:am)(N:Nat)(hb:b.length<=1000000000)(ha:st.fit):(Dn prog).call wR [A_ s,.ptr 3 0,.ptr 0 0,.ptr 2 0] ⟨(0,.cells [.d (.lst (ai b))])::(1,X)::(2,.cells [A_ (ra st)])::(3,.cells [A_ (re st)])::R,N⟩ =
  some (A_ (sV b st s),⟨(0,.cells [.d (.lst (ai b))])::(1,X)::(2,.cells [A_ (ra (sN b st s))])::(3,.cells [A_ (re (sN b st s))])::R,N⟩):=by
 rw[be ag4 ajm rfl];obtain⟨a,e⟩:=st;have hf:i64 a:=ha;by_cases he:e=0
 .subst he;simp(config := { maxSteps:=9^7 }) (disch:=omega)[KY,ra,re,sV,sN]
 .simp(config := { maxSteps:=9^7 }) (disch:=omega)[ra,re,sV,sN,he]
def grow:G_->C_->G_
 |g,[]=>g
 |g,x::r=>grow (if x=1 then g.set (g.length-1) (nth g (g.length-1)+1) else g++[1]) r
def nm (g:G_):Nat:=3+g.length
def aFI {g:G_}(h:g≠[]):4<=nm g:=by have:=bS.2 h;unfold nm;omega
abbrev hpI (b:C_)(q s:Nat)(m:Int)(g:G_)(st:RS):HS:=⟨[(0,.cells [.d (.lst (ai b))]),(1,.cells [.d (.int .u8 q),.d (.int .u8 s),A_ m,.sl (3+g.length) 0 g.length]),
           (2,.cells [A_ (ra st)]),(3,.cells [A_ (re st)]),(3+g.length,.arr 1 (aI g))],4+g.length⟩
def ajO (b:C_)(r o m:Int)(q s:Nat)(hb:b.length<=1000000000):∀(k i:Nat) (g:G_) (st:RS) (I:Int),I=i->i+k=7->g≠[]->g.length+k<=100->(∀n∈g,0<=n∧n+k<=100)->st.fit->
  (Dn prog).code (.loop u7) ⟨[(2,AV.d (D.int IntKind.i64 r)),(6,AV.ptr 1 0),(7,AV.ptr 2 0),(8,AV.ptr 3 0),
           (9,AV.fn wR [] [AV.ptr 3 0,AV.ptr 0 0,AV.ptr 2 0]),(10,A_ o),(40,A_ I)],hpI b q s m g st⟩ =
   some (.exit 0,⟨[(2,AV.d (D.int IntKind.i64 r)),(6,AV.ptr 1 0),(7,AV.ptr 2 0),(8,AV.ptr 3 0),(10,A_ o)],hpI b q s m (grow g (sL b k st)) (Lb b k st)⟩):=by
 intro k
 induction k with
 |zero =>
  intro i g st I hI hi hg hl hn ha;subst hI;rw[ah QQ];simp(disch:=omega)[↓aa,hpI,grow,sL,Lb]
 |succ k ih =>
  intro i g st I hI hi hg hl hn ha;subst hI;have:=bS.2 hg;have h3:3+(g.length+1)=4+g.length:=o_;have h4:4+(g.length+1)=4+g.length+1:=o_;rw[ah QQ];have hv:nth g (g.length-1)∈g:=jE o_;have hv2:=hn _ hv;simp only[grow,sL,Lb];by_cases h1:sV b st 1=1
  .have hs:(g.set (g.length-1) (nth g (g.length-1)+1)).length=g.length:=s_;have h:=ih (i+1) (g.set (g.length-1) (nth g (g.length-1)+1)) (sN b st 1) (i+1) o_ o_ (by intro h0;rw[h0,bt]at hs;omega) (by rw[hs];omega) (λx hx=>by
    rcases fU hx with h|h
    .have:=hn x h;omega
    .omega) (gq hb ha)
   simp only[hpI,hs]at h;simp(maxSteps:=9^6)(disch:=first|omega|assumption) [↓ac,↓aa,CX,h3,h4,hpI];rw[h]
  .have h:=ih (i+1) (g++[1]) (sN b st 1) (i+1) o_ o_ s_ g_ (λx hx=>by
    rcases aW.1 hx with h|h
    .have:=hn x h;omega
    .simp at h;omega) (gq hb ha)
   simp only[hpI,aj,aq,bt,bn,h3,h4]at h;simp(maxSteps:=9^6)(disch:=first|omega|assumption) [↓ac,↓aa,CX,h3,h4,hpI];rw[h]
structure Hr (hp:D_->am)(p:Nat):Prop where
 get:∀c,get (hp c) p=some (.cells c)
 put:∀c d,put (hp c) p (.cells d)=hp d
abbrev cV (b:C_)(s:Nat×Nat):D_:=[.own false 1 (ai b),A_ s.1,A_ s.2]
def gT (b:C_)(s:Nat×Nat)(k:Int):Nat×Nat×Nat :=
 if s.2=0 then match bi b s.1 k with
  |.ok v n=>(v,n,0)
  |.er e=>(0,s.1,e+1)
 else (0,s)
def kT (s:Nat×Nat)(c:Prop)[Decidable c]:Nat×Nat:=if s.2=0∧¬c then (s.1,8) else s
def gF {hp:D_->am}{p:Nat}(H:Hr hp p)(b:C_)(hb:b.length<=1000000000)(s:Nat×Nat)(hs:s.1<=b.length)(k:Int)(N:Nat) :
  (Dn prog).call j6 [.ptr p 0,A_ k] ⟨hp (cV b s),N⟩=some (A_ ((gT b s k).1),⟨hp (cV b (gT b s k).2),N⟩):=by
 obtain⟨a,e⟩:=s;have h:=ik b a k hb (by simp only at hs;omega);rw[be WU Xb rfl];unfold gT;simp only[cV];by_cases he:e=0
 .subst he
  cases hg:bi b a k with
  |ok v n =>
   rw[hg,fp (eV hg)]at h;simp(maxSteps:=9^6)(disch:=omega)[↓ac,↓aa,H.get,H.put,h]
  |er e =>
   rw[hg,jf]at h;simp(maxSteps:=9^6)(disch:=omega)[↓ac,↓aa,H.get,H.put,h]
 .simp(maxSteps:=9^6)(disch:=omega)[↓ac,↓aa,H.get,H.put,he]
def nD {hp:D_->am}{p:Nat}(H:Hr hp p)(b:C_)(s:Nat×Nat)(c:Prop)[Decidable c](N:Nat) :
  (Dn prog).call lV [.ptr p 0,B_ (decide c)] ⟨hp (cV b s),N⟩=some (.tup [],⟨hp (cV b (kT s c)),N⟩):=by
 obtain⟨a,e⟩:=s;rw[be XR WG rfl];unfold kT;simp only[cV];by_cases hc:c
 .simp(maxSteps:=9^6)(disch:=omega)[↓ac,↓aa,H.get,H.put,hc]
 .by_cases he:e=0
  .subst he;simp(maxSteps:=9^6)(disch:=omega)[↓ac,↓aa,H.get,H.put,hc]
  .simp(maxSteps:=9^6)(disch:=omega)[↓ac,↓aa,H.get,H.put,hc,he]
def rD {b:C_}{s:Nat×Nat}{k:Int}(h:s.1<=b.length):(gT b s k).2.1<=b.length:=by
 unfold gT;split
 .split
  .rename_i v n hg;exact(eV hg).2
  .exact h
 .exact h
def H0 {b:C_}{s:Nat×Nat}{c:Prop}[Decidable c](h:s.1<=b.length):(kT s c).1<=b.length:=by
 unfold kT;split<;>exact h
def PK {b:C_}{s:Nat×Nat}{k:Int}(h0:0<=k):(gT b s k).1<2 ^ k.toNat:=by
 have:=bN k.toNat;unfold gT;split
 .split
  .rename_i v n hg;exact(eV hg).1
  .exact this
 .exact this
abbrev dK:=@Int.fdiv_eq_ediv_of_nonneg
abbrev jK:=@Int.natCast_nonneg
abbrev fV:=@Nat.div_le_self
abbrev gI:=@Nat.div_eq_of_lt
def au (n:Nat):Nat->C_
 |0=>[]
 |k+1=>n / 2 ^ k % 2::au n k
@[simp] theorem cM {n:Nat}:∀{k:Nat},(au n k).length=k
 |0=>rfl
 |k+1=>by rw[au,aq,cM]
def aoW {n k:Nat}(hk:k<=63):fe .shr (A_ (n:Int)) (A_ (k:Int))=some (.int .i64 ((n / 2 ^ k:Nat):Int)):=by
 rw[jH o_];have:min ((k:Int)).toNat IntKind.i64.bits=k:=by simp only[ar,IntKind.bits];omega
 rw[this,dK _ (jK _),<-Int.natCast_ediv]
def aFA {a:Nat}(h:a<9223372036854775808):fe .and (A_ (a:Int)) (A_ 1)=some (.int .i64 ((a % 2:Nat):Int)):=by
 have:=agr (k:=.i64) (a:=a) (b:=1) (by simpa [jM,IntKind.signed] using h) k_;rw[Nat.and_one_is_mod]at this;exact this
def arV {σ:Type}{hp:σ->am}{l p N:Nat}{st:σ->Nat->σ}{dE:Nat->σ->Prop}(hI:∀k s x,dE (k+1) s->dE k (st s x))(n:Nat)(hn:n<=9223372036854775807)(hg:∀s,get (hp s) p=some (.cells [A_ n]))
  (hy:∀(k:Nat) (s:σ) (x:Nat),dE (k+1) s->x<=1->cA (Dn prog) (.yield l) [.d (.int .u8 (x:Int))] ⟨hp s,N⟩=some (B_ true,⟨hp (st s x),N⟩)):∀(k:Nat) (I:Int) (s:σ),k<=31->dE k s->I=k-1->
  (Dn prog).code (.loop uu) ⟨[(0,.yield l),(2,.ptr p 0),(4,A_ I)],⟨hp s,N⟩⟩=some (.exit 0,⟨[],⟨hp ((au n k).foldl st s),N⟩⟩):=by
 intro k
 induction k with
 |zero =>
  intro I s hk hi hI;subst hI;rw[ah Jh];simp(disch:=omega)[↓aa,au]
 |succ k ih =>
  intro I s hk hi hI;subst hI;have c:((k+1:Nat):Int)-1=(k:Int):=o_;have h1:n / 2 ^ k<=n:=fV _ _;have h2:=aoW (n:=n) (k:=k) o_;have h3:=aFA (a:=n / 2 ^ k) o_;have h4:=hy k s (n / 2 ^ k % 2) hi o_;have h5:=ih ((k:Int)-1) (st s (n / 2 ^ k % 2)) o_ (hI _ _ _ hi) rfl;rw[c,ah Jh,au,ef];generalize n / 2 ^ k=Q at *;have c2:((Q % 2:Nat):Int)=(Q:Int) % 2:=o_;rw[c2]at h4;simp(disch:=omega)[↓ac,hg,-jH,h2,h3,-mz,h4];exact h5
def asq {σ:Type}{hp:σ->am}{l p q N:Nat}{st:σ->Nat->σ}{dE:Nat->σ->Prop}(hI:∀k s x,dE (k+1) s->dE k (st s x))(n k:Nat)(hn:n<=9223372036854775807)(hk:k<=31)(hg:∀s,get (hp s) p=some (.cells [A_ n]))(hg2:∀s,get (hp s) q=some (.cells [A_ k]))
  (hy:∀(k:Nat) (s:σ) (x:Nat),dE (k+1) s->x<=1->cA (Dn prog) (.yield l) [.d (.int .u8 (x:Int))] ⟨hp s,N⟩=some (B_ true,⟨hp (st s x),N⟩))(s:σ)(hs:dE k s) :
  (Dn prog).call qj [.yield l,.ptr q 0,.ptr p 0] ⟨hp s,N⟩=some (.tup [],⟨hp ((au n k).foldl st s),N⟩):=by
 rw[be ae6 aeS rfl];have h:=arV hI n hn hg hy k ((k:Int)-1) s hk hs rfl;simp(disch:=omega)[hg2,h]
abbrev as6 (n k:Int)(acc:C_):am:=[(0,.cells [A_ n]),(1,.cells [A_ k]),(2,.cells [.own false 1 (ai acc)]),(3,.loop [(2,.ptr 2 0)] [7] jv jy false none)]
def aiq {l acc:C_}:l.foldl (fun(s:C_) x=>s++[x]) acc=acc++l:=by
 induction l generalizing acc with
 |nil=>simp
 |cons x r ih=>rw[ef,ih];simp
def aF5 (n k:Int)(s:C_)(x:Nat)(hs:s.length<=990000000):cA (Dn prog) (.yield 3) [.d (.int .u8 (x:Int))] ⟨as6 n k s,4⟩=some (B_ true,⟨as6 n k (s++[x]),4⟩):=by
 have hl:(ai s).length=s.length:=by simp[ai]
 simp(disch:=omega)[Gm,FZ];omega
def acI (acc:C_)(n k:Nat)(hn:n<=9223372036854775807)(hk:k<=31)(ha:acc.length<=900000000) :
  (Dn prog).call xD [.own false 1 (ai acc),.fn qj [] [.ptr 1 0,.ptr 0 0]] ⟨[(0,.cells [A_ n]),(1,.cells [A_ k])],2⟩ =
  some (.own false 1 (ai (acc++au n k)),⟨[(0,.cells [A_ n]),(1,.cells [A_ k]),(2,.cells [.junk])],4⟩):=by
 have h:=asq (hp:=as6 n k) (l:=3) (p:=0) (q:=1) (N:=4) (st:=λs x=>s++[x]) (dE:=λk s=>s.length+k<=980000000) (λk s x h=>by simp only[aj,aq,bt];omega) n k hn hk (λs=>by simp) (λs=>by simp) (λj s x h _=>aF5 n k s x o_) acc o_;rw[aiq]at h;rw[be JE Jy rfl];simp(disch:=omega)[rd,h]
def aqG (n k:Int):(Dn prog).call LV [A_ n,A_ k] ⟨[],0⟩=some (.fn qj [] [.ptr 1 0,.ptr 0 0],⟨[(0,.cells [A_ n]),(1,.cells [A_ k])],2⟩):=by
 rw[be U8 VN rfl];simp(disch:=omega)
abbrev om (n s:Int):Prop:=(0<=s∧s<=31)∧0<=n∧n.toNat<2 ^ s.toNat
def NN (x:AV)(b:C_)(hb:b.length<=1000000000)(hx:elems [] x=some (ai b)):bq prog oj [x]=some (.own true 1 (ai b)):=by
 have hl:(ai b).length=b.length:=by simp[ai]
 rw[aG PH OV rfl];have h4:Nat.ble b.length 4294967296=true:=by rw[bp];omega
 rw[jq];simp(disch:=omega)[df,Nf,hx,h4]
def lW (b:C_)(n s:Int)(hb:b.length<=900000000)(hn:i64 n)(x:AV)(hx:x=.d (.lst (ai b))∨x=.nl∧b=[]):bq prog yx [x,A_ n,A_ s] =
  if om n s then some (.tup [.own true 1 (ai (b++au n.toNat s.toNat)),A_ 0]) else some (.tup [.nl,A_ 2]):=by
 have hc:bq prog oj [x]=some (.own true 1 (ai b)):=by
  refine NN x b o_ ?_;rcases hx with rfl|⟨rfl,rfl⟩<;>rfl
 rw[aG anj an1 rfl];by_cases h1:0<=s∧s<=31
 .obtain⟨S,rfl⟩:=aA h1.1;by_cases h2:n<0
  .rw[aa (by simp only[om];omega)];simp(disch:=omega)[yy,↓ac,↓aa]
  .obtain⟨M,rfl⟩:=aA (Int.not_lt.1 h2);have h3:=aoW (n:=M) (k:=S) o_;by_cases h4:M<2 ^ S
   .rw[ac (by simp only[om,ar];omega)];rw[gI h4]at h3;have h5:=acI b M S o_ o_ hb;rcases hx with rfl|⟨rfl,rfl⟩
    .simp(disch:=omega)[yy,↓ac,↓aa,-jH,h3,hc,aqG,h5]
    .simp(disch:=omega)[yy,↓ac,↓aa,-jH,h3,hc,aqG,h5]
   .rw[aa (by simp only[om,ar];omega)];have h6:M / 2 ^ S≠0:=by
     intro h;rcases Nat.div_eq_zero_iff.1 h with h|h
     .have:=bN S;omega
     .exact h4 h
    have h7:¬(((M / 2 ^ S:Nat):Int)=0):=o_;generalize M / 2 ^ S=Q at *;simp(disch:=omega)[yy,↓ac,↓aa,-jH,h3]
 .rw[aa (by simp only[om];omega)];simp(disch:=omega)[yy,↓ac,↓aa]
def Xv:∀{l:C_}{g:G_}{t:Int},g≠[]->(∀n∈g,0<=n∧n+l.length<=t)->1+l.length<=t->∀n∈grow g l,0<=n∧n<=t
 |[],g,t,h0,h,ht,n,hn=>by grind [grow]
 |x::r,g,t,h0,h,ht,n,hn=>by
  rw[grow]at hn;have hl:=bS.2 h0;simp only[aq]at h ht;by_cases hx:x=1
  .have h1:=h _ (jE (l:=g) (i:=g.length-1) o_);refine Xv (l:=r) (t:=t) (λh2=>?_) (λy hy=>?_) o_ n hn
   all_goals grind [List.length_nil]
  .rw[aa hx]at hn;refine Xv (l:=r) (t:=t) s_ (λy hy=>?_) o_ n hn
   grind
def ahM:∀{l:C_}{g:G_},(grow g l).length<=g.length+l.length
 |[],g=>by simp[grow]
 |x::r,g=>by
  rw[grow];have:=ahM (l:=r) (g:=if x=1 then g.set (g.length-1) (nth g (g.length-1)+1) else g++[1])
  grind
def aaB {b:C_}:∀{k:Nat}{st:RS},(sL b k st).length=k
 |0,_=>rfl
 |k+1,_=>by simp[sL,aaB (k:=k)]
def VH (r m:Int)(q s:Nat)(g:G_)(hq:q<=255)(hs:s<=255)(hm:i64 m)(hg:g.length<=100)(h:∀n∈g,0<=n∧n<=100):bq prog wP [A_ r,.agg [.d (.int .u8 q),.d (.int .u8 s),A_ m,.d (.lst (aI g))]]=if ep r then if aO.may r.toNat ⟨q,s,m,g⟩ then some (A_ 0) else some (A_ 8) else some (A_ 2) :=
 xL r ⟨q,s,m,g⟩ ⟨hq,hs,hm,d_,λn hn=>by grind⟩
def sG (b:C_)(st:RS):G_:=grow [1] (sL b 7 st)
def ajj {b:C_}{st:RS}:4<=nm (sG b st)∧(sG b st).length<=100∧∀n∈sG b st,0<=n∧n<=100:=by
 have h1:=ahM (l:=sL b 7 st) (g:=[1]);rw[aaB]at h1;have h2:=Xv (l:=sL b 7 st) (g:=[1]) (t:=100) s_ (by simp[aaB]) (by rw[aaB];omega);refine⟨?_,by grind [sG],h2⟩;have:sG b st≠[]:=by
  unfold sG;have:∀(l:C_) (g:G_),g≠[]->grow g l≠[]:=by
   intro l
   induction l<;>grind [grow]
  simp_all
 exact aFI this
def ak9 (b:C_)(r o m:Int)(q s:Nat)(st:RS)(hb:b.length<=1000000000)(hs:st.fit) :
  (Dn prog).code (.loop u7) ⟨[(2,AV.d (D.int IntKind.i64 r)),(6,AV.ptr 1 0),(7,AV.ptr 2 0),(8,AV.ptr 3 0),
           (9,AV.fn wR [] [AV.ptr 3 0,AV.ptr 0 0,AV.ptr 2 0]),(10,A_ o),(40,A_ 0)],⟨[(0,.cells [.d (.lst (ai b))]),(1,.cells [.d (.int .u8 q),.d (.int .u8 s),A_ m,.sl 4 0 1]),(2,.cells [A_ (ra st)]),(3,.cells [A_ (re st)]),(4,.arr 1 [[.int .i64 1]])],5⟩⟩ =
   some (.exit 0,⟨[(2,AV.d (D.int IntKind.i64 r)),(6,AV.ptr 1 0),(7,AV.ptr 2 0),(8,AV.ptr 3 0),(10,A_ o)],⟨[(0,.cells [.d (.lst (ai b))]),(1,.cells [.d (.int .u8 q),.d (.int .u8 s),A_ m,.sl (nm (sG b st)) 0 (sG b st).length]),
           (2,.cells [A_ (ra (Lb b 7 st))]),(3,.cells [A_ (re (Lb b 7 st))]),(nm (sG b st),.arr 1 (aI (sG b st)))],4+(sG b st).length⟩⟩) :=
 ajO b r o m q s hb 7 0 [1] st 0 rfl rfl s_ s_ s_ hs
def ahe {b:C_}{st:RS}:sV b st 1<=1:=by have:=wC (b:=b) (st:=st) (s:=1);grind
def aAS {b:C_}{st:RS}:sV b st 2<=3:=by have:=wC (b:=b) (st:=st) (s:=2);grind
def aFG {b:C_}{st:RS}:sV b st 4<=15:=by have:=wC (b:=b) (st:=st) (s:=4);grind
def aGd {b:C_}{st:RS}:sV b st 6<=63:=by have:=wC (b:=b) (st:=st) (s:=6);grind
def aDo {a:Int}:ra ⟨a,0⟩=a:=rfl
def aDt {a:Int}:re ⟨a,0⟩=0:=rfl
def Wr (b:C_)(s a:Int)(X:Obj)(R:am)(N:Nat)(hb:b.length<=1000000000)(ha:i64 a):(Dn prog).call wR [A_ s,.ptr 3 0,.ptr 0 0,.ptr 2 0] ⟨(0,.cells [.d (.lst (ai b))])::(1,X)::(2,.cells [A_ a])::(3,.cells [A_ 0])::R,N⟩ =
  some (A_ (sV b ⟨a,0⟩ s),⟨(0,.cells [.d (.lst (ai b))])::(1,X)::(2,.cells [A_ (ra (sN b ⟨a,0⟩ s))])::(3,.cells [A_ (re (sN b ⟨a,0⟩ s))])::R,N⟩) :=
 CX b s ⟨a,0⟩ X R N hb ha
def R.bind {α β:Type}(x:R α)(f:α->Nat->R β):R β :=
 match x with
 |.ok v n=>f v n
 |.er e=>.er e
@[simp] theorem az {α β:Type}{v:α}{n:Nat}{f:α->Nat->R β}:R.bind (.ok v n) f=f v n:=rfl
@[simp] theorem cG {α β:Type}{e:Nat}{f:α->Nat->R β}:R.bind (.er e) f=.er e:=rfl
def Sk {α:Type}(c:Prop)[Decidable c](v:α)(n:Nat):R α:=if c then .ok v n else .er 7
def z8 (b:C_):Nat->Nat->R C_
 |0,a=>.ok [] a
 |k+1,a=>(bi b a 1).bind λv n=>(z8 b k n).bind λl m=>.ok (v::l) m
def nb (b:C_)(a:Int)(r:Nat):R aO :=
 (bi b a 1).bind λo n=>(bi b n 2).bind λq n=>(bi b n 1).bind λs n =>
 if q=2 then (bi b n 4).bind λm n=>(z8 b 7 n).bind λl n=>Sk (o=0∧aO.may r ⟨q,s,m,grow [1] l⟩) ⟨q,s,m,grow [1] l⟩ n
 else (bi b n 6).bind λm n=>(bi b n 1).bind λp n=>Sk ((o=0∧p=0)∧aO.may r ⟨q,s,m,[1]⟩) ⟨q,s,m,[1]⟩ n
def kV {b:C_}{a s:Int}{v n:Nat}(h:bi b a s=.ok v n):sV b ⟨a,0⟩ s=v∧sN b ⟨a,0⟩ s=⟨n,0⟩:=by
 grind [sV,sN,vO,nO,eO]
def Cd {b:C_}{a s:Int}{e:Nat}(h:bi b a s=.er e):sV b ⟨a,0⟩ s=0∧sN b ⟨a,0⟩ s=⟨0,e+1⟩:=by
 grind [sV,sN,vO,nO,eO]
def WK {b:C_}{a s:Int}{e:Nat}:sV b ⟨a,e+1⟩ s=0∧sN b ⟨a,e+1⟩ s=⟨a,e+1⟩:=by
 grind [sV,sN]
def agb {b:C_}{a:Int}{e:Nat}:∀{k:Nat},Lb b k ⟨a,e+1⟩=⟨a,e+1⟩
 |0=>rfl
 |k+1=>by rw[Lb,WK.2,agb]
def aAY {b:C_}:∀{k a:Nat},match z8 b k a with
  |.ok l n=>sL b k ⟨a,0⟩=l∧Lb b k ⟨a,0⟩=⟨n,0⟩∧(0<k->n<=b.length)
  |.er e=>Lb b k ⟨a,0⟩=⟨0,e+1⟩
 |0,a=>⟨rfl,rfl,λh=>absurd h o_⟩
 |k+1,a=>by
  simp only[z8,sL,Lb]
  cases h:bi b a 1 with
  |ok v n =>
   have hp:=(eV h).2;rw[(kV h).1,(kV h).2,az];have ih:=aAY (b:=b) (k:=k) (a:=n)
   cases h2:z8 b k n with
   |ok l m =>
    rw[h2]at ih;refine⟨by rw[ih.1],ih.2.1,λ_=>?_⟩
    cases k<;>grind [z8]
   |er e=>simp_all
  |er e=>simp_all [Cd,agb]
abbrev XX:D_:=[.d (.int .u8 0),.d (.int .u8 0),A_ 0,.nl]
abbrev SJ (i:aO):D_:=[.d (.int .u8 i.seq),.d (.int .u8 i.shape),A_ i.max,.own true 1 (aI i.groups)]
set_option maxHeartbeats 4000000 in
def aqw (b:C_)(a r:Int)(hb:b.length<=1000000000)(ha:i64 a)(hr:ep r)(s1 s2 s3 s4:RS)(e1:s1=sN b ⟨a,0⟩ 1)(e2:s2=sN b s1 2)(e3:s3=sN b s2 1)(e4:s4=sN b s3 4)(hq:sV b s1 2=2):bq prog Cv [.d (.lst (ai b)),A_ a,A_ r] =
  if re (Lb b 7 s4)=0 then if sV b ⟨a,0⟩ 1=0∧aO.may r.toNat ⟨sV b s1 2,sV b s2 1,sV b s3 4,sG b s4⟩ then some (.tup [.agg (SJ ⟨sV b s1 2,sV b s2 1,sV b s3 4,sG b s4⟩),A_ (ra (Lb b 7 s4)),A_ 0])
   else some (.tup [.agg XX,A_ 0,A_ 8])
  else some (.tup [.agg XX,A_ 0,A_ (re (Lb b 7 s4))]):=by
 rw[aG NW PO rfl];have f1:s1.fit:=e1▸gq hb ha;have f2:s2.fit:=e2▸gq hb f1;have f3:s3.fit:=e3▸gq hb f2;have f4:s4.fit:=e4▸gq hb f3;have v1:=ahe (b:=b) (st:=⟨a,0⟩);have v2:=aAS (b:=b) (st:=s1);have v3:=ahe (b:=b) (st:=s2);have v4:=aFG (b:=b) (st:=s3);obtain⟨g1,g2,g3⟩:=ajj (b:=b) (st:=s4);simp(maxSteps:=9^6)(disch:=first|omega|assumption) [ll,↓ac,↓aa,CX,Wr,ak9,VH,<-e1,<-e2,<-e3,<-e4,Yp,ap7]
set_option maxHeartbeats 4000000 in
def aqb (b:C_)(a r:Int)(hb:b.length<=1000000000)(ha:i64 a)(hr:ep r)(s1 s2 s3 s4 s5:RS)(e1:s1=sN b ⟨a,0⟩ 1)(e2:s2=sN b s1 2)(e3:s3=sN b s2 1)(e4:s4=sN b s3 6)(e5:s5=sN b s4 1)(hq:sV b s1 2≠2):bq prog Cv [.d (.lst (ai b)),A_ a,A_ r] =
  if re s5=0 then if (sV b ⟨a,0⟩ 1=0∧sV b s4 1=0)∧aO.may r.toNat ⟨sV b s1 2,sV b s2 1,sV b s3 6,[1]⟩ then some (.tup [.agg (SJ ⟨sV b s1 2,sV b s2 1,sV b s3 6,[1]⟩),A_ (ra s5),A_ 0])
   else some (.tup [.agg XX,A_ 0,A_ 8])
  else some (.tup [.agg XX,A_ 0,A_ (re s5)]):=by
 rw[aG NW PO rfl];have f1:s1.fit:=e1▸gq hb ha;have f2:s2.fit:=e2▸gq hb f1;have f3:s3.fit:=e3▸gq hb f2;have f4:s4.fit:=e4▸gq hb f3;have v1:=ahe (b:=b) (st:=⟨a,0⟩);have v2:=aAS (b:=b) (st:=s1);have v3:=ahe (b:=b) (st:=s2);have v4:=aGd (b:=b) (st:=s3);have v5:=ahe (b:=b) (st:=s4);have hc:=VH r (sV b s3 6) (sV b s1 2) (sV b s2 1) [1] o_ o_ o_ s_ s_;have h1:aI [1]=[[.int .i64 1]]:=rfl;rw[h1]at hc;simp(maxSteps:=9^6)(disch:=first|omega|assumption) [ll,↓ac,↓aa,CX,Wr,hc,<-e1,<-e2,<-e3,<-e4,<-e5,Yp,ap7,aI];rfl
abbrev pI (b:C_)(r:Nat)(i:aO)(n:Nat):Prop:=i.may r∧n<=b.length∧i.groups.length<=100
theorem amp {α γ:Type}{p:α->Nat->Prop}{c:Prop}[Decidable c]{v:α}{n:Nat}{f:α->Nat->γ}{g:Nat->γ}(h:c->p v n):rK p (Sk c v n) f g=if c then f v n else g 7:=by
 grind [Sk,fp,jf]
def XN (b:C_)(a r:Int)(hb:b.length<=1000000000)(ha:i64 a):bq prog Cv [.d (.lst (ai b)),A_ a,A_ r] =
  if ep r then rK (pI b r.toNat) (nb b a r.toNat) (λi n=>some (.tup [.agg (SJ i),A_ n,A_ 0])) λe=>some (.tup [.agg XX,A_ 0,A_ (e+1)])
  else some (.tup [.agg XX,A_ 0,A_ 2]):=by
 by_cases hr:ep r
 .rw[ac hr];unfold nb;by_cases hq:sV b (sN b ⟨a,0⟩ 1) 2=2
  .rw[aqw b a r hb ha hr _ _ _ _ rfl rfl rfl rfl hq]
   cases h1:bi b a 1 with
   |er e=>simp_all [Cd,WK]
   |ok o n =>
    rw[(kV h1).2]at hq⊢;rw[(kV h1).1,az]
    cases h2:bi b n 2 with
    |er e=>simp_all [Cd]
    |ok q n =>
     rw[(kV h2).1]at hq⊢;rw[(kV h2).2,az]
     cases h3:bi b n 1 with
     |er e=>simp_all [Cd,WK,agb,re]
     |ok s n =>
      rw[(kV h3).2,(kV h3).1,az,ac hq]
      cases h4:bi b n 4 with
      |er e=>simp_all [Cd,agb,re]
      |ok m n =>
       rw[(kV h4).2,(kV h4).1,az];have h5:=aAY (b:=b) (k:=7) (a:=n);have h6:=(ajj (b:=b) (st:=⟨n,0⟩)).2.1;unfold sG at h6⊢
       cases h7:z8 b 7 n with
       |er e=>simp_all [re]
       |ok l n =>
        grind [az,amp,re,ra]
  .rw[aqb b a r hb ha hr _ _ _ _ _ rfl rfl rfl rfl rfl hq]
   cases h1:bi b a 1 with
   |er e=>simp_all [Cd,WK,re]
   |ok o n =>
    rw[(kV h1).2]at hq⊢;rw[(kV h1).1,az]
    cases h2:bi b n 2 with
    |er e=>simp_all [Cd,WK,re]
    |ok q n =>
     rw[(kV h2).1]at hq⊢;rw[(kV h2).2,az]
     cases h3:bi b n 1 with
     |er e=>simp_all [Cd,WK,re]
     |ok s n =>
      rw[(kV h3).2,(kV h3).1,az,aa hq]
      cases h4:bi b n 6 with
      |er e=>simp_all [Cd,WK,re]
      |ok m n =>
       rw[(kV h4).2,(kV h4).1,az]
       cases h5:bi b n 1 with
       |er e=>simp_all [Cd,re]
       |ok p n =>
        rw[(kV h5).2,(kV h5).1,az,amp (λh=>⟨h.2,(eV h5).2,s_⟩)];simp[re,ra]
 .rw[aa hr,aG NW PO rfl];simp(disch:=first|omega|assumption) [ll,↓aa]
abbrev bz:=@Nat.succ_ne_zero
def nU (b:C_):Nat->Nat->R C_
 |0,a=>.ok [] a
 |k+1,a=>(bi b a 8).bind λx n=>(nU b k n).bind λl m=>.ok (x::l) m
def CL (b:C_)(a:Nat):R C_ :=
 (bi b a 3).bind λx n=>if x=6 then (bi b n 4).bind λk m=>if k=0 then .er 7 else
  (if k=15 then (bi b m 8).bind λy m2=>if y=0 then .er 7 else .ok (y+14) m2 else .ok k m).bind λk m =>
  (nU b k m).bind λl m=>(bi b m 3).bind λz m=>if z=7 then .ok l m else .er 7
 else if x=7 then .ok [] n else .er 7
def Lk {α:Type}(r:R α)(P:α->Prop)(s:Nat×Nat):Prop:=match r with
 |.ok v n=>P v∧s=(n,0)
 |.er e=>s.2=e+1
def pB {b:C_}{a v n:Nat}{k:Int}(h:bi b a k=.ok v n):gT b (a,0) k=(v,n,0):=by
 unfold gT;simp only[h,bj]
def Ae {b:C_}{a e:Nat}{k:Int}(h:bi b a k=.er e):gT b (a,0) k=(0,a,e+1):=by
 unfold gT;simp only[h,bj]
def vH {b:C_}{s:Nat×Nat}{k:Int}(h:s.2≠0):gT b s k=(0,s):=by
 unfold gT;rw[aa h]
def Lf {s:Nat×Nat}{c:Prop}[Decidable c](h:c):kT s c=s:=by unfold kT;rw[aa (λh2=>h2.2 h)]
def N3 {a:Nat}{c:Prop}[Decidable c](h:¬c):kT (a,0) c=(a,8):=by unfold kT;rw[ac ⟨rfl,h⟩]
def mb {s:Nat×Nat}{c:Prop}[Decidable c](h:s.2≠0):kT s c=s:=by unfold kT;rw[aa (λh2=>h h2.1)]
section
variable {hp:D_->am}{p:Nat}(H:Hr hp p)(b:C_)(hb:b.length<=1000000000)
include H hb
theorem Wa (s:Nat×Nat)(hs:s.2≠0)(x:AV)(n i:Int)(hi:i<n)(N:Nat) :
  (Dn prog).code (.loop dw) ⟨[(0,.ptr p 0),(2,x),(27,A_ n),(28,A_ i)],⟨hp (cV b s),N⟩⟩ =
  some (.ret,⟨[(2,.nl),(3,A_ 0)],⟨hp (cV b s),N⟩⟩):=by
 obtain⟨a,e⟩:=s;simp only at hs;rw[ah qS];simp only[cV];simp(maxSteps:=9^6)(disch:=omega)[↓ac,↓aa,H.get,H.put,hs]
theorem alf (s:Nat×Nat)(hs:s.2=0)(ha:s.1<=b.length)(l:C_)(hl:l.length<=1000)(n i:Int)(hi:i<n)(hn:n<=1000)(h0:0<=i)(N:Nat) :
  (Dn prog).code (.loop dw) ⟨[(0,.ptr p 0),(2,aE 1 (ai l)),(27,A_ n),(28,A_ i)],⟨hp (cV b s),N⟩⟩ =
  (Dn prog).code (.loop dw) ⟨[(0,.ptr p 0),(2,aE 1 (ai (l++[(gT b s 8).1]))),(27,A_ n),(28,A_ (i+1))],⟨hp (cV b (gT b s 8).2),N⟩⟩:=by
 have h1:=gF H b hb s ha 8 N;have h2:(gT b s 8).1<2 ^ 8:=PK (k:=8) o_;have hl2:(ai l).length=l.length:=by simp[ai]
 obtain⟨a,e⟩:=s;simp only at hs ha;subst hs;generalize gT b (a,0) 8=g at *;obtain⟨x,s'⟩:=g;simp only at h1 h2⊢;rw[ah qS];have c0:((0:Nat):Int)=0:=rfl;have e:aE 1 (ai (l++[x]))=.own false 1 (ai (l++[x])):=mi (by simp[ai]);simp only[cV,c0]at h1⊢;rw[e]
 cases l with
 |nil =>
  simp(maxSteps:=9^6)(disch:=omega)[↓ac,↓aa,H.get,H.put,h1]
 |cons y r =>
  simp(maxSteps:=9^6)(disch:=omega)[↓ac,↓aa,H.get,H.put,h1]
theorem Mm (s:Nat×Nat)(x:AV)(n:Int)(N:Nat) :
  (Dn prog).code (.loop dw) ⟨[(0,.ptr p 0),(2,x),(27,A_ n),(28,A_ n)],⟨hp (cV b s),N⟩⟩ =
  some (.exit 3,⟨[(0,.ptr p 0),(2,x)],⟨hp (cV b s),N⟩⟩):=by
 rw[ah qS];simp(maxSteps:=9^6)(disch:=omega)[↓ac,↓aa]
theorem akQ (n:Nat)(hn:n<=1000)(N:Nat):∀(k i a:Nat) (l:C_),i+k=n->a<=b.length->l.length=i->
  ∃(s:Nat×Nat) (w:C_),s.1<=b.length∧Lk (nU b k a) (λr=>w=l++r) s∧
  ((Dn prog).code (.loop dw) ⟨[(0,.ptr p 0),(2,aE 1 (ai l)),(27,A_ n),(28,A_ i)],⟨hp (cV b (a,0)),N⟩⟩=some (.exit 3,⟨[(0,.ptr p 0),(2,aE 1 (ai w))],⟨hp (cV b s),N⟩⟩)∨
   s.2≠0∧(Dn prog).code (.loop dw) ⟨[(0,.ptr p 0),(2,aE 1 (ai l)),(27,A_ n),(28,A_ i)],⟨hp (cV b (a,0)),N⟩⟩=some (.ret,⟨[(2,.nl),(3,A_ 0)],⟨hp (cV b s),N⟩⟩)):=by
 intro k
 induction k with
 |zero =>
  intro i a l hi ha hl;have:i=n:=o_;subst this;exact⟨(a,0),l,ha,⟨s_,rfl⟩,.inl (Mm H b hb _ _ _ N)⟩
 |succ k ih =>
  intro i a l hi ha hl;have hs:=alf H b hb (a,0) rfl ha l o_ n i o_ o_ o_ N;rw[nU]
  cases e:bi b a 8 with
  |ok x m =>
   rw[pB e]at hs;obtain⟨s,w,h1,h2,h3⟩:=ih (i+1) m (l++[x]) o_ (eV e).2 g_;refine⟨s,w,h1,?_,?_⟩
   .rw[az]
    cases e2:nU b k m with
    |ok r q=>rw[e2]at h2;exact⟨by rw[h2.1,ax];rfl,h2.2⟩
    |er q=>rw[e2]at h2;exact h2
   .rw[hs];exact h3
  |er e0 =>
   rw[Ae e]at hs;refine⟨(a,e0+1),l++[0],ha,rfl,?_⟩;rw[hs];by_cases hk:k=0
   .have:((i:Int)+1)=n:=o_;rw[this];exact .inl (Mm H b hb _ _ _ N)
   .exact .inr ⟨bz _,Wa H b hb _ (bz _) _ _ _ o_ N⟩
end
section
variable {hp:D_->am}{p:Nat}(H:Hr hp p)(b:C_)(hb:b.length<=1000000000)
include H hb
abbrev Hl (hp:D_->am)(p:Nat)(b:C_)(a:Nat)(N:Nat)(w:C_)(x:Int)(s:Nat×Nat):Prop :=
 (Dn prog).call vT [.ptr p 0] ⟨hp (cV b (a,0)),N⟩=some (.tup [aE 1 (ai w),A_ x],⟨hp (cV b s),N⟩)
theorem adI (a:Nat)(ha:a<=b.length)(N:Nat)(h6:(gT b (a,0) 3).1≠6):Hl hp p b a N [] (gT b (a,0) 3).1 (kT (gT b (a,0) 3).2 (((gT b (a,0) 3).1:Int)=7)):=by
 have h1:=gF H b hb (a,0) ha 3 N;have h2:=nD H b (gT b (a,0) 3).2 (((gT b (a,0) 3).1:Int)=7) N;have e:aE 1 (ai [])=.nl:=rfl;have c0:((0:Nat):Int)=0:=rfl;unfold Hl;generalize gT b (a,0) 3=g at *;obtain⟨x,s⟩:=g;simp only at h1 h2 h6⊢;generalize kT s ((x:Int)=7)=s2 at *;rw[be lQ lN rfl,e];simp only[cV,c0]at h1 h2⊢;by_cases h7:(x:Int)=7
 .rw[dT_ h7]at h2;simp(maxSteps:=9^6)(disch:=omega)[↓ac,↓aa,h1,h2]
 .rw[dF_ h7]at h2;simp(maxSteps:=9^6)(disch:=omega)[↓ac,↓aa,h1,h2]
abbrev sA (b:C_)(a:Nat):Nat×Nat:=(gT b (a,0) 3).2
abbrev vB (b:C_)(a:Nat):Nat:=(gT b (sA b a) 4).1
abbrev sB (b:C_)(a:Nat):Nat×Nat:=kT (gT b (sA b a) 4).2 ((0:Int)<(vB b a:Int))
abbrev vC (b:C_)(a:Nat):Nat:=(gT b (sB b a) 8).1
abbrev sC (b:C_)(a:Nat):Nat×Nat:=kT (gT b (sB b a) 8).2 ((0:Int)<(vC b a:Int))
abbrev Tw (hp:D_->am)(p:Nat)(b:C_)(N:Nat)(n:Int)(s0:Nat×Nat)(s:Nat×Nat)(w:C_):Prop :=
 (Dn prog).code (.loop dw) ⟨[(0,.ptr p 0),(2,.nl),(27,A_ n),(28,A_ 0)],⟨hp (cV b s0),N⟩⟩=some (.exit 3,⟨[(0,.ptr p 0),(2,aE 1 (ai w))],⟨hp (cV b s),N⟩⟩)
abbrev aa2 (hp:D_->am)(p:Nat)(b:C_)(N:Nat)(n:Int)(s0:Nat×Nat)(s:Nat×Nat):Prop :=
 (Dn prog).code (.loop dw) ⟨[(0,.ptr p 0),(2,.nl),(27,A_ n),(28,A_ 0)],⟨hp (cV b s0),N⟩⟩=some (.ret,⟨[(2,.nl),(3,A_ 0)],⟨hp (cV b s),N⟩⟩)
theorem at5 (a:Nat)(ha:a<=b.length)(N:Nat)(h6:(gT b (a,0) 3).1=6)(h15:vB b a≠15)(s:Nat×Nat)(hs:s.1<=b.length)(w:C_)(hl:Tw hp p b N (vB b a) (sB b a) s w) :
  Hl hp p b a N w (gT b s 3).1 (kT (gT b s 3).2 (((gT b s 3).1:Int)=7)):=by
 have h1:=gF H b hb (a,0) ha 3 N;have hA:(sA b a).1<=b.length:=rD ha;have hB:(sB b a).1<=b.length:=H0 (rD hA);have h2:=gF H b hb (sA b a) hA 4 N;have h3:=nD H b (gT b (sA b a) 4).2 ((0:Int)<(vB b a:Int)) N;have hv:vB b a<2 ^ 4:=PK (k:=4) o_;have h4:=gF H b hb s hs 3 N;have h5:=nD H b (gT b s 3).2 (((gT b s 3).1:Int)=7) N;have c0:((0:Nat):Int)=0:=rfl;have e0:aE 1 (ai [])=.nl:=rfl;unfold Hl;unfold Tw at hl;unfold sB vB sA at *;generalize gT b (a,0) 3=g1 at *;obtain⟨x1,s1⟩:=g1;simp only at *;generalize gT b s1 4=g2 at *;obtain⟨x2,s2⟩:=g2;simp only at *;generalize kT s2 ((0:Int)<(x2:Int))=s3 at *;generalize gT b s 3=g4 at *;obtain⟨x4,s4⟩:=g4;simp only at *;generalize kT s4 ((x4:Int)=7)=s5 at *;subst h6;rw[be lQ lN rfl];have c6:((6:Nat):Int)=6:=rfl;simp only[cV,c0,c6]at h1 h2 h3 h4 h5 hl⊢;by_cases h7:(x4:Int)=7
 .rw[dT_ h7]at h5;by_cases h0:(0:Int)<(x2:Int)
  .rw[dT_ h0]at h3;simp(maxSteps:=9^6)(disch:=omega)[↓ac,↓aa,h1,h2,h3,h4,h5,hl]
  .rw[dF_ h0]at h3;simp(maxSteps:=9^6)(disch:=omega)[↓ac,↓aa,h1,h2,h3,h4,h5,hl]
 .rw[dF_ h7]at h5;by_cases h0:(0:Int)<(x2:Int)
  .rw[dT_ h0]at h3;simp(maxSteps:=9^6)(disch:=omega)[↓ac,↓aa,h1,h2,h3,h4,h5,hl]
  .rw[dF_ h0]at h3;simp(maxSteps:=9^6)(disch:=omega)[↓ac,↓aa,h1,h2,h3,h4,h5,hl]
theorem avj (a:Nat)(ha:a<=b.length)(N:Nat)(h6:(gT b (a,0) 3).1=6)(h15:vB b a≠15)(s:Nat×Nat)(hl:aa2 hp p b N (vB b a) (sB b a) s) :
  Hl hp p b a N [] 0 s:=by
 have h1:=gF H b hb (a,0) ha 3 N;have hA:(sA b a).1<=b.length:=rD ha;have hB:(sB b a).1<=b.length:=H0 (rD hA);have h2:=gF H b hb (sA b a) hA 4 N;have h3:=nD H b (gT b (sA b a) 4).2 ((0:Int)<(vB b a:Int)) N;have hv:vB b a<2 ^ 4:=PK (k:=4) o_;have c0:((0:Nat):Int)=0:=rfl;have e0:aE 1 (ai [])=.nl:=rfl;unfold Hl;unfold aa2 at hl;unfold sB vB sA at *;generalize gT b (a,0) 3=g1 at *;obtain⟨x1,s1⟩:=g1;simp only at *;generalize gT b s1 4=g2 at *;obtain⟨x2,s2⟩:=g2;simp only at *;generalize kT s2 ((0:Int)<(x2:Int))=s3 at *;subst h6;rw[be lQ lN rfl];have c6:((6:Nat):Int)=6:=rfl;simp only[cV,c0,c6,e0]at h1 h2 h3 hl⊢;by_cases h0:(0:Int)<(x2:Int)
 .rw[dT_ h0]at h3;simp(maxSteps:=9^6)(disch:=omega)[↓ac,↓aa,h1,h2,h3,hl]
 .rw[dF_ h0]at h3;simp(maxSteps:=9^6)(disch:=omega)[↓ac,↓aa,h1,h2,h3,hl]
theorem aou (a:Nat)(ha:a<=b.length)(N:Nat)(h6:(gT b (a,0) 3).1=6)(h15:vB b a=15)(s:Nat×Nat)(hs:s.1<=b.length)(w:C_)(hl:Tw hp p b N ((vC b a+14:Nat):Int) (sC b a) s w) :
  Hl hp p b a N w (gT b s 3).1 (kT (gT b s 3).2 (((gT b s 3).1:Int)=7)):=by
 have h1:=gF H b hb (a,0) ha 3 N;have hA:(sA b a).1<=b.length:=rD ha;have hB:(sB b a).1<=b.length:=H0 (rD hA);have h2:=gF H b hb (sA b a) hA 4 N;have h3:=nD H b (gT b (sA b a) 4).2 ((0:Int)<(vB b a:Int)) N;have hv:vB b a<2 ^ 4:=PK (k:=4) o_;have h8:=gF H b hb (sB b a) hB 8 N;have h9:=nD H b (gT b (sB b a) 8).2 ((0:Int)<(vC b a:Int)) N;have hw:vC b a<2 ^ 8:=PK (k:=8) o_;have h4:=gF H b hb s hs 3 N;have h5:=nD H b (gT b s 3).2 (((gT b s 3).1:Int)=7) N;have c0:((0:Nat):Int)=0:=rfl;have e0:aE 1 (ai [])=.nl:=rfl;unfold Hl;unfold Tw at hl;unfold sC vC sB vB sA at *;generalize gT b (a,0) 3=g1 at *;obtain⟨x1,s1⟩:=g1;simp only at *;generalize gT b s1 4=g2 at *;obtain⟨x2,s2⟩:=g2;simp only at *;generalize kT s2 ((0:Int)<(x2:Int))=s3 at *;generalize gT b s3 8=g3 at *;obtain⟨x3,s6⟩:=g3;simp only at *;generalize kT s6 ((0:Int)<(x3:Int))=s7 at *;generalize gT b s 3=g4 at *;obtain⟨x4,s4⟩:=g4;simp only at *;generalize kT s4 ((x4:Int)=7)=s5 at *;subst h6;subst h15;rw[be lQ lN rfl];have c6:((6:Nat):Int)=6:=rfl;have c15:((15:Nat):Int)=15:=rfl;have c14:((x3+14:Nat):Int)=(x3:Int)+14:=rfl;have h0:(0:Int)<((15:Nat):Int):=o_;rw[dT_ h0]at h3;simp only[cV,c0,c6,c15,c14]at h1 h2 h3 h8 h9 h4 h5 hl⊢;by_cases h7:(x4:Int)=7
 .rw[dT_ h7]at h5;by_cases ha:(0:Int)<(x3:Int)
  .rw[dT_ ha]at h9;simp(maxSteps:=9^6)(disch:=omega)[↓ac,↓aa,h1,h2,h3,h8,h9,h4,h5,hl]
  .rw[dF_ ha]at h9;simp(maxSteps:=9^6)(disch:=omega)[↓ac,↓aa,h1,h2,h3,h8,h9,h4,h5,hl]
 .rw[dF_ h7]at h5;by_cases ha:(0:Int)<(x3:Int)
  .rw[dT_ ha]at h9;simp(maxSteps:=9^6)(disch:=omega)[↓ac,↓aa,h1,h2,h3,h8,h9,h4,h5,hl]
  .rw[dF_ ha]at h9;simp(maxSteps:=9^6)(disch:=omega)[↓ac,↓aa,h1,h2,h3,h8,h9,h4,h5,hl]
theorem apA (a:Nat)(ha:a<=b.length)(N:Nat)(h6:(gT b (a,0) 3).1=6)(h15:vB b a=15)(s:Nat×Nat)(hl:aa2 hp p b N ((vC b a+14:Nat):Int) (sC b a) s) :
  Hl hp p b a N [] 0 s:=by
 have h1:=gF H b hb (a,0) ha 3 N;have hA:(sA b a).1<=b.length:=rD ha;have hB:(sB b a).1<=b.length:=H0 (rD hA);have h2:=gF H b hb (sA b a) hA 4 N;have h3:=nD H b (gT b (sA b a) 4).2 ((0:Int)<(vB b a:Int)) N;have hv:vB b a<2 ^ 4:=PK (k:=4) o_;have h8:=gF H b hb (sB b a) hB 8 N;have h9:=nD H b (gT b (sB b a) 8).2 ((0:Int)<(vC b a:Int)) N;have hw:vC b a<2 ^ 8:=PK (k:=8) o_;have c0:((0:Nat):Int)=0:=rfl;have e0:aE 1 (ai [])=.nl:=rfl;unfold Hl;unfold aa2 at hl;unfold sC vC sB vB sA at *;generalize gT b (a,0) 3=g1 at *;obtain⟨x1,s1⟩:=g1;simp only at *;generalize gT b s1 4=g2 at *;obtain⟨x2,s2⟩:=g2;simp only at *;generalize kT s2 ((0:Int)<(x2:Int))=s3 at *;generalize gT b s3 8=g3 at *;obtain⟨x3,s6⟩:=g3;simp only at *;generalize kT s6 ((0:Int)<(x3:Int))=s7 at *;subst h6;subst h15;rw[be lQ lN rfl];have c6:((6:Nat):Int)=6:=rfl;have c15:((15:Nat):Int)=15:=rfl;have c14:((x3+14:Nat):Int)=(x3:Int)+14:=rfl;have h0:(0:Int)<((15:Nat):Int):=o_;rw[dT_ h0]at h3;simp only[cV,c0,c6,c15,c14,e0]at h1 h2 h3 h8 h9 hl⊢;by_cases ha:(0:Int)<(x3:Int)
 .rw[dT_ ha]at h9;simp(maxSteps:=9^6)(disch:=omega)[↓ac,↓aa,h1,h2,h3,h8,h9,hl]
 .rw[dF_ ha]at h9;simp(maxSteps:=9^6)(disch:=omega)[↓ac,↓aa,h1,h2,h3,h8,h9,hl]
end
section
variable {hp:D_->am}{p:Nat}(H:Hr hp p)(b:C_)(hb:b.length<=1000000000)
include H hb
theorem asu {s:Nat×Nat}{l:C_}(hd:s.2≠0):kT (gT b s 3).2 (((gT b s 3).1:Int)=7)=s:=by
 rw[vH hd,mb hd]
theorem Te (n:Nat)(hn:n<=1000)(N:Nat)(s0:Nat×Nat)(hs0:s0.1<=b.length) :
  ∃(s:Nat×Nat) (w:C_),s.1<=b.length∧(s0.2=0->Lk (nU b n s0.1) (λr=>w=r) s)∧(s0.2≠0->s=s0)∧(Tw hp p b N n s0 s w∨s.2≠0∧aa2 hp p b N n s0 s):=by
 obtain⟨a,e⟩:=s0;have e0:aE 1 (ai [])=.nl:=rfl;by_cases he:e=0
 .subst he;obtain⟨s,w,h1,h2,h3⟩:=akQ H b hb n hn N n 0 a [] o_ hs0 rfl;refine⟨s,w,h1,λ_=>?_,λh=>absurd rfl h,?_⟩
  .simpa using h2
  .rw[e0]at h3;exact h3
 .by_cases h0:n=0
  .subst h0;exact⟨(a,e),[],hs0,λh=>absurd h he,λ_=>rfl,.inl (by have:=Mm H b hb (a,e) .nl 0 N;simpa [Tw,e0] using this)⟩
  .exact⟨(a,e),[],hs0,λh=>absurd h he,λ_=>rfl,.inr ⟨he,Wa H b hb (a,e) he .nl n 0 o_ N⟩⟩
theorem aq7 {n a:Nat}{s:Nat×Nat}{w:C_}(h:Lk (nU b n a) (λr=>w=r) s):Lk ((nU b n a).bind λl m=>(bi b m 3).bind λz m=>if z=7 then .ok l m else .er 7) (λl=>w=l) (kT (gT b s 3).2 (((gT b s 3).1:Int)=7)):=by
 cases e:nU b n a with
 |er q =>
  rw[e]at h;have hd:s.2≠0:=by simp only[Lk]at h;omega
  rw[vH hd,mb hd];exact h
 |ok l m =>
  rw[e]at h;obtain⟨rfl,rfl⟩:=h;rw[az]
  cases e3:bi b m 3 with
  |er q =>
   rw[Ae e3,mb (bz _)];exact rfl
  |ok z m2 =>
   rw[pB e3,az];by_cases hz:z=7
   .rw[ac hz,Lf t_];exact⟨rfl,rfl⟩
   .rw[aa hz,N3 t_];exact rfl
theorem an4 (a:Nat)(ha:a<=b.length)(N:Nat):∃(w:C_) (x:Int) (s:Nat×Nat),Hl hp p b a N w x s∧Lk (CL b a) (λl=>w=l) s:=by
 unfold CL
 cases e1:bi b a 3 with
 |er q =>
  have h:=adI H b hb a ha N (by rw[Ae e1];simp);exact⟨_,_,_,h,by rw[Ae e1,mb (bz _)];exact rfl⟩
 |ok x n =>
  rw[az];by_cases h6:x=6
  rotate_left
  .have h:=adI H b hb a ha N (by rw[pB e1];exact h6);refine⟨_,_,_,h,?_⟩;rw[pB e1,aa h6];by_cases h7:x=7
   .rw[ac h7,Lf t_];exact⟨rfl,rfl⟩
   .rw[aa h7,N3 t_];exact rfl
  rw[ac h6];have hx:(gT b (a,0) 3).1=6:=by rw[pB e1];exact h6
  have hA:sA b a=(n,0):=by unfold sA;rw[pB e1]
  have hAl:(sA b a).1<=b.length:=rD ha;have hBl:(sB b a).1<=b.length:=H0 (rD hAl);have hCl:(sC b a).1<=b.length:=H0 (rD hBl);have hv:vB b a<2 ^ 4:=PK (k:=4) o_;have hw:vC b a<2 ^ 8:=PK (k:=8) o_;by_cases h15:vB b a=15
  .obtain⟨s,w,h1,h2,h3,h4⟩:=Te H b hb (vC b a+14) o_ N (sC b a) hCl;have fin:Lk (((bi b n 4).bind λk m=>if k=0 then R.er 7 else
  (if k=15 then (bi b m 8).bind λy m2=>if y=0 then .er 7 else .ok (y+14) m2 else .ok k m).bind λk m =>
  (nU b k m).bind λl m=>(bi b m 3).bind λz m=>if z=7 then .ok l m else .er 7)) (λl=>w=l) (kT (gT b s 3).2 (((gT b s 3).1:Int)=7)):=by
    cases e2:bi b n 4 with
    |er q=>unfold vB at h15;rw[hA,Ae e2]at h15;exact absurd h15 (by simp)
    |ok k m =>
     have hk:vB b a=k:=by unfold vB;rw[hA,pB e2]
     have hB:sB b a=(m,0):=by unfold sB;rw[Lf o_,hA,pB e2]
     have hC:sC b a=kT (gT b (m,0) 8).2 ((0:Int)<((gT b (m,0) 8).1:Nat)):=by unfold sC vC;rw[hB]
     have hc:vC b a=(gT b (m,0) 8).1:=by unfold vC;rw[hB]
     rw[az,aa o_,ac o_]
     cases e3:bi b m 8 with
     |er q =>
      rw[Ae e3,mb (bz _)]at hC;rw[h3 (by rw[hC];exact bz _),hC,vH (bz _),mb (bz _)];exact rfl
     |ok y m2 =>
      rw[pB e3]at hC hc;simp only at hC hc;rw[az];by_cases hy:y=0
      .rw[N3 o_]at hC;rw[ac hy,h3 (by rw[hC];simp),hC,vH s_,mb s_];exact rfl
      .rw[Lf o_]at hC;rw[hC,hc]at h2;rw[aa hy,az];exact aq7 H b hb (h2 rfl)
   rcases h4 with h4|⟨hd,h4⟩
   .exact⟨w,_,_,aou H b hb a ha N hx h15 s h1 w h4,fin⟩
   .refine⟨[],_,_,apA H b hb a ha N hx h15 s h4,?_⟩;have this:=fin;rw[asu H b hb (l:=[]) hd]at this
    revert this
    generalize ((bi b n 4).bind λk m=>if k=0 then R.er 7 else
  (if k=15 then (bi b m 8).bind λy m2=>if y=0 then .er 7 else .ok (y+14) m2 else .ok k m).bind λk m =>
  (nU b k m).bind λl m=>(bi b m 3).bind λz m=>if z=7 then .ok l m else .er 7)=G
    intro this
    cases G with
    |er q=>exact this
    |ok v m=>exact absurd this.2 (λh=>hd (by rw[h]))
  .obtain⟨s,w,h1,h2,h3,h4⟩:=Te H b hb (vB b a) o_ N (sB b a) hBl;have fin:Lk (((bi b n 4).bind λk m=>if k=0 then R.er 7 else
  (if k=15 then (bi b m 8).bind λy m2=>if y=0 then .er 7 else .ok (y+14) m2 else .ok k m).bind λk m =>
  (nU b k m).bind λl m=>(bi b m 3).bind λz m=>if z=7 then .ok l m else .er 7)) (λl=>w=l) (kT (gT b s 3).2 (((gT b s 3).1:Int)=7)):=by
    have hB:sB b a=kT (gT b (n,0) 4).2 ((0:Int)<((gT b (n,0) 4).1:Nat)):=by unfold sB vB;rw[hA]
    have hb1:vB b a=(gT b (n,0) 4).1:=by unfold vB;rw[hA]
    cases e2:bi b n 4 with
    |er q =>
     rw[Ae e2,mb (bz _)]at hB;rw[h3 (by rw[hB];exact bz _),hB,vH (bz _),mb (bz _)];exact rfl
    |ok k m =>
     rw[pB e2]at hB hb1;simp only at hB hb1;rw[az];by_cases hk:k=0
     .rw[N3 o_]at hB;rw[ac hk,h3 (by rw[hB];simp),hB,vH s_,mb s_];exact rfl
     .rw[Lf o_]at hB;rw[hB,hb1]at h2;rw[aa hk,aa o_,az];exact aq7 H b hb (h2 rfl)
   rcases h4 with h4|⟨hd,h4⟩
   .exact⟨w,_,_,at5 H b hb a ha N hx h15 s h1 w h4,fin⟩
   .refine⟨[],_,_,avj H b hb a ha N hx h15 s h4,?_⟩;have this:=fin;rw[asu H b hb (l:=[]) hd]at this
    revert this
    generalize ((bi b n 4).bind λk m=>if k=0 then R.er 7 else
  (if k=15 then (bi b m 8).bind λy m2=>if y=0 then .er 7 else .ok (y+14) m2 else .ok k m).bind λk m =>
  (nU b k m).bind λl m=>(bi b m 3).bind λz m=>if z=7 then .ok l m else .er 7)=G
    intro this
    cases G with
    |er q=>exact this
    |ok v m=>exact absurd this.2 (λh=>hd (by rw[h]))
end
abbrev li:=@List.sum_cons
structure Hv (hp:AV->am)(p:Nat):Prop where
 get:∀v,get (hp v) p=some (.cells [v])
 put:∀v w,put (hp v) p (.cells [w])=hp w
def inB (x:AV)(b:C_):Prop:=x=.own false 1 (ai b)∨x=.d (.lst (ai b))∨x=.nl∧b=[]
def ki {b:C_}:inB (.own false 1 (ai b)) b:=.inl rfl
def PY {hp:AV->am}{p N:Nat}(H:Hv hp p){x:AV}{b:C_}(hx:inB x b)(hb:b.length<=900000000)(n s:Int)(ho:om n s)(hn:i64 n) :
  (Dn prog).call Dh [A_ n,A_ s,.ptr p 0] ⟨hp x,N⟩=some (.tup [],⟨hp (.own false 1 (ai (b++au n.toNat s.toNat))),N⟩):=by
 have h1:=λx hx=>lW b n s hb hn x hx
 simp only[ac ho]at h1;rw[be ajB agI rfl];rcases hx with rfl|rfl|⟨rfl,rfl⟩
 .have h2:=h1 _ (.inl rfl);simp(disch:=omega)[H.get,H.put,h2]
 .have h2:=h1 _ (.inl rfl);simp(disch:=omega)[H.get,H.put,h2]
 .have h2:=h1 _ (.inr ⟨rfl,rfl⟩);simp(disch:=omega)[H.get,H.put,h2]
def yd {hp:AV->am}{p N:Nat}(H:Hv hp p){x:AV}{b:C_}(hx:inB x b)(hb:b.length<=900000000)(n s:Nat)(hs:s<=31)(ho:n<2 ^ s)(nI sI:Int)(en:nI=n)(es:sI=s) :
  (Dn prog).call Dh [A_ nI,A_ sI,.ptr p 0] ⟨hp x,N⟩=some (.tup [],⟨hp (.own false 1 (ai (b++au n s))),N⟩):=by
 subst en es;have h31:2 ^ s<=2 ^ 31:=aw o_ hs;exact PY H hx hb n s (by simp only[om,ar];omega) (by omega)
def lF:G_->Int->Nat
 |[],_=>0
 |n::r,w=>if w<n then 0 else lF r (w-n)+1
def afC (i:aO)(hi:i.groups.length<=1000)(hg:∀n∈i.groups,1<=n∧n<=8)(m:Nat):∀(r:G_) (g:Nat) (w:Int),i.groups.drop g=r->0<=w->w<r.sum->w<=8->
  (Dn prog).code (.loop wh) ⟨[(2,.ptr 0 0),(8,A_ g),(9,A_ w)],⟨[(0,.cells i.cells)],m⟩⟩=some (.exit 0,⟨[(8,A_ (g+lF r w:Nat))],⟨[(0,.cells i.cells)],m⟩⟩):=by
 simp only[aO.cells];intro r
 induction r with
 |nil=>intro g w h1 h2 h3;simp at h3;omega
 |cons n r ih =>
  intro g w h1 h2 h3 h4;have hlt:g<i.groups.length:=by
   rcases bD g i.groups.length with h|h
   .exact h
   .rw[co h]at h1;exact absurd h1 (by simp)
  have h5:=eY hlt;have e1:i.groups[g]=n∧i.groups.drop (g+1)=r:=by rw[h1]at h5;injection h5 with a b;exact⟨a.symm,b.symm⟩
  have hn:=hg _ (List.getElem_mem hlt);rw[e1.1]at hn;have hnt:nth i.groups g=n:=by have:=yg hlt;rw[bC hlt,e1.1]at this;injection this with this;exact this.symm
  rw[ah Za,lF];by_cases h6:w<n
  .rw[ac h6];simp(disch:=omega)[↓ac,↓aa,hnt]
  .have h7:=ih (g+1) (w-n) e1.2 o_ (by simp only[li]at h3;omega) o_;have c1:((g+1:Nat):Int)=(g:Int)+1:=rfl;have c2:g+1+lF r (w-n)=g+(lF r (w-n)+1):=o_;rw[c1,c2]at h7;rw[aa h6];simp(disch:=omega)[↓ac,↓aa,hnt];exact h7
def d8 {i:aO}(hm:i.may 11):(∀n∈i.groups,1<=n∧n<=8)∧i.groups.sum=i.many:=by
 obtain⟨_,_,_,_,h⟩:=hm;unfold aO.grouped at h;unfold aO.many;by_cases hs:i.seq=2
 .rw[ac hs]at h⊢;exact⟨h.1,h.2.1⟩
 .rw[aa hs]at h⊢;rw[h];simp
def ON (i:aO)(hi:i.Fit)(hm:i.may 11)(w:Int)(h0:0<=w)(h1:w<i.many):bq prog RR [.agg i.cells,A_ w]=some (.tup [A_ (lF i.groups w),A_ 0]):=by
 have hw:=oZ i hi;rw[ac hm]at hw;obtain⟨g1,g2⟩:=d8 hm;have hmm:i.many<=8:=by unfold aO.many;split<;>omega
 have hl:=afC i hi.len g1 1 i.groups 0 w rfl h0 o_ o_;have c0:((0:Nat):Int)=0:=rfl;rw[c0,bn]at hl;simp only[aO.cells]at hw hl;rw[aG ahc agi rfl];simp(disch:=omega)[hw,↓ac,↓aa,hl]
def Ok:∀x∈HX,r8 x.1 x.2<=r8 11 x.2∧r8 x.1 true<=14:=e_
def gR {r:Nat}{i:aO}(hr:r<=11)(h:i.may r):i.may 11:=by
 obtain⟨h1,h2,h3,h4,h5⟩:=h;have:=(Ok _ (fP (r:=r) (s:=decide (i.seq=2)) o_)).1;exact⟨h1,h2,h3,by simp only[]at this;omega,h5⟩
def Jr (g:G_):Nat->Nat->C_
 |0,_=>[]
 |k+1,w=>(if lF g w=lF g (w+1) then au 1 1 else au 0 1)++Jr g k (w+1)
def acV {g:G_}:∀{k w:Nat},(Jr g k w).length=k
 |0,_=>rfl
 |k+1,w=>by rw[Jr,aj,acV];split<;>simp<;>omega
def lH (i:aO):C_:=au 0 1++(au i.seq 2++(au i.shape 1++(if i.seq=2 then au i.max.toNat 4++Jr i.groups 7 0 else au i.max.toNat 6++au 0 1)))
abbrev hpP (i:aO)(v:AV):am:=[(0,.cells [v]),(1,.cells i.cells)]
def Sa (i:aO):Hv (hpP i) 0:=⟨λv=>by simp,λv w=>by simp⟩
def akr (i:aO)(hi:i.Fit)(hm:i.may 11)(hs:i.seq=2)(N:Nat):∀(k w:Nat) (b:C_),w+k=7->b.length<=800000000+w->
  (Dn prog).code (.loop zV) ⟨[(3,.ptr 0 0),(5,.ptr 1 0),(9,.fn Dh [] [.ptr 0 0]),(10,A_ ((w:Int)+1))],⟨hpP i (.own false 1 (ai b)),N⟩⟩ =
  some (.exit 0,⟨[(3,.ptr 0 0)],⟨hpP i (.own false 1 (ai (b++Jr i.groups k w))),N⟩⟩):=by
 have hmm:i.many=8:=by unfold aO.many;rw[ac hs]
 intro k
 induction k with
 |zero =>
  intro w b h1 h2;rw[ah Qv,Jr];simp(disch:=omega)[↓aa]
 |succ k ih =>
  intro w b h1 h2;have g1:=ON i hi hm w o_ o_;have g2:=ON i hi hm (w+1) o_ o_;have p1:=PY (Sa i) (N:=N) (ki (b:=b)) o_ 1 1 k_ o_;have p0:=PY (Sa i) (N:=N) (ki (b:=b)) o_ 0 1 k_ o_;have i1:=ih (w+1) (b++au 1 1) o_ g_;have i0:=ih (w+1) (b++au 0 1) o_ g_;have c1:((w+1:Nat):Int)=(w:Int)+1:=rfl;have t1:(1:Int).toNat=1:=rfl;have t0:(0:Int).toNat=0:=rfl;simp only[aO.cells]at g1 g2;simp only[c1,t1,t0,ax]at p1 p0 i1 i0;rw[ah Qv,Jr];by_cases h:lF i.groups w=lF i.groups (w+1)
  .rw[ac h];simp(disch:=omega)[↓ac,g1,g2,h,p1];exact i1
  .rw[aa h];simp(disch:=omega)[↓ac,↓aa,g1,g2,h,p0];exact i0
def ajz (b:C_)(hb:b.length<=700000000)(x:AV)(hx:x=.d (.lst (ai b))∨x=.nl∧b=[])(r:Int)(i:aO)(hi:i.Fit):bq prog O9 [x,A_ r,.agg i.cells] =
  if ep r then if i.may r.toNat then some (.tup [.own true 1 (ai (b++lH i)),A_ 0]) else some (.tup [.nl,A_ 8]) else some (.tup [.nl,A_ 2]):=by
 have hc:=xL r i hi;simp only[aO.cells]at hc;have hxx:inB x b:=by
  rcases hx with rfl|⟨rfl,rfl⟩
  .exact .inr (.inl rfl)
  .exact .inr (.inr ⟨rfl,rfl⟩)
 rw[aG aop apF rfl];by_cases hr:ep r
 .rw[ac hr]at hc⊢;by_cases hm:i.may r.toNat
  .rw[ac hm]at hc⊢;have hm11:i.may 11:=gR o_ hm;obtain⟨m1,m2,m3,m4,m5⟩:=hm;have hmb:=J7 (r:=r.toNat) (s:=decide (i.seq=2)) o_;have q1:=yd (Sa i) (N:=2) hxx o_ 0 1 k_ k_ 0 1 rfl rfl;have q2:=yd (Sa i) (N:=2) (ki (b:=b++au 0 1)) g_ i.seq 2 k_ o_ i.seq 2 rfl rfl;have q3:=yd (Sa i) (N:=2) (ki (b:=b++au 0 1++au i.seq 2)) g_ i.shape 1 k_ o_ i.shape 1 rfl rfl;by_cases hs:i.seq=2
   .rw[dT_ hs]at m4;have hmb:=(Ok _ (fP (r:=r.toNat) (s:=true) o_)).2;simp only[]at hmb;have q4:=yd (Sa i) (N:=2) (ki (b:=b++au 0 1++au i.seq 2++au i.shape 1)) g_ i.max.toNat 4 k_ o_ i.max 4 o_ rfl;have q5:=akr i hi hm11 hs 2 7 0 (b++au 0 1++au i.seq 2++au i.shape 1++au i.max.toNat 4) o_ g_;have c0:((0:Nat):Int)+1=1:=rfl;rw[c0]at q5;have e:b++au 0 1++au i.seq 2++au i.shape 1++au i.max.toNat 4++Jr i.groups 7 0=b++lH i:=by simp only[lH,ac hs,ax]
    rw[e]at q5;simp only[hpP,aO.cells]at q1 q2 q3 q4 q5;generalize b++au 0 1=B1 at *;generalize B1++au i.seq 2=B2 at *;generalize B2++au i.shape 1=B3 at *;generalize B3++au i.max.toNat 4=B4 at *;generalize lH i=IB at *;rcases hx with rfl|⟨rfl,rfl⟩
    all_goals
     simp(maxSteps:=9^6)(disch:=omega)[hc,↓ac,↓aa,q1,q2,q3,q4,q5]
   .have q4:=yd (Sa i) (N:=2) (ki (b:=b++au 0 1++au i.seq 2++au i.shape 1)) g_ i.max.toNat 6 k_ o_ i.max 6 o_ rfl;have q5:=yd (Sa i) (N:=2) (ki (b:=b++au 0 1++au i.seq 2++au i.shape 1++au i.max.toNat 6)) g_ 0 1 k_ k_ 0 1 rfl rfl;have e:b++au 0 1++au i.seq 2++au i.shape 1++au i.max.toNat 6++au 0 1=b++lH i:=by simp only[lH,aa hs,ax]
    rw[e]at q5;simp only[hpP,aO.cells]at q1 q2 q3 q4 q5;generalize b++au 0 1=B1 at *;generalize B1++au i.seq 2=B2 at *;generalize B2++au i.shape 1=B3 at *;generalize B3++au i.max.toNat 6=B4 at *;generalize lH i=IB at *;rcases hx with rfl|⟨rfl,rfl⟩
    all_goals
     simp(maxSteps:=9^6)(disch:=omega)[hc,↓ac,↓aa,q1,q2,q3,q4,q5]
  .rw[aa hm]at hc⊢;rcases hx with rfl|⟨rfl,rfl⟩
   all_goals simp(disch:=omega)[hc,↓ac,↓aa]
 .rw[aa hr]at hc⊢;rcases hx with rfl|⟨rfl,rfl⟩
  all_goals simp(disch:=omega)[hc,↓ac,↓aa]
def yw {α β γ:Type}{p:α->Nat->Prop}{q:β->Nat->Prop}{x:R β}{f:β->Nat->R α}{F:α->Nat->γ}{G:Nat->γ}(h:∀v n,x=.ok v n->q v n):rK p (x.bind f) F G=rK q x (λv n=>rK p (f v n) F G) G:=by
 cases x with
 |ok v n=>rw[az,fp (h v n rfl)]
 |er e=>rfl
def Jv {α γ:Type}{p:α->Nat->Prop}{b:C_}{a s:Int}{f:Nat->Nat->R α}{F:α->Nat->γ}{G:Nat->γ}:rK p ((bi b a s).bind f) F G=rK (pG b s) (bi b a s) (λv n=>rK p (f v n) F G) G:=yw λ_ _ h=>eV h
structure ba where
 book:Int
 len:Int
abbrev Q_:=List ba
abbrev H_:=List (Q_)
abbrev ba.cells (s:ba):W_:=[.int .i64 s.book,.int .i64 s.len]
def io (l:Q_):E_:=l.map ba.cells
@[simp] theorem au0 {l:Q_}:(io l).length=l.length:=by simp[io]
@[simp] def aE9 {l:Q_}{s:ba}:io (l++[s])=io l++[s.cells]:=by simp[io]
def zm (b:C_)(sz aY left:Nat):Nat->Nat->Nat->R Nat
 |0,_,_=>.er 7
 |f+1,a,acc=>(bi b a sz).bind λn a=>if left<acc+n then .er 7 else if n=aY then zm b sz aY left f a (acc+n) else .ok (acc+n) a
abbrev pL (b:C_)(left n a:Nat):Prop:=n<=left∧a<=b.length
def agM {b:C_}{sz aY left:Nat}:∀{f a acc n m:Nat},zm b sz aY left f a acc=.ok n m->pL b left n m
 |0,_,_,_,_,h=>absurd h (by simp[zm])
 |f+1,a,acc,n,m,h=>by
  rw[zm]at h
  cases h1:bi b a sz with
  |er e=>rw[h1]at h;exact absurd h (by simp)
  |ok v k =>
   rw[h1,az]at h;by_cases h2:left<acc+v
   .rw[ac h2]at h;exact absurd h (by simp)
   .rw[aa h2]at h;by_cases h3:v=aY
    .rw[ac h3]at h;exact agM h
    .rw[aa h3]at h;injection h with e1 e2
     subst e1 e2;exact⟨o_,(eV h1).2⟩
def auT {α γ:Type}{p:α->Nat->Prop}{b:C_}{sz aY left f a acc:Nat}{g:Nat->Nat->R α}{F:α->Nat->γ}{G:Nat->γ}:rK p ((zm b sz aY left f a acc).bind g) F G=rK (pL b left) (zm b sz aY left f a acc) (λv n=>rK p (g v n) F G) G:=yw λ_ _ h=>agM h
def ayo {γ:Type}{b:C_}{sz aY left f a acc:Nat}{F:Nat->Nat->γ}{G:Nat->γ}:rK (pL b left) (zm b sz aY left (f+1) a acc) F G=rK (pG b sz) (bi b a sz) (λn a=>if left<acc+n then G 7 else if n=aY then rK (pL b left) (zm b sz aY left f a (acc+n)) F G else F (acc+n) a) G:=by
 rw[zm,Jv];refine kl (λ_ _=>rfl) (λn a hp=>?_) λ_=>rfl
 by_cases h2:left<acc+n
 .rw[ac h2,ac h2,jf]
 .rw[aa h2,aa h2];by_cases h3:n=aY
  .rw[ac h3,ac h3]
  .rw[aa h3,aa h3,fp ⟨o_,hp.2⟩]
abbrev er3 (e:Nat)(h:HS):J_:=some (.ret,⟨[(6,.nl),(7,A_ 0),(8,A_ (e+1))],h⟩)
def alh (b:C_)(sz aY left:Nat)(hb:b.length<=1000000000)(hsz:sz<=5)(hm:aY=2 ^ sz-1)(hs1:1<=sz)(hl:left<=1000)(x6 x11:AV)(bk:Int)(X:Obj)(y40 y41:D)(M N:Nat)(hM:1<=M):∀(f a acc:Nat),left<acc+f->acc<=left->a<=b.length->
  (Dn prog).code (.loop Aj) ⟨[(0,.d (.lst (ai b))),(5,.ptr 0 0),(6,x6),(7,A_ a),(9,A_ sz),(10,A_ aY),(11,x11),(12,A_ left),(13,.ptr M 0),(14,A_ aY),(40,.d y40),(41,.d y41)],⟨[(0,X),(M,.cells [A_ bk,A_ acc])],N⟩⟩ =
  rK (pL b left) (zm b sz aY left f a acc) (λn a=>some (.exit 4,⟨[(0,.d (.lst (ai b))),(5,.ptr 0 0),(6,x6),(7,A_ a),(9,A_ sz),(10,A_ aY),(11,x11),(12,A_ left),(13,.ptr M 0),(40,.d y40),(41,.d y41)],⟨[(0,X),(M,.cells [A_ bk,A_ n])],N⟩⟩)) (λe=>er3 e ⟨[(0,X)],N⟩):=by
 intro f
 induction f with
 |zero=>intro a acc h1 h2;omega
 |succ f ih =>
  intro a acc h1 h2 ha;rw[ah QH,ayo];have hp2:2 ^ sz<=2 ^ 5:=aw o_ hsz;have hp3:2 ^ 1<=2 ^ sz:=aw o_ hs1;have hM0:M≠0:=o_;simp(maxSteps:=9^6)(disch:=first|omega|assumption) [↓ac,↓aa,ik,hM0,pG];refine kl (λ_ _=>rfl) (λn a' hp=>?_) λ_=>rfl
  have hp4:n<2 ^ sz:=hp.1;by_cases h3:left<acc+n
  .rw[ac h3,ac o_];rfl
  .rw[aa h3,aa o_];by_cases h4:n=aY
   .subst h4;rw[ac rfl,<-ih a' (acc+n) o_ o_ hp.2];simp
   .rw[aa h4,ah QH];simp(maxSteps:=9^6)(disch:=first|omega|assumption) [↓ac,↓aa]
def aO.fsz (i:aO):Nat:=if i.seq=2 then 3 else 5
def Z8 (i:aO):bq prog Rn [.agg i.cells]=some (.tup [A_ i.fsz,A_ ((2 ^ i.fsz-1:Nat):Int)]):=by
 rw[aG agB ahb rfl];unfold aO.fsz;by_cases h:i.seq=2
 .simp(disch:=first|omega|assumption) [↓ac,h]
 .simp(disch:=first|omega|assumption) [↓ac,↓aa]
abbrev Nw (k:Int):Prop:=0<=k∧(k<=11∨k=13)
abbrev ba.right (s:ba)(left:Int):Prop:=(1<=s.len∧s.len<=left)∧Nw s.book
def Ye (s:ba)(left:Int):bq prog ST [.agg [A_ s.book,A_ s.len],A_ left]=if s.right left then some (B_ true) else some (B_ false):=by
 rw[aG aiy ah3 rfl];by_cases h1:1<=s.len<;>by_cases h2:s.len<=left<;>by_cases h3:0<=s.book<;>by_cases h4:s.book<=11<;>by_cases h5:s.book=13<;>
  simp(disch:=first|omega|assumption) [↓ac,↓aa]
def J1 (b:C_)(sz left:Nat)(a:Nat):R ba :=
 (bi b a 4).bind λk a=>if k=12∨13<k then .er 7 else (zm b sz (2 ^ sz-1) left (left+1) a 0).bind λn a=>if n=0 then .er 7 else .ok ⟨k,n⟩ a
abbrev pS (b:C_)(left:Nat)(s:ba)(a:Nat):Prop:=(s.right left)∧a<=b.length
def ayO {γ:Type}{b:C_}{sz left a:Nat}{F:ba->Nat->γ}{G:Nat->γ}:rK (pS b left) (J1 b sz left a) F G=rK (pG b 4) (bi b a 4) (λk a=>if k=12∨13<k then G 7 else rK (pL b left) (zm b sz (2 ^ sz-1) left (left+1) a 0) (λn a=>if n=0 then G 7 else F ⟨k,n⟩ a) G) G:=by
 rw[J1,Jv];refine kl (λ_ _=>rfl) (λk a hp=>?_) λ_=>rfl
 by_cases h:k=12∨13<k
 .simp_all
 .rw[aa h,aa h,auT];refine kl (λ_ _=>rfl) (λn a hq=>?_) λ_=>rfl
  grind [jf,fp]
def ajx {b:C_}{sz left a m:Nat}{s:ba}(h:J1 b sz left a=.ok s m):pS b left s m:=by
 rw[J1]at h
 cases h1:bi b a 4 with
 |er e=>simp_all
 |ok k a1 =>
  by_cases hk:k=12∨13<k
  .simp_all
  .cases h2:zm b sz (2 ^ sz-1) left (left+1) a1 0 with
   |er e=>simp_all
   |ok n a2 =>
    have hq:=agM h2
    grind [az]
def kN (b:C_)(sz:Nat):Nat->Nat->Nat->R Q_
 |0,_,a=>.ok [] a
 |f+1,left,a=>if left=0 then .ok [] a else (J1 b sz left a).bind λs a=>(kN b sz f (left-s.len.toNat) a).bind λl a=>.ok (s::l) a
def fitsS:Int->Q_->Prop
 |left,[]=>left=0
 |left,s::l=>s.right left∧fitsS (left-s.len) l
instance:∀(left:Int) (l:Q_),Decidable (fitsS left l)
 |left,[]=>by unfold fitsS;infer_instance
 |left,s::l=>by
  unfold fitsS;have:Decidable (fitsS (left-s.len) l):=instDecidableFitsS _ l
  infer_instance
abbrev ZR (b:C_)(left:Nat)(l:Q_)(a:Nat):Prop:=fitsS left l∧a<=b.length∧l.length<=left
def JH {b:C_}{sz:Nat}:∀{f left a m:Nat}{l:Q_},left<=f->a<=b.length->kN b sz f left a=.ok l m->ZR b left l m
 |0,left,a,m,l,h,ha,e=>by
  grind [kN,fitsS]
 |f+1,left,a,m,l,h,ha,e=>by
  simp only[kN]at e;by_cases h0:left=0
  .grind [fitsS]
  .rw[aa h0]at e
   cases h1:J1 b sz left a with
   |er e2=>simp_all
   |ok s a1 =>
    have hs:=ajx h1;rw[h1,az]at e
    cases h2:kN b sz f (left-s.len.toNat) a1 with
    |er e2=>simp_all
    |ok l2 a2 =>
     have ih:=JH o_ hs.2 h2;rw[h2,az]at e;injection e with e1 e2
     subst e1 e2;refine⟨⟨hs.1,?_⟩,ih.2.1,?_⟩
     all_goals grind
def ars {γ:Type}{b:C_}{sz f left a:Nat}{F:Q_->Nat->γ}{G:Nat->γ}(hf:left<=f+1)(h0:left≠0):rK (ZR b left) (kN b sz (f+1) left a) F G =
  rK (pS b left) (J1 b sz left a) (λs a=>rK (ZR b (left-s.len.toNat)) (kN b sz f (left-s.len.toNat) a) (λl a=>F (s::l) a) G) G:=by
 rw[kN,aa h0,yw (q:=pS b left) λ_ _ h=>ajx h];refine kl (λ_ _=>rfl) (λs a hp=>?_) λ_=>rfl
 rw[yw (q:=ZR b (left-s.len.toNat)) λ_ _ h=>JH o_ hp.2 h];refine kl (λ_ _=>rfl) (λl a hq=>?_) λ_=>rfl
 rw[fp];refine⟨⟨hp.1,?_⟩,hq.2.1,?_⟩
 all_goals grind
def Zu {γ:Type}{b:C_}{sz f a:Nat}{F:Q_->Nat->γ}{G:Nat->γ}(ha:a<=b.length):rK (ZR b 0) (kN b sz f 0 a) F G=F [] a:=by
 cases f<;>grind [kN,fp,fitsS]
def ZF {α γ:Type}{p:α->Nat->Prop}{r:R α}{f f2:α->Nat->γ}{g g2:Nat->γ}(hp:∀v n,r=.ok v n->p v n)(h:∀v n,r=.ok v n->p v n->f v n=f2 v n)(k:∀e,r=.er e->g e=g2 e):rK p r f g=rK p r f2 g2:=by
 cases r<;>simp_all [fp]
def akG (b:C_)(sz:Nat)(hb:b.length<=1000000000)(hsz:sz<=5)(hs1:1<=sz)(x6:AV)(X:Obj)(y40 y41:D)(left a N:Nat)(G:Q_)(h0:left≠0)(h2:left<=1000)(h3:G.length+left<=10000)(h4:1<=N)(ha:a<=b.length) :
  (Dn prog).code uU ⟨[(0,.d (.lst (ai b))),(5,.ptr 0 0),(6,x6),(7,A_ a),(9,A_ sz),(10,A_ ((2 ^ sz-1:Nat):Int)),(11,aE 2 (io G)),(12,A_ left),(40,.d y40),(41,.d y41)],⟨[(0,X)],N⟩⟩ =
  rK (pS b left) (J1 b sz left a) (λs a=>some (.normal,⟨[(0,.d (.lst (ai b))),(5,.ptr 0 0),(6,x6),(7,A_ a),(9,A_ sz),(10,A_ ((2 ^ sz-1:Nat):Int)),(11,aE 2 (io (G++[s]))),(12,A_ ((left-s.len.toNat:Nat):Int)),(40,.d y40),(41,.d y41)],⟨[(0,X)],N+1⟩⟩)) (λe=>er3 e ⟨[(0,X)],N+1⟩):=by
 rw[ayO,GQ];have hp3:2 ^ 1<=2 ^ sz:=aw o_ hs1;have hN0:N≠0:=o_;have c0:((0:Nat):Int)=0:=rfl;have h5:=λbk M N hM a h1 h2' ha=>alh b sz (2 ^ sz-1) left hb hsz rfl hs1 h2 x6 (aE 2 (io G)) bk X y40 y41 M N hM (left+1) a 0 h1 h2' ha
 simp only[c0]at h5;have h6:=λk n left=>Ye ⟨k,n⟩ left
 simp(maxSteps:=9^6)(disch:=first|omega|assumption) [↓ac,↓aa,ik];refine kl (λ_ _=>rfl) (λk a1 hp=>?_) λ_=>rfl
 have hp1:k<16:=hp.1;by_cases hk:k=12∨13<k
 .grind
 .rw[aa hk,aa o_,h5 k N (N+1) h4 a1 o_ o_ hp.2];simp only[aAG,aBj];refine kl (λ_ _=>rfl) (λn a2 hq=>?_) λ_=>rfl
  by_cases hn:n=0
  .have hr:¬ba.right ⟨k,n⟩ left:=u_;simp(disch:=first|omega|assumption) [↓ac,↓aa,h6]
  .have hr:ba.right ⟨k,n⟩ left:=d_;have e1:((left-n:Nat):Int)=(left:Int)-n:=o_;have e2:(io G).length<1000000000:=by grind [au0]
   simp(disch:=first|omega|assumption) [↓ac,↓aa,h6,e1,oM]
def TC (b:C_)(sz:Nat):Nat->Nat->Nat->Nat
 |0,_,_=>0
 |f+1,left,a=>if left=0 then 0 else match J1 b sz left a with
  |.ok s a=>TC b sz f (left-s.len.toNat) a+1
  |.er _=>1
def akd (b:C_)(sz:Nat)(hb:b.length<=1000000000)(hsz:sz<=5)(hs1:1<=sz)(x6:AV)(X:Obj)(y40 y41:D):∀(f left a N:Nat) (G:Q_),left<=f->left<=1000->G.length+left<=10000->1<=N->a<=b.length->
  (Dn prog).code (.loop uU) ⟨[(0,.d (.lst (ai b))),(5,.ptr 0 0),(6,x6),(7,A_ a),(9,A_ sz),(10,A_ ((2 ^ sz-1:Nat):Int)),(11,aE 2 (io G)),(12,A_ left),(40,.d y40),(41,.d y41)],⟨[(0,X)],N⟩⟩ =
  rK (ZR b left) (kN b sz f left a) (λl a=>some (.exit 2,⟨[(0,.d (.lst (ai b))),(5,.ptr 0 0),(6,x6),(7,A_ a),(9,A_ sz),(10,A_ ((2 ^ sz-1:Nat):Int)),(11,aE 2 (io (G++l))),(40,.d y40),(41,.d y41)],⟨[(0,X)],N+l.length⟩⟩)) (λe=>er3 e ⟨[(0,X)],N+TC b sz f left a⟩):=by
 intro f
 induction f with
 |zero =>
  intro left a N G h1 h2 h3 h4 ha;have:left=0:=o_;subst this;rw[Zu ha,ah GQ];simp(disch:=first|omega|assumption) [↓aa]
 |succ f ih =>
  intro left a N G h1 h2 h3 h4 ha;by_cases h0:left=0
  .subst h0;rw[Zu ha,ah GQ];simp(disch:=first|omega|assumption) [↓aa]
  .rw[ars h1 h0,ah rfl,akG b sz hb hsz hs1 x6 X y40 y41 left a N G h0 h2 h3 h4 ha,alG];refine ZF (λ_ _ h=>ajx h) (λs a1 e1 hp=>?_) (λe e1=>?_)
   .rw[NB,ih (left-s.len.toNat) a1 (N+1) (G++[s]) o_ o_ d_ o_ hp.2]
    grind [TC]
   simp_all [TC]
def uH (b:C_)(sz aY:Nat):Nat->Nat->R H_
 |0,a=>.ok [] a
 |k+1,a=>(kN b sz aY aY a).bind λl a=>(uH b sz aY k a).bind λg a=>.ok (l::g) a
abbrev Wb (b:C_)(max k:Nat)(g:H_)(a:Nat):Prop:=(∀l∈g,fitsS max l∧l.length<=max)∧a<=b.length∧g.length=k
def Ul {b:C_}{sz max:Nat}:∀{k a m:Nat}{g:H_},a<=b.length->uH b sz max k a=.ok g m->Wb b max k g m
 |0,a,m,g,ha,h=>by
  grind [uH]
 |k+1,a,m,g,ha,h=>by
  simp only[uH]at h
  cases h1:kN b sz max max a with
  |er e=>simp_all
  |ok l a1 =>
   have hp:=JH (ak _) ha h1
   cases h2:uH b sz max k a1 with
   |er e=>simp_all
   |ok g2 a2 =>
    have hq:=Ul hp.2.1 h2
    grind [az]
def avl {γ:Type}{b:C_}{sz max k a:Nat}{F:H_->Nat->γ}{G:Nat->γ}(ha:a<=b.length):rK (Wb b max (k+1)) (uH b sz max (k+1) a) F G =
  rK (ZR b max) (kN b sz max max a) (λl a=>rK (Wb b max k) (uH b sz max k a) (λg a=>F (l::g) a) G) G:=by
 rw[uH,yw (q:=ZR b max) λ_ _ h=>JH (ak _) ha h];refine kl (λ_ _=>rfl) (λl a hp=>?_) λ_=>rfl
 rw[yw (q:=Wb b max k) λ_ _ h=>Ul hp.2.1 h];refine kl (λ_ _=>rfl) (λg a hq=>?_) λ_=>rfl
 grind [fp]
def ap4 {γ:Type}{b:C_}{sz max a:Nat}{F:H_->Nat->γ}{G:Nat->γ}(ha:a<=b.length):rK (Wb b max 0) (uH b sz max 0 a) F G=F [] a:=by
 grind [uH,fp]
def bO (g:H_):E_:=g.map λl=>[.lst (io l)]
@[simp] def arH {g:H_}:(bO g).length=g.length:=by simp[bO]
@[simp] def aDp {g:H_}{l:Q_}:bO (g++[l])=bO g++[[.lst (io l)]]:=by simp[bO]
def aoH:H_->Nat
 |[]=>0
 |l::g=>l.length+aoH g
def aoI (b:C_)(sz max:Nat):Nat->Nat->Nat
 |0,_=>0
 |k+1,a=>match kN b sz max max a with
  |.ok l a=>l.length+aoI b sz max k a
  |.er _=>TC b sz max max a
def akx (b:C_)(i:aO)(sz mx:Nat)(hmx:i.max=mx)(hb:b.length<=1000000000)(hsz:sz<=5)(hs1:1<=sz)(h2:mx<=1000)(a N j len:Nat)(Gs:H_)(h3:Gs.length<=10000)(h4:1<=N)(ha:a<=b.length)(hj:j<len)(hlen:len<=10000) :
  (Dn prog).code ve ⟨[(0,.d (.lst (ai b))),(5,.ptr 0 0),(6,aE 1 (bO Gs)),(7,A_ a),(9,A_ sz),(10,A_ ((2 ^ sz-1:Nat):Int)),(40,A_ len),(41,A_ j)],⟨[(0,.cells i.cells)],N⟩⟩ =
  rK (ZR b mx) (kN b sz mx mx a) (λl a=>some (.normal,⟨[(0,.d (.lst (ai b))),(5,.ptr 0 0),(6,aE 1 (bO (Gs++[l]))),(7,A_ a),(9,A_ sz),(10,A_ ((2 ^ sz-1:Nat):Int)),(40,A_ len),(41,A_ ((j+1:Nat):Int))],⟨[(0,.cells i.cells)],N+l.length⟩⟩)) (λe=>er3 e ⟨[(0,.cells i.cells)],N+TC b sz mx mx a⟩):=by
 rw[Qt];have h5:=λy40 y41=>akd b sz hb hsz hs1 (aE 1 (bO Gs)) (.cells i.cells) y40 y41 mx mx a N [] (ak _) h2 g_ h4 ha
 simp only[io,List.map_nil,qU,aK,aO.cells,hmx]at h5;have e2:(bO Gs).length<1000000000:=by rw[arH];omega
 simp(maxSteps:=9^6)(disch:=first|omega|assumption) [↓ac,↓aa,h5,hmx];refine kl (λ_ _=>rfl) (λl a2 hq=>?_) λe=>rfl
 simp[oM,io]
def aj3 (b:C_)(i:aO)(sz mx:Nat)(hmx:i.max=mx)(hb:b.length<=1000000000)(hsz:sz<=5)(hs1:1<=sz)(h2:mx<=1000)(len:Nat)(hlen:len<=1000):∀(k a N j:Nat) (Gs:H_),j+k=len->Gs.length+k<=10000->1<=N->a<=b.length->
  (Dn prog).code (.loop ve) ⟨[(0,.d (.lst (ai b))),(5,.ptr 0 0),(6,aE 1 (bO Gs)),(7,A_ a),(9,A_ sz),(10,A_ ((2 ^ sz-1:Nat):Int)),(40,A_ len),(41,A_ j)],⟨[(0,.cells i.cells)],N⟩⟩ =
  rK (Wb b mx k) (uH b sz mx k a) (λg a=>some (.exit 0,⟨[(6,aE 1 (bO (Gs++g))),(7,A_ a)],⟨[(0,.cells i.cells)],N+aoH g⟩⟩)) (λe=>er3 e ⟨[(0,.cells i.cells)],N+aoI b sz mx k a⟩):=by
 intro k
 induction k with
 |zero =>
  intro a N j Gs h1 h3 h4 ha;rw[ap4 ha,ah Qt];simp(maxSteps:=9^6)(disch:=first|omega|assumption) [↓ac,↓aa,aoH]
 |succ k ih =>
  intro a N j Gs h1 h3 h4 ha;rw[avl ha,ah rfl,akx b i sz mx hmx hb hsz hs1 h2 a N j len Gs o_ h4 ha o_ o_,alG];refine ZF (λ_ _ h=>JH (ak _) ha h) (λl a1 e1 hp=>?_) (λe e1=>?_)
  .rw[NB,ih a1 (N+l.length) (j+1) (Gs++[l]) o_ g_ o_ hp.2.1];refine ZF (λ_ _ h=>Ul hp.2.1 h) (λg a2 e2 hq=>?_) (λe e2=>?_)
   .simp[aoH,dP]
   .simp[aoI,e1,dP]
  .simp[aoI,e1]
def asT {m:Nat}{xs:E_}(h:∀x∈xs,∃l,x=[D.lst l])(hf:lR (aE m xs)=true):qo (aE m xs)=aE m xs:=by
 cases xs with
 |nil=>rfl
 |cons x r =>
  obtain⟨l,rfl⟩:=h x s_;simp[aE,lR,jG,mA]at hf
def ayV {g:H_}:∀x∈bO g,∃l,x=[D.lst l]:=by
 intro x hx;simp only[bO,dC]at hx;obtain⟨l,_,rfl⟩:=hx;exact⟨_,rfl⟩
def vJ (b:C_)(i:aO)(a:Int):R H_ :=
 if 0<=a∧a<=b.length then uH b i.fsz i.max.toNat i.groups.length a.toNat else .er 1
def aqI {b:C_}{a:Int}:bi b a 0=if 0<=a∧a<=b.length then .ok 0 a.toNat else .er 1:=by
 unfold bi;by_cases h:0<=a∧a<=b.length
 .rw[ac h,ac o_,aa o_,ac (by simp[bin])];simp[val]
 .rw[aa h,aa o_]
def atb (b:C_)(a:Int)(i:aO)(hb:b.length<=1000000000)(ha:i64 a)(hi:i.Fit)(hm:i.may 11):bq prog Zi [.d (.lst (ai b)),A_ a,.agg i.cells] =
  rK (Wb b i.max.toNat i.groups.length) (vJ b i a) (λg n=>some (.tup [aE 1 (bO g),A_ n,A_ 0])) (λe=>some (.tup [.nl,A_ 0,A_ (e+1)])):=by
 have hw:=oZ i hi;rw[ac hm]at hw;have hf:=Z8 i;have hmx:i.max=i.max.toNat:=by have:=hm.2.2.1;omega
 have hmb:i.max.toNat<=1000:=by have:=hm.2.2.2.1;have:=J7 (r:=11) (s:=decide (i.seq=2)) o_;omega
 have hsz:1<=i.fsz∧i.fsz<=5:=by unfold aO.fsz;split<;>omega
 have hll:=hi.len;rw[aG anM apl rfl];have hl:=aj3 b i i.fsz i.max.toNat hmx hb hsz.2 hsz.1 hmb i.groups.length hi.len;simp only[aO.cells]at hw hf;unfold vJ;by_cases h0:0<=a∧a<=b.length
 .obtain⟨A,rfl⟩:=aA h0.1;have h1:=hl i.groups.length A 1 0 [] o_ g_ o_ o_;have c0:((0:Nat):Int)=0:=rfl;simp only[aO.cells,bO,List.map_nil,qU,aK,c0]at h1;rw[ac h0];simp(maxSteps:=9^6)(disch:=first|omega|assumption) [↓ac,↓aa,hw,hf,ik,aqI,h0];rw[fp ⟨s_,o_⟩];simp(maxSteps:=9^6)(disch:=first|omega|assumption) [h1];refine kl (λ_ _=>rfl) (λg n hp=>?_) λ_=>rfl
  have hb:=asT (m:=1) (ayV (g:=g));simp only[bO]at hb⊢;by_cases hf:lR (aE 1 (List.map (λl=>[D.lst (io l)]) g))=true
  .rw[ac hf,hb hf]
  .rw[aa hf]
 .rw[aa h0];simp(maxSteps:=9^6)(disch:=first|omega|assumption) [↓ac,↓aa,hw,hf,ik,aqI,h0]
abbrev Z2:Obj:=.cells [A_ 0,A_ 0]
abbrev py:=@List.length_set
structure Hp (hp:C_->am)(D:Nat):Prop where
 get:∀xs,get (hp xs) D=some (.arr 1 (cY xs))
 put:∀xs ys,put (hp xs) D (.arr 1 (cY ys))=hp ys
def swp (xs:C_)(i j:Nat):C_:=(xs.set i (nth xs j)).set j (nth xs i)
@[simp] def yb {xs:C_}{i j:Nat}:(swp xs i j).length=xs.length:=by simp[swp]
def swpR (xs:C_)(a b:Nat):Nat->Nat->C_
 |0,_=>xs
 |k+1,i=>swpR (swp xs (a+i) (b+i)) a b k (i+1)
@[simp] def En {a b:Nat}:∀{k i:Nat}{xs:C_},(swpR xs a b k i).length=xs.length
 |0,_,_=>rfl
 |k+1,i,xs=>by rw[swpR,En,yb]
section
variable {hp:C_->am}{D:Nat}
def ahV (H:Hp hp D)(len:Nat)(hlen:len<=1000000000)(a b n N:Nat)(ha:a+n<=len)(hb:b+n<=len):∀(k i:Nat) (xs:C_),i+k=n->xs.length=len->
  (Dn prog).code (.loop gE) ⟨[(0,.sl D 0 len),(1,A_ a),(2,A_ b),(3,A_ n),(10,A_ i)],⟨hp xs,N⟩⟩ =
  some (.exit 0,⟨[],⟨hp (swpR xs a b k i),N⟩⟩):=by
 intro k
 induction k with
 |zero =>
  intro i xs hi hx;rw[ah pn];simp(maxSteps:=9^6)(disch:=omega)[↓ac,↓aa,swpR]
 |succ k ih =>
  intro i xs hi hx;rw[ah pn];have l1:=py (as:=xs) (i:=a+i) (a:=nth xs (b+i));simp(maxSteps:=9^6)(disch:=omega)[↓ac,↓aa,H.get,H.put];have h:=ih (i+1) (swp xs (a+i) (b+i)) o_ (by simpa using hx);have c1:((i+1:Nat):Int)=(i:Int)+1:=rfl;rw[c1]at h;rw[swpR,<-h];rfl
def Ts (H:Hp hp D)(F:AV)(len:Nat)(hlen:len<=1000000000)(a b n N:Nat)(ha:a+n<=len)(hb:b+n<=len)(xs:C_)(hx:xs.length=len) :
  (Dn prog).call rA [.sl D 0 len,A_ a,A_ b,A_ n,F] ⟨hp xs,N⟩=some (.tup [],⟨hp (swpR xs a b n 0),N⟩):=by
 rw[be DE DD rfl];have h:=ahV H len hlen a b n N ha hb n 0 xs o_ hx;have c0:((0:Nat):Int)=0:=rfl;rw[c0]at h;simp(maxSteps:=9^6)(disch:=omega)[↓ac,↓aa,h]
def rot (m:Nat):Nat->C_->Nat->Nat->C_
 |0,xs,i,j=>xs
 |f+1,xs,i,j=>if i=j then swpR xs (m-i) m i 0 else if j<i then rot m f (swpR xs (m-i) m j 0) (i-j) j else rot m f (swpR xs (m-i) (m+j-i) i 0) i (j-i)
theorem Ii {m:Nat}:∀{f:Nat}{xs:C_}{i j:Nat},(rot m f xs i j).length=xs.length
 |0,_,_,_=>rfl
 |f+1,xs,i,j=>by
  rw[rot];split
  .exact En
  .split
   .rw[Ii,En]
   .rw[Ii,En]
def aqQ (H:Hp hp D)(F:AV)(hF:share F=F)(hG:firm F=F)(len:Nat)(hlen:len<=1000000000)(m N:Nat):∀(f i j:Nat) (xs:C_),i+j<=f->1<=i->1<=j->i<=m->m+j<=len->xs.length=len->
  ∃(k:Nat) (ys:C_),(Dn prog).code (.loop iI) ⟨[(0,.sl D 0 len),(2,A_ m),(4,F),(10,A_ i),(11,A_ j)],⟨hp xs,N⟩⟩ =
   some (.exit 0,⟨[(0,.sl D 0 len),(2,A_ m),(4,F),(10,A_ k)],⟨hp ys,N⟩⟩)∧k<=m∧m+k<=len∧ys.length=len∧swpR ys (m-k) m k 0=rot m f xs i j:=by
 intro f
 induction f with
 |zero=>intro i j xs h h1 h2;omega
 |succ f ih =>
  intro i j xs h h1 h2 h3 h4 hx;rw[ah Dz];by_cases e:i=j
  .subst e;refine⟨i,xs,?_,h3,h4,hx,?_⟩
   .simp(maxSteps:=9^6)(disch:=omega)[↓ac,↓aa]
   .rw[rot,ac rfl]
  .by_cases e2:j<i
   .obtain⟨k,ys,g1,g2,g3,g4,g5⟩:=ih (i-j) j (swpR xs (m-i) m j 0) o_ o_ h2 o_ h4 (by simpa using hx);refine⟨k,ys,?_,g2,g3,g4,?_⟩
    .have hs:=Ts H F len hlen (m-i) m j N o_ o_ xs hx;have c1:((m-i:Nat):Int)=(m:Int)-i:=o_;have c2:((i-j:Nat):Int)=(i:Int)-j:=o_;rw[c1]at hs;rw[c2]at g1;simp(maxSteps:=9^6)(disch:=omega)[↓ac,↓aa,hs,hF,hG,g1]
    .rw[rot,aa e,ac e2,g5]
   .obtain⟨k,ys,g1,g2,g3,g4,g5⟩:=ih i (j-i) (swpR xs (m-i) (m+j-i) i 0) o_ h1 o_ h3 o_ (by simpa using hx);refine⟨k,ys,?_,g2,g3,g4,?_⟩
    .have hs:=Ts H F len hlen (m-i) (m+j-i) i N o_ o_ xs hx;have c1:((m-i:Nat):Int)=(m:Int)-i:=o_;have c2:((j-i:Nat):Int)=(j:Int)-i:=o_;have c3:((m+j-i:Nat):Int)=(m:Int)+j-i:=o_;rw[c1,c3]at hs;rw[c2]at g1;simp(maxSteps:=9^6)(disch:=omega)[↓ac,↓aa,hs,hF,hG,g1]
    .rw[rot,aa e,aa e2,g5]
def arZ (H:Hp hp D)(F:AV)(hF:share F=F)(hG:firm F=F)(len:Nat)(hlen:len<=1000000000)(a m b N:Nat)(h1:a<m)(h2:m<b)(h3:b<=len)(xs:C_)(hx:xs.length=len) :
  (Dn prog).call vg [.sl D 0 len,A_ a,A_ m,A_ b,F] ⟨hp xs,N⟩=some (.tup [],⟨hp (rot m (b-a) xs (m-a) (b-m)),N⟩):=by
 obtain⟨k,ys,g1,g2,g3,g4,g5⟩:=aqQ H F hF hG len hlen m N (b-a) (m-a) (b-m) xs o_ o_ o_ o_ o_ hx;have hs:=Ts H F len hlen (m-k) m k N o_ o_ ys g4;have c1:((m-k:Nat):Int)=(m:Int)-k:=o_;have c2:((m-a:Nat):Int)=(m:Int)-a:=o_;have c3:((b-m:Nat):Int)=(b:Int)-m:=o_;rw[c1,g5]at hs;rw[c2,c3]at g1;rw[be GI Hj rfl];simp(maxSteps:=9^6)(disch:=omega)[↓ac,↓aa,hs,hF,hG,g1]
end
structure Cm (hp:C_->am)(L:Nat)(F:AV)(C:Nat->Nat->Int):Prop where
 sh:share F=F
 fi:firm F=F
 cl:∀xs N x y,x<L->y<L->cA (Dn prog) F [A_ (x:Nat),A_ (y:Nat)] ⟨hp xs,N⟩=some (A_ (C x y),⟨hp xs,N⟩)
abbrev fC (L:Nat)(xs:C_):Prop:=∀x∈xs,x<L
def fC.nth {L:Nat}{xs:C_}(u:fC L xs){i:Nat}(h:i<xs.length):Vm.nth xs i<L:=u _ (jE h)
def fC.swp {L:Nat}{xs:C_}(u:fC L xs){i j:Nat}(hi:i<xs.length)(hj:j<xs.length):fC L (swp xs i j):=by
 intro x hx;rcases fU hx with h|h
 .rcases fU h with h|h
  .exact u x h
  .exact h▸u.nth hj
 .exact h▸u.nth hi
def fC.swpR {L a b:Nat}:∀{k i:Nat}{xs:C_},fC L xs->a+i+k<=xs.length->b+i+k<=xs.length->fC L (swpR xs a b k i)
 |0,_,_,u,_,_=>u
 |k+1,i,xs,u,h1,h2=>by
  rw[Vm.swpR];exact fC.swpR (u.swp o_ o_) (by rw[yb];omega) (by rw[yb];omega)
def fC.rot {L m:Nat}:∀{f i j:Nat}{xs:C_},fC L xs->i<=m->m+j<=xs.length->fC L (rot m f xs i j)
 |0,_,_,_,u,_,_=>u
 |f+1,i,j,xs,u,h1,h2=>by
  rw[Vm.rot];split
  .exact u.swpR o_ (by omega)
  .split
   .exact(u.swpR o_ o_).rot o_ (by rw[En];omega)
   .exact(u.swpR o_ o_).rot o_ (by rw[En];omega)
def insJ (C:Nat->Nat->Int)(a:Nat):Nat->C_->C_
 |0,xs=>xs
 |j+1,xs=>if a<=j∧C (nth xs (j+1)) (nth xs j)<0 then insJ C a j (swp xs (j+1) j) else xs
def insO (C:Nat->Nat->Int)(a:Nat):Nat->Nat->C_->C_
 |0,_,xs=>xs
 |k+1,i,xs=>insO C a k (i+1) (insJ C a i xs)
section
variable {C:Nat->Nat->Int}{a:Nat}
def OT:∀{j:Nat}{xs:C_},(insJ C a j xs).length=xs.length
 |0,_=>rfl
 |j+1,xs=>by
  rw[insJ];split
  .rw[OT,yb]
  .rfl
def Xs:∀{k i:Nat}{xs:C_},(insO C a k i xs).length=xs.length
 |0,_,_=>rfl
 |k+1,i,xs=>by rw[insO,Xs,OT]
def fC.insJ {L:Nat}:∀{j:Nat}{xs:C_},fC L xs->j<xs.length->fC L (insJ C a j xs)
 |0,_,u,_=>u
 |j+1,xs,u,h=>by
  rw[Vm.insJ];split
  .exact(u.swp h o_).insJ (by rw[yb];omega)
  .exact u
def fC.insO {L:Nat}:∀{k i:Nat}{xs:C_},fC L xs->i+k<=xs.length->fC L (insO C a k i xs)
 |0,_,_,u,_=>u
 |k+1,i,xs,u,h=>by
  rw[Vm.insO];exact(u.insJ o_).insO (by rw[OT];omega)
end
section
variable {hp:C_->am}{D L:Nat}{F:AV}{C:Nat->Nat->Int}
def asr (H:Hp hp D)(K:Cm hp L F C)(len:Nat)(hlen:len<=1000000000)(a b I N:Nat):∀(j:Nat) (xs:C_),j<len->xs.length=len->fC L xs->
  (Dn prog).code (.loop fM) ⟨[(0,.sl D 0 len),(1,A_ a),(2,A_ b),(3,F),(8,A_ I),(9,A_ j)],⟨hp xs,N⟩⟩ =
  some (.exit 2,⟨[(0,.sl D 0 len),(1,A_ a),(2,A_ b),(3,F),(8,A_ I)],⟨hp (insJ C a j xs),N⟩⟩):=by
 intro j
 induction j with
 |zero =>
  intro xs hj hx u;rw[ah mQ];simp(maxSteps:=9^6)(disch:=omega)[↓ac,↓aa,insJ,K.sh,K.fi]
 |succ j ih =>
  intro xs hj hx u;rw[ah mQ];have c1:((j+1:Nat):Int)=(j:Int)+1:=rfl;by_cases h1:a<=j
  .have hc:=K.cl xs N _ _ (u.nth (i:=j+1) o_) (u.nth (i:=j) o_);have l1:=py (as:=xs) (i:=j+1) (a:=nth xs j);by_cases h2:C (nth xs (j+1)) (nth xs j)<0
   .have h:=ih (swp xs (j+1) j) o_ (by simpa using hx) (u.swp o_ o_);rw[insJ,ac ⟨h1,h2⟩,<-h];simp(maxSteps:=9^6)(disch:=omega)[↓ac,↓aa,K.sh,K.fi,H.get,H.put,hc,c1];rfl
   .rw[insJ,aa (λh=>h2 h.2)];simp(maxSteps:=9^6)(disch:=omega)[↓ac,↓aa,K.sh,K.fi,H.get,H.put,hc,c1]
  .rw[insJ,aa (λh=>h1 h.1)];simp(maxSteps:=9^6)(disch:=omega)[↓ac,↓aa,K.sh,K.fi,c1]
def aqm (H:Hp hp D)(K:Cm hp L F C)(len:Nat)(hlen:len<=1000000000)(a b N:Nat)(hb:b<=len):∀(k i:Nat) (xs:C_),i+k=b->xs.length=len->fC L xs->
  (Dn prog).code (.loop fK) ⟨[(0,.sl D 0 len),(1,A_ a),(2,A_ b),(3,F),(8,A_ i)],⟨hp xs,N⟩⟩ =
  some (.exit 0,⟨[],⟨hp (insO C a k i xs),N⟩⟩):=by
 intro k
 induction k with
 |zero =>
  intro i xs hi hx u;rw[ah mG];simp(maxSteps:=9^6)(disch:=omega)[↓ac,↓aa,insO,K.sh,K.fi]
 |succ k ih =>
  intro i xs hi hx u;rw[ah mG];have h0:=asr H K len hlen a b i N i xs o_ hx u;have h:=ih (i+1) (insJ C a i xs) o_ (by rw[OT];exact hx) (u.insJ o_);have c1:((i+1:Nat):Int)=(i:Int)+1:=rfl;rw[c1]at h;rw[insO,<-h];simp(maxSteps:=9^6)(disch:=omega)[↓ac,↓aa,K.sh,K.fi,h0]
def QW (H:Hp hp D)(K:Cm hp L F C)(len:Nat)(hlen:len<=1000000000)(a b N:Nat)(hab:a<b)(hb:b<=len)(xs:C_)(hx:xs.length=len)(u:fC L xs) :
  (Dn prog).call oG [.sl D 0 len,A_ a,A_ b,F] ⟨hp xs,N⟩=some (.tup [],⟨hp (insO C a (b-(a+1)) (a+1) xs),N⟩):=by
 rw[be zM zK rfl];have h:=aqm H K len hlen a b N hb (b-(a+1)) (a+1) xs o_ hx u;have c1:((a+1:Nat):Int)=(a:Int)+1:=rfl;rw[c1]at h;simp(maxSteps:=9^6)(disch:=omega)[↓ac,↓aa,K.sh,K.fi,h]
end
abbrev dx:=@Nat.add_sub_cancel
def Nm (C:Nat->Nat->Int)(xs:C_)(a:Nat):Nat->Nat->Nat->Nat
 |0,i,_=>i
 |f+1,i,j=>if i<j then (if C (nth xs ((i+j) / 2)) (nth xs a)<0 then Nm C xs a f ((i+j) / 2+1) j else Nm C xs a f i ((i+j) / 2)) else i
def MY (C:Nat->Nat->Int)(xs:C_)(m:Nat):Nat->Nat->Nat->Nat
 |0,i,_=>i
 |f+1,i,j=>if i<j then (if C (nth xs m) (nth xs ((i+j) / 2))<0 then MY C xs m f i ((i+j) / 2) else MY C xs m f ((i+j) / 2+1) j) else i
def sQ (C:Nat->Nat->Int)(xs:C_)(p:Nat):Nat->Nat->Nat->Nat
 |0,i,_=>i
 |f+1,i,j=>if i<j then (if C (nth xs (p-(i+j) / 2)) (nth xs ((i+j) / 2))<0 then sQ C xs p f i ((i+j) / 2) else sQ C xs p f ((i+j) / 2+1) j) else i
def shU:Nat->Nat->C_->C_
 |0,_,xs=>xs
 |n+1,k,xs=>shU n (k+1) (swp xs k (k+1))
def shD:Nat->Nat->C_->C_
 |0,_,xs=>xs
 |n+1,k,xs=>shD n (k-1) (swp xs k (k-1))
def WR {i j:Nat}:((i:Int)+j).fdiv 2=(((i+j) / 2:Nat):Int):=by
 rw[dK _ o_];omega
section
variable {hp:C_->am}{D L:Nat}{F:AV}{C:Nat->Nat->Int}
def alD (H:Hp hp D)(K:Cm hp L F C)(len:Nat)(hlen:len<=1000000000)(a N:Nat)(ha:a<len)(xs:C_)(hx:xs.length=len)(u:fC L xs):∀(f i j:Nat),j-i<=f->i<=j->j<=len->
  (Dn prog).code (.loop gS) ⟨[(0,.sl D 0 len),(1,A_ a),(4,F),(10,A_ i),(11,A_ j)],⟨hp xs,N⟩⟩ =
  some (.exit 0,⟨[(0,.sl D 0 len),(1,A_ a),(10,A_ (Nm C xs a f i j:Nat))],⟨hp xs,N⟩⟩):=by
 intro f
 induction f with
 |zero =>
  intro i j h1 h2 h3;rw[ah pY];simp(maxSteps:=9^6)(disch:=omega)[↓ac,↓aa,Nm,K.sh,K.fi]
 |succ f ih =>
  intro i j h1 h2 h3;rw[ah pY];by_cases h:i<j
  .have hf:=WR (i:=i) (j:=j);rw[Nm,ac h];have q1:i<=(i+j) / 2∧(i+j) / 2<j:=o_;generalize (i+j) / 2=q at *;have hc:=K.cl xs N _ _ (u.nth (i:=q) o_) (u.nth (i:=a) o_);by_cases g:C (nth xs q) (nth xs a)<0
   .have h5:=ih (q+1) j o_ o_ h3;rw[ac g,<-h5];simp(maxSteps:=9^6)(disch:=omega)[↓ac,↓aa,K.sh,K.fi,H.get,H.put,hc,hf]
   .have h5:=ih i q o_ o_ o_;rw[aa g,<-h5];simp(maxSteps:=9^6)(disch:=omega)[↓ac,↓aa,K.sh,K.fi,H.get,H.put,hc,hf]
  .rw[Nm,aa h];simp(maxSteps:=9^6)(disch:=omega)[↓ac,↓aa,K.sh,K.fi]
def akD (H:Hp hp D)(len:Nat)(hlen:len<=1000000000)(I N:Nat)(hI:I<=len):∀(n k:Nat) (xs:C_),k+n=I-1->xs.length=len->
  (Dn prog).code (.loop gX) ⟨[(0,.sl D 0 len),(10,A_ I),(13,A_ k)],⟨hp xs,N⟩⟩=some (.exit 2,⟨[],⟨hp (shU n k xs),N⟩⟩):=by
 intro n
 induction n with
 |zero =>
  intro k xs h hx;rw[ah pF];simp(maxSteps:=9^6)(disch:=omega)[↓ac,↓aa,shU]
 |succ n ih =>
  intro k xs h hx;rw[ah pF];have l1:=py (as:=xs) (i:=k) (a:=nth xs (k+1));have h5:=ih (k+1) (swp xs k (k+1)) o_ (by simpa using hx);rw[shU,<-h5];simp(maxSteps:=9^6)(disch:=omega)[↓ac,↓aa,H.get,H.put];rfl
def akz (H:Hp hp D)(K:Cm hp L F C)(len:Nat)(hlen:len<=1000000000)(m N:Nat)(ha:m<len)(xs:C_)(hx:xs.length=len)(u:fC L xs):∀(f i j:Nat),j-i<=f->i<=j->j<=len->
  (Dn prog).code (.loop gW) ⟨[(0,.sl D 0 len),(2,A_ m),(4,F),(14,A_ i),(15,A_ j)],⟨hp xs,N⟩⟩ =
  some (.exit 4,⟨[(0,.sl D 0 len),(2,A_ m),(14,A_ (MY C xs m f i j:Nat))],⟨hp xs,N⟩⟩):=by
 intro f
 induction f with
 |zero =>
  intro i j h1 h2 h3;rw[ah pW];simp(maxSteps:=9^6)(disch:=omega)[↓ac,↓aa,MY,K.sh,K.fi]
 |succ f ih =>
  intro i j h1 h2 h3;rw[ah pW];by_cases h:i<j
  .have hf:=WR (i:=i) (j:=j);rw[MY,ac h];have q1:i<=(i+j) / 2∧(i+j) / 2<j:=o_;generalize (i+j) / 2=q at *;have hc:=K.cl xs N _ _ (u.nth (i:=m) o_) (u.nth (i:=q) o_);by_cases g:C (nth xs m) (nth xs q)<0
   .have h5:=ih i q o_ o_ o_;rw[ac g,<-h5];simp(maxSteps:=9^6)(disch:=omega)[↓ac,↓aa,K.sh,K.fi,H.get,H.put,hc,hf]
   .have h5:=ih (q+1) j o_ o_ h3;rw[aa g,<-h5];simp(maxSteps:=9^6)(disch:=omega)[↓ac,↓aa,K.sh,K.fi,H.get,H.put,hc,hf]
  .rw[MY,aa h];simp(maxSteps:=9^6)(disch:=omega)[↓ac,↓aa,K.sh,K.fi]
def ak5 (H:Hp hp D)(len:Nat)(hlen:len<=1000000000)(I N:Nat):∀(n k:Nat) (xs:C_),I+n=k->k<len->xs.length=len->
  (Dn prog).code (.loop ib) ⟨[(0,.sl D 0 len),(14,A_ I),(17,A_ k)],⟨hp xs,N⟩⟩=some (.exit 6,⟨[],⟨hp (shD n k xs),N⟩⟩):=by
 intro n
 induction n with
 |zero =>
  intro k xs h hk hx;rw[ah pT];simp(maxSteps:=9^6)(disch:=omega)[↓ac,↓aa,shD]
 |succ n ih =>
  intro k xs h hk hx;obtain⟨q,rfl⟩:∃q,k=q+1:=⟨k-1,o_⟩
  rw[ah pT];have l1:=py (as:=xs) (i:=q+1) (a:=nth xs q);have h5:=ih q (swp xs (q+1) q) o_ o_ (by simpa using hx);rw[shD,dx,<-h5];simp(maxSteps:=9^6)(disch:=omega)[↓ac,↓aa,H.get,H.put];rfl
def Fo (H:Hp hp D)(K:Cm hp L F C)(len:Nat)(hlen:len<=1000000000)(a m b M n p N:Nat)(xs:C_)(hx:xs.length=len)(u:fC L xs):∀(f i j:Nat),j-i<=f->i<=j->j<=len->j<=p+1->p<len+i->
  (Dn prog).code (.loop gU) ⟨[(0,.sl D 0 len),(1,A_ a),(2,A_ m),(3,A_ b),(4,F),(18,A_ M),(19,A_ n),(20,A_ i),(21,A_ j),(22,A_ p)],⟨hp xs,N⟩⟩ =
  some (.exit 8,⟨[(0,.sl D 0 len),(1,A_ a),(2,A_ m),(3,A_ b),(4,F),(18,A_ M),(19,A_ n),(20,A_ (sQ C xs p f i j:Nat))],⟨hp xs,N⟩⟩):=by
 intro f
 induction f with
 |zero =>
  intro i j h1 h2 h3 h4 h5;rw[ah pJ];simp(maxSteps:=9^6)(disch:=omega)[↓ac,↓aa,sQ,K.sh,K.fi]
 |succ f ih =>
  intro i j h1 h2 h3 h4 h5;rw[ah pJ];by_cases h:i<j
  .have hf:=WR (i:=i) (j:=j);rw[sQ,ac h];have q1:i<=(i+j) / 2∧(i+j) / 2<j:=o_;generalize (i+j) / 2=q at *;have hp1:p-q<len:=o_;have hpq:((p:Int)-q)=((p-q:Nat):Int):=o_;generalize p-q=r at *;have hc:=K.cl xs N _ _ (u.nth (i:=r) o_) (u.nth (i:=q) o_);by_cases g:C (nth xs r) (nth xs q)<0
   .have h6:=ih i q o_ o_ o_ o_ o_;rw[ac g,<-h6];simp(maxSteps:=9^6)(disch:=omega)[↓ac,↓aa,K.sh,K.fi,H.get,H.put,hc,hf,hpq]
   .have h6:=ih (q+1) j o_ o_ h3 o_ o_;rw[aa g,<-h6];simp(maxSteps:=9^6)(disch:=omega)[↓ac,↓aa,K.sh,K.fi,H.get,H.put,hc,hf,hpq]
  .rw[sQ,aa h];simp(maxSteps:=9^6)(disch:=omega)[↓ac,↓aa,K.sh,K.fi]
end
def symM (C:Nat->Nat->Int):Nat->C_->Nat->Nat->Nat->C_
 |0,xs,_,_,_=>xs
 |f+1,xs,a,m,b =>
  if m-a=1 then shU (Nm C xs a (b-m) m b-1-a) a xs
  else if b-m=1 then shD (m-MY C xs m (m-a) a m) m xs
  else
   let s:=if (a+b) / 2<m then sQ C xs ((a+b) / 2+m-1) (b-a) ((a+b) / 2+m-b) ((a+b) / 2) else sQ C xs ((a+b) / 2+m-1) (b-a) a m
   let e:=(a+b) / 2+m-s
   let ys:=if s<m∧m<e then rot m (e-s) xs (m-s) (e-m) else xs
   let zs:=if a<s∧s<(a+b) / 2 then symM C f ys a s ((a+b) / 2) else ys
   if (a+b) / 2<e∧e<b then symM C f zs ((a+b) / 2) e b else zs
def Yx {C:Nat->Nat->Int}{xs:C_}{a:Nat}:∀{f i j:Nat},i<=j->i<=Nm C xs a f i j∧Nm C xs a f i j<=j
 |0,i,j,h=>⟨ak _,h⟩
 |f+1,i,j,h=>by
  rw[Nm];split
  .split
   .have:=Yx (C:=C) (xs:=xs) (a:=a) (f:=f) (i:=(i+j) / 2+1) (j:=j) o_;omega
   .have:=Yx (C:=C) (xs:=xs) (a:=a) (f:=f) (i:=i) (j:=(i+j) / 2) o_;omega
  .exact⟨ak _,h⟩
def agv {C:Nat->Nat->Int}{xs:C_}{m:Nat}:∀{f i j:Nat},i<=j->i<=MY C xs m f i j∧MY C xs m f i j<=j
 |0,i,j,h=>⟨ak _,h⟩
 |f+1,i,j,h=>by
  rw[MY];split
  .split
   .have:=agv (C:=C) (xs:=xs) (m:=m) (f:=f) (i:=i) (j:=(i+j) / 2) o_;omega
   .have:=agv (C:=C) (xs:=xs) (m:=m) (f:=f) (i:=(i+j) / 2+1) (j:=j) o_;omega
  .exact⟨ak _,h⟩
theorem J8 {C:Nat->Nat->Int}{xs:C_}{p:Nat}:∀{f i j:Nat},i<=j->i<=sQ C xs p f i j∧sQ C xs p f i j<=j
 |0,i,j,h=>⟨ak _,h⟩
 |f+1,i,j,h=>by
  rw[sQ];split
  .split
   .have:=J8 (C:=C) (xs:=xs) (p:=p) (f:=f) (i:=i) (j:=(i+j) / 2) o_;omega
   .have:=J8 (C:=C) (xs:=xs) (p:=p) (f:=f) (i:=(i+j) / 2+1) (j:=j) o_;omega
  .exact⟨ak _,h⟩
def am1:∀{n k:Nat}{xs:C_},(shU n k xs).length=xs.length
 |0,_,_=>rfl
 |n+1,k,xs=>by rw[shU,am1,yb]
def am6:∀{n k:Nat}{xs:C_},(shD n k xs).length=xs.length
 |0,_,_=>rfl
 |n+1,k,xs=>by rw[shD,am6,yb]
def fC.shU {L:Nat}:∀{n k:Nat}{xs:C_},fC L xs->k+n<xs.length->fC L (shU n k xs)
 |0,_,_,u,_=>u
 |n+1,k,xs,u,h=>by rw[Vm.shU];exact(u.swp o_ o_).shU (by rw[yb];omega)
def fC.shD {L:Nat}:∀{n k:Nat}{xs:C_},fC L xs->k<xs.length->fC L (shD n k xs)
 |0,_,_,u,_=>u
 |n+1,k,xs,u,h=>by rw[Vm.shD];exact(u.swp o_ o_).shD (by rw[yb];omega)
theorem AH {C:Nat->Nat->Int}:∀{f:Nat}{xs:C_}{a m b:Nat},(symM C f xs a m b).length=xs.length
 |0,_,_,_,_=>rfl
 |f+1,xs,a,m,b=>by
  rw[symM];split
  .exact am1
  .split
   .exact am6
   .simp only
    repeat' split
    all_goals simp only[AH,Ii]
def fC.symM {L:Nat}{C:Nat->Nat->Int}:∀{f:Nat}{xs:C_}{a m b:Nat},fC L xs->a<m->m<b->b<=xs.length->fC L (symM C f xs a m b)
 |0,_,_,_,_,u,_,_,_=>u
 |f+1,xs,a,m,b,u,h1,h2,h3=>by
  rw[Go.Vm.symM];split
  .have:=Yx (C:=C) (xs:=xs) (a:=a) (f:=b-m) (i:=m) (j:=b) o_;exact u.shU (by omega)
  .split
   .exact u.shD (by omega)
   .simp only;generalize hs:(if (a+b) / 2<m then sQ C xs ((a+b) / 2+m-1) (b-a) ((a+b) / 2+m-b) ((a+b) / 2) else sQ C xs ((a+b) / 2+m-1) (b-a) a m)=s;have s1:s<=m∧s<=(a+b) / 2+m∧a<=s+1∧(a+b) / 2+m-s<=b:=by
     grind [J8]
    generalize hys:(if s<m∧m<(a+b) / 2+m-s then Go.Vm.rot m ((a+b) / 2+m-s-s) xs (m-s) ((a+b) / 2+m-s-m) else xs)=ys;have uy:fC L ys∧ys.length=xs.length:=by
     subst hys;split
     .exact⟨u.rot o_ o_,Ii⟩
     grind
    generalize hzs:(if a<s∧s<(a+b) / 2 then Go.Vm.symM C f ys a s ((a+b) / 2) else ys)=zs;have uz:fC L zs∧zs.length=xs.length:=by
     subst hzs;split
     .exact⟨uy.1.symM o_ o_ o_,by grind [AH]⟩
     omega
    split
    .exact uz.1.symM o_ o_ (by omega)
    grind
section
variable {hp:C_->am}{D L:Nat}{F:AV}{C:Nat->Nat->Int}
theorem akJ (H:Hp hp D)(K:Cm hp L F C)(len:Nat)(hlen:len<=1000000000)(N f:Nat)(ih:∀(a m b:Nat) (xs:C_),b-a<=f->a<m->m<b->b<=len->xs.length=len->fC L xs->
  (Dn prog).call cW [.sl D 0 len,A_ a,A_ m,A_ b,F] ⟨hp xs,N⟩=some (.tup [],⟨hp (symM C f xs a m b),N⟩))
  (a m b:Nat)(xs:C_)(h1:b-a<=f+1)(h2:a<m)(h3:m<b)(h4:b<=len)(hx:xs.length=len)(u:fC L xs)(c1:¬m-a=1)(c2:¬b-m=1)(c3:(a+b) / 2<m)(d1:(sQ C xs ((a+b) / 2+m-1) (b-a) ((a+b) / 2+m-b) ((a+b) / 2)<m∧m<(a+b) / 2+m-sQ C xs ((a+b) / 2+m-1) (b-a) ((a+b) / 2+m-b) ((a+b) / 2))) :
  (Dn prog).call cW [.sl D 0 len,A_ a,A_ m,A_ b,F] ⟨hp xs,N⟩=some (.tup [],⟨hp (symM C (f+1) xs a m b),N⟩):=by
 rw[be fm fj rfl,symM,aa c1,aa c2];simp only;have hf:=WR (i:=a) (j:=b);have q1:a<(a+b) / 2∧(a+b) / 2<b∧(a+b) / 2*2<=a+b∧a+b<=(a+b) / 2*2+1:=o_;rw[ac c3];generalize (a+b) / 2=M at *;have cn:((M+m:Nat):Int)=(M:Int)+m:=rfl;have cp:((M+m-1:Nat):Int)=(M:Int)+m-1:=o_;have s1:=J8 (C:=C) (xs:=xs) (p:=M+m-1) (f:=b-a) (i:=M+m-b) (j:=M) o_;have g4:=Fo H K len hlen a m b M (M+m) (M+m-1) N xs hx u (b-a) (M+m-b) M o_ o_ o_ o_ o_;have ci:((M+m-b:Nat):Int)=(M:Int)+m-b:=o_;rw[cn,cp,ci]at g4;generalize sQ C xs (M+m-1) (b-a) (M+m-b) M=s at *;have ce:((M+m-s:Nat):Int)=(M:Int)+m-s:=o_;rw[ac d1];have hr:=arZ H F K.sh K.fi len hlen s m (M+m-s) N d1.1 d1.2 o_ xs hx;have uy:fC L (rot m (M+m-s-s) xs (m-s) (M+m-s-m)):=u.rot o_ o_;have ly:(rot m (M+m-s-s) xs (m-s) (M+m-s-m)).length=len:=by grind [Ii]
 generalize rot m (M+m-s-s) xs (m-s) (M+m-s-m)=ys at *;rw[ce]at hr;by_cases d2:a<s∧s<M
 .rw[ac d2];have h6:=ih a s M ys o_ d2.1 d2.2 o_ ly uy;have uz:fC L (symM C f ys a s M):=uy.symM d2.1 d2.2 o_;have lz:(symM C f ys a s M).length=len:=by grind [AH]
  generalize symM C f ys a s M=zs at *;by_cases d3:M<M+m-s∧M+m-s<b
  .rw[ac d3];have h7:=ih M (M+m-s) b zs o_ d3.1 d3.2 h4 lz uz;rw[ce]at h7
   first
    |(exfalso;omega)
    |simp(disch:=omega)[↓ac,↓aa,K.sh,K.fi,hf,g4,hr,h6,h7]
  .rw[aa d3];have h7:True:=trivial
   first
    |(exfalso;omega)
    |simp(disch:=omega)[↓ac,↓aa,K.sh,K.fi,hf,g4,hr,h6]
 .rw[aa d2];have uz:=uy;have lz:=ly;have h6:True:=trivial;by_cases d3:M<M+m-s∧M+m-s<b
  .rw[ac d3];have h7:=ih M (M+m-s) b ys o_ d3.1 d3.2 h4 lz uz
   first
    |omega
    |simp(disch:=omega)[↓ac,↓aa,K.sh,K.fi,hf,g4,hr,h6,h7]
  .first
    |(omega)
    |simp(disch:=omega)[↓ac,↓aa,K.sh,K.fi,hf,g4,hr]
theorem akW (H:Hp hp D)(K:Cm hp L F C)(len:Nat)(hlen:len<=1000000000)(N f:Nat)(ih:∀(a m b:Nat) (xs:C_),b-a<=f->a<m->m<b->b<=len->xs.length=len->fC L xs->
  (Dn prog).call cW [.sl D 0 len,A_ a,A_ m,A_ b,F] ⟨hp xs,N⟩=some (.tup [],⟨hp (symM C f xs a m b),N⟩))
  (a m b:Nat)(xs:C_)(h1:b-a<=f+1)(h2:a<m)(h3:m<b)(h4:b<=len)(hx:xs.length=len)(u:fC L xs)(c1:¬m-a=1)(c2:¬b-m=1)(c3:(a+b) / 2<m)(d1:¬(sQ C xs ((a+b) / 2+m-1) (b-a) ((a+b) / 2+m-b) ((a+b) / 2)<m∧m<(a+b) / 2+m-sQ C xs ((a+b) / 2+m-1) (b-a) ((a+b) / 2+m-b) ((a+b) / 2))) :
  (Dn prog).call cW [.sl D 0 len,A_ a,A_ m,A_ b,F] ⟨hp xs,N⟩=some (.tup [],⟨hp (symM C (f+1) xs a m b),N⟩):=by
 rw[be fm fj rfl,symM,aa c1,aa c2];simp only;have hf:=WR (i:=a) (j:=b);have q1:a<(a+b) / 2∧(a+b) / 2<b∧(a+b) / 2*2<=a+b∧a+b<=(a+b) / 2*2+1:=o_;rw[ac c3];generalize (a+b) / 2=M at *;have cn:((M+m:Nat):Int)=(M:Int)+m:=rfl;have cp:((M+m-1:Nat):Int)=(M:Int)+m-1:=o_;have s1:=J8 (C:=C) (xs:=xs) (p:=M+m-1) (f:=b-a) (i:=M+m-b) (j:=M) o_;have g4:=Fo H K len hlen a m b M (M+m) (M+m-1) N xs hx u (b-a) (M+m-b) M o_ o_ o_ o_ o_;have ci:((M+m-b:Nat):Int)=(M:Int)+m-b:=o_;rw[cn,cp,ci]at g4;generalize sQ C xs (M+m-1) (b-a) (M+m-b) M=s at *;have ce:((M+m-s:Nat):Int)=(M:Int)+m-s:=o_;rw[aa d1];have uy:=u;have ly:=hx;have hr:True:=trivial;by_cases d2:a<s∧s<M
 .rw[ac d2];have h6:=ih a s M xs o_ d2.1 d2.2 o_ ly uy;have uz:fC L (symM C f xs a s M):=uy.symM d2.1 d2.2 o_;have lz:(symM C f xs a s M).length=len:=o_;generalize symM C f xs a s M=zs at *;by_cases d3:M<M+m-s∧M+m-s<b
  .rw[ac d3];have h7:=ih M (M+m-s) b zs o_ d3.1 d3.2 h4 lz uz;rw[ce]at h7
   first
    |omega
    |simp(disch:=omega)[↓ac,↓aa,K.sh,K.fi,hf,g4,hr,h6,h7]
  .rw[aa d3];have h7:True:=trivial
   first
    |omega
    |simp(disch:=omega)[↓ac,↓aa,K.sh,K.fi,hf,g4,hr,h6,h7]
 .rw[aa d2];have uz:=uy;have lz:=ly;by_cases d3:M<M+m-s∧M+m-s<b
  .have h7:=ih M (M+m-s) b xs o_ d3.1 d3.2 h4 lz uz;rw[ce]at h7
   first
    |(omega)
    |simp(disch:=omega)[↓ac,↓aa,K.fi,hf,g4,h7]
  .first
    |omega
    |simp(disch:=omega)[↓ac,↓aa,K.sh,K.fi,hf,g4,hr,h6,h7]
theorem akP (H:Hp hp D)(K:Cm hp L F C)(len:Nat)(hlen:len<=1000000000)(N f:Nat)(ih:∀(a m b:Nat) (xs:C_),b-a<=f->a<m->m<b->b<=len->xs.length=len->fC L xs->
  (Dn prog).call cW [.sl D 0 len,A_ a,A_ m,A_ b,F] ⟨hp xs,N⟩=some (.tup [],⟨hp (symM C f xs a m b),N⟩))
  (a m b:Nat)(xs:C_)(h1:b-a<=f+1)(h2:a<m)(h3:m<b)(h4:b<=len)(hx:xs.length=len)(u:fC L xs)(c1:¬m-a=1)(c2:¬b-m=1)(c3:¬(a+b) / 2<m)(d1:(sQ C xs ((a+b) / 2+m-1) (b-a) a m<m∧m<(a+b) / 2+m-sQ C xs ((a+b) / 2+m-1) (b-a) a m)) :
  (Dn prog).call cW [.sl D 0 len,A_ a,A_ m,A_ b,F] ⟨hp xs,N⟩=some (.tup [],⟨hp (symM C (f+1) xs a m b),N⟩):=by
 rw[be fm fj rfl,symM,aa c1,aa c2];simp only;have hf:=WR (i:=a) (j:=b);have q1:a<(a+b) / 2∧(a+b) / 2<b∧(a+b) / 2*2<=a+b∧a+b<=(a+b) / 2*2+1:=o_;rw[aa c3];generalize (a+b) / 2=M at *;have cn:((M+m:Nat):Int)=(M:Int)+m:=rfl;have cp:((M+m-1:Nat):Int)=(M:Int)+m-1:=o_;have s1:=J8 (C:=C) (xs:=xs) (p:=M+m-1) (f:=b-a) (i:=a) (j:=m) o_;have g4:=Fo H K len hlen a m b M (M+m) (M+m-1) N xs hx u (b-a) a m o_ o_ o_ o_ o_;rw[cn,cp]at g4;generalize sQ C xs (M+m-1) (b-a) a m=s at *;have ce:((M+m-s:Nat):Int)=(M:Int)+m-s:=o_;rw[ac d1];have hr:=arZ H F K.sh K.fi len hlen s m (M+m-s) N d1.1 d1.2 o_ xs hx;have uy:fC L (rot m (M+m-s-s) xs (m-s) (M+m-s-m)):=u.rot o_ o_;have ly:(rot m (M+m-s-s) xs (m-s) (M+m-s-m)).length=len:=by grind [Ii]
 generalize rot m (M+m-s-s) xs (m-s) (M+m-s-m)=ys at *;rw[ce]at hr;by_cases d2:a<s∧s<M
 .rw[ac d2];have h6:=ih a s M ys o_ d2.1 d2.2 o_ ly uy;have uz:fC L (symM C f ys a s M):=uy.symM d2.1 d2.2 o_;have lz:(symM C f ys a s M).length=len:=by grind [AH]
  generalize symM C f ys a s M=zs at *;by_cases d3:M<M+m-s∧M+m-s<b
  .rw[ac d3];have h7:=ih M (M+m-s) b zs o_ d3.1 d3.2 h4 lz uz;rw[ce]at h7
   first
    |(exfalso;omega)
    |simp(disch:=omega)[↓ac,↓aa,K.sh,K.fi,hf,g4,hr,h6,h7]
  .rw[aa d3];have h7:True:=trivial
   first
    |omega
    |simp(disch:=omega)[↓ac,↓aa,K.sh,K.fi,hf,g4,hr,h6,h7]
 .rw[aa d2];have uz:=uy;have lz:=ly;have h6:True:=trivial;by_cases d3:M<M+m-s∧M+m-s<b
  .rw[ac d3];have h7:=ih M (M+m-s) b ys o_ d3.1 d3.2 h4 lz uz;rw[ce]at h7
   first
    |(omega)
    |simp(disch:=omega)[↓ac,↓aa,K.sh,K.fi,hf,g4,hr,h7]
  .first
    |(omega)
    |simp(disch:=omega)[↓ac,↓aa,K.sh,K.fi,hf,g4,hr]
theorem als (H:Hp hp D)(K:Cm hp L F C)(len:Nat)(hlen:len<=1000000000)(N f:Nat)(ih:∀(a m b:Nat) (xs:C_),b-a<=f->a<m->m<b->b<=len->xs.length=len->fC L xs->
  (Dn prog).call cW [.sl D 0 len,A_ a,A_ m,A_ b,F] ⟨hp xs,N⟩=some (.tup [],⟨hp (symM C f xs a m b),N⟩))
  (a m b:Nat)(xs:C_)(h1:b-a<=f+1)(h2:a<m)(h3:m<b)(h4:b<=len)(hx:xs.length=len)(u:fC L xs)(c1:¬m-a=1)(c2:¬b-m=1)(c3:¬(a+b) / 2<m)(d1:¬(sQ C xs ((a+b) / 2+m-1) (b-a) a m<m∧m<(a+b) / 2+m-sQ C xs ((a+b) / 2+m-1) (b-a) a m)) :
  (Dn prog).call cW [.sl D 0 len,A_ a,A_ m,A_ b,F] ⟨hp xs,N⟩=some (.tup [],⟨hp (symM C (f+1) xs a m b),N⟩):=by
 rw[be fm fj rfl,symM,aa c1,aa c2];simp only;have hf:=WR (i:=a) (j:=b);have q1:a<(a+b) / 2∧(a+b) / 2<b∧(a+b) / 2*2<=a+b∧a+b<=(a+b) / 2*2+1:=o_;rw[aa c3];generalize (a+b) / 2=M at *;have cn:((M+m:Nat):Int)=(M:Int)+m:=rfl;have cp:((M+m-1:Nat):Int)=(M:Int)+m-1:=o_;have s1:=J8 (C:=C) (xs:=xs) (p:=M+m-1) (f:=b-a) (i:=a) (j:=m) o_;have g4:=Fo H K len hlen a m b M (M+m) (M+m-1) N xs hx u (b-a) a m o_ o_ o_ o_ o_;rw[cn,cp]at g4;generalize sQ C xs (M+m-1) (b-a) a m=s at *;have ce:((M+m-s:Nat):Int)=(M:Int)+m-s:=o_;rw[aa d1];have uy:=u;have ly:=hx;have hr:True:=trivial;by_cases d2:a<s∧s<M
 .rw[ac d2];have h6:=ih a s M xs o_ d2.1 d2.2 o_ ly uy;have uz:fC L (symM C f xs a s M):=uy.symM d2.1 d2.2 o_;have lz:(symM C f xs a s M).length=len:=by grind [AH]
  generalize symM C f xs a s M=zs at *;by_cases d3:M<M+m-s∧M+m-s<b
  .rw[ac d3];have h7:=ih M (M+m-s) b zs o_ d3.1 d3.2 h4 lz uz;rw[ce]at h7
   first
    |omega
    |simp(disch:=omega)[↓ac,↓aa,K.sh,K.fi,hf,g4,hr,h6,h7]
  .rw[aa d3];have h7:True:=trivial
   first
    |(exfalso;omega)
    |simp(disch:=omega)[↓ac,↓aa,K.sh,K.fi,hf,g4,h6]
 .rw[aa d2];have uz:=uy;have lz:=ly;have h6:True:=trivial;by_cases d3:M<M+m-s∧M+m-s<b
  .first
    |omega
    |simp(disch:=omega)[↓ac,↓aa,K.sh,K.fi,hf,g4,hr,h6,h7]
  .first
    |(omega)
    |simp(disch:=omega)[↓ac,↓aa,hf,g4]
def ah7 (H:Hp hp D)(K:Cm hp L F C)(len:Nat)(hlen:len<=1000000000)(N:Nat):∀(f a m b:Nat) (xs:C_),b-a<=f->a<m->m<b->b<=len->xs.length=len->fC L xs->
  (Dn prog).call cW [.sl D 0 len,A_ a,A_ m,A_ b,F] ⟨hp xs,N⟩=some (.tup [],⟨hp (symM C f xs a m b),N⟩):=by
 intro f
 induction f with
 |zero=>omega
 |succ f ih =>
  intro a m b xs h1 h2 h3 h4 hx u;by_cases c1:m-a=1
  .rw[be fm fj rfl,symM,ac c1];have hb:=Yx (C:=C) (xs:=xs) (a:=a) (f:=b-m) (i:=m) (j:=b) o_;have g0:=alD H K len hlen a N o_ xs hx u (b-m) m b o_ o_ h4;generalize Nm C xs a (b-m) m b=I at *;have g1:=akD H len hlen I N o_ (I-1-a) a xs o_ hx;simp(disch:=omega)[↓ac,g0,g1]
  .by_cases c2:b-m=1
   .rw[be fm fj rfl,symM,aa c1,ac c2];have hb:=agv (C:=C) (xs:=xs) (m:=m) (f:=m-a) (i:=a) (j:=m) o_;have g0:=akz H K len hlen m N o_ xs hx u (m-a) a m o_ o_ o_;generalize MY C xs m (m-a) a m=I at *;have g1:=ak5 H len hlen I N (m-I) m xs o_ o_ hx;simp(disch:=omega)[↓ac,↓aa,g0,g1]
   grind [akJ,akW,akP,als]
end
end Go.Vm
end
