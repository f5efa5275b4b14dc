import Derived.KernelRfl
import Derived.Test.YtaonpbailcljnaaGreatP3
set_option linter.unusedVariables false
set_option linter.unusedSimpArgs false
set_option linter.defProp false
set_option linter.unusedSectionVars false
noncomputable section
namespace Go.Vm
set_option maxRecDepth 100000
set_option maxHeartbeats 8000000
theorem e_ {p:Prop}(h:p:=by decide +kernel):p:=h
theorem g_ {p:Prop}(h:p:=by simp;omega):p:=h
def afv:Nat->Nat->Nat->Nat->Nat×Nat
 |0,_,a,n=>(a,n)
 |f+1,m,a,n=>match Nat.ble (n % 16) 7 with
  |true=>(a+m*(n % 16),n / 16)
  |false=>afv f (m*8) (a+m*(n % 16-8)) (n / 16)
def eD (α:Type):=Nat×Nat->α×(Nat×Nat)
def bn {α:Type}(x:α):eD α:=λs=>(x,s)
def eD.a {α β:Type}(p:eD (α->β))(q:eD α):eD β:=λs=>match p s with
 |(f,s)=>match q s with
  |(x,s)=>(f x,s)
def eD.b {α β:Type}(p:eD α)(q:α->eD β):eD β:=λs=>match p s with
 |(x,s)=>q x s
def dk:eD Nat:=λs=>match s with
 |(t,n)=>match afv 40 1 0 n with
  |(v,n)=>(v,(t,n))
def agC:eD Nat:=λs=>match s with
 |(t,n)=>(t,(t,n))
def alC {α:Type}(p:eD α):Nat->eD (List α)
 |0=>bn []
 |k+1=>(bn .cons).a p |>.a (alC p k)
def pe {α:Type}(p:eD α):eD (List α):=dk.b (alC p)
def Ra (v:Nat):Bool:=Nat.beq (v % 2) 0
def abx (t v:Nat):Nat:=match Ra v with
 |true=>t-v / 2
 |false=>v / 2
def OE:eD Nat:=dk.b λv=>agC.b λt=>bn (abx t v)
def aha:eD Nat:=λs=>match s with
 |(t,n)=>match afv 40 1 0 n with
  |(v,n)=>match Ra v with
   |true=>(t+1+v / 2,(t+1+v / 2,n))
   |false=>(v / 2,(v / 2,n))
def acH:Nat->Nat->Int
 |0,_=>0
 |f+1,v=>match v with
  |0=>0
  |v=>match Ra v with
   |true=>2*acH f (v / 2)
   |false=>2*acH f (v / 2)+1
def aqC (v:Nat):Int:=match Ra v with
 |true=>acH 80 (v / 2)
 |false=>-acH 80 (v / 2+1)
def WW:eD Int:=(bn aqC).a dk
def amP:Nat->IntKind
 |0=>.i64
 |1=>.u8
 |2=>.u64
 |3=>.u32
 |_=>.i64
def Pk:eD Bool:=(bn λv=>Nat.beq v 1).a dk
def aod:Nat->eD D
 |0=>bn (.bool false)
 |1=>bn (.bool true)
 |k=>(bn λz=>D.int (amP (k-2)) z).a WW
def alN:eD D:=dk.b aod
def aiq:Nat->eD AV
 |0=>(bn λz=>A_ z).a WW
 |1=>bn (B_ true)
 |2=>bn (B_ false)
 |3=>bn .nl
 |4=>(bn λz=>.d (.int .u8 z)).a WW
 |5=>(bn .d).a alN
 |6=>bn .nilp
 |7=>bn .nilf
 |9=>(bn λz=>.d (.int .u64 z)).a WW
 |10=>(bn λz=>.d (.int .u32 z)).a WW
 |19=>bn .junk
 |20=>(bn λf=>.fn f [] []).a dk
 |_=>bn .junk
def amw:eD AV:=dk.b aiq
def anX:Nat->Nat->eD Rd
 |0,v=>agC.b λt=>bn (.m (abx t v))
 |1,v=>agC.b λt=>bn (.s (abx t v))
 |_,v=>(bn .c).a (aiq v)
def cU:eD Rd:=dk.b λv=>anX (v % 3) (v / 3)
def RQ {α:Type}(p:eD α):eD (Option α):=dk.b λv=>match v with
 |0=>bn none
 |_=>(bn some).a p
def al1:eD H_:=(bn λv=>match v with
 |0=>none
 |v+1=>some v).a dk
def aq0:Nat->BinOp
 |1=>.eql
 |2=>.lss
 |3=>.neq
 |4=>.gtr
 |5=>.sub
 |6=>.geq
 |7=>.mul
 |8=>.shr
 |9=>.leq
 |10=>.shl
 |11=>.rem
 |12=>.and
 |13=>.quo
 |14=>.or
 |_=>.add
def arq:Nat->UnOp
 |1=>.neg
 |_=>.not
def Vq:Nat->eD lX
 |0=>(bn .mov).a cU
 |1=>(bn .bin).a ((bn aq0).a dk) |>.a cU |>.a cU
 |2=>(bn .ld).a al1 |>.a dk |>.a cU
 |3=>(bn .fa).a dk |>.a cU
 |4=>(bn .kill).a (pe OE)
 |5=>(bn .st).a dk |>.a cU |>.a cU
 |6=>(bn .ext).a OE |>.a Pk |>.a dk
 |7=>(bn .call).a dk |>.a (pe cU)
 |8=>(bn .pick).a cU |>.a cU |>.a cU
 |9=>(bn .len).a cU
 |10=>(bn .ia).a dk |>.a cU |>.a cU
 |11=>(bn .box).a cU
 |12=>(bn .alloc).a (pe amw)
 |13=>(bn .calli).a dk |>.a (pe cU)
 |14=>(bn .callv).a cU |>.a (pe cU)
 |15=>(bn .nilck).a cU
 |16=>(bn .un).a ((bn arq).a dk) |>.a cU
 |17=>(bn .build).a (pe amw) |>.a (pe ((bn λa b c=>(a,b,c)).a dk |>.a dk |>.a cU))
 |18=>(bn .app).a dk |>.a cU |>.a cU
 |19=>(bn .mks).a dk |>.a (pe cU)
 |20=>(bn .conv).a ((bn amP).a dk) |>.a cU
 |21=>(bn .mkfn).a dk |>.a (pe cU) |>.a (pe cU)
 |22=>(bn .iarr).a dk |>.a dk |>.a cU |>.a cU
 |23=>(bn .mkslice).a (pe alN) |>.a cU |>.a cU
 |24=>(bn .slice).a dk |>.a cU |>.a (RQ cU) |>.a (RQ cU) |>.a (RQ cU)
 |26=>(bn .toStr).a cU
 |27=>(bn .binb).a Pk |>.a cU |>.a cU
 |28=>(bn .minmax).a Pk |>.a (pe cU)
 |29=>(bn .ix).a dk |>.a dk |>.a Pk |>.a cU |>.a cU
 |30=>(bn .ixs).a cU |>.a cU
 |32=>(bn .bina).a Pk |>.a (pe Pk) |>.a cU |>.a cU
 |34=>(bn .cpy).a dk |>.a cU |>.a cU
 |36=>(bn .mksv).a dk |>.a (pe cU)
 |37=>(bn .slarr).a dk |>.a cU |>.a (RQ cU) |>.a (RQ cU) |>.a (RQ cU)
 |_=>bn .bad
def aqc:eD (Nat×Nat):=(bn .mk).a dk |>.a dk
def aoe:Nat->Nat->eD VI
 |0,o=>aha.b λd=>(bn λo=>⟨some d,none,o,[]⟩).a (Vq o)
 |1,o=>(bn λo=>⟨none,none,o,[]⟩).a (Vq o)
 |2,o=>aha.b λd=>OE.b λg=>(bn λo=>⟨some d,some (g,true),o,[]⟩).a (Vq o)
 |_,o=>aha.b λd=>OE.b λg=>(bn λo=>⟨some d,some (g,false),o,[]⟩).a (Vq o)
def abI (v:Nat):eD VI:=aoe (v % 4) (v / 4)
def an7:Nat->eD VI
 |184=>(bn fun(th:O_) (x:VI)=>⟨x.dst,x.guard,x.op,th⟩).a (pe aqc) |>.a (dk.b abI)
 |181=>(bn fun(g:Nat) (w:Bool) (x:VI)=>⟨x.dst,some (g,w),x.op,x.th⟩).a OE |>.a Pk |>.a (dk.b abI)
 |v=>abI v
def amc:eD VI:=dk.b an7
def an9 (s:List VC)(r:eD VC):Nat->eD VC
 |0=>(bn .seq).a r |>.a r
 |1=>(bn (.reg false)).a (pe amc)
 |2=>(bn .cond).a cU |>.a r |>.a r
 |3=>(bn K).a (pe OE)
 |4=>bn .skip
 |5=>bn .ret
 |6=>(bn .block).a dk |>.a r
 |7=>(bn λk=>s.getD k .skip).a dk
 |8=>(bn F).a OE
 |9=>(bn .exit).a dk
 |10=>(bn .loop).a r
 |11=>(bn (.reg true)).a (pe amc)
 |12=>(bn .rangeF).a cU |>.a (pe dk) |>.a r |>.a r
 |13=>(bn .scope).a r
 |14=>(bn .label).a dk
 |15=>(bn .goto).a dk
 |16=>(bn .clone).a dk
 |_=>bn .skip
def agf (s:List VC):Nat->eD VC
 |0=>bn .skip
 |f+1=>dk.b (an9 s (agf s f))
def arn:eD oU:=dk.b λv=>match Ra v with
 |true=>bn (.tmp (v / 2))
 |false=>(bn (.cell (v / 2))).a al1
def bi (s:List VC)(n:Nat):VC:=(agf s 1000 (0,n)).1
def aP (s:List VC)(n:Nat):aj:=((bn .mk).a dk |>.a (pe arn) |>.a (agf s 1000) <|(0,n)).1
def aG {α:Type}(c:α){d:α}(h:c=d:=by show ?c=?d;refine(?f:?c=?d->?c=?d) ?h;rotate_left;cbv;exact λ_=>by kernel_rfl):c=d:=h
def bX {α:Type}(c:α){k d:α}(h:k=d)(g:c=k:=by exact rfl):c=d:=g.trans h
abbrev O:AV:=A_ 0
abbrev O8:AV:=.d (.int .u8 0)
abbrev Q (n:Int):Rd:=.c (.d (I n))
abbrev tt:Rd:=.c (B_ true)
abbrev ff:Rd:=.c (B_ false)
abbrev A (d s:Nat):VI:=V d (.mov (.m s))
abbrev B (d s:Nat):VI:=V d (.mov (.s s))
abbrev C (d:Nat)(s:Rd):VI:=V d (.mov s)
abbrev M (d s:Nat):VI:=V d (.ld none 0 (.m s))
abbrev G (d s:Nat):VI:=V d (.ld none 0 (.s s))
abbrev Z (l:C_):VI:=N (.kill l)
abbrev H (d:Nat)(f:FuncId)(l:S_):VI:=V d (.call f l)
abbrev L (d:Nat)(o:BinOp)(x y:Nat):VI:=V d (.bin o (.m x) (.m y))
abbrev P (d:Nat)(o:BinOp)(x:Nat)(n:Int):VI:=V d (.bin o (.m x) (Q n))
abbrev J (d:Nat)(o:BinOp)(x y:Nat):VI:=V d (.bin o (.s x) (.s y))
abbrev X (d n s:Nat):VI:=V d (.fa n (.s s))
abbrev E (d s:Nat)(x:Bool)(n:Nat):VI:=V d (.ext s x n)
abbrev Yd (n a b:Nat):VI:=N (.st n (.s a) (.m b))
abbrev Rg (l:Q_):VC:=.reg false l
def unp (q:C_)(l:Q_):Q_:=q.filterMap λi=>l[i]?
abbrev uV:Nat:=3
abbrev p9:Nat:=4
abbrev dx:Nat:=5
abbrev qR:Nat:=6
abbrev Nj:Nat:=7
abbrev CH:Nat:=8
abbrev tV:Nat:=9
abbrev FU:Nat:=10
abbrev wn:Nat:=11
abbrev lL:Nat:=12
abbrev Fy:Nat:=13
abbrev CR:Nat:=14
abbrev vS:Nat:=15
abbrev Q5:Nat:=16
abbrev vU:Nat:=17
abbrev Nv:Nat:=18
abbrev wa:Nat:=19
abbrev vW:Nat:=20
abbrev lH:Nat:=21
abbrev Jk:Nat:=22
abbrev FX:Nat:=23
abbrev wd:Nat:=24
abbrev KB:Nat:=25
abbrev t8:Nat:=26
abbrev sM:Nat:=27
abbrev Ho:Nat:=28
abbrev gC:Nat:=29
abbrev qV:Nat:=30
abbrev fh:Nat:=31
abbrev r7:Nat:=32
abbrev qz:Nat:=33
abbrev qZ:Nat:=34
abbrev pz:Nat:=35
abbrev lg:Nat:=36
abbrev yM:Nat:=37
abbrev ym:Nat:=38
abbrev pt:Nat:=39
abbrev sX:Nat:=40
abbrev vA:Nat:=41
abbrev Ah:Nat:=42
abbrev L3:Nat:=43
abbrev Gc:Nat:=44
abbrev zJ:Nat:=45
abbrev ta:Nat:=46
abbrev Kv:Nat:=47
abbrev Lu:Nat:=48
abbrev NY:Nat:=49
abbrev BO:Nat:=50
abbrev GA:Nat:=51
abbrev tk:Nat:=52
abbrev yU:Nat:=53
abbrev EH:Nat:=54
abbrev AS:Nat:=55
abbrev BP:Nat:=56
abbrev Ny:Nat:=57
abbrev jQ:Nat:=58
abbrev Lp:Nat:=59
abbrev RN:Nat:=60
abbrev Fk:Nat:=61
abbrev B8:Nat:=62
abbrev Jp:Nat:=63
abbrev vI:Nat:=64
abbrev xg:Nat:=65
abbrev CO:Nat:=66
abbrev nJ:Nat:=67
abbrev w7:Nat:=68
abbrev zp:Nat:=69
abbrev zD:Nat:=70
abbrev zi:Nat:=71
abbrev xM:Nat:=72
abbrev zL:Nat:=73
abbrev qk:Nat:=74
abbrev yJ:Nat:=75
abbrev zH:Nat:=76
abbrev xC:Nat:=77
abbrev qm:Nat:=78
abbrev v6:Nat:=79
abbrev yF:Nat:=80
abbrev zM:Nat:=81
abbrev kp:Nat:=82
abbrev rR:Nat:=83
abbrev ya:Nat:=84
abbrev am6:Nat:=85
abbrev Do:Nat:=86
abbrev aeZ:Nat:=87
abbrev wW:Nat:=88
abbrev Bt:Nat:=89
abbrev fe:Nat:=90
abbrev pO:Nat:=91
abbrev DO:Nat:=92
abbrev zS:Nat:=93
abbrev qc:Nat:=94
abbrev yV:Nat:=95
abbrev zO:Nat:=96
abbrev ve:Nat:=97
abbrev wz:Nat:=98
abbrev pX:Nat:=99
abbrev nP:Nat:=100
abbrev GY:Nat:=101
abbrev IP:Nat:=102
abbrev yc:Nat:=103
abbrev vE:Nat:=104
abbrev Bg:Nat:=105
abbrev sk:Nat:=106
abbrev xz:Nat:=107
abbrev Br:Nat:=108
abbrev Fl:Nat:=109
abbrev vj:Nat:=110
abbrev ux:Nat:=111
abbrev aie:Nat:=112
abbrev acy:Nat:=113
abbrev amm:Nat:=114
abbrev qX:Nat:=115
abbrev rD:Nat:=116
abbrev CC:Nat:=117
abbrev xQ:Nat:=118
abbrev HX:Nat:=119
abbrev nR:Nat:=120
abbrev HF:Nat:=121
abbrev zK:Nat:=122
abbrev abi:Nat:=123
abbrev acr:Nat:=124
abbrev afp:Nat:=125
abbrev afo:Nat:=126
abbrev Xi:Nat:=127
abbrev aby:Nat:=128
abbrev am8:Nat:=129
abbrev lI:Nat:=130
abbrev bU:Nat:=131
abbrev akB:Nat:=132
abbrev rq:Nat:=133
abbrev oh:Nat:=134
def mP:aj:=aP [] 0x153f183918028d28b2891ff1f91ef1ed1df1dd1db4b493d3b2f128296ad2d01873e04871d1180618e6027401da42026001873804871d16061da4021b82026001873804871d16061cc4021aa20260061c2603c1be11a01819c11a7e182d100281819f1294cb004bd004af1192d3333300040400193f68202a0381028038011e1c384a919f061c2a383e5503c7a150182d001f00190046a01f1007b1293cf003c9003bb1192d3333300040400193968202a0381028038011e1c383ad7b061c2a383e5403c7a050182e0028001a0044c01f102db2f0601d844803104552d01102b18753143000224618429753e0483fa827418077604f700401b7a3201f6004f8c826404604c41e01a100012918003b285c3102c15
def gj:=aG mP
def Cn:VC:=.regP (.range 5) (.range 5) [1,2,3] [V 70 (.build [O,O8,O8,O,.nl,.nl,.nl,.nl,.nl] []),G 71 12,Yd 9 10 70,N (.st 1 (.s 11) (Q 0)),Yd 1 12 71]
def LV (a0:VC):VC:=bi [a0] 0x16eb1fd0227c04421450701e282a3d3b1f1b7300202630419c000182100129060781d91c80310023f12d1106994b06000181d39105831016001924633040201d721fc4110
def Yr (a0:VC):=aG (LV a0)
def iX:VC:=LV Cn
def DF:=bX iX (Yr Cn)
abbrev Ci:=Rg [V 19 (.alloc [O,O,O]),Yd 3 19 83,Z [13,14,82]]
def WV (a0:VC):VC:=bi [a0] 0x107
def oV:VC:=WV Ci
abbrev Cl:=Rg [V 20 (.mov (.c (.nl))),Z [20]]
def wP:VC:=.regP (.range 14) [0,1,2,3,4,5,6,7,8,11,9,12,10,13] [0,1,5] [M 85 5,G 86 11,G 87 18,X 88 0 19,M 89 88,V 90 (.calli sM [.m 87,.m 89]),H 91 t8 [.m 85,.m 86,.m 90],A 84 91,E 92 84 true 0,E 93 84 false 1,E 94 84 false 2,A 20 92,Yd 1 11 93,Yd 1 12 94]
abbrev BU:=Rg [G 95 12,P 96 .neq 95 0]
def wJ:VC:=.regP (.range 5) (.range 5) [1,2,3] [V 97 (.build [O,O8,O8,O,.nl,.nl,.nl,.nl,.nl] []),G 98 12,N (.st 9 (.m 10) (.m 97)),N (.st 1 (.m 11) (Q 0)),Yd 1 12 98]
abbrev Cd:=Rg [V 99 (.fa 8 (.m 10)),M 100 99,X 101 1 19,M 102 101,X 103 2 19,M 104 103,V 105 (.slice 1 (.m 100) (some (.m 102)) (some (.m 104)) none),A 106 20,V 107 (.cpy 1 (.m 105) (.m 106)),Z [107]]
def XA (a0 a1 a2 a3 a4:VC):VC:=bi [a0,a1,a2,a3,a4] 0x14f184704392f2305391337004f18591300198b22702d94d231700007036
def oO:VC:=XA Cl wP BU wJ Cd
def Dv:VC:=.regP (.range 5) (.range 5) [1,2,3] [V 28 (.build [O,O8,O8,O,.nl,.nl,.nl,.nl,.nl] []),G 29 12,Yd 9 10 28,N (.st 1 (.s 11) (Q 0)),Yd 1 12 29]
def DI:VC:=.regP (.range 5) (.range 5) [1,2,3] [V 39 (.build [O,O8,O8,O,.nl,.nl,.nl,.nl,.nl] []),G 40 12,Yd 9 10 39,N (.st 1 (.s 11) (Q 0)),Yd 1 12 40]
def Dr:VC:=.regP (.range 5) (.range 5) [1,2,3] [V 49 (.build [O,O8,O8,O,.nl,.nl,.nl,.nl,.nl] []),G 50 12,Yd 9 10 49,N (.st 1 (.s 11) (Q 0)),Yd 1 12 50]
def Cg:VC:=.regP (.range 5) (.range 5) [1,2] [V 121 (.ld (some 9) 0 (.s 10)),G 122 11,Yd 9 10 121,Yd 1 11 122,N (.st 1 (.s 12) (Q 0))]
def Ug (a0 a1 a2 a3 a4 a5 a6:VC):aj:=aP [a0,a1,a2,a3,a4,a5,a6] 0x156704528219c12d0218e12d0188192d0333330004040019018c41002246181a1c1e283d1929756e0481873f2804b7018018a713c603e700401a1887201e760322714071b800201b6000263041a9106a181d1000184d181b130057471ab111c02662a3e33906c600018188501c605018188101c5d101ec18610079b112d614d68605c033000033000033000033000033000033000033000033000033000033000033000033000068018c4106012d1881801c18882188820212c1bc0012f831002433371a0060200704c61c2a383e4c5a6818102a81bd1aa203801ac19c18818e4a1b8502d01ac1b81be202c01ac1aa1be202b01ac19c18818e4a402901ac19c18818e4a401f01ac19c5e18e4a6b18879701c01ac19c18818e4a401b1981ac1b1004ed112d713f6819c18e4a301a1981ac31002112d02712d0010680013b68410452702b291f1b43002242291872a048027340619c00201a6006c00018610019c12d61c21903c7a050185e004184100451702b291f1b4300202630419c0001821041c229019c12d618e12d201c038101a03800186383997d00261c31803c19004a006181a100450702b291f1b35300202630419c00018210218229019c12d101803800643829d5b01862703c5e002a1871000010680010683333300040400190683b05c2d05c1f25c3185c71003902f1a2d35
def adT (a0 a1 a2 a3 a4 a5 a6:VC):=aG (Ug a0 a1 a2 a3 a4 a5 a6)
def LX:aj:=Ug Dv DI Dr iX oV oO Cg
def xN:=bX LX (adT Dv DI Dr iX oV oO Cg)
abbrev v8:=Rg [V 9 (.box (.m 4)),V 10 (.alloc [O,O8,O8,O,.nl,.nl,.nl,.nl,.nl]),C 11 (Q 0),C 12 (Q 0),Z [11,12]]
abbrev vT:=Rg [B 17 2,P 18 .lss 17 0,A 19 18,U 19 20 (.mov (.s 2)),U 19 21 (.bin .gtr (.s 20) (Q 11)),V 22 (.pick (.m 19) tt (.s 21)),A 23 22,U 23 24 (.mov (.s 1)),U 23 25 (.bin .lss (.s 24) (Q 0)),V 26 (.pick (.m 23) tt (.s 25)),A 27 26,U 27 28 (.mov (.s 1)),U 27 29 (.mov (.s 0)),U 27 30 (.len (.s 29)),U 27 31 (.bin .gtr (.s 28) (.s 30)),V 32 (.pick (.m 27) tt (.s 31)),Z [20,21,24,25,28,29,30,31]]
abbrev wj:=Rg [V 33 (.build [O,O8,O8,O,.nl,.nl,.nl,.nl,.nl] []),Yd 9 10 33,C 11 (Q 0),C 12 (Q 2)]
abbrev v9:=Rg [B 34 3,A 35 34,W 35 36 (.mov (.s 2)),W 35 37 (.ld (some 4) 0 (.s 9)),W 35 38 (.call gC [.s 36,.s 37]),W 35 39 (.un .not (.s 38)),V 40 (.pick (.m 35) (.s 39) ff),Z [36,37,38,39]]
abbrev ww:=Rg [V 41 (.build [O,O8,O8,O,.nl,.nl,.nl,.nl,.nl] []),Yd 9 10 41,C 11 (Q 0),C 12 (Q 8)]
abbrev vY:=Rg [V 42 (.ld (some 4) 1 (.s 9)),H 43 qV [.m 42],V 44 (.build [O,O8,O8,O,.nl,.nl,.nl,.nl,.nl] [(1,4,.m 43)]),V 13 (.alloc [O,O8,O8,O,.nl,.nl,.nl,.nl,.nl]),Yd 9 13 44]
abbrev wu:=Rg [B 46 0,A 47 1,H 48 fh [.m 46,.m 47,Q 8],A 45 48,E 49 45 false 0,E 50 45 false 1,E 51 45 false 2,A 14 49,A 1 50,A 15 51,Z [45]]
abbrev wl:=Rg [B 52 15,P 53 .neq 52 0]
abbrev wy:=Rg [V 54 (.build [O,O8,O8,O,.nl,.nl,.nl,.nl,.nl] []),A 55 15,Yd 9 10 54,C 11 (Q 0),A 12 55]
abbrev wc:=Rg [A 56 14,X 57 0 13,N (.st 1 (.m 57) (.m 56))]
abbrev uG:=Rg [A 58 3,V 59 (.un .not (.m 58))]
abbrev u5:=Rg [B 61 0,A 62 1,B 63 2,H 64 r7 [.m 61,.m 62,.m 63],A 60 64,E 65 60 true 0,E 66 60 false 1,E 67 60 false 2,X 68 1 13,N (.st 4 (.m 68) (.m 65)),A 1 66,A 15 67,Z [60]]
abbrev uI:=Rg [B 69 15,P 70 .neq 69 0]
abbrev uM:=Rg [V 71 (.build [O,O8,O8,O,.nl,.nl,.nl,.nl,.nl] []),A 72 15,Yd 9 10 71,C 11 (Q 0),A 12 72]
abbrev vu:=Rg [B 74 0,A 75 1,X 76 1 13,V 77 (.ld (some 4) 0 (.m 76)),H 78 qz [.m 74,.m 75,.m 77],A 73 78,E 79 73 true 0,E 80 73 false 1,E 81 73 false 2,X 82 5 13,N (.st 1 (.m 82) (.m 79)),A 1 80,A 15 81,Z [73]]
abbrev vw:=Rg [B 83 15,P 84 .neq 83 0]
abbrev uQ:=Rg [V 85 (.build [O,O8,O8,O,.nl,.nl,.nl,.nl,.nl] []),A 86 15,Yd 9 10 85,C 11 (Q 0),A 12 86]
abbrev u9:=Rg [B 88 0,A 89 1,X 90 0 13,M 91 90,X 92 5 13,M 93 92,H 94 qZ [.m 88,.m 89,.m 91,.m 93],A 87 94,E 95 87 true 0,E 96 87 false 1,E 97 87 false 2,X 98 6 13,N (.st 1 (.m 98) (.m 95)),A 1 96,A 15 97,Z [87]]
abbrev uF:=Rg [B 99 15,P 100 .neq 99 0]
abbrev vy:=Rg [V 101 (.build [O,O8,O8,O,.nl,.nl,.nl,.nl,.nl] []),A 102 15,Yd 9 10 101,C 11 (Q 0),A 12 102]
abbrev uN:=Rg [C 16 (Q 0),Z [16]]
abbrev vx:=Rg [B 104 0,A 105 1,X 106 1 13,V 107 (.ld (some 4) 0 (.m 106)),H 108 pz [.m 104,.m 105,.m 107],A 103 108,E 109 103 true 0,E 110 103 false 1,E 111 103 false 2,E 112 103 false 3,X 113 7 13,N (.st 1 (.m 113) (.m 109)),A 16 110,A 1 111,A 15 112,Z [103]]
abbrev uC:=Rg [B 114 15,P 115 .neq 114 0]
abbrev vg:=Rg [V 116 (.build [O,O8,O8,O,.nl,.nl,.nl,.nl,.nl] []),A 117 15,Yd 9 10 116,C 11 (Q 0),A 12 117]
abbrev uS:=Rg [A 119 0,A 120 1,A 121 2,V 122 (.ld (some 9) 0 (.s 13)),H 123 lg [.m 119,.m 120,.m 121,.m 122],A 118 123,E 124 118 true 0,E 125 118 false 1,E 126 118 false 2,X 127 8 13,N (.st 1 (.m 127) (.m 124)),A 1 125,A 15 126,Z [118]]
abbrev uB:=Rg [B 128 15,P 129 .neq 128 0]
abbrev vd:=Rg [V 130 (.build [O,O8,O8,O,.nl,.nl,.nl,.nl,.nl] []),A 131 15,Yd 9 10 130,C 11 (Q 0),A 12 131]
abbrev uH:=Rg [A 132 16,P 133 .neq 132 0]
abbrev u4:=Rg [V 134 (.build [O,O8,O8,O,.nl,.nl,.nl,.nl,.nl] []),Yd 9 10 134,C 11 (Q 0),C 12 (Q 8)]
abbrev uL:=Rg [V 135 (.ld (some 9) 1 (.s 13)),A 136 1,Yd 9 10 135,A 11 136,C 12 (Q 0)]
def J5 (a0 a1 a2 a3 a4 a5 a6 a7 a8 a9 a10 a11 a12 a13 a14 a15 a16 a17 a18 a19 a20 a21 a22 a23 a24 a25 a26 a27 a28 a29:VC):aj:=aP [a0,a1,a2,a3,a4,a5,a6,a7,a8,a9,a10,a11,a12,a13,a14,a15,a16,a17,a18,a19,a20,a21,a22,a23,a24,a25,a26,a27,a28,a29] 0x153b183d700453c703b18313001cc923b70043f13053a703b1849323001c99239700387043f13052f703b184953043001aed22e7002d702c7043f13052b703b18530330019bb22a700297043f130528703b1853033007fb21f7001e70443f13051d703b1853033006cf21c701b705cd21a700197043f130518703b183d75305300589277006702b185700454702b18753043003eb23700452702b187530430038b21700070382e1a2d35
def so:aj:=J5 v8 vT wj v9 ww vY wu wl wy wc uG u5 uI uM vu vw uQ u9 uF vy uN vx uC vg uS uB vd uH u4 uL
def qA:aj:=aP [] 0x1521841801af1ad1ab1a919f19918f18d18b1897b796f6d6b5d5b594f4d3f3d3b392f392949b1901874c04872b2591a03e7001801a2e7601e700401a287201e6001874c04872b2581a03e7001801a2e6601e700401a286201e6001874c04872b24f1a03e7001801a2e5601e700401a285201e6001874c04872b24e1a03e7001801a2e18601e700401a2818201e6001874c04872b24d1a03e7051801a2e1601e705401a281201e60062a1046000182e001c60001828001c5a100012918001905c325c4101812
def Ie:=aG qA
def Fc:aj:=aP [] 0x151df001d91905d000262101e8226504604c4f1c0710291291a90019b1d0101a038011863818d29061c25a03c1900360191002229020002603101a1822
def Zi:=aG Fc
def wQ:VC:=bi [] 0x14fb1890221f801ba4214ed1d06681e046001a8600018638105861c00479001a0040023d61a044f18a01b145282000200021d03102a2c2b1d5317300221e6404600018638105861c0047a001a0046a0710039f2b01d0021026011924133040201d721884110
def Jv:=aG wQ
def Qs (a0:VC):aj:=aP [a0] 0x1502005ab005891d061c0041f0019004f58071002133071a0160200285c02100451a2000200021d03101d531430022ef69061c204280061c5041a00604c4480710542000200021d031018531430025d5b594f493f62929d2d0753e04872b418077604f44031a203600752a04802724071a203600600188615b03c28401f100600222902000200021a0410281e1c33
def abN (a0:VC):=aG (Qs a0)
def Iv:aj:=Qs wQ
def ab6:=bX Iv (abN wQ)
def Dx:aj:=aP [] 0x150219011045282190110022461c1e282a383a3c4a4c4e1b71f297538048706018b715c403f2e05201b600753e04871d418074a603700401b2e2201f60075380480272607700401b2e2201f600753804821e74607700401b2e1201f60061e64046000182e03a1c3910041d13051d91904f002101b7230020263045828021001f1291af001a91b0101e038001c1a3819b1f06382703c41e61046000182e001c3601b10012902001945c3101812
def XY:=aG Dx
def Fa:aj:=aP [] 0x15191297f612d791912d6b702019038101903800186385d1902261c31803c1a000183002181b1001290240210613
def Zv:=aG Fa
def E7:aj:=aP [] 0x11912962d12d1c1912d2a012d1f001c2019038101903800186385d19028261c31803c1a0001830018181c104
def YS:=aG E7
def Fn:aj:=aP [] 0x141d1b19735302812964f12d1c3b12d2a042d19101c201e038101c038011a18381cb39061c2a31e03c49000183c000182d002181d1026001881f000182106042d1a101c611d03c3051c1841007
def NA:=aG Fn
def Fz:aj:=aP [] 0x1502842d19150182106012d1a301c615d03c0012f86000181a301c51030004044068305c2105511
def YC:=aG Fz
def rT:VC:=bi [] 0x15db1a90221f8004216012d58301c61c101980012f82211019c61001858301c616012d3868105822600460001873f1058226504604c60001858301c60001858301c1b10222610422160787a0031016001922b23040201e2721a84110
def JJ:=aG rT
def BL:VC:=.regP (.range 5) (.range 5) [1,2,3] [V 18 (.ld (some 4) 0 (.s 6)),G 19 8,Yd 4 6 18,N (.st 1 (.s 7) (Q 0)),Yd 1 8 19]
def AF:VC:=.regP (.range 5) (.range 5) [1,2,3] [V 73 (.build [O8,O8,O,.nl] []),G 74 8,Yd 4 6 73,N (.st 1 (.s 7) (Q 0)),Yd 1 8 74]
def Am:VC:=.regP (.range 5) [0,2,1,3,4] [1,2] [V 85 (.ld (some 4) 0 (.s 6)),G 86 7,Yd 4 6 85,Yd 1 7 86,N (.st 1 (.s 8) (Q 0))]
def QW (a0 a1 a2 a3:VC):aj:=aP [a0,a1,a2,a3] 0x15370452826c12d025e12d05842d0300040442818c410022cd2cb2c92bf55297ed2af0753e0480273180771d219603f5805401b282036000263047f1a01a1052702d5230026eb29d00263046c002183102606012d58301c22111ea19c0012f8316ad2d062a1e04221607879007f005106012d58201c1c2160787a58041002b23171a00602001106012d58301c2211019c0012f83106012d58201c182160787a004100241e610460001858001c31006012d58101c6101a822160787a005106012d58001c6101a842160787a3a051029d2d022160787a3803102892b05e2d6c305e01ac21005e12d19402104507075333002026304690001821021822905b12d10180380064381a92f01862703c2860710000106800106830004044468345c41002901f51d33
def ac4 (a0 a1 a2 a3:VC):=aG (QW a0 a1 a2 a3)
def Ic:aj:=QW BL rT AF Am
def Jc:=bX Ic (ac4 BL rT AF Am)
def FQ:aj:=aP [] 0x11912962d12d1c1912d2a012d1f501c2019038101903801191a387919062a3832803c60501828101c1a0001830018181e104
def Zs:=aG FQ
def wI:VC:=bi [] 0x16012d1aa101c61c0041b8006000181aa11fa1c61452820002001b1d03103b181ab1a93d392f2d2b1f1d1b11b3000261c40419c0061c0041b8006000181aa12ba1c61040130518890002001b1d06b004103b181ab1a93d392f2d2b1f1d1b11b300020263046c2ac02102af1297df007d91f07cb3d0201e038101c038001a18387bd2af061c2a31803c7a005d0041c01c10056041940261c104188001af28c03100
def JD:=aG wI
def Jz (a0:VC):VC:=bi [a0] 0x13b1819dd2f062a20198612019c1aa1301818d2de051019ad39062a5046000181aa101c19b2de0510452820002001b1d03103b181ab1a9392f2d2b1f1d1b11a3000260018861c26803c19c001aa032ba184100013071a04669f3d01881ea02100452820002001b1d03103b18686a392f2d2b1f1d1b11a30002246329187380483a273606700401a1aa0201e6002e264046000181aa01ca1c191004013055b90002001b1d06b004103b183e48392f2d2b1f1d1b11a300020263046c1bc02101bf129589004fb1f02a012d1aa001c201c038101a03800186384df1bf018261c31803c5d00418c01c100000023b68110362193913040202640419c1b802100
def Uo (a0:VC):=aG (Jz a0)
def rk:VC:=Jz wI
def Cq:=bX rk (Uo wI)
def JK (a0:VC):VC:=bi [a0] 0x11a9b1ab0223f9039a4211a8d1d062a10198611019c18d004f2ee051013071a02649b3906000184a27e1c31001b2f0110160019242d2b1b163040201d721aa4110
def Uv (a0:VC):=aG (JK a0)
def rM:VC:=JK rk
def Ju:=bX rM (Uv rk)
def Ri (a0:VC):aj:=aP [a0] 0x1502001aaf001aa91d05d004f28e0510022d2b1b163071a0060200604c6000184a36e1c410018b1293c9003bb2b010180380064383ad18b0615f03c4a056a18181040130538b0002001b1d06b004101f1d1b1430020263046c5a02106f5f2292e9002db1f0201c038101a03800186382bf5f00261c31803c190043e01a10040130528f0002001b1d06b004101d1b31430020263046c2e02104d3f2291ed29010180380064381d93f0612f03c4a051e18710002229020002001b001f185c510281e1c33
def ab4 (a0:VC):=aG (Ri a0)
def I1:aj:=Ri rM
def abC:=bX I1 (ab4 rM)
def FA:aj:=aP [] 0x11912962d12d1c1912d2a012d1f601c2019038101903801191e3818d19062a3e4942a03c60001828501c60001828001c1a00018300181828104
def YH:=aG FA
def uc:VC:=bi [] 0x11af1ad19b19918f52949b3e021
def f8:=aG uc
def yG:VC:=.regP (.range 4) (.range 4) [0,1,2] [G 96 10,N (.st 1 (.m 8) (.c (.nl))),N (.st 1 (.m 9) (Q 0)),Yd 1 10 96]
def GX (a0:VC):VC:=bi [a0] 0x13d12901b812d62a10198611019c1d9001b8100186142d2b2933052827f12d027912d1b6b12d3104b3d23002246181a492f7291874c048701a018a71d2b36c1806e1da6021cc40218e00201a6000264041cc201a100452d1307004b493d2f43002026304188002b818210041913018e94b063e0046000186001c607c18e000181d929c0712cb19229189d5b12d188f6912d18894b0201c038101a03800186387fb2cb061c26b03c7a000183c006181b104b130027cb2bd00264041cc1fa03107a94b063e0046000186101c607c18e000181d91dc07128b192296dd5b12d6cf6912d6c94b0201c038101a03800186386bb28b061c26b03c7a000183c006181b104b1300268b1fd03a261041cc1ba03101df192295e95b12d5db6912d5cd4b0201c038101a03800186385bf1df02a261c31803c7a000183c002c181b14b130021db1d91cf1cd1cb52958f1bb01874c04802721a067001801a71601e7407e18e00201a6003a261041cc7801b104600248011036
def Sj (a0:VC):=aG (GX a0)
def uj:VC:=GX yG
def fX:=bX uj (Sj yG)
def GT (a0 a1:VC):VC:=bi [a0,a1] 0x11adf19b0223c9004213d1806c12d62a10198611019c1b8100186c1028e1851001817075c5b211c026616a06c1a96c02100310681103eb3b06000181d3910583101600192f1819182463300040201d7219a4110
def Th (a0 a1:VC):=aG (GT a0 a1)
def jL:VC:=GT uc uj
def Ak:=bX jL (Th uc uj)
def AN:VC:=.regP (.range 4) (.range 4) [0,1,2] [G 31 10,N (.st 1 (.s 8) (.c (.nl))),N (.st 1 (.s 9) (Q 0)),Yd 1 10 31]
def ze:VC:=.regP (.range 5) (.range 5) [1,2] [G 115 8,G 116 9,Yd 1 8 115,Yd 1 9 116,N (.st 1 (.s 10) (Q 0))]
def NR (a0 a1 a2:VC):aj:=aP [a0,a1,a2] 0x152702f1819180243300171a0060200704c2d5e0310039f112d612f68605c1211610200002018c1f20510450701918752300020263041880001821041c229018812d67a12d201c038101a03800186382b95d00261c31803c19003c002181a1004528218812d027a12d1b6c12d310191875333000260018861c26903c2e00281e0410000106800106831668365c41002d02b02934
def YU (a0 a1 a2:VC):=aG (NR a0 a1 a2)
def Fw:aj:=NR AN jL ze
def ZA:=bX Fw (YU AN jL ze)
def Fi:aj:=aP [] 0x101912d060783002183102
def Y0:=aG Fi
def FC:aj:=aP [] 0x101912d060783002183102
def ZC:=aG FC
abbrev F7:=Rg [A 25 5,V 26 (.mkslice [.lst []] (.s 25) (.s 25)),V 27 (.fa 7 (.m 3)),N (.st 1 (.m 27) (.m 26)),Z [25]]
def NH (a0:VC):aj:=aP [a0] 0x1074f02292ab0029d1b0101a038001863828f4f0612f03c6050182e121c19104195333052a12963b12d1c1f12d2a012d2d701c2028038101e038011c1a381af2b062a3832e03c6050182e101c280001819002181e10022261043001c18210005
def YN (a0:VC):=aG (NH a0)
def Fd:aj:=NH F7
def NZ:=bX Fd (YN F7)
abbrev Ed:=[X 86 4 16,V 87 (.ld none 2 (.m 86)),B 88 19,B 89 19,B 90 18,P 91 .sub 90 1,L 92 .shr 89 91,B 93 18,L 94 .shl 92 93,L 95 .sub 88 94,V 96 (.mks 1 [.m 95]),V 97 (.app 1 (.m 87) (.m 96)),X 98 4 16,N (.st 1 (.m 98) (.m 97))]
def vF:VC:=.regP (.range 14) (.range 14) [] Ed
def DZ (a0:VC):VC:=bi [a0] 0x119ad2cb0221dc02be42101307018894f0611c0781e800188004105604192423040201d722ca4110
def Pm (a0:VC):=aG (DZ a0)
def qI:VC:=DZ vF
def DD:=bX qI (Pm vF)
def vG:VC:=.regP [0,1,2,3,5,6,7,4,8,9,10,11] (.range 12) [4,7] [B 49 15,B 50 10,V 51 (.iarr 5 1 (.s 11) (Q 1)),M 52 51,V 53 (.callv (.m 50) [.m 52]),B 54 10,V 55 (.iarr 5 1 (.s 11) (Q 2)),M 56 55,V 57 (.callv (.m 54) [.m 56]),V 58 (.build [O,O,B_ false,B_ false,.nl] [(3,1,.m 49),(0,1,.m 53),(1,1,.m 57)]),V 16 (.alloc [O,O,B_ false,B_ false,.nl]),Yd 5 16 58]
def Ec (a0 a1:VC):VC:=bi [a0,a1] 0x11afb1bf0224bd039c42149181aed3b062a50198615019c1cc160181a938e051043bd3bb3b93af3ad3ab3a939f39d4d4b1b291abd390757c0481874d2a04b72b2781a03e227518061e8602700401a1cc4201e760302714071da20360019b4c01e10223171a04602006000181cc11f81c31007af4d061c5041da00616f03c1be1ea05106ff4b02216078188003106012d1cc201c226104221607818800510020264046000181cc11ee1c3100452826c12d025e12d1b1d031049182f184c4e1881893f3b392d1d19300002242291872a04802714066c00201a60038264046000181cc12c1c18100070360219243f33040201d721be4110
def Oj (a0 a1:VC):=aG (Ec a0 a1)
def fJ:VC:=Ec vG qI
def qC:=bX fJ (Oj vG qI)
def Dj (a0:VC):VC:=bi [a0] 0x11bb918b02239903cc4211bab1d062a10198611019c1a9004f29a051023f33071a02602001af7c021001b91af1ad3294a93f01873804822716062217407a1882026000264041b868019103cf3d0612a0786000180218e1501b81885a05101b3b01101600192f18242d330040201d7218a4110
def N2 (a0:VC):=aG (Dj a0)
def jR:VC:=Dj fJ
def wX:=bX jR (N2 fJ)
def D7:VC:=.regP (.range 4) (.range 4) [0,2] [G 27 8,V 6 (.mov (.c (.nl))),N (.st 1 (.s 7) (Q 0)),Yd 1 8 27]
def vP:VC:=.regP (.range 4) (.range 4) [0,2] [G 125 8,V 6 (.mov (.c (.nl))),N (.st 1 (.s 7) (Q 0)),Yd 1 8 125]
abbrev DN:=[A 128 6,G 129 7,A 6 128,Yd 1 7 129,N (.st 1 (.s 8) (Q 0))]
def vM:VC:=.regP (.range 5) [0,2,1,3,4] [] DN
def Jj (a0 a1 a2 a3:VC):aj:=aP [a0,a1,a2,a3] 0x15370452826c12d025e12d1b1d03101d130021bfd3fd019b1802105270391d230021bdb3ed00263046c002ea183106602f18022d330171a0060200794e0210018001101b182fd152d000000000052f68616e03c4a154e1841002e92d05e2d6c306d01ac21005e12d1920210450701b182b1d734300020263046c003e182100591292ab712d29d2b0101803800643828f590612f03c4a05381818100010680010681b001f25c345c51002901f1c33
def UE (a0 a1 a2 a3:VC):=aG (Jj a0 a1 a2 a3)
def BQ:aj:=Jj D7 jR vP vM
def Uw:=bX BQ (UE D7 jR vP vM)
def Al:aj:=aP [] 0x1502002250210450200282502100218d29041e61046000181901a1c41052820002502103130025d190600188617903c1a052184100600222902000200305c4106421
def SW:=aG Al
def Av:VC:=.regP (.range 5) (.range 5) [0,2] [G 2 0,M 3 1,V 4 (.callv (.m 3) []),L 5 .or 2 4,Yd 1 0 5]
def Nt (a0:VC):aj:=aP [a0] 0x101307002
def Zc (a0:VC):=aG (Nt a0)
def E8:aj:=Nt Av
def YF:=bX E8 (Zc Av)
def DR:aj:=aP [] 0x151d91d05d3b49307a281ac2102b02291cb001bd112d311f68101e038011c1a381af2b063825a03c41e61046000183c001c3601c1001292f001f05c1965c4101c13
def Yp:=aG DR
def rC:VC:=bi [] 0x16991db022198004214391306012d2a381058226218806c1880019b0018e0061020263041a91b802105b90059d3906000182b3f10581d0051016001924633040201d721da4110
def JO:=aG rC
def rG:VC:=bi [] 0x1199f2990222ec0042143d1306012d4c5a105861018860001861c10581af0058001b80058001910222610460001861c10581b80018e0051046012d2a3810586118906c188001b80058006102243f3291872a048482714061be2026002e261046000184a01ea1c181006eb006cf3d06000182b3f10581d005103602191b182462f430040201d722984110
def Jt:=aG rG
abbrev Jy:=Rg [V 5 (.box (.m 2)),V 6 (.mov (.c (.nl))),C 7 (Q 0),C 8 (Q 0),Z [6,7,8]]
abbrev JP:=Rg [X 16 0 5,M 17 16,P 18 .gtr 17 11]
abbrev JI:=Rg [V 19 (.ld (some 4) 1 (.s 5)),H 20 RN [.m 19],V 6 (.mov (.c (.nl))),C 7 (Q 0),A 8 20]
abbrev Jm:=Rg [V 22 (.ld (some 4) 0 (.s 5)),B 23 0,A 24 1,H 25 Fk [.m 22,.m 23,.m 24],A 21 25,E 26 21 false 0,E 27 21 false 1,E 28 21 false 2,A 9 26,A 7 27,A 8 28,Z [21]]
abbrev JQ:=Rg [B 29 8,P 30 .neq 29 0]
abbrev JC:=Rg [A 31 8,V 6 (.mov (.c (.nl))),C 7 (Q 0),A 8 31]
abbrev JN:=Rg [X 33 0 5,M 34 33,A 35 9,⟨some 36,none,.call B8 [.m 34,.m 35],[(0,0)]⟩,A 32 36,E 37 32 true 0,E 38 32 false 1,A 6 37,Z [32,38]]
abbrev Jl:=Rg [X 39 0 5,M 40 39,H 41 Jp [.m 40]]
abbrev Jo:=Rg [A 42 6,A 43 7,A 6 42,A 7 43,C 8 (Q 0)]
abbrev B6:=Rg [A 44 0,A 45 7,V 46 (.build [.nl,O,O] [(0,1,.m 44),(1,1,.m 45)]),V 47 (.box (.m 46)),A 10 47]
abbrev AM:=Rg [B 48 6,V 49 (.len (.m 48)),⟨some 50,none,.mkslice [.int .i64 0] (.s 49) (.s 49),[(0,0)]⟩,A 11 50,Z [49]]
abbrev Ao:=Rg [B 51 6,V 52 (.len (.s 51)),C 53 (Q 0)]
abbrev Aq:=Rg [B 66 6,V 67 (.len (.s 66)),C 68 (Q 0)]
abbrev AT:=Rg [B 99 10,V 100 (.nilck (.m 99)),V 101 (.fa 2 (.m 100)),M 102 101,P 103 .neq 102 0]
abbrev JE:=[A 104 10,V 105 (.nilck (.m 104)),V 106 (.fa 2 (.m 105)),M 107 106,V 6 (.mov (.c (.nl))),C 7 (Q 0),A 8 107]
def uk:VC:=.regP (.range 7) [4,5,0,1,2,3,6] [] JE
abbrev Jx:=[A 108 6,A 109 10,V 110 (.nilck (.m 109)),V 111 (.fa 1 (.m 110)),M 112 111,A 6 108,A 7 112,C 8 (Q 0)]
def ua:VC:=.regP (.range 8) [0,5,1,2,3,4,6,7] [] Jx
def Rq (a0 a1 a2 a3 a4 a5 a6 a7 a8 a9 a10 a11 a12 a13 a14 a15 a16 a17:VC):aj:=aP [a0,a1,a2,a3,a4,a5,a6,a7,a8,a9,a10,a11,a12,a13,a14,a15,a16,a17] 0x1529704528701d13019dd21f7001b1829928f28d2f4301e71a0261d7001db1d91cf331c71a0061b7001a7019704518701b18013003f92770067042913055701b182b1f033002ef24700370451b182700302301df21700070281e1c33
def acF (a0 a1 a2 a3 a4 a5 a6 a7 a8 a9 a10 a11 a12 a13 a14 a15 a16 a17:VC):=aG (Rq a0 a1 a2 a3 a4 a5 a6 a7 a8 a9 a10 a11 a12 a13 a14 a15 a16 a17)
def I2:aj:=Rq Jy JP JI Jm JQ JC JN Jl Jo B6 AM Ao rC Aq rG AT uk ua
def ac1:=bX I2 (acF Jy JP JI Jm JQ JC JN Jl Jo B6 AM Ao rC Aq rG AT uk ua)
abbrev Cs:=[B 13 0,B 14 1,B 15 1,H 16 CO [.m 15],A 12 16,E 17 12 true 0,E 18 12 false 1,V 19 (.nilck (.m 13)),V 20 (.iarr 12 4 (.m 19) (.m 14)),N (.st 4 (.m 20) (.m 17))]
def tD:VC:=.regP (.range 10) [0,1,2,3,4,5,7,8,9,6] [] Cs
def E3 (a0:VC):aj:=aP [a0] 0x1503c42d6050181c641c01b81c07c190032a061044d3923070020261046000186001c1c641c01b81c07c1a004007100330000466811051912
def P0 (a0:VC):=aG (E3 a0)
def yw:aj:=E3 tD
def PI:=bX yw (P0 tD)
def Ay:aj:=aP [] 0x153b5018c7e6218b06c30031001291820210411
def SV:=aG Ay
def jZ:VC:=bi [] 0x15ab2902260046b1be0317af1f064c50460001861c10586c006000182e301c5d28e01814518190110291f733002246181a1c1e729756804871d41e075e1c037001a01b71d11805b6c603700401b2e3201f60022620460001861c10586c006000182e341c28100160019297230402638204604c6000182e301c6c1ca05100
def wg:=aG jZ
def zN (a0:VC):aj:=aP [a0] 0x157cb1900261045d29c03100723071a0060200110028240110451c91bf1bd1bb1b926294d91901874c04822711a067001801a0271605a700401a2e3201e600226104604c6000182e301c1d100241e63046000182e07e1c31004518190110713002246181e282a383a3c1b1b29753e04871d418074a603700401b2e2201f60075380480272607700401b2e2201f600753804821e74607700401b2e1201f60061e64046000182e02c1c2c1002b02291cb001bd1b0101e038001c1a381af2b0638218d03c41e61046000182e001c31a01b10012918001945c3101812
def Kk (a0:VC):=aG (zN a0)
def sB:aj:=zN jZ
def Kd:=bX sB (Kk jZ)
def qr:aj:=aP [] 0x1502842d19150182106012d1a301c62a101980012f86000181a301c6006101b0011030004044068305c2105511
def yo:=aG qr
def j5:VC:=bi [] 0x13eb2d02260047f7a0315db2b064c0046001a860001861c105818800400642704791b8019145282000200021d03102d2b53153002246181a5291874c04821e731a067001801a71d1605a188402420260001e630460001861c1058188004401d1001600192d123040263820461c00428001a0018818a05100
def we:=aG j5
def zV (a0:VC):aj:=aP [a0] 0x15020068b005e91d061c0041f001900791cc07100123071a0063992d01a5e021000200110451a2000200021d03105313300263e40461c5041a00604c400284c061004542000200021d031053133002246181e282e381829753e04872b418077604f44031a203600752a04802724071a203600752a0487e2744072820360002620428402910002432902000200021a0410281e1c33
def JU (a0:VC):=aG (zV a0)
def sc:aj:=zV j5
def J3:=bX sc (JU j5)
def gI:VC:=bi [] 0x15891890221fe01ce4214fb301a91ac0214ed2b062a10198611019c19b007919e051043d13054bd00021f065842d1af00030004044018c5103a3c3e3b392b511830020263041b87a0210019912948d003ff003f9390201e038101c038001a18383eb199061c2a33f03c18d00190046a01c103ad2f06000181d39105831016001924633040201d721884110
def Fg:=aG gI
def dS:VC:=bi [] 0x16994902260041cb1fc0311889301df2ae0217fb2b062a10198611019c1d900792a8051044f13057cb00021f065842d1ed00030004044018c5104d4b493f2b51730020263041ee1ea0210028d12979b0078d006ff4b0202c038102a03800281e386f928d063e4c33f03c60001861c10581cc001be0019004601f10360219493f133040262a204604c1be001cc1ee04100
def jX:=aG dS
def fb:VC:=bi [] 0x11bab5d022600428f3df0316012d3868105822600460001873f1058226504604c6000181fc301c6000181fc301c1b146012d1fc301c61c101980012f80211019c6100181fc301c610202610460001861c1058298007a4051005604195d2b230402246184291873e04842711806700601a2271405a7a2026002e262042983bc019100
def gG:=aG fb
abbrev nQ:=Rg [V 6 (.alloc [O8,O8,O,.nl]),C 7 (Q 0),C 8 (Q 0),Z [7,8]]
abbrev oa:=Rg [B 23 2,P 24 .lss 23 0,A 25 24,U 25 26 (.mov (.s 2)),U 25 27 (.bin .gtr (.s 26) (Q 11)),V 28 (.pick (.m 25) tt (.s 27)),Z [26,27]]
abbrev nW:=Rg [V 29 (.build [O8,O8,O,.nl] []),Yd 4 6 29,C 7 (Q 0),C 8 (Q 2)]
abbrev nS:=Rg [V 9 (.mov (.c (.nl)))]
abbrev nM:=Rg [V 30 (.mks 1 [Q 1,Q 2,Q 1]),V 31 (.len (.s 30)),C 32 (Q 0)]
abbrev mL:=Rg [V 54 (.mks 1 [Q 6,Q 1]),A 15 54]
abbrev mV:=Rg [B 55 9,V 56 (.ia 1 (.m 55) (Q 1)),M 57 56,P 58 .eql 57 2]
abbrev mS:=Rg [V 59 (.mks 1 [Q 4,Q 1,Q 1,Q 1,Q 1,Q 1,Q 1,Q 1]),A 15 59]
abbrev mW:=Rg [C 16 (Q 0)]
abbrev v7:=[B 86 9,V 87 (.ia 1 (.m 86) (Q 1)),M 88 87,V 89 (.conv .u8 (.m 88)),B 90 9,V 91 (.ia 1 (.m 90) (Q 2)),M 92 91,V 93 (.conv .u8 (.m 92)),B 94 9,V 95 (.ia 1 (.m 94) (Q 3)),M 96 95,⟨some 97,none,.mks 1 [Q 1],[(0,0)]⟩,V 98 (.build [O8,O8,O,.nl] [(0,1,.m 89),(1,1,.m 93),(2,1,.m 96),(3,1,.m 97)]),V 20 (.alloc [O8,O8,O,.nl]),Yd 4 20 98]
def jp:VC:=.regP (.range 15) (.range 15) [] v7
abbrev mQ:=Rg [B 99 9,V 100 (.ia 1 (.m 99) (Q 0)),M 101 100,A 21 101]
abbrev mX:=Rg [B 102 9,V 103 (.ia 1 (.m 102) (Q 1)),M 104 103,P 105 .neq 104 2]
abbrev mN:=Rg [A 106 21,B 107 9,V 108 (.ia 1 (.m 107) (Q 4)),M 109 108,L 110 .add 106 109,A 21 110]
abbrev mR:=Rg [C 22 (Q 4)]
abbrev nc:=Rg [A 141 21,P 142 .neq 141 0,A 143 142,U 143 144 (.mov (.s 2)),U 143 145 (.ld (some 4) 0 (.s 20)),U 143 146 (.call gC [.s 144,.s 145]),U 143 147 (.un .not (.s 146)),V 148 (.pick (.m 143) tt (.s 147)),Z [2,144,145,146,147]]
abbrev mT:=Rg [V 149 (.build [O8,O8,O,.nl] []),Yd 4 6 149,C 7 (Q 0),C 8 (Q 8)]
abbrev mU:=Rg [V 150 (.ld (some 4) 1 (.m 20)),A 151 1,Yd 4 6 150,A 7 151,C 8 (Q 0)]
def zE (a0 a1 a2 a3 a4 a5 a6 a7 a8 a9 a10 a11 a12 a13 a14 a15 a16 a17 a18 a19:VC):aj:=aP [a0,a1,a2,a3,a4,a5,a6,a7,a8,a9,a10,a11,a12,a13,a14,a15,a16,a17,a18,a19] 0x152b70452a705932301dfb2297005d2b232871a0461f70041e719f921d7001c701b70493f0331a71a0261970041873f1305bf277006701897f7d33571a0064700370452705303302db21700070281e51d33
def J4 (a0 a1 a2 a3 a4 a5 a6 a7 a8 a9 a10 a11 a12 a13 a14 a15 a16 a17 a18 a19:VC):=aG (zE a0 a1 a2 a3 a4 a5 a6 a7 a8 a9 a10 a11 a12 a13 a14 a15 a16 a17 a18 a19)
def sn:aj:=zE nQ oa nW nS nM gI mL mV mS mW dS jp mQ mX mN mR fb nc mT mU
def Ko:=bX sn (J4 nQ oa nW nS nM gI mL mV mS mW dS jp mQ mX mN mR fb nc mT mU)
def gh:VC:=bi [] 0x15ab301af1ae0213b1859d39062a5046000181aa101c19b1a8051004ed2f062a20198612019c1aa0301818d19e051043f13054bd0002001b1d01bd004103b181b183d392f2d2b163000020263041be7a0210018f12949b0048d003ff122d000023b68202a0381028038011e1c383f918f061c383e418e03c19c006118f03c4a0501819004201f10362193913040202640419c18802100
def na:=aG gh
def uU (a0:VC):VC:=bi [a0] 0x12ef2d02260047f4e0315db2b062a10198611019c18d00791b8051013071a026038b3906000184a24e1c3101b2f01101600191b182d12300402638204604c6000184a301c1885e05100
def Ep (a0:VC):=aG (uU a0)
def ge:VC:=uU gh
def vB:=bX ge (Ep gh)
def zw (a0:VC):aj:=aP [a0] 0x1502005ef005e91d01900791cc05101a1801230071a006020011001b0011045420002001b1d03101b183123000224618429753e04872b418077604f44031a2036000262041a1e019100024329020002001b001f185c510281e1c33
def IZ (a0:VC):=aG (zw a0)
def qG:aj:=zw ge
def IG:=bX qG (IZ ge)
def jv:VC:=bi [] 0x14a94b02260041d96e0317fb49062a10198611019c1df001cb29c05144f13057cb0002001b2901ed004104d4b493f3d3b392f7311b30020263041ee28a0210047a93901e81ea02128b12979b4a078d306ff4d0202e038102c038002a28386f928b061c4c5a419903c19b0060001861c10581da001be00190042028104f4d2300202640460001861c10581da001be1bc05105cd3b01e819e0211cf1295bf4a05b9305ab4d0201e038101c038001a183859d1cf063a21c2a419903c1a90019004201c104f4d230023a2610460001861c10581da001be6c051000200110024d01103602194b3f23040262a204604c1be001da19e04100
def vC:=aG jv
def uJ (a0:VC):VC:=bi [a0] 0x139f3d02260041af5a03118ab2f062a10198611019c1cb0018d28e0510423071a026020011001b001103dd3f06119803c60001861c10581b8002e406101600193d3b397153040262a204604c2e001b87804100
def Eo (a0:VC):=aG (uJ a0)
def jr:VC:=uJ jv
def uP:=bX jr (Eo jv)
def zh (a0:VC):aj:=aP [a0] 0x15020018bf0018b9290190018d2ac05100247153071a0060200110012001102db3901f4802101b0011045420002001b29031075314300224618429753e04872b418077604f44031a2036000262041a2a019100024329020002001b1e04102c2a2834
def IS (a0:VC):=aG (zh a0)
def qu:aj:=zh jr
def IJ:=bX qu (IS jr)
abbrev tu:=Rg [V 37 (.ld (some 4) 0 (.s 5)),H 38 qk [.m 37],V 39 (.mkslice [.lst []] (.s 38) (.s 38)),A 14 39,Z [38]]
def xq (a0:VC):aj:=aP [a0] 0x1502006cf006c90069f1d0190061c0041bd007f001af1e801910449130569900020002001b1d01cb005103f3d2d3430020263041cc1bc021001e91295ef3c05e9305db3f0201c038101a03800186385cd1e902261c33f03c190031bc01b1041a1804222d0112d130026001886119c03c1b81ae031042f13054fb00020002001b1d018d005103d2d314300202630418e19c021001b181ad1294d92a04cb304bd3d0201e038101c038011a18384af1ad061c2a319b03c4a1501819004201c1003d1300222610419b7c0210007043b13053bb00020002001b1d01a9005101b18392d314300020263041aa58021006f1293992e038b302fd390201c038101a03800186382ef6f02261c33f03c190044c01b1042f13052bf00020002001b1d018d005101b182d3133000202630418e38021004b12929d2a028f302892d0201c038101a03800186381fb4b02261c33f03c190042801b1002464290200020002001b001f185c6102a281e1c43
def Hb (a0:VC):=aG (xq a0)
def oQ:aj:=xq tu
def Ht:=bX oQ (Hb tu)
abbrev pf:=[B 86 11,B 87 17,B 88 18,V 89 (.ia 1 (.m 87) (.m 88)),M 90 89,B 91 22,L 92 .add 90 91,B 93 19,B 94 22,V 95 (.ia 1 (.m 93) (.m 94)),M 96 95,V 97 (.ia 1 (.m 86) (.m 92)),N (.st 1 (.m 97) (.m 96))]
def jh:VC:=.regP (.range 13) (.range 13) [] pf
def pJ (a0:VC):VC:=bi [a0] 0x118895d022600428f0031077606195d4f23040262a204604c1ee002982be04100
def zX (a0:VC):=aG (pJ a0)
def fU:VC:=pJ jh
def pi:=bX fU (zX jh)
def pQ (a0:VC):VC:=bi [a0] 0x16ad4d02260041df1ae0310623071a066025801107bd301fb298021045b13057af0002001b2902890041049183f181f18594f4d4b3d3b392f511a300000202630428a1dc0210029912978d006ff006f94f0201e038101c038011a18386eb299061c2a31a803c1cc0501819004601c1056041949184d4b230040262a204604c1da001e81fa04100
def Az (a0:VC):=aG (pQ a0)
def cS:VC:=pQ fU
def jO:=bX cS (Az fU)
def oR (a0:VC):VC:=bi [a0] 0x13eb3d02260041af6a0313f1819c93b062a0046000181be101c1a92be0510441802230071a04602001105e94b061c2a384c519f03c1be030181aa0019c006050185e101c2819c0181058f142d330000449686119e03c6000181be001c510026119d03c6000181be018a1c31004cb122d000023f6860301861c20581b80060001861c105819c006000185e541c1a103602193d3b23040265a204604c60001861c105819c006000185e501c1b87c018100
def zW (a0:VC):=aG (oR a0)
def b8:VC:=oR cS
def fY:=bX b8 (zW cS)
def pk (a0:VC):VC:=bi [a0] 0x12ef39022600419b3c0310223071a0260200110023b01101600191f1839513300402638204604c6000185e501c1995e05100
def AQ (a0:VC):=aG (pk a0)
def cO:VC:=pk b8
def jI:=bX cO (AQ b8)
def sH (a0:VC):aj:=aP [a0] 0x15020019dd0019cf290190018d2ea05101a18051330071a0060200110029d2f01888218882021381bc0012f8210024329020002001b002d1c5c5102c2a2834
def CP (a0:VC):=aG (sH a0)
def lB:aj:=sH cO
def CZ:=bX lB (CP cO)
def qB:aj:=aP [] 0x157b796f6d6b5d5b594f4d3f3d3b392f2429292ef1901874c04872b24e1a03e7001801a2e3601e700401a283201e6001874c04872b11a067001801a2e2601e700401a282201e6001874c04872b11a067001801a2e1601e700401a281201e60062a1046000182e001c60001828001c3c10012918001905c325c4101812
def HC:=aG qB
def jz:VC:=bi [] 0x11cb1b0226004492c03145181901101b313300263e30460001861c10584a001a0060001861c10584a00440191b01600191b3133040262a204604c4004a2c04100
def uE:=aG jz
def yI (a0:VC):aj:=aP [a0] 0x15519011003133071a006020011004518190110312300262a304604c1a00604c4205100012918602101812
def IV (a0:VC):=aG (yI a0)
def qU:aj:=yI jz
def Ih:=bX qU (IV jz)
def eQ:VC:=bi [] 0x13c91d02260044f7e03145181901101d1b31430026681121028860301861c2058580060001861c10584a001a0060301861c2058580060001861c10584a004401f1b03602191d13040264c204604c60001861c10584a00400587807100
def mE:=aG eQ
def mr (a0:VC):VC:=bi [a0] 0x11d91b0226004492a031013071a026022011045181901101b313300264c304604c60001861c10584a001a00604c60001861c10584a004401b1b001600191b3133040262a204604c4004a2e04100
def xV (a0:VC):=aG (mr a0)
def eU:VC:=mr eQ
def mq:=bX eU (xV eQ)
def ph (a0:VC):aj:=aP [a0] 0x15519011003133071a006020011004518190110312300262a304604c1a00604c4405100012918602101812
def AD (a0:VC):=aG (ph a0)
def jP:aj:=ph eU
def AU:=bX jP (AD eU)
def fS:VC:=bi [] 0x11cb1b0226004492c03145181901101b313300260018863e24e03c60001861c10584a001a0060001861c10584a004401a1b01600191b3133040262a204604c4004a2c04100
def oK:=aG fS
def sO (a0:VC):aj:=aP [a0] 0x15519011003133071a006020011004518190110312300262a304604c1a00604c4205100012918602101812
def CJ (a0:VC):=aG (sO a0)
def lC:aj:=sO fS
def CG:=bX lC (CJ fS)
def gO:VC:=bi [] 0x13dd1d02260044f18a03145181901101d1b314300229181f180246181a1c2a2c2e383a484a4c4e585e686a6c6e2d29755a048701c018b72b24e1a03f7001801b6c4601f700401b5e4201f600754c04872b11a01df7001801b6c3601f700401b5e3201f600754c04872b11a01df7001801b6c2601f700401b5e2201f600754c04872b31a077001801b6c1601f700401b5e1201f60062a3046000186c001c6000185e01ba1c4b100589152d32200005296860601861c5058580060001861c10584a001a19e019104af152d322000051f6860601861c5058580060001861c10584a0044019103602191d13040264c204604c60001861c10584a00400587c07100
def rl:=aG gO
def rQ (a0:VC):VC:=bi [a0] 0x11ed1b0226004492e031013071a026022011045181901101b313300264c304604c60001861c10584a001a00604c60001861c10584a004401b1b001600191b3133040262a204604c4004a3a04100
def BV (a0:VC):=aG (rQ a0)
def gQ:VC:=rQ gO
def rI:=bX gQ (BV gO)
def vk (a0:VC):aj:=aP [a0] 0x15519011003133071a006020011004518190110312300262a304604c1a00604c41805100012918602101812
def Ew (a0:VC):=aG (vk a0)
def mK:aj:=vk gQ
def Eq:=bX mK (Ew gQ)
def Ad:aj:=aP [] 0x1502003eb190797a031040461843001f3dd2d067c2001e865a004618270461c1d046c0061c70458007f001826004188005e001c100261c2045e0018848031002b92b062a10198611019c18800792e051001e002001101b00110428820018821f021291f23002193801100188820018882001fb1d06620044261d0462e250432e07104542001b190210312300224229752a0482e274407420360002620441a071001d0222902001b603101a1822
def Sy:=aG Ad
def D5:aj:=aP [] 0x151f1d13296b501872a0487e27194064202600026604400181001291820210411
def Xk:=aG D5
def oE:VC:=bi [] 0x12e94902219e06a4212db7061c00449002d5e0414518501102a2c2e1b736300224229752a048282744074a2036002262044a3c071001ed1b06000181d39105831016001924633040201d72484110
def CE:=aG oE
def Gu (a0:VC):aj:=aP [a0] 0x1519918f18d18b25293c9501873e04828271918067604e700401a1a3201e60028261042d3a01a1002433071a0060200704c6000181a32a1c410002001104519b5061c21a903c2211019c60001819301c5100241e63046000181a061c310001291800305c310411
def SB (a0:VC):=aG (Gu a0)
def AI:aj:=Gu oE
def Sn:=bX AI (SB oE)
def si:aj:=aP [] 0x1128411
def Kl:=aG si
def DM:aj:=aP [] 0x1544531430291291bd1912d1af1c12d1a91b0201e038101c038001a183819b29061c2a31803c3002e000181f002181c14130020261041a000182100021801101a14
def WI:=aG DM
def Ek:aj:=aP [] 0x157f005d502265046221a0428002818061b0462501151300241e610460001819021c31001a2501100222902000200305c4106421
def X9:=aG Ek
def Dy:aj:=aP [] 0x156f6d6b695f5d5b594b493f392f2d2b4329292db1901876e04875392804a3a271607700401b280201f718022e2719606700401a280201e600187380480276606700401a280201e6001873e04871d1918061a602700401a281201e60022660460001828101c3a1001291820325c3101812
def XD:=aG Dy
def ub:VC:=bi [] 0x15e97b0222e901da4212b185db1f062a5046000187a101c5d1d8051045181901102b186e786f5f5d5b1f730002246181a1c1e282e383a484a4c4e1f29756e048187392804b3a273606700401a7a0201e718032e274607700401b7a0201f60075380480272607700401b7a0201f600753e04871d418075e603700401b7a1201f6002262046000187a15e1c3910038b122d000022b686030181d3920584103602192461f43040201d727a4110
def Gz:=aG ub
def GE (a0:VC):VC:=bi [a0] 0x15ef5f02229d01884210241f43071a0260200704c4f4e03101a82001102bf1d06000181d39105831016001924633040201d725e4110
def SL (a0:VC):=aG (GE a0)
def t9:VC:=GE ub
def Hc:=bX t9 (SL ub)
def Np (a0:VC):aj:=aP [a0] 0x15519011002433071a0060200704c19480310045181901103130022461c1e16297538048282746077404f1a203600752a0487fe274407420360002620441a01c100012918602101812
def YK (a0:VC):=aG (Np a0)
def Fp:aj:=Np t9
def YR:=bX Fp (YK t9)
def Co:aj:=aP [] 0x152d5019101aa01ac21001292f00305c310411
def UF:=aG Co
def z8:aj:=aP [] 0x1502003ad0039f190490060001802610587f5807106f02292fd002ef2d010180380164382e96f0638227e03c795a018104013052bf000200021904f004102b1b23002026304584a021001f184912929d0028f1b02892b0201e038101c038001a18381fb49061c2a37d03c19003005e1528181c1003902291bd001af142d33000041f681060380142381a9390382118a1c3c18100243290200020002604101c1a1832
def S9:=aG z8
abbrev yi:=[B 15 0,V 16 (.nilck (.m 15)),V 17 (.fa 1 (.m 16)),B 18 0,V 19 (.nilck (.m 18)),V 20 (.fa 1 (.m 19)),M 21 20,P 22 .lss 21 0,A 7 17,C 8 (Q 511),A 9 22]
def pb:VC:=.regP (.range 11) [0,1,2,8,9,3,4,5,6,7,10] [] yi
def Bq (a0:VC):aj:=aP [a0] 0x1551d01106012d1c07c1f005d1ae041045181d01101f523002246181a1c1e282a2c2e383a3c3e484a4c5a5c5e2b292f29751ea0481871bb4c04b755b3c04a73f41c071f82701a077001801b7607f5e4032820371e0273f21c061f82751a067001801a7607e5e402282027603704018b7a203600753804871d46076c40328203600026204282803c100411301130701a1c1e330023a261041960210018007fe20019b1f06001c607c4606100129181a02101c13
def Kt (a0:VC):=aG (Bq a0)
def tX:aj:=Bq pb
def KG:=bX tX (Kt pb)
def yK:aj:=aP [] 0x1544531430291291bd1912d1af1c12d1a91b0201e038101c038001a183819b29061c2a31803c3002e000181f002181c14130020261041a000182100021801101a14
def QD:=aG yK
def yp:aj:=aP [] 0x1502852d3821462131a2121c2114210500000000005018c2104502852d1e21422136212182112210500000000005018c2100231841e61046000181a001c3100000000000005068305c2106511
def Rh:=aG yp
def Ac:aj:=aP [] 0x156250110451825011002300110001290220210411
def S3:=aG Ac
def BW:aj:=aP [] 0x1519b19060018861c21ab06c3e101ac01ac3605106b112d0011b686221a042265041920510012918602101812
def UA:=aG BW
def Fr:aj:=aP [] 0x15495002610462e221903c191501841001291800305c310411
def YA:=aG Fr
abbrev CA:=[B 72 0,X 73 0 10,M 74 73,B 75 12,P 76 .mul 75 32,B 77 13,L 78 .add 76 77,B 79 12,P 80 .mul 79 32,B 81 13,L 82 .add 80 81,X 83 0 10,M 84 83,H 85 Lp [.m 84],L 86 .add 82 85,V 87 (.build [O,O,O] [(0,1,.m 74),(1,1,.m 78),(2,1,.m 86)]),V 88 (.callv (.m 72) [.m 87]),V 89 (.un .not (.m 88))]
def tZ:VC:=.regP (.range 18) (.range 18) [] CA
def Cx (a0:VC):VC:=bi [a0] 0x16dd3b0638004617b03c600018188001c1a90061452d185f5d5b493f3d3b392f291d1b7511f30018b92070196018193b13040264c20460001862a10582260046c002e000181aa1ee07100
def MS (a0:VC):=aG (Cx a0)
def kT:VC:=Cx tZ
def kQ:=bX kT (MS tZ)
def Cu (a0:VC):VC:=bi [a0] 0x159d39022600419b1a8031013071a01865cd3b060001861c10586c002e004185107606193913040266820464c00460001861c1058580060001828301c4a0019c1b8019100
def MW (a0:VC):=aG (Cu a0)
def kY:VC:=Cu kT
def ov:=bX kY (MW kT)
def CD (a0:VC):VC:=bi [a0] 0x13ad2902260046b5a031013071a06649b3904a0021045190224632975380483a271607700401b1880201f600026104600018188041c191005604192d182f130040261c20418e006c7c03100
def M8 (a0:VC):=aG (CD a0)
def kR:VC:=CD kY
def je:=bX kR (M8 kY)
def Cw (a0:VC):VC:=bi [a0] 0x118bf5f02229d02bc4212180130071a0462ef2f062a004600018188101c6c4805102bf122d000022d686030181d3920584103602192462943040201d725e4110
def MX (a0:VC):=aG (Cw a0)
def kO:VC:=Cw kR
def ow:=bX kO (MX kR)
def Cy (a0:VC):VC:=bi [a0] 0x1199f490221cb02f842119991b064c00460001861c10584f0060001828301c4928e01810242943071a0260200704c5d380310002001101fb001df1d06000182b3f10581d005101600192461b75173040201d72484110
def MQ (a0:VC):=aG (Cy a0)
def kP:VC:=Cy kO
def oF:=bX kP (MQ kO)
def GW (a0:VC):aj:=aP [a0] 0x10241b75173071a0060200704c190028183100218011004
def RY (a0:VC):=aG (GW a0)
def Ae:aj:=GW kP
def SJ:=bX Ae (RY kP)
def LU:aj:=aP [] 0x1542501104518250110021a26204300210001290220210411
def adr:=aG LU
def RF:aj:=aP [] 0x150250110454250110023182e264046000181a02c1c31000419130519b503b002103180020263043c1a02101b222979006b7010180380164385d1b002621ad03c1a056181810001290200305c310411
def uf:VC:=bi [] 0x12892b0226004792e031401305399000200021d06b004107182d2b1f34300020263046c5c0210691292ef002e91f02db2d0201c038101a03800186382cd6902261c31803c5d001a4801b1045282000200021d03107182b1f33300022a264047a402100160019402026104684a02100
def AH:=aG uf
abbrev yu:=Rg [B 69 13,X 70 2 3,M 71 70,V 72 (.len (.m 71)),L 73 .geq 69 72]
abbrev zu:=Rg [C 6 (Q 0),C 7 (Q 0),C 8 (Q 8)]
abbrev yC:=Rg [X 74 2 3,M 75 74,A 76 13,V 77 (.ia 1 (.m 75) (.m 76)),M 78 77,A 79 7,A 6 78,A 7 79,C 8 (Q 0)]
def Nw (a0 a1 a2 a3:VC):aj:=aP [a0,a1,a2,a3] 0x1571837004527071801c23006f9217006bb3b061c00419b0062a1a046000182e101c22650461c00418d006221a04226504791ca01c1b04013055b9000200021d06b00410718392f2b1f4300020263046c1bc021001bd12958f005891f04fb3902028038101e038001c1a384ed1bd062a3831803c6000182e101c5d001919c01d104013054a9000200021d06b004107182f2b1f34300020263046c18c0210018d1293ff003f91f03eb2f02028038101e038001c1a383dd18d062a3831803c2265047a005d001a6e01d102d13071a0061d91f01f1c021000200020021045282000200021d031071853230002600188611ae03c2e051a183100024329020002000240345c510281e1c33
def Zd (a0 a1 a2 a3:VC):=aG (Nw a0 a1 a2 a3)
def Fx:aj:=Nw uf yu zu yC
def ZM:=bX Fx (Zd uf yu zu yC)
def BX:aj:=aP [] 0x151d1802002cd19061c21b903c190058154e1851004542001b1902101d183130002246181e28629753e04872b61807711b8603f5805401b1a203600752a04802724071a2036000263044c1a01d1002912919b0018d142d0000000041d6810180380164387f290611af03c36019100222902001b603101a1822
def UN:=aG BX
def UR:aj:=aP [] 0x152f2d1f1d152919b50752a0481c2714074203600752a0481a27140742036006262044001c1001291820210411
abbrev zU:=[B 13 0,V 14 (.nilck (.m 13)),V 15 (.fa 0 (.m 14)),M 16 15,B 17 0,V 18 (.nilck (.m 17)),V 19 (.fa 1 (.m 18)),M 20 19,A 21 1,H 22 CH [.m 16,.m 20,.m 21],A 12 22,E 23 12 false 0,E 24 12 false 1,E 25 12 false 2,A 4 23,A 5 24,A 6 25]
def qP:VC:=.regP (.range 17) [0,1,2,3,4,5,6,7,8,9,10,11,14,12,15,13,16] [] zU
def CB (a0:VC):aj:=aP [a0] 0x153bb1903b0021041b12301c012d6101c1c07c490030051020261044f002101c012d6201c1c07c580045a0510039130700450219011031230020263046000186201c607c4405100012902602101812
def MY (a0:VC):=aG (CB a0)
def vL:aj:=CB qP
def M7:=bX vL (MY qP)
def iQ:VC:=bi [] 0x14282012d6201c607c400410228264042e3802101bd702260042d0031016019402246181a5291874c04802711a067001801a72601e7407e4202600226104226218806c4601b100
def Dz:=aG iQ
abbrev uR:=[B 21 3,P 22 .add 21 4,V 23 (.bin .shl (Q 1) (.m 22)),A 24 0,B 25 3,P 26 .add 25 4,V 27 (.calli vI [.m 24,.m 26]),L 28 .add 23 27,A 2 28]
def lW:VC:=.regP (.range 9) (.range 9) [] uR
def xp (a0 a1:VC):aj:=aP [a0,a1] 0x150131700071a060020011001290220210411
def G9 (a0 a1:VC):=aG (xp a0 a1)
def oP:aj:=xp iQ lW
def GQ:=bX oP (G9 iQ lW)
def wL:VC:=bi [] 0x148d18f02268004216012d1c2a10586b006c006000185827a1c613c92901d002101600192423040201d7218e4110
def JF:=aG wL
def wM:VC:=bi [] 0x15e91cf0227c004216012d1c2a105879007f006000185831ba1c6159d005892b06000182b3f10581d0051036021924633040201d721ce4110
def JS:=aG wM
abbrev Lc:=[A 20 0,X 21 3 4,M 22 21,V 23 (.ld (some 4) 0 (.s 4)),H 24 wW [.m 23],V 26 (.ld (some 4) 0 (.s 4)),H 27 wW [.m 26],⟨some 25,none,.mkslice [.int .i64 0] (.s 24) (.s 24),[(0,0)]⟩,⟨some 28,none,.mkslice [.int .i64 0] (.s 27) (.s 27),[(0,0)]⟩,V 29 (.build [O,O,.nl,.nl] [(0,1,.m 20),(1,1,.m 22),(2,1,.m 25),(3,1,.m 28)]),V 6 (.alloc [O,O,.nl,.nl]),Yd 4 6 29]
def BY:VC:=.regP [0,1,2,3,4,6,7,5,8,9,10,11] (.range 12) [] (unp [0,1,2,3,4,7,5,6,8,9,10,11] Lc)
def wD:=Rg [V 30 (.ld (some 4) 1 (.s 4)),H 31 fe [.m 30],V 7 (.alloc [O8,O8,O8,O8,O8,O8,O8,O8,O8,O8,O8,O8,O8,O8,O8,O8,O8,O8,O8,O8,O8,O8,O8,O8,O8,O8,O8,O8,O8,O8,O8,O8,O8,O8,O8,O8,O8,O8,O8,O8,O8,O8,O8,O8,O8,O8,O8,O8,O8,O8,O8,O8,O8,O8,O8,O8,O8,O8,O8,O8,O8,O8,O8,O8,O8,O8,O8,O8,O8,O8,O8,O8,O8,O8,O8,O8,O8,O8,O8,O8,O8,O8,O8,O8,O8,O8,O8,O8,O8,O8,O8,O8,O8,O8,O8,O8,O8,O8,O8,O8,O8,O8,O8,O8,O8,O8,O8,O8,O8,O8,O8,O8,O8,O8,O8,O8,O8,O8,O8,O8,O8,O8,O8,O8,O8,O8,O8,O8,O8,O8,O8,O8,O8,O8,O8,O8,O8,O8,O8,O8,O8,O8,O8,O8,O8,O8,O8,O8,O8,O8,O8,O8,O8,O8,O8,O8,O8,O8,O8,O8,O8,O8,O8,O8,O8,O8,O8,O8,O8,O8,O8,O8,O8,O8,O8,O8,O8,O8,O8,O8,O8,O8,O8,O8,O8,O8,O8,O8,O8,O8,O8,O8,O8,O8,O8,O8,O8,O8,O8,O8,O8,O8,O8,O8,O8,O8,O8,O8,O8,O8,O8,O8,O8,O8,O8,O8,O8,O8,O8,O8,O8,O8,O8,O8,O8,O8,O8,O8,O8,O8,O8,O8,O8,O8,O8,O8,O8,O8,O8,O8,O8,O8,O8,O8,O8,O8,O8,O8,O8,O8,O8,O8,O8,O8,O8,O8,O8,O8,O8,O8,O8,O8,O8,O8,O8,O8,O8,O8,O8,O8,O8,O8,O8,O8,O8,O8,O8,O8,O8,O8,O8,O8,O8,O8,O8,O8,O8,O8,O8]),Yd 289 7 31]
def Ru (a0 a1 a2 a3:VC):aj:=aP [a0,a1,a2,a3] 0x151d18027002842d58152c18310002433371a0260200704c60001858201c4100012961c21bb06c5d101bc01ac600018582281c5100223271a0060200604c600018582781c4100191817006f6923070041b13051ed7062842d490003300004018c410191811300020263044a2c021002f1291bd001af142d000000004196810180380164381a92f0611af03c4280191001290200330000426831065521
def abw (a0 a1 a2 a3:VC):=aG (Ru a0 a1 a2 a3)
def Jf:aj:=Ru BY wD wL wM
def abF:=bX Jf (abw BY wD wL wM)
def iJ:aj:=aP [] 0x156b19002660461c21be06c1900300510012918602101812
def yx:=aG iJ
def wU:aj:=aP [] 0x154950026404604c30041001291820210411
def OV:=aG wU
def qN:aj:=aP [] 0x1502001ed190226504604c4f2e051041f13051cb00021905d003101d130020263045b1c02100291291a90019b1d0101a038011863818d29061c21bf03c1900360191002229020002603101a1822
def IX:=aG qN
def j6:VC:=bi [] 0x140192f7514300261c20418e001bd1da03104528200022b006c22d000002018c4103d183f2f753163000261c4042e006000181b811ea1c41005bf301cb002106012d1b8101c61c0041be006000181b811ac1c61044b13054fb00022b066c22d1d900000002018c5103d18493f2f7516300020263041da7e021001ab1294cb004bd004af3f0201e038101c038001a18384a91ab061c2a33f03c2800190041aa01c1016
def Fs:=aG j6
def zF (a0:VC):aj:=aP [a0] 0x153d1802006eb2b066c22d19001b8131f81851004528200022b006c22d000002018c4103d1831300020261046000181b811d81c3100675143071a00603eb122d000023d68610100002018c19b7804104528200022b006c22d000002018c410392f75316300224229752a0483a27440719c203600382610419c5a0710043b13052fd00022b066c22d1a900000002018c510392f7531630020263041aa3c021005b1292cd2e02bf302b9390201c038101a03800186382ab5b018261c33f03c190042c01b101fb2f0226504611c803c281e04100222902000200000021e684102c2a32934
def J8 (a0:VC):=aG (zF a0)
def su:aj:=zF j6
def J9:=bX su (J8 j6)
def qM:aj:=aP [] 0x151a2501104562501100231841e61046000181a001c3100001290200305c310411
def Ik:=aG qM
def iP:VC:=bi [] 0x11fb1b0226004493e0312db7065a10198611019c6000186001c61c20583c004002d401913602191b13040264c2046000186101c61c20583c004004a2e07100
def tK:=aG iP
def tf (a0:VC):VC:=bi [a0] 0x118d1902260043b18031013071a026021b011016001919123040262a204604c4001d1a04100
def DS (a0:VC):=aG (tf a0)
def iM:VC:=tf iP
def tU:=bX iM (DS iP)
def xS (a0:VC):aj:=aP [a0] 0x152e9502d6802100123071a006020011001b0011001291b20210411
def GC (a0:VC):=aG (xS a0)
def pn:aj:=xS iM
def FZ:=bX pn (GC iM)
def r8:aj:=aP [] 0x1502004d9004cb2901a90061c00419b002d18e071045282000200022903103b39733002246181a2f629754c04871d41a0718e180371d060719c4032e20360002620461c00419c002e6801c10043d130539f000200022901af004103b392f7430020263041b84a021006b1292fd002ef002e9390201c038101a03800186382db6b061c21c903c190033e01b10455b1292ab0029d0028f2902060381040380020382a261c33f03c19003001a101e7230020262042e1a0210041ffe22f0111a130023a261041f6021007fe20011002432902000200021e04102c2a2834
def Kc:=aG r8
def qp:aj:=aP [] 0x15225011045282501100241e610460001819001c310001290200305c310411
def HL:=aG qp
abbrev vq:=[A 65 9,V 66 (.nilck (.m 65)),V 67 (.fa 2 (.m 66)),M 68 67,V 6 (.mov (.c (.nl))),C 7 (Q 0),A 8 68]
def lR:VC:=.regP (.range 7) [4,5,0,1,2,3,6] [] vq
def vD (a0:VC):VC:=bi [a0] 0x14fb4f02260041ed18803159187cb4d062a50198615019c1fc160181df1fc05102af2ad5b32979b3d0752a048704018b28a2036001af1fe0710452820002001b1d031059181b185b4f4d4b493f3d3b2d2b1a30000238264046000181fc1181c31004507059181b185b4f4d4b493f3d3b2d193000020263046000186201c607c7a19c051001db1295cd005bf152d322000055968101c038011a18385b91db061c2a31cc06c1da004a050187a601b103602194f4b4933040261c2041cc001ee1be03100
def Ex (a0:VC):=aG (vD a0)
def db:VC:=vD lR
def jm:=bX db (Ex lR)
def uK (a0:VC):VC:=bi [a0] 0x13c93f02260041bd5c0317fb3b062a10198611019c1df001a91fa05104633071a026020011001b001101bd1bb1b93294bd4b018738048227160622721cb406e7a2026000264041cc68019103eb49061c21cb06c188007a404101600191b183f2d230040262a2046119a03c4a050181be7e04100
def Es (a0:VC):=aG (uK a0)
def cq:VC:=uK db
def js:=bX cq (Es db)
abbrev uw:=[A 90 9,V 91 (.nilck (.m 90)),V 92 (.fa 2 (.m 91)),M 93 92,V 6 (.mov (.c (.nl))),C 7 (Q 0),A 8 93]
def lU:VC:=.regP (.range 7) [4,5,0,1,2,3,6] [] uw
abbrev uT:=[A 95 13,A 96 9,V 97 (.nilck (.m 96)),V 98 (.fa 1 (.m 97)),M 99 98,A 6 95,A 7 99,C 8 (Q 0)]
def lY:VC:=.regP (.range 8) [0,5,1,2,3,4,6,7] [] uT
def yR (a0 a1 a2:VC):aj:=aP [a0,a1,a2] 0x15270452820002001b1d03103b2b230021af1801100451703d3b230020263046000186201c607c7a29a051001b1801a230071a0060200110018001101b001106d023292fd002ef002e92d0201a03810180380064382db6d0611ca03c4a054a181a102b92b0605c6111c102000033018c190033a0510024329020002001b001f185c510281e1c33
def IH (a0 a1 a2:VC):=aG (yR a0 a1 a2)
def qL:aj:=yR cq lU lY
def Iy:=bX qL (IH cq lU lY)
def jY:VC:=bi [] 0x179702260042d1a031455501107123002026404604c60001861c10582e004406101600197123040262a204604c4007604100
def wA:=aG jY
def zG (a0:VC):aj:=aP [a0] 0x1518501100123071a0060200110001291820210411
def JZ (a0:VC):=aG (zG a0)
def sj:aj:=zG jY
def Kb:=bX sj (JZ jY)
def pF:aj:=aP [] 0x151f1d13296b501872a048382724064202600026404400181001291820210411
def Gd:=aG pF
def gg:VC:=bi [] 0x12ab1d02260044f5f0316012d383e105861c21cf03c580040058004a40711600191d123040261c2043c00584e03100
def uY:=aG gg
def ju:VC:=bi [] 0x13ff2902260046b1ab03146012d2e201c62a10198611019c6c006100182e201c716012d383e1058604c6000182e201c6c006000182e301c18100261c1045e0060001861c10586c004a406105604192913040261c2043c006c19a03100
def uW:=aG ju
def vt (a0:VC):VC:=bi [a0] 0x13c91f02260045d6e031013071a046022901103602191f1b1933040261c2043c00604c6000182e27c1c5100
def El (a0:VC):=aG (vt a0)
def jn:VC:=vt ju
def uX:=bX jn (El ju)
def yW (a0 a1:VC):aj:=aP [a0,a1] 0x1571802842d2e151dc18210004633171a026020011000123071a006020011004d1291ed1b07702101bc0012f83c0041041296012d2e301c7702101bc0012f83c2c05101af190611ce03c42a031019b142d33000047686112a1023300004018c611cd03c40041c061033000042681105511
def H3 (a0 a1:VC):=aG (yW a0 a1)
def qo:aj:=yW gg jn
def Ij:=bX qo (H3 gg jn)
def iA:VC:=bi [] 0x15db490638004611da03c6000187a001c1cb1ac0616ad3b064c10198611019c61c0041cc00188267041be001a91a01815604194913040264c20460001862a10582260041b80018e001cc1c807100
def lk:=aG iA
def sJ (a0:VC):VC:=bi [a0] 0x13cf3f02260041bd58031013071a0464cb49060001861c10581b80018e0051043190261c304280060001861c10581be0019c4061003602193f13040262a204604c19c001be18804100
def CF (a0:VC):=aG (sJ a0)
def ip:VC:=sJ iA
def lE:=bX ip (CF iA)
def sE (a0:VC):VC:=bi [a0] 0x138b3d02260041af3e031013071a026023f01101600192b183d392f75530040263e20462a0046000187a101c2e0018b6806100
def CW (a0:VC):=aG (sE a0)
def ir:VC:=sE ip
def sU:=bX ir (CW ip)
def vR (a0:VC):aj:=aP [a0] 0x156bb2d01a91da02101a1804675530071a0062ab3d02e2c021001b001101c1829d390611d903c58152c1831002892f063821d803c41e610460001858001c31c061001291b003b45c191a5c4102c15
def FV (a0:VC):=aG (vR a0)
def nT:aj:=vR ir
def FI:=bX nT (FV ir)
def jy:VC:=bi [] 0x13ff3d02260041af6e0315e93b062a10198611019c1bd001a91ca051442f13055b90002001b1d018d004101b183f3d3b392d163000202630418e1ae02101c912958f005892d04fb3f0201c038101a03800186384ed1c902261c33f03c7f004201b103f1300202640460001861c10581b80019c6e05100023f01101600193d13040262a204604c19c001b819804100
def uD:=aG jy
def jA:VC:=bi [] 0x16ad4902260041cb28d03146012d4c5a105861018860001861c10581cc0019c001cc0019c001910222610460001861c10581cc001aa2cc0510442f130518bf0002001b1d018d004101b18493b392d153000202630418e2b802102bd129188f0018892d02a012d5a6810582028038101e038001c1a387ed2bd061c21de03c7f004001cc0019c201e1002246181a5291874c048482711a067001801a71d1605a1cc40219c2026002e261046000184a041c1b1003602191b18493b1330040262a204604c19c001cc1fa04100
def uA:=aG jA
abbrev l9:=Rg [A 104 12,A 105 10,A 6 104,A 7 105,C 8 (Q 0)]
def yZ (a0 a1 a2:VC):aj:=aP [a0,a1,a2] 0x152701b18061330171a02602201100013071a006020011001b1801104502003bb003ad1d07f0019b005101b181130002611dd03c6000184a04e1c31002fd39061c21dc03c0012f879006000184a04e1c51042f13052cd0002001b1d018d004101b182d2b133000202630418e3a021004b1292ab0029d0028f2b0201e038101c038001a18382894b061c2a31db03c19004004a052a181c10024329020002001b001f185c510281e1c33
def Iu (a0 a1 a2:VC):=aG (yZ a0 a1 a2)
def qS:aj:=yZ jy jA l9
def ID:=bX qS (Iu jy jA l9)
def j0:VC:=bi [] 0x12b93b02219805842145181901102e3831430021b1363e30460001861c10584a001a0060001861c10584a0042c0191b001bd1b01d00210160019243143040201d723a4110
def wh:=aG j0
def zR (a0:VC):aj:=aP [a0] 0x155190110023143071a0060200604c41c031004518190110312300262a304604c1a00604c4205100012918602101812
def JX (a0:VC):=aG (zR a0)
def sy:aj:=zR j0
def J2:=bX sy (JX j0)
def km:VC:=bi [] 0x12ab3d0227c05842129d702260042d0031451b181e28291f1d7173000260018862a2380786000184a001c2e0040061003602191b1824230040201d723c4110
def tJ:=aG km
def BC (a0:VC):VC:=bi [a0] 0x12b9290226b02c4211b1802230071a02602006000184a11c1c31018d122d000021b686030181d3920584101600192467153040201d72284110
def K8 (a0:VC):=aG (BC a0)
def kl:VC:=BC km
def nH:=bX kl (K8 km)
def EW (a0:VC):aj:=aP [a0] 0x10247153071a0060200704c1900418310024011002
def QH (a0:VC):=aG (EW a0)
def zm:aj:=EW kl
def Ps:=bX zm (QH kl)
def kE:aj:=aP [] 0x156b19002660461c21df06c1900300510012918602101812
def Ch:=aG kE
def yN:aj:=aP [] 0x152f2d2b3152919b70753804871d66071a00401b420360062a2046101881a000184001b1001291840210612
def Rp:=aG yN
abbrev UG:=[A 44 9,A 45 6,X 46 1 2,M 47 46,V 48 (.bin .shl (Q 1) (.m 47)),P 49 .sub 48 1,L 50 .and 45 49,X 51 1 2,M 52 51,H 53 acy [.m 44,.m 50,.m 52],E 54 53 true 0,E 55 53 false 1,A 4 54,A 5 55]
def Tg:VC:=.regP (.range 14) (.range 14) [] UG
def YX (a0:VC):aj:=aP [a0] 0x155181db1300700199022948d003ff2b0101e038011c1a383f919906381b31e903c2265046427046b005d7801b103ad290611e803c6201a85e6a041038b1f022600462a180460001828101c585a06102cd1d060001861c105819006000182834a1c6104542001b1902105183130002246181a529754c04873961a0771804f700601b283401f1a2036000262041a2801a10045282001b1902105183130002600188611ae03c28051a1831000222902001b20325c4101a1822
def Zw:aj:=YX Tg
def sS:VC:=bi [] 0x119991bb0224a902fc4214518501101b183181bb1b91af3300002246181a1c1e282a2c2e383a291f1f37519f048187393804b71d46065e4026c2027280373911e077001c01b74a14c91a01bb5e1803700601b74a14c9401bb6c20360063840460001864a14c901b85e0060001864a14c901b86c28e02d1b0078d29060001862a10582265044f006000181a201c71041191f1d230020261045828a021004518501101b183185c5e681f1d5300002246181a1c1e2c2e383a3c1c29756804871d31e07581c037001a01b71d11805b5e603700401b1a3201f600754c04873961a0771804f700601b1a3401f5e2036000262045e1ac02b1004d9004bd1d06000182b3f10581d005101600191b183182463300040201d721ba4110
def ED:=aG sS
def sZ:=Rg [V 40 (.ld (some 4) 1 (.s 3)),H 41 fe [.m 40],V 5 (.alloc [O8,O8,O8,O8,O8,O8,O8,O8,O8,O8,O8,O8,O8,O8,O8,O8,O8,O8,O8,O8,O8,O8,O8,O8,O8,O8,O8,O8,O8,O8,O8,O8,O8,O8,O8,O8,O8,O8,O8,O8,O8,O8,O8,O8,O8,O8,O8,O8,O8,O8,O8,O8,O8,O8,O8,O8,O8,O8,O8,O8,O8,O8,O8,O8,O8,O8,O8,O8,O8,O8,O8,O8,O8,O8,O8,O8,O8,O8,O8,O8,O8,O8,O8,O8,O8,O8,O8,O8,O8,O8,O8,O8,O8,O8,O8,O8,O8,O8,O8,O8,O8,O8,O8,O8,O8,O8,O8,O8,O8,O8,O8,O8,O8,O8,O8,O8,O8,O8,O8,O8,O8,O8,O8,O8,O8,O8,O8,O8,O8,O8,O8,O8,O8,O8,O8,O8,O8,O8,O8,O8,O8,O8,O8,O8,O8,O8,O8,O8,O8,O8,O8,O8,O8,O8,O8,O8,O8,O8,O8,O8,O8,O8,O8,O8,O8,O8,O8,O8,O8,O8,O8,O8,O8,O8,O8,O8,O8,O8,O8,O8,O8,O8,O8,O8,O8,O8,O8,O8,O8,O8,O8,O8,O8,O8,O8,O8,O8,O8,O8,O8,O8,O8,O8,O8,O8,O8,O8,O8,O8,O8,O8,O8,O8,O8,O8,O8,O8,O8,O8,O8,O8,O8,O8,O8,O8,O8,O8,O8,O8,O8,O8,O8,O8,O8,O8,O8,O8,O8,O8,O8,O8,O8,O8,O8,O8,O8,O8,O8,O8,O8,O8,O8,O8,O8,O8,O8,O8,O8,O8,O8,O8,O8,O8,O8,O8,O8,O8,O8,O8,O8,O8,O8,O8,O8,O8,O8,O8,O8,O8,O8,O8,O8,O8,O8,O8,O8,O8,O8,O8]),Yd 289 5 41]
def KR (a0 a1:VC):aj:=aP [a0,a1] 0x155501101b183180243300171a0060200704c6000181a219e1c410071807004518501107183180002246181a1c1e2a2c2e383a3c3e4a4c4e4f4d4b2c3755b04872b31c07711b81a03f2e051801b7604f700401b1a3201f600755b04872b31c07711b81a03f2e051801b7604f700401b1a2201f600754d04872b31a077001801b2e3601f700401b1a1201f6000263043b2c0391b0002b1291af001a9142d000000004768101a038011863819b2b0611af03c6000181a01e1c1a1001291800305c310411
def VP (a0 a1:VC):=aG (KR a0 a1)
def DE:aj:=KR sZ sS
def XV:=bX DE (VP sZ sS)
def adq:aj:=aP [] 0x15027002842d61c141d01ec30001ea1e3c51045427002842d0000000004018c31011300224229752a04838274407420360022620440071000129020000000000426831065521
def Kh:VC:=bi [] 0x119b1d0224c02842118d7062a704611eb03c1a050182d005116001931824230040201d721c4110
def Pb (a0:VC):aj:=aP [a0] 0x151a9502d1c021031802230071a00602006000181a001c3100220011001290200305c310411
def Pa:aj:=Pb Kh
abbrev yE:=[B 17 5,B 18 6,B 19 1,V 20 (.ld (some 4) 0 (.s 2)),H 21 qX [.m 20],L 22 .rem 19 21,X 23 1 2,M 24 23,L 25 .add 22 24,B 26 1,V 27 (.ld (some 4) 0 (.s 2)),H 28 qX [.m 27],L 29 .quo 26 28,V 30 (.ia 1 (.m 17) (.m 18)),N (.st 1 (.m 30) (.m 25)),A 1 29]
def py:VC:=.regP (.range 16) [0,1,2,3,4,5,6,7,8,10,11,13,14,9,12,15] [] yE
def xy (a0:VC):VC:=bi [a0] 0x11cb1d02265044f0031071600195181d32300402026604583802100
def Ge (a0:VC):=aG (xy a0)
def kB:VC:=xy py
def xP:=bX kB (Ge py)
def BK (a0:VC):aj:=aP [a0] 0x152fd1904968021051803230071a00619b1d0226504600018280181c410029129791b07702101bc0012f860001828041c51001291b20325c3101812
def Lz (a0:VC):=aG (BK a0)
def tS:aj:=BK kB
def KD:=bX tS (Lz kB)
def lx:VC:=bi [] 0x11ed390225a004216012d2a2e1401b86000181a101c3b2c0511af1901d002101600192423040201d72384110
def ye:=aG lx
def lv:VC:=bi [] 0x13dd7b0227c01884213cf1d063e00462a2101e86101886b006c004f6807138b2906000181d39105831056041924633040201d727a4110
def yg:=aG lv
def ll:VC:=bi [] 0x14df2b0226504791cb0316012d2a2e1401b86000181a101c7a005146192b1300262a19046000181a201c60001862e1401b87a0061b06012d382e1401b822600460001872e1401b87a4061007606192b1304020266047a1bc02100
def xZ:=aG ll
def yb (a0 a1:VC):VC:=bi [a0,a1] 0x169f5d02228f01e8421013171a0664af2b02265046000181a001c4106012d2a2814c901b86101a84f00492c051002433071a0460200704c06102e402ac6000181a04c1c510002001102ab1b01d00210360219318247330040201d725c4110
def IF (a0 a1:VC):=aG (yb a0 a1)
def lc:VC:=yb lv ll
def yS:=bX lc (IF lv ll)
def lD:=Rg [V 1 (.box (.m 0)),V 2 (.alloc [O8,O8,O8,O8,O8,O8,O8,O8,O8,O8,O8,O8,O8,O8,O8,O8,O8,O8,O8,O8,O8,O8,O8,O8,O8,O8,O8,O8,O8,O8,O8,O8,O8,O8,O8,O8,O8,O8,O8,O8,O8,O8,O8,O8,O8,O8,O8,O8,O8,O8,O8,O8,O8,O8,O8,O8,O8,O8,O8,O8,O8,O8,O8,O8,O8,O8,O8,O8,O8,O8,O8,O8,O8,O8,O8,O8,O8,O8,O8,O8,O8,O8,O8,O8,O8,O8,O8,O8,O8,O8,O8,O8,O8,O8,O8,O8,O8,O8,O8,O8,O8,O8,O8,O8,O8,O8,O8,O8,O8,O8,O8,O8,O8,O8,O8,O8,O8,O8,O8,O8,O8,O8,O8,O8,O8,O8,O8,O8,O8,O8,O8,O8,O8,O8,O8,O8,O8,O8,O8,O8,O8,O8,O8,O8,O8,O8,O8,O8,O8,O8,O8,O8,O8,O8,O8,O8,O8,O8,O8,O8,O8,O8,O8,O8,O8,O8,O8,O8,O8,O8,O8,O8,O8,O8,O8,O8,O8,O8,O8,O8,O8,O8,O8,O8,O8,O8,O8,O8,O8,O8,O8,O8,O8,O8,O8,O8,O8,O8,O8,O8,O8,O8,O8,O8,O8,O8,O8,O8,O8,O8,O8,O8,O8,O8,O8,O8,O8,O8,O8,O8,O8,O8,O8,O8,O8,O8,O8,O8,O8,O8,O8,O8,O8,O8,O8,O8,O8,O8,O8,O8,O8,O8,O8,O8,O8,O8,O8,O8,O8,O8,O8,O8,O8,O8,O8,O8,O8,O8,O8,O8,O8,O8,O8,O8,O8,O8,O8,O8,O8,O8,O8,O8,O8,O8,O8,O8,O8,O8,O8,O8,O8,O8,O8,O8,O8,O8,O8,O8,O8])]
def Ct (a0 a1 a2:VC):aj:=aP [a0,a1,a2] 0x15318027330271a0260200611b803c1a051e1831000223171a00602006000181a01c1c31000000000044681100704ca511
def M4 (a0 a1 a2:VC):=aG (Ct a0 a1 a2)
def vH:aj:=Ct lD lx lc
def M6:=bX vH (M4 lD lx lc)
def jK:aj:=aP [] 0x1012961c3831ec06c1900604c0012f83004606102
def AK:=aG jK
def D0:aj:=aP [] 0x1551319b1b063821bd03c60001862814c901b8190060001862814c901b8300181b000129021802101a13
def VF:=aG D0
def sC:aj:=aP [] 0x150219011045221901100261c4041900338031004512190110312300261c2041a0042a03100452219011031230024f280110045121901104502190110024c00110031230024918011007f1d0611ed03c1a603106b1b0611ed03c440310012902602101812
def Kp:=aG sC
def dK:VC:=bi [] 0x11df290226b03a42141b13051d91904900210281f3143002613e07860001861c10584a004001a1a06107f1b01d00210160019243143040201d72284110
def ft:=aG dK
def qd (a0:VC):aj:=aP [a0] 0x1512190110023143071a0060200604c4203100012902602101812
def Bu (a0:VC):=aG (qd a0)
def kf:aj:=qd dK
def qf:=bX kf (Bu dK)
def qE:aj:=aP [] 0x1502001af19061c21d803c190031c05104542001b190210312300224229752a0482e274407420360002620440071000222902001b603101a1822
def IE:=aG qE
def jU:VC:=bi [] 0x179190226004381803118d706427042d40311600196123040261c20440071803100
def wm:=aG jU
def zQ (a0:VC):aj:=aP [a0] 0x1519b502d1e02100123071a00602001100220011001290220210411
def Ka (a0:VC):=aG (zQ a0)
def r9:aj:=zQ jU
def J7:=bX r9 (Ka jU)
def nb:aj:=aP [] 0x15020029d0028f1906b001f8265045d3c061042b13051fb000200021907900410291f230020263046f28021002d1291d9001cb001bd1f0201e038101c038001a18381af2d061c2a31db03c190030001ee183c1c100243290200020002604101c1a1832
def EC:=aG nb
def nV:aj:=aP [] 0x151a2001c20042503104562001820022503100231841e61046000181a001c31000024329020002000200305c510186431
def Fe:=aG nV
abbrev oj:=[B 14 0,V 15 (.nilck (.m 14)),V 16 (.fa 0 (.m 15)),M 17 16,B 18 0,V 19 (.nilck (.m 18)),V 20 (.fa 1 (.m 19)),M 21 20,A 22 1,H 23 fh [.m 17,.m 21,.m 22],A 13 23,E 24 13 false 0,E 25 13 false 1,E 26 13 false 2,A 5 24,A 6 25,A 7 26]
def iT:VC:=.regP (.range 17) [0,1,2,3,4,5,6,7,8,9,10,11,14,12,15,13,16] [] oj
def pY (a0:VC):aj:=aP [a0] 0x153c9190490021041d12301c012d6101c1c07c4f0030051020261045d0021001c012d6201c1c07c5e0045c05103b130700450219011031230020263046000186201c607c4605100012902602101812
def BI (a0:VC):=aG (pY a0)
def j9:aj:=pY iT
def Bm:=bX j9 (BI iT)
def iB:VC:=bi [] 0x15db3f02260041bd1ef0316012d19c401c62a10198611019c1cb0061001819c41e81c7146eb49062a504611c803c1b8001cb005102638604611c803c2265041b8001cc1be051005fd49061c21cb06c1b8004404101600193f3d133040262a20460001819c101c1be1dc04100
def sF:=aG iB
abbrev sK:=[V 79 (.ld (some 5) 0 (.s 12)),A 80 13,V 81 (.ld (some 5) 0 (.s 12)),H 82 nR [.m 81],V 83 (.binb false (.m 80) (.m 82)),Yd 5 6 79,A 7 83]
def kJ:VC:=.regP (.range 7) [0,2,3,5,1,4,6] [] sK
def wv (a0 a1:VC):aj:=aP [a0,a1] 0x15618170002133071a0060200110058f3d061c21ef03c1aa001f19c04104ed3b022610422621cb06c4004106012d19c201c22610422621cb06c419a051045391851f005852d19c160183100512300202610460001819c118a1c3100453918181f005852d19c160183100512300261c40418d0060001819c101c41006012d19c101c61c21cb06c7f004005106012d19c001c61c21cb06c790043e05102cd152d322000053968613132200005018c283c041041e22f0112f13002191841e61046000183c02e1c31000382001104b422928f00289001fb290201a03810180380064381ed4b0611ca03c3c052c181a1001291800322000052681965c4101e61d23
def FN (a0 a1:VC):=aG (wv a0 a1)
def nZ:aj:=wv iB kJ
def n9:=bX nZ (FN iB kJ)
def Hr:aj:=aP [] 0x154f5060001861c1058300024242224222220222022202021d1019c51001290220210411
def EB:VC:=bi [] 0x17f1902260043b1a0311df7065a70422600462a504611fa03c400611f903c4002d4019116001918123040262a204611da03c40071804100
def HN (a0:VC):aj:=aP [a0] 0x151ed502d3c02100123071a00602001100220011001290220210411
def Ib:aj:=HN EB
def jt:VC:=bi [] 0x128f2902260046b4e0313cf3061c1d04580019780413ad1f061c00479005d6a04138b1f061c50479005d0041020262047a4c021002cd2b063800461c1b0458001a004a40610160019291d1b3153040262a204611da03c4006c4804100
def uZ:=aG jt
def yy (a0:VC):aj:=aP [a0] 0x153dd1905d7c02100463153071a0060200110002001101cb1d022600461c5044a00611f903c41c061018d1b0611fa03c41a0310012902602101812
def HI (a0:VC):=aG (yy a0)
def qF:aj:=yy jt
def HE:=bX qF (HI jt)
def Cr:VC:=bi [] 0x12891b062a10198611019c5800492e0511d91d063e00461c2a31fc03c4f001a004004d00710160191a3133040262a204611fb03c1a001d1e04100
def Er (a0:VC):aj:=aP [a0] 0x1528f190493e021003133071a006002001105d1b00211419c21001291b602101812
def Eu:aj:=Er Cr
def kz:VC:=bi [] 0x12891b022600449480312b97062a10198611019c3c002d40513602191b13040264c20460001861c10583c006000181a301c4a3807100
def xR:=aG kz
def xr (a0:VC):VC:=bi [a0] 0x119b1902260043b1a031013071a026021b0110160019193230402638204604c6000181a301c1d1a05100
def GP (a0:VC):=aG (xr a0)
def kt:VC:=xr kz
def xw:=bX kt (GP kz)
def BD (a0:VC):aj:=aP [a0] 0x152bf502d5a02100323071a006020011001b0011001291b00305c310411
def KV (a0:VC):=aG (BD a0)
def tv:aj:=BD kt
def LB:=bX tv (KV kt)
def sm:aj:=aP [] 0x154250110452250110023826104340210045182501101130021a26204400210001290220210411
def J1:=aG sm
def iI:VC:=bi [] 0x149b2b02260047900314019022261047f19c021003eb5018d7e021043913053dd000200021d019b004107182f2d2b343000202630419c68021007d1293bb003ad0039f2d0201c038101a03800186383997d02261c33f03c1f001a5c01b1045282000200021d03107182b533300022a264047a6e0210016
def tF:=aG iI
abbrev lm:=Rg [B 79 19,X 80 2 3,M 81 80,V 82 (.len (.m 81)),L 83 .geq 79 82]
abbrev lG:=Rg [C 6 (Q 0),C 7 (Q 0),C 8 (Q 8)]
abbrev lh:=Rg [X 84 2 3,M 85 84,A 86 19,V 87 (.ia 1 (.m 85) (.m 86)),M 88 87,A 89 17,A 6 88,A 7 89,C 8 (Q 0)]
def xI (a0 a1 a2 a3:VC):aj:=aP [a0,a1,a2,a3] 0x157183700452707180423007ed217007af4f061c0041cb00638704611c803c6000182e101c22650461c0041a900611c803c791ee01c1b044d13056ad000200021d01df004107184b493b2b4300020263041e81bc021001e912968b005fd005ef4902028038101e038001c1a385e91e9062a3833f03c6000182e101c1af00191c801d1043f130559d000200021d01bd004107183d3b2b34300020263041be19a021001bb1294fb004ed004df3b0201e038101c038001a18384d91bb061c2a33f03c7a001f001a19801c10071a06002001104542000200021d03107185323000224618429753e04872b418077604f1a40328203600026204282e019100024329020002000240345c510281e1c33
def Hh (a0 a1 a2 a3:VC):=aG (xI a0 a1 a2 a3)
def pc:aj:=xI iI lm lG lh
def GJ:=bX pc (Hh iI lm lG lh)
abbrev yj:=[B 20 0,H 21 zK [.m 20],B 22 1,B 23 5,L 24 .rem 22 23,L 25 .add 21 24,V 26 (.mks 1 [.m 25]),A 27 6,V 28 (.app 1 (.m 26) (.m 27)),A 6 28]
def pr:VC:=.regP (.range 10) (.range 10) [] yj
def xu (a0:VC):VC:=bi [a0] 0x11ed1f02260045d480312fd3061c1d044a00192e0410701600191f1b3143040262a204611da03c4005b3a04100
def Gy (a0:VC):=aG (xu a0)
def ku:VC:=xu pr
def xh:=bX ku (Gy pr)
def Bw (a0:VC):aj:=aP [a0] 0x1538b1904f680210043143071a006020011001b001101a91b022600462a504611fa03c400611f903c46071001291b602101812
def KS (a0:VC):=aG (Bw a0)
def tn:aj:=Bw ku
def La:=bX tn (KS ku)
def FO:aj:=aP [] 0x154950026204611fa03c30041001291820210411
def gL:VC:=bi [] 0x145282000200021903101f313300228264045e5a02102db1f02260045d003104019020261046b5e021002ab30794a021042d130529d000200021907f004102b291f1430020263041882c021003d1291fb001ed001df290201c038101a03800186381d93d02261c33f03c190043c01b1016
def rg:=aG gL
def uO (a0:VC):aj:=aP [a0] 0x154af004a90049b1901a90019b00638004611c803c18260045d0018d6c01a107f1293dd003cf003c92f02028038101e038001c1a383bb7f062a3833f03c18260045e00190036801d10071a06002001100243290200020002604101c1a1832
def Et (a0:VC):=aG (uO a0)
def nh:aj:=uO gL
def En:=bX nh (Et gL)
def eI:VC:=bi [] 0x11df290226b03a42141b13051d91904900210281f3143002613e07860001861c10584a004001a1a06107f1b01d00210160019243143040201d72284110
def gM:=aG eI
def u6 (a0:VC):aj:=aP [a0] 0x1512190110023143071a0060200604c4203100012902602101812
def Em (a0:VC):=aG (u6 a0)
def mO:aj:=u6 eI
def vp:=bX mO (Em eI)
def Qz:aj:=aP [] 0x155d50611fe03c360310454950611fd03c6301a8300410182001290220210411
def acN:aj:=aP [] 0x1502002bf1d063821ff06c61c228906c1f0019006128803c33a018104542001b1d021053133002246181e28629753e0480273180771d18607284031a203600752a04802724071a203600600188615b03c28001e1000222902001b1a03101e1c23
def XR:aj:=aP [] 0x15046c2d64681c45c2a4583844c3e4484c43c4f4384942c3b4282d41c1f41819441c000000000000000000000000000000000000000000000000000000000000000000000000000000000000000000000000000000006c018c02131f82121ef21122104000000004018c421348212021142104000000004018c421338212021142104000000004018c221338212021142104000000004018c42131e212021142104000000004018c22131e212021142104000000004018c221318212721142104000000004018c021318212721142104000000004018c221342120211182104000000004018c021342120211182104000000004018c221322121211182104000000004018c021322121211182104000000004018c1e10000000000000000000000000000000000000000000000000000000000000000000000000000000000000000000000000000000006c1681106d110
def w9:aj:=aP [] 0x152186b5022600462a5046000181a101c6000181a201c710001290200305c310411
def OM:=aG w9
def fD:VC:=bi [] 0x128f29061c00458006b380411ed1f06c00210012961c2a38428a06c280069005d00400610160191a13040261c19041a002b2c03100
def oe:=aG fD
def fB:VC:=bi [] 0x14cb29062a00464270458006b19a05149b1f06c00210012961c2a4c5a528b06c28006c0061c00458005d005e004001910564192913040261c19041a006c18803100
def oi:=aG fB
def oq (a0:VC):VC:=bi [a0] 0x15ef1d04267044f003142b1f230012961c2a383e528b06c28001a0079005d00400710261c2041a007a1ac03104ed2b061c00458005e1a804100013071a046038b00021f06427045800410362191d53143040261c2041a00586e03100
def zA (a0:VC):=aG (oq a0)
def fE:VC:=oq fB
def ot:=bX fE (zA fB)
def q9 (a0 a1:VC):aj:=aP [a0,a1] 0x11d53143171a026012961c2a38428a06c28001a005d0043c0610013071a00607f00021f039603105821a011003
def Cc (a0 a1:VC):=aG (q9 a0 a1)
def kL:aj:=q9 fD fE
def BM:=bX kL (Cc fD fE)
def vQ:aj:=aP [] 0x15495061c30430040041001291820210411
def MP:=aG vQ
def DB:VC:=bi [] 0x179502260041f290316012d1a201c64c1019862a21019c61f82004280061f8250428006100181a201c1a16012d3e5a1058226004604c6000181a201c61f8200428006000181a301c1a106012d384c1058604c6000181a201c61f8250428006000181a341c191016001951304021f8261904281a02100
def Hq (a0:VC):aj:=aP [a0] 0x153180442d1a1518a182100013071a0062200110049142d33000043686131c123821033300004018c3ea23ea202101bc0012f81f8211419c51033000041681105110
def Gt:aj:=Hq DB
def H8:aj:=aP [] 0x157f1903e1802104791b02265042a0031021920110041821b01121300230011006200110012902602101812
def iw:VC:=bi [] 0x11a91902260043b2a031451850110318197230002246181a1c1e729756804871d61e072e1c037001a01b71d11805b3c603700401b1a4201f60062a2046101882e0060001861c10583c006000181a441c2a101600193181972300402638204604c6000181a401c2b1c05100
def sR:=aG iw
def wB (a0:VC):aj:=aP [a0] 0x1555011031802230071a00602001100418270116130026000181a321c2100420011001291800305c310411
def Ff (a0:VC):=aG (wB a0)
def nX:aj:=wB iw
def FE:=bX nX (Ff iw)
def HO:aj:=aP [] 0x154f5060001861c10583001f824823823821e21e218218242422222021d1019c51001290220210411
def JY:aj:=aP [] 0x154f5060001861c10583001ef20202020202727202021212021d1019c51001290220210411
def Gq:aj:=aP [] 0x1518882501104518825011002300110001290220210411
def IQ:aj:=aP [] 0x155132b91d063e2001e861c5042800611fb03c19006182004618270461c1d045d0061c7045a00281a01d1b001a92906620044261d0462e2504340510428821f0114130021a20110018882001100129021a02101c13
abbrev HZ:=Rg [A 13 2,A 14 0,V 15 (.conv .u8 (.m 14)),V 16 (.ixs (.c (.d (.str [0,1,2,2,3,3,3,3,4,4,4,4,4,4,4,4,5,5,5,5,5,5,5,5,5,5,5,5,5,5,5,5,6,6,6,6,6,6,6,6,6,6,6,6,6,6,6,6,6,6,6,6,6,6,6,6,6,6,6,6,6,6,6,6,7,7,7,7,7,7,7,7,7,7,7,7,7,7,7,7,7,7,7,7,7,7,7,7,7,7,7,7,7,7,7,7,7,7,7,7,7,7,7,7,7,7,7,7,7,7,7,7,7,7,7,7,7,7,7,7,7,7,7,7,7,7,7,7,8,8,8,8,8,8,8,8,8,8,8,8,8,8,8,8,8,8,8,8,8,8,8,8,8,8,8,8,8,8,8,8,8,8,8,8,8,8,8,8,8,8,8,8,8,8,8,8,8,8,8,8,8,8,8,8,8,8,8,8,8,8,8,8,8,8,8,8,8,8,8,8,8,8,8,8,8,8,8,8,8,8,8,8,8,8,8,8,8,8,8,8,8,8,8,8,8,8,8,8,8,8,8,8,8,8,8,8,8,8,8,8,8,8,8,8,8,8,8,8,8,8,8,8,8,8,8,8]))) (.m 15)),V 17 (.conv .i64 (.m 16)),L 18 .add 13 17,A 2 18]
def MR (a0:VC):aj:=aP [a0] 0x15070419b5028260041f2c0317f10283d6180430031002188848660441802100448220114f10483d6180430031041300248888848660440021000220110411
def Na:aj:=MR HZ
abbrev Hj:=Rg [A 19 2,A 20 0,V 21 (.conv .u8 (.m 20)),V 22 (.ixs (.c (.d (.str [0,1,2,2,3,3,3,3,4,4,4,4,4,4,4,4,5,5,5,5,5,5,5,5,5,5,5,5,5,5,5,5,6,6,6,6,6,6,6,6,6,6,6,6,6,6,6,6,6,6,6,6,6,6,6,6,6,6,6,6,6,6,6,6,7,7,7,7,7,7,7,7,7,7,7,7,7,7,7,7,7,7,7,7,7,7,7,7,7,7,7,7,7,7,7,7,7,7,7,7,7,7,7,7,7,7,7,7,7,7,7,7,7,7,7,7,7,7,7,7,7,7,7,7,7,7,7,7,8,8,8,8,8,8,8,8,8,8,8,8,8,8,8,8,8,8,8,8,8,8,8,8,8,8,8,8,8,8,8,8,8,8,8,8,8,8,8,8,8,8,8,8,8,8,8,8,8,8,8,8,8,8,8,8,8,8,8,8,8,8,8,8,8,8,8,8,8,8,8,8,8,8,8,8,8,8,8,8,8,8,8,8,8,8,8,8,8,8,8,8,8,8,8,8,8,8,8,8,8,8,8,8,8,8,8,8,8,8,8,8,8,8,8,8,8,8,8,8,8,8,8,8,8,8,8,8]))) (.m 21)),V 23 (.conv .i64 (.m 22)),L 24 .add 19 23,A 2 24]
def M9 (a0:VC):aj:=aP [a0] 0x1507041df5028260041f480311cb10283d618043003100218883d660442c02100419b5048260041f2c0317f10483d61804300310024888883d6604418021004188220114f101883d618043003104130021888888888883d660440021000220110411
def MT:aj:=M9 Hj
def Bo:VC:=bi [] 0x15d18011
def BG:VC:=bi [] 0x101f12d62a10198611019c380028101e185116
def D1 (a0 a1:VC):aj:=aP [a0,a1] 0x1519b1901f101a1821001317077101c0061920110001291b20325c3101812
def DV:aj:=D1 Bo BG
def HP:aj:=aP [] 0x1128411
def Zt:aj:=aP [] 0x15491901f1c2028c01ac21001292f001905c325c4101812
abbrev kq:=[B 18 9,B 19 1,L 20 .gtr 18 19,A 21 20,W 21 22 (.mov (.s 3)),W 21 23 (.mov (.s 0)),W 21 24 (.mov (.s 9)),W 21 25 (.ia 1 (.s 23) (.s 24)),W 21 26 (.ld none 0 (.s 25)),W 21 27 (.mov (.s 0)),W 21 28 (.mov (.s 9)),W 21 29 (.bin .sub (.s 28) (Q 1)),W 21 30 (.ia 1 (.s 27) (.s 29)),W 21 31 (.ld none 0 (.s 30)),W 21 32 (.callv (.s 22) [.s 26,.s 31]),W 21 33 (.bin .lss (.s 32) (Q 0)),V 34 (.pick (.s 21) (.s 33) ff)]
def fI:VC:=.regP (.range 17) (.range 17) [] kq
abbrev kx:=[B 37 0,B 38 9,B 39 0,B 40 9,P 41 .sub 40 1,B 42 0,B 43 9,P 44 .sub 43 1,V 45 (.ia 1 (.m 42) (.m 44)),M 46 45,B 47 0,B 48 9,V 49 (.ia 1 (.m 47) (.m 48)),M 50 49,V 51 (.ia 1 (.m 37) (.m 38)),N (.st 1 (.m 51) (.m 46)),V 52 (.ia 1 (.m 39) (.m 41)),N (.st 1 (.m 52) (.m 50))]
def fK:VC:=.regP (.range 18) [0,1,5,6,7,8,9,10,11,12,13,14,15,2,3,4,16,17] [] kx
def ke (a0 a1:VC):VC:=bi [a0,a1] 0x13bb2b02265047918c031173602192b130439f218b1897f7d7b796f6d6b695f5d5b1d307000
def tI (a0 a1:VC):=aG (ke a0 a1)
def dM:VC:=ke fI fK
def kj:=bX dM (tI fI fK)
def kh (a0:VC):VC:=bi [a0] 0x11cb2902260045a1a031013071a0261d92b06c402101600191c753153040261c2042800392e03100
def tA (a0:VC):=aG (kh a0)
def dO:VC:=kh dM
def kb:=bX dO (tA dM)
def lK (a0:VC):aj:=aP [a0] 0x10753153071a00618d2902260041a2a031004
def wb (a0:VC):=aG (lK a0)
def gF:aj:=lK dO
def vV:=bX gF (wb dO)
abbrev nE:=[B 40 4,B 41 0,B 42 12,V 43 (.ia 1 (.m 41) (.m 42)),M 44 43,B 45 0,B 46 1,V 47 (.ia 1 (.m 45) (.m 46)),M 48 47,V 49 (.callv (.m 40) [.m 44,.m 48]),P 50 .lss 49 0]
def iE:VC:=.regP (.range 11) (.range 11) [] nE
def mC (a0:VC):VC:=bi [a0] 0x15892f019b1ac0212f1304fb2d022600419b19c03141304df20703dd3906001a823d618046201a861c00418e0018800710160192f1923040261c20418e001887c03100
def xW (a0:VC):=aG (mC a0)
def eR:VC:=mC iE
def mF:=bX eR (xW iE)
abbrev mo:=[B 61 0,B 62 13,B 63 0,B 64 13,P 65 .add 64 1,B 66 0,B 67 13,P 68 .add 67 1,V 69 (.ia 1 (.m 66) (.m 68)),M 70 69,B 71 0,B 72 13,V 73 (.ia 1 (.m 71) (.m 72)),M 74 73,V 75 (.ia 1 (.m 61) (.m 62)),N (.st 1 (.m 75) (.m 70)),V 76 (.ia 1 (.m 63) (.m 65)),N (.st 1 (.m 76) (.m 74))]
def gZ:VC:=.regP (.range 18) [0,1,5,6,7,8,9,10,11,12,13,14,15,2,3,4,16,17] [] mo
def mu (a0:VC):VC:=bi [a0] 0x15db3b02260041a90031073602193b2d133040262a204226504188001aa1dc04100
def xT (a0:VC):=aG (mu a0)
def eW:VC:=mu gZ
def mA:=bX eW (xT gZ)
abbrev mH:=[B 92 4,B 93 0,B 94 2,V 95 (.ia 1 (.m 93) (.m 94)),M 96 95,B 97 0,B 98 16,V 99 (.ia 1 (.m 97) (.m 98)),M 100 99,V 101 (.callv (.m 92) [.m 96,.m 100]),P 102 .lss 101 0,V 103 (.un .not (.m 102))]
def gR:VC:=.regP (.range 12) (.range 12) [] mH
def mB (a0:VC):VC:=bi [a0] 0x119ff3f01cb2ee0213f13019f93d02260041cb2de031413019dd207018cd4906001a823d618046201a861c0041be001b800710564193f1923040261c2041be001b82cc03100
def xU (a0:VC):=aG (mB a0)
def eY:VC:=mB gR
def mw:=bX eY (xU gR)
abbrev mG:=[B 113 0,B 114 17,B 115 0,B 116 17,P 117 .sub 116 1,B 118 0,B 119 17,P 120 .sub 119 1,V 121 (.ia 1 (.m 118) (.m 120)),M 122 121,B 123 0,B 124 17,V 125 (.ia 1 (.m 123) (.m 124)),M 126 125,V 127 (.ia 1 (.m 113) (.m 114)),N (.st 1 (.m 127) (.m 122)),V 128 (.ia 1 (.m 115) (.m 117)),N (.st 1 (.m 128) (.m 126))]
def hU:VC:=.regP (.range 18) [0,1,5,6,7,8,9,10,11,12,13,14,15,2,3,4,16,17] [] mG
def my (a0:VC):VC:=bi [a0] 0x11acb4b02265041d90031077606194b3d133040261c4041b8001da3ae03100
def xX (a0:VC):=aG (my a0)
def eK:VC:=my hU
def mI:=bX eK (xX hU)
abbrev mz:=[B 158 4,B 159 0,B 160 22,B 161 23,L 162 .sub 160 161,V 163 (.ia 1 (.m 159) (.m 162)),M 164 163,B 165 0,B 166 23,V 167 (.ia 1 (.m 165) (.m 166)),M 168 167,V 169 (.callv (.m 158) [.m 164,.m 168]),P 170 .lss 169 0,V 171 (.un .not (.m 170))]
def gU:VC:=.regP (.range 14) (.range 14) [] mz
def mt (a0:VC):VC:=bi [a0] 0x128af5b029d4ea0215b13028a959022600429d4d80316130288d20701ee95f06001a823d618046201a861c00428a001fc0071019618195d5b23040261c20428a001fc4d803100
def xY (a0:VC):=aG (mt a0)
def eV:VC:=mt gU
def mp:=bX eV (xY gU)
def oL (a0 a1 a2 a3 a4:VC):aj:=aP [a0,a1,a2,a3,a4] 0x14694d1971530012961c2a383e528b06c3b002d002ab001df0030071022463291873804871d26062e4022ac20260061c2042ac001e80019104593230012961c2a383e528b06c3c001e8001fb00190040071022463291873804871d26061e84021fc20260061c2041fc001a001910045130012961c2a383e528d06c3c002ac001f001fc0040071022463291873804871d26062ac4022820260061c20428001fc4ea01910028d969061c5041fc001ed4e804100223471a018601dfb5d02265041ee3fa03101ddf5b0283fa0211dd95901a3ee02101dcb5b01e83ee0211dbd59061c5042e001ee004100261c4041e800283d80310002229020002003101cf94f061c00428001e83d804101ccf4d06001a823d618046201a861c0042e001a3be07104506133371a0661a8d4b01f2ee0210001923271a04607df3f02828e02107d93d0190021071300222610461c50428002e1fe041004506133171a02658f3b0191ac0210001923071a00602ef2f02d4e02102e92d01f002100222610461c5041a0028680410005
def Ag (a0 a1 a2 a3 a4:VC):=aG (oL a0 a1 a2 a3 a4)
def jM:aj:=oL eR eW eY eK eV
def di:=bX jM (Ag eR eW eY eK eV)
def Pg:VC:=bi [] 0x17f1902265043b2b03145195133002600188614c0786101a82261c0461c18043c002800018440181016001918513304020266042b1c02100
def UW (a0:VC):aj:=aP [a0] 0x104133071a0064f1902265041900181831003
def UQ:aj:=UW Pg
def fC:VC:=bi [] 0x14d92f061c5041880018d0041012961c2a6818a528e06c3c001880061c5041880061c00418e00280061c50418800280046801d1039f2d061c50418e007f0041012961c2a385a528e06c3c0018e00280061c50418800280040019100261c40418b0018800310160192a13040261c3046900694a03100
def zx:=aG fC
def rS (a0:VC):aj:=aP [a0] 0x1012961c2a385a528e06c3b007f001f0061c504188002800319c0191013071a00601d92f061c50428002d1804101af2d061c5041900282e041005
def BS (a0:VC):=aG (rS a0)
def kM:aj:=rS fC
def Cj:=bX kM (BS fC)
abbrev mJ:=[B 16 0,B 17 1,B 18 10,L 19 .add 17 18,B 20 0,B 21 2,B 22 10,L 23 .add 21 22,B 24 0,B 25 2,B 26 10,L 27 .add 25 26,V 28 (.ia 1 (.m 24) (.m 27)),M 29 28,B 30 0,B 31 1,B 32 10,L 33 .add 31 32,V 34 (.ia 1 (.m 30) (.m 33)),M 35 34,V 36 (.ia 1 (.m 16) (.m 19)),N (.st 1 (.m 36) (.m 29)),V 37 (.ia 1 (.m 20) (.m 23)),N (.st 1 (.m 37) (.m 35))]
def gW:VC:=.regP (.range 24) [0,1,2,3,8,9,10,11,12,13,14,15,16,17,18,19,20,21,4,5,6,7,22,23] [] mJ
def mb (a0:VC):VC:=bi [a0] 0x11bd2d0226004380031071600196753153040261c2042e0072c03100
def xa (a0:VC):=aG (mb a0)
def et:VC:=mb gW
def l7:=bX et (xa gW)
def om (a0:VC):aj:=aP [a0] 0x10753153071a006022a01101913005
def zy (a0:VC):=aG (om a0)
def jk:aj:=om et
def zC:=bX jk (zy et)
def ahT:T:=(.node 69 qN (.node 36 lB (.node 19 Fi (.node 11 E7 (.node 7 Fc (.node 5 so (.node 4 LX (.node 3 mP .leaf .leaf) .leaf) (.node 6 qA .leaf .leaf)) (.node 9 Dx (.node 8 Iv .leaf .leaf) (.node 10 Fa .leaf .leaf))) (.node 15 FQ (.node 13 Fz (.node 12 Fn .leaf .leaf) (.node 14 Ic .leaf .leaf)) (.node 17 FA (.node 16 I1 .leaf .leaf) (.node 18 Fw .leaf .leaf)))) (.node 28 Ay (.node 24 E8 (.node 22 BQ (.node 21 Fd (.node 20 FC .leaf .leaf) .leaf) (.node 23 Al .leaf .leaf)) (.node 26 I2 (.node 25 DR .leaf .leaf) (.node 27 yw .leaf .leaf))) (.node 32 sn (.node 30 qr (.node 29 sB .leaf .leaf) (.node 31 sc .leaf .leaf)) (.node 34 qu (.node 33 qG .leaf .leaf) (.node 35 oQ .leaf .leaf))))) (.node 53 yK (.node 45 si (.node 41 mK (.node 39 jP (.node 38 qU (.node 37 qB .leaf .leaf) .leaf) (.node 40 lC .leaf .leaf)) (.node 43 D5 (.node 42 Ad .leaf .leaf) (.node 44 AI .leaf .leaf))) (.node 49 Fp (.node 47 Ek (.node 46 DM .leaf .leaf) (.node 48 Dy .leaf .leaf)) (.node 51 z8 (.node 50 Co .leaf .leaf) (.node 52 tX .leaf .leaf)))) (.node 61 Fx (.node 57 Fr (.node 55 Ac (.node 54 yp .leaf .leaf) (.node 56 BW .leaf .leaf)) (.node 59 LU (.node 58 Ae .leaf .leaf) (.node 60 RF .leaf .leaf))) (.node 65 oP (.node 63 UR (.node 62 BX .leaf .leaf) (.node 64 vL .leaf .leaf)) (.node 67 iJ (.node 66 Jf .leaf .leaf) (.node 68 wU .leaf .leaf)))))) (.node 102 Ib (.node 86 DE (.node 78 qo (.node 74 qp (.node 72 pn (.node 71 qM (.node 70 su .leaf .leaf) .leaf) (.node 73 r8 .leaf .leaf)) (.node 76 sj (.node 75 qL .leaf .leaf) (.node 77 pF .leaf .leaf))) (.node 82 zm (.node 80 qS (.node 79 nT .leaf .leaf) (.node 81 sy .leaf .leaf)) (.node 84 yN (.node 83 kE .leaf .leaf) (.node 85 Zw .leaf .leaf)))) (.node 94 kf (.node 90 vH (.node 88 Pa (.node 87 adq .leaf .leaf) (.node 89 tS .leaf .leaf)) (.node 92 D0 (.node 91 jK .leaf .leaf) (.node 93 sC .leaf .leaf))) (.node 98 nV (.node 96 r9 (.node 95 qE .leaf .leaf) (.node 97 nb .leaf .leaf)) (.node 100 nZ (.node 99 j9 .leaf .leaf) (.node 101 Hr .leaf .leaf))))) (.node 119 H8 (.node 111 mO (.node 107 pc (.node 105 tv (.node 104 Eu (.node 103 qF .leaf .leaf) .leaf) (.node 106 sm .leaf .leaf)) (.node 109 FO (.node 108 tn .leaf .leaf) (.node 110 nh .leaf .leaf))) (.node 115 w9 (.node 113 acN (.node 112 Qz .leaf .leaf) (.node 114 XR .leaf .leaf)) (.node 117 vQ (.node 116 kL .leaf .leaf) (.node 118 Gt .leaf .leaf)))) (.node 127 DV (.node 123 Gq (.node 121 HO (.node 120 nX .leaf .leaf) (.node 122 JY .leaf .leaf)) (.node 125 Na (.node 124 IQ .leaf .leaf) (.node 126 MT .leaf .leaf))) (.node 131 jM (.node 129 Zt (.node 128 HP .leaf .leaf) (.node 130 gF .leaf .leaf)) (.node 133 kM (.node 132 UQ .leaf .leaf) (.node 134 jk .leaf .leaf)))))))
def prog:Nat->W_:=ahT.look
section
abbrev rP (r:VC)(l:Q_)(e:aK):Prop:=∀{h:ak}{n:Nat},(Dn prog).code r ⟨e,⟨h,n⟩⟩=ew (mY prog l e ⟨h,n⟩)
def oW {p g:C_}{o:Q_}{l:Q_}{e:aK}(a:oM e o=true:=by kernel_rfl)(b:(p.all λi=>decide (i<o.length))=true:=by kernel_rfl)(c:p.filterMap (λi=>o[i]?)=l:=by kernel_rfl):rP (.regP p g [] o) l e:=abT a b (by rw[c])
variable {x0 x1 x2 x3 x4 x5 x6 x7 x8 x9 x10 x11 x12 x13 x14 x15 x16 x17 x18 x19 x21:AV}{y0 y1 y2 y3 y5 y6 y7 y8 y9 y10 y11 y12 y13 y14 y15 y16 y17 y18 y19 y20 y21 y22 y23 y32 y33 y46 y47 y80 y81:D}{h:ak}{n:Nat}
@[simp] theorem akD:(Dn prog).code Dv ⟨[(10,x10),(11,x11),(12,x12)],⟨h,n⟩⟩=ew (bA (dL [O,O8,O8,O,.nl,.nl,.nl,.nl,.nl] []) λa1=>bA (fw ((dG (cI x12++[]) h)) none (share x12)) λa2=>bA (storeAt h 9 (share x10) (firm (.agg a1))) λh3=>cX (c4 (((cI x12++[])++[])) h h3) <|bA (storeAt h3 1 (share x11) (O)) λh4=>cX (c4 (((cI x12++[])++[])) h3 h4) <|bA (storeAt h4 1 (share x12) (firm a2)) λh5=>some ⟨[(10,x10),(11,x11),(12,x12)],⟨h5,n⟩⟩):=dX rfl rfl (by kernel_rfl)
@[simp] theorem akA:(Dn prog).code DI ⟨[(10,x10),(11,x11),(12,x12)],⟨h,n⟩⟩=ew (bA (dL [O,O8,O8,O,.nl,.nl,.nl,.nl,.nl] []) λa1=>bA (fw ((dG (cI x12++[]) h)) none (share x12)) λa2=>bA (storeAt h 9 (share x10) (firm (.agg a1))) λh3=>cX (c4 (((cI x12++[])++[])) h h3) <|bA (storeAt h3 1 (share x11) (O)) λh4=>cX (c4 (((cI x12++[])++[])) h3 h4) <|bA (storeAt h4 1 (share x12) (firm a2)) λh5=>some ⟨[(10,x10),(11,x11),(12,x12)],⟨h5,n⟩⟩):=dX rfl rfl (by kernel_rfl)
@[simp] theorem akC:(Dn prog).code Dr ⟨[(10,x10),(11,x11),(12,x12)],⟨h,n⟩⟩=ew (bA (dL [O,O8,O8,O,.nl,.nl,.nl,.nl,.nl] []) λa1=>bA (fw ((dG (cI x12++[]) h)) none (share x12)) λa2=>bA (storeAt h 9 (share x10) (firm (.agg a1))) λh3=>cX (c4 (((cI x12++[])++[])) h h3) <|bA (storeAt h3 1 (share x11) (O)) λh4=>cX (c4 (((cI x12++[])++[])) h3 h4) <|bA (storeAt h4 1 (share x12) (firm a2)) λh5=>some ⟨[(10,x10),(11,x11),(12,x12)],⟨h5,n⟩⟩):=dX rfl rfl (by kernel_rfl)
@[simp] theorem ajc:(Dn prog).code Cn ⟨[(10,x10),(11,x11),(12,x12)],⟨h,n⟩⟩=ew (bA (dL [O,O8,O8,O,.nl,.nl,.nl,.nl,.nl] []) λa1=>bA (fw ((dG (cI x12++[]) h)) none (share x12)) λa2=>bA (storeAt h 9 (share x10) (firm (.agg a1))) λh3=>cX (c4 (((cI x12++[])++[])) h h3) <|bA (storeAt h3 1 (share x11) (O)) λh4=>cX (c4 (((cI x12++[])++[])) h3 h4) <|bA (storeAt h4 1 (share x12) (firm a2)) λh5=>some ⟨[(10,x10),(11,x11),(12,x12)],⟨h5,n⟩⟩):=dX rfl rfl (by kernel_rfl)
@[simp] theorem ajJ:(Dn prog).code wP ⟨[(5,x5),(10,x10),(11,x11),(12,x12),(18,x18),(19,x19)],⟨h,n⟩⟩=ew (bA (fw ((dG (cI x5++[]) h)) none x5) λa1=>bA (fw ((dG (cI x11++[]) h)) none (share x11)) λa2=>bA (fw h none (share x18)) λa3=>bA (nI 0 (share x19)) λa4=>bA (fw h none (firm a4)) λa5=>bP ((Dn prog).call sM [firm a3,firm a5] ⟨h,n⟩) λa6 s7=>cX (c4 (((cI x11++[])++((cI x5++[])++[]))) h s7.heap) <|bA (dI (Dn prog) t8 [firm a1,firm a2,firm a6] s7.heap) λa8=>bA (zY true (firm (firm a8)) 0) λa9=>bA (zY false (Pe (firm (firm a8)) 0) 1) λa10=>bA (zY false (Pe (firm (firm a8)) 0) 2) λa11=>bA (storeAt s7.heap 1 (share x11) (firm a10)) λh12=>bA (storeAt h12 1 (share x12) (firm a11)) λh13=>some ⟨[(10,x10),(11,x11),(12,x12),(18,x18),(19,x19),(20,firm (firm a9)),(84,Pe (firm (firm a8)) 0)],⟨h13,s7.next⟩⟩):=dX rfl rfl (by kernel_rfl)
@[simp] theorem aiM:(Dn prog).code wJ ⟨[(10,x10),(11,x11),(12,x12)],⟨h,n⟩⟩=ew (bA (dL [O,O8,O8,O,.nl,.nl,.nl,.nl,.nl] []) λa1=>bA (fw ((dG (cI x12++[]) h)) none (share x12)) λa2=>bA (storeAt h 9 x10 (firm (.agg a1))) λh3=>cX (c4 (((cI x12++[])++[])) h h3) <|bA (storeAt h3 1 x11 (O)) λh4=>cX (c4 (((cI x12++[])++[])) h3 h4) <|bA (storeAt h4 1 (share x12) (firm a2)) λh5=>some ⟨[(12,x12)],⟨h5,n⟩⟩):=dX rfl rfl (by kernel_rfl)
@[simp] theorem akw:(Dn prog).code Cg ⟨[(10,x10),(11,x11),(12,x12)],⟨h,n⟩⟩=ew (bA (fw h (some 9) (share x10)) λa1=>bA (fw ((dG (cI x11++[]) h)) none (share x11)) λa2=>bA (storeAt h 9 (share x10) (firm a1)) λh3=>cX (c4 (((cI x11++[])++[])) h h3) <|bA (storeAt h3 1 (share x11) (firm a2)) λh4=>bA (storeAt h4 1 (share x12) (O)) λh5=>some ⟨[(10,x10),(11,x11),(12,x12)],⟨h5,n⟩⟩):=dX rfl rfl (by kernel_rfl)
@[simp] theorem aiB:(Dn prog).code BL ⟨[(6,x6),(7,x7),(8,x8)],⟨h,n⟩⟩=ew (bA (fw h (some 4) (share x6)) λa1=>bA (fw ((dG (cI x8++[]) h)) none (share x8)) λa2=>bA (storeAt h 4 (share x6) (firm a1)) λh3=>cX (c4 (((cI x8++[])++[])) h h3) <|bA (storeAt h3 1 (share x7) (O)) λh4=>cX (c4 (((cI x8++[])++[])) h3 h4) <|bA (storeAt h4 1 (share x8) (firm a2)) λh5=>some ⟨[(6,x6),(7,x7),(8,x8)],⟨h5,n⟩⟩):=dX rfl rfl (by kernel_rfl)
@[simp] theorem aia:(Dn prog).code AF ⟨[(6,x6),(7,x7),(8,x8)],⟨h,n⟩⟩=ew (bA (dL [O8,O8,O,.nl] []) λa1=>bA (fw ((dG (cI x8++[]) h)) none (share x8)) λa2=>bA (storeAt h 4 (share x6) (firm (.agg a1))) λh3=>cX (c4 (((cI x8++[])++[])) h h3) <|bA (storeAt h3 1 (share x7) (O)) λh4=>cX (c4 (((cI x8++[])++[])) h3 h4) <|bA (storeAt h4 1 (share x8) (firm a2)) λh5=>some ⟨[(6,x6),(7,x7),(8,x8)],⟨h5,n⟩⟩):=dX rfl rfl (by kernel_rfl)
@[simp] theorem ah1:(Dn prog).code Am ⟨[(6,x6),(7,x7),(8,x8)],⟨h,n⟩⟩=ew (bA (fw h (some 4) (share x6)) λa1=>bA (fw ((dG (cI x7++[]) h)) none (share x7)) λa2=>bA (storeAt h 4 (share x6) (firm a1)) λh3=>cX (c4 (((cI x7++[])++[])) h h3) <|bA (storeAt h3 1 (share x7) (firm a2)) λh4=>bA (storeAt h4 1 (share x8) (O)) λh5=>some ⟨[(6,x6),(7,x7),(8,x8)],⟨h5,n⟩⟩):=dX rfl rfl (by kernel_rfl)
@[simp] theorem ahI:(Dn prog).code AN ⟨[(8,x8),(9,x9),(10,x10)],⟨h,n⟩⟩=ew (bA (fw ((dG (cI x10++[]) h)) none (share x10)) λa1=>bA (storeAt h 1 (share x8) .nl) λh2=>cX (c4 (((cI x10++[])++[])) h h2) <|bA (storeAt h2 1 (share x9) (O)) λh3=>cX (c4 (((cI x10++[])++[])) h2 h3) <|bA (storeAt h3 1 (share x10) (firm a1)) λh4=>some ⟨[(8,x8),(9,x9),(10,x10)],⟨h4,n⟩⟩):=dX rfl rfl (by kernel_rfl)
@[simp] theorem agY:(Dn prog).code yG ⟨[(8,x8),(9,x9),(10,x10)],⟨h,n⟩⟩=ew (bA (fw ((dG (cI x10++[]) h)) none (share x10)) λa1=>bA (storeAt h 1 x8 .nl) λh2=>cX (c4 (((cI x10++[])++[])) h h2) <|bA (storeAt h2 1 x9 (O)) λh3=>cX (c4 (((cI x10++[])++[])) h2 h3) <|bA (storeAt h3 1 (share x10) (firm a1)) λh4=>some ⟨[(10,x10)],⟨h4,n⟩⟩):=dX rfl rfl (by kernel_rfl)
@[simp] theorem agy:(Dn prog).code ze ⟨[(8,x8),(9,x9),(10,x10)],⟨h,n⟩⟩=ew (bA (fw h none (share x8)) λa1=>bA (fw ((dG (cI x9++[]) h)) none (share x9)) λa2=>bA (storeAt h 1 (share x8) (firm a1)) λh3=>cX (c4 (((cI x9++[])++[])) h h3) <|bA (storeAt h3 1 (share x9) (firm a2)) λh4=>bA (storeAt h4 1 (share x10) (O)) λh5=>some ⟨[(8,x8),(9,x9),(10,x10)],⟨h5,n⟩⟩):=dX rfl rfl (by kernel_rfl)
@[simp] theorem afm:(Dn prog).code vG ⟨[(6,x6),(7,x7),(8,x8),(10,x10),(11,x11),(12,.d y12),(13,x13),(15,.d y15),(32,.d y32),(33,.d y33),(46,.d y46),(47,.d y47)],⟨h,n⟩⟩=ew (bA (EE 5 1 (share x11) (A_ 1)) λa1=>bA (fw h none (firm a1)) λa2=>bA (EE 5 1 (share x11) (A_ 2)) λa3=>bA (fw ((dG (cI (firm a3)++[]) h)) none (firm a3)) λa4=>bP (cW (Dn prog) (firm (share x10)) [firm a2] ⟨h,n⟩) λa5 s6=>cX (c4 (((cI (firm a3)++[])++[])) h s6.heap) <|bP (cW (Dn prog) (firm (share x10)) [firm a4] ⟨s6.heap,s6.next⟩) λa7 s8=>bA (dL [O,O,B_ false,B_ false,.nl] [(3,1,.d y15),(0,1,firm a5),(1,1,firm a7)]) λa9=>lA (put s8.heap s8.next (.cells [O,O,B_ false,B_ false,.nl])) λh10=>bA (storeAt h10 5 (.ptr s8.next 0) (firm (.agg a9))) λh11=>some ⟨[(6,x6),(7,x7),(8,x8),(10,x10),(11,x11),(12,.d y12),(13,x13),(15,.d y15),(16,.ptr s8.next 0),(32,.d y32),(33,.d y33),(46,.d y46),(47,.d y47)],⟨h11,s8.next+1⟩⟩):=dX rfl rfl (by kernel_rfl)
@[simp] theorem adk:rP vF Ed [(6,x6),(7,x7),(8,x8),(10,x10),(11,x11),(12,.d y12),(13,x13),(15,.d y15),(16,x16),(17,.d y17),(18,.d y18),(19,.d y19),(32,.d y32),(33,.d y33),(46,.d y46),(47,.d y47),(80,.d y80),(81,.d y81)]:=oW
@[simp] theorem adu:(Dn prog).code vP ⟨[(7,x7),(8,x8)],⟨h,n⟩⟩=ew (bA (fw ((dG (cI x8++[]) h)) none (share x8)) λa1=>bA (storeAt h 1 (share x7) (O)) λh2=>cX (c4 (((cI x8++[])++[])) h h2) <|bA (storeAt h2 1 (share x8) (firm a1)) λh3=>some ⟨[(6,.nl),(7,x7),(8,x8)],⟨h3,n⟩⟩):=dX rfl rfl (by kernel_rfl)
@[simp] theorem aep:rP vM DN [(6,x6),(7,x7),(8,x8)]:=oW
@[simp] theorem ahW:(Dn prog).code Av ⟨[(0,x0),(1,x1)],⟨h,n⟩⟩=ew (bA (fw ((dG (cI x0++[]) h)) none (share x0)) λa1=>bA (fw h none x1) λa2=>bP (cW (Dn prog) (firm a2) [] ⟨h,n⟩) λa3 s4=>cX (c4 (((cI x0++[])++[])) h s4.heap) <|bA (gr .or (firm a1) (firm a3)) λa5=>bA (storeAt s4.heap 1 (share x0) (.d a5)) λh6=>some ⟨[(0,x0)],⟨h6,s4.next⟩⟩):=dX rfl rfl (by kernel_rfl)
@[simp] theorem ain:rP uk JE [(10,x10)]:=oW
@[simp] theorem ail:rP ua Jx [(6,x6),(10,x10)]:=oW
@[simp] theorem ade:rP tD Cs [(0,x0),(1,.d y1),(4,x4)]:=oW
@[simp] theorem VZ:rP jp v7 [(1,.d y1),(2,.d y2),(6,x6),(9,x9)]:=oW
@[simp] theorem QP:rP jh pf [(0,x0),(1,.d y1),(2,.d y2),(7,x7),(11,x11),(12,.d y12),(13,.d y13),(14,.d y14),(15,x15),(16,x16),(17,x17),(18,.d y18),(19,x19),(22,.d y22)]:=oW
@[simp] theorem ZN:rP pb yi [(0,x0),(2,.d y2)]:=oW
@[simp] theorem adf:rP tZ CA [(0,x0),(2,x2),(3,x3),(5,.d y5),(6,.d y6),(8,.d y8),(10,x10),(11,.d y11),(12,.d y12),(13,.d y13),(14,x14),(15,.d y15),(16,.d y16),(21,x21),(22,.d y22),(23,.d y23)]:=oW
@[simp] theorem Z5:rP qP zU [(0,x0),(1,.d y1)]:=oW
@[simp] theorem Vv:rP lW uR [(0,x0),(3,.d y3)]:=oW
@[simp] theorem akk:rP BY Lc [(0,.d y0),(2,x2),(4,x4)]:=oW
@[simp] theorem GK:(Dn prog).code wD ⟨[(2,x2),(4,x4),(6,x6)],⟨h,n⟩⟩=ew (bP (loadAt h (some 4) 1 (share x4)) λa1 h2=>bA (dI (Dn prog) fe [firm a1] h2) λa3=>lA (put h2 n (.cells [O8,O8,O8,O8,O8,O8,O8,O8,O8,O8,O8,O8,O8,O8,O8,O8,O8,O8,O8,O8,O8,O8,O8,O8,O8,O8,O8,O8,O8,O8,O8,O8,O8,O8,O8,O8,O8,O8,O8,O8,O8,O8,O8,O8,O8,O8,O8,O8,O8,O8,O8,O8,O8,O8,O8,O8,O8,O8,O8,O8,O8,O8,O8,O8,O8,O8,O8,O8,O8,O8,O8,O8,O8,O8,O8,O8,O8,O8,O8,O8,O8,O8,O8,O8,O8,O8,O8,O8,O8,O8,O8,O8,O8,O8,O8,O8,O8,O8,O8,O8,O8,O8,O8,O8,O8,O8,O8,O8,O8,O8,O8,O8,O8,O8,O8,O8,O8,O8,O8,O8,O8,O8,O8,O8,O8,O8,O8,O8,O8,O8,O8,O8,O8,O8,O8,O8,O8,O8,O8,O8,O8,O8,O8,O8,O8,O8,O8,O8,O8,O8,O8,O8,O8,O8,O8,O8,O8,O8,O8,O8,O8,O8,O8,O8,O8,O8,O8,O8,O8,O8,O8,O8,O8,O8,O8,O8,O8,O8,O8,O8,O8,O8,O8,O8,O8,O8,O8,O8,O8,O8,O8,O8,O8,O8,O8,O8,O8,O8,O8,O8,O8,O8,O8,O8,O8,O8,O8,O8,O8,O8,O8,O8,O8,O8,O8,O8,O8,O8,O8,O8,O8,O8,O8,O8,O8,O8,O8,O8,O8,O8,O8,O8,O8,O8,O8,O8,O8,O8,O8,O8,O8,O8,O8,O8,O8,O8,O8,O8,O8,O8,O8,O8,O8,O8,O8,O8,O8,O8,O8,O8,O8,O8,O8,O8,O8,O8,O8,O8,O8,O8,O8,O8,O8,O8,O8,O8,O8,O8,O8,O8,O8,O8,O8,O8,O8,O8,O8,O8,O8])) λh4=>bA (storeAt h4 289 (.ptr n 0) (firm a3)) λh5=>some ⟨[(2,x2),(4,x4),(6,x6),(7,.ptr n 0)],⟨h5,n+1⟩⟩):=BH (by kernel_rfl)
@[simp] theorem Vt:rP lR vq [(9,x9)]:=oW
@[simp] theorem Ve:rP lU uw [(9,x9)]:=oW
@[simp] theorem Vl:rP lY uT [(9,x9),(13,x13)]:=oW
@[simp] theorem DW:(Dn prog).code sZ ⟨[(1,x1),(3,x3)],⟨h,n⟩⟩=ew (bP (loadAt h (some 4) 1 (share x3)) λa1 h2=>bA (dI (Dn prog) fe [firm a1] h2) λa3=>lA (put h2 n (.cells [O8,O8,O8,O8,O8,O8,O8,O8,O8,O8,O8,O8,O8,O8,O8,O8,O8,O8,O8,O8,O8,O8,O8,O8,O8,O8,O8,O8,O8,O8,O8,O8,O8,O8,O8,O8,O8,O8,O8,O8,O8,O8,O8,O8,O8,O8,O8,O8,O8,O8,O8,O8,O8,O8,O8,O8,O8,O8,O8,O8,O8,O8,O8,O8,O8,O8,O8,O8,O8,O8,O8,O8,O8,O8,O8,O8,O8,O8,O8,O8,O8,O8,O8,O8,O8,O8,O8,O8,O8,O8,O8,O8,O8,O8,O8,O8,O8,O8,O8,O8,O8,O8,O8,O8,O8,O8,O8,O8,O8,O8,O8,O8,O8,O8,O8,O8,O8,O8,O8,O8,O8,O8,O8,O8,O8,O8,O8,O8,O8,O8,O8,O8,O8,O8,O8,O8,O8,O8,O8,O8,O8,O8,O8,O8,O8,O8,O8,O8,O8,O8,O8,O8,O8,O8,O8,O8,O8,O8,O8,O8,O8,O8,O8,O8,O8,O8,O8,O8,O8,O8,O8,O8,O8,O8,O8,O8,O8,O8,O8,O8,O8,O8,O8,O8,O8,O8,O8,O8,O8,O8,O8,O8,O8,O8,O8,O8,O8,O8,O8,O8,O8,O8,O8,O8,O8,O8,O8,O8,O8,O8,O8,O8,O8,O8,O8,O8,O8,O8,O8,O8,O8,O8,O8,O8,O8,O8,O8,O8,O8,O8,O8,O8,O8,O8,O8,O8,O8,O8,O8,O8,O8,O8,O8,O8,O8,O8,O8,O8,O8,O8,O8,O8,O8,O8,O8,O8,O8,O8,O8,O8,O8,O8,O8,O8,O8,O8,O8,O8,O8,O8,O8,O8,O8,O8,O8,O8,O8,O8,O8,O8,O8,O8,O8,O8,O8,O8,O8,O8,O8])) λh4=>bA (storeAt h4 289 (.ptr n 0) (firm a3)) λh5=>some ⟨[(1,x1),(3,x3),(5,.ptr n 0)],⟨h5,n+1⟩⟩):=BH (by kernel_rfl)
@[simp] theorem Y5:rP py yE [(1,.d y1),(2,x2),(5,x5),(6,.d y6)]:=oW
@[simp] theorem xG:(Dn prog).code lD ⟨[(0,x0)],⟨h,n⟩⟩=ew (cX ((AV.cells x0).all b9) <|lA (put h n (.cells (AV.cells x0))) λh1=>lA (put h1 (n+1) (.cells [O8,O8,O8,O8,O8,O8,O8,O8,O8,O8,O8,O8,O8,O8,O8,O8,O8,O8,O8,O8,O8,O8,O8,O8,O8,O8,O8,O8,O8,O8,O8,O8,O8,O8,O8,O8,O8,O8,O8,O8,O8,O8,O8,O8,O8,O8,O8,O8,O8,O8,O8,O8,O8,O8,O8,O8,O8,O8,O8,O8,O8,O8,O8,O8,O8,O8,O8,O8,O8,O8,O8,O8,O8,O8,O8,O8,O8,O8,O8,O8,O8,O8,O8,O8,O8,O8,O8,O8,O8,O8,O8,O8,O8,O8,O8,O8,O8,O8,O8,O8,O8,O8,O8,O8,O8,O8,O8,O8,O8,O8,O8,O8,O8,O8,O8,O8,O8,O8,O8,O8,O8,O8,O8,O8,O8,O8,O8,O8,O8,O8,O8,O8,O8,O8,O8,O8,O8,O8,O8,O8,O8,O8,O8,O8,O8,O8,O8,O8,O8,O8,O8,O8,O8,O8,O8,O8,O8,O8,O8,O8,O8,O8,O8,O8,O8,O8,O8,O8,O8,O8,O8,O8,O8,O8,O8,O8,O8,O8,O8,O8,O8,O8,O8,O8,O8,O8,O8,O8,O8,O8,O8,O8,O8,O8,O8,O8,O8,O8,O8,O8,O8,O8,O8,O8,O8,O8,O8,O8,O8,O8,O8,O8,O8,O8,O8,O8,O8,O8,O8,O8,O8,O8,O8,O8,O8,O8,O8,O8,O8,O8,O8,O8,O8,O8,O8,O8,O8,O8,O8,O8,O8,O8,O8,O8,O8,O8,O8,O8,O8,O8,O8,O8,O8,O8,O8,O8,O8,O8,O8,O8,O8,O8,O8,O8,O8,O8,O8,O8,O8,O8,O8,O8,O8,O8,O8,O8,O8,O8,O8,O8,O8,O8,O8,O8,O8,O8,O8,O8,O8])) λh2=>some ⟨[(1,.ptr n 0),(2,.ptr (n+1) 0)],⟨h2,n+1+1⟩⟩):=BH (by kernel_rfl)
@[simp] theorem Pr:rP iT oj [(0,x0),(1,.d y1)]:=oW
@[simp] theorem Uj:rP kJ sK [(6,x6),(12,x12),(13,.d y13)]:=oW
@[simp] theorem YJ:rP pr yj [(0,.d y0),(1,.d y1),(5,.d y5),(6,x6),(7,.d y7)]:=oW
@[simp] theorem Kr:rP fI kq [(0,x0),(1,.d y1),(2,.d y2),(3,x3),(8,.d y8),(9,.d y9)]:=oW
@[simp] theorem Kq:rP fK kx [(0,x0),(1,.d y1),(2,.d y2),(3,x3),(8,.d y8),(9,.d y9)]:=oW
@[simp] theorem Ph:rP iE nE [(0,x0),(1,.d y1),(4,x4),(10,.d y10),(11,.d y11),(12,.d y12)]:=oW
@[simp] theorem NN:rP gZ mo [(0,x0),(10,.d y10),(13,.d y13)]:=oW
@[simp] theorem NV:rP gR mH [(0,x0),(2,.d y2),(4,x4),(14,.d y14),(15,.d y15),(16,.d y16)]:=oW
@[simp] theorem Nb:rP hU mG [(0,x0),(14,.d y14),(17,.d y17)]:=oW
@[simp] theorem Nx:rP gU mz [(0,x0),(1,.d y1),(2,.d y2),(3,.d y3),(4,x4),(18,.d y18),(19,.d y19),(20,.d y20),(21,.d y21),(22,.d y22),(23,.d y23)]:=oW
@[simp] theorem NM:rP gW mJ [(0,x0),(1,.d y1),(2,.d y2),(3,.d y3),(10,.d y10)]:=oW
theorem gm:prog uV=some mP:=rfl
theorem xj:prog p9=some LX:=rfl
theorem fl:prog dx=some so:=rfl
theorem IC:prog qR=some qA:=rfl
theorem Y7:prog Nj=some Fc:=rfl
theorem acn:prog CH=some Iv:=rfl
theorem Yf:prog tV=some Dx:=rfl
theorem Zx:prog FU=some Fa:=rfl
theorem Zr:prog wn=some E7:=rfl
theorem NW:prog lL=some Fn:=rfl
theorem ZS:prog Fy=some Fz:=rfl
theorem I4:prog CR=some Ic:=rfl
theorem YI:prog vS=some FQ:=rfl
theorem ab3:prog Q5=some I1:=rfl
theorem YY:prog vU=some FA:=rfl
theorem Y9:prog Nv=some Fw:=rfl
theorem YD:prog wa=some Fi:=rfl
theorem Zk:prog vW=some FC:=rfl
theorem Nu:prog lH=some Fd:=rfl
theorem UJ:prog Jk=some BQ:=rfl
theorem R6:prog FX=some Al:=rfl
theorem ZL:prog wd=some E8:=rfl
theorem XE:prog KB=some DR:=rfl
theorem abW:prog t8=some I2:=rfl
theorem P9:prog sM=some yw:=rfl
theorem RB:prog Ho=some Ay:=rfl
theorem Kn:prog gC=some sB:=rfl
theorem yL:prog qV=some qr:=rfl
theorem Kj:prog fh=some sc:=rfl
theorem Ke:prog r7=some sn:=rfl
theorem IA:prog qz=some qG:=rfl
theorem IT:prog qZ=some qu:=rfl
theorem Gf:prog pz=some oQ:=rfl
theorem CT:prog lg=some lB:=rfl
theorem H9:prog yM=some qB:=rfl
theorem I0:prog ym=some qU:=rfl
theorem Ab:prog pt=some jP:=rfl
theorem CN:prog sX=some lC:=rfl
theorem EA:prog vA=some mK:=rfl
theorem SM:prog Ah=some Ad:=rfl
theorem VW:prog L3=some D5:=rfl
theorem RX:prog Gc=some AI:=rfl
theorem JW:prog zJ=some si:=rfl
theorem Yq:prog ta=some DM:=rfl
theorem Wf:prog Kv=some Ek:=rfl
theorem Wg:prog Lu=some Dy:=rfl
theorem YE:prog NY=some Fp:=rfl
theorem UY:prog BO=some Co:=rfl
theorem Sg:prog GA=some z8:=rfl
theorem LZ:prog tk=some tX:=rfl
theorem Qm:prog yU=some yK:=rfl
theorem RA:prog EH=some yp:=rfl
theorem SP:prog AS=some Ac:=rfl
theorem UO:prog BP=some BW:=rfl
theorem YP:prog Ny=some Fr:=rfl
theorem SK:prog jQ=some Ae:=rfl
theorem afe:prog Lp=some LU:=rfl
theorem ZI:prog Fk=some Fx:=rfl
theorem UT:prog B8=some BX:=rfl
theorem M5:prog vI=some vL:=rfl
theorem Gp:prog xg=some oP:=rfl
theorem abn:prog CO=some Jf:=rfl
theorem yf:prog nJ=some iJ:=rfl
theorem OC:prog w7=some wU:=rfl
theorem Ja:prog zp=some qN:=rfl
theorem JV:prog zD=some su:=rfl
theorem HR:prog zi=some qM:=rfl
theorem GR:prog xM=some pn:=rfl
theorem J0:prog zL=some r8:=rfl
theorem HU:prog qk=some qp:=rfl
theorem Il:prog yJ=some qL:=rfl
theorem Kg:prog zH=some sj:=rfl
theorem Gm:prog xC=some pF:=rfl
theorem Jh:prog qm=some qo:=rfl
theorem FP:prog v6=some nT:=rfl
theorem HQ:prog yF=some qS:=rfl
theorem Ki:prog zM=some sy:=rfl
theorem Q9:prog kp=some zm:=rfl
theorem Ck:prog rR=some kE:=rfl
theorem QQ:prog ya=some yN:=rfl
theorem Yg:prog Do=some DE:=rfl
theorem LQ:prog Bt=some tS:=rfl
theorem MZ:prog fe=some vH:=rfl
theorem Ax:prog pO=some jK:=rfl
theorem V8:prog DO=some D0:=rfl
theorem J6:prog zS=some sC:=rfl
theorem qi:prog qc=some kf:=rfl
theorem H5:prog yV=some qE:=rfl
theorem Kf:prog zO=some r9:=rfl
theorem Ey:prog ve=some nb:=rfl
theorem FH:prog wz=some nV:=rfl
theorem Bv:prog pX=some j9:=rfl
theorem oc:prog nP=some nZ:=rfl
theorem Iz:prog yc=some qF:=rfl
theorem LD:prog Bg=some tv:=rfl
theorem Km:prog sk=some sm:=rfl
theorem F8:prog xz=some pc:=rfl
theorem Lo:prog Br=some tn:=rfl
theorem Ez:prog vj=some nh:=rfl
theorem vz:prog ux=some mO:=rfl
theorem N3:prog qX=some w9:=rfl
theorem B5:prog rD=some kL:=rfl
theorem MU:prog CC=some vQ:=rfl
theorem E9:prog nR=some nX:=rfl
theorem vX:prog lI=some gF:=rfl
theorem dj:prog bU=some jM:=rfl
theorem B9:prog rq=some kM:=rfl
theorem zB:prog oh=some jk:=rfl
end
abbrev gS:=@Nat.pow_succ
abbrev qY:=@Nat.add_comm
abbrev aA:=@Nat.pow_le_pow_right
abbrev c5:=@Nat.add_zero
abbrev i64 (n:Int):Prop:=-9223372036854775808<=n∧n<=9223372036854775807
def acW (n:Int):bl prog L3 [A_ n]=if 0<=n∧n<=31 then some (B_ true) else some (B_ false):=by
 rw[aM VW Xk rfl];simp
def val:C_->Nat->Nat
 |[],n=>n
 |x::r,n=>val r (2*n+x)
abbrev bin (l:C_):Prop:=∀x∈l,x<=1
def W8:∀{l:C_}{n i:Nat},bin l->n<2 ^ i->val l n<2 ^ (i+l.length)
 |[],n,i,h,hn=>by simpa [val] using hn
 |x::r,n,i,h,hn=>by
  have h1:2 ^ (i+1)=2*2 ^ i:=by rw[gS];omega
  have h2:=h x s_;have:=W8 (l:=r) (n:=2*n+x) (i:=i+1) (λy hy=>h y (by simp[hy])) o_;simpa [val,bF,qY 1] using this
def aN (b:C_)(a s:Int):R Nat :=
 if (0<=s∧s<=31)∧0<=a∧a<=b.length then
  if b.length-a<s then .er 4
  else if bin ((b.drop a.toNat).take s.toNat) then .ok (val ((b.drop a.toNat).take s.toNat) 0) (a.toNat+s.toNat)
  else .er 7
 else .er 1
abbrev pG (b:C_)(s:Int)(v n:Nat):Prop:=v<2 ^ s.toNat∧n<=b.length
def aal {γ:Type}{b:C_}{a s:Int}{f:Nat->Nat->γ}{g:Nat->γ}:rK (pG b s) (aN b a s) f g =
  if (0<=s∧s<=31)∧0<=a∧a<=b.length then
   if b.length-a<s then g 4
   else if bin ((b.drop a.toNat).take s.toNat) then f (val ((b.drop a.toNat).take s.toNat) 0) (a.toNat+s.toNat) else g 7
  else g 1:=by
 unfold aN;by_cases h1:(0<=s∧s<=31)∧0<=a∧a<=b.length
 .rw[ac h1,ac h1];by_cases h2:b.length-a<s
  .rw[ac h2,ac h2,dp]
  .rw[aa h2,aa h2];by_cases h3:bin ((b.drop a.toNat).take s.toNat)
   .rw[ac h3,ac h3,bJ];have:=W8 (n:=0) (i:=0) h3 o_;have hl:((b.drop a.toNat).take s.toNat).length=s.toNat:=by simp;omega
    rw[hl]at this;exact⟨by simpa using this,o_⟩
   .rw[aa h3,aa h3,dp]
 .rw[aa h1,aa h1,dp]
def ZK (b:C_)(a sz:Nat)(hl:b.length<=1000000000)(hb:a+sz<=b.length)(hs:sz<=31)(h:ak)(m:Nat):∀(k i n:Nat) (I N:Int),I=i->N=n->i+k=sz->n<2 ^ i->
  (Dn prog).code (.loop wQ) ⟨[(0,.d (.lst (aT b))),(1,A_ a),(2,A_ sz),(6,A_ N),(31,A_ sz),(32,A_ I)],⟨h,m⟩⟩ =
   if bin ((b.drop (a+i)).take k) then some (.exit 1,⟨[(1,A_ a),(2,A_ sz),(6,A_ ((val ((b.drop (a+i)).take k) n:Nat)))],⟨h,m⟩⟩)
   else some (.ret,⟨[(6,A_ 0),(7,A_ 0),(8,A_ 8)],⟨h,m⟩⟩):=by
 intro k
 induction k with
 |zero =>
  intro i n I N hI hN hi hn;subst hI hN;rw[ah Jv];have:¬(i<sz):=o_;simp(disch:=omega)[this,val,bin]
 |succ k ih =>
  intro i n I N hI hN hi hn;subst hI hN;rw[ah Jv,lZ o_,List.take_succ_cons];have:i<sz:=o_;have h2:2 ^ i<=2 ^ 30:=aA o_ o_;have h3:2 ^ (i+1)=2*2 ^ i:=by rw[gS];omega
  simp(disch:=omega)[this,val,bin];by_cases hx:nth b (a+i)<=1
  .rw[aa o_,ih (i+1) (2*n+nth b (a+i)) _ _ o_ o_ o_ o_];simp[hx,bin,bF]
  .rw[ac o_];simp[hx]
def gu (b:C_)(a s:Int)(hb:b.length<=1000000000)(ha:i64 a):bl prog CH [.d (.lst (aT b)),A_ a,A_ s]=rK (pG b s) (aN b a s) (λv n=>some (.tup [A_ v,A_ n,A_ 0])) λe=>some (.tup [A_ 0,A_ 0,A_ (e+1)]):=by
 rw[aM acn ab6 rfl,aal];simp(disch:=omega)[acW];by_cases h1:(0<=s∧s<=31)∧0<=a∧a<=b.length
 .obtain⟨⟨s0,s1⟩,a0,a1⟩:=h1;obtain⟨S,rfl⟩:=az s0;obtain⟨A,rfl⟩:=az a0;by_cases h2:(b.length:Int)-A<S
  .simp[h2]
  .have:=ZK b A S hb o_ o_ [] 0 S 0 0 0 0 rfl rfl o_ o_;rw[c5]at this;simp(disch:=omega)[this]
 .simp[h1]
def ab5 (b:C_)(a sz:Nat)(hl:b.length<=1000000000)(hb:a+sz<=b.length)(hs:sz<=31)(h:ak)(m:Nat):∀(k i n:Nat) (I N:Int),I=a+i->N=n->i+k=sz->n<2 ^ i->
  (Dn prog).code (.loop j5) ⟨[(0,.d (.lst (aT b))),(1,A_ a),(2,A_ sz),(9,A_ N),(10,A_ I)],⟨h,m⟩⟩ =
   if bin ((b.drop (a+i)).take k) then some (.exit 0,⟨[(1,A_ a),(2,A_ sz),(9,A_ ((val ((b.drop (a+i)).take k) n:Nat)))],⟨h,m⟩⟩)
   else some (.ret,⟨[(6,A_ 0),(7,A_ 0),(8,A_ 8)],⟨h,m⟩⟩):=by
 intro k
 induction k with
 |zero =>
  intro i n I N hI hN hi hn;subst hI hN;rw[ah we];have:¬(i<sz):=o_;simp(disch:=omega)[this,val,bin]
 |succ k ih =>
  intro i n I N hI hN hi hn;subst hI hN;rw[ah we,lZ o_,List.take_succ_cons];have:i<sz:=o_;have h2:2 ^ i<=2 ^ 30:=aA o_ o_;have h3:2 ^ (i+1)=2*2 ^ i:=by rw[gS];omega
  simp(disch:=omega)[this,val,bin];by_cases hx:nth b (a+i)<=1
  .rw[ac o_,ih (i+1) (2*n+nth b (a+i)) _ _ o_ o_ o_ o_];simp[hx,bin,bF]
  .rw[aa o_];simp[hx]
def gB (b:C_)(a s:Int)(hb:b.length<=1000000000)(ha:i64 a):bl prog fh [.d (.lst (aT b)),A_ a,A_ s]=rK (pG b s) (aN b a s) (λv n=>some (.tup [A_ v,A_ n,A_ 0])) λe=>some (.tup [A_ 0,A_ 0,A_ (e+1)]):=by
 rw[aM Kj J3 rfl,aal];simp(disch:=omega);by_cases h1:(0<=s∧s<=31)∧0<=a∧a<=b.length
 .obtain⟨⟨s0,s1⟩,a0,a1⟩:=h1;obtain⟨S,rfl⟩:=az s0;obtain⟨A,rfl⟩:=az a0;by_cases h2:(b.length:Int)-A<S
  .simp(disch:=omega) only[ac,aa]
  .have:=ab5 b A S hb o_ o_ [] 0 S 0 0 A 0 o_ rfl o_ o_;rw[c5]at this;simp(disch:=omega)[this,ac,aa]
 .simp(disch:=omega) only[ac,aa]
def acY (k lines by_:Nat):Nat->Nat->C_
 |0,at_=>[at_]
 |f+1,at_=>at_::if at_<lines then acY k lines by_ f (min lines (at_+4+4*(at_*k / by_))) else []
def offs (rate:Nat)(short:Bool):C_:=cond short (acY (3+(11-rate) / 2) 32 64 99 0) (acY (3+(11-rate) / 2) 256 256 99 0)
def yX:List (Nat×Bool):=(List.range 12).flatMap λr=>[(r,false),(r,true)]
def kK {r:Nat}{s:Bool}(h:r<12):(r,s)∈yX:=by
 simp only[yX,List.mem_flatMap,fO];exact⟨r,h,by cases s<;>simp⟩
def UI:∀x∈yX,bl prog Ah [A_ x.1,B_ x.2]=some (.tup [.own true 1 (aF (offs x.1 x.2)),A_ 0]):=kF 100 yX (by kernel_rfl)
def RC:∀x∈yX,bl prog vE [A_ x.1,B_ x.2]=some (.own true 1 (aF (offs x.1 x.2))):=kF 100 yX (by kernel_rfl)
def C0:∀x∈yX,1<=(offs x.1 x.2).length∧(offs x.1 x.2).length<=64:=e_
def oG (rate:Nat)(short:Bool):Nat:=(offs rate short).length-1
def VT {r:Nat}{s:Bool}(h:r<12):oG r s<=63:=by
 have:=C0 _ (kK (s:=s) h);simp only[oG]at *;omega
abbrev de (r:Int):Prop:=0<=r∧r<=11
def DL (r:Int)(s:Bool):bl prog Ah [A_ r,B_ s]=if de r then some (.tup [.own true 1 (aF (offs r.toNat s)),A_ 0]) else some (.tup [.nl,A_ 2]):=by
 by_cases h:de r
 .obtain⟨R,rfl⟩:=az h.1;rw[ac h,UI (R,s) (kK o_)];rfl
 .rw[aa h,aM SM Sy rfl];simp(disch:=omega)[ac,ake]
def JH (r:Int)(s:Bool)(h:de r):bl prog vE [A_ r,B_ s]=some (.own true 1 (aF (offs r.toNat s))):=by
 obtain⟨R,rfl⟩:=az h.1;exact RC (R,s) (kK o_)
def il (r:Int)(s:Bool):bl prog Nj [A_ r,B_ s]=if de r then some (.tup [A_ (oG r.toNat s),A_ 0]) else some (.tup [A_ 0,A_ 2]):=by
 rw[aM Y7 Zi rfl];by_cases h:de r
 .have h2:=C0 _ (kK (r:=r.toNat) (s:=s) o_);simp(disch:=omega) only at h2;simp(disch:=omega)[DL,ac h,oG];split<;>simp<;>omega
 .simp(disch:=omega)[DL,aa h]
def Rn (r:Int)(s:Bool):bl prog yV [A_ r,B_ s]=if de r then some (.tup [.own true 1 (aF (offs r.toNat s)),A_ 0]) else some (.tup [.nl,A_ 2]):=by
 rw[aM H5 IE rfl];by_cases h:de r
 .simp(disch:=omega)[JH,ac h,aa]
 .simp(disch:=omega)[aa h,ac]
  trace_state
def Px (r:Int)(s:Bool):bl prog zp [A_ r,B_ s]=if de r then some (.tup [A_ (oG r.toNat s),A_ 0]) else some (.tup [A_ 0,A_ 2]):=by
 rw[aM Ja IX rfl];by_cases h:de r
 .have h2:=C0 _ (kK (r:=r.toNat) (s:=s) o_);simp(disch:=omega) only at h2;simp(disch:=omega)[Rn,ac h,oG];omega
 .simp(disch:=omega)[Rn,aa h]
abbrev b5:=@List.drop_eq_nil_of_le
abbrev mh:=@or_false
structure ay where
 seq:Nat
 shape:Nat
 max:Int
 groups:G_
@[simp] def ay.cells (i:ay):D_:=[.d (.int .u8 i.seq),.d (.int .u8 i.shape),A_ i.max,.d (.lst (am i.groups))]
structure ay.Fit (i:ay):Prop where
 seq:i.seq<=255
 shape:i.shape<=255
 max:i64 i.max
 len:i.groups.length<=1000
 groups:∀n∈i.groups,i64 n
def PA (a b:G_)(hl:a.length<=1000000)(he:a.length=b.length)(h:ak)(m:Nat):∀(k i:Nat) (I:Int),I=i->i+k=a.length->
  (Dn prog).code (.loop j0) ⟨[(0,.d (.lst (am a))),(1,.d (.lst (am b))),(12,A_ a.length),(13,A_ I)],⟨h,m⟩⟩=if a.drop i=b.drop i then some (.exit 0,⟨[],⟨h,m⟩⟩) else some (.ret,⟨[(4,B_ false)],⟨h,m⟩⟩):=by
 intro k
 induction k with
 |zero =>
  intro i I hI hi;subst hI;rw[ah wh,b5 o_,b5 o_];simp(disch:=omega)[aa]
 |succ k ih =>
  intro i I hI hi;subst hI;rw[ah wh,lZ (l:=a) o_,lZ (l:=b) o_];simp(disch:=omega)[ac];rw[ih (i+1) _ o_ o_];by_cases hx:nth a i=nth b i<;>simp[hx]
def Ws (a b:G_)(hl:a.length<=1000000)(hb:b.length<=1000000):bl prog zM [.d (.lst (am a)),.d (.lst (am b))]=if a=b then some (B_ true) else some (B_ false):=by
 rw[aM Ki J2 rfl];by_cases he:a.length=b.length
 .have:=PA a b hl he [] 0 a.length 0 0 rfl o_;simp(disch:=omega)[this,ac]
 .have:a≠b:=λh=>he (by rw[h])
  simp(disch:=omega)[this,aa]
def ay.grouped (i:ay):Prop:=if i.seq=2 then (∀n∈i.groups,1<=n∧n<=8)∧i.groups.sum=8∧(i.groups.length:Int)<=8 else i.groups=[1]
instance {i:ay}:Decidable i.grouped:=by unfold ay.grouped;infer_instance
def abV (i:ay)(hi:i.groups.length<=1000)(m:Nat):∀(k j:Nat) (J S:Int),J=j->j+k=i.groups.length->0<=S∧S<=8*j->
  (Dn prog).code (.loop oE) ⟨[(1,.ptr 0 0),(3,A_ S),(14,.d (.lst (am i.groups))),(15,A_ i.groups.length),(16,A_ J)],⟨[(0,.cells i.cells)],m⟩⟩ =
   if ∀n∈i.groups.drop j,1<=n∧n<=8 then some (.exit 0,⟨[(1,.ptr 0 0),(3,A_ (S+(i.groups.drop j).sum))],⟨[(0,.cells i.cells)],m⟩⟩) else some (.ret,⟨[(2,B_ false)],⟨[(0,.cells i.cells)],m⟩⟩):=by
 simp only[ay.cells];intro k
 induction k with
 |zero =>
  intro j J S hJ hj hS;subst hJ;rw[ah CE,b5 o_];simp(disch:=omega)[aa]
 |succ k ih =>
  intro j J S hJ hj hS;subst hJ;rw[ah CE,lZ o_];simp(disch:=omega)[ac];by_cases hx:1<=nth i.groups j∧nth i.groups j<=8
  .rw[aa o_,ih (j+1) _ _ o_ o_ o_];simp[hx,Int.add_assoc]
  .rw[ac o_,aa (λh=>hx ⟨h.1.1,h.1.2⟩)]
def Yl (i:ay)(hi:i.Fit):bl prog Gc [.agg i.cells]=if i.grouped then some (B_ true) else some (B_ false):=by
 have hl:=hi.len;rw[aM RX Sn rfl];unfold ay.grouped;by_cases hs:i.seq=2
 .have:=abV i hi.len 1 i.groups.length 0 0 0 rfl o_ o_;simp only[ay.cells]at this;simp(disch:=omega)[ac,aa,this]
 .have:=Ws i.groups [1] o_ s_;have h1:am [1]=[[.int .i64 1]]:=rfl;rw[h1]at this;simp(disch:=omega)[this,aa,ac]
def ay.may (r:Nat)(i:ay):Prop:=i.seq<=3∧i.shape<=1∧0<=i.max∧i.max<=oG r (decide (i.seq=2))∧i.grouped
instance {r:Nat}{i:ay}:Decidable (i.may r):=by unfold ay.may;infer_instance
def CY (r:Int)(i:ay)(hi:i.Fit):bl prog tV [A_ r,.agg i.cells]=if de r then if i.may r.toNat then some (A_ 0) else some (A_ 8) else some (A_ 2):=by
 have hg:=Yl i hi;simp only[ay.cells]at hg;rw[aM Yf XY rfl];by_cases hr:de r
 .by_cases hs:i.seq=2
  .simp(config := { maxSteps:=9^7 }) (disch:=omega)[il,ac,aa,hg];refine Vb ?_;by_cases h:i.grouped<;>simp[ay.may,h,hs];omega
  .simp(config := { maxSteps:=9^7 }) (disch:=omega)[il,ac,aa,hg];refine Vb ?_;by_cases h:i.grouped<;>simp[ay.may,h,hs];omega
 .by_cases hs:i.seq=2
  .simp(config := { maxSteps:=9^7 }) (disch:=omega)[il,ac,aa]
  .simp(config := { maxSteps:=9^7 }) (disch:=omega)[il,ac,aa]
def aea (i:ay)(hi:i.Fit):bl prog Ny [.agg i.cells]=if i.may 11 then some (B_ true) else some (B_ false):=by
 have hg:=CY 11 i hi;simp only[ay.cells]at hg;rw[aM YP YA rfl];simp(config := { maxSteps:=9^7 }) (disch:=omega)[hg,ac]
def ay.many (i:ay):Nat:=if i.seq=2 then 8 else 1
def DH (i:ay)(hi:i.Fit):bl prog FX [.agg i.cells]=if i.may 11 then some (.tup [A_ i.many,A_ 0]) else some (.tup [A_ 0,A_ 8]):=by
 have hg:=aea i hi;simp only[ay.cells]at hg;rw[aM R6 SW rfl];by_cases hs:i.seq=2
 .simp(config := { maxSteps:=9^7 }) (disch:=omega)[hg,ac,ay.many]
 .simp(config := { maxSteps:=9^7 }) (disch:=omega)[hg,aa,ay.many]
def ni:∀{l:G_},(∀n∈l,1<=n)->(l.length:Int)<=l.sum
 |[],_=>by simp
 |x::r,h=>by
  have:=ni (l:=r) (λn hn=>h n (by simp[hn]));have:=h x s_;simp;omega
def Ye:∀{l:G_},(∀n∈l,1<=n)->∀n∈l,n<=l.sum
 |x::r,h,n,hn=>by
  have h1:=ni (l:=r) (λn hn=>h n (by simp[hn]));have h2:=h x s_;rcases aQ.1 hn with e|e
  .subst e;simp;omega
  .have:=Ye (l:=r) (λn hn=>h n (by simp[hn])) n e;simp;omega
def adh {i:ay}(hs:i.seq=2):i.grouped↔(∀n∈i.groups,1<=n)∧i.groups.sum=8:=by
 rw[ay.grouped,ac hs];constructor
 .rintro ⟨a,b,c⟩;exact⟨λn hn=>(a n hn).1,b⟩
 .rintro ⟨a,b⟩
  have:=ni a;exact⟨λn hn=>⟨a n hn,by have:=Ye a n hn;omega⟩,b,o_⟩
def amR (i:ay)(hi:i.groups.length<=1000)(m:Nat):∀(k j:Nat) (J S:Int),J=j->j+k=i.groups.length->0<=S∧S<=8->
  (Dn prog).code (.loop jZ) ⟨[(3,.ptr 0 0),(7,A_ S),(8,A_ J)],⟨[(0,.cells i.cells)],m⟩⟩ =
   if (∀n∈i.groups.drop j,1<=n)∧(i.groups.drop j).sum<=S then some (.exit 0,⟨[(7,A_ (S-(i.groups.drop j).sum))],⟨[(0,.cells i.cells)],m⟩⟩) else some (.ret,⟨[(4,B_ false)],⟨[(0,.cells i.cells)],m⟩⟩):=by
 simp only[ay.cells];intro k
 induction k with
 |zero =>
  intro j J S hJ hj hS;subst hJ;rw[ah wg,b5 o_];simp(disch:=omega)[aa,ac]
 |succ k ih =>
  intro j J S hJ hj hS;subst hJ;rw[ah wg,lZ o_];simp(disch:=omega)[ac];by_cases hx:1<=nth i.groups j∧nth i.groups j<=S
  .rw[aa o_,ih (j+1) _ _ o_ o_ o_];have h3:S-nth i.groups j-(i.groups.drop (j+1)).sum=S-(nth i.groups j+(i.groups.drop (j+1)).sum):=o_;rw[h3];refine ahN ?_;have:(i.groups.drop (j+1)).sum<=S-nth i.groups j↔nth i.groups j+(i.groups.drop (j+1)).sum<=S:=o_;rw[this];simp[hx.1]
  .rw[ac o_,aa]
   rintro ⟨⟨a,b⟩,c⟩
   have:=ni b;omega
def ER (r:Int)(i:ay)(hi:i.Fit)(hr:de r):bl prog gC [A_ r,.agg i.cells]=if i.may r.toNat then some (B_ true) else some (B_ false):=by
 have hl:=hi.len;rw[aM Kn Kd rfl];by_cases hs:i.seq=2
 .have h0:=amR i hi.len 1 i.groups.length 0 0 8 rfl o_ o_;simp only[ay.cells]at h0;simp(config := { maxSteps:=9^7 }) (disch:=omega)[Px,ac,aa,h0];have e:i.may r.toNat↔i.seq<=3∧i.shape<=1∧0<=i.max∧i.max<=oG r.toNat (decide (i.seq=2))∧(∀n∈i.groups,1<=n)∧i.groups.sum=8:=by
   rw[<-adh hs];rfl
  rw[ahN e];simp only[hs,decide_true];refine Vb ?_;generalize (∀(n:Int),n∈i.groups->1<=n)=A;by_cases h:A<;>simp only[h,true_and,false_and,and_false,mh,forall_const,not_true_eq_false,not_false_eq_true,or_true,true_implies,false_implies]<;>omega
 .simp(config := { maxSteps:=9^7 }) (disch:=omega)[Px,ac,aa];refine Vb ?_;have e:i.grouped↔(i.groups.length:Int)=1∧nth i.groups 0=1:=by
   rw[ay.grouped,aa hs]
   match i.groups with
   |[]=>simp
   |[x]=>simp[nth]
   |x::y::r=>simp;omega
  have e2:i.may r.toNat↔i.seq<=3∧i.shape<=1∧0<=i.max∧i.max<=oG r.toNat (decide (i.seq=2))∧i.grouped:=Iff.rfl;rw[e2,e];simp only[hs,decide_false];omega
abbrev gz:=@Nat.two_pow_pos
abbrev dU:=@List.mem_or_eq_of_mem_set
def vO (b:C_)(a s:Int):Nat:=match aN b a s with|.ok v _=>v|.er _=>0
def nO (b:C_)(a s:Int):Nat:=match aN b a s with|.ok _ n=>n|.er _=>0
def eO (b:C_)(a s:Int):Nat:=match aN b a s with|.ok _ _=>0|.er e=>e+1
def b3 {b:C_}{a s:Int}{v n:Nat}(h:aN b a s=.ok v n):pG b s v n:=by
 unfold aN at h;by_cases h1:(0<=s∧s<=31)∧0<=a∧a<=b.length
 .rw[ac h1]at h;by_cases h2:b.length-a<s
  .rw[ac h2]at h;exact absurd h (by simp)
  .rw[aa h2]at h;by_cases h3:bin ((b.drop a.toNat).take s.toNat)
   .rw[ac h3]at h;injection h with hv hn
    have:=W8 (n:=0) (i:=0) h3 o_;have hl:((b.drop a.toNat).take s.toNat).length=s.toNat:=by simp;omega
    rw[hl]at this;subst hv hn;exact⟨by simpa using this,o_⟩
   .rw[aa h3]at h;exact absurd h (by simp)
 .rw[aa h1]at h;exact absurd h (by simp)
def EX (b:C_)(a s:Int)(hb:b.length<=1000000000)(ha:i64 a):bl prog CH [.d (.lst (aT b)),A_ a,A_ s]=some (.tup [A_ (vO b a s),A_ (nO b a s),A_ (eO b a s)]):=by
 rw[gu b a s hb ha];unfold vO nO eO
 cases h:aN b a s with
 |ok v n=>rw[bJ (b3 h)];simp
 |er e=>simp[rK]
structure RS where
 a:Int
 e:Nat
def ra (s:RS):Int:=s.a
def re (s:RS):Nat:=s.e
def sV (b:C_)(st:RS)(s:Int):Nat:=if st.e=0 then vO b st.a s else 0
def sN (b:C_)(st:RS)(s:Int):RS:=if st.e=0 then ⟨nO b st.a s,eO b st.a s⟩ else st
def anN {b:C_}{a s:Int}:vO b a s<2 ^ s.toNat:=by
 unfold vO
 cases h:aN b a s with
 |ok v n=>exact(b3 h).1
 |er e=>exact gz _
def jT {b:C_}{st:RS}{s:Int}:sV b st s<2 ^ s.toNat:=by
 unfold sV;split
 .exact anN
 .exact gz _
def Vf {b:C_}{a s:Int}:nO b a s<=b.length:=by
 unfold nO
 cases h:aN b a s with
 |ok v n=>exact(b3 h).2
 |er e=>exact dr _
def RS.fit (st:RS):Prop:=i64 st.a
def ek {b:C_}{st:RS}{s:Int}(hb:b.length<=1000000000)(h:st.fit):(sN b st s).fit:=by
 unfold sN;split
 .have:=Vf (b:=b) (a:=st.a) (s:=s);show i64 _;simp only[];omega
 .exact h
def sL (b:C_):Nat->RS->C_
 |0,_=>[]
 |k+1,st=>sV b st 1::sL b k (sN b st 1)
def EK (b:C_):Nat->RS->RS
 |0,st=>st
 |k+1,st=>EK b k (sN b st 1)
def yr (b:C_)(s:Int)(st:RS)(X:Obj)(R:ak)(N:Nat)(hb:b.length<=1000000000)(ha:st.fit):(Dn prog).call ta [A_ s,.ptr 3 0,.ptr 0 0,.ptr 2 0] ⟨(0,.cells [.d (.lst (aT b))])::(1,X)::(2,.cells [A_ (ra st)])::(3,.cells [A_ (re st)])::R,N⟩ =
  some (A_ (sV b st s),⟨(0,.cells [.d (.lst (aT b))])::(1,X)::(2,.cells [A_ (ra (sN b st s))])::(3,.cells [A_ (re (sN b st s))])::R,N⟩):=by
 rw[bN Yq WI rfl];obtain⟨a,e⟩:=st;have hf:i64 a:=ha;by_cases he:e=0
 .subst he;simp(config := { maxSteps:=9^7 }) (disch:=omega)[EX,ra,re,sV,sN]
 .simp(config := { maxSteps:=9^7 }) (disch:=omega)[ra,re,sV,sN,he]
def grow:G_->C_->G_
 |g,[]=>g
 |g,x::r=>grow (if x=1 then g.set (g.length-1) (nth g (g.length-1)+1) else g++[1]) r
def nm (g:G_):Nat:=3+g.length
def aqL {g:G_}(h:g≠[]):4<=nm g:=by have:=bm.2 h;unfold nm;omega
abbrev Yy (b:C_)(q s:Nat)(m:Int)(g:G_)(st:RS):HS:=⟨[(0,.cells [.d (.lst (aT b))]),(1,.cells [.d (.int .u8 q),.d (.int .u8 s),A_ m,.sl (3+g.length) 0 g.length]),
           (2,.cells [A_ (ra st)]),(3,.cells [A_ (re st)]),(3+g.length,.arr 1 (am g))],4+g.length⟩
def Y6 (b:C_)(r o m:Int)(q s:Nat)(hb:b.length<=1000000000):∀(k i:Nat) (g:G_) (st:RS) (I:Int),I=i->i+k=7->g≠[]->g.length+k<=100->(∀n∈g,0<=n∧n+k<=100)->st.fit->
  (Dn prog).code (.loop rT) ⟨[(2,AV.d (D.int IntKind.i64 r)),(6,AV.ptr 1 0),(7,AV.ptr 2 0),(8,AV.ptr 3 0),
           (9,AV.fn ta [] [AV.ptr 3 0,AV.ptr 0 0,AV.ptr 2 0]),(10,A_ o),(40,A_ I)],Yy b q s m g st⟩ =
   some (.exit 0,⟨[(2,AV.d (D.int IntKind.i64 r)),(6,AV.ptr 1 0),(7,AV.ptr 2 0),(8,AV.ptr 3 0),(10,A_ o)],Yy b q s m (grow g (sL b k st)) (EK b k st)⟩):=by
 intro k
 induction k with
 |zero =>
  intro i g st I hI hi hg hl hn ha;subst hI;rw[ah JJ];simp(disch:=omega)[aa,Yy,grow,sL,EK]
 |succ k ih =>
  intro i g st I hI hi hg hl hn ha;subst hI;have:=bm.2 hg;have h3:3+(g.length+1)=4+g.length:=o_;have h4:4+(g.length+1)=4+g.length+1:=o_;rw[ah JJ];have hv:nth g (g.length-1)∈g:=jN o_;have hv2:=hn _ hv;simp only[grow,sL,EK];by_cases h1:sV b st 1=1
  .have hs:(g.set (g.length-1) (nth g (g.length-1)+1)).length=g.length:=s_;have h:=ih (i+1) (g.set (g.length-1) (nth g (g.length-1)+1)) (sN b st 1) (i+1) o_ o_ (by intro h0;rw[h0,ck]at hs;omega) (by rw[hs];omega) (λx hx=>by
    rcases dU hx with h|h
    .have:=hn x h;omega
    .omega) (ek hb ha)
   simp only[Yy,hs]at h;simp(maxSteps:=9^6)(disch:=first|omega|assumption) [ac,aa,yr,h3,h4,Yy];rw[h]
  .have h:=ih (i+1) (g++[1]) (sN b st 1) (i+1) o_ o_ s_ g_ (λx hx=>by
    rcases bq.1 hx with h|h
    .have:=hn x h;omega
    .simp at h;omega) (ek hb ha)
   simp only[Yy,bt,aE,ck,cQ,h3,h4]at h;simp(maxSteps:=9^6)(disch:=first|omega|assumption) [ac,aa,yr,h3,h4,Yy];rw[h]
variable {P:Nat->W_}
def EZ (l:Nat)(e:aK)(x:T_):J_ :=
 match x with
 |some (_,hs)=>match get hs.heap l with
  |some (.loop _ _ _ _ false pend)=>match pend with
   |none=>some (.normal,⟨e,⟨del hs.heap l,hs.next⟩⟩)
   |some o=>some (o,⟨e,⟨del hs.heap l,hs.next⟩⟩)
  |_=>none
 |none=>none
def rgF (P:Nat->W_)(params:C_)(a b:VC)(hs:HS)(x:Option (AV×aK)):J_ :=
 match x with
 |some (.fn g first caps,e)=>EZ hs.next e ((Dn P).call g (first++([.yield hs.next]++caps)) ⟨put hs.heap hs.next (.loop (e.map λkv=>(kv.1,share kv.2)) params a b false none),hs.next+1⟩)
 |_=>none
theorem agS {f:Rd}{params:C_}{a b:VC}{e:aK}{hs:HS}:(Dn P).code (.rangeF f params a b) ⟨e,hs⟩=rgF P params a b hs (rd e f):=by
 rw[ic];simp only[cj,AO,rgF]
 cases rd e f with
 |none=>rfl
 |some p =>
  obtain⟨v,e1⟩:=p
  cases v<;>rfl
theorem alS {params:C_}{a b:VC}{h:ak}{n g:Nat}{first caps:D_}{e:aK}:rgF P params a b ⟨h,n⟩ (some (.fn g first caps,e))=EZ n e ((Dn P).call g (first++([.yield n]++caps)) ⟨put h n (.loop (e.map λkv=>(kv.1,share kv.2)) params a b false none),n+1⟩):=rfl
def pdO (o:Obj):Option BD_ :=
 match o with
 |.loop _ _ _ _ false pend=>some pend
 |_=>none
theorem anS {s:aK}{p:C_}{a b:VC}{q:BD_}:pdO (.loop s p a b false q)=some q:=rfl
def pdE (e:aK)(hs:HS)(l:Nat)(q:BD_):J_:=some (q.getD .normal,⟨e,⟨del hs.heap l,hs.next⟩⟩)
theorem aob {e:aK}{h:ak}{n l:Nat}:pdE e ⟨h,n⟩ l none=some (.normal,⟨e,⟨del h l,n⟩⟩):=rfl
theorem aoM {e:aK}{h:ak}{n l:Nat}{o:bD}:pdE e ⟨h,n⟩ l (some o)=some (o,⟨e,⟨del h l,n⟩⟩):=rfl
theorem aow {l n:Nat}{e:aK}{v:AV}{h:ak}:EZ l e (some (v,⟨h,n⟩))=bA (get h l) λo=>bA (pdO o) λq=>pdE e ⟨h,n⟩ l q:=by
 simp only[EZ]
 cases get h l with
 |none=>rfl
 |some o =>
  cases o with
  |loop s p a b busy pend=>cases busy<;>cases pend<;>rfl
  |cells=>rfl
  |arr=>rfl
theorem aoQ {l:Nat}{e:aK}:EZ l e none=none:=rfl
theorem aoI {c:Prop}[Decidable c]{l:Nat}{e:aK}{x y:T_}:EZ l e (if c then x else y)=if c then EZ l e x else EZ l e y:=d_
theorem anh {α:Type}{p:α->Nat->Prop}{r:R α}{l:Nat}{e:aK}{f:α->Nat->T_}{g:Nat->T_}:EZ l e (rK p r f g)=rK p r (λv n=>EZ l e (f v n)) λx=>EZ l e (g x):=tR (EZ l e)
theorem ami {l:Nat}{e:aK}{x y:T_}(h:x=y):EZ l e x=EZ l e y:=by rw[h]
def yB (l:Nat)(x:J_):T_ :=
 match x with
 |none=>none
 |some (o,st)=>match get st.hs.heap l with
  |some (.loop snap params assign body true none) =>
   match o with
   |.normal=>some (.bool true,⟨put st.hs.heap l (.loop snap params assign body false none),st.hs.next⟩)
   |o=>some (.bool false,⟨put st.hs.heap l (.loop snap params assign body false (some o)),st.hs.next⟩)
  |_=>none
def yA (P:Nat->W_)(l:Nat)(body:VC)(x:J_):T_ :=
 match x with
 |some (.normal,st)=>match get st.hs.heap l with
  |some (.loop snap params assign body2 false none)=>yB l ((Dn P).code body ⟨st.env,⟨put st.hs.heap l (.loop snap params assign body2 true none),st.hs.next⟩⟩)
  |_=>none
 |_=>none
def yO (P:Nat->W_)(l:Nat)(args:D_)(hs:HS)(o:Obj):T_ :=
 match o with
 |.loop snap params assign body false none=>bA (s9 snap params args) λe=>yA P l body ((Dn P).code assign ⟨e,hs⟩)
 |_=>none
theorem qH {l:Nat}{args:D_}{hs:HS}:cW (Dn P) (.yield l) args hs=bA (get hs.heap l) λo=>yO P l args hs o:=by
 simp only[cW,rW]
 cases get hs.heap l with
 |none=>rfl
 |some o =>
  cases o with
  |cells=>rfl
  |arr=>rfl
  |loop snap params assign body busy pend =>
   cases busy
   .cases pend with
    |some q=>rfl
    |none =>
     simp only[bA,yO]
     cases s9 snap params args with
     |none=>rfl
     |some e =>
      cases (Dn P).code assign ⟨e,hs⟩ with
      |none=>rfl
      |some p =>
       obtain⟨o,st⟩:=p
       cases o<;>rfl
   .rfl
theorem aqd {l:Nat}{args:D_}{hs:HS}{s:aK}{p:C_}{a b:VC}:yO P l args hs (.loop s p a b false none)=bA (s9 s p args) λe=>yA P l b ((Dn P).code a ⟨e,hs⟩):=rfl
def aif (o:Obj):Option Obj :=
 match o with
 |.loop s p a b false none=>some (.loop s p a b true none)
 |_=>none
theorem ajs {s:aK}{p:C_}{a b:VC}:aif (.loop s p a b false none)=some (.loop s p a b true none):=rfl
theorem aql {l:Nat}{b:VC}{e:aK}{h:ak}{n:Nat}:yA P l b (some (.normal,⟨e,⟨h,n⟩⟩))=bA (get h l) λo=>bA (aif o) λo=>yB l ((Dn P).code b ⟨e,⟨put h l o,n⟩⟩):=by
 simp only[yA]
 cases get h l with
 |none=>rfl
 |some o =>
  cases o with
  |cells=>rfl
  |arr=>rfl
  |loop s p a b busy pend=>cases busy<;>cases pend<;>rfl
def Vs (q:BD_)(o:Obj):Option Obj :=
 match o with
 |.loop s p a b true none=>some (.loop s p a b false q)
 |_=>none
theorem aiI {q:BD_}{s:aK}{p:C_}{a b:VC}:Vs q (.loop s p a b true none)=some (.loop s p a b false q):=rfl
theorem aqD {l:Nat}{e:aK}{h:ak}{n:Nat}:yB l (some (.normal,⟨e,⟨h,n⟩⟩))=bA (get h l) λo=>bA (Vs none o) λo=>some (.bool true,⟨put h l o,n⟩):=by
 simp only[yB]
 cases get h l with
 |none=>rfl
 |some o =>
  cases o with
  |cells=>rfl
  |arr=>rfl
  |loop s p a b busy pend=>cases busy<;>cases pend<;>rfl
theorem arj {l:Nat}{e:aK}{h:ak}{n:Nat}:yB l (some (.ret,⟨e,⟨h,n⟩⟩))=bA (get h l) λo=>bA (Vs (some .ret) o) λo=>some (.bool false,⟨put h l o,n⟩):=by
 simp only[yB]
 cases get h l with
 |none=>rfl
 |some o =>
  cases o with
  |cells=>rfl
  |arr=>rfl
  |loop s p a b busy pend=>cases busy<;>cases pend<;>rfl
theorem aqT {l i:Nat}{e:aK}{h:ak}{n:Nat}:yB l (some (.exit i,⟨e,⟨h,n⟩⟩))=bA (get h l) λo=>bA (Vs (some (.exit i)) o) λo=>some (.bool false,⟨put h l o,n⟩):=by
 simp only[yB]
 cases get h l with
 |none=>rfl
 |some o =>
  cases o with
  |cells=>rfl
  |arr=>rfl
  |loop s p a b busy pend=>cases busy<;>cases pend<;>rfl
theorem aqv {l:Nat}:yB l none=none:=rfl
theorem ap4 {c:Prop}[Decidable c]{l:Nat}{x y:J_}:yB l (if c then x else y)=if c then yB l x else yB l y:=d_
theorem aqW {α:Type}{p:α->Nat->Prop}{r:R α}{l:Nat}{f:α->Nat->J_}{g:Nat->J_}:yB l (rK p r f g)=rK p r (λv n=>yB l (f v n)) λx=>yB l (g x):=tR (yB l)
theorem anZ {l:Nat}{x y:J_}(h:x=y):yB l x=yB l y:=by rw[h]
theorem aoW {l:Nat}{b:VC}{x y:J_}(h:x=y):yA P l b x=yA P l b y:=by rw[h]
attribute [simp ↓] agS alS anS aob aoM aow aoQ aoI anh aqd ajs aql aiI aqD arj aqT aqv ap4 aqW qH
attribute [congr] ami anZ aoW
attribute [simp] s9
def ao (m:Nat)(xs:F_):AV:=match xs with
 |[]=>.nl
 |x::r=>.own false m (x::r)
theorem c9 {m:Nat}:ao m []=.nl:=rfl
theorem dA {m:Nat}{xs:F_}{y:U_}:ao m (xs++[y])=.own false m (xs++[y]):=by cases xs<;>rfl
theorem fZ {m:Nat}{xs:F_}(h:xs≠[]):ao m xs=.own false m xs:=by cases xs with|nil=>exact absurd rfl h|cons=>rfl
@[simp] theorem asV {m:Nat}{xs:F_}:firm (ao m xs)=ao m xs:=by cases xs<;>rfl
@[simp] theorem akf {m:Nat}{xs:F_}:nC (ao m xs)=ao m xs:=by cases xs<;>rfl
@[simp] theorem ai7 {m:Nat}{xs:F_}:oD (ao m xs)=ao m xs:=by cases xs<;>rfl
@[simp] theorem Gk {m:Nat}{xs:F_}(h:xs≠[]):share (ao m xs)=.d (.lst xs):=by rw[fZ h];simp
@[simp] theorem at4 {m:Nat}{xs:F_}:BA (ao m xs)=some (.lst xs):=by cases xs<;>rfl
@[simp] theorem asf {m:Nat}{xs:F_}:AV.cells (ao m xs)=[ao m xs]:=by cases xs<;>rfl
@[simp] theorem ahx {m:Nat}{xs:F_}:b9 (ao m xs)=true:=by cases xs<;>rfl
@[simp] theorem asa {h:ak}{m:Nat}{xs:F_}:elems h (ao m xs)=some xs:=by cases xs<;>rfl
@[simp] theorem arG {h:ak}{m:Nat}{xs:F_}:fG h (ao m xs)=some (ao m xs,h):=by cases xs<;>rfl
@[simp] theorem atN {m:Nat}{h:ak}{xs:F_}{y:U_}(hy:y.length=m)(hl:xs.length<1000000000):SR m h (ao m xs) (.own false m [y])=some (.own (decide (xs=[])) m (xs++[y]),h):=by
 subst hy
 cases xs with
 |nil=>simp[ao,elems,decide_true]
 |cons x r=>simp[ao,elems];simp at hl;omega
@[simp] theorem at6 {m:Nat}{h:ak}{xs:F_}{y:U_}(hl:xs.length<1000000000):da m h (ao m xs) [y]=some (.own (decide (xs=[])) m (xs++[y]),h):=by
 cases xs with
 |nil=>simp[ao,decide_true]
 |cons x r=>simp[ao];simp at hl;omega
def agj (o:Obj)(h:ak)(id off len:Nat):AD_ :=
 match o with
 |.arr m xs=>cX (Nat.ble (off+len) xs.length) (some (.own true m (sub xs off len),del h id))
 |_=>none
@[simp ↓] theorem aty {m:Nat}{xs:F_}{h:ak}{id off len:Nat}:agj (.arr m xs) h id off len=cX (Nat.ble (off+len) xs.length) (some (.own true m (sub xs off len),del h id)):=(rfl)
@[simp] theorem asW {h:ak}{id off len:Nat}:jF h (.sl id off len)=bA (get h id) λo=>agj o h id off len:=by
 simp only[jF]
 cases get h id with
 |none=>rfl
 |some o =>
  cases o with
  |arr m xs=>simp only[bA,agj];cases Nat.ble (off+len) xs.length<;>rfl
  |cells cs=>rfl
  |loop=>rfl
theorem HH:∀{l:C_}{g:G_}{t:Int},g≠[]->(∀n∈g,0<=n∧n+l.length<=t)->1+l.length<=t->∀n∈grow g l,0<=n∧n<=t
 |[],g,t,h0,h,ht,n,hn=>by grind [grow]
 |x::r,g,t,h0,h,ht,n,hn=>by
  rw[grow]at hn;have hl:=bm.2 h0;simp only[aE]at h ht;by_cases hx:x=1
  .have h1:=h _ (jN (l:=g) (i:=g.length-1) o_);refine HH (l:=r) (t:=t) (λh2=>?_) (λy hy=>?_) o_ n hn
   all_goals grind [List.length_nil]
  .rw[aa hx]at hn;refine HH (l:=r) (t:=t) s_ (λy hy=>?_) o_ n hn
   grind
theorem In:∀{l:C_}{g:G_},(grow g l).length<=g.length+l.length
 |[],g=>by simp[grow]
 |x::r,g=>by
  rw[grow];have:=In (l:=r) (g:=if x=1 then g.set (g.length-1) (nth g (g.length-1)+1) else g++[1])
  grind
theorem QT {b:C_}:∀{k:Nat}{st:RS},(sL b k st).length=k
 |0,_=>rfl
 |k+1,_=>by simp[sL,QT (k:=k)]
theorem NB (r m:Int)(q s:Nat)(g:G_)(hq:q<=255)(hs:s<=255)(hm:i64 m)(hg:g.length<=100)(h:∀n∈g,0<=n∧n<=100):bl prog tV [A_ r,.agg [.d (.int .u8 q),.d (.int .u8 s),A_ m,.d (.lst (am g))]]=if de r then if ay.may r.toNat ⟨q,s,m,g⟩ then some (A_ 0) else some (A_ 8) else some (A_ 2) :=
 CY r ⟨q,s,m,g⟩ ⟨hq,hs,hm,d_,λn hn=>by grind⟩
def sG (b:C_)(st:RS):G_:=grow [1] (sL b 7 st)
theorem X5 {b:C_}{st:RS}:4<=nm (sG b st)∧(sG b st).length<=100∧∀n∈sG b st,0<=n∧n<=100:=by
 have h1:=In (l:=sL b 7 st) (g:=[1]);rw[QT]at h1;have h2:=HH (l:=sL b 7 st) (g:=[1]) (t:=100) s_ (by simp[QT]) (by rw[QT];omega);refine⟨?_,by grind [sG],h2⟩;have:sG b st≠[]:=by
  unfold sG;have:∀(l:C_) (g:G_),g≠[]->grow g l≠[]:=by
   intro l
   induction l<;>grind [grow]
  simp_all
 exact aqL this
theorem ZP (b:C_)(r o m:Int)(q s:Nat)(st:RS)(hb:b.length<=1000000000)(hs:st.fit) :
  (Dn prog).code (.loop rT) ⟨[(2,AV.d (D.int IntKind.i64 r)),(6,AV.ptr 1 0),(7,AV.ptr 2 0),(8,AV.ptr 3 0),
           (9,AV.fn ta [] [AV.ptr 3 0,AV.ptr 0 0,AV.ptr 2 0]),(10,A_ o),(40,A_ 0)],⟨[(0,.cells [.d (.lst (aT b))]),(1,.cells [.d (.int .u8 q),.d (.int .u8 s),A_ m,.sl 4 0 1]),(2,.cells [A_ (ra st)]),(3,.cells [A_ (re st)]),(4,.arr 1 [[.int .i64 1]])],5⟩⟩ =
   some (.exit 0,⟨[(2,AV.d (D.int IntKind.i64 r)),(6,AV.ptr 1 0),(7,AV.ptr 2 0),(8,AV.ptr 3 0),(10,A_ o)],⟨[(0,.cells [.d (.lst (aT b))]),(1,.cells [.d (.int .u8 q),.d (.int .u8 s),A_ m,.sl (nm (sG b st)) 0 (sG b st).length]),
           (2,.cells [A_ (ra (EK b 7 st))]),(3,.cells [A_ (re (EK b 7 st))]),(nm (sG b st),.arr 1 (am (sG b st)))],4+(sG b st).length⟩⟩) :=
 Y6 b r o m q s hb 7 0 [1] st 0 rfl rfl s_ s_ s_ hs
theorem V2 {b:C_}{st:RS}:sV b st 1<=1:=by have:=jT (b:=b) (st:=st) (s:=1);grind
theorem amt {b:C_}{st:RS}:sV b st 2<=3:=by have:=jT (b:=b) (st:=st) (s:=2);grind
theorem arx {b:C_}{st:RS}:sV b st 4<=15:=by have:=jT (b:=b) (st:=st) (s:=4);grind
theorem aqr {b:C_}{st:RS}:sV b st 6<=63:=by have:=jT (b:=b) (st:=st) (s:=6);grind
theorem aoc {a:Int}:ra ⟨a,0⟩=a:=rfl
theorem anu {a:Int}:re ⟨a,0⟩=0:=rfl
theorem Nm (b:C_)(s a:Int)(X:Obj)(R:ak)(N:Nat)(hb:b.length<=1000000000)(ha:i64 a):(Dn prog).call ta [A_ s,.ptr 3 0,.ptr 0 0,.ptr 2 0] ⟨(0,.cells [.d (.lst (aT b))])::(1,X)::(2,.cells [A_ a])::(3,.cells [A_ 0])::R,N⟩ =
  some (A_ (sV b ⟨a,0⟩ s),⟨(0,.cells [.d (.lst (aT b))])::(1,X)::(2,.cells [A_ (ra (sN b ⟨a,0⟩ s))])::(3,.cells [A_ (re (sN b ⟨a,0⟩ s))])::R,N⟩) :=
 yr b s ⟨a,0⟩ X R N hb ha
def R.bind {α β:Type}(x:R α)(f:α->Nat->R β):R β :=
 match x with
 |.ok v n=>f v n
 |.er e=>.er e
@[simp] theorem au {α β:Type}{v:α}{n:Nat}{f:α->Nat->R β}:R.bind (.ok v n) f=f v n:=rfl
@[simp] theorem cg {α β:Type}{e:Nat}{f:α->Nat->R β}:R.bind (.er e) f=.er e:=rfl
def SD {α:Type}(c:Prop)[Decidable c](v:α)(n:Nat):R α:=if c then .ok v n else .er 7
def iH (b:C_):Nat->Nat->R C_
 |0,a=>.ok [] a
 |k+1,a=>(aN b a 1).bind λv n=>(iH b k n).bind λl m=>.ok (v::l) m
def np (b:C_)(a:Int)(r:Nat):R ay :=
 (aN b a 1).bind λo n=>(aN b n 2).bind λq n=>(aN b n 1).bind λs n =>
 if q=2 then (aN b n 4).bind λm n=>(iH b 7 n).bind λl n=>SD (o=0∧ay.may r ⟨q,s,m,grow [1] l⟩) ⟨q,s,m,grow [1] l⟩ n
 else (aN b n 6).bind λm n=>(aN b n 1).bind λp n=>SD ((o=0∧p=0)∧ay.may r ⟨q,s,m,[1]⟩) ⟨q,s,m,[1]⟩ n
theorem ky {b:C_}{a s:Int}{v n:Nat}(h:aN b a s=.ok v n):sV b ⟨a,0⟩ s=v∧sN b ⟨a,0⟩ s=⟨n,0⟩:=by
 grind [sV,sN,vO,nO,eO]
theorem Bc {b:C_}{a s:Int}{e:Nat}(h:aN b a s=.er e):sV b ⟨a,0⟩ s=0∧sN b ⟨a,0⟩ s=⟨0,e+1⟩:=by
 grind [sV,sN,vO,nO,eO]
theorem Pc {b:C_}{a s:Int}{e:Nat}:sV b ⟨a,e+1⟩ s=0∧sN b ⟨a,e+1⟩ s=⟨a,e+1⟩:=by
 grind [sV,sN]
theorem Vg {b:C_}{a:Int}{e:Nat}:∀{k:Nat},EK b k ⟨a,e+1⟩=⟨a,e+1⟩
 |0=>rfl
 |k+1=>by rw[EK,Pc.2,Vg]
theorem alj {b:C_}:∀{k a:Nat},match iH b k a with
  |.ok l n=>sL b k ⟨a,0⟩=l∧EK b k ⟨a,0⟩=⟨n,0⟩∧(0<k->n<=b.length)
  |.er e=>EK b k ⟨a,0⟩=⟨0,e+1⟩
 |0,a=>⟨rfl,rfl,λh=>absurd h o_⟩
 |k+1,a=>by
  simp only[iH,sL,EK]
  cases h:aN b a 1 with
  |ok v n =>
   have hp:=(b3 h).2;rw[(ky h).1,(ky h).2,au];have ih:=alj (b:=b) (k:=k) (a:=n)
   cases h2:iH b k n with
   |ok l m =>
    rw[h2]at ih;refine⟨by rw[ih.1],ih.2.1,λ_=>?_⟩
    cases k<;>grind [iH]
   |er e=>simp_all
  |er e=>simp_all [Bc,Vg]
abbrev fy:D_:=[.d (.int .u8 0),.d (.int .u8 0),A_ 0,.nl]
abbrev FT (i:ay):D_:=[.d (.int .u8 i.seq),.d (.int .u8 i.shape),A_ i.max,.own true 1 (am i.groups)]
set_option maxHeartbeats 4000000 in
theorem aeG (b:C_)(a r:Int)(hb:b.length<=1000000000)(ha:i64 a)(hr:de r)(s1 s2 s3 s4:RS)(e1:s1=sN b ⟨a,0⟩ 1)(e2:s2=sN b s1 2)(e3:s3=sN b s2 1)(e4:s4=sN b s3 4)(hq:sV b s1 2=2):bl prog CR [.d (.lst (aT b)),A_ a,A_ r] =
  if re (EK b 7 s4)=0 then if sV b ⟨a,0⟩ 1=0∧ay.may r.toNat ⟨sV b s1 2,sV b s2 1,sV b s3 4,sG b s4⟩ then some (.tup [.agg (FT ⟨sV b s1 2,sV b s2 1,sV b s3 4,sG b s4⟩),A_ (ra (EK b 7 s4)),A_ 0])
   else some (.tup [.agg fy,A_ 0,A_ 8])
  else some (.tup [.agg fy,A_ 0,A_ (re (EK b 7 s4))]):=by
 rw[aM I4 Jc rfl];have f1:s1.fit:=e1▸ek hb ha;have f2:s2.fit:=e2▸ek hb f1;have f3:s3.fit:=e3▸ek hb f2;have f4:s4.fit:=e4▸ek hb f3;have v1:=V2 (b:=b) (st:=⟨a,0⟩);have v2:=amt (b:=b) (st:=s1);have v3:=V2 (b:=b) (st:=s2);have v4:=arx (b:=b) (st:=s3);obtain⟨g1,g2,g3⟩:=X5 (b:=b) (st:=s4);simp(maxSteps:=9^6)(disch:=first|omega|assumption) [il,↓ac,↓aa,yr,Nm,ZP,NB,<-e1,<-e2,<-e3,<-e4,Qw,aeE]
set_option maxHeartbeats 4000000 in
theorem adl (b:C_)(a r:Int)(hb:b.length<=1000000000)(ha:i64 a)(hr:de r)(s1 s2 s3 s4 s5:RS)(e1:s1=sN b ⟨a,0⟩ 1)(e2:s2=sN b s1 2)(e3:s3=sN b s2 1)(e4:s4=sN b s3 6)(e5:s5=sN b s4 1)(hq:sV b s1 2≠2):bl prog CR [.d (.lst (aT b)),A_ a,A_ r] =
  if re s5=0 then if (sV b ⟨a,0⟩ 1=0∧sV b s4 1=0)∧ay.may r.toNat ⟨sV b s1 2,sV b s2 1,sV b s3 6,[1]⟩ then some (.tup [.agg (FT ⟨sV b s1 2,sV b s2 1,sV b s3 6,[1]⟩),A_ (ra s5),A_ 0])
   else some (.tup [.agg fy,A_ 0,A_ 8])
  else some (.tup [.agg fy,A_ 0,A_ (re s5)]):=by
 rw[aM I4 Jc rfl];have f1:s1.fit:=e1▸ek hb ha;have f2:s2.fit:=e2▸ek hb f1;have f3:s3.fit:=e3▸ek hb f2;have f4:s4.fit:=e4▸ek hb f3;have v1:=V2 (b:=b) (st:=⟨a,0⟩);have v2:=amt (b:=b) (st:=s1);have v3:=V2 (b:=b) (st:=s2);have v4:=aqr (b:=b) (st:=s3);have v5:=V2 (b:=b) (st:=s4);have hc:=NB r (sV b s3 6) (sV b s1 2) (sV b s2 1) [1] o_ o_ o_ s_ s_;have h1:am [1]=[[.int .i64 1]]:=rfl;rw[h1]at hc;simp(maxSteps:=9^6)(disch:=first|omega|assumption) [il,↓ac,↓aa,yr,Nm,hc,<-e1,<-e2,<-e3,<-e4,<-e5,Qw,aeE,am];rfl
abbrev pI (b:C_)(r:Nat)(i:ay)(n:Nat):Prop:=i.may r∧n<=b.length∧i.groups.length<=100
theorem MJ {α γ:Type}{p:α->Nat->Prop}{c:Prop}[Decidable c]{v:α}{n:Nat}{f:α->Nat->γ}{g:Nat->γ}(h:c->p v n):rK p (SD c v n) f g=if c then f v n else g 7:=by
 grind [SD,bJ,dp]
theorem ahu (b:C_)(a r:Int)(hb:b.length<=1000000000)(ha:i64 a):bl prog CR [.d (.lst (aT b)),A_ a,A_ r] =
  if de r then rK (pI b r.toNat) (np b a r.toNat) (λi n=>some (.tup [.agg (FT i),A_ n,A_ 0])) λe=>some (.tup [.agg fy,A_ 0,A_ (e+1)])
  else some (.tup [.agg fy,A_ 0,A_ 2]):=by
 by_cases hr:de r
 .rw[ac hr];unfold np;by_cases hq:sV b (sN b ⟨a,0⟩ 1) 2=2
  .rw[aeG b a r hb ha hr _ _ _ _ rfl rfl rfl rfl hq]
   cases h1:aN b a 1 with
   |er e=>simp_all [Bc,Pc]
   |ok o n =>
    rw[(ky h1).2]at hq⊢;rw[(ky h1).1,au]
    cases h2:aN b n 2 with
    |er e=>simp_all [Bc]
    |ok q n =>
     rw[(ky h2).1]at hq⊢;rw[(ky h2).2,au]
     cases h3:aN b n 1 with
     |er e=>simp_all [Bc,Pc,Vg,re]
     |ok s n =>
      rw[(ky h3).2,(ky h3).1,au,ac hq]
      cases h4:aN b n 4 with
      |er e=>simp_all [Bc,Vg,re]
      |ok m n =>
       rw[(ky h4).2,(ky h4).1,au];have h5:=alj (b:=b) (k:=7) (a:=n);have h6:=(X5 (b:=b) (st:=⟨n,0⟩)).2.1;unfold sG at h6⊢
       cases h7:iH b 7 n with
       |er e=>simp_all [re]
       |ok l n =>
        grind [au,MJ,re,ra]
  .rw[adl b a r hb ha hr _ _ _ _ _ rfl rfl rfl rfl rfl hq]
   cases h1:aN b a 1 with
   |er e=>simp_all [Bc,Pc,re]
   |ok o n =>
    rw[(ky h1).2]at hq⊢;rw[(ky h1).1,au]
    cases h2:aN b n 2 with
    |er e=>simp_all [Bc,Pc,re]
    |ok q n =>
     rw[(ky h2).1]at hq⊢;rw[(ky h2).2,au]
     cases h3:aN b n 1 with
     |er e=>simp_all [Bc,Pc,re]
     |ok s n =>
      rw[(ky h3).2,(ky h3).1,au,aa hq]
      cases h4:aN b n 6 with
      |er e=>simp_all [Bc,Pc,re]
      |ok m n =>
       rw[(ky h4).2,(ky h4).1,au]
       cases h5:aN b n 1 with
       |er e=>simp_all [Bc,re]
       |ok p n =>
        rw[(ky h5).2,(ky h5).1,au,MJ (λh=>⟨h.2,(b3 h5).2,s_⟩)];simp[re,ra]
 .rw[aa hr,aM I4 Jc rfl];simp(disch:=first|omega|assumption) [il,↓aa]
@[simp] theorem apM {g:G_}{x:Int}:(am (g++[x]))[g.length]?=some [.int .i64 x]:=by simp[am]
theorem dT {α β γ:Type}{p:α->Nat->Prop}{q:β->Nat->Prop}{x:R β}{f:β->Nat->R α}{F:α->Nat->γ}{G:Nat->γ}(h:∀v n,x=.ok v n->q v n):rK p (x.bind f) F G=rK q x (λv n=>rK p (f v n) F G) G:=by
 cases x with
 |ok v n=>rw[au,bJ (h v n rfl)]
 |er e=>rfl
theorem iR {α γ:Type}{p:α->Nat->Prop}{b:C_}{a s:Int}{f:Nat->Nat->R α}{F:α->Nat->γ}{G:Nat->γ}:rK p ((aN b a s).bind f) F G=rK (pG b s) (aN b a s) (λv n=>rK p (f v n) F G) G:=dT λ_ _ h=>b3 h
abbrev pB (b:C_)(k:Nat)(l:C_)(n:Nat):Prop:=l.length=k∧n<=b.length∧∀x∈l,x<=1
theorem aac {b:C_}:∀{k a:Nat}{l:C_}{n:Nat},a<=b.length->iH b k a=.ok l n->pB b k l n
 |0,a,l,n,ha,h=>by
  simp only[iH]at h;injection h with h1 h2
  subst h1 h2;exact⟨rfl,ha,s_⟩
 |k+1,a,l,n,ha,h=>by
  simp only[iH]at h
  cases h1:aN b a 1 with
  |er e=>rw[h1]at h;exact absurd h (by simp)
  |ok v m =>
   rw[h1,au]at h;have hp:=b3 h1
   cases h2:iH b k m with
   |er e=>rw[h2]at h;exact absurd h (by simp)
   |ok l2 m2 =>
    rw[h2,au]at h;injection h with h3 h4
    subst h3 h4;obtain⟨i1,i2,i3⟩:=aac hp.2 h2;refine⟨by simp[i1],i2,λx hx=>?_⟩;have:=hp.1;simp at this;rcases aQ.1 hx with e|e
    .omega
    .exact i3 x e
theorem VS {α γ:Type}{p:α->Nat->Prop}{b:C_}{a k:Nat}{f:C_->Nat->R α}{F:α->Nat->γ}{G:Nat->γ}(h:a<=b.length):rK p ((iH b k a).bind f) F G=rK (pB b k) (iH b k a) (λv n=>rK p (f v n) F G) G:=dT λ_ _ h2=>aac h h2
theorem aiP {γ:Type}{b:C_}{a k:Nat}{F:C_->Nat->γ}{G:Nat->γ}:rK (pB b (k+1)) (iH b (k+1) a) F G=rK (pG b 1) (aN b a 1) (λv n=>rK (pB b k) (iH b k n) (λl m=>F (v::l) m) G) G:=by
 rw[iH,iR];refine bL (λ_ _=>rfl) (λv n hp=>?_) λ_=>rfl
 rw[VS hp.2];refine bL (λ_ _=>rfl) (λl m hq=>?_) λ_=>rfl
 rw[bJ];refine⟨by simp[hq.1],hq.2.1,λx hx=>?_⟩;have:=hp.1;simp at this;rcases aQ.1 hx with e|e
 .omega
 .exact hq.2.2 x e
theorem aji {γ:Type}{b:C_}{a:Nat}{F:C_->Nat->γ}{G:Nat->γ}(h:a<=b.length):rK (pB b 0) (iH b 0 a) F G=F [] a:=by
 rw[iH,bJ ⟨rfl,h,s_⟩]
abbrev ahU:AV:=.own false 1 [[.int .i64 4],[.int .i64 1],[.int .i64 1],[.int .i64 1],[.int .i64 1],[.int .i64 1],[.int .i64 1],[.int .i64 1]]
theorem ae1 {i:Nat}(h0:1<=i)(h:i<8):[[D.int IntKind.i64 4],[D.int IntKind.i64 1],[D.int IntKind.i64 1],[D.int IntKind.i64 1],[D.int IntKind.i64 1],[D.int IntKind.i64 1],[D.int IntKind.i64 1],[D.int IntKind.i64 1]][i]?=some [.int .i64 1]:=by
 match i,h0,h with
 |1,_,_|2,_,_|3,_,_|4,_,_|5,_,_|6,_,_|7,_,_=>rfl
theorem W0 (b:C_)(r:Int)(hb:b.length<=1000000000)(id N:Nat)(hs:ak):∀(k i a:Nat) (L:F_) (I:Int),I=i->i+k=8->1<=i->a<=b.length->L.length+k<=100->
  (Dn prog).code (.loop dS) ⟨[(0,.d (.lst (aT b))),(1,A_ a),(2,A_ r),(6,.ptr 0 0),(9,.own false 1 L),(15,ahU),(16,A_ I)],⟨[(0,.cells fy)],N⟩⟩ =
   rK (pB b k) (iH b k a) (λl n=>some (.exit 2,⟨[(1,A_ n),(2,A_ r),(6,.ptr 0 0),(9,.own false 1 (L++aF l))],⟨[(0,.cells fy)],N⟩⟩))
    (λe=>some (.ret,⟨[(6,.ptr 0 0),(7,A_ 0),(8,A_ (e+1))],⟨[(0,.cells fy)],N⟩⟩)):=by
 intro k
 induction k with
 |zero =>
  intro i a L I hI hi h1 ha hl;subst hI;rw[ah jX,aji ha];simp(disch:=omega)[aa,aF]
 |succ k ih =>
  intro i a L I hI hi h1 ha hl;subst hI;rw[ah jX,aiP];simp(maxSteps:=9^6)(disch:=first|omega|assumption) [ac,aa,ae1,gB];refine bL (λ_ _=>rfl) (λv n hp=>?_) λ_=>rfl
  rw[ih (i+1) n _ _ o_ o_ o_ hp.2 g_];simp[aF]
abbrev Vh (n r o q s m O k:Int)(l:C_):aK:=[(1,A_ n),(2,A_ r),(6,.ptr 0 0),(9,.own false 1 ([.int .i64 o]::[.int .i64 q]::[.int .i64 s]::[.int .i64 m]::aF l)),(20,.ptr 2 0),(21,A_ O),(22,A_ k)]
abbrev Va (n r O:Int):aK:=[(1,A_ n),(2,A_ r),(6,.ptr 0 0),(20,.ptr 2 0),(21,A_ O)]
abbrev hpA (q s:Nat)(m:Int)(g:G_):HS:=⟨[(0,.cells fy),(2,.cells [.d (.int .u8 q),.d (.int .u8 s),A_ m,.sl (g.length+1) 0 g.length]),(g.length+1,.arr 1 (am g))],g.length+2⟩
abbrev hpB (q s:Nat)(m:Int)(x:Int):HS:=⟨[(0,.cells fy),(1,.arr 1 [[.int .i64 x]]),(2,.cells [.d (.int .u8 q),.d (.int .u8 s),A_ m,.sl 1 0 1])],3⟩
theorem U3 (n r o m O:Int)(q s:Nat)(l:C_)(hl7:l.length=7)(hl1:∀x∈l,x<=1):∀(k i:Nat) (g:G_) (I:Int),I=i+4->i+k=7->2<=g.length->g.length+k<=100->(∀n∈g,0<=n∧n+k<=100)->
  (Dn prog).code (.loop fb) ⟨Vh n r o 2 s m O I l,hpA q s m g⟩=some (.exit 4,⟨Va n r O,hpA q s m (grow g (l.drop i))⟩):=by
 intro k
 induction k with
 |zero =>
  intro i g I hI hi hg hl hn;subst hI;rw[ah gG,b5 o_];simp(disch:=omega)[aa,ac,grow]
 |succ k ih =>
  intro i g I hI hi hg hl hn;subst hI;have hx:=hl1 _ (jN (l:=l) (i:=i) o_);have hv:=hn _ (jN (l:=g) (i:=g.length-1) o_);rw[ah gG,lZ o_,grow];have e1:((i:Int)+4).toNat=i+4:=o_;by_cases h1:nth l i=1
  .have hs:(g.set (g.length-1) (nth g (g.length-1)+1)).length=g.length:=s_;have h:=ih (i+1) (g.set (g.length-1) (nth g (g.length-1)+1)) (i+4+1) o_ o_ (by rw[hs];omega) (by rw[hs];omega) (λx hx=>by
    rcases dU hx with h|h
    .have:=hn x h;omega
    .omega)
   simp only[hpA,hs]at h;rw[ac h1,<-h];simp(maxSteps:=9^6)(disch:=first|omega|assumption) [ac,aa,e1]
  .have h:=ih (i+1) (g++[1]) (i+4+1) o_ o_ g_ g_ (λx hx=>by
    rcases bq.1 hx with h|h
    .have:=hn x h;omega
    .simp at h;omega)
   have e2:g.length+1+1=g.length+2:=rfl;have e3:g.length+1+2=g.length+3:=rfl;simp only[hpA,bt,aE,ck,cQ,e2,e3]at h;rw[aa h1,<-h];have h0:nth l i=0:=o_;have hg0:g≠[]:=λh=>by rw[h]at hg;simp at hg
   simp(maxSteps:=9^6)(disch:=first|omega|assumption) [ac,aa,e1,h0,hg0]
theorem US (n r o m O:Int)(q s:Nat)(l:C_)(hl7:l.length=7)(hl1:∀x∈l,x<=1):∀(k i:Nat) (x:Int) (I:Int),I=i+4->i+k=7->0<=x∧x+k<=100->
  (Dn prog).code (.loop fb) ⟨Vh n r o 2 s m O I l,hpB q s m x⟩=some (.exit 4,⟨Va n r O,if (grow [x] (l.drop i)).length=1 then hpB q s m (nth (grow [x] (l.drop i)) 0) else hpA q s m (grow [x] (l.drop i))⟩):=by
 intro k
 induction k with
 |zero =>
  intro i x I hI hi hx;subst hI;rw[ah gG,b5 o_];simp(disch:=omega)[aa,ac,grow];rfl
 |succ k ih =>
  intro i x I hI hi hx;subst hI;have hx:=hl1 _ (jN (l:=l) (i:=i) o_);rw[ah gG,lZ o_,grow];have e1:((i:Int)+4).toNat=i+4:=o_;by_cases h1:nth l i=1
  .have h:=ih (i+1) (x+1) (i+4+1) o_ o_ o_;have e2:[x].set ([x].length-1) (nth [x] ([x].length-1)+1)=[x+1]:=rfl;rw[ac h1,e2,<-h];simp(maxSteps:=9^6)(disch:=first|omega|assumption) [ac,aa,e1]
  .have h:=U3 n r o m O q s l hl7 hl1 k (i+1) ([x]++[1]) (i+4+1) o_ o_ s_ g_ g_;have h2:(grow ([x]++[1]) (l.drop (i+1))).length≠1:=by
    have:∀(l:C_) (g:G_),2<=g.length->2<=(grow g l).length:=by
     intro l
     induction l with
     |nil=>intro g h;simpa [grow]
     |cons x r ih =>
      intro g h;rw[grow];refine ih _ ?_;split
      .simpa using h
      .simp;omega
    have:=this (l.drop (i+1)) ([x]++[1]) s_;omega
   rw[aa h1,aa h2,<-h];have h0:nth l i=0:=o_;simp(maxSteps:=9^6)(disch:=first|omega|assumption) [ac,aa,e1,h0,am];rfl
theorem H4 (r m:Int)(q s:Nat)(g:G_)(hr:de r)(hq:q<=255)(hs:s<=255)(hm:i64 m)(hg:g.length<=100)(h:∀n∈g,0<=n∧n<=100):bl prog gC [A_ r,.agg [.d (.int .u8 q),.d (.int .u8 s),A_ m,.d (.lst (am g))]]=if ay.may r.toNat ⟨q,s,m,g⟩ then some (B_ true) else some (B_ false) :=
 ER r ⟨q,s,m,g⟩ ⟨hq,hs,hm,by simp;omega,λn hn=>by have:=h n hn;omega⟩ hr
theorem Ti (b:C_)(r:Int)(N a:Nat)(L:F_)(hb:b.length<=1000000000)(ha:a<=b.length)(hl:L.length<=50) :
  (Dn prog).code (.loop dS) ⟨[(0,.d (.lst (aT b))),(1,A_ a),(2,A_ r),(6,.ptr 0 0),(9,.own false 1 L),(15,ahU),(16,A_ 0)],⟨[(0,.cells fy)],N⟩⟩ =
   rK (pG b 4) (aN b a 4) (λm n=>rK (pB b 7) (iH b 7 n) (λl n=>some (.exit 2,⟨[(1,A_ n),(2,A_ r),(6,.ptr 0 0),(9,.own false 1 (L++[[.int .i64 m]]++aF l))],⟨[(0,.cells fy)],N⟩⟩))
    (λe=>some (.ret,⟨[(6,.ptr 0 0),(7,A_ 0),(8,A_ (e+1))],⟨[(0,.cells fy)],N⟩⟩)))
    (λe=>some (.ret,⟨[(6,.ptr 0 0),(7,A_ 0),(8,A_ (e+1))],⟨[(0,.cells fy)],N⟩⟩)):=by
 rw[ah jX];simp(maxSteps:=9^6)(disch:=first|omega|assumption) [ac,aa,gB];refine bL (λ_ _=>rfl) (λv n hp=>?_) λ_=>rfl
 have:=W0 b r hb 0 N [] 7 1 n (L++[[.int .i64 v]]) 1 o_ o_ o_ hp.2 g_;rw[this];simp
theorem Sx (b:C_)(r:Int)(N a:Nat)(L:F_)(hb:b.length<=1000000000)(ha:a<=b.length)(hl:L.length<=50) :
  (Dn prog).code (.loop dS) ⟨[(0,.d (.lst (aT b))),(1,A_ a),(2,A_ r),(6,.ptr 0 0),(9,.own false 1 L),(15,.own false 1 [[.int .i64 6],[.int .i64 1]]),(16,A_ 0)],⟨[(0,.cells fy)],N⟩⟩ =
   rK (pG b 6) (aN b a 6) (λm n=>rK (pG b 1) (aN b n 1) (λp n=>some (.exit 2,⟨[(1,A_ n),(2,A_ r),(6,.ptr 0 0),(9,.own false 1 (L++[[.int .i64 m],[.int .i64 p]]))],⟨[(0,.cells fy)],N⟩⟩))
    (λe=>some (.ret,⟨[(6,.ptr 0 0),(7,A_ 0),(8,A_ (e+1))],⟨[(0,.cells fy)],N⟩⟩)))
    (λe=>some (.ret,⟨[(6,.ptr 0 0),(7,A_ 0),(8,A_ (e+1))],⟨[(0,.cells fy)],N⟩⟩)):=by
 simp(maxSteps:=9^6)(disch:=first|omega|assumption) [ac,aa,gB,ah jX]
abbrev j8:=@List.drop_zero
abbrev WY:VC:=.seq jp
 (.seq mQ
 (.seq (.seq mX
 (.cond (.m 105)
 mN
 .skip))
 (.seq (.seq mR
 (.block 4
 (.seq (.loop fb) (K [9,22]))))
 (.seq (.seq nc
 (.cond (.m 148)
 (.seq (K [1,20]) (.seq mT
 .ret))
 .skip))
 (.seq mU
 .ret)))))
theorem afN (n r:Int)(o s m p:Nat)(q:Nat)(hr:de r)(hq:q<=3)(hq2:q≠2)(hs:s<=1)(ho:o<=1)(hp:p<=1)(hm:m<=63):kH (lF [.cell 6 (some 4),.tmp 7,.tmp 8] ((Dn prog).code WY ⟨[(1,A_ n),(2,A_ r),(6,.ptr 0 0),(9,.own false 1 [[.int .i64 o],[.int .i64 q],[.int .i64 s],[.int .i64 m],[.int .i64 p]])],⟨[(0,.cells fy)],1⟩⟩)) =
  if (o=0∧p=0)∧ay.may r.toNat ⟨q,s,m,[1]⟩ then some (.tup [.agg (FT ⟨q,s,m,[1]⟩),A_ n,A_ 0]) else some (.tup [.agg fy,A_ 0,A_ 8]):=by
 have hc:=H4 r m q s [1] hr o_ o_ o_ s_ s_;have h1:am [1]=[[.int .i64 1]]:=rfl;rw[h1]at hc;have h2:(o:Int)+p=0↔o=0∧p=0:=o_;simp(maxSteps:=9^6)(disch:=first|omega|assumption|exact cN rfl) [ac,aa,hc,ah gG,h2];rfl
theorem agr (n r:Int)(o s m:Nat)(l:C_)(hr:de r)(hs:s<=1)(ho:o<=1)(hm:m<=63)(hl:l.length=7)(hl1:∀x∈l,x<=1):kH (lF [.cell 6 (some 4),.tmp 7,.tmp 8] ((Dn prog).code WY ⟨[(1,A_ n),(2,A_ r),(6,.ptr 0 0),(9,.own false 1 ([.int .i64 o]::[.int .i64 2]::[.int .i64 s]::[.int .i64 m]::aF l))],⟨[(0,.cells fy)],1⟩⟩)) =
  if o=0∧ay.may r.toNat ⟨2,s,m,grow [1] l⟩ then some (.tup [.agg (FT ⟨2,s,m,grow [1] l⟩),A_ n,A_ 0]) else some (.tup [.agg fy,A_ 0,A_ 8]):=by
 have g1:=In (l:=l) (g:=[1]);have g2:=HH (l:=l) (g:=[1]) (t:=100) s_ g_ o_;have hlo:=US n r o m o 2 s l hl hl1 7 0 1 4 o_ o_ o_;have c2:((2:Nat):Int)=2:=rfl;rw[j8]at hlo;generalize hg:grow [1] l=g at *;by_cases hn:g.length=1
 .obtain⟨x,rfl⟩:=List.length_eq_one_iff.1 hn;rw[ac hn]at hlo;have h1:am [x]=[[.int .i64 x]]:=rfl;have hc:=H4 r m 2 s [x] hr o_ o_ o_ s_ g2;rw[h1]at hc;have h3:nth [x] 0=x:=rfl;rw[h3]at hlo;simp only[Vh,Va,hpB,fy,c2]at hlo hc;simp(maxSteps:=9^6)(disch:=first|omega|assumption|exact cN rfl) [ac,aa,hc,hlo];rfl
 .rw[aa hn]at hlo;have hgl:g.length<=100:=by simp at g1;omega
  have hc:=H4 r m 2 s g hr o_ o_ o_ hgl g2;have h5:3<=g.length+1:=by
   have:g≠[]:=by
    rw[<-hg];have:∀(l:C_) (g:G_),g≠[]->grow g l≠[]:=by
     intro l
     induction l with
     |nil=>intro g h;simpa [grow]
     |cons x r ih =>
      intro g h;rw[grow];refine ih _ ?_;split
      .intro h2;exact h (by simpa using h2)
      .simp
    exact this _ _ (by simp)
   have:=bm.2 this;omega
  simp only[Vh,Va,hpB,hpA,fy,c2]at hlo hc;generalize hN:g.length+1=N at *;generalize hM:g.length+2=M at *;simp(maxSteps:=9^6)(disch:=first|omega|assumption|exact cN rfl) [ac,aa,hc,hlo];rfl
abbrev zq (e:Nat)(N:Nat):J_:=some (.ret,⟨[(6,.ptr 0 0),(7,A_ 0),(8,A_ (e+1))],⟨[(0,.cells fy)],N⟩⟩)
theorem Wm (b:C_)(r a:Int)(N:Nat)(hb:b.length<=1000000000)(ha:i64 a) :
  (Dn prog).code (.loop gI) ⟨[(0,.d (.lst (aT b))),(1,A_ a),(2,A_ r),(6,.ptr 0 0),(9,.nl),(30,.own false 1 [[.int .i64 1],[.int .i64 2],[.int .i64 1]]),(31,A_ 3),(32,A_ 0)],⟨[(0,.cells fy)],N⟩⟩ =
   rK (pG b 1) (aN b a 1) (λo n=>rK (pG b 2) (aN b n 2) (λq n=>rK (pG b 1) (aN b n 1) (λs n=>some (.exit 0,⟨[(0,.d (.lst (aT b))),(1,A_ n),(2,A_ r),(6,.ptr 0 0),(9,.own false 1 [[.int .i64 o],[.int .i64 q],[.int .i64 s]])],⟨[(0,.cells fy)],N⟩⟩)) (λe=>zq e N)) (λe=>zq e N)) (λe=>zq e N):=by
 simp(maxSteps:=9^6)(disch:=first|omega|assumption|exact cN rfl) [ac,aa,gB,ah Fg]
abbrev Gi (T:VC):VC:=(.seq nQ (.seq (.seq oa (.cond (.m 28) (.seq (K [0,1,2]) (.seq nW .ret)) .skip)) (.seq nS (.seq (.seq nM (.block 0 (.seq (.loop gI) (K [30,31,32])))) T))))
abbrev wo (T:VC):VC:=(.seq mL (.seq (.seq mV (.cond (.m 58) (.seq (K [15]) mS) .skip)) (.seq (.seq mW (.block 2 (.seq (.loop dS) (K [0,15,16])))) T)))
theorem ajj (b:C_)(r a:Int)(hb:b.length<=1000000000)(ha:i64 a)(T:VC)(hr:de r):(Dn prog).code (Gi T) ⟨[(0,.d (.lst (aT b))),(1,A_ a),(2,A_ r)],⟨[],0⟩⟩ =
   rK (pG b 1) (aN b a 1) (λo n=>rK (pG b 2) (aN b n 2) (λq n=>rK (pG b 1) (aN b n 1) (λs n=>(Dn prog).code T ⟨[(0,.d (.lst (aT b))),(1,A_ n),(2,A_ r),(6,.ptr 0 0),(9,.own false 1 [[.int .i64 o],[.int .i64 q],[.int .i64 s]])],⟨[(0,.cells fy)],1⟩⟩) (λe=>zq e 1)) (λe=>zq e 1)) (λe=>zq e 1):=by
 simp(config := { maxSteps:=100000 }) (disch:=first|omega|assumption) [ac,aa,Wm]
theorem aiA (b:C_)(r:Int)(o q s n:Nat)(hb:b.length<=1000000000)(hn:n<=b.length)(T:VC):(Dn prog).code (wo T) ⟨[(0,.d (.lst (aT b))),(1,A_ n),(2,A_ r),(6,.ptr 0 0),(9,.own false 1 [[.int .i64 o],[.int .i64 q],[.int .i64 s]])],⟨[(0,.cells fy)],1⟩⟩ =
  if q=2 then rK (pG b 4) (aN b n 4) (λm n=>rK (pB b 7) (iH b 7 n) (λl n=>(Dn prog).code T ⟨[(1,A_ n),(2,A_ r),(6,.ptr 0 0),(9,.own false 1 ([.int .i64 o]::[.int .i64 q]::[.int .i64 s]::[.int .i64 m]::aF l))],⟨[(0,.cells fy)],1⟩⟩) (λe=>zq e 1)) (λe=>zq e 1)
  else rK (pG b 6) (aN b n 6) (λm n=>rK (pG b 1) (aN b n 1) (λp n=>(Dn prog).code T ⟨[(1,A_ n),(2,A_ r),(6,.ptr 0 0),(9,.own false 1 [[.int .i64 o],[.int .i64 q],[.int .i64 s],[.int .i64 m],[.int .i64 p]])],⟨[(0,.cells fy)],1⟩⟩) (λe=>zq e 1)) (λe=>zq e 1):=by
 by_cases h2:q=2
 .rw[ac h2];simp(config := { maxSteps:=40000 }) (disch:=first|omega|assumption|exact cN rfl) [ac,Ti]
 .rw[aa h2];simp(config := { maxSteps:=40000 }) (disch:=first|omega|assumption|exact cN rfl) [aa,Sx]
theorem R4 (e:Nat):kH (lF [.cell 6 (some 4),.tmp 7,.tmp 8] (zq e 1))=some (.tup [.agg fy,A_ 0,A_ (e+1)]):=by
 simp
theorem Tr (b:C_)(a r:Int)(hb:b.length<=1000000000)(ha:i64 a):bl prog r7 [.d (.lst (aT b)),A_ a,A_ r] =
  if de r then rK (pI b r.toNat) (np b a r.toNat) (λi n=>some (.tup [.agg (FT i),A_ n,A_ 0])) λe=>some (.tup [.agg fy,A_ 0,A_ (e+1)])
  else some (.tup [.agg fy,A_ 0,A_ 2]):=by
 rw[aM Ke Ko rfl];by_cases hr:de r
 .rw[ac hr,np];refine(aX (λx=>kH (lF [.cell 6 (some 4),.tmp 7,.tmp 8] x)) (ajj b r a hb ha (wo WY) hr)).trans ?_;show kH (lF _ (rK _ _ _ _))=_;simp only[Qp,Rk,R4,iR];refine bL (λ_ _=>rfl) (λo n ho=>?_) λ_=>rfl
  refine bL (λ_ _=>rfl) (λq n hq=>?_) λ_=>rfl
  refine bL (λ_ _=>rfl) (λs n hs=>?_) λ_=>rfl
  have ho1:o<2:=ho.1;have hq1:q<4:=hq.1;have hs1:s<2:=hs.1;rw[aiA b r o q s n hb hs.2];by_cases h2:q=2
  .subst h2;rw[ac rfl,ac rfl];simp only[Qp,Rk,R4,iR];refine bL (λ_ _=>rfl) (λm n hm=>?_) λ_=>rfl
   have hm1:m<16:=hm.1;rw[VS hm.2];refine bL (λ_ _=>rfl) (λl n hl=>?_) λ_=>rfl
   rw[MJ λh=>⟨h.2,hl.2.1,by have:=In (l:=l) (g:=[1]);have:=hl.1;simp at *;omega⟩];exact agr n r o s m l hr o_ o_ o_ hl.1 hl.2.2
  .rw[aa h2,aa h2];simp only[Qp,Rk,R4,iR];refine bL (λ_ _=>rfl) (λm n hm=>?_) λ_=>rfl
   refine bL (λ_ _=>rfl) (λp n hp=>?_) λ_=>rfl
   have hm1:m<64:=hm.1;have hp1:p<2:=hp.1;rw[MJ λh=>⟨h.2,hp.2,s_⟩];exact afN n r o s m p q hr o_ h2 o_ o_ o_ (by omega)
 .rw[aa hr];simp(maxSteps:=9^6)(disch:=first|omega|assumption) [ac,aa]
structure be where
 book:Int
 len:Int
abbrev V_:=List be
abbrev I_:=List (V_)
abbrev be.cells (s:be):U_:=[.int .i64 s.book,.int .i64 s.len]
def dH (l:V_):F_:=l.map be.cells
@[simp] theorem I6 {l:V_}:(dH l).length=l.length:=by simp[dH]
@[simp] theorem ao0 {l:V_}{s:be}:dH (l++[s])=dH l++[s.cells]:=by simp[dH]
def yP (b:C_)(sz cP left:Nat):Nat->Nat->Nat->R Nat
 |0,_,_=>.er 7
 |f+1,a,acc=>(aN b a sz).bind λn a=>if left<acc+n then .er 7 else if n=cP then yP b sz cP left f a (acc+n) else .ok (acc+n) a
abbrev pL (b:C_)(left n a:Nat):Prop:=n<=left∧a<=b.length
theorem Yc {b:C_}{sz cP left:Nat}:∀{f a acc n m:Nat},yP b sz cP left f a acc=.ok n m->pL b left n m
 |0,_,_,_,_,h=>absurd h (by simp[yP])
 |f+1,a,acc,n,m,h=>by
  rw[yP]at h
  cases h1:aN b a sz with
  |er e=>rw[h1]at h;exact absurd h (by simp)
  |ok v k =>
   rw[h1,au]at h;by_cases h2:left<acc+v
   .rw[ac h2]at h;exact absurd h (by simp)
   .rw[aa h2]at h;by_cases h3:v=cP
    .rw[ac h3]at h;exact Yc h
    .rw[aa h3]at h;injection h with e1 e2
     subst e1 e2;exact⟨o_,(b3 h1).2⟩
theorem agB {α γ:Type}{p:α->Nat->Prop}{b:C_}{sz cP left f a acc:Nat}{g:Nat->Nat->R α}{F:α->Nat->γ}{G:Nat->γ}:rK p ((yP b sz cP left f a acc).bind g) F G=rK (pL b left) (yP b sz cP left f a acc) (λv n=>rK p (g v n) F G) G:=dT λ_ _ h=>Yc h
theorem aaE {γ:Type}{b:C_}{sz cP left f a acc:Nat}{F:Nat->Nat->γ}{G:Nat->γ}:rK (pL b left) (yP b sz cP left (f+1) a acc) F G=rK (pG b sz) (aN b a sz) (λn a=>if left<acc+n then G 7 else if n=cP then rK (pL b left) (yP b sz cP left f a (acc+n)) F G else F (acc+n) a) G:=by
 rw[yP,iR];refine bL (λ_ _=>rfl) (λn a hp=>?_) λ_=>rfl
 by_cases h2:left<acc+n
 .rw[ac h2,ac h2,dp]
 .rw[aa h2,aa h2];by_cases h3:n=cP
  .rw[ac h3,ac h3]
  .rw[aa h3,aa h3,bJ ⟨o_,hp.2⟩]
abbrev Nh (e:Nat)(h:HS):J_:=some (.ret,⟨[(6,.nl),(7,A_ 0),(8,A_ (e+1))],h⟩)
theorem Zz (b:C_)(sz cP left:Nat)(hb:b.length<=1000000000)(hsz:sz<=5)(hm:cP=2 ^ sz-1)(hs1:1<=sz)(hl:left<=1000)(x6 x11:AV)(bk:Int)(X:Obj)(y40 y41:D)(M N:Nat)(hM:1<=M):∀(f a acc:Nat),left<acc+f->acc<=left->a<=b.length->
  (Dn prog).code (.loop wI) ⟨[(0,.d (.lst (aT b))),(5,.ptr 0 0),(6,x6),(7,A_ a),(9,A_ sz),(10,A_ cP),(11,x11),(12,A_ left),(13,.ptr M 0),(14,A_ cP),(40,.d y40),(41,.d y41)],⟨[(0,X),(M,.cells [A_ bk,A_ acc])],N⟩⟩ =
  rK (pL b left) (yP b sz cP left f a acc) (λn a=>some (.exit 4,⟨[(0,.d (.lst (aT b))),(5,.ptr 0 0),(6,x6),(7,A_ a),(9,A_ sz),(10,A_ cP),(11,x11),(12,A_ left),(13,.ptr M 0),(40,.d y40),(41,.d y41)],⟨[(0,X),(M,.cells [A_ bk,A_ n])],N⟩⟩)) (λe=>Nh e ⟨[(0,X)],N⟩):=by
 intro f
 induction f with
 |zero=>intro a acc h1 h2;omega
 |succ f ih =>
  intro a acc h1 h2 ha;rw[ah JD,aaE];have hp2:2 ^ sz<=2 ^ 5:=aA o_ hsz;have hp3:2 ^ 1<=2 ^ sz:=aA o_ hs1;have hM0:M≠0:=o_;simp(maxSteps:=9^6)(disch:=first|omega|assumption) [↓ac,↓aa,gu,hM0,pG];refine bL (λ_ _=>rfl) (λn a' hp=>?_) λ_=>rfl
  have hp4:n<2 ^ sz:=hp.1;by_cases h3:left<acc+n
  .rw[ac h3,ac o_];rfl
  .rw[aa h3,aa o_];by_cases h4:n=cP
   .subst h4;rw[ac rfl,<-ih a' (acc+n) o_ o_ hp.2];simp
   .rw[aa h4,ah JD];simp(maxSteps:=9^6)(disch:=first|omega|assumption) [↓ac,↓aa]
def ay.fsz (i:ay):Nat:=if i.seq=2 then 3 else 5
theorem acQ (i:ay):bl prog Kv [.agg i.cells]=some (.tup [A_ i.fsz,A_ ((2 ^ i.fsz-1:Nat):Int)]):=by
 rw[aM Wf X9 rfl];unfold ay.fsz;by_cases h:i.seq=2
 .simp(disch:=first|omega|assumption) [↓ac,h]
 .simp(disch:=first|omega|assumption) [↓ac,↓aa]
abbrev adW (k:Int):Prop:=0<=k∧(k<=11∨k=13)
abbrev be.right (s:be)(left:Int):Prop:=(1<=s.len∧s.len<=left)∧adW s.book
theorem abU (s:be)(left:Int):bl prog Lu [.agg [A_ s.book,A_ s.len],A_ left]=if s.right left then some (B_ true) else some (B_ false):=by
 rw[aM Wg XD rfl];by_cases h1:1<=s.len<;>by_cases h2:s.len<=left<;>by_cases h3:0<=s.book<;>by_cases h4:s.book<=11<;>by_cases h5:s.book=13<;>
  simp(disch:=first|omega|assumption) [↓ac,↓aa]
def B7 (b:C_)(sz left:Nat)(a:Nat):R be :=
 (aN b a 4).bind λk a=>if k=12∨13<k then .er 7 else (yP b sz (2 ^ sz-1) left (left+1) a 0).bind λn a=>if n=0 then .er 7 else .ok ⟨k,n⟩ a
abbrev pS (b:C_)(left:Nat)(s:be)(a:Nat):Prop:=(s.right left)∧a<=b.length
theorem aab {γ:Type}{b:C_}{sz left a:Nat}{F:be->Nat->γ}{G:Nat->γ}:rK (pS b left) (B7 b sz left a) F G=rK (pG b 4) (aN b a 4) (λk a=>if k=12∨13<k then G 7 else rK (pL b left) (yP b sz (2 ^ sz-1) left (left+1) a 0) (λn a=>if n=0 then G 7 else F ⟨k,n⟩ a) G) G:=by
 rw[B7,iR];refine bL (λ_ _=>rfl) (λk a hp=>?_) λ_=>rfl
 by_cases h:k=12∨13<k
 .simp_all
 .rw[aa h,aa h,agB];refine bL (λ_ _=>rfl) (λn a hq=>?_) λ_=>rfl
  grind [dp,bJ]
theorem Qa {b:C_}{sz left a m:Nat}{s:be}(h:B7 b sz left a=.ok s m):pS b left s m:=by
 rw[B7]at h
 cases h1:aN b a 4 with
 |er e=>simp_all
 |ok k a1 =>
  by_cases hk:k=12∨13<k
  .simp_all
  .cases h2:yP b sz (2 ^ sz-1) left (left+1) a1 0 with
   |er e=>simp_all
   |ok n a2 =>
    have hq:=Yc h2
    grind [au]
def jC (b:C_)(sz:Nat):Nat->Nat->Nat->R V_
 |0,_,a=>.ok [] a
 |f+1,left,a=>if left=0 then .ok [] a else (B7 b sz left a).bind λs a=>(jC b sz f (left-s.len.toNat) a).bind λl a=>.ok (s::l) a
def fitsS:Int->V_->Prop
 |left,[]=>left=0
 |left,s::l=>s.right left∧fitsS (left-s.len) l
instance:∀(left:Int) (l:V_),Decidable (fitsS left l)
 |left,[]=>by unfold fitsS;infer_instance
 |left,s::l=>by
  unfold fitsS;have:Decidable (fitsS (left-s.len) l):=instDecidableFitsS _ l
  infer_instance
abbrev KM (b:C_)(left:Nat)(l:V_)(a:Nat):Prop:=fitsS left l∧a<=b.length∧l.length<=left
theorem w5 {b:C_}{sz:Nat}:∀{f left a m:Nat}{l:V_},left<=f->a<=b.length->jC b sz f left a=.ok l m->KM b left l m
 |0,left,a,m,l,h,ha,e=>by
  grind [jC,fitsS]
 |f+1,left,a,m,l,h,ha,e=>by
  simp only[jC]at e;by_cases h0:left=0
  .grind [fitsS]
  .rw[aa h0]at e
   cases h1:B7 b sz left a with
   |er e2=>simp_all
   |ok s a1 =>
    have hs:=Qa h1;rw[h1,au]at e
    cases h2:jC b sz f (left-s.len.toNat) a1 with
    |er e2=>simp_all
    |ok l2 a2 =>
     have ih:=w5 o_ hs.2 h2;rw[h2,au]at e;injection e with e1 e2
     subst e1 e2;refine⟨⟨hs.1,?_⟩,ih.2.1,?_⟩
     all_goals grind
theorem T9 {γ:Type}{b:C_}{sz f left a:Nat}{F:V_->Nat->γ}{G:Nat->γ}(hf:left<=f+1)(h0:left≠0):rK (KM b left) (jC b sz (f+1) left a) F G =
  rK (pS b left) (B7 b sz left a) (λs a=>rK (KM b (left-s.len.toNat)) (jC b sz f (left-s.len.toNat) a) (λl a=>F (s::l) a) G) G:=by
 rw[jC,aa h0,dT (q:=pS b left) λ_ _ h=>Qa h];refine bL (λ_ _=>rfl) (λs a hp=>?_) λ_=>rfl
 rw[dT (q:=KM b (left-s.len.toNat)) λ_ _ h=>w5 o_ hp.2 h];refine bL (λ_ _=>rfl) (λl a hq=>?_) λ_=>rfl
 rw[bJ];refine⟨⟨hp.1,?_⟩,hq.2.1,?_⟩
 all_goals grind
theorem CQ {γ:Type}{b:C_}{sz f a:Nat}{F:V_->Nat->γ}{G:Nat->γ}(ha:a<=b.length):rK (KM b 0) (jC b sz f 0 a) F G=F [] a:=by
 cases f<;>grind [jC,bJ,fitsS]
theorem mf {α γ:Type}{p:α->Nat->Prop}{r:R α}{f f2:α->Nat->γ}{g g2:Nat->γ}(hp:∀v n,r=.ok v n->p v n)(h:∀v n,r=.ok v n->p v n->f v n=f2 v n)(k:∀e,r=.er e->g e=g2 e):rK p r f g=rK p r f2 g2:=by
 cases r<;>simp_all [bJ]
theorem ZU (b:C_)(sz:Nat)(hb:b.length<=1000000000)(hsz:sz<=5)(hs1:1<=sz)(x6:AV)(X:Obj)(y40 y41:D)(left a N:Nat)(G:V_)(h0:left≠0)(h2:left<=1000)(h3:G.length+left<=10000)(h4:1<=N)(ha:a<=b.length) :
  (Dn prog).code rk ⟨[(0,.d (.lst (aT b))),(5,.ptr 0 0),(6,x6),(7,A_ a),(9,A_ sz),(10,A_ ((2 ^ sz-1:Nat):Int)),(11,ao 2 (dH G)),(12,A_ left),(40,.d y40),(41,.d y41)],⟨[(0,X)],N⟩⟩ =
  rK (pS b left) (B7 b sz left a) (λs a=>some (.normal,⟨[(0,.d (.lst (aT b))),(5,.ptr 0 0),(6,x6),(7,A_ a),(9,A_ sz),(10,A_ ((2 ^ sz-1:Nat):Int)),(11,ao 2 (dH (G++[s]))),(12,A_ ((left-s.len.toNat:Nat):Int)),(40,.d y40),(41,.d y41)],⟨[(0,X)],N+1⟩⟩)) (λe=>Nh e ⟨[(0,X)],N+1⟩):=by
 rw[aab,Cq];have hp3:2 ^ 1<=2 ^ sz:=aA o_ hs1;have hN0:N≠0:=o_;have c0:((0:Nat):Int)=0:=rfl;have h5:=λbk M N hM a h1 h2' ha=>Zz b sz (2 ^ sz-1) left hb hsz rfl hs1 h2 x6 (ao 2 (dH G)) bk X y40 y41 M N hM (left+1) a 0 h1 h2' ha
 simp only[c0]at h5;have h6:=λk n left=>abU ⟨k,n⟩ left
 simp(maxSteps:=9^6)(disch:=first|omega|assumption) [↓ac,↓aa,gu];refine bL (λ_ _=>rfl) (λk a1 hp=>?_) λ_=>rfl
 have hp1:k<16:=hp.1;by_cases hk:k=12∨13<k
 .grind
 .rw[aa hk,aa o_,h5 k N (N+1) h4 a1 o_ o_ hp.2];simp only[afa,ae6];refine bL (λ_ _=>rfl) (λn a2 hq=>?_) λ_=>rfl
  by_cases hn:n=0
  .have hr:¬be.right ⟨k,n⟩ left:=u_;simp(disch:=first|omega|assumption) [↓ac,↓aa,h6]
  .have hr:be.right ⟨k,n⟩ left:=d_;have e1:((left-n:Nat):Int)=(left:Int)-n:=o_;have e2:(dH G).length<1000000000:=by grind [I6]
   simp(disch:=first|omega|assumption) [↓ac,↓aa,h6,e1,dA]
def AZ (b:C_)(sz:Nat):Nat->Nat->Nat->Nat
 |0,_,_=>0
 |f+1,left,a=>if left=0 then 0 else match B7 b sz left a with
  |.ok s a=>AZ b sz f (left-s.len.toNat) a+1
  |.er _=>1
theorem Zj (b:C_)(sz:Nat)(hb:b.length<=1000000000)(hsz:sz<=5)(hs1:1<=sz)(x6:AV)(X:Obj)(y40 y41:D):∀(f left a N:Nat) (G:V_),left<=f->left<=1000->G.length+left<=10000->1<=N->a<=b.length->
  (Dn prog).code (.loop rk) ⟨[(0,.d (.lst (aT b))),(5,.ptr 0 0),(6,x6),(7,A_ a),(9,A_ sz),(10,A_ ((2 ^ sz-1:Nat):Int)),(11,ao 2 (dH G)),(12,A_ left),(40,.d y40),(41,.d y41)],⟨[(0,X)],N⟩⟩ =
  rK (KM b left) (jC b sz f left a) (λl a=>some (.exit 2,⟨[(0,.d (.lst (aT b))),(5,.ptr 0 0),(6,x6),(7,A_ a),(9,A_ sz),(10,A_ ((2 ^ sz-1:Nat):Int)),(11,ao 2 (dH (G++l))),(40,.d y40),(41,.d y41)],⟨[(0,X)],N+l.length⟩⟩)) (λe=>Nh e ⟨[(0,X)],N+AZ b sz f left a⟩):=by
 intro f
 induction f with
 |zero =>
  intro left a N G h1 h2 h3 h4 ha;have:left=0:=o_;subst this;rw[CQ ha,ah Cq];simp(disch:=first|omega|assumption) [↓aa]
 |succ f ih =>
  intro left a N G h1 h2 h3 h4 ha;by_cases h0:left=0
  .subst h0;rw[CQ ha,ah Cq];simp(disch:=first|omega|assumption) [↓aa]
  .rw[T9 h1 h0,ah rfl,ZU b sz hb hsz hs1 x6 X y40 y41 left a N G h0 h2 h3 h4 ha,L5];refine mf (λ_ _ h=>Qa h) (λs a1 e1 hp=>?_) (λe e1=>?_)
   .rw[F6,ih (left-s.len.toNat) a1 (N+1) (G++[s]) o_ o_ d_ o_ hp.2]
    grind [AZ]
   simp_all [AZ]
def ul (b:C_)(sz cP:Nat):Nat->Nat->R I_
 |0,a=>.ok [] a
 |k+1,a=>(jC b sz cP cP a).bind λl a=>(ul b sz cP k a).bind λg a=>.ok (l::g) a
abbrev Jr (b:C_)(max k:Nat)(g:I_)(a:Nat):Prop:=(∀l∈g,fitsS max l∧l.length<=max)∧a<=b.length∧g.length=k
theorem FW {b:C_}{sz max:Nat}:∀{k a m:Nat}{g:I_},a<=b.length->ul b sz max k a=.ok g m->Jr b max k g m
 |0,a,m,g,ha,h=>by
  grind [ul]
 |k+1,a,m,g,ha,h=>by
  simp only[ul]at h
  cases h1:jC b sz max max a with
  |er e=>simp_all
  |ok l a1 =>
   have hp:=w5 (ai _) ha h1
   cases h2:ul b sz max k a1 with
   |er e=>simp_all
   |ok g2 a2 =>
    have hq:=FW hp.2.1 h2
    grind [au]
theorem Yw {γ:Type}{b:C_}{sz max k a:Nat}{F:I_->Nat->γ}{G:Nat->γ}(ha:a<=b.length):rK (Jr b max (k+1)) (ul b sz max (k+1) a) F G =
  rK (KM b max) (jC b sz max max a) (λl a=>rK (Jr b max k) (ul b sz max k a) (λg a=>F (l::g) a) G) G:=by
 rw[ul,dT (q:=KM b max) λ_ _ h=>w5 (ai _) ha h];refine bL (λ_ _=>rfl) (λl a hp=>?_) λ_=>rfl
 rw[dT (q:=Jr b max k) λ_ _ h=>FW hp.2.1 h];refine bL (λ_ _=>rfl) (λg a hq=>?_) λ_=>rfl
 grind [bJ]
theorem TH {γ:Type}{b:C_}{sz max a:Nat}{F:I_->Nat->γ}{G:Nat->γ}(ha:a<=b.length):rK (Jr b max 0) (ul b sz max 0 a) F G=F [] a:=by
 grind [ul,bJ]
def aV (g:I_):F_:=g.map λl=>[.lst (dH l)]
@[simp] theorem xt {g:I_}:(aV g).length=g.length:=by simp[aV]
@[simp] theorem an2 {g:I_}{l:V_}:aV (g++[l])=aV g++[[.lst (dH l)]]:=by simp[aV]
def OL:I_->Nat
 |[]=>0
 |l::g=>l.length+OL g
def Pl (b:C_)(sz max:Nat):Nat->Nat->Nat
 |0,_=>0
 |k+1,a=>match jC b sz max max a with
  |.ok l a=>l.length+Pl b sz max k a
  |.er _=>AZ b sz max max a
theorem Zq (b:C_)(i:ay)(sz mx:Nat)(hmx:i.max=mx)(hb:b.length<=1000000000)(hsz:sz<=5)(hs1:1<=sz)(h2:mx<=1000)(a N j len:Nat)(Gs:I_)(h3:Gs.length<=10000)(h4:1<=N)(ha:a<=b.length)(hj:j<len)(hlen:len<=10000) :
  (Dn prog).code rM ⟨[(0,.d (.lst (aT b))),(5,.ptr 0 0),(6,ao 1 (aV Gs)),(7,A_ a),(9,A_ sz),(10,A_ ((2 ^ sz-1:Nat):Int)),(40,A_ len),(41,A_ j)],⟨[(0,.cells i.cells)],N⟩⟩ =
  rK (KM b mx) (jC b sz mx mx a) (λl a=>some (.normal,⟨[(0,.d (.lst (aT b))),(5,.ptr 0 0),(6,ao 1 (aV (Gs++[l]))),(7,A_ a),(9,A_ sz),(10,A_ ((2 ^ sz-1:Nat):Int)),(40,A_ len),(41,A_ ((j+1:Nat):Int))],⟨[(0,.cells i.cells)],N+l.length⟩⟩)) (λe=>Nh e ⟨[(0,.cells i.cells)],N+AZ b sz mx mx a⟩):=by
 rw[Ju];have h5:=λy40 y41=>Zj b sz hb hsz hs1 (ao 1 (aV Gs)) (.cells i.cells) y40 y41 mx mx a N [] (ai _) h2 g_ h4 ha
 simp only[dH,List.map_nil,c9,aD,ay.cells,hmx]at h5;have e2:(aV Gs).length<1000000000:=by rw[xt];omega
 simp(maxSteps:=9^6)(disch:=first|omega|assumption) [ac,aa,h5,hmx];refine bL (λ_ _=>rfl) (λl a2 hq=>?_) λe=>rfl
 simp[dA,dH]
theorem ZO (b:C_)(i:ay)(sz mx:Nat)(hmx:i.max=mx)(hb:b.length<=1000000000)(hsz:sz<=5)(hs1:1<=sz)(h2:mx<=1000)(len:Nat)(hlen:len<=1000):∀(k a N j:Nat) (Gs:I_),j+k=len->Gs.length+k<=10000->1<=N->a<=b.length->
  (Dn prog).code (.loop rM) ⟨[(0,.d (.lst (aT b))),(5,.ptr 0 0),(6,ao 1 (aV Gs)),(7,A_ a),(9,A_ sz),(10,A_ ((2 ^ sz-1:Nat):Int)),(40,A_ len),(41,A_ j)],⟨[(0,.cells i.cells)],N⟩⟩ =
  rK (Jr b mx k) (ul b sz mx k a) (λg a=>some (.exit 0,⟨[(6,ao 1 (aV (Gs++g))),(7,A_ a)],⟨[(0,.cells i.cells)],N+OL g⟩⟩)) (λe=>Nh e ⟨[(0,.cells i.cells)],N+Pl b sz mx k a⟩):=by
 intro k
 induction k with
 |zero =>
  intro a N j Gs h1 h3 h4 ha;rw[TH ha,ah Ju];simp(maxSteps:=9^6)(disch:=first|omega|assumption) [ac,aa,OL]
 |succ k ih =>
  intro a N j Gs h1 h3 h4 ha;rw[Yw ha,ah rfl,Zq b i sz mx hmx hb hsz hs1 h2 a N j len Gs o_ h4 ha o_ o_,L5];refine mf (λ_ _ h=>w5 (ai _) ha h) (λl a1 e1 hp=>?_) (λe e1=>?_)
  .rw[F6,ih a1 (N+l.length) (j+1) (Gs++[l]) o_ g_ o_ hp.2.1];refine mf (λ_ _ h=>FW hp.2.1 h) (λg a2 e2 hq=>?_) (λe e2=>?_)
   .simp[OL,bF]
   .simp[Pl,e1,bF]
  .simp[Pl,e1]
theorem WL {m:Nat}{xs:F_}(h:∀x∈xs,∃l,x=[D.lst l])(hf:iW (ao m xs)=true):kX (ao m xs)=ao m xs:=by
 cases xs with
 |nil=>rfl
 |cons x r =>
  obtain⟨l,rfl⟩:=h x s_;simp[ao,iW,iV,jx]at hf
theorem aaO {g:I_}:∀x∈aV g,∃l,x=[D.lst l]:=by
 intro x hx;simp only[aV,dt]at hx;obtain⟨l,_,rfl⟩:=hx;exact⟨_,rfl⟩
def lM (b:C_)(i:ay)(a:Int):R I_ :=
 if 0<=a∧a<=b.length then ul b i.fsz i.max.toNat i.groups.length a.toNat else .er 1
theorem adB {b:C_}{a:Int}:aN b a 0=if 0<=a∧a<=b.length then .ok 0 a.toNat else .er 1:=by
 unfold aN;by_cases h:0<=a∧a<=b.length
 .rw[ac h,ac o_,aa o_,ac (by simp[bin])];simp[val]
 .rw[aa h,aa o_]
theorem afV (b:C_)(a:Int)(i:ay)(hb:b.length<=1000000000)(ha:i64 a)(hi:i.Fit)(hm:i.may 11):bl prog Q5 [.d (.lst (aT b)),A_ a,.agg i.cells] =
  rK (Jr b i.max.toNat i.groups.length) (lM b i a) (λg n=>some (.tup [ao 1 (aV g),A_ n,A_ 0])) (λe=>some (.tup [.nl,A_ 0,A_ (e+1)])):=by
 have hw:=DH i hi;rw[ac hm]at hw;have hf:=acQ i;have hmx:i.max=i.max.toNat:=by have:=hm.2.2.1;omega
 have hmb:i.max.toNat<=1000:=by have:=hm.2.2.2.1;have:=VT (r:=11) (s:=decide (i.seq=2)) o_;omega
 have hsz:1<=i.fsz∧i.fsz<=5:=by unfold ay.fsz;split<;>omega
 have hll:=hi.len;rw[aM ab3 abC rfl];have hl:=ZO b i i.fsz i.max.toNat hmx hb hsz.2 hsz.1 hmb i.groups.length hi.len;simp only[ay.cells]at hw hf;unfold lM;by_cases h0:0<=a∧a<=b.length
 .obtain⟨A,rfl⟩:=az h0.1;have h1:=hl i.groups.length A 1 0 [] o_ g_ o_ o_;have c0:((0:Nat):Int)=0:=rfl;simp only[ay.cells,aV,List.map_nil,c9,aD,c0]at h1;rw[ac h0];simp(maxSteps:=9^6)(disch:=first|omega|assumption) [ac,aa,hw,hf,gu,adB,h0];rw[bJ ⟨s_,o_⟩];simp(maxSteps:=9^6)(disch:=first|omega|assumption) [h1];refine bL (λ_ _=>rfl) (λg n hp=>?_) λ_=>rfl
  have hb:=WL (m:=1) (aaO (g:=g));simp only[aV]at hb⊢;by_cases hf:iW (ao 1 (List.map (λl=>[D.lst (dH l)]) g))=true
  .rw[ac hf,hb hf]
  .rw[aa hf]
 .rw[aa h0];simp(maxSteps:=9^6)(disch:=first|omega|assumption) [ac,aa,hw,hf,gu,adB,h0]
theorem abt (n:Nat)(hn:n<=62)(h:ak)(m:Nat):∀(k i:Nat),i+k=n->
  (Dn prog).code (.loop jU) ⟨[(0,A_ n),(3,A_ ((2 ^ i:Nat):Int)),(4,A_ i)],⟨h,m⟩⟩=some (.exit 0,⟨[(3,A_ ((2 ^ n:Nat):Int))],⟨h,m⟩⟩):=by
 intro k
 induction k with
 |zero =>
  intro i hi;have:i=n:=o_;subst this;rw[ah wm];simp(disch:=first|omega|assumption) [aa]
 |succ k ih =>
  intro i hi;have h1:2 ^ (i+1)=2*2 ^ i:=by rw[gS];omega
  have h2:2 ^ (i+1)<=2 ^ 62:=aA o_ o_;have e1:((2 ^ (i+1):Nat):Int)=2*((2 ^ i:Nat):Int):=o_;have e2:((i+1:Nat):Int)=(i:Int)+1:=o_;rw[<-ih (i+1) o_,e1,e2,ah wm];generalize hP:((2 ^ i:Nat):Int)=P at *;simp(disch:=first|omega|assumption) [ac]
theorem xD (n:Nat)(hn:n<=62):bl prog zO [A_ n]=some (A_ ((2 ^ n:Nat):Int)):=by
 rw[aM Kf J7 rfl];have h:=abt n hn [] 0 n 0 o_;have c0:((0:Nat):Int)=0:=rfl;have c1:((2 ^ 0:Nat):Int)=1:=rfl;rw[c0,c1]at h;generalize hP:((2 ^ n:Nat):Int)=P at *;simp(disch:=first|omega|assumption) [h]
abbrev Z2:Obj:=.cells [A_ 0,A_ 0]
abbrev ap6 (e:Nat)(h:HS):J_:=some (.ret,⟨[(8,.ptr 0 0),(9,A_ 0),(10,A_ (e+1))],h⟩)
theorem Wn (b:C_)(sz cP left:Nat)(hb:b.length<=1000000000)(hsz:sz<=5)(hm:cP=2 ^ sz-1)(hs1:1<=sz)(hl:left<=1000)(bk:Int)(N:Nat):∀(f a acc:Nat),left<acc+f->acc<=left->a<=b.length->
  (Dn prog).code (.loop j6) ⟨[(0,.d (.lst (aT b))),(1,A_ a),(2,A_ sz),(3,A_ left),(8,.ptr 0 0),(11,A_ cP),(14,.ptr 1 0)],⟨[(0,Z2),(1,.cells [A_ bk,A_ acc])],N⟩⟩ =
  rK (pL b left) (yP b sz cP left f a acc) (λn a=>some (.exit 0,⟨[(1,A_ a),(8,.ptr 0 0),(14,.ptr 1 0)],⟨[(0,Z2),(1,.cells [A_ bk,A_ n])],N⟩⟩)) (λe=>ap6 e ⟨[(0,Z2)],N⟩):=by
 intro f
 induction f with
 |zero=>intro a acc h1 h2;omega
 |succ f ih =>
  intro a acc h1 h2 ha;rw[ah Fs,aaE];have hp2:2 ^ sz<=2 ^ 5:=aA o_ hsz;have hp3:2 ^ 1<=2 ^ sz:=aA o_ hs1;simp(maxSteps:=9^6)(disch:=first|omega|assumption) [ac,aa,gB,pG];refine bL (λ_ _=>rfl) (λn a' hp=>?_) λ_=>rfl
  have hp4:n<2 ^ sz:=hp.1;by_cases h3:left<acc+n
  .rw[ac h3,ac o_];rfl
  .rw[aa h3,aa o_];by_cases h4:n=cP
   .subst h4;rw[ac rfl,<-ih a' (acc+n) o_ o_ hp.2];simp(disch:=first|omega|assumption) [aa]
   .rw[aa h4];simp(maxSteps:=9^6)(disch:=first|omega|assumption) [ac,aa]
theorem adL (b:C_)(sz left a:Nat)(hb:b.length<=1000000000)(hsz:sz<=5)(hs1:1<=sz)(hl:left<=1000)(ha:a<=b.length):bl prog zD [.d (.lst (aT b)),A_ a,A_ sz,A_ left] =
  rK (pS b left) (B7 b sz left a) (λs n=>some (.tup [.agg [A_ s.book,A_ s.len],A_ n,A_ 0])) (λe=>some (.tup [.agg [A_ 0,A_ 0],A_ 0,A_ (e+1)])):=by
 rw[aM JV J9 rfl,aab];have hp2:2 ^ sz<=2 ^ 5:=aA o_ hsz;have hp3:2 ^ 1<=2 ^ sz:=aA o_ hs1;have hT:=xD sz o_;have h5:=λbk a h1 h2 ha=>Wn b sz (2 ^ sz-1) left hb hsz rfl hs1 hl bk 2 (left+1) a 0 h1 h2 ha
 have c0:((0:Nat):Int)=0:=rfl;have c1:((2 ^ sz-1:Nat):Int)=((2 ^ sz:Nat):Int)-1:=o_;simp only[c0,c1]at h5;generalize hP:2 ^ sz=P at *;simp(maxSteps:=9^6)(disch:=first|omega|assumption) [ac,aa,gB,hT];refine bL (λ_ _=>rfl) (λk a1 hp=>?_) λ_=>rfl
 have hp1:k<16:=hp.1;by_cases hk:k=12∨13<k
 .rw[ac hk,ac o_]
 .rw[aa hk,aa o_,h5 k a1 o_ o_ hp.2];simp only[afa,ae6,Qp,Rk];refine bL (λ_ _=>rfl) (λn a2 hq=>?_) λ_=>?_
  .by_cases hn:n=0
   .rw[ac hn];simp(maxSteps:=9^6)(disch:=first|omega|assumption) [ac]
   .rw[aa hn];simp(maxSteps:=9^6)(disch:=first|omega|assumption) [aa]
  .simp
theorem ab9 (i:ay):bl prog zi [.agg i.cells]=some (A_ i.fsz):=by
 rw[aM HR Ik rfl];unfold ay.fsz;by_cases h:i.seq=2
 .simp(disch:=first|omega|assumption) [ac,aa,h]
 .simp(disch:=first|omega|assumption) [ac,aa,h]
theorem U2 (b:C_)(i:ay)(hb:b.length<=1000000000)(x9:AV)(y10:D)(left a N:Nat)(G:V_)(h0:left≠0)(h2:left<=1000)(h3:G.length+left<=10000)(h4:1<=N)(ha:a<=b.length) :
  (Dn prog).code gh ⟨[(0,.d (.lst (aT b))),(1,A_ a),(5,.ptr 0 0),(9,x9),(10,.d y10),(11,ao 2 (dH G)),(12,A_ left)],⟨[(0,.cells i.cells)],N⟩⟩ =
  rK (pS b left) (B7 b i.fsz left a) (λs a=>some (.normal,⟨[(0,.d (.lst (aT b))),(1,A_ a),(5,.ptr 0 0),(9,x9),(10,.d y10),(11,ao 2 (dH (G++[s]))),(12,A_ ((left-s.len.toNat:Nat):Int))],⟨[(0,.cells i.cells)],N+1⟩⟩)) (λe=>Nh e ⟨[],N+1⟩):=by
 rw[na];have hN0:N≠0:=o_;have hsz:1<=i.fsz∧i.fsz<=5:=by unfold ay.fsz;split<;>omega
 have h5:=adL b i.fsz left a hb hsz.2 hsz.1 h2 ha;have h6:=ab9 i;have e2:(dH G).length<1000000000:=by rw[I6];omega
 simp only[ay.cells]at h6;generalize B7 b i.fsz left a=RR at *;simp(maxSteps:=9^6)(disch:=first|omega|assumption) [ac,aa,hN0,h5,h6];refine bL (λ_ _=>rfl) (λs a1 hp=>?_) λ_=>rfl
 have hr:=hp.1.1;have e1:((left-s.len.toNat:Nat):Int)=(left:Int)-s.len:=o_;simp(maxSteps:=9^6)(disch:=first|omega|assumption) [e1,dA,hN0]
theorem UM (b:C_)(i:ay)(hb:b.length<=1000000000)(x9:AV)(y10:D):∀(f left a N:Nat) (G:V_),left<=f->left<=1000->G.length+left<=10000->1<=N->a<=b.length->
  (Dn prog).code (.loop gh) ⟨[(0,.d (.lst (aT b))),(1,A_ a),(5,.ptr 0 0),(9,x9),(10,.d y10),(11,ao 2 (dH G)),(12,A_ left)],⟨[(0,.cells i.cells)],N⟩⟩ =
  rK (KM b left) (jC b i.fsz f left a) (λl a=>some (.exit 2,⟨[(0,.d (.lst (aT b))),(1,A_ a),(5,.ptr 0 0),(9,x9),(10,.d y10),(11,ao 2 (dH (G++l)))],⟨[(0,.cells i.cells)],N+l.length⟩⟩)) (λe=>Nh e ⟨[],N+AZ b i.fsz f left a⟩):=by
 intro f
 induction f with
 |zero =>
  intro left a N G h1 h2 h3 h4 ha;have:left=0:=o_;subst this;rw[CQ ha,ah na];simp(maxSteps:=9^6)(disch:=first|omega|assumption) [ac,aa]
 |succ f ih =>
  intro left a N G h1 h2 h3 h4 ha;by_cases h0:left=0
  .subst h0;rw[CQ ha,ah na];simp(maxSteps:=9^6)(disch:=first|omega|assumption) [ac,aa]
  .rw[T9 h1 h0,ah rfl,U2 b i hb x9 y10 left a N G h0 h2 h3 h4 ha,L5];refine mf (λ_ _ h=>Qa h) (λs a1 e1 hp=>?_) (λe e1=>?_)
   .have hr:=hp.1.1;rw[F6,ih (left-s.len.toNat) a1 (N+1) (G++[s]) o_ o_ g_ o_ hp.2];refine mf (λ_ _ h=>w5 o_ hp.2 h) (λl a2 e2 hq=>?_) (λe e2=>?_)
    .simp[bF,qY 1]
    .simp[AZ,h0,e1,bF,qY 1]
   .simp[AZ,h0,e1]
theorem UV (b:C_)(i:ay)(mx:Nat)(hmx:i.max=mx)(hb:b.length<=1000000000)(h2:mx<=1000)(a N j:Nat)(Gs:I_)(h3:Gs.length<=10000)(h4:1<=N)(ha:a<=b.length)(hj:j<i.groups.length)(hlen:i.groups.length<=1000) :
  (Dn prog).code ge ⟨[(0,.d (.lst (aT b))),(1,A_ a),(5,.ptr 0 0),(9,ao 1 (aV Gs)),(10,A_ j)],⟨[(0,.cells i.cells)],N⟩⟩ =
  rK (KM b mx) (jC b i.fsz mx mx a) (λl a=>some (.normal,⟨[(0,.d (.lst (aT b))),(1,A_ a),(5,.ptr 0 0),(9,ao 1 (aV (Gs++[l]))),(10,A_ ((j+1:Nat):Int))],⟨[(0,.cells i.cells)],N+l.length⟩⟩)) (λe=>Nh e ⟨[],N+AZ b i.fsz mx mx a⟩):=by
 rw[vB];have h5:=λy10=>UM b i hb (ao 1 (aV Gs)) y10 mx mx a N [] (ai _) h2 g_ h4 ha
 simp only[dH,List.map_nil,c9,aD,ay.cells,hmx]at h5;have e2:(aV Gs).length<1000000000:=by rw[xt];omega
 simp(maxSteps:=9^6)(disch:=first|omega|assumption) [ac,aa,h5,hmx];refine bL (λ_ _=>rfl) (λl a2 hq=>?_) λe=>rfl
 simp[dA,dH]
theorem UH (b:C_)(i:ay)(mx:Nat)(hmx:i.max=mx)(hb:b.length<=1000000000)(h2:mx<=1000)(hlen:i.groups.length<=1000):∀(k a N j:Nat) (Gs:I_),j+k=i.groups.length->Gs.length+k<=10000->1<=N->a<=b.length->
  (Dn prog).code (.loop ge) ⟨[(0,.d (.lst (aT b))),(1,A_ a),(5,.ptr 0 0),(9,ao 1 (aV Gs)),(10,A_ j)],⟨[(0,.cells i.cells)],N⟩⟩ =
  rK (Jr b mx k) (ul b i.fsz mx k a) (λg a=>some (.exit 0,⟨[(1,A_ a),(9,ao 1 (aV (Gs++g)))],⟨[],N+OL g⟩⟩)) (λe=>Nh e ⟨[],N+Pl b i.fsz mx k a⟩):=by
 intro k
 induction k with
 |zero =>
  intro a N j Gs h1 h3 h4 ha;rw[TH ha,ah vB];simp(maxSteps:=9^6)(disch:=first|omega|assumption) [ac,aa,OL]
 |succ k ih =>
  intro a N j Gs h1 h3 h4 ha;rw[Yw ha,ah rfl,UV b i mx hmx hb h2 a N j Gs o_ h4 ha o_ o_,L5];refine mf (λ_ _ h=>w5 (ai _) ha h) (λl a1 e1 hp=>?_) (λe e1=>?_)
  .rw[F6,ih a1 (N+l.length) (j+1) (Gs++[l]) o_ g_ o_ hp.2.1];refine mf (λ_ _ h=>FW hp.2.1 h) (λg a2 e2 hq=>?_) (λe e2=>?_)
   .simp[OL,bF]
   .simp[Pl,e1,bF]
  .simp[Pl,e1]
theorem acJ (b:C_)(a:Int)(i:ay)(hb:b.length<=1000000000)(ha:i64 a)(hi:i.Fit)(hm:i.may 11):bl prog qz [.d (.lst (aT b)),A_ a,.agg i.cells] =
  rK (Jr b i.max.toNat i.groups.length) (lM b i a) (λg n=>some (.tup [ao 1 (aV g),A_ n,A_ 0])) (λe=>some (.tup [.nl,A_ 0,A_ (e+1)])):=by
 have hmx:i.max=i.max.toNat:=by have:=hm.2.2.1;omega
 have hmb:i.max.toNat<=1000:=by have:=hm.2.2.2.1;have:=VT (r:=11) (s:=decide (i.seq=2)) o_;omega
 have hll:=hi.len;rw[aM IA IG rfl];have hl:=UH b i i.max.toNat hmx hb hmb hi.len;unfold lM;by_cases h0:0<=a∧a<=b.length
 .obtain⟨A,rfl⟩:=az h0.1;have h1:=hl i.groups.length A 1 0 [] o_ g_ o_ o_;have c0:((0:Nat):Int)=0:=rfl;simp only[ay.cells,aV,List.map_nil,c9,aD,c0]at h1;rw[ac h0];simp(maxSteps:=9^6)(disch:=first|omega|assumption) [ac,aa,h1];refine bL (λ_ _=>rfl) (λg n hp=>?_) λ_=>rfl
  have hb:=WL (m:=1) (aaO (g:=g));simp only[aV]at hb⊢;by_cases hf:iW (ao 1 (List.map (λl=>[D.lst (dH l)]) g))=true
  .rw[ac hf,hb hf]
  .rw[aa hf]
 .rw[aa h0];by_cases h1:a<0
  .simp(maxSteps:=9^6)(disch:=first|omega|assumption) [ac,aa]
  .simp(maxSteps:=9^6)(disch:=first|omega|assumption) [ac,aa]
end Go.Vm
end
