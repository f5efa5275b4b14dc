import Derived.KernelRfl
import Derived.Test.YtlkdijocbcbcpaaGreatP3
set_option linter.unusedVariables false
set_option linter.unusedSimpArgs false
set_option linter.defProp false
set_option linter.unusedSectionVars false
noncomputable section
namespace Go.Vm
set_option maxRecDepth 100000
set_option maxHeartbeats 8000000
theorem g_ {p:Prop}(h:p:=by decide +kernel):p:=h
theorem t_ {p:Prop}(h:p:=by simp;omega):p:=h
def aq2:Nat->Nat->Nat->Nat->Nat×Nat
 |0,_,a,n=>(a,n)
 |f+1,m,a,n=>match Nat.ble (n % 16) 7 with
  |true=>(a+m*(n % 16),n / 16)
  |false=>aq2 f (m*8) (a+m*(n % 16-8)) (n / 16)
def gx (α:Type):=Nat×Nat->α×(Nat×Nat)
def bO {α:Type}(x:α):gx α:=λs=>(x,s)
def gx.a {α β:Type}(p:gx (α->β))(q:gx α):gx β:=λs=>match p s with
 |(f,s)=>match q s with
  |(x,s)=>(f x,s)
def gx.b {α β:Type}(p:gx α)(q:α->gx β):gx β:=λs=>match p s with
 |(x,s)=>q x s
def eu:gx Nat:=λs=>match s with
 |(t,n)=>match aq2 40 1 0 n with
  |(v,n)=>(v,(t,n))
def ap6:gx Nat:=λs=>match s with
 |(t,n)=>(t,(t,n))
def ax9 {α:Type}(p:gx α):Nat->gx (List α)
 |0=>bO []
 |k+1=>(bO .cons).a p |>.a (ax9 p k)
def tC {α:Type}(p:gx α):gx (List α):=eu.b (ax9 p)
def Yh (v:Nat):Bool:=Nat.beq (v % 2) 0
def amN (t v:Nat):Nat:=match Yh v with
 |true=>t-v / 2
 |false=>v / 2
def Ww:gx Nat:=eu.b λv=>ap6.b λt=>bO (amN t v)
def apX:gx Nat:=λs=>match s with
 |(t,n)=>match aq2 40 1 0 n with
  |(v,n)=>match Yh v with
   |true=>(t+1+v / 2,(t+1+v / 2,n))
   |false=>(v / 2,(v / 2,n))
def alU:Nat->Nat->Int
 |0,_=>0
 |f+1,v=>match v with
  |0=>0
  |v=>match Yh v with
   |true=>2*alU f (v / 2)
   |false=>2*alU f (v / 2)+1
def aCM (v:Nat):Int:=match Yh v with
 |true=>alU 80 (v / 2)
 |false=>-alU 80 (v / 2+1)
def agG:gx Int:=(bO aCM).a eu
def axD:Nat->IntKind
 |0=>.i64
 |1=>.u8
 |2=>.u64
 |3=>.u32
 |_=>.i64
def WM:gx Bool:=(bO λv=>Nat.beq v 1).a eu
def aAr:Nat->gx D
 |0=>bO (.bool false)
 |1=>bO (.bool true)
 |k=>(bO λz=>D.int (axD (k-2)) z).a agG
def ays:gx D:=eu.b aAr
def asE:Nat->gx AV
 |0=>(bO λz=>A_ z).a agG
 |1=>bO (B_ true)
 |2=>bO (B_ false)
 |3=>bO .nl
 |4=>(bO λz=>.d (.int .u8 z)).a agG
 |5=>(bO .d).a ays
 |6=>bO .nilp
 |7=>bO .nilf
 |9=>(bO λz=>.d (.int .u64 z)).a agG
 |10=>(bO λz=>.d (.int .u32 z)).a agG
 |19=>bO .junk
 |20=>(bO λf=>.fn f [] []).a eu
 |_=>bO .junk
def awX:gx AV:=eu.b asE
def azH:Nat->Nat->gx Rd
 |0,v=>ap6.b λt=>bO (.m (amN t v))
 |1,v=>ap6.b λt=>bO (.s (amN t v))
 |_,v=>(bO .c).a (asE v)
def dW:gx Rd:=eu.b λv=>azH (v % 3) (v / 3)
def abq {α:Type}(p:gx α):gx (Option α):=eu.b λv=>match v with
 |0=>bO none
 |_=>(bO some).a p
def awO:gx J_:=(bO λv=>match v with
 |0=>none
 |v+1=>some v).a eu
def aDl:Nat->BinOp
 |1=>.eql
 |2=>.lss
 |3=>.neq
 |4=>.gtr
 |5=>.sub
 |6=>.geq
 |7=>.mul
 |8=>.shr
 |9=>.leq
 |10=>.shl
 |11=>.rem
 |12=>.and
 |13=>.quo
 |14=>.or
 |_=>.add
def aCH:Nat->UnOp
 |1=>.neg
 |_=>.not
def adY:Nat->gx pV
 |0=>(bO .mov).a dW
 |1=>(bO .bin).a ((bO aDl).a eu) |>.a dW |>.a dW
 |2=>(bO .ld).a awO |>.a eu |>.a dW
 |3=>(bO .fa).a eu |>.a dW
 |4=>(bO .kill).a (tC Ww)
 |5=>(bO .st).a eu |>.a dW |>.a dW
 |6=>(bO .ext).a Ww |>.a WM |>.a eu
 |7=>(bO .call).a eu |>.a (tC dW)
 |8=>(bO .pick).a dW |>.a dW |>.a dW
 |9=>(bO .len).a dW
 |10=>(bO .ia).a eu |>.a dW |>.a dW
 |11=>(bO .box).a dW
 |12=>(bO .alloc).a (tC awX)
 |13=>(bO .calli).a eu |>.a (tC dW)
 |14=>(bO .callv).a dW |>.a (tC dW)
 |15=>(bO .nilck).a dW
 |16=>(bO .un).a ((bO aCH).a eu) |>.a dW
 |17=>(bO .build).a (tC awX) |>.a (tC ((bO λa b c=>(a,b,c)).a eu |>.a eu |>.a dW))
 |18=>(bO .app).a eu |>.a dW |>.a dW
 |19=>(bO .mks).a eu |>.a (tC dW)
 |20=>(bO .conv).a ((bO axD).a eu) |>.a dW
 |21=>(bO .mkfn).a eu |>.a (tC dW) |>.a (tC dW)
 |22=>(bO .iarr).a eu |>.a eu |>.a dW |>.a dW
 |23=>(bO .mkslice).a (tC ays) |>.a dW |>.a dW
 |24=>(bO .slice).a eu |>.a dW |>.a (abq dW) |>.a (abq dW) |>.a (abq dW)
 |26=>(bO .toStr).a dW
 |27=>(bO .binb).a WM |>.a dW |>.a dW
 |28=>(bO .minmax).a WM |>.a (tC dW)
 |29=>(bO .ix).a eu |>.a eu |>.a WM |>.a dW |>.a dW
 |30=>(bO .ixs).a dW |>.a dW
 |32=>(bO .bina).a WM |>.a (tC WM) |>.a dW |>.a dW
 |34=>(bO .cpy).a eu |>.a dW |>.a dW
 |36=>(bO .mksv).a eu |>.a (tC dW)
 |37=>(bO .slarr).a eu |>.a dW |>.a (abq dW) |>.a (abq dW) |>.a (abq dW)
 |42=>(bO .frz).a eu
 |_=>bO .bad
def aCJ:gx (Nat×Nat):=(bO .mk).a eu |>.a eu
def azP:Nat->Nat->gx VI
 |0,o=>apX.b λd=>(bO λo=>⟨some d,none,o,[]⟩).a (adY o)
 |1,o=>(bO λo=>⟨none,none,o,[]⟩).a (adY o)
 |2,o=>apX.b λd=>Ww.b λg=>(bO λo=>⟨some d,some (g,true),o,[]⟩).a (adY o)
 |_,o=>apX.b λd=>Ww.b λg=>(bO λo=>⟨some d,some (g,false),o,[]⟩).a (adY o)
def alH (v:Nat):gx VI:=azP (v % 4) (v / 4)
def aAB:Nat->gx VI
 |184=>(bO fun(th:Q_) (x:VI)=>⟨x.dst,x.guard,x.op,th⟩).a (tC aCJ) |>.a (eu.b alH)
 |181=>(bO fun(g:Nat) (w:Bool) (x:VI)=>⟨x.dst,some (g,w),x.op,x.th⟩).a Ww |>.a WM |>.a (eu.b alH)
 |v=>alH v
def axL:gx VI:=eu.b aAB
def azA (s:List VC)(r:gx VC):Nat->gx VC
 |0=>(bO .seq).a r |>.a r
 |1=>(bO (.reg false)).a (tC axL)
 |2=>(bO .cond).a dW |>.a r |>.a r
 |3=>(bO K).a (tC Ww)
 |4=>bO .skip
 |5=>bO .ret
 |6=>(bO .block).a eu |>.a r
 |7=>(bO λk=>s.getD k .skip).a eu
 |8=>(bO F).a Ww
 |9=>(bO .exit).a eu
 |10=>(bO .loop).a r
 |11=>(bO (.reg true)).a (tC axL)
 |12=>(bO .rangeF).a dW |>.a (tC eu) |>.a r |>.a r
 |13=>(bO .scope).a r
 |14=>(bO .label).a eu
 |15=>(bO .goto).a eu
 |16=>(bO .clone).a eu
 |_=>bO .skip
def aqJ (s:List VC):Nat->gx VC
 |0=>bO .skip
 |f+1=>eu.b (azA s (aqJ s f))
def aC8:gx tX:=eu.b λv=>match Yh v with
 |true=>bO (.tmp (v / 2))
 |false=>(bO (.cell (v / 2))).a awO
def bm (s:List VC)(n:Nat):VC:=(aqJ s 1000 (0,n)).1
def aV (s:List VC)(n:Nat):aj:=((bO .mk).a eu |>.a (tC aC8) |>.a (aqJ s 1000) <|(0,n)).1
def aJ {α:Type}(c:α){d:α}(h:c=d:=by show ?c=?d;refine(?f:?c=?d->?c=?d) ?h;rotate_left;cbv;exact λ_=>by kernel_rfl):c=d:=h
def b6 {α:Type}(c:α){k d:α}(h:k=d)(g:c=k:=by exact rfl):c=d:=g.trans h
abbrev O:AV:=A_ 0
abbrev O8:AV:=.d (.int .u8 0)
abbrev Q (n:Int):Rd:=.c (.d (I n))
abbrev tt:Rd:=.c (B_ true)
abbrev ff:Rd:=.c (B_ false)
abbrev A (d s:Nat):VI:=V d (.mov (.m s))
abbrev B (d s:Nat):VI:=V d (.mov (.s s))
abbrev C (d:Nat)(s:Rd):VI:=V d (.mov s)
abbrev M (d s:Nat):VI:=V d (.ld none 0 (.m s))
abbrev G (d s:Nat):VI:=V d (.ld none 0 (.s s))
abbrev Z (l:C_):VI:=N (.kill l)
abbrev H (d:Nat)(f:FuncId)(l:S_):VI:=V d (.call f l)
abbrev L (d:Nat)(o:BinOp)(x y:Nat):VI:=V d (.bin o (.m x) (.m y))
abbrev P (d:Nat)(o:BinOp)(x:Nat)(n:Int):VI:=V d (.bin o (.m x) (Q n))
abbrev J (d:Nat)(o:BinOp)(x y:Nat):VI:=V d (.bin o (.s x) (.s y))
abbrev X (d n s:Nat):VI:=V d (.fa n (.s s))
abbrev E (d s:Nat)(x:Bool)(n:Nat):VI:=V d (.ext s x n)
abbrev Yd (n a b:Nat):VI:=N (.st n (.s a) (.m b))
abbrev Rg (l:R_):VC:=.reg false l
def unp (q:C_)(l:R_):R_:=q.filterMap λi=>l[i]?
abbrev xW:Nat:=3
abbrev yY:Nat:=4
abbrev kx:Nat:=5
abbrev vK:Nat:=6
abbrev J4:Nat:=7
abbrev Qr:Nat:=8
abbrev l8:Nat:=9
abbrev jL:Nat:=10
abbrev Ej:Nat:=11
abbrev uE:Nat:=12
abbrev w8:Nat:=13
abbrev qO:Nat:=14
abbrev ka:Nat:=15
abbrev sj:Nat:=16
abbrev dk:Nat:=17
abbrev bL:Nat:=18
abbrev jo:Nat:=19
abbrev eg:Nat:=20
abbrev DD:Nat:=21
abbrev VL:Nat:=22
abbrev Ei:Nat:=23
abbrev VE:Nat:=24
abbrev yk:Nat:=25
abbrev yw:Nat:=26
abbrev LM:Nat:=27
abbrev AQ:Nat:=28
abbrev oM:Nat:=29
abbrev Lz:Nat:=30
abbrev A7:Nat:=31
abbrev Y1:Nat:=32
abbrev Bs:Nat:=33
abbrev U5:Nat:=34
abbrev A8:Nat:=35
abbrev Bu:Nat:=36
abbrev oK:Nat:=37
abbrev Qg:Nat:=38
abbrev Ng:Nat:=39
abbrev Bd:Nat:=40
abbrev SO:Nat:=41
abbrev yS:Nat:=42
abbrev xn:Nat:=43
abbrev MG:Nat:=44
abbrev vu:Nat:=45
abbrev DA:Nat:=46
abbrev eU:Nat:=47
abbrev qg:Nat:=48
abbrev jl:Nat:=49
abbrev fZ:Nat:=50
abbrev vg:Nat:=51
abbrev vj:Nat:=52
abbrev ue:Nat:=53
abbrev oC:Nat:=54
abbrev DN:Nat:=55
abbrev Dk:Nat:=56
abbrev ug:Nat:=57
abbrev xj:Nat:=58
abbrev zk:Nat:=59
abbrev BR:Nat:=60
abbrev Tn:Nat:=61
abbrev FU:Nat:=62
abbrev Nm:Nat:=63
abbrev EU:Nat:=64
abbrev Sg:Nat:=65
abbrev S3:Nat:=66
abbrev VT:Nat:=67
abbrev HN:Nat:=68
abbrev Nr:Nat:=69
abbrev xJ:Nat:=70
abbrev Dv:Nat:=71
abbrev KR:Nat:=72
abbrev E4:Nat:=73
abbrev HJ:Nat:=74
abbrev VF:Nat:=75
abbrev mg:Nat:=76
abbrev RN:Nat:=77
abbrev abn:Nat:=78
abbrev Lw:Nat:=79
abbrev H1:Nat:=80
abbrev QJ:Nat:=81
abbrev Az:Nat:=82
abbrev CJ:Nat:=83
abbrev II:Nat:=84
abbrev rJ:Nat:=85
abbrev Co:Nat:=86
abbrev Eu:Nat:=87
abbrev EJ:Nat:=88
abbrev Dq:Nat:=89
abbrev C4:Nat:=90
abbrev ED:Nat:=91
abbrev uX:Nat:=92
abbrev Do:Nat:=93
abbrev EN:Nat:=94
abbrev CO:Nat:=95
abbrev u4:Nat:=96
abbrev AM:Nat:=97
abbrev En:Nat:=98
abbrev EV:Nat:=99
abbrev ni:Nat:=100
abbrev wu:Nat:=101
abbrev Df:Nat:=102
abbrev ayG:Nat:=103
abbrev Jb:Nat:=104
abbrev apx:Nat:=105
abbrev Ci:Nat:=106
abbrev Hb:Nat:=107
abbrev gQ:Nat:=108
abbrev t4:Nat:=109
abbrev Jr:Nat:=110
abbrev EG:Nat:=111
abbrev uI:Nat:=112
abbrev Dz:Nat:=113
abbrev EI:Nat:=114
abbrev Aw:Nat:=115
abbrev AL:Nat:=116
abbrev uo:Nat:=117
abbrev sF:Nat:=118
abbrev Mx:Nat:=119
abbrev Oy:Nat:=120
abbrev Ex:Nat:=121
abbrev As:Nat:=122
abbrev GR:Nat:=123
abbrev w5:Nat:=124
abbrev CX:Nat:=125
abbrev GT:Nat:=126
abbrev LG:Nat:=127
abbrev zK:Nat:=128
abbrev zp:Nat:=129
abbrev asN:Nat:=130
abbrev alY:Nat:=131
abbrev ax3:Nat:=132
abbrev vS:Nat:=133
abbrev wn:Nat:=134
abbrev H9:Nat:=135
abbrev CL:Nat:=136
abbrev N1:Nat:=137
abbrev sr:Nat:=138
abbrev N0:Nat:=139
abbrev ER:Nat:=140
abbrev ajF:Nat:=141
abbrev akX:Nat:=142
abbrev apI:Nat:=143
abbrev apH:Nat:=144
abbrev afS:Nat:=145
abbrev amt:Nat:=146
abbrev oL:Nat:=147
abbrev cP:Nat:=148
abbrev v6:Nat:=149
abbrev sT:Nat:=150
def pX:aj:=aV [] 0x1529181d18019f19d19b19918b1897f2b1f1b31b293eb1901873e04871d118064a6027401da1a2026001873804871d16067a4025e20260061c2603c6c1601858164a18281005185b1292bf002b9152d33002352968101a03801186382ab5b061c2503c1a0028153c181a1003f1291fb001ed152d33002351d68101a03801186381df3f061c2403c1a0028052c181a101af1b0601d81a28031045519011051831300027ec826404604c1a1a0310001291820325c3101812
def dY:=aJ pX
def BX:VC:=bm [] 0x11cad3ed0226e004216012d383e105822610422621a06c580079006c3ce0711bdb2b01d002104603192423040201d723ec4110
def Qt:=aJ BX
def QT (a0:VC):VC:=bm [a0] 0x11cff3ab02238e004216012d3c301c62a10198611019c28e2d96b006100183c32a1c1810223071a0360200604c6c3be031003dd1291b9d290770101bc0012f86000185e201c51041192e3823002246181a529754c04802731a077001801b72601f7407f582036002263046000183c201c1b1002601192423040201d723aa4110
def acJ (a0:VC):=aJ (QT a0)
def fK:VC:=QT BX
def HD:=b6 fK (acJ BX)
def Gc:VC:=.regP (.range 7) [0,5,1,2,3,4,6] [4,5] [V 148 (.build [.nl,B_ false,O,.nl,.nl] []),A 149 6,V 150 (.nilck (.m 149)),V 151 (.fa 2 (.m 150)),M 152 151,Yd 5 4 148,A 5 152]
abbrev QC:=[B 154 6,B 155 6,B 156 6,V 157 (.nilck (.m 156)),V 158 (.fa 0 (.m 157)),M 159 158,B 160 6,V 161 (.nilck (.m 160)),V 162 (.fa 1 (.m 161)),M 163 162,X 164 0 2,M 165 164,X 166 1 4,M 167 166,V 168 (.ld (some 4) 0 (.s 7)),H 169 uE [.m 159,.m 163,.m 165,.m 167,.m 168],A 153 169,E 170 153 true 0,E 171 153 false 1,E 172 153 false 2,Yd 9 10 170,V 173 (.nilck (.m 154)),V 174 (.fa 1 (.m 173)),N (.st 1 (.m 174) (.m 171)),V 175 (.nilck (.m 155)),V 176 (.fa 2 (.m 175)),N (.st 1 (.m 176) (.m 172))]
def Fk:VC:=.regP (.range 27) [2,3,4,5,6,7,8,9,10,11,12,13,14,15,16,17,20,0,18,21,22,23,1,19,24,25,26] [] QC
def F6:VC:=.regP (.range 7) [0,5,1,2,3,4,6] [4,5] [V 182 (.build [.nl,B_ false,O,.nl,.nl] []),A 183 6,V 184 (.nilck (.m 183)),V 185 (.fa 2 (.m 184)),M 186 185,Yd 5 4 182,A 5 186]
def QR (a0 a1 a2:VC):VC:=bm [a0,a1,a2] 0x12a994bb0224f8004212d186012d3c001c62a1901986119019c18811a0186100183c01a1c710452702d181f185181a81aa230000020263046000186201c607c5859c05104eb13170003333300040400192d68110450701f185181c1e23000020263046000186201c607c580051006605191f18518242300040201d724ba4110
def adt (a0 a1 a2:VC):=aJ (QR a0 a1 a2)
def fo:VC:=QR Gc Fk F6
def BW:=b6 fo (adt Gc Fk F6)
def wo:VC:=.regP [0,1,3,4,5,2,6,7] (.range 8) [2,4] [B 34 6,B 35 6,V 36 (.calli jL [.m 35,Q 3]),X 37 1 2,M 38 37,P 39 .sub 38 1,L 40 .eql 36 39,V 41 (.calli l8 [.m 34,.m 40])]
abbrev BI:=Rg [B 42 6,B 43 6,V 44 (.calli jL [.m 43,Q 4]),P 45 .eql 44 0,V 46 (.calli l8 [.m 42,.m 45]),Z [46]]
abbrev BL:=Rg [V 7 (.alloc [O8,O8,O,.nl])]
abbrev tw:=Rg [X 47 1 2,M 48 47,P 49 .eql 48 2]
abbrev tQ:=Rg [B 50 6,V 51 (.calli jL [.m 50,Q 1]),P 52 .eql 51 1,X 53 1 4,N (.st 1 (.m 53) (.m 52))]
abbrev mh:=Rg [X 54 1 4,M 55 54,A 56 55,W 56 57 (.mov (.s 6)),W 56 58 (.nilck (.s 57)),W 56 59 (.fa 2 (.s 58)),W 56 60 (.ld none 0 (.s 59)),W 56 61 (.bin .eql (.s 60) (Q 0)),V 62 (.pick (.m 56) (.s 61) ff),Z [57,58,59,60,61]]
abbrev Qe:=[B 64 6,B 65 6,B 66 6,V 67 (.nilck (.m 66)),V 68 (.fa 0 (.m 67)),M 69 68,B 70 6,V 71 (.nilck (.m 70)),V 72 (.fa 1 (.m 71)),M 73 72,X 74 0 2,M 75 74,H 76 Ej [.m 69,.m 73,.m 75],A 63 76,E 77 63 true 0,E 78 63 false 1,E 79 63 false 2,Yd 4 7 77,V 80 (.nilck (.m 64)),V 81 (.fa 1 (.m 80)),N (.st 1 (.m 81) (.m 78)),V 82 (.nilck (.m 65)),V 83 (.fa 2 (.m 82)),N (.st 1 (.m 83) (.m 79))]
def yP:VC:=.regP (.range 24) [2,3,4,5,6,7,8,9,10,11,12,13,14,17,0,15,18,19,20,1,16,21,22,23] [] Qe
abbrev EZ:=Rg [B 84 6,V 85 (.nilck (.m 84)),V 86 (.fa 2 (.m 85)),M 87 86,P 88 .neq 87 0]
def yC:VC:=.regP (.range 7) [0,5,1,2,3,4,6] [4,5] [V 89 (.build [.nl,B_ false,O,.nl,.nl] []),A 90 6,V 91 (.nilck (.m 90)),V 92 (.fa 2 (.m 91)),M 93 92,Yd 5 4 89,A 5 93]
abbrev yL:=Rg [B 94 6,V 95 (.calli jL [.m 94,Q 2]),X 96 2 4,N (.st 1 (.m 96) (.m 95))]
abbrev za:=Rg [B 97 6,X 98 2 4,M 99 98,P 100 .lss 99 3,V 101 (.calli l8 [.m 97,.m 100]),Z [101]]
abbrev yQ:=Rg [X 102 3 7,M 103 102,V 104 (.len (.m 103)),C 105 (Q 0)]
abbrev E3:=Rg [X 139 1 2,M 140 139,C 141 (Q 0)]
abbrev Fv:=Rg [B 195 6,V 196 (.calli w8 [.m 195]),A 194 196,E 197 194 true 0,E 198 194 false 1,X 199 4 4,N (.st 1 (.m 199) (.m 197)),Z [194,198]]
abbrev FD:=Rg [B 200 6,V 201 (.nilck (.m 200)),V 202 (.fa 2 (.m 201)),M 203 202,P 204 .neq 203 0]
def yK:VC:=.regP (.range 7) [0,5,1,2,3,4,6] [4,5] [V 205 (.build [.nl,B_ false,O,.nl,.nl] []),A 206 6,V 207 (.nilck (.m 206)),V 208 (.fa 2 (.m 207)),M 209 208,Yd 5 4 205,A 5 209]
abbrev Fp:VC:=(.reg true [
 B 210 6,
 V 211 (.nilck (.m 210)),
 V 212 (.fa 0 (.m 211)),
 M 213 212,
 V 214 (.len (.m 213)),
 B 215 6,
 V 216 (.nilck (.m 215)),
 V 217 (.fa 1 (.m 216)),
 M 218 217,
 L 219 .sub 214 218,
 P 220 .gtr 219 7,
 A 221 220,
 U 221 222 (.mov (.s 6)),
 U 221 223 (.nilck (.s 222)),
 U 221 224 (.fa 0 (.s 223)),
 U 221 225 (.ld none 0 (.s 224)),
 U 221 226 (.mov (.s 6)),
 U 221 227 (.nilck (.s 226)),
 U 221 228 (.fa 1 (.s 227)),
 U 221 229 (.ld none 0 (.s 228)),
 U 221 230 (.slice 1 (.s 225) (some (.s 229)) none none),
 U 221 231 (.call qO [.s 230,.c (.d (.int .u8 1))]),
 V 232 (.pick (.s 221) tt (.s 231))])
abbrev EX:=Rg [V 233 (.build [.nl,B_ false,O,.nl,.nl] []),Yd 5 4 233,C 5 (Q 8)]
abbrev Fs:=Rg [V 234 (.ld (some 5) 0 (.s 4)),Yd 5 4 234,C 5 (Q 0)]
def ZJ (a0 a1 a2 a3 a4 a5 a6 a7 a8 a9 a10 a11 a12 a13 a14 a15 a16 a17 a18 a19 a20:VC):aj:=aV [a0,a1,a2,a3,a4,a5,a6,a7,a8,a9,a10,a11,a12,a13,a14,a15,a16,a17,a18,a19,a20] 0x152c70452b702deb279f79d79b79978f78d78b7896ff6fd6fb1d1c32a70004529702b9b2287001f701f185184bb4b923001e71a0561d70043ab3a9231c71a0161b701a7019704518701f185180018ab27701ff13670005ef257004474d9237002701701ab13070041e2292a012d6001c3e07c101a03801186382e96d0611803c1900585801a102b91d0605c00000334c18c31045621b003c52d3c061c18310518313000228f4906384046688270460001828101c604c1a2e07105421b003c52d3c0661831051831300021af2f060018861703c28051c18410060012902003300235268325c4101a61922
def alh (a0 a1 a2 a3 a4 a5 a6 a7 a8 a9 a10 a11 a12 a13 a14 a15 a16 a17 a18 a19 a20:VC):=aJ (ZJ a0 a1 a2 a3 a4 a5 a6 a7 a8 a9 a10 a11 a12 a13 a14 a15 a16 a17 a18 a19 a20)
def OR:aj:=ZJ wo BI BL tw tQ mh yP EZ yC yL za yQ fK E3 fo Fv FD yK Fp EX Fs
def Pr:=b6 OR (alh wo BI BL tw tQ mh yP EZ yC yL za yQ fK E3 fo Fv FD yK Fp EX Fs)
def pK:VC:=.regP (.range 7) [0,5,1,2,3,4,6] [4,5] [V 70 (.build [.nl,B_ false,O,.nl,.nl] []),A 71 6,V 72 (.nilck (.m 71)),V 73 (.fa 2 (.m 72)),M 74 73,Yd 5 4 70,A 5 74]
abbrev Al:=[B 76 6,V 77 (.nilck (.m 76)),V 78 (.fa 0 (.m 77)),M 79 78,B 80 6,V 81 (.nilck (.m 80)),V 82 (.fa 1 (.m 81)),M 83 82,X 84 0 2,M 85 84,X 86 1 7,M 87 86,V 88 (.ld (some 4) 0 (.s 8)),H 89 eg [.m 79,.m 83,.m 85,.m 87,.m 88],A 75 89,E 90 75 true 0,E 91 75 false 1,E 92 75 false 2,V 10 (.alloc [O,O8,O8,O,.nl,.nl,.nl,.nl,.nl]),Yd 9 10 90,A 11 91,A 12 92]
def pR:VC:=.regP (.range 22) [0,1,2,3,4,5,6,7,8,9,10,11,12,13,14,15,18,19,16,20,17,21] [] Al
def zT (a0 a1:VC):VC:=bm [a0,a1] 0x168b2b0226004791ff0312d186012d5e001c62a1901986119019c18811a0186100185e001c7101c012d6101c1c07c18d00582ee05104391305198b1b063c52d19b0003300235018c4102d1829185182f2b1f1d4300000202630419c5e021002af1317004507029185182b1f23000020263046000186201c607c5840510016001929185182b1300040262a20460001828101c7a1ec04100
def Kh (a0 a1:VC):=aJ (zT a0 a1)
def cG:VC:=zT pK pR
def fk:=b6 cG (Kh pK pR)
def qb:VC:=.regP (.range 9) (.range 9) [1,3] [X 139 4 7,M 140 139,B 141 6,V 142 (.calli bL [.m 141,Q 8]),V 143 (.conv .u8 (.m 142)),V 144 (.mks 1 [.m 143]),⟨some 145,none,.app 1 (.m 140) (.m 144),[(0,0)]⟩,X 146 4 7,N (.st 1 (.m 146) (.m 145))]
def z8 (a0:VC):VC:=bm [a0] 0x11cff4902260041cb003107360219493d230402246181a5291874c04802711a067001801a72601e7407e5820260061c2041b8001cc3fc01b100
def Kl (a0:VC):=aJ (z8 a0)
def eh:VC:=z8 qb
def zB:=b6 eh (Kl qb)
def iO:VC:=bm [] 0x129cd4b02260041d95d8031452821b003c52d03300235018c3104b1f1d3300201e630460001861c10581da006000186001c607c584018105604194b1d23040264c204604c6000186001c607c58001da5cc07100
def zP:=aJ iO
abbrev qD:=Rg [V 2 (.box (.m 0)),V 4 (.alloc [.nl,B_ false,O,.nl,.nl]),C 5 (Q 0),Z [5]]
abbrev qW:=Rg [V 18 (.ld (some 4) 0 (.s 2)),H 19 ka [.m 18],V 20 (.un .not (.m 19))]
abbrev qV:=Rg [V 21 (.build [.nl,B_ false,O,.nl,.nl] []),Yd 5 4 21,C 5 (Q 2)]
abbrev qK:=Rg [B 22 1,V 23 (.len (.m 22)),X 24 1 2,M 25 24,V 26 (.bin .mul (Q 192) (.m 25)),L 27 .gtr 23 26]
abbrev qR:=Rg [V 28 (.build [.nl,B_ false,O,.nl,.nl] []),Yd 5 4 28,C 5 (Q 3)]
abbrev qU:=Rg [A 29 1,H 30 sj [.m 29],V 31 (.build [.nl,O,O] [(0,1,.m 30)]),V 32 (.box (.m 31)),A 6 32]
def ll:VC:=.regP [0,1,3,4,5,2,6,7] (.range 8) [2,4] [B 33 6,B 34 6,V 35 (.calli bL [.m 34,Q 3]),X 36 1 2,M 37 36,P 38 .sub 37 1,L 39 .eql 35 38,V 40 (.calli dk [.m 33,.m 39])]
abbrev qF:=Rg [B 41 6,B 42 6,V 43 (.calli bL [.m 42,Q 4]),P 44 .eql 43 0,V 45 (.calli dk [.m 41,.m 44]),Z [45]]
abbrev qX:=Rg [V 7 (.alloc [.nl,B_ false,O,.nl,.nl])]
abbrev q9:=Rg [V 8 (.alloc [O8,O8,O,.nl])]
abbrev pY:=Rg [X 46 1 2,M 47 46,P 48 .eql 47 2,A 49 48,W 49 50 (.mov (.s 6)),W 49 51 (.calli bL [.s 50,Q 1]),W 49 52 (.bin .eql (.s 51) (Q 1)),V 53 (.pick (.m 49) (.s 52) ff),Z [50,51,52]]
abbrev pW:=Rg [X 54 1 7,N (.st 1 (.m 54) tt)]
abbrev pr:=Rg [B 55 6,X 56 0 2,M 57 56,V 58 (.calli jo [.m 55,.m 57,.s 7]),Yd 4 8 58]
abbrev oS:=Rg [C 9 (Q 0)]
abbrev pO:=Rg [B 107 6,V 108 (.calli bL [.m 107,Q 3]),A 13 108]
abbrev qa:=Rg [B 109 13,P 110 .eql 109 6]
abbrev py:=Rg [B 111 6,V 112 (.calli bL [.m 111,Q 4]),A 14 112]
abbrev pq:=Rg [B 113 6,B 114 14,P 115 .gtr 114 0,V 116 (.calli dk [.m 113,.m 115]),Z [116]]
abbrev px:=Rg [B 117 14,P 118 .eql 117 15]
abbrev oW:=Rg [B 119 6,V 120 (.calli bL [.m 119,Q 8]),A 15 120]
abbrev pb:=Rg [B 121 6,B 122 15,P 123 .gtr 122 0,V 124 (.calli dk [.m 121,.m 123]),Z [124]]
abbrev p9:=Rg [A 125 15,V 126 (.bin .add (Q 14) (.m 125)),A 14 126]
abbrev pD:=Rg [C 16 (Q 0)]
abbrev pk:=Rg [B 147 6,V 148 (.calli bL [.m 147,Q 3]),A 13 148]
abbrev pe:=Rg [B 149 6,A 150 13,P 151 .eql 150 7,V 152 (.calli dk [.m 149,.m 151]),Z [152]]
abbrev pU:=Rg [B 153 6,V 154 (.nilck (.m 153)),V 155 (.fa 2 (.m 154)),M 156 155,P 157 .neq 156 0]
def kA:VC:=.regP (.range 7) [0,5,1,2,3,4,6] [4,5] [V 158 (.build [.nl,B_ false,O,.nl,.nl] []),A 159 6,V 160 (.nilck (.m 159)),V 161 (.fa 2 (.m 160)),M 162 161,Yd 5 4 158,A 5 162]
abbrev pi:VC:=(.reg true [
 B 163 6,
 V 164 (.nilck (.m 163)),
 V 165 (.fa 0 (.m 164)),
 M 166 165,
 V 167 (.len (.m 166)),
 B 168 6,
 V 169 (.nilck (.m 168)),
 V 170 (.fa 1 (.m 169)),
 M 171 170,
 L 172 .sub 167 171,
 P 173 .gtr 172 7])
abbrev pc:=Rg [V 174 (.build [.nl,B_ false,O,.nl,.nl] []),Yd 5 4 174,C 5 (Q 8)]
abbrev oU:=Rg [B 175 6,V 176 (.nilck (.m 175)),V 177 (.fa 1 (.m 176)),M 178 177,A 17 178]
abbrev pw:=Rg [V 197 (.ld (some 5) 1 (.m 7)),Yd 5 4 197,C 5 (Q 0)]
def Dw (a0 a1 a2 a3 a4 a5 a6 a7 a8 a9 a10 a11 a12 a13 a14 a15 a16 a17 a18 a19 a20 a21 a22 a23 a24 a25 a26 a27 a28 a29 a30 a31 a32 a33:VC):aj:=aV [a0,a1,a2,a3,a4,a5,a6,a7,a8,a9,a10,a11,a12,a13,a14,a15,a16,a17,a18,a19,a20,a21,a22,a23,a24,a25,a26,a27,a28,a29,a30,a31,a32,a33] 0x1549704b1d234871a0463f700453e701f1d23028a923d700453c701f1301ee923b7003a704397493d233871a0262f70042e72d702c703d1301b8f22b7002a7029703b1301aaf2287001f7029185182b13001e71a0061d70041c71b7058921a700197018707701a913670057045470518313002cd2370045270518313001fb217000701a61922
def P0 (a0 a1 a2 a3 a4 a5 a6 a7 a8 a9 a10 a11 a12 a13 a14 a15 a16 a17 a18 a19 a20 a21 a22 a23 a24 a25 a26 a27 a28 a29 a30 a31 a32 a33:VC):=aJ (Dw a0 a1 a2 a3 a4 a5 a6 a7 a8 a9 a10 a11 a12 a13 a14 a15 a16 a17 a18 a19 a20 a21 a22 a23 a24 a25 a26 a27 a28 a29 a30 a31 a32 a33)
def oD:aj:=Dw qD qW qV qK qR qU ll qF qX q9 pY pW pr oS cG pO qa py pq px oW pb p9 pD eh pk pe pU kA pi pc oU iO pw
def u9:=b6 oD (P0 qD qW qV qK qR qU ll qF qX q9 pY pW pr oS cG pO qa py pq px oW pb p9 pD eh pk pe pU kA pi pc oU iO pw)
def lm:VC:=bm [] 0x15891b0226004491be03145181901107185181b130000260018864c22d03c601a01861c190584a006000182e001c601a01861c190584a0060001828041c1c1b01600191b130402638204604c60001828001c4a1bc05100
def zD:=aJ lm
def lM:VC:=bm [] 0x118fd1f02260045d2ea03145181901107185181f1d230000266e101dc60001861c10585e0060001861c105858006000182e301c60001861c10585e0060001861c1058580060001828341c291b05604191f13040265a204604c60001861c1058580060001828301c5e2da018100
def zw:=aJ lM
def zS (a0:VC):VC:=bm [a0] 0x16eb1d02260044f1fe031013071a046024011045181901107185181d130000265a304604c60001861c105858006000182e301c604c60001861c1058580060001828341c1d1b003602197185181d13000402638204604c60001828301c5828a05100
def J9 (a0:VC):=aJ (zS a0)
def lj:VC:=zS lM
def zi:=b6 lj (J9 lM)
def Eo (a0 a1:VC):aj:=aV [a0,a1] 0x15519011061851801300171a02602001100013071a0060200110045181901107185180002246181a1c1e2c2e383a3c3e484e585a5c5e5d5b4d4b493f3d3a29756804873931e0771c04f7001a01b2e31801f7604f700401b283201f600756804873931e0771c04f7001a01b2e01801f7604f700401b280201f600756804873931e0771c01db7001a01b2e41801f7601db700401b284201f600754c04872b31a077001801b2e2601f700401b282201f60062a101dc6000182e101c60001828161c58100012918001905c325c4101812
def Ok (a0 a1:VC):=aJ (Eo a0 a1)
def vQ:aj:=Eo lm lj
def P5:=b6 vQ (Ok lm lj)
def JI:aj:=aV [] 0x152184f4d4b493f3d3b392b291f1b291fb501876e04875392804a4271607700401b1a1201f718022271606700401a1a1201e600187380482e2719606700401a1a0201e6000266046000181a001c2c10001291800305c310411
def aeL:=aJ JI
def vE:VC:=bm [] 0x15f4b493f4292ab1c021
def Xa:=aJ vE
def uM:VC:=bm [] 0x103b12d62a10198611019c5d003c1068185136
def Wi:=aJ uM
def J0 (a0 a1:VC):VC:=bm [a0,a1] 0x12e94b02219801a421018170738111c026282622e06c6001a84f3c03101fb1d06000181d39105831016001924633040201d724a4110
def W1 (a0 a1:VC):=aJ (J0 a0 a1)
def vI:VC:=J0 vE uM
def Cg:=b6 vI (W1 vE uM)
def QF (a0:VC):aj:=aV [a0] 0x1502002ef503b10381831002433071a0060200704c32c031001af112d31196860203101bc6282704604c41e06104562001b502101130022888888826404604c418031000222902001b203106421
def ads (a0:VC):=aJ (QF a0)
def Ht:aj:=QF vI
def acM:=b6 Ht (ads vI)
def Cq:aj:=aV [] 0x141130282012d6201c607c3004102246181a5291874c04802711a067001801a72601e7407e420260060018819601a1002
def Wm:=aJ Cq
abbrev Gz:=[B 13 0,V 14 (.nilck (.m 13)),V 15 (.fa 0 (.m 14)),M 16 15,B 17 0,V 18 (.nilck (.m 17)),V 19 (.fa 1 (.m 18)),M 20 19,A 21 1,H 22 Ei [.m 16,.m 20,.m 21],A 12 22,E 23 12 false 0,E 24 12 false 1,E 25 12 false 2,A 4 23,A 5 24,A 6 25]
def wS:VC:=.regP (.range 17) [0,1,2,3,4,5,6,7,8,9,10,11,14,12,15,13,16] [] Gz
def JS (a0:VC):aj:=aV [a0] 0x153bb1903b0021041b12301c012d6101c1c07c490030051020261044f002101c012d6201c1c07c580045a0510039130700450219011031230020263046000186201c607c4405100012902602101812
def Wk (a0:VC):=aJ (JS a0)
def Cn:aj:=JS wS
def WS:=b6 Cn (Wk wS)
def wj:VC:=bm [] 0x15db1a90221f8004216012d58301c61c101980012f82211019c61001858301c616012d3868105822600460001873f1058226504604c60001858301c60001858301c1b10222610422160787a0031016001922b23040201e2721a84110
def QI:=aJ wj
def HZ:VC:=.regP (.range 5) (.range 5) [1,2,3] [V 18 (.ld (some 4) 0 (.s 6)),G 19 8,Yd 4 6 18,N (.st 1 (.s 7) (Q 0)),Yd 1 8 19]
def E0:VC:=.regP (.range 5) (.range 5) [1,2,3] [V 73 (.build [O8,O8,O,.nl] []),G 74 8,Yd 4 6 73,N (.st 1 (.s 7) (Q 0)),Yd 1 8 74]
def F0:VC:=.regP (.range 5) [0,2,1,3,4] [1,2] [V 85 (.ld (some 4) 0 (.s 6)),G 86 7,Yd 4 6 85,Yd 1 7 86,N (.st 1 (.s 8) (Q 0))]
def Zc (a0 a1 a2 a3:VC):aj:=aV [a0,a1,a2,a3] 0x15370452826c12d025e12d05842d0300040442818c410022cd2cb2c92bf55297ed2af0753e0480273180771d23a603f5805401b282036000263047f1a01a1052702d5230026eb29d00263046c002183102606012d58301c22111ea19c0012f8316ad2d062a1e04221607879007f005106012d58201c1c2160787a58041002b23171a00602001106012d58301c2211019c0012f83106012d58201c182160787a004100241e610460001858001c31006012d58101c6101a822160787a005106012d58001c6101a842160787a3a051029d2d022160787a3803102892b05e2d6c303901ac21005e12d19402104507075333002026304690001821021822905b12d10180380064381a92f018623803c2860710000106800106830004044468345c41002901f51d33
def akL (a0 a1 a2 a3:VC):=aJ (Zc a0 a1 a2 a3)
def OL:aj:=Zc HZ wj E0 F0
def NP:=b6 OL (akL HZ wj E0 F0)
def Hj:VC:=.regP (.range 5) (.range 5) [1,2,3] [V 70 (.build [O,O8,O8,O,.nl,.nl,.nl,.nl,.nl] []),G 71 12,Yd 9 10 70,N (.st 1 (.s 11) (Q 0)),Yd 1 12 71]
def SY (a0:VC):VC:=bm [a0] 0x16eb1fd0227c04421450701e282a3d3b1f1b7300202630419c000182100129060781d91c80310023f12d1106994b06000181d39105831016001924633040201d721fc4110
def agI (a0:VC):=aJ (SY a0)
def ku:VC:=SY Hj
def Js:=b6 ku (agI Hj)
abbrev Hy:=Rg [V 19 (.alloc [O,O,O]),Yd 3 19 83,Z [13,14,82]]
def ahp (a0:VC):VC:=bm [a0] 0x107
def tY:VC:=ahp Hy
abbrev HV:=Rg [V 20 (.mov (.c (.nl))),Z [20]]
def BK:VC:=.regP (.range 14) [0,1,2,3,4,5,6,7,8,11,9,12,10,13] [0,1,5] [M 85 5,G 86 11,G 87 18,X 88 0 19,M 89 88,V 90 (.calli xn [.m 87,.m 89]),H 91 yS [.m 85,.m 86,.m 90],A 84 91,E 92 84 true 0,E 93 84 false 1,E 94 84 false 2,A 20 92,Yd 1 11 93,Yd 1 12 94]
abbrev HC:=Rg [G 95 12,P 96 .neq 95 0]
def BM:VC:=.regP (.range 5) (.range 5) [1,2,3] [V 97 (.build [O,O8,O8,O,.nl,.nl,.nl,.nl,.nl] []),G 98 12,N (.st 9 (.m 10) (.m 97)),N (.st 1 (.m 11) (Q 0)),Yd 1 12 98]
abbrev Hz:=Rg [V 99 (.fa 8 (.m 10)),M 100 99,X 101 1 19,M 102 101,X 103 2 19,M 104 103,V 105 (.slice 1 (.m 100) (some (.m 102)) (some (.m 104)) none),A 106 20,V 107 (.cpy 1 (.m 105) (.m 106)),Z [107]]
def agm (a0 a1 a2 a3 a4:VC):VC:=bm [a0,a1,a2,a3,a4] 0x14f184704392f2305391337004f18591300198b22702d94d231700007036
def tR:VC:=agm HV BK HC BM Hz
def Sk:VC:=.regP (.range 5) (.range 5) [1,2,3] [V 28 (.build [O,O8,O8,O,.nl,.nl,.nl,.nl,.nl] []),G 29 12,Yd 9 10 28,N (.st 1 (.s 11) (Q 0)),Yd 1 12 29]
def Jp:VC:=.regP (.range 5) (.range 5) [1,2,3] [V 39 (.build [O,O8,O8,O,.nl,.nl,.nl,.nl,.nl] []),G 40 12,Yd 9 10 39,N (.st 1 (.s 11) (Q 0)),Yd 1 12 40]
def I5:VC:=.regP (.range 5) (.range 5) [1,2,3] [V 49 (.build [O,O8,O8,O,.nl,.nl,.nl,.nl,.nl] []),G 50 12,Yd 9 10 49,N (.st 1 (.s 11) (Q 0)),Yd 1 12 50]
def Ho:VC:=.regP (.range 5) (.range 5) [1,2] [V 121 (.ld (some 9) 0 (.s 10)),G 122 11,Yd 9 10 121,Yd 1 11 122,N (.st 1 (.s 12) (Q 0))]
def ab7 (a0 a1 a2 a3 a4 a5 a6:VC):aj:=aV [a0,a1,a2,a3,a4,a5,a6] 0x156704528219c12d0218e12d0188192d0333330004040019018c41002246181a1c1e283d1929756e0481873f2804b7018018a715c603e700401a1887201e760322714071b800201b6000263041a9106a181d1000184d181b130057471ab111c02662a3e35906c600018188501c605018188101c5d101ec18610079b112d614d68605c033000033000033000033000033000033000033000033000033000033000033000033000068018c4106012d1881801c18882188820212c1bc0012f831002433371a0060200704c61c2a383e4c5a6818102a81bd1aa205801ac19c18818e4a1b8504d01ac1b81be204c01ac1aa1be204b01ac19c18818e4a404901ac19c18818e4a403f01ac19c5e18e4a6b18879703d01ac19c18818e4a403c1981ac1b1004ed112d713f6819c18e4a303b1981ac31002112d02712d0010680013b68410452702b291f1b43002242291872a048027340619c00201a6006c00018610019c12d61c23a03c7a050185e004184100451702b291f1b4300202630419c0001821041c229019c12d618e12d201c038101a03800186383997d00261c32f03c19004a006181a100450702b291f1b35300202630419c00018210218229019c12d101803800643829d5b018623803c5e002a1871000010680010683333300040400190683b05c2d05c1f25c3185c71003902f1a2d35
def amY (a0 a1 a2 a3 a4 a5 a6:VC):=aJ (ab7 a0 a1 a2 a3 a4 a5 a6)
def Tt:aj:=ab7 Sk Jp I5 ku tY tR Ho
def G8:=b6 Tt (amY Sk Jp I5 ku tY tR Ho)
def dg:VC:=bm [] 0x13f97902219e019c4213eb5063e10198611019c6101a8282621a06c4001f7e0714502001b502101c1e51430020263046000186201c607c40051004603192423040201d72784110
def rZ:=aJ dg
def EH (a0:VC):aj:=aV [a0] 0x15019012962a21906c1e261042e0031a8051048d7062621a06c43a0310223071a03602003b5c0210042bf1903c26004490031012962a21906c0264044a0043e05101fb1b0282621a06c40031019130023e261043c002100012962a21906c0264043c00428051019b190182621a06c42031021941197130027f2b01c21c1242100160260062e1801105d7062621a06c4403100012902001b203106421
def Q6 (a0:VC):=aJ (EH a0)
def wJ:aj:=EH dg
def lT:=b6 wJ (Q6 dg)
def qI:aj:=aV [] 0x156b19002660461c25d03c1900300510012918602101812
def Av:=aJ qI
def oe:aj:=aV [] 0x152184f4d4b493f3d3b392b291f1b291fb501876e04875392804a4271607700401b1a1201f718022271606700401a1a1201e600187380482e2719606700401a1a0201e6000266046000181a001c2c10001291800305c310411
def IJ:=aJ oe
def kb:VC:=bm [] 0x17f1902260043b1a0311df7065a10198282625e03c6001a860001861c10583c004002d4019116001918123040262a204604c40071804100
def oH:=aJ kb
def Bg (a0:VC):aj:=aV [a0] 0x151ed502d3c02100123071a006020011001b0011001291b20210411
def Lx (a0:VC):=aJ (Bg a0)
def su:aj:=Bg kb
def BD:=b6 su (Lx kb)
def nt:aj:=aV [] 0x141130282012d6201c607c30041022433291872a048704018a1a2026000261046000186201c607c4601a1002
def vY:=aJ nt
abbrev sS:=[B 14 0,V 15 (.nilck (.m 14)),V 16 (.fa 0 (.m 15)),M 17 16,B 18 0,V 19 (.nilck (.m 18)),V 20 (.fa 1 (.m 19)),M 21 20,A 22 1,H 23 eU [.m 17,.m 21,.m 22],A 13 23,E 24 13 false 0,E 25 13 false 1,E 26 13 false 2,A 5 24,A 6 25,A 7 26]
def kN:VC:=.regP (.range 17) [0,1,2,3,4,5,6,7,8,9,10,11,14,12,15,13,16] [] sS
def uA (a0:VC):aj:=aV [a0] 0x153c9190490021041d12301c012d6101c1c07c4f0030051020261045d0021001c012d6201c1c07c5e0045c05103b130700450219011031230020263046000186201c607c4605100012902602101812
def GJ (a0:VC):=aJ (uA a0)
def mM:aj:=uA kN
def mD:=b6 mM (GJ kN)
def j9:VC:=bm [] 0x178d39022600419b1fc0317d92f063e10198611019c22610422622a06c40018d40713602193913040262a2046000185e201c19c29a04100
def xy:=aJ j9
def w9 (a0:VC):VC:=bm [a0] 0x16c92d02260047f2990311c012d6301c6807c62a10198611019c18d006100186301c607c28002829a01b1013071a026020011001b2f01101600192d51330402246181a5291874c04822711a067001801a72601e7407e28202600638204604c6000185e301c1881de01d100
def Iq (a0:VC):=aJ (w9 a0)
def fG:VC:=w9 j9
def xc:=b6 fG (Iq j9)
abbrev xZ:=[B 20 0,V 21 (.nilck (.m 20)),V 22 (.fa 0 (.m 21)),M 23 22,B 24 0,V 25 (.nilck (.m 24)),V 26 (.fa 1 (.m 25)),M 27 26,A 28 1,H 29 qg [.m 23,.m 27,.m 28],A 19 29,E 30 19 true 0,E 31 19 false 1,E 32 19 false 2,V 7 (.alloc [O8,O8,O,.nl]),Yd 4 7 30,A 8 31,A 9 32]
def oq:VC:=.regP (.range 18) [0,1,2,3,4,5,6,7,8,9,10,11,14,15,12,16,13,17] [] xZ
def Ba (a0 a1:VC):aj:=aV [a0,a1] 0x151f1805842d5e152ca18210005133171a006022d01100012964c22906c6262046000186201c607c280040018101c012d6201c2a07c42622a06c40028006101c012d6101c1c07c6b0040051042b13051f1805842d5e1501821001c012d6201c1c07c7900300510295230020263047a3c021004f1307004505842d030004044018c210531330020263046000186201c607c41c05100300040441a6811051d13
def Lp (a0 a1:VC):=aJ (Ba a0 a1)
def sm:aj:=Ba oq fG
def Bt:=b6 sm (Lp oq fG)
abbrev AZ:=Rg [V 9 (.box (.m 4)),V 10 (.alloc [O,O8,O8,O,.nl,.nl,.nl,.nl,.nl]),C 11 (Q 0),C 12 (Q 0),Z [11,12]]
abbrev By:=Rg [B 17 2,P 18 .lss 17 0,A 19 18,U 19 20 (.mov (.s 2)),U 19 21 (.bin .gtr (.s 20) (Q 11)),V 22 (.pick (.m 19) tt (.s 21)),A 23 22,U 23 24 (.mov (.s 1)),U 23 25 (.bin .lss (.s 24) (Q 0)),V 26 (.pick (.m 23) tt (.s 25)),A 27 26,U 27 28 (.mov (.s 1)),U 27 29 (.mov (.s 0)),U 27 30 (.len (.s 29)),U 27 31 (.bin .gtr (.s 28) (.s 30)),V 32 (.pick (.m 27) tt (.s 31)),Z [20,21,24,25,28,29,30,31]]
abbrev Bi:=Rg [V 33 (.build [O,O8,O8,O,.nl,.nl,.nl,.nl,.nl] []),Yd 9 10 33,C 11 (Q 0),C 12 (Q 2)]
abbrev Bn:=Rg [B 34 3,A 35 34,W 35 36 (.mov (.s 2)),W 35 37 (.ld (some 4) 0 (.s 9)),W 35 38 (.call jl [.s 36,.s 37]),W 35 39 (.un .not (.s 38)),V 40 (.pick (.m 35) (.s 39) ff),Z [36,37,38,39]]
abbrev AS:=Rg [V 41 (.build [O,O8,O8,O,.nl,.nl,.nl,.nl,.nl] []),Yd 9 10 41,C 11 (Q 0),C 12 (Q 8)]
abbrev Bl:=Rg [V 42 (.ld (some 4) 1 (.s 9)),H 43 fZ [.m 42],V 44 (.build [O,O8,O8,O,.nl,.nl,.nl,.nl,.nl] [(1,4,.m 43)]),V 13 (.alloc [O,O8,O8,O,.nl,.nl,.nl,.nl,.nl]),Yd 9 13 44]
abbrev Bh:=Rg [B 46 0,A 47 1,H 48 eU [.m 46,.m 47,Q 8],A 45 48,E 49 45 false 0,E 50 45 false 1,E 51 45 false 2,A 14 49,A 1 50,A 15 51,Z [45]]
abbrev Bx:=Rg [B 52 15,P 53 .neq 52 0]
abbrev AU:=Rg [V 54 (.build [O,O8,O8,O,.nl,.nl,.nl,.nl,.nl] []),A 55 15,Yd 9 10 54,C 11 (Q 0),A 12 55]
abbrev BA:=Rg [A 56 14,X 57 0 13,N (.st 1 (.m 57) (.m 56))]
abbrev Ac:=Rg [A 58 3,V 59 (.un .not (.m 58))]
abbrev Ax:=Rg [B 61 0,A 62 1,B 63 2,H 64 qg [.m 61,.m 62,.m 63],A 60 64,E 65 60 true 0,E 66 60 false 1,E 67 60 false 2,X 68 1 13,N (.st 4 (.m 68) (.m 65)),A 1 66,A 15 67,Z [60]]
abbrev zY:=Rg [B 69 15,P 70 .neq 69 0]
abbrev Au:=Rg [V 71 (.build [O,O8,O8,O,.nl,.nl,.nl,.nl,.nl] []),A 72 15,Yd 9 10 71,C 11 (Q 0),A 12 72]
abbrev zC:=Rg [B 74 0,A 75 1,X 76 1 13,V 77 (.ld (some 4) 0 (.m 76)),H 78 vg [.m 74,.m 75,.m 77],A 73 78,E 79 73 true 0,E 80 73 false 1,E 81 73 false 2,X 82 5 13,N (.st 1 (.m 82) (.m 79)),A 1 80,A 15 81,Z [73]]
abbrev An:=Rg [B 83 15,P 84 .neq 83 0]
abbrev zu:=Rg [V 85 (.build [O,O8,O8,O,.nl,.nl,.nl,.nl,.nl] []),A 86 15,Yd 9 10 85,C 11 (Q 0),A 12 86]
abbrev zW:=Rg [B 88 0,A 89 1,X 90 0 13,M 91 90,X 92 5 13,M 93 92,H 94 vj [.m 88,.m 89,.m 91,.m 93],A 87 94,E 95 87 true 0,E 96 87 false 1,E 97 87 false 2,X 98 6 13,N (.st 1 (.m 98) (.m 95)),A 1 96,A 15 97,Z [87]]
abbrev zO:=Rg [B 99 15,P 100 .neq 99 0]
abbrev zy:=Rg [V 101 (.build [O,O8,O8,O,.nl,.nl,.nl,.nl,.nl] []),A 102 15,Yd 9 10 101,C 11 (Q 0),A 12 102]
abbrev z7:=Rg [C 16 (Q 0),Z [16]]
abbrev zq:=Rg [B 104 0,A 105 1,X 106 1 13,V 107 (.ld (some 4) 0 (.m 106)),H 108 ue [.m 104,.m 105,.m 107],A 103 108,E 109 103 true 0,E 110 103 false 1,E 111 103 false 2,E 112 103 false 3,X 113 7 13,N (.st 1 (.m 113) (.m 109)),A 16 110,A 1 111,A 15 112,Z [103]]
abbrev Ab:=Rg [B 114 15,P 115 .neq 114 0]
abbrev Aa:=Rg [V 116 (.build [O,O8,O8,O,.nl,.nl,.nl,.nl,.nl] []),A 117 15,Yd 9 10 116,C 11 (Q 0),A 12 117]
abbrev zM:=Rg [A 119 0,A 120 1,A 121 2,V 122 (.ld (some 9) 0 (.s 13)),H 123 oC [.m 119,.m 120,.m 121,.m 122],A 118 123,E 124 118 true 0,E 125 118 false 1,E 126 118 false 2,X 127 8 13,N (.st 1 (.m 127) (.m 124)),A 1 125,A 15 126,Z [118]]
abbrev Ag:=Rg [B 128 15,P 129 .neq 128 0]
abbrev zR:=Rg [V 130 (.build [O,O8,O8,O,.nl,.nl,.nl,.nl,.nl] []),A 131 15,Yd 9 10 130,C 11 (Q 0),A 12 131]
abbrev Ar:=Rg [A 132 16,P 133 .neq 132 0]
abbrev zm:=Rg [V 134 (.build [O,O8,O8,O,.nl,.nl,.nl,.nl,.nl] []),Yd 9 10 134,C 11 (Q 0),C 12 (Q 8)]
abbrev Ad:=Rg [V 135 (.ld (some 9) 1 (.s 13)),A 136 1,Yd 9 10 135,A 11 136,C 12 (Q 0)]
def Ru (a0 a1 a2 a3 a4 a5 a6 a7 a8 a9 a10 a11 a12 a13 a14 a15 a16 a17 a18 a19 a20 a21 a22 a23 a24 a25 a26 a27 a28 a29:VC):aj:=aV [a0,a1,a2,a3,a4,a5,a6,a7,a8,a9,a10,a11,a12,a13,a14,a15,a16,a17,a18,a19,a20,a21,a22,a23,a24,a25,a26,a27,a28,a29] 0x153b183d700453c703b18313001cc923b70043f13053a703b1849323001c99239700387043f13052f703b184953043001aed22e7002d702c7043f13052b703b18530330019bb22a700297043f130528703b1853033007fb21f7001e70443f13051d703b1853033006cf21c701b705cd21a700197043f130518703b183d75305300589277006702b185700454702b18753043003eb23700452702b187530430038b21700070382e1a2d35
def wI:aj:=Ru AZ By Bi Bn AS Bl Bh Bx AU BA Ac Ax zY Au zC An zu zW zO zy z7 zq Ab Aa zM Ag zR Ar zm Ad
def vA:aj:=aV [] 0x1521841801af1ad1ab1a919f19918f18d18b1897b796f6d6b5d5b594f4d3f3d3b392f392949b1901874c04872b27b1a03e7001801a2e7601e700401a287201e6001874c04872b27a1a03e7001801a2e6601e700401a286201e6001874c04872b2791a03e7001801a2e5601e700401a285201e6001874c04872b2781a03e7001801a2e18601e700401a2818201e6001874c04872b26f1a03e7051801a2e1601e705401a281201e60062a1046000182e001c60001828001c5a100012918001905c325c4101812
def PA:=aJ vA
def LX:aj:=aV [] 0x15491901f1c207c01ac21001292f001905c325c4101812
def aim:=aJ LX
def BJ:VC:=bm [] 0x14fb1890221f801ba4214ed1d06681e046001a8600018638105861c00479001a0040023d61a044f18a01b145282000200021d03102a2c2b1d5317300221e6404600018638105861c0047a001a0046a0710039f2b01d0021026011924133040201d721884110
def QN:=aJ BJ
def XM (a0:VC):aj:=aV [a0] 0x1502005ab005891d061c0041f0019004f58071002133071a0160200285c02100451a2000200021d03101d531430022ef69061c204280061c5041a00604c4480710542000200021d031018531430025d5b594f493f62929d2d0753e04872b418077604f44031a203600752a04802724071a203600600188617d03c28401f100600222902000200021a0410281e1c33
def alV (a0:VC):=aJ (XM a0)
def N5:aj:=XM BJ
def alJ:=b6 N5 (alV BJ)
def Ls:aj:=aV [] 0x151df001d91905d000262101e8226504604c4f1c0710291291a90019b1d0101a038011863818d29061c27e03c1900360191002229020002603101a1822
def ah7:=aJ Ls
def Ji:aj:=aV [] 0x1544531430291291bd1912d1af1c12d1a91b0201e038101c038001a183819b29061c2a32f03c3002e000181f002181c14130020261041a000182100021801101a14
def agZ:=aJ Ji
def JZ:aj:=aV [] 0x150219011045282190110022461c1e282a383a3c4a4c4e1b71f297538048706018b717f403f2e05201b600753e04871d418074a603700401b2e2201f60075380480272607700401b2e2201f600753804821e74607700401b2e1201f60061e64046000182e03a1c3910041d13051d91904f002101b7230020263045828021001f1291af001a91b0101e038001c1a3819b1f063823803c41e61046000182e001c3601b10012902001945c3101812
def ae7:=aJ JZ
def LV:aj:=aV [] 0x15191297f612d791912d6b702019038101903800186385d1902261c32f03c1a000183002181b1001290240210613
def aiH:=aJ LV
def LQ:aj:=aV [] 0x11912962d12d1c1912d2a012d1f001c2019038101903800186385d19028261c32f03c1a0001830018181c104
def ahO:=aJ LQ
def Ln:aj:=aV [] 0x141d1b19735302812964f12d1c3b12d2a042d19101c201e038101c038011a18381cb39061c2a31b03c49000183c000182d002181d1026001881f000182106042d1a101c613e03c3051c1841007
def VR:=aJ Ln
def Li:aj:=aV [] 0x1502842d19150182106012d1a301c6118803c0012f86000181a301c51030004044068305c2105511
def ahM:=aJ Li
def L5:aj:=aV [] 0x11912962d12d1c1912d2a012d1f501c2019038101903801191a387919062a3834803c60501828101c1a0001830018181e104
def air:=aJ L5
def BG:VC:=bm [] 0x16012d1aa101c61c0041b8006000181aa11fa1c61452820002001b1d03103b181ab1a93d392f2d2b1f1d1b11b3000261c40419c0061c0041b8006000181aa12ba1c61040130518890002001b1d06b004103b181ab1a93d392f2d2b1f1d1b11b300020263046c2ac02102af1297df007d91f07cb3d0201e038101c038001a18387bd2af061c2a32f03c7a005d0041c01c10056041940261c104188001af28c03100
def Qw:=aJ BG
def QK (a0:VC):VC:=bm [a0] 0x13b1819dd2f062a20198612019c1aa1301818d2de051019ad39062a5046000181aa101c19b2de0510452820002001b1d03103b181ab1a9392f2d2b1f1d1b11a3000260018861c218a03c19c001aa032ba184100013071a04669f3d01881ea02100452820002001b1d03103b18686a392f2d2b1f1d1b11a30002246329187380483a273606700401a1aa0201e6002e264046000181aa01ca1c191004013055b90002001b1d06b004103b183e48392f2d2b1f1d1b11a300020263046c1bc02101bf129589004fb1f02a012d1aa001c201c038101a03800186384df1bf018261c32f03c5d00418c01c100000023b68110362193913040202640419c1b802100
def ac1 (a0:VC):=aJ (QK a0)
def wx:VC:=QK BG
def HU:=b6 wx (ac1 BG)
def Qm (a0:VC):VC:=bm [a0] 0x11a9b1ab0223f9039a4211a8d1d062a10198611019c18d004f2ee051013071a02649b3906000184a27e1c31001b2f0110160019242d2b1b163040201d721aa4110
def adb (a0:VC):=aJ (Qm a0)
def wp:VC:=Qm wx
def Qj:=b6 wp (adb wx)
def ZM (a0:VC):aj:=aV [a0] 0x1502001aaf001aa91d05d004f28e0510022d2b1b163071a0060200604c6000184a36e1c410018b1293c9003bb2b010180380064383ad18b06118903c4a056a18181040130538b0002001b1d06b004101f1d1b1430020263046c5a02106f5f2292e9002db1f0201c038101a03800186382bf5f00261c32f03c190043e01a10040130528f0002001b1d06b004101d1b31430020263046c2e02104d3f2291ed29010180380064381d93f0614f03c4a051e18710002229020002001b001f185c510281e1c33
def alB (a0:VC):=aJ (ZM a0)
def Pe:aj:=ZM wp
def amx:=b6 Pe (alB wp)
def LT:aj:=aV [] 0x11912962d12d1c1912d2a012d1f601c2019038101903801191e3818d19062a3e4944a03c60001828501c60001828001c1a00018300181828104
def ahH:=aJ LT
def yJ:VC:=bm [] 0x11af1ad19b19918f52949b3e021
def iG:=aJ yJ
def Es:VC:=.regP (.range 4) (.range 4) [0,1,2] [G 96 10,N (.st 1 (.m 8) (.c (.nl))),N (.st 1 (.m 9) (Q 0)),Yd 1 10 96]
def Mi (a0:VC):VC:=bm [a0] 0x13d12901b812d62a10198611019c1d9001b8100186142d2b2933052827f12d027912d1b6b12d3104b3d23002246181a492f7291874c048701a018a71d2b318e1806e1da6021cc40218e00201a6000264041cc201a100452d1307004b493d2f43002026304188002b818210041913018e94b063e0046000186001c607c18e000181d929c0712cb19229189d5b12d188f6912d18894b0201c038101a03800186387fb2cb061c218d03c7a000183c006181b104b130027cb2bd00264041cc1fa03107a94b063e0046000186101c607c18e000181d91dc07128b192296dd5b12d6cf6912d6c94b0201c038101a03800186386bb28b061c218d03c7a000183c006181b104b1300268b1fd03a261041cc1ba03101df192295e95b12d5db6912d5cd4b0201c038101a03800186385bf1df02a261c32f03c7a000183c002c181b14b130021db1d91cf1cd1cb52958f1bb01874c04802721a067001801a71601e7407e18e00201a6003a261041cc7801b104600248011036
def aa5 (a0:VC):=aJ (Mi a0)
def yx:VC:=Mi Es
def iH:=b6 yx (aa5 Es)
def MJ (a0 a1:VC):VC:=bm [a0,a1] 0x11adf19b0223c9004213d1806c12d62a10198611019c1b8100186c1028e1851001817075c5b211c0266118c06c1a96c02100310681103eb3b06000181d3910583101600192f1819182463300040201d7219a4110
def aa6 (a0 a1:VC):=aJ (MJ a0 a1)
def lX:VC:=MJ yJ yx
def Fx:=b6 lX (aa6 yJ yx)
def FT:VC:=.regP (.range 4) (.range 4) [0,1,2] [G 31 10,N (.st 1 (.s 8) (.c (.nl))),N (.st 1 (.s 9) (Q 0)),Yd 1 10 31]
def DW:VC:=.regP (.range 5) (.range 5) [1,2] [G 115 8,G 116 9,Yd 1 8 115,Yd 1 9 116,N (.st 1 (.s 10) (Q 0))]
def Vj (a0 a1 a2:VC):aj:=aV [a0,a1,a2] 0x152702f1819180243300171a0060200704c2d5e0310039f112d612f68605c1211610200002018c1f20510450701918752300020263041880001821041c229018812d67a12d201c038101a03800186382b95d00261c32f03c19003c002181a1004528218812d027a12d1b6c12d310191875333000260018861c218b03c2e00281e0410000106800106831668365c41002d02b02934
def aic (a0 a1 a2:VC):=aJ (Vj a0 a1 a2)
def Lu:aj:=Vj FT lX DW
def ah6:=b6 Lu (aic FT lX DW)
def L7:aj:=aV [] 0x101912d060783002183102
def aix:=aJ L7
def LH:aj:=aV [] 0x101912d060783002183102
def ahC:=aJ LH
abbrev Ne:=Rg [A 25 5,V 26 (.mkslice [.lst []] (.s 25) (.s 25)),V 27 (.fa 7 (.m 3)),N (.st 1 (.m 27) (.m 26)),Z [25]]
def VH (a0:VC):aj:=aV [a0] 0x1074f02292ab0029d1b0101a038001863828f4f0614f03c6050182e121c19104195333052a12963b12d1c1f12d2a012d2d701c2028038101e038011c1a381af2b062a3834e03c6050182e101c280001819002181e10022261043001c18210005
def ahA (a0:VC):=aJ (VH a0)
def LE:aj:=VH Ne
def VB:=b6 LE (ahA Ne)
abbrev J7:=[X 86 4 16,V 87 (.ld none 2 (.m 86)),B 88 19,B 89 19,B 90 18,P 91 .sub 90 1,L 92 .shr 89 91,B 93 18,L 94 .shl 92 93,L 95 .sub 88 94,V 96 (.mks 1 [.m 95]),V 97 (.app 1 (.m 87) (.m 96)),X 98 4 16,N (.st 1 (.m 98) (.m 97))]
def AF:VC:=.regP (.range 14) (.range 14) [] J7
def J6 (a0:VC):VC:=bm [a0] 0x119ad2cb0221dc02be42101307018894f0611c0781e800188004105604192423040201d722ca4110
def Wd (a0:VC):=aJ (J6 a0)
def uL:VC:=J6 AF
def I1:=b6 uL (Wd AF)
def AD:VC:=.regP [0,1,2,3,5,6,7,4,8,9,10,11] (.range 12) [4,7] [B 49 15,B 50 10,V 51 (.iarr 5 1 (.s 11) (Q 1)),M 52 51,V 53 (.callv (.m 50) [.m 52]),B 54 10,V 55 (.iarr 5 1 (.s 11) (Q 2)),M 56 55,V 57 (.callv (.m 54) [.m 56]),V 58 (.build [O,O,B_ false,B_ false,.nl] [(3,1,.m 49),(0,1,.m 53),(1,1,.m 57)]),V 16 (.alloc [O,O,B_ false,B_ false,.nl]),Yd 5 16 58]
def Jy (a0 a1:VC):VC:=bm [a0,a1] 0x11afb1bf0224bd039c42149181aed3b062a50198615019c1cc160181a938e051043bd3bb3b93af3ad3ab3a939f39d4d4b1b291abd390757c0481874d2a04b72b219a1a03e227518061e8602700401a1cc4201e760302714071da20360019b4c01e10223171a04602006000181cc11f81c31007af4d061c5041da006119903c1be1ea05106ff4b02216078188003106012d1cc201c226104221607818800510020264046000181cc11ee1c3100452826c12d025e12d1b1d031049182f184c4e1881893f3b392d1d19300002242291872a04802714066c00201a60038264046000181cc12c1c18100070360219243f33040201d721be4110
def Wn (a0 a1:VC):=aJ (Jy a0 a1)
def im:VC:=Jy AD uL
def vd:=b6 im (Wn AD uL)
def I6 (a0:VC):VC:=bm [a0] 0x11bb918b02239903cc4211bab1d062a10198611019c1a9004f29a051023f33071a02602001af7c021001b91af1ad3294a93f01873804822716062217407a1882026000264041b868019103cf3d0612a0786000180218e1501b81885a05101b3b01101600192f18242d330040201d7218a4110
def WK (a0:VC):=aJ (I6 a0)
def l7:VC:=I6 im
def Ck:=b6 l7 (WK im)
def Ja:VC:=.regP (.range 4) (.range 4) [0,2] [G 27 8,V 6 (.mov (.c (.nl))),N (.st 1 (.s 7) (Q 0)),Yd 1 8 27]
def AE:VC:=.regP (.range 4) (.range 4) [0,2] [G 125 8,V 6 (.mov (.c (.nl))),N (.st 1 (.s 7) (Q 0)),Yd 1 8 125]
abbrev I2:=[A 128 6,G 129 7,A 6 128,Yd 1 7 129,N (.st 1 (.s 8) (Q 0))]
def AJ:VC:=.regP (.range 5) [0,2,1,3,4] [] I2
def Qv (a0 a1 a2 a3:VC):aj:=aV [a0,a1,a2,a3] 0x15370452826c12d025e12d1b1d03101d130021bfd3fd019b1802105270391d230021bdb3ed00263046c002ea183106602f18022d330171a0060200794e0210018001101b182fd152d000000000052f686119803c4a154e1841002e92d05e2d6c3018f01ac21005e12d1920210450701b182b1d734300020263046c003e182100591292ab712d29d2b0101803800643828f590614f03c4a05381818100010680010681b001f25c345c51002901f1c33
def acG (a0 a1 a2 a3:VC):=aJ (Qv a0 a1 a2 a3)
def Hk:aj:=Qv Ja l7 AE AJ
def acX:=b6 Hk (acG Ja l7 AE AJ)
def FY:aj:=aV [] 0x1502002250210450200282502100218d29041e61046000181901a1c41052820002502103130025d1906001886119b03c1a052184100600222902000200305c4106421
def aao:=aJ FY
def Fe:VC:=.regP (.range 5) (.range 5) [0,2] [G 2 0,M 3 1,V 4 (.callv (.m 3) []),L 5 .or 2 4,Yd 1 0 5]
def Vb (a0:VC):aj:=aV [a0] 0x101307002
def aiD (a0:VC):=aJ (Vb a0)
def LO:aj:=Vb Fe
def ahv:=b6 LO (aiD Fe)
def JW:aj:=aV [] 0x151d91d05d3b493019c281ac2102b02291cb001bd112d311f68101e038011c1a381af2b063827e03c41e61046000183c001c3601c1001292f001f05c1965c4101c13
def agW:=aJ JW
def wd:VC:=bm [] 0x16991db022198004214391306012d2a38105822621aa06c1880019b0018e0061020263041a91b802105b90059d3906000182b3f10581d0051016001924633040201d721da4110
def QO:=aJ wd
def vX:VC:=bm [] 0x1199f2990222ec0042143d1306012d4c5a105861018860001861c10581af0058001b80058001910222610460001861c10581b80018e0051046012d2a381058611ab06c188001b80058006102243f3291872a048482714061be2026002e261046000184a01ea1c181006eb006cf3d06000182b3f10581d005103602191b182462f430040201d722984110
def Qk:=aJ vX
abbrev QA:=Rg [V 5 (.box (.m 2)),V 6 (.mov (.c (.nl))),C 7 (Q 0),C 8 (Q 0),Z [6,7,8]]
abbrev QH:=Rg [X 16 0 5,M 17 16,P 18 .gtr 17 11]
abbrev QV:=Rg [V 19 (.ld (some 4) 1 (.s 5)),H 20 abn [.m 19],V 6 (.mov (.c (.nl))),C 7 (Q 0),A 8 20]
abbrev QU:=Rg [V 22 (.ld (some 4) 0 (.s 5)),B 23 0,A 24 1,H 25 Lw [.m 22,.m 23,.m 24],A 21 25,E 26 21 false 0,E 27 21 false 1,E 28 21 false 2,A 9 26,A 7 27,A 8 28,Z [21]]
abbrev QY:=Rg [B 29 8,P 30 .neq 29 0]
abbrev QE:=Rg [A 31 8,V 6 (.mov (.c (.nl))),C 7 (Q 0),A 8 31]
abbrev QQ:=Rg [X 33 0 5,M 34 33,A 35 9,⟨some 36,none,.call H1 [.m 34,.m 35],[(0,0)]⟩,A 32 36,E 37 32 true 0,E 38 32 false 1,A 6 37,Z [32,38]]
abbrev Qu:=Rg [X 39 0 5,M 40 39,H 41 QJ [.m 40]]
abbrev QW:=Rg [A 42 6,A 43 7,A 6 42,A 7 43,C 8 (Q 0)]
abbrev HH:=Rg [A 44 0,A 45 7,V 46 (.build [.nl,O,O] [(0,1,.m 44),(1,1,.m 45)]),V 47 (.box (.m 46)),A 10 47]
abbrev E6:=Rg [B 48 6,V 49 (.len (.m 48)),⟨some 50,none,.mkslice [.int .i64 0] (.s 49) (.s 49),[(0,0)]⟩,A 11 50,Z [49]]
abbrev Fh:=Rg [B 51 6,V 52 (.len (.s 51)),C 53 (Q 0)]
abbrev Ge:=Rg [B 66 6,V 67 (.len (.s 66)),C 68 (Q 0)]
abbrev FB:=Rg [B 99 10,V 100 (.nilck (.m 99)),V 101 (.fa 2 (.m 100)),M 102 101,P 103 .neq 102 0]
abbrev Qx:=[A 104 10,V 105 (.nilck (.m 104)),V 106 (.fa 2 (.m 105)),M 107 106,V 6 (.mov (.c (.nl))),C 7 (Q 0),A 8 107]
def yN:VC:=.regP (.range 7) [4,5,0,1,2,3,6] [] Qx
abbrev Qn:=[A 108 6,A 109 10,V 110 (.nilck (.m 109)),V 111 (.fa 1 (.m 110)),M 112 111,A 6 108,A 7 112,C 8 (Q 0)]
def yM:VC:=.regP (.range 8) [0,5,1,2,3,4,6,7] [] Qn
def ZG (a0 a1 a2 a3 a4 a5 a6 a7 a8 a9 a10 a11 a12 a13 a14 a15 a16 a17:VC):aj:=aV [a0,a1,a2,a3,a4,a5,a6,a7,a8,a9,a10,a11,a12,a13,a14,a15,a16,a17] 0x1529704528701d13019dd21f7001b1829928f28d2f4301e71a0261d7001db1d91cf331c71a0061b7001a7019704518701b18013003f92770067042913055701b182b1f033002ef24700370451b182700302301df21700070281e1c33
def akK (a0 a1 a2 a3 a4 a5 a6 a7 a8 a9 a10 a11 a12 a13 a14 a15 a16 a17:VC):=aJ (ZG a0 a1 a2 a3 a4 a5 a6 a7 a8 a9 a10 a11 a12 a13 a14 a15 a16 a17)
def PF:aj:=ZG QA QH QV QU QY QE QQ Qu QW HH E6 Fh wd Ge vX FB yN yM
def amr:=b6 PF (akK QA QH QV QU QY QE QQ Qu QW HH E6 Fh wd Ge vX FB yN yM)
abbrev Ij:=[B 13 0,B 14 1,B 15 1,H 16 II [.m 15],A 12 16,E 17 12 true 0,E 18 12 false 1,V 19 (.nilck (.m 13)),V 20 (.iarr 12 4 (.m 19) (.m 14)),N (.st 4 (.m 20) (.m 17))]
def xz:VC:=.regP (.range 10) [0,1,2,3,4,5,7,8,9,6] [] Ij
def KV (a0:VC):aj:=aV [a0] 0x1503c42d6050181c641c01b81c07c190032a061044d3923070020261046000186001c1c641c01b81c07c1a004007100330000466811051912
def X6 (a0:VC):=aJ (KV a0)
def D1:aj:=KV xz
def XD:=b6 D1 (X6 xz)
def FE:aj:=aV [] 0x153b501ae7e621ad06c30031001291820210411
def aak:=aJ FE
def iX:VC:=bm [] 0x11df290226b03a42141b13051d91904900210281f314300263e10460001861c10584a004001a1a06107f1b01d00210160019243143040201d72284110
def Af:=aJ iX
def Eb (a0:VC):aj:=aV [a0] 0x1512190110023143071a0060200604c4203100012902602101812
def Pn (a0:VC):=aJ (Eb a0)
def u5:aj:=Eb iX
def DI:=b6 u5 (Pn iX)
def vt:aj:=aV [] 0x151cb19063e10198611019c6101a84261b0430062a25e03c22650419004261d044401b10451b19011031230020261041a00210001291b602101812
def Ef:=aJ vt
def mA:VC:=bm [] 0x13eb2d02260047f7a0315db2b064c0046001a860001861c105818800400642704791b8019145282000200021d03102d2b53153002246181a5291874c04821e731a067001801a71d1605a188402420260001e630460001861c1058188004401d1001600192d123040263820461c00428001a0018818a05100
def AN:=aJ mA
def EW (a0:VC):aj:=aV [a0] 0x15020068b005e91d061c0041f001900791cc07100123071a0063992d01a5e021000200110451a2000200021d03105313300263e40461c5041a00604c400284c061004542000200021d031053133002246181e282e381829753e04872b418077604f44031a203600752a04802724071a203600752a0487e2744072820360002620428402910002432902000200021a0410281e1c33
def Q8 (a0:VC):=aJ (EW a0)
def wZ:aj:=EW mA
def Q3:=b6 wZ (Q8 mA)
def jm:VC:=bm [] 0x15891890221fe01ce4214fb301a91ac0214ed2b062a10198611019c19b007919e051043d13054bd00021f065842d1af00030004044018c5103a3c3e3b392b511830020263041b87a0210019912948d003ff003f9390201e038101c038001a18383eb199061c2a35f03c18d00190046a01c103ad2f06000181d39105831016001924633040201d721884110
def LR:=aJ jm
def fE:VC:=bm [] 0x16994902260041cb1fc0311889301df2ae0217fb2b062a10198611019c1d900792a8051044f13057cb00021f065842d1ed00030004044018c5104d4b493f2b51730020263041ee1ea0210028d12979b0078d006ff4b0202c038102a03800281e386f928d063e4c35f03c60001861c10581cc001be0019004601f10360219493f133040262a204604c1be001cc1ee04100
def my:=aJ fE
def gL:VC:=bm [] 0x11bab5d022600428f3df0316012d3868105822600460001873f1058226504604c6000181fc301c6000181fc301c1b146012d1fc301c61c101980012f80211019c6100181fc301c610202610460001861c1058298007a4051005604195d2b230402246184291873e04842711806700601a2271405a7a2026002e262042983bc019100
def jq:=aJ gL
abbrev r9:=Rg [V 6 (.alloc [O8,O8,O,.nl]),C 7 (Q 0),C 8 (Q 0),Z [7,8]]
abbrev sc:=Rg [B 23 2,P 24 .lss 23 0,A 25 24,U 25 26 (.mov (.s 2)),U 25 27 (.bin .gtr (.s 26) (Q 11)),V 28 (.pick (.m 25) tt (.s 27)),Z [26,27]]
abbrev sq:=Rg [V 29 (.build [O8,O8,O,.nl] []),Yd 4 6 29,C 7 (Q 0),C 8 (Q 2)]
abbrev r7:=Rg [V 9 (.mov (.c (.nl)))]
abbrev sE:=Rg [V 30 (.mks 1 [Q 1,Q 2,Q 1]),V 31 (.len (.s 30)),C 32 (Q 0)]
abbrev rA:=Rg [V 54 (.mks 1 [Q 6,Q 1]),A 15 54]
abbrev qL:=Rg [B 55 9,V 56 (.ia 1 (.m 55) (Q 1)),M 57 56,P 58 .eql 57 2]
abbrev qQ:=Rg [V 59 (.mks 1 [Q 4,Q 1,Q 1,Q 1,Q 1,Q 1,Q 1,Q 1]),A 15 59]
abbrev qN:=Rg [C 16 (Q 0)]
abbrev AO:=[B 86 9,V 87 (.ia 1 (.m 86) (Q 1)),M 88 87,V 89 (.conv .u8 (.m 88)),B 90 9,V 91 (.ia 1 (.m 90) (Q 2)),M 92 91,V 93 (.conv .u8 (.m 92)),B 94 9,V 95 (.ia 1 (.m 94) (Q 3)),M 96 95,⟨some 97,none,.mks 1 [Q 1],[(0,0)]⟩,V 98 (.build [O8,O8,O,.nl] [(0,1,.m 89),(1,1,.m 93),(2,1,.m 96),(3,1,.m 97)]),V 20 (.alloc [O8,O8,O,.nl]),Yd 4 20 98]
def lB:VC:=.regP (.range 15) (.range 15) [] AO
abbrev qH:=Rg [B 99 9,V 100 (.ia 1 (.m 99) (Q 0)),M 101 100,A 21 101]
abbrev qC:=Rg [B 102 9,V 103 (.ia 1 (.m 102) (Q 1)),M 104 103,P 105 .neq 104 2]
abbrev qT:=Rg [A 106 21,B 107 9,V 108 (.ia 1 (.m 107) (Q 4)),M 109 108,L 110 .add 106 109,A 21 110]
abbrev qP:=Rg [C 22 (Q 4)]
abbrev qZ:=Rg [A 141 21,P 142 .neq 141 0,A 143 142,U 143 144 (.mov (.s 2)),U 143 145 (.ld (some 4) 0 (.s 20)),U 143 146 (.call jl [.s 144,.s 145]),U 143 147 (.un .not (.s 146)),V 148 (.pick (.m 143) tt (.s 147)),Z [2,144,145,146,147]]
abbrev rq:=Rg [V 149 (.build [O8,O8,O,.nl] []),Yd 4 6 149,C 7 (Q 0),C 8 (Q 8)]
abbrev rl:=Rg [V 150 (.ld (some 4) 1 (.m 20)),A 151 1,Yd 4 6 150,A 7 151,C 8 (Q 0)]
def EM (a0 a1 a2 a3 a4 a5 a6 a7 a8 a9 a10 a11 a12 a13 a14 a15 a16 a17 a18 a19:VC):aj:=aV [a0,a1,a2,a3,a4,a5,a6,a7,a8,a9,a10,a11,a12,a13,a14,a15,a16,a17,a18,a19] 0x152b70452a705932301dfb2297005d2b232871a0461f70041e719f921d7001c701b70493f0331a71a0261970041873f1305bf277006701897f7d33571a0064700370452705303302db21700070281e51d33
def Rm (a0 a1 a2 a3 a4 a5 a6 a7 a8 a9 a10 a11 a12 a13 a14 a15 a16 a17 a18 a19:VC):=aJ (EM a0 a1 a2 a3 a4 a5 a6 a7 a8 a9 a10 a11 a12 a13 a14 a15 a16 a17 a18 a19)
def wU:aj:=EM r9 sc sq r7 sE jm rA qL qQ qN fE lB qH qC qT qP gL qZ rq rl
def Rc:=b6 wU (Rm r9 sc sq r7 sE jm rA qL qQ qN fE lB qH qC qT qP gL qZ rq rl)
def ml:VC:=bm [] 0x15ab2902260046b1be0317af1f064c50460001861c10586c006000182e301c5d28e01814518190110291f733002246181a1c1e729756804871d41e075e1c037001a01b71d11805b6c603700401b2e3201f60022620460001861c10586c006000182e341c28100160019297230402638204604c6000182e301c6c1ca05100
def AW:=aJ ml
def ET (a0:VC):aj:=aV [a0] 0x157cb1900261045d29c03100723071a0060200110028240110451c91bf1bd1bb1b926294d91901874c04822711a067001801a0271605a700401a2e3201e600226104604c6000182e301c1d100241e63046000182e07e1c31004518190110713002246181e282a383a3c1b1b29753e04871d418074a603700401b2e2201f60075380480272607700401b2e2201f600753804821e74607700401b2e1201f60061e64046000182e02c1c2c1002b02291cb001bd1b0101e038001c1a381af2b063821af03c41e61046000182e001c31a01b10012918001945c3101812
def Q0 (a0:VC):=aJ (ET a0)
def wR:aj:=ET ml
def Rq:=b6 wR (Q0 ml)
def u6:aj:=aV [] 0x1502842d19150182106012d1a301c62a101980012f86000181a301c6006101b0011030004044068305c2105511
def Ec:=aJ u6
def iS:VC:=bm [] 0x15ab301af1ae0213b1859d39062a5046000181aa101c19b1a8051004ed2f062a20198612019c1aa0301818d19e051043f13054bd0002001b1d01bd004103b181b183d392f2d2b163000020263041be7a0210018f12949b0048d003ff122d000023b68202a0381028038011e1c383f918f061c383e41b803c19c00611b903c4a0501819004201f10362193913040202640419c18802100
def rg:=aJ iS
def zN (a0:VC):VC:=bm [a0] 0x12ef2d02260047f4e0315db2b062a10198611019c18d00791b8051013071a026038b3906000184a24e1c3101b2f01101600191b182d12300402638204604c6000184a301c1885e05100
def Kr (a0:VC):=aJ (zN a0)
def iP:VC:=zN iS
def zo:=b6 iP (Kr iS)
def Ee (a0:VC):aj:=aV [a0] 0x1502005ef005e91d01900791cc05101a1801230071a006020011001b0011045420002001b1d03101b183123000224618429753e04872b418077604f44031a2036000262041a1e019100024329020002001b001f185c510281e1c33
def PU (a0:VC):=aJ (Ee a0)
def vF:aj:=Ee iP
def Od:=b6 vF (PU iP)
def lG:VC:=bm [] 0x14a94b02260041d96e0317fb49062a10198611019c1df001cb29c05144f13057cb0002001b2901ed004104d4b493f3d3b392f7311b30020263041ee28a0210047a93901e81ea02128b12979b4a078d306ff4d0202e038102c038002a28386f928b061c4c5a41bb03c19b0060001861c10581da001be00190042028104f4d2300202640460001861c10581da001be1bc05105cd3b01e819e0211cf1295bf4a05b9305ab4d0201e038101c038001a183859d1cf063a21c2a41bb03c1a90019004201c104f4d230023a2610460001861c10581da001be6c051000200110024d01103602194b3f23040262a204604c1be001da19e04100
def zX:=aJ lG
def Aj (a0:VC):VC:=bm [a0] 0x139f3d02260041af5a03118ab2f062a10198611019c1cb0018d28e0510423071a026020011001b001103dd3f0611ba03c60001861c10581b8002e406101600193d3b397153040262a204604c2e001b87804100
def Km (a0:VC):=aJ (Aj a0)
def lL:VC:=Aj lG
def Ah:=b6 lL (Km lG)
def DP (a0:VC):aj:=aV [a0] 0x15020018bf0018b9290190018d2ac05100247153071a0060200110012001102db3901f4802101b0011045420002001b29031075314300224618429753e04872b418077604f44031a2036000262041a2a019100024329020002001b1e04102c2a2834
def Pu (a0:VC):=aJ (DP a0)
def vR:aj:=DP lL
def Ps:=b6 vR (Pu lL)
abbrev xH:=Rg [V 37 (.ld (some 4) 0 (.s 5)),H 38 uX [.m 37],V 39 (.mkslice [.lst []] (.s 38) (.s 38)),A 14 39,Z [38]]
def CA (a0:VC):aj:=aV [a0] 0x1502006cf006c90069f1d0190061c0041bd007f001af1e801910449130569900020002001b1d01cb005103f3d2d3430020263041cc1bc021001e91295ef3c05e9305db3f0201c038101a03800186385cd1e902261c35f03c190031bc01b1041a1804222d0112d13002600188611be03c1b81ae031042f13054fb00020002001b1d018d005103d2d314300202630418e19c021001b181ad1294d92a04cb304bd3d0201e038101c038011a18384af1ad061c2a31bd03c4a1501819004201c1003d1300222610419b7c0210007043b13053bb00020002001b1d01a9005101b18392d314300020263041aa58021006f1293992e038b302fd390201c038101a03800186382ef6f02261c35f03c190044c01b1042f13052bf00020002001b1d018d005101b182d3133000202630418e38021004b12929d2a028f302892d0201c038101a03800186381fb4b02261c35f03c190042801b1002464290200020002001b001f185c6102a281e1c43
def MO (a0:VC):=aJ (CA a0)
def t9:aj:=CA xH
def MX:=b6 t9 (MO xH)
abbrev tN:=[B 86 11,B 87 17,B 88 18,V 89 (.ia 1 (.m 87) (.m 88)),M 90 89,B 91 22,L 92 .add 90 91,B 93 19,B 94 22,V 95 (.ia 1 (.m 93) (.m 94)),M 96 95,V 97 (.ia 1 (.m 86) (.m 92)),N (.st 1 (.m 97) (.m 96))]
def lg:VC:=.regP (.range 13) (.range 13) [] tN
def uf (a0:VC):VC:=bm [a0] 0x118895d022600428f0031077606195d4f23040262a204604c1ee002982be04100
def E5 (a0:VC):=aJ (uf a0)
def iF:VC:=uf lg
def tW:=b6 iF (E5 lg)
def tJ (a0:VC):VC:=bm [a0] 0x16ad4d02260041df1ae0310623071a066025801107bd301fb298021045b13057af0002001b2902890041049183f181f18594f4d4b3d3b392f511a300000202630428a1dc0210029912978d006ff006f94f0201e038101c038011a18386eb299061c2a31ca03c1cc0501819004601c1056041949184d4b230040262a204604c1da001e81fa04100
def FX (a0:VC):=aJ (tJ a0)
def dQ:VC:=tJ iF
def mc:=b6 dQ (FX iF)
def tx (a0:VC):VC:=bm [a0] 0x13eb3d02260041af6a0313f1819c93b062a0046000181be101c1a92be0510441802230071a04602001105e94b061c2a384c51c903c1be030181aa0019c006050185e101c2819c0181058f142d33000044968611c803c6000181be001c51002611bf03c6000181be018a1c31004cb122d000023f6860301861c20581b80060001861c105819c006000185e541c1a103602193d3b23040265a204604c60001861c105819c006000185e501c1b87c018100
def Fc (a0:VC):=aJ (tx a0)
def c5:VC:=tx dQ
def iN:=b6 c5 (Fc dQ)
def tZ (a0:VC):VC:=bm [a0] 0x12ef39022600419b3c0310223071a0260200110023b01101600191f1839513300402638204604c6000185e501c1995e05100
def E2 (a0:VC):=aJ (tZ a0)
def dT:VC:=tZ c5
def mb:=b6 dT (E2 c5)
def xf (a0:VC):aj:=aV [a0] 0x15020019dd0019cf290190018d2ea05101a18051330071a0060200110029d2f01888218882021381bc0012f8210024329020002001b002d1c5c5102c2a2834
def Is (a0:VC):=aJ (xf a0)
def ov:aj:=xf dT
def IH:=b6 ov (Is dT)
def vN:aj:=aV [] 0x157b796f6d6b5d5b594f4d3f3d3b392f2429292ef1901874c04872b2781a03e7001801a2e3601e700401a283201e6001874c04872b11a067001801a2e2601e700401a282201e6001874c04872b11a067001801a2e1601e700401a281201e60062a1046000182e001c60001828001c3c10012918001905c325c4101812
def P3:=aJ vN
def lO:VC:=bm [] 0x11cb1b0226004492c03145181901101b313300263e30460001861c10584a001a0060001861c10584a00440191b01600191b3133040262a204604c4004a2c04100
def zV:=aJ lO
def DT (a0:VC):aj:=aV [a0] 0x15519011003133071a006020011004518190110312300262a304604c1a00604c4205100012918602101812
def P6 (a0:VC):=aJ (DT a0)
def uT:aj:=DT lO
def O7:=b6 uT (P6 lO)
def gG:VC:=bm [] 0x13c91d02260044f7e03145181901101d1b31430026681121028860301861c2058580060001861c10584a001a0060301861c2058580060001861c10584a004401f1b03602191d13040264c204604c60001861c10584a00400587807100
def qz:=aJ gG
def qt (a0:VC):VC:=bm [a0] 0x11d91b0226004492a031013071a026022011045181901101b313300264c304604c60001861c10584a001a00604c60001861c10584a004401b1b001600191b3133040262a204604c4004a2e04100
def Da (a0:VC):=aJ (qt a0)
def gE:VC:=qt gG
def qw:=b6 gE (Da gG)
def tV (a0:VC):aj:=aV [a0] 0x15519011003133071a006020011004518190110312300262a304604c1a00604c4405100012918602101812
def Gd (a0:VC):=aJ (tV a0)
def l9:aj:=tV gE
def Gb:=b6 l9 (Gd gE)
def iE:VC:=bm [] 0x11cb1b0226004492c03145181901101b313300260018863e27803c60001861c10584a001a0060001861c10584a004401a1b01600191b3133040262a204604c4004a2c04100
def tB:=aJ iE
def xl (a0:VC):aj:=aV [a0] 0x15519011003133071a006020011004518190110312300262a304604c1a00604c4205100012918602101812
def Ix (a0:VC):=aJ (xl a0)
def oI:aj:=xl iE
def Iv:=b6 oI (Ix iE)
def jz:VC:=bm [] 0x13dd1d02260044f18a03145181901101d1b314300229181f180246181a1c2a2c2e383a484a4c4e585e686a6c6e2d29755a048701c018b72b2781a03f7001801b6c4601f700401b5e4201f600754c04872b11a01df7001801b6c3601f700401b5e3201f600754c04872b11a01df7001801b6c2601f700401b5e2201f600754c04872b31a077001801b6c1601f700401b5e1201f60062a3046000186c001c6000185e01ba1c4b100589152d32200005296860601861c5058580060001861c10584a001a19e019104af152d322000051f6860601861c5058580060001861c10584a0044019103602191d13040264c204604c60001861c10584a00400587c07100
def wt:=aJ jz
def wh (a0:VC):VC:=bm [a0] 0x11ed1b0226004492e031013071a026022011045181901101b313300264c304604c60001861c10584a001a00604c60001861c10584a004401b1b001600191b3133040262a204604c4004a3a04100
def HY (a0:VC):=aJ (wh a0)
def jx:VC:=wh jz
def wa:=b6 jx (HY jz)
def zj (a0:VC):aj:=aV [a0] 0x15519011003133071a006020011004518190110312300262a304604c1a00604c41805100012918602101812
def Kg (a0:VC):=aJ (zj a0)
def qE:aj:=zj jx
def Kq:=b6 qE (Kg jx)
def vJ:VC:=bm [] 0x17f1902265043b2b03145195133002600188614c0786101a82261c0461c18043c002800018440181016001918513304020266042b1c02100
def I0:=aJ vJ
def Qh (a0:VC):aj:=aV [a0] 0x104133071a0064f1902265041900181831003
def acS (a0:VC):=aJ (Qh a0)
def HE:aj:=Qh vJ
def ac0:=b6 HE (acS vJ)
def JL:aj:=aV [] 0x151f1d13296b501872a0487e27194064202600026604400181001291820210411
def agM:=aJ JL
def FI:aj:=aV [] 0x1502003eb190797a031040461843001f3dd2d067c2001e865a004618270461c1d046c0061c70458007f001826004188005e001c100261c2045e0018848031002b92b062a10198611019c18800792e051001e002001101b00110428820018821f021291f23002193801100188820018882001fb1d06620044261d0462e250432e07104542001b190210312300224229752a0482e274407420360002620441a071001d0222902001b603101a1822
def aah:=aJ FI
def te:VC:=bm [] 0x12e94902219e06a4212db7061c00449002d5e0414518501102a2c2e1b736300224229752a048282744074a2036002262044a3c071001ed1b06000181d39105831016001924633040201d72484110
def Ia:=aJ te
def MQ (a0:VC):aj:=aV [a0] 0x1519918f18d18b25293c9501873e04828271918067604e700401a1a3201e60028261042d3a01a1002433071a0060200704c6000181a32a1c410002001104519b5061c21cb03c2211019c60001819301c5100241e63046000181a061c310001291800305c310411
def abe (a0:VC):=aJ (MQ a0)
def Fg:aj:=MQ te
def aaz:=b6 Fg (abe te)
def wX:aj:=aV [] 0x1128411
def Q5:=aJ wX
def J1:aj:=aV [] 0x157f005d502265046221a0428002818061b0462501151300241e610460001819021c31001a2501100222902000200305c4106421
def agR:=aJ J1
def Jt:aj:=aV [] 0x156f6d6b695f5d5b594b493f392f2d2b4329292db1901876e04875392804a3a271607700401b280201f718022e2719606700401a280201e600187380480276606700401a280201e6001873e04871d1918061a602700401a281201e60022660460001828101c3a1001291820325c3101812
def afc:=aJ Jt
def yR:VC:=bm [] 0x15e97b0222e901da4212b185db1f062a5046000187a101c5d1d8051045181901102b186e786f5f5d5b1f730002246181a1c1e282e383a484a4c4e1f29756e048187392804b3a273606700401a7a0201e718032e274607700401b7a0201f60075380480272607700401b7a0201f600753e04871d418075e603700401b7a1201f6002262046000187a15e1c3910038b122d000022b686030181d3920584103602192461f43040201d727a4110
def Ny:=aJ yR
def Mf (a0:VC):VC:=bm [a0] 0x15ef5f02229d01884210241f43071a0260200704c4f4e03101a82001102bf1d06000181d39105831016001924633040201d725e4110
def aav (a0:VC):=aJ (Mf a0)
def yX:VC:=Mf yR
def Ni:=b6 yX (aav yR)
def Vt (a0:VC):aj:=aV [a0] 0x15519011002433071a0060200704c19480310045181901103130022461c1e16297538048282746077404f1a203600752a0487fe274407420360002620441a01c100012918602101812
def ahF (a0:VC):=aJ (Vt a0)
def Lj:aj:=Vt yX
def ahV:=b6 Lj (ahF yX)
def HQ:aj:=aV [] 0x152d5019101cc01ac21001292f00305c310411
def acU:=aJ HQ
def Fr:aj:=aV [] 0x1502003ad0039f190490060001802610587f5807106f02292fd002ef2d010180380164382e96f0638221a803c795a018104013052bf000200021904f004102b1b23002026304584a021001f184912929d0028f1b02892b0201e038101c038001a18381fb49061c2a319f03c19003005e1528181c1003902291bd001af142d33000041f681060380142381a939038211ac1c3c18100243290200020002604101c1a1832
def aap:=aJ Fr
abbrev DL:=[B 15 0,V 16 (.nilck (.m 15)),V 17 (.fa 1 (.m 16)),B 18 0,V 19 (.nilck (.m 18)),V 20 (.fa 1 (.m 19)),M 21 20,P 22 .lss 21 0,A 7 17,C 8 (Q 511),A 9 22]
def tG:VC:=.regP (.range 11) [0,1,2,8,9,3,4,5,6,7,10] [] DL
def G0 (a0:VC):aj:=aV [a0] 0x1551d01106012d1c07c1f005d1ae041045181d01101f523002246181a1c1e282a2c2e383a3c3e484a4c5a5c5e2b292f29751ea0481871bb4c04b755b3c04a73f41c071f82701a077001801b7607f5e4032820371e0273f21c061f82751a067001801a7607e5e402282027603704018b7a203600753804871d46076c40328203600026204282803c100411301130701a1c1e330023a261041960210018007fe20019b1f06001c607c4606100129181a02101c13
def Sf (a0:VC):=aJ (G0 a0)
def yj:aj:=G0 tG
def Td:=b6 yj (Sf tG)
def D7:aj:=aV [] 0x1544531430291291bd1912d1af1c12d1a91b0201e038101c038001a183819b29061c2a32f03c3002e000181f002181c14130020261041a000182100021801101a14
def X5:=aJ D7
def Eh:aj:=aV [] 0x1502852d3821462131a2121c2114210500000000005018c2104502852d1e21422136212182112210500000000005018c2100231841e61046000181a001c3100000000000005068305c2106511
def Zn:=aJ Eh
def Ga:aj:=aV [] 0x156250110451825011002300110001290220210411
def ZR:=aJ Ga
def H4:aj:=aV [] 0x1519b19060018861c21cd06c3e101ce01ac3605106b112d0011b686221a042265041920510012918602101812
def acZ:=aJ H4
def LD:aj:=aV [] 0x15495002610462e223a03c191501841001291800305c310411
def aiA:=aJ LD
abbrev Ig:=[B 72 0,X 73 0 10,M 74 73,B 75 12,P 76 .mul 75 32,B 77 13,L 78 .add 76 77,B 79 12,P 80 .mul 79 32,B 81 13,L 82 .add 80 81,X 83 0 10,M 84 83,H 85 RN [.m 84],L 86 .add 82 85,V 87 (.build [O,O,O] [(0,1,.m 74),(1,1,.m 78),(2,1,.m 86)]),V 88 (.callv (.m 72) [.m 87]),V 89 (.un .not (.m 88))]
def yu:VC:=.regP (.range 18) (.range 18) [] Ig
def Ii (a0:VC):VC:=bm [a0] 0x16dd3b06380046119d03c600018188001c1a90061452d185f5d5b493f3d3b392f291d1b7511f30018b92070196018193b13040264c20460001862a10582260046c002e000181aa1ee07100
def UP (a0:VC):=aJ (Ii a0)
def nI:VC:=Ii yu
def nR:=b6 nI (UP yu)
def H7 (a0:VC):VC:=bm [a0] 0x159d39022600419b1a8031013071a01865cd3b060001861c10586c002e004185107606193913040266820464c00460001861c1058580060001828301c4a0019c1b8019100
def U1 (a0:VC):=aJ (H7 a0)
def nT:VC:=H7 nI
def ti:=b6 nT (U1 nI)
def Ie (a0:VC):VC:=bm [a0] 0x13ad2902260046b5a031013071a06649b3904a0021045190224632975380483a271607700401b1880201f600026104600018188041c191005604192d182f130040261c20418e006c7c03100
def UX (a0:VC):=aJ (Ie a0)
def nF:VC:=Ie nT
def kP:=b6 nF (UX nT)
def H8 (a0:VC):VC:=bm [a0] 0x118bf5f02229d02bc4212180130071a0462ef2f062a004600018188101c6c4805102bf122d000022d686030181d3920584103602192462943040201d725e4110
def UQ (a0:VC):=aJ (H8 a0)
def nL:VC:=H8 nF
def sY:=b6 nL (UQ nF)
def Ik (a0:VC):VC:=bm [a0] 0x1199f490221cb02f842119991b064c00460001861c10584f0060001828301c4928e01810242943071a0260200704c5d380310002001101fb001df1d06000182b3f10581d005101600192461b75173040201d72484110
def UM (a0:VC):=aJ (Ik a0)
def nU:VC:=Ik nL
def tc:=b6 nU (UM nL)
def My (a0:VC):aj:=aV [a0] 0x10241b75173071a0060200704c190028183100218011004
def aa1 (a0:VC):=aJ (My a0)
def Ff:aj:=My nU
def abl:=b6 Ff (aa1 nU)
def SL:aj:=aV [] 0x1542501104518250110021a26204300210001290220210411
def api:=aJ SL
def aau:aj:=aV [] 0x150250110454250110023182e264046000181a02c1c31000419130519b503b002103180020263043c1a02101b222979006b7010180380164385d1b002621cf03c1a056181810001290200305c310411
def yZ:VC:=bm [] 0x12892b0226004792e031401305399000200021d06b004107182d2b1f34300020263046c5c0210691292ef002e91f02db2d0201c038101a03800186382cd6902261c32f03c5d001a4801b1045282000200021d03107182b1f33300022a264047a402100160019402026104684a02100
def FM:=aJ yZ
abbrev Et:=Rg [B 69 13,X 70 2 3,M 71 70,V 72 (.len (.m 71)),L 73 .geq 69 72]
abbrev DC:=Rg [C 6 (Q 0),C 7 (Q 0),C 8 (Q 8)]
abbrev Dh:=Rg [X 74 2 3,M 75 74,A 76 13,V 77 (.ia 1 (.m 75) (.m 76)),M 78 77,A 79 7,A 6 78,A 7 79,C 8 (Q 0)]
def Vv (a0 a1 a2 a3:VC):aj:=aV [a0,a1,a2,a3] 0x1571837004527071801c23006f9217006bb3b061c00419b0062a1a046000182e101c22650461c00418d006221a04226504791ca01c1b04013055b9000200021d06b00410718392f2b1f4300020263046c1bc021001bd12958f005891f04fb3902028038101e038001c1a384ed1bd062a3832f03c6000182e101c5d001919c01d104013054a9000200021d06b004107182f2b1f34300020263046c18c0210018d1293ff003f91f03eb2f02028038101e038001c1a383dd18d062a3832f03c2265047a005d001a6e01d102d13071a0061d91f01f1c021000200020021045282000200021d031071853230002600188611d803c2e051a183100024329020002000240345c510281e1c33
def ait (a0 a1 a2 a3:VC):=aJ (Vv a0 a1 a2 a3)
def Ma:aj:=Vv yZ Et DC Dh
def aii:=b6 Ma (ait yZ Et DC Dh)
def Hw:aj:=aV [] 0x151d1802002cd19061c21db03c190058154e1851004542001b1902101d183130002246181e28629753e04872b61807711da603f5805401b1a203600752a04802724071a2036000263044c1a01d1002912919b0018d142d0000000041d6810180380164387f290611d903c36019100222902001b603101a1822
def adn:=aJ Hw
def acW:aj:=aV [] 0x152f2d1f1d152919b50752a0481c2714074203600752a0481a27140742036006262044001c1001291820210411
abbrev EO:=[B 13 0,V 14 (.nilck (.m 13)),V 15 (.fa 0 (.m 14)),M 16 15,B 17 0,V 18 (.nilck (.m 17)),V 19 (.fa 1 (.m 18)),M 20 19,A 21 1,H 22 Ei [.m 16,.m 20,.m 21],A 12 22,E 23 12 false 0,E 24 12 false 1,E 25 12 false 2,A 4 23,A 5 24,A 6 25]
def uY:VC:=.regP (.range 17) [0,1,2,3,4,5,6,7,8,9,10,11,14,12,15,13,16] [] EO
def Ic (a0:VC):aj:=aV [a0] 0x153bb1903b0021041b12301c012d6101c1c07c490030051020261044f002101c012d6201c1c07c580045a0510039130700450219011031230020263046000186201c607c4405100012902602101812
def UK (a0:VC):=aJ (Ic a0)
def AH:aj:=Ic uY
def UT:=b6 AH (UK uY)
def kI:VC:=bm [] 0x14282012d6201c607c400410228264042e3802101bd702260042d0031016019402246181a5291874c04802711a067001801a72601e7407e420260022610422621aa06c4601b100
def Jw:=aJ kI
abbrev zn:=[B 21 3,P 22 .add 21 4,V 23 (.bin .shl (Q 1) (.m 22)),A 24 0,B 25 3,P 26 .add 25 4,V 27 (.calli Az [.m 24,.m 26]),L 28 .add 23 27,A 2 28]
def pJ:VC:=.regP (.range 9) (.range 9) [] zn
def CB (a0 a1:VC):aj:=aV [a0,a1] 0x150131700071a060020011001290220210411
def MH (a0 a1:VC):=aJ (CB a0 a1)
def tH:aj:=CB kI pJ
def Nj:=b6 tH (MH kI pJ)
def BN:VC:=bm [] 0x148d18f02268004216012d1c2a10586b006c006000185827a1c613c92901d002101600192423040201d7218e4110
def QB:=aJ BN
def BV:VC:=bm [] 0x15e91cf0227c004216012d1c2a105879007f006000185831ba1c6159d005892b06000182b3f10581d0051036021924633040201d721ce4110
def Qz:=aJ BV
abbrev S4:=[A 20 0,X 21 3 4,M 22 21,V 23 (.ld (some 4) 0 (.s 4)),H 24 Ci [.m 23],V 26 (.ld (some 4) 0 (.s 4)),H 27 Ci [.m 26],⟨some 25,none,.mkslice [.int .i64 0] (.s 24) (.s 24),[(0,0)]⟩,⟨some 28,none,.mkslice [.int .i64 0] (.s 27) (.s 27),[(0,0)]⟩,V 29 (.build [O,O,.nl,.nl] [(0,1,.m 20),(1,1,.m 22),(2,1,.m 25),(3,1,.m 28)]),V 6 (.alloc [O,O,.nl,.nl]),Yd 4 6 29]
def Hm:VC:=.regP [0,1,2,3,4,6,7,5,8,9,10,11] (.range 12) [] (unp [0,1,2,3,4,7,5,6,8,9,10,11] S4)
def BT:=Rg [V 30 (.ld (some 4) 1 (.s 4)),H 31 gQ [.m 30],V 7 (.alloc [O8,O8,O8,O8,O8,O8,O8,O8,O8,O8,O8,O8,O8,O8,O8,O8,O8,O8,O8,O8,O8,O8,O8,O8,O8,O8,O8,O8,O8,O8,O8,O8,O8,O8,O8,O8,O8,O8,O8,O8,O8,O8,O8,O8,O8,O8,O8,O8,O8,O8,O8,O8,O8,O8,O8,O8,O8,O8,O8,O8,O8,O8,O8,O8,O8,O8,O8,O8,O8,O8,O8,O8,O8,O8,O8,O8,O8,O8,O8,O8,O8,O8,O8,O8,O8,O8,O8,O8,O8,O8,O8,O8,O8,O8,O8,O8,O8,O8,O8,O8,O8,O8,O8,O8,O8,O8,O8,O8,O8,O8,O8,O8,O8,O8,O8,O8,O8,O8,O8,O8,O8,O8,O8,O8,O8,O8,O8,O8,O8,O8,O8,O8,O8,O8,O8,O8,O8,O8,O8,O8,O8,O8,O8,O8,O8,O8,O8,O8,O8,O8,O8,O8,O8,O8,O8,O8,O8,O8,O8,O8,O8,O8,O8,O8,O8,O8,O8,O8,O8,O8,O8,O8,O8,O8,O8,O8,O8,O8,O8,O8,O8,O8,O8,O8,O8,O8,O8,O8,O8,O8,O8,O8,O8,O8,O8,O8,O8,O8,O8,O8,O8,O8,O8,O8,O8,O8,O8,O8,O8,O8,O8,O8,O8,O8,O8,O8,O8,O8,O8,O8,O8,O8,O8,O8,O8,O8,O8,O8,O8,O8,O8,O8,O8,O8,O8,O8,O8,O8,O8,O8,O8,O8,O8,O8,O8,O8,O8,O8,O8,O8,O8,O8,O8,O8,O8,O8,O8,O8,O8,O8,O8,O8,O8,O8,O8,O8,O8,O8,O8,O8,O8,O8,O8,O8,O8,O8,O8,O8,O8,O8,O8,O8,O8,O8,O8,O8,O8,O8,O8]),Yd 289 7 31]
def X9 (a0 a1 a2 a3:VC):aj:=aV [a0,a1,a2,a3] 0x151d18027002842d58152c18310002433371a0260200704c60001858201c4100012961c21dd06c5d101de01ac600018582281c5100223271a0060200604c600018582781c4100191817006f6923070041b13051ed7062842d490003300004018c410191811300020263044a2c021002f1291bd001af142d000000004196810180380164381a92f0611d903c4280191001290200330000426831065521
def ali (a0 a1 a2 a3:VC):=aJ (X9 a0 a1 a2 a3)
def OT:aj:=X9 Hm BT BN BV
def ak8:=b6 OT (ali Hm BT BN BV)
def kl:aj:=aV [] 0x156b19002660461c21e806c1900300510012918602101812
def Ew:=aJ kl
def Cj:aj:=aV [] 0x154950026404604c30041001291820210411
def Wo:=aJ Cj
def uS:aj:=aV [] 0x1502001ed190226504604c4f2e051041f13051cb00021905d003101d130020263045b1c02100291291a90019b1d0101a038011863818d29061c21e903c1900360191002229020002603101a1822
def OI:=aJ uS
def mq:VC:=bm [] 0x140192f7514300261c20418e001bd1da03104528200022b006c22d000002018c4103d183f2f753163000261c4042e006000181b811ea1c41005bf301cb002106012d1b8101c61c0041be006000181b811ac1c61044b13054fb00022b066c22d1d900000002018c5103d18493f2f7516300020263041da7e021001ab1294cb004bd004af3f0201e038101c038001a18384a91ab061c2a35f03c2800190041aa01c1016
def LJ:=aJ mq
def EL (a0:VC):aj:=aV [a0] 0x153d1802006eb2b066c22d19001b8131f81851004528200022b006c22d000002018c4103d1831300020261046000181b811d81c3100675143071a00603eb122d000023d68610100002018c19b7804104528200022b006c22d000002018c410392f75316300224229752a0483a27440719c203600382610419c5a0710043b13052fd00022b066c22d1a900000002018c510392f7531630020263041aa3c021005b1292cd2e02bf302b9390201c038101a03800186382ab5b018261c35f03c190042c01b101fb2f0226504611ea03c281e04100222902000200000021e684102c2a32934
def Ry (a0:VC):=aJ (EL a0)
def wV:aj:=EL mq
def Rv:=b6 wV (Ry mq)
def uP:aj:=aV [] 0x151a2501104562501100231841e61046000181a001c3100001290200305c310411
def PM:=aJ uP
def kH:VC:=bm [] 0x11fb1b0226004493e0312db7065a10198611019c6000186001c61c20583c004002d401913602191b13040264c2046000186101c61c20583c004004a2e07100
def xD:=aJ kH
def xM (a0:VC):VC:=bm [a0] 0x118d1902260043b18031013071a026021b011016001919123040262a204604c4001d1a04100
def JX (a0:VC):=aJ (xM a0)
def ko:VC:=xM kH
def ye:=b6 ko (JX kH)
def CZ (a0:VC):aj:=aV [a0] 0x152e9502d6802100123071a006020011001b0011001291b20210411
def M8 (a0:VC):=aJ (CZ a0)
def tU:aj:=CZ ko
def Np:=b6 tU (M8 ko)
def wW:aj:=aV [] 0x1502004d9004cb2901a90061c00419b002d18e071045282000200022903103b39733002246181a2f629754c04871d41a0718e180371d060719c4032e20360002620461c00419c002e6801c10043d130539f000200022901af004103b392f7430020263041b84a021006b1292fd002ef002e9390201c038101a03800186382db6b061c21eb03c190033e01b10455b1292ab0029d0028f2902060381040380020382a261c35f03c19003001a101e7230020262042e1a0210041ffe22f0111a130023a261041f6021007fe20011002432902000200021e04102c2a2834
def Ri:=aJ wW
def vD:aj:=aV [] 0x15225011045282501100241e610460001819001c310001290200305c310411
def OQ:=aJ vD
abbrev Aq:=[A 65 9,V 66 (.nilck (.m 65)),V 67 (.fa 2 (.m 66)),M 68 67,V 6 (.mov (.c (.nl))),C 7 (Q 0),A 8 68]
def pQ:VC:=.regP (.range 7) [4,5,0,1,2,3,6] [] Aq
def zh (a0:VC):VC:=bm [a0] 0x14fb4f02260041ed18803159187cb4d062a50198615019c1fc160181df1fc05102af2ad5b32979b3d0752a048704018b28a2036001af1fe0710452820002001b1d031059181b185b4f4d4b493f3d3b2d2b1a30000238264046000181fc1181c31004507059181b185b4f4d4b493f3d3b2d193000020263046000186201c607c7a19c051001db1295cd005bf152d322000055968101c038011a18385b91db061c2a31ee06c1da004a050187a601b103602194f4b4933040261c2041cc001ee1be03100
def Kp (a0:VC):=aJ (zh a0)
def ej:VC:=zh pQ
def lk:=b6 ej (Kp pQ)
def zE (a0:VC):VC:=bm [a0] 0x13c93f02260041bd5c0317fb3b062a10198611019c1df001a91fa05104633071a026020011001b001101bd1bb1b93294bd4b018738048227160622721ed406e7a2026000264041cc68019103eb49061c21ed06c188007a404101600191b183f2d230040262a204611bc03c4a050181be7e04100
def Kk (a0:VC):=aJ (zE a0)
def dq:VC:=zE ej
def lN:=b6 dq (Kk ej)
abbrev Ao:=[A 90 9,V 91 (.nilck (.m 90)),V 92 (.fa 2 (.m 91)),M 93 92,V 6 (.mov (.c (.nl))),C 7 (Q 0),A 8 93]
def oV:VC:=.regP (.range 7) [4,5,0,1,2,3,6] [] Ao
abbrev zH:=[A 95 13,A 96 9,V 97 (.nilck (.m 96)),V 98 (.fa 1 (.m 97)),M 99 98,A 6 95,A 7 99,C 8 (Q 0)]
def pp:VC:=.regP (.range 8) [0,5,1,2,3,4,6,7] [] zH
def Dx (a0 a1 a2:VC):aj:=aV [a0,a1,a2] 0x15270452820002001b1d03103b2b230021af1801100451703d3b230020263046000186201c607c7a29a051001b1801a230071a0060200110018001101b001106d023292fd002ef002e92d0201a03810180380064382db6d0611ec03c4a054a181a102b92b0605c6111c102000033018c190033a0510024329020002001b001f185c510281e1c33
def Pg (a0 a1 a2:VC):=aJ (Dx a0 a1 a2)
def vV:aj:=Dx dq oV pp
def N8:=b6 vV (Pg dq oV pp)
def mp:VC:=bm [] 0x179702260042d1a031455501107123002026404604c60001861c10582e004406101600197123040262a204604c4007604100
def AX:=aJ mp
def EQ (a0:VC):aj:=aV [a0] 0x1518501100123071a0060200110001291820210411
def QZ (a0:VC):=aJ (EQ a0)
def wH:aj:=EQ mp
def Q9:=b6 wH (QZ mp)
def tL:aj:=aV [] 0x151f1d13296b501872a048382724064202600026404400181001291820210411
def ME:=aJ tL
def iW:VC:=bm [] 0x12ab1d02260044f5f0316012d383e105861c21f903c580040058004a40711600191d123040261c2043c00584e03100
def zZ:=aJ iW
def lJ:VC:=bm [] 0x13ff2902260046b1ab03146012d2e201c62a10198611019c6c006100182e201c716012d383e1058604c6000182e201c6c006000182e301c18100261c1045e0060001861c10586c004a406105604192913040261c2043c006c19a03100
def Ai:=aJ lJ
def zL (a0:VC):VC:=bm [a0] 0x13c91f02260045d6e031013071a046022901103602191f1b1933040261c2043c00604c6000182e27c1c5100
def Kb (a0:VC):=aJ (zL a0)
def lD:VC:=zL lJ
def Ae:=b6 lD (Kb lJ)
def DU (a0 a1:VC):aj:=aV [a0,a1] 0x1571802842d2e151dc18210004633171a026020011000123071a006020011004d1291ed1b07702101bc0012f83c0041041296012d2e301c7702101bc0012f83c2c05101af190611f803c42a031019b142d33000047686112a1023300004018c611ef03c40041c061033000042681105511
def O9 (a0 a1:VC):=aJ (DU a0 a1)
def vH:aj:=DU iW lD
def PN:=b6 vH (O9 iW lD)
def jZ:VC:=bm [] 0x15db490638004611fc03c6000187a001c1cb1ac0616ad3b064c10198611019c61c0041cc00188267041be001a91a01815604194913040264c20460001862a10582260041b80018e001cc1c807100
def n9:=aJ jZ
def xe (a0:VC):VC:=bm [a0] 0x13cf3f02260041bd58031013071a0464cb49060001861c10581b80018e0051043190261c304280060001861c10581be0019c4061003602193f13040262a204604c19c001be18804100
def In (a0:VC):=aJ (xe a0)
def j6:VC:=xe jZ
def ot:=b6 j6 (In jZ)
def xk (a0:VC):VC:=bm [a0] 0x138b3d02260041af3e031013071a026023f01101600192b183d392f75530040263e20462a0046000187a101c2e0018b6806100
def Im (a0:VC):=aJ (xk a0)
def jX:VC:=xk j6
def xp:=b6 jX (Im j6)
def Bq (a0:VC):aj:=aV [a0] 0x156bb2d01a91da02101a1804675530071a0062ab3d02e2c021001b001101c1829d390611fb03c58152c1831002892f063821fa03c41e610460001858001c31c061001291b003b45c191a5c4102c15
def LB (a0:VC):=aJ (Bq a0)
def si:aj:=Bq jX
def L0:=b6 si (LB jX)
def lF:VC:=bm [] 0x13ff3d02260041af6e0315e93b062a10198611019c1bd001a91ca051442f13055b90002001b1d018d004101b183f3d3b392d163000202630418e1ae02101c912958f005892d04fb3f0201c038101a03800186384ed1c902261c35f03c7f004201b103f1300202640460001861c10581b80019c6e05100023f01101600193d13040262a204604c19c001b819804100
def zA:=aJ lF
def lv:VC:=bm [] 0x16ad4902260041cb28d03146012d4c5a105861018860001861c10581cc0019c001cc0019c001910222610460001861c10581cc001aa2cc0510442f130518bf0002001b1d018d004101b18493b392d153000202630418e2b802102bd129188f0018892d02a012d5a6810582028038101e038001c1a387ed2bd061c228803c7f004001cc0019c201e1002246181a5291874c048482711a067001801a71d1605a1cc40219c2026002e261046000184a041c1b1003602191b18493b1330040262a204604c19c001cc1fa04100
def zG:=aJ lv
abbrev ph:=Rg [A 104 12,A 105 10,A 6 104,A 7 105,C 8 (Q 0)]
def D8 (a0 a1 a2:VC):aj:=aV [a0,a1,a2] 0x152701b18061330171a02602201100013071a006020011001b1801104502003bb003ad1d07f0019b005101b181130002611ff03c6000184a04e1c31002fd39061c21fe03c0012f879006000184a04e1c51042f13052cd0002001b1d018d004101b182d2b133000202630418e3a021004b1292ab0029d0028f2b0201e038101c038001a18382894b061c2a31fd03c19004004a052a181c10024329020002001b001f185c510281e1c33
def NW (a0 a1 a2:VC):=aJ (D8 a0 a1 a2)
def vU:aj:=D8 lF lv ph
def OC:=b6 vU (NW lF lv ph)
def mr:VC:=bm [] 0x12b93b02219805842145181901102e3831430021b1363e30460001861c10584a001a0060001861c10584a0042c0191b001bd1b01d00210160019243143040201d723a4110
def AT:=aJ mr
def EE (a0:VC):aj:=aV [a0] 0x155190110023143071a0060200604c41c031004518190110312300262a304604c1a00604c4205100012918602101812
def Rp (a0:VC):=aJ (EE a0)
def wT:aj:=EE mr
def Rj:=b6 wT (Rp mr)
def mQ:VC:=bm [] 0x12ab3d0227c05842129d702260042d0031451b181e28291f1d7173000260018862a2380786000184a001c2e0040061003602191b1824230040201d723c4110
def yp:=aJ mQ
def GV (a0:VC):VC:=bm [a0] 0x12b9290226b02c4211b1802230071a02602006000184a11c1c31018d122d000021b686030181d3920584101600192467153040201d72284110
def R8 (a0:VC):=aJ (GV a0)
def mE:VC:=GV mQ
def rM:=b6 mE (R8 mQ)
def Lh (a0:VC):aj:=aV [a0] 0x10247153071a0060200704c1900418310024011002
def YB (a0:VC):=aJ (Lh a0)
def Dt:aj:=Lh mE
def Yi:=b6 Dt (YB mE)
def nk:aj:=aV [] 0x156b19002660461c228906c1900300510012918602101812
def HW:=aJ nk
def DQ:aj:=aV [] 0x152f2d2b3152919b70753804871d66071a00401b420360062a2046101881a000184001b1001291840210612
def Zq:=aJ DQ
abbrev adi:=[A 44 9,A 45 6,X 46 1 2,M 47 46,V 48 (.bin .shl (Q 1) (.m 47)),P 49 .sub 48 1,L 50 .and 45 49,X 51 1 2,M 52 51,H 53 alY [.m 44,.m 50,.m 52],E 54 53 true 0,E 55 53 false 1,A 4 54,A 5 55]
def aaJ:VC:=.regP (.range 14) (.range 14) [] adi
def ahN (a0:VC):aj:=aV [a0] 0x155181db1300700199022948d003ff2b0101e038011c1a383f919906381b328b03c2265046427046b005d7801b103ad2906128a03c6201a85e6a041038b1f022600462a180460001828101c585a06102cd1d060001861c105819006000182834a1c6104542001b1902105183130002246181a529754c04873961a0771804f700601b283401f1a2036000262041a2801a10045282001b1902105183130002600188611d803c28051a1831000222902001b20325c4101a1822
def ahy:aj:=ahN aaJ
def xo:VC:=bm [] 0x119991bb0224a902fc4214518501101b183181bb1b91af3300002246181a1c1e282a2c2e383a291f1f37519f048187393804b71d46065e4026c2027280373911e077001c01b74a14c91a01bb5e1803700601b74a14c9401bb6c20360063840460001864a14c901b85e0060001864a14c901b86c28e02d1b0078d29060001862a10582265044f006000181a201c71041191f1d230020261045828a021004518501101b183185c5e681f1d5300002246181a1c1e2c2e383a3c1c29756804871d31e07581c037001a01b71d11805b5e603700401b1a3201f600754c04873961a0771804f700601b1a3401f5e2036000262045e1ac02b1004d9004bd1d06000182b3f10581d005101600191b183182463300040201d721ba4110
def KG:=aJ xo
def xx:=Rg [V 40 (.ld (some 4) 1 (.s 3)),H 41 gQ [.m 40],V 5 (.alloc [O8,O8,O8,O8,O8,O8,O8,O8,O8,O8,O8,O8,O8,O8,O8,O8,O8,O8,O8,O8,O8,O8,O8,O8,O8,O8,O8,O8,O8,O8,O8,O8,O8,O8,O8,O8,O8,O8,O8,O8,O8,O8,O8,O8,O8,O8,O8,O8,O8,O8,O8,O8,O8,O8,O8,O8,O8,O8,O8,O8,O8,O8,O8,O8,O8,O8,O8,O8,O8,O8,O8,O8,O8,O8,O8,O8,O8,O8,O8,O8,O8,O8,O8,O8,O8,O8,O8,O8,O8,O8,O8,O8,O8,O8,O8,O8,O8,O8,O8,O8,O8,O8,O8,O8,O8,O8,O8,O8,O8,O8,O8,O8,O8,O8,O8,O8,O8,O8,O8,O8,O8,O8,O8,O8,O8,O8,O8,O8,O8,O8,O8,O8,O8,O8,O8,O8,O8,O8,O8,O8,O8,O8,O8,O8,O8,O8,O8,O8,O8,O8,O8,O8,O8,O8,O8,O8,O8,O8,O8,O8,O8,O8,O8,O8,O8,O8,O8,O8,O8,O8,O8,O8,O8,O8,O8,O8,O8,O8,O8,O8,O8,O8,O8,O8,O8,O8,O8,O8,O8,O8,O8,O8,O8,O8,O8,O8,O8,O8,O8,O8,O8,O8,O8,O8,O8,O8,O8,O8,O8,O8,O8,O8,O8,O8,O8,O8,O8,O8,O8,O8,O8,O8,O8,O8,O8,O8,O8,O8,O8,O8,O8,O8,O8,O8,O8,O8,O8,O8,O8,O8,O8,O8,O8,O8,O8,O8,O8,O8,O8,O8,O8,O8,O8,O8,O8,O8,O8,O8,O8,O8,O8,O8,O8,O8,O8,O8,O8,O8,O8,O8,O8,O8,O8,O8,O8,O8,O8,O8,O8,O8,O8,O8,O8,O8,O8,O8,O8,O8,O8]),Yd 289 5 41]
def RI (a0 a1:VC):aj:=aV [a0,a1] 0x155501101b183180243300171a0060200704c6000181a219e1c410071807004518501107183180002246181a1c1e2a2c2e383a3c3e4a4c4e4f4d4b2c3755b04872b31c07711da1a03f2e051801b7604f700401b1a3201f600755b04872b31c07711da1a03f2e051801b7604f700401b1a2201f600754d04872b31a077001801b2e3601f700401b1a1201f6000263043b2c0391b0002b1291af001a9142d000000004768101a038011863819b2b0611d903c6000181a01e1c1a1001291800305c310411
def aew (a0 a1:VC):=aJ (RI a0 a1)
def JT:aj:=RI xx xo
def agE:=b6 JT (aew xx xo)
def aoj:aj:=aV [] 0x15027002842d61c141d01ec300028c1e3c51045427002842d0000000004018c31011300224229752a04838274407420360022620440071000129020000000000426831065521
def Rz:VC:=bm [] 0x119b1d0224c02842118d7062a7046128d03c1a050182d005116001931824230040201d721c4110
def WW (a0:VC):aj:=aV [a0] 0x151a9502d1c021031802230071a00602006000181a001c3100220011001290200305c310411
def Wr:aj:=WW Rz
abbrev DV:=[B 17 5,B 18 6,B 19 1,V 20 (.ld (some 4) 0 (.s 2)),H 21 vS [.m 20],L 22 .rem 19 21,X 23 1 2,M 24 23,L 25 .add 22 24,B 26 1,V 27 (.ld (some 4) 0 (.s 2)),H 28 vS [.m 27],L 29 .quo 26 28,V 30 (.ia 1 (.m 17) (.m 18)),N (.st 1 (.m 30) (.m 25)),A 1 29]
def tI:VC:=.regP (.range 16) [0,1,2,3,4,5,6,7,8,10,11,13,14,9,12,15] [] DV
def CR (a0:VC):VC:=bm [a0] 0x11cb1d02265044f0031071600195181d32300402026604583802100
def M4 (a0:VC):=aJ (CR a0)
def mT:VC:=CR tI
def CG:=b6 mT (M4 tI)
def Hi (a0:VC):aj:=aV [a0] 0x152fd1904968021051803230071a00619b1d0226504600018280181c410029129791b07702101bc0012f860001828041c51001291b20325c3101812
def S7 (a0:VC):=aJ (Hi a0)
def yd:aj:=Hi mT
def Sw:=b6 yd (S7 mT)
def oE:VC:=bm [] 0x11ed390225a004216012d2a2e1401b86000181a101c3b2c0511af1901d002101600192423040201d72384110
def DS:=aJ oE
def oj:VC:=bm [] 0x13dd7b0227c01884213cf1d063e00462a2101e86101886b006c004f6807138b2906000181d39105831056041924633040201d727a4110
def DY:=aJ oj
def oc:VC:=bm [] 0x14df2b0226504791cb0316012d2a2e1401b86000181a101c7a005146192b1300262a19046000181a201c60001862e1401b87a0061b06012d382e1401b822600460001872e1401b87a4061007606192b1304020266047a1bc02100
def Dy:=aJ oc
def Di (a0 a1:VC):VC:=bm [a0,a1] 0x169f5d02228f01e8421013171a0664af2b02265046000181a001c4106012d2a2814c901b86101a84f00492c051002433071a0460200704c06102e402ac6000181a04c1c510002001102ab1b01d00210360219318247330040201d725c4110
def Nz (a0 a1:VC):=aJ (Di a0 a1)
def oy:VC:=Di oj oc
def DG:=b6 oy (Nz oj oc)
def og:=Rg [V 1 (.box (.m 0)),V 2 (.alloc [O8,O8,O8,O8,O8,O8,O8,O8,O8,O8,O8,O8,O8,O8,O8,O8,O8,O8,O8,O8,O8,O8,O8,O8,O8,O8,O8,O8,O8,O8,O8,O8,O8,O8,O8,O8,O8,O8,O8,O8,O8,O8,O8,O8,O8,O8,O8,O8,O8,O8,O8,O8,O8,O8,O8,O8,O8,O8,O8,O8,O8,O8,O8,O8,O8,O8,O8,O8,O8,O8,O8,O8,O8,O8,O8,O8,O8,O8,O8,O8,O8,O8,O8,O8,O8,O8,O8,O8,O8,O8,O8,O8,O8,O8,O8,O8,O8,O8,O8,O8,O8,O8,O8,O8,O8,O8,O8,O8,O8,O8,O8,O8,O8,O8,O8,O8,O8,O8,O8,O8,O8,O8,O8,O8,O8,O8,O8,O8,O8,O8,O8,O8,O8,O8,O8,O8,O8,O8,O8,O8,O8,O8,O8,O8,O8,O8,O8,O8,O8,O8,O8,O8,O8,O8,O8,O8,O8,O8,O8,O8,O8,O8,O8,O8,O8,O8,O8,O8,O8,O8,O8,O8,O8,O8,O8,O8,O8,O8,O8,O8,O8,O8,O8,O8,O8,O8,O8,O8,O8,O8,O8,O8,O8,O8,O8,O8,O8,O8,O8,O8,O8,O8,O8,O8,O8,O8,O8,O8,O8,O8,O8,O8,O8,O8,O8,O8,O8,O8,O8,O8,O8,O8,O8,O8,O8,O8,O8,O8,O8,O8,O8,O8,O8,O8,O8,O8,O8,O8,O8,O8,O8,O8,O8,O8,O8,O8,O8,O8,O8,O8,O8,O8,O8,O8,O8,O8,O8,O8,O8,O8,O8,O8,O8,O8,O8,O8,O8,O8,O8,O8,O8,O8,O8,O8,O8,O8,O8,O8,O8,O8,O8,O8,O8,O8,O8,O8,O8,O8,O8])]
def Ih (a0 a1 a2:VC):aj:=aV [a0,a1,a2] 0x15318027330271a0260200611da03c1a051e1831000223171a00602006000181a01c1c31000000000044681100704ca511
def UR (a0 a1 a2:VC):=aJ (Ih a0 a1 a2)
def AK:aj:=Ih og oE oy
def UZ:=b6 AK (UR og oE oy)
def me:aj:=aV [] 0x1012961c38328e06c1900604c0012f83004606102
def F8:=aJ me
def Jq:aj:=aV [] 0x1551319b1b063821df03c60001862814c901b8190060001862814c901b8300181b000129021802101a13
def aga:=aJ Jq
def wQ:aj:=aV [] 0x150219011045221901100261c4041900338031004512190110312300261c2041a0042a03100452219011031230024f280110045121901104502190110024c00110031230024918011007f1d06128f03c1a603106b1b06128f03c440310012902602101812
def Re:=aJ wQ
def fu:VC:=bm [] 0x11df290226b03a42141b13051d91904900210281f3143002613e07860001861c10584a004001a1a06107f1b01d00210160019243143040201d72284110
def gY:=aJ fu
def uk (a0:VC):aj:=aV [a0] 0x1512190110023143071a0060200604c4203100012902602101812
def Gy (a0:VC):=aJ (uk a0)
def mH:aj:=uk fu
def uG:=b6 mH (Gy fu)
def uV:aj:=aV [] 0x1502001af19061c21fa03c190031c05104542001b190210312300224229752a0482e274407420360002620440071000222902001b603101a1822
def NL:=aJ uV
def mw:VC:=bm [] 0x179190226004381803118d706427042d40311600196123040261c20440071803100
def A9:=aJ mw
def ES (a0:VC):aj:=aV [a0] 0x1519b502d1e02100123071a00602001100220011001290220210411
def Rk (a0:VC):=aJ (ES a0)
def wO:aj:=ES mw
def Q7:=b6 wO (Rk mw)
def qJ:aj:=aV [] 0x15020029d0028f1906b001f8265045d3c061042b13051fb000200021907900410291f230020263046f28021002d1291d9001cb001bd1f0201e038101c038001a18381af2d061c2a31fd03c19003000298183c1c100243290200020002604101c1a1832
def Ks:=aJ qJ
def r5:aj:=aV [] 0x151a2001c20042503104562001820022503100231841e61046000181a001c31000024329020002000200305c510186431
def Mb:=aJ r5
abbrev sJ:=[B 14 0,V 15 (.nilck (.m 14)),V 16 (.fa 0 (.m 15)),M 17 16,B 18 0,V 19 (.nilck (.m 18)),V 20 (.fa 1 (.m 19)),M 21 20,A 22 1,H 23 eU [.m 17,.m 21,.m 22],A 13 23,E 24 13 false 0,E 25 13 false 1,E 26 13 false 2,A 5 24,A 6 25,A 7 26]
def kD:VC:=.regP (.range 17) [0,1,2,3,4,5,6,7,8,9,10,11,14,12,15,13,16] [] sJ
def uu (a0:VC):aj:=aV [a0] 0x153c9190490021041d12301c012d6101c1c07c4f0030051020261045d0021001c012d6201c1c07c5e0045c05103b130700450219011031230020263046000186201c607c4605100012902602101812
def GW (a0:VC):=aJ (uu a0)
def mB:aj:=uu kD
def GA:=b6 mB (GW kD)
def jS:VC:=bm [] 0x15db3f02260041bd1ef0316012d19c401c62a10198611019c1cb0061001819c41e81c7146eb49062a504611ea03c1b8001cb005102638604611ea03c2265041b8001cc1be051005fd49061c21ed06c1b8004404101600193f3d133040262a20460001819c101c1be1dc04100
def xd:=aJ jS
abbrev xb:=[V 79 (.ld (some 5) 0 (.s 12)),A 80 13,V 81 (.ld (some 5) 0 (.s 12)),H 82 sr [.m 81],V 83 (.binb false (.m 80) (.m 82)),Yd 5 6 79,A 7 83]
def nC:VC:=.regP (.range 7) [0,2,3,5,1,4,6] [] xb
def Bf (a0 a1:VC):aj:=aV [a0,a1] 0x15618170002133071a0060200110058f3d061c229903c1aa001f19c04104ed3b022610422621ed06c4004106012d19c201c22610422621ed06c419a051045391851f005852d19c160183100512300202610460001819c118a1c3100453918181f005852d19c160183100512300261c40418d0060001819c101c41006012d19c101c61c21ed06c7f004005106012d19c001c61c21ed06c790043e05102cd152d322000053968613132200005018c283c041041e22f0112f13002191841e61046000183c02e1c31000382001104b422928f00289001fb290201a03810180380064381ed4b0611ec03c3c052c181a1001291800322000052681965c4101e61d23
def Ly (a0 a1:VC):=aJ (Bf a0 a1)
def sk:aj:=Bf jS nC
def so:=b6 sk (Ly jS nC)
def MU:aj:=aV [] 0x154f5060001861c1058300024242224222220222022202021d1019c51001290220210411
def Kj:VC:=bm [] 0x17f1902260043b1a0311df7065a70422600462a5046129c03c4006129b03c4002d4019116001918123040262a204611fc03c40071804100
def NT (a0:VC):aj:=aV [a0] 0x151ed502d3c02100123071a00602001100220011001290220210411
def OJ:aj:=NT Kj
def lK:VC:=bm [] 0x128f2902260046b4e0313cf3061c1d04580019780413ad1f061c00479005d6a04138b1f061c50479005d0041020262047a4c021002cd2b063800461c1b0458001a004a40610160019291d1b3153040262a204611fc03c4006c4804100
def zQ:=aJ lK
def Dg (a0:VC):aj:=aV [a0] 0x153dd1905d7c02100463153071a0060200110002001101cb1d022600461c5044a006129b03c41c061018d1b06129c03c41a0310012902602101812
def Pd (a0:VC):=aJ (Dg a0)
def vq:aj:=Dg lK
def NI:=b6 vq (Pd lK)
def HO:VC:=bm [] 0x12891b062a10198611019c5800492e0511d91d063e00461c2a329e03c4f001a004004d00710160191a3133040262a2046129d03c1a001d1e04100
def Kn (a0:VC):aj:=aV [a0] 0x1528f190493e021003133071a006002001105d1b00211419c21001291b602101812
def Ke:aj:=Kn HO
def nj:VC:=bm [] 0x12891b022600449480312b97062a10198611019c3c002d40513602191b13040264c20460001861c10583c006000181a301c4a3807100
def Ct:=aJ nj
def Cu (a0:VC):VC:=bm [a0] 0x119b1902260043b1a031013071a026021b0110160019193230402638204604c6000181a301c1d1a05100
def Nv (a0:VC):=aJ (Cu a0)
def ng:VC:=Cu nj
def CM:=b6 ng (Nv nj)
def GP (a0:VC):aj:=aV [a0] 0x152bf502d5a02100323071a006020011001b0011001291b00305c310411
def Se (a0:VC):=aJ (GP a0)
def xO:aj:=GP ng
def SE:=b6 xO (Se ng)
def wL:aj:=aV [] 0x154250110452250110023826104340210045182501101130021a26204400210001290220210411
def Rt:=aJ wL
def kB:VC:=bm [] 0x149b2b02260047900314019022261047f19c021003eb5018d7e021043913053dd000200021d019b004107182f2d2b343000202630419c68021007d1293bb003ad0039f2d0201c038101a03800186383997d02261c35f03c1f001a5c01b1045282000200021d03107182b533300022a264047a6e0210016
def xR:=aJ kB
abbrev oF:=Rg [B 79 19,X 80 2 3,M 81 80,V 82 (.len (.m 81)),L 83 .geq 79 82]
abbrev ou:=Rg [C 6 (Q 0),C 7 (Q 0),C 8 (Q 8)]
abbrev oi:=Rg [X 84 2 3,M 85 84,A 86 19,V 87 (.ia 1 (.m 85) (.m 86)),M 88 87,A 89 17,A 6 88,A 7 89,C 8 (Q 0)]
def CN (a0 a1 a2 a3:VC):aj:=aV [a0,a1,a2,a3] 0x157183700452707180423007ed217007af4f061c0041cb00638704611ea03c6000182e101c22650461c0041a900611ea03c791ee01c1b044d13056ad000200021d01df004107184b493b2b4300020263041e81bc021001e912968b005fd005ef4902028038101e038001c1a385e91e9062a3835f03c6000182e101c1af00191c801d1043f130559d000200021d01bd004107183d3b2b34300020263041be19a021001bb1294fb004ed004df3b0201e038101c038001a18384d91bb061c2a35f03c7a001f001a19801c10071a06002001104542000200021d03107185323000224618429753e04872b418077604f1a40328203600026204282e019100024329020002000240345c510281e1c33
def Nb (a0 a1 a2 a3:VC):=aJ (CN a0 a1 a2 a3)
def tP:aj:=CN kB oF ou oi
def Mv:=b6 tP (Nb kB oF ou oi)
abbrev Du:=[B 20 0,H 21 ER [.m 20],B 22 1,B 23 5,L 24 .rem 22 23,L 25 .add 21 24,V 26 (.mks 1 [.m 25]),A 27 6,V 28 (.app 1 (.m 26) (.m 27)),A 6 28]
def ud:VC:=.regP (.range 10) (.range 10) [] Du
def CW (a0:VC):VC:=bm [a0] 0x11ed1f02260045d480312fd3061c1d044a00192e0410701600191f1b3143040262a204611fc03c4005b3a04100
def Mu (a0:VC):=aJ (CW a0)
def nc:VC:=CW ud
def CV:=b6 nc (Mu ud)
def He (a0:VC):aj:=aV [a0] 0x1538b1904f680210043143071a006020011001b001101a91b022600462a5046129c03c4006129b03c46071001291b602101812
def Ta (a0:VC):=aJ (He a0)
def xK:aj:=He nc
def RC:=b6 xK (Ta nc)
def LU:aj:=aV [] 0x1549500262046129c03c30041001291820210411
def jy:VC:=bm [] 0x145282000200021903101f313300228264045e5a02102db1f02260045d003104019020261046b5e021002ab30794a021042d130529d000200021907f004102b291f1430020263041882c021003d1291fb001ed001df290201c038101a03800186381d93d02261c35f03c190043c01b1016
def wb:=aJ jy
def Am (a0:VC):aj:=aV [a0] 0x154af004a90049b1901a90019b00638004611ea03c18260045d0018d6c01a107f1293dd003cf003c92f02028038101e038001c1a383bb7f062a3835f03c18260045e00190036801d10071a06002001100243290200020002604101c1a1832
def Ka (a0:VC):=aJ (Am a0)
def qG:aj:=Am jy
def Ki:=b6 qG (Ka jy)
def gw:VC:=bm [] 0x11df290226b03a42141b13051d91904900210281f3143002613e07860001861c10584a004001a1a06107f1b01d00210160019243143040201d72284110
def jv:=aJ gw
def zJ (a0:VC):aj:=aV [a0] 0x1512190110023143071a0060200604c4203100012902602101812
def Kd (a0:VC):=aJ (zJ a0)
def qM:aj:=zJ gw
def Ap:=b6 qM (Kd gw)
def Yx:aj:=aV [] 0x155d50612a803c3603104549506129f03c6301a8300410182001290220210411
def alb:aj:=aV [] 0x1502002bf1d063822a906c61c22e06c1f001900612aa03c33a018104542001b1d021053133002246181e28629753e0480273180771d18607284031a203600752a04802724071a203600600188617d03c28001e1000222902001b1a03101e1c23
def aha:aj:=aV [] 0x15046c2d64681c45c2a4583844c3e4484c43c4f4384942c3b4282d41c1f41819441c000000000000000000000000000000000000000000000000000000000000000000000000000000000000000000000000000000006c018c02131f82121ef21122104000000004018c421348212021142104000000004018c421338212021142104000000004018c221338212021142104000000004018c42131e212021142104000000004018c22131e212021142104000000004018c221318212721142104000000004018c021318212721142104000000004018c221342120211182104000000004018c021342120211182104000000004018c221322121211182104000000004018c021322121211182104000000004018c1e10000000000000000000000000000000000000000000000000000000000000000000000000000000000000000000000000000000006c1681106d110
def Ca:aj:=aV [] 0x152186b5022600462a5046000181a101c6000181a201c710001290200305c310411
def WN:=aJ Ca
def il:VC:=bm [] 0x128f29061c00458006b380411ed1f06c00210012961c2a3842ab06c280069005d00400610160191a13040261c19041a002b2c03100
def sH:=aJ il
def ij:VC:=bm [] 0x14cb29062a00464270458006b19a05149b1f06c00210012961c2a4c5a52ac06c28006c0061c00458005d005e004001910564192913040261c19041a006c18803100
def sI:=aJ ij
def sQ (a0:VC):VC:=bm [a0] 0x15ef1d04267044f003142b1f230012961c2a383e52ac06c28001a0079005d00400710261c2041a007a1ac03104ed2b061c00458005e1a804100013071a046038b00021f06427045800410362191d53143040261c2041a00586e03100
def EB (a0:VC):=aJ (sQ a0)
def ik:VC:=sQ ij
def sK:=b6 ik (EB ij)
def v8 (a0 a1:VC):aj:=aV [a0,a1] 0x11d53143171a026012961c2a3842ab06c28001a005d0043c0610013071a00607f00021f039603105821a011003
def HF (a0 a1:VC):=aJ (v8 a0 a1)
def nB:aj:=v8 il ik
def H6:=b6 nB (HF il ik)
def AB:aj:=aV [] 0x15495061c30430040041001291820210411
def UV:=aJ AB
def J3:VC:=bm [] 0x179502260041f290316012d1a201c64c1019862a21019c61f82004280061f8250428006100181a201c1a16012d3e5a1058226004604c6000181a201c61f8200428006000181a301c1a106012d384c1058604c6000181a201c61f8250428006000181a341c191016001951304021f8261904281a02100
def MC (a0:VC):aj:=aV [a0] 0x153180442d1a1518a182100013071a0062200110049142d33000043686131c123821033300004018c3ea23ea202101bc0012f81f8211419c51033000041681105110
def Nu:aj:=MC J3
def Pc:aj:=aV [] 0x157f1903e1802104791b02265042a0031021920110041821b01121300230011006200110012902602101812
def j7:VC:=bm [] 0x11a91902260043b2a031451850110318197230002246181a1c1e729756804871d61e072e1c037001a01b71d11805b3c603700401b1a4201f60062a2046101882e0060001861c10583c006000181a441c2a101600193181972300402638204604c6000181a401c2b1c05100
def xi:=aJ j7
def Bp (a0:VC):aj:=aV [a0] 0x1555011031802230071a00602001100418270116130026000181a321c2100420011001291800305c310411
def LZ (a0:VC):=aJ (Bp a0)
def sn:aj:=Bp j7
def LP:=b6 sn (LZ j7)
def Pi:aj:=aV [] 0x154f5060001861c10583001f824823823821e21e218218242422222021d1019c51001290220210411
def Q4:aj:=aV [] 0x154f5060001861c10583001ef20202020202727202021212021d1019c51001290220210411
def MV:aj:=aV [] 0x1518882501104518825011002300110001290220210411
def OB:aj:=aV [] 0x155132b91d063e2001e861c50428006129d03c19006182004618270461c1d045d0061c7045a00281a01d1b001a92906620044261d0462e2504340510428821f0114130021a20110018882001100129021a02101c13
abbrev P8:=Rg [A 13 2,A 14 0,V 15 (.conv .u8 (.m 14)),V 16 (.ixs (.c (.d (.str [0,1,2,2,3,3,3,3,4,4,4,4,4,4,4,4,5,5,5,5,5,5,5,5,5,5,5,5,5,5,5,5,6,6,6,6,6,6,6,6,6,6,6,6,6,6,6,6,6,6,6,6,6,6,6,6,6,6,6,6,6,6,6,6,7,7,7,7,7,7,7,7,7,7,7,7,7,7,7,7,7,7,7,7,7,7,7,7,7,7,7,7,7,7,7,7,7,7,7,7,7,7,7,7,7,7,7,7,7,7,7,7,7,7,7,7,7,7,7,7,7,7,7,7,7,7,7,7,8,8,8,8,8,8,8,8,8,8,8,8,8,8,8,8,8,8,8,8,8,8,8,8,8,8,8,8,8,8,8,8,8,8,8,8,8,8,8,8,8,8,8,8,8,8,8,8,8,8,8,8,8,8,8,8,8,8,8,8,8,8,8,8,8,8,8,8,8,8,8,8,8,8,8,8,8,8,8,8,8,8,8,8,8,8,8,8,8,8,8,8,8,8,8,8,8,8,8,8,8,8,8,8,8,8,8,8,8,8,8,8,8,8,8,8,8,8,8,8,8,8,8,8,8,8,8,8]))) (.m 15)),V 17 (.conv .i64 (.m 16)),L 18 .add 13 17,A 2 18]
def UY (a0:VC):aj:=aV [a0] 0x15070419b5028260041f2c0317f10283d6180430031002188848660441802100448220114f10483d6180430031041300248888848660440021000220110411
def UW:aj:=UY P8
abbrev Na:=Rg [A 19 2,A 20 0,V 21 (.conv .u8 (.m 20)),V 22 (.ixs (.c (.d (.str [0,1,2,2,3,3,3,3,4,4,4,4,4,4,4,4,5,5,5,5,5,5,5,5,5,5,5,5,5,5,5,5,6,6,6,6,6,6,6,6,6,6,6,6,6,6,6,6,6,6,6,6,6,6,6,6,6,6,6,6,6,6,6,6,7,7,7,7,7,7,7,7,7,7,7,7,7,7,7,7,7,7,7,7,7,7,7,7,7,7,7,7,7,7,7,7,7,7,7,7,7,7,7,7,7,7,7,7,7,7,7,7,7,7,7,7,7,7,7,7,7,7,7,7,7,7,7,7,8,8,8,8,8,8,8,8,8,8,8,8,8,8,8,8,8,8,8,8,8,8,8,8,8,8,8,8,8,8,8,8,8,8,8,8,8,8,8,8,8,8,8,8,8,8,8,8,8,8,8,8,8,8,8,8,8,8,8,8,8,8,8,8,8,8,8,8,8,8,8,8,8,8,8,8,8,8,8,8,8,8,8,8,8,8,8,8,8,8,8,8,8,8,8,8,8,8,8,8,8,8,8,8,8,8,8,8,8,8,8,8,8,8,8,8,8,8,8,8,8,8,8,8,8,8,8,8]))) (.m 21)),V 23 (.conv .i64 (.m 22)),L 24 .add 19 23,A 2 24]
def UO (a0:VC):aj:=aV [a0] 0x1507041df5028260041f480311cb10283d618043003100218883d660442c02100419b5048260041f2c0317f10483d61804300310024888883d6604418021004188220114f101883d618043003104130021888888888883d660440021000220110411
def UL:aj:=UO Na
def GD:VC:=bm [] 0x15d18011
def GX:VC:=bm [] 0x101f12d62a10198611019c380028101e185116
def Jh (a0 a1:VC):aj:=aV [a0,a1] 0x1519b1901f101a1821001317077101c0061920110001291b20325c3101812
def Jv:aj:=Jh GD GX
def PK:aj:=aV [] 0x1128411
abbrev mV:=[B 18 9,B 19 1,L 20 .gtr 18 19,A 21 20,W 21 22 (.mov (.s 3)),W 21 23 (.mov (.s 0)),W 21 24 (.mov (.s 9)),W 21 25 (.ia 1 (.s 23) (.s 24)),W 21 26 (.ld none 0 (.s 25)),W 21 27 (.mov (.s 0)),W 21 28 (.mov (.s 9)),W 21 29 (.bin .sub (.s 28) (Q 1)),W 21 30 (.ia 1 (.s 27) (.s 29)),W 21 31 (.ld none 0 (.s 30)),W 21 32 (.callv (.s 22) [.s 26,.s 31]),W 21 33 (.bin .lss (.s 32) (Q 0)),V 34 (.pick (.s 21) (.s 33) ff)]
def ir:VC:=.regP (.range 17) (.range 17) [] mV
abbrev na:=[B 37 0,B 38 9,B 39 0,B 40 9,P 41 .sub 40 1,B 42 0,B 43 9,P 44 .sub 43 1,V 45 (.ia 1 (.m 42) (.m 44)),M 46 45,B 47 0,B 48 9,V 49 (.ia 1 (.m 47) (.m 48)),M 50 49,V 51 (.ia 1 (.m 37) (.m 38)),N (.st 1 (.m 51) (.m 46)),V 52 (.ia 1 (.m 39) (.m 41)),N (.st 1 (.m 52) (.m 50))]
def iw:VC:=.regP (.range 18) [0,1,5,6,7,8,9,10,11,12,13,14,15,2,3,4,16,17] [] na
def mL (a0 a1:VC):VC:=bm [a0,a1] 0x13bb2b02265047918c031173602192b130439f218b1897f7d7b796f6d6b695f5d5b1d307000
def yb (a0 a1:VC):=aJ (mL a0 a1)
def fA:VC:=mL ir iw
def mI:=b6 fA (yb ir iw)
def mG (a0:VC):VC:=bm [a0] 0x11cb2902260045a1a031013071a0261d92b06c402101600191c753153040261c2042800392e03100
def ym (a0:VC):=aJ (mG a0)
def fq:VC:=mG fA
def mN:=b6 fq (ym fA)
def oJ (a0:VC):aj:=aV [a0] 0x10753153071a00618d2902260041a2a031004
def Br (a0:VC):=aJ (oJ a0)
def js:aj:=oJ fq
def Bo:=b6 js (Br fq)
abbrev rO:=[B 40 4,B 41 0,B 42 12,V 43 (.ia 1 (.m 41) (.m 42)),M 44 43,B 45 0,B 46 1,V 47 (.ia 1 (.m 45) (.m 46)),M 48 47,V 49 (.callv (.m 40) [.m 44,.m 48]),P 50 .lss 49 0]
def kg:VC:=.regP (.range 11) (.range 11) [] rO
def ql (a0:VC):VC:=bm [a0] 0x15892f019b1ac0212f1304fb2d022600419b19c03141304df20703dd3906001a823d618046201a861c00418e0018800710160192f1923040261c20418e001887c03100
def C8 (a0:VC):=aJ (ql a0)
def gF:VC:=ql kg
def qB:=b6 gF (C8 kg)
abbrev qk:=[B 61 0,B 62 13,B 63 0,B 64 13,P 65 .add 64 1,B 66 0,B 67 13,P 68 .add 67 1,V 69 (.ia 1 (.m 66) (.m 68)),M 70 69,B 71 0,B 72 13,V 73 (.ia 1 (.m 71) (.m 72)),M 74 73,V 75 (.ia 1 (.m 61) (.m 62)),N (.st 1 (.m 75) (.m 70)),V 76 (.ia 1 (.m 63) (.m 65)),N (.st 1 (.m 76) (.m 74))]
def jK:VC:=.regP (.range 18) [0,1,5,6,7,8,9,10,11,12,13,14,15,2,3,4,16,17] [] qk
def qi (a0:VC):VC:=bm [a0] 0x15db3b02260041a90031073602193b2d133040262a204226504188001aa1dc04100
def Db (a0:VC):=aJ (qi a0)
def gB:VC:=qi jK
def qy:=b6 gB (Db jK)
abbrev qx:=[B 92 4,B 93 0,B 94 2,V 95 (.ia 1 (.m 93) (.m 94)),M 96 95,B 97 0,B 98 16,V 99 (.ia 1 (.m 97) (.m 98)),M 100 99,V 101 (.callv (.m 92) [.m 96,.m 100]),P 102 .lss 101 0,V 103 (.un .not (.m 102))]
def jJ:VC:=.regP (.range 12) (.range 12) [] qx
def qu (a0:VC):VC:=bm [a0] 0x119ff3f01cb2ee0213f13019f93d02260041cb2de031413019dd207018cd4906001a823d618046201a861c0041be001b800710564193f1923040261c2041be001b82cc03100
def C9 (a0:VC):=aJ (qu a0)
def gz:VC:=qu jJ
def qp:=b6 gz (C9 jJ)
abbrev qo:=[B 113 0,B 114 17,B 115 0,B 116 17,P 117 .sub 116 1,B 118 0,B 119 17,P 120 .sub 119 1,V 121 (.ia 1 (.m 118) (.m 120)),M 122 121,B 123 0,B 124 17,V 125 (.ia 1 (.m 123) (.m 124)),M 126 125,V 127 (.ia 1 (.m 113) (.m 114)),N (.st 1 (.m 127) (.m 122)),V 128 (.ia 1 (.m 115) (.m 117)),N (.st 1 (.m 128) (.m 126))]
def jE:VC:=.regP (.range 18) [0,1,5,6,7,8,9,10,11,12,13,14,15,2,3,4,16,17] [] qo
def qq (a0:VC):VC:=bm [a0] 0x11acb4b02265041d90031077606194b3d133040261c4041b8001da3ae03100
def De (a0:VC):=aJ (qq a0)
def gI:VC:=qq jE
def qr:=b6 gI (De jE)
abbrev qA:=[B 158 4,B 159 0,B 160 22,B 161 23,L 162 .sub 160 161,V 163 (.ia 1 (.m 159) (.m 162)),M 164 163,B 165 0,B 166 23,V 167 (.ia 1 (.m 165) (.m 166)),M 168 167,V 169 (.callv (.m 158) [.m 164,.m 168]),P 170 .lss 169 0,V 171 (.un .not (.m 170))]
def jI:VC:=.regP (.range 14) (.range 14) [] qA
def qj (a0:VC):VC:=bm [a0] 0x128af5b029d4ea0215b13028a959022600429d4d80316130288d20701ee95f06001a823d618046201a861c00428a001fc0071019618195d5b23040261c20428a001fc4d803100
def Dc (a0:VC):=aJ (qj a0)
def gC:VC:=qj jI
def qn:=b6 gC (Dc jI)
def tk (a0 a1 a2 a3 a4:VC):aj:=aV [a0,a1,a2,a3,a4] 0x14694d1971530012961c2a383e52ac06c3b002d002ab001df0030071022463291873804871d26062e4022ac20260061c2042ac001e80019104593230012961c2a383e52ac06c3c001e8001fb00190040071022463291873804871d26061e84021fc20260061c2041fc001a001910045130012961c2a383e52ad06c3c002ac001f001fc0040071022463291873804871d26062ac4022820260061c20428001fc4ea01910028d969061c5041fc001ed4e804100223471a018601dfb5d02265041ee3fa03101ddf5b0283fa0211dd95901a3ee02101dcb5b01e83ee0211dbd59061c5042e001ee004100261c4041e800283d80310002229020002003101cf94f061c00428001e83d804101ccf4d06001a823d618046201a861c0042e001a3be07104506133371a0661a8d4b01f2ee0210001923271a04607df3f02828e02107d93d0190021071300222610461c50428002e1fe041004506133171a02658f3b0191ac0210001923071a00602ef2f02d4e02102e92d01f002100222610461c5041a0028680410005
def Fd (a0 a1 a2 a3 a4:VC):=aJ (tk a0 a1 a2 a3 a4)
def lW:aj:=tk gF gB gz gI gC
def eG:=b6 lW (Fd gF gB gz gI gC)
def ie:VC:=bm [] 0x14d92f061c5041880018d0041012961c2a6818a52ae06c3c001880061c5041880061c00418e00280061c50418800280046801d1039f2d061c50418e007f0041012961c2a385a52ae06c3c0018e00280061c50418800280040019100261c40418b0018800310160192a13040261c3046900694a03100
def Ey:=aJ ie
def wy (a0:VC):aj:=aV [a0] 0x1012961c2a385a52ae06c3b007f001f0061c504188002800319c0191013071a00601d92f061c50428002d1804101af2d061c5041900282e041005
def HR (a0:VC):=aJ (wy a0)
def nv:aj:=wy ie
def Hq:=b6 nv (HR ie)
abbrev qm:=[B 16 0,B 17 1,B 18 10,L 19 .add 17 18,B 20 0,B 21 2,B 22 10,L 23 .add 21 22,B 24 0,B 25 2,B 26 10,L 27 .add 25 26,V 28 (.ia 1 (.m 24) (.m 27)),M 29 28,B 30 0,B 31 1,B 32 10,L 33 .add 31 32,V 34 (.ia 1 (.m 30) (.m 33)),M 35 34,V 36 (.ia 1 (.m 16) (.m 19)),N (.st 1 (.m 36) (.m 29)),V 37 (.ia 1 (.m 20) (.m 23)),N (.st 1 (.m 37) (.m 35))]
def jG:VC:=.regP (.range 24) [0,1,2,3,8,9,10,11,12,13,14,15,16,17,18,19,20,21,4,5,6,7,22,23] [] qm
def pz (a0:VC):VC:=bm [a0] 0x11bd2d0226004380031071600196753153040261c2042e0072c03100
def B0 (a0:VC):=aJ (pz a0)
def gh:VC:=pz jG
def oZ:=b6 gh (B0 jG)
def sM (a0:VC):aj:=aV [a0] 0x10753153071a006022a01101913005
def Ez (a0:VC):=aJ (sM a0)
def lc:aj:=sM gh
def EC:=b6 lc (Ez gh)
def ast:T:=(.node 77 SL (.node 40 LO (.node 21 vA (.node 12 Tt (.node 7 JI (.node 5 oD (.node 4 OR (.node 3 pX .leaf .leaf) .leaf) (.node 6 vQ .leaf .leaf)) (.node 10 Cn (.node 9 Cq (.node 8 Ht .leaf .leaf) .leaf) (.node 11 OL .leaf .leaf))) (.node 17 nt (.node 15 oe (.node 14 qI (.node 13 wJ .leaf .leaf) .leaf) (.node 16 su .leaf .leaf)) (.node 19 sm (.node 18 mM .leaf .leaf) (.node 20 wI .leaf .leaf)))) (.node 31 L5 (.node 26 JZ (.node 24 Ls (.node 23 N5 (.node 22 LX .leaf .leaf) .leaf) (.node 25 Ji .leaf .leaf)) (.node 29 Ln (.node 28 LQ (.node 27 LV .leaf .leaf) .leaf) (.node 30 Li .leaf .leaf))) (.node 36 LH (.node 34 Lu (.node 33 LT (.node 32 Pe .leaf .leaf) .leaf) (.node 35 L7 .leaf .leaf)) (.node 38 Hk (.node 37 LE .leaf .leaf) (.node 39 FY .leaf .leaf))))) (.node 59 qE (.node 50 u6 (.node 45 u5 (.node 43 D1 (.node 42 PF (.node 41 JW .leaf .leaf) .leaf) (.node 44 FE .leaf .leaf)) (.node 48 wU (.node 47 wZ (.node 46 vt .leaf .leaf) .leaf) (.node 49 wR .leaf .leaf))) (.node 55 vN (.node 53 t9 (.node 52 vR (.node 51 vF .leaf .leaf) .leaf) (.node 54 ov .leaf .leaf)) (.node 57 l9 (.node 56 uT .leaf .leaf) (.node 58 oI .leaf .leaf)))) (.node 68 HQ (.node 64 wX (.node 62 FI (.node 61 JL (.node 60 HE .leaf .leaf) .leaf) (.node 63 Fg .leaf .leaf)) (.node 66 Jt (.node 65 J1 .leaf .leaf) (.node 67 Lj .leaf .leaf))) (.node 73 Ga (.node 71 D7 (.node 70 yj (.node 69 Fr .leaf .leaf) .leaf) (.node 72 Eh .leaf .leaf)) (.node 75 LD (.node 74 H4 .leaf .leaf) (.node 76 Ff .leaf .leaf)))))) (.node 114 wO (.node 96 vH (.node 87 uS (.node 82 AH (.node 80 Hw (.node 79 Ma (.node 78 aau .leaf .leaf) .leaf) (.node 81 acW .leaf .leaf)) (.node 85 kl (.node 84 OT (.node 83 tH .leaf .leaf) .leaf) (.node 86 Cj .leaf .leaf))) (.node 92 vD (.node 90 tU (.node 89 uP (.node 88 wV .leaf .leaf) .leaf) (.node 91 wW .leaf .leaf)) (.node 94 wH (.node 93 vV .leaf .leaf) (.node 95 tL .leaf .leaf)))) (.node 105 aoj (.node 101 nk (.node 99 wT (.node 98 vU (.node 97 si .leaf .leaf) .leaf) (.node 100 Dt .leaf .leaf)) (.node 103 ahy (.node 102 DQ .leaf .leaf) (.node 104 JT .leaf .leaf))) (.node 110 Jq (.node 108 AK (.node 107 yd (.node 106 Wr .leaf .leaf) .leaf) (.node 109 me .leaf .leaf)) (.node 112 mH (.node 111 wQ .leaf .leaf) (.node 113 uV .leaf .leaf))))) (.node 133 Ca (.node 124 wL (.node 119 MU (.node 117 mB (.node 116 r5 (.node 115 qJ .leaf .leaf) .leaf) (.node 118 sk .leaf .leaf)) (.node 122 Ke (.node 121 vq (.node 120 OJ .leaf .leaf) .leaf) (.node 123 xO .leaf .leaf))) (.node 129 qM (.node 127 LU (.node 126 xK (.node 125 tP .leaf .leaf) .leaf) (.node 128 qG .leaf .leaf)) (.node 131 alb (.node 130 Yx .leaf .leaf) (.node 132 aha .leaf .leaf)))) (.node 142 OB (.node 138 sn (.node 136 Nu (.node 135 AB (.node 134 nB .leaf .leaf) .leaf) (.node 137 Pc .leaf .leaf)) (.node 140 Q4 (.node 139 Pi .leaf .leaf) (.node 141 MV .leaf .leaf))) (.node 147 js (.node 145 Jv (.node 144 UL (.node 143 UW .leaf .leaf) .leaf) (.node 146 PK .leaf .leaf)) (.node 149 nv (.node 148 lW .leaf .leaf) (.node 150 lc .leaf .leaf)))))))
def prog:Nat->X_:=ast.look
section
abbrev rP (r:VC)(l:R_)(e:aT):Prop:=∀{h:ak}{n:Nat},(Dn prog).code r ⟨e,⟨h,n⟩⟩=eJ (rk prog l e ⟨h,n⟩)
def nP {p g:C_}{o:R_}{l:R_}{e:aT}(a:tz e o=true:=by kernel_rfl)(b:(p.all λi=>decide (i<o.length))=true:=by kernel_rfl)(c:p.filterMap (λi=>o[i]?)=l:=by kernel_rfl):rP (.regP p g [] o) l e:=amw a b (by rw[c])
variable {x0 x1 x2 x3 x4 x5 x6 x7 x8 x9 x10 x11 x12 x13 x14 x15 x16 x17 x18 x19 x21:AV}{y0 y1 y2 y3 y5 y6 y7 y8 y9 y10 y11 y12 y13 y14 y15 y16 y17 y18 y19 y20 y21 y22 y23 y32 y33 y46 y47 y80 y81 y140 y141:D}{h:ak}{n:Nat}
@[simp] theorem au5:(Dn prog).code wo ⟨[(2,x2),(4,x4),(6,x6)],⟨h,n⟩⟩=eJ (bA (gX 1 (share x2)) λa1=>bA (fy ((dL (cN (firm a1)++[]) h)) none (firm a1)) λa2=>bA (fT .sub (firm a2) (A_ 1)) λa3=>bP ((Dn prog).call jL [firm (share x6),A_ 3] ⟨h,n⟩) λa4 s5=>dE (dt (((cN (firm a1)++[])++[])) h s5.heap) <|bA (fT .eql (firm a4) (.d a3)) λa6=>bP ((Dn prog).call l8 [firm (share x6),.d a6] ⟨s5.heap,s5.next⟩) λa7 s8=>some ⟨[(2,x2),(4,x4),(6,x6),(41,firm a7)],⟨s8.heap,s8.next⟩⟩):=dr rfl rfl (by kernel_rfl)
@[simp] theorem att:rP yP Qe [(2,x2),(4,x4),(6,x6),(7,x7)]:=nP
@[simp] theorem ate:(Dn prog).code yC ⟨[(4,x4),(6,x6)],⟨h,n⟩⟩=eJ (bA (dM [.nl,B_ false,O,.nl,.nl] []) λa1=>bA (AR (firm x6)) λa2=>bA (gX 2 (firm a2)) λa3=>bA (fy ((dL (cN (firm a3)++[]) h)) none (firm a3)) λa4=>bA (storeAt h 5 (share x4) (firm (.agg a1))) λh5=>dE (dt (((cN (firm a3)++[])++[])) h h5) <|some ⟨[(4,x4),(5,firm (firm a4))],⟨h5,n⟩⟩):=dr rfl rfl (by kernel_rfl)
@[simp] theorem ath:(Dn prog).code Gc ⟨[(4,x4),(6,x6)],⟨h,n⟩⟩=eJ (bA (dM [.nl,B_ false,O,.nl,.nl] []) λa1=>bA (AR (firm x6)) λa2=>bA (gX 2 (firm a2)) λa3=>bA (fy ((dL (cN (firm a3)++[]) h)) none (firm a3)) λa4=>bA (storeAt h 5 (share x4) (firm (.agg a1))) λh5=>dE (dt (((cN (firm a3)++[])++[])) h h5) <|some ⟨[(4,x4),(5,firm (firm a4))],⟨h5,n⟩⟩):=dr rfl rfl (by kernel_rfl)
@[simp] theorem asZ:rP Fk QC [(2,x2),(4,x4),(6,x6),(7,x7),(10,x10),(140,.d y140),(141,.d y141)]:=nP
@[simp] theorem ass:(Dn prog).code F6 ⟨[(4,x4),(6,x6)],⟨h,n⟩⟩=eJ (bA (dM [.nl,B_ false,O,.nl,.nl] []) λa1=>bA (AR (firm x6)) λa2=>bA (gX 2 (firm a2)) λa3=>bA (fy ((dL (cN (firm a3)++[]) h)) none (firm a3)) λa4=>bA (storeAt h 5 (share x4) (firm (.agg a1))) λh5=>dE (dt (((cN (firm a3)++[])++[])) h h5) <|some ⟨[(4,x4),(5,firm (firm a4))],⟨h5,n⟩⟩):=dr rfl rfl (by kernel_rfl)
@[simp] theorem ati:(Dn prog).code yK ⟨[(4,x4),(6,x6)],⟨h,n⟩⟩=eJ (bA (dM [.nl,B_ false,O,.nl,.nl] []) λa1=>bA (AR (firm x6)) λa2=>bA (gX 2 (firm a2)) λa3=>bA (fy ((dL (cN (firm a3)++[]) h)) none (firm a3)) λa4=>bA (storeAt h 5 (share x4) (firm (.agg a1))) λh5=>dE (dt (((cN (firm a3)++[])++[])) h h5) <|some ⟨[(4,x4),(5,firm (firm a4))],⟨h5,n⟩⟩):=dr rfl rfl (by kernel_rfl)
@[simp] theorem af8:(Dn prog).code ll ⟨[(2,x2),(4,x4),(6,x6)],⟨h,n⟩⟩=eJ (bA (gX 1 (share x2)) λa1=>bA (fy ((dL (cN (firm a1)++[]) h)) none (firm a1)) λa2=>bA (fT .sub (firm a2) (A_ 1)) λa3=>bP ((Dn prog).call bL [firm (share x6),A_ 3] ⟨h,n⟩) λa4 s5=>dE (dt (((cN (firm a1)++[])++[])) h s5.heap) <|bA (fT .eql (firm a4) (.d a3)) λa6=>bP ((Dn prog).call dk [firm (share x6),.d a6] ⟨s5.heap,s5.next⟩) λa7 s8=>some ⟨[(2,x2),(4,x4),(6,x6),(40,firm a7)],⟨s8.heap,s8.next⟩⟩):=dr rfl rfl (by kernel_rfl)
@[simp] theorem ad1:(Dn prog).code pK ⟨[(4,x4),(6,x6)],⟨h,n⟩⟩=eJ (bA (dM [.nl,B_ false,O,.nl,.nl] []) λa1=>bA (AR (firm x6)) λa2=>bA (gX 2 (firm a2)) λa3=>bA (fy ((dL (cN (firm a3)++[]) h)) none (firm a3)) λa4=>bA (storeAt h 5 (share x4) (firm (.agg a1))) λh5=>dE (dt (((cN (firm a3)++[])++[])) h h5) <|some ⟨[(4,x4),(5,firm (firm a4))],⟨h5,n⟩⟩):=dr rfl rfl (by kernel_rfl)
@[simp] theorem adD:rP pR Al [(2,x2),(4,x4),(6,x6),(7,x7),(8,x8),(9,.d y9)]:=nP
@[simp] theorem adN:(Dn prog).code qb ⟨[(4,x4),(6,x6),(7,x7),(14,.d y14),(16,.d y16)],⟨h,n⟩⟩=eJ (bA (gX 4 (share x7)) λa1=>bA (fy ((dL (cN (firm a1)++[]) h)) none (firm a1)) λa2=>bP ((Dn prog).call bL [firm (share x6),A_ 8] ⟨h,n⟩) λa3 s4=>dE (dt (((cN (firm a1)++[])++[])) h s4.heap) <|bA (Zf .u8 (firm a3)) λa5=>bA (ji 1 [.d a5]) λa6=>bP (WO 1 s4.heap (firm a2) (.own false 1 a6)) λa7 h8=>lP (dO [(0,0)] a7 ⟨h8,s4.next⟩) λa9 s10=>bA (gX 4 (share x7)) λa11=>bA (storeAt s10.heap 1 (firm a11) (firm a9)) λh12=>some ⟨[(4,x4),(6,x6),(7,x7),(14,.d y14),(16,.d y16)],⟨h12,s10.next⟩⟩):=dr rfl rfl (by kernel_rfl)
@[simp] theorem ad3:(Dn prog).code kA ⟨[(4,x4),(6,x6)],⟨h,n⟩⟩=eJ (bA (dM [.nl,B_ false,O,.nl,.nl] []) λa1=>bA (AR (firm x6)) λa2=>bA (gX 2 (firm a2)) λa3=>bA (fy ((dL (cN (firm a3)++[]) h)) none (firm a3)) λa4=>bA (storeAt h 5 (share x4) (firm (.agg a1))) λh5=>dE (dt (((cN (firm a3)++[])++[])) h h5) <|some ⟨[(4,x4),(5,firm (firm a4))],⟨h5,n⟩⟩):=dr rfl rfl (by kernel_rfl)
@[simp] theorem al9:rP wS Gz [(0,x0),(1,.d y1)]:=nP
@[simp] theorem avt:(Dn prog).code HZ ⟨[(6,x6),(7,x7),(8,x8)],⟨h,n⟩⟩=eJ (bA (fy h (some 4) (share x6)) λa1=>bA (fy ((dL (cN x8++[]) h)) none (share x8)) λa2=>bA (storeAt h 4 (share x6) (firm a1)) λh3=>dE (dt (((cN x8++[])++[])) h h3) <|bA (storeAt h3 1 (share x7) (O)) λh4=>dE (dt (((cN x8++[])++[])) h3 h4) <|bA (storeAt h4 1 (share x8) (firm a2)) λh5=>some ⟨[(6,x6),(7,x7),(8,x8)],⟨h5,n⟩⟩):=dr rfl rfl (by kernel_rfl)
@[simp] theorem as8:(Dn prog).code E0 ⟨[(6,x6),(7,x7),(8,x8)],⟨h,n⟩⟩=eJ (bA (dM [O8,O8,O,.nl] []) λa1=>bA (fy ((dL (cN x8++[]) h)) none (share x8)) λa2=>bA (storeAt h 4 (share x6) (firm (.agg a1))) λh3=>dE (dt (((cN x8++[])++[])) h h3) <|bA (storeAt h3 1 (share x7) (O)) λh4=>dE (dt (((cN x8++[])++[])) h3 h4) <|bA (storeAt h4 1 (share x8) (firm a2)) λh5=>some ⟨[(6,x6),(7,x7),(8,x8)],⟨h5,n⟩⟩):=dr rfl rfl (by kernel_rfl)
@[simp] theorem asT:(Dn prog).code F0 ⟨[(6,x6),(7,x7),(8,x8)],⟨h,n⟩⟩=eJ (bA (fy h (some 4) (share x6)) λa1=>bA (fy ((dL (cN x7++[]) h)) none (share x7)) λa2=>bA (storeAt h 4 (share x6) (firm a1)) λh3=>dE (dt (((cN x7++[])++[])) h h3) <|bA (storeAt h3 1 (share x7) (firm a2)) λh4=>bA (storeAt h4 1 (share x8) (O)) λh5=>some ⟨[(6,x6),(7,x7),(8,x8)],⟨h5,n⟩⟩):=dr rfl rfl (by kernel_rfl)
@[simp] theorem av1:(Dn prog).code Jp ⟨[(10,x10),(11,x11),(12,x12)],⟨h,n⟩⟩=eJ (bA (dM [O,O8,O8,O,.nl,.nl,.nl,.nl,.nl] []) λa1=>bA (fy ((dL (cN x12++[]) h)) none (share x12)) λa2=>bA (storeAt h 9 (share x10) (firm (.agg a1))) λh3=>dE (dt (((cN x12++[])++[])) h h3) <|bA (storeAt h3 1 (share x11) (O)) λh4=>dE (dt (((cN x12++[])++[])) h3 h4) <|bA (storeAt h4 1 (share x12) (firm a2)) λh5=>some ⟨[(10,x10),(11,x11),(12,x12)],⟨h5,n⟩⟩):=dr rfl rfl (by kernel_rfl)
@[simp] theorem av2:(Dn prog).code I5 ⟨[(10,x10),(11,x11),(12,x12)],⟨h,n⟩⟩=eJ (bA (dM [O,O8,O8,O,.nl,.nl,.nl,.nl,.nl] []) λa1=>bA (fy ((dL (cN x12++[]) h)) none (share x12)) λa2=>bA (storeAt h 9 (share x10) (firm (.agg a1))) λh3=>dE (dt (((cN x12++[])++[])) h h3) <|bA (storeAt h3 1 (share x11) (O)) λh4=>dE (dt (((cN x12++[])++[])) h3 h4) <|bA (storeAt h4 1 (share x12) (firm a2)) λh5=>some ⟨[(10,x10),(11,x11),(12,x12)],⟨h5,n⟩⟩):=dr rfl rfl (by kernel_rfl)
@[simp] theorem avp:(Dn prog).code Hj ⟨[(10,x10),(11,x11),(12,x12)],⟨h,n⟩⟩=eJ (bA (dM [O,O8,O8,O,.nl,.nl,.nl,.nl,.nl] []) λa1=>bA (fy ((dL (cN x12++[]) h)) none (share x12)) λa2=>bA (storeAt h 9 (share x10) (firm (.agg a1))) λh3=>dE (dt (((cN x12++[])++[])) h h3) <|bA (storeAt h3 1 (share x11) (O)) λh4=>dE (dt (((cN x12++[])++[])) h3 h4) <|bA (storeAt h4 1 (share x12) (firm a2)) λh5=>some ⟨[(10,x10),(11,x11),(12,x12)],⟨h5,n⟩⟩):=dr rfl rfl (by kernel_rfl)
@[simp] theorem at9:(Dn prog).code BK ⟨[(5,x5),(10,x10),(11,x11),(12,x12),(18,x18),(19,x19)],⟨h,n⟩⟩=eJ (bA (fy ((dL (cN x5++[]) h)) none x5) λa1=>bA (fy ((dL (cN x11++[]) h)) none (share x11)) λa2=>bA (fy h none (share x18)) λa3=>bA (gX 0 (share x19)) λa4=>bA (fy h none (firm a4)) λa5=>bP ((Dn prog).call xn [firm a3,firm a5] ⟨h,n⟩) λa6 s7=>dE (dt (((cN x11++[])++((cN x5++[])++[]))) h s7.heap) <|bA (fh (Dn prog) yS [firm a1,firm a2,firm a6] s7.heap) λa8=>bA (FP true (firm (firm a8)) 0) λa9=>bA (FP false (W5 (firm (firm a8)) 0) 1) λa10=>bA (FP false (W5 (firm (firm a8)) 0) 2) λa11=>bA (storeAt s7.heap 1 (share x11) (firm a10)) λh12=>bA (storeAt h12 1 (share x12) (firm a11)) λh13=>some ⟨[(10,x10),(11,x11),(12,x12),(18,x18),(19,x19),(20,firm (firm a9)),(84,W5 (firm (firm a8)) 0)],⟨h13,s7.next⟩⟩):=dr rfl rfl (by kernel_rfl)
@[simp] theorem auv:(Dn prog).code BM ⟨[(10,x10),(11,x11),(12,x12)],⟨h,n⟩⟩=eJ (bA (dM [O,O8,O8,O,.nl,.nl,.nl,.nl,.nl] []) λa1=>bA (fy ((dL (cN x12++[]) h)) none (share x12)) λa2=>bA (storeAt h 9 x10 (firm (.agg a1))) λh3=>dE (dt (((cN x12++[])++[])) h h3) <|bA (storeAt h3 1 x11 (O)) λh4=>dE (dt (((cN x12++[])++[])) h3 h4) <|bA (storeAt h4 1 (share x12) (firm a2)) λh5=>some ⟨[(12,x12)],⟨h5,n⟩⟩):=dr rfl rfl (by kernel_rfl)
@[simp] theorem at4:(Dn prog).code Ho ⟨[(10,x10),(11,x11),(12,x12)],⟨h,n⟩⟩=eJ (bA (fy h (some 9) (share x10)) λa1=>bA (fy ((dL (cN x11++[]) h)) none (share x11)) λa2=>bA (storeAt h 9 (share x10) (firm a1)) λh3=>dE (dt (((cN x11++[])++[])) h h3) <|bA (storeAt h3 1 (share x11) (firm a2)) λh4=>bA (storeAt h4 1 (share x12) (O)) λh5=>some ⟨[(10,x10),(11,x11),(12,x12)],⟨h5,n⟩⟩):=dr rfl rfl (by kernel_rfl)
@[simp] theorem Xp:rP kN sS [(0,x0),(1,.d y1)]:=nP
@[simp] theorem ac9:rP oq xZ [(0,x0),(1,.d y1),(2,x2),(6,x6)]:=nP
@[simp] theorem atk:(Dn prog).code FT ⟨[(8,x8),(9,x9),(10,x10)],⟨h,n⟩⟩=eJ (bA (fy ((dL (cN x10++[]) h)) none (share x10)) λa1=>bA (storeAt h 1 (share x8) .nl) λh2=>dE (dt (((cN x10++[])++[])) h h2) <|bA (storeAt h2 1 (share x9) (O)) λh3=>dE (dt (((cN x10++[])++[])) h2 h3) <|bA (storeAt h3 1 (share x10) (firm a1)) λh4=>some ⟨[(8,x8),(9,x9),(10,x10)],⟨h4,n⟩⟩):=dr rfl rfl (by kernel_rfl)
@[simp] theorem apS:(Dn prog).code Es ⟨[(8,x8),(9,x9),(10,x10)],⟨h,n⟩⟩=eJ (bA (fy ((dL (cN x10++[]) h)) none (share x10)) λa1=>bA (storeAt h 1 x8 .nl) λh2=>dE (dt (((cN x10++[])++[])) h h2) <|bA (storeAt h2 1 x9 (O)) λh3=>dE (dt (((cN x10++[])++[])) h2 h3) <|bA (storeAt h3 1 (share x10) (firm a1)) λh4=>some ⟨[(10,x10)],⟨h4,n⟩⟩):=dr rfl rfl (by kernel_rfl)
@[simp] theorem aqj:(Dn prog).code DW ⟨[(8,x8),(9,x9),(10,x10)],⟨h,n⟩⟩=eJ (bA (fy h none (share x8)) λa1=>bA (fy ((dL (cN x9++[]) h)) none (share x9)) λa2=>bA (storeAt h 1 (share x8) (firm a1)) λh3=>dE (dt (((cN x9++[])++[])) h h3) <|bA (storeAt h3 1 (share x9) (firm a2)) λh4=>bA (storeAt h4 1 (share x10) (O)) λh5=>some ⟨[(8,x8),(9,x9),(10,x10)],⟨h5,n⟩⟩):=dr rfl rfl (by kernel_rfl)
@[simp] theorem aoZ:(Dn prog).code AD ⟨[(6,x6),(7,x7),(8,x8),(10,x10),(11,x11),(12,.d y12),(13,x13),(15,.d y15),(32,.d y32),(33,.d y33),(46,.d y46),(47,.d y47)],⟨h,n⟩⟩=eJ (bA (K0 5 1 (share x11) (A_ 1)) λa1=>bA (fy h none (firm a1)) λa2=>bA (K0 5 1 (share x11) (A_ 2)) λa3=>bA (fy ((dL (cN (firm a3)++[]) h)) none (firm a3)) λa4=>bP (dD (Dn prog) (firm (share x10)) [firm a2] ⟨h,n⟩) λa5 s6=>dE (dt (((cN (firm a3)++[])++[])) h s6.heap) <|bP (dD (Dn prog) (firm (share x10)) [firm a4] ⟨s6.heap,s6.next⟩) λa7 s8=>bA (dM [O,O,B_ false,B_ false,.nl] [(3,1,.d y15),(0,1,firm a5),(1,1,firm a7)]) λa9=>lA (put s8.heap s8.next (.cells [O,O,B_ false,B_ false,.nl])) λh10=>bA (storeAt h10 5 (.ptr s8.next 0) (firm (.agg a9))) λh11=>some ⟨[(6,x6),(7,x7),(8,x8),(10,x10),(11,x11),(12,.d y12),(13,x13),(15,.d y15),(16,.ptr s8.next 0),(32,.d y32),(33,.d y33),(46,.d y46),(47,.d y47)],⟨h11,s8.next+1⟩⟩):=dr rfl rfl (by kernel_rfl)
@[simp] theorem anu:rP AF J7 [(6,x6),(7,x7),(8,x8),(10,x10),(11,x11),(12,.d y12),(13,x13),(15,.d y15),(16,x16),(17,.d y17),(18,.d y18),(19,.d y19),(32,.d y32),(33,.d y33),(46,.d y46),(47,.d y47),(80,.d y80),(81,.d y81)]:=nP
@[simp] theorem apr:(Dn prog).code AE ⟨[(7,x7),(8,x8)],⟨h,n⟩⟩=eJ (bA (fy ((dL (cN x8++[]) h)) none (share x8)) λa1=>bA (storeAt h 1 (share x7) (O)) λh2=>dE (dt (((cN x8++[])++[])) h h2) <|bA (storeAt h2 1 (share x8) (firm a1)) λh3=>some ⟨[(6,.nl),(7,x7),(8,x8)],⟨h3,n⟩⟩):=dr rfl rfl (by kernel_rfl)
@[simp] theorem an6:rP AJ I2 [(6,x6),(7,x7),(8,x8)]:=nP
@[simp] theorem asK:(Dn prog).code Fe ⟨[(0,x0),(1,x1)],⟨h,n⟩⟩=eJ (bA (fy ((dL (cN x0++[]) h)) none (share x0)) λa1=>bA (fy h none x1) λa2=>bP (dD (Dn prog) (firm a2) [] ⟨h,n⟩) λa3 s4=>dE (dt (((cN x0++[])++[])) h s4.heap) <|bA (fT .or (firm a1) (firm a3)) λa5=>bA (storeAt s4.heap 1 (share x0) (.d a5)) λh6=>some ⟨[(0,x0)],⟨h6,s4.next⟩⟩):=dr rfl rfl (by kernel_rfl)
@[simp] theorem asY:rP yN Qx [(10,x10)]:=nP
@[simp] theorem atc:rP yM Qn [(6,x6),(10,x10)]:=nP
@[simp] theorem amW:rP xz Ij [(0,x0),(1,.d y1),(4,x4)]:=nP
@[simp] theorem afb:rP lB AO [(1,.d y1),(2,.d y2),(6,x6),(9,x9)]:=nP
@[simp] theorem Za:rP lg tN [(0,x0),(1,.d y1),(2,.d y2),(7,x7),(11,x11),(12,.d y12),(13,.d y13),(14,.d y14),(15,x15),(16,x16),(17,x17),(18,.d y18),(19,x19),(22,.d y22)]:=nP
@[simp] theorem ahX:rP tG DL [(0,x0),(2,.d y2)]:=nP
@[simp] theorem amX:rP yu Ig [(0,x0),(2,x2),(3,x3),(5,.d y5),(6,.d y6),(8,.d y8),(10,x10),(11,.d y11),(12,.d y12),(13,.d y13),(14,x14),(15,.d y15),(16,.d y16),(21,x21),(22,.d y22),(23,.d y23)]:=nP
@[simp] theorem ai4:rP uY EO [(0,x0),(1,.d y1)]:=nP
@[simp] theorem adI:rP pJ zn [(0,x0),(3,.d y3)]:=nP
@[simp] theorem au0:rP Hm S4 [(0,.d y0),(2,x2),(4,x4)]:=nP
@[simp] theorem Mp:(Dn prog).code BT ⟨[(2,x2),(4,x4),(6,x6)],⟨h,n⟩⟩=eJ (bP (loadAt h (some 4) 1 (share x4)) λa1 h2=>bA (fh (Dn prog) gQ [firm a1] h2) λa3=>lA (put h2 n (.cells [O8,O8,O8,O8,O8,O8,O8,O8,O8,O8,O8,O8,O8,O8,O8,O8,O8,O8,O8,O8,O8,O8,O8,O8,O8,O8,O8,O8,O8,O8,O8,O8,O8,O8,O8,O8,O8,O8,O8,O8,O8,O8,O8,O8,O8,O8,O8,O8,O8,O8,O8,O8,O8,O8,O8,O8,O8,O8,O8,O8,O8,O8,O8,O8,O8,O8,O8,O8,O8,O8,O8,O8,O8,O8,O8,O8,O8,O8,O8,O8,O8,O8,O8,O8,O8,O8,O8,O8,O8,O8,O8,O8,O8,O8,O8,O8,O8,O8,O8,O8,O8,O8,O8,O8,O8,O8,O8,O8,O8,O8,O8,O8,O8,O8,O8,O8,O8,O8,O8,O8,O8,O8,O8,O8,O8,O8,O8,O8,O8,O8,O8,O8,O8,O8,O8,O8,O8,O8,O8,O8,O8,O8,O8,O8,O8,O8,O8,O8,O8,O8,O8,O8,O8,O8,O8,O8,O8,O8,O8,O8,O8,O8,O8,O8,O8,O8,O8,O8,O8,O8,O8,O8,O8,O8,O8,O8,O8,O8,O8,O8,O8,O8,O8,O8,O8,O8,O8,O8,O8,O8,O8,O8,O8,O8,O8,O8,O8,O8,O8,O8,O8,O8,O8,O8,O8,O8,O8,O8,O8,O8,O8,O8,O8,O8,O8,O8,O8,O8,O8,O8,O8,O8,O8,O8,O8,O8,O8,O8,O8,O8,O8,O8,O8,O8,O8,O8,O8,O8,O8,O8,O8,O8,O8,O8,O8,O8,O8,O8,O8,O8,O8,O8,O8,O8,O8,O8,O8,O8,O8,O8,O8,O8,O8,O8,O8,O8,O8,O8,O8,O8,O8,O8,O8,O8,O8,O8,O8,O8,O8,O8,O8,O8,O8,O8,O8,O8,O8,O8,O8])) λh4=>bA (storeAt h4 289 (.ptr n 0) (firm a3)) λh5=>some ⟨[(2,x2),(4,x4),(6,x6),(7,.ptr n 0)],⟨h5,n+1⟩⟩):=GU (by kernel_rfl)
@[simp] theorem ad4:rP pQ Aq [(9,x9)]:=nP
@[simp] theorem adM:rP oV Ao [(9,x9)]:=nP
@[simp] theorem adP:rP pp zH [(9,x9),(13,x13)]:=nP
@[simp] theorem JO:(Dn prog).code xx ⟨[(1,x1),(3,x3)],⟨h,n⟩⟩=eJ (bP (loadAt h (some 4) 1 (share x3)) λa1 h2=>bA (fh (Dn prog) gQ [firm a1] h2) λa3=>lA (put h2 n (.cells [O8,O8,O8,O8,O8,O8,O8,O8,O8,O8,O8,O8,O8,O8,O8,O8,O8,O8,O8,O8,O8,O8,O8,O8,O8,O8,O8,O8,O8,O8,O8,O8,O8,O8,O8,O8,O8,O8,O8,O8,O8,O8,O8,O8,O8,O8,O8,O8,O8,O8,O8,O8,O8,O8,O8,O8,O8,O8,O8,O8,O8,O8,O8,O8,O8,O8,O8,O8,O8,O8,O8,O8,O8,O8,O8,O8,O8,O8,O8,O8,O8,O8,O8,O8,O8,O8,O8,O8,O8,O8,O8,O8,O8,O8,O8,O8,O8,O8,O8,O8,O8,O8,O8,O8,O8,O8,O8,O8,O8,O8,O8,O8,O8,O8,O8,O8,O8,O8,O8,O8,O8,O8,O8,O8,O8,O8,O8,O8,O8,O8,O8,O8,O8,O8,O8,O8,O8,O8,O8,O8,O8,O8,O8,O8,O8,O8,O8,O8,O8,O8,O8,O8,O8,O8,O8,O8,O8,O8,O8,O8,O8,O8,O8,O8,O8,O8,O8,O8,O8,O8,O8,O8,O8,O8,O8,O8,O8,O8,O8,O8,O8,O8,O8,O8,O8,O8,O8,O8,O8,O8,O8,O8,O8,O8,O8,O8,O8,O8,O8,O8,O8,O8,O8,O8,O8,O8,O8,O8,O8,O8,O8,O8,O8,O8,O8,O8,O8,O8,O8,O8,O8,O8,O8,O8,O8,O8,O8,O8,O8,O8,O8,O8,O8,O8,O8,O8,O8,O8,O8,O8,O8,O8,O8,O8,O8,O8,O8,O8,O8,O8,O8,O8,O8,O8,O8,O8,O8,O8,O8,O8,O8,O8,O8,O8,O8,O8,O8,O8,O8,O8,O8,O8,O8,O8,O8,O8,O8,O8,O8,O8,O8,O8,O8,O8,O8,O8,O8,O8,O8])) λh4=>bA (storeAt h4 289 (.ptr n 0) (firm a3)) λh5=>some ⟨[(1,x1),(3,x3),(5,.ptr n 0)],⟨h5,n+1⟩⟩):=GU (by kernel_rfl)
@[simp] theorem aiN:rP tI DV [(1,.d y1),(2,x2),(5,x5),(6,.d y6)]:=nP
@[simp] theorem Cy:(Dn prog).code og ⟨[(0,x0)],⟨h,n⟩⟩=eJ (dE ((AV.cells x0).all bB) <|lA (put h n (.cells (AV.cells x0))) λh1=>lA (put h1 (n+1) (.cells [O8,O8,O8,O8,O8,O8,O8,O8,O8,O8,O8,O8,O8,O8,O8,O8,O8,O8,O8,O8,O8,O8,O8,O8,O8,O8,O8,O8,O8,O8,O8,O8,O8,O8,O8,O8,O8,O8,O8,O8,O8,O8,O8,O8,O8,O8,O8,O8,O8,O8,O8,O8,O8,O8,O8,O8,O8,O8,O8,O8,O8,O8,O8,O8,O8,O8,O8,O8,O8,O8,O8,O8,O8,O8,O8,O8,O8,O8,O8,O8,O8,O8,O8,O8,O8,O8,O8,O8,O8,O8,O8,O8,O8,O8,O8,O8,O8,O8,O8,O8,O8,O8,O8,O8,O8,O8,O8,O8,O8,O8,O8,O8,O8,O8,O8,O8,O8,O8,O8,O8,O8,O8,O8,O8,O8,O8,O8,O8,O8,O8,O8,O8,O8,O8,O8,O8,O8,O8,O8,O8,O8,O8,O8,O8,O8,O8,O8,O8,O8,O8,O8,O8,O8,O8,O8,O8,O8,O8,O8,O8,O8,O8,O8,O8,O8,O8,O8,O8,O8,O8,O8,O8,O8,O8,O8,O8,O8,O8,O8,O8,O8,O8,O8,O8,O8,O8,O8,O8,O8,O8,O8,O8,O8,O8,O8,O8,O8,O8,O8,O8,O8,O8,O8,O8,O8,O8,O8,O8,O8,O8,O8,O8,O8,O8,O8,O8,O8,O8,O8,O8,O8,O8,O8,O8,O8,O8,O8,O8,O8,O8,O8,O8,O8,O8,O8,O8,O8,O8,O8,O8,O8,O8,O8,O8,O8,O8,O8,O8,O8,O8,O8,O8,O8,O8,O8,O8,O8,O8,O8,O8,O8,O8,O8,O8,O8,O8,O8,O8,O8,O8,O8,O8,O8,O8,O8,O8,O8,O8,O8,O8,O8,O8,O8,O8,O8,O8,O8,O8,O8])) λh2=>some ⟨[(1,.ptr n 0),(2,.ptr (n+1) 0)],⟨h2,n+1+1⟩⟩):=GU (by kernel_rfl)
@[simp] theorem Xo:rP kD sJ [(0,x0),(1,.d y1)]:=nP
@[simp] theorem abL:rP nC xb [(6,x6),(12,x12),(13,.d y13)]:=nP
@[simp] theorem ah8:rP ud Du [(0,.d y0),(1,.d y1),(5,.d y5),(6,x6),(7,.d y7)]:=nP
@[simp] theorem RB:rP ir mV [(0,x0),(1,.d y1),(2,.d y2),(3,x3),(8,.d y8),(9,.d y9)]:=nP
@[simp] theorem RA:rP iw na [(0,x0),(1,.d y1),(2,.d y2),(3,x3),(8,.d y8),(9,.d y9)]:=nP
@[simp] theorem Xd:rP kg rO [(0,x0),(1,.d y1),(4,x4),(10,.d y10),(11,.d y11),(12,.d y12)]:=nP
@[simp] theorem Vw:rP jK qk [(0,x0),(10,.d y10),(13,.d y13)]:=nP
@[simp] theorem VP:rP jJ qx [(0,x0),(2,.d y2),(4,x4),(14,.d y14),(15,.d y15),(16,.d y16)]:=nP
@[simp] theorem Vo:rP jE qo [(0,x0),(14,.d y14),(17,.d y17)]:=nP
@[simp] theorem Vh:rP jI qA [(0,x0),(1,.d y1),(2,.d y2),(3,.d y3),(4,x4),(18,.d y18),(19,.d y19),(20,.d y20),(21,.d y21),(22,.d y22),(23,.d y23)]:=nP
@[simp] theorem VG:rP jG qm [(0,x0),(1,.d y1),(2,.d y2),(3,.d y3),(10,.d y10)]:=nP
theorem dX:prog xW=some pX:=rfl
theorem OH:prog yY=some OR:=rfl
theorem oz:prog kx=some oD:=rfl
theorem Qb:prog vK=some vQ:=rfl
theorem agL:prog J4=some JI:=rfl
theorem acH:prog Qr=some Ht:=rfl
theorem Ws:prog l8=some Cq:=rfl
theorem WJ:prog jL=some Cn:=rfl
theorem NM:prog Ej=some OL:=rfl
theorem G9:prog uE=some Tt:=rfl
theorem lU:prog w8=some wJ:=rfl
theorem zx:prog qO=some qI:=rfl
theorem IF:prog ka=some oe:=rfl
theorem AP:prog sj=some su:=rfl
theorem wg:prog dk=some nt:=rfl
theorem mF:prog bL=some mM:=rfl
theorem Bz:prog jo=some sm:=rfl
theorem jk:prog eg=some wI:=rfl
theorem P9:prog DD=some vA:=rfl
theorem aia:prog VL=some LX:=rfl
theorem akF:prog Ei=some N5:=rfl
theorem ahW:prog VE=some Ls:=rfl
theorem afn:prog yk=some Ji:=rfl
theorem agU:prog yw=some JZ:=rfl
theorem ah4:prog LM=some LV:=rfl
theorem aie:prog AQ=some LQ:=rfl
theorem VQ:prog oM=some Ln:=rfl
theorem ahQ:prog Lz=some Li:=rfl
theorem aiu:prog A7=some L5:=rfl
theorem aln:prog Y1=some Pe:=rfl
theorem aiL:prog Bs=some LT:=rfl
theorem aiq:prog U5=some Lu:=rfl
theorem ahT:prog A8=some L7:=rfl
theorem aiK:prog Bu=some LH:=rfl
theorem U6:prog oK=some LE:=rfl
theorem adw:prog Qg=some Hk:=rfl
theorem aam:prog Ng=some FY:=rfl
theorem ahP:prog Bd=some LO:=rfl
theorem afv:prog SO=some JW:=rfl
theorem akM:prog yS=some PF:=rfl
theorem XO:prog xn=some D1:=rfl
theorem aaw:prog MG=some FE:=rfl
theorem Ed:prog vu=some u5:=rfl
theorem D6:prog DA=some vt:=rfl
theorem Rs:prog eU=some wZ:=rfl
theorem Rr:prog qg=some wU:=rfl
theorem Rx:prog jl=some wR:=rfl
theorem DE:prog fZ=some u6:=rfl
theorem Pl:prog vg=some vF:=rfl
theorem PZ:prog vj=some vR:=rfl
theorem MP:prog ue=some t9:=rfl
theorem Iu:prog oC=some ov:=rfl
theorem PR:prog DN=some vN:=rfl
theorem Pq:prog Dk=some uT:=rfl
theorem FC:prog ug=some l9:=rfl
theorem Ir:prog xj=some oI:=rfl
theorem Ko:prog zk=some qE:=rfl
theorem acP:prog BR=some HE:=rfl
theorem aey:prog Tn=some JL:=rfl
theorem aa7:prog FU=some FI:=rfl
theorem aaU:prog Nm=some Fg:=rfl
theorem Rb:prog EU=some wX:=rfl
theorem aeO:prog Sg=some J1:=rfl
theorem afY:prog S3=some Jt:=rfl
theorem ah1:prog VT=some Lj:=rfl
theorem adr:prog HN=some HQ:=rfl
theorem aag:prog Nr=some Fr:=rfl
theorem R3:prog xJ=some yj:=rfl
theorem Yt:prog Dv=some D7:=rfl
theorem ZA:prog KR=some Eh:=rfl
theorem aae:prog E4=some Ga:=rfl
theorem adj:prog HJ=some H4:=rfl
theorem ahx:prog VF=some LD:=rfl
theorem aaE:prog mg=some Ff:=rfl
theorem ao8:prog RN=some SL:=rfl
theorem aik:prog Lw=some Ma:=rfl
theorem ade:prog H1=some Hw:=rfl
theorem UN:prog Az=some AH:=rfl
theorem M3:prog CJ=some tH:=rfl
theorem alk:prog II=some OT:=rfl
theorem DB:prog rJ=some kl:=rfl
theorem WQ:prog Co=some Cj:=rfl
theorem Pb:prog Eu=some uS:=rfl
theorem Ra:prog EJ=some wV:=rfl
theorem Po:prog Dq=some uP:=rfl
theorem Nx:prog C4=some tU:=rfl
theorem Rl:prog ED=some wW:=rfl
theorem OK:prog uX=some vD:=rfl
theorem OU:prog Do=some vV:=rfl
theorem Rw:prog EN=some wH:=rfl
theorem MM:prog CO=some tL:=rfl
theorem NQ:prog u4=some vH:=rfl
theorem LY:prog AM=some si:=rfl
theorem P4:prog En=some vU:=rfl
theorem Ro:prog EV=some wT:=rfl
theorem ZO:prog ni=some Dt:=rfl
theorem HL:prog wu=some nk:=rfl
theorem XG:prog Df=some DQ:=rfl
theorem age:prog Jb=some JT:=rfl
theorem Tq:prog Hb=some yd:=rfl
theorem U0:prog gQ=some AK:=rfl
theorem FW:prog t4=some me:=rfl
theorem aeq:prog Jr=some Jq:=rfl
theorem Rf:prog EG=some wQ:=rfl
theorem uC:prog uI=some mH:=rfl
theorem PS:prog Dz=some uV:=rfl
theorem Rh:prog EI=some wO:=rfl
theorem Kc:prog Aw=some qJ:=rfl
theorem L8:prog AL=some r5:=rfl
theorem Hh:prog uo=some mB:=rfl
theorem sv:prog sF=some sk:=rfl
theorem NB:prog Ex=some vq:=rfl
theorem Sn:prog GR=some xO:=rfl
theorem Rn:prog w5=some wL:=rfl
theorem Nf:prog CX=some tP:=rfl
theorem Sj:prog GT=some xK:=rfl
theorem Kf:prog zK=some qG:=rfl
theorem Ak:prog zp=some qM:=rfl
theorem Wb:prog vS=some Ca:=rfl
theorem HM:prog wn=some nB:=rfl
theorem US:prog H9=some AB:=rfl
theorem L4:prog sr=some sn:=rfl
theorem Bj:prog oL=some js:=rfl
theorem eE:prog cP=some lW:=rfl
theorem HP:prog v6=some nv:=rfl
theorem EA:prog sT=some lc:=rfl
end
abbrev cR:=@Nat.pow_succ
abbrev f9:=@Nat.add_comm
abbrev aA:=@Nat.pow_le_pow_right
abbrev cS:=@Nat.add_zero
abbrev i64 (n:Int):Prop:=-9223372036854775808<=n∧n<=9223372036854775807
def ak1 (n:Int):bn prog Tn [A_ n]=if 0<=n∧n<=31 then some (B_ true) else some (B_ false):=by
 rw[aL aey agM rfl];simp
def val:C_->Nat->Nat
 |[],n=>n
 |x::r,n=>val r (2*n+x)
abbrev bin (l:C_):Prop:=∀x∈l,x<=1
def Sb:∀{l:C_}{n i:Nat},bin l->n<2 ^ i->val l n<2 ^ (i+l.length)
 |[],n,i,h,hn=>by simpa [val] using hn
 |x::r,n,i,h,hn=>by
  have h1:2 ^ (i+1)=2*2 ^ i:=by rw[cR];omega
  have h2:=h x s_;have:=Sb (l:=r) (n:=2*n+x) (i:=i+1) (λy hy=>h y (by simp[hy])) o_;simpa [val,cm,f9 1] using this
def aE (b:C_)(a s:Int):R Nat :=
 if (0<=s∧s<=31)∧0<=a∧a<=b.length then
  if b.length-a<s then .er 4
  else if bin ((b.drop a.toNat).take s.toNat) then .ok (val ((b.drop a.toNat).take s.toNat) 0) (a.toNat+s.toNat)
  else .er 7
 else .er 1
abbrev pG (b:C_)(s:Int)(v n:Nat):Prop:=v<2 ^ s.toNat∧n<=b.length
def ajN {γ:Type}{b:C_}{a s:Int}{f:Nat->Nat->γ}{g:Nat->γ}:rK (pG b s) (aE b a s) f g =
  if (0<=s∧s<=31)∧0<=a∧a<=b.length then
   if b.length-a<s then g 4
   else if bin ((b.drop a.toNat).take s.toNat) then f (val ((b.drop a.toNat).take s.toNat) 0) (a.toNat+s.toNat) else g 7
  else g 1:=by
 unfold aE;by_cases h1:(0<=s∧s<=31)∧0<=a∧a<=b.length
 .rw[ac h1,ac h1];by_cases h2:b.length-a<s
  .rw[ac h2,ac h2,ee]
  .rw[aa h2,aa h2];by_cases h3:bin ((b.drop a.toNat).take s.toNat)
   .rw[ac h3,ac h3,b9];have:=Sb (n:=0) (i:=0) h3 o_;have hl:((b.drop a.toNat).take s.toNat).length=s.toNat:=by simp;omega
    rw[hl]at this;exact⟨by simpa using this,o_⟩
   .rw[aa h3,aa h3,ee]
 .rw[aa h1,aa h1,ee]
def ain (b:C_)(a sz:Nat)(hl:b.length<=1000000000)(hb:a+sz<=b.length)(hs:sz<=31)(h:ak)(m:Nat):∀(k i n:Nat) (I N:Int),I=i->N=n->i+k=sz->n<2 ^ i->
  (Dn prog).code (.loop BJ) ⟨[(0,.d (.lst (ax b))),(1,A_ a),(2,A_ sz),(6,A_ N),(31,A_ sz),(32,A_ I)],⟨h,m⟩⟩ =
   if bin ((b.drop (a+i)).take k) then some (.exit 1,⟨[(1,A_ a),(2,A_ sz),(6,A_ ((val ((b.drop (a+i)).take k) n:Nat)))],⟨h,m⟩⟩)
   else some (.ret,⟨[(6,A_ 0),(7,A_ 0),(8,A_ 8)],⟨h,m⟩⟩):=by
 intro k
 induction k with
 |zero =>
  intro i n I N hI hN hi hn;subst hI hN;rw[ah QN];have:¬(i<sz):=o_;simp(disch:=omega)[this,val,bin]
 |succ k ih =>
  intro i n I N hI hN hi hn;subst hI hN;rw[ah QN,nw o_,List.take_succ_cons];have:i<sz:=o_;have h2:2 ^ i<=2 ^ 30:=aA o_ o_;have h3:2 ^ (i+1)=2*2 ^ i:=by rw[cR];omega
  simp(disch:=omega)[this,val,bin];by_cases hx:nth b (a+i)<=1
  .rw[aa o_,ih (i+1) (2*n+nth b (a+i)) _ _ o_ o_ o_ o_];simp[hx,bin,cm]
  .rw[ac o_];simp[hx]
def io (b:C_)(a s:Int)(hb:b.length<=1000000000)(ha:i64 a):bn prog Ei [.d (.lst (ax b)),A_ a,A_ s]=rK (pG b s) (aE b a s) (λv n=>some (.tup [A_ v,A_ n,A_ 0])) λe=>some (.tup [A_ 0,A_ 0,A_ (e+1)]):=by
 rw[aL akF alJ rfl,ajN];simp(disch:=omega)[ak1];by_cases h1:(0<=s∧s<=31)∧0<=a∧a<=b.length
 .obtain⟨⟨s0,s1⟩,a0,a1⟩:=h1;obtain⟨S,rfl⟩:=ay s0;obtain⟨A,rfl⟩:=ay a0;by_cases h2:(b.length:Int)-A<S
  .simp[h2]
  .have:=ain b A S hb o_ o_ [] 0 S 0 0 0 0 rfl rfl o_ o_;rw[cS]at this;simp(disch:=omega)[this]
 .simp[h1]
def alu (b:C_)(a sz:Nat)(hl:b.length<=1000000000)(hb:a+sz<=b.length)(hs:sz<=31)(h:ak)(m:Nat):∀(k i n:Nat) (I N:Int),I=a+i->N=n->i+k=sz->n<2 ^ i->
  (Dn prog).code (.loop mA) ⟨[(0,.d (.lst (ax b))),(1,A_ a),(2,A_ sz),(9,A_ N),(10,A_ I)],⟨h,m⟩⟩ =
   if bin ((b.drop (a+i)).take k) then some (.exit 0,⟨[(1,A_ a),(2,A_ sz),(9,A_ ((val ((b.drop (a+i)).take k) n:Nat)))],⟨h,m⟩⟩)
   else some (.ret,⟨[(6,A_ 0),(7,A_ 0),(8,A_ 8)],⟨h,m⟩⟩):=by
 intro k
 induction k with
 |zero =>
  intro i n I N hI hN hi hn;subst hI hN;rw[ah AN];have:¬(i<sz):=o_;simp(disch:=omega)[this,val,bin]
 |succ k ih =>
  intro i n I N hI hN hi hn;subst hI hN;rw[ah AN,nw o_,List.take_succ_cons];have:i<sz:=o_;have h2:2 ^ i<=2 ^ 30:=aA o_ o_;have h3:2 ^ (i+1)=2*2 ^ i:=by rw[cR];omega
  simp(disch:=omega)[this,val,bin];by_cases hx:nth b (a+i)<=1
  .rw[ac o_,ih (i+1) (2*n+nth b (a+i)) _ _ o_ o_ o_ o_];simp[hx,bin,cm]
  .rw[aa o_];simp[hx]
def jg (b:C_)(a s:Int)(hb:b.length<=1000000000)(ha:i64 a):bn prog eU [.d (.lst (ax b)),A_ a,A_ s]=rK (pG b s) (aE b a s) (λv n=>some (.tup [A_ v,A_ n,A_ 0])) λe=>some (.tup [A_ 0,A_ 0,A_ (e+1)]):=by
 rw[aL Rs Q3 rfl,ajN];simp(disch:=omega);by_cases h1:(0<=s∧s<=31)∧0<=a∧a<=b.length
 .obtain⟨⟨s0,s1⟩,a0,a1⟩:=h1;obtain⟨S,rfl⟩:=ay s0;obtain⟨A,rfl⟩:=ay a0;by_cases h2:(b.length:Int)-A<S
  .simp(disch:=omega) only[ac,aa]
  .have:=alu b A S hb o_ o_ [] 0 S 0 0 A 0 o_ rfl o_ o_;rw[cS]at this;simp(disch:=omega)[this,ac,aa]
 .simp(disch:=omega) only[ac,aa]
abbrev vz:=@List.mem_flatMap
def akP (k lines by_:Nat):Nat->Nat->C_
 |0,at_=>[at_]
 |f+1,at_=>at_::if at_<lines then akP k lines by_ f (min lines (at_+4+4*(at_*k / by_))) else []
def offs (rate:Nat)(short:Bool):C_:=cond short (akP (3+(11-rate) / 2) 32 64 99 0) (akP (3+(11-rate) / 2) 256 256 99 0)
def D5:List (Nat×Bool):=(List.range 12).flatMap λr=>[(r,false),(r,true)]
def iZ {r:Nat}{s:Bool}(h:r<12):(r,s)∈D5:=by
 simp only[D5,vz,fC];exact⟨r,h,by cases s<;>simp⟩
def ac8:∀x∈D5,bn prog FU [A_ x.1,B_ x.2]=some (.tup [.own true 1 (aS (offs x.1 x.2)),A_ 0]):=nD 100 D5 (by kernel_rfl)
def abb:∀x∈D5,bn prog As [A_ x.1,B_ x.2]=some (.own true 1 (aS (offs x.1 x.2))):=nD 100 D5 (by kernel_rfl)
def IE:∀x∈D5,1<=(offs x.1 x.2).length∧(offs x.1 x.2).length<=64:=g_
def nY (rate:Nat)(short:Bool):Nat:=(offs rate short).length-1
def WB {r:Nat}{s:Bool}(h:r<12):nY r s<=63:=by
 have:=IE _ (iZ (s:=s) h);simp only[nY]at *;omega
abbrev eC (r:Int):Prop:=0<=r∧r<=11
def JM (r:Int)(s:Bool):bn prog FU [A_ r,B_ s]=if eC r then some (.tup [.own true 1 (aS (offs r.toNat s)),A_ 0]) else some (.tup [.nl,A_ 2]):=by
 by_cases h:eC r
 .obtain⟨R,rfl⟩:=ay h.1;rw[ac h,ac8 (R,s) (iZ o_)];rfl
 .rw[aa h,aL aa7 aah rfl];simp(disch:=omega)[ac,ave]
def QM (r:Int)(s:Bool)(h:eC r):bn prog As [A_ r,B_ s]=some (.own true 1 (aS (offs r.toNat s))):=by
 obtain⟨R,rfl⟩:=ay h.1;exact abb (R,s) (iZ o_)
def kX (r:Int)(s:Bool):bn prog VE [A_ r,B_ s]=if eC r then some (.tup [A_ (nY r.toNat s),A_ 0]) else some (.tup [A_ 0,A_ 2]):=by
 rw[aL ahW ah7 rfl];by_cases h:eC r
 .have h2:=IE _ (iZ (r:=r.toNat) (s:=s) o_);simp(disch:=omega) only at h2;simp(disch:=omega)[JM,ac h,nY];split<;>simp<;>omega
 .simp(disch:=omega)[JM,aa h]
def XY (r:Int)(s:Bool):bn prog Dz [A_ r,B_ s]=if eC r then some (.tup [.own true 1 (aS (offs r.toNat s)),A_ 0]) else some (.tup [.nl,A_ 2]):=by
 rw[aL PS NL rfl];by_cases h:eC r
 .simp(disch:=omega)[QM,ac h,aa]
 .simp(disch:=omega)[aa h,ac]
  trace_state
def ZB (r:Int)(s:Bool):bn prog Eu [A_ r,B_ s]=if eC r then some (.tup [A_ (nY r.toNat s),A_ 0]) else some (.tup [A_ 0,A_ 2]):=by
 rw[aL Pb OI rfl];by_cases h:eC r
 .have h2:=IE _ (iZ (r:=r.toNat) (s:=s) o_);simp(disch:=omega) only at h2;simp(disch:=omega)[XY,ac h,nY];omega
 .simp(disch:=omega)[XY,aa h]
abbrev cY:=@List.drop_eq_nil_of_le
abbrev mJ:=@or_false
structure aG where
 seq:Nat
 shape:Nat
 max:Int
 groups:E_
@[simp] def aG.cells (i:aG):D_:=[.d (.int .u8 i.seq),.d (.int .u8 i.shape),A_ i.max,.d (.lst (am i.groups))]
structure aG.Fit (i:aG):Prop where
 seq:i.seq<=255
 shape:i.shape<=255
 max:i64 i.max
 len:i.groups.length<=1000
 groups:∀n∈i.groups,i64 n
def Y2 (a b:E_)(hl:a.length<=1000000)(he:a.length=b.length)(h:ak)(m:Nat):∀(k i:Nat) (I:Int),I=i->i+k=a.length->
  (Dn prog).code (.loop mr) ⟨[(0,.d (.lst (am a))),(1,.d (.lst (am b))),(12,A_ a.length),(13,A_ I)],⟨h,m⟩⟩=if a.drop i=b.drop i then some (.exit 0,⟨[],⟨h,m⟩⟩) else some (.ret,⟨[(4,B_ false)],⟨h,m⟩⟩):=by
 intro k
 induction k with
 |zero =>
  intro i I hI hi;subst hI;rw[ah AT,cY o_,cY o_];simp(disch:=omega)[aa]
 |succ k ih =>
  intro i I hI hi;subst hI;rw[ah AT,nw (l:=a) o_,nw (l:=b) o_];simp(disch:=omega)[ac];rw[ih (i+1) _ o_ o_];by_cases hx:nth a i=nth b i<;>simp[hx]
def afQ (a b:E_)(hl:a.length<=1000000)(hb:b.length<=1000000):bn prog EV [.d (.lst (am a)),.d (.lst (am b))]=if a=b then some (B_ true) else some (B_ false):=by
 rw[aL Ro Rj rfl];by_cases he:a.length=b.length
 .have:=Y2 a b hl he [] 0 a.length 0 0 rfl o_;simp(disch:=omega)[this,ac]
 .have:a≠b:=λh=>he (by rw[h])
  simp(disch:=omega)[this,aa]
def aG.grouped (i:aG):Prop:=if i.seq=2 then (∀n∈i.groups,1<=n∧n<=8)∧i.groups.sum=8∧(i.groups.length:Int)<=8 else i.groups=[1]
instance {i:aG}:Decidable i.grouped:=by unfold aG.grouped;infer_instance
def amu (i:aG)(hi:i.groups.length<=1000)(m:Nat):∀(k j:Nat) (J S:Int),J=j->j+k=i.groups.length->0<=S∧S<=8*j->
  (Dn prog).code (.loop te) ⟨[(1,.ptr 0 0),(3,A_ S),(14,.d (.lst (am i.groups))),(15,A_ i.groups.length),(16,A_ J)],⟨[(0,.cells i.cells)],m⟩⟩ =
   if ∀n∈i.groups.drop j,1<=n∧n<=8 then some (.exit 0,⟨[(1,.ptr 0 0),(3,A_ (S+(i.groups.drop j).sum))],⟨[(0,.cells i.cells)],m⟩⟩) else some (.ret,⟨[(2,B_ false)],⟨[(0,.cells i.cells)],m⟩⟩):=by
 simp only[aG.cells];intro k
 induction k with
 |zero =>
  intro j J S hJ hj hS;subst hJ;rw[ah Ia,cY o_];simp(disch:=omega)[aa]
 |succ k ih =>
  intro j J S hJ hj hS;subst hJ;rw[ah Ia,nw o_];simp(disch:=omega)[ac];by_cases hx:1<=nth i.groups j∧nth i.groups j<=8
  .rw[aa o_,ih (j+1) _ _ o_ o_ o_];simp[hx,Int.add_assoc]
  .rw[ac o_,aa (λh=>hx ⟨h.1.1,h.1.2⟩)]
def agy (i:aG)(hi:i.Fit):bn prog Nm [.agg i.cells]=if i.grouped then some (B_ true) else some (B_ false):=by
 have hl:=hi.len;rw[aL aaU aaz rfl];unfold aG.grouped;by_cases hs:i.seq=2
 .have:=amu i hi.len 1 i.groups.length 0 0 0 rfl o_ o_;simp only[aG.cells]at this;simp(disch:=omega)[ac,aa,this]
 .have:=afQ i.groups [1] o_ s_;have h1:am [1]=[[.int .i64 1]]:=rfl;rw[h1]at this;simp(disch:=omega)[this,aa,ac]
def aG.may (r:Nat)(i:aG):Prop:=i.seq<=3∧i.shape<=1∧0<=i.max∧i.max<=nY r (decide (i.seq=2))∧i.grouped
instance {r:Nat}{i:aG}:Decidable (i.may r):=by unfold aG.may;infer_instance
def IA (r:Int)(i:aG)(hi:i.Fit):bn prog yw [A_ r,.agg i.cells]=if eC r then if i.may r.toNat then some (A_ 0) else some (A_ 8) else some (A_ 2):=by
 have hg:=agy i hi;simp only[aG.cells]at hg;rw[aL agU ae7 rfl];by_cases hr:eC r
 .by_cases hs:i.seq=2
  .simp(config := { maxSteps:=9^7 }) (disch:=omega)[kX,ac,aa,hg];refine adH ?_;by_cases h:i.grouped<;>simp[aG.may,h,hs];omega
  .simp(config := { maxSteps:=9^7 }) (disch:=omega)[kX,ac,aa,hg];refine adH ?_;by_cases h:i.grouped<;>simp[aG.may,h,hs];omega
 .by_cases hs:i.seq=2
  .simp(config := { maxSteps:=9^7 }) (disch:=omega)[kX,ac,aa]
  .simp(config := { maxSteps:=9^7 }) (disch:=omega)[kX,ac,aa]
def aoE (i:aG)(hi:i.Fit):bn prog VF [.agg i.cells]=if i.may 11 then some (B_ true) else some (B_ false):=by
 have hg:=IA 11 i hi;simp only[aG.cells]at hg;rw[aL ahx aiA rfl];simp(config := { maxSteps:=9^7 }) (disch:=omega)[hg,ac]
def aG.many (i:aG):Nat:=if i.seq=2 then 8 else 1
def I7 (i:aG)(hi:i.Fit):bn prog Ng [.agg i.cells]=if i.may 11 then some (.tup [A_ i.many,A_ 0]) else some (.tup [A_ 0,A_ 8]):=by
 have hg:=aoE i hi;simp only[aG.cells]at hg;rw[aL aam aao rfl];by_cases hs:i.seq=2
 .simp(config := { maxSteps:=9^7 }) (disch:=omega)[hg,ac,aG.many]
 .simp(config := { maxSteps:=9^7 }) (disch:=omega)[hg,aa,aG.many]
def kU:∀{l:E_},(∀n∈l,1<=n)->(l.length:Int)<=l.sum
 |[],_=>by simp
 |x::r,h=>by
  have:=kU (l:=r) (λn hn=>h n (by simp[hn]));have:=h x s_;simp;omega
def ae4:∀{l:E_},(∀n∈l,1<=n)->∀n∈l,n<=l.sum
 |x::r,h,n,hn=>by
  have h1:=kU (l:=r) (λn hn=>h n (by simp[hn]));have h2:=h x s_;rcases aD.1 hn with e|e
  .subst e;simp;omega
  .have:=ae4 (l:=r) (λn hn=>h n (by simp[hn])) n e;simp;omega
def am5 {i:aG}(hs:i.seq=2):i.grouped↔(∀n∈i.groups,1<=n)∧i.groups.sum=8:=by
 rw[aG.grouped,ac hs];constructor
 .rintro ⟨a,b,c⟩;exact⟨λn hn=>(a n hn).1,b⟩
 .rintro ⟨a,b⟩
  have:=kU a;exact⟨λn hn=>⟨a n hn,by have:=ae4 a n hn;omega⟩,b,o_⟩
def axk (i:aG)(hi:i.groups.length<=1000)(m:Nat):∀(k j:Nat) (J S:Int),J=j->j+k=i.groups.length->0<=S∧S<=8->
  (Dn prog).code (.loop ml) ⟨[(3,.ptr 0 0),(7,A_ S),(8,A_ J)],⟨[(0,.cells i.cells)],m⟩⟩ =
   if (∀n∈i.groups.drop j,1<=n)∧(i.groups.drop j).sum<=S then some (.exit 0,⟨[(7,A_ (S-(i.groups.drop j).sum))],⟨[(0,.cells i.cells)],m⟩⟩) else some (.ret,⟨[(4,B_ false)],⟨[(0,.cells i.cells)],m⟩⟩):=by
 simp only[aG.cells];intro k
 induction k with
 |zero =>
  intro j J S hJ hj hS;subst hJ;rw[ah AW,cY o_];simp(disch:=omega)[aa,ac]
 |succ k ih =>
  intro j J S hJ hj hS;subst hJ;rw[ah AW,nw o_];simp(disch:=omega)[ac];by_cases hx:1<=nth i.groups j∧nth i.groups j<=S
  .rw[aa o_,ih (j+1) _ _ o_ o_ o_];have h3:S-nth i.groups j-(i.groups.drop (j+1)).sum=S-(nth i.groups j+(i.groups.drop (j+1)).sum):=o_;rw[h3];refine as4 ?_;have:(i.groups.drop (j+1)).sum<=S-nth i.groups j↔nth i.groups j+(i.groups.drop (j+1)).sum<=S:=o_;rw[this];simp[hx.1]
  .rw[ac o_,aa]
   rintro ⟨⟨a,b⟩,c⟩
   have:=kU b;omega
def Kz (r:Int)(i:aG)(hi:i.Fit)(hr:eC r):bn prog jl [A_ r,.agg i.cells]=if i.may r.toNat then some (B_ true) else some (B_ false):=by
 have hl:=hi.len;rw[aL Rx Rq rfl];by_cases hs:i.seq=2
 .have h0:=axk i hi.len 1 i.groups.length 0 0 8 rfl o_ o_;simp only[aG.cells]at h0;simp(config := { maxSteps:=9^7 }) (disch:=omega)[ZB,ac,aa,h0];have e:i.may r.toNat↔i.seq<=3∧i.shape<=1∧0<=i.max∧i.max<=nY r.toNat (decide (i.seq=2))∧(∀n∈i.groups,1<=n)∧i.groups.sum=8:=by
   rw[<-am5 hs];rfl
  rw[as4 e];simp only[hs,decide_true];refine adH ?_;generalize (∀(n:Int),n∈i.groups->1<=n)=A;by_cases h:A<;>simp only[h,true_and,false_and,and_false,mJ,forall_const,not_true_eq_false,not_false_eq_true,or_true,true_implies,false_implies]<;>omega
 .simp(config := { maxSteps:=9^7 }) (disch:=omega)[ZB,ac,aa];refine adH ?_;have e:i.grouped↔(i.groups.length:Int)=1∧nth i.groups 0=1:=by
   rw[aG.grouped,aa hs]
   match i.groups with
   |[]=>simp
   |[x]=>simp[nth]
   |x::y::r=>simp;omega
  have e2:i.may r.toNat↔i.seq<=3∧i.shape<=1∧0<=i.max∧i.max<=nY r.toNat (decide (i.seq=2))∧i.grouped:=Iff.rfl;rw[e2,e];simp only[hs,decide_false];omega
abbrev df:=@Nat.two_pow_pos
abbrev fI:=@List.mem_or_eq_of_mem_set
def vO (b:C_)(a s:Int):Nat:=match aE b a s with|.ok v _=>v|.er _=>0
def nO (b:C_)(a s:Int):Nat:=match aE b a s with|.ok _ n=>n|.er _=>0
def eO (b:C_)(a s:Int):Nat:=match aE b a s with|.ok _ _=>0|.er e=>e+1
def cu {b:C_}{a s:Int}{v n:Nat}(h:aE b a s=.ok v n):pG b s v n:=by
 unfold aE at h;by_cases h1:(0<=s∧s<=31)∧0<=a∧a<=b.length
 .rw[ac h1]at h;by_cases h2:b.length-a<s
  .rw[ac h2]at h;exact absurd h (by simp)
  .rw[aa h2]at h;by_cases h3:bin ((b.drop a.toNat).take s.toNat)
   .rw[ac h3]at h;injection h with hv hn
    have:=Sb (n:=0) (i:=0) h3 o_;have hl:((b.drop a.toNat).take s.toNat).length=s.toNat:=by simp;omega
    rw[hl]at this;subst hv hn;exact⟨by simpa using this,o_⟩
   .rw[aa h3]at h;exact absurd h (by simp)
 .rw[aa h1]at h;exact absurd h (by simp)
def Ky (b:C_)(a s:Int)(hb:b.length<=1000000000)(ha:i64 a):bn prog Ei [.d (.lst (ax b)),A_ a,A_ s]=some (.tup [A_ (vO b a s),A_ (nO b a s),A_ (eO b a s)]):=by
 rw[io b a s hb ha];unfold vO nO eO
 cases h:aE b a s with
 |ok v n=>rw[b9 (cu h)];simp
 |er e=>simp[rK]
structure RS where
 a:Int
 e:Nat
def ra (s:RS):Int:=s.a
def re (s:RS):Nat:=s.e
def sV (b:C_)(st:RS)(s:Int):Nat:=if st.e=0 then vO b st.a s else 0
def sN (b:C_)(st:RS)(s:Int):RS:=if st.e=0 then ⟨nO b st.a s,eO b st.a s⟩ else st
def aAv {b:C_}{a s:Int}:vO b a s<2 ^ s.toNat:=by
 unfold vO
 cases h:aE b a s with
 |ok v n=>exact(cu h).1
 |er e=>exact df _
def lI {b:C_}{st:RS}{s:Int}:sV b st s<2 ^ s.toNat:=by
 unfold sV;split
 .exact aAv
 .exact df _
def adT {b:C_}{a s:Int}:nO b a s<=b.length:=by
 unfold nO
 cases h:aE b a s with
 |ok v n=>exact(cu h).2
 |er e=>exact dp _
def RS.fit (st:RS):Prop:=i64 st.a
def fU {b:C_}{st:RS}{s:Int}(hb:b.length<=1000000000)(h:st.fit):(sN b st s).fit:=by
 unfold sN;split
 .have:=adT (b:=b) (a:=st.a) (s:=s);show i64 _;simp only[];omega
 .exact h
def sL (b:C_):Nat->RS->C_
 |0,_=>[]
 |k+1,st=>sV b st 1::sL b k (sN b st 1)
def Kw (b:C_):Nat->RS->RS
 |0,st=>st
 |k+1,st=>Kw b k (sN b st 1)
def D4 (b:C_)(s:Int)(st:RS)(X:Obj)(R:ak)(N:Nat)(hb:b.length<=1000000000)(ha:st.fit):(Dn prog).call yk [A_ s,.ptr 3 0,.ptr 0 0,.ptr 2 0] ⟨(0,.cells [.d (.lst (ax b))])::(1,X)::(2,.cells [A_ (ra st)])::(3,.cells [A_ (re st)])::R,N⟩ =
  some (A_ (sV b st s),⟨(0,.cells [.d (.lst (ax b))])::(1,X)::(2,.cells [A_ (ra (sN b st s))])::(3,.cells [A_ (re (sN b st s))])::R,N⟩):=by
 rw[bC afn agZ rfl];obtain⟨a,e⟩:=st;have hf:i64 a:=ha;by_cases he:e=0
 .subst he;simp(config := { maxSteps:=9^7 }) (disch:=omega)[Ky,ra,re,sV,sN]
 .simp(config := { maxSteps:=9^7 }) (disch:=omega)[ra,re,sV,sN,he]
def grow:E_->C_->E_
 |g,[]=>g
 |g,x::r=>grow (if x=1 then g.set (g.length-1) (nth g (g.length-1)+1) else g++[1]) r
def nm (g:E_):Nat:=3+g.length
def aCw {g:E_}(h:g≠[]):4<=nm g:=by have:=bG.2 h;unfold nm;omega
abbrev hpI (b:C_)(q s:Nat)(m:Int)(g:E_)(st:RS):HS:=⟨[(0,.cells [.d (.lst (ax b))]),(1,.cells [.d (.int .u8 q),.d (.int .u8 s),A_ m,.sl (3+g.length) 0 g.length]),
           (2,.cells [A_ (ra st)]),(3,.cells [A_ (re st)]),(3+g.length,.arr 1 (am g))],4+g.length⟩
def aiF (b:C_)(r o m:Int)(q s:Nat)(hb:b.length<=1000000000):∀(k i:Nat) (g:E_) (st:RS) (I:Int),I=i->i+k=7->g≠[]->g.length+k<=100->(∀n∈g,0<=n∧n+k<=100)->st.fit->
  (Dn prog).code (.loop wj) ⟨[(2,AV.d (D.int IntKind.i64 r)),(6,AV.ptr 1 0),(7,AV.ptr 2 0),(8,AV.ptr 3 0),
           (9,AV.fn yk [] [AV.ptr 3 0,AV.ptr 0 0,AV.ptr 2 0]),(10,A_ o),(40,A_ I)],hpI b q s m g st⟩ =
   some (.exit 0,⟨[(2,AV.d (D.int IntKind.i64 r)),(6,AV.ptr 1 0),(7,AV.ptr 2 0),(8,AV.ptr 3 0),(10,A_ o)],hpI b q s m (grow g (sL b k st)) (Kw b k st)⟩):=by
 intro k
 induction k with
 |zero =>
  intro i g st I hI hi hg hl hn ha;subst hI;rw[ah QI];simp(disch:=omega)[aa,hpI,grow,sL,Kw]
 |succ k ih =>
  intro i g st I hI hi hg hl hn ha;subst hI;have:=bG.2 hg;have h3:3+(g.length+1)=4+g.length:=o_;have h4:4+(g.length+1)=4+g.length+1:=o_;rw[ah QI];have hv:nth g (g.length-1)∈g:=iL o_;have hv2:=hn _ hv;simp only[grow,sL,Kw];by_cases h1:sV b st 1=1
  .have hs:(g.set (g.length-1) (nth g (g.length-1)+1)).length=g.length:=s_;have h:=ih (i+1) (g.set (g.length-1) (nth g (g.length-1)+1)) (sN b st 1) (i+1) o_ o_ (by intro h0;rw[h0,ck]at hs;omega) (by rw[hs];omega) (λx hx=>by
    rcases fI hx with h|h
    .have:=hn x h;omega
    .omega) (fU hb ha)
   simp only[hpI,hs]at h;simp(maxSteps:=9^6)(disch:=first|omega|assumption) [ac,aa,D4,h3,h4,hpI];rw[h]
  .have h:=ih (i+1) (g++[1]) (sN b st 1) (i+1) o_ o_ s_ t_ (λx hx=>by
    rcases bj.1 hx with h|h
    .have:=hn x h;omega
    .simp at h;omega) (fU hb ha)
   simp only[hpI,aN,ar,ck,b7,h3,h4]at h;simp(maxSteps:=9^6)(disch:=first|omega|assumption) [ac,aa,D4,h3,h4,hpI];rw[h]
variable {P:Nat->X_}
def Lf (l:Nat)(e:aT)(x:W_):I_ :=
 match x with
 |some (_,hs)=>match get hs.heap l with
  |some (.loop _ _ _ _ false pend)=>match pend with
   |none=>some (.normal,⟨e,⟨del hs.heap l,hs.next⟩⟩)
   |some o=>some (o,⟨e,⟨del hs.heap l,hs.next⟩⟩)
  |_=>none
 |none=>none
def rgF (P:Nat->X_)(params:C_)(a b:VC)(hs:HS)(x:Option (AV×aT)):I_ :=
 match x with
 |some (.fn g first caps,e)=>Lf hs.next e ((Dn P).call g (first++([.yield hs.next]++caps)) ⟨put hs.heap hs.next (.loop (e.map λkv=>(kv.1,share kv.2)) params a b false none),hs.next+1⟩)
 |_=>none
theorem aru {f:Rd}{params:C_}{a b:VC}{e:aT}{hs:HS}:(Dn P).code (.rangeF f params a b) ⟨e,hs⟩=rgF P params a b hs (rd e f):=by
 rw[jM];simp only[de,Fy,rgF]
 cases rd e f with
 |none=>rfl
 |some p =>
  obtain⟨v,e1⟩:=p
  cases v<;>rfl
theorem ax8 {params:C_}{a b:VC}{h:ak}{n g:Nat}{first caps:D_}{e:aT}:rgF P params a b ⟨h,n⟩ (some (.fn g first caps,e))=Lf n e ((Dn P).call g (first++([.yield n]++caps)) ⟨put h n (.loop (e.map λkv=>(kv.1,share kv.2)) params a b false none),n+1⟩):=rfl
def pdO (o:Obj):Option BF_ :=
 match o with
 |.loop _ _ _ _ false pend=>some pend
 |_=>none
theorem az3 {s:aT}{p:C_}{a b:VC}{q:BF_}:pdO (.loop s p a b false q)=some q:=rfl
def pdE (e:aT)(hs:HS)(l:Nat)(q:BF_):I_:=some (q.getD .normal,⟨e,⟨del hs.heap l,hs.next⟩⟩)
theorem azg {e:aT}{h:ak}{n l:Nat}:pdE e ⟨h,n⟩ l none=some (.normal,⟨e,⟨del h l,n⟩⟩):=rfl
theorem aAx {e:aT}{h:ak}{n l:Nat}{o:bX}:pdE e ⟨h,n⟩ l (some o)=some (o,⟨e,⟨del h l,n⟩⟩):=rfl
theorem azJ {l n:Nat}{e:aT}{v:AV}{h:ak}:Lf l e (some (v,⟨h,n⟩))=bA (get h l) λo=>bA (pdO o) λq=>pdE e ⟨h,n⟩ l q:=by
 simp only[Lf]
 cases get h l with
 |none=>rfl
 |some o =>
  cases o with
  |loop s p a b busy pend=>cases busy<;>cases pend<;>rfl
  |cells=>rfl
  |arr=>rfl
theorem aAq {l:Nat}{e:aT}:Lf l e none=none:=rfl
theorem az0 {c:Prop}[Decidable c]{l:Nat}{e:aT}{x y:W_}:Lf l e (if c then x else y)=if c then Lf l e x else Lf l e y:=e_
theorem ay9 {α:Type}{p:α->Nat->Prop}{r:R α}{l:Nat}{e:aT}{f:α->Nat->W_}{g:Nat->W_}:Lf l e (rK p r f g)=rK p r (λv n=>Lf l e (f v n)) λx=>Lf l e (g x):=yv (Lf l e)
theorem ayn {l:Nat}{e:aT}{x y:W_}(h:x=y):Lf l e x=Lf l e y:=by rw[h]
def yB (l:Nat)(x:I_):W_ :=
 match x with
 |none=>none
 |some (o,st)=>match get st.hs.heap l with
  |some (.loop snap params assign body true none) =>
   match o with
   |.normal=>some (.bool true,⟨put st.hs.heap l (.loop snap params assign body false none),st.hs.next⟩)
   |o=>some (.bool false,⟨put st.hs.heap l (.loop snap params assign body false (some o)),st.hs.next⟩)
  |_=>none
def yA (P:Nat->X_)(l:Nat)(body:VC)(x:I_):W_ :=
 match x with
 |some (.normal,st)=>match get st.hs.heap l with
  |some (.loop snap params assign body2 false none)=>yB l ((Dn P).code body ⟨st.env,⟨put st.hs.heap l (.loop snap params assign body2 true none),st.hs.next⟩⟩)
  |_=>none
 |_=>none
def yO (P:Nat->X_)(l:Nat)(args:D_)(hs:HS)(o:Obj):W_ :=
 match o with
 |.loop snap params assign body false none=>bA (yh snap params args) λe=>yA P l body ((Dn P).code assign ⟨e,hs⟩)
 |_=>none
theorem rI {l:Nat}{args:D_}{hs:HS}:dD (Dn P) (.yield l) args hs=bA (get hs.heap l) λo=>yO P l args hs o:=by
 simp only[dD,wB]
 cases get hs.heap l with
 |none=>rfl
 |some o =>
  cases o with
  |cells=>rfl
  |arr=>rfl
  |loop snap params assign body busy pend =>
   cases busy
   .cases pend with
    |some q=>rfl
    |none =>
     simp only[bA,yO]
     cases yh snap params args with
     |none=>rfl
     |some e =>
      cases (Dn P).code assign ⟨e,hs⟩ with
      |none=>rfl
      |some p =>
       obtain⟨o,st⟩:=p
       cases o<;>rfl
   .rfl
theorem aDr {l:Nat}{args:D_}{hs:HS}{s:aT}{p:C_}{a b:VC}:yO P l args hs (.loop s p a b false none)=bA (yh s p args) λe=>yA P l b ((Dn P).code a ⟨e,hs⟩):=rfl
def atl (o:Obj):BH_ :=
 match o with
 |.loop s p a b false none=>some (.loop s p a b true none)
 |_=>none
theorem auz {s:aT}{p:C_}{a b:VC}:atl (.loop s p a b false none)=some (.loop s p a b true none):=rfl
theorem aCk {l:Nat}{b:VC}{e:aT}{h:ak}{n:Nat}:yA P l b (some (.normal,⟨e,⟨h,n⟩⟩))=bA (get h l) λo=>bA (atl o) λo=>yB l ((Dn P).code b ⟨e,⟨put h l o,n⟩⟩):=by
 simp only[yA]
 cases get h l with
 |none=>rfl
 |some o =>
  cases o with
  |cells=>rfl
  |arr=>rfl
  |loop s p a b busy pend=>cases busy<;>cases pend<;>rfl
def adC (q:BF_)(o:Obj):BH_ :=
 match o with
 |.loop s p a b true none=>some (.loop s p a b false q)
 |_=>none
theorem avN {q:BF_}{s:aT}{p:C_}{a b:VC}:adC q (.loop s p a b true none)=some (.loop s p a b false q):=rfl
theorem aDg {l:Nat}{e:aT}{h:ak}{n:Nat}:yB l (some (.normal,⟨e,⟨h,n⟩⟩))=bA (get h l) λo=>bA (adC none o) λo=>some (.bool true,⟨put h l o,n⟩):=by
 simp only[yB]
 cases get h l with
 |none=>rfl
 |some o =>
  cases o with
  |cells=>rfl
  |arr=>rfl
  |loop s p a b busy pend=>cases busy<;>cases pend<;>rfl
theorem aCu {l:Nat}{e:aT}{h:ak}{n:Nat}:yB l (some (.ret,⟨e,⟨h,n⟩⟩))=bA (get h l) λo=>bA (adC (some .ret) o) λo=>some (.bool false,⟨put h l o,n⟩):=by
 simp only[yB]
 cases get h l with
 |none=>rfl
 |some o =>
  cases o with
  |cells=>rfl
  |arr=>rfl
  |loop s p a b busy pend=>cases busy<;>cases pend<;>rfl
theorem aCh {l i:Nat}{e:aT}{h:ak}{n:Nat}:yB l (some (.exit i,⟨e,⟨h,n⟩⟩))=bA (get h l) λo=>bA (adC (some (.exit i)) o) λo=>some (.bool false,⟨put h l o,n⟩):=by
 simp only[yB]
 cases get h l with
 |none=>rfl
 |some o =>
  cases o with
  |cells=>rfl
  |arr=>rfl
  |loop s p a b busy pend=>cases busy<;>cases pend<;>rfl
theorem aDd {l:Nat}:yB l none=none:=rfl
theorem aC4 {c:Prop}[Decidable c]{l:Nat}{x y:I_}:yB l (if c then x else y)=if c then yB l x else yB l y:=e_
theorem aC2 {α:Type}{p:α->Nat->Prop}{r:R α}{l:Nat}{f:α->Nat->I_}{g:Nat->I_}:yB l (rK p r f g)=rK p r (λv n=>yB l (f v n)) λx=>yB l (g x):=yv (yB l)
theorem azq {l:Nat}{x y:I_}(h:x=y):yB l x=yB l y:=by rw[h]
theorem aAc {l:Nat}{b:VC}{x y:I_}(h:x=y):yA P l b x=yA P l b y:=by rw[h]
attribute [simp ↓] aru ax8 az3 azg aAx azJ aAq az0 ay9 aDr auz aCk avN aDg aCu aCh aDd aC4 aC2 rI
attribute [congr] ayn azq aAc
attribute [simp] yh
def al (m:Nat)(xs:F_):AV:=match xs with
 |[]=>.nl
 |x::r=>.own false m (x::r)
theorem dH {m:Nat}:al m []=.nl:=rfl
theorem ab9 {m:Nat}{x:V_}{r:F_}:al m (x::r)=.own false m (x::r):=rfl
theorem dy {m:Nat}{xs:F_}{y:V_}:al m (xs++[y])=.own false m (xs++[y]):=by cases xs<;>rfl
theorem fX {m:Nat}{xs:F_}(h:xs≠[]):al m xs=.own false m xs:=by cases xs with|nil=>exact absurd rfl h|cons=>rfl
@[simp] theorem aEG {m:Nat}{xs:F_}:firm (al m xs)=al m xs:=by cases xs<;>rfl
@[simp] theorem Um {m:Nat}{xs:F_}:jB (al m xs)=al m xs:=by cases xs<;>rfl
@[simp] theorem avO {m:Nat}{xs:F_}:tf (al m xs)=al m xs:=by cases xs<;>rfl
@[simp] theorem Mw {m:Nat}{xs:F_}(h:xs≠[]):share (al m xs)=.d (.lst xs):=by rw[fX h];simp
@[simp] theorem aF7 {m:Nat}{xs:F_}:EK (al m xs)=some (.lst xs):=by cases xs<;>rfl
@[simp] theorem akb {m:Nat}{xs:F_}:AV.cells (al m xs)=[al m xs]:=by cases xs<;>rfl
@[simp] theorem NV {m:Nat}{xs:F_}:bB (al m xs)=true:=by cases xs<;>rfl
@[simp] theorem aDL {h:ak}{m:Nat}{xs:F_}:elems h (al m xs)=some xs:=by cases xs<;>rfl
@[simp] theorem aCG {h:ak}{m:Nat}{xs:F_}:fV h (al m xs)=some (al m xs,h):=by cases xs<;>rfl
@[simp] theorem aGb {m:Nat}{h:ak}{xs:F_}{y:V_}(hy:y.length=m)(hl:xs.length<1000000000):WO m h (al m xs) (.own false m [y])=some (.own (decide (xs=[])) m (xs++[y]),h):=by
 subst hy
 cases xs with
 |nil=>simp[al,elems,decide_true]
 |cons x r=>simp[al,elems];simp at hl;omega
@[simp] theorem aFH {m:Nat}{h:ak}{xs:F_}{y:V_}(hl:xs.length<1000000000):dR m h (al m xs) [y]=some (.own (decide (xs=[])) m (xs++[y]),h):=by
 cases xs with
 |nil=>simp[al,decide_true]
 |cons x r=>simp[al];simp at hl;omega
def ar5 (o:Obj)(h:ak)(id off len:Nat):AE_ :=
 match o with
 |.arr m xs=>dE (Nat.ble (off+len) xs.length) (some (.own true m (sub xs off len),del h id))
 |_=>none
@[simp ↓] theorem aFc {m:Nat}{xs:F_}{h:ak}{id off len:Nat}:ar5 (.arr m xs) h id off len=dE (Nat.ble (off+len) xs.length) (some (.own true m (sub xs off len),del h id)):=(rfl)
@[simp] theorem aFt {h:ak}{id off len:Nat}:kJ h (.sl id off len)=bA (get h id) λo=>ar5 o h id off len:=by
 simp only[kJ]
 cases get h id with
 |none=>rfl
 |some o =>
  cases o with
  |arr m xs=>simp only[bA,ar5];cases Nat.ble (off+len) xs.length<;>rfl
  |cells cs=>rfl
  |loop=>rfl
theorem N4:∀{l:C_}{g:E_}{t:Int},g≠[]->(∀n∈g,0<=n∧n+l.length<=t)->1+l.length<=t->∀n∈grow g l,0<=n∧n<=t
 |[],g,t,h0,h,ht,n,hn=>by grind [grow]
 |x::r,g,t,h0,h,ht,n,hn=>by
  rw[grow]at hn;have hl:=bG.2 h0;simp only[ar]at h ht;by_cases hx:x=1
  .have h1:=h _ (iL (l:=g) (i:=g.length-1) o_);refine N4 (l:=r) (t:=t) (λh2=>?_) (λy hy=>?_) o_ n hn
   all_goals grind [List.length_nil]
  .rw[aa hx]at hn;refine N4 (l:=r) (t:=t) s_ (λy hy=>?_) o_ n hn
   grind
theorem N7:∀{l:C_}{g:E_},(grow g l).length<=g.length+l.length
 |[],g=>by simp[grow]
 |x::r,g=>by
  rw[grow];have:=N7 (l:=r) (g:=if x=1 then g.set (g.length-1) (nth g (g.length-1)+1) else g++[1])
  grind
theorem XT {b:C_}:∀{k:Nat}{st:RS},(sL b k st).length=k
 |0,_=>rfl
 |k+1,_=>by simp[sL,XT (k:=k)]
theorem VA (r m:Int)(q s:Nat)(g:E_)(hq:q<=255)(hs:s<=255)(hm:i64 m)(hg:g.length<=100)(h:∀n∈g,0<=n∧n<=100):bn prog yw [A_ r,.agg [.d (.int .u8 q),.d (.int .u8 s),A_ m,.d (.lst (am g))]]=if eC r then if aG.may r.toNat ⟨q,s,m,g⟩ then some (A_ 0) else some (A_ 8) else some (A_ 2) :=
 IA r ⟨q,s,m,g⟩ ⟨hq,hs,hm,e_,λn hn=>by grind⟩
def sG (b:C_)(st:RS):E_:=grow [1] (sL b 7 st)
theorem aer {b:C_}{st:RS}:4<=nm (sG b st)∧(sG b st).length<=100∧∀n∈sG b st,0<=n∧n<=100:=by
 have h1:=N7 (l:=sL b 7 st) (g:=[1]);rw[XT]at h1;have h2:=N4 (l:=sL b 7 st) (g:=[1]) (t:=100) s_ (by simp[XT]) (by rw[XT];omega);refine⟨?_,by grind [sG],h2⟩;have:sG b st≠[]:=by
  unfold sG;have:∀(l:C_) (g:E_),g≠[]->grow g l≠[]:=by
   intro l
   induction l<;>grind [grow]
  simp_all
 exact aCw this
theorem aiJ (b:C_)(r o m:Int)(q s:Nat)(st:RS)(hb:b.length<=1000000000)(hs:st.fit) :
  (Dn prog).code (.loop wj) ⟨[(2,AV.d (D.int IntKind.i64 r)),(6,AV.ptr 1 0),(7,AV.ptr 2 0),(8,AV.ptr 3 0),
           (9,AV.fn yk [] [AV.ptr 3 0,AV.ptr 0 0,AV.ptr 2 0]),(10,A_ o),(40,A_ 0)],⟨[(0,.cells [.d (.lst (ax b))]),(1,.cells [.d (.int .u8 q),.d (.int .u8 s),A_ m,.sl 4 0 1]),(2,.cells [A_ (ra st)]),(3,.cells [A_ (re st)]),(4,.arr 1 [[.int .i64 1]])],5⟩⟩ =
   some (.exit 0,⟨[(2,AV.d (D.int IntKind.i64 r)),(6,AV.ptr 1 0),(7,AV.ptr 2 0),(8,AV.ptr 3 0),(10,A_ o)],⟨[(0,.cells [.d (.lst (ax b))]),(1,.cells [.d (.int .u8 q),.d (.int .u8 s),A_ m,.sl (nm (sG b st)) 0 (sG b st).length]),
           (2,.cells [A_ (ra (Kw b 7 st))]),(3,.cells [A_ (re (Kw b 7 st))]),(nm (sG b st),.arr 1 (am (sG b st)))],4+(sG b st).length⟩⟩) :=
 aiF b r o m q s hb 7 0 [1] st 0 rfl rfl s_ s_ s_ hs
theorem agi {b:C_}{st:RS}:sV b st 1<=1:=by have:=lI (b:=b) (st:=st) (s:=1);grind
theorem ayb {b:C_}{st:RS}:sV b st 2<=3:=by have:=lI (b:=b) (st:=st) (s:=2);grind
theorem aCL {b:C_}{st:RS}:sV b st 4<=15:=by have:=lI (b:=b) (st:=st) (s:=4);grind
theorem aC5 {b:C_}{st:RS}:sV b st 6<=63:=by have:=lI (b:=b) (st:=st) (s:=6);grind
theorem aAp {a:Int}:ra ⟨a,0⟩=a:=rfl
theorem ayV {a:Int}:re ⟨a,0⟩=0:=rfl
theorem Vq (b:C_)(s a:Int)(X:Obj)(R:ak)(N:Nat)(hb:b.length<=1000000000)(ha:i64 a):(Dn prog).call yk [A_ s,.ptr 3 0,.ptr 0 0,.ptr 2 0] ⟨(0,.cells [.d (.lst (ax b))])::(1,X)::(2,.cells [A_ a])::(3,.cells [A_ 0])::R,N⟩ =
  some (A_ (sV b ⟨a,0⟩ s),⟨(0,.cells [.d (.lst (ax b))])::(1,X)::(2,.cells [A_ (ra (sN b ⟨a,0⟩ s))])::(3,.cells [A_ (re (sN b ⟨a,0⟩ s))])::R,N⟩) :=
 D4 b s ⟨a,0⟩ X R N hb ha
def R.bind {α β:Type}(x:R α)(f:α->Nat->R β):R β :=
 match x with
 |.ok v n=>f v n
 |.er e=>.er e
@[simp] theorem ao {α β:Type}{v:α}{n:Nat}{f:α->Nat->R β}:R.bind (.ok v n) f=f v n:=rfl
@[simp] theorem aQ {α β:Type}{e:Nat}{f:α->Nat->R β}:R.bind (.er e) f=.er e:=rfl
def SK {α:Type}(c:Prop)[Decidable c](v:α)(n:Nat):R α:=if c then .ok v n else .er 7
def je (b:C_):Nat->Nat->R C_
 |0,a=>.ok [] a
 |k+1,a=>(aE b a 1).bind λv n=>(je b k n).bind λl m=>.ok (v::l) m
def fW (b:C_)(a:Int)(r:Nat):R aG :=
 (aE b a 1).bind λo n=>(aE b n 2).bind λq n=>(aE b n 1).bind λs n =>
 if q=2 then (aE b n 4).bind λm n=>(je b 7 n).bind λl n=>SK (o=0∧aG.may r ⟨q,s,m,grow [1] l⟩) ⟨q,s,m,grow [1] l⟩ n
 else (aE b n 6).bind λm n=>(aE b n 1).bind λp n=>SK ((o=0∧p=0)∧aG.may r ⟨q,s,m,[1]⟩) ⟨q,s,m,[1]⟩ n
theorem kw {b:C_}{a s:Int}{v n:Nat}(h:aE b a s=.ok v n):sV b ⟨a,0⟩ s=v∧sN b ⟨a,0⟩ s=⟨n,0⟩:=by
 grind [sV,sN,vO,nO,eO]
theorem DF {b:C_}{a s:Int}{e:Nat}(h:aE b a s=.er e):sV b ⟨a,0⟩ s=0∧sN b ⟨a,0⟩ s=⟨0,e+1⟩:=by
 grind [sV,sN,vO,nO,eO]
theorem WC {b:C_}{a s:Int}{e:Nat}:sV b ⟨a,e+1⟩ s=0∧sN b ⟨a,e+1⟩ s=⟨a,e+1⟩:=by
 grind [sV,sN]
theorem adJ {b:C_}{a:Int}{e:Nat}:∀{k:Nat},Kw b k ⟨a,e+1⟩=⟨a,e+1⟩
 |0=>rfl
 |k+1=>by rw[Kw,WC.2,adJ]
theorem axX {b:C_}:∀{k a:Nat},match je b k a with
  |.ok l n=>sL b k ⟨a,0⟩=l∧Kw b k ⟨a,0⟩=⟨n,0⟩∧(0<k->n<=b.length)
  |.er e=>Kw b k ⟨a,0⟩=⟨0,e+1⟩
 |0,a=>⟨rfl,rfl,λh=>absurd h o_⟩
 |k+1,a=>by
  simp only[je,sL,Kw]
  cases h:aE b a 1 with
  |ok v n =>
   have hp:=(cu h).2;rw[(kw h).1,(kw h).2,ao];have ih:=axX (b:=b) (k:=k) (a:=n)
   cases h2:je b k n with
   |ok l m =>
    rw[h2]at ih;refine⟨by rw[ih.1],ih.2.1,λ_=>?_⟩
    cases k<;>grind [je]
   |er e=>simp_all
  |er e=>simp_all [DF,adJ]
abbrev ic:D_:=[.d (.int .u8 0),.d (.int .u8 0),A_ 0,.nl]
abbrev HB (i:aG):D_:=[.d (.int .u8 i.seq),.d (.int .u8 i.shape),A_ i.max,.own true 1 (am i.groups)]
set_option maxHeartbeats 4000000 in
theorem aoG (b:C_)(a r:Int)(hb:b.length<=1000000000)(ha:i64 a)(hr:eC r)(s1 s2 s3 s4:RS)(e1:s1=sN b ⟨a,0⟩ 1)(e2:s2=sN b s1 2)(e3:s3=sN b s2 1)(e4:s4=sN b s3 4)(hq:sV b s1 2=2):bn prog Ej [.d (.lst (ax b)),A_ a,A_ r] =
  if re (Kw b 7 s4)=0 then if sV b ⟨a,0⟩ 1=0∧aG.may r.toNat ⟨sV b s1 2,sV b s2 1,sV b s3 4,sG b s4⟩ then some (.tup [.agg (HB ⟨sV b s1 2,sV b s2 1,sV b s3 4,sG b s4⟩),A_ (ra (Kw b 7 s4)),A_ 0])
   else some (.tup [.agg ic,A_ 0,A_ 8])
  else some (.tup [.agg ic,A_ 0,A_ (re (Kw b 7 s4))]):=by
 rw[aL NM NP rfl];have f1:s1.fit:=e1▸fU hb ha;have f2:s2.fit:=e2▸fU hb f1;have f3:s3.fit:=e3▸fU hb f2;have f4:s4.fit:=e4▸fU hb f3;have v1:=agi (b:=b) (st:=⟨a,0⟩);have v2:=ayb (b:=b) (st:=s1);have v3:=agi (b:=b) (st:=s2);have v4:=aCL (b:=b) (st:=s3);obtain⟨g1,g2,g3⟩:=aer (b:=b) (st:=s4);simp(maxSteps:=9^6)(disch:=first|omega|assumption) [kX,↓ac,↓aa,D4,Vq,aiJ,VA,<-e1,<-e2,<-e3,<-e4,ZN,anH]
set_option maxHeartbeats 4000000 in
theorem anl (b:C_)(a r:Int)(hb:b.length<=1000000000)(ha:i64 a)(hr:eC r)(s1 s2 s3 s4 s5:RS)(e1:s1=sN b ⟨a,0⟩ 1)(e2:s2=sN b s1 2)(e3:s3=sN b s2 1)(e4:s4=sN b s3 6)(e5:s5=sN b s4 1)(hq:sV b s1 2≠2):bn prog Ej [.d (.lst (ax b)),A_ a,A_ r] =
  if re s5=0 then if (sV b ⟨a,0⟩ 1=0∧sV b s4 1=0)∧aG.may r.toNat ⟨sV b s1 2,sV b s2 1,sV b s3 6,[1]⟩ then some (.tup [.agg (HB ⟨sV b s1 2,sV b s2 1,sV b s3 6,[1]⟩),A_ (ra s5),A_ 0])
   else some (.tup [.agg ic,A_ 0,A_ 8])
  else some (.tup [.agg ic,A_ 0,A_ (re s5)]):=by
 rw[aL NM NP rfl];have f1:s1.fit:=e1▸fU hb ha;have f2:s2.fit:=e2▸fU hb f1;have f3:s3.fit:=e3▸fU hb f2;have f4:s4.fit:=e4▸fU hb f3;have v1:=agi (b:=b) (st:=⟨a,0⟩);have v2:=ayb (b:=b) (st:=s1);have v3:=agi (b:=b) (st:=s2);have v4:=aC5 (b:=b) (st:=s3);have v5:=agi (b:=b) (st:=s4);have hc:=VA r (sV b s3 6) (sV b s1 2) (sV b s2 1) [1] o_ o_ o_ s_ s_;have h1:am [1]=[[.int .i64 1]]:=rfl;rw[h1]at hc;simp(maxSteps:=9^6)(disch:=first|omega|assumption) [kX,↓ac,↓aa,D4,Vq,hc,<-e1,<-e2,<-e3,<-e4,<-e5,ZN,anH,am];rfl
abbrev pI (b:C_)(r:Nat)(i:aG)(n:Nat):Prop:=i.may r∧n<=b.length∧i.groups.length<=100
theorem TK {α γ:Type}{p:α->Nat->Prop}{c:Prop}[Decidable c]{v:α}{n:Nat}{f:α->Nat->γ}{g:Nat->γ}(h:c->p v n):rK p (SK c v n) f g=if c then f v n else g 7:=by
 grind [SK,b9,ee]
theorem Xf (b:C_)(a r:Int)(hb:b.length<=1000000000)(ha:i64 a):bn prog Ej [.d (.lst (ax b)),A_ a,A_ r] =
  if eC r then rK (pI b r.toNat) (fW b a r.toNat) (λi n=>some (.tup [.agg (HB i),A_ n,A_ 0])) λe=>some (.tup [.agg ic,A_ 0,A_ (e+1)])
  else some (.tup [.agg ic,A_ 0,A_ 2]):=by
 by_cases hr:eC r
 .rw[ac hr];unfold fW;by_cases hq:sV b (sN b ⟨a,0⟩ 1) 2=2
  .rw[aoG b a r hb ha hr _ _ _ _ rfl rfl rfl rfl hq]
   cases h1:aE b a 1 with
   |er e=>simp_all [DF,WC]
   |ok o n =>
    rw[(kw h1).2]at hq⊢;rw[(kw h1).1,ao]
    cases h2:aE b n 2 with
    |er e=>simp_all [DF]
    |ok q n =>
     rw[(kw h2).1]at hq⊢;rw[(kw h2).2,ao]
     cases h3:aE b n 1 with
     |er e=>simp_all [DF,WC,adJ,re]
     |ok s n =>
      rw[(kw h3).2,(kw h3).1,ao,ac hq]
      cases h4:aE b n 4 with
      |er e=>simp_all [DF,adJ,re]
      |ok m n =>
       rw[(kw h4).2,(kw h4).1,ao];have h5:=axX (b:=b) (k:=7) (a:=n);have h6:=(aer (b:=b) (st:=⟨n,0⟩)).2.1;unfold sG at h6⊢
       cases h7:je b 7 n with
       |er e=>simp_all [re]
       |ok l n =>
        grind [ao,TK,re,ra]
  .rw[anl b a r hb ha hr _ _ _ _ _ rfl rfl rfl rfl rfl hq]
   cases h1:aE b a 1 with
   |er e=>simp_all [DF,WC,re]
   |ok o n =>
    rw[(kw h1).2]at hq⊢;rw[(kw h1).1,ao]
    cases h2:aE b n 2 with
    |er e=>simp_all [DF,WC,re]
    |ok q n =>
     rw[(kw h2).1]at hq⊢;rw[(kw h2).2,ao]
     cases h3:aE b n 1 with
     |er e=>simp_all [DF,WC,re]
     |ok s n =>
      rw[(kw h3).2,(kw h3).1,ao,aa hq]
      cases h4:aE b n 6 with
      |er e=>simp_all [DF,WC,re]
      |ok m n =>
       rw[(kw h4).2,(kw h4).1,ao]
       cases h5:aE b n 1 with
       |er e=>simp_all [DF,re]
       |ok p n =>
        rw[(kw h5).2,(kw h5).1,ao,TK (λh=>⟨h.2,(cu h5).2,s_⟩)];simp[re,ra]
 .rw[aa hr,aL NM NP rfl];simp(disch:=first|omega|assumption) [kX,↓aa]
@[simp] theorem aAW {g:E_}{x:Int}:(am (g++[x]))[g.length]?=some [.int .i64 x]:=by simp[am]
theorem fF {α β γ:Type}{p:α->Nat->Prop}{q:β->Nat->Prop}{x:R β}{f:β->Nat->R α}{F:α->Nat->γ}{G:Nat->γ}(h:∀v n,x=.ok v n->q v n):rK p (x.bind f) F G=rK q x (λv n=>rK p (f v n) F G) G:=by
 cases x with
 |ok v n=>rw[ao,b9 (h v n rfl)]
 |er e=>rfl
theorem ky {α γ:Type}{p:α->Nat->Prop}{b:C_}{a s:Int}{f:Nat->Nat->R α}{F:α->Nat->γ}{G:Nat->γ}:rK p ((aE b a s).bind f) F G=rK (pG b s) (aE b a s) (λv n=>rK p (f v n) F G) G:=fF λ_ _ h=>cu h
abbrev pB (b:C_)(k:Nat)(l:C_)(n:Nat):Prop:=l.length=k∧n<=b.length∧∀x∈l,x<=1
theorem ai5 {b:C_}:∀{k a:Nat}{l:C_}{n:Nat},a<=b.length->je b k a=.ok l n->pB b k l n
 |0,a,l,n,ha,h=>by
  simp only[je]at h;injection h with h1 h2
  subst h1 h2;exact⟨rfl,ha,s_⟩
 |k+1,a,l,n,ha,h=>by
  simp only[je]at h
  cases h1:aE b a 1 with
  |er e=>rw[h1]at h;exact absurd h (by simp)
  |ok v m =>
   rw[h1,ao]at h;have hp:=cu h1
   cases h2:je b k m with
   |er e=>rw[h2]at h;exact absurd h (by simp)
   |ok l2 m2 =>
    rw[h2,ao]at h;injection h with h3 h4
    subst h3 h4;obtain⟨i1,i2,i3⟩:=ai5 hp.2 h2;refine⟨by simp[i1],i2,λx hx=>?_⟩;have:=hp.1;simp at this;rcases aD.1 hx with e|e
    .omega
    .exact i3 x e
theorem ahj {α γ:Type}{p:α->Nat->Prop}{b:C_}{a k:Nat}{f:C_->Nat->R α}{F:α->Nat->γ}{G:Nat->γ}(h:a<=b.length):rK p ((je b k a).bind f) F G=rK (pB b k) (je b k a) (λv n=>rK p (f v n) F G) G:=fF λ_ _ h2=>ai5 h h2
theorem atV {γ:Type}{b:C_}{a k:Nat}{F:C_->Nat->γ}{G:Nat->γ}:rK (pB b (k+1)) (je b (k+1) a) F G=rK (pG b 1) (aE b a 1) (λv n=>rK (pB b k) (je b k n) (λl m=>F (v::l) m) G) G:=by
 rw[je,ky];refine cy (λ_ _=>rfl) (λv n hp=>?_) λ_=>rfl
 rw[ahj hp.2];refine cy (λ_ _=>rfl) (λl m hq=>?_) λ_=>rfl
 rw[b9];refine⟨by simp[hq.1],hq.2.1,λx hx=>?_⟩;have:=hp.1;simp at this;rcases aD.1 hx with e|e
 .omega
 .exact hq.2.2 x e
theorem aun {γ:Type}{b:C_}{a:Nat}{F:C_->Nat->γ}{G:Nat->γ}(h:a<=b.length):rK (pB b 0) (je b 0 a) F G=F [] a:=by
 rw[je,b9 ⟨rfl,h,s_⟩]
abbrev ato:AV:=.own false 1 [[.int .i64 4],[.int .i64 1],[.int .i64 1],[.int .i64 1],[.int .i64 1],[.int .i64 1],[.int .i64 1],[.int .i64 1]]
theorem apA {i:Nat}(h0:1<=i)(h:i<8):[[D.int IntKind.i64 4],[D.int IntKind.i64 1],[D.int IntKind.i64 1],[D.int IntKind.i64 1],[D.int IntKind.i64 1],[D.int IntKind.i64 1],[D.int IntKind.i64 1],[D.int IntKind.i64 1]][i]?=some [.int .i64 1]:=by
 match i,h0,h with
 |1,_,_|2,_,_|3,_,_|4,_,_|5,_,_|6,_,_|7,_,_=>rfl
theorem aeM (b:C_)(r:Int)(hb:b.length<=1000000000)(id N:Nat)(hs:ak):∀(k i a:Nat) (L:F_) (I:Int),I=i->i+k=8->1<=i->a<=b.length->L.length+k<=100->
  (Dn prog).code (.loop fE) ⟨[(0,.d (.lst (ax b))),(1,A_ a),(2,A_ r),(6,.ptr 0 0),(9,.own false 1 L),(15,ato),(16,A_ I)],⟨[(0,.cells ic)],N⟩⟩ =
   rK (pB b k) (je b k a) (λl n=>some (.exit 2,⟨[(1,A_ n),(2,A_ r),(6,.ptr 0 0),(9,.own false 1 (L++aS l))],⟨[(0,.cells ic)],N⟩⟩))
    (λe=>some (.ret,⟨[(6,.ptr 0 0),(7,A_ 0),(8,A_ (e+1))],⟨[(0,.cells ic)],N⟩⟩)):=by
 intro k
 induction k with
 |zero =>
  intro i a L I hI hi h1 ha hl;subst hI;rw[ah my,aun ha];simp(disch:=omega)[aa,aS]
 |succ k ih =>
  intro i a L I hI hi h1 ha hl;subst hI;rw[ah my,atV];simp(maxSteps:=9^6)(disch:=first|omega|assumption) [ac,aa,apA,jg];refine cy (λ_ _=>rfl) (λv n hp=>?_) λ_=>rfl
  rw[ih (i+1) n _ _ o_ o_ o_ hp.2 t_];simp[aS]
abbrev adK (n r o q s m O k:Int)(l:C_):aT:=[(1,A_ n),(2,A_ r),(6,.ptr 0 0),(9,.own false 1 ([.int .i64 o]::[.int .i64 q]::[.int .i64 s]::[.int .i64 m]::aS l)),(20,.ptr 2 0),(21,A_ O),(22,A_ k)]
abbrev adF (n r O:Int):aT:=[(1,A_ n),(2,A_ r),(6,.ptr 0 0),(20,.ptr 2 0),(21,A_ O)]
abbrev hpA (q s:Nat)(m:Int)(g:E_):HS:=⟨[(0,.cells ic),(2,.cells [.d (.int .u8 q),.d (.int .u8 s),A_ m,.sl (g.length+1) 0 g.length]),(g.length+1,.arr 1 (am g))],g.length+2⟩
abbrev hpB (q s:Nat)(m:Int)(x:Int):HS:=⟨[(0,.cells ic),(1,.arr 1 [[.int .i64 x]]),(2,.cells [.d (.int .u8 q),.d (.int .u8 s),A_ m,.sl 1 0 1])],3⟩
theorem adA (n r o m O:Int)(q s:Nat)(l:C_)(hl7:l.length=7)(hl1:∀x∈l,x<=1):∀(k i:Nat) (g:E_) (I:Int),I=i+4->i+k=7->2<=g.length->g.length+k<=100->(∀n∈g,0<=n∧n+k<=100)->
  (Dn prog).code (.loop gL) ⟨adK n r o 2 s m O I l,hpA q s m g⟩=some (.exit 4,⟨adF n r O,hpA q s m (grow g (l.drop i))⟩):=by
 intro k
 induction k with
 |zero =>
  intro i g I hI hi hg hl hn;subst hI;rw[ah jq,cY o_];simp(disch:=omega)[aa,ac,grow]
 |succ k ih =>
  intro i g I hI hi hg hl hn;subst hI;have hx:=hl1 _ (iL (l:=l) (i:=i) o_);have hv:=hn _ (iL (l:=g) (i:=g.length-1) o_);rw[ah jq,nw o_,grow];have e1:((i:Int)+4).toNat=i+4:=o_;by_cases h1:nth l i=1
  .have hs:(g.set (g.length-1) (nth g (g.length-1)+1)).length=g.length:=s_;have h:=ih (i+1) (g.set (g.length-1) (nth g (g.length-1)+1)) (i+4+1) o_ o_ (by rw[hs];omega) (by rw[hs];omega) (λx hx=>by
    rcases fI hx with h|h
    .have:=hn x h;omega
    .omega)
   simp only[hpA,hs]at h;rw[ac h1,<-h];simp(maxSteps:=9^6)(disch:=first|omega|assumption) [ac,aa,e1]
  .have h:=ih (i+1) (g++[1]) (i+4+1) o_ o_ t_ t_ (λx hx=>by
    rcases bj.1 hx with h|h
    .have:=hn x h;omega
    .simp at h;omega)
   have e2:g.length+1+1=g.length+2:=rfl;have e3:g.length+1+2=g.length+3:=rfl;simp only[hpA,aN,ar,ck,b7,e2,e3]at h;rw[aa h1,<-h];have h0:nth l i=0:=o_;have hg0:g≠[]:=λh=>by rw[h]at hg;simp at hg
   simp(maxSteps:=9^6)(disch:=first|omega|assumption) [ac,aa,e1,h0,hg0]
theorem acY (n r o m O:Int)(q s:Nat)(l:C_)(hl7:l.length=7)(hl1:∀x∈l,x<=1):∀(k i:Nat) (x:Int) (I:Int),I=i+4->i+k=7->0<=x∧x+k<=100->
  (Dn prog).code (.loop gL) ⟨adK n r o 2 s m O I l,hpB q s m x⟩=some (.exit 4,⟨adF n r O,if (grow [x] (l.drop i)).length=1 then hpB q s m (nth (grow [x] (l.drop i)) 0) else hpA q s m (grow [x] (l.drop i))⟩):=by
 intro k
 induction k with
 |zero =>
  intro i x I hI hi hx;subst hI;rw[ah jq,cY o_];simp(disch:=omega)[aa,ac,grow];rfl
 |succ k ih =>
  intro i x I hI hi hx;subst hI;have hx:=hl1 _ (iL (l:=l) (i:=i) o_);rw[ah jq,nw o_,grow];have e1:((i:Int)+4).toNat=i+4:=o_;by_cases h1:nth l i=1
  .have h:=ih (i+1) (x+1) (i+4+1) o_ o_ o_;have e2:[x].set ([x].length-1) (nth [x] ([x].length-1)+1)=[x+1]:=rfl;rw[ac h1,e2,<-h];simp(maxSteps:=9^6)(disch:=first|omega|assumption) [ac,aa,e1]
  .have h:=adA n r o m O q s l hl7 hl1 k (i+1) ([x]++[1]) (i+4+1) o_ o_ s_ t_ t_;have h2:(grow ([x]++[1]) (l.drop (i+1))).length≠1:=by
    have:∀(l:C_) (g:E_),2<=g.length->2<=(grow g l).length:=by
     intro l
     induction l with
     |nil=>intro g h;simpa [grow]
     |cons x r ih =>
      intro g h;rw[grow];refine ih _ ?_;split
      .simpa using h
      .simp;omega
    have:=this (l.drop (i+1)) ([x]++[1]) s_;omega
   rw[aa h1,aa h2,<-h];have h0:nth l i=0:=o_;simp(maxSteps:=9^6)(disch:=first|omega|assumption) [ac,aa,e1,h0,am];rfl
theorem Pj (r m:Int)(q s:Nat)(g:E_)(hr:eC r)(hq:q<=255)(hs:s<=255)(hm:i64 m)(hg:g.length<=100)(h:∀n∈g,0<=n∧n<=100):bn prog jl [A_ r,.agg [.d (.int .u8 q),.d (.int .u8 s),A_ m,.d (.lst (am g))]]=if aG.may r.toNat ⟨q,s,m,g⟩ then some (B_ true) else some (B_ false) :=
 Kz r ⟨q,s,m,g⟩ ⟨hq,hs,hm,by simp;omega,λn hn=>by have:=h n hn;omega⟩ hr
theorem aa0 (b:C_)(r:Int)(N a:Nat)(L:F_)(hb:b.length<=1000000000)(ha:a<=b.length)(hl:L.length<=50) :
  (Dn prog).code (.loop fE) ⟨[(0,.d (.lst (ax b))),(1,A_ a),(2,A_ r),(6,.ptr 0 0),(9,.own false 1 L),(15,ato),(16,A_ 0)],⟨[(0,.cells ic)],N⟩⟩ =
   rK (pG b 4) (aE b a 4) (λm n=>rK (pB b 7) (je b 7 n) (λl n=>some (.exit 2,⟨[(1,A_ n),(2,A_ r),(6,.ptr 0 0),(9,.own false 1 (L++[[.int .i64 m]]++aS l))],⟨[(0,.cells ic)],N⟩⟩))
    (λe=>some (.ret,⟨[(6,.ptr 0 0),(7,A_ 0),(8,A_ (e+1))],⟨[(0,.cells ic)],N⟩⟩)))
    (λe=>some (.ret,⟨[(6,.ptr 0 0),(7,A_ 0),(8,A_ (e+1))],⟨[(0,.cells ic)],N⟩⟩)):=by
 rw[ah my];simp(maxSteps:=9^6)(disch:=first|omega|assumption) [ac,aa,jg];refine cy (λ_ _=>rfl) (λv n hp=>?_) λ_=>rfl
 have:=aeM b r hb 0 N [] 7 1 n (L++[[.int .i64 v]]) 1 o_ o_ o_ hp.2 t_;rw[this];simp
theorem aaW (b:C_)(r:Int)(N a:Nat)(L:F_)(hb:b.length<=1000000000)(ha:a<=b.length)(hl:L.length<=50) :
  (Dn prog).code (.loop fE) ⟨[(0,.d (.lst (ax b))),(1,A_ a),(2,A_ r),(6,.ptr 0 0),(9,.own false 1 L),(15,.own false 1 [[.int .i64 6],[.int .i64 1]]),(16,A_ 0)],⟨[(0,.cells ic)],N⟩⟩ =
   rK (pG b 6) (aE b a 6) (λm n=>rK (pG b 1) (aE b n 1) (λp n=>some (.exit 2,⟨[(1,A_ n),(2,A_ r),(6,.ptr 0 0),(9,.own false 1 (L++[[.int .i64 m],[.int .i64 p]]))],⟨[(0,.cells ic)],N⟩⟩))
    (λe=>some (.ret,⟨[(6,.ptr 0 0),(7,A_ 0),(8,A_ (e+1))],⟨[(0,.cells ic)],N⟩⟩)))
    (λe=>some (.ret,⟨[(6,.ptr 0 0),(7,A_ 0),(8,A_ (e+1))],⟨[(0,.cells ic)],N⟩⟩)):=by
 simp(maxSteps:=9^6)(disch:=first|omega|assumption) [ac,aa,jg,ah my]
abbrev jP:=@List.drop_zero
abbrev afu:VC:=.seq lB
 (.seq qH
 (.seq (.seq qC
 (.cond (.m 105)
 qT
 .skip))
 (.seq (.seq qP
 (.block 4
 (.seq (.loop gL) (K [9,22]))))
 (.seq (.seq qZ
 (.cond (.m 148)
 (.seq (K [1,20]) (.seq rq
 .ret))
 .skip))
 (.seq rl
 .ret)))))
theorem aqc (n r:Int)(o s m p:Nat)(q:Nat)(hr:eC r)(hq:q<=3)(hq2:q≠2)(hs:s<=1)(ho:o<=1)(hp:p<=1)(hm:m<=63):mO (nX [.cell 6 (some 4),.tmp 7,.tmp 8] ((Dn prog).code afu ⟨[(1,A_ n),(2,A_ r),(6,.ptr 0 0),(9,.own false 1 [[.int .i64 o],[.int .i64 q],[.int .i64 s],[.int .i64 m],[.int .i64 p]])],⟨[(0,.cells ic)],1⟩⟩)) =
  if (o=0∧p=0)∧aG.may r.toNat ⟨q,s,m,[1]⟩ then some (.tup [.agg (HB ⟨q,s,m,[1]⟩),A_ n,A_ 0]) else some (.tup [.agg ic,A_ 0,A_ 8]):=by
 have hc:=Pj r m q s [1] hr o_ o_ o_ s_ s_;have h1:am [1]=[[.int .i64 1]]:=rfl;rw[h1]at hc;have h2:(o:Int)+p=0↔o=0∧p=0:=o_;simp(maxSteps:=9^6)(disch:=first|omega|assumption|exact dP rfl) [ac,aa,hc,ah jq,h2];rfl
theorem aq7 (n r:Int)(o s m:Nat)(l:C_)(hr:eC r)(hs:s<=1)(ho:o<=1)(hm:m<=63)(hl:l.length=7)(hl1:∀x∈l,x<=1):mO (nX [.cell 6 (some 4),.tmp 7,.tmp 8] ((Dn prog).code afu ⟨[(1,A_ n),(2,A_ r),(6,.ptr 0 0),(9,.own false 1 ([.int .i64 o]::[.int .i64 2]::[.int .i64 s]::[.int .i64 m]::aS l))],⟨[(0,.cells ic)],1⟩⟩)) =
  if o=0∧aG.may r.toNat ⟨2,s,m,grow [1] l⟩ then some (.tup [.agg (HB ⟨2,s,m,grow [1] l⟩),A_ n,A_ 0]) else some (.tup [.agg ic,A_ 0,A_ 8]):=by
 have g1:=N7 (l:=l) (g:=[1]);have g2:=N4 (l:=l) (g:=[1]) (t:=100) s_ t_ o_;have hlo:=acY n r o m o 2 s l hl hl1 7 0 1 4 o_ o_ o_;have c2:((2:Nat):Int)=2:=rfl;rw[jP]at hlo;generalize hg:grow [1] l=g at *;by_cases hn:g.length=1
 .obtain⟨x,rfl⟩:=List.length_eq_one_iff.1 hn;rw[ac hn]at hlo;have h1:am [x]=[[.int .i64 x]]:=rfl;have hc:=Pj r m 2 s [x] hr o_ o_ o_ s_ g2;rw[h1]at hc;have h3:nth [x] 0=x:=rfl;rw[h3]at hlo;simp only[adK,adF,hpB,ic,c2]at hlo hc;simp(maxSteps:=9^6)(disch:=first|omega|assumption|exact dP rfl) [ac,aa,hc,hlo];rfl
 .rw[aa hn]at hlo;have hgl:g.length<=100:=by simp at g1;omega
  have hc:=Pj r m 2 s g hr o_ o_ o_ hgl g2;have h5:3<=g.length+1:=by
   have:g≠[]:=by
    rw[<-hg];have:∀(l:C_) (g:E_),g≠[]->grow g l≠[]:=by
     intro l
     induction l with
     |nil=>intro g h;simpa [grow]
     |cons x r ih =>
      intro g h;rw[grow];refine ih _ ?_;split
      .intro h2;exact h (by simpa using h2)
      .simp
    exact this _ _ (by simp)
   have:=bG.2 this;omega
  simp only[adK,adF,hpB,hpA,ic,c2]at hlo hc;generalize hN:g.length+1=N at *;generalize hM:g.length+2=M at *;simp(maxSteps:=9^6)(disch:=first|omega|assumption|exact dP rfl) [ac,aa,hc,hlo];rfl
abbrev Dj (e:Nat)(N:Nat):I_:=some (.ret,⟨[(6,.ptr 0 0),(7,A_ 0),(8,A_ (e+1))],⟨[(0,.cells ic)],N⟩⟩)
theorem afA (b:C_)(r a:Int)(N:Nat)(hb:b.length<=1000000000)(ha:i64 a) :
  (Dn prog).code (.loop jm) ⟨[(0,.d (.lst (ax b))),(1,A_ a),(2,A_ r),(6,.ptr 0 0),(9,.nl),(30,.own false 1 [[.int .i64 1],[.int .i64 2],[.int .i64 1]]),(31,A_ 3),(32,A_ 0)],⟨[(0,.cells ic)],N⟩⟩ =
   rK (pG b 1) (aE b a 1) (λo n=>rK (pG b 2) (aE b n 2) (λq n=>rK (pG b 1) (aE b n 1) (λs n=>some (.exit 0,⟨[(0,.d (.lst (ax b))),(1,A_ n),(2,A_ r),(6,.ptr 0 0),(9,.own false 1 [[.int .i64 o],[.int .i64 q],[.int .i64 s]])],⟨[(0,.cells ic)],N⟩⟩)) (λe=>Dj e N)) (λe=>Dj e N)) (λe=>Dj e N):=by
 simp(maxSteps:=9^6)(disch:=first|omega|assumption|exact dP rfl) [ac,aa,jg,ah LR]
abbrev Mn (T:VC):VC:=(.seq r9 (.seq (.seq sc (.cond (.m 28) (.seq (K [0,1,2]) (.seq sq .ret)) .skip)) (.seq r7 (.seq (.seq sE (.block 0 (.seq (.loop jm) (K [30,31,32])))) T))))
abbrev Bc (T:VC):VC:=(.seq rA (.seq (.seq qL (.cond (.m 58) (.seq (K [15]) qQ) .skip)) (.seq (.seq qN (.block 2 (.seq (.loop fE) (K [0,15,16])))) T)))
theorem at6 (b:C_)(r a:Int)(hb:b.length<=1000000000)(ha:i64 a)(T:VC)(hr:eC r):(Dn prog).code (Mn T) ⟨[(0,.d (.lst (ax b))),(1,A_ a),(2,A_ r)],⟨[],0⟩⟩ =
   rK (pG b 1) (aE b a 1) (λo n=>rK (pG b 2) (aE b n 2) (λq n=>rK (pG b 1) (aE b n 1) (λs n=>(Dn prog).code T ⟨[(0,.d (.lst (ax b))),(1,A_ n),(2,A_ r),(6,.ptr 0 0),(9,.own false 1 [[.int .i64 o],[.int .i64 q],[.int .i64 s]])],⟨[(0,.cells ic)],1⟩⟩) (λe=>Dj e 1)) (λe=>Dj e 1)) (λe=>Dj e 1):=by
 simp(config := { maxSteps:=100000 }) (disch:=first|omega|assumption) [ac,aa,afA]
theorem au3 (b:C_)(r:Int)(o q s n:Nat)(hb:b.length<=1000000000)(hn:n<=b.length)(T:VC):(Dn prog).code (Bc T) ⟨[(0,.d (.lst (ax b))),(1,A_ n),(2,A_ r),(6,.ptr 0 0),(9,.own false 1 [[.int .i64 o],[.int .i64 q],[.int .i64 s]])],⟨[(0,.cells ic)],1⟩⟩ =
  if q=2 then rK (pG b 4) (aE b n 4) (λm n=>rK (pB b 7) (je b 7 n) (λl n=>(Dn prog).code T ⟨[(1,A_ n),(2,A_ r),(6,.ptr 0 0),(9,.own false 1 ([.int .i64 o]::[.int .i64 q]::[.int .i64 s]::[.int .i64 m]::aS l))],⟨[(0,.cells ic)],1⟩⟩) (λe=>Dj e 1)) (λe=>Dj e 1)
  else rK (pG b 6) (aE b n 6) (λm n=>rK (pG b 1) (aE b n 1) (λp n=>(Dn prog).code T ⟨[(1,A_ n),(2,A_ r),(6,.ptr 0 0),(9,.own false 1 [[.int .i64 o],[.int .i64 q],[.int .i64 s],[.int .i64 m],[.int .i64 p]])],⟨[(0,.cells ic)],1⟩⟩) (λe=>Dj e 1)) (λe=>Dj e 1):=by
 by_cases h2:q=2
 .rw[ac h2];simp(config := { maxSteps:=40000 }) (disch:=first|omega|assumption|exact dP rfl) [ac,aa0]
 .rw[aa h2];simp(config := { maxSteps:=40000 }) (disch:=first|omega|assumption|exact dP rfl) [aa,aaW]
theorem Z6 (e:Nat):mO (nX [.cell 6 (some 4),.tmp 7,.tmp 8] (Dj e 1))=some (.tup [.agg ic,A_ 0,A_ (e+1)]):=by
 simp
theorem KE (b:C_)(a r:Int)(hb:b.length<=1000000000)(ha:i64 a):bn prog qg [.d (.lst (ax b)),A_ a,A_ r] =
  if eC r then rK (pI b r.toNat) (fW b a r.toNat) (λi n=>some (.tup [.agg (HB i),A_ n,A_ 0])) λe=>some (.tup [.agg ic,A_ 0,A_ (e+1)])
  else some (.tup [.agg ic,A_ 0,A_ 2]):=by
 rw[aL Rr Rc rfl];by_cases hr:eC r
 .rw[ac hr,fW];refine(aY (λx=>mO (nX [.cell 6 (some 4),.tmp 7,.tmp 8] x)) (at6 b r a hb ha (Bc afu) hr)).trans ?_;show mO (nX _ (rK _ _ _ _))=_;simp only[Zp,YA,Z6,ky];refine cy (λ_ _=>rfl) (λo n ho=>?_) λ_=>rfl
  refine cy (λ_ _=>rfl) (λq n hq=>?_) λ_=>rfl
  refine cy (λ_ _=>rfl) (λs n hs=>?_) λ_=>rfl
  have ho1:o<2:=ho.1;have hq1:q<4:=hq.1;have hs1:s<2:=hs.1;rw[au3 b r o q s n hb hs.2];by_cases h2:q=2
  .subst h2;rw[ac rfl,ac rfl];simp only[Zp,YA,Z6,ky];refine cy (λ_ _=>rfl) (λm n hm=>?_) λ_=>rfl
   have hm1:m<16:=hm.1;rw[ahj hm.2];refine cy (λ_ _=>rfl) (λl n hl=>?_) λ_=>rfl
   rw[TK λh=>⟨h.2,hl.2.1,by have:=N7 (l:=l) (g:=[1]);have:=hl.1;simp at *;omega⟩];exact aq7 n r o s m l hr o_ o_ o_ hl.1 hl.2.2
  .rw[aa h2,aa h2];simp only[Zp,YA,Z6,ky];refine cy (λ_ _=>rfl) (λm n hm=>?_) λ_=>rfl
   refine cy (λ_ _=>rfl) (λp n hp=>?_) λ_=>rfl
   have hm1:m<64:=hm.1;have hp1:p<2:=hp.1;rw[TK λh=>⟨h.2,hp.2,s_⟩];exact aqc n r o s m p q hr o_ h2 o_ o_ o_ (by omega)
 .rw[aa hr];simp(maxSteps:=9^6)(disch:=first|omega|assumption) [ac,aa]
structure bl where
 book:Int
 len:Int
abbrev U_:=List bl
abbrev H_:=List (U_)
abbrev bl.cells (s:bl):V_:=[.int .i64 s.book,.int .i64 s.len]
def fj (l:U_):F_:=l.map bl.cells
@[simp] theorem Pw {l:U_}:(fj l).length=l.length:=by simp[fj]
@[simp] theorem aAM {l:U_}{s:bl}:fj (l++[s])=fj l++[s.cells]:=by simp[fj]
def yr (b:C_)(sz bQ left:Nat):Nat->Nat->Nat->R Nat
 |0,_,_=>.er 7
 |f+1,a,acc=>(aE b a sz).bind λn a=>if left<acc+n then .er 7 else if n=bQ then yr b sz bQ left f a (acc+n) else .ok (acc+n) a
abbrev pL (b:C_)(left n a:Nat):Prop:=n<=left∧a<=b.length
theorem aff {b:C_}{sz bQ left:Nat}:∀{f a acc n m:Nat},yr b sz bQ left f a acc=.ok n m->pL b left n m
 |0,_,_,_,_,h=>absurd h (by simp[yr])
 |f+1,a,acc,n,m,h=>by
  rw[yr]at h
  cases h1:aE b a sz with
  |er e=>rw[h1]at h;exact absurd h (by simp)
  |ok v k =>
   rw[h1,ao]at h;by_cases h2:left<acc+v
   .rw[ac h2]at h;exact absurd h (by simp)
   .rw[aa h2]at h;by_cases h3:v=bQ
    .rw[ac h3]at h;exact aff h
    .rw[aa h3]at h;injection h with e1 e2
     subst e1 e2;exact⟨o_,(cu h1).2⟩
theorem aqG {α γ:Type}{p:α->Nat->Prop}{b:C_}{sz bQ left f a acc:Nat}{g:Nat->Nat->R α}{F:α->Nat->γ}{G:Nat->γ}:rK p ((yr b sz bQ left f a acc).bind g) F G=rK (pL b left) (yr b sz bQ left f a acc) (λv n=>rK p (g v n) F G) G:=fF λ_ _ h=>aff h
theorem ajK {γ:Type}{b:C_}{sz bQ left f a acc:Nat}{F:Nat->Nat->γ}{G:Nat->γ}:rK (pL b left) (yr b sz bQ left (f+1) a acc) F G=rK (pG b sz) (aE b a sz) (λn a=>if left<acc+n then G 7 else if n=bQ then rK (pL b left) (yr b sz bQ left f a (acc+n)) F G else F (acc+n) a) G:=by
 rw[yr,ky];refine cy (λ_ _=>rfl) (λn a hp=>?_) λ_=>rfl
 by_cases h2:left<acc+n
 .rw[ac h2,ac h2,ee]
 .rw[aa h2,aa h2];by_cases h3:n=bQ
  .rw[ac h3,ac h3]
  .rw[aa h3,aa h3,b9 ⟨o_,hp.2⟩]
abbrev U7 (e:Nat)(h:HS):I_:=some (.ret,⟨[(6,.nl),(7,A_ 0),(8,A_ (e+1))],h⟩)
theorem ais (b:C_)(sz bQ left:Nat)(hb:b.length<=1000000000)(hsz:sz<=5)(hm:bQ=2 ^ sz-1)(hs1:1<=sz)(hl:left<=1000)(x6 x11:AV)(bk:Int)(X:Obj)(y40 y41:D)(M N:Nat)(hM:1<=M):∀(f a acc:Nat),left<acc+f->acc<=left->a<=b.length->
  (Dn prog).code (.loop BG) ⟨[(0,.d (.lst (ax b))),(5,.ptr 0 0),(6,x6),(7,A_ a),(9,A_ sz),(10,A_ bQ),(11,x11),(12,A_ left),(13,.ptr M 0),(14,A_ bQ),(40,.d y40),(41,.d y41)],⟨[(0,X),(M,.cells [A_ bk,A_ acc])],N⟩⟩ =
  rK (pL b left) (yr b sz bQ left f a acc) (λn a=>some (.exit 4,⟨[(0,.d (.lst (ax b))),(5,.ptr 0 0),(6,x6),(7,A_ a),(9,A_ sz),(10,A_ bQ),(11,x11),(12,A_ left),(13,.ptr M 0),(40,.d y40),(41,.d y41)],⟨[(0,X),(M,.cells [A_ bk,A_ n])],N⟩⟩)) (λe=>U7 e ⟨[(0,X)],N⟩):=by
 intro f
 induction f with
 |zero=>intro a acc h1 h2;omega
 |succ f ih =>
  intro a acc h1 h2 ha;rw[ah Qw,ajK];have hp2:2 ^ sz<=2 ^ 5:=aA o_ hsz;have hp3:2 ^ 1<=2 ^ sz:=aA o_ hs1;have hM0:M≠0:=o_;simp(maxSteps:=9^6)(disch:=first|omega|assumption) [↓ac,↓aa,io,hM0,pG];refine cy (λ_ _=>rfl) (λn a' hp=>?_) λ_=>rfl
  have hp4:n<2 ^ sz:=hp.1;by_cases h3:left<acc+n
  .rw[ac h3,ac o_];rfl
  .rw[aa h3,aa o_];by_cases h4:n=bQ
   .subst h4;rw[ac rfl,<-ih a' (acc+n) o_ o_ hp.2];simp
   .rw[aa h4,ah Qw];simp(maxSteps:=9^6)(disch:=first|omega|assumption) [↓ac,↓aa]
end Go.Vm
end
