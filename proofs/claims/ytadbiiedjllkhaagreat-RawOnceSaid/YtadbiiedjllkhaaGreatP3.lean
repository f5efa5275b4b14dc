import Derived.KernelRfl
import Derived.Test.YtadbiiedjllkhaaGreatP2
set_option linter.unusedVariables false
set_option linter.unusedSimpArgs false
set_option linter.defProp false
set_option linter.unusedSectionVars false
noncomputable section
namespace Go.Vm
set_option maxRecDepth 100000
set_option maxHeartbeats 8000000
theorem e_ {p:Prop}(h:p:=by decide +kernel):p:=h
theorem g_ {p:Prop}(h:p:=by simp;omega):p:=h
theorem t_ {p:Prop}(h:p:=by simp only[];omega):p:=h
def aq0:Nat->Nat->Nat->Nat->Nat×Nat
 |0,_,a,n=>(a,n)
 |f+1,m,a,n=>match Nat.ble (n % 16) 7 with
  |true=>(a+m*(n % 16),n / 16)
  |false=>aq0 f (m*8) (a+m*(n % 16-8)) (n / 16)
def fZ (α:Type):=Nat×Nat->α×(Nat×Nat)
def bN {α:Type}(x:α):fZ α:=λs=>(x,s)
def fZ.a {α β:Type}(p:fZ (α->β))(q:fZ α):fZ β:=λs=>match p s with
 |(f,s)=>match q s with
  |(x,s)=>(f x,s)
def fZ.b {α β:Type}(p:fZ α)(q:α->fZ β):fZ β:=λs=>match p s with
 |(x,s)=>q x s
def d8:fZ Nat:=λs=>match s with
 |(t,n)=>match aq0 40 1 0 n with
  |(v,n)=>(v,(t,n))
def aq2:fZ Nat:=λs=>match s with
 |(t,n)=>(t,(t,n))
def axt {α:Type}(p:fZ α):Nat->fZ (List α)
 |0=>bN []
 |k+1=>(bN .cons).a p |>.a (axt p k)
def pE {α:Type}(p:fZ α):fZ (List α):=d8.b (axt p)
def W0 (v:Nat):Bool:=Nat.beq (v % 2) 0
def akp (t v:Nat):Nat:=match W0 v with
 |true=>t-v / 2
 |false=>v / 2
def UI:fZ Nat:=d8.b λv=>aq2.b λt=>bN (akp t v)
def aqQ:fZ Nat:=λs=>match s with
 |(t,n)=>match aq0 40 1 0 n with
  |(v,n)=>match W0 v with
   |true=>(t+1+v / 2,(t+1+v / 2,n))
   |false=>(v / 2,(v / 2,n))
def alZ:Nat->Nat->Int
 |0,_=>0
 |f+1,v=>match v with
  |0=>0
  |v=>match W0 v with
   |true=>2*alZ f (v / 2)
   |false=>2*alZ f (v / 2)+1
def aBA (v:Nat):Int:=match W0 v with
 |true=>alZ 80 (v / 2)
 |false=>-alZ 80 (v / 2+1)
def adF:fZ Int:=(bN aBA).a d8
def avt:Nat->IntKind
 |0=>.i64
 |1=>.u8
 |2=>.u64
 |3=>.u32
 |_=>.i64
def Vf:fZ Bool:=(bN λv=>Nat.beq v 1).a d8
def ax5:Nat->fZ D
 |0=>bN (.bool false)
 |1=>bN (.bool true)
 |k=>(bN λz=>D.int (avt (k-2)) z).a adF
def arn:fZ D:=d8.b ax5
def aso:Nat->fZ AV
 |0=>(bN λz=>A_ z).a adF
 |1=>bN (B_ true)
 |2=>bN (B_ false)
 |3=>bN .nl
 |4=>(bN λz=>.d (.int .u8 z)).a adF
 |5=>(bN .d).a arn
 |6=>bN .nilp
 |7=>bN .nilf
 |9=>(bN λz=>.d (.int .u64 z)).a adF
 |10=>(bN λz=>.d (.int .u32 z)).a adF
 |19=>bN .junk
 |20=>(bN λf=>.fn f [] []).a d8
 |_=>bN .junk
def av5:fZ AV:=d8.b aso
def ayn:Nat->Nat->fZ Rd
 |0,v=>aq2.b λt=>bN (.m (akp t v))
 |1,v=>aq2.b λt=>bN (.s (akp t v))
 |_,v=>(bN .c).a (aso v)
def dA:fZ Rd:=d8.b λv=>ayn (v % 3) (v / 3)
def YN {α:Type}(p:fZ α):fZ (Option α):=d8.b λv=>match v with
 |0=>bN none
 |_=>(bN some).a p
def awM:fZ I_:=(bN λv=>match v with
 |0=>none
 |v+1=>some v).a d8
def aA3:Nat->BinOp
 |1=>.eql
 |2=>.lss
 |3=>.neq
 |4=>.gtr
 |5=>.sub
 |6=>.geq
 |7=>.mul
 |8=>.shr
 |9=>.leq
 |10=>.shl
 |11=>.rem
 |12=>.and
 |13=>.quo
 |14=>.or
 |_=>.add
def aBY:Nat->UnOp
 |1=>.neg
 |_=>.not
def ac1:Nat->fZ nD
 |0=>(bN .mov).a dA
 |1=>(bN .bin).a ((bN aA3).a d8) |>.a dA |>.a dA
 |2=>(bN .ld).a awM |>.a d8 |>.a dA
 |3=>(bN .fa).a d8 |>.a dA
 |4=>(bN .kill).a (pE UI)
 |5=>(bN .st).a d8 |>.a dA |>.a dA
 |6=>(bN .ext).a UI |>.a Vf |>.a d8
 |7=>(bN .call).a d8 |>.a (pE dA)
 |8=>(bN .pick).a dA |>.a dA |>.a dA
 |9=>(bN .len).a dA
 |10=>(bN .ia).a d8 |>.a dA |>.a dA
 |11=>(bN .box).a dA
 |12=>(bN .alloc).a (pE av5)
 |13=>(bN .calli).a d8 |>.a (pE dA)
 |14=>(bN .callv).a dA |>.a (pE dA)
 |15=>(bN .nilck).a dA
 |16=>(bN .un).a ((bN aBY).a d8) |>.a dA
 |17=>(bN .build).a (pE av5) |>.a (pE ((bN λa b c=>(a,b,c)).a d8 |>.a d8 |>.a dA))
 |18=>(bN .app).a d8 |>.a dA |>.a dA
 |19=>(bN .mks).a d8 |>.a (pE dA)
 |20=>(bN .conv).a ((bN avt).a d8) |>.a dA
 |21=>(bN .mkfn).a d8 |>.a (pE dA) |>.a (pE dA)
 |22=>(bN .iarr).a d8 |>.a d8 |>.a dA |>.a dA
 |23=>(bN .mkslice).a (pE arn) |>.a dA |>.a dA
 |24=>(bN .slice).a d8 |>.a dA |>.a (YN dA) |>.a (YN dA) |>.a (YN dA)
 |26=>(bN .toStr).a dA
 |27=>(bN .binb).a Vf |>.a dA |>.a dA
 |28=>(bN .minmax).a Vf |>.a (pE dA)
 |29=>(bN .ix).a d8 |>.a d8 |>.a Vf |>.a dA |>.a dA
 |30=>(bN .ixs).a dA |>.a dA
 |32=>(bN .bina).a Vf |>.a (pE Vf) |>.a dA |>.a dA
 |33=>(bN .appz).a (pE arn) |>.a dA |>.a dA
 |34=>(bN .cpy).a d8 |>.a dA |>.a dA
 |36=>(bN .mksv).a d8 |>.a (pE dA)
 |37=>(bN .slarr).a d8 |>.a dA |>.a (YN dA) |>.a (YN dA) |>.a (YN dA)
 |39=>(bN .cap).a dA
 |42=>(bN .frz).a d8
 |_=>bN .bad
def aBX:fZ (Nat×Nat):=(bN .mk).a d8 |>.a d8
def azw:Nat->Nat->fZ VI
 |0,o=>aqQ.b λd=>(bN λo=>⟨some d,none,o,[]⟩).a (ac1 o)
 |1,o=>(bN λo=>⟨none,none,o,[]⟩).a (ac1 o)
 |2,o=>aqQ.b λd=>UI.b λg=>(bN λo=>⟨some d,some (g,true),o,[]⟩).a (ac1 o)
 |_,o=>aqQ.b λd=>UI.b λg=>(bN λo=>⟨some d,some (g,false),o,[]⟩).a (ac1 o)
def alI (v:Nat):fZ VI:=azw (v % 4) (v / 4)
def ayS:Nat->fZ VI
 |184=>(bN fun(th:R_) (x:VI)=>⟨x.dst,x.guard,x.op,th⟩).a (pE aBX) |>.a (d8.b alI)
 |181=>(bN fun(g:Nat) (w:Bool) (x:VI)=>⟨x.dst,some (g,w),x.op,x.th⟩).a UI |>.a Vf |>.a (d8.b alI)
 |v=>alI v
def avx:fZ VI:=d8.b ayS
def ay5 (s:List VC)(r:fZ VC):Nat->fZ VC
 |0=>(bN .seq).a r |>.a r
 |1=>(bN (.reg false)).a (pE avx)
 |2=>(bN .cond).a dA |>.a r |>.a r
 |3=>(bN K).a (pE UI)
 |4=>bN .skip
 |5=>bN .ret
 |6=>(bN .block).a d8 |>.a r
 |7=>(bN λk=>s.getD k .skip).a d8
 |8=>(bN F).a UI
 |9=>(bN .exit).a d8
 |10=>(bN .loop).a r
 |11=>(bN (.reg true)).a (pE avx)
 |12=>(bN .rangeF).a dA |>.a (pE d8) |>.a r |>.a r
 |13=>(bN .scope).a r
 |14=>(bN .label).a d8
 |15=>(bN .goto).a d8
 |16=>(bN .clone).a d8
 |_=>bN .skip
def aqu (s:List VC):Nat->fZ VC
 |0=>bN .skip
 |f+1=>d8.b (ay5 s (aqu s f))
def aAS:fZ rG:=d8.b λv=>match W0 v with
 |true=>bN (.tmp (v / 2))
 |false=>(bN (.cell (v / 2))).a awM
def bp (s:List VC)(n:Nat):VC:=(aqu s 1000 (0,n)).1
def aP (s:List VC)(n:Nat):aj:=((bN .mk).a d8 |>.a (pE aAS) |>.a (aqu s 1000) <|(0,n)).1
def aI {α:Type}(c:α){d:α}(h:c=d:=by show ?c=?d;refine(?f:?c=?d->?c=?d) ?h;rotate_left;cbv;exact λ_=>by kernel_rfl):c=d:=h
def cf {α:Type}(c:α){k d:α}(h:k=d)(g:c=k:=by exact rfl):c=d:=g.trans h
abbrev O:AV:=A_ 0
abbrev O8:AV:=.d (.int .u8 0)
abbrev Q (n:Int):Rd:=.c (.d (I n))
abbrev tt:Rd:=.c (B_ true)
abbrev ff:Rd:=.c (B_ false)
abbrev A (d s:Nat):VI:=V d (.mov (.m s))
abbrev B (d s:Nat):VI:=V d (.mov (.s s))
abbrev C (d:Nat)(s:Rd):VI:=V d (.mov s)
abbrev M (d s:Nat):VI:=V d (.ld none 0 (.m s))
abbrev G (d s:Nat):VI:=V d (.ld none 0 (.s s))
abbrev Z (l:C_):VI:=N (.kill l)
abbrev H (d:Nat)(f:FuncId)(l:U_):VI:=V d (.call f l)
abbrev L (d:Nat)(o:BinOp)(x y:Nat):VI:=V d (.bin o (.m x) (.m y))
abbrev P (d:Nat)(o:BinOp)(x:Nat)(n:Int):VI:=V d (.bin o (.m x) (Q n))
abbrev J (d:Nat)(o:BinOp)(x y:Nat):VI:=V d (.bin o (.s x) (.s y))
abbrev X (d n s:Nat):VI:=V d (.fa n (.s s))
abbrev E (d s:Nat)(x:Bool)(n:Nat):VI:=V d (.ext s x n)
abbrev Yd (n a b:Nat):VI:=N (.st n (.s a) (.m b))
abbrev Rg (l:S_):VC:=.reg false l
def unp (q:C_)(l:S_):S_:=q.filterMap λi=>l[i]?
abbrev oz:Nat:=3
abbrev zE:Nat:=4
abbrev mL:Nat:=5
abbrev MX:Nat:=6
abbrev DG:Nat:=7
abbrev xL:Nat:=8
abbrev OF:Nat:=9
abbrev FU:Nat:=10
abbrev Ha:Nat:=11
abbrev ET:Nat:=12
abbrev kH:Nat:=13
abbrev jh:Nat:=14
abbrev Bo:Nat:=15
abbrev rT:Nat:=16
abbrev uc:Nat:=17
abbrev oy:Nat:=18
abbrev amj:Nat:=19
abbrev Kk:Nat:=20
abbrev E9:Nat:=21
abbrev axW:Nat:=22
abbrev Ki:Nat:=23
abbrev JK:Nat:=24
abbrev Ar:Nat:=25
abbrev TV:Nat:=26
abbrev vu:Nat:=27
abbrev vX:Nat:=28
abbrev JV:Nat:=29
abbrev xy:Nat:=30
abbrev nc:Nat:=31
abbrev DB:Nat:=32
abbrev xO:Nat:=33
abbrev Vs:Nat:=34
abbrev xT:Nat:=35
abbrev SY:Nat:=36
abbrev xK:Nat:=37
abbrev xM:Nat:=38
abbrev nf:Nat:=39
abbrev NQ:Nat:=40
abbrev KO:Nat:=41
abbrev xP:Nat:=42
abbrev PX:Nat:=43
abbrev wF:Nat:=44
abbrev lN:Nat:=45
abbrev Ls:Nat:=46
abbrev r8:Nat:=47
abbrev akl:Nat:=48
abbrev ak6:Nat:=49
abbrev Z3:Nat:=50
abbrev acZ:Nat:=51
abbrev agI:Nat:=52
abbrev fe:Nat:=53
abbrev By:Nat:=54
abbrev abE:Nat:=55
abbrev M9:Nat:=56
abbrev rJ:Nat:=57
abbrev DO:Nat:=58
abbrev rW:Nat:=59
abbrev Ez:Nat:=60
abbrev iS:Nat:=61
abbrev SN:Nat:=62
abbrev qR:Nat:=63
abbrev EQ:Nat:=64
abbrev oL:Nat:=65
abbrev QT:Nat:=66
abbrev Cr:Nat:=67
abbrev KH:Nat:=68
abbrev BS:Nat:=69
abbrev P6:Nat:=70
abbrev O7:Nat:=71
abbrev S9:Nat:=72
abbrev E4:Nat:=73
abbrev LC:Nat:=74
abbrev px:Nat:=75
abbrev Af:Nat:=76
abbrev Ba:Nat:=77
abbrev CT:Nat:=78
abbrev EA:Nat:=79
abbrev S8:Nat:=80
abbrev iw:Nat:=81
abbrev Pg:Nat:=82
abbrev atz:Nat:=83
abbrev TJ:Nat:=84
abbrev Nz:Nat:=85
abbrev abW:Nat:=86
abbrev xp:Nat:=87
abbrev zG:Nat:=88
abbrev FO:Nat:=89
abbrev pf:Nat:=90
abbrev yR:Nat:=91
abbrev vg:Nat:=92
abbrev mR:Nat:=93
abbrev Au:Nat:=94
abbrev QR:Nat:=95
abbrev uh:Nat:=96
abbrev XC:Nat:=97
abbrev SV:Nat:=98
abbrev Fm:Nat:=99
abbrev F6:Nat:=100
abbrev vU:Nat:=101
abbrev Cw:Nat:=102
abbrev Ct:Nat:=103
abbrev AY:Nat:=104
abbrev CL:Nat:=105
abbrev Hm:Nat:=106
abbrev CE:Nat:=107
abbrev Dh:Nat:=108
abbrev CY:Nat:=109
abbrev An:Nat:=110
abbrev BM:Nat:=111
abbrev uR:Nat:=112
abbrev iK:Nat:=113
abbrev mr:Nat:=114
abbrev AJ:Nat:=115
abbrev Tp:Nat:=116
abbrev Gu:Nat:=117
abbrev ao3:Nat:=118
abbrev yF:Nat:=119
abbrev DS:Nat:=120
abbrev gn:Nat:=121
abbrev rO:Nat:=122
abbrev G5:Nat:=123
abbrev BK:Nat:=124
abbrev rY:Nat:=125
abbrev QY:Nat:=126
abbrev N6:Nat:=127
abbrev NI:Nat:=128
abbrev Dx:Nat:=129
abbrev Ix:Nat:=130
abbrev pi:Nat:=131
abbrev NW:Nat:=132
abbrev SL:Nat:=133
abbrev Pc:Nat:=134
abbrev zH:Nat:=135
abbrev SR:Nat:=136
abbrev Ji:Nat:=137
abbrev KI:Nat:=138
abbrev TM:Nat:=139
abbrev TY:Nat:=140
abbrev fo:Nat:=141
abbrev nJ:Nat:=142
abbrev Oy:Nat:=143
abbrev TW:Nat:=144
abbrev wZ:Nat:=145
abbrev aw4:Nat:=146
abbrev sT:Nat:=147
abbrev tp:Nat:=148
abbrev Fw:Nat:=149
abbrev lV:Nat:=150
abbrev mJ:Nat:=151
abbrev IP:Nat:=152
abbrev VU:Nat:=153
abbrev W5:Nat:=154
abbrev Fl:Nat:=155
abbrev BR:Nat:=156
abbrev ao9:Nat:=157
abbrev Fq:Nat:=158
abbrev arN:Nat:=159
abbrev tw:Nat:=160
abbrev uG:Nat:=161
abbrev nb:Nat:=162
abbrev cL:Nat:=163
abbrev apa:Nat:=164
abbrev ao8:Nat:=165
abbrev tF:Nat:=166
abbrev qa:Nat:=167
abbrev uE:=[V 42 (.mks 1 []),B 43 1,V 44 (.app 1 (.m 42) (.m 43)),V 45 (.mks 1 [.c (.d (.int .u8 0))]),V 46 (.app 1 (.m 44) (.m 45)),V 41 (.ld (some 4) 0 (.s 2)),H 47 mL [.m 41,.m 46],A 40 47,E 48 40 true 0,E 49 40 false 1,V 10 (.alloc [.nl,B_ false,O,.nl,.nl]),Yd 5 10 48,A 11 49]
def mj:VC:=.regP [1,2,3,4,5,0,6,7,8,9,10,11,12] [0,1,2,3,4,5,6,7,8,10,11,9,12] [] (unp [5,0,1,2,3,4,6,7,8,9,10,11,12] uE)
abbrev uJ:=[V 51 (.ld (some 4) 0 (.s 2)),B 52 1,B 53 1,V 54 (.len (.m 53)),P 55 .sub 54 1,V 56 (.slice 1 (.m 52) none (some (.m 55)) none),H 57 mL [.m 51,.m 56],A 50 57,E 58 50 true 0,E 59 50 false 1,V 12 (.alloc [.nl,B_ false,O,.nl,.nl]),Yd 5 12 58,A 13 59]
def md:VC:=.regP (.range 13) [0,1,2,3,4,5,6,7,8,10,11,9,12] [] uJ
def wV (a0 a1:VC):aj:=aP [a0,a1] 0x151d1841802cb2c92bb2b92ab2a929f29d28f28d28b2891ff3b2f29329297df1901872a04802734061aa2026001872a048027340618e2026001873e0480271180671d218603e5806401a2805201a6001874c04872b11a0671801da1a6027401da6c202600026104791cc03910039181cd13017002d181a9130070018d1293dd003cf290101a03801186383c918d061c2703c580601828057c181910451d1839919061c2603c03300235018c5816018410051831300020263045d5a021005f1292db002cd152d33002351d68101a03801186382bf5f061c2503c1a0028054e181a1041b130528f1904900210518313000224229752a048704018b4a2036007ec826404604c1a2a0181001af1b0042a3c21001291820325c3101812
def Iq (a0 a1:VC):=aI (wV a0 a1)
def oG:aj:=wV mj md
def oD:=cf oG (Iq mj md)
def rB:aj:=aP [] 0x151bf1bd1bb1b91ab1a919f19918f1897f796f1f1d1b1929294cb101873e0481e1e711806700601a6271405a5820260018738048182716067404e582026001872a04802714065e2026001872a0481882714063c2026001872a04802714064a2026002d4a03a1051831804f1292ab0029d1d0101a038011863828f4f061c2703c28160181a153c18191003b1291df001d9190101a03800186381cb3b061c21a03c28060181a052c1819102912919b0018d152d7f742d330023506800200004368201803811603801423879290019283c1b1001291810210010
def Lc:=aI rB
def yh:VC:=bp [] 0x11cad3ed0226e004216012d383e105822610422621e06c580079006c3ce0711bdb2b01d002104603192423040201d723ec4110
def OE:=aI yh
def N9 (a0:VC):VC:=bp [a0] 0x11cff3ab02238e004216012d3c301c62a10198611019c28e2d96b006100183c32a1c1810223071a0360200604c6c3be031003dd1291b9d290770101bc0012f86000185e201c51041192e3823002246181a529754c04802731a077001801b72601f7407f582036002263046000183c201c1b1002601192423040201d723aa4110
def abQ (a0:VC):=aI (N9 a0)
def ft:VC:=N9 yh
def EX:=cf ft (abQ yh)
def CZ:VC:=.regP (.range 7) [0,5,1,2,3,4,6] [4,5] [V 148 (.build [.nl,B_ false,O,.nl,.nl] []),A 149 6,V 150 (.nilck (.m 149)),V 151 (.fa 2 (.m 150)),M 152 151,Yd 5 4 148,A 5 152]
abbrev NG:=[B 154 6,B 155 6,B 156 6,V 157 (.nilck (.m 156)),V 158 (.fa 0 (.m 157)),M 159 158,B 160 6,V 161 (.nilck (.m 160)),V 162 (.fa 1 (.m 161)),M 163 162,X 164 0 2,M 165 164,X 166 1 4,M 167 166,V 168 (.ld (some 4) 0 (.s 7)),H 169 rT [.m 159,.m 163,.m 165,.m 167,.m 168],A 153 169,E 170 153 true 0,E 171 153 false 1,E 172 153 false 2,Yd 9 10 170,V 173 (.nilck (.m 154)),V 174 (.fa 1 (.m 173)),N (.st 1 (.m 174) (.m 171)),V 175 (.nilck (.m 155)),V 176 (.fa 2 (.m 175)),N (.st 1 (.m 176) (.m 172))]
def CF:VC:=.regP (.range 27) [2,3,4,5,6,7,8,9,10,11,12,13,14,15,16,17,20,0,18,21,22,23,1,19,24,25,26] [] NG
def Dm:VC:=.regP (.range 7) [0,5,1,2,3,4,6] [4,5] [V 182 (.build [.nl,B_ false,O,.nl,.nl] []),A 183 6,V 184 (.nilck (.m 183)),V 185 (.fa 2 (.m 184)),M 186 185,Yd 5 4 182,A 5 186]
def NY (a0 a1 a2:VC):VC:=bp [a0,a1,a2] 0x12a994bb0224f8004212d186012d3c001c62a1901986119019c18811a0186100183c01a1c710452702d181f185181a81aa230000020263046000186201c607c5859c05104eb13170003333300040400192d68110450701f185181c1e23000020263046000186201c607c580051006605191f18518242300040201d724ba4110
def acR (a0 a1 a2:VC):=aI (NY a0 a1 a2)
def eQ:VC:=NY CZ CF Dm
def xU:=cf eQ (acR CZ CF Dm)
def tz:VC:=.regP [0,1,3,4,5,2,6,7] (.range 8) [2,4] [B 34 6,B 35 6,V 36 (.calli jh [.m 35,Q 3]),X 37 1 2,M 38 37,P 39 .sub 38 1,L 40 .eql 36 39,V 41 (.calli kH [.m 34,.m 40])]
abbrev yf:=Rg [B 42 6,B 43 6,V 44 (.calli jh [.m 43,Q 4]),P 45 .eql 44 0,V 46 (.calli kH [.m 42,.m 45]),Z [46]]
abbrev yg:=Rg [V 7 (.alloc [O8,O8,O,.nl])]
abbrev qG:=Rg [X 47 1 2,M 48 47,P 49 .eql 48 2]
abbrev qM:=Rg [B 50 6,V 51 (.calli jh [.m 50,Q 1]),P 52 .eql 51 1,X 53 1 4,N (.st 1 (.m 53) (.m 52))]
abbrev kE:=Rg [X 54 1 4,M 55 54,A 56 55,W 56 57 (.mov (.s 6)),W 56 58 (.nilck (.s 57)),W 56 59 (.fa 2 (.s 58)),W 56 60 (.ld none 0 (.s 59)),W 56 61 (.bin .eql (.s 60) (Q 0)),V 62 (.pick (.m 56) (.s 61) ff),Z [57,58,59,60,61]]
abbrev Oj:=[B 64 6,B 65 6,B 66 6,V 67 (.nilck (.m 66)),V 68 (.fa 0 (.m 67)),M 69 68,B 70 6,V 71 (.nilck (.m 70)),V 72 (.fa 1 (.m 71)),M 73 72,X 74 0 2,M 75 74,H 76 Bo [.m 69,.m 73,.m 75],A 63 76,E 77 63 true 0,E 78 63 false 1,E 79 63 false 2,Yd 4 7 77,V 80 (.nilck (.m 64)),V 81 (.fa 1 (.m 80)),N (.st 1 (.m 81) (.m 78)),V 82 (.nilck (.m 65)),V 83 (.fa 2 (.m 82)),N (.st 1 (.m 83) (.m 79))]
def we:VC:=.regP (.range 24) [2,3,4,5,6,7,8,9,10,11,12,13,14,17,0,15,18,19,20,1,16,21,22,23] [] Oj
abbrev Dg:=Rg [B 84 6,V 85 (.nilck (.m 84)),V 86 (.fa 2 (.m 85)),M 87 86,P 88 .neq 87 0]
def wn:VC:=.regP (.range 7) [0,5,1,2,3,4,6] [4,5] [V 89 (.build [.nl,B_ false,O,.nl,.nl] []),A 90 6,V 91 (.nilck (.m 90)),V 92 (.fa 2 (.m 91)),M 93 92,Yd 5 4 89,A 5 93]
abbrev wB:=Rg [B 94 6,V 95 (.calli jh [.m 94,Q 2]),X 96 2 4,N (.st 1 (.m 96) (.m 95))]
abbrev wb:=Rg [B 97 6,X 98 2 4,M 99 98,P 100 .lss 99 3,V 101 (.calli kH [.m 97,.m 100]),Z [101]]
abbrev wc:=Rg [X 102 3 7,M 103 102,V 104 (.len (.m 103)),C 105 (Q 0)]
abbrev C3:=Rg [X 139 1 2,M 140 139,C 141 (Q 0)]
abbrev Dq:=Rg [B 195 6,V 196 (.calli uc [.m 195]),A 194 196,E 197 194 true 0,E 198 194 false 1,X 199 4 4,N (.st 1 (.m 199) (.m 197)),Z [194,198]]
abbrev Cb:=Rg [B 200 6,V 201 (.nilck (.m 200)),V 202 (.fa 2 (.m 201)),M 203 202,P 204 .neq 203 0]
def wt:VC:=.regP (.range 7) [0,5,1,2,3,4,6] [4,5] [V 205 (.build [.nl,B_ false,O,.nl,.nl] []),A 206 6,V 207 (.nilck (.m 206)),V 208 (.fa 2 (.m 207)),M 209 208,Yd 5 4 205,A 5 209]
abbrev CR:VC:=(.reg true [
 B 210 6,
 V 211 (.nilck (.m 210)),
 V 212 (.fa 0 (.m 211)),
 M 213 212,
 V 214 (.len (.m 213)),
 B 215 6,
 V 216 (.nilck (.m 215)),
 V 217 (.fa 1 (.m 216)),
 M 218 217,
 L 219 .sub 214 218,
 P 220 .gtr 219 7,
 A 221 220,
 U 221 222 (.mov (.s 6)),
 U 221 223 (.nilck (.s 222)),
 U 221 224 (.fa 0 (.s 223)),
 U 221 225 (.ld none 0 (.s 224)),
 U 221 226 (.mov (.s 6)),
 U 221 227 (.nilck (.s 226)),
 U 221 228 (.fa 1 (.s 227)),
 U 221 229 (.ld none 0 (.s 228)),
 U 221 230 (.slice 1 (.s 225) (some (.s 229)) none none),
 U 221 231 (.call oy [.s 230,.c (.d (.int .u8 1))]),
 V 232 (.pick (.s 221) tt (.s 231))])
abbrev Cc:=Rg [V 233 (.build [.nl,B_ false,O,.nl,.nl] []),Yd 5 4 233,C 5 (Q 8)]
abbrev Cy:=Rg [V 234 (.ld (some 5) 0 (.s 4)),Yd 5 4 234,C 5 (Q 0)]
def VH (a0 a1 a2 a3 a4 a5 a6 a7 a8 a9 a10 a11 a12 a13 a14 a15 a16 a17 a18 a19 a20:VC):aj:=aP [a0,a1,a2,a3,a4,a5,a6,a7,a8,a9,a10,a11,a12,a13,a14,a15,a16,a17,a18,a19,a20] 0x152c70452b702deb279f79d79b79978f78d78b7896ff6fd6fb1d1c32a70004529702b9b2287001f701f185184bb4b923001e71a0561d70043ab3a9231c71a0161b701a7019704518701f185180018ab27701ff13670005ef257004474d9237002701701ab13070041e2292a012d6001c3e07c101a03801186382e96d0611c03c1900585801a102b91d0605c00000334c18c31045621b003c52d3c061c18310518313000228f4906384046688270460001828101c604c1a2e07105421b003c52d3c0661831051831300021af2f0600188611b03c28051c18410060012902003300235268325c4101a61922
def akJ (a0 a1 a2 a3 a4 a5 a6 a7 a8 a9 a10 a11 a12 a13 a14 a15 a16 a17 a18 a19 a20:VC):=aI (VH a0 a1 a2 a3 a4 a5 a6 a7 a8 a9 a10 a11 a12 a13 a14 a15 a16 a17 a18 a19 a20)
def Mz:aj:=VH tz yf yg qG qM kE we Dg wn wB wb wc ft C3 eQ Dq Cb wt CR Cc Cy
def aly:=cf Mz (akJ tz yf yg qG qM kE we Dg wn wB wb wc ft C3 eQ Dq Cb wt CR Cc Cy)
def Il:VC:=bp [] 0x15891b0226004491be03145181901107185181b130000260018864c22b03c601a01861c190584a006000182e001c601a01861c190584a0060001828041c1c1b01600191b130402638204604c60001828001c4a1bc05100
def Ik:VC:=bp [] 0x118fd1f02260045d2ea03145181901107185181f1d230000266e101dc60001861c10585e0060001861c105858006000182e301c60001861c10585e0060001861c1058580060001828341c291b05604191f13040265a204604c60001861c1058580060001828301c5e2da018100
def Ip (a0:VC):VC:=bp [a0] 0x16eb1d02260044f1fe031013071a046024011045181901107185181d130000265a304604c60001861c105858006000182e301c604c60001861c1058580060001828341c1d1b003602197185181d13000402638204604c60001828301c5828a05100
def Ii:VC:=Ip Ik
def Mw (a0 a1:VC):aj:=aP [a0,a1] 0x15519011061851801300171a02602001100013071a0060200110045181901107185180002246181a1c1e2c2e383a3c3e484e585a5c5e5d5b4d4b493f3d3a29756804873931e0771c04f7001a01b2e31801f7604f700401b283201f600756804873931e0771c04f7001a01b2e01801f7604f700401b280201f600756804873931e0771c01db7001a01b2e41801f7601db700401b284201f600754c04872b31a077001801b2e2601f700401b282201f60062a101dc6000182e101c60001828161c58100012918001905c325c4101812
def Nu:aj:=Mw Il Ii
def Kc:aj:=aP [] 0x154185180491291df001d9190104038012038612c03c61c22d03c2e1601828151e181910041d130519b001b1904c0031071851800020263043960210791d061c21803c2e06018280521841000222902001b001905c325c5101a1822
def J2:=aI Kc
def JN:aj:=aP [] 0x1528f1904f3e021042a21d0111d13002518246181a1b6291874c04873941a0676888271806700601a281401e4a202600026104581c01a10006181f12919b0018d1b0101a03800186387f1f061c21a03c2e16018280561819100012902001905c325c4101812
def air:=aI JN
def Kn:VC:=.regP (.range 9) [0,6,1,2,3,7,4,5,8] [1,6] [V 11 (.build [O,O,B_ false,O] [(1,1,Q 1)]),V 12 (.ld (some 9) 0 (.s 3)),V 13 (.mks 9 [.m 12]),V 14 (.build [.nl,B_ false,O,.nl,.nl] [(0,1,.m 13)]),A 15 4,P 16 .eql 15 0,Yd 4 0 11,Yd 5 1 14,A 2 16]
def OI (a0:VC):aj:=aP [a0] 0x1521807001b1297f00791192d333330004040019768101a03801186386b1b060222e03c613130004044018c2211619c1a10012918003300235068002000041684104635130
def OP:aj:=OI Kn
def Mc:aj:=aP [] 0x15418518002001df190604c61c22d03c2e1601828152a18610045282000219021071851800021af2d060018861c22f03c2e0601828051a1851054200021902106185180002791d0600188611b03c280521841006002229020002001905c325c5101a1822
def M5:=aI Mc
def Gz:aj:=aP [] 0x152184f4d4b493f3d3b392b291f1b291fb501876e04875392804a4271607700401b1a1201f718022271606700401a1a1201e600187380482e2719606700401a1a0201e6000266046000181a001c2c10001291800305c310411
def adG:=aI Gz
def sW:VC:=bp [] 0x15f4b493f4292ab1c021
def Uf:=aI sW
def sE:VC:=bp [] 0x103b12d62a10198611019c5d003c1068185136
def Uh:=aI sE
def Hz (a0 a1:VC):VC:=bp [a0,a1] 0x12e94b02219801a421018170738111c026282623806c6001a84f3c03101fb1d06000181d39105831016001924633040201d724a4110
def UN (a0 a1:VC):=aI (Hz a0 a1)
def sM:VC:=Hz sW sE
def yG:=cf sM (UN sW sE)
def Ny (a0:VC):aj:=aP [a0] 0x1502002ef503b10381831002433071a0060200704c32c031001af112d31196860203101bc6282704604c41e06104562001b502101130022888888826404604c418031000222902001b203106421
def acw (a0:VC):=aI (Ny a0)
def EF:aj:=Ny sM
def acS:=cf EF (acw sM)
def yC:aj:=aP [] 0x141130282012d6201c607c3004102246181a5291874c04802711a067001801a72601e7407e420260060018819601a1002
def T9:=aI yC
abbrev DP:=[B 13 0,V 14 (.nilck (.m 13)),V 15 (.fa 0 (.m 14)),M 16 15,B 17 0,V 18 (.nilck (.m 17)),V 19 (.fa 1 (.m 18)),M 20 19,A 21 1,H 22 Ar [.m 16,.m 20,.m 21],A 12 22,E 23 12 false 0,E 24 12 false 1,E 25 12 false 2,A 4 23,A 5 24,A 6 25]
def um:VC:=.regP (.range 17) [0,1,2,3,4,5,6,7,8,9,10,11,14,12,15,13,16] [] DP
def G7 (a0:VC):aj:=aP [a0] 0x153bb1903b0021041b12301c012d6101c1c07c490030051020261044f002101c012d6201c1c07c580045a0510039130700450219011031230020263046000186201c607c4405100012902602101812
def U7 (a0:VC):=aI (G7 a0)
def yW:aj:=G7 um
def Vo:=cf yW (U7 um)
def tB:VC:=bp [] 0x15db1a90221f8004216012d58301c61c101980012f82211019c61001858301c616012d3868105822600460001873f1058226504604c60001858301c60001858301c1b10222610422160787a0031016001922b23040201e2721a84110
def NO:=aI tB
def EK:VC:=.regP (.range 5) (.range 5) [1,2,3] [V 18 (.ld (some 4) 0 (.s 6)),G 19 8,Yd 4 6 18,N (.st 1 (.s 7) (Q 0)),Yd 1 8 19]
def Ca:VC:=.regP (.range 5) (.range 5) [1,2,3] [V 73 (.build [O8,O8,O,.nl] []),G 74 8,Yd 4 6 73,N (.st 1 (.s 7) (Q 0)),Yd 1 8 74]
def C5:VC:=.regP (.range 5) [0,2,1,3,4] [1,2] [V 85 (.ld (some 4) 0 (.s 6)),G 86 7,Yd 4 6 85,Yd 1 7 86,N (.st 1 (.s 8) (Q 0))]
def XW (a0 a1 a2 a3:VC):aj:=aP [a0,a1,a2,a3] 0x15370452826c12d025e12d05842d0300040442818c410022cd2cb2c92bf55297ed2af0753e0480273180771d23c603f5805401b282036000263047f1a01a1052702d5230026eb29d00263046c002183102606012d58301c22111ea19c0012f8316ad2d062a1e04221607879007f005106012d58201c1c2160787a58041002b23171a00602001106012d58301c2211019c0012f83106012d58201c182160787a004100241e610460001858001c31006012d58101c6101a822160787a005106012d58001c6101a842160787a3a051029d2d022160787a3803102892b05e2d6c303b01ac21005e12d19402104507075333002026304690001821021822905b12d10180380064381a92f018623a03c2860710000106800106830004044468345c41002901f51d33
def ame (a0 a1 a2 a3:VC):=aI (XW a0 a1 a2 a3)
def MN:aj:=XW EK tB Ca C5
def L3:=cf MN (ame EK tB Ca C5)
def Ex:VC:=.regP (.range 5) (.range 5) [1,2,3] [V 70 (.build [O,O8,O8,O,.nl,.nl,.nl,.nl,.nl] []),G 71 12,Yd 9 10 70,N (.st 1 (.s 11) (Q 0)),Yd 1 12 71]
def Pi (a0:VC):VC:=bp [a0] 0x16eb1fd0227c04421450701e282a3d3b1f1b7300202630419c000182100129060781d91c80310023f12d1106994b06000181d39105831016001924633040201d721fc4110
def afO (a0:VC):=aI (Pi a0)
def jW:VC:=Pi Ex
def Hl:=cf jW (afO Ex)
abbrev Es:=Rg [V 19 (.alloc [O,O,O]),Yd 3 19 83,Z [13,14,82]]
def aen (a0:VC):VC:=bp [a0] 0x107
def rA:VC:=aen Es
abbrev E2:=Rg [V 20 (.mov (.c (.nl))),Z [20]]
def yc:VC:=.regP (.range 14) [0,1,2,3,4,5,6,7,8,11,9,12,10,13] [0,1,5] [M 85 5,G 86 11,G 87 18,X 88 0 19,M 89 88,V 90 (.calli lN [.m 87,.m 89]),H 91 wF [.m 85,.m 86,.m 90],A 84 91,E 92 84 true 0,E 93 84 false 1,E 94 84 false 2,A 20 92,Yd 1 11 93,Yd 1 12 94]
abbrev EJ:=Rg [G 95 12,P 96 .neq 95 0]
def yd:VC:=.regP (.range 5) (.range 5) [1,2,3] [V 97 (.build [O,O8,O8,O,.nl,.nl,.nl,.nl,.nl] []),G 98 12,N (.st 9 (.m 10) (.m 97)),N (.st 1 (.m 11) (Q 0)),Yd 1 12 98]
abbrev Fc:=Rg [V 99 (.fa 8 (.m 10)),M 100 99,X 101 1 19,M 102 101,X 103 2 19,M 104 103,V 105 (.slice 1 (.m 100) (some (.m 102)) (some (.m 104)) none),A 106 20,V 107 (.cpy 1 (.m 105) (.m 106)),Z [107]]
def aeu (a0 a1 a2 a3 a4:VC):VC:=bp [a0,a1,a2,a3,a4] 0x14f184704392f2305391337004f18591300198b22702d94d231700007036
def qL:VC:=aeu E2 yc EJ yd Fc
def OV:VC:=.regP (.range 5) (.range 5) [1,2,3] [V 28 (.build [O,O8,O8,O,.nl,.nl,.nl,.nl,.nl] []),G 29 12,Yd 9 10 28,N (.st 1 (.s 11) (Q 0)),Yd 1 12 29]
def GR:VC:=.regP (.range 5) (.range 5) [1,2,3] [V 39 (.build [O,O8,O8,O,.nl,.nl,.nl,.nl,.nl] []),G 40 12,Yd 9 10 39,N (.st 1 (.s 11) (Q 0)),Yd 1 12 40]
def GJ:VC:=.regP (.range 5) (.range 5) [1,2,3] [V 49 (.build [O,O8,O8,O,.nl,.nl,.nl,.nl,.nl] []),G 50 12,Yd 9 10 49,N (.st 1 (.s 11) (Q 0)),Yd 1 12 50]
def Fg:VC:=.regP (.range 5) (.range 5) [1,2] [V 121 (.ld (some 9) 0 (.s 10)),G 122 11,Yd 9 10 121,Yd 1 11 122,N (.st 1 (.s 12) (Q 0))]
def aay (a0 a1 a2 a3 a4 a5 a6:VC):aj:=aP [a0,a1,a2,a3,a4,a5,a6] 0x156704528219c12d0218e12d0188192d0333330004040019018c41002246181a1c1e283d1929756e0481873f2804b7018018a715e603e700401a1887201e760322714071b800201b6000263041a9106a181d1000184d181b130057471ab111c02662a3e35b06c600018188501c605018188101c5d101ec18610079b112d614d68605c033000033000033000033000033000033000033000033000033000033000033000033000068018c4106012d1881801c18882188820212c1bc0012f831002433371a0060200704c61c2a383e4c5a6818102a81bd1aa205a01ac19c18818e4a1b8504f01ac1b81be204e01ac1aa1be204d01ac19c18818e4a404b01ac19c18818e4a404901ac19c5e18e4a6b18879703f01ac19c18818e4a403e1981ac1b1004ed112d713f6819c18e4a303d1981ac31002112d02712d0010680013b68410452702b291f1b43002242291872a048027340619c00201a6006c00018610019c12d61c23c03c7a050185e004184100451702b291f1b4300202630419c0001821041c229019c12d618e12d201c038101a03800186383997d00261c33903c19004a006181a100450702b291f1b35300202630419c00018210218229019c12d101803800643829d5b018623a03c5e002a1871000010680010683333300040400190683b05c2d05c1f25c3185c71003902f1a2d35
def amW (a0 a1 a2 a3 a4 a5 a6:VC):=aI (aay a0 a1 a2 a3 a4 a5 a6)
def PY:aj:=aay OV GR GJ jW rA qL Fg
def DK:=cf PY (amW OV GR GJ jW rA qL Fg)
def dg:VC:=bp [] 0x13f97902219e019c4213eb5063e10198611019c6101a8282621e06c4001f7e0714502001b502101c1e51430020263046000186201c607c40051004603192423040201d72784110
def pT:=aI dg
def BI (a0:VC):aj:=aP [a0] 0x15019012962a21d06c1e261042e0031a8051048d7062621e06c43a0310223071a03602003b5c0210042bf1903c26004490031012962a21d06c0264044a0043e05101fb1b0282621e06c40031019130023e261043c002100012962a21d06c0264043c00428051019b190182621e06c42031021941197130027f2b01c21c1242100160260062e1801105d7062621e06c4403100012902001b203106421
def ON (a0:VC):=aI (BI a0)
def t9:aj:=BI dg
def kz:=cf t9 (ON dg)
def ox:aj:=aP [] 0x156b19002660461c25f03c1900300510012918602101812
def w6:=aI ox
def MZ:aj:=aP [] 0x1521841801af1ad1ab1a919f19918f18d18b1897b796f6d6b5d5b594f4d3f3d3b392f392949b1901874c04872b26c1a03e7001801a2e7601e700401a287201e6001874c04872b26b1a03e7001801a2e6601e700401a286201e6001874c04872b26a1a03e7001801a2e5601e700401a285201e6001874c04872b2691a03e7001801a2e18601e700401a2818201e6001874c04872b2681a03e7051801a2e1601e705401a281201e60062a1046000182e001c60001828001c5a100012918001905c325c4101812
abbrev NV:=[B 24 4,B 25 5,P 26 .quo 25 8,V 27 (.ia 1 (.s 24) (.s 26)),M 28 27,A 29 6,B 30 5,P 31 .rem 30 8,V 32 (.bin .sub (Q 7) (.m 31)),L 33 .shl 29 32,L 34 .or 28 33,V 35 (.ia 1 (.s 24) (.s 26)),N (.st 1 (.m 35) (.m 34))]
def CD:VC:=.regP (.range 13) (.range 13) [] NV
def Kw (a0:VC):VC:=bp [a0] 0x13bb4b0221d901884216d691b3307045282001b502101c1e281d1b196300221e6404583e02100289001ed1b06000182b3f10581d0051016001924633040201d724a4110
def ZY (a0:VC):=aI (Kw a0)
def jp:VC:=Kw CD
def LM:=cf jp (ZY CD)
def TZ (a0:VC):aj:=aP [a0] 0x1502003c9503b4e031002433071a0060200704c32c031003b1291af1907703101bc0012f828261d041e26004604c41c07104562001b5021011300228888888826404604c46031000222902001b203106421
def ahR (a0:VC):=aI (TZ a0)
def JZ:aj:=TZ jp
def ahY:=cf JZ (ahR jp)
def sq:VC:=bp [] 0x159d1bf0226800421012922622a078616f03c5d004a1ae0514df1f06000181d39105831026011924633040201d721be4110
def GQ:=aI sq
def r9:VC:=bp [] 0x17bd28b0221ac004212b1802a22963c12d102a03801281e3879b29b062a384c47a03c6000182e101c7a11a01860001828001c3c001f8181c106bb1192d3333300040400192b68601a0181d3919058410460319518246330040201d7228a4110
def H7:=aI r9
abbrev HR:=[G 28 4,X 29 0 2,M 30 29,X 31 0 3,M 32 31,V 33 (.ia 9 (.m 32) (Q 0)),V 34 (.fa 1 (.m 33)),V 35 (.ld (some 4) 0 (.m 34)),H 36 M9 [.m 28,.m 30,.m 35],A 27 36,E 37 27 true 0,E 38 27 false 1,Yd 1 4 37]
def xc:VC:=.regP (.range 13) [0,1,2,3,4,5,6,7,8,9,10,12,11] [] HR
abbrev qm:=Rg [X 80 4 3,M 81 80,V 82 (.len (.m 81)),A 10 82]
abbrev qy:=Rg [B 83 10,P 84 .gtr 83 0]
abbrev qu:=Rg [B 85 5,V 86 (.callv (.m 85) [Q 6,Q 3]),Z [86]]
abbrev qh:=Rg [B 87 5,B 88 10,V 89 (.minmax false [.m 88,Q 15]),V 90 (.callv (.m 87) [.m 89,Q 4]),Z [90]]
abbrev qk:=Rg [B 91 10,P 92 .geq 91 15]
abbrev qq:=Rg [B 93 5,A 94 10,P 95 .sub 94 14,V 96 (.callv (.m 93) [.m 95,Q 8]),Z [96]]
abbrev qn:=Rg [X 98 4 3,M 99 98,H 100 ET [.m 99],A 97 100,E 101 97 true 0,E 102 97 false 1,A 11 101,A 12 102,Z [12,97]]
abbrev qf:=Rg [V 103 (.ld none 1 (.s 4)),A 104 11,V 105 (.app 1 (.m 103) (.m 104)),Yd 1 4 105]
abbrev qg:=Rg [A 106 5,V 107 (.callv (.m 106) [Q 7,Q 3]),Z [107]]
abbrev qr:=Rg [V 108 (.ld none 2 (.s 4)),G 109 4,V 110 (.len (.m 109)),P 111 .rem 110 8,V 112 (.bin .sub (Q 8) (.m 111)),P 113 .rem 112 8,V 114 (.appz [.int .u8 0] (.m 108) (.m 113)),Yd 1 4 114]
def N1 (a0 a1 a2 a3 a4 a5 a6 a7 a8 a9 a10 a11 a12:VC):aj:=aP [a0,a1,a2,a3,a4,a5,a6,a7,a8,a9,a10,a11,a12] 0x151c701b7047182d13001a77181970042d13018718db277006705707fb24703700518024330271a0360200704c6000182e03c1c4100402433171a0160200704c617903c6000182e301c510012942622a0786000182e201c4a38051019d6f230700026000182e101c2100129226238078616f03c6000182e101c4a00610012918202260784a0031001296222260784a490310012918202260784a003101296202260784a20310025b91e90221bd11aa421006600018281281c21001a91b03c106d281ac210310681905c325c31001912
def acI (a0 a1 a2 a3 a4 a5 a6 a7 a8 a9 a10 a11 a12:VC):=aI (N1 a0 a1 a2 a3 a4 a5 a6 a7 a8 a9 a10 a11 a12)
def EZ:aj:=N1 xc sq r9 qm qy qu qh qk qq qn qf qg qr
def ab5:=cf EZ (acI xc sq r9 qm qy qu qh qk qq qn qf qg qr)
def Wn:VC:=.regP (.range 16) (.range 16) [1,6] [X 41 5 9,V 42 (.ld none 2 (.m 41)),A 43 10,V 44 (.mks 1 [.m 43]),V 45 (.app 1 (.m 42) (.m 44)),X 46 6 9,V 47 (.ld none 2 (.m 46)),X 48 2 3,M 49 48,V 50 (.mkslice [.int .i64 0] (.s 49) (.s 49)),V 51 (.mks 1 [.m 50]),V 52 (.app 1 (.m 47) (.m 51)),X 53 5 9,N (.st 1 (.m 53) (.m 45)),X 54 6 9,N (.st 1 (.m 54) (.m 52))]
def Yv (a0:VC):VC:=bp [a0] 0x159d18902229a01b84211cb1307043eb2d0612019c611100002018c6000182e201c512d130020264046000182e25e1c31001b2d011016001971824230040201d721884110
def Za:VC:=Yv Wn
abbrev acv:=[V 23 (.ld (some 4) 0 (.s 3)),H 24 DB [.m 23],A 25 7,V 26 (.mkslice [.lst []] (.s 25) (.s 25)),V 27 (.mkslice [.int .i64 0] (Q 256) (Q 256)),V 28 (.build [O,O8,O8,O,.nl,.nl,.nl,.nl,.nl] [(1,4,.m 24),(7,1,.m 26),(8,1,.m 27)]),V 9 (.alloc [O,O8,O8,O,.nl,.nl,.nl,.nl,.nl]),Yd 9 9 28]
def ZG:VC:=.regP (.range 8) (.range 8) [] acv
def ahj (a0 a1:VC):aj:=aP [a0,a1] 0x152b18021b003c192d7a11a5e18310071802230171a0060200604c6000182e3581c41006b1307004d022928f002891f010180380064381fb4d0615903c2e053a18181041d13051d91b063c192d4f000333330004040019018c410718002026304581e02101a91d061c23c03c2e0501831a04100012902003333300040400190681945c4101a1a1922
def aih:aj:=ahj ZG Za
def Js:aj:=aP [] 0x152182d92cf2cd2cb2c91b62918891901874c048701a018a71d27f1806e4a10188601ae700401a2e3201e600638104604c6000184a301c604c6000182e328e1c28100452186dd190026104604c6000182e361c51001b130026ad28902263046000182e21f81c4105181901107181b1300021fd1fb1f91ef1ed1eb1e91df1dd1935fd1cd0756f0487028018b74d27e1e03f7051c01b711a01f227191805b700601b2e0401f4a05201b6002261046000181f11bc1c1e1b0052181c91bf1bd1bb4294d91901873e048027118067604e700401a2e3201e6000261046000182e261c1b1001b5230023eb19b06001886000182e11881c4100603bb142d300040441b686050186101c026190586000182e06e1c7104518190110718513000261c27b06c28107c01ac6000182e05e1c4100451819011071851300022461c1e282e383a3b1a2975380484274607700401b2e2201f60075380480272607700401b2e2201f600753e04818ba27418077604f700401b2e4201f60062a30460001828101c604c6000182b021c2f100012918001905c325c4101812
def aho:=aI Js
def JG:aj:=aP [] 0x15491901f1c2018901ac21001292f001905c325c4101812
def Tm:=aI JG
def yn:VC:=bp [] 0x14fb1890221f801ba4214ed1d06681e046001a8600018638105861c00479001a0040023d61a044f18a01b145282000200021d03102a2c2b1d5317300221e6404600018638105861c0047a001a0046a0710039f2b01d0021026011924133040201d721884110
def NX:=aI yn
def Yb (a0:VC):aj:=aP [a0] 0x1502005ab005891d061c0041f0019004f58071002133071a0160200285c02100451a2000200021d03101d531430022ef69061c204280061c5041a00604c4480710542000200021d031018531430025d5b594f493f62929d2d0753e04872b418077604f44031a203600752a04802724071a2036006001886118a03c28401f100600222902000200021a0410281e1c33
def al5 (a0:VC):=aI (Yb a0)
def MD:aj:=Yb yn
def akd:=cf MD (al5 yn)
def JC:aj:=aP [] 0x151df001d91905d000262101e8226504604c4f1c0710291291a90019b1d0101a038011863818d29061c218b03c1900360191002229020002603101a1822
def ag4:=aI JC
def G8:aj:=aP [] 0x1544531430291291bd1912d1af1c12d1a91b0201e038101c038001a183819b29061c2a33903c3002e000181f002181c14130020261041a000182100021801101a14
def afy:=aI G8
def Hs:aj:=aP [] 0x150219011045282190110022461c1e282a383a3c4a4c4e1b71f297538048706018b7118c403f2e05201b600753e04871d418074a603700401b2e2201f60075380480272607700401b2e2201f600753804821e74607700401b2e1201f60061e64046000182e03a1c3910041d13051d91904f002101b7230020263045828021001f1291af001a91b0101e038001c1a3819b1f063823a03c41e61046000182e001c3601b10012902001945c3101812
def adS:=aI Hs
def Kf:aj:=aP [] 0x15191297f612d791912d6b702019038101903800186385d1902261c33903c1a000183002181b1001290240210613
def ahr:=aI Kf
def JQ:aj:=aP [] 0x11912962d12d1c1912d2a012d1f001c2019038101903800186385d19028261c33903c1a0001830018181c104
def ah2:=aI JQ
def Jm:aj:=aP [] 0x141d1b19735302812964f12d1c3b12d2a042d19101c201e038101c038011a18381cb39061c2a31f03c49000183c000182d002181d1026001881f000182106042d1a101c614803c3051c1841007
def TK:=aI Jm
def Km:aj:=aP [] 0x1502842d19150182106012d1a301c6118d03c0012f86000181a301c51030004044068305c2105511
def agR:=aI Km
def JT:aj:=aP [] 0x11912962d12d1c1912d2a012d1f501c2019038101903801191a387919062a3834a03c60501828101c1a0001830018181e104
def ag1:=aI JT
def yq:VC:=bp [] 0x16012d1aa101c61c0041b8006000181aa11fa1c61452820002001b1d03103b181ab1a93d392f2d2b1f1d1b11b3000261c40419c0061c0041b8006000181aa12ba1c61040130518890002001b1d06b004103b181ab1a93d392f2d2b1f1d1b11b300020263046c2ac02102af1297df007d91f07cb3d0201e038101c038001a18387bd2af061c2a33903c7a005d0041c01c10056041940261c104188001af28c03100
def NT:=aI yq
def Ol (a0:VC):VC:=bp [a0] 0x13b1819dd2f062a20198612019c1aa1301818d2de051019ad39062a5046000181aa101c19b2de0510452820002001b1d03103b181ab1a9392f2d2b1f1d1b11a3000260018861c218f03c19c001aa032ba184100013071a04669f3d01881ea02100452820002001b1d03103b18686a392f2d2b1f1d1b11a30002246329187380483a273606700401a1aa0201e6002e264046000181aa01ca1c191004013055b90002001b1d06b004103b183e48392f2d2b1f1d1b11a300020263046c1bc02101bf129589004fb1f02a012d1aa001c201c038101a03800186384df1bf018261c33903c5d00418c01c100000023b68110362193913040202640419c1b802100
def abP (a0:VC):=aI (Ol a0)
def tD:VC:=Ol yq
def EP:=cf tD (abP yq)
def Ot (a0:VC):VC:=bp [a0] 0x11a9b1ab0223f9039a4211a8d1d062a10198611019c18d004f2ee051013071a02649b3906000184a27e1c31001b2f0110160019242d2b1b163040201d721aa4110
def acW (a0:VC):=aI (Ot a0)
def tv:VC:=Ot tD
def NC:=cf tv (acW tD)
def W7 (a0:VC):aj:=aP [a0] 0x1502001aaf001aa91d05d004f28e0510022d2b1b163071a0060200604c6000184a36e1c410018b1293c9003bb2b010180380064383ad18b06118e03c4a056a18181040130538b0002001b1d06b004101f1d1b1430020263046c5a02106f5f2292e9002db1f0201c038101a03800186382bf5f00261c33903c190043e01a10040130528f0002001b1d06b004101d1b31430020263046c2e02104d3f2291ed29010180380064381d93f0615903c4a051e18710002229020002001b001f185c510281e1c33
def ako (a0:VC):=aI (W7 a0)
def MH:aj:=W7 tv
def amh:=cf MH (ako tv)
def Jw:aj:=aP [] 0x11912962d12d1c1912d2a012d1f601c2019038101903801191e3818d19062a3e4944c03c60001828501c60001828001c1a00018300181828104
def ah6:=aI Jw
def wM:VC:=bp [] 0x11af1ad19b19918f52949b3e021
def iq:=aI wM
def Bj:VC:=.regP (.range 4) (.range 4) [0,1,2] [G 96 10,N (.st 1 (.m 8) (.c (.nl))),N (.st 1 (.m 9) (Q 0)),Yd 1 10 96]
def Lm (a0:VC):VC:=bp [a0] 0x13d12901b812d62a10198611019c1d9001b8100186142d2b2933052827f12d027912d1b6b12d3104b3d23002246181a492f7291874c048701a018a71d2b319b1806e1da6021cc40218e00201a6000264041cc201a100452d1307004b493d2f43002026304188002b818210041913018e94b063e0046000186001c607c18e000181d929c0712cb19229189d5b12d188f6912d18894b0201c038101a03800186387fb2cb061c219a03c7a000183c006181b104b130027cb2bd00264041cc1fa03107a94b063e0046000186101c607c18e000181d91dc07128b192296dd5b12d6cf6912d6c94b0201c038101a03800186386bb28b061c219a03c7a000183c006181b104b1300268b1fd03a261041cc1ba03101df192295e95b12d5db6912d5cd4b0201c038101a03800186385bf1df02a261c33903c7a000183c002c181b14b130021db1d91cf1cd1cb52958f1bb01874c04802721a067001801a71601e7407e18e00201a6003a261041cc7801b104600248011036
def YZ (a0:VC):=aI (Lm a0)
def wP:VC:=Lm Bj
def iC:=cf wP (YZ Bj)
def Ky (a0 a1:VC):VC:=bp [a0,a1] 0x11adf19b0223c9004213d1806c12d62a10198611019c1b8100186c1028e1851001817075c5b211c0266119906c1a96c02100310681103eb3b06000181d3910583101600192f1819182463300040201d7219a4110
def YD (a0 a1:VC):=aI (Ky a0 a1)
def kQ:VC:=Ky wM wP
def Cu:=cf kQ (YD wM wP)
def C9:VC:=.regP (.range 4) (.range 4) [0,1,2] [G 31 10,N (.st 1 (.s 8) (.c (.nl))),N (.st 1 (.s 9) (Q 0)),Yd 1 10 31]
def AH:VC:=.regP (.range 5) (.range 5) [1,2] [G 115 8,G 116 9,Yd 1 8 115,Yd 1 9 116,N (.st 1 (.s 10) (Q 0))]
def Tc (a0 a1 a2:VC):aj:=aP [a0,a1,a2] 0x152702f1819180243300171a0060200704c2d5e0310039f112d612f68605c1211610200002018c1f20510450701918752300020263041880001821041c229018812d67a12d201c038101a03800186382b95d00261c33903c19003c002181a1004528218812d027a12d1b6c12d310191875333000260018861c219803c2e00281e0410000106800106831668365c41002d02b02934
def agU (a0 a1 a2:VC):=aI (Tc a0 a1 a2)
def JP:aj:=Tc C9 kQ AH
def ahq:=cf JP (agU C9 kQ AH)
def JM:aj:=aP [] 0x101912d060783002183102
def aig:=aI JM
def JE:aj:=aP [] 0x101912d060783002183102
def ahx:=aI JE
abbrev Lz:=Rg [A 25 5,V 26 (.mkslice [.lst []] (.s 25) (.s 25)),V 27 (.fa 7 (.m 3)),N (.st 1 (.m 27) (.m 26)),Z [25]]
def Ts (a0:VC):aj:=aP [a0] 0x1074f02292ab0029d1b0101a038001863828f4f0615903c6050182e121c19104195333052a12963b12d1c1f12d2a012d2d701c2028038101e038011c1a381af2b062a3835803c6050182e101c280001819002181e10022261043001c18210005
def ah4 (a0:VC):=aI (Ts a0)
def JW:aj:=Ts Lz
def Tf:=cf JW (ah4 Lz)
abbrev Ho:=[X 86 4 16,V 87 (.ld none 2 (.m 86)),B 88 19,B 89 19,B 90 18,P 91 .sub 90 1,L 92 .shr 89 91,B 93 18,L 94 .shl 92 93,L 95 .sub 88 94,V 96 (.mks 1 [.m 95]),V 97 (.app 1 (.m 87) (.m 96)),X 98 4 16,N (.st 1 (.m 98) (.m 97))]
def xt:VC:=.regP (.range 14) (.range 14) [] Ho
def H6 (a0:VC):VC:=bp [a0] 0x119ad2cb0221dc02be42101307018894f0611c0781e800188004105604192423040201d722ca4110
def UM (a0:VC):=aI (H6 a0)
def sD:VC:=H6 xt
def HL:=cf sD (UM xt)
def xo:VC:=.regP [0,1,2,3,5,6,7,4,8,9,10,11] (.range 12) [4,7] [B 49 15,B 50 10,V 51 (.iarr 5 1 (.s 11) (Q 1)),M 52 51,V 53 (.callv (.m 50) [.m 52]),B 54 10,V 55 (.iarr 5 1 (.s 11) (Q 2)),M 56 55,V 57 (.callv (.m 54) [.m 56]),V 58 (.build [O,O,B_ false,B_ false,.nl] [(3,1,.m 49),(0,1,.m 53),(1,1,.m 57)]),V 16 (.alloc [O,O,B_ false,B_ false,.nl]),Yd 5 16 58]
def HB (a0 a1:VC):VC:=bp [a0,a1] 0x11afb1bf0224bd039c42149181aed3b062a50198615019c1cc160181a938e051043bd3bb3b93af3ad3ab3a939f39d4d4b1b291abd390757c0481874d2a04b72b219f1a03e227518061e8602700401a1cc4201e760302714071da20360019b4c01e10223171a04602006000181cc11f81c31007af4d061c5041da006119e03c1be1ea05106ff4b02216078188003106012d1cc201c226104221607818800510020264046000181cc11ee1c3100452826c12d025e12d1b1d031049182f184c4e1881893f3b392d1d19300002242291872a04802714066c00201a60038264046000181cc12c1c18100070360219243f33040201d721be4110
def UG (a0 a1:VC):=aI (HB a0 a1)
def ib:VC:=HB xo sD
def sj:=cf ib (UG xo sD)
def GW (a0:VC):VC:=bp [a0] 0x11bb918b02239903cc4211bab1d062a10198611019c1a9004f29a051023f33071a02602001af7c021001b91af1ad3294a93f01873804822716062217407a1882026000264041b868019103cf3d0612a0786000180218e1501b81885a05101b3b01101600192f18242d330040201d7218a4110
def UR (a0:VC):=aI (GW a0)
def kJ:VC:=GW ib
def yN:=cf kJ (UR ib)
def Id:VC:=.regP (.range 4) (.range 4) [0,2] [G 27 8,V 6 (.mov (.c (.nl))),N (.st 1 (.s 7) (Q 0)),Yd 1 8 27]
def xg:VC:=.regP (.range 4) (.range 4) [0,2] [G 125 8,V 6 (.mov (.c (.nl))),N (.st 1 (.s 7) (Q 0)),Yd 1 8 125]
abbrev H4:=[A 128 6,G 129 7,A 6 128,Yd 1 7 129,N (.st 1 (.s 8) (Q 0))]
def xn:VC:=.regP (.range 5) [0,2,1,3,4] [] H4
def NN (a0 a1 a2 a3:VC):aj:=aP [a0,a1,a2,a3] 0x15370452826c12d025e12d1b1d03101d130021bfd3fd019b1802105270391d230021bdb3ed00263046c002ea183106602f18022d330171a0060200794e0210018001101b182fd152d000000000052f686119d03c4a154e1841002e92d05e2d6c3019c01ac21005e12d1920210450701b182b1d734300020263046c003e182100591292ab712d29d2b0101803800643828f590615903c4a05381818100010680010681b001f25c345c51002901f1c33
def ab2 (a0 a1 a2 a3:VC):=aI (NN a0 a1 a2 a3)
def E5:aj:=NN Id kJ xg xn
def acE:=cf E5 (ab2 Id kJ xg xn)
def BX:aj:=aP [] 0x1502002250210450200282502100218d29041e61046000181901a1c41052820002502103130025d190600188611a803c1a052184100600222902000200305c4106421
def Ys:=aI BX
def CN:VC:=.regP (.range 5) (.range 5) [0,2] [G 2 0,M 3 1,V 4 (.callv (.m 3) []),L 5 .or 2 4,Yd 1 0 5]
def S3 (a0:VC):aj:=aP [a0] 0x101307002
def ahW (a0:VC):=aI (S3 a0)
def JH:aj:=S3 CN
def agJ:=cf JH (ahW CN)
def GY:aj:=aP [] 0x151d91d05d3b49301a9281ac2102b02291cb001bd112d311f68101e038011c1a381af2b0638218b03c41e61046000183c001c3601c1001292f001f05c1965c4101c13
def ae2:=aI GY
def tI:VC:=bp [] 0x16991db022198004214391306012d2a38105822621af06c1880019b0018e0061020263041a91b802105b90059d3906000182b3f10581d0051016001924633040201d721da4110
def NF:=aI tI
def tA:VC:=bp [] 0x1199f2990222ec0042143d1306012d4c5a105861018860001861c10581af0058001b80058001910222610460001861c10581b80018e0051046012d2a381058611b806c188001b80058006102243f3291872a048482714061be2026002e261046000184a01ea1c181006eb006cf3d06000182b3f10581d005103602191b182462f430040201d722984110
def N4:=aI tA
abbrev EC:=Rg [A 44 0,A 45 7,V 46 (.build [.nl,O,O] [(0,1,.m 44),(1,1,.m 45)]),V 47 (.box (.m 46)),A 10 47]
abbrev BV:=Rg [B 48 6,V 49 (.len (.m 48)),⟨some 50,none,.mkslice [.int .i64 0] (.s 49) (.s 49),[(0,0)]⟩,A 11 50,Z [49]]
abbrev Du:=Rg [B 51 6,V 52 (.len (.s 51)),C 53 (Q 0)]
abbrev Cz:=Rg [B 66 6,V 67 (.len (.s 66)),C 68 (Q 0)]
abbrev CA:=Rg [B 99 10,V 100 (.nilck (.m 99)),V 101 (.fa 2 (.m 100)),M 102 101,P 103 .neq 102 0]
abbrev NL:=[A 104 10,V 105 (.nilck (.m 104)),V 106 (.fa 2 (.m 105)),M 107 106,V 6 (.mov (.c (.nl))),C 7 (Q 0),A 8 107]
def wh:VC:=.regP (.range 7) [4,5,0,1,2,3,6] [] NL
abbrev NP:=[A 108 6,A 109 10,V 110 (.nilck (.m 109)),V 111 (.fa 1 (.m 110)),M 112 111,A 6 108,A 7 112,C 8 (Q 0)]
def wS:VC:=.regP (.range 8) [0,5,1,2,3,4,6,7] [] NP
def XU (a0 a1 a2 a3 a4 a5 a6 a7 a8:VC):aj:=aP [a0,a1,a2,a3,a4,a5,a6,a7,a8] 0x15187045770413019dd2670061829928f28d2f430571a02647001db1d91cf33371a006270017007045020048d003ff1d05d004f005101b181130002611ae03c6000184a01881c310019d1892293c91d0101c038011a18383bb189061c21ad03c0012f879006000184a0681c19104013052fd0002001b1d06b004101b182b1f13300020263046c58021005b1292db002cd1f02bf2b0201e038101c038001a18382b95b061c2a31ac03c19004004a053a181c10456181fb0002001b1d0611ab03c4a15018510031230022e264046000184a01e1c3100024329020002001b001f185c510281e1c33
def akH (a0 a1 a2 a3 a4 a5 a6 a7 a8:VC):=aI (XU a0 a1 a2 a3 a4 a5 a6 a7 a8)
def MS:aj:=XU EC BV Du tI Cz tA CA wh wS
def akS:=cf MS (akH EC BV Du tI Cz tA CA wh wS)
abbrev FA:=[B 13 0,B 14 1,B 15 1,H 16 FO [.m 15],A 12 16,E 17 12 true 0,E 18 12 false 1,V 19 (.nilck (.m 13)),V 20 (.iarr 12 4 (.m 19) (.m 14)),N (.st 4 (.m 20) (.m 17))]
def vS:VC:=.regP (.range 10) [0,1,2,3,4,5,7,8,9,6] [] FA
def IE (a0:VC):aj:=aP [a0] 0x1503c42d6050181c641c01b81c07c190032a061044d3923070020261046000186001c1c641c01b81c07c1a004007100330000466811051912
def V4 (a0:VC):=aI (IE a0)
def Bl:aj:=IE vS
def WC:=cf Bl (V4 vS)
def BT:aj:=aP [] 0x153b501bb7e621ba06c30031001291820210411
def Y8:=aI BT
def iE:VC:=bp [] 0x11df290226b03a42141b13051d91904900210281f314300263e10460001861c10584a004001a1a06107f1b01d00210160019243143040201d72284110
def xb:=aI iE
def AU (a0:VC):aj:=aP [a0] 0x1512190110023143071a0060200604c4203100012902602101812
def MT (a0:VC):=aI (AU a0)
def sR:aj:=AU iE
def A9:=cf sR (MT iE)
def M4:aj:=aP [] 0x157b796f6d6b5d5b594f4d3f3d3b392f2429292ef1901874c04872b2691a03e7001801a2e3601e700401a283201e6001874c04872b11a067001801a2e2601e700401a282201e6001874c04872b11a067001801a2e1601e700401a281201e60062a1046000182e001c60001828001c3c10012918001905c325c4101812
def In:VC:=bp [] 0x11cb1b0226004492c03145181901101b313300263e30460001861c10584a001a0060001861c10584a00440191b01600191b3133040262a204604c4004a2c04100
def MM (a0:VC):aj:=aP [a0] 0x15519011003133071a006020011004518190110312300262a304604c1a00604c4205100012918602101812
def Nj:aj:=MM In
def zZ:VC:=bp [] 0x13c91d02260044f7e03145181901101d1b31430026681121028860301861c2058580060001861c10584a001a0060301861c2058580060001861c10584a004401f1b03602191d13040264c204604c60001861c10584a00400587807100
def z6 (a0:VC):VC:=bp [a0] 0x11d91b0226004492a031013071a026022011045181901101b313300264c304604c60001861c10584a001a00604c60001861c10584a004401b1b001600191b3133040262a204604c4004a2e04100
def Ab:VC:=z6 zZ
def Cd (a0:VC):aj:=aP [a0] 0x15519011003133071a006020011004518190110312300262a304604c1a00604c4405100012918602101812
def CG:aj:=Cd Ab
def Dp:VC:=bp [] 0x11cb1b0226004492c03145181901101b313300260018863e26903c60001861c10584a001a0060001861c10584a004401a1b01600191b3133040262a204604c4004a2c04100
def F5 (a0:VC):aj:=aP [a0] 0x15519011003133071a006020011004518190110312300262a304604c1a00604c4205100012918602101812
def F3:aj:=F5 Dp
def Ep:VC:=bp [] 0x13dd1d02260044f18a03145181901101d1b314300229181f180246181a1c2a2c2e383a484a4c4e585e686a6c6e2d29755a048701c018b72b2691a03f7001801b6c4601f700401b5e4201f600754c04872b11a01df7001801b6c3601f700401b5e3201f600754c04872b11a01df7001801b6c2601f700401b5e2201f600754c04872b31a077001801b6c1601f700401b5e1201f60062a3046000186c001c6000185e01ba1c4b100589152d32200005296860601861c5058580060001861c10584a001a19e019104af152d322000051f6860601861c5058580060001861c10584a0044019103602191d13040264c204604c60001861c10584a00400587c07100
def EI (a0:VC):VC:=bp [a0] 0x11ed1b0226004492e031013071a026022011045181901101b313300264c304604c60001861c10584a001a00604c60001861c10584a004401b1b001600191b3133040262a204604c4004a3a04100
def Ek:VC:=EI Ep
def Ih (a0:VC):aj:=aP [a0] 0x15519011003133071a006020011004518190110312300262a304604c1a00604c41805100012918602101812
def Im:aj:=Ih Ek
def Ae:aj:=aP [] 0x101b22961f12d101b038011a1838791b061c2a36e03c190030028001a1819103
def W6:=aI Ae
def MY:aj:=aP [] 0x1502002bf1d063821bc06c61c23806c1f001900611bd03c33a018104542001b1d021053133002246181e28629753e0480273180771d18607284031a203600752a04802724071a2036006001886118a03c28001e1000222902001b1a03101e1c23
def alY:=aI MY
def Pm:aj:=aP [] 0x15025011045225011002300110001290220210411
def anD:=aI Pm
def yr:VC:=bp [] 0x14ed2d02260047f1cd03101292202260787a003101292222260787a00310261c1041a90018d1cc03101ef022968b005fd3b0101a03800186385ef1ef061c21bf03c188004a051be1819101d902295bf005b92f0101c038001a18385ab1d9062a21bf03c226504188004a056181a101600192d2b1b33040228262041881be02100
def NU:=aI yr
def X4 (a0:VC):aj:=aP [a0] 0x1502006eb1d02d101fa18310021a33071a006222d011000129182622a0786000184a201c7a198051045020048d1d02d100183100129220226078790031001291c2622a07860001849201c7a005100241e63046000184a001c310001292262380786001a86000184a101c7a0061001294262380786001a86000184a001c7a0061001292202260787a3803102892b02e101be3a1ac21042913051fb001b1d06b003101b7230020263046c2a02101d929061c23c03c4a05018191e041000222902001b001f25c345c5101e1c23
def akT (a0:VC):=aI (X4 a0)
def Nf:aj:=X4 yr
def akg:=cf Nf (akT yr)
def jM:VC:=bp [] 0x128f2f02218a0042141cd01cc21020262042e3e02101df7062a004604c49002d2a05101af1b06000181d39105831016001924633040201d722e4110
def nC:=aI jM
def gL:VC:=bp [] 0x139f6f0225a06e4213991d061c101986b004f5c0412ef2906000181d39105831036021924633040201d726e4110
def fD:=aI gL
def zn (a0 a1:VC):aj:=aP [a0,a1] 0x153ad504f1e021002433171a0260200704c34c031002ab1d061b21c806c2d2e031002433071a0060200704c41a03100020011001291b20210411
def KG (a0 a1:VC):=aI (zn a0 a1)
def qW:aj:=zn jM gL
def zo:=cf qW (KG jM gL)
def u4:VC:=bp [] 0x12dd1229189d132d0000003386831
def PW:=aI u4
def EE:VC:=.regP [0,1,2,4,5,6,7,8,9,10,3,11,12,13,14,15,16] [0,1,2,3,4,5,6,7,8,9,10,11,12,13,15,14,16] [3,5,7,9,10] [G 89 11,X 90 0 13,M 91 90,V 92 (.calli lN [.m 89,.m 91]),X 93 8 6,M 94 93,X 95 1 13,M 96 95,X 97 2 13,M 98 97,V 99 (.slice 1 (.m 94) (some (.m 96)) (some (.m 98)) none),H 100 F6 [.c (.nl),.m 92,.m 99],A 88 100,E 101 88 true 0,E 102 88 false 1,A 14 101,A 15 102]
def Py (a0:VC):VC:=bp [a0] 0x139129019c12d61c101981af0019c1039c18513b182e93f2f1d430070016
def agD (a0:VC):=aI (Py a0)
def vQ:VC:=Py EE
def P3:=cf vQ (agD EE)
abbrev QW:=[A 63 0,V 64 (.mks 1 [.c (.d (.int .u8 0)),.c (.d (.int .u8 1))]),V 65 (.app 1 (.m 63) (.m 64)),X 66 1 6,V 67 (.ld (some 4) 0 (.m 66)),X 68 7 6,M 69 68,H 70 Fm [.m 65,.m 67,.m 69],A 62 70,E 71 62 true 0,E 72 62 false 1,A 0 71]
def Fe:VC:=.regP (.range 12) [0,1,2,3,4,5,6,7,8,9,11,10] [] QW
def aaz (a0 a1 a2:VC):aj:=aP [a0,a1,a2] 0x15391802001a9b29061c1019819c1001834e051000182f181d180027171af111c00662a3e35b06c60001858501c60501858101c1929806100310681107cb112d612f68605c0330000330000330000330000330000330000330000330000330000330000330000330000682bc18c4107af1061c1019801e01e01e31019c32ae04178d1061c1019801e11019c32e0412a91fd23070002615e03c6000185871ec1c31001ed1c92295b910102c038012a28385ab1c9062a3e5a41ca03c60001858601c60001858501c60001858001c31c801d101bf19f2294af101028038011e1c384a919f062a3e31c903c60001858501c60501858101c319e01b10419d7f2293c910101e038011c1a383bb7f062a3837803c60501858101c1a003201a1026001882d7802100795d2292cd10101c038011a18382bf5d028262a36e03c60001858001c33a0191042d1305289001b2907f003101d187313300020263046f2802101df2d061c27d03c5801a0181a1c041000222902001b201f1a5c4102a2824
def anh (a0 a1 a2:VC):=aI (aaz a0 a1 a2)
def Q5:aj:=aaz Fe u4 vQ
def aaR:=cf Q5 (anh Fe u4 vQ)
def lM:aj:=aP [] 0x156b19002660461c21cd06c1900300510012918602101812
def DR:=aI lM
def EW:aj:=aP [] 0x152186b7002630461c27d03c2811a01860001819001c610001291800325c310612
def abN:=aI EW
def jO:VC:=bp [] 0x13c97d0225a0188421452821901101c1e283300260018806078796803103992b06000181d39105831016001924633040201d727c4110
def IC:=aI jO
def P7 (a0:VC):aj:=aP [a0] 0x150219011002433071a0060200704c61c2a383e5102a84f2d1f301dd01ac582e201db01ac2e101d901ac2e101cf01ac2e101ce3e1ac181004b022928f00289112d0011d68101a03800186381fb4b0615903c6050182e13a1c1a1041b13051cb190490021075230020263044a2802101a91b062a23c03c6050182e101c28001a185100012902001905c325c4101812
def agj (a0:VC):=aI (P7 a0)
def Hb:aj:=P7 jO
def Ia:=cf Hb (agj jO)
def J9:aj:=aP [] 0x157b796f6d6b5d5b594f4d3f3d3b392f2429292ef1901874c04872b21df1a03e7001801a2e3601e700401a283201e6001874c04872b11a067001801a2e2601e700401a282201e6001874c04872b11a067001801a2e1601e700401a281201e60062a1046000182e001c60001828001c3c10012918001905c325c4101812
def agQ:=aI J9
def kM:aj:=aP [] 0x156b19002660461c21e806c1900300510012918602101812
def BZ:=aI kM
def Fa:aj:=aP [] 0x156b7062a30460001819201c604c30061001291840210612
def aci:=aI Fa
def sX:VC:=bp [] 0x17f1902265043b2b03145195133002600188614c0786101a82261c0461c18043c002800018440181016001918513304020266042b1c02100
def HN:=aI sX
def Og (a0:VC):aj:=aP [a0] 0x104133071a0064f1902265041900181831003
def acb (a0:VC):=aI (Og a0)
def Eo:aj:=Og sX
def acm:=cf Eo (acb sX)
def Hy:aj:=aP [] 0x151f1d13296b501872a0487e27194064202600026604400181001291820210411
def ad8:=aI Hy
def Cq:aj:=aP [] 0x1502003eb190797a031040461843001f3dd2d067c2001e865a004618270461c1d046c0061c70458007f001826004188005e001c100261c2045e0018848031002b92b062a10198611019c18800792e051001e002001101b00110428820018821f021291f23002193801100188820018882001fb1d06620044261d0462e250432e07104542001b190210312300224229752a0482e274407420360002620441a071001d0222902001b603101a1822
def Y0:=aI Cq
def qE:VC:=bp [] 0x12e94902219e06a4212db7061c00449002d5e0414518501102a2c2e1b736300224229752a048282744074a2036002262044a3c071001ed1b06000181d39105831016001924633040201d72484110
def Fu:=aI qE
def LD (a0:VC):aj:=aP [a0] 0x1519918f18d18b25293c9501873e04828271918067604e700401a1a3201e60028261042d3a01a1002433071a0060200704c6000181a32a1c410002001104519b5061c21df03c2211019c60001819301c5100241e63046000181a061c310001291800305c310411
def Yx (a0:VC):=aI (LD a0)
def BU:aj:=LD qE
def aad:=cf BU (Yx qE)
def ui:aj:=aP [] 0x1128411
def OM:=aI ui
def HV:aj:=aP [] 0x157f005d502265046221a0428002818061b0462501151300241e610460001819021c31001a2501100222902000200305c4106421
def aff:=aI HV
def GD:aj:=aP [] 0x156f6d6b695f5d5b594b493f392f2d2b4329292db1901876e04875392804a3a271607700401b280201f718022e2719606700401a280201e600187380480276606700401a280201e6001873e04871d1918061a602700401a281201e60022660460001828101c3a1001291820325c3101812
def adW:=aI GD
def wu:VC:=bp [] 0x15e97b0222e901da4212b185db1f062a5046000187a101c5d1d8051045181901102b186e786f5f5d5b1f730002246181a1c1e282e383a484a4c4e1f29756e048187392804b3a273606700401a7a0201e718032e274607700401b7a0201f60075380480272607700401b7a0201f600753e04871d418075e603700401b7a1201f6002262046000187a15e1c3910038b122d000022b686030181d3920584103602192461f43040201d727a4110
def KU:=aI wu
def K3 (a0:VC):VC:=bp [a0] 0x15ef5f02229d01884210241f43071a0260200704c4f4e03101a82001102bf1d06000181d39105831016001924633040201d725e4110
def Zb (a0:VC):=aI (K3 a0)
def wj:VC:=K3 wu
def Kr:=cf wj (Zb wu)
def TX (a0:VC):aj:=aP [a0] 0x15519011002433071a0060200704c19480310045181901103130022461c1e16297538048282746077404f1a203600752a0487fe274407420360002620441a01c100012918602101812
def ahL (a0:VC):=aI (TX a0)
def JI:aj:=TX wj
def aim:=cf JI (ahL wj)
def ER:aj:=aP [] 0x152d5019101e901ac21001292f00305c310411
def act:=aI ER
def Dv:aj:=aP [] 0x1502003ad0039f190490060001802610587f5807106f02292fd002ef2d010180380164382e96f0638221ad03c795a018104013052bf000200021904f004102b1b23002026304584a021001f184912929d0028f1b02892b0201e038101c038001a18381fb49061c2a31ac03c19003005e1528181c1003902291bd001af142d33000041f681060380142381a939038211b91c3c18100243290200020002604101c1a1832
def Zn:=aI Dv
abbrev A8:=[B 15 0,V 16 (.nilck (.m 15)),V 17 (.fa 1 (.m 16)),B 18 0,V 19 (.nilck (.m 18)),V 20 (.fa 1 (.m 19)),M 21 20,P 22 .lss 21 0,A 7 17,C 8 (Q 511),A 9 22]
def rE:VC:=.regP (.range 11) [0,1,2,8,9,3,4,5,6,7,10] [] A8
def Ef (a0:VC):aj:=aP [a0] 0x1551d01106012d1c07c1f005d1ae041045181d01101f523002246181a1c1e282a2c2e383a3c3e484a4c5a5c5e2b292f29751ea0481871bb4c04b755b3c04a73f41c071f82701a077001801b7607f5e4032820371e0273f21c061f82751a067001801a7607e5e402282027603704018b7a203600753804871d46076c40328203600026204282803c100411301130701a1c1e330023a261041960210018007fe20019b1f06001c607c4606100129181a02101c13
def Qv (a0:VC):=aI (Ef a0)
def v9:aj:=Ef rE
def PQ:=cf v9 (Qv rE)
def AD:aj:=aP [] 0x1544531430291291bd1912d1af1c12d1a91b0201e038101c038001a183819b29061c2a33903c3002e000181f002181c14130020261041a000182100021801101a14
def V9:=aI AD
def AZ:aj:=aP [] 0x1502852d3821462131a2121c2114210500000000005018c2104502852d1e21422136212182112210500000000005018c2100231841e61046000181a001c3100000000000005068305c2106511
def X6:=aI AZ
def Dt:aj:=aP [] 0x156250110451825011002300110001290220210411
def aak:=aI Dt
def Fb:aj:=aP [] 0x1519b19060018861c21ea06c3e101eb01ac3605106b112d0011b686221a042265041920510012918602101812
def acD:=aI Fb
def JU:aj:=aP [] 0x15495002610462e223c03c191501841001291800305c310411
def aiy:=aI JU
abbrev FC:=[B 72 0,X 73 0 10,M 74 73,B 75 12,P 76 .mul 75 32,B 77 13,L 78 .add 76 77,B 79 12,P 80 .mul 79 32,B 81 13,L 82 .add 80 81,X 83 0 10,M 84 83,H 85 Pg [.m 84],L 86 .add 82 85,V 87 (.build [O,O,O] [(0,1,.m 74),(1,1,.m 78),(2,1,.m 86)]),V 88 (.callv (.m 72) [.m 87]),V 89 (.un .not (.m 88))]
def vI:VC:=.regP (.range 18) (.range 18) [] FC
def Fs (a0:VC):VC:=bp [a0] 0x16dd3b0638004611aa03c600018188001c1a90061452d185f5d5b493f3d3b392f291d1b7511f30018b92070196018193b13040264c20460001862a10582260046c002e000181aa1ee07100
def SA (a0:VC):=aI (Fs a0)
def mD:VC:=Fs vI
def mG:=cf mD (SA vI)
def Fr (a0:VC):VC:=bp [a0] 0x159d39022600419b1a8031013071a01865cd3b060001861c10586c002e004185107606193913040266820464c00460001861c1058580060001828301c4a0019c1b8019100
def Sr (a0:VC):=aI (Fr a0)
def mK:VC:=Fr mD
def qi:=cf mK (Sr mD)
def Fn (a0:VC):VC:=bp [a0] 0x13ad2902260046b5a031013071a06649b3904a0021045190224632975380483a271607700401b1880201f600026104600018188041c191005604192d182f130040261c20418e006c7c03100
def Sn (a0:VC):=aI (Fn a0)
def mB:VC:=Fn mK
def j9:=cf mB (Sn mK)
def FE (a0:VC):VC:=bp [a0] 0x118bf5f02229d02bc4212180130071a0462ef2f062a004600018188101c6c4805102bf122d000022d686030181d3920584103602192462943040201d725e4110
def SB (a0:VC):=aI (FE a0)
def mI:VC:=FE mB
def qo:=cf mI (SB mB)
def FB (a0:VC):VC:=bp [a0] 0x1199f490221cb02f842119991b064c00460001861c10584f0060001828301c4928e01810242943071a0260200704c5d380310002001101fb001df1d06000182b3f10581d005101600192461b75173040201d72484110
def So (a0:VC):=aI (FB a0)
def mw:VC:=FB mI
def qe:=cf mw (So mI)
def Kt (a0:VC):aj:=aP [a0] 0x10241b75173071a0060200704c190028183100218011004
def YP (a0:VC):=aI (Kt a0)
def C4:aj:=Kt mw
def aaj:=cf C4 (YP mw)
def QC:aj:=aP [] 0x1542501104518250110021a26204300210001290220210411
def am8:=aI QC
def Yu:aj:=aP [] 0x150250110454250110023182e264046000181a02c1c31000419130519b503b002103180020263043c1a02101b222979006b7010180380164385d1b002621ec03c1a056181810001290200305c310411
def wN:VC:=bp [] 0x12892b0226004792e031401305399000200021d06b004107182d2b1f34300020263046c5c0210691292ef002e91f02db2d0201c038101a03800186382cd6902261c33903c5d001a4801b1045282000200021d03107182b1f33300022a264047a402100160019402026104684a02100
def CP:=aI wN
abbrev As:=Rg [B 69 13,X 70 2 3,M 71 70,V 72 (.len (.m 71)),L 73 .geq 69 72]
abbrev Bt:=Rg [C 6 (Q 0),C 7 (Q 0),C 8 (Q 8)]
abbrev Bh:=Rg [X 74 2 3,M 75 74,A 76 13,V 77 (.ia 1 (.m 75) (.m 76)),M 78 77,A 79 7,A 6 78,A 7 79,C 8 (Q 0)]
def SO (a0 a1 a2 a3:VC):aj:=aP [a0,a1,a2,a3] 0x1571837004527071801c23006f9217006bb3b061c00419b0062a1a046000182e101c22650461c00418d006221a04226504791ca01c1b04013055b9000200021d06b00410718392f2b1f4300020263046c1bc021001bd12958f005891f04fb3902028038101e038001c1a384ed1bd062a3833903c6000182e101c5d001919c01d104013054a9000200021d06b004107182f2b1f34300020263046c18c0210018d1293ff003f91f03eb2f02028038101e038001c1a383dd18d062a3833903c2265047a005d001a6e01d102d13071a0061d91f01f1c021000200020021045282000200021d031071853230002600188611ed03c2e051a183100024329020002000240345c510281e1c33
def ahe (a0 a1 a2 a3:VC):=aI (SO a0 a1 a2 a3)
def JR:aj:=SO wN As Bt Bh
def ais:=cf JR (ahe wN As Bt Bh)
def EH:aj:=aP [] 0x151d1802002cd19061c21f803c190058154e1851004542001b1902101d183130002246181e28629753e04872b61807711ef603f5805401b1a203600752a04802724071a2036000263044c1a01d1002912919b0018d142d0000000041d6810180380164387f290611ee03c36019100222902001b603101a1822
def abI:=aI EH
def acx:aj:=aP [] 0x152f2d1f1d152919b50752a0481c2714074203600752a0481a27140742036006262044001c1001291820210411
abbrev BJ:=[B 13 0,V 14 (.nilck (.m 13)),V 15 (.fa 0 (.m 14)),M 16 15,B 17 0,V 18 (.nilck (.m 17)),V 19 (.fa 1 (.m 18)),M 20 19,A 21 1,H 22 Ar [.m 16,.m 20,.m 21],A 12 22,E 23 12 false 0,E 24 12 false 1,E 25 12 false 2,A 4 23,A 5 24,A 6 25]
def sy:VC:=.regP (.range 17) [0,1,2,3,4,5,6,7,8,9,10,11,14,12,15,13,16] [] BJ
def FD (a0:VC):aj:=aP [a0] 0x153bb1903b0021041b12301c012d6101c1c07c490030051020261044f002101c012d6201c1c07c580045a0510039130700450219011031230020263046000186201c607c4405100012902602101812
def Sq (a0:VC):=aI (FD a0)
def xd:aj:=FD sy
def Sw:=cf xd (Sq sy)
def jD:VC:=bp [] 0x14282012d6201c607c400410228264042e3802101bd702260042d0031016019402246181a5291874c04802711a067001801a72601e7407e420260022610422621af06c4601b100
def H9:=aI jD
abbrev w7:=[B 21 3,P 22 .add 21 4,V 23 (.bin .shl (Q 1) (.m 22)),A 24 0,B 25 3,P 26 .add 25 4,V 27 (.calli xp [.m 24,.m 26]),L 28 .add 23 27,A 2 28]
def nF:VC:=.regP (.range 9) (.range 9) [] w7
def zK (a0 a1:VC):aj:=aP [a0,a1] 0x150131700071a060020011001290220210411
def KC (a0 a1:VC):=aI (zK a0 a1)
def rk:aj:=zK jD nF
def Li:=cf rk (KC jD nF)
def xW:VC:=bp [] 0x148d18f02268004216012d1c2a10586b006c006000185827a1c613c92901d002101600192423040201d7218e4110
def NZ:=aI xW
def yp:VC:=bp [] 0x15e91cf0227c004216012d1c2a105879007f006000185831ba1c6159d005892b06000182b3f10581d0051036021924633040201d721ce4110
def NE:=aI yp
abbrev Pb:=[A 20 0,X 21 3 4,M 22 21,V 23 (.ld (some 4) 0 (.s 4)),H 24 yF [.m 23],V 26 (.ld (some 4) 0 (.s 4)),H 27 yF [.m 26],⟨some 25,none,.mkslice [.int .i64 0] (.s 24) (.s 24),[(0,0)]⟩,⟨some 28,none,.mkslice [.int .i64 0] (.s 27) (.s 27),[(0,0)]⟩,V 29 (.build [O,O,.nl,.nl] [(0,1,.m 20),(1,1,.m 22),(2,1,.m 25),(3,1,.m 28)]),V 6 (.alloc [O,O,.nl,.nl]),Yd 4 6 29]
def EU:VC:=.regP [0,1,2,3,4,6,7,5,8,9,10,11] (.range 12) [] (unp [0,1,2,3,4,7,5,6,8,9,10,11] Pb)
def yy:=Rg [V 30 (.ld (some 4) 1 (.s 4)),H 31 gn [.m 30],V 7 (.alloc [O8,O8,O8,O8,O8,O8,O8,O8,O8,O8,O8,O8,O8,O8,O8,O8,O8,O8,O8,O8,O8,O8,O8,O8,O8,O8,O8,O8,O8,O8,O8,O8,O8,O8,O8,O8,O8,O8,O8,O8,O8,O8,O8,O8,O8,O8,O8,O8,O8,O8,O8,O8,O8,O8,O8,O8,O8,O8,O8,O8,O8,O8,O8,O8,O8,O8,O8,O8,O8,O8,O8,O8,O8,O8,O8,O8,O8,O8,O8,O8,O8,O8,O8,O8,O8,O8,O8,O8,O8,O8,O8,O8,O8,O8,O8,O8,O8,O8,O8,O8,O8,O8,O8,O8,O8,O8,O8,O8,O8,O8,O8,O8,O8,O8,O8,O8,O8,O8,O8,O8,O8,O8,O8,O8,O8,O8,O8,O8,O8,O8,O8,O8,O8,O8,O8,O8,O8,O8,O8,O8,O8,O8,O8,O8,O8,O8,O8,O8,O8,O8,O8,O8,O8,O8,O8,O8,O8,O8,O8,O8,O8,O8,O8,O8,O8,O8,O8,O8,O8,O8,O8,O8,O8,O8,O8,O8,O8,O8,O8,O8,O8,O8,O8,O8,O8,O8,O8,O8,O8,O8,O8,O8,O8,O8,O8,O8,O8,O8,O8,O8,O8,O8,O8,O8,O8,O8,O8,O8,O8,O8,O8,O8,O8,O8,O8,O8,O8,O8,O8,O8,O8,O8,O8,O8,O8,O8,O8,O8,O8,O8,O8,O8,O8,O8,O8,O8,O8,O8,O8,O8,O8,O8,O8,O8,O8,O8,O8,O8,O8,O8,O8,O8,O8,O8,O8,O8,O8,O8,O8,O8,O8,O8,O8,O8,O8,O8,O8,O8,O8,O8,O8,O8,O8,O8,O8,O8,O8,O8,O8,O8,O8,O8,O8,O8,O8,O8,O8,O8,O8]),Yd 289 7 31]
def VS (a0 a1 a2 a3:VC):aj:=aP [a0,a1,a2,a3] 0x151d18027002842d58152c18310002433371a0260200704c60001858201c4100012961c21fa06c5d101fb01ac600018582281c5100223271a0060200604c600018582781c4100191817006f6923070041b13051ed7062842d490003300004018c410191811300020263044a2c021002f1291bd001af142d000000004196810180380164381a92f0611ee03c4280191001290200330000426831065521
def alS (a0 a1 a2 a3:VC):=aI (VS a0 a1 a2 a3)
def Nc:aj:=VS EU yy xW yp
def akL:=cf Nc (alS EU yy xW yp)
def jR:aj:=aP [] 0x156b19002660461c21fd06c1900300510012918602101812
def Ag:=aI jR
def yT:aj:=aP [] 0x154950026404604c30041001291820210411
def T6:=aI yT
def iO:VC:=bp [] 0x15d18011
def DL:=aI iO
def iN:VC:=bp [] 0x101f12d62a10198611019c380028101e185116
def DT:=aI iN
def ve (a0 a1:VC):aj:=aP [a0,a1] 0x1519b1901f101a1821001317077101c0061920110001291b20325c3101812
def GU (a0 a1:VC):=aI (ve a0 a1)
def nP:aj:=ve iO iN
def GP:=cf nP (GU iO iN)
def sZ:aj:=aP [] 0x1128411
def Mj:=aI sZ
def Hc:aj:=aP [] 0x101b22961f12d101b038011a1838791b061c2a36e03c190030028001a1819103
def aeQ:=aI Hc
def uP:VC:=bp [] 0x139f2902260046b5e0313f92b064c50460001861c10586c0060001828301c79401811600192b523040264c60460001861c10586c0060001828301c7a6a07100
def XQ:=aI uP
def PB (a0:VC):aj:=aP [a0] 0x1502003ff1906b18803100523071a0062b92b019480210002401104542000219021053230022461d429753804871d6607584031a2036000262041a3801810041f13051d900021905d003101d53330020263045e1e021002d1291af001a91d0101803800643819b2d0615903c28051a1818100222902000220325c4101a1822
def afz (a0:VC):=aI (PB a0)
def He:aj:=PB uP
def af3:=cf He (afz uP)
def uj:aj:=aP [] 0x152bf19036a0210431302b91006102a101c8604c30061c01028c0012f8190006102a101c8602bc4004001a1020264041a3a02101af3064c50462a504604c400602bc40019001810041cd01cc21020262041a00210001291b602101812
def BO:=aI uj
def xZ:VC:=bp [] 0x11dd1a919f19d18d18b1891a182959d3c021
def acU:=aI xZ
def xY:VC:=bp [] 0x101c22962d12d101c038011a18385db1e9061c2a36e03c79000181bd002e001e81819156
def acB:=aI xY
def OD (a0 a1:VC):VC:=bp [a0,a1] 0x15fd1a902229a02842101817076f111c0463d1861c21ff06c188006000181b8101c410001c22962e12d101c038011a18384cb1b9018262a36e03c6000181b8001c2e007c18191048d122d000023d686030181d39205841036021924633040201d721a84110
def abM (a0 a1:VC):=aI (OD a0 a1)
def tg:VC:=OD xZ xY
def OC:=cf tg (abM xZ xY)
def Ok (a0:VC):VC:=bp [a0] 0x168b18d0222ec05e42102433071a0260200704c19b6a03103c93906000181d3910583101600192462d2b53040201d7218c4110
def acy (a0:VC):=aI (Ok a0)
def yk:VC:=Ok tg
def Od:=cf yk (acy tg)
def VN (a0:VC):aj:=aP [a0] 0x1502006991d02d107c183100242d2b53071a0060200704c1f00310001822962e12d10180380164382e96f00202636e03c2e004a187105d1292bf002b9112d0012b6810180380064382ab5d06118e03c3b153e1819104291305289001b1d06b003101975330020263046c2c02101df29061c21fe03c28003c05281841000222902001b201905c345c5101e1c23
def alJ (a0:VC):=aI (VN a0)
def MW:aj:=VN yk
def alP:=cf MW (alJ yk)
def wa:VC:=bp [] 0x13ff00111a918d18b1894293f93a0210
def wU:=aI wa
abbrev KL:=[G 84 4,B 85 16,G 86 11,V 87 (.nilck (.m 86)),V 88 (.fa 1 (.m 87)),M 89 88,L 90 .sub 85 89,H 91 Dx [.m 84,.m 90],A 83 91,E 92 83 true 0,E 93 83 false 1,Yd 1 4 92]
def Al:VC:=.regP (.range 12) [0,1,2,3,4,5,6,7,8,9,11,10] [] KL
abbrev KB:=[G 51 4,B 52 16,G 53 11,V 54 (.nilck (.m 53)),V 55 (.fa 0 (.m 54)),M 56 55,L 57 .sub 52 56,H 58 Dx [.m 51,.m 57],A 50 58,E 59 50 true 0,E 60 50 false 1,Yd 1 4 59]
def Bd:VC:=.regP (.range 12) [0,1,2,3,4,5,6,7,8,9,11,10] [] KB
def LI (a0 a1:VC):VC:=bp [a0,a1] 0x102f22961c2a319b06c1cb001bd0018e003a1851587c19331702fb2cf1933070027df2c903a261041be2031001a1932963c12d101a03801186387a92ad02a261c36e03c1cc003c002c18181022a929f29d29b2995296f928901874c04802721a067001801a71601e7407e18e00201a6003a261041be601b10319493f2f19430025fd1fb00261041be1ba0310460181f2294d949060001861c10581af0060001861c105819c000185e001ac18191036
def ZK (a0 a1:VC):=aI (LI a0 a1)
def wE:VC:=LI Al Bd
def wg:=cf wE (ZK Al Bd)
def KD (a0 a1:VC):VC:=bp [a0,a1] 0x1199f18d02239f01ea4210183918017075a59211c0266119906c1a96a02103cf003bb112d00139686000182b3f10581d006101600192f181f182463300040201d7218c4110
def Y9 (a0 a1:VC):=aI (KD a0 a1)
def wl:VC:=KD wa wE
def K8:=cf wl (Y9 wa wE)
def Tw (a0:VC):aj:=aP [a0] 0x151918020019ad2903c102881831002f181f180243300071a0060200704c1f58031002fd112d612f68605c1211610200002018c190051001822963c12d10180380164382bf6900202636e03c3c003e1871042d130529d001b2907f003101f1819185323000020263041882c02101fb2d061c2a328803c5e0001828001a1e051000222902001b002d45c365c5102a2824
def ahC (a0:VC):=aI (Tw a0)
def J7:aj:=Tw wl
def ahN:=cf J7 (ahC wl)
def sH:VC:=bp [] 0x119eb2fb02218a00421012963e24c07862a5046128c03c1cc001be001df007a2bc0181198b4d06000181d391058310560419246493f53040201d722fa4110
def HO:=aI sH
def HC (a0:VC):VC:=bp [a0] 0x119f91dd0224ea02e421024493f53071a0463d180200704c6000181b8401c4100012922622a0786128c03c1cc007a0051001292262380786128c03c6000181b8201c7a28806107cb49062a219f03c2265041be006000181b841f81c61078d3f06119e03c6000181b8301c41043193d180020261046000181b8101c3100012962a23e078600018421881501b86000181b8101c7a00710012962a23e078600018221881501b86000181b8001c7a1ae07105b9152d322000053d686060181d39505841036021924633040201d721dc4110
def T5 (a0:VC):=aI (HC a0)
def nv:VC:=HC sH
def H3:=cf nv (T5 sH)
def Hg (a0:VC):VC:=bp [a0] 0x119ff18902238b01ce42102433071a0260200704c19b003104012922624c0786128c03c6000186301c026505819c007a0018102026404604c19c003100012962a23e078600018021881501b8604c19c007a5e07103ad3906000181d3910583101600192d182462b430040201d721884110
def Vp (a0:VC):=aI (Hg a0)
def r7:VC:=Hg nv
def yY:=cf r7 (Vp nv)
def NS (a0:VC):aj:=aP [a0] 0x1502001a8d1d02d102ac183102d180242b430071a0060200704c1f4e0310019182e9152d000000000052d686119d03c3c154c1841002cd2b02e1028b01ac21002e12d611bd03c2e004a1831042913052ab001b1d06b003101918752300020263046c3a021028929061c228a03c28003c052e1841000222902001b201905c345c5101e1c23
def abT (a0:VC):=aI (NS a0)
def Et:aj:=NS r7
def abO:=cf Et (abT r7)
abbrev N3:=[A 103 17,V 104 (.mks 1 [.c (.d (.int .u8 0))]),V 105 (.app 1 (.m 103) (.m 104)),A 106 20,B 107 21,P 108 .add 107 4,V 109 (.bin .shl (Q 1) (.m 108)),P 110 .sub 109 1,L 111 .and 106 110,B 112 21,P 113 .add 112 4,H 114 By [.m 105,.m 111,.m 113],A 102 114,E 115 102 true 0,E 116 102 false 1,A 17 115]
def Dj:VC:=.regP (.range 16) [0,1,2,3,4,5,6,7,8,9,10,11,12,13,15,14] [] N3
def NB (a0:VC):VC:=bp [a0] 0x11bb929f0224dc03aa4211bab3f062a10198611019c1fb001bd388051448240113d939d5b33070019c94b06381019861c229a03c28a0021e11019c1d92ae0610198b5b01a265046129903c6201a81fc0051002242291872a048482764061fc2026002e261046000183c029a1c1810044f130188949064c10198611019c6101a81fe3d618046201a81ed001cb00181020263041ee1e80210079b5906129803c1ee1de03106ff4f06000181d39105831016001924633040201d7229e4110
def ab6 (a0:VC):=aI (NB a0)
def ym:VC:=NB Dj
def Ff:=cf ym (ab6 Dj)
def Xa (a0:VC):aj:=aP [a0] 0x1502001dbd1d06128f03c61c2a3841019c1d9001cb002ab00348c0181046b13051cf9001b1d02b900310694b491430020263042ba3ba02100191848b1291ccf001cc9690101a03801186381cbb48b061c21ec03c28f003c153ac18191003ed02291c8b001bfd5d0101c038001a18381bef3ed061c228e03c1bd006000183c01ce1c1a1002433071a0060200704c1f1ce031001b001b002101b1e01104502006bb1d06128f03c61c21019c1a90031ea061043d130568b001b1d01af003103b1230020263041b81be0210019181e91295e9005db3b0101a03801186385cd1e9061c21ec03c18d003c151b818191001cb022959d0058f2f0101c038001a18385891cb061c228e03c1f006000183c021c1a1002611ae03c6000183c019c1c310042b13054a9001b1d04262101e879198041042d130548d001b1d07f003102b130020263041887c021019183eb2d0611ab03c3c150183100051230022429329752a048704018b6c2036000263047a5e071006d12938b002fd290101c038001a18382ef6d061c228d03c28006000183c04e1c1a100222902001b201965c4101e1c23
def akI (a0:VC):=aI (Xa a0)
def Nr:aj:=Xa ym
def VA:=cf Nr (akI ym)
def fM:VC:=bp [] 0x11df290226b03a42141b13051d91904900210281f3143002613e078601a01861c190584a004001a1a06107f1b01d00210160019243143040201d72284110
def iI:=aI fM
def vq (a0:VC):aj:=aP [a0] 0x1512190110023143071a0060200604c4203100012902602101812
def Ig (a0:VC):=aI (vq a0)
def nj:aj:=vq fM
def vZ:=cf nj (Ig fM)
def Cj:aj:=aP [] 0x15291f1d14297930187380487fe2719606700401a40201e6000266046000184001c1a1001291800210211
def YB:=aI Cj
def Da:aj:=aP [] 0x152d30611d803c301a01831001291800210211
def YR:=aI Da
def oS:VC:=bp [] 0x15ab6b0222b901cc4211f1859d1b062a0046000185e101c491ca05104518501101f183186b695f4f4d4b1b1918300002246181a1c1e282e383a484a4c1e29756e048187392804b3a273606700401a5e0201e718032e274607700401b5e0201f60075380480272607700401b5e0201f60075380481a8274607700401b5e1201f6002262046000185e15a1c381002db122d000021f686030181d39205841036021924633040201d726a4110
def u6:=aI oS
def DJ (a0:VC):VC:=bp [a0] 0x16ad4f0221ed02884214518501103184f4d4b3300022461942975380481a82746077404f3c2036006383046000186201c1a101c497e01b1002433071a0260200704c3c4a03100020011028f1906000181d391058310160019318246330040201d724e4110
def OY (a0:VC):=aI (DJ a0)
def oQ:VC:=DJ oS
def oR:=cf oQ (OY oS)
def I1 (a0:VC):aj:=aP [a0] 0x15550110318024330071a0060200704c6000181a53a1c410045185011031800263e304604c6000186301c1a101c604c6000181a51a1c1810001291800305c310411
def VZ (a0:VC):=aI (I1 a0)
def Ao:aj:=I1 oQ
def XV:=cf Ao (VZ oQ)
def CU:aj:=aP [] 0x152d30611da03c301a01831001291800210211
def ZJ:=aI CU
def uD:VC:=bp [] 0x118e919d0223cf02ea42142b13018db70792ea02145185011031819d19b1996b695f2b1d1b191a30002246181e287729753e0487018018b71d229c603f7a4032e203600752a0487fe2744077a2036000262047a401d100027bd2bb00264047f2a8031050079b190792aa03145185011031819a19b1996b695f2b1d71930002246181a1c1e2c2e1b191b2975680481873f1e04b7018018a71d229c603e7a4023c20274034a203600752a0481ffe2744077a2036000262047a40281002d130025db1ed03a261041881e80310518501103183a3c3e6b695f2d2b1d1b1971c300021e91df2295b91cf01872a04802734067a2026000261041881a801810461af02294df004d92d0101e038001c1a384cb1af061c2a329b03c6b0058006000181a518c1c1b103ff003eb2906000182b3f10581d005103602192461d43040201d7219c4110
def jF:=aI uD
def It (a0:VC):VC:=bp [a0] 0x118ef6b0222b901de4210241d43071a0260200704c5d18a03104518501103182c2e381f1d1b19718300026383046000186201c1a101c604c5e5c061002e9002cd1d06000182b3f10581d005101600193182461b197630040201d726a4110
def Wr (a0:VC):=aI (It a0)
def uC:VC:=It uD
def uw:=cf uC (Wr uD)
def Qr (a0:VC):aj:=aP [a0] 0x155501103180241b197630071a0060200704c6000181a6481c410018000200289706000181a04a1c51045185011031800263e304604c6000186301c1a101c604c6000181a62a1c1810001291800305c310411
def agz (a0:VC):=aI (Qr a0)
def Hn:aj:=Qr uC
def afL:=cf Hn (agz uC)
def CW:aj:=aP [] 0x15495061c21dc03c1900018301a01841001291820210412
def Y6:=aI CW
def my:VC:=bp [] 0x13ad5d02219e07c4214518190110383a3c1d1b5300224629429753804871d229d606f6c4a2029e401af6c00201b60061c4045800604c6c004a181a102b9112d3129686000181d3910584101600192461d1b53040201d725c4110
def mC:=aI my
def KS (a0:VC):aj:=aP [a0] 0x1551901100241d1b53071a0065180200704c6000182873c1c4100045181901105181d1b23000261c3041900604c6000182871e1c51004221d0111d130024a001c181100620011019b112d211b6841e61046000186001c281181c61001291820325c3101812
def Zd (a0:VC):=aI (KS a0)
def C1:aj:=KS my
def YH:=cf C1 (Zd my)
def CO:aj:=aP [] 0x155d7061c2a31de03c1f000181901a01830001851001291840210613
def Zy:=aI CO
def uO:VC:=bp [] 0x16dd3d02260041af0031564193f13040264c60460001862a10582260041b8006c001be1fc07100
def Xv:=aI uO
def I5 (a0:VC):VC:=bp [a0] 0x119991e90223ee02ec42145181d011019181a81aa1ac18f18d3d392d291930002246181e284b491829753e0487018018b71d22a8603f1cc4031da203600752a0482e2744071da2036002262041da28e01d1042d92bb2297ed4b0101e038001c1a387df2bb061c2a329b03c1b80019c006000183c521c1a14b130026382046000186201c3c101c1b81dc05100024b01103f13071a04604319493f230020261041cc1b8021005db005bf3f06000182b3f10581d005103602192463d3953040201d721e84110
def WT (a0:VC):=aI (I5 a0)
def oM:VC:=I5 uO
def iL:=cf oM (WT uO)
def I4 (a0:VC):VC:=bp [a0] 0x1199f18f0223ad01aa4210243d3953071a0260200704c0613e168101c861c7041880022600418d0061c7041880018e006000183c187c1c1c10020011019d022949b0048d390101c038001a18383ff19d061c21bf03c18e006050183c16e1c1a103c92f01d002101600191918242d29430040201d7218e4110
def Wg (a0:VC):=aI (I4 a0)
def pt:VC:=I4 oM
def uq:=cf pt (Wg oM)
def Px (a0:VC):aj:=aP [a0] 0x1551d01101918022d29430071a00602001f5e021003992d06188821d04285c03106d02292fd002ef290101a03801186382e96d061c218b03c5d0034e019102b91f041e61046000186001c3c13e1c51045181d0110191851230002188826304604c6000183c182e1c4100012918201965c3101c13
def aeP (a0:VC):=aI (Px a0)
def GL:aj:=Px pt
def afN:=cf GL (aeP pt)
def lh:VC:=bp [] 0x12b93b02219805842145181901102e3831430021b1363e30460001861c10584a001a0060001861c10584a0042c0191b001bd1b01d00210160019243143040201d723a4110
def xR:=aI lh
def BQ (a0:VC):aj:=aP [a0] 0x155190110023143071a0060200604c41c031004518190110312300262a304604c1a00604c4205100012918602101812
def OS (a0:VC):=aI (BQ a0)
def tZ:aj:=BQ lh
def OQ:=cf tZ (OS lh)
def fF:VC:=bp [] 0x11df290226b03a42141b13051d91904900210281f3143002613e07860001861c10584a004001a1a06107f1b01d00210160019243143040201d72284110
def iA:=aI fF
def uK (a0:VC):aj:=aP [a0] 0x1512190110023143071a0060200604c4203100012902602101812
def F7 (a0:VC):=aI (uK a0)
def mP:aj:=uK fF
def uv:=cf mP (F7 fF)
def lB:VC:=bp [] 0x12ab3d0227c05842129d702260042d0031451b181e28291f1d7173000260018862a2380786000184a001c2e0040061003602191b1824230040201d723c4110
def vP:=aI lB
def DY (a0:VC):VC:=bp [a0] 0x12b9290226b02c4211b1802230071a02602006000184a11c1c31018d122d000021b686030181d3920584101600192467153040201d72284110
def OW (a0:VC):=aI (DY a0)
def lI:VC:=DY lB
def pr:=cf lI (OW lB)
def Jj (a0:VC):aj:=aP [a0] 0x10247153071a0060200704c1900418310024011002
def X9 (a0:VC):=aI (Jj a0)
def AS:aj:=Jj lI
def XS:=cf AS (X9 lI)
def mi:aj:=aP [] 0x156b19002660461c22a906c1900300510012918602101812
def Fd:=aI mi
def AW:aj:=aP [] 0x152f2d2b3152919b70753804871d66071a00401b420360062a2046101881a000184001b1001291840210612
def Yi:=aI AW
abbrev N2:=[A 44 9,A 45 6,X 46 1 2,M 47 46,V 48 (.bin .shl (Q 1) (.m 47)),P 49 .sub 48 1,L 50 .and 45 49,X 51 1 2,M 52 51,H 53 By [.m 44,.m 50,.m 52],E 54 53 true 0,E 55 53 false 1,A 4 54,A 5 55]
def BY:VC:=.regP (.range 14) (.range 14) [] N2
def TA (a0:VC):aj:=aP [a0] 0x155181db1300700199022948d003ff2b0101e038011c1a383f919906381b36e03c2265046427046b005d7801b103ad2906129903c6201a85e6a041038b1f022600462a180460001828101c585a06102cd1d060001861c105819006000182834a1c6104542001b1902105183130002246181a529754c04873961a0771804f700601b283401f1a2036000262041a2801a10045282001b1902105183130002600188611ed03c28051a1831000222902001b20325c4101a1822
def ahQ (a0:VC):=aI (TA a0)
def Ju:aj:=TA BY
def ahK:=cf Ju (ahQ BY)
def uB:VC:=bp [] 0x119991bb0224a902fc4214518501101b183181bb1b91af3300002246181a1c1e282a2c2e383a291f1f37519f048187393804b71d46065e4026c2027280373911e077001c01b74a14c91a01bb5e1803700601b74a14c9401bb6c20360063840460001864a14c901b85e0060001864a14c901b86c28e02d1b0078d29060001862a10582265044f006000181a201c71041191f1d230020261045828a021004518501101b183185c5e681f1d5300002246181a1c1e2c2e383a3c1c29756804871d31e07581c037001a01b71d11805b5e603700401b1a3201f600754c04873961a0771804f700601b1a3401f5e2036000262045e1ac02b1004d9004bd1d06000182b3f10581d005101600191b183182463300040201d721ba4110
def IH:=aI uB
def ut:=Rg [V 40 (.ld (some 4) 1 (.s 3)),H 41 gn [.m 40],V 5 (.alloc [O8,O8,O8,O8,O8,O8,O8,O8,O8,O8,O8,O8,O8,O8,O8,O8,O8,O8,O8,O8,O8,O8,O8,O8,O8,O8,O8,O8,O8,O8,O8,O8,O8,O8,O8,O8,O8,O8,O8,O8,O8,O8,O8,O8,O8,O8,O8,O8,O8,O8,O8,O8,O8,O8,O8,O8,O8,O8,O8,O8,O8,O8,O8,O8,O8,O8,O8,O8,O8,O8,O8,O8,O8,O8,O8,O8,O8,O8,O8,O8,O8,O8,O8,O8,O8,O8,O8,O8,O8,O8,O8,O8,O8,O8,O8,O8,O8,O8,O8,O8,O8,O8,O8,O8,O8,O8,O8,O8,O8,O8,O8,O8,O8,O8,O8,O8,O8,O8,O8,O8,O8,O8,O8,O8,O8,O8,O8,O8,O8,O8,O8,O8,O8,O8,O8,O8,O8,O8,O8,O8,O8,O8,O8,O8,O8,O8,O8,O8,O8,O8,O8,O8,O8,O8,O8,O8,O8,O8,O8,O8,O8,O8,O8,O8,O8,O8,O8,O8,O8,O8,O8,O8,O8,O8,O8,O8,O8,O8,O8,O8,O8,O8,O8,O8,O8,O8,O8,O8,O8,O8,O8,O8,O8,O8,O8,O8,O8,O8,O8,O8,O8,O8,O8,O8,O8,O8,O8,O8,O8,O8,O8,O8,O8,O8,O8,O8,O8,O8,O8,O8,O8,O8,O8,O8,O8,O8,O8,O8,O8,O8,O8,O8,O8,O8,O8,O8,O8,O8,O8,O8,O8,O8,O8,O8,O8,O8,O8,O8,O8,O8,O8,O8,O8,O8,O8,O8,O8,O8,O8,O8,O8,O8,O8,O8,O8,O8,O8,O8,O8,O8,O8,O8,O8,O8,O8,O8,O8,O8,O8,O8,O8,O8,O8,O8,O8,O8,O8,O8,O8]),Yd 289 5 41]
def Qe (a0 a1:VC):aj:=aP [a0,a1] 0x155501101b183180243300171a0060200704c6000181a219e1c410071807004518501107183180002246181a1c1e2a2c2e383a3c3e4a4c4e4f4d4b2c3755b04872b31c07711ef1a03f2e051801b7604f700401b1a3201f600755b04872b31c07711ef1a03f2e051801b7604f700401b1a2201f600754d04872b31a077001801b2e3601f700401b1a1201f6000263043b2c0391b0002b1291af001a9142d000000004768101a038011863819b2b0611ee03c6000181a01e1c1a1001291800305c310411
def ae3 (a0 a1:VC):=aI (Qe a0 a1)
def H0:aj:=Qe ut uB
def afa:=cf H0 (ae3 ut uB)
def anB:aj:=aP [] 0x15027002842d61c141d01ec30002aa1e3c51045427002842d0000000004018c31011300224229752a04838274407420360022620440071000129020000000000426831065521
def OG:VC:=bp [] 0x119b1d0224c02842118d7062a704612ab03c1a050182d005116001931824230040201d721c4110
def UX (a0:VC):aj:=aP [a0] 0x151a9502d1c021031802230071a00602006000181a001c3100220011001290200305c310411
def T2:aj:=UX OG
abbrev Bq:=[B 17 5,B 18 6,B 19 1,V 20 (.ld (some 4) 0 (.s 2)),H 21 sT [.m 20],L 22 .rem 19 21,X 23 1 2,M 24 23,L 25 .add 22 24,B 26 1,V 27 (.ld (some 4) 0 (.s 2)),H 28 sT [.m 27],L 29 .quo 26 28,V 30 (.ia 1 (.m 17) (.m 18)),N (.st 1 (.m 30) (.m 25)),A 1 29]
def qF:VC:=.regP (.range 16) [0,1,2,3,4,5,6,7,8,10,11,13,14,9,12,15] [] Bq
def zx (a0:VC):VC:=bp [a0] 0x11cb1d02265044f0031071600195181d32300402026604583802100
def Lb (a0:VC):=aI (zx a0)
def lO:VC:=zx qF
def zL:=cf lO (Lb qF)
def Eb (a0:VC):aj:=aP [a0] 0x152fd1904968021051803230071a00619b1d0226504600018280181c410029129791b07702101bc0012f860001828041c51001291b20325c3101812
def P5 (a0:VC):=aI (Eb a0)
def vL:aj:=Eb lO
def PZ:=cf vL (P5 lO)
def mT:VC:=bp [] 0x11ed390225a004216012d2a2e1401b86000181a101c3b2c0511af1901d002101600192423040201d72384110
def AR:=aI mT
def mV:VC:=bp [] 0x13dd7b0227c01884213cf1d063e00462a2101e86101886b006c004f6807138b2906000181d39105831056041924633040201d727a4110
def Br:=aI mV
def mN:VC:=bp [] 0x14df2b0226504791cb0316012d2a2e1401b86000181a101c7a005146192b1300262a19046000181a201c60001862e1401b87a0061b06012d382e1401b822600460001872e1401b87a4061007606192b1304020266047a1bc02100
def Bi:=aI mN
def Aq (a0 a1:VC):VC:=bp [a0,a1] 0x169f5d02228f01e8421013171a0664af2b02265046000181a001c4106012d2a2814c901b86101a84f00492c051002433071a0460200704c06102e402ac6000181a04c1c510002001102ab1b01d00210360219318247330040201d725c4110
def Nd (a0 a1:VC):=aI (Aq a0 a1)
def mQ:VC:=Aq mV mN
def Bn:=cf mQ (Nd mV mN)
def mM:=Rg [V 1 (.box (.m 0)),V 2 (.alloc [O8,O8,O8,O8,O8,O8,O8,O8,O8,O8,O8,O8,O8,O8,O8,O8,O8,O8,O8,O8,O8,O8,O8,O8,O8,O8,O8,O8,O8,O8,O8,O8,O8,O8,O8,O8,O8,O8,O8,O8,O8,O8,O8,O8,O8,O8,O8,O8,O8,O8,O8,O8,O8,O8,O8,O8,O8,O8,O8,O8,O8,O8,O8,O8,O8,O8,O8,O8,O8,O8,O8,O8,O8,O8,O8,O8,O8,O8,O8,O8,O8,O8,O8,O8,O8,O8,O8,O8,O8,O8,O8,O8,O8,O8,O8,O8,O8,O8,O8,O8,O8,O8,O8,O8,O8,O8,O8,O8,O8,O8,O8,O8,O8,O8,O8,O8,O8,O8,O8,O8,O8,O8,O8,O8,O8,O8,O8,O8,O8,O8,O8,O8,O8,O8,O8,O8,O8,O8,O8,O8,O8,O8,O8,O8,O8,O8,O8,O8,O8,O8,O8,O8,O8,O8,O8,O8,O8,O8,O8,O8,O8,O8,O8,O8,O8,O8,O8,O8,O8,O8,O8,O8,O8,O8,O8,O8,O8,O8,O8,O8,O8,O8,O8,O8,O8,O8,O8,O8,O8,O8,O8,O8,O8,O8,O8,O8,O8,O8,O8,O8,O8,O8,O8,O8,O8,O8,O8,O8,O8,O8,O8,O8,O8,O8,O8,O8,O8,O8,O8,O8,O8,O8,O8,O8,O8,O8,O8,O8,O8,O8,O8,O8,O8,O8,O8,O8,O8,O8,O8,O8,O8,O8,O8,O8,O8,O8,O8,O8,O8,O8,O8,O8,O8,O8,O8,O8,O8,O8,O8,O8,O8,O8,O8,O8,O8,O8,O8,O8,O8,O8,O8,O8,O8,O8,O8,O8,O8,O8,O8,O8,O8,O8,O8,O8,O8,O8,O8,O8,O8])]
def Fx (a0 a1 a2:VC):aj:=aP [a0,a1,a2] 0x15318027330271a0260200611ef03c1a051e1831000223171a00602006000181a01c1c31000000000044681100704ca511
def Sp (a0 a1 a2:VC):=aI (Fx a0 a1 a2)
def xk:aj:=Fx mM mT mQ
def Ss:=cf xk (Sp mM mT mQ)
def kG:aj:=aP [] 0x1012961c3832ac06c1900604c0012f83004606102
def CC:=aI kG
def If:aj:=aP [] 0x1551319b1b063821fc03c60001862814c901b8190060001862814c901b8300181b000129021802101a13
def af5:=aI If
def ud:aj:=aP [] 0x150219011045221901100261c4041900338031004512190110312300261c2041a0042a03100452219011031230024f280110045121901104502190110024c00110031230024918011007f1d0612ad03c1a603106b1b0612ad03c440310012902602101812
def OR:=aI ud
def eU:VC:=bp [] 0x11df290226b03a42141b13051d91904900210281f3143002613e07860001861c10584a004001a1a06107f1b01d00210160019243143040201d72284110
def gD:=aI eU
def rX (a0:VC):aj:=aP [a0] 0x1512190110023143071a0060200604c4203100012902602101812
def D6 (a0:VC):=aI (rX a0)
def lF:aj:=rX eU
def rU:=cf lF (D6 eU)
def uH:VC:=bp [] 0x14cb199022198019c4212f184bd2b062a50460001818e101c7919e0510452821901102f181e282a3e484a2b5183000260018861c218f03c7a0018e03781841003dd122d000022f686030181d39205841036021924633040201d721984110
def AQ:=aI uH
def IV (a0:VC):VC:=bp [a0] 0x14ed7902229a01bc421452821901105c5e685430020263047938021002433071a0260200704c6b68031003992b06000182825e1c3102fd2906000181d391058310160019246543040201d72784110
def Xq (a0:VC):=aI (IV a0)
def uo:VC:=IV uH
def uS:=cf uo (Xq uH)
def Pn (a0:VC):aj:=aP [a0] 0x1502190110024543071a0060200704c195a03100452821901105323002638304604c60001828301c604c1a3e0610041d13051ed1904f002105323002026304582c02103922291cb001bd1b010180380064381af390615903c280528181810001290220325c3101812
def afn (a0:VC):=aI (Pn a0)
def G9:aj:=Pn uo
def afw:=cf G9 (afn uo)
def EB:aj:=aP [] 0x15491901c1f202ae01ac21001292f001905c325c4101812
def ab7:=aI EB
def kP:VC:=bp [] 0x13c9001118f7b796f4293bb2c0210
def yL:=aI kP
abbrev GE:=[B 40 11,G 41 5,G 42 8,V 43 (.ia 1 (.m 41) (.m 42)),M 44 43,V 45 (.len (.m 44)),L 46 .geq 40 45,A 47 46,U 47 48 (.mov (.s 12)),U 47 49 (.bin .eql (.s 48) (Q 0)),U 47 50 (.mov (.s 49)),W 50 51 (.ld none 0 (.s 5)),W 50 52 (.ld none 0 (.s 8)),W 50 53 (.ia 1 (.s 51) (.s 52)),W 50 54 (.ld none 0 (.s 53)),W 50 55 (.mov (.s 11)),W 50 56 (.ia 1 (.s 54) (.s 55)),W 50 57 (.ld none 0 (.s 56)),W 50 58 (.bin .neq (.s 57) (Q 0)),U 47 59 (.pick (.s 50) (.s 58) ff),V 60 (.pick (.s 47) tt (.s 59)),A 61 60,U 61 62 (.mov (.s 12)),U 61 63 (.bin .gtr (.s 62) (Q 0)),U 61 64 (.mov (.s 63)),W 64 65 (.ld none 0 (.s 7)),W 64 66 (.mov (.s 12)),W 64 67 (.ld none 0 (.s 5)),W 64 68 (.ld none 0 (.s 8)),W 64 69 (.ia 1 (.s 67) (.s 68)),W 64 70 (.ld none 0 (.s 69)),W 64 71 (.mov (.s 11)),W 64 72 (.ia 1 (.s 70) (.s 71)),W 64 73 (.ld none 0 (.s 72)),W 64 74 (.calli px [.s 65,.s 66,.s 73]),W 64 75 (.un .not (.s 74)),U 61 76 (.pick (.s 64) (.s 75) ff),V 77 (.pick (.s 61) tt (.s 76))]
def xf:VC:=.regP (.range 38) (.range 38) [] GE
def Gr (a0:VC):VC:=bp [a0] 0x141d13052824f12d1107a922b92af2ad2ab2a929f29d29b29928f28d28b2891ff1fd1fb1ef1ed1eb1e91df1dd1db1d91cf1cd1cb1c91bf392f291f1b4a307002d129018812d2260041880019a1841036
def Uo (a0:VC):=aI (Gr a0)
def kI:VC:=Gr xf
def yQ:=cf kI (Uo xf)
def GV (a0 a1:VC):VC:=bp [a0,a1] 0x118897b0222e900421452825812d1101f181b187b796f33000022d182918064c304604c60001861c10586c000184a00018188001ac1871b0001817074d4c211c0266119906c795e0210002112d001068210399002fd112d00129686000182b3f10581d006101600191f181b182463300040201d727a4110
def UE (a0 a1:VC):=aI (GV a0 a1)
def sF:VC:=GV kP kI
def HI:=cf sF (UE kP kI)
def NJ (a0:VC):aj:=aP [a0] 0x15025812d1101f181b180243300071a0060200704c194e031002bf112d611f68605c1211610200002018c300510452825812d1101b1831230002246181a529754c04872b31a0771804f4a00601b7404f1a20360060018861c219803c1a0041c01c1000010681f185c21001d13
def acg (a0:VC):=aI (NJ a0)
def EY:aj:=NJ sF
def ack:=cf EY (acg sF)
def JD:aj:=aP [] 0x1502003991906128f03c61c21019c7f0034c06106186902292e9002db2d0101a03801186382cd69061c21ec03c4f006c153e181910059022929d0028f142d3300004296810603801423828959038211b93e3c18104542001b1902101d1230020263045d2c02100391291d9001cb1d0101a03800186381bd3906382228e03c611019c191e019100222902001b603101a1822
def aiz:=aI JD
abbrev Fp:=[G 27 8,V 28 (.len (.m 27)),V 29 (.ld (some 4) 0 (.s 2)),H 30 Ba [.m 29],V 31 (.ix 5 1 false (.m 30) (Q 3)),L 32 .gtr 28 31,A 33 32,U 33 34 (.ld none 0 (.s 8)),U 33 35 (.mkfn mJ [] [.s 2,.s 8]),U 33 36 (.calli fo [.s 34,.s 35]),V 37 (.pick (.s 33) tt (.s 36))]
def vN:VC:=.regP (.range 11) (.range 11) [] Fp
def DZ (a0:VC):VC:=bp [a0] 0x13cf5f0221ba018a421452821901105f5d5b54303c9219918f18d18b05307002bf112d3129686000181d391058410160019246543040201d725e4110
def PH (a0:VC):=aI (DZ a0)
def pe:VC:=DZ vN
def DW:=cf pe (PH vN)
def I3 (a0:VC):aj:=aP [a0] 0x1502190110024543071a0060200704c19480310045282190110532300261c3044900604c1a380410041d13051cb1904f002101b5333002026304581e021002b1291a90019b1b0101803800643818d2b0615903c28051a18181001290220325c3101812
def V3 (a0:VC):=aI (I3 a0)
def Ay:aj:=I3 pe
def V2:=cf Ay (V3 pe)
abbrev Fz:=[G 6 2,A 7 0,B 8 1,V 9 (.bin .shl (Q 1) (.m 8)),P 10 .sub 9 1,L 11 .and 7 10,B 12 1,H 13 By [.m 6,.m 11,.m 12],A 5 13,E 14 5 true 0,E 15 5 false 1,Yd 1 2 14]
def vH:VC:=.regP (.range 12) [0,1,2,3,4,5,6,7,8,9,11,10] [] Fz
def IT (a0:VC):aj:=aP [a0] 0x13f1b534307003
def Yf (a0:VC):=aI (IT a0)
def AG:aj:=IT vH
def Xo:=cf AG (Yf vH)
def E3:aj:=aP [] 0x15025011045225011002300110001290220210411
def acr:=aI E3
def Jv:aj:=aP [] 0x1502002bf19060018861c21ea06c4f102bb01ac1948061028f112d0011d6861c011d01ec30002ba3c3c51045182001819021031230021ed3d062a304612b903c400604c1a2a061054200181902103123002392f2291a91f0752a0482e2744074203600226204440181006002229020018603101a1822
def aic:=aI Jv
def uu:VC:=bp [] 0x14ed7902229a01ac4214df29062a50460001858101c61c0047f0062a704612ab03c58050186b19801a1b454200021902101d183a3c3e2d2953000224618429753e04872b41807700601b582401f18820360062a20460001858101c1885a01b1002fd2d06000181d3910583102601191d18246330040201d72784110
def Iw:=aI uu
def QJ (a0:VC):aj:=aP [a0] 0x1502004fb1906b5e03101d18024330071a0160200704c194a0310002401104518200021902101d1831300022b959062a30460001858001c604c1a3e06101f13051ed00021905d403101d1831300021df4900263045e2a03100602f1291bd001af142d0000000041d6810180380164381a92f0611ee03c31c0191002229020002603101a1822
def aeS (a0:VC):=aI (QJ a0)
def GM:aj:=QJ uu
def adH:=cf GM (aeS uu)
def j0:VC:=bp [] 0x128f2f02218a0042141cd01cc21020262042e3e02101df7062a004604c49002d2a05101af1b06000181d39105831016001924633040201d722e4110
def v8:=aI j0
def jK:VC:=bp [] 0x139f6f0225a06e4213991d061c101986b004f5c0412ef2906000181d39105831036021924633040201d726e4110
def nG:=aI jK
def zT (a0 a1:VC):aj:=aP [a0,a1] 0x153ad504f1e021002433171a0260200704c34c031002ab1d061b22bc06c2d2e031002433071a0060200704c41a03100020011001291b20210411
def Lx (a0 a1:VC):=aI (zT a0 a1)
def rL:aj:=zT j0 jK
def Lu:=cf rL (Lx j0 jK)
def J1:aj:=aP [] 0x154f5062a2101e861018830040051001290220210411
def aht:=aI J1
def Bv:aj:=aP [] 0x155d50612be03c360310454950612bd03c6301a8300410182001290220210411
def WQ:=aI Bv
abbrev Io:=[B 38 8,B 39 7,B 40 8,V 41 (.slice 1 (.m 39) (some (.m 40)) none none),B 42 7,B 43 8,V 44 (.slice 1 (.m 42) none (some (.m 43)) none),V 45 (.cpy 1 (.m 41) (.m 44)),L 46 .add 38 45,A 8 46]
def Ie:VC:=.regP (.range 10) (.range 10) [] Io
def HM (a0:VC):VC:=bp [a0] 0x107160192913040262a204604c5e006c18a04100
def Ht:VC:=HM Ie
def Lr (a0:VC):aj:=aP [a0] 0x154bd1905d19c0210013071a006039929061c102983005e5e04107b1292ef1f07703101bc0012f86001a84f0051041cd01cc210224229752a0481ffffffffffffffffffffe3d744075820360003d6404493c07100391291fb001ed1b01028038001e1c381df39062a22bf03c6201a819006201a8604c4201c1041cd01cc21020262041a180210001291b602101812
def Lw:aj:=Lr Ht
def wH:VC:=bp [] 0x149b6f0221ce01aa4212b1848d5062a5046000187a101c1f1880510452b1802003dd1d06000187a001c41002c2e3854300262a2046000187a101c2800410041192b180022262046000187a15a1c31002ef122d000022b686030181d392058410160019246543040201d726e4110
def Kx:=aI wH
def TP (a0:VC):aj:=aP [a0] 0x154200021d0210024543071a0060200704c60001861c1058190033c06100454200021d021053133002241a1c1e28629752a048027240728203600753e04872b618077604f44031a2036000262041a401d100022290200021a03101e1c23
def ahO (a0:VC):=aI (TP a0)
def JS:aj:=TP wH
def aid:=cf JS (ahO wH)
def J0:aj:=aP [] 0x153b392f2d316291af1901873e04872b1918061f827060644021a20260062a6041f8265044001a001c10012918602101812
def ahV:=aI J0
def kl:aj:=aP [] 0x156b19002660461c22c806c1900300510012918602101812
def BD:=aI kl
def zg:aj:=aP [] 0x15218493f3d3b392f2d2b419301d9190756904873f11e01df7001c01b731a01f02751805b2800601b700401b2e3201f60060018861c229f03c19000181d060181e1b0001291800345c3101813
def UH:=aI zg
def EV:aj:=aP [] 0x1541858919060018861c21ea06c6b5d202c901ac60001828401c610041e26c12d1f25e12d210260001828319c1c210062112d72712d0010680014684104518190110518002246181a1c1e2c2e383a3c3e4c4e585a5d5b594b493f3d1d1b3a2975680481872b1e04b700401a282201e718030271607700401b281201f600755a04872b31c077001a01b2811801f7604f700401b284201f600753e04871d4180758603700401b281201f60075380480272607700401b281201f600753e04871d418074a603700401b280201f60002620460001828061c4e10041e2003e21b0216182300219401100382001fe20021001291820325c3101812
def acF:=aI EV
def JO:aj:=aP [] 0x155f1d2292ab1901871c048582026000261045d3807103d1291ed001df1d0101a03800186381d93d061c228d03c490032a0191041a91b0042106101c849003102182640441802100791b0020202641019c1960310012918602101812
def ahy:=aI JO
def fY:VC:=bp [] 0x11df290226b03a42141b13051d91904900210281f3143002613e07860001861c10584a004001a1a06107f1b01d00210160019243143040201d72284110
def iZ:=aI fY
def wX (a0:VC):aj:=aP [a0] 0x1512190110023143071a0060200604c4203100012902602101812
def Ij (a0:VC):=aI (wX a0)
def oE:aj:=wX fY
def w8:=cf oE (Ij fY)
def adD:aj:=aP [] 0x15046c2d64681c45c2a4583844c3e4484c43c4f4384942c3b4282d41c1f41819441c000000000000000000000000000000000000000000000000000000000000000000000000000000000000000000000000000000006c018c02131f82121ef21122104000000004018c421348212021142104000000004018c421338212021142104000000004018c221338212021142104000000004018c42131e212021142104000000004018c22131e212021142104000000004018c221318212721142104000000004018c021318212721142104000000004018c221342120211182104000000004018c021342120211182104000000004018c221322121211182104000000004018c021322121211182104000000004018c1e10000000000000000000000000000000000000000000000000000000000000000000000000000000000000000000000000000000006c1681106d110
def yE:aj:=aP [] 0x152186b5022600462a5046000181a101c6000181a201c710001290200305c310411
def Vr:=aI yE
def gG:VC:=bp [] 0x128f29061c00458006b380411ed1f06c00210012961c2a3842ca06c280069005d00400610160191a13040261c19041a002b2c03100
def qb:=aI gG
def gI:VC:=bp [] 0x14cb29062a00464270458006b19a05149b1f06c00210012961c2a4c5a52cb06c28006c0061c00458005d005e004001910564192913040261c19041a006c18803100
def pX:=aI gI
def pW (a0:VC):VC:=bp [a0] 0x15ef1d04267044f003142b1f230012961c2a383e52cb06c28001a0079005d00400710261c2041a007a1ac03104ed2b061c00458005e1a804100013071a046038b00021f06427045800410362191d53143040261c2041a00586e03100
def BA (a0:VC):=aI (pW a0)
def gE:VC:=pW gI
def qd:=cf gE (BA gI)
def tM (a0 a1:VC):aj:=aP [a0,a1] 0x11d53143171a026012961c2a3842ca06c28001a005d0043c0610013071a00607f00021f039603105821a011003
def Fk (a0 a1:VC):=aI (tM a0 a1)
def mg:aj:=tM gG gE
def En:=cf mg (Fk gG gE)
def xw:aj:=aP [] 0x15495061c30430040041001291820210411
def Sk:=aI xw
def oP:VC:=bp [] 0x101a12d61c50428000181a001f18414553133002600188611c0782800018460410160019513040261c60428000181a006183100
def vk:=aI oP
def Jl (a0:VC):aj:=aP [a0] 0x10129611c078190001833a041513071a006003
def WD (a0:VC):=aI (Jl a0)
def Bx:aj:=Jl oP
def We:=cf Bx (WD oP)
def xh:aj:=aP [] 0x15218493f3d3b392f2d2b419301d9190756904873f11e01df7001c01b731a01f02751805b2800601b700401b2e3201f60060018861c22b803c2b0601819050181e1b0001291800345c3101813
def Sj:=aI xh
def AA:aj:=aP [] 0x151b182181df1dd1db1d91cf1cd1cb1bf1bd1bb1b91af1ad1ab1a919f19b19918f18d18b1897f7b796f6d6b695d5b594f4b493f3d3b392f583005ab1901875b048739219f1c03e7119e1a03e7001801a2e3601e700401a2e4201e6001876f04875392804a706018b700401b2e2201f718020274606700401a2e1201e6001875b04872b11c067001a01a2e11801e7604e700401a2e4201e6001874d04872b191a067001801a1824a15601ba700401a2e1201e600187390480276606700401a2e1201e6001875b04873921c067221a1a067001801a224a15601ba700401a2e0201e6000266046000182e041c6a1b005185d152d000000000051b686119d03c28152184100012918001905c325c4101812
def XL:=aI AA
def No:aj:=aP [] 0x1542501104518250110021a26204300210001290220210411
def akE:=aI No
def Wi:aj:=aP [] 0x15041d2d3fffe211b38211a3821191e21181e217182161821542144213221222111b000000000000000000000000001d018c210000000000000000000000000001d1681101e110
def E7:aj:=aP [] 0x152f2d2b293162919b70753e04872b21807716018b1a00401b420360061c4041a000184001b1001291840210612
def abK:=aI E7
def t4:aj:=aP [] 0x152bf19036a0210431302b91006102a101c8604c30061c031028c0012f8190006102a101c8602bc4004001a1020264041a3a02101af3064c50462a504604c400602bc40019001810041cd01cc21020262041a00210001291b602101812
def OH:=aI t4
abbrev Nm:=Rg [A 13 2,A 14 0,V 15 (.conv .u8 (.m 14)),V 16 (.ixs (.c (.d (.str [0,1,2,2,3,3,3,3,4,4,4,4,4,4,4,4,5,5,5,5,5,5,5,5,5,5,5,5,5,5,5,5,6,6,6,6,6,6,6,6,6,6,6,6,6,6,6,6,6,6,6,6,6,6,6,6,6,6,6,6,6,6,6,6,7,7,7,7,7,7,7,7,7,7,7,7,7,7,7,7,7,7,7,7,7,7,7,7,7,7,7,7,7,7,7,7,7,7,7,7,7,7,7,7,7,7,7,7,7,7,7,7,7,7,7,7,7,7,7,7,7,7,7,7,7,7,7,7,8,8,8,8,8,8,8,8,8,8,8,8,8,8,8,8,8,8,8,8,8,8,8,8,8,8,8,8,8,8,8,8,8,8,8,8,8,8,8,8,8,8,8,8,8,8,8,8,8,8,8,8,8,8,8,8,8,8,8,8,8,8,8,8,8,8,8,8,8,8,8,8,8,8,8,8,8,8,8,8,8,8,8,8,8,8,8,8,8,8,8,8,8,8,8,8,8,8,8,8,8,8,8,8,8,8,8,8,8,8,8,8,8,8,8,8,8,8,8,8,8,8,8,8,8,8,8,8]))) (.m 15)),V 17 (.conv .i64 (.m 16)),L 18 .add 13 17,A 2 18]
def SC (a0:VC):aj:=aP [a0] 0x15070419b5028260041f2c0317f10283d6180430031002188848660441802100448220114f10483d6180430031041300248888848660440021000220110411
def SD:aj:=SC Nm
abbrev zW:=Rg [A 19 2,A 20 0,V 21 (.conv .u8 (.m 20)),V 22 (.ixs (.c (.d (.str [0,1,2,2,3,3,3,3,4,4,4,4,4,4,4,4,5,5,5,5,5,5,5,5,5,5,5,5,5,5,5,5,6,6,6,6,6,6,6,6,6,6,6,6,6,6,6,6,6,6,6,6,6,6,6,6,6,6,6,6,6,6,6,6,7,7,7,7,7,7,7,7,7,7,7,7,7,7,7,7,7,7,7,7,7,7,7,7,7,7,7,7,7,7,7,7,7,7,7,7,7,7,7,7,7,7,7,7,7,7,7,7,7,7,7,7,7,7,7,7,7,7,7,7,7,7,7,7,8,8,8,8,8,8,8,8,8,8,8,8,8,8,8,8,8,8,8,8,8,8,8,8,8,8,8,8,8,8,8,8,8,8,8,8,8,8,8,8,8,8,8,8,8,8,8,8,8,8,8,8,8,8,8,8,8,8,8,8,8,8,8,8,8,8,8,8,8,8,8,8,8,8,8,8,8,8,8,8,8,8,8,8,8,8,8,8,8,8,8,8,8,8,8,8,8,8,8,8,8,8,8,8,8,8,8,8,8,8,8,8,8,8,8,8,8,8,8,8,8,8,8,8,8,8,8,8]))) (.m 21)),V 23 (.conv .i64 (.m 22)),L 24 .add 19 23,A 2 24]
def Fv (a0:VC):aj:=aP [a0] 0x1507041df5028260041f480311cb10283d618043003100218883d660442c02100419b5048260041f2c0317f10483d61804300310024888883d6604418021004188220114f101883d618043003104130021888888888883d660440021000220110411
def Sh (a0:VC):=aI (Fv a0)
def xq:aj:=Fv zW
def Sy:=cf xq (Sh zW)
def W4:aj:=aP [] 0x152e9002db19079006b4c04105d1292cd002bf290101a03800186382b95d061c22cd03c190034a0191045289001ed1906201a85d006201a84f2c06102d1291d9001cb1d0101e038001c1a381bd2d062a22cc03c6301a819006301a831a01b1018200222903d0003d603101a1822
def fp:VC:=bp [] 0x11df290226b03a42141b13051d91904900210281f3143002613e07860601861c50584a004001a1a06107f1b01d00210160019243143040201d72284110
def gK:=aI fp
def tC (a0:VC):aj:=aP [a0] 0x1512190110023143071a0060200604c4203100012902602101812
def ED (a0:VC):=aI (tC a0)
def ma:aj:=tC fp
def tJ:=cf ma (ED fp)
def Am:aj:=aP [] 0x152f2d2b4152919b190753804871d46072800401b420360061c20419000184001a10012918602101813
def XK:=aI Am
abbrev l9:=[B 18 9,B 19 1,L 20 .gtr 18 19,A 21 20,W 21 22 (.mov (.s 3)),W 21 23 (.mov (.s 0)),W 21 24 (.mov (.s 9)),W 21 25 (.ia 1 (.s 23) (.s 24)),W 21 26 (.ld none 0 (.s 25)),W 21 27 (.mov (.s 0)),W 21 28 (.mov (.s 9)),W 21 29 (.bin .sub (.s 28) (Q 1)),W 21 30 (.ia 1 (.s 27) (.s 29)),W 21 31 (.ld none 0 (.s 30)),W 21 32 (.callv (.s 22) [.s 26,.s 31]),W 21 33 (.bin .lss (.s 32) (Q 0)),V 34 (.pick (.s 21) (.s 33) ff)]
def gX:VC:=.regP (.range 17) (.range 17) [] l9
abbrev lU:=[B 37 0,B 38 9,B 39 0,B 40 9,P 41 .sub 40 1,B 42 0,B 43 9,P 44 .sub 43 1,V 45 (.ia 1 (.m 42) (.m 44)),M 46 45,B 47 0,B 48 9,V 49 (.ia 1 (.m 47) (.m 48)),M 50 49,V 51 (.ia 1 (.m 37) (.m 38)),N (.st 1 (.m 51) (.m 46)),V 52 (.ia 1 (.m 39) (.m 41)),N (.st 1 (.m 52) (.m 50))]
def gZ:VC:=.regP (.range 18) [0,1,5,6,7,8,9,10,11,12,13,14,15,2,3,4,16,17] [] lU
def lC (a0 a1:VC):VC:=bp [a0,a1] 0x13bb2b02265047918c031173602192b130439f218b1897f7d7b796f6d6b695f5d5b1d307000
def uV (a0 a1:VC):=aI (lC a0 a1)
def eY:VC:=lC gX gZ
def ln:=cf eY (uV gX gZ)
def lK (a0:VC):VC:=bp [a0] 0x11cb2902260045a1a031013071a0261d92b06c402101600191c753153040261c2042800392e03100
def uU (a0:VC):=aI (lK a0)
def eV:VC:=lK eY
def lx:=cf eV (uU eY)
def mZ (a0:VC):aj:=aP [a0] 0x10753153071a00618d2902260041a2a031004
def xC (a0:VC):=aI (mZ a0)
def iT:aj:=mZ eV
def xz:=cf iT (xC eV)
abbrev pg:=[B 40 4,B 41 0,B 42 12,V 43 (.ia 1 (.m 41) (.m 42)),M 44 43,B 45 0,B 46 1,V 47 (.ia 1 (.m 45) (.m 46)),M 48 47,V 49 (.callv (.m 40) [.m 44,.m 48]),P 50 .lss 49 0]
def jz:VC:=.regP (.range 11) (.range 11) [] pg
def nY (a0:VC):VC:=bp [a0] 0x15892f019b1ac0212f1304fb2d022600419b19c03141304df20703dd3906001a823d618046201a861c00418e0018800710160192f1923040261c20418e001887c03100
def z7 (a0:VC):=aI (nY a0)
def gh:VC:=nY jz
def oh:=cf gh (z7 jz)
abbrev om:=[B 61 0,B 62 13,B 63 0,B 64 13,P 65 .add 64 1,B 66 0,B 67 13,P 68 .add 67 1,V 69 (.ia 1 (.m 66) (.m 68)),M 70 69,B 71 0,B 72 13,V 73 (.ia 1 (.m 71) (.m 72)),M 74 73,V 75 (.ia 1 (.m 61) (.m 62)),N (.st 1 (.m 75) (.m 70)),V 76 (.ia 1 (.m 63) (.m 65)),N (.st 1 (.m 76) (.m 74))]
def jb:VC:=.regP (.range 18) [0,1,5,6,7,8,9,10,11,12,13,14,15,2,3,4,16,17] [] om
def oi (a0:VC):VC:=bp [a0] 0x15db3b02260041a90031073602193b2d133040262a204226504188001aa1dc04100
def Ac (a0:VC):=aI (oi a0)
def gg:VC:=oi jb
def n9:=cf gg (Ac jb)
abbrev oa:=[B 92 4,B 93 0,B 94 2,V 95 (.ia 1 (.m 93) (.m 94)),M 96 95,B 97 0,B 98 16,V 99 (.ia 1 (.m 97) (.m 98)),M 100 99,V 101 (.callv (.m 92) [.m 96,.m 100]),P 102 .lss 101 0,V 103 (.un .not (.m 102))]
def ja:VC:=.regP (.range 12) (.range 12) [] oa
def oq (a0:VC):VC:=bp [a0] 0x119ff3f01cb2ee0213f13019f93d02260041cb2de031413019dd207018cd4906001a823d618046201a861c0041be001b800710564193f1923040261c2041be001b82cc03100
def zY (a0:VC):=aI (oq a0)
def gj:VC:=oq ja
def ou:=cf gj (zY ja)
abbrev nW:=[B 113 0,B 114 17,B 115 0,B 116 17,P 117 .sub 116 1,B 118 0,B 119 17,P 120 .sub 119 1,V 121 (.ia 1 (.m 118) (.m 120)),M 122 121,B 123 0,B 124 17,V 125 (.ia 1 (.m 123) (.m 124)),M 126 125,V 127 (.ia 1 (.m 113) (.m 114)),N (.st 1 (.m 127) (.m 122)),V 128 (.ia 1 (.m 115) (.m 117)),N (.st 1 (.m 128) (.m 126))]
def je:VC:=.regP (.range 18) [0,1,5,6,7,8,9,10,11,12,13,14,15,2,3,4,16,17] [] nW
def oe (a0:VC):VC:=bp [a0] 0x11acb4b02265041d90031077606194b3d133040261c4041b8001da3ae03100
def Aa (a0:VC):=aI (oe a0)
def gk:VC:=oe je
def og:=cf gk (Aa je)
abbrev oc:=[B 158 4,B 159 0,B 160 22,B 161 23,L 162 .sub 160 161,V 163 (.ia 1 (.m 159) (.m 162)),M 164 163,B 165 0,B 166 23,V 167 (.ia 1 (.m 165) (.m 166)),M 168 167,V 169 (.callv (.m 158) [.m 164,.m 168]),P 170 .lss 169 0,V 171 (.un .not (.m 170))]
def jd:VC:=.regP (.range 14) (.range 14) [] oc
def nV (a0:VC):VC:=bp [a0] 0x128af5b029d4ea0215b13028a959022600429d4d80316130288d20701ee95f06001a823d618046201a861c00428a001fc0071019618195d5b23040261c20428a001fc4d803100
def z8 (a0:VC):=aI (nV a0)
def ge:VC:=nV jd
def ot:=cf ge (z8 jd)
def rM (a0 a1 a2 a3 a4:VC):aj:=aP [a0,a1,a2,a3,a4] 0x14694d1971530012961c2a383e52cb06c3b002d002ab001df0030071022463291873804871d26062e4022ac20260061c2042ac001e80019104593230012961c2a383e52cb06c3c001e8001fb00190040071022463291873804871d26061e84021fc20260061c2041fc001a001910045130012961c2a383e52ce06c3c002ac001f001fc0040071022463291873804871d26062ac4022820260061c20428001fc4ea01910028d969061c5041fc001ed4e804100223471a018601dfb5d02265041ee3fa03101ddf5b0283fa0211dd95901a3ee02101dcb5b01e83ee0211dbd59061c5042e001ee004100261c4041e800283d80310002229020002003101cf94f061c00428001e83d804101ccf4d06001a823d618046201a861c0042e001a3be07104506133371a0661a8d4b01f2ee0210001923271a04607df3f02828e02107d93d0190021071300222610461c50428002e1fe041004506133171a02658f3b0191ac0210001923071a00602ef2f02d4e02102e92d01f002100222610461c5041a0028680410005
def CM (a0 a1 a2 a3 a4:VC):=aI (rM a0 a1 a2 a3 a4)
def kF:aj:=rM gh gg gj gk ge
def ef:=cf kF (CM gh gg gj gk ge)
def SE:aj:=aP [] 0x151cb001af1906301a84f006301a81883d618044d1a071018d1d062a7046201a819006201a83206100222904800048603101a1822
def Su:aj:=aP [] 0x154df1b061c704190031ae04104bd19062a0041883d6180419b0061c0041a90061c70479005d6e019103dd39063800461c7047a004f0019b5a061039f3b01883d6180418d58031038b3907fffffffffe3d61c0418e4e03102ef2f062a0041883d618047f0061c7046b005e3c07102ab2d061c7046c00583804102892b01883d618041a2e03101ed2907fffffffffe3d61c041a2c03101d91f01883d6180442a03101bd1d07fffffffffe3d61c0442803100222903d0003d603101a1822
def gJ:VC:=bp [] 0x14d92f061c5041880018d0041012961c2a6818a52cf06c3c001880061c5041880061c00418e00280061c50418800280046801d1039f2d061c50418e007f0041012961c2a385a52cf06c3c0018e00280061c50418800280040019100261c40418b0018800310160192a13040261c3046900694a03100
def BH:=aI gJ
def tx (a0:VC):aj:=aP [a0] 0x1012961c2a385a52cf06c3b007f001f0061c504188002800319c0191013071a00601d92f061c50428002d1804101af2d061c5041900282e041005
def EG (a0:VC):=aI (tx a0)
def mf:aj:=tx gJ
def Er:=cf mf (EG gJ)
abbrev nX:=[B 16 0,B 17 1,B 18 10,L 19 .add 17 18,B 20 0,B 21 2,B 22 10,L 23 .add 21 22,B 24 0,B 25 2,B 26 10,L 27 .add 25 26,V 28 (.ia 1 (.m 24) (.m 27)),M 29 28,B 30 0,B 31 1,B 32 10,L 33 .add 31 32,V 34 (.ia 1 (.m 30) (.m 33)),M 35 34,V 36 (.ia 1 (.m 16) (.m 19)),N (.st 1 (.m 36) (.m 29)),V 37 (.ia 1 (.m 20) (.m 23)),N (.st 1 (.m 37) (.m 35))]
def jc:VC:=.regP (.range 24) [0,1,2,3,8,9,10,11,12,13,14,15,16,17,18,19,20,21,4,5,6,7,22,23] [] nX
def nA (a0:VC):VC:=bp [a0] 0x11bd2d0226004380031071600196753153040261c2042e0072c03100
def yP (a0:VC):=aI (nA a0)
def fS:VC:=nA jc
def nk:=cf fS (yP jc)
def pV (a0:VC):aj:=aP [a0] 0x10753153071a006022a01101913005
def BE (a0:VC):=aI (pV a0)
def km:aj:=pV fS
def Bz:=cf km (BE fS)
def asi:T:=(.node 85 EH (.node 44 MS (.node 23 Js (.node 13 yC (.node 8 JN (.node 5 Mz (.node 4 rB (.node 3 oG .leaf .leaf) .leaf) (.node 7 Kc (.node 6 Nu .leaf .leaf) .leaf)) (.node 11 Gz (.node 10 Mc (.node 9 OP .leaf .leaf) .leaf) (.node 12 EF .leaf .leaf))) (.node 18 ox (.node 16 PY (.node 15 MN (.node 14 yW .leaf .leaf) .leaf) (.node 17 t9 .leaf .leaf)) (.node 21 EZ (.node 20 JZ (.node 19 MZ .leaf .leaf) .leaf) (.node 22 aih .leaf .leaf)))) (.node 34 MH (.node 29 Kf (.node 26 JC (.node 25 MD (.node 24 JG .leaf .leaf) .leaf) (.node 28 Hs (.node 27 G8 .leaf .leaf) .leaf)) (.node 32 Km (.node 31 Jm (.node 30 JQ .leaf .leaf) .leaf) (.node 33 JT .leaf .leaf))) (.node 39 JW (.node 37 JM (.node 36 JP (.node 35 Jw .leaf .leaf) .leaf) (.node 38 JE .leaf .leaf)) (.node 42 JH (.node 41 BX (.node 40 E5 .leaf .leaf) .leaf) (.node 43 GY .leaf .leaf))))) (.node 65 Eo (.node 55 Pm (.node 50 CG (.node 47 sR (.node 46 BT (.node 45 Bl .leaf .leaf) .leaf) (.node 49 Nj (.node 48 M4 .leaf .leaf) .leaf)) (.node 53 Ae (.node 52 Im (.node 51 F3 .leaf .leaf) .leaf) (.node 54 MY .leaf .leaf))) (.node 60 EW (.node 58 Q5 (.node 57 qW (.node 56 Nf .leaf .leaf) .leaf) (.node 59 lM .leaf .leaf)) (.node 63 kM (.node 62 J9 (.node 61 Hb .leaf .leaf) .leaf) (.node 64 Fa .leaf .leaf)))) (.node 75 v9 (.node 70 HV (.node 68 BU (.node 67 Cq (.node 66 Hy .leaf .leaf) .leaf) (.node 69 ui .leaf .leaf)) (.node 73 ER (.node 72 JI (.node 71 GD .leaf .leaf) .leaf) (.node 74 Dv .leaf .leaf))) (.node 80 JU (.node 78 Dt (.node 77 AZ (.node 76 AD .leaf .leaf) .leaf) (.node 79 Fb .leaf .leaf)) (.node 83 Yu (.node 82 QC (.node 81 C4 .leaf .leaf) .leaf) (.node 84 JR .leaf .leaf)))))) (.node 127 EB (.node 106 Hn (.node 96 uj (.node 91 yT (.node 88 rk (.node 87 xd (.node 86 acx .leaf .leaf) .leaf) (.node 90 jR (.node 89 Nc .leaf .leaf) .leaf)) (.node 94 Hc (.node 93 sZ (.node 92 nP .leaf .leaf) .leaf) (.node 95 He .leaf .leaf))) (.node 101 nj (.node 99 Et (.node 98 J7 (.node 97 MW .leaf .leaf) .leaf) (.node 100 Nr .leaf .leaf)) (.node 104 Ao (.node 103 Da (.node 102 Cj .leaf .leaf) .leaf) (.node 105 CU .leaf .leaf)))) (.node 117 H0 (.node 112 mP (.node 109 CO (.node 108 C1 (.node 107 CW .leaf .leaf) .leaf) (.node 111 tZ (.node 110 GL .leaf .leaf) .leaf)) (.node 115 AW (.node 114 mi (.node 113 AS .leaf .leaf) .leaf) (.node 116 Ju .leaf .leaf))) (.node 122 kG (.node 120 vL (.node 119 T2 (.node 118 anB .leaf .leaf) .leaf) (.node 121 xk .leaf .leaf)) (.node 125 lF (.node 124 ud (.node 123 If .leaf .leaf) .leaf) (.node 126 G9 .leaf .leaf))))) (.node 148 mg (.node 138 Lw (.node 133 Jv (.node 130 Ay (.node 129 JD (.node 128 EY .leaf .leaf) .leaf) (.node 132 E3 (.node 131 AG .leaf .leaf) .leaf)) (.node 136 J1 (.node 135 rL (.node 134 GM .leaf .leaf) .leaf) (.node 137 Bv .leaf .leaf))) (.node 143 EV (.node 141 kl (.node 140 J0 (.node 139 JS .leaf .leaf) .leaf) (.node 142 zg .leaf .leaf)) (.node 146 adD (.node 145 oE (.node 144 JO .leaf .leaf) .leaf) (.node 147 yE .leaf .leaf)))) (.node 158 xq (.node 153 No (.node 151 xh (.node 150 Bx (.node 149 xw .leaf .leaf) .leaf) (.node 152 AA .leaf .leaf)) (.node 156 t4 (.node 155 E7 (.node 154 Wi .leaf .leaf) .leaf) (.node 157 SD .leaf .leaf))) (.node 163 kF (.node 161 Am (.node 160 ma (.node 159 W4 .leaf .leaf) .leaf) (.node 162 iT .leaf .leaf)) (.node 166 mf (.node 165 Su (.node 164 SE .leaf .leaf) .leaf) (.node 167 km .leaf .leaf)))))))
def prog:Nat->Y_:=asi.look
abbrev rP (r:VC)(l:S_)(e:aV):Prop:=∀{h:am}{n:Nat},(Dn prog).code r ⟨e,⟨h,n⟩⟩=fc (oA prog l e ⟨h,n⟩)
def lZ {p g:C_}{o:S_}{l:S_}{e:aV}(a:rI e o=true:=by kernel_rfl)(b:(p.all λi=>decide (i<o.length))=true:=by kernel_rfl)(c:p.filterMap (λi=>o[i]?)=l:=by kernel_rfl):rP (.regP p g [] o) l e:=akc a b (by rw[c])
variable {x0 x1 x2 x3 x4 x5 x6 x7 x8 x9 x10 x11 x12 x13 x14 x15 x16 x17 x18 x19 x21 x69:AV}{y0 y1 y2 y3 y4 y5 y6 y7 y8 y9 y10 y11 y12 y13 y14 y15 y16 y17 y18 y19 y20 y21 y22 y23 y31 y32 y33 y46 y47 y70 y71 y80 y81 y140 y141:D}{h:am}{n:Nat}
@[simp] def abi:rP mj uE [(1,x1),(2,x2),(6,x6),(8,x8),(9,.d y9)]:=lZ
@[simp] def aaX:rP md uJ [(1,x1),(2,x2),(6,x6),(8,x8),(9,.d y9),(11,.d y11)]:=lZ
@[simp] def atu:(Dn prog).code tz ⟨[(2,x2),(4,x4),(6,x6)],⟨h,n⟩⟩=fc (bA (gP 1 (share x2)) λa1=>bA (eM ((dG (cJ (firm a1)++[]) h)) none (firm a1)) λa2=>bA (fg .sub (firm a2) (A_ 1)) λa3=>bP ((Dn prog).call jh [firm (share x6),A_ 3] ⟨h,n⟩) λa4 s5=>dB (dE (((cJ (firm a1)++[])++[])) h s5.heap) <|bA (fg .eql (firm a4) (.d a3)) λa6=>bP ((Dn prog).call kH [firm (share x6),.d a6] ⟨s5.heap,s5.next⟩) λa7 s8=>some ⟨[(2,x2),(4,x4),(6,x6),(41,firm a7)],⟨s8.heap,s8.next⟩⟩):=dH rfl rfl (by kernel_rfl)
@[simp] def asn:rP we Oj [(2,x2),(4,x4),(6,x6),(7,x7)]:=lZ
@[simp] def ask:(Dn prog).code wn ⟨[(4,x4),(6,x6)],⟨h,n⟩⟩=fc (bA (dS [.nl,B_ false,O,.nl,.nl] []) λa1=>bA (DQ (firm x6)) λa2=>bA (gP 2 (firm a2)) λa3=>bA (eM ((dG (cJ (firm a3)++[]) h)) none (firm a3)) λa4=>bA (storeAt h 5 (share x4) (firm (.agg a1))) λh5=>dB (dE (((cJ (firm a3)++[])++[])) h h5) <|some ⟨[(4,x4),(5,firm (firm a4))],⟨h5,n⟩⟩):=dH rfl rfl (by kernel_rfl)
@[simp] def arL:(Dn prog).code CZ ⟨[(4,x4),(6,x6)],⟨h,n⟩⟩=fc (bA (dS [.nl,B_ false,O,.nl,.nl] []) λa1=>bA (DQ (firm x6)) λa2=>bA (gP 2 (firm a2)) λa3=>bA (eM ((dG (cJ (firm a3)++[]) h)) none (firm a3)) λa4=>bA (storeAt h 5 (share x4) (firm (.agg a1))) λh5=>dB (dE (((cJ (firm a3)++[])++[])) h h5) <|some ⟨[(4,x4),(5,firm (firm a4))],⟨h5,n⟩⟩):=dH rfl rfl (by kernel_rfl)
@[simp] def asl:rP CF NG [(2,x2),(4,x4),(6,x6),(7,x7),(10,x10),(140,.d y140),(141,.d y141)]:=lZ
@[simp] def arP:(Dn prog).code Dm ⟨[(4,x4),(6,x6)],⟨h,n⟩⟩=fc (bA (dS [.nl,B_ false,O,.nl,.nl] []) λa1=>bA (DQ (firm x6)) λa2=>bA (gP 2 (firm a2)) λa3=>bA (eM ((dG (cJ (firm a3)++[]) h)) none (firm a3)) λa4=>bA (storeAt h 5 (share x4) (firm (.agg a1))) λh5=>dB (dE (((cJ (firm a3)++[])++[])) h h5) <|some ⟨[(4,x4),(5,firm (firm a4))],⟨h5,n⟩⟩):=dH rfl rfl (by kernel_rfl)
@[simp] def arJ:(Dn prog).code wt ⟨[(4,x4),(6,x6)],⟨h,n⟩⟩=fc (bA (dS [.nl,B_ false,O,.nl,.nl] []) λa1=>bA (DQ (firm x6)) λa2=>bA (gP 2 (firm a2)) λa3=>bA (eM ((dG (cJ (firm a3)++[]) h)) none (firm a3)) λa4=>bA (storeAt h 5 (share x4) (firm (.agg a1))) λh5=>dB (dE (((cJ (firm a3)++[])++[])) h h5) <|some ⟨[(4,x4),(5,firm (firm a4))],⟨h5,n⟩⟩):=dH rfl rfl (by kernel_rfl)
@[simp] def akw:rP um DP [(0,x0),(1,.d y1)]:=lZ
@[simp] def atq:(Dn prog).code EK ⟨[(6,x6),(7,x7),(8,x8)],⟨h,n⟩⟩=fc (bA (eM h (some 4) (share x6)) λa1=>bA (eM ((dG (cJ x8++[]) h)) none (share x8)) λa2=>bA (storeAt h 4 (share x6) (firm a1)) λh3=>dB (dE (((cJ x8++[])++[])) h h3) <|bA (storeAt h3 1 (share x7) (O)) λh4=>dB (dE (((cJ x8++[])++[])) h3 h4) <|bA (storeAt h4 1 (share x8) (firm a2)) λh5=>some ⟨[(6,x6),(7,x7),(8,x8)],⟨h5,n⟩⟩):=dH rfl rfl (by kernel_rfl)
@[simp] def ase:(Dn prog).code Ca ⟨[(6,x6),(7,x7),(8,x8)],⟨h,n⟩⟩=fc (bA (dS [O8,O8,O,.nl] []) λa1=>bA (eM ((dG (cJ x8++[]) h)) none (share x8)) λa2=>bA (storeAt h 4 (share x6) (firm (.agg a1))) λh3=>dB (dE (((cJ x8++[])++[])) h h3) <|bA (storeAt h3 1 (share x7) (O)) λh4=>dB (dE (((cJ x8++[])++[])) h3 h4) <|bA (storeAt h4 1 (share x8) (firm a2)) λh5=>some ⟨[(6,x6),(7,x7),(8,x8)],⟨h5,n⟩⟩):=dH rfl rfl (by kernel_rfl)
@[simp] def arT:(Dn prog).code C5 ⟨[(6,x6),(7,x7),(8,x8)],⟨h,n⟩⟩=fc (bA (eM h (some 4) (share x6)) λa1=>bA (eM ((dG (cJ x7++[]) h)) none (share x7)) λa2=>bA (storeAt h 4 (share x6) (firm a1)) λh3=>dB (dE (((cJ x7++[])++[])) h h3) <|bA (storeAt h3 1 (share x7) (firm a2)) λh4=>bA (storeAt h4 1 (share x8) (O)) λh5=>some ⟨[(6,x6),(7,x7),(8,x8)],⟨h5,n⟩⟩):=dH rfl rfl (by kernel_rfl)
@[simp] def avi:(Dn prog).code GR ⟨[(10,x10),(11,x11),(12,x12)],⟨h,n⟩⟩=fc (bA (dS [O,O8,O8,O,.nl,.nl,.nl,.nl,.nl] []) λa1=>bA (eM ((dG (cJ x12++[]) h)) none (share x12)) λa2=>bA (storeAt h 9 (share x10) (firm (.agg a1))) λh3=>dB (dE (((cJ x12++[])++[])) h h3) <|bA (storeAt h3 1 (share x11) (O)) λh4=>dB (dE (((cJ x12++[])++[])) h3 h4) <|bA (storeAt h4 1 (share x12) (firm a2)) λh5=>some ⟨[(10,x10),(11,x11),(12,x12)],⟨h5,n⟩⟩):=dH rfl rfl (by kernel_rfl)
@[simp] def avj:(Dn prog).code GJ ⟨[(10,x10),(11,x11),(12,x12)],⟨h,n⟩⟩=fc (bA (dS [O,O8,O8,O,.nl,.nl,.nl,.nl,.nl] []) λa1=>bA (eM ((dG (cJ x12++[]) h)) none (share x12)) λa2=>bA (storeAt h 9 (share x10) (firm (.agg a1))) λh3=>dB (dE (((cJ x12++[])++[])) h h3) <|bA (storeAt h3 1 (share x11) (O)) λh4=>dB (dE (((cJ x12++[])++[])) h3 h4) <|bA (storeAt h4 1 (share x12) (firm a2)) λh5=>some ⟨[(10,x10),(11,x11),(12,x12)],⟨h5,n⟩⟩):=dH rfl rfl (by kernel_rfl)
@[simp] def aus:(Dn prog).code Ex ⟨[(10,x10),(11,x11),(12,x12)],⟨h,n⟩⟩=fc (bA (dS [O,O8,O8,O,.nl,.nl,.nl,.nl,.nl] []) λa1=>bA (eM ((dG (cJ x12++[]) h)) none (share x12)) λa2=>bA (storeAt h 9 (share x10) (firm (.agg a1))) λh3=>dB (dE (((cJ x12++[])++[])) h h3) <|bA (storeAt h3 1 (share x11) (O)) λh4=>dB (dE (((cJ x12++[])++[])) h3 h4) <|bA (storeAt h4 1 (share x12) (firm a2)) λh5=>some ⟨[(10,x10),(11,x11),(12,x12)],⟨h5,n⟩⟩):=dH rfl rfl (by kernel_rfl)
@[simp] def auc:(Dn prog).code yc ⟨[(5,x5),(10,x10),(11,x11),(12,x12),(18,x18),(19,x19)],⟨h,n⟩⟩=fc (bA (eM ((dG (cJ x5++[]) h)) none x5) λa1=>bA (eM ((dG (cJ x11++[]) h)) none (share x11)) λa2=>bA (eM h none (share x18)) λa3=>bA (gP 0 (share x19)) λa4=>bA (eM h none (firm a4)) λa5=>bP ((Dn prog).call lN [firm a3,firm a5] ⟨h,n⟩) λa6 s7=>dB (dE (((cJ x11++[])++((cJ x5++[])++[]))) h s7.heap) <|bA (ep (Dn prog) wF [firm a1,firm a2,firm a6] s7.heap) λa8=>bA (yz true (firm (firm a8)) 0) λa9=>bA (yz false (LW (firm (firm a8)) 0) 1) λa10=>bA (yz false (LW (firm (firm a8)) 0) 2) λa11=>bA (storeAt s7.heap 1 (share x11) (firm a10)) λh12=>bA (storeAt h12 1 (share x12) (firm a11)) λh13=>some ⟨[(10,x10),(11,x11),(12,x12),(18,x18),(19,x19),(20,firm (firm a9)),(84,LW (firm (firm a8)) 0)],⟨h13,s7.next⟩⟩):=dH rfl rfl (by kernel_rfl)
@[simp] def atQ:(Dn prog).code yd ⟨[(10,x10),(11,x11),(12,x12)],⟨h,n⟩⟩=fc (bA (dS [O,O8,O8,O,.nl,.nl,.nl,.nl,.nl] []) λa1=>bA (eM ((dG (cJ x12++[]) h)) none (share x12)) λa2=>bA (storeAt h 9 x10 (firm (.agg a1))) λh3=>dB (dE (((cJ x12++[])++[])) h h3) <|bA (storeAt h3 1 x11 (O)) λh4=>dB (dE (((cJ x12++[])++[])) h3 h4) <|bA (storeAt h4 1 (share x12) (firm a2)) λh5=>some ⟨[(12,x12)],⟨h5,n⟩⟩):=dH rfl rfl (by kernel_rfl)
@[simp] def atX:(Dn prog).code Fg ⟨[(10,x10),(11,x11),(12,x12)],⟨h,n⟩⟩=fc (bA (eM h (some 9) (share x10)) λa1=>bA (eM ((dG (cJ x11++[]) h)) none (share x11)) λa2=>bA (storeAt h 9 (share x10) (firm a1)) λh3=>dB (dE (((cJ x11++[])++[])) h h3) <|bA (storeAt h3 1 (share x11) (firm a2)) λh4=>bA (storeAt h4 1 (share x12) (O)) λh5=>some ⟨[(10,x10),(11,x11),(12,x12)],⟨h5,n⟩⟩):=dH rfl rfl (by kernel_rfl)
@[simp] def arU:rP CD NV [(4,x4),(5,.d y5),(6,.d y6),(15,x15),(16,.d y16),(17,.d y17)]:=lZ
@[simp] def aoT:rP xc HR [(2,x2),(3,x3),(4,x4),(5,x5)]:=lZ
@[simp] def ar4:(Dn prog).code C9 ⟨[(8,x8),(9,x9),(10,x10)],⟨h,n⟩⟩=fc (bA (eM ((dG (cJ x10++[]) h)) none (share x10)) λa1=>bA (storeAt h 1 (share x8) .nl) λh2=>dB (dE (((cJ x10++[])++[])) h h2) <|bA (storeAt h2 1 (share x9) (O)) λh3=>dB (dE (((cJ x10++[])++[])) h2 h3) <|bA (storeAt h3 1 (share x10) (firm a1)) λh4=>some ⟨[(8,x8),(9,x9),(10,x10)],⟨h4,n⟩⟩):=dH rfl rfl (by kernel_rfl)
@[simp] def ap8:(Dn prog).code Bj ⟨[(8,x8),(9,x9),(10,x10)],⟨h,n⟩⟩=fc (bA (eM ((dG (cJ x10++[]) h)) none (share x10)) λa1=>bA (storeAt h 1 x8 .nl) λh2=>dB (dE (((cJ x10++[])++[])) h h2) <|bA (storeAt h2 1 x9 (O)) λh3=>dB (dE (((cJ x10++[])++[])) h2 h3) <|bA (storeAt h3 1 (share x10) (firm a1)) λh4=>some ⟨[(10,x10)],⟨h4,n⟩⟩):=dH rfl rfl (by kernel_rfl)
@[simp] def apW:(Dn prog).code AH ⟨[(8,x8),(9,x9),(10,x10)],⟨h,n⟩⟩=fc (bA (eM h none (share x8)) λa1=>bA (eM ((dG (cJ x9++[]) h)) none (share x9)) λa2=>bA (storeAt h 1 (share x8) (firm a1)) λh3=>dB (dE (((cJ x9++[])++[])) h h3) <|bA (storeAt h3 1 (share x9) (firm a2)) λh4=>bA (storeAt h4 1 (share x10) (O)) λh5=>some ⟨[(8,x8),(9,x9),(10,x10)],⟨h5,n⟩⟩):=dH rfl rfl (by kernel_rfl)
@[simp] def amJ:(Dn prog).code xo ⟨[(6,x6),(7,x7),(8,x8),(10,x10),(11,x11),(12,.d y12),(13,x13),(15,.d y15),(32,.d y32),(33,.d y33),(46,.d y46),(47,.d y47)],⟨h,n⟩⟩=fc (bA (IU 5 1 (share x11) (A_ 1)) λa1=>bA (eM h none (firm a1)) λa2=>bA (IU 5 1 (share x11) (A_ 2)) λa3=>bA (eM ((dG (cJ (firm a3)++[]) h)) none (firm a3)) λa4=>bP (b7 (Dn prog) (firm (share x10)) [firm a2] ⟨h,n⟩) λa5 s6=>dB (dE (((cJ (firm a3)++[])++[])) h s6.heap) <|bP (b7 (Dn prog) (firm (share x10)) [firm a4] ⟨s6.heap,s6.next⟩) λa7 s8=>bA (dS [O,O,B_ false,B_ false,.nl] [(3,1,.d y15),(0,1,firm a5),(1,1,firm a7)]) λa9=>lA (put s8.heap s8.next (.cells [O,O,B_ false,B_ false,.nl])) λh10=>bA (storeAt h10 5 (.ptr s8.next 0) (firm (.agg a9))) λh11=>some ⟨[(6,x6),(7,x7),(8,x8),(10,x10),(11,x11),(12,.d y12),(13,x13),(15,.d y15),(16,.ptr s8.next 0),(32,.d y32),(33,.d y33),(46,.d y46),(47,.d y47)],⟨h11,s8.next+1⟩⟩):=dH rfl rfl (by kernel_rfl)
@[simp] def amE:rP xt Ho [(6,x6),(7,x7),(8,x8),(10,x10),(11,x11),(12,.d y12),(13,x13),(15,.d y15),(16,x16),(17,.d y17),(18,.d y18),(19,.d y19),(32,.d y32),(33,.d y33),(46,.d y46),(47,.d y47),(80,.d y80),(81,.d y81)]:=lZ
@[simp] def anO:(Dn prog).code xg ⟨[(7,x7),(8,x8)],⟨h,n⟩⟩=fc (bA (eM ((dG (cJ x8++[]) h)) none (share x8)) λa1=>bA (storeAt h 1 (share x7) (O)) λh2=>dB (dE (((cJ x8++[])++[])) h h2) <|bA (storeAt h2 1 (share x8) (firm a1)) λh3=>some ⟨[(6,.nl),(7,x7),(8,x8)],⟨h3,n⟩⟩):=dH rfl rfl (by kernel_rfl)
@[simp] def aom:rP xn H4 [(6,x6),(7,x7),(8,x8)]:=lZ
@[simp] def asw:(Dn prog).code CN ⟨[(0,x0),(1,x1)],⟨h,n⟩⟩=fc (bA (eM ((dG (cJ x0++[]) h)) none (share x0)) λa1=>bA (eM h none x1) λa2=>bP (b7 (Dn prog) (firm a2) [] ⟨h,n⟩) λa3 s4=>dB (dE (((cJ x0++[])++[])) h s4.heap) <|bA (fg .or (firm a1) (firm a3)) λa5=>bA (storeAt s4.heap 1 (share x0) (.d a5)) λh6=>some ⟨[(0,x0)],⟨h6,s4.next⟩⟩):=dH rfl rfl (by kernel_rfl)
@[simp] def ar1:rP wh NL [(10,x10)]:=lZ
@[simp] def ar2:rP wS NP [(6,x6),(10,x10)]:=lZ
@[simp] def amk:rP vS FA [(0,x0),(1,.d y1),(4,x4)]:=lZ
@[simp] def atV:rP Fe QW [(0,x0),(1,.d y1),(6,x6)]:=lZ
@[simp] def auu:(Dn prog).code EE ⟨[(6,x6),(11,x11),(12,x12),(13,x13)],⟨h,n⟩⟩=fc (bA (eM h none (share x11)) λa1=>bA (gP 0 (share x13)) λa2=>bA (eM h none (firm a2)) λa3=>bA (gP 8 (share x6)) λa4=>bA (eM ((dG (cJ (firm a4)++[]) h)) none (firm a4)) λa5=>bA (gP 1 (share x13)) λa6=>bA (eM ((dG (cJ (firm a6)++[]) h)) none (firm a6)) λa7=>bA (gP 2 (share x13)) λa8=>bA (eM ((dG (cJ (firm a8)++[]) h)) none (firm a8)) λa9=>bA (pU ((dG (cJ (firm a5)++[]) h)) 1 (firm a5) (some (firm a7)) (some (firm a9)) none) λa10=>bP ((Dn prog).call lN [firm a1,firm a3] ⟨h,n⟩) λa11 s12=>dB (dE (((cJ (firm a5)++[])++((cJ (firm a8)++[])++((cJ (firm a6)++[])++((cJ (firm a4)++[])++[]))))) h s12.heap) <|bA (ep (Dn prog) F6 [.nl,firm a11,firm a10] s12.heap) λa13=>bA (yz true (firm (firm a13)) 0) λa14=>bA (yz false (LW (firm (firm a13)) 0) 1) λa15=>some ⟨[(6,x6),(11,x11),(12,x12),(13,x13),(14,firm (firm a14)),(15,firm (firm a15)),(88,LW (firm (firm a13)) 0)],⟨s12.heap,s12.next⟩⟩):=dH rfl rfl (by kernel_rfl)
@[simp] def ahT:rP rE A8 [(0,x0),(2,.d y2)]:=lZ
@[simp] def amn:rP vI FC [(0,x0),(2,x2),(3,x3),(5,.d y5),(6,.d y6),(8,.d y8),(10,x10),(11,.d y11),(12,.d y12),(13,.d y13),(14,x14),(15,.d y15),(16,.d y16),(21,x21),(22,.d y22),(23,.d y23)]:=lZ
@[simp] def ajv:rP sy BJ [(0,x0),(1,.d y1)]:=lZ
@[simp] def acX:rP nF w7 [(0,x0),(3,.d y3)]:=lZ
@[simp] def atj:rP EU Pb [(0,.d y0),(2,x2),(4,x4)]:=lZ
@[simp] def Ku:(Dn prog).code yy ⟨[(2,x2),(4,x4),(6,x6)],⟨h,n⟩⟩=fc (bP (loadAt h (some 4) 1 (share x4)) λa1 h2=>bA (ep (Dn prog) gn [firm a1] h2) λa3=>lA (put h2 n (.cells [O8,O8,O8,O8,O8,O8,O8,O8,O8,O8,O8,O8,O8,O8,O8,O8,O8,O8,O8,O8,O8,O8,O8,O8,O8,O8,O8,O8,O8,O8,O8,O8,O8,O8,O8,O8,O8,O8,O8,O8,O8,O8,O8,O8,O8,O8,O8,O8,O8,O8,O8,O8,O8,O8,O8,O8,O8,O8,O8,O8,O8,O8,O8,O8,O8,O8,O8,O8,O8,O8,O8,O8,O8,O8,O8,O8,O8,O8,O8,O8,O8,O8,O8,O8,O8,O8,O8,O8,O8,O8,O8,O8,O8,O8,O8,O8,O8,O8,O8,O8,O8,O8,O8,O8,O8,O8,O8,O8,O8,O8,O8,O8,O8,O8,O8,O8,O8,O8,O8,O8,O8,O8,O8,O8,O8,O8,O8,O8,O8,O8,O8,O8,O8,O8,O8,O8,O8,O8,O8,O8,O8,O8,O8,O8,O8,O8,O8,O8,O8,O8,O8,O8,O8,O8,O8,O8,O8,O8,O8,O8,O8,O8,O8,O8,O8,O8,O8,O8,O8,O8,O8,O8,O8,O8,O8,O8,O8,O8,O8,O8,O8,O8,O8,O8,O8,O8,O8,O8,O8,O8,O8,O8,O8,O8,O8,O8,O8,O8,O8,O8,O8,O8,O8,O8,O8,O8,O8,O8,O8,O8,O8,O8,O8,O8,O8,O8,O8,O8,O8,O8,O8,O8,O8,O8,O8,O8,O8,O8,O8,O8,O8,O8,O8,O8,O8,O8,O8,O8,O8,O8,O8,O8,O8,O8,O8,O8,O8,O8,O8,O8,O8,O8,O8,O8,O8,O8,O8,O8,O8,O8,O8,O8,O8,O8,O8,O8,O8,O8,O8,O8,O8,O8,O8,O8,O8,O8,O8,O8,O8,O8,O8,O8,O8,O8,O8,O8,O8,O8,O8])) λh4=>bA (storeAt h4 289 (.ptr n 0) (firm a3)) λh5=>some ⟨[(2,x2),(4,x4),(6,x6),(7,.ptr n 0)],⟨h5,n+1⟩⟩):=D9 (by kernel_rfl)
@[simp] def aq4:rP Al KL [(4,x4),(11,x11),(15,.d y15),(16,.d y16)]:=lZ
@[simp] def aqS:rP Bd KB [(4,x4),(11,x11),(15,.d y15),(16,.d y16)]:=lZ
@[simp] def ar0:rP Dj N3 [(0,x0),(4,x4),(15,x15),(16,x16),(17,x17),(20,.d y20),(21,.d y21),(69,x69),(70,.d y70),(71,.d y71)]:=lZ
@[simp] def ast:rP BY N2 [(2,x2),(6,.d y6),(9,x9)]:=lZ
@[simp] def GK:(Dn prog).code ut ⟨[(1,x1),(3,x3)],⟨h,n⟩⟩=fc (bP (loadAt h (some 4) 1 (share x3)) λa1 h2=>bA (ep (Dn prog) gn [firm a1] h2) λa3=>lA (put h2 n (.cells [O8,O8,O8,O8,O8,O8,O8,O8,O8,O8,O8,O8,O8,O8,O8,O8,O8,O8,O8,O8,O8,O8,O8,O8,O8,O8,O8,O8,O8,O8,O8,O8,O8,O8,O8,O8,O8,O8,O8,O8,O8,O8,O8,O8,O8,O8,O8,O8,O8,O8,O8,O8,O8,O8,O8,O8,O8,O8,O8,O8,O8,O8,O8,O8,O8,O8,O8,O8,O8,O8,O8,O8,O8,O8,O8,O8,O8,O8,O8,O8,O8,O8,O8,O8,O8,O8,O8,O8,O8,O8,O8,O8,O8,O8,O8,O8,O8,O8,O8,O8,O8,O8,O8,O8,O8,O8,O8,O8,O8,O8,O8,O8,O8,O8,O8,O8,O8,O8,O8,O8,O8,O8,O8,O8,O8,O8,O8,O8,O8,O8,O8,O8,O8,O8,O8,O8,O8,O8,O8,O8,O8,O8,O8,O8,O8,O8,O8,O8,O8,O8,O8,O8,O8,O8,O8,O8,O8,O8,O8,O8,O8,O8,O8,O8,O8,O8,O8,O8,O8,O8,O8,O8,O8,O8,O8,O8,O8,O8,O8,O8,O8,O8,O8,O8,O8,O8,O8,O8,O8,O8,O8,O8,O8,O8,O8,O8,O8,O8,O8,O8,O8,O8,O8,O8,O8,O8,O8,O8,O8,O8,O8,O8,O8,O8,O8,O8,O8,O8,O8,O8,O8,O8,O8,O8,O8,O8,O8,O8,O8,O8,O8,O8,O8,O8,O8,O8,O8,O8,O8,O8,O8,O8,O8,O8,O8,O8,O8,O8,O8,O8,O8,O8,O8,O8,O8,O8,O8,O8,O8,O8,O8,O8,O8,O8,O8,O8,O8,O8,O8,O8,O8,O8,O8,O8,O8,O8,O8,O8,O8,O8,O8,O8,O8,O8,O8,O8,O8,O8,O8])) λh4=>bA (storeAt h4 289 (.ptr n 0) (firm a3)) λh5=>some ⟨[(1,x1),(3,x3),(5,.ptr n 0)],⟨h5,n+1⟩⟩):=D9 (by kernel_rfl)
@[simp] def agS:rP qF Bq [(1,.d y1),(2,x2),(5,x5),(6,.d y6)]:=lZ
@[simp] def zm:(Dn prog).code mM ⟨[(0,x0)],⟨h,n⟩⟩=fc (dB ((AV.cells x0).all bu) <|lA (put h n (.cells (AV.cells x0))) λh1=>lA (put h1 (n+1) (.cells [O8,O8,O8,O8,O8,O8,O8,O8,O8,O8,O8,O8,O8,O8,O8,O8,O8,O8,O8,O8,O8,O8,O8,O8,O8,O8,O8,O8,O8,O8,O8,O8,O8,O8,O8,O8,O8,O8,O8,O8,O8,O8,O8,O8,O8,O8,O8,O8,O8,O8,O8,O8,O8,O8,O8,O8,O8,O8,O8,O8,O8,O8,O8,O8,O8,O8,O8,O8,O8,O8,O8,O8,O8,O8,O8,O8,O8,O8,O8,O8,O8,O8,O8,O8,O8,O8,O8,O8,O8,O8,O8,O8,O8,O8,O8,O8,O8,O8,O8,O8,O8,O8,O8,O8,O8,O8,O8,O8,O8,O8,O8,O8,O8,O8,O8,O8,O8,O8,O8,O8,O8,O8,O8,O8,O8,O8,O8,O8,O8,O8,O8,O8,O8,O8,O8,O8,O8,O8,O8,O8,O8,O8,O8,O8,O8,O8,O8,O8,O8,O8,O8,O8,O8,O8,O8,O8,O8,O8,O8,O8,O8,O8,O8,O8,O8,O8,O8,O8,O8,O8,O8,O8,O8,O8,O8,O8,O8,O8,O8,O8,O8,O8,O8,O8,O8,O8,O8,O8,O8,O8,O8,O8,O8,O8,O8,O8,O8,O8,O8,O8,O8,O8,O8,O8,O8,O8,O8,O8,O8,O8,O8,O8,O8,O8,O8,O8,O8,O8,O8,O8,O8,O8,O8,O8,O8,O8,O8,O8,O8,O8,O8,O8,O8,O8,O8,O8,O8,O8,O8,O8,O8,O8,O8,O8,O8,O8,O8,O8,O8,O8,O8,O8,O8,O8,O8,O8,O8,O8,O8,O8,O8,O8,O8,O8,O8,O8,O8,O8,O8,O8,O8,O8,O8,O8,O8,O8,O8,O8,O8,O8,O8,O8,O8,O8,O8,O8,O8,O8,O8])) λh2=>some ⟨[(1,.ptr n 0),(2,.ptr (n+1) 0)],⟨h2,n+1+1⟩⟩):=D9 (by kernel_rfl)
@[simp] def aoK:rP xf GE [(5,x5),(6,x6),(7,x7),(8,x8),(11,.d y11),(12,.d y12)]:=lZ
@[simp] def aml:rP vN Fp [(2,x2),(8,x8),(21,x21),(22,.d y22),(23,.d y23)]:=lZ
@[simp] def amm:rP vH Fz [(0,.d y0),(1,.d y1),(2,x2)]:=lZ
@[simp] def OT:rP gX l9 [(0,x0),(1,.d y1),(2,.d y2),(3,x3),(8,.d y8),(9,.d y9)]:=lZ
@[simp] def OU:rP gZ lU [(0,x0),(1,.d y1),(2,.d y2),(3,x3),(8,.d y8),(9,.d y9)]:=lZ
@[simp] def UJ:rP jz pg [(0,x0),(1,.d y1),(4,x4),(10,.d y10),(11,.d y11),(12,.d y12)]:=lZ
@[simp] def SQ:rP jb om [(0,x0),(10,.d y10),(13,.d y13)]:=lZ
@[simp] def TG:rP ja oa [(0,x0),(2,.d y2),(4,x4),(14,.d y14),(15,.d y15),(16,.d y16)]:=lZ
@[simp] def TU:rP je nW [(0,x0),(14,.d y14),(17,.d y17)]:=lZ
@[simp] def ST:rP jd oc [(0,x0),(1,.d y1),(2,.d y2),(3,.d y3),(4,x4),(18,.d y18),(19,.d y19),(20,.d y20),(21,.d y21),(22,.d y22),(23,.d y23)]:=lZ
@[simp] def Tt:rP jc nX [(0,x0),(1,.d y1),(2,.d y2),(3,.d y3),(10,.d y10)]:=lZ
def oI:prog oz=some oG:=rfl
def Kp:prog zE=some rB:=rfl
def alL:prog mL=some Mz:=rfl
def Kj:prog DG=some Kc:=rfl
def ahu:prog xL=some JN:=rfl
def L0:prog FU=some Mc:=rfl
def agv:prog Ha=some Gz:=rfl
def acV:prog ET=some EF:=rfl
def US:prog kH=some yC:=rfl
def UP:prog jh=some yW:=rfl
def Md:prog Bo=some MN:=rfl
def D8:prog rT=some PY:=rfl
def ky:prog uc=some t9:=rfl
def wW:prog oy=some ox:=rfl
def ahh:prog Kk=some JZ:=rfl
def acp:prog E9=some EZ:=rfl
def ag7:prog Ki=some Js:=rfl
def S5:prog JK=some JG:=rfl
def akM:prog Ar=some MD:=rfl
def aiw:prog TV=some JC:=rfl
def agx:prog vu=some G8:=rfl
def aew:prog vX=some Hs:=rfl
def ahD:prog JV=some Kf:=rfl
def ahz:prog xy=some JQ:=rfl
def Tx:prog nc=some Jm:=rfl
def ahH:prog DB=some Km:=rfl
def agZ:prog xO=some JT:=rfl
def al6:prog Vs=some MH:=rfl
def ahJ:prog xT=some Jw:=rfl
def aio:prog SY=some JP:=rfl
def agW:prog xK=some JM:=rfl
def aik:prog xM=some JE:=rfl
def Td:prog nf=some JW:=rfl
def acl:prog NQ=some E5:=rfl
def aal:prog KO=some BX:=rfl
def aii:prog xP=some JH:=rfl
def aeB:prog PX=some GY:=rfl
def alx:prog wF=some MS:=rfl
def Ym:prog lN=some Bl:=rfl
def YV:prog Ls=some BT:=rfl
def Bb:prog r8=some sR:=rfl
def WR:prog fe=some Ae:=rfl
def akm:prog By=some MY:=rfl
def an5:prog abE=some Pm:=rfl
def akQ:prog M9=some Nf:=rfl
def zV:prog rJ=some qW:=rfl
def aa7:prog DO=some Q5:=rfl
def D4:prog rW=some lM:=rfl
def ace:prog Ez=some EW:=rfl
def Hi:prog iS=some Hb:=rfl
def ahB:prog SN=some J9:=rfl
def CK:prog qR=some kM:=rfl
def abX:prog EQ=some Fa:=rfl
def ab0:prog oL=some Eo:=rfl
def aeN:prog QT=some Hy:=rfl
def YL:prog Cr=some Cq:=rfl
def YS:prog KH=some BU:=rfl
def OO:prog BS=some ui:=rfl
def afI:prog P6=some HV:=rfl
def adP:prog O7=some GD:=rfl
def agV:prog S9=some JI:=rfl
def acM:prog E4=some ER:=rfl
def Zl:prog LC=some Dv:=rfl
def Pk:prog px=some v9:=rfl
def V5:prog Af=some AD:=rfl
def XE:prog Ba=some AZ:=rfl
def aai:prog CT=some Dt:=rfl
def acj:prog EA=some Fb:=rfl
def ahS:prog S8=some JU:=rfl
def Z4:prog iw=some C4:=rfl
def amR:prog Pg=some QC:=rfl
def agT:prog TJ=some JR:=rfl
def acd:prog Nz=some EH:=rfl
def Sz:prog xp=some xd:=rfl
def Ld:prog zG=some rk:=rfl
def akP:prog FO=some Nc:=rfl
def Bf:prog pf=some jR:=rfl
def Um:prog yR=some yT:=rfl
def HD:prog vg=some nP:=rfl
def LZ:prog mR=some sZ:=rfl
def af8:prog Au=some Hc:=rfl
def agG:prog QR=some He:=rfl
def BN:prog uh=some uj:=rfl
def ali:prog XC=some MW:=rfl
def aij:prog SV=some J7:=rfl
def acH:prog Fm=some Et:=rfl
def XI:prog F6=some Nr:=rfl
def vd:prog vU=some nj:=rfl
def ZC:prog Cw=some Cj:=rfl
def ZU:prog Ct=some Da:=rfl
def Xw:prog AY=some Ao:=rfl
def aab:prog CL=some CU:=rfl
def adM:prog Hm=some Hn:=rfl
def Z5:prog CE=some CW:=rfl
def Yy:prog Dh=some C1:=rfl
def YU:prog CY=some CO:=rfl
def afj:prog An=some GL:=rfl
def OK:prog BM=some tZ:=rfl
def uM:prog uR=some mP:=rfl
def Xp:prog iK=some AS:=rfl
def Fh:prog mr=some mi:=rfl
def XD:prog AJ=some AW:=rfl
def aiq:prog Tp=some Ju:=rfl
def afU:prog Gu=some H0:=rfl
def QK:prog DS=some vL:=rfl
def SI:prog gn=some xk:=rfl
def CJ:prog rO=some kG:=rfl
def adm:prog G5=some If:=rfl
def OL:prog BK=some ud:=rfl
def rS:prog rY=some lF:=rfl
def afc:prog QY=some G9:=rfl
def acA:prog N6=some EB:=rfl
def acG:prog NI=some EY:=rfl
def aiu:prog Dx=some JD:=rfl
def Xz:prog Ix=some Ay:=rfl
def Ya:prog pi=some AG:=rfl
def acL:prog NW=some E3:=rfl
def ahE:prog SL=some Jv:=rfl
def agm:prog Pc=some GM:=rfl
def Kq:prog zH=some rL:=rfl
def ahk:prog SR=some J1:=rfl
def Xt:prog Ji=some Bv:=rfl
def aiv:prog TM=some JS:=rfl
def ag2:prog TY=some J0:=rfl
def BC:prog fo=some kl:=rfl
def Uk:prog nJ=some zg:=rfl
def aca:prog Oy=some EV:=rfl
def ag9:prog TW=some JO:=rfl
def xa:prog wZ=some oE:=rfl
def Ut:prog sT=some yE:=rfl
def Eu:prog tp=some mg:=rfl
def Sx:prog Fw=some xw:=rfl
def WL:prog lV=some Bx:=rfl
def Si:prog mJ=some xh:=rfl
def Ws:prog IP=some AA:=rfl
def akU:prog VU=some No:=rfl
def acP:prog Fl=some E7:=rfl
def OJ:prog BR=some t4:=rfl
def SH:prog Fq=some xq:=rfl
def tL:prog tw=some ma:=rfl
def VF:prog uG=some Am:=rfl
def xD:prog nb=some iT:=rfl
def ed:prog cL=some kF:=rfl
def EL:prog tF=some mf:=rfl
def BG:prog qa=some km:=rfl
variable {P:Nat->Y_}
inductive R (α:Type) where
 |ok (v:α) (n:Nat)
 |er (e:Nat)
open Classical in
def rK {α γ:Type}(p:α->Nat->Prop)(r:R α)(f:α->Nat->γ)(g:Nat->γ):γ :=
 match r with
 |.ok v n=>if p v n then f v n else g 0
 |.er e=>g e
def jv {α γ:Type}{p q:α->Nat->Prop}{r:R α}{f f2:α->Nat->γ}{g g2:Nat->γ}(hp:∀v n,p v n=q v n)(h:∀v n,q v n->f v n=f2 v n)(k:∀e,g e=g2 e):rK p r f g=rK q r f2 g2:=by
 have:p=q:=funext λv=>funext λn=>hp v n
 subst this
 cases r with
 |ok v n =>
  simp only[rK];split
  .exact h _ _ ‹_›
  .exact k 0
 |er e=>exact k e
attribute [congr] jv
def xN {α γ δ:Type}{p:α->Nat->Prop}{r:R α}{f:α->Nat->γ}{g:Nat->γ}(k:γ->δ):k (rK p r f g)=rK p r (λv n=>k (f v n)) λe=>k (g e):=by
 cases r with
 |ok v n=>simp only[rK];split<;>rfl
 |er e=>rfl
section
variable {α:Type}{p:α->Nat->Prop}{r:R α}
@[simp ↓] def axd {f:α->Nat->J_}{g:Nat->J_}{b:VC}:za P (rK p r f g) b=rK p r (λv n=>za P (f v n) b) λe=>za P (g e) b:=xN λx=>za P x b
@[simp ↓] def axb {f:α->Nat->J_}{g:Nat->J_}{i:Nat}:xr i (rK p r f g)=rK p r (λv n=>xr i (f v n)) λe=>xr i (g e):=xN (xr i)
@[simp ↓] def ajk {f:α->Nat->J_}{g:Nat->J_}{a:VC}:qB P a (rK p r f g)=rK p r (λv n=>qB P a (f v n)) λe=>qB P a (g e):=xN (qB P a)
@[simp ↓] def aDR {f:α->Nat->Z_}{g:Nat->Z_}:fc (rK p r f g)=rK p r (λv n=>fc (f v n)) λe=>fc (g e):=xN fc
@[simp ↓] def aED {f:α->Nat->J_}{g:Nat->J_}{rs:AH_}:vD rs (rK p r f g)=rK p r (λv n=>vD rs (f v n)) λe=>vD rs (g e):=xN (vD rs)
@[simp ↓] def aEl {f:α->Nat->V_}{g:Nat->V_}:sf (rK p r f g)=rK p r (λv n=>sf (f v n)) λe=>sf (g e):=xN sf
@[simp ↓] def aFB {γ β:Type}{f:α->Nat->Option γ}{g:Nat->Option γ}{k:γ->Option β}:bA (rK p r f g) k=rK p r (λv n=>bA (f v n) k) λe=>bA (g e) k:=xN λx=>bA x k
@[simp ↓] def aFv {γ δ β:Type}{f:α->Nat->Option (γ×δ)}{g:Nat->Option (γ×δ)}{k:γ->δ->Option β}:bP (rK p r f g) k=rK p r (λv n=>bP (f v n) k) λe=>bP (g e) k:=xN λx=>bP x k
@[simp] theorem ie {γ:Type}{f:α->Nat->γ}{g:Nat->γ}{e:Nat}:rK p (.er e) f g=g e:=(rfl)
theorem eD {γ:Type}{f:α->Nat->γ}{g:Nat->γ}{v:α}{n:Nat}(h:p v n):rK p (.ok v n) f g=f v n:=by simp only[rK,ac h]
@[simp] def aFm {γ:Type}{f:α->Nat->γ}{g:Nat->γ}{c:Prop}[Decidable c]{x y:R α}:rK p (if c then x else y) f g=if c then rK p x f g else rK p y f g:=by split<;>rfl
end
def asz {α:Type}{a b:Prop}[Decidable a][Decidable b]{x y:α}(h:b↔¬a):(if a then x else y)=if b then y else x:=by
 by_cases ha:a
 .rw[ac ha,aa (λhb=>h.1 hb ha)]
 .rw[aa ha,ac (h.2 ha)]
def asm {α:Type}{a b:Prop}[Decidable a][Decidable b]{x y:α}(h:a↔b):(if a then x else y)=if b then x else y:=by
 by_cases ha:a
 .rw[ac ha,ac (h.1 ha)]
 .rw[aa ha,aa (λhb=>ha (h.2 hb))]
def cellsOf:Obj->Option D_
 |.cells cs=>some cs
 |_=>none
def akZ:Obj->AE_
 |.arr _ xs=>some xs
 |_=>none
@[simp ↓] def azV {cs:D_}:cellsOf (.cells cs)=some cs:=(rfl)
@[simp ↓] def aDb {m:Nat}{xs:E_}:akZ (.arr m xs)=some xs:=(rfl)
@[simp] def aCM {h:am}{id off:Nat}:eM h none (.ptr id off)=bA (get h id) λo=>bA (cellsOf o) λcs=>bA cs[off]? λv=>some (share v):=by
 simp only[eM,loadAt]
 cases get h id with
 |none=>rfl
 |some o =>
  cases o<;>try rfl
  rename_i cs;simp only[bA,cellsOf]
  cases cs[off]?<;>rfl
@[simp] def aA4 {h:am}{id off n:Nat}:eM h (some n) (.ptr id off)=bA (get h id) λo=>bA (cellsOf o) λcs=>dB (Nat.ble (off+n) cs.length) (some (.agg (shareAll (sub cs off n)))):=by
 simp only[eM,loadAt]
 cases get h id with
 |none=>rfl
 |some o =>
  cases o<;>try rfl
  rename_i cs;simp only[bA,cellsOf]
  cases Nat.ble (off+n) cs.length<;>rfl
@[simp] def azm {h:am}{id off t:Nat}:loadAt h none (t+1) (.ptr id off)=bA (get h id) λo=>bA (cellsOf o) λcs=>bA cs[off]? λv=>some ((qw (t+1) v).1,put h id (.cells (cs.set off (qw (t+1) v).2))):=by
 simp only[loadAt]
 cases get h id with
 |none=>rfl
 |some o =>
  cases o<;>try rfl
  rename_i cs;simp only[bA,cellsOf]
  cases cs[off]?<;>rfl
@[simp] def axM {h:am}{id off n t:Nat}:loadAt h (some n) (t+1) (.ptr id off)=bA (get h id) λo=>bA (cellsOf o) λcs=>dB (Nat.ble (off+n) cs.length) (some (.agg (fu (t+1) (sub cs off n)).1,put h id (.cells (aE cs off (fu (t+1) (sub cs off n)).2)))):=by
 simp only[loadAt]
 cases get h id with
 |none=>rfl
 |some o =>
  cases o<;>try rfl
@[simp] def axL {h:am}{id off n:Nat}{x:AV}:storeAt h n (.ptr id off) x=dB (Nat.beq x.cells.length n) (bA (get h id) λo=>bA (cellsOf o) λcs=>dB (Nat.ble (off+n) cs.length && x.cells.all bu) (some (put h id (.cells (aE cs off x.cells))))):=by
 simp only[storeAt]
 cases Nat.beq x.cells.length n with
 |false=>rfl
 |true =>
  simp only[dB]
  cases get h id with
  |none=>rfl
  |some o =>
   cases o<;>try rfl
@[simp ↓] theorem Zv {β:Type}{a b:Nat}{x:Option β}:dB (Nat.ble a b) x=if a<=b then x else none:=by
 rw[ZT];by_cases h:a<=b<;>simp[h]
@[simp ↓] theorem ajc {β:Type}{a b:Nat}{x:Option β}:dB (Nat.beq a b) x=if a=b then x else none:=by
 rw[Z1];by_cases h:a=b<;>simp[h]
@[simp ↓] theorem ajr {β:Type}{a b:Bool}{x:Option β}:dB (a && b) x=dB a (dB b x):=by
 cases a<;>cases b<;>rfl
attribute [simp] qw fu sub aE bu
def scK (P:Nat->Y_)(a:VC)(x:J_):J_ :=
 match x with
 |some (.goto l,st)=>match uA a l with
  |some rest=>(Dn P).code (.inScope a rest) st
  |none=>some (.goto l,st)
 |x=>x
@[simp ↓] def azl {a:VC}{st:St}:(Dn P).code (.scope a) st=(Dn P).code (.inScope a a) st:=by rw[im];rfl
def auq {a c:VC}{st:St}:(Dn P).code (.inScope a c) st=scK P a ((Dn P).code c st):=by
 rw[im];rfl
@[simp ↓] def aFj {a:VC}{st:St}:scK P a (some (.ret,st))=some (.ret,st):=(rfl)
def awA {a:VC}{x y:J_}(h:x=y):scK P a x=scK P a y:=by rw[h]
attribute [congr] awA
def zR {f:FuncId}{args:D_}{v:AV}(n:Nat)(h:sf ((run P n).call f args ⟨[],0⟩)=some v):bq P f args=some v:=by
 cases hx:(run P n).call f args ⟨[],0⟩ with
 |none=>rw[hx]at h;simp[sf]at h
 |some q=>rw[hx]at h;rw[bq,Ug hx,h]
def Gv {α:Type}{f:FuncId}{a:α->D_}{v:α->AV}(n:Nat)(l:List α)(h:(l.map λx=>sf ((run P n).call f (a x) ⟨[],0⟩))=l.map λx=>some (v x))(x:α)(hx:x∈l):bq P f (a x)=some (v x) :=
 zR n (List.map_inj_left.1 h x hx)
def cN (l:C_):E_:=l.map λn=>[.int .i64 (n:Nat)]
@[simp] def aBG {l:C_}:(cN l).length=l.length:=by simp[cN]
@[simp] theorem Dk {l:C_}{i:Nat}(h:i<l.length):(cN l)[i]?=some [.int .i64 (nth l i:Nat)]:=by simp[cN,zk h]
@[simp high] def axN {p:Bool}{m:Nat}{l:C_}:iW (.own p m (cN l))=true:=by simp[iW,cN,kZ]
@[simp high] def Ti {p:Bool}{m:Nat}{l:G_}:iW (.own p m (aF l))=true:=by simp[iW,aF,kZ]
@[simp high] def axO {p:Bool}{m:Nat}{l:G_}:kB (.own p m (aF l))=true:=Ti (p:=p) (m:=m)
@[simp high] def axS {p:Bool}{m:Nat}{l:G_}:jo (.own p m (aF l))=true:=Ti (p:=p) (m:=m)
@[simp high] def Th {p:Bool}{m:Nat}{l:C_}:iW (.own p m (ak l))=true:=by simp[iW,ak,kZ]
@[simp high] def axH {p:Bool}{m:Nat}{l:C_}:kB (.own p m (ak l))=true:=Th (p:=p) (m:=m)
@[simp high] def axR {p:Bool}{m:Nat}{l:C_}:jo (.own p m (ak l))=true:=Th (p:=p) (m:=m)
@[simp] def azQ {a:G_}{x:Int}:aF a++[[.int .i64 x]]=aF (a++[x]):=by simp[aF]
@[simp] def ads {a b:C_}:ak a++ak b=ak (a++b):=by simp[ak]
@[simp] def az3 {a:C_}{x:Nat}:ak a++[[.int .u8 (x:Int)]]=ak (a++[x]):=by simp[ak]
@[simp] def aD4 {k:IntKind}{a b:Int}:Cp true [.d (.int k a),.d (.int k b)]=if a<b then some (.d (.int k b)) else some (.d (.int k a)):=by
 have:nL k k=true:=by cases k<;>rfl
 simp only[Cp,Aw,CI,this];by_cases h:a<b<;>simp[h]
@[simp] def aD9 {k:IntKind}{a b:Int}:Cp false [.d (.int k a),.d (.int k b)]=if b<a then some (.d (.int k b)) else some (.d (.int k a)):=by
 have:nL k k=true:=by cases k<;>rfl
 simp only[Cp,Aw,CI,this];by_cases h:b<a<;>simp[h]
def iaO (o:Obj)(n id j:Nat):M_ :=
 match o with
 |.arr m _=>dB (Nat.beq m n) (some (.pel id j 0))
 |.cells _=>dB (Nat.beq n 1) (some (.ptr id j))
 |_=>none
@[simp ↓] def aEY {m n id j:Nat}{xs:E_}:iaO (.arr m xs) n id j=dB (Nat.beq m n) (some (.pel id j 0)):=(rfl)
@[simp ↓] def aEV {n id j:Nat}{cs:D_}:iaO (.cells cs) n id j=dB (Nat.beq n 1) (some (.ptr id j)):=(rfl)
@[simp] def aET {h:am}{n id off len:Nat}{k:IntKind}{i:Int}(h0:0<=i)(h1:i.toNat<len):Vt h n (.sl id off len) (.d (.int k i))=bA (get h id) λo=>iaO o n id (off+i.toNat):=by
 have:Nat.ble len i.toNat=false:=by rw[ZT];simp;omega
 simp only[Vt,RT h0,this]
 cases get h id with
 |none=>rfl
 |some o =>
  cases o with
  |cells cs=>simp only[bA,iaO];cases Nat.beq n 1<;>rfl
  |arr m xs=>simp only[bA,iaO];cases Nat.beq m n<;>rfl
  |loop=>rfl
@[simp] def aDn {h:am}{id i off:Nat}{n:I_}:eM h n (.pel id i off)=bA (get h id) λo=>bA (akZ o) λxs=>bA xs[i]? λx=>nN n x off:=by
 simp only[eM,loadAt]
 cases get h id with
 |none=>rfl
 |some o =>
  cases o<;>try rfl
  rename_i m xs;simp only[bA,akZ]
  cases xs[i]? with
  |none=>rfl
  |some x=>simp only;cases nN n x off<;>rfl
def stO (o:Obj)(h:am)(n id i off:Nat)(ds:W_):Option am :=
 match o with
 |.arr m xs=>bA xs[i]? λe=>dB (Nat.ble (off+n) e.length) (some (put h id (.arr m (xs.set i (aE e off ds)))))
 |_=>none
@[simp ↓] def aEU {h:am}{m n id i off:Nat}{ds:W_}{xs:E_}:stO (.arr m xs) h n id i off ds=bA xs[i]? λe=>dB (Nat.ble (off+n) e.length) (some (put h id (.arr m (xs.set i (aE e off ds))))):=(rfl)
@[simp] def axV {h:am}{id i off n:Nat}{x:AV}:storeAt h n (.pel id i off) x=dB (Nat.beq x.cells.length n) (bA (lD x.cells) λds=>bA (get h id) λo=>stO o h n id i off ds):=by
 simp only[storeAt]
 cases Nat.beq x.cells.length n with
 |false=>rfl
 |true =>
  simp only[dB]
  cases lD x.cells with
  |none=>rfl
  |some ds =>
   simp only[bA]
   cases get h id with
   |none=>rfl
   |some o =>
    cases o<;>try rfl
    rename_i m xs;simp only[stO]
    cases xs[i]? with
    |none=>rfl
    |some e=>simp only[bA];cases Nat.ble (off+n) e.length<;>rfl
@[simp] def aAd {l:G_}{i:Nat}:(aF l).take i=aF (l.take i):=by simp[aF]
@[simp] def azG {l:G_}{i:Nat}:(aF l).drop i=aF (l.drop i):=by simp[aF]
@[simp] def aAm {l:C_}{i:Nat}:(cN l).take i=cN (l.take i):=by simp[cN]
@[simp] def aex {l:G_}{i:Nat}{x:Int}:(aF l).set i [.int .i64 x]=aF (l.set i x):=by simp[aF,kR]
@[simp] def aCE {l:C_}{i:Nat}{x:Nat}:(cN l).set i [.int .i64 (x:Int)]=cN (l.set i x):=by simp[cN,kR]
@[simp] def aqi {l:C_}{i:Nat}{x:Nat}:(ak l).set i [.int .u8 (x:Int)]=ak (l.set i x):=by simp[ak,kR]
def elO (o:Obj):AE_ :=
 match o with
 |.arr _ xs=>some xs
 |.cells cs=>bA (lD cs) λds=>some (Jz ds)
 |_=>none
@[simp ↓] def aE0 {m:Nat}{xs:E_}:elO (.arr m xs)=some xs:=(rfl)
@[simp] def aBh {h:am}{id off len:Nat}:elems h (.sl id off len)=bA (get h id) λo=>bA (elO o) λxs=>dB (Nat.ble (off+len) xs.length) (some (sub xs off len)):=by
 simp only[elems,objElems]
 cases get h id with
 |none=>rfl
 |some o =>
  cases o with
  |cells cs =>
   simp only[bA,elO]
   cases lD cs with
   |none=>rfl
   |some ds=>simp only;cases Nat.ble (off+len) (Jz ds).length<;>rfl
  |arr m xs=>simp only[bA,elO];cases Nat.ble (off+len) xs.length<;>rfl
  |loop=>rfl
attribute [simp] Jz
@[simp] def aEq {m:Nat}{h:am}{a b:AV}:Yw m h a b=bA (elems h b) λys=>dB (fB m ys) (et m h a ys):=by
 simp only[Yw]
 cases elems h b with
 |none=>rfl
 |some ys=>simp only[bA];cases fB m ys<;>rfl
@[simp] theorem aiB {m k:Nat}{p:Bool}{h:am}{xs ys:E_}:et m h (.own p k xs) ys=dB (Nat.ble ys.length aW) (dB (Nat.beq k m && Nat.ble (xs.length+ys.length) aW) (some (.own false m (xs++ys),h))):=by
 simp only[et]
 cases Nat.ble ys.length aW with
 |false=>rfl
 |true=>simp only[dB];cases Nat.beq k m && Nat.ble (xs.length+ys.length) aW<;>rfl
@[simp] def aC6 {m:Nat}{h:am}:et m h .nl []=some (.nl,h):=(rfl)
@[simp] def asM {m:Nat}{h:am}{y:W_}{r:E_}:et m h .nl (y::r)=dB (Nat.ble (r.length+1) aW) (some (.own true m (y::r),h)):=by
 simp only[et,ar]
 cases Nat.ble (r.length+1) aW<;>rfl
def aqM (o:Obj)(m:Nat)(h:am)(id off len:Nat)(ys:E_):AF_ :=
 match o with
 |.arr k xs=>dB (Nat.beq k m && Nat.ble (off+len) xs.length && Nat.ble (len+ys.length) aW) (some (.own true m (sub xs off len++ys),del h id))
 |_=>none
@[simp ↓] def aDN {k m id off len:Nat}{h:am}{xs ys:E_}:aqM (.arr k xs) m h id off len ys=dB (Nat.beq k m && Nat.ble (off+len) xs.length && Nat.ble (len+ys.length) aW) (some (.own true m (sub xs off len++ys),del h id)):=(rfl)
@[simp] def aDZ {m id off len:Nat}{h:am}{ys:E_}:et m h (.sl id off len) ys=dB (Nat.ble ys.length aW) (bA (get h id) λo=>aqM o m h id off len ys):=by
 simp only[et]
 cases Nat.ble ys.length aW with
 |false=>rfl
 |true =>
  simp only[dB]
  cases get h id with
  |none=>rfl
  |some o =>
   cases o with
   |arr k xs=>simp only[bA,aqM];cases Nat.beq k m && Nat.ble (off+len) xs.length && Nat.ble (len+ys.length) aW<;>rfl
   |cells cs=>rfl
   |loop=>rfl
attribute [simp] aW
def RP {α:Type}{f:α->D}:∀{l:List α},fB 1 (l.map λx=>[f x])=true
 |[]=>rfl
 |x::r=>by simp only[b9,fB,ar,bD];exact RP
@[simp] def aru {l:G_}:fB 1 (aF l)=true:=RP
@[simp] def aBM {l:C_}:fB 1 (ak l)=true:=RP
@[simp] def aFo {m:Nat}:fB m []=true:=(rfl)
@[simp] def aFl {m:Nat}{x:W_}{r:E_}:fB m (x::r)=(Nat.beq x.length m && fB m r):=by
 simp only[fB];cases Nat.beq x.length m<;>rfl
mutual
theorem afE:∀d:D,NA d d=true
 |.int k n=>by simp[NA,TN]
 |.bool b=>by simp[NA]
 |.str s=>by simp[NA]
 |.lst xs=>by rw[NA];exact eqDss_self xs
theorem QE:∀l:W_,QL l l=true
 |[]=>rfl
 |a::r=>by rw[QL,afE a,QE r];rfl
theorem eqDss_self:∀l:E_,eqDss l l=true
 |[]=>rfl
 |a::r=>by rw[eqDss,QE a,eqDss_self r];rfl
end
mutual
theorem aof:∀v:AV,iF v v=true
 |.junk=>by simp[iF]
 |.d x=>by simp[iF,afE]
 |.nl=>by simp[iF]
 |.own p m xs=>by simp[iF,eqDss_self]
 |.gl n=>by simp[iF]
 |.agg a=>by rw[iF];exact eqAVs_self a
 |.tup a=>by rw[iF];exact eqAVs_self a
 |.nilp=>by simp[iF]
 |.ptr a b=>by simp[iF]
 |.pel a b c=>by simp[iF]
 |.pim a b=>by simp[iF,QE]
 |.sl a b c=>by simp[iF]
 |.fn f a c=>by rw[iF,eqAVs_self a,eqAVs_self c];simp
 |.nilf=>by simp[iF]
 |.yield a=>by simp[iF]
theorem eqAVs_self:∀l:D_,eqAVs l l=true
 |[]=>by rw[eqAVs]
 |a::r=>by rw[eqAVs,aof a,eqAVs_self r];rfl
end
@[simp] def aE5 {a:D_}:eqO (.cells a) (.cells a)=true:=by rw[eqO];exact eqAVs_self a
@[simp] def aC2 {h k:am}:dE [] h k=true:=(rfl)
@[simp] def aCU {i:Nat}{r:C_}{h k:am}:dE (i::r) h k=((match get h i with
  |some o=>(match get k i with|some o'=>eqO o o'|none=>false)
  |none=>true) && dE r h k):=(rfl)
@[simp] def aCL {h:am}:dG [] h=[]:=(rfl)
@[simp] def aCX {i:Nat}{r:C_}{h:am}:dG (i::r) h=match get h i with
  |some o=>put (dG r h) i o
  |none=>dG r h:=(rfl)
attribute [simp] Jp cJ idsAll
attribute [simp] dK pK mq ng
def VM (a b:Int):Int:=if a=0 then b else 1
def VT {a b:Int}(h:0<=a)(h1:a<=1)(h2:0<=b)(h3:b<=1):fg .or (A_ a) (A_ b)=some (.int .i64 (VM a b)):=by
 have ha:a=0∨a=1:=o_;have hb:b=0∨b=1:=o_;rcases ha with rfl|rfl<;>rcases hb with rfl|rfl<;>rfl
@[simp] def aDL {a:Int}(h:0<=a)(h1:a<=1):VM a 0=a:=by
 have ha:a=0∨a=1:=o_;rcases ha with rfl|rfl<;>rfl
def anX {a b:Int}:(VM a b=0)↔a=0∧b=0:=by
 unfold VM;by_cases h:a=0<;>simp[h]
variable {P:Nat->Y_}
def IJ (l:Nat)(e:aV)(x:V_):J_ :=
 match x with
 |some (_,hs)=>match get hs.heap l with
  |some (.loop _ _ _ _ false pend)=>match pend with
   |none=>some (.normal,⟨e,⟨del hs.heap l,hs.next⟩⟩)
   |some o=>some (o,⟨e,⟨del hs.heap l,hs.next⟩⟩)
  |_=>none
 |none=>none
def rgF (P:Nat->Y_)(params:C_)(a b:VC)(hs:HS)(x:Option (AV×aV)):J_ :=
 match x with
 |some (.fn g first caps,e)=>IJ hs.next e ((Dn P).call g (first++([.yield hs.next]++caps)) ⟨put hs.heap hs.next (.loop (e.map λkv=>(kv.1,share kv.2)) params a b false none),hs.next+1⟩)
 |_=>none
def aqY {f:Rd}{params:C_}{a b:VC}{e:aV}{hs:HS}:(Dn P).code (.rangeF f params a b) ⟨e,hs⟩=rgF P params a b hs (rd e f):=by
 rw[im];simp only[cT,CH,rgF]
 cases rd e f with
 |none=>rfl
 |some p =>
  obtain⟨v,e1⟩:=p
  cases v<;>rfl
def awk {params:C_}{a b:VC}{h:am}{n g:Nat}{first caps:D_}{e:aV}:rgF P params a b ⟨h,n⟩ (some (.fn g first caps,e))=IJ n e ((Dn P).call g (first++([.yield n]++caps)) ⟨put h n (.loop (e.map λkv=>(kv.1,share kv.2)) params a b false none),n+1⟩):=rfl
def pdO (o:Obj):Option BG_ :=
 match o with
 |.loop _ _ _ _ false pend=>some pend
 |_=>none
def ayi {s:aV}{p:C_}{a b:VC}{q:BG_}:pdO (.loop s p a b false q)=some q:=rfl
def pdE (e:aV)(hs:HS)(l:Nat)(q:BG_):J_:=some (q.getD .normal,⟨e,⟨del hs.heap l,hs.next⟩⟩)
def aye {e:aV}{h:am}{n l:Nat}:pdE e ⟨h,n⟩ l none=some (.normal,⟨e,⟨del h l,n⟩⟩):=rfl
def ayU {e:aV}{h:am}{n l:Nat}{o:cq}:pdE e ⟨h,n⟩ l (some o)=some (o,⟨e,⟨del h l,n⟩⟩):=rfl
def ayC {l n:Nat}{e:aV}{v:AV}{h:am}:IJ l e (some (v,⟨h,n⟩))=bA (get h l) λo=>bA (pdO o) λq=>pdE e ⟨h,n⟩ l q:=by
 simp only[IJ]
 cases get h l with
 |none=>rfl
 |some o =>
  cases o with
  |loop s p a b busy pend=>cases busy<;>cases pend<;>rfl
  |cells=>rfl
  |arr=>rfl
def ayc {l:Nat}{e:aV}:IJ l e none=none:=rfl
def ayu {c:Prop}[Decidable c]{l:Nat}{e:aV}{x y:V_}:IJ l e (if c then x else y)=if c then IJ l e x else IJ l e y:=d_
def ax8 {α:Type}{p:α->Nat->Prop}{r:R α}{l:Nat}{e:aV}{f:α->Nat->V_}{g:Nat->V_}:IJ l e (rK p r f g)=rK p r (λv n=>IJ l e (f v n)) λx=>IJ l e (g x):=xN (IJ l e)
def awe {l:Nat}{e:aV}{x y:V_}(h:x=y):IJ l e x=IJ l e y:=by rw[h]
def yB (l:Nat)(x:J_):V_ :=
 match x with
 |none=>none
 |some (o,st)=>match get st.hs.heap l with
  |some (.loop snap params assign body true none) =>
   match o with
   |.normal=>some (.bool true,⟨put st.hs.heap l (.loop snap params assign body false none),st.hs.next⟩)
   |o=>some (.bool false,⟨put st.hs.heap l (.loop snap params assign body false (some o)),st.hs.next⟩)
  |_=>none
def yA (P:Nat->Y_)(l:Nat)(body:VC)(x:J_):V_ :=
 match x with
 |some (.normal,st)=>match get st.hs.heap l with
  |some (.loop snap params assign body2 false none)=>yB l ((Dn P).code body ⟨st.env,⟨put st.hs.heap l (.loop snap params assign body2 true none),st.hs.next⟩⟩)
  |_=>none
 |_=>none
def yO (P:Nat->Y_)(l:Nat)(args:D_)(hs:HS)(o:Obj):V_ :=
 match o with
 |.loop snap params assign body false none=>bA (u5 snap params args) λe=>yA P l body ((Dn P).code assign ⟨e,hs⟩)
 |_=>none
def lc {l:Nat}{args:D_}{hs:HS}:b7 (Dn P) (.yield l) args hs=bA (get hs.heap l) λo=>yO P l args hs o:=by
 simp only[b7,tV]
 cases get hs.heap l with
 |none=>rfl
 |some o =>
  cases o with
  |cells=>rfl
  |arr=>rfl
  |loop snap params assign body busy pend =>
   cases busy
   .cases pend with
    |some q=>rfl
    |none =>
     simp only[bA,yO]
     cases u5 snap params args with
     |none=>rfl
     |some e =>
      cases (Dn P).code assign ⟨e,hs⟩ with
      |none=>rfl
      |some p =>
       obtain⟨o,st⟩:=p
       cases o<;>rfl
   .rfl
def aCa {l:Nat}{args:D_}{hs:HS}{s:aV}{p:C_}{a b:VC}:yO P l args hs (.loop s p a b false none)=bA (u5 s p args) λe=>yA P l b ((Dn P).code a ⟨e,hs⟩):=rfl
def arY (o:Obj):Option Obj :=
 match o with
 |.loop s p a b false none=>some (.loop s p a b true none)
 |_=>none
def atB {s:aV}{p:C_}{a b:VC}:arY (.loop s p a b false none)=some (.loop s p a b true none):=rfl
def aBQ {l:Nat}{b:VC}{e:aV}{h:am}{n:Nat}:yA P l b (some (.normal,⟨e,⟨h,n⟩⟩))=bA (get h l) λo=>bA (arY o) λo=>yB l ((Dn P).code b ⟨e,⟨put h l o,n⟩⟩):=by
 simp only[yA]
 cases get h l with
 |none=>rfl
 |some o =>
  cases o with
  |cells=>rfl
  |arr=>rfl
  |loop s p a b busy pend=>cases busy<;>cases pend<;>rfl
def ac4 (q:BG_)(o:Obj):Option Obj :=
 match o with
 |.loop s p a b true none=>some (.loop s p a b false q)
 |_=>none
def as7 {q:BG_}{s:aV}{p:C_}{a b:VC}:ac4 q (.loop s p a b true none)=some (.loop s p a b false q):=rfl
def aBe {l:Nat}{e:aV}{h:am}{n:Nat}:yB l (some (.normal,⟨e,⟨h,n⟩⟩))=bA (get h l) λo=>bA (ac4 none o) λo=>some (.bool true,⟨put h l o,n⟩):=by
 simp only[yB]
 cases get h l with
 |none=>rfl
 |some o =>
  cases o with
  |cells=>rfl
  |arr=>rfl
  |loop s p a b busy pend=>cases busy<;>cases pend<;>rfl
def aAY {l:Nat}{e:aV}{h:am}{n:Nat}:yB l (some (.ret,⟨e,⟨h,n⟩⟩))=bA (get h l) λo=>bA (ac4 (some .ret) o) λo=>some (.bool false,⟨put h l o,n⟩):=by
 simp only[yB]
 cases get h l with
 |none=>rfl
 |some o =>
  cases o with
  |cells=>rfl
  |arr=>rfl
  |loop s p a b busy pend=>cases busy<;>cases pend<;>rfl
def aBp {l i:Nat}{e:aV}{h:am}{n:Nat}:yB l (some (.exit i,⟨e,⟨h,n⟩⟩))=bA (get h l) λo=>bA (ac4 (some (.exit i)) o) λo=>some (.bool false,⟨put h l o,n⟩):=by
 simp only[yB]
 cases get h l with
 |none=>rfl
 |some o =>
  cases o with
  |cells=>rfl
  |arr=>rfl
  |loop s p a b busy pend=>cases busy<;>cases pend<;>rfl
def aBr {l:Nat}:yB l none=none:=rfl
def aBI {c:Prop}[Decidable c]{l:Nat}{x y:J_}:yB l (if c then x else y)=if c then yB l x else yB l y:=d_
def aCF {α:Type}{p:α->Nat->Prop}{r:R α}{l:Nat}{f:α->Nat->J_}{g:Nat->J_}:yB l (rK p r f g)=rK p r (λv n=>yB l (f v n)) λx=>yB l (g x):=xN (yB l)
def ayJ {l:Nat}{x y:J_}(h:x=y):yB l x=yB l y:=by rw[h]
def ay7 {l:Nat}{b:VC}{x y:J_}(h:x=y):yA P l b x=yA P l b y:=by rw[h]
attribute [simp ↓] aqY awk ayi aye ayU ayC ayc ayu ax8 aCa atB aBQ as7 aBe aAY aBp aBr aBI aCF lc
attribute [congr] awe ayJ ay7
attribute [simp] u5
def aD (m:Nat)(xs:E_):AV:=match xs with
 |[]=>.nl
 |x::r=>.own false m (x::r)
def pD {m:Nat}:aD m []=.nl:=rfl
theorem aaQ {m:Nat}{x:W_}{r:E_}:aD m (x::r)=.own false m (x::r):=rfl
def mY {m:Nat}{xs:E_}{y:W_}:aD m (xs++[y])=.own false m (xs++[y]):=by cases xs<;>rfl
def kN {m:Nat}{xs:E_}(h:xs≠[]):aD m xs=.own false m xs:=by cases xs with|nil=>exact absurd rfl h|cons=>rfl
@[simp] def aEG {m:Nat}{xs:E_}:firm (aD m xs)=aD m xs:=by cases xs<;>rfl
@[simp] def aui {m:Nat}{xs:E_}:nU (aD m xs)=aD m xs:=by cases xs<;>rfl
@[simp] def aDu {m:Nat}{xs:E_}:AK (aD m xs)=aD m xs:=by cases xs<;>rfl
@[simp] def aE9 {m:Nat}{xs:E_}:Ea (aD m xs)=some (.lst xs):=by cases xs<;>rfl
@[simp] def aDf {m:Nat}{xs:E_}:AV.cells (aD m xs)=[aD m xs]:=by cases xs<;>rfl
@[simp] def ara {m:Nat}{xs:E_}:bu (aD m xs)=true:=by cases xs<;>rfl
@[simp] def aDk {h:am}{m:Nat}{xs:E_}:elems h (aD m xs)=some xs:=by cases xs<;>rfl
@[simp] def aBc {h:am}{m:Nat}{xs:E_}:fO h (aD m xs)=some (aD m xs,h):=by cases xs<;>rfl
@[simp] def aFb {m:Nat}{h:am}{xs:E_}{y:W_}(hy:y.length=m)(hl:xs.length<1000000000):Yw m h (aD m xs) (.own false m [y])=some (.own (decide (xs=[])) m (xs++[y]),h):=by
 subst hy
 cases xs with
 |nil=>simp[aD,elems,decide_true]
 |cons x r=>simp[aD,elems];simp at hl;omega
@[simp] def aER {m:Nat}{h:am}{xs:E_}{y:W_}(hl:xs.length<1000000000):et m h (aD m xs) [y]=some (.own (decide (xs=[])) m (xs++[y]),h):=by
 cases xs with
 |nil=>simp[aD,decide_true]
 |cons x r=>simp[aD];simp at hl;omega
def arG (o:Obj)(h:am)(id off len:Nat):AF_ :=
 match o with
 |.arr m xs=>dB (Nat.ble (off+len) xs.length) (some (.own true m (sub xs off len),del h id))
 |_=>none
@[simp ↓] def aDK {m:Nat}{xs:E_}{h:am}{id off len:Nat}:arG (.arr m xs) h id off len=dB (Nat.ble (off+len) xs.length) (some (.own true m (sub xs off len),del h id)):=(rfl)
@[simp] def aEt {h:am}{id off len:Nat}:jT h (.sl id off len)=bA (get h id) λo=>arG o h id off len:=by
 simp only[jT]
 cases get h id with
 |none=>rfl
 |some o =>
  cases o with
  |arr m xs=>simp only[bA,arG];cases Nat.ble (off+len) xs.length<;>rfl
  |cells cs=>rfl
  |loop=>rfl
abbrev cW:=@Nat.pow_succ
abbrev nz:=@Nat.add_comm
abbrev aw:=@Nat.pow_le_pow_right
abbrev dR:=@Nat.add_zero
abbrev i64 (n:Int):Prop:=-9223372036854775808<=n∧n<=9223372036854775807
def wR (n:Int):bq prog QT [A_ n]=if 0<=n∧n<=31 then some (B_ true) else some (B_ false):=by
 rw[aU aeN ad8 rfl];simp
def val:C_->Nat->Nat
 |[],n=>n
 |x::r,n=>val r (2*n+x)
abbrev bin (l:C_):Prop:=∀x∈l,x<=1
def PA:∀{l:C_}{n i:Nat},bin l->n<2 ^ i->val l n<2 ^ (i+l.length)
 |[],n,i,h,hn=>by simpa [val] using hn
 |x::r,n,i,h,hn=>by
  have h1:2 ^ (i+1)=2*2 ^ i:=by rw[cW];omega
  have h2:=h x s_;have:=PA (l:=r) (n:=2*n+x) (i:=i+1) (λy hy=>h y (by simp[hy])) o_;simpa [val,dr,nz 1] using this
def bb (b:C_)(a s:Int):R Nat :=
 if (0<=s∧s<=31)∧0<=a∧a<=b.length then
  if b.length-a<s then .er 4
  else if bin ((b.drop a.toNat).take s.toNat) then .ok (val ((b.drop a.toNat).take s.toNat) 0) (a.toNat+s.toNat)
  else .er 7
 else .er 1
abbrev pG (b:C_)(s:Int)(v n:Nat):Prop:=v<2 ^ s.toNat∧n<=b.length
def auw {γ:Type}{b:C_}{a s:Int}{f:Nat->Nat->γ}{g:Nat->γ}:rK (pG b s) (bb b a s) f g =
  if (0<=s∧s<=31)∧0<=a∧a<=b.length then
   if b.length-a<s then g 4
   else if bin ((b.drop a.toNat).take s.toNat) then f (val ((b.drop a.toNat).take s.toNat) 0) (a.toNat+s.toNat) else g 7
  else g 1:=by
 unfold bb;by_cases h1:(0<=s∧s<=31)∧0<=a∧a<=b.length
 .rw[ac h1,ac h1];by_cases h2:b.length-a<s
  .rw[ac h2,ac h2,ie]
  .rw[aa h2,aa h2];by_cases h3:bin ((b.drop a.toNat).take s.toNat)
   .rw[ac h3,ac h3,eD];have:=PA (n:=0) (i:=0) h3 o_;have hl:((b.drop a.toNat).take s.toNat).length=s.toNat:=by simp;omega
    rw[hl]at this;exact⟨by simpa using this,o_⟩
   .rw[aa h3,aa h3,ie]
 .rw[aa h1,aa h1,ie]
def ag8 (b:C_)(a sz:Nat)(hl:b.length<=1000000000)(hb:a+sz<=b.length)(hs:sz<=31)(h:am)(m:Nat):∀(k i n:Nat) (I N:Int),I=i->N=n->i+k=sz->n<2 ^ i->
  (Dn prog).code (.loop yn) ⟨[(0,.d (.lst (ak b))),(1,A_ a),(2,A_ sz),(6,A_ N),(31,A_ sz),(32,A_ I)],⟨h,m⟩⟩ =
   if bin ((b.drop (a+i)).take k) then some (.exit 1,⟨[(1,A_ a),(2,A_ sz),(6,A_ ((val ((b.drop (a+i)).take k) n:Nat)))],⟨h,m⟩⟩)
   else some (.ret,⟨[(6,A_ 0),(7,A_ 0),(8,A_ 8)],⟨h,m⟩⟩):=by
 intro k
 induction k with
 |zero =>
  intro i n I N hI hN hi hn;subst hI hN;rw[ah NX];have:¬(i<sz):=o_;simp(disch:=omega)[this,val,bin]
 |succ k ih =>
  intro i n I N hI hN hi hn;subst hI hN;rw[ah NX,pP o_,List.take_succ_cons];have:i<sz:=o_;have h2:2 ^ i<=2 ^ 30:=aw o_ o_;have h3:2 ^ (i+1)=2*2 ^ i:=by rw[cW];omega
  simp(disch:=omega)[this,val,bin];by_cases hx:nth b (a+i)<=1
  .rw[aa o_,ih (i+1) (2*n+nth b (a+i)) _ _ o_ o_ o_ o_];simp[hx,bin,dr]
  .rw[ac o_];simp[hx]
def gW (b:C_)(a s:Int)(hb:b.length<=1000000000)(ha:i64 a):bq prog Ar [.d (.lst (ak b)),A_ a,A_ s]=rK (pG b s) (bb b a s) (λv n=>some (.tup [A_ v,A_ n,A_ 0])) λe=>some (.tup [A_ 0,A_ 0,A_ (e+1)]):=by
 rw[aU akM akd rfl,auw];simp(disch:=omega)[wR];by_cases h1:(0<=s∧s<=31)∧0<=a∧a<=b.length
 .obtain⟨⟨s0,s1⟩,a0,a1⟩:=h1;obtain⟨S,rfl⟩:=aA s0;obtain⟨A,rfl⟩:=aA a0;by_cases h2:(b.length:Int)-A<S
  .simp[h2]
  .have:=ag8 b A S hb o_ o_ [] 0 S 0 0 0 0 rfl rfl o_ o_;rw[dR]at this;simp(disch:=omega)[this]
 .simp[h1]
abbrev su:=@List.mem_flatMap
def aj9 (k lines by_:Nat):Nat->Nat->C_
 |0,at_=>[at_]
 |f+1,at_=>at_::if at_<lines then aj9 k lines by_ f (min lines (at_+4+4*(at_*k / by_))) else []
def offs (rate:Nat)(short:Bool):C_:=cond short (aj9 (3+(11-rate) / 2) 32 64 99 0) (aj9 (3+(11-rate) / 2) 256 256 99 0)
def FH:List (Nat×Bool):=(List.range 12).flatMap λr=>[(r,false),(r,true)]
def fh {r:Nat}{s:Bool}(h:r<12):(r,s)∈FH:=by
 simp only[FH,su,dL];exact⟨r,h,by cases s<;>simp⟩
def acq:∀x∈FH,bq prog Cr [A_ x.1,B_ x.2]=some (.tup [.own true 1 (cN (offs x.1 x.2)),A_ 0]):=Gv 100 FH (by kernel_rfl)
def Xm:∀x∈FH,1<=(offs x.1 x.2).length∧(offs x.1 x.2).length<=64:=e_
def qA (rate:Nat)(short:Bool):Nat:=(offs rate short).length-1
theorem Gt {r:Nat}{s:Bool}(h:r<12):qA r s<=63:=by
 have:=Xm _ (fh (s:=s) h);simp only[qA]at *;omega
abbrev dP (r:Int):Prop:=0<=r∧r<=11
def AC (r:Int)(s:Bool):bq prog Cr [A_ r,B_ s]=if dP r then some (.tup [.own true 1 (cN (offs r.toNat s)),A_ 0]) else some (.tup [.nl,A_ 2]):=by
 by_cases h:dP r
 .obtain⟨R,rfl⟩:=aA h.1;rw[ac h,acq (R,s) (fh o_)];rfl
 .rw[aa h,aU YL Y0 rfl];simp(disch:=omega)[↓ac,auq]
def ka (r:Int)(s:Bool):bq prog TV [A_ r,B_ s]=if dP r then some (.tup [A_ (qA r.toNat s),A_ 0]) else some (.tup [A_ 0,A_ 2]):=by
 rw[aU aiw ag4 rfl];by_cases h:dP r
 .have h2:=Xm _ (fh (r:=r.toNat) (s:=s) o_);simp(disch:=omega) only at h2;simp(disch:=omega)[AC,ac h,qA];split<;>simp<;>omega
 .simp(disch:=omega)[AC,aa h]
abbrev cH:=@List.drop_eq_nil_of_le
structure aM where
 seq:Nat
 shape:Nat
 max:Int
 groups:G_
@[simp] def aM.cells (i:aM):D_:=[.d (.int .u8 i.seq),.d (.int .u8 i.shape),A_ i.max,.d (.lst (aF i.groups))]
structure aM.Fit (i:aM):Prop where
 seq:i.seq<=255
 shape:i.shape<=255
 max:i64 i.max
 len:i.groups.length<=1000
 groups:∀n∈i.groups,i64 n
def WO (a b:G_)(hl:a.length<=1000000)(he:a.length=b.length)(h:am)(m:Nat):∀(k i:Nat) (I:Int),I=i->i+k=a.length->
  (Dn prog).code (.loop lh) ⟨[(0,.d (.lst (aF a))),(1,.d (.lst (aF b))),(12,A_ a.length),(13,A_ I)],⟨h,m⟩⟩=if a.drop i=b.drop i then some (.exit 0,⟨[],⟨h,m⟩⟩) else some (.ret,⟨[(4,B_ false)],⟨h,m⟩⟩):=by
 intro k
 induction k with
 |zero =>
  intro i I hI hi;subst hI;rw[ah xR,cH o_,cH o_];simp(disch:=omega)[↓aa]
 |succ k ih =>
  intro i I hI hi;subst hI;rw[ah xR,pP (l:=a) o_,pP (l:=b) o_];simp(disch:=omega)[↓ac];rw[ih (i+1) _ o_ o_];by_cases hx:nth a i=nth b i<;>simp[hx]
def P8 (a b:G_)(hl:a.length<=1000000)(hb:b.length<=1000000):bq prog BM [.d (.lst (aF a)),.d (.lst (aF b))]=if a=b then some (B_ true) else some (B_ false):=by
 rw[aU OK OQ rfl];by_cases he:a.length=b.length
 .have:=WO a b hl he [] 0 a.length 0 0 rfl o_;simp(disch:=omega)[this,↓ac]
 .have:a≠b:=λh=>he (by rw[h])
  simp(disch:=omega)[this,↓aa]
def aM.grouped (i:aM):Prop:=if i.seq=2 then (∀n∈i.groups,1<=n∧n<=8)∧i.groups.sum=8∧(i.groups.length:Int)<=8 else i.groups=[1]
instance {i:aM}:Decidable i.grouped:=by unfold aM.grouped;infer_instance
def alK (i:aM)(hi:i.groups.length<=1000)(m:Nat):∀(k j:Nat) (J S:Int),J=j->j+k=i.groups.length->0<=S∧S<=8*j->
  (Dn prog).code (.loop qE) ⟨[(1,.ptr 0 0),(3,A_ S),(14,.d (.lst (aF i.groups))),(15,A_ i.groups.length),(16,A_ J)],⟨[(0,.cells i.cells)],m⟩⟩ =
   if ∀n∈i.groups.drop j,1<=n∧n<=8 then some (.exit 0,⟨[(1,.ptr 0 0),(3,A_ (S+(i.groups.drop j).sum))],⟨[(0,.cells i.cells)],m⟩⟩) else some (.ret,⟨[(2,B_ false)],⟨[(0,.cells i.cells)],m⟩⟩):=by
 simp only[aM.cells];intro k
 induction k with
 |zero =>
  intro j J S hJ hj hS;subst hJ;rw[ah Fu,cH o_];simp(disch:=omega)[↓aa]
 |succ k ih =>
  intro j J S hJ hj hS;subst hJ;rw[ah Fu,pP o_];simp(disch:=omega)[↓ac];by_cases hx:1<=nth i.groups j∧nth i.groups j<=8
  .rw[aa o_,ih (j+1) _ _ o_ o_ o_];simp[hx,Int.add_assoc]
  .rw[ac o_,aa (λh=>hx ⟨h.1.1,h.1.2⟩)]
def afR (i:aM)(hi:i.Fit):bq prog KH [.agg i.cells]=if i.grouped then some (B_ true) else some (B_ false):=by
 have hl:=hi.len;rw[aU YS aad rfl];unfold aM.grouped;by_cases hs:i.seq=2
 .have:=alK i hi.len 1 i.groups.length 0 0 0 rfl o_ o_;simp only[aM.cells]at this;simp(disch:=omega)[↓ac,↓aa,this]
 .have:=P8 i.groups [1] o_ s_;have h1:aF [1]=[[.int .i64 1]]:=rfl;rw[h1]at this;simp(disch:=omega)[this,↓aa,↓ac]
def aM.may (r:Nat)(i:aM):Prop:=i.seq<=3∧i.shape<=1∧0<=i.max∧i.max<=qA r (decide (i.seq=2))∧i.grouped
instance {r:Nat}{i:aM}:Decidable (i.may r):=by unfold aM.may;infer_instance
def wT (r:Int)(i:aM)(hi:i.Fit):bq prog vX [A_ r,.agg i.cells]=if dP r then if i.may r.toNat then some (A_ 0) else some (A_ 8) else some (A_ 2):=by
 have hg:=afR i hi;simp only[aM.cells]at hg;rw[aU aew adS rfl];by_cases hr:dP r
 .by_cases hs:i.seq=2
  .simp(config := { maxSteps:=1000000 }) (disch:=omega)[ka,↓ac,↓aa,hg];refine asz ?_;by_cases h:i.grouped<;>simp[aM.may,h,hs];omega
  .simp(config := { maxSteps:=1000000 }) (disch:=omega)[ka,↓ac,↓aa,hg];refine asz ?_;by_cases h:i.grouped<;>simp[aM.may,h,hs];omega
 .by_cases hs:i.seq=2
  .simp(config := { maxSteps:=1000000 }) (disch:=omega)[ka,↓ac,↓aa]
  .simp(config := { maxSteps:=1000000 }) (disch:=omega)[ka,↓ac,↓aa]
def aou (i:aM)(hi:i.Fit):bq prog S8 [.agg i.cells]=if i.may 11 then some (B_ true) else some (B_ false):=by
 have hg:=wT 11 i hi;simp only[aM.cells]at hg;rw[aU ahS aiy rfl];simp(config := { maxSteps:=1000000 }) (disch:=omega)[hg,↓ac]
def aM.many (i:aM):Nat:=if i.seq=2 then 8 else 1
def nQ (i:aM)(hi:i.Fit):bq prog KO [.agg i.cells]=if i.may 11 then some (.tup [A_ i.many,A_ 0]) else some (.tup [A_ 0,A_ 8]):=by
 have hg:=aou i hi;simp only[aM.cells]at hg;rw[aU aal Ys rfl];by_cases hs:i.seq=2
 .simp(config := { maxSteps:=1000000 }) (disch:=omega)[hg,↓ac,aM.many]
 .simp(config := { maxSteps:=1000000 }) (disch:=omega)[hg,↓aa,aM.many]
def kO:∀{l:G_},(∀n∈l,1<=n)->(l.length:Int)<=l.sum
 |[],_=>by simp
 |x::r,h=>by
  have:=kO (l:=r) (λn hn=>h n (by simp[hn]));have:=h x s_;simp;omega
abbrev bM:=@Nat.two_pow_pos
abbrev gF:=@List.mem_or_eq_of_mem_set
def vO (b:C_)(a s:Int):Nat:=match bb b a s with|.ok v _=>v|.er _=>0
def nO (b:C_)(a s:Int):Nat:=match bb b a s with|.ok _ n=>n|.er _=>0
def eO (b:C_)(a s:Int):Nat:=match bb b a s with|.ok _ _=>0|.er e=>e+1
def dU {b:C_}{a s:Int}{v n:Nat}(h:bb b a s=.ok v n):pG b s v n:=by
 unfold bb at h;by_cases h1:(0<=s∧s<=31)∧0<=a∧a<=b.length
 .rw[ac h1]at h;by_cases h2:b.length-a<s
  .rw[ac h2]at h;exact absurd h (by simp)
  .rw[aa h2]at h;by_cases h3:bin ((b.drop a.toNat).take s.toNat)
   .rw[ac h3]at h;injection h with hv hn
    have:=PA (n:=0) (i:=0) h3 o_;have hl:((b.drop a.toNat).take s.toNat).length=s.toNat:=by simp;omega
    rw[hl]at this;subst hv hn;exact⟨by simpa using this,o_⟩
   .rw[aa h3]at h;exact absurd h (by simp)
 .rw[aa h1]at h;exact absurd h (by simp)
def Iy (b:C_)(a s:Int)(hb:b.length<=1000000000)(ha:i64 a):bq prog Ar [.d (.lst (ak b)),A_ a,A_ s]=some (.tup [A_ (vO b a s),A_ (nO b a s),A_ (eO b a s)]):=by
 rw[gW b a s hb ha];unfold vO nO eO
 cases h:bb b a s with
 |ok v n=>rw[eD (dU h)];simp
 |er e=>simp[rK]
structure RS where
 a:Int
 e:Nat
def ra (s:RS):Int:=s.a
def re (s:RS):Nat:=s.e
def sV (b:C_)(st:RS)(s:Int):Nat:=if st.e=0 then vO b st.a s else 0
def sN (b:C_)(st:RS)(s:Int):RS:=if st.e=0 then ⟨nO b st.a s,eO b st.a s⟩ else st
def ax0 {b:C_}{a s:Int}:vO b a s<2 ^ s.toNat:=by
 unfold vO
 cases h:bb b a s with
 |ok v n=>exact(dU h).1
 |er e=>exact bM _
def uL {b:C_}{st:RS}{s:Int}:sV b st s<2 ^ s.toNat:=by
 unfold sV;split
 .exact ax0
 .exact bM _
def alH {b:C_}{a s:Int}:nO b a s<=b.length:=by
 unfold nO
 cases h:bb b a s with
 |ok v n=>exact(dU h).2
 |er e=>exact dn _
def RS.fit (st:RS):Prop:=i64 st.a
def fN {b:C_}{st:RS}{s:Int}(hb:b.length<=1000000000)(h:st.fit):(sN b st s).fit:=by
 unfold sN;split
 .have:=alH (b:=b) (a:=st.a) (s:=s);show i64 _;simp only[];omega
 .exact h
def sL (b:C_):Nat->RS->C_
 |0,_=>[]
 |k+1,st=>sV b st 1::sL b k (sN b st 1)
def I0 (b:C_):Nat->RS->RS
 |0,st=>st
 |k+1,st=>I0 b k (sN b st 1)
def Aj (b:C_)(s:Int)(st:RS)(X:Obj)(R:am)(N:Nat)(hb:b.length<=1000000000)(ha:st.fit):(Dn prog).call vu [A_ s,.ptr 3 0,.ptr 0 0,.ptr 2 0] ⟨(0,.cells [.d (.lst (ak b))])::(1,X)::(2,.cells [A_ (ra st)])::(3,.cells [A_ (re st)])::R,N⟩ =
  some (A_ (sV b st s),⟨(0,.cells [.d (.lst (ak b))])::(1,X)::(2,.cells [A_ (ra (sN b st s))])::(3,.cells [A_ (re (sN b st s))])::R,N⟩):=by
 rw[ba agx afy rfl];obtain⟨a,e⟩:=st;have hf:i64 a:=ha;by_cases he:e=0
 .subst he;simp(config := { maxSteps:=1000000 }) (disch:=omega)[Iy,ra,re,sV,sN]
 .simp(config := { maxSteps:=1000000 }) (disch:=omega)[ra,re,sV,sN,he]
def grow:G_->C_->G_
 |g,[]=>g
 |g,x::r=>grow (if x=1 then g.set (g.length-1) (nth g (g.length-1)+1) else g++[1]) r
def nm (g:G_):Nat:=3+g.length
def aBq {g:G_}(h:g≠[]):4<=nm g:=by have:=bH.2 h;unfold nm;omega
abbrev hpI (b:C_)(q s:Nat)(m:Int)(g:G_)(st:RS):HS:=⟨[(0,.cells [.d (.lst (ak b))]),(1,.cells [.d (.int .u8 q),.d (.int .u8 s),A_ m,.sl (3+g.length) 0 g.length]),
           (2,.cells [A_ (ra st)]),(3,.cells [A_ (re st)]),(3+g.length,.arr 1 (aF g))],4+g.length⟩
def ahs (b:C_)(r o m:Int)(q s:Nat)(hb:b.length<=1000000000):∀(k i:Nat) (g:G_) (st:RS) (I:Int),I=i->i+k=7->g≠[]->g.length+k<=100->(∀n∈g,0<=n∧n+k<=100)->st.fit->
  (Dn prog).code (.loop tB) ⟨[(2,AV.d (D.int IntKind.i64 r)),(6,AV.ptr 1 0),(7,AV.ptr 2 0),(8,AV.ptr 3 0),
           (9,AV.fn vu [] [AV.ptr 3 0,AV.ptr 0 0,AV.ptr 2 0]),(10,A_ o),(40,A_ I)],hpI b q s m g st⟩ =
   some (.exit 0,⟨[(2,AV.d (D.int IntKind.i64 r)),(6,AV.ptr 1 0),(7,AV.ptr 2 0),(8,AV.ptr 3 0),(10,A_ o)],hpI b q s m (grow g (sL b k st)) (I0 b k st)⟩):=by
 intro k
 induction k with
 |zero =>
  intro i g st I hI hi hg hl hn ha;subst hI;rw[ah NO];simp(disch:=omega)[↓aa,hpI,grow,sL,I0]
 |succ k ih =>
  intro i g st I hI hi hg hl hn ha;subst hI;have:=bH.2 hg;have h3:3+(g.length+1)=4+g.length:=o_;have h4:4+(g.length+1)=4+g.length+1:=o_;rw[ah NO];have hv:nth g (g.length-1)∈g:=iP o_;have hv2:=hn _ hv;simp only[grow,sL,I0];by_cases h1:sV b st 1=1
  .have hs:(g.set (g.length-1) (nth g (g.length-1)+1)).length=g.length:=s_;have h:=ih (i+1) (g.set (g.length-1) (nth g (g.length-1)+1)) (sN b st 1) (i+1) o_ o_ (by intro h0;rw[h0,bD]at hs;omega) (by rw[hs];omega) (λx hx=>by
    rcases gF hx with h|h
    .have:=hn x h;omega
    .omega) (fN hb ha)
   simp only[hpI,hs]at h;simp(maxSteps:=300000) (disch:=first|omega|assumption) [↓ac,↓aa,Aj,h3,h4,hpI];rw[h]
  .have h:=ih (i+1) (g++[1]) (sN b st 1) (i+1) o_ o_ s_ g_ (λx hx=>by
    rcases bi.1 hx with h|h
    .have:=hn x h;omega
    .simp at h;omega) (fN hb ha)
   simp only[hpI,al,ar,bD,br,h3,h4]at h;simp(maxSteps:=300000) (disch:=first|omega|assumption) [↓ac,↓aa,Aj,h3,h4,hpI];rw[h]
structure Hr (hp:D_->am)(p:Nat):Prop where
 get:∀c,get (hp c) p=some (.cells c)
 put:∀c d,put (hp c) p (.cells d)=hp d
abbrev cK (b:C_)(s:Nat×Nat):D_:=[.own false 1 (ak b),A_ s.1,A_ s.2]
def gT (b:C_)(s:Nat×Nat)(k:Int):Nat×Nat×Nat :=
 if s.2=0 then match bb b s.1 k with
  |.ok v n=>(v,n,0)
  |.er e=>(0,s.1,e+1)
 else (0,s)
def kT (s:Nat×Nat)(c:Prop)[Decidable c]:Nat×Nat:=if s.2=0∧¬c then (s.1,8) else s
def fW {hp:D_->am}{p:Nat}(H:Hr hp p)(b:C_)(hb:b.length<=1000000000)(s:Nat×Nat)(hs:s.1<=b.length)(k:Int)(N:Nat) :
  (Dn prog).call jh [.ptr p 0,A_ k] ⟨hp (cK b s),N⟩=some (A_ ((gT b s k).1),⟨hp (cK b (gT b s k).2),N⟩):=by
 obtain⟨a,e⟩:=s;have h:=gW b a k hb (by simp only at hs;omega);rw[ba UP Vo rfl];unfold gT;simp only[cK];by_cases he:e=0
 .subst he
  cases hg:bb b a k with
  |ok v n =>
   rw[hg,eD (dU hg)]at h;simp(maxSteps:=300000) (disch:=omega)[↓ac,↓aa,H.get,H.put,h]
  |er e =>
   rw[hg,ie]at h;simp(maxSteps:=300000) (disch:=omega)[↓ac,↓aa,H.get,H.put,h]
 .simp(maxSteps:=300000) (disch:=omega)[↓ac,↓aa,H.get,H.put,he]
def mc {hp:D_->am}{p:Nat}(H:Hr hp p)(b:C_)(s:Nat×Nat)(c:Prop)[Decidable c](N:Nat) :
  (Dn prog).call kH [.ptr p 0,B_ (decide c)] ⟨hp (cK b s),N⟩=some (.tup [],⟨hp (cK b (kT s c)),N⟩):=by
 obtain⟨a,e⟩:=s;rw[ba US T9 rfl];unfold kT;simp only[cK];by_cases hc:c
 .simp(maxSteps:=300000) (disch:=omega)[↓ac,↓aa,H.get,H.put,hc]
 .by_cases he:e=0
  .subst he;simp(maxSteps:=300000) (disch:=omega)[↓ac,↓aa,H.get,H.put,hc]
  .simp(maxSteps:=300000) (disch:=omega)[↓ac,↓aa,H.get,H.put,hc,he]
def qz {b:C_}{s:Nat×Nat}{k:Int}(h:s.1<=b.length):(gT b s k).2.1<=b.length:=by
 unfold gT;split
 .split
  .rename_i v n hg;exact(dU hg).2
  .exact h
 .exact h
def FZ {b:C_}{s:Nat×Nat}{c:Prop}[Decidable c](h:s.1<=b.length):(kT s c).1<=b.length:=by
 unfold kT;split<;>exact h
def LV {b:C_}{s:Nat×Nat}{k:Int}(h0:0<=k):(gT b s k).1<2 ^ k.toNat:=by
 have:=bM k.toNat;unfold gT;split
 .split
  .rename_i v n hg;exact(dU hg).1
  .exact this
 .exact this
abbrev jH:=@Int.fdiv_eq_ediv_of_nonneg
abbrev pQ:=@Int.natCast_nonneg
abbrev kC:=@Nat.div_le_self
abbrev iy:=@Nat.div_eq_of_lt
def au (n:Nat):Nat->C_
 |0=>[]
 |k+1=>n / 2 ^ k % 2::au n k
@[simp] theorem dq {n:Nat}:∀{k:Nat},(au n k).length=k
 |0=>rfl
 |k+1=>by rw[au,ar,dq]
def akF {n k:Nat}(hk:k<=63):fg .shr (A_ (n:Int)) (A_ (k:Int))=some (.int .i64 ((n / 2 ^ k:Nat):Int)):=by
 rw[ku o_];have:min ((k:Int)).toNat IntKind.i64.bits=k:=by simp only[aq,IntKind.bits];omega
 rw[this,jH _ (pQ _),<-Int.natCast_ediv]
def aAU {a:Nat}(h:a<9223372036854775808):fg .and (A_ (a:Int)) (A_ 1)=some (.int .i64 ((a % 2:Nat):Int)):=by
 have:=an2 (k:=.i64) (a:=a) (b:=1) (by simpa [oF,IntKind.signed] using h) k_;rw[Nat.and_one_is_mod]at this;exact this
def aoe {σ:Type}{hp:σ->am}{l p N:Nat}{st:σ->Nat->σ}{di:Nat->σ->Prop}(hI:∀k s x,di (k+1) s->di k (st s x))(n:Nat)(hn:n<=9223372036854775807)(hg:∀s,get (hp s) p=some (.cells [A_ n]))
  (hy:∀(k:Nat) (s:σ) (x:Nat),di (k+1) s->x<=1->b7 (Dn prog) (.yield l) [.d (.int .u8 (x:Int))] ⟨hp s,N⟩=some (B_ true,⟨hp (st s x),N⟩)):∀(k:Nat) (I:Int) (s:σ),k<=31->di k s->I=k-1->
  (Dn prog).code (.loop sX) ⟨[(0,.yield l),(2,.ptr p 0),(4,A_ I)],⟨hp s,N⟩⟩=some (.exit 0,⟨[],⟨hp ((au n k).foldl st s),N⟩⟩):=by
 intro k
 induction k with
 |zero =>
  intro I s hk hi hI;subst hI;rw[ah HN];simp(disch:=omega)[↓aa,au]
 |succ k ih =>
  intro I s hk hi hI;subst hI;have c:((k+1:Nat):Int)-1=(k:Int):=o_;have h1:n / 2 ^ k<=n:=kC _ _;have h2:=akF (n:=n) (k:=k) o_;have h3:=aAU (a:=n / 2 ^ k) o_;have h4:=hy k s (n / 2 ^ k % 2) hi o_;have h5:=ih ((k:Int)-1) (st s (n / 2 ^ k % 2)) o_ (hI _ _ _ hi) rfl;rw[c,ah HN,au,kx];generalize n / 2 ^ k=Q at *;have c2:((Q % 2:Nat):Int)=(Q:Int) % 2:=o_;rw[c2]at h4;simp(disch:=omega)[↓ac,hg,-ku,h2,h3,-lc,h4];exact h5
def amt {σ:Type}{hp:σ->am}{l p q N:Nat}{st:σ->Nat->σ}{di:Nat->σ->Prop}(hI:∀k s x,di (k+1) s->di k (st s x))(n k:Nat)(hn:n<=9223372036854775807)(hk:k<=31)(hg:∀s,get (hp s) p=some (.cells [A_ n]))(hg2:∀s,get (hp s) q=some (.cells [A_ k]))
  (hy:∀(k:Nat) (s:σ) (x:Nat),di (k+1) s->x<=1->b7 (Dn prog) (.yield l) [.d (.int .u8 (x:Int))] ⟨hp s,N⟩=some (B_ true,⟨hp (st s x),N⟩))(s:σ)(hs:di k s) :
  (Dn prog).call oL [.yield l,.ptr q 0,.ptr p 0] ⟨hp s,N⟩=some (.tup [],⟨hp ((au n k).foldl st s),N⟩):=by
 rw[ba ab0 acm rfl];have h:=aoe hI n hn hg hy k ((k:Int)-1) s hk hs rfl;simp(disch:=omega)[hg2,h]
abbrev aqX (n k:Int)(acc:C_):am:=[(0,.cells [A_ n]),(1,.cells [A_ k]),(2,.cells [.own false 1 (ak acc)]),(3,.loop [(2,.ptr 2 0)] [7] iO iN false none)]
def afb {l acc:C_}:l.foldl (fun(s:C_) x=>s++[x]) acc=acc++l:=by
 induction l generalizing acc with
 |nil=>simp
 |cons x r ih=>rw[kx,ih];simp
def aBK (n k:Int)(s:C_)(x:Nat)(hs:s.length<=990000000):b7 (Dn prog) (.yield 3) [.d (.int .u8 (x:Int))] ⟨aqX n k s,4⟩=some (B_ true,⟨aqX n k (s++[x]),4⟩):=by
 have hl:(ak s).length=s.length:=by simp[ak]
 simp(disch:=omega)[DL,DT];omega
def YA (acc:C_)(n k:Nat)(hn:n<=9223372036854775807)(hk:k<=31)(ha:acc.length<=900000000) :
  (Dn prog).call vg [.own false 1 (ak acc),.fn oL [] [.ptr 1 0,.ptr 0 0]] ⟨[(0,.cells [A_ n]),(1,.cells [A_ k])],2⟩ =
  some (.own false 1 (ak (acc++au n k)),⟨[(0,.cells [A_ n]),(1,.cells [A_ k]),(2,.cells [.junk])],4⟩):=by
 have h:=amt (hp:=aqX n k) (l:=3) (p:=0) (q:=1) (N:=4) (st:=λs x=>s++[x]) (di:=λk s=>s.length+k<=980000000) (λk s x h=>by simp only[al,ar,bD];omega) n k hn hk (λs=>by simp) (λs=>by simp) (λj s x h _=>aBK n k s x o_) acc o_;rw[afb]at h;rw[ba HD GP rfl];simp(disch:=omega)[rd,h]
def anA (n k:Int):(Dn prog).call JK [A_ n,A_ k] ⟨[],0⟩=some (.fn oL [] [.ptr 1 0,.ptr 0 0],⟨[(0,.cells [A_ n]),(1,.cells [A_ k])],2⟩):=by
 rw[ba S5 Tm rfl];simp(disch:=omega)
abbrev qt (n s:Int):Prop:=(0<=s∧s<=31)∧0<=n∧n.toNat<2 ^ s.toNat
def K5 (x:AV)(b:C_)(hb:b.length<=1000000000)(hx:elems [] x=some (ak b)):bq prog mR [x]=some (.own true 1 (ak b)):=by
 have hl:(ak b).length=b.length:=by simp[ak]
 rw[aU LZ Mj rfl];have h4:Nat.ble b.length 4294967296=true:=by rw[bg];omega
 rw[im];simp(disch:=omega)[cT,LE,hx,h4]
def mp (b:C_)(n s:Int)(hb:b.length<=900000000)(hn:i64 n)(x:AV)(hx:x=.d (.lst (ak b))∨x=.nl∧b=[]):bq prog By [x,A_ n,A_ s] =
  if qt n s then some (.tup [.own true 1 (ak (b++au n.toNat s.toNat)),A_ 0]) else some (.tup [.nl,A_ 2]):=by
 have hc:bq prog mR [x]=some (.own true 1 (ak b)):=by
  refine K5 x b o_ ?_;rcases hx with rfl|⟨rfl,rfl⟩<;>rfl
 rw[aU akm alY rfl];by_cases h1:0<=s∧s<=31
 .obtain⟨S,rfl⟩:=aA h1.1;by_cases h2:n<0
  .rw[aa (by simp only[qt];omega)];simp(disch:=omega)[wR,↓ac,↓aa]
  .obtain⟨M,rfl⟩:=aA (Int.not_lt.1 h2);have h3:=akF (n:=M) (k:=S) o_;by_cases h4:M<2 ^ S
   .rw[ac (by simp only[qt,aq];omega)];rw[iy h4]at h3;have h5:=YA b M S o_ o_ hb;rcases hx with rfl|⟨rfl,rfl⟩
    .simp(disch:=omega)[wR,↓ac,↓aa,-ku,h3,hc,anA,h5]
    .simp(disch:=omega)[wR,↓ac,↓aa,-ku,h3,hc,anA,h5]
   .rw[aa (by simp only[qt,aq];omega)];have h6:M / 2 ^ S≠0:=by
     intro h;rcases Nat.div_eq_zero_iff.1 h with h|h
     .have:=bM S;omega
     .exact h4 h
    have h7:¬(((M / 2 ^ S:Nat):Int)=0):=o_;generalize M / 2 ^ S=Q at *;simp(disch:=omega)[wR,↓ac,↓aa,-ku,h3]
 .rw[aa (by simp only[qt];omega)];simp(disch:=omega)[wR,↓ac,↓aa]
def UW:∀{l:C_}{g:G_}{t:Int},g≠[]->(∀n∈g,0<=n∧n+l.length<=t)->1+l.length<=t->∀n∈grow g l,0<=n∧n<=t
 |[],g,t,h0,h,ht,n,hn=>by grind [grow]
 |x::r,g,t,h0,h,ht,n,hn=>by
  rw[grow]at hn;have hl:=bH.2 h0;simp only[ar]at h ht;by_cases hx:x=1
  .have h1:=h _ (iP (l:=g) (i:=g.length-1) o_);refine UW (l:=r) (t:=t) (λh2=>?_) (λy hy=>?_) o_ n hn
   all_goals grind [List.length_nil]
  .rw[aa hx]at hn;refine UW (l:=r) (t:=t) s_ (λy hy=>?_) o_ n hn
   grind
def afA:∀{l:C_}{g:G_},(grow g l).length<=g.length+l.length
 |[],g=>by simp[grow]
 |x::r,g=>by
  rw[grow];have:=afA (l:=r) (g:=if x=1 then g.set (g.length-1) (nth g (g.length-1)+1) else g++[1])
  grind
def WF {b:C_}:∀{k:Nat}{st:RS},(sL b k st).length=k
 |0,_=>rfl
 |k+1,_=>by simp[sL,WF (k:=k)]
def TQ (r m:Int)(q s:Nat)(g:G_)(hq:q<=255)(hs:s<=255)(hm:i64 m)(hg:g.length<=100)(h:∀n∈g,0<=n∧n<=100):bq prog vX [A_ r,.agg [.d (.int .u8 q),.d (.int .u8 s),A_ m,.d (.lst (aF g))]]=if dP r then if aM.may r.toNat ⟨q,s,m,g⟩ then some (A_ 0) else some (A_ 8) else some (A_ 2) :=
 wT r ⟨q,s,m,g⟩ ⟨hq,hs,hm,d_,λn hn=>by grind⟩
def sG (b:C_)(st:RS):G_:=grow [1] (sL b 7 st)
def aeq {b:C_}{st:RS}:4<=nm (sG b st)∧(sG b st).length<=100∧∀n∈sG b st,0<=n∧n<=100:=by
 have h1:=afA (l:=sL b 7 st) (g:=[1]);rw[WF]at h1;have h2:=UW (l:=sL b 7 st) (g:=[1]) (t:=100) s_ (by simp[WF]) (by rw[WF];omega);refine⟨?_,by grind [sG],h2⟩;have:sG b st≠[]:=by
  unfold sG;have:∀(l:C_) (g:G_),g≠[]->grow g l≠[]:=by
   intro l
   induction l<;>grind [grow]
  simp_all
 exact aBq this
def ail (b:C_)(r o m:Int)(q s:Nat)(st:RS)(hb:b.length<=1000000000)(hs:st.fit) :
  (Dn prog).code (.loop tB) ⟨[(2,AV.d (D.int IntKind.i64 r)),(6,AV.ptr 1 0),(7,AV.ptr 2 0),(8,AV.ptr 3 0),
           (9,AV.fn vu [] [AV.ptr 3 0,AV.ptr 0 0,AV.ptr 2 0]),(10,A_ o),(40,A_ 0)],⟨[(0,.cells [.d (.lst (ak b))]),(1,.cells [.d (.int .u8 q),.d (.int .u8 s),A_ m,.sl 4 0 1]),(2,.cells [A_ (ra st)]),(3,.cells [A_ (re st)]),(4,.arr 1 [[.int .i64 1]])],5⟩⟩ =
   some (.exit 0,⟨[(2,AV.d (D.int IntKind.i64 r)),(6,AV.ptr 1 0),(7,AV.ptr 2 0),(8,AV.ptr 3 0),(10,A_ o)],⟨[(0,.cells [.d (.lst (ak b))]),(1,.cells [.d (.int .u8 q),.d (.int .u8 s),A_ m,.sl (nm (sG b st)) 0 (sG b st).length]),
           (2,.cells [A_ (ra (I0 b 7 st))]),(3,.cells [A_ (re (I0 b 7 st))]),(nm (sG b st),.arr 1 (aF (sG b st)))],4+(sG b st).length⟩⟩) :=
 ahs b r o m q s hb 7 0 [1] st 0 rfl rfl s_ s_ s_ hs
def afC {b:C_}{st:RS}:sV b st 1<=1:=by have:=uL (b:=b) (st:=st) (s:=1);grind
def avB {b:C_}{st:RS}:sV b st 2<=3:=by have:=uL (b:=b) (st:=st) (s:=2);grind
def aAR {b:C_}{st:RS}:sV b st 4<=15:=by have:=uL (b:=b) (st:=st) (s:=4);grind
def aBg {b:C_}{st:RS}:sV b st 6<=63:=by have:=uL (b:=b) (st:=st) (s:=6);grind
def azn {a:Int}:ra ⟨a,0⟩=a:=rfl
def azv {a:Int}:re ⟨a,0⟩=0:=rfl
def Tk (b:C_)(s a:Int)(X:Obj)(R:am)(N:Nat)(hb:b.length<=1000000000)(ha:i64 a):(Dn prog).call vu [A_ s,.ptr 3 0,.ptr 0 0,.ptr 2 0] ⟨(0,.cells [.d (.lst (ak b))])::(1,X)::(2,.cells [A_ a])::(3,.cells [A_ 0])::R,N⟩ =
  some (A_ (sV b ⟨a,0⟩ s),⟨(0,.cells [.d (.lst (ak b))])::(1,X)::(2,.cells [A_ (ra (sN b ⟨a,0⟩ s))])::(3,.cells [A_ (re (sN b ⟨a,0⟩ s))])::R,N⟩) :=
 Aj b s ⟨a,0⟩ X R N hb ha
def R.bind {α β:Type}(x:R α)(f:α->Nat->R β):R β :=
 match x with
 |.ok v n=>f v n
 |.er e=>.er e
@[simp] theorem ax {α β:Type}{v:α}{n:Nat}{f:α->Nat->R β}:R.bind (.ok v n) f=f v n:=rfl
@[simp] theorem co {α β:Type}{e:Nat}{f:α->Nat->R β}:R.bind (.er e) f=.er e:=rfl
def Qa {α:Type}(c:Prop)[Decidable c](v:α)(n:Nat):R α:=if c then .ok v n else .er 7
def ya (b:C_):Nat->Nat->R C_
 |0,a=>.ok [] a
 |k+1,a=>(bb b a 1).bind λv n=>(ya b k n).bind λl m=>.ok (v::l) m
def l8 (b:C_)(a:Int)(r:Nat):R aM :=
 (bb b a 1).bind λo n=>(bb b n 2).bind λq n=>(bb b n 1).bind λs n =>
 if q=2 then (bb b n 4).bind λm n=>(ya b 7 n).bind λl n=>Qa (o=0∧aM.may r ⟨q,s,m,grow [1] l⟩) ⟨q,s,m,grow [1] l⟩ n
 else (bb b n 6).bind λm n=>(bb b n 1).bind λp n=>Qa ((o=0∧p=0)∧aM.may r ⟨q,s,m,[1]⟩) ⟨q,s,m,[1]⟩ n
def jG {b:C_}{a s:Int}{v n:Nat}(h:bb b a s=.ok v n):sV b ⟨a,0⟩ s=v∧sN b ⟨a,0⟩ s=⟨n,0⟩:=by
 grind [sV,sN,vO,nO,eO]
def Be {b:C_}{a s:Int}{e:Nat}(h:bb b a s=.er e):sV b ⟨a,0⟩ s=0∧sN b ⟨a,0⟩ s=⟨0,e+1⟩:=by
 grind [sV,sN,vO,nO,eO]
def U3 {b:C_}{a s:Int}{e:Nat}:sV b ⟨a,e+1⟩ s=0∧sN b ⟨a,e+1⟩ s=⟨a,e+1⟩:=by
 grind [sV,sN]
def adk {b:C_}{a:Int}{e:Nat}:∀{k:Nat},I0 b k ⟨a,e+1⟩=⟨a,e+1⟩
 |0=>rfl
 |k+1=>by rw[I0,U3.2,adk]
def awK {b:C_}:∀{k a:Nat},match ya b k a with
  |.ok l n=>sL b k ⟨a,0⟩=l∧I0 b k ⟨a,0⟩=⟨n,0⟩∧(0<k->n<=b.length)
  |.er e=>I0 b k ⟨a,0⟩=⟨0,e+1⟩
 |0,a=>⟨rfl,rfl,λh=>absurd h o_⟩
 |k+1,a=>by
  simp only[ya,sL,I0]
  cases h:bb b a 1 with
  |ok v n =>
   have hp:=(dU h).2;rw[(jG h).1,(jG h).2,ax];have ih:=awK (b:=b) (k:=k) (a:=n)
   cases h2:ya b k n with
   |ok l m =>
    rw[h2]at ih;refine⟨by rw[ih.1],ih.2.1,λ_=>?_⟩
    cases k<;>grind [ya]
   |er e=>simp_all
  |er e=>simp_all [Be,adk]
abbrev Ud:D_:=[.d (.int .u8 0),.d (.int .u8 0),A_ 0,.nl]
abbrev P4 (i:aM):D_:=[.d (.int .u8 i.seq),.d (.int .u8 i.shape),A_ i.max,.own true 1 (aF i.groups)]
set_option maxHeartbeats 4000000 in
def aoC (b:C_)(a r:Int)(hb:b.length<=1000000000)(ha:i64 a)(hr:dP r)(s1 s2 s3 s4:RS)(e1:s1=sN b ⟨a,0⟩ 1)(e2:s2=sN b s1 2)(e3:s3=sN b s2 1)(e4:s4=sN b s3 4)(hq:sV b s1 2=2):bq prog Bo [.d (.lst (ak b)),A_ a,A_ r] =
  if re (I0 b 7 s4)=0 then if sV b ⟨a,0⟩ 1=0∧aM.may r.toNat ⟨sV b s1 2,sV b s2 1,sV b s3 4,sG b s4⟩ then some (.tup [.agg (P4 ⟨sV b s1 2,sV b s2 1,sV b s3 4,sG b s4⟩),A_ (ra (I0 b 7 s4)),A_ 0])
   else some (.tup [.agg Ud,A_ 0,A_ 8])
  else some (.tup [.agg Ud,A_ 0,A_ (re (I0 b 7 s4))]):=by
 rw[aU Md L3 rfl];have f1:s1.fit:=e1▸fN hb ha;have f2:s2.fit:=e2▸fN hb f1;have f3:s3.fit:=e3▸fN hb f2;have f4:s4.fit:=e4▸fN hb f3;have v1:=afC (b:=b) (st:=⟨a,0⟩);have v2:=avB (b:=b) (st:=s1);have v3:=afC (b:=b) (st:=s2);have v4:=aAR (b:=b) (st:=s3);obtain⟨g1,g2,g3⟩:=aeq (b:=b) (st:=s4);simp(maxSteps:=300000) (disch:=first|omega|assumption) [ka,↓ac,↓aa,Aj,Tk,ail,TQ,<-e1,<-e2,<-e3,<-e4,VT,anX]
set_option maxHeartbeats 4000000 in
def aoU (b:C_)(a r:Int)(hb:b.length<=1000000000)(ha:i64 a)(hr:dP r)(s1 s2 s3 s4 s5:RS)(e1:s1=sN b ⟨a,0⟩ 1)(e2:s2=sN b s1 2)(e3:s3=sN b s2 1)(e4:s4=sN b s3 6)(e5:s5=sN b s4 1)(hq:sV b s1 2≠2):bq prog Bo [.d (.lst (ak b)),A_ a,A_ r] =
  if re s5=0 then if (sV b ⟨a,0⟩ 1=0∧sV b s4 1=0)∧aM.may r.toNat ⟨sV b s1 2,sV b s2 1,sV b s3 6,[1]⟩ then some (.tup [.agg (P4 ⟨sV b s1 2,sV b s2 1,sV b s3 6,[1]⟩),A_ (ra s5),A_ 0])
   else some (.tup [.agg Ud,A_ 0,A_ 8])
  else some (.tup [.agg Ud,A_ 0,A_ (re s5)]):=by
 rw[aU Md L3 rfl];have f1:s1.fit:=e1▸fN hb ha;have f2:s2.fit:=e2▸fN hb f1;have f3:s3.fit:=e3▸fN hb f2;have f4:s4.fit:=e4▸fN hb f3;have v1:=afC (b:=b) (st:=⟨a,0⟩);have v2:=avB (b:=b) (st:=s1);have v3:=afC (b:=b) (st:=s2);have v4:=aBg (b:=b) (st:=s3);have v5:=afC (b:=b) (st:=s4);have hc:=TQ r (sV b s3 6) (sV b s1 2) (sV b s2 1) [1] o_ o_ o_ s_ s_;have h1:aF [1]=[[.int .i64 1]]:=rfl;rw[h1]at hc;simp(maxSteps:=300000) (disch:=first|omega|assumption) [ka,↓ac,↓aa,Aj,Tk,hc,<-e1,<-e2,<-e3,<-e4,<-e5,VT,anX,aF];rfl
abbrev pI (b:C_)(r:Nat)(i:aM)(n:Nat):Prop:=i.may r∧n<=b.length∧i.groups.length<=100
theorem ajZ {α γ:Type}{p:α->Nat->Prop}{c:Prop}[Decidable c]{v:α}{n:Nat}{f:α->Nat->γ}{g:Nat->γ}(h:c->p v n):rK p (Qa c v n) f g=if c then f v n else g 7:=by
 grind [Qa,eD,ie]
def Ua (b:C_)(a r:Int)(hb:b.length<=1000000000)(ha:i64 a):bq prog Bo [.d (.lst (ak b)),A_ a,A_ r] =
  if dP r then rK (pI b r.toNat) (l8 b a r.toNat) (λi n=>some (.tup [.agg (P4 i),A_ n,A_ 0])) λe=>some (.tup [.agg Ud,A_ 0,A_ (e+1)])
  else some (.tup [.agg Ud,A_ 0,A_ 2]):=by
 by_cases hr:dP r
 .rw[ac hr];unfold l8;by_cases hq:sV b (sN b ⟨a,0⟩ 1) 2=2
  .rw[aoC b a r hb ha hr _ _ _ _ rfl rfl rfl rfl hq]
   cases h1:bb b a 1 with
   |er e=>simp_all [Be,U3]
   |ok o n =>
    rw[(jG h1).2]at hq⊢;rw[(jG h1).1,ax]
    cases h2:bb b n 2 with
    |er e=>simp_all [Be]
    |ok q n =>
     rw[(jG h2).1]at hq⊢;rw[(jG h2).2,ax]
     cases h3:bb b n 1 with
     |er e=>simp_all [Be,U3,adk,re]
     |ok s n =>
      rw[(jG h3).2,(jG h3).1,ax,ac hq]
      cases h4:bb b n 4 with
      |er e=>simp_all [Be,adk,re]
      |ok m n =>
       rw[(jG h4).2,(jG h4).1,ax];have h5:=awK (b:=b) (k:=7) (a:=n);have h6:=(aeq (b:=b) (st:=⟨n,0⟩)).2.1;unfold sG at h6⊢
       cases h7:ya b 7 n with
       |er e=>simp_all [re]
       |ok l n =>
        grind [ax,ajZ,re,ra]
  .rw[aoU b a r hb ha hr _ _ _ _ _ rfl rfl rfl rfl rfl hq]
   cases h1:bb b a 1 with
   |er e=>simp_all [Be,U3,re]
   |ok o n =>
    rw[(jG h1).2]at hq⊢;rw[(jG h1).1,ax]
    cases h2:bb b n 2 with
    |er e=>simp_all [Be,U3,re]
    |ok q n =>
     rw[(jG h2).1]at hq⊢;rw[(jG h2).2,ax]
     cases h3:bb b n 1 with
     |er e=>simp_all [Be,U3,re]
     |ok s n =>
      rw[(jG h3).2,(jG h3).1,ax,aa hq]
      cases h4:bb b n 6 with
      |er e=>simp_all [Be,U3,re]
      |ok m n =>
       rw[(jG h4).2,(jG h4).1,ax]
       cases h5:bb b n 1 with
       |er e=>simp_all [Be,re]
       |ok p n =>
        rw[(jG h5).2,(jG h5).1,ax,ajZ (λh=>⟨h.2,(dU h5).2,s_⟩)];simp[re,ra]
 .rw[aa hr,aU Md L3 rfl];simp(disch:=first|omega|assumption) [ka,↓aa]
abbrev bm:=@Nat.succ_ne_zero
def mA (b:C_):Nat->Nat->R C_
 |0,a=>.ok [] a
 |k+1,a=>(bb b a 8).bind λx n=>(mA b k n).bind λl m=>.ok (x::l) m
def Ap (b:C_)(a:Nat):R C_ :=
 (bb b a 3).bind λx n=>if x=6 then (bb b n 4).bind λk m=>if k=0 then .er 7 else
  (if k=15 then (bb b m 8).bind λy m2=>if y=0 then .er 7 else .ok (y+14) m2 else .ok k m).bind λk m =>
  (mA b k m).bind λl m=>(bb b m 3).bind λz m=>if z=7 then .ok l m else .er 7
 else if x=7 then .ok [] n else .er 7
def Lk {α:Type}(r:R α)(P:α->Prop)(s:Nat×Nat):Prop:=match r with
 |.ok v n=>P v∧s=(n,0)
 |.er e=>s.2=e+1
def nR {b:C_}{a v n:Nat}{k:Int}(h:bb b a k=.ok v n):gT b (a,0) k=(v,n,0):=by
 unfold gT;simp only[h,bc]
def xX {b:C_}{a e:Nat}{k:Int}(h:bb b a k=.er e):gT b (a,0) k=(0,a,e+1):=by
 unfold gT;simp only[h,bc]
def tW {b:C_}{s:Nat×Nat}{k:Int}(h:s.2≠0):gT b s k=(0,s):=by
 unfold gT;rw[aa h]
def Je {s:Nat×Nat}{c:Prop}[Decidable c](h:c):kT s c=s:=by unfold kT;rw[aa (λh2=>h2.2 h)]
def Mk {a:Nat}{c:Prop}[Decidable c](h:¬c):kT (a,0) c=(a,8):=by unfold kT;rw[ac ⟨rfl,h⟩]
def kL {s:Nat×Nat}{c:Prop}[Decidable c](h:s.2≠0):kT s c=s:=by unfold kT;rw[aa (λh2=>h h2.1)]
section
variable {hp:D_->am}{p:Nat}(H:Hr hp p)(b:C_)(hb:b.length<=1000000000)
include H hb
theorem TC (s:Nat×Nat)(hs:s.2≠0)(x:AV)(n i:Int)(hi:i<n)(N:Nat) :
  (Dn prog).code (.loop dg) ⟨[(0,.ptr p 0),(2,x),(27,A_ n),(28,A_ i)],⟨hp (cK b s),N⟩⟩ =
  some (.ret,⟨[(2,.nl),(3,A_ 0)],⟨hp (cK b s),N⟩⟩):=by
 obtain⟨a,e⟩:=s;simp only at hs;rw[ah pT];simp only[cK];simp(maxSteps:=300000) (disch:=omega)[↓ac,↓aa,H.get,H.put,hs]
theorem ahU (s:Nat×Nat)(hs:s.2=0)(ha:s.1<=b.length)(l:C_)(hl:l.length<=1000)(n i:Int)(hi:i<n)(hn:n<=1000)(h0:0<=i)(N:Nat) :
  (Dn prog).code (.loop dg) ⟨[(0,.ptr p 0),(2,aD 1 (ak l)),(27,A_ n),(28,A_ i)],⟨hp (cK b s),N⟩⟩ =
  (Dn prog).code (.loop dg) ⟨[(0,.ptr p 0),(2,aD 1 (ak (l++[(gT b s 8).1]))),(27,A_ n),(28,A_ (i+1))],⟨hp (cK b (gT b s 8).2),N⟩⟩:=by
 have h1:=fW H b hb s ha 8 N;have h2:(gT b s 8).1<2 ^ 8:=LV (k:=8) o_;have hl2:(ak l).length=l.length:=by simp[ak]
 obtain⟨a,e⟩:=s;simp only at hs ha;subst hs;generalize gT b (a,0) 8=g at *;obtain⟨x,s'⟩:=g;simp only at h1 h2⊢;rw[ah pT];have c0:((0:Nat):Int)=0:=rfl;have e:aD 1 (ak (l++[x]))=.own false 1 (ak (l++[x])):=kN (by simp[ak]);simp only[cK,c0]at h1⊢;rw[e]
 cases l with
 |nil =>
  simp(maxSteps:=300000) (disch:=omega)[↓ac,↓aa,H.get,H.put,h1]
 |cons y r =>
  simp(maxSteps:=300000) (disch:=omega)[↓ac,↓aa,H.get,H.put,h1]
theorem J5 (s:Nat×Nat)(x:AV)(n:Int)(N:Nat) :
  (Dn prog).code (.loop dg) ⟨[(0,.ptr p 0),(2,x),(27,A_ n),(28,A_ n)],⟨hp (cK b s),N⟩⟩ =
  some (.exit 3,⟨[(0,.ptr p 0),(2,x)],⟨hp (cK b s),N⟩⟩):=by
 rw[ah pT];simp(maxSteps:=300000) (disch:=omega)[↓ac,↓aa]
theorem ahI (n:Nat)(hn:n<=1000)(N:Nat):∀(k i a:Nat) (l:C_),i+k=n->a<=b.length->l.length=i->
  ∃(s:Nat×Nat) (w:C_),s.1<=b.length∧Lk (mA b k a) (λr=>w=l++r) s∧
  ((Dn prog).code (.loop dg) ⟨[(0,.ptr p 0),(2,aD 1 (ak l)),(27,A_ n),(28,A_ i)],⟨hp (cK b (a,0)),N⟩⟩=some (.exit 3,⟨[(0,.ptr p 0),(2,aD 1 (ak w))],⟨hp (cK b s),N⟩⟩)∨
   s.2≠0∧(Dn prog).code (.loop dg) ⟨[(0,.ptr p 0),(2,aD 1 (ak l)),(27,A_ n),(28,A_ i)],⟨hp (cK b (a,0)),N⟩⟩=some (.ret,⟨[(2,.nl),(3,A_ 0)],⟨hp (cK b s),N⟩⟩)):=by
 intro k
 induction k with
 |zero =>
  intro i a l hi ha hl;have:i=n:=o_;subst this;exact⟨(a,0),l,ha,⟨s_,rfl⟩,.inl (J5 H b hb _ _ _ N)⟩
 |succ k ih =>
  intro i a l hi ha hl;have hs:=ahU H b hb (a,0) rfl ha l o_ n i o_ o_ o_ N;rw[mA]
  cases e:bb b a 8 with
  |ok x m =>
   rw[nR e]at hs;obtain⟨s,w,h1,h2,h3⟩:=ih (i+1) m (l++[x]) o_ (dU e).2 g_;refine⟨s,w,h1,?_,?_⟩
   .rw[ax]
    cases e2:mA b k m with
    |ok r q=>rw[e2]at h2;exact⟨by rw[h2.1,ay];rfl,h2.2⟩
    |er q=>rw[e2]at h2;exact h2
   .rw[hs];exact h3
  |er e0 =>
   rw[xX e]at hs;refine⟨(a,e0+1),l++[0],ha,rfl,?_⟩;rw[hs];by_cases hk:k=0
   .have:((i:Int)+1)=n:=o_;rw[this];exact .inl (J5 H b hb _ _ _ N)
   .exact .inr ⟨bm _,TC H b hb _ (bm _) _ _ _ o_ N⟩
end
section
variable {hp:D_->am}{p:Nat}(H:Hr hp p)(b:C_)(hb:b.length<=1000000000)
include H hb
abbrev El (hp:D_->am)(p:Nat)(b:C_)(a:Nat)(N:Nat)(w:C_)(x:Int)(s:Nat×Nat):Prop :=
 (Dn prog).call uc [.ptr p 0] ⟨hp (cK b (a,0)),N⟩=some (.tup [aD 1 (ak w),A_ x],⟨hp (cK b s),N⟩)
theorem aaM (a:Nat)(ha:a<=b.length)(N:Nat)(h6:(gT b (a,0) 3).1≠6):El hp p b a N [] (gT b (a,0) 3).1 (kT (gT b (a,0) 3).2 (((gT b (a,0) 3).1:Int)=7)):=by
 have h1:=fW H b hb (a,0) ha 3 N;have h2:=mc H b (gT b (a,0) 3).2 (((gT b (a,0) 3).1:Int)=7) N;have e:aD 1 (ak [])=.nl:=rfl;have c0:((0:Nat):Int)=0:=rfl;unfold El;generalize gT b (a,0) 3=g at *;obtain⟨x,s⟩:=g;simp only at h1 h2 h6⊢;generalize kT s ((x:Int)=7)=s2 at *;rw[ba ky kz rfl,e];simp only[cK,c0]at h1 h2⊢;by_cases h7:(x:Int)=7
 .rw[decide_eq_true h7]at h2;simp(maxSteps:=300000) (disch:=omega)[↓ac,↓aa,h1,h2]
 .rw[decide_eq_false h7]at h2;simp(maxSteps:=300000) (disch:=omega)[↓ac,↓aa,h1,h2]
abbrev sA (b:C_)(a:Nat):Nat×Nat:=(gT b (a,0) 3).2
abbrev vB (b:C_)(a:Nat):Nat:=(gT b (sA b a) 4).1
abbrev sB (b:C_)(a:Nat):Nat×Nat:=kT (gT b (sA b a) 4).2 ((0:Int)<(vB b a:Int))
abbrev vC (b:C_)(a:Nat):Nat:=(gT b (sB b a) 8).1
abbrev sC (b:C_)(a:Nat):Nat×Nat:=kT (gT b (sB b a) 8).2 ((0:Int)<(vC b a:Int))
abbrev RW (hp:D_->am)(p:Nat)(b:C_)(N:Nat)(n:Int)(s0:Nat×Nat)(s:Nat×Nat)(w:C_):Prop :=
 (Dn prog).code (.loop dg) ⟨[(0,.ptr p 0),(2,.nl),(27,A_ n),(28,A_ 0)],⟨hp (cK b s0),N⟩⟩=some (.exit 3,⟨[(0,.ptr p 0),(2,aD 1 (ak w))],⟨hp (cK b s),N⟩⟩)
abbrev WE (hp:D_->am)(p:Nat)(b:C_)(N:Nat)(n:Int)(s0:Nat×Nat)(s:Nat×Nat):Prop :=
 (Dn prog).code (.loop dg) ⟨[(0,.ptr p 0),(2,.nl),(27,A_ n),(28,A_ 0)],⟨hp (cK b s0),N⟩⟩=some (.ret,⟨[(2,.nl),(3,A_ 0)],⟨hp (cK b s),N⟩⟩)
theorem aqR (a:Nat)(ha:a<=b.length)(N:Nat)(h6:(gT b (a,0) 3).1=6)(h15:vB b a≠15)(s:Nat×Nat)(hs:s.1<=b.length)(w:C_)(hl:RW hp p b N (vB b a) (sB b a) s w) :
  El hp p b a N w (gT b s 3).1 (kT (gT b s 3).2 (((gT b s 3).1:Int)=7)):=by
 have h1:=fW H b hb (a,0) ha 3 N;have hA:(sA b a).1<=b.length:=qz ha;have hB:(sB b a).1<=b.length:=FZ (qz hA);have h2:=fW H b hb (sA b a) hA 4 N;have h3:=mc H b (gT b (sA b a) 4).2 ((0:Int)<(vB b a:Int)) N;have hv:vB b a<2 ^ 4:=LV (k:=4) o_;have h4:=fW H b hb s hs 3 N;have h5:=mc H b (gT b s 3).2 (((gT b s 3).1:Int)=7) N;have c0:((0:Nat):Int)=0:=rfl;have e0:aD 1 (ak [])=.nl:=rfl;unfold El;unfold RW at hl;unfold sB vB sA at *;generalize gT b (a,0) 3=g1 at *;obtain⟨x1,s1⟩:=g1;simp only at *;generalize gT b s1 4=g2 at *;obtain⟨x2,s2⟩:=g2;simp only at *;generalize kT s2 ((0:Int)<(x2:Int))=s3 at *;generalize gT b s 3=g4 at *;obtain⟨x4,s4⟩:=g4;simp only at *;generalize kT s4 ((x4:Int)=7)=s5 at *;subst h6;rw[ba ky kz rfl];have c6:((6:Nat):Int)=6:=rfl;simp only[cK,c0,c6]at h1 h2 h3 h4 h5 hl⊢;by_cases h7:(x4:Int)=7
 .rw[decide_eq_true h7]at h5;by_cases h0:(0:Int)<(x2:Int)
  .rw[decide_eq_true h0]at h3;simp(maxSteps:=300000) (disch:=omega)[↓ac,↓aa,h1,h2,h3,h4,h5,hl]
  .rw[decide_eq_false h0]at h3;simp(maxSteps:=300000) (disch:=omega)[↓ac,↓aa,h1,h2,h3,h4,h5,hl]
 .rw[decide_eq_false h7]at h5;by_cases h0:(0:Int)<(x2:Int)
  .rw[decide_eq_true h0]at h3;simp(maxSteps:=300000) (disch:=omega)[↓ac,↓aa,h1,h2,h3,h4,h5,hl]
  .rw[decide_eq_false h0]at h3;simp(maxSteps:=300000) (disch:=omega)[↓ac,↓aa,h1,h2,h3,h4,h5,hl]
theorem aqx (a:Nat)(ha:a<=b.length)(N:Nat)(h6:(gT b (a,0) 3).1=6)(h15:vB b a≠15)(s:Nat×Nat)(hl:WE hp p b N (vB b a) (sB b a) s) :
  El hp p b a N [] 0 s:=by
 have h1:=fW H b hb (a,0) ha 3 N;have hA:(sA b a).1<=b.length:=qz ha;have hB:(sB b a).1<=b.length:=FZ (qz hA);have h2:=fW H b hb (sA b a) hA 4 N;have h3:=mc H b (gT b (sA b a) 4).2 ((0:Int)<(vB b a:Int)) N;have hv:vB b a<2 ^ 4:=LV (k:=4) o_;have c0:((0:Nat):Int)=0:=rfl;have e0:aD 1 (ak [])=.nl:=rfl;unfold El;unfold WE at hl;unfold sB vB sA at *;generalize gT b (a,0) 3=g1 at *;obtain⟨x1,s1⟩:=g1;simp only at *;generalize gT b s1 4=g2 at *;obtain⟨x2,s2⟩:=g2;simp only at *;generalize kT s2 ((0:Int)<(x2:Int))=s3 at *;subst h6;rw[ba ky kz rfl];have c6:((6:Nat):Int)=6:=rfl;simp only[cK,c0,c6,e0]at h1 h2 h3 hl⊢;by_cases h0:(0:Int)<(x2:Int)
 .rw[decide_eq_true h0]at h3;simp(maxSteps:=300000) (disch:=omega)[↓ac,↓aa,h1,h2,h3,hl]
 .rw[decide_eq_false h0]at h3;simp(maxSteps:=300000) (disch:=omega)[↓ac,↓aa,h1,h2,h3,hl]
theorem al8 (a:Nat)(ha:a<=b.length)(N:Nat)(h6:(gT b (a,0) 3).1=6)(h15:vB b a=15)(s:Nat×Nat)(hs:s.1<=b.length)(w:C_)(hl:RW hp p b N ((vC b a+14:Nat):Int) (sC b a) s w) :
  El hp p b a N w (gT b s 3).1 (kT (gT b s 3).2 (((gT b s 3).1:Int)=7)):=by
 have h1:=fW H b hb (a,0) ha 3 N;have hA:(sA b a).1<=b.length:=qz ha;have hB:(sB b a).1<=b.length:=FZ (qz hA);have h2:=fW H b hb (sA b a) hA 4 N;have h3:=mc H b (gT b (sA b a) 4).2 ((0:Int)<(vB b a:Int)) N;have hv:vB b a<2 ^ 4:=LV (k:=4) o_;have h8:=fW H b hb (sB b a) hB 8 N;have h9:=mc H b (gT b (sB b a) 8).2 ((0:Int)<(vC b a:Int)) N;have hw:vC b a<2 ^ 8:=LV (k:=8) o_;have h4:=fW H b hb s hs 3 N;have h5:=mc H b (gT b s 3).2 (((gT b s 3).1:Int)=7) N;have c0:((0:Nat):Int)=0:=rfl;have e0:aD 1 (ak [])=.nl:=rfl;unfold El;unfold RW at hl;unfold sC vC sB vB sA at *;generalize gT b (a,0) 3=g1 at *;obtain⟨x1,s1⟩:=g1;simp only at *;generalize gT b s1 4=g2 at *;obtain⟨x2,s2⟩:=g2;simp only at *;generalize kT s2 ((0:Int)<(x2:Int))=s3 at *;generalize gT b s3 8=g3 at *;obtain⟨x3,s6⟩:=g3;simp only at *;generalize kT s6 ((0:Int)<(x3:Int))=s7 at *;generalize gT b s 3=g4 at *;obtain⟨x4,s4⟩:=g4;simp only at *;generalize kT s4 ((x4:Int)=7)=s5 at *;subst h6;subst h15;rw[ba ky kz rfl];have c6:((6:Nat):Int)=6:=rfl;have c15:((15:Nat):Int)=15:=rfl;have c14:((x3+14:Nat):Int)=(x3:Int)+14:=rfl;have h0:(0:Int)<((15:Nat):Int):=o_;rw[decide_eq_true h0]at h3;simp only[cK,c0,c6,c15,c14]at h1 h2 h3 h8 h9 h4 h5 hl⊢;by_cases h7:(x4:Int)=7
 .rw[decide_eq_true h7]at h5;by_cases ha:(0:Int)<(x3:Int)
  .rw[decide_eq_true ha]at h9;simp(maxSteps:=300000) (disch:=omega)[↓ac,↓aa,h1,h2,h3,h8,h9,h4,h5,hl]
  .rw[decide_eq_false ha]at h9;simp(maxSteps:=300000) (disch:=omega)[↓ac,↓aa,h1,h2,h3,h8,h9,h4,h5,hl]
 .rw[decide_eq_false h7]at h5;by_cases ha:(0:Int)<(x3:Int)
  .rw[decide_eq_true ha]at h9;simp(maxSteps:=300000) (disch:=omega)[↓ac,↓aa,h1,h2,h3,h8,h9,h4,h5,hl]
  .rw[decide_eq_false ha]at h9;simp(maxSteps:=300000) (disch:=omega)[↓ac,↓aa,h1,h2,h3,h8,h9,h4,h5,hl]
theorem akv (a:Nat)(ha:a<=b.length)(N:Nat)(h6:(gT b (a,0) 3).1=6)(h15:vB b a=15)(s:Nat×Nat)(hl:WE hp p b N ((vC b a+14:Nat):Int) (sC b a) s) :
  El hp p b a N [] 0 s:=by
 have h1:=fW H b hb (a,0) ha 3 N;have hA:(sA b a).1<=b.length:=qz ha;have hB:(sB b a).1<=b.length:=FZ (qz hA);have h2:=fW H b hb (sA b a) hA 4 N;have h3:=mc H b (gT b (sA b a) 4).2 ((0:Int)<(vB b a:Int)) N;have hv:vB b a<2 ^ 4:=LV (k:=4) o_;have h8:=fW H b hb (sB b a) hB 8 N;have h9:=mc H b (gT b (sB b a) 8).2 ((0:Int)<(vC b a:Int)) N;have hw:vC b a<2 ^ 8:=LV (k:=8) o_;have c0:((0:Nat):Int)=0:=rfl;have e0:aD 1 (ak [])=.nl:=rfl;unfold El;unfold WE at hl;unfold sC vC sB vB sA at *;generalize gT b (a,0) 3=g1 at *;obtain⟨x1,s1⟩:=g1;simp only at *;generalize gT b s1 4=g2 at *;obtain⟨x2,s2⟩:=g2;simp only at *;generalize kT s2 ((0:Int)<(x2:Int))=s3 at *;generalize gT b s3 8=g3 at *;obtain⟨x3,s6⟩:=g3;simp only at *;generalize kT s6 ((0:Int)<(x3:Int))=s7 at *;subst h6;subst h15;rw[ba ky kz rfl];have c6:((6:Nat):Int)=6:=rfl;have c15:((15:Nat):Int)=15:=rfl;have c14:((x3+14:Nat):Int)=(x3:Int)+14:=rfl;have h0:(0:Int)<((15:Nat):Int):=o_;rw[decide_eq_true h0]at h3;simp only[cK,c0,c6,c15,c14,e0]at h1 h2 h3 h8 h9 hl⊢;by_cases ha:(0:Int)<(x3:Int)
 .rw[decide_eq_true ha]at h9;simp(maxSteps:=300000) (disch:=omega)[↓ac,↓aa,h1,h2,h3,h8,h9,hl]
 .rw[decide_eq_false ha]at h9;simp(maxSteps:=300000) (disch:=omega)[↓ac,↓aa,h1,h2,h3,h8,h9,hl]
end
section
variable {hp:D_->am}{p:Nat}(H:Hr hp p)(b:C_)(hb:b.length<=1000000000)
include H hb
theorem anN {s:Nat×Nat}{l:C_}(hd:s.2≠0):kT (gT b s 3).2 (((gT b s 3).1:Int)=7)=s:=by
 rw[tW hd,kL hd]
theorem Qd (n:Nat)(hn:n<=1000)(N:Nat)(s0:Nat×Nat)(hs0:s0.1<=b.length) :
  ∃(s:Nat×Nat) (w:C_),s.1<=b.length∧(s0.2=0->Lk (mA b n s0.1) (λr=>w=r) s)∧(s0.2≠0->s=s0)∧(RW hp p b N n s0 s w∨s.2≠0∧WE hp p b N n s0 s):=by
 obtain⟨a,e⟩:=s0;have e0:aD 1 (ak [])=.nl:=rfl;by_cases he:e=0
 .subst he;obtain⟨s,w,h1,h2,h3⟩:=ahI H b hb n hn N n 0 a [] o_ hs0 rfl;refine⟨s,w,h1,λ_=>?_,λh=>absurd rfl h,?_⟩
  .simpa using h2
  .rw[e0]at h3;exact h3
 .by_cases h0:n=0
  .subst h0;exact⟨(a,e),[],hs0,λh=>absurd h he,λ_=>rfl,.inl (by have:=J5 H b hb (a,e) .nl 0 N;simpa [RW,e0] using this)⟩
  .exact⟨(a,e),[],hs0,λh=>absurd h he,λ_=>rfl,.inr ⟨he,TC H b hb (a,e) he .nl n 0 o_ N⟩⟩
theorem aop {n a:Nat}{s:Nat×Nat}{w:C_}(h:Lk (mA b n a) (λr=>w=r) s):Lk ((mA b n a).bind λl m=>(bb b m 3).bind λz m=>if z=7 then .ok l m else .er 7) (λl=>w=l) (kT (gT b s 3).2 (((gT b s 3).1:Int)=7)):=by
 cases e:mA b n a with
 |er q =>
  rw[e]at h;have hd:s.2≠0:=by simp only[Lk]at h;omega
  rw[tW hd,kL hd];exact h
 |ok l m =>
  rw[e]at h;obtain⟨rfl,rfl⟩:=h;rw[ax]
  cases e3:bb b m 3 with
  |er q =>
   rw[xX e3,kL (bm _)];exact rfl
  |ok z m2 =>
   rw[nR e3,ax];by_cases hz:z=7
   .rw[ac hz,Je t_];exact⟨rfl,rfl⟩
   .rw[aa hz,Mk t_];exact rfl
theorem alp (a:Nat)(ha:a<=b.length)(N:Nat):∃(w:C_) (x:Int) (s:Nat×Nat),El hp p b a N w x s∧Lk (Ap b a) (λl=>w=l) s:=by
 unfold Ap
 cases e1:bb b a 3 with
 |er q =>
  have h:=aaM H b hb a ha N (by rw[xX e1];simp);exact⟨_,_,_,h,by rw[xX e1,kL (bm _)];exact rfl⟩
 |ok x n =>
  rw[ax];by_cases h6:x=6
  rotate_left
  .have h:=aaM H b hb a ha N (by rw[nR e1];exact h6);refine⟨_,_,_,h,?_⟩;rw[nR e1,aa h6];by_cases h7:x=7
   .rw[ac h7,Je t_];exact⟨rfl,rfl⟩
   .rw[aa h7,Mk t_];exact rfl
  rw[ac h6];have hx:(gT b (a,0) 3).1=6:=by rw[nR e1];exact h6
  have hA:sA b a=(n,0):=by unfold sA;rw[nR e1]
  have hAl:(sA b a).1<=b.length:=qz ha;have hBl:(sB b a).1<=b.length:=FZ (qz hAl);have hCl:(sC b a).1<=b.length:=FZ (qz hBl);have hv:vB b a<2 ^ 4:=LV (k:=4) o_;have hw:vC b a<2 ^ 8:=LV (k:=8) o_;by_cases h15:vB b a=15
  .obtain⟨s,w,h1,h2,h3,h4⟩:=Qd H b hb (vC b a+14) o_ N (sC b a) hCl;have fin:Lk (((bb b n 4).bind λk m=>if k=0 then R.er 7 else
  (if k=15 then (bb b m 8).bind λy m2=>if y=0 then .er 7 else .ok (y+14) m2 else .ok k m).bind λk m =>
  (mA b k m).bind λl m=>(bb b m 3).bind λz m=>if z=7 then .ok l m else .er 7)) (λl=>w=l) (kT (gT b s 3).2 (((gT b s 3).1:Int)=7)):=by
    cases e2:bb b n 4 with
    |er q=>unfold vB at h15;rw[hA,xX e2]at h15;exact absurd h15 (by simp)
    |ok k m =>
     have hk:vB b a=k:=by unfold vB;rw[hA,nR e2]
     have hB:sB b a=(m,0):=by unfold sB;rw[Je o_,hA,nR e2]
     have hC:sC b a=kT (gT b (m,0) 8).2 ((0:Int)<((gT b (m,0) 8).1:Nat)):=by unfold sC vC;rw[hB]
     have hc:vC b a=(gT b (m,0) 8).1:=by unfold vC;rw[hB]
     rw[ax,aa o_,ac o_]
     cases e3:bb b m 8 with
     |er q =>
      rw[xX e3,kL (bm _)]at hC;rw[h3 (by rw[hC];exact bm _),hC,tW (bm _),kL (bm _)];exact rfl
     |ok y m2 =>
      rw[nR e3]at hC hc;simp only at hC hc;rw[ax];by_cases hy:y=0
      .rw[Mk o_]at hC;rw[ac hy,h3 (by rw[hC];simp),hC,tW s_,kL s_];exact rfl
      .rw[Je o_]at hC;rw[hC,hc]at h2;rw[aa hy,ax];exact aop H b hb (h2 rfl)
   rcases h4 with h4|⟨hd,h4⟩
   .exact⟨w,_,_,al8 H b hb a ha N hx h15 s h1 w h4,fin⟩
   .refine⟨[],_,_,akv H b hb a ha N hx h15 s h4,?_⟩;have this:=fin;rw[anN H b hb (l:=[]) hd]at this
    revert this
    generalize ((bb b n 4).bind λk m=>if k=0 then R.er 7 else
  (if k=15 then (bb b m 8).bind λy m2=>if y=0 then .er 7 else .ok (y+14) m2 else .ok k m).bind λk m =>
  (mA b k m).bind λl m=>(bb b m 3).bind λz m=>if z=7 then .ok l m else .er 7)=G
    intro this
    cases G with
    |er q=>exact this
    |ok v m=>exact absurd this.2 (λh=>hd (by rw[h]))
  .obtain⟨s,w,h1,h2,h3,h4⟩:=Qd H b hb (vB b a) o_ N (sB b a) hBl;have fin:Lk (((bb b n 4).bind λk m=>if k=0 then R.er 7 else
  (if k=15 then (bb b m 8).bind λy m2=>if y=0 then .er 7 else .ok (y+14) m2 else .ok k m).bind λk m =>
  (mA b k m).bind λl m=>(bb b m 3).bind λz m=>if z=7 then .ok l m else .er 7)) (λl=>w=l) (kT (gT b s 3).2 (((gT b s 3).1:Int)=7)):=by
    have hB:sB b a=kT (gT b (n,0) 4).2 ((0:Int)<((gT b (n,0) 4).1:Nat)):=by unfold sB vB;rw[hA]
    have hb1:vB b a=(gT b (n,0) 4).1:=by unfold vB;rw[hA]
    cases e2:bb b n 4 with
    |er q =>
     rw[xX e2,kL (bm _)]at hB;rw[h3 (by rw[hB];exact bm _),hB,tW (bm _),kL (bm _)];exact rfl
    |ok k m =>
     rw[nR e2]at hB hb1;simp only at hB hb1;rw[ax];by_cases hk:k=0
     .rw[Mk o_]at hB;rw[ac hk,h3 (by rw[hB];simp),hB,tW s_,kL s_];exact rfl
     .rw[Je o_]at hB;rw[hB,hb1]at h2;rw[aa hk,aa o_,ax];exact aop H b hb (h2 rfl)
   rcases h4 with h4|⟨hd,h4⟩
   .exact⟨w,_,_,aqR H b hb a ha N hx h15 s h1 w h4,fin⟩
   .refine⟨[],_,_,aqx H b hb a ha N hx h15 s h4,?_⟩;have this:=fin;rw[anN H b hb (l:=[]) hd]at this
    revert this
    generalize ((bb b n 4).bind λk m=>if k=0 then R.er 7 else
  (if k=15 then (bb b m 8).bind λy m2=>if y=0 then .er 7 else .ok (y+14) m2 else .ok k m).bind λk m =>
  (mA b k m).bind λl m=>(bb b m 3).bind λz m=>if z=7 then .ok l m else .er 7)=G
    intro this
    cases G with
    |er q=>exact this
    |ok v m=>exact absurd this.2 (λh=>hd (by rw[h]))
end
abbrev j7:=@List.sum_cons
structure Hv (hp:AV->am)(p:Nat):Prop where
 get:∀v,get (hp v) p=some (.cells [v])
 put:∀v w,put (hp v) p (.cells [w])=hp w
def inB (x:AV)(b:C_):Prop:=x=.own false 1 (ak b)∨x=.d (.lst (ak b))∨x=.nl∧b=[]
def jq {b:C_}:inB (.own false 1 (ak b)) b:=.inl rfl
def Nq {hp:AV->am}{p N:Nat}(H:Hv hp p){x:AV}{b:C_}(hx:inB x b)(hb:b.length<=900000000)(n s:Int)(ho:qt n s)(hn:i64 n) :
  (Dn prog).call Au [A_ n,A_ s,.ptr p 0] ⟨hp x,N⟩=some (.tup [],⟨hp (.own false 1 (ak (b++au n.toNat s.toNat))),N⟩):=by
 have h1:=λx hx=>mp b n s hb hn x hx
 simp only[ac ho]at h1;rw[ba af8 aeQ rfl];rcases hx with rfl|rfl|⟨rfl,rfl⟩
 .have h2:=h1 _ (.inl rfl);simp(disch:=omega)[H.get,H.put,h2]
 .have h2:=h1 _ (.inl rfl);simp(disch:=omega)[H.get,H.put,h2]
 .have h2:=h1 _ (.inr ⟨rfl,rfl⟩);simp(disch:=omega)[H.get,H.put,h2]
def wm {hp:AV->am}{p N:Nat}(H:Hv hp p){x:AV}{b:C_}(hx:inB x b)(hb:b.length<=900000000)(n s:Nat)(hs:s<=31)(ho:n<2 ^ s)(nI sI:Int)(en:nI=n)(es:sI=s) :
  (Dn prog).call Au [A_ nI,A_ sI,.ptr p 0] ⟨hp x,N⟩=some (.tup [],⟨hp (.own false 1 (ak (b++au n s))),N⟩):=by
 subst en es;have h31:2 ^ s<=2 ^ 31:=aw o_ hs;exact Nq H hx hb n s (by simp only[qt,aq];omega) (by omega)
def kp:G_->Int->Nat
 |[],_=>0
 |n::r,w=>if w<n then 0 else kp r (w-n)+1
def ab8 (i:aM)(hi:i.groups.length<=1000)(hg:∀n∈i.groups,1<=n∧n<=8)(m:Nat):∀(r:G_) (g:Nat) (w:Int),i.groups.drop g=r->0<=w->w<r.sum->w<=8->
  (Dn prog).code (.loop uP) ⟨[(2,.ptr 0 0),(8,A_ g),(9,A_ w)],⟨[(0,.cells i.cells)],m⟩⟩=some (.exit 0,⟨[(8,A_ (g+kp r w:Nat))],⟨[(0,.cells i.cells)],m⟩⟩):=by
 simp only[aM.cells];intro r
 induction r with
 |nil=>intro g w h1 h2 h3;simp at h3;omega
 |cons n r ih =>
  intro g w h1 h2 h3 h4;have hlt:g<i.groups.length:=by
   rcases bt g i.groups.length with h|h
   .exact h
   .rw[cH h]at h1;exact absurd h1 (by simp)
  have h5:=dY hlt;have e1:i.groups[g]=n∧i.groups.drop (g+1)=r:=by rw[h1]at h5;injection h5 with a b;exact⟨a.symm,b.symm⟩
  have hn:=hg _ (List.getElem_mem hlt);rw[e1.1]at hn;have hnt:nth i.groups g=n:=by have:=zk hlt;rw[bx hlt,e1.1]at this;injection this with this;exact this.symm
  rw[ah XQ,kp];by_cases h6:w<n
  .rw[ac h6];simp(disch:=omega)[↓ac,↓aa,hnt]
  .have h7:=ih (g+1) (w-n) e1.2 o_ (by simp only[j7]at h3;omega) o_;have c1:((g+1:Nat):Int)=(g:Int)+1:=rfl;have c2:g+1+kp r (w-n)=g+(kp r (w-n)+1):=o_;rw[c1,c2]at h7;rw[aa h6];simp(disch:=omega)[↓ac,↓aa,hnt];exact h7
def dp {i:aM}(hm:i.may 11):(∀n∈i.groups,1<=n∧n<=8)∧i.groups.sum=i.many:=by
 obtain⟨_,_,_,_,h⟩:=hm;unfold aM.grouped at h;unfold aM.many;by_cases hs:i.seq=2
 .rw[ac hs]at h⊢;exact⟨h.1,h.2.1⟩
 .rw[aa hs]at h⊢;rw[h];simp
def Nt (i:aM)(hi:i.Fit)(hm:i.may 11)(w:Int)(h0:0<=w)(h1:w<i.many):bq prog QR [.agg i.cells,A_ w]=some (.tup [A_ (kp i.groups w),A_ 0]):=by
 have hw:=nQ i hi;rw[ac hm]at hw;obtain⟨g1,g2⟩:=dp hm;have hmm:i.many<=8:=by unfold aM.many;split<;>omega
 have hl:=ab8 i hi.len g1 1 i.groups 0 w rfl h0 o_ o_;have c0:((0:Nat):Int)=0:=rfl;rw[c0,br]at hl;simp only[aM.cells]at hw hl;rw[aU agG af3 rfl];simp(disch:=omega)[hw,↓ac,↓aa,hl]
def Mf:∀x∈FH,qA x.1 x.2<=qA 11 x.2∧qA x.1 true<=14:=e_
def fG {r:Nat}{i:aM}(hr:r<=11)(h:i.may r):i.may 11:=by
 obtain⟨h1,h2,h3,h4,h5⟩:=h;have:=(Mf _ (fh (r:=r) (s:=decide (i.seq=2)) o_)).1;exact⟨h1,h2,h3,by simp only[]at this;omega,h5⟩
def IM (g:G_):Nat->Nat->C_
 |0,_=>[]
 |k+1,w=>(if kp g w=kp g (w+1) then au 1 1 else au 0 1)++IM g k (w+1)
def aag {g:G_}:∀{k w:Nat},(IM g k w).length=k
 |0,_=>rfl
 |k+1,w=>by rw[IM,al,aag];split<;>simp<;>omega
def jQ (i:aM):C_:=au 0 1++(au i.seq 2++(au i.shape 1++(if i.seq=2 then au i.max.toNat 4++IM i.groups 7 0 else au i.max.toNat 6++au 0 1)))
abbrev hpP (i:aM)(v:AV):am:=[(0,.cells [v]),(1,.cells i.cells)]
def Qo (i:aM):Hv (hpP i) 0:=⟨λv=>by simp,λv w=>by simp⟩
def ah3 (i:aM)(hi:i.Fit)(hm:i.may 11)(hs:i.seq=2)(N:Nat):∀(k w:Nat) (b:C_),w+k=7->b.length<=800000000+w->
  (Dn prog).code (.loop yr) ⟨[(3,.ptr 0 0),(5,.ptr 1 0),(9,.fn Au [] [.ptr 0 0]),(10,A_ ((w:Int)+1))],⟨hpP i (.own false 1 (ak b)),N⟩⟩ =
  some (.exit 0,⟨[(3,.ptr 0 0)],⟨hpP i (.own false 1 (ak (b++IM i.groups k w))),N⟩⟩):=by
 have hmm:i.many=8:=by unfold aM.many;rw[ac hs]
 intro k
 induction k with
 |zero =>
  intro w b h1 h2;rw[ah NU,IM];simp(disch:=omega)[↓aa]
 |succ k ih =>
  intro w b h1 h2;have g1:=Nt i hi hm w o_ o_;have g2:=Nt i hi hm (w+1) o_ o_;have p1:=Nq (Qo i) (N:=N) (jq (b:=b)) o_ 1 1 k_ o_;have p0:=Nq (Qo i) (N:=N) (jq (b:=b)) o_ 0 1 k_ o_;have i1:=ih (w+1) (b++au 1 1) o_ g_;have i0:=ih (w+1) (b++au 0 1) o_ g_;have c1:((w+1:Nat):Int)=(w:Int)+1:=rfl;have t1:(1:Int).toNat=1:=rfl;have t0:(0:Int).toNat=0:=rfl;simp only[aM.cells]at g1 g2;simp only[c1,t1,t0,ay]at p1 p0 i1 i0;rw[ah NU,IM];by_cases h:kp i.groups w=kp i.groups (w+1)
  .rw[ac h];simp(disch:=omega)[↓ac,g1,g2,h,p1];exact i1
  .rw[aa h];simp(disch:=omega)[↓ac,↓aa,g1,g2,h,p0];exact i0
def af4 (b:C_)(hb:b.length<=700000000)(x:AV)(hx:x=.d (.lst (ak b))∨x=.nl∧b=[])(r:Int)(i:aM)(hi:i.Fit):bq prog M9 [x,A_ r,.agg i.cells] =
  if dP r then if i.may r.toNat then some (.tup [.own true 1 (ak (b++jQ i)),A_ 0]) else some (.tup [.nl,A_ 8]) else some (.tup [.nl,A_ 2]):=by
 have hc:=wT r i hi;simp only[aM.cells]at hc;have hxx:inB x b:=by
  rcases hx with rfl|⟨rfl,rfl⟩
  .exact .inr (.inl rfl)
  .exact .inr (.inr ⟨rfl,rfl⟩)
 rw[aU akQ akg rfl];by_cases hr:dP r
 .rw[ac hr]at hc⊢;by_cases hm:i.may r.toNat
  .rw[ac hm]at hc⊢;have hm11:i.may 11:=fG o_ hm;obtain⟨m1,m2,m3,m4,m5⟩:=hm;have hmb:=Gt (r:=r.toNat) (s:=decide (i.seq=2)) o_;have q1:=wm (Qo i) (N:=2) hxx o_ 0 1 k_ k_ 0 1 rfl rfl;have q2:=wm (Qo i) (N:=2) (jq (b:=b++au 0 1)) g_ i.seq 2 k_ o_ i.seq 2 rfl rfl;have q3:=wm (Qo i) (N:=2) (jq (b:=b++au 0 1++au i.seq 2)) g_ i.shape 1 k_ o_ i.shape 1 rfl rfl;by_cases hs:i.seq=2
   .rw[decide_eq_true hs]at m4;have hmb:=(Mf _ (fh (r:=r.toNat) (s:=true) o_)).2;simp only[]at hmb;have q4:=wm (Qo i) (N:=2) (jq (b:=b++au 0 1++au i.seq 2++au i.shape 1)) g_ i.max.toNat 4 k_ o_ i.max 4 o_ rfl;have q5:=ah3 i hi hm11 hs 2 7 0 (b++au 0 1++au i.seq 2++au i.shape 1++au i.max.toNat 4) o_ g_;have c0:((0:Nat):Int)+1=1:=rfl;rw[c0]at q5;have e:b++au 0 1++au i.seq 2++au i.shape 1++au i.max.toNat 4++IM i.groups 7 0=b++jQ i:=by simp only[jQ,ac hs,ay]
    rw[e]at q5;simp only[hpP,aM.cells]at q1 q2 q3 q4 q5;generalize b++au 0 1=B1 at *;generalize B1++au i.seq 2=B2 at *;generalize B2++au i.shape 1=B3 at *;generalize B3++au i.max.toNat 4=B4 at *;generalize jQ i=IB at *;rcases hx with rfl|⟨rfl,rfl⟩
    all_goals
     simp(maxSteps:=300000) (disch:=omega)[hc,↓ac,↓aa,q1,q2,q3,q4,q5]
   .have q4:=wm (Qo i) (N:=2) (jq (b:=b++au 0 1++au i.seq 2++au i.shape 1)) g_ i.max.toNat 6 k_ o_ i.max 6 o_ rfl;have q5:=wm (Qo i) (N:=2) (jq (b:=b++au 0 1++au i.seq 2++au i.shape 1++au i.max.toNat 6)) g_ 0 1 k_ k_ 0 1 rfl rfl;have e:b++au 0 1++au i.seq 2++au i.shape 1++au i.max.toNat 6++au 0 1=b++jQ i:=by simp only[jQ,aa hs,ay]
    rw[e]at q5;simp only[hpP,aM.cells]at q1 q2 q3 q4 q5;generalize b++au 0 1=B1 at *;generalize B1++au i.seq 2=B2 at *;generalize B2++au i.shape 1=B3 at *;generalize B3++au i.max.toNat 6=B4 at *;generalize jQ i=IB at *;rcases hx with rfl|⟨rfl,rfl⟩
    all_goals
     simp(maxSteps:=300000) (disch:=omega)[hc,↓ac,↓aa,q1,q2,q3,q4,q5]
  .rw[aa hm]at hc⊢;rcases hx with rfl|⟨rfl,rfl⟩
   all_goals simp(disch:=omega)[hc,↓ac,↓aa]
 .rw[aa hr]at hc⊢;rcases hx with rfl|⟨rfl,rfl⟩
  all_goals simp(disch:=omega)[hc,↓ac,↓aa]
def ww {α β γ:Type}{p:α->Nat->Prop}{q:β->Nat->Prop}{x:R β}{f:β->Nat->R α}{F:α->Nat->γ}{G:Nat->γ}(h:∀v n,x=.ok v n->q v n):rK p (x.bind f) F G=rK q x (λv n=>rK p (f v n) F G) G:=by
 cases x with
 |ok v n=>rw[ax,eD (h v n rfl)]
 |er e=>rfl
def G6 {α γ:Type}{p:α->Nat->Prop}{b:C_}{a s:Int}{f:Nat->Nat->R α}{F:α->Nat->γ}{G:Nat->γ}:rK p ((bb b a s).bind f) F G=rK (pG b s) (bb b a s) (λv n=>rK p (f v n) F G) G:=ww λ_ _ h=>dU h
structure aX where
 book:Int
 len:Int
abbrev Q_:=List aX
abbrev H_:=List (Q_)
abbrev aX.cells (s:aX):W_:=[.int .i64 s.book,.int .i64 s.len]
def gx (l:Q_):E_:=l.map aX.cells
@[simp] theorem aq5 {l:Q_}:(gx l).length=l.length:=by simp[gx]
@[simp] def azT {l:Q_}{s:aX}:gx (l++[s])=gx l++[s.cells]:=by simp[gx]
def xu (b:C_)(sz aW left:Nat):Nat->Nat->Nat->R Nat
 |0,_,_=>.er 7
 |f+1,a,acc=>(bb b a sz).bind λn a=>if left<acc+n then .er 7 else if n=aW then xu b sz aW left f a (acc+n) else .ok (acc+n) a
abbrev pL (b:C_)(left n a:Nat):Prop:=n<=left∧a<=b.length
def aeJ {b:C_}{sz aW left:Nat}:∀{f a acc n m:Nat},xu b sz aW left f a acc=.ok n m->pL b left n m
 |0,_,_,_,_,h=>absurd h (by simp[xu])
 |f+1,a,acc,n,m,h=>by
  rw[xu]at h
  cases h1:bb b a sz with
  |er e=>rw[h1]at h;exact absurd h (by simp)
  |ok v k =>
   rw[h1,ax]at h;by_cases h2:left<acc+v
   .rw[ac h2]at h;exact absurd h (by simp)
   .rw[aa h2]at h;by_cases h3:v=aW
    .rw[ac h3]at h;exact aeJ h
    .rw[aa h3]at h;injection h with e1 e2
     subst e1 e2;exact⟨o_,(dU h1).2⟩
def apg {α γ:Type}{p:α->Nat->Prop}{b:C_}{sz aW left f a acc:Nat}{g:Nat->Nat->R α}{F:α->Nat->γ}{G:Nat->γ}:rK p ((xu b sz aW left f a acc).bind g) F G=rK (pL b left) (xu b sz aW left f a acc) (λv n=>rK p (g v n) F G) G:=ww λ_ _ h=>aeJ h
def at4 {γ:Type}{b:C_}{sz aW left f a acc:Nat}{F:Nat->Nat->γ}{G:Nat->γ}:rK (pL b left) (xu b sz aW left (f+1) a acc) F G=rK (pG b sz) (bb b a sz) (λn a=>if left<acc+n then G 7 else if n=aW then rK (pL b left) (xu b sz aW left f a (acc+n)) F G else F (acc+n) a) G:=by
 rw[xu,G6];refine jv (λ_ _=>rfl) (λn a hp=>?_) λ_=>rfl
 by_cases h2:left<acc+n
 .rw[ac h2,ac h2,ie]
 .rw[aa h2,aa h2];by_cases h3:n=aW
  .rw[ac h3,ac h3]
  .rw[aa h3,aa h3,eD ⟨o_,hp.2⟩]
abbrev er3 (e:Nat)(h:HS):J_:=some (.ret,⟨[(6,.nl),(7,A_ 0),(8,A_ (e+1))],h⟩)
def ag5 (b:C_)(sz aW left:Nat)(hb:b.length<=1000000000)(hsz:sz<=5)(hm:aW=2 ^ sz-1)(hs1:1<=sz)(hl:left<=1000)(x6 x11:AV)(bk:Int)(X:Obj)(y40 y41:D)(M N:Nat)(hM:1<=M):∀(f a acc:Nat),left<acc+f->acc<=left->a<=b.length->
  (Dn prog).code (.loop yq) ⟨[(0,.d (.lst (ak b))),(5,.ptr 0 0),(6,x6),(7,A_ a),(9,A_ sz),(10,A_ aW),(11,x11),(12,A_ left),(13,.ptr M 0),(14,A_ aW),(40,.d y40),(41,.d y41)],⟨[(0,X),(M,.cells [A_ bk,A_ acc])],N⟩⟩ =
  rK (pL b left) (xu b sz aW left f a acc) (λn a=>some (.exit 4,⟨[(0,.d (.lst (ak b))),(5,.ptr 0 0),(6,x6),(7,A_ a),(9,A_ sz),(10,A_ aW),(11,x11),(12,A_ left),(13,.ptr M 0),(40,.d y40),(41,.d y41)],⟨[(0,X),(M,.cells [A_ bk,A_ n])],N⟩⟩)) (λe=>er3 e ⟨[(0,X)],N⟩):=by
 intro f
 induction f with
 |zero=>intro a acc h1 h2;omega
 |succ f ih =>
  intro a acc h1 h2 ha;rw[ah NT,at4];have hp2:2 ^ sz<=2 ^ 5:=aw o_ hsz;have hp3:2 ^ 1<=2 ^ sz:=aw o_ hs1;have hM0:M≠0:=o_;simp(maxSteps:=300000) (disch:=first|omega|assumption) [↓ac,↓aa,gW,hM0,pG];refine jv (λ_ _=>rfl) (λn a' hp=>?_) λ_=>rfl
  have hp4:n<2 ^ sz:=hp.1;by_cases h3:left<acc+n
  .rw[ac h3,ac o_];rfl
  .rw[aa h3,aa o_];by_cases h4:n=aW
   .subst h4;rw[ac rfl,<-ih a' (acc+n) o_ o_ hp.2];simp
   .rw[aa h4,ah NT];simp(maxSteps:=300000) (disch:=first|omega|assumption) [↓ac,↓aa]
def aM.fsz (i:aM):Nat:=if i.seq=2 then 3 else 5
def Vx (i:aM):bq prog P6 [.agg i.cells]=some (.tup [A_ i.fsz,A_ ((2 ^ i.fsz-1:Nat):Int)]):=by
 rw[aU afI aff rfl];unfold aM.fsz;by_cases h:i.seq=2
 .simp(disch:=first|omega|assumption) [↓ac,h]
 .simp(disch:=first|omega|assumption) [↓ac,↓aa]
abbrev LA (k:Int):Prop:=0<=k∧(k<=11∨k=13)
abbrev aX.right (s:aX)(left:Int):Prop:=(1<=s.len∧s.len<=left)∧LA s.book
def Vy (s:aX)(left:Int):bq prog O7 [.agg [A_ s.book,A_ s.len],A_ left]=if s.right left then some (B_ true) else some (B_ false):=by
 rw[aU adP adW rfl];by_cases h1:1<=s.len<;>by_cases h2:s.len<=left<;>by_cases h3:0<=s.book<;>by_cases h4:s.book<=11<;>by_cases h5:s.book=13<;>
  simp(disch:=first|omega|assumption) [↓ac,↓aa]
def HJ (b:C_)(sz left:Nat)(a:Nat):R aX :=
 (bb b a 4).bind λk a=>if k=12∨13<k then .er 7 else (xu b sz (2 ^ sz-1) left (left+1) a 0).bind λn a=>if n=0 then .er 7 else .ok ⟨k,n⟩ a
abbrev pS (b:C_)(left:Nat)(s:aX)(a:Nat):Prop:=(s.right left)∧a<=b.length
def at0 {γ:Type}{b:C_}{sz left a:Nat}{F:aX->Nat->γ}{G:Nat->γ}:rK (pS b left) (HJ b sz left a) F G=rK (pG b 4) (bb b a 4) (λk a=>if k=12∨13<k then G 7 else rK (pL b left) (xu b sz (2 ^ sz-1) left (left+1) a 0) (λn a=>if n=0 then G 7 else F ⟨k,n⟩ a) G) G:=by
 rw[HJ,G6];refine jv (λ_ _=>rfl) (λk a hp=>?_) λ_=>rfl
 by_cases h:k=12∨13<k
 .simp_all
 .rw[aa h,aa h,apg];refine jv (λ_ _=>rfl) (λn a hq=>?_) λ_=>rfl
  grind [ie,eD]
def afo {b:C_}{sz left a m:Nat}{s:aX}(h:HJ b sz left a=.ok s m):pS b left s m:=by
 rw[HJ]at h
 cases h1:bb b a 4 with
 |er e=>simp_all
 |ok k a1 =>
  by_cases hk:k=12∨13<k
  .simp_all
  .cases h2:xu b sz (2 ^ sz-1) left (left+1) a1 0 with
   |er e=>simp_all
   |ok n a2 =>
    have hq:=aeJ h2
    grind [ax]
def jI (b:C_)(sz:Nat):Nat->Nat->Nat->R Q_
 |0,_,a=>.ok [] a
 |f+1,left,a=>if left=0 then .ok [] a else (HJ b sz left a).bind λs a=>(jI b sz f (left-s.len.toNat) a).bind λl a=>.ok (s::l) a
def fitsS:Int->Q_->Prop
 |left,[]=>left=0
 |left,s::l=>s.right left∧fitsS (left-s.len) l
instance:∀(left:Int) (l:Q_),Decidable (fitsS left l)
 |left,[]=>by unfold fitsS;infer_instance
 |left,s::l=>by
  unfold fitsS;have:Decidable (fitsS (left-s.len) l):=instDecidableFitsS _ l
  infer_instance
abbrev Wv (b:C_)(left:Nat)(l:Q_)(a:Nat):Prop:=fitsS left l∧a<=b.length∧l.length<=left
def H8 {b:C_}{sz:Nat}:∀{f left a m:Nat}{l:Q_},left<=f->a<=b.length->jI b sz f left a=.ok l m->Wv b left l m
 |0,left,a,m,l,h,ha,e=>by
  grind [jI,fitsS]
 |f+1,left,a,m,l,h,ha,e=>by
  simp only[jI]at e;by_cases h0:left=0
  .grind [fitsS]
  .rw[aa h0]at e
   cases h1:HJ b sz left a with
   |er e2=>simp_all
   |ok s a1 =>
    have hs:=afo h1;rw[h1,ax]at e
    cases h2:jI b sz f (left-s.len.toNat) a1 with
    |er e2=>simp_all
    |ok l2 a2 =>
     have ih:=H8 o_ hs.2 h2;rw[h2,ax]at e;injection e with e1 e2
     subst e1 e2;refine⟨⟨hs.1,?_⟩,ih.2.1,?_⟩
     all_goals grind
def amy {γ:Type}{b:C_}{sz f left a:Nat}{F:Q_->Nat->γ}{G:Nat->γ}(hf:left<=f+1)(h0:left≠0):rK (Wv b left) (jI b sz (f+1) left a) F G =
  rK (pS b left) (HJ b sz left a) (λs a=>rK (Wv b (left-s.len.toNat)) (jI b sz f (left-s.len.toNat) a) (λl a=>F (s::l) a) G) G:=by
 rw[jI,aa h0,ww (q:=pS b left) λ_ _ h=>afo h];refine jv (λ_ _=>rfl) (λs a hp=>?_) λ_=>rfl
 rw[ww (q:=Wv b (left-s.len.toNat)) λ_ _ h=>H8 o_ hp.2 h];refine jv (λ_ _=>rfl) (λl a hq=>?_) λ_=>rfl
 rw[eD];refine⟨⟨hp.1,?_⟩,hq.2.1,?_⟩
 all_goals grind
def Yc {γ:Type}{b:C_}{sz f a:Nat}{F:Q_->Nat->γ}{G:Nat->γ}(ha:a<=b.length):rK (Wv b 0) (jI b sz f 0 a) F G=F [] a:=by
 cases f<;>grind [jI,eD,fitsS]
def V6 {α γ:Type}{p:α->Nat->Prop}{r:R α}{f f2:α->Nat->γ}{g g2:Nat->γ}(hp:∀v n,r=.ok v n->p v n)(h:∀v n,r=.ok v n->p v n->f v n=f2 v n)(k:∀e,r=.er e->g e=g2 e):rK p r f g=rK p r f2 g2:=by
 cases r<;>simp_all [eD]
def agM (b:C_)(sz:Nat)(hb:b.length<=1000000000)(hsz:sz<=5)(hs1:1<=sz)(x6:AV)(X:Obj)(y40 y41:D)(left a N:Nat)(G:Q_)(h0:left≠0)(h2:left<=1000)(h3:G.length+left<=10000)(h4:1<=N)(ha:a<=b.length) :
  (Dn prog).code tD ⟨[(0,.d (.lst (ak b))),(5,.ptr 0 0),(6,x6),(7,A_ a),(9,A_ sz),(10,A_ ((2 ^ sz-1:Nat):Int)),(11,aD 2 (gx G)),(12,A_ left),(40,.d y40),(41,.d y41)],⟨[(0,X)],N⟩⟩ =
  rK (pS b left) (HJ b sz left a) (λs a=>some (.normal,⟨[(0,.d (.lst (ak b))),(5,.ptr 0 0),(6,x6),(7,A_ a),(9,A_ sz),(10,A_ ((2 ^ sz-1:Nat):Int)),(11,aD 2 (gx (G++[s]))),(12,A_ ((left-s.len.toNat:Nat):Int)),(40,.d y40),(41,.d y41)],⟨[(0,X)],N+1⟩⟩)) (λe=>er3 e ⟨[(0,X)],N+1⟩):=by
 rw[at0,EP];have hp3:2 ^ 1<=2 ^ sz:=aw o_ hs1;have hN0:N≠0:=o_;have c0:((0:Nat):Int)=0:=rfl;have h5:=λbk M N hM a h1 h2' ha=>ag5 b sz (2 ^ sz-1) left hb hsz rfl hs1 h2 x6 (aD 2 (gx G)) bk X y40 y41 M N hM (left+1) a 0 h1 h2' ha
 simp only[c0]at h5;have h6:=λk n left=>Vy ⟨k,n⟩ left
 simp(maxSteps:=300000) (disch:=first|omega|assumption) [↓ac,↓aa,gW];refine jv (λ_ _=>rfl) (λk a1 hp=>?_) λ_=>rfl
 have hp1:k<16:=hp.1;by_cases hk:k=12∨13<k
 .grind
 .rw[aa hk,aa o_,h5 k N (N+1) h4 a1 o_ o_ hp.2];simp only[axd,axb];refine jv (λ_ _=>rfl) (λn a2 hq=>?_) λ_=>rfl
  by_cases hn:n=0
  .have hr:¬aX.right ⟨k,n⟩ left:=u_;simp(disch:=first|omega|assumption) [↓ac,↓aa,h6]
  .have hr:aX.right ⟨k,n⟩ left:=d_;have e1:((left-n:Nat):Int)=(left:Int)-n:=o_;have e2:(gx G).length<1000000000:=by grind [aq5]
   simp(disch:=first|omega|assumption) [↓ac,↓aa,h6,e1,mY]
def RG (b:C_)(sz:Nat):Nat->Nat->Nat->Nat
 |0,_,_=>0
 |f+1,left,a=>if left=0 then 0 else match HJ b sz left a with
  |.ok s a=>RG b sz f (left-s.len.toNat) a+1
  |.er _=>1
def ahc (b:C_)(sz:Nat)(hb:b.length<=1000000000)(hsz:sz<=5)(hs1:1<=sz)(x6:AV)(X:Obj)(y40 y41:D):∀(f left a N:Nat) (G:Q_),left<=f->left<=1000->G.length+left<=10000->1<=N->a<=b.length->
  (Dn prog).code (.loop tD) ⟨[(0,.d (.lst (ak b))),(5,.ptr 0 0),(6,x6),(7,A_ a),(9,A_ sz),(10,A_ ((2 ^ sz-1:Nat):Int)),(11,aD 2 (gx G)),(12,A_ left),(40,.d y40),(41,.d y41)],⟨[(0,X)],N⟩⟩ =
  rK (Wv b left) (jI b sz f left a) (λl a=>some (.exit 2,⟨[(0,.d (.lst (ak b))),(5,.ptr 0 0),(6,x6),(7,A_ a),(9,A_ sz),(10,A_ ((2 ^ sz-1:Nat):Int)),(11,aD 2 (gx (G++l))),(40,.d y40),(41,.d y41)],⟨[(0,X)],N+l.length⟩⟩)) (λe=>er3 e ⟨[(0,X)],N+RG b sz f left a⟩):=by
 intro f
 induction f with
 |zero =>
  intro left a N G h1 h2 h3 h4 ha;have:left=0:=o_;subst this;rw[Yc ha,ah EP];simp(disch:=first|omega|assumption) [↓aa]
 |succ f ih =>
  intro left a N G h1 h2 h3 h4 ha;by_cases h0:left=0
  .subst h0;rw[Yc ha,ah EP];simp(disch:=first|omega|assumption) [↓aa]
  .rw[amy h1 h0,ah rfl,agM b sz hb hsz hs1 x6 X y40 y41 left a N G h0 h2 h3 h4 ha,ajk];refine V6 (λ_ _ h=>afo h) (λs a1 e1 hp=>?_) (λe e1=>?_)
   .rw[La,ih (left-s.len.toNat) a1 (N+1) (G++[s]) o_ o_ d_ o_ hp.2]
    grind [RG]
   simp_all [RG]
def sJ (b:C_)(sz aW:Nat):Nat->Nat->R H_
 |0,a=>.ok [] a
 |k+1,a=>(jI b sz aW aW a).bind λl a=>(sJ b sz aW k a).bind λg a=>.ok (l::g) a
abbrev Tb (b:C_)(max k:Nat)(g:H_)(a:Nat):Prop:=(∀l∈g,fitsS max l∧l.length<=max)∧a<=b.length∧g.length=k
def RF {b:C_}{sz max:Nat}:∀{k a m:Nat}{g:H_},a<=b.length->sJ b sz max k a=.ok g m->Tb b max k g m
 |0,a,m,g,ha,h=>by
  grind [sJ]
 |k+1,a,m,g,ha,h=>by
  simp only[sJ]at h
  cases h1:jI b sz max max a with
  |er e=>simp_all
  |ok l a1 =>
   have hp:=H8 (ai _) ha h1
   cases h2:sJ b sz max k a1 with
   |er e=>simp_all
   |ok g2 a2 =>
    have hq:=RF hp.2.1 h2
    grind [ax]
def aqn {γ:Type}{b:C_}{sz max k a:Nat}{F:H_->Nat->γ}{G:Nat->γ}(ha:a<=b.length):rK (Tb b max (k+1)) (sJ b sz max (k+1) a) F G =
  rK (Wv b max) (jI b sz max max a) (λl a=>rK (Tb b max k) (sJ b sz max k a) (λg a=>F (l::g) a) G) G:=by
 rw[sJ,ww (q:=Wv b max) λ_ _ h=>H8 (ai _) ha h];refine jv (λ_ _=>rfl) (λl a hp=>?_) λ_=>rfl
 rw[ww (q:=Tb b max k) λ_ _ h=>RF hp.2.1 h];refine jv (λ_ _=>rfl) (λg a hq=>?_) λ_=>rfl
 grind [eD]
def aoV {γ:Type}{b:C_}{sz max a:Nat}{F:H_->Nat->γ}{G:Nat->γ}(ha:a<=b.length):rK (Tb b max 0) (sJ b sz max 0 a) F G=F [] a:=by
 grind [sJ,eD]
def bF (g:H_):E_:=g.map λl=>[.lst (gx l)]
@[simp] def amS {g:H_}:(bF g).length=g.length:=by simp[bF]
@[simp] def ayz {g:H_}{l:Q_}:bF (g++[l])=bF g++[[.lst (gx l)]]:=by simp[bF]
def ak5:H_->Nat
 |[]=>0
 |l::g=>l.length+ak5 g
def alT (b:C_)(sz max:Nat):Nat->Nat->Nat
 |0,_=>0
 |k+1,a=>match jI b sz max max a with
  |.ok l a=>l.length+alT b sz max k a
  |.er _=>RG b sz max max a
def agO (b:C_)(i:aM)(sz mx:Nat)(hmx:i.max=mx)(hb:b.length<=1000000000)(hsz:sz<=5)(hs1:1<=sz)(h2:mx<=1000)(a N j len:Nat)(Gs:H_)(h3:Gs.length<=10000)(h4:1<=N)(ha:a<=b.length)(hj:j<len)(hlen:len<=10000) :
  (Dn prog).code tv ⟨[(0,.d (.lst (ak b))),(5,.ptr 0 0),(6,aD 1 (bF Gs)),(7,A_ a),(9,A_ sz),(10,A_ ((2 ^ sz-1:Nat):Int)),(40,A_ len),(41,A_ j)],⟨[(0,.cells i.cells)],N⟩⟩ =
  rK (Wv b mx) (jI b sz mx mx a) (λl a=>some (.normal,⟨[(0,.d (.lst (ak b))),(5,.ptr 0 0),(6,aD 1 (bF (Gs++[l]))),(7,A_ a),(9,A_ sz),(10,A_ ((2 ^ sz-1:Nat):Int)),(40,A_ len),(41,A_ ((j+1:Nat):Int))],⟨[(0,.cells i.cells)],N+l.length⟩⟩)) (λe=>er3 e ⟨[(0,.cells i.cells)],N+RG b sz mx mx a⟩):=by
 rw[NC];have h5:=λy40 y41=>ahc b sz hb hsz hs1 (aD 1 (bF Gs)) (.cells i.cells) y40 y41 mx mx a N [] (ai _) h2 g_ h4 ha
 simp only[gx,List.map_nil,pD,aO,aM.cells,hmx]at h5;have e2:(bF Gs).length<1000000000:=by rw[amS];omega
 simp(maxSteps:=300000) (disch:=first|omega|assumption) [↓ac,↓aa,h5,hmx];refine jv (λ_ _=>rfl) (λl a2 hq=>?_) λe=>rfl
 simp[mY,gx]
def ahn (b:C_)(i:aM)(sz mx:Nat)(hmx:i.max=mx)(hb:b.length<=1000000000)(hsz:sz<=5)(hs1:1<=sz)(h2:mx<=1000)(len:Nat)(hlen:len<=1000):∀(k a N j:Nat) (Gs:H_),j+k=len->Gs.length+k<=10000->1<=N->a<=b.length->
  (Dn prog).code (.loop tv) ⟨[(0,.d (.lst (ak b))),(5,.ptr 0 0),(6,aD 1 (bF Gs)),(7,A_ a),(9,A_ sz),(10,A_ ((2 ^ sz-1:Nat):Int)),(40,A_ len),(41,A_ j)],⟨[(0,.cells i.cells)],N⟩⟩ =
  rK (Tb b mx k) (sJ b sz mx k a) (λg a=>some (.exit 0,⟨[(6,aD 1 (bF (Gs++g))),(7,A_ a)],⟨[(0,.cells i.cells)],N+ak5 g⟩⟩)) (λe=>er3 e ⟨[(0,.cells i.cells)],N+alT b sz mx k a⟩):=by
 intro k
 induction k with
 |zero =>
  intro a N j Gs h1 h3 h4 ha;rw[aoV ha,ah NC];simp(maxSteps:=300000) (disch:=first|omega|assumption) [↓ac,↓aa,ak5]
 |succ k ih =>
  intro a N j Gs h1 h3 h4 ha;rw[aqn ha,ah rfl,agO b i sz mx hmx hb hsz hs1 h2 a N j len Gs o_ h4 ha o_ o_,ajk];refine V6 (λ_ _ h=>H8 (ai _) ha h) (λl a1 e1 hp=>?_) (λe e1=>?_)
  .rw[La,ih a1 (N+l.length) (j+1) (Gs++[l]) o_ g_ o_ hp.2.1];refine V6 (λ_ _ h=>RF hp.2.1 h) (λg a2 e2 hq=>?_) (λe e2=>?_)
   .simp[ak5,dr]
   .simp[alT,e1,dr]
  .simp[alT,e1]
def apQ {m:Nat}{xs:E_}(h:∀x∈xs,∃l,x=[D.lst l])(hf:kB (aD m xs)=true):ph (aD m xs)=aD m xs:=by
 cases xs with
 |nil=>rfl
 |cons x r =>
  obtain⟨l,rfl⟩:=h x s_;simp[aD,kB,iW,kZ]at hf
def avh {g:H_}:∀x∈bF g,∃l,x=[D.lst l]:=by
 intro x hx;simp only[bF,dh]at hx;obtain⟨l,_,rfl⟩:=hx;exact⟨_,rfl⟩
def tS (b:C_)(i:aM)(a:Int):R H_ :=
 if 0<=a∧a<=b.length then sJ b i.fsz i.max.toNat i.groups.length a.toNat else .er 1
def aoE {b:C_}{a:Int}:bb b a 0=if 0<=a∧a<=b.length then .ok 0 a.toNat else .er 1:=by
 unfold bb;by_cases h:0<=a∧a<=b.length
 .rw[ac h,ac o_,aa o_,ac (by simp[bin])];simp[val]
 .rw[aa h,aa o_]
def arI (b:C_)(a:Int)(i:aM)(hb:b.length<=1000000000)(ha:i64 a)(hi:i.Fit)(hm:i.may 11):bq prog Vs [.d (.lst (ak b)),A_ a,.agg i.cells] =
  rK (Tb b i.max.toNat i.groups.length) (tS b i a) (λg n=>some (.tup [aD 1 (bF g),A_ n,A_ 0])) (λe=>some (.tup [.nl,A_ 0,A_ (e+1)])):=by
 have hw:=nQ i hi;rw[ac hm]at hw;have hf:=Vx i;have hmx:i.max=i.max.toNat:=by have:=hm.2.2.1;omega
 have hmb:i.max.toNat<=1000:=by have:=hm.2.2.2.1;have:=Gt (r:=11) (s:=decide (i.seq=2)) o_;omega
 have hsz:1<=i.fsz∧i.fsz<=5:=by unfold aM.fsz;split<;>omega
 have hll:=hi.len;rw[aU al6 amh rfl];have hl:=ahn b i i.fsz i.max.toNat hmx hb hsz.2 hsz.1 hmb i.groups.length hi.len;simp only[aM.cells]at hw hf;unfold tS;by_cases h0:0<=a∧a<=b.length
 .obtain⟨A,rfl⟩:=aA h0.1;have h1:=hl i.groups.length A 1 0 [] o_ g_ o_ o_;have c0:((0:Nat):Int)=0:=rfl;simp only[aM.cells,bF,List.map_nil,pD,aO,c0]at h1;rw[ac h0];simp(maxSteps:=300000) (disch:=first|omega|assumption) [↓ac,↓aa,hw,hf,gW,aoE,h0];rw[eD ⟨s_,o_⟩];simp(maxSteps:=300000) (disch:=first|omega|assumption) [h1];refine jv (λ_ _=>rfl) (λg n hp=>?_) λ_=>rfl
  have hb:=apQ (m:=1) (avh (g:=g));simp only[bF]at hb⊢;by_cases hf:kB (aD 1 (List.map (λl=>[D.lst (gx l)]) g))=true
  .rw[ac hf,hb hf]
  .rw[aa hf]
 .rw[aa h0];simp(maxSteps:=300000) (disch:=first|omega|assumption) [↓ac,↓aa,hw,hf,gW,aoE,h0]
abbrev Z2:Obj:=.cells [A_ 0,A_ 0]
abbrev nT:=@List.length_set
structure Hp (hp:C_->am)(D:Nat):Prop where
 get:∀xs,get (hp xs) D=some (.arr 1 (cN xs))
 put:∀xs ys,put (hp xs) D (.arr 1 (cN ys))=hp ys
def swp (xs:C_)(i j:Nat):C_:=(xs.set i (nth xs j)).set j (nth xs i)
@[simp] def wQ {xs:C_}{i j:Nat}:(swp xs i j).length=xs.length:=by simp[swp]
def swpR (xs:C_)(a b:Nat):Nat->Nat->C_
 |0,_=>xs
 |k+1,i=>swpR (swp xs (a+i) (b+i)) a b k (i+1)
@[simp] def CQ {a b:Nat}:∀{k i:Nat}{xs:C_},(swpR xs a b k i).length=xs.length
 |0,_,_=>rfl
 |k+1,i,xs=>by rw[swpR,CQ,wQ]
section
variable {hp:C_->am}{D:Nat}
def agB (H:Hp hp D)(len:Nat)(hlen:len<=1000000000)(a b n N:Nat)(ha:a+n<=len)(hb:b+n<=len):∀(k i:Nat) (xs:C_),i+k=n->xs.length=len->
  (Dn prog).code (.loop fS) ⟨[(0,.sl D 0 len),(1,A_ a),(2,A_ b),(3,A_ n),(10,A_ i)],⟨hp xs,N⟩⟩ =
  some (.exit 0,⟨[],⟨hp (swpR xs a b k i),N⟩⟩):=by
 intro k
 induction k with
 |zero =>
  intro i xs hi hx;rw[ah nk];simp(maxSteps:=300000) (disch:=omega)[↓ac,↓aa,swpR]
 |succ k ih =>
  intro i xs hi hx;rw[ah nk];have l1:=nT (as:=xs) (i:=a+i) (a:=nth xs (b+i));simp(maxSteps:=300000) (disch:=omega)[↓ac,↓aa,H.get,H.put];have h:=ih (i+1) (swp xs (a+i) (b+i)) o_ (by simpa using hx);have c1:((i+1:Nat):Int)=(i:Int)+1:=rfl;rw[c1]at h;rw[swpR,<-h];rfl
def Q6 (H:Hp hp D)(F:AV)(len:Nat)(hlen:len<=1000000000)(a b n N:Nat)(ha:a+n<=len)(hb:b+n<=len)(xs:C_)(hx:xs.length=len) :
  (Dn prog).call qa [.sl D 0 len,A_ a,A_ b,A_ n,F] ⟨hp xs,N⟩=some (.tup [],⟨hp (swpR xs a b n 0),N⟩):=by
 rw[ba BG Bz rfl];have h:=agB H len hlen a b n N ha hb n 0 xs o_ hx;have c0:((0:Nat):Int)=0:=rfl;rw[c0]at h;simp(maxSteps:=300000) (disch:=omega)[↓ac,↓aa,h]
def rot (m:Nat):Nat->C_->Nat->Nat->C_
 |0,xs,i,j=>xs
 |f+1,xs,i,j=>if i=j then swpR xs (m-i) m i 0 else if j<i then rot m f (swpR xs (m-i) m j 0) (i-j) j else rot m f (swpR xs (m-i) (m+j-i) i 0) i (j-i)
theorem Gg {m:Nat}:∀{f:Nat}{xs:C_}{i j:Nat},(rot m f xs i j).length=xs.length
 |0,_,_,_=>rfl
 |f+1,xs,i,j=>by
  rw[rot];split
  .exact CQ
  .split
   .rw[Gg,CQ]
   .rw[Gg,CQ]
def an6 (H:Hp hp D)(F:AV)(hF:share F=F)(hG:firm F=F)(len:Nat)(hlen:len<=1000000000)(m N:Nat):∀(f i j:Nat) (xs:C_),i+j<=f->1<=i->1<=j->i<=m->m+j<=len->xs.length=len->
  ∃(k:Nat) (ys:C_),(Dn prog).code (.loop gJ) ⟨[(0,.sl D 0 len),(2,A_ m),(4,F),(10,A_ i),(11,A_ j)],⟨hp xs,N⟩⟩ =
   some (.exit 0,⟨[(0,.sl D 0 len),(2,A_ m),(4,F),(10,A_ k)],⟨hp ys,N⟩⟩)∧k<=m∧m+k<=len∧ys.length=len∧swpR ys (m-k) m k 0=rot m f xs i j:=by
 intro f
 induction f with
 |zero=>intro i j xs h h1 h2;omega
 |succ f ih =>
  intro i j xs h h1 h2 h3 h4 hx;rw[ah BH];by_cases e:i=j
  .subst e;refine⟨i,xs,?_,h3,h4,hx,?_⟩
   .simp(maxSteps:=300000) (disch:=omega)[↓ac,↓aa]
   .rw[rot,ac rfl]
  .by_cases e2:j<i
   .obtain⟨k,ys,g1,g2,g3,g4,g5⟩:=ih (i-j) j (swpR xs (m-i) m j 0) o_ o_ h2 o_ h4 (by simpa using hx);refine⟨k,ys,?_,g2,g3,g4,?_⟩
    .have hs:=Q6 H F len hlen (m-i) m j N o_ o_ xs hx;have c1:((m-i:Nat):Int)=(m:Int)-i:=o_;have c2:((i-j:Nat):Int)=(i:Int)-j:=o_;rw[c1]at hs;rw[c2]at g1;simp(maxSteps:=300000) (disch:=omega)[↓ac,↓aa,hs,hF,hG,g1]
    .rw[rot,aa e,ac e2,g5]
   .obtain⟨k,ys,g1,g2,g3,g4,g5⟩:=ih i (j-i) (swpR xs (m-i) (m+j-i) i 0) o_ h1 o_ h3 o_ (by simpa using hx);refine⟨k,ys,?_,g2,g3,g4,?_⟩
    .have hs:=Q6 H F len hlen (m-i) (m+j-i) i N o_ o_ xs hx;have c1:((m-i:Nat):Int)=(m:Int)-i:=o_;have c2:((j-i:Nat):Int)=(j:Int)-i:=o_;have c3:((m+j-i:Nat):Int)=(m:Int)+j-i:=o_;rw[c1,c3]at hs;rw[c2]at g1;simp(maxSteps:=300000) (disch:=omega)[↓ac,↓aa,hs,hF,hG,g1]
    .rw[rot,aa e,aa e2,g5]
def aow (H:Hp hp D)(F:AV)(hF:share F=F)(hG:firm F=F)(len:Nat)(hlen:len<=1000000000)(a m b N:Nat)(h1:a<m)(h2:m<b)(h3:b<=len)(xs:C_)(hx:xs.length=len) :
  (Dn prog).call tF [.sl D 0 len,A_ a,A_ m,A_ b,F] ⟨hp xs,N⟩=some (.tup [],⟨hp (rot m (b-a) xs (m-a) (b-m)),N⟩):=by
 obtain⟨k,ys,g1,g2,g3,g4,g5⟩:=an6 H F hF hG len hlen m N (b-a) (m-a) (b-m) xs o_ o_ o_ o_ o_ hx;have hs:=Q6 H F len hlen (m-k) m k N o_ o_ ys g4;have c1:((m-k:Nat):Int)=(m:Int)-k:=o_;have c2:((m-a:Nat):Int)=(m:Int)-a:=o_;have c3:((b-m:Nat):Int)=(b:Int)-m:=o_;rw[c1,g5]at hs;rw[c2,c3]at g1;rw[ba EL Er rfl];simp(maxSteps:=300000) (disch:=omega)[↓ac,↓aa,hs,hF,hG,g1]
end
structure Cm (hp:C_->am)(L:Nat)(F:AV)(C:Nat->Nat->Int):Prop where
 sh:share F=F
 fi:firm F=F
 cl:∀xs N x y,x<L->y<L->b7 (Dn prog) F [A_ (x:Nat),A_ (y:Nat)] ⟨hp xs,N⟩=some (A_ (C x y),⟨hp xs,N⟩)
abbrev eE (L:Nat)(xs:C_):Prop:=∀x∈xs,x<L
def eE.nth {L:Nat}{xs:C_}(u:eE L xs){i:Nat}(h:i<xs.length):Vm.nth xs i<L:=u _ (iP h)
def eE.swp {L:Nat}{xs:C_}(u:eE L xs){i j:Nat}(hi:i<xs.length)(hj:j<xs.length):eE L (swp xs i j):=by
 intro x hx;rcases gF hx with h|h
 .rcases gF h with h|h
  .exact u x h
  .exact h▸u.nth hj
 .exact h▸u.nth hi
def eE.swpR {L a b:Nat}:∀{k i:Nat}{xs:C_},eE L xs->a+i+k<=xs.length->b+i+k<=xs.length->eE L (swpR xs a b k i)
 |0,_,_,u,_,_=>u
 |k+1,i,xs,u,h1,h2=>by
  rw[Vm.swpR];exact eE.swpR (u.swp o_ o_) (by rw[wQ];omega) (by rw[wQ];omega)
def eE.rot {L m:Nat}:∀{f i j:Nat}{xs:C_},eE L xs->i<=m->m+j<=xs.length->eE L (rot m f xs i j)
 |0,_,_,_,u,_,_=>u
 |f+1,i,j,xs,u,h1,h2=>by
  rw[Vm.rot];split
  .exact u.swpR o_ (by omega)
  .split
   .exact(u.swpR o_ o_).rot o_ (by rw[CQ];omega)
   .exact(u.swpR o_ o_).rot o_ (by rw[CQ];omega)
def insJ (C:Nat->Nat->Int)(a:Nat):Nat->C_->C_
 |0,xs=>xs
 |j+1,xs=>if a<=j∧C (nth xs (j+1)) (nth xs j)<0 then insJ C a j (swp xs (j+1) j) else xs
def insO (C:Nat->Nat->Int)(a:Nat):Nat->Nat->C_->C_
 |0,_,xs=>xs
 |k+1,i,xs=>insO C a k (i+1) (insJ C a i xs)
section
variable {C:Nat->Nat->Int}{a:Nat}
def L7:∀{j:Nat}{xs:C_},(insJ C a j xs).length=xs.length
 |0,_=>rfl
 |j+1,xs=>by
  rw[insJ];split
  .rw[L7,wQ]
  .rfl
def Vd:∀{k i:Nat}{xs:C_},(insO C a k i xs).length=xs.length
 |0,_,_=>rfl
 |k+1,i,xs=>by rw[insO,Vd,L7]
def eE.insJ {L:Nat}:∀{j:Nat}{xs:C_},eE L xs->j<xs.length->eE L (insJ C a j xs)
 |0,_,u,_=>u
 |j+1,xs,u,h=>by
  rw[Vm.insJ];split
  .exact(u.swp h o_).insJ (by rw[wQ];omega)
  .exact u
def eE.insO {L:Nat}:∀{k i:Nat}{xs:C_},eE L xs->i+k<=xs.length->eE L (insO C a k i xs)
 |0,_,_,u,_=>u
 |k+1,i,xs,u,h=>by
  rw[Vm.insO];exact(u.insJ o_).insO (by rw[L7];omega)
end
section
variable {hp:C_->am}{D L:Nat}{F:AV}{C:Nat->Nat->Int}
def aoW (H:Hp hp D)(K:Cm hp L F C)(len:Nat)(hlen:len<=1000000000)(a b I N:Nat):∀(j:Nat) (xs:C_),j<len->xs.length=len->eE L xs->
  (Dn prog).code (.loop eY) ⟨[(0,.sl D 0 len),(1,A_ a),(2,A_ b),(3,F),(8,A_ I),(9,A_ j)],⟨hp xs,N⟩⟩ =
  some (.exit 2,⟨[(0,.sl D 0 len),(1,A_ a),(2,A_ b),(3,F),(8,A_ I)],⟨hp (insJ C a j xs),N⟩⟩):=by
 intro j
 induction j with
 |zero =>
  intro xs hj hx u;rw[ah ln];simp(maxSteps:=300000) (disch:=omega)[↓ac,↓aa,insJ,K.sh,K.fi]
 |succ j ih =>
  intro xs hj hx u;rw[ah ln];have c1:((j+1:Nat):Int)=(j:Int)+1:=rfl;by_cases h1:a<=j
  .have hc:=K.cl xs N _ _ (u.nth (i:=j+1) o_) (u.nth (i:=j) o_);have l1:=nT (as:=xs) (i:=j+1) (a:=nth xs j);by_cases h2:C (nth xs (j+1)) (nth xs j)<0
   .have h:=ih (swp xs (j+1) j) o_ (by simpa using hx) (u.swp o_ o_);rw[insJ,ac ⟨h1,h2⟩,<-h];simp(maxSteps:=300000) (disch:=omega)[↓ac,↓aa,K.sh,K.fi,H.get,H.put,hc,c1];rfl
   .rw[insJ,aa (λh=>h2 h.2)];simp(maxSteps:=300000) (disch:=omega)[↓ac,↓aa,K.sh,K.fi,H.get,H.put,hc,c1]
  .rw[insJ,aa (λh=>h1 h.1)];simp(maxSteps:=300000) (disch:=omega)[↓ac,↓aa,K.sh,K.fi,c1]
def aoJ (H:Hp hp D)(K:Cm hp L F C)(len:Nat)(hlen:len<=1000000000)(a b N:Nat)(hb:b<=len):∀(k i:Nat) (xs:C_),i+k=b->xs.length=len->eE L xs->
  (Dn prog).code (.loop eV) ⟨[(0,.sl D 0 len),(1,A_ a),(2,A_ b),(3,F),(8,A_ i)],⟨hp xs,N⟩⟩ =
  some (.exit 0,⟨[],⟨hp (insO C a k i xs),N⟩⟩):=by
 intro k
 induction k with
 |zero =>
  intro i xs hi hx u;rw[ah lx];simp(maxSteps:=300000) (disch:=omega)[↓ac,↓aa,insO,K.sh,K.fi]
 |succ k ih =>
  intro i xs hi hx u;rw[ah lx];have h0:=aoW H K len hlen a b i N i xs o_ hx u;have h:=ih (i+1) (insJ C a i xs) o_ (by rw[L7];exact hx) (u.insJ o_);have c1:((i+1:Nat):Int)=(i:Int)+1:=rfl;rw[c1]at h;rw[insO,<-h];simp(maxSteps:=300000) (disch:=omega)[↓ac,↓aa,K.sh,K.fi,h0]
def NR (H:Hp hp D)(K:Cm hp L F C)(len:Nat)(hlen:len<=1000000000)(a b N:Nat)(hab:a<b)(hb:b<=len)(xs:C_)(hx:xs.length=len)(u:eE L xs) :
  (Dn prog).call nb [.sl D 0 len,A_ a,A_ b,F] ⟨hp xs,N⟩=some (.tup [],⟨hp (insO C a (b-(a+1)) (a+1) xs),N⟩):=by
 rw[ba xD xz rfl];have h:=aoJ H K len hlen a b N hb (b-(a+1)) (a+1) xs o_ hx u;have c1:((a+1:Nat):Int)=(a:Int)+1:=rfl;rw[c1]at h;simp(maxSteps:=300000) (disch:=omega)[↓ac,↓aa,K.sh,K.fi,h]
end
abbrev de:=@Nat.add_sub_cancel
def K4 (C:Nat->Nat->Int)(xs:C_)(a:Nat):Nat->Nat->Nat->Nat
 |0,i,_=>i
 |f+1,i,j=>if i<j then (if C (nth xs ((i+j) / 2)) (nth xs a)<0 then K4 C xs a f ((i+j) / 2+1) j else K4 C xs a f i ((i+j) / 2)) else i
def KF (C:Nat->Nat->Int)(xs:C_)(m:Nat):Nat->Nat->Nat->Nat
 |0,i,_=>i
 |f+1,i,j=>if i<j then (if C (nth xs m) (nth xs ((i+j) / 2))<0 then KF C xs m f i ((i+j) / 2) else KF C xs m f ((i+j) / 2+1) j) else i
def rl (C:Nat->Nat->Int)(xs:C_)(p:Nat):Nat->Nat->Nat->Nat
 |0,i,_=>i
 |f+1,i,j=>if i<j then (if C (nth xs (p-(i+j) / 2)) (nth xs ((i+j) / 2))<0 then rl C xs p f i ((i+j) / 2) else rl C xs p f ((i+j) / 2+1) j) else i
def shU:Nat->Nat->C_->C_
 |0,_,xs=>xs
 |n+1,k,xs=>shU n (k+1) (swp xs k (k+1))
def shD:Nat->Nat->C_->C_
 |0,_,xs=>xs
 |n+1,k,xs=>shD n (k-1) (swp xs k (k-1))
def Vi {i j:Nat}:((i:Int)+j).fdiv 2=(((i+j) / 2:Nat):Int):=by
 rw[jH _ o_];omega
section
variable {hp:C_->am}{D L:Nat}{F:AV}{C:Nat->Nat->Int}
def ahG (H:Hp hp D)(K:Cm hp L F C)(len:Nat)(hlen:len<=1000000000)(a N:Nat)(ha:a<len)(xs:C_)(hx:xs.length=len)(u:eE L xs):∀(f i j:Nat),j-i<=f->i<=j->j<=len->
  (Dn prog).code (.loop gh) ⟨[(0,.sl D 0 len),(1,A_ a),(4,F),(10,A_ i),(11,A_ j)],⟨hp xs,N⟩⟩ =
  some (.exit 0,⟨[(0,.sl D 0 len),(1,A_ a),(10,A_ (K4 C xs a f i j:Nat))],⟨hp xs,N⟩⟩):=by
 intro f
 induction f with
 |zero =>
  intro i j h1 h2 h3;rw[ah oh];simp(maxSteps:=300000) (disch:=omega)[↓ac,↓aa,K4,K.sh,K.fi]
 |succ f ih =>
  intro i j h1 h2 h3;rw[ah oh];by_cases h:i<j
  .have hf:=Vi (i:=i) (j:=j);rw[K4,ac h];have q1:i<=(i+j) / 2∧(i+j) / 2<j:=o_;generalize (i+j) / 2=q at *;have hc:=K.cl xs N _ _ (u.nth (i:=q) o_) (u.nth (i:=a) o_);by_cases g:C (nth xs q) (nth xs a)<0
   .have h5:=ih (q+1) j o_ o_ h3;rw[ac g,<-h5];simp(maxSteps:=300000) (disch:=omega)[↓ac,↓aa,K.sh,K.fi,H.get,H.put,hc,hf]
   .have h5:=ih i q o_ o_ o_;rw[aa g,<-h5];simp(maxSteps:=300000) (disch:=omega)[↓ac,↓aa,K.sh,K.fi,H.get,H.put,hc,hf]
  .rw[K4,aa h];simp(maxSteps:=300000) (disch:=omega)[↓ac,↓aa,K.sh,K.fi]
def aha (H:Hp hp D)(len:Nat)(hlen:len<=1000000000)(I N:Nat)(hI:I<=len):∀(n k:Nat) (xs:C_),k+n=I-1->xs.length=len->
  (Dn prog).code (.loop gg) ⟨[(0,.sl D 0 len),(10,A_ I),(13,A_ k)],⟨hp xs,N⟩⟩=some (.exit 2,⟨[],⟨hp (shU n k xs),N⟩⟩):=by
 intro n
 induction n with
 |zero =>
  intro k xs h hx;rw[ah n9];simp(maxSteps:=300000) (disch:=omega)[↓ac,↓aa,shU]
 |succ n ih =>
  intro k xs h hx;rw[ah n9];have l1:=nT (as:=xs) (i:=k) (a:=nth xs (k+1));have h5:=ih (k+1) (swp xs k (k+1)) o_ (by simpa using hx);rw[shU,<-h5];simp(maxSteps:=300000) (disch:=omega)[↓ac,↓aa,H.get,H.put];rfl
def ag6 (H:Hp hp D)(K:Cm hp L F C)(len:Nat)(hlen:len<=1000000000)(m N:Nat)(ha:m<len)(xs:C_)(hx:xs.length=len)(u:eE L xs):∀(f i j:Nat),j-i<=f->i<=j->j<=len->
  (Dn prog).code (.loop gj) ⟨[(0,.sl D 0 len),(2,A_ m),(4,F),(14,A_ i),(15,A_ j)],⟨hp xs,N⟩⟩ =
  some (.exit 4,⟨[(0,.sl D 0 len),(2,A_ m),(14,A_ (KF C xs m f i j:Nat))],⟨hp xs,N⟩⟩):=by
 intro f
 induction f with
 |zero =>
  intro i j h1 h2 h3;rw[ah ou];simp(maxSteps:=300000) (disch:=omega)[↓ac,↓aa,KF,K.sh,K.fi]
 |succ f ih =>
  intro i j h1 h2 h3;rw[ah ou];by_cases h:i<j
  .have hf:=Vi (i:=i) (j:=j);rw[KF,ac h];have q1:i<=(i+j) / 2∧(i+j) / 2<j:=o_;generalize (i+j) / 2=q at *;have hc:=K.cl xs N _ _ (u.nth (i:=m) o_) (u.nth (i:=q) o_);by_cases g:C (nth xs m) (nth xs q)<0
   .have h5:=ih i q o_ o_ o_;rw[ac g,<-h5];simp(maxSteps:=300000) (disch:=omega)[↓ac,↓aa,K.sh,K.fi,H.get,H.put,hc,hf]
   .have h5:=ih (q+1) j o_ o_ h3;rw[aa g,<-h5];simp(maxSteps:=300000) (disch:=omega)[↓ac,↓aa,K.sh,K.fi,H.get,H.put,hc,hf]
  .rw[KF,aa h];simp(maxSteps:=300000) (disch:=omega)[↓ac,↓aa,K.sh,K.fi]
def ah0 (H:Hp hp D)(len:Nat)(hlen:len<=1000000000)(I N:Nat):∀(n k:Nat) (xs:C_),I+n=k->k<len->xs.length=len->
  (Dn prog).code (.loop gk) ⟨[(0,.sl D 0 len),(14,A_ I),(17,A_ k)],⟨hp xs,N⟩⟩=some (.exit 6,⟨[],⟨hp (shD n k xs),N⟩⟩):=by
 intro n
 induction n with
 |zero =>
  intro k xs h hk hx;rw[ah og];simp(maxSteps:=300000) (disch:=omega)[↓ac,↓aa,shD]
 |succ n ih =>
  intro k xs h hk hx;obtain⟨q,rfl⟩:∃q,k=q+1:=⟨k-1,o_⟩
  rw[ah og];have l1:=nT (as:=xs) (i:=q+1) (a:=nth xs q);have h5:=ih q (swp xs (q+1) q) o_ o_ (by simpa using hx);rw[shD,de,<-h5];simp(maxSteps:=300000) (disch:=omega)[↓ac,↓aa,H.get,H.put];rfl
def Dz (H:Hp hp D)(K:Cm hp L F C)(len:Nat)(hlen:len<=1000000000)(a m b M n p N:Nat)(xs:C_)(hx:xs.length=len)(u:eE L xs):∀(f i j:Nat),j-i<=f->i<=j->j<=len->j<=p+1->p<len+i->
  (Dn prog).code (.loop ge) ⟨[(0,.sl D 0 len),(1,A_ a),(2,A_ m),(3,A_ b),(4,F),(18,A_ M),(19,A_ n),(20,A_ i),(21,A_ j),(22,A_ p)],⟨hp xs,N⟩⟩ =
  some (.exit 8,⟨[(0,.sl D 0 len),(1,A_ a),(2,A_ m),(3,A_ b),(4,F),(18,A_ M),(19,A_ n),(20,A_ (rl C xs p f i j:Nat))],⟨hp xs,N⟩⟩):=by
 intro f
 induction f with
 |zero =>
  intro i j h1 h2 h3 h4 h5;rw[ah ot];simp(maxSteps:=300000) (disch:=omega)[↓ac,↓aa,rl,K.sh,K.fi]
 |succ f ih =>
  intro i j h1 h2 h3 h4 h5;rw[ah ot];by_cases h:i<j
  .have hf:=Vi (i:=i) (j:=j);rw[rl,ac h];have q1:i<=(i+j) / 2∧(i+j) / 2<j:=o_;generalize (i+j) / 2=q at *;have hp1:p-q<len:=o_;have hpq:((p:Int)-q)=((p-q:Nat):Int):=o_;generalize p-q=r at *;have hc:=K.cl xs N _ _ (u.nth (i:=r) o_) (u.nth (i:=q) o_);by_cases g:C (nth xs r) (nth xs q)<0
   .have h6:=ih i q o_ o_ o_ o_ o_;rw[ac g,<-h6];simp(maxSteps:=300000) (disch:=omega)[↓ac,↓aa,K.sh,K.fi,H.get,H.put,hc,hf,hpq]
   .have h6:=ih (q+1) j o_ o_ h3 o_ o_;rw[aa g,<-h6];simp(maxSteps:=300000) (disch:=omega)[↓ac,↓aa,K.sh,K.fi,H.get,H.put,hc,hf,hpq]
  .rw[rl,aa h];simp(maxSteps:=300000) (disch:=omega)[↓ac,↓aa,K.sh,K.fi]
end
def symM (C:Nat->Nat->Int):Nat->C_->Nat->Nat->Nat->C_
 |0,xs,_,_,_=>xs
 |f+1,xs,a,m,b =>
  if m-a=1 then shU (K4 C xs a (b-m) m b-1-a) a xs
  else if b-m=1 then shD (m-KF C xs m (m-a) a m) m xs
  else
   let s:=if (a+b) / 2<m then rl C xs ((a+b) / 2+m-1) (b-a) ((a+b) / 2+m-b) ((a+b) / 2) else rl C xs ((a+b) / 2+m-1) (b-a) a m
   let e:=(a+b) / 2+m-s
   let ys:=if s<m∧m<e then rot m (e-s) xs (m-s) (e-m) else xs
   let zs:=if a<s∧s<(a+b) / 2 then symM C f ys a s ((a+b) / 2) else ys
   if (a+b) / 2<e∧e<b then symM C f zs ((a+b) / 2) e b else zs
def Xc {C:Nat->Nat->Int}{xs:C_}{a:Nat}:∀{f i j:Nat},i<=j->i<=K4 C xs a f i j∧K4 C xs a f i j<=j
 |0,i,j,h=>⟨ai _,h⟩
 |f+1,i,j,h=>by
  rw[K4];split
  .split
   .have:=Xc (C:=C) (xs:=xs) (a:=a) (f:=f) (i:=(i+j) / 2+1) (j:=j) o_;omega
   .have:=Xc (C:=C) (xs:=xs) (a:=a) (f:=f) (i:=i) (j:=(i+j) / 2) o_;omega
  .exact⟨ai _,h⟩
def agA {C:Nat->Nat->Int}{xs:C_}{m:Nat}:∀{f i j:Nat},i<=j->i<=KF C xs m f i j∧KF C xs m f i j<=j
 |0,i,j,h=>⟨ai _,h⟩
 |f+1,i,j,h=>by
  rw[KF];split
  .split
   .have:=agA (C:=C) (xs:=xs) (m:=m) (f:=f) (i:=i) (j:=(i+j) / 2) o_;omega
   .have:=agA (C:=C) (xs:=xs) (m:=m) (f:=f) (i:=(i+j) / 2+1) (j:=j) o_;omega
  .exact⟨ai _,h⟩
theorem HY {C:Nat->Nat->Int}{xs:C_}{p:Nat}:∀{f i j:Nat},i<=j->i<=rl C xs p f i j∧rl C xs p f i j<=j
 |0,i,j,h=>⟨ai _,h⟩
 |f+1,i,j,h=>by
  rw[rl];split
  .split
   .have:=HY (C:=C) (xs:=xs) (p:=p) (f:=f) (i:=i) (j:=(i+j) / 2) o_;omega
   .have:=HY (C:=C) (xs:=xs) (p:=p) (f:=f) (i:=(i+j) / 2+1) (j:=j) o_;omega
  .exact⟨ai _,h⟩
def aiN:∀{n k:Nat}{xs:C_},(shU n k xs).length=xs.length
 |0,_,_=>rfl
 |n+1,k,xs=>by rw[shU,aiN,wQ]
def ajJ:∀{n k:Nat}{xs:C_},(shD n k xs).length=xs.length
 |0,_,_=>rfl
 |n+1,k,xs=>by rw[shD,ajJ,wQ]
def eE.shU {L:Nat}:∀{n k:Nat}{xs:C_},eE L xs->k+n<xs.length->eE L (shU n k xs)
 |0,_,_,u,_=>u
 |n+1,k,xs,u,h=>by rw[Vm.shU];exact(u.swp o_ o_).shU (by rw[wQ];omega)
def eE.shD {L:Nat}:∀{n k:Nat}{xs:C_},eE L xs->k<xs.length->eE L (shD n k xs)
 |0,_,_,u,_=>u
 |n+1,k,xs,u,h=>by rw[Vm.shD];exact(u.swp o_ o_).shD (by rw[wQ];omega)
theorem yS {C:Nat->Nat->Int}:∀{f:Nat}{xs:C_}{a m b:Nat},(symM C f xs a m b).length=xs.length
 |0,_,_,_,_=>rfl
 |f+1,xs,a,m,b=>by
  rw[symM];split
  .exact aiN
  .split
   .exact ajJ
   .simp only
    repeat' split
    all_goals simp only[yS,Gg]
def eE.symM {L:Nat}{C:Nat->Nat->Int}:∀{f:Nat}{xs:C_}{a m b:Nat},eE L xs->a<m->m<b->b<=xs.length->eE L (symM C f xs a m b)
 |0,_,_,_,_,u,_,_,_=>u
 |f+1,xs,a,m,b,u,h1,h2,h3=>by
  rw[Go.Vm.symM];split
  .have:=Xc (C:=C) (xs:=xs) (a:=a) (f:=b-m) (i:=m) (j:=b) o_;exact u.shU (by omega)
  .split
   .exact u.shD (by omega)
   .simp only;generalize hs:(if (a+b) / 2<m then rl C xs ((a+b) / 2+m-1) (b-a) ((a+b) / 2+m-b) ((a+b) / 2) else rl C xs ((a+b) / 2+m-1) (b-a) a m)=s;have s1:s<=m∧s<=(a+b) / 2+m∧a<=s+1∧(a+b) / 2+m-s<=b:=by
     grind [HY]
    generalize hys:(if s<m∧m<(a+b) / 2+m-s then Go.Vm.rot m ((a+b) / 2+m-s-s) xs (m-s) ((a+b) / 2+m-s-m) else xs)=ys;have uy:eE L ys∧ys.length=xs.length:=by
     subst hys;split
     .exact⟨u.rot o_ o_,Gg⟩
     grind
    generalize hzs:(if a<s∧s<(a+b) / 2 then Go.Vm.symM C f ys a s ((a+b) / 2) else ys)=zs;have uz:eE L zs∧zs.length=xs.length:=by
     subst hzs;split
     .exact⟨uy.1.symM o_ o_ o_,by grind [yS]⟩
     omega
    split
    .exact uz.1.symM o_ o_ (by omega)
    grind
section
variable {hp:C_->am}{D L:Nat}{F:AV}{C:Nat->Nat->Int}
theorem ah9 (H:Hp hp D)(K:Cm hp L F C)(len:Nat)(hlen:len<=1000000000)(N f:Nat)(ih:∀(a m b:Nat) (xs:C_),b-a<=f->a<m->m<b->b<=len->xs.length=len->eE L xs->
  (Dn prog).call cL [.sl D 0 len,A_ a,A_ m,A_ b,F] ⟨hp xs,N⟩=some (.tup [],⟨hp (symM C f xs a m b),N⟩))
  (a m b:Nat)(xs:C_)(h1:b-a<=f+1)(h2:a<m)(h3:m<b)(h4:b<=len)(hx:xs.length=len)(u:eE L xs)(c1:¬m-a=1)(c2:¬b-m=1)(c3:(a+b) / 2<m)(d1:(rl C xs ((a+b) / 2+m-1) (b-a) ((a+b) / 2+m-b) ((a+b) / 2)<m∧m<(a+b) / 2+m-rl C xs ((a+b) / 2+m-1) (b-a) ((a+b) / 2+m-b) ((a+b) / 2))) :
  (Dn prog).call cL [.sl D 0 len,A_ a,A_ m,A_ b,F] ⟨hp xs,N⟩=some (.tup [],⟨hp (symM C (f+1) xs a m b),N⟩):=by
 rw[ba ed ef rfl,symM,aa c1,aa c2];simp only;have hf:=Vi (i:=a) (j:=b);have q1:a<(a+b) / 2∧(a+b) / 2<b∧(a+b) / 2*2<=a+b∧a+b<=(a+b) / 2*2+1:=o_;rw[ac c3];generalize (a+b) / 2=M at *;have cn:((M+m:Nat):Int)=(M:Int)+m:=rfl;have cp:((M+m-1:Nat):Int)=(M:Int)+m-1:=o_;have s1:=HY (C:=C) (xs:=xs) (p:=M+m-1) (f:=b-a) (i:=M+m-b) (j:=M) o_;have g4:=Dz H K len hlen a m b M (M+m) (M+m-1) N xs hx u (b-a) (M+m-b) M o_ o_ o_ o_ o_;have ci:((M+m-b:Nat):Int)=(M:Int)+m-b:=o_;rw[cn,cp,ci]at g4;generalize rl C xs (M+m-1) (b-a) (M+m-b) M=s at *;have ce:((M+m-s:Nat):Int)=(M:Int)+m-s:=o_;rw[ac d1];have hr:=aow H F K.sh K.fi len hlen s m (M+m-s) N d1.1 d1.2 o_ xs hx;have uy:eE L (rot m (M+m-s-s) xs (m-s) (M+m-s-m)):=u.rot o_ o_;have ly:(rot m (M+m-s-s) xs (m-s) (M+m-s-m)).length=len:=by grind [Gg]
 generalize rot m (M+m-s-s) xs (m-s) (M+m-s-m)=ys at *;rw[ce]at hr;by_cases d2:a<s∧s<M
 .rw[ac d2];have h6:=ih a s M ys o_ d2.1 d2.2 o_ ly uy;have uz:eE L (symM C f ys a s M):=uy.symM d2.1 d2.2 o_;have lz:(symM C f ys a s M).length=len:=by grind [yS]
  generalize symM C f ys a s M=zs at *;by_cases d3:M<M+m-s∧M+m-s<b
  .rw[ac d3];have h7:=ih M (M+m-s) b zs o_ d3.1 d3.2 h4 lz uz;rw[ce]at h7
   first
    |(exfalso;omega)
    |simp(disch:=omega)[↓ac,↓aa,K.sh,K.fi,hf,g4,hr,h6,h7]
  .rw[aa d3];have h7:True:=trivial
   first
    |(exfalso;omega)
    |simp(disch:=omega)[↓ac,↓aa,K.sh,K.fi,hf,g4,hr,h6]
 .rw[aa d2];have uz:=uy;have lz:=ly;have h6:True:=trivial;by_cases d3:M<M+m-s∧M+m-s<b
  .rw[ac d3];have h7:=ih M (M+m-s) b ys o_ d3.1 d3.2 h4 lz uz
   first
    |omega
    |simp(disch:=omega)[↓ac,↓aa,K.sh,K.fi,hf,g4,hr,h6,h7]
  .first
    |(omega)
    |simp(disch:=omega)[↓ac,↓aa,K.sh,K.fi,hf,g4,hr]
theorem ahd (H:Hp hp D)(K:Cm hp L F C)(len:Nat)(hlen:len<=1000000000)(N f:Nat)(ih:∀(a m b:Nat) (xs:C_),b-a<=f->a<m->m<b->b<=len->xs.length=len->eE L xs->
  (Dn prog).call cL [.sl D 0 len,A_ a,A_ m,A_ b,F] ⟨hp xs,N⟩=some (.tup [],⟨hp (symM C f xs a m b),N⟩))
  (a m b:Nat)(xs:C_)(h1:b-a<=f+1)(h2:a<m)(h3:m<b)(h4:b<=len)(hx:xs.length=len)(u:eE L xs)(c1:¬m-a=1)(c2:¬b-m=1)(c3:(a+b) / 2<m)(d1:¬(rl C xs ((a+b) / 2+m-1) (b-a) ((a+b) / 2+m-b) ((a+b) / 2)<m∧m<(a+b) / 2+m-rl C xs ((a+b) / 2+m-1) (b-a) ((a+b) / 2+m-b) ((a+b) / 2))) :
  (Dn prog).call cL [.sl D 0 len,A_ a,A_ m,A_ b,F] ⟨hp xs,N⟩=some (.tup [],⟨hp (symM C (f+1) xs a m b),N⟩):=by
 rw[ba ed ef rfl,symM,aa c1,aa c2];simp only;have hf:=Vi (i:=a) (j:=b);have q1:a<(a+b) / 2∧(a+b) / 2<b∧(a+b) / 2*2<=a+b∧a+b<=(a+b) / 2*2+1:=o_;rw[ac c3];generalize (a+b) / 2=M at *;have cn:((M+m:Nat):Int)=(M:Int)+m:=rfl;have cp:((M+m-1:Nat):Int)=(M:Int)+m-1:=o_;have s1:=HY (C:=C) (xs:=xs) (p:=M+m-1) (f:=b-a) (i:=M+m-b) (j:=M) o_;have g4:=Dz H K len hlen a m b M (M+m) (M+m-1) N xs hx u (b-a) (M+m-b) M o_ o_ o_ o_ o_;have ci:((M+m-b:Nat):Int)=(M:Int)+m-b:=o_;rw[cn,cp,ci]at g4;generalize rl C xs (M+m-1) (b-a) (M+m-b) M=s at *;have ce:((M+m-s:Nat):Int)=(M:Int)+m-s:=o_;rw[aa d1];have uy:=u;have ly:=hx;have hr:True:=trivial;by_cases d2:a<s∧s<M
 .rw[ac d2];have h6:=ih a s M xs o_ d2.1 d2.2 o_ ly uy;have uz:eE L (symM C f xs a s M):=uy.symM d2.1 d2.2 o_;have lz:(symM C f xs a s M).length=len:=o_;generalize symM C f xs a s M=zs at *;by_cases d3:M<M+m-s∧M+m-s<b
  .rw[ac d3];have h7:=ih M (M+m-s) b zs o_ d3.1 d3.2 h4 lz uz;rw[ce]at h7
   first
    |omega
    |simp(disch:=omega)[↓ac,↓aa,K.sh,K.fi,hf,g4,hr,h6,h7]
  .rw[aa d3];have h7:True:=trivial
   first
    |omega
    |simp(disch:=omega)[↓ac,↓aa,K.sh,K.fi,hf,g4,hr,h6,h7]
 .rw[aa d2];have uz:=uy;have lz:=ly;by_cases d3:M<M+m-s∧M+m-s<b
  .have h7:=ih M (M+m-s) b xs o_ d3.1 d3.2 h4 lz uz;rw[ce]at h7
   first
    |(omega)
    |simp(disch:=omega)[↓ac,↓aa,K.fi,hf,g4,h7]
  .first
    |omega
    |simp(disch:=omega)[↓ac,↓aa,K.sh,K.fi,hf,g4,hr,h6,h7]
theorem ahX (H:Hp hp D)(K:Cm hp L F C)(len:Nat)(hlen:len<=1000000000)(N f:Nat)(ih:∀(a m b:Nat) (xs:C_),b-a<=f->a<m->m<b->b<=len->xs.length=len->eE L xs->
  (Dn prog).call cL [.sl D 0 len,A_ a,A_ m,A_ b,F] ⟨hp xs,N⟩=some (.tup [],⟨hp (symM C f xs a m b),N⟩))
  (a m b:Nat)(xs:C_)(h1:b-a<=f+1)(h2:a<m)(h3:m<b)(h4:b<=len)(hx:xs.length=len)(u:eE L xs)(c1:¬m-a=1)(c2:¬b-m=1)(c3:¬(a+b) / 2<m)(d1:(rl C xs ((a+b) / 2+m-1) (b-a) a m<m∧m<(a+b) / 2+m-rl C xs ((a+b) / 2+m-1) (b-a) a m)) :
  (Dn prog).call cL [.sl D 0 len,A_ a,A_ m,A_ b,F] ⟨hp xs,N⟩=some (.tup [],⟨hp (symM C (f+1) xs a m b),N⟩):=by
 rw[ba ed ef rfl,symM,aa c1,aa c2];simp only;have hf:=Vi (i:=a) (j:=b);have q1:a<(a+b) / 2∧(a+b) / 2<b∧(a+b) / 2*2<=a+b∧a+b<=(a+b) / 2*2+1:=o_;rw[aa c3];generalize (a+b) / 2=M at *;have cn:((M+m:Nat):Int)=(M:Int)+m:=rfl;have cp:((M+m-1:Nat):Int)=(M:Int)+m-1:=o_;have s1:=HY (C:=C) (xs:=xs) (p:=M+m-1) (f:=b-a) (i:=a) (j:=m) o_;have g4:=Dz H K len hlen a m b M (M+m) (M+m-1) N xs hx u (b-a) a m o_ o_ o_ o_ o_;rw[cn,cp]at g4;generalize rl C xs (M+m-1) (b-a) a m=s at *;have ce:((M+m-s:Nat):Int)=(M:Int)+m-s:=o_;rw[ac d1];have hr:=aow H F K.sh K.fi len hlen s m (M+m-s) N d1.1 d1.2 o_ xs hx;have uy:eE L (rot m (M+m-s-s) xs (m-s) (M+m-s-m)):=u.rot o_ o_;have ly:(rot m (M+m-s-s) xs (m-s) (M+m-s-m)).length=len:=by grind [Gg]
 generalize rot m (M+m-s-s) xs (m-s) (M+m-s-m)=ys at *;rw[ce]at hr;by_cases d2:a<s∧s<M
 .rw[ac d2];have h6:=ih a s M ys o_ d2.1 d2.2 o_ ly uy;have uz:eE L (symM C f ys a s M):=uy.symM d2.1 d2.2 o_;have lz:(symM C f ys a s M).length=len:=by grind [yS]
  generalize symM C f ys a s M=zs at *;by_cases d3:M<M+m-s∧M+m-s<b
  .rw[ac d3];have h7:=ih M (M+m-s) b zs o_ d3.1 d3.2 h4 lz uz;rw[ce]at h7
   first
    |(exfalso;omega)
    |simp(disch:=omega)[↓ac,↓aa,K.sh,K.fi,hf,g4,hr,h6,h7]
  .rw[aa d3];have h7:True:=trivial
   first
    |omega
    |simp(disch:=omega)[↓ac,↓aa,K.sh,K.fi,hf,g4,hr,h6,h7]
 .rw[aa d2];have uz:=uy;have lz:=ly;have h6:True:=trivial;by_cases d3:M<M+m-s∧M+m-s<b
  .rw[ac d3];have h7:=ih M (M+m-s) b ys o_ d3.1 d3.2 h4 lz uz;rw[ce]at h7
   first
    |(omega)
    |simp(disch:=omega)[↓ac,↓aa,K.sh,K.fi,hf,g4,hr,h7]
  .first
    |(omega)
    |simp(disch:=omega)[↓ac,↓aa,K.sh,K.fi,hf,g4,hr]
theorem ain (H:Hp hp D)(K:Cm hp L F C)(len:Nat)(hlen:len<=1000000000)(N f:Nat)(ih:∀(a m b:Nat) (xs:C_),b-a<=f->a<m->m<b->b<=len->xs.length=len->eE L xs->
  (Dn prog).call cL [.sl D 0 len,A_ a,A_ m,A_ b,F] ⟨hp xs,N⟩=some (.tup [],⟨hp (symM C f xs a m b),N⟩))
  (a m b:Nat)(xs:C_)(h1:b-a<=f+1)(h2:a<m)(h3:m<b)(h4:b<=len)(hx:xs.length=len)(u:eE L xs)(c1:¬m-a=1)(c2:¬b-m=1)(c3:¬(a+b) / 2<m)(d1:¬(rl C xs ((a+b) / 2+m-1) (b-a) a m<m∧m<(a+b) / 2+m-rl C xs ((a+b) / 2+m-1) (b-a) a m)) :
  (Dn prog).call cL [.sl D 0 len,A_ a,A_ m,A_ b,F] ⟨hp xs,N⟩=some (.tup [],⟨hp (symM C (f+1) xs a m b),N⟩):=by
 rw[ba ed ef rfl,symM,aa c1,aa c2];simp only;have hf:=Vi (i:=a) (j:=b);have q1:a<(a+b) / 2∧(a+b) / 2<b∧(a+b) / 2*2<=a+b∧a+b<=(a+b) / 2*2+1:=o_;rw[aa c3];generalize (a+b) / 2=M at *;have cn:((M+m:Nat):Int)=(M:Int)+m:=rfl;have cp:((M+m-1:Nat):Int)=(M:Int)+m-1:=o_;have s1:=HY (C:=C) (xs:=xs) (p:=M+m-1) (f:=b-a) (i:=a) (j:=m) o_;have g4:=Dz H K len hlen a m b M (M+m) (M+m-1) N xs hx u (b-a) a m o_ o_ o_ o_ o_;rw[cn,cp]at g4;generalize rl C xs (M+m-1) (b-a) a m=s at *;have ce:((M+m-s:Nat):Int)=(M:Int)+m-s:=o_;rw[aa d1];have uy:=u;have ly:=hx;have hr:True:=trivial;by_cases d2:a<s∧s<M
 .rw[ac d2];have h6:=ih a s M xs o_ d2.1 d2.2 o_ ly uy;have uz:eE L (symM C f xs a s M):=uy.symM d2.1 d2.2 o_;have lz:(symM C f xs a s M).length=len:=by grind [yS]
  generalize symM C f xs a s M=zs at *;by_cases d3:M<M+m-s∧M+m-s<b
  .rw[ac d3];have h7:=ih M (M+m-s) b zs o_ d3.1 d3.2 h4 lz uz;rw[ce]at h7
   first
    |omega
    |simp(disch:=omega)[↓ac,↓aa,K.sh,K.fi,hf,g4,hr,h6,h7]
  .rw[aa d3];have h7:True:=trivial
   first
    |(exfalso;omega)
    |simp(disch:=omega)[↓ac,↓aa,K.sh,K.fi,hf,g4,h6]
 .rw[aa d2];have uz:=uy;have lz:=ly;have h6:True:=trivial;by_cases d3:M<M+m-s∧M+m-s<b
  .first
    |omega
    |simp(disch:=omega)[↓ac,↓aa,K.sh,K.fi,hf,g4,hr,h6,h7]
  .first
    |(omega)
    |simp(disch:=omega)[↓ac,↓aa,hf,g4]
def aep (H:Hp hp D)(K:Cm hp L F C)(len:Nat)(hlen:len<=1000000000)(N:Nat):∀(f a m b:Nat) (xs:C_),b-a<=f->a<m->m<b->b<=len->xs.length=len->eE L xs->
  (Dn prog).call cL [.sl D 0 len,A_ a,A_ m,A_ b,F] ⟨hp xs,N⟩=some (.tup [],⟨hp (symM C f xs a m b),N⟩):=by
 intro f
 induction f with
 |zero=>omega
 |succ f ih =>
  intro a m b xs h1 h2 h3 h4 hx u;by_cases c1:m-a=1
  .rw[ba ed ef rfl,symM,ac c1];have hb:=Xc (C:=C) (xs:=xs) (a:=a) (f:=b-m) (i:=m) (j:=b) o_;have g0:=ahG H K len hlen a N o_ xs hx u (b-m) m b o_ o_ h4;generalize K4 C xs a (b-m) m b=I at *;have g1:=aha H len hlen I N o_ (I-1-a) a xs o_ hx;simp(disch:=omega)[↓ac,g0,g1]
  .by_cases c2:b-m=1
   .rw[ba ed ef rfl,symM,aa c1,ac c2];have hb:=agA (C:=C) (xs:=xs) (m:=m) (f:=m-a) (i:=a) (j:=m) o_;have g0:=ag6 H K len hlen m N o_ xs hx u (m-a) a m o_ o_ o_;generalize KF C xs m (m-a) a m=I at *;have g1:=ah0 H len hlen I N (m-I) m xs o_ o_ hx;simp(disch:=omega)[↓ac,↓aa,g0,g1]
   grind [ah9,ahd,ahX,ain]
end
def IS (C:Nat->Nat->Int)(n:Nat):Nat->C_->Nat->C_×Nat
 |0,xs,a=>(xs,a)
 |f+1,xs,a=>if a+20<=n then IS C n f (insO C a 19 (a+1) xs) (a+20) else (xs,a)
def NH (C:Nat->Nat->Int)(n bs:Nat):Nat->C_->Nat->C_×Nat
 |0,xs,a=>(xs,a)
 |f+1,xs,a=>if a+2*bs<=n then NH C n bs f (symM C (2*bs) xs a (a+bs) (a+2*bs)) (a+2*bs) else (xs,a)
def stE (C:Nat->Nat->Int)(n bs:Nat)(p:C_×Nat):C_:=if p.2+bs<n then symM C (n-p.2) p.1 p.2 (p.2+bs) n else p.1
def WI (C:Nat->Nat->Int)(n:Nat):Nat->C_->Nat->C_
 |0,xs,_=>xs
 |f+1,xs,bs=>if bs<n then WI C n f (stE C n bs (NH C n bs n xs 0)) (2*bs) else xs
def stS (C:Nat->Nat->Int)(n:Nat)(p:C_×Nat):C_:=insO C p.2 (n-(p.2+1)) (p.2+1) p.1
def q7 (C:Nat->Nat->Int)(n:Nat)(xs:C_):C_:=WI C n n (stS C n (IS C n n xs 0)) 20
section
variable {hp:C_->am}{D L:Nat}{F:AV}{C:Nat->Nat->Int}
def anS (H:Hp hp D)(K:Cm hp L F C)(n:Nat)(hlen:n<=1000000000)(N:Nat):∀(f a:Nat) (xs:C_),n<a+f*20+20->a<=n->xs.length=n->eE L xs->
  (Dn prog).code (.loop gG) ⟨[(0,.sl D 0 n),(1,A_ n),(2,F),(6,A_ 20),(7,A_ a),(8,A_ ((a:Int)+20))],⟨hp xs,N⟩⟩ =
  some (.exit 0,⟨[(0,.sl D 0 n),(1,A_ n),(2,F),(6,A_ 20),(7,A_ ((IS C n f xs a).2))],⟨hp (IS C n f xs a).1,N⟩⟩)∧
  (IS C n f xs a).1.length=n∧eE L (IS C n f xs a).1∧a<=(IS C n f xs a).2∧(IS C n f xs a).2<=n∧∃q,(IS C n f xs a).2=a+20*q:=by
 intro f
 induction f with
 |zero =>
  intro a xs h1 h2 hx u;refine⟨?_,hx,u,ai _,h2,0,rfl⟩;rw[ah qb];simp(maxSteps:=300000) (disch:=omega)[↓ac,↓aa,IS,K.sh,K.fi]
 |succ f ih =>
  intro a xs h1 h2 hx u;rw[ah qb,IS];by_cases h:a+20<=n
  .rw[ac h];have h0:=NR H K n hlen a (a+20) N o_ h xs hx u;rw[show a+20-(a+1)=19 by omega]at h0;obtain⟨g1,g2,g3,g4,g5,q,g6⟩:=ih (a+20) (insO C a 19 (a+1) xs) o_ h (by rw[Vd];exact hx) (u.insO o_);refine⟨?_,g2,g3,o_,g5,q+1,o_⟩;have c1:((a+20:Nat):Int)=(a:Int)+20:=rfl;rw[c1]at h0 g1;rw[<-g1];simp(maxSteps:=300000) (disch:=omega)[↓ac,↓aa,K.sh,K.fi,h0]
  .rw[aa h];refine⟨?_,hx,u,ai _,h2,0,rfl⟩;simp(maxSteps:=300000) (disch:=omega)[↓ac,↓aa,K.sh,K.fi]
def aot (H:Hp hp D)(K:Cm hp L F C)(n:Nat)(hlen:n<=1000000000)(bs N:Nat)(hbs:1<=bs)(hb2:bs<=1000000000):∀(f a:Nat) (xs:C_),n<a+f+1->a<=n->xs.length=n->eE L xs->
  (Dn prog).code (.loop gI) ⟨[(0,.sl D 0 n),(1,A_ n),(2,F),(6,A_ bs),(7,A_ a),(8,A_ ((a:Int)+2*(bs:Int)))],⟨hp xs,N⟩⟩ =
  some (.exit 4,⟨[(0,.sl D 0 n),(1,A_ n),(2,F),(6,A_ bs),(7,A_ ((NH C n bs f xs a).2))],⟨hp (NH C n bs f xs a).1,N⟩⟩)∧
  (NH C n bs f xs a).1.length=n∧eE L (NH C n bs f xs a).1∧(NH C n bs f xs a).2<=n:=by
 intro f
 induction f with
 |zero =>
  intro a xs h1 h2 hx u;refine⟨?_,hx,u,h2⟩;rw[ah pX];simp(maxSteps:=300000) (disch:=omega)[↓ac,↓aa,NH,K.sh,K.fi]
 |succ f ih =>
  intro a xs h1 h2 hx u;rw[ah pX,NH];by_cases h:a+2*bs<=n
  .rw[ac h];have h0:=aep H K n hlen N (2*bs) a (a+bs) (a+2*bs) xs o_ o_ o_ h hx u;obtain⟨g1,g2,g3,g4⟩:=ih (a+2*bs) (symM C (2*bs) xs a (a+bs) (a+2*bs)) o_ h (by rw[yS];exact hx) (u.symM o_ o_ o_);refine⟨?_,g2,g3,g4⟩;have c1:((a+bs:Nat):Int)=(a:Int)+bs:=rfl;have c2:((a+2*bs:Nat):Int)=(a:Int)+2*bs:=o_;rw[c1,c2]at h0;rw[c2]at g1;rw[<-g1];simp(maxSteps:=300000) (disch:=omega)[↓ac,↓aa,K.sh,K.fi,h0]
  .rw[aa h];refine⟨?_,hx,u,h2⟩;simp(maxSteps:=300000) (disch:=omega)[↓ac,↓aa,K.sh,K.fi]
def anR (H:Hp hp D)(K:Cm hp L F C)(n:Nat)(hlen:n<=1000000000)(N:Nat):∀(f bs:Nat) (xs:C_),n<bs+f+1->1<=bs->bs<=2000000000->xs.length=n->eE L xs->
  (Dn prog).code (.loop gE) ⟨[(0,.sl D 0 n),(1,A_ n),(2,F),(6,A_ bs)],⟨hp xs,N⟩⟩ =
  some (.exit 2,⟨[],⟨hp (WI C n f xs bs),N⟩⟩)∧(WI C n f xs bs).length=n∧eE L (WI C n f xs bs):=by
 intro f
 induction f with
 |zero =>
  intro bs xs h1 h2 h3 hx u;refine⟨?_,hx,u⟩;rw[ah qd];simp(maxSteps:=300000) (disch:=omega)[↓ac,↓aa,WI,K.sh,K.fi]
 |succ f ih =>
  intro bs xs h1 h2 h3 hx u;rw[ah qd,WI];by_cases h:bs<n
  .rw[ac h];obtain⟨g1,g2,g3,g4⟩:=aot H K n hlen bs N h2 o_ n 0 xs o_ o_ hx u;generalize NH C n bs n xs 0=p at *;obtain⟨ys,a⟩:=p;simp only at g1 g2 g3 g4;have c0:((0:Nat):Int)=0:=rfl;have cz:(0:Int)+2*(bs:Int)=2*(bs:Int):=o_;have c2:((2*bs:Nat):Int)=2*(bs:Int):=o_;rw[c0,cz]at g1;unfold stE;simp only;by_cases h5:a+bs<n
   .rw[ac h5];have h0:=aep H K n hlen N (n-a) a (a+bs) n ys o_ o_ h5 (ai _) g2 g3;have c1:((a+bs:Nat):Int)=(a:Int)+bs:=rfl;obtain⟨k1,k2,k3⟩:=ih (2*bs) (symM C (n-a) ys a (a+bs) n) o_ o_ o_ (by rw[yS];exact g2) (g3.symM o_ h5 o_);refine⟨?_,k2,k3⟩;rw[c1]at h0;rw[c2]at k1;have cc:(bs:Int)*2=2*(bs:Int):=o_;rw[<-k1];simp(maxSteps:=300000) (disch:=omega)[↓ac,↓aa,K.sh,K.fi,g1,h0,cc]
   .rw[aa h5];obtain⟨k1,k2,k3⟩:=ih (2*bs) ys o_ o_ o_ g2 g3;refine⟨?_,k2,k3⟩;rw[c2]at k1;have cc:(bs:Int)*2=2*(bs:Int):=o_;rw[<-k1];simp(maxSteps:=300000) (disch:=omega)[↓ac,↓aa,K.sh,K.fi,g1,cc]
  .rw[aa h];refine⟨?_,hx,u⟩;simp(maxSteps:=300000) (disch:=omega)[↓ac,↓aa,K.sh,K.fi]
def am0 (H:Hp hp D)(K:Cm hp L F C)(n:Nat)(hlen:n<=1000000000)(hn:n % 20≠0)(N:Nat)(xs:C_)(hx:xs.length=n)(u:eE L xs) :
  (Dn prog).call tp [.sl D 0 n,A_ n,F] ⟨hp xs,N⟩=some (.tup [],⟨hp (q7 C n xs),N⟩):=by
 rw[ba Eu En rfl,q7];obtain⟨g1,g2,g3,_,g5,q,g6⟩:=anS H K n hlen N n 0 xs o_ o_ hx u;generalize IS C n n xs 0=p at *;obtain⟨ys,a⟩:=p;simp only at g1 g2 g3 g5 g6;have h0:=NR H K n hlen a n N o_ (ai _) ys g2 g3;unfold stS;simp only;obtain⟨k1,k2,k3⟩:=anR H K n hlen N n 20 (insO C a (n-(a+1)) (a+1) ys) o_ o_ o_ (by rw[Vd];exact g2) (g3.insO o_);have c0:((0:Nat):Int)=0:=rfl;have cz:(0:Int)+20=20:=rfl;have c2:((20:Nat):Int)=20:=rfl;rw[c0,cz]at g1;rw[c2]at k1;simp(maxSteps:=300000) (disch:=omega)[↓ac,↓aa,K.sh,K.fi,g1,h0,k1]
end
abbrev bC:=@List.all_eq_true
abbrev cU:=@List.not_mem_nil
abbrev fC:=@or_false
def dX (id:Nat):Nat:=if id<5 then 4 else if id=12 then 1 else 2
def da (id:Nat):Int:=[0,-1,-1,0,0,-4,-4,0,0,0,0,0,-60].getD id 0
def cu (id:Nat):Nat:=[1,3,3,3,3,9,9,8,8,13,13,17,121].getD id 1
def bI (id:Nat):Nat:=[0,0,1,0,1,0,1,1,2,1,2,2,0].getD id 0
def kY (low:Int)(w:Nat):Nat->Nat->G_
 |0,_=>[]
 |d+1,e=>kY low w d (e / w)++[((e % w:Nat):Int)+low]
def lT (id e:Nat):G_:=kY (da id) (cu id) (dX id) e
def Ms:G_->Nat
 |[]=>0
 |x::r=>x.natAbs+Ms r
def yw (id e:Nat):Nat:=Ms (lT id e)
def bh (id:Nat):Nat:=cu id ^ dX id
def akx (s:Nat):R_->C_
 |[]=>[]
 |(e,z)::r=>match Nat.beq z s with
  |true=>e::akx s r
  |false=>akx s r
def ay2 (id:Nat):R_:=(List.range (bh id)).map λe=>(e,yw id e)
def b8 (id:Nat):C_:=let l:=ay2 id;(List.range 61).flatMap λs=>akx s l
def avs (e:Nat):Nat->C_->Nat
 |i,[]=>i
 |i,x::r=>match Nat.beq x e with
  |true=>i
  |false=>avs e (i+1) r
def dy (id:Nat):C_:=let l:=b8 id;(List.range (bh id)).map λe=>avs e 0 l
abbrev jf (id:Nat):Prop:=1<=id∧id<=12
abbrev mS (id:Nat):AV:=.agg [A_ id,A_ (bI id),.d (.lst (cN (b8 id))),.d (.lst (cN (dy id)))]
abbrev Xk (id:Nat):AV:=.agg [A_ id,A_ (bI id),.own true 1 (cN (b8 id)),.own true 1 (cN (dy id))]
def alw:∀id∈List.range 13,bI id<=2∧(b8 id).length<=300∧(dy id).length<=300∧(b8 id).all (λe=>decide (e<bh id))=true:=e_
def IZ {id:Nat}(h:id<=12):bI id<=2∧(b8 id).length<=300∧(dy id).length<=300∧∀e∈b8 id,e<bh id:=by
 obtain⟨a,b,c,d⟩:=alw id g_;exact⟨a,b,c,λe he=>by simpa using bC.1 d e he⟩
def ids:C_:=[1,2,3,4,5,6,7,8,9,10,11,12]
def fK {id:Nat}(h:jf id):id∈ids:=by
 obtain⟨h1,h2⟩:=h;simp only[ids,aB,cU,fC];omega
abbrev SK (id:Nat):AV:=.agg [A_ (dX id),A_ (da id),A_ (da id+cu id-1),A_ (bI id)]
def Na:∀x∈ids,bq prog ao3 [A_ x]=some (.tup [SK x,A_ 0]):=Gv 100 ids (by kernel_rfl)
def FX:∀x∈ids,bq prog yF [SK x]=some (A_ (bh x)):=Gv 100 ids (by kernel_rfl)
def Cl {z:W_}{n:Nat}(h:n<=1000000000):Eh z (A_ n) (A_ n)=some (.own true z.length (List.replicate n z)):=by
 have h0:¬((n:Int)<0):=o_;have h1:Nat.ble n aW=true:=cO (aL h k_);have h2:Nat.ble n n=true:=by rw[ZT];simp
 simp only[Eh,dM,h1,h2]
abbrev fP:=@Bool.not_eq_true
abbrev bS:=@List.getElem?_map
abbrev kq:=@List.getElem?_range
def Q0 (x:Nat):bq prog Fw [.d (.int .u8 x)]=some (B_ false):=by
 rw[aU Sx Sk rfl];simp(maxSteps:=300000) (disch:=omega)[↓ac,↓aa]
def ahZ (x y:Nat):bq prog BK [.d (.int .u8 x),.d (.int .u8 y)]=some (A_ (if x<y then -1 else if y<x then 1 else 0)):=by
 rw[aU OL OR rfl];by_cases h1:x<y
 .rw[ac h1];simp(maxSteps:=300000) (disch:=omega)[↓ac,↓aa,Q0]
 .rw[aa h1];by_cases h2:y<x
  .rw[ac h2];simp(maxSteps:=300000) (disch:=omega)[↓ac,↓aa,Q0]
  .rw[aa h2];simp(maxSteps:=300000) (disch:=omega)[↓ac,↓aa,Q0]
@[simp] def aBz {len n S o:Nat}{k:IntKind}{z:Int}(h0:0<=z)(h:z<len):IU len n (.ptr S o) (.d (.int k z))=some (.ptr S (o+z.toNat*n)):=by
 obtain⟨i,rfl⟩:=aA h0;have hl:Nat.ble len i=false:=by rw[<-fP,bg];omega
 show(match Nat.ble len i with|true=>none|false=>gP (i*n) (.ptr S o))=_;rw[hl];rfl
def jr (id:Nat):C_:=(List.range (bh id)).map λe=>yw id e
def cC (l:C_)(x y:Nat):Int:=if nth l x<nth l y then -1 else if nth l y<nth l x then 1 else 0
def qS (id:Nat):D_:=(List.range 289).map λe=>.d (.int .u8 (if e<bh id then yw id e else 0:Nat))
def Zr {id:Nat}:(qS id).length=289:=by simp[qS]
def ZS {id x:Nat}(h:x<bh id)(h2:bh id<=289):(qS id)[x]?=some (.d (.int .u8 (nth (jr id) x:Nat))):=by
 have e:nth (jr id) x=yw id x:=by
  have:=zk (l:=jr id) (i:=x) (by simp[jr];exact h);rw[jr,bS,kq h]at this;simpa [jr] using this.symm
 rw[e,qS,bS,kq o_];simp[h]
def aBk {hp:C_->am}{S id:Nat}(hS:∀xs,get (hp xs) S=some (.cells (qS id)))(h2:bh id<=289):Cm hp (bh id) (.fn G5 [] [.ptr S 0]) (cC (jr id)) where
 sh:=rfl
 fi:=rfl
 cl xs N x y hx hy:=by
  have e1:=ZS hx h2;have e2:=ZS hy h2;show(Dn prog).call G5 ([]++([A_ (x:Nat),A_ (y:Nat)]++[.ptr S 0])) ⟨hp xs,N⟩=_;simp only[aO,aR];rw[ba adm af5 rfl];generalize qS id=Z at *;simp(maxSteps:=300000) (disch:=omega)[↓ac,↓aa,hS,e1,e2,ahZ,cC]
end Go.Vm
end
