import Derived.KernelRfl
import Derived.Test.YtpidphkolofkfaaGreatP2
set_option linter.unusedVariables false
set_option linter.unusedSimpArgs false
set_option linter.defProp false
set_option linter.unusedSectionVars false
noncomputable section
namespace Go.Vm
set_option maxRecDepth 100000
set_option maxHeartbeats 8000000
theorem e_ {p:Prop}(h:p:=by decide +kernel):p:=h
theorem g_ {p:Prop}(h:p:=by simp;omega):p:=h
theorem t_ {p:Prop}(h:p:=by simp only[];omega):p:=h
def aqF:Nat->Nat->Nat->Nat->Nat×Nat
 | 0,_,a,n=>(a,n)
 | f+1,m,a,n=>match Nat.ble (n % 16) 7 with
  | true=>(a+m*(n % 16),n / 16)
  | false=>aqF f (m*8) (a+m*(n % 16-8)) (n / 16)
def gk (α:Type):=Nat×Nat->α×(Nat×Nat)
def bQ {α:Type}(x:α):gk α:=fun s=>(x,s)
def gk.a {α β:Type}(p:gk (α->β)) (q:gk α):gk β:=fun s=>match p s with
 | (f,s)=>match q s with
  | (x,s)=>(f x,s)
def gk.b {α β:Type}(p:gk α) (q:α->gk β):gk β:=fun s=>match p s with
 | (x,s)=>q x s
def eg:gk Nat:=fun s=>match s with
 | (t,n)=>match aqF 40 1 0 n with
  | (v,n)=>(v,(t,n))
def arX:gk Nat:=fun s=>match s with
 | (t,n)=>(t,(t,n))
def axb {α:Type}(p:gk α):Nat->gk (List α)
 | 0=>bQ []
 | k+1=>(bQ .cons).a p |>.a (axb p k)
def qt {α:Type}(p:gk α):gk (List α):=eg.b (axb p)
def Xw (v:Nat):Bool:=Nat.beq (v % 2) 0
def amh (t v:Nat):Nat:=match Xw v with
 | true=>t-v / 2
 | false=>v / 2
def Wt:gk Nat:=eg.b fun v=>arX.b fun t=>bQ (amh t v)
def arw:gk Nat:=fun s=>match s with
 | (t,n)=>match aqF 40 1 0 n with
  | (v,n)=>match Xw v with
   | true=>(t+1+v / 2,(t+1+v / 2,n))
   | false=>(v / 2,(v / 2,n))
def amp:Nat->Nat->Int
 | 0,_=>0
 | f+1,v=>match v with
  | 0=>0
  | v=>match Xw v with
   | true=>2*amp f (v / 2)
   | false=>2*amp f (v / 2)+1
def aCC (v:Nat):Int:=match Xw v with
 | true=>amp 80 (v / 2)
 | false=>-amp 80 (v / 2+1)
def aeR:gk Int:=(bQ aCC).a eg
def ax1:Nat->IntKind
 | 0=>.i64
 | 1=>.u8
 | 2=>.u64
 | 3=>.u32
 | _=>.i64
def VF:gk Bool:=(bQ fun v=>Nat.beq v 1).a eg
def aA9:Nat->gk D
 | 0=>bQ (.bool false)
 | 1=>bQ (.bool true)
 | k=>(bQ fun z=>D.int (ax1 (k-2)) z).a aeR
def asa:gk D:=eg.b aA9
def aty:Nat->gk AV
 | 0=>(bQ fun z=>A_ z).a aeR
 | 1=>bQ (B_ true)
 | 2=>bQ (B_ false)
 | 3=>bQ .nl
 | 4=>(bQ fun z=>.d (.int .u8 z)).a aeR
 | 5=>(bQ .d).a asa
 | 6=>bQ .nilp
 | 7=>bQ .nilf
 | 9=>(bQ fun z=>.d (.int .u64 z)).a aeR
 | 10=>(bQ fun z=>.d (.int .u32 z)).a aeR
 | 19=>bQ .junk
 | 20=>(bQ fun f=>.fn f [] []).a eg
 | _=>bQ .junk
def ay2:gk AV:=eg.b aty
def azQ:Nat->Nat->gk Rd
 | 0,v=>arX.b fun t=>bQ (.m (amh t v))
 | 1,v=>arX.b fun t=>bQ (.s (amh t v))
 | _,v=>(bQ .c).a (aty v)
def dD:gk Rd:=eg.b fun v=>azQ (v % 3) (v / 3)
def ZI {α:Type}(p:gk α):gk (Option α):=eg.b fun v=>match v with
 | 0=>bQ none
 | _=>(bQ some).a p
def axj:gk I_:=(bQ fun v=>match v with
 | 0=>none
 | v+1=>some v).a eg
def aDB:Nat->BinOp
 | 1=>.eql
 | 2=>.lss
 | 3=>.neq
 | 4=>.gtr
 | 5=>.sub
 | 6=>.geq
 | 7=>.mul
 | 8=>.shr
 | 9=>.leq
 | 10=>.shl
 | 11=>.rem
 | 12=>.and
 | 13=>.quo
 | 14=>.or
 | _=>.add
def aDG:Nat->UnOp
 | 1=>.neg
 | _=>.not
def aes:Nat->gk n9
 | 0=>(bQ .mov).a dD
 | 1=>(bQ .bin).a ((bQ aDB).a eg) |>.a dD |>.a dD
 | 2=>(bQ .ld).a axj |>.a eg |>.a dD
 | 3=>(bQ .fa).a eg |>.a dD
 | 4=>(bQ .kill).a (qt Wt)
 | 5=>(bQ .st).a eg |>.a dD |>.a dD
 | 6=>(bQ .ext).a Wt |>.a VF |>.a eg
 | 7=>(bQ .call).a eg |>.a (qt dD)
 | 8=>(bQ .pick).a dD |>.a dD |>.a dD
 | 9=>(bQ .len).a dD
 | 10=>(bQ .ia).a eg |>.a dD |>.a dD
 | 11=>(bQ .box).a dD
 | 12=>(bQ .alloc).a (qt ay2)
 | 13=>(bQ .calli).a eg |>.a (qt dD)
 | 14=>(bQ .callv).a dD |>.a (qt dD)
 | 15=>(bQ .nilck).a dD
 | 16=>(bQ .un).a ((bQ aDG).a eg) |>.a dD
 | 17=>(bQ .build).a (qt ay2) |>.a (qt ((bQ fun a b c=>(a,b,c)).a eg |>.a eg |>.a dD))
 | 18=>(bQ .app).a eg |>.a dD |>.a dD
 | 19=>(bQ .mks).a eg |>.a (qt dD)
 | 20=>(bQ .conv).a ((bQ ax1).a eg) |>.a dD
 | 21=>(bQ .mkfn).a eg |>.a (qt dD) |>.a (qt dD)
 | 22=>(bQ .iarr).a eg |>.a eg |>.a dD |>.a dD
 | 23=>(bQ .mkslice).a (qt asa) |>.a dD |>.a dD
 | 24=>(bQ .slice).a eg |>.a dD |>.a (ZI dD) |>.a (ZI dD) |>.a (ZI dD)
 | 26=>(bQ .toStr).a dD
 | 27=>(bQ .binb).a VF |>.a dD |>.a dD
 | 28=>(bQ .minmax).a VF |>.a (qt dD)
 | 29=>(bQ .ix).a eg |>.a eg |>.a VF |>.a dD |>.a dD
 | 30=>(bQ .ixs).a dD |>.a dD
 | 32=>(bQ .bina).a VF |>.a (qt VF) |>.a dD |>.a dD
 | 33=>(bQ .appz).a (qt asa) |>.a dD |>.a dD
 | 34=>(bQ .cpy).a eg |>.a dD |>.a dD
 | 36=>(bQ .mksv).a eg |>.a (qt dD)
 | 37=>(bQ .slarr).a eg |>.a dD |>.a (ZI dD) |>.a (ZI dD) |>.a (ZI dD)
 | 39=>(bQ .cap).a dD
 | 42=>(bQ .frz).a eg
 | _=>bQ .bad
def aD3:gk (Nat×Nat):=(bQ .mk).a eg |>.a eg
def aAp:Nat->Nat->gk VI
 | 0,o=>arw.b fun d=>(bQ fun o=>⟨some d,none,o,[]⟩).a (aes o)
 | 1,o=>(bQ fun o=>⟨none,none,o,[]⟩).a (aes o)
 | 2,o=>arw.b fun d=>Wt.b fun g=>(bQ fun o=>⟨some d,some (g,true),o,[]⟩).a (aes o)
 | _,o=>arw.b fun d=>Wt.b fun g=>(bQ fun o=>⟨some d,some (g,false),o,[]⟩).a (aes o)
def amf (v:Nat):gk VI:=aAp (v % 4) (v / 4)
def aA7:Nat->gk VI
 | 184=>(bQ fun(th:R_) (x:VI)=>⟨x.dst,x.guard,x.op,th⟩).a (qt aD3) |>.a (eg.b amf)
 | 181=>(bQ fun(g:Nat) (w:Bool) (x:VI)=>⟨x.dst,some (g,w),x.op,x.th⟩).a Wt |>.a VF |>.a (eg.b amf)
 | v=>amf v
def axd:gk VI:=eg.b aA7
def aAn (s:List VC) (r:gk VC):Nat->gk VC
 | 0=>(bQ .seq).a r |>.a r
 | 1=>(bQ (.reg false)).a (qt axd)
 | 2=>(bQ .cond).a dD |>.a r |>.a r
 | 3=>(bQ K).a (qt Wt)
 | 4=>bQ .skip
 | 5=>bQ .ret
 | 6=>(bQ .block).a eg |>.a r
 | 7=>(bQ fun k=>s.getD k .skip).a eg
 | 8=>(bQ F).a Wt
 | 9=>(bQ .exit).a eg
 | 10=>(bQ .loop).a r
 | 11=>(bQ (.reg true)).a (qt axd)
 | 12=>(bQ .rangeF).a dD |>.a (qt eg) |>.a r |>.a r
 | 13=>(bQ .scope).a r
 | 14=>(bQ .label).a eg
 | 15=>(bQ .goto).a eg
 | 16=>(bQ .clone).a eg
 | _=>bQ .skip
def arl (s:List VC):Nat->gk VC
 | 0=>bQ .skip
 | f+1=>eg.b (aAn s (arl s f))
def aDx:gk rG:=eg.b fun v=>match Xw v with
 | true=>bQ (.tmp (v / 2))
 | false=>(bQ (.cell (v / 2))).a axj
def bq (s:List VC) (n:Nat):VC:=(arl s 1000 (0,n)).1
def aN (s:List VC) (n:Nat):aj:=((bQ .mk).a eg |>.a (qt aDx) |>.a (arl s 1000) <| (0,n)).1
def aE {α:Type}(c:α) {d:α}(h:c=d:=by show ?c=?d;refine(?f:?c=?d->?c=?d) ?h;rotate_left;cbv;exact fun _=>by kernel_rfl):c=d:=h
def bW {α:Type}(c:α) {k d:α}(h:k=d) (g:c=k:=by exact rfl):c=d:=g.trans h
abbrev O:AV:=A_ 0
abbrev O8:AV:=.d (.int .u8 0)
abbrev Q (n:Int):Rd:=.c (.d (I n))
abbrev tt:Rd:=.c (B_ true)
abbrev ff:Rd:=.c (B_ false)
abbrev A (d s:Nat):VI:=V d (.mov (.m s))
abbrev B (d s:Nat):VI:=V d (.mov (.s s))
abbrev C (d:Nat) (s:Rd):VI:=V d (.mov s)
abbrev M (d s:Nat):VI:=V d (.ld none 0 (.m s))
abbrev G (d s:Nat):VI:=V d (.ld none 0 (.s s))
abbrev Z (l:C_):VI:=N (.kill l)
abbrev H (d:Nat) (f:FuncId) (l:V_):VI:=V d (.call f l)
abbrev L (d:Nat) (o:BinOp) (x y:Nat):VI:=V d (.bin o (.m x) (.m y))
abbrev P (d:Nat) (o:BinOp) (x:Nat) (n:Int):VI:=V d (.bin o (.m x) (Q n))
abbrev J (d:Nat) (o:BinOp) (x y:Nat):VI:=V d (.bin o (.s x) (.s y))
abbrev X (d n s:Nat):VI:=V d (.fa n (.s s))
abbrev E (d s:Nat) (x:Bool) (n:Nat):VI:=V d (.ext s x n)
abbrev Yd (n a b:Nat):VI:=N (.st n (.s a) (.m b))
abbrev Rg (l:T_):VC:=.reg false l
def unp (q:C_) (l:T_):T_:=q.filterMap fun i=>l[i]?
abbrev yd:Nat:=3
abbrev AP:Nat:=4
abbrev rJ:Nat:=5
abbrev ER:Nat:=6
abbrev yW:Nat:=7
abbrev OD:Nat:=8
abbrev Hm:Nat:=9
abbrev Ca:Nat:=10
abbrev Qe:Nat:=11
abbrev rQ:Nat:=12
abbrev K7:Nat:=13
abbrev F5:Nat:=14
abbrev Jc:Nat:=15
abbrev GF:Nat:=16
abbrev lC:Nat:=17
abbrev jx:Nat:=18
abbrev CX:Nat:=19
abbrev tg:Nat:=20
abbrev u6:Nat:=21
abbrev ph:Nat:=22
abbrev KH:Nat:=23
abbrev Cp:Nat:=24
abbrev azv:Nat:=25
abbrev fk:Nat:=26
abbrev BR:Nat:=27
abbrev ach:Nat:=28
abbrev Nb:Nat:=29
abbrev sk:Nat:=30
abbrev Fd:Nat:=31
abbrev Lv:Nat:=32
abbrev CE:Nat:=33
abbrev T9:Nat:=34
abbrev wL:Nat:=35
abbrev wm:Nat:=36
abbrev Lp:Nat:=37
abbrev yL:Nat:=38
abbrev nL:Nat:=39
abbrev EP:Nat:=40
abbrev za:Nat:=41
abbrev YF:Nat:=42
abbrev yQ:Nat:=43
abbrev Ue:Nat:=44
abbrev zm:Nat:=45
abbrev yX:Nat:=46
abbrev nP:Nat:=47
abbrev Pl:Nat:=48
abbrev MW:Nat:=49
abbrev zj:Nat:=50
abbrev Qn:Nat:=51
abbrev xK:Nat:=52
abbrev mA:Nat:=53
abbrev L4:Nat:=54
abbrev tP:Nat:=55
abbrev ti:Nat:=56
abbrev Gn:Nat:=57
abbrev jo:Nat:=58
abbrev Uy:Nat:=59
abbrev so:Nat:=60
abbrev Gl:Nat:=61
abbrev Bq:Nat:=62
abbrev CJ:Nat:=63
abbrev rU:Nat:=64
abbrev vU:Nat:=65
abbrev yo:Nat:=66
abbrev RP:Nat:=67
abbrev wD:Nat:=68
abbrev nC:Nat:=69
abbrev BV:Nat:=70
abbrev Rq:Nat:=71
abbrev vj:Nat:=72
abbrev XX:Nat:=73
abbrev U3:Nat:=74
abbrev F9:Nat:=75
abbrev Hf:Nat:=76
abbrev pE:Nat:=77
abbrev Dr:Nat:=78
abbrev MZ:Nat:=79
abbrev C6:Nat:=80
abbrev QT:Nat:=81
abbrev RE:Nat:=82
abbrev Uc:Nat:=83
abbrev GC:Nat:=84
abbrev MF:Nat:=85
abbrev pW:Nat:=86
abbrev CQ:Nat:=87
abbrev Ch:Nat:=88
abbrev D8:Nat:=89
abbrev GA:Nat:=90
abbrev Ve:Nat:=91
abbrev iT:Nat:=92
abbrev Q4:Nat:=93
abbrev aug:Nat:=94
abbrev UP:Nat:=95
abbrev Pv:Nat:=96
abbrev ad5:Nat:=97
abbrev yy:Nat:=98
abbrev AN:Nat:=99
abbrev G9:Nat:=100
abbrev pQ:Nat:=101
abbrev AA:Nat:=102
abbrev wo:Nat:=103
abbrev D1:Nat:=104
abbrev EH:Nat:=105
abbrev BK:Nat:=106
abbrev DS:Nat:=107
abbrev ID:Nat:=108
abbrev Eh:Nat:=109
abbrev Dm:Nat:=110
abbrev DC:Nat:=111
abbrev BY:Nat:=112
abbrev C7:Nat:=113
abbrev v6:Nat:=114
abbrev Rm:Nat:=115
abbrev Pj:Nat:=116
abbrev PZ:Nat:=117
abbrev ET:Nat:=118
abbrev Kf:Nat:=119
abbrev qp:Nat:=120
abbrev P0:Nat:=121
abbrev Ux:Nat:=122
abbrev Qx:Nat:=123
abbrev Uu:Nat:=124
abbrev AJ:Nat:=125
abbrev UV:Nat:=126
abbrev JL:Nat:=127
abbrev Ms:Nat:=128
abbrev i9:Nat:=129
abbrev mJ:Nat:=130
abbrev Cl:Nat:=131
abbrev Iz:Nat:=132
abbrev aom:Nat:=133
abbrev Aj:Nat:=134
abbrev E7:Nat:=135
abbrev gD:Nat:=136
abbrev sM:Nat:=137
abbrev Jf:Nat:=138
abbrev Df:Nat:=139
abbrev tc:Nat:=140
abbrev Vc:Nat:=141
abbrev Vg:Nat:=142
abbrev fy:Nat:=143
abbrev oe:Nat:=144
abbrev Px:Nat:=145
abbrev UE:Nat:=146
abbrev mD:Nat:=147
abbrev nk:Nat:=148
abbrev JI:Nat:=149
abbrev YA:Nat:=150
abbrev Yp:Nat:=151
abbrev FM:Nat:=152
abbrev tQ:Nat:=153
abbrev Db:Nat:=154
abbrev aqv:Nat:=155
abbrev GS:Nat:=156
abbrev atm:Nat:=157
abbrev yk:Nat:=158
abbrev azk:Nat:=159
abbrev uH:Nat:=160
abbrev GM:Nat:=161
abbrev uF:Nat:=162
abbrev vQ:Nat:=163
abbrev aqu:Nat:=164
abbrev aqt:Nat:=165
abbrev nN:Nat:=166
abbrev cN:Nat:=167
abbrev uM:Nat:=168
abbrev qC:Nat:=169
def pr:aj:=aN [] 0x152918218418002ad2ab2a929f29d29b28d28b2891ff1fd1ef1ed1df1dd1db2f2d1d2b2978d1901875a048739191c067688271a067001801a281601e7404e582026001874c04873911a067282718067604e584021882026001872a048027140618e2026001873804871d21a603e2e06401a6c06201a6000261047919c03c1001b91294d9004cb2d0101a03800186384bd1b9061c21903c2e06018280518e18191019d12948d003ff152d33002352968101a03801186383f919d061c21803c5800280518c181a1041f1305218418019918f18d1d4293c91901873804802716067404e5820260063810461c2703c2e1601828150185d001c100020263045e4c02100591292b9002ab1d0101a038011863829d59061c2603c2e0601828054818191041b13051ed1904900210718518000224229752a048704018b4a20360061503c2e061e18710019b1b0041e3c210012918001905c325c4101812
def pn:=aE pr
def r9:aj:=aN [] 0x151bf1bd1bb1b91ab1a919f19918f1897f796f1f1d1b1929294cb101873e0481e1e711806700601a6271405a5820260018738048182716067404e582026001872a04802714065e2026001872a0481882714063c2026001872a04802714064a2026002d4a03a1051831804f1292ab0029d1d0101a038011863828f4f061c2603c28160181a153c18191003b1291df001d9190101a03800186381cb3b061c21903c28060181a052c1819102912919b0018d152d7f742d33002350680020000436820180381160380142387929001b283c1b1001291810210010
def Mw:=aE r9
def ip:VC:=bq [] 0x11bd702260042d2e031455501103187130002611c03c601a01861c190582e006000181a041c6101600197130402242291872a0482c2724062e202600638204604c6000181a001c1d1801a100
def iu:=aE ip
def ig:VC:=bq [] 0x138b1902260043b7803145550110318191300026a826404604c60001861c10583c006000181a341c71036021919130402242291872a0481a82724063c202600638204604c6000181a301c3c5a01a100
def gZ:=aE ig
def Bg (a0 a1:VC):aj:=aN [a0,a1] 0x152181dd1db1d91cf1c91bf1bd1bb182959d50753e0487ec827418077604f700401b1a4201f600753e0481a827418077604f700401b1a3201f6002c26404604c6000181a018e1c2a100013171a02602001100013071a0060200110001291800305c310411
def Mq (a0 a1:VC):=aE (Bg a0 a1)
def rI:aj:=Bg ip ig
def Mr:=bW rI (Mq ip ig)
def K9:aj:=aN [] 0x154185180491291df001d9190104038012038611d03c61c21e03c2e1601828151e181910041d130519b001b1904c0031071851800020263043960210791d061c2703c2e06018280521841000222902001b001905c325c5101a1822
def KB:=aE K9
def KL:aj:=aN [] 0x1528f1904f3e021042a21d0111d13002518246181a1b6291874c04873941a0676888271806700601a281401e4a202600026104581c01a10006181f12919b0018d1b0101a03800186387f1f061c21903c2e16018280561819100012902001905c325c4101812
def ajt:=aE KL
def zV:VC:=bq [] 0x11cad3ed0226e004216012d383e105822610422622a06c580079006c3ce0711bdb2b01d002104603192423040201d723ec4110
def Pm:=aE zV
def Ph (a0:VC):VC:=bq [a0] 0x11cff3ab02238e004216012d3c301c62a10198611019c28e2d96b006100183c32a1c1810223071a0360200604c6c3be031003dd1291b9d290770101bc0012f86000185e201c51041192e3823002246181a529754c04802731a077001801b72601f7407f582036002263046000183c201c1b1002601192423040201d723aa4110
def adB (a0:VC):=aE (Ph a0)
def fC:VC:=Ph zV
def FO:=bW fC (adB zV)
def Ei:VC:=.regP (.range 7) [0,5,1,2,3,4,6] [4,5] [V 148 (.build [.nl,B_ false,O,.nl,.nl] []),A 149 6,V 150 (.nilck (.m 149)),V 151 (.fa 2 (.m 150)),M 152 151,Yd 5 4 148,A 5 152]
abbrev PC:=[B 154 6,B 155 6,B 156 6,V 157 (.nilck (.m 156)),V 158 (.fa 0 (.m 157)),M 159 158,B 160 6,V 161 (.nilck (.m 160)),V 162 (.fa 1 (.m 161)),M 163 162,X 164 0 2,M 165 164,X 166 1 4,M 167 166,V 168 (.ld (some 4) 0 (.s 7)),H 169 tg [.m 159,.m 163,.m 165,.m 167,.m 168],A 153 169,E 170 153 true 0,E 171 153 false 1,E 172 153 false 2,Yd 9 10 170,V 173 (.nilck (.m 154)),V 174 (.fa 1 (.m 173)),N (.st 1 (.m 174) (.m 171)),V 175 (.nilck (.m 155)),V 176 (.fa 2 (.m 175)),N (.st 1 (.m 176) (.m 172))]
def Eu:VC:=.regP (.range 27) [2,3,4,5,6,7,8,9,10,11,12,13,14,15,16,17,20,0,18,21,22,23,1,19,24,25,26] [] PC
def Du:VC:=.regP (.range 7) [0,5,1,2,3,4,6] [4,5] [V 182 (.build [.nl,B_ false,O,.nl,.nl] []),A 183 6,V 184 (.nilck (.m 183)),V 185 (.fa 2 (.m 184)),M 186 185,Yd 5 4 182,A 5 186]
def Pw (a0 a1 a2:VC):VC:=bq [a0,a1,a2] 0x12a994bb0224f8004212d186012d3c001c62a1901986119019c18811a0186100183c01a1c710452702d181f185181a81aa230000020263046000186201c607c5859c05104eb13170003333300040400192d68110450701f185181c1e23000020263046000186201c607c580051006605191f18518242300040201d724ba4110
def adV (a0 a1 a2:VC):=aE (Pw a0 a1 a2)
def eY:VC:=Pw Ei Eu Du
def zE:=bW eY (adV Ei Eu Du)
def uw:VC:=.regP [0,1,3,4,5,2,6,7] (.range 8) [2,4] [B 34 6,B 35 6,V 36 (.calli jx [.m 35,Q 3]),X 37 1 2,M 38 37,P 39 .sub 38 1,L 40 .eql 36 39,V 41 (.calli lC [.m 34,.m 40])]
abbrev zW:=Rg [B 42 6,B 43 6,V 44 (.calli jx [.m 43,Q 4]),P 45 .eql 44 0,V 46 (.calli lC [.m 42,.m 45]),Z [46]]
abbrev zN:=Rg [V 7 (.alloc [O8,O8,O,.nl])]
abbrev sF:=Rg [X 47 1 2,M 48 47,P 49 .eql 48 2]
abbrev rY:=Rg [B 50 6,V 51 (.calli jx [.m 50,Q 1]),P 52 .eql 51 1,X 53 1 4,N (.st 1 (.m 53) (.m 52))]
abbrev lD:=Rg [X 54 1 4,M 55 54,A 56 55,W 56 57 (.mov (.s 6)),W 56 58 (.nilck (.s 57)),W 56 59 (.fa 2 (.s 58)),W 56 60 (.ld none 0 (.s 59)),W 56 61 (.bin .eql (.s 60) (Q 0)),V 62 (.pick (.m 56) (.s 61) ff),Z [57,58,59,60,61]]
abbrev PJ:=[B 64 6,B 65 6,B 66 6,V 67 (.nilck (.m 66)),V 68 (.fa 0 (.m 67)),M 69 68,B 70 6,V 71 (.nilck (.m 70)),V 72 (.fa 1 (.m 71)),M 73 72,X 74 0 2,M 75 74,H 76 CX [.m 69,.m 73,.m 75],A 63 76,E 77 63 true 0,E 78 63 false 1,E 79 63 false 2,Yd 4 7 77,V 80 (.nilck (.m 64)),V 81 (.fa 1 (.m 80)),N (.st 1 (.m 81) (.m 78)),V 82 (.nilck (.m 65)),V 83 (.fa 2 (.m 82)),N (.st 1 (.m 83) (.m 79))]
def xy:VC:=.regP (.range 24) [2,3,4,5,6,7,8,9,10,11,12,13,14,17,0,15,18,19,20,1,16,21,22,23] [] PJ
abbrev D6:=Rg [B 84 6,V 85 (.nilck (.m 84)),V 86 (.fa 2 (.m 85)),M 87 86,P 88 .neq 87 0]
def xI:VC:=.regP (.range 7) [0,5,1,2,3,4,6] [4,5] [V 89 (.build [.nl,B_ false,O,.nl,.nl] []),A 90 6,V 91 (.nilck (.m 90)),V 92 (.fa 2 (.m 91)),M 93 92,Yd 5 4 89,A 5 93]
abbrev xw:=Rg [B 94 6,V 95 (.calli jx [.m 94,Q 2]),X 96 2 4,N (.st 1 (.m 96) (.m 95))]
abbrev xR:=Rg [B 97 6,X 98 2 4,M 99 98,P 100 .lss 99 3,V 101 (.calli lC [.m 97,.m 100]),Z [101]]
abbrev xQ:=Rg [X 102 3 7,M 103 102,V 104 (.len (.m 103)),C 105 (Q 0)]
abbrev EB:=Rg [X 139 1 2,M 140 139,C 141 (Q 0)]
abbrev Dj:=Rg [B 195 6,V 196 (.calli u6 [.m 195]),A 194 196,E 197 194 true 0,E 198 194 false 1,X 199 4 4,N (.st 1 (.m 199) (.m 197)),Z [194,198]]
abbrev Ek:=Rg [B 200 6,V 201 (.nilck (.m 200)),V 202 (.fa 2 (.m 201)),M 203 202,P 204 .neq 203 0]
def xA:VC:=.regP (.range 7) [0,5,1,2,3,4,6] [4,5] [V 205 (.build [.nl,B_ false,O,.nl,.nl] []),A 206 6,V 207 (.nilck (.m 206)),V 208 (.fa 2 (.m 207)),M 209 208,Yd 5 4 205,A 5 209]
abbrev DI:VC:=(.reg true [
 B 210 6,
 V 211 (.nilck (.m 210)),
 V 212 (.fa 0 (.m 211)),
 M 213 212,
 V 214 (.len (.m 213)),
 B 215 6,
 V 216 (.nilck (.m 215)),
 V 217 (.fa 1 (.m 216)),
 M 218 217,
 L 219 .sub 214 218,
 P 220 .gtr 219 7,
 A 221 220,
 U 221 222 (.mov (.s 6)),
 U 221 223 (.nilck (.s 222)),
 U 221 224 (.fa 0 (.s 223)),
 U 221 225 (.ld none 0 (.s 224)),
 U 221 226 (.mov (.s 6)),
 U 221 227 (.nilck (.s 226)),
 U 221 228 (.fa 1 (.s 227)),
 U 221 229 (.ld none 0 (.s 228)),
 U 221 230 (.slice 1 (.s 225) (some (.s 229)) none none),
 U 221 231 (.call ph [.s 230,.c (.d (.int .u8 1))]),
 V 232 (.pick (.s 221) tt (.s 231))])
abbrev Dw:=Rg [V 233 (.build [.nl,B_ false,O,.nl,.nl] []),Yd 5 4 233,C 5 (Q 8)]
abbrev Dy:=Rg [V 234 (.ld (some 5) 0 (.s 4)),Yd 5 4 234,C 5 (Q 0)]
def Y1 (a0 a1 a2 a3 a4 a5 a6 a7 a8 a9 a10 a11 a12 a13 a14 a15 a16 a17 a18 a19 a20:VC):aj:=aN [a0,a1,a2,a3,a4,a5,a6,a7,a8,a9,a10,a11,a12,a13,a14,a15,a16,a17,a18,a19,a20] 0x152c70452b702deb279f79d79b79978f78d78b7896ff6fd6fb1d1c32a70004529702b9b2287001f701f185184bb4b923001e71a0561d70043ab3a9231c71a0161b701a7019704518701f185180018ab27701ff13670005ef257004474d9237002701701ab13070041e2292a012d6001c3e07c101a03801186382e96d0612803c1900585801a102b91d0605c00000334c18c31045621b003c52d3c061c18310518313000228f4906384046688270460001828101c604c1a2e07105421b003c52d3c0661831051831300021af2f0600188611f03c28051c18410060012902003300235268325c4101a61922
def alD (a0 a1 a2 a3 a4 a5 a6 a7 a8 a9 a10 a11 a12 a13 a14 a15 a16 a17 a18 a19 a20:VC):=aE (Y1 a0 a1 a2 a3 a4 a5 a6 a7 a8 a9 a10 a11 a12 a13 a14 a15 a16 a17 a18 a19 a20)
def Oo:aj:=Y1 uw zW zN sF rY lD xy D6 xI xw xR xQ fC EB eY Dj Ek xA DI Dw Dy
def alx:=bW Oo (alD uw zW zN sF rY lD xy D6 xI xw xR xQ fC EB eY Dj Ek xA DI Dw Dy)
def M9:aj:=aN [] 0x15418518002001df190604c61c21e03c2e1601828152a18610045282000219021071851800021af2d060018861c22f03c2e0601828051a1851054200021902106185180002791d0600188611f03c280521841006002229020002001905c325c5101a1822
def Nd:=aE M9
def kQ:VC:=bq [] 0x15891b0226004491be03145181901107185181b130000260018864c23803c601a01861c190584a006000182e001c601a01861c190584a0060001828041c1c1b01600191b130402638204604c60001828001c4a1bc05100
def yg:=aE kQ
def kV:VC:=bq [] 0x118fd1f02260045d2ea03145181901107185181f1d230000266e101dc60001861c10585e0060001861c105858006000182e301c60001861c10585e0060001861c1058580060001828341c291b05604191f13040265a204604c60001861c1058580060001828301c5e2da018100
def yn:=aE kV
def ya (a0:VC):VC:=bq [a0] 0x16eb1d02260044f1fe031013071a046024011045181901107185181d130000265a304604c60001861c105858006000182e301c604c60001861c1058580060001828341c1d1b003602197185181d13000402638204604c60001828301c5828a05100
def Ju (a0:VC):=aE (ya a0)
def kP:VC:=ya kV
def xZ:=bW kP (Ju kV)
def Bw (a0 a1:VC):aj:=aN [a0,a1] 0x15519011061851801300171a02602001100013071a0060200110045181901107185180002246181a1c1e2c2e383a3c3e484e585a5c5e5d5b4d4b493f3d3a29756804873931e0771c04f7001a01b2e31801f7604f700401b283201f600756804873931e0771c04f7001a01b2e01801f7604f700401b280201f600756804873931e0771c01db7001a01b2e41801f7601db700401b284201f600754c04872b31a077001801b2e2601f700401b282201f60062a101dc6000182e101c60001828161c58100012918001905c325c4101812
def Od (a0 a1:VC):=aE (Bw a0 a1)
def tX:aj:=Bw kQ kP
def Nw:=bW tX (Od kQ kP)
def KE:VC:=.regP (.range 9) [0,6,1,2,3,7,4,5,8] [1,6] [V 11 (.build [O,O,B_ false,O] [(1,1,Q 1)]),V 12 (.ld (some 9) 0 (.s 3)),V 13 (.mks 9 [.m 12]),V 14 (.build [.nl,B_ false,O,.nl,.nl] [(0,1,.m 13)]),A 15 4,P 16 .eql 15 0,Yd 4 0 11,Yd 5 1 14,A 2 16]
def Qa (a0:VC):aj:=aN [a0] 0x1521807001b1297f00791192d333330004040019768101a03801186386b1b060223903c613130004044018c2211619c1a10012918003300235068002000041684104635130
def Qg:aj:=Qa KE
def ik:VC:=bq [] 0x13ff702260042d19c03145550110318713000239826404604c60001861c10582e006000181a541c7101600197130402638204604c6000181a501c2e18e05100
def kg:=aE ik
def iE:VC:=bq [] 0x15ab1902260043b1d803145550110318191300026a826404604c60001861c10583c006000181a641c71036021919130402638204604c6000181a601c3c1ca05100
def kb:=aE iE
def io:VC:=bq [] 0x1189d1d02260044f2ce031455501103181d1b23000239826404604c6000186401c61c5058580060001861c10584a006000181a741c1b107606191d13040265a204604c60001861c10584a006000181a701c582ba018100
def kh:=aE io
def wO (a0:VC):VC:=bq [a0] 0x16cf1b0226004491fc031013071a0660260110455501103181b1300025826404604c60001861c10584a006000181a741c71005604193181b1300402638204604c6000181a701c4a1fe05100
def IP (a0:VC):=aE (wO a0)
def iD:VC:=wO io
def iC:=bW iD (IP io)
def AI (a0 a1 a2:VC):aj:=aN [a0,a1,a2] 0x1518501103180130271a04602001100013171a02602001100013071a0060200110045550110318002246181e282a2c3a3c3e48493f3d3b2829753e0487ec827418077604f700401b1a18201f600753e0481a827418077604f700401b1a7201f600753e0481a827418077604f700401b1a6201f600753e0481a827418077604f700401b1a5201f6001a826404604c6000186301c1a1181c3e10001291800305c310411
def Mn (a0 a1 a2:VC):=aE (AI a0 a1 a2)
def sn:aj:=AI ik iE iD
def dU:=bW sn (Mn ik iE iD)
abbrev PV:=[B 24 4,B 25 5,P 26 .quo 25 8,V 27 (.ia 1 (.s 24) (.s 26)),M 28 27,A 29 6,B 30 5,P 31 .rem 30 8,V 32 (.bin .sub (Q 7) (.m 31)),L 33 .shl 29 32,L 34 .or 28 33,V 35 (.ia 1 (.s 24) (.s 26)),N (.st 1 (.m 35) (.m 34))]
def EC:VC:=.regP (.range 13) (.range 13) [] PV
def LR (a0:VC):VC:=bq [a0] 0x13bb4b0221d901884216d691b3307045282001b502101c1e281d1b196300221e6404583e02100289001ed1b06000182b3f10581d0051016001924633040201d724a4110
def abw (a0:VC):=aE (LR a0)
def jG:VC:=LR EC
def MC:=bW jG (abw EC)
def UM (a0:VC):aj:=aN [a0] 0x1502003c9503b4e031002433071a0060200704c32c031003b1291af1907703101bc0012f828261d041e26004604c41c07104562001b5021011300228888888826404604c46031000222902001b203106421
def ajo (a0:VC):=aE (UM a0)
def Kq:aj:=UM jG
def ajj:=bW Kq (ajo jG)
def tW:VC:=bq [] 0x159d1bf0226800421012922622a078613c03c5d004a1ae0514df1f06000181d39105831026011924633040201d721be4110
def Jo:=aE tW
def tI:VC:=bq [] 0x17bd28b0221ac004212b1802a22963c12d102a03801281e3879b29b062a384c43f03c6000182e101c7a11a01860001828001c3c001f8181c106bb1192d3333300040400192b68601a0181d3919058410460319518246330040201d7228a4110
def I4:=aE tI
abbrev Ii:=[G 28 4,X 29 0 2,M 30 29,X 31 0 3,M 32 31,V 33 (.ia 9 (.m 32) (Q 0)),V 34 (.fa 1 (.m 33)),V 35 (.ld (some 4) 0 (.m 34)),H 36 Nb [.m 28,.m 30,.m 35],A 27 36,E 37 27 true 0,E 38 27 false 1,Yd 1 4 37]
def yu:VC:=.regP (.range 13) [0,1,2,3,4,5,6,7,8,9,10,12,11] [] Ii
abbrev qL:=Rg [X 80 4 3,M 81 80,V 82 (.len (.m 81)),A 10 82]
abbrev qM:=Rg [B 83 10,P 84 .gtr 83 0]
abbrev qS:=Rg [B 85 5,V 86 (.callv (.m 85) [Q 6,Q 3]),Z [86]]
abbrev q9:=Rg [B 87 5,B 88 10,V 89 (.minmax false [.m 88,Q 15]),V 90 (.callv (.m 87) [.m 89,Q 4]),Z [90]]
abbrev qW:=Rg [B 91 10,P 92 .geq 91 15]
abbrev qR:=Rg [B 93 5,A 94 10,P 95 .sub 94 14,V 96 (.callv (.m 93) [.m 95,Q 8]),Z [96]]
abbrev rA:=Rg [X 98 4 3,M 99 98,H 100 GF [.m 99],A 97 100,E 101 97 true 0,E 102 97 false 1,A 11 101,A 12 102,Z [12,97]]
abbrev rk:=Rg [V 103 (.ld none 1 (.s 4)),A 104 11,V 105 (.app 1 (.m 103) (.m 104)),Yd 1 4 105]
abbrev qP:=Rg [A 106 5,V 107 (.callv (.m 106) [Q 7,Q 3]),Z [107]]
abbrev qX:=Rg [V 108 (.ld none 2 (.s 4)),G 109 4,V 110 (.len (.m 109)),P 111 .rem 110 8,V 112 (.bin .sub (Q 8) (.m 111)),P 113 .rem 112 8,V 114 (.appz [.int .u8 0] (.m 108) (.m 113)),Yd 1 4 114]
def PO (a0 a1 a2 a3 a4 a5 a6 a7 a8 a9 a10 a11 a12:VC):aj:=aN [a0,a1,a2,a3,a4,a5,a6,a7,a8,a9,a10,a11,a12] 0x151c701b7047182d13001a77181970042d13018718db277006705707fb24703700518024330271a0360200704c6000182e03c1c4100402433171a0160200704c613e03c6000182e301c510012942622a0786000182e201c4a38051019d6f230700026000182e101c2100129226238078613c03c6000182e101c4a00610012918202260784a0031001296222260784a490310012918202260784a003101296202260784a20310025b91e90221bd11aa421006600018281281c21001a91b03c103a281ac210310681905c325c31001912
def ad4 (a0 a1 a2 a3 a4 a5 a6 a7 a8 a9 a10 a11 a12:VC):=aE (PO a0 a1 a2 a3 a4 a5 a6 a7 a8 a9 a10 a11 a12)
def FY:aj:=PO yu tW tI qL qM qS q9 qW qR rA rk qP qX
def adc:=bW FY (ad4 yu tW tI qL qM qS q9 qW qR rA rk qP qX)
def Ie:aj:=aN [] 0x152184f4d4b493f3d3b392b291f1b291fb501876e04875392804a4271607700401b1a1201f718022271606700401a1a1201e600187380482e2719606700401a1a0201e6000266046000181a001c2c10001291800305c310411
def ahv:=aE Ie
def tA:VC:=bq [] 0x15f4b493f4292ab1c021
def VK:=aE tA
def tS:VC:=bq [] 0x103b12d62a10198611019c5d003c1068185136
def Wr:=aE tS
def HQ (a0 a1:VC):VC:=bq [a0,a1] 0x12e94b02219801a421018170738111c026282624806c6001a84f3c03101fb1d06000181d39105831016001924633040201d724a4110
def Vr (a0 a1:VC):=aE (HQ a0 a1)
def tT:VC:=HQ tA tS
def Ay:=bW tT (Vr tA tS)
def Pe (a0:VC):aj:=aN [a0] 0x1502002ef503b10381831002433071a0060200704c32c031001af112d31196860203101bc6282704604c41e06104562001b502101130022888888826404604c418031000222902001b203106421
def aec (a0:VC):=aE (Pe a0)
def GD:aj:=Pe tT
def acU:=bW GD (aec tT)
def Av:aj:=aN [] 0x141130282012d6201c607c3004102246181a5291874c04802711a067001801a72601e7407e420260060018819601a1002
def V9:=aE Av
abbrev Ff:=[B 13 0,V 14 (.nilck (.m 13)),V 15 (.fa 0 (.m 14)),M 16 15,B 17 0,V 18 (.nilck (.m 17)),V 19 (.fa 1 (.m 18)),M 20 19,A 21 1,H 22 CE [.m 16,.m 20,.m 21],A 12 22,E 23 12 false 0,E 24 12 false 1,E 25 12 false 2,A 4 23,A 5 24,A 6 25]
def vk:VC:=.regP (.range 17) [0,1,2,3,4,5,6,7,8,9,10,11,14,12,15,13,16] [] Ff
def Jl (a0:VC):aj:=aN [a0] 0x153bb1903b0021041b12301c012d6101c1c07c490030051020261044f002101c012d6201c1c07c580045a0510039130700450219011031230020263046000186201c607c4405100012902602101812
def Vt (a0:VC):=aE (Jl a0)
def Al:aj:=Jl vk
def Wp:=bW Al (Vt vk)
def uB:VC:=bq [] 0x15db1a90221f8004216012d58301c61c101980012f82211019c61001858301c616012d3868105822600460001873f1058226504604c60001858301c60001858301c1b10222610422160787a0031016001922b23040201e2721a84110
def Pn:=aE uB
def FZ:VC:=.regP (.range 5) (.range 5) [1,2,3] [V 18 (.ld (some 4) 0 (.s 6)),G 19 8,Yd 4 6 18,N (.st 1 (.s 7) (Q 0)),Yd 1 8 19]
def D4:VC:=.regP (.range 5) (.range 5) [1,2,3] [V 73 (.build [O8,O8,O,.nl] []),G 74 8,Yd 4 6 73,N (.st 1 (.s 7) (Q 0)),Yd 1 8 74]
def DG:VC:=.regP (.range 5) [0,2,1,3,4] [1,2] [V 85 (.ld (some 4) 0 (.s 6)),G 86 7,Yd 4 6 85,Yd 1 7 86,N (.st 1 (.s 8) (Q 0))]
def Yi (a0 a1 a2 a3:VC):aj:=aN [a0,a1,a2,a3] 0x15370452826c12d025e12d05842d0300040442818c410022cd2cb2c92bf55297ed2af0753e0480273180771d24c603f5805401b282036000263047f1a01a1052702d5230026eb29d00263046c002183102606012d58301c22111ea19c0012f8316ad2d062a1e04221607879007f005106012d58201c1c2160787a58041002b23171a00602001106012d58301c2211019c0012f83106012d58201c182160787a004100241e610460001858001c31006012d58101c6101a822160787a005106012d58001c6101a842160787a3a051029d2d022160787a3803102892b05e2d6c304b01ac21005e12d19402104507075333002026304690001821021822905b12d10180380064381a92f018624a03c2860710000106800106830004044468345c41002901f51d33
def amR (a0 a1 a2 a3:VC):=aE (Yi a0 a1 a2 a3)
def N3:aj:=Yi FZ uB D4 DG
def NE:=bW N3 (amR FZ uB D4 DG)
def Gw:VC:=.regP (.range 5) (.range 5) [1,2,3] [V 70 (.build [O,O8,O8,O,.nl,.nl,.nl,.nl,.nl] []),G 71 12,Yd 9 10 70,N (.st 1 (.s 11) (Q 0)),Yd 1 12 71]
def Sv (a0:VC):VC:=bq [a0] 0x16eb1fd0227c04421450701e282a3d3b1f1b7300202630419c000182100129060781d91c80310023f12d1106994b06000181d39105831016001924633040201d721fc4110
def ahQ (a0:VC):=aE (Sv a0)
def j0:VC:=Sv Gw
def Ix:=bW j0 (ahQ Gw)
abbrev FC:=Rg [V 19 (.alloc [O,O,O]),Yd 3 19 83,Z [13,14,82]]
def agP (a0:VC):VC:=bq [a0] 0x107
def sj:VC:=agP FC
abbrev Gi:=Rg [V 20 (.mov (.c (.nl))),Z [20]]
def zH:VC:=.regP (.range 14) [0,1,2,3,4,5,6,7,8,11,9,12,10,13] [0,1,5] [M 85 5,G 86 11,G 87 18,X 88 0 19,M 89 88,V 90 (.calli mA [.m 87,.m 89]),H 91 xK [.m 85,.m 86,.m 90],A 84 91,E 92 84 true 0,E 93 84 false 1,E 94 84 false 2,A 20 92,Yd 1 11 93,Yd 1 12 94]
abbrev F3:=Rg [G 95 12,P 96 .neq 95 0]
def zq:VC:=.regP (.range 5) (.range 5) [1,2,3] [V 97 (.build [O,O8,O8,O,.nl,.nl,.nl,.nl,.nl] []),G 98 12,N (.st 9 (.m 10) (.m 97)),N (.st 1 (.m 11) (Q 0)),Yd 1 12 98]
abbrev GB:=Rg [V 99 (.fa 8 (.m 10)),M 100 99,X 101 1 19,M 102 101,X 103 2 19,M 104 103,V 105 (.slice 1 (.m 100) (some (.m 102)) (some (.m 104)) none),A 106 20,V 107 (.cpy 1 (.m 105) (.m 106)),Z [107]]
def aeO (a0 a1 a2 a3 a4:VC):VC:=bq [a0,a1,a2,a3,a4] 0x14f184704392f2305391337004f18591300198b22702d94d231700007036
def sU:VC:=aeO Gi zH F3 zq GB
def Qr:VC:=.regP (.range 5) (.range 5) [1,2,3] [V 28 (.build [O,O8,O8,O,.nl,.nl,.nl,.nl,.nl] []),G 29 12,Yd 9 10 28,N (.st 1 (.s 11) (Q 0)),Yd 1 12 29]
def I1:VC:=.regP (.range 5) (.range 5) [1,2,3] [V 39 (.build [O,O8,O8,O,.nl,.nl,.nl,.nl,.nl] []),G 40 12,Yd 9 10 39,N (.st 1 (.s 11) (Q 0)),Yd 1 12 40]
def I2:VC:=.regP (.range 5) (.range 5) [1,2,3] [V 49 (.build [O,O8,O8,O,.nl,.nl,.nl,.nl,.nl] []),G 50 12,Yd 9 10 49,N (.st 1 (.s 11) (Q 0)),Yd 1 12 50]
def GJ:VC:=.regP (.range 5) (.range 5) [1,2] [V 121 (.ld (some 9) 0 (.s 10)),G 122 11,Yd 9 10 121,Yd 1 11 122,N (.st 1 (.s 12) (Q 0))]
def abM (a0 a1 a2 a3 a4 a5 a6:VC):aj:=aN [a0,a1,a2,a3,a4,a5,a6] 0x156704528219c12d0218e12d0188192d0333330004040019018c41002246181a1c1e283d1929756e0481873f2804b7018018a716e603e700401a1887201e760322714071b800201b6000263041a9106a181d1000184d181b130057471ab111c02662a3e36b06c600018188501c605018188101c5d101ec18610079b112d614d68605c033000033000033000033000033000033000033000033000033000033000033000033000068018c4106012d1881801c18882188820212c1bc0012f831002433371a0060200704c61c2a383e4c5a6818102a81bd1aa206a01ac19c18818e4a1b8505f01ac1b81be205e01ac1aa1be205d01ac19c18818e4a405b01ac19c18818e4a405901ac19c5e18e4a6b18879704f01ac19c18818e4a404e1981ac1b1004ed112d713f6819c18e4a304d1981ac31002112d02712d0010680013b68410452702b291f1b43002242291872a048027340619c00201a6006c00018610019c12d61c24c03c7a050185e004184100451702b291f1b4300202630419c0001821041c229019c12d618e12d201c038101a03800186383997d00261c34903c19004a006181a100450702b291f1b35300202630419c00018210218229019c12d101803800643829d5b018624a03c5e002a1871000010680010683333300040400190683b05c2d05c1f25c3185c71003902f1a2d35
def ap8 (a0 a1 a2 a3 a4 a5 a6:VC):=aE (abM a0 a1 a2 a3 a4 a5 a6)
def RJ:aj:=abM Qr I1 I2 j0 sj sU GJ
def Fc:=bW RJ (ap8 Qr I1 I2 j0 sj sU GJ)
def dc:VC:=bq [] 0x13f97902219e019c4213eb5063e10198611019c6101a8282622a06c4001f7e0714502001b502101c1e51430020263046000186201c607c40051004603192423040201d72784110
def qu:=aE dc
def C9 (a0:VC):aj:=aN [a0] 0x15019012962a22906c1e261042e0031a8051048d7062622a06c43a0310223071a03602003b5c0210042bf1903c26004490031012962a22906c0264044a0043e05101fb1b0282622a06c40031019130023e261043c002100012962a22906c0264043c00428051019b190182622a06c42031021941197130027f2b01c21c1242100160260062e1801105d7062622a06c4403100012902001b203106421
def P6 (a0:VC):=aE (C9 a0)
def u7:aj:=C9 dc
def lg:=bW u7 (P6 dc)
def pi:aj:=aN [] 0x156b19002660461c26f03c1900300510012918602101812
def xY:=aE pi
def Lc:aj:=aN [] 0x152182d92cf2cd2cb2c91b62918891901874c048701a018a71d27c1806e4a107d601ae700401a2e3201e600638104604c6000184a301c604c6000182e328e1c28100452186dd190026104604c6000182e361c51001b130026ad28902263046000182e21f81c4105181901107181b1300021fd1fb1f91ef1ed1eb1e91df1dd1935fd1cd0756f0487028018b74d27b1e03f7051c01b711a01f227191805b700601b2e0401f4a05201b6002261046000181f11bc1c1e1b0052181c91bf1bd1bb4294d91901873e048027118067604e700401a2e3201e6000261046000182e261c1b1001b5230023eb19b06001886000182e11881c4100603bb142d300040441b686050186101c026190586000182e06e1c7104518190110718513000261c27806c28107901ac6000182e05e1c4100451819011071851300022461c1e282e383a3b1a2975380484274607700401b2e2201f60075380480272607700401b2e2201f600753e04818ba27418077604f700401b2e4201f60062a30460001828101c604c6000182b021c2f100012918001905c325c4101812
def ah7:=aE Lc
def tC:aj:=aN [] 0x1521841801af1ad1ab1a919f19918f18d18b1897b796f6d6b5d5b594f4d3f3d3b392f392949b1901874c04872b218a1a03e7001801a2e7601e700401a287201e6001874c04872b21891a03e7001801a2e6601e700401a286201e6001874c04872b21881a03e7001801a2e5601e700401a285201e6001874c04872b27f1a03e7001801a2e18601e700401a2818201e6001874c04872b27e1a03e7051801a2e1601e705401a281201e60062a1046000182e001c60001828001c5a100012918001905c325c4101812
def NZ:=aE tC
def XZ:VC:=.regP (.range 16) (.range 16) [1,6] [X 41 5 9,V 42 (.ld none 2 (.m 41)),A 43 10,V 44 (.mks 1 [.m 43]),V 45 (.app 1 (.m 42) (.m 44)),X 46 6 9,V 47 (.ld none 2 (.m 46)),X 48 2 3,M 49 48,V 50 (.mkslice [.int .i64 0] (.s 49) (.s 49)),V 51 (.mks 1 [.m 50]),V 52 (.app 1 (.m 47) (.m 51)),X 53 5 9,N (.st 1 (.m 53) (.m 45)),X 54 6 9,N (.st 1 (.m 54) (.m 52))]
def aay (a0:VC):VC:=bq [a0] 0x159d18902229a01b84211cb1307043eb2d0612019c611100002018c6000182e201c512d130020264046000182e25e1c31001b2d011016001971824230040201d721884110
def aaV:VC:=aay XZ
abbrev adG:=[V 23 (.ld (some 4) 0 (.s 3)),H 24 EP [.m 23],A 25 7,V 26 (.mkslice [.lst []] (.s 25) (.s 25)),V 27 (.mkslice [.int .i64 0] (Q 256) (Q 256)),V 28 (.build [O,O8,O8,O,.nl,.nl,.nl,.nl,.nl] [(1,4,.m 24),(7,1,.m 26),(8,1,.m 27)]),V 9 (.alloc [O,O8,O8,O,.nl,.nl,.nl,.nl,.nl]),Yd 9 9 28]
def abu:VC:=.regP (.range 8) (.range 8) [] adG
def ah5 (a0 a1:VC):aj:=aN [a0,a1] 0x152b18021b003c192d7a11a5e18310071802230171a0060200604c6000182e3581c41006b1307004d022928f002891f010180380064381fb4d0616903c2e053a18181041d13051d91b063c192d4f000333330004040019018c410718002026304581e02101a91d061c24c03c2e0501831a04100012902003333300040400190681945c4101a1a1922
def ajI:aj:=ah5 abu aaV
def Bx:aj:=aN [] 0x101b22961f12d101b038011a1838791b061c2a33b03c190030028001a1819103
def Y8:=aE Bx
def Nl:aj:=aN [] 0x1502002bf1d0638218c06c61c24806c1f0019006118d03c33a018104542001b1d021053133002246181e28629753e0480273180771d18607284031a203600752a04802724071a2036006001886118b03c28001e1000222902001b1a03101e1c23
def anl:=aE Nl
def QS:aj:=aN [] 0x15025011045225011002300110001290220210411
def apu:=aE QS
def zw:VC:=bq [] 0x14ed2d02260047f1cd03101292202260787a003101292222260787a00310261c1041a90018d1cc03101ef022968b005fd3b0101a03800186385ef1ef061c218f03c188004a051be1819101d902295bf005b92f0101c038001a18385ab1d9062a218f03c226504188004a056181a101600192d2b1b33040228262041881be02100
def PL:=aE zw
def Yo (a0:VC):aj:=aN [a0] 0x1502006eb1d02d101fa18310021a33071a006222d011000129182622a0786000184a201c7a198051045020048d1d02d100183100129220226078790031001291c2622a07860001849201c7a005100241e63046000184a001c310001292262380786001a86000184a101c7a0061001294262380786001a86000184a001c7a0061001292202260787a3803102892b02e1018e3a1ac21042913051fb001b1d06b003101b7230020263046c2a02101d929061c24c03c4a05018191e041000222902001b001f25c345c5101e1c23
def anj (a0:VC):=aE (Yo a0)
def Nf:aj:=Yo zw
def amD:=bW Nf (anj zw)
def kr:VC:=bq [] 0x128f2f02218a0042141cd01cc21020262042e3e02101df7062a004604c49002d2a05101af1b06000181d39105831016001924633040201d722e4110
def oy:=aE kr
def ib:VC:=bq [] 0x139f6f0225a06e4213991d061c101986b004f5c0412ef2906000181d39105831036021924633040201d726e4110
def fK:=aE ib
def AC (a0 a1:VC):aj:=aN [a0,a1] 0x153ad504f1e021002433171a0260200704c34c031002ab1d061b219806c2d2e031002433071a0060200704c41a03100020011001291b20210411
def Mb (a0 a1:VC):=aE (AC a0 a1)
def sO:aj:=AC kr ib
def Bc:=bW sO (Mb kr ib)
def wd:VC:=bq [] 0x12dd1229189d132d0000003386831
def Qm:=aE wd
def GI:VC:=.regP [0,1,2,4,5,6,7,8,9,10,3,11,12,13,14,15,16] [0,1,2,3,4,5,6,7,8,9,10,11,12,13,15,14,16] [3,5,7,9,10] [G 89 11,X 90 0 13,M 91 90,V 92 (.calli mA [.m 89,.m 91]),X 93 8 6,M 94 93,X 95 1 13,M 96 95,X 97 2 13,M 98 97,V 99 (.slice 1 (.m 94) (some (.m 96)) (some (.m 98)) none),H 100 Hf [.c (.nl),.m 92,.m 99],A 88 100,E 101 88 true 0,E 102 88 false 1,A 14 101,A 15 102]
def QI (a0:VC):VC:=bq [a0] 0x139129019c12d61c101981af0019c1039c18513b182e93f2f1d430070016
def ahB (a0:VC):=aE (QI a0)
def w7:VC:=QI GI
def R6:=bW w7 (ahB GI)
abbrev RF:=[A 63 0,V 64 (.mks 1 [.c (.d (.int .u8 0)),.c (.d (.int .u8 1))]),V 65 (.app 1 (.m 63) (.m 64)),X 66 1 6,V 67 (.ld (some 4) 0 (.m 66)),X 68 7 6,M 69 68,H 70 F9 [.m 65,.m 67,.m 69],A 62 70,E 71 62 true 0,E 72 62 false 1,A 0 71]
def FH:VC:=.regP (.range 12) [0,1,2,3,4,5,6,7,8,9,11,10] [] RF
def abX (a0 a1 a2:VC):aj:=aN [a0,a1,a2] 0x15391802001a9b29061c1019819c1001834e051000182f181d180027171af111c00662a3e36b06c60001858501c60501858101c1929806100310681107cb112d612f68605c0330000330000330000330000330000330000330000330000330000330000330000330000682bc18c4107af1061c1019801e01e01e31019c32ae04178d1061c1019801e11019c32e0412a91fd23070002616e03c6000185871ec1c31001ed1c92295b910102c038012a28385ab1c9062a3e5a419a03c60001858601c60001858501c60001858001c31c801d101bf19f2294af101028038011e1c384a919f062a3e319903c60001858501c60501858101c319e01b10419d7f2293c910101e038011c1a383bb7f062a3833d03c60501858101c1a003201a1026001882d7802100795d2292cd10101c038011a18382bf5d028262a33b03c60001858001c33a0191042d1305289001b2907f003101d187313300020263046f2802101df2d061c27a03c5801a0181a1c041000222902001b201f1a5c4102a2824
def aoH (a0 a1 a2:VC):=aE (abX a0 a1 a2)
def Rb:aj:=abX FH wd w7
def acs:=bW Rb (aoH FH wd w7)
def KU:aj:=aN [] 0x15491901f1c2019d01ac21001292f001905c325c4101812
def UQ:=aE KU
def zu:VC:=bq [] 0x14fb1890221f801ba4214ed1d06681e046001a8600018638105861c00479001a0040023d61a044f18a01b145282000200021d03102a2c2b1d5317300221e6404600018638105861c0047a001a0046a0710039f2b01d0021026011924133040201d721884110
def PG:=aE zu
def YZ (a0:VC):aj:=aN [a0] 0x1502005ab005891d061c0041f0019004f58071002133071a0160200285c02100451a2000200021d03101d531430022ef69061c204280061c5041a00604c4480710542000200021d031018531430025d5b594f493f62929d2d0753e04872b418077604f44031a203600752a04802724071a2036006001886118b03c28401f100600222902000200021a0410281e1c33
def amA (a0:VC):=aE (YZ a0)
def N5:aj:=YZ zu
def amg:=bW N5 (amA zu)
def KC:aj:=aN [] 0x151df001d91905d000262101e8226504604c4f1c0710291291a90019b1d0101a038011863818d29061c219e03c1900360191002229020002603101a1822
def ah4:=aE KC
def HP:aj:=aN [] 0x1544531430291291bd1912d1af1c12d1a91b0201e038101c038001a183819b29061c2a34903c3002e000181f002181c14130020261041a000182100021801101a14
def afL:=aE HP
def Jh:aj:=aN [] 0x150219011045282190110022461c1e282a383a3c4a4c4e1b71f297538048706018b7119f403f2e05201b600753e04871d418074a603700401b2e2201f60075380480272607700401b2e2201f600753804821e74607700401b2e1201f60061e64046000182e03a1c3910041d13051d91904f002101b7230020263045828021001f1291af001a91b0101e038001c1a3819b1f063824a03c41e61046000182e001c3601b10012902001945c3101812
def ae8:=aE Jh
def KJ:aj:=aN [] 0x15191297f612d791912d6b702019038101903800186385d1902261c34903c1a000183002181b1001290240210613
def aiJ:=aE KJ
def Kr:aj:=aN [] 0x11912962d12d1c1912d2a012d1f001c2019038101903800186385d19028261c34903c1a0001830018181c104
def ajn:=aE Kr
def KK:aj:=aN [] 0x141d1b19735302812964f12d1c3b12d2a042d19101c201e038101c038011a18381cb39061c2a32b03c49000183c000182d002181d1026001881f000182106042d1a101c615803c3051c1841007
def Uo:=aE KK
def Ku:aj:=aN [] 0x1502842d19150182106012d1a301c611a803c0012f86000181a301c51030004044068305c2105511
def aid:=aE Ku
def Lo:aj:=aN [] 0x11912962d12d1c1912d2a012d1f501c2019038101903801191a387919062a3835a03c60501828101c1a0001830018181e104
def ah9:=aE Lo
def zO:VC:=bq [] 0x16012d1aa101c61c0041b8006000181aa11fa1c61452820002001b1d03103b181ab1a93d392f2d2b1f1d1b11b3000261c40419c0061c0041b8006000181aa12ba1c61040130518890002001b1d06b004103b181ab1a93d392f2d2b1f1d1b11b300020263046c2ac02102af1297df007d91f07cb3d0201e038101c038001a18387bd2af061c2a34903c7a005d0041c01c10056041940261c104188001af28c03100
def Pq:=aE zO
def PS (a0:VC):VC:=bq [a0] 0x13b1819dd2f062a20198612019c1aa1301818d2de051019ad39062a5046000181aa101c19b2de0510452820002001b1d03103b181ab1a9392f2d2b1f1d1b11a3000260018861c21aa03c19c001aa032ba184100013071a04669f3d01881ea02100452820002001b1d03103b18686a392f2d2b1f1d1b11a30002246329187380483a273606700401a1aa0201e6002e264046000181aa01ca1c191004013055b90002001b1d06b004103b183e48392f2d2b1f1d1b11a300020263046c1bc02101bf129589004fb1f02a012d1aa001c201c038101a03800186384df1bf018261c34903c5d00418c01c100000023b68110362193913040202640419c1b802100
def adJ (a0:VC):=aE (PS a0)
def uD:VC:=PS zO
def Gm:=bW uD (adJ zO)
def Pf (a0:VC):VC:=bq [a0] 0x11a9b1ab0223f9039a4211a8d1d062a10198611019c18d004f2ee051013071a02649b3906000184a27e1c31001b2f0110160019242d2b1b163040201d721aa4110
def adk (a0:VC):=aE (Pf a0)
def uN:VC:=Pf uD
def PT:=bW uN (adk uD)
def YE (a0:VC):aj:=aN [a0] 0x1502001aaf001aa91d05d004f28e0510022d2b1b163071a0060200604c6000184a36e1c410018b1293c9003bb2b010180380064383ad18b0611a903c4a056a18181040130538b0002001b1d06b004101f1d1b1430020263046c5a02106f5f2292e9002db1f0201c038101a03800186382bf5f00261c34903c190043e01a10040130528f0002001b1d06b004101d1b31430020263046c2e02104d3f2291ed29010180380064381d93f0616903c4a051e18710002229020002001b001f185c510281e1c33
def am6 (a0:VC):=aE (YE a0)
def OA:aj:=YE uN
def alm:=bW OA (am6 uN)
def KS:aj:=aN [] 0x11912962d12d1c1912d2a012d1f601c2019038101903801191e3818d19062a3e4945c03c60001828501c60001828001c1a00018300181828104
def ajg:=aE KS
def xr:VC:=bq [] 0x11af1ad19b19918f52949b3e021
def iN:=aE xr
def BM:VC:=.regP (.range 4) (.range 4) [0,1,2] [G 96 10,N (.st 1 (.m 8) (.c (.nl))),N (.st 1 (.m 9) (Q 0)),Yd 1 10 96]
def L9 (a0:VC):VC:=bq [a0] 0x13d12901b812d62a10198611019c1d9001b8100186142d2b2933052827f12d027912d1b6b12d3104b3d23002246181a492f7291874c048701a018a71d2b31ae1806e1da6021cc40218e00201a6000264041cc201a100452d1307004b493d2f43002026304188002b818210041913018e94b063e0046000186001c607c18e000181d929c0712cb19229189d5b12d188f6912d18894b0201c038101a03800186387fb2cb061c21ad03c7a000183c006181b104b130027cb2bd00264041cc1fa03107a94b063e0046000186101c607c18e000181d91dc07128b192296dd5b12d6cf6912d6c94b0201c038101a03800186386bb28b061c21ad03c7a000183c006181b104b1300268b1fd03a261041cc1ba03101df192295e95b12d5db6912d5cd4b0201c038101a03800186385bf1df02a261c34903c7a000183c002c181b14b130021db1d91cf1cd1cb52958f1bb01874c04802721a067001801a71601e7407e18e00201a6003a261041cc7801b104600248011036
def aaH (a0:VC):=aE (L9 a0)
def xh:VC:=L9 BM
def iF:=bW xh (aaH BM)
def LA (a0 a1:VC):VC:=bq [a0,a1] 0x11adf19b0223c9004213d1806c12d62a10198611019c1b8100186c1028e1851001817075c5b211c026611ac06c1a96c02100310681103eb3b06000181d3910583101600192f1819182463300040201d7219a4110
def ZU (a0 a1:VC):=aE (LA a0 a1)
def lB:VC:=LA xr xh
def Dp:=bW lB (ZU xr xh)
def DD:VC:=.regP (.range 4) (.range 4) [0,1,2] [G 31 10,N (.st 1 (.s 8) (.c (.nl))),N (.st 1 (.s 9) (Q 0)),Yd 1 10 31]
def BQ:VC:=.regP (.range 5) (.range 5) [1,2] [G 115 8,G 116 9,Yd 1 8 115,Yd 1 9 116,N (.st 1 (.s 10) (Q 0))]
def Ur (a0 a1 a2:VC):aj:=aN [a0,a1,a2] 0x152702f1819180243300171a0060200704c2d5e0310039f112d612f68605c1211610200002018c1f20510450701918752300020263041880001821041c229018812d67a12d201c038101a03800186382b95d00261c34903c19003c002181a1004528218812d027a12d1b6c12d310191875333000260018861c21ab03c2e00281e0410000106800106831668365c41002d02b02934
def aip (a0 a1 a2:VC):=aE (Ur a0 a1 a2)
def Ky:aj:=Ur DD lB BQ
def aim:=bW Ky (aip DD lB BQ)
def Kw:aj:=aN [] 0x101912d060783002183102
def ah6:=aE Kw
def Ll:aj:=aN [] 0x101912d060783002183102
def ahU:=aE Ll
abbrev L7:=Rg [A 25 5,V 26 (.mkslice [.lst []] (.s 25) (.s 25)),V 27 (.fa 7 (.m 3)),N (.st 1 (.m 27) (.m 26)),Z [25]]
def UW (a0:VC):aj:=aN [a0] 0x1074f02292ab0029d1b0101a038001863828f4f0616903c6050182e121c19104195333052a12963b12d1c1f12d2a012d2d701c2028038101e038011c1a381af2b062a3836803c6050182e101c280001819002181e10022261043001c18210005
def aii (a0:VC):=aE (UW a0)
def K0:aj:=UW L7
def UT:=bW K0 (aii L7)
abbrev HN:=[X 86 4 16,V 87 (.ld none 2 (.m 86)),B 88 19,B 89 19,B 90 18,P 91 .sub 90 1,L 92 .shr 89 91,B 93 18,L 94 .shl 92 93,L 95 .sub 88 94,V 96 (.mks 1 [.m 95]),V 97 (.app 1 (.m 87) (.m 96)),X 98 4 16,N (.st 1 (.m 98) (.m 97))]
def yq:VC:=.regP (.range 14) (.range 14) [] HN
def Js (a0:VC):VC:=bq [a0] 0x119ad2cb0221dc02be42101307018894f0611c0781e800188004105604192423040201d722ca4110
def VP (a0:VC):=aE (Js a0)
def tK:VC:=Js yq
def H5:=bW tK (VP yq)
def yF:VC:=.regP [0,1,2,3,5,6,7,4,8,9,10,11] (.range 12) [4,7] [B 49 15,B 50 10,V 51 (.iarr 5 1 (.s 11) (Q 1)),M 52 51,V 53 (.callv (.m 50) [.m 52]),B 54 10,V 55 (.iarr 5 1 (.s 11) (Q 2)),M 56 55,V 57 (.callv (.m 54) [.m 56]),V 58 (.build [O,O,B_ false,B_ false,.nl] [(3,1,.m 49),(0,1,.m 53),(1,1,.m 57)]),V 16 (.alloc [O,O,B_ false,B_ false,.nl]),Yd 5 16 58]
def IE (a0 a1:VC):VC:=bq [a0,a1] 0x11afb1bf0224bd039c42149181aed3b062a50198615019c1cc160181a938e051043bd3bb3b93af3ad3ab3a939f39d4d4b1b291abd390757c0481874d2a04b72b21ba1a03e227518061e8602700401a1cc4201e760302714071da20360019b4c01e10223171a04602006000181cc11f81c31007af4d061c5041da00611b903c1be1ea05106ff4b02216078188003106012d1cc201c226104221607818800510020264046000181cc11ee1c3100452826c12d025e12d1b1d031049182f184c4e1881893f3b392d1d19300002242291872a04802714066c00201a60038264046000181cc12c1c18100070360219243f33040201d721be4110
def WC (a0 a1:VC):=aE (IE a0 a1)
def ij:VC:=IE yF tK
def uc:=bW ij (WC yF tK)
def Ib (a0:VC):VC:=bq [a0] 0x11bb918b02239903cc4211bab1d062a10198611019c1a9004f29a051023f33071a02602001af7c021001b91af1ad3294a93f01873804822716062217407a1882026000264041b868019103cf3d0612a0786000180218e1501b81885a05101b3b01101600192f18242d330040201d7218a4110
def V2 (a0:VC):=aE (Ib a0)
def lI:VC:=Ib ij
def Aq:=bW lI (V2 ij)
def HO:VC:=.regP (.range 4) (.range 4) [0,2] [G 27 8,V 6 (.mov (.c (.nl))),N (.st 1 (.s 7) (Q 0)),Yd 1 8 27]
def yx:VC:=.regP (.range 4) (.range 4) [0,2] [G 125 8,V 6 (.mov (.c (.nl))),N (.st 1 (.s 7) (Q 0)),Yd 1 8 125]
abbrev IW:=[A 128 6,G 129 7,A 6 128,Yd 1 7 129,N (.st 1 (.s 8) (Q 0))]
def yC:VC:=.regP (.range 5) [0,2,1,3,4] [] IW
def Po (a0 a1 a2 a3:VC):aj:=aN [a0,a1,a2,a3] 0x15370452826c12d025e12d1b1d03101d130021bfd3fd019b1802105270391d230021bdb3ed00263046c002ea183106602f18022d330171a0060200794e0210018001101b182fd152d000000000052f68611b803c4a154e1841002e92d05e2d6c301af01ac21005e12d1920210450701b182b1d734300020263046c003e182100591292ab712d29d2b0101803800643828f590616903c4a05381818100010680010681b001f25c345c51002901f1c33
def ac6 (a0 a1 a2 a3:VC):=aE (Po a0 a1 a2 a3)
def Gg:aj:=Po HO lI yx yC
def adj:=bW Gg (ac6 HO lI yx yC)
def DO:aj:=aN [] 0x1502002250210450200282502100218d29041e61046000181901a1c41052820002502103130025d190600188611bb03c1a052184100600222902000200305c4106421
def aaO:=aE DO
def Eb:VC:=.regP (.range 5) (.range 5) [0,2] [G 2 0,M 3 1,V 4 (.callv (.m 3) []),L 5 .or 2 4,Yd 1 0 5]
def Uv (a0:VC):aj:=aN [a0] 0x101307002
def aiP (a0:VC):=aE (Uv a0)
def Ls:aj:=Uv Eb
def ajr:=bW Ls (aiP Eb)
def IG:aj:=aN [] 0x151d91d05d3b49301bc281ac2102b02291cb001bd112d311f68101e038011c1a381af2b0638219e03c41e61046000183c001c3601c1001292f001f05c1965c4101c13
def aeQ:=aE IG
def uI:VC:=bq [] 0x16991db022198004214391306012d2a38105822621ca06c1880019b0018e0061020263041a91b802105b90059d3906000182b3f10581d0051016001924633040201d721da4110
def PE:=aE uI
def uJ:VC:=bq [] 0x1199f2990222ec0042143d1306012d4c5a105861018860001861c10581af0058001b80058001910222610460001861c10581b80018e0051046012d2a381058611cb06c188001b80058006102243f3291872a048482714061be2026002e261046000184a01ea1c181006eb006cf3d06000182b3f10581d005103602191b182462f430040201d722984110
def Py:=aE uJ
abbrev GE:=Rg [A 44 0,A 45 7,V 46 (.build [.nl,O,O] [(0,1,.m 44),(1,1,.m 45)]),V 47 (.box (.m 46)),A 10 47]
abbrev EG:=Rg [B 48 6,V 49 (.len (.m 48)),⟨some 50,none,.mkslice [.int .i64 0] (.s 49) (.s 49),[(0,0)]⟩,A 11 50,Z [49]]
abbrev DE:=Rg [B 51 6,V 52 (.len (.s 51)),C 53 (Q 0)]
abbrev D2:=Rg [B 66 6,V 67 (.len (.s 66)),C 68 (Q 0)]
abbrev EA:=Rg [B 99 10,V 100 (.nilck (.m 99)),V 101 (.fa 2 (.m 100)),M 102 101,P 103 .neq 102 0]
abbrev Pr:=[A 104 10,V 105 (.nilck (.m 104)),V 106 (.fa 2 (.m 105)),M 107 106,V 6 (.mov (.c (.nl))),C 7 (Q 0),A 8 107]
def xF:VC:=.regP (.range 7) [4,5,0,1,2,3,6] [] Pr
abbrev PQ:=[A 108 6,A 109 10,V 110 (.nilck (.m 109)),V 111 (.fa 1 (.m 110)),M 112 111,A 6 108,A 7 112,C 8 (Q 0)]
def xn:VC:=.regP (.range 8) [0,5,1,2,3,4,6,7] [] PQ
def Xo (a0 a1 a2 a3 a4 a5 a6 a7 a8:VC):aj:=aN [a0,a1,a2,a3,a4,a5,a6,a7,a8] 0x15187045770413019dd2670061829928f28d2f430571a02647001db1d91cf33371a006270017007045020048d003ff1d05d004f005101b181130002611c903c6000184a01881c310019d1892293c91d0101c038011a18383bb189061c21c803c0012f879006000184a0681c19104013052fd0002001b1d06b004101b182b1f13300020263046c58021005b1292db002cd1f02bf2b0201e038101c038001a18382b95b061c2a31bf03c19004004a053a181c10456181fb0002001b1d0611be03c4a15018510031230022e264046000184a01e1c3100024329020002001b001f185c510281e1c33
def alr (a0 a1 a2 a3 a4 a5 a6 a7 a8:VC):=aE (Xo a0 a1 a2 a3 a4 a5 a6 a7 a8)
def Ng:aj:=Xo GE EG DE uI D2 uJ EA xF xn
def aly:=bW Ng (alr GE EG DE uI D2 uJ EA xF xn)
abbrev GV:=[B 13 0,B 14 1,B 15 1,H 16 G9 [.m 15],A 12 16,E 17 12 true 0,E 18 12 false 1,V 19 (.nilck (.m 13)),V 20 (.iarr 12 4 (.m 19) (.m 14)),N (.st 4 (.m 20) (.m 17))]
def wT:VC:=.regP (.range 10) [0,1,2,3,4,5,7,8,9,6] [] GV
def JS (a0:VC):aj:=aN [a0] 0x1503c42d6050181c641c01b81c07c190032a061044d3923070020261046000186001c1c641c01b81c07c1a004007100330000466811051912
def ZC (a0:VC):=aE (JS a0)
def CN:aj:=JS wT
def Zd:=bW CN (ZC wT)
def DM:aj:=aN [] 0x153b501ce7e621cd06c30031001291820210411
def Z3:=aE DM
def iU:VC:=bq [] 0x11df290226b03a42141b13051d91904900210281f314300263e10460001861c10584a004001a1a06107f1b01d00210160019243143040201d72284110
def xX:=aE iU
def CA (a0:VC):aj:=aN [a0] 0x1512190110023143071a0060200604c4203100012902602101812
def NF (a0:VC):=aE (CA a0)
def tL:aj:=CA iU
def CL:=bW tL (NF iU)
def ma:aj:=aN [] 0x156b19002660461c21cf06c1900300510012918602101812
def Fe:=aE ma
def FA:aj:=aN [] 0x152186b7002630461c27a03c2811a01860001819001c610001291800325c310612
def adP:=aE FA
def jZ:VC:=bq [] 0x13c97d0225a0188421452821901101c1e283300260018806078796803103992b06000181d39105831016001924633040201d727c4110
def JF:=aE jZ
def Ss (a0:VC):aj:=aN [a0] 0x150219011002433071a0060200704c61c2a383e5102a84f2d1f301df01ac582e201dd01ac2e101db01ac2e101d901ac2e101d83e1ac181004b022928f00289112d0011d68101a03800186381fb4b0616903c6050182e13a1c1a1041b13051cb190490021075230020263044a2802101a91b062a24c03c6050182e101c28001a185100012902001905c325c4101812
def agq (a0:VC):=aE (Ss a0)
def H1:aj:=Ss jZ
def Jq:=bW H1 (agq jZ)
def KO:aj:=aN [] 0x157b796f6d6b5d5b594f4d3f3d3b392f2429292ef1901874c04872b21e91a03e7001801a2e3601e700401a283201e6001874c04872b11a067001801a2e2601e700401a282201e6001874c04872b11a067001801a2e1601e700401a281201e60062a1046000182e001c60001828001c3c10012918001905c325c4101812
def ah2:=aE KO
def lF:aj:=aN [] 0x156b19002660461c21ea06c1900300510012918602101812
def Di:=aE lF
def F4:aj:=aN [] 0x156b7062a30460001819201c604c30061001291840210612
def ac0:=aE F4
def tq:aj:=aN [] 0x157b796f6d6b5d5b594f4d3f3d3b392f2429292ef1901874c04872b27f1a03e7001801a2e3601e700401a283201e6001874c04872b11a067001801a2e2601e700401a282201e6001874c04872b11a067001801a2e1601e700401a281201e60062a1046000182e001c60001828001c3c10012918001905c325c4101812
def NS:=aE tq
def kN:VC:=bq [] 0x11cb1b0226004492c03145181901101b313300263e30460001861c10584a001a0060001861c10584a00440191b01600191b3133040262a204604c4004a2c04100
def yi:=aE kN
def Bu (a0:VC):aj:=aN [a0] 0x15519011003133071a006020011004518190110312300262a304604c1a00604c4205100012918602101812
def OR (a0:VC):=aE (Bu a0)
def tv:aj:=Bu kN
def Nh:=bW tv (OR kN)
def gq:VC:=bq [] 0x13c91d02260044f7e03145181901101d1b31430026681121028860301861c2058580060001861c10584a001a0060301861c2058580060001861c10584a004401f1b03602191d13040264c204604c60001861c10584a00400587807100
def pc:=aE gq
def oP (a0:VC):VC:=bq [a0] 0x11d91b0226004492a031013071a026022011045181901101b313300264c304604c60001861c10584a001a00604c60001861c10584a004401b1b001600191b3133040262a204604c4004a2e04100
def Bp (a0:VC):=aE (oP a0)
def gy:VC:=oP gq
def oS:=bW gy (Bp gq)
def sm (a0:VC):aj:=aN [a0] 0x15519011003133071a006020011004518190110312300262a304604c1a00604c4405100012918602101812
def DN (a0:VC):=aE (sm a0)
def lv:aj:=sm gy
def DP:=bW lv (DN gy)
def iQ:VC:=bq [] 0x11cb1b0226004492c03145181901101b313300260018863e27f03c60001861c10584a001a0060001861c10584a004401a1b01600191b3133040262a204604c4004a2c04100
def r7:=aE iQ
def vP (a0:VC):aj:=aN [a0] 0x15519011003133071a006020011004518190110312300262a304604c1a00604c4205100012918602101812
def Hg (a0:VC):=aE (vP a0)
def nF:aj:=vP iQ
def G8:=bW nF (Hg iQ)
def jr:VC:=bq [] 0x13dd1d02260044f18a03145181901101d1b314300229181f180246181a1c2a2c2e383a484a4c4e585e686a6c6e2d29755a048701c018b72b27f1a03f7001801b6c4601f700401b5e4201f600754c04872b11a01df7001801b6c3601f700401b5e3201f600754c04872b11a01df7001801b6c2601f700401b5e2201f600754c04872b31a077001801b6c1601f700401b5e1201f60062a3046000186c001c6000185e01ba1c4b100589152d32200005296860601861c5058580060001861c10584a001a19e019104af152d322000051f6860601861c5058580060001861c10584a0044019103602191d13040264c204604c60001861c10584a00400587c07100
def uC:=aE jr
def uk (a0:VC):VC:=bq [a0] 0x11ed1b0226004492e031013071a026022011045181901101b313300264c304604c60001861c10584a001a00604c60001861c10584a004401b1b001600191b3133040262a204604c4004a3a04100
def Gb (a0:VC):=aE (uk a0)
def jq:VC:=uk jr
def ui:=bW jq (Gb jr)
def ym (a0:VC):aj:=aN [a0] 0x15519011003133071a006020011004518190110312300262a304604c1a00604c41805100012918602101812
def Jx (a0:VC):=aE (ym a0)
def po:aj:=ym jq
def Jw:=bW po (Jx jq)
def HJ:aj:=aN [] 0x151f1d13296b501872a0487e27194064202600026604400181001291820210411
def ae1:=aE HJ
def jb:VC:=bq [] 0x15d18011
def E9:=aE jb
def jd:VC:=bq [] 0x101f12d62a10198611019c380028101e185116
def Fl:=aE jd
def xa (a0 a1:VC):aj:=aN [a0,a1] 0x1519b1901f101a1821001317077101c0061920110001291b20325c3101812
def IT (a0 a1:VC):=aE (xa a0 a1)
def oz:aj:=xa jb jd
def Je:=bW oz (IT jb jd)
def tJ:aj:=aN [] 0x1128411
def OM:=aE tJ
def IH:aj:=aN [] 0x101b22961f12d101b038011a1838791b061c2a33b03c190030028001a1819103
def aeE:=aE IH
def wa:VC:=bq [] 0x139f2902260046b5e0313f92b064c50460001861c10586c0060001828301c79401811600192b523040264c60460001861c10586c0060001828301c7a6a07100
def X6:=aE wa
def Re (a0:VC):aj:=aN [a0] 0x1502003ff1906b18803100523071a0062b92b019480210002401104542000219021053230022461d429753804871d6607584031a2036000262041a3801810041f13051d900021905d003101d53330020263045e1e021002d1291af001a91d0101803800643819b2d0616903c28051a1818100222902000220325c4101a1822
def agQ (a0:VC):=aE (Re a0)
def Io:aj:=Re wa
def afy:=bW Io (agQ wa)
def ve:aj:=aN [] 0x152bf19036a0210431302b91006102a101c8604c30061c01028c0012f8190006102a101c8602bc4004001a1020264041a3a02101af3064c50462a504604c400602bc40019001810041cd01cc21020262041a00210001291b602101812
def C8:=aE ve
def zZ:VC:=bq [] 0x11dd1a919f19d18d18b1891a182959d3c021
def adL:=aE zZ
def zY:VC:=bq [] 0x101c22962d12d101c038011a18385db1e9061c2a33b03c79000181bd002e001e81819156
def adw:=aE zY
def PI (a0 a1:VC):VC:=bq [a0,a1] 0x15fd1a902229a02842101817076f111c0463d1861c21ec06c188006000181b8101c410001c22962e12d101c038011a18384cb1b9018262a33b03c6000181b8001c2e007c18191048d122d000023d686030181d39205841036021924633040201d721a84110
def ac2 (a0 a1:VC):=aE (PI a0 a1)
def uK:VC:=PI zZ zY
def PB:=bW uK (ac2 zZ zY)
def Pp (a0:VC):VC:=bq [a0] 0x168b18d0222ec05e42102433071a0260200704c19b6a03103c93906000181d3910583101600192462d2b53040201d7218c4110
def ac9 (a0:VC):=aE (Pp a0)
def zL:VC:=Pp uK
def PN:=bW zL (ac9 uK)
def Yn (a0:VC):aj:=aN [a0] 0x1502006991d02d107c183100242d2b53071a0060200704c1f00310001822962e12d10180380164382e96f00202633b03c2e004a187105d1292bf002b9112d0012b6810180380064382ab5d0611a903c3b153e1819104291305289001b1d06b003101975330020263046c2c02101df29061c21eb03c28003c05281841000222902001b201905c345c5101e1c23
def amo (a0:VC):=aE (Yn a0)
def NA:aj:=Yn zL
def amq:=bW NA (amo zL)
def xV:VC:=bq [] 0x13ff00111a918d18b1894293f93a0210
def xO:=aE xV
abbrev L3:=[G 84 4,B 85 16,G 86 11,V 87 (.nilck (.m 86)),V 88 (.fa 1 (.m 87)),M 89 88,L 90 .sub 85 89,H 91 ET [.m 84,.m 90],A 83 91,E 92 83 true 0,E 93 83 false 1,Yd 1 4 92]
def BP:VC:=.regP (.range 12) [0,1,2,3,4,5,6,7,8,9,11,10] [] L3
abbrev MG:=[G 51 4,B 52 16,G 53 11,V 54 (.nilck (.m 53)),V 55 (.fa 0 (.m 54)),M 56 55,L 57 .sub 52 56,H 58 ET [.m 51,.m 57],A 50 58,E 59 50 true 0,E 60 50 false 1,Yd 1 4 59]
def Ce:VC:=.regP (.range 12) [0,1,2,3,4,5,6,7,8,9,11,10] [] MG
def Mp (a0 a1:VC):VC:=bq [a0,a1] 0x102f22961c2a31ae06c1cb001bd0018e003a1851587c19331702fb2cf1933070027df2c903a261041be2031001a1932963c12d101a03801186387a92ad02a261c33b03c1cc003c002c18181022a929f29d29b2995296f928901874c04802721a067001801a71601e7407e18e00201a6003a261041be601b10319493f2f19430025fd1fb00261041be1ba0310460181f2294d949060001861c10581af0060001861c105819c000185e001ac18191036
def aba (a0 a1:VC):=aE (Mp a0 a1)
def xt:VC:=Mp BP Ce
def xP:=bW xt (aba BP Ce)
def LF (a0 a1:VC):VC:=bq [a0,a1] 0x1199f18d02239f01ea4210183918017075a59211c026611ac06c1a96a02103cf003bb112d00139686000182b3f10581d006101600192f181f182463300040201d7218c4110
def ZE (a0 a1:VC):=aE (LF a0 a1)
def xD:VC:=LF xV xt
def Mj:=bW xD (ZE xV xt)
def UY (a0:VC):aj:=aN [a0] 0x151918020019ad2903c102881831002f181f180243300071a0060200704c1f58031002fd112d612f68605c1211610200002018c190051001822963c12d10180380164382bf6900202633b03c3c003e1871042d130529d001b2907f003101f1819185323000020263041882c02101fb2d061c2a31ed03c5e0001828001a1e051000222902001b002d45c365c5102a2824
def aiR (a0:VC):=aE (UY a0)
def KY:aj:=UY xD
def ai4:=bW KY (aiR xD)
def tu:VC:=bq [] 0x119eb2fb02218a00421012963e24c07862a504611f903c1cc001be001df007a2bc0181198b4d06000181d391058310560419246493f53040201d722fa4110
def IU:=aE tu
def HR (a0:VC):VC:=bq [a0] 0x119f91dd0224ea02e421024493f53071a0463d180200704c6000181b8401c4100012922622a078611f903c1cc007a005100129226238078611f903c6000181b8201c7a28806107cb49062a21ba03c2265041be006000181b841f81c61078d3f0611b903c6000181b8301c41043193d180020261046000181b8101c3100012962a23e078600018421881501b86000181b8101c7a00710012962a23e078600018221881501b86000181b8001c7a1ae07105b9152d322000053d686060181d39505841036021924633040201d721dc4110
def VX (a0:VC):=aE (HR a0)
def nX:VC:=HR tu
def IM:=bW nX (VX tu)
def HH (a0:VC):VC:=bq [a0] 0x119ff18902238b01ce42102433071a0260200704c19b003104012922624c078611f903c6000186301c026505819c007a0018102026404604c19c003100012962a23e078600018021881501b8604c19c007a5e07103ad3906000181d3910583101600192d182462b430040201d721884110
def Vy (a0:VC):=aE (HH a0)
def tx:VC:=HH nX
def z7:=bW tx (Vy nX)
def Ps (a0:VC):aj:=aN [a0] 0x1502001a8d1d02d102ac183102d180242b430071a0060200704c1f4e0310019182e9152d000000000052d68611b803c3c154c1841002cd2b02e101f801ac21002e12d6118d03c2e004a1831042913052ab001b1d06b003101918752300020263046c3a021028929061c21ef03c28003c052e1841000222902001b201905c345c5101e1c23
def ads (a0:VC):=aE (Ps a0)
def GG:aj:=Ps tx
def adm:=bW GG (ads tx)
abbrev PU:=[A 103 17,V 104 (.mks 1 [.c (.d (.int .u8 0))]),V 105 (.app 1 (.m 103) (.m 104)),A 106 20,B 107 21,P 108 .add 107 4,V 109 (.bin .shl (Q 1) (.m 108)),P 110 .sub 109 1,L 111 .and 106 110,B 112 21,P 113 .add 112 4,H 114 BR [.m 105,.m 111,.m 113],A 102 114,E 115 102 true 0,E 116 102 false 1,A 17 115]
def Er:VC:=.regP (.range 16) [0,1,2,3,4,5,6,7,8,9,10,11,12,13,15,14] [] PU
def PF (a0:VC):VC:=bq [a0] 0x11bb929f0224dc03aa4211bab3f062a10198611019c1fb001bd388051448240113d939d5b33070019c94b06381019861c228803c28a0021e11019c1d92ae0610198b5b01a26504611ff03c6201a81fc0051002242291872a048482764061fc2026002e261046000183c029a1c1810044f130188949064c10198611019c6101a81fe3d618046201a81ed001cb00181020263041ee1e80210079b590611fe03c1ee1de03106ff4f06000181d39105831016001924633040201d7229e4110
def ad0 (a0:VC):=aE (PF a0)
def zB:VC:=PF Er
def FW:=bW zB (ad0 Er)
def WZ (a0:VC):aj:=aN [a0] 0x1502001dbd1d0611fd03c61c2a3841019c1d9001cb002ab00348c0181046b13051cf9001b1d02b900310694b491430020263042ba3ba02100191848b1291ccf001cc9690101a03801186381cbb48b061c21fc03c28f003c153ac18191003ed02291c8b001bfd5d0101c038001a18381bef3ed061c21fb03c1bd006000183c01ce1c1a1002433071a0060200704c1f1ce031001b001b002101b1e01104502006bb1d0611fd03c61c21019c1a90031ea061043d130568b001b1d01af003103b1230020263041b81be0210019181e91295e9005db3b0101a03801186385cd1e9061c21fc03c18d003c151b818191001cb022959d0058f2f0101c038001a18385891cb061c21fb03c1f006000183c021c1a1002611c903c6000183c019c1c310042b13054a9001b1d04262101e879198041042d130548d001b1d07f003102b130020263041887c021019183eb2d0611be03c3c150183100051230022429329752a048704018b6c2036000263047a5e071006d12938b002fd290101c038001a18382ef6d061c21fa03c28006000183c04e1c1a100222902001b201965c4101e1c23
def amK (a0:VC):=aE (WZ a0)
def NM:aj:=WZ zB
def Yb:=bW NM (amK zB)
def tw:VC:=bq [] 0x17f1902265043b2b03145195133002600188614c0786101a82261c0461c18043c002800018440181016001918513304020266042b1c02100
def Ji:=aE tw
def PR (a0:VC):aj:=aN [a0] 0x104133071a0064f1902265041900181831003
def adn (a0:VC):=aE (PR a0)
def Ge:aj:=PR tw
def ac7:=bW Ge (adn tw)
def Ep:aj:=aN [] 0x1502003eb190797a031040461843001f3dd2d067c2001e865a004618270461c1d046c0061c70458007f001826004188005e001c100261c2045e0018848031002b92b062a10198611019c18800792e051001e002001101b00110428820018821f021291f23002193801100188820018882001fb1d06620044261d0462e250432e07104542001b190210312300224229752a0482e274407420360002620441a071001d0222902001b603101a1822
def aai:=aE Ep
def qN:VC:=bq [] 0x12e94902219e06a4212db7061c00449002d5e0414518501102a2c2e1b736300224229752a048282744074a2036002262044a3c071001ed1b06000181d39105831016001924633040201d72484110
def G0:=aE qN
def LY (a0:VC):aj:=aN [a0] 0x1519918f18d18b25293c9501873e04828271918067604e700401a1a3201e60028261042d3a01a1002433071a0060200704c6000181a32a1c410002001104519b5061c21e903c2211019c60001819301c5100241e63046000181a061c310001291800305c310411
def aaQ (a0:VC):=aE (LY a0)
def El:aj:=LY qN
def aaB:=bW El (aaQ qN)
def vp:aj:=aN [] 0x1128411
def P7:=aE vp
def HY:aj:=aN [] 0x157f005d502265046221a0428002818061b0462501151300241e610460001819021c31001a2501100222902000200305c4106421
def afK:=aE HY
def Iv:aj:=aN [] 0x156f6d6b695f5d5b594b493f392f2d2b4329292db1901876e04875392804a3a271607700401b280201f718022e2719606700401a280201e600187380480276606700401a280201e6001873e04871d1918061a602700401a281201e60022660460001828101c3a1001291820325c3101812
def ag4:=aE Iv
def xq:VC:=bq [] 0x15e97b0222e901da4212b185db1f062a5046000187a101c5d1d8051045181901102b186e786f5f5d5b1f730002246181a1c1e282e383a484a4c4e1f29756e048187392804b3a273606700401a7a0201e718032e274607700401b7a0201f60075380480272607700401b7a0201f600753e04871d418075e603700401b7a1201f6002262046000187a15e1c3910038b122d000022b686030181d3920584103602192461f43040201d727a4110
def LU:=aE xq
def MO (a0:VC):VC:=bq [a0] 0x15ef5f02229d01884210241f43071a0260200704c4f4e03101a82001102bf1d06000181d39105831016001924633040201d725e4110
def aaa (a0:VC):=aE (MO a0)
def xu:VC:=MO xq
def MR:=bW xu (aaa xq)
def US (a0:VC):aj:=aN [a0] 0x15519011002433071a0060200704c19480310045181901103130022461c1e16297538048282746077404f1a203600752a0487fe274407420360002620441a01c100012918602101812
def aji (a0:VC):=aE (US a0)
def KV:aj:=US xu
def aik:=bW KV (aji xu)
def F7:aj:=aN [] 0x152d50191028901ac21001292f00305c310411
def adt:=aE F7
def Eo:aj:=aN [] 0x1502003ad0039f190490060001802610587f5807106f02292fd002ef2d010180380164382e96f0638221c803c795a018104013052bf000200021904f004102b1b23002026304584a021001f184912929d0028f1b02892b0201e038101c038001a18381fb49061c2a31bf03c19003005e1528181c1003902291bd001af142d33000041f681060380142381a939038211cc1c3c18100243290200020002604101c1a1832
def ZV:=aE Eo
abbrev CF:=[B 15 0,V 16 (.nilck (.m 15)),V 17 (.fa 1 (.m 16)),B 18 0,V 19 (.nilck (.m 18)),V 20 (.fa 1 (.m 19)),M 21 20,P 22 .lss 21 0,A 7 17,C 8 (Q 511),A 9 22]
def sS:VC:=.regP (.range 11) [0,1,2,8,9,3,4,5,6,7,10] [] CF
def EZ (a0:VC):aj:=aN [a0] 0x1551d01106012d1c07c1f005d1ae041045181d01101f523002246181a1c1e282a2c2e383a3c3e484a4c5a5c5e2b292f29751ea0481871bb4c04b755b3c04a73f41c071f82701a077001801b7607f5e4032820371e0273f21c061f82751a067001801a7607e5e402282027603704018b7a203600753804871d46076c40328203600026204282803c100411301130701a1c1e330023a261041960210018007fe20019b1f06001c607c4606100129181a02101c13
def QO (a0:VC):=aE (EZ a0)
def w8:aj:=EZ sS
def Q3:=bW w8 (QO sS)
def BN:aj:=aN [] 0x1544531430291291bd1912d1af1c12d1a91b0201e038101c038001a183819b29061c2a34903c3002e000181f002181c14130020261041a000182100021801101a14
def X4:=aE BN
def BD:aj:=aN [] 0x1502852d3821462131a2121c2114210500000000005018c2104502852d1e21422136212182112210500000000005018c2100231841e61046000181a001c3100000000000005068305c2106511
def WQ:=aE BD
def Ds:aj:=aN [] 0x156250110451825011002300110001290220210411
def abj:=aE Ds
def FJ:aj:=aN [] 0x1519b19060018861c228a06c3e1028b01ac3605106b112d0011b686221a042265041920510012918602101812
def ad3:=aE FJ
def Lx:aj:=aN [] 0x15495002610462e224c03c191501841001291800305c310411
def ais:=aE Lx
abbrev GL:=[B 72 0,X 73 0 10,M 74 73,B 75 12,P 76 .mul 75 32,B 77 13,L 78 .add 76 77,B 79 12,P 80 .mul 79 32,B 81 13,L 82 .add 80 81,X 83 0 10,M 84 83,H 85 Q4 [.m 84],L 86 .add 82 85,V 87 (.build [O,O,O] [(0,1,.m 74),(1,1,.m 78),(2,1,.m 86)]),V 88 (.callv (.m 72) [.m 87]),V 89 (.un .not (.m 88))]
def xd:VC:=.regP (.range 18) (.range 18) [] GL
def G5 (a0:VC):VC:=bq [a0] 0x16dd3b0638004611bd03c600018188001c1a90061452d185f5d5b493f3d3b392f291d1b7511f30018b92070196018193b13040264c20460001862a10582260046c002e000181aa1ee07100
def T5 (a0:VC):=aE (G5 a0)
def mZ:VC:=G5 xd
def mV:=bW mZ (T5 xd)
def GT (a0:VC):VC:=bq [a0] 0x159d39022600419b1a8031013071a01865cd3b060001861c10586c002e004185107606193913040266820464c00460001861c1058580060001828301c4a0019c1b8019100
def TS (a0:VC):=aE (GT a0)
def ni:VC:=GT mZ
def rD:=bW ni (TS mZ)
def GX (a0:VC):VC:=bq [a0] 0x13ad2902260046b5a031013071a06649b3904a0021045190224632975380483a271607700401b1880201f600026104600018188041c191005604192d182f130040261c20418e006c7c03100
def TU (a0:VC):=aE (GX a0)
def nj:VC:=GX ni
def kC:=bW nj (TU ni)
def GP (a0:VC):VC:=bq [a0] 0x118bf5f02229d02bc4212180130071a0462ef2f062a004600018188101c6c4805102bf122d000022d686030181d3920584103602192462943040201d725e4110
def TM (a0:VC):=aE (GP a0)
def mY:VC:=GP nj
def qY:=bW mY (TM nj)
def GK (a0:VC):VC:=bq [a0] 0x1199f490221cb02f842119991b064c00460001861c10584f0060001828301c4928e01810242943071a0260200704c5d380310002001101fb001df1d06000182b3f10581d005101600192461b75173040201d72484110
def TL (a0:VC):=aE (GK a0)
def nb:VC:=GK mY
def rC:=bW nb (TL mY)
def MA (a0:VC):aj:=aN [a0] 0x10241b75173071a0060200704c190028183100218011004
def aaC (a0:VC):=aE (MA a0)
def DZ:aj:=MA nb
def ZY:=bW DZ (aaC nb)
def Rx:aj:=aN [] 0x1542501104518250110021a26204300210001290220210411
def anT:=aE Rx
def aa4:aj:=aN [] 0x150250110454250110023182e264046000181a02c1c31000419130519b503b002103180020263043c1a02101b222979006b7010180380164385d1b002621fc03c1a056181810001290200305c310411
def xp:VC:=bq [] 0x12892b0226004792e031401305399000200021d06b004107182d2b1f34300020263046c5c0210691292ef002e91f02db2d0201c038101a03800186382cd6902261c34903c5d001a4801b1045282000200021d03107182b1f33300022a264047a402100160019402026104684a02100
def Dq:=aE xp
abbrev BI:=Rg [B 69 13,X 70 2 3,M 71 70,V 72 (.len (.m 71)),L 73 .geq 69 72]
abbrev BG:=Rg [C 6 (Q 0),C 7 (Q 0),C 8 (Q 8)]
abbrev Cn:=Rg [X 74 2 3,M 75 74,A 76 13,V 77 (.ia 1 (.m 75) (.m 76)),M 78 77,A 79 7,A 6 78,A 7 79,C 8 (Q 0)]
def Uq (a0 a1 a2 a3:VC):aj:=aN [a0,a1,a2,a3] 0x1571837004527071801c23006f9217006bb3b061c00419b0062a1a046000182e101c22650461c00418d006221a04226504791ca01c1b04013055b9000200021d06b00410718392f2b1f4300020263046c1bc021001bd12958f005891f04fb3902028038101e038001c1a384ed1bd062a3834903c6000182e101c5d001919c01d104013054a9000200021d06b004107182f2b1f34300020263046c18c0210018d1293ff003f91f03eb2f02028038101e038001c1a383dd18d062a3834903c2265047a005d001a6e01d102d13071a0061d91f01f1c021000200020021045282000200021d0310718532300026001886128c03c2e051a183100024329020002000240345c510281e1c33
def ajp (a0 a1 a2 a3:VC):=aE (Uq a0 a1 a2 a3)
def Le:aj:=Uq xp BI BG Cn
def ah3:=bW Le (ajp xp BI BG Cn)
def Gk:aj:=aN [] 0x151d1802002cd19061c228f03c190058154e1851004542001b1902101d183130002246181e28629753e04872b618077128e603f5805401b1a203600752a04802724071a2036000263044c1a01d1002912919b0018d142d0000000041d6810180380164387f2906128d03c36019100222902001b603101a1822
def acZ:=aE Gk
def adT:aj:=aN [] 0x152f2d1f1d152919b50752a0481c2714074203600752a0481a27140742036006262044001c1001291820210411
abbrev Da:=[B 13 0,V 14 (.nilck (.m 13)),V 15 (.fa 0 (.m 14)),M 16 15,B 17 0,V 18 (.nilck (.m 17)),V 19 (.fa 1 (.m 18)),M 20 19,A 21 1,H 22 CE [.m 16,.m 20,.m 21],A 12 22,E 23 12 false 0,E 24 12 false 1,E 25 12 false 2,A 4 23,A 5 24,A 6 25]
def ue:VC:=.regP (.range 17) [0,1,2,3,4,5,6,7,8,9,10,11,14,12,15,13,16] [] Da
def GY (a0:VC):aj:=aN [a0] 0x153bb1903b0021041b12301c012d6101c1c07c490030051020261044f002101c012d6201c1c07c580045a0510039130700450219011031230020263046000186201c607c4405100012902602101812
def T3 (a0:VC):=aE (GY a0)
def yD:aj:=GY ue
def T7:=bW yD (T3 ue)
def kw:VC:=bq [] 0x14282012d6201c607c400410228264042e3802101bd702260042d0031016019402246181a5291874c04802711a067001801a72601e7407e420260022610422621ca06c4601b100
def Jj:=aE kw
abbrev yc:=[B 21 3,P 22 .add 21 4,V 23 (.bin .shl (Q 1) (.m 22)),A 24 0,B 25 3,P 26 .add 25 4,V 27 (.calli yy [.m 24,.m 26]),L 28 .add 23 27,A 2 28]
def ox:VC:=.regP (.range 9) (.range 9) [] yc
def AY (a0 a1:VC):aj:=aN [a0,a1] 0x150131700071a060020011001290220210411
def Mk (a0 a1:VC):=aE (AY a0 a1)
def sE:aj:=AY kw ox
def Lz:=bW sE (Mk kw ox)
def zR:VC:=bq [] 0x148d18f02268004216012d1c2a10586b006c006000185827a1c613c92901d002101600192423040201d7218e4110
def PW:=aE zR
def zS:VC:=bq [] 0x15e91cf0227c004216012d1c2a105879007f006000185831ba1c6159d005892b06000182b3f10581d0051036021924633040201d721ce4110
def PY:=aE zS
abbrev Qw:=[A 20 0,X 21 3 4,M 22 21,V 23 (.ld (some 4) 0 (.s 4)),H 24 Aj [.m 23],V 26 (.ld (some 4) 0 (.s 4)),H 27 Aj [.m 26],⟨some 25,none,.mkslice [.int .i64 0] (.s 24) (.s 24),[(0,0)]⟩,⟨some 28,none,.mkslice [.int .i64 0] (.s 27) (.s 27),[(0,0)]⟩,V 29 (.build [O,O,.nl,.nl] [(0,1,.m 20),(1,1,.m 22),(2,1,.m 25),(3,1,.m 28)]),V 6 (.alloc [O,O,.nl,.nl]),Yd 4 6 29]
def FU:VC:=.regP [0,1,2,3,4,6,7,5,8,9,10,11] (.range 12) [] (unp [0,1,2,3,4,7,5,6,8,9,10,11] Qw)
def zJ:=Rg [V 30 (.ld (some 4) 1 (.s 4)),H 31 gD [.m 30],V 7 (.alloc [O8,O8,O8,O8,O8,O8,O8,O8,O8,O8,O8,O8,O8,O8,O8,O8,O8,O8,O8,O8,O8,O8,O8,O8,O8,O8,O8,O8,O8,O8,O8,O8,O8,O8,O8,O8,O8,O8,O8,O8,O8,O8,O8,O8,O8,O8,O8,O8,O8,O8,O8,O8,O8,O8,O8,O8,O8,O8,O8,O8,O8,O8,O8,O8,O8,O8,O8,O8,O8,O8,O8,O8,O8,O8,O8,O8,O8,O8,O8,O8,O8,O8,O8,O8,O8,O8,O8,O8,O8,O8,O8,O8,O8,O8,O8,O8,O8,O8,O8,O8,O8,O8,O8,O8,O8,O8,O8,O8,O8,O8,O8,O8,O8,O8,O8,O8,O8,O8,O8,O8,O8,O8,O8,O8,O8,O8,O8,O8,O8,O8,O8,O8,O8,O8,O8,O8,O8,O8,O8,O8,O8,O8,O8,O8,O8,O8,O8,O8,O8,O8,O8,O8,O8,O8,O8,O8,O8,O8,O8,O8,O8,O8,O8,O8,O8,O8,O8,O8,O8,O8,O8,O8,O8,O8,O8,O8,O8,O8,O8,O8,O8,O8,O8,O8,O8,O8,O8,O8,O8,O8,O8,O8,O8,O8,O8,O8,O8,O8,O8,O8,O8,O8,O8,O8,O8,O8,O8,O8,O8,O8,O8,O8,O8,O8,O8,O8,O8,O8,O8,O8,O8,O8,O8,O8,O8,O8,O8,O8,O8,O8,O8,O8,O8,O8,O8,O8,O8,O8,O8,O8,O8,O8,O8,O8,O8,O8,O8,O8,O8,O8,O8,O8,O8,O8,O8,O8,O8,O8,O8,O8,O8,O8,O8,O8,O8,O8,O8,O8,O8,O8,O8,O8,O8,O8,O8,O8,O8,O8,O8,O8,O8,O8,O8,O8,O8,O8,O8,O8,O8]),Yd 289 7 31]
def XP (a0 a1 a2 a3:VC):aj:=aN [a0,a1,a2,a3] 0x151d18027002842d58152c18310002433371a0260200704c60001858201c4100012961c229906c5d1029a01ac600018582281c5100223271a0060200604c600018582781c4100191817006f6923070041b13051ed7062842d490003300004018c410191811300020263044a2c021002f1291bd001af142d000000004196810180380164381a92f06128d03c4280191001290200330000426831065521
def amJ (a0 a1 a2 a3:VC):=aE (XP a0 a1 a2 a3)
def OW:aj:=XP FU zJ zR zS
def ale:=bW OW (amJ FU zJ zR zS)
def km:aj:=aN [] 0x156b19002660461c229c06c1900300510012918602101812
def BS:=aE km
def Ai:aj:=aN [] 0x154950026404604c30041001291820210411
def VS:=aE Ai
def fP:VC:=bq [] 0x11df290226b03a42141b13051d91904900210281f3143002613e078601a01861c190584a004001a1a06107f1b01d00210160019243143040201d72284110
def iY:=aE fP
def wt (a0:VC):aj:=aN [a0] 0x1512190110023143071a0060200604c4203100012902602101812
def H9 (a0:VC):=aE (wt a0)
def oa:aj:=wt fP
def wQ:=bW oa (H9 fP)
def DA:aj:=aN [] 0x15291f1d14297930187380487fe2719606700401a40201e6000266046000184001c1a1001291800210211
def abd:=aE DA
def Ez:aj:=aN [] 0x152d30611da03c301a01831001291800210211
def aby:=aE Ez
def pP:VC:=bq [] 0x15ab6b0222b901cc4211f1859d1b062a0046000185e101c491ca05104518501101f183186b695f4f4d4b1b1918300002246181a1c1e282e383a484a4c1e29756e048187392804b3a273606700401a5e0201e718032e274607700401b5e0201f60075380480272607700401b5e0201f60075380481a8274607700401b5e1201f6002262046000185e15a1c381002db122d000021f686030181d39205841036021924633040201d726a4110
def wJ:=aE pP
def Fi (a0:VC):VC:=bq [a0] 0x16ad4f0221ed02884214518501103184f4d4b3300022461942975380481a82746077404f3c2036006383046000186201c1a101c497e01b1002433071a0260200704c3c4a03100020011028f1906000181d391058310160019318246330040201d724e4110
def Si (a0:VC):=aE (Fi a0)
def qc:VC:=Fi pP
def qj:=bW qc (Si pP)
def JD (a0:VC):aj:=aN [a0] 0x15550110318024330071a0060200704c6000181a53a1c410045185011031800263e304604c6000186301c1a101c604c6000181a51a1c1810001291800305c310411
def Yy (a0:VC):=aE (JD a0)
def CI:aj:=JD qc
def Xz:=bW CI (Yy qc)
def DL:aj:=aN [] 0x152d30611dc03c301a01831001291800210211
def abz:=aE DL
def vT:VC:=bq [] 0x118e919d0223cf02ea42142b13018db70792ea02145185011031819d19b1996b695f2b1d1b191a30002246181e287729753e0487018018b71d229e603f7a4032e203600752a0487fe2744077a2036000262047a401d100027bd2bb00264047f2a8031050079b190792aa03145185011031819a19b1996b695f2b1d71930002246181a1c1e2c2e1b191b2975680481873f1e04b7018018a71d229e603e7a4023c20274034a203600752a0481ffe2744077a2036000262047a40281002d130025db1ed03a261041881e80310518501103183a3c3e6b695f2d2b1d1b1971c300021e91df2295b91cf01872a04802734067a2026000261041881a801810461af02294df004d92d0101e038001c1a384cb1af061c2a329d03c6b0058006000181a518c1c1b103ff003eb2906000182b3f10581d005103602192461d43040201d7219c4110
def ki:=aE vT
def Kl (a0:VC):VC:=bq [a0] 0x118ef6b0222b901de4210241d43071a0260200704c5d18a03104518501103182c2e381f1d1b19718300026383046000186201c1a101c604c5e5c061002e9002cd1d06000182b3f10581d005101600193182461b197630040201d726a4110
def ZD (a0:VC):=aE (Kl a0)
def vX:VC:=Kl vT
def vR:=bW vX (ZD vT)
def R5 (a0:VC):aj:=aN [a0] 0x155501103180241b197630071a0060200704c6000181a6481c410018000200289706000181a04a1c51045185011031800263e304604c6000186301c1a101c604c6000181a62a1c1810001291800305c310411
def ahD (a0:VC):=aE (R5 a0)
def IN:aj:=R5 vX
def agD:=bW IN (ahD vX)
def Es:aj:=aN [] 0x15495061c21de03c1900018301a01841001291820210412
def abf:=aE Es
def nc:VC:=bq [] 0x13ad5d02219e07c4214518190110383a3c1d1b5300224629429753804871d229f606f6c4a202a8401af6c00201b60061c4045800604c6c004a181a102b9112d3129686000181d3910584101600192461d1b53040201d725c4110
def ng:=aE nc
def M5 (a0:VC):aj:=aN [a0] 0x1551901100241d1b53071a0065180200704c6000182873c1c4100045181901105181d1b23000261c3041900604c6000182871e1c51004221d0111d130024a001c181100620011019b112d211b6841e61046000186001c281181c61001291820325c3101812
def Z1 (a0:VC):=aE (M5 a0)
def Ej:aj:=M5 nc
def aa1:=bW Ej (Z1 nc)
def D3:aj:=aN [] 0x155d7061c2a31e803c1f000181901a01830001851001291840210613
def abk:=aE D3
def v9:VC:=bq [] 0x16dd3d02260041af0031564193f13040264c60460001862a10582260041b8006c001be1fc07100
def WL:=aE v9
def JV (a0:VC):VC:=bq [a0] 0x119991e90223ee02ec42145181d011019181a81aa1ac18f18d3d392d291930002246181e284b491829753e0487018018b71d22aa603f1cc4031da203600752a0482e2744071da2036002262041da28e01d1042d92bb2297ed4b0101e038001c1a387df2bb061c2a329d03c1b80019c006000183c521c1a14b130026382046000186201c3c101c1b81dc05100024b01103f13071a04604319493f230020261041cc1b8021005db005bf3f06000182b3f10581d005103602192463d3953040201d721e84110
def YI (a0:VC):=aE (JV a0)
def qd:VC:=JV v9
def ja:=bW qd (YI v9)
def Kg (a0:VC):VC:=bq [a0] 0x1199f18f0223ad01aa4210243d3953071a0260200704c0613e168101c861c7041880022600418d0061c7041880018e006000183c187c1c1c10020011019d022949b0048d390101c038001a18383ff19d061c218f03c18e006050183c16e1c1a103c92f01d002101600191918242d29430040201d7218e4110
def XL (a0:VC):=aE (Kg a0)
def pV:VC:=Kg qd
def vN:=bW pV (XL qd)
def Rp (a0:VC):aj:=aN [a0] 0x1551d01101918022d29430071a00602001f5e021003992d06188821d04285c03106d02292fd002ef290101a03801186382e96d061c219e03c5d0034e019102b91f041e61046000186001c3c13e1c51045181d0110191851230002188826304604c6000183c182e1c4100012918201965c3101c13
def ae5 (a0:VC):=aE (Rp a0)
def H7:aj:=Rp pV
def ahR:=bW H7 (ae5 pV)
def lS:VC:=bq [] 0x12b93b02219805842145181901102e3831430021b1363e30460001861c10584a001a0060001861c10584a0042c0191b001bd1b01d00210160019243143040201d723a4110
def yV:=aE lS
def De (a0:VC):aj:=aN [a0] 0x155190110023143071a0060200604c41c031004518190110312300262a304604c1a00604c4205100012918602101812
def P5 (a0:VC):=aE (De a0)
def vE:aj:=De lS
def P9:=bW vE (P5 lS)
def fL:VC:=bq [] 0x11df290226b03a42141b13051d91904900210281f3143002613e07860001861c10584a004001a1a06107f1b01d00210160019243143040201d72284110
def iR:=aE fL
def vZ (a0:VC):aj:=aN [a0] 0x1512190110023143071a0060200604c4203100012902602101812
def He (a0:VC):=aE (vZ a0)
def nt:aj:=vZ fL
def vY:=bW nt (He fL)
def v8:VC:=bq [] 0x14cb199022198019c4212f184bd2b062a50460001818e101c7919e0510452821901102f181e282a3e484a2b5183000260018861c21aa03c7a0018e03781841003dd122d000022f686030181d39205841036021924633040201d721984110
def Cw:=aE v8
def J9 (a0:VC):VC:=bq [a0] 0x14ed7902229a01bc421452821901105c5e685430020263047938021002433071a0260200704c6b68031003992b06000182825e1c3102fd2906000181d391058310160019246543040201d72784110
def WT (a0:VC):=aE (J9 a0)
def vF:VC:=J9 v8
def vW:=bW vF (WT v8)
def Qp (a0:VC):aj:=aN [a0] 0x1502190110024543071a0060200704c195a03100452821901105323002638304604c60001828301c604c1a3e0610041d13051ed1904f002105323002026304582c02103922291cb001bd1b010180380064381af390616903c280528181810001290220325c3101812
def afv (a0:VC):=aE (Qp a0)
def Jm:aj:=Qp vF
def ag5:=bW Jm (afv vF)
def FB:aj:=aN [] 0x15491901c1f202ab01ac21001292f001905c325c4101812
def adv:=aE FB
def lm:VC:=bq [] 0x13c9001118f7b796f4293bb2c0210
def z8:=aE lm
abbrev IX:=[B 40 11,G 41 5,G 42 8,V 43 (.ia 1 (.m 41) (.m 42)),M 44 43,V 45 (.len (.m 44)),L 46 .geq 40 45,A 47 46,U 47 48 (.mov (.s 12)),U 47 49 (.bin .eql (.s 48) (Q 0)),U 47 50 (.mov (.s 49)),W 50 51 (.ld none 0 (.s 5)),W 50 52 (.ld none 0 (.s 8)),W 50 53 (.ia 1 (.s 51) (.s 52)),W 50 54 (.ld none 0 (.s 53)),W 50 55 (.mov (.s 11)),W 50 56 (.ia 1 (.s 54) (.s 55)),W 50 57 (.ld none 0 (.s 56)),W 50 58 (.bin .neq (.s 57) (Q 0)),U 47 59 (.pick (.s 50) (.s 58) ff),V 60 (.pick (.s 47) tt (.s 59)),A 61 60,U 61 62 (.mov (.s 12)),U 61 63 (.bin .gtr (.s 62) (Q 0)),U 61 64 (.mov (.s 63)),W 64 65 (.ld none 0 (.s 7)),W 64 66 (.mov (.s 12)),W 64 67 (.ld none 0 (.s 5)),W 64 68 (.ld none 0 (.s 8)),W 64 69 (.ia 1 (.s 67) (.s 68)),W 64 70 (.ld none 0 (.s 69)),W 64 71 (.mov (.s 11)),W 64 72 (.ia 1 (.s 70) (.s 71)),W 64 73 (.ld none 0 (.s 72)),W 64 74 (.calli pW [.s 65,.s 66,.s 73]),W 64 75 (.un .not (.s 74)),U 61 76 (.pick (.s 64) (.s 75) ff),V 77 (.pick (.s 61) tt (.s 76))]
def yJ:VC:=.regP (.range 38) (.range 38) [] IX
def Im (a0:VC):VC:=bq [a0] 0x141d13052824f12d1107a922b92af2ad2ab2a929f29d29b29928f28d28b2891ff1fd1fb1ef1ed1eb1e91df1dd1db1d91cf1cd1cb1c91bf392f291f1b4a307002d129018812d2260041880019a1841036
def V5 (a0:VC):=aE (Im a0)
def lG:VC:=Im yJ
def Af:=bW lG (V5 yJ)
def I0 (a0 a1:VC):VC:=bq [a0,a1] 0x118897b0222e900421452825812d1101f181b187b796f33000022d182918064c304604c60001861c10586c000184a00018188001ac1871b0001817074d4c211c026611ac06c795e0210002112d001068210399002fd112d00129686000182b3f10581d006101600191f181b182463300040201d727a4110
def VT (a0 a1:VC):=aE (I0 a0 a1)
def ug:VC:=I0 lm lG
def IF:=bW ug (VT lm lG)
def Pu (a0:VC):aj:=aN [a0] 0x15025812d1101f181b180243300071a0060200704c194e031002bf112d611f68605c1211610200002018c300510452825812d1101b1831230002246181a529754c04872b31a0771804f4a00601b7404f1a20360060018861c21ab03c1a0041c01c1000010681f185c21001d13
def adO (a0:VC):=aE (Pu a0)
def F6:aj:=Pu ug
def adY:=bW F6 (adO ug)
def Lg:aj:=aN [] 0x150200399190611fd03c61c21019c7f0034c06106186902292e9002db2d0101a03801186382cd69061c21fc03c4f006c153e181910059022929d0028f142d3300004296810603801423828959038211cc3e3c18104542001b1902101d1230020263045d2c02100391291d9001cb1d0101a03800186381bd390638221fb03c611019c191e019100222902001b603101a1822
def ajd:=aE Lg
abbrev GZ:=[G 27 8,V 28 (.len (.m 27)),V 29 (.ld (some 4) 0 (.s 2)),H 30 Ch [.m 29],V 31 (.ix 5 1 false (.m 30) (Q 3)),L 32 .gtr 28 31,A 33 32,U 33 34 (.ld none 0 (.s 8)),U 33 35 (.mkfn nk [] [.s 2,.s 8]),U 33 36 (.calli fy [.s 34,.s 35]),V 37 (.pick (.s 33) tt (.s 36))]
def wh:VC:=.regP (.range 11) (.range 11) [] GZ
def Fv (a0:VC):VC:=bq [a0] 0x13cf5f0221ba018a421452821901105f5d5b54303c9219918f18d18b05307002bf112d3129686000181d391058410160019246543040201d725e4110
def Qo (a0:VC):=aE (Fv a0)
def ql:VC:=Fv wh
def E6:=bW ql (Qo wh)
def JX (a0:VC):aj:=aN [a0] 0x1502190110024543071a0060200704c19480310045282190110532300261c3044900604c1a380410041d13051cb1904f002101b5333002026304581e021002b1291a90019b1b0101803800643818d2b0616903c28051a18181001290220325c3101812
def Zm (a0:VC):=aE (JX a0)
def CV:aj:=JX ql
def Xs:=bW CV (Zm ql)
abbrev GR:=[G 6 2,A 7 0,B 8 1,V 9 (.bin .shl (Q 1) (.m 8)),P 10 .sub 9 1,L 11 .and 7 10,B 12 1,H 13 BR [.m 6,.m 11,.m 12],A 5 13,E 14 5 true 0,E 15 5 false 1,Yd 1 2 14]
def wS:VC:=.regP (.range 12) [0,1,2,3,4,5,6,7,8,9,11,10] [] GR
def JK (a0:VC):aj:=aN [a0] 0x13f1b534307003
def YV (a0:VC):=aE (JK a0)
def BA:aj:=JK wS
def W0:=bW BA (YV wS)
def Gx:aj:=aN [] 0x15025011045225011002300110001290220210411
def ac3:=aE Gx
def KN:aj:=aN [] 0x1502002bf19060018861c228a06c4f102b801ac1948061028f112d0011d6861c011d01ec30002af3c3c51045182001819021031230021ed3d062a304612ae03c400604c1a2a061054200181902103123002392f2291a91f0752a0482e2744074203600226204440181006002229020018603101a1822
def aie:=aE KN
def vI:VC:=bq [] 0x14ed7902229a01ac4214df29062a50460001858101c61c0047f0062a704612b903c58050186b19801a1b454200021902101d183a3c3e2d2953000224618429753e04872b41807700601b582401f18820360062a20460001858101c1885a01b1002fd2d06000181d3910583102601191d18246330040201d72784110
def Km:=aE vI
def QV (a0:VC):aj:=aN [a0] 0x1502004fb1906b5e03101d18024330071a0160200704c194a0310002401104518200021902101d1831300022b959062a30460001858001c604c1a3e06101f13051ed00021905d403101d1831300021df4900263045e2a03100602f1291bd001af142d0000000041d6810180380164381a92f06128d03c31c0191002229020002603101a1822
def ahh (a0:VC):=aE (QV a0)
def IR:aj:=QV vI
def agB:=bW IR (ahh vI)
abbrev PD:=[A 44 9,A 45 6,X 46 1 2,M 47 46,V 48 (.bin .shl (Q 1) (.m 47)),P 49 .sub 48 1,L 50 .and 45 49,X 51 1 2,M 52 51,H 53 BR [.m 44,.m 50,.m 52],E 54 53 true 0,E 55 53 false 1,A 4 54,A 5 55]
def ED:VC:=.regP (.range 14) (.range 14) [] PD
def U8 (a0:VC):aj:=aN [a0] 0x155181db1300700199022948d003ff2b0101e038011c1a383f919906381b33b03c2265046427046b005d7801b103ad290611ff03c6201a85e6a041038b1f022600462a180460001828101c585a06102cd1d060001861c105819006000182834a1c6104542001b1902105183130002246181a529754c04873961a0771804f700601b283401f1a2036000262041a2801a10045282001b19021051831300026001886128c03c28051a1831000222902001b20325c4101a1822
def ai0 (a0:VC):=aE (U8 a0)
def Li:aj:=U8 ED
def ai8:=bW Li (ai0 ED)
def j9:VC:=bq [] 0x128f2f02218a0042141cd01cc21020262042e3e02101df7062a004604c49002d2a05101af1b06000181d39105831016001924633040201d722e4110
def wI:=aE j9
def kl:VC:=bq [] 0x139f6f0225a06e4213991d061c101986b004f5c0412ef2906000181d39105831036021924633040201d726e4110
def oc:=aE kl
def AT (a0 a1:VC):aj:=aN [a0,a1] 0x153ad504f1e021002433171a0260200704c34c031002ab1d061b22ba06c2d2e031002433071a0060200704c41a03100020011001291b20210411
def LQ (a0 a1:VC):=aE (AT a0 a1)
def sK:aj:=AT j9 kl
def M4:=bW sK (LQ j9 kl)
def KM:aj:=aN [] 0x154f5062a2101e861018830040051001290220210411
def ajy:=aE KM
def Cg:aj:=aN [] 0x155d50612bc03c360310454950612bb03c6301a8300410182001290220210411
def XG:=aE Cg
abbrev Jy:=[B 38 8,B 39 7,B 40 8,V 41 (.slice 1 (.m 39) (some (.m 40)) none none),B 42 7,B 43 8,V 44 (.slice 1 (.m 42) none (some (.m 43)) none),V 45 (.cpy 1 (.m 41) (.m 44)),L 46 .add 38 45,A 8 46]
def H4:VC:=.regP (.range 10) (.range 10) [] Jy
def I5 (a0:VC):VC:=bq [a0] 0x107160192913040262a204604c5e006c18a04100
def Jn:VC:=I5 H4
def Mm (a0:VC):aj:=aN [a0] 0x154bd1905d19c0210013071a006039929061c102983005e5e04107b1292ef1f07703101bc0012f86001a84f0051041cd01cc210224229752a0481ffffffffffffffffffffe3d744075820360003d6404493c07100391291fb001ed1b01028038001e1c381df39062a22bd03c6201a819006201a8604c4201c1041cd01cc21020262041a180210001291b602101812
def MU:aj:=Mm Jn
def lX:VC:=bq [] 0x12ab3d0227c05842129d702260042d0031451b181e28291f1d7173000260018862a2380786000184a001c2e0040061003602191b1824230040201d723c4110
def wB:=aE lX
def Fb (a0:VC):VC:=bq [a0] 0x12b9290226b02c4211b1802230071a02602006000184a11c1c31018d122d000021b686030181d3920584101600192467153040201d72284110
def QN (a0:VC):=aE (Fb a0)
def mh:VC:=Fb lX
def p9:=bW mh (QN lX)
def Ka (a0:VC):aj:=aN [a0] 0x10247153071a0060200704c1900418310024011002
def Xa (a0:VC):=aE (Ka a0)
def BC:aj:=Ka mh
def Xi:=bW BC (Xa mh)
def mM:aj:=aN [] 0x156b19002660461c22be06c1900300510012918602101812
def Gz:=aE mM
def Cv:aj:=aN [] 0x152f2d2b3152919b70753804871d66071a00401b420360062a2046101881a000184001b1001291840210612
def Xq:=aE Cv
def vH:VC:=bq [] 0x119991bb0224a902fc4214518501101b183181bb1b91af3300002246181a1c1e282a2c2e383a291f1f37519f048187393804b71d46065e4026c2027280373911e077001c01b74a14c91a01bb5e1803700601b74a14c9401bb6c20360063840460001864a14c901b85e0060001864a14c901b86c28e02d1b0078d29060001862a10582265044f006000181a201c71041191f1d230020261045828a021004518501101b183185c5e681f1d5300002246181a1c1e2c2e383a3c1c29756804871d31e07581c037001a01b71d11805b5e603700401b1a3201f600754c04873961a0771804f700601b1a3401f5e2036000262045e1ac02b1004d9004bd1d06000182b3f10581d005101600191b183182463300040201d721ba4110
def JC:=aE vH
def wc:=Rg [V 40 (.ld (some 4) 1 (.s 3)),H 41 gD [.m 40],V 5 (.alloc [O8,O8,O8,O8,O8,O8,O8,O8,O8,O8,O8,O8,O8,O8,O8,O8,O8,O8,O8,O8,O8,O8,O8,O8,O8,O8,O8,O8,O8,O8,O8,O8,O8,O8,O8,O8,O8,O8,O8,O8,O8,O8,O8,O8,O8,O8,O8,O8,O8,O8,O8,O8,O8,O8,O8,O8,O8,O8,O8,O8,O8,O8,O8,O8,O8,O8,O8,O8,O8,O8,O8,O8,O8,O8,O8,O8,O8,O8,O8,O8,O8,O8,O8,O8,O8,O8,O8,O8,O8,O8,O8,O8,O8,O8,O8,O8,O8,O8,O8,O8,O8,O8,O8,O8,O8,O8,O8,O8,O8,O8,O8,O8,O8,O8,O8,O8,O8,O8,O8,O8,O8,O8,O8,O8,O8,O8,O8,O8,O8,O8,O8,O8,O8,O8,O8,O8,O8,O8,O8,O8,O8,O8,O8,O8,O8,O8,O8,O8,O8,O8,O8,O8,O8,O8,O8,O8,O8,O8,O8,O8,O8,O8,O8,O8,O8,O8,O8,O8,O8,O8,O8,O8,O8,O8,O8,O8,O8,O8,O8,O8,O8,O8,O8,O8,O8,O8,O8,O8,O8,O8,O8,O8,O8,O8,O8,O8,O8,O8,O8,O8,O8,O8,O8,O8,O8,O8,O8,O8,O8,O8,O8,O8,O8,O8,O8,O8,O8,O8,O8,O8,O8,O8,O8,O8,O8,O8,O8,O8,O8,O8,O8,O8,O8,O8,O8,O8,O8,O8,O8,O8,O8,O8,O8,O8,O8,O8,O8,O8,O8,O8,O8,O8,O8,O8,O8,O8,O8,O8,O8,O8,O8,O8,O8,O8,O8,O8,O8,O8,O8,O8,O8,O8,O8,O8,O8,O8,O8,O8,O8,O8,O8,O8,O8,O8,O8,O8,O8,O8,O8]),Yd 289 5 41]
def R8 (a0 a1:VC):aj:=aN [a0,a1] 0x155501101b183180243300171a0060200704c6000181a219e1c410071807004518501107183180002246181a1c1e2a2c2e383a3c3e4a4c4e4f4d4b2c3755b04872b31c077128e1a03f2e051801b7604f700401b1a3201f600755b04872b31c077128e1a03f2e051801b7604f700401b1a2201f600754d04872b31a077001801b2e3601f700401b1a1201f6000263043b2c0391b0002b1291af001a9142d000000004768101a038011863819b2b06128d03c6000181a01e1c1a1001291800305c310411
def ago (a0 a1:VC):=aE (R8 a0 a1)
def Is:aj:=R8 wc vH
def agY:=bW Is (ago wc vH)
def anO:aj:=aN [] 0x15027002842d61c141d01ec30002bf1e3c51045427002842d0000000004018c31011300224229752a04838274407420360022620440071000129020000000000426831065521
def P8:VC:=bq [] 0x119b1d0224c02842118d7062a704612b903c1a050182d005116001931824230040201d721c4110
def VY (a0:VC):aj:=aN [a0] 0x151a9502d1c021031802230071a00602006000181a001c3100220011001290200305c310411
def Vh:aj:=VY P8
abbrev By:=[B 17 5,B 18 6,B 19 1,V 20 (.ld (some 4) 0 (.s 2)),H 21 tQ [.m 20],L 22 .rem 19 21,X 23 1 2,M 24 23,L 25 .add 22 24,B 26 1,V 27 (.ld (some 4) 0 (.s 2)),H 28 tQ [.m 27],L 29 .quo 26 28,V 30 (.ia 1 (.m 17) (.m 18)),N (.st 1 (.m 30) (.m 25)),A 1 29]
def sP:VC:=.regP (.range 16) [0,1,2,3,4,5,6,7,8,10,11,13,14,9,12,15] [] By
def AF (a0:VC):VC:=bq [a0] 0x11cb1d02265044f0031071600195181d32300402026604583802100
def MY (a0:VC):=aE (AF a0)
def mz:VC:=AF sP
def A7:=bW mz (MY sP)
def E2 (a0:VC):aj:=aN [a0] 0x152fd1904968021051803230071a00619b1d0226504600018280181c410029129791b07702101bc0012f860001828041c51001291b20325c3101812
def Rn (a0:VC):=aE (E2 a0)
def wP:aj:=E2 mz
def Su:=bW wP (Rn mz)
def nJ:VC:=bq [] 0x11ed390225a004216012d2a2e1401b86000181a101c3b2c0511af1901d002101600192423040201d72384110
def Bv:=aE nJ
def nG:VC:=bq [] 0x13dd7b0227c01884213cf1d063e00462a2101e86101886b006c004f6807138b2906000181d39105831056041924633040201d727a4110
def Cz:=aE nG
def nA:VC:=bq [] 0x14df2b0226504791cb0316012d2a2e1401b86000181a101c7a005146192b1300262a19046000181a201c60001862e1401b87a0061b06012d382e1401b822600460001872e1401b87a4061007606192b1304020266047a1bc02100
def BE:=aE nA
def Cs (a0 a1:VC):VC:=bq [a0,a1] 0x169f5d02228f01e8421013171a0664af2b02265046000181a001c4106012d2a2814c901b86101a84f00492c051002433071a0460200704c06102e402ac6000181a04c1c510002001102ab1b01d00210360219318247330040201d725c4110
def NU (a0 a1:VC):=aE (Cs a0 a1)
def nB:VC:=Cs nG nA
def Co:=bW nB (NU nG nA)
def nu:=Rg [V 1 (.box (.m 0)),V 2 (.alloc [O8,O8,O8,O8,O8,O8,O8,O8,O8,O8,O8,O8,O8,O8,O8,O8,O8,O8,O8,O8,O8,O8,O8,O8,O8,O8,O8,O8,O8,O8,O8,O8,O8,O8,O8,O8,O8,O8,O8,O8,O8,O8,O8,O8,O8,O8,O8,O8,O8,O8,O8,O8,O8,O8,O8,O8,O8,O8,O8,O8,O8,O8,O8,O8,O8,O8,O8,O8,O8,O8,O8,O8,O8,O8,O8,O8,O8,O8,O8,O8,O8,O8,O8,O8,O8,O8,O8,O8,O8,O8,O8,O8,O8,O8,O8,O8,O8,O8,O8,O8,O8,O8,O8,O8,O8,O8,O8,O8,O8,O8,O8,O8,O8,O8,O8,O8,O8,O8,O8,O8,O8,O8,O8,O8,O8,O8,O8,O8,O8,O8,O8,O8,O8,O8,O8,O8,O8,O8,O8,O8,O8,O8,O8,O8,O8,O8,O8,O8,O8,O8,O8,O8,O8,O8,O8,O8,O8,O8,O8,O8,O8,O8,O8,O8,O8,O8,O8,O8,O8,O8,O8,O8,O8,O8,O8,O8,O8,O8,O8,O8,O8,O8,O8,O8,O8,O8,O8,O8,O8,O8,O8,O8,O8,O8,O8,O8,O8,O8,O8,O8,O8,O8,O8,O8,O8,O8,O8,O8,O8,O8,O8,O8,O8,O8,O8,O8,O8,O8,O8,O8,O8,O8,O8,O8,O8,O8,O8,O8,O8,O8,O8,O8,O8,O8,O8,O8,O8,O8,O8,O8,O8,O8,O8,O8,O8,O8,O8,O8,O8,O8,O8,O8,O8,O8,O8,O8,O8,O8,O8,O8,O8,O8,O8,O8,O8,O8,O8,O8,O8,O8,O8,O8,O8,O8,O8,O8,O8,O8,O8,O8,O8,O8,O8,O8,O8,O8,O8,O8,O8])]
def GW (a0 a1 a2:VC):aj:=aN [a0,a1,a2] 0x15318027330271a02602006128e03c1a051e1831000223171a00602006000181a01c1c31000000000044681100704ca511
def TI (a0 a1 a2:VC):=aE (GW a0 a1 a2)
def yr:aj:=GW nu nJ nB
def TX:=bW yr (TI nu nJ nB)
def lE:aj:=aN [] 0x1012961c3832c806c1900604c0012f83004606102
def DU:=aE lE
def HU:aj:=aN [] 0x1551319b1b0638229b03c60001862814c901b8190060001862814c901b8300181b000129021802101a13
def afx:=aE HU
def vd:aj:=aN [] 0x150219011045221901100261c4041900338031004512190110312300261c2041a0042a03100452219011031230024f280110045121901104502190110024c00110031230024918011007f1d0612c903c1a603106b1b0612c903c440310012902602101812
def Qc:=aE vd
def fm:VC:=bq [] 0x11df290226b03a42141b13051d91904900210281f3143002613e07860001861c10584a004001a1a06107f1b01d00210160019243143040201d72284110
def gO:=aE fm
def tf (a0:VC):aj:=aN [a0] 0x1512190110023143071a0060200604c4203100012902602101812
def Fa (a0:VC):=aE (tf a0)
def mj:aj:=tf fm
def sZ:=bW mj (Fa fm)
def xo:VC:=bq [] 0x149b6f0221ce01aa4212b1848d5062a5046000187a101c1f1880510452b1802003dd1d06000187a001c41002c2e3854300262a2046000187a101c2800410041192b180022262046000187a15a1c31002ef122d000022b686030181d392058410160019246543040201d726e4110
def MK:=aE xo
def Uh (a0:VC):aj:=aN [a0] 0x154200021d0210024543071a0060200704c60001861c1058190033c06100454200021d021053133002241a1c1e28629752a048027240728203600753e04872b618077604f44031a2036000262041a401d100022290200021a03101e1c23
def aiw (a0:VC):=aE (Uh a0)
def K6:aj:=Uh xo
def ajA:=bW K6 (aiw xo)
def Ly:aj:=aN [] 0x153b392f2d316291af1901873e04872b1918061f827060644021a20260062a6041f8265044001a001c10012918602101812
def aio:=aE Ly
def kM:aj:=aN [] 0x156b19002660461c22ca06c1900300510012918602101812
def C5:=aE kM
def Ae:aj:=aN [] 0x15218493f3d3b392f2d2b419301d9190756904873f11e01df7001c01b731a01f02751805b2800601b700401b2e3201f60060018861c22a903c19000181d060181e1b0001291800345c3101813
def Wa:=aE Ae
def FD:aj:=aN [] 0x1541858919060018861c228a06c6b5d202cb01ac60001828401c610041e26c12d1f25e12d210260001828319c1c210062112d72712d0010680014684104518190110518002246181a1c1e2c2e383a3c3e4c4e585a5d5b594b493f3d1d1b3a2975680481872b1e04b700401a282201e718030271607700401b281201f600755a04872b31c077001a01b2811801f7604f700401b284201f600753e04871d4180758603700401b281201f60075380480272607700401b281201f600753e04871d418074a603700401b280201f60002620460001828061c4e10041e2003e21b0216182300219401100382001fe20021001291820325c3101812
def adi:=aE FD
def Kz:aj:=aN [] 0x155f1d2292ab1901871c048582026000261045d3807103d1291ed001df1d0101a03800186381d93d061c21fa03c490032a0191041a91b0042106101c849003102182640441802100791b0020202641019c1960310012918602101812
def aiV:=aE Kz
def qo:VC:=bq [] 0x101a12d61c50428000181a001f18414553133002600188611c0782800018460410160019513040261c60428000181a006183100
def wl:=aE qo
def J0 (a0:VC):aj:=aN [a0] 0x10129611c078190001833a041513071a006003
def Yv (a0:VC):=aE (J0 a0)
def CG:aj:=J0 qo
def Y0:=bW CG (Yv qo)
def yp:aj:=aN [] 0x15218493f3d3b392f2d2b419301d9190756904873f11e01df7001c01b731a01f02751805b2800601b700401b2e3201f60060018861c22ad03c2b0601819050181e1b0001291800345c3101813
def TV:=aE yp
def BW:aj:=aN [] 0x151b182181df1dd1db1d91cf1cd1cb1bf1bd1bb1b91af1ad1ab1a919f19b19918f18d18b1897f7b796f6d6b695d5b594f4b493f3d3b392f583005ab1901875b04873921ba1c03e711b91a03e7001801a2e3601e700401a2e4201e6001876f04875392804a706018b700401b2e2201f718020274606700401a2e1201e6001875b04872b11c067001a01a2e11801e7604e700401a2e4201e6001874d04872b191a067001801a1824a15601ba700401a2e1201e600187390480276606700401a2e1201e6001875b04873921c067221a1a067001801a224a15601ba700401a2e0201e6000266046000182e041c6a1b005185d152d000000000051b68611b803c28152184100012918001905c325c4101812
def Zz:=aE BW
def Oy:aj:=aN [] 0x1542501104518250110021a26204300210001290220210411
def ame:=aE Oy
def XH:aj:=aN [] 0x15041d2d3fffe211b38211a3821191e21181e217182161821542144213221222111b000000000000000000000000001d018c210000000000000000000000000001d1681101e110
def Ga:aj:=aN [] 0x152f2d2b293162919b70753e04872b21807716018b1a00401b420360061c4041a000184001b1001291840210612
def adz:=aE Ga
def Am:aj:=aN [] 0x152186b5022600462a5046000181a101c6000181a201c710001290200305c310411
def Vv:=aE Am
def vt:aj:=aN [] 0x152bf19036a0210431302b91006102a101c8604c30061c031028c0012f8190006102a101c8602bc4004001a1020264041a3a02101af3064c50462a504604c400602bc40019001810041cd01cc21020262041a00210001291b602101812
def Qh:=aE vt
abbrev Nu:=Rg [A 13 2,A 14 0,V 15 (.conv .u8 (.m 14)),V 16 (.ixs (.c (.d (.str [0,1,2,2,3,3,3,3,4,4,4,4,4,4,4,4,5,5,5,5,5,5,5,5,5,5,5,5,5,5,5,5,6,6,6,6,6,6,6,6,6,6,6,6,6,6,6,6,6,6,6,6,6,6,6,6,6,6,6,6,6,6,6,6,7,7,7,7,7,7,7,7,7,7,7,7,7,7,7,7,7,7,7,7,7,7,7,7,7,7,7,7,7,7,7,7,7,7,7,7,7,7,7,7,7,7,7,7,7,7,7,7,7,7,7,7,7,7,7,7,7,7,7,7,7,7,7,7,8,8,8,8,8,8,8,8,8,8,8,8,8,8,8,8,8,8,8,8,8,8,8,8,8,8,8,8,8,8,8,8,8,8,8,8,8,8,8,8,8,8,8,8,8,8,8,8,8,8,8,8,8,8,8,8,8,8,8,8,8,8,8,8,8,8,8,8,8,8,8,8,8,8,8,8,8,8,8,8,8,8,8,8,8,8,8,8,8,8,8,8,8,8,8,8,8,8,8,8,8,8,8,8,8,8,8,8,8,8,8,8,8,8,8,8,8,8,8,8,8,8,8,8,8,8,8,8]))) (.m 15)),V 17 (.conv .i64 (.m 16)),L 18 .add 13 17,A 2 18]
def TK (a0:VC):aj:=aN [a0] 0x15070419b5028260041f2c0317f10283d6180430031002188848660441802100448220114f10483d6180430031041300248888848660440021000220110411
def TP:aj:=TK Nu
abbrev Bf:=Rg [A 19 2,A 20 0,V 21 (.conv .u8 (.m 20)),V 22 (.ixs (.c (.d (.str [0,1,2,2,3,3,3,3,4,4,4,4,4,4,4,4,5,5,5,5,5,5,5,5,5,5,5,5,5,5,5,5,6,6,6,6,6,6,6,6,6,6,6,6,6,6,6,6,6,6,6,6,6,6,6,6,6,6,6,6,6,6,6,6,7,7,7,7,7,7,7,7,7,7,7,7,7,7,7,7,7,7,7,7,7,7,7,7,7,7,7,7,7,7,7,7,7,7,7,7,7,7,7,7,7,7,7,7,7,7,7,7,7,7,7,7,7,7,7,7,7,7,7,7,7,7,7,7,8,8,8,8,8,8,8,8,8,8,8,8,8,8,8,8,8,8,8,8,8,8,8,8,8,8,8,8,8,8,8,8,8,8,8,8,8,8,8,8,8,8,8,8,8,8,8,8,8,8,8,8,8,8,8,8,8,8,8,8,8,8,8,8,8,8,8,8,8,8,8,8,8,8,8,8,8,8,8,8,8,8,8,8,8,8,8,8,8,8,8,8,8,8,8,8,8,8,8,8,8,8,8,8,8,8,8,8,8,8,8,8,8,8,8,8,8,8,8,8,8,8,8,8,8,8,8,8]))) (.m 21)),V 23 (.conv .i64 (.m 22)),L 24 .add 19 23,A 2 24]
def GQ (a0:VC):aj:=aN [a0] 0x1507041df5028260041f480311cb10283d618043003100218883d660442c02100419b5048260041f2c0317f10483d61804300310024888883d6604418021004188220114f101883d618043003104130021888888888883d660440021000220110411
def TQ (a0:VC):=aE (GQ a0)
def yz:aj:=GQ Bf
def TN:=bW yz (TQ Bf)
def Zf:aj:=aN [] 0x152e9002db19079006b4c04105d1292cd002bf290101a03800186382b95d061c22cd03c190034a0191045289001ed1906201a85d006201a84f2c06102d1291d9001cb1d0101e038001c1a381bd2d062a22cc03c6301a819006301a831a01b1018200222903d0003d603101a1822
def gg:VC:=bq [] 0x11df290226b03a42141b13051d91904900210281f3143002613e07860001861c10584a004001a1a06107f1b01d00210160019243143040201d72284110
def js:=aE gg
def yh (a0:VC):aj:=aN [a0] 0x1512190110023143071a0060200604c4203100012902602101812
def Jv (a0:VC):=aE (yh a0)
def pz:aj:=yh gg
def yb:=bW pz (Jv gg)
def afP:aj:=aN [] 0x15046c2d64681c45c2a4583844c3e4484c43c4f4384942c3b4282d41c1f41819441c000000000000000000000000000000000000000000000000000000000000000000000000000000000000000000000000000000006c018c02131f82121ef21122104000000004018c421348212021142104000000004018c421338212021142104000000004018c221338212021142104000000004018c42131e212021142104000000004018c22131e212021142104000000004018c221318212721142104000000004018c021318212721142104000000004018c221342120211182104000000004018c021342120211182104000000004018c221322121211182104000000004018c021322121211182104000000004018c1e10000000000000000000000000000000000000000000000000000000000000000000000000000000000000000000000000000000006c1681106d110
def gS:VC:=bq [] 0x128f29061c00458006b380411ed1f06c00210012961c2a3842ce06c280069005d00400610160191a13040261c19041a002b2c03100
def qH:=aE gS
def gX:VC:=bq [] 0x14cb29062a00464270458006b19a05149b1f06c00210012961c2a4c5a52cf06c28006c0061c00458005d005e004001910564192913040261c19041a006c18803100
def qF:=aE gX
def qI (a0:VC):VC:=bq [a0] 0x15ef1d04267044f003142b1f230012961c2a383e52cf06c28001a0079005d00400710261c2041a007a1ac03104ed2b061c00458005e1a804100013071a046038b00021f06427045800410362191d53143040261c2041a00586e03100
def C4 (a0:VC):=aE (qI a0)
def gW:VC:=qI gX
def qG:=bW gW (C4 gX)
def uG (a0 a1:VC):aj:=aN [a0,a1] 0x11d53143171a026012961c2a3842ce06c28001a005d0043c0610013071a00607f00021f039603105821a011003
def F8 (a0 a1:VC):=aE (uG a0 a1)
def mS:aj:=uG gS gW
def FN:=bW mS (F8 gS gW)
def yv:aj:=aN [] 0x15495061c30430040041001291820210411
def TR:=aE yv
def fw:VC:=bq [] 0x11df290226b03a42141b13051d91904900210281f3143002613e07860601861c50584a004001a1a06107f1b01d00210160019243143040201d72284110
def gR:=aE fw
def uq (a0:VC):aj:=aN [a0] 0x1512190110023143071a0060200604c4203100012902602101812
def Gc (a0:VC):=aE (uq a0)
def mI:aj:=uq fw
def uE:=bW mI (Gc fw)
def Br:aj:=aN [] 0x152f2d2b4152919b190753804871d46072800401b420360061c20419000184001a10012918602101813
def YW:=aE Br
def TJ:aj:=aN [] 0x151cb001af1906301a84f006301a81883d618044d1a071018d1d062a7046201a819006201a83206100222904800048603101a1822
def TW:aj:=aN [] 0x154df1b061c704190031ae04104bd19062a0041883d6180419b0061c0041a90061c70479005d6e019103dd39063800461c7047a004f0019b5a061039f3b01883d6180418d58031038b3907fffffffffe3d61c0418e4e03102ef2f062a0041883d618047f0061c7046b005e3c07102ab2d061c7046c00583804102892b01883d618041a2e03101ed2907fffffffffe3d61c041a2c03101d91f01883d6180442a03101bd1d07fffffffffe3d61c0442803100222903d0003d603101a1822
abbrev mB:=[B 18 9,B 19 1,L 20 .gtr 18 19,A 21 20,W 21 22 (.mov (.s 3)),W 21 23 (.mov (.s 0)),W 21 24 (.mov (.s 9)),W 21 25 (.ia 1 (.s 23) (.s 24)),W 21 26 (.ld none 0 (.s 25)),W 21 27 (.mov (.s 0)),W 21 28 (.mov (.s 9)),W 21 29 (.bin .sub (.s 28) (Q 1)),W 21 30 (.ia 1 (.s 27) (.s 29)),W 21 31 (.ld none 0 (.s 30)),W 21 32 (.callv (.s 22) [.s 26,.s 31]),W 21 33 (.bin .lss (.s 32) (Q 0)),V 34 (.pick (.s 21) (.s 33) ff)]
def im:VC:=.regP (.range 17) (.range 17) [] mB
abbrev mw:=[B 37 0,B 38 9,B 39 0,B 40 9,P 41 .sub 40 1,B 42 0,B 43 9,P 44 .sub 43 1,V 45 (.ia 1 (.m 42) (.m 44)),M 46 45,B 47 0,B 48 9,V 49 (.ia 1 (.m 47) (.m 48)),M 50 49,V 51 (.ia 1 (.m 37) (.m 38)),N (.st 1 (.m 51) (.m 46)),V 52 (.ia 1 (.m 39) (.m 41)),N (.st 1 (.m 52) (.m 50))]
def iq:VC:=.regP (.range 18) [0,1,5,6,7,8,9,10,11,12,13,14,15,2,3,4,16,17] [] mw
def mf (a0 a1:VC):VC:=bq [a0,a1] 0x13bb2b02265047918c031173602192b130439f218b1897f7d7b796f6d6b695f5d5b1d307000
def we (a0 a1:VC):=aE (mf a0 a1)
def fc:VC:=mf im iq
def md:=bW fc (we im iq)
def mc (a0:VC):VC:=bq [a0] 0x11cb2902260045a1a031013071a0261d92b06c402101600191c753153040261c2042800392e03100
def wp (a0:VC):=aE (mc a0)
def fg:VC:=mc fc
def mg:=bW fg (wp fc)
def nQ (a0:VC):aj:=aN [a0] 0x10753153071a00618d2902260041a2a031004
def ze (a0:VC):=aE (nQ a0)
def jm:aj:=nQ fg
def zi:=bW jm (ze fg)
abbrev pF:=[B 40 4,B 41 0,B 42 12,V 43 (.ia 1 (.m 41) (.m 42)),M 44 43,B 45 0,B 46 1,V 47 (.ia 1 (.m 45) (.m 46)),M 48 47,V 49 (.callv (.m 40) [.m 44,.m 48]),P 50 .lss 49 0]
def jV:VC:=.regP (.range 11) (.range 11) [] pF
def pf (a0:VC):VC:=bq [a0] 0x15892f019b1ac0212f1304fb2d022600419b19c03141304df20703dd3906001a823d618046201a861c00418e0018800710160192f1923040261c20418e001887c03100
def Bm (a0:VC):=aE (pf a0)
def gx:VC:=pf jV
def oN:=bW gx (Bm jV)
abbrev oT:=[B 61 0,B 62 13,B 63 0,B 64 13,P 65 .add 64 1,B 66 0,B 67 13,P 68 .add 67 1,V 69 (.ia 1 (.m 66) (.m 68)),M 70 69,B 71 0,B 72 13,V 73 (.ia 1 (.m 71) (.m 72)),M 74 73,V 75 (.ia 1 (.m 61) (.m 62)),N (.st 1 (.m 75) (.m 70)),V 76 (.ia 1 (.m 63) (.m 65)),N (.st 1 (.m 76) (.m 74))]
def jv:VC:=.regP (.range 18) [0,1,5,6,7,8,9,10,11,12,13,14,15,2,3,4,16,17] [] oT
def oW (a0:VC):VC:=bq [a0] 0x15db3b02260041a90031073602193b2d133040262a204226504188001aa1dc04100
def Bo (a0:VC):=aE (oW a0)
def gm:VC:=oW jv
def pb:=bW gm (Bo jv)
abbrev oZ:=[B 92 4,B 93 0,B 94 2,V 95 (.ia 1 (.m 93) (.m 94)),M 96 95,B 97 0,B 98 16,V 99 (.ia 1 (.m 97) (.m 98)),M 100 99,V 101 (.callv (.m 92) [.m 96,.m 100]),P 102 .lss 101 0,V 103 (.un .not (.m 102))]
def jw:VC:=.regP (.range 12) (.range 12) [] oZ
def pe (a0:VC):VC:=bq [a0] 0x119ff3f01cb2ee0213f13019f93d02260041cb2de031413019dd207018cd4906001a823d618046201a861c0041be001b800710564193f1923040261c2041be001b82cc03100
def Bn (a0:VC):=aE (pe a0)
def gw:VC:=pe jw
def oU:=bW gw (Bn jw)
abbrev oJ:=[B 113 0,B 114 17,B 115 0,B 116 17,P 117 .sub 116 1,B 118 0,B 119 17,P 120 .sub 119 1,V 121 (.ia 1 (.m 118) (.m 120)),M 122 121,B 123 0,B 124 17,V 125 (.ia 1 (.m 123) (.m 124)),M 126 125,V 127 (.ia 1 (.m 113) (.m 114)),N (.st 1 (.m 127) (.m 122)),V 128 (.ia 1 (.m 115) (.m 117)),N (.st 1 (.m 128) (.m 126))]
def jA:VC:=.regP (.range 18) [0,1,5,6,7,8,9,10,11,12,13,14,15,2,3,4,16,17] [] oJ
def oY (a0:VC):VC:=bq [a0] 0x11acb4b02265041d90031077606194b3d133040261c4041b8001da3ae03100
def Bj (a0:VC):=aE (oY a0)
def gp:VC:=oY jA
def oO:=bW gp (Bj jA)
abbrev oK:=[B 158 4,B 159 0,B 160 22,B 161 23,L 162 .sub 160 161,V 163 (.ia 1 (.m 159) (.m 162)),M 164 163,B 165 0,B 166 23,V 167 (.ia 1 (.m 165) (.m 166)),M 168 167,V 169 (.callv (.m 158) [.m 164,.m 168]),P 170 .lss 169 0,V 171 (.un .not (.m 170))]
def jz:VC:=.regP (.range 14) (.range 14) [] oK
def oM (a0:VC):VC:=bq [a0] 0x128af5b029d4ea0215b13028a959022600429d4d80316130288d20701ee95f06001a823d618046201a861c00428a001fc0071019618195d5b23040261c20428a001fc4d803100
def Bl (a0:VC):=aE (oM a0)
def gz:VC:=oM jz
def oQ:=bW gz (Bl jz)
def r8 (a0 a1 a2 a3 a4:VC):aj:=aN [a0,a1,a2,a3,a4] 0x14694d1971530012961c2a383e52cf06c3b002d002ab001df0030071022463291873804871d26062e4022ac20260061c2042ac001e80019104593230012961c2a383e52cf06c3c001e8001fb00190040071022463291873804871d26061e84021fc20260061c2041fc001a001910045130012961c2a383e52d806c3c002ac001f001fc0040071022463291873804871d26062ac4022820260061c20428001fc4ea01910028d969061c5041fc001ed4e804100223471a018601dfb5d02265041ee3fa03101ddf5b0283fa0211dd95901a3ee02101dcb5b01e83ee0211dbd59061c5042e001ee004100261c4041e800283d80310002229020002003101cf94f061c00428001e83d804101ccf4d06001a823d618046201a861c0042e001a3be07104506133371a0661a8d4b01f2ee0210001923271a04607df3f02828e02107d93d0190021071300222610461c50428002e1fe041004506133171a02658f3b0191ac0210001923071a00602ef2f02d4e02102e92d01f002100222610461c5041a0028680410005
def Ed (a0 a1 a2 a3 a4:VC):=aE (r8 a0 a1 a2 a3 a4)
def ll:aj:=r8 gx gm gw gp gz
def eh:=bW ll (Ed gx gm gw gp gz)
def gU:VC:=bq [] 0x14d92f061c5041880018d0041012961c2a6818a52d906c3c001880061c5041880061c00418e00280061c50418800280046801d1039f2d061c50418e007f0041012961c2a385a52d906c3c0018e00280061c50418800280040019100261c40418b0018800310160192a13040261c3046900694a03100
def CZ:=aE gU
def uA (a0:VC):aj:=aN [a0] 0x1012961c2a385a52d906c3b007f001f0061c504188002800319c0191013071a00601d92f061c50428002d1804101af2d061c5041900282e041005
def FI (a0:VC):=aE (uA a0)
def mH:aj:=uA gU
def Gf:=bW mH (FI gU)
abbrev oR:=[B 16 0,B 17 1,B 18 10,L 19 .add 17 18,B 20 0,B 21 2,B 22 10,L 23 .add 21 22,B 24 0,B 25 2,B 26 10,L 27 .add 25 26,V 28 (.ia 1 (.m 24) (.m 27)),M 29 28,B 30 0,B 31 1,B 32 10,L 33 .add 31 32,V 34 (.ia 1 (.m 30) (.m 33)),M 35 34,V 36 (.ia 1 (.m 16) (.m 19)),N (.st 1 (.m 36) (.m 29)),V 37 (.ia 1 (.m 20) (.m 23)),N (.st 1 (.m 37) (.m 35))]
def jB:VC:=.regP (.range 24) [0,1,2,3,8,9,10,11,12,13,14,15,16,17,18,19,20,21,4,5,6,7,22,23] [] oR
def ot (a0:VC):VC:=bq [a0] 0x11bd2d0226004380031071600196753153040261c2042e0072c03100
def Au (a0:VC):=aE (ot a0)
def f9:VC:=ot jB
def ou:=bW f9 (Au jB)
def qD (a0:VC):aj:=aN [a0] 0x10753153071a006022a01101913005
def C3 (a0:VC):=aE (qD a0)
def kJ:aj:=qD f9
def CY:=bW kJ (C3 f9)
def atr:T:=(.node 86 w8 (.node 44 Ky (.node 23 Lc (.node 13 Kq (.node 8 Oo (.node 5 rI (.node 4 r9 (.node 3 pr .leaf .leaf) .leaf) (.node 7 KL (.node 6 K9 .leaf .leaf) .leaf)) (.node 11 Qg (.node 10 tX (.node 9 M9 .leaf .leaf) .leaf) (.node 12 sn .leaf .leaf))) (.node 18 Al (.node 16 GD (.node 15 Ie (.node 14 FY .leaf .leaf) .leaf) (.node 17 Av .leaf .leaf)) (.node 21 u7 (.node 20 RJ (.node 19 N3 .leaf .leaf) .leaf) (.node 22 pi .leaf .leaf)))) (.node 34 KC (.node 29 Nf (.node 26 Bx (.node 25 ajI (.node 24 tC .leaf .leaf) .leaf) (.node 28 QS (.node 27 Nl .leaf .leaf) .leaf)) (.node 32 KU (.node 31 Rb (.node 30 sO .leaf .leaf) .leaf) (.node 33 N5 .leaf .leaf))) (.node 39 KK (.node 37 KJ (.node 36 Jh (.node 35 HP .leaf .leaf) .leaf) (.node 38 Kr .leaf .leaf)) (.node 42 OA (.node 41 Lo (.node 40 Ku .leaf .leaf) .leaf) (.node 43 KS .leaf .leaf))))) (.node 65 nF (.node 55 tL (.node 50 Ls (.node 47 K0 (.node 46 Ll (.node 45 Kw .leaf .leaf) .leaf) (.node 49 DO (.node 48 Gg .leaf .leaf) .leaf)) (.node 53 CN (.node 52 Ng (.node 51 IG .leaf .leaf) .leaf) (.node 54 DM .leaf .leaf))) (.node 60 lF (.node 58 H1 (.node 57 FA (.node 56 ma .leaf .leaf) .leaf) (.node 59 KO .leaf .leaf)) (.node 63 tv (.node 62 tq (.node 61 F4 .leaf .leaf) .leaf) (.node 64 lv .leaf .leaf)))) (.node 76 NM (.node 71 Io (.node 68 oz (.node 67 HJ (.node 66 po .leaf .leaf) .leaf) (.node 70 IH (.node 69 tJ .leaf .leaf) .leaf)) (.node 74 KY (.node 73 NA (.node 72 ve .leaf .leaf) .leaf) (.node 75 GG .leaf .leaf))) (.node 81 HY (.node 79 El (.node 78 Ep (.node 77 Ge .leaf .leaf) .leaf) (.node 80 vp .leaf .leaf)) (.node 84 F7 (.node 83 KV (.node 82 Iv .leaf .leaf) .leaf) (.node 85 Eo .leaf .leaf)))))) (.node 128 MU (.node 107 DL (.node 97 adT (.node 92 DZ (.node 89 Ds (.node 88 BD (.node 87 BN .leaf .leaf) .leaf) (.node 91 Lx (.node 90 FJ .leaf .leaf) .leaf)) (.node 95 Le (.node 94 aa4 (.node 93 Rx .leaf .leaf) .leaf) (.node 96 Gk .leaf .leaf))) (.node 102 Ai (.node 100 OW (.node 99 sE (.node 98 yD .leaf .leaf) .leaf) (.node 101 km .leaf .leaf)) (.node 105 Ez (.node 104 DA (.node 103 oa .leaf .leaf) .leaf) (.node 106 CI .leaf .leaf)))) (.node 118 Lg (.node 113 vE (.node 110 Ej (.node 109 Es (.node 108 IN .leaf .leaf) .leaf) (.node 112 H7 (.node 111 D3 .leaf .leaf) .leaf)) (.node 116 FB (.node 115 Jm (.node 114 nt .leaf .leaf) .leaf) (.node 117 F6 .leaf .leaf))) (.node 123 IR (.node 121 Gx (.node 120 BA (.node 119 CV .leaf .leaf) .leaf) (.node 122 KN .leaf .leaf)) (.node 126 KM (.node 125 sK (.node 124 Li .leaf .leaf) .leaf) (.node 127 Cg .leaf .leaf))))) (.node 149 BW (.node 139 vd (.node 134 Vh (.node 131 Cv (.node 130 mM (.node 129 BC .leaf .leaf) .leaf) (.node 133 anO (.node 132 Is .leaf .leaf) .leaf)) (.node 137 lE (.node 136 yr (.node 135 wP .leaf .leaf) .leaf) (.node 138 HU .leaf .leaf))) (.node 144 Ae (.node 142 Ly (.node 141 K6 (.node 140 mj .leaf .leaf) .leaf) (.node 143 kM .leaf .leaf)) (.node 147 CG (.node 146 Kz (.node 145 FD .leaf .leaf) .leaf) (.node 148 yp .leaf .leaf)))) (.node 160 mS (.node 155 TP (.node 152 Ga (.node 151 XH (.node 150 Oy .leaf .leaf) .leaf) (.node 154 vt (.node 153 Am .leaf .leaf) .leaf)) (.node 158 pz (.node 157 Zf (.node 156 yz .leaf .leaf) .leaf) (.node 159 afP .leaf .leaf))) (.node 165 TW (.node 163 Br (.node 162 mI (.node 161 yv .leaf .leaf) .leaf) (.node 164 TJ .leaf .leaf)) (.node 168 mH (.node 167 ll (.node 166 jm .leaf .leaf) .leaf) (.node 169 kJ .leaf .leaf)))))))
def prog:Nat->Y_:=atr.look
abbrev rP (r:VC) (l:T_) (e:aV):Prop:=∀ {h:ak}{n:Nat},(Dn prog).code r ⟨e,⟨h,n⟩⟩=fb (pB prog l e ⟨h,n⟩)
def nS {p g:C_}{o:T_}{l:T_}{e:aV}(a:rW e o=true:=by kernel_rfl) (b:(p.all fun i=>decide (i<o.length))=true:=by kernel_rfl) (c:p.filterMap (fun i=>o[i]?)=l:=by kernel_rfl):rP (.regP p g [] o) l e:=alW a b (by rw[c])
variable {x0 x1 x2 x3 x4 x5 x6 x7 x8 x9 x10 x11 x12 x13 x14 x15 x16 x17 x18 x19 x21 x69:AV}{y0 y1 y2 y3 y4 y5 y6 y7 y8 y9 y10 y11 y12 y13 y14 y15 y16 y17 y18 y19 y20 y21 y22 y23 y31 y32 y33 y46 y47 y70 y71 y80 y81 y140 y141:D}{h:ak}{n:Nat}
@[simp] def auO:(Dn prog).code uw ⟨[(2,x2),(4,x4),(6,x6)],⟨h,n⟩⟩=fb (bA (ir 1 (share x2)) fun a1=>bA (eW ((dK (cL (firm a1)++[]) h)) none (firm a1)) fun a2=>bA (fo .sub (firm a2) (A_ 1)) fun a3=>bP ((Dn prog).call jx [firm (share x6),A_ 3] ⟨h,n⟩) fun a4 s5=>dE (dI (((cL (firm a1)++[])++[])) h s5.heap) <| bA (fo .eql (firm a4) (.d a3)) fun a6=>bP ((Dn prog).call lC [firm (share x6),.d a6] ⟨s5.heap,s5.next⟩) fun a7 s8=>some ⟨[(2,x2),(4,x4),(6,x6),(41,firm a7)],⟨s8.heap,s8.next⟩⟩):=dO rfl rfl (by kernel_rfl)
@[simp] def at0:rP xy PJ [(2,x2),(4,x4),(6,x6),(7,x7)]:=nS
@[simp] def at5:(Dn prog).code xI ⟨[(4,x4),(6,x6)],⟨h,n⟩⟩=fb (bA (dZ [.nl,B_ false,O,.nl,.nl] []) fun a1=>bA (Fz (firm x6)) fun a2=>bA (ir 2 (firm a2)) fun a3=>bA (eW ((dK (cL (firm a3)++[]) h)) none (firm a3)) fun a4=>bA (storeAt h 5 (share x4) (firm (.agg a1))) fun h5=>dE (dI (((cL (firm a3)++[])++[])) h h5) <| some ⟨[(4,x4),(5,firm (firm a4))],⟨h5,n⟩⟩):=dO rfl rfl (by kernel_rfl)
@[simp] def ato:(Dn prog).code Ei ⟨[(4,x4),(6,x6)],⟨h,n⟩⟩=fb (bA (dZ [.nl,B_ false,O,.nl,.nl] []) fun a1=>bA (Fz (firm x6)) fun a2=>bA (ir 2 (firm a2)) fun a3=>bA (eW ((dK (cL (firm a3)++[]) h)) none (firm a3)) fun a4=>bA (storeAt h 5 (share x4) (firm (.agg a1))) fun h5=>dE (dI (((cL (firm a3)++[])++[])) h h5) <| some ⟨[(4,x4),(5,firm (firm a4))],⟨h5,n⟩⟩):=dO rfl rfl (by kernel_rfl)
@[simp] def atT:rP Eu PC [(2,x2),(4,x4),(6,x6),(7,x7),(10,x10),(140,.d y140),(141,.d y141)]:=nS
@[simp] def atv:(Dn prog).code Du ⟨[(4,x4),(6,x6)],⟨h,n⟩⟩=fb (bA (dZ [.nl,B_ false,O,.nl,.nl] []) fun a1=>bA (Fz (firm x6)) fun a2=>bA (ir 2 (firm a2)) fun a3=>bA (eW ((dK (cL (firm a3)++[]) h)) none (firm a3)) fun a4=>bA (storeAt h 5 (share x4) (firm (.agg a1))) fun h5=>dE (dI (((cL (firm a3)++[])++[])) h h5) <| some ⟨[(4,x4),(5,firm (firm a4))],⟨h5,n⟩⟩):=dO rfl rfl (by kernel_rfl)
@[simp] def atx:(Dn prog).code xA ⟨[(4,x4),(6,x6)],⟨h,n⟩⟩=fb (bA (dZ [.nl,B_ false,O,.nl,.nl] []) fun a1=>bA (Fz (firm x6)) fun a2=>bA (ir 2 (firm a2)) fun a3=>bA (eW ((dK (cL (firm a3)++[]) h)) none (firm a3)) fun a4=>bA (storeAt h 5 (share x4) (firm (.agg a1))) fun h5=>dE (dI (((cL (firm a3)++[])++[])) h h5) <| some ⟨[(4,x4),(5,firm (firm a4))],⟨h5,n⟩⟩):=dO rfl rfl (by kernel_rfl)
@[simp] def atM:rP EC PV [(4,x4),(5,.d y5),(6,.d y6),(15,x15),(16,.d y16),(17,.d y17)]:=nS
@[simp] def apq:rP yu Ii [(2,x2),(3,x3),(4,x4),(5,x5)]:=nS
@[simp] def ano:rP vk Ff [(0,x0),(1,.d y1)]:=nS
@[simp] def auU:(Dn prog).code FZ ⟨[(6,x6),(7,x7),(8,x8)],⟨h,n⟩⟩=fb (bA (eW h (some 4) (share x6)) fun a1=>bA (eW ((dK (cL x8++[]) h)) none (share x8)) fun a2=>bA (storeAt h 4 (share x6) (firm a1)) fun h3=>dE (dI (((cL x8++[])++[])) h h3) <| bA (storeAt h3 1 (share x7) (O)) fun h4=>dE (dI (((cL x8++[])++[])) h3 h4) <| bA (storeAt h4 1 (share x8) (firm a2)) fun h5=>some ⟨[(6,x6),(7,x7),(8,x8)],⟨h5,n⟩⟩):=dO rfl rfl (by kernel_rfl)
@[simp] def atp:(Dn prog).code D4 ⟨[(6,x6),(7,x7),(8,x8)],⟨h,n⟩⟩=fb (bA (dZ [O8,O8,O,.nl] []) fun a1=>bA (eW ((dK (cL x8++[]) h)) none (share x8)) fun a2=>bA (storeAt h 4 (share x6) (firm (.agg a1))) fun h3=>dE (dI (((cL x8++[])++[])) h h3) <| bA (storeAt h3 1 (share x7) (O)) fun h4=>dE (dI (((cL x8++[])++[])) h3 h4) <| bA (storeAt h4 1 (share x8) (firm a2)) fun h5=>some ⟨[(6,x6),(7,x7),(8,x8)],⟨h5,n⟩⟩):=dO rfl rfl (by kernel_rfl)
@[simp] def atG:(Dn prog).code DG ⟨[(6,x6),(7,x7),(8,x8)],⟨h,n⟩⟩=fb (bA (eW h (some 4) (share x6)) fun a1=>bA (eW ((dK (cL x7++[]) h)) none (share x7)) fun a2=>bA (storeAt h 4 (share x6) (firm a1)) fun h3=>dE (dI (((cL x7++[])++[])) h h3) <| bA (storeAt h3 1 (share x7) (firm a2)) fun h4=>bA (storeAt h4 1 (share x8) (O)) fun h5=>some ⟨[(6,x6),(7,x7),(8,x8)],⟨h5,n⟩⟩):=dO rfl rfl (by kernel_rfl)
@[simp] def awQ:(Dn prog).code I1 ⟨[(10,x10),(11,x11),(12,x12)],⟨h,n⟩⟩=fb (bA (dZ [O,O8,O8,O,.nl,.nl,.nl,.nl,.nl] []) fun a1=>bA (eW ((dK (cL x12++[]) h)) none (share x12)) fun a2=>bA (storeAt h 9 (share x10) (firm (.agg a1))) fun h3=>dE (dI (((cL x12++[])++[])) h h3) <| bA (storeAt h3 1 (share x11) (O)) fun h4=>dE (dI (((cL x12++[])++[])) h3 h4) <| bA (storeAt h4 1 (share x12) (firm a2)) fun h5=>some ⟨[(10,x10),(11,x11),(12,x12)],⟨h5,n⟩⟩):=dO rfl rfl (by kernel_rfl)
@[simp] def awP:(Dn prog).code I2 ⟨[(10,x10),(11,x11),(12,x12)],⟨h,n⟩⟩=fb (bA (dZ [O,O8,O8,O,.nl,.nl,.nl,.nl,.nl] []) fun a1=>bA (eW ((dK (cL x12++[]) h)) none (share x12)) fun a2=>bA (storeAt h 9 (share x10) (firm (.agg a1))) fun h3=>dE (dI (((cL x12++[])++[])) h h3) <| bA (storeAt h3 1 (share x11) (O)) fun h4=>dE (dI (((cL x12++[])++[])) h3 h4) <| bA (storeAt h4 1 (share x12) (firm a2)) fun h5=>some ⟨[(10,x10),(11,x11),(12,x12)],⟨h5,n⟩⟩):=dO rfl rfl (by kernel_rfl)
@[simp] def avR:(Dn prog).code Gw ⟨[(10,x10),(11,x11),(12,x12)],⟨h,n⟩⟩=fb (bA (dZ [O,O8,O8,O,.nl,.nl,.nl,.nl,.nl] []) fun a1=>bA (eW ((dK (cL x12++[]) h)) none (share x12)) fun a2=>bA (storeAt h 9 (share x10) (firm (.agg a1))) fun h3=>dE (dI (((cL x12++[])++[])) h h3) <| bA (storeAt h3 1 (share x11) (O)) fun h4=>dE (dI (((cL x12++[])++[])) h3 h4) <| bA (storeAt h4 1 (share x12) (firm a2)) fun h5=>some ⟨[(10,x10),(11,x11),(12,x12)],⟨h5,n⟩⟩):=dO rfl rfl (by kernel_rfl)
@[simp] def awH:(Dn prog).code zH ⟨[(5,x5),(10,x10),(11,x11),(12,x12),(18,x18),(19,x19)],⟨h,n⟩⟩=fb (bA (eW ((dK (cL x5++[]) h)) none x5) fun a1=>bA (eW ((dK (cL x11++[]) h)) none (share x11)) fun a2=>bA (eW h none (share x18)) fun a3=>bA (ir 0 (share x19)) fun a4=>bA (eW h none (firm a4)) fun a5=>bP ((Dn prog).call mA [firm a3,firm a5] ⟨h,n⟩) fun a6 s7=>dE (dI (((cL x11++[])++((cL x5++[])++[]))) h s7.heap) <| bA (eD (Dn prog) xK [firm a1,firm a2,firm a6] s7.heap) fun a8=>bA (Ak true (firm (firm a8)) 0) fun a9=>bA (Ak false (NP (firm (firm a8)) 0) 1) fun a10=>bA (Ak false (NP (firm (firm a8)) 0) 2) fun a11=>bA (storeAt s7.heap 1 (share x11) (firm a10)) fun h12=>bA (storeAt h12 1 (share x12) (firm a11)) fun h13=>some ⟨[(10,x10),(11,x11),(12,x12),(18,x18),(19,x19),(20,firm (firm a9)),(84,NP (firm (firm a8)) 0)],⟨h13,s7.next⟩⟩):=dO rfl rfl (by kernel_rfl)
@[simp] def awg:(Dn prog).code zq ⟨[(10,x10),(11,x11),(12,x12)],⟨h,n⟩⟩=fb (bA (dZ [O,O8,O8,O,.nl,.nl,.nl,.nl,.nl] []) fun a1=>bA (eW ((dK (cL x12++[]) h)) none (share x12)) fun a2=>bA (storeAt h 9 x10 (firm (.agg a1))) fun h3=>dE (dI (((cL x12++[])++[])) h h3) <| bA (storeAt h3 1 x11 (O)) fun h4=>dE (dI (((cL x12++[])++[])) h3 h4) <| bA (storeAt h4 1 (share x12) (firm a2)) fun h5=>some ⟨[(12,x12)],⟨h5,n⟩⟩):=dO rfl rfl (by kernel_rfl)
@[simp] def awa:(Dn prog).code GJ ⟨[(10,x10),(11,x11),(12,x12)],⟨h,n⟩⟩=fb (bA (eW h (some 9) (share x10)) fun a1=>bA (eW ((dK (cL x11++[]) h)) none (share x11)) fun a2=>bA (storeAt h 9 (share x10) (firm a1)) fun h3=>dE (dI (((cL x11++[])++[])) h h3) <| bA (storeAt h3 1 (share x11) (firm a2)) fun h4=>bA (storeAt h4 1 (share x12) (O)) fun h5=>some ⟨[(10,x10),(11,x11),(12,x12)],⟨h5,n⟩⟩):=dO rfl rfl (by kernel_rfl)
@[simp] def awv:rP FH RF [(0,x0),(1,.d y1),(6,x6)]:=nS
@[simp] def aus:(Dn prog).code GI ⟨[(6,x6),(11,x11),(12,x12),(13,x13)],⟨h,n⟩⟩=fb (bA (eW h none (share x11)) fun a1=>bA (ir 0 (share x13)) fun a2=>bA (eW h none (firm a2)) fun a3=>bA (ir 8 (share x6)) fun a4=>bA (eW ((dK (cL (firm a4)++[]) h)) none (firm a4)) fun a5=>bA (ir 1 (share x13)) fun a6=>bA (eW ((dK (cL (firm a6)++[]) h)) none (firm a6)) fun a7=>bA (ir 2 (share x13)) fun a8=>bA (eW ((dK (cL (firm a8)++[]) h)) none (firm a8)) fun a9=>bA (tG ((dK (cL (firm a5)++[]) h)) 1 (firm a5) (some (firm a7)) (some (firm a9)) none) fun a10=>bP ((Dn prog).call mA [firm a1,firm a3] ⟨h,n⟩) fun a11 s12=>dE (dI (((cL (firm a5)++[])++((cL (firm a8)++[])++((cL (firm a6)++[])++((cL (firm a4)++[])++[]))))) h s12.heap) <| bA (eD (Dn prog) Hf [.nl,firm a11,firm a10] s12.heap) fun a13=>bA (Ak true (firm (firm a13)) 0) fun a14=>bA (Ak false (NP (firm (firm a13)) 0) 1) fun a15=>some ⟨[(6,x6),(11,x11),(12,x12),(13,x13),(14,firm (firm a14)),(15,firm (firm a15)),(88,NP (firm (firm a13)) 0)],⟨s12.heap,s12.next⟩⟩):=dO rfl rfl (by kernel_rfl)
@[simp] def att:(Dn prog).code DD ⟨[(8,x8),(9,x9),(10,x10)],⟨h,n⟩⟩=fb (bA (eW ((dK (cL x10++[]) h)) none (share x10)) fun a1=>bA (storeAt h 1 (share x8) .nl) fun h2=>dE (dI (((cL x10++[])++[])) h h2) <| bA (storeAt h2 1 (share x9) (O)) fun h3=>dE (dI (((cL x10++[])++[])) h2 h3) <| bA (storeAt h3 1 (share x10) (firm a1)) fun h4=>some ⟨[(8,x8),(9,x9),(10,x10)],⟨h4,n⟩⟩):=dO rfl rfl (by kernel_rfl)
@[simp] def aq3:(Dn prog).code BM ⟨[(8,x8),(9,x9),(10,x10)],⟨h,n⟩⟩=fb (bA (eW ((dK (cL x10++[]) h)) none (share x10)) fun a1=>bA (storeAt h 1 x8 .nl) fun h2=>dE (dI (((cL x10++[])++[])) h h2) <| bA (storeAt h2 1 x9 (O)) fun h3=>dE (dI (((cL x10++[])++[])) h2 h3) <| bA (storeAt h3 1 (share x10) (firm a1)) fun h4=>some ⟨[(10,x10)],⟨h4,n⟩⟩):=dO rfl rfl (by kernel_rfl)
@[simp] def aqJ:(Dn prog).code BQ ⟨[(8,x8),(9,x9),(10,x10)],⟨h,n⟩⟩=fb (bA (eW h none (share x8)) fun a1=>bA (eW ((dK (cL x9++[]) h)) none (share x9)) fun a2=>bA (storeAt h 1 (share x8) (firm a1)) fun h3=>dE (dI (((cL x9++[])++[])) h h3) <| bA (storeAt h3 1 (share x9) (firm a2)) fun h4=>bA (storeAt h4 1 (share x10) (O)) fun h5=>some ⟨[(8,x8),(9,x9),(10,x10)],⟨h5,n⟩⟩):=dO rfl rfl (by kernel_rfl)
@[simp] def aoE:(Dn prog).code yF ⟨[(6,x6),(7,x7),(8,x8),(10,x10),(11,x11),(12,.d y12),(13,x13),(15,.d y15),(32,.d y32),(33,.d y33),(46,.d y46),(47,.d y47)],⟨h,n⟩⟩=fb (bA (JB 5 1 (share x11) (A_ 1)) fun a1=>bA (eW h none (firm a1)) fun a2=>bA (JB 5 1 (share x11) (A_ 2)) fun a3=>bA (eW ((dK (cL (firm a3)++[]) h)) none (firm a3)) fun a4=>bP (cf (Dn prog) (firm (share x10)) [firm a2] ⟨h,n⟩) fun a5 s6=>dE (dI (((cL (firm a3)++[])++[])) h s6.heap) <| bP (cf (Dn prog) (firm (share x10)) [firm a4] ⟨s6.heap,s6.next⟩) fun a7 s8=>bA (dZ [O,O,B_ false,B_ false,.nl] [(3,1,.d y15),(0,1,firm a5),(1,1,firm a7)]) fun a9=>lA (put s8.heap s8.next (.cells [O,O,B_ false,B_ false,.nl])) fun h10=>bA (storeAt h10 5 (.ptr s8.next 0) (firm (.agg a9))) fun h11=>some ⟨[(6,x6),(7,x7),(8,x8),(10,x10),(11,x11),(12,.d y12),(13,x13),(15,.d y15),(16,.ptr s8.next 0),(32,.d y32),(33,.d y33),(46,.d y46),(47,.d y47)],⟨h11,s8.next+1⟩⟩):=dO rfl rfl (by kernel_rfl)
@[simp] def anH:rP yq HN [(6,x6),(7,x7),(8,x8),(10,x10),(11,x11),(12,.d y12),(13,x13),(15,.d y15),(16,x16),(17,.d y17),(18,.d y18),(19,.d y19),(32,.d y32),(33,.d y33),(46,.d y46),(47,.d y47),(80,.d y80),(81,.d y81)]:=nS
@[simp] def apa:(Dn prog).code yx ⟨[(7,x7),(8,x8)],⟨h,n⟩⟩=fb (bA (eW ((dK (cL x8++[]) h)) none (share x8)) fun a1=>bA (storeAt h 1 (share x7) (O)) fun h2=>dE (dI (((cL x8++[])++[])) h h2) <| bA (storeAt h2 1 (share x8) (firm a1)) fun h3=>some ⟨[(6,.nl),(7,x7),(8,x8)],⟨h3,n⟩⟩):=dO rfl rfl (by kernel_rfl)
@[simp] def apQ:rP yC IW [(6,x6),(7,x7),(8,x8)]:=nS
@[simp] def at6:(Dn prog).code Eb ⟨[(0,x0),(1,x1)],⟨h,n⟩⟩=fb (bA (eW ((dK (cL x0++[]) h)) none (share x0)) fun a1=>bA (eW h none x1) fun a2=>bP (cf (Dn prog) (firm a2) [] ⟨h,n⟩) fun a3 s4=>dE (dI (((cL x0++[])++[])) h s4.heap) <| bA (fo .or (firm a1) (firm a3)) fun a5=>bA (storeAt s4.heap 1 (share x0) (.d a5)) fun h6=>some ⟨[(0,x0)],⟨h6,s4.next⟩⟩):=dO rfl rfl (by kernel_rfl)
@[simp] def ata:rP xF Pr [(10,x10)]:=nS
@[simp] def atO:rP xn PQ [(6,x6),(10,x10)]:=nS
@[simp] def anE:rP wT GV [(0,x0),(1,.d y1),(4,x4)]:=nS
@[simp] def arV:rP BP L3 [(4,x4),(11,x11),(15,.d y15),(16,.d y16)]:=nS
@[simp] def aqy:rP Ce MG [(4,x4),(11,x11),(15,.d y15),(16,.d y16)]:=nS
@[simp] def atH:rP Er PU [(0,x0),(4,x4),(15,x15),(16,x16),(17,x17),(20,.d y20),(21,.d y21),(69,x69),(70,.d y70),(71,.d y71)]:=nS
@[simp] def aiY:rP sS CF [(0,x0),(2,.d y2)]:=nS
@[simp] def anC:rP xd GL [(0,x0),(2,x2),(3,x3),(5,.d y5),(6,.d y6),(8,.d y8),(10,x10),(11,.d y11),(12,.d y12),(13,.d y13),(14,x14),(15,.d y15),(16,.d y16),(21,x21),(22,.d y22),(23,.d y23)]:=nS
@[simp] def akD:rP ue Da [(0,x0),(1,.d y1)]:=nS
@[simp] def aei:rP ox yc [(0,x0),(3,.d y3)]:=nS
@[simp] def awO:rP FU Qw [(0,.d y0),(2,x2),(4,x4)]:=nS
@[simp] def LD:(Dn prog).code zJ ⟨[(2,x2),(4,x4),(6,x6)],⟨h,n⟩⟩=fb (bP (loadAt h (some 4) 1 (share x4)) fun a1 h2=>bA (eD (Dn prog) gD [firm a1] h2) fun a3=>lA (put h2 n (.cells [O8,O8,O8,O8,O8,O8,O8,O8,O8,O8,O8,O8,O8,O8,O8,O8,O8,O8,O8,O8,O8,O8,O8,O8,O8,O8,O8,O8,O8,O8,O8,O8,O8,O8,O8,O8,O8,O8,O8,O8,O8,O8,O8,O8,O8,O8,O8,O8,O8,O8,O8,O8,O8,O8,O8,O8,O8,O8,O8,O8,O8,O8,O8,O8,O8,O8,O8,O8,O8,O8,O8,O8,O8,O8,O8,O8,O8,O8,O8,O8,O8,O8,O8,O8,O8,O8,O8,O8,O8,O8,O8,O8,O8,O8,O8,O8,O8,O8,O8,O8,O8,O8,O8,O8,O8,O8,O8,O8,O8,O8,O8,O8,O8,O8,O8,O8,O8,O8,O8,O8,O8,O8,O8,O8,O8,O8,O8,O8,O8,O8,O8,O8,O8,O8,O8,O8,O8,O8,O8,O8,O8,O8,O8,O8,O8,O8,O8,O8,O8,O8,O8,O8,O8,O8,O8,O8,O8,O8,O8,O8,O8,O8,O8,O8,O8,O8,O8,O8,O8,O8,O8,O8,O8,O8,O8,O8,O8,O8,O8,O8,O8,O8,O8,O8,O8,O8,O8,O8,O8,O8,O8,O8,O8,O8,O8,O8,O8,O8,O8,O8,O8,O8,O8,O8,O8,O8,O8,O8,O8,O8,O8,O8,O8,O8,O8,O8,O8,O8,O8,O8,O8,O8,O8,O8,O8,O8,O8,O8,O8,O8,O8,O8,O8,O8,O8,O8,O8,O8,O8,O8,O8,O8,O8,O8,O8,O8,O8,O8,O8,O8,O8,O8,O8,O8,O8,O8,O8,O8,O8,O8,O8,O8,O8,O8,O8,O8,O8,O8,O8,O8,O8,O8,O8,O8,O8,O8,O8,O8,O8,O8,O8,O8,O8,O8,O8,O8,O8,O8,O8])) fun h4=>bA (storeAt h4 289 (.ptr n 0) (firm a3)) fun h5=>some ⟨[(2,x2),(4,x4),(6,x6),(7,.ptr n 0)],⟨h5,n+1⟩⟩):=E4 (by kernel_rfl)
@[simp] def aoD:rP yJ IX [(5,x5),(6,x6),(7,x7),(8,x8),(11,.d y11),(12,.d y12)]:=nS
@[simp] def anD:rP wh GZ [(2,x2),(8,x8),(21,x21),(22,.d y22),(23,.d y23)]:=nS
@[simp] def anB:rP wS GR [(0,.d y0),(1,.d y1),(2,x2)]:=nS
@[simp] def atk:rP ED PD [(2,x2),(6,.d y6),(9,x9)]:=nS
@[simp] def HZ:(Dn prog).code wc ⟨[(1,x1),(3,x3)],⟨h,n⟩⟩=fb (bP (loadAt h (some 4) 1 (share x3)) fun a1 h2=>bA (eD (Dn prog) gD [firm a1] h2) fun a3=>lA (put h2 n (.cells [O8,O8,O8,O8,O8,O8,O8,O8,O8,O8,O8,O8,O8,O8,O8,O8,O8,O8,O8,O8,O8,O8,O8,O8,O8,O8,O8,O8,O8,O8,O8,O8,O8,O8,O8,O8,O8,O8,O8,O8,O8,O8,O8,O8,O8,O8,O8,O8,O8,O8,O8,O8,O8,O8,O8,O8,O8,O8,O8,O8,O8,O8,O8,O8,O8,O8,O8,O8,O8,O8,O8,O8,O8,O8,O8,O8,O8,O8,O8,O8,O8,O8,O8,O8,O8,O8,O8,O8,O8,O8,O8,O8,O8,O8,O8,O8,O8,O8,O8,O8,O8,O8,O8,O8,O8,O8,O8,O8,O8,O8,O8,O8,O8,O8,O8,O8,O8,O8,O8,O8,O8,O8,O8,O8,O8,O8,O8,O8,O8,O8,O8,O8,O8,O8,O8,O8,O8,O8,O8,O8,O8,O8,O8,O8,O8,O8,O8,O8,O8,O8,O8,O8,O8,O8,O8,O8,O8,O8,O8,O8,O8,O8,O8,O8,O8,O8,O8,O8,O8,O8,O8,O8,O8,O8,O8,O8,O8,O8,O8,O8,O8,O8,O8,O8,O8,O8,O8,O8,O8,O8,O8,O8,O8,O8,O8,O8,O8,O8,O8,O8,O8,O8,O8,O8,O8,O8,O8,O8,O8,O8,O8,O8,O8,O8,O8,O8,O8,O8,O8,O8,O8,O8,O8,O8,O8,O8,O8,O8,O8,O8,O8,O8,O8,O8,O8,O8,O8,O8,O8,O8,O8,O8,O8,O8,O8,O8,O8,O8,O8,O8,O8,O8,O8,O8,O8,O8,O8,O8,O8,O8,O8,O8,O8,O8,O8,O8,O8,O8,O8,O8,O8,O8,O8,O8,O8,O8,O8,O8,O8,O8,O8,O8,O8,O8,O8,O8,O8,O8,O8])) fun h4=>bA (storeAt h4 289 (.ptr n 0) (firm a3)) fun h5=>some ⟨[(1,x1),(3,x3),(5,.ptr n 0)],⟨h5,n+1⟩⟩):=E4 (by kernel_rfl)
@[simp] def aiz:rP sP By [(1,.d y1),(2,x2),(5,x5),(6,.d y6)]:=nS
@[simp] def Be:(Dn prog).code nu ⟨[(0,x0)],⟨h,n⟩⟩=fb (dE ((AV.cells x0).all bw) <| lA (put h n (.cells (AV.cells x0))) fun h1=>lA (put h1 (n+1) (.cells [O8,O8,O8,O8,O8,O8,O8,O8,O8,O8,O8,O8,O8,O8,O8,O8,O8,O8,O8,O8,O8,O8,O8,O8,O8,O8,O8,O8,O8,O8,O8,O8,O8,O8,O8,O8,O8,O8,O8,O8,O8,O8,O8,O8,O8,O8,O8,O8,O8,O8,O8,O8,O8,O8,O8,O8,O8,O8,O8,O8,O8,O8,O8,O8,O8,O8,O8,O8,O8,O8,O8,O8,O8,O8,O8,O8,O8,O8,O8,O8,O8,O8,O8,O8,O8,O8,O8,O8,O8,O8,O8,O8,O8,O8,O8,O8,O8,O8,O8,O8,O8,O8,O8,O8,O8,O8,O8,O8,O8,O8,O8,O8,O8,O8,O8,O8,O8,O8,O8,O8,O8,O8,O8,O8,O8,O8,O8,O8,O8,O8,O8,O8,O8,O8,O8,O8,O8,O8,O8,O8,O8,O8,O8,O8,O8,O8,O8,O8,O8,O8,O8,O8,O8,O8,O8,O8,O8,O8,O8,O8,O8,O8,O8,O8,O8,O8,O8,O8,O8,O8,O8,O8,O8,O8,O8,O8,O8,O8,O8,O8,O8,O8,O8,O8,O8,O8,O8,O8,O8,O8,O8,O8,O8,O8,O8,O8,O8,O8,O8,O8,O8,O8,O8,O8,O8,O8,O8,O8,O8,O8,O8,O8,O8,O8,O8,O8,O8,O8,O8,O8,O8,O8,O8,O8,O8,O8,O8,O8,O8,O8,O8,O8,O8,O8,O8,O8,O8,O8,O8,O8,O8,O8,O8,O8,O8,O8,O8,O8,O8,O8,O8,O8,O8,O8,O8,O8,O8,O8,O8,O8,O8,O8,O8,O8,O8,O8,O8,O8,O8,O8,O8,O8,O8,O8,O8,O8,O8,O8,O8,O8,O8,O8,O8,O8,O8,O8,O8,O8,O8])) fun h2=>some ⟨[(1,.ptr n 0),(2,.ptr (n+1) 0)],⟨h2,n+1+1⟩⟩):=E4 (by kernel_rfl)
@[simp] def Qj:rP im mB [(0,x0),(1,.d y1),(2,.d y2),(3,x3),(8,.d y8),(9,.d y9)]:=nS
@[simp] def Qk:rP iq mw [(0,x0),(1,.d y1),(2,.d y2),(3,x3),(8,.d y8),(9,.d y9)]:=nS
@[simp] def Vs:rP jV pF [(0,x0),(1,.d y1),(4,x4),(10,.d y10),(11,.d y11),(12,.d y12)]:=nS
@[simp] def Ud:rP jv oT [(0,x0),(10,.d y10),(13,.d y13)]:=nS
@[simp] def U7:rP jw oZ [(0,x0),(2,.d y2),(4,x4),(14,.d y14),(15,.d y15),(16,.d y16)]:=nS
@[simp] def UJ:rP jA oJ [(0,x0),(14,.d y14),(17,.d y17)]:=nS
@[simp] def UX:rP jz oK [(0,x0),(1,.d y1),(2,.d y2),(3,.d y3),(4,x4),(18,.d y18),(19,.d y19),(20,.d y20),(21,.d y21),(22,.d y22),(23,.d y23)]:=nS
@[simp] def Va:rP jB oR [(0,x0),(1,.d y1),(2,.d y2),(3,.d y3),(10,.d y10)]:=nS
def pk:prog yd=some pr:=rfl
def L5:prog AP=some r9:=rfl
def L8:prog rJ=some rI:=rfl
def Kv:prog ER=some K9:=rfl
def aiL:prog yW=some KL:=rfl
def am8:prog OD=some Oo:=rfl
def NH:prog Hm=some M9:=rfl
def Nc:prog Ca=some tX:=rfl
def dS:prog rQ=some sn:=rfl
def aiT:prog K7=some Kq:=rfl
def adN:prog F5=some FY:=rfl
def agK:prog Jc=some Ie:=rfl
def adu:prog GF=some GD:=rfl
def We:prog lC=some Av:=rfl
def VG:prog jx=some Al:=rfl
def N8:prog CX=some N3:=rfl
def Fu:prog tg=some RJ:=rfl
def lk:prog u6=some u7:=rfl
def xW:prog ph=some pi:=rfl
def aij:prog KH=some Lc:=rfl
def NR:prog Cp=some tC:=rfl
def XU:prog fk=some Bx:=rfl
def alU:prog BR=some Nl:=rfl
def ao5:prog ach=some QS:=rfl
def alO:prog Nb=some Nf:=rfl
def AZ:prog sk=some sO:=rfl
def abP:prog Fd=some Rb:=rfl
def UN:prog Lv=some KU:=rfl
def alT:prog CE=some N5:=rfl
def ai7:prog T9=some KC:=rfl
def aha:prog wL=some HP:=rfl
def agS:prog wm=some Jh:=rfl
def aiX:prog Lp=some KJ:=rfl
def ajD:prog yL=some Kr:=rfl
def UB:prog nL=some KK:=rfl
def aiU:prog EP=some Ku:=rfl
def aju:prog za=some Lo:=rfl
def anh:prog YF=some OA:=rfl
def aib:prog yQ=some KS:=rfl
def ajv:prog Ue=some Ky:=rfl
def aiO:prog zm=some Kw:=rfl
def ajB:prog yX=some Ll:=rfl
def UU:prog nP=some K0:=rfl
def adC:prog Pl=some Gg:=rfl
def abi:prog MW=some DO:=rfl
def aiE:prog zj=some Ls:=rfl
def aeC:prog Qn=some IG:=rfl
def alv:prog xK=some Ng:=rfl
def Zg:prog mA=some CN:=rfl
def aaG:prog L4=some DM:=rfl
def CR:prog tP=some tL:=rfl
def Fx:prog ti=some ma:=rfl
def ac4:prog Gn=some FA:=rfl
def IL:prog jo=some H1:=rfl
def ajC:prog Uy=some KO:=rfl
def DJ:prog so=some lF:=rfl
def acX:prog Gl=some F4:=rfl
def Nt:prog Bq=some tq:=rfl
def N2:prog CJ=some tv:=rfl
def Ee:prog rU=some lv:=rfl
def Hb:prog vU=some nF:=rfl
def Jt:prog yo=some po:=rfl
def aht:prog RP=some HJ:=rfl
def Ik:prog wD=some oz:=rfl
def ND:prog nC=some tJ:=rfl
def ae4:prog BV=some IH:=rfl
def ahc:prog Rq=some Io:=rfl
def Dg:prog vj=some ve:=rfl
def alw:prog XX=some NA:=rfl
def ajq:prog U3=some KY:=rfl
def aea:prog F9=some GG:=rfl
def Zt:prog Hf=some NM:=rfl
def adp:prog pE=some Ge:=rfl
def abt:prog Dr=some Ep:=rfl
def abm:prog MZ=some El:=rfl
def Qd:prog C6=some vp:=rfl
def aeF:prog QT=some HY:=rfl
def afQ:prog RE=some Iv:=rfl
def aih:prog Uc=some KV:=rfl
def adf:prog GC=some F7:=rfl
def ZL:prog MF=some Eo:=rfl
def Q7:prog pW=some w8:=rfl
def Zo:prog CQ=some BN:=rfl
def Ye:prog Ch=some BD:=rfl
def abc:prog D8=some Ds:=rfl
def adh:prog GA=some FJ:=rfl
def ai9:prog Ve=some Lx:=rfl
def aaZ:prog iT=some DZ:=rfl
def aoQ:prog Q4=some Rx:=rfl
def aiG:prog UP=some Le:=rfl
def adW:prog Pv=some Gk:=rfl
def TF:prog yy=some yD:=rfl
def MN:prog AN=some sE:=rfl
def amc:prog G9=some OW:=rfl
def BH:prog pQ=some km:=rfl
def Wy:prog AA=some Ai:=rfl
def wA:prog wo=some oa:=rfl
def ZH:prog D1=some DA:=rfl
def aaP:prog EH=some Ez:=rfl
def Xu:prog BK=some CI:=rfl
def aa0:prog DS=some DL:=rfl
def agZ:prog ID=some IN:=rfl
def aaS:prog Eh=some Es:=rfl
def aaD:prog Dm=some Ej:=rfl
def aah:prog DC=some D3:=rfl
def ahC:prog BY=some H7:=rfl
def Qf:prog C7=some vE:=rfl
def vK:prog v6=some nt:=rfl
def afz:prog Rm=some Jm:=rfl
def adQ:prog Pj=some FB:=rfl
def ad8:prog PZ=some F6:=rfl
def ai1:prog ET=some Lg:=rfl
def WJ:prog Kf=some CV:=rfl
def XI:prog qp=some BA:=rfl
def aeb:prog P0=some Gx:=rfl
def aig:prog Ux=some KN:=rfl
def ahx:prog Qx=some IR:=rfl
def aiZ:prog Uu=some Li:=rfl
def ME:prog AJ=some sK:=rfl
def aiQ:prog UV=some KM:=rfl
def Zq:prog JL=some Cg:=rfl
def YL:prog i9=some BC:=rfl
def Gr:prog mJ=some mM:=rfl
def WU:prog Cl=some Cv:=rfl
def ahS:prog Iz=some Is:=rfl
def Qt:prog E7=some wP:=rfl
def TH:prog gD=some yr:=rfl
def Dk:prog sM=some lE:=rfl
def aeW:prog Jf=some HU:=rfl
def Qi:prog Df=some vd:=rfl
def tk:prog tc=some mj:=rfl
def ah1:prog Vc=some K6:=rfl
def aiy:prog Vg=some Ly:=rfl
def C0:prog fy=some kM:=rfl
def VV:prog oe=some Ae:=rfl
def adA:prog Px=some FD:=rfl
def ajw:prog UE=some Kz:=rfl
def Xb:prog mD=some CG:=rfl
def TZ:prog nk=some yp:=rfl
def YO:prog JI=some BW:=rfl
def al3:prog YA=some Oy:=rfl
def adU:prog FM=some Ga:=rfl
def Vq:prog tQ=some Am:=rfl
def Qb:prog Db=some vt:=rfl
def T2:prog GS=some yz:=rfl
def ye:prog yk=some pz:=rfl
def FV:prog uH=some mS:=rfl
def TY:prog GM=some yv:=rfl
def uL:prog uF=some mI:=rfl
def XT:prog vQ=some Br:=rfl
def yU:prog nN=some jm:=rfl
def eq:prog cN=some ll:=rfl
def Gq:prog uM=some mH:=rfl
def C1:prog qC=some kJ:=rfl
variable {P:Nat->Y_}
inductive R (α:Type) where
 | ok (v:α) (n:Nat)
 | er (e:Nat)
open Classical in
def rK {α γ:Type}(p:α->Nat->Prop) (r:R α) (f:α->Nat->γ) (g:Nat->γ):γ :=
 match r with
 | .ok v n=>if p v n then f v n else g 0
 | .er e=>g e
def jS {α γ:Type}{p q:α->Nat->Prop}{r:R α}{f f2:α->Nat->γ}{g g2:Nat->γ}(hp:∀ v n,p v n=q v n) (h:∀ v n,q v n->f v n=f2 v n) (k:∀ e,g e=g2 e):rK p r f g=rK q r f2 g2:=by
 have:p=q:=funext fun v=>funext fun n=>hp v n
 subst this
 cases r with
 | ok v n =>
  simp only[rK];split
  .exact h _ _ ‹_›
  .exact k 0
 | er e=>exact k e
attribute [congr] jS
def yK {α γ δ:Type}{p:α->Nat->Prop}{r:R α}{f:α->Nat->γ}{g:Nat->γ}(k:γ->δ):k (rK p r f g)=rK p r (fun v n=>k (f v n)) fun e=>k (g e):=by
 cases r with
 | ok v n=>simp only[rK];split<;>rfl
 | er e=>rfl
section
variable {α:Type}{p:α->Nat->Prop}{r:R α}
@[simp ↓] def ayW {f:α->Nat->K_}{g:Nat->K_}{b:VC}:Ao P (rK p r f g) b=rK p r (fun v n=>Ao P (f v n) b) fun e=>Ao P (g e) b:=yK fun x=>Ao P x b
@[simp ↓] def awS {f:α->Nat->K_}{g:Nat->K_}{i:Nat}:yH i (rK p r f g)=rK p r (fun v n=>yH i (f v n)) fun e=>yH i (g e):=yK (yH i)
@[simp ↓] def aj3 {f:α->Nat->K_}{g:Nat->K_}{a:VC}:qT P a (rK p r f g)=rK p r (fun v n=>qT P a (f v n)) fun e=>qT P a (g e):=yK (qT P a)
@[simp ↓] def aFW {f:α->Nat->Z_}{g:Nat->Z_}:fb (rK p r f g)=rK p r (fun v n=>fb (f v n)) fun e=>fb (g e):=yK fb
@[simp ↓] def aFo {f:α->Nat->K_}{g:Nat->K_}{rs:BA_}:wn rs (rK p r f g)=rK p r (fun v n=>wn rs (f v n)) fun e=>wn rs (g e):=yK (wn rs)
@[simp ↓] def aFy {f:α->Nat->X_}{g:Nat->X_}:tD (rK p r f g)=rK p r (fun v n=>tD (f v n)) fun e=>tD (g e):=yK tD
@[simp ↓] def aHc {γ β:Type}{f:α->Nat->Option γ}{g:Nat->Option γ}{k:γ->Option β}:bA (rK p r f g) k=rK p r (fun v n=>bA (f v n) k) fun e=>bA (g e) k:=yK fun x=>bA x k
@[simp ↓] def aG8 {γ δ β:Type}{f:α->Nat->Option (γ×δ)}{g:Nat->Option (γ×δ)}{k:γ->δ->Option β}:bP (rK p r f g) k=rK p r (fun v n=>bP (f v n) k) fun e=>bP (g e) k:=yK fun x=>bP x k
@[simp] theorem iK {γ:Type}{f:α->Nat->γ}{g:Nat->γ}{e:Nat}:rK p (.er e) f g=g e:=(rfl)
theorem eI {γ:Type}{f:α->Nat->γ}{g:Nat->γ}{v:α}{n:Nat}(h:p v n):rK p (.ok v n) f g=f v n:=by simp only[rK,ac h]
@[simp] def aGF {γ:Type}{f:α->Nat->γ}{g:Nat->γ}{c:Prop}[Decidable c] {x y:R α}:rK p (if c then x else y) f g=if c then rK p x f g else rK p y f g:=by split<;>rfl
end
def atf {α:Type}{a b:Prop}[Decidable a] [Decidable b] {x y:α}(h:b↔¬ a):(if a then x else y)=if b then y else x:=by
 by_cases ha:a
 .rw[ac ha,aa (fun hb=>h.1 hb ha)]
 .rw[aa ha,ac (h.2 ha)]
def atU {α:Type}{a b:Prop}[Decidable a] [Decidable b] {x y:α}(h:a↔b):(if a then x else y)=if b then x else y:=by
 by_cases ha:a
 .rw[ac ha,ac (h.1 ha)]
 .rw[aa ha,aa (fun hb=>ha (h.2 hb))]
def cellsOf:Obj->Option D_
 | .cells cs=>some cs
 | _=>none
def anr:Obj->AE_
 | .arr _ xs=>some xs
 | _=>none
@[simp ↓] def aCr {cs:D_}:cellsOf (.cells cs)=some cs:=(rfl)
@[simp ↓] def aEw {m:Nat}{xs:E_}:anr (.arr m xs)=some xs:=(rfl)
@[simp] def aEu {h:ak}{id off:Nat}:eW h none (.ptr id off)=bA (get h id) fun o=>bA (cellsOf o) fun cs=>bA cs[off]? fun v=>some (share v):=by
 simp only[eW,loadAt]
 cases get h id with
 | none=>rfl
 | some o =>
  cases o<;>try rfl
  rename_i cs;simp only[bA,cellsOf]
  cases cs[off]?<;>rfl
@[simp] def aD2 {h:ak}{id off n:Nat}:eW h (some n) (.ptr id off)=bA (get h id) fun o=>bA (cellsOf o) fun cs=>dE (Nat.ble (off+n) cs.length) (some (.agg (shareAll (sub cs off n)))):=by
 simp only[eW,loadAt]
 cases get h id with
 | none=>rfl
 | some o =>
  cases o<;>try rfl
  rename_i cs;simp only[bA,cellsOf]
  cases Nat.ble (off+n) cs.length<;>rfl
@[simp] def azO {h:ak}{id off t:Nat}:loadAt h none (t+1) (.ptr id off)=bA (get h id) fun o=>bA (cellsOf o) fun cs=>bA cs[off]? fun v=>some ((qU (t+1) v).1,put h id (.cells (cs.set off (qU (t+1) v).2))):=by
 simp only[loadAt]
 cases get h id with
 | none=>rfl
 | some o =>
  cases o<;>try rfl
  rename_i cs;simp only[bA,cellsOf]
  cases cs[off]?<;>rfl
@[simp] def azz {h:ak}{id off n t:Nat}:loadAt h (some n) (t+1) (.ptr id off)=bA (get h id) fun o=>bA (cellsOf o) fun cs=>dE (Nat.ble (off+n) cs.length) (some (.agg (fI (t+1) (sub cs off n)).1,put h id (.cells (aG cs off (fI (t+1) (sub cs off n)).2)))):=by
 simp only[loadAt]
 cases get h id with
 | none=>rfl
 | some o =>
  cases o<;>try rfl
@[simp] def azs {h:ak}{id off n:Nat}{x:AV}:storeAt h n (.ptr id off) x=dE (Nat.beq x.cells.length n) (bA (get h id) fun o=>bA (cellsOf o) fun cs=>dE (Nat.ble (off+n) cs.length && x.cells.all bw) (some (put h id (.cells (aG cs off x.cells))))):=by
 simp only[storeAt]
 cases Nat.beq x.cells.length n with
 | false=>rfl
 | true =>
  simp only[dE]
  cases get h id with
  | none=>rfl
  | some o =>
   cases o<;>try rfl
@[simp ↓] theorem Z8 {β:Type}{a b:Nat}{x:Option β}:dE (Nat.ble a b) x=if a<=b then x else none:=by
 rw[ZT];by_cases h:a<=b<;>simp[h]
@[simp ↓] theorem akl {β:Type}{a b:Nat}{x:Option β}:dE (Nat.beq a b) x=if a=b then x else none:=by
 rw[ZG];by_cases h:a=b<;>simp[h]
@[simp ↓] theorem ajW {β:Type}{a b:Bool}{x:Option β}:dE (a && b) x=dE a (dE b x):=by
 cases a<;>cases b<;>rfl
attribute [simp] qU fI sub aG bw
def scK (P:Nat->Y_) (a:VC) (x:K_):K_ :=
 match x with
 | some (.goto l,st)=>match v7 a l with
  | some rest=>(Dn P).code (.inScope a rest) st
  | none=>some (.goto l,st)
 | x=>x
@[simp ↓] def aAv {a:VC}{st:St}:(Dn P).code (.scope a) st=(Dn P).code (.inScope a a) st:=by rw[iI];rfl
def avV {a c:VC}{st:St}:(Dn P).code (.inScope a c) st=scK P a ((Dn P).code c st):=by
 rw[iI];rfl
@[simp ↓] def aGA {a:VC}{st:St}:scK P a (some (.ret,st))=some (.ret,st):=(rfl)
def axW {a:VC}{x y:K_}(h:x=y):scK P a x=scK P a y:=by rw[h]
attribute [congr] axW
def DV {f:FuncId}{args:D_}{v:AV}(n:Nat) (h:tD ((run P n).call f args ⟨[],0⟩)=some v):br P f args=some v:=by
 cases hx:(run P n).call f args ⟨[],0⟩ with
 | none=>rw[hx]at h;simp[tD]at h
 | some q=>rw[hx]at h;rw[br,Wl hx,h]
def IK {α:Type}{f:FuncId}{a:α->D_}{v:α->AV}(n:Nat) (l:List α) (h:(l.map fun x=>tD ((run P n).call f (a x) ⟨[],0⟩))=l.map fun x=>some (v x)) (x:α) (hx:x∈l):br P f (a x)=some (v x) :=
 DV n (List.map_inj_left.1 h x hx)
def cR (l:C_):E_:=l.map fun n=>[.int .i64 (n:Nat)]
@[simp] def aC0 {l:C_}:(cR l).length=l.length:=by simp[cR]
@[simp] def En {l:C_}{i:Nat}(h:i<l.length):(cR l)[i]?=some [.int .i64 (nth l i:Nat)]:=by simp[cR,AS h]
@[simp high] def azl {p:Bool}{m:Nat}{l:C_}:ji (.own p m (cR l))=true:=by simp[ji,cR,lR]
@[simp high] def UK {p:Bool}{m:Nat}{l:G_}:ji (.own p m (aF l))=true:=by simp[ji,aF,lR]
@[simp high] def azq {p:Bool}{m:Nat}{l:G_}:kZ (.own p m (aF l))=true:=UK (p:=p) (m:=m)
@[simp high] def azt {p:Bool}{m:Nat}{l:G_}:jH (.own p m (aF l))=true:=UK (p:=p) (m:=m)
@[simp high] def Vf {p:Bool}{m:Nat}{l:C_}:ji (.own p m (am l))=true:=by simp[ji,am,lR]
@[simp high] def azw {p:Bool}{m:Nat}{l:C_}:kZ (.own p m (am l))=true:=Vf (p:=p) (m:=m)
@[simp high] def azn {p:Bool}{m:Nat}{l:C_}:jH (.own p m (am l))=true:=Vf (p:=p) (m:=m)
@[simp] def aBp {a:G_}{x:Int}:aF a++[[.int .i64 x]]=aF (a++[x]):=by simp[aF]
@[simp] def af0 {a b:C_}:am a++am b=am (a++b):=by simp[am]
@[simp] def aCb {a:C_}{x:Nat}:am a++[[.int .u8 (x:Int)]]=am (a++[x]):=by simp[am]
@[simp] def aGl {k:IntKind}{a b:Int}:Em true [.d (.int k a),.d (.int k b)]=if a<b then some (.d (.int k b)) else some (.d (.int k a)):=by
 have:mX k k=true:=by cases k<;>rfl
 simp only[Em,CW,Eg,this];by_cases h:a<b<;>simp[h]
@[simp] def aGc {k:IntKind}{a b:Int}:Em false [.d (.int k a),.d (.int k b)]=if b<a then some (.d (.int k b)) else some (.d (.int k a)):=by
 have:mX k k=true:=by cases k<;>rfl
 simp only[Em,CW,Eg,this];by_cases h:b<a<;>simp[h]
def iaO (o:Obj) (n id j:Nat):M_ :=
 match o with
 | .arr m _=>dE (Nat.beq m n) (some (.pel id j 0))
 | .cells _=>dE (Nat.beq n 1) (some (.ptr id j))
 | _=>none
@[simp ↓] def aGx {m n id j:Nat}{xs:E_}:iaO (.arr m xs) n id j=dE (Nat.beq m n) (some (.pel id j 0)):=(rfl)
@[simp ↓] def aG2 {n id j:Nat}{cs:D_}:iaO (.cells cs) n id j=dE (Nat.beq n 1) (some (.ptr id j)):=(rfl)
@[simp] def aG6 {h:ak}{n id off len:Nat}{k:IntKind}{i:Int}(h0:0<=i) (h1:i.toNat<len):XN h n (.sl id off len) (.d (.int k i))=bA (get h id) fun o=>iaO o n id (off+i.toNat):=by
 have:Nat.ble len i.toNat=false:=by rw[ZT];simp;omega
 simp only[XN,SN h0,this]
 cases get h id with
 | none=>rfl
 | some o =>
  cases o with
  | cells cs=>simp only[bA,iaO];cases Nat.beq n 1<;>rfl
  | arr m xs=>simp only[bA,iaO];cases Nat.beq m n<;>rfl
  | loop=>rfl
@[simp] def aET {h:ak}{id i off:Nat}{n:I_}:eW h n (.pel id i off)=bA (get h id) fun o=>bA (anr o) fun xs=>bA xs[i]? fun x=>oq n x off:=by
 simp only[eW,loadAt]
 cases get h id with
 | none=>rfl
 | some o =>
  cases o<;>try rfl
  rename_i m xs;simp only[bA,anr]
  cases xs[i]? with
  | none=>rfl
  | some x=>simp only;cases oq n x off<;>rfl
def stO (o:Obj) (h:ak) (n id i off:Nat) (ds:W_):Option ak :=
 match o with
 | .arr m xs=>bA xs[i]? fun e=>dE (Nat.ble (off+n) e.length) (some (put h id (.arr m (xs.set i (aG e off ds)))))
 | _=>none
@[simp ↓] def aGB {h:ak}{m n id i off:Nat}{ds:W_}{xs:E_}:stO (.arr m xs) h n id i off ds=bA xs[i]? fun e=>dE (Nat.ble (off+n) e.length) (some (put h id (.arr m (xs.set i (aG e off ds))))):=(rfl)
@[simp] def azr {h:ak}{id i off n:Nat}{x:AV}:storeAt h n (.pel id i off) x=dE (Nat.beq x.cells.length n) (bA (lZ x.cells) fun ds=>bA (get h id) fun o=>stO o h n id i off ds):=by
 simp only[storeAt]
 cases Nat.beq x.cells.length n with
 | false=>rfl
 | true =>
  simp only[dE]
  cases lZ x.cells with
  | none=>rfl
  | some ds =>
   simp only[bA]
   cases get h id with
   | none=>rfl
   | some o =>
    cases o<;>try rfl
    rename_i m xs;simp only[stO]
    cases xs[i]? with
    | none=>rfl
    | some e=>simp only[bA];cases Nat.ble (off+n) e.length<;>rfl
@[simp] def apR {l:G_}{i:Nat}:(aF l).take i=aF (l.take i):=by simp[aF]
@[simp] def aoU {l:G_}{i:Nat}:(aF l).drop i=aF (l.drop i):=by simp[aF]
@[simp] def aBX {l:C_}{i:Nat}:(cR l).take i=cR (l.take i):=by simp[cR]
@[simp] def agN {l:G_}{i:Nat}{x:Int}:(aF l).set i [.int .i64 x]=aF (l.set i x):=by simp[aF,lL]
@[simp] def aCZ {l:C_}{i:Nat}{x:Nat}:(cR l).set i [.int .i64 (x:Int)]=cR (l.set i x):=by simp[cR,lL]
@[simp] def aq1 {l:C_}{i:Nat}{x:Nat}:(am l).set i [.int .u8 (x:Int)]=am (l.set i x):=by simp[am,lL]
def elO (o:Obj):AE_ :=
 match o with
 | .arr _ xs=>some xs
 | .cells cs=>bA (lZ cs) fun ds=>some (KG ds)
 | _=>none
@[simp ↓] def aGQ {m:Nat}{xs:E_}:elO (.arr m xs)=some xs:=(rfl)
@[simp] def aC9 {h:ak}{id off len:Nat}:elems h (.sl id off len)=bA (get h id) fun o=>bA (elO o) fun xs=>dE (Nat.ble (off+len) xs.length) (some (sub xs off len)):=by
 simp only[elems,objElems]
 cases get h id with
 | none=>rfl
 | some o =>
  cases o with
  | cells cs =>
   simp only[bA,elO]
   cases lZ cs with
   | none=>rfl
   | some ds=>simp only;cases Nat.ble (off+len) (KG ds).length<;>rfl
  | arr m xs=>simp only[bA,elO];cases Nat.ble (off+len) xs.length<;>rfl
  | loop=>rfl
attribute [simp] KG
@[simp] def aF5 {m:Nat}{h:ak}{a b:AV}:ZX m h a b=bA (elems h b) fun ys=>dE (fT m ys) (eC m h a ys):=by
 simp only[ZX]
 cases elems h b with
 | none=>rfl
 | some ys=>simp only[bA];cases fT m ys<;>rfl
@[simp] theorem aj1 {m k:Nat}{p:Bool}{h:ak}{xs ys:E_}:eC m h (.own p k xs) ys=dE (Nat.ble ys.length aW) (dE (Nat.beq k m && Nat.ble (xs.length+ys.length) aW) (some (.own false m (xs++ys),h))):=by
 simp only[eC]
 cases Nat.ble ys.length aW with
 | false=>rfl
 | true=>simp only[dE];cases Nat.beq k m && Nat.ble (xs.length+ys.length) aW<;>rfl
@[simp] def aFd {m:Nat}{h:ak}:eC m h .nl []=some (.nl,h):=(rfl)
@[simp] def awk {m:Nat}{h:ak}{y:W_}{r:E_}:eC m h .nl (y::r)=dE (Nat.ble (r.length+1) aW) (some (.own true m (y::r),h)):=by
 simp only[eC,aq]
 cases Nat.ble (r.length+1) aW<;>rfl
def asj (o:Obj) (m:Nat) (h:ak) (id off len:Nat) (ys:E_):AF_ :=
 match o with
 | .arr k xs=>dE (Nat.beq k m && Nat.ble (off+len) xs.length && Nat.ble (len+ys.length) aW) (some (.own true m (sub xs off len++ys),del h id))
 | _=>none
@[simp ↓] def aFu {k m id off len:Nat}{h:ak}{xs ys:E_}:asj (.arr k xs) m h id off len ys=dE (Nat.beq k m && Nat.ble (off+len) xs.length && Nat.ble (len+ys.length) aW) (some (.own true m (sub xs off len++ys),del h id)):=(rfl)
@[simp] def aFv {m id off len:Nat}{h:ak}{ys:E_}:eC m h (.sl id off len) ys=dE (Nat.ble ys.length aW) (bA (get h id) fun o=>asj o m h id off len ys):=by
 simp only[eC]
 cases Nat.ble ys.length aW with
 | false=>rfl
 | true =>
  simp only[dE]
  cases get h id with
  | none=>rfl
  | some o =>
   cases o with
   | arr k xs=>simp only[bA,asj];cases Nat.beq k m && Nat.ble (off+len) xs.length && Nat.ble (len+ys.length) aW<;>rfl
   | cells cs=>rfl
   | loop=>rfl
attribute [simp] aW
def S2 {α:Type}{f:α->D}:∀ {l:List α},fT 1 (l.map fun x=>[f x])=true
 | []=>rfl
 | x::r=>by simp only[bZ,fT,aq,bu];exact S2
@[simp] def aq9 {l:G_}:fT 1 (aF l)=true:=S2
@[simp] def aDL {l:C_}:fT 1 (am l)=true:=S2
@[simp] def aGP {m:Nat}:fT m []=true:=(rfl)
@[simp] def aGI {m:Nat}{x:W_}{r:E_}:fT m (x::r)=(Nat.beq x.length m && fT m r):=by
 simp only[fT];cases Nat.beq x.length m<;>rfl
mutual
theorem afc:∀ d:D,PK d d=true
 | .int k n=>by simp[PK,UH]
 | .bool b=>by simp[PK]
 | .str s=>by simp[PK]
 | .lst xs=>by rw[PK];exact eqDss_self xs
theorem Se:∀ l:W_,Qz l l=true
 | []=>rfl
 | a::r=>by rw[Qz,afc a,Se r];rfl
theorem eqDss_self:∀ l:E_,eqDss l l=true
 | []=>rfl
 | a::r=>by rw[eqDss,Se a,eqDss_self r];rfl
end
mutual
theorem aqs:∀ v:AV,iX v v=true
 | .junk=>by simp[iX]
 | .d x=>by simp[iX,afc]
 | .nl=>by simp[iX]
 | .own p m xs=>by simp[iX,eqDss_self]
 | .gl n=>by simp[iX]
 | .agg a=>by rw[iX];exact eqAVs_self a
 | .tup a=>by rw[iX];exact eqAVs_self a
 | .nilp=>by simp[iX]
 | .ptr a b=>by simp[iX]
 | .pel a b c=>by simp[iX]
 | .pim a b=>by simp[iX,Se]
 | .sl a b c=>by simp[iX]
 | .fn f a c=>by rw[iX,eqAVs_self a,eqAVs_self c];simp
 | .nilf=>by simp[iX]
 | .yield a=>by simp[iX]
theorem eqAVs_self:∀ l:D_,eqAVs l l=true
 | []=>by rw[eqAVs]
 | a::r=>by rw[eqAVs,aqs a,eqAVs_self r];rfl
end
@[simp] def aGZ {a:D_}:eqO (.cells a) (.cells a)=true:=by rw[eqO];exact eqAVs_self a
@[simp] def aEK {h k:ak}:dI [] h k=true:=(rfl)
@[simp] def aFg {i:Nat}{r:C_}{h k:ak}:dI (i::r) h k=((match get h i with
  | some o=>(match get k i with | some o'=>eqO o o' | none=>false)
  | none=>true) && dI r h k):=(rfl)
@[simp] def aFe {h:ak}:dK [] h=[]:=(rfl)
@[simp] def aED {i:Nat}{r:C_}{h:ak}:dK (i::r) h=match get h i with
  | some o=>put (dK r h) i o
  | none=>dK r h:=(rfl)
attribute [simp] Kx cL idsAll
attribute [simp] dQ qx mN nU
def Yh (a b:Int):Int:=if a=0 then b else 1
def Xr {a b:Int}(h:0<=a) (h1:a<=1) (h2:0<=b) (h3:b<=1):fo .or (A_ a) (A_ b)=some (.int .i64 (Yh a b)):=by
 have ha:a=0∨a=1:=o_;have hb:b=0∨b=1:=o_;rcases ha with rfl | rfl<;>rcases hb with rfl | rfl<;>rfl
@[simp] def aGu {a:Int}(h:0<=a) (h1:a<=1):Yh a 0=a:=by
 have ha:a=0∨a=1:=o_;rcases ha with rfl | rfl<;>rfl
def an6 {a b:Int}:(Yh a b=0)↔a=0∧b=0:=by
 unfold Yh;by_cases h:a=0<;>simp[h]
variable {P:Nat->Y_}
def Kb (l:Nat) (e:aV) (x:X_):K_ :=
 match x with
 | some (_,hs)=>match get hs.heap l with
  | some (.loop _ _ _ _ false pend)=>match pend with
   | none=>some (.normal,⟨e,⟨del hs.heap l,hs.next⟩⟩)
   | some o=>some (o,⟨e,⟨del hs.heap l,hs.next⟩⟩)
  | _=>none
 | none=>none
def rgF (P:Nat->Y_) (params:C_) (a b:VC) (hs:HS) (x:Option (AV×aV)):K_ :=
 match x with
 | some (.fn g first caps,e)=>Kb hs.next e ((Dn P).call g (first++([.yield hs.next]++caps)) ⟨put hs.heap hs.next (.loop (e.map fun kv=>(kv.1,share kv.2)) params a b false none),hs.next+1⟩)
 | _=>none
def ar0 {f:Rd}{params:C_}{a b:VC}{e:aV}{hs:HS}:(Dn P).code (.rangeF f params a b) ⟨e,hs⟩=rgF P params a b hs (rd e f):=by
 rw[iI];simp only[cW,Dx,rgF]
 cases rd e f with
 | none=>rfl
 | some p =>
  obtain⟨v,e1⟩:=p
  cases v<;>rfl
def axa {params:C_}{a b:VC}{h:ak}{n g:Nat}{first caps:D_}{e:aV}:rgF P params a b ⟨h,n⟩ (some (.fn g first caps,e))=Kb n e ((Dn P).call g (first++([.yield n]++caps)) ⟨put h n (.loop (e.map fun kv=>(kv.1,share kv.2)) params a b false none),n+1⟩):=rfl
def pdO (o:Obj):Option BH_ :=
 match o with
 | .loop _ _ _ _ false pend=>some pend
 | _=>none
def aBg {s:aV}{p:C_}{a b:VC}{q:BH_}:pdO (.loop s p a b false q)=some q:=rfl
def pdE (e:aV) (hs:HS) (l:Nat) (q:BH_):K_:=some (q.getD .normal,⟨e,⟨del hs.heap l,hs.next⟩⟩)
def aA0 {e:aV}{h:ak}{n l:Nat}:pdE e ⟨h,n⟩ l none=some (.normal,⟨e,⟨del h l,n⟩⟩):=rfl
def azL {e:aV}{h:ak}{n l:Nat}{o:ct}:pdE e ⟨h,n⟩ l (some o)=some (o,⟨e,⟨del h l,n⟩⟩):=rfl
def aAy {l n:Nat}{e:aV}{v:AV}{h:ak}:Kb l e (some (v,⟨h,n⟩))=bA (get h l) fun o=>bA (pdO o) fun q=>pdE e ⟨h,n⟩ l q:=by
 simp only[Kb]
 cases get h l with
 | none=>rfl
 | some o =>
  cases o with
  | loop s p a b busy pend=>cases busy<;>cases pend<;>rfl
  | cells=>rfl
  | arr=>rfl
def aAc {l:Nat}{e:aV}:Kb l e none=none:=rfl
def azW {c:Prop}[Decidable c] {l:Nat}{e:aV}{x y:X_}:Kb l e (if c then x else y)=if c then Kb l e x else Kb l e y:=d_
def azN {α:Type}{p:α->Nat->Prop}{r:R α}{l:Nat}{e:aV}{f:α->Nat->X_}{g:Nat->X_}:Kb l e (rK p r f g)=rK p r (fun v n=>Kb l e (f v n)) fun x=>Kb l e (g x):=yK (Kb l e)
def ayi {l:Nat}{e:aV}{x y:X_}(h:x=y):Kb l e x=Kb l e y:=by rw[h]
def yB (l:Nat) (x:K_):X_ :=
 match x with
 | none=>none
 | some (o,st)=>match get st.hs.heap l with
  | some (.loop snap params assign body true none) =>
   match o with
   | .normal=>some (.bool true,⟨put st.hs.heap l (.loop snap params assign body false none),st.hs.next⟩)
   | o=>some (.bool false,⟨put st.hs.heap l (.loop snap params assign body false (some o)),st.hs.next⟩)
  | _=>none
def yA (P:Nat->Y_) (l:Nat) (body:VC) (x:K_):X_ :=
 match x with
 | some (.normal,st)=>match get st.hs.heap l with
  | some (.loop snap params assign body2 false none)=>yB l ((Dn P).code body ⟨st.env,⟨put st.hs.heap l (.loop snap params assign body2 true none),st.hs.next⟩⟩)
  | _=>none
 | _=>none
def yO (P:Nat->Y_) (l:Nat) (args:D_) (hs:HS) (o:Obj):X_ :=
 match o with
 | .loop snap params assign body false none=>bA (wu snap params args) fun e=>yA P l body ((Dn P).code assign ⟨e,hs⟩)
 | _=>none
def lW {l:Nat}{args:D_}{hs:HS}:cf (Dn P) (.yield l) args hs=bA (get hs.heap l) fun o=>yO P l args hs o:=by
 simp only[cf,uZ]
 cases get hs.heap l with
 | none=>rfl
 | some o =>
  cases o with
  | cells=>rfl
  | arr=>rfl
  | loop snap params assign body busy pend =>
   cases busy
   .cases pend with
    | some q=>rfl
    | none =>
     simp only[bA,yO]
     cases wu snap params args with
     | none=>rfl
     | some e =>
      cases (Dn P).code assign ⟨e,hs⟩ with
      | none=>rfl
      | some p =>
       obtain⟨o,st⟩:=p
       cases o<;>rfl
   .rfl
def aCE {l:Nat}{args:D_}{hs:HS}{s:aV}{p:C_}{a b:VC}:yO P l args hs (.loop s p a b false none)=bA (wu s p args) fun e=>yA P l b ((Dn P).code a ⟨e,hs⟩):=rfl
def aub (o:Obj):Option Obj :=
 match o with
 | .loop s p a b false none=>some (.loop s p a b true none)
 | _=>none
def avg {s:aV}{p:C_}{a b:VC}:aub (.loop s p a b false none)=some (.loop s p a b true none):=rfl
def aDR {l:Nat}{b:VC}{e:aV}{h:ak}{n:Nat}:yA P l b (some (.normal,⟨e,⟨h,n⟩⟩))=bA (get h l) fun o=>bA (aub o) fun o=>yB l ((Dn P).code b ⟨e,⟨put h l o,n⟩⟩):=by
 simp only[yA]
 cases get h l with
 | none=>rfl
 | some o =>
  cases o with
  | cells=>rfl
  | arr=>rfl
  | loop s p a b busy pend=>cases busy<;>cases pend<;>rfl
def aer (q:BH_) (o:Obj):Option Obj :=
 match o with
 | .loop s p a b true none=>some (.loop s p a b false q)
 | _=>none
def auZ {q:BH_}{s:aV}{p:C_}{a b:VC}:aer q (.loop s p a b true none)=some (.loop s p a b false q):=rfl
def aCI {l:Nat}{e:aV}{h:ak}{n:Nat}:yB l (some (.normal,⟨e,⟨h,n⟩⟩))=bA (get h l) fun o=>bA (aer none o) fun o=>some (.bool true,⟨put h l o,n⟩):=by
 simp only[yB]
 cases get h l with
 | none=>rfl
 | some o =>
  cases o with
  | cells=>rfl
  | arr=>rfl
  | loop s p a b busy pend=>cases busy<;>cases pend<;>rfl
def aDd {l:Nat}{e:aV}{h:ak}{n:Nat}:yB l (some (.ret,⟨e,⟨h,n⟩⟩))=bA (get h l) fun o=>bA (aer (some .ret) o) fun o=>some (.bool false,⟨put h l o,n⟩):=by
 simp only[yB]
 cases get h l with
 | none=>rfl
 | some o =>
  cases o with
  | cells=>rfl
  | arr=>rfl
  | loop s p a b busy pend=>cases busy<;>cases pend<;>rfl
def aC2 {l i:Nat}{e:aV}{h:ak}{n:Nat}:yB l (some (.exit i,⟨e,⟨h,n⟩⟩))=bA (get h l) fun o=>bA (aer (some (.exit i)) o) fun o=>some (.bool false,⟨put h l o,n⟩):=by
 simp only[yB]
 cases get h l with
 | none=>rfl
 | some o =>
  cases o with
  | cells=>rfl
  | arr=>rfl
  | loop s p a b busy pend=>cases busy<;>cases pend<;>rfl
def aD0 {l:Nat}:yB l none=none:=rfl
def aDP {c:Prop}[Decidable c] {l:Nat}{x y:K_}:yB l (if c then x else y)=if c then yB l x else yB l y:=d_
def aDA {α:Type}{p:α->Nat->Prop}{r:R α}{l:Nat}{f:α->Nat->K_}{g:Nat->K_}:yB l (rK p r f g)=rK p r (fun v n=>yB l (f v n)) fun x=>yB l (g x):=yK (yB l)
def az5 {l:Nat}{x y:K_}(h:x=y):yB l x=yB l y:=by rw[h]
def aAo {l:Nat}{b:VC}{x y:K_}(h:x=y):yA P l b x=yA P l b y:=by rw[h]
attribute [simp ↓] ar0 axa aBg aA0 azL aAy aAc azW azN aCE avg aDR auZ aCI aDd aC2 aD0 aDP aDA lW
attribute [congr] ayi az5 aAo
attribute [simp] wu
def aD (m:Nat) (xs:E_):AV:=match xs with
 | []=>.nl
 | x::r=>.own false m (x::r)
def qB {m:Nat}:aD m []=.nl:=rfl
theorem acO {m:Nat}{x:W_}{r:E_}:aD m (x::r)=.own false m (x::r):=rfl
def nM {m:Nat}{xs:E_}{y:W_}:aD m (xs++[y])=.own false m (xs++[y]):=by cases xs<;>rfl
def lx {m:Nat}{xs:E_}(h:xs≠[]):aD m xs=.own false m xs:=by cases xs with | nil=>exact absurd rfl h | cons=>rfl
@[simp] def aF2 {m:Nat}{xs:E_}:firm (aD m xs)=aD m xs:=by cases xs<;>rfl
@[simp] def awq {m:Nat}{xs:E_}:oF (aD m xs)=aD m xs:=by cases xs<;>rfl
@[simp] def aEU {m:Nat}{xs:E_}:BJ (aD m xs)=aD m xs:=by cases xs<;>rfl
@[simp] def aG3 {m:Nat}{xs:E_}:Fp (aD m xs)=some (.lst xs):=by cases xs<;>rfl
@[simp] def aEF {m:Nat}{xs:E_}:AV.cells (aD m xs)=[aD m xs]:=by cases xs<;>rfl
@[simp] def arE {m:Nat}{xs:E_}:bw (aD m xs)=true:=by cases xs<;>rfl
@[simp] def aES {h:ak}{m:Nat}{xs:E_}:elems h (aD m xs)=some xs:=by cases xs<;>rfl
@[simp] def aEf {h:ak}{m:Nat}{xs:E_}:fQ h (aD m xs)=some (aD m xs,h):=by cases xs<;>rfl
@[simp] def aG0 {m:Nat}{h:ak}{xs:E_}{y:W_}(hy:y.length=m) (hl:xs.length<1000000000):ZX m h (aD m xs) (.own false m [y])=some (.own (decide (xs=[])) m (xs++[y]),h):=by
 subst hy
 cases xs with
 | nil=>simp[aD,elems,decide_true]
 | cons x r=>simp[aD,elems];simp at hl;omega
@[simp] def aGY {m:Nat}{h:ak}{xs:E_}{y:W_}(hl:xs.length<1000000000):eC m h (aD m xs) [y]=some (.own (decide (xs=[])) m (xs++[y]),h):=by
 cases xs with
 | nil=>simp[aD,decide_true]
 | cons x r=>simp[aD];simp at hl;omega
def aqP (o:Obj) (h:ak) (id off len:Nat):AF_ :=
 match o with
 | .arr m xs=>dE (Nat.ble (off+len) xs.length) (some (.own true m (sub xs off len),del h id))
 | _=>none
@[simp ↓] def aGe {m:Nat}{xs:E_}{h:ak}{id off len:Nat}:aqP (.arr m xs) h id off len=dE (Nat.ble (off+len) xs.length) (some (.own true m (sub xs off len),del h id)):=(rfl)
@[simp] def aF7 {h:ak}{id off len:Nat}:kt h (.sl id off len)=bA (get h id) fun o=>aqP o h id off len:=by
 simp only[kt]
 cases get h id with
 | none=>rfl
 | some o =>
  cases o with
  | arr m xs=>simp only[bA,aqP];cases Nat.ble (off+len) xs.length<;>rfl
  | cells cs=>rfl
  | loop=>rfl
abbrev cZ:=@Nat.pow_succ
abbrev oE:=@Nat.add_comm
abbrev aw:=@Nat.pow_le_pow_right
abbrev dY:=@Nat.add_zero
abbrev i64 (n:Int):Prop:=-9223372036854775808<=n∧n<=9223372036854775807
def xN (n:Int):br prog RP [A_ n]=if 0<=n∧n<=31 then some (B_ true) else some (B_ false):=by
 rw[aJ aht ae1 rfl];simp
def val:C_->Nat->Nat
 | [],n=>n
 | x::r,n=>val r (2*n+x)
abbrev bin (l:C_):Prop:=∀ x∈l,x<=1
def L6:∀ {l:C_}{n i:Nat},bin l->n<2 ^ i->val l n<2 ^ (i+l.length)
 | [],n,i,h,hn=>by simpa [val] using hn
 | x::r,n,i,h,hn=>by
  have h1:2 ^ (i+1)=2*2 ^ i:=by rw[cZ];omega
  have h2:=h x s_;have:=L6 (l:=r) (n:=2*n+x) (i:=i+1) (fun y hy=>h y (by simp[hy])) o_;simpa [val,dy,oE 1] using this
def bc (b:C_) (a s:Int):R Nat :=
 if (0<=s∧s<=31)∧0<=a∧a<=b.length then
  if b.length-a<s then .er 4
  else if bin ((b.drop a.toNat).take s.toNat) then .ok (val ((b.drop a.toNat).take s.toNat) 0) (a.toNat+s.toNat)
  else .er 7
 else .er 1
abbrev pG (b:C_) (s:Int) (v n:Nat):Prop:=v<2 ^ s.toNat∧n<=b.length
def auA {γ:Type}{b:C_}{a s:Int}{f:Nat->Nat->γ}{g:Nat->γ}:rK (pG b s) (bc b a s) f g =
  if (0<=s∧s<=31)∧0<=a∧a<=b.length then
   if b.length-a<s then g 4
   else if bin ((b.drop a.toNat).take s.toNat) then f (val ((b.drop a.toNat).take s.toNat) 0) (a.toNat+s.toNat) else g 7
  else g 1:=by
 unfold bc;by_cases h1:(0<=s∧s<=31)∧0<=a∧a<=b.length
 .rw[ac h1,ac h1];by_cases h2:b.length-a<s
  .rw[ac h2,ac h2,iK]
  .rw[aa h2,aa h2];by_cases h3:bin ((b.drop a.toNat).take s.toNat)
   .rw[ac h3,ac h3,eI];have:=L6 (n:=0) (i:=0) h3 o_;have hl:((b.drop a.toNat).take s.toNat).length=s.toNat:=by simp;omega
    rw[hl]at this;exact⟨by simpa using this,o_⟩
   .rw[aa h3,aa h3,iK]
 .rw[aa h1,aa h1,iK]
def ait (b:C_) (a sz:Nat) (hl:b.length<=1000000000) (hb:a+sz<=b.length) (hs:sz<=31) (h:ak) (m:Nat):∀ (k i n:Nat) (I N:Int),I=i->N=n->i+k=sz->n<2 ^ i->
  (Dn prog).code (.loop zu) ⟨[(0,.d (.lst (am b))),(1,A_ a),(2,A_ sz),(6,A_ N),(31,A_ sz),(32,A_ I)],⟨h,m⟩⟩ =
   if bin ((b.drop (a+i)).take k) then some (.exit 1,⟨[(1,A_ a),(2,A_ sz),(6,A_ ((val ((b.drop (a+i)).take k) n:Nat)))],⟨h,m⟩⟩)
   else some (.ret,⟨[(6,A_ 0),(7,A_ 0),(8,A_ 8)],⟨h,m⟩⟩):=by
 intro k
 induction k with
 | zero =>
  intro i n I N hI hN hi hn;subst hI hN;rw[ah PG];have:¬ (i<sz):=o_;simp (disch:=omega) [this,val,bin]
 | succ k ih =>
  intro i n I N hI hN hi hn;subst hI hN;rw[ah PG,qA o_,List.take_succ_cons];have:i<sz:=o_;have h2:2 ^ i<=2 ^ 30:=aw o_ o_;have h3:2 ^ (i+1)=2*2 ^ i:=by rw[cZ];omega
  simp (disch:=omega) [this,val,bin];by_cases hx:nth b (a+i)<=1
  .rw[aa o_,ih (i+1) (2*n+nth b (a+i)) _ _ o_ o_ o_ o_];simp[hx,bin,dy]
  .rw[ac o_];simp[hx]
def il (b:C_) (a s:Int) (hb:b.length<=1000000000) (ha:i64 a):br prog CE [.d (.lst (am b)),A_ a,A_ s]=rK (pG b s) (bc b a s) (fun v n=>some (.tup [A_ v,A_ n,A_ 0])) fun e=>some (.tup [A_ 0,A_ 0,A_ (e+1)]):=by
 rw[aJ alT amg rfl,auA];simp (disch:=omega) [xN];by_cases h1:(0<=s∧s<=31)∧0<=a∧a<=b.length
 .obtain⟨⟨s0,s1⟩,a0,a1⟩:=h1;obtain⟨S,rfl⟩:=aB s0;obtain⟨A,rfl⟩:=aB a0;by_cases h2:(b.length:Int)-A<S
  .simp[h2]
  .have:=ait b A S hb o_ o_ [] 0 S 0 0 0 0 rfl rfl o_ o_;rw[dY]at this;simp (disch:=omega) [this]
 .simp[h1]
abbrev ub:=@List.mem_flatMap
def al6 (k lines by_:Nat):Nat->Nat->C_
 | 0,at_=>[at_]
 | f+1,at_=>at_::if at_<lines then al6 k lines by_ f (min lines (at_+4+4*(at_*k / by_))) else []
def offs (rate:Nat) (short:Bool):C_:=cond short (al6 (3+(11-rate) / 2) 32 64 99 0) (al6 (3+(11-rate) / 2) 256 256 99 0)
def Hj:List (Nat×Bool):=(List.range 12).flatMap fun r=>[(r,false),(r,true)]
def fp {r:Nat}{s:Bool}(h:r<12):(r,s)∈Hj:=by
 simp only[Hj,ub,dR];exact⟨r,h,by cases s<;>simp⟩
def adZ:∀ x∈Hj,br prog Dr [A_ x.1,B_ x.2]=some (.tup [.own true 1 (cR (offs x.1 x.2)),A_ 0]):=IK 100 Hj (by kernel_rfl)
def Zr:∀ x∈Hj,1<=(offs x.1 x.2).length∧(offs x.1 x.2).length<=64:=e_
def qO (rate:Nat) (short:Bool):Nat:=(offs rate short).length-1
theorem Iu {r:Nat}{s:Bool}(h:r<12):qO r s<=63:=by
 have:=Zr _ (fp (s:=s) h);simp only[qO]at *;omega
abbrev dV (r:Int):Prop:=0<=r∧r<=11
def BX (r:Int) (s:Bool):br prog Dr [A_ r,B_ s]=if dV r then some (.tup [.own true 1 (cR (offs r.toNat s)),A_ 0]) else some (.tup [.nl,A_ 2]):=by
 by_cases h:dV r
 .obtain⟨R,rfl⟩:=aB h.1;rw[ac h,adZ (R,s) (fp o_)];rfl
 .rw[aa h,aJ abt aai rfl];simp (disch:=omega) [↓ac,avV]
def kF (r:Int) (s:Bool):br prog T9 [A_ r,B_ s]=if dV r then some (.tup [A_ (qO r.toNat s),A_ 0]) else some (.tup [A_ 0,A_ 2]):=by
 rw[aJ ai7 ah4 rfl];by_cases h:dV r
 .have h2:=Zr _ (fp (r:=r.toNat) (s:=s) o_);simp (disch:=omega) only at h2;simp (disch:=omega) [BX,ac h,qO];split<;>simp<;>omega
 .simp (disch:=omega) [BX,aa h]
abbrev cD:=@List.drop_eq_nil_of_le
structure aL where
 seq:Nat
 shape:Nat
 max:Int
 groups:G_
@[simp] def aL.cells (i:aL):D_:=[.d (.int .u8 i.seq),.d (.int .u8 i.shape),A_ i.max,.d (.lst (aF i.groups))]
structure aL.Fit (i:aL):Prop where
 seq:i.seq<=255
 shape:i.shape<=255
 max:i64 i.max
 len:i.groups.length<=1000
 groups:∀ n∈i.groups,i64 n
def Y2 (a b:G_) (hl:a.length<=1000000) (he:a.length=b.length) (h:ak) (m:Nat):∀ (k i:Nat) (I:Int),I=i->i+k=a.length->
  (Dn prog).code (.loop lS) ⟨[(0,.d (.lst (aF a))),(1,.d (.lst (aF b))),(12,A_ a.length),(13,A_ I)],⟨h,m⟩⟩=if a.drop i=b.drop i then some (.exit 0,⟨[],⟨h,m⟩⟩) else some (.ret,⟨[(4,B_ false)],⟨h,m⟩⟩):=by
 intro k
 induction k with
 | zero =>
  intro i I hI hi;subst hI;rw[ah yV,cD o_,cD o_];simp (disch:=omega) [↓aa]
 | succ k ih =>
  intro i I hI hi;subst hI;rw[ah yV,qA (l:=a) o_,qA (l:=b) o_];simp (disch:=omega) [↓ac];rw[ih (i+1) _ o_ o_];by_cases hx:nth a i=nth b i<;>simp[hx]
def QQ (a b:G_) (hl:a.length<=1000000) (hb:b.length<=1000000):br prog C7 [.d (.lst (aF a)),.d (.lst (aF b))]=if a=b then some (B_ true) else some (B_ false):=by
 rw[aJ Qf P9 rfl];by_cases he:a.length=b.length
 .have:=Y2 a b hl he [] 0 a.length 0 0 rfl o_;simp (disch:=omega) [this,↓ac]
 .have:a≠b:=fun h=>he (by rw[h])
  simp (disch:=omega) [this,↓aa]
def aL.grouped (i:aL):Prop:=if i.seq=2 then (∀ n∈i.groups,1<=n∧n<=8)∧i.groups.sum=8∧(i.groups.length:Int)<=8 else i.groups=[1]
instance {i:aL}:Decidable i.grouped:=by unfold aL.grouped;infer_instance
def alY (i:aL) (hi:i.groups.length<=1000) (m:Nat):∀ (k j:Nat) (J S:Int),J=j->j+k=i.groups.length->0<=S∧S<=8*j->
  (Dn prog).code (.loop qN) ⟨[(1,.ptr 0 0),(3,A_ S),(14,.d (.lst (aF i.groups))),(15,A_ i.groups.length),(16,A_ J)],⟨[(0,.cells i.cells)],m⟩⟩ =
   if ∀ n∈i.groups.drop j,1<=n∧n<=8 then some (.exit 0,⟨[(1,.ptr 0 0),(3,A_ (S+(i.groups.drop j).sum))],⟨[(0,.cells i.cells)],m⟩⟩) else some (.ret,⟨[(2,B_ false)],⟨[(0,.cells i.cells)],m⟩⟩):=by
 simp only[aL.cells];intro k
 induction k with
 | zero =>
  intro j J S hJ hj hS;subst hJ;rw[ah G0,cD o_];simp (disch:=omega) [↓aa]
 | succ k ih =>
  intro j J S hJ hj hS;subst hJ;rw[ah G0,qA o_];simp (disch:=omega) [↓ac];by_cases hx:1<=nth i.groups j∧nth i.groups j<=8
  .rw[aa o_,ih (j+1) _ _ o_ o_ o_];simp[hx,Int.add_assoc]
  .rw[ac o_,aa (fun h=>hx ⟨h.1.1,h.1.2⟩)]
def afp (i:aL) (hi:i.Fit):br prog MZ [.agg i.cells]=if i.grouped then some (B_ true) else some (B_ false):=by
 have hl:=hi.len;rw[aJ abm aaB rfl];unfold aL.grouped;by_cases hs:i.seq=2
 .have:=alY i hi.len 1 i.groups.length 0 0 0 rfl o_ o_;simp only[aL.cells]at this;simp (disch:=omega) [↓ac,↓aa,this]
 .have:=QQ i.groups [1] o_ s_;have h1:aF [1]=[[.int .i64 1]]:=rfl;rw[h1]at this;simp (disch:=omega) [this,↓aa,↓ac]
def aL.may (r:Nat) (i:aL):Prop:=i.seq<=3∧i.shape<=1∧0<=i.max∧i.max<=qO r (decide (i.seq=2))∧i.grouped
instance {r:Nat}{i:aL}:Decidable (i.may r):=by unfold aL.may;infer_instance
def xE (r:Int) (i:aL) (hi:i.Fit):br prog wm [A_ r,.agg i.cells]=if dV r then if i.may r.toNat then some (A_ 0) else some (A_ 8) else some (A_ 2):=by
 have hg:=afp i hi;simp only[aL.cells]at hg;rw[aJ agS ae8 rfl];by_cases hr:dV r
 .by_cases hs:i.seq=2
  .simp (config := { maxSteps:=1000000 }) (disch:=omega) [kF,↓ac,↓aa,hg];refine atf ?_;by_cases h:i.grouped<;>simp[aL.may,h,hs];omega
  .simp (config := { maxSteps:=1000000 }) (disch:=omega) [kF,↓ac,↓aa,hg];refine atf ?_;by_cases h:i.grouped<;>simp[aL.may,h,hs];omega
 .by_cases hs:i.seq=2
  .simp (config := { maxSteps:=1000000 }) (disch:=omega) [kF,↓ac,↓aa]
  .simp (config := { maxSteps:=1000000 }) (disch:=omega) [kF,↓ac,↓aa]
def apS (i:aL) (hi:i.Fit):br prog Ve [.agg i.cells]=if i.may 11 then some (B_ true) else some (B_ false):=by
 have hg:=xE 11 i hi;simp only[aL.cells]at hg;rw[aJ ai9 ais rfl];simp (config := { maxSteps:=1000000 }) (disch:=omega) [hg,↓ac]
def aL.many (i:aL):Nat:=if i.seq=2 then 8 else 1
def oi (i:aL) (hi:i.Fit):br prog MW [.agg i.cells]=if i.may 11 then some (.tup [A_ i.many,A_ 0]) else some (.tup [A_ 0,A_ 8]):=by
 have hg:=apS i hi;simp only[aL.cells]at hg;rw[aJ abi aaO rfl];by_cases hs:i.seq=2
 .simp (config := { maxSteps:=1000000 }) (disch:=omega) [hg,↓ac,aL.many]
 .simp (config := { maxSteps:=1000000 }) (disch:=omega) [hg,↓aa,aL.many]
def mE:∀ {l:G_},(∀ n∈l,1<=n)->(l.length:Int)<=l.sum
 | [],_=>by simp
 | x::r,h=>by
  have:=mE (l:=r) (fun n hn=>h n (by simp[hn]));have:=h x s_;simp;omega
abbrev bO:=@Nat.two_pow_pos
abbrev gY:=@List.mem_or_eq_of_mem_set
def vO (b:C_) (a s:Int):Nat:=match bc b a s with | .ok v _=>v | .er _=>0
def nO (b:C_) (a s:Int):Nat:=match bc b a s with | .ok _ n=>n | .er _=>0
def eO (b:C_) (a s:Int):Nat:=match bc b a s with | .ok _ _=>0 | .er e=>e+1
def ed {b:C_}{a s:Int}{v n:Nat}(h:bc b a s=.ok v n):pG b s v n:=by
 unfold bc at h;by_cases h1:(0<=s∧s<=31)∧0<=a∧a<=b.length
 .rw[ac h1]at h;by_cases h2:b.length-a<s
  .rw[ac h2]at h;exact absurd h (by simp)
  .rw[aa h2]at h;by_cases h3:bin ((b.drop a.toNat).take s.toNat)
   .rw[ac h3]at h;injection h with hv hn
    have:=L6 (n:=0) (i:=0) h3 o_;have hl:((b.drop a.toNat).take s.toNat).length=s.toNat:=by simp;omega
    rw[hl]at this;subst hv hn;exact⟨by simpa using this,o_⟩
   .rw[aa h3]at h;exact absurd h (by simp)
 .rw[aa h1]at h;exact absurd h (by simp)
def J3 (b:C_) (a s:Int) (hb:b.length<=1000000000) (ha:i64 a):br prog CE [.d (.lst (am b)),A_ a,A_ s]=some (.tup [A_ (vO b a s),A_ (nO b a s),A_ (eO b a s)]):=by
 rw[il b a s hb ha];unfold vO nO eO
 cases h:bc b a s with
 | ok v n=>rw[eI (ed h)];simp
 | er e=>simp[rK]
structure RS where
 a:Int
 e:Nat
def ra (s:RS):Int:=s.a
def re (s:RS):Nat:=s.e
def sV (b:C_) (st:RS) (s:Int):Nat:=if st.e=0 then vO b st.a s else 0
def sN (b:C_) (st:RS) (s:Int):RS:=if st.e=0 then ⟨nO b st.a s,eO b st.a s⟩ else st
def aBf {b:C_}{a s:Int}:vO b a s<2 ^ s.toNat:=by
 unfold vO
 cases h:bc b a s with
 | ok v n=>exact(ed h).1
 | er e=>exact bO _
def vV {b:C_}{st:RS}{s:Int}:sV b st s<2 ^ s.toNat:=by
 unfold sV;split
 .exact aBf
 .exact bO _
def ali {b:C_}{a s:Int}:nO b a s<=b.length:=by
 unfold nO
 cases h:bc b a s with
 | ok v n=>exact(ed h).2
 | er e=>exact dl _
def RS.fit (st:RS):Prop:=i64 st.a
def fR {b:C_}{st:RS}{s:Int}(hb:b.length<=1000000000) (h:st.fit):(sN b st s).fit:=by
 unfold sN;split
 .have:=ali (b:=b) (a:=st.a) (s:=s);show i64 _;simp only[];omega
 .exact h
def sL (b:C_):Nat->RS->C_
 | 0,_=>[]
 | k+1,st=>sV b st 1::sL b k (sN b st 1)
def Kp (b:C_):Nat->RS->RS
 | 0,st=>st
 | k+1,st=>Kp b k (sN b st 1)
def CU (b:C_) (s:Int) (st:RS) (X:Obj) (R:ak) (N:Nat) (hb:b.length<=1000000000) (ha:st.fit):(Dn prog).call wL [A_ s,.ptr 3 0,.ptr 0 0,.ptr 2 0] ⟨(0,.cells [.d (.lst (am b))])::(1,X)::(2,.cells [A_ (ra st)])::(3,.cells [A_ (re st)])::R,N⟩ =
  some (A_ (sV b st s),⟨(0,.cells [.d (.lst (am b))])::(1,X)::(2,.cells [A_ (ra (sN b st s))])::(3,.cells [A_ (re (sN b st s))])::R,N⟩):=by
 rw[ba aha afL rfl];obtain⟨a,e⟩:=st;have hf:i64 a:=ha;by_cases he:e=0
 .subst he;simp (config := { maxSteps:=1000000 }) (disch:=omega) [J3,ra,re,sV,sN]
 .simp (config := { maxSteps:=1000000 }) (disch:=omega) [ra,re,sV,sN,he]
def grow:G_->C_->G_
 | g,[]=>g
 | g,x::r=>grow (if x=1 then g.set (g.length-1) (nth g (g.length-1)+1) else g++[1]) r
def nm (g:G_):Nat:=3+g.length
def aCU {g:G_}(h:g≠[]):4<=nm g:=by have:=bJ.2 h;unfold nm;omega
abbrev hpI (b:C_) (q s:Nat) (m:Int) (g:G_) (st:RS):HS:=⟨[(0,.cells [.d (.lst (am b))]),(1,.cells [.d (.int .u8 q),.d (.int .u8 s),A_ m,.sl (3+g.length) 0 g.length]),
           (2,.cells [A_ (ra st)]),(3,.cells [A_ (re st)]),(3+g.length,.arr 1 (aF g))],4+g.length⟩
def aja (b:C_) (r o m:Int) (q s:Nat) (hb:b.length<=1000000000):∀ (k i:Nat) (g:G_) (st:RS) (I:Int),I=i->i+k=7->g≠[]->g.length+k<=100->(∀ n∈g,0<=n∧n+k<=100)->st.fit->
  (Dn prog).code (.loop uB) ⟨[(2,AV.d (D.int IntKind.i64 r)),(6,AV.ptr 1 0),(7,AV.ptr 2 0),(8,AV.ptr 3 0),
           (9,AV.fn wL [] [AV.ptr 3 0,AV.ptr 0 0,AV.ptr 2 0]),(10,A_ o),(40,A_ I)],hpI b q s m g st⟩ =
   some (.exit 0,⟨[(2,AV.d (D.int IntKind.i64 r)),(6,AV.ptr 1 0),(7,AV.ptr 2 0),(8,AV.ptr 3 0),(10,A_ o)],hpI b q s m (grow g (sL b k st)) (Kp b k st)⟩):=by
 intro k
 induction k with
 | zero =>
  intro i g st I hI hi hg hl hn ha;subst hI;rw[ah Pn];simp (disch:=omega) [↓aa,hpI,grow,sL,Kp]
 | succ k ih =>
  intro i g st I hI hi hg hl hn ha;subst hI;have:=bJ.2 hg;have h3:3+(g.length+1)=4+g.length:=o_;have h4:4+(g.length+1)=4+g.length+1:=o_;rw[ah Pn];have hv:nth g (g.length-1)∈g:=jg o_;have hv2:=hn _ hv;simp only[grow,sL,Kp];by_cases h1:sV b st 1=1
  .have hs:(g.set (g.length-1) (nth g (g.length-1)+1)).length=g.length:=s_;have h:=ih (i+1) (g.set (g.length-1) (nth g (g.length-1)+1)) (sN b st 1) (i+1) o_ o_ (by intro h0;rw[h0,bu]at hs;omega) (by rw[hs];omega) (fun x hx=>by
    rcases gY hx with h | h
    .have:=hn x h;omega
    .omega) (fR hb ha)
   simp only[hpI,hs]at h;simp (maxSteps:=300000) (disch:=first | omega | assumption) [↓ac,↓aa,CU,h3,h4,hpI];rw[h]
  .have h:=ih (i+1) (g++[1]) (sN b st 1) (i+1) o_ o_ s_ g_ (fun x hx=>by
    rcases be.1 hx with h | h
    .have:=hn x h;omega
    .simp at h;omega) (fR hb ha)
   simp only[hpI,al,aq,bu,bz,h3,h4]at h;simp (maxSteps:=300000) (disch:=first | omega | assumption) [↓ac,↓aa,CU,h3,h4,hpI];rw[h]
structure Hr (hp:D_->ak) (p:Nat):Prop where
 get:∀ c,get (hp c) p=some (.cells c)
 put:∀ c d,put (hp c) p (.cells d)=hp d
abbrev cM (b:C_) (s:Nat×Nat):D_:=[.own false 1 (am b),A_ s.1,A_ s.2]
def gT (b:C_) (s:Nat×Nat) (k:Int):Nat×Nat×Nat :=
 if s.2=0 then match bc b s.1 k with
  | .ok v n=>(v,n,0)
  | .er e=>(0,s.1,e+1)
 else (0,s)
def kT (s:Nat×Nat) (c:Prop) [Decidable c]:Nat×Nat:=if s.2=0∧¬ c then (s.1,8) else s
def fW {hp:D_->ak}{p:Nat}(H:Hr hp p) (b:C_) (hb:b.length<=1000000000) (s:Nat×Nat) (hs:s.1<=b.length) (k:Int) (N:Nat) :
  (Dn prog).call jx [.ptr p 0,A_ k] ⟨hp (cM b s),N⟩=some (A_ ((gT b s k).1),⟨hp (cM b (gT b s k).2),N⟩):=by
 obtain⟨a,e⟩:=s;have h:=il b a k hb (by simp only at hs;omega);rw[ba VG Wp rfl];unfold gT;simp only[cM];by_cases he:e=0
 .subst he
  cases hg:bc b a k with
  | ok v n =>
   rw[hg,eI (ed hg)]at h;simp (maxSteps:=300000) (disch:=omega) [↓ac,↓aa,H.get,H.put,h]
  | er e =>
   rw[hg,iK]at h;simp (maxSteps:=300000) (disch:=omega) [↓ac,↓aa,H.get,H.put,h]
 .simp (maxSteps:=300000) (disch:=omega) [↓ac,↓aa,H.get,H.put,he]
def mO {hp:D_->ak}{p:Nat}(H:Hr hp p) (b:C_) (s:Nat×Nat) (c:Prop) [Decidable c] (N:Nat) :
  (Dn prog).call lC [.ptr p 0,B_ (decide c)] ⟨hp (cM b s),N⟩=some (.tup [],⟨hp (cM b (kT s c)),N⟩):=by
 obtain⟨a,e⟩:=s;rw[ba We V9 rfl];unfold kT;simp only[cM];by_cases hc:c
 .simp (maxSteps:=300000) (disch:=omega) [↓ac,↓aa,H.get,H.put,hc]
 .by_cases he:e=0
  .subst he;simp (maxSteps:=300000) (disch:=omega) [↓ac,↓aa,H.get,H.put,hc]
  .simp (maxSteps:=300000) (disch:=omega) [↓ac,↓aa,H.get,H.put,hc,he]
def rg {b:C_}{s:Nat×Nat}{k:Int}(h:s.1<=b.length):(gT b s k).2.1<=b.length:=by
 unfold gT;split
 .split
  .rename_i v n hg;exact(ed hg).2
  .exact h
 .exact h
def Hl {b:C_}{s:Nat×Nat}{c:Prop}[Decidable c] (h:s.1<=b.length):(kT s c).1<=b.length:=by
 unfold kT;split<;>exact h
def N1 {b:C_}{s:Nat×Nat}{k:Int}(h0:0<=k):(gT b s k).1<2 ^ k.toNat:=by
 have:=bO k.toNat;unfold gT;split
 .split
  .rename_i v n hg;exact(ed hg).1
  .exact this
 .exact this
abbrev j5:=@Int.fdiv_eq_ediv_of_nonneg
abbrev qy:=@Int.natCast_nonneg
abbrev lj:=@Nat.div_le_self
abbrev iH:=@Nat.div_eq_of_lt
def ar (n:Nat):Nat->C_
 | 0=>[]
 | k+1=>n / 2 ^ k % 2::ar n k
@[simp] theorem dL {n:Nat}:∀ {k:Nat},(ar n k).length=k
 | 0=>rfl
 | k+1=>by rw[ar,aq,dL]
def alh {n k:Nat}(hk:k<=63):fo .shr (A_ (n:Int)) (A_ (k:Int))=some (.int .i64 ((n / 2 ^ k:Nat):Int)):=by
 rw[lh o_];have:min ((k:Int)).toNat IntKind.i64.bits=k:=by simp only[au,IntKind.bits];omega
 rw[this,j5 _ (qy _),<-Int.natCast_ediv]
def aDg {a:Nat}(h:a<9223372036854775808):fo .and (A_ (a:Int)) (A_ 1)=some (.int .i64 ((a % 2:Nat):Int)):=by
 have:=anW (k:=.i64) (a:=a) (b:=1) (by simpa [pq,IntKind.signed] using h) k_;rw[Nat.and_one_is_mod]at this;exact this
def anZ {σ:Type}{hp:σ->ak}{l p N:Nat}{st:σ->Nat->σ}{dk:Nat->σ->Prop}(hI:∀ k s x,dk (k+1) s->dk k (st s x)) (n:Nat) (hn:n<=9223372036854775807) (hg:∀ s,get (hp s) p=some (.cells [A_ n]))
  (hy:∀ (k:Nat) (s:σ) (x:Nat),dk (k+1) s->x<=1->cf (Dn prog) (.yield l) [.d (.int .u8 (x:Int))] ⟨hp s,N⟩=some (B_ true,⟨hp (st s x),N⟩)):∀ (k:Nat) (I:Int) (s:σ),k<=31->dk k s->I=k-1->
  (Dn prog).code (.loop tw) ⟨[(0,.yield l),(2,.ptr p 0),(4,A_ I)],⟨hp s,N⟩⟩=some (.exit 0,⟨[],⟨hp ((ar n k).foldl st s),N⟩⟩):=by
 intro k
 induction k with
 | zero =>
  intro I s hk hi hI;subst hI;rw[ah Ji];simp (disch:=omega) [↓aa,ar]
 | succ k ih =>
  intro I s hk hi hI;subst hI;have c:((k+1:Nat):Int)-1=(k:Int):=o_;have h1:n / 2 ^ k<=n:=lj _ _;have h2:=alh (n:=n) (k:=k) o_;have h3:=aDg (a:=n / 2 ^ k) o_;have h4:=hy k s (n / 2 ^ k % 2) hi o_;have h5:=ih ((k:Int)-1) (st s (n / 2 ^ k % 2)) o_ (hI _ _ _ hi) rfl;rw[c,ah Ji,ar,lc];generalize n / 2 ^ k=Q at *;have c2:((Q % 2:Nat):Int)=(Q:Int) % 2:=o_;rw[c2]at h4;simp (disch:=omega) [↓ac,hg,-lh,h2,h3,-lW,h4];exact h5
def aoy {σ:Type}{hp:σ->ak}{l p q N:Nat}{st:σ->Nat->σ}{dk:Nat->σ->Prop}(hI:∀ k s x,dk (k+1) s->dk k (st s x)) (n k:Nat) (hn:n<=9223372036854775807) (hk:k<=31) (hg:∀ s,get (hp s) p=some (.cells [A_ n])) (hg2:∀ s,get (hp s) q=some (.cells [A_ k]))
  (hy:∀ (k:Nat) (s:σ) (x:Nat),dk (k+1) s->x<=1->cf (Dn prog) (.yield l) [.d (.int .u8 (x:Int))] ⟨hp s,N⟩=some (B_ true,⟨hp (st s x),N⟩)) (s:σ) (hs:dk k s) :
  (Dn prog).call pE [.yield l,.ptr q 0,.ptr p 0] ⟨hp s,N⟩=some (.tup [],⟨hp ((ar n k).foldl st s),N⟩):=by
 rw[ba adp ac7 rfl];have h:=anZ hI n hn hg hy k ((k:Int)-1) s hk hs rfl;simp (disch:=omega) [hg2,h]
abbrev ar7 (n k:Int) (acc:C_):ak:=[(0,.cells [A_ n]),(1,.cells [A_ k]),(2,.cells [.own false 1 (am acc)]),(3,.loop [(2,.ptr 2 0)] [7] jb jd false none)]
def aeL {l acc:C_}:l.foldl (fun(s:C_) x=>s++[x]) acc=acc++l:=by
 induction l generalizing acc with
 | nil=>simp
 | cons x r ih=>rw[lc,ih];simp
def aEk (n k:Int) (s:C_) (x:Nat) (hs:s.length<=990000000):cf (Dn prog) (.yield 3) [.d (.int .u8 (x:Int))] ⟨ar7 n k s,4⟩=some (B_ true,⟨ar7 n k (s++[x]),4⟩):=by
 have hl:(am s).length=s.length:=by simp[am]
 simp (disch:=omega) [E9,Fl];omega
def aaK (acc:C_) (n k:Nat) (hn:n<=9223372036854775807) (hk:k<=31) (ha:acc.length<=900000000) :
  (Dn prog).call wD [.own false 1 (am acc),.fn pE [] [.ptr 1 0,.ptr 0 0]] ⟨[(0,.cells [A_ n]),(1,.cells [A_ k])],2⟩ =
  some (.own false 1 (am (acc++ar n k)),⟨[(0,.cells [A_ n]),(1,.cells [A_ k]),(2,.cells [.junk])],4⟩):=by
 have h:=aoy (hp:=ar7 n k) (l:=3) (p:=0) (q:=1) (N:=4) (st:=fun s x=>s++[x]) (dk:=fun k s=>s.length+k<=980000000) (fun k s x h=>by simp only[al,aq,bu];omega) n k hn hk (fun s=>by simp) (fun s=>by simp) (fun j s x h _=>aEk n k s x o_) acc o_;rw[aeL]at h;rw[ba Ik Je rfl];simp (disch:=omega) [rd,h]
def aqg (n k:Int):(Dn prog).call Lv [A_ n,A_ k] ⟨[],0⟩=some (.fn pE [] [.ptr 1 0,.ptr 0 0],⟨[(0,.cells [A_ n]),(1,.cells [A_ k])],2⟩):=by
 rw[ba UN UQ rfl];simp (disch:=omega)
abbrev rq (n s:Int):Prop:=(0<=s∧s<=31)∧0<=n∧n.toNat<2 ^ s.toNat
def MD (x:AV) (b:C_) (hb:b.length<=1000000000) (hx:elems [] x=some (am b)):br prog nC [x]=some (.own true 1 (am b)):=by
 have hl:(am b).length=b.length:=by simp[am]
 rw[aJ ND OM rfl];have h4:Nat.ble b.length 4294967296=true:=by rw[bj];omega
 rw[iI];simp (disch:=omega) [cW,MT,hx,h4]
def mG (b:C_) (n s:Int) (hb:b.length<=900000000) (hn:i64 n) (x:AV) (hx:x=.d (.lst (am b))∨x=.nl∧b=[]):br prog BR [x,A_ n,A_ s] =
  if rq n s then some (.tup [.own true 1 (am (b++ar n.toNat s.toNat)),A_ 0]) else some (.tup [.nl,A_ 2]):=by
 have hc:br prog nC [x]=some (.own true 1 (am b)):=by
  refine MD x b o_ ?_;rcases hx with rfl | ⟨rfl,rfl⟩<;>rfl
 rw[aJ alU anl rfl];by_cases h1:0<=s∧s<=31
 .obtain⟨S,rfl⟩:=aB h1.1;by_cases h2:n<0
  .rw[aa (by simp only[rq];omega)];simp (disch:=omega) [xN,↓ac,↓aa]
  .obtain⟨M,rfl⟩:=aB (Int.not_lt.1 h2);have h3:=alh (n:=M) (k:=S) o_;by_cases h4:M<2 ^ S
   .rw[ac (by simp only[rq,au];omega)];rw[iH h4]at h3;have h5:=aaK b M S o_ o_ hb;rcases hx with rfl | ⟨rfl,rfl⟩
    .simp (disch:=omega) [xN,↓ac,↓aa,-lh,h3,hc,aqg,h5]
    .simp (disch:=omega) [xN,↓ac,↓aa,-lh,h3,hc,aqg,h5]
   .rw[aa (by simp only[rq,au];omega)];have h6:M / 2 ^ S≠0:=by
     intro h;rcases Nat.div_eq_zero_iff.1 h with h | h
     .have:=bO S;omega
     .exact h4 h
    have h7:¬ (((M / 2 ^ S:Nat):Int)=0):=o_;generalize M / 2 ^ S=Q at *;simp (disch:=omega) [xN,↓ac,↓aa,-lh,h3]
 .rw[aa (by simp only[rq];omega)];simp (disch:=omega) [xN,↓ac,↓aa]
def Wm:∀ {l:C_}{g:G_}{t:Int},g≠[]->(∀ n∈g,0<=n∧n+l.length<=t)->1+l.length<=t->∀ n∈grow g l,0<=n∧n<=t
 | [],g,t,h0,h,ht,n,hn=>by grind [grow]
 | x::r,g,t,h0,h,ht,n,hn=>by
  rw[grow]at hn;have hl:=bJ.2 h0;simp only[aq]at h ht;by_cases hx:x=1
  .have h1:=h _ (jg (l:=g) (i:=g.length-1) o_);refine Wm (l:=r) (t:=t) (fun h2=>?_) (fun y hy=>?_) o_ n hn
   all_goals grind [List.length_nil]
  .rw[aa hx]at hn;refine Wm (l:=r) (t:=t) s_ (fun y hy=>?_) o_ n hn
   grind
def aeH:∀ {l:C_}{g:G_},(grow g l).length<=g.length+l.length
 | [],g=>by simp[grow]
 | x::r,g=>by
  rw[grow];have:=aeH (l:=r) (g:=if x=1 then g.set (g.length-1) (nth g (g.length-1)+1) else g++[1])
  grind
def Yt {b:C_}:∀ {k:Nat}{st:RS},(sL b k st).length=k
 | 0,_=>rfl
 | k+1,_=>by simp[sL,Yt (k:=k)]
def UO (r m:Int) (q s:Nat) (g:G_) (hq:q<=255) (hs:s<=255) (hm:i64 m) (hg:g.length<=100) (h:∀ n∈g,0<=n∧n<=100):br prog wm [A_ r,.agg [.d (.int .u8 q),.d (.int .u8 s),A_ m,.d (.lst (aF g))]]=if dV r then if aL.may r.toNat ⟨q,s,m,g⟩ then some (A_ 0) else some (A_ 8) else some (A_ 2) :=
 xE r ⟨q,s,m,g⟩ ⟨hq,hs,hm,d_,fun n hn=>by grind⟩
def sG (b:C_) (st:RS):G_:=grow [1] (sL b 7 st)
def af8 {b:C_}{st:RS}:4<=nm (sG b st)∧(sG b st).length<=100∧∀ n∈sG b st,0<=n∧n<=100:=by
 have h1:=aeH (l:=sL b 7 st) (g:=[1]);rw[Yt]at h1;have h2:=Wm (l:=sL b 7 st) (g:=[1]) (t:=100) s_ (by simp[Yt]) (by rw[Yt];omega);refine⟨?_,by grind [sG],h2⟩;have:sG b st≠[]:=by
  unfold sG;have:∀ (l:C_) (g:G_),g≠[]->grow g l≠[]:=by
   intro l
   induction l<;>grind [grow]
  simp_all
 exact aCU this
def aiA (b:C_) (r o m:Int) (q s:Nat) (st:RS) (hb:b.length<=1000000000) (hs:st.fit) :
  (Dn prog).code (.loop uB) ⟨[(2,AV.d (D.int IntKind.i64 r)),(6,AV.ptr 1 0),(7,AV.ptr 2 0),(8,AV.ptr 3 0),
           (9,AV.fn wL [] [AV.ptr 3 0,AV.ptr 0 0,AV.ptr 2 0]),(10,A_ o),(40,A_ 0)],⟨[(0,.cells [.d (.lst (am b))]),(1,.cells [.d (.int .u8 q),.d (.int .u8 s),A_ m,.sl 4 0 1]),(2,.cells [A_ (ra st)]),(3,.cells [A_ (re st)]),(4,.arr 1 [[.int .i64 1]])],5⟩⟩ =
   some (.exit 0,⟨[(2,AV.d (D.int IntKind.i64 r)),(6,AV.ptr 1 0),(7,AV.ptr 2 0),(8,AV.ptr 3 0),(10,A_ o)],⟨[(0,.cells [.d (.lst (am b))]),(1,.cells [.d (.int .u8 q),.d (.int .u8 s),A_ m,.sl (nm (sG b st)) 0 (sG b st).length]),
           (2,.cells [A_ (ra (Kp b 7 st))]),(3,.cells [A_ (re (Kp b 7 st))]),(nm (sG b st),.arr 1 (aF (sG b st)))],4+(sG b st).length⟩⟩) :=
 aja b r o m q s hb 7 0 [1] st 0 rfl rfl s_ s_ s_ hs
def afn {b:C_}{st:RS}:sV b st 1<=1:=by have:=vV (b:=b) (st:=st) (s:=1);grind
def axJ {b:C_}{st:RS}:sV b st 2<=3:=by have:=vV (b:=b) (st:=st) (s:=2);grind
def aCB {b:C_}{st:RS}:sV b st 4<=15:=by have:=vV (b:=b) (st:=st) (s:=4);grind
def aDy {b:C_}{st:RS}:sV b st 6<=63:=by have:=vV (b:=b) (st:=st) (s:=6);grind
def aAg {a:Int}:ra ⟨a,0⟩=a:=rfl
def aBk {a:Int}:re ⟨a,0⟩=0:=rfl
def U5 (b:C_) (s a:Int) (X:Obj) (R:ak) (N:Nat) (hb:b.length<=1000000000) (ha:i64 a):(Dn prog).call wL [A_ s,.ptr 3 0,.ptr 0 0,.ptr 2 0] ⟨(0,.cells [.d (.lst (am b))])::(1,X)::(2,.cells [A_ a])::(3,.cells [A_ 0])::R,N⟩ =
  some (A_ (sV b ⟨a,0⟩ s),⟨(0,.cells [.d (.lst (am b))])::(1,X)::(2,.cells [A_ (ra (sN b ⟨a,0⟩ s))])::(3,.cells [A_ (re (sN b ⟨a,0⟩ s))])::R,N⟩) :=
 CU b s ⟨a,0⟩ X R N hb ha
def R.bind {α β:Type}(x:R α) (f:α->Nat->R β):R β :=
 match x with
 | .ok v n=>f v n
 | .er e=>.er e
@[simp] theorem ay {α β:Type}{v:α}{n:Nat}{f:α->Nat->R β}:R.bind (.ok v n) f=f v n:=rfl
@[simp] theorem cm {α β:Type}{e:Nat}{f:α->Nat->R β}:R.bind (.er e) f=.er e:=rfl
def Rz {α:Type}(c:Prop) [Decidable c] (v:α) (n:Nat):R α:=if c then .ok v n else .er 7
def zU (b:C_):Nat->Nat->R C_
 | 0,a=>.ok [] a
 | k+1,a=>(bc b a 1).bind fun v n=>(zU b k n).bind fun l m=>.ok (v::l) m
def mt (b:C_) (a:Int) (r:Nat):R aL :=
 (bc b a 1).bind fun o n=>(bc b n 2).bind fun q n=>(bc b n 1).bind fun s n =>
 if q=2 then (bc b n 4).bind fun m n=>(zU b 7 n).bind fun l n=>Rz (o=0∧aL.may r ⟨q,s,m,grow [1] l⟩) ⟨q,s,m,grow [1] l⟩ n
 else (bc b n 6).bind fun m n=>(bc b n 1).bind fun p n=>Rz ((o=0∧p=0)∧aL.may r ⟨q,s,m,[1]⟩) ⟨q,s,m,[1]⟩ n
def kf {b:C_}{a s:Int}{v n:Nat}(h:bc b a s=.ok v n):sV b ⟨a,0⟩ s=v∧sN b ⟨a,0⟩ s=⟨n,0⟩:=by
 grind [sV,sN,vO,nO,eO]
def CD {b:C_}{a s:Int}{e:Nat}(h:bc b a s=.er e):sV b ⟨a,0⟩ s=0∧sN b ⟨a,0⟩ s=⟨0,e+1⟩:=by
 grind [sV,sN,vO,nO,eO]
def VW {b:C_}{a s:Int}{e:Nat}:sV b ⟨a,e+1⟩ s=0∧sN b ⟨a,e+1⟩ s=⟨a,e+1⟩:=by
 grind [sV,sN]
def aeg {b:C_}{a:Int}{e:Nat}:∀ {k:Nat},Kp b k ⟨a,e+1⟩=⟨a,e+1⟩
 | 0=>rfl
 | k+1=>by rw[Kp,VW.2,aeg]
def axT {b:C_}:∀ {k a:Nat},match zU b k a with
  | .ok l n=>sL b k ⟨a,0⟩=l∧Kp b k ⟨a,0⟩=⟨n,0⟩∧(0<k->n<=b.length)
  | .er e=>Kp b k ⟨a,0⟩=⟨0,e+1⟩
 | 0,a=>⟨rfl,rfl,fun h=>absurd h o_⟩
 | k+1,a=>by
  simp only[zU,sL,Kp]
  cases h:bc b a 1 with
  | ok v n =>
   have hp:=(ed h).2;rw[(kf h).1,(kf h).2,ay];have ih:=axT (b:=b) (k:=k) (a:=n)
   cases h2:zU b k n with
   | ok l m =>
    rw[h2]at ih;refine⟨by rw[ih.1],ih.2.1,fun _=>?_⟩
    cases k<;>grind [zU]
   | er e=>simp_all
  | er e=>simp_all [CD,aeg]
abbrev VE:D_:=[.d (.int .u8 0),.d (.int .u8 0),A_ 0,.nl]
abbrev Sh (i:aL):D_:=[.d (.int .u8 i.seq),.d (.int .u8 i.shape),A_ i.max,.own true 1 (aF i.groups)]
set_option maxHeartbeats 4000000 in
def aot (b:C_) (a r:Int) (hb:b.length<=1000000000) (ha:i64 a) (hr:dV r) (s1 s2 s3 s4:RS) (e1:s1=sN b ⟨a,0⟩ 1) (e2:s2=sN b s1 2) (e3:s3=sN b s2 1) (e4:s4=sN b s3 4) (hq:sV b s1 2=2):br prog CX [.d (.lst (am b)),A_ a,A_ r] =
  if re (Kp b 7 s4)=0 then if sV b ⟨a,0⟩ 1=0∧aL.may r.toNat ⟨sV b s1 2,sV b s2 1,sV b s3 4,sG b s4⟩ then some (.tup [.agg (Sh ⟨sV b s1 2,sV b s2 1,sV b s3 4,sG b s4⟩),A_ (ra (Kp b 7 s4)),A_ 0])
   else some (.tup [.agg VE,A_ 0,A_ 8])
  else some (.tup [.agg VE,A_ 0,A_ (re (Kp b 7 s4))]):=by
 rw[aJ N8 NE rfl];have f1:s1.fit:=e1▸fR hb ha;have f2:s2.fit:=e2▸fR hb f1;have f3:s3.fit:=e3▸fR hb f2;have f4:s4.fit:=e4▸fR hb f3;have v1:=afn (b:=b) (st:=⟨a,0⟩);have v2:=axJ (b:=b) (st:=s1);have v3:=afn (b:=b) (st:=s2);have v4:=aCB (b:=b) (st:=s3);obtain⟨g1,g2,g3⟩:=af8 (b:=b) (st:=s4);simp (maxSteps:=300000) (disch:=first | omega | assumption) [kF,↓ac,↓aa,CU,U5,aiA,UO,<-e1,<-e2,<-e3,<-e4,Xr,an6]
set_option maxHeartbeats 4000000 in
def anK (b:C_) (a r:Int) (hb:b.length<=1000000000) (ha:i64 a) (hr:dV r) (s1 s2 s3 s4 s5:RS) (e1:s1=sN b ⟨a,0⟩ 1) (e2:s2=sN b s1 2) (e3:s3=sN b s2 1) (e4:s4=sN b s3 6) (e5:s5=sN b s4 1) (hq:sV b s1 2≠2):br prog CX [.d (.lst (am b)),A_ a,A_ r] =
  if re s5=0 then if (sV b ⟨a,0⟩ 1=0∧sV b s4 1=0)∧aL.may r.toNat ⟨sV b s1 2,sV b s2 1,sV b s3 6,[1]⟩ then some (.tup [.agg (Sh ⟨sV b s1 2,sV b s2 1,sV b s3 6,[1]⟩),A_ (ra s5),A_ 0])
   else some (.tup [.agg VE,A_ 0,A_ 8])
  else some (.tup [.agg VE,A_ 0,A_ (re s5)]):=by
 rw[aJ N8 NE rfl];have f1:s1.fit:=e1▸fR hb ha;have f2:s2.fit:=e2▸fR hb f1;have f3:s3.fit:=e3▸fR hb f2;have f4:s4.fit:=e4▸fR hb f3;have v1:=afn (b:=b) (st:=⟨a,0⟩);have v2:=axJ (b:=b) (st:=s1);have v3:=afn (b:=b) (st:=s2);have v4:=aDy (b:=b) (st:=s3);have v5:=afn (b:=b) (st:=s4);have hc:=UO r (sV b s3 6) (sV b s1 2) (sV b s2 1) [1] o_ o_ o_ s_ s_;have h1:aF [1]=[[.int .i64 1]]:=rfl;rw[h1]at hc;simp (maxSteps:=300000) (disch:=first | omega | assumption) [kF,↓ac,↓aa,CU,U5,hc,<-e1,<-e2,<-e3,<-e4,<-e5,Xr,an6,aF];rfl
abbrev pI (b:C_) (r:Nat) (i:aL) (n:Nat):Prop:=i.may r∧n<=b.length∧i.groups.length<=100
theorem akq {α γ:Type}{p:α->Nat->Prop}{c:Prop}[Decidable c] {v:α}{n:Nat}{f:α->Nat->γ}{g:Nat->γ}(h:c->p v n):rK p (Rz c v n) f g=if c then f v n else g 7:=by
 grind [Rz,eI,iK]
def Vo (b:C_) (a r:Int) (hb:b.length<=1000000000) (ha:i64 a):br prog CX [.d (.lst (am b)),A_ a,A_ r] =
  if dV r then rK (pI b r.toNat) (mt b a r.toNat) (fun i n=>some (.tup [.agg (Sh i),A_ n,A_ 0])) fun e=>some (.tup [.agg VE,A_ 0,A_ (e+1)])
  else some (.tup [.agg VE,A_ 0,A_ 2]):=by
 by_cases hr:dV r
 .rw[ac hr];unfold mt;by_cases hq:sV b (sN b ⟨a,0⟩ 1) 2=2
  .rw[aot b a r hb ha hr _ _ _ _ rfl rfl rfl rfl hq]
   cases h1:bc b a 1 with
   | er e=>simp_all [CD,VW]
   | ok o n =>
    rw[(kf h1).2]at hq⊢;rw[(kf h1).1,ay]
    cases h2:bc b n 2 with
    | er e=>simp_all [CD]
    | ok q n =>
     rw[(kf h2).1]at hq⊢;rw[(kf h2).2,ay]
     cases h3:bc b n 1 with
     | er e=>simp_all [CD,VW,aeg,re]
     | ok s n =>
      rw[(kf h3).2,(kf h3).1,ay,ac hq]
      cases h4:bc b n 4 with
      | er e=>simp_all [CD,aeg,re]
      | ok m n =>
       rw[(kf h4).2,(kf h4).1,ay];have h5:=axT (b:=b) (k:=7) (a:=n);have h6:=(af8 (b:=b) (st:=⟨n,0⟩)).2.1;unfold sG at h6⊢
       cases h7:zU b 7 n with
       | er e=>simp_all [re]
       | ok l n =>
        grind [ay,akq,re,ra]
  .rw[anK b a r hb ha hr _ _ _ _ _ rfl rfl rfl rfl rfl hq]
   cases h1:bc b a 1 with
   | er e=>simp_all [CD,VW,re]
   | ok o n =>
    rw[(kf h1).2]at hq⊢;rw[(kf h1).1,ay]
    cases h2:bc b n 2 with
    | er e=>simp_all [CD,VW,re]
    | ok q n =>
     rw[(kf h2).1]at hq⊢;rw[(kf h2).2,ay]
     cases h3:bc b n 1 with
     | er e=>simp_all [CD,VW,re]
     | ok s n =>
      rw[(kf h3).2,(kf h3).1,ay,aa hq]
      cases h4:bc b n 6 with
      | er e=>simp_all [CD,VW,re]
      | ok m n =>
       rw[(kf h4).2,(kf h4).1,ay]
       cases h5:bc b n 1 with
       | er e=>simp_all [CD,re]
       | ok p n =>
        rw[(kf h5).2,(kf h5).1,ay,akq (fun h=>⟨h.2,(ed h5).2,s_⟩)];simp[re,ra]
 .rw[aa hr,aJ N8 NE rfl];simp (disch:=first | omega | assumption) [kF,↓aa]
abbrev bt:=@Nat.succ_ne_zero
def mU (b:C_):Nat->Nat->R C_
 | 0,a=>.ok [] a
 | k+1,a=>(bc b a 8).bind fun x n=>(mU b k n).bind fun l m=>.ok (x::l) m
def Cy (b:C_) (a:Nat):R C_ :=
 (bc b a 3).bind fun x n=>if x=6 then (bc b n 4).bind fun k m=>if k=0 then .er 7 else
  (if k=15 then (bc b m 8).bind fun y m2=>if y=0 then .er 7 else .ok (y+14) m2 else .ok k m).bind fun k m =>
  (mU b k m).bind fun l m=>(bc b m 3).bind fun z m=>if z=7 then .ok l m else .er 7
 else if x=7 then .ok [] n else .er 7
def Lk {α:Type}(r:R α) (P:α->Prop) (s:Nat×Nat):Prop:=match r with
 | .ok v n=>P v∧s=(n,0)
 | .er e=>s.2=e+1
def oI {b:C_}{a v n:Nat}{k:Int}(h:bc b a k=.ok v n):gT b (a,0) k=(v,n,0):=by
 unfold gT;simp only[h,bf]
def zM {b:C_}{a e:Nat}{k:Int}(h:bc b a k=.er e):gT b (a,0) k=(0,a,e+1):=by
 unfold gT;simp only[h,bf]
def uT {b:C_}{s:Nat×Nat}{k:Int}(h:s.2≠0):gT b s k=(0,s):=by
 unfold gT;rw[aa h]
def Ke {s:Nat×Nat}{c:Prop}[Decidable c] (h:c):kT s c=s:=by unfold kT;rw[aa (fun h2=>h2.2 h)]
def OS {a:Nat}{c:Prop}[Decidable c] (h:¬ c):kT (a,0) c=(a,8):=by unfold kT;rw[ac ⟨rfl,h⟩]
def lM {s:Nat×Nat}{c:Prop}[Decidable c] (h:s.2≠0):kT s c=s:=by unfold kT;rw[aa (fun h2=>h h2.1)]
section
variable {hp:D_->ak}{p:Nat}(H:Hr hp p) (b:C_) (hb:b.length<=1000000000)
include H hb
theorem UG (s:Nat×Nat) (hs:s.2≠0) (x:AV) (n i:Int) (hi:i<n) (N:Nat) :
  (Dn prog).code (.loop dc) ⟨[(0,.ptr p 0),(2,x),(27,A_ n),(28,A_ i)],⟨hp (cM b s),N⟩⟩ =
  some (.ret,⟨[(2,.nl),(3,A_ 0)],⟨hp (cM b s),N⟩⟩):=by
 obtain⟨a,e⟩:=s;simp only at hs;rw[ah qu];simp only[cM];simp (maxSteps:=300000) (disch:=omega) [↓ac,↓aa,H.get,H.put,hs]
theorem ajc (s:Nat×Nat) (hs:s.2=0) (ha:s.1<=b.length) (l:C_) (hl:l.length<=1000) (n i:Int) (hi:i<n) (hn:n<=1000) (h0:0<=i) (N:Nat) :
  (Dn prog).code (.loop dc) ⟨[(0,.ptr p 0),(2,aD 1 (am l)),(27,A_ n),(28,A_ i)],⟨hp (cM b s),N⟩⟩ =
  (Dn prog).code (.loop dc) ⟨[(0,.ptr p 0),(2,aD 1 (am (l++[(gT b s 8).1]))),(27,A_ n),(28,A_ (i+1))],⟨hp (cM b (gT b s 8).2),N⟩⟩:=by
 have h1:=fW H b hb s ha 8 N;have h2:(gT b s 8).1<2 ^ 8:=N1 (k:=8) o_;have hl2:(am l).length=l.length:=by simp[am]
 obtain⟨a,e⟩:=s;simp only at hs ha;subst hs;generalize gT b (a,0) 8=g at *;obtain⟨x,s'⟩:=g;simp only at h1 h2⊢;rw[ah qu];have c0:((0:Nat):Int)=0:=rfl;have e:aD 1 (am (l++[x]))=.own false 1 (am (l++[x])):=lx (by simp[am]);simp only[cM,c0]at h1⊢;rw[e]
 cases l with
 | nil =>
  simp (maxSteps:=300000) (disch:=omega) [↓ac,↓aa,H.get,H.put,h1]
 | cons y r =>
  simp (maxSteps:=300000) (disch:=omega) [↓ac,↓aa,H.get,H.put,h1]
theorem Lr (s:Nat×Nat) (x:AV) (n:Int) (N:Nat) :
  (Dn prog).code (.loop dc) ⟨[(0,.ptr p 0),(2,x),(27,A_ n),(28,A_ n)],⟨hp (cM b s),N⟩⟩ =
  some (.exit 3,⟨[(0,.ptr p 0),(2,x)],⟨hp (cM b s),N⟩⟩):=by
 rw[ah qu];simp (maxSteps:=300000) (disch:=omega) [↓ac,↓aa]
theorem ai6 (n:Nat) (hn:n<=1000) (N:Nat):∀ (k i a:Nat) (l:C_),i+k=n->a<=b.length->l.length=i->
  ∃ (s:Nat×Nat) (w:C_),s.1<=b.length∧Lk (mU b k a) (fun r=>w=l++r) s∧
  ((Dn prog).code (.loop dc) ⟨[(0,.ptr p 0),(2,aD 1 (am l)),(27,A_ n),(28,A_ i)],⟨hp (cM b (a,0)),N⟩⟩=some (.exit 3,⟨[(0,.ptr p 0),(2,aD 1 (am w))],⟨hp (cM b s),N⟩⟩)∨
   s.2≠0∧(Dn prog).code (.loop dc) ⟨[(0,.ptr p 0),(2,aD 1 (am l)),(27,A_ n),(28,A_ i)],⟨hp (cM b (a,0)),N⟩⟩=some (.ret,⟨[(2,.nl),(3,A_ 0)],⟨hp (cM b s),N⟩⟩)):=by
 intro k
 induction k with
 | zero =>
  intro i a l hi ha hl;have:i=n:=o_;subst this;exact⟨(a,0),l,ha,⟨s_,rfl⟩,.inl (Lr H b hb _ _ _ N)⟩
 | succ k ih =>
  intro i a l hi ha hl;have hs:=ajc H b hb (a,0) rfl ha l o_ n i o_ o_ o_ N;rw[mU]
  cases e:bc b a 8 with
  | ok x m =>
   rw[oI e]at hs;obtain⟨s,w,h1,h2,h3⟩:=ih (i+1) m (l++[x]) o_ (ed e).2 g_;refine⟨s,w,h1,?_,?_⟩
   .rw[ay]
    cases e2:mU b k m with
    | ok r q=>rw[e2]at h2;exact⟨by rw[h2.1,aA];rfl,h2.2⟩
    | er q=>rw[e2]at h2;exact h2
   .rw[hs];exact h3
  | er e0 =>
   rw[zM e]at hs;refine⟨(a,e0+1),l++[0],ha,rfl,?_⟩;rw[hs];by_cases hk:k=0
   .have:((i:Int)+1)=n:=o_;rw[this];exact .inl (Lr H b hb _ _ _ N)
   .exact .inr ⟨bt _,UG H b hb _ (bt _) _ _ _ o_ N⟩
end
section
variable {hp:D_->ak}{p:Nat}(H:Hr hp p) (b:C_) (hb:b.length<=1000000000)
include H hb
abbrev FT (hp:D_->ak) (p:Nat) (b:C_) (a:Nat) (N:Nat) (w:C_) (x:Int) (s:Nat×Nat):Prop :=
 (Dn prog).call u6 [.ptr p 0] ⟨hp (cM b (a,0)),N⟩=some (.tup [aD 1 (am w),A_ x],⟨hp (cM b s),N⟩)
theorem abF (a:Nat) (ha:a<=b.length) (N:Nat) (h6:(gT b (a,0) 3).1≠6):FT hp p b a N [] (gT b (a,0) 3).1 (kT (gT b (a,0) 3).2 (((gT b (a,0) 3).1:Int)=7)):=by
 have h1:=fW H b hb (a,0) ha 3 N;have h2:=mO H b (gT b (a,0) 3).2 (((gT b (a,0) 3).1:Int)=7) N;have e:aD 1 (am [])=.nl:=rfl;have c0:((0:Nat):Int)=0:=rfl;unfold FT;generalize gT b (a,0) 3=g at *;obtain⟨x,s⟩:=g;simp only at h1 h2 h6⊢;generalize kT s ((x:Int)=7)=s2 at *;rw[ba lk lg rfl,e];simp only[cM,c0]at h1 h2⊢;by_cases h7:(x:Int)=7
 .rw[decide_eq_true h7]at h2;simp (maxSteps:=300000) (disch:=omega) [↓ac,↓aa,h1,h2]
 .rw[decide_eq_false h7]at h2;simp (maxSteps:=300000) (disch:=omega) [↓ac,↓aa,h1,h2]
abbrev sA (b:C_) (a:Nat):Nat×Nat:=(gT b (a,0) 3).2
abbrev vB (b:C_) (a:Nat):Nat:=(gT b (sA b a) 4).1
abbrev sB (b:C_) (a:Nat):Nat×Nat:=kT (gT b (sA b a) 4).2 ((0:Int)<(vB b a:Int))
abbrev vC (b:C_) (a:Nat):Nat:=(gT b (sB b a) 8).1
abbrev sC (b:C_) (a:Nat):Nat×Nat:=kT (gT b (sB b a) 8).2 ((0:Int)<(vC b a:Int))
abbrev SX (hp:D_->ak) (p:Nat) (b:C_) (N:Nat) (n:Int) (s0:Nat×Nat) (s:Nat×Nat) (w:C_):Prop :=
 (Dn prog).code (.loop dc) ⟨[(0,.ptr p 0),(2,.nl),(27,A_ n),(28,A_ 0)],⟨hp (cM b s0),N⟩⟩=some (.exit 3,⟨[(0,.ptr p 0),(2,aD 1 (am w))],⟨hp (cM b s),N⟩⟩)
abbrev Zl (hp:D_->ak) (p:Nat) (b:C_) (N:Nat) (n:Int) (s0:Nat×Nat) (s:Nat×Nat):Prop :=
 (Dn prog).code (.loop dc) ⟨[(0,.ptr p 0),(2,.nl),(27,A_ n),(28,A_ 0)],⟨hp (cM b s0),N⟩⟩=some (.ret,⟨[(2,.nl),(3,A_ 0)],⟨hp (cM b s),N⟩⟩)
theorem asT (a:Nat) (ha:a<=b.length) (N:Nat) (h6:(gT b (a,0) 3).1=6) (h15:vB b a≠15) (s:Nat×Nat) (hs:s.1<=b.length) (w:C_) (hl:SX hp p b N (vB b a) (sB b a) s w) :
  FT hp p b a N w (gT b s 3).1 (kT (gT b s 3).2 (((gT b s 3).1:Int)=7)):=by
 have h1:=fW H b hb (a,0) ha 3 N;have hA:(sA b a).1<=b.length:=rg ha;have hB:(sB b a).1<=b.length:=Hl (rg hA);have h2:=fW H b hb (sA b a) hA 4 N;have h3:=mO H b (gT b (sA b a) 4).2 ((0:Int)<(vB b a:Int)) N;have hv:vB b a<2 ^ 4:=N1 (k:=4) o_;have h4:=fW H b hb s hs 3 N;have h5:=mO H b (gT b s 3).2 (((gT b s 3).1:Int)=7) N;have c0:((0:Nat):Int)=0:=rfl;have e0:aD 1 (am [])=.nl:=rfl;unfold FT;unfold SX at hl;unfold sB vB sA at *;generalize gT b (a,0) 3=g1 at *;obtain⟨x1,s1⟩:=g1;simp only at *;generalize gT b s1 4=g2 at *;obtain⟨x2,s2⟩:=g2;simp only at *;generalize kT s2 ((0:Int)<(x2:Int))=s3 at *;generalize gT b s 3=g4 at *;obtain⟨x4,s4⟩:=g4;simp only at *;generalize kT s4 ((x4:Int)=7)=s5 at *;subst h6;rw[ba lk lg rfl];have c6:((6:Nat):Int)=6:=rfl;simp only[cM,c0,c6]at h1 h2 h3 h4 h5 hl⊢;by_cases h7:(x4:Int)=7
 .rw[decide_eq_true h7]at h5;by_cases h0:(0:Int)<(x2:Int)
  .rw[decide_eq_true h0]at h3;simp (maxSteps:=300000) (disch:=omega) [↓ac,↓aa,h1,h2,h3,h4,h5,hl]
  .rw[decide_eq_false h0]at h3;simp (maxSteps:=300000) (disch:=omega) [↓ac,↓aa,h1,h2,h3,h4,h5,hl]
 .rw[decide_eq_false h7]at h5;by_cases h0:(0:Int)<(x2:Int)
  .rw[decide_eq_true h0]at h3;simp (maxSteps:=300000) (disch:=omega) [↓ac,↓aa,h1,h2,h3,h4,h5,hl]
  .rw[decide_eq_false h0]at h3;simp (maxSteps:=300000) (disch:=omega) [↓ac,↓aa,h1,h2,h3,h4,h5,hl]
theorem as3 (a:Nat) (ha:a<=b.length) (N:Nat) (h6:(gT b (a,0) 3).1=6) (h15:vB b a≠15) (s:Nat×Nat) (hl:Zl hp p b N (vB b a) (sB b a) s) :
  FT hp p b a N [] 0 s:=by
 have h1:=fW H b hb (a,0) ha 3 N;have hA:(sA b a).1<=b.length:=rg ha;have hB:(sB b a).1<=b.length:=Hl (rg hA);have h2:=fW H b hb (sA b a) hA 4 N;have h3:=mO H b (gT b (sA b a) 4).2 ((0:Int)<(vB b a:Int)) N;have hv:vB b a<2 ^ 4:=N1 (k:=4) o_;have c0:((0:Nat):Int)=0:=rfl;have e0:aD 1 (am [])=.nl:=rfl;unfold FT;unfold Zl at hl;unfold sB vB sA at *;generalize gT b (a,0) 3=g1 at *;obtain⟨x1,s1⟩:=g1;simp only at *;generalize gT b s1 4=g2 at *;obtain⟨x2,s2⟩:=g2;simp only at *;generalize kT s2 ((0:Int)<(x2:Int))=s3 at *;subst h6;rw[ba lk lg rfl];have c6:((6:Nat):Int)=6:=rfl;simp only[cM,c0,c6,e0]at h1 h2 h3 hl⊢;by_cases h0:(0:Int)<(x2:Int)
 .rw[decide_eq_true h0]at h3;simp (maxSteps:=300000) (disch:=omega) [↓ac,↓aa,h1,h2,h3,hl]
 .rw[decide_eq_false h0]at h3;simp (maxSteps:=300000) (disch:=omega) [↓ac,↓aa,h1,h2,h3,hl]
theorem alq (a:Nat) (ha:a<=b.length) (N:Nat) (h6:(gT b (a,0) 3).1=6) (h15:vB b a=15) (s:Nat×Nat) (hs:s.1<=b.length) (w:C_) (hl:SX hp p b N ((vC b a+14:Nat):Int) (sC b a) s w) :
  FT hp p b a N w (gT b s 3).1 (kT (gT b s 3).2 (((gT b s 3).1:Int)=7)):=by
 have h1:=fW H b hb (a,0) ha 3 N;have hA:(sA b a).1<=b.length:=rg ha;have hB:(sB b a).1<=b.length:=Hl (rg hA);have h2:=fW H b hb (sA b a) hA 4 N;have h3:=mO H b (gT b (sA b a) 4).2 ((0:Int)<(vB b a:Int)) N;have hv:vB b a<2 ^ 4:=N1 (k:=4) o_;have h8:=fW H b hb (sB b a) hB 8 N;have h9:=mO H b (gT b (sB b a) 8).2 ((0:Int)<(vC b a:Int)) N;have hw:vC b a<2 ^ 8:=N1 (k:=8) o_;have h4:=fW H b hb s hs 3 N;have h5:=mO H b (gT b s 3).2 (((gT b s 3).1:Int)=7) N;have c0:((0:Nat):Int)=0:=rfl;have e0:aD 1 (am [])=.nl:=rfl;unfold FT;unfold SX at hl;unfold sC vC sB vB sA at *;generalize gT b (a,0) 3=g1 at *;obtain⟨x1,s1⟩:=g1;simp only at *;generalize gT b s1 4=g2 at *;obtain⟨x2,s2⟩:=g2;simp only at *;generalize kT s2 ((0:Int)<(x2:Int))=s3 at *;generalize gT b s3 8=g3 at *;obtain⟨x3,s6⟩:=g3;simp only at *;generalize kT s6 ((0:Int)<(x3:Int))=s7 at *;generalize gT b s 3=g4 at *;obtain⟨x4,s4⟩:=g4;simp only at *;generalize kT s4 ((x4:Int)=7)=s5 at *;subst h6;subst h15;rw[ba lk lg rfl];have c6:((6:Nat):Int)=6:=rfl;have c15:((15:Nat):Int)=15:=rfl;have c14:((x3+14:Nat):Int)=(x3:Int)+14:=rfl;have h0:(0:Int)<((15:Nat):Int):=o_;rw[decide_eq_true h0]at h3;simp only[cM,c0,c6,c15,c14]at h1 h2 h3 h8 h9 h4 h5 hl⊢;by_cases h7:(x4:Int)=7
 .rw[decide_eq_true h7]at h5;by_cases ha:(0:Int)<(x3:Int)
  .rw[decide_eq_true ha]at h9;simp (maxSteps:=300000) (disch:=omega) [↓ac,↓aa,h1,h2,h3,h8,h9,h4,h5,hl]
  .rw[decide_eq_false ha]at h9;simp (maxSteps:=300000) (disch:=omega) [↓ac,↓aa,h1,h2,h3,h8,h9,h4,h5,hl]
 .rw[decide_eq_false h7]at h5;by_cases ha:(0:Int)<(x3:Int)
  .rw[decide_eq_true ha]at h9;simp (maxSteps:=300000) (disch:=omega) [↓ac,↓aa,h1,h2,h3,h8,h9,h4,h5,hl]
  .rw[decide_eq_false ha]at h9;simp (maxSteps:=300000) (disch:=omega) [↓ac,↓aa,h1,h2,h3,h8,h9,h4,h5,hl]
theorem al0 (a:Nat) (ha:a<=b.length) (N:Nat) (h6:(gT b (a,0) 3).1=6) (h15:vB b a=15) (s:Nat×Nat) (hl:Zl hp p b N ((vC b a+14:Nat):Int) (sC b a) s) :
  FT hp p b a N [] 0 s:=by
 have h1:=fW H b hb (a,0) ha 3 N;have hA:(sA b a).1<=b.length:=rg ha;have hB:(sB b a).1<=b.length:=Hl (rg hA);have h2:=fW H b hb (sA b a) hA 4 N;have h3:=mO H b (gT b (sA b a) 4).2 ((0:Int)<(vB b a:Int)) N;have hv:vB b a<2 ^ 4:=N1 (k:=4) o_;have h8:=fW H b hb (sB b a) hB 8 N;have h9:=mO H b (gT b (sB b a) 8).2 ((0:Int)<(vC b a:Int)) N;have hw:vC b a<2 ^ 8:=N1 (k:=8) o_;have c0:((0:Nat):Int)=0:=rfl;have e0:aD 1 (am [])=.nl:=rfl;unfold FT;unfold Zl at hl;unfold sC vC sB vB sA at *;generalize gT b (a,0) 3=g1 at *;obtain⟨x1,s1⟩:=g1;simp only at *;generalize gT b s1 4=g2 at *;obtain⟨x2,s2⟩:=g2;simp only at *;generalize kT s2 ((0:Int)<(x2:Int))=s3 at *;generalize gT b s3 8=g3 at *;obtain⟨x3,s6⟩:=g3;simp only at *;generalize kT s6 ((0:Int)<(x3:Int))=s7 at *;subst h6;subst h15;rw[ba lk lg rfl];have c6:((6:Nat):Int)=6:=rfl;have c15:((15:Nat):Int)=15:=rfl;have c14:((x3+14:Nat):Int)=(x3:Int)+14:=rfl;have h0:(0:Int)<((15:Nat):Int):=o_;rw[decide_eq_true h0]at h3;simp only[cM,c0,c6,c15,c14,e0]at h1 h2 h3 h8 h9 hl⊢;by_cases ha:(0:Int)<(x3:Int)
 .rw[decide_eq_true ha]at h9;simp (maxSteps:=300000) (disch:=omega) [↓ac,↓aa,h1,h2,h3,h8,h9,hl]
 .rw[decide_eq_false ha]at h9;simp (maxSteps:=300000) (disch:=omega) [↓ac,↓aa,h1,h2,h3,h8,h9,hl]
end
section
variable {hp:D_->ak}{p:Nat}(H:Hr hp p) (b:C_) (hb:b.length<=1000000000)
include H hb
theorem aoR {s:Nat×Nat}{l:C_}(hd:s.2≠0):kT (gT b s 3).2 (((gT b s 3).1:Int)=7)=s:=by
 rw[uT hd,lM hd]
theorem Ra (n:Nat) (hn:n<=1000) (N:Nat) (s0:Nat×Nat) (hs0:s0.1<=b.length) :
  ∃ (s:Nat×Nat) (w:C_),s.1<=b.length∧(s0.2=0->Lk (mU b n s0.1) (fun r=>w=r) s)∧(s0.2≠0->s=s0)∧(SX hp p b N n s0 s w∨s.2≠0∧Zl hp p b N n s0 s):=by
 obtain⟨a,e⟩:=s0;have e0:aD 1 (am [])=.nl:=rfl;by_cases he:e=0
 .subst he;obtain⟨s,w,h1,h2,h3⟩:=ai6 H b hb n hn N n 0 a [] o_ hs0 rfl;refine⟨s,w,h1,fun _=>?_,fun h=>absurd rfl h,?_⟩
  .simpa using h2
  .rw[e0]at h3;exact h3
 .by_cases h0:n=0
  .subst h0;exact⟨(a,e),[],hs0,fun h=>absurd h he,fun _=>rfl,.inl (by have:=Lr H b hb (a,e) .nl 0 N;simpa [SX,e0] using this)⟩
  .exact⟨(a,e),[],hs0,fun h=>absurd h he,fun _=>rfl,.inr ⟨he,UG H b hb (a,e) he .nl n 0 o_ N⟩⟩
theorem aoc {n a:Nat}{s:Nat×Nat}{w:C_}(h:Lk (mU b n a) (fun r=>w=r) s):Lk ((mU b n a).bind fun l m=>(bc b m 3).bind fun z m=>if z=7 then .ok l m else .er 7) (fun l=>w=l) (kT (gT b s 3).2 (((gT b s 3).1:Int)=7)):=by
 cases e:mU b n a with
 | er q =>
  rw[e]at h;have hd:s.2≠0:=by simp only[Lk]at h;omega
  rw[uT hd,lM hd];exact h
 | ok l m =>
  rw[e]at h;obtain⟨rfl,rfl⟩:=h;rw[ay]
  cases e3:bc b m 3 with
  | er q =>
   rw[zM e3,lM (bt _)];exact rfl
  | ok z m2 =>
   rw[oI e3,ay];by_cases hz:z=7
   .rw[ac hz,Ke t_];exact⟨rfl,rfl⟩
   .rw[aa hz,OS t_];exact rfl
theorem ann (a:Nat) (ha:a<=b.length) (N:Nat):∃ (w:C_) (x:Int) (s:Nat×Nat),FT hp p b a N w x s∧Lk (Cy b a) (fun l=>w=l) s:=by
 unfold Cy
 cases e1:bc b a 3 with
 | er q =>
  have h:=abF H b hb a ha N (by rw[zM e1];simp);exact⟨_,_,_,h,by rw[zM e1,lM (bt _)];exact rfl⟩
 | ok x n =>
  rw[ay];by_cases h6:x=6
  rotate_left
  .have h:=abF H b hb a ha N (by rw[oI e1];exact h6);refine⟨_,_,_,h,?_⟩;rw[oI e1,aa h6];by_cases h7:x=7
   .rw[ac h7,Ke t_];exact⟨rfl,rfl⟩
   .rw[aa h7,OS t_];exact rfl
  rw[ac h6];have hx:(gT b (a,0) 3).1=6:=by rw[oI e1];exact h6
  have hA:sA b a=(n,0):=by unfold sA;rw[oI e1]
  have hAl:(sA b a).1<=b.length:=rg ha;have hBl:(sB b a).1<=b.length:=Hl (rg hAl);have hCl:(sC b a).1<=b.length:=Hl (rg hBl);have hv:vB b a<2 ^ 4:=N1 (k:=4) o_;have hw:vC b a<2 ^ 8:=N1 (k:=8) o_;by_cases h15:vB b a=15
  .obtain⟨s,w,h1,h2,h3,h4⟩:=Ra H b hb (vC b a+14) o_ N (sC b a) hCl;have fin:Lk (((bc b n 4).bind fun k m=>if k=0 then R.er 7 else
  (if k=15 then (bc b m 8).bind fun y m2=>if y=0 then .er 7 else .ok (y+14) m2 else .ok k m).bind fun k m =>
  (mU b k m).bind fun l m=>(bc b m 3).bind fun z m=>if z=7 then .ok l m else .er 7)) (fun l=>w=l) (kT (gT b s 3).2 (((gT b s 3).1:Int)=7)):=by
    cases e2:bc b n 4 with
    | er q=>unfold vB at h15;rw[hA,zM e2]at h15;exact absurd h15 (by simp)
    | ok k m =>
     have hk:vB b a=k:=by unfold vB;rw[hA,oI e2]
     have hB:sB b a=(m,0):=by unfold sB;rw[Ke o_,hA,oI e2]
     have hC:sC b a=kT (gT b (m,0) 8).2 ((0:Int)<((gT b (m,0) 8).1:Nat)):=by unfold sC vC;rw[hB]
     have hc:vC b a=(gT b (m,0) 8).1:=by unfold vC;rw[hB]
     rw[ay,aa o_,ac o_]
     cases e3:bc b m 8 with
     | er q =>
      rw[zM e3,lM (bt _)]at hC;rw[h3 (by rw[hC];exact bt _),hC,uT (bt _),lM (bt _)];exact rfl
     | ok y m2 =>
      rw[oI e3]at hC hc;simp only at hC hc;rw[ay];by_cases hy:y=0
      .rw[OS o_]at hC;rw[ac hy,h3 (by rw[hC];simp),hC,uT s_,lM s_];exact rfl
      .rw[Ke o_]at hC;rw[hC,hc]at h2;rw[aa hy,ay];exact aoc H b hb (h2 rfl)
   rcases h4 with h4 | ⟨hd,h4⟩
   .exact⟨w,_,_,alq H b hb a ha N hx h15 s h1 w h4,fin⟩
   .refine⟨[],_,_,al0 H b hb a ha N hx h15 s h4,?_⟩;have this:=fin;rw[aoR H b hb (l:=[]) hd]at this
    revert this
    generalize ((bc b n 4).bind fun k m=>if k=0 then R.er 7 else
  (if k=15 then (bc b m 8).bind fun y m2=>if y=0 then .er 7 else .ok (y+14) m2 else .ok k m).bind fun k m =>
  (mU b k m).bind fun l m=>(bc b m 3).bind fun z m=>if z=7 then .ok l m else .er 7)=G
    intro this
    cases G with
    | er q=>exact this
    | ok v m=>exact absurd this.2 (fun h=>hd (by rw[h]))
  .obtain⟨s,w,h1,h2,h3,h4⟩:=Ra H b hb (vB b a) o_ N (sB b a) hBl;have fin:Lk (((bc b n 4).bind fun k m=>if k=0 then R.er 7 else
  (if k=15 then (bc b m 8).bind fun y m2=>if y=0 then .er 7 else .ok (y+14) m2 else .ok k m).bind fun k m =>
  (mU b k m).bind fun l m=>(bc b m 3).bind fun z m=>if z=7 then .ok l m else .er 7)) (fun l=>w=l) (kT (gT b s 3).2 (((gT b s 3).1:Int)=7)):=by
    have hB:sB b a=kT (gT b (n,0) 4).2 ((0:Int)<((gT b (n,0) 4).1:Nat)):=by unfold sB vB;rw[hA]
    have hb1:vB b a=(gT b (n,0) 4).1:=by unfold vB;rw[hA]
    cases e2:bc b n 4 with
    | er q =>
     rw[zM e2,lM (bt _)]at hB;rw[h3 (by rw[hB];exact bt _),hB,uT (bt _),lM (bt _)];exact rfl
    | ok k m =>
     rw[oI e2]at hB hb1;simp only at hB hb1;rw[ay];by_cases hk:k=0
     .rw[OS o_]at hB;rw[ac hk,h3 (by rw[hB];simp),hB,uT s_,lM s_];exact rfl
     .rw[Ke o_]at hB;rw[hB,hb1]at h2;rw[aa hk,aa o_,ay];exact aoc H b hb (h2 rfl)
   rcases h4 with h4 | ⟨hd,h4⟩
   .exact⟨w,_,_,asT H b hb a ha N hx h15 s h1 w h4,fin⟩
   .refine⟨[],_,_,as3 H b hb a ha N hx h15 s h4,?_⟩;have this:=fin;rw[aoR H b hb (l:=[]) hd]at this
    revert this
    generalize ((bc b n 4).bind fun k m=>if k=0 then R.er 7 else
  (if k=15 then (bc b m 8).bind fun y m2=>if y=0 then .er 7 else .ok (y+14) m2 else .ok k m).bind fun k m =>
  (mU b k m).bind fun l m=>(bc b m 3).bind fun z m=>if z=7 then .ok l m else .er 7)=G
    intro this
    cases G with
    | er q=>exact this
    | ok v m=>exact absurd this.2 (fun h=>hd (by rw[h]))
end
abbrev kD:=@List.sum_cons
structure Hv (hp:AV->ak) (p:Nat):Prop where
 get:∀ v,get (hp v) p=some (.cells [v])
 put:∀ v w,put (hp v) p (.cells [w])=hp w
def inB (x:AV) (b:C_):Prop:=x=.own false 1 (am b)∨x=.d (.lst (am b))∨x=.nl∧b=[]
def jJ {b:C_}:inB (.own false 1 (am b)) b:=.inl rfl
def NI {hp:AV->ak}{p N:Nat}(H:Hv hp p) {x:AV}{b:C_}(hx:inB x b) (hb:b.length<=900000000) (n s:Int) (ho:rq n s) (hn:i64 n) :
  (Dn prog).call BV [A_ n,A_ s,.ptr p 0] ⟨hp x,N⟩=some (.tup [],⟨hp (.own false 1 (am (b++ar n.toNat s.toNat))),N⟩):=by
 have h1:=fun x hx=>mG b n s hb hn x hx
 simp only[ac ho]at h1;rw[ba ae4 aeE rfl];rcases hx with rfl | rfl | ⟨rfl,rfl⟩
 .have h2:=h1 _ (.inl rfl);simp (disch:=omega) [H.get,H.put,h2]
 .have h2:=h1 _ (.inl rfl);simp (disch:=omega) [H.get,H.put,h2]
 .have h2:=h1 _ (.inr ⟨rfl,rfl⟩);simp (disch:=omega) [H.get,H.put,h2]
def xH {hp:AV->ak}{p N:Nat}(H:Hv hp p) {x:AV}{b:C_}(hx:inB x b) (hb:b.length<=900000000) (n s:Nat) (hs:s<=31) (ho:n<2 ^ s) (nI sI:Int) (en:nI=n) (es:sI=s) :
  (Dn prog).call BV [A_ nI,A_ sI,.ptr p 0] ⟨hp x,N⟩=some (.tup [],⟨hp (.own false 1 (am (b++ar n s))),N⟩):=by
 subst en es;have h31:2 ^ s<=2 ^ 31:=aw o_ hs;exact NI H hx hb n s (by simp only[rq,au];omega) (by omega)
def kO:G_->Int->Nat
 | [],_=>0
 | n::r,w=>if w<n then 0 else kO r (w-n)+1
def ac8 (i:aL) (hi:i.groups.length<=1000) (hg:∀ n∈i.groups,1<=n∧n<=8) (m:Nat):∀ (r:G_) (g:Nat) (w:Int),i.groups.drop g=r->0<=w->w<r.sum->w<=8->
  (Dn prog).code (.loop wa) ⟨[(2,.ptr 0 0),(8,A_ g),(9,A_ w)],⟨[(0,.cells i.cells)],m⟩⟩=some (.exit 0,⟨[(8,A_ (g+kO r w:Nat))],⟨[(0,.cells i.cells)],m⟩⟩):=by
 simp only[aL.cells];intro r
 induction r with
 | nil=>intro g w h1 h2 h3;simp at h3;omega
 | cons n r ih =>
  intro g w h1 h2 h3 h4;have hlt:g<i.groups.length:=by
   rcases bB g i.groups.length with h | h
   .exact h
   .rw[cD h]at h1;exact absurd h1 (by simp)
  have h5:=ee hlt;have e1:i.groups[g]=n∧i.groups.drop (g+1)=r:=by rw[h1]at h5;injection h5 with a b;exact⟨a.symm,b.symm⟩
  have hn:=hg _ (List.getElem_mem hlt);rw[e1.1]at hn;have hnt:nth i.groups g=n:=by have:=AS hlt;rw[bE hlt,e1.1]at this;injection this with this;exact this.symm
  rw[ah X6,kO];by_cases h6:w<n
  .rw[ac h6];simp (disch:=omega) [↓ac,↓aa,hnt]
  .have h7:=ih (g+1) (w-n) e1.2 o_ (by simp only[kD]at h3;omega) o_;have c1:((g+1:Nat):Int)=(g:Int)+1:=rfl;have c2:g+1+kO r (w-n)=g+(kO r (w-n)+1):=o_;rw[c1,c2]at h7;rw[aa h6];simp (disch:=omega) [↓ac,↓aa,hnt];exact h7
def dG {i:aL}(hm:i.may 11):(∀ n∈i.groups,1<=n∧n<=8)∧i.groups.sum=i.many:=by
 obtain⟨_,_,_,_,h⟩:=hm;unfold aL.grouped at h;unfold aL.many;by_cases hs:i.seq=2
 .rw[ac hs]at h⊢;exact⟨h.1,h.2.1⟩
 .rw[aa hs]at h⊢;rw[h];simp
def Pd (i:aL) (hi:i.Fit) (hm:i.may 11) (w:Int) (h0:0<=w) (h1:w<i.many):br prog Rq [.agg i.cells,A_ w]=some (.tup [A_ (kO i.groups w),A_ 0]):=by
 have hw:=oi i hi;rw[ac hm]at hw;obtain⟨g1,g2⟩:=dG hm;have hmm:i.many<=8:=by unfold aL.many;split<;>omega
 have hl:=ac8 i hi.len g1 1 i.groups 0 w rfl h0 o_ o_;have c0:((0:Nat):Int)=0:=rfl;rw[c0,bz]at hl;simp only[aL.cells]at hw hl;rw[aJ ahc afy rfl];simp (disch:=omega) [hw,↓ac,↓aa,hl]
def OK:∀ x∈Hj,qO x.1 x.2<=qO 11 x.2∧qO x.1 true<=14:=e_
def gh {r:Nat}{i:aL}(hr:r<=11) (h:i.may r):i.may 11:=by
 obtain⟨h1,h2,h3,h4,h5⟩:=h;have:=(OK _ (fp (r:=r) (s:=decide (i.seq=2)) o_)).1;exact⟨h1,h2,h3,by simp only[]at this;omega,h5⟩
def Ij (g:G_):Nat->Nat->C_
 | 0,_=>[]
 | k+1,w=>(if kO g w=kO g (w+1) then ar 1 1 else ar 0 1)++Ij g k (w+1)
def ZF {g:G_}:∀ {k w:Nat},(Ij g k w).length=k
 | 0,_=>rfl
 | k+1,w=>by rw[Ij,al,ZF];split<;>simp<;>omega
def kX (i:aL):C_:=ar 0 1++(ar i.seq 2++(ar i.shape 1++(if i.seq=2 then ar i.max.toNat 4++Ij i.groups 7 0 else ar i.max.toNat 6++ar 0 1)))
abbrev hpP (i:aL) (v:AV):ak:=[(0,.cells [v]),(1,.cells i.cells)]
def RG (i:aL):Hv (hpP i) 0:=⟨fun v=>by simp,fun v w=>by simp⟩
def ajl (i:aL) (hi:i.Fit) (hm:i.may 11) (hs:i.seq=2) (N:Nat):∀ (k w:Nat) (b:C_),w+k=7->b.length<=800000000+w->
  (Dn prog).code (.loop zw) ⟨[(3,.ptr 0 0),(5,.ptr 1 0),(9,.fn BV [] [.ptr 0 0]),(10,A_ ((w:Int)+1))],⟨hpP i (.own false 1 (am b)),N⟩⟩ =
  some (.exit 0,⟨[(3,.ptr 0 0)],⟨hpP i (.own false 1 (am (b++Ij i.groups k w))),N⟩⟩):=by
 have hmm:i.many=8:=by unfold aL.many;rw[ac hs]
 intro k
 induction k with
 | zero =>
  intro w b h1 h2;rw[ah PL,Ij];simp (disch:=omega) [↓aa]
 | succ k ih =>
  intro w b h1 h2;have g1:=Pd i hi hm w o_ o_;have g2:=Pd i hi hm (w+1) o_ o_;have p1:=NI (RG i) (N:=N) (jJ (b:=b)) o_ 1 1 k_ o_;have p0:=NI (RG i) (N:=N) (jJ (b:=b)) o_ 0 1 k_ o_;have i1:=ih (w+1) (b++ar 1 1) o_ g_;have i0:=ih (w+1) (b++ar 0 1) o_ g_;have c1:((w+1:Nat):Int)=(w:Int)+1:=rfl;have t1:(1:Int).toNat=1:=rfl;have t0:(0:Int).toNat=0:=rfl;simp only[aL.cells]at g1 g2;simp only[c1,t1,t0,aA]at p1 p0 i1 i0;rw[ah PL,Ij];by_cases h:kO i.groups w=kO i.groups (w+1)
  .rw[ac h];simp (disch:=omega) [↓ac,g1,g2,h,p1];exact i1
  .rw[aa h];simp (disch:=omega) [↓ac,↓aa,g1,g2,h,p0];exact i0
def agy (b:C_) (hb:b.length<=700000000) (x:AV) (hx:x=.d (.lst (am b))∨x=.nl∧b=[]) (r:Int) (i:aL) (hi:i.Fit):br prog Nb [x,A_ r,.agg i.cells] =
  if dV r then if i.may r.toNat then some (.tup [.own true 1 (am (b++kX i)),A_ 0]) else some (.tup [.nl,A_ 8]) else some (.tup [.nl,A_ 2]):=by
 have hc:=xE r i hi;simp only[aL.cells]at hc;have hxx:inB x b:=by
  rcases hx with rfl | ⟨rfl,rfl⟩
  .exact .inr (.inl rfl)
  .exact .inr (.inr ⟨rfl,rfl⟩)
 rw[aJ alO amD rfl];by_cases hr:dV r
 .rw[ac hr]at hc⊢;by_cases hm:i.may r.toNat
  .rw[ac hm]at hc⊢;have hm11:i.may 11:=gh o_ hm;obtain⟨m1,m2,m3,m4,m5⟩:=hm;have hmb:=Iu (r:=r.toNat) (s:=decide (i.seq=2)) o_;have q1:=xH (RG i) (N:=2) hxx o_ 0 1 k_ k_ 0 1 rfl rfl;have q2:=xH (RG i) (N:=2) (jJ (b:=b++ar 0 1)) g_ i.seq 2 k_ o_ i.seq 2 rfl rfl;have q3:=xH (RG i) (N:=2) (jJ (b:=b++ar 0 1++ar i.seq 2)) g_ i.shape 1 k_ o_ i.shape 1 rfl rfl;by_cases hs:i.seq=2
   .rw[decide_eq_true hs]at m4;have hmb:=(OK _ (fp (r:=r.toNat) (s:=true) o_)).2;simp only[]at hmb;have q4:=xH (RG i) (N:=2) (jJ (b:=b++ar 0 1++ar i.seq 2++ar i.shape 1)) g_ i.max.toNat 4 k_ o_ i.max 4 o_ rfl;have q5:=ajl i hi hm11 hs 2 7 0 (b++ar 0 1++ar i.seq 2++ar i.shape 1++ar i.max.toNat 4) o_ g_;have c0:((0:Nat):Int)+1=1:=rfl;rw[c0]at q5;have e:b++ar 0 1++ar i.seq 2++ar i.shape 1++ar i.max.toNat 4++Ij i.groups 7 0=b++kX i:=by simp only[kX,ac hs,aA]
    rw[e]at q5;simp only[hpP,aL.cells]at q1 q2 q3 q4 q5;generalize b++ar 0 1=B1 at *;generalize B1++ar i.seq 2=B2 at *;generalize B2++ar i.shape 1=B3 at *;generalize B3++ar i.max.toNat 4=B4 at *;generalize kX i=IB at *;rcases hx with rfl | ⟨rfl,rfl⟩
    all_goals
     simp (maxSteps:=300000) (disch:=omega) [hc,↓ac,↓aa,q1,q2,q3,q4,q5]
   .have q4:=xH (RG i) (N:=2) (jJ (b:=b++ar 0 1++ar i.seq 2++ar i.shape 1)) g_ i.max.toNat 6 k_ o_ i.max 6 o_ rfl;have q5:=xH (RG i) (N:=2) (jJ (b:=b++ar 0 1++ar i.seq 2++ar i.shape 1++ar i.max.toNat 6)) g_ 0 1 k_ k_ 0 1 rfl rfl;have e:b++ar 0 1++ar i.seq 2++ar i.shape 1++ar i.max.toNat 6++ar 0 1=b++kX i:=by simp only[kX,aa hs,aA]
    rw[e]at q5;simp only[hpP,aL.cells]at q1 q2 q3 q4 q5;generalize b++ar 0 1=B1 at *;generalize B1++ar i.seq 2=B2 at *;generalize B2++ar i.shape 1=B3 at *;generalize B3++ar i.max.toNat 6=B4 at *;generalize kX i=IB at *;rcases hx with rfl | ⟨rfl,rfl⟩
    all_goals
     simp (maxSteps:=300000) (disch:=omega) [hc,↓ac,↓aa,q1,q2,q3,q4,q5]
  .rw[aa hm]at hc⊢;rcases hx with rfl | ⟨rfl,rfl⟩
   all_goals simp (disch:=omega) [hc,↓ac,↓aa]
 .rw[aa hr]at hc⊢;rcases hx with rfl | ⟨rfl,rfl⟩
  all_goals simp (disch:=omega) [hc,↓ac,↓aa]
def xz {α β γ:Type}{p:α->Nat->Prop}{q:β->Nat->Prop}{x:R β}{f:β->Nat->R α}{F:α->Nat->γ}{G:Nat->γ}(h:∀ v n,x=.ok v n->q v n):rK p (x.bind f) F G=rK q x (fun v n=>rK p (f v n) F G) G:=by
 cases x with
 | ok v n=>rw[ay,eI (h v n rfl)]
 | er e=>rfl
def H3 {α γ:Type}{p:α->Nat->Prop}{b:C_}{a s:Int}{f:Nat->Nat->R α}{F:α->Nat->γ}{G:Nat->γ}:rK p ((bc b a s).bind f) F G=rK (pG b s) (bc b a s) (fun v n=>rK p (f v n) F G) G:=xz fun _ _ h=>ed h
structure aU where
 book:Int
 len:Int
abbrev P_:=List aU
abbrev H_:=List (P_)
abbrev aU.cells (s:aU):W_:=[.int .i64 s.book,.int .i64 s.len]
def gI (l:P_):E_:=l.map aU.cells
@[simp] theorem arD {l:P_}:(gI l).length=l.length:=by simp[gI]
@[simp] def aBL {l:P_}{s:aU}:gI (l++[s])=gI l++[s.cells]:=by simp[gI]
def yE (b:C_) (sz aW left:Nat):Nat->Nat->Nat->R Nat
 | 0,_,_=>.er 7
 | f+1,a,acc=>(bc b a sz).bind fun n a=>if left<acc+n then .er 7 else if n=aW then yE b sz aW left f a (acc+n) else .ok (acc+n) a
abbrev pL (b:C_) (left n a:Nat):Prop:=n<=left∧a<=b.length
def agh {b:C_}{sz aW left:Nat}:∀ {f a acc n m:Nat},yE b sz aW left f a acc=.ok n m->pL b left n m
 | 0,_,_,_,_,h=>absurd h (by simp[yE])
 | f+1,a,acc,n,m,h=>by
  rw[yE]at h
  cases h1:bc b a sz with
  | er e=>rw[h1]at h;exact absurd h (by simp)
  | ok v k =>
   rw[h1,ay]at h;by_cases h2:left<acc+v
   .rw[ac h2]at h;exact absurd h (by simp)
   .rw[aa h2]at h;by_cases h3:v=aW
    .rw[ac h3]at h;exact agh h
    .rw[aa h3]at h;injection h with e1 e2
     subst e1 e2;exact⟨o_,(ed h1).2⟩
def ar8 {α γ:Type}{p:α->Nat->Prop}{b:C_}{sz aW left f a acc:Nat}{g:Nat->Nat->R α}{F:α->Nat->γ}{G:Nat->γ}:rK p ((yE b sz aW left f a acc).bind g) F G=rK (pL b left) (yE b sz aW left f a acc) (fun v n=>rK p (g v n) F G) G:=xz fun _ _ h=>agh h
def awh {γ:Type}{b:C_}{sz aW left f a acc:Nat}{F:Nat->Nat->γ}{G:Nat->γ}:rK (pL b left) (yE b sz aW left (f+1) a acc) F G=rK (pG b sz) (bc b a sz) (fun n a=>if left<acc+n then G 7 else if n=aW then rK (pL b left) (yE b sz aW left f a (acc+n)) F G else F (acc+n) a) G:=by
 rw[yE,H3];refine jS (fun _ _=>rfl) (fun n a hp=>?_) fun _=>rfl
 by_cases h2:left<acc+n
 .rw[ac h2,ac h2,iK]
 .rw[aa h2,aa h2];by_cases h3:n=aW
  .rw[ac h3,ac h3]
  .rw[aa h3,aa h3,eI ⟨o_,hp.2⟩]
abbrev er3 (e:Nat) (h:HS):K_:=some (.ret,⟨[(6,.nl),(7,A_ 0),(8,A_ (e+1))],h⟩)
def aiC (b:C_) (sz aW left:Nat) (hb:b.length<=1000000000) (hsz:sz<=5) (hm:aW=2 ^ sz-1) (hs1:1<=sz) (hl:left<=1000) (x6 x11:AV) (bk:Int) (X:Obj) (y40 y41:D) (M N:Nat) (hM:1<=M):∀ (f a acc:Nat),left<acc+f->acc<=left->a<=b.length->
  (Dn prog).code (.loop zO) ⟨[(0,.d (.lst (am b))),(5,.ptr 0 0),(6,x6),(7,A_ a),(9,A_ sz),(10,A_ aW),(11,x11),(12,A_ left),(13,.ptr M 0),(14,A_ aW),(40,.d y40),(41,.d y41)],⟨[(0,X),(M,.cells [A_ bk,A_ acc])],N⟩⟩ =
  rK (pL b left) (yE b sz aW left f a acc) (fun n a=>some (.exit 4,⟨[(0,.d (.lst (am b))),(5,.ptr 0 0),(6,x6),(7,A_ a),(9,A_ sz),(10,A_ aW),(11,x11),(12,A_ left),(13,.ptr M 0),(40,.d y40),(41,.d y41)],⟨[(0,X),(M,.cells [A_ bk,A_ n])],N⟩⟩)) (fun e=>er3 e ⟨[(0,X)],N⟩):=by
 intro f
 induction f with
 | zero=>intro a acc h1 h2;omega
 | succ f ih =>
  intro a acc h1 h2 ha;rw[ah Pq,awh];have hp2:2 ^ sz<=2 ^ 5:=aw o_ hsz;have hp3:2 ^ 1<=2 ^ sz:=aw o_ hs1;have hM0:M≠0:=o_;simp (maxSteps:=300000) (disch:=first | omega | assumption) [↓ac,↓aa,il,hM0,pG];refine jS (fun _ _=>rfl) (fun n a' hp=>?_) fun _=>rfl
  have hp4:n<2 ^ sz:=hp.1;by_cases h3:left<acc+n
  .rw[ac h3,ac o_];rfl
  .rw[aa h3,aa o_];by_cases h4:n=aW
   .subst h4;rw[ac rfl,<-ih a' (acc+n) o_ o_ hp.2];simp
   .rw[aa h4,ah Pq];simp (maxSteps:=300000) (disch:=first | omega | assumption) [↓ac,↓aa]
def aL.fsz (i:aL):Nat:=if i.seq=2 then 3 else 5
def YU (i:aL):br prog QT [.agg i.cells]=some (.tup [A_ i.fsz,A_ ((2 ^ i.fsz-1:Nat):Int)]):=by
 rw[aJ aeF afK rfl];unfold aL.fsz;by_cases h:i.seq=2
 .simp (disch:=first | omega | assumption) [↓ac,h]
 .simp (disch:=first | omega | assumption) [↓ac,↓aa]
abbrev MM (k:Int):Prop:=0<=k∧(k<=11∨k=13)
abbrev aU.right (s:aU) (left:Int):Prop:=(1<=s.len∧s.len<=left)∧MM s.book
def Xg (s:aU) (left:Int):br prog RE [.agg [A_ s.book,A_ s.len],A_ left]=if s.right left then some (B_ true) else some (B_ false):=by
 rw[aJ afQ ag4 rfl];by_cases h1:1<=s.len<;>by_cases h2:s.len<=left<;>by_cases h3:0<=s.book<;>by_cases h4:s.book<=11<;>by_cases h5:s.book=13<;>
  simp (disch:=first | omega | assumption) [↓ac,↓aa]
def Jr (b:C_) (sz left:Nat) (a:Nat):R aU :=
 (bc b a 4).bind fun k a=>if k=12∨13<k then .er 7 else (yE b sz (2 ^ sz-1) left (left+1) a 0).bind fun n a=>if n=0 then .er 7 else .ok ⟨k,n⟩ a
abbrev pS (b:C_) (left:Nat) (s:aU) (a:Nat):Prop:=(s.right left)∧a<=b.length
def auX {γ:Type}{b:C_}{sz left a:Nat}{F:aU->Nat->γ}{G:Nat->γ}:rK (pS b left) (Jr b sz left a) F G=rK (pG b 4) (bc b a 4) (fun k a=>if k=12∨13<k then G 7 else rK (pL b left) (yE b sz (2 ^ sz-1) left (left+1) a 0) (fun n a=>if n=0 then G 7 else F ⟨k,n⟩ a) G) G:=by
 rw[Jr,H3];refine jS (fun _ _=>rfl) (fun k a hp=>?_) fun _=>rfl
 by_cases h:k=12∨13<k
 .simp_all
 .rw[aa h,aa h,ar8];refine jS (fun _ _=>rfl) (fun n a hq=>?_) fun _=>rfl
  grind [iK,eI]
def ahe {b:C_}{sz left a m:Nat}{s:aU}(h:Jr b sz left a=.ok s m):pS b left s m:=by
 rw[Jr]at h
 cases h1:bc b a 4 with
 | er e=>simp_all
 | ok k a1 =>
  by_cases hk:k=12∨13<k
  .simp_all
  .cases h2:yE b sz (2 ^ sz-1) left (left+1) a1 0 with
   | er e=>simp_all
   | ok n a2 =>
    have hq:=agh h2
    grind [ay]
def kp (b:C_) (sz:Nat):Nat->Nat->Nat->R P_
 | 0,_,a=>.ok [] a
 | f+1,left,a=>if left=0 then .ok [] a else (Jr b sz left a).bind fun s a=>(kp b sz f (left-s.len.toNat) a).bind fun l a=>.ok (s::l) a
def fitsS:Int->P_->Prop
 | left,[]=>left=0
 | left,s::l=>s.right left∧fitsS (left-s.len) l
instance:∀ (left:Int) (l:P_),Decidable (fitsS left l)
 | left,[]=>by unfold fitsS;infer_instance
 | left,s::l=>by
  unfold fitsS;have:Decidable (fitsS (left-s.len) l):=instDecidableFitsS _ l
  infer_instance
abbrev YD (b:C_) (left:Nat) (l:P_) (a:Nat):Prop:=fitsS left l∧a<=b.length∧l.length<=left
def Jb {b:C_}{sz:Nat}:∀ {f left a m:Nat}{l:P_},left<=f->a<=b.length->kp b sz f left a=.ok l m->YD b left l m
 | 0,left,a,m,l,h,ha,e=>by
  grind [kp,fitsS]
 | f+1,left,a,m,l,h,ha,e=>by
  simp only[kp]at e;by_cases h0:left=0
  .grind [fitsS]
  .rw[aa h0]at e
   cases h1:Jr b sz left a with
   | er e2=>simp_all
   | ok s a1 =>
    have hs:=ahe h1;rw[h1,ay]at e
    cases h2:kp b sz f (left-s.len.toNat) a1 with
    | er e2=>simp_all
    | ok l2 a2 =>
     have ih:=Jb o_ hs.2 h2;rw[h2,ay]at e;injection e with e1 e2
     subst e1 e2;refine⟨⟨hs.1,?_⟩,ih.2.1,?_⟩
     all_goals grind
def aqb {γ:Type}{b:C_}{sz f left a:Nat}{F:P_->Nat->γ}{G:Nat->γ}(hf:left<=f+1) (h0:left≠0):rK (YD b left) (kp b sz (f+1) left a) F G =
  rK (pS b left) (Jr b sz left a) (fun s a=>rK (YD b (left-s.len.toNat)) (kp b sz f (left-s.len.toNat) a) (fun l a=>F (s::l) a) G) G:=by
 rw[kp,aa h0,xz (q:=pS b left) fun _ _ h=>ahe h];refine jS (fun _ _=>rfl) (fun s a hp=>?_) fun _=>rfl
 rw[xz (q:=YD b (left-s.len.toNat)) fun _ _ h=>Jb o_ hp.2 h];refine jS (fun _ _=>rfl) (fun l a hq=>?_) fun _=>rfl
 rw[eI];refine⟨⟨hp.1,?_⟩,hq.2.1,?_⟩
 all_goals grind
def Yu {γ:Type}{b:C_}{sz f a:Nat}{F:P_->Nat->γ}{G:Nat->γ}(ha:a<=b.length):rK (YD b 0) (kp b sz f 0 a) F G=F [] a:=by
 cases f<;>grind [kp,eI,fitsS]
def YJ {α γ:Type}{p:α->Nat->Prop}{r:R α}{f f2:α->Nat->γ}{g g2:Nat->γ}(hp:∀ v n,r=.ok v n->p v n) (h:∀ v n,r=.ok v n->p v n->f v n=f2 v n) (k:∀ e,r=.er e->g e=g2 e):rK p r f g=rK p r f2 g2:=by
 cases r<;>simp_all [eI]
def ajE (b:C_) (sz:Nat) (hb:b.length<=1000000000) (hsz:sz<=5) (hs1:1<=sz) (x6:AV) (X:Obj) (y40 y41:D) (left a N:Nat) (G:P_) (h0:left≠0) (h2:left<=1000) (h3:G.length+left<=10000) (h4:1<=N) (ha:a<=b.length) :
  (Dn prog).code uD ⟨[(0,.d (.lst (am b))),(5,.ptr 0 0),(6,x6),(7,A_ a),(9,A_ sz),(10,A_ ((2 ^ sz-1:Nat):Int)),(11,aD 2 (gI G)),(12,A_ left),(40,.d y40),(41,.d y41)],⟨[(0,X)],N⟩⟩ =
  rK (pS b left) (Jr b sz left a) (fun s a=>some (.normal,⟨[(0,.d (.lst (am b))),(5,.ptr 0 0),(6,x6),(7,A_ a),(9,A_ sz),(10,A_ ((2 ^ sz-1:Nat):Int)),(11,aD 2 (gI (G++[s]))),(12,A_ ((left-s.len.toNat:Nat):Int)),(40,.d y40),(41,.d y41)],⟨[(0,X)],N+1⟩⟩)) (fun e=>er3 e ⟨[(0,X)],N+1⟩):=by
 rw[auX,Gm];have hp3:2 ^ 1<=2 ^ sz:=aw o_ hs1;have hN0:N≠0:=o_;have c0:((0:Nat):Int)=0:=rfl;have h5:=fun bk M N hM a h1 h2' ha=>aiC b sz (2 ^ sz-1) left hb hsz rfl hs1 h2 x6 (aD 2 (gI G)) bk X y40 y41 M N hM (left+1) a 0 h1 h2' ha
 simp only[c0]at h5;have h6:=fun k n left=>Xg ⟨k,n⟩ left
 simp (maxSteps:=300000) (disch:=first | omega | assumption) [↓ac,↓aa,il];refine jS (fun _ _=>rfl) (fun k a1 hp=>?_) fun _=>rfl
 have hp1:k<16:=hp.1;by_cases hk:k=12∨13<k
 .grind
 .rw[aa hk,aa o_,h5 k N (N+1) h4 a1 o_ o_ hp.2];simp only[ayW,awS];refine jS (fun _ _=>rfl) (fun n a2 hq=>?_) fun _=>rfl
  by_cases hn:n=0
  .have hr:¬ aU.right ⟨k,n⟩ left:=u_;simp (disch:=first | omega | assumption) [↓ac,↓aa,h6]
  .have hr:aU.right ⟨k,n⟩ left:=d_;have e1:((left-n:Nat):Int)=(left:Int)-n:=o_;have e2:(gI G).length<1000000000:=by grind [arD]
   simp (disch:=first | omega | assumption) [↓ac,↓aa,h6,e1,nM]
def S6 (b:C_) (sz:Nat):Nat->Nat->Nat->Nat
 | 0,_,_=>0
 | f+1,left,a=>if left=0 then 0 else match Jr b sz left a with
  | .ok s a=>S6 b sz f (left-s.len.toNat) a+1
  | .er _=>1
def aiK (b:C_) (sz:Nat) (hb:b.length<=1000000000) (hsz:sz<=5) (hs1:1<=sz) (x6:AV) (X:Obj) (y40 y41:D):∀ (f left a N:Nat) (G:P_),left<=f->left<=1000->G.length+left<=10000->1<=N->a<=b.length->
  (Dn prog).code (.loop uD) ⟨[(0,.d (.lst (am b))),(5,.ptr 0 0),(6,x6),(7,A_ a),(9,A_ sz),(10,A_ ((2 ^ sz-1:Nat):Int)),(11,aD 2 (gI G)),(12,A_ left),(40,.d y40),(41,.d y41)],⟨[(0,X)],N⟩⟩ =
  rK (YD b left) (kp b sz f left a) (fun l a=>some (.exit 2,⟨[(0,.d (.lst (am b))),(5,.ptr 0 0),(6,x6),(7,A_ a),(9,A_ sz),(10,A_ ((2 ^ sz-1:Nat):Int)),(11,aD 2 (gI (G++l))),(40,.d y40),(41,.d y41)],⟨[(0,X)],N+l.length⟩⟩)) (fun e=>er3 e ⟨[(0,X)],N+S6 b sz f left a⟩):=by
 intro f
 induction f with
 | zero =>
  intro left a N G h1 h2 h3 h4 ha;have:left=0:=o_;subst this;rw[Yu ha,ah Gm];simp (disch:=first | omega | assumption) [↓aa]
 | succ f ih =>
  intro left a N G h1 h2 h3 h4 ha;by_cases h0:left=0
  .subst h0;rw[Yu ha,ah Gm];simp (disch:=first | omega | assumption) [↓aa]
  .rw[aqb h1 h0,ah rfl,ajE b sz hb hsz hs1 x6 X y40 y41 left a N G h0 h2 h3 h4 ha,aj3];refine YJ (fun _ _ h=>ahe h) (fun s a1 e1 hp=>?_) (fun e e1=>?_)
   .rw[Mx,ih (left-s.len.toNat) a1 (N+1) (G++[s]) o_ o_ d_ o_ hp.2]
    grind [S6]
   simp_all [S6]
def tN (b:C_) (sz aW:Nat):Nat->Nat->R H_
 | 0,a=>.ok [] a
 | k+1,a=>(kp b sz aW aW a).bind fun l a=>(tN b sz aW k a).bind fun g a=>.ok (l::g) a
abbrev Ui (b:C_) (max k:Nat) (g:H_) (a:Nat):Prop:=(∀ l∈g,fitsS max l∧l.length<=max)∧a<=b.length∧g.length=k
def TD {b:C_}{sz max:Nat}:∀ {k a m:Nat}{g:H_},a<=b.length->tN b sz max k a=.ok g m->Ui b max k g m
 | 0,a,m,g,ha,h=>by
  grind [tN]
 | k+1,a,m,g,ha,h=>by
  simp only[tN]at h
  cases h1:kp b sz max max a with
  | er e=>simp_all
  | ok l a1 =>
   have hp:=Jb (ai _) ha h1
   cases h2:tN b sz max k a1 with
   | er e=>simp_all
   | ok g2 a2 =>
    have hq:=TD hp.2.1 h2
    grind [ay]
def arJ {γ:Type}{b:C_}{sz max k a:Nat}{F:H_->Nat->γ}{G:Nat->γ}(ha:a<=b.length):rK (Ui b max (k+1)) (tN b sz max (k+1) a) F G =
  rK (YD b max) (kp b sz max max a) (fun l a=>rK (Ui b max k) (tN b sz max k a) (fun g a=>F (l::g) a) G) G:=by
 rw[tN,xz (q:=YD b max) fun _ _ h=>Jb (ai _) ha h];refine jS (fun _ _=>rfl) (fun l a hp=>?_) fun _=>rfl
 rw[xz (q:=Ui b max k) fun _ _ h=>TD hp.2.1 h];refine jS (fun _ _=>rfl) (fun g a hq=>?_) fun _=>rfl
 grind [eI]
def apg {γ:Type}{b:C_}{sz max a:Nat}{F:H_->Nat->γ}{G:Nat->γ}(ha:a<=b.length):rK (Ui b max 0) (tN b sz max 0 a) F G=F [] a:=by
 grind [tN,eI]
def bD (g:H_):E_:=g.map fun l=>[.lst (gI l)]
@[simp] def ap7 {g:H_}:(bD g).length=g.length:=by simp[bD]
@[simp] def aAm {g:H_}{l:P_}:bD (g++[l])=bD g++[[.lst (gI l)]]:=by simp[bD]
def alF:H_->Nat
 | []=>0
 | l::g=>l.length+alF g
def am9 (b:C_) (sz max:Nat):Nat->Nat->Nat
 | 0,_=>0
 | k+1,a=>match kp b sz max max a with
  | .ok l a=>l.length+am9 b sz max k a
  | .er _=>S6 b sz max max a
def aiS (b:C_) (i:aL) (sz mx:Nat) (hmx:i.max=mx) (hb:b.length<=1000000000) (hsz:sz<=5) (hs1:1<=sz) (h2:mx<=1000) (a N j len:Nat) (Gs:H_) (h3:Gs.length<=10000) (h4:1<=N) (ha:a<=b.length) (hj:j<len) (hlen:len<=10000) :
  (Dn prog).code uN ⟨[(0,.d (.lst (am b))),(5,.ptr 0 0),(6,aD 1 (bD Gs)),(7,A_ a),(9,A_ sz),(10,A_ ((2 ^ sz-1:Nat):Int)),(40,A_ len),(41,A_ j)],⟨[(0,.cells i.cells)],N⟩⟩ =
  rK (YD b mx) (kp b sz mx mx a) (fun l a=>some (.normal,⟨[(0,.d (.lst (am b))),(5,.ptr 0 0),(6,aD 1 (bD (Gs++[l]))),(7,A_ a),(9,A_ sz),(10,A_ ((2 ^ sz-1:Nat):Int)),(40,A_ len),(41,A_ ((j+1:Nat):Int))],⟨[(0,.cells i.cells)],N+l.length⟩⟩)) (fun e=>er3 e ⟨[(0,.cells i.cells)],N+S6 b sz mx mx a⟩):=by
 rw[PT];have h5:=fun y40 y41=>aiK b sz hb hsz hs1 (aD 1 (bD Gs)) (.cells i.cells) y40 y41 mx mx a N [] (ai _) h2 g_ h4 ha
 simp only[gI,List.map_nil,qB,aO,aL.cells,hmx]at h5;have e2:(bD Gs).length<1000000000:=by rw[ap7];omega
 simp (maxSteps:=300000) (disch:=first | omega | assumption) [↓ac,↓aa,h5,hmx];refine jS (fun _ _=>rfl) (fun l a2 hq=>?_) fun e=>rfl
 simp[nM,gI]
def ajF (b:C_) (i:aL) (sz mx:Nat) (hmx:i.max=mx) (hb:b.length<=1000000000) (hsz:sz<=5) (hs1:1<=sz) (h2:mx<=1000) (len:Nat) (hlen:len<=1000):∀ (k a N j:Nat) (Gs:H_),j+k=len->Gs.length+k<=10000->1<=N->a<=b.length->
  (Dn prog).code (.loop uN) ⟨[(0,.d (.lst (am b))),(5,.ptr 0 0),(6,aD 1 (bD Gs)),(7,A_ a),(9,A_ sz),(10,A_ ((2 ^ sz-1:Nat):Int)),(40,A_ len),(41,A_ j)],⟨[(0,.cells i.cells)],N⟩⟩ =
  rK (Ui b mx k) (tN b sz mx k a) (fun g a=>some (.exit 0,⟨[(6,aD 1 (bD (Gs++g))),(7,A_ a)],⟨[(0,.cells i.cells)],N+alF g⟩⟩)) (fun e=>er3 e ⟨[(0,.cells i.cells)],N+am9 b sz mx k a⟩):=by
 intro k
 induction k with
 | zero =>
  intro a N j Gs h1 h3 h4 ha;rw[apg ha,ah PT];simp (maxSteps:=300000) (disch:=first | omega | assumption) [↓ac,↓aa,alF]
 | succ k ih =>
  intro a N j Gs h1 h3 h4 ha;rw[arJ ha,ah rfl,aiS b i sz mx hmx hb hsz hs1 h2 a N j len Gs o_ h4 ha o_ o_,aj3];refine YJ (fun _ _ h=>Jb (ai _) ha h) (fun l a1 e1 hp=>?_) (fun e e1=>?_)
  .rw[Mx,ih a1 (N+l.length) (j+1) (Gs++[l]) o_ g_ o_ hp.2.1];refine YJ (fun _ _ h=>TD hp.2.1 h) (fun g a2 e2 hq=>?_) (fun e e2=>?_)
   .simp[alF,dy]
   .simp[am9,e1,dy]
  .simp[am9,e1]
def ar6 {m:Nat}{xs:E_}(h:∀ x∈xs,∃ l,x=[D.lst l]) (hf:kZ (aD m xs)=true):pR (aD m xs)=aD m xs:=by
 cases xs with
 | nil=>rfl
 | cons x r =>
  obtain⟨l,rfl⟩:=h x s_;simp[aD,kZ,ji,lR]at hf
def av3 {g:H_}:∀ x∈bD g,∃ l,x=[D.lst l]:=by
 intro x hx;simp only[bD,dj]at hx;obtain⟨l,_,rfl⟩:=hx;exact⟨_,rfl⟩
def uV (b:C_) (i:aL) (a:Int):R H_ :=
 if 0<=a∧a<=b.length then tN b i.fsz i.max.toNat i.groups.length a.toNat else .er 1
def aoj {b:C_}{a:Int}:bc b a 0=if 0<=a∧a<=b.length then .ok 0 a.toNat else .er 1:=by
 unfold bc;by_cases h:0<=a∧a<=b.length
 .rw[ac h,ac o_,aa o_,ac (by simp[bin])];simp[val]
 .rw[aa h,aa o_]
def ar4 (b:C_) (a:Int) (i:aL) (hb:b.length<=1000000000) (ha:i64 a) (hi:i.Fit) (hm:i.may 11):br prog YF [.d (.lst (am b)),A_ a,.agg i.cells] =
  rK (Ui b i.max.toNat i.groups.length) (uV b i a) (fun g n=>some (.tup [aD 1 (bD g),A_ n,A_ 0])) (fun e=>some (.tup [.nl,A_ 0,A_ (e+1)])):=by
 have hw:=oi i hi;rw[ac hm]at hw;have hf:=YU i;have hmx:i.max=i.max.toNat:=by have:=hm.2.2.1;omega
 have hmb:i.max.toNat<=1000:=by have:=hm.2.2.2.1;have:=Iu (r:=11) (s:=decide (i.seq=2)) o_;omega
 have hsz:1<=i.fsz∧i.fsz<=5:=by unfold aL.fsz;split<;>omega
 have hll:=hi.len;rw[aJ anh alm rfl];have hl:=ajF b i i.fsz i.max.toNat hmx hb hsz.2 hsz.1 hmb i.groups.length hi.len;simp only[aL.cells]at hw hf;unfold uV;by_cases h0:0<=a∧a<=b.length
 .obtain⟨A,rfl⟩:=aB h0.1;have h1:=hl i.groups.length A 1 0 [] o_ g_ o_ o_;have c0:((0:Nat):Int)=0:=rfl;simp only[aL.cells,bD,List.map_nil,qB,aO,c0]at h1;rw[ac h0];simp (maxSteps:=300000) (disch:=first | omega | assumption) [↓ac,↓aa,hw,hf,il,aoj,h0];rw[eI ⟨s_,o_⟩];simp (maxSteps:=300000) (disch:=first | omega | assumption) [h1];refine jS (fun _ _=>rfl) (fun g n hp=>?_) fun _=>rfl
  have hb:=ar6 (m:=1) (av3 (g:=g));simp only[bD]at hb⊢;by_cases hf:kZ (aD 1 (List.map (fun l=>[D.lst (gI l)]) g))=true
  .rw[ac hf,hb hf]
  .rw[aa hf]
 .rw[aa h0];simp (maxSteps:=300000) (disch:=first | omega | assumption) [↓ac,↓aa,hw,hf,il,aoj,h0]
abbrev Z2:Obj:=.cells [A_ 0,A_ 0]
abbrev oH:=@List.length_set
structure Hp (hp:C_->ak) (D:Nat):Prop where
 get:∀ xs,get (hp xs) D=some (.arr 1 (cR xs))
 put:∀ xs ys,put (hp xs) D (.arr 1 (cR ys))=hp ys
def swp (xs:C_) (i j:Nat):C_:=(xs.set i (nth xs j)).set j (nth xs i)
@[simp] def xj {xs:C_}{i j:Nat}:(swp xs i j).length=xs.length:=by simp[swp]
def swpR (xs:C_) (a b:Nat):Nat->Nat->C_
 | 0,_=>xs
 | k+1,i=>swpR (swp xs (a+i) (b+i)) a b k (i+1)
@[simp] def D9 {a b:Nat}:∀ {k i:Nat}{xs:C_},(swpR xs a b k i).length=xs.length
 | 0,_,_=>rfl
 | k+1,i,xs=>by rw[swpR,D9,xj]
section
variable {hp:C_->ak}{D:Nat}
def afm (H:Hp hp D) (len:Nat) (hlen:len<=1000000000) (a b n N:Nat) (ha:a+n<=len) (hb:b+n<=len):∀ (k i:Nat) (xs:C_),i+k=n->xs.length=len->
  (Dn prog).code (.loop f9) ⟨[(0,.sl D 0 len),(1,A_ a),(2,A_ b),(3,A_ n),(10,A_ i)],⟨hp xs,N⟩⟩ =
  some (.exit 0,⟨[],⟨hp (swpR xs a b k i),N⟩⟩):=by
 intro k
 induction k with
 | zero =>
  intro i xs hi hx;rw[ah ou];simp (maxSteps:=300000) (disch:=omega) [↓ac,↓aa,swpR]
 | succ k ih =>
  intro i xs hi hx;rw[ah ou];have l1:=oH (as:=xs) (i:=a+i) (a:=nth xs (b+i));simp (maxSteps:=300000) (disch:=omega) [↓ac,↓aa,H.get,H.put];have h:=ih (i+1) (swp xs (a+i) (b+i)) o_ (by simpa using hx);have c1:((i+1:Nat):Int)=(i:Int)+1:=rfl;rw[c1]at h;rw[swpR,<-h];rfl
def Rl (H:Hp hp D) (F:AV) (len:Nat) (hlen:len<=1000000000) (a b n N:Nat) (ha:a+n<=len) (hb:b+n<=len) (xs:C_) (hx:xs.length=len) :
  (Dn prog).call qC [.sl D 0 len,A_ a,A_ b,A_ n,F] ⟨hp xs,N⟩=some (.tup [],⟨hp (swpR xs a b n 0),N⟩):=by
 rw[ba C1 CY rfl];have h:=afm H len hlen a b n N ha hb n 0 xs o_ hx;have c0:((0:Nat):Int)=0:=rfl;rw[c0]at h;simp (maxSteps:=300000) (disch:=omega) [↓ac,↓aa,h]
def rot (m:Nat):Nat->C_->Nat->Nat->C_
 | 0,xs,i,j=>xs
 | f+1,xs,i,j=>if i=j then swpR xs (m-i) m i 0 else if j<i then rot m f (swpR xs (m-i) m j 0) (i-j) j else rot m f (swpR xs (m-i) (m+j-i) i 0) i (j-i)
theorem HA {m:Nat}:∀ {f:Nat}{xs:C_}{i j:Nat},(rot m f xs i j).length=xs.length
 | 0,_,_,_=>rfl
 | f+1,xs,i,j=>by
  rw[rot];split
  .exact D9
  .split
   .rw[HA,D9]
   .rw[HA,D9]
def anF (H:Hp hp D) (F:AV) (hF:share F=F) (hG:firm F=F) (len:Nat) (hlen:len<=1000000000) (m N:Nat):∀ (f i j:Nat) (xs:C_),i+j<=f->1<=i->1<=j->i<=m->m+j<=len->xs.length=len->
  ∃ (k:Nat) (ys:C_),(Dn prog).code (.loop gU) ⟨[(0,.sl D 0 len),(2,A_ m),(4,F),(10,A_ i),(11,A_ j)],⟨hp xs,N⟩⟩ =
   some (.exit 0,⟨[(0,.sl D 0 len),(2,A_ m),(4,F),(10,A_ k)],⟨hp ys,N⟩⟩)∧k<=m∧m+k<=len∧ys.length=len∧swpR ys (m-k) m k 0=rot m f xs i j:=by
 intro f
 induction f with
 | zero=>intro i j xs h h1 h2;omega
 | succ f ih =>
  intro i j xs h h1 h2 h3 h4 hx;rw[ah CZ];by_cases e:i=j
  .subst e;refine⟨i,xs,?_,h3,h4,hx,?_⟩
   .simp (maxSteps:=300000) (disch:=omega) [↓ac,↓aa]
   .rw[rot,ac rfl]
  .by_cases e2:j<i
   .obtain⟨k,ys,g1,g2,g3,g4,g5⟩:=ih (i-j) j (swpR xs (m-i) m j 0) o_ o_ h2 o_ h4 (by simpa using hx);refine⟨k,ys,?_,g2,g3,g4,?_⟩
    .have hs:=Rl H F len hlen (m-i) m j N o_ o_ xs hx;have c1:((m-i:Nat):Int)=(m:Int)-i:=o_;have c2:((i-j:Nat):Int)=(i:Int)-j:=o_;rw[c1]at hs;rw[c2]at g1;simp (maxSteps:=300000) (disch:=omega) [↓ac,↓aa,hs,hF,hG,g1]
    .rw[rot,aa e,ac e2,g5]
   .obtain⟨k,ys,g1,g2,g3,g4,g5⟩:=ih i (j-i) (swpR xs (m-i) (m+j-i) i 0) o_ h1 o_ h3 o_ (by simpa using hx);refine⟨k,ys,?_,g2,g3,g4,?_⟩
    .have hs:=Rl H F len hlen (m-i) (m+j-i) i N o_ o_ xs hx;have c1:((m-i:Nat):Int)=(m:Int)-i:=o_;have c2:((j-i:Nat):Int)=(j:Int)-i:=o_;have c3:((m+j-i:Nat):Int)=(m:Int)+j-i:=o_;rw[c1,c3]at hs;rw[c2]at g1;simp (maxSteps:=300000) (disch:=omega) [↓ac,↓aa,hs,hF,hG,g1]
    .rw[rot,aa e,aa e2,g5]
def ao0 (H:Hp hp D) (F:AV) (hF:share F=F) (hG:firm F=F) (len:Nat) (hlen:len<=1000000000) (a m b N:Nat) (h1:a<m) (h2:m<b) (h3:b<=len) (xs:C_) (hx:xs.length=len) :
  (Dn prog).call uM [.sl D 0 len,A_ a,A_ m,A_ b,F] ⟨hp xs,N⟩=some (.tup [],⟨hp (rot m (b-a) xs (m-a) (b-m)),N⟩):=by
 obtain⟨k,ys,g1,g2,g3,g4,g5⟩:=anF H F hF hG len hlen m N (b-a) (m-a) (b-m) xs o_ o_ o_ o_ o_ hx;have hs:=Rl H F len hlen (m-k) m k N o_ o_ ys g4;have c1:((m-k:Nat):Int)=(m:Int)-k:=o_;have c2:((m-a:Nat):Int)=(m:Int)-a:=o_;have c3:((b-m:Nat):Int)=(b:Int)-m:=o_;rw[c1,g5]at hs;rw[c2,c3]at g1;rw[ba Gq Gf rfl];simp (maxSteps:=300000) (disch:=omega) [↓ac,↓aa,hs,hF,hG,g1]
end
structure Cm (hp:C_->ak) (L:Nat) (F:AV) (C:Nat->Nat->Int):Prop where
 sh:share F=F
 fi:firm F=F
 cl:∀ xs N x y,x<L->y<L->cf (Dn prog) F [A_ (x:Nat),A_ (y:Nat)] ⟨hp xs,N⟩=some (A_ (C x y),⟨hp xs,N⟩)
abbrev eK (L:Nat) (xs:C_):Prop:=∀ x∈xs,x<L
def eK.nth {L:Nat}{xs:C_}(u:eK L xs) {i:Nat}(h:i<xs.length):Vm.nth xs i<L:=u _ (jg h)
def eK.swp {L:Nat}{xs:C_}(u:eK L xs) {i j:Nat}(hi:i<xs.length) (hj:j<xs.length):eK L (swp xs i j):=by
 intro x hx;rcases gY hx with h | h
 .rcases gY h with h | h
  .exact u x h
  .exact h▸u.nth hj
 .exact h▸u.nth hi
def eK.swpR {L a b:Nat}:∀ {k i:Nat}{xs:C_},eK L xs->a+i+k<=xs.length->b+i+k<=xs.length->eK L (swpR xs a b k i)
 | 0,_,_,u,_,_=>u
 | k+1,i,xs,u,h1,h2=>by
  rw[Vm.swpR];exact eK.swpR (u.swp o_ o_) (by rw[xj];omega) (by rw[xj];omega)
def eK.rot {L m:Nat}:∀ {f i j:Nat}{xs:C_},eK L xs->i<=m->m+j<=xs.length->eK L (rot m f xs i j)
 | 0,_,_,_,u,_,_=>u
 | f+1,i,j,xs,u,h1,h2=>by
  rw[Vm.rot];split
  .exact u.swpR o_ (by omega)
  .split
   .exact(u.swpR o_ o_).rot o_ (by rw[D9];omega)
   .exact(u.swpR o_ o_).rot o_ (by rw[D9];omega)
def insJ (C:Nat->Nat->Int) (a:Nat):Nat->C_->C_
 | 0,xs=>xs
 | j+1,xs=>if a<=j∧C (nth xs (j+1)) (nth xs j)<0 then insJ C a j (swp xs (j+1) j) else xs
def insO (C:Nat->Nat->Int) (a:Nat):Nat->Nat->C_->C_
 | 0,_,xs=>xs
 | k+1,i,xs=>insO C a k (i+1) (insJ C a i xs)
section
variable {C:Nat->Nat->Int}{a:Nat}
def NW:∀ {j:Nat}{xs:C_},(insJ C a j xs).length=xs.length
 | 0,_=>rfl
 | j+1,xs=>by
  rw[insJ];split
  .rw[NW,xj]
  .rfl
def Vn:∀ {k i:Nat}{xs:C_},(insO C a k i xs).length=xs.length
 | 0,_,_=>rfl
 | k+1,i,xs=>by rw[insO,Vn,NW]
def eK.insJ {L:Nat}:∀ {j:Nat}{xs:C_},eK L xs->j<xs.length->eK L (insJ C a j xs)
 | 0,_,u,_=>u
 | j+1,xs,u,h=>by
  rw[Vm.insJ];split
  .exact(u.swp h o_).insJ (by rw[xj];omega)
  .exact u
def eK.insO {L:Nat}:∀ {k i:Nat}{xs:C_},eK L xs->i+k<=xs.length->eK L (insO C a k i xs)
 | 0,_,_,u,_=>u
 | k+1,i,xs,u,h=>by
  rw[Vm.insO];exact(u.insJ o_).insO (by rw[NW];omega)
end
section
variable {hp:C_->ak}{D L:Nat}{F:AV}{C:Nat->Nat->Int}
def aoJ (H:Hp hp D) (K:Cm hp L F C) (len:Nat) (hlen:len<=1000000000) (a b I N:Nat):∀ (j:Nat) (xs:C_),j<len->xs.length=len->eK L xs->
  (Dn prog).code (.loop fc) ⟨[(0,.sl D 0 len),(1,A_ a),(2,A_ b),(3,F),(8,A_ I),(9,A_ j)],⟨hp xs,N⟩⟩ =
  some (.exit 2,⟨[(0,.sl D 0 len),(1,A_ a),(2,A_ b),(3,F),(8,A_ I)],⟨hp (insJ C a j xs),N⟩⟩):=by
 intro j
 induction j with
 | zero =>
  intro xs hj hx u;rw[ah md];simp (maxSteps:=300000) (disch:=omega) [↓ac,↓aa,insJ,K.sh,K.fi]
 | succ j ih =>
  intro xs hj hx u;rw[ah md];have c1:((j+1:Nat):Int)=(j:Int)+1:=rfl;by_cases h1:a<=j
  .have hc:=K.cl xs N _ _ (u.nth (i:=j+1) o_) (u.nth (i:=j) o_);have l1:=oH (as:=xs) (i:=j+1) (a:=nth xs j);by_cases h2:C (nth xs (j+1)) (nth xs j)<0
   .have h:=ih (swp xs (j+1) j) o_ (by simpa using hx) (u.swp o_ o_);rw[insJ,ac ⟨h1,h2⟩,<-h];simp (maxSteps:=300000) (disch:=omega) [↓ac,↓aa,K.sh,K.fi,H.get,H.put,hc,c1];rfl
   .rw[insJ,aa (fun h=>h2 h.2)];simp (maxSteps:=300000) (disch:=omega) [↓ac,↓aa,K.sh,K.fi,H.get,H.put,hc,c1]
  .rw[insJ,aa (fun h=>h1 h.1)];simp (maxSteps:=300000) (disch:=omega) [↓ac,↓aa,K.sh,K.fi,c1]
def apb (H:Hp hp D) (K:Cm hp L F C) (len:Nat) (hlen:len<=1000000000) (a b N:Nat) (hb:b<=len):∀ (k i:Nat) (xs:C_),i+k=b->xs.length=len->eK L xs->
  (Dn prog).code (.loop fg) ⟨[(0,.sl D 0 len),(1,A_ a),(2,A_ b),(3,F),(8,A_ i)],⟨hp xs,N⟩⟩ =
  some (.exit 0,⟨[],⟨hp (insO C a k i xs),N⟩⟩):=by
 intro k
 induction k with
 | zero =>
  intro i xs hi hx u;rw[ah mg];simp (maxSteps:=300000) (disch:=omega) [↓ac,↓aa,insO,K.sh,K.fi]
 | succ k ih =>
  intro i xs hi hx u;rw[ah mg];have h0:=aoJ H K len hlen a b i N i xs o_ hx u;have h:=ih (i+1) (insJ C a i xs) o_ (by rw[NW];exact hx) (u.insJ o_);have c1:((i+1:Nat):Int)=(i:Int)+1:=rfl;rw[c1]at h;rw[insO,<-h];simp (maxSteps:=300000) (disch:=omega) [↓ac,↓aa,K.sh,K.fi,h0]
def Pt (H:Hp hp D) (K:Cm hp L F C) (len:Nat) (hlen:len<=1000000000) (a b N:Nat) (hab:a<b) (hb:b<=len) (xs:C_) (hx:xs.length=len) (u:eK L xs) :
  (Dn prog).call nN [.sl D 0 len,A_ a,A_ b,F] ⟨hp xs,N⟩=some (.tup [],⟨hp (insO C a (b-(a+1)) (a+1) xs),N⟩):=by
 rw[ba yU zi rfl];have h:=apb H K len hlen a b N hb (b-(a+1)) (a+1) xs o_ hx u;have c1:((a+1:Nat):Int)=(a:Int)+1:=rfl;rw[c1]at h;simp (maxSteps:=300000) (disch:=omega) [↓ac,↓aa,K.sh,K.fi,h]
end
abbrev dh:=@Nat.add_sub_cancel
def MH (C:Nat->Nat->Int) (xs:C_) (a:Nat):Nat->Nat->Nat->Nat
 | 0,i,_=>i
 | f+1,i,j=>if i<j then (if C (nth xs ((i+j) / 2)) (nth xs a)<0 then MH C xs a f ((i+j) / 2+1) j else MH C xs a f i ((i+j) / 2)) else i
def Ml (C:Nat->Nat->Int) (xs:C_) (m:Nat):Nat->Nat->Nat->Nat
 | 0,i,_=>i
 | f+1,i,j=>if i<j then (if C (nth xs m) (nth xs ((i+j) / 2))<0 then Ml C xs m f i ((i+j) / 2) else Ml C xs m f ((i+j) / 2+1) j) else i
def sX (C:Nat->Nat->Int) (xs:C_) (p:Nat):Nat->Nat->Nat->Nat
 | 0,i,_=>i
 | f+1,i,j=>if i<j then (if C (nth xs (p-(i+j) / 2)) (nth xs ((i+j) / 2))<0 then sX C xs p f i ((i+j) / 2) else sX C xs p f ((i+j) / 2+1) j) else i
def shU:Nat->Nat->C_->C_
 | 0,_,xs=>xs
 | n+1,k,xs=>shU n (k+1) (swp xs k (k+1))
def shD:Nat->Nat->C_->C_
 | 0,_,xs=>xs
 | n+1,k,xs=>shD n (k-1) (swp xs k (k-1))
def VH {i j:Nat}:((i:Int)+j).fdiv 2=(((i+j) / 2:Nat):Int):=by
 rw[j5 _ o_];omega
section
variable {hp:C_->ak}{D L:Nat}{F:AV}{C:Nat->Nat->Int}
def aiF (H:Hp hp D) (K:Cm hp L F C) (len:Nat) (hlen:len<=1000000000) (a N:Nat) (ha:a<len) (xs:C_) (hx:xs.length=len) (u:eK L xs):∀ (f i j:Nat),j-i<=f->i<=j->j<=len->
  (Dn prog).code (.loop gx) ⟨[(0,.sl D 0 len),(1,A_ a),(4,F),(10,A_ i),(11,A_ j)],⟨hp xs,N⟩⟩ =
  some (.exit 0,⟨[(0,.sl D 0 len),(1,A_ a),(10,A_ (MH C xs a f i j:Nat))],⟨hp xs,N⟩⟩):=by
 intro f
 induction f with
 | zero =>
  intro i j h1 h2 h3;rw[ah oN];simp (maxSteps:=300000) (disch:=omega) [↓ac,↓aa,MH,K.sh,K.fi]
 | succ f ih =>
  intro i j h1 h2 h3;rw[ah oN];by_cases h:i<j
  .have hf:=VH (i:=i) (j:=j);rw[MH,ac h];have q1:i<=(i+j) / 2∧(i+j) / 2<j:=o_;generalize (i+j) / 2=q at *;have hc:=K.cl xs N _ _ (u.nth (i:=q) o_) (u.nth (i:=a) o_);by_cases g:C (nth xs q) (nth xs a)<0
   .have h5:=ih (q+1) j o_ o_ h3;rw[ac g,<-h5];simp (maxSteps:=300000) (disch:=omega) [↓ac,↓aa,K.sh,K.fi,H.get,H.put,hc,hf]
   .have h5:=ih i q o_ o_ o_;rw[aa g,<-h5];simp (maxSteps:=300000) (disch:=omega) [↓ac,↓aa,K.sh,K.fi,H.get,H.put,hc,hf]
  .rw[MH,aa h];simp (maxSteps:=300000) (disch:=omega) [↓ac,↓aa,K.sh,K.fi]
def ahX (H:Hp hp D) (len:Nat) (hlen:len<=1000000000) (I N:Nat) (hI:I<=len):∀ (n k:Nat) (xs:C_),k+n=I-1->xs.length=len->
  (Dn prog).code (.loop gm) ⟨[(0,.sl D 0 len),(10,A_ I),(13,A_ k)],⟨hp xs,N⟩⟩=some (.exit 2,⟨[],⟨hp (shU n k xs),N⟩⟩):=by
 intro n
 induction n with
 | zero =>
  intro k xs h hx;rw[ah pb];simp (maxSteps:=300000) (disch:=omega) [↓ac,↓aa,shU]
 | succ n ih =>
  intro k xs h hx;rw[ah pb];have l1:=oH (as:=xs) (i:=k) (a:=nth xs (k+1));have h5:=ih (k+1) (swp xs k (k+1)) o_ (by simpa using hx);rw[shU,<-h5];simp (maxSteps:=300000) (disch:=omega) [↓ac,↓aa,H.get,H.put];rfl
def aiH (H:Hp hp D) (K:Cm hp L F C) (len:Nat) (hlen:len<=1000000000) (m N:Nat) (ha:m<len) (xs:C_) (hx:xs.length=len) (u:eK L xs):∀ (f i j:Nat),j-i<=f->i<=j->j<=len->
  (Dn prog).code (.loop gw) ⟨[(0,.sl D 0 len),(2,A_ m),(4,F),(14,A_ i),(15,A_ j)],⟨hp xs,N⟩⟩ =
  some (.exit 4,⟨[(0,.sl D 0 len),(2,A_ m),(14,A_ (Ml C xs m f i j:Nat))],⟨hp xs,N⟩⟩):=by
 intro f
 induction f with
 | zero =>
  intro i j h1 h2 h3;rw[ah oU];simp (maxSteps:=300000) (disch:=omega) [↓ac,↓aa,Ml,K.sh,K.fi]
 | succ f ih =>
  intro i j h1 h2 h3;rw[ah oU];by_cases h:i<j
  .have hf:=VH (i:=i) (j:=j);rw[Ml,ac h];have q1:i<=(i+j) / 2∧(i+j) / 2<j:=o_;generalize (i+j) / 2=q at *;have hc:=K.cl xs N _ _ (u.nth (i:=m) o_) (u.nth (i:=q) o_);by_cases g:C (nth xs m) (nth xs q)<0
   .have h5:=ih i q o_ o_ o_;rw[ac g,<-h5];simp (maxSteps:=300000) (disch:=omega) [↓ac,↓aa,K.sh,K.fi,H.get,H.put,hc,hf]
   .have h5:=ih (q+1) j o_ o_ h3;rw[aa g,<-h5];simp (maxSteps:=300000) (disch:=omega) [↓ac,↓aa,K.sh,K.fi,H.get,H.put,hc,hf]
  .rw[Ml,aa h];simp (maxSteps:=300000) (disch:=omega) [↓ac,↓aa,K.sh,K.fi]
def aiI (H:Hp hp D) (len:Nat) (hlen:len<=1000000000) (I N:Nat):∀ (n k:Nat) (xs:C_),I+n=k->k<len->xs.length=len->
  (Dn prog).code (.loop gp) ⟨[(0,.sl D 0 len),(14,A_ I),(17,A_ k)],⟨hp xs,N⟩⟩=some (.exit 6,⟨[],⟨hp (shD n k xs),N⟩⟩):=by
 intro n
 induction n with
 | zero =>
  intro k xs h hk hx;rw[ah oO];simp (maxSteps:=300000) (disch:=omega) [↓ac,↓aa,shD]
 | succ n ih =>
  intro k xs h hk hx;obtain⟨q,rfl⟩:∃ q,k=q+1:=⟨k-1,o_⟩
  rw[ah oO];have l1:=oH (as:=xs) (i:=q+1) (a:=nth xs q);have h5:=ih q (swp xs (q+1) q) o_ o_ (by simpa using hx);rw[shD,dh,<-h5];simp (maxSteps:=300000) (disch:=omega) [↓ac,↓aa,H.get,H.put];rfl
def EQ (H:Hp hp D) (K:Cm hp L F C) (len:Nat) (hlen:len<=1000000000) (a m b M n p N:Nat) (xs:C_) (hx:xs.length=len) (u:eK L xs):∀ (f i j:Nat),j-i<=f->i<=j->j<=len->j<=p+1->p<len+i->
  (Dn prog).code (.loop gz) ⟨[(0,.sl D 0 len),(1,A_ a),(2,A_ m),(3,A_ b),(4,F),(18,A_ M),(19,A_ n),(20,A_ i),(21,A_ j),(22,A_ p)],⟨hp xs,N⟩⟩ =
  some (.exit 8,⟨[(0,.sl D 0 len),(1,A_ a),(2,A_ m),(3,A_ b),(4,F),(18,A_ M),(19,A_ n),(20,A_ (sX C xs p f i j:Nat))],⟨hp xs,N⟩⟩):=by
 intro f
 induction f with
 | zero =>
  intro i j h1 h2 h3 h4 h5;rw[ah oQ];simp (maxSteps:=300000) (disch:=omega) [↓ac,↓aa,sX,K.sh,K.fi]
 | succ f ih =>
  intro i j h1 h2 h3 h4 h5;rw[ah oQ];by_cases h:i<j
  .have hf:=VH (i:=i) (j:=j);rw[sX,ac h];have q1:i<=(i+j) / 2∧(i+j) / 2<j:=o_;generalize (i+j) / 2=q at *;have hp1:p-q<len:=o_;have hpq:((p:Int)-q)=((p-q:Nat):Int):=o_;generalize p-q=r at *;have hc:=K.cl xs N _ _ (u.nth (i:=r) o_) (u.nth (i:=q) o_);by_cases g:C (nth xs r) (nth xs q)<0
   .have h6:=ih i q o_ o_ o_ o_ o_;rw[ac g,<-h6];simp (maxSteps:=300000) (disch:=omega) [↓ac,↓aa,K.sh,K.fi,H.get,H.put,hc,hf,hpq]
   .have h6:=ih (q+1) j o_ o_ h3 o_ o_;rw[aa g,<-h6];simp (maxSteps:=300000) (disch:=omega) [↓ac,↓aa,K.sh,K.fi,H.get,H.put,hc,hf,hpq]
  .rw[sX,aa h];simp (maxSteps:=300000) (disch:=omega) [↓ac,↓aa,K.sh,K.fi]
end
def symM (C:Nat->Nat->Int):Nat->C_->Nat->Nat->Nat->C_
 | 0,xs,_,_,_=>xs
 | f+1,xs,a,m,b =>
  if m-a=1 then shU (MH C xs a (b-m) m b-1-a) a xs
  else if b-m=1 then shD (m-Ml C xs m (m-a) a m) m xs
  else
   let s:=if (a+b) / 2<m then sX C xs ((a+b) / 2+m-1) (b-a) ((a+b) / 2+m-b) ((a+b) / 2) else sX C xs ((a+b) / 2+m-1) (b-a) a m
   let e:=(a+b) / 2+m-s
   let ys:=if s<m∧m<e then rot m (e-s) xs (m-s) (e-m) else xs
   let zs:=if a<s∧s<(a+b) / 2 then symM C f ys a s ((a+b) / 2) else ys
   if (a+b) / 2<e∧e<b then symM C f zs ((a+b) / 2) e b else zs
def ZA {C:Nat->Nat->Int}{xs:C_}{a:Nat}:∀ {f i j:Nat},i<=j->i<=MH C xs a f i j∧MH C xs a f i j<=j
 | 0,i,j,h=>⟨ai _,h⟩
 | f+1,i,j,h=>by
  rw[MH];split
  .split
   .have:=ZA (C:=C) (xs:=xs) (a:=a) (f:=f) (i:=(i+j) / 2+1) (j:=j) o_;omega
   .have:=ZA (C:=C) (xs:=xs) (a:=a) (f:=f) (i:=i) (j:=(i+j) / 2) o_;omega
  .exact⟨ai _,h⟩
def ag8 {C:Nat->Nat->Int}{xs:C_}{m:Nat}:∀ {f i j:Nat},i<=j->i<=Ml C xs m f i j∧Ml C xs m f i j<=j
 | 0,i,j,h=>⟨ai _,h⟩
 | f+1,i,j,h=>by
  rw[Ml];split
  .split
   .have:=ag8 (C:=C) (xs:=xs) (m:=m) (f:=f) (i:=i) (j:=(i+j) / 2) o_;omega
   .have:=ag8 (C:=C) (xs:=xs) (m:=m) (f:=f) (i:=(i+j) / 2+1) (j:=j) o_;omega
  .exact⟨ai _,h⟩
theorem IS {C:Nat->Nat->Int}{xs:C_}{p:Nat}:∀ {f i j:Nat},i<=j->i<=sX C xs p f i j∧sX C xs p f i j<=j
 | 0,i,j,h=>⟨ai _,h⟩
 | f+1,i,j,h=>by
  rw[sX];split
  .split
   .have:=IS (C:=C) (xs:=xs) (p:=p) (f:=f) (i:=i) (j:=(i+j) / 2) o_;omega
   .have:=IS (C:=C) (xs:=xs) (p:=p) (f:=f) (i:=(i+j) / 2+1) (j:=j) o_;omega
  .exact⟨ai _,h⟩
def akT:∀ {n k:Nat}{xs:C_},(shU n k xs).length=xs.length
 | 0,_,_=>rfl
 | n+1,k,xs=>by rw[shU,akT,xj]
def ajR:∀ {n k:Nat}{xs:C_},(shD n k xs).length=xs.length
 | 0,_,_=>rfl
 | n+1,k,xs=>by rw[shD,ajR,xj]
def eK.shU {L:Nat}:∀ {n k:Nat}{xs:C_},eK L xs->k+n<xs.length->eK L (shU n k xs)
 | 0,_,_,u,_=>u
 | n+1,k,xs,u,h=>by rw[Vm.shU];exact(u.swp o_ o_).shU (by rw[xj];omega)
def eK.shD {L:Nat}:∀ {n k:Nat}{xs:C_},eK L xs->k<xs.length->eK L (shD n k xs)
 | 0,_,_,u,_=>u
 | n+1,k,xs,u,h=>by rw[Vm.shD];exact(u.swp o_ o_).shD (by rw[xj];omega)
theorem Ah {C:Nat->Nat->Int}:∀ {f:Nat}{xs:C_}{a m b:Nat},(symM C f xs a m b).length=xs.length
 | 0,_,_,_,_=>rfl
 | f+1,xs,a,m,b=>by
  rw[symM];split
  .exact akT
  .split
   .exact ajR
   .simp only
    repeat' split
    all_goals simp only[Ah,HA]
def eK.symM {L:Nat}{C:Nat->Nat->Int}:∀ {f:Nat}{xs:C_}{a m b:Nat},eK L xs->a<m->m<b->b<=xs.length->eK L (symM C f xs a m b)
 | 0,_,_,_,_,u,_,_,_=>u
 | f+1,xs,a,m,b,u,h1,h2,h3=>by
  rw[Go.Vm.symM];split
  .have:=ZA (C:=C) (xs:=xs) (a:=a) (f:=b-m) (i:=m) (j:=b) o_;exact u.shU (by omega)
  .split
   .exact u.shD (by omega)
   .simp only;generalize hs:(if (a+b) / 2<m then sX C xs ((a+b) / 2+m-1) (b-a) ((a+b) / 2+m-b) ((a+b) / 2) else sX C xs ((a+b) / 2+m-1) (b-a) a m)=s;have s1:s<=m∧s<=(a+b) / 2+m∧a<=s+1∧(a+b) / 2+m-s<=b:=by
     grind [IS]
    generalize hys:(if s<m∧m<(a+b) / 2+m-s then Go.Vm.rot m ((a+b) / 2+m-s-s) xs (m-s) ((a+b) / 2+m-s-m) else xs)=ys;have uy:eK L ys∧ys.length=xs.length:=by
     subst hys;split
     .exact⟨u.rot o_ o_,HA⟩
     grind
    generalize hzs:(if a<s∧s<(a+b) / 2 then Go.Vm.symM C f ys a s ((a+b) / 2) else ys)=zs;have uz:eK L zs∧zs.length=xs.length:=by
     subst hzs;split
     .exact⟨uy.1.symM o_ o_ o_,by grind [Ah]⟩
     omega
    split
    .exact uz.1.symM o_ o_ (by omega)
    grind
section
variable {hp:C_->ak}{D L:Nat}{F:AV}{C:Nat->Nat->Int}
theorem ajH (H:Hp hp D) (K:Cm hp L F C) (len:Nat) (hlen:len<=1000000000) (N f:Nat) (ih:∀ (a m b:Nat) (xs:C_),b-a<=f->a<m->m<b->b<=len->xs.length=len->eK L xs->
  (Dn prog).call cN [.sl D 0 len,A_ a,A_ m,A_ b,F] ⟨hp xs,N⟩=some (.tup [],⟨hp (symM C f xs a m b),N⟩))
  (a m b:Nat) (xs:C_) (h1:b-a<=f+1) (h2:a<m) (h3:m<b) (h4:b<=len) (hx:xs.length=len) (u:eK L xs) (c1:¬ m-a=1) (c2:¬ b-m=1) (c3:(a+b) / 2<m) (d1:(sX C xs ((a+b) / 2+m-1) (b-a) ((a+b) / 2+m-b) ((a+b) / 2)<m∧m<(a+b) / 2+m-sX C xs ((a+b) / 2+m-1) (b-a) ((a+b) / 2+m-b) ((a+b) / 2))) :
  (Dn prog).call cN [.sl D 0 len,A_ a,A_ m,A_ b,F] ⟨hp xs,N⟩=some (.tup [],⟨hp (symM C (f+1) xs a m b),N⟩):=by
 rw[ba eq eh rfl,symM,aa c1,aa c2];simp only;have hf:=VH (i:=a) (j:=b);have q1:a<(a+b) / 2∧(a+b) / 2<b∧(a+b) / 2*2<=a+b∧a+b<=(a+b) / 2*2+1:=o_;rw[ac c3];generalize (a+b) / 2=M at *;have cn:((M+m:Nat):Int)=(M:Int)+m:=rfl;have cp:((M+m-1:Nat):Int)=(M:Int)+m-1:=o_;have s1:=IS (C:=C) (xs:=xs) (p:=M+m-1) (f:=b-a) (i:=M+m-b) (j:=M) o_;have g4:=EQ H K len hlen a m b M (M+m) (M+m-1) N xs hx u (b-a) (M+m-b) M o_ o_ o_ o_ o_;have ci:((M+m-b:Nat):Int)=(M:Int)+m-b:=o_;rw[cn,cp,ci]at g4;generalize sX C xs (M+m-1) (b-a) (M+m-b) M=s at *;have ce:((M+m-s:Nat):Int)=(M:Int)+m-s:=o_;rw[ac d1];have hr:=ao0 H F K.sh K.fi len hlen s m (M+m-s) N d1.1 d1.2 o_ xs hx;have uy:eK L (rot m (M+m-s-s) xs (m-s) (M+m-s-m)):=u.rot o_ o_;have ly:(rot m (M+m-s-s) xs (m-s) (M+m-s-m)).length=len:=by grind [HA]
 generalize rot m (M+m-s-s) xs (m-s) (M+m-s-m)=ys at *;rw[ce]at hr;by_cases d2:a<s∧s<M
 .rw[ac d2];have h6:=ih a s M ys o_ d2.1 d2.2 o_ ly uy;have uz:eK L (symM C f ys a s M):=uy.symM d2.1 d2.2 o_;have lz:(symM C f ys a s M).length=len:=by grind [Ah]
  generalize symM C f ys a s M=zs at *;by_cases d3:M<M+m-s∧M+m-s<b
  .rw[ac d3];have h7:=ih M (M+m-s) b zs o_ d3.1 d3.2 h4 lz uz;rw[ce]at h7
   first
    | (exfalso;omega)
    | simp (disch:=omega) [↓ac,↓aa,K.sh,K.fi,hf,g4,hr,h6,h7]
  .rw[aa d3];have h7:True:=trivial
   first
    | (exfalso;omega)
    | simp (disch:=omega) [↓ac,↓aa,K.sh,K.fi,hf,g4,hr,h6]
 .rw[aa d2];have uz:=uy;have lz:=ly;have h6:True:=trivial;by_cases d3:M<M+m-s∧M+m-s<b
  .rw[ac d3];have h7:=ih M (M+m-s) b ys o_ d3.1 d3.2 h4 lz uz
   first
    | omega
    | simp (disch:=omega) [↓ac,↓aa,K.sh,K.fi,hf,g4,hr,h6,h7]
  .first
    | (omega)
    | simp (disch:=omega) [↓ac,↓aa,K.sh,K.fi,hf,g4,hr]
theorem ajG (H:Hp hp D) (K:Cm hp L F C) (len:Nat) (hlen:len<=1000000000) (N f:Nat) (ih:∀ (a m b:Nat) (xs:C_),b-a<=f->a<m->m<b->b<=len->xs.length=len->eK L xs->
  (Dn prog).call cN [.sl D 0 len,A_ a,A_ m,A_ b,F] ⟨hp xs,N⟩=some (.tup [],⟨hp (symM C f xs a m b),N⟩))
  (a m b:Nat) (xs:C_) (h1:b-a<=f+1) (h2:a<m) (h3:m<b) (h4:b<=len) (hx:xs.length=len) (u:eK L xs) (c1:¬ m-a=1) (c2:¬ b-m=1) (c3:(a+b) / 2<m) (d1:¬ (sX C xs ((a+b) / 2+m-1) (b-a) ((a+b) / 2+m-b) ((a+b) / 2)<m∧m<(a+b) / 2+m-sX C xs ((a+b) / 2+m-1) (b-a) ((a+b) / 2+m-b) ((a+b) / 2))) :
  (Dn prog).call cN [.sl D 0 len,A_ a,A_ m,A_ b,F] ⟨hp xs,N⟩=some (.tup [],⟨hp (symM C (f+1) xs a m b),N⟩):=by
 rw[ba eq eh rfl,symM,aa c1,aa c2];simp only;have hf:=VH (i:=a) (j:=b);have q1:a<(a+b) / 2∧(a+b) / 2<b∧(a+b) / 2*2<=a+b∧a+b<=(a+b) / 2*2+1:=o_;rw[ac c3];generalize (a+b) / 2=M at *;have cn:((M+m:Nat):Int)=(M:Int)+m:=rfl;have cp:((M+m-1:Nat):Int)=(M:Int)+m-1:=o_;have s1:=IS (C:=C) (xs:=xs) (p:=M+m-1) (f:=b-a) (i:=M+m-b) (j:=M) o_;have g4:=EQ H K len hlen a m b M (M+m) (M+m-1) N xs hx u (b-a) (M+m-b) M o_ o_ o_ o_ o_;have ci:((M+m-b:Nat):Int)=(M:Int)+m-b:=o_;rw[cn,cp,ci]at g4;generalize sX C xs (M+m-1) (b-a) (M+m-b) M=s at *;have ce:((M+m-s:Nat):Int)=(M:Int)+m-s:=o_;rw[aa d1];have uy:=u;have ly:=hx;have hr:True:=trivial;by_cases d2:a<s∧s<M
 .rw[ac d2];have h6:=ih a s M xs o_ d2.1 d2.2 o_ ly uy;have uz:eK L (symM C f xs a s M):=uy.symM d2.1 d2.2 o_;have lz:(symM C f xs a s M).length=len:=o_;generalize symM C f xs a s M=zs at *;by_cases d3:M<M+m-s∧M+m-s<b
  .rw[ac d3];have h7:=ih M (M+m-s) b zs o_ d3.1 d3.2 h4 lz uz;rw[ce]at h7
   first
    | omega
    | simp (disch:=omega) [↓ac,↓aa,K.sh,K.fi,hf,g4,hr,h6,h7]
  .rw[aa d3];have h7:True:=trivial
   first
    | omega
    | simp (disch:=omega) [↓ac,↓aa,K.sh,K.fi,hf,g4,hr,h6,h7]
 .rw[aa d2];have uz:=uy;have lz:=ly;by_cases d3:M<M+m-s∧M+m-s<b
  .have h7:=ih M (M+m-s) b xs o_ d3.1 d3.2 h4 lz uz;rw[ce]at h7
   first
    | (omega)
    | simp (disch:=omega) [↓ac,↓aa,K.fi,hf,g4,h7]
  .first
    | omega
    | simp (disch:=omega) [↓ac,↓aa,K.sh,K.fi,hf,g4,hr,h6,h7]
theorem ajs (H:Hp hp D) (K:Cm hp L F C) (len:Nat) (hlen:len<=1000000000) (N f:Nat) (ih:∀ (a m b:Nat) (xs:C_),b-a<=f->a<m->m<b->b<=len->xs.length=len->eK L xs->
  (Dn prog).call cN [.sl D 0 len,A_ a,A_ m,A_ b,F] ⟨hp xs,N⟩=some (.tup [],⟨hp (symM C f xs a m b),N⟩))
  (a m b:Nat) (xs:C_) (h1:b-a<=f+1) (h2:a<m) (h3:m<b) (h4:b<=len) (hx:xs.length=len) (u:eK L xs) (c1:¬ m-a=1) (c2:¬ b-m=1) (c3:¬ (a+b) / 2<m) (d1:(sX C xs ((a+b) / 2+m-1) (b-a) a m<m∧m<(a+b) / 2+m-sX C xs ((a+b) / 2+m-1) (b-a) a m)) :
  (Dn prog).call cN [.sl D 0 len,A_ a,A_ m,A_ b,F] ⟨hp xs,N⟩=some (.tup [],⟨hp (symM C (f+1) xs a m b),N⟩):=by
 rw[ba eq eh rfl,symM,aa c1,aa c2];simp only;have hf:=VH (i:=a) (j:=b);have q1:a<(a+b) / 2∧(a+b) / 2<b∧(a+b) / 2*2<=a+b∧a+b<=(a+b) / 2*2+1:=o_;rw[aa c3];generalize (a+b) / 2=M at *;have cn:((M+m:Nat):Int)=(M:Int)+m:=rfl;have cp:((M+m-1:Nat):Int)=(M:Int)+m-1:=o_;have s1:=IS (C:=C) (xs:=xs) (p:=M+m-1) (f:=b-a) (i:=a) (j:=m) o_;have g4:=EQ H K len hlen a m b M (M+m) (M+m-1) N xs hx u (b-a) a m o_ o_ o_ o_ o_;rw[cn,cp]at g4;generalize sX C xs (M+m-1) (b-a) a m=s at *;have ce:((M+m-s:Nat):Int)=(M:Int)+m-s:=o_;rw[ac d1];have hr:=ao0 H F K.sh K.fi len hlen s m (M+m-s) N d1.1 d1.2 o_ xs hx;have uy:eK L (rot m (M+m-s-s) xs (m-s) (M+m-s-m)):=u.rot o_ o_;have ly:(rot m (M+m-s-s) xs (m-s) (M+m-s-m)).length=len:=by grind [HA]
 generalize rot m (M+m-s-s) xs (m-s) (M+m-s-m)=ys at *;rw[ce]at hr;by_cases d2:a<s∧s<M
 .rw[ac d2];have h6:=ih a s M ys o_ d2.1 d2.2 o_ ly uy;have uz:eK L (symM C f ys a s M):=uy.symM d2.1 d2.2 o_;have lz:(symM C f ys a s M).length=len:=by grind [Ah]
  generalize symM C f ys a s M=zs at *;by_cases d3:M<M+m-s∧M+m-s<b
  .rw[ac d3];have h7:=ih M (M+m-s) b zs o_ d3.1 d3.2 h4 lz uz;rw[ce]at h7
   first
    | (exfalso;omega)
    | simp (disch:=omega) [↓ac,↓aa,K.sh,K.fi,hf,g4,hr,h6,h7]
  .rw[aa d3];have h7:True:=trivial
   first
    | omega
    | simp (disch:=omega) [↓ac,↓aa,K.sh,K.fi,hf,g4,hr,h6,h7]
 .rw[aa d2];have uz:=uy;have lz:=ly;have h6:True:=trivial;by_cases d3:M<M+m-s∧M+m-s<b
  .rw[ac d3];have h7:=ih M (M+m-s) b ys o_ d3.1 d3.2 h4 lz uz;rw[ce]at h7
   first
    | (omega)
    | simp (disch:=omega) [↓ac,↓aa,K.sh,K.fi,hf,g4,hr,h7]
  .first
    | (omega)
    | simp (disch:=omega) [↓ac,↓aa,K.sh,K.fi,hf,g4,hr]
theorem aiW (H:Hp hp D) (K:Cm hp L F C) (len:Nat) (hlen:len<=1000000000) (N f:Nat) (ih:∀ (a m b:Nat) (xs:C_),b-a<=f->a<m->m<b->b<=len->xs.length=len->eK L xs->
  (Dn prog).call cN [.sl D 0 len,A_ a,A_ m,A_ b,F] ⟨hp xs,N⟩=some (.tup [],⟨hp (symM C f xs a m b),N⟩))
  (a m b:Nat) (xs:C_) (h1:b-a<=f+1) (h2:a<m) (h3:m<b) (h4:b<=len) (hx:xs.length=len) (u:eK L xs) (c1:¬ m-a=1) (c2:¬ b-m=1) (c3:¬ (a+b) / 2<m) (d1:¬ (sX C xs ((a+b) / 2+m-1) (b-a) a m<m∧m<(a+b) / 2+m-sX C xs ((a+b) / 2+m-1) (b-a) a m)) :
  (Dn prog).call cN [.sl D 0 len,A_ a,A_ m,A_ b,F] ⟨hp xs,N⟩=some (.tup [],⟨hp (symM C (f+1) xs a m b),N⟩):=by
 rw[ba eq eh rfl,symM,aa c1,aa c2];simp only;have hf:=VH (i:=a) (j:=b);have q1:a<(a+b) / 2∧(a+b) / 2<b∧(a+b) / 2*2<=a+b∧a+b<=(a+b) / 2*2+1:=o_;rw[aa c3];generalize (a+b) / 2=M at *;have cn:((M+m:Nat):Int)=(M:Int)+m:=rfl;have cp:((M+m-1:Nat):Int)=(M:Int)+m-1:=o_;have s1:=IS (C:=C) (xs:=xs) (p:=M+m-1) (f:=b-a) (i:=a) (j:=m) o_;have g4:=EQ H K len hlen a m b M (M+m) (M+m-1) N xs hx u (b-a) a m o_ o_ o_ o_ o_;rw[cn,cp]at g4;generalize sX C xs (M+m-1) (b-a) a m=s at *;have ce:((M+m-s:Nat):Int)=(M:Int)+m-s:=o_;rw[aa d1];have uy:=u;have ly:=hx;have hr:True:=trivial;by_cases d2:a<s∧s<M
 .rw[ac d2];have h6:=ih a s M xs o_ d2.1 d2.2 o_ ly uy;have uz:eK L (symM C f xs a s M):=uy.symM d2.1 d2.2 o_;have lz:(symM C f xs a s M).length=len:=by grind [Ah]
  generalize symM C f xs a s M=zs at *;by_cases d3:M<M+m-s∧M+m-s<b
  .rw[ac d3];have h7:=ih M (M+m-s) b zs o_ d3.1 d3.2 h4 lz uz;rw[ce]at h7
   first
    | omega
    | simp (disch:=omega) [↓ac,↓aa,K.sh,K.fi,hf,g4,hr,h6,h7]
  .rw[aa d3];have h7:True:=trivial
   first
    | (exfalso;omega)
    | simp (disch:=omega) [↓ac,↓aa,K.sh,K.fi,hf,g4,h6]
 .rw[aa d2];have uz:=uy;have lz:=ly;have h6:True:=trivial;by_cases d3:M<M+m-s∧M+m-s<b
  .first
    | omega
    | simp (disch:=omega) [↓ac,↓aa,K.sh,K.fi,hf,g4,hr,h6,h7]
  .first
    | (omega)
    | simp (disch:=omega) [↓ac,↓aa,hf,g4]
def aeU (H:Hp hp D) (K:Cm hp L F C) (len:Nat) (hlen:len<=1000000000) (N:Nat):∀ (f a m b:Nat) (xs:C_),b-a<=f->a<m->m<b->b<=len->xs.length=len->eK L xs->
  (Dn prog).call cN [.sl D 0 len,A_ a,A_ m,A_ b,F] ⟨hp xs,N⟩=some (.tup [],⟨hp (symM C f xs a m b),N⟩):=by
 intro f
 induction f with
 | zero=>omega
 | succ f ih =>
  intro a m b xs h1 h2 h3 h4 hx u;by_cases c1:m-a=1
  .rw[ba eq eh rfl,symM,ac c1];have hb:=ZA (C:=C) (xs:=xs) (a:=a) (f:=b-m) (i:=m) (j:=b) o_;have g0:=aiF H K len hlen a N o_ xs hx u (b-m) m b o_ o_ h4;generalize MH C xs a (b-m) m b=I at *;have g1:=ahX H len hlen I N o_ (I-1-a) a xs o_ hx;simp (disch:=omega) [↓ac,g0,g1]
  .by_cases c2:b-m=1
   .rw[ba eq eh rfl,symM,aa c1,ac c2];have hb:=ag8 (C:=C) (xs:=xs) (m:=m) (f:=m-a) (i:=a) (j:=m) o_;have g0:=aiH H K len hlen m N o_ xs hx u (m-a) a m o_ o_ o_;generalize Ml C xs m (m-a) a m=I at *;have g1:=aiI H len hlen I N (m-I) m xs o_ o_ hx;simp (disch:=omega) [↓ac,↓aa,g0,g1]
   grind [ajH,ajG,ajs,aiW]
end
def J7 (C:Nat->Nat->Int) (n:Nat):Nat->C_->Nat->C_×Nat
 | 0,xs,a=>(xs,a)
 | f+1,xs,a=>if a+20<=n then J7 C n f (insO C a 19 (a+1) xs) (a+20) else (xs,a)
def Pi (C:Nat->Nat->Int) (n bs:Nat):Nat->C_->Nat->C_×Nat
 | 0,xs,a=>(xs,a)
 | f+1,xs,a=>if a+2*bs<=n then Pi C n bs f (symM C (2*bs) xs a (a+bs) (a+2*bs)) (a+2*bs) else (xs,a)
def stE (C:Nat->Nat->Int) (n bs:Nat) (p:C_×Nat):C_:=if p.2+bs<n then symM C (n-p.2) p.1 p.2 (p.2+bs) n else p.1
def Xv (C:Nat->Nat->Int) (n:Nat):Nat->C_->Nat->C_
 | 0,xs,_=>xs
 | f+1,xs,bs=>if bs<n then Xv C n f (stE C n bs (Pi C n bs n xs 0)) (2*bs) else xs
def stS (C:Nat->Nat->Int) (n:Nat) (p:C_×Nat):C_:=insO C p.2 (n-(p.2+1)) (p.2+1) p.1
def sH (C:Nat->Nat->Int) (n:Nat) (xs:C_):C_:=Xv C n n (stS C n (J7 C n n xs 0)) 20
section
variable {hp:C_->ak}{D L:Nat}{F:AV}{C:Nat->Nat->Int}
def apT (H:Hp hp D) (K:Cm hp L F C) (n:Nat) (hlen:n<=1000000000) (N:Nat):∀ (f a:Nat) (xs:C_),n<a+f*20+20->a<=n->xs.length=n->eK L xs->
  (Dn prog).code (.loop gS) ⟨[(0,.sl D 0 n),(1,A_ n),(2,F),(6,A_ 20),(7,A_ a),(8,A_ ((a:Int)+20))],⟨hp xs,N⟩⟩ =
  some (.exit 0,⟨[(0,.sl D 0 n),(1,A_ n),(2,F),(6,A_ 20),(7,A_ ((J7 C n f xs a).2))],⟨hp (J7 C n f xs a).1,N⟩⟩)∧
  (J7 C n f xs a).1.length=n∧eK L (J7 C n f xs a).1∧a<=(J7 C n f xs a).2∧(J7 C n f xs a).2<=n∧∃ q,(J7 C n f xs a).2=a+20*q:=by
 intro f
 induction f with
 | zero =>
  intro a xs h1 h2 hx u;refine⟨?_,hx,u,ai _,h2,0,rfl⟩;rw[ah qH];simp (maxSteps:=300000) (disch:=omega) [↓ac,↓aa,J7,K.sh,K.fi]
 | succ f ih =>
  intro a xs h1 h2 hx u;rw[ah qH,J7];by_cases h:a+20<=n
  .rw[ac h];have h0:=Pt H K n hlen a (a+20) N o_ h xs hx u;rw[show a+20-(a+1)=19 by omega]at h0;obtain⟨g1,g2,g3,g4,g5,q,g6⟩:=ih (a+20) (insO C a 19 (a+1) xs) o_ h (by rw[Vn];exact hx) (u.insO o_);refine⟨?_,g2,g3,o_,g5,q+1,o_⟩;have c1:((a+20:Nat):Int)=(a:Int)+20:=rfl;rw[c1]at h0 g1;rw[<-g1];simp (maxSteps:=300000) (disch:=omega) [↓ac,↓aa,K.sh,K.fi,h0]
  .rw[aa h];refine⟨?_,hx,u,ai _,h2,0,rfl⟩;simp (maxSteps:=300000) (disch:=omega) [↓ac,↓aa,K.sh,K.fi]
def ape (H:Hp hp D) (K:Cm hp L F C) (n:Nat) (hlen:n<=1000000000) (bs N:Nat) (hbs:1<=bs) (hb2:bs<=1000000000):∀ (f a:Nat) (xs:C_),n<a+f+1->a<=n->xs.length=n->eK L xs->
  (Dn prog).code (.loop gX) ⟨[(0,.sl D 0 n),(1,A_ n),(2,F),(6,A_ bs),(7,A_ a),(8,A_ ((a:Int)+2*(bs:Int)))],⟨hp xs,N⟩⟩ =
  some (.exit 4,⟨[(0,.sl D 0 n),(1,A_ n),(2,F),(6,A_ bs),(7,A_ ((Pi C n bs f xs a).2))],⟨hp (Pi C n bs f xs a).1,N⟩⟩)∧
  (Pi C n bs f xs a).1.length=n∧eK L (Pi C n bs f xs a).1∧(Pi C n bs f xs a).2<=n:=by
 intro f
 induction f with
 | zero =>
  intro a xs h1 h2 hx u;refine⟨?_,hx,u,h2⟩;rw[ah qF];simp (maxSteps:=300000) (disch:=omega) [↓ac,↓aa,Pi,K.sh,K.fi]
 | succ f ih =>
  intro a xs h1 h2 hx u;rw[ah qF,Pi];by_cases h:a+2*bs<=n
  .rw[ac h];have h0:=aeU H K n hlen N (2*bs) a (a+bs) (a+2*bs) xs o_ o_ o_ h hx u;obtain⟨g1,g2,g3,g4⟩:=ih (a+2*bs) (symM C (2*bs) xs a (a+bs) (a+2*bs)) o_ h (by rw[Ah];exact hx) (u.symM o_ o_ o_);refine⟨?_,g2,g3,g4⟩;have c1:((a+bs:Nat):Int)=(a:Int)+bs:=rfl;have c2:((a+2*bs:Nat):Int)=(a:Int)+2*bs:=o_;rw[c1,c2]at h0;rw[c2]at g1;rw[<-g1];simp (maxSteps:=300000) (disch:=omega) [↓ac,↓aa,K.sh,K.fi,h0]
  .rw[aa h];refine⟨?_,hx,u,h2⟩;simp (maxSteps:=300000) (disch:=omega) [↓ac,↓aa,K.sh,K.fi]
def anL (H:Hp hp D) (K:Cm hp L F C) (n:Nat) (hlen:n<=1000000000) (N:Nat):∀ (f bs:Nat) (xs:C_),n<bs+f+1->1<=bs->bs<=2000000000->xs.length=n->eK L xs->
  (Dn prog).code (.loop gW) ⟨[(0,.sl D 0 n),(1,A_ n),(2,F),(6,A_ bs)],⟨hp xs,N⟩⟩ =
  some (.exit 2,⟨[],⟨hp (Xv C n f xs bs),N⟩⟩)∧(Xv C n f xs bs).length=n∧eK L (Xv C n f xs bs):=by
 intro f
 induction f with
 | zero =>
  intro bs xs h1 h2 h3 hx u;refine⟨?_,hx,u⟩;rw[ah qG];simp (maxSteps:=300000) (disch:=omega) [↓ac,↓aa,Xv,K.sh,K.fi]
 | succ f ih =>
  intro bs xs h1 h2 h3 hx u;rw[ah qG,Xv];by_cases h:bs<n
  .rw[ac h];obtain⟨g1,g2,g3,g4⟩:=ape H K n hlen bs N h2 o_ n 0 xs o_ o_ hx u;generalize Pi C n bs n xs 0=p at *;obtain⟨ys,a⟩:=p;simp only at g1 g2 g3 g4;have c0:((0:Nat):Int)=0:=rfl;have cz:(0:Int)+2*(bs:Int)=2*(bs:Int):=o_;have c2:((2*bs:Nat):Int)=2*(bs:Int):=o_;rw[c0,cz]at g1;unfold stE;simp only;by_cases h5:a+bs<n
   .rw[ac h5];have h0:=aeU H K n hlen N (n-a) a (a+bs) n ys o_ o_ h5 (ai _) g2 g3;have c1:((a+bs:Nat):Int)=(a:Int)+bs:=rfl;obtain⟨k1,k2,k3⟩:=ih (2*bs) (symM C (n-a) ys a (a+bs) n) o_ o_ o_ (by rw[Ah];exact g2) (g3.symM o_ h5 o_);refine⟨?_,k2,k3⟩;rw[c1]at h0;rw[c2]at k1;have cc:(bs:Int)*2=2*(bs:Int):=o_;rw[<-k1];simp (maxSteps:=300000) (disch:=omega) [↓ac,↓aa,K.sh,K.fi,g1,h0,cc]
   .rw[aa h5];obtain⟨k1,k2,k3⟩:=ih (2*bs) ys o_ o_ o_ g2 g3;refine⟨?_,k2,k3⟩;rw[c2]at k1;have cc:(bs:Int)*2=2*(bs:Int):=o_;rw[<-k1];simp (maxSteps:=300000) (disch:=omega) [↓ac,↓aa,K.sh,K.fi,g1,cc]
  .rw[aa h];refine⟨?_,hx,u⟩;simp (maxSteps:=300000) (disch:=omega) [↓ac,↓aa,K.sh,K.fi]
def apm (H:Hp hp D) (K:Cm hp L F C) (n:Nat) (hlen:n<=1000000000) (hn:n % 20≠0) (N:Nat) (xs:C_) (hx:xs.length=n) (u:eK L xs) :
  (Dn prog).call uH [.sl D 0 n,A_ n,F] ⟨hp xs,N⟩=some (.tup [],⟨hp (sH C n xs),N⟩):=by
 rw[ba FV FN rfl,sH];obtain⟨g1,g2,g3,_,g5,q,g6⟩:=apT H K n hlen N n 0 xs o_ o_ hx u;generalize J7 C n n xs 0=p at *;obtain⟨ys,a⟩:=p;simp only at g1 g2 g3 g5 g6;have h0:=Pt H K n hlen a n N o_ (ai _) ys g2 g3;unfold stS;simp only;obtain⟨k1,k2,k3⟩:=anL H K n hlen N n 20 (insO C a (n-(a+1)) (a+1) ys) o_ o_ o_ (by rw[Vn];exact g2) (g3.insO o_);have c0:((0:Nat):Int)=0:=rfl;have cz:(0:Int)+20=20:=rfl;have c2:((20:Nat):Int)=20:=rfl;rw[c0,cz]at g1;rw[c2]at k1;simp (maxSteps:=300000) (disch:=omega) [↓ac,↓aa,K.sh,K.fi,g1,h0,k1]
end
abbrev bG:=@List.all_eq_true
abbrev cQ:=@List.not_mem_nil
abbrev fh:=@or_false
def d9 (id:Nat):Nat:=if id<5 then 4 else if id=12 then 1 else 2
def de (id:Nat):Int:=[0,-1,-1,0,0,-4,-4,0,0,0,0,0,-60].getD id 0
def cx (id:Nat):Nat:=[1,3,3,3,3,9,9,8,8,13,13,17,121].getD id 1
def bK (id:Nat):Nat:=[0,0,1,0,1,0,1,1,2,1,2,2,0].getD id 0
def lQ (low:Int) (w:Nat):Nat->Nat->G_
 | 0,_=>[]
 | d+1,e=>lQ low w d (e / w)++[((e % w:Nat):Int)+low]
def mr (id e:Nat):G_:=lQ (de id) (cx id) (d9 id) e
def OT:G_->Nat
 | []=>0
 | x::r=>x.natAbs+OT r
def zx (id e:Nat):Nat:=OT (mr id e)
def bm (id:Nat):Nat:=cx id ^ d9 id
def am3 (s:Nat):R_->C_
 | []=>[]
 | (e,z)::r=>match Nat.beq z s with
  | true=>e::am3 s r
  | false=>am3 s r
def azZ (id:Nat):R_:=(List.range (bm id)).map fun e=>(e,zx id e)
def cg (id:Nat):C_:=let l:=azZ id;(List.range 61).flatMap fun s=>am3 s l
def ayD (e:Nat):Nat->C_->Nat
 | i,[]=>i
 | i,x::r=>match Nat.beq x e with
  | true=>i
  | false=>ayD e (i+1) r
def dC (id:Nat):C_:=let l:=cg id;(List.range (bm id)).map fun e=>ayD e 0 l
abbrev ju (id:Nat):Prop:=1<=id∧id<=12
abbrev nD (id:Nat):AV:=.agg [A_ id,A_ (bK id),.d (.lst (cR (cg id))),.d (.lst (cR (dC id)))]
abbrev W6 (id:Nat):AV:=.agg [A_ id,A_ (bK id),.own true 1 (cR (cg id)),.own true 1 (cR (dC id))]
def alH:∀ id∈List.range 13,bK id<=2∧(cg id).length<=300∧(dC id).length<=300∧(cg id).all (fun e=>decide (e<bm id))=true:=e_
def Kh {id:Nat}(h:id<=12):bK id<=2∧(cg id).length<=300∧(dC id).length<=300∧∀ e∈cg id,e<bm id:=by
 obtain⟨a,b,c,d⟩:=alH id g_;exact⟨a,b,c,fun e he=>by simpa using bG.1 d e he⟩
def ids:C_:=[1,2,3,4,5,6,7,8,9,10,11,12]
def fO {id:Nat}(h:ju id):id∈ids:=by
 obtain⟨h1,h2⟩:=h;simp only[ids,az,cQ,fh];omega
abbrev Um (id:Nat):AV:=.agg [A_ (d9 id),A_ (de id),A_ (de id+cx id-1),A_ (bK id)]
def NX:∀ x∈ids,br prog aom [A_ x]=some (.tup [Um x,A_ 0]):=IK 100 ids (by kernel_rfl)
def Ha:∀ x∈ids,br prog Aj [Um x]=some (A_ (bm x)):=IK 100 ids (by kernel_rfl)
def DT {z:W_}{n:Nat}(h:n<=1000000000):E8 z (A_ n) (A_ n)=some (.own true z.length (List.replicate n z)):=by
 have h0:¬ ((n:Int)<0):=o_;have h1:Nat.ble n aW=true:=cP (aM h k_);have h2:Nat.ble n n=true:=by rw[ZT];simp
 simp only[E8,ef,h1,h2]
end Go.Vm
end
