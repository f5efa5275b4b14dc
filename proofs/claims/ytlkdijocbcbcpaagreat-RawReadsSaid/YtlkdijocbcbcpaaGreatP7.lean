import Derived.Test.YtlkdijocbcbcpaaGreatP6
set_option linter.unusedVariables false
set_option linter.unusedSimpArgs false
set_option linter.defProp false
set_option linter.unusedSectionVars false
noncomputable section
namespace Go.Vm
set_option maxRecDepth 100000
set_option maxHeartbeats 4000000
abbrev adW:D_:=[A_ 0,.d (.int .u8 0),.d (.int .u8 0),A_ 0,.nl,.nl,.nl,.nl,.nl]
abbrev aab (i:Int):aT:=[(5,.ptr 0 0),(7,.ptr 1 0),(10,.ptr 4 0),(11,.ptr 5 0),(12,.ptr 6 0),(13,.ptr 7 0),(14,.ptr 8 0),(60,.sl 10 0 8),(61,A_ 8),(62,A_ i)]
abbrev axl:aT:=[(5,.ptr 0 0),(7,.ptr 1 0),(10,.ptr 4 0),(11,.ptr 5 0),(12,.ptr 6 0),(13,.ptr 7 0),(14,.ptr 8 0)]
section
variable (b:C_)(r:Int)(q:Bool)(iv:D_)(N:Nat)
theorem aoX {cs cs2:D_}{nx nx2 e0 od od2 is is2:Int}(i:Nat)(hi:i<8)(f:FuncId)(caps:D_)(hF:yo[i]?=some (.fn f [] caps))(hF2:firm (firm (firm (share (.fn f [] caps))))=.fn f [] caps)
  (h:(Dn prog).call f caps ⟨fb b r q iv cs nx 0 od is,N⟩=some (.tup [],⟨fb b r q iv cs2 nx2 0 od2 is2,N⟩)) :
  (Dn prog).code (.loop ku) ⟨aab i,⟨fb b r q iv cs nx e0 od is,N⟩⟩=(Dn prog).code (.loop ku) ⟨aab ((i+1:Nat):Int),⟨fb b r q iv cs2 nx2 0 od2 is2,N⟩⟩:=by
 have c1:((i+1:Nat):Int)=(i:Int)+1:=rfl;obtain⟨hlt,e⟩:=bJ.1 hF;rw[c1,ah Js];simp(maxSteps:=9^6)(disch:=omega)[↓ac,↓aa,e,hF2,h]
theorem ax2 {cs:D_}{a0 a1 a2 a3 a4 a5 a6 a7 a8:AV}{nx nx2 e0 od od2 is is2:Int}(i:Nat)(hi:i<8)(f:FuncId)(caps:D_)(hF:yo[i]?=some (.fn f [] caps))(hF2:firm (firm (firm (share (.fn f [] caps))))=.fn f [] caps)(e:Nat)
  (h:(Dn prog).call f caps ⟨fb b r q iv cs nx 0 od is,N⟩=some (.tup [],⟨fb b r q iv [a0,a1,a2,a3,a4,a5,a6,a7,a8] nx2 ((e:Int)+1) od2 is2,N⟩)) :
  (Dn prog).code (.loop ku) ⟨aab i,⟨fb b r q iv cs nx e0 od is,N⟩⟩=some (.ret,⟨[(10,.ptr 4 0),(11,.ptr 5 0),(12,.ptr 6 0)],⟨fb b r q iv adW 0 ((e:Int)+1) od2 is2,N⟩⟩):=by
 obtain⟨hlt,e1⟩:=bJ.1 hF;rw[ah Js];simp(maxSteps:=9^6)(disch:=omega)[↓ac,↓aa,e1,hF2,h]
theorem auw {cs:D_}{nx e0 od is:Int}:(Dn prog).code (.loop ku) ⟨aab 8,⟨fb b r q iv cs nx e0 od is,N⟩⟩=some (.exit 0,⟨axl,⟨fb b r q iv cs nx e0 od is,N⟩⟩):=by
 rw[ah Js];simp(maxSteps:=9^6)(disch:=omega)[↓ac,↓aa]
end
abbrev qS:=@Int.toNat_of_nonneg
structure Hd where
 gain:Nat
 inf:aG
 S:H_
 T:O_
 F:N_
 od:Int
 is:Nat
def Gi (b:C_)(a:Int)(r:Nat)(q:Bool)(i:aG):R Hd :=
 (aE b a 8).bind λg n=>(if q then R.ok i n else fW b n r).bind λj n=>(ma b j n).bind λS n=>(po b S n g).bind λT n =>
  (aE b n 1).bind λo n=>(aE b n 1).bind λs n=>(if s=1 then Cl b j n else R.ok (List.replicate j.many []) n).bind λF n=>(aE b n 1).bind λp n=>R.ok ⟨g,j,S,T,F,Qy o p,s⟩ n
abbrev agp (H:Hd):D_:=[A_ H.gain,.d (.int .u8 H.inf.seq),.d (.int .u8 H.inf.shape),A_ H.inf.max,.own false 1 (am H.inf.groups),al 1 (bi H.S),share (al 1 (cT H.T)),al 1 (bv H.F),.nl]
section
variable (b:C_)(r:Int)(q:Bool)(iv:D_)(N:Nat)
def V5 (e0:Int)(i:Nat)(cs:D_)(nx od is:Int)(x:R Hd):Prop :=
 (∀H n,x=.ok H n->(Dn prog).code (.loop ku) ⟨aab i,⟨fb b r q iv cs nx e0 od is,N⟩⟩=some (.exit 0,⟨axl,⟨fb b r q iv (agp H) n 0 H.od H.is,N⟩⟩))∧
 (∀e,x=.er e->∃od2 is2,(Dn prog).code (.loop ku) ⟨aab i,⟨fb b r q iv cs nx e0 od is,N⟩⟩=some (.ret,⟨[(10,.ptr 4 0),(11,.ptr 5 0),(12,.ptr 6 0)],⟨fb b r q iv adW 0 ((e:Int)+1) od2 is2,N⟩⟩))
theorem av3 {e0:Int}{i:Nat}{cs cs2:D_}{nx nx2 od od2 is is2:Int}{x:R Hd}(hi:i<8)(f:FuncId)(caps:D_)(hF:yo[i]?=some (.fn f [] caps))(hF2:firm (firm (firm (share (.fn f [] caps))))=.fn f [] caps)
  (h:(Dn prog).call f caps ⟨fb b r q iv cs nx 0 od is,N⟩=some (.tup [],⟨fb b r q iv cs2 nx2 0 od2 is2,N⟩))(ho:V5 b r q iv N 0 (i+1) cs2 nx2 od2 is2 x):V5 b r q iv N e0 i cs nx od is x:=by
 refine⟨λH n e=>?_,λe h2=>?_⟩
 .rw[aoX b r q iv N i hi f caps hF hF2 h];exact ho.1 H n e
 .rw[aoX b r q iv N i hi f caps hF hF2 h];exact ho.2 e h2
theorem ayu {e0:Int}{i:Nat}{cs:D_}{a0 a1 a2 a3 a4 a5 a6 a7 a8:AV}{nx nx2 od od2 is is2:Int}{e:Nat}(hi:i<8)(f:FuncId)(caps:D_)(hF:yo[i]?=some (.fn f [] caps))(hF2:firm (firm (firm (share (.fn f [] caps))))=.fn f [] caps)
  (h:(Dn prog).call f caps ⟨fb b r q iv cs nx 0 od is,N⟩=some (.tup [],⟨fb b r q iv [a0,a1,a2,a3,a4,a5,a6,a7,a8] nx2 ((e:Int)+1) od2 is2,N⟩)):V5 b r q iv N e0 i cs nx od is (.er e):=by
 refine⟨λH n h2=>absurd h2 s_,λe' h2=>?_⟩
 grind [ax2]
end
def NJ {b:C_}{i:aG}{g:H_}{n:Nat}(hm:i.may 11)(h:Qs b i.max.toNat i.groups.length g n) :
  g≠[]∧g.length<=8∧tF i g∧(∀l∈g,l.length<=100)∧∀l∈g,TW l∧akY l:=by
 obtain⟨h1,h2,h3⟩:=h;have hmx:=mW hm;obtain⟨q1,q2⟩:=eR hm;have hmm:=km i;have hgl:i.groups.length<=8:=by have:=kU (λn hn=>(q1 n hn).1);omega
 have hgn:i.groups≠[]:=λh=>by grind
 have hg1:=bG.2 hgn;have hmc:((i.max.toNat:Nat):Int)=i.max:=qS hmx.1;have hf:∀l∈g,fitsS i.max l:=λl hl=>by simp_all
 refine⟨λh=>by simp_all,o_,⟨h3,hf⟩,λl hl=>by grind,λl hl=>⟨⟨e_,λs hs=>?_⟩,asf (hf l hl)⟩⟩;have:=Ot (hf l hl) o_ s hs;omega
def dS {α β:Type}{x:R α}{f:α->Nat->R β}{v:β}{n:Nat}(h:x.bind f=.ok v n):∃u m,x=.ok u m∧f u m=.ok v n:=by
 cases x with
 |ok u m=>exact⟨u,m,rfl,h⟩
 |er e=>simp_all
def agn {α:Type}{c:Prop}[Decidable c]{v w:α}{n m:Nat}(h:SK c v n=.ok w m):c∧v=w∧n=m:=by
 grind [SK]
def ajB {b:C_}:∀{k a:Nat}{l:C_}{n:Nat},a<=b.length->je b k a=.ok l n->n<=b.length
 |0,a,l,n,ha,h=>by
  grind [je]
 |k+1,a,l,n,ha,h=>by
  obtain⟨v,m,h1,h⟩:=dS h;obtain⟨l2,m2,h2,h⟩:=dS h;have:=ajB (cu h1).2 h2
  simp_all
theorem xI {b:C_}{a:Int}{r:Nat}(hr:r<=11){i:aG}{n:Nat}(h:fW b a r=.ok i n):pI b r i n:=by
 obtain⟨o,n1,h1,h⟩:=dS h;obtain⟨q,n2,h2,h⟩:=dS h;obtain⟨s,n3,h3,h⟩:=dS h;have key:i.may r∧n<=b.length:=by
  split at h
  .obtain⟨m,n4,h4,h⟩:=dS h;obtain⟨l,n5,h5,h⟩:=dS h;obtain⟨hc,e1,e2⟩:=agn h;have:=ajB (cu h4).2 h5
   simp_all
  .obtain⟨m,n4,h4,h⟩:=dS h;obtain⟨p,n5,h5,h⟩:=dS h;obtain⟨hc,e1,e2⟩:=agn h;have:=(cu h5).2
   simp_all
 obtain⟨g1,g2⟩:=eR (iY hr key.1);have hmm:=km i;exact⟨key.1,key.2,by have:=kU (λn hn=>(g1 n hn).1);omega⟩
structure pHd (b:C_)(r:Nat)(H:Hd)(n:Nat):Prop where
 gain:H.gain<=255
 fit:H.inf.Fit
 may:H.inf.may r
 S:tF H.inf H.S
 Sl:∀l∈H.S,l.length<=100
 T:H.T.map List.length=H.S.map (λl=>(bz l).length)
 F:H.F.length=H.inf.many∧∀l∈H.F,l.length<=3∧∀f∈l,f.coefs.length<=12
 od:0<=H.od∧H.od<=1
 is:H.is<=1
 n:n<=b.length
theorem MR {r:Nat}{i:aG}(hr:r<=11)(h:i.may r)(hl:i.groups.length<=100):i.Fit:=by
 have h11:=iY hr h;have hmx:=mW h11;obtain⟨g1,g2⟩:=eR h11;exact⟨by have:=h.1;omega,by have:=h.2.1;omega,o_,o_,λn hn=>by grind⟩
abbrev QX (b:C_)(r:Nat)(x:R Hd):Prop:=∀H n,x=.ok H n->pHd b r H n
def CE {b:C_}{r:Int}{q:Bool}{iv:D_}{N R0:Nat}{e0:Int}{i:Nat}{cs cs2:D_}{nx nx2 od od2 is is2:Int}{x:R Hd}(hi:i<8)(f:FuncId)(caps:D_)(hF:yo[i]?=some (.fn f [] caps))(hF2:firm (firm (firm (share (.fn f [] caps))))=.fn f [] caps)
  (h:(Dn prog).call f caps ⟨fb b r q iv cs nx 0 od is,N⟩=some (.tup [],⟨fb b r q iv cs2 nx2 0 od2 is2,N⟩))(ho:V5 b r q iv N 0 (i+1) cs2 nx2 od2 is2 x∧QX b R0 x):V5 b r q iv N e0 i cs nx od is x∧QX b R0 x :=
 by grind [av3]
def CT {b:C_}{r:Int}{q:Bool}{iv:D_}{N R0:Nat}{e0:Int}{i:Nat}{cs:D_}{a0 a1 a2 a3 a4 a5 a6 a7 a8:AV}{nx nx2 od od2 is is2:Int}{e:Nat}(hi:i<8)(f:FuncId)(caps:D_)(hF:yo[i]?=some (.fn f [] caps))(hF2:firm (firm (firm (share (.fn f [] caps))))=.fn f [] caps)
  (h:(Dn prog).call f caps ⟨fb b r q iv cs nx 0 od is,N⟩=some (.tup [],⟨fb b r q iv [a0,a1,a2,a3,a4,a5,a6,a7,a8] nx2 ((e:Int)+1) od2 is2,N⟩)):V5 b r q iv N e0 i cs nx od is (.er e)∧QX b R0 (.er e) :=
 by grind [ayu]
def RP {b:C_}{i:aG}{a:Int}{g:H_}{n:Nat}(h:ma b i a=.ok g n):Qs b i.max.toNat i.groups.length g n:=by
 rw[ma]at h;split at h
 .exact M7 o_ h
 simp_all
def afp {b:C_}{g:H_}{a gain:Int}(hg:0<=gain∧gain<=255){t:O_}{n:Nat}(h:po b g a gain=.ok t n):pSc b g t n:=by
 rw[po]at h;split at h
 .rename_i ha;obtain⟨A,rfl⟩:=ay ha.1;exact JU o_ ⟨o_,o_⟩ ⟨o_,o_⟩ h
 simp_all
def PD (b:C_)(hb:b.length<=1000000000)(r:Int)(hr:eC r)(q:Bool)(i:aG)(hi:i.Fit)(iv:D_)(hiv:iv=i.cells∨q=false∧iv=zI)(hq:q=true->i.may r.toNat)(nx:Int)(hn:i64 nx)(e0:Int)(N:Nat) :
  V5 b r q iv N e0 0 adW nx 0 0 (Gi b nx r.toNat q i)∧QX b r.toNat (Gi b nx r.toNat q i):=by
 have hR:r.toNat<=11:=o_;rw[Gi];have h:=aw9 b hb r q iv nx 0 0 hn N (A_ 0) (.d (.int .u8 0)) (.d (.int .u8 0)) (A_ 0) .nl .nl .nl .nl .nl
 cases e1:aE b nx 8 with
 |er e=>rw[e1,ee]at h;exact CT d_ AQ B5 rfl rfl h
 |ok g n1 =>
 have p1:=cu e1;have hg:g<256:=p1.1;have hn1:=p1.2;have i1:i64 (n1:Int):=o_;rw[e1,b9 p1]at h;rw[ao];refine CE d_ AQ B5 rfl rfl h ?_;clear h;have key:∃X:R aG,X=(if q=true then R.ok i n1 else fW b n1 r.toNat)∧(∀j n,X=.ok j n->((j.Fit∧j.may r.toNat)∧n<=b.length)∧(Dn prog).call oM [.ptr 3 0,.ptr 4 0,.ptr 2 0,.ptr 0 0,.ptr 5 0,.ptr 1 0,.ptr 6 0] ⟨fb b r q iv [A_ g,.d (.int .u8 0),.d (.int .u8 0),A_ 0,.nl,.nl,.nl,.nl,.nl] n1 0 0 0,N⟩=some (.tup [],⟨fb b r q iv [A_ g,.d (.int .u8 j.seq),.d (.int .u8 j.shape),A_ j.max,.own false 1 (am j.groups),.nl,.nl,.nl,.nl] n 0 0 0,N⟩))∧
   (∀e,X=.er e->(Dn prog).call oM [.ptr 3 0,.ptr 4 0,.ptr 2 0,.ptr 0 0,.ptr 5 0,.ptr 1 0,.ptr 6 0] ⟨fb b r q iv [A_ g,.d (.int .u8 0),.d (.int .u8 0),A_ 0,.nl,.nl,.nl,.nl,.nl] n1 0 0 0,N⟩=some (.tup [],⟨fb b r q iv [A_ g,.d (.int .u8 0),.d (.int .u8 0),A_ 0,.nl,.nl,.nl,.nl,.nl] 0 ((e:Int)+1) 0 0,N⟩)):=by
  refine⟨_,rfl,λj n h=>?_,λe h=>?_⟩
  .grind [avM,aG.Fit.len,xI,ajC,b9,MR]
  .cases hqc:q with
   |true=>simp_all
   |false =>
    rw[hqc]at h;simp only[aq,bS]at h;have h3:=ajC b hb r false iv n1 0 0 i1 N rfl hr i (by have:=hi.len;omega) (hiv.imp id And.right) (A_ g) (.d (.int .u8 0)) (.d (.int .u8 0)) (A_ 0) .nl .nl .nl .nl .nl
    simp_all
 obtain⟨X,hX,hX1,hX2⟩:=key;rw[<-hX]
 cases e2:X with
 |er e=>exact CT d_ oM _ rfl rfl (hX2 e e2)
 |ok j n2 =>
 obtain⟨⟨⟨hj,hjm⟩,hn2⟩,h⟩:=hX1 j n2 e2;have i2:i64 (n2:Int):=o_;have hjm11:=iY hR hjm;have hmx:=mW hjm11;obtain⟨gr1,gr2⟩:=eR hjm11;have hmm:=km j;have hgn:j.groups≠[]:=λh=>by grind
 rw[ao];refine CE d_ oM _ rfl rfl h ?_;clear h hX hX1 hX2 e2 X;have h:=awp b hb r q iv n2 0 0 i2 N j hj hjm11 hgn (A_ g) .nl .nl .nl .nl
 cases e3:ma b j n2 with
 |er e=>rw[e3,ee]at h;exact CT d_ A7 B5 rfl rfl h
 |ok S n3 =>
 have p3:=RP e3;have hn3:=p3.2.1;have i3:i64 (n3:Int):=o_;obtain⟨s1,s2,s3,s4,s5⟩:=NJ hjm11 p3;rw[e3,b9 p3]at h;rw[ao];refine CE d_ A7 B5 rfl rfl h ?_;clear h;have h:=awb b hb r q iv n3 0 0 i3 N g o_ j.max hmx S s1 s2 s3.2 (λl hl=>by simp_all) s5 (.d (.int .u8 j.seq)) (.d (.int .u8 j.shape)) (A_ j.max) (.own false 1 (am j.groups)) .nl .nl .nl
 cases e4:po b S n3 g with
 |er e=>rw[e4,ee]at h;exact CT d_ Bs B5 rfl rfl h
 |ok T n4 =>
 have p4:=afp o_ e4;have hn4:=p4.2;have i4:i64 (n4:Int):=o_;rw[e4,b9 p4]at h;rw[ao];refine CE d_ Bs B5 rfl rfl h ?_;clear h;have h:=awe b hb r q iv n4 0 0 i4 N [A_ g,.d (.int .u8 j.seq),.d (.int .u8 j.shape),A_ j.max,.own false 1 (am j.groups),al 1 (bi S),share (al 1 (cT T)),.nl,.nl]
 cases e5:aE b n4 1 with
 |er e=>rw[e5,ee]at h;exact CT d_ A8 _ rfl rfl h
 |ok o n5 =>
 have p5:=cu e5;have ho:o<2:=p5.1;have hn5:=p5.2;have i5:i64 (n5:Int):=o_;rw[e5,b9 p5]at h;rw[ao];refine CE d_ A8 _ rfl rfl h ?_;clear h;have h:=axV b hb r q iv n5 o 0 i5 N [A_ g,.d (.int .u8 j.seq),.d (.int .u8 j.shape),A_ j.max,.own false 1 (am j.groups),al 1 (bi S),share (al 1 (cT T)),.nl,.nl]
 cases e6:aE b n5 1 with
 |er e=>rw[e6,ee]at h;exact CT d_ Bu _ rfl rfl h
 |ok s n6 =>
 have p6:=cu e6;have hs:s<2:=p6.1;have hn6:=p6.2;have i6:i64 (n6:Int):=o_;rw[e6,b9 p6]at h;rw[ao];refine CE d_ Bu _ rfl rfl h ?_;clear h;have key:∃X:R N_,X=(if s=1 then Cl b j n6 else R.ok (List.replicate j.many []) n6)∧(∀F n,X=.ok F n->pTn b j F n∧(Dn prog).call oK [.ptr 8 0,.ptr 0 0,.ptr 5 0,.ptr 4 0,.ptr 6 0] ⟨fb b r q iv [A_ g,.d (.int .u8 j.seq),.d (.int .u8 j.shape),A_ j.max,.own false 1 (am j.groups),al 1 (bi S),share (al 1 (cT T)),.nl,.nl] n6 0 o s,N⟩=some (.tup [],⟨fb b r q iv [A_ g,.d (.int .u8 j.seq),.d (.int .u8 j.shape),A_ j.max,.own false 1 (am j.groups),al 1 (bi S),share (al 1 (cT T)),al 1 (bv F),.nl] n 0 o s,N⟩))∧
   (∀e,X=.er e->(Dn prog).call oK [.ptr 8 0,.ptr 0 0,.ptr 5 0,.ptr 4 0,.ptr 6 0] ⟨fb b r q iv [A_ g,.d (.int .u8 j.seq),.d (.int .u8 j.shape),A_ j.max,.own false 1 (am j.groups),al 1 (bi S),share (al 1 (cT T)),.nl,.nl] n6 0 o s,N⟩=some (.tup [],⟨fb b r q iv [A_ g,.d (.int .u8 j.seq),.d (.int .u8 j.shape),A_ j.max,.own false 1 (am j.groups),al 1 (bi S),share (al 1 (cT T)),.nl,.nl] 0 ((e:Int)+1) o s,N⟩)):=by
  refine⟨_,rfl,λF n h=>?_,λe h=>?_⟩
  .by_cases h1:s=1
   .grind [MY,ai7,b9]
   .rw[aa h1]at h;injection h with g1 g2
    subst g1 g2;have h3:=atN b r q iv n6 o s N j hj hjm11 o_ (A_ g) (al 1 (bi S)) (share (al 1 (cT T))) .nl .nl;refine⟨⟨s_,hn6,λl hl=>by simp_all⟩,?_⟩;have e9:al 1 (bv (List.replicate j.many []))=.own false 1 (bv (List.replicate j.many [])):=fX (λhz=>by
     grind [KH])
    simp_all
  grind [ai7,ee]
 obtain⟨X,hX,hX1,hX2⟩:=key;rw[<-hX]
 cases e7:X with
 |er e=>exact CT d_ oK _ rfl rfl (hX2 e e7)
 |ok F n7 =>
 obtain⟨p7,h⟩:=hX1 F n7 e7;have i7:i64 (n7:Int):=o_;rw[ao];refine CE d_ oK _ rfl rfl h ?_;have h:=axI b hb r q iv n7 o s i7 N [A_ g,.d (.int .u8 j.seq),.d (.int .u8 j.shape),A_ j.max,.own false 1 (am j.groups),al 1 (bi S),share (al 1 (cT T)),al 1 (bv F),.nl] (by omega)
 cases e8:aE b n7 1 with
 |er e=>rw[e8,ee]at h;exact CT d_ Bd _ rfl rfl h
 |ok p n8 =>
 have p8:=cu e8;have hn8:=p8.2;rw[e8,b9 p8]at h;rw[ao];refine CE d_ Bd _ rfl rfl h ⟨⟨λH n hh=>?_,λe hh=>absurd hh s_⟩,λH n hh=>?_⟩
 .grind [auw]
 .injection hh with g1 g2
  subst g1 g2;exact⟨e_,hj,hjm,s3,s4,p4.1,⟨p7.1,p7.2.2⟩,by grind [Qy],e_,hn8⟩
structure GO where
 o1:Obj
 o2:Obj
 o3:Obj
 o7:Obj
 o8:Obj
 o9:Obj
 oX:Obj
 o14:Obj
 o15:Obj
 o16:Obj
abbrev GH (b:C_)(g:GO)(cs:D_)(nx e:Int)(Z:E_)(C:D_)(lo:Obj)(T:ak):ak:=(0,.cells [.d (.lst (ax b))])::(1,g.o1)::(2,g.o2)::(3,g.o3)::(4,.cells cs)::(5,.cells [A_ nx])::(6,.cells [A_ e])::(7,g.o7)::(8,g.o8)::(9,g.o9)::(10,g.oX)::(11,.arr 1 (am Z))::(12,.cells C)::(13,.cells [.ptr 12 0])::(14,g.o14)::(15,g.o15)::(16,g.o16)::(17,lo)::T
abbrev awN:aT:=[(5,.ptr 0 0),(10,.ptr 4 0),(11,.ptr 5 0),(12,.ptr 6 0),(13,.ptr 7 0),(14,.ptr 8 0),(18,.ptr 13 0),(82,.fn mg [] [.ptr 15 0,.ptr 14 0,.ptr 16 0])]
def asn {Z l:E_}{a:Nat}:aF (am Z) a (am l)=am (aF Z a l):=by simp[aF,am]
def avk {h:ak}{xs:F_}{id a b n:Nat}(hab:a<=b)(hb:b<=n)(hn:n<=1000000000)(hg:get h id=some (.arr 1 xs))(x y:Int)(hx:x=a)(hy:y=b):OX h 1 (.sl id 0 n) (some (A_ x)) (some (A_ y)) none=some (.sl id a (b-a)):=by
 subst hx hy;have e1:gJ (A_ (b:Int)) n=some b:=by rw[Xs o_ o_];simp
 have e2:gJ (A_ (a:Int)) b=some a:=by rw[Xs o_ o_];simp
 have e3:okSl h 1 (.sl id 0 n)=true:=by simp only[okSl,hg];rfl
 simp only[OX,e3,IY,lenOf,I4,Gp,e1,e2,b7]
def aut {h:ak}{Z l:E_}{id a n:Nat}{y:AV}(hn:l.length=n)(hb:a+n<=Z.length)(he:elems h y=some (am l))(hg:get h id=some (.arr 1 (am Z))):ahm 1 h (.sl id a n) y=some (.int .i64 (n:Nat),put h id (.arr 1 (am (aF Z a l)))):=by
 have e1:Nat.ble (a+n) (am Z).length=true:=by rw[bf,dc];exact hb
 have e2:min n (am l).length=n:=by rw[dc,hn,Nat.min_self]
 have e3:(am l).take n=am l:=bp (by rw[dc];omega);have e4:(gM 1 (am l) && Nat.beq 1 1 && Nat.ble (a+n) (am Z).length)=true:=by rw[afU,e1];rfl
 simp only[ahm,he,hg,e4,e2,e3,asn];rfl
def axw {F:D_->ak}{A N:Nat}(hL:∀C,Lt (F C) N)(hg:∀C T,get (F C++T) A=some (.cells C))(hp:∀C T C',put (F C++T) A (.cells C')=F C'++T):Bk (λC T=>F C++T) A N:=by
 refine⟨hg,hp,λC o=>?_,λC o o'=>aal (hL C),λC o=>Ui (hL C),λC o=>?_⟩
 .show put (F C++[]) N o=_;rw[aR];exact Nn (hL C)
 .show _=F C++[];rw[aR];exact aiT (hL C)
def awx (b:C_)(g:GO)(cs:D_)(nx e0:Int)(Z:E_)(lo:Obj)(K:Nat)(hK:18<=K)(o w:Obj)(N:Nat)(hN:K<N):Bk (λC T=>GH b g cs nx e0 Z C lo [(K,o),(N,w)]++T) 12 (N+1):=by
 refine axw (λC p hp=>?_) (λC T=>rfl) (λC T C'=>rfl);simp only[aD,gm,mJ]at hp;rcases hp with rfl|rfl|rfl|rfl|rfl|rfl|rfl|rfl|rfl|rfl|rfl|rfl|rfl|rfl|rfl|rfl|rfl|rfl|rfl|rfl<;>simp only[]<;>omega
abbrev rQ (d:Bool):Obj:=.loop awN [83] tY tR d none
abbrev OY:Obj:=.loop awN [83] tY tR false (some .ret)
abbrev plO (p:Nat×Nat):Obj:=.cells [A_ (p.1:Int),A_ (p.2:Int),A_ ((p.2+bt p.1:Nat):Int)]
def azU (b:C_)(g:GO)(a0 a1 a2 a3 a4 a5 a6 a7:AV)(nx e0:Int)(Z:E_)(hZ:Z.length=256)(C:D_)(hC:PV C)(p:Nat×Nat)(hp:(1<=p.1∧p.1<=11)∧p.2+bt p.1<=256)(l:E_)(hl:l.length=bt p.1)(n2:Nat)(hh:bn prog yS [.d (.lst (ax b)),A_ nx,nb p.1]=some (.tup [.own true 1 (am l),A_ n2,A_ 0]))(K:Nat)(o:Obj)(hK:18<=K)(N:Nat)(hN:K<N) :
  dD (Dn prog) (.yield 17) [.agg [A_ (p.1:Int),A_ (p.2:Int),A_ ((p.2+bt p.1:Nat):Int)]] ⟨GH b g [a0,a1,a2,a3,a4,a5,a6,a7,.sl 11 0 256] nx e0 Z C (rQ false) [(K,o)],N⟩ =
  some (B_ true,⟨GH b g [a0,a1,a2,a3,a4,a5,a6,a7,.sl 11 0 256] n2 0 (aF Z p.2 l) (aF C (4*p.1) (lH p.1)) (rQ false) [(K,o)],N+1+1⟩):=by
 obtain⟨h1,h2⟩:=hp;have hB:=abA (awx b g [a0,a1,a2,a3,a4,a5,a6,a7,.sl 11 0 256] nx e0 Z (rQ true) K hK o (plO p) N hN) C hC p.1 h1;have hs:=λC2=>avk (h:=GH b g [a0,a1,a2,a3,a4,a5,a6,a7,.sl 11 0 256] n2 0 Z C2 (rQ true) [(K,o),(N,plO p)]) (xs:=am Z) (id:=11) (a:=p.2) (b:=p.2+bt p.1) (n:=256) o_ h2 o_ rfl (p.2:Int) _ rfl rfl
 rw[uq]at hs;have hc:=λC2=>aut (h:=GH b g [a0,a1,a2,a3,a4,a5,a6,a7,.sl 11 0 256] n2 0 Z C2 (rQ true) [(K,o),(N,plO p)]) (id:=11) (a:=p.2) (n:=bt p.1) (y:=.own false 1 (am l)) hl o_ rfl rfl
 generalize aF C (4*p.1) (lH p.1)=C2 at *;replace hs:=hs C2;replace hc:=hc C2;obtain⟨TO,hT⟩:∃TO:Int,TO=((p.2+bt p.1:Nat):Int):=⟨_,rfl⟩
 simp only[GH,plO,rQ,aK,az,nb]at hB hs hc hh⊢;rw[<-hT]at hB hs hc⊢;obtain⟨o1,o2,o3,o7,o8,o9,oX,o14,o15,o16⟩:=g;simp only[]at *;have eA:∀st,(Dn prog).code tY st=(Dn prog).code Hy st:=λ_=>rfl
 have eB:∀st,(Dn prog).code tR st=(Dn prog).code (.block 3
  (.seq HV
  (.seq (.seq (.seq BK (Vm.K [18,84]))
  (.seq HC
  (.cond (.m 96)
  (.seq (.seq (Vm.K [20]) (F 19)) (.seq (.seq BM (Vm.K [12]))
  .ret))
  (.seq (Vm.K [11,12]) .skip))))
  (.seq Hz (F 19))))) st:=λ_=>rfl
 simp(config := { maxSteps:=9^7 }) (disch:=omega)[↓ac,↓aa,eA,eB,hh,hB,hs,hc]
def ay5 (b:C_)(g:GO)(a0 a1 a2 a3 a4 a5 a6 a7:AV)(nx e0:Int)(Z:E_)(C:D_)(hC:PV C)(p:Nat×Nat)(hp:(1<=p.1∧p.1<=11)∧p.2+bt p.1<=256)(e:Nat)(hh:bn prog yS [.d (.lst (ax b)),A_ nx,nb p.1]=some (.tup [.nl,A_ 0,A_ (e+1)]))(K:Nat)(o:Obj)(hK:18<=K)(N:Nat)(hN:K<N) :
  dD (Dn prog) (.yield 17) [.agg [A_ (p.1:Int),A_ (p.2:Int),A_ ((p.2+bt p.1:Nat):Int)]] ⟨GH b g [a0,a1,a2,a3,a4,a5,a6,a7,.sl 11 0 256] nx e0 Z C (rQ false) [(K,o)],N⟩ =
  some (B_ false,⟨GH b g adW 0 ((e:Int)+1) Z (aF C (4*p.1) (lH p.1)) OY [(K,o)],N+1+1⟩):=by
 obtain⟨h1,h2⟩:=hp;have hB:=abA (awx b g [a0,a1,a2,a3,a4,a5,a6,a7,.sl 11 0 256] nx e0 Z (rQ true) K hK o (plO p) N hN) C hC p.1 h1;generalize aF C (4*p.1) (lH p.1)=C2 at *;obtain⟨TO,hT⟩:∃TO:Int,TO=((p.2+bt p.1:Nat):Int):=⟨_,rfl⟩
 simp only[GH,plO,rQ,OY,aK,az,nb]at hB hh⊢;rw[<-hT]at hB⊢;obtain⟨o1,o2,o3,o7,o8,o9,oX,o14,o15,o16⟩:=g;simp only[]at *;have eA:∀st,(Dn prog).code tY st=(Dn prog).code Hy st:=λ_=>rfl
 have eB:∀st,(Dn prog).code tR st=(Dn prog).code (.block 3
  (.seq HV
  (.seq (.seq (.seq BK (Vm.K [18,84]))
  (.seq HC
  (.cond (.m 96)
  (.seq (.seq (Vm.K [20]) (F 19)) (.seq (.seq BM (Vm.K [12]))
  .ret))
  (.seq (Vm.K [11,12]) .skip))))
  (.seq Hz (F 19))))) st:=λ_=>rfl
 simp(config := { maxSteps:=9^7 }) (disch:=omega)[↓ac,↓aa,eA,eB,hh,hB]
abbrev gb:=@List.length_drop
abbrev c9:=@List.eq_of_mem_replicate
def PG {r:Nat}{jj:aG}{SS:H_}(hm:jj.may r)(hS:tF jj SS)(hr:r<=11){p:Nat×Nat}(hp:p∈nh (offs r jj.short) SS jj.groups 0):(1<=p.1∧p.1<=11)∧p.2+bt p.1<=256:=by
 have hm11:=iY hr hm;obtain⟨g1,g2⟩:=eR hm11;obtain⟨w,g,j,l,e1,e2,e3,e4,e5,e6,x,e7,e8⟩:=Ub hS.2 (λn hn=>(g1 n hn).1) hp;obtain⟨o1,o2,o3⟩:=BC (r,jj.short) (iZ o_);simp only at o1 o2 o3;have hmx:=hm.2.2.2.1;have hlm:l∈SS:=eM e1;have hbl:=abH (hS.2 l hlm) hm.2.2.1;have hjl:j<(bz l).length:=(bJ.1 e5).1;have hmy:nY r (decide (jj.seq=2))=(offs r jj.short).length-1:=rfl;have hj1:j+1<(offs r jj.short).length:=o_;have hoj:nth (offs r jj.short) j<nth (offs r jj.short) (j+1)∧(nth (offs r jj.short) (j+1)-nth (offs r jj.short) j) % 4=0:=by
  have:=bF.1 o1 j (fC.2 o_);simpa using this
 have hos:∀k,k+1<(offs r jj.short).length->nth (offs r jj.short) k<nth (offs r jj.short) (k+1):=λk hk=>by
  have:=bF.1 o1 k (fC.2 o_);simp only[af,decide_eq_true_eq]at this;exact this.1
 have hd4:bt p.1=4∨bt p.1=2:=by unfold bt;split<;>simp
 have hx:=UI (d:=bt p.1) o_ (by rcases hd4 with h|h<;>rw[h]<;>omega) e7;have hw:(w:Int)<jj.many:=o_;have ho256:nth (offs r jj.short) (j+1)<=cond jj.short 32 256:=by
  have:=bF.1 o3 _ (iL hj1);simpa using this
 have hcond:(cond jj.short 32 256:Nat)=jj.wide:=by
  unfold aG.short aG.wide;by_cases h:jj.seq=2
  .rw[dT_ h,ac h];rfl
  .rw[dF_ h,aa h];rfl
 rw[hcond]at ho256;have hww:w*32=w*jj.wide∧w*jj.wide+jj.wide<=256:=by
  unfold aG.many at hw;unfold aG.wide;split at hw
  .rename_i h2;rw[ac h2];omega
  .rename_i h2;rw[aa h2];omega
 exact⟨e6,o_⟩
def anj:∀id∈List.range 12,1<=id->dI id=bt id:=g_
def dn (b:C_):Q_->Nat->E_->R E_
 |[],n,Z=>.ok Z n
 |p::r,n,Z=>(xw p.1 b n).bind λl m=>dn b r m (aF Z p.2 l)
abbrev StG:Type:=D_×Nat×E_
abbrev Wj (b:C_)(p:Nat×Nat)(s:StG):Sum StG (D_×Nat×E_):=match xw p.1 b s.2.1 with
 |.ok l n=>.inl (aF s.1 (4*p.1) (lH p.1),n,aF s.2.2 p.2 l)
 |.er e=>.inr (aF s.1 (4*p.1) (lH p.1),e,s.2.2)
abbrev mZ:D_:=[A_ 0,.d (.int .u8 0),.d (.int .u8 0),A_ 0,.nl,.nl,.nl,.nl,.nl]
abbrev aDj (B:Nat)(r:Q_)(s:StG):Prop:=PV s.1∧s.2.1<=B∧s.2.2.length=256∧(∀x∈s.2.2,-40000<=x∧x<=40000)∧∀p∈r,(1<=p.1∧p.1<=11)∧p.2+bt p.1<=256
def aeT {Z l:E_}{a:Nat}(h:a+l.length<=Z.length):(aF Z a l).length=Z.length:=by
 simp only[aF,aN,fp,gb];omega
def avs {Z l:E_}{a:Nat}{x:Int}(h:x∈aF Z a l):x∈Z∨x∈l:=by
 simp only[aF,bj]at h;rcases h with (h|h)|h
 .exact .inl (iu h)
 .exact .inr h
 .exact .inl (cU h)
def aAD (b:C_)(hb:b.length<=1000000000)(g:GO)(a0 a1 a2 a3 a4 a5 a6 a7:AV):Xh (fun(s:StG) T=>GH b g [a0,a1,a2,a3,a4,a5,a6,a7,.sl 11 0 256] s.2.1 0 s.2.2 s.1 (rQ false) T) (fun(z:D_×Nat×E_) T=>GH b g mZ 0 ((z.2.1:Int)+1) z.2.2 z.1 OY T) 18 17 (Wj b) (aDj b.length):=by
 intro p r s K o N hi hK hN;obtain⟨C,n0,Z⟩:=s;obtain⟨i1,i2,i3,i4,i5⟩:=hi;simp only at i1 i2 i3 i4;have hp:=i5 p (.head _);have hH:=arm p.1 b n0 hb o_ hp.1;have hd:=anj p.1 (fC.2 o_) hp.1.1
 cases e:xw p.1 b n0 with
 |ok l n =>
  have hq:=akh ⟨hp.1.1,o_⟩ e;rw[e,b9 hq]at hH;obtain⟨q1,q2,q3⟩:=hq;have hl:l.length=bt p.1:=o_;refine .inl ⟨(aF C (4*p.1) (lH p.1),n,aF Z p.2 l),N+1+1,o_,by simp only[Wj,e],⟨aof i1 hp.1,q2,?_,λx hx=>?_,λq hq=>i5 q (.tail _ hq)⟩,azU b g a0 a1 a2 a3 a4 a5 a6 a7 n0 0 Z i3 C i1 p hp l hl n hH K o hK N hN⟩
  .show(aF Z p.2 l).length=256;rw[aeT o_];exact i3
  .rcases avs hx with h|h
   .exact i4 x h
   .exact q3 x h
 |er e2 =>
  rw[e,ee]at hH;exact .inr ⟨(aF C (4*p.1) (lH p.1),e2,Z),N+1+1,o_,by simp only[Wj,e],ay5 b g a0 a1 a2 a3 a4 a5 a6 a7 n0 0 Z C i1 p hp e2 hH K o hK N hN⟩
def atr {b:C_}:∀{r:Q_}{C:D_}{n:Nat}{Z:E_},(∀Z2 m,dn b r n Z=.ok Z2 m->∃C2,lC (Wj b) r (C,n,Z)=.inl (C2,m,Z2))∧∀e,dn b r n Z=.er e->∃C2 Z2,lC (Wj b) r (C,n,Z)=.inr (C2,e,Z2)
 |[],C,n,Z=>⟨λZ2 m h=>by
   injection h with g1 g2
   subst g1 g2;exact⟨C,rfl⟩,λe h=>absurd h (by simp[dn])⟩
 |p::r,C,n,Z=>by
  rw[dn,lC]
  cases e:xw p.1 b n with
  |ok l m =>
   simp only[Wj,e,ao];exact atr
  |er e2 =>
   simp only[Wj,e];exact⟨λZ2 m h=>absurd h s_,λe3 h=>by
    injection h with h
    subst h;exact⟨_,_,rfl⟩⟩
def as5 {b:C_}{g:GO}{cs:D_}{nx e0:Int}{Z:E_}{C:D_}{lo:Obj}{L:Nat}(hL:18<=L):Lt (GH b g cs nx e0 Z C lo []) L:=by
 intro p hp;simp only[aD,gm,mJ]at hp;rcases hp with rfl|rfl|rfl|rfl|rfl|rfl|rfl|rfl|rfl|rfl|rfl|rfl|rfl|rfl|rfl|rfl|rfl|rfl<;>simp only[]<;>omega
def ank {σ:Type}{F:σ->ak}{L:Nat}(hL:∀s,Lt (F s) L):Tl (λs T=>F s++T) L:=by
 refine⟨λs K o h=>?_,λs K o o' h=>aal (ad5 (hL s) h),λs K o h=>Ui (ad5 (hL s) h),λs K o h=>?_⟩
 .show put (F s++[]) K o=_;rw[aR];exact Nn (ad5 (hL s) h)
 .show _=F s++[];rw[aR];exact aiT (ad5 (hL s) h)
abbrev If (r:Nat)(jj:aG)(S:H_):Q_:=nh (offs r jj.short) S jj.groups 0
abbrev Z0:E_:=List.replicate 256 0
def acm (b:C_)(hb:b.length<=1000000000)(g:GO)(a0 a1 a2 a3 a4 a5 a6 a7:AV)(r:Nat)(hr:r<=11)(jj:aG)(hj:jj.Fit)(hm:jj.may r)(S:H_)(hS:tF jj S)(g14:g.o14=.cells jj.cells)(g15:g.o15=.cells [.d (.lst (bi S))])(g16:g.o16=.cells [.own false 1 (aS (offs r jj.short))])(n:Nat)(hn:n<=b.length) :
  (∀Z m,dn b (If r jj S) n Z0=.ok Z m->Z.length=256∧(∀x∈Z,-40000<=x∧x<=40000)∧m<=b.length∧∃C2 M,(Dn prog).call mg [.yield 17,.ptr 15 0,.ptr 14 0,.ptr 16 0] ⟨GH b g [a0,a1,a2,a3,a4,a5,a6,a7,.sl 11 0 256] n 0 Z0 E9 (rQ false) [],18⟩=some (.tup [],⟨GH b g [a0,a1,a2,a3,a4,a5,a6,a7,.sl 11 0 256] m 0 Z C2 (rQ false) [],M⟩))∧
  (∀e,dn b (If r jj S) n Z0=.er e->∃C2 Z2 M,(Dn prog).call mg [.yield 17,.ptr 15 0,.ptr 14 0,.ptr 16 0] ⟨GH b g [a0,a1,a2,a3,a4,a5,a6,a7,.sl 11 0 256] n 0 Z0 E9 (rQ false) [],18⟩=some (.tup [],⟨GH b g mZ 0 ((e:Int)+1) Z2 C2 OY [],M⟩)):=by
 obtain⟨o1,o2,o3,o4⟩:=acA (r,jj.short) (iZ o_);obtain⟨p1,p2,p3⟩:=BC (r,jj.short) (iZ o_);simp only at o1 o2 o3 o4 p1 p2 p3;have hmx:=hm.2.2.2.1;have hmy:nY r (decide (jj.seq=2))=(offs r jj.short).length-1:=rfl;have hhi:∀x∈offs r jj.short,x<=256:=λx hx=>by
  have:=bF.1 p3 x hx;simp only[decide_eq_true_eq]at this;have:(cond jj.short 32 256:Nat)<=256:=by cases jj.short<;>decide
  omega
 have hT:Tl (fun(s:StG) T=>GH b g [a0,a1,a2,a3,a4,a5,a6,a7,.sl 11 0 256] s.2.1 0 s.2.2 s.1 (rQ false) T) 18:=ank (F:=fun(s:StG)=>GH b g [a0,a1,a2,a3,a4,a5,a6,a7,.sl 11 0 256] s.2.1 0 s.2.2 s.1 (rQ false) []) (λs=>as5 (ai _));have hT2:Tl (fun(z:D_×Nat×E_) T=>GH b g mZ 0 ((z.2.1:Int)+1) z.2.2 z.1 OY T) 18:=ank (F:=fun(z:D_×Nat×E_)=>GH b g mZ 0 ((z.2.1:Int)+1) z.2.2 z.1 OY []) (λs=>as5 (ai _));have hpl:=aqf (P:=⟨17,14,16,S,offs r jj.short⟩) jj hj (iY hr hm) 15 hT hT2 (aAD b hb g a0 a1 a2 a3 a4 a5 a6 a7) (λs=>by rw[<-g15];rfl) (λs T=>by rw[<-g14];rfl) (λs T=>by rw[<-g16];rfl) w_ hhi w_ hS 18 (ai _) (E9,n,Z0) ⟨aqq,hn,by simp only[bE],λx hx=>by rw[c9 hx];omega,λp hp=>PG hm hS hr hp⟩;have hru:=atr (b:=b) (r:=If r jj S) (C:=E9) (n:=n) (Z:=Z0);refine⟨λZ m e=>?_,λe1 e=>?_⟩
 .obtain⟨C2,h1⟩:=hru.1 Z m e;rcases hpl with ⟨s2,M,hM,e1,⟨i1,i2,i3,i4,i5⟩,e5⟩|⟨z,M,hM,e1,e3⟩
  .rw[h1]at e1;injection e1 with e1
   subst e1;exact⟨i3,i4,i2,C2,M,e5⟩
  .rw[h1]at e1;exact absurd e1 (by simp)
 .obtain⟨C2,Z2,h1⟩:=hru.2 e1 e;rcases hpl with ⟨s2,M,hM,e1,⟨i1,i2,i3,i4,i5⟩,e5⟩|⟨z,M,hM,e1,e3⟩
  .rw[h1]at e1;exact absurd e1 (by simp)
  .rw[h1]at e1;injection e1 with e1
   subst e1;exact⟨C2,Z2,M,e3⟩
abbrev d8:=@List.exists_cons_of_ne_nil
def atm:Em [.int .i64 0] (A_ 256) (A_ 256)=some (.own true 1 (am Z0)):=(yW (z:=[.int .i64 0]) (n:=256) o_).trans (by simp[am])
def aoJ:(am Z0).length=256:=by rw[dc,bE]
abbrev Uq (H:Hd)(Z:E_):D_:=[A_ H.gain,.d (.int .u8 H.inf.seq),.d (.int .u8 H.inf.shape),A_ H.inf.max,.d (.lst (am H.inf.groups)),.d (.lst (bi H.S)),.d (.lst (cT H.T)),.d (.lst (bv H.F)),.own true 1 (am Z)]
def akA:∀r<12,(bn prog yw [A_ ((r:Nat):Int),.agg zI]=some (A_ 8)):=by
 intro r hr;have:r=0∨r=1∨r=2∨r=3∨r=4∨r=5∨r=6∨r=7∨r=8∨r=9∨r=10∨r=11:=o_;rcases this with rfl|rfl|rfl|rfl|rfl|rfl|rfl|rfl|rfl|rfl|rfl|rfl<;>exact Fq 400 (by kernel_rfl)
def OD {r:Nat}{q:Bool}{i:aG}{iv:D_}(hr:r<=11)(hi:i.Fit)(hiv:iv=i.cells∨q=false∧iv=zI)(hq:q=true->i.may r):∃k:Int,(q=true->k=0)∧bn prog yw [A_ r,.agg iv]=some (A_ k):=by
 rcases hiv with rfl|⟨rfl,rfl⟩
 .have hI:=IA r i hi;rw[ac o_,au]at hI;by_cases hm:i.may r
  .rw[ac hm]at hI;exact⟨0,λ_=>rfl,hI⟩
  .rw[aa hm]at hI;exact⟨8,λh=>absurd (hq h) hm,hI⟩
 .exact⟨8,λh=>absurd h s_,akA r o_⟩
def au6 (b:C_)(hb:b.length<=1000000000)(a:Int)(ha:i64 a)(r:Nat)(hr:r<=11)(q:Bool)(i:aG)(hi:i.Fit)(iv:D_)(hiv:iv=i.cells∨q=false∧iv=zI)(hq:q=true->i.may r)(n0:Nat)(e0:aE b a 0=.ok 0 n0)(H:Hd)(n:Nat)(eH:Gi b n0 r q i=.ok H n)(Z:E_)(m:Nat)(eL:dn b (If r H.inf H.S) n Z0=.ok Z m):bn prog uE [.d (.lst (ax b)),A_ a,A_ r,B_ q,.agg iv] =
  if H.od=0∧(H.is=1->kF H.F=true) then some (.tup [.agg (Uq H Z),A_ m,A_ 0])
  else some (.tup [.agg mZ,A_ 0,A_ 8]):=by
 have hR:eC (r:Int):=o_;have hB:=io b a 0 hb ha;have p0:=cu e0;rw[e0,b9 p0]at hB;obtain⟨k,hk0,hI⟩:=OD hr hi hiv hq;have hh:=PD b hb r hR q i hi iv hiv (λh=>by rw[au];exact hq h) n0 (by have:=p0.2;omega) k 11;rw[au]at hh;have p1:=hh.2 H n eH;have hl:=hh.1.1 H n eH;have hM:=kX r false;rw[ac hR]at hM;obtain⟨G,j,S,T,Ft,od,is⟩:=H;have hF:=agB Ft (by have:=p1.F.1;simp only at this;have:=km j;omega) (λl hl=>by have:=(p1.F.2 l hl).1;omega);simp only[agp]at hl eL;obtain⟨q1,q2,q3,C2,M,hp⟩:=(acm b hb ⟨.cells [.junk],.cells [B_ q],.cells iv,.cells [A_ od],.cells [A_ is],.cells [af1],.cells yo,.cells j.cells,.cells [.d (.lst (bi S))],.cells [.own false 1 (aS (offs r j.short))]⟩ (A_ G) (.d (.int .u8 j.seq)) (.d (.int .u8 j.shape)) (A_ j.max) (.own false 1 (am j.groups)) (al 1 (bi S)) (share (al 1 (cT T))) (al 1 (bv Ft)) r hr j p1.fit p1.may S p1.S rfl rfl rfl n p1.n).1 Z m eL;have hj11:=iY hr p1.may;have hSl:S.length=j.groups.length:=p1.S.1;have hTl:=aY List.length p1.T;simp only[gU]at hTl;have hFl:=p1.F.1;simp only at hFl;have hmn:=km j;have hgn:j.groups≠[]:=λh=>by have:=(eR hj11).2;rw[h]at this;simp at this;omega
 have hg1:=bG.2 hgn;obtain⟨s1,S1,rfl⟩:=d8 (bG.1 (show 0<S.length by omega));obtain⟨t1,T1,rfl⟩:=d8 (bG.1 (show 0<T.length by omega));obtain⟨f1,F1,rfl⟩:=d8 (bG.1 (show 0<Ft.length by omega));have eS:al 1 (bi (s1::S1))=.own false 1 (bi (s1::S1)):=rfl;have eT:share (al 1 (cT (t1::T1)))=.d (.lst (cT (t1::T1))):=rfl;have eF:al 1 (bv (f1::F1))=.own false 1 (bv (f1::F1)):=rfl;have hP:=YY r hr j (.lst (bi (s1::S1))) [(0,.cells [.d (.lst (ax b))]),(1,.cells [.junk]),(2,.cells [B_ q]),(3,.cells iv),(4,.cells [A_ G,.d (.int .u8 j.seq),.d (.int .u8 j.shape),A_ j.max,.own false 1 (am j.groups),.own false 1 (bi (s1::S1)),.d (.lst (cT (t1::T1))),.own false 1 (bv (f1::F1)),.sl 11 0 256]),(5,.cells [A_ n]),(6,.cells [A_ 0]),(7,.cells [A_ od]),(8,.cells [A_ is]),(9,.cells [af1]),(10,.cells yo),(11,.arr 1 (am Z0)),(12,.cells E9),(13,.cells [.ptr 12 0])] 14 (λp hp=>by
  simp only[aD,gm,mJ]at hp;rcases hp with rfl|rfl|rfl|rfl|rfl|rfl|rfl|rfl|rfl|rfl|rfl|rfl|rfl|rfl<;>simp only[]<;>omega)
 have c0:((0:Nat):Int)=0:=rfl;rw[eS,eT,eF]at hl hp;simp only[Uq,aG.cells,GH,rQ,aK,az,c0]at hI hl hp hP hB⊢;clear hh p1 eL eH q2 eS eT eF hi;generalize bi (s1::S1)=SS at *;generalize cT (t1::T1)=TT at *;generalize bv (f1::F1)=FF at *;generalize hz:am Z0=z0 at *;have hk:=atm;have hz2:=aoJ;rw[hz]at hk hz2;rw[aL G9 G8 rfl];have hmk:Ue 1 yo=true:=rfl;simp only[yo,B5]at hmk;have hZt:List.take 256 Z=Z:=bp o_;have hoi:(od=0∧((((is:Nat):Int)=1∧kF (f1::F1)=true)∨(((is:Nat):Int)≠1)))∨(od=0∧((is:Nat):Int)=1∧kF (f1::F1)=false)∨od≠0:=by
  cases kF (f1::F1)<;>simp<;>omega
 have hii:(is=1)=(((is:Nat):Int)=1):=propext o_;simp only[hii];clear hii;generalize kF (f1::F1)=an at *;generalize ((is:Nat):Int)=iz at *;rcases hoi with ⟨h1,⟨h2,h3⟩|h2⟩|⟨h1,h2,h3⟩|h1
 .subst h3;rw[ac ⟨h1,λ_=>rfl⟩];rcases hiv with rfl|⟨rfl,rfl⟩
  .simp only[aG.cells]at hI hl hp hP⊢
   cases q with
   |true =>
    have:=hk0 rfl;subst this;simp(config := { maxSteps:=9^7 }) (disch:=omega)[↓ac,↓aa,rd,hB,hM,hI,hl,hk,hz2,hP,hp,hmk,hF,q1,hZt]
   |false=>simp(config := { maxSteps:=9^7 }) (disch:=omega)[↓ac,↓aa,rd,hB,hM,hI,hl,hk,hz2,hP,hp,hmk,hF,q1,hZt]
  .simp only[zI]at hI hl hp hP⊢;simp(config := { maxSteps:=9^7 }) (disch:=omega)[↓ac,↓aa,rd,hB,hM,hI,hl,hk,hz2,hP,hp,hmk,hF,q1,hZt]
 .rw[ac ⟨h1,λh=>absurd h h2⟩];rcases hiv with rfl|⟨rfl,rfl⟩
  .simp only[aG.cells]at hI hl hp hP⊢
   cases q with
   |true =>
    have:=hk0 rfl;subst this;simp(config := { maxSteps:=9^7 }) (disch:=omega)[↓ac,↓aa,rd,hB,hM,hI,hl,hk,hz2,hP,hp,hmk,hF,q1,hZt]
   |false=>simp(config := { maxSteps:=9^7 }) (disch:=omega)[↓ac,↓aa,rd,hB,hM,hI,hl,hk,hz2,hP,hp,hmk,hF,q1,hZt]
  .simp only[zI]at hI hl hp hP⊢;simp(config := { maxSteps:=9^7 }) (disch:=omega)[↓ac,↓aa,rd,hB,hM,hI,hl,hk,hz2,hP,hp,hmk,hF,q1,hZt]
 .subst h3;rw[aa (λh=>absurd (h.2 h2) s_)];rcases hiv with rfl|⟨rfl,rfl⟩
  .simp only[aG.cells]at hI hl hp hP⊢
   cases q with
   |true =>
    have:=hk0 rfl;subst this;simp(config := { maxSteps:=9^7 }) (disch:=omega)[↓ac,↓aa,rd,hB,hM,hI,hl,hk,hz2,hP,hp,hmk,hF,q1,hZt]
   |false=>simp(config := { maxSteps:=9^7 }) (disch:=omega)[↓ac,↓aa,rd,hB,hM,hI,hl,hk,hz2,hP,hp,hmk,hF,q1,hZt]
  .simp only[zI]at hI hl hp hP⊢;simp(config := { maxSteps:=9^7 }) (disch:=omega)[↓ac,↓aa,rd,hB,hM,hI,hl,hk,hz2,hP,hp,hmk,hF,q1,hZt]
 .rw[aa (λh=>absurd h.1 h1)];rcases hiv with rfl|⟨rfl,rfl⟩
  .simp only[aG.cells]at hI hl hp hP⊢
   cases q with
   |true =>
    have:=hk0 rfl;subst this;simp(config := { maxSteps:=9^7 }) (disch:=omega)[↓ac,↓aa,rd,hB,hM,hI,hl,hk,hz2,hP,hp,hmk,hF,q1,hZt]
   |false=>simp(config := { maxSteps:=9^7 }) (disch:=omega)[↓ac,↓aa,rd,hB,hM,hI,hl,hk,hz2,hP,hp,hmk,hF,q1,hZt]
  .simp only[zI]at hI hl hp hP⊢;simp(config := { maxSteps:=9^7 }) (disch:=omega)[↓ac,↓aa,rd,hB,hM,hI,hl,hk,hz2,hP,hp,hmk,hF,q1,hZt]
abbrev ig:=@Classical.byContradiction
def aoO (b:C_)(hb:b.length<=1000000000)(a:Int)(ha:i64 a)(r:Nat)(hr:r<=11)(q:Bool)(i:aG)(iv:D_)(hiv:iv=i.cells∨q=false∧iv=zI)(e:Nat)(e0:aE b a 0=.er e):bn prog uE [.d (.lst (ax b)),A_ a,A_ r,B_ q,.agg iv] =
  some (.tup [.agg mZ,A_ 0,A_ (e+1)]):=by
 have hR:eC (r:Int):=o_;have hB:=io b a 0 hb ha;rw[e0,ee]at hB;have hM:=kX r false;rw[ac hR]at hM;rcases hiv with rfl|⟨rfl,rfl⟩
 all_goals
  simp only[aG.cells,zI];rw[aL G9 G8 rfl];simp(config := { maxSteps:=9^7 }) (disch:=omega)[↓ac,↓aa,rd,hB,hM]
def ask (b:C_)(hb:b.length<=1000000000)(a:Int)(ha:i64 a)(r:Nat)(hr:r<=11)(i:aG)(hi:i.Fit)(hm:¬i.may r)(n0:Nat)(e0:aE b a 0=.ok 0 n0):bn prog uE [.d (.lst (ax b)),A_ a,A_ r,B_ true,.agg i.cells] =
  some (.tup [.agg mZ,A_ 0,A_ 8]):=by
 have hR:eC (r:Int):=o_;have hB:=io b a 0 hb ha;have p0:=cu e0;rw[e0,b9 p0]at hB;have hM:=kX r false;rw[ac hR]at hM;have hI:=IA r i hi;rw[ac hR,au,aa hm]at hI;have c0:((0:Nat):Int)=0:=rfl;simp only[aG.cells,c0]at hI hB⊢;rw[aL G9 G8 rfl];simp(config := { maxSteps:=9^7 }) (disch:=omega)[↓ac,↓aa,rd,hB,hM,hI]
def aqH (b:C_)(hb:b.length<=1000000000)(a:Int)(ha:i64 a)(r:Nat)(hr:r<=11)(q:Bool)(i:aG)(hi:i.Fit)(iv:D_)(hiv:iv=i.cells∨q=false∧iv=zI)(hq:q=true->i.may r)(n0:Nat)(e0:aE b a 0=.ok 0 n0)(e:Nat)(eH:Gi b n0 r q i=.er e):bn prog uE [.d (.lst (ax b)),A_ a,A_ r,B_ q,.agg iv] =
  some (.tup [.agg mZ,A_ 0,A_ (e+1)]):=by
 have hR:eC (r:Int):=o_;have hB:=io b a 0 hb ha;have p0:=cu e0;rw[e0,b9 p0]at hB;obtain⟨k,hk0,hI⟩:=OD hr hi hiv hq;have hh:=PD b hb r hR q i hi iv hiv (λh=>by rw[au];exact hq h) n0 (by have:=p0.2;omega) k 11;rw[au]at hh;obtain⟨od2,is2,hl⟩:=hh.1.2 e eH;have hM:=kX r false;rw[ac hR]at hM;have c0:((0:Nat):Int)=0:=rfl;simp only[aG.cells,c0]at hI hl hB⊢;clear hh eH hi hq;rw[aL G9 G8 rfl];have hmk:Ue 1 yo=true:=rfl;simp only[yo,B5]at hmk;rcases hiv with rfl|⟨rfl,rfl⟩
 .simp only[aG.cells]at hI hl⊢
  cases q with
  |true =>
   have:=hk0 rfl;subst this;simp(config := { maxSteps:=9^7 }) (disch:=omega)[↓ac,↓aa,rd,hB,hM,hI,hl,hmk]
  |false=>simp(config := { maxSteps:=9^7 }) (disch:=omega)[↓ac,↓aa,rd,hB,hM,hI,hl,hmk]
 .simp only[zI]at hI hl⊢;simp(config := { maxSteps:=9^7 }) (disch:=omega)[↓ac,↓aa,rd,hB,hM,hI,hl,hmk]
def aqE (b:C_)(hb:b.length<=1000000000)(a:Int)(ha:i64 a)(r:Nat)(hr:r<=11)(q:Bool)(i:aG)(hi:i.Fit)(iv:D_)(hiv:iv=i.cells∨q=false∧iv=zI)(hq:q=true->i.may r)(n0:Nat)(e0:aE b a 0=.ok 0 n0)(H:Hd)(n:Nat)(eH:Gi b n0 r q i=.ok H n)(e:Nat)(eL:dn b (If r H.inf H.S) n Z0=.er e):bn prog uE [.d (.lst (ax b)),A_ a,A_ r,B_ q,.agg iv] =
  some (.tup [.agg mZ,A_ 0,A_ (e+1)]):=by
 have hR:eC (r:Int):=o_;have hB:=io b a 0 hb ha;have p0:=cu e0;rw[e0,b9 p0]at hB;obtain⟨k,hk0,hI⟩:=OD hr hi hiv hq;have hh:=PD b hb r hR q i hi iv hiv (λh=>by rw[au];exact hq h) n0 (by have:=p0.2;omega) k 11;rw[au]at hh;have p1:=hh.2 H n eH;have hl:=hh.1.1 H n eH;have hM:=kX r false;rw[ac hR]at hM;obtain⟨G,j,S,T,Ft,od,is⟩:=H;simp only[agp]at hl eL;obtain⟨C2,Z2,M,hp⟩:=(acm b hb ⟨.cells [.junk],.cells [B_ q],.cells iv,.cells [A_ od],.cells [A_ is],.cells [af1],.cells yo,.cells j.cells,.cells [.d (.lst (bi S))],.cells [.own false 1 (aS (offs r j.short))]⟩ (A_ G) (.d (.int .u8 j.seq)) (.d (.int .u8 j.shape)) (A_ j.max) (.own false 1 (am j.groups)) (al 1 (bi S)) (share (al 1 (cT T))) (al 1 (bv Ft)) r hr j p1.fit p1.may S p1.S rfl rfl rfl n p1.n).2 e eL;have hj11:=iY hr p1.may;have hSl:S.length=j.groups.length:=p1.S.1;have hTl:=aY List.length p1.T;simp only[gU]at hTl;have hFl:=p1.F.1;simp only at hFl;have hmn:=km j;have hgn:j.groups≠[]:=λh=>by have:=(eR hj11).2;rw[h]at this;simp at this;omega
 have hg1:=bG.2 hgn;obtain⟨s1,S1,rfl⟩:=d8 (bG.1 (show 0<S.length by omega));obtain⟨t1,T1,rfl⟩:=d8 (bG.1 (show 0<T.length by omega));obtain⟨f1,F1,rfl⟩:=d8 (bG.1 (show 0<Ft.length by omega));have eS:al 1 (bi (s1::S1))=.own false 1 (bi (s1::S1)):=rfl;have eT:share (al 1 (cT (t1::T1)))=.d (.lst (cT (t1::T1))):=rfl;have eF:al 1 (bv (f1::F1))=.own false 1 (bv (f1::F1)):=rfl;have hP:=YY r hr j (.lst (bi (s1::S1))) [(0,.cells [.d (.lst (ax b))]),(1,.cells [.junk]),(2,.cells [B_ q]),(3,.cells iv),(4,.cells [A_ G,.d (.int .u8 j.seq),.d (.int .u8 j.shape),A_ j.max,.own false 1 (am j.groups),.own false 1 (bi (s1::S1)),.d (.lst (cT (t1::T1))),.own false 1 (bv (f1::F1)),.sl 11 0 256]),(5,.cells [A_ n]),(6,.cells [A_ 0]),(7,.cells [A_ od]),(8,.cells [A_ is]),(9,.cells [af1]),(10,.cells yo),(11,.arr 1 (am Z0)),(12,.cells E9),(13,.cells [.ptr 12 0])] 14 (λp hp=>by
  simp only[aD,gm,mJ]at hp;rcases hp with rfl|rfl|rfl|rfl|rfl|rfl|rfl|rfl|rfl|rfl|rfl|rfl|rfl|rfl<;>simp only[]<;>omega)
 have c0:((0:Nat):Int)=0:=rfl;rw[eS,eT,eF]at hl hp;simp only[aG.cells,GH,rQ,OY,aK,az,c0]at hI hl hp hP hB⊢;clear hh p1 eL eH eS eT eF hi;generalize bi (s1::S1)=SS at *;generalize cT (t1::T1)=TT at *;generalize bv (f1::F1)=FF at *;generalize hz:am Z0=z0 at *;have hk:=atm;have hz2:=aoJ;rw[hz]at hk hz2;rw[aL G9 G8 rfl];have hmk:Ue 1 yo=true:=rfl;simp only[yo,B5]at hmk;rcases hiv with rfl|⟨rfl,rfl⟩
 .simp only[aG.cells]at hI hl hp hP⊢
  cases q with
  |true =>
   have:=hk0 rfl;subst this;simp(config := { maxSteps:=9^7 }) (disch:=omega)[↓ac,↓aa,rd,hB,hM,hI,hl,hk,hz2,hP,hp,hmk]
  |false=>simp(config := { maxSteps:=9^7 }) (disch:=omega)[↓ac,↓aa,rd,hB,hM,hI,hl,hk,hz2,hP,hp,hmk]
 .simp only[zI]at hI hl hp hP⊢;simp(config := { maxSteps:=9^7 }) (disch:=omega)[↓ac,↓aa,rd,hB,hM,hI,hl,hk,hz2,hP,hp,hmk]
def Cp (b:C_)(a:Int)(r:Nat)(q:Bool)(i:aG):R (Hd×E_) :=
 (aE b a 0).bind λ_ n=>if q=true∧¬i.may r then .er 7 else (Gi b n r q i).bind λH n=>(dn b (If r H.inf H.S) n Z0).bind λZ m=>if H.od=0∧(H.is=1->kF H.F=true) then .ok (H,Z) m else .er 7
abbrev aqh (x:R (Hd×E_)):L_:=match x with
 |.ok v m=>some (.tup [.agg (Uq v.1 v.2),A_ m,A_ 0])
 |.er e=>some (.tup [.agg mZ,A_ 0,A_ (e+1)])
def ajG (b:C_)(hb:b.length<=1000000000)(a:Int)(ha:i64 a)(r:Nat)(hr:r<=11)(q:Bool)(i:aG)(hi:i.Fit)(iv:D_)(hiv:iv=i.cells∨q=false∧iv=zI):bn prog uE [.d (.lst (ax b)),A_ a,A_ r,B_ q,.agg iv]=aqh (Cp b a r q i):=by
 unfold Cp
 cases e0:aE b a 0 with
 |er e=>exact aoO b hb a ha r hr q i iv hiv e e0
 |ok v n0 =>
 have hv:v=0:=by have:v<1:=(cu e0).1;omega
 subst hv;rw[ao];by_cases hm:q=true∧¬i.may r
 .rw[ac hm];obtain⟨rfl,hm⟩:=hm
  cases hiv.resolve_right λh=>absurd h.1 (by simp)
  exact ask b hb a ha r hr i hi hm n0 e0
 .rw[aa hm];have hq:q=true->i.may r:=λh=>ig λh2=>hm ⟨h,h2⟩
  cases eH:Gi b n0 r q i with
  |er e=>exact aqH b hb a ha r hr q i hi iv hiv hq n0 e0 e eH
  |ok H n =>
  rw[ao]
  cases eL:dn b (If r H.inf H.S) n Z0 with
  |er e=>exact aqE b hb a ha r hr q i hi iv hiv hq n0 e0 H n eH e eL
  |ok Z m =>
   rw[ao,au6 b hb a ha r hr q i hi iv hiv hq n0 e0 H n eH Z m eL];by_cases h:H.od=0∧(H.is=1->kF H.F=true)
   .rw[ac h,ac h]
   .rw[aa h,aa h];rfl
def aqx (l:E_)(hl:l.length<=1000000)(h:ak)(N:Nat):∀(r:E_) (i:Nat),l.drop i=r->(Dn prog).code (.loop lO) ⟨[(0,.d (.lst (am l))),(1,.d (.lst (am l))),(5,A_ i)],⟨h,N⟩⟩=some (.exit 0,⟨[],⟨h,N⟩⟩):=by
 intro r
 induction r with
 |nil =>
  intro i hd;have hi:=eD hd;rw[ah zV];simp(maxSteps:=9^6)(disch:=omega)[↓ac,↓aa]
 |cons v r ih =>
  intro i hd;have hg:=IT hd;have hlt:=ed hd;have e:=ih (i+1) (dU hd);rw[show((i+1:Nat):Int)=(i:Int)+1 from rfl]at e;rw[ah zV];simp(maxSteps:=9^6)(disch:=omega)[↓ac,↓aa,hg,e]
def IG (l:E_)(hl:l.length<=1000000):bn prog Dk [.d (.lst (am l)),.d (.lst (am l))]=some (B_ true):=by
 have e:=aqx l hl [] 0 l 0 rfl;rw[show((0:Nat):Int)=0 from rfl]at e;rw[aL Pq O7 rfl];simp(maxSteps:=9^6)(disch:=omega)[↓ac,↓aa,e]
def aml (i:aG)(hi:i.groups.length<=1000000):bn prog DN [.agg i.cells,.agg i.cells]=some (B_ true):=by
 have e:=IG i.groups hi;simp only[aG.cells];rw[aL PR P3 rfl];simp(maxSteps:=9^6)(disch:=omega)[↓ac,↓aa,e]
def aqi (l:O_)(hl:l.length<=1000000)(hq:∀x∈l,x.length<=1000000)(h:ak)(N:Nat):∀(r:O_) (i:Nat),l.drop i=r->(Dn prog).code (.loop iE) ⟨[(0,.d (.lst (cT l))),(1,.d (.lst (cT l))),(5,A_ i)],⟨h,N⟩⟩=some (.exit 0,⟨[],⟨h,N⟩⟩):=by
 intro r
 induction r with
 |nil =>
  intro i hd;have hi:=eD hd;rw[ah tB];simp(maxSteps:=9^6)(disch:=omega)[↓ac,↓aa]
 |cons v r ih =>
  intro i hd;have hg:=aoI hd;have hlt:=ed hd;have hv:=hq v (cU (by rw[hd];exact .head _));have e:=ih (i+1) (dU hd);have e2:=IG v hv;rw[show((i+1:Nat):Int)=(i:Int)+1 from rfl]at e;rw[ah tB];simp(maxSteps:=9^6)(disch:=omega)[↓ac,↓aa,hg,e,e2]
def Xw (l:O_)(hl:l.length<=1000000)(hq:∀x∈l,x.length<=1000000):bn prog xj [.d (.lst (cT l)),.d (.lst (cT l))]=some (B_ true):=by
 have e:=aqi l hl hq [] 0 l 0 rfl;rw[show((0:Nat):Int)=0 from rfl]at e;rw[aL Ir Iv rfl];simp(maxSteps:=9^6)(disch:=omega)[↓ac,↓aa,e]
def aoz (x y:Int):Yq true [true,true] (.agg [A_ x,A_ y]) (.agg [A_ x,A_ y])=some (.bool false):=by
 simp[Yq,bq,pg]
def avy (full:H_)(w:Nat)(l:U_)(q:H_)(hw:full.drop w=l::q)(hf:full.length<=1000000)(hl:l.length<=1000000)(h:ak)(N:Nat):∀(r:U_) (i:Nat),l.drop i=r->(Dn prog).code (.loop gG) ⟨[(0,.d (.lst (bi full))),(1,.d (.lst (bi full))),(5,A_ w),(6,A_ i)],⟨h,N⟩⟩=some (.exit 2,⟨[(0,.d (.lst (bi full))),(1,.d (.lst (bi full))),(5,A_ w)],⟨h,N⟩⟩):=by
 have hg1:=xB hw;have hw1:=ed hw;intro r
 induction r with
 |nil =>
  intro i hd;have hi:=eD hd;rw[ah qz];simp(maxSteps:=9^6)(disch:=omega)[↓ac,↓aa,hg1]
 |cons v r ih =>
  intro i hd;have hg:=EY hd;have hlt:=ed hd;have e:=ih (i+1) (dU hd);rw[show((i+1:Nat):Int)=(i:Int)+1 from rfl]at e;rw[ah qz];simp(maxSteps:=9^6)(disch:=omega)[↓ac,↓aa,hg,hg1,e,aoz]
def at1 (full:H_)(hf:full.length<=1000000)(hq:∀x∈full,x.length<=1000000)(h:ak)(N:Nat):∀(r:H_) (i:Nat),full.drop i=r->(Dn prog).code (.loop gE) ⟨[(0,.d (.lst (bi full))),(1,.d (.lst (bi full))),(5,A_ i)],⟨h,N⟩⟩=some (.exit 0,⟨[],⟨h,N⟩⟩):=by
 intro r
 induction r with
 |nil =>
  intro i hd;have hi:=eD hd;rw[ah qw];simp(maxSteps:=9^6)(disch:=omega)[↓ac,↓aa]
 |cons v r ih =>
  intro i hd;have hg:=xB hd;have hlt:=ed hd;have hv:=hq v (cU (by rw[hd];exact .head _));have e:=ih (i+1) (dU hd);have e2:=avy full i v r hd hf hv h N v 0 rfl;rw[show((i+1:Nat):Int)=(i:Int)+1 from rfl]at e;rw[show((0:Nat):Int)=0 from rfl]at e2;rw[ah qw];simp(maxSteps:=9^6)(disch:=omega)[↓ac,↓aa,hg,e,e2]
def RX (l:H_)(hl:l.length<=1000000)(hq:∀x∈l,x.length<=1000000):bn prog ug [.d (.lst (bi l)),.d (.lst (bi l))]=some (B_ true):=by
 have e:=at1 l hl hq [] 0 l 0 rfl;rw[show((0:Nat):Int)=0 from rfl]at e;rw[aL FC Gb rfl];simp(maxSteps:=9^6)(disch:=omega)[↓ac,↓aa,e]
def awL (full:N_)(w:Nat)(l:AC_)(q:N_)(hw:full.drop w=l::q)(hf:full.length<=1000000)(hl:l.length<=1000000)(hc:∀f∈l,f.coefs.length<=1000000):∀(r:AC_) (i N:Nat),l.drop i=r->∃M,(Dn prog).code (.loop jz) ⟨[(0,.d (.lst (bv full))),(1,.d (.lst (bv full))),(5,A_ w),(6,A_ i)],⟨[],N⟩⟩=some (.exit 2,⟨[(0,.d (.lst (bv full))),(1,.d (.lst (bv full))),(5,A_ w)],⟨[],M⟩⟩):=by
 have hg1:=Te hw;have hw1:=ed hw;intro r
 induction r with
 |nil =>
  intro i N hd;have hi:=eD hd;refine⟨N,?_⟩;rw[ah wt];simp(maxSteps:=9^6)(disch:=omega)[↓ac,↓aa,hg1]
 |cons v r ih =>
  intro i N hd;have hg:=apU hd;have hlt:=ed hd;have hv:=hc v (cU (by rw[hd];exact .head _));have e2:=IG v.coefs hv;obtain⟨M,e⟩:=ih (i+1) (N+1+1) (dU hd);rw[show((i+1:Nat):Int)=(i:Int)+1 from rfl]at e;refine⟨M,?_⟩;rw[ah wt];simp(maxSteps:=9^6)(disch:=omega)[↓ac,↓aa,hg,hg1,e,e2]
def awu (full:N_)(hf:full.length<=1000000)(hq:∀x∈full,x.length<=1000000)(hc:∀x∈full,∀f∈x,f.coefs.length<=1000000):∀(r:N_) (i N:Nat),full.drop i=r->∃M,(Dn prog).code (.loop jx) ⟨[(0,.d (.lst (bv full))),(1,.d (.lst (bv full))),(5,A_ i)],⟨[],N⟩⟩=some (.exit 0,⟨[],⟨[],M⟩⟩):=by
 intro r
 induction r with
 |nil =>
  intro i N hd;have hi:=eD hd;refine⟨N,?_⟩;rw[ah wa];simp(maxSteps:=9^6)(disch:=omega)[↓ac,↓aa]
 |cons v r ih =>
  intro i N hd;have hg:=Te hd;have hlt:=ed hd;have hm:v∈full:=cU (by rw[hd];exact .head _);have hv:=hq v hm;obtain⟨M1,e2⟩:=awL full i v r hd hf hv (hc v hm) v 0 N rfl;obtain⟨M,e⟩:=ih (i+1) M1 (dU hd);rw[show((i+1:Nat):Int)=(i:Int)+1 from rfl]at e;rw[show((0:Nat):Int)=0 from rfl]at e2;refine⟨M,?_⟩;rw[ah wa];simp(maxSteps:=9^6)(disch:=omega)[↓ac,↓aa,hg,e,e2]
def adm (l:N_)(hl:l.length<=1000000)(hq:∀x∈l,x.length<=1000000)(hc:∀x∈l,∀f∈x,f.coefs.length<=1000000):bn prog zk [.d (.lst (bv l)),.d (.lst (bv l))]=some (B_ true):=by
 obtain⟨M,e⟩:=awu l hl hq hc l 0 0 rfl;rw[show((0:Nat):Int)=0 from rfl]at e;rw[aL Ko Kq rfl];simp(maxSteps:=9^6)(disch:=omega)[↓ac,↓aa,e]
def ak7 (c:ip)(hc:c.Fit):bn prog DD [.agg c.av,.agg c.av]=some (B_ true):=by
 have hg:=hc.info.len;have hl:=hc.lines;have h1:=aml c.info o_;have h2:=IG c.lines o_;have h3:=RX c.sects (by have:=hc.sects.1;omega) (λl h=>by have:=hc.sects.2 l h;omega);have h4:=Xw c.steps (by have:=hc.steps.1;omega) (λl h=>by have:=hc.steps.2 l h;omega);have h5:=adm c.tns (by have:=hc.tns.1;omega) (λl h=>by have:=(hc.tns.2 l h).1;omega) (λl h f hf=>by have:=(hc.tns.2 l h).2 f hf;omega);simp only[ip.av,aG.cells]at h1⊢;rw[aL P9 PA rfl];simp(maxSteps:=9^6)(disch:=omega)[↓ac,↓aa,h1,h2,h3,h4,h5]
abbrev xP:=@List.drop_left
abbrev eK:=@Nat.mul_comm
abbrev om:=@Nat.add_mul_div_right
def At (b:C_)(a n:Nat)(X:C_):Prop:=a<=b.length∧n=a+X.length∧∃t,b.drop a=X++t
def ek {b:C_}{a n:Nat}:At b a n []↔n=a∧a<=b.length:=by
 constructor
 .rintro ⟨h1,h2,_⟩
  exact⟨by simpa using h2,h1⟩
 .rintro ⟨h1,h2⟩
  exact⟨h2,by simpa using h1,b.drop a,rfl⟩
def db {b:C_}{a n:Nat}{X:C_}(h:At b a n X):a<=b.length∧n<=b.length∧n=a+X.length:=by
 obtain⟨h1,h2,t,h3⟩:=h;have:=aY List.length h3;rw[gb,aN]at this;exact⟨h1,o_,h2⟩
def bc {b:C_}{a n:Nat}{X Y:C_}:At b a n (X++Y)↔∃m,At b a m X∧At b m n Y:=by
 constructor
 .intro h;have hl:=db h;obtain⟨h1,h2,t,h3⟩:=h;rw[aN]at h2;refine⟨a+X.length,⟨h1,rfl,Y++t,by rw[h3,aw]⟩,o_,o_,t,?_⟩;rw[<-cW,h3,aw,xP]
 .rintro ⟨m,⟨h1,h2,t,h3⟩,h4,h5,t2,h6⟩
  refine⟨h1,by rw[aN];omega,t2,?_⟩;rw[h2,<-cW,h3,xP]at h6;rw[h3,h6,aw]
def Th {n:Nat}:∀{k:Nat},bin (bh n k)
 |0=>by simp[bh,bin]
 |k+1=>by
  intro x hx;rw[bh]at hx;rcases aD.1 hx with h|h
  .omega
  .exact Th x h
def abj {v:Nat}:∀{s n:Nat},val (bh v s) n=n*2 ^ s+v % 2 ^ s
 |0,n=>by simp[bh,val,Nat.mod_one]
 |k+1,n=>by
  rw[bh,val,abj,Nat.mod_pow_succ,cR,dC];have:2*n*2 ^ k=n*(2 ^ k*2):=by rw[eK 2 n,Nat.mul_assoc,eK 2 (2 ^ k)]
  rw[this,eK (v / 2 ^ k % 2)];omega
def aea:∀{l:C_}{n:Nat},val l n=n*2 ^ l.length+val l 0
 |[],n=>by simp[val]
 |x::r,n=>by
  rw[val,val,aea,aea (n:=2*0+x),ar,cR,dC];have:2*n*2 ^ r.length=n*(2 ^ r.length*2):=by rw[eK 2 n,Nat.mul_assoc,eK 2 (2 ^ r.length)]
  rw[this];simp only[Nat.mul_zero,b7];omega
def aaX:∀{l:C_}{n:Nat},bin l->bh (val l n) l.length=l
 |[],n,_=>rfl
 |x::r,n,h=>by
  have hr:bin r:=λy hy=>h y (.tail _ hy)
  have hx:=h x (.head _);have h0:=Sb (l:=r) (n:=0) (i:=0) hr o_;rw[b7]at h0;have e:val r (2*n+x) / 2 ^ r.length % 2=x:=by
   rw[aea,f9,om _ _ (Nat.pow_pos d_),gk h0];omega
  rw[val,ar,bh,e,aaX hr]
def cB {b:C_}{a s v n:Nat}(hs:s<=31):aE b (a:Int) (s:Int)=.ok v n↔v<2 ^ s∧At b a n (bh v s):=by
 unfold aE;simp only[au];constructor
 .intro h;by_cases h1:(0<=(s:Int)∧(s:Int)<=31)∧0<=(a:Int)∧(a:Int)<=b.length
  .rw[ac h1]at h;by_cases h2:((b.length:Nat):Int)-a<s
   .rw[ac h2]at h;exact absurd h (by simp)
   .rw[aa h2]at h;by_cases h3:bin ((b.drop a).take s)
    .rw[ac h3]at h;injection h with e1 e2
     have hl:((b.drop a).take s).length=s:=by rw[fp,gb];omega
     have h4:=Sb (n:=0) (i:=0) h3 o_;have h5:=aaX (n:=0) h3;rw[hl,e1]at h4 h5;rw[b7]at h4;refine⟨h4,o_,by rw[xA];omega,(b.drop a).drop s,?_⟩;rw[h5,b8]
    .rw[aa h3]at h;exact absurd h (by simp)
  .rw[aa h1]at h;exact absurd h (by simp)
 .rintro ⟨hv,h⟩
  have hl:=db h;obtain⟨h1,h2,t,h3⟩:=h;rw[xA]at h2;have e:(b.drop a).take s=bh v s:=by rw[h3,List.take_left' xA]
  rw[ac o_,aa o_,e,ac Th,abj,fw hv,h2];simp
def aja {b:C_}{a:Int}{s:Int}{v n:Nat}(h:aE b a s=.ok v n):0<=a:=by
 unfold aE at h;by_cases h1:(0<=s∧s<=31)∧0<=a∧a<=b.length
 .exact h1.2.1
 .rw[aa h1]at h;exact absurd h (by simp)
def Un {α:Type}{c:Prop}[Decidable c]{v w:α}{n m:Nat}:SK c v n=.ok w m↔c∧v=w∧n=m:=by
 unfold SK;by_cases h:c
 .rw[ac h];exact⟨λe=>by injection e with e1 e2;exact⟨h,e1,e2⟩,λ⟨_,e1,e2⟩=>by rw[e1,e2]⟩
 .rw[aa h];exact⟨λe=>absurd e s_,λe=>absurd e.1 h⟩
def aH {α β:Type}{x:R α}{f:α->Nat->R β}{v:β}{n:Nat}:x.bind f=.ok v n↔∃u m,x=.ok u m∧f u m=.ok v n :=
 ⟨dS,λ⟨u,m,h1,h2⟩=>by rw[h1];exact h2⟩
def aaO:Nat->List C_
 |0=>[[]]
 |k+1=>(aaO k).map (0::·)++(aaO k).map (1::·)
def akk:∀{l:C_},bin l->l∈aaO l.length
 |[],_=>by simp[aaO]
 |x::r,h=>by
  have ih:=akk (l:=r) λy hy=>h y (.tail _ hy)
  have hx:=h x (.head _);rw[ar,aaO,bj,cX,cX];rcases Nat.le_one_iff_eq_zero_or_eq_one.1 hx with rfl|rfl
  .exact .inl ⟨r,ih,rfl⟩
  .exact .inr ⟨r,ih,rfl⟩
def agC:Nat->Nat->O_
 |0,_=>[]
 |f+1,0=>[[]]
 |f+1,n+1=>(List.range (n+1)).flatMap λk=>(agC f (n-k)).map (((k:Int)+1)::·)
def ajd:∀{g:E_}{f n:Nat},(∀x∈g,1<=x)->g.sum=n->n<f->g∈agC f n
 |[],f,n,_,h,hf=>by
  obtain⟨f,rfl⟩:=Nat.exists_eq_add_of_lt hf;have:n=0:=by simp at h;omega
  subst this;simp[agC]
 |x::r,f,n,hx,h,hf=>by
  have h1:=hx x (.head _);have h2:=kU (l:=r) λy hy=>hx y (.tail _ hy)
  rw[nW]at h;obtain⟨f,rfl⟩:∃k,f=k+1:=⟨f-1,o_⟩
  obtain⟨n,rfl⟩:∃k,n=k+1:=⟨n-1,o_⟩
  have ih:=ajd (g:=r) (f:=f) (n:=n-(x.toNat-1)) (λy hy=>hx y (.tail _ hy)) o_ o_;rw[agC,vz];exact⟨x.toNat-1,fC.2 o_,cX.2 ⟨r,ih,by congr 1;omega⟩⟩
def auL:∀l∈aaO 7,Vz (grow [1] l) 7 0=l:=g_
def at3:∀g∈agC 9 8,grow [1] (Vz g 7 0)=g:=g_
def PW {b:C_}:∀{k a n:Nat}{l:C_},a<=b.length->(je b k a=.ok l n↔(l.length=k∧bin l)∧At b a n l)
 |0,a,n,l,ha=>by
  rw[je];constructor
  .intro h;injection h with e1 e2
   subst e1 e2;exact⟨⟨rfl,by simp[bin]⟩,ek.2 ⟨rfl,ha⟩⟩
  .rintro ⟨⟨h1,_⟩,h2⟩
   have:=aI h1;subst this;rw[(ek.1 h2).1]
 |k+1,a,n,l,ha=>by
  rw[je,aH];constructor
  .rintro ⟨v,m,h1,h2⟩
   obtain⟨g1,g2⟩:=(cB (s:=1) o_).1 h1;obtain⟨l2,m2,h3,h4⟩:=aH.1 h2;injection h4 with e1 e2;subst e1 e2;obtain⟨⟨i1,i2⟩,i3⟩:=(PW (db g2).2.1).1 h3;refine⟨⟨by rw[ar,i1],λx hx=>?_⟩,?_⟩
   .rcases aD.1 hx with rfl|hx
    .omega
    .exact i2 x hx
   .have e:bh v 1=[v]:=by simp[bh];omega
    rw[e]at g2;exact bc.2 ⟨m,g2,i3⟩
  .rintro ⟨⟨h1,h2⟩,h3⟩
   cases l with
   |nil=>simp at h1
   |cons v r =>
    have hv:=h2 v (.head _);obtain⟨m,g1,g2⟩:=bc (X:=[v]) (Y:=r) |>.1 h3;have e:bh v 1=[v]:=by simp[bh];omega
    rw[<-e]at g1;have hr:=(PW (k:=k) (db g2).1).2 ⟨⟨by simpa using h1,λy hy=>h2 y (.tail _ hy)⟩,g2⟩;exact⟨v,m,(cB (s:=1) o_).2 ⟨o_,g1⟩,by rw[hr];rfl⟩
def aj5 {g:E_}:∀{k w:Nat},bin (Vz g k w)
 |0,_=>by simp[Vz,bin]
 |k+1,w=>by
  intro x hx;rw[Vz]at hx;rcases bj.1 hx with h|h
  .revert h
   split<;>exact λh=>Th x h
  .exact aj5 x h
def Yl {b:C_}{a r n:Nat}{j:aG}(hr:r<=11):fW b (a:Int) r=.ok j n↔j.may r∧At b a n (N2 j):=by
 unfold fW N2;constructor
 .intro h;obtain⟨o,n1,h1,h⟩:=aH.1 h;obtain⟨q,n2,h2,h⟩:=aH.1 h;obtain⟨s,n3,h3,h⟩:=aH.1 h;have k1:=(cB (s:=1) o_).1 h1;have k2:=(cB (s:=2) o_).1 h2;have k3:=(cB (s:=1) o_).1 h3;by_cases hq:q=2
  .rw[ac hq]at h;obtain⟨m,n4,h4,h⟩:=aH.1 h;obtain⟨l,n5,h5,h⟩:=aH.1 h;obtain⟨⟨ho,hm⟩,e1,e2⟩:=Un.1 h;have k4:=(cB (s:=4) o_).1 h4;have k5:=(PW (db k4.2).2.1).1 h5;subst e1 e2 ho;refine⟨hm,bc.2 ⟨n1,k1.2,bc.2 ⟨n2,k2.2,bc.2 ⟨n3,k3.2,?_⟩⟩⟩⟩;simp only[hq,bR,au];refine bc.2 ⟨n4,k4.2,?_⟩;rw[auL l (by have:=akk k5.1.2;rwa [k5.1.1]at this)];exact k5.2
  .rw[aa hq]at h;obtain⟨m,n4,h4,h⟩:=aH.1 h;obtain⟨p,n5,h5,h⟩:=aH.1 h;obtain⟨⟨⟨ho,hp⟩,hm⟩,e1,e2⟩:=Un.1 h;have k4:=(cB (s:=6) o_).1 h4;have k5:=(cB (s:=1) o_).1 h5;subst e1 e2 ho hp;refine⟨hm,bc.2 ⟨n1,k1.2,bc.2 ⟨n2,k2.2,bc.2 ⟨n3,k3.2,?_⟩⟩⟩⟩;simp only[aa hq,au];exact bc.2 ⟨n4,k4.2,k5.2⟩
 .rintro ⟨hm,h0⟩
  obtain⟨n1,k1,h1⟩:=bc.1 h0;obtain⟨n2,k2,h2⟩:=bc.1 h1;obtain⟨n3,k3,h3⟩:=bc.1 h2;clear h0 h1 h2;have g11:=iY hr hm;have hmx:=mW g11;obtain⟨s,sh,m,g⟩:=j;have hs:s<=3:=hm.1;have hsh:sh<=1:=hm.2.1;simp only at hmx h3 k2 k3;obtain⟨M,rfl⟩:=ay hmx.1;refine aH.2 ⟨0,n1,(cB (s:=1) o_).2 ⟨o_,k1⟩,aH.2 ⟨s,n2,(cB (s:=2) o_).2 ⟨o_,k2⟩,aH.2 ⟨sh,n3,(cB (s:=1) o_).2 ⟨o_,k3⟩,?_⟩⟩⟩;have hmb:(M:Int)<=nY r (decide (s=2)):=hm.2.2.2.1;have hgr:aG.grouped _:=hm.2.2.2.2;unfold aG.grouped at hgr;simp only[au]at h3 hgr;by_cases hq:s=2
  .subst hq;have m4:M<2 ^ 4:=by
    have:=(Zi (r,true) (iZ o_)).2;simp only[decide_true]at hmb this;omega
   rw[ac rfl]at h3 hgr⊢;obtain⟨n4,k4,h4⟩:=bc.1 h3;have hg:=at3 g (ajd (λx hx=>(hgr.1 x hx).1) hgr.2.1 o_);exact aH.2 ⟨M,n4,(cB (s:=4) o_).2 ⟨m4,k4⟩,aH.2 ⟨Vz g 7 0,n,(PW (db k4).2.1).2 ⟨⟨ai3,aj5⟩,h4⟩,Un.2 ⟨⟨rfl,by rw[hg];exact hm⟩,by rw[hg],rfl⟩⟩⟩
  .have m6:=WB (r:=r) (s:=decide (s=2)) o_;rw[aa hq]at h3 hgr⊢;obtain⟨n4,k4,h4⟩:=bc.1 h3
   cases hgr
   exact aH.2 ⟨M,n4,(cB (s:=6) o_).2 ⟨o_,k4⟩,aH.2 ⟨0,n,(cB (s:=1) o_).2 ⟨o_,h4⟩,Un.2 ⟨⟨⟨rfl,rfl⟩,hm⟩,rfl,rfl⟩⟩⟩
def ajI {bQ:Nat}(hm:1<=bQ):∀{f g n:Nat},n<=f->n<=g->kQ bQ f n=kQ bQ g n
 |0,0,n,_,_=>rfl
 |0,g+1,n,h,_=>by
  have:n=0:=o_;subst this;rw[kQ,kQ,aa o_]
 |f+1,0,n,_,h=>by
  have:n=0:=o_;subst this;rw[kQ,kQ,aa o_]
 |f+1,g+1,n,h1,h2=>by
  rw[kQ,kQ];by_cases h:bQ<=n
  .rw[ac h,ac h,ajI hm (f:=f) (g:=g) (n:=n-bQ) o_ o_]
  .rw[aa h,aa h]
def asM {bQ d:Nat}(hm:1<=bQ)(h:bQ<=d):kQ bQ d d=bQ::kQ bQ (d-bQ) (d-bQ):=by
 obtain⟨e,rfl⟩:∃e,d=e+1:=⟨d-1,o_⟩
 rw[kQ,ac h,ajI hm (f:=e) (g:=e+1-bQ) o_ o_]
def asC {bQ d:Nat}(h:d<bQ):kQ bQ d d=[d]:=by
 cases d with
 |zero=>rfl
 |succ e=>rw[kQ,aa o_]
def TR {b:C_}{sz bQ left:Nat}(hs:1<=sz∧sz<=5)(hm:bQ=2 ^ sz-1):∀{f a acc n m:Nat},left<acc+f->
  (yr b sz bQ left f a acc=.ok n m↔(acc<=n∧n<=left)∧At b a m ((kQ bQ (n-acc) (n-acc)).flatMap λx=>bh x sz))
 |0,a,acc,n,m,hf=>by
  rw[yr];exact⟨λh=>absurd h s_,λh=>by omega⟩
 |f+1,a,acc,n,m,hf=>by
  have h2:2 ^ 1<=2 ^ sz:=aA o_ hs.1;rw[yr,aH];constructor
  .rintro ⟨x,m1,h1,h⟩
   obtain⟨g1,g2⟩:=(cB o_).1 h1;by_cases hl:left<acc+x
   .rw[ac hl]at h;exact absurd h (by simp)
   rw[aa hl]at h;by_cases hx:x=bQ
   .rw[ac hx,TR hs hm o_]at h;obtain⟨h3,h4⟩:=h;refine⟨o_,?_⟩;rw[asM o_ o_,be,bc];refine⟨m1,by rw[<-hx];exact g2,?_⟩;rw[show n-acc-bQ=n-(acc+x) by omega];exact h4
   .rw[aa hx]at h;injection h with e1 e2
    subst e1 e2;refine⟨o_,?_⟩;rw[show acc+x-acc=x by omega,asC o_];simpa using g2
  .rintro ⟨h1,h⟩
   by_cases hd:bQ<=n-acc
   .rw[asM o_ hd,be,bc]at h;obtain⟨m1,k1,k2⟩:=h;refine⟨bQ,m1,(cB o_).2 ⟨o_,k1⟩,?_⟩;rw[aa o_,ac rfl,TR hs hm o_];refine⟨o_,?_⟩;rw[show n-(acc+bQ)=n-acc-bQ by omega];exact k2
   .rw[asC o_]at h;simp only[be,List.flatMap_nil,aR]at h;refine⟨n-acc,m,(cB o_).2 ⟨o_,h⟩,?_⟩;rw[aa o_,aa o_,show acc+(n-acc)=n by omega]
def aiV {b:C_}{sz left a m:Nat}{s:bl}(hs:1<=sz∧sz<=5):Dm b sz left a=.ok s m↔s.right left∧At b a m (alG sz s):=by
 rw[Dm,aH,alG];constructor
 .rintro ⟨k,m1,h1,h⟩
  obtain⟨g1,g2⟩:=(cB (s:=4) o_).1 h1;by_cases hk:k=12∨13<k
  .rw[ac hk]at h;exact absurd h (by simp)
  rw[aa hk]at h;obtain⟨n,m2,h2,h⟩:=aH.1 h;obtain⟨g3,g4⟩:=(TR hs rfl o_).1 h2;by_cases h0:n=0
  .rw[ac h0]at h;exact absurd h (by simp)
  rw[aa h0]at h;injection h with e1 e2
  subst e1 e2;refine⟨⟨⟨by simp only[];omega,by simp only[];omega⟩,by simp only[agd];omega⟩,bc.2 ⟨m1,g2,?_⟩⟩;simpa using g4
 .rintro ⟨⟨⟨h1,h2⟩,h3,h4⟩,h⟩
  obtain⟨k,n⟩:=s;simp only at h1 h2 h3 h4 h;obtain⟨k,rfl⟩:=ay h3;obtain⟨n,rfl⟩:=ay (show 0<=n by omega);simp only[au]at h;obtain⟨m1,k1,k2⟩:=bc.1 h;refine⟨k,m1,(cB (s:=4) o_).2 ⟨o_,k1⟩,?_⟩;rw[aa o_];refine aH.2 ⟨n,m,(TR hs rfl o_).2 ⟨o_,by simpa using k2⟩,?_⟩;rw[aa o_]
def Kt {b:C_}{sz:Nat}(hs:1<=sz∧sz<=5):∀{f left a m:Nat}{l:U_},left<=f->a<=b.length->(jn b sz f left a=.ok l m↔fitsS left l∧At b a m (TP sz l))
 |0,left,a,m,l,hf,ha=>by
  have:left=0:=o_;subst this;rw[jn];constructor
  .intro h;injection h with e1 e2
   subst e1 e2;exact⟨rfl,ek.2 ⟨rfl,ha⟩⟩
  .rintro ⟨h1,h2⟩
   cases l with
   |nil=>rw[(ek.1 h2).1]
   |cons s l=>have:=h1.1.1;omega
 |f+1,left,a,m,l,hf,ha=>by
  rw[jn];by_cases h0:left=0
  .subst h0;rw[ac rfl];constructor
   .intro h;injection h with e1 e2
    subst e1 e2;exact⟨rfl,ek.2 ⟨rfl,ha⟩⟩
   .rintro ⟨h1,h2⟩
    cases l with
    |nil=>rw[(ek.1 h2).1]
    |cons s l=>have:=h1.1.1;omega
  .rw[aa h0,aH];constructor
   .rintro ⟨s,m1,h1,h⟩
    obtain⟨g1,g2⟩:=(aiV hs).1 h1;obtain⟨l2,m2,h2,h⟩:=aH.1 h;injection h with e1 e2;subst e1 e2;have hr:=g1.1;obtain⟨g3,g4⟩:=(Kt hs o_ (db g2).2.1).1 h2;refine⟨⟨g1,?_⟩,bc.2 ⟨m1,g2,g4⟩⟩
    rwa [show((left-s.len.toNat:Nat):Int)=left-s.len by omega]at g3
   .rintro ⟨h1,h2⟩
    cases l with
    |nil=>exact absurd h1 (by show ¬((left:Int)=0);omega)
    |cons s l =>
     obtain⟨k1,k2⟩:=h1;obtain⟨m1,j1,j2⟩:=bc.1 (show At b a m (alG sz s++TP sz l) from h2);have hr:=k1.1;refine⟨s,m1,(aiV hs).2 ⟨k1,j1⟩,aH.2 ⟨l,m,(Kt hs o_ (db j1).2.1).2 ⟨?_,j2⟩,rfl⟩⟩
     rwa [show((left-s.len.toNat:Nat):Int)=left-s.len by omega]
def We {b:C_}{sz bQ:Nat}(hs:1<=sz∧sz<=5):∀{k a m:Nat}{g:H_},a<=b.length->(tg b sz bQ k a=.ok g m↔(g.length=k∧∀l∈g,fitsS bQ l)∧At b a m (g.flatMap (TP sz)))
 |0,a,m,g,ha=>by
  rw[tg];constructor
  .intro h;injection h with e1 e2
   subst e1 e2;exact⟨⟨rfl,s_⟩,ek.2 ⟨rfl,ha⟩⟩
  .rintro ⟨⟨h1,_⟩,h2⟩
   have:=aI h1;subst this;rw[(ek.1 h2).1]
 |k+1,a,m,g,ha=>by
  rw[tg,aH];constructor
  .rintro ⟨l,m1,h1,h⟩
   obtain⟨g1,g2⟩:=(Kt hs (ai _) ha).1 h1;obtain⟨r,m2,h2,h⟩:=aH.1 h;injection h with e1 e2;subst e1 e2;obtain⟨⟨g3,g4⟩,g5⟩:=(We hs (db g2).2.1).1 h2;refine⟨⟨by rw[ar,g3],λq hq=>?_⟩,bc.2 ⟨m1,g2,g5⟩⟩;rcases aD.1 hq with rfl|hq
   .exact g1
   .exact g4 q hq
  .rintro ⟨⟨h1,h2⟩,h3⟩
   cases g with
   |nil=>simp at h1
   |cons l r =>
    obtain⟨m1,j1,j2⟩:=bc.1 (show At b a m (TP sz l++r.flatMap (TP sz)) from h3);exact⟨l,m1,(Kt hs (ai _) ha).2 ⟨h2 l (.head _),j1⟩,aH.2 ⟨r,m,(We hs (db j1).2.1).2 ⟨⟨by simpa using h1,λq hq=>h2 q (.tail _ hq)⟩,j2⟩,rfl⟩⟩
def alS {b:C_}{i:aG}{a m:Nat}{g:H_}(hm:i.may 11)(ha:a<=b.length):ma b i (a:Int)=.ok g m↔tF i g∧At b a m (asv i g):=by
 have hmx:=mW hm;obtain⟨M,hM⟩:=ay hmx.1;have hs:1<=i.fsz∧i.fsz<=5:=by unfold aG.fsz;split<;>omega
 rw[ma,ac o_,au,We hs ha,qS hmx.1];exact Iff.rfl
def Xq:∀id∈ids,(bV id).length=aZ id∧(List.range (aZ id)).all (λe=>Nat.beq (nth (bV id) (nth (dl id) e)) e && Nat.beq (nth (dl id) (nth (bV id) e)) e)=true:=g_
def abE {id e:Nat}(h:iD id)(he:e<aZ id):nth (bV id) (nth (dl id) e)=e∧nth (dl id) (nth (bV id) e)=e:=by
 have h1:=bF.1 (Xq id (dV h)).2 e (fC.2 he);rw[af,aC,aC]at h1;exact h1
abbrev rW:=@Nat.add_mul_mod_self_right
def Lc {b:C_}:∀{f m a k n:Nat},jt b f m (a:Int)=.ok k n↔(m<=k∧k<m+f)∧At b a n (List.replicate (k-m) 0++[1])
 |0,m,a,k,n=>by
  rw[jt];exact⟨λh=>absurd h s_,λh=>by omega⟩
 |f+1,m,a,k,n=>by
  rw[jt,aH];constructor
  .rintro ⟨v,m1,h1,h⟩
   obtain⟨g1,g2⟩:=(cB (s:=1) o_).1 h1;have e:bh v 1=[v]:=by simp[bh];omega
   rw[e]at g2;by_cases hv:v=1
   .rw[ac hv]at h;injection h with e1 e2
    subst e1 e2 hv;exact⟨o_,by simpa using g2⟩
   .have:v=0:=o_;subst this;rw[aa hv,Lc]at h;obtain⟨h2,h3⟩:=h;refine⟨o_,?_⟩;rw[show k-m=(k-(m+1))+1 by omega,cD,aK];exact bc (X:=[0]) |>.2 ⟨m1,g2,h3⟩
  .rintro ⟨h1,h⟩
   by_cases hk:k=m
   .subst hk;rw[uW]at h;refine⟨1,n,(cB (s:=1) o_).2 ⟨o_,?_⟩,by rw[ac rfl]⟩;simpa [bh] using h
   .rw[show k-m=(k-(m+1))+1 by omega,cD,aK]at h;obtain⟨m1,k1,k2⟩:=bc (X:=[0]) |>.1 h;refine⟨0,m1,(cB (s:=1) o_).2 ⟨o_,by simpa [bh] using k1⟩,?_⟩;rw[aa o_,Lc];exact⟨o_,k2⟩
def ab4 {r:C_}:∀{k:Nat},val (List.replicate k 0++r) 0=val r 0
 |0=>rfl
 |k+1=>by rw[cD,aK,val];exact ab4
def ab0 {k hi:Nat}(h:hi<2 ^ k):bh (2 ^ k+hi) (2*k+1)=List.replicate k 0++[1]++bh hi k:=by
 have hb:bin (List.replicate k 0++(1::bh hi k)):=by
  intro x hx;rcases bj.1 hx with h|h
  .have:=c9 h;omega
  .rcases aD.1 h with h|h
   .omega
   .exact Th x h
 have h1:=aaX (n:=0) hb;rw[ab4,val,abj,fw h,aN,bE,ar,xA]at h1;rw[aw,ib,<-h1]
 congr 1
 all_goals omega
def ajz {n k:Nat}(h1:2 ^ k<=n)(h2:n<2 ^ (k+1)):md n=k+1:=by
 have hp:=df k;have a:=abh (n:=n);have b:=aaS (n:=n) o_;rcases Nat.lt_trichotomy (md n) (k+1) with h|h|h
 .have:=aA (n:=2) o_ (show md n<=k by omega);omega
 .exact h
 .have:=aA (n:=2) o_ (show k+1<=md n-1 by omega);omega
def Fn {id:Nat}(hid:iD id){b:C_}{a e n:Nat}:zg id b (a:Int)=.ok e n↔e<aZ id∧At b a n (Iw id e):=by
 obtain⟨r1,r2,r3⟩:=afL id (dV hid);have hl:=(Xq id (dV hid)).1;have hm:aZ id<=300:=by have:=mt id (dV hid);omega
 have hP:1<=2 ^ cA id:=df _;rw[zg,aH];unfold Iw;constructor
 .rintro ⟨k,n1,h1,h⟩
  obtain⟨⟨_,k9⟩,g1⟩:=Lc.1 h1;obtain⟨hi,n2,h2,h⟩:=aH.1 h;obtain⟨g2,g3⟩:=(cB o_).1 h2;obtain⟨lo,n3,h3,h⟩:=aH.1 h;obtain⟨g4,g5⟩:=(cB o_).1 h3;by_cases hx:(bV id).length<=(2 ^ k+hi-1)*2 ^ cA id+lo
  .rw[ac hx]at h;exact absurd h (by simp)
  rw[aa hx]at h;injection h with e1 e2
  subst e1 e2;have hk:=df k;have he:=abE hid (e:=(2 ^ k+hi-1)*2 ^ cA id+lo) o_;have hlt:nth (bV id) ((2 ^ k+hi-1)*2 ^ cA id+lo)<aZ id:=(CU (by have:=hid.2;omega)).2.2.2 _ (iL o_);refine⟨hlt,?_⟩;rw[he.2];have d1:((2 ^ k+hi-1)*2 ^ cA id+lo) / 2 ^ cA id=2 ^ k+hi-1:=by
   rw[f9,om _ _ hP,gk g4,b7]
  have d2:((2 ^ k+hi-1)*2 ^ cA id+lo) % 2 ^ cA id=lo:=by
   rw[f9,rW,fw g4]
  rw[d1,d2,show 2 ^ k+hi-1+1=2 ^ k+hi by omega,ajz (k:=k) o_ (by rw[cR];omega),show 2*(k+1)-1=2*k+1 by omega,ab0 g2];exact bc.2 ⟨n2,bc.2 ⟨n1,g1,g3⟩,g5⟩
 .rintro ⟨he,h⟩
  have hr:=auP hid he;have hf:=(abE hid he).1;generalize nth (dl id) e=r at *;have hq:1<=r / 2 ^ cA id+1:=lV _ _;have hdv:r / 2 ^ cA id<=r:=lR _ _;have hdm:=Nat.div_add_mod r (2 ^ cA id);have hmod:r % 2 ^ cA id<2 ^ cA id:=gK _ hP;generalize r / 2 ^ cA id=q at *;generalize r % 2 ^ cA id=lo at *;have l1:=abh (n:=q+1);have l2:=aaS (n:=q+1) o_;have l0:1<=md (q+1):=by
   rcases Nat.eq_zero_or_pos (md (q+1)) with h0|h0
   .rw[h0]at l1;omega
   .exact h0
  obtain⟨k,hk⟩:∃k,md (q+1)=k+1:=⟨md (q+1)-1,o_⟩
  rw[hk]at l1 l2 h;rw[dz]at l2;rw[cR]at l1;have k9:k<10:=by
   rcases bD k 10 with h|h
   .exact h
   .have:=aA (n:=2) o_ h;omega
  obtain⟨hi,hhi⟩:∃hi,q+1=2 ^ k+hi:=⟨q+1-2 ^ k,o_⟩
  have hh:hi<2 ^ k:=o_;rw[show 2*(k+1)-1=2*k+1 by omega,hhi,ab0 hh]at h;obtain⟨n2,j1,j2⟩:=bc.1 h;obtain⟨n1,j3,j4⟩:=bc.1 j1;have ei:(2 ^ k+hi-1)*2 ^ cA id+lo=r:=by rw[<-hhi,dz,eK];omega
  refine⟨k,n1,Lc.2 ⟨o_,by simpa using j3⟩,aH.2 ⟨hi,n2,(cB o_).2 ⟨hh,j4⟩,aH.2 ⟨lo,n,(cB o_).2 ⟨hmod,j2⟩,?_⟩⟩⟩;rw[ei,aa o_,hf]
def RK {low:Int}{w:Nat}{v:Int}:∀{l:E_}{n:Nat},AC low w (l++[v]) n=AC low w l n*w+(v-low).toNat
 |[],n=>rfl
 |x::r,n=>by rw[aK,AC,AC,RK]
def abR {low:Int}{w:Nat}(hw:1<=w):∀{d e:Nat},e<w ^ d->AC low w (fS low w d e) 0=e
 |0,e,h=>by rw[Nat.pow_zero]at h;rw[fS,AC];omega
 |d+1,e,h=>by
  rw[fS,RK,abR hw (by rw[cR]at h;exact Nat.div_lt_of_lt_mul (by rwa [eK])),show((e % w:Nat):Int)+low-low=((e % w:Nat):Int) by omega,au,eK];exact Nat.div_add_mod e w
def agz {low:Int}{w:Nat}(hw:1<=w):∀(r:E_),(∀v∈r,low<=v∧v<low+w)->fS low w r.reverse.length (AC low w r.reverse 0)=r.reverse
 |[],_=>rfl
 |v::r,h=>by
  have ih:=agz hw r λx hx=>h x (.tail _ hx)
  have hv:=h v (.head _);rw[uj,aN,List.length_singleton,RK,fS];have hx:(v-low).toNat<w:=o_;rw[f9 (_*w),om _ _ hw,gk hx,b7,ih,rW,fw hx]
  congr 2
  omega
def ao9 {low:Int}{w:Nat}(hw:1<=w){l:E_}(h:∀v∈l,low<=v∧v<low+w):fS low w l.length (AC low w l 0)=l:=by
 have:=agz hw l.reverse λv hv=>h v (List.mem_reverse.1 hv)
 rwa [List.reverse_reverse]at this
def sgB:E_->C_->C_
 |v::r,s::ss=>(if v=0 then [] else [s])++sgB r ss
 |_,_=>[]
def YI:E_->C_->Prop
 |v::r,s::ss=>(s<=1∧(v=0->s=0))∧YI r ss
 |[],[]=>True
 |_,_=>False
def YL {s:Nat}(h:s<=1):bh s 1=[s]:=by simp[bh];omega
def C3 {b:C_}:∀{vs:E_}{ss:C_}{a n:Nat},a<=b.length->(gv b vs a=.ok ss n↔YI vs ss∧At b a n (sgB vs ss))
 |[],ss,a,n,ha=>by
  rw[gv];constructor
  .intro h;injection h with e1 e2
   subst e1 e2;exact⟨trivial,ek.2 ⟨rfl,ha⟩⟩
  .rintro ⟨h1,h2⟩
   cases ss with
   |nil=>rw[(ek.1 h2).1]
   |cons s ss=>exact absurd h1 (by simp[YI])
 |v::r,ss,a,n,ha=>by
  rw[gv];by_cases hv:v=0
  .rw[ac hv,aH];constructor
   .rintro ⟨l,m,h1,h⟩
    injection h with e1 e2
    subst e1 e2;obtain⟨g1,g2⟩:=(C3 ha).1 h1;exact⟨⟨⟨o_,λ_=>rfl⟩,g1⟩,by rw[sgB,ac hv];exact g2⟩
   .rintro ⟨h1,h2⟩
    cases ss with
    |nil=>exact absurd h1 (by simp[YI])
    |cons s ss =>
     have:=h1.1.2 hv;subst this;rw[sgB,ac hv]at h2;exact⟨ss,n,(C3 ha).2 ⟨h1.2,h2⟩,rfl⟩
  .rw[aa hv,aH];constructor
   .rintro ⟨s,m,h1,h⟩
    obtain⟨g1,g2⟩:=(cB (s:=1) o_).1 h1;rw[YL o_]at g2;obtain⟨l,m2,h2,h⟩:=aH.1 h;injection h with e1 e2;subst e1 e2;obtain⟨g3,g4⟩:=(C3 (db g2).2.1).1 h2;exact⟨⟨⟨o_,λh=>absurd h hv⟩,g3⟩,by rw[sgB,aa hv];exact bc.2 ⟨m,g2,g4⟩⟩
   .rintro ⟨h1,h2⟩
    cases ss with
    |nil=>exact absurd h1 (by simp[YI])
    |cons s ss =>
     rw[sgB,aa hv]at h2;obtain⟨m,k1,k2⟩:=bc.1 h2;have hs:=h1.1.1;exact⟨s,m,(cB (s:=1) o_).2 ⟨o_,by rw[YL hs];exact k1⟩,aH.2 ⟨ss,n,(C3 (db k1).2.1).2 ⟨h1.2,k2⟩,rfl⟩⟩
def OS {b:C_}:∀{f m a k n:Nat},oh b f m a=.ok k n↔(m<=k∧k<m+f)∧At b a n (List.replicate (k-m) 1++[0])
 |0,m,a,k,n=>by
  rw[oh];exact⟨λh=>absurd h s_,λh=>by omega⟩
 |f+1,m,a,k,n=>by
  rw[oh,aH];constructor
  .rintro ⟨v,m1,h1,h⟩
   obtain⟨g1,g2⟩:=(cB (s:=1) o_).1 h1;rw[YL o_]at g2;by_cases hv:v=1
   .subst hv;rw[ac rfl,OS]at h;obtain⟨h2,h3⟩:=h;refine⟨o_,?_⟩;rw[show k-m=(k-(m+1))+1 by omega,cD,aK];exact bc (X:=[1]) |>.2 ⟨m1,g2,h3⟩
   .have:v=0:=o_;subst this;rw[aa hv]at h;injection h with e1 e2
    subst e1 e2;exact⟨o_,by simpa using g2⟩
  .rintro ⟨h1,h⟩
   by_cases hk:k=m
   .subst hk;rw[uW]at h;refine⟨0,n,(cB (s:=1) o_).2 ⟨o_,?_⟩,by rw[aa o_]⟩;simpa [bh] using h
   .rw[show k-m=(k-(m+1))+1 by omega,cD,aK]at h;obtain⟨m1,k1,k2⟩:=bc (X:=[1]) |>.1 h;refine⟨1,m1,(cB (s:=1) o_).2 ⟨o_,by simpa [bh] using k1⟩,?_⟩;rw[ac rfl,OS];exact⟨o_,k2⟩
abbrev ar9 (x:Nat):C_:=List.replicate (md x-5) 1++(0::bh (x % 2 ^ (md x-1)) (md x-1))
def akv {b:C_}{a x n:Nat}:Jc b a=.ok x n↔(16<=x∧x<=8191)∧At b a n (ar9 x):=by
 rw[Jc,aH];constructor
 .rintro ⟨m,n1,h1,h⟩
  obtain⟨⟨_,m9⟩,g1⟩:=OS.1 h1;obtain⟨y,n2,h2,h⟩:=aH.1 h;obtain⟨g2,g3⟩:=(cB o_).1 h2;injection h with e1 e2;subst e1 e2;have p1:=aA (n:=2) o_ (show 4<=m+4 by omega);have p2:=aA (n:=2) o_ (show m+4<=12 by omega);have hl:=ajz (n:=2 ^ (m+4)+y) (k:=m+4) o_ (by have:2 ^ (m+4+1)=2 ^ (m+4)*2:=cR _ _;omega);refine⟨o_,?_⟩;unfold ar9;rw[hl,show m+4+1-5=m by omega,dz,Nat.add_mod_left,fw g2];have:List.replicate m 1++(0::bh y (m+4))=(List.replicate m 1++[0])++bh y (m+4):=s_;rw[this];exact bc.2 ⟨n1,by simpa using g1,g3⟩
 .rintro ⟨⟨h1,h2⟩,h⟩
  have l1:=abh (n:=x);have l2:=aaS (n:=x) o_;have k5:5<=md x:=by
   rcases bD (md x) 5 with h|h
   .have:=aA (n:=2) o_ (show md x<=4 by omega);omega
   .exact h
  have k13:md x<=13:=by
   rcases bD 13 (md x) with h|h
   .have:=aA (n:=2) o_ (show 13<=md x-1 by omega);omega
   .exact h
  obtain⟨m,hm⟩:∃m,md x=m+5:=⟨md x-5,o_⟩
  unfold ar9 at h;rw[hm]at h l1 l2;rw[show m+5-1=m+4 by omega]at h l2;have l3:2 ^ (m+5)=2 ^ (m+4)*2:=cR _ _;rw[dz]at h;have:List.replicate m 1++(0::bh (x % 2 ^ (m+4)) (m+4))=(List.replicate m 1++[0])++bh (x % 2 ^ (m+4)) (m+4):=s_;rw[this]at h;obtain⟨n1,j1,j2⟩:=bc.1 h;have hx:x % 2 ^ (m+4)=x-2 ^ (m+4):=by rw[Nat.mod_eq_sub_mod l2,fw o_]
  refine⟨m,n1,OS.2 ⟨o_,by simpa using j1⟩,aH.2 ⟨x % 2 ^ (m+4),n,(cB o_).2 ⟨o_,j2⟩,?_⟩⟩;rw[hx]
  congr 1
  omega
def sgn (v:Int):Nat:=if v<0 then 1 else 0
def FL {b:C_}{id:Nat}{M:Nat}(hM:id=11->M=8191):∀{vs:E_}{ss:C_}{l:E_}{a n:Nat},a<=b.length->YI vs ss->(∀v∈vs,0<=v∧(id=11->v<=16)∧(id≠11->v<=M))->
  (jV b id vs ss a=.ok l n↔(vs=l.map (xh id)∧ss=l.map sgn∧∀v∈l,v.natAbs<=M)∧At b a n (l.flatMap (aax id)))
 |[],[],l,a,n,ha,hs,hv=>by
  have e0:jV b id [] [] a=.ok [] a:=by simp[jV]
  rw[e0];constructor
  .intro h;injection h with e1 e2
   subst e1 e2;exact⟨⟨rfl,rfl,s_⟩,ek.2 ⟨rfl,ha⟩⟩
  .rintro ⟨⟨h1,h2,_⟩,h3⟩
   cases l with
   |nil=>rw[(ek.1 h3).1]
   |cons x r=>exact absurd h1 (by simp)
 |[],s::ss,l,a,n,ha,hs,hv=>absurd hs (by simp[YI])
 |v::r,[],l,a,n,ha,hs,hv=>absurd hs (by simp[YI])
 |v::r,s::ss,l,a,n,ha,hs,hv=>by
  obtain⟨⟨s1,s2⟩,hs⟩:=hs;obtain⟨v0,v11,vM⟩:=hv v (.head _);have hv:=λx hx=>hv x (.tail _ hx)
  have sg1:∀x:Int,0<=x->(x=0->s=0)->sgn (sg s x)=s∧(sg s x).natAbs=x.toNat:=λx h0 h1=>by
   unfold sgn sg;by_cases h:s=1
   .rw[ac h,ac o_];omega
   .rw[aa h,aa o_];omega
  have sg2:∀(y:Int),s=sgn y->sg s (y.natAbs:Int)=y:=λy h=>by
   unfold sgn at h;unfold sg;by_cases h2:y<0
   .rw[ac h2]at h;rw[ac h];omega
   .rw[aa h2]at h;rw[aa o_];omega
  rw[jV];by_cases hg:id=11∧v=16
  .rw[ac hg,aH];obtain⟨h11,hv16⟩:=hg;constructor
   .rintro ⟨x,m,h1,h⟩
    obtain⟨g1,g2⟩:=akv.1 h1;obtain⟨l2,m2,h2,h⟩:=aH.1 h;injection h with e1 e2;subst e1 e2;obtain⟨⟨g3,g4,g5⟩,g6⟩:=(FL hM (db g2).2.1 hs hv).1 h2;obtain⟨q1,q2⟩:=sg1 x o_ o_;have q3:(sg s (x:Int)).natAbs=x:=o_;refine⟨⟨?_,?_,?_⟩,?_⟩
    .rw[bZ,<-g3,xh,ac o_,hv16]
    .rw[bZ,<-g4,q1]
    .intro y hy;rcases aD.1 hy with rfl|hy
     .rw[q3,hM h11];omega
     .exact g5 y hy
    .rw[be,aax,ac o_,q3];exact bc.2 ⟨m,g2,g6⟩
   .rintro ⟨⟨h1,h2,h3⟩,h4⟩
    cases l with
    |nil=>exact absurd h1 (by simp)
    |cons y l =>
     rw[bZ]at h1 h2;injection h1 with h1 h1t
     injection h2 with h2 h2t
     have hy:=h3 y (.head _);rw[hM h11]at hy;have h16:16<=y.natAbs:=by
      rw[xh]at h1;by_cases h:id=11∧16<=y.natAbs
      .exact h.2
      .rw[aa h]at h1;omega
     rw[be,aax,ac ⟨h11,h16⟩]at h4;obtain⟨m,k1,k2⟩:=bc.1 h4;refine⟨y.natAbs,m,akv.2 ⟨o_,k1⟩,aH.2 ⟨l,n,(FL hM (db k1).2.1 hs hv).2 ⟨⟨h1t,h2t,λz hz=>h3 z (.tail _ hz)⟩,k2⟩,?_⟩⟩;rw[sg2 y h2]
  .rw[aa hg,aH];constructor
   .rintro ⟨l2,m,h1,h⟩
    injection h with e1 e2
    subst e1 e2;obtain⟨⟨g3,g4,g5⟩,g6⟩:=(FL hM ha hs hv).1 h1;obtain⟨q1,q2⟩:=sg1 v v0 s2;have hng:¬(id=11∧16<=(sg s v).natAbs):=o_;refine⟨⟨?_,?_,?_⟩,?_⟩
    .rw[bZ,<-g3,xh,aa hng];congr 1;omega
    .rw[bZ,<-g4,q1]
    .intro y hy;rcases aD.1 hy with rfl|hy
     .by_cases h11:id=11
      .have:=hM h11;have:=v11 h11;omega
      .have:=vM h11;omega
     .exact g5 y hy
    .rw[be,aax,aa hng,az];exact g6
   .rintro ⟨⟨h1,h2,h3⟩,h4⟩
    cases l with
    |nil=>exact absurd h1 (by simp)
    |cons y l =>
     rw[bZ]at h1 h2;injection h1 with h1 h1t
     injection h2 with h2 h2t
     have hng:¬(id=11∧16<=y.natAbs):=λh=>by
      rw[xh,ac h]at h1;exact hg ⟨h.1,h1⟩
     rw[xh,aa hng]at h1;rw[be,aax,aa hng,az]at h4;refine⟨l,n,(FL hM ha hs hv).2 ⟨⟨h1t,h2t,λz hz=>h3 z (.tail _ hz)⟩,h4⟩,?_⟩;rw[h1,sg2 y h2]
def afw {id:Nat}{v:Int}:xh id v=0↔v=0:=by
 unfold xh;by_cases h:id=11∧16<=v.natAbs
 .rw[ac h];omega
 .rw[aa h];omega
def ZU {id:Nat}:∀{l:E_},sgB (l.map (xh id)) (l.map sgn)=l.flatMap amb
 |[]=>rfl
 |v::r=>by
  rw[bZ,bZ,sgB,ZU,be]
  congr 1
  unfold amb sgn;by_cases h:v=0
  .rw[ac (afw.2 h),ac h]
  .rw[aa (λh2=>h (afw.1 h2)),aa h];split<;>rfl
def aaM {id:Nat}:∀{l:E_},YI (l.map (xh id)) (l.map sgn)
 |[]=>trivial
 |v::r=>⟨⟨by unfold sgn;split<;>omega,λh=>by rw[afw]at h;subst h;rfl⟩,aaM⟩
def atC:BE 11=8191:=g_
def ap9 {id:Nat}(hid:1<=id∧id<=11){b:C_}{a n:Nat}{l:E_}:xw id b (a:Int)=.ok l n↔ap4 id l∧At b a n (adZ id l):=by
 have hok:iD id:=⟨hid.1,o_⟩
 obtain⟨m1,m2,m3,m4⟩:=Pf id (ama hid);obtain⟨k1,k2,k3,k4,k5,k6,k7⟩:=mt id (dV hok);have hmany:aZ id=cO id ^ dI id:=rfl;have lt:∀{vs:E_},Xt id vs->AC (c4 id) (cO id) vs 0<aZ id:=λ{vs} h=>by
  have:=ajg (n:=0) (j:=0) h.2 s_;rw[b7,h.1,<-hmany]at this;exact this
 have back:∀{vs:E_},Xt id vs->iJ id (AC (c4 id) (cO id) vs 0)=vs:=λ{vs} h=>by
  have:=ao9 k3 h.2;rw[h.1]at this;exact this
 have forth:∀{e:Nat},e<aZ id->AC (c4 id) (cO id) (iJ id e) 0=e∧∀v∈iJ id e,c4 id<=v∧v<c4 id+cO id:=λ{e} h=>⟨abR k3 (by rwa [<-hmany]),Gf k3⟩
 rw[xw,aH];unfold adZ;by_cases hs:kR id=true
 .simp only[ac hs];obtain⟨q1,q2⟩:=m1 hs;constructor
  .rintro ⟨e,m,h1,h⟩
   obtain⟨g1,g2⟩:=(Fn hok).1 h1;injection h with e1 e2;subst e1 e2;obtain⟨f1,f2⟩:=forth g1;refine⟨⟨by rw[C6,m3],λv hv=>by have:=f2 v hv;omega⟩,?_⟩;rw[f1];exact g2
  .rintro ⟨h1,h2⟩
   have hi:=(ae2 hid h1).1 hs;exact⟨_,n,(Fn hok).2 ⟨lt hi,h2⟩,by rw[back hi]⟩
 .have hs2:kR id=false:=by simpa using hs
  simp only[aa hs];obtain⟨q1,q2,q3⟩:=m2 hs2;have h11:id=11->BE id=8191:=λh=>by rw[h];exact atC
  constructor
  .rintro ⟨e,m,h1,h⟩
   obtain⟨g1,g2⟩:=(Fn hok).1 h1;obtain⟨ss,m2,h2,h⟩:=aH.1 h;obtain⟨g3,g4⟩:=(C3 (db g2).2.1).1 h2;obtain⟨f1,f2⟩:=forth g1;have hv:∀v∈iJ id e,0<=v∧(id=11->v<=16)∧(id≠11->v<=BE id):=λv hv=>by
    have:=f2 v hv;refine⟨o_,λh=>by have:=q3 h;omega,λh=>by have:=q2 h;omega⟩
   obtain⟨⟨g5,g6,g7⟩,g8⟩:=(FL h11 (db g4).2.1 g3 hv).1 h;have hl:l.length=bt id:=by
    have:=aY List.length g5;rw[C6,gU]at this;omega
   refine⟨⟨hl,g7⟩,bc.2 ⟨m,?_,bc.2 ⟨m2,?_,g8⟩⟩⟩
   .rw[<-g5,f1];exact g2
   .rw[<-ZU (id:=id),<-g5,<-g6];exact g4
  .rintro ⟨h1,h2⟩
   have hi:=(ae2 hid h1).2 hs2;obtain⟨m,j1,j2⟩:=bc.1 h2;obtain⟨p,j3,j4⟩:=bc.1 j2;have hv:∀v∈l.map (xh id),0<=v∧(id=11->v<=16)∧(id≠11->v<=BE id):=λv hv=>by
    have:=hi.2 v hv;refine⟨o_,λh=>by have:=q3 h;omega,λh=>by have:=q2 h;omega⟩
   refine⟨_,m,(Fn hok).2 ⟨lt hi,j1⟩,?_⟩;rw[back hi];refine aH.2 ⟨l.map sgn,p,(C3 (db j1).2.1).2 ⟨aaM,by rw[ZU];exact j3⟩,?_⟩;exact(FL h11 (db j3).2.1 aaM hv).2 ⟨⟨rfl,rfl,h1.2⟩,j4⟩
def auX:aZ 12=121:=g_
def akd {b:C_}{a n:Nat}{d:Int}:Fl b (a:Int)=.ok d n↔(-60<=d∧d<=60)∧At b a n (Iw 12 (d+60).toNat):=by
 have hok:iD 12:=o_;have h12:=auX;rw[Fl,aH];constructor
 .rintro ⟨e,m,h1,h⟩
  obtain⟨g1,g2⟩:=(Fn hok).1 h1;injection h with e1 e2;subst e1 e2;refine⟨o_,?_⟩;rw[show((e:Int)-60+60).toNat=e by omega];exact g2
 .rintro ⟨h1,h2⟩
  refine⟨(d+60).toNat,n,(Fn hok).2 ⟨o_,h2⟩,?_⟩
  congr 1
  omega
def TY {b:C_}{a n:Nat}{k w v:Int}(hw:w<0->k=13):i9 b (a:Int) k w=.ok v n↔((0<=v∧v<=nV k)∧(w<0∨(w-60<=v∧v<=w+60)))∧At b a n (if w<0 then bh v.toNat 9 else Iw 12 (v-w+60).toNat):=by
 rw[i9];by_cases h0:w<0
 .have hk:=hw h0;have hm:nV k=511:=ac hk;rw[ac h0,ac h0,aH,hm];constructor
  .rintro ⟨x,m,h1,h⟩
   obtain⟨g1,g2⟩:=(cB (s:=9) o_).1 h1;injection h with e1 e2;subst e1 e2;exact⟨⟨o_,.inl h0⟩,by simpa using g2⟩
  .rintro ⟨⟨h1,_⟩,h2⟩
   exact⟨v.toNat,n,(cB (s:=9) o_).2 ⟨o_,h2⟩,by congr 1;omega⟩
 .rw[aa h0,aa h0,aH];constructor
  .rintro ⟨d,m,h1,h⟩
   obtain⟨g1,g2⟩:=akd.1 h1;by_cases hx:w+d<0∨nV k<w+d
   .rw[ac hx]at h;exact absurd h (by simp)
   rw[aa hx]at h;injection h with e1 e2
   subst e1 e2;refine⟨⟨o_,.inr o_⟩,?_⟩;rw[show w+d-w+60=d+60 by omega];exact g2
  .rintro ⟨⟨h1,h2⟩,h3⟩
   refine⟨v-w,n,akd.2 ⟨o_,h3⟩,?_⟩;rw[aa o_]
   congr 1
   omega
def s13 {v w z:Int}:Ol 13 v w z=if z<0 then bh v.toNat 9 else Iw 12 (v-z+60).toNat:=by rw[Ol,aa d_,ac rfl]
def t13 {v w z:Int}:Jx 13 v w z=(w,v):=by rw[Jx,aa d_,ac rfl]
def CF {b:C_}:∀{r:E_}{t:E_}{a n:Nat}{w z w2 z2:Int},a<=b.length->(∀k∈r,0<=k)->0<=w->
  (mC b r (a:Int) w z=.ok (t,w2,z2) n↔oT r t w z=some (w2,z2)∧At b a n (N6 r t w z))
 |[],t,a,n,w,z,w2,z2,ha,hr,hw=>by
  rw[mC,au];constructor
  .intro h;injection h with e1 e2
   injection e1 with e1 e3
   injection e3 with e3 e4
   subst e1 e2 e3 e4;exact⟨rfl,ek.2 ⟨rfl,ha⟩⟩
  .rintro ⟨h1,h2⟩
   cases t with
   |nil =>
    injection h1 with h1
    injection h1 with e1 e2
    subst e1 e2;rw[(ek.1 h2).1]
   |cons x t=>exact absurd h1 (by simp[oT])
 |k::r,t,a,n,w,z,w2,z2,ha,hr,hw=>by
  have hk:=hr k (.head _);have hr2:∀k∈r,0<=k:=λx hx=>hr x (.tail _ hx)
  rw[mC];by_cases h13:k=13
  .subst h13;rw[ac rfl,aH];have hm:nV 13=511:=rfl;constructor
   .rintro ⟨v,m,h1,h⟩
    obtain⟨g1,g2⟩:=(TY (λ_=>rfl)).1 h1;obtain⟨⟨t2,u2,y2⟩,m2,h2,h⟩:=aH.1 h;injection h with e1 e2;injection e1 with e1 e3
    injection e3 with e3 e4
    simp only at e1 e3 e4;subst e1 e2 e3 e4;obtain⟨g3,g4⟩:=(CF (db g2).2.1 hr2 hw).1 h2;refine⟨?_,?_⟩
    .rw[oT,aa d_,ac (by unfold xt;rw[ac rfl];omega),ac rfl];exact g3
    .rw[N6,s13,t13];exact bc.2 ⟨m,g2,g4⟩
   .rintro ⟨h1,h2⟩
    cases t with
    |nil=>exact absurd h1 (by simp[oT])
    |cons v t =>
     obtain⟨c1,c2,c3⟩:=GK (by rw[h1];simp);have hT:=c2 d_;unfold xt at hT;rw[ac rfl]at hT;rw[c3,Jx,aa d_,ac rfl]at h1;rw[N6,s13,t13]at h2;obtain⟨m,j1,j2⟩:=bc.1 h2;exact⟨v,m,(TY (λ_=>rfl)).2 ⟨o_,j1⟩,aH.2 ⟨(t,w2,z2),n,(CF (db j1).2.1 hr2 hw).2 ⟨h1,j2⟩,rfl⟩⟩
  .rw[aa h13];by_cases h0:0<k
   .have hm:nV k=255:=aa h13;have hk0:¬k=0:=o_;rw[ac h0,aH];constructor
    .rintro ⟨v,m,h1,h⟩
     obtain⟨g1,g2⟩:=(TY (λh=>by omega)).1 h1;obtain⟨⟨t2,u2,y2⟩,m2,h2,h⟩:=aH.1 h;injection h with e1 e2;injection e1 with e1 e3
     injection e3 with e3 e4
     simp only at e1 e3 e4;subst e1 e2 e3 e4;rw[aa o_]at g2;obtain⟨g3,g4⟩:=(CF (db g2).2.1 hr2 g1.1.1).1 h2;refine⟨?_,?_⟩
     .rw[oT,aa hk0,ac (by unfold xt;rw[aa h13];omega),aa h13];exact g3
     .rw[N6,Ol,aa hk0,aa h13,Jx,aa hk0,aa h13];exact bc.2 ⟨m,g2,g4⟩
    .rintro ⟨h1,h2⟩
     cases t with
     |nil=>exact absurd h1 (by simp[oT])
     |cons v t =>
      obtain⟨c1,c2,c3⟩:=GK (by rw[h1];simp);have hT:=c2 hk0;unfold xt at hT;rw[aa h13]at hT;rw[c3,Jx,aa hk0,aa h13]at h1;rw[N6,Ol,aa hk0,aa h13,Jx,aa hk0,aa h13]at h2;obtain⟨m,j1,j2⟩:=bc.1 h2;exact⟨v,m,(TY (λh=>by omega)).2 ⟨o_,by rw[aa o_];exact j1⟩,aH.2 ⟨(t,w2,z2),n,(CF (db j1).2.1 hr2 hT.1.1).2 ⟨h1,j2⟩,rfl⟩⟩
   .have hk0:k=0:=o_;subst hk0;rw[aa h0,aH];constructor
    .rintro ⟨⟨t2,u2,y2⟩,m2,h2,h⟩
     injection h with e1 e2
     injection e1 with e1 e3
     injection e3 with e3 e4
     simp only at e1 e3 e4;subst e1 e2 e3 e4;obtain⟨g3,g4⟩:=(CF ha hr2 hw).1 h2;refine⟨?_,?_⟩
     .rw[oT,ac rfl,ac rfl];exact g3
     .rw[N6,Ol,ac rfl,Jx,ac rfl,az];exact g4
    .rintro ⟨h1,h2⟩
     cases t with
     |nil=>exact absurd h1 (by simp[oT])
     |cons v t =>
      obtain⟨c1,c2,c3⟩:=GK (by rw[h1];simp);have:=c1 rfl;subst this;rw[c3,Jx,ac rfl]at h1;rw[N6,Ol,ac rfl,Jx,ac rfl,az]at h2;exact⟨(t,w2,z2),n,(CF ha hr2 hw).2 ⟨h1,h2⟩,rfl⟩
def aee:∀{r t:E_}{w z w2 z2:Int},0<=w->oT r t w z=some (w2,z2)->0<=w2
 |[],[],w,z,w2,z2,hw,h=>by
  injection h with h
  injection h with e1 e2
  omega
 |[],_::_,w,z,w2,z2,hw,h=>absurd h (by simp[oT])
 |_::_,[],w,z,w2,z2,hw,h=>absurd h (by simp[oT])
 |k::r,v::t,w,z,w2,z2,hw,h=>by
  obtain⟨c1,c2,c3⟩:=GK (by rw[h];simp);rw[c3]at h;refine aee ?_ h;unfold Jx;by_cases h0:k=0
  .rw[ac h0];exact hw
  .rw[aa h0];have:=c2 h0;unfold xt at this;split
   .exact hw
   .rename_i h13;rw[aa h13]at this;exact this.1.1
def Sz {b:C_}:∀{g:H_}{t:O_}{a n:Nat}{w z:Int},a<=b.length->(∀l∈g,∀k∈bz l,0<=k)->0<=w->
  (kr b g (a:Int) w z=.ok t n↔Lb g t w z≠none∧At b a n (UE g t w z))
 |[],t,a,n,w,z,ha,hr,hw=>by
  rw[kr,au];constructor
  .intro h;injection h with e1 e2
   subst e1 e2;exact⟨by simp[Lb],ek.2 ⟨rfl,ha⟩⟩
  .rintro ⟨h1,h2⟩
   cases t with
   |nil=>rw[(ek.1 h2).1]
   |cons x t=>exact absurd rfl h1
 |l::r,t,a,n,w,z,ha,hr,hw=>by
  have hl:=hr l (.head _);have hr2:∀q∈r,∀k∈bz q,0<=k:=λq hq=>hr q (.tail _ hq)
  rw[kr,aH];constructor
  .rintro ⟨⟨t1,w1,z1⟩,m,h1,h⟩
   obtain⟨g1,g2⟩:=(CF ha hl hw).1 h1;obtain⟨t2,m2,h2,h⟩:=aH.1 h;injection h with e1 e2;subst e1 e2;obtain⟨g3,g4⟩:=(Sz (db g2).2.1 hr2 (aee hw g1)).1 h2;refine⟨?_,?_⟩
   .rw[Lb,g1];exact g3
   .rw[UE,g1];exact bc.2 ⟨m,g2,g4⟩
  .rintro ⟨h1,h2⟩
   cases t with
   |nil=>exact absurd rfl h1
   |cons t1 t =>
    rw[Lb]at h1;rw[UE]at h2
    cases e:oT (bz l) t1 w z with
    |none=>rw[e]at h1;exact absurd rfl h1
    |some p =>
     obtain⟨w1,z1⟩:=p;rw[e]at h1 h2;obtain⟨m,j1,j2⟩:=bc.1 h2;exact⟨(t1,w1,z1),m,(CF ha hl hw).2 ⟨e,j1⟩,aH.2 ⟨t,n,(Sz (db j1).2.1 hr2 (aee hw e)).2 ⟨h1,j2⟩,rfl⟩⟩
def anm {b:C_}{g:H_}{t:O_}{a n:Nat}{w:Int}(ha:a<=b.length)(hr:∀l∈g,∀k∈bz l,0<=k)(hw:0<=w):po b g (a:Int) w=.ok t n↔TJ w g t∧At b a n (UE g t w (-1)):=by
 rw[po,ac o_,Sz ha hr hw]
abbrev sy:=@List.getElem?_take
def aiU {Z l:E_}{a i:Nat}(h:a+l.length<=Z.length):(aF Z a l)[i]?=if a<=i∧i<a+l.length then l[i-a]? else Z[i]?:=by
 have h1:(Z.take a).length=a:=by rw[fp];omega
 unfold aF;by_cases h2:i<a
 .rw[aa o_,aw,dj o_,sy,ac h2]
 .by_cases h3:i<a+l.length
  .rw[ac o_,aw,dB o_,h1,dj o_]
  .rw[aa o_,dB (by rw[aN];omega),aN,h1,bx]
   congr 1
   omega
abbrev cut (Z:E_)(p:Nat×Nat):E_:=(Z.drop p.2).take (bt p.1)
def akf {Z:E_}{p:Nat×Nat}{i:Nat}(h:i<bt p.1):(cut Z p)[i]?=Z[p.2+i]?:=by
 rw[cut,sy,ac h,bx]
def atF {Z:E_}{p:Nat×Nat}(h:p.2+bt p.1<=Z.length):(cut Z p).length=bt p.1:=by
 rw[cut,fp,gb];omega
def ani {os:C_}{d b x:Nat}:∀{k w0 w:Nat},w0<=w->w<w0+k->x∈qc d (nth os (b+1)) 300 (nth os b)->w*32+x∈sU os d b k w0
 |0,w0,w,h1,h2,_=>by omega
 |k+1,w0,w,h1,h2,h=>by
  rw[sU,bj];rcases bD w0 w with h3|h3
  .exact .inr (ani h3 o_ h)
  .have:w=w0:=o_;subst this;exact .inl (cX.2 ⟨x,h,rfl⟩)
def Yo (i:aG):(cond i.short 32 256:Nat)=i.wide∧((i.wide=32∧i.many=8)∨(i.wide=256∧i.many=1)):=by
 unfold aG.short aG.wide aG.many;by_cases h:i.seq=2
 .rw[dT_ h,ac h,ac h];exact⟨rfl,.inl ⟨rfl,rfl⟩⟩
 .rw[dF_ h,aa h,aa h];exact⟨rfl,.inr ⟨rfl,rfl⟩⟩
abbrev mU:=@Int.emod_eq_of_lt
def Cs (b:C_)(st s2:RS)(X:C_):Prop:=∃a n:Nat,st=⟨a,0⟩∧s2=⟨n,0⟩∧At b a n X
def alD (b:C_)(st:RS):Prop:=∃a:Nat,st=⟨a,0⟩∧a<=b.length
def iM {b:C_}{st s2:RS}{X Y:C_}:Cs b st s2 (X++Y)↔∃m,Cs b st m X∧Cs b m s2 Y:=by
 constructor
 .rintro ⟨a,n,e1,e2,h⟩
  obtain⟨m,h1,h2⟩:=bc.1 h;exact⟨⟨m,0⟩,⟨a,m,e1,rfl,h1⟩,⟨m,n,rfl,e2,h2⟩⟩
 .rintro ⟨m,⟨a,n,e1,e2,h⟩,⟨a2,n2,e3,e4,h2⟩⟩
  rw[e2]at e3;injection e3 with e3 _
  have:n=a2:=o_;subst this;exact⟨a,n2,e1,e4,bc.2 ⟨n,h,h2⟩⟩
def C7 {b:C_}{st s2:RS}:Cs b st s2 []↔s2=st∧alD b st:=by
 constructor
 .rintro ⟨a,n,e1,e2,h⟩
  obtain⟨h1,h2⟩:=ek.1 h;exact⟨by rw[e1,e2,h1],a,e1,h2⟩
 .intro hh;obtain⟨a,e,h⟩:=hh.2;exact⟨a,a,e,by rw[hh.1,e],ek.2 ⟨rfl,h⟩⟩
def F7 {b:C_}{st s2:RS}{X:C_}(h:Cs b st s2 X):alD b st∧alD b s2∧st.e=0∧s2.e=0:=by
 obtain⟨a,n,e1,e2,h⟩:=h;have:=db h;exact⟨⟨a,e1,this.1⟩,⟨n,e2,this.2.1⟩,by rw[e1],by rw[e2]⟩
def WH {b:C_}{st:RS}{s:Nat}(h:(sN b st s).e=0):st.e=0:=by
 unfold sN at h;by_cases h0:st.e=0
 .exact h0
 .rw[aa h0]at h;exact absurd h h0
def LK {b:C_}{st:RS}{s:Nat}(hs:s<=31)(h:(sN b st s).e=0):sV b st s<2 ^ s∧Cs b st (sN b st s) (bh (sV b st s) s):=by
 have h0:=WH h;obtain⟨a,e⟩:=st;simp only at h0;subst h0
 cases hg:aE b a s with
 |er e=>rw[(DF hg).2]at h;exact absurd h (by simp)
 |ok v n =>
  rw[(kw hg).1,(kw hg).2];have ha:=aja hg;obtain⟨A,rfl⟩:=ay ha;obtain⟨g1,g2⟩:=(cB hs).1 hg;exact⟨g1,A,n,rfl,rfl,g2⟩
def SV {b:C_}{st s2:RS}{s v:Nat}(hs:s<=31)(hv:v<2 ^ s)(h:Cs b st s2 (bh v s)):sV b st s=v∧sN b st s=s2:=by
 obtain⟨a,n,rfl,rfl,h⟩:=h;exact kw ((cB hs).2 ⟨hv,h⟩)
abbrev nx (b:C_)(st:RS):Prop:=st.e=0->alD b st
def aBX {v sz:Nat}(hz:1<=sz)(hv:v<2 ^ sz):(-((2 ^ (sz-1):Nat):Int)<=GE v sz∧GE v sz<((2 ^ (sz-1):Nat):Int))∧(GE v sz % ((2 ^ sz:Nat):Int)).toNat=v:=by
 obtain⟨k,rfl⟩:∃k,sz=k+1:=⟨sz-1,o_⟩
 have e:2 ^ (k+1)=2*2 ^ k:=by rw[cR,eK]
 have hp:=df k;unfold GE;rw[dz];rw[e]at hv⊢;rcases bD v (2 ^ k) with h|h
 .rw[gk h,Nat.zero_mul];refine⟨o_,?_⟩;rw[mU o_ o_];omega
 .have:v / 2 ^ k=1:=iT o_ o_;rw[this,Nat.one_mul];refine⟨o_,?_⟩;have e3:((v:Int)-((2*2 ^ k:Nat):Int)) % ((2*2 ^ k:Nat):Int)=v:=by
   rw[Int.sub_emod_right,mU o_ o_]
  rw[e3];omega
def aCA {c:Int}{sz:Nat}(hz:1<=sz)(h:-((2 ^ (sz-1):Nat):Int)<=c∧c<((2 ^ (sz-1):Nat):Int)):(c % ((2 ^ sz:Nat):Int)).toNat<2 ^ sz∧GE (c % ((2 ^ sz:Nat):Int)).toNat sz=c:=by
 obtain⟨k,rfl⟩:∃k,sz=k+1:=⟨sz-1,o_⟩
 have e:2 ^ (k+1)=2*2 ^ k:=by rw[cR,eK]
 have hp:=df k;rw[dz]at h;unfold GE;rw[dz,e];rcases Int.lt_or_le c 0 with h0|h0
 .have e3:c % ((2*2 ^ k:Nat):Int)=c+((2*2 ^ k:Nat):Int):=by
   rw[<-Int.add_emod_right,mU o_ o_]
  rw[e3];have e4:(c+((2*2 ^ k:Nat):Int)).toNat / 2 ^ k=1:=iT o_ o_;rw[e4];omega
 .rw[mU o_ o_,gk o_];omega
def awC {b:C_}{sz:Nat}(hz:1<=sz∧sz<=31):∀{k:Nat}{st:RS},nx b st->(nM b sz k st).e=0->(nJ b sz k st).length=k∧(∀c∈nJ b sz k st,-((2 ^ (sz-1):Nat):Int)<=c∧c<((2 ^ (sz-1):Nat):Int))∧Cs b st (nM b sz k st) (S6 sz (nJ b sz k st))
 |0,st,hn,h=>⟨rfl,by simp[nJ],C7.2 ⟨rfl,hn h⟩⟩
 |k+1,st,hn,h=>by
  rw[nM]at h;have hn2:nx b (sN b st sz):=λh1=>(F7 (LK hz.2 h1).2).2.1
  obtain⟨i1,i2,i3⟩:=awC hz (k:=k) hn2 h;obtain⟨j1,j2⟩:=LK hz.2 (F7 i3).2.2.1;obtain⟨v1,v2⟩:=aBX hz.1 j1;rw[nJ,nM];refine⟨by rw[ar,i1],λc hc=>?_,?_⟩
  .rcases aD.1 hc with rfl|hc
   .exact v1
   .exact i2 c hc
  .rw[S6,be,v2];exact iM.2 ⟨_,j2,i3⟩
def ayz {b:C_}{sz:Nat}(hz:1<=sz∧sz<=31):∀{l:E_}{st s2:RS},(∀c∈l,-((2 ^ (sz-1):Nat):Int)<=c∧c<((2 ^ (sz-1):Nat):Int))->Cs b st s2 (S6 sz l)->nJ b sz l.length st=l∧nM b sz l.length st=s2
 |[],st,s2,hl,h=>⟨rfl,(C7.1 h).1.symm⟩
 |c::r,st,s2,hl,h=>by
  rw[S6,be]at h;obtain⟨m,h1,h2⟩:=iM.1 h;obtain⟨v1,v2⟩:=aCA hz.1 (hl c (.head _));obtain⟨w1,w2⟩:=SV hz.2 v1 h1;obtain⟨i1,i2⟩:=ayz hz (l:=r) (λx hx=>hl x (.tail _ hx)) h2;rw[ar,nJ,nM,w1,w2,v2,i1,i2];exact⟨rfl,rfl⟩
def arB {b:C_}{sz:Nat}:∀{k:Nat}{st:RS},(nM b sz k st).e=0->st.e=0
 |0,_,h=>h
 |k+1,st,h=>by rw[nM]at h;exact WH (arB h)
def Ut {b:C_}{st:RS}{s:Nat}(hs:s<=31):nx b (sN b st s):=λh=>(F7 (LK hs h).2).2.1
def awP {b:C_}{sz:Nat}(hz:sz<=31):∀{k:Nat}{st:RS},nx b st->nx b (nM b sz k st)
 |0,_,h=>h
 |k+1,st,h=>by rw[nM];exact awP hz (Ut hz)
def am3 {fine:Bool}{w:Nat}(hw:w<=1):1<=fe fine-w∧fe fine-w<=31:=by unfold fe;split<;>omega
def asR (fine:Bool)(l:E_)(s:Nat)(hs:s=fe fine-1):ox l s=decide (∀c∈l,-(uR fine / 2)<=c∧c<uR fine / 2):=by
 subst hs
 cases fine<;>rfl
def Sa (sh:Bool):aqD sh=((2 ^ ct sh:Nat):Int)-1∧ct sh<=31∧cg sh<=31∧jw sh<=31:=by cases sh<;>decide
def aot {d:Nat}(h:d<2 ^ 1):vP (decide (d=1))=d:=by
 unfold vP;by_cases h1:d=1
 .rw[h1];rfl
 .rw[dF_ h1];simp;omega
def aCO {b:C_}{sh fine:Bool}{st:RS}(hO:¬(12<kp b (ct sh) (cg sh) st∧(pC b (ct sh) (cg sh) st).e=0))(hX:uB b (ct sh) (cg sh) fine st=false)(he:(kj b (ct sh) (cg sh) fine st).e=0) :
  (Ys sh (nN b (ct sh) (cg sh) fine st)∧(nN b (ct sh) (cg sh) fine st).fine=fine)∧Cs b st (kj b (ct sh) (cg sh) fine st) (OM sh (nN b (ct sh) (cg sh) fine st)):=by
 obtain⟨l1,l2,l3,_⟩:=Sa sh;have hS:(pC b (ct sh) (cg sh) st).e=0:=by
  unfold kj at he;by_cases h0:kp b (ct sh) (cg sh) st=0
  .rw[ac h0]at he;exact he
  .rw[aa h0]at he;have:=arB he;exact WH (s:=1) (WH (s:=1) this)
 have r2:=LK (st:=sN b st (ct sh)) (s:=cg sh) l3 hS;have r1:=LK (st:=st) (s:=ct sh) l2 (WH (s:=cg sh) hS);have hO2:((kp b (ct sh) (cg sh) st:Nat):Int)<=arP sh:=by
  have h1:kp b (ct sh) (cg sh) st<2 ^ cg sh:=r2.1;have h2:kp b (ct sh) (cg sh) st<=12:=by
   rcases bD 12 (kp b (ct sh) (cg sh) st) with h|h
   .exact absurd ⟨h,hS⟩ hO
   .exact h
  cases sh
  .show _<=(12:Int);omega
  .have:2 ^ cg true=8:=rfl;show _<=(7:Int);omega
 have hr1:=r1.1;have q2:Cs b (sN b st (ct sh)) (pC b (ct sh) (cg sh) st) (bh (kp b (ct sh) (cg sh) st) (cg sh)):=r2.2;unfold kj at he⊢;unfold nN;by_cases h0:kp b (ct sh) (cg sh) st=0
 .rw[ac h0]at he⊢;rw[ac h0];rw[h0]at q2;refine⟨⟨⟨⟨by simp only[];omega,by simp only[];omega⟩,⟨s_,by simp only[];cases sh<;>decide⟩,rfl,λ_=>rfl,s_⟩,rfl⟩,?_⟩;unfold OM;simp only[bR,aR];exact iM.2 ⟨_,by simpa using r1.2,by simpa using q2⟩
 .rw[aa h0]at he⊢;rw[aa h0];have hT:=arB he;have r4:=LK (st:=sN b (pC b (ct sh) (cg sh) st) (1:Nat)) (s:=1) o_ hT;have r3:=LK (st:=pC b (ct sh) (cg sh) st) (s:=1) o_ (WH (s:=1) hT);have hd:flD b (ct sh) (cg sh) st<2 ^ 1:=r3.1;have hw:Dp b (ct sh) (cg sh) st<2 ^ 1:=r4.1;have q3:Cs b (pC b (ct sh) (cg sh) st) (sN b (pC b (ct sh) (cg sh) st) (1:Nat)) (bh (flD b (ct sh) (cg sh) st) 1):=r3.2;have q4:Cs b (sN b (pC b (ct sh) (cg sh) st) (1:Nat)) (JC b (ct sh) (cg sh) st) (bh (Dp b (ct sh) (cg sh) st) 1):=r4.2;have hz:=am3 (fine:=fine) (w:=Dp b (ct sh) (cg sh) st) o_;have c:=awC (sz:=EF b (ct sh) (cg sh) fine st) hz (k:=kp b (ct sh) (cg sh) st) (Ut (st:=sN b (pC b (ct sh) (cg sh) st) (1:Nat)) (s:=1) o_) he;unfold uB at hX;rw[aa h0]at hX;obtain⟨c1,c2,c3⟩:=c;have c3:Cs b (JC b (ct sh) (cg sh) st) _ _:=c3;have hZ:EF b (ct sh) (cg sh) fine st=fe fine-Dp b (ct sh) (cg sh) st:=rfl;generalize hcf:nJ b (EF b (ct sh) (cg sh) fine st) (kp b (ct sh) (cg sh) st) (sN b (sN b (pC b (ct sh) (cg sh) st) (1:Nat)) (1:Nat))=cs at *;have hcf2:nJ b (EF b (ct sh) (cg sh) fine st) (kp b (ct sh) (cg sh) st) (JC b (ct sh) (cg sh) st)=cs:=hcf;rw[hcf2]at hX⊢;have hrng:∀c∈cs,-uR fine<=c∧c<uR fine:=λc hc=>by
   have:=c2 c hc;rw[hZ]at this;have hw2:Dp b (ct sh) (cg sh) st=0∨Dp b (ct sh) (cg sh) st=1:=o_;rcases hw2 with e|e<;>rw[e]at this<;>cases fine<;>simp only[fe,uR]at this⊢<;>simp at this⊢<;>omega
  have hnar:vP (decide (∀c∈cs,-(uR fine / 2)<=c∧c<uR fine / 2))=Dp b (ct sh) (cg sh) st:=by
   rw[<-asR fine cs _ rfl];have hw2:Dp b (ct sh) (cg sh) st=0∨Dp b (ct sh) (cg sh) st=1:=o_;rcases hw2 with e|e
   .rw[e]at hX hZ⊢;rw[hZ]at hX;simp only[decide_true,gO,Nat.sub_zero]at hX;rw[hX];rfl
   .rw[e]at hZ⊢;have:ox cs (fe fine-1)=true:=by
     rw[ox,decide_eq_true_eq];intro c hc;have:=c2 c hc;rw[hZ]at this
     cases fine<;>simp only[fe]at this⊢<;>simp at this⊢<;>omega
    rw[this];rfl
  refine⟨⟨⟨⟨by simp only[];omega,by simp only[];omega⟩,⟨by simp only[];omega,hO2⟩,by simp only[];rw[c1],λh=>absurd h w_,hrng⟩,rfl⟩,?_⟩;unfold OM;rw[aa w_];refine iM.2 ⟨_,by simpa using r1.2,iM.2 ⟨_,by simpa using q2,iM.2 ⟨_,by simp only[];rw[aot hd];exact q3,iM.2 ⟨JC b (ct sh) (cg sh) st,?_,?_⟩⟩⟩⟩
  .simp only[wF];rw[hnar];exact q4
  .simp only[Gu,wF];rw[hnar];exact c3
def aB0 {b:C_}{sh:Bool}{f:da}{st s2:RS}(hf:Ys sh f)(h:Cs b st s2 (OM sh f)) :
  nN b (ct sh) (cg sh) f.fine st=f∧kj b (ct sh) (cg sh) f.fine st=s2∧uB b (ct sh) (cg sh) f.fine st=false∧¬(12<kp b (ct sh) (cg sh) st):=by
 obtain⟨l1,l2,l3,_⟩:=Sa sh;obtain⟨len,ord,down,fine,cs⟩:=f;obtain⟨⟨f1,f2⟩,⟨f3,f4⟩,f5,f6,f7⟩:=hf;simp only at f1 f2 f3 f4 f5 f6 f7⊢;obtain⟨len,rfl⟩:=ay f1;obtain⟨ord,rfl⟩:=ay f3;have hordF:ord<2 ^ cg sh∧ord<=12:=by
  cases sh
  .have:(ord:Int)<=12:=f4;have:2 ^ cg false=32:=rfl;omega
  .have:(ord:Int)<=7:=f4;have:2 ^ cg true=8:=rfl;omega
 unfold OM at h;simp only[au]at h;obtain⟨m1,h1,h⟩:=iM.1 h;obtain⟨m2,h2,h⟩:=iM.1 h;obtain⟨v1,n1⟩:=SV l2 (show len<2 ^ ct sh by omega) h1;obtain⟨v2,n2⟩:=SV l3 hordF.1 h2;have hO:kp b (ct sh) (cg sh) st=ord:=by unfold kp;rw[n1,v2]
 have hS:pC b (ct sh) (cg sh) st=m2:=by unfold pC;rw[n1,n2]
 refine⟨?_,?_,?_,by rw[hO];omega⟩
 all_goals
  by_cases h0:ord=0
  .subst h0;have hc:cs=[]:=aI o_;have hd:=f6 rfl;subst hc hd;simp only[Int.natCast_zero,bR]at h;have hs2:=(C7.1 h).1
   first
    |(unfold nN;rw[ac hO,v1];rfl)
    |(unfold kj;rw[ac hO,hS,hs2])
    |(unfold uB;rw[ac hO])
  .rw[aa o_]at h;obtain⟨m3,h3,h⟩:=iM.1 h;obtain⟨m4,h4,h5⟩:=iM.1 h;have b1:∀x:Bool,vP x<2 ^ 1:=λx=>by cases x<;>decide
   obtain⟨v3,n3⟩:=SV (s:=1) o_ (b1 down) h3;obtain⟨v4,n4⟩:=SV (s:=1) o_ (b1 _) h4;have hD:flD b (ct sh) (cg sh) st=vP down:=by unfold flD;rw[hS];exact v3
   have hT:JC b (ct sh) (cg sh) st=m4:=by
    unfold JC;rw[hS];show sN b (sN b m2 (1:Nat)) (1:Nat)=m4;rw[n3,n4]
   have hW:Dp b (ct sh) (cg sh) st=vP (wF ⟨len,ord,down,fine,cs⟩):=by
    unfold Dp;rw[hS];show sV b (sN b m2 (1:Nat)) (1:Nat)=_;rw[n3,v4]
   have hZ:EF b (ct sh) (cg sh) fine st=Gu ⟨len,ord,down,fine,cs⟩:=by unfold EF;rw[hW];rfl
   have hw1:vP (wF ⟨len,ord,down,fine,cs⟩)<=1:=by cases wF ⟨len,ord,down,fine,cs⟩<;>decide
   have hz:=am3 (fine:=fine) hw1;have hrng:∀c∈cs,-((2 ^ (Gu ⟨len,ord,down,fine,cs⟩-1):Nat):Int)<=c∧c<((2 ^ (Gu ⟨len,ord,down,fine,cs⟩-1):Nat):Int):=λc hc=>by
    have a:=f7 c hc
    cases hn:wF ⟨len,ord,down,fine,cs⟩ with
    |true =>
     have b:=(of_decide_eq_true hn) c hc;simp only[Gu,hn]
     cases fine<;>simp only[fe,vP,uR]at b⊢<;>simp at b⊢<;>omega
    |false =>
     simp only[Gu,hn]
     cases fine<;>simp only[fe,vP,uR]at a⊢<;>simp at a⊢<;>omega
   have hco:cs.length=ord:=o_;obtain⟨c1,c2⟩:=ayz (sz:=Gu ⟨len,ord,down,fine,cs⟩) hz hrng h5;rw[hco]at c1 c2
   first
    |(unfold nN;rw[aa o_,v1,hO,hD,hZ,hT,c1];congr 1;cases down<;>rfl)
    |(unfold kj;rw[aa o_,hO,hZ,hT,c2])
    |(unfold uB;rw[aa o_,hO,hZ,hT,c1,hW];cases hn:wF ⟨len,ord,down,fine,cs⟩;rw[show Gu ⟨len,ord,down,fine,cs⟩-1=fe fine-1 from(by rw[Gu,hn];rfl),asR fine cs _ rfl];show(_ && wF ⟨len,ord,down,fine,cs⟩)=false;rw[hn,Bool.and_false];rfl)
def am2 {b:C_}{sh fine:Bool}{st:RS}:nx b (kj b (ct sh) (cg sh) fine st):=by
 obtain⟨l1,l2,l3,_⟩:=Sa sh;unfold kj;by_cases h0:kp b (ct sh) (cg sh) st=0
 .rw[ac h0];exact Ut l3
 .rw[aa h0];have hz:EF b (ct sh) (cg sh) fine st<=31:=by unfold EF fe;split<;>omega
  exact awP hz (Ut (st:=sN b (pC b (ct sh) (cg sh) st) (1:Nat)) (s:=1) o_)
def asJ {b:C_}{sh fine:Bool}:∀{k:Nat}{o:Bool}{st st2:RS}{l:AC_},nx b st->fg b (ct sh) (cg sh) fine k o st=some (l,false,st2)->st2.e=0->
  o=false∧l.length=k∧(∀f∈l,Ys sh f∧f.fine=fine)∧Cs b st st2 (l.flatMap (OM sh))
 |0,o,st,st2,l,hn,h,he=>by
  rw[fg]at h;injection h with h
  injection h with e1 h
  injection h with e2 e3
  subst e1 e2 e3;exact⟨rfl,rfl,s_,C7.2 ⟨rfl,hn he⟩⟩
 |k+1,o,st,st2,l,hn,h,he=>by
  rw[fg]at h;by_cases hO:12<kp b (ct sh) (cg sh) st∧(pC b (ct sh) (cg sh) st).e=0
  .rw[ac hO]at h;exact absurd h (by simp)
  rw[aa hO]at h
  cases hq:fg b (ct sh) (cg sh) fine k (o ||uB b (ct sh) (cg sh) fine st) (kj b (ct sh) (cg sh) fine st) with
  |none=>rw[hq]at h;exact absurd h (by simp)
  |some q =>
   obtain⟨l2,o2,s3⟩:=q;rw[hq]at h;simp only[ae,aM]at h;obtain⟨e1,e2,e3⟩:=h;subst e1 e2 e3;obtain⟨i1,i2,i3,i4⟩:=asJ am2 hq he;rw[Bool.or_eq_false_iff]at i1;obtain⟨⟨j1,j2⟩,j3⟩:=aCO hO i1.2 (F7 i4).2.2.1;refine⟨i1.1,by rw[ar,i2],λf hf=>?_,?_⟩
   .rcases aD.1 hf with rfl|hf
    .exact⟨j1,j2⟩
    .exact i3 f hf
   .rw[be];exact iM.2 ⟨_,j3,i4⟩
def atj {b:C_}{sh fine:Bool}:∀{l:AC_}{st st2:RS},(∀f∈l,Ys sh f∧f.fine=fine)->Cs b st st2 (l.flatMap (OM sh))->fg b (ct sh) (cg sh) fine l.length false st=some (l,false,st2)
 |[],st,st2,hl,h=>by rw[(C7.1 h).1];rfl
 |f::r,st,st2,hl,h=>by
  obtain⟨h1,h2⟩:=hl f (.head _);rw[be]at h;obtain⟨m,k1,k2⟩:=iM.1 h;obtain⟨j1,j2,j3,j4⟩:=aB0 h1 k1;rw[h2]at j1 j2 j3;rw[ar,fg,aa (λh=>j4 h.1),j3,j2,Bool.or_false,atj (λx hx=>hl x (.tail _ hx)) k2,j1]
def amF (sh:Bool):ew sh=jw sh∧bT sh=ct sh∧cf sh=cg sh∧2 ^ jw sh=amz sh+1:=by cases sh<;>decide
def abJ {sh:Bool}{f:da}{r:AC_}:alp sh (f::r)=bh (f::r).length (jw sh)++(bh (vP f.fine) 1++(f::r).flatMap (OM sh)):=rfl
def agV {sh:Bool}:alp sh []=bh 0 (jw sh):=by simp[alp]
def asO {b:C_}{sh:Bool}:∀{k:Nat}{o:Bool}{st st2:RS}{t:N_},nx b st->kC b (jw sh) (ct sh) (cg sh) k o st=some (t,false,st2)->st2.e=0->
  o=false∧t.length=k∧(∀l∈t,TG sh l)∧Cs b st st2 (WV sh t)
 |0,o,st,st2,t,hn,h,he=>by
  rw[kC]at h;injection h with h
  injection h with e1 h
  injection h with e2 e3
  subst e1 e2 e3;exact⟨rfl,rfl,s_,C7.2 ⟨rfl,hn he⟩⟩
 |k+1,o,st,st2,t,hn,h,he=>by
  obtain⟨l1,l2,l3,l4⟩:=Sa sh;obtain⟨_,_,_,x4⟩:=amF sh;rw[kC]at h
  cases hq:fg b (ct sh) (cg sh) (Le b (jw sh) st) (sV b st (jw sh)) o (uF b (jw sh) st) with
  |none=>rw[hq]at h;exact absurd h (by simp)
  |some q =>
   obtain⟨l,o2,s3⟩:=q;rw[hq]at h;simp only at h
   cases hw:kC b (jw sh) (ct sh) (cg sh) k o2 s3 with
   |none=>rw[hw]at h;exact absurd h (by simp)
   |some w =>
    obtain⟨t2,o3,s4⟩:=w;rw[hw]at h;simp only[ae,aM]at h;obtain⟨e1,e2,e3⟩:=h;subst e1 e2 e3;have hwn:nx b (uF b (jw sh) st):=by
     unfold uF;split
     .exact Ut (st:=sN b st (jw sh)) (s:=1) (by omega)
     .exact Ut l4
    have hs3:nx b s3:=by
     have:∀{k:Nat}{o o2:Bool}{st st2:RS}{l:AC_},nx b st->fg b (ct sh) (cg sh) (Le b (jw sh) st) k o st=some (l,o2,st2)->True:=λ_ _=>trivial
     have g:∀{fine:Bool}{k:Nat}{o o2:Bool}{st st2:RS}{l:AC_},nx b st->fg b (ct sh) (cg sh) fine k o st=some (l,o2,st2)->nx b st2:=by
      intro fine k
      induction k with
      |zero =>
       intro o o2 st st2 l hn h;rw[fg]at h;injection h with h
       injection h with e1 h
       injection h with e2 e3
       subst e3;exact hn
      |succ k ih =>
       intro o o2 st st2 l hn h;rw[fg]at h;split at h
       .exact absurd h (by simp)
       .split at h
        .exact absurd h (by simp)
        .rename_i q hq;obtain⟨a,b2,c⟩:=q;simp only[ae,aM]at h;obtain⟨e1,e2,e3⟩:=h;subst e3;exact ih am2 hq
     exact g hwn hq
    obtain⟨i1,i2,i3,i4⟩:=asO hs3 hw he;subst i1;obtain⟨j1,j2,j3,j4⟩:=asJ hwn hq (F7 i4).2.2.1;have hwe:=(F7 j4).2.2.1;unfold uF at hwe j4;refine⟨j1,by rw[ar,i2],λx hx=>?_,?_⟩
    .rcases aD.1 hx with rfl|hx
     .refine⟨?_,λf0 hf0 f hf=>?_⟩
      .have:=lI (b:=b) (st:=st) (s:=(jw sh:Int));rw[au]at this;omega
      .have a1:=j3 f hf;have a2:=j3 f0 (List.mem_of_mem_head? hf0);exact⟨a1.1,by rw[a1.2,a2.2]⟩
     .exact i3 x hx
    .rw[WV,be];refine iM.2 ⟨s3,?_,i4⟩
     cases l with
     |nil =>
      have h0:sV b st (jw sh)=0:=by rw[<-j2];rfl
      rw[aa o_]at hwe j4;have:=(LK l4 hwe).2;rw[h0]at this;rw[agV,(C7.1 j4).1];exact this
     |cons f r =>
      have hp:0<sV b st (jw sh):=by rw[<-j2];simp
      rw[ac hp]at hwe j4;have r1:=(LK l4 (WH (s:=1) hwe)).2;obtain⟨b1,r2⟩:=LK (st:=sN b st (jw sh)) (s:=1) o_ hwe;rw[abJ,j2];refine iM.2 ⟨_,r1,iM.2 ⟨_,?_,j4⟩⟩;have hfi:vP f.fine=sV b (sN b st (jw sh)) (1:Nat):=by
       rw[(j3 f (.head _)).2,Le,dT_ hp,gO];exact aot b1
      rw[hfi];exact r2
def asz {b:C_}{sh:Bool}:∀{t:N_}{st st2:RS},(∀l∈t,TG sh l)->Cs b st st2 (WV sh t)->kC b (jw sh) (ct sh) (cg sh) t.length false st=some (t,false,st2)
 |[],st,st2,hl,h=>by rw[(C7.1 h).1];rfl
 |l::r,st,st2,hl,h=>by
  obtain⟨l1,l2,l3,l4⟩:=Sa sh;obtain⟨_,_,_,x4⟩:=amF sh;obtain⟨h1,h2⟩:=hl l (.head _);rw[WV,be]at h;obtain⟨m,k1,k2⟩:=iM.1 h;have ih:=asz (λx hx=>hl x (.tail _ hx)) k2;rw[ar,kC]
  cases l with
  |nil =>
   rw[agV]at k1;obtain⟨v1,n1⟩:=SV l4 (df _) k1;have hS:uF b (jw sh) st=m:=by rw[uF,aa o_,n1]
   rw[v1,hS];simp only[fg];rw[ih]
  |cons f q =>
   rw[abJ]at k1;obtain⟨m1,j1,k1⟩:=iM.1 k1;obtain⟨m2,j2,j3⟩:=iM.1 k1;obtain⟨v1,n1⟩:=SV l4 o_ j1;have b1:vP f.fine<2 ^ 1:=by cases f.fine<;>decide
   obtain⟨v2,n2⟩:=SV (s:=1) o_ b1 j2;have hp:0<sV b st (jw sh):=by rw[v1];simp
   have hS:uF b (jw sh) st=m2:=by
    rw[uF,ac hp,n1];exact n2
   have hF:Le b (jw sh) st=f.fine:=by
    rw[Le,dT_ hp,gO,n1];have:sV b m1 1=vP f.fine:=v2;rw[this]
    cases f.fine<;>rfl
   rw[hS,hF,v1,atj (λx hx=>h2 f rfl x hx) j3];simp only;rw[ih]
def avd {b:C_}{i:aG}{a n:Nat}{t:N_}(ha:a<=b.length):Cl b i (a:Int)=.ok t n↔al8 i t∧At b a n (WV i.short t):=by
 obtain⟨x0,x1,x2,_⟩:=amF i.short;rw[Cl,LL,x0,x1,x2];constructor
 .intro h
  cases hq:kC b (jw i.short) (ct i.short) (cg i.short) i.many false ⟨a,0⟩ with
  |none=>rw[hq]at h;exact absurd h (by simp)
  |some q =>
   obtain⟨t2,o,st⟩:=q;rw[hq]at h;simp only at h;by_cases he:st.e≠0
   .rw[ac he]at h;exact absurd h (by simp)
   rw[aa he]at h
   cases o with
   |true=>simp at h
   |false =>
    simp only[aq,bS]at h;injection h with e1 e2
    subst e1;obtain⟨_,g2,g3,a2,n2,e3,e4,g5⟩:=asO (λ_=>⟨a,rfl,ha⟩) hq (by simpa using he);injection e3 with e3 _
    have:a=a2:=o_;subst this;rw[e4]at e2;simp only[au]at e2;subst e2;exact⟨⟨g2,g3⟩,g5⟩
 .rintro ⟨⟨h1,h2⟩,h3⟩
  have:=asz h2 (show Cs b ⟨a,0⟩ ⟨n,0⟩ _ from ⟨a,n,rfl,rfl,h3⟩);rw[h1]at this;rw[this];simp
def aj1 {lf:Int}:∀{l:U_},fitsS lf l->∀k∈bz l,0<=k
 |[],_,k,h=>by simp[bz]at h
 |s::r,hf,k,h=>by
  obtain⟨⟨_,h1⟩,h2⟩:=hf;have eb:bz (s::r)=List.replicate s.len.toNat s.book++bz r:=by rw[bz,be];rfl
  rw[eb,bj]at h;rcases h with h|h
  .rw[c9 h];exact h1.1
  .exact aj1 h2 k h
def amm {b:C_}{a n v:Nat}(h:aE b (a:Int) 1=.ok v n):v<=1∧At b a n [v]:=by
 obtain⟨h1,h2⟩:=(cB (s:=1) o_).1 h;rw[YL o_]at h2;exact⟨o_,h2⟩
abbrev apart (p q:Nat×Nat):Prop:=p.2+bt p.1<=q.2∨q.2+bt q.1<=p.2
structure OsW (os:C_)(W:Nat):Prop where
 up:∀j,j+1<os.length->nth os j<nth os (j+1)∧(nth os (j+1)-nth os j) % 4=0
 win:∀w w',w<W->w'<W->w≠w'->∀j,j+1<os.length->nth os (j+1)<=32
def asB {os:C_}{W:Nat}(h:OsW os W):∀{k b:Nat},b+1+k<os.length->nth os (b+1)<=nth os (b+1+k)
 |0,b,_=>ai _
 |k+1,b,hk=>by
  have:=asB h (k:=k) (b:=b) o_;have h2:=(h.up (b+1+k) o_).1;rw[show b+1+(k+1)=b+1+k+1 by omega];omega
def aq4 (os:C_)(w b d y:Nat):Prop:=(w*32+nth os b<=y∧y+d<=w*32+nth os (b+1))∧b+1<os.length
def GS {os:C_}{W:Nat}(h:OsW os W){d b k w y:Nat}(hd:d=4∨d=2)(hb:b+1<os.length)(hy:y∈sU os d b k w):∃w',w<=w'∧w'<w+k∧aq4 os w' b d y:=by
 obtain⟨w',x,h1,h2,h3,rfl⟩:=aaj hy;have hu:=h.up b hb;have:=UI (d:=d) o_ (by rcases hd with e|e<;>rw[e]<;>omega) h3;exact⟨w',h1,h2,⟨o_,o_⟩,hb⟩
def KX {os:C_}{W:Nat}(h:OsW os W){w b d y w' b' d' y':Nat}(hw:w<W)(hw':w'<W)(h1:aq4 os w b d y)(h2:aq4 os w' b' d' y')(hne:w≠w'∨b<b'):y+d<=y'∨y'+d'<=y:=by
 obtain⟨⟨a1,a2⟩,a3⟩:=h1;obtain⟨⟨c1,c2⟩,c3⟩:=h2;by_cases e:w=w'
 .have hb:b<b':=by rcases hne with h|h;exact absurd e h;exact h
  have:=asB h (k:=b'-(b+1)) (b:=b) o_;rw[show b+1+(b'-(b+1))=b' by omega]at this;left;subst e;omega
 .have k1:=h.win w w' hw hw' e b a3;have k2:=h.win w w' hw hw' e b' c3;omega
def am4 {d hi:Nat}:∀{f lo:Nat},(∀y∈qc d hi f lo,lo<=y)∧(qc d hi f lo).Pairwise λx y=>x+d<=y
 |0,lo=>⟨by simp[qc],by simp[qc]⟩
 |f+1,lo=>by
  obtain⟨h1,h2⟩:=am4 (d:=d) (hi:=hi) (f:=f) (lo:=lo+d);rw[qc];by_cases h:lo<hi
  .rw[ac h];refine⟨λy hy=>?_,bN.2 ⟨λy hy=>h1 y hy,h2⟩⟩;rcases aD.1 hy with rfl|hy
   .exact ai _
   .have:=h1 y hy;omega
  .rw[aa h];exact⟨s_,s_⟩
abbrev apD (d:Nat)(x y:Nat):Prop:=x+d<=y∨y+d<=x
def ao5 {os:C_}{W:Nat}(h:OsW os W){d b:Nat}(hd:d=4∨d=2)(hb:b+1<os.length):∀{k w:Nat},w+k<=W->(sU os d b k w).Pairwise (apD d)
 |0,w,_=>by simp[sU]
 |k+1,w,hk=>by
  rw[sU,dh];refine⟨?_,ao5 h hd hb o_,λx hx y hy=>?_⟩
  .rw[List.pairwise_map];exact(am4.2).imp λ{a c} hac=>.inl (by omega)
  .obtain⟨w2,e1,e2,e3⟩:=GS h hd hb hy;have hx':x∈sU os d b 1 w:=by
    rw[sU,bj];exact .inl hx
   obtain⟨w1,e4,e5,e6⟩:=GS h hd hb hx';exact KX h o_ o_ e6 e3 (.inl o_)
def apm {os:C_}{W:Nat}(h:OsW os W){d n first:Nat}(hd:d=4∨d=2)(hw:first+n<=W):∀{k b:Nat},b+k<os.length->(uH os d n first k b).Pairwise (apD d)
 |0,b,_=>by simp[uH]
 |k+1,b,hk=>by
  rw[uH,dh];refine⟨ao5 h hd o_ hw,apm h hd hw o_,λx hx y hy=>?_⟩;obtain⟨w1,e4,e5,e6⟩:=GS h hd o_ hx;obtain⟨b',c1,c2,c3⟩:=TA hy;obtain⟨w2,e1,e2,e3⟩:=GS h hd o_ c3;exact KX h o_ o_ e6 e3 (.inr o_)
def FJ (id:Nat):bt id=4∨bt id=2:=by unfold bt;split<;>simp
def anD {os:C_}{W:Nat}(h:OsW os W){n first:Nat}(hw:first+n<=W):∀{r:U_}{b:Nat}{lf:Int},fitsS lf r->(b:Int)+lf<os.length->(xV os n first r b).Pairwise apart
 |[],b,lf,_,_=>by simp[xV]
 |s::r,b,lf,hf,hb=>by
  obtain⟨⟨⟨l1,l2⟩,b1,b2⟩,hf2⟩:=hf;rw[xV,dh];refine⟨?_,anD h hw hf2 o_,λx hx y hy=>?_⟩
  .by_cases h0:s.book=0∨s.book=13
   .rw[ac h0];simp
   .rw[aa h0,List.pairwise_map];exact apm h (FJ _) hw (by omega)
  .by_cases h0:s.book=0∨s.book=13
   .rw[ac h0]at hx;simp at hx
   .rw[aa h0]at hx;obtain⟨x',hx',rfl⟩:=cX.1 hx;obtain⟨b',c1,c2,c3⟩:=TA hx';obtain⟨w1,e4,e5,e6⟩:=GS h (FJ _) o_ c3;obtain⟨j,f1,f2,f3⟩:=Ud hf2 hy;have hj:(j:Int)<lf-s.len:=by
     have h1:=(bJ.1 f1).1;have:∀{l:U_}{m:Int},fitsS m l->((bz l).length:Int)=m:=by
      intro l
      induction l with
      |nil=>intro m hm;rw[show m=0 from hm];simp[bz]
      |cons q l ih =>
       intro m hm;have eb:bz (q::l)=List.replicate q.len.toNat q.book++bz l:=by rw[bz,be];rfl
       have:=ih hm.2;have hq:=hm.1.1.1;rw[eb,aN,bE];omega
     have:=this hf2;omega
    obtain⟨w2,e1,e2,e3⟩:=GS h (FJ _) o_ f3;exact KX h o_ o_ e6 e3 (.inr o_)
def GM:∀{l:U_}{m:Int},fitsS m l->((bz l).length:Int)=m
 |[],m,h=>by rw[show m=0 from h];simp[bz]
 |q::l,m,hm=>by
  have eb:bz (q::l)=List.replicate q.len.toNat q.book++bz l:=by rw[bz,be];rfl
  have:=GM hm.2;have hq:=hm.1.1.1;rw[eb,aN,bE];omega
def aok {os:C_}{W:Nat}(h:OsW os W){m:Int}(hm:m<os.length):∀{r:H_}{q:E_}{first:Nat},Kv m r->(∀n∈q,1<=n)->(first:Int)+q.sum<=W->(nh os r q first).Pairwise apart
 |[],q,first,_,_,_=>by simp[nh]
 |l::r,[],first,_,_,_=>by simp[nh]
 |l::r,n::q,first,hf,hq,hW=>by
  have hn:=hq n (.head _);have hq2:∀n∈q,1<=n:=λx hx=>hq x (.tail _ hx)
  have hqs:0<=q.sum:=by have:=kU hq2;omega
  have hl:=hf l (.head _);rw[nW]at hW;rw[nh,dh];refine⟨anD h o_ hl o_,aok h hm (λx hx=>hf x (.tail _ hx)) hq2 o_,λx hx y hy=>?_⟩;obtain⟨j,f1,f2,f3⟩:=Ud hl hx;have hj:=(bJ.1 f1).1;have hjl:=GM hl;obtain⟨w1,e4,e5,e6⟩:=GS h (FJ _) o_ f3;obtain⟨w,g,j2,l2,g1,g2,g3,g4,g5,g6,z,g7,g8⟩:=Ub (λx hx=>hf x (.tail _ hx)) hq2 hy;have hj2:=(bJ.1 g5).1;have hjl2:=GM (hf l2 (.tail _ (eM g1)));have hy2:y.2∈sU os (bt y.1) j2 1 w:=by rw[g8];exact ani (ai _) o_ g7
  obtain⟨w2,e1,e2,e3⟩:=GS h (FJ _) o_ hy2;exact KX h o_ o_ e6 e3 (.inl o_)
def anR {r:Nat}(hr:r<=11)(i:aG):OsW (offs r i.short) i.many:=by
 obtain⟨p1,p2,p3⟩:=BC (r,i.short) (iZ o_);simp only at p1 p2 p3;obtain⟨w1,w2⟩:=Yo i;refine⟨λj hj=>?_,λw w' h1 h2 h3 j hj=>?_⟩
 .have:=bF.1 p1 j (fC.2 o_);simpa using this
 .have:=bF.1 p3 _ (iL hj);simp only[decide_eq_true_eq]at this;omega
def aqa {r:Nat}(hr:r<=11){j:aG}{S:H_}(hm:j.may r)(hS:tF j S):(If r j S).Pairwise apart:=by
 obtain⟨g1,g2⟩:=eR (iY hr hm);have hmx:=hm.2.2.2.1;have hmy:nY r (decide (j.seq=2))=(offs r j.short).length-1:=rfl;obtain⟨o1,o2,o3,o4⟩:=acA (r,j.short) (iZ o_);simp only at o4;exact aok (anR hr j) (m:=j.max) o_ hS.2 (λn hn=>(g1 n hn).1) (by omega)
def YV {b:C_}:∀{pl:Q_}{n m:Nat}{Z Z2:E_},n<=b.length->Z.length=256->(∀p∈pl,(1<=p.1∧p.1<=11)∧p.2+bt p.1<=256)->pl.Pairwise apart->dn b pl n Z=.ok Z2 m->
  Z2.length=256∧At b n m (pl.flatMap λp=>adZ p.1 (cut Z2 p))∧(∀p∈pl,ap4 p.1 (cut Z2 p))∧∀i,(∀p∈pl,¬(p.2<=i∧i<p.2+bt p.1))->Z2[i]?=Z[i]?
 |[],n,m,Z,Z2,hn,hz,hp,hw,h=>by
  rw[dn]at h;injection h with e1 e2
  subst e1 e2;exact⟨hz,ek.2 ⟨rfl,hn⟩,s_,λi _=>rfl⟩
 |p::r,n,m,Z,Z2,hn,hz,hp,hw,h=>by
  rw[dn]at h;obtain⟨l,k,h1,h2⟩:=aH.1 h;obtain⟨p1,p2⟩:=hp p (.head _);obtain⟨w1,w2⟩:=bN.1 hw;obtain⟨g1,g2⟩:=(ap9 p1).1 h1;have hll:=g1.1;obtain⟨i1,i2,i3,i4⟩:=YV (db g2).2.1 (by rw[aeT o_];exact hz) (λq hq=>hp q (.tail _ hq)) w2 h2;have hcut:cut Z2 p=l:=by
   apply dZ;intro i;by_cases hi:i<bt p.1
   .rw[akf hi,i4 (p.2+i) (λq hq hh=>by
     have:=w1 q hq;have:=hp q (.tail _ hq);omega),aiU o_,ac o_]
    congr 1
    omega
   .have:=atF (Z:=Z2) (p:=p) o_;rw[j5 o_,j5 o_]
  refine⟨i1,?_,λq hq=>?_,λi hi=>?_⟩
  .rw[be,hcut];exact bc.2 ⟨k,g2,i2⟩
  .rcases aD.1 hq with rfl|hq
   .rw[hcut];exact g1
   .exact i3 q hq
  .have:=hi p (.head _);rw[i4 i (λq hq=>hi q (.tail _ hq)),aiU o_,aa o_]
def abK {tl:C_}{bks:E_}:∀{ls:E_}{i:Nat},(∀j v,ls[j]?=some v->aoc tl bks (i+j) v)->XF tl bks i ls
 |[],i,_=>trivial
 |u::r,i,h=>⟨h 0 u rfl,abK λj v hv=>by
   have:=h (j+1) v (by simpa using hv)
   rwa [show i+(j+1)=i+1+j by omega]at this⟩
def acs {r:Nat}{c:ip}:∀{k w:Nat},(∀w',w<=w'->w'<w+k->XF ((offs r c.info.short).drop 1) (bz (YE c w')) 0 (amq c w'))->aeI r c k w
 |0,w,_=>trivial
 |k+1,w,h=>⟨h w (ai _) o_,acs λw' h1 h2=>h w' o_ o_⟩
def anU {b:C_}{r:Nat}{c:ip}(hr:r<=11)(hm:c.info.may r)(hS:tF c.info c.sects){n m:Nat}(hn:n<=b.length)(h:dn b (If r c.info c.sects) n Z0=.ok c.lines m):akz r c∧At b n m (anF r c)∧∀v∈c.lines,i64 v:=by
 have hm11:=iY hr hm;obtain⟨g1,g2⟩:=eR hm11;obtain⟨i1,i2,i3,i4⟩:=YV hn (by rw[bE]) (λp hp=>PG hm hS hr hp) (aqa hr hm hS) h;obtain⟨hw1,hw⟩:=Yo c.info;have key:∀i v,c.lines[i]?=some v->v=0∨∃p∈If r c.info c.sects,(p.2<=i∧i<p.2+bt p.1)∧v.natAbs<=BE p.1:=by
  intro i v hv;by_cases hp:∃p∈If r c.info c.sects,p.2<=i∧i<p.2+bt p.1
  .obtain⟨p,h1,h2,h3⟩:=hp;refine .inr ⟨p,h1,⟨h2,h3⟩,(i3 p h1).2 v ?_⟩;refine eM (i:=i-p.2) ?_;rw[akf o_,<-hv]
   congr 1
   omega
  .left;have:=i4 i (λp hp2 hh=>hp ⟨p,hp2,hh⟩);rw[hv]at this;have hi:=(bJ.1 hv).1;rw[ut,ac o_]at this;injection this
 refine⟨⟨i1,acs λw _ hwm=>abK λx v hv=>?_⟩,i2,λv hv=>?_⟩
 .rw[b7]at hwm⊢;have hx:x<c.info.wide:=by
   have:=(bJ.1 hv).1;rw[amq,fp]at this;omega
  rw[amq,sy,ac hx,bx]at hv;rcases key _ _ hv with h0|⟨p,hp,⟨q1,q2⟩,q3⟩
  .exact .inl h0
  .right;obtain⟨w',g,j,l,e1,e2,e3,e4,e5,e6,y,e7,e8⟩:=Ub hS.2 (λn hn=>(g1 n hn).1) hp;obtain⟨p1,p2,p3⟩:=BC (r,c.info.short) (iZ o_);simp only at p1 p2 p3;have hl:=hS.2 l (eM e1);have hbs:=GM hl;have hjl:=(bJ.1 e5).1;have hmx:=hm.2.2.2.1;have hmy:nY r (decide (c.info.seq=2))=(offs r c.info.short).length-1:=rfl;have hj1:j+1<(offs r c.info.short).length:=o_;have hU:=anR hr c.info;have hu:=hU.up j hj1;have hxf:=UI (d:=bt p.1) (by rcases FJ p.1 with h|h<;>omega) (by rcases FJ p.1 with h|h<;>rw[h]<;>omega) e7;have ho:nth (offs r c.info.short) (j+1)<=c.info.wide:=by
    have:=bF.1 p3 _ (iL hj1);simp only[decide_eq_true_eq]at this
    rwa [hw1]at this
   have hww:w'=w∧nth (offs r c.info.short) j<=x∧x<nth (offs r c.info.short) (j+1):=by
    rcases hw with ⟨a1,a2⟩|⟨a1,a2⟩<;>rw[a1]at q1 q2 ho hx<;>omega
   obtain⟨rfl,c1,c2⟩:=hww;have hba:=ar6 (i:=x) (λj hj=>(hU.up j hj).1) hj1 c1 c2;have hsa:YE c w'=l:=by
    rw[YE,d9,show KF c.info.groups (w':Int)=g by rw[<-e4];congr 1,e1];rfl
   exact⟨p.1,by rw[hba,hsa,e5],o_,by simpa using q3⟩
 .obtain⟨i,hi,e⟩:=kL.1 hv;rcases key i v (by rw[co hi,e]) with h0|⟨p,hp,_,q3⟩
  .omega
  .have:=aqV (PG hm hS hr hp).1;omega
def afI:∀{r t:E_}{w z:Int},oT r t w z≠none->r.length=t.length∧∀n∈t,-1<=n∧n<=511
 |[],[],_,_,_=>⟨rfl,s_⟩
 |[],_::_,_,_,h=>absurd rfl h
 |_::_,[],_,_,h=>absurd rfl h
 |k::r,v::t,w,z,h=>by
  obtain⟨c1,c2,c3⟩:=GK h;rw[c3]at h;obtain⟨i1,i2⟩:=afI h;refine⟨by rw[ar,ar,i1],λn hn=>?_⟩;rcases aD.1 hn with rfl|hn
  .by_cases h0:k=0
   .have:=c1 h0;omega
   .exact axi (c2 h0)
  .exact i2 n hn
def abx:∀{g:H_}{t:O_}{w z:Int},Lb g t w z≠none->∀l∈t,∀n∈l,-1<=n∧n<=511
 |[],[],_,_,_=>by simp
 |[],_::_,_,_,h=>absurd rfl h
 |_::_,[],_,_,h=>absurd rfl h
 |l::r,t::s,w,z,h=>by
  rw[Lb]at h
  cases e:oT (bz l) t w z with
  |none=>rw[e]at h;exact absurd rfl h
  |some p =>
   rw[e]at h;intro q hq;rcases aD.1 hq with rfl|hq
   .exact(afI (by rw[e];simp)).2
   .exact abx h q hq
abbrev Gv (v:Hd×E_):ip:=⟨v.1.gain,v.1.inf,v.1.S,v.1.T,v.1.F,v.2⟩
def ayC {o p:Nat}(ho:o<=1)(hp:p<=1)(h:Qy (o:Int) p=0):o=0∧p=0:=by
 unfold Qy at h;split at h<;>omega
def Xe {b:C_}(hb:b.length<=1000000000){r:Nat}{i:aG}{q:Bool}(hr:r<=11)(hi:i.Fit){a:Int}{v:Hd×E_}{n:Nat}(h:Cp b a r q i=.ok v n) :
  ∃A:Nat,a=A∧(Gv v).Fit∧arZ r (Gv v)∧At b A n (awE r (Gv v) q)∧(q=true->v.1.inf=i):=by
 unfold Cp at h;obtain⟨u0,n0,e0,g0⟩:=aH.1 h;clear h;have ha:=aja e0;obtain⟨A,rfl⟩:=ay ha;have f0:=(cB (s:=0) o_).1 e0;have f0':n0=A∧A<=b.length:=ek.1 f0.2;obtain⟨f0a,f0b⟩:=f0'
 cases f0a
 by_cases hm:q=true∧¬i.may r
 .rw[ac hm]at g0;exact absurd g0 (by simp)
 rw[aa hm]at g0;have hq:q=true->i.may r:=λh=>ig λh2=>hm ⟨h,h2⟩
 obtain⟨H,nH,eH,g1⟩:=aH.1 g0;clear g0;obtain⟨Z,nZ,eZ,g2⟩:=aH.1 g1;clear g1;by_cases hend:H.od=0∧(H.is=1->kF H.F=true)
 rotate_left
 .rw[aa hend]at g2;exact absurd g2 (by simp)
 rw[ac hend]at g2;injection g2 with h1 h2
 subst h1 h2;have hR:eC (r:Int):=o_;have pH:=(PD b hb r hR q i hi _ (.inl rfl) (λh=>by rw[au];exact hq h) n0 o_ 0 0).2;rw[au]at pH;have p:=pH H nH eH;unfold Gi at eH;obtain⟨g,n1,e1,y1⟩:=aH.1 eH;clear eH;obtain⟨j,n2,e2,y2⟩:=aH.1 y1;clear y1;obtain⟨S,n3,e3,y3⟩:=aH.1 y2;clear y2;obtain⟨T,n4,e4,y4⟩:=aH.1 y3;clear y3;obtain⟨o,n5,e5,y5⟩:=aH.1 y4;clear y4;obtain⟨s,n6,e6,y6⟩:=aH.1 y5;clear y5;obtain⟨F,n7,e7,y7⟩:=aH.1 y6;clear y6;obtain⟨o2,n8,e8,y8⟩:=aH.1 y7;clear y7;injection y8 with k1 k2
 subst k1 k2;simp only at hend eZ p;have f1:=(cB (s:=8) o_).1 e1;have hjm:j.may r:=p.may;have hm11:=iY hr hjm;have f2:At b n1 n2 (if q then [] else N2 j)∧(q=true->j=i):=by
  cases q with
  |true =>
   rw[ac rfl]at e2⊢;injection e2 with k1 k2
   subst k1 k2;exact⟨ek.2 ⟨rfl,(db f1.2).2.1⟩,λ_=>rfl⟩
  |false =>
   rw[aa s_]at e2⊢;exact⟨((Yl hr).1 e2).2,λh=>absurd h s_⟩
 have f3:=(alS hm11 (db f2.1).2.1).1 e3;have f4:=(anm (db f3.2).2.1 (λl hl=>aj1 (f3.1.2 l hl)) o_).1 e4;have f5:=amm e5;have f6:=amm e6;have f8:=amm e8;have hoo:=ayC f5.1 f8.1 hend.1;have hF:al8 j F∧At b n4 n8 (if kF F then 0::1::(WV j.short F++[0]) else [0,0,0]):=by
  rw[hoo.1]at f5;rw[hoo.2]at f8;by_cases hs:s=1
  .rw[ac hs]at e7;have f7:=(avd (db f6.2).2.1).1 e7;rw[hend.2 hs];rw[hs]at f6;exact⟨f7.1,bc (X:=[0]) |>.2 ⟨n5,f5.2,bc (X:=[1]) |>.2 ⟨n6,f6.2,bc.2 ⟨n7,f7.2,f8.2⟩⟩⟩⟩
  .rw[aa hs]at e7;have hs0:s=0:=o_;injection e7 with k1 k2
   subst k1 k2;have han:kF (List.replicate j.many ([]:AC_))=false:=by
    rw[kF,List.any_eq_false];intro l hl;rw[c9 hl];simp
   rw[han];rw[hs0]at f6;exact⟨⟨by rw[bE],λl hl=>by rw[c9 hl];exact⟨dp _,s_⟩⟩,bc (X:=[0]) |>.2 ⟨n5,f5.2,bc (X:=[0]) |>.2 ⟨n6,f6.2,f8.2⟩⟩⟩
 have hg:=p.gain;simp only at hg;obtain⟨l1,l2,l3⟩:=anU (c:=⟨g,j,S,T,F,Z⟩) hr hjm f3.1 (db hF.2).2.1 eZ;have hmx:=mW hm11;have hmm:=km j;obtain⟨q1,q2⟩:=eR hm11;have hgl:j.groups.length<=8:=by have:=kU (λn hn=>(q1 n hn).1);omega
 have hSl:S.length<=8:=by have:=f3.1.1;omega
 have hTl:T.length=S.length:=by have:=aY List.length p.T;simpa using this
 have hft:=p.fit;simp only at hft;refine⟨n0,rfl,?_,?_,?_,f2.2⟩
 .refine⟨by simp only[];omega,hft,⟨by simp only[];omega,λl hl=>by have:=p.Sl l hl;omega⟩,λl hl x hx=>?_,⟨by simp only[];omega,λl hl=>?_⟩,λl hl x hx=>by have:=abx f4.1 l hl x hx;omega,⟨by have:=hF.1.1;simp only[];omega,λl hl=>by have:=p.F.2 l hl;exact⟨o_,λf hf=>by have:=this.2 f hf;omega⟩⟩,λl hl f hf=>?_,by have:=l1.1;simp only[]at this⊢;omega,l3⟩
  .have:=Ot (f3.1.2 l hl) o_ x hx;have a1:=this.1;have a2:=this.2;omega
  .have h1:l.length∈T.map List.length:=cX.2 ⟨l,hl,rfl⟩;rw[show T.map List.length=S.map (λl=>(bz l).length) from p.T]at h1;obtain⟨x,hx,e⟩:=cX.1 h1;have:=GM (f3.1.2 x hx);omega
  .have hw:=hF.1.2 l hl
   cases l with
   |nil=>exact absurd hf (by simp)
   |cons f0 lr =>
    have:=(hw.2 f0 rfl f hf).1;obtain⟨⟨b1,b2⟩,⟨b3,b4⟩,_,_,b5⟩:=this;have lf:aqD j.short<=63:=by cases j.short<;>decide
    have of:arP j.short<=12:=by cases j.short<;>decide
    refine⟨o_,λx hx=>?_⟩;have:=b5 x hx;have hh:uR f.fine<=8∧4<=uR f.fine:=by cases f.fine<;>decide
    omega
 .exact⟨by simp only[];omega,hjm,f3.1,f4.1,hF.1,l1⟩
 .exact bc.2 ⟨n1,by simpa using f1.2,bc.2 ⟨n2,f2.1,bc.2 ⟨n3,f3.2,bc.2 ⟨n4,f4.2,bc.2 ⟨n8,hF.2,l2⟩⟩⟩⟩⟩
def aqR {t:Ty}:∀{ds:V_},OkDs [t] ds->∃d,ds=[d]∧v7 t d
 |[],h=>by simp[OkDs]at h
 |[d],h=>⟨d,rfl,by simpa [OkDs] using h⟩
 |_::_::_,h=>by simp[OkDs]at h
def aqz {t:Ty}{ts:List Ty}:∀{ds:V_},OkDs (t::ts) ds->∃d r,ds=d::r∧v7 t d∧OkDs ts r
 |[],h=>by simp[OkDs]at h
 |d::r,h=>⟨d,r,rfl,by simpa only[OkDs] using h⟩
def ao1 {k:IntKind}:∀{d:D},v7 (.int k) d->∃n,d=.int k n∧(Lit.int k n).wf=true
 |.int j n,h=>by
  simp only[v7]at h;obtain⟨rfl,h⟩:=h;exact⟨n,rfl,h⟩
 |.bool _,h=>by simp[v7]at h
 |.str _,h=>by simp[v7]at h
 |.lst _,h=>by simp[v7]at h
def aef {d:D}(h:v7 (.int .i64) d):∃n,d=.int .i64 n∧i64 n:=by
 obtain⟨n,e,h⟩:=ao1 h;refine⟨n,e,?_⟩;simp[Lit.wf,IntKind.min,IntKind.max,IntKind.signed,IntKind.bits]at h;omega
def azy {d:D}(h:v7 (.int .u8) d):∃n:Nat,d=.int .u8 n∧n<=255:=by
 obtain⟨n,e,h⟩:=ao1 h;simp[Lit.wf,IntKind.min,IntKind.max,IntKind.signed,IntKind.bits]at h;refine⟨n.toNat,?_,o_⟩;rw[e,qS h.1]
def avD:∀{d:D},v7 .bool d->∃b,d=.bool b
 |.bool b,_=>⟨b,rfl⟩
 |.int _ _,h=>by simp[v7]at h
 |.str _,h=>by simp[v7]at h
 |.lst _,h=>by simp[v7]at h
def axe {es:List Ty}:∀{d:D},v7 (.lst es) d->∃xs,d=.lst xs∧∀x∈xs,OkDs es x
 |.lst xs,h=>⟨xs,rfl,by simpa only[v7] using h⟩
 |.int _ _,h=>by simp[v7]at h
 |.str _,h=>by simp[v7]at h
 |.bool _,h=>by simp[v7]at h
def akg {α:Type}{es:List Ty}{f:α->V_}{Q:α->Prop}(h1:∀x,OkDs es x->∃a,x=f a∧Q a):∀{xs:F_},(∀x∈xs,OkDs es x)->∃l:List α,xs=l.map f∧∀a∈l,Q a
 |[],_=>⟨[],rfl,s_⟩
 |x::r,h=>by
  obtain⟨a,rfl,ha⟩:=h1 x (h x (.head _));obtain⟨l,rfl,hl⟩:=akg h1 (xs:=r) λy hy=>h y (.tail _ hy)
  exact⟨a::l,rfl,λb hb=>(aD.1 hb).elim (λe=>e▸ha) (hl b)⟩
structure ip.Rng (c:ip):Prop where
 gain:i64 c.gain
 seq:c.info.seq<=255
 shape:c.info.shape<=255
 max:i64 c.info.max
 groups:∀n∈c.info.groups,i64 n
 secI:∀l∈c.sects,∀s∈l,i64 s.book∧i64 s.len
 stepI:∀l∈c.steps,∀n∈l,i64 n
 fltI:∀l∈c.tns,∀f∈l,(i64 f.len∧i64 f.order)∧∀x∈f.coefs,i64 x
 lineI:∀n∈c.lines,i64 n
def ip.Rng.fit {c:ip}(h:c.Rng)(s:asI c):c.Fit where
 gain:=h.gain
 info:=⟨h.seq,h.shape,h.max,by have:=s.groups;omega,h.groups⟩
 sects:=⟨by have:=s.sects.1;omega,λl hl=>by have:=s.sects.2 l hl;omega⟩
 secI:=h.secI
 steps:=⟨by have:=s.steps.1;omega,λl hl=>by have:=s.steps.2 l hl;omega⟩
 stepI:=h.stepI
 tns:=⟨by have:=s.tns.1;omega,λl hl=>⟨by have:=(s.tns.2 l hl).1;omega,λf hf=>by have:=(s.tns.2 l hl).2 f hf;omega⟩⟩
 fltI:=h.fltI
 lines:=by have:=s.lines;omega
 lineI:=h.lineI
abbrev fR (C F I:D_)(T:ak)(c:D_):ak:=(0,.cells C)::(1,.cells F)::(2,.cells c)::(3,.cells I)::T
def akI (C F I:D_)(T:ak):Hr (fR C F I T) 2:=⟨λc=>by simp,λc d=>by simp⟩
def fD (b:C_):Nat->Nat×Nat->Y_×Nat×Nat
 |0,s=>([],s)
 |k+1,s=>(decide ((gT b s 1).1=1)::(fD b k (gT b s 1).2).1,(fD b k (gT b s 1).2).2)
def afd {b:C_}:∀{k:Nat}{s:Nat×Nat},(fD b k s).1.length=k
 |0,_=>rfl
 |k+1,s=>by rw[fD,ar,afd]
def T6 {b:C_}:∀{k:Nat}{s:Nat×Nat},s.1<=b.length->(fD b k s).2.1<=b.length
 |0,_,h=>h
 |k+1,s,h=>T6 (k:=k) (s:=(gT b s 1).2) (jU h)
def RM {b:C_}:∀{k:Nat}{s:Nat×Nat},s.2≠0->(fD b k s).2=s
 |0,_,h=>rfl
 |k+1,s,h=>by rw[fD];simp only[lZ h];exact RM h
def Gn (b:C_):Nat->Nat->R Y_
 |0,a=>.ok [] a
 |k+1,a=>(aE b a 1).bind λx n=>(Gn b k n).bind λl m=>.ok (decide (x=1)::l) m
def afk {b:C_}:∀{k a:Nat},Lk (Gn b k a) (λl=>(fD b k (a,0)).1=l) (fD b k (a,0)).2
 |0,a=>⟨rfl,rfl⟩
 |k+1,a=>by
  rw[Gn,fD]
  cases e:aE b a 1 with
  |er q =>
   rw[lx e];simp only;rw[RM (aB _)];exact rfl
  |ok x n =>
   rw[ef e,ao];have h:=afk (b:=b) (k:=k) (a:=n)
   cases e2:Gn b k n with
   |er q=>rw[e2]at h;exact h
   |ok l m=>rw[e2]at h;exact⟨by rw[h.1],h.2⟩
def auK {l:Y_}{i:Nat}{x:Bool}:(mj l).set i [.bool x]=mj (l.set i x):=by simp[mj,mf]
def auG (b:C_)(hb:b.length<=1000000000)(C F I:D_)(mx:Nat)(hm:mx<=1000)(N:Nat)(hN:4<=N)(y104 y105:D):∀(k i:Nat) (acc:Y_) (s:Nat×Nat),i+k=mx->acc.length=i->s.1<=b.length->
  (Dn prog).code (.loop BX) ⟨[(2,.ptr 0 0),(4,.ptr 1 0),(6,.ptr 2 0),(7,.ptr 3 0),(8,.sl N 0 mx),(104,.d y104),(105,.d y105),(121,A_ mx),(122,A_ i)],⟨fR C F I [(N,.arr 1 (mj (acc++List.replicate k false)))] (aX b s),N+1⟩⟩ =
  some (.exit 3,⟨[(2,.ptr 0 0),(4,.ptr 1 0),(6,.ptr 2 0),(7,.ptr 3 0),(8,.sl N 0 mx),(104,.d y104),(105,.d y105)],⟨fR C F I [(N,.arr 1 (mj (acc++(fD b k s).1)))] (aX b (fD b k s).2),N+1⟩⟩):=by
 intro k
 induction k with
 |zero =>
  intro i acc s hi hl hs;have:i=mx:=o_;subst this;rw[ah Qt,fD];simp(maxSteps:=9^6)(disch:=omega)[↓ac,↓aa]
 |succ k ih =>
  intro i acc s hi hl hs;have h1:=gp (akI C F I [(N,.arr 1 (mj (acc++List.replicate (k+1) false)))]) b hb s hs 1 (N+1);have h5:=λx=>ih (i+1) (acc++[x]) (gT b s 1).2 o_ t_ (jU hs)
  have c1:((i+1:Nat):Int)=(i:Int)+1:=rfl;have hset:∀x:Bool,(mj (acc++List.replicate (k+1) false)).set i [.bool x]=mj (acc++[x]++List.replicate k false):=λx=>by
   rw[auK,<-hl,cD,Uy,aw];rfl
  have hget:(mj (acc++List.replicate (k+1) false))[i]?=some [.bool false]:=by
   rw[mj,bM,dB o_,hl,uW,cD];rfl
  rw[c1]at h5;rw[fD];generalize gT b s 1=g at *;obtain⟨x,s1⟩:=g;simp only at h1 h5⊢;have h5:=h5 (decide (x=1));have hset:=hset (decide (x=1));have e:acc++decide (x=1)::(fD b k s1).1=acc++[decide (x=1)]++(fD b k s1).1:=s_;rw[e,ah Qt,<-h5];have n0:N≠0∧N≠1∧N≠2∧N≠3:=o_;simp only[fR,aX]at h1⊢;generalize mj (acc++List.replicate (k+1) false)=Z at *;by_cases hx:x=1
  .rw[dT_ hx]at hset⊢;have hx2:(x:Int)=1:=o_;simp(maxSteps:=9^6)(disch:=omega)[↓ac,↓aa,h1,hget,hset,hx2,n0]
  .rw[dF_ hx]at hset⊢;have hx2:¬(x:Int)=1:=o_;simp(maxSteps:=9^6)(disch:=omega)[↓ac,↓aa,h1,hget,hset,hx2,n0]
@[simp ↓] def aDV {β:Type}{P:Nat->X_}{i:Nat}{e:aT}{h:ak}{m:Nat}{k:AV->aT->HS->Option β}:bU P (.frz i) e ⟨h,m⟩ k=bA (get e i) λv=>k (.tup []) (put e i (Bm h v).1) ⟨(Bm h v).2,m⟩:=by
 rw[Jk];show gr (YH i ⟨e,⟨h,m⟩⟩) k=_;unfold YH;simp only[]
 cases get e i<;>rfl
def asa (o:BH_)(h:ak)(id off len:Nat):AV×ak :=
 match o with
 |some (.arr m xs)=>if off+len<=xs.length then (.own false m (sub xs off len),del h id) else (.sl id off len,h)
 |_=>(.sl id off len,h)
@[simp] def aEy {h:ak}{id off len:Nat}:Bm h (.sl id off len)=asa (get h id) h id off len:=by
 simp only[Bm,asa]
 cases get h id with
 |none=>rfl
 |some o =>
  cases o with
  |arr m xs =>
   simp only[];by_cases hl:off+len<=xs.length
   .rw[ac hl,show Nat.ble (off+len) xs.length=true by rw[bf];exact hl]
   .rw[aa hl,show Nat.ble (off+len) xs.length=false from Bool.eq_false_iff.2 λh=>hl (by rwa [bf]at h)]
  |cells=>rfl
  |loop=>rfl
@[simp ↓] def aEZ {m:Nat}{xs:F_}{h:ak}{id off len:Nat}:asa (some (.arr m xs)) h id off len=if off+len<=xs.length then (.own false m (sub xs off len),del h id) else (.sl id off len,h):=(rfl)
def pE (b:C_)(mx:Nat):Nat->Nat->R T_
 |0,a=>.ok [] a
 |g+1,a=>(Gn b mx a).bind λl n=>(pE b mx g n).bind λt m=>.ok (l::t) m
abbrev KB (g j:Int):aT:=[(2,.ptr 0 0),(4,.ptr 1 0),(6,.ptr 2 0),(7,.ptr 3 0),(104,A_ g),(105,A_ j)]
abbrev T3:aT:=[(2,.ptr 0 0),(4,.ptr 1 0),(6,.ptr 2 0),(7,.ptr 3 0)]
section
variable (b:C_)(hb:b.length<=1000000000)(C:D_)(f0 f1 f4:AV)(i0 i1 i3:AV)(mx:Nat)(hm:mx<=1000)
theorem Mc (F I:D_)(s:Nat×Nat)(g:Int)(N:Nat) :
  (Dn prog).code (.loop fK) ⟨KB g g,⟨fR C F I [] (aX b s),N⟩⟩=some (.exit 1,⟨T3,⟨fR C F I [] (aX b s),N⟩⟩):=by
 rw[ah HD];simp(maxSteps:=9^6)(disch:=omega)[↓ac,↓aa]
theorem VM (f3:AV)(I:D_)(s:Nat×Nat)(mk:Int)(g j:Int)(hj:j<g)(h:mk≠1∨s.2≠0)(N:Nat) :
  (Dn prog).code (.loop fK) ⟨KB g j,⟨fR C [f0,f1,A_ mk,f3,f4] I [] (aX b s),N⟩⟩=some (.exit 1,⟨T3,⟨fR C [f0,f1,A_ mk,f3,f4] I [] (aX b s),N⟩⟩):=by
 obtain⟨a,e⟩:=s;rw[ah HD];simp only[fR,aX];by_cases hk:mk=1
 .have he:e≠0:=h.resolve_left (λh=>h hk);subst hk;simp(maxSteps:=9^6)(disch:=omega)[↓ac,↓aa,he]
 .simp(maxSteps:=9^6)(disch:=omega)[↓ac,↓aa,hk]
include hb hm
theorem ad8 (a:Nat)(ha:a<=b.length)(acc:T_)(hacc:acc.length<=1000)(g j:Nat)(hj:j<g)(hg:g<=1000)(N:Nat)(hN:4<=N) :
  (Dn prog).code (.loop fK) ⟨KB g j,⟨fR C [f0,f1,A_ 1,al 1 (cx acc),f4] [i0,i1,A_ mx,i3] [] (aX b (a,0)),N⟩⟩ =
  (Dn prog).code (.loop fK) ⟨KB g (j+1:Nat),⟨fR C [f0,f1,A_ 1,al 1 (cx (acc++[(fD b mx (a,0)).1])),f4] [i0,i1,A_ mx,i3] [] (aX b (fD b mx (a,0)).2),N+1⟩⟩:=by
 have h1:=auG b hb C [f0,f1,A_ 1,al 1 (cx acc),f4] [i0,i1,A_ mx,i3] mx hm N hN (.int .i64 g) (.int .i64 j) mx 0 [] (a,0) o_ rfl ha;have hk:=yW (z:=[.bool false]) (n:=mx) o_;rw[avl]at hk;have c1:((j+1:Nat):Int)=(j:Int)+1:=rfl;have c0:((0:Nat):Int)=0:=rfl;have hl:(fD b mx (a,0)).1.length=mx:=afd;have hrl:(mj (List.replicate mx false)).length=mx:=by rw[Ml,bE]
 have hbl:(mj (fD b mx (a,0)).1).length=mx:=by rw[Ml,hl]
 have ht:List.take mx (mj (fD b mx (a,0)).1)=mj (fD b mx (a,0)).1:=bp o_;have hA:(cx acc).length=acc.length:=WD;have e:al 1 (cx (acc++[(fD b mx (a,0)).1]))=.own false 1 (cx acc++[[.lst (mj (fD b mx (a,0)).1)]]):=by rw[acu,dy]
 have n0:N≠0∧N≠1∧N≠2∧N≠3:=o_;rw[c1,e];simp only[az,aX,fR,c0]at h1⊢;generalize fD b mx (a,0)=r at *;obtain⟨l,s⟩:=r;simp only at *;generalize mj (List.replicate mx false)=Z at *;generalize mj l=B at *;generalize cx acc=A at *;rw[ah HD]
 cases A with
 |nil=>simp(maxSteps:=9^6)(disch:=omega)[↓ac,↓aa,hk,h1,hrl,hbl,ht,n0]
 |cons y r=>simp(maxSteps:=9^6)(disch:=omega)[↓ac,↓aa,hk,h1,hrl,hbl,ht,n0]
theorem ak0 (g:Nat)(hg:g<=1000):∀(c j a:Nat) (acc:T_) (N:Nat),j+c=g->acc.length=j->a<=b.length->4<=N->
  ∃(w:T_) (s:Nat×Nat) (M:Nat),4<=M∧s.1<=b.length∧Lk (pE b mx c a) (λt=>w=acc++t) s∧
  (Dn prog).code (.loop fK) ⟨KB g j,⟨fR C [f0,f1,A_ 1,al 1 (cx acc),f4] [i0,i1,A_ mx,i3] [] (aX b (a,0)),N⟩⟩ =
  some (.exit 1,⟨T3,⟨fR C [f0,f1,A_ 1,al 1 (cx w),f4] [i0,i1,A_ mx,i3] [] (aX b s),M⟩⟩):=by
 intro c
 induction c with
 |zero =>
  intro j a acc N hj hl ha hN;obtain rfl:j=g:=o_;exact⟨acc,(a,0),N,hN,ha,⟨s_,rfl⟩,Mc b C _ _ _ _ _⟩
 |succ c ih =>
  intro j a acc N hj hl ha hN;rw[ad8 b hb C f0 f1 f4 i0 i1 i3 mx hm a ha acc o_ g j o_ hg N hN,pE];have hr:=afk (b:=b) (k:=mx) (a:=a);have hle:(fD b mx (a,0)).2.1<=b.length:=T6 ha;generalize fD b mx (a,0)=r at *;obtain⟨l,s⟩:=r
  cases e:Gn b mx a with
  |ok l2 n =>
   rw[e]at hr;obtain⟨h1,h2⟩:=hr;simp only at h1 h2 hle;subst h1 h2;obtain⟨w,s6,M,k1,k2,k3,k4⟩:=ih (j+1) n (acc++[l]) (N+1) o_ t_ hle o_;refine⟨w,s6,M,k1,k2,?_,k4⟩;rw[ao]
   cases e2:pE b mx c n with
   |er q=>rw[e2]at k3;exact k3
   |ok t q=>rw[e2]at k3;exact⟨by rw[k3.1,aw];rfl,k3.2⟩
  |er e0 =>
   rw[e]at hr;have hd:s.2=e0+1:=hr;refine⟨acc++[l],s,N+1,o_,hle,hd,?_⟩;by_cases hc:c=0
   .have:j+1=g:=o_;rw[this];exact Mc b C _ _ _ _ _
   .exact VM b C f0 f1 f4 _ _ s 1 g (j+1:Nat) o_ (.inr o_) _
theorem apa (g:Nat)(hg:g<=1000)(k:Nat)(s:Nat×Nat)(hs:s.1<=b.length)(N:Nat)(hN:4<=N) :
  ∃(w:T_) (s6:Nat×Nat) (M:Nat),4<=M∧s6.1<=b.length∧(s.2=0->Lk (if k=1 then pE b mx g s.1 else .ok [] s.1) (λt=>w=t) s6)∧(s.2≠0->s6=s)∧
  (Dn prog).code (.loop fK) ⟨KB g 0,⟨fR C [f0,f1,A_ k,.nl,f4] [i0,i1,A_ mx,i3] [] (aX b s),N⟩⟩ =
  some (.exit 1,⟨T3,⟨fR C [f0,f1,A_ k,al 1 (cx w),f4] [i0,i1,A_ mx,i3] [] (aX b s6),M⟩⟩):=by
 have e0:al 1 (cx [])=.nl:=rfl;obtain⟨a,e⟩:=s;by_cases h:k=1∧e=0
 .obtain⟨rfl,rfl⟩:=h;obtain⟨w,s6,M,k1,k2,k3,k4⟩:=ak0 b hb C f0 f1 f4 i0 i1 i3 mx hm g hg g 0 a [] N o_ rfl hs hN;rw[e0]at k4;exact⟨w,s6,M,k1,k2,λ_=>by simpa using k3,λh=>absurd rfl h,k4⟩
 .refine⟨[],(a,e),N,hN,hs,λhe=>?_,λ_=>rfl,?_⟩
  .rw[aa (λhk=>h ⟨hk,he⟩)];exact⟨rfl,by rw[show e=0 from he]⟩
  .rw[e0];by_cases hg0:g=0
   .subst hg0;exact Mc b C _ _ _ _ _
   .exact VM b C f0 f1 f4 _ _ (a,e) k g 0 o_ w_ _
end
def rC {hp:D_->ak}{p:Nat}(H:Hr hp p)(b:C_)(hb:b.length<=1000000000)(s:Nat×Nat)(hs:s.1<=b.length)(k:Int)(N:Nat) :
  (Dn prog).call bL [.ptr p 0,A_ k] ⟨hp (aX b s),N⟩=some (A_ ((gT b s k).1),⟨hp (aX b (gT b s k).2),N⟩):=by
 obtain⟨a,e⟩:=s;simp only at hs;rw[bC mF mD rfl];unfold gT;simp only[aX];by_cases he:e=0
 .subst he
  cases hg:aE b a k with
  |ok v n =>
   have h:=GI hb o_ hg;simp(maxSteps:=9^6)(disch:=omega)[↓ac,↓aa,H.get,H.put,h]
  |er e =>
   have h:=Nl hb o_ hg;simp(maxSteps:=9^6)(disch:=omega)[↓ac,↓aa,H.get,H.put,h]
 .simp(maxSteps:=9^6)(disch:=omega)[↓ac,↓aa,H.get,H.put,he]
def GQ {hp:D_->ak}{p:Nat}(H:Hr hp p)(b:C_)(s:Nat×Nat)(c:Prop)[Decidable c](N:Nat) :
  (Dn prog).call dk [.ptr p 0,B_ (decide c)] ⟨hp (aX b s),N⟩=some (.tup [],⟨hp (aX b (kT s c)),N⟩):=by
 obtain⟨a,e⟩:=s;rw[bC wg vY rfl];unfold kT;simp only[aX];by_cases hc:c
 .by_cases he:e=0
  .subst he;simp(maxSteps:=9^6)(disch:=omega)[↓ac,↓aa,H.get,H.put,hc]
  .simp(maxSteps:=9^6)(disch:=omega)[↓ac,↓aa,H.get,H.put,hc,he]
 .by_cases he:e=0
  .subst he;simp(maxSteps:=9^6)(disch:=omega)[↓ac,↓aa,H.get,H.put,hc]
  .simp(maxSteps:=9^6)(disch:=omega)[↓ac,↓aa,H.get,H.put,hc,he]
def u7 (b:C_)(mx:Nat):Nat->Nat×Nat->T_×Nat×Nat
 |0,s=>([],s)
 |g+1,s=>((fD b mx s).1::(u7 b mx g (fD b mx s).2).1,(u7 b mx g (fD b mx s).2).2)
def ae1 {b:C_}{mx:Nat}:∀{g:Nat}{s:Nat×Nat},s.1<=b.length->(u7 b mx g s).2.1<=b.length
 |0,_,h=>h
 |g+1,s,h=>ae1 (g:=g) (s:=(fD b mx s).2) (T6 h)
def Ip {b:C_}{mx:Nat}:∀{g:Nat}{s:Nat×Nat},s.2≠0->(u7 b mx g s).2=s
 |0,_,h=>rfl
 |g+1,s,h=>by
  rw[u7];simp only;rw[RM h];exact Ip h
def aji {b:C_}{mx:Nat}:∀{g a:Nat},Lk (pE b mx g a) (λt=>(u7 b mx g (a,0)).1=t) (u7 b mx g (a,0)).2
 |0,a=>⟨rfl,rfl⟩
 |g+1,a=>by
  rw[pE,u7];have h1:=afk (b:=b) (k:=mx) (a:=a)
  cases e:Gn b mx a with
  |er q =>
   rw[e]at h1;have hd:(fD b mx (a,0)).2.2≠0:=by
    have:(fD b mx (a,0)).2.2=q+1:=h1;omega
   simp only;rw[Ip hd];exact h1
  |ok l n =>
   rw[e]at h1;obtain⟨h2,h3⟩:=h1;rw[ao];simp only;rw[h3];have h:=aji (b:=b) (mx:=mx) (g:=g) (a:=n)
   cases e2:pE b mx g n with
   |er q=>rw[e2]at h;exact h
   |ok t m=>rw[e2]at h;exact⟨by rw[h2,h.1],h.2⟩
def oY (b:C_):Nat->Nat×Nat->C_×Nat×Nat
 |0,s=>([],s)
 |k+1,s=>if s.2=0 then ((gT b s 8).1::(oY b k (gT b s 8).2).1,(oY b k (gT b s 8).2).2) else ([],s)
def G7 {b:C_}{k:Nat}{s:Nat×Nat}(h:s.2≠0):oY b k s=([],s):=by
 cases k with
 |zero=>rfl
 |succ k=>rw[oY,aa h]
def aaG {b:C_}:∀{k:Nat}{s:Nat×Nat},s.1<=b.length->(oY b k s).2.1<=b.length
 |0,_,h=>h
 |k+1,s,h=>by
  rw[oY];split
  .exact aaG (k:=k) (jU h)
  .exact h
def anE {b:C_}:∀{k a:Nat},Lk (jr b k a) (λl=>(oY b k (a,0)).1=l) (oY b k (a,0)).2
 |0,a=>⟨rfl,rfl⟩
 |k+1,a=>by
  rw[jr,oY,ac rfl]
  cases e:aE b a 8 with
  |er q =>
   rw[lx e,G7 (aB _)];exact rfl
  |ok x n =>
   rw[ef e,ao];have h:=anE (b:=b) (k:=k) (a:=n)
   cases e2:jr b k n with
   |er q=>rw[e2]at h;exact h
   |ok l m=>rw[e2]at h;exact⟨by rw[h.1],h.2⟩
def JB (b:C_)(g2:Nat×Nat×Nat):Nat×Nat×Nat :=
 if g2.1=15 then (14+(gT b (kT g2.2 ((0:Int)<(g2.1:Nat))) 8).1,kT (gT b (kT g2.2 ((0:Int)<(g2.1:Nat))) 8).2 ((0:Int)<((gT b (kT g2.2 ((0:Int)<(g2.1:Nat))) 8).1:Nat)))
 else (g2.1,kT g2.2 ((0:Int)<(g2.1:Nat)))
def Sv (b:C_)(w:C_×Nat×Nat):C_×Nat×Nat:=(w.1,kT (gT b w.2 3).2 (((gT b w.2 3).1:Int)=7))
def R9 (b:C_)(s:Nat×Nat):C_×Nat×Nat :=
 if (gT b s 3).1=6 then Sv b (oY b (JB b (gT b (gT b s 3).2 4)).1 (JB b (gT b (gT b s 3).2 4)).2) else ([],kT (gT b s 3).2 (((gT b s 3).1:Int)=7))
def Gx {b:C_}{w:C_×Nat×Nat}(h:w.2.2≠0):(Sv b w).2=w.2:=by
 unfold Sv;simp only;rw[lZ h,fm h]
def apu {b:C_}{k a:Nat}:Lk ((jr b k a).bind λl m=>(aE b m 3).bind λz m=>if z=7 then .ok l m else .er 7) (λl=>(Sv b (oY b k (a,0))).1=l) (Sv b (oY b k (a,0))).2:=by
 have h:=anE (b:=b) (k:=k) (a:=a)
 cases e:jr b k a with
 |er q =>
  rw[e]at h;have hd:(oY b k (a,0)).2.2=q+1:=h;rw[aQ,Gx o_];exact h
 |ok l m =>
  rw[e]at h;obtain⟨h1,h2⟩:=h;rw[ao];unfold Sv;simp only;rw[h2]
  cases e3:aE b m 3 with
  |er q =>
   rw[lx e3,fm (aB _)];exact rfl
  |ok z m2 =>
   rw[ef e3,ao];by_cases hz:z=7
   .rw[ac hz,qf w_];exact⟨h1,rfl⟩
   .rw[aa hz,xu w_];exact rfl
def axA {b:C_}{a:Nat}:Lk (uN b a) (λl=>(R9 b (a,0)).1=l) (R9 b (a,0)).2:=by
 unfold uN R9
 cases e1:aE b a 3 with
 |er q =>
  rw[lx e1,aa s_,fm (aB _)];exact rfl
 |ok x n =>
  rw[ef e1,ao];simp only;by_cases h6:x=6
  .rw[ac h6,ac h6]
   cases e2:aE b n 4 with
   |er q =>
    have:JB b (gT b (n,0) 4)=(0,n,q+1):=by
     unfold JB;rw[lx e2,aa s_,fm (aB _)]
    rw[this,G7 (aB _),Gx (aB _)];exact rfl
   |ok k m =>
    rw[ao];by_cases hk:k=0
    .have:JB b (gT b (n,0) 4)=(0,m,8):=by
      unfold JB;rw[ef e2,aa w_,xu w_];simp only[hk]
     rw[ac hk,this,G7 s_,Gx s_];exact rfl
    .rw[aa hk];by_cases h15:k=15
     .rw[ac h15]
      cases e3:aE b m 8 with
      |er q =>
       have:JB b (gT b (n,0) 4)=(14+0,m,q+1):=by
        unfold JB;rw[ef e2,ac w_,qf w_];simp only;rw[lx e3,fm (aB _)]
       rw[this,G7 (aB _),Gx (aB _)];exact rfl
      |ok y m2 =>
       rw[ao];by_cases hy:y=0
       .have:JB b (gT b (n,0) 4)=(14+y,m2,8):=by
         unfold JB;rw[ef e2,ac w_,qf w_];simp only;rw[ef e3,xu w_]
        rw[ac hy,this,G7 s_,Gx s_];exact rfl
       .have:JB b (gT b (n,0) 4)=(y+14,m2,0):=by
         unfold JB;rw[ef e2,ac w_,qf w_];simp only;rw[ef e3,qf w_,f9]
        rw[aa hy,this,ao];exact apu
     .have:JB b (gT b (n,0) 4)=(k,m,0):=by
       unfold JB;rw[ef e2,aa h15,qf w_]
      rw[aa h15,this,ao];exact apu
  .rw[aa h6,aa h6];by_cases h7:x=7
   .rw[ac h7,qf o_];exact⟨rfl,rfl⟩
   .rw[aa h7,xu o_];exact rfl
def iU (b:C_)(r:Nat)(q:Bool)(i:aG):Nat->Nat->R BB_
 |0,a=>.ok [] a
 |k+1,a=>(Cp b a r q i).bind λv n=>(iU b r q i k n).bind λl m=>.ok (Gv v::l) m
abbrev Eg (n i:Int):aT:=[(2,.ptr 0 0),(4,.ptr 1 0),(6,.ptr 2 0),(7,.ptr 3 0),(140,A_ n),(141,A_ i)]
abbrev zF:D_:=[.nl,B_ false,A_ 0,.nl,.nl]
def RY (q:Bool)(i:aG)(I iv:D_):Prop:=(I=[.d (.int .u8 i.seq),.d (.int .u8 i.shape),A_ i.max,.own false 1 (am i.groups)]∧iv=i.cells)∨(I=zI∧q=false∧iv=zI)
section
variable (b:C_)(hb:b.length<=1000000000)
theorem aiG (C F I:D_)(s:Nat×Nat)(n:Int)(N:Nat)(hN:4<=N) :
  (Dn prog).code (.loop fo) ⟨Eg n n,⟨fR C F I [] (aX b s),N⟩⟩=some (.exit 5,⟨[(4,.ptr 1 0),(6,.ptr 2 0)],⟨[(1,.cells F),(2,.cells (aX b s))],N⟩⟩):=by
 rw[ah BW];simp(maxSteps:=9^6)(disch:=omega)[↓ac,↓aa]
theorem afZ (C I:D_)(f0 f1 f2 f3 f4:AV)(s:Nat×Nat)(hs:s.2≠0)(n i:Int)(hi:i<n)(N:Nat) :
  (Dn prog).code (.loop fo) ⟨Eg n i,⟨fR C [f0,f1,f2,f3,f4] I [] (aX b s),N⟩⟩=some (.ret,⟨[(4,.ptr 1 0),(5,A_ s.2)],⟨[(1,.cells zF),(2,.cells (aX b s))],N⟩⟩):=by
 obtain⟨a,e⟩:=s;simp only at hs;rw[ah BW];simp only[fR,aX];simp(maxSteps:=9^6)(disch:=omega)[↓ac,↓aa,hs]
include hb
theorem agK (r:Nat)(hr:r<=11)(q:Bool)(i:aG)(hi:i.Fit)(I iv:D_)(hI:RY q i I iv)(c1 c2 c3 f2 f3 f4:AV)(a:Nat)(ha:a<=b.length)(acc:BB_)(hacc:acc.length<=100)(v:Hd×E_)(m:Nat)(hv:Cp b a r q i=.ok v m)(n j:Nat)(hj:j<n)(hn:n<=2)(N:Nat)(hN:4<=N) :
  (Dn prog).code (.loop fo) ⟨Eg n j,⟨fR [A_ r,c1,c2,c3] [al 9 (dG acc),B_ q,f2,f3,f4] I [] (aX b (a,0)),N⟩⟩ =
  (Dn prog).code (.loop fo) ⟨Eg n (j+1:Nat),⟨fR [A_ r,c1,c2,c3] [al 9 (dG (acc++[Gv v])),B_ q,f2,f3,f4] I [] (aX b (m,0)),N+1⟩⟩:=by
 have hiv:iv=i.cells∨q=false∧iv=zI:=hI.imp And.right λh=>⟨h.2.1,h.2.2⟩
 have hG:=ajG b hb a o_ r hr q i hi iv hiv;rw[hv]at hG;have cj:((j+1:Nat):Int)=(j:Int)+1:=rfl;have c0:((0:Nat):Int)=0:=rfl;have hA:(dG acc).length=acc.length:=Wf;have e:al 9 (dG (acc++[Gv v]))=.own false 9 (dG acc++[[.int .i64 v.1.gain,.int .u8 v.1.inf.seq,.int .u8 v.1.inf.shape,.int .i64 v.1.inf.max,.lst (am v.1.inf.groups),.lst (bi v.1.S),.lst (cT v.1.T),.lst (bv v.1.F),.lst (am v.2)]]):=by rw[abT,dy]
 have n0:N≠0∧N≠1∧N≠2∧N≠3:=o_;rw[cj,e];simp only[aX,fR,c0,aqh,Uq]at hG⊢;generalize dG acc=A at *;generalize am v.2=Z at *;rcases hI with ⟨rfl,rfl⟩|⟨rfl,rfl,rfl⟩
 all_goals
  simp only[aG.cells,zI]at hG⊢;rw[ah BW]
  cases A with
  |nil=>simp(maxSteps:=9^6)(disch:=omega)[↓ac,↓aa,hG,n0]
  |cons y w=>simp(maxSteps:=9^6)(disch:=omega)[↓ac,↓aa,hG,n0]
theorem alI (r:Nat)(hr:r<=11)(q:Bool)(i:aG)(hi:i.Fit)(I iv:D_)(hI:RY q i I iv)(c1 c2 c3 f0 f2 f3 f4:AV)(a:Nat)(ha:a<=b.length)(e:Nat)(hv:Cp b a r q i=.er e)(n j:Nat)(hj:j<n)(hn:n<=2)(N:Nat)(hN:4<=N) :
  (Dn prog).code (.loop fo) ⟨Eg n j,⟨fR [A_ r,c1,c2,c3] [f0,B_ q,f2,f3,f4] I [] (aX b (a,0)),N⟩⟩ =
  some (.ret,⟨[(4,.ptr 1 0),(5,A_ ((e+1:Nat):Int))],⟨[(1,.cells zF),(2,.cells (aX b (0,e+1)))],N+1⟩⟩):=by
 have hiv:iv=i.cells∨q=false∧iv=zI:=hI.imp And.right λh=>⟨h.2.1,h.2.2⟩
 have hG:=ajG b hb a o_ r hr q i hi iv hiv;rw[hv]at hG;have ce:((e+1:Nat):Int)=(e:Int)+1:=rfl;have c0:((0:Nat):Int)=0:=rfl;have n0:N≠0∧N≠1∧N≠2∧N≠3:=o_;have e1:¬((e:Int)+1=0):=o_;simp only[aX,fR,c0,ce,aqh,mZ]at hG⊢;rcases hI with ⟨rfl,rfl⟩|⟨rfl,rfl,rfl⟩
 all_goals
  simp only[aG.cells,zI]at hG⊢;rw[ah BW];simp(maxSteps:=9^6)(disch:=omega)[↓ac,↓aa,hG,n0,e1]
end
def aqF (w:C_)(hw:w.length<=1000000000)(N:Nat):∀(r:C_) (i:Nat),w.drop i=r->
  (1∉r->(Dn prog).code (.loop iX) ⟨[(0,.d (.lst (ax w))),(1,.d (.int .u8 1)),(7,A_ w.length),(8,A_ i)],⟨[],N⟩⟩=some (.exit 0,⟨[],⟨[],N⟩⟩))∧
  (1∈r->∃k:Nat,(Dn prog).code (.loop iX) ⟨[(0,.d (.lst (ax w))),(1,.d (.int .u8 1)),(7,A_ w.length),(8,A_ i)],⟨[],N⟩⟩=some (.ret,⟨[(4,A_ k)],⟨[],N⟩⟩)):=by
 intro r
 induction r with
 |nil =>
  intro i hd;have hi:=eD hd;refine⟨λ_=>?_,λh=>absurd h s_⟩;rw[ah Af];simp(maxSteps:=9^6)(disch:=omega)[↓ac,↓aa]
 |cons x r ih =>
  intro i hd;have hlt:=ed hd;have hg:(ax w)[i]?=some [.int .u8 x]:=by
   have:=aY (λl=>l[0]?) hd;simp only[bx,bK,cS]at this;rw[ax,bM,this];rfl
  have h5:=ih (i+1) (dU hd);have c1:((i+1:Nat):Int)=(i:Int)+1:=rfl;rw[c1]at h5;rw[ah Af];generalize ax w=W at *;by_cases hx:x=1
  .refine⟨λh=>absurd (by rw[hx];exact .head _) h,λ_=>⟨i,?_⟩⟩;have hx2:(1:Int)=(x:Int):=o_;simp(maxSteps:=9^6)(disch:=omega)[↓ac,↓aa,hg,<-hx2]
  .have hx2:¬(1:Int)=(x:Int):=o_;refine⟨λh=>?_,λh=>?_⟩
   .rw[<-h5.1 λh2=>h (.tail _ h2)];simp(maxSteps:=9^6)(disch:=omega)[↓ac,↓aa,hg,hx2]
   .obtain⟨k,hk⟩:=h5.2 (by
     rcases aD.1 h with h|h
     .exact absurd h.symm hx
     .exact h)
    refine⟨k,?_⟩;rw[<-hk];simp(maxSteps:=9^6)(disch:=omega)[↓ac,↓aa,hg,hx2]
def amD (w:C_)(hw:w.length<=1000000000):bn prog qO [.d (.lst (ax w)),.d (.int .u8 1)]=some (B_ (decide (1∈w))):=by
 obtain⟨h1,h2⟩:=aqF w hw 0 w 0 rfl;have hl:=fJ (l:=w);have c0:((0:Nat):Int)=0:=rfl;rw[c0]at h1 h2;by_cases h:1∈w
 .obtain⟨k,hk⟩:=h2 h;have hI:bn prog vu [.d (.lst (ax w)),.d (.int .u8 1)]=some (A_ k):=by
   rw[aL Ed DI rfl];generalize ax w=W at *;simp(maxSteps:=9^6)(disch:=omega)[↓ac,↓aa,hl,hk]
  rw[dT_ h,aL zx Av rfl];simp(maxSteps:=9^6)(disch:=omega)[↓ac,↓aa,hI]
 .have hk:=h1 h;have hI:bn prog vu [.d (.lst (ax w)),.d (.int .u8 1)]=some (A_ (-1)):=by
   rw[aL Ed DI rfl];generalize ax w=W at *;simp(maxSteps:=9^6)(disch:=omega)[↓ac,↓aa,hl,hk]
  rw[dF_ h,aL zx Av rfl];simp(maxSteps:=9^6)(disch:=omega)[↓ac,↓aa,hI]
abbrev hp3 (C F c:D_):ak:=[(0,.cells C),(1,.cells F),(2,.cells c)]
def amM (C F:D_):Hr (hp3 C F) 2:=⟨λc=>by simp,λc d=>by simp⟩
def xY (b:C_)(n:Int):Nat×Nat:=kT (gT b (0,0) 3).2 (((gT b (0,0) 3).1:Int)=n-1)
def Id (b:C_)(n:Int):Nat×Nat:=kT (gT b (xY b n) 4).2 (((gT b (xY b n) 4).1:Int)=0)
section
variable (b:C_)(hb:b.length<=1000000000)
include hb
theorem aeS {n:Int}:(xY b n).1<=b.length:=yE (jU (dp _))
theorem apb {n:Int}:(Id b n).1<=b.length:=yE (jU (aeS b hb))
theorem aj6 (c0 c2 c3:AV)(n:Int)(hn:n=1∨n=2)(T:VC) :
  (Dn prog).code (.seq (.seq wo (K [41])) (.seq BI (.seq BL T))) ⟨[(2,.ptr 0 0),(4,.ptr 1 0),(6,.ptr 2 0)],⟨hp3 [c0,A_ n,c2,c3] zF (aX b (0,0)),3⟩⟩ =
  (Dn prog).code T ⟨[(2,.ptr 0 0),(4,.ptr 1 0),(6,.ptr 2 0),(7,.ptr 3 0)],⟨fR [c0,A_ n,c2,c3] zF zI [] (aX b (Id b n)),4⟩⟩:=by
 have h1:=gp (amM [c0,A_ n,c2,c3] zF) b hb (0,0) (dp _) 3 3;have h2:=nq (amM [c0,A_ n,c2,c3] zF) b (gT b (0,0) 3).2 (((gT b (0,0) 3).1:Int)=n-1) 3;have h3:=gp (amM [c0,A_ n,c2,c3] zF) b hb (xY b n) (aeS b hb) 4 3;have h4:=nq (amM [c0,A_ n,c2,c3] zF) b (gT b (xY b n) 4).2 (((gT b (xY b n) 4).1:Int)=0) 3;have e1:xY b n=kT (gT b (0,0) 3).2 (((gT b (0,0) 3).1:Int)=n-1):=rfl;have e2:Id b n=kT (gT b (xY b n) 4).2 (((gT b (xY b n) 4).1:Int)=0):=rfl;rw[<-e1]at h2;rw[<-e2]at h4;clear e1 e2;generalize Id b n=s4 at *;generalize xY b n=s2 at *;generalize gT b (0,0) 3=g1 at *;obtain⟨x1,s1⟩:=g1;generalize gT b s2 4=g3 at *;obtain⟨x3,s3⟩:=g3;have c0':((0:Nat):Int)=0:=rfl;simp only[aX,hp3,fR,c0',zF]at h1 h2 h3 h4⊢;by_cases k1:(x1:Int)=n-1
 .rw[dT_ k1]at h2;by_cases k2:(x3:Int)=0
  .rw[dT_ k2]at h4;simp(maxSteps:=9^6)(disch:=omega)[↓ac,↓aa,h1,h2,h3,h4]
  .rw[dF_ k2]at h4;simp(maxSteps:=9^6)(disch:=omega)[↓ac,↓aa,h1,h2,h3,h4]
 .rw[dF_ k1]at h2;by_cases k2:(x3:Int)=0
  .rw[dT_ k2]at h4;simp(maxSteps:=9^6)(disch:=omega)[↓ac,↓aa,h1,h2,h3,h4]
  .rw[dF_ k2]at h4;simp(maxSteps:=9^6)(disch:=omega)[↓ac,↓aa,h1,h2,h3,h4]
theorem ag5 (c0 c2 c3:AV)(s:Nat×Nat)(T:VC) :
  (Dn prog).code (.seq (.seq tw (.cond (.m 49) tQ .skip)) T) ⟨[(2,.ptr 0 0),(4,.ptr 1 0),(6,.ptr 2 0),(7,.ptr 3 0)],⟨fR [c0,A_ 1,c2,c3] zF zI [] (aX b s),4⟩⟩ =
  (Dn prog).code T ⟨[(2,.ptr 0 0),(4,.ptr 1 0),(6,.ptr 2 0),(7,.ptr 3 0)],⟨fR [c0,A_ 1,c2,c3] zF zI [] (aX b s),4⟩⟩:=by
 simp only[aX,fR,zF];simp(maxSteps:=9^6)(disch:=omega)[↓ac,↓aa]
theorem af5 (c0 c2 c3:AV)(s:Nat×Nat)(hs:s.1<=b.length)(T:VC) :
  (Dn prog).code (.seq (.seq tw (.cond (.m 49) tQ .skip)) T) ⟨[(2,.ptr 0 0),(4,.ptr 1 0),(6,.ptr 2 0),(7,.ptr 3 0)],⟨fR [c0,A_ 2,c2,c3] zF zI [] (aX b s),4⟩⟩ =
  (Dn prog).code T ⟨[(2,.ptr 0 0),(4,.ptr 1 0),(6,.ptr 2 0),(7,.ptr 3 0)],⟨fR [c0,A_ 2,c2,c3] [.nl,B_ ((decide ((gT b s 1).1=1))),A_ 0,.nl,.nl] zI [] (aX b (gT b s 1).2),4⟩⟩:=by
 have h1:=gp (akI [c0,A_ 2,c2,c3] zF zI []) b hb s hs 1 4;generalize gT b s 1=g at *;obtain⟨x,s1⟩:=g;simp only[aX,fR,zF]at h1⊢;by_cases hx:x=1
 .have hx2:(x:Int)=1:=o_;simp(maxSteps:=9^6)(disch:=omega)[↓ac,↓aa,h1,hx,hx2]
 .have hx2:¬(x:Int)=1:=o_;simp(maxSteps:=9^6)(disch:=omega)[↓ac,↓aa,h1,hx,hx2]
end
def gb3 {b:C_}{a v n:Nat}:aE b (a:Int) 3=.ok v n↔v<8∧At b a n (bh v 3):=cB (s:=3) (by omega)
def gb4 {b:C_}{a v n:Nat}:aE b (a:Int) 4=.ok v n↔v<16∧At b a n (bh v 4):=cB (s:=4) (by omega)
def gb8 {b:C_}{a v n:Nat}:aE b (a:Int) 8=.ok v n↔v<256∧At b a n (bh v 8):=cB (s:=8) (by omega)
def gb2 {b:C_}{a v n:Nat}:aE b (a:Int) 2=.ok v n↔v<4∧At b a n (bh v 2):=cB (s:=2) (by omega)
def gb1 {b:C_}{a v n:Nat}:aE b (a:Int) 1=.ok v n↔v<2∧At b a n (bh v 1):=cB (s:=1) (by omega)
def KJ {b:C_}:∀{k a m:Nat}{l:C_},a<=b.length->(jr b k a=.ok l m↔l.length=k∧(∀x∈l,x<=255)∧At b a m (gj l))
 |0,a,m,l,ha=>by
  rw[jr];constructor
  .intro h;injection h with h1 h2
   subst h1 h2;exact⟨rfl,s_,ek.2 ⟨rfl,ha⟩⟩
  .rintro ⟨h1,_,h3⟩
   obtain rfl:=aI h1;rw[(ek.1 h3).1]
 |k+1,a,m,l,ha=>by
  rw[jr,aH];constructor
  .rintro ⟨x,n,e1,h⟩
   obtain⟨r,p,e2,h⟩:=aH.1 h;injection h with h1 h2;subst h1 h2;obtain⟨hx,f1⟩:=gb8.1 e1;obtain⟨h1,h2,f2⟩:=(KJ (db f1).2.1).1 e2;exact⟨by rw[ar,h1],λy hy=>by
    rcases aD.1 hy with rfl|hy
    .omega
    .exact h2 y hy,bc.2 ⟨n,f1,f2⟩⟩
  .rintro ⟨h1,h2,h3⟩
   cases l with
   |nil=>simp at h1
   |cons x r =>
    obtain⟨n,f1,f2⟩:=(bc (X:=bh x 8)).1 h3;refine⟨x,n,gb8.2 ⟨by have:=h2 x (.head _);omega,f1⟩,aH.2 ⟨r,m,(KJ (db f1).2.1).2 ⟨by simpa using h1,λy hy=>h2 y (.tail _ hy),f2⟩,rfl⟩⟩
def anv {b:C_}{a m x:Nat}:aE b (a:Int) 1=.ok x m↔x=cond (decide (x=1)) 1 0∧At b a m (bh (cond (decide (x=1)) 1 0) 1):=by
 rw[gb1];constructor
 .rintro ⟨h1,h2⟩
  have:x=0∨x=1:=o_;rcases this with rfl|rfl<;>exact⟨rfl,h2⟩
 .rintro ⟨h1,h2⟩
  rw[<-h1]at h2;refine⟨?_,h2⟩;rw[h1]
  cases decide (x=1)<;>simp
def PC {b:C_}:∀{k a m:Nat}{l:Y_},a<=b.length->(Gn b k a=.ok l m↔l.length=k∧At b a m (KK l))
 |0,a,m,l,ha=>by
  rw[Gn];constructor
  .intro h;injection h with h1 h2
   subst h1 h2;exact⟨rfl,ek.2 ⟨rfl,ha⟩⟩
  .rintro ⟨h1,h3⟩
   obtain rfl:=aI h1;rw[(ek.1 h3).1]
 |k+1,a,m,l,ha=>by
  rw[Gn,aH];constructor
  .rintro ⟨x,n,e1,h⟩
   obtain⟨r,p,e2,h⟩:=aH.1 h;injection h with h1 h2;subst h1 h2;obtain⟨hx,f1⟩:=anv.1 e1;obtain⟨h1,f2⟩:=(PC (db f1).2.1).1 e2;exact⟨by rw[ar,h1],bc.2 ⟨n,f1,f2⟩⟩
  .rintro ⟨h1,h3⟩
   cases l with
   |nil=>simp at h1
   |cons x r =>
    obtain⟨n,f1,f2⟩:=(bc (X:=bh (cond x 1 0) 1)).1 h3;have hd:decide ((cond x 1 0:Nat)=1)=x:=by cases x<;>rfl
    refine⟨cond x 1 0,n,anv.2 (by rw[hd];exact⟨rfl,f1⟩),aH.2 ⟨r,m,(PC (db f1).2.1).2 ⟨by simpa using h1,f2⟩,by rw[hd]⟩⟩
def ab8 {a c:Y_}:KK (a++c)=KK a++KK c:=by simp[KK]
def Kx {b:C_}{mx:Nat}:∀{g a m:Nat}{t:T_},a<=b.length->(pE b mx g a=.ok t m↔t.length=g∧(∀l∈t,l.length=mx)∧At b a m (KK t.flatten))
 |0,a,m,t,ha=>by
  rw[pE];constructor
  .intro h;injection h with h1 h2
   subst h1 h2;exact⟨rfl,s_,ek.2 ⟨rfl,ha⟩⟩
  .rintro ⟨h1,_,h3⟩
   obtain rfl:=aI h1;rw[(ek.1 h3).1]
 |g+1,a,m,t,ha=>by
  rw[pE,aH];constructor
  .rintro ⟨l,n,e1,h⟩
   obtain⟨r,p,e2,h⟩:=aH.1 h;injection h with h1 h2;subst h1 h2;obtain⟨hx,f1⟩:=(PC ha).1 e1;obtain⟨h1,h2,f2⟩:=(Kx (db f1).2.1).1 e2;refine⟨by rw[ar,h1],λy hy=>?_,by rw[tT,ab8];exact bc.2 ⟨n,f1,f2⟩⟩;rcases aD.1 hy with rfl|hy
   .exact hx
   .exact h2 y hy
  .rintro ⟨h1,h2,h3⟩
   cases t with
   |nil=>simp at h1
   |cons l r =>
    rw[tT,ab8]at h3;obtain⟨n,f1,f2⟩:=bc.1 h3;exact⟨l,n,(PC ha).2 ⟨h2 l (.head _),f1⟩,aH.2 ⟨r,m,(Kx (db f1).2.1).2 ⟨by simpa using h1,λy hy=>h2 y (.tail _ hy),f2⟩,rfl⟩⟩
def V7 {b:C_}{a m:Nat}{l:C_}(ha:a<=b.length):uN b a=.ok l m↔(l.length<=269∧∀x∈l,x<=255)∧At b a m (OP l++bh 7 3):=by
 unfold uN;rw[aH];constructor
 .rintro ⟨x,n,e1,h⟩
  obtain⟨hx,f1⟩:=gb3.1 e1;by_cases h6:x=6
  .rw[ac h6]at h;subst h6;obtain⟨k,n2,e2,h⟩:=aH.1 h;obtain⟨hk,f2⟩:=gb4.1 e2;by_cases hk0:k=0
   .rw[ac hk0]at h;exact absurd h (by simp)
   rw[aa hk0]at h;obtain⟨c,n3,e3,h⟩:=aH.1 h;obtain⟨w,n4,e4,h⟩:=aH.1 h;obtain⟨z,n5,e5,h⟩:=aH.1 h;by_cases hz:z=7
   rotate_left
   .rw[aa hz]at h;exact absurd h (by simp)
   rw[ac hz]at h;injection h with g1 g2
   subst g1 g2 hz;have f5:=(gb3.1 e5).2;have key:At b n2 n3 (if 15<=c then bh (c-14) 8 else [])∧min c 15=k∧1<=c∧c<=269:=by
    by_cases h15:k=15
    .rw[ac h15]at e3;obtain⟨y,n6,e6,h⟩:=aH.1 e3;obtain⟨hy,f6⟩:=gb8.1 e6;by_cases hy0:y=0
     .rw[ac hy0]at h;exact absurd h (by simp)
     rw[aa hy0]at h;injection h with g1 g2
     subst g1 g2;rw[ac o_,dz];exact⟨f6,o_,o_,o_⟩
    .rw[aa h15]at e3;injection e3 with g1 g2
     subst g1 g2;rw[aa o_];exact⟨ek.2 ⟨rfl,(db f2).2.1⟩,o_,o_,o_⟩
   obtain⟨f3,k1,k2,k3⟩:=key;obtain⟨w1,w2,f4⟩:=(KJ (db f3).2.1).1 e4;refine⟨⟨o_,w2⟩,?_⟩;have hne:w≠[]:=λh=>by rw[h]at w1;simp at w1;omega
   rw[OP,aa hne,w1,k1];exact bc.2 ⟨n4,bc.2 ⟨n,f1,bc.2 ⟨n2,f2,bc.2 ⟨n3,f3,f4⟩⟩⟩,f5⟩
  .rw[aa h6]at h;by_cases h7:x=7
   rotate_left
   .rw[aa h7]at h;exact absurd h (by simp)
   rw[ac h7]at h;injection h with g1 g2
   subst g1 g2 h7;exact⟨⟨s_,s_⟩,by rw[OP,ac rfl];exact f1⟩
 .rintro ⟨⟨h1,h2⟩,h3⟩
  by_cases h0:l=[]
  .rw[OP,ac h0,az]at h3;exact⟨7,m,gb3.2 ⟨o_,h3⟩,by rw[aa o_,ac rfl,h0]⟩
  have hl0:l.length≠0:=λh=>h0 (aI h)
  rw[OP,aa h0]at h3;obtain⟨n4,h3,f5⟩:=bc.1 h3;obtain⟨n,f1,h3⟩:=bc.1 h3;obtain⟨n2,f2,h3⟩:=bc.1 h3;obtain⟨n3,f3,f4⟩:=bc.1 h3;refine⟨6,n,gb3.2 ⟨o_,f1⟩,?_⟩;rw[ac rfl,aH];refine⟨_,n2,gb4.2 ⟨o_,f2⟩,?_⟩;rw[aa o_,aH];refine⟨l.length,n3,?_,aH.2 ⟨l,n4,(KJ (db f3).2.1).2 ⟨rfl,h2,f4⟩,aH.2 ⟨7,m,gb3.2 ⟨o_,f5⟩,ac rfl⟩⟩⟩;by_cases h15:15<=l.length
  .rw[ac h15]at f3;rw[ac o_,aH];exact⟨l.length-14,n3,gb8.2 ⟨o_,f3⟩,by rw[aa o_,show l.length-14+14=l.length by omega]⟩
  .rw[aa h15]at f3;rw[aa o_,(ek.1 f3).1,show min l.length 15=l.length by omega]
abbrev Wp:aG:=⟨0,0,0,[]⟩
def Iz (b:C_)(r:Nat)(q:Bool)(a:Nat):R (aG×Nat×T_) :=
 if q=true then (fW b a r).bind λi m=>(aE b m 2).bind λk m=>if ¬k<3 then .er 7 else (if k=1 then pE b i.max.toNat i.groups.length m else .ok [] m).bind λl m=>.ok (i,k,l) m
 else .ok (Wp,0,[]) a
def WZ (b:C_)(r:Nat)(n:Int):R ki :=
 (aE b (0:Nat) 3).bind λx m=>if (x:Int)≠n-1 then .er 7 else
 (aE b m 4).bind λx m=>if x≠0 then .er 7 else
 (if n=2 then aE b m 1 else .ok 0 m).bind λqv m =>
 (Iz b r (decide (qv=1)) m).bind λh m =>
 (iU b r (decide (qv=1)) h.1 n.toNat m).bind λcs m =>
 (uN b m).bind λfl m=>.ok ⟨cs,decide (qv=1),h.2.1,h.2.2,fl⟩ m
def alo (R:Nat)(n:Int)(f:ki):C_:=amk n f++aeB R f.common f.chans++OP f.fill++bh 7 3
def YQ {b:C_}(hb:b.length<=1000000000){r:Nat}(hr:r<=11){q:Bool}{i:aG}(hi:i.Fit):∀{k a m:Nat}{l:BB_},a<=b.length->iU b r q i k a=.ok l m->l.length=k∧(∀c∈l,c.Fit∧arZ r c∧(q=true->c.info=i))∧At b a m (aeB r q l)
 |0,a,m,l,ha,h=>by
  rw[iU]at h;injection h with h1 h2
  subst h1 h2;exact⟨rfl,s_,ek.2 ⟨rfl,ha⟩⟩
 |k+1,a,m,l,ha,h=>by
  rw[iU]at h;obtain⟨v,n,e1,h⟩:=aH.1 h;obtain⟨t,p,e2,h⟩:=aH.1 h;injection h with h1 h2
  subst h1 h2;obtain⟨A,hA,c1,c2,f1,c3⟩:=Xe hb hr hi e1;obtain rfl:a=A:=o_;obtain⟨t1,t2,f2⟩:=YQ hb hr hi (db f1).2.1 e2;refine⟨by rw[ar,t1],λd hd=>?_,bc.2 ⟨n,f1,f2⟩⟩;rcases aD.1 hd with rfl|hd
  .exact⟨c1,c2,c3⟩
  .exact t2 d hd
abbrev JF:aT:=[(2,.ptr 0 0),(4,.ptr 1 0),(6,.ptr 2 0),(7,.ptr 3 0)]
def Oj (C:D_)(q:Bool)(b:C_)(s:Nat×Nat)(h:q=false∨s.2≠0)(B T:VC) :
  (Dn prog).code (.seq (.seq mh (.cond (.m 62) B .skip)) T) ⟨JF,⟨fR C [.nl,B_ q,A_ 0,.nl,.nl] zI [] (aX b s),4⟩⟩ =
  (Dn prog).code T ⟨JF,⟨fR C [.nl,B_ q,A_ 0,.nl,.nl] zI [] (aX b s),4⟩⟩:=by
 obtain⟨a,e⟩:=s;simp only[aX,fR]
 cases q with
 |false=>simp(maxSteps:=9^6)(disch:=omega)[↓ac,↓aa]
 |true =>
  have he:e≠0:=h.resolve_left s_;simp(maxSteps:=9^6)(disch:=omega)[↓ac,↓aa,he]
abbrev aaF (B:VC):VC:=(.seq (.seq (.seq yP (K [63])) (.seq EZ (.cond (.m 88) (.seq (.seq (F 2) (F 7)) (.seq yC .ret)) .skip))) B)
abbrev agw (b:C_)(s:Nat×Nat)(N:Nat):I_:=some (.ret,⟨[(4,.ptr 1 0),(5,A_ s.2)],⟨[(1,.cells zF),(2,.cells (aX b s))],N⟩⟩)
section
variable (b:C_)(hb:b.length<=1000000000)(r:Nat)(hr:r<=11)
include hb hr
theorem arH (c1 c2 c3:AV)(a e:Nat)(ha:a<=b.length)(he:fW b a r=.er e)(B T:VC) :
  (Dn prog).code (.seq (.seq mh (.cond (.m 62) (aaF B) .skip)) T) ⟨JF,⟨fR [A_ r,c1,c2,c3] [.nl,B_ true,A_ 0,.nl,.nl] zI [] (aX b (a,0)),4⟩⟩ =
  some (.ret,⟨[(4,.ptr 1 0),(5,A_ ((e+1:Nat):Int))],⟨[(1,.cells zF),(2,.cells (aX b (0,e+1)))],4⟩⟩):=by
 have h:=Xf b a r hb o_;rw[ac o_,au,he,ee]at h;have c0:((0:Nat):Int)=0:=rfl;have ce:((e+1:Nat):Int)=(e:Int)+1:=rfl;have e1:¬((e:Int)+1=0):=o_;simp only[aX,fR,c0,ce,zF,aaF]at h⊢;simp(maxSteps:=9^6)(disch:=omega)[↓ac,↓aa,h,e1]
theorem aqC (c1 c2 c3:AV)(a:Nat)(ha:a<=b.length)(i:aG)(m:Nat)(he:fW b a r=.ok i m)(w:T_)(s6:Nat×Nat)(M:Nat)
  (hL:(Dn prog).code (.loop fK) ⟨KB i.groups.length 0,⟨fR [A_ r,c1,c2,c3] [.nl,B_ true,A_ ((gT b (m,0) 2).1),.nl,.nl] [.d (.int .u8 i.seq),.d (.int .u8 i.shape),A_ i.max,.own false 1 (am i.groups)] [] (aX b (kT (gT b (m,0) 2).2 (((gT b (m,0) 2).1:Int)<3))),4⟩⟩ =
   some (.exit 1,⟨T3,⟨fR [A_ r,c1,c2,c3] [.nl,B_ true,A_ ((gT b (m,0) 2).1),al 1 (cx w),.nl] [.d (.int .u8 i.seq),.d (.int .u8 i.shape),A_ i.max,.own false 1 (am i.groups)] [] (aX b s6),M⟩⟩))(T:VC) :
  (Dn prog).code (.seq (.seq mh (.cond (.m 62) (aaF (.seq yL (.seq za (.seq yQ (.block 1 (.seq (.loop fK) (K [104,105]))))))) .skip)) T) ⟨JF,⟨fR [A_ r,c1,c2,c3] [.nl,B_ true,A_ 0,.nl,.nl] zI [] (aX b (a,0)),4⟩⟩ =
  (Dn prog).code T ⟨JF,⟨fR [A_ r,c1,c2,c3] [.nl,B_ true,A_ ((gT b (m,0) 2).1),al 1 (cx w),.nl] [.d (.int .u8 i.seq),.d (.int .u8 i.shape),A_ i.max,.own false 1 (am i.groups)] [] (aX b s6),M⟩⟩:=by
 have hp:=xI hr he;have h:=Xf b a r hb o_;rw[ac o_,au,he,b9 hp]at h;have h1:=gp (akI [A_ r,c1,c2,c3] [.nl,B_ true,A_ 0,.nl,.nl] [.d (.int .u8 i.seq),.d (.int .u8 i.shape),A_ i.max,.own false 1 (am i.groups)] []) b hb (m,0) hp.2.1 2 4;have h2:=nq (akI [A_ r,c1,c2,c3] [.nl,B_ true,A_ ((gT b (m,0) 2).1),.nl,.nl] [.d (.int .u8 i.seq),.d (.int .u8 i.shape),A_ i.max,.own false 1 (am i.groups)] []) b (gT b (m,0) 2).2 (((gT b (m,0) 2).1:Int)<3) 4;have hg:=dc (l:=i.groups);have c0:((0:Nat):Int)=0:=rfl;generalize kT (gT b (m,0) 2).2 (((gT b (m,0) 2).1:Int)<3)=s5 at *;generalize gT b (m,0) 2=g at *;obtain⟨x,s4⟩:=g;clear hp he;simp only[aX,fR,c0,aaF,HB,T3,KB]at h h1 h2 hL⊢;generalize am i.groups=Z at *;by_cases k1:(x:Int)<3
 .rw[dT_ k1]at h2;simp(maxSteps:=9^6)(disch:=omega)[↓ac,↓aa,h,h1,h2,hL,hg]
 .rw[dF_ k1]at h2;simp(maxSteps:=9^6)(disch:=omega)[↓ac,↓aa,h,h1,h2,hL,hg]
end
abbrev V9 (b:C_)(F:D_)(s:Nat×Nat)(N:Nat):St:=⟨[(4,.ptr 1 0),(6,.ptr 2 0)],⟨[(1,.cells F),(2,.cells (aX b s))],N⟩⟩
section
variable (b:C_)(hb:b.length<=1000000000)(r:Nat)(hr:r<=11)
include hb hr
theorem amH (q:Bool)(i:aG)(hi:i.Fit)(I iv:D_)(hI:RY q i I iv)(c1 c2 c3 f2 f3 f4:AV)(n:Nat)(hn:n<=2):∀(k j a:Nat) (acc:BB_) (N:Nat),j+k=n->acc.length=j->a<=b.length->4<=N->
  match iU b r q i k a with
  |.ok l m=>m<=b.length∧∃M,4<=M∧(Dn prog).code (.loop fo) ⟨Eg n j,⟨fR [A_ r,c1,c2,c3] [al 9 (dG acc),B_ q,f2,f3,f4] I [] (aX b (a,0)),N⟩⟩=some (.exit 5,V9 b [al 9 (dG (acc++l)),B_ q,f2,f3,f4] (m,0) M)
  |.er e=>∃s M,s.2=e+1∧(Dn prog).code (.loop fo) ⟨Eg n j,⟨fR [A_ r,c1,c2,c3] [al 9 (dG acc),B_ q,f2,f3,f4] I [] (aX b (a,0)),N⟩⟩=agw b s M:=by
 intro k
 induction k with
 |zero =>
  intro j a acc N hj hl ha hN;obtain rfl:j=n:=o_;simp only[iU];exact⟨ha,N,hN,by rw[aiG b _ _ _ _ _ _ hN,aR]⟩
 |succ k ih =>
  intro j a acc N hj hl ha hN;rw[iU]
  cases e:Cp b a r q i with
  |er e0 =>
   rw[aQ];exact⟨(0,e0+1),N+1,rfl,alI b hb r hr q i hi I iv hI c1 c2 c3 _ f2 f3 f4 a ha e0 e n j o_ hn N hN⟩
  |ok v m =>
   obtain⟨A,_,_,_,f1,_⟩:=Xe hb hr hi e;have hm:=(db f1).2.1;have h:=ih (j+1) m (acc++[Gv v]) (N+1) o_ t_ hm o_;rw[agK b hb r hr q i hi I iv hI c1 c2 c3 f2 f3 f4 a ha acc o_ v m e n j o_ hn N hN,ao]
   cases e2:iU b r q i k m with
   |er e0=>rw[e2]at h;exact h
   |ok l p =>
    rw[e2]at h;obtain⟨h1,M,h2,h3⟩:=h;exact⟨h1,M,h2,by rw[h3,aw];rfl⟩
end
abbrev VV:VC:=(.seq E3 (.block 5 (.seq (.loop fo) (.seq (.seq (K [140,141]) (F 2)) (F 7)))))
def ZS (C F I:D_)(b:C_)(s:Nat×Nat)(c0 c2 c3:AV)(n:Nat)(N:Nat)(F2:D_)(s2:Nat×Nat)(M:Nat)
  (hL:(Dn prog).code (.loop fo) ⟨Eg n 0,⟨fR [c0,A_ n,c2,c3] F I [] (aX b s),N⟩⟩=some (.exit 5,V9 b F2 s2 M))(T:VC) :
  (Dn prog).code (.seq VV T) ⟨JF,⟨fR [c0,A_ n,c2,c3] F I [] (aX b s),N⟩⟩=(Dn prog).code T (V9 b F2 s2 M):=by
 simp only[aX,fR,Eg,V9,VV]at hL⊢;simp(maxSteps:=9^6)(disch:=omega)[↓ac,↓aa,hL]
def ahq (C F I:D_)(b:C_)(s:Nat×Nat)(c0 c2 c3:AV)(n:Nat)(N:Nat)(s2:Nat×Nat)(M:Nat)
  (hL:(Dn prog).code (.loop fo) ⟨Eg n 0,⟨fR [c0,A_ n,c2,c3] F I [] (aX b s),N⟩⟩=agw b s2 M)(T:VC) :
  (Dn prog).code (.seq VV T) ⟨JF,⟨fR [c0,A_ n,c2,c3] F I [] (aX b s),N⟩⟩=agw b s2 M:=by
 simp only[aX,fR,Eg,agw,VV]at hL⊢;simp(maxSteps:=9^6)(disch:=omega)[↓ac,↓aa,hL]
abbrev PQ:VC:=(.seq Fv (.seq (.seq FD (.cond (.m 204) (.seq yK .ret) .skip)) (.seq (.seq (.seq Fp (K [6,221,222,223,224,225,226,227,228,229,230,231])) (.cond (.m 232) (.seq EX .ret) .skip)) (.seq Fs .ret))))
def ax1 (F:D_):Hr (λc=>[(1,.cells F),(2,.cells c)]) 2:=⟨λc=>by simp,λc d=>by simp⟩
def arV {h:ak}{l:C_}{a:Nat}(ha:a<=l.length)(hl:l.length<=1000000000):OX h 1 (.d (.lst (ax l))) (some (A_ (a:Int))) none none=some (.d (.lst (ax (l.drop a)))):=by
 have e2:gJ (A_ (a:Int)) (ax l).length=some a:=by rw[Xs o_ (by rw[fJ];omega)];simp
 have e3:Nh 1 (ax l)=true:=by cases l<;>rfl
 simp only[OX,okSl,IY,lenOf,I4,Gp,e2,e3,sub];have e4:((ax l).drop a).take ((ax l).length-a)=ax (l.drop a):=by
  rw[bp (by rw[gb];exact ai _)];unfold ax;rw[List.map_drop]
 rw[e4]
def Pa {m:Nat}{xs:F_}:jB (share (al m xs))=share (al m xs):=by cases xs<;>rfl
def auO (b:C_)(hb:b.length<=1000000000)(xs ys:F_)(q:Bool)(k:Int)(m:Nat)(hm:m<=b.length)(N:Nat) :
  match (uN b m).bind λfl m=>if b.length-m<=7∧1∉b.drop m then R.ok fl m else .er 7 with
  |.ok fl p=>∃s,(Dn prog).code PQ (V9 b [al 9 xs,B_ q,A_ k,al 1 ys,.nl] (m,0) N)=some (.ret,⟨[(4,.ptr 1 0),(5,A_ 0)],⟨[(1,.cells [share (al 9 xs),B_ q,A_ k,share (al 1 ys),share (al 1 (ax fl))]),(2,.cells (aX b s))],N⟩⟩)
  |.er e=>∃s,(Dn prog).code PQ (V9 b [al 9 xs,B_ q,A_ k,al 1 ys,.nl] (m,0) N)=some (.ret,⟨[(4,.ptr 1 0),(5,A_ ((e+1:Nat):Int))],⟨[(1,.cells zF),(2,.cells (aX b s))],N⟩⟩):=by
 obtain⟨w,x,s,h1,h2⟩:=akD (ax1 [al 9 xs,B_ q,A_ k,al 1 ys,.nl]) b hb m hm N;have c0:((0:Nat):Int)=0:=rfl;have hbl:=fJ (l:=b);obtain⟨a,e⟩:=s;unfold HG at h1;simp only[V9,aX,c0,PQ]at h1⊢
 cases hf:uN b m with
 |er e0 =>
  rw[hf]at h2;rw[aQ];have he:e=e0+1:=h2;subst he;have ce:((e0+1:Nat):Int)=(e0:Int)+1:=rfl;have e1:¬((e0:Int)+1=0):=o_;refine⟨(a,e0+1),?_⟩;simp only[ce]at h1⊢;generalize ax w=W at *;simp(maxSteps:=9^6)(disch:=omega)[↓ac,↓aa,-bB,IM,Pa,Fi,h1,e1]
 |ok fl p =>
  rw[hf]at h2;obtain⟨h3,h4⟩:=h2;simp only[aM]at h4;obtain⟨h4,h5⟩:=h4;subst h3 h4 h5;have hp:a<=b.length:=by have:=(V7 hm).1 hf;exact(db this.2).2.1
  have hC:=amD (b.drop a) (by rw[gb];omega);have hS:=λh=>arV (h:=h) hp hb
  rw[ao];simp only[c0]at h1⊢;have ez:zF=[.nl,B_ false,A_ 0,.nl,.nl]:=rfl;by_cases k1:b.length-a<=7
  .by_cases k2:1∈b.drop a
   .rw[aa (λh=>h.2 k2)];rw[dT_ k2]at hC;refine⟨(a,0),?_⟩;generalize ax (b.drop a)=D at *;generalize ax b=B at *;generalize ax w=W at *;simp(maxSteps:=9^6)(disch:=omega)[↓ac,↓aa,-bB,IM,Pa,Fi,h1,hC,hS,hbl]
   .rw[ac ⟨k1,k2⟩];rw[dF_ k2]at hC;refine⟨(a,0),?_⟩;generalize ax (b.drop a)=D at *;generalize ax b=B at *;generalize ax w=W at *;simp(maxSteps:=9^6)(disch:=omega)[↓ac,↓aa,-bB,IM,Pa,Fi,h1,hC,hS,hbl]
  .rw[aa (λh=>k1 h.1)];refine⟨(a,0),?_⟩;generalize ax (b.drop a)=D at *;generalize ax b=B at *;generalize ax w=W at *;simp(maxSteps:=9^6)(disch:=omega)[↓ac,↓aa,-bB,IM,Pa,Fi,h1,hC,hS,hbl]
def Xb:Wp.Fit:=⟨d_,d_,d_,d_,s_⟩
def aog {b:C_}{r:Nat}(hr:r<=11){q:Bool}{a m:Nat}{h:aG×Nat×T_}(ha:a<=b.length)(e:Iz b r q a=.ok h m) :
  (q=false∧h=(Wp,0,[])∧m=a)∨(q=true∧h.1.may r∧h.1.Fit∧h.2.1<3∧(if h.2.1=1 then h.2.2.length=h.1.groups.length∧∀l∈h.2.2,(l.length:Int)=h.1.max else h.2.2=[])∧At b a m (N2 h.1++bh h.2.1 2++KK h.2.2.flatten)):=by
 unfold Iz at e
 cases q with
 |false =>
  rw[aa s_]at e;injection e with h1 h2
  exact .inl ⟨rfl,h1.symm,h2.symm⟩
 |true =>
  rw[ac rfl]at e;obtain⟨i,n1,e1,e⟩:=aH.1 e;obtain⟨k,n2,e2,e⟩:=aH.1 e;obtain⟨i1,f1⟩:=(Yl hr).1 e1;obtain⟨k1,f2⟩:=gb2.1 e2;have p1:=xI hr e1;by_cases hk:¬k<3
  .rw[ac hk]at e;exact absurd e (by simp)
  rw[aa hk]at e;obtain⟨l,n3,e3,e⟩:=aH.1 e;injection e with h1 h2
  subst h1 h2;refine .inr ⟨rfl,i1,MR hr p1.1 p1.2.2,by simp only[];omega,?_,?_⟩
  .by_cases h1:k=1
   .simp only[ac h1]at e3⊢;obtain⟨g1,g2,g3⟩:=(Kx (db f2).2.1).1 e3;have:=mW (iY hr i1);exact⟨g1,λx hx=>by rw[g2 x hx];omega⟩
   .simp only[aa h1]at e3⊢;injection e3 with g1 g2
    exact g1.symm
  .refine bc.2 ⟨n2,bc.2 ⟨n1,f1,f2⟩,?_⟩;by_cases h1:k=1
   .simp only[ac h1]at e3;exact((Kx (db f2).2.1).1 e3).2.2
   .simp only[aa h1]at e3;injection e3 with g1 g2
    subst g1 g2;exact ek.2 ⟨rfl,(db f2).2.1⟩
def asc {b:C_}(hb:b.length<=1000000000){r:Nat}(hr:r<=11){n:Int}(hn:n=1∨n=2){f:ki}{m:Nat}(e:WZ b r n=.ok f m):f.Fit∧axN r n f∧At b 0 m (alo r n f):=by
 unfold WZ at e;obtain⟨x,a1,e1,e⟩:=aH.1 e;obtain⟨x1,f1⟩:=gb3.1 e1;by_cases hx:(x:Int)≠n-1
 .rw[ac hx]at e;exact absurd e (by simp)
 rw[aa hx]at e;obtain⟨y,a2,e2,e⟩:=aH.1 e;obtain⟨y1,f2⟩:=gb4.1 e2;by_cases hy:y≠0
 .rw[ac hy]at e;exact absurd e (by simp)
 rw[aa hy]at e;obtain rfl:y=0:=o_;obtain⟨qv,a3,e3,e⟩:=aH.1 e;obtain⟨h,a4,e4,e⟩:=aH.1 e;obtain⟨cs,a5,e5,e⟩:=aH.1 e;obtain⟨fl,a6,e6,e⟩:=aH.1 e;injection e with g1 g2;subst g1 g2;have f3:qv<=1∧(qv=1->n=2)∧At b a2 a3 (if n=2 then bh qv 1 else []):=by
  by_cases h2:n=2
  .rw[ac h2]at e3⊢;obtain⟨q1,q2⟩:=gb1.1 e3;exact⟨o_,λ_=>h2,q2⟩
  .rw[aa h2]at e3⊢;injection e3 with q1 q2
   subst q1 q2;exact⟨o_,λh=>absurd h o_,ek.2 ⟨rfl,(db f2).2.1⟩⟩
 obtain⟨q1,q2,f3⟩:=f3;have f4:=aog hr (db f3).2.1 e4;obtain⟨i,k,bd⟩:=h;have hi:i.Fit:=by
  rcases f4 with ⟨_,h,_⟩|⟨_,_,h,_⟩
  .injection h with h _;rw[h];exact Xb
  .exact h
 have ha4:a4<=b.length:=by
  rcases f4 with ⟨_,_,h⟩|⟨_,_,_,_,_,h⟩
  .rw[h];exact(db f3).2.1
  .exact(db h).2.1
 obtain⟨c1,c2,f5⟩:=YQ hb hr hi ha4 e5;obtain⟨⟨l1,l2⟩,f6⟩:=(V7 (db f5).2.1).1 e6;have hmx:decide (qv=1)=true->i.max<=40∧i.groups.length<=8:=λhq=>by
  rcases f4 with ⟨h,_⟩|⟨_,h,_⟩
  .rw[hq]at h;exact absurd h (by simp)
  .have h:i.may r:=h;have hm:=iY hr h;have:=mW hm;obtain⟨p1,p2⟩:=eR hm;have hmm:=km i;have:=kU (λn hn=>(p1 n hn).1);exact⟨o_,o_⟩
 have hbd:bd.length<=1000∧∀l∈bd,l.length<=1000:=by
  rcases f4 with ⟨_,h,_⟩|⟨hq,_,_,_,h,_⟩
  .injection h with _ h;injection h with _ h;rw[h];simp
  .simp only at h;have:=hmx hq;split at h
   .exact⟨o_,λl hl=>by have:=h.2 l hl;omega⟩
   .rw[h];simp
 refine⟨⟨⟨by simp only[];omega,λc hc=>(c2 c hc).1⟩,?_,hbd,by simp only[];omega,l2⟩,⟨by simp only[];omega,l1,?_,λc hc=>(c2 c hc).2.1,?_⟩,?_⟩
 .rcases f4 with ⟨_,h,_⟩|⟨_,_,_,h,_,_⟩
  .injection h with _ h;injection h with h _;subst h;simp only[];omega
  .simp only at h⊢;omega
 .rcases f4 with ⟨_,h,_⟩|⟨_,_,_,h,_,_⟩
  .injection h with _ h;injection h with h _;subst h;simp only[];omega
  .simp only at h⊢;omega
 .cases cs with
  |nil=>simp at c1;omega
  |cons c t =>
   simp only[awg];rcases f4 with ⟨hq,h,_⟩|⟨hq,_,_,_,h,_⟩
   .injection h with _ h
    injection h with h1 h2
    rw[hq,aa s_];exact⟨by rw[h1];rfl,h2⟩
   .have h2:=q2 (by simpa using hq);rw[hq,ac rfl];have ec:=(c2 c (.head _)).2.2 hq;refine⟨?_,?_⟩
    .cases t with
     |nil=>simp at c1;omega
     |cons d u =>
      refine⟨d,rfl,?_⟩;rw[ec,(c2 d (.tail _ (.head _))).2.2 hq];exact⟨⟨rfl,rfl⟩,rfl,rfl⟩
    .rw[ec];simp only at h;by_cases h1:k=1
     .rw[ac h1]at h;rw[ac o_];exact h
     .rw[aa h1]at h;rw[aa o_];exact h
 .refine bc.1 f6 |>.elim λa7 hf=>bc.2 ⟨a7,bc.2 ⟨a5,bc.2 ⟨a4,?_,f5⟩,hf.1⟩,hf.2⟩
  unfold amk;rcases hn with rfl|rfl
  .have hq0:qv=0:=by
    have:qv≠1:=λh=>by have:=q2 h;omega
    omega
   subst hq0;obtain rfl:x=0:=o_;rw[ac rfl];rw[aa o_]at f3;rcases f4 with ⟨_,_,h⟩|⟨h,_⟩
   .rw[h,(ek.1 f3).1];exact bc.2 ⟨a1,f1,f2⟩
   .exact absurd h (by decide)
  .obtain rfl:x=1:=o_;rw[aa o_];rw[ac rfl]at f3;rcases f4 with ⟨hq,_,h⟩|⟨hq,_,_,_,_,h⟩
   .have hq0:qv=0:=by
     have:qv≠1:=by simpa using hq
     omega
    subst hq0;rw[aa s_,h];exact bc.2 ⟨a2,bc.2 ⟨a1,f1,f2⟩,f3⟩
   .have hq1:qv=1:=by simpa using hq
    subst hq1;rw[ac s_];obtain⟨b1,h,hb3⟩:=bc.1 h;obtain⟨b2,hb1,hb2⟩:=bc.1 h;have hih:alw ⟨cs,decide (1=1),(k:Int),bd,fl⟩=N2 i:=by
     unfold alw
     cases cs with
     |nil=>simp at c1
     |cons c t=>simp only[(c2 c (.head _)).2.2 rfl]
    rw[hih];simp only[au]at hb2⊢;exact bc.2 ⟨b1,bc.2 ⟨b2,bc.2 ⟨a3,bc.2 ⟨a2,bc.2 ⟨a1,f1,f2⟩,f3⟩,hb1⟩,hb2⟩,hb3⟩
def Ay (b:C_)(r:Nat)(n:Int):R ki:=(WZ b r n).bind λf m=>if b.length-m<=7∧1∉b.drop m then .ok f m else .er 7
abbrev ki.ow (f:ki):D_:=[share (al 9 (dG f.chans)),B_ f.common,A_ f.mask,share (al 1 (cx f.bands)),share (al 1 (ax f.fill))]
def Cv {α β γ:Type}{x:R α}{f:α->Nat->R β}{g:β->Nat->R γ}:(x.bind f).bind g=x.bind λv n=>(f v n).bind g:=by cases x<;>rfl
abbrev as9:VC:=(.seq yL (.seq za (.seq yQ (.block 1 (.seq (.loop fK) (K [104,105]))))))
abbrev Xu:VC:=(.seq (.seq wo (K [41])) (.seq BI (.seq BL (.seq (.seq tw (.cond (.m 49) tQ .skip)) (.seq (.seq mh (.cond (.m 62) (aaF as9) .skip)) (.seq VV PQ))))))
def T8 (b:C_)(C:D_)(x:R ki):Prop :=
 match x with
 |.ok f m=>∃s N,(Dn prog).code Xu ⟨[(2,.ptr 0 0),(4,.ptr 1 0),(6,.ptr 2 0)],⟨hp3 C zF (aX b (0,0)),3⟩⟩=some (.ret,⟨[(4,.ptr 1 0),(5,A_ 0)],⟨[(1,.cells f.ow),(2,.cells (aX b s))],N⟩⟩)
 |.er e=>∃s N,(Dn prog).code Xu ⟨[(2,.ptr 0 0),(4,.ptr 1 0),(6,.ptr 2 0)],⟨hp3 C zF (aX b (0,0)),3⟩⟩=some (.ret,⟨[(4,.ptr 1 0),(5,A_ ((e+1:Nat):Int))],⟨[(1,.cells zF),(2,.cells (aX b s))],N⟩⟩)
section
variable (b:C_)(hb:b.length<=1000000000)(r:Nat)(hr:r<=11)
include hb hr
theorem acf (n:Nat)(hn:n=1∨n=2)(q:Bool)(i:aG)(hi:i.Fit)(I iv:D_)(hI:RY q i I iv)(c2 c3:AV)(k:Int)(t:T_)(a:Nat)(ha:a<=b.length)(N:Nat)(hN:4<=N) :
  match (iU b r q i n a).bind λcs m=>(uN b m).bind λfl m=>if b.length-m<=7∧1∉b.drop m then R.ok (⟨cs,q,k,t,fl⟩:ki) m else .er 7 with
  |.ok f m=>∃s M,(Dn prog).code (.seq VV PQ) ⟨JF,⟨fR [A_ r,A_ n,c2,c3] [.nl,B_ q,A_ k,al 1 (cx t),.nl] I [] (aX b (a,0)),N⟩⟩=some (.ret,⟨[(4,.ptr 1 0),(5,A_ 0)],⟨[(1,.cells f.ow),(2,.cells (aX b s))],M⟩⟩)
  |.er e=>∃s M,(Dn prog).code (.seq VV PQ) ⟨JF,⟨fR [A_ r,A_ n,c2,c3] [.nl,B_ q,A_ k,al 1 (cx t),.nl] I [] (aX b (a,0)),N⟩⟩=some (.ret,⟨[(4,.ptr 1 0),(5,A_ ((e+1:Nat):Int))],⟨[(1,.cells zF),(2,.cells (aX b s))],M⟩⟩):=by
 have e0:al 9 (dG [])=.nl:=rfl;have h:=amH b hb r hr q i hi I iv hI (A_ n) c2 c3 (A_ k) (al 1 (cx t)) .nl n o_ n 0 a [] N o_ rfl ha hN;rw[e0]at h
 cases e:iU b r q i n a with
 |er e1 =>
  rw[e]at h;obtain⟨s,M,h1,h2⟩:=h;rw[aQ];refine⟨s,M,?_⟩;rw[ahq [] _ _ _ _ _ _ _ _ _ _ _ h2,<-h1]
 |ok cs m =>
  rw[e]at h;obtain⟨hm,M,h1,h2⟩:=h;rw[ao];have h5:=auO b hb (dG ([]++cs)) (cx t) q k m hm M
  cases e2:uN b m with
  |er e3 =>
   rw[e2,aQ]at h5;obtain⟨s,h5⟩:=h5;rw[aQ];exact⟨s,M,by rw[ZS [] _ _ _ _ _ _ _ _ _ _ _ _ h2,h5]⟩
  |ok fl p =>
   rw[e2,ao]at h5;rw[ao];by_cases hc:b.length-p<=7∧1∉b.drop p
   .rw[ac hc]at h5⊢;obtain⟨s,h5⟩:=h5;exact⟨s,M,by rw[ZS [] _ _ _ _ _ _ _ _ _ _ _ _ h2,h5];rfl⟩
   .rw[aa hc]at h5⊢;obtain⟨s,h5⟩:=h5;exact⟨s,M,by rw[ZS [] _ _ _ _ _ _ _ _ _ _ _ _ h2,h5]⟩
theorem KN (n:Nat)(hn:n=1∨n=2)(I:D_)(f0 f1 f2 f3 f4:AV)(c0 c2 c3:AV)(s:Nat×Nat)(hs:s.2≠0)(N:Nat) :
  (Dn prog).code (.seq VV PQ) ⟨JF,⟨fR [c0,A_ n,c2,c3] [f0,f1,f2,f3,f4] I [] (aX b s),N⟩⟩=agw b s N :=
 ahq [] _ _ _ _ _ _ _ _ _ _ _ (afZ b _ _ _ _ _ _ _ s hs n 0 o_ N) _
theorem apt (n:Nat)(hn:n=1∨n=2)(c2 c3:AV)(hd:(Id b n).2≠0)(e:Nat)(he:(Id b n).2=e+1):T8 b [A_ r,A_ n,c2,c3] (.er e):=by
 refine⟨Id b n,4,?_⟩;rw[aj6 b hb (A_ r) c2 c3 n o_];have hs:=apb b hb (n:=(n:Int));generalize Id b n=s at *;rw[<-he];rcases hn with rfl|rfl
 .rw[show((1:Nat):Int)=1 from rfl,ag5 b hb,show(zF:D_)=[.nl,B_ false,A_ 0,.nl,.nl] from rfl,Oj _ _ _ _ (.inl rfl)];exact KN b hb r hr 1 (.inl rfl) _ _ _ _ _ _ _ _ _ s hd 4
 .rw[show((2:Nat):Int)=2 from rfl,af5 b hb _ _ _ s hs,lZ hd,Oj _ _ _ _ (.inr hd)];exact KN b hb r hr 2 (.inr rfl) _ _ _ _ _ _ _ _ _ s hd 4
theorem ajA (n:Nat)(hn:n=1∨n=2)(c2 c3:AV)(a:Nat)(ha:a<=b.length)(x:R ki)
  (hx:x=(iU b r false Wp n a).bind λcs m=>(uN b m).bind λfl m=>if b.length-m<=7∧1∉b.drop m then R.ok (⟨cs,false,0,[],fl⟩:ki) m else .er 7)
  (h:(Dn prog).code Xu ⟨[(2,.ptr 0 0),(4,.ptr 1 0),(6,.ptr 2 0)],⟨hp3 [A_ r,A_ n,c2,c3] zF (aX b (0,0)),3⟩⟩=(Dn prog).code (.seq (.seq mh (.cond (.m 62) (aaF as9) .skip)) (.seq VV PQ)) ⟨JF,⟨fR [A_ r,A_ n,c2,c3] [.nl,B_ false,A_ 0,.nl,.nl] zI [] (aX b (a,0)),4⟩⟩):T8 b [A_ r,A_ n,c2,c3] x:=by
 rw[Oj _ _ _ _ (.inl rfl)]at h;have ht:=acf b hb r hr n hn false Wp Xb zI zI (.inr ⟨rfl,rfl,rfl⟩) c2 c3 0 [] a ha 4 o_;rw[<-hx,show al 1 (cx [])=.nl from rfl]at ht;unfold T8;rw[h];exact ht
theorem aoT (n:Nat)(hn:n=1∨n=2)(c2 c3:AV):T8 b [A_ r,A_ n,c2,c3] (Ay b r n):=by
 have hP1:=λT=>aj6 b hb (A_ r) c2 c3 n o_ T
 have hdead:=apt b hb r hr n hn c2 c3;have hs2:Id b n=kT (gT b (xY b n) 4).2 (((gT b (xY b n) 4).1:Int)=0):=rfl;have hs1:xY b n=kT (gT b (0,0) 3).2 (((gT b (0,0) 3).1:Int)=n-1):=rfl;unfold Ay WZ
 cases e1:aE b (0:Nat) 3 with
 |er e =>
  rw[lx e1,fm (aB _)]at hs1;rw[hs1,lZ (aB _),fm (aB _)]at hs2;rw[aQ,aQ];exact hdead (by rw[hs2];exact aB _) e (by rw[hs2])
 |ok x m =>
 rw[ao];by_cases hx:(x:Int)≠n-1
 .rw[ef e1,xu hx]at hs1;rw[hs1,lZ s_,fm s_]at hs2;rw[ac hx,aQ];exact hdead (by rw[hs2];simp) 7 (by rw[hs2])
 rw[aa hx];rw[ef e1,qf (Classical.not_not.1 hx)]at hs1
 cases e2:aE b m 4 with
 |er e =>
  rw[hs1,lx e2,fm (aB _)]at hs2;rw[aQ,aQ];exact hdead (by rw[hs2];exact aB _) e (by rw[hs2])
 |ok y a =>
 rw[ao];by_cases hy:y≠0
 .rw[hs1,ef e2,xu w_]at hs2;rw[ac hy,aQ];exact hdead (by rw[hs2];simp) 7 (by rw[hs2])
 rw[aa hy];rw[hs1,ef e2,qf w_]at hs2;simp only at hs2;have ha:a<=b.length:=(cu e2).2;rw[hs2]at hP1;clear hs1 hs2 hdead e1 e2 hx hy;rcases hn with rfl|rfl
 .refine ajA b hb r hr 1 (.inl rfl) c2 c3 a ha _ ?_ ((hP1 _).trans (ag5 b hb _ _ _ _ _));rw[aa o_,ao];simp only[Iz];rw[show decide ((0:Nat)=1)=false from rfl,aa s_,ao];simp only[Cv,ao];rfl
 .have hP:=λT=>(hP1 _).trans (af5 b hb (A_ r) c2 c3 (a,0) ha T)
  clear hP1;rw[ac o_]
  cases e3:aE b a 1 with
  |er e =>
   rw[lx e3]at hP;rw[aQ,aQ];refine⟨(a,e+1),4,?_⟩;refine(hP _).trans ?_;rw[Oj _ _ _ _ (.inr (aB _))];exact KN b hb r hr 2 (.inr rfl) _ _ _ _ _ _ _ _ _ _ (aB _) 4
  |ok x m =>
  have hm:m<=b.length:=(cu e3).2;rw[ef e3]at hP;rw[ao];simp only at hP;by_cases hx:x=1
  rotate_left
  .rw[dF_ hx]at hP⊢;refine ajA b hb r hr 2 (.inr rfl) c2 c3 m hm _ ?_ (hP _);simp only[Iz];rw[aa s_,ao];simp only[Cv,ao];rfl
  rw[dT_ hx]at hP⊢;simp only[Iz];rw[ac trivial]
  cases e4:fW b m r with
  |er e =>
   rw[aQ,aQ,aQ];exact⟨(0,e+1),4,(hP _).trans (arH b hb r hr _ c2 c3 m e hm e4 _ _)⟩
  |ok i m2 =>
  have p:=xI hr e4;have hi:i.Fit:=MR hr p.1 p.2.2;have hmx:=mW (iY hr p.1);have him:((i.max.toNat:Nat):Int)=i.max:=o_;have hgl:=hi.len;rw[ao];have hs5:(kT (gT b (m2,0) 2).2 (((gT b (m2,0) 2).1:Int)<3)).1<=b.length:=yE (jU p.2.1);obtain⟨w,s6,M,hM,h6,hw,hd,hL⟩:=apa b hb [A_ r,A_ 2,c2,c3] .nl (B_ true) .nl (.d (.int .u8 i.seq)) (.d (.int .u8 i.shape)) (.own false 1 (am i.groups)) i.max.toNat o_ i.groups.length hgl (gT b (m2,0) 2).1 (kT (gT b (m2,0) 2).2 (((gT b (m2,0) 2).1:Int)<3)) hs5 4 o_;rw[him]at hL;have hrun:=(hP _).trans (aqC b hb r hr _ c2 c3 m hm i m2 e4 w s6 M hL (.seq VV PQ));have dead:∀e,s6.2=e+1->T8 b [A_ r,A_ 2,c2,c3] (.er e):=λe he=>by
   refine⟨s6,M,hrun.trans ?_⟩;rw[<-he];exact KN b hb r hr 2 (.inr rfl) _ _ _ _ _ _ _ _ _ _ o_ M
  cases e5:aE b m2 2 with
  |er e =>
   rw[lx e5,fm (aB _)]at hd;rw[aQ,aQ,aQ];exact dead e (by rw[hd (aB _)])
  |ok k m3 =>
  rw[ao];by_cases hk:¬k<3
  .rw[ef e5,xu w_]at hd;rw[ac hk,aQ,aQ];exact dead 7 (by rw[hd s_])
  rw[aa hk];rw[ef e5]at hw hrun;rw[qf w_]at hw;have hw:=hw rfl;simp only at hw hrun
  cases e6:(if k=1 then pE b i.max.toNat i.groups.length m3 else R.ok [] m3) with
  |er e =>
   rw[e6]at hw;rw[aQ,aQ,aQ];exact dead e hw
  |ok t m4 =>
   rw[e6]at hw;obtain⟨rfl,rfl⟩:=hw;have ht:=acf b hb r hr 2 (.inr rfl) true i hi _ i.cells (.inl ⟨rfl,rfl⟩) c2 c3 k w m4 h6 M hM;rw[ao,ao];simp only[Cv,ao];unfold T8;rw[show((2:Nat):Int)=2 from rfl]at ht⊢;have hrun:(Dn prog).code Xu ⟨[(2,.ptr 0 0),(4,.ptr 1 0),(6,.ptr 2 0)],⟨hp3 [A_ r,A_ 2,c2,c3] zF (aX b (0,0)),3⟩⟩=_:=hrun;rw[hrun];exact ht
end
def aqp {h:ak}{a b c:F_}{x:Bool}{y e:Int}:eY h (.tup [.agg [share (al 9 a),B_ x,A_ y,share (al 1 b),share (al 1 c)],A_ e])=some (.tup [.agg [share (al 9 a),B_ x,A_ y,share (al 1 b),share (al 1 c)],A_ e]):=by
 cases a<;>cases b<;>cases c<;>rfl
def anO {l:C_}:bin (gj l):=by
 intro x hx;obtain⟨n,_,hx⟩:=vz.1 hx;exact Th x hx
def arf (rt n:Int)(cb:Bool)(cz:Int)(X:AV)(l:C_)(hX:kW X (ax l))(hl:l.length<=100000)(hl2:∀x∈l,x<=255) :
  (vp rt n∧(l.length:Int)<=192*n∧bn prog yY [sP rt n cb cz,X]=match Ay (gj l) rt.toNat n with
   |.ok f m=>some (.tup [.agg f.ow,A_ 0])
   |.er e=>some (.tup [.agg zF,A_ ((e+1:Nat):Int)]))∨
  (¬(vp rt n∧(l.length:Int)<=192*n)∧∃e:Int,e≠0∧bn prog yY [sP rt n cb cz,X]=some (.tup [.agg zF,A_ e])):=by
 obtain⟨⟨x1,x2,x3⟩,x4,x5⟩:=hX.facts;obtain⟨vx,ux⟩:=hX.view;have hbl:=fJ (l:=l);rw[hbl]at x5;have hcf:=NX rt n cb cz;simp only[sP]at hcf⊢;rw[aL OH Pr rfl];rcases hcf with ⟨hc,ec⟩|⟨hc,ec⟩
 rotate_left
 .refine .inr ⟨λh=>hc h.1,2,d_,?_⟩;simp(maxSteps:=9^6)(disch:=omega)[↓ac,↓aa,-bB,x1,x2,x3,x4,x5,ec]
 by_cases hn:(l.length:Int)<=192*n
 rotate_left
 .refine .inr ⟨λh=>hn h.2,3,d_,?_⟩;have:=hc.2;simp(maxSteps:=9^6)(disch:=omega)[↓ac,↓aa,-bB,x1,x2,x3,x4,x5,ec]
 refine .inl ⟨hc,hn,?_⟩;obtain⟨R,rfl⟩:=ay hc.1.1;obtain⟨k,rfl⟩:=ay (show 0<=n by have:=hc.2;omega);have hR:R<=11:=by have:=hc.1.2;omega
 have hk:k=1∨k=2:=by have:=hc.2;omega
 have hu:=aiz l hl hl2 X hX;have ul:=PE (l:=l);have hM:=aoT (gj l) o_ R hR k hk (B_ cb) (A_ cz);rw[au];have c0:((0:Nat):Int)=0:=rfl;obtain⟨T,hT⟩:∃T,T=Xu:=⟨_,rfl⟩
 cases hG:Ay (gj l) R k with
 |ok f m =>
  rw[hG]at hM;obtain⟨s,N,hM⟩:=hM;simp only[hp3,aX,c0,<-hT]at hM⊢;generalize ax (gj l)=B at *;simp only[ki.ow]at hM⊢;generalize dG f.chans=A1 at *;generalize cx f.bands=A2 at *;generalize ax f.fill=A3 at *;simp(maxSteps:=9^6)(disch:=omega)[↓ac,↓aa,-bB,x1,x2,x3,x4,x5,vx,ux,ec,hu,hM,↓aqp]
 |er e =>
  rw[hG]at hM;obtain⟨s,N,hM⟩:=hM;simp only[hp3,aX,c0,<-hT]at hM⊢;generalize ax (gj l)=B at *;simp(maxSteps:=9^6)(disch:=omega)[↓ac,↓aa,-bB,x1,x2,x3,x4,x5,vx,ux,ec,hu,hM]
end Go.Vm
end
