import Derived.Laws.Append
import Derived.Laws.Tables
import Derived.Laws.BytesString
import Derived.Lib.BytesEntry
import Derived.RangeFuncLeaves
import Derived.Orders
import Derived.Test.YtlkdijocbcbcpaaGreatP0
set_option linter.unusedVariables false
set_option linter.unusedSimpArgs false
set_option linter.defProp false
set_option linter.unusedSectionVars false
noncomputable section
namespace Go.Vm
set_option maxHeartbeats 4000000
set_option maxRecDepth 100000
theorem k_ {p:Prop}(h:p:=by kernel_rfl):p:=h
section
variable {P:Program}{g:Gh}{w:World}{t:G_}{O:Nat->Nat}{st st':St}{a:AV}
def S.pull {st:St}(s:S P g w st t O){i:Nat}{v:AV}(hg:get st.env i=some v) :
  ∃Ov O',i<t.size∧RV g w v (t.getD i undef) Ov∧S P g w ⟨del st.env i,st.hs⟩ t O'∧∀b,Ov b+O' b<=O b:=by
 obtain⟨Oe,Oh,re,rh,ho⟩:=s.parts;obtain⟨O1,O2,⟨hlt,q⟩,r2,hs⟩:=RL.take re hg;have hle:∀b,O1 b+(O2 b+Oh b)<=O b:=λb=>by grind
 exact⟨O1,λb=>O2 b+Oh b,hlt,q,s.of_env r2 rh (s.se.del i) (λ_=>rfl) (λb=>by grind),hle⟩
def S.setSlot {e:aT}{hs:HS}{i:Nat}(he:cQ e)(s:S P g w ⟨del e i,hs⟩ t O){v:AV}{Ov:Nat->Nat}(hi:i<t.size)(r:RV g w v (t.getD i undef) Ov)
  (hle:∀b,Ov b+O b<=1)(hhi:∀b,Ov b≠0->b<w.heap.size):∃O',S P g w ⟨put e i v,hs⟩ t O'∧∀b,O' b<=Ov b+O b:=by
 obtain⟨Oe,Oh,re,rh,ho⟩:=s.parts;obtain⟨O3,r3,h3⟩:=RL.put he re (x:=v) (O1:=Ov) ⟨hi,r⟩;have hsum:∀b,O3 b+Oh b<=Ov b+O b:=λb=>by grind
 refine⟨λb=>O3 b+Oh b,⟨he.put _ _,s.sh,⟨O3,Oh,r3,rh,λ_=>rfl⟩,λb=>aP (hsum b) (hle b),λb hb=>?_,s.fresh,s.pmlt⟩,hsum⟩
 grind [hi]
def aw6 {i:Nat}(s:S P g w st t O)(h:YH i st=some (a,st')):Mr P g w t O st':=by
 unfold YH at h;split at h
 .rename_i v hg;obtain⟨_,rfl⟩:=h;obtain⟨Ov,O1,hi,rv,s1,l1⟩:=s.pull hg;obtain⟨g',Ov',O2,rv',s2,hx,l2⟩:=aka s1 rv;have hle:∀b,Ov' b+O2 b<=O b:=λb=>aP (l2 b) (l1 b)
  obtain⟨O3,s3,l3⟩:=S.setSlot (e:=st.env) s.se s2 hi rv' (λb=>aP (hle b) (s.le b)) (λb hb=>s.hi b e_);exact⟨g',O3,s3,hx.mono λb _ h=>by grind,λb=>aP (l3 b) (hle b)⟩
 simp_all
def JR:∀(offs:C_) {g:Gh}{O:Nat->Nat}{e:aT}{h:ak}{n:Nat},S P g w ⟨e,⟨h,n⟩⟩ t O->∀{cs:D_}{xs:M_}{Ov:Nat->Nat},
  RVs g w cs xs Ov->(∀b,Ov b+O b<=1)->
  ∃g' Ov' O',RVs g' w (xG offs cs h).1 xs Ov'∧S P g' w ⟨e,⟨(xG offs cs h).2,n⟩⟩ t O'∧bI g w g' w (λb=>Ov b≠0∨O b≠0)∧∀b,Ov' b+O' b<=Ov b+O b
 |[],g,O,e,h,n,s,cs,xs,Ov,rv,_=>⟨g,Ov,O,rv,s,.refl _ _ _,λ_=>ai _⟩
 |o::r,g,O,e,h,n,s,cs,xs,Ov,rv,hle=>by
  unfold xG;split
  .rename_i v hv;obtain⟨x,A1,A2,hx,r1,r2,hs⟩:=rv.pull hv;obtain⟨g1,A1',O1,r1',s1,hx1,l1⟩:=aka s r1;have r2':=RVs.ext hx1 _ _ _ r2 (λb hb hh=>by grind);have hj:(cs.set o .junk)[o]?=some .junk:=e_;obtain⟨y,B1,hy,_,_,rep⟩:=r2'.replace hj;rw[hx]at hy;simp only[ae]at hy;subst hy;obtain⟨B2,r3,h3⟩:=rep _ _ r1';rw[List.set_set]at r3;have hle1:∀b,B2 b+O1 b<=Ov b+O b:=λb=>by grind
   obtain⟨g2,Ov2,O2,r4,s4,hx2,l4⟩:=JR r s1 r3 (λb=>aP (hle1 b) (hle b));refine⟨g2,Ov2,O2,r4,s4,(hx1.mono λb _ hh=>.inr hh.2).trans hx2 λb _ hh=>?_,λb=>aP (l4 b) (hle1 b)⟩
   grind
  .exact JR r s rv hle
def avj {i:Nat}{offs:C_}(s:S P g w st t O)(h:ag0 i offs st=some (a,st')):Mr P g w t O st':=by
 unfold ag0 at h;split at h
 .rename_i cs hg;obtain⟨_,rfl⟩:=h;obtain⟨Ov,O1,hi,rv,s1,l1⟩:=s.pull hg;obtain⟨xs,hxs,rv⟩:=rv;obtain⟨g',Ov',O2,rv',s2,hx,l2⟩:=JR offs s1 rv (λb=>aP (l1 b) (s.le b));have hle:∀b,Ov' b+O2 b<=O b:=λb=>aP (l2 b) (l1 b)
  obtain⟨O3,s3,l3⟩:=S.setSlot (e:=st.env) (v:=.agg (xG offs cs st.hs.heap).1) s.se s2 hi (by grind [RV]) (λb=>aP (hle b) (s.le b))
   (λb hb=>s.hi b e_)
  exact⟨g',O3,s3,hx.mono λb _ h=>by grind,λb=>aP (l3 b) (hle b)⟩
 simp_all
end
section
variable {P:Program}{g:Gh}{w:World}{t:G_}{O:Nat->Nat}{st st':St}{a:AV}
def Tp {g:Gh}(s:S P g w st t O){v:AV}{x:Value}{Ov:Nat->Nat}(rv:RV g w v x Ov)(hle:∀b,Ov b+O b<=1) :
  ∃g',RV g' w (jB v) x Ov∧S P g' w st t O∧bI g w g' w (λb=>Ov b≠0):=by
 have triv:RV g w (jB v) x Ov->∃g',RV g' w (jB v) x Ov∧S P g' w st t O∧bI g w g' w (λb=>Ov b≠0):=λr=>⟨g,r,s,.refl _ _ _⟩
 cases v with
 |own p m xs =>
  cases p with
  |false=>exact triv rv
  |true =>
   rcases rv with h|⟨b,off,cap,c,el,rfl,hcap,hm,hl,hb,hsz,hrc,hpm,hp,rfl⟩
   .exact triv (by exact .inl h)
   .have hO:O b=0:=by grind [B8]
    refine⟨g.keep b λo=>off<=o∧o<off+xs.length*m,?_,s.keep hO hb _,(bI.keep g w b _).mono λy _ e=>by simp_all⟩;refine .inr ⟨b,off,cap,c,el,rfl,hcap,hm,hl,hb,hsz,hrc.ext (bI.keep g w b _) (.inl rfl),λo ho=>?_,λ_ j hj=>.inr ⟨rfl,o_,o_⟩,rfl⟩;rcases ho with h|h<;>simp_all
 |_=>exact triv rv
def R4 {f:AV->AV}(hf:∀{g:Gh}{O:Nat->Nat},S P g w st t O->∀{v:AV}{x:Value}{Ov:Nat->Nat},RV g w v x Ov->(∀b,Ov b+O b<=1)->
  ∃g',RV g' w (f v) x Ov∧S P g' w st t O∧bI g w g' w (λb=>Ov b≠0)):∀{vs:D_}{g:Gh}{O:Nat->Nat},S P g w st t O->∀{xs:M_}{Ov:Nat->Nat},
  RVs g w vs xs Ov->(∀b,Ov b+O b<=1)->∃g',RVs g' w (vs.map f) xs Ov∧S P g' w st t O∧bI g w g' w (λb=>Ov b≠0)
 |[],g,O,s,xs,Ov,rv,_=>⟨g,u_,s,.refl _ _ _⟩
 |v::vs,g,O,s,xs,Ov,rv,hle=>by
  obtain⟨x,ys,O1,O2,rfl,r1,r2,hs⟩:=rv;obtain⟨g1,q1,s1,hx1⟩:=hf s r1 (λb=>by grind);have r2':=RVs.ext hx1 _ _ _ r2 (λb hb hh=>by grind);obtain⟨g2,q2,s2,hx2⟩:=R4 hf s1 r2' (λb=>by grind);refine⟨g2,?_,s2,(hx1.mono λb _ h=>by simp_all).trans hx2 λb _ h=>by simp_all⟩;exact⟨x,ys,O1,O2,rfl,RV.ext hx2 _ _ _ q1 (λb hb hh=>by grind),q2,hs⟩
def act {g:Gh}{O:Nat->Nat}(s:S P g w st t O){v:AV}{x:Value}{Ov:Nat->Nat}(rv:RV g w v x Ov)(hle:∀b,Ov b+O b<=1) :
  ∃g',RV g' w (tf v) x Ov∧S P g' w st t O∧bI g w g' w (λb=>Ov b≠0):=by
 cases v with
 |agg cs =>
  obtain⟨xs,rfl,rv⟩:=rv
  simp_all [R4,Tp,tf,RV]
 |_=>exact Tp s rv hle
def afR {g:Gh}{O:Nat->Nat}(s:S P g w st t O){v:AV}{x:Value}{Ov:Nat->Nat}(rv:RV g w v x Ov)(hle:∀b,Ov b+O b<=1) :
  ∃g',RV g' w (firm v) x Ov∧S P g' w st t O∧bI g w g' w (λb=>Ov b≠0):=by
 cases v with
 |tup cs =>
  obtain⟨xs,rfl,rv⟩:=rv
  simp_all [R4,act,firm,RV]
 |_=>exact act s rv hle
end
section
variable {P:Program}{w:World}{t:G_}{st st':St}{a:AV}
def aej (P:Program)(g:Gh)(w:World)(t:G_)(O:Nat->Nat)(env:aT)(x:Value)(Ov:Nat->Nat)(r:AV×HS):Prop :=
 ∃g' Ov' O',RV g' w r.1 x Ov'∧S P g' w ⟨env,r.2⟩ t O'∧bI g w g' w (λ_=>False)∧∀b,Ov' b+O' b<=Ov b+O b
def bI.id (g:Gh)(w:World){id:Nat}(hn:g.obj id=none)(b base esz bsz:Nat):bI g w (g.add id b base esz bsz) w λ_=>False :=
 by grind [bI.add,bI.refl]
def ary {g:Gh}{O:Nat->Nat}{hs:HS}{env:aT}(s:S P g w ⟨env,hs⟩ t O){v:AV}{x:Value}{Ov:Nat->Nat}(rv:RV g w v x Ov)(hle:∀b,Ov b+O b<=1)
  (hhi:∀b,Ov b≠0->b<w.heap.size):aej P g w t O env x Ov (oO hs v):=by
 have triv:aej P g w t O env x Ov (v,hs):=⟨g,Ov,O,rv,s,.refl _ _ _,λ_=>ai _⟩
 cases v with
 |own p m xs =>
  cases p with
  |false=>exact triv
  |true =>
   unfold oO;simp only;split
   .exact triv
   .rename_i hm;have hm:m≠0:=by rintro rfl;simp at hm
    have hn:=s.fresh hs.next (ai _)
    have put1:∀(b base esz bsz:Nat) (ob:Obj) (O1:Nat->Nat),kh P (g.add hs.next b base esz bsz) w hs.next ob O1->(∀y,O1 y+O y<=1)->(∀y,O1 y≠0->y<w.heap.size)->
      ∃O',S P (g.add hs.next b base esz bsz) w ⟨env,⟨put hs.heap hs.next ob,hs.next+1⟩⟩ t O'∧∀y,O' y<=O1 y+O y:=by
     intro b base esz bsz ob O1 r h1 h2;have hx:=bI.id g w hn b base esz bsz;obtain⟨Oe,Oh,re,rh,ho⟩:=s.parts;have re':=kt.ext hx re s_;have rh':Ep P (g.add hs.next b base esz bsz) w hs.heap Oh:=rh.imp' λk v Q _ hQ q=>q.ext hx s_ (by simp)
     obtain⟨O2,r2,h3⟩:=RL.drop rh' hs.next;obtain⟨O3,r3,h4⟩:=RL.put s.sh r2 r;have hl:∀y,Oe y+O3 y<=O1 y+O y:=λy=>by grind
     refine⟨λy=>Oe y+O3 y,⟨s.se,s.sh.put _ _,⟨Oe,O3,re',r3,λ_=>rfl⟩,λy=>aP (hl y) (h1 y),λy hy=>?_,λi hi=>?_,s.pmlt⟩,hl⟩
     all_goals grind [S.hi,Gh.add,S.fresh]
    rcases rv with ⟨rfl,hz,⟨a,rfl⟩⟩|⟨b,off,cap,c,el,rfl,hcap,hm',hl,hb,hsz,hrc,hpm,hp,rfl⟩
    .obtain⟨O',s',hO'⟩:=put1 0 0 m 0 (.arr m []) zero (by
      simp only[kh];exact .inl ⟨trivial,by simp[Gh.add],by simp[Gh.add],o_,⟨0,by simp[Gh.add]⟩,λ_=>trivial⟩) (λy=>by simp_all) (λy h=>absurd rfl h)
     refine⟨_,zero,O',?_,s',bI.id g w hn _ _ _ _,λy=>by simp_all⟩
     grind [RV]
    .obtain⟨O',s',hO'⟩:=put1 b off m (off+cap*m) (.arr m xs) (one b) (by
      refine .inr ⟨b,c,el,by simp[Gh.add],by simp[Gh.add],hm',hb,by grind [Gh.add],?_,hl,by grind [Gh.add],λo ho=>?_,λ_=>rfl⟩
      .simp_all [Gh.add,cJ]
      .have:=(hpm o ho).1;simp_all) hle hhi
     refine⟨_,zero,O',?_,s',bI.id g w hn _ _ _ _,λy=>by simp_all⟩
     simp_all [RV,Gh.add]
 |_=>exact triv
end
section
variable {P:Program}{w:World}{t:G_}
def YP (P:Program)(w:World)(t:G_)(f:HS->AV->AV×HS):Prop :=
 ∀{g:Gh}{O:Nat->Nat}{hs:HS}{env:aT},S P g w ⟨env,hs⟩ t O->∀{v:AV}{x:Value}{Ov:Nat->Nat},RV g w v x Ov->(∀b,Ov b+O b<=1)->
  (∀b,Ov b≠0->b<w.heap.size)->aej P g w t O env x Ov (f hs v)
def ZK {f:HS->AV->AV×HS}(hf:YP P w t f){g:Gh}{O:Nat->Nat}{hs:HS}{env:aT}(s:S P g w ⟨env,hs⟩ t O){cs:D_}{xs:M_}{Ov:Nat->Nat}
  (rv:RVs g w cs xs Ov)(hle:∀b,Ov b+O b<=1)(hhi:∀b,Ov b≠0->b<w.heap.size){o:Nat}{v:AV}(hv:cs[o]?=some v) :
  ∃g' Ov' O',RVs g' w (cs.set o (f hs v).1) xs Ov'∧S P g' w ⟨env,(f hs v).2⟩ t O'∧bI g w g' w (λ_=>False)∧∀b,Ov' b+O' b<=Ov b+O b:=by
 obtain⟨x,A1,A2,hx,r1,r2,hs'⟩:=rv.pull hv;obtain⟨g1,A1',O1,r1',s1,hx1,l1⟩:=hf s r1 (λb=>by grind) (λb h=>hhi b e_);have r2':=RVs.ext hx1 _ _ _ r2 (by simp)
 grind [List.getElem?_set_self,RVs.replace,List.set_set]
def abX:YP P w t oO:=λs _ _ _ r h1 h2=>ary s r h1 h2
def Zm (o:Nat):YP P w t (λhs=>nE hs o):=by
 intro g O hs env s v x Ov rv hle hhi
 cases v with
 |agg cs =>
  obtain⟨xs,rfl,rv⟩:=rv;simp only[nE];split
  .rename_i v hv;obtain⟨g',Ov',O',r',s',hx,l'⟩:=ZK abX s rv hle hhi hv;exact⟨g',Ov',O',by grind [RV],s',hx,l'⟩
  .exact⟨g,Ov,O,by grind [RV],s,.refl _ _ _,λ_=>ai _⟩
 |_=>exact abX s rv hle hhi
def akG (p:Nat×Nat):YP P w t (λhs=>sf hs p):=by
 intro g O hs env s v x Ov rv hle hhi
 cases v with
 |tup cs =>
  obtain⟨xs,rfl,rv⟩:=rv;simp only[sf];split
  .rename_i v hv;obtain⟨g',Ov',O',r',s',hx,l'⟩:=ZK (Zm p.2) s rv hle hhi hv;exact⟨g',Ov',O',by grind [RV],s',hx,l'⟩
  .exact⟨g,Ov,O,by grind [RV],s,.refl _ _ _,λ_=>ai _⟩
 |_=>exact Zm p.2 s rv hle hhi
def L9:∀th:Q_,YP P w t (λhs v=>dO th v hs)
 |[]=>λs _ _ _ rv _ _=>⟨_,_,_,rv,s,.refl _ _ _,λ_=>ai _⟩
 |p::r=>by
  intro s v x Ov rv hle hhi;obtain⟨g1,Ov1,O1,r1,s1,hx1,l1⟩:=akG p s rv hle hhi;obtain⟨g2,Ov2,O2,r2,s2,hx2,l2⟩:=L9 r s1 r1 (λb=>aP (l1 b) (hle b)) (λb hb=>by
   grind [S.hi])
  exact⟨g2,Ov2,O2,r2,s2,hx1.trans hx2 (λ_ _ h=>h),λb=>aP (l2 b) (l1 b)⟩
end
abbrev gD:=@Array.getD_eq_getD_getElem?
abbrev ge:=@Array.getElem?_setIfInBounds
section
variable {P:Program}{g:Gh}{w:World}{t:G_}{O:Nat->Nat}
def S.setTmp {e:aT}{hs:HS}(s:S P g w ⟨e,hs⟩ t O){d:Nat}{v:AV}{x:Value}{Ov:Nat->Nat}(hd:d<t.size)(r:RV g w v x Ov)
  (hle:∀b,Ov b+O b<=1)(hhi:∀b,Ov b≠0->b<w.heap.size):∃O',S P g w ⟨put e d v,hs⟩ (t.setIfInBounds d x) O'∧∀b,O' b<=Ov b+O b:=by
 obtain⟨Oe,Oh,re,rh,ho⟩:=s.parts;obtain⟨O2,r2,h2⟩:=RL.drop re d;have r2':kt g w (del e d) (t.setIfInBounds d x) O2:=r2.imp' λk v' O1 hm _ q=>by
  have hk:=(ajL hm).2;refine⟨u_,?_⟩;have:(t.setIfInBounds d x).getD k undef=t.getD k undef:=by
   simp only[gD,ge]
   grind
  grind
 obtain⟨O3,r3,h3⟩:=RL.put s.se r2' (x:=v) (O1:=Ov) ⟨u_,by
  simp_all⟩
 have hl:∀b,O3 b+Oh b<=Ov b+O b:=λb=>by grind
 refine⟨λb=>O3 b+Oh b,⟨s.se.put _ _,s.sh,⟨O3,Oh,r3,rh,λ_=>rfl⟩,λb=>aP (hl b) (hle b),λb hb=>?_,s.fresh,s.pmlt⟩,hl⟩
 grind [hi]
end
abbrev kL:=@List.mem_iff_getElem
abbrev mz:=@Bool.true_eq_false
section
variable {P:Program}{g:Gh}{w:World}{t:G_}{O:Nat->Nat}{st st':St}{a:AV}{o:Oper}
def LI {m:Nat}{ys:F_}(h:gM m ys=true):∀e∈ys,e.length=m:=by
 induction ys<;>grind [gM,Nat.beq_eq]
def ST (ds:V_):(Lq ds).flatten=ds:=by
 induction ds<;>grind [Lq]
def af2 (ds:V_):∀e∈Lq ds,e.length=1:=by
 induction ds<;>grind [Lq]
structure DJ (g:Gh)(w:World)(m:Nat)(ys:F_)(a:Option Addr)(news:M_):Prop where
 nn:a=.none->ys.length=0
 len:news.length=ys.length*m
 rd:∀(j:Nat) (d:D),ys.flatten[j]?=some d->∃u,news[j]?=some u∧RD w g.pm d u
 one:∀u∈news,u.oneCell'=true
 cell:∀ad,a=some ad->∀(j:Nat) (u:Value),news[j]?=some u->w.cell? (ad.add j)=some u
def DJ.nil (g:Gh)(w:World)(m:Nat)(a:Option Addr):DJ g w m [] a [] :=
 ⟨λ_=>rfl,s_,λj d h=>by simp at h,λu h=>by simp at h,λad _ j u h=>by simp at h⟩
def DJ.of_cells {m:Nat}{ys:F_}(hl:∀e∈ys,e.length=m){b off:Nat}(r:jd w g.pm ys.flatten b off):∃news,DJ g w m ys (some ⟨b,off,.none⟩) news:=by
 obtain⟨xs,h1,h2,h3⟩:=r.vals;refine⟨xs,λh=>by simp at h,by grind [fQ],λj d hd=>?_,λu hu=>?_,λad e j u hj=>?_⟩
 .have hj:j<xs.length:=e_;exact⟨xs[j],s_,h3 j d _ hd s_⟩
 .obtain⟨j,hj,rfl⟩:=kL.1 hu;have hj':j<ys.flatten.length:=o_;exact(h3 j _ _ (co hj') (co hj)).one
 grind [lY]
def C0 {st:St}(s:S P g w st t O){v:AV}{ys:F_}{x:Value}{Ov:Nat->Nat}{m:Nat}(he:elems st.hs.heap v=some ys)(hl:∀e∈ys,e.length=m)
  (rv:RV g w v x Ov):∃a cap news,x=.slice a ys.length cap∧DJ g w m ys a news:=by
 by_cases hn:wY v=false
 .rcases (abu he hn rv).list with ⟨rfl,a,cap,rfl⟩|⟨b,off,m',cap,rfl,_,_,_,hc,_⟩
  .exact⟨a,cap,[],rfl,DJ.nil _ _ _ _⟩
  .obtain⟨news,h⟩:=DJ.of_cells hl hc
   grind
 .cases v<;>simp only[wY,not_true,mz,not_false_eq_true]at hn
  rename_i id off len;simp only[elems]at he;split at he
  .rename_i xs hx;split at he
   .rename_i hb;rw[bf]at hb;simp only[ae]at he;subst he;have hsl:(Vm.sub xs off len).length=len:=kz hb;rcases rv.1 with ⟨rfl,a,rfl⟩|⟨b,cap,hob,rfl,hlc,hcap⟩
    .exact⟨a,0,[],rfl,DJ.nil _ _ _ _⟩
    .obtain⟨Oe,Oh,re,rh,ho⟩:=s.parts;unfold objElems at hx;split at hx
     .rename_i m' zs hg;obtain⟨O1,q,_⟩:=RL.get rh hg;rcases q with ⟨rfl,_⟩|⟨b',c,el,g1,g2,g3,g4,g5,g6,g7,g8,g9,g10⟩
      .have h0:len=0:=u_;subst h0;exact⟨_,cap,[],rfl,DJ.nil _ _ _ _⟩
      .have hc:jd w g.pm (Vm.sub zs off len).flatten b (g.base id+off*g.esz id):=by
        simp_all [oN,jd.sub]
       simp_all [DJ.of_cells]
     .rename_i cs hg;split at hx
      .rename_i ds hds;obtain⟨O1,q,_⟩:=RL.get rh hg;obtain⟨b',c,el,O2,g1,g2,g3,g4,g5,g6,g7,g8⟩:=q;obtain⟨h1,h2,h3⟩:=OG hds g6;have hc:jd w g.pm (Vm.sub (Lq ds) off len).flatten b (g.base id+off*g.esz id):=by
        rw[oN (af2 ds),ST,g2,g3,b7];intro j d hj;obtain⟨hj,_⟩:=ajX hj
        grind [gZ]
       simp_all [DJ.of_cells]
      simp_all
     simp_all
   simp_all
  simp_all
def DJ.first {m:Nat}{ys:F_}{ad:Option Addr}{news:M_}(h:DJ g w m ys ad news){len cap n:Nat}(hn:n<=ys.length){w1:World}(hw:w1.heap=w.heap) :
  (Builtin.firstCells m n (.slice ad len cap)).run P w1=.ok (news.take (n*m)).toArray w1:=by
 cases ad with
 |none =>
  have:=h.nn rfl
  simp_all [Builtin.firstCells]
 |some ad =>
  have hl:(news.take (n*m)).length=n*m:=by
   grind [len,Nat.mul_le_mul_right]
  refine run_firstCells_some (P:=P) w1 m n ad len cap _ hl λj v hj=>?_
  have hj':news[j]?=some v:=by
   grind
  have:=h.cell ad rfl j v hj'
  grind [World.cell?]
end
abbrev aI:=@List.eq_nil_of_length_eq_zero
abbrev aN:=@List.length_append
structure Yn (P:Program)(w:World)(t1:TypeId)(x:Value)(e:TypeId)(m n:Nat)(news:M_):Prop where
 len:news.length=n*m
 one:∀u∈news,u.oneCell'=true
 src:((∃e',P.underlying t1=some (.slice e'))∧(∃a cap,x=.slice a n cap)∧∀w1:World,w1.heap=w.heap->(Builtin.firstCells m n x).run P w1=.ok news.toArray w1)∨
  ((∃k,P.underlying t1=some (.int k))∧(∃k,x=.int k (n:Int))∧∃i z,P.info? e=some i∧i.zero=some z∧z.cells.size=m∧news.toArray=Builtin.zeroCells z.cells n)
section
variable {P:Program}{w:World}{t0 t1 ty e:TypeId}{m n:Nat}{x:Value}{news:M_}
def wz {i:TypeInfo}{z:Value}(hi:P.info? e=some i)(hz:i.zero=some z):(zeroValue e).run P w=.ok z w:=by
 simp_all [zeroValue,typeInfo]
def aas {n b:Nat}(hn:n<=4294967296)(hb:b<=4096):n*b<=17592186044416:=aP (xL hn hb) (by decide)
def Ds (hu:P.underlying t0=some (.slice e)){i:TypeInfo}(hi:P.info? e=some i)(hs:i.size=m)(hm:0<m)(hby:i.bytes<=4096)(hn:n<=4294967296)
  (hx:Yn P w t1 x e m n news){base:Option Addr}{sLen sCap:Nat}(hroom:sLen+n<=sCap) :
  (Builtin.append_ #[t0,t1] ty #[.slice base sLen sCap,x]).run P w =
   match base with
   |some a=>((do storeCells (a.add (sLen*m)) news;pure (.slice (some a) (sLen+n) sCap):Sem Value)).run P w
   |none=>.ok (.slice none (sLen+n) sCap) w:=by
 have hlen:=hx.len;have hroom':sLen+n<=sCap:=hroom;rcases hx.src with ⟨⟨e',h1⟩,⟨ad,cap,rfl⟩,hf⟩|⟨⟨k,h1⟩,⟨kk,rfl⟩,i',z,hi',hz,hzs,hzc⟩
 .have hf':=hf w rfl
  cases base<;>simp[Builtin.append_,ba hu,ba h1,sizeOf,typeInfo,hi,hs,Builtin.lenOf,hroom',hf']
 .rw[hi]at hi';simp only[ae]at hi';subst hi';have hw1:=N3 hn;have hbytes:=aas hn hby;have hn0:¬(n:Int)<0:=o_;have hzv:=wz (P:=P) (w:=w) hi hz;have hbig':¬(281474976710656<(n:Int)*(i.bytes:Int)):=o_;by_cases hnm:n*m=0
  .have hnil:news=[]:=aI o_;subst hnil
   cases base<;>simp[Builtin.append_,ba hu,ba h1,sizeOf,typeInfo,hi,hs,asInt,asIntOf,hw1,hn0,hbig',hroom',hnm]
  .cases base<;>simp[Builtin.append_,ba hu,ba h1,sizeOf,typeInfo,hi,hs,asInt,asIntOf,hw1,hn0,hbig',hroom',hnm,hzv,<-hzc]
def WT (hu:P.underlying t0=some (.slice e)){i:TypeInfo}{z:Value}(hi:P.info? e=some i)(hz:i.zero=some z)(hzs:z.cells.size=m)(hs:i.size=m)(hm:0<m)
  (hby:i.bytes<=4096)(hn:n<=4294967296)(hx:Yn P w t1 x e m n news){base:Option Addr}{sLen sCap:Nat}{olds:M_}(hlo:olds.length=sLen*m)
  (hold:∀w1:World,w1.heap=w.heap->(Builtin.firstCells m sLen (.slice base sLen sCap)).run P w1=.ok olds.toArray w1)
  (hsum:sLen+n<=4294967296)(hg:sCap<sLen+n) :
  ∃cap' rest,(Builtin.append_ #[t0,t1] ty #[.slice base sLen sCap,x]).run P w =
    .ok (.slice (some ⟨w.heap.size,0,none⟩) (sLen+n) cap') (w.drew.alloc (.cells (olds++(news++rest)).toArray e))∧
   sLen+n<=cap'∧cap'*m<=(olds++(news++rest)).length:=by
 have hlen:=hx.len;have hng:¬(sLen+n<=sCap):=o_;have h63:¬(9223372036854775807<((sLen:Int)+(n:Int))):=o_;have hfit:Builtin.nextslicecap (sLen+n) sCap*i.bytes<=281474976710656:=growslice_fits hg (aP (aas hsum hby) d_);have h48:¬(281474976710656<Builtin.nextslicecap (sLen+n) sCap*i.bytes):=o_;have hcap:sLen+n<=grownCap w (sLen+n) sCap e:=by grind [grownCap,Question.cut]
 have hold':=hold w.drew rfl;have hzv:=λw1=>wz (P:=P) (w:=w1) hi hz
 refine⟨grownCap w (sLen+n) sCap e,(Builtin.zeroCells z.cells (grownCap w (sLen+n) sCap e-(sLen+n))).toList,?_,hcap,?_⟩
 .rcases hx.src with ⟨⟨e',h1⟩,⟨ad,cap,rfl⟩,hf⟩|⟨⟨k,h1⟩,⟨kk,rfl⟩,i',z',hi',hz',hzs',hzc⟩
  .have hf':=hf w.drew rfl;simp[Builtin.append_,ba hu,ba h1,sizeOf,typeInfo,hi,hs,hzv,Builtin.lenOf,hng,h63,h48,Question.forced,hf',hold',newRow,grownCap]
   congr 2
   simp_all
  .rw[hi]at hi';simp only[ae]at hi';subst hi';rw[hz]at hz';simp only[ae]at hz';have hw1:=N3 hn;have hbytes:=aas hn hby;have hbig':¬(281474976710656<(n:Int)*(i.bytes:Int)):=o_;have hn0:¬(n:Int)<0:=o_;by_cases hnm:n*m=0
   .simp[Builtin.append_,ba hu,ba h1,sizeOf,typeInfo,hi,hs,asInt,asIntOf,hw1,hn0,hbig',hnm,hzv,hng,h63,h48,Question.forced,hold',newRow,grownCap]
    congr 2
    simp_all
   .simp[Builtin.append_,ba hu,ba h1,sizeOf,typeInfo,hi,hs,asInt,asIntOf,hw1,hn0,hbig',hnm,hzv,hng,h63,h48,Question.forced,<-hzc,hold',newRow,grownCap]
    congr 2
    grind
 .have hz1:(Builtin.zeroCells z.cells (grownCap w (sLen+n) sCap e-(sLen+n))).toList.length=(grownCap w (sLen+n) sCap e-(sLen+n))*m:=by
   grind [Builtin.zeroCells]
  rw[aN,aN,hlo,hlen,hz1,<-dC,<-dC]
  grind
end
abbrev jW:=@Array.getElem?_toList
abbrev iR:=@Array.length_toList
abbrev qY:=@List.flatten_append
abbrev bD:=@Nat.lt_or_ge
abbrev dj:=@List.getElem?_append_left
abbrev dB:=@List.getElem?_append_right
abbrev lV:=@Nat.le_add_left
section
variable {P:Program}{g:Gh}{w:World}{t:G_}{O:Nat->Nat}{st st':St}{a:AV}{o:Oper}
def fH.mono {O2:Nat->Nat}{res:Result Next}(h:fH P g w t O st' a res)(hle:∀b,O b<=O2 b):fH P g w t O2 st' a res:=by
 obtain⟨x,w',g',Oa,O',k⟩:=h;exact⟨x,w',g',Oa,O',k.run,k.val,k.st,k.ext.mono (λb _ h=>by grind),k.le,λb hb=>aP (k.old b hb) (hle b),k.hi⟩
def vL (P:Program)(g:Gh)(w:World)(t:G_)(O Oa:Nat->Nat)(st':St)(r:AV)(res:Result Value):Prop :=
 ∃v w' g' Or O',res=.ok v w'∧RV g' w' r v Or∧S P g' w' st' t O'∧bI g w g' w' (λb=>Oa b≠0∨O b≠0)∧(∀b,Or b+O' b<=1)∧
  (∀b,b<w.heap.size->Or b+O' b<=Oa b+O b)∧∀b,Or b≠0->b<w'.heap.size
theorem vL.firm {Oa:Nat->Nat}{m:Nat}{xs:F_}{res:Result Value}(h:vL P g w t O Oa st' (.own true m xs) res):vL P g w t O Oa st' (.own false m xs) res:=by
 obtain⟨v,w',g',Or,O',h1,h2,h3,h4,h5,h6,h7⟩:=h;obtain⟨g2,r2,s2,x2⟩:=Tp h3 h2 h5;exact⟨v,w',g2,Or,O',h1,r2,s2,h4.trans x2 (λb hb h=>by grind),h5,h6,h7⟩
def bI.write {b pos:Nat}{c c':G_}{el:TypeId}{news:M_}(hb:w.heap[b]?=some (.cells c el (0,0)))(hp:∀o,g.pm b o->o<pos)
  (hc:c'.toList=aF c.toList pos news)(hsz:pos<=c.size):bI g w g (Vm.setBlk w b (.cells c' el (0,0))) λx=>x=b where
 obj _ _ h:=⟨h,rfl,rfl,rfl⟩
 pm b' o h:=⟨h,by
  by_cases e:b'=b
  .subst e;rw[gZ (eW (jH hb)),gZ hb,<-jW,hc,<-jW]
   grind [aF]
  grind [tu,iq]⟩
 blk b' _ h:=⟨iq h,λ_ h=>h⟩
 size:=s_
 lp b' rc h:=⟨rc,by grind [iq]⟩
 same:=⟨rfl,rfl,BP hb (by grind [gR]) (by grind [gR])⟩
def S.other {w':World}{b:Nat}{c:G_}{el:TypeId}(s:S P g w st t O)(hb:w.heap[b]?=some (.cells c el (0,0)))(hx:bI g w g w' λx=>x=b)(hO:O b=0) :
  S P g w' st t O:=by
 obtain⟨Oe,Oh,re,rh,ho⟩:=s.parts;have re':=kt.ext hx re (λy hy e=>by simp_all);have rh':Ep P g w' st.hs.heap Oh:=rh.imp' λk v Q _ hQ q=>q.ext hx (λy hy e=>by grind) (λy ds hd e=>by
  simp_all)
 exact⟨s.se,s.sh,⟨Oe,Oh,re',rh',ho⟩,s.le,λb hb=>aW (s.hi b hb) hx.size,s.fresh,λb o h=>aW (s.pmlt b o h) hx.size⟩
def Lo (g:Gh)(w:World)(ys:F_)(news:M_):Prop:=∀(j:Nat) (d:D),ys.flatten[j]?=some d->∃u,news[j]?=some u∧RD w g.pm d u
def ahB {b off m cap:Nat}{c c':G_}{el:TypeId}{news:M_}{xs ys:F_}(hb:w.heap[b]?=some (.cells c el (0,0)))
  (hx:bI g w g (Vm.setBlk w b (.cells c' el (0,0))) λx=>x=b)(hc:c'.toList=aF c.toList (off+xs.length*m) news)(hl:∀e∈xs,e.length=m)
  (hcap:off+cap*m<=c.size)(hroom:xs.length+ys.length<=cap)(hn:news.length=ys.length*m)(hrc:jd w g.pm xs.flatten b off)(hnew:Lo g w ys news) :
  jd (Vm.setBlk w b (.cells c' el (0,0))) g.pm (xs++ys).flatten b off:=by
 have hfl:=fQ hl;have hbound:(xs.length+ys.length)*m<=cap*m:=cJ _ hroom;rw[dC]at hbound;have hcl:c.toList.length=c.size:=iR;intro j d hj;rw[qY]at hj;rw[gZ (eW (jH hb)),<-jW,hc,kE o_];rcases bD j xs.flatten.length with h|h
 .rw[dj h]at hj;obtain⟨u,hu,hr⟩:=hrc j d hj
  grind [gZ,RD.ext]
 .rw[dB h]at hj;obtain⟨u,hu,hr⟩:=hnew _ d hj
  grind [RD.ext]
variable {t0 t1 ty e:TypeId}{m n:Nat}{x:Value}{news:M_}{xs ys:F_}{i:TypeInfo}{z:Value}
def W7 {Oa:Nat->Nat}(s:S P g w st t O)(hu:P.underlying t0=some (.slice e))(hi:P.info? e=some i)(hz:i.zero=some z)(hzs:z.cells.size=m)(hs:i.size=m)(hm:0<m)
  (hby:i.bytes<=4096)(hx:Yn P w t1 x e m ys.length news)(hnew:Lo g w ys news){base:Option Addr}{sCap:Nat}(hl:∀e∈xs,e.length=m)(hl2:∀e∈ys,e.length=m)
  {olds:M_}(hlo:olds.length=xs.length*m)(hod:Lo g w xs olds)(hold:∀w1:World,w1.heap=w.heap->(Builtin.firstCells m xs.length (.slice base xs.length sCap)).run P w1=.ok olds.toArray w1)
  (hsum:xs.length+ys.length<=4294967296)(hg:sCap<xs.length+ys.length) :
  vL P g w t O Oa st (.own true m (xs++ys)) ((Builtin.append_ #[t0,t1] ty #[.slice base xs.length sCap,x]).run P w):=by
 obtain⟨cap',rest,hrun,h1,h2⟩:=WT (P:=P) (ty:=ty) hu hi hz hzs hs hm hby (aP (lV _ _) hsum) hx hlo hold hsum hg;have hop:fH P g w t O st (.own true m (xs++ys)) (.ok (.value (.slice (some ⟨w.heap.size,0,none⟩) (xs++ys).length cap')) (w.drew.alloc (.cells (olds++(news++rest)).toArray e))):=by
  refine fH.list (w1:=w.drew) s s (λ_=>ai _) (bI.drew g w _) rfl rfl hm (λe he=>?_) u_ o_ λj d hj=>?_
  .grind
  .rw[qY]at hj;have hfl:=fQ hl;rcases bD j xs.flatten.length with h|h
   .rw[dj h]at hj;obtain⟨u,hu,hr⟩:=hod j d hj
    grind
   .rw[dB h]at hj;obtain⟨u,hu,hr⟩:=hnew _ d hj
    grind
 obtain⟨v,w',g',Or,O',k⟩:=hop;rcases k.run with hr|hr
 .exact⟨_,_,g',Or,O',u_,k.val,k.st,k.ext.mono (λb _ h=>.inr h),k.le,λb hb=>by grind [ayd.old],k.hi⟩
 simp_all
def arh (s:S P g w st t O)(hu:P.underlying t0=some (.slice e))(hi:P.info? e=some i)(hs:i.size=m)(hm:0<m)
  (hby:i.bytes<=4096)(hx:Yn P w t1 x e m ys.length news)(hnew:Lo g w ys news){b off cap:Nat}(hl:∀e∈xs,e.length=m)(hl2:∀e∈ys,e.length=m)
  {c:G_}{el:TypeId}(hb:w.heap[b]?=some (.cells c el (0,0)))(hcap:off+cap*m<=c.size)(hrc:jd w g.pm xs.flatten b off)(hO:O b=0)(hp:∀o,g.pm b o->o<off+xs.length*m)
  (hsum:ys.length<=4294967296)(hroom:xs.length+ys.length<=cap) :
  ∃v w',(Builtin.append_ #[t0,t1] ty #[.slice (some ⟨b,off,none⟩) xs.length cap,x]).run P w=.ok v w'∧S P g w' st t O∧bI g w g w' (λy=>y=b)∧w'.heap.size=w.heap.size∧
   ((∀o,¬g.pm b o)->RV g w' (.own true m (xs++ys)) v (one b))∧
   ∃g',bI g w g' w' (λy=>y=b)∧S P g' w' st t O∧RV g' w' (.own false m (xs++ys)) v (one b):=by
 have hbound:(xs.length+ys.length)*m<=cap*m:=cJ _ hroom;rw[dC]at hbound;have hn:=hx.len;obtain⟨c',h1,h2,h3⟩:=t8 (P:=P) (b:=b) (el:=el) news w c (off+xs.length*m) 0 hb hx.one o_;have hrun:=Ds (P:=P) (w:=w) (ty:=ty) hu hi hs hm hby hsum hx (base:=some ⟨b,off,none⟩) hroom;have hext:=bI.write hb hp h2 o_;have s':=s.other hb hext hO;have hcells:=ahB hb hext h2 hl hcap hroom hn hrc hnew;have hla:∀e∈xs++ys,e.length=m:=λe he=>by
  grind
 refine⟨.slice (some ⟨b,off,none⟩) (xs.length+ys.length) cap,_,?_,s',hext,s_,λhnp=>?_,?_⟩
 .grind [lY,Sem.run_bind,Result.andThen_ok,Sem.run_pure]
 .refine .inr ⟨b,off,cap,c',el,s_,u_,hm,hla,eW (jH hb),o_,hcells,λo ho=>absurd ho (hnp o),λh=>by simp at h,rfl⟩
 .have hb':(Vm.setBlk w b (.cells c' el (0,0))).heap[b]?=some (.cells c' el (0,0)):=eW (jH hb);refine⟨g.keep b λo=>off<=o∧o<off+(xs++ys).length*m,hext.trans (bI.keep g _ b _) (λ_ _ h=>h),s'.keep hO hb' _,?_⟩;simp only[RV,EP];refine .inr ⟨b,off,cap,c',el,s_,u_,hm,hla,hb',o_,hcells.ext (bI.keep g _ b _) (.inl rfl),λo ho=>⟨trivial,?_⟩,λ_ j hj=>.inr ⟨rfl,o_,o_⟩,rfl⟩;rcases ho with ho|⟨_,_,ho⟩<;>grind [Nat.add_mul]
end
abbrev vG:=@List.take_length
section
variable {P:Program}{g:Gh}{w:World}{t:G_}{O:Nat->Nat}{st st':St}{a:AV}{o:Oper}
variable {t0 t1 ty e:TypeId}{m n:Nat}{x:Value}{news:M_}{xs ys:F_}{i:TypeInfo}{z:Value}
def jd.olds {b off:Nat}(hl:∀e∈xs,e.length=m)(r:jd w g.pm xs.flatten b off)(len cap:Nat) :
  ∃olds:M_,olds.length=xs.length*m∧Lo g w xs olds∧∀w1:World,w1.heap=w.heap->(Builtin.firstCells m xs.length (.slice (some ⟨b,off,none⟩) len cap)).run P w1=.ok olds.toArray w1:=by
 obtain⟨news,h⟩:=DJ.of_cells hl r;refine⟨news,h.len,h.rd,λw1 hw=>?_⟩;have:=h.first (P:=P) (len:=len) (cap:=cap) (ai _) hw;rw[<-h.len,vG]at this;exact this
def wG (m:Nat)(a:Option Addr)(len cap:Nat)(w1:World):(Builtin.firstCells m 0 (.slice a len cap)).run P w1=.ok #[] w1:=by
 cases a with
 |none=>simp[Builtin.firstCells]
 |some a =>
  grind [run_firstCells_some]
def YS {Oa:Nat->Nat}{va r:AV}{x0:Value}{h':ak}(s:S P g w st t O)(ra:RV g w va x0 Oa)(hle:∀b,Oa b+O b<=1)(hhi:∀b,Oa b≠0->b<w.heap.size)
  (hu:P.underlying t0=some (.slice e))(hi:P.info? e=some i)(hz:i.zero=some z)(hzs:z.cells.size=m)(hs:i.size=m)(hm:0<m)
  (hby:i.bytes<=4096)(hx:Yn P w t1 x e m ys.length news)(hnew:Lo g w ys news)(hl2:∀e∈ys,e.length=m)(h:dR m st.hs.heap va ys=some (r,h')) :
  vL P g w t O Oa ⟨st.env,⟨h',st.hs.next⟩⟩ r ((Builtin.append_ #[t0,t1] ty #[x0,x]).run P w):=by
 unfold dR at h;split at h
 .simp at h
 .rename_i hy;rw[bf]at hy;have hy':ys.length<=4294967296:=hy;have empty:∀{st1:St}{O1:Nat->Nat},S P g w st1 t O1->(∀b,O1 b<=Oa b+O b)->∀ad:Option Addr,ys.length=0->∀r,RV g w r (.slice ad 0 0) zero->
    vL P g w t O Oa st1 r ((Builtin.append_ #[t0,t1] ty #[.slice ad 0 0,x]).run P w):=by
   intro st1 O1 s1 hO1 ad h0 r hr;have hnil:news=[]:=aI (by grind [Yn.len]);have hrun:=Ds (P:=P) (w:=w) (ty:=ty) hu hi hs hm hby hy' hx (base:=ad) (sLen:=0) (sCap:=0) o_;refine⟨.slice ad 0 0,w,g,zero,O1,?_,hr,s1,.refl _ _ _,λb=>by grind,λb _=>by simp_all,λb hb=>by simp at hb⟩;rw[hrun,hnil,h0]
   cases ad<;>simp[storeCells]
  have weak:∀{st1:St}{O1:Nat->Nat}{r:AV}{res:Result Value},(∀b,O1 b<=Oa b+O b)->vL P g w t O1 zero st1 r res->vL P g w t O Oa st1 r res:=by
   rintro st1 O1 r res hO1 ⟨v,w',g',Or,O',k1,k2,k3,k4,k5,k6,k7⟩
   exact⟨v,w',g',Or,O',k1,k2,k3,k4.mono (λb _ h=>by grind),k5,λb hb=>by grind,k7⟩
  have grows0:∀{st1:St}{O1:Nat->Nat},S P g w st1 t O1->(∀b,O1 b<=Oa b+O b)->∀ad:Option Addr,ys.length≠0->
    vL P g w t O Oa st1 (.own true m ys) ((Builtin.append_ #[t0,t1] ty #[.slice ad 0 0,x]).run P w):=by
   intro st1 O1 s1 hO1 ad h0;refine weak hO1 ?_;have:=W7 (Oa:=zero) (xs:=[]) (base:=ad) (sCap:=0) (olds:=[]) (ty:=ty) s1 hu hi hz hzs hs hm hby hx hnew (λe he=>by simp at he) hl2 (by simp)
    (λj d h=>by simp at h) (λw1 _=>wG m ad 0 0 w1) u_ (by omega)
   simp_all
  have block:∀{st1:St}{O1:Nat->Nat}{zs:F_}{b off cap:Nat}{c:G_}{el:TypeId},S P g w st1 t O1->(∀y,O1 y+one b y<=1)->(∀y,O1 y+one b y<=Oa y+O y)->(∀e∈zs,e.length=m)->
    w.heap[b]?=some (.cells c el (0,0))->off+cap*m<=c.size->jd w g.pm zs.flatten b off->(∀o,g.pm b o->o<off+zs.length*m)->zs.length+ys.length<=4294967296->
    ∀p:Bool,(p=true->∀o,¬g.pm b o)->
    vL P g w t O Oa st1 (.own p m (zs++ys)) ((Builtin.append_ #[t0,t1] ty #[.slice (some ⟨b,off,none⟩) zs.length cap,x]).run P w):=by
   intro st1 O1 zs b off cap c el s1 hO1 hO2 hlz hb hcap hrc hp hsum p hpp;have hOb:O1 b=0:=by grind [B8]
   by_cases hroom:zs.length+ys.length<=cap
   .obtain⟨v,w',k1,k2,k3,k4,k5,g',k6,k7,k8⟩:=arh (ty:=ty) s1 hu hi hs hm hby hx hnew hlz hl2 hb hcap hrc hOb hp hy' hroom;have hx1:∀{g1:Gh},bI g w g1 w' (λy=>y=b)->bI g w g1 w' (λy=>Oa y≠0∨O y≠0):=λh=>h.mono λy _ e=>by
     grind [B8]
    cases p with
    |true=>exact⟨v,w',g,one b,O1,k1,k5 (hpp rfl),k2,hx1 k3,λy=>by grind,λy _=>by grind,λy hy=>by grind [xT]⟩
    |false=>exact⟨v,w',g',one b,O1,k1,k8,k7,hx1 k6,λy=>by grind,λy _=>by grind,λy hy=>by grind [xT]⟩
   .obtain⟨olds,q1,q2,q3⟩:=jd.olds hlz hrc zs.length cap;have:=W7 (Oa:=zero) (base:=some ⟨b,off,none⟩) (sCap:=cap) (ty:=ty) s1 hu hi hz hzs hs hm hby hx hnew hlz hl2 q1 q2 q3 hsum o_;have h2:=weak (λy=>by grind) this
    cases p<;>grind [vL.firm]
  split at h
  .simp only[ae,aM]at h;obtain⟨rfl,rfl⟩:=h;simp only[RV]at ra;obtain⟨rfl,_⟩:=ra
   cases ys with
   |nil=>exact empty s (λb=>by omega) none rfl _ (by simp[RV])
   |cons y ys=>exact grows0 s (λb=>by omega) none (by simp)
  .rename_i p k zs;split at h
   .rename_i hk;simp only[af,aC,bf]at hk;obtain⟨rfl,hsum⟩:=hk;simp only[ae,aM]at h;obtain⟨rfl,rfl⟩:=h;simp only[RV]at ra;rcases ra with ⟨rfl,_,ad,rfl⟩|⟨b,off,cap,c,el,rfl,hcap,_,hlz,hb,hsz,hrc,hpm,hp,rfl⟩
    .by_cases h0:ys.length=0
     .have:ys=[]:=aI h0;subst this;exact empty s (λb=>by omega) ad rfl _ (by grind [RV,EP])
     .exact(grows0 s (λb=>by omega) ad h0).firm
    .exact block s (λy=>by grind) (λy=>by omega) hlz hb hsz hrc (λo ho=>(hpm o ho).2) hsum false (λh=>by simp at h)
   simp_all
  .rename_i id off len;split at h
   .rename_i k zs hg;split at h
    .rename_i hk;simp only[af,aC,bf]at hk;obtain⟨⟨rfl,hin⟩,hsum⟩:=hk;simp only[ae,aM]at h;obtain⟨rfl,rfl⟩:=h;simp only[RV]at ra;obtain⟨ra,hOa⟩:=ra;obtain⟨Oe,Oh,re,rh,ho⟩:=s.parts;obtain⟨O1,O2,q,r2,hsm⟩:=RL.take rh hg;have hle2:∀b,Oe b+O2 b<=O b:=λb=>by grind
     have s2:S P g w ⟨st.env,⟨del st.hs.heap id,st.hs.next⟩⟩ t (λb=>Oe b+O2 b) :=
      ⟨s.se,s.sh.del id,⟨Oe,O2,re,r2,λ_=>rfl⟩,λb=>aP (hle2 b) (s.le b),λb hb=>s.hi b e_,s.fresh,s.pmlt⟩
     have hsub:(Vm.sub zs off len).length=len:=kz hin;have emp:len=0->∀ad:Option Addr,vL P g w t O Oa ⟨st.env,⟨del st.hs.heap id,st.hs.next⟩⟩ (.own true k (Vm.sub zs off len++ys)) ((Builtin.append_ #[t0,t1] ty #[.slice ad 0 0,x]).run P w):=by
      grind [RV,EP]
     rcases ra with ⟨h0,ad,rfl⟩|⟨b,cap,hob,rfl,hlc,hcap⟩
     .simp_all
     .simp only[kh]at q;rcases q with ⟨rfl,g1,g2,g3,_⟩|⟨b',c,el,g1,g2,g3,g4,g5,g6,g7,g8,g9,g10⟩
      .have hc0:cap=0:=by
        grind [Nat.mul_eq_zero]
       simp_all
      .rw[g2,dC]at hcap;have:=block (zs:=Vm.sub zs off len) (off:=g.base id+off*k) (cap:=cap) s2 (λy=>by grind)
        (λy=>by grind) (IV g7 off len) g4 (by omega)
        (by simp_all [oN,jd.sub]) (λo h=>absurd h (g9 o)) (by rw[hsub];exact hsum) true (λ_=>g9)
       simp_all
    simp_all
   simp_all
  simp_all
end
abbrev bE:=@List.length_replicate
section
variable {P:Program}{g:Gh}{w:World}{t:G_}{O:Nat->Nat}{st st':St}{a:AV}{o:Oper}
def vL.op1 {O1 Oa:Nat->Nat}{r:AV}{res:Result Value}(h:vL P g w t O1 Oa st' r res)(hle:∀b,Oa b+O1 b<=O b){res':Result Next}
  (hr:∀v w',res=.ok v w'->res'=.ok (.value v) w'):fH P g w t O st' r res':=by
 obtain⟨v,w',g',Or,O',k1,k2,k3,k4,k5,k6,k7⟩:=h;exact⟨v,w',g',Or,O',.inl (hr v w' k1),k2,k3,k4.mono (λb _ h=>by grind),k5,λb hb=>by grind,k7⟩
def tj {ty:TypeId}{m:Nat}(h:nu P ty m=true):∃e i zv,P.underlying ty=some (.slice e)∧P.info? e=some i∧i.zero=some zv∧zv.cells.size=m:=by
 grind [nu,Nat.beq_eq]
def Pk {e:TypeId}{i:TypeInfo}{m:Nat}(h:xE P e m=true)(hi:P.info? e=some i):i.size=m:=by
 grind [xE,Nat.beq_eq]
def LA {e:TypeId}{i:TypeInfo}(hi:P.info? e=some i):P.bytesOf e=i.bytes:=by grind [Program.bytesOf]
def K9 {c:Call}(h:TV c=true):c.argTypes=#[um c,c.argTypes.getD 1 0]:=by
 simp only[TV,aC]at h;apply Array.ext
 .simp[h]
 .intro i h1 h2;have h1':i<2:=o_;have:i=0∨i=1:=o_;rcases this with rfl|rfl<;>simp[um,Array.getD,h]
def awT {m:Nat}{x y:Rd}(s:S P g w st t O)(h:Io m x y st=some (a,st'))(hc:bw P (.app m x y) o.op=true) :
  fH P g w t O st' a ((execOp (ev t) o).run P w):=by
 obtain⟨dst,op,ty,pos,aft,gd⟩:=o;simp only[bw]at hc;split at hc
 .rename_i c;simp only[af]at hc;obtain⟨⟨⟨⟨⟨h1,h2⟩,h3⟩,h4⟩,h5⟩,h6⟩:=hc;have hats:=K9 h2;obtain⟨callee,args,ats⟩:=c;have:=rT h1;obtain⟨x',y',e1,hx,hy⟩:=al3 h6;subst e1;obtain⟨va,vb,e,Oa,Ob,O',ra,rb,s',hl,hk⟩:=Tm s hx hy h;split at hk
  .rename_i ys hys;split at hk
   .rename_i hok;split at hk
    .rename_i r h' hap;obtain⟨rfl,rfl⟩:=hk;obtain⟨el,hu,hsz,hm,hby⟩:=iA h3;obtain⟨el',i,zv,hu',hi,hz,hzs⟩:=tj h4;rw[hu]at hu';simp only[ae,iy]at hu';subst hu';rw[LA hi]at hby;have hlen:=LI hok;obtain⟨ad,cap,news,hxv,hels⟩:=C0 (st:=⟨e,st.hs⟩) s' hys hlen rb;split at h5
     .rename_i e' hu1;generalize hT0:um ⟨.builtin .append,#[x',y'],ats⟩=T0 at *;generalize hT1:ats.getD 1 0=T1 at *;have hsrc:Yn P w T1 (ev t y') el m ys.length news:=by
       refine⟨hels.len,hels.one,.inl ⟨⟨e',hu1⟩,⟨ad,cap,hxv⟩,λw1 hw=>?_⟩⟩;have:=hels.first (P:=P) (len:=ys.length) (cap:=cap) (ai _) hw
       rw[<-hels.len,vG,<-hxv]at this;exact this
      have:=YS (st:=⟨e,st.hs⟩) (ty:=ty) s' ra (λb=>by have:=hl b;have:=s.le b;omega) (λb hb=>s.hi b e_) hu hi hz hzs (Pk hsz hi) hm hby hsrc hels.rd hlen hap;refine this.op1 (λb=>by grind) λv w' hr=>?_
      simp_all [execOp,resolve,invoke,builtin]
     grind
    grind
   grind
  grind
 simp_all
def abC {zs:V_}{zv:Value}(hok:Sr zs zv.cells.toList=true)(n:Nat) :
  Lo g w (List.replicate n zs) (Builtin.zeroCells zv.cells n).toList∧(Builtin.zeroCells zv.cells n).toList.length=n*zs.length∧∀u∈(Builtin.zeroCells zv.cells n).toList,u.oneCell'=true:=by
 obtain⟨hl,hg⟩:=WY (w:=w) (g:=g) hok;have key:∀j,j<n*zs.length->0<zs.length∧∃u,(Builtin.zeroCells zv.cells n).toList[j]?=some u∧zv.cells.toList[j % zs.length]?=some u:=by
  intro j hj;have hp:0<zs.length:=by
   grind
  simp_all [gK,Builtin.zeroCells]
 refine⟨λj d hj=>?_,by grind [Builtin.zeroCells],λu hu=>?_⟩
 .obtain⟨h1,h2⟩:=Ve hj
  grind
 .obtain⟨j,hj,rfl⟩:=kL.1 hu;have hj':j<n*zs.length:=by grind [Builtin.zeroCells]
  obtain⟨hp,u,hu,hu2⟩:=key j hj';have hjm:j % zs.length<zs.length:=gK _ hp;obtain⟨u',hu',hr⟩:=hg _ _ (co hjm)
  grind [RD.one]
def avr {z:V_}{x y:Rd}(s:S P g w st t O)(h:aes z x y st=some (a,st'))(hc:bw P (.appz z x y) o.op=true) :
  fH P g w t O st' a ((execOp (ev t) o).run P w):=by
 obtain⟨dst,op,ty,pos,aft,gd⟩:=o;simp only[bw]at hc;split at hc
 .rename_i c;simp only[af]at hc;obtain⟨⟨⟨⟨⟨h1,h2⟩,h3⟩,h4⟩,h5⟩,h6⟩:=hc;have hats:=K9 h2;obtain⟨callee,args,ats⟩:=c;have:=rT h1;obtain⟨x',y',e1,hx,hy⟩:=al3 h6;subst e1;obtain⟨va,vb,e,Oa,Ob,O',ra,rb,s',hl,hk⟩:=Tm s hx hy h;split at hk
  .rename_i n hn;split at hk
   .rename_i r h' hap;obtain⟨rfl,rfl⟩:=hk;obtain⟨el,hu,hsz,hm,hby⟩:=iA h3;obtain⟨el',i,zv,hu',hi,hz,hok⟩:=FQ h4;rw[hu]at hu';simp only[ae,iy]at hu';subst hu';rw[LA hi]at hby;obtain⟨⟨kk,hyv⟩,hnm⟩:=Gk hn rb;obtain⟨hnew,hnl,hone⟩:=abC (g:=g) (w:=w) hok n;have hzs:zv.cells.size=z.length:=by rw[(WY (w:=w) (g:=g) hok).1];simp
    simp only[K3]at h5;split at h5
    .rename_i k hu1;generalize hT0:um ⟨.builtin .append,#[x',y'],ats⟩=T0 at *;generalize hT1:ats.getD 1 0=T1 at *;have hsrc:Yn P w T1 (ev t y') el z.length (List.replicate n z).length (Builtin.zeroCells zv.cells n).toList:=by
      rw[bE];exact⟨hnl,hone,.inr ⟨⟨k,hu1⟩,⟨kk,hyv⟩,i,zv,hi,hz,hzs,s_⟩⟩
     have:=YS (st:=⟨e,st.hs⟩) (ty:=ty) s' ra (λb=>by have:=hl b;have:=s.le b;omega) (λb hb=>s.hi b e_) hu hi hz hzs (Pk hsz hi) hm hby hsrc hnew
      (λe he=>by simp_all) hap
     refine this.op1 (λb=>by grind) λv w' hr=>?_
     simp_all [execOp,resolve,invoke,builtin]
    grind
   grind
  grind
 simp_all
end
abbrev bG:=@List.length_pos_iff
abbrev fp:=@List.length_take
section
variable {P:Program}{g:Gh}{w:World}{t:G_}{O:Nat->Nat}{st st':St}{a:AV}{o:Oper}
theorem R7 {α:Type}(xs:List α)(off:Nat):aF xs off []=xs:=by simp[aF]
theorem DK {α:Type}{xs zs:List α}{off:Nat}(h:off+zs.length<=xs.length):(aF xs off zs).length=xs.length:=by
 grind [aF]
theorem aeH {α:Type}{xs zs:List α}{off:Nat}{x:α}(h:x∈aF xs off zs):x∈xs∨x∈zs:=by
 grind [aF]
def Xi {xs zs:F_}{m off:Nat}(hx:∀e∈xs,e.length=m)(hz:∀e∈zs,e.length=m) :
  (aF xs off zs).flatten=aF xs.flatten (off*m) zs.flatten:=by
 simp only[aF,qY];rw[I8 hx,Ju hx,fQ hz,dC]
def Zg {id off len m:Nat}{xs zs:F_}{vals:M_}{x0:Value}{Ov:Nat->Nat}(s:S P g w st t O)(hg:get st.hs.heap id=some (.arr m xs))(rv:RV g w (.sl id off len) x0 Ov)
  (hin:off+len<=xs.length)(hz:zs.length<=len)(hl:∀e∈zs,e.length=m)(hn:Lo g w zs vals)(hv:vals.length=zs.length*m)(h1:∀u∈vals,u.oneCell'=true) :
  ∃ad cap w' O2,x0=.slice ad len cap∧(match ad with|some a=>(storeCells a vals).run P w|none=>.ok () w)=.ok () w'∧
   S P g w' ⟨st.env,⟨put st.hs.heap id (.arr m (aF xs off zs)),st.hs.next⟩⟩ t O2∧bI g w g w' (λc=>O c≠0)∧(∀c,O2 c<=O c)∧w'.heap.size=w.heap.size:=by
 have same:zs=[]->vals=[]∧∃O2,S P g w ⟨st.env,⟨put st.hs.heap id (.arr m (aF xs off zs)),st.hs.next⟩⟩ t O2∧∀c,O2 c<=O c:=by
  rintro rfl
  refine⟨aI u_,?_⟩
  grind [R7,S.upd]
 have noop:∀ad:Option Addr,(match ad with|some a=>(storeCells a []).run P w|none=>.ok () w)=.ok () w:=by
  intro ad;cases ad<;>simp[storeCells]
 simp only[RV]at rv;rcases rv.1 with ⟨rfl,ad,rfl⟩|⟨b,cap,hob,rfl,hlc,hcap⟩
 .simp_all [bI.refl]
 .by_cases h0:zs=[]
  .simp_all [bI.refl]
  .have hzl:0<zs.length:=bG.2 h0;obtain⟨O1,Oz,q,hsum,hst⟩:=s.store hg;rcases q with ⟨rfl,_⟩|⟨b',c,el,g1,g2,g3,g4,g5,g6,g7,g8,g9,g10⟩
   .simp_all
   .rw[hob]at g1;simp only[ae]at g1;subst g1;rw[g2]at hcap⊢;have e1:off*m+zs.length*m<=xs.length*m:=by rw[<-dC];exact cJ _ (by omega)
    obtain⟨c',hrun,hc',hcs⟩:=t8 (P:=P) (b:=b) (el:=el) vals w c (g.base id+off*m) 0 g4 h1 o_;have hx:bI g w g (setBlk w b (.cells c' el (0,0))) λx=>x=b:=bI.setBlk g4 g9
    have hOb:1<=O1 b:=u_;have hbO:O b=1:=by have:=hsum b;have:=s.le b;omega
    have hfl:=fQ g7;have hcl:c.toList.length=c.size:=iR;have hlen':(aF xs off zs).length=xs.length:=DK o_;refine⟨_,cap,_,_,rfl,hrun,hst (setBlk w b (.cells c' el (0,0))) b c el (.arr m (aF xs off zs)) O1 g4 hOb hx ?_ (λy=>by have:=hsum y;have:=s.le y;omega) (λy hy=>?_),
     hx.mono (λy _ e=>by simp_all),hsum,s_⟩
    .refine .inr ⟨b,c',el,hob,g2,g3,eW (jH g4),o_,u_,λe he=>?_,?_,g9,g10⟩
     .grind [aeH]
     .rw[Xi g7 hl];intro j d hj;have hzfl:=fQ hl;rw[kE o_]at hj;rw[gZ (eW (jH g4)),<-jW,hc',kE o_];split at hj
      .obtain⟨u,hu,hr⟩:=hn _ d hj
       grind [RD.ext]
      .obtain⟨u,hu,hr⟩:=g8 j d hj
       grind [gZ,RD.ext]
    grind [xT,Ll]
def an2 {ys:F_}{m:Nat}(hl:∀e∈ys,e.length=m){news:M_}(hn:Lo g w ys news)(n:Nat) :
  Lo g w (ys.take n) (news.take ((ys.take n).length*m)):=by
 intro j d hj;have hlt:=G6 hj;rw[fQ (λe he=>hl e (iu he))]at hlt;rw[I8 hl]at hj;have hj':ys.flatten[j]?=some d:=by
  grind
 obtain⟨u,hu,hr⟩:=hn j d hj'
 simp_all
def aiw {h:ak}{v:AV}{ys:F_}{x:Value}{Ov:Nat->Nat}(he:elems h v=some ys)(rv:RV g w v x Ov):∃a n cap,x=.slice a n cap:=by
 by_cases hn:wY v=false
 .rcases (abu he hn rv).list with ⟨rfl,a,cap,rfl⟩|⟨b,off,m',cap,rfl,_⟩<;>simp_all
 .cases v<;>simp only[wY,not_true,mz,not_false_eq_true]at hn
  grind [RV]
def axn {m:Nat}{x y:Rd}(s:S P g w st t O)(h:XC m x y st=some (a,st'))(hc:bw P (.cpy m x y) o.op=true) :
  fH P g w t O st' a ((execOp (ev t) o).run P w):=by
 obtain⟨dst,op,ty,pos,aft,gd⟩:=o;simp only[bw]at hc;split at hc
 .rename_i c;simp only[af]at hc;obtain⟨⟨⟨⟨h1,h2⟩,h3⟩,h5⟩,h6⟩:=hc;have hats:=K9 h2;obtain⟨callee,args,ats⟩:=c;have:=rT h1;subst this;obtain⟨x',y',e1,hx,hy⟩:=al3 h6;simp only at e1 hats;subst e1;obtain⟨va,vb,e,Oa,Ob,O',ra,rb,s',hl,hk⟩:=Tm s hx hy h;obtain⟨el,hu,hsz,hm,hby⟩:=iA h3;split at hk
  .rename_i ys hys;split at h5
   .rename_i e' hu1;generalize hT0:um ⟨.builtin .copy,#[x',y'],ats⟩=T0 at *;generalize hT1:ats.getD 1 0=T1 at *;subst hats;split at hk
    .rename_i id off len;split at hk
     .rename_i k xs hg;split at hk
      .rename_i hb;simp only[af,aC,bf]at hb;obtain⟨⟨hok,rfl⟩,hin⟩:=hb;obtain⟨rfl,rfl⟩:=hk;have hlen:=LI hok;obtain⟨ad,cap,news,hxv,hels⟩:=C0 (st:=⟨e,st.hs⟩) s' hys hlen rb;obtain⟨adx,capx,w',O2,q1,q2,q3,q4,q5,q6⟩:=Zg (st:=⟨e,st.hs⟩) (zs:=ys.take len) s' hg ra hin e_ (λe he=>hlen e (iu he))
        (an2 hlen hels.rd len) (by grind [DJ.len,Nat.mul_le_mul_right]) (λu hu=>hels.one u (iu hu))
       refine⟨.int .i64 (.ofNat (min len ys.length)),w',g,zero,O2,.inl ?_,v9 _ _,q3,q4.mono (λb _ h=>by grind),λb=>by have:=s.le b;grind,
        λb _=>by grind,λb hb=>by simp at hb⟩
       have hf:=hels.first (P:=P) (len:=ys.length) (cap:=cap) (n:=(ys.take len).length) e_ (rfl:w.heap=w.heap)
       rw[fp,<-hxv]at hf;rw[fp]at q2;have hmin:Nat.min ys.length len=min len ys.length:=Nat.min_comm _ _;have hlo:(Builtin.lenOf (ev t y')).run P w=.ok ys.length w:=by simp_all [Builtin.lenOf]
       cases adx with
       |none =>
        simp only[Result.ok.injEq,true_and]at q2;subst q2;simp[execOp,resolve,invoke,builtin,Builtin.copy_,ba hu,hlo,eQ hsz,hf,goInt,q1,hmin]
       |some adx =>
        simp[execOp,resolve,invoke,builtin,Builtin.copy_,ba hu,hlo,eQ hsz,hf,goInt,q1,q2,hmin]
      simp_all
     simp_all
    .split at hk
     .rename_i hl0;obtain⟨rfl,rfl⟩:=hk;obtain⟨ada,capa,hxa⟩:=R6 hl0 ra;obtain⟨ady,ny,capy,hxy⟩:=aiw hys rb;refine .flat s (x:=.int .i64 0) ?_ (v9 _ _) s' λb=>by grind
      have hf:=wG (P:=P) m ady ny capy w;rw[<-hxy]at hf;have hlo:(Builtin.lenOf (ev t y')).run P w=.ok ny w:=by simp_all [Builtin.lenOf]
      cases ada<;>simp[execOp,resolve,invoke,builtin,Builtin.copy_,ba hu,hlo,eQ hsz,hf,goInt,hxa,storeCells]
     simp_all
   grind
  grind
 simp_all
def axY {z:V_}{x:Rd}(s:S P g w st t O)(h:Uz z x st=some (a,st'))(hc:bw P (.clr z x) o.op=true) :
  fH P g w t O st' a ((execOp (ev t) o).run P w):=by
 obtain⟨dst,op,ty,pos,aft,gd⟩:=o;simp only[bw]at hc;split at hc
 .rename_i c;simp only[af]at hc;obtain⟨⟨⟨⟨h1,h3⟩,h4⟩,h2⟩,h6⟩:=hc;obtain⟨callee,args,ats⟩:=c;have:=rT h1;subst this;obtain⟨x',e1,hx⟩:=amU h6;simp only at e1;subst e1;have hty:=aaT h2;obtain⟨el',i,zv,hu',hi,hz,hok⟩:=FQ h4;unfold Uz at h;split at h
  .rename_i id off len e hr;obtain⟨Oa,O',ra,s',hl⟩:=s.rd hx hr;split at h
   .rename_i k xs hg;split at h
    .rename_i hb;simp only[af,aC,bf]at hb;obtain⟨rfl,hin⟩:=hb;obtain⟨rfl,rfl⟩:=h;obtain⟨hnew,hnl,hone⟩:=abC (g:=g) (w:=w) hok len;obtain⟨adx,capx,w',O2,q1,q2,q3,q4,q5,q6⟩:=Zg (st:=⟨e,st.hs⟩) (zs:=List.replicate len z) s' hg ra hin s_ (λe he=>by simp_all)
      hnew u_ hone
     refine⟨.tuple #[],w',g,zero,O2,.inl ?_,by simp[RV,RVs],q3,q4.mono (λb _ h=>by grind),λb=>by have:=s.le b;grind,
      λb _=>by grind,λb hb=>by simp at hb⟩
     have hzv:=wz (P:=P) (w:=w) hi hz
     cases adx with
     |none =>
      simp_all [execOp,resolve,invoke,builtin,Builtin.clear_,ba]
     |some adx =>
      cases len with
      |zero =>
       simp_all [storeCells,execOp,resolve,invoke,builtin,Builtin.clear_,ba]
      |succ len =>
       simp_all [execOp,resolve,invoke,builtin,Builtin.clear_,ba]
    simp_all
   simp_all
  simp_all
 simp_all
end
abbrev qe:=@List.foldl_cons
abbrev bZ:=@List.map_cons
abbrev gP:=@List.all_cons
abbrev iC:=@Option.isSome_iff_exists
abbrev jF:=@List.map_map
section
variable {P:Program}{g:Gh}{w:World}{t:G_}{O:Nat->Nat}{st st':St}{a:AV}{o:Oper}
def aqN (vals:M_):∀(cs:G_) (off k:Nat),off+k+vals.length<=cs.size->
  ((vals.zipIdx k).foldl (fun(cs:G_) (p:Value×Nat)=>cs.setIfInBounds (off+p.2) p.1) cs).toList=aF cs.toList (off+k) vals:=by
 induction vals with
 |nil=>simp_all [aF]
 |cons v vs ih =>
  intro cs off k h;rw[List.zipIdx_cons,qe,ih _ off (k+1) e_,Array.toList_setIfInBounds,<-cm,Hn o_]
def RF {place:Nat->BG_}{xs:G_}{i off n:Nat}{v:Value}{rest:List (Nat×Value)}(hp:place i=some (off,n))(hs:v.cells.size=n)(hb:off+n<=xs.size) :
  ∃xs',Instr.fill place xs ((i,v)::rest)=Instr.fill place xs' rest∧xs'.toList=aF xs.toList off v.cells.toList:=by
 refine⟨v.cells.zipIdx.foldl (λcs (c,j)=>cs.setIfInBounds (off+j) c) xs,?_,?_⟩
 .grind [Instr.fill]
 .rw[<-Array.foldl_toList,Array.toList_zipIdx]
  simp_all [aqN]
def Ye {v:AV}{x:Value}{Ov:Nat->Nat}(h:wl v=true)(r:RV g w v x Ov):RVs g w v.cells x.cells.toList Ov:=by
 cases v with
 |agg cs =>
  obtain⟨xs,rfl,r⟩:=r;exact r
 |_=>grind [RV.cells,AV.cells,wl]
def RVs.splice {cs vs:D_}{xs ys:M_}{O1 O2:Nat->Nat}(r1:RVs g w cs xs O1)(r2:RVs g w vs ys O2){off:Nat}(h:off+vs.length<=cs.length) :
  ∃O3,RVs g w (aF cs off vs) (aF xs off ys) O3∧∀b,O3 b<=O1 b+O2 b:=by
 have hl2:=r2.length;rw[aen (off:=off) (n:=vs.length) h]at r1;obtain⟨B1,B2,rb1,rb2,hb12⟩:=r1.split;obtain⟨B3,B4,rb3,rb4,hb34⟩:=rb2.split;have hsl:(Vm.sub cs off vs.length).length=vs.length:=kz h;have hjoin:=rb1.join (r2.join rb4)
 grind [HA,List.drop_drop]
def Tu {place:Nat->BG_}:∀{ps:AB_}{parts:List (Nat×Operand)},nz place ps parts=true->ep (tq ps) (parts.map (·.2))=true
 |[],[],_=>rfl
 |(off,n,r)::ps,(i,x)::parts,h=>by
  simp only[nz,af]at h;simp only[tq,bZ,ep,af];exact⟨h.1.2,Tu h.2⟩
 |[],_::_,h=>by grind [nz]
 |(_,_,_)::_,[],h=>by grind [nz]
def aeR {place:Nat->BG_}:∀{ps:AB_}{parts:List (Nat×Operand)},nz place ps parts=true->
  ∀{cs cs' vs:D_}{xs:G_}{O1 O2:Nat->Nat},RVs g w cs xs.toList O1->RVs g w vs (parts.map λp=>ev t p.2) O2->dM cs (vw ps vs)=some cs'->
  ∃xs' O3,Instr.fill place xs (parts.map λp=>(p.1,ev t p.2))=some xs'∧RVs g w cs' xs'.toList O3∧∀b,O3 b<=O1 b+O2 b
 |[],[],_,cs,cs',vs,xs,O1,O2,r1,r2,h=>by
  grind [vw,dM,Instr.fill]
 |(off,n,r)::ps,(i,x)::parts,hc,cs,cs',vs,xs,O1,O2,r1,r2,h=>by
  simp only[nz,af]at hc;obtain⟨⟨h1,h2⟩,h3⟩:=hc
  cases vs with
  |nil=>grind [RVs]
  |cons v vs =>
   obtain⟨y,ys,P1,P2,e,rv,rvs,hs⟩:=r2;obtain⟨rfl,rfl⟩:=e;simp only[vw,dM]at h;split at h
   .rename_i hb;simp only[af,aC,bf]at hb;obtain⟨⟨hb1,hb2⟩,hb3⟩:=hb;split at h1
    .rename_i a b hp;simp only[af,aC]at h1;obtain⟨rfl,rfl⟩:=h1;have rc:=Ye hb2 rv;have hlx:=r1.length;have hlc:=rc.length;simp only[iR]at hlx hlc;obtain⟨xs',e1,e2⟩:=RF (rest:=parts.map λp=>(p.1,ev t p.2)) hp (v:=ev t x) o_ (xs:=xs) o_;obtain⟨O3,r3,l3⟩:=r1.splice rc (off:=a) o_;rw[<-e2]at r3;obtain⟨xs'',O4,q1,q2,q3⟩:=aeR h3 r3 rvs h
     grind
    simp_all
   simp_all
 |[],_::_,hc,_,_,_,_,_,_,_,_,_=>by grind [nz]
 |(_,_,_)::_,[],hc,_,_,_,_,_,_,_,_,_=>by grind [nz]
def anP {fs:List Field}(h:abi P fs=true):∃places:Q_,fs.mapM (λf=>(P.info? f.type).map λi=>(f.offset,i.size))=some places∧
  ∀i:Nat,places[i]?=(fs[i]?).bind λf:Field=>(P.info? f.type).map λi=>(f.offset,i.size):=by
 induction fs with
 |nil=>simp_all
 |cons f fs ih =>
  simp only[abi,gP,af]at h;obtain⟨places,h1,h2⟩:=ih h.2;obtain⟨i,hi⟩:=iC.1 h.1;refine⟨(f.offset,i.size)::places,u_,λj=>?_⟩
  grind
def aqt {zs:D_}{ps:AB_}(s:S P g w st t O)(h:Fa zs ps st=some (a,st'))(hc:bw P (.build zs ps) o.op=true) :
  fH P g w t O st' a ((execOp (ev t) o).run P w):=by
 obtain⟨dst,op,ty,pos,aft,gd⟩:=o;simp only[bw]at hc;split at hc
 .rename_i T parts;simp only[aho,af]at hc;obtain⟨h1,h2⟩:=hc;split at h1
  .split at h1
   .rename_i z hz;have rz:RVs g w zs z.cells.toList zero:=RVs.consts h1;unfold Fa at h;split at h
    .rename_i vs e hr;split at h
     .rename_i cs hf;have fin:∀place,nz place ps parts.toList=true->(∀xs',Instr.fill place z.cells (parts.map λp=>(p.1,ev t p.2)).toList=some xs'->P.built T (parts.map λp=>(p.1,ev t p.2)).toList=some xs')->
        fH P g w t O ⟨e,st.hs⟩ (.agg cs) ((execOp (ev t) ⟨dst,.build T parts,ty,pos,aft,gd⟩).run P w):=by
       intro place hp hbuilt;obtain⟨Ov,O',rvs,s',l⟩:=s.rdAll (Tu hp) hr;rw[jF]at rvs;obtain⟨xs',O3,q1,q2,q3⟩:=aeR (t:=t) hp rz rvs hf;have hb:=hbuilt xs' u_;refine .pure s (x:=.agg xs') ?_ (by exact⟨xs',rfl,q2⟩) s' (λb=>by grind)
       grind [execOp,Sem.run_bind,Result.andThen_ok,Sem.run_pure,run_build]
      split at h2
      .rename_i fs hu;simp only[af]at h2;obtain⟨places,p1,p2⟩:=anP h2.1;have hpl:(λi=>JQ P fs i)=λi=>places.toArray[i]?:=by
        grind [JQ]
       grind [Program.built]
      all_goals grind [Program.built]
     simp_all
    simp_all
   simp_all
  simp_all
 simp_all
end
abbrev ar:=@List.length_cons
abbrev gU:=@List.length_map
section
variable {P:Program}{g:Gh}{w:World}{t:G_}{O:Nat->Nat}{st st':St}{a:AV}{o:Oper}
def FZ:∀{ps:S_}{parts:List (Nat×Operand)}{k:Nat},fY k ps parts=true->ep ps (parts.map (·.2))=true∧parts.length=ps.length
 |[],[],_,_=>⟨rfl,rfl⟩
 |r::ps,(i,x)::parts,k,h=>by
  simp only[fY,af]at h;obtain⟨h1,h2⟩:=FZ h.2
  grind [ep]
 |[],_::_,_,h=>by grind [fY]
 |_::_,[],_,h=>by grind [fY]
def acQ {v:AV}{e:V_}{x:Value}{Ov:Nat->Nat}(h:mP v.cells=some e)(r:RV g w v x Ov):RVs g w v.cells x.cells.toList Ov:=by
 apply Ye _ r
 cases v with
 |agg cs=>rfl
 |_ =>
  have:=MK h
  grind [AV.cells,wl]
def VO {m:Nat}:∀{vs:D_}{xs:F_},ji m vs=some xs->xs.length=vs.length∧∀e∈xs,e.length=m
 |[],xs,h=>by grind [ji]
 |v::vs,xs,h=>by
  simp only[ji]at h;split at h
  .rename_i hb;rw[aC]at hb;split at h
   .split at h
    .rename_i es hes;obtain⟨h1,h2⟩:=VO hes
     grind [U8]
    simp_all
   simp_all
  simp_all
def Yy {m:Nat}:∀{ps:S_}{parts:List (Nat×Operand)}{k:Nat},fY k ps parts=true->∀{vs:D_}{xs:F_}{cs:G_}{O2:Nat->Nat},
  RVs g w vs (parts.map λp=>ev t p.2) O2->ji m vs=some xs->(k+ps.length)*m<=cs.size->
  ∃xs':G_,Instr.fill (λi=>some (i*m,m)) cs (parts.map λp=>(p.1,ev t p.2))=some xs'∧xs'.size=cs.size∧(∀j,j<k*m->xs'.toList[j]?=cs.toList[j]?)∧
   ∀(j:Nat) (d:D),xs.flatten[j]?=some d->∃u,xs'.toList[k*m+j]?=some u∧RD w g.pm d u
 |[],[],k,_,vs,xs,cs,O2,r,h,hb=>by
  cases vs<;>grind [ji,Instr.fill,RVs]
 |r::ps,(i,x)::parts,k,hc,vs,xs,cs,O2,rr,h,hb=>by
  simp only[fY,af,aC]at hc;obtain⟨⟨rfl,h2⟩,h3⟩:=hc
  cases vs with
  |nil=>grind [RVs]
  |cons v vs =>
   obtain⟨y,ys,P1,P2,e,rv,rvs,hs⟩:=rr;obtain⟨rfl,rfl⟩:=e;simp only[ji]at h;split at h
   .rename_i hbl;rw[aC]at hbl;split at h
    .rename_i e he;split at h
     .rename_i es hes;have rc:=acQ he rv;have hlc:=rc.length;simp only[iR]at hlc;simp only[ar]at hb;have hmul:(i+(ps.length+1))*m=i*m+m+ps.length*m:=e_;obtain⟨xs1,e1,e2⟩:=RF (place:=λi=>some (i*m,m)) (rest:=parts.map λp=>(p.1,ev t p.2)) (i:=i) rfl (v:=ev t x) o_ (xs:=cs) o_;have hcl:cs.toList.length=cs.size:=iR;have hxl:(ev t x).cells.toList.length=m:=u_;have hsz1:xs1.size=cs.size:=by
       grind [DK]
      obtain⟨xs',q1,q2,q3,q4⟩:=Yy h3 rvs hes (cs:=xs1) (by grind)
      grind [OG,kE]
     simp_all
    simp_all
   simp_all
 |[],_::_,_,hc,_,_,_,_,_,_,_=>by grind [fY]
 |_::_,[],_,hc,_,_,_,_,_,_,_=>by grind [fY]
def aw3 {m:Nat}{ps:S_}(s:S P g w st t O)(h:Og m ps st=some (a,st'))(hc:bw P (.mks m ps) o.op=true) :
  fH P g w t O st' a ((execOp (ev t) o).run P w):=by
 obtain⟨dst,op,ty,pos,aft,gd⟩:=o;simp only[bw]at hc;split at hc
 .simp only[af,aC,bf]at hc;obtain⟨⟨⟨⟨h1,h2⟩,h3⟩,h4⟩,h5⟩:=hc;subst h3;obtain⟨el,hu,hsz,hm,hby⟩:=iA h1;obtain⟨el',i,zv,hu',hi,hz,hzs⟩:=tj h2;obtain⟨hrds,hpl⟩:=FZ h5;unfold Og at h;split at h
  .rename_i vs e hr;split at h
   .rename_i xs hx;obtain⟨rfl,rfl⟩:=h;obtain⟨Ov,O',rvs,s',l⟩:=s.rdAll hrds hr;rw[jF]at rvs;have hvl:=rvs.length;simp only[gU]at hvl;obtain⟨hxl,hxm⟩:=VO hx;generalize hcs:(Array.range (ps.length*m)).map (λj=>(if ps.length*m=0 then (#[]:G_) else zv.cells)[j % (if ps.length*m=0 then (#[]:G_) else zv.cells).size]!)=cs;have hcsz:cs.size=ps.length*m:=e_;obtain⟨xs',q1,q2,q3,q4⟩:=Yy (t:=t) (k:=0) h5 (cs:=cs) rvs hx u_;have hxp:xs.length=ps.length:=o_;refine fH.list (cap:=ps.length) (c:=xs') (el:=el) (w1:=w) s s' (λb=>by grind) (bI.refl _ _ _) rfl ?_ hm hxm o_ o_ (λj d hj=>?_)
    .rw[hxp];have hbig:¬(ps.length*m > 2 ^ 24):=o_;have hzv:=wz (P:=P) (w:=w) hi hz;by_cases h0:ps.length*m=0
     .simp only[h0,bR]at hcs;simp only[execOp,Instr.buildSlice,aO,ba hu,bg,eQ hsz,h0,bR,dA,mY];rw[hcs];simp[q1,newRow]
     .simp only[execOp,Instr.buildSlice,aO,ba hu,bg,eQ hsz,h0,bS,dA,mY,hbig,hzv]
      simp_all [newRow]
    simp_all
   simp_all
  simp_all
 simp_all
end
abbrev wN:=@List.forIn_cons
section
variable {P:Program}{g:Gh}{w:World}{t:G_}{O:Nat->Nat}{st st':St}{a:AV}{o:Oper}
def JK:∀{xs:F_}{s:AF_},wD xs=some s->∃ns:C_,xs=ns.map (fun(n:Nat)=>[D.int .u8 (Int.ofNat n)])∧s=ns.map Nat.toUInt8
 |[],s,h=>by simp_all [wD]
 |x::xs,s,h=>by
  unfold wD at h;split at h
  .simp at *
  .rename_i n r e;obtain⟨rfl,rfl⟩:=e;split at h
   .rename_i s' hs;simp only[ae]at h;subst h;obtain⟨ns,rfl,rfl⟩:=JK hs;exact⟨n::ns,rfl,rfl⟩
   simp_all
  simp_all
def abS:∀(ns:C_) (A:Array UInt8),(ns.map fun(n:Nat)=>(n:Int)).foldl (fun(r:ByteArray) (n:Int)=>r.push (UInt8.ofNat n.toNat)) ⟨A⟩=⟨A++(ns.map Nat.toUInt8).toArray⟩
 |[],A=>by simp
 |n::ns,A=>by
  simp only[bZ,qe];have:(ByteArray.mk A).push (UInt8.ofNat ((n:Int).toNat))=⟨A.push (Nat.toUInt8 n)⟩:=by simp[ByteArray.push,Nat.toUInt8]
  rw[this,abS ns]
  simp_all
theorem Yc (ns:C_):(ns.map (fun(n:Nat)=>[D.int .u8 (Int.ofNat n)])).flatten=ns.map fun(n:Nat)=>D.int .u8 (Int.ofNat n):=by
 induction ns<;>simp_all
def arG {x:Rd}(s:S P g w st t O)(h:M5 x st=some (a,st'))(hc:bw P (.toStr x) o.op=true) :
  fH P g w t O st' a ((execOp (ev t) o).run P w):=by
 simp only[bw]at hc;split at hc
 .simp only[af]at hc;obtain⟨⟨h1,h2⟩,h3⟩:=hc;obtain⟨v,e,hr,hk⟩:=RE h;obtain⟨Ov,O',rv,s',l⟩:=s.rd h3 hr;split at hk
  .rename_i xs hxs;split at hk
   .rename_i b hb;obtain⟨rfl,rfl⟩:=hk;obtain⟨ns,rfl,rfl⟩:=JK hb;have hl1:∀e∈ns.map (fun(n:Nat)=>[D.int .u8 (Int.ofNat n)]),e.length=1:=by
     simp_all
    have hfl:(ns.map (fun(n:Nat)=>[D.int .u8 (Int.ofNat n)])).flatten=ns.map fun(n:Nat)=>D.int .u8 (Int.ofNat n):=by
     exact Yc ns
    obtain⟨ad,cap,news,hxv,hels⟩:=C0 (st:=⟨e,st.hs⟩) s' hxs hl1 rv;have hnews:news=ns.map fun(n:Nat)=>Value.int .u8 (n:Int):=by
     apply dZ;intro j;rcases bD j ns.length with hj|hj
     .have hd:(ns.map (fun(n:Nat)=>[D.int .u8 (Int.ofNat n)])).flatten[j]?=some (D.int .u8 (Int.ofNat ns[j])):=u_;obtain⟨u,hu,hr⟩:=hels.rd j _ hd
      cases hr
      simp_all
     grind [DJ.len]
    simp only[NA]at h1;simp only[ajJ]at h2;split at h1
    .split at h2
     .split at h2
      .refine .flat s (x:=.string ⟨(ns.map Nat.toUInt8).toArray⟩) ?_ (by simp only[RV];exact⟨.str _,λ_=>trivial⟩) s' (S.le_left l);have hrun:(Conv.bytesToString (.slice ad (ns.map (fun(n:Nat)=>[D.int .u8 (Int.ofNat n)])).length cap)).run P w=.ok (.string ⟨(ns.map Nat.toUInt8).toArray⟩) w:=by
        cases ad with
        |none =>
         have h0:=hels.nn rfl;have:ns=[]:=aI u_;subst this;rfl
        |some ad =>
         have hcell:=run_loadCells_list (P:=P) w ad news (hels.cell ad rfl);have hlen:news.length=(ns.map (fun(n:Nat)=>[D.int .u8 (Int.ofNat n)])).length:=u_;rw[hlen]at hcell;have hm:news=(ns.map fun(n:Nat)=>(n:Int)).map (Value.int .u8):=u_;rw[hm]at hcell;rw[run_bytesToString w ad _ cap (ns.map fun(n:Nat)=>(n:Int)) hcell];have:=abS ns #[];simp only[Array.empty_append]at this;exact aY (λz=>Result.ok (Value.string z) w) this
       grind [execOp,Sem.run_bind,Result.andThen_ok,Sem.run_pure,run_convert_bytes_string]
      simp_all
     simp_all
    simp_all
   simp_all
  simp_all
 simp_all
def Ek {ty:TypeId}(h:KO P ty=true){cs:G_}{off:Nat}{x:Value}(hx:cs.toList[off]?=some x):(part ty cs off).run P w=.ok x w:=by
 simp_all [part,DX]
def XL {ty:TypeId}{k:Bool}(hk:(match k with|true=>K3 P ty|false=>MW P ty)=true){u v:AV}{x y:Value}{Ou Ov:Nat->Nat}(ru:RV g w u x Ou)(rv:RV g w v y Ov)
  {r s:D_}{ks:Y_}{tt:Bool}(h:bq (k::ks) (u::r) (v::s)=some tt)(d:Nat) :
  ∃b,(Op.equalIn (d+1) ty x y).run P w=.ok b w∧((b=true∧bq ks r s=some tt)∨(b=false∧tt=false)):=by
 cases k with
 |true =>
  cases u<;>try (simp[bq]at h;done)
  rename_i du
  cases du<;>try (simp[bq]at h;done)
  rename_i k a
  cases v<;>try (simp[bq]at h;done)
  rename_i dv
  cases dv<;>try (simp[bq]at h;done)
  rename_i j b;simp only[bq]at h;split at h
  .rename_i hkj;have:=GL hkj;subst this;have hx:=Bw ru rfl;have hy:=Bw rv rfl;subst hx hy;simp only[K3]at hk;split at hk
   .rename_i kk hu;refine⟨a == b,?_,?_⟩
    .unfold Op.equalIn;rw[aO,ba hu];simp
    grind
   simp_all
  simp_all
 |false =>
  cases u<;>try (simp[bq]at h;done)
  rename_i du
  cases du<;>try (simp[bq]at h;done)
  rename_i a
  cases v<;>try (simp[bq]at h;done)
  rename_i dv
  cases dv<;>try (simp[bq]at h;done)
  rename_i b;simp only[bq]at h;have hx:=C5 ru rfl;have hy:=C5 rv rfl;subst hx hy;simp only[MW]at hk;split at hk
  .rename_i hu;refine⟨a == b,Jg hu d a b,?_⟩
   grind
  simp_all
def ZH {xs ys:G_}{d:Nat}:∀{fs:List Field}{ks:Y_}{n:Nat}{r s:D_}{tt:Bool}{O1 O2:Nat->Nat},JY P ks fs n=true->
  RVs g w r (xs.toList.drop n) O1->RVs g w s (ys.toList.drop n) O2->bq ks r s=some tt->∀{f:Field->BC_×Unit->Sem (ForInStep (BC_×Unit))},
  (∀(fd:Field) (q:BC_×Unit),(fd.name != "_")=true->∀x y b,(part fd.type xs fd.offset).run P w=.ok x w->(part fd.type ys fd.offset).run P w=.ok y w->
   (Op.equalIn (d+1) fd.type x y).run P w=.ok b w->(f fd q).run P w=.ok (if b=true then .yield (none,()) else .done (some false,())) w)->
  (forIn fs ((none,()):BC_×Unit) f).run P w=.ok (if tt=true then (none,()) else (some false,())) w
 |[],[],n,r,s,tt,O1,O2,_,r1,r2,h,f,_=>by
  cases r with
  |nil=>cases s<;>simp_all [bq]
  |cons=>grind [bq]
 |fd::fs,k::ks,n,r,s,tt,O1,O2,hf,r1,r2,h,f,hstep=>by
  simp only[JY,af,aC]at hf;obtain⟨⟨⟨⟨h1,h2⟩,h3⟩,h4⟩,h5⟩:=hf
  cases r with
  |nil=>grind [bq]
  |cons u r =>
   cases s with
   |nil=>grind [bq]
   |cons v s =>
    obtain⟨x,xs',P1,P2,e1,ru,rr,_⟩:=r1;obtain⟨y,ys',Q1,Q2,e2,rv,rs,_⟩:=r2;obtain⟨b,hb,hcase⟩:=XL h3 ru rv h d;have hx:xs.toList[n]?=some x:=by have:=aY (λl=>l[0]?) e1;grind
    have hy:ys.toList[n]?=some y:=by have:=aY (λl=>l[0]?) e2;grind
    have ex:xs.toList.drop (n+1)=xs':=by have:=aY (λl=>l.drop 1) e1;grind [List.drop_drop]
    have ey:ys.toList.drop (n+1)=ys':=by have:=aY (λl=>l.drop 1) e2;grind [List.drop_drop]
    have hs:=hstep fd (none,()) h2 x y b (Ek h4 u_) (Ek h4 u_) hb;rw[wN,aO,hs];rcases hcase with ⟨rfl,hc⟩|⟨rfl,rfl⟩
    .exact ZH h5 (by rw[ex];exact rr) (by rw[ey];exact rs) hc hstep
    .simp
 |[],_::_,_,_,_,_,_,_,hf,_,_,_,_,_=>by simp[JY]at hf
 |_::_,[],_,_,_,_,_,_,hf,_,_,_,_,_=>by simp[JY]at hf
def aay {k:Bool}{ks:Y_}{r s:D_}{tt:Bool}(h:bq (k::ks) r s=some tt):∃u r' v s',r=u::r'∧s=v::s'∧
  (((∀ks' r'' s'',bq (k::ks') (u::r'') (v::s'')=bq ks' r'' s'')∧bq ks r' s'=some tt)∨((∀ks' r'' s'',bq (k::ks') (u::r'') (v::s'')=some false)∧tt=false)):=by
 cases r with
 |nil=>grind [bq]
 |cons u r =>
  cases s with
  |nil=>grind [bq]
  |cons v s =>
   refine⟨u,r,v,s,rfl,rfl,?_⟩
   cases k with
   |true =>
    cases u<;>try (simp[bq]at h;done)
    rename_i du
    cases du<;>try (simp[bq]at h;done)
    cases v<;>try (simp[bq]at h;done)
    rename_i dv
    cases dv<;>try (simp[bq]at h;done)
    grind [bq]
   |false =>
    cases u<;>try (simp[bq]at h;done)
    rename_i du
    cases du<;>try (simp[bq]at h;done)
    cases v<;>try (simp[bq]at h;done)
    rename_i dv
    cases dv<;>try (simp[bq]at h;done)
    grind [bq]
def Lg:∀(k1:Y_) {k2:Y_}{r s:D_}{tt:Bool},bq (k1++k2) r s=some tt->
  ∃b,bq k1 (r.take k1.length) (s.take k1.length)=some b∧((b=true∧bq k2 (r.drop k1.length) (s.drop k1.length)=some tt)∨(b=false∧tt=false))
 |[],_,_,_,_,h=>⟨true,by simp[bq],.inl ⟨rfl,u_⟩⟩
 |k::k1,k2,r,s,tt,h=>by
  obtain⟨u,r',v,s',rfl,rfl,hc⟩:=aay h;rcases hc with ⟨h1,h2⟩|⟨h1,h2⟩
  .obtain⟨b,hb,hc⟩:=Lg k1 h2
   simp_all
  simp_all
theorem aaQ {ty:TypeId}{ks:Y_}{fs:Array Field}(hu:P.underlying ty=some (.struct fs))(h1:JY P ks fs.toList 0=true)(h2:P.stoodInHeld ty=false){cs ds:D_}{xs ys:G_}{O1 O2:Nat->Nat}(r1:RVs g w cs xs.toList O1)(r2:RVs g w ds ys.toList O2)
  {tt:Bool}(h:bq ks cs ds=some tt)(d:Nat):(Op.equalIn (d+1+1) ty (.agg xs) (.agg ys)).run P w=.ok tt w:=by
 rw[Op.equalIn,aO,ba hu];simp only[bg,aO,run_program,h2,aq,bS,<-Array.forIn_toList];rw[ZH (f:=_) (d:=d) h1 (by simpa using r1) (by simpa using r2) h (λfd q hn x y b hx hy hb=>by
  have hn':¬fd.name = "_" := by simp_all
  simp only[ne_eq,hn',not_false_eq_true,bR,aO,hx,hy,bg,hb]
  cases b<;>simp)]
 cases tt<;>simp
def Ss {ty:TypeId}{fs:Array Field}{n:Nat}(hu:P.underlying ty=some (.struct fs))(hs:xE P ty n=true){xs:G_}{off:Nat}:(part ty xs off).run P w=.ok (.agg (xs.extract off (off+n))) w:=by
 have:DM P ty=true:=by simp[DM,hu]
 simp[part,yT this,eQ hs]
def Wt {xs ys:G_}{d:Nat}:∀{fs:List Field}{ks:Y_}{n:Nat}{r s:D_}{tt:Bool}{O1 O2:Nat->Nat},Mo P ks fs n=true->
  RVs g w r (xs.toList.drop n) O1->RVs g w s (ys.toList.drop n) O2->bq ks r s=some tt->∀{f:Field->BC_×Unit->Sem (ForInStep (BC_×Unit))},
  (∀(fd:Field) (q:BC_×Unit),(fd.name != "_")=true->∀x y b,(part fd.type xs fd.offset).run P w=.ok x w->(part fd.type ys fd.offset).run P w=.ok y w->
   (Op.equalIn (d+1+1) fd.type x y).run P w=.ok b w->(f fd q).run P w=.ok (if b=true then .yield (none,()) else .done (some false,())) w)->
  (forIn fs ((none,()):BC_×Unit) f).run P w=.ok (if tt=true then (none,()) else (some false,())) w
 |[],[],n,r,s,tt,O1,O2,_,r1,r2,h,f,_=>by
  cases r with
  |nil=>cases s<;>simp_all [bq]
  |cons=>grind [bq]
 |[],_::_,_,_,_,_,_,_,hf,_,_,_,_,_=>by simp[Mo]at hf
 |fd::fs,ks,n,r,s,tt,O1,O2,hf,r1,r2,h,f,hstep=>by
  unfold Mo at hf;simp only[af,aC]at hf;obtain⟨⟨h1,h2⟩,hf⟩:=hf;split at hf
  .rename_i f2 hu;simp only[af,bf,cH]at hf;obtain⟨⟨⟨⟨h3,h4⟩,h5⟩,h6⟩,h7⟩:=hf;have hlen:(ks.take f2.size).length=f2.size:=u_;rw[<-b8 f2.size ks]at h;obtain⟨b,hb,hcase⟩:=Lg _ h;rw[hlen]at hb hcase;obtain⟨P1,ru,_⟩:=r1.sub 0 f2.size;obtain⟨P2,rr,_⟩:=r1.sub f2.size r.length;obtain⟨Q1,rv,_⟩:=r2.sub 0 f2.size;obtain⟨Q2,rs,_⟩:=r2.sub f2.size s.length;have ea:∀zs:G_,(zs.extract n (n+f2.size)).toList=((zs.toList.drop n).drop 0).take f2.size:=λzs=>by simp_all
   have hs:=hstep fd (none,()) h2 _ _ b (Ss hu h6) (Ss hu h6) (by
    grind [aaQ,sub])
   rw[wN,aO,hs];rcases hcase with ⟨rfl,hc⟩|⟨rfl,rfl⟩
   .simp only[bR,bg];have l1:r.length=(xs.toList.drop n).length:=r1.length.symm;have l2:s.length=(ys.toList.drop n).length:=r2.length.symm;have er:Vm.sub r f2.size r.length=r.drop f2.size:=by simp_all [sub,bp]
    have es:Vm.sub s f2.size s.length=s.drop f2.size:=by simp_all [sub,bp]
    have ex:((xs.toList.drop n).drop f2.size).take r.length=xs.toList.drop (n+f2.size):=by grind [List.take_of_length_le,List.drop_drop]
    have ey:((ys.toList.drop n).drop f2.size).take s.length=ys.toList.drop (n+f2.size):=by grind [List.take_of_length_le,List.drop_drop]
    rw[er,ex]at rr;rw[es,ey]at rs;exact Wt h7 rr rs hc hstep
   .simp
  .cases ks with
   |nil=>simp at hf
   |cons k ks =>
    simp only[af]at hf;obtain⟨⟨h3,h4⟩,h5⟩:=hf
    cases r with
    |nil=>grind [bq]
    |cons u r =>
     cases s with
     |nil=>grind [bq]
     |cons v s =>
      obtain⟨x,xs',P1,P2,e1,ru,rr,_⟩:=r1;obtain⟨y,ys',Q1,Q2,e2,rv,rs,_⟩:=r2;obtain⟨b,hb,hcase⟩:=XL h3 ru rv h (d+1);have hx:xs.toList[n]?=some x:=by have:=aY (λl=>l[0]?) e1;grind
      have hy:ys.toList[n]?=some y:=by have:=aY (λl=>l[0]?) e2;grind
      have ex:xs.toList.drop (n+1)=xs':=by have:=aY (λl=>l.drop 1) e1;grind [List.drop_drop]
      have ey:ys.toList.drop (n+1)=ys':=by have:=aY (λl=>l.drop 1) e2;grind [List.drop_drop]
      have hs:=hstep fd (none,()) h2 x y b (Ek h4 u_) (Ek h4 u_) hb;rw[wN,aO,hs];rcases hcase with ⟨rfl,hc⟩|⟨rfl,rfl⟩
      .exact Wt h5 (by rw[ex];exact rr) (by rw[ey];exact rs) hc hstep
      .simp
def Xn {ty:TypeId}{ks:Y_}(ht:BU P ty ks=true){cs ds:D_}{xs ys:G_}{O1 O2:Nat->Nat}(r1:RVs g w cs xs.toList O1)(r2:RVs g w ds ys.toList O2)
  {tt:Bool}(h:bq ks cs ds=some tt):(Op.equal ty (.agg xs) (.agg ys)).run P w=.ok tt w:=by
 unfold BU at ht;split at ht
 .rename_i fs hu;simp only[af,cH]at ht;obtain⟨⟨h1,h2⟩,h3⟩:=ht;show(Op.equalIn (9997+1+1+1) ty (.agg xs) (.agg ys)).run P w=_;rw[Op.equalIn,aO,ba hu];simp only[bg,aO,run_program,h2,aq,bS,<-Array.forIn_toList];rw[Wt (f:=_) (d:=9997) h1 (by simpa using r1) (by simpa using r2) h (λfd q hn x y b hx hy hb=>by
   have hn':¬fd.name = "_" := by simp_all
   simp only[ne_eq,hn',not_false_eq_true,bR,aO,hx,hy,bg,hb]
   cases b<;>simp)]
  cases tt<;>simp
 simp_all
def atD {neg:Bool}{ks:Y_}{x y:Rd}(s:S P g w st t O)(h:Nq neg ks x y st=some (a,st'))(hc:bw P (.bina neg ks x y) o.op=true) :
  fH P g w t O st' a ((execOp (ev t) o).run P w):=by
 obtain⟨dst,opp,ty,pos,aft,gd⟩:=o;simp only[bw]at hc;split at hc
 .rename_i op' ty' x' y' yt;simp only[af,abt,decide_eq_true_eq]at hc;obtain⟨⟨⟨h0,hb⟩,h1⟩,h2⟩:=hc;obtain⟨va,vb,e,Oa,Ob,O',ra,rb,s',l,hk⟩:=Tm s h1 h2 h;split at hk
  .split at hk
   .rename_i tt htt;obtain⟨rfl,rfl⟩:=hk;obtain⟨xs,hx,r1⟩:=ra;obtain⟨ys,hy,r2⟩:=rb;have heq:=Xn hb r1 r2 htt;have hgt:P.eqGuardType P.depth ty'=false:=by
     grind [BU]
    refine .flat s (x:=_) ?_ (IR _) s' λb=>by grind
    have hg:∀op,(eqGuard op ty' x' y' (.agg xs) (.agg ys)).run P w=.ok () w:=by
     simp_all [eqGuard]
    have hbin:(binOp (match neg with|true=>.neq|false=>.eql) ty' (.agg xs) (.agg ys)).run P w=.ok (.bool (match neg with|true=>!tt|false=>tt)) w:=by
     cases neg
     .show((do pure (.bool (<-Op.equal ty' (.agg xs) (.agg ys))):Sem Value)).run P w=_
      simp_all
     .show((do pure (.bool (!(<-Op.equal ty' (.agg xs) (.agg ys)))):Sem Value)).run P w=_
      simp_all
    simp only[execOp,hx,hy]
    cases neg
    all_goals simp_all
   simp_all
  simp_all
 simp_all
end
abbrev be:=@List.flatMap_cons
abbrev cX:=@List.mem_map
section
variable {P:Program}{g:Gh}{w:World}{t:G_}{O:Nat->Nat}{st st':St}{a:AV}{o:Oper}
def RVs.flat:∀{vs:D_}{xs:M_}{O1:Nat->Nat},RVs g w vs xs O1->(vs.all λv=>Nat.beq v.cells.length 1 && v.cells.all bB)=true->
  RVs g w (vs.flatMap AV.cells) (xs.flatMap λx=>x.cells.toList) O1∧∀x∈xs,x.cells.toList.length=1
 |[],xs,O1,r,_=>by
  grind [RVs]
 |v::vs,xs,O1,r,h=>by
  obtain⟨x,s,P1,P2,rfl,rv,rvs,hs⟩:=r;simp only[gP,af,aC]at h;obtain⟨h1,h2⟩:=rvs.flat e_;have rc:=rv.cells h.1.2;refine⟨?_,λy hy=>?_⟩
  .have hO:O1=λb=>P1 b+P2 b:=funext hs
   grind [join]
  grind [length]
def asL:∀{ps:S_}{parts:List (Nat×Operand)}{k:Nat},fY k ps parts=true->∀{cs:G_},(∀p∈parts,(ev t p.2).cells.toList.length=1)->k+parts.length<=cs.size->
  ∃xs':G_,Instr.fill (λi=>some (i*1,1)) cs (parts.map λp=>(p.1,ev t p.2))=some xs'∧xs'.size=cs.size∧(∀j,j<k->xs'.toList[j]?=cs.toList[j]?)∧
   ∀j,j<parts.length->xs'.toList[k+j]?=(parts.flatMap λp=>(ev t p.2).cells.toList)[j]?
 |[],[],k,_,cs,_,hb=>⟨cs,by simp[Instr.fill],rfl,λ_ _=>rfl,λj hj=>by simp at hj⟩
 |r::ps,(i,x)::parts,k,hc,cs,h1,hb=>by
  simp only[fY,af,aC]at hc;obtain⟨⟨rfl,h2⟩,h3⟩:=hc;have hb:i+(parts.length+1)<=cs.size:=hb;have hx:(ev t x).cells.toList.length=1:=h1 _ (.head _);obtain⟨xs1,e1,e2⟩:=RF (place:=λi=>some (i*1,1)) (rest:=parts.map λp=>(p.1,ev t p.2)) (i:=i) rfl (v:=ev t x) o_ (xs:=cs) o_;have hsz1:xs1.size=cs.size:=by
   grind [DK]
  obtain⟨xs',q1,q2,q3,q4⟩:=asL h3 (cs:=xs1) (λp hp=>h1 p (.tail _ hp)) (by omega)
  grind [kE]
 |[],_::_,_,hc,_,_,_=>by grind [fY]
 |_::_,[],_,hc,_,_,_=>by grind [fY]
def ad7 {α β:Type}{f:α->List β}:∀{l:List α},(∀x∈l,(f x).length=1)->(l.flatMap f).length=l.length
 |[],_=>rfl
 |x::l,h=>by
  rw[be,aN,h x (.head _),ad7 λy hy=>h y (.tail _ hy),ar];omega
def avc {m:Nat}{ps:S_}(s:S P g w st t O)(h:Zz m ps st=some (a,st'))(hc:bw P (.mksv m ps) o.op=true) :
  fH P g w t O st' a ((execOp (ev t) o).run P w):=by
 obtain⟨dst,op,ty,pos,aft,gd⟩:=o;simp only[bw]at hc;split at hc
 .rename_i T len parts;simp only[af,aC,bf,Nat.blt_eq]at hc;obtain⟨⟨⟨⟨⟨⟨rfl,h1⟩,h2⟩,h3⟩,h4⟩,h0⟩,h5⟩:=hc;subst h3;obtain⟨el,hu,hsz,hm,hby⟩:=iA h1;obtain⟨el',i,zv,hu',hi,hz,hzs⟩:=tj h2;rw[hu]at hu';simp only[ae,iy]at hu';subst hu';obtain⟨hrds,hpl⟩:=FZ h5;unfold Zz at h;split at h
  .rename_i vs e hr;split at h
   .rename_i hall;simp only[ae,aM]at h;obtain⟨rfl,rfl⟩:=h;obtain⟨Ov,O',rvs,s',l⟩:=s.rdAll hrds hr;rw[jF]at rvs;have hvl:=rvs.length;simp only[gU]at hvl;obtain⟨rf,hone⟩:=rvs.flat hall;have hplt:parts.toList.length=ps.length:=hpl;generalize hcs:(Array.range (ps.length*1)).map (λj=>(if ps.length*1=0 then (#[]:G_) else zv.cells)[j % (if ps.length*1=0 then (#[]:G_) else zv.cells).size]!)=cs;have hcsz:cs.size=ps.length:=e_;have hone':∀p∈parts.toList,(ev t p.2).cells.toList.length=1:=λp hp=>hone _ (cX.2 ⟨p,hp,rfl⟩)
    obtain⟨xs',q1,q2,q3,q4⟩:=asL (t:=t) (k:=0) h5 (cs:=cs) hone' o_;have hfl:=ad7 (f:=λp:Nat×Operand=>(ev t p.2).cells.toList) hone';have hxs:xs'.toList=parts.toList.flatMap λp=>(ev t p.2).cells.toList:=by
     refine dZ λj=>?_
     grind
    have rvx:RVs g w (vs.flatMap AV.cells) xs'.toList Ov:=by
     grind [List.flatMap_map]
    have hcl:(vs.flatMap AV.cells).length=vs.length:=by grind [RVs.length]
    have hn:=s'.fresh st.hs.next (ai _)
    have hO:∀b,w.heap.size<=b->O b=0:=by
     intro b hb;by_cases h:O b=0
     .exact h
     .have:=s.hi b h;omega
    have hx0:bI g w (g.add st.hs.next w.heap.size 0 1 (vs.flatMap AV.cells).length) (w.alloc (.cells xs' el)) (λ_=>False):=(bI.alloc s.pmlt _ _).add hn _ _ _ _;have r:kh P (g.add st.hs.next w.heap.size 0 1 (vs.flatMap AV.cells).length) (w.alloc (.cells xs' el)) st.hs.next (.cells (vs.flatMap AV.cells)) (λx=>Ov x+one w.heap.size x):=by
     refine⟨w.heap.size,xs',el,Ov,by simp[Gh.add],by simp[Gh.add],by simp[Gh.add],by simp[Gh.add],jR _ _,RVs.ext hx0 _ _ _ rvx s_,λo ho=>?_,λ_=>rfl⟩;have:=s.pmlt _ o ho;omega
    have key:∀b,Ov b+one w.heap.size b+O' b<=1:=by
     intro b;by_cases hb:b=w.heap.size
     .have:=l w.heap.size;simp_all
     .have:=s.le b;grind [one]
    obtain⟨s2,hx⟩:=s'.new r (λb=>key b) (λb hb=>by
     grind [xT])
    refine⟨.slice (some ⟨w.heap.size,0,none⟩) ps.length ps.length,_,_,zero,_,.inl ?_,?_,s2,hx.mono λb _ hb=>by grind,λb=>by simp_all,λb hb=>?_,s_⟩
    .have hbig:¬(ps.length*1 > 2 ^ 24):=o_;have hne:¬(ps.length*1=0):=o_;have hzv:=wz (P:=P) (w:=w) hi hz;simp only[execOp,Instr.buildSlice,aO,ba hu,bg,eQ hsz,hne,bS,dA,mY,hbig,hzv]
     simp_all [newRow]
    .simp_all [RV,Gh.add]
    grind [one]
   simp_all
  simp_all
 simp_all
def arJ {n:Nat}{x:Rd}{lo hi mx:AA_}(s:S P g w st t O)(h:Uf n x lo hi mx st=some (a,st'))(hc:bw P (.slarr n x lo hi mx) o.op=true) :
  fH P g w t O st' a ((execOp (ev t) o).run P w):=by
 obtain⟨dst,op,ty,pos,aft,gd⟩:=o;simp only[bw]at hc;split at hc
 .rename_i ty' y l' h' k';simp only[af]at hc;obtain⟨⟨⟨⟨h1,h2⟩,h3⟩,h4⟩,h5⟩:=hc;have hty:∃el,P.underlying ty'=some (.array n el)∧xE P el 1=true:=by
   grind [TX,Nat.beq_eq]
  obtain⟨el,hu,hsz⟩:=hty;unfold Uf at h;split at h
  .rename_i id off e1 r1;obtain⟨Ov,O1,rv,s1,l1⟩:=s.rd h2 r1;split at h
   .rename_i vl e2 r2;obtain⟨O2,q2,s2,l2⟩:=s1.rdOpt h3 r2;split at h
    .rename_i vh e3 r3;obtain⟨O3,q3,s3,l3⟩:=s2.rdOpt h4 r3;split at h
     .rename_i vm e4 r4;obtain⟨O4,q4,s4,l4⟩:=s3.rdOpt h5 r4;split at h
      .rename_i r hr;simp only[ae,aM]at h;obtain⟨rfl,rfl⟩:=h;have hle:∀b,Ov b+O4 b<=O b:=λb=>by grind
       unfold T7 at hr;split at hr
       .rename_i cs hg;split at hr
        .rename_i hle2;split at hr
         .rename_i l hh mm hb;simp only[ae]at hr;subst hr;have hb1:=dP hle2;obtain⟨Oe,Oh,re,rh,ho⟩:=s.parts;obtain⟨Oq,q,_⟩:=RL.get rh hg;obtain⟨b,c,el2,O5,hob,hbase,hesz,hbsz,_⟩:=q;obtain⟨⟨b',hob',hx⟩,_⟩:=rv;rw[hob]at hob';simp only[ae]at hob';subst hob';obtain⟨m',e1,g1,g2,g3,g4⟩:=Y0 (P:=P) (w:=w) (b:=false) q2 q3 q4 (ai n) hb;refine .pure s (x:=.slice (some (if m'=l then ⟨b,g.base id+off,none⟩ else (⟨b,g.base id+off,none⟩:Addr).add (l*1))) (hh-l) (m'-l)) (Oa:=zero) ?_ ?_ s4 λx=>by simp_all
          .simp only[execOp,aO,Instr.sliceAt,ba hu,bg,hx,Instr.sureAddr,dA,e1,eQ hsz]
          .simp only[RV];refine⟨?_,λ_=>trivial⟩;by_cases hml:m'=l
           .simp_all
           .refine .inr ⟨b,m'-l,hob,?_,o_,?_⟩
            all_goals grind [lY]
         simp_all
        simp_all
       simp_all
      simp_all
     simp_all
    simp_all
   simp_all
  simp_all
 simp_all
end
section
variable {P:Program}{g:Gh}{w:World}{t:G_}{O:Nat->Nat}{st st':St}{a:AV}{o:Oper}
def arj:(Extern.findNext { (default:Func) with name := "internal/bytealg.IndexByte",origin := "" }).isNone=true:=k_
def arv {fn:Func}(h1:fn.name = "internal/bytealg.IndexByte")(h2:fn.origin = ""):Extern.findNext fn=none:=by
 have h:=arj;unfold Extern.findNext at h⊢;have e:(List.lookup "internal/bytealg.IndexByte" Extern.allNextRows)=none:=by
  cases e:(List.lookup "internal/bytealg.IndexByte" Extern.allNextRows)<;>simp_all
 have e2:(List.lookup "" Extern.allNextRows)=none:=by
  cases e2:(List.lookup "" Extern.allNextRows)<;>simp_all
 grind
def ap8 {fn:Func}(h1:fn.name = "internal/bytealg.IndexByte"):Extern.find fn=some Extern.BytealgIndexByte.indexByte:=by
 unfold Extern.find;have e1:(List.lookup "internal/bytealg.IndexByte" Extern.allGenericRows).isNone=true:=k_;have e2:(List.lookup "internal/bytealg.IndexByte" Extern.allTypedRows).isNone=true:=k_;have e3:List.lookup "internal/bytealg.IndexByte" Extern.allRows=some Extern.BytealgIndexByte.indexByte:=k_
 grind [Option.isNone_iff_eq_none]
def afh:∀(l:AF_) (c:UInt8) (i:Nat),KY l c.toNat i=if Lib.indexByte l c == -1 then -1 else Lib.indexByte l c+i
 |[],c,i=>by simp[KY,Lib.indexByte]
 |b::l,c,i=>by
  have hp:Lib.indexByte l c=-1∨0<=Lib.indexByte l c:=by
   induction l<;>grind [Lib.indexByte]
  simp only[KY,Lib.indexByte];by_cases h:b=c
  .simp_all
  .have hn:Nat.beq b.toNat c.toNat=false:=by
    grind [Nat.beq_eq,UInt8.toNat_inj]
   rw[afh l c (i+1)]
   grind
theorem acO (ad:Addr)(cap:Nat)(ns:C_)(cv:Int)(hc:∀j u,(ns.map fun(n:Nat)=>Value.int .u8 (n:Int))[j]?=some u->w.cell? (ad.add j)=some u) :
  (Extern.BytealgIndexByte.indexByte #[.slice (some ad) ns.length cap,.int .u8 cv]).run P w=.ok (.int .i64 (Lib.indexByte (Lib.bytesOf (ns.map fun(n:Nat)=>(n:Int))) cv.toNat.toUInt8)) w:=by
 generalize hxs:ns.map (fun(n:Nat)=>(n:Int))=xs;have hl:=Lib.run_loadBytesX (P:=P) w xs ad .empty (λj x hj=>hc j _ (by
  grind))
 have hs:=Lib.run_indexByteString (P:=P) ⟨(Lib.bytesOf xs).toArray⟩ cv w;have he:(⟨ByteArray.empty.data++(Lib.bytesOf xs).toArray⟩:ByteArray)=⟨(Lib.bytesOf xs).toArray⟩:=by
  simp_all
 change Sem.run P (do
  let b<-Extern.Bytes.bytesOf (.slice (some ad) ns.length cap)
  let c<-Extern.Bytes.asByte (.int .u8 cv)
  match (List.range b.size).find? λi=>b[i]! == c with
  |some i=>pure (goInt i)
  |none=>pure (goInt (-1))) w=_
 change Sem.run P (do
  let b<-Extern.Bytes.bytesOf (.string ⟨(Lib.bytesOf xs).toArray⟩)
  let c<-Extern.Bytes.asByte (.int .u8 cv)
  match (List.range b.size).find? λi=>b[i]! == c with
  |some i=>pure (goInt i)
  |none=>pure (goInt (-1))) w=_ at hs
 grind [Extern.Bytes.bytesOf,Sem.run_bind,Result.andThen]
def aua {x c:Rd}(s:S P g w st t O)(h:aeJ x c st=some (a,st'))(hc:bw P (.idxb x c) o.op=true) :
  fH P g w t O st' a ((execOp (ev t) o).run P w):=by
 obtain⟨dst,op,ty,pos,aft,gd⟩:=o;simp only[bw]at hc;split at hc
 .rename_i k;obtain⟨callee,as,ats⟩:=k;simp only[af]at hc;obtain⟨h1,h2⟩:=hc;split at h1
  .rename_i f hf;have hcal:callee=.value (.func f):=by
    unfold Cc at hf
    grind
   subst hcal;unfold an1 at h1;split at h1
   .rename_i fn hfn;simp only[af,beq_iff_eq]at h1;obtain⟨⟨hn1,hn2⟩,hn3⟩:=h1;obtain⟨x',c',has,hx,hcc⟩:∃x' c',as.toList=[x',c']∧cI x x'=true∧cI c c'=true:=by
     revert h2
     cases as.toList with
     |nil=>grind [ep]
     |cons x' l=>cases l<;>grind [ep]
    have has':as=#[x',c']:=Array.ext' has;obtain⟨va,vb,e,Oa,Ob,O',ra,rb,s',l,hk⟩:=Tm s hx hcc h;split at hk
    .rename_i r hr;obtain⟨rfl,rfl⟩:=hk;unfold aqw at hr;split at hr
     .rename_i n;split at hr
      .rename_i xs hxs;split at hr
       .rename_i q hq;simp only[ae]at hr;subst hr;unfold indexByte at hq;split at hq
        .rename_i b hb;simp only[ae]at hq;subst hq;obtain⟨ns,rfl,rfl⟩:=JK hb;have hl1:∀e∈ns.map (fun(n:Nat)=>[D.int .u8 (Int.ofNat n)]),e.length=1:=by
          simp_all
         obtain⟨ad,cap,news,hxv,hels⟩:=C0 (st:=⟨e,st.hs⟩) s' hxs hl1 ra;have hcv:=Bw rb rfl;have hargs:#[ev t x',ev t c']=#[Value.slice ad (ns.map (fun(n:Nat)=>[D.int .u8 (Int.ofNat n)])).length cap,.int .u8 n]:=u_;have hres:KY (ns.map Nat.toUInt8) (n.toNat % 256) 0=Lib.indexByte (Lib.bytesOf (ns.map fun(n:Nat)=>(n:Int))) n.toNat.toUInt8:=by
          have h1:n.toNat % 256=(n.toNat.toUInt8).toNat:=s_;rw[h1,afh];have h2:Lib.bytesOf (ns.map fun(n:Nat)=>(n:Int))=ns.map Nat.toUInt8:=by
           simp[Lib.bytesOf]
          grind
         have hrun:(Extern.BytealgIndexByte.indexByte #[ev t x',ev t c']).run P w=.ok (.int .i64 (KY (ns.map Nat.toUInt8) (n.toNat % 256) 0)) w:=by
          rw[hargs,hres]
          cases ad with
          |none =>
           have h0:=hels.nn rfl;have:ns=[]:=aI u_;subst this;exact Lib.run_indexByteNil w _ _ _
          |some ad =>
           have hnews:news=ns.map fun(n:Nat)=>Value.int .u8 (n:Int):=by
            apply dZ;intro j;rcases bD j ns.length with hj|hj
            .have hd:(ns.map (fun(n:Nat)=>[D.int .u8 (Int.ofNat n)])).flatten[j]?=some (D.int .u8 (Int.ofNat ns[j])):=by grind [Yc]
             obtain⟨u,hu,hr⟩:=hels.rd j _ hd
             cases hr
             simp_all
            grind [DJ.len]
           grind [acO,DJ.cell]
         refine .flat s (x:=.int .i64 (KY (ns.map Nat.toUInt8) (n.toNat % 256) 0)) ?_ (by simp only[RV];exact⟨.int _ _,λ_=>trivial⟩) s' λb=>by grind
         simp only[execOp,resolve,aO,ev,Deferred.ofValue,dA,bg,invoke]
         simp_all [run_callFunc_extern,arv,ap8]
        simp_all
       simp_all
      simp_all
     simp_all
    simp_all
   simp_all
  simp_all
 simp_all
end
abbrev FR (ro:J_):Fence:={ Fence.wide with round:=ro }
theorem aat (ro:J_)(n:Nat):(FR ro).room n:=λ_ h=>by grind [Fence.wide]
def Py {ro:J_}{n:Nat}{P:Program}{f:FuncId}{args:G_}{w:World}{R:Ending->World->Prop}(h:CallsIn (FR none) n P f args w R):CallsIn (FR ro) n P f args w R:=h
section
variable {P:Program}{g:Gh}{w:World}{t:G_}{O:Nat->Nat}{st st':St}{a:AV}{o:Oper}
structure DZ (P:Program)(g:Gh)(w:World)(t:G_)(O:Nat->Nat)(st':St)(a:AV)(x:Value)(w':World)(g':Gh)(Oa O':Nat->Nat):Prop where
 val:RV g' w' a x Oa
 st:S P g' w' st' t O'
 ext:bI g w g' w' λb=>O b≠0
 le:∀b,Oa b+O' b<=1
 old:∀b,b<w.heap.size->Oa b+O' b<=O b
 hi:∀b,Oa b≠0->b<w'.heap.size
def OpW (ro:J_)(P:Program)(g:Gh)(w:World)(t:G_)(O:Nat->Nat)(st':St)(a:AV)(o:Oper):Prop :=
 ∀(ds:List Deferred) (next:Act->World->Prop) (Q:Exit->Act->World->Prop),(∀x w' g' Oa O',DZ P g w t O st' a x w' g' Oa O'->next (Act.put ⟨t,ds⟩ o.dst x) w')->
  o.uponIn (FR ro) 0 P ⟨t,ds⟩ next Q ((execOp (ev t) o).run P w)
def fH.opW {ro:J_}(h:fH P g w t O st' a ((execOp (ev t) o).run P w)):OpW ro P g w t O st' a o:=by
 obtain⟨x,w',g',Oa,O',k⟩:=h;intro ds next Q hn;have hx:=hn x w' g' Oa O' ⟨k.val,k.st,k.ext,k.le,k.old,k.hi⟩;rcases k.run with hr|⟨hr,rfl⟩
 .rw[hr];exact hx
 .rw[hr];exact hx
abbrev xN (t:G_)(dst:J_)(x:Value):G_:=(Act.put ⟨t,[]⟩ dst x).tmps
theorem Ze (t:G_)(ds:List Deferred)(dst:J_)(x:Value):Act.put ⟨t,ds⟩ dst x=⟨xN t dst x,ds⟩:=by cases dst<;>rfl
theorem rR (t:G_)(dst:J_)(x:Value):(xN t dst x).size=t.size:=by cases dst<;>simp[xN,Act.put]
structure gS (P:Program)(g:Gh)(w:World)(t:G_)(O:Nat->Nat)(st':St)(t':G_)(w':World)(g':Gh)(O':Nat->Nat):Prop where
 st:S P g' w' st' t' O'
 ext:bI g w g' w' λb=>O b≠0
 old:∀b,b<w.heap.size->O' b<=O b
 size:t'.size=t.size
def gS.refl (s:S P g w st t O):gS P g w t O st t w g O:=⟨s,.refl _ _ _,λ_ _=>ai _,rfl⟩
def gS.trans {t1 t2:G_}{w1 w2:World}{g1 g2:Gh}{O1 O2:Nat->Nat}{st1 st2:St}(h1:gS P g w t O st1 t1 w1 g1 O1)(h2:gS P g1 w1 t1 O1 st2 t2 w2 g2 O2) :
  gS P g w t O st2 t2 w2 g2 O2 where
 st:=h2.st
 ext:=h1.ext.trans h2.ext λb hb h=>by grind [old]
 old b hb:=aP (h2.old b (aW hb h1.ext.size)) (h1.old b hb)
 size:=h2.size.trans h1.size
def ago {st1:St}{x:Value}{w':World}{g1:Gh}{Oa O1:Nat->Nat}(k:DZ P g w t O st1 a x w' g1 Oa O1){dst:J_}(hd:∀d,dst=some d->d<t.size)(th:Q_) :
  ∃g' O',gS P g w t O (cM dst (firm (dO th a st1.hs).1) ⟨st1.env,(dO th a st1.hs).2⟩) (xN t dst x) w' g' O':=by
 obtain⟨g2,Ov2,O2,r2,s2,x2,l2⟩:=L9 (P:=P) (t:=t) th (env:=st1.env) (hs:=st1.hs) k.st k.val k.le k.hi;have hle2:∀b,Ov2 b+O2 b<=1:=λb=>aP (l2 b) (k.le b)
 obtain⟨g3,r3,s3,x3⟩:=afR s2 r2 hle2;have hext:bI g w g3 w' λb=>O b≠0:=(k.ext.trans x2 (λ_ _ h=>h.elim)).trans x3 λb hb h=>by grind [DZ.old]
 cases dst with
 |none=>exact⟨g3,O2,s3,hext,λb hb=>by grind [DZ.old],rfl⟩
 |some d =>
  obtain⟨O4,s4,l4⟩:=s3.setTmp (hd d rfl) r3 hle2 λb hb=>by
   by_cases h:Oa b=0
   .exact k.st.hi b (by grind)
   .exact k.hi b h
  exact⟨g3,O4,s4,hext,λb hb=>by grind [DZ.old],rR _ _ _⟩
def S.split (s:S P g w st t O):∃Oe Oh,kt g w st.env t Oe∧S P g w ⟨[],st.hs⟩ #[] Oh∧∀b,O b=Oe b+Oh b:=by
 obtain⟨Oe,Oh,re,rh,ho⟩:=s.parts;exact⟨Oe,Oh,re,⟨List.Pairwise.nil,s.sh,⟨zero,Oh,λ_=>rfl,rh,λb=>by simp⟩,λb=>by have:=s.le b;grind,λb hb=>s.hi b u_,s.fresh,s.pmlt⟩,ho⟩
theorem S.join {e:aT}{hs:HS}{Oe Oh:Nat->Nat}(he:cQ e)(re:kt g w e t Oe)(s:S P g w ⟨[],hs⟩ #[] Oh)(hle:∀b,Oe b+Oh b<=1)(hhi:∀b,Oe b≠0->b<w.heap.size) :
  S P g w ⟨e,hs⟩ t λb=>Oe b+Oh b:=by
 obtain⟨O0,Oh',r0,rh,ho⟩:=s.parts;have h0:∀b,Oh b=Oh' b:=λb=>by have:=ho b;have:O0 b=0:=r0 b;omega
 exact⟨he,s.sh,⟨Oe,Oh',re,rh,λb=>by simp_all⟩,hle,λb hb=>by
  grind [hi],s.fresh,s.pmlt⟩
theorem IS (t:G_)(ds:List Deferred):(⟨t,ds⟩:Act).eval=ev t:=by
 funext x;cases x<;>rfl
theorem Qd {ro:J_}(t:G_)(ds:List Deferred)(h:∀c,o.op≠.defer c):o.semAt ro (⟨t,ds⟩:Act).eval=execOp (ev t) o:=by
 grind [Oper.semAt_eq,IS]
end
section
variable {P:Program}{g:Gh}{w:World}{t:G_}{O:Nat->Nat}{st st':St}{o:Oper}{ops:Array Oper}
theorem aph (s:S P g w st t O){gd:Option (Nat×Bool)}(hg:E7 ops gd o.guard=true) :
  (gd=none->Region.wanted o (yielded ops t)=true)∧
  ∀sl want,gd=some (sl,want)->(∀b,get st.env sl=some (B_ b)->Region.wanted o (yielded ops t)=(b == want))∧(get st.env sl=some (.tup [])->Region.wanted o (yielded ops t)=false):=by
 cases gd with
 |none =>
  grind [Region.wanted,E7]
 |some p =>
  obtain⟨sl,want⟩:=p
  cases hog:o.guard with
  |none=>grind [E7]
  |some q =>
   rw[hog]at hg;simp only[E7,af,beq_iff_eq]at hg;obtain⟨rfl,h2⟩:=hg;refine⟨λh=>by simp at h,λsl' want' h=>?_⟩;obtain⟨rfl,rfl⟩:=h;obtain⟨Oe,Oh,re,rh,ho⟩:=s.parts;split at h2
   .split at h2
    .rename_i d hd;rw[aC]at h2;subst h2;refine⟨λb hb=>?_,λhb=>?_⟩
     .obtain⟨O1,⟨hlt,q⟩,_⟩:=RL.get re hb;have hv:t.getD d undef=.bool b:=C5 q rfl
      simp_all [Region.wanted,yielded]
     .obtain⟨O1,⟨hlt,q⟩,_⟩:=RL.get re hb;obtain⟨xs,hv,hxs,_⟩:=q
      simp_all [Region.wanted,yielded]
    simp_all
   simp_all
end
def gW (P:Program)(g:Gh)(w:World)(O:Nat->Nat)(v:AV)(hs':HS):Ending->World->Prop
 |.returned x,w'=>∃g' Or Oh,RV g' w' v x Or∧S P g' w' ⟨[],hs'⟩ #[] Oh∧bI g w g' w' (λb=>O b≠0)∧(∀b,Or b+Oh b<=1)∧(∀b,b<w.heap.size->Or b+Oh b<=O b)∧
   ∀b,Or b≠0->b<w'.heap.size
 |_,_=>False
def amy (P:Program)(f:FuncId):Prop:=∃fn,P.funcs[f]?=some fn∧fn.body.isSome=true∧fn.name≠ "runtime.NumGoroutine"
def iB (P:Program)(r:dF):Prop :=
 ∀{f:FuncId}{args:D_}{hs:HS}{v:AV}{hs':HS},r.call f args hs=some (v,hs')->amy P f∧
  ∀{g:Gh}{w:World}{xs:M_}{Oa Oh:Nat->Nat},RVs g w args xs Oa->S P g w ⟨[],hs⟩ #[] Oh->(∀b,Oa b+Oh b<=1)->(∀b,Oa b≠0->b<w.heap.size)->
   CallsIn (FR none) 0 P f xs.toArray w (gW P g w (λb=>Oa b+Oh b) v hs')
section
variable {P:Program}{g:Gh}{w:World}{t:G_}{O:Nat->Nat}{st st':St}{a:AV}{o:Oper}{r:dF}
def It {e:aT}{hs hs':HS}{Ov Oe Oh:Nat->Nat}{x:Value}{w':World}{v:AV}(he:cQ e)(re:kt g w e t Oe)(hle:∀b,Ov b+(Oe b+Oh b)<=O b)(s0:S P g w st t O)
  (h:gW P g w (λb=>Ov b+Oh b) v hs' (.returned x) w'):∃g' Oa O',DZ P g w t O ⟨e,hs'⟩ v x w' g' Oa O':=by
 obtain⟨g',Or,Oh',h1,h2,h3,h4,h5,h6⟩:=h;have hle1:∀b,Ov b+(Oe b+Oh b)<=1:=λb=>aP (hle b) (s0.le b)
 have re':=kt.ext h3 re λb hb h=>by grind
 have hoe:∀b,¬b<w.heap.size->Oe b=0:=λb hb=>by
  grind [S.hi]
 have hsum:∀b,Or b+(Oe b+Oh' b)<=1:=λb=>by
  grind
 have s':=S.join he re' h2 (λb=>by grind) λb hb=>aW (s0.hi b e_) h3.size
 refine⟨g',Or,_,h1,s',h3.mono λb _ hb=>by grind,hsum,λb hb=>?_,h6⟩
 grind
def VU {ro:J_}{f:FuncId}{args:G_}{e:aT}{hs hs':HS}{Ov Oe Oh:Nat->Nat}{v:AV}(he:cQ e)(re:kt g w e t Oe)(hle:∀b,Ov b+(Oe b+Oh b)<=O b)(s0:S P g w st t O)
  (hrun:(execOp (ev t) o).run P w=.ok (.enter f args) w)(hk:CallsIn (FR none) 0 P f args w (gW P g w (λb=>Ov b+Oh b) v hs')):OpW ro P g w t O ⟨e,hs'⟩ v o:=by
 intro ds next Q hn
 rw[hrun,Oper.uponIn_enter];refine⟨λh=>by grind [Fence.wide],Py (hk.mono λen w' hp=>?_)⟩
 cases en with
 |returned x =>
  obtain⟨g',Oa,O',k⟩:=It (hs:=hs) he re hle s0 hp
  grind
 |panicked c=>exact hp.elim
 |outgrown=>exact hp.elim
theorem xU {f:FuncId}(h:amy P f)(args:G_):(callFunc f args).run P w=.ok (.enter f args) w:=by
 obtain⟨fn,h1,h2,h3⟩:=h;have h2':¬fn.body=none:=e_
 simp_all [callFunc]
def LS {c:Callee}{f:FuncId}(h:(match Cc c with|some g=>Nat.beq f g|none=>false)=true):c=.value (.func f):=by
 split at h
 .rename_i g hg;rw[aC]at h;unfold Cc at hg
  grind
 simp_all
def asq {ro:J_}{f:FuncId}{args:S_}(hr:iB P r)(s:S P g w st t O)(h:Fu r f args st=some (a,st'))(hc:bw P (.calli f args) o.op=true) :
  OpW ro P g w t O st' a o:=by
 obtain⟨dst,op,ty,pos,aft,gd⟩:=o;simp only[bw]at hc;split at hc
 .rename_i c;simp only[af]at hc;obtain⟨h1,h2⟩:=hc;obtain⟨callee,as,ats⟩:=c;have:=LS h1;subst this;unfold Fu at h;split at h
  .rename_i vs e hrd;split at h
   .rename_i v hs' hcall;obtain⟨rfl,rfl⟩:=h;obtain⟨Ov,O',rvs,s',l⟩:=s.rdAll h2 hrd;obtain⟨Oe,Oh,re,sh,ho⟩:=s'.split;obtain⟨hfn,hk⟩:=hr hcall;have hle:∀b,Ov b+(Oe b+Oh b)<=O b:=λb=>by simp_all
    have hk:=hk rvs sh (λb=>by have:=hle b;have:=s.le b;omega) (λb hb=>s.hi b e_);refine VU (hs:=st.hs) s'.se re hle s ?_ hk;simp only[execOp,resolve,aO,ev,Deferred.ofValue,dA,bg,invoke];rw[xU hfn]
    congr 2
    grind
   simp_all
  simp_all
 simp_all
end
section
variable {P:Program}{g:Gh}{w:World}{t:G_}{O:Nat->Nat}{st st':St}{a:AV}{o:Oper}{r:dF}
theorem RD.mono {pm pm':Nat->Nat->Prop}(h:∀b o,pm b o->pm' b o){c:D}{x:Value}(r:RD w pm c x):RD w pm' c x:=by
 induction r with
 |int k n=>exact .int k n
 |bool b=>exact .bool b
 |str s=>exact .str s
 |nil a cap=>exact .nil a cap
 |lst xs b off m cap u hm hcap hl hc hr ih=>exact .lst xs b off m cap u hm hcap hl (λj c hj=>⟨(hc j c hj).1,h _ _ (hc j c hj).2⟩) (λj c hj=>ih j c hj)
def jd.mono {pm pm':Nat->Nat->Prop}(h:∀b o,pm b o->pm' b o){cs:V_}{b off:Nat}(r:jd w pm cs b off):jd w pm' cs b off:=λj c hj=>by
 obtain⟨u,hu,hr⟩:=r j c hj
 grind [RD.mono]
theorem RD.flat {pm pm':Nat->Nat->Prop}{c:D}{x:Value}(hf:jf c=true)(r:RD w pm c x):RD w pm' c x:=by
 cases r with
 |int k n=>exact .int k n
 |bool b=>exact .bool b
 |str s=>exact .str s
 |nil a cap=>exact .nil a cap
 |lst xs=>simp[jf]at hf
def Gh.view (g:Gh)(w:World)(K:Nat->Prop):Gh where
 obj _:=none
 base _:=0
 esz _:=0
 bsz _:=0
 pm b o:=g.pm b o∨(K b∧b<w.heap.size)
def av7 (s:S P g w st t O)(K:Nat->Prop):S P (g.view w K) w ⟨[],⟨[],0⟩⟩ #[] zero :=
 ⟨List.Pairwise.nil,List.Pairwise.nil,⟨zero,zero,λ_=>rfl,λ_=>rfl,λ_=>rfl⟩,λ_=>by simp,λb hb=>by simp at hb,λ_ _=>rfl,λb o h=>h.elim (s.pmlt b o) λh=>h.2⟩
def Vu (s:S P g w st t O){K:Nat->Prop}{v d:AV}{x:Value}{Ov:Nat->Nat}(h:viewOne st.hs.heap v=some d)(hK:wY v=true->∀b,O b≠0->K b)(rv:RV g w v x Ov) :
  RV (g.view w K) w d x zero:=by
 have hm:∀b o,g.pm b o->(g.view w K).pm b o:=λb o h=>.inl h
 cases v<;>simp only[viewOne,reduceCtorEq]at h
 .grind [RV,RD.mono]
 .grind [RV]
 .rename_i p m xs
  cases p
  .have:=RV.share _ _ _ rv
   grind [share,RV,RD.mono]
  simp_all
 .rename_i id off len;split at h
  .rename_i xs hx;simp only[ae]at h;subst h;simp only[elems]at hx;split at hx
   .rename_i zs hzs;split at hx
    .rename_i hb;rw[bf]at hb;simp only[ae]at hx;subst hx;have hsl:(Vm.sub zs off len).length=len:=kz hb;simp only[RV]at rv⊢;refine⟨?_,λ_=>trivial⟩;rcases rv.1 with ⟨rfl,ad,rfl⟩|⟨b,cap,hob,rfl,hlc,hcap⟩
     .exact .nil _ _
     .obtain⟨Oe,Oh,re,rh,ho⟩:=s.parts;have key:∀(m:Nat),0<m->g.esz id=m->(∀e∈zs,e.length=m)->jd w g.pm zs.flatten b (g.base id)->O b≠0->RD w (g.view w K).pm (.lst (Vm.sub zs off len)) (.slice (some ⟨b,g.base id+off*g.esz id,none⟩) len cap):=by
       intro m hm0 hes hl hc hO;have hsubl:=IV hl off len;have:=jd.rd (w:=w) (pm:=(g.view w K).pm) (xs:=Vm.sub zs off len) (b:=b) (off:=g.base id+off*g.esz id) (cap:=cap) hm0 o_ hsubl (by
        rw[oN hl,hes];exact(hc.sub _ _).mono hm) (λj _=>.inr ⟨hK rfl b hO,s.hi b hO⟩)
       simp_all
      unfold objElems at hzs;split at hzs
      .rename_i m' ys hg;obtain⟨O1,q,hO1⟩:=RL.get rh hg;rcases q with ⟨rfl,_⟩|⟨b',c,el,g1,g2,g3,g4,g5,g6,g7,g8,g9,g10⟩
       .have h0:len=0:=u_;subst h0;exact .nil _ _
       grind [B8]
      .rename_i cs hg;split at hzs
       .rename_i ds hds;simp only[ae]at hzs;subst hzs;obtain⟨O1,q,hO1⟩:=RL.get rh hg;obtain⟨b',c,el,O2,g1,g2,g3,g4,g5,g6,g7,g8⟩:=q;obtain⟨h1,h2,h3⟩:=OG hds g6;refine key 1 o_ g3 (af2 ds) ?_ (by grind [B8]);rw[ST,g2];intro j d hj
        grind [gZ]
       simp_all
      simp_all
    simp_all
   simp_all
  simp_all
def VN (s:S P g w st t O){K:Nat->Prop}:∀{vs ds:D_}{xs:M_}{Ov:Nat->Nat},viewAll st.hs.heap vs=some ds->(vs.any wY=true->∀b,O b≠0->K b)->RVs g w vs xs Ov->
  RVs (g.view w K) w ds xs zero
 |[],ds,xs,Ov,h,hK,rv=>by
  grind [viewAll,RVs]
 |v::vs,ds,xs,Ov,h,hK,rv=>by
  simp only[viewAll]at h;split at h
  .simp at h
  .rename_i d hd;split at h
   .simp at h
   .rename_i ds' hds;simp only[ae]at h;subst h;obtain⟨x,ys,O1,O2,rfl,r1,r2,hs⟩:=rv;exact⟨x,ys,zero,zero,rfl,Vu s hd (λh=>hK (by simp[h])) r1,VN s hds (λh=>hK u_) r2,λ_=>rfl⟩
def aiC (s:S P g w st t O){K:Nat->Prop}{v d:AV}{x:Value}{Ov:Nat->Nat}(h:viewArg st.hs.heap v=some d)(hK:ve v=true->∀b,O b≠0->K b)(rv:RV g w v x Ov) :
  RV (g.view w K) w d x zero:=by
 cases v<;>simp only[viewArg]at h<;>try exact Vu s h (λhh=>hK hh) rv
 split at h
 .rename_i xs hx;simp only[ae]at h;subst h;obtain⟨ys,e,r⟩:=rv;exact⟨ys,e,VN s hx (λhh=>hK hh) r⟩
 simp_all
def Tr (s:S P g w st t O){K:Nat->Prop}:∀{vs ds:D_}{xs:M_}{Ov:Nat->Nat},viewArgs st.hs.heap vs=some ds->(vs.any ve=true->∀b,O b≠0->K b)->RVs g w vs xs Ov->
  RVs (g.view w K) w ds xs zero
 |[],ds,xs,Ov,h,hK,rv=>by
  grind [viewArgs,RVs]
 |v::vs,ds,xs,Ov,h,hK,rv=>by
  simp only[viewArgs]at h;split at h
  .simp at h
  .rename_i d hd;split at h
   .simp at h
   .rename_i ds' hds;simp only[ae]at h;subst h;obtain⟨x,ys,O1,O2,rfl,r1,r2,hs⟩:=rv;exact⟨x,ys,zero,zero,rfl,aiC s hd (λh=>hK (by simp[h])) r1,Tr s hds (λh=>hK u_) r2,λ_=>rfl⟩
end
section
variable {P:Program}{g:Gh}{w:World}{t:G_}{O:Nat->Nat}{st st':St}{a:AV}{o:Oper}{r:dF}
def rS:AV->Bool
 |.d _|.nl|.own _ _ _=>true
 |_=>false
def tE:AV->Bool
 |.agg cs=>cs.all rS
 |v=>rS v
def I3:AV->Bool
 |.tup vs=>vs.all tE
 |v=>tE v
def XU (P:Program)(g:Gh)(w:World)(O:Nat->Nat)(n:Nat)(x:Value)(Ov:Nat->Nat)(r:AV×ak):Prop :=
 ∃Ov' O',RV g w r.1 x Ov'∧S P g w ⟨[],⟨r.2,n⟩⟩ #[] O'∧∀b,Ov' b+O' b<=Ov b+O b
def axg (P:Program)(g:Gh)(w:World)(O:Nat->Nat)(n:Nat)(xs:M_)(Ov:Nat->Nat)(r:D_×ak):Prop :=
 ∃Ov' O',RVs g w r.1 xs Ov'∧S P g w ⟨[],⟨r.2,n⟩⟩ #[] O'∧∀b,Ov' b+O' b<=Ov b+O b
def Yu {h:ak}{n:Nat}(s:S P g w ⟨[],⟨h,n⟩⟩ #[] O){v:AV}{x:Value}{Ov:Nat->Nat}{r:AV×ak}(hr:kJ h v=some r)(rv:RV g w v x Ov) :
  XU P g w O n x Ov r∧rS r.1=true:=by
 have triv:∀v,RV g w v x Ov->XU P g w O n x Ov (v,h):=λv rv=>⟨Ov,O,rv,s,λ_=>ai _⟩
 cases v<;>simp only[kJ,reduceCtorEq]at hr
 .simp only[ae]at hr;subst hr;exact⟨triv _ rv,rfl⟩
 .simp only[ae]at hr;subst hr;exact⟨triv _ rv,rfl⟩
 .simp only[ae]at hr;subst hr;exact⟨triv _ rv,rfl⟩
 .rename_i id off len;split at hr
  .rename_i m xs hg;split at hr
   .rename_i hb;rw[bf]at hb;simp only[ae]at hr;subst hr;refine⟨?_,rfl⟩;obtain⟨Oe,Oh,re,rh,ho⟩:=s.parts;obtain⟨O1,O2,q,r2,hs⟩:=RL.take rh hg;have hle2:∀b,Oe b+O2 b<=O b:=λb=>by grind
    have s2:S P g w ⟨[],⟨del h id,n⟩⟩ #[] (λb=>Oe b+O2 b) :=
     ⟨s.se,s.sh.del id,⟨Oe,O2,re,r2,λ_=>rfl⟩,λb=>aP (hle2 b) (s.le b),λb hb=>s.hi b e_,s.fresh,s.pmlt⟩
    have hsub:(Vm.sub xs off len).length=len:=kz hb;have emp:len=0->(∃a,x=.slice a 0 0)->RV g w (.own true m (Vm.sub xs off len)) x zero:=by
     grind [RV,EP]
    rcases rv with ⟨h0,h⟩|⟨b,cap,hob,rfl,hlc,hcap⟩
    .exact⟨zero,_,emp h0 h,s2,λb=>by simp_all⟩
    .rcases q with ⟨rfl,g1,g2,g3,_⟩|⟨b',c,el,g1,g2,g3,g4,g5,g6,g7,g8,g9,g10⟩
     .have hl0:len=0:=u_;have hc0:cap=0:=by
       grind [Nat.mul_eq_zero]
      subst hl0 hc0;exact⟨zero,_,emp rfl ⟨_,rfl⟩,s2,λb=>by simp_all⟩
     .rw[hob]at g1;simp only[ae]at g1;subst g1;refine⟨one b,_,?_,s2,λy=>?_⟩
      .refine .inr ⟨b,g.base id+off*m,cap,c,el,u_,o_,g3,IV g7 off len,g4,?_,?_,λo ho=>absurd ho (g9 o),λh=>by simp at h,rfl⟩
       .grind [Nat.add_mul]
       simp_all [oN,jd.sub]
      grind
   simp_all
  simp_all
def LW {n:Nat}{f:ak->AV->AE_}{fs:ak->D_->Option (D_×ak)}{p:AV->Bool}
  (hf:∀{h:ak}{O:Nat->Nat},S P g w ⟨[],⟨h,n⟩⟩ #[] O->∀{v:AV}{x:Value}{Ov:Nat->Nat}{r:AV×ak},f h v=some r->RV g w v x Ov->XU P g w O n x Ov r∧p r.1=true)
  (hnil:∀h,fs h []=some ([],h))(hcons:∀h v vs r,fs h (v::vs)=some r->∃v' h' vs' h'',f h v=some (v',h')∧fs h' vs=some (vs',h'')∧r=(v'::vs',h'')) :
  ∀{vs:D_}{h:ak}{O:Nat->Nat},S P g w ⟨[],⟨h,n⟩⟩ #[] O->∀{xs:M_}{Ov:Nat->Nat}{r:D_×ak},fs h vs=some r->RVs g w vs xs Ov->axg P g w O n xs Ov r∧r.1.all p=true
 |[],h,O,s,xs,Ov,r,hr,rv=>by
  rw[hnil]at hr;simp only[ae]at hr;subst hr;exact⟨⟨Ov,O,rv,s,λ_=>ai _⟩,rfl⟩
 |v::vs,h,O,s,xs,Ov,r,hr,rv=>by
  obtain⟨v',h',vs',h'',e1,e2,rfl⟩:=hcons _ _ _ _ hr;obtain⟨x,ys,O1,O2,rfl,r1,r2,hs⟩:=rv;obtain⟨⟨Ov1,O3,q1,s1,l1⟩,p1⟩:=hf s e1 r1;obtain⟨⟨Ov2,O4,q2,s2,l2⟩,p2⟩:=LW hf hnil hcons s1 e2 r2;refine⟨⟨λb=>Ov1 b+Ov2 b,O4,?_,s2,λb=>by grind⟩,u_⟩
  grind [RVs]
def XA {h:ak}{n:Nat}{O:Nat->Nat}(s:S P g w ⟨[],⟨h,n⟩⟩ #[] O){v:AV}{x:Value}{Ov:Nat->Nat}{r:AV×ak}(hr:fV h v=some r)(rv:RV g w v x Ov) :
  XU P g w O n x Ov r∧tE r.1=true:=by
 have base:∀{v:AV},RV g w v x Ov->kJ h v=some r->XU P g w O n x Ov r∧tE r.1=true:=λrv hr=>by
  obtain⟨h1,h2⟩:=Yu s hr rv;refine⟨h1,?_⟩;obtain⟨v',h'⟩:=r
  cases v'<;>first|exact h2|grind [rS]
 cases v<;>simp only[fV]at hr<;>try exact base rv hr
 split at hr
 .rename_i vs' h' hx;simp only[ae]at hr;subst hr;obtain⟨ys,e,rr⟩:=rv;obtain⟨⟨Ov1,O1,q1,s1,l1⟩,p1⟩:=LW (f:=kJ) (fs:=ub) (p:=rS) Yu (λ_=>rfl) (λh v vs r hr=>by
   grind [ub]) s hx rr
  exact⟨⟨Ov1,O1,by grind [RV],s1,l1⟩,p1⟩
 simp_all
def alR {h:ak}{n:Nat}(s:S P g w ⟨[],⟨h,n⟩⟩ #[] O){v r:AV}{x:Value}{Ov:Nat->Nat}(hr:eY h v=some r)(rv:RV g w v x Ov) :
  ∃u Ov',r=et u∧RV g w u x Ov'∧(∀b,Ov' b<=Ov b+O b)∧I3 u=true:=by
 have base:∀{v:AV},RV g w v x Ov->(match fV h v with|some (x,_)=>some (et x)|none=>none)=some r->∃u Ov',r=et u∧RV g w u x Ov'∧(∀b,Ov' b<=Ov b+O b)∧I3 u=true:=λrv hr=>by
  split at hr
  .rename_i u h' hu;simp only[ae]at hr;obtain⟨⟨Ov',O',q,_,l⟩,p⟩:=XA s hu rv;refine⟨u,Ov',hr.symm,q,λb=>by grind,?_⟩
   cases u<;>first|exact p|grind [tE,rS]
  simp_all
 cases v<;>simp only[eY]at hr<;>try exact base rv hr
 split at hr
 .rename_i vs' h' hx;simp only[ae]at hr;obtain⟨ys,e,rr⟩:=rv;obtain⟨⟨Ov1,O1,q1,s1,l1⟩,p1⟩:=LW (f:=fV) (fs:=tv) (p:=tE) XA (λ_=>rfl) (λh v vs r hr=>by
   grind [tv]) s hx rr
  exact⟨.tup vs',Ov1,hr.symm,by grind [RV],λb=>by grind,p1⟩
 simp_all
theorem OF {g2:Gh}{v:AV}{x:Value}{Ov:Nat->Nat}(hp:rS v=true)(hf:ju v=true)(rv:RV g w v x Ov)(hn:∀b,Ov b≠0->∀o,¬g2.pm b o):RV g2 w (nQ v) x Ov:=by
 cases v<;>simp only[rS,aq]at hp
 .grind [RV,nQ,RD.flat,ju]
 .grind [RV,nQ]
 .simp only[ju]at hf;rcases rv with h|⟨b,off,cap,c,el,rfl,hcap,hm,hl,hb,hsz,hrc,hpm,hpp,rfl⟩
  .exact .inl h
  .refine .inr ⟨b,off,cap,c,el,rfl,hcap,hm,hl,hb,hsz,λj d hj=>?_,λo ho=>absurd ho (hn b s_ o),λh=>by simp at h,rfl⟩;obtain⟨u,hu,hr⟩:=hrc j d hj
   grind [RD.flat]
def HX {g2:Gh}{f:AV->AV}{p q:AV->Bool}(hf:∀{v:AV}{x:Value}{Ov:Nat->Nat},p v=true->q v=true->RV g w v x Ov->(∀b,Ov b≠0->∀o,¬g2.pm b o)->RV g2 w (f v) x Ov) :
  ∀{vs:D_}{xs:M_}{Ov:Nat->Nat},vs.all p=true->vs.all q=true->RVs g w vs xs Ov->(∀b,Ov b≠0->∀o,¬g2.pm b o)->RVs g2 w (vs.map f) xs Ov
 |[],xs,Ov,_,_,rv,_=>by grind [RVs]
 |v::vs,xs,Ov,hp,hq,rv,hn=>by
  simp only[gP,af]at hp hq;obtain⟨x,ys,O1,O2,rfl,r1,r2,hs⟩:=rv;exact⟨x,ys,O1,O2,rfl,hf hp.1 hq.1 r1 (λb hb=>hn b u_),HX hf hp.2 hq.2 r2 (λb hb=>hn b u_),hs⟩
def anZ (v:AV):(∃cs,v=.agg cs)∨(mR v=nQ v∧tE v=rS v∧jQ v=ju v):=by
 cases v<;>first|exact .inl ⟨_,rfl⟩|exact .inr ⟨rfl,rfl,rfl⟩
def apG (v:AV):(∃cs,v=.tup cs)∨(nG v=mR v∧I3 v=tE v∧iV v=jQ v):=by
 cases v<;>first|exact .inl ⟨_,rfl⟩|exact .inr ⟨rfl,rfl,rfl⟩
theorem YF {g2:Gh}{v:AV}{x:Value}{Ov:Nat->Nat}(hp:tE v=true)(hf:jQ v=true)(rv:RV g w v x Ov)(hn:∀b,Ov b≠0->∀o,¬g2.pm b o):RV g2 w (mR v) x Ov:=by
 rcases anZ v with ⟨cs,rfl⟩|⟨e1,e2,e3⟩
 .obtain⟨xs,e,rr⟩:=rv;exact⟨xs,e,HX OF hp hf rr hn⟩
 grind [OF]
theorem amV {g2:Gh}{v:AV}{x:Value}{Ov:Nat->Nat}(hp:I3 v=true)(hf:iV v=true)(rv:RV g w v x Ov)(hn:∀b,Ov b≠0->∀o,¬g2.pm b o):RV g2 w (nG v) x Ov:=by
 rcases apG v with ⟨cs,rfl⟩|⟨e1,e2,e3⟩
 .obtain⟨xs,e,rr⟩:=rv;exact⟨xs,e,HX YF hp hf rr hn⟩
 grind [YF]
def abZ {g2:Gh}{v:AV}{x:Value}{Ov:Nat->Nat}(hp:rS v=true)(rv:RV g w v x Ov)(hn:∀b,Ov b≠0->∀o,¬g2.pm b o):∃Ov',RV g2 w (XW v) x Ov'∧∀b,Ov' b<=Ov b:=by
 unfold XW;split
 .rename_i hf;exact⟨Ov,OF hp hf rv hn,λ_=>ai _⟩
 .split
  .rename_i n hl;refine⟨zero,?_,λ_=>dp _⟩;simp only[RV];refine⟨?_,λ_=>trivial⟩
   cases v with
   |d c =>
    cases c with
    |lst xs =>
     simp only[lenOf,ae]at hl;have rd:=rv.1
     cases rd
     all_goals simp_all
    |_=>simp[lenOf]at hl
   |nl =>
    grind [lenOf,RV]
   |own p m xs =>
    grind [lenOf,RV,EP]
   |_=>grind [rS]
  .exact⟨zero,by simp[RV,zero],λ_=>dp _⟩
def JE {g2:Gh}{f:AV->AV}{p:AV->Bool}(hf:∀{v:AV}{x:Value}{Ov:Nat->Nat},p v=true->RV g w v x Ov->(∀b,Ov b≠0->∀o,¬g2.pm b o)->∃Ov',RV g2 w (f v) x Ov'∧∀b,Ov' b<=Ov b) :
  ∀{vs:D_}{xs:M_}{Ov:Nat->Nat},vs.all p=true->RVs g w vs xs Ov->(∀b,Ov b≠0->∀o,¬g2.pm b o)->∃Ov',RVs g2 w (vs.map f) xs Ov'∧∀b,Ov' b<=Ov b
 |[],xs,Ov,_,rv,_=>⟨Ov,by grind [RVs],λ_=>ai _⟩
 |v::vs,xs,Ov,hp,rv,hn=>by
  simp only[gP,af]at hp;obtain⟨x,ys,O1,O2,rfl,r1,r2,hs⟩:=rv;obtain⟨Q1,q1,l1⟩:=hf hp.1 r1 (λb hb=>hn b u_);obtain⟨Q2,q2,l2⟩:=JE hf hp.2 r2 (λb hb=>hn b u_);exact⟨λb=>Q1 b+Q2 b,⟨x,ys,Q1,Q2,rfl,q1,q2,λ_=>rfl⟩,λb=>by grind⟩
def abW {g2:Gh}{v:AV}{x:Value}{Ov:Nat->Nat}(hp:tE v=true)(rv:RV g w v x Ov)(hn:∀b,Ov b≠0->∀o,¬g2.pm b o):∃Ov',RV g2 w (NU v) x Ov'∧∀b,Ov' b<=Ov b:=by
 have other:NU v=XW v->tE v=rS v->∃Ov',RV g2 w (NU v) x Ov'∧∀b,Ov' b<=Ov b:=λe1 e2=>by
  rw[e1];rw[e2]at hp;exact abZ hp rv hn
 cases v with
 |agg cs =>
  simp only[RV,NU]at rv⊢;obtain⟨xs,e,rr⟩:=rv;obtain⟨Ov',q,l⟩:=JE abZ hp rr hn
  grind
 |_=>exact other rfl rfl
def aps {g2:Gh}{v:AV}{x:Value}{Ov:Nat->Nat}(hp:I3 v=true)(rv:RV g w v x Ov)(hn:∀b,Ov b≠0->∀o,¬g2.pm b o):∃Ov',RV g2 w (Px v) x Ov'∧∀b,Ov' b<=Ov b:=by
 have other:Px v=NU v->I3 v=tE v->∃Ov',RV g2 w (Px v) x Ov'∧∀b,Ov' b<=Ov b:=λe1 e2=>by
  rw[e1];rw[e2]at hp;exact abW hp rv hn
 cases v with
 |tup cs =>
  simp only[RV,Px]at rv⊢;obtain⟨xs,e,rr⟩:=rv;obtain⟨Ov',q,l⟩:=JE abW hp rr hn
  grind
 |_=>exact other rfl rfl
theorem XZ {g2:Gh}(hpm:g2.pm=g.pm){v:AV}{x:Value}{Ov:Nat->Nat}(hp:rS v=true)(rv:RV g w v x Ov):RV g2 w v x Ov:=by
 cases v<;>simp only[rS,aq]at hp
 all_goals simp_all [RV,EP]
def H5 {g2:Gh}{p:AV->Bool}(hf:∀{v:AV}{x:Value}{Ov:Nat->Nat},p v=true->RV g w v x Ov->RV g2 w v x Ov) :
  ∀{vs:D_}{xs:M_}{Ov:Nat->Nat},vs.all p=true->RVs g w vs xs Ov->RVs g2 w vs xs Ov
 |[],xs,Ov,_,rv=>by grind [RVs]
 |v::vs,xs,Ov,hp,rv=>by
  simp only[gP,af]at hp;obtain⟨x,ys,O1,O2,rfl,r1,r2,hs⟩:=rv;exact⟨x,ys,O1,O2,rfl,hf hp.1 r1,H5 hf hp.2 r2,hs⟩
theorem Zu {g2:Gh}(hpm:g2.pm=g.pm){v:AV}{x:Value}{Ov:Nat->Nat}(hp:tE v=true)(rv:RV g w v x Ov):RV g2 w v x Ov:=by
 rcases anZ v with ⟨cs,rfl⟩|⟨e1,e2,e3⟩
 .obtain⟨xs,e,rr⟩:=rv;exact⟨xs,e,H5 (XZ hpm) hp rr⟩
 grind [XZ]
theorem amE {g2:Gh}(hpm:g2.pm=g.pm){v:AV}{x:Value}{Ov:Nat->Nat}(hp:I3 v=true)(rv:RV g w v x Ov):RV g2 w v x Ov:=by
 rcases apG v with ⟨cs,rfl⟩|⟨e1,e2,e3⟩
 .obtain⟨xs,e,rr⟩:=rv;exact⟨xs,e,H5 (Zu hpm) hp rr⟩
 grind [Zu]
end
section
variable {P:Program}{g:Gh}{w:World}{t:G_}{O:Nat->Nat}{st st':St}{a:AV}{o:Oper}{r:dF}
def S.extF (s:S P g w st t O){g2:Gh}{w':World}(h:bI g w g2 w' λ_=>False)(ho:g2.obj=g.obj)(hp:∀b o,g2.pm b o->b<w'.heap.size):S P g2 w' st t O:=by
 obtain⟨Oe,Oh,re,rh,hs⟩:=s.parts;exact⟨s.se,s.sh,⟨Oe,Oh,kt.ext h re s_,rh.imp' λk v O1 _ _ q=>q.ext0 h s_,hs⟩,s.le,
  λb hb=>aW (s.hi b hb) h.size,λid hid=>by rw[ho];grind [fresh],hp⟩
theorem ag8 (u:AV):iV (nG u)=iV u:=by
 have h1:∀v:AV,ju (nQ v)=ju v:=λv=>by cases v<;>rfl
 have h2:∀v:AV,jQ (mR v)=jQ v:=λv=>by
  cases v<;>try rfl
  grind [mR,jQ]
 cases u<;>try rfl
 .rename_i cs;exact h2 (.agg cs)
 grind [nG,iV]
def amh {e:aT}{hs hs0:HS}{O':Nat->Nat}{vs:D_}{v0 v:AV}{x:Value}{w':World}(s':S P g w ⟨e,hs⟩ t O')(hle:∀b,O' b<=O b)
  (hp:gW P (g.view w λb=>vs.any ve=true∧O' b≠0) w zero v0 hs0 (.returned x) w')
  (hres:(match eY hs0.heap v0 with|none=>none|some v=>match vs.any ve with|false=>some v|true=>match iV v with|true=>some v|false=>some (Px v))=some v) :
  ∃g' Oa O1,DZ P g w t O ⟨e,hs⟩ v x w' g' Oa O1:=by
 obtain⟨g1,Or,Oh,h1,h2,h3,h4,h5,h6⟩:=hp;have hz:∀b,b<w.heap.size->Or b+Oh b=0:=λb hb=>by simp_all
 split at hres
 .simp_all
 .rename_i v1 hv1;obtain⟨u,Ov',rfl,ru,lu,pu⟩:=alR h2 hv1 h1;have hcell:∀b o,g.pm b o->w'.cell? ⟨b,o,none⟩=w.cell? ⟨b,o,none⟩:=λb o h=>(h3.pm b o (.inl h)).2
  have hblk:∀b,b<w.heap.size->w'.heap[b]?=w.heap[b]?:=λb hb=>(h3.blk b hb s_).1
  have fin:∀(g2:Gh) (Ow:Nat->Nat),(∀b,Ow b<=Ov' b)->bI g w g2 w' (λ_=>False)->g2.obj=g.obj->(∀b o,g2.pm b o->b<w'.heap.size)->RV g2 w' v x Ow->∃g' Oa O1,DZ P g w t O ⟨e,hs⟩ v x w' g' Oa O1:=by
   intro g2 Ow hle2 hx ho hpl hv;have lu:∀b,Ow b<=Or b+Oh b:=λb=>aP (hle2 b) (lu b)
   refine⟨g2,Ow,O',hv,s'.extF hx ho hpl,hx.mono λ_ _ h=>h.elim,λb=>?_,λb hb=>?_,λb hb=>?_⟩
   .by_cases hb:b<w.heap.size
    .have:=hz b hb;have:=lu b;have:=s'.le b;omega
    grind [S.out]
   all_goals grind [S.hi]
  by_cases hf:iV u=true
  .have hb:et u=nG u:=by simp[et,hf]
   have hv:v=nG u:=by
    grind [ag8]
   refine fin g Ov' (λ_=>ai _) ⟨λ_ _ h=>⟨h,rfl,rfl,rfl⟩,λb o h=>⟨h,hcell b o h⟩,λb hb _=>⟨hblk b hb,λ_ h=>h⟩,h3.size,h3.lp,h3.same⟩ rfl (λb o h=>aW (s'.pmlt b o h) h3.size) ?_
   grind [amV,S.pmlt]
  .have hb:et u=u:=by simp[et,hf]
   cases hnf:vs.any ve with
   |false =>
    have hold:∀b o,(g.view w λb=>vs.any ve=true∧O' b≠0).pm b o->g.pm b o:=λb o h=>h.elim id λh=>by simp_all
    refine fin { g with pm:=g1.pm } Ov' (λ_=>ai _) ⟨λ_ _ h=>⟨h,rfl,rfl,rfl⟩,λb o h=>⟨(h3.pm b o (.inl h)).1,hcell b o h⟩,λb hb _=>⟨hblk b hb,λo h=>hold b o ((h3.blk b hb s_).2 o h)⟩,h3.size,h3.lp,h3.same⟩ rfl
     (λb o h=>h2.pmlt b o h) ?_
    grind [amE]
   |true =>
    obtain⟨Ow,qv,lw⟩:=aps (g2:=g) pu ru λb hb o hpm=>by
     grind [S.pmlt]
    refine fin g Ow lw ⟨λ_ _ h=>⟨h,rfl,rfl,rfl⟩,λb o h=>⟨h,hcell b o h⟩,λb hb _=>⟨hblk b hb,λ_ h=>h⟩,h3.size,h3.lp,h3.same⟩ rfl (λb o h=>aW (s'.pmlt b o h) h3.size) ?_
    simp_all
def auW {ro:J_}{f:FuncId}{args:S_}(hr:iB P r)(s:S P g w st t O)(h:G5 r f args st=some (a,st'))(hc:bw P (.call f args) o.op=true) :
  OpW ro P g w t O st' a o:=by
 obtain⟨dst,op,ty,pos,aft,gd⟩:=o;simp only[bw]at hc;split at hc
 .rename_i c;simp only[af]at hc;obtain⟨h1,h2⟩:=hc;obtain⟨callee,as,ats⟩:=c;have:=LS h1;subst this;unfold G5 at h;split at h
  .rename_i vs e hrd;split at h
   .rename_i v hcall;obtain⟨Ov,O',rvs,s',l⟩:=s.rdAll h2 hrd;unfold fh at hcall;split at hcall
    .simp_all
    .rename_i ds hds;split at hcall
     .simp_all
     .rename_i v0 hs0 hc0;obtain⟨hfn,hk⟩:=hr hc0;have rvc:=Tr (st:=⟨e,st.hs⟩) (K:=λb=>vs.any ve=true∧O' b≠0) s' hds (λh b hb=>⟨h,hb⟩) rvs;have hk:=hk rvc (av7 s' _) (λb=>by simp) (λb hb=>by simp at hb);intro ds' next Q hn
      have hrun:(execOp (ev t) ⟨dst,.call ⟨.value (.func f),as,ats⟩,ty,pos,aft,gd⟩).run P w=.ok (.enter f (as.toList.map (ev t)).toArray) w:=by
       simp only[execOp,resolve,aO,ev,Deferred.ofValue,dA,bg,invoke];rw[xU hfn]
       congr 2
       grind
      rw[hrun,Oper.uponIn_enter];refine⟨λh=>by grind [Fence.wide],Py (hk.mono λen w' hp=>?_)⟩
      cases en with
      |returned x =>
       obtain⟨g',Oa,O1,k⟩:=amh (O:=O) (vs:=vs) s' (λb=>by grind) hp hcall
       grind
      |panicked c=>exact hp.elim
      |outgrown=>exact hp.elim
   simp_all
  simp_all
 simp_all
end
abbrev bj:=@List.mem_append
def GZ:bX->Exit
 |.normal=>.normal
 |.exit i=>.exit i
 |.goto l=>.goto l
 |.ret=>.ret
def j8 (w:World)(O:Nat->Nat)(lo:Nat):List Deferred->Prop
 |[]=>True
 |d::ds=>(∃r,d.target=.collected r∧lo<=r∧w.heap[r]?=some (.deferred (some []))∧O r=0∧∀d'∈ds,∀r',d'.target=.collected r'->r'<r)∧j8 w O lo ds
def E1 (w:World)(ro:J_):Prop:=∀l,ro=some l->∃rc:Go.Loop,w.heap[l]?=some (.loop rc)
def cq (P:Program)(g:Gh)(w:World)(t:G_)(O:Nat->Nat)(ds:List Deferred)(ro:J_)(o:bX)(st':St)(e:Exit)(a':Act)(w':World):Prop :=
 e=GZ o∧∃g' O' ms,gS P g w t O st' a'.tmps w' g' O'∧a'.defers=ms++ds∧j8 w' O' w.heap.size ms∧(ro.isSome=true->ms=[])
section
variable {P:Program}{g:Gh}{w:World}{t:G_}{O:Nat->Nat}{st st':St}{a:AV}{o:Oper}{r:dF}
def E1.ext {ro:J_}(h:E1 w ro){g g':Gh}{w':World}{T:Nat->Prop}(hx:bI g w g' w' T):E1 w' ro:=λl hl=>let ⟨rc,hrc⟩:=h l hl;hx.lp l rc hrc
def j8.after {lo:Nat}{g1 g2:Gh}{w1 w2:World}{O1 O2:Nat->Nat}(hx:bI g1 w1 g2 w2 λb=>O1 b≠0)(ho:∀b,b<w1.heap.size->O2 b<=O1 b) :
  ∀{ms:List Deferred},j8 w1 O1 lo ms->j8 w2 O2 lo ms
 |[],_=>trivial
 |d::ds,⟨⟨r,h1,h2,h3,h4,h5⟩,h6⟩=>by
  exact⟨⟨r,h1,h2,by grind [bI.blk],e_,h5⟩,j8.after hx ho h6⟩
def j8.lt {lo:Nat}:∀{ms:List Deferred},j8 w O lo ms->∀d∈ms,∀r,d.target=.collected r->r<w.heap.size
 |[],_,d,hd,_,_=>by simp at hd
 |m::ms,⟨⟨r,h1,h2,h3,h4,h5⟩,h6⟩,d,hd,r',hr=>by
  grind
def j8.append {lo1 lo2:Nat}(hlo:lo1<=lo2){ms1:List Deferred}(h1:j8 w O lo1 ms1)(hlt:∀d∈ms1,∀r,d.target=.collected r->r<lo2) :
  ∀{ms2:List Deferred},j8 w O lo2 ms2->j8 w O lo1 (ms2++ms1)
 |[],_=>h1
 |d::ds,⟨⟨r,k1,k2,k3,k4,k5⟩,k6⟩=>by
  refine⟨⟨r,k1,aP hlo k2,k3,k4,λd' hd' r' hr'=>?_⟩,j8.append hlo h1 hlt k6⟩;rcases bj.1 hd' with h|h<;>grind
def cq.comp {ds ms1:List Deferred}{ro:J_}{st1 st2:St}{t1:G_}{w1:World}{g1:Gh}{O1:Nat->Nat}(G:gS P g w t O st1 t1 w1 g1 O1)(hm:j8 w1 O1 w.heap.size ms1)
  (hro:ro.isSome=true->ms1=[]){out:bX}{e:Exit}{a2:Act}{w2:World}(h:cq P g1 w1 t1 O1 (ms1++ds) ro out st2 e a2 w2):cq P g w t O ds ro out st2 e a2 w2:=by
 obtain⟨he,g2,O2,ms2,G2,hd,hm2,hr2⟩:=h;refine⟨he,g2,O2,ms2++ms1,G.trans G2,u_,?_,λh=>by simp_all⟩;exact j8.append G.ext.size (hm.after G2.ext G2.old) (λd hd r hr=>hm.lt d hd r hr) hm2
def jh (P:Program)(r:dF):Prop :=
 ∀{v:VC}{st:St}{o:bX}{st':St},r.code v st=some (o,st')->∀{c:Code}{n:Nat},Mt P n v c->∀{g:Gh}{w:World}{t:G_}{O:Nat->Nat},t.size=n->S P g w st t O->
  ∀(ro:J_) (ds:List Deferred),E1 w ro->c.wpIn (FR ro) 0 P (cq P g w t O ds ro o st') ⟨t,ds⟩ w
def bI.loopBlk {b:Nat}{rc rc':Go.Loop}(hb:w.heap[b]?=some (.loop rc)):bI g w g (Vm.setBlk w b (.loop rc')) λx=>x=b where
 obj _ _ h:=⟨h,rfl,rfl,rfl⟩
 pm b' o h:=⟨h,by
  grind [World.cell?,eW,iq]⟩
 blk b' _ h:=⟨iq h,λ_ h=>h⟩
 size:=s_
 lp b' r h:=by
  grind [eW,iq]
 same:=⟨rfl,rfl,BP hb (by grind [gR]) (by grind [gR])⟩
def S.storeG {st:St}(s:S P g w st t O){id:Nat}{ob:Obj}(hg:get st.hs.heap id=some ob) :
  ∃O1 Oz:Nat->Nat,kh P g w id ob O1∧(∀b,O1 b+Oz b<=O b)∧∀(w':World) (b:Nat) (ob':Obj) (O1':Nat->Nat),
   1<=O1 b->bI g w g w' (λx=>x=b)->kh P g w' id ob' O1'->(∀x,O1' x+Oz x<=1)->(∀x,O1' x≠0->x<w'.heap.size)->
   S P g w' ⟨st.env,⟨put st.hs.heap id ob',st.hs.next⟩⟩ t (λx=>O1' x+Oz x):=by
 obtain⟨Oe,Oh,re,rh,ho⟩:=s.parts;obtain⟨O1,O2,q,r2,hs⟩:=RL.take rh hg;refine⟨O1,λb=>Oe b+O2 b,q,λb=>by grind,λw' b ob' O1' h1 hx q' hle hhi=>?_⟩;have hone:O b<=1:=s.le b;have hfree:Oe b=0∧O2 b=0:=e_;have re':=kt.ext hx re (λy hy e=>by simp_all);have r2':Ep P g w' (del st.hs.heap id) O2:=r2.imp' λk v Q _ hQ q=>q.ext0 hx (λy hy e=>by grind)
 obtain⟨O3,r3,h3⟩:=RL.put s.sh r2' q';refine⟨s.se,s.sh.put _ _,⟨Oe,O3,re',r3,λx=>by grind⟩,hle,λx hx0=>?_,s.fresh,
  λb o hp=>aW (s.pmlt b o hp) hx.size⟩
 by_cases h:O1' x=0
 .refine aW (s.hi x ?_) hx.size
  grind
 simp_all
def S.setLoop {st:St}(s:S P g w st t O){id:Nat}{snap:aT}{ps:C_}{as bd:VC}{busy:Bool}{pend:BF_}(hg:get st.hs.heap id=some (.loop snap ps as bd busy pend)) :
  ∃b rc,g.obj id=some b∧w.heap[b]?=some (.loop rc)∧rc.state=(if busy then .busy else if pend.isNone then .ready else .done)∧rc.pending=pend.bind mX∧rc.params=ps.toArray∧
   Mt P rc.tmps.size as rc.assign∧Mt P rc.tmps.size bd rc.body∧cQ snap∧kt g w snap rc.tmps zero∧(∀p∈ps,p<rc.tmps.size)∧
   ∀(busy':Bool) (pend':BF_) (rc':Go.Loop),rc'={ rc with state:=(if busy' then .busy else if pend'.isNone then .ready else .done),pending:=pend'.bind mX }->
    ∃O',gS P g w t O ⟨st.env,⟨put st.hs.heap id (.loop snap ps as bd busy' pend'),st.hs.next⟩⟩ t (Vm.setBlk w b (.loop rc')) g O':=by
 obtain⟨O1,Oz,q,hsum,hst⟩:=s.storeG hg;obtain⟨b,rc,h1,h2,h3,h4,h5,h6,h7,h8,h9,h10,h11⟩:=q;refine⟨b,rc,h1,h2,h3,h4,h5,h6,h7,h8,h9,h10,λbusy' pend' rc' e=>?_⟩;have hx:bI g w g (Vm.setBlk w b (.loop rc')) λx=>x=b:=bI.loopBlk h2
 have hO1:O1 b=1:=u_;refine⟨_,hst (Vm.setBlk w b (.loop rc')) b (.loop snap ps as bd busy' pend') O1 o_ hx ?_ (λx=>by have:=hsum x;have:=s.le x;omega) (λx hx0=>?_),hx.mono (λx _ e=>by grind),λx _=>hsum x,rfl⟩
 .subst e;exact⟨b,_,h1,eW (jH h2),rfl,rfl,h5,h6,h7,h8,kt.ext hx h9 s_,h10,h11⟩
 grind [xT,Ll]
end
section
variable {P:Program}{g:Gh}{w:World}{t:G_}{O:Nat->Nat}{st st':St}{a:AV}{o:Oper}{r:dF}
def Ya:∀{ps:C_}{vs:D_}{e e':aT}{hs:HS}{t:G_}{O:Nat->Nat},yh e ps vs=some e'->S P g w ⟨e,hs⟩ t O->∀{xs:M_}{Ov:Nat->Nat},RVs g w vs xs Ov->
  (∀p∈ps,p<t.size)->(∀b,Ov b+O b<=1)->(∀b,Ov b≠0->b<w.heap.size)->
  ∃O',S P g w ⟨e',hs⟩ ((ps.zip xs).foldl (fun(t:G_) (q:Nat×Value)=>t.setIfInBounds q.1 q.2) t) O'∧(∀b,O' b<=Ov b+O b)∧xs.length=ps.length∧
   ((ps.zip xs).foldl (fun(t:G_) (q:Nat×Value)=>t.setIfInBounds q.1 q.2) t).size=t.size
 |[],[],e,e',hs,t,O,h,s,xs,Ov,rv,hp,hle,hhi=>by
  simp only[yh,ae]at h;obtain⟨rfl,_⟩:=rv;exact⟨O,u_,λb=>by omega,rfl,rfl⟩
 |p::ps,v::vs,e,e',hs,t,O,h,s,xs,Ov,rv,hp,hle,hhi=>by
  simp only[yh]at h;obtain⟨x,ys,O1,O2,rfl,r1,r2,hs2⟩:=rv;obtain⟨O3,s3,l3⟩:=s.setTmp (hp p (.head _)) r1 (λb=>by grind) (λb hb=>hhi b u_);obtain⟨O4,s4,l4,hl,hsz⟩:=Ya h s3 r2 (λq hq=>by simp_all) (λb=>by grind) (λb hb=>hhi b u_);exact⟨O4,u_,λb=>by grind,by simp[hl],u_⟩
 |[],_::_,_,_,_,_,_,h,_,_,_,_,_,_,_=>by simp[yh]at h
 |_::_,[],_,_,_,_,_,h,_,_,_,_,_,_,_=>by simp[yh]at h
def Be {b:Nat}{rc:Go.Loop}(h:w.heap[b]?=some (.loop rc)):(Instr.getLoop b).run P w=.ok rc w:=by
 simp_all [Instr.getLoop,getObj,Sem.run]
def Lv {b:Nat}{rc rc':Go.Loop}(h:w.heap[b]?=some (.loop rc)):(setObj b (.loop rc')).run P w=.ok () (setBlk w b (.loop rc')):=by
 grind [setObj,Sem.run,setBlk]
def aod (hc:jh P r){l:Nat}{args:D_}{hs hs':HS}{v:AV}(h:wB r l args hs=some (v,hs')){xs:M_}{Oa Oh:Nat->Nat}(rvs:RVs g w args xs Oa)
  (sh:S P g w ⟨[],hs⟩ #[] Oh)(hle:∀b,Oa b+Oh b<=1)(hhi:∀b,Oa b≠0->b<w.heap.size)(ro:J_) :
  ∃b,∃rc:Go.Loop,∃tm,g.obj l=some b∧(Instr.yield b xs.toArray).run P w=.ok (.round b rc.fn tm rc.assign rc.body) w∧
   RoundIn (FR ro) 0 P b rc.fn tm rc.assign rc.body w (gW P g w (λb=>Oa b+Oh b) v hs'):=by
 unfold wB at h;split at h
 .rename_i snap ps as bd hg;split at h
  .simp at h
  .rename_i e hput;split at h
   .rename_i st1 hass;split at h
    .rename_i snap1 ps1 as1 bd1 hg1;split at h
     .simp at h
     .rename_i o st2 hbd;split at h
      .rename_i snap2 ps2 as2 bd2 hg2;obtain⟨b,rc,h1,h2,h3,h4,h5,h6,h7,h8,h9,h10,_⟩:=sh.setLoop (st:=⟨[],hs⟩) hg;have s0:S P g w ⟨snap,hs⟩ rc.tmps λb=>zero b+Oh b:=S.join h8 h9 sh (λb=>by grind) (λb hb=>by simp at hb)
       obtain⟨O1,s1,l1,hlen,hsz⟩:=Ya hput s0 rvs h10 (λb=>by simp_all) hhi;refine⟨b,rc,_,h1,?_,roundIn_of_wpIn (F:=FR ro) (tmps:=(ps.zip xs).foldl (fun(t:G_) (q:Nat×Value)=>t.setIfInBounds q.1 q.2) rc.tmps) trivial ?_⟩
       .simp_all [Instr.yield,Be]
       .refine wpIn_mono (hc hass h6 hsz s1 (some b) [] (λl hl=>by simp_all)) λen a1 w1 hp=>?_
        obtain⟨rfl,g1,O1',ms,G1,hd1,_,hms⟩:=hp;have hms:=hms rfl;subst hms;obtain⟨t1,d1⟩:=a1;subst hd1;obtain⟨b1,rc1,k1,k2,k3,k4,k5,k6,k7,k8,k9,k10,kset⟩:=G1.st.setLoop hg1;have hb1:b1=b:=by have:=(G1.ext.obj l b h1).1;simp_all
        subst hb1;obtain⟨O2,G2⟩:=kset true none { rc1 with state:=.busy } (by simp[k4]);refine⟨setBlk w1 b1 (.loop { rc1 with state:=.busy }),?_,?_⟩
        .simp_all [Instr.beginRound,Be,Lv]
        .have hsz1:t1.size=rc.tmps.size:=by rw[G1.size,hsz]
         refine wpIn_mono (hc hbd h7 hsz1 G2.st (some b1) [] (λl hl=>by grind [eW])) λen2 a2 w3 hp2=>?_
         obtain⟨rfl,g2,O3,ms2,G3,_,_,_⟩:=hp2;obtain⟨b2,rc2,m1,m2,m3,m4,m5,m6,m7,m8,m9,m10,mset⟩:=G3.st.setLoop hg2;have hb2:b2=b1:=by have:=(G3.ext.obj l b1 k1).1;simp_all
         subst hb2;have fin:∀(pend:BF_),(v,hs')=(.bool pend.isNone,⟨put st2.hs.heap l (.loop snap2 ps2 as2 bd2 false pend),st2.hs.next⟩)->pend.bind mX=mX o->(pend.bind mX).isNone=pend.isNone->
           ∃(vv:Value) (w':World),(Instr.endRound b2 (mX o)).run P w3=.ok vv w'∧gW P g w (λb=>Oa b+Oh b) v hs' (.returned vv) w':=by
          intro pend hv hpo hpn;obtain⟨rfl,rfl⟩:=hv;obtain⟨O4,G4⟩:=mset false pend { rc2 with state:=(if (mX o).isNone then .ready else .done),pending:=mX o } u_;refine⟨.bool (mX o).isNone,setBlk w3 b2 (.loop { rc2 with state:=(if (mX o).isNone then .ready else .done),pending:=mX o }),?_,?_⟩
          .simp_all [Instr.endRound,Be,Lv]
          .have G:=((G1.trans G2).trans G3).trans G4;obtain⟨Oe4,Oh4,re4,sh4,ho4⟩:=G.st.split;refine⟨g2,zero,Oh4,?_,sh4,G.ext.mono (λb _ hb=>by grind),λb=>by have:=G.st.le b;grind,λb hb=>?_,λb hb=>by simp at hb⟩
           all_goals grind [IR,gS.old]
         cases o with
         |normal =>
          simp only[ae]at h;exact fin none h.symm rfl rfl
         |exit i =>
          simp only[ae]at h;exact fin (some (.exit i)) h.symm rfl rfl
         |goto i =>
          simp only[ae]at h;exact fin (some (.goto i)) h.symm rfl rfl
         |ret =>
          simp only[ae]at h;exact fin (some .ret) h.symm rfl rfl
      simp_all
    simp_all
   simp_all
 simp_all
end
section
variable {P:Program}{g:Gh}{w:World}{t:G_}{O:Nat->Nat}{st st':St}{a:AV}{o:Oper}{r:dF}
def aq8 {ro:J_}{f:Rd}{args:S_}(hr:iB P r)(hcs:jh P r)(s:S P g w st t O)(h:FO r f args st=some (a,st'))(hc:bw P (.callv f args) o.op=true) :
  OpW ro P g w t O st' a o:=by
 obtain⟨dst,op,ty,pos,aft,gd⟩:=o;simp only[bw]at hc;split at hc
 .rename_i c;simp only[af]at hc;obtain⟨h1,h2⟩:=hc;obtain⟨callee,as,ats⟩:=c;simp only at h1 h2;split at h1
  .rename_i fx;unfold FO at h;split at h
   .rename_i fv e1 hf;split at h
    .rename_i vs e hrd;split at h
     .rename_i v hs' hcall;obtain⟨rfl,rfl⟩:=h;obtain⟨Of,O1,rf,s1,l1⟩:=s.rd h1 hf;obtain⟨Ov,O',rvs,s',l⟩:=s1.rdAll (st:=⟨e1,st.hs⟩) h2 hrd;obtain⟨Oe,Oh,re,sh,ho⟩:=s'.split;have hle:∀b,Ov b+(Oe b+Oh b)<=O b:=λb=>by grind
      have hle1:∀b,Ov b+Oh b<=1:=λb=>by have:=hle b;have:=s.le b;omega
      have hhi:∀b,Ov b≠0->b<w.heap.size:=λb hb=>s.hi b (by grind)
      unfold dD at hcall;split at hcall
      .rename_i gf first caps
       obtain⟨hfn,hk⟩:=hr hcall;obtain⟨⟨xs,ys,hev,r1,r2⟩,_⟩:=rf;have hrv:RVs g w (first++(vs++caps)) (xs.toList++(as.toList.map (ev t)++ys.toList)) (λb=>zero b+(Ov b+zero b)):=r1.join (rvs.join r2);have hO:(λb=>zero b+(Ov b+zero b))=Ov:=u_;rw[hO]at hrv;have hk:=hk hrv sh hle1 hhi;refine VU (hs:=st.hs) s'.se re hle s ?_ hk
       simp_all [execOp,resolve,Deferred.ofValue,invoke,xU]
      .obtain⟨⟨b0,hb0,hev⟩,_⟩:=rf;obtain⟨b,rc,tm,hb,hy,hround⟩:=aod hcs hcall rvs sh hle1 hhi ro;rw[hb0]at hb;simp only[ae]at hb;subst hb;intro ds next Q hn
       have hrun:(execOp (ev t) ⟨dst,.call ⟨.value fx,as,ats⟩,ty,pos,aft,gd⟩).run P w=.ok (.round b0 rc.fn tm rc.assign rc.body) w:=by
        simp only[execOp,resolve,aO,hev,Deferred.ofValue,dA,bg,invoke];rw[<-hy]
        congr 2
        grind
       rw[hrun,Oper.uponIn_round];refine⟨λh=>by grind [Fence.wide],hround.mono λen w' hp=>?_⟩
       cases en with
       |returned x =>
        obtain⟨g',Oa,O',k⟩:=It (hs:=st.hs) s'.se re hle s hp
        grind
       |panicked c=>exact hp.elim
       |outgrown=>exact hp.elim
      simp_all
     simp_all
    simp_all
   simp_all
  simp_all
 simp_all
def aeD {t:G_}:∀{e:aT}{O:Nat->Nat},kt g w e t O->kt g w (e.map λkv=>(kv.1,share kv.2)) t zero
 |[],_,_=>λ_=>rfl
 |(k,v)::e,O,r=>by
  obtain⟨O1,O2,⟨q1,q2⟩,rr,_⟩:=r;exact⟨zero,zero,⟨q1,RV.share _ _ _ q2⟩,aeD rr,λ_=>rfl⟩
def aqI {e:aT}(h:cQ e):cQ (e.map λkv=>(kv.1,share kv.2)):=by
 grind [cQ]
def adc {ro:J_}(hro:E1 w ro)(fn:FuncId)(ps:Array Nat)(as bd:Code) :
  ∃(w1:World) (mark:List Deferred) (rc:Go.Loop),(Instr.enterLoop fn t ps as bd ro).run P w=.ok (w1.heap.size,mark) (w1.alloc (.loop rc))∧
   rc.state=.ready∧rc.pending=none∧rc.params=ps∧rc.assign=as∧rc.body=bd∧rc.tmps=t∧
   ((∃l,ro=some l∧w1=w∧mark=[])∨(ro=none∧w1=w.alloc (.deferred (some []))∧mark=[{ target:=.collected w.heap.size,args:=#[] }])):=by
 cases ro with
 |some l =>
  obtain⟨rc0,h0⟩:=hro l rfl;refine⟨w,[],{ state:=.ready,pending:=none,fn,tmps:=t,params:=ps,assign:=as,body:=bd,defers:=rc0.defers },?_,rfl,rfl,rfl,rfl,rfl,rfl,.inl ⟨l,rfl,rfl,rfl⟩⟩
  simp_all [Instr.enterLoop,Be]
 |none =>
  refine⟨w.alloc (.deferred (some [])),_,{ state:=.ready,pending:=none,fn,tmps:=t,params:=ps,assign:=as,body:=bd,defers:=w.heap.size },?_,rfl,rfl,rfl,rfl,rfl,rfl,.inr ⟨rfl,rfl,rfl⟩⟩;simp[Instr.enterLoop]
end
section
variable {P:Program}{g:Gh}{w:World}{t:G_}{O:Nat->Nat}{st st':St}{a:AV}{o:bX}{r:dF}
def S.otherG {w':World}{b:Nat}(s:S P g w st t O)(hx:bI g w g w' λx=>x=b)(hO:O b=0):S P g w' st t O:=by
 obtain⟨Oe,Oh,re,rh,ho⟩:=s.parts;have re':=kt.ext hx re (λy hy e=>by simp_all);have rh':Ep P g w' st.hs.heap Oh:=rh.imp' λk v Q _ hQ q=>q.ext0 hx (λy hy e=>by grind)
 exact⟨s.se,s.sh,⟨Oe,Oh,re',rh',ho⟩,s.le,λb hb=>aW (s.hi b hb) hx.size,s.fresh,λb o h=>aW (s.pmlt b o h) hx.size⟩
def S.endLoop {e:aT}{hs:HS}(s:S P g w ⟨e,hs⟩ t O){id:Nat}{snap:aT}{ps:C_}{as bd:VC}{pend:BF_}(hg:get hs.heap id=some (.loop snap ps as bd false pend)){b:Nat}(hob:g.obj id=some b) :
  ∃w' O',(Instr.endLoop b).run P w=.ok (pend.bind mX) w'∧S P g w' ⟨e,⟨del hs.heap id,hs.next⟩⟩ t O'∧bI g w g w' (λx=>x=b)∧∀x,O' x<=O x:=by
 obtain⟨Oe,Oh,re,rh,ho⟩:=s.parts;obtain⟨O1,O2,q,r2,hs2⟩:=RL.take rh hg;obtain⟨b',rc,h1,h2,h3,h4,h5,h6,h7,h8,h9,h10,h11⟩:=q;rw[hob]at h1;simp only[ae]at h1;subst h1;have hle2:∀x,Oe x+O2 x<=O x:=λx=>by grind
 have s2:S P g w ⟨e,⟨del hs.heap id,hs.next⟩⟩ t (λx=>Oe x+O2 x) :=
  ⟨s.se,s.sh.del id,⟨Oe,O2,re,r2,λ_=>rfl⟩,λx=>aP (hle2 x) (s.le x),λx hx=>s.hi x e_,s.fresh,s.pmlt⟩
 have hx:bI g w g (setBlk w b (.loop { rc with state:=.exhausted })) λx=>x=b:=bI.loopBlk h2
 refine⟨setBlk w b (.loop { rc with state:=.exhausted }),_,?_,s2.otherG hx ?_,hx,hle2⟩
 .have hb:(rc.state == LoopState.busy)=false:=by
   grind
  simp_all [Instr.endLoop,Be,Lv]
 .have:=h11 b;rw[B8]at this;have:=hs2 b;have:=ho b;have:=s.le b;omega
def ahR (hr:iB P r){f:Rd}{x:Operand}{ps:C_}{as bd:VC}{c d:Code}(h:Fy r f ps as bd st=some (o,st'))(hf:cI f x=true)
  (hps:∀p∈ps,p<t.size)(ha:Mt P t.size as c)(hb:Mt P t.size bd d)(s:S P g w st t O)(ro:J_)(ds:List Deferred)(hro:E1 w ro) :
  (Code.rangeFunc x ps.toArray c d).wpIn (FR ro) 0 P (cq P g w t O ds ro o st') ⟨t,ds⟩ w:=by
 unfold Fy at h;split at h
 .rename_i gf first caps e hrd
  split at h
  .rename_i v hs hcall;split at h
   .rename_i snap2 ps2 as2 bd2 pend hget;obtain⟨Of,O1,rf,s1,l1⟩:=s.rd hf hrd;simp only[RV]at rf;obtain⟨⟨xs,ys,hev,r1,r2⟩,_⟩:=rf;have l1':∀b,O1 b<=O b:=λb=>by simp_all
    refine wpIn_rangeFunc λfn hF=>?_
    obtain⟨w1,mark,rc,hen,e1,e2,e3,e4,e5,e6,hmark⟩:=adc (P:=P) (t:=t) hro fn ps.toArray c d;have hx1:bI g w g w1 λ_=>False:=by
     rcases hmark with ⟨_,_,rfl,_⟩|⟨_,rfl,_⟩
     .exact .refl _ _ _
     .exact bI.alloc s.pmlt _ _
    have sw1:S P g w1 ⟨e,st.hs⟩ t O1:=s1.extF hx1 rfl λb o h=>aW (s.pmlt b o h) hx1.size
    have hfresh:=sw1.fresh st.hs.next (ai _)
    have hx0:bI g w1 (g.add st.hs.next w1.heap.size 0 0 0) (w1.alloc (.loop rc)) λ_=>False:=(bI.alloc sw1.pmlt _ _).add hfresh _ _ _ _
    obtain⟨Oe1,Oh1,re1,rh1,ho1⟩:=sw1.parts;have hobj:(g.add st.hs.next w1.heap.size 0 0 0).obj st.hs.next=some w1.heap.size:=by simp[Gh.add]
    have hO1out:O1 w1.heap.size=0:=sw1.out (ai _);have hnew:=sw1.new (blk:=.loop rc) (o:=.loop (e.map λkv=>(kv.1,share kv.2)) ps as bd false none) (base:=0) (esz:=0) (bsz:=0) (O1:=one w1.heap.size) (by
     simp only[kh];refine⟨w1.heap.size,rc,hobj,jR _ _,e1,e2,e3,u_,u_,aqI sw1.se,?_,u_,λ_=>rfl⟩;rw[e6];exact kt.ext hx0 (aeD re1) s_) (λb=>by
      by_cases hb:b=w1.heap.size
      .simp_all
      .have:=sw1.le b;grind [one]) (λb hb=>by grind [xT])
    obtain⟨s2,hx2⟩:=hnew;obtain⟨Oe,Oh,re,sh,ho⟩:=s2.split;obtain⟨hfn,hk⟩:=hr hcall;have hxa:=hx1.trans hx0 λ_ _ h=>h
    have r1':=RVs.ext hxa _ _ _ r1 s_;have r2':=RVs.ext hxa _ _ _ r2 s_;have ry:RVs (g.add st.hs.next w1.heap.size 0 0 0) (w1.alloc (.loop rc)) [.yield st.hs.next] [.func (.yield w1.heap.size) #[] #[]] zero:=by
     simp only[RVs,RV];exact⟨_,[],zero,zero,rfl,⟨⟨w1.heap.size,hobj,rfl⟩,λ_=>rfl⟩,⟨rfl,λ_=>rfl⟩,λ_=>rfl⟩
    have hrv:RVs (g.add st.hs.next w1.heap.size 0 0 0) (w1.alloc (.loop rc)) (first++([.yield st.hs.next]++caps)) (xs.toList++([.func (.yield w1.heap.size) #[] #[]]++ys.toList)) zero:=by
     have:=r1'.join (ry.join r2');omega
    have hle:∀b,zero b+Oh b<=1:=λb=>by have:=s2.le b;grind
    have hk:=hk hrv sh hle (λb hb=>by simp at hb);generalize hargs:(xs.toList++([Value.func (.yield w1.heap.size) #[] #[]]++ys.toList)).toArray=args at hk;refine⟨w1.heap.size,mark,w1.alloc (.loop rc),{ target:=.fn (.func gf) ys,args:=xs++#[.func (.yield w1.heap.size) #[] #[]] },w1.alloc (.loop rc),gf,
     args,w1.alloc (.loop rc),hen,?_,λ_ _=>trivial,?_,λh=>by grind [Fence.wide],Py (hk.mono λen w3 hp=>?_)⟩
    .have hevx:(⟨t,ds⟩:Act).eval x=.func (.func gf) xs ys:=by simp_all [IS]
     have hconst:∀u:Value,(⟨t,ds⟩:Act).eval (.const u)=u:=λ_=>rfl
     simp_all [resolve,Deferred.ofValue]
    .simp only[invoke];rw[xU hfn,<-hargs]
     congr 2
     grind
    .cases en with
     |panicked _=>exact hp.elim
     |outgrown=>exact hp.elim
     |returned y =>
      obtain⟨g2,Oa,O3,k⟩:=It (hs:=hs) (Ov:=zero) s2.se re (λb=>by simp_all) s2 hp;have hob2:g2.obj st.hs.next=some w1.heap.size:=(k.ext.obj _ _ hobj).1;obtain⟨w4,O4,hend,s4,hx4,l4⟩:=k.st.endLoop hget hob2;have hlo:w.heap.size<=w1.heap.size:=hx1.size;have G:gS P g w t O ⟨e,⟨del hs.heap st.hs.next,hs.next⟩⟩ t w4 g2 O4:=by
       refine⟨s4,(((hxa.mono (T:=λb=>O b≠0) λ_ _ h=>h.elim).trans k.ext λb hb hq=>?_).trans hx4 λb hb hq=>?_),λb hb=>?_,rfl⟩
       .grind [one]
       .omega
       .have hb2:b<(w1.alloc (.loop rc)).heap.size:=aW hb hxa.size
        grind [one,DZ.old]
      have hM:j8 w4 O4 w.heap.size mark∧(ro.isSome=true->mark=[]):=by
       rcases hmark with ⟨_,hl,_,rfl⟩|⟨hn,rfl,rfl⟩
       .exact⟨trivial,λ_=>rfl⟩
       .refine⟨⟨⟨w.heap.size,rfl,ai _,?_,?_,λd hd=>by simp at hd⟩,trivial⟩,λh=>by simp_all⟩
        .have hne:w.heap.size≠(w.alloc (.deferred (some []))).heap.size:=s_;have hlt:w.heap.size<((w.alloc (.deferred (some []))).alloc (.loop rc)).heap.size:=by simp;omega
         have hO1z:O1 w.heap.size=0:=s1.out (ai _);have hoz:one (w.alloc (.deferred (some []))).heap.size w.heap.size=0:=by simp[one]
         rw[(hx4.blk _ (aW hlt k.ext.size) (λh=>hne h)).1,(k.ext.blk _ hlt (λh=>by
          omega)).1,tS s_,jR]
        .have hlt:w.heap.size<((w.alloc (.deferred (some []))).alloc (.loop rc)).heap.size:=by simp;omega
         have hO1z:O1 w.heap.size=0:=s1.out (ai _);have hoz:one (w.alloc (.deferred (some []))).heap.size w.heap.size=0:=by simp[one]
         grind [DZ.old]
      have post:∀out st'',st''=⟨e,⟨del hs.heap st.hs.next,hs.next⟩⟩->cq P g w t O ds ro out st'' (GZ out) { tmps:=t,defers:=mark++ds } w4:=by
       rintro out _ rfl
       exact⟨rfl,g2,O4,mark,G,rfl,hM.1,hM.2⟩
      refine⟨pend.bind mX,w4,hend,?_⟩
      cases pend with
      |none =>
       obtain⟨rfl,rfl⟩:=h;exact post .normal _ rfl
      |some out =>
       simp only[ae,aM]at h;obtain⟨rfl,rfl⟩:=h
       cases out with
       |normal=>exact post .normal _ rfl
       |exit i=>exact wpIn_exit (post (.exit i) _ rfl)
       |goto i=>exact wpIn_goto (post (.goto i) _ rfl)
       |ret=>exact wpIn_ret (post .ret _ rfl)
   simp_all
  simp_all
 simp_all
end
abbrev sR:=@Option.isNone_iff_eq_none
section
variable {P:Program}{g:Gh}{w:World}{t:G_}{O:Nat->Nat}{st st':St}{a:AV}{o:Oper}{r:dF}
def aw8 {ro:J_}(hr:iB P r)(hcs:jh P r){v:pV}(s:S P g w st t O)(h:di v r st=some (a,st'))(hc:bw P v o.op=true):OpW ro P g w t O st' a o:=by
 cases v with
 |mov x=>exact(ayi s h hc).opW
 |pick c x y=>exact(atA s h hc).opW
 |alloc zs=>exact(aqd s h hc).opW
 |box x=>exact(ax5 s h hc).opW
 |build zs ps=>exact(aqt s h hc).opW
 |mks m ps=>exact(aw3 s h hc).opW
 |mksv m ps=>exact(avc s h hc).opW
 |ld n k p=>exact(aza s h hc).opW
 |st n p x=>exact(azW s h hc).opW
 |nilck x=>exact(ar3 s h hc).opW
 |bin op x y=>exact(awm s h hc).opW
 |binb neg x y=>exact(auF s h hc).opW
 |bina neg ks x y=>exact(atD s h hc).opW
 |un op x=>exact(aAk s h hc).opW
 |conv k x=>exact(avz s h hc).opW
 |toStr x=>exact(arG s h hc).opW
 |mkfn f a c=>exact(atH s h hc).opW
 |mkslice z l c=>exact(Xy s h hc).opW
 |slice m x lo hi mx=>exact(ap0 s h hc).opW
 |slarr n x lo hi mx=>exact(arJ s h hc).opW
 |fa off p=>exact(azO s h hc).opW
 |fld off n x=>exact(axu s h hc).opW
 |ia n x i=>exact(aAj s h hc).opW
 |iarr l n p i=>exact(avP s h hc).opW
 |ix l n ag x i=>exact(ayT s h hc).opW
 |ixs x i=>exact(ax6 s h hc).opW
 |idxb x c=>exact(aua s h hc).opW
 |ext j mv i=>exact(ayB s h hc).opW
 |len x=>exact(ayr s h hc).opW
 |cap x=>exact(ayj s h hc).opW
 |app m x y=>exact(awT s h hc).opW
 |appz z x n=>exact(avr s h hc).opW
 |cpy m x y=>exact(axn s h hc).opW
 |clr z x=>exact(axY s h hc).opW
 |minmax b xs=>exact(an8 s h hc).opW
 |call f args=>exact auW hr s h hc
 |calli f args=>exact asq hr s h hc
 |callv f args=>exact aq8 hr hcs s h hc
 |bad=>grind [di,amG]
 |kill is=>simp[bw]at hc
 |free i=>simp[bw]at hc
 |wk i m=>simp[bw]at hc
 |frz i=>simp[bw]at hc
 |frzC i offs=>simp[bw]at hc
def QD {v:pV}{op:Op}(hb:v≠.bad)(h:bw P v op=true):∀c,op≠.defer c:=by
 rintro c rfl
 cases v<;>first|exact hb rfl|(simp[bw]at h)
def Uu {i:VI}{st2:St}(h:gy r i st=some st2):∃v st1,di i.op r st=some (v,st1)∧st2=cM i.dst (firm (dO i.th v st1.hs).1) ⟨st1.env,(dO i.th v st1.hs).2⟩:=by
 unfold gy at h;split at h
 .rename_i v st1 hv;split at h
  .rename_i hth;simp only[ae]at h;exact⟨v,st1,hv,by rw[hth];exact h.symm⟩
  grind
 simp_all
theorem aeC (t:G_)(dst:J_)(x:Value):∀k,dst≠some k->(xN t dst x)[k]?=t[k]?:=by
 intro k hk
 cases dst<;>grind [Act.put]
def ake {ro:J_}(hr:iB P r)(hcs:jh P r){n:Nat}{ops:Array Oper}{i:VI}{st2:St}(hn:t.size=n)(s:S P g w st t O)(h:cV r i st=some st2)(hc:DO P n ops i o=true)
  (ds:List Deferred)(next:Act->World->Prop)(Q:Exit->Act->World->Prop)(hk:∀t' w' g' O',gS P g w t O st2 t' w' g' O'->(∀k,i.dst≠some k->t'[k]?=t[k]?)->next ⟨t',ds⟩ w') :
  if Region.wanted o (yielded ops t) then o.wpIn (FR ro) 0 P ⟨t,ds⟩ w next Q else (∀f,o.about P w (⟨t,ds⟩:Act).eval=some f->(FR ro).fn f)∧next (Act.put ⟨t,ds⟩ o.dst undef) w:=by
 simp only[DO,af]at hc;obtain⟨⟨hdst,hgd⟩,hop⟩:=hc;have hd:i.dst=o.dst∧∀d,i.dst=some d->d<t.size:=by
  grind [Nat.beq_eq,Nat.blt_eq]
 have go:gy r i st=some st2->o.wpIn (FR ro) 0 P ⟨t,ds⟩ w next Q:=by
  intro hg;obtain⟨v,st1,hv,rfl⟩:=Uu hg;have hb:i.op≠.bad:=by intro e;simp_all [di,amG]
  refine⟨λ_ _=>trivial,?_⟩;rw[Qd _ _ (QD hb hop)];refine aw8 (ro:=ro) hr hcs s hv hop ds next Q λx w' g' Oa O' k=>?_
  obtain⟨g2,O2,G⟩:=ago k hd.2 i.th
  grind [Ze,aeC]
 have no:st2=cM i.dst (.tup []) st->(∀f,o.about P w (⟨t,ds⟩:Act).eval=some f->(FR ro).fn f)∧next (Act.put ⟨t,ds⟩ o.dst undef) w:=by
  rintro rfl
  refine⟨λ_ _=>trivial,?_⟩;have ha:DZ P g w t O st (.tup []) undef w g zero O:=⟨by grind [RV,RVs,undef],s,.refl _ _ _,λb=>by have:=s.le b;simp_all,λb _=>by simp,λb hb=>by simp at hb⟩
  obtain⟨g2,O2,G⟩:=ago ha hd.2 [];rw[Ze,<-hd.1];exact hk _ _ _ _ G (aeC _ _ _)
 grind [aph,cV]
def aoW {ro:J_}(hr:iB P r)(hcs:jh P r){n:Nat}{ops:Array Oper}{i:VI}{st2:St}(hn:t.size=n)(s:S P g w st t O)(h:cV r i st=some st2)(hc:DO P n ops i o=true)
  (ds:List Deferred)(next:Act->World->Prop)(Q:Exit->Act->World->Prop)(hk:∀t' w' g' O',gS P g w t O st2 t' w' g' O'->next ⟨t',ds⟩ w') :
  if Region.wanted o (yielded ops t) then o.wpIn (FR ro) 0 P ⟨t,ds⟩ w next Q else (∀f,o.about P w (⟨t,ds⟩:Act).eval=some f->(FR ro).fn f)∧next (Act.put ⟨t,ds⟩ o.dst undef) w:=ake hr hcs hn s h hc ds next Q λt' w' g' O' G _=>hk t' w' g' O' G
def acD {i:VI}{st2:St}(s:S P g w st t O)(hg:ML i=true)(h:cV r i st=some st2):∃g' O',gS P g w t O st2 t w g' O':=by
 simp only[ML,af]at hg;obtain⟨⟨⟨h1,h2⟩,h3⟩,h4⟩:=hg;have hd:i.dst=none:=sR.1 h1;have hgd:i.guard=none:=sR.1 h2;have hth:i.th=[]:=u_;unfold cV at h;rw[hgd]at h;obtain⟨v,st1,hv,rfl⟩:=Uu h;rw[hd,hth];have fin:Mr P g w t O st1->∃g' O',gS P g w t O (cM none (firm (dO [] v st1.hs).1) ⟨st1.env,(dO [] v st1.hs).2⟩) t w g' O':=by
  rintro ⟨g',O',s',hx,hle⟩
  exact⟨g',O',s',hx,λb _=>hle b,rfl⟩
 split at h4
 .rename_i is e;rw[e]at hv;exact fin (atP s hv)
 .rename_i j e;rw[e]at hv;exact fin (at2 s hv)
 .rename_i j m e;rw[e]at hv;exact fin (azw s hv)
 .rename_i j e;rw[e]at hv;exact fin (aw6 s hv)
 .rename_i j offs e;rw[e]at hv;exact fin (avj s hv)
 simp_all
def aac {ro:J_}(hr:iB P r)(hcs:jh P r){n:Nat}{ops:Array Oper}{Q:Exit->Act->World->Prop}(ds:List Deferred) :
  ∀{l:R_}{os:List Oper}{k:Nat},ops.toList.drop k=os->JG P n ops l os=true->∀{g:Gh}{w:World}{t:G_}{O:Nat->Nat}{st st':St},t.size=n->S P g w st t O->lh r l st=some st'->
   (∀w' t' g' O',gS P g w t O st' t' w' g' O'->Q .normal ⟨t',ds⟩ w')->wpOpsIn (FR ro) 0 P ops Q (List.range' k os.length) ⟨t,ds⟩ w
 |[],os,k,hos,hc,g,w,t,O,st,st',hn,s,h,hq=>by
  cases os with
  |nil =>
   simp only[lh,ae]at h;subst h;exact hq _ _ _ _ (gS.refl s)
  |cons o os=>simp[JG]at hc
 |v::l,os,k,hos,hc,g,w,t,O,st,st',hn,s,h,hq=>by
  simp only[lh]at h;split at h
  .rename_i st1 hv;simp only[JG]at hc;split at hc
   .rename_i hgh;obtain⟨g1,O1,G⟩:=acD s hgh hv;exact aac hr hcs ds hos hc o_ G.st h λw' t' g' O' G2=>hq _ _ _ _ (G.trans G2)
   .cases os with
    |nil=>simp at hc
    |cons o os =>
     simp only[af]at hc;obtain⟨hvi,hrest⟩:=hc;have hk:ops[k]?=some o:=by
      have:=aY (λl=>l[0]?) hos
      grind
     have hos':ops.toList.drop (k+1)=os:=by
      have:=aY (λl=>l.drop 1) hos
      grind [List.drop_drop]
     have key:=aoW (ro:=ro) hr hcs hn s hv hvi ds (wpOpsIn (FR ro) 0 P ops Q (List.range' (k+1) os.length)) Q λt' w' g' O' G =>
      aac hr hcs ds hos' hrest (by rw[G.size,hn]) G.st h λw2 t2 g2 O2 G2=>hq _ _ _ _ (G.trans G2)
     grind [List.range'_succ,wpOpsIn]
  simp_all
end
def jT:Obj->Obj->Prop
 |.cells a,.cells b=>shareAll a=shareAll b
 |o,o'=>o=o'
def dx (h h':ak):Prop:=∀id o,get h id=some o->∃o',get h' id=some o'∧jT o o'
theorem jT.refl (o:Obj):jT o o:=by cases o<;>simp[jT]
theorem dx.refl (h:ak):dx h h:=λ_ o ho=>⟨o,ho,.refl o⟩
theorem dx.arr {h h':ak}(H:dx h h'){id m:Nat}{xs:F_}(g:get h id=some (.arr m xs)):get h' id=some (.arr m xs):=by
 obtain⟨o,h1,h2⟩:=H id _ g
 grind [jT]
theorem dx.cells {h h':ak}(H:dx h h'){id:Nat}{cs:D_}(g:get h id=some (.cells cs)):∃cs',get h' id=some (.cells cs')∧shareAll cs=shareAll cs':=by
 obtain⟨o,h1,h2⟩:=H id _ g
 cases o<;>simp[jT]at h2
 simp_all
def ft (f:St->K_)(R M:C_):Prop :=
 ∀e hs v st1,f ⟨e,hs⟩=some (v,st1)->st1.hs=hs∧(cQ e->cQ st1.env)∧(∀k,k∉M->get st1.env k=get e k)∧
  ∀e' hs',(∀k∈R,get e' k=get e k)->dx hs.heap hs'.heap->∃e1',f ⟨e',hs'⟩=some (v,⟨e1',hs'⟩)∧(∀k,k∉M->get e1' k=get e' k)∧∀k∈M,get e1' k=get st1.env k
theorem IP {α:Type}(l:List (Nat×α))(i k:Nat):get (del l i) k=if k=i then none else get l k:=by
 induction l<;>grind [aaK,CI,pn,ja]
theorem fL {α:Type}(l:List (Nat×α))(i k:Nat)(x:α):get (put l i x) k=if k=i then some x else get l k:=by
 induction l<;>grind [aa2,ja,xQ]
theorem wE {α:Type}:∀{a b:List (Nat×α)},cQ a->cQ b->(∀k,get a k=get b k)->a=b
 |[],[],_,_,_=>rfl
 |[],(k,v)::b,_,_,h=>by have:=h k;grind [ja,CI]
 |(k,v)::a,[],_,_,h=>by have:=h k;grind [ja,CI]
 |(k,v)::a,(j,u)::b,ha,hb,h=>by
  have ha':=bN.1 ha;have hb':=bN.1 hb;have none_of:∀{l:List (Nat×α)}{i:Nat},(∀p∈l,Il i p.1)->get l i=none:=by
   intro l i hl
   induction l with
   |nil=>rfl
   |cons p l ih =>
    grind [ja]
  have hkj:k=j:=by
   rcases au4 k j with hlt|e|hlt
   .have h1:=h k
    grind [ja]
   .exact e
   .have h1:=h j
    grind [ja]
  subst hkj;have hvu:v=u:=by have h1:=h k;grind [ja]
  subst hvu;rw[wE ha'.2 hb'.2 λi=>?_];by_cases e:k=i
  .grind
  .have h1:=h i
   grind [ja]
def To {e e1:aT}{x:Rd}{v:AV}(h:rd e x=some (v,e1)):(cQ e->cQ e1)∧(∀k,get e1 k=if k∈kV x then none else get e k)∧
  ∀e',(∀k∈qd x,get e' k=get e k)->∃e1',rd e' x=some (v,e1')∧∀k,get e1' k=if k∈kV x then none else get e' k:=by
 cases x<;>grind [rd,kV,qd,cQ.del,IP]
def K4:∀{rs:S_}{e e1:aT}{vs:D_},rdAll e rs=some (vs,e1)->(cQ e->cQ e1)∧(∀k,get e1 k=if k∈bu rs then none else get e k)∧
  ∀e',(∀k∈bW rs,get e' k=get e k)->∃e1',rdAll e' rs=some (vs,e1')∧∀k,get e1' k=if k∈bu rs then none else get e' k
 |[],e,e1,vs,h=>by
  grind [rdAll,bu]
 |x::rs,e,e1,vs,h=>by
  simp only[rdAll]at h;split at h
  .simp at h
  .rename_i v e2 h1;split at h
   .simp at h
   .rename_i us e3 h2;obtain⟨rfl,rfl⟩:=h;obtain⟨s1,g1,l1⟩:=To h1;obtain⟨s2,g2,l2⟩:=K4 h2;have hm:∀k,(k∈bu (x::rs))↔(k∈kV x∨k∈bu rs):=λk=>by simp[bu]
    refine⟨λhs=>s2 (s1 hs),λk=>?_,λe' he=>?_⟩
    .grind
    .obtain⟨e2',h1',g1'⟩:=l1 e' λk hk=>he k (by grind [bW])
     obtain⟨e3',h2',g2'⟩:=l2 e2' λk hk=>by
      grind [bW]
     refine⟨e3',by grind [rdAll],λk=>?_⟩
     grind
def ft.rds {f:St->K_}{rs:S_}(F:D_->HS->L_)
  (mono:∀vs hs hs' v,dx hs.heap hs'.heap->F vs hs=some v->F vs hs'=some v)
  (h:∀e hs,f ⟨e,hs⟩=match rdAll e rs with|none=>none|some (vs,e1)=>match F vs hs with|none=>none|some v=>some (v,⟨e1,hs⟩)):ft f (bW rs) (bu rs):=by
 intro e hs v st1 hf;rw[h]at hf;split at hf
 .simp at hf
 .rename_i vs e1 hr;split at hf
  .simp at hf
  .obtain⟨rfl,rfl⟩:=hf;obtain⟨s1,g1,l1⟩:=K4 hr;refine⟨rfl,s1,λk hk=>by simp_all,λe' hs' he hle=>?_⟩;obtain⟨e1',hr',g1'⟩:=l1 e' he;exact⟨e1',e_,λk hk=>by simp_all,λk hk=>by simp_all⟩
theorem kM:∀(cs:D_),shareAll cs=cs.map share
 |[]=>rfl
 |c::r=>by simp only[rD,kM r,bZ]
def anJ (v:AV):EK (share v)=EK v:=by
 cases v<;>try rfl
 rename_i p m xs
 cases p<;>rfl
theorem Yr:∀(cs:D_),mP (shareAll cs)=mP cs
 |[]=>rfl
 |c::r=>by simp only[rD,mP,anJ,Yr r]
theorem aoB {a b:D_}(h:shareAll a=shareAll b){i:Nat}{v:AV}(g:a[i]?=some v):∃u,b[i]?=some u∧share u=share v:=by
 rw[kM,kM]at h;have:=aY (λl=>l[i]?) h
 grind
theorem apB {a b:D_}(h:shareAll a=shareAll b):a.length=b.length:=by
 rw[kM,kM]at h;simpa using aY List.length h
theorem aoY {a b:D_}(h:shareAll a=shareAll b)(i n:Nat):shareAll (sub a i n)=shareAll (sub b i n):=by
 grind [kM,sub,List.map_take,List.map_drop]
theorem dx.load {h h':ak}(H:dx h h'){n:J_}{p u:AV}{k:ak}(hl:loadAt h n 0 p=some (u,k)):∃k',loadAt h' n 0 p=some (u,k'):=by
 cases p<;>simp only[loadAt,reduceCtorEq]at hl⊢
 .split at hl<;>grind [cells,aoB,apB,aoY]
 all_goals grind [arr]
theorem dx.objElems {h h':ak}(H:dx h h'){id:Nat}{xs:F_}(g:objElems h id=some xs):objElems h' id=some xs:=by
 grind [Vm.objElems,arr,cells,Yr]
theorem dx.elems {h h':ak}(H:dx h h'){v:AV}{xs:F_}(g:elems h v=some xs):elems h' v=some xs:=by
 unfold Go.Vm.elems at g⊢
 grind [objElems]
theorem dx.viewOne {h h':ak}(H:dx h h'){v u:AV}(g:viewOne h v=some u):viewOne h' v=some u:=by
 unfold Go.Vm.viewOne at g⊢
 grind [elems]
theorem dx.viewAll {h h':ak}(H:dx h h'):∀{vs us:D_},viewAll h vs=some us->viewAll h' vs=some us
 |[],_,g=>g
 |v::r,us,g=>by
  simp only[Go.Vm.viewAll]at g⊢;split at g
  .simp at g
  .rename_i x hx;split at g
   .simp at g
   .rename_i xs hxs;simp only[H.viewOne hx,H.viewAll hxs];exact g
def dx.viewArg {h h':ak}(H:dx h h'){v u:AV}(g:viewArg h v=some u):viewArg h' v=some u:=by
 unfold Go.Vm.viewArg at g⊢
 grind [viewAll,viewOne]
theorem dx.viewArgs {h h':ak}(H:dx h h'):∀{vs us:D_},viewArgs h vs=some us->viewArgs h' vs=some us
 |[],_,g=>g
 |v::r,us,g=>by
  simp only[Go.Vm.viewArgs]at g⊢;split at g
  .simp at g
  .rename_i x hx;split at g
   .simp at g
   .rename_i xs hxs;simp only[H.viewArg hx,H.viewArgs hxs];exact g
def dx.call {r:dF}{f:FuncId}{vs:D_}{h h':ak}(H:dx h h'){v:AV}(g:fh r f vs h=some v):fh r f vs h'=some v:=by
 grind [fh,viewArgs]
theorem dx.okSl {h h':ak}(H:dx h h'){m:Nat}{v:AV}(g:okSl h m v=true):okSl h' m v=true:=by
 unfold Go.Vm.okSl at g⊢
 grind [arr,cells]
abbrev aK:=@List.cons_append
section
variable {r:dF}
def aum (x:Rd):ft (UD x) (bW [x]) (bu [x]):=by
 refine ft.rds (λvs _=>match vs with|[v]=>some v|_=>none) (λ_ _ _ _ _ h=>h) λe hs=>?_
 grind [UD,rdAll]
def anf (zs:D_)(ps:AB_):ft (Fa zs ps) (bW (tq ps)) (bu (tq ps)):=by
 refine ft.rds (λvs _=>match dM zs (vw ps vs) with|some cs=>some (.agg cs)|none=>none) (λ_ _ _ _ _ h=>h) λe hs=>?_
 grind [Fa]
def aur (m:Nat)(ps:S_):ft (Og m ps) (bW ps) (bu ps):=by
 refine ft.rds (λvs _=>match ji m vs with|some xs=>some (.own true m xs)|none=>none) (λ_ _ _ _ _ h=>h) λe hs=>?_
 grind [Og]
def aAH {h:ak}{n:J_}{p v:AV}{h':ak}(hl:loadAt h n 0 p=some (v,h')):h'=h:=by
 cases p<;>simp only[loadAt,reduceCtorEq]at hl
 all_goals grind
def ldV (n:J_)(vs:D_)(hs:HS):L_ :=
 match vs with
 |[v]=>(match loadAt hs.heap n 0 v with|some (u,_)=>some u|none=>none)
 |_=>none
def at0 {n:J_}(vs:D_)(hs hs':HS)(v:AV)(H:dx hs.heap hs'.heap)(h:ldV n vs hs=some v):ldV n vs hs'=some v:=by
 unfold ldV at h⊢
 grind [dx.load]
def aw5 (n:J_)(p:Rd):ft (Fz n 0 p) (bW [p]) (bu [p]):=by
 refine ft.rds (ldV n) at0 λe hs=>?_
 simp only[Fz,rdAll]
 cases rd e p with
 |none=>rfl
 |some q =>
  obtain⟨v,e1⟩:=q
  cases hl:loadAt hs.heap n 0 v with
  |none=>simp only[ldV,hl]
  |some q=>have:=aAH hl;simp_all [ldV]
def aoH (x:Rd):ft (IW x) (bW [x]) (bu [x]):=by
 refine ft.rds (λvs _=>match vs with|[v]=>(match v with|.ptr ..|.pel ..|.pim ..|.fn ..|.yield ..=>some v|_=>none)|_=>none) (λ_ _ _ _ _ h=>h) λe hs=>?_
 grind [IW,rdAll]
def auI (op:BinOp)(x y:Rd):ft (OE op x y) (bW [x,y]) (bu [x,y]):=by
 refine ft.rds (λvs _=>match vs with|[a,b]=>dw op a b|_=>none) (λ_ _ _ _ _ h=>h) λe hs=>?_
 grind [OE,Uv,rdAll]
def aqL (neg:Bool)(x y:Rd):ft (MD neg x y) (bW [x,y]) (bu [x,y]):=by
 refine ft.rds (λvs _=>match vs with|[a,b]=>(match a,b with|.d (.bool a),.d (.bool b)=>some (.bool (match neg with|true=>!(a == b)|false=>a == b))|_,_=>none)|_=>none) (λ_ _ _ _ _ h=>h) λe hs=>?_
 grind [MD,rdAll]
def aqb (neg:Bool)(ks:Y_)(x y:Rd):ft (Nq neg ks x y) (bW [x,y]) (bu [x,y]):=by
 refine ft.rds (λvs _=>match vs with|[a,b]=>(match a,b with|.agg a,.agg b=>(match bq ks a b with|some t=>some (.bool (match neg with|true=>!t|false=>t))|none=>none)|_,_=>none)|_=>none) (λ_ _ _ _ _ h=>h) λe hs=>?_
 simp only[Nq,rdAll]
 cases rd e x<;>grind
def axU (op:UnOp)(x:Rd):ft (abf op x) (bW [x]) (bu [x]):=by
 refine ft.rds (λvs _=>match vs with|[a]=>aaI op a|_=>none) (λ_ _ _ _ _ h=>h) λe hs=>?_
 grind [abf,rdAll]
def asd (k:IntKind)(x:Rd):ft (JA k x) (bW [x]) (bu [x]):=by
 refine ft.rds (λvs _=>match vs with|[.d (.int _ n)]=>some (.int k (wr k n))|_=>none) (λ_ _ _ _ _ h=>h) λe hs=>?_
 grind [JA,rdAll]
def apy (x:Rd):ft (M5 x) (bW [x]) (bu [x]):=by
 refine ft.rds (λvs hs=>match vs with|[v]=>(match elems hs.heap v with|some xs=>(match wD xs with|some s=>some (.d (.str s))|none=>none)|none=>none)|_=>none) (λvs hs hs' v H h=>?_) λe hs=>?_
 all_goals grind [dx.elems,M5,rdAll]
def ah0 (z:V_)(x y:Rd):ft (mS z x y) (bW [x,y]) (bu [x,y]):=by
 refine ft.rds (λvs _=>match vs with|[n,c]=>(match gJ c bQ with|some c=>(match gJ n c with|some n=>some (.own true z.length (List.replicate n z))|none=>none)|none=>none)|_=>none) (λ_ _ _ _ _ h=>h) λe hs=>?_
 grind [mS,rdAll]
def awS (off:Nat)(p:Rd):ft (abp off p) (bW [p]) (bu [p]):=by
 refine ft.rds (λvs _=>match vs with|[a]=>gX off a|_=>none) (λ_ _ _ _ _ h=>h) λe hs=>?_
 grind [abp,rdAll]
def avY (off:Nat)(n:J_)(x:Rd):ft (OO off n x) (bW [x]) (bu [x]):=by
 refine ft.rds (λvs _=>match vs with|[.agg cs]=>GN n cs off|_=>none) (λ_ _ _ _ _ h=>h) λe hs=>?_
 grind [OO,rdAll]
def XI (n k:Nat)(o:AD_):L_ :=
 match o with
 |some xs=>match xs[k]? with
  |some x=>match Nat.beq x.length n with
   |true=>some (.pim x 0)
   |false=>none
  |none=>none
 |none=>none
def aeE (n:Nat)(h:ak)(k:Nat)(v:AV):L_ :=
 match v with
 |.sl id off len=>match Nat.ble len k with
  |true=>none
  |false=>match get h id with
   |some (.arr m _)=>match Nat.beq m n with
    |true=>some (.pel id (off+k) 0)
    |false=>none
   |some (.cells _)=>match Nat.beq n 1 with
    |true=>some (.ptr id (off+k))
    |false=>none
   |_=>none
 |v=>XI n k (elems h v)
theorem auk {n k:Nat}{h h':ak}(H:dx h h'){v u:AV}(g:aeE n h k v=some u):aeE n h' k v=some u:=by
 have other:XI n k (elems h v)=some u->XI n k (elems h' v)=some u:=by
  intro g
  cases hx:elems h v<;>grind [XI,dx.elems]
 cases v<;>simp only[aeE]at g⊢<;>try exact other g
 grind [dx.arr,dx.cells]
def aye (n:Nat)(x i:Rd):ft (aeY n x i) (bW [x,i]) (bu [x,i]):=by
 refine ft.rds (λvs hs=>match vs with|[v,i]=>(match s9 i with|some k=>aeE n hs.heap k v|none=>none)|_=>none) (λvs hs hs' v H h=>?_) λe hs=>?_
 .grind [auk]
 simp only[aeY,rdAll]
 cases rd e x with
 |none=>rfl
 |some q =>
  obtain⟨a,e1⟩:=q;simp only
  cases rd e1 i<;>grind [XI,aeE]
def aqk (len n:Nat)(p i:Rd):ft (Mq len n p i) (bW [p,i]) (bu [p,i]):=by
 refine ft.rds (λvs _=>match vs with|[p,i]=>(match s9 i with|some i=>(match Nat.ble len i with|true=>none|false=>gX (i*n) p)|none=>none)|_=>none) (λ_ _ _ _ _ h=>h) λe hs=>?_
 simp only[Mq,rdAll]
 grind
def axK (len n:Nat)(ag:Bool)(x i:Rd):ft (Xc len n ag x i) (bW [x,i]) (bu [x,i]):=by
 refine ft.rds (λvs _=>match vs with|[.agg cs,i]=>(match s9 i with|some i=>(match Nat.ble len i with|true=>none|false=>GN (aet ag n) cs (i*n))|none=>none)|_=>none) (λ_ _ _ _ _ h=>h) λe hs=>?_
 simp only[Xc,rdAll]
 cases rd e x with
 |none=>rfl
 |some q =>
  obtain⟨a,e1⟩:=q;simp only
  cases hi:rd e1 i<;>grind
def atw (x i:Rd):ft (PT x i) (bW [x,i]) (bu [x,i]):=by
 refine ft.rds (λvs _=>match vs with|[.d (.str s),i]=>(match s9 i with|some i=>(match s[i]? with|some b=>some (.int .u8 (.ofNat b.toNat))|none=>none)|none=>none)|_=>none) (λ_ _ _ _ _ h=>h) λe hs=>?_
 grind [PT,rdAll]
def auo (x:Rd):ft (TM x) (bW [x]) (bu [x]):=by
 refine ft.rds (λvs _=>match vs with|[a]=>(match lenOf a with|some n=>some (.int .i64 (.ofNat n))|none=>none)|_=>none) (λ_ _ _ _ _ h=>h) λe hs=>?_
 grind [TM,rdAll]
def atZ (x:Rd):ft (Pv x) (bW [x]) (bu [x]):=by
 refine ft.rds (λvs _=>match vs with|[.nl]=>some (.int .i64 (.ofNat 0))|_=>none) (λ_ _ _ _ _ h=>h) λe hs=>?_
 grind [Pv,rdAll]
def ak9 (b:Bool)(xs:S_):ft (Ce b xs) (bW xs) (bu xs):=by
 refine ft.rds (λvs _=>match vs with|.d (.int k n)::vs=>Ha b (.d (.int k n)) vs|_=>none) (λ_ _ _ _ _ h=>h) λe hs=>?_
 grind [Ce]
theorem abG (e:aT):∀(a b:S_),rdAll e (a++b)=match rdAll e a with
  |none=>none
  |some (x,e1)=>match rdAll e1 b with
   |none=>none
   |some (y,e2)=>some (x++y,e2)
 |[],b=>by
  grind [rdAll]
 |r::a,b=>by
  simp only[aK,rdAll]
  cases rd e r with
  |none=>rfl
  |some p =>
   obtain⟨v,e1⟩:=p;simp only[abG e1 a b]
   grind
theorem acy:∀{rs:S_}{e e1:aT}{vs:D_},rdAll e rs=some (vs,e1)->vs.length=rs.length
 |[],e,e1,vs,h=>by grind [rdAll]
 |x::rs,e,e1,vs,h=>by
  simp only[rdAll]at h;split at h
  .simp at h
  .split at h
   .simp at h
   .rename_i h2;obtain⟨rfl,rfl⟩:=h;simp[acy h2]
def asb (f:FuncId)(first caps:S_):ft (Jl f first caps) (bW (first++caps)) (bu (first++caps)):=by
 refine ft.rds (λvs _=>some (.fn f (shareAll (vs.take first.length)) (shareAll (vs.drop first.length)))) (λ_ _ _ _ _ h=>h) λe hs=>?_
 grind [Jl,abG,acy,List.take_left]
def ar1 (f:FuncId)(args:S_):ft (G5 r f args) (bW args) (bu args):=by
 refine ft.rds (λvs hs=>fh r f vs hs.heap) (λvs hs hs' v H h=>H.call h) λe hs=>?_
 grind [G5]
theorem am8 {v:pV}{rs:S_}(h:FH v=some rs):ft (di v r) (bW rs) (bu rs):=by
 unfold FH at h;split at h<;>simp only[ae,reduceCtorEq]at h<;>subst h
 .exact aum _
 .exact anf _ _
 .exact aur _ _
 .exact aw5 _ _
 .exact aoH _
 .exact auI _ _ _
 .exact aqL _ _ _
 .exact aqb _ _ _ _
 .exact axU _ _
 .exact asd _ _
 .exact apy _
 .exact ah0 _ _ _
 .exact awS _ _
 .exact avY _ _ _
 .exact aye _ _ _
 .exact aqk _ _ _ _
 .exact axK _ _ _ _ _
 .exact atw _ _
 .exact auo _
 .exact atZ _
 .exact ak9 _ _
 .exact asb _ _ _
 .exact ar1 _ _
end
abbrev cK:=@List.mem_append_left
section
variable {r:dF}
def So (e:aT)(o:AA_)(rs:S_):rdAll e (o.toList++rs)=match rdOpt e o with
  |none=>none
  |some (vo,e1)=>match rdAll e1 rs with
   |none=>none
   |some (vs,e2)=>some (vo.toList++vs,e2):=by
 cases o<;>grind [rdOpt,rdAll]
def aba:AA_->D_->Option (L_×D_)
 |none,vs=>some (none,vs)
 |some _,v::vs=>some (some v,vs)
 |some _,[]=>none
def aaf {e e1:aT}{o:AA_}{vo:L_}(h:rdOpt e o=some (vo,e1))(vs:D_):aba o (vo.toList++vs)=some (vo,vs):=by
 cases o with
 |none=>obtain⟨rfl,rfl⟩:=h;rfl
 |some x =>
  simp only[rdOpt]at h;split at h
  .obtain⟨rfl,rfl⟩:=h;rfl
  simp_all
def Sx (m:Nat)(lo hi mx:AA_)(h:ak)(vs:D_):L_ :=
 match vs with
 |[]=>none
 |v::vs=>match aba lo vs with
  |none=>none
  |some (l,vs)=>match aba hi vs with
   |none=>none
   |some (hh,vs)=>match aba mx vs with
    |none=>none
    |some (k,_)=>match okSl h m v with
     |true=>IY m v l hh k
     |false=>none
def akR {m:Nat}{lo hi mx:AA_}{h h':ak}(H:dx h h'){vs:D_}{u:AV}(g:Sx m lo hi mx h vs=some u):Sx m lo hi mx h' vs=some u:=by
 unfold Sx at g⊢;split at g
 .simp at g
 .rename_i v vs
  cases h1:aba lo vs with
  |none=>simp_all
  |some p =>
   obtain⟨l,vs1⟩:=p;simp only at g⊢
   cases h2:aba hi vs1<;>grind [dx.okSl]
def aoU (m:Nat)(x:Rd)(lo hi mx:AA_):ft (MB m x lo hi mx) (bW (x::(lo.toList++(hi.toList++(mx.toList++[]))))) (bu (x::(lo.toList++(hi.toList++(mx.toList++[]))))):=by
 refine ft.rds (λvs hs=>Sx m lo hi mx hs.heap vs) (λvs hs hs' v H h=>akR H h) λe hs=>?_
 simp only[MB,rdAll]
 cases rd e x with
 |none=>rfl
 |some q =>
  obtain⟨v,e1⟩:=q;simp only;rw[So]
  cases h1:rdOpt e1 lo with
  |none=>rfl
  |some q =>
   obtain⟨l,e2⟩:=q;simp only;rw[So]
   cases h2:rdOpt e2 hi with
   |none=>rfl
   |some q =>
    obtain⟨hh,e3⟩:=q;simp only;rw[So]
    cases h3:rdOpt e3 mx with
    |none=>rfl
    |some q =>
     simp only[rdAll,Sx,aaf h1,aaf h2,aaf h3]
     grind
def NE {x:Rd}{k:Nat}(h:k∈kV x):k∈qd x:=by
 cases x<;>simp_all [kV,qd]
def aqS (c a b:Rd):ft (lQ c a b) (bW [c,a,b]) (bu [c,a,b]):=by
 intro e hs v st1 hf;unfold lQ at hf;have hm:∀k,k∈bu [c,a,b]↔(k∈kV c∨k∈kV a∨k∈kV b):=λk=>by simp[bu]
 have hsl:∀k,k∈bW [c,a,b]↔(k∈qd c∨k∈qd a∨k∈qd b):=λk=>by simp[bW]
 split at hf
 .rename_i tb e1 h1;obtain⟨s1,g1,l1⟩:=To h1;have key:∀x,(x=a∨x=b)->∀u e2,rd e1 x=some (u,e2)->(∀e' e1' e2' hs',rd e' c=some (B_ tb,e1')->rd e1' x=some (u,e2')->lQ c a b ⟨e',hs'⟩=some (u,⟨e2',hs'⟩))->
    (⟨e2,hs⟩:St).hs=hs∧(cQ e->cQ e2)∧(∀k,k∉bu [c,a,b]->get e2 k=get e k)∧
    ∀e' hs',(∀k∈bW [c,a,b],get e' k=get e k)->dx hs.heap hs'.heap->∃e1',lQ c a b ⟨e',hs'⟩=some (u,⟨e1',hs'⟩)∧(∀k,k∉bu [c,a,b]->get e1' k=get e' k)∧∀k∈bu [c,a,b],get e1' k=get e2 k:=by
   intro x hx u e2 h2 hback;obtain⟨s2,g2,l2⟩:=To h2;have hbs:∀k,k∈qd x->k∈bW [c,a,b]:=λk hk=>(hsl k).2 (by grind)
   have hms:∀k,k∈bu [c,a,b]->k∈bW [c,a,b]:=λk hk=>(hsl k).2 (((hm k).1 hk).imp NE (Or.imp NE NE))
   refine⟨rfl,λh=>s2 (s1 h),λk hk=>?_,λe' hs' he _=>?_⟩
   .grind
   .obtain⟨e1',h1',g1'⟩:=l1 e' λk hk=>he k ((hsl k).2 (.inl hk))
    obtain⟨e2',h2',g2'⟩:=l2 e1' λk hk=>by
     simp_all
    refine⟨e2',hback e' e1' e2' hs' h1' h2',λk hk=>?_,λk hk=>?_⟩
    all_goals grind
  cases tb with
  |true =>
   split at hf
   .obtain⟨rfl,rfl⟩:=hf
    grind [lQ]
   simp_all
  |false =>
   split at hf
   .obtain⟨rfl,rfl⟩:=hf
    grind [lQ]
   simp_all
 simp_all
def au2 (j:Nat)(mv:Bool)(i:Nat):ft (DH j mv i) [j] (if mv then [j] else []):=by
 intro e hs v st1 hf;unfold DH at hf;split at hf
 .split at hf
  .cases mv with
   |true =>
    obtain⟨rfl,rfl⟩:=hf
    simp_all [cQ.put,fL,DH]
   |false =>
    obtain⟨rfl,rfl⟩:=hf
    simp_all [DH]
  simp_all
 simp_all
def ar2 (m:Nat)(h:ak)(vs:D_):L_ :=
 match vs with
 |[b]=>(match Go.Vm.elems h b with
  |some ys=>(match gM m ys with
   |true=>(match Nat.ble ys.length bQ with
    |true=>some (match ys with|[]=>.nl|ys=>.own true m ys)
    |false=>none)
   |false=>none)
  |none=>none)
 |_=>none
def apd (m:Nat)(y:Rd):ft (Io m (.c .nl) y) (bW [y]) (bu [y]):=by
 refine ft.rds (λvs hs=>ar2 m hs.heap vs) (λvs hs hs' v H h=>?_) λe hs=>?_
 .unfold ar2 at h⊢
  grind [dx.elems]
 .have h0:rd e (.c .nl)=some (.nl,e):=rfl;simp only[Io,rdAll,h0]
  cases rd e y with
  |none=>rfl
  |some q =>
   obtain⟨b,e1⟩:=q;simp only[ar2]
   cases Go.Vm.elems hs.heap b with
   |none=>rfl
   |some ys =>
    simp only
    cases gM m ys with
    |false=>rfl
    |true =>
     simp only[dR]
     cases Nat.ble ys.length bQ with
     |false=>rfl
     |true=>cases ys<;>rfl
def Wc {v:pV}{R M:C_}(h:MI v=some (R,M)):ft (di v r) R M:=by
 have base:(match FH v with|some rs=>some (bW rs,bu rs)|none=>none)=some (R,M)->ft (di v r) R M:=by
  grind [am8]
 cases v<;>try exact base h
 .obtain⟨rfl,rfl⟩:=h;exact aqS _ _ _
 .obtain⟨rfl,rfl⟩:=h;exact aoU _ _ _ _ _
 .obtain⟨rfl,rfl⟩:=h;exact au2 _ _ _
 .rename_i m x y
  cases x<;>try exact base h
  rename_i c
  cases c<;>try exact base h
  obtain⟨rfl,rfl⟩:=h;exact apd _ _
def aqY (f:St->Z_)(R M:C_):Prop :=
 ∀e hs st1,f ⟨e,hs⟩=some st1->st1.hs=hs∧(cQ e->cQ st1.env)∧(∀k,k∉M->get st1.env k=get e k)∧
  ∀e' hs',(∀k∈R,get e' k=get e k)->dx hs.heap hs'.heap->∃e1',f ⟨e',hs'⟩=some ⟨e1',hs'⟩∧(∀k,k∉M->get e1' k=get e' k)∧∀k∈M,get e1' k=get st1.env k
def SP {i:VI}{R M:C_}(h:adL i=some (R,M)):aqY (cV r i) R M:=by
 unfold adL at h;split at h
 .simp at h
 .rename_i hth;split at h
  .simp at h
  .rename_i R0 M0 hf;simp only[ae,aM]at h;obtain⟨rfl,rfl⟩:=h;have hl:=Wc (r:=r) hf;have hM:∀k,k∈M0->k∈(match i.dst with|some d=>d::M0|none=>M0):=λk hk=>by grind
   have set:∀(v:AV) (st:St),(cM i.dst v st).hs=st.hs∧(cQ st.env->cQ (cM i.dst v st).env)∧∀k,get (cM i.dst v st).env k=if i.dst=some k then some v else get st.env k:=by
    grind [cM,cQ.put,fL]
   have hd:∀k,k∉(match i.dst with|some d=>d::M0|none=>M0)->i.dst≠some k∧k∉M0:=λk hk=>by
    grind
   have go:∀e hs st1,gy r i ⟨e,hs⟩=some st1->st1.hs=hs∧(cQ e->cQ st1.env)∧(∀k,k∉(match i.dst with|some d=>d::M0|none=>M0)->get st1.env k=get e k)∧
     ∀e' hs',(∀k∈R0++M0,get e' k=get e k)->dx hs.heap hs'.heap->∃e1',gy r i ⟨e',hs'⟩=some ⟨e1',hs'⟩∧(∀k,k∉(match i.dst with|some d=>d::M0|none=>M0)->get e1' k=get e' k)∧
      ∀k∈(match i.dst with|some d=>d::M0|none=>M0),get e1' k=get st1.env k:=by
    intro e hs st1 h;unfold gy at h;simp only[hth]at h;split at h
    .rename_i v st0 hv;simp only[ae]at h;subst h;obtain⟨q1,q2,q3,q4⟩:=hl e hs v st0 hv;obtain⟨t1,t2,t3⟩:=set (firm v) st0;refine⟨t1.trans q1,λh=>t2 (q2 h),λk hk=>?_,λe' hs' he hle=>?_⟩
     .simp_all
     .obtain⟨e1',p1,p2,p3⟩:=q4 e' hs' (λk hk=>he k (cK _ hk)) hle;refine⟨(cM i.dst (firm v) ⟨e1',hs'⟩).env,?_,λk hk=>?_,λk hk=>?_⟩
      .unfold gy;simp only[hth,p1,ae]
       cases i.dst<;>rfl
      all_goals grind
    simp_all
   have no:∀e hs,(cM i.dst (.tup []) ⟨e,hs⟩).hs=hs∧(cQ e->cQ (cM i.dst (.tup []) ⟨e,hs⟩).env)∧(∀k,k∉(match i.dst with|some d=>d::M0|none=>M0)->get (cM i.dst (.tup []) ⟨e,hs⟩).env k=get e k)∧
     ∀e' hs',(∀k∈R0++M0,get e' k=get e k)->(∀k,k∉(match i.dst with|some d=>d::M0|none=>M0)->get (cM i.dst (.tup []) ⟨e',hs'⟩).env k=get e' k)∧
      ∀k∈(match i.dst with|some d=>d::M0|none=>M0),get (cM i.dst (.tup []) ⟨e',hs'⟩).env k=get (cM i.dst (.tup []) ⟨e,hs⟩).env k:=by
    grind
   intro e hs st1 h;unfold cV at h
   cases hg:i.guard with
   |none =>
    rw[hg]at h;obtain⟨q1,q2,q3,q4⟩:=go e hs st1 h;refine⟨q1,q2,q3,λe' hs' he hle=>?_⟩;obtain⟨e1',p1,p2,p3⟩:=q4 e' hs' he hle
    grind [cV]
   |some sw =>
    obtain⟨sl,want⟩:=sw;rw[hg]at h;simp only at h;have hsl:∀e',(∀k∈sl::(R0++M0),get e' k=get e k)->get e' sl=get e sl:=λe' he=>he sl (.head _)
    have hre:∀e',(∀k∈sl::(R0++M0),get e' k=get e k)->∀k∈R0++M0,get e' k=get e k:=λe' he k hk=>he k (.tail _ hk)
    split at h
    .rename_i b hb;split at h
     .obtain⟨q1,q2,q3,q4⟩:=go e hs st1 h;refine⟨q1,q2,q3,λe' hs' he hle=>?_⟩;obtain⟨e1',p1,p2,p3⟩:=q4 e' hs' (hre e' he) hle
      grind [cV]
     .rename_i hbw;simp only[ae]at h;subst h;obtain⟨q1,q2,q3,q4⟩:=no e hs;refine⟨q1,q2,q3,λe' hs' he _=>?_⟩;obtain⟨p2,p3⟩:=q4 e' hs' (hre e' he);refine⟨(cM i.dst (.tup []) ⟨e',hs'⟩).env,?_,p2,p3⟩;unfold cV;rw[hg];simp only[hsl e' he,hb,hbw,ae]
      cases i.dst<;>rfl
    .rename_i hb;simp only[ae]at h;subst h;obtain⟨q1,q2,q3,q4⟩:=no e hs;refine⟨q1,q2,q3,λe' hs' he _=>?_⟩;obtain⟨p2,p3⟩:=q4 e' hs' (hre e' he);refine⟨(cM i.dst (.tup []) ⟨e',hs'⟩).env,?_,p2,p3⟩;unfold cV;rw[hg];simp only[hsl e' he,hb,ae]
     cases i.dst<;>rfl
    grind
def ard {f1 f2:St->Z_}{R1 M1 R2 M2:C_}(h1:aqY f1 R1 M1)(h2:aqY f2 R2 M2)(d1:∀k∈M1,k∉R2∧k∉M2)(d2:∀k∈M2,k∉R1∧k∉M1){st st1 st2:St}(hs:cQ st.env)
  (a:f1 st=some st1)(b:f2 st1=some st2):∃st1',f2 st=some st1'∧f1 st1'=some st2:=by
 obtain⟨e,hs0⟩:=st;obtain⟨e1,hs1⟩:=st1;obtain⟨e2,hs2⟩:=st2;obtain⟨q1,q2,q3,q4⟩:=h1 e hs0 _ a;subst q1;obtain⟨p1,p2,p3,p4⟩:=h2 e1 hs1 _ b;subst p1;obtain⟨e1',k1,k2,k3⟩:=p4 e _ (λk hk=>(q3 k (λhm=>(d1 k hm).1 hk)).symm) (dx.refl _);obtain⟨_,sk1,_,_⟩:=h2 e hs2 _ k1;obtain⟨e2',m1,m2,m3⟩:=q4 e1' _ (λk hk=>k2 k λhm=>(d2 k hm).1 hk) (dx.refl _);obtain⟨_,sm1,_,_⟩:=h1 e1' hs2 _ m1;refine⟨⟨e1',hs2⟩,k1,?_⟩;rw[m1]
 congr 2
 refine wE (sm1 (sk1 hs)) (p2 (q2 hs)) λk=>?_
 by_cases hk1:k∈M1
 all_goals grind
end
abbrev bK:=@List.getElem?_cons_zero
abbrev sD:=@List.append_of_mem
abbrev dh:=@List.pairwise_append
abbrev dK:=@List.mem_append_right
abbrev uj:=@List.reverse_cons
abbrev az:=@List.nil_append
abbrev fC:=@List.mem_range
theorem uJ {k:Nat}{l:C_}:eI k l=true↔k∈l:=by
 induction l<;>grind [eI,Nat.beq_eq]
theorem jA {a b:C_}(h:tn a b=true):∀k∈a,k∉b:=by
 induction a<;>grind [tn,uJ]
section
variable {P:Program}{g:Gh}{w:World}{t:G_}{O:Nat->Nat}{st st':St}{r:dF}
theorem aiO {a b:VI}(h:wC a b=true){st1 st2:St}(hs:cQ st.env)(h1:cV r a st=some st1)(h2:cV r b st1=some st2):∃st1',cV r b st=some st1'∧cV r a st1'=some st2:=by
 unfold wC at h;split at h
 .rename_i R1 M1 R2 M2 e1 e2;simp only[af]at h;obtain⟨⟨k1,k2⟩,k3⟩:=h;exact ard (SP (r:=r) e1) (SP (r:=r) e2) (λk hk=>⟨jA k1 k hk,jA k2 k hk⟩) (λk hk=>⟨jA k3 k hk,λh=>jA k2 k h hk⟩) hs h1 h2
 simp_all
def ail {a b:VI}(h:wC a b=true){st1:St}(hs:cQ st.env)(h1:cV r a st=some st1):cQ st1.env:=by
 unfold wC at h;split at h
 .rename_i R1 M1 R2 M2 e1 e2;obtain⟨e,hs0⟩:=st;exact(SP (r:=r) e1 e hs0 st1 h1).2.1 hs
 simp_all
def Zh {vs:R_}{i:Nat}{v:VI}(hv:vs[i]?=some v){l2:C_}:∀{l1:C_}{st st':St},(∀j∈l1,∃u,vs[j]?=some u∧wC u v=true)->cQ st.env->
  xF r vs (l1++i::l2) st=some st'->xF r vs (i::(l1++l2)) st=some st'
 |[],st,st',_,_,h=>h
 |j::l1,st,st',hj,hs,h=>by
  obtain⟨u,hu,hm⟩:=hj j (.head _);simp only[aK,xF,hu]at h;split at h
  .simp at h
  .rename_i st1 h1;have h2:=Zh hv (λk hk=>hj k (.tail _ hk)) (ail hm hs h1) h
   grind [xF,aiO]
structure aeh (P:Program)(n:Nat)(ops:Array Oper)(vs:R_):Prop where
 len:vs.length=ops.size
 vi:∀(i:Nat) (v:VI) (o:Oper),vs[i]?=some v->ops[i]?=some o->DO P n ops v o=true
 pair:∀(i j:Nat) (v u:VI) (o:Oper),j<i->vs[i]?=some v->vs[j]?=some u->ops[i]?=some o->Me o j=true∨wC u v=true
 edge:∀(i:Nat) (o:Oper),ops[i]?=some o->∀e∈o.after,e.on<i
def Zs {o:Oper}{v:VI}:∀{us:R_}{k:Nat},YW o v k us=true->∀(j:Nat) (u:VI),us[j]?=some u->Me o (k+j)=true∨wC u v=true
 |[],k,_,j,u,h=>by simp at h
 |x::us,k,h,j,u,hu=>by
  simp only[YW,af,cZ]at h
  cases j with
  |zero=>simp_all
  |succ j=>have:=Zs h.2 j u u_;grind
def SR {n:Nat}{ops:Array Oper}:∀{vs:R_}{os:List Oper}{prev:R_},uZ P n ops prev vs os=true->vs.length=os.length∧
  ∀(i:Nat) (v:VI) (o:Oper),vs[i]?=some v->os[i]?=some o->DO P n ops v o=true∧(∀(j:Nat) (u:VI),(prev++vs)[j]?=some u->j<prev.length+i->Me o j=true∨wC u v=true)∧
   ∀e∈o.after,e.on<prev.length+i
 |[],[],prev,_=>⟨rfl,λi v o h=>by simp at h⟩
 |x::vs,p::os,prev,h=>by
  simp only[uZ,af]at h;obtain⟨⟨⟨h1,h2⟩,h3⟩,h4⟩:=h;obtain⟨k1,k2⟩:=SR h4;refine⟨by simp[k1],λi v o hv ho=>?_⟩
  cases i with
  |zero =>
   simp only[bK,ae]at hv ho;subst hv ho;refine⟨h1,λj u hu hj=>?_,λe he=>?_⟩
   .rw[dj o_]at hu;have:=Zs h2 j u hu
    simp_all
   grind [Nat.blt_eq]
  |succ i =>
   grind
 |[],_::_,_,h=>by grind [uZ]
 |_::_,[],_,h=>by grind [uZ]
def ayw {n:Nat}{ops:Array Oper}{vs:R_}(h:uZ P n ops [] vs ops.toList=true):aeh P n ops vs:=by
 obtain⟨k1,k2⟩:=SR h;have hl:vs.length=ops.size:=o_;have hget:∀(i:Nat) (o:Oper),ops[i]?=some o->ops.toList[i]?=some o:=λi o h=>by simp_all
 refine⟨hl,λi v o hv ho=>(k2 i v o hv (hget i o ho)).1,λi j v u o hji hv hu ho=>(k2 i v o hv (hget i o ho)).2.1 j u u_ o_,λi o ho e he=>?_⟩;have hi:i<vs.length:=by
  grind
 simp_all
theorem ZP (m:Region.Mode){e:Edge}(h:yV e.ground=true):Region.binds m e=true:=by
 grind [Region.binds,yV]
structure ZX (n:Nat)(listed:BD_)(rem:C_):Prop where
 srt:rem.Pairwise (·<·)
 lt:∀i∈rem,i<n
 size:listed.size=n
 mem:∀i,i<n->(i∈rem↔listed.getD i true=false)
def aoy {ro:J_}(hr:iB P r)(hcs:jh P r){n:Nat}{ops:Array Oper}{vs:R_}(hok:aeh P n ops vs){Q:Exit->Act->World->Prop}(ds:List Deferred)(m:Region.Mode) :
  ∀{fuel:Nat}{rem:C_},rem.length=fuel->∀{tt:Nat}{listed:BD_},ZX ops.size listed rem->∀{g:Gh}{w:World}{t:G_}{O:Nat->Nat}{st st':St},t.size=n->S P g w st t O->xF r vs rem st=some st'->
   (∀w' t' g' O',gS P g w t O st' t' w' g' O'->Q .normal ⟨t',ds⟩ w')->wpOpsIn (FR ro) 0 P ops Q (Region.linearise.go m ops fuel tt listed []) ⟨t,ds⟩ w
 |0,rem,hf,tt,listed,hleft,g,w,t,O,st,st',hn,s,h,hq=>by
  have:rem=[]:=aI hf;subst this;simp only[xF,ae]at h;subst h;exact hq _ _ _ _ (gS.refl s)
 |fuel+1,rem,hf,tt,listed,hleft,g,w,t,O,st,st',hn,s,h,hq=>by
  unfold Region.linearise.go;simp only;generalize hrs:((List.range ops.size).filter λi=>!listed.getD i true && ((ops[i]?).map (·.after.all λe=>!Region.binds m e ||listed.getD e.on false)).getD false)=rs;have hmem:∀i,i∈rs↔i<ops.size∧listed.getD i true=false∧∃o,ops[i]?=some o∧∀e∈o.after,Region.binds m e=true->listed.getD e.on false=true:=by
   grind [Array.all_eq_true_iff_forall_mem]
  have hne:rs≠[]:=by
   cases rem with
   |nil=>simp at hf
   |cons i rem =>
    have hi:=hleft.lt i (.head _);have:i∈rs:=(hmem i).2 ⟨hi,(hleft.mem i hi).1 (.head _),ops[i],by simp[hi],λe he _=>by
     have hlt:=hok.edge i ops[i] (by simp[hi]) e he;have hen:e.on<ops.size:=o_;have hnot:e.on∉i::rem:=by
      intro hm;rcases aD.1 hm with e1|hm
      .omega
      .have:=(bN.1 hleft.srt).1 _ hm;omega
     grind [ZX.mem,ZX.size]⟩
    grind
  have hlen:0<rs.length:=bG.2 hne;have hlt:=gK tt hlen;rw[co hlt];simp only;generalize hi:rs[tt % rs.length]=i;have hirs:i∈rs:=e_;obtain⟨hin,hil,o,ho,hedges⟩:=(hmem i).1 hirs;have hirem:i∈rem:=(hleft.mem i hin).2 hil;obtain⟨l1,l2,rfl⟩:=sD hirem;have hvl:i<vs.length:=by grind [aeh.len]
  have hv:vs[i]?=some vs[i]:=s_;have hp:=dh.1 hleft.srt;have hswap:∀j∈l1,∃u,vs[j]?=some u∧wC u vs[i]=true:=by
   intro j hj;have hji:j<i:=hp.2.2 j hj i (.head _);have hjr:j∈l1++i::l2:=cK _ hj;have hjv:vs[j]?=some (vs[j]' o_):=s_;refine⟨_,hjv,(hok.pair i j _ _ o hji hv hjv ho).resolve_left λhe=>?_⟩
   grind [Me,Nat.beq_eq,ZP,ZX.mem]
  have h2:=Zh hv hswap s.se h;simp only[xF,hv]at h2;split at h2
  .simp at h2
  .rename_i st1 h3;have hleft':ZX ops.size (listed.setIfInBounds i true) (l1++l2):=by
    refine⟨dh.2 ⟨hp.1,(bN.1 hp.2.1).2,λa ha b hb=>hp.2.2 a ha b (.tail _ hb)⟩,λk hk=>hleft.lt k ?_,by simp[hleft.size],λk hk=>?_⟩
    .rcases bj.1 hk with h|h
     .exact cK _ h
     .exact dK _ (.tail _ h)
    .have hsz:k<listed.size:=by rw[hleft.size];exact hk
     have hold:=hleft.mem k hk;simp only[gD,ge]at hold⊢;by_cases e:i=k
     .subst e;simp only[bR,hsz,Option.getD_some,mz,iff_false];intro hm;rcases bj.1 hm with h|h
      .have:=hp.2.2 i h i (.head _);omega
      .have:=(bN.1 hp.2.1).1 i h;omega
     .simp only[e,bS];rw[<-hold];simp only[bj,aD];constructor
      .rintro (h|h)
       .exact .inl h
       .exact .inr (.inr h)
      .rintro (h|h|h)
       .exact .inl h
       .exact absurd h.symm e
       .exact .inr h
   have hlen':(l1++l2).length=fuel:=by simp at hf⊢;omega
   have hacc:=linearise_go_acc m ops fuel (tt / rs.length) (listed.setIfInBounds i true) [i];rw[hacc];simp only[uj,List.reverse_nil,az,aK,wpOpsIn,ho];exact aoW (ro:=ro) hr hcs hn s h3 (hok.vi i _ o hv ho) ds _ Q λt' w' g' O' G =>
    aoy hr hcs hok ds m hlen' hleft' (by rw[G.size,hn]) G.st h2 λw2 t2 g2 O2 G2=>hq _ _ _ _ (G.trans G2)
theorem ae6 {vs:R_}:∀{l:R_}{k:Nat}{st:St},vs.drop k=l->xF r vs (List.range' k l.length) st=lh r l st
 |[],k,st,_=>by simp[xF,lh]
 |v::l,k,st,h=>by
  have hv:vs[k]?=some v:=by have:=aY (λl=>l[0]?) h;grind
  have h':vs.drop (k+1)=l:=by have:=aY (λl=>l.drop 1) h;grind [List.drop_drop]
  simp only[ar,List.range'_succ,xF,hv,lh]
  cases cV r v st with
  |none=>rfl
  |some st1=>exact ae6 h'
def arn {ro:J_}(hr:iB P r)(hcs:jh P r){n:Nat}{ops:Array Oper}{vs:R_}(ds:List Deferred)(h:uZ P n ops [] vs ops.toList=true){Q:Exit->Act->World->Prop}{id:Nat}(hn:t.size=n)
  (s:S P g w st t O)(hrun:lh r vs st=some st')(hq:∀w' t' g' O',gS P g w t O st' t' w' g' O'->Q .normal ⟨t',ds⟩ w'):(Code.region id ops true).wpIn (FR ro) 0 P Q ⟨t,ds⟩ w:=by
 have hok:=ayw h;refine wpIn_region_draw λtt=>?_
 have hx:bI g w g w.drew λ_=>False:=bI.drew _ _ _
 have sd:=s.extF hx rfl s.pmlt;have hrun':xF r vs (List.range ops.size) st=some st':=by
  rw[<-hok.len,List.range_eq_range']
  grind [ae6]
 have hleft:ZX ops.size (Array.replicate ops.size false) (List.range ops.size):=by
  refine⟨List.pairwise_lt_range,λi hi=>fC.1 hi,s_,λi hi=>?_⟩
  simp_all
 have key:∀m tt,wpOpsIn (FR ro) 0 P ops Q (Region.linearise m ops tt) ⟨t,ds⟩ w.drew:=λm tt =>
  aoy (ro:=ro) hr hcs hok ds m s_ hleft hn sd hrun' λw' t' g' O' G=>hq _ _ _ _ ⟨G.st,(hx.mono (T:=λb=>O b≠0) λ_ _ h=>h.elim).trans G.ext λ_ _ h=>h,G.old,G.size⟩
 unfold Region.schedule;split<;>simp_all
end
abbrev HK:=HS->(HS->Prop)->(HS->HS)->Prop
def jp (K:HK)(f:St->K_)(R M:C_):Prop :=
 ∀e hs v st1,f ⟨e,hs⟩=some (v,st1)->∃ρ τ,K hs ρ τ∧st1.hs=τ hs∧(cQ e->cQ st1.env)∧(∀k,k∉M->get st1.env k=get e k)∧
  ∀e' hs',(∀k∈R,get e' k=get e k)->ρ hs'->∃e1',f ⟨e',hs'⟩=some (v,⟨e1',τ hs'⟩)∧(∀k,k∉M->get e1' k=get e' k)∧∀k∈M,get e1' k=get st1.env k
def UB (K:HK)(f:St->Z_)(R M:C_):Prop :=
 ∀e hs st1,f ⟨e,hs⟩=some st1->∃ρ τ,K hs ρ τ∧st1.hs=τ hs∧(cQ e->cQ st1.env)∧(∀k,k∉M->get st1.env k=get e k)∧
  ∀e' hs',(∀k∈R,get e' k=get e k)->ρ hs'->∃e1',f ⟨e',hs'⟩=some ⟨e1',τ hs'⟩∧(∀k,k∉M->get e1' k=get e' k)∧∀k∈M,get e1' k=get st1.env k
def KQ:HK:=λhs ρ τ=>(∀hs',dx hs.heap hs'.heap->ρ hs')∧∀hs',τ hs'=hs'
def Hu (h:ak)(id:Nat):BH_->ak
 |none=>h
 |some o=>put h id o
def KT:HK:=λhs ρ τ=>(∃id o0 o,get hs.heap id=some o0∧(∀hs',get hs'.heap id=some o0->ρ hs')∧(∀hs',τ hs'=⟨Hu hs'.heap id o,hs'.next⟩)∧
 ∀o1,o=some o1->jT o0 o1)∨(∀hs',ρ hs')∧∀hs',τ hs'=hs'
def push:HS->List Obj->HS
 |hs,[]=>hs
 |hs,o::os=>push ⟨put hs.heap hs.next o,hs.next+1⟩ os
def KA:HK:=λhs ρ τ=>∃os,(∀hs',dx hs.heap hs'.heap->hs'.next=hs.next->ρ hs')∧∀hs',hs'.next=hs.next->τ hs'=push hs' os
def KP:HK:=λhs ρ τ=>KQ hs ρ τ∨∃id,(∃m xs,get hs.heap id=some (.arr m xs))∧(∀hs',dx hs.heap hs'.heap->ρ hs')∧∀hs',τ hs'=⟨del hs'.heap id,hs'.next⟩
theorem dx.del {h:ak}(id:Nat):dx (del h id) h:=by
 intro k o hk;rw[IP]at hk;split at hk
 .simp at hk
 .exact⟨o,hk,by cases o<;>simp[jT]⟩
def afg (m:Nat)(x y:Rd):jp KP (Io m x y) (bW [x,y]) (bu [x,y]):=by
 intro e hs v st1 hf;unfold Io at hf;split at hf
 .rename_i a e1 hr;split at hf
  .rename_i b e2 hr2;split at hf
   .rename_i ys hy;split at hf
    .split at hf
     .rename_i w h1 ha;simp only[ae,aM]at hf;obtain⟨rfl,rfl⟩:=hf;have hall:rdAll e [x,y]=some ([a,b],e2):=by grind [rdAll]
      obtain⟨s1,g1,l1⟩:=K4 hall;have back:∀e' hs' h1',(∀k∈bW [x,y],get e' k=get e k)->dx hs.heap hs'.heap->dR m hs'.heap a ys=some (w,h1')->
        ∃e1',Io m x y ⟨e',hs'⟩=some (w,⟨e1',⟨h1',hs'.next⟩⟩)∧(∀k,k∉bu [x,y]->get e1' k=get e' k)∧∀k∈bu [x,y],get e1' k=get e2 k:=by
       intro e' hs' h1' he hle happ;obtain⟨e1',hr',g1'⟩:=l1 e' he;refine⟨e1',?_,λk hk=>by simp_all,λk hk=>by simp_all⟩;simp only[rdAll]at hr';split at hr'<;>grind [Io,dx.elems]
      unfold dR at ha;split at ha
      .simp at ha
      .split at ha
       .obtain⟨rfl,rfl⟩:=ha;exact⟨λhs'=>dx hs.heap hs'.heap,id,.inl ⟨λ_ h=>h,λ_=>rfl⟩,rfl,s1,λk hk=>by simp_all,λe' hs' he hρ=>back e' hs' _ he hρ (by grind [dR])⟩
       .split at ha
        .obtain⟨rfl,rfl⟩:=ha;exact⟨λhs'=>dx hs.heap hs'.heap,id,.inl ⟨λ_ h=>h,λ_=>rfl⟩,rfl,s1,λk hk=>by simp_all,λe' hs' he hρ=>back e' hs' _ he hρ (by grind [dR])⟩
        simp_all
       .rename_i id off len;split at ha
        .rename_i k xs hg;split at ha
         .obtain⟨rfl,rfl⟩:=ha;exact⟨λhs'=>dx hs.heap hs'.heap,λhs'=>⟨Go.Vm.del hs'.heap id,hs'.next⟩,.inr ⟨id,⟨_,_,hg⟩,λ_ h=>h,λ_=>rfl⟩,rfl,s1,λk hk=>by simp_all,λe' hs' he hρ=>back e' hs' _ he hρ (by grind [dR,dx.arr])⟩
         simp_all
        simp_all
       simp_all
     simp_all
    simp_all
   simp_all
  simp_all
 simp_all
theorem jT.symm {a b:Obj}(h:jT a b):jT b a:=by
 cases a<;>cases b<;>simp_all [jT]
def avv {f:St->K_}{R M:C_}(h:ft f R M):jp KQ f R M:=by
 intro e hs v st1 hf;obtain⟨h1,h2,h3,h4⟩:=h e hs v st1 hf;exact⟨λhs'=>dx hs.heap hs'.heap,id,⟨λ_ h=>h,λ_=>rfl⟩,h1,h2,h3,h4⟩
mutual
theorem Gr:∀(v:AV),share (share v)=share v
 |.own p m xs=>by cases p<;>rfl
 |.agg cs=>by simp only[share,shareAll_share cs]
 |.tup cs=>by simp only[share,shareAll_share cs]
 |.junk|.d _|.nl|.gl _|.nilp|.ptr _ _|.pel _ _ _|.pim _ _|.sl _ _ _|.fn _ _ _|.nilf|.yield _=>by rfl
theorem shareAll_share:∀(vs:D_),shareAll (shareAll vs)=shareAll vs
 |[]=>rfl
 |v::r=>by simp only[rD,Gr v,shareAll_share r]
end
theorem No:∀(vs:D_),shareAll (fN 2 vs).2=shareAll vs
 |[]=>rfl
 |v::r=>by
  simp only[fN,rD,No r]
  grind [sX,Gr]
def aAy {h h1:ak}{n:J_}{p v:AV}(hl:loadAt h n 2 p=some (v,h1)) :
  (∃id o0 o,get h id=some o0∧h1=Hu h id o∧(∀o1,o=some o1->jT o0 o1)∧∀h',get h' id=some o0->loadAt h' n 2 p=some (v,Hu h' id o))∨
   h1=h∧∀h',loadAt h' n 2 p=some (v,h'):=by
 cases p<;>simp only[loadAt,reduceCtorEq]at hl
 .rename_i id off;split at hl
  .rename_i cs hg
   cases n with
   |none =>
    simp only at hl;split at hl
    .simp at hl
    .rename_i u hu;obtain⟨rfl,rfl⟩:=hl;refine .inl ⟨id,_,some (.cells (cs.set off (sX 2 u).2)),hg,rfl,λo1 ho=>?_,λh' he=>?_⟩
     .simp only[ae]at ho;subst ho;simp only[jT,kM,sX];refine dZ λi=>?_
      grind [Gr]
     .simp only[loadAt,he,hu];rfl
   |some m =>
    simp only at hl;split at hl
    .rename_i hb;obtain⟨rfl,rfl⟩:=hl;refine .inl ⟨id,_,some (.cells (aF cs off (fN 2 (sub cs off m)).2)),hg,rfl,λo1 ho=>?_,λh' he=>?_⟩
     .simp only[jT]
      grind [Nat.le_of_ble_eq_true,No,kM,List.length_map,sub,aF,List.map_drop,List.take_append_drop]
     .simp only[loadAt,he,hb];rfl
    simp_all
  simp_all
 .rename_i id i off;split at hl
  .rename_i m xs hg;split at hl
   .rename_i x hx;split at hl
    .rename_i u hu;obtain⟨rfl,rfl⟩:=hl;exact .inl ⟨id,_,none,hg,rfl,λo1 ho=>by simp at ho,λh' he=>by simp only[loadAt,he,hx,hu];rfl⟩
    simp_all
   simp_all
  simp_all
 grind [loadAt]
def avU (n:J_)(p:Rd):jp KT (Fz n 2 p) (qd p) (kV p):=by
 intro e hs v st1 hf;unfold Fz at hf;split at hf
 .rename_i u e1 hr;split at hf
  .rename_i w h1 hl;obtain⟨rfl,rfl⟩:=hf;obtain⟨s1,g1,l1⟩:=To hr;rcases aAy hl with ⟨id,o0,o,k0,k1,k2,k3⟩|⟨k1,k3⟩
   .refine⟨λhs'=>get hs'.heap id=some o0,λhs'=>⟨Hu hs'.heap id o,hs'.next⟩,.inl ⟨id,o0,o,k0,λ_ h=>h,λ_=>rfl,k2⟩,by rw[k1],s1,λk hk=>by simp_all,λe' hs' he hρ=>?_⟩;obtain⟨e1',hr',g1'⟩:=l1 e' he
    simp_all [Fz]
   .refine⟨λ_=>True,id,.inr ⟨λ_=>trivial,λ_=>rfl⟩,u_,s1,λk hk=>by simp_all,λe' hs' he _=>?_⟩;obtain⟨e1',hr',g1'⟩:=l1 e' he
    simp_all [Fz]
  simp_all
 simp_all
section
variable {r:dF}{K:HK}
theorem Ux (d:J_)(v:AV)(st:St):(cM d v st).hs=st.hs∧(cQ st.env->cQ (cM d v st).env)∧∀k,get (cM d v st).env k=if d=some k then some v else get st.env k:=by
 cases hd:d<;>grind [cM,cQ.put,fL]
theorem Up {i:VI}{M0:C_}{k:Nat}(hk:k∉AY i M0):i.dst≠some k∧k∉M0:=by
 grind [AY]
theorem ajP {i:VI}{M0:C_}{k:Nat}(hk:k∈AY i M0):i.dst=some k∨k∈M0:=by
 grind [AY]
def vk {i:VI}{R0 M0:C_}{f:St->K_}(hf:∀st,gy r i st=match f st with|some (v,st)=>some (cM i.dst v st)|none=>none)(hl:jp K f R0 M0)(hid:∀hs,K hs (λ_=>True) id) :
  UB K (cV r i) (QP i (R0++M0)) (AY i M0):=by
 have go:∀e hs st1,gy r i ⟨e,hs⟩=some st1->∃ρ τ,K hs ρ τ∧st1.hs=τ hs∧(cQ e->cQ st1.env)∧(∀k,k∉AY i M0->get st1.env k=get e k)∧
   ∀e' hs',(∀k∈R0++M0,get e' k=get e k)->ρ hs'->∃e1',gy r i ⟨e',hs'⟩=some ⟨e1',τ hs'⟩∧(∀k,k∉AY i M0->get e1' k=get e' k)∧∀k∈AY i M0,get e1' k=get st1.env k:=by
  intro e hs st1 h;rw[hf]at h;split at h
  .rename_i v st0 hv;simp only[ae]at h;subst h;obtain⟨ρ,τ,hK,q1,q2,q3,q4⟩:=hl e hs v st0 hv;obtain⟨t1,t2,t3⟩:=Ux i.dst v st0;refine⟨ρ,τ,hK,t1.trans q1,λh=>t2 (q2 h),λk hk=>?_,λe' hs' he hρ=>?_⟩
   .grind [Up]
   .obtain⟨e1',p1,p2,p3⟩:=q4 e' hs' (λk hk=>he k (cK _ hk)) hρ;obtain⟨u1,u2,u3⟩:=Ux i.dst v ⟨e1',τ hs'⟩;refine⟨(cM i.dst v ⟨e1',τ hs'⟩).env,?_,λk hk=>?_,λk hk=>?_⟩
    .rw[hf,p1]
     cases i.dst<;>rfl
    all_goals grind [Up,ajP]
  simp_all
 have no:∀e hs,(cM i.dst (.tup []) ⟨e,hs⟩).hs=hs∧(cQ e->cQ (cM i.dst (.tup []) ⟨e,hs⟩).env)∧(∀k,k∉AY i M0->get (cM i.dst (.tup []) ⟨e,hs⟩).env k=get e k)∧
   ∀e' hs',(∀k∈R0++M0,get e' k=get e k)->(∀k,k∉AY i M0->get (cM i.dst (.tup []) ⟨e',hs'⟩).env k=get e' k)∧
    ∀k∈AY i M0,get (cM i.dst (.tup []) ⟨e',hs'⟩).env k=get (cM i.dst (.tup []) ⟨e,hs⟩).env k:=by
  intro e hs;obtain⟨t1,t2,t3⟩:=Ux i.dst (.tup []) ⟨e,hs⟩;refine⟨t1,t2,λk hk=>?_,λe' hs' he=>?_⟩
  .rw[t3,aa (Up hk).1]
  grind [Ux,Up,ajP]
 intro e hs st1 h;unfold cV at h
 cases hg:i.guard with
 |none =>
  simp_all [QP,cV]
 |some sw =>
  obtain⟨sl,want⟩:=sw;rw[hg]at h;simp only at h;have hgs:QP i (R0++M0)=sl::(R0++M0):=by unfold QP;rw[hg]
  rw[hgs];have hsl:∀e',(∀k∈sl::(R0++M0),get e' k=get e k)->get e' sl=get e sl:=λe' he=>he sl (.head _)
  have hre:∀e',(∀k∈sl::(R0++M0),get e' k=get e k)->∀k∈R0++M0,get e' k=get e k:=λe' he k hk=>he k (.tail _ hk)
  split at h
  .rename_i b hb;split at h
   .obtain⟨ρ,τ,hK,q1,q2,q3,q4⟩:=go e hs st1 h;refine⟨ρ,τ,hK,q1,q2,q3,λe' hs' he hρ=>?_⟩;obtain⟨e1',p1,p2,p3⟩:=q4 e' hs' (hre e' he) hρ
    grind [cV]
   .rename_i hbw;simp only[ae]at h;subst h;obtain⟨q1,q2,q3,q4⟩:=no e hs;refine⟨λ_=>True,id,hid hs,q1,q2,q3,λe' hs' he _=>?_⟩;obtain⟨p2,p3⟩:=q4 e' hs' (hre e' he);refine⟨(cM i.dst (.tup []) ⟨e',hs'⟩).env,?_,p2,p3⟩;unfold cV;rw[hg];simp only[hsl e' he,hb,hbw,ae]
    cases i.dst<;>rfl
  .rename_i hb;simp only[ae]at h;subst h;obtain⟨q1,q2,q3,q4⟩:=no e hs;refine⟨λ_=>True,id,hid hs,q1,q2,q3,λe' hs' he _=>?_⟩;obtain⟨p2,p3⟩:=q4 e' hs' (hre e' he);refine⟨(cM i.dst (.tup []) ⟨e',hs'⟩).env,?_,p2,p3⟩;unfold cV;rw[hg];simp only[hsl e' he,hb,ae]
   cases i.dst<;>rfl
  grind
def KQ.id (hs:HS):KQ hs (λ_=>True) _root_.id:=⟨λ_ _=>trivial,λ_=>rfl⟩
def KT.id (hs:HS):KT hs (λ_=>True) _root_.id:=.inr ⟨λ_=>trivial,λ_=>rfl⟩
def KP.id (hs:HS):KP hs (λ_=>True) _root_.id:=.inl (KQ.id hs)
def KA.id (hs:HS):KA hs (λ_=>True) _root_.id:=⟨[],λ_ _ _=>trivial,λ_ _=>rfl⟩
theorem acr:∀(os:List Obj) (hs:HS),(push hs os).next=hs.next+os.length
 |[],_=>rfl
 |o::os,hs=>by simp only[push,acr os,ar];omega
theorem aeo:∀(a b:List Obj) (hs:HS),push hs (a++b)=push (push hs a) b
 |[],_,_=>rfl
 |o::a,b,hs=>by simp only[aK,push,aeo a b]
def SD (n:Nat)(v:AV):∃u os,∀hs:HS,hs.next=n->oO hs v=(u,push hs os):=by
 have same:(∀hs,oO hs v=(v,hs))->∃u os,∀hs:HS,hs.next=n->oO hs v=(u,push hs os):=λh=>⟨v,[],λhs _=>h hs⟩
 cases v<;>try exact same λhs=>rfl
 rename_i p m xs
 cases p with
 |false=>exact same λhs=>rfl
 |true =>
  cases hm:Nat.beq m 0 with
  |true=>simp_all [oO]
  |false =>
   refine⟨.sl n 0 xs.length,[.arr m xs],λhs hn=>?_⟩
   grind [oO,push]
def Ql (n o:Nat)(v:AV):∃u os,∀hs:HS,hs.next=n->nE hs o v=(u,push hs os):=by
 have one:(∀hs,nE hs o v=oO hs v)->∃u os,∀hs:HS,hs.next=n->nE hs o v=(u,push hs os):=λh=>by
  simp_all [SD]
 cases v<;>try exact one λhs=>rfl
 rename_i cs
 cases hc:cs[o]? with
 |none=>exact⟨.agg cs,[],λhs _=>by grind [nE,push]⟩
 |some v =>
  obtain⟨u,os,k⟩:=SD n v;exact⟨.agg (cs.set o u),os,λhs hn=>by grind [nE]⟩
def adp (n:Nat)(p:Nat×Nat)(v:AV):∃u os,∀hs:HS,hs.next=n->sf hs p v=(u,push hs os):=by
 have one:(∀hs,sf hs p v=nE hs p.2 v)->∃u os,∀hs:HS,hs.next=n->sf hs p v=(u,push hs os):=λh=>by
  simp_all [Ql]
 cases v<;>try exact one λhs=>rfl
 rename_i cs
 cases hc:cs[p.1]? with
 |none=>exact⟨.tup cs,[],λhs _=>by grind [sf,push]⟩
 |some v =>
  obtain⟨u,os,k⟩:=Ql n p.2 v;exact⟨.tup (cs.set p.1 u),os,λhs hn=>by grind [sf]⟩
def Ns:∀(th:Q_) (n:Nat) (v:AV),∃u os,∀hs:HS,hs.next=n->dO th v hs=(u,push hs os)
 |[],n,v=>⟨v,[],λhs _=>rfl⟩
 |p::r,n,v=>by
  obtain⟨u,os,k⟩:=adp n p v;obtain⟨u2,os2,k2⟩:=Ns r (n+os.length) u;refine⟨u2,os++os2,λhs hn=>?_⟩
  grind [dO,acr,aeo]
end
end Go.Vm
end
