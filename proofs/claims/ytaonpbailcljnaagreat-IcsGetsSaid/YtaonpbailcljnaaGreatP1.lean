import Derived.Laws.Append
import Derived.Laws.Tables
import Derived.Laws.BytesString
import Derived.Lib.BytesEntry
import Derived.RangeFuncLeaves
import Derived.Orders
import Derived.Test.YtaonpbailcljnaaGreatP0
set_option linter.unusedVariables false
set_option linter.unusedSimpArgs false
set_option linter.defProp false
set_option linter.unusedSectionVars false
noncomputable section
namespace Go.Vm
set_option maxHeartbeats 4000000
set_option maxRecDepth 100000
section
variable {P:Program}{g:Gh}{w:World}{t:E_}{O:Nat->Nat}{st st':St}{a:AV}
def S.pull {st:St}(s:S P g w st t O){i:Nat}{v:AV}(hg:get st.env i=some v) :
  ∃Ov O',i<t.size∧RV g w v (t.getD i undef) Ov∧S P g w ⟨del st.env i,st.hs⟩ t O'∧∀b,Ov b+O' b<=O b:=by
 obtain⟨Oe,Oh,re,rh,ho⟩:=s.parts;obtain⟨O1,O2,⟨hlt,q⟩,r2,hs⟩:=RL.take re hg;have hle:∀b,O1 b+(O2 b+Oh b)<=O b:=λb=>by grind
 exact⟨O1,λb=>O2 b+Oh b,hlt,q,s.of_env r2 rh (s.se.del i) (λ_=>rfl) (λb=>by grind),hle⟩
def S.setSlot {e:aK}{hs:HS}{i:Nat}(he:bV e)(s:S P g w ⟨del e i,hs⟩ t O){v:AV}{Ov:Nat->Nat}(hi:i<t.size)(r:RV g w v (t.getD i undef) Ov)
  (hle:∀b,Ov b+O b<=1)(hhi:∀b,Ov b≠0->b<w.heap.size):∃O',S P g w ⟨put e i v,hs⟩ t O'∧∀b,O' b<=Ov b+O b:=by
 obtain⟨Oe,Oh,re,rh,ho⟩:=s.parts;obtain⟨O3,r3,h3⟩:=RL.put he re (x:=v) (O1:=Ov) ⟨hi,r⟩;have hsum:∀b,O3 b+Oh b<=Ov b+O b:=λb=>by grind
 refine⟨λb=>O3 b+Oh b,⟨he.put _ _,s.sh,⟨O3,Oh,r3,rh,λ_=>rfl⟩,λb=>aC (hsum b) (hle b),λb hb=>?_,s.fresh,s.pmlt⟩,hsum⟩
 grind [hi]
def akM {i:Nat}(s:S P g w st t O)(h:acA i st=some (a,st')):GU P g w t O st':=by
 unfold acA at h;split at h
 .rename_i v hg;obtain⟨_,rfl⟩:=h;obtain⟨Ov,O1,hi,rv,s1,l1⟩:=s.pull hg;obtain⟨g',Ov',O2,rv',s2,hx,l2⟩:=aa8 s1 rv;have hle:∀b,Ov' b+O2 b<=O b:=λb=>aC (l2 b) (l1 b)
  obtain⟨O3,s3,l3⟩:=S.setSlot (e:=st.env) s.se s2 hi rv' (λb=>aC (hle b) (s.le b)) (λb hb=>s.hi b d_);exact⟨g',O3,s3,hx.mono λb _ h=>by grind,λb=>aC (l3 b) (hle b)⟩
 simp_all
def Dk:∀(offs:C_) {g:Gh}{O:Nat->Nat}{e:aK}{h:ak}{n:Nat},S P g w ⟨e,⟨h,n⟩⟩ t O->∀{cs:D_}{xs:M_}{Ov:Nat->Nat},
  RVs g w cs xs Ov->(∀b,Ov b+O b<=1)->
  ∃g' Ov' O',RVs g' w (tz offs cs h).1 xs Ov'∧S P g' w ⟨e,⟨(tz offs cs h).2,n⟩⟩ t O'∧bg g w g' w (λb=>Ov b≠0∨O b≠0)∧∀b,Ov' b+O' b<=Ov b+O b
 |[],g,O,e,h,n,s,cs,xs,Ov,rv,_=>⟨g,Ov,O,rv,s,.refl _ _ _,λ_=>ai _⟩
 |o::r,g,O,e,h,n,s,cs,xs,Ov,rv,hle=>by
  unfold tz;split
  .rename_i v hv;obtain⟨x,A1,A2,hx,r1,r2,hs⟩:=rv.pull hv;obtain⟨g1,A1',O1,r1',s1,hx1,l1⟩:=aa8 s r1;have r2':=RVs.ext hx1 _ _ _ r2 (λb hb hh=>by grind);have hj:(cs.set o .junk)[o]?=some .junk:=d_;obtain⟨y,B1,hy,_,_,rep⟩:=r2'.replace hj;rw[hx]at hy;simp only[ae]at hy;subst hy;obtain⟨B2,r3,h3⟩:=rep _ _ r1';rw[List.set_set]at r3;have hle1:∀b,B2 b+O1 b<=Ov b+O b:=λb=>by grind
   obtain⟨g2,Ov2,O2,r4,s4,hx2,l4⟩:=Dk r s1 r3 (λb=>aC (hle1 b) (hle b));refine⟨g2,Ov2,O2,r4,s4,(hx1.mono λb _ hh=>.inr hh.2).trans hx2 λb _ hh=>?_,λb=>aC (l4 b) (hle1 b)⟩
   grind
  .exact Dk r s rv hle
def akv {i:Nat}{offs:C_}(s:S P g w st t O)(h:Yk i offs st=some (a,st')):GU P g w t O st':=by
 unfold Yk at h;split at h
 .rename_i cs hg;obtain⟨_,rfl⟩:=h;obtain⟨Ov,O1,hi,rv,s1,l1⟩:=s.pull hg;obtain⟨xs,hxs,rv⟩:=rv;obtain⟨g',Ov',O2,rv',s2,hx,l2⟩:=Dk offs s1 rv (λb=>aC (l1 b) (s.le b));have hle:∀b,Ov' b+O2 b<=O b:=λb=>aC (l2 b) (l1 b)
  obtain⟨O3,s3,l3⟩:=S.setSlot (e:=st.env) (v:=.agg (tz offs cs st.hs.heap).1) s.se s2 hi (by grind [RV]) (λb=>aC (hle b) (s.le b))
   (λb hb=>s.hi b d_)
  exact⟨g',O3,s3,hx.mono λb _ h=>by grind,λb=>aC (l3 b) (hle b)⟩
 simp_all
end
section
variable {P:Program}{g:Gh}{w:World}{t:E_}{O:Nat->Nat}{st st':St}{a:AV}
def KC {g:Gh}(s:S P g w st t O){v:AV}{x:Value}{Ov:Nat->Nat}(rv:RV g w v x Ov)(hle:∀b,Ov b+O b<=1) :
  ∃g',RV g' w (nC v) x Ov∧S P g' w st t O∧bg g w g' w (λb=>Ov b≠0):=by
 have triv:RV g w (nC v) x Ov->∃g',RV g' w (nC v) x Ov∧S P g' w st t O∧bg g w g' w (λb=>Ov b≠0):=λr=>⟨g,r,s,.refl _ _ _⟩
 cases v with
 |own p m xs =>
  cases p with
  |false=>exact triv rv
  |true =>
   rcases rv with h|⟨b,off,cap,c,el,rfl,hcap,hm,hl,hb,hsz,hrc,hpm,hp,rfl⟩
   .exact triv (by exact .inl h)
   .have hO:O b=0:=by grind [wT]
    refine⟨g.keep b λo=>off<=o∧o<off+xs.length*m,?_,s.keep hO hb _,(bg.keep g w b _).mono λy _ e=>by simp_all⟩;refine .inr ⟨b,off,cap,c,el,rfl,hcap,hm,hl,hb,hsz,hrc.ext (bg.keep g w b _) (.inl rfl),λo ho=>?_,λ_ j hj=>.inr ⟨rfl,o_,o_⟩,rfl⟩;rcases ho with h|h<;>simp_all
 |_=>exact triv rv
def Lm {f:AV->AV}(hf:∀{g:Gh}{O:Nat->Nat},S P g w st t O->∀{v:AV}{x:Value}{Ov:Nat->Nat},RV g w v x Ov->(∀b,Ov b+O b<=1)->
  ∃g',RV g' w (f v) x Ov∧S P g' w st t O∧bg g w g' w (λb=>Ov b≠0)):∀{vs:D_}{g:Gh}{O:Nat->Nat},S P g w st t O->∀{xs:M_}{Ov:Nat->Nat},
  RVs g w vs xs Ov->(∀b,Ov b+O b<=1)->∃g',RVs g' w (vs.map f) xs Ov∧S P g' w st t O∧bg g w g' w (λb=>Ov b≠0)
 |[],g,O,s,xs,Ov,rv,_=>⟨g,u_,s,.refl _ _ _⟩
 |v::vs,g,O,s,xs,Ov,rv,hle=>by
  obtain⟨x,ys,O1,O2,rfl,r1,r2,hs⟩:=rv;obtain⟨g1,q1,s1,hx1⟩:=hf s r1 (λb=>by grind);have r2':=RVs.ext hx1 _ _ _ r2 (λb hb hh=>by grind);obtain⟨g2,q2,s2,hx2⟩:=Lm hf s1 r2' (λb=>by grind);refine⟨g2,?_,s2,(hx1.mono λb _ h=>by simp_all).trans hx2 λb _ h=>by simp_all⟩;exact⟨x,ys,O1,O2,rfl,RV.ext hx2 _ _ _ q1 (λb hb hh=>by grind),q2,hs⟩
def Tv {g:Gh}{O:Nat->Nat}(s:S P g w st t O){v:AV}{x:Value}{Ov:Nat->Nat}(rv:RV g w v x Ov)(hle:∀b,Ov b+O b<=1) :
  ∃g',RV g' w (oD v) x Ov∧S P g' w st t O∧bg g w g' w (λb=>Ov b≠0):=by
 cases v with
 |agg cs =>
  obtain⟨xs,rfl,rv⟩:=rv
  simp_all [Lm,KC,oD,RV]
 |_=>exact KC s rv hle
def W5 {g:Gh}{O:Nat->Nat}(s:S P g w st t O){v:AV}{x:Value}{Ov:Nat->Nat}(rv:RV g w v x Ov)(hle:∀b,Ov b+O b<=1) :
  ∃g',RV g' w (firm v) x Ov∧S P g' w st t O∧bg g w g' w (λb=>Ov b≠0):=by
 cases v with
 |tup cs =>
  obtain⟨xs,rfl,rv⟩:=rv
  simp_all [Lm,Tv,firm,RV]
 |_=>exact Tv s rv hle
end
section
variable {P:Program}{w:World}{t:E_}{st st':St}{a:AV}
def WE (P:Program)(g:Gh)(w:World)(t:E_)(O:Nat->Nat)(env:aK)(x:Value)(Ov:Nat->Nat)(r:AV×HS):Prop :=
 ∃g' Ov' O',RV g' w r.1 x Ov'∧S P g' w ⟨env,r.2⟩ t O'∧bg g w g' w (λ_=>False)∧∀b,Ov' b+O' b<=Ov b+O b
def bg.id (g:Gh)(w:World){id:Nat}(hn:g.obj id=none)(b base esz bsz:Nat):bg g w (g.add id b base esz bsz) w λ_=>False :=
 by grind [bg.add,bg.refl]
def afH {g:Gh}{O:Nat->Nat}{hs:HS}{env:aK}(s:S P g w ⟨env,hs⟩ t O){v:AV}{x:Value}{Ov:Nat->Nat}(rv:RV g w v x Ov)(hle:∀b,Ov b+O b<=1)
  (hhi:∀b,Ov b≠0->b<w.heap.size):WE P g w t O env x Ov (lN hs v):=by
 have triv:WE P g w t O env x Ov (v,hs):=⟨g,Ov,O,rv,s,.refl _ _ _,λ_=>ai _⟩
 cases v with
 |own p m xs =>
  cases p with
  |false=>exact triv
  |true =>
   unfold lN;simp only;split
   .exact triv
   .rename_i hm;have hm:m≠0:=by rintro rfl;simp at hm
    have hn:=s.fresh hs.next (ai _)
    have put1:∀(b base esz bsz:Nat) (ob:Obj) (O1:Nat->Nat),iF P (g.add hs.next b base esz bsz) w hs.next ob O1->(∀y,O1 y+O y<=1)->(∀y,O1 y≠0->y<w.heap.size)->
      ∃O',S P (g.add hs.next b base esz bsz) w ⟨env,⟨put hs.heap hs.next ob,hs.next+1⟩⟩ t O'∧∀y,O' y<=O1 y+O y:=by
     intro b base esz bsz ob O1 r h1 h2;have hx:=bg.id g w hn b base esz bsz;obtain⟨Oe,Oh,re,rh,ho⟩:=s.parts;have re':=ja.ext hx re s_;have rh':yk P (g.add hs.next b base esz bsz) w hs.heap Oh:=rh.imp' λk v Q _ hQ q=>q.ext hx s_ (by simp)
     obtain⟨O2,r2,h3⟩:=RL.drop rh' hs.next;obtain⟨O3,r3,h4⟩:=RL.put s.sh r2 r;have hl:∀y,Oe y+O3 y<=O1 y+O y:=λy=>by grind
     refine⟨λy=>Oe y+O3 y,⟨s.se,s.sh.put _ _,⟨Oe,O3,re',r3,λ_=>rfl⟩,λy=>aC (hl y) (h1 y),λy hy=>?_,λi hi=>?_,s.pmlt⟩,hl⟩
     all_goals grind [S.hi,Gh.add,S.fresh]
    rcases rv with ⟨rfl,hz,⟨a,rfl⟩⟩|⟨b,off,cap,c,el,rfl,hcap,hm',hl,hb,hsz,hrc,hpm,hp,rfl⟩
    .obtain⟨O',s',hO'⟩:=put1 0 0 m 0 (.arr m []) zero (by
      simp only[iF];exact .inl ⟨trivial,by simp[Gh.add],by simp[Gh.add],o_,⟨0,by simp[Gh.add]⟩,λ_=>trivial⟩) (λy=>by simp_all) (λy h=>absurd rfl h)
     refine⟨_,zero,O',?_,s',bg.id g w hn _ _ _ _,λy=>by simp_all⟩
     grind [RV]
    .obtain⟨O',s',hO'⟩:=put1 b off m (off+cap*m) (.arr m xs) (one b) (by
      refine .inr ⟨b,c,el,by simp[Gh.add],by simp[Gh.add],hm',hb,by grind [Gh.add],?_,hl,by grind [Gh.add],λo ho=>?_,λ_=>rfl⟩
      .simp_all [Gh.add,bY]
      .have:=(hpm o ho).1;simp_all) hle hhi
     refine⟨_,zero,O',?_,s',bg.id g w hn _ _ _ _,λy=>by simp_all⟩
     simp_all [RV,Gh.add]
 |_=>exact triv
end
section
variable {P:Program}{w:World}{t:E_}
def PZ (P:Program)(w:World)(t:E_)(f:HS->AV->AV×HS):Prop :=
 ∀{g:Gh}{O:Nat->Nat}{hs:HS}{env:aK},S P g w ⟨env,hs⟩ t O->∀{v:AV}{x:Value}{Ov:Nat->Nat},RV g w v x Ov->(∀b,Ov b+O b<=1)->
  (∀b,Ov b≠0->b<w.heap.size)->WE P g w t O env x Ov (f hs v)
def Q7 {f:HS->AV->AV×HS}(hf:PZ P w t f){g:Gh}{O:Nat->Nat}{hs:HS}{env:aK}(s:S P g w ⟨env,hs⟩ t O){cs:D_}{xs:M_}{Ov:Nat->Nat}
  (rv:RVs g w cs xs Ov)(hle:∀b,Ov b+O b<=1)(hhi:∀b,Ov b≠0->b<w.heap.size){o:Nat}{v:AV}(hv:cs[o]?=some v) :
  ∃g' Ov' O',RVs g' w (cs.set o (f hs v).1) xs Ov'∧S P g' w ⟨env,(f hs v).2⟩ t O'∧bg g w g' w (λ_=>False)∧∀b,Ov' b+O' b<=Ov b+O b:=by
 obtain⟨x,A1,A2,hx,r1,r2,hs'⟩:=rv.pull hv;obtain⟨g1,A1',O1,r1',s1,hx1,l1⟩:=hf s r1 (λb=>by grind) (λb h=>hhi b d_);have r2':=RVs.ext hx1 _ _ _ r2 (by simp)
 grind [List.getElem?_set_self,RVs.replace,List.set_set]
def T3:PZ P w t lN:=λs _ _ _ r h1 h2=>afH s r h1 h2
def PP (o:Nat):PZ P w t (λhs=>kN hs o):=by
 intro g O hs env s v x Ov rv hle hhi
 cases v with
 |agg cs =>
  obtain⟨xs,rfl,rv⟩:=rv;simp only[kN];split
  .rename_i v hv;obtain⟨g',Ov',O',r',s',hx,l'⟩:=Q7 T3 s rv hle hhi hv;exact⟨g',Ov',O',by grind [RV],s',hx,l'⟩
  .exact⟨g,Ov,O,by grind [RV],s,.refl _ _ _,λ_=>ai _⟩
 |_=>exact T3 s rv hle hhi
def acq (p:Nat×Nat):PZ P w t (λhs=>nU hs p):=by
 intro g O hs env s v x Ov rv hle hhi
 cases v with
 |tup cs =>
  obtain⟨xs,rfl,rv⟩:=rv;simp only[nU];split
  .rename_i v hv;obtain⟨g',Ov',O',r',s',hx,l'⟩:=Q7 (PP p.2) s rv hle hhi hv;exact⟨g',Ov',O',by grind [RV],s',hx,l'⟩
  .exact⟨g,Ov,O,by grind [RV],s,.refl _ _ _,λ_=>ai _⟩
 |_=>exact PP p.2 s rv hle hhi
def FJ:∀th:O_,PZ P w t (λhs v=>cY th v hs)
 |[]=>λs _ _ _ rv _ _=>⟨_,_,_,rv,s,.refl _ _ _,λ_=>ai _⟩
 |p::r=>by
  intro s v x Ov rv hle hhi;obtain⟨g1,Ov1,O1,r1,s1,hx1,l1⟩:=acq p s rv hle hhi;obtain⟨g2,Ov2,O2,r2,s2,hx2,l2⟩:=FJ r s1 r1 (λb=>aC (l1 b) (hle b)) (λb hb=>by
   grind [S.hi])
  exact⟨g2,Ov2,O2,r2,s2,hx1.trans hx2 (λ_ _ h=>h),λb=>aC (l2 b) (l1 b)⟩
end
abbrev eM:=@Array.getD_eq_getD_getElem?
abbrev ez:=@Array.getElem?_setIfInBounds
section
variable {P:Program}{g:Gh}{w:World}{t:E_}{O:Nat->Nat}
def S.setTmp {e:aK}{hs:HS}(s:S P g w ⟨e,hs⟩ t O){d:Nat}{v:AV}{x:Value}{Ov:Nat->Nat}(hd:d<t.size)(r:RV g w v x Ov)
  (hle:∀b,Ov b+O b<=1)(hhi:∀b,Ov b≠0->b<w.heap.size):∃O',S P g w ⟨put e d v,hs⟩ (t.setIfInBounds d x) O'∧∀b,O' b<=Ov b+O b:=by
 obtain⟨Oe,Oh,re,rh,ho⟩:=s.parts;obtain⟨O2,r2,h2⟩:=RL.drop re d;have r2':ja g w (del e d) (t.setIfInBounds d x) O2:=r2.imp' λk v' O1 hm _ q=>by
  have hk:=(aa2 hm).2;refine⟨u_,?_⟩;have:(t.setIfInBounds d x).getD k undef=t.getD k undef:=by
   simp only[eM,ez]
   grind
  grind
 obtain⟨O3,r3,h3⟩:=RL.put s.se r2' (x:=v) (O1:=Ov) ⟨u_,by
  simp_all⟩
 have hl:∀b,O3 b+Oh b<=Ov b+O b:=λb=>by grind
 refine⟨λb=>O3 b+Oh b,⟨s.se.put _ _,s.sh,⟨O3,Oh,r3,rh,λ_=>rfl⟩,λb=>aC (hl b) (hle b),λb hb=>?_,s.fresh,s.pmlt⟩,hl⟩
 grind [hi]
end
abbrev jV:=@Bool.true_eq_false
section
variable {P:Program}{g:Gh}{w:World}{t:E_}{O:Nat->Nat}{st st':St}{a:AV}{o:Oper}
def Fo {m:Nat}{ys:F_}(h:fA m ys=true):∀e∈ys,e.length=m:=by
 induction ys<;>grind [fA,Nat.beq_eq]
def KO (ds:U_):(E6 ds).flatten=ds:=by
 induction ds<;>grind [E6]
def VM (ds:U_):∀e∈E6 ds,e.length=1:=by
 induction ds<;>grind [E6]
structure yl (g:Gh)(w:World)(m:Nat)(ys:F_)(a:Option Addr)(news:M_):Prop where
 nn:a=.none->ys.length=0
 len:news.length=ys.length*m
 rd:∀(j:Nat) (d:D),ys.flatten[j]?=some d->∃u,news[j]?=some u∧RD w g.pm d u
 one:∀u∈news,u.oneCell'=true
 cell:∀ad,a=some ad->∀(j:Nat) (u:Value),news[j]?=some u->w.cell? (ad.add j)=some u
def yl.nil (g:Gh)(w:World)(m:Nat)(a:Option Addr):yl g w m [] a [] :=
 ⟨λ_=>rfl,s_,λj d h=>by simp at h,λu h=>by simp at h,λad _ j u h=>by simp at h⟩
def yl.of_cells {m:Nat}{ys:F_}(hl:∀e∈ys,e.length=m){b off:Nat}(r:gw w g.pm ys.flatten b off):∃news,yl g w m ys (some ⟨b,off,.none⟩) news:=by
 obtain⟨xs,h1,h2,h3⟩:=r.vals;refine⟨xs,λh=>by simp at h,by grind [ej],λj d hd=>?_,λu hu=>?_,λad e j u hj=>?_⟩
 .have hj:j<xs.length:=d_;exact⟨xs[j],s_,h3 j d _ hd s_⟩
 .obtain⟨j,hj,rfl⟩:=List.mem_iff_getElem.1 hu;have hj':j<ys.flatten.length:=o_;exact(h3 j _ _ (b7 hj') (b7 hj)).one
 grind [jJ]
def xo {st:St}(s:S P g w st t O){v:AV}{ys:F_}{x:Value}{Ov:Nat->Nat}{m:Nat}(he:elems st.hs.heap v=some ys)(hl:∀e∈ys,e.length=m)
  (rv:RV g w v x Ov):∃a cap news,x=.slice a ys.length cap∧yl g w m ys a news:=by
 by_cases hn:te v=false
 .rcases (S8 he hn rv).list with ⟨rfl,a,cap,rfl⟩|⟨b,off,m',cap,rfl,_,_,_,hc,_⟩
  .exact⟨a,cap,[],rfl,yl.nil _ _ _ _⟩
  .obtain⟨news,h⟩:=yl.of_cells hl hc
   grind
 .cases v<;>simp only[te,not_true,jV,not_false_eq_true]at hn
  rename_i id off len;simp only[elems]at he;split at he
  .rename_i xs hx;split at he
   .rename_i hb;rw[aU]at hb;simp only[ae]at he;subst he;have hsl:(Vm.sub xs off len).length=len:=iZ hb;rcases rv.1 with ⟨rfl,a,rfl⟩|⟨b,cap,hob,rfl,hlc,hcap⟩
    .exact⟨a,0,[],rfl,yl.nil _ _ _ _⟩
    .obtain⟨Oe,Oh,re,rh,ho⟩:=s.parts;unfold objElems at hx;split at hx
     .rename_i m' zs hg;obtain⟨O1,q,_⟩:=RL.get rh hg;rcases q with ⟨rfl,_⟩|⟨b',c,el,g1,g2,g3,g4,g5,g6,g7,g8,g9,g10⟩
      .have h0:len=0:=u_;subst h0;exact⟨_,cap,[],rfl,yl.nil _ _ _ _⟩
      .have hc:gw w g.pm (Vm.sub zs off len).flatten b (g.base id+off*g.esz id):=by
        simp_all [lJ,gw.sub]
       simp_all [yl.of_cells]
     .rename_i cs hg;split at hx
      .rename_i ds hds;obtain⟨O1,q,_⟩:=RL.get rh hg;obtain⟨b',c,el,O2,g1,g2,g3,g4,g5,g6,g7,g8⟩:=q;obtain⟨h1,h2,h3⟩:=IU hds g6;have hc:gw w g.pm (Vm.sub (E6 ds) off len).flatten b (g.base id+off*g.esz id):=by
        rw[lJ (VM ds),KO,g2,g3,cQ];intro j d hj;obtain⟨hj,_⟩:=aaZ hj
        grind [fp]
       simp_all [yl.of_cells]
      simp_all
     simp_all
   simp_all
  simp_all
def yl.first {m:Nat}{ys:F_}{ad:Option Addr}{news:M_}(h:yl g w m ys ad news){len cap n:Nat}(hn:n<=ys.length){w1:World}(hw:w1.heap=w.heap) :
  (Builtin.firstCells m n (.slice ad len cap)).run P w1=.ok (news.take (n*m)).toArray w1:=by
 cases ad with
 |none =>
  have:=h.nn rfl
  simp_all [Builtin.firstCells]
 |some ad =>
  have hl:(news.take (n*m)).length=n*m:=by
   grind [len,Nat.mul_le_mul_right]
  refine run_firstCells_some (P:=P) w1 m n ad len cap _ hl λj v hj=>?_
  have hj':news[j]?=some v:=by
   grind
  have:=h.cell ad rfl j v hj'
  grind [World.cell?]
end
abbrev bc:=@List.eq_nil_of_length_eq_zero
abbrev bt:=@List.length_append
structure QE (P:Program)(w:World)(t1:TypeId)(x:Value)(e:TypeId)(m n:Nat)(news:M_):Prop where
 len:news.length=n*m
 one:∀u∈news,u.oneCell'=true
 src:((∃e',P.underlying t1=some (.slice e'))∧(∃a cap,x=.slice a n cap)∧∀w1:World,w1.heap=w.heap->(Builtin.firstCells m n x).run P w1=.ok news.toArray w1)∨
  ((∃k,P.underlying t1=some (.int k))∧(∃k,x=.int k (n:Int))∧∃i z,P.info? e=some i∧i.zero=some z∧z.cells.size=m∧news.toArray=Builtin.zeroCells z.cells n)
section
variable {P:Program}{w:World}{t0 t1 ty e:TypeId}{m n:Nat}{x:Value}{news:M_}
def rO {i:TypeInfo}{z:Value}(hi:P.info? e=some i)(hz:i.zero=some z):(zeroValue e).run P w=.ok z w:=by
 simp_all [zeroValue,typeInfo]
def Sk {n b:Nat}(hn:n<=4294967296)(hb:b<=4096):n*b<=17592186044416:=aC (tT hn hb) (by decide)
def zo (hu:P.underlying t0=some (.slice e)){i:TypeInfo}(hi:P.info? e=some i)(hs:i.size=m)(hm:0<m)(hby:i.bytes<=4096)(hn:n<=4294967296)
  (hx:QE P w t1 x e m n news){base:Option Addr}{sLen sCap:Nat}(hroom:sLen+n<=sCap) :
  (Builtin.append_ #[t0,t1] ty #[.slice base sLen sCap,x]).run P w =
   match base with
   |some a=>((do storeCells (a.add (sLen*m)) news;pure (.slice (some a) (sLen+n) sCap):Sem Value)).run P w
   |none=>.ok (.slice none (sLen+n) sCap) w:=by
 have hlen:=hx.len;have hroom':sLen+n<=sCap:=hroom;rcases hx.src with ⟨⟨e',h1⟩,⟨ad,cap,rfl⟩,hf⟩|⟨⟨k,h1⟩,⟨kk,rfl⟩,i',z,hi',hz,hzs,hzc⟩
 .have hf':=hf w rfl
  cases base<;>simp[Builtin.append_,aL hu,aL h1,sizeOf,typeInfo,hi,hs,Builtin.lenOf,hroom',hf']
 .rw[hi]at hi';simp only[ae]at hi';subst hi';have hw1:=Hy hn;have hbytes:=Sk hn hby;have hn0:¬(n:Int)<0:=o_;have hzv:=rO (P:=P) (w:=w) hi hz;have hbig':¬(281474976710656<(n:Int)*(i.bytes:Int)):=o_;by_cases hnm:n*m=0
  .have hnil:news=[]:=bc o_;subst hnil
   cases base<;>simp[Builtin.append_,aL hu,aL h1,sizeOf,typeInfo,hi,hs,asInt,asIntOf,hw1,hn0,hbig',hroom',hnm]
  .cases base<;>simp[Builtin.append_,aL hu,aL h1,sizeOf,typeInfo,hi,hs,asInt,asIntOf,hw1,hn0,hbig',hroom',hnm,hzv,<-hzc]
def Ot (hu:P.underlying t0=some (.slice e)){i:TypeInfo}{z:Value}(hi:P.info? e=some i)(hz:i.zero=some z)(hzs:z.cells.size=m)(hs:i.size=m)(hm:0<m)
  (hby:i.bytes<=4096)(hn:n<=4294967296)(hx:QE P w t1 x e m n news){base:Option Addr}{sLen sCap:Nat}{olds:M_}(hlo:olds.length=sLen*m)
  (hold:∀w1:World,w1.heap=w.heap->(Builtin.firstCells m sLen (.slice base sLen sCap)).run P w1=.ok olds.toArray w1)
  (hsum:sLen+n<=4294967296)(hg:sCap<sLen+n) :
  ∃cap' rest,(Builtin.append_ #[t0,t1] ty #[.slice base sLen sCap,x]).run P w =
    .ok (.slice (some ⟨w.heap.size,0,none⟩) (sLen+n) cap') (w.drew.alloc (.cells (olds++(news++rest)).toArray e))∧
   sLen+n<=cap'∧cap'*m<=(olds++(news++rest)).length:=by
 have hlen:=hx.len;have hng:¬(sLen+n<=sCap):=o_;have h63:¬(9223372036854775807<((sLen:Int)+(n:Int))):=o_;have hfit:Builtin.nextslicecap (sLen+n) sCap*i.bytes<=281474976710656:=growslice_fits hg (aC (Sk hsum hby) k_);have h48:¬(281474976710656<Builtin.nextslicecap (sLen+n) sCap*i.bytes):=o_;have hcap:sLen+n<=grownCap w (sLen+n) sCap e:=by grind [grownCap,Question.cut]
 have hold':=hold w.drew rfl;have hzv:=λw1=>rO (P:=P) (w:=w1) hi hz
 refine⟨grownCap w (sLen+n) sCap e,(Builtin.zeroCells z.cells (grownCap w (sLen+n) sCap e-(sLen+n))).toList,?_,hcap,?_⟩
 .rcases hx.src with ⟨⟨e',h1⟩,⟨ad,cap,rfl⟩,hf⟩|⟨⟨k,h1⟩,⟨kk,rfl⟩,i',z',hi',hz',hzs',hzc⟩
  .have hf':=hf w.drew rfl;simp[Builtin.append_,aL hu,aL h1,sizeOf,typeInfo,hi,hs,hzv,Builtin.lenOf,hng,h63,h48,Question.forced,hf',hold',newRow,grownCap]
   congr 2
   simp_all
  .rw[hi]at hi';simp only[ae]at hi';subst hi';rw[hz]at hz';simp only[ae]at hz';have hw1:=Hy hn;have hbytes:=Sk hn hby;have hbig':¬(281474976710656<(n:Int)*(i.bytes:Int)):=o_;have hn0:¬(n:Int)<0:=o_;by_cases hnm:n*m=0
   .simp[Builtin.append_,aL hu,aL h1,sizeOf,typeInfo,hi,hs,asInt,asIntOf,hw1,hn0,hbig',hnm,hzv,hng,h63,h48,Question.forced,hold',newRow,grownCap]
    congr 2
    simp_all
   .simp[Builtin.append_,aL hu,aL h1,sizeOf,typeInfo,hi,hs,asInt,asIntOf,hw1,hn0,hbig',hnm,hzv,hng,h63,h48,Question.forced,<-hzc,hold',newRow,grownCap]
    congr 2
    grind
 .have hz1:(Builtin.zeroCells z.cells (grownCap w (sLen+n) sCap e-(sLen+n))).toList.length=(grownCap w (sLen+n) sCap e-(sLen+n))*m:=by
   grind [Builtin.zeroCells]
  rw[bt,bt,hlo,hlen,hz1,<-dn,<-dn]
  grind
end
abbrev io:=@Array.getElem?_toList
abbrev f9:=@Array.length_toList
abbrev mZ:=@List.flatten_append
abbrev bH:=@Nat.lt_or_ge
abbrev df:=@List.getElem?_append_left
abbrev fo:=@List.getElem?_append_right
abbrev mj:=@Nat.le_add_left
section
variable {P:Program}{g:Gh}{w:World}{t:E_}{O:Nat->Nat}{st st':St}{a:AV}{o:Oper}
def dV.mono {O2:Nat->Nat}{res:Result Next}(h:dV P g w t O st' a res)(hle:∀b,O b<=O2 b):dV P g w t O2 st' a res:=by
 obtain⟨x,w',g',Oa,O',k⟩:=h;exact⟨x,w',g',Oa,O',k.run,k.val,k.st,k.ext.mono (λb _ h=>by grind),k.le,λb hb=>aC (k.old b hb) (hle b),k.hi⟩
def qK (P:Program)(g:Gh)(w:World)(t:E_)(O Oa:Nat->Nat)(st':St)(r:AV)(res:Result Value):Prop :=
 ∃v w' g' Or O',res=.ok v w'∧RV g' w' r v Or∧S P g' w' st' t O'∧bg g w g' w' (λb=>Oa b≠0∨O b≠0)∧(∀b,Or b+O' b<=1)∧
  (∀b,b<w.heap.size->Or b+O' b<=Oa b+O b)∧∀b,Or b≠0->b<w'.heap.size
theorem qK.firm {Oa:Nat->Nat}{m:Nat}{xs:F_}{res:Result Value}(h:qK P g w t O Oa st' (.own true m xs) res):qK P g w t O Oa st' (.own false m xs) res:=by
 obtain⟨v,w',g',Or,O',h1,h2,h3,h4,h5,h6,h7⟩:=h;obtain⟨g2,r2,s2,x2⟩:=KC h3 h2 h5;exact⟨v,w',g2,Or,O',h1,r2,s2,h4.trans x2 (λb hb h=>by grind),h5,h6,h7⟩
def bg.write {b pos:Nat}{c c':E_}{el:TypeId}{news:M_}(hb:w.heap[b]?=some (.cells c el (0,0)))(hp:∀o,g.pm b o->o<pos)
  (hc:c'.toList=ar c.toList pos news)(hsz:pos<=c.size):bg g w g (Vm.setBlk w b (.cells c' el (0,0))) λx=>x=b where
 obj _ _ h:=⟨h,rfl,rfl,rfl⟩
 pm b' o h:=⟨h,by
  by_cases e:b'=b
  .subst e;rw[fp (dB (gY hb)),fp hb,<-io,hc,<-io]
   grind [ar]
  grind [oY,fN]⟩
 blk b' _ h:=⟨fN h,λ_ h=>h⟩
 size:=s_
 lp b' rc h:=⟨rc,by grind [fN]⟩
 same:=⟨rfl,rfl,wC hb (by grind [fc]) (by grind [fc])⟩
def S.other {w':World}{b:Nat}{c:E_}{el:TypeId}(s:S P g w st t O)(hb:w.heap[b]?=some (.cells c el (0,0)))(hx:bg g w g w' λx=>x=b)(hO:O b=0) :
  S P g w' st t O:=by
 obtain⟨Oe,Oh,re,rh,ho⟩:=s.parts;have re':=ja.ext hx re (λy hy e=>by simp_all);have rh':yk P g w' st.hs.heap Oh:=rh.imp' λk v Q _ hQ q=>q.ext hx (λy hy e=>by grind) (λy ds hd e=>by
  simp_all)
 exact⟨s.se,s.sh,⟨Oe,Oh,re',rh',ho⟩,s.le,λb hb=>aH (s.hi b hb) hx.size,s.fresh,λb o h=>aH (s.pmlt b o h) hx.size⟩
def Fu (g:Gh)(w:World)(ys:F_)(news:M_):Prop:=∀(j:Nat) (d:D),ys.flatten[j]?=some d->∃u,news[j]?=some u∧RD w g.pm d u
def ZT {b off m cap:Nat}{c c':E_}{el:TypeId}{news:M_}{xs ys:F_}(hb:w.heap[b]?=some (.cells c el (0,0)))
  (hx:bg g w g (Vm.setBlk w b (.cells c' el (0,0))) λx=>x=b)(hc:c'.toList=ar c.toList (off+xs.length*m) news)(hl:∀e∈xs,e.length=m)
  (hcap:off+cap*m<=c.size)(hroom:xs.length+ys.length<=cap)(hn:news.length=ys.length*m)(hrc:gw w g.pm xs.flatten b off)(hnew:Fu g w ys news) :
  gw (Vm.setBlk w b (.cells c' el (0,0))) g.pm (xs++ys).flatten b off:=by
 have hfl:=ej hl;have hbound:(xs.length+ys.length)*m<=cap*m:=bY _ hroom;rw[dn]at hbound;have hcl:c.toList.length=c.size:=f9;intro j d hj;rw[mZ]at hj;rw[fp (dB (gY hb)),<-io,hc,iY o_];rcases bH j xs.flatten.length with h|h
 .rw[df h]at hj;obtain⟨u,hu,hr⟩:=hrc j d hj
  grind [fp,RD.ext]
 .rw[fo h]at hj;obtain⟨u,hu,hr⟩:=hnew _ d hj
  grind [RD.ext]
variable {t0 t1 ty e:TypeId}{m n:Nat}{x:Value}{news:M_}{xs ys:F_}{i:TypeInfo}{z:Value}
def Ok {Oa:Nat->Nat}(s:S P g w st t O)(hu:P.underlying t0=some (.slice e))(hi:P.info? e=some i)(hz:i.zero=some z)(hzs:z.cells.size=m)(hs:i.size=m)(hm:0<m)
  (hby:i.bytes<=4096)(hx:QE P w t1 x e m ys.length news)(hnew:Fu g w ys news){base:Option Addr}{sCap:Nat}(hl:∀e∈xs,e.length=m)(hl2:∀e∈ys,e.length=m)
  {olds:M_}(hlo:olds.length=xs.length*m)(hod:Fu g w xs olds)(hold:∀w1:World,w1.heap=w.heap->(Builtin.firstCells m xs.length (.slice base xs.length sCap)).run P w1=.ok olds.toArray w1)
  (hsum:xs.length+ys.length<=4294967296)(hg:sCap<xs.length+ys.length) :
  qK P g w t O Oa st (.own true m (xs++ys)) ((Builtin.append_ #[t0,t1] ty #[.slice base xs.length sCap,x]).run P w):=by
 obtain⟨cap',rest,hrun,h1,h2⟩:=Ot (P:=P) (ty:=ty) hu hi hz hzs hs hm hby (aC (mj _ _) hsum) hx hlo hold hsum hg;have hop:dV P g w t O st (.own true m (xs++ys)) (.ok (.value (.slice (some ⟨w.heap.size,0,none⟩) (xs++ys).length cap')) (w.drew.alloc (.cells (olds++(news++rest)).toArray e))):=by
  refine dV.list (w1:=w.drew) s s (λ_=>ai _) (bg.drew g w _) rfl rfl hm (λe he=>?_) u_ o_ λj d hj=>?_
  .grind
  .rw[mZ]at hj;have hfl:=ej hl;rcases bH j xs.flatten.length with h|h
   .rw[df h]at hj;obtain⟨u,hu,hr⟩:=hod j d hj
    grind
   .rw[fo h]at hj;obtain⟨u,hu,hr⟩:=hnew _ d hj
    grind
 obtain⟨v,w',g',Or,O',k⟩:=hop;rcases k.run with hr|hr
 .exact⟨_,_,g',Or,O',u_,k.val,k.st,k.ext.mono (λb _ h=>.inr h),k.le,λb hb=>by grind [amC.old],k.hi⟩
 simp_all
def ag6 (s:S P g w st t O)(hu:P.underlying t0=some (.slice e))(hi:P.info? e=some i)(hs:i.size=m)(hm:0<m)
  (hby:i.bytes<=4096)(hx:QE P w t1 x e m ys.length news)(hnew:Fu g w ys news){b off cap:Nat}(hl:∀e∈xs,e.length=m)(hl2:∀e∈ys,e.length=m)
  {c:E_}{el:TypeId}(hb:w.heap[b]?=some (.cells c el (0,0)))(hcap:off+cap*m<=c.size)(hrc:gw w g.pm xs.flatten b off)(hO:O b=0)(hp:∀o,g.pm b o->o<off+xs.length*m)
  (hsum:ys.length<=4294967296)(hroom:xs.length+ys.length<=cap) :
  ∃v w',(Builtin.append_ #[t0,t1] ty #[.slice (some ⟨b,off,none⟩) xs.length cap,x]).run P w=.ok v w'∧S P g w' st t O∧bg g w g w' (λy=>y=b)∧w'.heap.size=w.heap.size∧
   ((∀o,¬g.pm b o)->RV g w' (.own true m (xs++ys)) v (one b))∧
   ∃g',bg g w g' w' (λy=>y=b)∧S P g' w' st t O∧RV g' w' (.own false m (xs++ys)) v (one b):=by
 have hbound:(xs.length+ys.length)*m<=cap*m:=bY _ hroom;rw[dn]at hbound;have hn:=hx.len;obtain⟨c',h1,h2,h3⟩:=oT (P:=P) (b:=b) (el:=el) news w c (off+xs.length*m) 0 hb hx.one o_;have hrun:=zo (P:=P) (w:=w) (ty:=ty) hu hi hs hm hby hsum hx (base:=some ⟨b,off,none⟩) hroom;have hext:=bg.write hb hp h2 o_;have s':=s.other hb hext hO;have hcells:=ZT hb hext h2 hl hcap hroom hn hrc hnew;have hla:∀e∈xs++ys,e.length=m:=λe he=>by
  grind
 refine⟨.slice (some ⟨b,off,none⟩) (xs.length+ys.length) cap,_,?_,s',hext,s_,λhnp=>?_,?_⟩
 .grind [jJ,Sem.run_bind,Result.andThen_ok,Sem.run_pure]
 .refine .inr ⟨b,off,cap,c',el,s_,u_,hm,hla,dB (gY hb),o_,hcells,λo ho=>absurd ho (hnp o),λh=>by simp at h,rfl⟩
 .have hb':(Vm.setBlk w b (.cells c' el (0,0))).heap[b]?=some (.cells c' el (0,0)):=dB (gY hb);refine⟨g.keep b λo=>off<=o∧o<off+(xs++ys).length*m,hext.trans (bg.keep g _ b _) (λ_ _ h=>h),s'.keep hO hb' _,?_⟩;simp only[RV,zT];refine .inr ⟨b,off,cap,c',el,s_,u_,hm,hla,hb',o_,hcells.ext (bg.keep g _ b _) (.inl rfl),λo ho=>⟨trivial,?_⟩,λ_ j hj=>.inr ⟨rfl,o_,o_⟩,rfl⟩;rcases ho with ho|⟨_,_,ho⟩<;>grind [Nat.add_mul]
end
abbrev qD:=@List.take_length
section
variable {P:Program}{g:Gh}{w:World}{t:E_}{O:Nat->Nat}{st st':St}{a:AV}{o:Oper}
variable {t0 t1 ty e:TypeId}{m n:Nat}{x:Value}{news:M_}{xs ys:F_}{i:TypeInfo}{z:Value}
def gw.olds {b off:Nat}(hl:∀e∈xs,e.length=m)(r:gw w g.pm xs.flatten b off)(len cap:Nat) :
  ∃olds:M_,olds.length=xs.length*m∧Fu g w xs olds∧∀w1:World,w1.heap=w.heap->(Builtin.firstCells m xs.length (.slice (some ⟨b,off,none⟩) len cap)).run P w1=.ok olds.toArray w1:=by
 obtain⟨news,h⟩:=yl.of_cells hl r;refine⟨news,h.len,h.rd,λw1 hw=>?_⟩;have:=h.first (P:=P) (len:=len) (cap:=cap) (ai _) hw;rw[<-h.len,qD]at this;exact this
def sv (m:Nat)(a:Option Addr)(len cap:Nat)(w1:World):(Builtin.firstCells m 0 (.slice a len cap)).run P w1=.ok #[] w1:=by
 cases a with
 |none=>simp[Builtin.firstCells]
 |some a =>
  grind [run_firstCells_some]
def Pv {Oa:Nat->Nat}{va r:AV}{x0:Value}{h':ak}(s:S P g w st t O)(ra:RV g w va x0 Oa)(hle:∀b,Oa b+O b<=1)(hhi:∀b,Oa b≠0->b<w.heap.size)
  (hu:P.underlying t0=some (.slice e))(hi:P.info? e=some i)(hz:i.zero=some z)(hzs:z.cells.size=m)(hs:i.size=m)(hm:0<m)
  (hby:i.bytes<=4096)(hx:QE P w t1 x e m ys.length news)(hnew:Fu g w ys news)(hl2:∀e∈ys,e.length=m)(h:da m st.hs.heap va ys=some (r,h')) :
  qK P g w t O Oa ⟨st.env,⟨h',st.hs.next⟩⟩ r ((Builtin.append_ #[t0,t1] ty #[x0,x]).run P w):=by
 unfold da at h;split at h
 .simp at h
 .rename_i hy;rw[aU]at hy;have hy':ys.length<=4294967296:=hy;have empty:∀{st1:St}{O1:Nat->Nat},S P g w st1 t O1->(∀b,O1 b<=Oa b+O b)->∀ad:Option Addr,ys.length=0->∀r,RV g w r (.slice ad 0 0) zero->
    qK P g w t O Oa st1 r ((Builtin.append_ #[t0,t1] ty #[.slice ad 0 0,x]).run P w):=by
   intro st1 O1 s1 hO1 ad h0 r hr;have hnil:news=[]:=bc (by grind [QE.len]);have hrun:=zo (P:=P) (w:=w) (ty:=ty) hu hi hs hm hby hy' hx (base:=ad) (sLen:=0) (sCap:=0) o_;refine⟨.slice ad 0 0,w,g,zero,O1,?_,hr,s1,.refl _ _ _,λb=>by grind,λb _=>by simp_all,λb hb=>by simp at hb⟩;rw[hrun,hnil,h0]
   cases ad<;>simp[storeCells]
  have weak:∀{st1:St}{O1:Nat->Nat}{r:AV}{res:Result Value},(∀b,O1 b<=Oa b+O b)->qK P g w t O1 zero st1 r res->qK P g w t O Oa st1 r res:=by
   rintro st1 O1 r res hO1 ⟨v,w',g',Or,O',k1,k2,k3,k4,k5,k6,k7⟩
   exact⟨v,w',g',Or,O',k1,k2,k3,k4.mono (λb _ h=>by grind),k5,λb hb=>by grind,k7⟩
  have grows0:∀{st1:St}{O1:Nat->Nat},S P g w st1 t O1->(∀b,O1 b<=Oa b+O b)->∀ad:Option Addr,ys.length≠0->
    qK P g w t O Oa st1 (.own true m ys) ((Builtin.append_ #[t0,t1] ty #[.slice ad 0 0,x]).run P w):=by
   intro st1 O1 s1 hO1 ad h0;refine weak hO1 ?_;have:=Ok (Oa:=zero) (xs:=[]) (base:=ad) (sCap:=0) (olds:=[]) (ty:=ty) s1 hu hi hz hzs hs hm hby hx hnew (λe he=>by simp at he) hl2 (by simp)
    (λj d h=>by simp at h) (λw1 _=>sv m ad 0 0 w1) u_ (by omega)
   simp_all
  have block:∀{st1:St}{O1:Nat->Nat}{zs:F_}{b off cap:Nat}{c:E_}{el:TypeId},S P g w st1 t O1->(∀y,O1 y+one b y<=1)->(∀y,O1 y+one b y<=Oa y+O y)->(∀e∈zs,e.length=m)->
    w.heap[b]?=some (.cells c el (0,0))->off+cap*m<=c.size->gw w g.pm zs.flatten b off->(∀o,g.pm b o->o<off+zs.length*m)->zs.length+ys.length<=4294967296->
    ∀p:Bool,(p=true->∀o,¬g.pm b o)->
    qK P g w t O Oa st1 (.own p m (zs++ys)) ((Builtin.append_ #[t0,t1] ty #[.slice (some ⟨b,off,none⟩) zs.length cap,x]).run P w):=by
   intro st1 O1 zs b off cap c el s1 hO1 hO2 hlz hb hcap hrc hp hsum p hpp;have hOb:O1 b=0:=by grind [wT]
   by_cases hroom:zs.length+ys.length<=cap
   .obtain⟨v,w',k1,k2,k3,k4,k5,g',k6,k7,k8⟩:=ag6 (ty:=ty) s1 hu hi hs hm hby hx hnew hlz hl2 hb hcap hrc hOb hp hy' hroom;have hx1:∀{g1:Gh},bg g w g1 w' (λy=>y=b)->bg g w g1 w' (λy=>Oa y≠0∨O y≠0):=λh=>h.mono λy _ e=>by
     grind [wT]
    cases p with
    |true=>exact⟨v,w',g,one b,O1,k1,k5 (hpp rfl),k2,hx1 k3,λy=>by grind,λy _=>by grind,λy hy=>by grind [tx]⟩
    |false=>exact⟨v,w',g',one b,O1,k1,k8,k7,hx1 k6,λy=>by grind,λy _=>by grind,λy hy=>by grind [tx]⟩
   .obtain⟨olds,q1,q2,q3⟩:=gw.olds hlz hrc zs.length cap;have:=Ok (Oa:=zero) (base:=some ⟨b,off,none⟩) (sCap:=cap) (ty:=ty) s1 hu hi hz hzs hs hm hby hx hnew hlz hl2 q1 q2 q3 hsum o_;have h2:=weak (λy=>by grind) this
    cases p<;>grind [qK.firm]
  split at h
  .simp only[ae,aJ]at h;obtain⟨rfl,rfl⟩:=h;simp only[RV]at ra;obtain⟨rfl,_⟩:=ra
   cases ys with
   |nil=>exact empty s (λb=>by omega) none rfl _ (by simp[RV])
   |cons y ys=>exact grows0 s (λb=>by omega) none (by simp)
  .rename_i p k zs;split at h
   .rename_i hk;simp only[af,aq,aU]at hk;obtain⟨rfl,hsum⟩:=hk;simp only[ae,aJ]at h;obtain⟨rfl,rfl⟩:=h;simp only[RV]at ra;rcases ra with ⟨rfl,_,ad,rfl⟩|⟨b,off,cap,c,el,rfl,hcap,_,hlz,hb,hsz,hrc,hpm,hp,rfl⟩
    .by_cases h0:ys.length=0
     .have:ys=[]:=bc h0;subst this;exact empty s (λb=>by omega) ad rfl _ (by grind [RV,zT])
     .exact(grows0 s (λb=>by omega) ad h0).firm
    .exact block s (λy=>by grind) (λy=>by omega) hlz hb hsz hrc (λo ho=>(hpm o ho).2) hsum false (λh=>by simp at h)
   simp_all
  .rename_i id off len;split at h
   .rename_i k zs hg;split at h
    .rename_i hk;simp only[af,aq,aU]at hk;obtain⟨⟨rfl,hin⟩,hsum⟩:=hk;simp only[ae,aJ]at h;obtain⟨rfl,rfl⟩:=h;simp only[RV]at ra;obtain⟨ra,hOa⟩:=ra;obtain⟨Oe,Oh,re,rh,ho⟩:=s.parts;obtain⟨O1,O2,q,r2,hsm⟩:=RL.take rh hg;have hle2:∀b,Oe b+O2 b<=O b:=λb=>by grind
     have s2:S P g w ⟨st.env,⟨del st.hs.heap id,st.hs.next⟩⟩ t (λb=>Oe b+O2 b) :=
      ⟨s.se,s.sh.del id,⟨Oe,O2,re,r2,λ_=>rfl⟩,λb=>aC (hle2 b) (s.le b),λb hb=>s.hi b d_,s.fresh,s.pmlt⟩
     have hsub:(Vm.sub zs off len).length=len:=iZ hin;have emp:len=0->∀ad:Option Addr,qK P g w t O Oa ⟨st.env,⟨del st.hs.heap id,st.hs.next⟩⟩ (.own true k (Vm.sub zs off len++ys)) ((Builtin.append_ #[t0,t1] ty #[.slice ad 0 0,x]).run P w):=by
      grind [RV,zT]
     rcases ra with ⟨h0,ad,rfl⟩|⟨b,cap,hob,rfl,hlc,hcap⟩
     .simp_all
     .simp only[iF]at q;rcases q with ⟨rfl,g1,g2,g3,_⟩|⟨b',c,el,g1,g2,g3,g4,g5,g6,g7,g8,g9,g10⟩
      .have hc0:cap=0:=by
        grind [Nat.mul_eq_zero]
       simp_all
      .rw[g2,dn]at hcap;have:=block (zs:=Vm.sub zs off len) (off:=g.base id+off*k) (cap:=cap) s2 (λy=>by grind)
        (λy=>by grind) (C6 g7 off len) g4 (by omega)
        (by simp_all [lJ,gw.sub]) (λo h=>absurd h (g9 o)) (by rw[hsub];exact hsum) true (λ_=>g9)
       simp_all
    simp_all
   simp_all
  simp_all
end
abbrev ca:=@List.length_replicate
section
variable {P:Program}{g:Gh}{w:World}{t:E_}{O:Nat->Nat}{st st':St}{a:AV}{o:Oper}
def qK.op1 {O1 Oa:Nat->Nat}{r:AV}{res:Result Value}(h:qK P g w t O1 Oa st' r res)(hle:∀b,Oa b+O1 b<=O b){res':Result Next}
  (hr:∀v w',res=.ok v w'->res'=.ok (.value v) w'):dV P g w t O st' r res':=by
 obtain⟨v,w',g',Or,O',k1,k2,k3,k4,k5,k6,k7⟩:=h;exact⟨v,w',g',Or,O',.inl (hr v w' k1),k2,k3,k4.mono (λb _ h=>by grind),k5,λb hb=>by grind,k7⟩
def oz {ty:TypeId}{m:Nat}(h:kC P ty m=true):∃e i zv,P.underlying ty=some (.slice e)∧P.info? e=some i∧i.zero=some zv∧zv.cells.size=m:=by
 grind [kC,Nat.beq_eq]
def Jb {e:TypeId}{i:TypeInfo}{m:Nat}(h:tw P e m=true)(hi:P.info? e=some i):i.size=m:=by
 grind [tw,Nat.beq_eq]
def FM {e:TypeId}{i:TypeInfo}(hi:P.info? e=some i):P.bytesOf e=i.bytes:=by grind [Program.bytesOf]
def EM {c:Call}(h:Mr c=true):c.argTypes=#[qg c,c.argTypes.getD 1 0]:=by
 simp only[Mr,aq]at h;apply Array.ext
 .simp[h]
 .intro i h1 h2;have h1':i<2:=o_;have:i=0∨i=1:=o_;rcases this with rfl|rfl<;>simp[qg,Array.getD,h]
def amb {m:Nat}{x y:Rd}(s:S P g w st t O)(h:CU m x y st=some (a,st'))(hc:aZ P (.app m x y) o.op=true) :
  dV P g w t O st' a ((execOp (ev t) o).run P w):=by
 obtain⟨dst,op,ty,pos,aft,gd⟩:=o;simp only[aZ]at hc;split at hc
 .rename_i c;simp only[af]at hc;obtain⟨⟨⟨⟨⟨h1,h2⟩,h3⟩,h4⟩,h5⟩,h6⟩:=hc;have hats:=EM h2;obtain⟨callee,args,ats⟩:=c;have:=nG h1;obtain⟨x',y',e1,hx,hy⟩:=adb h6;subst e1;obtain⟨va,vb,e,Oa,Ob,O',ra,rb,s',hl,hk⟩:=LK s hx hy h;split at hk
  .rename_i ys hys;split at hk
   .rename_i hok;split at hk
    .rename_i r h' hap;obtain⟨rfl,rfl⟩:=hk;obtain⟨el,hu,hsz,hm,hby⟩:=fH h3;obtain⟨el',i,zv,hu',hi,hz,hzs⟩:=oz h4;rw[hu]at hu';simp only[ae,fM]at hu';subst hu';rw[FM hi]at hby;have hlen:=Fo hok;obtain⟨ad,cap,news,hxv,hels⟩:=xo (st:=⟨e,st.hs⟩) s' hys hlen rb;split at h5
     .rename_i e' hu1;generalize hT0:qg ⟨.builtin .append,#[x',y'],ats⟩=T0 at *;generalize hT1:ats.getD 1 0=T1 at *;have hsrc:QE P w T1 (ev t y') el m ys.length news:=by
       refine⟨hels.len,hels.one,.inl ⟨⟨e',hu1⟩,⟨ad,cap,hxv⟩,λw1 hw=>?_⟩⟩;have:=hels.first (P:=P) (len:=ys.length) (cap:=cap) (ai _) hw
       rw[<-hels.len,qD,<-hxv]at this;exact this
      have:=Pv (st:=⟨e,st.hs⟩) (ty:=ty) s' ra (λb=>by have:=hl b;have:=s.le b;omega) (λb hb=>s.hi b d_) hu hi hz hzs (Jb hsz hi) hm hby hsrc hels.rd hlen hap;refine this.op1 (λb=>by grind) λv w' hr=>?_
      simp_all [execOp,resolve,invoke,builtin]
     grind
    grind
   grind
  grind
 simp_all
def Ud {zs:U_}{zv:Value}(hok:Lq zs zv.cells.toList=true)(n:Nat) :
  Fu g w (List.replicate n zs) (Builtin.zeroCells zv.cells n).toList∧(Builtin.zeroCells zv.cells n).toList.length=n*zs.length∧∀u∈(Builtin.zeroCells zv.cells n).toList,u.oneCell'=true:=by
 obtain⟨hl,hg⟩:=OF (w:=w) (g:=g) hok;have key:∀j,j<n*zs.length->0<zs.length∧∃u,(Builtin.zeroCells zv.cells n).toList[j]?=some u∧zv.cells.toList[j % zs.length]?=some u:=by
  intro j hj;have hp:0<zs.length:=by
   grind
  simp_all [fT,Builtin.zeroCells]
 refine⟨λj d hj=>?_,by grind [Builtin.zeroCells],λu hu=>?_⟩
 .obtain⟨h1,h2⟩:=NP hj
  grind
 .obtain⟨j,hj,rfl⟩:=List.mem_iff_getElem.1 hu;have hj':j<n*zs.length:=by grind [Builtin.zeroCells]
  obtain⟨hp,u,hu,hu2⟩:=key j hj';have hjm:j % zs.length<zs.length:=fT _ hp;obtain⟨u',hu',hr⟩:=hg _ _ (b7 hjm)
  grind [RD.one]
def aiG {z:U_}{x y:Rd}(s:S P g w st t O)(h:Wz z x y st=some (a,st'))(hc:aZ P (.appz z x y) o.op=true) :
  dV P g w t O st' a ((execOp (ev t) o).run P w):=by
 obtain⟨dst,op,ty,pos,aft,gd⟩:=o;simp only[aZ]at hc;split at hc
 .rename_i c;simp only[af]at hc;obtain⟨⟨⟨⟨⟨h1,h2⟩,h3⟩,h4⟩,h5⟩,h6⟩:=hc;have hats:=EM h2;obtain⟨callee,args,ats⟩:=c;have:=nG h1;obtain⟨x',y',e1,hx,hy⟩:=adb h6;subst e1;obtain⟨va,vb,e,Oa,Ob,O',ra,rb,s',hl,hk⟩:=LK s hx hy h;split at hk
  .rename_i n hn;split at hk
   .rename_i r h' hap;obtain⟨rfl,rfl⟩:=hk;obtain⟨el,hu,hsz,hm,hby⟩:=fH h3;obtain⟨el',i,zv,hu',hi,hz,hok⟩:=AB h4;rw[hu]at hu';simp only[ae,fM]at hu';subst hu';rw[FM hi]at hby;obtain⟨⟨kk,hyv⟩,hnm⟩:=A9 hn rb;obtain⟨hnew,hnl,hone⟩:=Ud (g:=g) (w:=w) hok n;have hzs:zv.cells.size=z.length:=by rw[(OF (w:=w) (g:=g) hok).1];simp
    simp only[EL]at h5;split at h5
    .rename_i k hu1;generalize hT0:qg ⟨.builtin .append,#[x',y'],ats⟩=T0 at *;generalize hT1:ats.getD 1 0=T1 at *;have hsrc:QE P w T1 (ev t y') el z.length (List.replicate n z).length (Builtin.zeroCells zv.cells n).toList:=by
      rw[ca];exact⟨hnl,hone,.inr ⟨⟨k,hu1⟩,⟨kk,hyv⟩,i,zv,hi,hz,hzs,s_⟩⟩
     have:=Pv (st:=⟨e,st.hs⟩) (ty:=ty) s' ra (λb=>by have:=hl b;have:=s.le b;omega) (λb hb=>s.hi b d_) hu hi hz hzs (Jb hsz hi) hm hby hsrc hnew
      (λe he=>by simp_all) hap
     refine this.op1 (λb=>by grind) λv w' hr=>?_
     simp_all [execOp,resolve,invoke,builtin]
    grind
   grind
  grind
 simp_all
end
abbrev bm:=@List.length_pos_iff
abbrev qT:=@List.length_take
section
variable {P:Program}{g:Gh}{w:World}{t:E_}{O:Nat->Nat}{st st':St}{a:AV}{o:Oper}
theorem Lw {α:Type}(xs:List α)(off:Nat):ar xs off []=xs:=by simp[ar]
theorem tc {α:Type}{xs zs:List α}{off:Nat}(h:off+zs.length<=xs.length):(ar xs off zs).length=xs.length:=by
 grind [ar]
theorem Wl {α:Type}{xs zs:List α}{off:Nat}{x:α}(h:x∈ar xs off zs):x∈xs∨x∈zs:=by
 grind [ar]
def Og {xs zs:F_}{m off:Nat}(hx:∀e∈xs,e.length=m)(hz:∀e∈zs,e.length=m) :
  (ar xs off zs).flatten=ar xs.flatten (off*m) zs.flatten:=by
 simp only[ar,mZ];rw[D8 hx,DQ hx,ej hz,dn]
def QN {id off len m:Nat}{xs zs:F_}{vals:M_}{x0:Value}{Ov:Nat->Nat}(s:S P g w st t O)(hg:get st.hs.heap id=some (.arr m xs))(rv:RV g w (.sl id off len) x0 Ov)
  (hin:off+len<=xs.length)(hz:zs.length<=len)(hl:∀e∈zs,e.length=m)(hn:Fu g w zs vals)(hv:vals.length=zs.length*m)(h1:∀u∈vals,u.oneCell'=true) :
  ∃ad cap w' O2,x0=.slice ad len cap∧(match ad with|some a=>(storeCells a vals).run P w|none=>.ok () w)=.ok () w'∧
   S P g w' ⟨st.env,⟨put st.hs.heap id (.arr m (ar xs off zs)),st.hs.next⟩⟩ t O2∧bg g w g w' (λc=>O c≠0)∧(∀c,O2 c<=O c)∧w'.heap.size=w.heap.size:=by
 have same:zs=[]->vals=[]∧∃O2,S P g w ⟨st.env,⟨put st.hs.heap id (.arr m (ar xs off zs)),st.hs.next⟩⟩ t O2∧∀c,O2 c<=O c:=by
  rintro rfl
  refine⟨bc u_,?_⟩
  grind [Lw,S.upd]
 have noop:∀ad:Option Addr,(match ad with|some a=>(storeCells a []).run P w|none=>.ok () w)=.ok () w:=by
  intro ad;cases ad<;>simp[storeCells]
 simp only[RV]at rv;rcases rv.1 with ⟨rfl,ad,rfl⟩|⟨b,cap,hob,rfl,hlc,hcap⟩
 .simp_all [bg.refl]
 .by_cases h0:zs=[]
  .simp_all [bg.refl]
  .have hzl:0<zs.length:=bm.2 h0;obtain⟨O1,Oz,q,hsum,hst⟩:=s.store hg;rcases q with ⟨rfl,_⟩|⟨b',c,el,g1,g2,g3,g4,g5,g6,g7,g8,g9,g10⟩
   .simp_all
   .rw[hob]at g1;simp only[ae]at g1;subst g1;rw[g2]at hcap⊢;have e1:off*m+zs.length*m<=xs.length*m:=by rw[<-dn];exact bY _ (by omega)
    obtain⟨c',hrun,hc',hcs⟩:=oT (P:=P) (b:=b) (el:=el) vals w c (g.base id+off*m) 0 g4 h1 o_;have hx:bg g w g (setBlk w b (.cells c' el (0,0))) λx=>x=b:=bg.setBlk g4 g9
    have hOb:1<=O1 b:=u_;have hbO:O b=1:=by have:=hsum b;have:=s.le b;omega
    have hfl:=ej g7;have hcl:c.toList.length=c.size:=f9;have hlen':(ar xs off zs).length=xs.length:=tc o_;refine⟨_,cap,_,_,rfl,hrun,hst (setBlk w b (.cells c' el (0,0))) b c el (.arr m (ar xs off zs)) O1 g4 hOb hx ?_ (λy=>by have:=hsum y;have:=s.le y;omega) (λy hy=>?_),
     hx.mono (λy _ e=>by simp_all),hsum,s_⟩
    .refine .inr ⟨b,c',el,hob,g2,g3,dB (gY g4),o_,u_,λe he=>?_,?_,g9,g10⟩
     .grind [Wl]
     .rw[Og g7 hl];intro j d hj;have hzfl:=ej hl;rw[iY o_]at hj;rw[fp (dB (gY g4)),<-io,hc',iY o_];split at hj
      .obtain⟨u,hu,hr⟩:=hn _ d hj
       grind [RD.ext]
      .obtain⟨u,hu,hr⟩:=g8 j d hj
       grind [fp,RD.ext]
    grind [tx,Fv]
def adt {ys:F_}{m:Nat}(hl:∀e∈ys,e.length=m){news:M_}(hn:Fu g w ys news)(n:Nat) :
  Fu g w (ys.take n) (news.take ((ys.take n).length*m)):=by
 intro j d hj;have hlt:=Bs hj;rw[ej (λe he=>hl e (fL he))]at hlt;rw[D8 hl]at hj;have hj':ys.flatten[j]?=some d:=by
  grind
 obtain⟨u,hu,hr⟩:=hn j d hj'
 simp_all
def ZV {h:ak}{v:AV}{ys:F_}{x:Value}{Ov:Nat->Nat}(he:elems h v=some ys)(rv:RV g w v x Ov):∃a n cap,x=.slice a n cap:=by
 by_cases hn:te v=false
 .rcases (S8 he hn rv).list with ⟨rfl,a,cap,rfl⟩|⟨b,off,m',cap,rfl,_⟩<;>simp_all
 .cases v<;>simp only[te,not_true,jV,not_false_eq_true]at hn
  grind [RV]
def ak3 {m:Nat}{x y:Rd}(s:S P g w st t O)(h:QS m x y st=some (a,st'))(hc:aZ P (.cpy m x y) o.op=true) :
  dV P g w t O st' a ((execOp (ev t) o).run P w):=by
 obtain⟨dst,op,ty,pos,aft,gd⟩:=o;simp only[aZ]at hc;split at hc
 .rename_i c;simp only[af]at hc;obtain⟨⟨⟨⟨h1,h2⟩,h3⟩,h5⟩,h6⟩:=hc;have hats:=EM h2;obtain⟨callee,args,ats⟩:=c;have:=nG h1;subst this;obtain⟨x',y',e1,hx,hy⟩:=adb h6;simp only at e1 hats;subst e1;obtain⟨va,vb,e,Oa,Ob,O',ra,rb,s',hl,hk⟩:=LK s hx hy h;obtain⟨el,hu,hsz,hm,hby⟩:=fH h3;split at hk
  .rename_i ys hys;split at h5
   .rename_i e' hu1;generalize hT0:qg ⟨.builtin .copy,#[x',y'],ats⟩=T0 at *;generalize hT1:ats.getD 1 0=T1 at *;subst hats;split at hk
    .rename_i id off len;split at hk
     .rename_i k xs hg;split at hk
      .rename_i hb;simp only[af,aq,aU]at hb;obtain⟨⟨hok,rfl⟩,hin⟩:=hb;obtain⟨rfl,rfl⟩:=hk;have hlen:=Fo hok;obtain⟨ad,cap,news,hxv,hels⟩:=xo (st:=⟨e,st.hs⟩) s' hys hlen rb;obtain⟨adx,capx,w',O2,q1,q2,q3,q4,q5,q6⟩:=QN (st:=⟨e,st.hs⟩) (zs:=ys.take len) s' hg ra hin d_ (λe he=>hlen e (fL he))
        (adt hlen hels.rd len) (by grind [yl.len,Nat.mul_le_mul_right]) (λu hu=>hels.one u (fL hu))
       refine⟨.int .i64 (.ofNat (min len ys.length)),w',g,zero,O2,.inl ?_,rF _ _,q3,q4.mono (λb _ h=>by grind),λb=>by have:=s.le b;grind,
        λb _=>by grind,λb hb=>by simp at hb⟩
       have hf:=hels.first (P:=P) (len:=ys.length) (cap:=cap) (n:=(ys.take len).length) d_ (rfl:w.heap=w.heap)
       rw[qT,<-hxv]at hf;rw[qT]at q2;have hmin:Nat.min ys.length len=min len ys.length:=Nat.min_comm _ _;have hlo:(Builtin.lenOf (ev t y')).run P w=.ok ys.length w:=by simp_all [Builtin.lenOf]
       cases adx with
       |none =>
        simp only[Result.ok.injEq,true_and]at q2;subst q2;simp[execOp,resolve,invoke,builtin,Builtin.copy_,aL hu,hlo,dw hsz,hf,goInt,q1,hmin]
       |some adx =>
        simp[execOp,resolve,invoke,builtin,Builtin.copy_,aL hu,hlo,dw hsz,hf,goInt,q1,q2,hmin]
      simp_all
     simp_all
    .split at hk
     .rename_i hl0;obtain⟨rfl,rfl⟩:=hk;obtain⟨ada,capa,hxa⟩:=KE hl0 ra;obtain⟨ady,ny,capy,hxy⟩:=ZV hys rb;refine .flat s (x:=.int .i64 0) ?_ (rF _ _) s' λb=>by grind
      have hf:=sv (P:=P) m ady ny capy w;rw[<-hxy]at hf;have hlo:(Builtin.lenOf (ev t y')).run P w=.ok ny w:=by simp_all [Builtin.lenOf]
      cases ada<;>simp[execOp,resolve,invoke,builtin,Builtin.copy_,aL hu,hlo,dw hsz,hf,goInt,hxa,storeCells]
     simp_all
   grind
  grind
 simp_all
def amO {z:U_}{x:Rd}(s:S P g w st t O)(h:Md z x st=some (a,st'))(hc:aZ P (.clr z x) o.op=true) :
  dV P g w t O st' a ((execOp (ev t) o).run P w):=by
 obtain⟨dst,op,ty,pos,aft,gd⟩:=o;simp only[aZ]at hc;split at hc
 .rename_i c;simp only[af]at hc;obtain⟨⟨⟨⟨h1,h3⟩,h4⟩,h2⟩,h6⟩:=hc;obtain⟨callee,args,ats⟩:=c;have:=nG h1;subst this;obtain⟨x',e1,hx⟩:=acb h6;simp only at e1;subst e1;have hty:=RK h2;obtain⟨el',i,zv,hu',hi,hz,hok⟩:=AB h4;unfold Md at h;split at h
  .rename_i id off len e hr;obtain⟨Oa,O',ra,s',hl⟩:=s.rd hx hr;split at h
   .rename_i k xs hg;split at h
    .rename_i hb;simp only[af,aq,aU]at hb;obtain⟨rfl,hin⟩:=hb;obtain⟨rfl,rfl⟩:=h;obtain⟨hnew,hnl,hone⟩:=Ud (g:=g) (w:=w) hok len;obtain⟨adx,capx,w',O2,q1,q2,q3,q4,q5,q6⟩:=QN (st:=⟨e,st.hs⟩) (zs:=List.replicate len z) s' hg ra hin s_ (λe he=>by simp_all)
      hnew u_ hone
     refine⟨.tuple #[],w',g,zero,O2,.inl ?_,by simp[RV,RVs],q3,q4.mono (λb _ h=>by grind),λb=>by have:=s.le b;grind,
      λb _=>by grind,λb hb=>by simp at hb⟩
     have hzv:=rO (P:=P) (w:=w) hi hz
     cases adx with
     |none =>
      simp_all [execOp,resolve,invoke,builtin,Builtin.clear_,aL]
     |some adx =>
      cases len with
      |zero =>
       simp_all [storeCells,execOp,resolve,invoke,builtin,Builtin.clear_,aL]
      |succ len =>
       simp_all [execOp,resolve,invoke,builtin,Builtin.clear_,aL]
    simp_all
   simp_all
  simp_all
 simp_all
end
abbrev cT:=@List.map_cons
abbrev fg:=@List.all_cons
abbrev fR:=@Option.isSome_iff_exists
abbrev ib:=@List.map_map
section
variable {P:Program}{g:Gh}{w:World}{t:E_}{O:Nat->Nat}{st st':St}{a:AV}{o:Oper}
def agU (vals:M_):∀(cs:E_) (off k:Nat),off+k+vals.length<=cs.size->
  ((vals.zipIdx k).foldl (fun(cs:E_) (p:Value×Nat)=>cs.setIfInBounds (off+p.2) p.1) cs).toList=ar cs.toList (off+k) vals:=by
 induction vals with
 |nil=>simp_all [ar]
 |cons v vs ih =>
  intro cs off k h;rw[List.zipIdx_cons,List.foldl_cons,ih _ off (k+1) d_,Array.toList_setIfInBounds,<-bF,Cb o_]
def Ld {place:Nat->BE_}{xs:E_}{i off n:Nat}{v:Value}{rest:List (Nat×Value)}(hp:place i=some (off,n))(hs:v.cells.size=n)(hb:off+n<=xs.size) :
  ∃xs',Instr.fill place xs ((i,v)::rest)=Instr.fill place xs' rest∧xs'.toList=ar xs.toList off v.cells.toList:=by
 refine⟨v.cells.zipIdx.foldl (λcs (c,j)=>cs.setIfInBounds (off+j) c) xs,?_,?_⟩
 .grind [Instr.fill]
 .rw[<-Array.foldl_toList,Array.toList_zipIdx]
  simp_all [agU]
def Rw {v:AV}{x:Value}{Ov:Nat->Nat}(h:wx v=true)(r:RV g w v x Ov):RVs g w v.cells x.cells.toList Ov:=by
 cases v with
 |agg cs =>
  obtain⟨xs,rfl,r⟩:=r;exact r
 |_=>grind [RV.cells,AV.cells,wx]
def RVs.splice {cs vs:D_}{xs ys:M_}{O1 O2:Nat->Nat}(r1:RVs g w cs xs O1)(r2:RVs g w vs ys O2){off:Nat}(h:off+vs.length<=cs.length) :
  ∃O3,RVs g w (ar cs off vs) (ar xs off ys) O3∧∀b,O3 b<=O1 b+O2 b:=by
 have hl2:=r2.length;rw[Yo (off:=off) (n:=vs.length) h]at r1;obtain⟨B1,B2,rb1,rb2,hb12⟩:=r1.split;obtain⟨B3,B4,rb3,rb4,hb34⟩:=rb2.split;have hsl:(Vm.sub cs off vs.length).length=vs.length:=iZ h;have hjoin:=rb1.join (r2.join rb4)
 grind [BR,List.drop_drop]
def Lv {place:Nat->BE_}:∀{ps:Z_}{parts:List (Nat×Operand)},kG place ps parts=true->dc (pR ps) (parts.map (·.2))=true
 |[],[],_=>rfl
 |(off,n,r)::ps,(i,x)::parts,h=>by
  simp only[kG,af]at h;simp only[pR,cT,dc,af];exact⟨h.1.2,Lv h.2⟩
 |[],_::_,h=>by grind [kG]
 |(_,_,_)::_,[],h=>by grind [kG]
def VL {place:Nat->BE_}:∀{ps:Z_}{parts:List (Nat×Operand)},kG place ps parts=true->
  ∀{cs cs' vs:D_}{xs:E_}{O1 O2:Nat->Nat},RVs g w cs xs.toList O1->RVs g w vs (parts.map λp=>ev t p.2) O2->dL cs (qW ps vs)=some cs'->
  ∃xs' O3,Instr.fill place xs (parts.map λp=>(p.1,ev t p.2))=some xs'∧RVs g w cs' xs'.toList O3∧∀b,O3 b<=O1 b+O2 b
 |[],[],_,cs,cs',vs,xs,O1,O2,r1,r2,h=>by
  grind [qW,dL,Instr.fill]
 |(off,n,r)::ps,(i,x)::parts,hc,cs,cs',vs,xs,O1,O2,r1,r2,h=>by
  simp only[kG,af]at hc;obtain⟨⟨h1,h2⟩,h3⟩:=hc
  cases vs with
  |nil=>grind [RVs]
  |cons v vs =>
   obtain⟨y,ys,P1,P2,e,rv,rvs,hs⟩:=r2;obtain⟨rfl,rfl⟩:=e;simp only[qW,dL]at h;split at h
   .rename_i hb;simp only[af,aq,aU]at hb;obtain⟨⟨hb1,hb2⟩,hb3⟩:=hb;split at h1
    .rename_i a b hp;simp only[af,aq]at h1;obtain⟨rfl,rfl⟩:=h1;have rc:=Rw hb2 rv;have hlx:=r1.length;have hlc:=rc.length;simp only[f9]at hlx hlc;obtain⟨xs',e1,e2⟩:=Ld (rest:=parts.map λp=>(p.1,ev t p.2)) hp (v:=ev t x) o_ (xs:=xs) o_;obtain⟨O3,r3,l3⟩:=r1.splice rc (off:=a) o_;rw[<-e2]at r3;obtain⟨xs'',O4,q1,q2,q3⟩:=VL h3 r3 rvs h
     grind
    simp_all
   simp_all
 |[],_::_,hc,_,_,_,_,_,_,_,_,_=>by grind [kG]
 |(_,_,_)::_,[],hc,_,_,_,_,_,_,_,_,_=>by grind [kG]
def afg {fs:List Field}(h:S6 P fs=true):∃places:O_,fs.mapM (λf=>(P.info? f.type).map λi=>(f.offset,i.size))=some places∧
  ∀i:Nat,places[i]?=(fs[i]?).bind λf:Field=>(P.info? f.type).map λi=>(f.offset,i.size):=by
 induction fs with
 |nil=>simp_all
 |cons f fs ih =>
  simp only[S6,fg,af]at h;obtain⟨places,h1,h2⟩:=ih h.2;obtain⟨i,hi⟩:=fR.1 h.1;refine⟨(f.offset,i.size)::places,u_,λj=>?_⟩
  grind
def afE {zs:D_}{ps:Z_}(s:S P g w st t O)(h:Ai zs ps st=some (a,st'))(hc:aZ P (.build zs ps) o.op=true) :
  dV P g w t O st' a ((execOp (ev t) o).run P w):=by
 obtain⟨dst,op,ty,pos,aft,gd⟩:=o;simp only[aZ]at hc;split at hc
 .rename_i T parts;simp only[Wv,af]at hc;obtain⟨h1,h2⟩:=hc;split at h1
  .split at h1
   .rename_i z hz;have rz:RVs g w zs z.cells.toList zero:=RVs.consts h1;unfold Ai at h;split at h
    .rename_i vs e hr;split at h
     .rename_i cs hf;have fin:∀place,kG place ps parts.toList=true->(∀xs',Instr.fill place z.cells (parts.map λp=>(p.1,ev t p.2)).toList=some xs'->P.built T (parts.map λp=>(p.1,ev t p.2)).toList=some xs')->
        dV P g w t O ⟨e,st.hs⟩ (.agg cs) ((execOp (ev t) ⟨dst,.build T parts,ty,pos,aft,gd⟩).run P w):=by
       intro place hp hbuilt;obtain⟨Ov,O',rvs,s',l⟩:=s.rdAll (Lv hp) hr;rw[ib]at rvs;obtain⟨xs',O3,q1,q2,q3⟩:=VL (t:=t) hp rz rvs hf;have hb:=hbuilt xs' u_;refine .pure s (x:=.agg xs') ?_ (by exact⟨xs',rfl,q2⟩) s' (λb=>by grind)
       grind [execOp,Sem.run_bind,Result.andThen_ok,Sem.run_pure,run_build]
      split at h2
      .rename_i fs hu;simp only[af]at h2;obtain⟨places,p1,p2⟩:=afg h2.1;have hpl:(λi=>DU P fs i)=λi=>places.toArray[i]?:=by
        grind [DU]
       grind [Program.built]
      all_goals grind [Program.built]
     simp_all
    simp_all
   simp_all
  simp_all
 simp_all
end
abbrev aE:=@List.length_cons
abbrev fj:=@List.length_map
section
variable {P:Program}{g:Gh}{w:World}{t:E_}{O:Nat->Nat}{st st':St}{a:AV}{o:Oper}
def AJ:∀{ps:S_}{parts:List (Nat×Operand)}{k:Nat},eu k ps parts=true->dc ps (parts.map (·.2))=true∧parts.length=ps.length
 |[],[],_,_=>⟨rfl,rfl⟩
 |r::ps,(i,x)::parts,k,h=>by
  simp only[eu,af]at h;obtain⟨h1,h2⟩:=AJ h.2
  grind [dc]
 |[],_::_,_,h=>by grind [eu]
 |_::_,[],_,h=>by grind [eu]
def Uq {v:AV}{e:U_}{x:Value}{Ov:Nat->Nat}(h:kg v.cells=some e)(r:RV g w v x Ov):RVs g w v.cells x.cells.toList Ov:=by
 apply Rw _ r
 cases v with
 |agg cs=>rfl
 |_ =>
  have:=GF h
  grind [AV.cells,wx]
def NI {m:Nat}:∀{vs:D_}{xs:F_},ij m vs=some xs->xs.length=vs.length∧∀e∈xs,e.length=m
 |[],xs,h=>by grind [ij]
 |v::vs,xs,h=>by
  simp only[ij]at h;split at h
  .rename_i hb;rw[aq]at hb;split at h
   .split at h
    .rename_i es hes;obtain⟨h1,h2⟩:=NI hes
     grind [Nl]
    simp_all
   simp_all
  simp_all
def Q6 {m:Nat}:∀{ps:S_}{parts:List (Nat×Operand)}{k:Nat},eu k ps parts=true->∀{vs:D_}{xs:F_}{cs:E_}{O2:Nat->Nat},
  RVs g w vs (parts.map λp=>ev t p.2) O2->ij m vs=some xs->(k+ps.length)*m<=cs.size->
  ∃xs':E_,Instr.fill (λi=>some (i*m,m)) cs (parts.map λp=>(p.1,ev t p.2))=some xs'∧xs'.size=cs.size∧(∀j,j<k*m->xs'.toList[j]?=cs.toList[j]?)∧
   ∀(j:Nat) (d:D),xs.flatten[j]?=some d->∃u,xs'.toList[k*m+j]?=some u∧RD w g.pm d u
 |[],[],k,_,vs,xs,cs,O2,r,h,hb=>by
  cases vs<;>grind [ij,Instr.fill,RVs]
 |r::ps,(i,x)::parts,k,hc,vs,xs,cs,O2,rr,h,hb=>by
  simp only[eu,af,aq]at hc;obtain⟨⟨rfl,h2⟩,h3⟩:=hc
  cases vs with
  |nil=>grind [RVs]
  |cons v vs =>
   obtain⟨y,ys,P1,P2,e,rv,rvs,hs⟩:=rr;obtain⟨rfl,rfl⟩:=e;simp only[ij]at h;split at h
   .rename_i hbl;rw[aq]at hbl;split at h
    .rename_i e he;split at h
     .rename_i es hes;have rc:=Uq he rv;have hlc:=rc.length;simp only[f9]at hlc;simp only[aE]at hb;have hmul:(i+(ps.length+1))*m=i*m+m+ps.length*m:=d_;obtain⟨xs1,e1,e2⟩:=Ld (place:=λi=>some (i*m,m)) (rest:=parts.map λp=>(p.1,ev t p.2)) (i:=i) rfl (v:=ev t x) o_ (xs:=cs) o_;have hcl:cs.toList.length=cs.size:=f9;have hxl:(ev t x).cells.toList.length=m:=u_;have hsz1:xs1.size=cs.size:=by
       grind [tc]
      obtain⟨xs',q1,q2,q3,q4⟩:=Q6 h3 rvs hes (cs:=xs1) (by grind)
      grind [IU,iY]
     simp_all
    simp_all
   simp_all
 |[],_::_,_,hc,_,_,_,_,_,_,_=>by grind [eu]
 |_::_,[],_,hc,_,_,_,_,_,_,_=>by grind [eu]
def akG {m:Nat}{ps:S_}(s:S P g w st t O)(h:IW m ps st=some (a,st'))(hc:aZ P (.mks m ps) o.op=true) :
  dV P g w t O st' a ((execOp (ev t) o).run P w):=by
 obtain⟨dst,op,ty,pos,aft,gd⟩:=o;simp only[aZ]at hc;split at hc
 .simp only[af,aq,aU]at hc;obtain⟨⟨⟨⟨h1,h2⟩,h3⟩,h4⟩,h5⟩:=hc;subst h3;obtain⟨el,hu,hsz,hm,hby⟩:=fH h1;obtain⟨el',i,zv,hu',hi,hz,hzs⟩:=oz h2;obtain⟨hrds,hpl⟩:=AJ h5;unfold IW at h;split at h
  .rename_i vs e hr;split at h
   .rename_i xs hx;obtain⟨rfl,rfl⟩:=h;obtain⟨Ov,O',rvs,s',l⟩:=s.rdAll hrds hr;rw[ib]at rvs;have hvl:=rvs.length;simp only[fj]at hvl;obtain⟨hxl,hxm⟩:=NI hx;generalize hcs:(Array.range (ps.length*m)).map (λj=>(if ps.length*m=0 then (#[]:E_) else zv.cells)[j % (if ps.length*m=0 then (#[]:E_) else zv.cells).size]!)=cs;have hcsz:cs.size=ps.length*m:=d_;obtain⟨xs',q1,q2,q3,q4⟩:=Q6 (t:=t) (k:=0) h5 (cs:=cs) rvs hx u_;have hxp:xs.length=ps.length:=o_;refine dV.list (cap:=ps.length) (c:=xs') (el:=el) (w1:=w) s s' (λb=>by grind) (bg.refl _ _ _) rfl ?_ hm hxm o_ o_ (λj d hj=>?_)
    .rw[hxp];have hbig:¬(ps.length*m > 2 ^ 24):=o_;have hzv:=rO (P:=P) (w:=w) hi hz;by_cases h0:ps.length*m=0
     .simp only[h0,bK]at hcs;simp only[execOp,Instr.buildSlice,aB,aL hu,aS,dw hsz,h0,bK,cD,kw];rw[hcs];simp[q1,newRow]
     .simp only[execOp,Instr.buildSlice,aB,aL hu,aS,dw hsz,h0,bu,cD,kw,hbig,hzv]
      simp_all [newRow]
    simp_all
   simp_all
  simp_all
 simp_all
end
abbrev sr:=@List.forIn_cons
section
variable {P:Program}{g:Gh}{w:World}{t:E_}{O:Nat->Nat}{st st':St}{a:AV}{o:Oper}
def Dt:∀{xs:F_}{s:BA_},rV xs=some s->∃ns:C_,xs=ns.map (fun(n:Nat)=>[D.int .u8 (Int.ofNat n)])∧s=ns.map Nat.toUInt8
 |[],s,h=>by simp_all [rV]
 |x::xs,s,h=>by
  unfold rV at h;split at h
  .simp at *
  .rename_i n r e;obtain⟨rfl,rfl⟩:=e;split at h
   .rename_i s' hs;simp only[ae]at h;subst h;obtain⟨ns,rfl,rfl⟩:=Dt hs;exact⟨n::ns,rfl,rfl⟩
   simp_all
  simp_all
def TM:∀(ns:C_) (A:Array UInt8),(ns.map fun(n:Nat)=>(n:Int)).foldl (fun(r:ByteArray) (n:Int)=>r.push (UInt8.ofNat n.toNat)) ⟨A⟩=⟨A++(ns.map Nat.toUInt8).toArray⟩
 |[],A=>by simp
 |n::ns,A=>by
  simp only[cT,List.foldl_cons];have:(ByteArray.mk A).push (UInt8.ofNat ((n:Int).toNat))=⟨A.push (Nat.toUInt8 n)⟩:=by simp[ByteArray.push,Nat.toUInt8]
  rw[this,TM ns]
  simp_all
theorem Rl (ns:C_):(ns.map (fun(n:Nat)=>[D.int .u8 (Int.ofNat n)])).flatten=ns.map fun(n:Nat)=>D.int .u8 (Int.ofNat n):=by
 induction ns<;>simp_all
def ahh {x:Rd}(s:S P g w st t O)(h:Gv x st=some (a,st'))(hc:aZ P (.toStr x) o.op=true) :
  dV P g w t O st' a ((execOp (ev t) o).run P w):=by
 simp only[aZ]at hc;split at hc
 .simp only[af]at hc;obtain⟨⟨h1,h2⟩,h3⟩:=hc;obtain⟨v,e,hr,hk⟩:=LC h;obtain⟨Ov,O',rv,s',l⟩:=s.rd h3 hr;split at hk
  .rename_i xs hxs;split at hk
   .rename_i b hb;obtain⟨rfl,rfl⟩:=hk;obtain⟨ns,rfl,rfl⟩:=Dt hb;have hl1:∀e∈ns.map (fun(n:Nat)=>[D.int .u8 (Int.ofNat n)]),e.length=1:=by
     simp_all
    have hfl:(ns.map (fun(n:Nat)=>[D.int .u8 (Int.ofNat n)])).flatten=ns.map fun(n:Nat)=>D.int .u8 (Int.ofNat n):=by
     exact Rl ns
    obtain⟨ad,cap,news,hxv,hels⟩:=xo (st:=⟨e,st.hs⟩) s' hxs hl1 rv;have hnews:news=ns.map fun(n:Nat)=>Value.int .u8 (n:Int):=by
     apply dz;intro j;rcases bH j ns.length with hj|hj
     .have hd:(ns.map (fun(n:Nat)=>[D.int .u8 (Int.ofNat n)])).flatten[j]?=some (D.int .u8 (Int.ofNat ns[j])):=u_;obtain⟨u,hu,hr⟩:=hels.rd j _ hd
      cases hr
      simp_all
     grind [yl.len]
    simp only[II]at h1;simp only[aaY]at h2;split at h1
    .split at h2
     .split at h2
      .refine .flat s (x:=.string ⟨(ns.map Nat.toUInt8).toArray⟩) ?_ (by simp only[RV];exact⟨.str _,λ_=>trivial⟩) s' (S.le_left l);have hrun:(Conv.bytesToString (.slice ad (ns.map (fun(n:Nat)=>[D.int .u8 (Int.ofNat n)])).length cap)).run P w=.ok (.string ⟨(ns.map Nat.toUInt8).toArray⟩) w:=by
        cases ad with
        |none =>
         have h0:=hels.nn rfl;have:ns=[]:=bc u_;subst this;rfl
        |some ad =>
         have hcell:=run_loadCells_list (P:=P) w ad news (hels.cell ad rfl);have hlen:news.length=(ns.map (fun(n:Nat)=>[D.int .u8 (Int.ofNat n)])).length:=u_;rw[hlen]at hcell;have hm:news=(ns.map fun(n:Nat)=>(n:Int)).map (Value.int .u8):=u_;rw[hm]at hcell;rw[run_bytesToString w ad _ cap (ns.map fun(n:Nat)=>(n:Int)) hcell];have:=TM ns #[];simp only[Array.empty_append]at this;exact aX (λz=>Result.ok (Value.string z) w) this
       grind [execOp,Sem.run_bind,Result.andThen_ok,Sem.run_pure,run_convert_bytes_string]
      simp_all
     simp_all
    simp_all
   simp_all
  simp_all
 simp_all
def yY {ty:TypeId}(h:EU P ty=true){cs:E_}{off:Nat}{x:Value}(hx:cs.toList[off]?=some x):(part ty cs off).run P w=.ok x w:=by
 simp_all [part,zn]
def PX {ty:TypeId}{k:Bool}(hk:(match k with|true=>EL P ty|false=>GB P ty)=true){u v:AV}{x y:Value}{Ou Ov:Nat->Nat}(ru:RV g w u x Ou)(rv:RV g w v y Ov)
  {r s:D_}{ks:AA_}{tt:Bool}(h:aW (k::ks) (u::r) (v::s)=some tt)(d:Nat) :
  ∃b,(Op.equalIn (d+1) ty x y).run P w=.ok b w∧((b=true∧aW ks r s=some tt)∨(b=false∧tt=false)):=by
 cases k with
 |true =>
  cases u<;>try (simp[aW]at h;done)
  rename_i du
  cases du<;>try (simp[aW]at h;done)
  rename_i k a
  cases v<;>try (simp[aW]at h;done)
  rename_i dv
  cases dv<;>try (simp[aW]at h;done)
  rename_i j b;simp only[aW]at h;split at h
  .rename_i hkj;have:=Bi hkj;subst this;have hx:=wp ru rfl;have hy:=wp rv rfl;subst hx hy;simp only[EL]at hk;split at hk
   .rename_i kk hu;refine⟨a == b,?_,?_⟩
    .unfold Op.equalIn;rw[aB,aL hu];simp
    grind
   simp_all
  simp_all
 |false =>
  cases u<;>try (simp[aW]at h;done)
  rename_i du
  cases du<;>try (simp[aW]at h;done)
  rename_i a
  cases v<;>try (simp[aW]at h;done)
  rename_i dv
  cases dv<;>try (simp[aW]at h;done)
  rename_i b;simp only[aW]at h;have hx:=xk ru rfl;have hy:=xk rv rfl;subst hx hy;simp only[GB]at hk;split at hk
  .rename_i hu;refine⟨a == b,DT hu d a b,?_⟩
   grind
  simp_all
def QO {xs ys:E_}{d:Nat}:∀{fs:List Field}{ks:AA_}{n:Nat}{r s:D_}{tt:Bool}{O1 O2:Nat->Nat},D3 P ks fs n=true->
  RVs g w r (xs.toList.drop n) O1->RVs g w s (ys.toList.drop n) O2->aW ks r s=some tt->∀{f:Field->AH_×Unit->Sem (ForInStep (AH_×Unit))},
  (∀(fd:Field) (q:AH_×Unit),(fd.name != "_")=true->∀x y b,(part fd.type xs fd.offset).run P w=.ok x w->(part fd.type ys fd.offset).run P w=.ok y w->
   (Op.equalIn (d+1) fd.type x y).run P w=.ok b w->(f fd q).run P w=.ok (if b=true then .yield (none,()) else .done (some false,())) w)->
  (forIn fs ((none,()):AH_×Unit) f).run P w=.ok (if tt=true then (none,()) else (some false,())) w
 |[],[],n,r,s,tt,O1,O2,_,r1,r2,h,f,_=>by
  cases r with
  |nil=>cases s<;>simp_all [aW]
  |cons=>grind [aW]
 |fd::fs,k::ks,n,r,s,tt,O1,O2,hf,r1,r2,h,f,hstep=>by
  simp only[D3,af,aq]at hf;obtain⟨⟨⟨⟨h1,h2⟩,h3⟩,h4⟩,h5⟩:=hf
  cases r with
  |nil=>grind [aW]
  |cons u r =>
   cases s with
   |nil=>grind [aW]
   |cons v s =>
    obtain⟨x,xs',P1,P2,e1,ru,rr,_⟩:=r1;obtain⟨y,ys',Q1,Q2,e2,rv,rs,_⟩:=r2;obtain⟨b,hb,hcase⟩:=PX h3 ru rv h d;have hx:xs.toList[n]?=some x:=by have:=aX (λl=>l[0]?) e1;grind
    have hy:ys.toList[n]?=some y:=by have:=aX (λl=>l[0]?) e2;grind
    have ex:xs.toList.drop (n+1)=xs':=by have:=aX (λl=>l.drop 1) e1;grind [List.drop_drop]
    have ey:ys.toList.drop (n+1)=ys':=by have:=aX (λl=>l.drop 1) e2;grind [List.drop_drop]
    have hs:=hstep fd (none,()) h2 x y b (yY h4 u_) (yY h4 u_) hb;rw[sr,aB,hs];rcases hcase with ⟨rfl,hc⟩|⟨rfl,rfl⟩
    .exact QO h5 (by rw[ex];exact rr) (by rw[ey];exact rs) hc hstep
    .simp
 |[],_::_,_,_,_,_,_,_,hf,_,_,_,_,_=>by simp[D3]at hf
 |_::_,[],_,_,_,_,_,_,hf,_,_,_,_,_=>by simp[D3]at hf
def RH {k:Bool}{ks:AA_}{r s:D_}{tt:Bool}(h:aW (k::ks) r s=some tt):∃u r' v s',r=u::r'∧s=v::s'∧
  (((∀ks' r'' s'',aW (k::ks') (u::r'') (v::s'')=aW ks' r'' s'')∧aW ks r' s'=some tt)∨((∀ks' r'' s'',aW (k::ks') (u::r'') (v::s'')=some false)∧tt=false)):=by
 cases r with
 |nil=>grind [aW]
 |cons u r =>
  cases s with
  |nil=>grind [aW]
  |cons v s =>
   refine⟨u,r,v,s,rfl,rfl,?_⟩
   cases k with
   |true =>
    cases u<;>try (simp[aW]at h;done)
    rename_i du
    cases du<;>try (simp[aW]at h;done)
    cases v<;>try (simp[aW]at h;done)
    rename_i dv
    cases dv<;>try (simp[aW]at h;done)
    grind [aW]
   |false =>
    cases u<;>try (simp[aW]at h;done)
    rename_i du
    cases du<;>try (simp[aW]at h;done)
    cases v<;>try (simp[aW]at h;done)
    rename_i dv
    cases dv<;>try (simp[aW]at h;done)
    grind [aW]
def ET:∀(k1:AA_) {k2:AA_}{r s:D_}{tt:Bool},aW (k1++k2) r s=some tt->
  ∃b,aW k1 (r.take k1.length) (s.take k1.length)=some b∧((b=true∧aW k2 (r.drop k1.length) (s.drop k1.length)=some tt)∨(b=false∧tt=false))
 |[],_,_,_,_,h=>⟨true,by simp[aW],.inl ⟨rfl,u_⟩⟩
 |k::k1,k2,r,s,tt,h=>by
  obtain⟨u,r',v,s',rfl,rfl,hc⟩:=RH h;rcases hc with ⟨h1,h2⟩|⟨h1,h2⟩
  .obtain⟨b,hb,hc⟩:=ET k1 h2
   simp_all
  simp_all
theorem SI {ty:TypeId}{ks:AA_}{fs:Array Field}(hu:P.underlying ty=some (.struct fs))(h1:D3 P ks fs.toList 0=true)(h2:P.stoodInHeld ty=false){cs ds:D_}{xs ys:E_}{O1 O2:Nat->Nat}(r1:RVs g w cs xs.toList O1)(r2:RVs g w ds ys.toList O2)
  {tt:Bool}(h:aW ks cs ds=some tt)(d:Nat):(Op.equalIn (d+1+1) ty (.agg xs) (.agg ys)).run P w=.ok tt w:=by
 rw[Op.equalIn,aB,aL hu];simp only[aS,aB,run_program,h2,al,bu,<-Array.forIn_toList];rw[QO (f:=_) (d:=d) h1 (by simpa using r1) (by simpa using r2) h (λfd q hn x y b hx hy hb=>by
  have hn':¬fd.name = "_" := by simp_all
  simp only[ne_eq,hn',not_false_eq_true,bK,aB,hx,hy,aS,hb]
  cases b<;>simp)]
 cases tt<;>simp
def KY {ty:TypeId}{fs:Array Field}{n:Nat}(hu:P.underlying ty=some (.struct fs))(hs:tw P ty n=true){xs:E_}{off:Nat}:(part ty xs off).run P w=.ok (.agg (xs.extract off (off+n))) w:=by
 have:yQ P ty=true:=by simp[yQ,hu]
 simp[part,ut this,dw hs]
def Od {xs ys:E_}{d:Nat}:∀{fs:List Field}{ks:AA_}{n:Nat}{r s:D_}{tt:Bool}{O1 O2:Nat->Nat},Gr P ks fs n=true->
  RVs g w r (xs.toList.drop n) O1->RVs g w s (ys.toList.drop n) O2->aW ks r s=some tt->∀{f:Field->AH_×Unit->Sem (ForInStep (AH_×Unit))},
  (∀(fd:Field) (q:AH_×Unit),(fd.name != "_")=true->∀x y b,(part fd.type xs fd.offset).run P w=.ok x w->(part fd.type ys fd.offset).run P w=.ok y w->
   (Op.equalIn (d+1+1) fd.type x y).run P w=.ok b w->(f fd q).run P w=.ok (if b=true then .yield (none,()) else .done (some false,())) w)->
  (forIn fs ((none,()):AH_×Unit) f).run P w=.ok (if tt=true then (none,()) else (some false,())) w
 |[],[],n,r,s,tt,O1,O2,_,r1,r2,h,f,_=>by
  cases r with
  |nil=>cases s<;>simp_all [aW]
  |cons=>grind [aW]
 |[],_::_,_,_,_,_,_,_,hf,_,_,_,_,_=>by simp[Gr]at hf
 |fd::fs,ks,n,r,s,tt,O1,O2,hf,r1,r2,h,f,hstep=>by
  unfold Gr at hf;simp only[af,aq]at hf;obtain⟨⟨h1,h2⟩,hf⟩:=hf;split at hf
  .rename_i f2 hu;simp only[af,aU,bQ]at hf;obtain⟨⟨⟨⟨h3,h4⟩,h5⟩,h6⟩,h7⟩:=hf;have hlen:(ks.take f2.size).length=f2.size:=u_;rw[<-bM f2.size ks]at h;obtain⟨b,hb,hcase⟩:=ET _ h;rw[hlen]at hb hcase;obtain⟨P1,ru,_⟩:=r1.sub 0 f2.size;obtain⟨P2,rr,_⟩:=r1.sub f2.size r.length;obtain⟨Q1,rv,_⟩:=r2.sub 0 f2.size;obtain⟨Q2,rs,_⟩:=r2.sub f2.size s.length;have ea:∀zs:E_,(zs.extract n (n+f2.size)).toList=((zs.toList.drop n).drop 0).take f2.size:=λzs=>by simp_all
   have hs:=hstep fd (none,()) h2 _ _ b (KY hu h6) (KY hu h6) (by
    grind [SI,sub])
   rw[sr,aB,hs];rcases hcase with ⟨rfl,hc⟩|⟨rfl,rfl⟩
   .simp only[bK,aS];have l1:r.length=(xs.toList.drop n).length:=r1.length.symm;have l2:s.length=(ys.toList.drop n).length:=r2.length.symm;have er:Vm.sub r f2.size r.length=r.drop f2.size:=by simp_all [sub,bw]
    have es:Vm.sub s f2.size s.length=s.drop f2.size:=by simp_all [sub,bw]
    have ex:((xs.toList.drop n).drop f2.size).take r.length=xs.toList.drop (n+f2.size):=by grind [List.take_of_length_le,List.drop_drop]
    have ey:((ys.toList.drop n).drop f2.size).take s.length=ys.toList.drop (n+f2.size):=by grind [List.take_of_length_le,List.drop_drop]
    rw[er,ex]at rr;rw[es,ey]at rs;exact Od h7 rr rs hc hstep
   .simp
  .cases ks with
   |nil=>simp at hf
   |cons k ks =>
    simp only[af]at hf;obtain⟨⟨h3,h4⟩,h5⟩:=hf
    cases r with
    |nil=>grind [aW]
    |cons u r =>
     cases s with
     |nil=>grind [aW]
     |cons v s =>
      obtain⟨x,xs',P1,P2,e1,ru,rr,_⟩:=r1;obtain⟨y,ys',Q1,Q2,e2,rv,rs,_⟩:=r2;obtain⟨b,hb,hcase⟩:=PX h3 ru rv h (d+1);have hx:xs.toList[n]?=some x:=by have:=aX (λl=>l[0]?) e1;grind
      have hy:ys.toList[n]?=some y:=by have:=aX (λl=>l[0]?) e2;grind
      have ex:xs.toList.drop (n+1)=xs':=by have:=aX (λl=>l.drop 1) e1;grind [List.drop_drop]
      have ey:ys.toList.drop (n+1)=ys':=by have:=aX (λl=>l.drop 1) e2;grind [List.drop_drop]
      have hs:=hstep fd (none,()) h2 x y b (yY h4 u_) (yY h4 u_) hb;rw[sr,aB,hs];rcases hcase with ⟨rfl,hc⟩|⟨rfl,rfl⟩
      .exact Od h5 (by rw[ex];exact rr) (by rw[ey];exact rs) hc hstep
      .simp
def OI {ty:TypeId}{ks:AA_}(ht:wF P ty ks=true){cs ds:D_}{xs ys:E_}{O1 O2:Nat->Nat}(r1:RVs g w cs xs.toList O1)(r2:RVs g w ds ys.toList O2)
  {tt:Bool}(h:aW ks cs ds=some tt):(Op.equal ty (.agg xs) (.agg ys)).run P w=.ok tt w:=by
 unfold wF at ht;split at ht
 .rename_i fs hu;simp only[af,bQ]at ht;obtain⟨⟨h1,h2⟩,h3⟩:=ht;show(Op.equalIn (9997+1+1+1) ty (.agg xs) (.agg ys)).run P w=_;rw[Op.equalIn,aB,aL hu];simp only[aS,aB,run_program,h2,al,bu,<-Array.forIn_toList];rw[Od (f:=_) (d:=9997) h1 (by simpa using r1) (by simpa using r2) h (λfd q hn x y b hx hy hb=>by
   have hn':¬fd.name = "_" := by simp_all
   simp only[ne_eq,hn',not_false_eq_true,bK,aB,hx,hy,aS,hb]
   cases b<;>simp)]
  cases tt<;>simp
 simp_all
def akz {neg:Bool}{ks:AA_}{x y:Rd}(s:S P g w st t O)(h:Gg neg ks x y st=some (a,st'))(hc:aZ P (.bina neg ks x y) o.op=true) :
  dV P g w t O st' a ((execOp (ev t) o).run P w):=by
 obtain⟨dst,opp,ty,pos,aft,gd⟩:=o;simp only[aZ]at hc;split at hc
 .rename_i op' ty' x' y' yt;simp only[af,SY,decide_eq_true_eq]at hc;obtain⟨⟨⟨h0,hb⟩,h1⟩,h2⟩:=hc;obtain⟨va,vb,e,Oa,Ob,O',ra,rb,s',l,hk⟩:=LK s h1 h2 h;split at hk
  .split at hk
   .rename_i tt htt;obtain⟨rfl,rfl⟩:=hk;obtain⟨xs,hx,r1⟩:=ra;obtain⟨ys,hy,r2⟩:=rb;have heq:=OI hb r1 r2 htt;have hgt:P.eqGuardType P.depth ty'=false:=by
     grind [wF]
    refine .flat s (x:=_) ?_ (C8 _) s' λb=>by grind
    have hg:∀op,(eqGuard op ty' x' y' (.agg xs) (.agg ys)).run P w=.ok () w:=by
     simp_all [eqGuard]
    have hbin:(binOp (match neg with|true=>.neq|false=>.eql) ty' (.agg xs) (.agg ys)).run P w=.ok (.bool (match neg with|true=>!tt|false=>tt)) w:=by
     cases neg
     .show((do pure (.bool (<-Op.equal ty' (.agg xs) (.agg ys))):Sem Value)).run P w=_
      simp_all
     .show((do pure (.bool (!(<-Op.equal ty' (.agg xs) (.agg ys)))):Sem Value)).run P w=_
      simp_all
    simp only[execOp,hx,hy]
    cases neg
    all_goals simp_all
   simp_all
  simp_all
 simp_all
end
abbrev ie:=@List.flatMap_cons
abbrev dt:=@List.mem_map
section
variable {P:Program}{g:Gh}{w:World}{t:E_}{O:Nat->Nat}{st st':St}{a:AV}{o:Oper}
def RVs.flat:∀{vs:D_}{xs:M_}{O1:Nat->Nat},RVs g w vs xs O1->(vs.all λv=>Nat.beq v.cells.length 1 && v.cells.all b9)=true->
  RVs g w (vs.flatMap AV.cells) (xs.flatMap λx=>x.cells.toList) O1∧∀x∈xs,x.cells.toList.length=1
 |[],xs,O1,r,_=>by
  grind [RVs]
 |v::vs,xs,O1,r,h=>by
  obtain⟨x,s,P1,P2,rfl,rv,rvs,hs⟩:=r;simp only[fg,af,aq]at h;obtain⟨h1,h2⟩:=rvs.flat d_;have rc:=rv.cells h.1.2;refine⟨?_,λy hy=>?_⟩
  .have hO:O1=λb=>P1 b+P2 b:=funext hs
   grind [join]
  grind [length]
def ahP:∀{ps:S_}{parts:List (Nat×Operand)}{k:Nat},eu k ps parts=true->∀{cs:E_},(∀p∈parts,(ev t p.2).cells.toList.length=1)->k+parts.length<=cs.size->
  ∃xs':E_,Instr.fill (λi=>some (i*1,1)) cs (parts.map λp=>(p.1,ev t p.2))=some xs'∧xs'.size=cs.size∧(∀j,j<k->xs'.toList[j]?=cs.toList[j]?)∧
   ∀j,j<parts.length->xs'.toList[k+j]?=(parts.flatMap λp=>(ev t p.2).cells.toList)[j]?
 |[],[],k,_,cs,_,hb=>⟨cs,by simp[Instr.fill],rfl,λ_ _=>rfl,λj hj=>by simp at hj⟩
 |r::ps,(i,x)::parts,k,hc,cs,h1,hb=>by
  simp only[eu,af,aq]at hc;obtain⟨⟨rfl,h2⟩,h3⟩:=hc;have hb:i+(parts.length+1)<=cs.size:=hb;have hx:(ev t x).cells.toList.length=1:=h1 _ (.head _);obtain⟨xs1,e1,e2⟩:=Ld (place:=λi=>some (i*1,1)) (rest:=parts.map λp=>(p.1,ev t p.2)) (i:=i) rfl (v:=ev t x) o_ (xs:=cs) o_;have hsz1:xs1.size=cs.size:=by
   grind [tc]
  obtain⟨xs',q1,q2,q3,q4⟩:=ahP h3 (cs:=xs1) (λp hp=>h1 p (.tail _ hp)) (by omega)
  grind [iY]
 |[],_::_,_,hc,_,_,_=>by grind [eu]
 |_::_,[],_,hc,_,_,_=>by grind [eu]
def XC {α β:Type}{f:α->List β}:∀{l:List α},(∀x∈l,(f x).length=1)->(l.flatMap f).length=l.length
 |[],_=>rfl
 |x::l,h=>by
  rw[ie,bt,h x (.head _),XC λy hy=>h y (.tail _ hy),aE];omega
def aku {m:Nat}{ps:S_}(s:S P g w st t O)(h:QL m ps st=some (a,st'))(hc:aZ P (.mksv m ps) o.op=true) :
  dV P g w t O st' a ((execOp (ev t) o).run P w):=by
 obtain⟨dst,op,ty,pos,aft,gd⟩:=o;simp only[aZ]at hc;split at hc
 .rename_i T len parts;simp only[af,aq,aU,Nat.blt_eq]at hc;obtain⟨⟨⟨⟨⟨⟨rfl,h1⟩,h2⟩,h3⟩,h4⟩,h0⟩,h5⟩:=hc;subst h3;obtain⟨el,hu,hsz,hm,hby⟩:=fH h1;obtain⟨el',i,zv,hu',hi,hz,hzs⟩:=oz h2;rw[hu]at hu';simp only[ae,fM]at hu';subst hu';obtain⟨hrds,hpl⟩:=AJ h5;unfold QL at h;split at h
  .rename_i vs e hr;split at h
   .rename_i hall;simp only[ae,aJ]at h;obtain⟨rfl,rfl⟩:=h;obtain⟨Ov,O',rvs,s',l⟩:=s.rdAll hrds hr;rw[ib]at rvs;have hvl:=rvs.length;simp only[fj]at hvl;obtain⟨rf,hone⟩:=rvs.flat hall;have hplt:parts.toList.length=ps.length:=hpl;generalize hcs:(Array.range (ps.length*1)).map (λj=>(if ps.length*1=0 then (#[]:E_) else zv.cells)[j % (if ps.length*1=0 then (#[]:E_) else zv.cells).size]!)=cs;have hcsz:cs.size=ps.length:=d_;have hone':∀p∈parts.toList,(ev t p.2).cells.toList.length=1:=λp hp=>hone _ (dt.2 ⟨p,hp,rfl⟩)
    obtain⟨xs',q1,q2,q3,q4⟩:=ahP (t:=t) (k:=0) h5 (cs:=cs) hone' o_;have hfl:=XC (f:=λp:Nat×Operand=>(ev t p.2).cells.toList) hone';have hxs:xs'.toList=parts.toList.flatMap λp=>(ev t p.2).cells.toList:=by
     refine dz λj=>?_
     grind
    have rvx:RVs g w (vs.flatMap AV.cells) xs'.toList Ov:=by
     grind [List.flatMap_map]
    have hcl:(vs.flatMap AV.cells).length=vs.length:=by grind [RVs.length]
    have hn:=s'.fresh st.hs.next (ai _)
    have hO:∀b,w.heap.size<=b->O b=0:=by
     intro b hb;by_cases h:O b=0
     .exact h
     .have:=s.hi b h;omega
    have hx0:bg g w (g.add st.hs.next w.heap.size 0 1 (vs.flatMap AV.cells).length) (w.alloc (.cells xs' el)) (λ_=>False):=(bg.alloc s.pmlt _ _).add hn _ _ _ _;have r:iF P (g.add st.hs.next w.heap.size 0 1 (vs.flatMap AV.cells).length) (w.alloc (.cells xs' el)) st.hs.next (.cells (vs.flatMap AV.cells)) (λx=>Ov x+one w.heap.size x):=by
     refine⟨w.heap.size,xs',el,Ov,by simp[Gh.add],by simp[Gh.add],by simp[Gh.add],by simp[Gh.add],im _ _,RVs.ext hx0 _ _ _ rvx s_,λo ho=>?_,λ_=>rfl⟩;have:=s.pmlt _ o ho;omega
    have key:∀b,Ov b+one w.heap.size b+O' b<=1:=by
     intro b;by_cases hb:b=w.heap.size
     .have:=l w.heap.size;simp_all
     .have:=s.le b;grind [one]
    obtain⟨s2,hx⟩:=s'.new r (λb=>key b) (λb hb=>by
     grind [tx])
    refine⟨.slice (some ⟨w.heap.size,0,none⟩) ps.length ps.length,_,_,zero,_,.inl ?_,?_,s2,hx.mono λb _ hb=>by grind,λb=>by simp_all,λb hb=>?_,s_⟩
    .have hbig:¬(ps.length*1 > 2 ^ 24):=o_;have hne:¬(ps.length*1=0):=o_;have hzv:=rO (P:=P) (w:=w) hi hz;simp only[execOp,Instr.buildSlice,aB,aL hu,aS,dw hsz,hne,bu,cD,kw,hbig,hzv]
     simp_all [newRow]
    .simp_all [RV,Gh.add]
    grind [one]
   simp_all
  simp_all
 simp_all
def agH {n:Nat}{x:Rd}{lo hi mx:Y_}(s:S P g w st t O)(h:L7 n x lo hi mx st=some (a,st'))(hc:aZ P (.slarr n x lo hi mx) o.op=true) :
  dV P g w t O st' a ((execOp (ev t) o).run P w):=by
 obtain⟨dst,op,ty,pos,aft,gd⟩:=o;simp only[aZ]at hc;split at hc
 .rename_i ty' y l' h' k';simp only[af]at hc;obtain⟨⟨⟨⟨h1,h2⟩,h3⟩,h4⟩,h5⟩:=hc;have hty:∃el,P.underlying ty'=some (.array n el)∧tw P el 1=true:=by
   grind [MG,Nat.beq_eq]
  obtain⟨el,hu,hsz⟩:=hty;unfold L7 at h;split at h
  .rename_i id off e1 r1;obtain⟨Ov,O1,rv,s1,l1⟩:=s.rd h2 r1;split at h
   .rename_i vl e2 r2;obtain⟨O2,q2,s2,l2⟩:=s1.rdOpt h3 r2;split at h
    .rename_i vh e3 r3;obtain⟨O3,q3,s3,l3⟩:=s2.rdOpt h4 r3;split at h
     .rename_i vm e4 r4;obtain⟨O4,q4,s4,l4⟩:=s3.rdOpt h5 r4;split at h
      .rename_i r hr;simp only[ae,aJ]at h;obtain⟨rfl,rfl⟩:=h;have hle:∀b,Ov b+O4 b<=O b:=λb=>by grind
       unfold Mf at hr;split at hr
       .rename_i cs hg;split at hr
        .rename_i hle2;split at hr
         .rename_i l hh mm hb;simp only[ae]at hr;subst hr;have hb1:=cN hle2;obtain⟨Oe,Oh,re,rh,ho⟩:=s.parts;obtain⟨Oq,q,_⟩:=RL.get rh hg;obtain⟨b,c,el2,O5,hob,hbase,hesz,hbsz,_⟩:=q;obtain⟨⟨b',hob',hx⟩,_⟩:=rv;rw[hob]at hob';simp only[ae]at hob';subst hob';obtain⟨m',e1,g1,g2,g3,g4⟩:=Qj (P:=P) (w:=w) (b:=false) q2 q3 q4 (ai n) hb;refine .pure s (x:=.slice (some (if m'=l then ⟨b,g.base id+off,none⟩ else (⟨b,g.base id+off,none⟩:Addr).add (l*1))) (hh-l) (m'-l)) (Oa:=zero) ?_ ?_ s4 λx=>by simp_all
          .simp only[execOp,aB,Instr.sliceAt,aL hu,aS,hx,Instr.sureAddr,cD,e1,dw hsz]
          .simp only[RV];refine⟨?_,λ_=>trivial⟩;by_cases hml:m'=l
           .simp_all
           .refine .inr ⟨b,m'-l,hob,?_,o_,?_⟩
            all_goals grind [jJ]
         simp_all
        simp_all
       simp_all
      simp_all
     simp_all
    simp_all
   simp_all
  simp_all
 simp_all
end
section
variable {P:Program}{g:Gh}{w:World}{t:E_}{O:Nat->Nat}{st st':St}{a:AV}{o:Oper}
def ag8:(Extern.findNext { (default:Func) with name := "internal/bytealg.IndexByte",origin := "" }).isNone=true:=by kernel_rfl
def agG {fn:Func}(h1:fn.name = "internal/bytealg.IndexByte")(h2:fn.origin = ""):Extern.findNext fn=none:=by
 have h:=ag8;unfold Extern.findNext at h⊢;have e:(List.lookup "internal/bytealg.IndexByte" Extern.allNextRows)=none:=by
  cases e:(List.lookup "internal/bytealg.IndexByte" Extern.allNextRows)<;>simp_all
 have e2:(List.lookup "" Extern.allNextRows)=none:=by
  cases e2:(List.lookup "" Extern.allNextRows)<;>simp_all
 grind
def ahz {fn:Func}(h1:fn.name = "internal/bytealg.IndexByte"):Extern.find fn=some Extern.BytealgIndexByte.indexByte:=by
 unfold Extern.find;have e1:(List.lookup "internal/bytealg.IndexByte" Extern.allGenericRows).isNone=true:=by kernel_rfl
 have e2:(List.lookup "internal/bytealg.IndexByte" Extern.allTypedRows).isNone=true:=by kernel_rfl
 have e3:List.lookup "internal/bytealg.IndexByte" Extern.allRows=some Extern.BytealgIndexByte.indexByte:=by kernel_rfl
 grind [Option.isNone_iff_eq_none]
def WZ:∀(l:BA_) (c:UInt8) (i:Nat),E2 l c.toNat i=if Lib.indexByte l c == -1 then -1 else Lib.indexByte l c+i
 |[],c,i=>by simp[E2,Lib.indexByte]
 |b::l,c,i=>by
  have hp:Lib.indexByte l c=-1∨0<=Lib.indexByte l c:=by
   induction l<;>grind [Lib.indexByte]
  simp only[E2,Lib.indexByte];by_cases h:b=c
  .simp_all
  .have hn:Nat.beq b.toNat c.toNat=false:=by
    grind [Nat.beq_eq,UInt8.toNat_inj]
   rw[WZ l c (i+1)]
   grind
theorem UU (ad:Addr)(cap:Nat)(ns:C_)(cv:Int)(hc:∀j u,(ns.map fun(n:Nat)=>Value.int .u8 (n:Int))[j]?=some u->w.cell? (ad.add j)=some u) :
  (Extern.BytealgIndexByte.indexByte #[.slice (some ad) ns.length cap,.int .u8 cv]).run P w=.ok (.int .i64 (Lib.indexByte (Lib.bytesOf (ns.map fun(n:Nat)=>(n:Int))) cv.toNat.toUInt8)) w:=by
 generalize hxs:ns.map (fun(n:Nat)=>(n:Int))=xs;have hl:=Lib.run_loadBytesX (P:=P) w xs ad .empty (λj x hj=>hc j _ (by
  grind))
 have hs:=Lib.run_indexByteString (P:=P) ⟨(Lib.bytesOf xs).toArray⟩ cv w;have he:(⟨ByteArray.empty.data++(Lib.bytesOf xs).toArray⟩:ByteArray)=⟨(Lib.bytesOf xs).toArray⟩:=by
  simp_all
 change Sem.run P (do
  let b<-Extern.Bytes.bytesOf (.slice (some ad) ns.length cap)
  let c<-Extern.Bytes.asByte (.int .u8 cv)
  match (List.range b.size).find? λi=>b[i]! == c with
  |some i=>pure (goInt i)
  |none=>pure (goInt (-1))) w=_
 change Sem.run P (do
  let b<-Extern.Bytes.bytesOf (.string ⟨(Lib.bytesOf xs).toArray⟩)
  let c<-Extern.Bytes.asByte (.int .u8 cv)
  match (List.range b.size).find? λi=>b[i]! == c with
  |some i=>pure (goInt i)
  |none=>pure (goInt (-1))) w=_ at hs
 grind [Extern.Bytes.bytesOf,Sem.run_bind,Result.andThen]
def ai2 {x c:Rd}(s:S P g w st t O)(h:Wp x c st=some (a,st'))(hc:aZ P (.idxb x c) o.op=true) :
  dV P g w t O st' a ((execOp (ev t) o).run P w):=by
 obtain⟨dst,op,ty,pos,aft,gd⟩:=o;simp only[aZ]at hc;split at hc
 .rename_i k;obtain⟨callee,as,ats⟩:=k;simp only[af]at hc;obtain⟨h1,h2⟩:=hc;split at h1
  .rename_i f hf;have hcal:callee=.value (.func f):=by
    unfold w6 at hf
    grind
   subst hcal;unfold aeN at h1;split at h1
   .rename_i fn hfn;simp only[af,beq_iff_eq]at h1;obtain⟨⟨hn1,hn2⟩,hn3⟩:=h1;obtain⟨x',c',has,hx,hcc⟩:∃x' c',as.toList=[x',c']∧bO x x'=true∧bO c c'=true:=by
     revert h2
     cases as.toList with
     |nil=>grind [dc]
     |cons x' l=>cases l<;>grind [dc]
    have has':as=#[x',c']:=Array.ext' has;obtain⟨va,vb,e,Oa,Ob,O',ra,rb,s',l,hk⟩:=LK s hx hcc h;split at hk
    .rename_i r hr;obtain⟨rfl,rfl⟩:=hk;unfold ago at hr;split at hr
     .rename_i n;split at hr
      .rename_i xs hxs;split at hr
       .rename_i q hq;simp only[ae]at hr;subst hr;unfold indexByte at hq;split at hq
        .rename_i b hb;simp only[ae]at hq;subst hq;obtain⟨ns,rfl,rfl⟩:=Dt hb;have hl1:∀e∈ns.map (fun(n:Nat)=>[D.int .u8 (Int.ofNat n)]),e.length=1:=by
          simp_all
         obtain⟨ad,cap,news,hxv,hels⟩:=xo (st:=⟨e,st.hs⟩) s' hxs hl1 ra;have hcv:=wp rb rfl;have hargs:#[ev t x',ev t c']=#[Value.slice ad (ns.map (fun(n:Nat)=>[D.int .u8 (Int.ofNat n)])).length cap,.int .u8 n]:=u_;have hres:E2 (ns.map Nat.toUInt8) (n.toNat % 256) 0=Lib.indexByte (Lib.bytesOf (ns.map fun(n:Nat)=>(n:Int))) n.toNat.toUInt8:=by
          have h1:n.toNat % 256=(n.toNat.toUInt8).toNat:=s_;rw[h1,WZ];have h2:Lib.bytesOf (ns.map fun(n:Nat)=>(n:Int))=ns.map Nat.toUInt8:=by
           simp[Lib.bytesOf]
          grind
         have hrun:(Extern.BytealgIndexByte.indexByte #[ev t x',ev t c']).run P w=.ok (.int .i64 (E2 (ns.map Nat.toUInt8) (n.toNat % 256) 0)) w:=by
          rw[hargs,hres]
          cases ad with
          |none =>
           have h0:=hels.nn rfl;have:ns=[]:=bc u_;subst this;exact Lib.run_indexByteNil w _ _ _
          |some ad =>
           have hnews:news=ns.map fun(n:Nat)=>Value.int .u8 (n:Int):=by
            apply dz;intro j;rcases bH j ns.length with hj|hj
            .have hd:(ns.map (fun(n:Nat)=>[D.int .u8 (Int.ofNat n)])).flatten[j]?=some (D.int .u8 (Int.ofNat ns[j])):=by grind [Rl]
             obtain⟨u,hu,hr⟩:=hels.rd j _ hd
             cases hr
             simp_all
            grind [yl.len]
           grind [UU,yl.cell]
         refine .flat s (x:=.int .i64 (E2 (ns.map Nat.toUInt8) (n.toNat % 256) 0)) ?_ (by simp only[RV];exact⟨.int _ _,λ_=>trivial⟩) s' λb=>by grind
         simp only[execOp,resolve,aB,ev,Deferred.ofValue,cD,aS,invoke]
         simp_all [run_callFunc_extern,agG,ahz]
        simp_all
       simp_all
      simp_all
     simp_all
    simp_all
   simp_all
  simp_all
 simp_all
end
abbrev FR (ro:H_):Fence:={ Fence.wide with round:=ro }
theorem SX (ro:H_)(n:Nat):(FR ro).room n:=λ_ h=>by grind [Fence.wide]
def I5 {ro:H_}{n:Nat}{P:Program}{f:FuncId}{args:E_}{w:World}{R:Ending->World->Prop}(h:CallsIn (FR none) n P f args w R):CallsIn (FR ro) n P f args w R:=h
section
variable {P:Program}{g:Gh}{w:World}{t:E_}{O:Nat->Nat}{st st':St}{a:AV}{o:Oper}
structure zg (P:Program)(g:Gh)(w:World)(t:E_)(O:Nat->Nat)(st':St)(a:AV)(x:Value)(w':World)(g':Gh)(Oa O':Nat->Nat):Prop where
 val:RV g' w' a x Oa
 st:S P g' w' st' t O'
 ext:bg g w g' w' λb=>O b≠0
 le:∀b,Oa b+O' b<=1
 old:∀b,b<w.heap.size->Oa b+O' b<=O b
 hi:∀b,Oa b≠0->b<w'.heap.size
def OpW (ro:H_)(P:Program)(g:Gh)(w:World)(t:E_)(O:Nat->Nat)(st':St)(a:AV)(o:Oper):Prop :=
 ∀(ds:List Deferred) (next:Act->World->Prop) (Q:Exit->Act->World->Prop),(∀x w' g' Oa O',zg P g w t O st' a x w' g' Oa O'->next (Act.put ⟨t,ds⟩ o.dst x) w')->
  o.uponIn (FR ro) 0 P ⟨t,ds⟩ next Q ((execOp (ev t) o).run P w)
def dV.opW {ro:H_}(h:dV P g w t O st' a ((execOp (ev t) o).run P w)):OpW ro P g w t O st' a o:=by
 obtain⟨x,w',g',Oa,O',k⟩:=h;intro ds next Q hn;have hx:=hn x w' g' Oa O' ⟨k.val,k.st,k.ext,k.le,k.old,k.hi⟩;rcases k.run with hr|⟨hr,rfl⟩
 .rw[hr];exact hx
 .rw[hr];exact hx
abbrev tq (t:E_)(dst:H_)(x:Value):E_:=(Act.put ⟨t,[]⟩ dst x).tmps
theorem Rj (t:E_)(ds:List Deferred)(dst:H_)(x:Value):Act.put ⟨t,ds⟩ dst x=⟨tq t dst x,ds⟩:=by cases dst<;>rfl
theorem nL (t:E_)(dst:H_)(x:Value):(tq t dst x).size=t.size:=by cases dst<;>simp[tq,Act.put]
structure fk (P:Program)(g:Gh)(w:World)(t:E_)(O:Nat->Nat)(st':St)(t':E_)(w':World)(g':Gh)(O':Nat->Nat):Prop where
 st:S P g' w' st' t' O'
 ext:bg g w g' w' λb=>O b≠0
 old:∀b,b<w.heap.size->O' b<=O b
 size:t'.size=t.size
def fk.refl (s:S P g w st t O):fk P g w t O st t w g O:=⟨s,.refl _ _ _,λ_ _=>ai _,rfl⟩
def fk.trans {t1 t2:E_}{w1 w2:World}{g1 g2:Gh}{O1 O2:Nat->Nat}{st1 st2:St}(h1:fk P g w t O st1 t1 w1 g1 O1)(h2:fk P g1 w1 t1 O1 st2 t2 w2 g2 O2) :
  fk P g w t O st2 t2 w2 g2 O2 where
 st:=h2.st
 ext:=h1.ext.trans h2.ext λb hb h=>by grind [old]
 old b hb:=aC (h2.old b (aH hb h1.ext.size)) (h1.old b hb)
 size:=h2.size.trans h1.size
def Yt {st1:St}{x:Value}{w':World}{g1:Gh}{Oa O1:Nat->Nat}(k:zg P g w t O st1 a x w' g1 Oa O1){dst:H_}(hd:∀d,dst=some d->d<t.size)(th:O_) :
  ∃g' O',fk P g w t O (bS dst (firm (cY th a st1.hs).1) ⟨st1.env,(cY th a st1.hs).2⟩) (tq t dst x) w' g' O':=by
 obtain⟨g2,Ov2,O2,r2,s2,x2,l2⟩:=FJ (P:=P) (t:=t) th (env:=st1.env) (hs:=st1.hs) k.st k.val k.le k.hi;have hle2:∀b,Ov2 b+O2 b<=1:=λb=>aC (l2 b) (k.le b)
 obtain⟨g3,r3,s3,x3⟩:=W5 s2 r2 hle2;have hext:bg g w g3 w' λb=>O b≠0:=(k.ext.trans x2 (λ_ _ h=>h.elim)).trans x3 λb hb h=>by grind [zg.old]
 cases dst with
 |none=>exact⟨g3,O2,s3,hext,λb hb=>by grind [zg.old],rfl⟩
 |some d =>
  obtain⟨O4,s4,l4⟩:=s3.setTmp (hd d rfl) r3 hle2 λb hb=>by
   by_cases h:Oa b=0
   .exact k.st.hi b (by grind)
   .exact k.hi b h
  exact⟨g3,O4,s4,hext,λb hb=>by grind [zg.old],nL _ _ _⟩
def S.split (s:S P g w st t O):∃Oe Oh,ja g w st.env t Oe∧S P g w ⟨[],st.hs⟩ #[] Oh∧∀b,O b=Oe b+Oh b:=by
 obtain⟨Oe,Oh,re,rh,ho⟩:=s.parts;exact⟨Oe,Oh,re,⟨List.Pairwise.nil,s.sh,⟨zero,Oh,λ_=>rfl,rh,λb=>by simp⟩,λb=>by have:=s.le b;grind,λb hb=>s.hi b u_,s.fresh,s.pmlt⟩,ho⟩
theorem S.join {e:aK}{hs:HS}{Oe Oh:Nat->Nat}(he:bV e)(re:ja g w e t Oe)(s:S P g w ⟨[],hs⟩ #[] Oh)(hle:∀b,Oe b+Oh b<=1)(hhi:∀b,Oe b≠0->b<w.heap.size) :
  S P g w ⟨e,hs⟩ t λb=>Oe b+Oh b:=by
 obtain⟨O0,Oh',r0,rh,ho⟩:=s.parts;have h0:∀b,Oh b=Oh' b:=λb=>by have:=ho b;have:O0 b=0:=r0 b;omega
 exact⟨he,s.sh,⟨Oe,Oh',re,rh,λb=>by simp_all⟩,hle,λb hb=>by
  grind [hi],s.fresh,s.pmlt⟩
theorem C9 (t:E_)(ds:List Deferred):(⟨t,ds⟩:Act).eval=ev t:=by
 funext x;cases x<;>rfl
theorem H1 {ro:H_}(t:E_)(ds:List Deferred)(h:∀c,o.op≠.defer c):o.semAt ro (⟨t,ds⟩:Act).eval=execOp (ev t) o:=by
 grind [Oper.semAt_eq,C9]
end
section
variable {P:Program}{g:Gh}{w:World}{t:E_}{O:Nat->Nat}{st st':St}{o:Oper}{ops:Array Oper}
theorem aeD (s:S P g w st t O){gd:Option (Nat×Bool)}(hg:As ops gd o.guard=true) :
  (gd=none->Region.wanted o (yielded ops t)=true)∧
  ∀sl want,gd=some (sl,want)->(∀b,get st.env sl=some (B_ b)->Region.wanted o (yielded ops t)=(b == want))∧(get st.env sl=some (.tup [])->Region.wanted o (yielded ops t)=false):=by
 cases gd with
 |none =>
  grind [Region.wanted,As]
 |some p =>
  obtain⟨sl,want⟩:=p
  cases hog:o.guard with
  |none=>grind [As]
  |some q =>
   rw[hog]at hg;simp only[As,af,beq_iff_eq]at hg;obtain⟨rfl,h2⟩:=hg;refine⟨λh=>by simp at h,λsl' want' h=>?_⟩;obtain⟨rfl,rfl⟩:=h;obtain⟨Oe,Oh,re,rh,ho⟩:=s.parts;split at h2
   .split at h2
    .rename_i d hd;rw[aq]at h2;subst h2;refine⟨λb hb=>?_,λhb=>?_⟩
     .obtain⟨O1,⟨hlt,q⟩,_⟩:=RL.get re hb;have hv:t.getD d undef=.bool b:=xk q rfl
      simp_all [Region.wanted,yielded]
     .obtain⟨O1,⟨hlt,q⟩,_⟩:=RL.get re hb;obtain⟨xs,hv,hxs,_⟩:=q
      simp_all [Region.wanted,yielded]
    simp_all
   simp_all
end
def fm (P:Program)(g:Gh)(w:World)(O:Nat->Nat)(v:AV)(hs':HS):Ending->World->Prop
 |.returned x,w'=>∃g' Or Oh,RV g' w' v x Or∧S P g' w' ⟨[],hs'⟩ #[] Oh∧bg g w g' w' (λb=>O b≠0)∧(∀b,Or b+Oh b<=1)∧(∀b,b<w.heap.size->Or b+Oh b<=O b)∧
   ∀b,Or b≠0->b<w'.heap.size
 |_,_=>False
def abr (P:Program)(f:FuncId):Prop:=∃fn,P.funcs[f]?=some fn∧fn.body.isSome=true∧fn.name≠ "runtime.NumGoroutine"
def fV (P:Program)(r:cH):Prop :=
 ∀{f:FuncId}{args:D_}{hs:HS}{v:AV}{hs':HS},r.call f args hs=some (v,hs')->abr P f∧
  ∀{g:Gh}{w:World}{xs:M_}{Oa Oh:Nat->Nat},RVs g w args xs Oa->S P g w ⟨[],hs⟩ #[] Oh->(∀b,Oa b+Oh b<=1)->(∀b,Oa b≠0->b<w.heap.size)->
   CallsIn (FR none) 0 P f xs.toArray w (fm P g w (λb=>Oa b+Oh b) v hs')
section
variable {P:Program}{g:Gh}{w:World}{t:E_}{O:Nat->Nat}{st st':St}{a:AV}{o:Oper}{r:cH}
def CL {e:aK}{hs hs':HS}{Ov Oe Oh:Nat->Nat}{x:Value}{w':World}{v:AV}(he:bV e)(re:ja g w e t Oe)(hle:∀b,Ov b+(Oe b+Oh b)<=O b)(s0:S P g w st t O)
  (h:fm P g w (λb=>Ov b+Oh b) v hs' (.returned x) w'):∃g' Oa O',zg P g w t O ⟨e,hs'⟩ v x w' g' Oa O':=by
 obtain⟨g',Or,Oh',h1,h2,h3,h4,h5,h6⟩:=h;have hle1:∀b,Ov b+(Oe b+Oh b)<=1:=λb=>aC (hle b) (s0.le b)
 have re':=ja.ext h3 re λb hb h=>by grind
 have hoe:∀b,¬b<w.heap.size->Oe b=0:=λb hb=>by
  grind [S.hi]
 have hsum:∀b,Or b+(Oe b+Oh' b)<=1:=λb=>by
  grind
 have s':=S.join he re' h2 (λb=>by grind) λb hb=>aH (s0.hi b d_) h3.size
 refine⟨g',Or,_,h1,s',h3.mono λb _ hb=>by grind,hsum,λb hb=>?_,h6⟩
 grind
def NS {ro:H_}{f:FuncId}{args:E_}{e:aK}{hs hs':HS}{Ov Oe Oh:Nat->Nat}{v:AV}(he:bV e)(re:ja g w e t Oe)(hle:∀b,Ov b+(Oe b+Oh b)<=O b)(s0:S P g w st t O)
  (hrun:(execOp (ev t) o).run P w=.ok (.enter f args) w)(hk:CallsIn (FR none) 0 P f args w (fm P g w (λb=>Ov b+Oh b) v hs')):OpW ro P g w t O ⟨e,hs'⟩ v o:=by
 intro ds next Q hn
 rw[hrun,Oper.uponIn_enter];refine⟨λh=>by grind [Fence.wide],I5 (hk.mono λen w' hp=>?_)⟩
 cases en with
 |returned x =>
  obtain⟨g',Oa,O',k⟩:=CL (hs:=hs) he re hle s0 hp
  grind
 |panicked c=>exact hp.elim
 |outgrown=>exact hp.elim
theorem tH {f:FuncId}(h:abr P f)(args:E_):(callFunc f args).run P w=.ok (.enter f args) w:=by
 obtain⟨fn,h1,h2,h3⟩:=h;have h2':¬fn.body=none:=d_
 simp_all [callFunc]
def Fb {c:Callee}{f:FuncId}(h:(match w6 c with|some g=>Nat.beq f g|none=>false)=true):c=.value (.func f):=by
 split at h
 .rename_i g hg;rw[aq]at h;unfold w6 at hg
  grind
 simp_all
def afP {ro:H_}{f:FuncId}{args:S_}(hr:fV P r)(s:S P g w st t O)(h:At r f args st=some (a,st'))(hc:aZ P (.calli f args) o.op=true) :
  OpW ro P g w t O st' a o:=by
 obtain⟨dst,op,ty,pos,aft,gd⟩:=o;simp only[aZ]at hc;split at hc
 .rename_i c;simp only[af]at hc;obtain⟨h1,h2⟩:=hc;obtain⟨callee,as,ats⟩:=c;have:=Fb h1;subst this;unfold At at h;split at h
  .rename_i vs e hrd;split at h
   .rename_i v hs' hcall;obtain⟨rfl,rfl⟩:=h;obtain⟨Ov,O',rvs,s',l⟩:=s.rdAll h2 hrd;obtain⟨Oe,Oh,re,sh,ho⟩:=s'.split;obtain⟨hfn,hk⟩:=hr hcall;have hle:∀b,Ov b+(Oe b+Oh b)<=O b:=λb=>by simp_all
    have hk:=hk rvs sh (λb=>by have:=hle b;have:=s.le b;omega) (λb hb=>s.hi b d_);refine NS (hs:=st.hs) s'.se re hle s ?_ hk;simp only[execOp,resolve,aB,ev,Deferred.ofValue,cD,aS,invoke];rw[tH hfn]
    congr 2
    grind
   simp_all
  simp_all
 simp_all
end
section
variable {P:Program}{g:Gh}{w:World}{t:E_}{O:Nat->Nat}{st st':St}{a:AV}{o:Oper}{r:cH}
theorem RD.mono {pm pm':Nat->Nat->Prop}(h:∀b o,pm b o->pm' b o){c:D}{x:Value}(r:RD w pm c x):RD w pm' c x:=by
 induction r with
 |int k n=>exact .int k n
 |bool b=>exact .bool b
 |str s=>exact .str s
 |nil a cap=>exact .nil a cap
 |lst xs b off m cap u hm hcap hl hc hr ih=>exact .lst xs b off m cap u hm hcap hl (λj c hj=>⟨(hc j c hj).1,h _ _ (hc j c hj).2⟩) (λj c hj=>ih j c hj)
def gw.mono {pm pm':Nat->Nat->Prop}(h:∀b o,pm b o->pm' b o){cs:U_}{b off:Nat}(r:gw w pm cs b off):gw w pm' cs b off:=λj c hj=>by
 obtain⟨u,hu,hr⟩:=r j c hj
 grind [RD.mono]
theorem RD.flat {pm pm':Nat->Nat->Prop}{c:D}{x:Value}(hf:jx c=true)(r:RD w pm c x):RD w pm' c x:=by
 cases r with
 |int k n=>exact .int k n
 |bool b=>exact .bool b
 |str s=>exact .str s
 |nil a cap=>exact .nil a cap
 |lst xs=>simp[jx]at hf
def Gh.view (g:Gh)(w:World)(K:Nat->Prop):Gh where
 obj _:=none
 base _:=0
 esz _:=0
 bsz _:=0
 pm b o:=g.pm b o∨(K b∧b<w.heap.size)
def al5 (s:S P g w st t O)(K:Nat->Prop):S P (g.view w K) w ⟨[],⟨[],0⟩⟩ #[] zero :=
 ⟨List.Pairwise.nil,List.Pairwise.nil,⟨zero,zero,λ_=>rfl,λ_=>rfl,λ_=>rfl⟩,λ_=>by simp,λb hb=>by simp at hb,λ_ _=>rfl,λb o h=>h.elim (s.pmlt b o) λh=>h.2⟩
def NT (s:S P g w st t O){K:Nat->Prop}{v d:AV}{x:Value}{Ov:Nat->Nat}(h:viewOne st.hs.heap v=some d)(hK:te v=true->∀b,O b≠0->K b)(rv:RV g w v x Ov) :
  RV (g.view w K) w d x zero:=by
 have hm:∀b o,g.pm b o->(g.view w K).pm b o:=λb o h=>.inl h
 cases v<;>simp only[viewOne,reduceCtorEq]at h
 .grind [RV,RD.mono]
 .grind [RV]
 .rename_i p m xs
  cases p
  .have:=RV.share _ _ _ rv
   grind [share,RV,RD.mono]
  simp_all
 .rename_i id off len;split at h
  .rename_i xs hx;simp only[ae]at h;subst h;simp only[elems]at hx;split at hx
   .rename_i zs hzs;split at hx
    .rename_i hb;rw[aU]at hb;simp only[ae]at hx;subst hx;have hsl:(Vm.sub zs off len).length=len:=iZ hb;simp only[RV]at rv⊢;refine⟨?_,λ_=>trivial⟩;rcases rv.1 with ⟨rfl,ad,rfl⟩|⟨b,cap,hob,rfl,hlc,hcap⟩
     .exact .nil _ _
     .obtain⟨Oe,Oh,re,rh,ho⟩:=s.parts;have key:∀(m:Nat),0<m->g.esz id=m->(∀e∈zs,e.length=m)->gw w g.pm zs.flatten b (g.base id)->O b≠0->RD w (g.view w K).pm (.lst (Vm.sub zs off len)) (.slice (some ⟨b,g.base id+off*g.esz id,none⟩) len cap):=by
       intro m hm0 hes hl hc hO;have hsubl:=C6 hl off len;have:=gw.rd (w:=w) (pm:=(g.view w K).pm) (xs:=Vm.sub zs off len) (b:=b) (off:=g.base id+off*g.esz id) (cap:=cap) hm0 o_ hsubl (by
        rw[lJ hl,hes];exact(hc.sub _ _).mono hm) (λj _=>.inr ⟨hK rfl b hO,s.hi b hO⟩)
       simp_all
      unfold objElems at hzs;split at hzs
      .rename_i m' ys hg;obtain⟨O1,q,hO1⟩:=RL.get rh hg;rcases q with ⟨rfl,_⟩|⟨b',c,el,g1,g2,g3,g4,g5,g6,g7,g8,g9,g10⟩
       .have h0:len=0:=u_;subst h0;exact .nil _ _
       grind [wT]
      .rename_i cs hg;split at hzs
       .rename_i ds hds;simp only[ae]at hzs;subst hzs;obtain⟨O1,q,hO1⟩:=RL.get rh hg;obtain⟨b',c,el,O2,g1,g2,g3,g4,g5,g6,g7,g8⟩:=q;obtain⟨h1,h2,h3⟩:=IU hds g6;refine key 1 o_ g3 (VM ds) ?_ (by grind [wT]);rw[KO,g2];intro j d hj
        grind [fp]
       simp_all
      simp_all
    simp_all
   simp_all
  simp_all
def Ne (s:S P g w st t O){K:Nat->Prop}:∀{vs ds:D_}{xs:M_}{Ov:Nat->Nat},viewAll st.hs.heap vs=some ds->(vs.any te=true->∀b,O b≠0->K b)->RVs g w vs xs Ov->
  RVs (g.view w K) w ds xs zero
 |[],ds,xs,Ov,h,hK,rv=>by
  grind [viewAll,RVs]
 |v::vs,ds,xs,Ov,h,hK,rv=>by
  simp only[viewAll]at h;split at h
  .simp at h
  .rename_i d hd;split at h
   .simp at h
   .rename_i ds' hds;simp only[ae]at h;subst h;obtain⟨x,ys,O1,O2,rfl,r1,r2,hs⟩:=rv;exact⟨x,ys,zero,zero,rfl,NT s hd (λh=>hK (by simp[h])) r1,Ne s hds (λh=>hK u_) r2,λ_=>rfl⟩
def ZE (s:S P g w st t O){K:Nat->Prop}{v d:AV}{x:Value}{Ov:Nat->Nat}(h:viewArg st.hs.heap v=some d)(hK:ue v=true->∀b,O b≠0->K b)(rv:RV g w v x Ov) :
  RV (g.view w K) w d x zero:=by
 cases v<;>simp only[viewArg]at h<;>try exact NT s h (λhh=>hK hh) rv
 split at h
 .rename_i xs hx;simp only[ae]at h;subst h;obtain⟨ys,e,r⟩:=rv;exact⟨ys,e,Ne s hx (λhh=>hK hh) r⟩
 simp_all
def Lx (s:S P g w st t O){K:Nat->Prop}:∀{vs ds:D_}{xs:M_}{Ov:Nat->Nat},viewArgs st.hs.heap vs=some ds->(vs.any ue=true->∀b,O b≠0->K b)->RVs g w vs xs Ov->
  RVs (g.view w K) w ds xs zero
 |[],ds,xs,Ov,h,hK,rv=>by
  grind [viewArgs,RVs]
 |v::vs,ds,xs,Ov,h,hK,rv=>by
  simp only[viewArgs]at h;split at h
  .simp at h
  .rename_i d hd;split at h
   .simp at h
   .rename_i ds' hds;simp only[ae]at h;subst h;obtain⟨x,ys,O1,O2,rfl,r1,r2,hs⟩:=rv;exact⟨x,ys,zero,zero,rfl,ZE s hd (λh=>hK (by simp[h])) r1,Lx s hds (λh=>hK u_) r2,λ_=>rfl⟩
end
section
variable {P:Program}{g:Gh}{w:World}{t:E_}{O:Nat->Nat}{st st':St}{a:AV}{o:Oper}{r:cH}
def nF:AV->Bool
 |.d _|.nl|.own _ _ _=>true
 |_=>false
def pU:AV->Bool
 |.agg cs=>cs.all nF
 |v=>nF v
def DC:AV->Bool
 |.tup vs=>vs.all pU
 |v=>pU v
def Pu (P:Program)(g:Gh)(w:World)(O:Nat->Nat)(n:Nat)(x:Value)(Ov:Nat->Nat)(r:AV×ak):Prop :=
 ∃Ov' O',RV g w r.1 x Ov'∧S P g w ⟨[],⟨r.2,n⟩⟩ #[] O'∧∀b,Ov' b+O' b<=Ov b+O b
def amn (P:Program)(g:Gh)(w:World)(O:Nat->Nat)(n:Nat)(xs:M_)(Ov:Nat->Nat)(r:D_×ak):Prop :=
 ∃Ov' O',RVs g w r.1 xs Ov'∧S P g w ⟨[],⟨r.2,n⟩⟩ #[] O'∧∀b,Ov' b+O' b<=Ov b+O b
def Rv {h:ak}{n:Nat}(s:S P g w ⟨[],⟨h,n⟩⟩ #[] O){v:AV}{x:Value}{Ov:Nat->Nat}{r:AV×ak}(hr:jF h v=some r)(rv:RV g w v x Ov) :
  Pu P g w O n x Ov r∧nF r.1=true:=by
 have triv:∀v,RV g w v x Ov->Pu P g w O n x Ov (v,h):=λv rv=>⟨Ov,O,rv,s,λ_=>ai _⟩
 cases v<;>simp only[jF,reduceCtorEq]at hr
 .simp only[ae]at hr;subst hr;exact⟨triv _ rv,rfl⟩
 .simp only[ae]at hr;subst hr;exact⟨triv _ rv,rfl⟩
 .simp only[ae]at hr;subst hr;exact⟨triv _ rv,rfl⟩
 .rename_i id off len;split at hr
  .rename_i m xs hg;split at hr
   .rename_i hb;rw[aU]at hb;simp only[ae]at hr;subst hr;refine⟨?_,rfl⟩;obtain⟨Oe,Oh,re,rh,ho⟩:=s.parts;obtain⟨O1,O2,q,r2,hs⟩:=RL.take rh hg;have hle2:∀b,Oe b+O2 b<=O b:=λb=>by grind
    have s2:S P g w ⟨[],⟨del h id,n⟩⟩ #[] (λb=>Oe b+O2 b) :=
     ⟨s.se,s.sh.del id,⟨Oe,O2,re,r2,λ_=>rfl⟩,λb=>aC (hle2 b) (s.le b),λb hb=>s.hi b d_,s.fresh,s.pmlt⟩
    have hsub:(Vm.sub xs off len).length=len:=iZ hb;have emp:len=0->(∃a,x=.slice a 0 0)->RV g w (.own true m (Vm.sub xs off len)) x zero:=by
     grind [RV,zT]
    rcases rv with ⟨h0,h⟩|⟨b,cap,hob,rfl,hlc,hcap⟩
    .exact⟨zero,_,emp h0 h,s2,λb=>by simp_all⟩
    .rcases q with ⟨rfl,g1,g2,g3,_⟩|⟨b',c,el,g1,g2,g3,g4,g5,g6,g7,g8,g9,g10⟩
     .have hl0:len=0:=u_;have hc0:cap=0:=by
       grind [Nat.mul_eq_zero]
      subst hl0 hc0;exact⟨zero,_,emp rfl ⟨_,rfl⟩,s2,λb=>by simp_all⟩
     .rw[hob]at g1;simp only[ae]at g1;subst g1;refine⟨one b,_,?_,s2,λy=>?_⟩
      .refine .inr ⟨b,g.base id+off*m,cap,c,el,u_,o_,g3,C6 g7 off len,g4,?_,?_,λo ho=>absurd ho (g9 o),λh=>by simp at h,rfl⟩
       .grind [Nat.add_mul]
       simp_all [lJ,gw.sub]
      grind
   simp_all
  simp_all
def Fq {n:Nat}{f:ak->AV->AD_}{fs:ak->D_->Option (D_×ak)}{p:AV->Bool}
  (hf:∀{h:ak}{O:Nat->Nat},S P g w ⟨[],⟨h,n⟩⟩ #[] O->∀{v:AV}{x:Value}{Ov:Nat->Nat}{r:AV×ak},f h v=some r->RV g w v x Ov->Pu P g w O n x Ov r∧p r.1=true)
  (hnil:∀h,fs h []=some ([],h))(hcons:∀h v vs r,fs h (v::vs)=some r->∃v' h' vs' h'',f h v=some (v',h')∧fs h' vs=some (vs',h'')∧r=(v'::vs',h'')) :
  ∀{vs:D_}{h:ak}{O:Nat->Nat},S P g w ⟨[],⟨h,n⟩⟩ #[] O->∀{xs:M_}{Ov:Nat->Nat}{r:D_×ak},fs h vs=some r->RVs g w vs xs Ov->amn P g w O n xs Ov r∧r.1.all p=true
 |[],h,O,s,xs,Ov,r,hr,rv=>by
  rw[hnil]at hr;simp only[ae]at hr;subst hr;exact⟨⟨Ov,O,rv,s,λ_=>ai _⟩,rfl⟩
 |v::vs,h,O,s,xs,Ov,r,hr,rv=>by
  obtain⟨v',h',vs',h'',e1,e2,rfl⟩:=hcons _ _ _ _ hr;obtain⟨x,ys,O1,O2,rfl,r1,r2,hs⟩:=rv;obtain⟨⟨Ov1,O3,q1,s1,l1⟩,p1⟩:=hf s e1 r1;obtain⟨⟨Ov2,O4,q2,s2,l2⟩,p2⟩:=Fq hf hnil hcons s1 e2 r2;refine⟨⟨λb=>Ov1 b+Ov2 b,O4,?_,s2,λb=>by grind⟩,u_⟩
  grind [RVs]
def Q4 {h:ak}{n:Nat}{O:Nat->Nat}(s:S P g w ⟨[],⟨h,n⟩⟩ #[] O){v:AV}{x:Value}{Ov:Nat->Nat}{r:AV×ak}(hr:fG h v=some r)(rv:RV g w v x Ov) :
  Pu P g w O n x Ov r∧pU r.1=true:=by
 have base:∀{v:AV},RV g w v x Ov->jF h v=some r->Pu P g w O n x Ov r∧pU r.1=true:=λrv hr=>by
  obtain⟨h1,h2⟩:=Rv s hr rv;refine⟨h1,?_⟩;obtain⟨v',h'⟩:=r
  cases v'<;>first|exact h2|grind [nF]
 cases v<;>simp only[fG]at hr<;>try exact base rv hr
 split at hr
 .rename_i vs' h' hx;simp only[ae]at hr;subst hr;obtain⟨ys,e,rr⟩:=rv;obtain⟨⟨Ov1,O1,q1,s1,l1⟩,p1⟩:=Fq (f:=jF) (fs:=oN) (p:=nF) Rv (λ_=>rfl) (λh v vs r hr=>by
   grind [oN]) s hx rr
  exact⟨⟨Ov1,O1,by grind [RV],s1,l1⟩,p1⟩
 simp_all
def abE {h:ak}{n:Nat}(s:S P g w ⟨[],⟨h,n⟩⟩ #[] O){v r:AV}{x:Value}{Ov:Nat->Nat}(hr:fq h v=some r)(rv:RV g w v x Ov) :
  ∃u Ov',r=dZ u∧RV g w u x Ov'∧(∀b,Ov' b<=Ov b+O b)∧DC u=true:=by
 have base:∀{v:AV},RV g w v x Ov->(match fG h v with|some (x,_)=>some (dZ x)|none=>none)=some r->∃u Ov',r=dZ u∧RV g w u x Ov'∧(∀b,Ov' b<=Ov b+O b)∧DC u=true:=λrv hr=>by
  split at hr
  .rename_i u h' hu;simp only[ae]at hr;obtain⟨⟨Ov',O',q,_,l⟩,p⟩:=Q4 s hu rv;refine⟨u,Ov',hr.symm,q,λb=>by grind,?_⟩
   cases u<;>first|exact p|grind [pU,nF]
  simp_all
 cases v<;>simp only[fq]at hr<;>try exact base rv hr
 split at hr
 .rename_i vs' h' hx;simp only[ae]at hr;obtain⟨ys,e,rr⟩:=rv;obtain⟨⟨Ov1,O1,q1,s1,l1⟩,p1⟩:=Fq (f:=fG) (fs:=pK) (p:=pU) Q4 (λ_=>rfl) (λh v vs r hr=>by
   grind [pK]) s hx rr
  exact⟨.tup vs',Ov1,hr.symm,by grind [RV],λb=>by grind,p1⟩
 simp_all
theorem Ix {g2:Gh}{v:AV}{x:Value}{Ov:Nat->Nat}(hp:nF v=true)(hf:iV v=true)(rv:RV g w v x Ov)(hn:∀b,Ov b≠0->∀o,¬g2.pm b o):RV g2 w (lV v) x Ov:=by
 cases v<;>simp only[nF,al]at hp
 .grind [RV,lV,RD.flat,iV]
 .grind [RV,lV]
 .simp only[iV]at hf;rcases rv with h|⟨b,off,cap,c,el,rfl,hcap,hm,hl,hb,hsz,hrc,hpm,hpp,rfl⟩
  .exact .inl h
  .refine .inr ⟨b,off,cap,c,el,rfl,hcap,hm,hl,hb,hsz,λj d hj=>?_,λo ho=>absurd ho (hn b s_ o),λh=>by simp at h,rfl⟩;obtain⟨u,hu,hr⟩:=hrc j d hj
   grind [RD.flat]
def Cp {g2:Gh}{f:AV->AV}{p q:AV->Bool}(hf:∀{v:AV}{x:Value}{Ov:Nat->Nat},p v=true->q v=true->RV g w v x Ov->(∀b,Ov b≠0->∀o,¬g2.pm b o)->RV g2 w (f v) x Ov) :
  ∀{vs:D_}{xs:M_}{Ov:Nat->Nat},vs.all p=true->vs.all q=true->RVs g w vs xs Ov->(∀b,Ov b≠0->∀o,¬g2.pm b o)->RVs g2 w (vs.map f) xs Ov
 |[],xs,Ov,_,_,rv,_=>by grind [RVs]
 |v::vs,xs,Ov,hp,hq,rv,hn=>by
  simp only[fg,af]at hp hq;obtain⟨x,ys,O1,O2,rfl,r1,r2,hs⟩:=rv;exact⟨x,ys,O1,O2,rfl,hf hp.1 hq.1 r1 (λb hb=>hn b u_),Cp hf hp.2 hq.2 r2 (λb hb=>hn b u_),hs⟩
def aee (v:AV):(∃cs,v=.agg cs)∨(kX v=lV v∧pU v=nF v∧iW v=iV v):=by
 cases v<;>first|exact .inl ⟨_,rfl⟩|exact .inr ⟨rfl,rfl,rfl⟩
def adM (v:AV):(∃cs,v=.tup cs)∨(nA v=kX v∧DC v=pU v∧jb v=iW v):=by
 cases v<;>first|exact .inl ⟨_,rfl⟩|exact .inr ⟨rfl,rfl,rfl⟩
theorem Qx {g2:Gh}{v:AV}{x:Value}{Ov:Nat->Nat}(hp:pU v=true)(hf:iW v=true)(rv:RV g w v x Ov)(hn:∀b,Ov b≠0->∀o,¬g2.pm b o):RV g2 w (kX v) x Ov:=by
 rcases aee v with ⟨cs,rfl⟩|⟨e1,e2,e3⟩
 .obtain⟨xs,e,rr⟩:=rv;exact⟨xs,e,Cp Ix hp hf rr hn⟩
 grind [Ix]
theorem ac6 {g2:Gh}{v:AV}{x:Value}{Ov:Nat->Nat}(hp:DC v=true)(hf:jb v=true)(rv:RV g w v x Ov)(hn:∀b,Ov b≠0->∀o,¬g2.pm b o):RV g2 w (nA v) x Ov:=by
 rcases adM v with ⟨cs,rfl⟩|⟨e1,e2,e3⟩
 .obtain⟨xs,e,rr⟩:=rv;exact⟨xs,e,Cp Qx hp hf rr hn⟩
 grind [Qx]
def TS {g2:Gh}{v:AV}{x:Value}{Ov:Nat->Nat}(hp:nF v=true)(rv:RV g w v x Ov)(hn:∀b,Ov b≠0->∀o,¬g2.pm b o):∃Ov',RV g2 w (QM v) x Ov'∧∀b,Ov' b<=Ov b:=by
 unfold QM;split
 .rename_i hf;exact⟨Ov,Ix hp hf rv hn,λ_=>ai _⟩
 .split
  .rename_i n hl;refine⟨zero,?_,λ_=>dr _⟩;simp only[RV];refine⟨?_,λ_=>trivial⟩
   cases v with
   |d c =>
    cases c with
    |lst xs =>
     simp only[lenOf,ae]at hl;have rd:=rv.1
     cases rd
     all_goals simp_all
    |_=>simp[lenOf]at hl
   |nl =>
    grind [lenOf,RV]
   |own p m xs =>
    grind [lenOf,RV,zT]
   |_=>grind [nF]
  .exact⟨zero,by simp[RV,zero],λ_=>dr _⟩
def DP {g2:Gh}{f:AV->AV}{p:AV->Bool}(hf:∀{v:AV}{x:Value}{Ov:Nat->Nat},p v=true->RV g w v x Ov->(∀b,Ov b≠0->∀o,¬g2.pm b o)->∃Ov',RV g2 w (f v) x Ov'∧∀b,Ov' b<=Ov b) :
  ∀{vs:D_}{xs:M_}{Ov:Nat->Nat},vs.all p=true->RVs g w vs xs Ov->(∀b,Ov b≠0->∀o,¬g2.pm b o)->∃Ov',RVs g2 w (vs.map f) xs Ov'∧∀b,Ov' b<=Ov b
 |[],xs,Ov,_,rv,_=>⟨Ov,by grind [RVs],λ_=>ai _⟩
 |v::vs,xs,Ov,hp,rv,hn=>by
  simp only[fg,af]at hp;obtain⟨x,ys,O1,O2,rfl,r1,r2,hs⟩:=rv;obtain⟨Q1,q1,l1⟩:=hf hp.1 r1 (λb hb=>hn b u_);obtain⟨Q2,q2,l2⟩:=DP hf hp.2 r2 (λb hb=>hn b u_);exact⟨λb=>Q1 b+Q2 b,⟨x,ys,Q1,Q2,rfl,q1,q2,λ_=>rfl⟩,λb=>by grind⟩
def TU {g2:Gh}{v:AV}{x:Value}{Ov:Nat->Nat}(hp:pU v=true)(rv:RV g w v x Ov)(hn:∀b,Ov b≠0->∀o,¬g2.pm b o):∃Ov',RV g2 w (I3 v) x Ov'∧∀b,Ov' b<=Ov b:=by
 have other:I3 v=QM v->pU v=nF v->∃Ov',RV g2 w (I3 v) x Ov'∧∀b,Ov' b<=Ov b:=λe1 e2=>by
  rw[e1];rw[e2]at hp;exact TS hp rv hn
 cases v with
 |agg cs =>
  simp only[RV,I3]at rv⊢;obtain⟨xs,e,rr⟩:=rv;obtain⟨Ov',q,l⟩:=DP TS hp rr hn
  grind
 |_=>exact other rfl rfl
def adg {g2:Gh}{v:AV}{x:Value}{Ov:Nat->Nat}(hp:DC v=true)(rv:RV g w v x Ov)(hn:∀b,Ov b≠0->∀o,¬g2.pm b o):∃Ov',RV g2 w (Hx v) x Ov'∧∀b,Ov' b<=Ov b:=by
 have other:Hx v=I3 v->DC v=pU v->∃Ov',RV g2 w (Hx v) x Ov'∧∀b,Ov' b<=Ov b:=λe1 e2=>by
  rw[e1];rw[e2]at hp;exact TU hp rv hn
 cases v with
 |tup cs =>
  simp only[RV,Hx]at rv⊢;obtain⟨xs,e,rr⟩:=rv;obtain⟨Ov',q,l⟩:=DP TU hp rr hn
  grind
 |_=>exact other rfl rfl
theorem P4 {g2:Gh}(hpm:g2.pm=g.pm){v:AV}{x:Value}{Ov:Nat->Nat}(hp:nF v=true)(rv:RV g w v x Ov):RV g2 w v x Ov:=by
 cases v<;>simp only[nF,al]at hp
 all_goals simp_all [RV,zT]
def Ce {g2:Gh}{p:AV->Bool}(hf:∀{v:AV}{x:Value}{Ov:Nat->Nat},p v=true->RV g w v x Ov->RV g2 w v x Ov) :
  ∀{vs:D_}{xs:M_}{Ov:Nat->Nat},vs.all p=true->RVs g w vs xs Ov->RVs g2 w vs xs Ov
 |[],xs,Ov,_,rv=>by grind [RVs]
 |v::vs,xs,Ov,hp,rv=>by
  simp only[fg,af]at hp;obtain⟨x,ys,O1,O2,rfl,r1,r2,hs⟩:=rv;exact⟨x,ys,O1,O2,rfl,hf hp.1 r1,Ce hf hp.2 r2,hs⟩
theorem Qe {g2:Gh}(hpm:g2.pm=g.pm){v:AV}{x:Value}{Ov:Nat->Nat}(hp:pU v=true)(rv:RV g w v x Ov):RV g2 w v x Ov:=by
 rcases aee v with ⟨cs,rfl⟩|⟨e1,e2,e3⟩
 .obtain⟨xs,e,rr⟩:=rv;exact⟨xs,e,Ce (P4 hpm) hp rr⟩
 grind [P4]
theorem abM {g2:Gh}(hpm:g2.pm=g.pm){v:AV}{x:Value}{Ov:Nat->Nat}(hp:DC v=true)(rv:RV g w v x Ov):RV g2 w v x Ov:=by
 rcases adM v with ⟨cs,rfl⟩|⟨e1,e2,e3⟩
 .obtain⟨xs,e,rr⟩:=rv;exact⟨xs,e,Ce (Qe hpm) hp rr⟩
 grind [Qe]
end
section
variable {P:Program}{g:Gh}{w:World}{t:E_}{O:Nat->Nat}{st st':St}{a:AV}{o:Oper}{r:cH}
def S.extF (s:S P g w st t O){g2:Gh}{w':World}(h:bg g w g2 w' λ_=>False)(ho:g2.obj=g.obj)(hp:∀b o,g2.pm b o->b<w'.heap.size):S P g2 w' st t O:=by
 obtain⟨Oe,Oh,re,rh,hs⟩:=s.parts;exact⟨s.se,s.sh,⟨Oe,Oh,ja.ext h re s_,rh.imp' λk v O1 _ _ q=>q.ext0 h s_,hs⟩,s.le,
  λb hb=>aH (s.hi b hb) h.size,λid hid=>by rw[ho];grind [fresh],hp⟩
theorem WK (u:AV):jb (nA u)=jb u:=by
 have h1:∀v:AV,iV (lV v)=iV v:=λv=>by cases v<;>rfl
 have h2:∀v:AV,iW (kX v)=iW v:=λv=>by
  cases v<;>try rfl
  grind [kX,iW]
 cases u<;>try rfl
 .rename_i cs;exact h2 (.agg cs)
 grind [nA,jb]
def abQ {e:aK}{hs hs0:HS}{O':Nat->Nat}{vs:D_}{v0 v:AV}{x:Value}{w':World}(s':S P g w ⟨e,hs⟩ t O')(hle:∀b,O' b<=O b)
  (hp:fm P (g.view w λb=>vs.any ue=true∧O' b≠0) w zero v0 hs0 (.returned x) w')
  (hres:(match fq hs0.heap v0 with|none=>none|some v=>match vs.any ue with|false=>some v|true=>match jb v with|true=>some v|false=>some (Hx v))=some v) :
  ∃g' Oa O1,zg P g w t O ⟨e,hs⟩ v x w' g' Oa O1:=by
 obtain⟨g1,Or,Oh,h1,h2,h3,h4,h5,h6⟩:=hp;have hz:∀b,b<w.heap.size->Or b+Oh b=0:=λb hb=>by simp_all
 split at hres
 .simp_all
 .rename_i v1 hv1;obtain⟨u,Ov',rfl,ru,lu,pu⟩:=abE h2 hv1 h1;have hcell:∀b o,g.pm b o->w'.cell? ⟨b,o,none⟩=w.cell? ⟨b,o,none⟩:=λb o h=>(h3.pm b o (.inl h)).2
  have hblk:∀b,b<w.heap.size->w'.heap[b]?=w.heap[b]?:=λb hb=>(h3.blk b hb s_).1
  have fin:∀(g2:Gh) (Ow:Nat->Nat),(∀b,Ow b<=Ov' b)->bg g w g2 w' (λ_=>False)->g2.obj=g.obj->(∀b o,g2.pm b o->b<w'.heap.size)->RV g2 w' v x Ow->∃g' Oa O1,zg P g w t O ⟨e,hs⟩ v x w' g' Oa O1:=by
   intro g2 Ow hle2 hx ho hpl hv;have lu:∀b,Ow b<=Or b+Oh b:=λb=>aC (hle2 b) (lu b)
   refine⟨g2,Ow,O',hv,s'.extF hx ho hpl,hx.mono λ_ _ h=>h.elim,λb=>?_,λb hb=>?_,λb hb=>?_⟩
   .by_cases hb:b<w.heap.size
    .have:=hz b hb;have:=lu b;have:=s'.le b;omega
    grind [S.out]
   all_goals grind [S.hi]
  by_cases hf:jb u=true
  .have hb:dZ u=nA u:=by simp[dZ,hf]
   have hv:v=nA u:=by
    grind [WK]
   refine fin g Ov' (λ_=>ai _) ⟨λ_ _ h=>⟨h,rfl,rfl,rfl⟩,λb o h=>⟨h,hcell b o h⟩,λb hb _=>⟨hblk b hb,λ_ h=>h⟩,h3.size,h3.lp,h3.same⟩ rfl (λb o h=>aH (s'.pmlt b o h) h3.size) ?_
   grind [ac6,S.pmlt]
  .have hb:dZ u=u:=by simp[dZ,hf]
   cases hnf:vs.any ue with
   |false =>
    have hold:∀b o,(g.view w λb=>vs.any ue=true∧O' b≠0).pm b o->g.pm b o:=λb o h=>h.elim id λh=>by simp_all
    refine fin { g with pm:=g1.pm } Ov' (λ_=>ai _) ⟨λ_ _ h=>⟨h,rfl,rfl,rfl⟩,λb o h=>⟨(h3.pm b o (.inl h)).1,hcell b o h⟩,λb hb _=>⟨hblk b hb,λo h=>hold b o ((h3.blk b hb s_).2 o h)⟩,h3.size,h3.lp,h3.same⟩ rfl
     (λb o h=>h2.pmlt b o h) ?_
    grind [abM]
   |true =>
    obtain⟨Ow,qv,lw⟩:=adg (g2:=g) pu ru λb hb o hpm=>by
     grind [S.pmlt]
    refine fin g Ow lw ⟨λ_ _ h=>⟨h,rfl,rfl,rfl⟩,λb o h=>⟨h,hcell b o h⟩,λb hb _=>⟨hblk b hb,λ_ h=>h⟩,h3.size,h3.lp,h3.same⟩ rfl (λb o h=>aH (s'.pmlt b o h) h3.size) ?_
    simp_all
def aj8 {ro:H_}{f:FuncId}{args:S_}(hr:fV P r)(s:S P g w st t O)(h:Bn r f args st=some (a,st'))(hc:aZ P (.call f args) o.op=true) :
  OpW ro P g w t O st' a o:=by
 obtain⟨dst,op,ty,pos,aft,gd⟩:=o;simp only[aZ]at hc;split at hc
 .rename_i c;simp only[af]at hc;obtain⟨h1,h2⟩:=hc;obtain⟨callee,as,ats⟩:=c;have:=Fb h1;subst this;unfold Bn at h;split at h
  .rename_i vs e hrd;split at h
   .rename_i v hcall;obtain⟨Ov,O',rvs,s',l⟩:=s.rdAll h2 hrd;unfold dI at hcall;split at hcall
    .simp_all
    .rename_i ds hds;split at hcall
     .simp_all
     .rename_i v0 hs0 hc0;obtain⟨hfn,hk⟩:=hr hc0;have rvc:=Lx (st:=⟨e,st.hs⟩) (K:=λb=>vs.any ue=true∧O' b≠0) s' hds (λh b hb=>⟨h,hb⟩) rvs;have hk:=hk rvc (al5 s' _) (λb=>by simp) (λb hb=>by simp at hb);intro ds' next Q hn
      have hrun:(execOp (ev t) ⟨dst,.call ⟨.value (.func f),as,ats⟩,ty,pos,aft,gd⟩).run P w=.ok (.enter f (as.toList.map (ev t)).toArray) w:=by
       simp only[execOp,resolve,aB,ev,Deferred.ofValue,cD,aS,invoke];rw[tH hfn]
       congr 2
       grind
      rw[hrun,Oper.uponIn_enter];refine⟨λh=>by grind [Fence.wide],I5 (hk.mono λen w' hp=>?_)⟩
      cases en with
      |returned x =>
       obtain⟨g',Oa,O1,k⟩:=abQ (O:=O) (vs:=vs) s' (λb=>by grind) hp hcall
       grind
      |panicked c=>exact hp.elim
      |outgrown=>exact hp.elim
   simp_all
  simp_all
 simp_all
end
abbrev bq:=@List.mem_append
def Bl:bD->Exit
 |.normal=>.normal
 |.exit i=>.exit i
 |.goto l=>.goto l
 |.ret=>.ret
def iy (w:World)(O:Nat->Nat)(lo:Nat):List Deferred->Prop
 |[]=>True
 |d::ds=>(∃r,d.target=.collected r∧lo<=r∧w.heap[r]?=some (.deferred (some []))∧O r=0∧∀d'∈ds,∀r',d'.target=.collected r'->r'<r)∧iy w O lo ds
def Aj (w:World)(ro:H_):Prop:=∀l,ro=some l->∃rc:Go.Loop,w.heap[l]?=some (.loop rc)
def bI (P:Program)(g:Gh)(w:World)(t:E_)(O:Nat->Nat)(ds:List Deferred)(ro:H_)(o:bD)(st':St)(e:Exit)(a':Act)(w':World):Prop :=
 e=Bl o∧∃g' O' ms,fk P g w t O st' a'.tmps w' g' O'∧a'.defers=ms++ds∧iy w' O' w.heap.size ms∧(ro.isSome=true->ms=[])
section
variable {P:Program}{g:Gh}{w:World}{t:E_}{O:Nat->Nat}{st st':St}{a:AV}{o:Oper}{r:cH}
def Aj.ext {ro:H_}(h:Aj w ro){g g':Gh}{w':World}{T:Nat->Prop}(hx:bg g w g' w' T):Aj w' ro:=λl hl=>let ⟨rc,hrc⟩:=h l hl;hx.lp l rc hrc
def iy.after {lo:Nat}{g1 g2:Gh}{w1 w2:World}{O1 O2:Nat->Nat}(hx:bg g1 w1 g2 w2 λb=>O1 b≠0)(ho:∀b,b<w1.heap.size->O2 b<=O1 b) :
  ∀{ms:List Deferred},iy w1 O1 lo ms->iy w2 O2 lo ms
 |[],_=>trivial
 |d::ds,⟨⟨r,h1,h2,h3,h4,h5⟩,h6⟩=>by
  exact⟨⟨r,h1,h2,by grind [bg.blk],d_,h5⟩,iy.after hx ho h6⟩
def iy.lt {lo:Nat}:∀{ms:List Deferred},iy w O lo ms->∀d∈ms,∀r,d.target=.collected r->r<w.heap.size
 |[],_,d,hd,_,_=>by simp at hd
 |m::ms,⟨⟨r,h1,h2,h3,h4,h5⟩,h6⟩,d,hd,r',hr=>by
  grind
def iy.append {lo1 lo2:Nat}(hlo:lo1<=lo2){ms1:List Deferred}(h1:iy w O lo1 ms1)(hlt:∀d∈ms1,∀r,d.target=.collected r->r<lo2) :
  ∀{ms2:List Deferred},iy w O lo2 ms2->iy w O lo1 (ms2++ms1)
 |[],_=>h1
 |d::ds,⟨⟨r,k1,k2,k3,k4,k5⟩,k6⟩=>by
  refine⟨⟨r,k1,aC hlo k2,k3,k4,λd' hd' r' hr'=>?_⟩,iy.append hlo h1 hlt k6⟩;rcases bq.1 hd' with h|h<;>grind
def bI.comp {ds ms1:List Deferred}{ro:H_}{st1 st2:St}{t1:E_}{w1:World}{g1:Gh}{O1:Nat->Nat}(G:fk P g w t O st1 t1 w1 g1 O1)(hm:iy w1 O1 w.heap.size ms1)
  (hro:ro.isSome=true->ms1=[]){out:bD}{e:Exit}{a2:Act}{w2:World}(h:bI P g1 w1 t1 O1 (ms1++ds) ro out st2 e a2 w2):bI P g w t O ds ro out st2 e a2 w2:=by
 obtain⟨he,g2,O2,ms2,G2,hd,hm2,hr2⟩:=h;refine⟨he,g2,O2,ms2++ms1,G.trans G2,u_,?_,λh=>by simp_all⟩;exact iy.append G.ext.size (hm.after G2.ext G2.old) (λd hd r hr=>hm.lt d hd r hr) hm2
def gE (P:Program)(r:cH):Prop :=
 ∀{v:VC}{st:St}{o:bD}{st':St},r.code v st=some (o,st')->∀{c:Code}{n:Nat},Mt P n v c->∀{g:Gh}{w:World}{t:E_}{O:Nat->Nat},t.size=n->S P g w st t O->
  ∀(ro:H_) (ds:List Deferred),Aj w ro->c.wpIn (FR ro) 0 P (bI P g w t O ds ro o st') ⟨t,ds⟩ w
def bg.loopBlk {b:Nat}{rc rc':Go.Loop}(hb:w.heap[b]?=some (.loop rc)):bg g w g (Vm.setBlk w b (.loop rc')) λx=>x=b where
 obj _ _ h:=⟨h,rfl,rfl,rfl⟩
 pm b' o h:=⟨h,by
  grind [World.cell?,dB,fN]⟩
 blk b' _ h:=⟨fN h,λ_ h=>h⟩
 size:=s_
 lp b' r h:=by
  grind [dB,fN]
 same:=⟨rfl,rfl,wC hb (by grind [fc]) (by grind [fc])⟩
def S.storeG {st:St}(s:S P g w st t O){id:Nat}{ob:Obj}(hg:get st.hs.heap id=some ob) :
  ∃O1 Oz:Nat->Nat,iF P g w id ob O1∧(∀b,O1 b+Oz b<=O b)∧∀(w':World) (b:Nat) (ob':Obj) (O1':Nat->Nat),
   1<=O1 b->bg g w g w' (λx=>x=b)->iF P g w' id ob' O1'->(∀x,O1' x+Oz x<=1)->(∀x,O1' x≠0->x<w'.heap.size)->
   S P g w' ⟨st.env,⟨put st.hs.heap id ob',st.hs.next⟩⟩ t (λx=>O1' x+Oz x):=by
 obtain⟨Oe,Oh,re,rh,ho⟩:=s.parts;obtain⟨O1,O2,q,r2,hs⟩:=RL.take rh hg;refine⟨O1,λb=>Oe b+O2 b,q,λb=>by grind,λw' b ob' O1' h1 hx q' hle hhi=>?_⟩;have hone:O b<=1:=s.le b;have hfree:Oe b=0∧O2 b=0:=d_;have re':=ja.ext hx re (λy hy e=>by simp_all);have r2':yk P g w' (del st.hs.heap id) O2:=r2.imp' λk v Q _ hQ q=>q.ext0 hx (λy hy e=>by grind)
 obtain⟨O3,r3,h3⟩:=RL.put s.sh r2' q';refine⟨s.se,s.sh.put _ _,⟨Oe,O3,re',r3,λx=>by grind⟩,hle,λx hx0=>?_,s.fresh,
  λb o hp=>aH (s.pmlt b o hp) hx.size⟩
 by_cases h:O1' x=0
 .refine aH (s.hi x ?_) hx.size
  grind
 simp_all
def S.setLoop {st:St}(s:S P g w st t O){id:Nat}{snap:aK}{ps:C_}{as bd:VC}{busy:Bool}{pend:BD_}(hg:get st.hs.heap id=some (.loop snap ps as bd busy pend)) :
  ∃b rc,g.obj id=some b∧w.heap[b]?=some (.loop rc)∧rc.state=(if busy then .busy else if pend.isNone then .ready else .done)∧rc.pending=pend.bind ko∧rc.params=ps.toArray∧
   Mt P rc.tmps.size as rc.assign∧Mt P rc.tmps.size bd rc.body∧bV snap∧ja g w snap rc.tmps zero∧(∀p∈ps,p<rc.tmps.size)∧
   ∀(busy':Bool) (pend':BD_) (rc':Go.Loop),rc'={ rc with state:=(if busy' then .busy else if pend'.isNone then .ready else .done),pending:=pend'.bind ko }->
    ∃O',fk P g w t O ⟨st.env,⟨put st.hs.heap id (.loop snap ps as bd busy' pend'),st.hs.next⟩⟩ t (Vm.setBlk w b (.loop rc')) g O':=by
 obtain⟨O1,Oz,q,hsum,hst⟩:=s.storeG hg;obtain⟨b,rc,h1,h2,h3,h4,h5,h6,h7,h8,h9,h10,h11⟩:=q;refine⟨b,rc,h1,h2,h3,h4,h5,h6,h7,h8,h9,h10,λbusy' pend' rc' e=>?_⟩;have hx:bg g w g (Vm.setBlk w b (.loop rc')) λx=>x=b:=bg.loopBlk h2
 have hO1:O1 b=1:=u_;refine⟨_,hst (Vm.setBlk w b (.loop rc')) b (.loop snap ps as bd busy' pend') O1 o_ hx ?_ (λx=>by have:=hsum x;have:=s.le x;omega) (λx hx0=>?_),hx.mono (λx _ e=>by grind),λx _=>hsum x,rfl⟩
 .subst e;exact⟨b,_,h1,dB (gY h2),rfl,rfl,h5,h6,h7,h8,ja.ext hx h9 s_,h10,h11⟩
 grind [tx,Fv]
end
section
variable {P:Program}{g:Gh}{w:World}{t:E_}{O:Nat->Nat}{st st':St}{a:AV}{o:Oper}{r:cH}
def QI:∀{ps:C_}{vs:D_}{e e':aK}{hs:HS}{t:E_}{O:Nat->Nat},s9 e ps vs=some e'->S P g w ⟨e,hs⟩ t O->∀{xs:M_}{Ov:Nat->Nat},RVs g w vs xs Ov->
  (∀p∈ps,p<t.size)->(∀b,Ov b+O b<=1)->(∀b,Ov b≠0->b<w.heap.size)->
  ∃O',S P g w ⟨e',hs⟩ ((ps.zip xs).foldl (fun(t:E_) (q:Nat×Value)=>t.setIfInBounds q.1 q.2) t) O'∧(∀b,O' b<=Ov b+O b)∧xs.length=ps.length∧
   ((ps.zip xs).foldl (fun(t:E_) (q:Nat×Value)=>t.setIfInBounds q.1 q.2) t).size=t.size
 |[],[],e,e',hs,t,O,h,s,xs,Ov,rv,hp,hle,hhi=>by
  simp only[s9,ae]at h;obtain⟨rfl,_⟩:=rv;exact⟨O,u_,λb=>by omega,rfl,rfl⟩
 |p::ps,v::vs,e,e',hs,t,O,h,s,xs,Ov,rv,hp,hle,hhi=>by
  simp only[s9]at h;obtain⟨x,ys,O1,O2,rfl,r1,r2,hs2⟩:=rv;obtain⟨O3,s3,l3⟩:=s.setTmp (hp p (.head _)) r1 (λb=>by grind) (λb hb=>hhi b u_);obtain⟨O4,s4,l4,hl,hsz⟩:=QI h s3 r2 (λq hq=>by simp_all) (λb=>by grind) (λb hb=>hhi b u_);exact⟨O4,u_,λb=>by grind,by simp[hl],u_⟩
 |[],_::_,_,_,_,_,_,h,_,_,_,_,_,_,_=>by simp[s9]at h
 |_::_,[],_,_,_,_,_,h,_,_,_,_,_,_,_=>by simp[s9]at h
def vZ {b:Nat}{rc:Go.Loop}(h:w.heap[b]?=some (.loop rc)):(Instr.getLoop b).run P w=.ok rc w:=by
 simp_all [Instr.getLoop,getObj,Sem.run]
def FD {b:Nat}{rc rc':Go.Loop}(h:w.heap[b]?=some (.loop rc)):(setObj b (.loop rc')).run P w=.ok () (setBlk w b (.loop rc')):=by
 grind [setObj,Sem.run,setBlk]
def adp (hc:gE P r){l:Nat}{args:D_}{hs hs':HS}{v:AV}(h:rW r l args hs=some (v,hs')){xs:M_}{Oa Oh:Nat->Nat}(rvs:RVs g w args xs Oa)
  (sh:S P g w ⟨[],hs⟩ #[] Oh)(hle:∀b,Oa b+Oh b<=1)(hhi:∀b,Oa b≠0->b<w.heap.size)(ro:H_) :
  ∃b,∃rc:Go.Loop,∃tm,g.obj l=some b∧(Instr.yield b xs.toArray).run P w=.ok (.round b rc.fn tm rc.assign rc.body) w∧
   RoundIn (FR ro) 0 P b rc.fn tm rc.assign rc.body w (fm P g w (λb=>Oa b+Oh b) v hs'):=by
 unfold rW at h;split at h
 .rename_i snap ps as bd hg;split at h
  .simp at h
  .rename_i e hput;split at h
   .rename_i st1 hass;split at h
    .rename_i snap1 ps1 as1 bd1 hg1;split at h
     .simp at h
     .rename_i o st2 hbd;split at h
      .rename_i snap2 ps2 as2 bd2 hg2;obtain⟨b,rc,h1,h2,h3,h4,h5,h6,h7,h8,h9,h10,_⟩:=sh.setLoop (st:=⟨[],hs⟩) hg;have s0:S P g w ⟨snap,hs⟩ rc.tmps λb=>zero b+Oh b:=S.join h8 h9 sh (λb=>by grind) (λb hb=>by simp at hb)
       obtain⟨O1,s1,l1,hlen,hsz⟩:=QI hput s0 rvs h10 (λb=>by simp_all) hhi;refine⟨b,rc,_,h1,?_,roundIn_of_wpIn (F:=FR ro) (tmps:=(ps.zip xs).foldl (fun(t:E_) (q:Nat×Value)=>t.setIfInBounds q.1 q.2) rc.tmps) trivial ?_⟩
       .simp_all [Instr.yield,vZ]
       .refine wpIn_mono (hc hass h6 hsz s1 (some b) [] (λl hl=>by simp_all)) λen a1 w1 hp=>?_
        obtain⟨rfl,g1,O1',ms,G1,hd1,_,hms⟩:=hp;have hms:=hms rfl;subst hms;obtain⟨t1,d1⟩:=a1;subst hd1;obtain⟨b1,rc1,k1,k2,k3,k4,k5,k6,k7,k8,k9,k10,kset⟩:=G1.st.setLoop hg1;have hb1:b1=b:=by have:=(G1.ext.obj l b h1).1;simp_all
        subst hb1;obtain⟨O2,G2⟩:=kset true none { rc1 with state:=.busy } (by simp[k4]);refine⟨setBlk w1 b1 (.loop { rc1 with state:=.busy }),?_,?_⟩
        .simp_all [Instr.beginRound,vZ,FD]
        .have hsz1:t1.size=rc.tmps.size:=by rw[G1.size,hsz]
         refine wpIn_mono (hc hbd h7 hsz1 G2.st (some b1) [] (λl hl=>by grind [dB])) λen2 a2 w3 hp2=>?_
         obtain⟨rfl,g2,O3,ms2,G3,_,_,_⟩:=hp2;obtain⟨b2,rc2,m1,m2,m3,m4,m5,m6,m7,m8,m9,m10,mset⟩:=G3.st.setLoop hg2;have hb2:b2=b1:=by have:=(G3.ext.obj l b1 k1).1;simp_all
         subst hb2;have fin:∀(pend:BD_),(v,hs')=(.bool pend.isNone,⟨put st2.hs.heap l (.loop snap2 ps2 as2 bd2 false pend),st2.hs.next⟩)->pend.bind ko=ko o->(pend.bind ko).isNone=pend.isNone->
           ∃(vv:Value) (w':World),(Instr.endRound b2 (ko o)).run P w3=.ok vv w'∧fm P g w (λb=>Oa b+Oh b) v hs' (.returned vv) w':=by
          intro pend hv hpo hpn;obtain⟨rfl,rfl⟩:=hv;obtain⟨O4,G4⟩:=mset false pend { rc2 with state:=(if (ko o).isNone then .ready else .done),pending:=ko o } u_;refine⟨.bool (ko o).isNone,setBlk w3 b2 (.loop { rc2 with state:=(if (ko o).isNone then .ready else .done),pending:=ko o }),?_,?_⟩
          .simp_all [Instr.endRound,vZ,FD]
          .have G:=((G1.trans G2).trans G3).trans G4;obtain⟨Oe4,Oh4,re4,sh4,ho4⟩:=G.st.split;refine⟨g2,zero,Oh4,?_,sh4,G.ext.mono (λb _ hb=>by grind),λb=>by have:=G.st.le b;grind,λb hb=>?_,λb hb=>by simp at hb⟩
           all_goals grind [C8,fk.old]
         cases o with
         |normal =>
          simp only[ae]at h;exact fin none h.symm rfl rfl
         |exit i =>
          simp only[ae]at h;exact fin (some (.exit i)) h.symm rfl rfl
         |goto i =>
          simp only[ae]at h;exact fin (some (.goto i)) h.symm rfl rfl
         |ret =>
          simp only[ae]at h;exact fin (some .ret) h.symm rfl rfl
      simp_all
    simp_all
   simp_all
 simp_all
end
section
variable {P:Program}{g:Gh}{w:World}{t:E_}{O:Nat->Nat}{st st':St}{a:AV}{o:Oper}{r:cH}
def afU {ro:H_}{f:Rd}{args:S_}(hr:fV P r)(hcs:gE P r)(s:S P g w st t O)(h:AG r f args st=some (a,st'))(hc:aZ P (.callv f args) o.op=true) :
  OpW ro P g w t O st' a o:=by
 obtain⟨dst,op,ty,pos,aft,gd⟩:=o;simp only[aZ]at hc;split at hc
 .rename_i c;simp only[af]at hc;obtain⟨h1,h2⟩:=hc;obtain⟨callee,as,ats⟩:=c;simp only at h1 h2;split at h1
  .rename_i fx;unfold AG at h;split at h
   .rename_i fv e1 hf;split at h
    .rename_i vs e hrd;split at h
     .rename_i v hs' hcall;obtain⟨rfl,rfl⟩:=h;obtain⟨Of,O1,rf,s1,l1⟩:=s.rd h1 hf;obtain⟨Ov,O',rvs,s',l⟩:=s1.rdAll (st:=⟨e1,st.hs⟩) h2 hrd;obtain⟨Oe,Oh,re,sh,ho⟩:=s'.split;have hle:∀b,Ov b+(Oe b+Oh b)<=O b:=λb=>by grind
      have hle1:∀b,Ov b+Oh b<=1:=λb=>by have:=hle b;have:=s.le b;omega
      have hhi:∀b,Ov b≠0->b<w.heap.size:=λb hb=>s.hi b (by grind)
      unfold cW at hcall;split at hcall
      .rename_i gf first caps
       obtain⟨hfn,hk⟩:=hr hcall;obtain⟨⟨xs,ys,hev,r1,r2⟩,_⟩:=rf;have hrv:RVs g w (first++(vs++caps)) (xs.toList++(as.toList.map (ev t)++ys.toList)) (λb=>zero b+(Ov b+zero b)):=r1.join (rvs.join r2);have hO:(λb=>zero b+(Ov b+zero b))=Ov:=u_;rw[hO]at hrv;have hk:=hk hrv sh hle1 hhi;refine NS (hs:=st.hs) s'.se re hle s ?_ hk
       simp_all [execOp,resolve,Deferred.ofValue,invoke,tH]
      .obtain⟨⟨b0,hb0,hev⟩,_⟩:=rf;obtain⟨b,rc,tm,hb,hy,hround⟩:=adp hcs hcall rvs sh hle1 hhi ro;rw[hb0]at hb;simp only[ae]at hb;subst hb;intro ds next Q hn
       have hrun:(execOp (ev t) ⟨dst,.call ⟨.value fx,as,ats⟩,ty,pos,aft,gd⟩).run P w=.ok (.round b0 rc.fn tm rc.assign rc.body) w:=by
        simp only[execOp,resolve,aB,hev,Deferred.ofValue,cD,aS,invoke];rw[<-hy]
        congr 2
        grind
       rw[hrun,Oper.uponIn_round];refine⟨λh=>by grind [Fence.wide],hround.mono λen w' hp=>?_⟩
       cases en with
       |returned x =>
        obtain⟨g',Oa,O',k⟩:=CL (hs:=st.hs) s'.se re hle s hp
        grind
       |panicked c=>exact hp.elim
       |outgrown=>exact hp.elim
      simp_all
     simp_all
    simp_all
   simp_all
  simp_all
 simp_all
def WD {t:E_}:∀{e:aK}{O:Nat->Nat},ja g w e t O->ja g w (e.map λkv=>(kv.1,share kv.2)) t zero
 |[],_,_=>λ_=>rfl
 |(k,v)::e,O,r=>by
  obtain⟨O1,O2,⟨q1,q2⟩,rr,_⟩:=r;exact⟨zero,zero,⟨q1,RV.share _ _ _ q2⟩,WD rr,λ_=>rfl⟩
def agE {e:aK}(h:bV e):bV (e.map λkv=>(kv.1,share kv.2)):=by
 grind [bV]
def Uy {ro:H_}(hro:Aj w ro)(fn:FuncId)(ps:Array Nat)(as bd:Code) :
  ∃(w1:World) (mark:List Deferred) (rc:Go.Loop),(Instr.enterLoop fn t ps as bd ro).run P w=.ok (w1.heap.size,mark) (w1.alloc (.loop rc))∧
   rc.state=.ready∧rc.pending=none∧rc.params=ps∧rc.assign=as∧rc.body=bd∧rc.tmps=t∧
   ((∃l,ro=some l∧w1=w∧mark=[])∨(ro=none∧w1=w.alloc (.deferred (some []))∧mark=[{ target:=.collected w.heap.size,args:=#[] }])):=by
 cases ro with
 |some l =>
  obtain⟨rc0,h0⟩:=hro l rfl;refine⟨w,[],{ state:=.ready,pending:=none,fn,tmps:=t,params:=ps,assign:=as,body:=bd,defers:=rc0.defers },?_,rfl,rfl,rfl,rfl,rfl,rfl,.inl ⟨l,rfl,rfl,rfl⟩⟩
  simp_all [Instr.enterLoop,vZ]
 |none =>
  refine⟨w.alloc (.deferred (some [])),_,{ state:=.ready,pending:=none,fn,tmps:=t,params:=ps,assign:=as,body:=bd,defers:=w.heap.size },?_,rfl,rfl,rfl,rfl,rfl,rfl,.inr ⟨rfl,rfl,rfl⟩⟩;simp[Instr.enterLoop]
end
section
variable {P:Program}{g:Gh}{w:World}{t:E_}{O:Nat->Nat}{st st':St}{a:AV}{o:bD}{r:cH}
def S.otherG {w':World}{b:Nat}(s:S P g w st t O)(hx:bg g w g w' λx=>x=b)(hO:O b=0):S P g w' st t O:=by
 obtain⟨Oe,Oh,re,rh,ho⟩:=s.parts;have re':=ja.ext hx re (λy hy e=>by simp_all);have rh':yk P g w' st.hs.heap Oh:=rh.imp' λk v Q _ hQ q=>q.ext0 hx (λy hy e=>by grind)
 exact⟨s.se,s.sh,⟨Oe,Oh,re',rh',ho⟩,s.le,λb hb=>aH (s.hi b hb) hx.size,s.fresh,λb o h=>aH (s.pmlt b o h) hx.size⟩
def S.endLoop {e:aK}{hs:HS}(s:S P g w ⟨e,hs⟩ t O){id:Nat}{snap:aK}{ps:C_}{as bd:VC}{pend:BD_}(hg:get hs.heap id=some (.loop snap ps as bd false pend)){b:Nat}(hob:g.obj id=some b) :
  ∃w' O',(Instr.endLoop b).run P w=.ok (pend.bind ko) w'∧S P g w' ⟨e,⟨del hs.heap id,hs.next⟩⟩ t O'∧bg g w g w' (λx=>x=b)∧∀x,O' x<=O x:=by
 obtain⟨Oe,Oh,re,rh,ho⟩:=s.parts;obtain⟨O1,O2,q,r2,hs2⟩:=RL.take rh hg;obtain⟨b',rc,h1,h2,h3,h4,h5,h6,h7,h8,h9,h10,h11⟩:=q;rw[hob]at h1;simp only[ae]at h1;subst h1;have hle2:∀x,Oe x+O2 x<=O x:=λx=>by grind
 have s2:S P g w ⟨e,⟨del hs.heap id,hs.next⟩⟩ t (λx=>Oe x+O2 x) :=
  ⟨s.se,s.sh.del id,⟨Oe,O2,re,r2,λ_=>rfl⟩,λx=>aC (hle2 x) (s.le x),λx hx=>s.hi x d_,s.fresh,s.pmlt⟩
 have hx:bg g w g (setBlk w b (.loop { rc with state:=.exhausted })) λx=>x=b:=bg.loopBlk h2
 refine⟨setBlk w b (.loop { rc with state:=.exhausted }),_,?_,s2.otherG hx ?_,hx,hle2⟩
 .have hb:(rc.state == LoopState.busy)=false:=by
   grind
  simp_all [Instr.endLoop,vZ,FD]
 .have:=h11 b;rw[wT]at this;have:=hs2 b;have:=ho b;have:=s.le b;omega
def ZR (hr:fV P r){f:Rd}{x:Operand}{ps:C_}{as bd:VC}{c d:Code}(h:AO r f ps as bd st=some (o,st'))(hf:bO f x=true)
  (hps:∀p∈ps,p<t.size)(ha:Mt P t.size as c)(hb:Mt P t.size bd d)(s:S P g w st t O)(ro:H_)(ds:List Deferred)(hro:Aj w ro) :
  (Code.rangeFunc x ps.toArray c d).wpIn (FR ro) 0 P (bI P g w t O ds ro o st') ⟨t,ds⟩ w:=by
 unfold AO at h;split at h
 .rename_i gf first caps e hrd
  split at h
  .rename_i v hs hcall;split at h
   .rename_i snap2 ps2 as2 bd2 pend hget;obtain⟨Of,O1,rf,s1,l1⟩:=s.rd hf hrd;simp only[RV]at rf;obtain⟨⟨xs,ys,hev,r1,r2⟩,_⟩:=rf;have l1':∀b,O1 b<=O b:=λb=>by simp_all
    refine wpIn_rangeFunc λfn hF=>?_
    obtain⟨w1,mark,rc,hen,e1,e2,e3,e4,e5,e6,hmark⟩:=Uy (P:=P) (t:=t) hro fn ps.toArray c d;have hx1:bg g w g w1 λ_=>False:=by
     rcases hmark with ⟨_,_,rfl,_⟩|⟨_,rfl,_⟩
     .exact .refl _ _ _
     .exact bg.alloc s.pmlt _ _
    have sw1:S P g w1 ⟨e,st.hs⟩ t O1:=s1.extF hx1 rfl λb o h=>aH (s.pmlt b o h) hx1.size
    have hfresh:=sw1.fresh st.hs.next (ai _)
    have hx0:bg g w1 (g.add st.hs.next w1.heap.size 0 0 0) (w1.alloc (.loop rc)) λ_=>False:=(bg.alloc sw1.pmlt _ _).add hfresh _ _ _ _
    obtain⟨Oe1,Oh1,re1,rh1,ho1⟩:=sw1.parts;have hobj:(g.add st.hs.next w1.heap.size 0 0 0).obj st.hs.next=some w1.heap.size:=by simp[Gh.add]
    have hO1out:O1 w1.heap.size=0:=sw1.out (ai _);have hnew:=sw1.new (blk:=.loop rc) (o:=.loop (e.map λkv=>(kv.1,share kv.2)) ps as bd false none) (base:=0) (esz:=0) (bsz:=0) (O1:=one w1.heap.size) (by
     simp only[iF];refine⟨w1.heap.size,rc,hobj,im _ _,e1,e2,e3,u_,u_,agE sw1.se,?_,u_,λ_=>rfl⟩;rw[e6];exact ja.ext hx0 (WD re1) s_) (λb=>by
      by_cases hb:b=w1.heap.size
      .simp_all
      .have:=sw1.le b;grind [one]) (λb hb=>by grind [tx])
    obtain⟨s2,hx2⟩:=hnew;obtain⟨Oe,Oh,re,sh,ho⟩:=s2.split;obtain⟨hfn,hk⟩:=hr hcall;have hxa:=hx1.trans hx0 λ_ _ h=>h
    have r1':=RVs.ext hxa _ _ _ r1 s_;have r2':=RVs.ext hxa _ _ _ r2 s_;have ry:RVs (g.add st.hs.next w1.heap.size 0 0 0) (w1.alloc (.loop rc)) [.yield st.hs.next] [.func (.yield w1.heap.size) #[] #[]] zero:=by
     simp only[RVs,RV];exact⟨_,[],zero,zero,rfl,⟨⟨w1.heap.size,hobj,rfl⟩,λ_=>rfl⟩,⟨rfl,λ_=>rfl⟩,λ_=>rfl⟩
    have hrv:RVs (g.add st.hs.next w1.heap.size 0 0 0) (w1.alloc (.loop rc)) (first++([.yield st.hs.next]++caps)) (xs.toList++([.func (.yield w1.heap.size) #[] #[]]++ys.toList)) zero:=by
     have:=r1'.join (ry.join r2');omega
    have hle:∀b,zero b+Oh b<=1:=λb=>by have:=s2.le b;grind
    have hk:=hk hrv sh hle (λb hb=>by simp at hb);generalize hargs:(xs.toList++([Value.func (.yield w1.heap.size) #[] #[]]++ys.toList)).toArray=args at hk;refine⟨w1.heap.size,mark,w1.alloc (.loop rc),{ target:=.fn (.func gf) ys,args:=xs++#[.func (.yield w1.heap.size) #[] #[]] },w1.alloc (.loop rc),gf,
     args,w1.alloc (.loop rc),hen,?_,λ_ _=>trivial,?_,λh=>by grind [Fence.wide],I5 (hk.mono λen w3 hp=>?_)⟩
    .have hevx:(⟨t,ds⟩:Act).eval x=.func (.func gf) xs ys:=by simp_all [C9]
     have hconst:∀u:Value,(⟨t,ds⟩:Act).eval (.const u)=u:=λ_=>rfl
     simp_all [resolve,Deferred.ofValue]
    .simp only[invoke];rw[tH hfn,<-hargs]
     congr 2
     grind
    .cases en with
     |panicked _=>exact hp.elim
     |outgrown=>exact hp.elim
     |returned y =>
      obtain⟨g2,Oa,O3,k⟩:=CL (hs:=hs) (Ov:=zero) s2.se re (λb=>by simp_all) s2 hp;have hob2:g2.obj st.hs.next=some w1.heap.size:=(k.ext.obj _ _ hobj).1;obtain⟨w4,O4,hend,s4,hx4,l4⟩:=k.st.endLoop hget hob2;have hlo:w.heap.size<=w1.heap.size:=hx1.size;have G:fk P g w t O ⟨e,⟨del hs.heap st.hs.next,hs.next⟩⟩ t w4 g2 O4:=by
       refine⟨s4,(((hxa.mono (T:=λb=>O b≠0) λ_ _ h=>h.elim).trans k.ext λb hb hq=>?_).trans hx4 λb hb hq=>?_),λb hb=>?_,rfl⟩
       .grind [one]
       .omega
       .have hb2:b<(w1.alloc (.loop rc)).heap.size:=aH hb hxa.size
        grind [one,zg.old]
      have hM:iy w4 O4 w.heap.size mark∧(ro.isSome=true->mark=[]):=by
       rcases hmark with ⟨_,hl,_,rfl⟩|⟨hn,rfl,rfl⟩
       .exact⟨trivial,λ_=>rfl⟩
       .refine⟨⟨⟨w.heap.size,rfl,ai _,?_,?_,λd hd=>by simp at hd⟩,trivial⟩,λh=>by simp_all⟩
        .have hne:w.heap.size≠(w.alloc (.deferred (some []))).heap.size:=s_;have hlt:w.heap.size<((w.alloc (.deferred (some []))).alloc (.loop rc)).heap.size:=by simp;omega
         have hO1z:O1 w.heap.size=0:=s1.out (ai _);have hoz:one (w.alloc (.deferred (some []))).heap.size w.heap.size=0:=by simp[one]
         rw[(hx4.blk _ (aH hlt k.ext.size) (λh=>hne h)).1,(k.ext.blk _ hlt (λh=>by
          omega)).1,pg s_,im]
        .have hlt:w.heap.size<((w.alloc (.deferred (some []))).alloc (.loop rc)).heap.size:=by simp;omega
         have hO1z:O1 w.heap.size=0:=s1.out (ai _);have hoz:one (w.alloc (.deferred (some []))).heap.size w.heap.size=0:=by simp[one]
         grind [zg.old]
      have post:∀out st'',st''=⟨e,⟨del hs.heap st.hs.next,hs.next⟩⟩->bI P g w t O ds ro out st'' (Bl out) { tmps:=t,defers:=mark++ds } w4:=by
       rintro out _ rfl
       exact⟨rfl,g2,O4,mark,G,rfl,hM.1,hM.2⟩
      refine⟨pend.bind ko,w4,hend,?_⟩
      cases pend with
      |none =>
       obtain⟨rfl,rfl⟩:=h;exact post .normal _ rfl
      |some out =>
       simp only[ae,aJ]at h;obtain⟨rfl,rfl⟩:=h
       cases out with
       |normal=>exact post .normal _ rfl
       |exit i=>exact wpIn_exit (post (.exit i) _ rfl)
       |goto i=>exact wpIn_goto (post (.goto i) _ rfl)
       |ret=>exact wpIn_ret (post .ret _ rfl)
   simp_all
  simp_all
 simp_all
end
abbrev og:=@Option.isNone_iff_eq_none
section
variable {P:Program}{g:Gh}{w:World}{t:E_}{O:Nat->Nat}{st st':St}{a:AV}{o:Oper}{r:cH}
def ak4 {ro:H_}(hr:fV P r)(hcs:gE P r){v:lX}(s:S P g w st t O)(h:cm v r st=some (a,st'))(hc:aZ P v o.op=true):OpW ro P g w t O st' a o:=by
 cases v with
 |mov x=>exact(amB s h hc).opW
 |pick c x y=>exact(ajq s h hc).opW
 |alloc zs=>exact(afD s h hc).opW
 |box x=>exact(amA s h hc).opW
 |build zs ps=>exact(afE s h hc).opW
 |mks m ps=>exact(akG s h hc).opW
 |mksv m ps=>exact(aku s h hc).opW
 |ld n k p=>exact(anV s h hc).opW
 |st n p x=>exact(anL s h hc).opW
 |nilck x=>exact(afK s h hc).opW
 |bin op x y=>exact(akO s h hc).opW
 |binb neg x y=>exact(ajX s h hc).opW
 |bina neg ks x y=>exact(akz s h hc).opW
 |un op x=>exact(anE s h hc).opW
 |conv k x=>exact(aj6 s h hc).opW
 |toStr x=>exact(ahh s h hc).opW
 |mkfn f a c=>exact(ajo s h hc).opW
 |mkslice z l c=>exact(QJ s h hc).opW
 |slice m x lo hi mx=>exact(afI s h hc).opW
 |slarr n x lo hi mx=>exact(agH s h hc).opW
 |fa off p=>exact(anR s h hc).opW
 |fld off n x=>exact(amq s h hc).opW
 |ia n x i=>exact(aoT s h hc).opW
 |iarr l n p i=>exact(aiH s h hc).opW
 |ix l n ag x i=>exact(aof s h hc).opW
 |ixs x i=>exact(akT s h hc).opW
 |idxb x c=>exact(ai2 s h hc).opW
 |ext j mv i=>exact(ali s h hc).opW
 |len x=>exact(amL s h hc).opW
 |cap x=>exact(alQ s h hc).opW
 |app m x y=>exact(amb s h hc).opW
 |appz z x n=>exact(aiG s h hc).opW
 |cpy m x y=>exact(ak3 s h hc).opW
 |clr z x=>exact(amO s h hc).opW
 |minmax b xs=>exact(aed s h hc).opW
 |call f args=>exact aj8 hr s h hc
 |calli f args=>exact afP hr s h hc
 |callv f args=>exact afU hr hcs s h hc
 |bad=>grind [cm,acL]
 |kill is=>simp[aZ]at hc
 |free i=>simp[aZ]at hc
 |wk i m=>simp[aZ]at hc
 |frz i=>simp[aZ]at hc
 |frzC i offs=>simp[aZ]at hc
def Jq {v:lX}{op:Op}(hb:v≠.bad)(h:aZ P v op=true):∀c,op≠.defer c:=by
 rintro c rfl
 cases v<;>first|exact hb rfl|(simp[aZ]at h)
def My {i:VI}{st2:St}(h:eE r i st=some st2):∃v st1,cm i.op r st=some (v,st1)∧st2=bS i.dst (firm (cY i.th v st1.hs).1) ⟨st1.env,(cY i.th v st1.hs).2⟩:=by
 unfold eE at h;split at h
 .rename_i v st1 hv;split at h
  .rename_i hth;simp only[ae]at h;exact⟨v,st1,hv,by rw[hth];exact h.symm⟩
  grind
 simp_all
theorem Xj (t:E_)(dst:H_)(x:Value):∀k,dst≠some k->(tq t dst x)[k]?=t[k]?:=by
 intro k hk
 cases dst<;>grind [Act.put]
def aaD {ro:H_}(hr:fV P r)(hcs:gE P r){n:Nat}{ops:Array Oper}{i:VI}{st2:St}(hn:t.size=n)(s:S P g w st t O)(h:b4 r i st=some st2)(hc:zk P n ops i o=true)
  (ds:List Deferred)(next:Act->World->Prop)(Q:Exit->Act->World->Prop)(hk:∀t' w' g' O',fk P g w t O st2 t' w' g' O'->(∀k,i.dst≠some k->t'[k]?=t[k]?)->next ⟨t',ds⟩ w') :
  if Region.wanted o (yielded ops t) then o.wpIn (FR ro) 0 P ⟨t,ds⟩ w next Q else (∀f,o.about P w (⟨t,ds⟩:Act).eval=some f->(FR ro).fn f)∧next (Act.put ⟨t,ds⟩ o.dst undef) w:=by
 simp only[zk,af]at hc;obtain⟨⟨hdst,hgd⟩,hop⟩:=hc;have hd:i.dst=o.dst∧∀d,i.dst=some d->d<t.size:=by
  grind [Nat.beq_eq,Nat.blt_eq]
 have go:eE r i st=some st2->o.wpIn (FR ro) 0 P ⟨t,ds⟩ w next Q:=by
  intro hg;obtain⟨v,st1,hv,rfl⟩:=My hg;have hb:i.op≠.bad:=by intro e;simp_all [cm,acL]
  refine⟨λ_ _=>trivial,?_⟩;rw[H1 _ _ (Jq hb hop)];refine ak4 (ro:=ro) hr hcs s hv hop ds next Q λx w' g' Oa O' k=>?_
  obtain⟨g2,O2,G⟩:=Yt k hd.2 i.th
  grind [Rj,Xj]
 have no:st2=bS i.dst (.tup []) st->(∀f,o.about P w (⟨t,ds⟩:Act).eval=some f->(FR ro).fn f)∧next (Act.put ⟨t,ds⟩ o.dst undef) w:=by
  rintro rfl
  refine⟨λ_ _=>trivial,?_⟩;have ha:zg P g w t O st (.tup []) undef w g zero O:=⟨by grind [RV,RVs,undef],s,.refl _ _ _,λb=>by have:=s.le b;simp_all,λb _=>by simp,λb hb=>by simp at hb⟩
  obtain⟨g2,O2,G⟩:=Yt ha hd.2 [];rw[Rj,<-hd.1];exact hk _ _ _ _ G (Xj _ _ _)
 grind [aeD,b4]
def aeJ {ro:H_}(hr:fV P r)(hcs:gE P r){n:Nat}{ops:Array Oper}{i:VI}{st2:St}(hn:t.size=n)(s:S P g w st t O)(h:b4 r i st=some st2)(hc:zk P n ops i o=true)
  (ds:List Deferred)(next:Act->World->Prop)(Q:Exit->Act->World->Prop)(hk:∀t' w' g' O',fk P g w t O st2 t' w' g' O'->next ⟨t',ds⟩ w') :
  if Region.wanted o (yielded ops t) then o.wpIn (FR ro) 0 P ⟨t,ds⟩ w next Q else (∀f,o.about P w (⟨t,ds⟩:Act).eval=some f->(FR ro).fn f)∧next (Act.put ⟨t,ds⟩ o.dst undef) w:=aaD hr hcs hn s h hc ds next Q λt' w' g' O' G _=>hk t' w' g' O' G
def T8 {i:VI}{st2:St}(s:S P g w st t O)(hg:G7 i=true)(h:b4 r i st=some st2):∃g' O',fk P g w t O st2 t w g' O':=by
 simp only[G7,af]at hg;obtain⟨⟨⟨h1,h2⟩,h3⟩,h4⟩:=hg;have hd:i.dst=none:=og.1 h1;have hgd:i.guard=none:=og.1 h2;have hth:i.th=[]:=u_;unfold b4 at h;rw[hgd]at h;obtain⟨v,st1,hv,rfl⟩:=My h;rw[hd,hth];have fin:GU P g w t O st1->∃g' O',fk P g w t O (bS none (firm (cY [] v st1.hs).1) ⟨st1.env,(cY [] v st1.hs).2⟩) t w g' O':=by
  rintro ⟨g',O',s',hx,hle⟩
  exact⟨g',O',s',hx,λb _=>hle b,rfl⟩
 split at h4
 .rename_i is e;rw[e]at hv;exact fin (akr s hv)
 .rename_i j e;rw[e]at hv;exact fin (aiO s hv)
 .rename_i j m e;rw[e]at hv;exact fin (anO s hv)
 .rename_i j e;rw[e]at hv;exact fin (akM s hv)
 .rename_i j offs e;rw[e]at hv;exact fin (akv s hv)
 simp_all
def RW {ro:H_}(hr:fV P r)(hcs:gE P r){n:Nat}{ops:Array Oper}{Q:Exit->Act->World->Prop}(ds:List Deferred) :
  ∀{l:Q_}{os:List Oper}{k:Nat},ops.toList.drop k=os->Dg P n ops l os=true->∀{g:Gh}{w:World}{t:E_}{O:Nat->Nat}{st st':St},t.size=n->S P g w st t O->ji r l st=some st'->
   (∀w' t' g' O',fk P g w t O st' t' w' g' O'->Q .normal ⟨t',ds⟩ w')->wpOpsIn (FR ro) 0 P ops Q (List.range' k os.length) ⟨t,ds⟩ w
 |[],os,k,hos,hc,g,w,t,O,st,st',hn,s,h,hq=>by
  cases os with
  |nil =>
   simp only[ji,ae]at h;subst h;exact hq _ _ _ _ (fk.refl s)
  |cons o os=>simp[Dg]at hc
 |v::l,os,k,hos,hc,g,w,t,O,st,st',hn,s,h,hq=>by
  simp only[ji]at h;split at h
  .rename_i st1 hv;simp only[Dg]at hc;split at hc
   .rename_i hgh;obtain⟨g1,O1,G⟩:=T8 s hgh hv;exact RW hr hcs ds hos hc o_ G.st h λw' t' g' O' G2=>hq _ _ _ _ (G.trans G2)
   .cases os with
    |nil=>simp at hc
    |cons o os =>
     simp only[af]at hc;obtain⟨hvi,hrest⟩:=hc;have hk:ops[k]?=some o:=by
      have:=aX (λl=>l[0]?) hos
      grind
     have hos':ops.toList.drop (k+1)=os:=by
      have:=aX (λl=>l.drop 1) hos
      grind [List.drop_drop]
     have key:=aeJ (ro:=ro) hr hcs hn s hv hvi ds (wpOpsIn (FR ro) 0 P ops Q (List.range' (k+1) os.length)) Q λt' w' g' O' G =>
      RW hr hcs ds hos' hrest (by rw[G.size,hn]) G.st h λw2 t2 g2 O2 G2=>hq _ _ _ _ (G.trans G2)
     grind [List.range'_succ,wpOpsIn]
  simp_all
end
def iq:Obj->Obj->Prop
 |.cells a,.cells b=>shareAll a=shareAll b
 |o,o'=>o=o'
def cA (h h':ak):Prop:=∀id o,get h id=some o->∃o',get h' id=some o'∧iq o o'
theorem iq.refl (o:Obj):iq o o:=by cases o<;>simp[iq]
theorem cA.refl (h:ak):cA h h:=λ_ o ho=>⟨o,ho,.refl o⟩
theorem cA.arr {h h':ak}(H:cA h h'){id m:Nat}{xs:F_}(g:get h id=some (.arr m xs)):get h' id=some (.arr m xs):=by
 obtain⟨o,h1,h2⟩:=H id _ g
 grind [iq]
theorem cA.cells {h h':ak}(H:cA h h'){id:Nat}{cs:D_}(g:get h id=some (.cells cs)):∃cs',get h' id=some (.cells cs')∧shareAll cs=shareAll cs':=by
 obtain⟨o,h1,h2⟩:=H id _ g
 cases o<;>simp[iq]at h2
 simp_all
def dJ (f:St->K_)(R M:C_):Prop :=
 ∀e hs v st1,f ⟨e,hs⟩=some (v,st1)->st1.hs=hs∧(bV e->bV st1.env)∧(∀k,k∉M->get st1.env k=get e k)∧
  ∀e' hs',(∀k∈R,get e' k=get e k)->cA hs.heap hs'.heap->∃e1',f ⟨e',hs'⟩=some (v,⟨e1',hs'⟩)∧(∀k,k∉M->get e1' k=get e' k)∧∀k∈M,get e1' k=get st1.env k
theorem De {α:Type}(l:List (Nat×α))(i k:Nat):get (del l i) k=if k=i then none else get l k:=by
 induction l<;>grind [S7,xH,ma,gv]
theorem ee {α:Type}(l:List (Nat×α))(i k:Nat)(x:α):get (put l i x) k=if k=i then some x else get l k:=by
 induction l<;>grind [Sc,gv,tC]
theorem r5 {α:Type}:∀{a b:List (Nat×α)},bV a->bV b->(∀k,get a k=get b k)->a=b
 |[],[],_,_,_=>rfl
 |[],(k,v)::b,_,_,h=>by have:=h k;grind [gv,xH]
 |(k,v)::a,[],_,_,h=>by have:=h k;grind [gv,xH]
 |(k,v)::a,(j,u)::b,ha,hb,h=>by
  have ha':=bz.1 ha;have hb':=bz.1 hb;have none_of:∀{l:List (Nat×α)}{i:Nat},(∀p∈l,Cv i p.1)->get l i=none:=by
   intro l i hl
   induction l with
   |nil=>rfl
   |cons p l ih =>
    grind [gv]
  have hkj:k=j:=by
   rcases ajz k j with hlt|e|hlt
   .have h1:=h k
    grind [gv]
   .exact e
   .have h1:=h j
    grind [gv]
  subst hkj;have hvu:v=u:=by have h1:=h k;grind [gv]
  subst hvu;rw[r5 ha'.2 hb'.2 λi=>?_];by_cases e:k=i
  .grind
  .have h1:=h i
   grind [gv]
def Lf {e e1:aK}{x:Rd}{v:AV}(h:rd e x=some (v,e1)):(bV e->bV e1)∧(∀k,get e1 k=if k∈jd x then none else get e k)∧
  ∀e',(∀k∈md x,get e' k=get e k)->∃e1',rd e' x=some (v,e1')∧∀k,get e1' k=if k∈jd x then none else get e' k:=by
 cases x<;>grind [rd,jd,md,bV.del,De]
def EY:∀{rs:S_}{e e1:aK}{vs:D_},rdAll e rs=some (vs,e1)->(bV e->bV e1)∧(∀k,get e1 k=if k∈aY rs then none else get e k)∧
  ∀e',(∀k∈bv rs,get e' k=get e k)->∃e1',rdAll e' rs=some (vs,e1')∧∀k,get e1' k=if k∈aY rs then none else get e' k
 |[],e,e1,vs,h=>by
  grind [rdAll,aY]
 |x::rs,e,e1,vs,h=>by
  simp only[rdAll]at h;split at h
  .simp at h
  .rename_i v e2 h1;split at h
   .simp at h
   .rename_i us e3 h2;obtain⟨rfl,rfl⟩:=h;obtain⟨s1,g1,l1⟩:=Lf h1;obtain⟨s2,g2,l2⟩:=EY h2;have hm:∀k,(k∈aY (x::rs))↔(k∈jd x∨k∈aY rs):=λk=>by simp[aY]
    refine⟨λhs=>s2 (s1 hs),λk=>?_,λe' he=>?_⟩
    .grind
    .obtain⟨e2',h1',g1'⟩:=l1 e' λk hk=>he k (by grind [bv])
     obtain⟨e3',h2',g2'⟩:=l2 e2' λk hk=>by
      grind [bv]
     refine⟨e3',by grind [rdAll],λk=>?_⟩
     grind
def dJ.rds {f:St->K_}{rs:S_}(F:D_->HS->L_)
  (mono:∀vs hs hs' v,cA hs.heap hs'.heap->F vs hs=some v->F vs hs'=some v)
  (h:∀e hs,f ⟨e,hs⟩=match rdAll e rs with|none=>none|some (vs,e1)=>match F vs hs with|none=>none|some v=>some (v,⟨e1,hs⟩)):dJ f (bv rs) (aY rs):=by
 intro e hs v st1 hf;rw[h]at hf;split at hf
 .simp at hf
 .rename_i vs e1 hr;split at hf
  .simp at hf
  .obtain⟨rfl,rfl⟩:=hf;obtain⟨s1,g1,l1⟩:=EY hr;refine⟨rfl,s1,λk hk=>by simp_all,λe' hs' he hle=>?_⟩;obtain⟨e1',hr',g1'⟩:=l1 e' he;exact⟨e1',d_,λk hk=>by simp_all,λk hk=>by simp_all⟩
theorem iN:∀(cs:D_),shareAll cs=cs.map share
 |[]=>rfl
 |c::r=>by simp only[nj,iN r,cT]
def adv (v:AV):BA (share v)=BA v:=by
 cases v<;>try rfl
 rename_i p m xs
 cases p<;>rfl
theorem Ql:∀(cs:D_),kg (shareAll cs)=kg cs
 |[]=>rfl
 |c::r=>by simp only[nj,kg,adv,Ql r]
theorem ae9 {a b:D_}(h:shareAll a=shareAll b){i:Nat}{v:AV}(g:a[i]?=some v):∃u,b[i]?=some u∧share u=share v:=by
 rw[iN,iN]at h;have:=aX (λl=>l[i]?) h
 grind
theorem adC {a b:D_}(h:shareAll a=shareAll b):a.length=b.length:=by
 rw[iN,iN]at h;simpa using aX List.length h
theorem adJ {a b:D_}(h:shareAll a=shareAll b)(i n:Nat):shareAll (sub a i n)=shareAll (sub b i n):=by
 grind [iN,sub,List.map_take,List.map_drop]
theorem cA.load {h h':ak}(H:cA h h'){n:H_}{p u:AV}{k:ak}(hl:loadAt h n 0 p=some (u,k)):∃k',loadAt h' n 0 p=some (u,k'):=by
 cases p<;>simp only[loadAt,reduceCtorEq]at hl⊢
 .split at hl<;>grind [cells,ae9,adC,adJ]
 all_goals grind [arr]
theorem cA.objElems {h h':ak}(H:cA h h'){id:Nat}{xs:F_}(g:objElems h id=some xs):objElems h' id=some xs:=by
 grind [Vm.objElems,arr,cells,Ql]
theorem cA.elems {h h':ak}(H:cA h h'){v:AV}{xs:F_}(g:elems h v=some xs):elems h' v=some xs:=by
 unfold Go.Vm.elems at g⊢
 grind [objElems]
theorem cA.viewOne {h h':ak}(H:cA h h'){v u:AV}(g:viewOne h v=some u):viewOne h' v=some u:=by
 unfold Go.Vm.viewOne at g⊢
 grind [elems]
theorem cA.viewAll {h h':ak}(H:cA h h'):∀{vs us:D_},viewAll h vs=some us->viewAll h' vs=some us
 |[],_,g=>g
 |v::r,us,g=>by
  simp only[Go.Vm.viewAll]at g⊢;split at g
  .simp at g
  .rename_i x hx;split at g
   .simp at g
   .rename_i xs hxs;simp only[H.viewOne hx,H.viewAll hxs];exact g
def cA.viewArg {h h':ak}(H:cA h h'){v u:AV}(g:viewArg h v=some u):viewArg h' v=some u:=by
 unfold Go.Vm.viewArg at g⊢
 grind [viewAll,viewOne]
theorem cA.viewArgs {h h':ak}(H:cA h h'):∀{vs us:D_},viewArgs h vs=some us->viewArgs h' vs=some us
 |[],_,g=>g
 |v::r,us,g=>by
  simp only[Go.Vm.viewArgs]at g⊢;split at g
  .simp at g
  .rename_i x hx;split at g
   .simp at g
   .rename_i xs hxs;simp only[H.viewArg hx,H.viewArgs hxs];exact g
def cA.call {r:cH}{f:FuncId}{vs:D_}{h h':ak}(H:cA h h'){v:AV}(g:dI r f vs h=some v):dI r f vs h'=some v:=by
 grind [dI,viewArgs]
theorem cA.okSl {h h':ak}(H:cA h h'){m:Nat}{v:AV}(g:okSl h m v=true):okSl h' m v=true:=by
 unfold Go.Vm.okSl at g⊢
 grind [arr,cells]
abbrev aI:=@List.cons_append
section
variable {r:cH}
def ajh (x:Rd):dJ (Mb x) (bv [x]) (aY [x]):=by
 refine dJ.rds (λvs _=>match vs with|[v]=>some v|_=>none) (λ_ _ _ _ _ h=>h) λe hs=>?_
 grind [Mb,rdAll]
def ad4 (zs:D_)(ps:Z_):dJ (Ai zs ps) (bv (pR ps)) (aY (pR ps)):=by
 refine dJ.rds (λvs _=>match dL zs (qW ps vs) with|some cs=>some (.agg cs)|none=>none) (λ_ _ _ _ _ h=>h) λe hs=>?_
 grind [Ai]
def ajC (m:Nat)(ps:S_):dJ (IW m ps) (bv ps) (aY ps):=by
 refine dJ.rds (λvs _=>match ij m vs with|some xs=>some (.own true m xs)|none=>none) (λ_ _ _ _ _ h=>h) λe hs=>?_
 grind [IW]
def aot {h:ak}{n:H_}{p v:AV}{h':ak}(hl:loadAt h n 0 p=some (v,h')):h'=h:=by
 cases p<;>simp only[loadAt,reduceCtorEq]at hl
 all_goals grind
def ldV (n:H_)(vs:D_)(hs:HS):L_ :=
 match vs with
 |[v]=>(match loadAt hs.heap n 0 v with|some (u,_)=>some u|none=>none)
 |_=>none
def akh {n:H_}(vs:D_)(hs hs':HS)(v:AV)(H:cA hs.heap hs'.heap)(h:ldV n vs hs=some v):ldV n vs hs'=some v:=by
 unfold ldV at h⊢
 grind [cA.load]
def alf (n:H_)(p:Rd):dJ (An n 0 p) (bv [p]) (aY [p]):=by
 refine dJ.rds (ldV n) akh λe hs=>?_
 simp only[An,rdAll]
 cases rd e p with
 |none=>rfl
 |some q =>
  obtain⟨v,e1⟩:=q
  cases hl:loadAt hs.heap n 0 v with
  |none=>simp only[ldV,hl]
  |some q=>have:=aot hl;simp_all [ldV]
def aeC (x:Rd):dJ (C7 x) (bv [x]) (aY [x]):=by
 refine dJ.rds (λvs _=>match vs with|[v]=>(match v with|.ptr ..|.pel ..|.pim ..|.fn ..|.yield ..=>some v|_=>none)|_=>none) (λ_ _ _ _ _ h=>h) λe hs=>?_
 grind [C7,rdAll]
def ajp (op:BinOp)(x y:Rd):dJ (Ia op x y) (bv [x,y]) (aY [x,y]):=by
 refine dJ.rds (λvs _=>match vs with|[a,b]=>cL op a b|_=>none) (λ_ _ _ _ _ h=>h) λe hs=>?_
 grind [Ia,Mp,rdAll]
def afT (neg:Bool)(x y:Rd):dJ (Gn neg x y) (bv [x,y]) (aY [x,y]):=by
 refine dJ.rds (λvs _=>match vs with|[a,b]=>(match a,b with|.d (.bool a),.d (.bool b)=>some (.bool (match neg with|true=>!(a == b)|false=>a == b))|_,_=>none)|_=>none) (λ_ _ _ _ _ h=>h) λe hs=>?_
 grind [Gn,rdAll]
def ag4 (neg:Bool)(ks:AA_)(x y:Rd):dJ (Gg neg ks x y) (bv [x,y]) (aY [x,y]):=by
 refine dJ.rds (λvs _=>match vs with|[a,b]=>(match a,b with|.agg a,.agg b=>(match aW ks a b with|some t=>some (.bool (match neg with|true=>!t|false=>t))|none=>none)|_,_=>none)|_=>none) (λ_ _ _ _ _ h=>h) λe hs=>?_
 simp only[Gg,rdAll]
 cases rd e x<;>grind
def amu (op:UnOp)(x:Rd):dJ (Sd op x) (bv [x]) (aY [x]):=by
 refine dJ.rds (λvs _=>match vs with|[a]=>SU op a|_=>none) (λ_ _ _ _ _ h=>h) λe hs=>?_
 grind [Sd,rdAll]
def aga (k:IntKind)(x:Rd):dJ (Du k x) (bv [x]) (aY [x]):=by
 refine dJ.rds (λvs _=>match vs with|[.d (.int _ n)]=>some (.int k (wr k n))|_=>none) (λ_ _ _ _ _ h=>h) λe hs=>?_
 grind [Du,rdAll]
def ae3 (x:Rd):dJ (Gv x) (bv [x]) (aY [x]):=by
 refine dJ.rds (λvs hs=>match vs with|[v]=>(match elems hs.heap v with|some xs=>(match rV xs with|some s=>some (.d (.str s))|none=>none)|none=>none)|_=>none) (λvs hs hs' v H h=>?_) λe hs=>?_
 all_goals grind [cA.elems,Gv,rdAll]
def Zl (z:U_)(x y:Rd):dJ (ka z x y) (bv [x,y]) (aY [x,y]):=by
 refine dJ.rds (λvs _=>match vs with|[n,c]=>(match gD c cP with|some c=>(match gD n c with|some n=>some (.own true z.length (List.replicate n z))|none=>none)|none=>none)|_=>none) (λ_ _ _ _ _ h=>h) λe hs=>?_
 grind [ka,rdAll]
def alr (off:Nat)(p:Rd):dJ (SA off p) (bv [p]) (aY [p]):=by
 refine dJ.rds (λvs _=>match vs with|[a]=>nI off a|_=>none) (λ_ _ _ _ _ h=>h) λe hs=>?_
 grind [SA,rdAll]
def ajA (off:Nat)(n:H_)(x:Rd):dJ (IR off n x) (bv [x]) (aY [x]):=by
 refine dJ.rds (λvs _=>match vs with|[.agg cs]=>Bx n cs off|_=>none) (λ_ _ _ _ _ h=>h) λe hs=>?_
 grind [IR,rdAll]
def QA (n k:Nat)(o:AB_):L_ :=
 match o with
 |some xs=>match xs[k]? with
  |some x=>match Nat.beq x.length n with
   |true=>some (.pim x 0)
   |false=>none
  |none=>none
 |none=>none
def Wh (n:Nat)(h:ak)(k:Nat)(v:AV):L_ :=
 match v with
 |.sl id off len=>match Nat.ble len k with
  |true=>none
  |false=>match get h id with
   |some (.arr m _)=>match Nat.beq m n with
    |true=>some (.pel id (off+k) 0)
    |false=>none
   |some (.cells _)=>match Nat.beq n 1 with
    |true=>some (.ptr id (off+k))
    |false=>none
   |_=>none
 |v=>QA n k (elems h v)
theorem ai1 {n k:Nat}{h h':ak}(H:cA h h'){v u:AV}(g:Wh n h k v=some u):Wh n h' k v=some u:=by
 have other:QA n k (elems h v)=some u->QA n k (elems h' v)=some u:=by
  intro g
  cases hx:elems h v<;>grind [QA,cA.elems]
 cases v<;>simp only[Wh]at g⊢<;>try exact other g
 grind [cA.arr,cA.cells]
def amK (n:Nat)(x i:Rd):dJ (WQ n x i) (bv [x,i]) (aY [x,i]):=by
 refine dJ.rds (λvs hs=>match vs with|[v,i]=>(match oJ i with|some k=>Wh n hs.heap k v|none=>none)|_=>none) (λvs hs hs' v H h=>?_) λe hs=>?_
 .grind [ai1]
 simp only[WQ,rdAll]
 cases rd e x with
 |none=>rfl
 |some q =>
  obtain⟨a,e1⟩:=q;simp only
  cases rd e1 i<;>grind [QA,Wh]
def afB (len n:Nat)(p i:Rd):dJ (Hl len n p i) (bv [p,i]) (aY [p,i]):=by
 refine dJ.rds (λvs _=>match vs with|[p,i]=>(match oJ i with|some i=>(match Nat.ble len i with|true=>none|false=>nI (i*n) p)|none=>none)|_=>none) (λ_ _ _ _ _ h=>h) λe hs=>?_
 simp only[Hl,rdAll]
 grind
def als (len n:Nat)(ag:Bool)(x i:Rd):dJ (OX len n ag x i) (bv [x,i]) (aY [x,i]):=by
 refine dJ.rds (λvs _=>match vs with|[.agg cs,i]=>(match oJ i with|some i=>(match Nat.ble len i with|true=>none|false=>Bx (Xe ag n) cs (i*n))|none=>none)|_=>none) (λ_ _ _ _ _ h=>h) λe hs=>?_
 simp only[OX,rdAll]
 cases rd e x with
 |none=>rfl
 |some q =>
  obtain⟨a,e1⟩:=q;simp only
  cases hi:rd e1 i<;>grind
def aiu (x i:Rd):dJ (HW x i) (bv [x,i]) (aY [x,i]):=by
 refine dJ.rds (λvs _=>match vs with|[.d (.str s),i]=>(match oJ i with|some i=>(match s[i]? with|some b=>some (.int .u8 (.ofNat b.toNat))|none=>none)|none=>none)|_=>none) (λ_ _ _ _ _ h=>h) λe hs=>?_
 grind [HW,rdAll]
def ajZ (x:Rd):dJ (MH x) (bv [x]) (aY [x]):=by
 refine dJ.rds (λvs _=>match vs with|[a]=>(match lenOf a with|some n=>some (.int .i64 (.ofNat n))|none=>none)|_=>none) (λ_ _ _ _ _ h=>h) λe hs=>?_
 grind [MH,rdAll]
def akd (x:Rd):dJ (I7 x) (bv [x]) (aY [x]):=by
 refine dJ.rds (λvs _=>match vs with|[.nl]=>some (.int .i64 (.ofNat 0))|_=>none) (λ_ _ _ _ _ h=>h) λe hs=>?_
 grind [I7,rdAll]
def ac2 (b:Bool)(xs:S_):dJ (w8 b xs) (bv xs) (aY xs):=by
 refine dJ.rds (λvs _=>match vs with|.d (.int k n)::vs=>Bh b (.d (.int k n)) vs|_=>none) (λ_ _ _ _ _ h=>h) λe hs=>?_
 grind [w8]
theorem TE (e:aK):∀(a b:S_),rdAll e (a++b)=match rdAll e a with
  |none=>none
  |some (x,e1)=>match rdAll e1 b with
   |none=>none
   |some (y,e2)=>some (x++y,e2)
 |[],b=>by
  grind [rdAll]
 |r::a,b=>by
  simp only[aI,rdAll]
  cases rd e r with
  |none=>rfl
  |some p =>
   obtain⟨v,e1⟩:=p;simp only[TE e1 a b]
   grind
theorem TA:∀{rs:S_}{e e1:aK}{vs:D_},rdAll e rs=some (vs,e1)->vs.length=rs.length
 |[],e,e1,vs,h=>by grind [rdAll]
 |x::rs,e,e1,vs,h=>by
  simp only[rdAll]at h;split at h
  .simp at h
  .split at h
   .simp at h
   .rename_i h2;obtain⟨rfl,rfl⟩:=h;simp[TA h2]
def afy (f:FuncId)(first caps:S_):dJ (Dm f first caps) (bv (first++caps)) (aY (first++caps)):=by
 refine dJ.rds (λvs _=>some (.fn f (shareAll (vs.take first.length)) (shareAll (vs.drop first.length)))) (λ_ _ _ _ _ h=>h) λe hs=>?_
 grind [Dm,TE,TA,List.take_left]
def agn (f:FuncId)(args:S_):dJ (Bn r f args) (bv args) (aY args):=by
 refine dJ.rds (λvs hs=>dI r f vs hs.heap) (λvs hs hs' v H h=>H.call h) λe hs=>?_
 grind [Bn]
theorem adw {v:lX}{rs:S_}(h:z7 v=some rs):dJ (cm v r) (bv rs) (aY rs):=by
 unfold z7 at h;split at h<;>simp only[ae,reduceCtorEq]at h<;>subst h
 .exact ajh _
 .exact ad4 _ _
 .exact ajC _ _
 .exact alf _ _
 .exact aeC _
 .exact ajp _ _ _
 .exact afT _ _ _
 .exact ag4 _ _ _ _
 .exact amu _ _
 .exact aga _ _
 .exact ae3 _
 .exact Zl _ _ _
 .exact alr _ _
 .exact ajA _ _ _
 .exact amK _ _ _
 .exact afB _ _ _ _
 .exact als _ _ _ _ _
 .exact aiu _ _
 .exact ajZ _
 .exact akd _
 .exact ac2 _ _
 .exact afy _ _ _
 .exact agn _ _
end
abbrev bT:=@List.mem_append_left
section
variable {r:cH}
def KL (e:aK)(o:Y_)(rs:S_):rdAll e (o.toList++rs)=match rdOpt e o with
  |none=>none
  |some (vo,e1)=>match rdAll e1 rs with
   |none=>none
   |some (vs,e2)=>some (vo.toList++vs,e2):=by
 cases o<;>grind [rdOpt,rdAll]
def R8:Y_->D_->Option (L_×D_)
 |none,vs=>some (none,vs)
 |some _,v::vs=>some (some v,vs)
 |some _,[]=>none
def Tj {e e1:aK}{o:Y_}{vo:L_}(h:rdOpt e o=some (vo,e1))(vs:D_):R8 o (vo.toList++vs)=some (vo,vs):=by
 cases o with
 |none=>obtain⟨rfl,rfl⟩:=h;rfl
 |some x =>
  simp only[rdOpt]at h;split at h
  .obtain⟨rfl,rfl⟩:=h;rfl
  simp_all
def K9 (m:Nat)(lo hi mx:Y_)(h:ak)(vs:D_):L_ :=
 match vs with
 |[]=>none
 |v::vs=>match R8 lo vs with
  |none=>none
  |some (l,vs)=>match R8 hi vs with
   |none=>none
   |some (hh,vs)=>match R8 mx vs with
    |none=>none
    |some (k,_)=>match okSl h m v with
     |true=>Hi m v l hh k
     |false=>none
def abJ {m:Nat}{lo hi mx:Y_}{h h':ak}(H:cA h h'){vs:D_}{u:AV}(g:K9 m lo hi mx h vs=some u):K9 m lo hi mx h' vs=some u:=by
 unfold K9 at g⊢;split at g
 .simp at g
 .rename_i v vs
  cases h1:R8 lo vs with
  |none=>simp_all
  |some p =>
   obtain⟨l,vs1⟩:=p;simp only at g⊢
   cases h2:R8 hi vs1<;>grind [cA.okSl]
def adY (m:Nat)(x:Rd)(lo hi mx:Y_):dJ (Ha m x lo hi mx) (bv (x::(lo.toList++(hi.toList++(mx.toList++[]))))) (aY (x::(lo.toList++(hi.toList++(mx.toList++[]))))):=by
 refine dJ.rds (λvs hs=>K9 m lo hi mx hs.heap vs) (λvs hs hs' v H h=>abJ H h) λe hs=>?_
 simp only[Ha,rdAll]
 cases rd e x with
 |none=>rfl
 |some q =>
  obtain⟨v,e1⟩:=q;simp only;rw[KL]
  cases h1:rdOpt e1 lo with
  |none=>rfl
  |some q =>
   obtain⟨l,e2⟩:=q;simp only;rw[KL]
   cases h2:rdOpt e2 hi with
   |none=>rfl
   |some q =>
    obtain⟨hh,e3⟩:=q;simp only;rw[KL]
    cases h3:rdOpt e3 mx with
    |none=>rfl
    |some q =>
     simp only[rdAll,K9,Tj h1,Tj h2,Tj h3]
     grind
def Im {x:Rd}{k:Nat}(h:k∈jd x):k∈md x:=by
 cases x<;>simp_all [jd,md]
def agi (c a b:Rd):dJ (jG c a b) (bv [c,a,b]) (aY [c,a,b]):=by
 intro e hs v st1 hf;unfold jG at hf;have hm:∀k,k∈aY [c,a,b]↔(k∈jd c∨k∈jd a∨k∈jd b):=λk=>by simp[aY]
 have hsl:∀k,k∈bv [c,a,b]↔(k∈md c∨k∈md a∨k∈md b):=λk=>by simp[bv]
 split at hf
 .rename_i tb e1 h1;obtain⟨s1,g1,l1⟩:=Lf h1;have key:∀x,(x=a∨x=b)->∀u e2,rd e1 x=some (u,e2)->(∀e' e1' e2' hs',rd e' c=some (B_ tb,e1')->rd e1' x=some (u,e2')->jG c a b ⟨e',hs'⟩=some (u,⟨e2',hs'⟩))->
    (⟨e2,hs⟩:St).hs=hs∧(bV e->bV e2)∧(∀k,k∉aY [c,a,b]->get e2 k=get e k)∧
    ∀e' hs',(∀k∈bv [c,a,b],get e' k=get e k)->cA hs.heap hs'.heap->∃e1',jG c a b ⟨e',hs'⟩=some (u,⟨e1',hs'⟩)∧(∀k,k∉aY [c,a,b]->get e1' k=get e' k)∧∀k∈aY [c,a,b],get e1' k=get e2 k:=by
   intro x hx u e2 h2 hback;obtain⟨s2,g2,l2⟩:=Lf h2;have hbs:∀k,k∈md x->k∈bv [c,a,b]:=λk hk=>(hsl k).2 (by grind)
   have hms:∀k,k∈aY [c,a,b]->k∈bv [c,a,b]:=λk hk=>(hsl k).2 (((hm k).1 hk).imp Im (Or.imp Im Im))
   refine⟨rfl,λh=>s2 (s1 h),λk hk=>?_,λe' hs' he _=>?_⟩
   .grind
   .obtain⟨e1',h1',g1'⟩:=l1 e' λk hk=>he k ((hsl k).2 (.inl hk))
    obtain⟨e2',h2',g2'⟩:=l2 e1' λk hk=>by
     simp_all
    refine⟨e2',hback e' e1' e2' hs' h1' h2',λk hk=>?_,λk hk=>?_⟩
    all_goals grind
  cases tb with
  |true =>
   split at hf
   .obtain⟨rfl,rfl⟩:=hf
    grind [jG]
   simp_all
  |false =>
   split at hf
   .obtain⟨rfl,rfl⟩:=hf
    grind [jG]
   simp_all
 simp_all
def ajI (j:Nat)(mv:Bool)(i:Nat):dJ (zj j mv i) [j] (if mv then [j] else []):=by
 intro e hs v st1 hf;unfold zj at hf;split at hf
 .split at hf
  .cases mv with
   |true =>
    obtain⟨rfl,rfl⟩:=hf
    simp_all [bV.put,ee,zj]
   |false =>
    obtain⟨rfl,rfl⟩:=hf
    simp_all [zj]
  simp_all
 simp_all
def agO (m:Nat)(h:ak)(vs:D_):L_ :=
 match vs with
 |[b]=>(match Go.Vm.elems h b with
  |some ys=>(match fA m ys with
   |true=>(match Nat.ble ys.length cP with
    |true=>some (match ys with|[]=>.nl|ys=>.own true m ys)
    |false=>none)
   |false=>none)
  |none=>none)
 |_=>none
def adS (m:Nat)(y:Rd):dJ (CU m (.c .nl) y) (bv [y]) (aY [y]):=by
 refine dJ.rds (λvs hs=>agO m hs.heap vs) (λvs hs hs' v H h=>?_) λe hs=>?_
 .unfold agO at h⊢
  grind [cA.elems]
 .have h0:rd e (.c .nl)=some (.nl,e):=rfl;simp only[CU,rdAll,h0]
  cases rd e y with
  |none=>rfl
  |some q =>
   obtain⟨b,e1⟩:=q;simp only[agO]
   cases Go.Vm.elems hs.heap b with
   |none=>rfl
   |some ys =>
    simp only
    cases fA m ys with
    |false=>rfl
    |true =>
     simp only[da]
     cases Nat.ble ys.length cP with
     |false=>rfl
     |true=>cases ys<;>rfl
def OH {v:lX}{R M:C_}(h:Gj v=some (R,M)):dJ (cm v r) R M:=by
 have base:(match z7 v with|some rs=>some (bv rs,aY rs)|none=>none)=some (R,M)->dJ (cm v r) R M:=by
  grind [adw]
 cases v<;>try exact base h
 .obtain⟨rfl,rfl⟩:=h;exact agi _ _ _
 .obtain⟨rfl,rfl⟩:=h;exact adY _ _ _ _ _
 .obtain⟨rfl,rfl⟩:=h;exact ajI _ _ _
 .rename_i m x y
  cases x<;>try exact base h
  rename_i c
  cases c<;>try exact base h
  obtain⟨rfl,rfl⟩:=h;exact adS _ _
def afQ (f:St->X_)(R M:C_):Prop :=
 ∀e hs st1,f ⟨e,hs⟩=some st1->st1.hs=hs∧(bV e->bV st1.env)∧(∀k,k∉M->get st1.env k=get e k)∧
  ∀e' hs',(∀k∈R,get e' k=get e k)->cA hs.heap hs'.heap->∃e1',f ⟨e',hs'⟩=some ⟨e1',hs'⟩∧(∀k,k∉M->get e1' k=get e' k)∧∀k∈M,get e1' k=get st1.env k
def KZ {i:VI}{R M:C_}(h:Vp i=some (R,M)):afQ (b4 r i) R M:=by
 unfold Vp at h;split at h
 .simp at h
 .rename_i hth;split at h
  .simp at h
  .rename_i R0 M0 hf;simp only[ae,aJ]at h;obtain⟨rfl,rfl⟩:=h;have hl:=OH (r:=r) hf;have hM:∀k,k∈M0->k∈(match i.dst with|some d=>d::M0|none=>M0):=λk hk=>by grind
   have set:∀(v:AV) (st:St),(bS i.dst v st).hs=st.hs∧(bV st.env->bV (bS i.dst v st).env)∧∀k,get (bS i.dst v st).env k=if i.dst=some k then some v else get st.env k:=by
    grind [bS,bV.put,ee]
   have hd:∀k,k∉(match i.dst with|some d=>d::M0|none=>M0)->i.dst≠some k∧k∉M0:=λk hk=>by
    grind
   have go:∀e hs st1,eE r i ⟨e,hs⟩=some st1->st1.hs=hs∧(bV e->bV st1.env)∧(∀k,k∉(match i.dst with|some d=>d::M0|none=>M0)->get st1.env k=get e k)∧
     ∀e' hs',(∀k∈R0++M0,get e' k=get e k)->cA hs.heap hs'.heap->∃e1',eE r i ⟨e',hs'⟩=some ⟨e1',hs'⟩∧(∀k,k∉(match i.dst with|some d=>d::M0|none=>M0)->get e1' k=get e' k)∧
      ∀k∈(match i.dst with|some d=>d::M0|none=>M0),get e1' k=get st1.env k:=by
    intro e hs st1 h;unfold eE at h;simp only[hth]at h;split at h
    .rename_i v st0 hv;simp only[ae]at h;subst h;obtain⟨q1,q2,q3,q4⟩:=hl e hs v st0 hv;obtain⟨t1,t2,t3⟩:=set (firm v) st0;refine⟨t1.trans q1,λh=>t2 (q2 h),λk hk=>?_,λe' hs' he hle=>?_⟩
     .simp_all
     .obtain⟨e1',p1,p2,p3⟩:=q4 e' hs' (λk hk=>he k (bT _ hk)) hle;refine⟨(bS i.dst (firm v) ⟨e1',hs'⟩).env,?_,λk hk=>?_,λk hk=>?_⟩
      .unfold eE;simp only[hth,p1,ae]
       cases i.dst<;>rfl
      all_goals grind
    simp_all
   have no:∀e hs,(bS i.dst (.tup []) ⟨e,hs⟩).hs=hs∧(bV e->bV (bS i.dst (.tup []) ⟨e,hs⟩).env)∧(∀k,k∉(match i.dst with|some d=>d::M0|none=>M0)->get (bS i.dst (.tup []) ⟨e,hs⟩).env k=get e k)∧
     ∀e' hs',(∀k∈R0++M0,get e' k=get e k)->(∀k,k∉(match i.dst with|some d=>d::M0|none=>M0)->get (bS i.dst (.tup []) ⟨e',hs'⟩).env k=get e' k)∧
      ∀k∈(match i.dst with|some d=>d::M0|none=>M0),get (bS i.dst (.tup []) ⟨e',hs'⟩).env k=get (bS i.dst (.tup []) ⟨e,hs⟩).env k:=by
    grind
   intro e hs st1 h;unfold b4 at h
   cases hg:i.guard with
   |none =>
    rw[hg]at h;obtain⟨q1,q2,q3,q4⟩:=go e hs st1 h;refine⟨q1,q2,q3,λe' hs' he hle=>?_⟩;obtain⟨e1',p1,p2,p3⟩:=q4 e' hs' he hle
    grind [b4]
   |some sw =>
    obtain⟨sl,want⟩:=sw;rw[hg]at h;simp only at h;have hsl:∀e',(∀k∈sl::(R0++M0),get e' k=get e k)->get e' sl=get e sl:=λe' he=>he sl (.head _)
    have hre:∀e',(∀k∈sl::(R0++M0),get e' k=get e k)->∀k∈R0++M0,get e' k=get e k:=λe' he k hk=>he k (.tail _ hk)
    split at h
    .rename_i b hb;split at h
     .obtain⟨q1,q2,q3,q4⟩:=go e hs st1 h;refine⟨q1,q2,q3,λe' hs' he hle=>?_⟩;obtain⟨e1',p1,p2,p3⟩:=q4 e' hs' (hre e' he) hle
      grind [b4]
     .rename_i hbw;simp only[ae]at h;subst h;obtain⟨q1,q2,q3,q4⟩:=no e hs;refine⟨q1,q2,q3,λe' hs' he _=>?_⟩;obtain⟨p2,p3⟩:=q4 e' hs' (hre e' he);refine⟨(bS i.dst (.tup []) ⟨e',hs'⟩).env,?_,p2,p3⟩;unfold b4;rw[hg];simp only[hsl e' he,hb,hbw,ae]
      cases i.dst<;>rfl
    .rename_i hb;simp only[ae]at h;subst h;obtain⟨q1,q2,q3,q4⟩:=no e hs;refine⟨q1,q2,q3,λe' hs' he _=>?_⟩;obtain⟨p2,p3⟩:=q4 e' hs' (hre e' he);refine⟨(bS i.dst (.tup []) ⟨e',hs'⟩).env,?_,p2,p3⟩;unfold b4;rw[hg];simp only[hsl e' he,hb,ae]
     cases i.dst<;>rfl
    grind
def ahv {f1 f2:St->X_}{R1 M1 R2 M2:C_}(h1:afQ f1 R1 M1)(h2:afQ f2 R2 M2)(d1:∀k∈M1,k∉R2∧k∉M2)(d2:∀k∈M2,k∉R1∧k∉M1){st st1 st2:St}(hs:bV st.env)
  (a:f1 st=some st1)(b:f2 st1=some st2):∃st1',f2 st=some st1'∧f1 st1'=some st2:=by
 obtain⟨e,hs0⟩:=st;obtain⟨e1,hs1⟩:=st1;obtain⟨e2,hs2⟩:=st2;obtain⟨q1,q2,q3,q4⟩:=h1 e hs0 _ a;subst q1;obtain⟨p1,p2,p3,p4⟩:=h2 e1 hs1 _ b;subst p1;obtain⟨e1',k1,k2,k3⟩:=p4 e _ (λk hk=>(q3 k (λhm=>(d1 k hm).1 hk)).symm) (cA.refl _);obtain⟨_,sk1,_,_⟩:=h2 e hs2 _ k1;obtain⟨e2',m1,m2,m3⟩:=q4 e1' _ (λk hk=>k2 k λhm=>(d2 k hm).1 hk) (cA.refl _);obtain⟨_,sm1,_,_⟩:=h1 e1' hs2 _ m1;refine⟨⟨e1',hs2⟩,k1,?_⟩;rw[m1]
 congr 2
 refine r5 (sm1 (sk1 hs)) (p2 (q2 hs)) λk=>?_
 by_cases hk1:k∈M1
 all_goals grind
end
abbrev cy:=@List.getElem?_cons_zero
abbrev nY:=@List.append_of_mem
abbrev ed:=@List.pairwise_append
abbrev dg:=@List.mem_append_right
abbrev aD:=@List.nil_append
abbrev fO:=@List.mem_range
theorem qQ {k:Nat}{l:C_}:dl k l=true↔k∈l:=by
 induction l<;>grind [dl,Nat.beq_eq]
theorem gK {a b:C_}(h:pE a b=true):∀k∈a,k∉b:=by
 induction a<;>grind [pE,qQ]
section
variable {P:Program}{g:Gh}{w:World}{t:E_}{O:Nat->Nat}{st st':St}{r:cH}
theorem ZD {a b:VI}(h:rY a b=true){st1 st2:St}(hs:bV st.env)(h1:b4 r a st=some st1)(h2:b4 r b st1=some st2):∃st1',b4 r b st=some st1'∧b4 r a st1'=some st2:=by
 unfold rY at h;split at h
 .rename_i R1 M1 R2 M2 e1 e2;simp only[af]at h;obtain⟨⟨k1,k2⟩,k3⟩:=h;exact ahv (KZ (r:=r) e1) (KZ (r:=r) e2) (λk hk=>⟨gK k1 k hk,gK k2 k hk⟩) (λk hk=>⟨gK k3 k hk,λh=>gK k2 k h hk⟩) hs h1 h2
 simp_all
def YG {a b:VI}(h:rY a b=true){st1:St}(hs:bV st.env)(h1:b4 r a st=some st1):bV st1.env:=by
 unfold rY at h;split at h
 .rename_i R1 M1 R2 M2 e1 e2;obtain⟨e,hs0⟩:=st;exact(KZ (r:=r) e1 e hs0 st1 h1).2.1 hs
 simp_all
def PF {vs:Q_}{i:Nat}{v:VI}(hv:vs[i]?=some v){l2:C_}:∀{l1:C_}{st st':St},(∀j∈l1,∃u,vs[j]?=some u∧rY u v=true)->bV st.env->
  tY r vs (l1++i::l2) st=some st'->tY r vs (i::(l1++l2)) st=some st'
 |[],st,st',_,_,h=>h
 |j::l1,st,st',hj,hs,h=>by
  obtain⟨u,hu,hm⟩:=hj j (.head _);simp only[aI,tY,hu]at h;split at h
  .simp at h
  .rename_i st1 h1;have h2:=PF hv (λk hk=>hj k (.tail _ hk)) (YG hm hs h1) h
   grind [tY,ZD]
structure X4 (P:Program)(n:Nat)(ops:Array Oper)(vs:Q_):Prop where
 len:vs.length=ops.size
 vi:∀(i:Nat) (v:VI) (o:Oper),vs[i]?=some v->ops[i]?=some o->zk P n ops v o=true
 pair:∀(i j:Nat) (v u:VI) (o:Oper),j<i->vs[i]?=some v->vs[j]?=some u->ops[i]?=some o->He o j=true∨rY u v=true
 edge:∀(i:Nat) (o:Oper),ops[i]?=some o->∀e∈o.after,e.on<i
def PQ {o:Oper}{v:VI}:∀{us:Q_}{k:Nat},QY o v k us=true->∀(j:Nat) (u:VI),us[j]?=some u->He o (k+j)=true∨rY u v=true
 |[],k,_,j,u,h=>by simp at h
 |x::us,k,h,j,u,hu=>by
  simp only[QY,af,b6]at h
  cases j with
  |zero=>simp_all
  |succ j=>have:=PQ h.2 j u u_;grind
def Kx {n:Nat}{ops:Array Oper}:∀{vs:Q_}{os:List Oper}{prev:Q_},qO P n ops prev vs os=true->vs.length=os.length∧
  ∀(i:Nat) (v:VI) (o:Oper),vs[i]?=some v->os[i]?=some o->zk P n ops v o=true∧(∀(j:Nat) (u:VI),(prev++vs)[j]?=some u->j<prev.length+i->He o j=true∨rY u v=true)∧
   ∀e∈o.after,e.on<prev.length+i
 |[],[],prev,_=>⟨rfl,λi v o h=>by simp at h⟩
 |x::vs,p::os,prev,h=>by
  simp only[qO,af]at h;obtain⟨⟨⟨h1,h2⟩,h3⟩,h4⟩:=h;obtain⟨k1,k2⟩:=Kx h4;refine⟨by simp[k1],λi v o hv ho=>?_⟩
  cases i with
  |zero =>
   simp only[cy,ae]at hv ho;subst hv ho;refine⟨h1,λj u hu hj=>?_,λe he=>?_⟩
   .rw[df o_]at hu;have:=PQ h2 j u hu
    simp_all
   grind [Nat.blt_eq]
  |succ i =>
   grind
 |[],_::_,_,h=>by grind [qO]
 |_::_,[],_,h=>by grind [qO]
def amG {n:Nat}{ops:Array Oper}{vs:Q_}(h:qO P n ops [] vs ops.toList=true):X4 P n ops vs:=by
 obtain⟨k1,k2⟩:=Kx h;have hl:vs.length=ops.size:=o_;have hget:∀(i:Nat) (o:Oper),ops[i]?=some o->ops.toList[i]?=some o:=λi o h=>by simp_all
 refine⟨hl,λi v o hv ho=>(k2 i v o hv (hget i o ho)).1,λi j v u o hji hv hu ho=>(k2 i v o hv (hget i o ho)).2.1 j u u_ o_,λi o ho e he=>?_⟩;have hi:i<vs.length:=by
  grind
 simp_all
theorem Rx (m:Region.Mode){e:Edge}(h:ui e.ground=true):Region.binds m e=true:=by
 grind [Region.binds,ui]
structure Sa (n:Nat)(listed:BB_)(rem:C_):Prop where
 srt:rem.Pairwise (·<·)
 lt:∀i∈rem,i<n
 size:listed.size=n
 mem:∀i,i<n->(i∈rem↔listed.getD i true=false)
def aem {ro:H_}(hr:fV P r)(hcs:gE P r){n:Nat}{ops:Array Oper}{vs:Q_}(hok:X4 P n ops vs){Q:Exit->Act->World->Prop}(ds:List Deferred)(m:Region.Mode) :
  ∀{fuel:Nat}{rem:C_},rem.length=fuel->∀{tt:Nat}{listed:BB_},Sa ops.size listed rem->∀{g:Gh}{w:World}{t:E_}{O:Nat->Nat}{st st':St},t.size=n->S P g w st t O->tY r vs rem st=some st'->
   (∀w' t' g' O',fk P g w t O st' t' w' g' O'->Q .normal ⟨t',ds⟩ w')->wpOpsIn (FR ro) 0 P ops Q (Region.linearise.go m ops fuel tt listed []) ⟨t,ds⟩ w
 |0,rem,hf,tt,listed,hleft,g,w,t,O,st,st',hn,s,h,hq=>by
  have:rem=[]:=bc hf;subst this;simp only[tY,ae]at h;subst h;exact hq _ _ _ _ (fk.refl s)
 |fuel+1,rem,hf,tt,listed,hleft,g,w,t,O,st,st',hn,s,h,hq=>by
  unfold Region.linearise.go;simp only;generalize hrs:((List.range ops.size).filter λi=>!listed.getD i true && ((ops[i]?).map (·.after.all λe=>!Region.binds m e ||listed.getD e.on false)).getD false)=rs;have hmem:∀i,i∈rs↔i<ops.size∧listed.getD i true=false∧∃o,ops[i]?=some o∧∀e∈o.after,Region.binds m e=true->listed.getD e.on false=true:=by
   grind [Array.all_eq_true_iff_forall_mem]
  have hne:rs≠[]:=by
   cases rem with
   |nil=>simp at hf
   |cons i rem =>
    have hi:=hleft.lt i (.head _);have:i∈rs:=(hmem i).2 ⟨hi,(hleft.mem i hi).1 (.head _),ops[i],by simp[hi],λe he _=>by
     have hlt:=hok.edge i ops[i] (by simp[hi]) e he;have hen:e.on<ops.size:=o_;have hnot:e.on∉i::rem:=by
      intro hm;rcases aQ.1 hm with e1|hm
      .omega
      .have:=(bz.1 hleft.srt).1 _ hm;omega
     grind [Sa.mem,Sa.size]⟩
    grind
  have hlen:0<rs.length:=bm.2 hne;have hlt:=fT tt hlen;rw[b7 hlt];simp only;generalize hi:rs[tt % rs.length]=i;have hirs:i∈rs:=d_;obtain⟨hin,hil,o,ho,hedges⟩:=(hmem i).1 hirs;have hirem:i∈rem:=(hleft.mem i hin).2 hil;obtain⟨l1,l2,rfl⟩:=nY hirem;have hvl:i<vs.length:=by grind [X4.len]
  have hv:vs[i]?=some vs[i]:=s_;have hp:=ed.1 hleft.srt;have hswap:∀j∈l1,∃u,vs[j]?=some u∧rY u vs[i]=true:=by
   intro j hj;have hji:j<i:=hp.2.2 j hj i (.head _);have hjr:j∈l1++i::l2:=bT _ hj;have hjv:vs[j]?=some (vs[j]' o_):=s_;refine⟨_,hjv,(hok.pair i j _ _ o hji hv hjv ho).resolve_left λhe=>?_⟩
   grind [He,Nat.beq_eq,Rx,Sa.mem]
  have h2:=PF hv hswap s.se h;simp only[tY,hv]at h2;split at h2
  .simp at h2
  .rename_i st1 h3;have hleft':Sa ops.size (listed.setIfInBounds i true) (l1++l2):=by
    refine⟨ed.2 ⟨hp.1,(bz.1 hp.2.1).2,λa ha b hb=>hp.2.2 a ha b (.tail _ hb)⟩,λk hk=>hleft.lt k ?_,by simp[hleft.size],λk hk=>?_⟩
    .rcases bq.1 hk with h|h
     .exact bT _ h
     .exact dg _ (.tail _ h)
    .have hsz:k<listed.size:=by rw[hleft.size];exact hk
     have hold:=hleft.mem k hk;simp only[eM,ez]at hold⊢;by_cases e:i=k
     .subst e;simp only[bK,hsz,Option.getD_some,jV,iff_false];intro hm;rcases bq.1 hm with h|h
      .have:=hp.2.2 i h i (.head _);omega
      .have:=(bz.1 hp.2.1).1 i h;omega
     .simp only[e,bu];rw[<-hold];simp only[bq,aQ];constructor
      .rintro (h|h)
       .exact .inl h
       .exact .inr (.inr h)
      .rintro (h|h|h)
       .exact .inl h
       .exact absurd h.symm e
       .exact .inr h
   have hlen':(l1++l2).length=fuel:=by simp at hf⊢;omega
   have hacc:=linearise_go_acc m ops fuel (tt / rs.length) (listed.setIfInBounds i true) [i];rw[hacc];simp only[List.reverse_cons,List.reverse_nil,aD,aI,wpOpsIn,ho];exact aeJ (ro:=ro) hr hcs hn s h3 (hok.vi i _ o hv ho) ds _ Q λt' w' g' O' G =>
    aem hr hcs hok ds m hlen' hleft' (by rw[G.size,hn]) G.st h2 λw2 t2 g2 O2 G2=>hq _ _ _ _ (G.trans G2)
theorem Xc {vs:Q_}:∀{l:Q_}{k:Nat}{st:St},vs.drop k=l->tY r vs (List.range' k l.length) st=ji r l st
 |[],k,st,_=>by simp[tY,ji]
 |v::l,k,st,h=>by
  have hv:vs[k]?=some v:=by have:=aX (λl=>l[0]?) h;grind
  have h':vs.drop (k+1)=l:=by have:=aX (λl=>l.drop 1) h;grind [List.drop_drop]
  simp only[aE,List.range'_succ,tY,hv,ji]
  cases b4 r v st with
  |none=>rfl
  |some st1=>exact Xc h'
def agb {ro:H_}(hr:fV P r)(hcs:gE P r){n:Nat}{ops:Array Oper}{vs:Q_}(ds:List Deferred)(h:qO P n ops [] vs ops.toList=true){Q:Exit->Act->World->Prop}{id:Nat}(hn:t.size=n)
  (s:S P g w st t O)(hrun:ji r vs st=some st')(hq:∀w' t' g' O',fk P g w t O st' t' w' g' O'->Q .normal ⟨t',ds⟩ w'):(Code.region id ops true).wpIn (FR ro) 0 P Q ⟨t,ds⟩ w:=by
 have hok:=amG h;refine wpIn_region_draw λtt=>?_
 have hx:bg g w g w.drew λ_=>False:=bg.drew _ _ _
 have sd:=s.extF hx rfl s.pmlt;have hrun':tY r vs (List.range ops.size) st=some st':=by
  rw[<-hok.len,List.range_eq_range']
  grind [Xc]
 have hleft:Sa ops.size (Array.replicate ops.size false) (List.range ops.size):=by
  refine⟨List.pairwise_lt_range,λi hi=>fO.1 hi,s_,λi hi=>?_⟩
  simp_all
 have key:∀m tt,wpOpsIn (FR ro) 0 P ops Q (Region.linearise m ops tt) ⟨t,ds⟩ w.drew:=λm tt =>
  aem (ro:=ro) hr hcs hok ds m s_ hleft hn sd hrun' λw' t' g' O' G=>hq _ _ _ _ ⟨G.st,(hx.mono (T:=λb=>O b≠0) λ_ _ h=>h.elim).trans G.ext λ_ _ h=>h,G.old,G.size⟩
 unfold Region.schedule;split<;>simp_all
end
abbrev HK:=HS->(HS->Prop)->(HS->HS)->Prop
def gJ (K:HK)(f:St->K_)(R M:C_):Prop :=
 ∀e hs v st1,f ⟨e,hs⟩=some (v,st1)->∃ρ τ,K hs ρ τ∧st1.hs=τ hs∧(bV e->bV st1.env)∧(∀k,k∉M->get st1.env k=get e k)∧
  ∀e' hs',(∀k∈R,get e' k=get e k)->ρ hs'->∃e1',f ⟨e',hs'⟩=some (v,⟨e1',τ hs'⟩)∧(∀k,k∉M->get e1' k=get e' k)∧∀k∈M,get e1' k=get st1.env k
def MC (K:HK)(f:St->X_)(R M:C_):Prop :=
 ∀e hs st1,f ⟨e,hs⟩=some st1->∃ρ τ,K hs ρ τ∧st1.hs=τ hs∧(bV e->bV st1.env)∧(∀k,k∉M->get st1.env k=get e k)∧
  ∀e' hs',(∀k∈R,get e' k=get e k)->ρ hs'->∃e1',f ⟨e',hs'⟩=some ⟨e1',τ hs'⟩∧(∀k,k∉M->get e1' k=get e' k)∧∀k∈M,get e1' k=get st1.env k
def KQ:HK:=λhs ρ τ=>(∀hs',cA hs.heap hs'.heap->ρ hs')∧∀hs',τ hs'=hs'
def BT (h:ak)(id:Nat):Option Obj->ak
 |none=>h
 |some o=>put h id o
def KT:HK:=λhs ρ τ=>(∃id o0 o,get hs.heap id=some o0∧(∀hs',get hs'.heap id=some o0->ρ hs')∧(∀hs',τ hs'=⟨BT hs'.heap id o,hs'.next⟩)∧
 ∀o1,o=some o1->iq o0 o1)∨(∀hs',ρ hs')∧∀hs',τ hs'=hs'
def push:HS->List Obj->HS
 |hs,[]=>hs
 |hs,o::os=>push ⟨put hs.heap hs.next o,hs.next+1⟩ os
def KA:HK:=λhs ρ τ=>∃os,(∀hs',cA hs.heap hs'.heap->hs'.next=hs.next->ρ hs')∧∀hs',hs'.next=hs.next->τ hs'=push hs' os
def KP:HK:=λhs ρ τ=>KQ hs ρ τ∨∃id,(∃m xs,get hs.heap id=some (.arr m xs))∧(∀hs',cA hs.heap hs'.heap->ρ hs')∧∀hs',τ hs'=⟨del hs'.heap id,hs'.next⟩
theorem cA.del {h:ak}(id:Nat):cA (del h id) h:=by
 intro k o hk;rw[De]at hk;split at hk
 .simp at hk
 .exact⟨o,hk,by cases o<;>simp[iq]⟩
def W7 (m:Nat)(x y:Rd):gJ KP (CU m x y) (bv [x,y]) (aY [x,y]):=by
 intro e hs v st1 hf;unfold CU at hf;split at hf
 .rename_i a e1 hr;split at hf
  .rename_i b e2 hr2;split at hf
   .rename_i ys hy;split at hf
    .split at hf
     .rename_i w h1 ha;simp only[ae,aJ]at hf;obtain⟨rfl,rfl⟩:=hf;have hall:rdAll e [x,y]=some ([a,b],e2):=by grind [rdAll]
      obtain⟨s1,g1,l1⟩:=EY hall;have back:∀e' hs' h1',(∀k∈bv [x,y],get e' k=get e k)->cA hs.heap hs'.heap->da m hs'.heap a ys=some (w,h1')->
        ∃e1',CU m x y ⟨e',hs'⟩=some (w,⟨e1',⟨h1',hs'.next⟩⟩)∧(∀k,k∉aY [x,y]->get e1' k=get e' k)∧∀k∈aY [x,y],get e1' k=get e2 k:=by
       intro e' hs' h1' he hle happ;obtain⟨e1',hr',g1'⟩:=l1 e' he;refine⟨e1',?_,λk hk=>by simp_all,λk hk=>by simp_all⟩;simp only[rdAll]at hr';split at hr'<;>grind [CU,cA.elems]
      unfold da at ha;split at ha
      .simp at ha
      .split at ha
       .obtain⟨rfl,rfl⟩:=ha;exact⟨λhs'=>cA hs.heap hs'.heap,id,.inl ⟨λ_ h=>h,λ_=>rfl⟩,rfl,s1,λk hk=>by simp_all,λe' hs' he hρ=>back e' hs' _ he hρ (by grind [da])⟩
       .split at ha
        .obtain⟨rfl,rfl⟩:=ha;exact⟨λhs'=>cA hs.heap hs'.heap,id,.inl ⟨λ_ h=>h,λ_=>rfl⟩,rfl,s1,λk hk=>by simp_all,λe' hs' he hρ=>back e' hs' _ he hρ (by grind [da])⟩
        simp_all
       .rename_i id off len;split at ha
        .rename_i k xs hg;split at ha
         .obtain⟨rfl,rfl⟩:=ha;exact⟨λhs'=>cA hs.heap hs'.heap,λhs'=>⟨Go.Vm.del hs'.heap id,hs'.next⟩,.inr ⟨id,⟨_,_,hg⟩,λ_ h=>h,λ_=>rfl⟩,rfl,s1,λk hk=>by simp_all,λe' hs' he hρ=>back e' hs' _ he hρ (by grind [da,cA.arr])⟩
         simp_all
        simp_all
       simp_all
     simp_all
    simp_all
   simp_all
  simp_all
 simp_all
theorem iq.symm {a b:Obj}(h:iq a b):iq b a:=by
 cases a<;>cases b<;>simp_all [iq]
def aje {f:St->K_}{R M:C_}(h:dJ f R M):gJ KQ f R M:=by
 intro e hs v st1 hf;obtain⟨h1,h2,h3,h4⟩:=h e hs v st1 hf;exact⟨λhs'=>cA hs.heap hs'.heap,id,⟨λ_ h=>h,λ_=>rfl⟩,h1,h2,h3,h4⟩
mutual
theorem AW:∀(v:AV),share (share v)=share v
 |.own p m xs=>by cases p<;>rfl
 |.agg cs=>by simp only[share,shareAll_share cs]
 |.tup cs=>by simp only[share,shareAll_share cs]
 |.junk|.d _|.nl|.gl _|.nilp|.ptr _ _|.pel _ _ _|.pim _ _|.sl _ _ _|.fn _ _ _|.nilf|.yield _=>by rfl
theorem shareAll_share:∀(vs:D_),shareAll (shareAll vs)=shareAll vs
 |[]=>rfl
 |v::r=>by simp only[nj,AW v,shareAll_share r]
end
theorem GM:∀(vs:D_),shareAll (eh 2 vs).2=shareAll vs
 |[]=>rfl
 |v::r=>by
  simp only[eh,nj,GM r]
  grind [oy,AW]
def aoC {h h1:ak}{n:H_}{p v:AV}(hl:loadAt h n 2 p=some (v,h1)) :
  (∃id o0 o,get h id=some o0∧h1=BT h id o∧(∀o1,o=some o1->iq o0 o1)∧∀h',get h' id=some o0->loadAt h' n 2 p=some (v,BT h' id o))∨
   h1=h∧∀h',loadAt h' n 2 p=some (v,h'):=by
 cases p<;>simp only[loadAt,reduceCtorEq]at hl
 .rename_i id off;split at hl
  .rename_i cs hg
   cases n with
   |none =>
    simp only at hl;split at hl
    .simp at hl
    .rename_i u hu;obtain⟨rfl,rfl⟩:=hl;refine .inl ⟨id,_,some (.cells (cs.set off (oy 2 u).2)),hg,rfl,λo1 ho=>?_,λh' he=>?_⟩
     .simp only[ae]at ho;subst ho;simp only[iq,iN,oy];refine dz λi=>?_
      grind [AW]
     .simp only[loadAt,he,hu];rfl
   |some m =>
    simp only at hl;split at hl
    .rename_i hb;obtain⟨rfl,rfl⟩:=hl;refine .inl ⟨id,_,some (.cells (ar cs off (eh 2 (sub cs off m)).2)),hg,rfl,λo1 ho=>?_,λh' he=>?_⟩
     .simp only[iq]
      grind [Nat.le_of_ble_eq_true,GM,iN,List.length_map,sub,ar,List.map_drop,List.take_append_drop]
     .simp only[loadAt,he,hb];rfl
    simp_all
  simp_all
 .rename_i id i off;split at hl
  .rename_i m xs hg;split at hl
   .rename_i x hx;split at hl
    .rename_i u hu;obtain⟨rfl,rfl⟩:=hl;exact .inl ⟨id,_,none,hg,rfl,λo1 ho=>by simp at ho,λh' he=>by simp only[loadAt,he,hx,hu];rfl⟩
    simp_all
   simp_all
  simp_all
 grind [loadAt]
def ai4 (n:H_)(p:Rd):gJ KT (An n 2 p) (md p) (jd p):=by
 intro e hs v st1 hf;unfold An at hf;split at hf
 .rename_i u e1 hr;split at hf
  .rename_i w h1 hl;obtain⟨rfl,rfl⟩:=hf;obtain⟨s1,g1,l1⟩:=Lf hr;rcases aoC hl with ⟨id,o0,o,k0,k1,k2,k3⟩|⟨k1,k3⟩
   .refine⟨λhs'=>get hs'.heap id=some o0,λhs'=>⟨BT hs'.heap id o,hs'.next⟩,.inl ⟨id,o0,o,k0,λ_ h=>h,λ_=>rfl,k2⟩,by rw[k1],s1,λk hk=>by simp_all,λe' hs' he hρ=>?_⟩;obtain⟨e1',hr',g1'⟩:=l1 e' he
    simp_all [An]
   .refine⟨λ_=>True,id,.inr ⟨λ_=>trivial,λ_=>rfl⟩,u_,s1,λk hk=>by simp_all,λe' hs' he _=>?_⟩;obtain⟨e1',hr',g1'⟩:=l1 e' he
    simp_all [An]
  simp_all
 simp_all
section
variable {r:cH}{K:HK}
theorem MI (d:H_)(v:AV)(st:St):(bS d v st).hs=st.hs∧(bV st.env->bV (bS d v st).env)∧∀k,get (bS d v st).env k=if d=some k then some v else get st.env k:=by
 cases hd:d<;>grind [bS,bV.put,ee]
theorem Mq {i:VI}{M0:C_}{k:Nat}(hk:k∉wt i M0):i.dst≠some k∧k∉M0:=by
 grind [wt]
theorem aa6 {i:VI}{M0:C_}{k:Nat}(hk:k∈wt i M0):i.dst=some k∨k∈M0:=by
 grind [wt]
def qy {i:VI}{R0 M0:C_}{f:St->K_}(hf:∀st,eE r i st=match f st with|some (v,st)=>some (bS i.dst v st)|none=>none)(hl:gJ K f R0 M0)(hid:∀hs,K hs (λ_=>True) id) :
  MC K (b4 r i) (JR i (R0++M0)) (wt i M0):=by
 have go:∀e hs st1,eE r i ⟨e,hs⟩=some st1->∃ρ τ,K hs ρ τ∧st1.hs=τ hs∧(bV e->bV st1.env)∧(∀k,k∉wt i M0->get st1.env k=get e k)∧
   ∀e' hs',(∀k∈R0++M0,get e' k=get e k)->ρ hs'->∃e1',eE r i ⟨e',hs'⟩=some ⟨e1',τ hs'⟩∧(∀k,k∉wt i M0->get e1' k=get e' k)∧∀k∈wt i M0,get e1' k=get st1.env k:=by
  intro e hs st1 h;rw[hf]at h;split at h
  .rename_i v st0 hv;simp only[ae]at h;subst h;obtain⟨ρ,τ,hK,q1,q2,q3,q4⟩:=hl e hs v st0 hv;obtain⟨t1,t2,t3⟩:=MI i.dst v st0;refine⟨ρ,τ,hK,t1.trans q1,λh=>t2 (q2 h),λk hk=>?_,λe' hs' he hρ=>?_⟩
   .grind [Mq]
   .obtain⟨e1',p1,p2,p3⟩:=q4 e' hs' (λk hk=>he k (bT _ hk)) hρ;obtain⟨u1,u2,u3⟩:=MI i.dst v ⟨e1',τ hs'⟩;refine⟨(bS i.dst v ⟨e1',τ hs'⟩).env,?_,λk hk=>?_,λk hk=>?_⟩
    .rw[hf,p1]
     cases i.dst<;>rfl
    all_goals grind [Mq,aa6]
  simp_all
 have no:∀e hs,(bS i.dst (.tup []) ⟨e,hs⟩).hs=hs∧(bV e->bV (bS i.dst (.tup []) ⟨e,hs⟩).env)∧(∀k,k∉wt i M0->get (bS i.dst (.tup []) ⟨e,hs⟩).env k=get e k)∧
   ∀e' hs',(∀k∈R0++M0,get e' k=get e k)->(∀k,k∉wt i M0->get (bS i.dst (.tup []) ⟨e',hs'⟩).env k=get e' k)∧
    ∀k∈wt i M0,get (bS i.dst (.tup []) ⟨e',hs'⟩).env k=get (bS i.dst (.tup []) ⟨e,hs⟩).env k:=by
  intro e hs;obtain⟨t1,t2,t3⟩:=MI i.dst (.tup []) ⟨e,hs⟩;refine⟨t1,t2,λk hk=>?_,λe' hs' he=>?_⟩
  .rw[t3,aa (Mq hk).1]
  grind [MI,Mq,aa6]
 intro e hs st1 h;unfold b4 at h
 cases hg:i.guard with
 |none =>
  simp_all [JR,b4]
 |some sw =>
  obtain⟨sl,want⟩:=sw;rw[hg]at h;simp only at h;have hgs:JR i (R0++M0)=sl::(R0++M0):=by unfold JR;rw[hg]
  rw[hgs];have hsl:∀e',(∀k∈sl::(R0++M0),get e' k=get e k)->get e' sl=get e sl:=λe' he=>he sl (.head _)
  have hre:∀e',(∀k∈sl::(R0++M0),get e' k=get e k)->∀k∈R0++M0,get e' k=get e k:=λe' he k hk=>he k (.tail _ hk)
  split at h
  .rename_i b hb;split at h
   .obtain⟨ρ,τ,hK,q1,q2,q3,q4⟩:=go e hs st1 h;refine⟨ρ,τ,hK,q1,q2,q3,λe' hs' he hρ=>?_⟩;obtain⟨e1',p1,p2,p3⟩:=q4 e' hs' (hre e' he) hρ
    grind [b4]
   .rename_i hbw;simp only[ae]at h;subst h;obtain⟨q1,q2,q3,q4⟩:=no e hs;refine⟨λ_=>True,id,hid hs,q1,q2,q3,λe' hs' he _=>?_⟩;obtain⟨p2,p3⟩:=q4 e' hs' (hre e' he);refine⟨(bS i.dst (.tup []) ⟨e',hs'⟩).env,?_,p2,p3⟩;unfold b4;rw[hg];simp only[hsl e' he,hb,hbw,ae]
    cases i.dst<;>rfl
  .rename_i hb;simp only[ae]at h;subst h;obtain⟨q1,q2,q3,q4⟩:=no e hs;refine⟨λ_=>True,id,hid hs,q1,q2,q3,λe' hs' he _=>?_⟩;obtain⟨p2,p3⟩:=q4 e' hs' (hre e' he);refine⟨(bS i.dst (.tup []) ⟨e',hs'⟩).env,?_,p2,p3⟩;unfold b4;rw[hg];simp only[hsl e' he,hb,ae]
   cases i.dst<;>rfl
  grind
def KQ.id (hs:HS):KQ hs (λ_=>True) _root_.id:=⟨λ_ _=>trivial,λ_=>rfl⟩
def KT.id (hs:HS):KT hs (λ_=>True) _root_.id:=.inr ⟨λ_=>trivial,λ_=>rfl⟩
def KP.id (hs:HS):KP hs (λ_=>True) _root_.id:=.inl (KQ.id hs)
def KA.id (hs:HS):KA hs (λ_=>True) _root_.id:=⟨[],λ_ _ _=>trivial,λ_ _=>rfl⟩
theorem Uc:∀(os:List Obj) (hs:HS),(push hs os).next=hs.next+os.length
 |[],_=>rfl
 |o::os,hs=>by simp only[push,Uc os,aE];omega
theorem Xy:∀(a b:List Obj) (hs:HS),push hs (a++b)=push (push hs a) b
 |[],_,_=>rfl
 |o::a,b,hs=>by simp only[aI,push,Xy a b]
def LE (n:Nat)(v:AV):∃u os,∀hs:HS,hs.next=n->lN hs v=(u,push hs os):=by
 have same:(∀hs,lN hs v=(v,hs))->∃u os,∀hs:HS,hs.next=n->lN hs v=(u,push hs os):=λh=>⟨v,[],λhs _=>h hs⟩
 cases v<;>try exact same λhs=>rfl
 rename_i p m xs
 cases p with
 |false=>exact same λhs=>rfl
 |true =>
  cases hm:Nat.beq m 0 with
  |true=>simp_all [lN]
  |false =>
   refine⟨.sl n 0 xs.length,[.arr m xs],λhs hn=>?_⟩
   grind [lN,push]
def JM (n o:Nat)(v:AV):∃u os,∀hs:HS,hs.next=n->kN hs o v=(u,push hs os):=by
 have one:(∀hs,kN hs o v=lN hs v)->∃u os,∀hs:HS,hs.next=n->kN hs o v=(u,push hs os):=λh=>by
  simp_all [LE]
 cases v<;>try exact one λhs=>rfl
 rename_i cs
 cases hc:cs[o]? with
 |none=>exact⟨.agg cs,[],λhs _=>by grind [kN,push]⟩
 |some v =>
  obtain⟨u,os,k⟩:=LE n v;exact⟨.agg (cs.set o u),os,λhs hn=>by grind [kN]⟩
def Up (n:Nat)(p:Nat×Nat)(v:AV):∃u os,∀hs:HS,hs.next=n->nU hs p v=(u,push hs os):=by
 have one:(∀hs,nU hs p v=kN hs p.2 v)->∃u os,∀hs:HS,hs.next=n->nU hs p v=(u,push hs os):=λh=>by
  simp_all [JM]
 cases v<;>try exact one λhs=>rfl
 rename_i cs
 cases hc:cs[p.1]? with
 |none=>exact⟨.tup cs,[],λhs _=>by grind [nU,push]⟩
 |some v =>
  obtain⟨u,os,k⟩:=JM n p.2 v;exact⟨.tup (cs.set p.1 u),os,λhs hn=>by grind [nU]⟩
def Hm:∀(th:O_) (n:Nat) (v:AV),∃u os,∀hs:HS,hs.next=n->cY th v hs=(u,push hs os)
 |[],n,v=>⟨v,[],λhs _=>rfl⟩
 |p::r,n,v=>by
  obtain⟨u,os,k⟩:=Up n p v;obtain⟨u2,os2,k2⟩:=Hm r (n+os.length) u;refine⟨u2,os++os2,λhs hn=>?_⟩
  grind [cY,Uc,Xy]
end
end Go.Vm
end
