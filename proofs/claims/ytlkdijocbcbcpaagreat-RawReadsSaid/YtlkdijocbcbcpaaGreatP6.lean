import Derived.Test.YtlkdijocbcbcpaaGreatP5
set_option linter.unusedVariables false
set_option linter.unusedSimpArgs false
set_option linter.defProp false
set_option linter.unusedSectionVars false
noncomputable section
namespace Go.Vm
set_option maxRecDepth 100000
set_option maxHeartbeats 8000000
theorem w_ {p:Prop}(h:p:=by simp only[];omega):p:=h
structure Tl {σ:Type}(hp:σ->ak->ak)(L:Nat):Prop where
 put:∀s K o,L<=K->Go.Vm.put (hp s []) K o=hp s [(K,o)]
 put2:∀s K o o',L<=K->Go.Vm.put (hp s [(K,o)]) K o'=hp s [(K,o')]
 get:∀s K o,L<=K->Go.Vm.get (hp s [(K,o)]) K=some o
 del:∀s K o,L<=K->Go.Vm.del (hp s [(K,o)]) K=hp s []
def wP {σ τ:Type}(st:Nat->Int->σ->Sum σ τ):E_->Nat->σ->Sum σ τ
 |[],_,s=>.inl s
 |k::r,a,s=>match st a k s with
  |.inl s=>wP st r (a+1) s
  |.inr z=>.inr z
def afH {σ τ:Type}{st:Nat->Int->σ->Sum σ τ}:∀{l r:E_}{a:Nat}{s:σ},wP st (l++r) a s=match wP st l a s with
  |.inl s=>wP st r (a+l.length) s
  |.inr z=>.inr z
 |[],r,a,s=>rfl
 |k::l,r,a,s=>by
  rw[aK,wP,wP]
  cases st a k s with
  |inl s=>simp only[afH,ar];rw[show a+(l.length+1)=a+1+l.length by omega]
  |inr z=>rfl
section
variable {σ τ:Type}{hp:σ->ak->ak}{hq:τ->ak->ak}{L l p:Nat}{bks:E_}{st:Nat->Int->σ->Sum σ τ}{eq:Nat->σ->Prop}
def Rnd (hp:σ->ak->ak)(hq:τ->ak->ak)(L l:Nat)(bks:E_)(st:Nat->Int->σ->Sum σ τ)(eq:Nat->σ->Prop):Prop :=
 ∀a k s K o N,bks[a]?=some k->eq a s->L<=K->K<N->
  (∃s2,st a k s=.inl s2∧eq (a+1) s2∧dD (Dn prog) (.yield l) [A_ (a:Int),A_ k] ⟨hp s [(K,o)],N⟩=some (B_ true,⟨hp s2 [(K,o)],N⟩))∨
  (∃z,st a k s=.inr z∧dD (Dn prog) (.yield l) [A_ (a:Int),A_ k] ⟨hp s [(K,o)],N⟩=some (B_ false,⟨hq z [(K,o)],N⟩))
theorem alz (H:Tl hp L)(H2:Tl hq L)(hY:Rnd hp hq L l bks st eq)(full:U_)(s0:bl)(hs0:s0.len<=1000)(i K N:Nat)(hK:L<=K)(hKN:K<N):∀(k j a:Nat) (s:σ),j+k=s0.len.toNat->(∀q,q<k->bks[a+q]?=some s0.book)->a+k<=100000000->eq a s->
  (∃s2,wP st (List.replicate k s0.book) a s=.inl s2∧eq (a+k) s2∧(Dn prog).code (.loop mQ) ⟨[(0,.yield l),(3,A_ a),(5,.ptr K 0),(6,.d (.lst (fj full))),(7,A_ full.length),(8,A_ i),(13,A_ s0.len),(14,A_ j)],⟨hp s [(K,.cells [A_ s0.book,A_ s0.len])],N⟩⟩ =
   some (.exit 2,⟨[(0,.yield l),(3,A_ (a+k:Nat)),(6,.d (.lst (fj full))),(7,A_ full.length),(8,A_ i)],⟨hp s2 [],N⟩⟩))∨
  (∃z,wP st (List.replicate k s0.book) a s=.inr z∧(Dn prog).code (.loop mQ) ⟨[(0,.yield l),(3,A_ a),(5,.ptr K 0),(6,.d (.lst (fj full))),(7,A_ full.length),(8,A_ i),(13,A_ s0.len),(14,A_ j)],⟨hp s [(K,.cells [A_ s0.book,A_ s0.len])],N⟩⟩ =
   some (.ret,⟨[],⟨hq z [],N⟩⟩)):=by
 have hG:=λs o=>H.get s K o hK
 have hD:=λs o=>H.del s K o hK
 have hD2:=λs o=>H2.del s K o hK
 intro k
 induction k with
 |zero =>
  intro j a s h1 h2 h3 hi;refine .inl ⟨s,rfl,hi,?_⟩;rw[ah yp];simp(maxSteps:=9^6)(disch:=omega)[↓aa,hD]
 |succ k ih =>
  intro j a s h1 h2 h3 hi;have hb:=h2 0 o_;rw[cS]at hb;have c1:((j+1:Nat):Int)=(j:Int)+1:=rfl;have c2:((a+1:Nat):Int)=(a:Int)+1:=rfl;rw[cD];rcases hY a s0.book s K (.cells [A_ s0.book,A_ s0.len]) N hb hi hK hKN with ⟨s2,e1,e2,e3⟩|⟨z,e1,e3⟩
  .rw[wP,e1,ah yp];have e4:a+(k+1)=a+1+k:=o_;have h9:=ih (j+1) (a+1) s2 o_ (λq hq=>by rw[show a+1+q=a+(q+1) by omega];exact h2 (q+1) o_) o_ e2;rw[c1,c2]at h9;rw[e4];rcases h9 with ⟨s3,f1,f2,f3⟩|⟨z,f1,f3⟩
   .refine .inl ⟨s3,f1,f2,?_⟩;rw[<-f3];simp(maxSteps:=9^6)(disch:=omega)[↓ac,↓aa,hG,-rI,e3]
   .refine .inr ⟨z,f1,?_⟩;rw[<-f3];simp(maxSteps:=9^6)(disch:=omega)[↓ac,↓aa,hG,-rI,e3]
  .refine .inr ⟨z,by rw[wP,e1],?_⟩;rw[ah yp];simp(maxSteps:=9^6)(disch:=omega)[↓ac,↓aa,hG,-rI,e3,hD2]
theorem alr (H:Tl hp L)(H2:Tl hq L)(hY:Rnd hp hq L l bks st eq)(full:U_)(hfl:full.length<=1000):∀(r:U_) (i a N:Nat) (s:σ),full.drop i=r->(∀q∈r,0<=q.len∧q.len<=1000)->bks.drop a=bz r->a<=1000*i->L<=N->eq a s->
  (∃s2 M,wP st (bz r) a s=.inl s2∧eq (a+(bz r).length) s2∧N<=M∧(Dn prog).code (.loop mE) ⟨[(0,.yield l),(3,A_ a),(6,.d (.lst (fj full))),(7,A_ full.length),(8,A_ i)],⟨hp s [],N⟩⟩ =
   some (.exit 0,⟨[],⟨hp s2 [],M⟩⟩))∨
  (∃z M,wP st (bz r) a s=.inr z∧N<=M∧(Dn prog).code (.loop mE) ⟨[(0,.yield l),(3,A_ a),(6,.d (.lst (fj full))),(7,A_ full.length),(8,A_ i)],⟨hp s [],N⟩⟩ =
   some (.ret,⟨[],⟨hq z [],M⟩⟩)):=by
 intro r
 induction r with
 |nil =>
  intro i a N s hd hr hb ha hL hi;have hk:=eD hd;refine .inl ⟨s,N,rfl,hi,ai _,?_⟩;rw[ah rM];simp(maxSteps:=9^6)(disch:=omega)[↓aa]
 |cons q r ih =>
  intro i a N s hd hr hb ha hL hi;have hq:=hr q (.head _);have hlt:=ed hd;have hg:=EY hd;have eb:bz (q::r)=List.replicate q.len.toNat q.book++bz r:=by rw[bz,be];rfl
  rw[eb]at hb;have hbk:∀j,j<q.len.toNat->bks[a+j]?=some q.book:=λj hj=>by
   have:=aY (λl=>l[j]?) hb;simp only[bx]at this;rw[this,dj (by simpa using hj)];simp[hj]
  have hb2:bks.drop (a+q.len.toNat)=bz r:=by
   have:=aY (λl=>l.drop q.len.toNat) hb;simp only[cW]at this;rw[this,List.drop_left' s_]
  have hp1:=λo=>H.put s N o hL
  have hp2:=λo o'=>H.put2 s N o o' hL
  have hG:=λo=>H.get s N o hL
  have c1:((i+1:Nat):Int)=(i:Int)+1:=rfl;have c0:((0:Nat):Int)=0:=rfl;have h0:=alz H H2 hY full q hq.2 i N (N+1) hL o_ q.len.toNat 0 a s o_ hbk o_ hi;rw[c0]at h0;rw[eb,afH];rcases h0 with ⟨s2,e1,e2,e3⟩|⟨z,e1,e3⟩
  .have h9:=ih (i+1) (a+q.len.toNat) (N+1) s2 (dU hd) (λx hx=>hr x (.tail _ hx)) hb2 o_ o_ e2;rw[c1]at h9;rw[e1];simp only[aN,bE];rcases h9 with ⟨s3,M,f1,f2,f3,f4⟩|⟨z,M,f1,f3,f4⟩
   .refine .inl ⟨s3,M,f1,by rw[<-cm];exact f2,o_,?_⟩;rw[ah rM,<-f4];simp(maxSteps:=9^6)(disch:=omega)[↓ac,↓aa,hg,hp1,hp2,hG,e3]
   .refine .inr ⟨z,M,f1,o_,?_⟩;rw[ah rM,<-f4];simp(maxSteps:=9^6)(disch:=omega)[↓ac,↓aa,hg,hp1,hp2,hG,e3]
  .rw[e1];refine .inr ⟨z,N+1,rfl,o_,?_⟩;rw[ah rM];simp(maxSteps:=9^6)(disch:=omega)[↓ac,↓aa,hg,hp1,hp2,hG,e3]
theorem atY (H:Tl hp L)(H2:Tl hq L)(full:U_)(hY:Rnd hp hq L l (bz full) st eq)(hgp:∀s,get (hp s []) p=some (.cells [.d (.lst (fj full))]))(hfl:full.length<=1000)(hr:∀q∈full,0<=q.len∧q.len<=1000)(N:Nat)(s:σ)(hN:L<=N)(hi:eq 0 s) :
  (∃s2 M,wP st (bz full) 0 s=.inl s2∧eq (bz full).length s2∧N<=M∧(Dn prog).call ni [.yield l,.ptr p 0] ⟨hp s [],N⟩=some (.tup [],⟨hp s2 [],M⟩))∨
  (∃z M,wP st (bz full) 0 s=.inr z∧N<=M∧(Dn prog).call ni [.yield l,.ptr p 0] ⟨hp s [],N⟩=some (.tup [],⟨hq z [],M⟩)):=by
 have h:=alr H H2 hY full hfl full 0 0 N s rfl hr rfl o_ hN hi;have c0:((0:Nat):Int)=0:=rfl;rw[c0,b7]at h;rw[bC ZO Yi rfl];rcases h with ⟨s2,M,e1,e2,e3,e4⟩|⟨z,M,e1,e3,e4⟩
 .refine .inl ⟨s2,M,e1,e2,e3,?_⟩;simp(maxSteps:=9^6)(disch:=omega)[hgp,e4]
 .refine .inr ⟨z,M,e1,e3,?_⟩;simp(maxSteps:=9^6)(disch:=omega)[hgp,e4]
end
def ahE (x:D)(h:ak)(N:Nat):(Dn prog).call HN [.d x] ⟨h,N⟩=some (.fn ni [] [.ptr N 0],⟨put h N (.cells [.d x]),N+1⟩):=by
 rw[bC adr acU rfl];simp(maxSteps:=9^6)(disch:=omega)
def cT (t:O_):F_:=t.map λl=>[.lst (am l)]
@[simp] def ab6 {t:O_}:(cT t).length=t.length:=by simp[cT]
def aoI {g:O_}{i:Nat}{l:E_}{r:O_}(h:g.drop i=l::r):(cT g)[i]?=some [.lst (am l)]:=by
 grind [List.getElem?_cons_zero,cT]
def IT {l:E_}{i:Nat}{k:Int}{r:E_}(h:l.drop i=k::r):(am l)[i]?=some [.int .i64 k]:=by
 grind [List.getElem?_cons_zero,am]
def oT:E_->E_->Int->Int->Option (Int×Int)
 |[],[],w,z=>some (w,z)
 |k::r,n::t,w,z=>if k=0 then (if n=0 then oT r t w z else none) else if xt k n w z then (if k=13 then oT r t w n else oT r t n z) else none
 |_,_,_,_=>none
def Lb:H_->O_->Int->Int->Option (Int×Int)
 |[],[],w,z=>some (w,z)
 |l::r,t::s,w,z=>match oT (bz l) t w z with
  |some (w,z)=>Lb r s w z
  |none=>none
 |_,_,_,_=>none
abbrev TJ (gain:Int)(g:H_)(t:O_):Prop:=Lb g t gain (-1)≠none
abbrev in5 (w:Int):Prop:=-1<=w∧w<=511
def axi {k n w z:Int}(h:xt k n w z):in5 n:=by
 grind
def Jx (k n w z:Int):Int×Int:=if k=0 then (w,z) else if k=13 then (w,n) else (n,z)
def GK {k n:Int}{r t:E_}{w z:Int}(h:oT (k::r) (n::t) w z≠none):(k=0->n=0)∧(k≠0->xt k n w z)∧oT (k::r) (n::t) w z=oT r t (Jx k n w z).1 (Jx k n w z).2:=by
 grind [oT,Jx]
def asf {l:U_}{lf:Int}(h:fitsS lf l):∀k∈bz l,0<=k∧k<=13:=by
 induction l generalizing lf with
 |nil=>grind [bz]
 |cons s r ih =>
  intro k hk;obtain⟨h1,h2⟩:=h
  grind [bz]
def kr (b:C_):H_->Int->Int->Int->R O_
 |[],a,_,_=>.ok [] a.toNat
 |l::r,a,w,z=>(mC b (bz l) a w z).bind λq n=>(kr b r n q.2.1 q.2.2).bind λt n=>.ok (q.1::t) n
abbrev pSc (b:C_)(g:H_)(t:O_)(n:Nat):Prop:=t.map List.length=g.map (λl=>(bz l).length)∧n<=b.length
def JU {b:C_}:∀{g:H_}{a:Nat}{w z:Int}{t:O_}{n:Nat},a<=b.length->KL w->KL z->kr b g a w z=.ok t n->pSc b g t n
 |[],a,w,z,t,n,ha,hw,hz,h=>by
  rw[kr]at h;injection h with g1 g2
  subst g1 g2;exact⟨rfl,by simpa using ha⟩
 |l::r,a,w,z,t,n,ha,hw,hz,h=>by
  rw[kr]at h
  cases h1:mC b (bz l) a w z with
  |er e=>rw[h1]at h;exact absurd h (by simp)
  |ok q m =>
   rw[h1,ao]at h;have hp:=uh ha hw hz h1
   cases h2:kr b r m q.2.1 q.2.2 with
   |er e=>rw[h2]at h;exact absurd h (by simp)
   |ok t1 m1 =>
    rw[h2,ao]at h;have hq:=JU hp.2.2 hp.2.1.1 hp.2.1.2 h2;injection h with g1 g2
    subst g1 g2;exact⟨by simp only[bZ,hq.1,hp.1],hq.2⟩
def ag4 {t:O_}{l:E_}:cT (t++[l])=cT t++[[.lst (am l)]]:=by simp[cT]
def Zw {l:U_}(hl:l.length<=1000)(hs:∀s∈l,0<=s.len∧s.len<=1000):(bz l).length<=1000*l.length:=by
 induction l with
 |nil=>simp[bz]
 |cons s r ih =>
  have h1:=hs s (.head _);have h2:=ih (by simp at hl;omega) λq hq=>hs q (.tail _ hq)
  simp only[bz,be,aN,bE,ar]at h2⊢;omega
def arR {l:E_}:firm (afy l)=al 1 (am l):=by cases l<;>rfl
abbrev TW (l:U_):Prop:=l.length<=1000∧∀s∈l,0<=s.len∧s.len<=1000
def acK (b:C_)(hb:b.length<=1000000000)(full:H_)(hfl:full.length<=1000)(h:ak)(N:Nat):∀(g:H_) (i a:Nat) (w z:Int) (acc:O_),full.drop i=g->(∀l∈g,TW l)->a<=b.length->KL w->KL z->acc.length<=1000+i->
  (Dn prog).code (.loop lL) ⟨[(0,.d (.lst (ax b))),(1,A_ a),(3,.d (.lst (bi full))),(11,al 1 (cT acc)),(12,A_ w),(13,A_ z),(14,A_ i)],⟨h,N⟩⟩ =
  rK (pSc b g) (kr b g a w z) (λt n=>some (.exit 0,⟨[(1,A_ n),(11,al 1 (cT (acc++t)))],⟨h,N⟩⟩)) (λe=>asG e ⟨h,N⟩):=by
 have hsl:(bi full).length=full.length:=Cz;intro g
 induction g with
 |nil =>
  intro i a w z acc hd hok ha hw hz hac;have hk:full.length<=i:=by simpa [aU] using hd
  rw[ah Ah,kr,b9 ⟨rfl,by simpa using ha⟩];simp(maxSteps:=9^6)(disch:=omega)[ac,aa]
 |cons l r ih =>
  intro i a w z acc hd hok ha hw hz hac;have hlt:=ed hd;have hg:=xB hd;have hl:=hok l (.head _);have hbk:=aif l hl.1 hl.2;have hbl:=Zw hl.1 hl.2;have h0:=adk b hb (bz l) (.d (.lst (bi full))) (al 1 (cT acc)) (.int .i64 i) h N (bz l) 0 a w z [] rfl o_ ha hw hz s_;have c0:((0:Nat):Int)=0:=rfl;have c1:((i+1:Nat):Int)=(i:Int)+1:=rfl;have n0:am ([]:E_)=[]:=rfl;have hla:=ab6 (t:=acc);rw[c0,n0,dH]at h0;clear hsl;rw[ah Ah,kr,fF (q:=abk b (bz l)) λ_ _ h=>uh ha hw hz h];simp(maxSteps:=9^6)(disch:=omega)[ac,aa,hg,hbk,arR,h0,Cz];refine pt (λ_ _ h=>uh ha hw hz h) (λq n e2 hp=>?_) λe e2=>rfl
  have h5:=ih (i+1) n q.2.1 q.2.2 (acc++[q.1]) (dU hd) (λx hx=>hok x (.tail _ hx)) hp.2.2 hp.2.1.1 hp.2.1.2 t_;rw[c1,ag4,dy]at h5;rw[h5,fF (q:=pSc b r) λ_ _ h=>JU hp.2.2 hp.2.1.1 hp.2.1.2 h];refine pt (λ_ _ h=>JU hp.2.2 hp.2.1.1 hp.2.1.2 h) (λt m e3 hq=>?_) λe e3=>rfl
  rw[b9 ⟨by simp only[bZ,hq.1,hp.1],hq.2⟩,aw];rfl
def aaL (t:O_)(n:Int):AV:=et (.tup [al 1 (cT t),A_ n,A_ 0])
def arY {h:ak}{t:O_}{n:Int}:eY h (.tup [al 1 (cT t),A_ n,A_ 0])=some (aaL t n):=by
 unfold aaL
 cases cT t<;>rfl
def Z4 {v:AV}:jB (nQ v)=jB v:=by cases v<;>rfl
def aue {v:AV}:tf (mR v)=tf v:=by
 cases v with
 |agg cs=>simp only[mR,tf,jF];congr 1;exact List.map_congr_left λx _=>Z4
 |_=>first|rfl|exact Z4
def avE {v:AV}:firm (et v)=firm v:=by
 unfold et;split
 .cases v with
  |agg cs=>simp only[nG,mR,firm,jF];congr 1;exact List.map_congr_left λx _=>Z4
  |tup cs=>simp only[nG,firm,jF];congr 1;exact List.map_congr_left λx _=>aue
  |_=>rfl
 .rfl
def awB {t:O_}{n:Int}:firm (aaL t n)=.tup [al 1 (cT t),A_ n,A_ 0]:=by
 rw[aaL,avE];show AV.tup [tf (al 1 (cT t)),_,_]=_;rw[avO];rfl
def ap1 {h:ak}{a b:Int}:eY h (.tup [.nl,A_ a,A_ b])=some (.tup [.nl,A_ a,A_ b]):=rfl
def po (b:C_)(g:H_)(a gain:Int):R O_:=if 0<=a∧a<=b.length then kr b g a gain (-1) else .er 1
def alE (b:C_)(hb:b.length<=1000000000)(a gain:Int)(ha:i64 a)(hg:0<=gain∧gain<=255)(g:H_)(hl:g.length<=1000)(hok:∀l∈g,TW l):bn prog vj [.d (.lst (ax b)),A_ a,A_ gain,.d (.lst (bi g))] =
  rK (pSc b g) (po b g a gain) (λt n=>some (aaL t n)) (λe=>some (.tup [.nl,A_ 0,A_ (e+1)])):=by
 rw[aL PZ Ps rfl,po];by_cases h1:0<=a
 .by_cases h2:a<=b.length
  .rw[ac ⟨h1,h2⟩];obtain⟨A,rfl⟩:=ay h1;have h0:=acK b hb g hl [] 0 g 0 A gain (-1) [] rfl hok o_ ⟨o_,o_⟩ ⟨o_,o_⟩ s_;have c0:((0:Nat):Int)=0:=rfl;have n0:cT []=[]:=rfl;rw[c0,n0,dH]at h0;simp(maxSteps:=9^6)(disch:=omega)[↓ac,↓aa,h0,-yF,arY,ap1]
  .rw[aa (λh=>h2 h.2),ee];simp(maxSteps:=9^6)(disch:=omega)[↓ac,↓aa]
 .rw[aa (λh=>h1 h.1),ee];simp(maxSteps:=9^6)(disch:=omega)[↓ac,↓aa]
structure SG where
 row:E_
 nx:Nat
 w:Int
 z:Int
def D2 {A0 A1 A2 A3:Obj}{R:ak}(book n s z:Int)(N:Nat)(hn:-100000<=n∧n<=100000)(hs:-100000<=s∧s<=100000)(hz:-100000<=z∧z<=100000) :
  (Dn prog).call xJ [.ptr 4 0,A_ book,A_ n] ⟨(0,A0)::(1,A1)::(2,A2)::(3,A3)::(4,.cells [A_ s,A_ z])::R,N⟩ =
   if xt book n s z then some (B_ true,⟨if book=13 then (0,A0)::(1,A1)::(2,A2)::(3,A3)::(4,.cells [A_ s,A_ n])::R else (0,A0)::(1,A1)::(2,A2)::(3,A3)::(4,.cells [A_ n,A_ z])::R,N⟩) else some (B_ false,⟨(0,A0)::(1,A1)::(2,A2)::(3,A3)::(4,.cells [A_ s,A_ z])::R,N⟩) :=
 amC (hp:=λs z=>(0,A0)::(1,A1)::(2,A2)::(3,A3)::(4,.cells [A_ s,A_ z])::R) (A:=4) ⟨λs z=>by simp,λs z s' z'=>by simp⟩ book n s z N hn hs hz
section
variable (b:C_)(full:H_)(ss:O_)(l:U_)(i N:Nat)
abbrev adX:aT:=[(4,.ptr 0 0),(8,.ptr 1 0),(9,.ptr 2 0),(10,.ptr 3 0),(11,.ptr 5 0),(14,.ptr N 0),(35,.d (.lst (bi full))),(36,A_ full.length),(37,A_ i),(42,.fn ni [] [.ptr (N+1) 0])]
abbrev FG (q:Bool)(p:BF_)(x1 x2 x3:AV)(row:E_)(w z:Int)(T:ak):ak :=
 (0,.cells [.d (.lst (ax b))])::(1,.cells [x1])::(2,.cells [x2])::(3,.cells [x3])::(4,.cells [A_ w,A_ z])::(5,.cells [.ptr 4 0])::(N,.cells [al 1 (am row)])::(N+1,.cells [.d (.lst (fj l))])::(N+1+1,.loop (adX full i N) [43,44] yJ yx q p)::T
abbrev hpG (s:SG)(T:ak):ak:=FG b full l i N false none (al 1 (cT ss)) (A_ s.nx) (A_ 0) s.row s.w s.z T
abbrev hqG (s:Nat×SG)(T:ak):ak:=FG b full l i N false (some .ret) .nl (A_ 0) (A_ ((s.1:Int)+1)) s.2.row s.2.w s.2.z T
end
def PY (b:C_)(k:Int)(s:SG):Sum SG (Nat×SG) :=
 if k=13 then (match i9 b s.nx 13 s.z with
  |.ok v n=>.inl ⟨s.row++[v],n,s.w,v⟩
  |.er e=>.inr (e,s))
 else if 0<k then (match i9 b s.nx k s.w with
  |.ok v n=>.inl ⟨s.row++[v],n,v,s.z⟩
  |.er e=>.inr (e,s))
 else .inl ⟨s.row++[0],s.nx,s.w,s.z⟩
def alL (b:C_)(a:Nat)(s:SG):Prop:=s.nx<=b.length∧(0<=s.w∧s.w<=511)∧KL s.z∧s.row.length=a∧a<=1000000
def aAw (b:C_)(hb:b.length<=1000000000)(full:H_)(ss:O_)(l:U_)(i N:Nat)(hN:6<=N)(a:Nat)(k:Int)(hk:0<=k∧k<=13)(s:SG)(hs:alL b a s)(K M:Nat)(o:Obj)(hK:N+1+1+1<=K) :
  dD (Dn prog) (.yield (N+1+1)) [A_ (a:Int),A_ k] ⟨hpG b full ss l i N s [(K,o)],M⟩ =
  match PY b k s with
  |.inl s2=>some (B_ true,⟨hpG b full ss l i N s2 [(K,o)],M⟩)
  |.inr z=>some (B_ false,⟨hqG b full l i N z [(K,o)],M⟩):=by
 obtain⟨h1,h2,h3,h4,h5⟩:=hs;obtain⟨n0,n1,n2,n3,n4⟩:(N≠0∧N≠1∧N≠2∧N≠3∧N≠4∧N≠5)∧(N+1≠0∧N+1≠1∧N+1≠2∧N+1≠3∧N+1≠4∧N+1≠5)∧(N+1+1≠0∧N+1+1≠1∧N+1+1≠2∧N+1+1≠3∧N+1+1≠4∧N+1+1≠5)∧N+1+1≠N∧N+1+1≠N+1:=o_;have hrl:=dc (l:=s.row);have eo:∀v,AV.own false 1 (am (s.row++[v]))=al 1 (am (s.row++[v])):=λv=>by rw[D3];exact dy.symm
 have hS:=ahn b s.nx hb o_;have hG:=io b s.nx 9 hb o_;have hz0:=h3.1;have hz1:=h3.2;rw[PY];by_cases e1:k=13
 .subst e1;rw[ac rfl];by_cases hz:s.z<0
  .cases hg:aE b s.nx 9 with
   |ok v n =>
    have hp:=cu hg;have hv:v<512:=hp.1;have hn:=hp.2;rw[hg,b9 hp]at hG;have ho:i9 b s.nx 13 s.z=.ok (v:Int) n:=by rw[i9,ac hz,hg,ao]
    have hT:xt 13 v s.w s.z:=by rw[xt,ac rfl];omega
    rw[ho];simp(maxSteps:=9^6)(disch:=omega)[iG,iH,↓ac,↓aa,n0,n1,n2,n3,n4,D2,hG,ac hT];exact eo _
   |er e =>
    rw[hg,ee]at hG;have ho:i9 b s.nx 13 s.z=.er e:=by rw[i9,ac hz,hg,aQ]
    rw[ho];simp(maxSteps:=9^6)(disch:=omega)[iG,iH,↓ac,↓aa,n0,n1,n2,n3,n4,D2,hG]
  .cases hg:Fl b s.nx with
   |ok d n =>
    have hp:=UG hg;have hd:=hp.1;have hn:=hp.2;rw[hg,b9 hp]at hS;by_cases hr:s.z+d<0∨nV 13<s.z+d
    .have ho:i9 b s.nx 13 s.z=.er 7:=by rw[i9,aa hz,hg,ao,ac hr]
     have hT:¬xt 13 (d+s.z) s.w s.z:=by rw[xt,ac rfl];simp only[nV,ac]at hr;omega
     rw[ho];simp(maxSteps:=9^6)(disch:=omega)[iG,iH,↓ac,↓aa,n0,n1,n2,n3,n4,D2,hS,aa hT]
    .have ho:i9 b s.nx 13 s.z=.ok (s.z+d) n:=by rw[i9,aa hz,hg,ao,aa hr]
     have hT:xt 13 (d+s.z) s.w s.z:=by rw[xt,ac rfl];simp only[nV,ac]at hr;omega
     rw[ho,Int.add_comm];simp(maxSteps:=9^6)(disch:=omega)[iG,iH,↓ac,↓aa,n0,n1,n2,n3,n4,D2,hS,ac hT];exact eo _
   |er e =>
    rw[hg,ee]at hS;have ho:i9 b s.nx 13 s.z=.er e:=by rw[i9,aa hz,hg,aQ]
    rw[ho];simp(maxSteps:=9^6)(disch:=omega)[iG,iH,↓ac,↓aa,n0,n1,n2,n3,n4,D2,hS]
 .rw[aa e1];by_cases e2:0<k
  .rw[ac e2];have hw:¬s.w<0:=o_
   cases hg:Fl b s.nx with
   |ok d n =>
    have hp:=UG hg;have hd:=hp.1;have hn:=hp.2;rw[hg,b9 hp]at hS;by_cases hr:s.w+d<0∨nV k<s.w+d
    .have ho:i9 b s.nx k s.w=.er 7:=by rw[i9,aa hw,hg,ao,ac hr]
     have hT:¬xt k (d+s.w) s.w s.z:=by rw[xt,aa e1];simp only[nV,aa e1]at hr;omega
     rw[ho];simp(maxSteps:=9^6)(disch:=omega)[iG,iH,↓ac,↓aa,n0,n1,n2,n3,n4,D2,hS,aa hT,e1]
    .have ho:i9 b s.nx k s.w=.ok (s.w+d) n:=by rw[i9,aa hw,hg,ao,aa hr]
     have hT:xt k (d+s.w) s.w s.z:=by rw[xt,aa e1];simp only[nV,aa e1]at hr;omega
     rw[ho,Int.add_comm];simp(maxSteps:=9^6)(disch:=omega)[iG,iH,↓ac,↓aa,n0,n1,n2,n3,n4,D2,hS,ac hT,e1];exact eo _
   |er e =>
    rw[hg,ee]at hS;have ho:i9 b s.nx k s.w=.er e:=by rw[i9,aa hw,hg,aQ]
    rw[ho];simp(maxSteps:=9^6)(disch:=omega)[iG,iH,↓ac,↓aa,n0,n1,n2,n3,n4,D2,hS,e1]
  .rw[aa e2];have:k=0:=o_;subst this;simp(maxSteps:=9^6)(disch:=omega)[iG,iH,↓ac,↓aa,n0,n1,n2,n3,n4,D2,e1];exact eo _
abbrev bJ:=@List.getElem?_eq_some_iff
def auj {b:C_}{a:Nat}{k:Int}{s s2:SG}(hs:alL b a s)(ha:a<1000000)(h:PY b k s=.inl s2):alL b (a+1) s2:=by
 obtain⟨h1,h2,h3,h4,h5⟩:=hs;have h3':=h3;rw[PY]at h;split at h
 .split at h
  .rename_i v n ho;have hp:=GF ho;obtain⟨⟨hv1,hv2⟩,hn⟩:=hp;injection h with h;subst h
   exact⟨hn,h2,⟨by simp only[];omega,hv2⟩,by simp[h4],o_⟩
  .exact nomatch h
 .split at h
  .split at h
   .rename_i v n ho;have hp:=GF ho;obtain⟨⟨hv1,hv2⟩,hn⟩:=hp;injection h with h;subst h
    exact⟨hn,⟨hv1,hv2⟩,h3,by simp[h4],o_⟩
   .exact nomatch h
  .injection h with h;subst h
   exact⟨h1,h2,h3,by simp[h4],o_⟩
def TF {b:C_}:∀{r:E_}{a:Nat}{s:SG},(∀q n,mC b r s.nx s.w s.z=.ok q n->wP (λ_ k s=>PY b k s) r a s=.inl ⟨s.row++q.1,n,q.2.1,q.2.2⟩)∧(∀e,mC b r s.nx s.w s.z=.er e->∃z,wP (λ_ k s=>PY b k s) r a s=.inr (e,z))
 |[],a,s=>⟨λq n h=>by
   rw[mC]at h;injection h with g1 g2
   subst g1 g2;rw[wP];simp,λe h=>by rw[mC]at h;exact absurd h s_⟩
 |k::r,a,s=>by
  rw[mC,wP,PY];by_cases e1:k=13
  .rw[ac e1,ac e1]
   cases ho:i9 b s.nx 13 s.z with
   |er e=>exact⟨λq n h=>by rw[aQ]at h;exact absurd h s_,λe' h=>by rw[aQ]at h;injection h with h;subst h;exact⟨s,rfl⟩⟩
   |ok v n =>
    simp only[ao];have ih:=TF (b:=b) (r:=r) (a:=a+1) (s:=⟨s.row++[v],n,s.w,v⟩)
    cases hr:mC b r n s.w v with
    |er e=>exact⟨λq n h=>by rw[aQ]at h;exact absurd h s_,λe' h=>by rw[aQ]at h;injection h with h;subst h;exact ih.2 e hr⟩
    |ok q m =>
     refine⟨λq' n' h=>?_,λe h=>by rw[ao]at h;exact absurd h s_⟩;rw[ao]at h;injection h with g1 g2
     subst g1 g2;rw[ih.1 q m hr];simp
  .rw[aa e1,aa e1];by_cases e2:0<k
   .rw[ac e2,ac e2]
    cases ho:i9 b s.nx k s.w with
    |er e=>exact⟨λq n h=>by rw[aQ]at h;exact absurd h s_,λe' h=>by rw[aQ]at h;injection h with h;subst h;exact⟨s,rfl⟩⟩
    |ok v n =>
     simp only[ao];have ih:=TF (b:=b) (r:=r) (a:=a+1) (s:=⟨s.row++[v],n,v,s.z⟩)
     cases hr:mC b r n v s.z with
     |er e=>exact⟨λq n h=>by rw[aQ]at h;exact absurd h s_,λe' h=>by rw[aQ]at h;injection h with h;subst h;exact ih.2 e hr⟩
     |ok q m =>
      refine⟨λq' n' h=>?_,λe h=>by rw[ao]at h;exact absurd h s_⟩;rw[ao]at h;injection h with g1 g2
      subst g1 g2;rw[ih.1 q m hr];simp
   .rw[aa e2,aa e2];have ih:=TF (b:=b) (r:=r) (a:=a+1) (s:=⟨s.row++[0],s.nx,s.w,s.z⟩)
    cases hr:mC b r s.nx s.w s.z with
    |er e=>exact⟨λq n h=>by rw[aQ]at h;exact absurd h s_,λe' h=>by rw[aQ]at h;injection h with h;subst h;exact ih.2 e hr⟩
    |ok q m =>
     refine⟨λq' n' h=>?_,λe h=>by rw[ao]at h;exact absurd h s_⟩;rw[ao]at h;injection h with g1 g2
     subst g1 g2;simp only;rw[ih.1 q m hr];simp
def awG (b:C_)(hb:b.length<=1000000000)(full:H_)(ss:O_)(l:U_)(i N:Nat)(hN:6<=N)(hk:∀k∈bz l,0<=k∧k<=13)(hl:(bz l).length<=1000000) :
  Rnd (hpG b full ss l i N) (hqG b full l i N) (N+1+1+1) (N+1+1) (bz l) (λ_ k s=>PY b k s) (alL b):=by
 intro a k s K o M hak hi hK hKM;have hal:a<(bz l).length:=(bJ.1 hak).1;have h:=aAw b hb full ss l i N hN a k (hk k (eM hak)) s hi K M o hK
 cases hg:PY b k s with
 |inl s2 =>
  rw[hg]at h;exact .inl ⟨s2,hg,auj hi o_ hg,h⟩
 |inr z =>
  rw[hg]at h;exact .inr ⟨z,hg,h⟩
def azl {b:C_}{full:H_}{ss:O_}{l:U_}{i N:Nat}(hN:6<=N):Tl (hpG b full ss l i N) (N+1+1+1):=by
 obtain⟨n0,n1,n2,n3,n4⟩:(N≠0∧N≠1∧N≠2∧N≠3∧N≠4∧N≠5)∧(N+1≠0∧N+1≠1∧N+1≠2∧N+1≠3∧N+1≠4∧N+1≠5)∧(N+1+1≠0∧N+1+1≠1∧N+1+1≠2∧N+1+1≠3∧N+1+1≠4∧N+1+1≠5)∧N+1+1≠N∧N+1+1≠N+1:=o_;constructor
 .intro s K o h;simp(maxSteps:=9^6)(disch:=omega)[↓aa]
 .intro s K o o' h;simp(maxSteps:=9^6)(disch:=omega)[↓aa]
 .intro s K o h;simp(maxSteps:=9^6)(disch:=omega)[↓aa]
 .intro s K o h;simp(maxSteps:=9^6)(disch:=omega)[↓aa]
def azj {b:C_}{full:H_}{l:U_}{i N:Nat}(hN:6<=N):Tl (hqG b full l i N) (N+1+1+1):=by
 obtain⟨n0,n1,n2,n3,n4⟩:(N≠0∧N≠1∧N≠2∧N≠3∧N≠4∧N≠5)∧(N+1≠0∧N+1≠1∧N+1≠2∧N+1≠3∧N+1≠4∧N+1≠5)∧(N+1+1≠0∧N+1+1≠1∧N+1+1≠2∧N+1+1≠3∧N+1+1≠4∧N+1+1≠5)∧N+1+1≠N∧N+1+1≠N+1:=o_;constructor
 .intro s K o h;simp(maxSteps:=9^6)(disch:=omega)[↓aa]
 .intro s K o o' h;simp(maxSteps:=9^6)(disch:=omega)[↓aa]
 .intro s K o h;simp(maxSteps:=9^6)(disch:=omega)[↓aa]
 .intro s K o h;simp(maxSteps:=9^6)(disch:=omega)[↓aa]
def SX (x:D)(A0 A1 A2 A3 A4 A5 A6:Obj)(N:Nat)(hN:6<=N):(Dn prog).call HN [.d x] ⟨[(0,A0),(1,A1),(2,A2),(3,A3),(4,A4),(5,A5),(N,A6)],N+1⟩=some (.fn ni [] [.ptr (N+1) 0],⟨[(0,A0),(1,A1),(2,A2),(3,A3),(4,A4),(5,A5),(N,A6),(N+1,.cells [.d x])],N+1+1⟩):=by
 rw[ahE];simp(maxSteps:=9^6)(disch:=omega)[↓aa]
def akY (l:U_):Prop:=∀k∈bz l,0<=k∧k<=13
abbrev hpL (b:C_)(ss:O_)(nx:Nat)(w z:Int):ak:=[(0,.cells [.d (.lst (ax b))]),(1,.cells [al 1 (cT ss)]),(2,.cells [A_ nx]),(3,.cells [A_ 0]),(4,.cells [A_ w,A_ z]),(5,.cells [.ptr 4 0])]
def afm (b:C_)(hb:b.length<=1000000000)(full:H_)(hfl:full.length<=1000):∀(g:H_) (i N:Nat) (ss:O_) (nx:Nat) (w z:Int),full.drop i=g->(∀l∈g,TW l∧akY l)->nx<=b.length->(0<=w∧w<=511)->KL z->ss.length<=i->6<=N->
  (∀t n,kr b g nx w z=.ok t n->∃M A4,(Dn prog).code (.loop lX) ⟨[(4,.ptr 0 0),(8,.ptr 1 0),(9,.ptr 2 0),(10,.ptr 3 0),(11,.ptr 5 0),(35,.d (.lst (bi full))),(36,A_ full.length),(37,A_ i)],⟨hpL b ss nx w z,N⟩⟩ =
   some (.exit 0,⟨[(8,.ptr 1 0),(9,.ptr 2 0),(10,.ptr 3 0)],⟨[(1,.cells [al 1 (cT (ss++t))]),(2,.cells [A_ n]),(3,.cells [A_ 0]),(4,A4)],M⟩⟩))∧
  (∀e,kr b g nx w z=.er e->∃M I K T,(Dn prog).code (.loop lX) ⟨[(4,.ptr 0 0),(8,.ptr 1 0),(9,.ptr 2 0),(10,.ptr 3 0),(11,.ptr 5 0),(35,.d (.lst (bi full))),(36,A_ full.length),(37,A_ i)],⟨hpL b ss nx w z,N⟩⟩ =
   some (.ret,⟨adX full I K,⟨(0,.cells [.d (.lst (ax b))])::(1,.cells [.nl])::(2,.cells [A_ 0])::(3,.cells [A_ ((e:Int)+1)])::T,M⟩⟩)):=by
 intro g
 induction g with
 |nil =>
  intro i N ss nx w z hd hok hnx hw hz hss hN;have hk:=eD hd;refine⟨λt n h=>?_,λe h=>by rw[kr]at h;exact absurd h s_⟩;rw[kr]at h;injection h with g1 g2
  subst g1 g2;refine⟨N,.cells [A_ w,A_ z],?_⟩;rw[ah Fx];simp(maxSteps:=9^6)(disch:=omega)[↓ac,↓aa]
 |cons l r ih =>
  intro i N ss nx w z hd hok hnx hw hz hss hN;have hlt:=ed hd;have hg:=xB hd;obtain⟨hl,hbk⟩:=hok l (.head _);have hbl:=Zw hl.1 hl.2;have hsl:=ab6 (t:=ss);obtain⟨n0,n1,n2,n3,n4⟩:(N≠0∧N≠1∧N≠2∧N≠3∧N≠4∧N≠5)∧(N+1≠0∧N+1≠1∧N+1≠2∧N+1≠3∧N+1≠4∧N+1≠5)∧(N+1+1≠0∧N+1+1≠1∧N+1+1≠2∧N+1+1≠3∧N+1+1≠4∧N+1+1≠5)∧N+1+1≠N∧N+1+1≠N+1:=o_;have hB:=atY (p:=N+1) (azl (b:=b) (full:=full) (ss:=ss) (l:=l) (i:=i) hN) (azj (b:=b) (full:=full) (l:=l) (i:=i) hN) l (awG b hb full ss l i N hN hbk o_) (λs=>by simp(maxSteps:=9^6)(disch:=omega)[↓aa,↓ac]) o_ hl.2 (N+1+1+1) ⟨[],nx,w,z⟩ (ai _) ⟨hnx,hw,hz,rfl,o_⟩;have hrow:=TF (b:=b) (r:=bz l) (a:=0) (s:=⟨[],nx,w,z⟩);have n00:am []=[]:=rfl;have c1:((i+1:Nat):Int)=(i:Int)+1:=rfl;rw[kr]
  cases hr:mC b (bz l) nx w z with
  |er e =>
   obtain⟨zz,hz2⟩:=hrow.2 e hr;rw[hz2]at hB;refine⟨λt n h=>by rw[aQ]at h;exact absurd h s_,λe' h=>?_⟩;rw[aQ]at h;injection h with h;subst h;rcases hB with ⟨s2,M,e1,_⟩|⟨q,M,e1,e2,e3⟩
   .exact nomatch e1
   .injection e1 with e1
    subst e1;simp only[hpG,hqG,FG,n00,dH,adX]at e3;refine⟨M,i,N,[(4,.cells [A_ zz.w,A_ zz.z]),(5,.cells [.ptr 4 0]),(N,.cells [al 1 (am zz.row)]),(N+1,.cells [.d (.lst (fj l))])],?_⟩;rw[ah Fx];simp(maxSteps:=9^6)(disch:=omega)[↓ac,↓aa,hg,n0,n1,n2,n3,n4,SX,rd,e3]
  |ok q m =>
   have hp:=uh hnx ⟨o_,o_⟩ hz hr;obtain⟨p1,⟨p2,p3⟩,p4⟩:=hp;have hz2:=hrow.1 q m hr;rw[hz2]at hB;rcases hB with ⟨s2,M,e1,ei,e2,e3⟩|⟨q,M,e1,_⟩
   rotate_left
   .exact nomatch e1
   injection e1 with e1
   subst e1;obtain⟨_,hw2,hz3,_⟩:=ei;simp only[az]at e3 hw2 hz3;have h5:=ih (i+1) M (ss++[q.1]) m q.2.1 q.2.2 (dU hd) (λx hx=>hok x (.tail _ hx)) p4 hw2 hz3 t_ o_;rw[c1]at h5;simp only[ao];have step:(Dn prog).code (.loop lX) ⟨[(4,.ptr 0 0),(8,.ptr 1 0),(9,.ptr 2 0),(10,.ptr 3 0),(11,.ptr 5 0),(35,.d (.lst (bi full))),(36,A_ full.length),(37,A_ i)],⟨hpL b ss nx w z,N⟩⟩ =
     (Dn prog).code (.loop lX) ⟨[(4,.ptr 0 0),(8,.ptr 1 0),(9,.ptr 2 0),(10,.ptr 3 0),(11,.ptr 5 0),(35,.d (.lst (bi full))),(36,A_ full.length),(37,A_ ((i:Int)+1))],⟨hpL b (ss++[q.1]) m q.2.1 q.2.2,M⟩⟩:=by
    simp only[hpG,hqG,FG,n00,dH,adX]at e3;simp only[hpL,ag4,dy];rw[ah Fx];simp(maxSteps:=9^6)(disch:=omega)[↓ac,↓aa,hg,n0,n1,n2,n3,n4,SX,rd,e3]
   rw[step]
   cases hs:kr b r m q.2.1 q.2.2 with
   |er e =>
    refine⟨λt n h=>by rw[aQ]at h;exact absurd h s_,λe' h=>?_⟩;rw[aQ]at h;injection h with h
    subst h;exact h5.2 e hs
   |ok t0 m0 =>
    refine⟨λt n h=>?_,λe h=>by rw[ao]at h;exact absurd h s_⟩;rw[ao]at h;injection h with g1 g2
    subst g1 g2;obtain⟨M2,A4,f⟩:=h5.1 t0 m0 hs;refine⟨M2,A4,?_⟩;rw[f,aw];rfl
def Fi {m:Nat}{xs:F_}:share (share (al m xs))=share (al m xs):=by cases xs<;>rfl
def ajY {m:Nat}{xs:F_}:firm (share (al m xs))=share (al m xs):=by cases xs<;>rfl
def agb {m:Nat}{xs:F_}:AV.cells (share (al m xs))=[share (al m xs)]:=by cases xs<;>rfl
def IM {m:Nat}{xs:F_}:bB (share (al m xs))=true:=by cases xs<;>rfl
def aqQ {h:ak}{m:Nat}{xs:F_}{a b:Int}:eY h (.tup [share (al m xs),A_ a,A_ b])=some (.tup [share (al m xs),A_ a,A_ b]):=by cases xs<;>rfl
def ane (b:C_)(hb:b.length<=1000000000)(a gain m:Int)(ha:i64 a)(hg:0<=gain∧gain<=255)(g:H_)(hl:g.length<=8)(hm:0<=m∧m<=40)(hf:Kv m g)(hf2:∀l∈g,l.length<=1000)(hok:∀l∈g,TW l∧akY l):bn prog U5 [.d (.lst (ax b)),A_ a,A_ gain,.d (.lst (bi g))] =
  rK (pSc b g) (po b g a gain) (λt n=>some (.tup [share (al 1 (cT t)),A_ n,A_ 0])) (λe=>some (.tup [.nl,A_ 0,A_ (e+1)])):=by
 have hmay:=ao6 gain m g hg hl hm λl h=>⟨hf l h,hf2 l h⟩
 have hG:=io b a 0 hb ha;have e0:∀a,aE b a 0=if 0<=a∧a<=b.length then .ok 0 a.toNat else .er 1:=by
  intro a;by_cases h:0<=a∧a<=b.length
  .rw[ac h,aE];simp[h,bin,val]
  .rw[aa h,aE];simp[h]
 rw[aL aiq ah6 rfl,po];by_cases h1:0<=a∧a<=b.length
 .obtain⟨A,rfl⟩:=ay h1.1;rw[ac h1];rw[e0,ac h1,b9 ⟨d_,o_⟩]at hG;have hL:=afm b hb g o_ g 0 6 [] A gain (-1) rfl hok o_ ⟨hg.1,o_⟩ ⟨o_,o_⟩ (ai _) (ai _);have c0:((0:Nat):Int)=0:=rfl;have n0:cT []=[]:=rfl;simp only[c0,n0,dH,hpL,az]at hL;simp only[au]at hG
  cases hs:kr b g A gain (-1) with
  |ok t n =>
   have hp:=JU o_ ⟨o_,o_⟩ ⟨o_,o_⟩ hs;obtain⟨M,A4,f⟩:=hL.1 t n hs;rw[b9 hp];simp(maxSteps:=9^6)(disch:=omega)[↓ac,↓aa,hmay,hG,f,-yF,aqQ,-bB,ajY,agb,IM,Fi]
  |er e =>
   obtain⟨M,I,K,T,f⟩:=hL.2 e hs;rw[ee];simp(maxSteps:=9^6)(disch:=omega)[↓ac,↓aa,hmay,hG,f]
 .rw[aa h1,ee];rw[e0,aa h1,ee]at hG;simp(maxSteps:=9^6)(disch:=omega)[↓ac,↓aa,hmay,hG]
def fJ {l:C_}:(ax l).length=l.length:=by simp[ax]
def md (n:Nat):Nat:=if n=0 then 0 else n.log2+1
def abh {n:Nat}:n<2 ^ md n:=by
 unfold md;by_cases h:n=0
 .subst h;decide
 .rw[aa h];exact(Nat.log2_lt h).1 (Nat.lt_succ_self _)
def aaS {n:Nat}(h:n≠0):2 ^ (md n-1)<=n:=by
 unfold md;rw[aa h,dz];exact(Nat.le_log2 h).1 (ai _)
def AC (low:Int)(w:Nat):E_->Nat->Nat
 |[],n=>n
 |v::r,n=>AC low w r (n*w+(v-low).toNat)
abbrev Xt (id:Nat)(vs:E_):Prop:=vs.length=dI id∧∀v∈vs,c4 id<=v∧v<c4 id+cO id
def ajg {low:Int}{w:Nat}:∀{r:E_}{n j:Nat},(∀v∈r,low<=v∧v<low+w)->n<w ^ j->AC low w r n<w ^ (j+r.length)
 |[],n,j,_,h=>h
 |v::r,n,j,hr,h=>by
  have h1:=hr v (.head _);have h2:n*w+(v-low).toNat<w ^ (j+1):=by
   rw[cR];have:(n+1)*w<=w ^ j*w:=cJ _ h;rw[dC]at this;omega
  have:=ajg (r:=r) (λq hq=>hr q (.tail _ hq)) h2;rw[AC,ar,show j+(r.length+1)=j+1+r.length by omega];exact this
def afL:∀id∈ids,(dl id).all (λe=>decide (e<aZ id))=true∧(dl id).length=aZ id∧cA id<=2:=g_
def auP {id e:Nat}(h:iD id)(he:e<aZ id):nth (dl id) e<aZ id:=by
 obtain⟨h1,h2,_⟩:=afL id (dV h);have:=bF.1 h1 _ (iL (l:=dl id) (i:=e) o_);simpa using this
def Iw (id e:Nat):C_:=bh (nth (dl id) e / 2 ^ cA id+1) (2*md (nth (dl id) e / 2 ^ cA id+1)-1)++bh (nth (dl id) e % 2 ^ cA id) (cA id)
abbrev AG:=@List.any_cons
def W3 (F:AV)(P:Int->Bool)(l:E_)(hl:l.length<=1000000000)(h:ak)(N:Nat)(hF:firm (share F)=F)(hc:∀v∈l,dD (Dn prog) F [A_ v] ⟨h,N⟩=some (B_ (P v),⟨h,N⟩)):∀(r:E_) (i:Nat),l.drop i=r->
  (r.any P=true∧∃k:Nat,(Dn prog).code (.loop gw) ⟨[(0,.d (.lst (am l))),(1,F),(7,A_ l.length),(8,A_ i)],⟨h,N⟩⟩=some (.ret,⟨[(4,A_ k)],⟨h,N⟩⟩))∨
  (r.any P=false∧(Dn prog).code (.loop gw) ⟨[(0,.d (.lst (am l))),(1,F),(7,A_ l.length),(8,A_ i)],⟨h,N⟩⟩=some (.exit 0,⟨[],⟨h,N⟩⟩)):=by
 intro r
 induction r with
 |nil =>
  intro i hd;have hi:=eD hd;refine .inr ⟨rfl,?_⟩;rw[ah jv];simp(maxSteps:=9^6)(disch:=omega)[↓aa]
 |cons v r ih =>
  intro i hd;have hg:=IT hd;have hlt:=ed hd;have hv:=hc v (by rw[<-b8 i l,hd];simp);have h5:=ih (i+1) (dU hd);have c1:((i+1:Nat):Int)=(i:Int)+1:=rfl;rw[c1]at h5
  cases hp:P v with
  |true =>
   rw[hp]at hv;refine .inl ⟨by rw[AG,hp];rfl,i,?_⟩;rw[ah jv];simp(maxSteps:=9^6)(disch:=omega)[↓ac,↓aa,hg,hF,hv]
  |false =>
   rw[hp]at hv;rw[AG,hp,Bool.false_or];rcases h5 with ⟨e1,k,e2⟩|⟨e1,e2⟩
   .refine .inl ⟨e1,k,?_⟩;rw[ah jv,<-e2];simp(maxSteps:=9^6)(disch:=omega)[↓ac,↓aa,hg,hF,hv]
   .refine .inr ⟨e1,?_⟩;rw[ah jv,<-e2];simp(maxSteps:=9^6)(disch:=omega)[↓ac,↓aa,hg,hF,hv]
def WG (F:AV)(P:Int->Bool)(l:E_)(hl:l.length<=1000000000)(h:ak)(N:Nat)(hF:firm (share F)=F)(hF2:firm F=F)(hc:∀v∈l,dD (Dn prog) F [A_ v] ⟨h,N⟩=some (B_ (P v),⟨h,N⟩)) :
  (Dn prog).call wu [.d (.lst (am l)),F] ⟨h,N⟩=some (B_ (l.any P),⟨h,N⟩):=by
 have h1:=W3 F P l hl h N hF hc l 0 rfl;have c0:((0:Nat):Int)=0:=rfl;rw[c0]at h1;have h2:∃k:Int,(0<=k↔l.any P=true)∧(Dn prog).call zp [.d (.lst (am l)),F] ⟨h,N⟩=some (A_ k,⟨h,N⟩):=by
  rcases h1 with ⟨e1,k,e2⟩|⟨e1,e2⟩
  .refine⟨k,⟨λ_=>e1,λ_=>by omega⟩,?_⟩;rw[bC Ak Ap rfl];simp(maxSteps:=9^6)(disch:=omega)[e2]
  .refine⟨-1,⟨λh=>by omega,λh=>by rw[e1]at h;exact absurd h s_⟩,?_⟩;rw[bC Ak Ap rfl];simp(maxSteps:=9^6)(disch:=omega)[e2]
 obtain⟨k,e1,e2⟩:=h2;rw[bC HL HW rfl]
 cases hp:l.any P with
 |true =>
  have:=e1.2 hp;simp(maxSteps:=9^6)(disch:=omega)[↓ac,hF2,e2]
 |false =>
  have:¬0<=k:=λh=>by rw[e1.1 h]at hp;exact absurd hp (by simp)
  simp(maxSteps:=9^6)(disch:=omega)[↓aa,hF2,e2]
def BE (id:Nat):Nat:=[0,1,1,2,2,4,4,7,7,12,12,8191,0].getD id 0
def bt (id:Nat):Nat:=if id<5 then 4 else 2
def xh (id:Nat)(v:Int):Int:=if id=11∧16<=v.natAbs then 16 else v.natAbs
def amb (v:Int):C_:=if v=0 then [] else if v<0 then [1] else [0]
def aax (id:Nat)(v:Int):C_:=if id=11∧16<=v.natAbs then List.replicate (md v.natAbs-5) 1++(0::bh (v.natAbs % 2 ^ (md v.natAbs-1)) (md v.natAbs-1)) else []
def adZ (id:Nat)(vs:E_):C_:=if kR id then Iw id (AC (c4 id) (cO id) vs 0)
 else Iw id (AC (c4 id) (cO id) (vs.map (xh id)) 0)++(vs.flatMap amb++vs.flatMap (aax id))
def awM {m:Nat}{h:ak}{xs ys:F_}(hl:xs.length+ys.length<=1000000000):∃v,dR m h (al m xs) ys=some (v,h)∧firm v=al m (xs++ys):=by
 cases xs with
 |nil =>
  cases ys with
  |nil=>exact⟨.nl,rfl,rfl⟩
  |cons y r =>
   simp only[ar,ck]at hl;exact⟨.own true m (y::r),by simp(disch:=omega)[al,↓ac],rfl⟩
 |cons x r =>
  exact⟨.own false m (x::r++ys),by
   grind [ab9,ajW,ZT,akm,ajl,bQ],rfl⟩
theorem Pf:∀id∈ids.take 11,(kR id=true->c4 id=-(BE id:Int)∧cO id=2*BE id+1)∧(kR id=false->c4 id=0∧(id≠11->cO id=BE id+1)∧(id=11->cO id=17))∧dI id=bt id∧BE id<=8191:=g_
theorem ama {id:Nat}(h:1<=id∧id<=11):id∈ids.take 11:=by
 show id∈[1,2,3,4,5,6,7,8,9,10,11];simp only[aD,gm,mJ];omega
abbrev ap4 (id:Nat)(vs:E_):Prop:=vs.length=bt id∧∀v∈vs,v.natAbs<=BE id
def ae2 {id:Nat}(hid:1<=id∧id<=11){vs:E_}(h:ap4 id vs):(kR id=true->Xt id vs)∧(kR id=false->Xt id (vs.map (xh id))):=by
 grind [Pf,ama,xh]
def Ol (k n w z:Int):C_:=if k=0 then [] else if k=13 then (if z<0 then bh n.toNat 9 else Iw 12 (n-z+60).toNat) else Iw 12 (n-w+60).toNat
def N6:E_->E_->Int->Int->C_
 |k::r,n::t,w,z=>Ol k n w z++N6 r t (Jx k n w z).1 (Jx k n w z).2
 |_,_,_,_=>[]
def UE:H_->O_->Int->Int->C_
 |l::r,t::s,w,z=>N6 (bz l) t w z++(match oT (bz l) t w z with
  |some (w,z)=>UE r s w z
  |none=>[])
 |_,_,_,_=>[]
def abH {l:U_}{lf:Int}(h:fitsS lf l)(h0:0<=lf):((bz l).length:Int)=lf:=by
 induction l generalizing lf<;>grind [fitsS,bz]
structure da where
 len:Int
 order:Int
 down:Bool
 fine:Bool
 coefs:E_
abbrev AC_:=List da
abbrev N_:=List (AC_)
abbrev da.cells (f:da):V_:=[.int .i64 f.len,.int .i64 f.order,.bool f.down,.bool f.fine,.lst (am f.coefs)]
abbrev da.av (f:da):D_:=[A_ f.len,A_ f.order,B_ f.down,B_ f.fine,.d (.lst (am f.coefs))]
def jD (l:AC_):F_:=l.map da.cells
@[simp] def Wy {l:AC_}:(jD l).length=l.length:=by simp[jD]
def apU {l:AC_}{i:Nat}{s:da}{r:AC_}(h:l.drop i=s::r):(jD l)[i]?=some [.int .i64 s.len,.int .i64 s.order,.bool s.down,.bool s.fine,.lst (am s.coefs)]:=by
 grind [List.getElem?_cons_zero,jD]
def bv (t:N_):F_:=t.map λl=>[.lst (jD l)]
@[simp] theorem KH {t:N_}:(bv t).length=t.length:=by simp[bv]
def Te {g:N_}{i:Nat}{l:AC_}{r:N_}(h:g.drop i=l::r):(bv g)[i]?=some [.lst (jD l)]:=by
 grind [List.getElem?_cons_zero,bv]
def aql (h:Int):∀(l:E_),l.any (λc=>decide (c < -h∨h<=c))=!decide (∀c∈l,-h<=c∧c<h)
 |[]=>by simp
 |c::r=>by
  grind
def uR (fine:Bool):Int:=if fine then 8 else 4
def aqD (sh:Bool):Int:=if sh then 15 else 63
def arP (sh:Bool):Int:=if sh then 7 else 12
def Ys (sh:Bool)(f:da):Prop:=(0<=f.len∧f.len<=aqD sh)∧(0<=f.order∧f.order<=arP sh)∧(f.coefs.length:Int)=f.order∧(f.order=0->f.down=false)∧∀c∈f.coefs,-uR f.fine<=c∧c<uR f.fine
instance {sh:Bool}{f:da}:Decidable (Ys sh f):=by unfold Ys;infer_instance
def agj (b:Bool):bn prog E4 [B_ b]=some (A_ (if b then 4 else 3)):=by
 rw[aL aae ZR rfl]
 cases b<;>simp(disch:=omega)
def afM (sh:Bool):D_:=if sh then [A_ 1,A_ 4,A_ 3,A_ 1,A_ 7] else [A_ 2,A_ 6,A_ 5,A_ 3,A_ 12]
def aG.short (i:aG):Bool:=decide (i.seq=2)
def ac3 (i:aG):bn prog KR [.agg i.cells]=some (.agg (afM i.short)):=by
 rw[aL ZA Zn rfl];unfold afM aG.short;by_cases h:i.seq=2
 .simp(disch:=omega)[↓ac,h]
 .simp(disch:=omega)[↓aa,h]
def ay4 (m:Nat)(hm:m<=100000)(v:Int)(N:Nat):(Dn prog).call Df [A_ v,.ptr 0 0] ⟨[(0,.cells [A_ m])],N⟩=some (B_ ((decide (v < -(m:Int)∨(m:Int)<=v))),⟨[(0,.cells [A_ m])],N⟩):=by
 rw[bC XG Zq rfl];by_cases h1:v < -(m:Int)
 .simp(disch:=omega)[↓ac,h1]
 .by_cases h2:(m:Int)<=v
  .simp(disch:=omega)[↓ac,↓aa,h1,h2]
  .simp(disch:=omega)[↓ac,↓aa,h1,h2]
def aid (l:E_)(hl:l.length<=1000000)(s:Nat)(hs:1<=s∧s<=10):bn prog HJ [.d (.lst (am l)),A_ s]=some (B_ ((decide (∀c∈l,-((2 ^ (s-1):Nat):Int)<=c∧c<((2 ^ (s-1):Nat):Int))))):=by
 have hp:2 ^ (s-1)<=2 ^ 10:=aA o_ o_;have q2:=amT (m:=s-1) o_;have c1:((s-1:Nat):Int)=(s:Int)-1:=o_;rw[c1]at q2;generalize 2 ^ (s-1)=P at *;have h1:=WG (.fn Df [] [.ptr 0 0]) (λc=>decide (c < -(P:Int)∨(P:Int)<=c)) l o_ [(0,.cells [A_ P])] 1 rfl rfl λv _=>by
  have:=ay4 P o_ v 1
  simp_all
 rw[aql]at h1;rw[aL adj acZ rfl];simp(disch:=omega)[-I9,q2,h1]
def Lt (H:ak)(N:Nat):Prop:=∀p∈H,p.1<N
def Nn {H:ak}{N:Nat}{o:Obj}(h:Lt H N):put H N o=H++[(N,o)]:=by
 induction H with
 |nil=>rfl
 |cons p r ih =>
  obtain⟨k,v⟩:=p;have h1:=h (k,v) (.head _);rw[xQ,aa o_,aa o_,ih (λp hp=>h p (.tail _ hp)),aK]
def aal {H:ak}{N:Nat}{o o':Obj}(h:Lt H N):put (H++[(N,o)]) N o'=H++[(N,o')]:=by
 induction H with
 |nil=>simp_all
 |cons p r ih =>
  obtain⟨k,v⟩:=p;have h1:=h (k,v) (.head _);rw[aK,xQ,aa o_,aa o_,ih (λp hp=>h p (.tail _ hp)),aK]
def Ui {H:ak}{N:Nat}{o:Obj}(h:Lt H N):get (H++[(N,o)]) N=some o:=by
 induction H with
 |nil=>simp_all
 |cons p r ih =>
  obtain⟨k,v⟩:=p;have h1:=h (k,v) (.head _);rw[aK,ja,aa o_,ih (λp hp=>h p (.tail _ hp))]
def auy {H:ak}{N k:Nat}{o o':Obj}(h:get H k=some o'):get (H++[(N,o)]) k=some o':=by
 induction H<;>grind [CI,ja]
def aiT {H:ak}{N:Nat}{o:Obj}(h:Lt H N):del (H++[(N,o)]) N=H:=by
 induction H with
 |nil=>simp_all
 |cons p r ih =>
  obtain⟨k,v⟩:=p;have h1:=h (k,v) (.head _);rw[aK,pn,aa o_,ih (λp hp=>h p (.tail _ hp))]
def ad5 {H:ak}{N M:Nat}(h:Lt H N)(hm:N<=M):Lt H M:=λp hp=>aW (h p hp) hm
def aoL {H:ak}{N:Nat}{o:Obj}(h:Lt H N):Lt (H++[(N,o)]) (N+1):=by
 intro p hp;rcases bj.1 hp with h1|h1
 .have:=h p h1;omega
 simp_all
@[simp] def aDH (a b:Bool):Yg true (B_ a) (B_ b)=some (.bool (a != b)):=by cases a<;>cases b<;>rfl
def aqv (sh:Bool)(f0 f:da):Bool:=!decide (Ys sh f) ||f.fine != f0.fine
structure ip where
 gain:Int
 info:aG
 sects:H_
 steps:O_
 tns:N_
 lines:E_
abbrev BB_:=List ip
abbrev ip.av (c:ip):D_:=[A_ c.gain,.d (.int .u8 c.info.seq),.d (.int .u8 c.info.shape),A_ c.info.max,.d (.lst (am c.info.groups)),.d (.lst (bi c.sects)),.d (.lst (cT c.steps)),.d (.lst (bv c.tns)),.d (.lst (am c.lines))]
structure ip.Fit (c:ip):Prop where
 gain:i64 c.gain
 info:c.info.Fit
 sects:aDy c.sects
 secI:∀l∈c.sects,∀s∈l,i64 s.book∧i64 s.len
 steps:c.steps.length<=1000∧∀l∈c.steps,l.length<=1000
 stepI:∀l∈c.steps,∀n∈l,i64 n
 tns:c.tns.length<=1000∧∀l∈c.tns,l.length<=1000∧∀f∈l,f.coefs.length<=1000
 fltI:∀l∈c.tns,∀f∈l,(i64 f.len∧i64 f.order)∧∀x∈f.coefs,i64 x
 lines:c.lines.length<=100000
 lineI:∀n∈c.lines,i64 n
def amz (sh:Bool):Nat:=if sh then 1 else 3
def TG (sh:Bool)(l:AC_):Prop:=l.length<=amz sh∧∀f0∈l.head?,∀f∈l,Ys sh f∧f.fine=f0.fine
abbrev al8 (i:aG)(t:N_):Prop:=t.length=i.many∧∀l∈t,TG i.short l
def avB {sh:Bool}{f0:da}{l:AC_}:l.any (aqv sh f0)=false↔∀f∈l,Ys sh f∧f.fine=f0.fine:=by
 grind [aqv]
def arU (sh:Bool):AC_->Bool
 |[]=>false
 |f0::r=>(f0::r).any (aqv sh f0)
def arO {sh:Bool}{l:AC_}:TG sh l↔l.length<=amz sh∧arU sh l=false:=by
 unfold TG
 cases l with
 |nil=>simp[arU]
 |cons f0 r0 =>
  simp only[arU,avB]
  simp_all
instance {sh:Bool}{l:AC_}:Decidable (TG sh l):=decidable_of_iff _ arO.symm
def atU:∀x∈D5,nY x.1 x.2<=40:=g_
def mW {i:aG}(hm:i.may 11):0<=i.max∧i.max<=40:=by
 have h1:=hm.2.2.1;have h2:=hm.2.2.2.1;have h3:=atU _ (iZ (r:=11) (s:=decide (i.seq=2)) o_);simp only[]at h3;omega
instance {m:Int}{g:H_}:Decidable (Kv m g):=by unfold Kv;infer_instance
instance {gain:Int}{g:H_}{t:O_}:Decidable (TJ gain g t):=by unfold TJ;infer_instance
def aqV {id:Nat}(hid:1<=id∧id<=11):BE id<=8191:=(Pf id (ama hid)).2.2.2
def NG:C_->Nat->Nat
 |[],_=>0
 |x::r,i=>if x<=i then NG r i+1 else 0
def amp {l:C_}{i:Nat}:∀{b:Nat},b<=l.length->(∀x∈l.take b,x<=i)->NG l i=b+NG (l.drop b) i:=by
 induction l with
 |nil=>simp_all
 |cons x r ih =>
  intro b hb h
  cases b<;>grind [NG]
def aoc (tl:C_)(bks:E_)(i:Nat)(v:Int):Prop:=v=0∨∃k,bks[NG tl i]?=some k∧(1<=k∧k<=11)∧v.natAbs<=BE k.toNat
def XF (tl:C_)(bks:E_):Nat->E_->Prop
 |_,[]=>True
 |i,v::r=>aoc tl bks i v∧XF tl bks (i+1) r
def aG.wide (i:aG):Nat:=if i.seq=2 then 32 else 256
def amq (c:ip)(w:Nat):E_:=(c.lines.drop (w*c.info.wide)).take c.info.wide
def YE (c:ip)(w:Nat):U_:=c.sects.getD (KF c.info.groups w) []
def aeI (r:Nat)(c:ip):Nat->Nat->Prop
 |0,_=>True
 |k+1,w=>XF ((offs r c.info.short).drop 1) (bz (YE c w)) 0 (amq c w)∧aeI r c k (w+1)
abbrev akz (r:Nat)(c:ip):Prop:=c.lines.length=256∧aeI r c c.info.many 0
def acA:∀x∈D5,((offs x.1 x.2).drop 1).contains (cond x.2 32 256)=true∧(offs x.1 x.2).all (λy=>decide (y<=1000))=true∧(offs x.1 x.2).length<=64∧1<=(offs x.1 x.2).length:=g_
structure arZ (r:Nat)(c:ip):Prop where
 gain:0<=c.gain∧c.gain<=255
 info:c.info.may r
 sects:tF c.info c.sects
 steps:TJ c.gain c.sects c.steps
 tns:al8 c.info c.tns
 lines:akz r c
def wF (f:da):Bool:=decide (∀c∈f.coefs,-(uR f.fine / 2)<=c∧c<uR f.fine / 2)
def fe (fine:Bool):Nat:=if fine then 4 else 3
def vP (b:Bool):Nat:=if b then 1 else 0
def Gu (f:da):Nat:=fe f.fine-vP (wF f)
def S6 (w:Nat)(l:E_):C_:=l.flatMap λc=>bh (c % ((2 ^ w:Nat):Int)).toNat w
def ct (sh:Bool):Nat:=if sh then 4 else 6
def cg (sh:Bool):Nat:=if sh then 3 else 5
def jw (sh:Bool):Nat:=if sh then 1 else 2
def OM (sh:Bool)(f:da):C_:=bh f.len.toNat (ct sh)++(bh f.order.toNat (cg sh)++if f.order=0 then [] else bh (vP f.down) 1++(bh (vP (wF f)) 1++S6 (Gu f) f.coefs))
def alp (sh:Bool)(l:AC_):C_:=bh l.length (jw sh)++match l with
 |[]=>[]
 |f0::_=>bh (vP f0.fine) 1++l.flatMap (OM sh)
def WV (sh:Bool)(t:N_):C_:=t.flatMap (alp sh)
abbrev HT (b:C_)(st:RS)(R:ak):ak:=(0,.cells [.d (.lst (ax b))])::(2,.cells [A_ (ra st)])::(3,.cells [A_ (re st)])::R
def FK (b:C_)(s:Int)(st:RS)(R:ak)(N:Nat)(hb:b.length<=1000000000)(ha:st.fit):(Dn prog).call Dv [A_ s,.ptr 3 0,.ptr 0 0,.ptr 2 0] ⟨HT b st R,N⟩ =
  some (A_ (sV b st s),⟨HT b (sN b st s) R,N⟩):=by
 rw[bC Yt X5 rfl];obtain⟨a,e⟩:=st;have hf:i64 a:=ha;by_cases he:e=0
 .subst he;simp(maxSteps:=9^6)(disch:=omega)[Ky,ra,re,sV,sN]
 .simp(maxSteps:=9^6)(disch:=omega)[ra,re,sV,sN,he]
def GE (v sz:Nat):Int:=(v:Int)-((v / 2 ^ (sz-1)*2 ^ sz:Nat):Int)
def nJ (b:C_)(sz:Nat):Nat->RS->E_
 |0,_=>[]
 |k+1,st=>GE (sV b st sz) sz::nJ b sz k (sN b st sz)
def nM (b:C_)(sz:Nat):Nat->RS->RS
 |0,st=>st
 |k+1,st=>nM b sz k (sN b st sz)
def aaq {b:C_}{sz:Nat}(hb:b.length<=1000000000):∀{k:Nat}{st:RS},st.fit->(nM b sz k st).fit
 |0,_,h=>h
 |_+1,_,h=>by rw[nM];exact aaq hb (fU hb h)
def TE {b:C_}{sz:Nat}:∀{k:Nat}{st:RS},(nJ b sz k st).length=k
 |0,_=>rfl
 |k+1,st=>by rw[nJ,ar,TE]
def aBY {q s:Nat}(hq:q<=1)(hs:s<=4):fT .shl (A_ (q:Int)) (A_ (s:Int))=some (.int .i64 ((q*2 ^ s:Nat):Int)):=by
 have h:∀q:Nat,q<=1->∀s:Nat,s<=4->fT .shl (A_ (q:Int)) (A_ (s:Int))=some (.int .i64 ((q*2 ^ s:Nat):Int)):=by
  intro q hq s hs;obtain rfl|rfl:q=0∨q=1:=o_
  all_goals
   obtain rfl|rfl|rfl|rfl|rfl:s=0∨s=1∨s=2∨s=3∨s=4:=o_
   all_goals rfl
 exact h q hq s hs
abbrev SM:AV:=.fn Dv [] [.ptr 3 0,.ptr 0 0,.ptr 2 0]
def avo (b:C_)(hb:b.length<=1000000000)(SZ:Obj)(a0 a1 a2 a3 x6 x13:AV)(y12 y15 y32 y33 y46 y47:D)(nar:Int)(sz ord N M:Nat)(hsz:2<=sz∧sz<=4)(ho:ord<=100)(hN:5<=N):∀(k j:Nat) (st:RS) (acc:E_),j+k=ord->acc.length=j->st.fit->
  (Dn prog).code (.loop uL) ⟨[(6,x6),(7,.ptr 2 0),(8,.ptr 3 0),(10,SM),(11,.ptr 4 0),(12,.d y12),(13,x13),(15,.d y15),(16,.ptr N 0),(17,A_ nar),(18,A_ sz),(32,.d y32),(33,.d y33),(46,.d y46),(47,.d y47),(80,A_ ord),(81,A_ j)],⟨HT b st [(4,SZ),(N,.cells [a0,a1,a2,a3,al 1 (am acc)])],M⟩⟩ =
  some (.exit 4,⟨[(6,x6),(7,.ptr 2 0),(8,.ptr 3 0),(10,SM),(11,.ptr 4 0),(12,.d y12),(13,x13),(15,.d y15),(16,.ptr N 0),(17,A_ nar),(18,A_ sz),(32,.d y32),(33,.d y33),(46,.d y46),(47,.d y47)],⟨HT b (nM b sz k st) [(4,SZ),(N,.cells [a0,a1,a2,a3,al 1 (am (acc++nJ b sz k st))])],M⟩⟩):=by
 obtain⟨n0,n2,n3,n4⟩:N≠0∧N≠2∧N≠3∧N≠4:=o_;intro k
 induction k with
 |zero =>
  intro j st acc h1 h2 h3;rw[ah I1,nJ,nM,aR];simp(maxSteps:=9^6)(disch:=omega)[↓ac,↓aa]
 |succ k ih =>
  intro j st acc h1 h2 h3;have hg:=FK b sz st [(4,SZ),(N,.cells [a0,a1,a2,a3,al 1 (am acc)])] M hb h3;have hv:=lI (b:=b) (st:=st) (s:=sz);have h5:=ih (j+1) (sN b st sz) (acc++[GE (sV b st sz) sz]) o_ t_ (fU hb h3);have c1:((j+1:Nat):Int)=(j:Int)+1:=rfl;have c2:((sz-1:Nat):Int)=(sz:Int)-1:=o_;have hla:=dc (l:=acc);simp only[au]at hv;have hp:2 ^ (sz-1)*2=2 ^ sz:=by rw[<-cR];congr 1;omega
  have hp0:=df (sz-1);have hq:sV b st sz / 2 ^ (sz-1)<=1:=by
   have:sV b st sz / 2 ^ (sz-1)<2:=(Nat.div_lt_iff_lt_mul hp0).2 o_;omega
  have hp4:2 ^ sz<=2 ^ 4:=aA o_ hsz.2;have w1:=awR (n:=sV b st sz) (k:=sz-1) o_;have w2:=aBY hq hsz.2;rw[c2]at w1;have hcf:GE (sV b st sz) sz=(sV b st sz:Int)-((sV b st sz / 2 ^ (sz-1)*2 ^ sz:Nat):Int):=rfl;have hqq:sV b st sz / 2 ^ (sz-1)*2 ^ sz<=16:=by
   have:=xL hq hp4;omega
  rw[c1,aw,D3,dy]at h5;simp only[HT]at hg h5⊢;rw[ah I1,nJ,nM,show acc++GE (sV b st sz) sz::nJ b sz k (sN b st sz)=acc++([GE (sV b st sz) sz]++nJ b sz k (sN b st sz)) from rfl,<-h5,hcf];clear h5 ih;generalize sV b st sz / 2 ^ (sz-1)*2 ^ sz=Q2 at *;generalize sV b st sz / 2 ^ (sz-1)=Q at *;simp(maxSteps:=9^6)(disch:=omega)[↓ac,↓aa,n0,n2,n3,n4,hg,-aed,-I9,w1,w2]
def ox (l:E_)(s:Nat):Bool:=decide (∀c∈l,-((2 ^ (s-1):Nat):Int)<=c∧c<((2 ^ (s-1):Nat):Int))
def kp (b:C_)(x1 x2:Nat)(st:RS):Nat:=sV b (sN b st x1) x2
def pC (b:C_)(x1 x2:Nat)(st:RS):RS:=sN b (sN b st x1) x2
def flD (b:C_)(x1 x2:Nat)(st:RS):Nat:=sV b (pC b x1 x2 st) 1
def Dp (b:C_)(x1 x2:Nat)(st:RS):Nat:=sV b (sN b (pC b x1 x2 st) 1) 1
def JC (b:C_)(x1 x2:Nat)(st:RS):RS:=sN b (sN b (pC b x1 x2 st) 1) 1
def EF (b:C_)(x1 x2:Nat)(fine:Bool)(st:RS):Nat:=fe fine-Dp b x1 x2 st
def nN (b:C_)(x1 x2:Nat)(fine:Bool)(st:RS):da :=
 if kp b x1 x2 st=0 then ⟨sV b st x1,0,false,fine,[]⟩
 else ⟨sV b st x1,kp b x1 x2 st,decide (flD b x1 x2 st=1),fine,nJ b (EF b x1 x2 fine st) (kp b x1 x2 st) (JC b x1 x2 st)⟩
def uB (b:C_)(x1 x2:Nat)(fine:Bool)(st:RS):Bool :=
 if kp b x1 x2 st=0 then false else decide (Dp b x1 x2 st=0) && ox (nJ b (EF b x1 x2 fine st) (kp b x1 x2 st) (JC b x1 x2 st)) (EF b x1 x2 fine st-1)
def kj (b:C_)(x1 x2:Nat)(fine:Bool)(st:RS):RS :=
 if kp b x1 x2 st=0 then pC b x1 x2 st else nM b (EF b x1 x2 fine st) (kp b x1 x2 st) (JC b x1 x2 st)
def fg (b:C_)(x1 x2:Nat)(fine:Bool):Nat->Bool->RS->Option (AC_×Bool×RS)
 |0,o,st=>some ([],o,st)
 |k+1,o,st=>if 12<kp b x1 x2 st∧(pC b x1 x2 st).e=0 then none
  else match fg b x1 x2 fine k (o ||uB b x1 x2 fine st) (kj b x1 x2 fine st) with
   |none=>none
   |some q=>some (nN b x1 x2 fine st::q.1,q.2)
def auA {b:C_}{x1 x2:Nat}{fine:Bool}{st:RS}(hb:b.length<=1000000000)(h:st.fit):(kj b x1 x2 fine st).fit:=by
 unfold kj;split
 .exact fU hb (fU hb h)
 .exact aaq hb (fU hb (fU hb (fU hb (fU hb h))))
def arQ {b:C_}{st:RS}{s:Int}(h:st.e≠0):sV b st s=0:=by rw[sV,aa h]
def amd {b:C_}{st:RS}{s:Int}(h:sV b st s≠0):(sN b st s).e=0:=by
 unfold sV at h;unfold sN;split at h
 .rename_i he;rw[ac he];unfold vO at h;unfold eO;split at h
  .rename_i v n hg;simp only[hg]
  .exact absurd rfl h
 .exact absurd rfl h
abbrev Va (y0 y3 y4:AV)(x1 x2:Nat):Obj:=.cells [y0,A_ x1,A_ x2,y3,y4]
def S5 {t:AC_}{f:da}:jD (t++[f])=jD t++[[.int .i64 f.len,.int .i64 f.order,.bool f.down,.bool f.fine,.lst (am f.coefs)]]:=by simp[jD,da.cells]
def avX (b:C_)(hb:b.length<=1000000000)(y0 y3 y4:AV)(x1 x2:Nat)(hx:x1<=6∧x2<=5)(x6:AV)(fine:Bool)(y32 y33:D)(many:Nat)(hm:many<=3):∀(k j N:Nat) (o:Bool) (st:RS) (acc:AC_),j+k=many->acc.length=j->st.fit->5<=N->
  ∃M,N<=M∧(Dn prog).code (.loop im) ⟨[(6,x6),(7,.ptr 2 0),(8,.ptr 3 0),(10,SM),(11,.ptr 4 0),(12,B_ o),(13,al 5 (jD acc)),(15,B_ fine),(32,.d y32),(33,.d y33),(46,A_ many),(47,A_ j)],⟨HT b st [(4,Va y0 y3 y4 x1 x2)],N⟩⟩ =
  match fg b x1 x2 fine k o st with
  |none=>some (.ret,⟨[(6,.nl),(7,.ptr 2 0),(8,.ptr 3 0)],⟨[(0,.cells [.d (.lst (ax b))]),(2,.cells [A_ 0]),(3,.cells [A_ 8])],M⟩⟩)
  |some (l,o2,st2)=>some (.exit 2,⟨[(6,x6),(7,.ptr 2 0),(8,.ptr 3 0),(10,SM),(11,.ptr 4 0),(12,B_ o2),(13,al 5 (jD (acc++l))),(32,.d y32),(33,.d y33)],⟨HT b st2 [(4,Va y0 y3 y4 x1 x2)],M⟩⟩):=by
 intro k
 induction k with
 |zero =>
  intro j N o st acc h1 h2 h3 hN;refine⟨N,ai _,?_⟩;rw[ah vd,fg];simp only[aR];simp(maxSteps:=9^6)(disch:=omega)[↓ac,↓aa]
 |succ k ih =>
  intro j N o st acc h1 h2 h3 hN;obtain⟨n0,n2,n3,n4⟩:N≠0∧N≠2∧N≠3∧N≠4:=o_;have f1:=fU (s:=x1) hb h3;have f2:=fU (s:=x2) hb f1;have f3:=fU (s:=1) hb f2;have f4:=fU (s:=1) hb f3;have g1:=λR N=>FK b x1 st R N hb h3
  have g2:=λR N=>FK b x2 (sN b st x1) R N hb f1
  have g3:=λR N=>FK b 1 (sN b (sN b st x1) x2) R N hb f2
  have g4:=λR N=>FK b 1 (sN b (sN b (sN b st x1) x2) 1) R N hb f3
  have v1:=lI (b:=b) (st:=st) (s:=x1);have v2:=lI (b:=b) (st:=sN b st x1) (s:=x2);have v3:=lI (b:=b) (st:=sN b (sN b st x1) x2) (s:=1);have v4:=lI (b:=b) (st:=sN b (sN b (sN b st x1) x2) 1) (s:=1);have k1:2 ^ x1<=2 ^ 6:=aA o_ hx.1;have k2:2 ^ x2<=2 ^ 5:=aA o_ hx.2;have t1:(1:Int).toNat=1:=rfl;simp only[au,t1]at v1 v2 v3 v4;have hO:kp b x1 x2 st=sV b (sN b st x1) x2:=rfl;have hS:pC b x1 x2 st=sN b (sN b st x1) x2:=rfl;have c1:((j+1:Nat):Int)=(j:Int)+1:=rfl;have hla:=Wy (l:=acc);rw[fg,hO,hS];simp only[HT]at g1 g2 g3 g4;by_cases hbad:12<sV b (sN b st x1) x2∧(sN b (sN b st x1) x2).e=0
  .rw[ac hbad];obtain⟨hb1,hb2⟩:=hbad;have hre:re (sN b (sN b st x1) x2)=0:=hb2;refine⟨N+1,o_,?_⟩;simp only[HT];rw[ah vd];simp(maxSteps:=9^6)(disch:=omega)[↓ac,↓aa,n0,n2,n3,n4,g1,g2,hre]
  .rw[aa hbad];by_cases hO0:sV b (sN b st x1) x2=0
   .have eF:nN b x1 x2 fine st=⟨sV b st x1,0,false,fine,[]⟩:=by rw[nN,ac (by rw[hO];exact hO0)]
    have eX:uB b x1 x2 fine st=false:=by rw[uB,ac (by rw[hO];exact hO0)]
    have eN:kj b x1 x2 fine st=sN b (sN b st x1) x2:=by rw[kj,ac (by rw[hO];exact hO0)];rfl
    rw[eF,eX,eN,Bool.or_false];obtain⟨M,hM,h5⟩:=ih (j+1) (N+1) o (sN b (sN b st x1) x2) (acc++[⟨sV b st x1,0,false,fine,[]⟩]) o_ t_ f2 o_;refine⟨M,o_,?_⟩;have key:(Dn prog).code (.loop im) ⟨[(6,x6),(7,.ptr 2 0),(8,.ptr 3 0),(10,SM),(11,.ptr 4 0),(12,B_ o),(13,al 5 (jD acc)),(15,B_ fine),(32,.d y32),(33,.d y33),(46,A_ many),(47,A_ j)],⟨HT b st [(4,Va y0 y3 y4 x1 x2)],N⟩⟩ =
      (Dn prog).code (.loop im) ⟨[(6,x6),(7,.ptr 2 0),(8,.ptr 3 0),(10,SM),(11,.ptr 4 0),(12,B_ o),(13,al 5 (jD (acc++[⟨sV b st x1,0,false,fine,[]⟩]))),(15,B_ fine),(32,.d y32),(33,.d y33),(46,A_ many),(47,A_ ((j+1:Nat):Int))],⟨HT b (sN b (sN b st x1) x2) [(4,Va y0 y3 y4 x1 x2)],N+1⟩⟩:=by
     have n00:am []=[]:=rfl;simp only[HT,c1,S5,dy,n00];clear h5 ih;rw[ah vd];simp(maxSteps:=9^6)(disch:=omega)[↓ac,↓aa,n0,n2,n3,n4,g1,g2,hO0]
    rw[key,h5]
    cases fg b x1 x2 fine k o (sN b (sN b st x1) x2) with
    |none=>rfl
    |some q =>
     obtain⟨l,o2,st2⟩:=q;simp only[aw,aK,az]
   .have he:(sN b (sN b st x1) x2).e=0:=amd hO0;have hO12:sV b (sN b st x1) x2<=12:=by
     rcases bD 12 (sV b (sN b st x1) x2) with h|h
     .exact absurd ⟨h,he⟩ hbad
     .exact h
    have hre:re (sN b (sN b st x1) x2)=0:=he;have hw4:3<=fe fine∧fe fine<=4:=by unfold fe;split<;>omega
    have hwide:bn prog E4 [B_ fine]=some (A_ ((fe fine:Nat):Int)):=by rw[agj];unfold fe;cases fine<;>rfl
    obtain⟨W,hW⟩:∃W,W=sV b (sN b (sN b (sN b st x1) x2) 1) 1:=⟨_,rfl⟩
    obtain⟨Dd,hDd⟩:∃Dd,Dd=sV b (sN b (sN b st x1) x2) 1:=⟨_,rfl⟩
    obtain⟨T4,hT4⟩:∃T4,T4=sN b (sN b (sN b (sN b st x1) x2) 1) 1:=⟨_,rfl⟩
    obtain⟨sz,hsz⟩:∃sz,sz=fe fine-W:=⟨_,rfl⟩
    rw[<-hW]at v4 g4;rw[<-hDd]at v3 g3;rw[<-hT4]at g4 f4;have c00:((0:Nat):Int)=0:=rfl;simp only[hre,c00]at g3;have hszI:((fe fine:Nat):Int)-(W:Int)=(sz:Int):=o_;have hsz1:(sz:Int)-1=((sz-1:Nat):Int):=o_;have hne:kp b x1 x2 st≠0:=by rw[hO];exact hO0
    have eF:nN b x1 x2 fine st=⟨sV b st x1,sV b (sN b st x1) x2,decide (Dd=1),fine,nJ b sz (sV b (sN b st x1) x2) T4⟩:=by
     rw[nN,aa hne,EF,Dp,JC,flD,hS,hO,<-hW,<-hDd,<-hT4,<-hsz]
    have eX:uB b x1 x2 fine st=(decide (W=0) && ox (nJ b sz (sV b (sN b st x1) x2) T4) (sz-1)):=by
     rw[uB,aa hne,EF,Dp,JC,hS,hO,<-hW,<-hT4,<-hsz]
    have eN:kj b x1 x2 fine st=nM b sz (sV b (sN b st x1) x2) T4:=by
     rw[kj,aa hne,EF,Dp,JC,hS,hO,<-hW,<-hT4,<-hsz]
    have f5:(nM b sz (sV b (sN b st x1) x2) T4).fit:=aaq hb f4;have hcl:=TE (b:=b) (sz:=sz) (k:=sV b (sN b st x1) x2) (st:=T4);have hL0:=λa0 a2 y46 y47 N M hN=>avo b hb (Va y0 y3 y4 x1 x2) a0 (A_ (sV b (sN b st x1) x2)) a2 (B_ fine) x6 (al 5 (jD acc)) (.bool o) (.bool fine) y32 y33 y46 y47 W sz (sV b (sN b st x1) x2) N M o_ o_ hN (sV b (sN b st x1) x2) 0 T4 [] o_ rfl f4
    have n00:am []=[]:=rfl;have c0:((0:Nat):Int)=0:=rfl;simp only[n00,dH,az,c0,HT]at hL0;have hDec:decide ((Dd:Int)=1)=decide (Dd=1):=by rw[decide_eq_decide];omega
    rw[eF,eX,eN];generalize sV b (sN b st x1) x2=O at *;obtain⟨CS,hCS⟩:∃CS,CS=nJ b sz O T4:=⟨_,rfl⟩
    rw[<-hCS]at hL0 hcl;rw[<-hCS];obtain⟨M,hM,h5⟩:=ih (j+1) (N+1) (o ||(decide (W=0) && ox CS (sz-1))) (nM b sz O T4) (acc++[⟨sV b st x1,O,decide (Dd=1),fine,CS⟩]) o_ t_ f5 o_;refine⟨M,o_,?_⟩;have hshare:share (al 1 (am CS))=.d (.lst (am CS)):=by
     cases CS with
     |nil=>simp at hcl;omega
     |cons x r=>rfl
    have key:(Dn prog).code (.loop im) ⟨[(6,x6),(7,.ptr 2 0),(8,.ptr 3 0),(10,SM),(11,.ptr 4 0),(12,B_ o),(13,al 5 (jD acc)),(15,B_ fine),(32,.d y32),(33,.d y33),(46,A_ many),(47,A_ j)],⟨HT b st [(4,Va y0 y3 y4 x1 x2)],N⟩⟩ =
      (Dn prog).code (.loop im) ⟨[(6,x6),(7,.ptr 2 0),(8,.ptr 3 0),(10,SM),(11,.ptr 4 0),(12,B_ ((o ||(decide (W=0) && ox CS (sz-1))))),(13,al 5 (jD (acc++[⟨sV b st x1,O,decide (Dd=1),fine,CS⟩]))),(15,B_ fine),(32,.d y32),(33,.d y33),(46,A_ many),(47,A_ ((j+1:Nat):Int))],⟨HT b (nM b sz O T4) [(4,Va y0 y3 y4 x1 x2)],N+1⟩⟩:=by
     simp only[HT,c1,S5,dy];clear h5 ih;have hfit:=aid CS o_ (sz-1) o_;have hfit2:bn prog HJ [.d (.lst (am CS)),A_ ((sz-1:Nat):Int)]=some (B_ (ox CS (sz-1))):=hfit;rw[ah vd];obtain⟨B1,hB1⟩:∃B1,B1=decide (Dd=1):=⟨_,rfl⟩
     rw[<-hB1]
     cases o with
     |true =>
      by_cases hD1:Dd=1
      .rw[hB1,dT_ hD1];simp(maxSteps:=9^6)(disch:=omega)[↓ac,↓aa,n0,n2,n3,n4,g1,g2,g3,g4,hre,hwide,hszI,hL0]
      .rw[hB1,dF_ hD1];simp(maxSteps:=9^6)(disch:=omega)[↓ac,↓aa,n0,n2,n3,n4,g1,g2,g3,g4,hre,hwide,hszI,hL0]
     |false =>
      by_cases hW0:W=0
      .rw[dT_ hW0];by_cases hD1:Dd=1
       .rw[hB1,dT_ hD1];simp(maxSteps:=9^6)(disch:=omega)[↓ac,↓aa,n0,n2,n3,n4,g1,g2,g3,g4,hre,hwide,hszI,hL0,hshare,hsz1,hfit2]
       .rw[hB1,dF_ hD1];simp(maxSteps:=9^6)(disch:=omega)[↓ac,↓aa,n0,n2,n3,n4,g1,g2,g3,g4,hre,hwide,hszI,hL0,hshare,hsz1,hfit2]
      .rw[dF_ hW0];by_cases hD1:Dd=1
       .rw[hB1,dT_ hD1];simp(maxSteps:=9^6)(disch:=omega)[↓ac,↓aa,n0,n2,n3,n4,g1,g2,g3,g4,hre,hwide,hszI,hL0]
       .rw[hB1,dF_ hD1];simp(maxSteps:=9^6)(disch:=omega)[↓ac,↓aa,n0,n2,n3,n4,g1,g2,g3,g4,hre,hwide,hszI,hL0]
    rw[key,h5]
    cases fg b x1 x2 fine k (o ||(decide (W=0) && ox CS (sz-1))) (nM b sz O T4) with
    |none=>rfl
    |some q =>
     obtain⟨l,o2,st2⟩:=q;simp only[aw,aK,az]
abbrev gO:=@Bool.true_and
def Le (b:C_)(x0:Nat)(st:RS):Bool:=decide (0<sV b st x0) && decide (sV b (sN b st x0) 1=1)
def uF (b:C_)(x0:Nat)(st:RS):RS:=if 0<sV b st x0 then sN b (sN b st x0) 1 else sN b st x0
def kC (b:C_)(x0 x1 x2:Nat):Nat->Bool->RS->Option (N_×Bool×RS)
 |0,o,st=>some ([],o,st)
 |k+1,o,st=>match fg b x1 x2 (Le b x0 st) (sV b st x0) o (uF b x0 st) with
  |none=>none
  |some q=>match kC b x0 x1 x2 k q.2.1 q.2.2 with
   |none=>none
   |some w=>some (q.1::w.1,w.2)
def YD {t:N_}{l:AC_}:bv (t++[l])=bv t++[[.lst (jD l)]]:=by simp[bv]
def aj9 {b:C_}{x0:Nat}{st:RS}(hb:b.length<=1000000000)(h:st.fit):(uF b x0 st).fit:=by
 unfold uF;split
 .exact fU hb (fU hb h)
 .exact fU hb h
def Xg {b:C_}{x1 x2:Nat}{fine:Bool}(hb:b.length<=1000000000):∀{k:Nat}{o:Bool}{st:RS}{l:AC_}{o2:Bool}{st2:RS},st.fit->fg b x1 x2 fine k o st=some (l,o2,st2)->st2.fit∧l.length=k
 |0,o,st,l,o2,st2,h,e=>by
  rw[fg]at e;injection e with e
  injection e with e1 e
  injection e with e2 e3
  subst e1 e3;exact⟨h,rfl⟩
 |k+1,o,st,l,o2,st2,h,e=>by
  rw[fg]at e;split at e
  .exact absurd e (by simp)
  .cases hq:fg b x1 x2 fine k (o ||uB b x1 x2 fine st) (kj b x1 x2 fine st) with
   |none=>rw[hq]at e;exact absurd e (by simp)
   |some q =>
    obtain⟨q1,q2,q3⟩:=q;rw[hq]at e;injection e with e;injection e with e1 e
    injection e with e2 e3
    obtain⟨i1,i2⟩:=Xg hb (auA hb h) hq;subst e1 e3;exact⟨i1,by simp[i2]⟩
def atE (b:C_)(hb:b.length<=1000000000)(y3 y4:AV)(x0 x1 x2:Nat)(hx:x0<=2∧x1<=6∧x2<=5)(many:Nat)(hm:many<=8):∀(k j N:Nat) (o:Bool) (st:RS) (acc:N_),j+k=many->acc.length=j->st.fit->5<=N->
  ∃M,N<=M∧(Dn prog).code (.loop l7) ⟨[(6,al 1 (bv acc)),(7,.ptr 2 0),(8,.ptr 3 0),(10,SM),(11,.ptr 4 0),(12,B_ o),(32,A_ many),(33,A_ j)],⟨HT b st [(4,Va (A_ x0) y3 y4 x1 x2)],N⟩⟩ =
  match kC b x0 x1 x2 k o st with
  |none=>some (.ret,⟨[(6,.nl),(7,.ptr 2 0),(8,.ptr 3 0)],⟨[(0,.cells [.d (.lst (ax b))]),(2,.cells [A_ 0]),(3,.cells [A_ 8])],M⟩⟩)
  |some (t,o2,st2)=>some (.exit 0,⟨[(6,al 1 (bv (acc++t))),(7,.ptr 2 0),(8,.ptr 3 0),(12,B_ o2)],⟨HT b st2 [],M⟩⟩):=by
 intro k
 induction k with
 |zero =>
  intro j N o st acc h1 h2 h3 hN;refine⟨N,ai _,?_⟩;rw[ah Ck,kC];simp only[aR];simp(maxSteps:=9^6)(disch:=omega)[↓ac,↓aa]
 |succ k ih =>
  intro j N o st acc h1 h2 h3 hN;have f1:=fU (s:=x0) hb h3;have g1:=λR N=>FK b x0 st R N hb h3
  have g2:=λR N=>FK b 1 (sN b st x0) R N hb f1
  have v1:=lI (b:=b) (st:=st) (s:=x0);have v2:=lI (b:=b) (st:=sN b st x0) (s:=1);have k1:2 ^ x0<=2 ^ 2:=aA o_ hx.1;have t1:(1:Int).toNat=1:=rfl;simp only[au,t1]at v1 v2;have c1:((j+1:Nat):Int)=(j:Int)+1:=rfl;have c0:((0:Nat):Int)=0:=rfl;have n00:jD []=[]:=rfl;have hla:=KH (t:=acc);have hfs:=aj9 (x0:=x0) hb h3;obtain⟨M1,hM1,hL1⟩:=avX b hb (A_ x0) y3 y4 x1 x2 hx.2 (al 1 (bv acc)) (Le b x0 st) (.int .i64 many) (.int .i64 j) (sV b st x0) o_ (sV b st x0) 0 N o (uF b x0 st) [] o_ rfl hfs hN;have hF:Le b x0 st=(decide (0<sV b st x0) && decide (sV b (sN b st x0) 1=1)):=rfl;have hS:uF b x0 st=if 0<sV b st x0 then sN b (sN b st x0) 1 else sN b st x0:=rfl
  rw[kC];simp only[HT,c0,n00,dH,az]at g1 g2 hL1
  cases hfl:fg b x1 x2 (Le b x0 st) (sV b st x0) o (uF b x0 st) with
  |none =>
   rw[hfl]at hL1;refine⟨M1,hM1,?_⟩;simp only[HT];rw[ah Ck];rw[hF,hS]at hL1;by_cases hp:0<sV b st x0
   .rw[ac hp,dT_ hp,gO]at hL1;by_cases hd:sV b (sN b st x0) 1=1
    .rw[dT_ hd]at hL1;simp(maxSteps:=9^6)(disch:=omega)[↓ac,↓aa,g1,g2,hL1]
    .rw[dF_ hd]at hL1;simp(maxSteps:=9^6)(disch:=omega)[↓ac,↓aa,g1,g2,hL1]
   .have h0:sV b st x0=0:=o_;rw[aa hp,dF_ hp,Bool.false_and,h0,c0]at hL1;simp(maxSteps:=9^6)(disch:=omega)[↓ac,↓aa,g1,g2,h0,hL1]
  |some q =>
   obtain⟨l,o2,st2⟩:=q;rw[hfl]at hL1;obtain⟨i1,i2⟩:=Xg hb hfs hfl;obtain⟨M,hM,h5⟩:=ih (j+1) M1 o2 st2 (acc++[l]) o_ t_ i1 o_;refine⟨M,o_,?_⟩;have key:(Dn prog).code (.loop l7) ⟨[(6,al 1 (bv acc)),(7,.ptr 2 0),(8,.ptr 3 0),(10,SM),(11,.ptr 4 0),(12,B_ o),(32,A_ many),(33,A_ j)],⟨HT b st [(4,Va (A_ x0) y3 y4 x1 x2)],N⟩⟩ =
     (Dn prog).code (.loop l7) ⟨[(6,al 1 (bv (acc++[l]))),(7,.ptr 2 0),(8,.ptr 3 0),(10,SM),(11,.ptr 4 0),(12,B_ o2),(32,A_ many),(33,A_ ((j+1:Nat):Int))],⟨HT b st2 [(4,Va (A_ x0) y3 y4 x1 x2)],M1⟩⟩:=by
    simp only[HT,c1,YD,dy];clear h5 ih;rw[hF,hS]at hL1;rw[ah Ck];by_cases hp:0<sV b st x0
    .rw[ac hp,dT_ hp,gO]at hL1;by_cases hd:sV b (sN b st x0) 1=1
     .rw[dT_ hd]at hL1;simp(maxSteps:=9^6)(disch:=omega)[↓ac,↓aa,g1,g2,hL1]
     .rw[dF_ hd]at hL1;simp(maxSteps:=9^6)(disch:=omega)[↓ac,↓aa,g1,g2,hL1]
    .have h0:sV b st x0=0:=o_;rw[aa hp,dF_ hp,Bool.false_and,h0,c0]at hL1;simp(maxSteps:=9^6)(disch:=omega)[↓ac,↓aa,g1,g2,h0,hL1]
   rw[key,h5];simp only
   cases kC b x0 x1 x2 k o2 st2 with
   |none=>rfl
   |some w =>
    obtain⟨t,o3,st3⟩:=w;simp only[aw,aK,az]
def ew (sh:Bool):Nat:=if sh then 1 else 2
def bT (sh:Bool):Nat:=if sh then 4 else 6
def cf (sh:Bool):Nat:=if sh then 3 else 5
def LL (b:C_)(i:aG)(a:Int):Option (N_×Bool×RS):=kC b (ew i.short) (bT i.short) (cf i.short) i.many false ⟨a,0⟩
def Cl (b:C_)(i:aG)(a:Int):R N_ :=
 match LL b i a with
 |none=>.er 7
 |some (t,o,st)=>if st.e≠0 then .er (st.e-1) else if o then .er 7 else .ok t st.a.toNat
def XR {b:C_}{x1 x2:Nat}{fine:Bool}:∀{k:Nat}{o:Bool}{st:RS}{l:AC_}{o2:Bool}{st2:RS},fg b x1 x2 fine k o st=some (l,o2,st2)->l.length=k∧∀f∈l,f.coefs.length<=12
 |0,o,st,l,o2,st2,e=>by
  rw[fg]at e;injection e with e
  injection e with e1 e
  subst e1;exact⟨rfl,s_⟩
 |k+1,o,st,l,o2,st2,e=>by
  rw[fg]at e;split at e
  .exact absurd e (by simp)
  .rename_i hbad
   cases hq:fg b x1 x2 fine k (o ||uB b x1 x2 fine st) (kj b x1 x2 fine st) with
   |none=>rw[hq]at e;exact absurd e (by simp)
   |some q =>
    obtain⟨q1,q2,q3⟩:=q;rw[hq]at e;injection e with e;injection e with e1 e
    obtain⟨i1,i2⟩:=XR hq;subst e1;refine⟨by simp[i1],λf hf=>?_⟩;rcases aD.1 hf with rfl|hf
    .unfold nN;split
     .simp
     .rename_i h0;simp only[TE];have he:(pC b x1 x2 st).e=0:=amd h0;rcases bD 12 (kp b x1 x2 st) with h|h
      .exact absurd ⟨h,he⟩ hbad
      .exact h
    .exact i2 f hf
def Zl {b:C_}{x0 x1 x2:Nat}(hb:b.length<=1000000000)(h2:x0<=2):∀{k:Nat}{o:Bool}{st:RS}{t:N_}{o2:Bool}{st2:RS},st.fit->kC b x0 x1 x2 k o st=some (t,o2,st2)->st2.fit∧t.length=k∧∀l∈t,l.length<=3∧∀f∈l,f.coefs.length<=12
 |0,o,st,t,o2,st2,h,e=>by
  rw[kC]at e;injection e with e
  injection e with e1 e
  injection e with e2 e3
  subst e1 e3;exact⟨h,rfl,s_⟩
 |k+1,o,st,t,o2,st2,h,e=>by
  rw[kC]at e
  cases hq:fg b x1 x2 (Le b x0 st) (sV b st x0) o (uF b x0 st) with
  |none=>rw[hq]at e;exact absurd e (by simp)
  |some q =>
   obtain⟨q1,q2,q3⟩:=q;rw[hq]at e;simp only at e
   cases hw:kC b x0 x1 x2 k q2 q3 with
   |none=>rw[hw]at e;exact absurd e (by simp)
   |some w =>
    obtain⟨w1,w2,w3⟩:=w;rw[hw]at e;injection e with e;injection e with e1 e
    injection e with e2 e3
    obtain⟨f1,f2⟩:=Xg hb (aj9 hb h) hq;obtain⟨i1,i2,i3⟩:=Zl hb h2 f1 hw;obtain⟨j1,j2⟩:=XR hq;have v1:=lI (b:=b) (st:=st) (s:=x0);have k1:2 ^ x0<=2 ^ 2:=aA o_ h2;simp only[au]at v1;subst e1 e3;refine⟨i1,by simp[i2],λl hl=>?_⟩;rcases aD.1 hl with rfl|hl
    .exact⟨o_,j2⟩
    .exact i3 l hl
abbrev pTn (b:C_)(i:aG)(t:N_)(n:Nat):Prop:=t.length=i.many∧n<=b.length∧∀l∈t,l.length<=3∧∀f∈l,f.coefs.length<=12
def af7 {h:ak}{t:N_}{n e:Int}(ht:t≠[]):eY h (.tup [al 1 (bv t),A_ n,A_ e])=some (.tup [al 1 (bv t),A_ n,A_ e]):=by
 cases t with
 |nil=>exact absurd rfl ht
 |cons x r=>rfl
def RS.inB (b:C_)(st:RS):Prop:=0<=st.a∧st.a<=b.length
def Gj {b:C_}{st:RS}{s:Int}(h:st.e=0∨st.inB b):(sN b st s).inB b:=by
 unfold sN;split
 .have:=adT (b:=b) (a:=st.a) (s:=s);show 0<=_∧_;simp only[];omega
 .rename_i he;exact h.resolve_left he
def apn {b:C_}{sz:Nat}:∀{k:Nat}{st:RS},st.inB b->(nM b sz k st).inB b
 |0,_,h=>h
 |_+1,_,h=>by rw[nM];exact apn (Gj (.inr h))
def awQ {b:C_}{x1 x2:Nat}{fine:Bool}{st:RS}(h:st.inB b):(kj b x1 x2 fine st).inB b:=by
 unfold kj;split
 .exact Gj (.inr (Gj (.inr h)))
 .exact apn (Gj (.inr (Gj (.inr (Gj (.inr (Gj (.inr h))))))))
def aju {b:C_}{x1 x2:Nat}{fine:Bool}:∀{k:Nat}{o:Bool}{st:RS}{l:AC_}{o2:Bool}{st2:RS},st.inB b->fg b x1 x2 fine k o st=some (l,o2,st2)->st2.inB b
 |0,o,st,l,o2,st2,h,e=>by
  rw[fg]at e;injection e with e
  injection e with e1 e
  injection e with e2 e3
  subst e3;exact h
 |k+1,o,st,l,o2,st2,h,e=>by
  rw[fg]at e;split at e
  .exact absurd e (by simp)
  .cases hq:fg b x1 x2 fine k (o ||uB b x1 x2 fine st) (kj b x1 x2 fine st) with
   |none=>rw[hq]at e;exact absurd e (by simp)
   |some q =>
    obtain⟨q1,q2,q3⟩:=q;rw[hq]at e;injection e with e;injection e with e1 e
    injection e with e2 e3
    subst e3;exact aju (awQ h) hq
def aw1 {b:C_}{x0:Nat}{st:RS}(h:st.e=0∨st.inB b):(uF b x0 st).inB b:=by
 unfold uF;split
 .exact Gj (.inr (Gj h))
 .exact Gj h
def Tz {b:C_}{x0 x1 x2:Nat}:∀{k:Nat}{o:Bool}{st:RS}{t:N_}{o2:Bool}{st2:RS},st.inB b∨(st.e=0∧1<=k)->kC b x0 x1 x2 k o st=some (t,o2,st2)->st2.inB b
 |0,o,st,t,o2,st2,h,e=>by
  rw[kC]at e;injection e with e
  injection e with e1 e
  injection e with e2 e3
  subst e3;rcases h with h|⟨_,h⟩
  .exact h
  .omega
 |k+1,o,st,t,o2,st2,h,e=>by
  rw[kC]at e
  cases hq:fg b x1 x2 (Le b x0 st) (sV b st x0) o (uF b x0 st) with
  |none=>rw[hq]at e;exact absurd e (by simp)
  |some q =>
   obtain⟨q1,q2,q3⟩:=q;rw[hq]at e;simp only at e
   cases hw:kC b x0 x1 x2 k q2 q3 with
   |none=>rw[hw]at e;exact absurd e (by simp)
   |some w =>
    obtain⟨w1,w2,w3⟩:=w;rw[hw]at e;injection e with e;injection e with e1 e
    injection e with e2 e3
    subst e3;have h0:st.e=0∨st.inB b:=by rcases h with h|⟨h,_⟩;exact .inr h;exact .inl h
    exact Tz (.inl (aju (aw1 h0) hq)) hw
def km (i:aG):1<=i.many∧i.many<=8:=by unfold aG.many;split<;>omega
theorem MY {b:C_}{i:aG}{a:Int}(hb:b.length<=1000000000)(ha:i64 a){t:N_}{n:Nat}(h:Cl b i a=.ok t n):pTn b i t n:=by
 rw[Cl]at h
 cases hq:LL b i a with
 |none=>rw[hq]at h;exact absurd h (by simp)
 |some q =>
  obtain⟨t',o,st⟩:=q;rw[hq]at h;simp only at h;rw[LL]at hq;obtain⟨j1,j2,j3⟩:=Zl (st:=⟨a,0⟩) hb (by unfold ew;split<;>omega) (show RS.fit ⟨a,0⟩ from ha) hq;have j4:=Tz (.inr ⟨rfl,(km i).1⟩) hq;split at h
  .exact absurd h (by simp)
  .split at h
   .exact absurd h (by simp)
   .injection h with g1 g2
    subst g1 g2;obtain⟨k1,k2⟩:=j4;exact⟨j2,o_,j3⟩
def aiP (b:C_)(hb:b.length<=1000000000)(a:Int)(ha:i64 a)(i:aG)(hi:i.Fit)(hm:i.may 11):bn prog Qg [.d (.lst (ax b)),A_ a,.agg i.cells] =
  rK (pTn b i) (Cl b i a) (λt n=>some (.tup [al 1 (bv t),A_ n,A_ 0])) (λe=>some (.tup [.nl,A_ 0,A_ (e+1)])):=by
 have hw:=I7 i hi;rw[ac hm]at hw;have hsz:=ac3 i;obtain⟨m1,m8⟩:=km i;obtain⟨M,hM,hL⟩:=atE b hb (A_ (if i.short then 1 else 3)) (A_ (if i.short then 7 else 12)) (ew i.short) (bT i.short) (cf i.short) (by unfold ew bT cf;cases i.short<;>decide) i.many m8 i.many 0 5 false ⟨a,0⟩ [] o_ rfl ha (ai _);have c0:((0:Nat):Int)=0:=rfl;have n0:bv []=[]:=rfl;have hq0:kC b (ew i.short) (bT i.short) (cf i.short) i.many false ⟨a,0⟩=LL b i a:=rfl;have hra:ra ⟨a,0⟩=a:=rfl;have hre:re ⟨a,0⟩=0:=rfl;rw[hq0]at hL;simp only[c0,n0,dH,az,HT,hra,hre]at hL;have hszv:afM i.short=[A_ (ew i.short:Nat),A_ (bT i.short:Nat),A_ (cf i.short:Nat),A_ (if i.short then 1 else 3),A_ (if i.short then 7 else 12)]:=by
  cases i.short<;>rfl
 rw[hszv]at hsz;have hp:=λt n=>MY (b:=b) (i:=i) (a:=a) (t:=t) (n:=n) hb ha
 have hin0:∀t o st,LL b i a=some (t,o,st)->st.inB b:=λt o st h=>Tz (.inr ⟨rfl,m1⟩) h
 rw[Cl]at hp⊢;rw[aL adw acX rfl];simp only[aG.cells]at hw hsz⊢;generalize ew i.short=X0 at *;generalize bT i.short=X1 at *;generalize cf i.short=X2 at *;generalize (if i.short then (1:Int) else 3)=Y3 at *;generalize (if i.short then (7:Int) else 12)=Y4 at *
 cases hq:LL b i a with
 |none =>
  rw[hq]at hL;simp only at hL⊢;rw[ee];simp(maxSteps:=9^6)(disch:=omega)[↓ac,↓aa,hw,hsz,hL]
 |some q =>
  obtain⟨t,o,st⟩:=q;rw[hq]at hL hp;simp only at hL hp⊢;obtain⟨sa,se⟩:=st;by_cases he:se=0
  .subst he;have hin:=hin0 t o ⟨sa,0⟩ hq;obtain⟨k1,k2⟩:=hin;simp only at k1 k2;obtain⟨A,rfl⟩:=ay k1;have hra2:ra ⟨(A:Int),0⟩=(A:Int):=rfl;have hre2:re ⟨(A:Int),0⟩=0:=rfl;simp only[hra2,hre2,c0]at hL
   cases o with
   |true =>
    simp only[ne_eq,not_true_eq_false,bS,bR]at hp⊢;rw[ee];simp(maxSteps:=9^6)(disch:=omega)[↓ac,↓aa,hw,hsz,hL]
   |false =>
    simp only[ne_eq,not_true_eq_false,bS,aq]at hp⊢;have hpt:=hp t _ rfl;have htn:t≠[]:=λh=>by rw[h]at hpt;have:=hpt.1;simp at this;omega
    rw[b9 hpt];have hrt:=λh n e=>af7 (h:=h) (n:=n) (e:=e) htn
    simp(maxSteps:=9^6)(disch:=omega)[↓ac,↓aa,hw,hsz,hL,-yF,hrt]
  .have hre2:re ⟨sa,se⟩=se:=rfl;have hse:((se-1:Nat):Int)+1=(se:Int):=o_;simp only[hre2]at hL;simp only[ne_eq,he,not_false_eq_true,bR]at hp⊢;rw[ee,hse];simp(maxSteps:=9^6)(disch:=omega)[↓ac,↓aa,hw,hsz,hL,he]
def ahl (b:C_)(a s:Int)(hb:b.length<=1000000000)(ha:i64 a):bn prog eU [.d (.lst (ax b)),A_ a,A_ s]=some (.tup [A_ (vO b a s),A_ (nO b a s),A_ (eO b a s)]):=by
 rw[jg b a s hb ha];unfold vO nO eO
 cases h:aE b a s with
 |ok v n=>rw[b9 (cu h)];simp
 |er e=>simp[rK]
def rX (b:C_)(st:RS)(x s:Int):Int:=if st.e=0 then (if eO b st.a s=0 then (nO b st.a s:Int) else x) else x
def BQ {b:C_}{st:RS}{x s:Int}(h:st.e=0->x=st.a)(h2:(sN b st s).e=0):rX b st x s=(sN b st s).a:=by
 unfold rX;unfold sN at h2⊢;by_cases he:st.e=0
 .rw[ac he]at h2⊢;simp only at h2;rw[ac h2,ac he]
 .rw[aa he]at h2⊢;exact absurd h2 he
def vZ {b:C_}{st:RS}{x s:Int}(hb:b.length<=1000000000)(h:i64 x):i64 (rX b st x s):=by
 unfold rX;split
 .split
  .have:=adT (b:=b) (a:=st.a) (s:=s);omega
  .exact h
 .exact h
abbrev nS (b:C_)(st:RS)(x:Int):Obj:=.cells [.d (.lst (ax b)),A_ x,A_ (re st)]
def B9 (b:C_)(s:Int)(st:RS)(x:Int)(X:Obj)(R:ak)(N:Nat)(hb:b.length<=1000000000)(ha:i64 x)(hx:st.e=0->x=st.a):(Dn prog).call uo [.ptr 1 0,A_ s] ⟨(0,X)::(1,nS b st x)::R,N⟩ =
  some (A_ (sV b st s),⟨(0,X)::(1,nS b (sN b st s) (rX b st x s))::R,N⟩):=by
 rw[bC Hh GA rfl];obtain⟨a,e⟩:=st;by_cases he:e=0
 .subst he;have hxa:x=a:=hx rfl;subst hxa;by_cases h0:eO b x s=0
  .simp(maxSteps:=9^6)(disch:=omega)[↓ac,↓aa,ahl,re,sV,sN,rX,h0]
  .have:eO b x s≠0:=h0;simp(maxSteps:=9^6)(disch:=omega)[↓ac,↓aa,ahl,re,sV,sN,rX,h0]
 .simp(maxSteps:=9^6)(disch:=omega)[↓ac,↓aa,re,sV,sN,rX,he]
def Sy (i:aG):bn prog AL [.agg i.cells]=some (.tup [A_ (ew i.short:Nat),A_ (bT i.short:Nat),A_ (cf i.short:Nat)]):=by
 rw[aL L8 Mb rfl];by_cases h:i.seq=2
 .have hs:i.short=true:=by simp[aG.short,h]
  have hc:(i.seq:Int)=2:=o_;rw[hs];simp(maxSteps:=9^6)(disch:=omega)[↓ac,↓aa,aG.cells,hc,ew,bT,cf]
 .have hs:i.short=false:=by simp[aG.short,h]
  have hc:(i.seq:Int)≠2:=o_;rw[hs];simp(maxSteps:=9^6)(disch:=omega)[↓ac,↓aa,aG.cells,hc,ew,bT,cf]
def XB (i:aG):bn prog uX [.agg i.cells]=some (A_ (i.many:Nat)):=by
 rw[aL OK OQ rfl];by_cases h:i.seq=2
 .have hs:i.many=8:=by simp[aG.many,h]
  have hc:(i.seq:Int)=2:=o_;rw[hs];simp(maxSteps:=9^6)(disch:=omega)[↓ac,↓aa,aG.cells,hc]
 .have hs:i.many=1:=by simp[aG.many,h]
  have hc:(i.seq:Int)≠2:=o_;rw[hs];simp(maxSteps:=9^6)(disch:=omega)[↓ac,↓aa,aG.cells,hc]
def ak6 (fine narrow:Bool):bn prog N1 [B_ fine,B_ narrow]=some (A_ (fe fine-vP narrow:Nat)):=by
 cases fine<;>cases narrow<;>exact Fq 60 (by kernel_rfl)
def IB (fine:Bool):Nat:=2 ^ (fe fine-1-1)
def adv (len order:Int)(down fine:Bool)(l:E_)(hl:l.length<=1000)(hr:∀c∈l,i64 c)(N:Nat)(Hf:Nat)(hH:Hf<=100):∀(r:E_) (j:Nat),l.drop j=r->
  (Dn prog).code (.loop j7) ⟨[(1,.ptr 0 0),(3,A_ Hf),(4,A_ j)],⟨[(0,.cells [A_ len,A_ order,B_ down,B_ fine,.d (.lst (am l))])],N⟩⟩ =
  if ∀c∈r,-(Hf:Int)<=c∧c<Hf then some (.exit 0,⟨[],⟨[],N⟩⟩) else some (.ret,⟨[(2,B_ false)],⟨[],N⟩⟩):=by
 intro r;have hla:=dc (l:=l)
 induction r with
 |nil =>
  intro j hj;have hjl:l.length<=j:=aU.1 hj;rw[ac s_,ah xi];simp(maxSteps:=9^6)(disch:=omega)[↓ac,↓aa,hla]
 |cons c r ih =>
  intro j hj;have hjl:j<l.length:=by
   rcases bD j l.length with h|h
   .exact h
   .rw[aU.2 h]at hj;exact absurd hj (by simp)
  have hlj:l[j]?=some c:=by
   have:=aY (λl=>l[0]?) hj;simpa [bx] using this
  have hn:l.drop (j+1)=r:=by rw[<-cW,hj];rfl
  have h5:=ih (j+1) hn;have c1:((j+1:Nat):Int)=(j:Int)+1:=rfl;rw[c1]at h5;have hg:=IT hj;have hci:=hr c (by rw[<-b8 j l,hj];simp);rw[ah xi];by_cases hc:-(Hf:Int)<=c∧c<Hf
  .have e:(∀x∈c::r,-(Hf:Int)<=x∧x<Hf)↔∀x∈r,-(Hf:Int)<=x∧x<Hf:=by simp[hc]
   simp only[e];rw[<-h5];obtain⟨hc1,hc2⟩:=hc;simp(maxSteps:=9^6)(disch:=omega)[↓ac,↓aa,-getElem?_pos,hla,hg]
  .rw[aa (λh=>hc (h c (.head _)))];by_cases hc1:-(Hf:Int)<=c
   .have hc2:(Hf:Int)<=c:=o_;simp(maxSteps:=9^6)(disch:=omega)[↓ac,↓aa,-getElem?_pos,hla,hg]
   .simp(maxSteps:=9^6)(disch:=omega)[↓ac,↓aa,-getElem?_pos,hla,hg]
def aeW (len order:Int)(down fine:Bool)(l:E_)(hl:l.length<=1000)(hr:∀c∈l,i64 c):bn prog sr [.agg [A_ len,A_ order,B_ down,B_ fine,.d (.lst (am l))]]=some (B_ (ox l (fe fine-1))):=by
 have h:=adv len order down fine l hl hr 1 (IB fine) (by cases fine<;>decide) l 0 rfl;have c0:((0:Nat):Int)=0:=rfl;rw[c0]at h;have hf:ox l (fe fine-1)=decide (∀c∈l,-(IB fine:Int)<=c∧c<IB fine):=rfl;rw[hf,aL L4 LP rfl];by_cases hc:∀c∈l,-(IB fine:Int)<=c∧c<IB fine
 .rw[ac hc]at h;rw[dT_ hc]
  cases fine
  .have e:((IB false:Nat):Int)=2:=rfl;rw[e]at h;simp(maxSteps:=9^6)(disch:=omega)[↓ac,↓aa,h]
  .have e:((IB true:Nat):Int)=4:=rfl;rw[e]at h;simp(maxSteps:=9^6)(disch:=omega)[↓ac,↓aa,h]
 .rw[aa hc]at h;rw[dF_ hc]
  cases fine
  .have e:((IB false:Nat):Int)=2:=rfl;rw[e]at h;simp(maxSteps:=9^6)(disch:=omega)[↓ac,↓aa,h]
  .have e:((IB true:Nat):Int)=4:=rfl;rw[e]at h;simp(maxSteps:=9^6)(disch:=omega)[↓ac,↓aa,h]
abbrev gk:=@Nat.div_eq_of_lt
def Vg (b:C_)(sz:Nat):Nat->RS->Int->Int
 |0,_,x=>x
 |k+1,st,x=>Vg b sz k (sN b st sz) (rX b st x sz)
def aj7 {b:C_}{sz:Nat}(hb:b.length<=1000000000):∀{k:Nat}{st:RS}{x:Int},i64 x->i64 (Vg b sz k st x)
 |0,_,_,h=>h
 |_+1,_,_,h=>by rw[Vg];exact aj7 hb (vZ hb h)
def am7 {b:C_}{sz:Nat}:∀{k:Nat}{st:RS}{x:Int},(st.e=0->x=st.a)->(nM b sz k st).e=0->Vg b sz k st x=(nM b sz k st).a
 |0,_,_,h,h2=>h h2
 |_+1,_,_,h,h2=>by rw[nM]at h2;rw[Vg,nM];exact am7 (λh3=>BQ h h3) h2
def awz (b:C_)(hb:b.length<=1000000000)(X0 z6:Obj)(a0 a2 a3:AV)(nar:D)(sz ord A B M:Nat)(hsz:2<=sz∧sz<=4)(ho:ord<=100)(hA:2<=A)(hB:A<B):∀(k j:Nat) (st:RS) (x:Int) (acc:E_),j+k=ord->acc.length=j->i64 x->(st.e=0->x=st.a)->
  (Dn prog).code (.loop jS) ⟨[(0,.ptr 1 0),(6,.ptr A 0),(12,.ptr B 0),(13,.d nar),(14,A_ sz),(15,A_ j)],⟨(0,X0)::(1,nS b st x)::[(A,z6),(B,.cells [a0,A_ ord,a2,a3,al 1 (am acc)])],M⟩⟩ =
  some (.exit 0,⟨[(6,.ptr A 0),(12,.ptr B 0),(13,.d nar)],⟨(0,X0)::(1,nS b (nM b sz k st) (Vg b sz k st x))::[(A,z6),(B,.cells [a0,A_ ord,a2,a3,al 1 (am (acc++nJ b sz k st))])],M⟩⟩):=by
 obtain⟨n0,n1,m0,m1,m2,m3⟩:A≠0∧A≠1∧B≠0∧B≠1∧B≠A∧A≠B:=o_;intro k
 induction k with
 |zero =>
  intro j st x acc h1 h2 h3 h4;rw[ah xd,nJ,nM,Vg,aR];simp(maxSteps:=9^6)(disch:=omega)[↓ac,↓aa,n0,n1,m0,m1,m2,m3]
 |succ k ih =>
  intro j st x acc h1 h2 h3 h4;have hg:=B9 b sz st x X0 [(A,z6),(B,.cells [a0,A_ ord,a2,a3,al 1 (am acc)])] M hb h3 h4;have hv:=lI (b:=b) (st:=st) (s:=sz);have h5:=ih (j+1) (sN b st sz) (rX b st x sz) (acc++[GE (sV b st sz) sz]) o_ t_ (vZ hb h3) (λh=>BQ h4 h);have c1:((j+1:Nat):Int)=(j:Int)+1:=rfl;have c2:((sz-1:Nat):Int)=(sz:Int)-1:=o_;have hla:=dc (l:=acc);simp only[au]at hv;have hp:2 ^ (sz-1)*2=2 ^ sz:=by rw[<-cR];congr 1;omega
  have hp4:2 ^ sz<=2 ^ 4:=aA o_ hsz.2;have t1:=Cx (sz-1) o_;have t2:=Cx sz o_;rw[c2]at t1;rw[c1,aw,D3,dy]at h5;rw[ah xd,nJ,nM,Vg,show acc++GE (sV b st sz) sz::nJ b sz k (sN b st sz)=acc++([GE (sV b st sz) sz]++nJ b sz k (sN b st sz)) from rfl,<-h5];clear h5 ih;have hcf:GE (sV b st sz) sz=(sV b st sz:Int)-((sV b st sz / 2 ^ (sz-1)*2 ^ sz:Nat):Int):=rfl;generalize sV b st sz=V at *;by_cases hge:2 ^ (sz-1)<=V
  .have hq:V / 2 ^ (sz-1)=1:=iT o_ o_;rw[hq,Nat.one_mul]at hcf;rw[hcf];generalize 2 ^ (sz-1)=P1 at *;generalize 2 ^ sz=P2 at *;simp(maxSteps:=9^6)(disch:=omega)[↓ac,↓aa,n0,n1,m0,m1,m2,m3,hg,t1,t2]
  .have hq:V / 2 ^ (sz-1)=0:=gk o_;have hcf:GE V sz=(V:Int):=by rw[hcf,hq];simp
   rw[hcf];generalize 2 ^ (sz-1)=P1 at *;generalize 2 ^ sz=P2 at *;simp(maxSteps:=9^6)(disch:=omega)[↓ac,↓aa,n0,n1,m0,m1,m2,m3,hg,t1,t2]
def ajw {b:C_}{sz:Nat}(hz:1<=sz):∀{k:Nat}{st:RS},∀c∈nJ b sz k st,-((2 ^ (sz-1):Nat):Int)<=c∧c<((2 ^ (sz-1):Nat):Int)
 |0,_,c,h=>by simp[nJ]at h
 |k+1,st,c,h=>by
  rw[nJ]at h;rcases aD.1 h with rfl|h
  .have hv:=lI (b:=b) (st:=st) (s:=sz);simp only[au]at hv;have hp:2 ^ (sz-1)*2=2 ^ sz:=by rw[<-cR];congr 1;omega
   unfold GE;generalize sV b st sz=V at *;by_cases hge:2 ^ (sz-1)<=V
   .have hq:V / 2 ^ (sz-1)=1:=iT o_ o_;rw[hq,Nat.one_mul];generalize 2 ^ (sz-1)=P1 at *;generalize 2 ^ sz=P2 at *;omega
   .have hq:V / 2 ^ (sz-1)=0:=gk o_;rw[hq];generalize 2 ^ (sz-1)=P1 at *;generalize 2 ^ sz=P2 at *;omega
  .exact ajw hz c h
abbrev fAV (len order:Int)(down fine:Bool)(C:AV):AV:=.agg [A_ len,A_ order,B_ down,B_ fine,C]
def al2 (b:C_)(hb:b.length<=1000000000)(X0:Obj)(i:aG)(fine:Bool)(st:RS)(x:Int)(N:Nat)(hN:2<=N)(hx:i64 x)(hs:st.e=0->x=st.a) :
  ∃(M:Nat) (x':Int),N<=M∧i64 x'∧
   ((12<kp b (bT i.short) (cf i.short) st∧((pC b (bT i.short) (cf i.short) st).e=0->x'=(pC b (bT i.short) (cf i.short) st).a)∧
    (Dn prog).call sF [.ptr 1 0,.agg i.cells,B_ fine] ⟨(0,X0)::(1,nS b st x)::[],N⟩=some (.tup [fAV (sV b st (bT i.short)) (kp b (bT i.short) (cf i.short) st) false fine .nl,B_ false],⟨(0,X0)::(1,nS b (pC b (bT i.short) (cf i.short) st) x')::[],M⟩))∨
    (kp b (bT i.short) (cf i.short) st<=12∧((kj b (bT i.short) (cf i.short) fine st).e=0->x'=(kj b (bT i.short) (cf i.short) fine st).a)∧
    (Dn prog).call sF [.ptr 1 0,.agg i.cells,B_ fine] ⟨(0,X0)::(1,nS b st x)::[],N⟩=some (.tup [fAV (nN b (bT i.short) (cf i.short) fine st).len (nN b (bT i.short) (cf i.short) fine st).order (nN b (bT i.short) (cf i.short) fine st).down fine (share (al 1 (am (nN b (bT i.short) (cf i.short) fine st).coefs))),B_ (!uB b (bT i.short) (cf i.short) fine st)],⟨(0,X0)::(1,nS b (kj b (bT i.short) (cf i.short) fine st) x')::[],M⟩))):=by
 obtain⟨n0,n1,m0,m1,p0,p1⟩:N≠0∧N≠1∧N+1≠0∧N+1≠1∧N+2≠0∧N+2≠1:=o_;have hfi:=Sy i;have hxx:bT i.short<=6∧cf i.short<=5:=by unfold bT cf;cases i.short<;>decide
 have g1:=λR N=>B9 b (bT i.short) st x X0 R N hb hx hs
 have x1f:=vZ (st:=st) (s:=(bT i.short:Nat)) hb hx;have h1:=λh=>BQ (b:=b) (st:=st) (x:=x) (s:=(bT i.short:Nat)) hs h
 have g2:=λR N=>B9 b (cf i.short) (sN b st (bT i.short)) (rX b st x (bT i.short)) X0 R N hb x1f h1
 by_cases hO:12<kp b (bT i.short) (cf i.short) st
 .refine⟨N+3,rX b (sN b st (bT i.short)) (rX b st x (bT i.short)) (cf i.short),o_,vZ hb x1f,.inl ⟨hO,λh=>BQ h1 h,?_⟩⟩;have hsh:i.seq≠2:=by
   intro h;have hs:i.short=true:=by simp[aG.short,h]
   have v2:=lI (b:=b) (st:=sN b st (bT i.short)) (s:=(cf i.short:Nat));rw[hs]at v2 hO;have:kp b (bT true) (cf true) st<8:=v2;omega
  have hc:(i.seq:Int)≠2:=o_;have hO2:12<sV b (sN b st (bT i.short)) (cf i.short):=hO;have eO:kp b (bT i.short) (cf i.short) st=sV b (sN b st (bT i.short)) (cf i.short):=rfl;have eS:pC b (bT i.short) (cf i.short) st=sN b (sN b st (bT i.short)) (cf i.short):=rfl;rw[eO,eS];simp only[aG.cells]at hfi⊢;generalize bT i.short=s1 at *;generalize cf i.short=s2 at *;rw[bC sv so rfl];simp(maxSteps:=9^6)(disch:=omega)[↓ac,↓aa,n0,n1,m0,m1,p0,p1,hfi,hc,g1,g2]
 by_cases hO0:kp b (bT i.short) (cf i.short) st=0
 .have eF:nN b (bT i.short) (cf i.short) fine st=⟨sV b st (bT i.short),0,false,fine,[]⟩:=by rw[nN,ac hO0]
  have eX:uB b (bT i.short) (cf i.short) fine st=false:=by rw[uB,ac hO0]
  have eN:kj b (bT i.short) (cf i.short) fine st=sN b (sN b st (bT i.short)) (cf i.short):=by rw[kj,ac hO0];rfl
  rw[eF,eX,eN];refine⟨N+3,rX b (sN b st (bT i.short)) (rX b st x (bT i.short)) (cf i.short),o_,vZ hb x1f,.inr ⟨o_,λh=>BQ h1 h,?_⟩⟩;have hO2:sV b (sN b st (bT i.short)) (cf i.short)=0:=hO0;simp only[aG.cells]at hfi⊢;clear hO hO0 eF eX eN;generalize bT i.short=s1 at *;generalize cf i.short=s2 at *;rw[bC sv so rfl];have n00:am []=[]:=rfl;rw[n00,dH];by_cases h:i.seq=2
  .have hc:(i.seq:Int)=2:=o_;rw[hc]at hfi⊢;simp(maxSteps:=9^6)(disch:=omega)[↓ac,↓aa,n0,n1,m0,m1,p0,p1,hfi,g1,g2,hO2]
  .have hc:(i.seq:Int)≠2:=o_;simp(maxSteps:=9^6)(disch:=omega)[↓ac,↓aa,n0,n1,m0,m1,p0,p1,hfi,hc,g1,g2,hO2]
 .have he:(sN b (sN b st (bT i.short)) (cf i.short)).e=0:=amd hO0;have hO12:sV b (sN b st (bT i.short)) (cf i.short)<=12:=by
   have:¬12<sV b (sN b st (bT i.short)) (cf i.short):=hO;omega
  have hO7:i.seq=2->sV b (sN b st (bT i.short)) (cf i.short)<=7:=λh=>by
   have hs:i.short=true:=by simp[aG.short,h]
   have v2:=lI (b:=b) (st:=sN b st (bT i.short)) (s:=(cf i.short:Nat));rw[hs]at v2⊢;have:sV b (sN b st (bT true)) (cf true)<8:=v2;omega
  have hw4:3<=fe fine∧fe fine<=4:=by unfold fe;split<;>omega
  have hneO:sV b (sN b st (bT i.short)) (cf i.short)≠0:=hO0;have h2:=λh=>BQ (b:=b) (st:=sN b st (bT i.short)) (x:=rX b st x (bT i.short)) (s:=(cf i.short:Nat)) h1 h
  have x2f:=vZ (st:=sN b st (bT i.short)) (s:=(cf i.short:Nat)) hb x1f;obtain⟨S2,hS2⟩:∃S2,S2=sN b (sN b st (bT i.short)) (cf i.short):=⟨_,rfl⟩
  obtain⟨y2,hy2⟩:∃y2,y2=rX b (sN b st (bT i.short)) (rX b st x (bT i.short)) (cf i.short):=⟨_,rfl⟩
  rw[<-hS2,<-hy2]at h2 g2;rw[<-hy2]at x2f;have g3:=λR N=>B9 b 1 S2 y2 X0 R N hb x2f h2
  have h3:=λh=>BQ (b:=b) (s:=1) h2 h
  have x3f:=vZ (st:=S2) (s:=1) hb x2f;have g4:=λR N=>B9 b 1 (sN b S2 1) (rX b S2 y2 1) X0 R N hb x3f h3
  have h4:=λh=>BQ (b:=b) (s:=1) h3 h
  have x4f:=vZ (st:=sN b S2 1) (s:=1) hb x3f;have v3:=lI (b:=b) (st:=S2) (s:=1);have v4:=lI (b:=b) (st:=sN b S2 1) (s:=1);have t1:(1:Int).toNat=1:=rfl;simp only[t1]at v3 v4;obtain⟨W,hW⟩:∃W,W=sV b (sN b S2 1) 1:=⟨_,rfl⟩
  obtain⟨Dd,hDd⟩:∃Dd,Dd=sV b S2 1:=⟨_,rfl⟩
  obtain⟨T4,hT4⟩:∃T4,T4=sN b (sN b S2 1) 1:=⟨_,rfl⟩
  obtain⟨y4,hy4⟩:∃y4,y4=rX b (sN b S2 1) (rX b S2 y2 1) 1:=⟨_,rfl⟩
  obtain⟨sz,hsz⟩:∃sz,sz=fe fine-W:=⟨_,rfl⟩
  have eS:pC b (bT i.short) (cf i.short) st=S2:=hS2.symm;have eF:nN b (bT i.short) (cf i.short) fine st=⟨sV b st (bT i.short),sV b (sN b st (bT i.short)) (cf i.short),decide (Dd=1),fine,nJ b sz (sV b (sN b st (bT i.short)) (cf i.short)) T4⟩:=by
   rw[nN,aa hO0,EF,Dp,JC,flD,eS,<-hW,<-hDd,<-hT4,<-hsz];rfl
  have eX:uB b (bT i.short) (cf i.short) fine st=(decide (W=0) && ox (nJ b sz (sV b (sN b st (bT i.short)) (cf i.short)) T4) (sz-1)):=by
   rw[uB,aa hO0,EF,Dp,JC,eS,<-hW,<-hT4,<-hsz];rfl
  have eN:kj b (bT i.short) (cf i.short) fine st=nM b sz (sV b (sN b st (bT i.short)) (cf i.short)) T4:=by
   rw[kj,aa hO0,EF,Dp,JC,eS,<-hW,<-hT4,<-hsz];rfl
  rw[eF,eX,eN];rw[<-hW]at v4 g4;rw[<-hDd]at v3 g3;rw[<-hT4,<-hy4]at g4 h4;rw[<-hy4]at x4f;have hL0:=λa0 a2 a3 nar z6=>awz b hb X0 z6 a0 a2 a3 nar sz (sV b (sN b st (bT i.short)) (cf i.short)) (N+1) (N+1+1) (N+1+1+1) o_ o_ o_ o_ (sV b (sN b st (bT i.short)) (cf i.short)) 0 T4 y4 [] o_ rfl x4f h4
  have n00:am []=[]:=rfl;have c0:((0:Nat):Int)=0:=rfl;simp only[n00,dH,az,c0]at hL0;have hcl:=TE (b:=b) (sz:=sz) (k:=sV b (sN b st (bT i.short)) (cf i.short)) (st:=T4);have hrg:=ajw (b:=b) (sz:=sz) o_ (k:=sV b (sN b st (bT i.short)) (cf i.short)) (st:=T4);refine⟨N+3,Vg b sz (sV b (sN b st (bT i.short)) (cf i.short)) T4 y4,o_,aj7 hb x4f,.inr ⟨o_,λh=>am7 h4 h,?_⟩⟩;clear eF eX eN hO hO0;generalize Vg b sz (sV b (sN b st (bT i.short)) (cf i.short)) T4 y4=y5 at *;generalize nM b sz (sV b (sN b st (bT i.short)) (cf i.short)) T4=T5 at *;generalize nJ b sz (sV b (sN b st (bT i.short)) (cf i.short)) T4=CS at *;have hshare:share (al 1 (am CS))=.d (.lst (am CS)):=by
   cases CS with
   |nil=>simp at hcl;omega
   |cons x r=>rfl
  have hsizes:=ak6 fine (decide (W=1));have hszI:fe fine-vP (decide (W=1))=sz:=by
   rcases (show W=0∨W=1 by omega) with h|h<;>rw[hsz,h]<;>rfl
  rw[hszI]at hsizes;have hrI:∀c∈CS,i64 c:=λc hc=>by
   have h:=hrg c hc;have hp:2 ^ (sz-1)<=2 ^ 3:=aA o_ o_;generalize 2 ^ (sz-1)=P1 at *;exact⟨o_,o_⟩
  have hnar:=aeW (sV b st (bT i.short)) (sV b (sN b st (bT i.short)) (cf i.short)) (decide (Dd=1)) fine CS o_ hrI;have hDec:decide ((Dd:Int)=1)=decide (Dd=1):=by rw[decide_eq_decide];omega
  have hWec:decide ((W:Int)=1)=decide (W=1):=by rw[decide_eq_decide];omega
  have hfin:(decide (W=1) == ox CS (fe fine-1))=!(decide (W=0) && ox CS (sz-1)):=by
   rcases (show W=0∨W=1 by omega) with h|h
   .subst h;have:sz=fe fine:=o_;rw[this];cases ox CS (fe fine-1)<;>rfl
   .subst h;have e:ox CS (fe fine-1)=true:=by
     unfold ox;rw[decide_eq_true_eq,show fe fine-1=sz by omega];exact hrg
    rw[e];rfl
  rw[hshare];simp only[aG.cells]at hfi⊢;clear hrg h1 h2 h3 h4 hrI;generalize ox CS (fe fine-1)=B1 at *;generalize ox CS (sz-1)=B2 at *;generalize sV b (sN b st (bT i.short)) (cf i.short)=O at *;generalize bT i.short=s1 at *;generalize cf i.short=s2 at *;rw[bC sv so rfl];clear hW hDd hS2 hT4 hy2 hy4 hsz;have hD2:Dd=0∨Dd=1:=o_;have bb:∀x y:Bool,Yg false (B_ x) (B_ y)=some (.bool (x == y)):=λx y=>by cases x<;>cases y<;>rfl
  have hW2:W=0∨W=1:=o_;by_cases h:i.seq=2
  .have hc:(i.seq:Int)=2:=o_;have:=hO7 h;rw[hc]at hfi⊢;rcases hD2 with rfl|rfl<;>rcases hW2 with rfl|rfl<;>cases B1<;>cases B2<;>simp at hL0 hsizes hnar hfin
   all_goals
    simp(maxSteps:=9^6)(disch:=omega)[↓ac,↓aa,n0,n1,m0,m1,p0,p1,hfi,g1,g2,g3,g4,hsizes,hL0,hshare,hnar,bb]
  .have hc:(i.seq:Int)≠2:=o_;rcases hD2 with rfl|rfl<;>rcases hW2 with rfl|rfl<;>cases B1<;>cases B2<;>simp at hL0 hsizes hnar hfin
   all_goals
    simp(maxSteps:=9^6)(disch:=omega)[↓ac,↓aa,n0,n1,m0,m1,p0,p1,hfi,hc,g1,g2,g3,g4,hsizes,hL0,hshare,hnar,bb]
def adE {b:C_}{st:RS}{s:Int}(h:st.e≠0):sN b st s=st:=by rw[sN,aa h]
def ajD {b:C_}{x1 x2:Nat}{fine:Bool}{st:RS}(h:st.e≠0):∀(k:Nat) (o:Bool),∃l o2,fg b x1 x2 fine k o st=some (l,o2,st)
 |0,o=>⟨[],o,rfl⟩
 |k+1,o=>by
  have hO:kp b x1 x2 st=0:=by rw[kp,adE h,arQ h]
  have hN:kj b x1 x2 fine st=st:=by rw[kj,ac hO,pC,adE h,adE h]
  obtain⟨l,o2,q⟩:=ajD (fine:=fine) h k (o ||uB b x1 x2 fine st);exact⟨nN b x1 x2 fine st::l,o2,by rw[fg,aa o_,hN,q]⟩
abbrev uQ (x13:AV)(y10 y15:D)(o:Bool)(X:List (Nat×AV)):List (Nat×AV):=(5,.ptr 0 0)::(9,.ptr 1 0)::(10,.d y10)::(13,x13)::(14,B_ o)::(15,.d y15)::X
def aqP (b:C_)(hb:b.length<=1000000000)(i:aG)(fine:Bool)(y10 y15:D)(x13:AV)(many:Nat)(hm:many<=3):∀(k j N:Nat) (o:Bool) (st:RS) (x:Int) (acc:AC_),j+k=many->acc.length=j->2<=N->i64 x->(st.e=0->x=st.a)->
  ∃(M:Nat) (x':Int) (O:Obj),N<=M∧i64 x'∧
  match fg b (bT i.short) (cf i.short) fine k o st with
  |none=>(Dn prog).code (.loop ej) ⟨uQ x13 y10 y15 o [(16,A_ many),(17,B_ fine),(18,al 5 (jD acc)),(19,A_ j)],⟨[(0,.cells i.cells),(1,nS b st x)],N⟩⟩ =
    some (.ret,⟨[(6,.nl),(7,A_ 0),(8,A_ 8)],⟨[(1,O)],M⟩⟩)
  |some (l,o2,st2)=>(st2.e=0->x'=st2.a)∧(st2.e=0∨k=0->(Dn prog).code (.loop ej) ⟨uQ x13 y10 y15 o [(16,A_ many),(17,B_ fine),(18,al 5 (jD acc)),(19,A_ j)],⟨[(0,.cells i.cells),(1,nS b st x)],N⟩⟩ =
    some (.exit 2,⟨uQ x13 y10 y15 o2 [(18,al 5 (jD (acc++l)))],⟨[(0,.cells i.cells),(1,nS b st2 x')],M⟩⟩))∧
    (st2.e≠0->k≠0->(Dn prog).code (.loop ej) ⟨uQ x13 y10 y15 o [(16,A_ many),(17,B_ fine),(18,al 5 (jD acc)),(19,A_ j)],⟨[(0,.cells i.cells),(1,nS b st x)],N⟩⟩ =
    some (.ret,⟨[(6,.nl),(7,A_ 0),(8,A_ (re st2))],⟨[(1,O)],M⟩⟩)):=by
 intro k
 induction k with
 |zero =>
  intro j N o st x acc h1 h2 hN h3 h4;refine⟨N,x,.cells [],ai _,h3,?_⟩;rw[fg];refine⟨h4,λ_=>?_,λ_ h=>absurd rfl h⟩;rw[aR,ah lk];simp(maxSteps:=9^6)(disch:=omega)[↓ac,↓aa]
 |succ k ih =>
  intro j N o st x acc h1 h2 hN h3 h4;obtain⟨M,x',hM,hx',hF⟩:=al2 b hb (.cells i.cells) i fine st x N hN h3 h4;obtain⟨n0,n1⟩:M≠0∧M≠1:=o_;have hla:=Wy (l:=acc);have c1:((j+1:Nat):Int)=(j:Int)+1:=rfl;rcases hF with ⟨hO,hs,hF⟩|⟨hO,hs,hF⟩
  .have he:(pC b (bT i.short) (cf i.short) st).e=0:=amd (by
    have:kp b (bT i.short) (cf i.short) st≠0:=o_;exact this)
   have hre:re (pC b (bT i.short) (cf i.short) st)=0:=he;refine⟨M+1,x',nS b (pC b (bT i.short) (cf i.short) st) x',o_,hx',?_⟩;rw[fg,ac ⟨hO,he⟩];simp only[nS];rw[ah lk];simp only[nS,aG.cells]at hF⊢;generalize kp b (bT i.short) (cf i.short) st=O at *;generalize pC b (bT i.short) (cf i.short) st=T at *;simp(maxSteps:=9^6)(disch:=omega)[↓ac,↓aa,n0,n1,hF,hre]
  .obtain⟨C,hC⟩:∃C,C=share (al 1 (am (nN b (bT i.short) (cf i.short) fine st).coefs)):=⟨_,rfl⟩
   have hC1:share C=C∧firm C=C∧jB C=C∧tf C=C∧EK C=some (.lst (am (nN b (bT i.short) (cf i.short) fine st).coefs))∧bB C=true∧wl C=true∧AV.cells C=[C]:=by
    rw[hC]
    cases (nN b (bT i.short) (cf i.short) fine st).coefs with
    |nil=>exact⟨rfl,rfl,rfl,rfl,rfl,rfl,rfl,rfl⟩
    |cons c r=>exact⟨rfl,rfl,rfl,rfl,rfl,rfl,rfl,rfl⟩
   rw[<-hC]at hF;obtain⟨q1,q2,q3,q4,q5,q6,q7,q8⟩:=hC1;by_cases he:(kj b (bT i.short) (cf i.short) fine st).e=0
   .obtain⟨M2,x2,O2,hM2,hx2,h5⟩:=ih (j+1) (M+1) (o ||uB b (bT i.short) (cf i.short) fine st) (kj b (bT i.short) (cf i.short) fine st) x' (acc++[nN b (bT i.short) (cf i.short) fine st]) o_ t_ o_ hx' hs;refine⟨M2,x2,O2,o_,hx2,?_⟩;have hre:re (kj b (bT i.short) (cf i.short) fine st)=0:=he;have key:(Dn prog).code (.loop ej) ⟨uQ x13 y10 y15 o [(16,A_ many),(17,B_ fine),(18,al 5 (jD acc)),(19,A_ j)],⟨[(0,.cells i.cells),(1,nS b st x)],N⟩⟩ =
      (Dn prog).code (.loop ej) ⟨uQ x13 y10 y15 (o ||uB b (bT i.short) (cf i.short) fine st) [(16,A_ many),(17,B_ fine),(18,al 5 (jD (acc++[nN b (bT i.short) (cf i.short) fine st]))),(19,A_ ((j+1:Nat):Int))],⟨[(0,.cells i.cells),(1,nS b (kj b (bT i.short) (cf i.short) fine st) x')],M+1⟩⟩:=by
     clear h5 ih;simp only[c1,S5,dy,uQ,nS];rw[ah lk];have hord:(nN b (bT i.short) (cf i.short) fine st).order<=12:=by
      unfold nN;split
      .show(0:Int)<=12;decide
      .show((kp b (bT i.short) (cf i.short) st:Nat):Int)<=12;omega
     have hF4:(nN b (bT i.short) (cf i.short) fine st).fine=fine:=by
      unfold nN;split<;>rfl
     simp only[nS,aG.cells]at hF⊢;generalize nN b (bT i.short) (cf i.short) fine st=F at *;generalize uB b (bT i.short) (cf i.short) fine st=B at *;generalize kj b (bT i.short) (cf i.short) fine st=T at *;obtain⟨F1,F2,F3,F4,F5⟩:=F;simp only at hord hF q5 hC hF4⊢;subst hF4
     cases o<;>cases B<;>simp(maxSteps:=9^6)(disch:=omega)[↓ac,↓aa,n0,n1,hF,hre,-bB,q1,q2,q3,q4,q5,q6,q7,q8]
    rw[key,fg,aa (λh=>by omega)]
    cases hfl:fg b (bT i.short) (cf i.short) fine k (o ||uB b (bT i.short) (cf i.short) fine st) (kj b (bT i.short) (cf i.short) fine st) with
    |none =>
     rw[hfl]at h5;exact h5
    |some q =>
     obtain⟨l,o2,st2⟩:=q;rw[hfl]at h5;obtain⟨g1,g2,g3⟩:=h5;refine⟨g1,λh=>?_,λh _=>?_⟩
     .have:=g2 o_;rw[this,aw];rfl
     .by_cases hk:k=0
      .subst hk;rw[fg]at hfl;injection hfl with hfl
       injection hfl with e1 hfl
       injection hfl with e2 e3
       rw[<-e3]at h;exact absurd he h
      .exact g3 h hk
   .obtain⟨l,o2,hfl⟩:=ajD (b:=b) (x1:=bT i.short) (x2:=cf i.short) (fine:=fine) he k (o ||uB b (bT i.short) (cf i.short) fine st);refine⟨M+1,x',nS b (kj b (bT i.short) (cf i.short) fine st) x',o_,hx',?_⟩;rw[fg,aa (λh=>by omega),hfl];refine⟨hs,λh=>by omega,λ_ _=>?_⟩;clear ih;have hre:re (kj b (bT i.short) (cf i.short) fine st)≠0:=by
     intro h;exact he (by unfold re at h;omega)
    simp only[uQ,nS];rw[ah lk];simp only[nS,aG.cells]at hF⊢;generalize nN b (bT i.short) (cf i.short) fine st=F at *;generalize uB b (bT i.short) (cf i.short) fine st=B at *;generalize kj b (bT i.short) (cf i.short) fine st=T at *;obtain⟨F1,F2,F3,F4,F5⟩:=F;simp only at hF q5 hC⊢;generalize re T=E at *;simp(maxSteps:=9^6)(disch:=omega)[↓ac,↓aa,n0,n1,hF,hre,-bB,q1,q2,q3,q4,q5,q6,q7,q8]
def ax0 {b:C_}{x0:Nat}{st:RS}(h:st.e≠0):uF b x0 st=st:=by
 unfold uF;rw[arQ h,aa (Nat.lt_irrefl 0),adE h]
def akc {b:C_}{x0 x1 x2:Nat}{st:RS}(h:st.e≠0):∀(k:Nat) (o:Bool),∃t o2,kC b x0 x1 x2 k o st=some (t,o2,st)
 |0,o=>⟨[],o,rfl⟩
 |k+1,o=>by
  obtain⟨t,o2,q⟩:=akc (x0:=x0) (x1:=x1) (x2:=x2) h k o;exact⟨[]::t,o2,by rw[kC,ax0 h,arQ h,fg];simp only[];rw[q]⟩
def wnX (b:C_)(x0:Nat)(st:RS)(x:Int):Int:=if 0<sV b st x0 then rX b (sN b st x0) (rX b st x x0) 1 else rX b st x x0
def auE {b:C_}{x0:Nat}{st:RS}{x:Int}(hb:b.length<=1000000000)(h:i64 x):i64 (wnX b x0 st x):=by
 unfold wnX;split
 .exact vZ hb (vZ hb h)
 .exact vZ hb h
def ayq {b:C_}{x0:Nat}{st:RS}{x:Int}(h:st.e=0->x=st.a)(h2:(uF b x0 st).e=0):wnX b x0 st x=(uF b x0 st).a:=by
 unfold wnX;unfold uF at h2⊢;split
 .rename_i hp;rw[ac hp]at h2;exact BQ (λh3=>BQ h h3) h2
 .rename_i hp;rw[aa hp]at h2;exact BQ h h2
def ar8 (b:C_)(hb:b.length<=1000000000)(i:aG):∀(k j N:Nat) (o:Bool) (st:RS) (x:Int) (acc:N_),j+k=i.many->acc.length=j->2<=N->i64 x->(st.e=0->x=st.a)->
  ∃(M:Nat) (x':Int) (O:Obj),N<=M∧i64 x'∧
  match kC b (ew i.short) (bT i.short) (cf i.short) k o st with
  |none=>(Dn prog).code (.loop dq) ⟨uQ (al 1 (bv acc)) (.int .i64 (ew i.short:Nat)) (.int .i64 j) o [],⟨[(0,.cells i.cells),(1,nS b st x)],N⟩⟩ =
    some (.ret,⟨[(6,.nl),(7,A_ 0),(8,A_ 8)],⟨[(1,O)],M⟩⟩)
  |some (t,o2,st2)=>(st2.e=0->x'=st2.a∧(Dn prog).code (.loop dq) ⟨uQ (al 1 (bv acc)) (.int .i64 (ew i.short:Nat)) (.int .i64 j) o [],⟨[(0,.cells i.cells),(1,nS b st x)],N⟩⟩ =
    some (.exit 0,⟨[(9,.ptr 1 0),(13,al 1 (bv (acc++t))),(14,B_ o2)],⟨[(1,nS b st2 x')],M⟩⟩))∧
    (st2.e≠0->((Dn prog).code (.loop dq) ⟨uQ (al 1 (bv acc)) (.int .i64 (ew i.short:Nat)) (.int .i64 j) o [],⟨[(0,.cells i.cells),(1,nS b st x)],N⟩⟩ =
    some (.ret,⟨[(6,.nl),(7,A_ 0),(8,A_ (re st2))],⟨[(1,O)],M⟩⟩))∨∃V B,(Dn prog).code (.loop dq) ⟨uQ (al 1 (bv acc)) (.int .i64 (ew i.short:Nat)) (.int .i64 j) o [],⟨[(0,.cells i.cells),(1,nS b st x)],N⟩⟩ =
    some (.exit 0,⟨[(9,.ptr 1 0),(13,al 1 (bv V)),(14,B_ B)],⟨[(1,nS b st2 x')],M⟩⟩)):=by
 have hM8:=(km i).2;have hmany:=XB i;intro k
 induction k with
 |zero =>
  intro j N o st x acc h1 h2 hN h3 h4;refine⟨N,x,.cells [],ai _,h3,?_⟩;have key:(Dn prog).code (.loop dq) ⟨uQ (al 1 (bv acc)) (.int .i64 (ew i.short:Nat)) (.int .i64 j) o [],⟨[(0,.cells i.cells),(1,nS b st x)],N⟩⟩ =
    some (.exit 0,⟨[(9,.ptr 1 0),(13,al 1 (bv acc)),(14,B_ o)],⟨[(1,nS b st x)],N⟩⟩):=by
   rw[ah lN];simp only[aG.cells]at hmany⊢;generalize i.many=W at *;simp(maxSteps:=9^6)(disch:=omega)[↓ac,↓aa,hmany]
  rw[kC];refine⟨λh=>⟨h4 h,?_⟩,λ_=>.inr ⟨acc,o,key⟩⟩;rw[aR];exact key
 |succ k ih =>
  intro j N o st x acc h1 h2 hN h3 h4;have x1f:=vZ (st:=st) (s:=(ew i.short:Nat)) hb h3;have e1:=λh=>BQ (b:=b) (st:=st) (x:=x) (s:=(ew i.short:Nat)) h4 h
  have g1:=λR N=>B9 b (ew i.short) st x (.cells i.cells) R N hb h3 h4
  have g2:=λR N=>B9 b 1 (sN b st (ew i.short)) (rX b st x (ew i.short)) (.cells i.cells) R N hb x1f e1
  have v1:=lI (b:=b) (st:=st) (s:=(ew i.short:Nat));have v2:=lI (b:=b) (st:=sN b st (ew i.short)) (s:=1);have k0:ew i.short<=2:=by unfold ew;split<;>omega
  have k1:2 ^ (ew i.short)<=2 ^ 2:=aA o_ k0;have t1:(1:Int).toNat=1:=rfl;simp only[au,t1]at v1 v2;have c1:((j+1:Nat):Int)=(j:Int)+1:=rfl;have c0:((0:Nat):Int)=0:=rfl;have n00:jD []=[]:=rfl;have hla:=KH (t:=acc);have hwx:=auE (x0:=ew i.short) (st:=st) hb h3;obtain⟨M1,x',O,hM1,hx',hL⟩:=aqP b hb i (Le b (ew i.short) st) (.int .i64 (ew i.short:Nat)) (.int .i64 j) (al 1 (bv acc)) (sV b st (ew i.short)) o_ (sV b st (ew i.short)) 0 N o (uF b (ew i.short) st) (wnX b (ew i.short) st x) [] o_ rfl hN hwx (λh=>ayq h4 h);simp only[n00,dH,az,c0]at hL;have hF:Le b (ew i.short) st=(decide (0<sV b st (ew i.short)) && decide (sV b (sN b st (ew i.short)) 1=1)):=rfl;have hS:uF b (ew i.short) st=if 0<sV b st (ew i.short) then sN b (sN b st (ew i.short)) 1 else sN b st (ew i.short):=rfl
  have hX:wnX b (ew i.short) st x=if 0<sV b st (ew i.short) then rX b (sN b st (ew i.short)) (rX b st x (ew i.short)) 1 else rX b st x (ew i.short):=rfl
  rw[kC]
  cases hfl:fg b (bT i.short) (cf i.short) (Le b (ew i.short) st) (sV b st (ew i.short)) o (uF b (ew i.short) st) with
  |none =>
   rw[hfl]at hL;refine⟨M1,x',O,hM1,hx',?_⟩;simp only[]at hL⊢;rw[ah lN];rw[hF,hS,hX]at hL;simp only[aG.cells]at hL g1 g2 hmany⊢;generalize i.many=W at *;by_cases hp:0<sV b st (ew i.short)
   .rw[ac hp,ac hp,dT_ hp,gO]at hL;by_cases hd:sV b (sN b st (ew i.short)) 1=1
    .rw[dT_ hd]at hL;simp(maxSteps:=9^6)(disch:=omega)[↓ac,↓aa,hmany,g1,g2,hL]
    .rw[dF_ hd]at hL;simp(maxSteps:=9^6)(disch:=omega)[↓ac,↓aa,hmany,g1,g2,hL]
   .have h0:sV b st (ew i.short)=0:=o_;rw[aa hp,aa hp,dF_ hp,Bool.false_and,h0,c0]at hL;simp(maxSteps:=9^6)(disch:=omega)[↓ac,↓aa,hmany,g1,g2,h0,hL]
  |some q =>
   obtain⟨l,o2,st2⟩:=q;rw[hfl]at hL;obtain⟨q1,q2,q3⟩:=hL;by_cases hgo:st2.e=0∨sV b st (ew i.short)=0
   .have hL:=q2 hgo;obtain⟨M,x2,O2,hM,hx2,h5⟩:=ih (j+1) M1 o2 st2 x' (acc++[l]) o_ t_ o_ hx' q1;refine⟨M,x2,O2,o_,hx2,?_⟩;have key:(Dn prog).code (.loop dq) ⟨uQ (al 1 (bv acc)) (.int .i64 (ew i.short:Nat)) (.int .i64 j) o [],⟨[(0,.cells i.cells),(1,nS b st x)],N⟩⟩ =
      (Dn prog).code (.loop dq) ⟨uQ (al 1 (bv (acc++[l]))) (.int .i64 (ew i.short:Nat)) (.int .i64 ((j+1:Nat):Int)) o2 [],⟨[(0,.cells i.cells),(1,nS b st2 x')],M1⟩⟩:=by
     clear h5 ih q2 q3;simp only[c1,YD,dy,uQ];rw[hF,hS,hX]at hL;rw[ah lN];simp only[aG.cells,uQ]at hL g1 g2 hmany⊢;generalize i.many=W at *;by_cases hp:0<sV b st (ew i.short)
     .rw[ac hp,ac hp,dT_ hp,gO]at hL;by_cases hd:sV b (sN b st (ew i.short)) 1=1
      .rw[dT_ hd]at hL;simp(maxSteps:=9^6)(disch:=omega)[↓ac,↓aa,hmany,g1,g2,hL]
      .rw[dF_ hd]at hL;simp(maxSteps:=9^6)(disch:=omega)[↓ac,↓aa,hmany,g1,g2,hL]
     .have h0:sV b st (ew i.short)=0:=o_;rw[aa hp,aa hp,dF_ hp,Bool.false_and,h0,c0]at hL;simp(maxSteps:=9^6)(disch:=omega)[↓ac,↓aa,hmany,g1,g2,h0,hL]
    rw[key];simp only[]
    cases hw:kC b (ew i.short) (bT i.short) (cf i.short) k o2 st2 with
    |none =>
     rw[hw]at h5;exact h5
    |some w =>
     obtain⟨t,o3,st3⟩:=w;rw[hw]at h5;simp only[aw,aK,az]at h5⊢;exact h5
   .have hne:st2.e≠0:=λh=>hgo (.inl h)
    have hnz:sV b st (ew i.short)≠0:=λh=>hgo (.inr h)
    have hL:=q3 hne hnz;obtain⟨t,o3,hw⟩:=akc (b:=b) (x0:=ew i.short) (x1:=bT i.short) (x2:=cf i.short) hne k o2;refine⟨M1,x',O,hM1,hx',?_⟩;simp only[];rw[hw];refine⟨λh=>absurd h hne,λ_=>.inl ?_⟩;clear ih q1 q2 q3;rw[hF,hS,hX]at hL;rw[ah lN];simp only[aG.cells,uQ]at hL g1 g2 hmany⊢;generalize i.many=W at *;have hp:0<sV b st (ew i.short):=o_;rw[ac hp,ac hp,dT_ hp,gO]at hL;by_cases hd:sV b (sN b st (ew i.short)) 1=1
    .rw[dT_ hd]at hL;simp(maxSteps:=9^6)(disch:=omega)[↓ac,↓aa,hmany,g1,g2,hL]
    .rw[dF_ hd]at hL;simp(maxSteps:=9^6)(disch:=omega)[↓ac,↓aa,hmany,g1,g2,hL]
abbrev nW:=@List.sum_cons
def atM (id:Nat):bn prog RN [A_ id]=some (A_ (bt id)):=by
 rw[aL ao8 api rfl];unfold bt;by_cases h:id<5
 .simp(disch:=omega)[↓ac]
 .simp(disch:=omega)[↓aa]
def qc (d hi:Nat):Nat->Nat->C_
 |0,_=>[]
 |f+1,x=>if x<hi then x::qc d hi f (x+d) else []
def sU (os:C_)(d b:Nat):Nat->Nat->C_
 |0,_=>[]
 |k+1,w=>(qc d (nth os (b+1)) 300 (nth os b)).map (λx=>w*32+x)++sU os d b k (w+1)
def uH (os:C_)(d n first:Nat):Nat->Nat->C_
 |0,_=>[]
 |k+1,b=>sU os d b n first++uH os d n first k (b+1)
def xV (os:C_)(n first:Nat):U_->Nat->Q_
 |[],_=>[]
 |s::r,b=>(if s.book=0∨s.book=13 then [] else (uH os (bt s.book.toNat) n first s.len.toNat b).map λx=>(s.book.toNat,x))++xV os n first r (b+s.len.toNat)
def nh (os:C_):H_->E_->Nat->Q_
 |l::r,n::g,first=>xV os n.toNat first l 0++nh os r g (first+n.toNat)
 |_,_,_=>[]
def lC {σ τ:Type}(st:Nat×Nat->σ->Sum σ τ):Q_->σ->Sum σ τ
 |[],s=>.inl s
 |p::r,s=>match st p s with
  |.inl s=>lC st r s
  |.inr z=>.inr z
def Hg {σ τ:Type}{st:Nat×Nat->σ->Sum σ τ}:∀{l r:Q_}{s:σ},lC st (l++r) s=match lC st l s with
  |.inl s=>lC st r s
  |.inr z=>.inr z
 |[],r,s=>rfl
 |p::l,r,s=>by
  rw[aK,lC,lC]
  cases st p s with
  |inl s=>simp only[Hg]
  |inr z=>rfl
def Xh {σ τ:Type}(hp:σ->ak->ak)(hq:τ->ak->ak)(L l:Nat)(st:Nat×Nat->σ->Sum σ τ)(eq:Q_->σ->Prop):Prop :=
 ∀p r s K o N,eq (p::r) s->L<=K->K<N->
  (∃s2 M,N<=M∧st p s=.inl s2∧eq r s2∧dD (Dn prog) (.yield l) [.agg [A_ (p.1:Int),A_ (p.2:Int),A_ ((p.2+bt p.1:Nat):Int)]] ⟨hp s [(K,o)],N⟩=some (B_ true,⟨hp s2 [(K,o)],M⟩))∨
  (∃z M,N<=M∧st p s=.inr z∧dD (Dn prog) (.yield l) [.agg [A_ (p.1:Int),A_ (p.2:Int),A_ ((p.2+bt p.1:Nat):Int)]] ⟨hp s [(K,o)],N⟩=some (B_ false,⟨hq z [(K,o)],M⟩))
structure PlS where
 l:Nat
 p2:Nat
 p3:Nat
 full:H_
 os:C_
abbrev eP (P:PlS)(first g b:Int)(r:aT):aT:=(0,.yield P.l)::(2,.ptr P.p2 0)::(3,.ptr P.p3 0)::(5,A_ first)::(6,A_ g)::(8,A_ b)::r
abbrev K8 (P:PlS)(g:Int)(r:aT):aT:=(14,.d (.lst (bi P.full)))::(15,A_ P.full.length)::(16,A_ g)::r
abbrev SQ (ls:U_)(k:Int):aT:=[(21,.d (.lst (fj ls))),(22,A_ ls.length),(23,A_ k)]
section
variable {σ τ:Type}{hp:σ->ak->ak}{hq:τ->ak->ak}{L:Nat}{P:PlS}{st:Nat×Nat->σ->Sum σ τ}{eq:Q_->σ->Prop}
theorem azu (H:Tl hp L)(H2:Tl hq L)(hY:Xh hp hq L P.l st eq)(hg3:∀s T,get (hp s T) P.p3=some (.cells [.own false 1 (aS P.os)]))(s0:bl)(bk:Nat)(hbk:s0.book=bk)(hb1:1<=bk∧bk<=11)(b:Nat)(hb:b+1<P.os.length)(ho:P.os.length<=100)(hhi:nth P.os (b+1)<=256)(first g en gi k:Int)(w:Nat)(hw:w<=8)(ls:U_)(K:Nat)(hK:L<=K)(rest:Q_):∀(f x N:Nat) (s:σ),nth P.os (b+1)<=x+f->x<=300->K<N->eq ((qc (bt bk) (nth P.os (b+1)) f x).map (λy=>(bk,w*32+y))++rest) s->
  (∃s2 M,N<=M∧lC st ((qc (bt bk) (nth P.os (b+1)) f x).map (λy=>(bk,w*32+y))) s=.inl s2∧eq rest s2∧
   (Dn prog).code (.loop nI) ⟨eP P first g b ((10,.ptr K 0)::(11,A_ en)::(12,A_ w)::(13,A_ x)::K8 P gi (SQ ls k)),⟨hp s [(K,.cells [A_ s0.book,A_ s0.len])],N⟩⟩ =
   some (.exit 8,⟨eP P first g b ((10,.ptr K 0)::(11,A_ en)::(12,A_ w)::K8 P gi (SQ ls k)),⟨hp s2 [(K,.cells [A_ s0.book,A_ s0.len])],M⟩⟩))∨
  (∃z M,N<=M∧lC st ((qc (bt bk) (nth P.os (b+1)) f x).map (λy=>(bk,w*32+y))) s=.inr z∧
   (Dn prog).code (.loop nI) ⟨eP P first g b ((10,.ptr K 0)::(11,A_ en)::(12,A_ w)::(13,A_ x)::K8 P gi (SQ ls k)),⟨hp s [(K,.cells [A_ s0.book,A_ s0.len])],N⟩⟩ =
   some (.ret,⟨[],⟨hq z [],M⟩⟩)):=by
 have hG:=λs o=>H.get s K o hK
 have hD2:=λs o=>H2.del s K o hK
 have hd4:bt bk<=4∧2<=bt bk:=by grind [bt]
 have hdim:=atM bk;have hgo:(aS P.os)[b+1]?=some [.int .i64 (nth P.os (b+1):Nat)]:=JD hb;have hne:aS P.os≠[]:=e_;intro f
 induction f with
 |zero =>
  intro x N s h1 h2 hKN hi;refine .inl ⟨s,N,ai _,rfl,hi,?_⟩;rw[ah nR];simp(disch:=omega)[↓aa,hg3,hgo]
 |succ f ih =>
  intro x N s h1 h2 hKN hi;by_cases hx:x<nth P.os (b+1)
  .rw[qc,ac hx,bZ,aK]at hi;rw[qc,ac hx,bZ,lC];have c1:((x+bt bk:Nat):Int)=(x:Int)+bt bk:=rfl;have c2:((w*32+x:Nat):Int)=(w:Int)*32+x:=o_;have c3:((w*32+x+bt bk:Nat):Int)=(w:Int)*32+x+bt bk:=o_;rcases hY (bk,w*32+x) _ s K (.cells [A_ s0.book,A_ s0.len]) N hi hK hKN with ⟨s2,M,hM,e1,e2,e3⟩|⟨z,M,hM,e1,e3⟩
   .rw[e1];simp only[c2,c3]at e3;have h9:=ih (x+bt bk) M s2 o_ o_ o_ e2;rw[c1]at h9;rw[hbk]at h9 e3⊢;rcases h9 with ⟨s3,M2,hM2,f1,f2,f3⟩|⟨z,M2,hM2,f1,f3⟩
    .refine .inl ⟨s3,M2,o_,f1,f2,?_⟩;rw[<-f3,ah nR];simp(disch:=omega)[↓ac,hg3,hgo,hG,hdim,-rI,e3]
    .refine .inr ⟨z,M2,o_,f1,?_⟩;rw[<-f3,ah nR];simp(disch:=omega)[↓ac,hg3,hgo,hG,hdim,-rI,e3]
   .rw[e1];simp only[c2,c3]at e3;rw[hbk]at e3⊢;refine .inr ⟨z,M,hM,rfl,?_⟩;rw[ah nR];simp(disch:=omega)[↓ac,hg3,hgo,hG,hdim,-rI,e3,hD2]
  .rw[qc,aa hx]at hi;rw[qc,aa hx];refine .inl ⟨s,N,ai _,rfl,hi,?_⟩;rw[ah nR];simp(disch:=omega)[↓aa,hg3,hgo]
theorem azo (i:aG)(hil:i.groups.length<=1000)(H:Tl hp L)(H2:Tl hq L)(hY:Xh hp hq L P.l st eq)(hg2:∀s T,get (hp s T) P.p2=some (.cells i.cells))(hg3:∀s T,get (hp s T) P.p3=some (.cells [.own false 1 (aS P.os)]))(s0:bl)(bk:Nat)(hbk:s0.book=bk)(hb1:1<=bk∧bk<=11)(b:Nat)(hb:b+1<P.os.length)(ho:P.os.length<=100)(hhi:∀x∈P.os,x<=256)(first n g:Nat)(hgl:g<i.groups.length)(hn:nth i.groups g=n)(hfn:first+n<=8)(en gi k:Int)(ls:U_)(K:Nat)(hK:L<=K)(rest:Q_):∀(j w N:Nat) (s:σ),w+j=first+n->K<N->eq ((sU P.os (bt bk) b j w).map (λy=>(bk,y))++rest) s->
  (∃s2 M,N<=M∧lC st ((sU P.os (bt bk) b j w).map (λy=>(bk,y))) s=.inl s2∧eq rest s2∧
   (Dn prog).code (.loop nT) ⟨eP P first g b ((10,.ptr K 0)::(11,A_ en)::(12,A_ w)::K8 P gi (SQ ls k)),⟨hp s [(K,.cells [A_ s0.book,A_ s0.len])],N⟩⟩ =
   some (.exit 6,⟨eP P first g b ((10,.ptr K 0)::(11,A_ en)::K8 P gi (SQ ls k)),⟨hp s2 [(K,.cells [A_ s0.book,A_ s0.len])],M⟩⟩))∨
  (∃z M,N<=M∧lC st ((sU P.os (bt bk) b j w).map (λy=>(bk,y))) s=.inr z∧
   (Dn prog).code (.loop nT) ⟨eP P first g b ((10,.ptr K 0)::(11,A_ en)::(12,A_ w)::K8 P gi (SQ ls k)),⟨hp s [(K,.cells [A_ s0.book,A_ s0.len])],N⟩⟩ =
   some (.ret,⟨[],⟨hq z [],M⟩⟩)):=by
 have hgo:(aS P.os)[b]?=some [.int .i64 (nth P.os b:Nat)]:=JD o_;have hob:=hhi (nth P.os b) (iL o_);have hob1:=hhi (nth P.os (b+1)) (iL hb);simp only[aG.cells]at hg2;intro j
 induction j with
 |zero =>
  intro w N s h1 hKN hi;refine .inl ⟨s,N,ai _,rfl,hi,?_⟩;rw[ah ti];simp(disch:=omega)[↓aa,hg2,hn]
 |succ j ih =>
  intro w N s h1 hKN hi;have c1:((w+1:Nat):Int)=(w:Int)+1:=rfl;have em:(sU P.os (bt bk) b (j+1) w).map (λy=>(bk,y))=(qc (bt bk) (nth P.os (b+1)) 300 (nth P.os b)).map (λy=>(bk,w*32+y))++(sU P.os (bt bk) b j (w+1)).map (λy=>(bk,y)):=by
   simp_all [sU]
  rw[em]at hi⊢;rw[aw]at hi;rw[Hg];rcases azu H H2 hY hg3 s0 bk hbk hb1 b hb ho hob1 first g en gi k w o_ ls K hK _ 300 (nth P.os b) N s o_ o_ hKN hi with ⟨s2,M,hM,e1,e2,e3⟩|⟨z,M,hM,e1,e3⟩
  .rw[e1];have h9:=ih (w+1) M s2 o_ o_ e2;rcases h9 with ⟨s3,M2,hM2,f1,f2,f3⟩|⟨z,M2,hM2,f1,f3⟩
   .refine .inl ⟨s3,M2,o_,f1,f2,?_⟩;rw[<-f3,ah ti];simp(disch:=omega)[↓ac,hg2,hg3,hgo,hn,e3]
   .refine .inr ⟨z,M2,o_,f1,?_⟩;rw[<-f3,ah ti];simp(disch:=omega)[↓ac,hg2,hg3,hgo,hn,e3]
  .rw[e1];refine .inr ⟨z,M,hM,rfl,?_⟩;rw[ah ti];simp(disch:=omega)[↓ac,hg2,hg3,hgo,hn,e3]
theorem azG (i:aG)(hil:i.groups.length<=1000)(H:Tl hp L)(H2:Tl hq L)(hY:Xh hp hq L P.l st eq)(hg2:∀s T,get (hp s T) P.p2=some (.cells i.cells))(hg3:∀s T,get (hp s T) P.p3=some (.cells [.own false 1 (aS P.os)]))(s0:bl)(bk:Nat)(hbk:s0.book=bk)(hb1:bk<=11∨bk=13)(ho:P.os.length<=100)(hhi:∀x∈P.os,x<=256)(first n g:Nat)(hgl:g<i.groups.length)(hn:nth i.groups g=n)(hfn:first+n<=8)(en:Nat)(hen:en<P.os.length)(gi k:Int)(ls:U_)(K:Nat)(hK:L<=K)(rest:Q_):∀(j b N:Nat) (s:σ),b+j=en->K<N->eq ((if bk=0∨bk=13 then [] else (uH P.os (bt bk) n first j b).map (λy=>(bk,y)))++rest) s->
  (∃s2 M,N<=M∧lC st (if bk=0∨bk=13 then [] else (uH P.os (bt bk) n first j b).map (λy=>(bk,y))) s=.inl s2∧eq rest s2∧
   (Dn prog).code (.loop nF) ⟨eP P first g b ((10,.ptr K 0)::(11,A_ en)::K8 P gi (SQ ls k)),⟨hp s [(K,.cells [A_ s0.book,A_ s0.len])],N⟩⟩ =
   some (.exit 4,⟨eP P first g en (K8 P gi (SQ ls k)),⟨hp s2 [],M⟩⟩))∨
  (∃z M,N<=M∧lC st (if bk=0∨bk=13 then [] else (uH P.os (bt bk) n first j b).map (λy=>(bk,y))) s=.inr z∧
   (Dn prog).code (.loop nF) ⟨eP P first g b ((10,.ptr K 0)::(11,A_ en)::K8 P gi (SQ ls k)),⟨hp s [(K,.cells [A_ s0.book,A_ s0.len])],N⟩⟩ =
   some (.ret,⟨[],⟨hq z [],M⟩⟩)):=by
 have hG:=λs o=>H.get s K o hK
 have hD:=λs o=>H.del s K o hK
 intro j
 induction j with
 |zero =>
  intro b N s h1 hKN hi;have eb:b=en:=o_;subst eb;have e0:(if bk=0∨bk=13 then [] else (uH P.os (bt bk) n first 0 b).map (λy=>(bk,y)))=[]:=by split<;>rfl
  rw[e0]at hi⊢;refine .inl ⟨s,N,ai _,rfl,hi,?_⟩;rw[ah kP];simp(disch:=omega)[↓aa,hD]
 |succ j ih =>
  intro b N s h1 hKN hi;have c1:((b+1:Nat):Int)=(b:Int)+1:=rfl;by_cases h0:bk=0∨bk=13
  .rw[ac h0]at hi⊢;have h9:=ih (b+1) N s o_ hKN u_;rw[ac h0,c1]at h9;rw[hbk]at h9⊢;rcases h9 with ⟨s3,M2,hM2,f1,f2,f3⟩|⟨z,M2,hM2,f1,f3⟩
   .refine .inl ⟨s3,M2,o_,f1,f2,?_⟩;rw[<-f3,ah kP];rcases h0 with h0|h0<;>simp(disch:=omega)[↓ac,↓aa,hG]
   .refine .inr ⟨z,M2,o_,f1,?_⟩;rw[<-f3,ah kP];rcases h0 with h0|h0<;>simp(disch:=omega)[↓ac,↓aa,hG]
  .rw[aa h0]at hi⊢;have em:(uH P.os (bt bk) n first (j+1) b).map (λy=>(bk,y))=(sU P.os (bt bk) b n first).map (λy=>(bk,y))++(uH P.os (bt bk) n first j (b+1)).map (λy=>(bk,y)):=by
    grind [uH]
   rw[em]at hi⊢;rw[aw]at hi;rw[Hg];rcases azo i hil H H2 hY hg2 hg3 s0 bk hbk o_ b o_ ho hhi first n g hgl hn hfn en gi k ls K hK _ n first N s rfl hKN hi with ⟨s2,M,hM,e1,e2,e3⟩|⟨z,M,hM,e1,e3⟩
   .rw[e1];have h9:=ih (b+1) M s2 o_ o_ u_;rw[aa h0,c1]at h9;rw[hbk]at h9 e3⊢;rcases h9 with ⟨s3,M2,hM2,f1,f2,f3⟩|⟨z,M2,hM2,f1,f3⟩
    .refine .inl ⟨s3,M2,o_,f1,f2,?_⟩;rw[<-f3,ah kP];simp(disch:=omega)[↓ac,↓aa,hG,e3]
    .refine .inr ⟨z,M2,o_,f1,?_⟩;rw[<-f3,ah kP];simp(disch:=omega)[↓ac,↓aa,hG,e3]
   .rw[e1];refine .inr ⟨z,M,hM,rfl,?_⟩;rw[ah kP];simp(disch:=omega)[↓ac,↓aa,hG,e3]
theorem azK (i:aG)(hil:i.groups.length<=1000)(H:Tl hp L)(H2:Tl hq L)(hY:Xh hp hq L P.l st eq)(hg2:∀s T,get (hp s T) P.p2=some (.cells i.cells))(hg3:∀s T,get (hp s T) P.p3=some (.cells [.own false 1 (aS P.os)]))(ho:P.os.length<=100)(hhi:∀x∈P.os,x<=256)(first n g:Nat)(hgl:g<i.groups.length)(hn:nth i.groups g=n)(hfn:first+n<=8)(gi:Int)(ls:U_)(hls:ls.length<=1000)(rest:Q_):∀(r:U_) (k b N:Nat) (lf:Int) (s:σ),ls.drop k=r->fitsS lf r->(b:Int)+lf<P.os.length->L<=N->eq (xV P.os n first r b++rest) s->
  (∃s2 M,N<=M∧lC st (xV P.os n first r b) s=.inl s2∧eq rest s2∧
   (Dn prog).code (.loop nL) ⟨eP P first g b (K8 P gi (SQ ls k)),⟨hp s [],N⟩⟩ =
   some (.exit 2,⟨(0,.yield P.l)::(2,.ptr P.p2 0)::(3,.ptr P.p3 0)::(5,A_ first)::(6,A_ g)::K8 P gi [],⟨hp s2 [],M⟩⟩))∨
  (∃z M,N<=M∧lC st (xV P.os n first r b) s=.inr z∧
   (Dn prog).code (.loop nL) ⟨eP P first g b (K8 P gi (SQ ls k)),⟨hp s [],N⟩⟩ =
   some (.ret,⟨[],⟨hq z [],M⟩⟩)):=by
 intro r
 induction r with
 |nil =>
  intro k b N lf s hd hf hb hN hi;have hk:=eD hd;refine .inl ⟨s,N,ai _,rfl,hi,?_⟩;rw[ah sY];simp(disch:=omega)[↓aa]
 |cons s0 r ih =>
  intro k b N lf s hd hf hb hN hi;have hg:=EY hd;have hlt:=ed hd;obtain⟨⟨⟨l1,l2⟩,b1,b2⟩,hf2⟩:=hf;obtain⟨bk,hbk⟩:=ay b1;have hbt:s0.book.toNat=bk:=o_;have hif:(s0.book=0∨s0.book=13)↔(bk=0∨bk=13):=o_;have em:xV P.os n first (s0::r) b=(if bk=0∨bk=13 then [] else (uH P.os (bt bk) n first s0.len.toNat b).map (λy=>(bk,y)))++xV P.os n first r (b+s0.len.toNat):=by
   grind [xV]
  rw[em]at hi⊢;rw[aw]at hi;rw[Hg];have hp1:=λs o=>H.put s N o hN
  have hp2:=λs o o'=>H.put2 s N o o' hN
  have hG:=λs o=>H.get s N o hN
  have c1:((k+1:Nat):Int)=(k:Int)+1:=rfl;have cE:((b+s0.len.toNat:Nat):Int)=(b:Int)+s0.len:=o_;rcases azG i hil H H2 hY hg2 hg3 s0 bk hbk o_ ho hhi first n g hgl hn hfn (b+s0.len.toNat) o_ gi k ls N hN _ s0.len.toNat b (N+1) s rfl o_ hi with ⟨s2,M,hM,e1,e2,e3⟩|⟨z,M,hM,e1,e3⟩
  .rw[e1];have h9:=ih (k+1) (b+s0.len.toNat) M (lf-s0.len) s2 (dU hd) hf2 o_ o_ e2;rw[c1,cE]at h9;rw[cE]at e3;rcases h9 with ⟨s3,M2,hM2,f1,f2,f3⟩|⟨z,M2,hM2,f1,f3⟩
   .refine .inl ⟨s3,M2,o_,f1,f2,?_⟩;rw[<-f3,ah sY];simp(disch:=omega)[↓ac,hg,hp1,hp2,hG,e3]
   .refine .inr ⟨z,M2,o_,f1,?_⟩;rw[<-f3,ah sY];simp(disch:=omega)[↓ac,hg,hp1,hp2,hG,e3]
  .rw[e1];rw[cE]at e3;refine .inr ⟨z,M,o_,rfl,?_⟩;rw[ah sY];simp(disch:=omega)[↓ac,hg,hp1,hp2,hG,e3]
theorem aAf (i:aG)(hil:i.groups.length<=1000)(H:Tl hp L)(H2:Tl hq L)(hY:Xh hp hq L P.l st eq)(hg2:∀s T,get (hp s T) P.p2=some (.cells i.cells))(hg3:∀s T,get (hp s T) P.p3=some (.cells [.own false 1 (aS P.os)]))(ho:P.os.length<=100)(hhi:∀x∈P.os,x<=256)(m:Int)(hm:0<=m∧m<P.os.length)(hfl:P.full.length<=1000)(hlc:∀l∈P.full,l.length<=1000)(hgg:∀n∈i.groups,1<=n)(rest:Q_):∀(r:H_) (q:E_) (g first N:Nat) (s:σ),P.full.drop g=r->i.groups.drop g=q->r.length=q.length->Kv m r->(first:Int)+q.sum<=8->L<=N->eq (nh P.os r q first++rest) s->
  (∃s2 M,N<=M∧lC st (nh P.os r q first) s=.inl s2∧eq rest s2∧
   (Dn prog).code (.loop nU) ⟨(0,.yield P.l)::(2,.ptr P.p2 0)::(3,.ptr P.p3 0)::(5,A_ first)::K8 P g [],⟨hp s [],N⟩⟩=some (.exit 0,⟨[],⟨hp s2 [],M⟩⟩))∨
  (∃z M,N<=M∧lC st (nh P.os r q first) s=.inr z∧
   (Dn prog).code (.loop nU) ⟨(0,.yield P.l)::(2,.ptr P.p2 0)::(3,.ptr P.p3 0)::(5,A_ first)::K8 P g [],⟨hp s [],N⟩⟩=some (.ret,⟨[],⟨hq z [],M⟩⟩)):=by
 have hg2':=hg2;simp only[aG.cells]at hg2';intro r
 induction r with
 |nil =>
  intro q g first N s hd hd2 hl hf hs hN hi
  have hk:=eD hd;have hq0:q=[]:=e_;subst hq0;refine .inl ⟨s,N,ai _,rfl,hi,?_⟩;rw[ah tc];simp(disch:=omega)[↓aa]
 |cons l r ih =>
  intro q g first N s hd hd2 hl hf hs hN hi
  cases q with
  |nil=>simp at hl
  |cons n0 q =>
   have hg:=xB hd;have hlt:=ed hd;have hlt2:=ed hd2;have hn0:nth i.groups g=n0:=by
    grind [nw]
   have hn1:=hgg n0 (by grind [iL]);obtain⟨n,hn⟩:=ay (show 0<=n0 by omega);have hnt:n0.toNat=n:=o_;have hqs:0<=q.sum:=by
    have:∀x∈q,1<=x:=λx hx=>hgg x (by grind)
    have:=kU this;omega
   rw[nW]at hs;have em:nh P.os (l::r) (n0::q) first=xV P.os n first l 0++nh P.os r q (first+n):=by rw[nh,hnt]
   rw[em]at hi⊢;rw[aw]at hi;rw[Hg];have hml:l∈P.full:=by rw[<-b8 g P.full,hd];simp
   have c0:((0:Nat):Int)=0:=rfl;have c1:((g+1:Nat):Int)=(g:Int)+1:=rfl;have cF:((first+n:Nat):Int)=(first:Int)+n:=rfl;simp only[ar,Nat.add_right_cancel_iff]at hl;rcases azK i hil H H2 hY hg2 hg3 ho hhi first n g hlt2 o_ o_ g l (hlc l hml) _ l 0 0 N m s rfl (hf l (.head _)) o_ hN hi with ⟨s2,M,hM,e1,e2,e3⟩|⟨z,M,hM,e1,e3⟩
   .rw[e1];have h9:=ih q (g+1) (first+n) M s2 (dU hd) (dU hd2) hl (λx hx=>hf x (.tail _ hx)) o_ o_ e2;rw[c1,cF]at h9;rw[c0]at e3;rw[hn]at hn0;rcases h9 with ⟨s3,M2,hM2,f1,f2,f3⟩|⟨z,M2,hM2,f1,f3⟩
    .refine .inl ⟨s3,M2,o_,f1,f2,?_⟩;rw[<-f3,ah tc];simp(disch:=omega)[↓ac,hg,hg2',hn0,e3]
    .refine .inr ⟨z,M2,o_,f1,?_⟩;rw[<-f3,ah tc];simp(disch:=omega)[↓ac,hg,hg2',hn0,e3]
   .rw[e1];rw[c0]at e3;refine .inr ⟨z,M,hM,rfl,?_⟩;rw[ah tc];simp(disch:=omega)[↓ac,hg,e3]
end
def aqf {σ τ:Type}{hp:σ->ak->ak}{hq:τ->ak->ak}{L:Nat}{P:PlS}{st:Nat×Nat->σ->Sum σ τ}{eq:Q_->σ->Prop}(i:aG)(hi:i.Fit)(hm:i.may 11)(p1:Nat)(H:Tl hp L)(H2:Tl hq L)(hY:Xh hp hq L P.l st eq)(hg1:∀s,get (hp s []) p1=some (.cells [.d (.lst (bi P.full))]))(hg2:∀s T,get (hp s T) P.p2=some (.cells i.cells))(hg3:∀s T,get (hp s T) P.p3=some (.cells [.own false 1 (aS P.os)]))(ho:P.os.length<=100)(hhi:∀x∈P.os,x<=256)(hmo:i.max<P.os.length)(hf:tF i P.full)(N:Nat)(hN:L<=N)(s:σ)(hs:eq (nh P.os P.full i.groups 0) s) :
  (∃s2 M,N<=M∧lC st (nh P.os P.full i.groups 0) s=.inl s2∧eq [] s2∧(Dn prog).call mg [.yield P.l,.ptr p1 0,.ptr P.p2 0,.ptr P.p3 0] ⟨hp s [],N⟩=some (.tup [],⟨hp s2 [],M⟩))∨
  (∃z M,N<=M∧lC st (nh P.os P.full i.groups 0) s=.inr z∧(Dn prog).call mg [.yield P.l,.ptr p1 0,.ptr P.p2 0,.ptr P.p3 0] ⟨hp s [],N⟩=some (.tup [],⟨hq z [],M⟩)):=by
 have hmx:=mW hm;obtain⟨g1,g2⟩:=eR hm;have hmm:i.many<=8:=by grind [aG.many]
 have hgl:i.groups.length<=8:=by have:=kU (λn hn=>(g1 n hn).1);omega
 have hlc:∀l∈P.full,l.length<=1000:=λl hl=>by
  rcases afq (hf.2 l hl) with h|h<;>grind
 have hfl:=hf.1;have c0:((0:Nat):Int)=0:=rfl;have h:=aAf i hi.len H H2 hY hg2 hg3 ho hhi i.max ⟨hmx.1,hmo⟩ o_ hlc (λn hn=>(g1 n hn).1) [] P.full i.groups 0 0 N s rfl rfl hfl hf.2 o_ hN u_;rw[c0]at h;rw[bC aaE abl rfl];rcases h with ⟨s2,M,hM,e1,e2,e3⟩|⟨z,M,hM,e1,e3⟩
 .refine .inl ⟨s2,M,hM,e1,e2,?_⟩;simp(disch:=omega)[hg1,e3]
 .refine .inr ⟨z,M,hM,e1,?_⟩;simp(disch:=omega)[hg1,e3]
def YY (r:Nat)(hr:r<=11)(i:aG)(y:D)(H:ak)(N:Nat)(hL:Lt H N):(Dn prog).call SO [A_ r,.agg i.cells,.d y] ⟨H,N⟩=some (.fn mg [] [.ptr (N+1) 0,.ptr N 0,.ptr (N+1+1) 0],⟨H++[(N,.cells i.cells)]++[(N+1,.cells [.d y])]++[(N+1+1,.cells [.own false 1 (aS (offs r i.short))])],N+1+1+1⟩):=by
 have hof:=JM r i.short;rw[ac o_]at hof;have L1:=aoL (o:=.cells i.cells) hL;have L2:=aoL (o:=.cells [.d y]) L1;have e1:=λo=>Nn (o:=o) hL
 have e2:=λo=>Nn (o:=o) L1
 have e3:=λo=>Nn (o:=o) L2
 have e4:=auy (N:=N+1) (o:=.cells [.d y]) (Ui (o:=.cells i.cells) hL);have e5:=λo=>Ui (o:=o) L2
 have e6:=λo o'=>aal (o:=o) (o':=o') L2
 have hsh:i.short=decide (i.seq=2):=rfl;rw[bC afv agW rfl];simp only[aG.cells]at e1 e2 e3 e4 e5 e6⊢;by_cases hs2:i.seq=2
 .rw[dT_ hs2]at hsh;rw[hsh]at hof⊢;simp(disch:=omega)[↓ac,hof,e1,e2,e3,e4,e5,e6,-List.append_assoc]
 .rw[dF_ hs2]at hsh;rw[hsh]at hof⊢;simp(disch:=omega)[↓aa,hof,e1,e2,e3,e4,e5,e6,-List.append_assoc]
abbrev axR:D_:=[A_ 0,A_ 0,.nl,.nl]
abbrev lH (id:Nat):D_:=[A_ id,A_ (cA id),.own false 1 (aS (bV id)),.own false 1 (aS (dl id))]
def PV (C:D_):Prop:=C.length=48∧∀id,id<12->sub C (4*id) 4=axR∨(1<=id∧sub C (4*id) 4=lH id)
theorem Xk {α:Type}{C:List α}{a k:Nat}(hk:k<4):(sub C a 4)[k]?=C[a+k]?:=by
 simp_all
def RG {α:Type}{C W:List α}{a:Nat}(hw:W.length=4)(ha:a+4<=C.length):sub (aF C a W) a 4=W:=by
 grind [sub,aF,List.drop_eq_nil_of_le]
def adu {α:Type}{C W:List α}{a b:Nat}(hw:W.length=4)(ha:a+4<=C.length)(hb:b+4<=C.length)(h:b+4<=a∨a+4<=b):sub (aF C a W) b 4=sub C b 4:=by
 apply dZ
 grind [Xk,aF,sub]
def ajn {α:Type}{C W:List α}{a:Nat}(hw:W.length=4)(ha:a+4<=C.length):(aF C a W).length=C.length:=by
 grind [aF]
def asi {C W:D_}{a:Nat}(ha:a+4<=C.length)(h:sub C a 4=W):aF C a W=C:=by
 subst h
 grind [aF,sub,List.take_append_drop]
def aof {C:D_}(h:PV C){id:Nat}(hid:1<=id∧id<=11):PV (aF C (4*id) (lH id)):=by
 refine⟨by rw[ajn rfl (by rw[h.1];omega)];exact h.1,λj hj=>?_⟩;by_cases e:j=id
 .subst e;exact .inr ⟨hid.1,RG rfl (by rw[h.1];omega)⟩
 .rw[adu rfl (by rw[h.1];omega) (by rw[h.1];omega) o_];exact h.2 j hj
structure Bk (hp:D_->ak->ak)(A N:Nat):Prop where
 gA:∀C T,get (hp C T) A=some (.cells C)
 pA:∀C T C',put (hp C T) A (.cells C')=hp C' T
 pN:∀C o,put (hp C []) N o=hp C [(N,o)]
 pN2:∀C o o',put (hp C [(N,o)]) N o'=hp C [(N,o')]
 gN:∀C o,get (hp C [(N,o)]) N=some o
 dN:∀C o,del (hp C [(N,o)]) N=hp C []
def abA {hp:D_->ak->ak}{A N:Nat}(H:Bk hp A N)(C:D_)(hC:PV C)(id:Nat)(hid:1<=id∧id<=11):(Dn prog).call xn [.ptr A 0,A_ id] ⟨hp C [],N⟩=some (nb id,⟨hp (aF C (4*id) (lH id)) [],N+1⟩):=by
 have hb:=afT id o_;have h48:=hC.1;have hia:∀p,K0 12 4 (.ptr p 0) (A_ id)=some (.ptr p (4*id)):=λp=>by
  grind [ZZ,K0,gX,TQ]
 rw[bC XO XD rfl];rcases hC.2 id o_ with h0|⟨_,h1⟩
 .have e0:C[4*id]?=some (A_ 0):=by rw[<-cS (4*id),<-Xk o_,h0];rfl
  obtain⟨hl0,e0⟩:=bJ.1 e0;have hsm:=RG (C:=C) (W:=lH id) (a:=4*id) rfl o_;have hsl:=ajn (C:=C) (W:=lH id) (a:=4*id) rfl o_;simp(disch:=omega)[↓ac,H.gA,H.pA,H.pN,H.pN2,H.gN,H.dN,hia,e0,hb,-aF,-sub,-N9,-ami,hsm,hsl];simp
 .have e0:C[4*id]?=some (A_ id):=by rw[<-cS (4*id),<-Xk o_,h1];rfl
  obtain⟨hl0,e0⟩:=bJ.1 e0;rw[asi o_ h1];simp(disch:=omega)[↓ac,↓aa,H.gA,H.pN,H.pN2,H.gN,H.dN,hia,e0,-aF,-sub,-N9,-ami,h1];simp
def aaC (l:AC_)(hl:l.length<=100000)(h:ak)(N:Nat):(Dn prog).call Co [.d (.lst (jD l))] ⟨h,N⟩=some (B_ (decide (0<l.length)),⟨h,N⟩):=by
 rw[bC WQ Wo rfl];by_cases h0:0<l.length
 .rw[dT_ h0];simp(disch:=omega)[↓ac]
 .rw[dF_ h0];simp(disch:=omega)[↓aa]
def Yv (F:AV)(P:AC_->Bool)(l:N_)(hl:l.length<=1000000000)(h:ak)(N:Nat)(hF:firm (share F)=F)(hc:∀v∈l,dD (Dn prog) F [.d (.lst (jD v))] ⟨h,N⟩=some (B_ (P v),⟨h,N⟩)):∀(r:N_) (i:Nat),l.drop i=r->
  (r.any P=true∧∃k:Nat,(Dn prog).code (.loop fu) ⟨[(0,.d (.lst (bv l))),(1,F),(7,A_ l.length),(8,A_ i)],⟨h,N⟩⟩=some (.ret,⟨[(4,A_ k)],⟨h,N⟩⟩))∨
  (r.any P=false∧(Dn prog).code (.loop fu) ⟨[(0,.d (.lst (bv l))),(1,F),(7,A_ l.length),(8,A_ i)],⟨h,N⟩⟩=some (.exit 0,⟨[],⟨h,N⟩⟩)):=by
 intro r
 induction r with
 |nil =>
  intro i hd;have hi:=eD hd;refine .inr ⟨rfl,?_⟩;rw[ah gY];simp(disch:=omega)[↓aa]
 |cons v r ih =>
  intro i hd;have hg:=Te hd;have hlt:=ed hd;have hv:=hc v (by rw[<-b8 i l,hd];simp);have h5:=ih (i+1) (dU hd)
  cases hp:P v with
  |true =>
   rw[hp]at hv;refine .inl ⟨u_,i,?_⟩;rw[ah gY];simp(disch:=omega)[↓ac,hg,hF,hv]
  |false =>
   rw[hp]at hv;rw[AG,hp,Bool.false_or];rcases h5 with ⟨e1,k,e2⟩|⟨e1,e2⟩
   .refine .inl ⟨e1,k,?_⟩;rw[ah gY,<-e2];simp(disch:=omega)[↓ac,hg,hF,hv]
   .refine .inr ⟨e1,?_⟩;rw[ah gY,<-e2];simp(disch:=omega)[↓ac,hg,hF,hv]
def Zt (F:AV)(P:AC_->Bool)(l:N_)(hl:l.length<=1000000000)(h:ak)(N:Nat)(hF:firm (share F)=F)(hF2:firm F=F)(hc:∀v∈l,dD (Dn prog) F [.d (.lst (jD v))] ⟨h,N⟩=some (B_ (P v),⟨h,N⟩)) :
  (Dn prog).call rJ [.d (.lst (bv l)),F] ⟨h,N⟩=some (B_ (l.any P),⟨h,N⟩):=by
 have h1:=Yv F P l hl h N hF hc l 0 rfl;have c0:((0:Nat):Int)=0:=rfl;rw[c0]at h1;have h2:∃k:Int,(0<=k↔l.any P=true)∧(Dn prog).call uI [.d (.lst (bv l)),F] ⟨h,N⟩=some (A_ k,⟨h,N⟩):=by
  rcases h1 with ⟨e1,k,e2⟩|⟨e1,e2⟩
  .refine⟨k,⟨λ_=>e1,λ_=>by omega⟩,?_⟩;rw[bC uC uG rfl];simp(disch:=omega)[e2]
  .refine⟨-1,⟨λh=>by omega,λh=>by simp_all⟩,?_⟩;rw[bC uC uG rfl];simp(disch:=omega)[e2]
 obtain⟨k,e1,e2⟩:=h2;rw[bC DB Ew rfl]
 cases hp:l.any P with
 |true =>
  have:=e1.2 hp;simp(disch:=omega)[↓ac,hF2,e2]
 |false =>
  have:¬0<=k:=λh=>by simp_all
  simp(disch:=omega)[↓aa,hF2,e2]
def kF (t:N_):Bool:=t.any λl=>decide (0<l.length)
def agB (t:N_)(ht:t.length<=100000)(ht2:∀l∈t,l.length<=100000):bn prog MG [.d (.lst (bv t))]=some (B_ (kF t)):=by
 have h:=Zt (.fn Co [] []) (λl=>decide (0<l.length)) t o_ [] 0 rfl rfl λv hv=>by
  simp_all [aaC]
 rw[aL aaw aak rfl];unfold kF;simp(disch:=omega)[h]
def amv (b:C_)(hb:b.length<=1000000000)(a:Int)(ha:i64 a)(i:aG):bn prog Do [.d (.lst (ax b)),A_ a,.agg i.cells] =
  rK (pTn b i) (Cl b i a) (λt n=>some (.tup [al 1 (bv t),A_ n,A_ 0])) (λe=>some (.tup [.nl,A_ 0,A_ (e+1)])):=by
 obtain⟨m1,m8⟩:=km i;have hfi:=Sy i;obtain⟨M,x',O,hM,hx',hL⟩:=ar8 b hb i i.many 0 2 false ⟨a,0⟩ a [] o_ rfl (ai _) ha (λ_=>rfl);have c0:((0:Nat):Int)=0:=rfl;have n0:bv []=[]:=rfl;have hre:re ⟨a,0⟩=0:=rfl;have hq0:kC b (ew i.short) (bT i.short) (cf i.short) i.many false ⟨a,0⟩=LL b i a:=rfl;rw[hq0]at hL;simp only[c0,n0,dH,az,nS,uQ,hre]at hL;have hp:=λt n=>MY (b:=b) (i:=i) (a:=a) (t:=t) (n:=n) hb ha
 have hin0:∀t o st,LL b i a=some (t,o,st)->st.inB b:=λt o st h=>Tz (.inr ⟨rfl,m1⟩) h
 rw[Cl]at hp⊢;rw[aL OU N8 rfl];simp only[aG.cells]at hL hfi⊢;generalize ew i.short=X0 at *;generalize bT i.short=X1 at *;generalize cf i.short=X2 at *
 cases hq:LL b i a with
 |none =>
  rw[hq]at hL;simp only at hL⊢;rw[ee];simp(maxSteps:=9^6)(disch:=omega)[↓ac,↓aa,hfi,hL]
 |some q =>
  obtain⟨t,o,st⟩:=q;rw[hq]at hL hp;simp only at hL hp⊢;have hin:=hin0 t o st hq;obtain⟨sa,se⟩:=st;by_cases he:se=0
  .subst he;obtain⟨k1,k2⟩:=hin;simp only at k1 k2;obtain⟨A,rfl⟩:=ay k1;obtain⟨rfl,hL⟩:=hL.1 rfl;have hre2:re ⟨(A:Int),0⟩=0:=rfl;simp only[hre2,c0]at hL
   cases o with
   |true =>
    simp only[ne_eq,not_true_eq_false,bS,bR]at hp⊢;rw[ee];simp(maxSteps:=9^6)(disch:=omega)[↓ac,↓aa,hfi,hL]
   |false =>
    simp only[ne_eq,not_true_eq_false,bS,aq]at hp⊢;have hpt:=hp t _ rfl;have htn:t≠[]:=λh=>by rw[h]at hpt;have:=hpt.1;simp at this;omega
    rw[b9 hpt];have hrt:=λh n e=>af7 (h:=h) (n:=n) (e:=e) htn
    simp(maxSteps:=9^6)(disch:=omega)[↓ac,↓aa,hfi,hL,-yF,hrt]
  .have hre2:re ⟨sa,se⟩=se:=rfl;have hse:((se-1:Nat):Int)+1=(se:Int):=o_;have hL:=hL.2 he;simp only[hre2]at hL;simp only[ne_eq,he,not_false_eq_true,bR]at hp⊢;rw[ee,hse];rcases hL with hL|⟨V,B,hL⟩
   .simp(maxSteps:=9^6)(disch:=omega)[↓ac,↓aa,hfi,hL,he]
   .simp(maxSteps:=9^6)(disch:=omega)[↓ac,↓aa,hfi,hL,he]
def arW {t:N_}{j:Nat}{l:AC_}(h:t[j]?=some l):(bv t)[j]?=some [.lst (jD l)]:=by
 simp[bv,h]
def amn (t:N_)(ht:t.length<=100000)(ht2:∀l∈t,l.length<=100000)(N:Nat):∀(r:N_) (j:Nat),t.drop j=r->
  (Dn prog).code (.loop mp) ⟨[(0,.d (.lst (bv t))),(3,A_ j)],⟨[],N⟩⟩ =
  if kF r=true then some (.ret,⟨[(2,B_ true)],⟨[],N⟩⟩) else some (.exit 0,⟨[],⟨[],N⟩⟩):=by
 intro r;have hla:=KH (t:=t)
 induction r with
 |nil =>
  intro j hj;have hjl:t.length<=j:=aU.1 hj;rw[aa (by simp[kF]),ah AX];simp(maxSteps:=9^6)(disch:=omega)[↓ac,↓aa,hla]
 |cons c r ih =>
  intro j hj;have hjl:j<t.length:=by
   rcases bD j t.length with h|h
   .exact h
   .rw[aU.2 h]at hj;exact absurd hj (by simp)
  have hlj:t[j]?=some c:=by
   have:=aY (λl=>l[0]?) hj;simpa [bx] using this
  have hn:t.drop (j+1)=r:=by rw[<-cW,hj];rfl
  have h5:=ih (j+1) hn;have c1:((j+1:Nat):Int)=(j:Int)+1:=rfl;rw[c1]at h5;have hg:=arW hlj;have hc:=ht2 c (by rw[<-b8 j t,hj];simp);have hcl:=Wy (l:=c);rw[ah AX];by_cases h0:c.length=0
  .have e:kF (c::r)=kF r:=by simp[kF,h0]
   rw[e,<-h5];simp(maxSteps:=9^6)(disch:=omega)[↓ac,↓aa,-getElem?_pos,hla,hg,hcl,h0]
  .have e:kF (c::r)=true:=by simp[kF];left;omega
   rw[ac e];simp(maxSteps:=9^6)(disch:=omega)[↓ac,↓aa,-getElem?_pos,hla,hg,hcl]
def aoM (t:N_)(ht:t.length<=100000)(ht2:∀l∈t,l.length<=100000):bn prog EN [.d (.lst (bv t))]=some (B_ (kF t)):=by
 have h:=amn t ht ht2 0 t 0 rfl;have c0:((0:Nat):Int)=0:=rfl;rw[c0]at h;rw[aL Rw Q9 rfl]
 cases ha:kF t with
 |true =>
  rw[ac ha]at h;simp(maxSteps:=9^6)(disch:=omega)[↓ac,↓aa,h]
 |false =>
  rw[aa (by rw[ha];simp)]at h;simp(maxSteps:=9^6)(disch:=omega)[↓ac,↓aa,h]
def aiR (k:Nat)(hk:k<=100):bn prog CO [A_ k]=some (B_ (decide (0<k∧k<12))):=by
 rw[aL MM ME rfl];by_cases h1:0<k
 .by_cases h2:k<12
  .rw[dT_ ⟨h1,h2⟩];simp(maxSteps:=9^6)(disch:=omega)[↓ac,↓aa]
  .rw[dF_ (λh=>h2 h.2)];simp(maxSteps:=9^6)(disch:=omega)[↓ac,↓aa]
 .rw[dF_ (λh=>h1 h.1)];simp(maxSteps:=9^6)(disch:=omega)[↓ac,↓aa]
def Jj (b:C_)(i:aG)(a:Int):R (N_×Nat×Nat×Nat) :=
 (aE b a 1).bind λo n=>(aE b n 1).bind λs n=>(if s=1 then Cl b i n else R.ok (List.replicate i.many []) n).bind λF n=>(aE b n 1).bind λp n=>R.ok (F,o,s,p) n
def AI (F:N_)(o s p:Nat):Nat:=(if s=1∧kF F=false then 1 else o)+p
abbrev aaY (x:R (N_×Nat×Nat×Nat)):L_:=match x with
 |.ok (F,o,s,p) n=>some (.tup [al 1 (bv F),A_ (AI F o s p:Nat),A_ n,A_ 0])
 |.er e=>some (.tup [.nl,A_ 0,A_ 0,A_ (e+1)])
def GI {b:C_}{a s:Int}(hb:b.length<=1000000000)(ha:i64 a){v n:Nat}(h:aE b a s=.ok v n):bn prog eU [.d (.lst (ax b)),A_ a,A_ s]=some (.tup [A_ v,A_ n,A_ 0]):=by
 rw[jg b a s hb ha,h,b9 (cu h)]
def Nl {b:C_}{a s:Int}(hb:b.length<=1000000000)(ha:i64 a){e:Nat}(h:aE b a s=.er e):bn prog eU [.d (.lst (ax b)),A_ a,A_ s]=some (.tup [A_ 0,A_ 0,A_ (e+1)]):=by
 rw[jg b a s hb ha,h,ee]
def abF {h:ak}{t:N_}{o n e:Int}:eY h (.tup [al 1 (bv t),A_ o,A_ n,A_ e])=some (.tup [al 1 (bv t),A_ o,A_ n,A_ e]):=by
 cases t with
 |nil=>rfl
 |cons x r=>rfl
def anw {n:Nat}:bv (List.replicate n [])=List.replicate n [.lst []]:=by simp[bv,jD]
def ahZ (b:C_)(hb:b.length<=1000000000)(a:Int)(ha:i64 a)(i:aG):bn prog ue [.d (.lst (ax b)),A_ a,.agg i.cells]=aaY (Jj b i a):=by
 have hmany:=XB i;obtain⟨m1,m8⟩:=km i;rw[aL MP MX rfl];unfold Jj
 cases e1:aE b a 1 with
 |er e =>
  have h1:=Nl hb ha e1;simp only[aQ];simp(maxSteps:=9^6)(disch:=omega)[↓ac,↓aa,h1,aG.cells]
 |ok o n1 =>
 have p1:=cu e1;have h1:=GI hb ha e1;have j1:i64 (n1:Int):=by have:=p1.2;omega
 rw[ao]
 cases e2:aE b n1 1 with
 |er e =>
  have h2:=Nl hb j1 e2;simp only[aQ];simp(maxSteps:=9^6)(disch:=omega)[↓ac,↓aa,h1,h2,aG.cells]
 |ok s n2 =>
 have p2:=cu e2;have h2:=GI hb j1 e2;have j2:i64 (n2:Int):=by have:=p2.2;omega
 have l1:o<2:=p1.1;have l2:s<2:=p2.1;rw[ao];have hc0:((0:Nat):Int)=0:=rfl;have hc1:((1:Nat):Int)=1:=rfl;have hmk:=yW (z:=[.lst []]) (n:=i.many) o_;by_cases hs:s=1
 .subst hs;rw[ac rfl];have hT:=amv b hb n2 j2 i
  cases e3:Cl b i n2 with
  |er e =>
   rw[e3,ee]at hT;simp only[aQ];simp only[aG.cells,hc1]at *;generalize i.many=W at *;simp(maxSteps:=9^6)(disch:=omega)[↓ac,↓aa,h1,h2,hT,hmany,hmk]
  |ok F n3 =>
  have p3:=MY hb j2 e3;rw[e3,b9 p3]at hT;have j3:i64 (n3:Int):=by have:=p3.2.1;omega
  have hA:=aoM F (by have:=p3.1;omega) (λl hl=>by have:=(p3.2.2 l hl).1;omega);have hFn:F≠[]:=λh=>by rw[h]at p3;have:=p3.1;simp at this;omega
  have hsh:share (al 1 (bv F))=.d (.lst (bv F)):=Mw (by cases F with|nil=>exact absurd rfl hFn|cons x r=>simp[bv]);rw[ao]
  cases e4:aE b n3 1 with
  |er e =>
   have h4:=Nl hb j3 e4;simp only[aQ];simp only[aG.cells,hc1]at *;generalize i.many=W at *
   cases hAF:kF F<;>simp(maxSteps:=9^6)(disch:=omega)[↓ac,↓aa,h1,h2,hT,hmany,hmk,hA,hAF,hsh,h4]
  |ok p n4 =>
  have p4:=cu e4;have l4:p<2:=p4.1;have h4:=GI hb j3 e4;rw[ao];simp only[aG.cells,hc1]at *;generalize i.many=W at *
  cases hAF:kF F with
  |false =>
   have ho:((AI F o 1 p:Nat):Int)=1+(p:Int):=by simp[AI,hAF]
   rw[hAF]at hA;simp only[aaY,ho];simp(maxSteps:=9^6)(disch:=omega)[↓ac,↓aa,h1,h2,hT,hmany,hmk,hA,hsh,h4,-yF,abF]
  |true =>
   have ho:((AI F o 1 p:Nat):Int)=(o:Int)+(p:Int):=by simp[AI,hAF]
   rw[hAF]at hA;simp only[aaY,ho];simp(maxSteps:=9^6)(disch:=omega)[↓ac,↓aa,h1,h2,hT,hmany,hmk,hA,hsh,h4,-yF,abF]
 .have hs0:s=0:=o_;subst hs0;rw[aa o_,ao]
  cases e4:aE b n2 1 with
  |er e =>
   have h4:=Nl hb j2 e4;simp only[aQ];simp only[aG.cells,hc0]at *;generalize i.many=W at *;simp(maxSteps:=9^6)(disch:=omega)[↓ac,↓aa,h1,h2,hmany,hmk,h4]
  |ok p n4 =>
  have p4:=cu e4;have l4:p<2:=p4.1;have h4:=GI hb j2 e4;rw[ao];have ho:((AI (List.replicate i.many []) o 0 p:Nat):Int)=(o:Int)+(p:Int):=by simp[AI]
  simp only[aaY,ho];have hsh:al 1 (bv (List.replicate i.many []))=.own false 1 (List.replicate i.many [.lst []]):=by
   rw[anw];exact fX (λh=>by rw[List.replicate_eq_nil_iff]at h;omega)
  rw[hsh];simp only[aG.cells,hc0]at *;generalize i.many=W at *;simp(maxSteps:=9^6)(disch:=omega)[↓ac,↓aa,h1,h2,hmany,hmk,h4]
structure Hr (hp:D_->ak)(p:Nat):Prop where
 get:∀c,get (hp c) p=some (.cells c)
 put:∀c d,put (hp c) p (.cells d)=hp d
abbrev aX (b:C_)(s:Nat×Nat):D_:=[.own false 1 (ax b),A_ s.1,A_ s.2]
def gT (b:C_)(s:Nat×Nat)(k:Int):Nat×Nat×Nat :=
 if s.2=0 then match aE b s.1 k with
  |.ok v n=>(v,n,0)
  |.er e=>(0,s.1,e+1)
 else (0,s)
def kT (s:Nat×Nat)(c:Prop)[Decidable c]:Nat×Nat:=if s.2=0∧¬c then (s.1,8) else s
def gp {hp:D_->ak}{p:Nat}(H:Hr hp p)(b:C_)(hb:b.length<=1000000000)(s:Nat×Nat)(hs:s.1<=b.length)(k:Int)(N:Nat) :
  (Dn prog).call jL [.ptr p 0,A_ k] ⟨hp (aX b s),N⟩=some (A_ ((gT b s k).1),⟨hp (aX b (gT b s k).2),N⟩):=by
 obtain⟨a,e⟩:=s;have h:=io b a k hb (by simp only at hs;omega);rw[bC WJ WS rfl];unfold gT;simp only[aX];by_cases he:e=0
 .subst he
  cases hg:aE b a k with
  |ok v n =>
   rw[hg,b9 (cu hg)]at h;simp(maxSteps:=9^6)(disch:=omega)[↓ac,↓aa,H.get,H.put,h]
  |er e =>
   rw[hg,ee]at h;simp(maxSteps:=9^6)(disch:=omega)[↓ac,↓aa,H.get,H.put,h]
 .simp(maxSteps:=9^6)(disch:=omega)[↓ac,↓aa,H.get,H.put,he]
def nq {hp:D_->ak}{p:Nat}(H:Hr hp p)(b:C_)(s:Nat×Nat)(c:Prop)[Decidable c](N:Nat) :
  (Dn prog).call l8 [.ptr p 0,B_ (decide c)] ⟨hp (aX b s),N⟩=some (.tup [],⟨hp (aX b (kT s c)),N⟩):=by
 obtain⟨a,e⟩:=s;rw[bC Ws Wm rfl];unfold kT;simp only[aX];by_cases hc:c
 .simp(maxSteps:=9^6)(disch:=omega)[↓ac,↓aa,H.get,H.put,hc]
 .by_cases he:e=0
  .subst he;simp(maxSteps:=9^6)(disch:=omega)[↓ac,↓aa,H.get,H.put,hc]
  .simp(maxSteps:=9^6)(disch:=omega)[↓ac,↓aa,H.get,H.put,hc,he]
def jU {b:C_}{s:Nat×Nat}{k:Int}(h:s.1<=b.length):(gT b s k).2.1<=b.length:=by
 unfold gT;split
 .split
  .rename_i v n hg;exact(cu hg).2
  .exact h
 .exact h
def yE {b:C_}{s:Nat×Nat}{c:Prop}[Decidable c](h:s.1<=b.length):(kT s c).1<=b.length:=by
 unfold kT;split<;>exact h
def Hv {b:C_}{s:Nat×Nat}{k:Int}(h0:0<=k):(gT b s k).1<2 ^ k.toNat:=by
 have:=df k.toNat;unfold gT;split
 .split
  .rename_i v n hg;exact(cu hg).1
  .exact this
 .exact this
abbrev aB:=@Nat.succ_ne_zero
def jr (b:C_):Nat->Nat->R C_
 |0,a=>.ok [] a
 |k+1,a=>(aE b a 8).bind λx n=>(jr b k n).bind λl m=>.ok (x::l) m
def uN (b:C_)(a:Nat):R C_ :=
 (aE b a 3).bind λx n=>if x=6 then (aE b n 4).bind λk m=>if k=0 then .er 7 else
  (if k=15 then (aE b m 8).bind λy m2=>if y=0 then .er 7 else .ok (y+14) m2 else .ok k m).bind λk m =>
  (jr b k m).bind λl m=>(aE b m 3).bind λz m=>if z=7 then .ok l m else .er 7
 else if x=7 then .ok [] n else .er 7
def Lk {α:Type}(r:R α)(P:α->Prop)(s:Nat×Nat):Prop:=match r with
 |.ok v n=>P v∧s=(n,0)
 |.er e=>s.2=e+1
def ef {b:C_}{a v n:Nat}{k:Int}(h:aE b a k=.ok v n):gT b (a,0) k=(v,n,0):=by
 unfold gT;simp only[h,bR]
def lx {b:C_}{a e:Nat}{k:Int}(h:aE b a k=.er e):gT b (a,0) k=(0,a,e+1):=by
 unfold gT;simp only[h,bR]
def lZ {b:C_}{s:Nat×Nat}{k:Int}(h:s.2≠0):gT b s k=(0,s):=by
 unfold gT;rw[aa h]
def qf {s:Nat×Nat}{c:Prop}[Decidable c](h:c):kT s c=s:=by unfold kT;rw[aa (λh2=>h2.2 h)]
def xu {a:Nat}{c:Prop}[Decidable c](h:¬c):kT (a,0) c=(a,8):=by unfold kT;rw[ac ⟨rfl,h⟩]
def fm {s:Nat×Nat}{c:Prop}[Decidable c](h:s.2≠0):kT s c=s:=by unfold kT;rw[aa (λh2=>h h2.1)]
section
variable {hp:D_->ak}{p:Nat}(H:Hr hp p)(b:C_)(hb:b.length<=1000000000)
include H hb
theorem U4 (s:Nat×Nat)(hs:s.2≠0)(x:AV)(n i:Int)(hi:i<n)(N:Nat) :
  (Dn prog).code (.loop dg) ⟨[(0,.ptr p 0),(2,x),(27,A_ n),(28,A_ i)],⟨hp (aX b s),N⟩⟩ =
  some (.ret,⟨[(2,.nl),(3,A_ 0)],⟨hp (aX b s),N⟩⟩):=by
 obtain⟨a,e⟩:=s;simp only at hs;rw[ah rZ];simp only[aX];simp(maxSteps:=9^6)(disch:=omega)[↓ac,↓aa,H.get,H.put,hs]
theorem aij (s:Nat×Nat)(hs:s.2=0)(ha:s.1<=b.length)(l:C_)(hl:l.length<=1000)(n i:Int)(hi:i<n)(hn:n<=1000)(h0:0<=i)(N:Nat) :
  (Dn prog).code (.loop dg) ⟨[(0,.ptr p 0),(2,al 1 (ax l)),(27,A_ n),(28,A_ i)],⟨hp (aX b s),N⟩⟩ =
  (Dn prog).code (.loop dg) ⟨[(0,.ptr p 0),(2,al 1 (ax (l++[(gT b s 8).1]))),(27,A_ n),(28,A_ (i+1))],⟨hp (aX b (gT b s 8).2),N⟩⟩:=by
 have h1:=gp H b hb s ha 8 N;have h2:(gT b s 8).1<2 ^ 8:=Hv (k:=8) o_;have hl2:(ax l).length=l.length:=by simp[ax]
 obtain⟨a,e⟩:=s;simp only at hs ha;subst hs;generalize gT b (a,0) 8=g at *;obtain⟨x,s'⟩:=g;simp only at h1 h2⊢;rw[ah rZ];have c0:((0:Nat):Int)=0:=rfl;have e:al 1 (ax (l++[x]))=.own false 1 (ax (l++[x])):=fX (by simp[ax]);simp only[aX,c0]at h1⊢;rw[e]
 cases l with
 |nil =>
  simp(maxSteps:=9^6)(disch:=omega)[↓ac,↓aa,H.get,H.put,h1]
 |cons y r =>
  simp(maxSteps:=9^6)(disch:=omega)[↓ac,↓aa,H.get,H.put,h1]
theorem L6 (s:Nat×Nat)(x:AV)(n:Int)(N:Nat) :
  (Dn prog).code (.loop dg) ⟨[(0,.ptr p 0),(2,x),(27,A_ n),(28,A_ n)],⟨hp (aX b s),N⟩⟩ =
  some (.exit 3,⟨[(0,.ptr p 0),(2,x)],⟨hp (aX b s),N⟩⟩):=by
 rw[ah rZ];simp(maxSteps:=9^6)(disch:=omega)[↓ac,↓aa]
theorem ahu (n:Nat)(hn:n<=1000)(N:Nat):∀(k i a:Nat) (l:C_),i+k=n->a<=b.length->l.length=i->
  ∃(s:Nat×Nat) (w:C_),s.1<=b.length∧Lk (jr b k a) (λr=>w=l++r) s∧
  ((Dn prog).code (.loop dg) ⟨[(0,.ptr p 0),(2,al 1 (ax l)),(27,A_ n),(28,A_ i)],⟨hp (aX b (a,0)),N⟩⟩=some (.exit 3,⟨[(0,.ptr p 0),(2,al 1 (ax w))],⟨hp (aX b s),N⟩⟩)∨
   s.2≠0∧(Dn prog).code (.loop dg) ⟨[(0,.ptr p 0),(2,al 1 (ax l)),(27,A_ n),(28,A_ i)],⟨hp (aX b (a,0)),N⟩⟩=some (.ret,⟨[(2,.nl),(3,A_ 0)],⟨hp (aX b s),N⟩⟩)):=by
 intro k
 induction k with
 |zero =>
  intro i a l hi ha hl;have:i=n:=o_;subst this;exact⟨(a,0),l,ha,⟨s_,rfl⟩,.inl (L6 H b hb _ _ _ N)⟩
 |succ k ih =>
  intro i a l hi ha hl;have hs:=aij H b hb (a,0) rfl ha l o_ n i o_ o_ o_ N;rw[jr]
  cases e:aE b a 8 with
  |ok x m =>
   rw[ef e]at hs;obtain⟨s,w,h1,h2,h3⟩:=ih (i+1) m (l++[x]) o_ (cu e).2 t_;refine⟨s,w,h1,?_,?_⟩
   .rw[ao]
    cases e2:jr b k m with
    |ok r q=>rw[e2]at h2;exact⟨by rw[h2.1,aw];rfl,h2.2⟩
    |er q=>rw[e2]at h2;exact h2
   .rw[hs];exact h3
  |er e0 =>
   rw[lx e]at hs;refine⟨(a,e0+1),l++[0],ha,rfl,?_⟩;rw[hs];by_cases hk:k=0
   .have:((i:Int)+1)=n:=o_;rw[this];exact .inl (L6 H b hb _ _ _ N)
   .exact .inr ⟨aB _,U4 H b hb _ (aB _) _ _ _ o_ N⟩
end
section
variable {hp:D_->ak}{p:Nat}(H:Hr hp p)(b:C_)(hb:b.length<=1000000000)
include H hb
abbrev HG (hp:D_->ak)(p:Nat)(b:C_)(a:Nat)(N:Nat)(w:C_)(x:Int)(s:Nat×Nat):Prop :=
 (Dn prog).call w8 [.ptr p 0] ⟨hp (aX b (a,0)),N⟩=some (.tup [al 1 (ax w),A_ x],⟨hp (aX b s),N⟩)
theorem abM (a:Nat)(ha:a<=b.length)(N:Nat)(h6:(gT b (a,0) 3).1≠6):HG hp p b a N [] (gT b (a,0) 3).1 (kT (gT b (a,0) 3).2 (((gT b (a,0) 3).1:Int)=7)):=by
 have h1:=gp H b hb (a,0) ha 3 N;have h2:=nq H b (gT b (a,0) 3).2 (((gT b (a,0) 3).1:Int)=7) N;have e:al 1 (ax [])=.nl:=rfl;have c0:((0:Nat):Int)=0:=rfl;unfold HG;generalize gT b (a,0) 3=g at *;obtain⟨x,s⟩:=g;simp only at h1 h2 h6⊢;generalize kT s ((x:Int)=7)=s2 at *;rw[bC lU lT rfl,e];simp only[aX,c0]at h1 h2⊢;by_cases h7:(x:Int)=7
 .rw[dT_ h7]at h2;simp(maxSteps:=9^6)(disch:=omega)[↓ac,↓aa,h1,h2]
 .rw[dF_ h7]at h2;simp(maxSteps:=9^6)(disch:=omega)[↓ac,↓aa,h1,h2]
abbrev sA (b:C_)(a:Nat):Nat×Nat:=(gT b (a,0) 3).2
abbrev vB (b:C_)(a:Nat):Nat:=(gT b (sA b a) 4).1
abbrev sB (b:C_)(a:Nat):Nat×Nat:=kT (gT b (sA b a) 4).2 ((0:Int)<(vB b a:Int))
abbrev vC (b:C_)(a:Nat):Nat:=(gT b (sB b a) 8).1
abbrev sC (b:C_)(a:Nat):Nat×Nat:=kT (gT b (sB b a) 8).2 ((0:Int)<(vC b a:Int))
abbrev TH (hp:D_->ak)(p:Nat)(b:C_)(N:Nat)(n:Int)(s0:Nat×Nat)(s:Nat×Nat)(w:C_):Prop :=
 (Dn prog).code (.loop dg) ⟨[(0,.ptr p 0),(2,.nl),(27,A_ n),(28,A_ 0)],⟨hp (aX b s0),N⟩⟩=some (.exit 3,⟨[(0,.ptr p 0),(2,al 1 (ax w))],⟨hp (aX b s),N⟩⟩)
abbrev ZD (hp:D_->ak)(p:Nat)(b:C_)(N:Nat)(n:Int)(s0:Nat×Nat)(s:Nat×Nat):Prop :=
 (Dn prog).code (.loop dg) ⟨[(0,.ptr p 0),(2,.nl),(27,A_ n),(28,A_ 0)],⟨hp (aX b s0),N⟩⟩=some (.ret,⟨[(2,.nl),(3,A_ 0)],⟨hp (aX b s),N⟩⟩)
theorem aqU (a:Nat)(ha:a<=b.length)(N:Nat)(h6:(gT b (a,0) 3).1=6)(h15:vB b a≠15)(s:Nat×Nat)(hs:s.1<=b.length)(w:C_)(hl:TH hp p b N (vB b a) (sB b a) s w) :
  HG hp p b a N w (gT b s 3).1 (kT (gT b s 3).2 (((gT b s 3).1:Int)=7)):=by
 have h1:=gp H b hb (a,0) ha 3 N;have hA:(sA b a).1<=b.length:=jU ha;have hB:(sB b a).1<=b.length:=yE (jU hA);have h2:=gp H b hb (sA b a) hA 4 N;have h3:=nq H b (gT b (sA b a) 4).2 ((0:Int)<(vB b a:Int)) N;have hv:vB b a<2 ^ 4:=Hv (k:=4) o_;have h4:=gp H b hb s hs 3 N;have h5:=nq H b (gT b s 3).2 (((gT b s 3).1:Int)=7) N;have c0:((0:Nat):Int)=0:=rfl;have e0:al 1 (ax [])=.nl:=rfl;unfold HG;unfold TH at hl;unfold sB vB sA at *;generalize gT b (a,0) 3=g1 at *;obtain⟨x1,s1⟩:=g1;simp only at *;generalize gT b s1 4=g2 at *;obtain⟨x2,s2⟩:=g2;simp only at *;generalize kT s2 ((0:Int)<(x2:Int))=s3 at *;generalize gT b s 3=g4 at *;obtain⟨x4,s4⟩:=g4;simp only at *;generalize kT s4 ((x4:Int)=7)=s5 at *;subst h6;rw[bC lU lT rfl];have c6:((6:Nat):Int)=6:=rfl;simp only[aX,c0,c6]at h1 h2 h3 h4 h5 hl⊢;by_cases h7:(x4:Int)=7
 .rw[dT_ h7]at h5;by_cases h0:(0:Int)<(x2:Int)
  .rw[dT_ h0]at h3;simp(maxSteps:=9^6)(disch:=omega)[↓ac,↓aa,h1,h2,h3,h4,h5,hl]
  .rw[dF_ h0]at h3;simp(maxSteps:=9^6)(disch:=omega)[↓ac,↓aa,h1,h2,h3,h4,h5,hl]
 .rw[dF_ h7]at h5;by_cases h0:(0:Int)<(x2:Int)
  .rw[dT_ h0]at h3;simp(maxSteps:=9^6)(disch:=omega)[↓ac,↓aa,h1,h2,h3,h4,h5,hl]
  .rw[dF_ h0]at h3;simp(maxSteps:=9^6)(disch:=omega)[↓ac,↓aa,h1,h2,h3,h4,h5,hl]
theorem apQ (a:Nat)(ha:a<=b.length)(N:Nat)(h6:(gT b (a,0) 3).1=6)(h15:vB b a≠15)(s:Nat×Nat)(hl:ZD hp p b N (vB b a) (sB b a) s) :
  HG hp p b a N [] 0 s:=by
 have h1:=gp H b hb (a,0) ha 3 N;have hA:(sA b a).1<=b.length:=jU ha;have hB:(sB b a).1<=b.length:=yE (jU hA);have h2:=gp H b hb (sA b a) hA 4 N;have h3:=nq H b (gT b (sA b a) 4).2 ((0:Int)<(vB b a:Int)) N;have hv:vB b a<2 ^ 4:=Hv (k:=4) o_;have c0:((0:Nat):Int)=0:=rfl;have e0:al 1 (ax [])=.nl:=rfl;unfold HG;unfold ZD at hl;unfold sB vB sA at *;generalize gT b (a,0) 3=g1 at *;obtain⟨x1,s1⟩:=g1;simp only at *;generalize gT b s1 4=g2 at *;obtain⟨x2,s2⟩:=g2;simp only at *;generalize kT s2 ((0:Int)<(x2:Int))=s3 at *;subst h6;rw[bC lU lT rfl];have c6:((6:Nat):Int)=6:=rfl;simp only[aX,c0,c6,e0]at h1 h2 h3 hl⊢;by_cases h0:(0:Int)<(x2:Int)
 .rw[dT_ h0]at h3;simp(maxSteps:=9^6)(disch:=omega)[↓ac,↓aa,h1,h2,h3,hl]
 .rw[dF_ h0]at h3;simp(maxSteps:=9^6)(disch:=omega)[↓ac,↓aa,h1,h2,h3,hl]
theorem amP (a:Nat)(ha:a<=b.length)(N:Nat)(h6:(gT b (a,0) 3).1=6)(h15:vB b a=15)(s:Nat×Nat)(hs:s.1<=b.length)(w:C_)(hl:TH hp p b N ((vC b a+14:Nat):Int) (sC b a) s w) :
  HG hp p b a N w (gT b s 3).1 (kT (gT b s 3).2 (((gT b s 3).1:Int)=7)):=by
 have h1:=gp H b hb (a,0) ha 3 N;have hA:(sA b a).1<=b.length:=jU ha;have hB:(sB b a).1<=b.length:=yE (jU hA);have h2:=gp H b hb (sA b a) hA 4 N;have h3:=nq H b (gT b (sA b a) 4).2 ((0:Int)<(vB b a:Int)) N;have hv:vB b a<2 ^ 4:=Hv (k:=4) o_;have h8:=gp H b hb (sB b a) hB 8 N;have h9:=nq H b (gT b (sB b a) 8).2 ((0:Int)<(vC b a:Int)) N;have hw:vC b a<2 ^ 8:=Hv (k:=8) o_;have h4:=gp H b hb s hs 3 N;have h5:=nq H b (gT b s 3).2 (((gT b s 3).1:Int)=7) N;have c0:((0:Nat):Int)=0:=rfl;have e0:al 1 (ax [])=.nl:=rfl;unfold HG;unfold TH at hl;unfold sC vC sB vB sA at *;generalize gT b (a,0) 3=g1 at *;obtain⟨x1,s1⟩:=g1;simp only at *;generalize gT b s1 4=g2 at *;obtain⟨x2,s2⟩:=g2;simp only at *;generalize kT s2 ((0:Int)<(x2:Int))=s3 at *;generalize gT b s3 8=g3 at *;obtain⟨x3,s6⟩:=g3;simp only at *;generalize kT s6 ((0:Int)<(x3:Int))=s7 at *;generalize gT b s 3=g4 at *;obtain⟨x4,s4⟩:=g4;simp only at *;generalize kT s4 ((x4:Int)=7)=s5 at *;subst h6;subst h15;rw[bC lU lT rfl];have c6:((6:Nat):Int)=6:=rfl;have c15:((15:Nat):Int)=15:=rfl;have c14:((x3+14:Nat):Int)=(x3:Int)+14:=rfl;have h0:(0:Int)<((15:Nat):Int):=o_;rw[dT_ h0]at h3;simp only[aX,c0,c6,c15,c14]at h1 h2 h3 h8 h9 h4 h5 hl⊢;by_cases h7:(x4:Int)=7
 .rw[dT_ h7]at h5;by_cases ha:(0:Int)<(x3:Int)
  .rw[dT_ ha]at h9;simp(maxSteps:=9^6)(disch:=omega)[↓ac,↓aa,h1,h2,h3,h8,h9,h4,h5,hl]
  .rw[dF_ ha]at h9;simp(maxSteps:=9^6)(disch:=omega)[↓ac,↓aa,h1,h2,h3,h8,h9,h4,h5,hl]
 .rw[dF_ h7]at h5;by_cases ha:(0:Int)<(x3:Int)
  .rw[dT_ ha]at h9;simp(maxSteps:=9^6)(disch:=omega)[↓ac,↓aa,h1,h2,h3,h8,h9,h4,h5,hl]
  .rw[dF_ ha]at h9;simp(maxSteps:=9^6)(disch:=omega)[↓ac,↓aa,h1,h2,h3,h8,h9,h4,h5,hl]
theorem akU (a:Nat)(ha:a<=b.length)(N:Nat)(h6:(gT b (a,0) 3).1=6)(h15:vB b a=15)(s:Nat×Nat)(hl:ZD hp p b N ((vC b a+14:Nat):Int) (sC b a) s) :
  HG hp p b a N [] 0 s:=by
 have h1:=gp H b hb (a,0) ha 3 N;have hA:(sA b a).1<=b.length:=jU ha;have hB:(sB b a).1<=b.length:=yE (jU hA);have h2:=gp H b hb (sA b a) hA 4 N;have h3:=nq H b (gT b (sA b a) 4).2 ((0:Int)<(vB b a:Int)) N;have hv:vB b a<2 ^ 4:=Hv (k:=4) o_;have h8:=gp H b hb (sB b a) hB 8 N;have h9:=nq H b (gT b (sB b a) 8).2 ((0:Int)<(vC b a:Int)) N;have hw:vC b a<2 ^ 8:=Hv (k:=8) o_;have c0:((0:Nat):Int)=0:=rfl;have e0:al 1 (ax [])=.nl:=rfl;unfold HG;unfold ZD at hl;unfold sC vC sB vB sA at *;generalize gT b (a,0) 3=g1 at *;obtain⟨x1,s1⟩:=g1;simp only at *;generalize gT b s1 4=g2 at *;obtain⟨x2,s2⟩:=g2;simp only at *;generalize kT s2 ((0:Int)<(x2:Int))=s3 at *;generalize gT b s3 8=g3 at *;obtain⟨x3,s6⟩:=g3;simp only at *;generalize kT s6 ((0:Int)<(x3:Int))=s7 at *;subst h6;subst h15;rw[bC lU lT rfl];have c6:((6:Nat):Int)=6:=rfl;have c15:((15:Nat):Int)=15:=rfl;have c14:((x3+14:Nat):Int)=(x3:Int)+14:=rfl;have h0:(0:Int)<((15:Nat):Int):=o_;rw[dT_ h0]at h3;simp only[aX,c0,c6,c15,c14,e0]at h1 h2 h3 h8 h9 hl⊢;by_cases ha:(0:Int)<(x3:Int)
 .rw[dT_ ha]at h9;simp(maxSteps:=9^6)(disch:=omega)[↓ac,↓aa,h1,h2,h3,h8,h9,hl]
 .rw[dF_ ha]at h9;simp(maxSteps:=9^6)(disch:=omega)[↓ac,↓aa,h1,h2,h3,h8,h9,hl]
end
section
variable {hp:D_->ak}{p:Nat}(H:Hr hp p)(b:C_)(hb:b.length<=1000000000)
include H hb
theorem ann {s:Nat×Nat}{l:C_}(hd:s.2≠0):kT (gT b s 3).2 (((gT b s 3).1:Int)=7)=s:=by
 rw[lZ hd,fm hd]
theorem R5 (n:Nat)(hn:n<=1000)(N:Nat)(s0:Nat×Nat)(hs0:s0.1<=b.length) :
  ∃(s:Nat×Nat) (w:C_),s.1<=b.length∧(s0.2=0->Lk (jr b n s0.1) (λr=>w=r) s)∧(s0.2≠0->s=s0)∧(TH hp p b N n s0 s w∨s.2≠0∧ZD hp p b N n s0 s):=by
 obtain⟨a,e⟩:=s0;have e0:al 1 (ax [])=.nl:=rfl;by_cases he:e=0
 .subst he;obtain⟨s,w,h1,h2,h3⟩:=ahu H b hb n hn N n 0 a [] o_ hs0 rfl;refine⟨s,w,h1,λ_=>?_,λh=>absurd rfl h,?_⟩
  .simpa using h2
  .rw[e0]at h3;exact h3
 .by_cases h0:n=0
  .subst h0;exact⟨(a,e),[],hs0,λh=>absurd h he,λ_=>rfl,.inl (by have:=L6 H b hb (a,e) .nl 0 N;simpa [TH,e0] using this)⟩
  .exact⟨(a,e),[],hs0,λh=>absurd h he,λ_=>rfl,.inr ⟨he,U4 H b hb (a,e) he .nl n 0 o_ N⟩⟩
theorem aoq {n a:Nat}{s:Nat×Nat}{w:C_}(h:Lk (jr b n a) (λr=>w=r) s):Lk ((jr b n a).bind λl m=>(aE b m 3).bind λz m=>if z=7 then .ok l m else .er 7) (λl=>w=l) (kT (gT b s 3).2 (((gT b s 3).1:Int)=7)):=by
 cases e:jr b n a with
 |er q =>
  rw[e]at h;have hd:s.2≠0:=by simp only[Lk]at h;omega
  rw[lZ hd,fm hd];exact h
 |ok l m =>
  rw[e]at h;obtain⟨rfl,rfl⟩:=h;rw[ao]
  cases e3:aE b m 3 with
  |er q =>
   rw[lx e3,fm (aB _)];exact rfl
  |ok z m2 =>
   rw[ef e3,ao];by_cases hz:z=7
   .rw[ac hz,qf w_];exact⟨rfl,rfl⟩
   .rw[aa hz,xu w_];exact rfl
theorem akD (a:Nat)(ha:a<=b.length)(N:Nat):∃(w:C_) (x:Int) (s:Nat×Nat),HG hp p b a N w x s∧Lk (uN b a) (λl=>w=l) s:=by
 unfold uN
 cases e1:aE b a 3 with
 |er q =>
  have h:=abM H b hb a ha N (by rw[lx e1];simp);exact⟨_,_,_,h,by rw[lx e1,fm (aB _)];exact rfl⟩
 |ok x n =>
  rw[ao];by_cases h6:x=6
  rotate_left
  .have h:=abM H b hb a ha N (by rw[ef e1];exact h6);refine⟨_,_,_,h,?_⟩;rw[ef e1,aa h6];by_cases h7:x=7
   .rw[ac h7,qf w_];exact⟨rfl,rfl⟩
   .rw[aa h7,xu w_];exact rfl
  rw[ac h6];have hx:(gT b (a,0) 3).1=6:=by rw[ef e1];exact h6
  have hA:sA b a=(n,0):=by unfold sA;rw[ef e1]
  have hAl:(sA b a).1<=b.length:=jU ha;have hBl:(sB b a).1<=b.length:=yE (jU hAl);have hCl:(sC b a).1<=b.length:=yE (jU hBl);have hv:vB b a<2 ^ 4:=Hv (k:=4) o_;have hw:vC b a<2 ^ 8:=Hv (k:=8) o_;by_cases h15:vB b a=15
  .obtain⟨s,w,h1,h2,h3,h4⟩:=R5 H b hb (vC b a+14) o_ N (sC b a) hCl;have fin:Lk (((aE b n 4).bind λk m=>if k=0 then R.er 7 else
  (if k=15 then (aE b m 8).bind λy m2=>if y=0 then .er 7 else .ok (y+14) m2 else .ok k m).bind λk m =>
  (jr b k m).bind λl m=>(aE b m 3).bind λz m=>if z=7 then .ok l m else .er 7)) (λl=>w=l) (kT (gT b s 3).2 (((gT b s 3).1:Int)=7)):=by
    cases e2:aE b n 4 with
    |er q=>unfold vB at h15;rw[hA,lx e2]at h15;exact absurd h15 (by simp)
    |ok k m =>
     have hk:vB b a=k:=by unfold vB;rw[hA,ef e2]
     have hB:sB b a=(m,0):=by unfold sB;rw[qf o_,hA,ef e2]
     have hC:sC b a=kT (gT b (m,0) 8).2 ((0:Int)<((gT b (m,0) 8).1:Nat)):=by unfold sC vC;rw[hB]
     have hc:vC b a=(gT b (m,0) 8).1:=by unfold vC;rw[hB]
     rw[ao,aa o_,ac o_]
     cases e3:aE b m 8 with
     |er q =>
      rw[lx e3,fm (aB _)]at hC;rw[h3 (by rw[hC];exact aB _),hC,lZ (aB _),fm (aB _)];exact rfl
     |ok y m2 =>
      rw[ef e3]at hC hc;simp only at hC hc;rw[ao];by_cases hy:y=0
      .rw[xu o_]at hC;rw[ac hy,h3 (by rw[hC];simp),hC,lZ s_,fm s_];exact rfl
      .rw[qf o_]at hC;rw[hC,hc]at h2;rw[aa hy,ao];exact aoq H b hb (h2 rfl)
   rcases h4 with h4|⟨hd,h4⟩
   .exact⟨w,_,_,amP H b hb a ha N hx h15 s h1 w h4,fin⟩
   .refine⟨[],_,_,akU H b hb a ha N hx h15 s h4,?_⟩;have this:=fin;rw[ann H b hb (l:=[]) hd]at this
    revert this
    generalize ((aE b n 4).bind λk m=>if k=0 then R.er 7 else
  (if k=15 then (aE b m 8).bind λy m2=>if y=0 then .er 7 else .ok (y+14) m2 else .ok k m).bind λk m =>
  (jr b k m).bind λl m=>(aE b m 3).bind λz m=>if z=7 then .ok l m else .er 7)=G
    intro this
    cases G with
    |er q=>exact this
    |ok v m=>exact absurd this.2 (λh=>hd (by rw[h]))
  .obtain⟨s,w,h1,h2,h3,h4⟩:=R5 H b hb (vB b a) o_ N (sB b a) hBl;have fin:Lk (((aE b n 4).bind λk m=>if k=0 then R.er 7 else
  (if k=15 then (aE b m 8).bind λy m2=>if y=0 then .er 7 else .ok (y+14) m2 else .ok k m).bind λk m =>
  (jr b k m).bind λl m=>(aE b m 3).bind λz m=>if z=7 then .ok l m else .er 7)) (λl=>w=l) (kT (gT b s 3).2 (((gT b s 3).1:Int)=7)):=by
    have hB:sB b a=kT (gT b (n,0) 4).2 ((0:Int)<((gT b (n,0) 4).1:Nat)):=by unfold sB vB;rw[hA]
    have hb1:vB b a=(gT b (n,0) 4).1:=by unfold vB;rw[hA]
    cases e2:aE b n 4 with
    |er q =>
     rw[lx e2,fm (aB _)]at hB;rw[h3 (by rw[hB];exact aB _),hB,lZ (aB _),fm (aB _)];exact rfl
    |ok k m =>
     rw[ef e2]at hB hb1;simp only at hB hb1;rw[ao];by_cases hk:k=0
     .rw[xu o_]at hB;rw[ac hk,h3 (by rw[hB];simp),hB,lZ s_,fm s_];exact rfl
     .rw[qf o_]at hB;rw[hB,hb1]at h2;rw[aa hk,aa o_,ao];exact aoq H b hb (h2 rfl)
   rcases h4 with h4|⟨hd,h4⟩
   .exact⟨w,_,_,aqU H b hb a ha N hx h15 s h1 w h4,fin⟩
   .refine⟨[],_,_,apQ H b hb a ha N hx h15 s h4,?_⟩;have this:=fin;rw[ann H b hb (l:=[]) hd]at this
    revert this
    generalize ((aE b n 4).bind λk m=>if k=0 then R.er 7 else
  (if k=15 then (aE b m 8).bind λy m2=>if y=0 then .er 7 else .ok (y+14) m2 else .ok k m).bind λk m =>
  (jr b k m).bind λl m=>(aE b m 3).bind λz m=>if z=7 then .ok l m else .er 7)=G
    intro this
    cases G with
    |er q=>exact this
    |ok v m=>exact absurd this.2 (λh=>hd (by rw[h]))
end
abbrev ut:=@List.getElem?_replicate
abbrev uq:=@Nat.add_sub_cancel_left
def UI {d hi:Nat}(hd:1<=d):∀{f lo x:Nat},(hi-lo) % d=0->x∈qc d hi f lo->lo<=x∧x+d<=hi∧(x-lo) % d=0
 |0,lo,x,_,h=>by simp[qc]at h
 |f+1,lo,x,hm,h=>by
  rw[qc]at h;by_cases h1:lo<hi
  .rw[ac h1]at h;have h2:lo+d<=hi:=by
    rcases bD (hi-lo) d with h3|h3
    .rw[fw h3]at hm;omega
    .omega
   rcases aD.1 h with e|e
   .subst e;exact⟨ai _,h2,s_⟩
   .have h4:(hi-(lo+d)) % d=0:=by
     have:hi-lo=hi-(lo+d)+d:=o_;rw[this,Nat.add_mod_right]at hm;exact hm
    have ⟨a,b,c⟩:=UI hd h4 e;refine⟨o_,b,?_⟩;have:x-lo=x-(lo+d)+d:=o_;rw[this,Nat.add_mod_right];exact c
  .rw[aa h1]at h;simp at h
def aaj {os:C_}{d b:Nat}:∀{k w y:Nat},y∈sU os d b k w->∃w' x,w<=w'∧w'<w+k∧x∈qc d (nth os (b+1)) 300 (nth os b)∧y=w'*32+x
 |0,w,y,h=>by simp[sU]at h
 |k+1,w,y,h=>by
  rw[sU,bj]at h;rcases h with h|h
  .obtain⟨x,hx,e⟩:=cX.1 h;exact⟨w,x,ai _,o_,hx,e.symm⟩
  .obtain⟨w',x,a,b,c,e⟩:=aaj h;exact⟨w',x,o_,o_,c,e⟩
def TA {os:C_}{d n first:Nat}:∀{k b y:Nat},y∈uH os d n first k b->∃b',b<=b'∧b'<b+k∧y∈sU os d b' n first
 |0,b,y,h=>by simp[uH]at h
 |k+1,b,y,h=>by
  rw[uH,bj]at h;rcases h with h|h
  .exact⟨b,ai _,o_,h⟩
  .obtain⟨b',a,c,e⟩:=TA h;exact⟨b',o_,o_,e⟩
def Ud {os:C_}{n first:Nat}:∀{r:U_}{b:Nat}{lf:Int}{p:Nat×Nat},fitsS lf r->p∈xV os n first r b->∃j,(bz r)[j]?=some (p.1:Int)∧(1<=p.1∧p.1<=11)∧p.2∈sU os (bt p.1) (b+j) n first
 |[],b,lf,p,_,h=>by simp[xV]at h
 |s::r,b,lf,p,hf,h=>by
  obtain⟨⟨⟨l1,l2⟩,b1,b2⟩,hf2⟩:=hf;have eb:bz (s::r)=List.replicate s.len.toNat s.book++bz r:=by rw[bz,be];rfl
  rw[xV,bj]at h;rcases h with h|h
  .by_cases h0:s.book=0∨s.book=13
   .rw[ac h0]at h;simp at h
   .rw[aa h0]at h;obtain⟨y,hy,e⟩:=cX.1 h;subst e;obtain⟨b',c1,c2,c3⟩:=TA hy;refine⟨b'-b,?_,by simp only[];omega,by rw[show b+(b'-b)=b' by omega];exact c3⟩;rw[eb,dj t_,ut,ac o_];simp only[ae];omega
  .obtain⟨j,a,c,e⟩:=Ud hf2 h;refine⟨s.len.toNat+j,?_,c,by rw[<-cm];exact e⟩;rw[eb,dB s_,bE,uq];exact a
def Ub {os:C_}{m:Int}:∀{r:H_}{q:E_}{first:Nat}{p:Nat×Nat},Kv m r->(∀n∈q,1<=n)->p∈nh os r q first->∃(w g j:Nat) (l:U_),r[g]?=some l∧first<=w∧(w:Int)<first+q.sum∧KF q ((w:Int)-first)=g∧(bz l)[j]?=some (p.1:Int)∧(1<=p.1∧p.1<=11)∧∃x∈qc (bt p.1) (nth os (j+1)) 300 (nth os j),p.2=w*32+x
 |[],q,first,p,_,_,h=>by simp[nh]at h
 |l::r,[],first,p,_,_,h=>by simp[nh]at h
 |l::r,n::q,first,p,hf,hn,h=>by
  have hn1:=hn n (.head _);have hqs:0<=q.sum:=by have:=kU λx hx=>hn x (.tail _ hx);omega
  rw[nh,bj]at h;rw[nW];rcases h with h|h
  .obtain⟨j,a,c,e⟩:=Ud (hf l (.head _)) h;rw[b7]at e;obtain⟨w,x,e1,e2,e3,e4⟩:=aaj e;refine⟨w,0,j,l,rfl,e1,o_,?_,a,c,x,e3,e4⟩;rw[KF,ac o_]
  .obtain⟨w,g,j,l',e1,e2,e3,e4,e5,e6,e7⟩:=Ub (λx hx=>hf x (.tail _ hx)) (λx hx=>hn x (.tail _ hx)) h;refine⟨w,g+1,j,l',by simpa using e1,o_,o_,?_,e5,e6,e7⟩;rw[KF,aa o_];have:(w:Int)-first-n=(w:Int)-((first+n.toNat:Nat):Int):=o_
   rw[this,e4]
def BC:∀x∈D5,((List.range ((offs x.1 x.2).length-1)).all λj=>decide (nth (offs x.1 x.2) j<nth (offs x.1 x.2) (j+1)) && decide ((nth (offs x.1 x.2) (j+1)-nth (offs x.1 x.2) j) % 4=0))=true∧nth (offs x.1 x.2) 0=0∧(offs x.1 x.2).all (λy=>decide (y<=cond x.2 32 256))=true:=g_
def ar6 {os:C_}{b i:Nat}(hs:∀j,j+1<os.length->nth os j<nth os (j+1))(hb:b+1<os.length)(h1:nth os b<=i)(h2:i<nth os (b+1)):NG (os.drop 1) i=b:=by
 have hmono:∀k j,j+k<os.length->nth os j<=nth os (j+k):=by
  intro k
  induction k with
  |zero=>intro j _;exact ai _
  |succ k ih =>
   intro j hj;have a:=ih j o_;have b:=hs (j+k) o_;rw[show j+(k+1)=j+k+1 by omega];omega
 have hlen:(os.drop 1).length=os.length-1:=s_;rw[amp (b:=b) o_ ?_]
 .have hdd:(os.drop 1).drop b=os.drop (b+1):=by rw[cW];congr 1;omega
  rw[hdd,nw hb,NG,aa o_];rfl
 .intro x hx;obtain⟨j,hj,e⟩:=kL.1 hx;have hj2:j<b:=by have:=hj;simp only[fp]at this;omega
  rw[List.getElem_take,List.getElem_drop]at e;have hn:nth os (1+j)=x:=by
   have h9:=CY (l:=os) (i:=1+j) o_;rw[co o_,e]at h9;injection h9 with h9;exact h9.symm
  have:=hmono (b-(1+j)) (1+j) o_;rw[show 1+j+(b-(1+j))=b by omega]at this;omega
def aAb (c:ip)(p:Nat×Nat):C_:=adZ p.1 ((c.lines.drop p.2).take (bt p.1))
def axP {m:Nat}{xs ys:F_}(hl:xs.length+ys.length<=1000000000):∃v,(∀h,dR m h (al m xs) ys=some (v,h))∧firm v=al m (xs++ys):=by
 obtain⟨v,h1,h2⟩:=awM (m:=m) (h:=[]) hl;refine⟨v,λh=>?_,h2⟩
 cases xs with
 |nil =>
  cases ys with
  |nil=>injection h1 with h1;injection h1 with h1;subst h1;rfl
  |cons y r =>
   simp only[dH,avL,ZT,bQ]at h1⊢;split at h1
   .rename_i h9;rw[ac h9];injection h1 with h1;injection h1 with h1;subst h1;rfl
   .exact absurd h1 (by simp)
 |cons x r =>
  simp only[ab9,ajW,ZT,akm,ajl,bQ]at h1⊢;split at h1
  .rename_i h9;rw[ac h9];split at h1
   .rename_i h8;rw[ac h8];split at h1
    .rename_i h7;rw[ac h7];injection h1 with h1;injection h1 with h1;subst h1;rfl
    .exact absurd h1 (by simp)
   .exact absurd h1 (by simp)
  .exact absurd h1 (by simp)
def anF (r:Nat)(c:ip):C_:=(nh (offs r c.info.short) c.sects c.info.groups 0).flatMap (aAb c)
abbrev E9:D_:=[A_ 0,A_ 0,.nl,.nl,A_ 0,A_ 0,.nl,.nl,A_ 0,A_ 0,.nl,.nl,A_ 0,A_ 0,.nl,.nl,A_ 0,A_ 0,.nl,.nl,A_ 0,A_ 0,.nl,.nl,A_ 0,A_ 0,.nl,.nl,A_ 0,A_ 0,.nl,.nl,A_ 0,A_ 0,.nl,.nl,A_ 0,A_ 0,.nl,.nl,A_ 0,A_ 0,.nl,.nl,A_ 0,A_ 0,.nl,.nl]
def aqq:PV E9:=by
 refine⟨rfl,λid hid=>.inl ?_⟩;obtain rfl|rfl|rfl|rfl|rfl|rfl|rfl|rfl|rfl|rfl|rfl|rfl:id=0∨id=1∨id=2∨id=3∨id=4∨id=5∨id=6∨id=7∨id=8∨id=9∨id=10∨id=11:=o_
 all_goals rfl
def awE (r:Nat)(c:ip)(common:Bool):C_ :=
 bh c.gain.toNat 8++((if common then [] else N2 c.info)++(asv c.info c.sects++(UE c.sects c.steps c.gain (-1)++((if kF c.tns then 0::1::(WV c.info.short c.tns++[0]) else [0,0,0])++anF r c))))
structure asI (c:ip):Prop where
 groups:c.info.groups.length<=40
 sects:c.sects.length<=40∧∀l∈c.sects,l.length<=100
 steps:c.steps.length<=40∧∀l∈c.steps,l.length<=200
 tns:c.tns.length<=40∧∀l∈c.tns,l.length<=20∧∀f∈l,f.coefs.length<=100
 lines:c.lines.length<=2000
def av4 {m:Nat}{y:V_}{r:F_}(hl:(y::r).length<=1000000000)(h:ak):dR m h .nl (y::r)=some (.own true m (y::r),h):=by
 have h1:Nat.ble (y::r).length bQ=true:=ca (aP hl d_);rw[dR,h1];intro h;exact absurd h (by simp)
def awl {m:Nat}(h:ak):dR m h .nl []=some (.nl,h):=rfl
def UC (q s:Nat)(mx:Int)(gs:E_)(hi:gs.length<=1000):∃v,bn prog fZ [.agg [.d (.int .u8 q),.d (.int .u8 s),A_ mx,.d (.lst (am gs))]]=some v∧firm v=.agg [.d (.int .u8 q),.d (.int .u8 s),A_ mx,al 1 (am gs)]:=by
 cases gs with
 |nil =>
  refine⟨.agg [.d (.int .u8 q),.d (.int .u8 s),A_ mx,.nl],?_,rfl⟩;have e:am []=[]:=rfl;rw[aL DE Ec rfl,e];simp(maxSteps:=9^6)(disch:=omega)[↓ac,↓aa,awl]
 |cons x r =>
  refine⟨.agg [.d (.int .u8 q),.d (.int .u8 s),A_ mx,.own true 1 (am (x::r))],?_,rfl⟩;have hl:=dc (l:=x::r);have ha:∀h,dR 1 h .nl (am (x::r))=some (.own true 1 (am (x::r)),h):=λh=>av4 (m:=1) (y:=[.int .i64 x]) (r:=am r) (by have:=dc (l:=r);simp only[ar]at hi⊢;omega) h
  have hk:=afU (l:=x::r);have hl2:(am (x::r)).length<=1000:=o_;generalize am (x::r)=R at *;rw[aL DE Ec rfl];simp(maxSteps:=9^6)(disch:=omega)[↓ac,↓aa,ha,hk]
attribute [simp ↓ high] NV Um
def roC:AV->Bool
 |.d _=>true
 |.nl=>true
 |.own _ _ _=>true
 |_=>false
@[simp] def aFZ {x:D}:roC (.d x)=true:=rfl
def agl:∀(b:C_),wD (ax b)=some (b.map Nat.toUInt8)
 |[]=>rfl
 |n::r=>by
  have h:ax (n::r)=[.int .u8 (.ofNat n)]::ax r:=rfl;rw[h,wD,agl r,bZ]
@[simp] def amK {h:ak}{b:C_}:Nc h (.d (.lst (ax b)))=some (.str (b.map Nat.toUInt8)):=by
 simp only[Nc,apk,agl]
def c0:ip:=⟨0,⟨0,0,0,[1]⟩,[[]],[[]],[[]],List.replicate 256 0⟩
abbrev ip.cells (c:ip):V_:=[.int .i64 c.gain,.int .u8 c.info.seq,.int .u8 c.info.shape,.int .i64 c.info.max,.lst (am c.info.groups),.lst (bi c.sects),.lst (cT c.steps),.lst (bv c.tns),.lst (am c.lines)]
def dG (l:BB_):F_:=l.map ip.cells
@[simp] def Wf {l:BB_}:(dG l).length=l.length:=by simp[dG]
def aq9 {g:BB_}{i:Nat}{c:ip}{r:BB_}(h:g.drop i=c::r):(dG g)[i]?=some [.int .i64 c.gain,.int .u8 c.info.seq,.int .u8 c.info.shape,.int .i64 c.info.max,.lst (am c.info.groups),.lst (bi c.sects),.lst (cT c.steps),.lst (bv c.tns),.lst (am c.lines)]:=by
 have:=aY (λl=>l[0]?) h;simp only[bx,cS,bK]at this;rw[dG,bM,this];rfl
def abT {g:BB_}{c:ip}:dG (g++[c])=dG g++[[.int .i64 c.gain,.int .u8 c.info.seq,.int .u8 c.info.shape,.int .i64 c.info.max,.lst (am c.info.groups),.lst (bi c.sects),.lst (cT c.steps),.lst (bv c.tns),.lst (am c.lines)]]:=by simp[dG]
def mj (l:Y_):F_:=l.map λb=>[.bool b]
@[simp] def Ml {l:Y_}:(mj l).length=l.length:=by simp[mj]
def auD {g:Y_}{i:Nat}{c:Bool}{r:Y_}(h:g.drop i=c::r):(mj g)[i]?=some [.bool c]:=by
 have:=aY (λl=>l[0]?) h;simp only[bx,cS,bK]at this;rw[mj,bM,this];rfl
def cx (t:T_):F_:=t.map λl=>[.lst (mj l)]
@[simp] def WD {t:T_}:(cx t).length=t.length:=by simp[cx]
def agT {g:T_}{i:Nat}{l:Y_}{r:T_}(h:g.drop i=l::r):(cx g)[i]?=some [.lst (mj l)]:=by
 have:=aY (λl=>l[0]?) h;simp only[bx,cS,bK]at this;rw[cx,bM,this];rfl
def acu {t:T_}{l:Y_}:cx (t++[l])=cx t++[[.lst (mj l)]]:=by simp[cx]
structure ki where
 chans:BB_
 common:Bool
 mask:Int
 bands:T_
 fill:C_
structure ki.Fit (f:ki):Prop where
 chans:f.chans.length<=1000∧∀c∈f.chans,c.Fit
 mask:i64 f.mask
 bands:f.bands.length<=1000∧∀l∈f.bands,l.length<=1000
 fill:f.fill.length<=100000
 fillI:∀n∈f.fill,n<=255
abbrev ki.av (f:ki):D_:=[.d (.lst (dG f.chans)),B_ f.common,A_ f.mask,.d (.lst (cx f.bands)),.d (.lst (ax f.fill))]
structure ayt (f:ki):Prop where
 chans:f.chans.length<=10∧∀c∈f.chans,asI c
 bands:f.bands.length<=40∧∀l∈f.bands,l.length<=200
 fill:f.fill.length<=2000
def as0 (i j:aG):Prop:=(i.seq=j.seq∧i.shape=j.shape)∧i.max=j.max∧i.groups=j.groups
instance {i j:aG}:Decidable (as0 i j):=inferInstanceAs (Decidable (_∧_))
def kW (x:AV)(l:F_):Prop:=x=.d (.lst l)∨x=.nl∧l=[]
def kW.d {l:F_}:kW (.d (.lst l)) l:=.inl rfl
def kW.facts {x:AV}{l:F_}(h:kW x l):(share x=x∧firm x=x∧AV.cells x=[x])∧bB x=true∧lenOf x=some l.length:=by
 rcases h with rfl|⟨rfl,rfl⟩<;>exact⟨⟨rfl,rfl,rfl⟩,rfl,rfl⟩
def kW.ne {x:AV}{l:F_}(h:kW x l)(hl:l≠[]):x=.d (.lst l):=by
 rcases h with h|⟨_,h⟩
 .exact h
 .exact absurd h hl
def awg (f:ki):BB_->Prop
 |[]=>False
 |c::r=>if f.common then (∃d∈r.head?,as0 c.info d.info)∧(if f.mask=1 then f.bands.length=c.info.groups.length∧∀l∈f.bands,(l.length:Int)=c.info.max else f.bands=[]) else f.mask=0∧f.bands=[]
structure axN (rt:Nat)(n:Int)(f:ki):Prop where
 len:(f.chans.length:Int)=n
 fill:f.fill.length<=269
 mask:0<=f.mask∧f.mask<=2
 may:∀c∈f.chans,arZ rt c
 rest:awg f f.chans
abbrev sP (rt n:Int)(b:Bool)(z:Int):AV:=.agg [A_ rt,A_ n,B_ b,A_ z]
abbrev frA (f:ki)(X Y Z:AV):AV:=.agg [X,B_ f.common,A_ f.mask,Y,Z]
def gj (l:C_):C_:=l.flatMap λn=>bh n 8
def PE:∀{l:C_},(gj l).length=8*l.length
 |[]=>rfl
 |n::r=>by have:=PE (l:=r);rw[gj]at this⊢;rw[be,aN,xA,ar];omega
abbrev aB5 (l:C_)(i:Int)(N:Nat):aT:=[(4,.ptr 0 0),(15,.d (.lst (ax l))),(16,A_ l.length),(17,A_ i),(23,.fn BR [] [.ptr (N+1) 0,.ptr N 0])]
abbrev hp8 (l:C_)(i n:Int)(N:Nat)(b:C_):ak:=[(0,.cells [.own false 1 (ax b)]),(N,.cells [A_ n]),(N+1,.cells [A_ 8]),(N+2,.loop (aB5 l i N) [24] vE uM false none)]
def aDf (l:C_)(i n:Int)(N:Nat)(hN:1<=N)(b:C_)(x:Nat)(hb:b.length<=800000000) :
  dD (Dn prog) (.yield (N+2)) [.d (.int .u8 (x:Int))] ⟨hp8 l i n N b,N+2+1⟩=some (B_ true,⟨hp8 l i n N (b++[x]),N+2+1⟩):=by
 have hl:=fJ (l:=b);have n1:N≠0∧N+1≠0∧N+2≠0:=o_;simp(maxSteps:=9^6)(disch:=omega)[Xa,Wi,↓ac,↓aa]
def axG (n k:Int)(c:Obj)(N:Nat)(hN:1<=N):(Dn prog).call VL [A_ n,A_ k] ⟨[(0,c)],N⟩=some (.fn BR [] [.ptr (N+1) 0,.ptr N 0],⟨[(0,c),(N,.cells [A_ n]),(N+1,.cells [A_ k])],N+1+1⟩):=by
 rw[bC aia aim rfl];simp(maxSteps:=9^6)(disch:=omega)[↓ac,↓aa]
def ai0 {z:V_}{n:Int}(h:0<=n∧n<=1000000000):Em z (A_ 0) (A_ n)=some (.own true z.length []):=by
 obtain⟨n,rfl⟩:=ay h.1;have h1:gJ (A_ (n:Int)) bQ=some n:=by rw[Xs o_ (by simp only[bQ];omega)];simp
 have h2:gJ (A_ 0) n=some 0:=Xs o_ o_;simp only[Em,h1,h2];rfl
def anN (l:C_)(hl:l.length<=100000)(hl2:∀n∈l,n<=255):∀(r:C_) (i N:Nat) (b:C_),l.drop i=r->b.length<=8*i->1<=N->
  ∃M,(Dn prog).code (.loop vI) ⟨[(4,.ptr 0 0),(15,.d (.lst (ax l))),(16,A_ l.length),(17,A_ i)],⟨[(0,.cells [.own false 1 (ax b)])],N⟩⟩ =
  some (.exit 0,⟨[(4,.ptr 0 0)],⟨[(0,.cells [.own false 1 (ax (b++gj r))])],M⟩⟩):=by
 intro r
 induction r with
 |nil =>
  intro i N b hd hb hN;have hi:=eD hd;refine⟨N,?_⟩;rw[ah Cg];simp(maxSteps:=9^6)(disch:=omega)[↓ac,↓aa,gj]
 |cons n r ih =>
  intro i N b hd hb hN;have hlt:=ed hd;have hn:=hl2 n (cU (by rw[hd];exact .head _));have hg:(ax l)[i]?=some [.int .u8 n]:=by
   have:=aY (λl=>l[0]?) hd;simp only[bx,bK,cS]at this;rw[ax,bM,this];rfl
  have h1:=awW (hp:=hp8 l i n N) (l:=N+2) (p:=N) (q:=N+1) (N:=N+2+1) (st:=λs x=>s++[x]) (eq:=λk s=>s.length+k<=800000000) (λk s x h=>by simp only[aN,ar,ck];omega) n 8 o_ (by omega)
   (λs=>by simp(maxSteps:=9^6)(disch:=omega)[↓aa,↓ac]) (λs=>by simp(maxSteps:=9^6)(disch:=omega)[↓aa,↓ac]) (λk s x h _=>aDf l i n N hN s x o_) b (by omega)
  rw[aqm]at h1;obtain⟨M,h5⟩:=ih (i+1) (N+2+1) (b++bh n 8) (dU hd) t_ o_;refine⟨M,?_⟩;have c1:((i+1:Nat):Int)=(i:Int)+1:=rfl;have e:b++gj (n::r)=b++bh n 8++gj r:=by rw[gj,be,aw];rfl
  rw[c1]at h5;have n1:N≠0∧N+1≠0∧N+2≠0:=o_;rw[ah Cg,e,<-h5];simp(maxSteps:=9^6)(disch:=omega)[↓ac,↓aa,hg,n1,rd,axG,h1]
def aiz (l:C_)(hl:l.length<=100000)(hl2:∀n∈l,n<=255)(X:AV)(hX:kW X (ax l)):bn prog Qr [X]=some (.tup [.own true 1 (ax (gj l)),A_ 0]):=by
 have hl3:=fJ (l:=l);have n0:ax []=[]:=rfl;have c0:((0:Nat):Int)=0:=rfl;obtain⟨M,h⟩:=anN l hl hl2 l 0 1 [] rfl s_ (ai _);rw[c0,n0,az]at h;rw[aL acH acM rfl];rcases hX with rfl|⟨rfl,hX⟩
 .simp(maxSteps:=9^6)(disch:=omega)[↓ac,↓aa,ai0,h]
 .have:l=[]:=aI (by rw[hX]at hl3;simpa using hl3.symm);subst this;simp(maxSteps:=9^6)(disch:=omega)[↓ac,↓aa,ai0];rw[ah Cg];simp(maxSteps:=9^6)(disch:=omega)[↓ac,↓aa,gj];rfl
def KK (l:Y_):C_:=l.flatMap λb=>bh (cond b 1 0) 1
def aeB (rt:Nat)(q:Bool)(l:BB_):C_:=l.flatMap λc=>awE rt c q
def arC (n:Nat):Nat:=(8-n % 8) % 8
def aDq (b:C_):C_:=b++List.replicate (arC b.length) 0
def OP (l:C_):C_:=if l=[] then [] else bh 6 3++(bh (min l.length 15) 4++((if 15<=l.length then bh (l.length-14) 8 else [])++gj l))
def alw (f:ki):C_:=match f.chans with
 |[]=>[]
 |c::_=>N2 c.info
def amk (n:Int)(f:ki):C_:=if n=1 then bh 0 3++bh 0 4 else if f.common then bh 1 3++bh 0 4++bh 1 1++alw f++bh f.mask.toNat 2++KK f.bands.flatten else bh 1 3++bh 0 4++bh 0 1
def wrB (R:Nat)(n:Int)(f:ki):C_:=aDq (amk n f++aeB R f.common f.chans++OP f.fill++bh 7 3)
def kW.view {x:AV}{l:F_}(h:kW x l):(∀hp,viewArg hp x=some x)∧ve x=false:=by
 rcases h with rfl|⟨rfl,rfl⟩<;>exact⟨λ_=>rfl,rfl⟩
def vp (rt n:Int):Prop:=eC rt∧(n=1∨n=2)
def NX (rt n:Int)(cb:Bool)(cz:Int):(vp rt n∧bn prog J4 [sP rt n cb cz]=some (B_ true))∨(¬vp rt n∧bn prog J4 [sP rt n cb cz]=some (B_ false)):=by
 rw[aL agL aeL rfl];by_cases h1:0<=rt
 rotate_left
 .refine .inr ⟨λh=>h1 h.1.1,?_⟩;simp(maxSteps:=9^6)(disch:=omega)[↓ac,↓aa]
 by_cases h2:rt<=11
 rotate_left
 .refine .inr ⟨λh=>h2 h.1.2,?_⟩;simp(maxSteps:=9^6)(disch:=omega)[↓ac,↓aa]
 by_cases h3:n=1
 .refine .inl ⟨⟨⟨h1,h2⟩,.inl h3⟩,?_⟩;simp(maxSteps:=9^6)(disch:=omega)[↓ac,↓aa,h3]
 by_cases h4:n=2
 .refine .inl ⟨⟨⟨h1,h2⟩,.inr h4⟩,?_⟩;simp(maxSteps:=9^6)(disch:=omega)[↓ac,↓aa,h4]
 .refine .inr ⟨λh=>h.2.elim h3 h4,?_⟩;simp(maxSteps:=9^6)(disch:=omega)[↓ac,↓aa,h3,h4]
theorem kW.one {x:AV}{l:F_}(h:kW x l):((∀hp,viewOne hp x=some x)∧jB x=x)∧wY x=false:=by
 rcases h with rfl|⟨rfl,rfl⟩<;>exact⟨⟨λ_=>rfl,rfl⟩,rfl⟩
def avl {n:Nat}:List.replicate n [D.bool false]=mj (List.replicate n false):=by simp[mj]
abbrev B5:D_:=[.ptr 0 0,.ptr 5 0,.ptr 4 0,.ptr 6 0]
abbrev af1:AV:=.fn LM [] [.ptr 0 0,.ptr 5 0,.ptr 6 0]
abbrev yo:D_:=[.fn AQ [] B5,.fn oM [] [.ptr 3 0,.ptr 4 0,.ptr 2 0,.ptr 0 0,.ptr 5 0,.ptr 1 0,.ptr 6 0],.fn A7 [] B5,.fn Bs [] B5,.fn A8 [] [.ptr 9 0,.ptr 7 0],.fn Bu [] [.ptr 9 0,.ptr 8 0],.fn oK [] [.ptr 8 0,.ptr 0 0,.ptr 5 0,.ptr 4 0,.ptr 6 0],.fn Bd [] [.ptr 7 0,.ptr 9 0]]
abbrev fb (b:C_)(r:Int)(q:Bool)(iv cs:D_)(nx e od is:Int):ak:=[(0,.cells [.d (.lst (ax b))]),(1,.cells [A_ r]),(2,.cells [B_ q]),(3,.cells iv),(4,.cells cs),(5,.cells [A_ nx]),(6,.cells [A_ e]),(7,.cells [A_ od]),(8,.cells [A_ is]),(9,.cells [af1]),(10,.cells yo)]
def arM {m:Nat}{xs:F_}:tf (share (al m xs))=share (al m xs):=by cases xs<;>rfl
def adq (x:AV)(l:E_)(hl:l.length<=1000000000)(hx:elems [] x=some (am l)):bn prog EU [x]=some (.own true 1 (am l)):=by
 have hl2:(am l).length=l.length:=dc;rw[aL Rb Q5 rfl];have h4:Nat.ble l.length 4294967296=true:=by rw[bf];omega
 rw[jM];simp(maxSteps:=9^6)(disch:=omega)[de,Uj,hx,h4]
def aby (i:aG)(hi:i.groups.length<=1000000):bn prog Lz [.agg i.cells]=some (.agg (HB i)):=by
 have h:=adq (.d (.lst (am i.groups))) i.groups o_ rfl;simp only[aG.cells];rw[aL ahQ ahM rfl];simp(maxSteps:=9^6)(disch:=omega)[↓ac,↓aa,h]
abbrev zI:D_:=[.d (.int .u8 0),.d (.int .u8 0),A_ 0,.nl]
def alm:bn prog Lz [.agg zI]=some (.agg (HB ⟨0,0,0,[]⟩)):=Fq 400 (by kernel_rfl)
section
variable (b:C_)(r:Int)(q:Bool)(iv:D_)(nx od is:Int)(N:Nat)
theorem avM (hq:q=true)(i:aG)(hi:i.groups.length<=1000000)(hiv:iv=i.cells)(a0 a1 a2 a3 a4 a5 a6 a7 a8:AV):(Dn prog).call oM [.ptr 3 0,.ptr 4 0,.ptr 2 0,.ptr 0 0,.ptr 5 0,.ptr 1 0,.ptr 6 0] ⟨fb b r q iv [a0,a1,a2,a3,a4,a5,a6,a7,a8] nx 0 od is,N⟩ =
  some (.tup [],⟨fb b r q iv [a0,.d (.int .u8 i.seq),.d (.int .u8 i.shape),A_ i.max,.own false 1 (am i.groups),a5,a6,a7,a8] nx 0 od is,N⟩):=by
 subst hq hiv;have h:=aby i hi;simp only[aG.cells,HB]at h⊢;rw[bC VQ VR rfl];simp(maxSteps:=9^6)(disch:=omega)[↓ac,↓aa,h]
theorem atN (i:aG)(hi:i.Fit)(hm:i.may 11)(h1:is≠1)(a0 a5 a6 a7 a8:AV):(Dn prog).call oK [.ptr 8 0,.ptr 0 0,.ptr 5 0,.ptr 4 0,.ptr 6 0] ⟨fb b r q iv [a0,.d (.int .u8 i.seq),.d (.int .u8 i.shape),A_ i.max,.own false 1 (am i.groups),a5,a6,a7,a8] nx 0 od is,N⟩ =
  some (.tup [],⟨fb b r q iv [a0,.d (.int .u8 i.seq),.d (.int .u8 i.shape),A_ i.max,.own false 1 (am i.groups),a5,a6,.own false 1 (bv (List.replicate i.many [])),a8] nx 0 od is,N⟩):=by
 have hw:=I7 i hi;rw[ac hm]at hw;have hmm:=km i;have hk:=yW (z:=[.lst []]) (n:=i.many) o_;have e:List.replicate i.many [D.lst []]=bv (List.replicate i.many []):=by simp[bv,jD]
 rw[e]at hk;simp only[aG.cells]at hw;rw[bC U6 VB rfl];simp(maxSteps:=9^6)(disch:=omega)[↓ac,↓aa,h1,hw,hk]
end
section
variable (b:C_)(hb:b.length<=1000000000)(r:Int)(q:Bool)(iv:D_)(nx od is:Int)(hn:i64 nx)(N:Nat)
include hb hn
theorem aw9 (a0 a1 a2 a3 a4 a5 a6 a7 a8:AV):(Dn prog).call AQ B5 ⟨fb b r q iv [a0,a1,a2,a3,a4,a5,a6,a7,a8] nx 0 od is,N⟩ =
  rK (pG b 8) (aE b nx 8) (λv n=>some (.tup [],⟨fb b r q iv [A_ v,a1,a2,a3,a4,a5,a6,a7,a8] n 0 od is,N⟩)) (λe=>some (.tup [],⟨fb b r q iv [A_ 0,a1,a2,a3,a4,a5,a6,a7,a8] 0 (e+1) od is,N⟩)):=by
 have h:=io b nx 8 hb hn;rw[bC aie ahO rfl];simp(maxSteps:=9^6)(disch:=omega)[↓ac,↓aa,h]
theorem alj (cs:D_):(Dn prog).call LM [.ptr 0 0,.ptr 5 0,.ptr 6 0] ⟨fb b r q iv cs nx 0 od is,N⟩ =
  rK (pG b 1) (aE b nx 1) (λv n=>some (A_ v,⟨fb b r q iv cs n 0 od is,N⟩)) (λe=>some (A_ 0,⟨fb b r q iv cs 0 (e+1) od is,N⟩)):=by
 have h:=io b nx 1 hb hn;rw[bC ah4 aiH rfl];simp(maxSteps:=9^6)(disch:=omega)[↓ac,↓aa,h]
theorem awe (cs:D_):(Dn prog).call A8 [.ptr 9 0,.ptr 7 0] ⟨fb b r q iv cs nx 0 od is,N⟩ =
  rK (pG b 1) (aE b nx 1) (λv n=>some (.tup [],⟨fb b r q iv cs n 0 v is,N⟩)) (λe=>some (.tup [],⟨fb b r q iv cs 0 (e+1) 0 is,N⟩)):=by
 have h:=alj b hb r q iv nx od is hn N cs;rw[bC ahT aix rfl];simp(maxSteps:=9^6)(disch:=omega)[↓ac,↓aa,h]
theorem axV (cs:D_):(Dn prog).call Bu [.ptr 9 0,.ptr 8 0] ⟨fb b r q iv cs nx 0 od is,N⟩ =
  rK (pG b 1) (aE b nx 1) (λv n=>some (.tup [],⟨fb b r q iv cs n 0 od v,N⟩)) (λe=>some (.tup [],⟨fb b r q iv cs 0 (e+1) od 0,N⟩)):=by
 have h:=alj b hb r q iv nx od is hn N cs;rw[bC aiK ahC rfl];simp(maxSteps:=9^6)(disch:=omega)[↓ac,↓aa,h]
theorem axI (cs:D_)(ho:0<=od∧od<=1):(Dn prog).call Bd [.ptr 7 0,.ptr 9 0] ⟨fb b r q iv cs nx 0 od is,N⟩ =
  rK (pG b 1) (aE b nx 1) (λv n=>some (.tup [],⟨fb b r q iv cs n 0 (Qy od v) is,N⟩)) (λe=>some (.tup [],⟨fb b r q iv cs 0 (e+1) od is,N⟩)):=by
 have h:=alj b hb r q iv nx od is hn N cs;rw[bC ahP ahv rfl];simp(maxSteps:=9^6)(disch:=omega)[↓ac,↓aa,h];refine pt (λ_ _ h=>cu h) (λv n e2 hp=>?_) λe e2=>by simp(maxSteps:=9^6)(disch:=omega)[ZN]
 have hv:v<2:=hp.1;simp(maxSteps:=9^6)(disch:=omega)[ZN]
theorem awp (i:aG)(hi:i.Fit)(hm:i.may 11)(hg:i.groups≠[])(a0 a5 a6 a7 a8:AV):(Dn prog).call A7 B5 ⟨fb b r q iv [a0,.d (.int .u8 i.seq),.d (.int .u8 i.shape),A_ i.max,.own false 1 (am i.groups),a5,a6,a7,a8] nx 0 od is,N⟩ =
  rK (Qs b i.max.toNat i.groups.length) (ma b i nx) (λg n=>some (.tup [],⟨fb b r q iv [a0,.d (.int .u8 i.seq),.d (.int .u8 i.shape),A_ i.max,.own false 1 (am i.groups),al 1 (bi g),a6,a7,a8] n 0 od is,N⟩)) (λe=>some (.tup [],⟨fb b r q iv [a0,.d (.int .u8 i.seq),.d (.int .u8 i.shape),A_ i.max,.own false 1 (am i.groups),.nl,a6,a7,a8] 0 (e+1) od is,N⟩)):=by
 have h:=arb b nx i hb hn hi hm;simp only[aG.cells]at h;rw[bC aiu air rfl];simp(maxSteps:=9^6)(disch:=omega)[↓ac,↓aa,-bB,h]
theorem awb (g:Int)(hg:0<=g∧g<=255)(m:Int)(hm:0<=m∧m<=40)(S:H_)(hS:S≠[])(hl:S.length<=8)(hf:Kv m S)(hf2:∀l∈S,l.length<=1000)(hok:∀l∈S,TW l∧akY l)(a1 a2 a3 a4 a6 a7 a8:AV):(Dn prog).call Bs B5 ⟨fb b r q iv [A_ g,a1,a2,a3,a4,al 1 (bi S),a6,a7,a8] nx 0 od is,N⟩ =
  rK (pSc b S) (po b S nx g) (λt n=>some (.tup [],⟨fb b r q iv [A_ g,a1,a2,a3,a4,al 1 (bi S),share (al 1 (cT t)),a7,a8] n 0 od is,N⟩)) (λe=>some (.tup [],⟨fb b r q iv [A_ g,a1,a2,a3,a4,al 1 (bi S),.nl,a7,a8] 0 (e+1) od is,N⟩)):=by
 have h:=ane b hb nx g m hn hg S hl hm hf hf2 hok;rw[bC aiL ahH rfl]
 cases S with
 |nil=>exact absurd rfl hS
 |cons s0 S0 =>
  have e:al 1 (bi (s0::S0))=.own false 1 (bi (s0::S0)):=rfl;rw[e];simp(maxSteps:=9^6)(disch:=omega)[↓ac,↓aa,-bB,h,ajY,arM,agb,IM,Fi]
theorem ajC (hq:q=false)(hr:eC r)(i:aG)(hi:i.groups.length<=1000000)(hiv:iv=i.cells∨iv=zI)(a0 a1 a2 a3 a4 a5 a6 a7 a8:AV):(Dn prog).call oM [.ptr 3 0,.ptr 4 0,.ptr 2 0,.ptr 0 0,.ptr 5 0,.ptr 1 0,.ptr 6 0] ⟨fb b r q iv [a0,a1,a2,a3,a4,a5,a6,a7,a8] nx 0 od is,N⟩ =
  rK (pI b r.toNat) (fW b nx r.toNat) (λj n=>some (.tup [],⟨fb b r q iv [a0,.d (.int .u8 j.seq),.d (.int .u8 j.shape),A_ j.max,.own false 1 (am j.groups),a5,a6,a7,a8] n 0 od is,N⟩)) (λe=>some (.tup [],⟨fb b r q iv [a0,.d (.int .u8 0),.d (.int .u8 0),A_ 0,.nl,a5,a6,a7,a8] 0 (e+1) od is,N⟩)):=by
 subst hq;have h:=aby i hi;have h0:=alm;have hG:=Xf b nx r hb hn;rw[ac hr]at hG;rcases hiv with rfl|rfl
 all_goals
  simp only[aG.cells,HB,ic]at h hG⊢;rw[bC VQ VR rfl];simp(maxSteps:=9^6)(disch:=omega)[↓ac,↓aa,h,h0,hG]
theorem ai7 (i:aG)(hi:i.Fit)(hm:i.may 11)(h1:is=1)(a0 a5 a6 a7 a8:AV):(Dn prog).call oK [.ptr 8 0,.ptr 0 0,.ptr 5 0,.ptr 4 0,.ptr 6 0] ⟨fb b r q iv [a0,.d (.int .u8 i.seq),.d (.int .u8 i.shape),A_ i.max,.own false 1 (am i.groups),a5,a6,a7,a8] nx 0 od is,N⟩ =
  rK (pTn b i) (Cl b i nx) (λt n=>some (.tup [],⟨fb b r q iv [a0,.d (.int .u8 i.seq),.d (.int .u8 i.shape),A_ i.max,.own false 1 (am i.groups),a5,a6,al 1 (bv t),a8] n 0 od is,N⟩)) (λe=>some (.tup [],⟨fb b r q iv [a0,.d (.int .u8 i.seq),.d (.int .u8 i.shape),A_ i.max,.own false 1 (am i.groups),a5,a6,.nl,a8] 0 (e+1) od is,N⟩)):=by
 subst h1;have h:=aiP b hb nx hn i hi hm;simp only[aG.cells]at h;rw[bC U6 VB rfl];simp(maxSteps:=9^6)(disch:=omega)[↓ac,↓aa,-bB,h]
end
end Go.Vm
end
