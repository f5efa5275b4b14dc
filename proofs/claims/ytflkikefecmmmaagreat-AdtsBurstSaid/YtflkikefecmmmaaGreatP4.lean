import Derived.Test.YtflkikefecmmmaaGreatP3
set_option linter.unusedVariables false
set_option linter.unusedSimpArgs false
set_option linter.defProp false
set_option linter.unusedSectionVars false
noncomputable section
namespace Go.Vm
set_option maxRecDepth 100000
set_option maxHeartbeats 4000000
def K8 (C:Nat->Nat->Int)(n:Nat):Nat->C_->Nat->C_×Nat
 |0,xs,a=>(xs,a)
 |f+1,xs,a=>if a+20<=n then K8 C n f (insO C a 19 (a+1) xs) (a+20) else (xs,a)
def Qk (C:Nat->Nat->Int)(n bs:Nat):Nat->C_->Nat->C_×Nat
 |0,xs,a=>(xs,a)
 |f+1,xs,a=>if a+2*bs<=n then Qk C n bs f (symM C (2*bs) xs a (a+bs) (a+2*bs)) (a+2*bs) else (xs,a)
def stE (C:Nat->Nat->Int)(n bs:Nat)(p:C_×Nat):C_:=if p.2+bs<n then symM C (n-p.2) p.1 p.2 (p.2+bs) n else p.1
def stL (C:Nat->Nat->Int)(n:Nat):Nat->C_->Nat->C_
 |0,xs,_=>xs
 |f+1,xs,bs=>if bs<n then stL C n f (stE C n bs (Qk C n bs n xs 0)) (2*bs) else xs
def stS (C:Nat->Nat->Int)(n:Nat)(p:C_×Nat):C_:=insO C p.2 (n-(p.2+1)) (p.2+1) p.1
def tq (C:Nat->Nat->Int)(n:Nat)(xs:C_):C_:=stL C n n (stS C n (K8 C n n xs 0)) 20
section
variable {hp:C_->am}{D L:Nat}{F:AV}{C:Nat->Nat->Int}
def asB (H:Hp hp D)(K:Cm hp L F C)(n:Nat)(hlen:n<=1000000000)(N:Nat):∀(f a:Nat) (xs:C_),n<a+f*20+20->a<=n->xs.length=n->fC L xs->
  (Dn prog).code (.loop iG) ⟨[(0,.sl D 0 n),(1,A_ n),(2,F),(6,A_ 20),(7,A_ a),(8,A_ ((a:Int)+20))],⟨hp xs,N⟩⟩ =
  some (.exit 0,⟨[(0,.sl D 0 n),(1,A_ n),(2,F),(6,A_ 20),(7,A_ ((K8 C n f xs a).2))],⟨hp (K8 C n f xs a).1,N⟩⟩)∧
  (K8 C n f xs a).1.length=n∧fC L (K8 C n f xs a).1∧a<=(K8 C n f xs a).2∧(K8 C n f xs a).2<=n∧∃q,(K8 C n f xs a).2=a+20*q:=by
 intro f
 induction f with
 |zero =>
  intro a xs h1 h2 hx u;refine⟨?_,hx,u,ak _,h2,0,rfl⟩;rw[ah q9];simp(maxSteps:=9^6)(disch:=omega)[↓ac,↓aa,K8,K.sh,K.fi]
 |succ f ih =>
  intro a xs h1 h2 hx u;rw[ah q9,K8];by_cases h:a+20<=n
  .rw[ac h];have h0:=QW H K n hlen a (a+20) N o_ h xs hx u;rw[show a+20-(a+1)=19 by omega]at h0;obtain⟨g1,g2,g3,g4,g5,q,g6⟩:=ih (a+20) (insO C a 19 (a+1) xs) o_ h (by rw[Xs];exact hx) (u.insO o_);refine⟨?_,g2,g3,o_,g5,q+1,o_⟩;have c1:((a+20:Nat):Int)=(a:Int)+20:=rfl;rw[c1]at h0 g1;rw[<-g1];simp(maxSteps:=9^6)(disch:=omega)[↓ac,↓aa,K.sh,K.fi,h0]
  .rw[aa h];refine⟨?_,hx,u,ak _,h2,0,rfl⟩;simp(maxSteps:=9^6)(disch:=omega)[↓ac,↓aa,K.sh,K.fi]
def arX (H:Hp hp D)(K:Cm hp L F C)(n:Nat)(hlen:n<=1000000000)(bs N:Nat)(hbs:1<=bs)(hb2:bs<=1000000000):∀(f a:Nat) (xs:C_),n<a+f+1->a<=n->xs.length=n->fC L xs->
  (Dn prog).code (.loop iE) ⟨[(0,.sl D 0 n),(1,A_ n),(2,F),(6,A_ bs),(7,A_ a),(8,A_ ((a:Int)+2*(bs:Int)))],⟨hp xs,N⟩⟩ =
  some (.exit 4,⟨[(0,.sl D 0 n),(1,A_ n),(2,F),(6,A_ bs),(7,A_ ((Qk C n bs f xs a).2))],⟨hp (Qk C n bs f xs a).1,N⟩⟩)∧
  (Qk C n bs f xs a).1.length=n∧fC L (Qk C n bs f xs a).1∧(Qk C n bs f xs a).2<=n:=by
 intro f
 induction f with
 |zero =>
  intro a xs h1 h2 hx u;refine⟨?_,hx,u,h2⟩;rw[ah rB];simp(maxSteps:=9^6)(disch:=omega)[↓ac,↓aa,Qk,K.sh,K.fi]
 |succ f ih =>
  intro a xs h1 h2 hx u;rw[ah rB,Qk];by_cases h:a+2*bs<=n
  .rw[ac h];have h0:=ah7 H K n hlen N (2*bs) a (a+bs) (a+2*bs) xs o_ o_ o_ h hx u;obtain⟨g1,g2,g3,g4⟩:=ih (a+2*bs) (symM C (2*bs) xs a (a+bs) (a+2*bs)) o_ h (by rw[AH];exact hx) (u.symM o_ o_ o_);refine⟨?_,g2,g3,g4⟩;have c1:((a+bs:Nat):Int)=(a:Int)+bs:=rfl;have c2:((a+2*bs:Nat):Int)=(a:Int)+2*bs:=o_;rw[c1,c2]at h0;rw[c2]at g1;rw[<-g1];simp(maxSteps:=9^6)(disch:=omega)[↓ac,↓aa,K.sh,K.fi,h0]
  .rw[aa h];refine⟨?_,hx,u,h2⟩;simp(maxSteps:=9^6)(disch:=omega)[↓ac,↓aa,K.sh,K.fi]
def asE (H:Hp hp D)(K:Cm hp L F C)(n:Nat)(hlen:n<=1000000000)(N:Nat):∀(f bs:Nat) (xs:C_),n<bs+f+1->1<=bs->bs<=2000000000->xs.length=n->fC L xs->
  (Dn prog).code (.loop iF) ⟨[(0,.sl D 0 n),(1,A_ n),(2,F),(6,A_ bs)],⟨hp xs,N⟩⟩ =
  some (.exit 2,⟨[],⟨hp (stL C n f xs bs),N⟩⟩)∧(stL C n f xs bs).length=n∧fC L (stL C n f xs bs):=by
 intro f
 induction f with
 |zero =>
  intro bs xs h1 h2 h3 hx u;refine⟨?_,hx,u⟩;rw[ah rk];simp(maxSteps:=9^6)(disch:=omega)[↓ac,↓aa,stL,K.sh,K.fi]
 |succ f ih =>
  intro bs xs h1 h2 h3 hx u;rw[ah rk,stL];by_cases h:bs<n
  .rw[ac h];obtain⟨g1,g2,g3,g4⟩:=arX H K n hlen bs N h2 o_ n 0 xs o_ o_ hx u;generalize Qk C n bs n xs 0=p at *;obtain⟨ys,a⟩:=p;simp only at g1 g2 g3 g4;have c0:((0:Nat):Int)=0:=rfl;have cz:(0:Int)+2*(bs:Int)=2*(bs:Int):=o_;have c2:((2*bs:Nat):Int)=2*(bs:Int):=o_;rw[c0,cz]at g1;unfold stE;simp only;by_cases h5:a+bs<n
   .rw[ac h5];have h0:=ah7 H K n hlen N (n-a) a (a+bs) n ys o_ o_ h5 (ak _) g2 g3;have c1:((a+bs:Nat):Int)=(a:Int)+bs:=rfl;obtain⟨k1,k2,k3⟩:=ih (2*bs) (symM C (n-a) ys a (a+bs) n) o_ o_ o_ (by rw[AH];exact g2) (g3.symM o_ h5 o_);refine⟨?_,k2,k3⟩;rw[c1]at h0;rw[c2]at k1;have cc:(bs:Int)*2=2*(bs:Int):=o_;rw[<-k1];simp(maxSteps:=9^6)(disch:=omega)[↓ac,↓aa,K.sh,K.fi,g1,h0,cc]
   .rw[aa h5];obtain⟨k1,k2,k3⟩:=ih (2*bs) ys o_ o_ o_ g2 g3;refine⟨?_,k2,k3⟩;rw[c2]at k1;have cc:(bs:Int)*2=2*(bs:Int):=o_;rw[<-k1];simp(maxSteps:=9^6)(disch:=omega)[↓ac,↓aa,K.sh,K.fi,g1,cc]
  .rw[aa h];refine⟨?_,hx,u⟩;simp(maxSteps:=9^6)(disch:=omega)[↓ac,↓aa,K.sh,K.fi]
def arM (H:Hp hp D)(K:Cm hp L F C)(n:Nat)(hlen:n<=1000000000)(hn:n % 20≠0)(N:Nat)(xs:C_)(hx:xs.length=n)(u:fC L xs) :
  (Dn prog).call vq [.sl D 0 n,A_ n,F] ⟨hp xs,N⟩=some (.tup [],⟨hp (tq C n xs),N⟩):=by
 rw[be GW Hb rfl,tq];obtain⟨g1,g2,g3,_,g5,q,g6⟩:=asB H K n hlen N n 0 xs o_ o_ hx u;generalize K8 C n n xs 0=p at *;obtain⟨ys,a⟩:=p;simp only at g1 g2 g3 g5 g6;have h0:=QW H K n hlen a n N o_ (ak _) ys g2 g3;unfold stS;simp only;obtain⟨k1,k2,k3⟩:=asE H K n hlen N n 20 (insO C a (n-(a+1)) (a+1) ys) o_ o_ o_ (by rw[Xs];exact g2) (g3.insO o_);have c0:((0:Nat):Int)=0:=rfl;have cz:(0:Int)+20=20:=rfl;have c2:((20:Nat):Int)=20:=rfl;rw[c0,cz]at g1;rw[c2]at k1;simp(maxSteps:=9^6)(disch:=omega)[↓ac,↓aa,K.sh,K.fi,g1,h0,k1]
end
abbrev bJ:=@List.all_eq_true
abbrev b8:=@List.not_mem_nil
abbrev eg:=@or_false
def eW (id:Nat):Nat:=if id<5 then 4 else if id=12 then 1 else 2
def dy (id:Nat):Int:=[0,-1,-1,0,0,-4,-4,0,0,0,0,0,-60].getD id 0
def cL (id:Nat):Nat:=[1,3,3,3,3,9,9,8,8,13,13,17,121].getD id 1
def bR (id:Nat):Nat:=[0,0,1,0,1,0,1,1,2,1,2,2,0].getD id 0
def mB (low:Int)(w:Nat):Nat->Nat->G_
 |0,_=>[]
 |d+1,e=>mB low w d (e / w)++[((e % w:Nat):Int)+low]
def mU (id e:Nat):G_:=mB (dy id) (cL id) (eW id) e
def Px:G_->Nat
 |[]=>0
 |x::r=>x.natAbs+Px r
def Ai (id e:Nat):Nat:=Px (mU id e)
def br (id:Nat):Nat:=cL id ^ eW id
def anE (s:Nat):R_->C_
 |[]=>[]
 |(e,z)::r=>match Nat.beq z s with
  |true=>e::anE s r
  |false=>anE s r
def aDx (id:Nat):R_:=(List.range (br id)).map λe=>(e,Ai id e)
def cB (id:Nat):C_:=let l:=aDx id;(List.range 61).flatMap λs=>anE s l
def aBe (e:Nat):Nat->C_->Nat
 |i,[]=>i
 |i,x::r=>match Nat.beq x e with
  |true=>i
  |false=>aBe e (i+1) r
def dT (id:Nat):C_:=let l:=cB id;(List.range (br id)).map λe=>aBe e 0 l
abbrev jY (id:Nat):Prop:=1<=id∧id<=12
abbrev oA (id:Nat):AV:=.agg [A_ id,A_ (bR id),.d (.lst (cY (cB id))),.d (.lst (cY (dT id)))]
abbrev YY (id:Nat):AV:=.agg [A_ id,A_ (bR id),.own true 1 (cY (cB id)),.own true 1 (cY (dT id))]
def aov:∀id∈List.range 13,bR id<=2∧(cB id).length<=300∧(dT id).length<=300∧(cB id).all (λe=>decide (e<br id))=true:=e_
def KO {id:Nat}(h:id<=12):bR id<=2∧(cB id).length<=300∧(dT id).length<=300∧∀e∈cB id,e<br id:=by
 obtain⟨a,b,c,d⟩:=aov id g_;exact⟨a,b,c,λe he=>by simpa using bJ.1 d e he⟩
def ids:C_:=[1,2,3,4,5,6,7,8,9,10,11,12]
def gy {id:Nat}(h:jY id):id∈ids:=by
 obtain⟨h1,h2⟩:=h;simp only[ids,ay,b8,eg];omega
abbrev Wu (id:Nat):AV:=.agg [A_ (eW id),A_ (dy id),A_ (dy id+cL id-1),A_ (bR id)]
def Pd:∀x∈ids,bq prog arW [A_ x]=some (.tup [Wu x,A_ 0]):=JF 100 ids (by kernel_rfl)
def H5:∀x∈ids,bq prog AZ [Wu x]=some (A_ (br x)):=JF 100 ids (by kernel_rfl)
def Ea {z:W_}{n:Nat}(h:n<=1000000000):Ga z (A_ n) (A_ n)=some (.own true z.length (List.replicate n z)):=by
 have h0:¬((n:Int)<0):=o_;have h1:Nat.ble n aY=true:=cf (aM h k_);have h2:Nat.ble n n=true:=by rw[abH];simp
 simp only[Ga,eK,h1,h2]
abbrev gC:=@Bool.not_eq_true
abbrev b9:=@List.getElem?_map
abbrev lK:=@List.getElem?_range
def SO (x:Nat):bq prog Ht [.d (.int .u8 x)]=some (B_ false):=by
 rw[aG UT UO rfl];simp(maxSteps:=9^6)(disch:=omega)[↓ac,↓aa]
def ajT (x y:Nat):bq prog DI [.d (.int .u8 x),.d (.int .u8 y)]=some (A_ (if x<y then -1 else if y<x then 1 else 0)):=by
 rw[aG Q4 Q9 rfl];by_cases h1:x<y
 .rw[ac h1];simp(maxSteps:=9^6)(disch:=omega)[↓ac,↓aa,SO]
 .rw[aa h1];by_cases h2:y<x
  .rw[ac h2];simp(maxSteps:=9^6)(disch:=omega)[↓ac,↓aa,SO]
  .rw[aa h2];simp(maxSteps:=9^6)(disch:=omega)[↓ac,↓aa,SO]
@[simp] def aFU {len n S o:Nat}{k:IntKind}{z:Int}(h0:0<=z)(h:z<len):KD len n (.ptr S o) (.d (.int k z))=some (.ptr S (o+z.toNat*n)):=by
 obtain⟨i,rfl⟩:=aA h0;have hl:Nat.ble len i=false:=by rw[<-gC,bp];omega
 show(match Nat.ble len i with|true=>none|false=>iQ (i*n) (.ptr S o))=_;rw[hl];rfl
def j7 (id:Nat):C_:=(List.range (br id)).map λe=>Ai id e
def cC (l:C_)(x y:Nat):Int:=if nth l x<nth l y then -1 else if nth l y<nth l x then 1 else 0
def sM (id:Nat):D_:=(List.range 289).map λe=>.d (.int .u8 (if e<br id then Ai id e else 0:Nat))
def acE {id:Nat}:(sM id).length=289:=by simp[sM]
def abb {id x:Nat}(h:x<br id)(h2:br id<=289):(sM id)[x]?=some (.d (.int .u8 (nth (j7 id) x:Nat))):=by
 have e:nth (j7 id) x=Ai id x:=by
  have:=yg (l:=j7 id) (i:=x) (by simp[j7];exact h);rw[j7,b9,lK h]at this;simpa [j7] using this.symm
 rw[e,sM,b9,lK o_];simp[h]
def aGg {hp:C_->am}{S id:Nat}(hS:∀xs,get (hp xs) S=some (.cells (sM id)))(h2:br id<=289):Cm hp (br id) (.fn Ja [] [.ptr S 0]) (cC (j7 id)) where
 sh:=rfl
 fi:=rfl
 cl xs N x y hx hy:=by
  have e1:=abb hx h2;have e2:=abb hy h2;show(Dn prog).call Ja ([]++([A_ (x:Nat),A_ (y:Nat)]++[.ptr S 0])) ⟨hp xs,N⟩=_;simp only[aK,aS];rw[be ai2 ai3 rfl];generalize sM id=Z at *;simp(maxSteps:=9^6)(disch:=omega)[↓ac,↓aa,hS,e1,e2,ajT,cC]
noncomputable section
def aAw {k i:Nat}(h:k=i):Nat.beq k i=true:=by rw[aD];exact h
def aCV {k i:Nat}(h:¬k=i):Nat.beq k i=false:=by rw[<-gC,aD];exact h
def np (l:C_):Nat->Nat:=List.rec (motive:=λ_=>Nat->Nat) (λ_=>0) (λx _ ih i=>Nat.casesOn (motive:=λ_=>Nat) i x (λk=>ih k)) l
def BC:∀(l:C_) (i:Nat),np l i=nth l i
 |[],i=>by simp[nth];rfl
 |x::l,0=>rfl
 |x::l,i+1=>BC l i
def anw (l:C_):Nat->Nat->C_:=List.rec (motive:=λ_=>Nat->Nat->C_) (λ_ _=>[]) (λx r ih i v=>Nat.casesOn (motive:=λ_=>C_) i (v::r) (λk=>x::ih k v)) l
def anb:∀(l:C_) (i v:Nat),anw l i v=l.set i v
 |[],i,v=>rfl
 |x::l,0,v=>rfl
 |x::l,i+1,v=>by
  show x::anw l i v=_;rw[anb l i v];rfl
def abD (xs:C_)(i j:Nat):C_:=anw (anw xs i (np xs j)) j (np xs i)
def Uv (xs:C_)(i j:Nat):abD xs i j=swp xs i j:=by simp only[abD,swp,anb,BC]
def Vc (l:C_)(x y:Nat):Bool:=Nat.ble (Nat.succ (np l x)) (np l y)
def FW (l:C_)(x y:Nat):(Vc l x y=true)=(cC l x y<0):=by
 simp only[Vc,BC,bp,cC];apply propext;constructor
 .intro h;rw[ac o_];omega
 .intro h;split at h
  .omega
  .split at h<;>omega
def Um (a b:Nat):Nat->Nat->C_->C_
 |0,_,xs=>xs
 |k+1,i,xs=>Um a b k (i+1) (abD xs (a+i) (b+i))
def Ot {a b:Nat}:∀(k i:Nat) (xs:C_),Um a b k i xs=swpR xs a b k i
 |0,_,_=>rfl
 |k+1,i,xs=>by rw[Um,swpR,Uv,Ot]
def ahx (m:Nat):Nat->C_->Nat->Nat->C_
 |0,xs,i,j=>xs
 |f+1,xs,i,j=>match Nat.beq i j with
  |true=>Um (m-i) m i 0 xs
  |false=>match Nat.ble i j with
   |true=>ahx m f (Um (m-i) (m+j-i) i 0 xs) i (j-i)
   |false=>ahx m f (Um (m-i) m j 0 xs) (i-j) j
def acz {m:Nat}:∀(f:Nat) (xs:C_) (i j:Nat),ahx m f xs i j=rot m f xs i j
 |0,_,_,_=>rfl
 |f+1,xs,i,j=>by
  rw[ahx,rot];by_cases h:i=j
  .rw[aAw h,ac h,Ot]
  .rw[aCV h,aa h];by_cases h2:j<i
   .rw[show Nat.ble i j=false by rw[<-gC,bp];omega,ac h2];simp only[acz,Ot]
   .rw[cf (by omega:i<=j),aa h2];simp only[acz,Ot]
section
variable (l:C_)
def af8 (a:Nat):Nat->C_->C_
 |0,xs=>xs
 |j+1,xs=>match Nat.ble a j with
  |false=>xs
  |true=>match Vc l (np xs (j+1)) (np xs j) with
   |true=>af8 a j (abD xs (j+1) j)
   |false=>xs
def ahP {a:Nat}:∀(j:Nat) (xs:C_),af8 l a j xs=insJ (cC l) a j xs
 |0,_=>rfl
 |j+1,xs=>by
  rw[af8,insJ];by_cases h:a<=j
  .rw[cf h];simp only[BC]
   cases h2:Vc l (nth xs (j+1)) (nth xs j) with
   |true=>rw[ac ⟨h,by rw[<-FW];exact h2⟩,<-ahP,Uv]
   |false=>rw[aa (λq=>by have:=q.2;rw[<-FW,h2]at this;exact absurd this s_)]
  .rw[show Nat.ble a j=false by rw[<-gC,bp];exact h,aa (λq=>h q.1)]
def Yn (a:Nat):Nat->Nat->C_->C_
 |0,_,xs=>xs
 |k+1,i,xs=>Yn a k (i+1) (af8 l a i xs)
def Xz {a:Nat}:∀(k i:Nat) (xs:C_),Yn l a k i xs=insO (cC l) a k i xs
 |0,_,_=>rfl
 |k+1,i,xs=>by rw[Yn,insO,ahP,Xz]
def ajg (xs:C_)(a:Nat):Nat->Nat->Nat->Nat
 |0,i,_=>i
 |f+1,i,j=>match Nat.ble j i with
  |true=>i
  |false=>match Vc l (np xs ((i+j) / 2)) (np xs a) with
   |true=>ajg xs a f ((i+j) / 2+1) j
   |false=>ajg xs a f i ((i+j) / 2)
def aa6 {xs:C_}{a:Nat}:∀(f i j:Nat),ajg l xs a f i j=Nm (cC l) xs a f i j
 |0,_,_=>rfl
 |f+1,i,j=>by
  rw[ajg,Nm];by_cases h:i<j
  .rw[show Nat.ble j i=false by rw[<-gC,bp];omega,ac h];simp only[BC]
   cases h2:Vc l (nth xs ((i+j) / 2)) (nth xs a) with
   |true=>rw[ac (by rw[<-FW];exact h2)];simp only[aa6]
   |false=>rw[aa (by rw[<-FW,h2];simp)];simp only[aa6]
  .rw[cf (by omega:j<=i),aa h]
def ajy (xs:C_)(m:Nat):Nat->Nat->Nat->Nat
 |0,i,_=>i
 |f+1,i,j=>match Nat.ble j i with
  |true=>i
  |false=>match Vc l (np xs m) (np xs ((i+j) / 2)) with
   |true=>ajy xs m f i ((i+j) / 2)
   |false=>ajy xs m f ((i+j) / 2+1) j
def abN {xs:C_}{m:Nat}:∀(f i j:Nat),ajy l xs m f i j=MY (cC l) xs m f i j
 |0,_,_=>rfl
 |f+1,i,j=>by
  rw[ajy,MY];by_cases h:i<j
  .rw[show Nat.ble j i=false by rw[<-gC,bp];omega,ac h];simp only[BC]
   cases h2:Vc l (nth xs m) (nth xs ((i+j) / 2)) with
   |true=>rw[ac (by rw[<-FW];exact h2)];simp only[abN]
   |false=>rw[aa (by rw[<-FW,h2];simp)];simp only[abN]
  .rw[cf (by omega:j<=i),aa h]
def ac7 (xs:C_)(p:Nat):Nat->Nat->Nat->Nat
 |0,i,_=>i
 |f+1,i,j=>match Nat.ble j i with
  |true=>i
  |false=>match Vc l (np xs (p-(i+j) / 2)) (np xs ((i+j) / 2)) with
   |true=>ac7 xs p f i ((i+j) / 2)
   |false=>ac7 xs p f ((i+j) / 2+1) j
def ac6 {xs:C_}{p:Nat}:∀(f i j:Nat),ac7 l xs p f i j=sQ (cC l) xs p f i j
 |0,_,_=>rfl
 |f+1,i,j=>by
  rw[ac7,sQ];by_cases h:i<j
  .rw[show Nat.ble j i=false by rw[<-gC,bp];omega,ac h];simp only[BC]
   cases h2:Vc l (nth xs (p-(i+j) / 2)) (nth xs ((i+j) / 2)) with
   |true=>rw[ac (by rw[<-FW];exact h2)];simp only[ac6]
   |false=>rw[aa (by rw[<-FW,h2];simp)];simp only[ac6]
  .rw[cf (by omega:j<=i),aa h]
def aol:Nat->Nat->C_->C_
 |0,_,xs=>xs
 |n+1,k,xs=>aol n (k+1) (abD xs k (k+1))
def amk:∀(n k:Nat) (xs:C_),aol n k xs=shU n k xs
 |0,_,_=>rfl
 |n+1,k,xs=>by rw[aol,shU,Uv,amk]
def apH:Nat->Nat->C_->C_
 |0,_,xs=>xs
 |n+1,k,xs=>apH n (k-1) (abD xs k (k-1))
def amf:∀(n k:Nat) (xs:C_),apH n k xs=shD n k xs
 |0,_,_=>rfl
 |n+1,k,xs=>by rw[apH,shD,Uv,amf]
def TJ:Nat->C_->Nat->Nat->Nat->C_
 |0,xs,_,_,_=>xs
 |f+1,xs,a,m,b =>
  if m-a=1 then aol (ajg l xs a (b-m) m b-1-a) a xs
  else if b-m=1 then apH (m-ajy l xs m (m-a) a m) m xs
  else
   let s:=if (a+b) / 2<m then ac7 l xs ((a+b) / 2+m-1) (b-a) ((a+b) / 2+m-b) ((a+b) / 2) else ac7 l xs ((a+b) / 2+m-1) (b-a) a m
   let e:=(a+b) / 2+m-s
   let ys:=if s<m∧m<e then ahx m (e-s) xs (m-s) (e-m) else xs
   let zs:=if a<s∧s<(a+b) / 2 then TJ f ys a s ((a+b) / 2) else ys
   if (a+b) / 2<e∧e<b then TJ f zs ((a+b) / 2) e b else zs
def WV:∀(f:Nat) (xs:C_) (a m b:Nat),TJ l f xs a m b=symM (cC l) f xs a m b
 |0,_,_,_,_=>rfl
 |f+1,xs,a,m,b=>by
  rw[TJ,symM];simp only[amk,amf,aa6,abN,ac6,acz,WV f]
def aiC (n:Nat):Nat->C_->Nat->C_×Nat
 |0,xs,a=>(xs,a)
 |f+1,xs,a=>if a+20<=n then aiC n f (Yn l a 19 (a+1) xs) (a+20) else (xs,a)
def amd {n:Nat}:∀(f:Nat) (xs:C_) (a:Nat),aiC l n f xs a=K8 (cC l) n f xs a
 |0,_,_=>rfl
 |f+1,xs,a=>by rw[aiC,K8];simp only[Xz,amd f]
def ai0 (n bs:Nat):Nat->C_->Nat->C_×Nat
 |0,xs,a=>(xs,a)
 |f+1,xs,a=>if a+2*bs<=n then ai0 n bs f (TJ l (2*bs) xs a (a+bs) (a+2*bs)) (a+2*bs) else (xs,a)
def amO {n bs:Nat}:∀(f:Nat) (xs:C_) (a:Nat),ai0 l n bs f xs a=Qk (cC l) n bs f xs a
 |0,_,_=>rfl
 |f+1,xs,a=>by rw[ai0,Qk];simp only[WV,amO f]
def anm (n bs:Nat)(p:C_×Nat):C_:=if p.2+bs<n then TJ l (n-p.2) p.1 p.2 (p.2+bs) n else p.1
def ay3 {n bs:Nat}(p:C_×Nat):anm l n bs p=stE (cC l) n bs p:=by rw[anm,stE];simp only[WV]
def auy (n:Nat)(p:C_×Nat):C_:=Yn l p.2 (n-(p.2+1)) (p.2+1) p.1
def awK {n:Nat}(p:C_×Nat):auy l n p=stS (cC l) n p:=Xz l _ _ _
def Sx (n:Nat):Nat->C_->Nat->C_
 |0,xs,_=>xs
 |f+1,xs,bs=>if bs<n then Sx n f (anm l n bs (ai0 l n bs n xs 0)) (2*bs) else xs
def amq {n:Nat}:∀(f:Nat) (xs:C_) (bs:Nat),Sx l n f xs bs=stL (cC l) n f xs bs
 |0,_,_=>rfl
 |f+1,xs,bs=>by rw[Sx,stL];simp only[ay3,amO,amq f]
def abp (n:Nat)(xs:C_):C_:=Sx l n n (auy l n (aiC l n n xs 0)) 20
def uJ {n:Nat}(xs:C_):abp l n xs=tq (cC l) n xs:=by rw[abp,tq,amq,awK,amd]
def rnd (n bs:Nat)(xs:C_):C_:=anm l n bs (ai0 l n bs n xs 0)
end
end
def st1:tq (cC (j7 1)) (br 1) (List.range (br 1))=cB 1:=by rw[<-uJ];decide +kernel
def st3:tq (cC (j7 3)) (br 3) (List.range (br 3))=cB 3:=by rw[<-uJ];decide +kernel
def st5:tq (cC (j7 5)) (br 5) (List.range (br 5))=cB 5:=by rw[<-uJ];decide +kernel
def st7:tq (cC (j7 7)) (br 7) (List.range (br 7))=cB 7:=by rw[<-uJ];decide +kernel
def aGQ:tq (cC (j7 12)) (br 12) (List.range (br 12))=cB 12:=by rw[<-uJ];decide +kernel
def st9:tq (cC (j7 9)) (br 9) (List.range (br 9))=cB 9:=by rw[<-uJ];decide +kernel
noncomputable section
def awf:C_:=[0,1,17,2,18,3,19,4,5,6,7,8,9,10,11,12,13,14,15,16,34,35,20,36,21,37,22,38,23,39,24,25,26,27,28,29,30,31,32,33,51,52,53,54,55,40,56,41,57,42,58,43,59,44,45,46,47,48,49,50,68,69,70,71,72,73,74,75,60,76,61,77,62,78,63,79,64,65,66,67,85,86,87,88,89,90,91,92,93,94,95,80,96,81,97,82,98,83,99,84,102,103,119,104,105,106,107,108,109,110,111,112,113,114,115,100,116,101,117,118,120,136,121,137,122,138,123,139,124,125,126,127,128,129,130,131,132,133,134,135,153,154,155,140,156,141,157,142,158,143,159,144,145,146,147,148,149,150,151,152,170,171,172,173,174,175,160,176,161,177,162,178,163,179,164,165,166,167,168,169,187,188,189,190,191,192,193,194,195,180,196,181,197,182,198,183,199,184,185,186,204,205,206,207,208,209,210,211,212,213,214,215,200,216,201,217,202,218,203,219,221,222,238,223,239,224,225,226,227,228,229,230,231,232,233,234,235,220,236,237,255,240,256,241,257,242,258,243,259,244,245,246,247,248,249,250,251,252,253,254,272,273,274,275,260,276,261,277,262,278,263,279,264,265,266,267,268,269,270,271,280,281,282,283,284,285,286,287,288]
def avH:C_:=[0,1,17,2,18,34,3,19,35,4,20,36,5,21,37,6,22,38,7,23,39,8,24,9,25,10,26,11,27,12,28,13,29,14,30,15,31,16,32,33,51,52,68,53,69,54,70,55,71,40,56,72,41,57,73,42,58,74,43,59,75,44,60,76,45,61,77,46,62,78,47,63,79,48,64,49,65,50,66,67,85,86,102,87,103,119,88,104,89,105,90,106,91,107,92,108,93,109,94,110,95,111,80,96,112,81,97,113,82,98,114,83,99,115,84,100,116,101,117,118,120,136,121,137,153,122,138,154,123,139,155,124,140,156,125,141,157,126,142,158,127,143,159,128,144,129,145,130,146,131,147,132,148,133,149,134,150,135,151,152,170,171,187,172,188,173,189,174,190,175,191,160,176,192,161,177,193,162,178,194,163,179,195,164,180,196,165,181,197,166,182,198,167,183,199,168,184,169,185,186,204,205,221,206,222,238,207,223,239,208,224,209,225,210,226,211,227,212,228,213,229,214,230,215,231,200,216,232,201,217,233,202,218,234,203,219,235,220,236,237,255,240,256,272,241,257,273,242,258,274,243,259,275,244,260,276,245,261,277,246,262,278,247,263,279,248,264,249,265,250,266,251,267,252,268,253,269,254,270,271,280,281,282,283,284,285,286,287,288]
def av5:C_:=[0,1,17,2,18,34,3,19,35,51,4,20,36,52,68,5,21,37,53,69,6,22,38,54,70,7,23,39,55,71,8,24,40,56,72,9,25,41,57,73,10,26,42,58,74,11,27,43,59,75,12,28,44,60,76,13,29,45,61,77,14,30,46,62,78,15,31,47,63,79,16,32,48,64,33,49,65,50,66,67,85,86,102,87,103,119,88,104,120,136,89,105,121,137,153,90,106,122,138,154,91,107,123,139,155,92,108,124,140,156,93,109,125,141,157,94,110,126,142,158,95,111,127,143,159,80,96,112,128,144,81,97,113,129,145,82,98,114,130,146,83,99,115,131,147,84,100,116,132,148,101,117,133,149,118,134,150,135,151,152,170,171,187,172,188,204,173,189,205,221,174,190,206,222,238,175,191,207,223,239,160,176,192,208,224,161,177,193,209,225,162,178,194,210,226,163,179,195,211,227,164,180,196,212,228,165,181,197,213,229,166,182,198,214,230,167,183,199,215,231,168,184,200,216,232,169,185,201,217,233,186,202,218,234,203,219,235,220,236,237,255,240,256,272,241,257,273,242,258,274,243,259,275,244,260,276,245,261,277,246,262,278,247,263,279,248,264,280,249,265,281,250,266,282,251,267,283,252,268,284,253,269,285,254,270,286,271,287,288]
def awg:C_:=[0,1,17,2,18,34,3,19,35,51,4,20,36,52,68,5,21,37,53,69,85,6,22,38,54,70,86,102,7,23,39,55,71,87,103,119,8,24,40,56,72,88,104,120,136,9,25,41,57,73,89,105,121,137,153,10,26,42,58,74,90,106,122,138,154,11,27,43,59,75,91,107,123,139,155,12,28,44,60,76,92,108,124,140,156,13,29,45,61,77,93,109,125,141,157,14,30,46,62,78,94,110,126,142,158,15,31,47,63,79,95,111,127,143,159,16,32,48,64,80,96,112,128,144,33,49,65,81,97,113,129,145,50,66,82,98,114,130,146,67,83,99,115,131,147,84,100,116,132,148,101,117,133,149,118,134,150,135,151,152,170,171,187,172,188,204,173,189,205,221,174,190,206,222,238,175,191,207,223,239,255,160,176,192,208,224,240,256,272,161,177,193,209,225,241,257,273,162,178,194,210,226,242,258,274,163,179,195,211,227,243,259,275,164,180,196,212,228,244,260,276,165,181,197,213,229,245,261,277,166,182,198,214,230,246,262,278,167,183,199,215,231,247,263,279,168,184,200,216,232,248,264,280,169,185,201,217,233,249,265,281,186,202,218,234,250,266,282,203,219,235,251,267,283,220,236,252,268,284,237,253,269,285,254,270,286,271,287,288]
def aCY:auy (j7 11) 289 (aiC (j7 11) 289 289 (List.range 289) 0)=awf:=e_
def aCy:rnd (j7 11) 289 20 awf=avH:=e_
def aCt:rnd (j7 11) 289 40 avH=av5:=e_
def aDq:rnd (j7 11) 289 80 av5=awg:=e_
def aB7:rnd (j7 11) 289 160 awg=cB 11:=e_
def aGC:tq (cC (j7 11)) 289 (List.range 289)=cB 11:=by
 rw[<-uJ,abp,aCY];have u:∀(f:Nat) (xs:C_) (bs:Nat),bs<289->Sx (j7 11) 289 (f+1) xs bs=Sx (j7 11) 289 f (rnd (j7 11) 289 bs xs) (2*bs):=λf xs bs h=>by rw[Sx,ac h];rfl
 rw[u 288 _ _ o_,aCy,u 287 _ _ o_,aCt,u 286 _ _ o_,aDq,u 285 _ _ o_,aB7];rw[show(285:Nat)=284+1 from rfl,Sx,aa o_]
end
abbrev cx:=@List.replicate_succ
abbrev fg:=@List.set_append_right
abbrev uE:=@Nat.sub_self
def at9:j7 2=j7 1∧j7 4=j7 3∧j7 6=j7 5∧j7 8=j7 7∧j7 10=j7 9:=⟨rfl,rfl,rfl,rfl,rfl⟩
def ao7:cB 2=cB 1∧cB 4=cB 3∧cB 6=cB 5∧cB 8=cB 7∧cB 10=cB 9:=⟨rfl,rfl,rfl,rfl,rfl⟩
def aBz (id:Nat)(h:jY id):tq (cC (j7 id)) (br id) (List.range (br id))=cB id:=by
 obtain⟨p2,p4,p6,p8,p10⟩:=at9;obtain⟨q2,q4,q6,q8,q10⟩:=ao7;have h1:id=1∨id=2∨id=3∨id=4∨id=5∨id=6∨id=7∨id=8∨id=9∨id=10∨id=11∨id=12:=o_;rcases h1 with rfl|rfl|rfl|rfl|rfl|rfl|rfl|rfl|rfl|rfl|rfl|rfl
 .exact st1
 .rw[p2,q2];exact st1
 .exact st3
 .rw[p4,q4];exact st3
 .exact st5
 .rw[p6,q6];exact st5
 .exact st7
 .rw[p8,q8];exact st7
 .exact st9
 .rw[p10,q10];exact st9
 .exact aGC
 .exact aGQ
def amG:∀id∈ids,br id<=289∧br id % 20≠0∧1<=br id:=e_
def rks (es:C_):Nat->Nat->C_->C_
 |0,_,R=>R
 |k+1,i,R=>rks es k (i+1) (R.set (nth es i) i)
def awW:∀id∈ids,rks (cB id) (br id) 0 (List.replicate (br id) 0)=dT id:=e_
def amR:∀id∈ids,(cB id).length=br id∧(dT id).length=br id∧(cB id).all (λe=>decide (e<br id))=true:=e_
def Gr (n i:Nat):C_:=List.range i++List.replicate (n-i) 0
def asZ {n i:Nat}(h:i<=n):(Gr n i).length=n:=by simp[Gr];omega
def atj {n i:Nat}(h:i<n):(Gr n i).set i i=Gr n (i+1):=by
 unfold Gr;obtain⟨k,hk⟩:∃k,n-i=k+1:=⟨n-i-1,o_⟩
 rw[hk,cx,fg _ _ s_,sH,uE,List.set_cons_zero,List.range_succ,ax]
 congr 2
 rw[show n-(i+1)=k by omega];rfl
section
variable (id n:Nat)(Z:D_)
def akR (hn:n<=289)(R:C_)(a b c d:AV)(x0 x1:D)(N:Nat):∀(k i:Nat),i+k=n->
  (Dn prog).code (.loop zZ) ⟨[(2,.ptr 0 0),(6,.ptr 4 0),(7,.ptr 5 0),(34,A_ n),(35,A_ i)],
   ⟨[(0,.cells [a,b,c,d]),(2,.arr 1 (cY (Gr n i))),(3,.arr 1 (cY R)),(4,.cells [.d x0,.d x1,.sl 2 0 n,.sl 3 0 n]),(5,.cells Z)],N⟩⟩ =
  some (.exit 0,⟨[(2,.ptr 0 0),(6,.ptr 4 0),(7,.ptr 5 0)],⟨[(0,.cells [a,b,c,d]),(2,.arr 1 (cY (Gr n n))),(3,.arr 1 (cY R)),(4,.cells [.d x0,.d x1,.sl 2 0 n,.sl 3 0 n]),(5,.cells Z)],N⟩⟩):=by
 intro k
 induction k with
 |zero =>
  intro i h;have:i=n:=o_;subst this;rw[ah QR];simp(maxSteps:=9^6)(disch:=omega)[↓ac,↓aa]
 |succ k ih =>
  intro i h;have l:=asZ (n:=n) (i:=i) o_;have h5:=ih (i+1) o_;have c1:((i+1:Nat):Int)=(i:Int)+1:=rfl;rw[c1]at h5;rw[ah QR,<-h5,<-atj o_];generalize Gr n i=xs at *;simp(maxSteps:=9^6)(disch:=omega)[↓ac,↓aa]
def ali (hn:n<=289)(es:C_)(he:es.length=n)(hu:fC n es)(a b c d:AV)(x0 x1:D)(N:Nat):∀(k i:Nat) (R:C_),i+k=n->R.length=n->
  (Dn prog).code (.loop Ao) ⟨[(2,.ptr 0 0),(6,.ptr 4 0),(49,.sl 2 0 n),(50,A_ n),(51,A_ i)],
   ⟨[(0,.cells [a,b,c,d]),(2,.arr 1 (cY es)),(3,.arr 1 (cY R)),(4,.cells [.d x0,.d x1,.sl 2 0 n,.sl 3 0 n]),(5,.cells Z)],N⟩⟩ =
  some (.exit 2,⟨[(2,.ptr 0 0),(6,.ptr 4 0)],⟨[(0,.cells [a,b,c,d]),(2,.arr 1 (cY es)),(3,.arr 1 (cY (rks es k i R))),(4,.cells [.d x0,.d x1,.sl 2 0 n,.sl 3 0 n]),(5,.cells Z)],N⟩⟩):=by
 intro k
 induction k with
 |zero =>
  intro i R h hR;rw[ah P6];simp(maxSteps:=9^6)(disch:=omega)[↓ac,↓aa,rks]
 |succ k ih =>
  intro i R h hR;have h5:=ih (i+1) (R.set (nth es i) i) o_ (by simpa using hR);have c1:((i+1:Nat):Int)=(i:Int)+1:=rfl;have hv:=hu.nth (i:=i) o_;rw[c1]at h5;rw[ah P6,rks,<-h5];simp(maxSteps:=9^6)(disch:=omega)[↓ac,↓aa]
end
abbrev mo:=@List.set_eq_take_append_cons_drop
abbrev tB:=@List.getElem_take
abbrev ir:=@List.getElem?_eq_none
abbrev mN:=@List.drop_zero
@[simp] def aGO {h:am}{n id off:Nat}{k:IntKind}{z:Int}(h0:0<=z)(h1:z<=n):Ti h n (.ptr id off) none (some (.d (.int k z))) none=bA (get h id) λo=>bA (cellsOf o) λcs=>dU (Nat.ble (off+n) cs.length) (some (.sl id off z.toNat)):=by
 obtain⟨d,rfl⟩:=aA h0;have hd:Nat.ble d n=true:=cf o_;have hb:xb n none (some (.d (.int k (d:Int)))) none=some (0,d,n):=by
  show(match (match Nat.ble d n with|true=>some d|false=>none) with|none=>none|some h=>v7 none h n)=_;rw[hd];rfl
 simp only[Ti,T5]
 cases get h id with
 |none=>rfl
 |some o =>
  cases o with
  |cells cs =>
   simp only[bA,cellsOf,hb]
   cases Nat.ble (off+n) cs.length<;>simp[dU]
  |arr=>rfl
  |loop=>rfl
def vc (V:G_):D_:=V.map λz=>A_ z
def RN {V:G_}:(vc V).length=V.length:=by simp[vc]
def apW {V:G_}{i:Nat}(h:i<V.length):(vc V)[i]?=some (A_ (nth V i)):=by
 rw[vc,b9,yg h];rfl
def azZ {V:G_}{i:Nat}{z:Int}:(vc V).set i (A_ z)=vc (V.set i z):=by simp[vc,jU]
def aiP {V:G_}{i:Nat}{z:Int}(h:i<V.length):List.take i (vc V)++AV.d (.int .i64 z)::List.drop (i+1) (vc V)=vc (V.set i z):=by
 rw[<-azZ,mo,ac (by rw[RN];exact h)]
def odo (lo hi:Int):Nat->G_->G_
 |0,V=>V
 |i+1,V=>if nth V i+1<=hi then V.set i (nth V i+1) else odo lo hi i (V.set i lo)
abbrev Sm (V:G_):Prop:=∀z∈V,-100000<=z∧z<=100000
section
variable (k1:AV)(dm lo hi pl:Int)(cJ:D_)(N:Nat)
def auY (d n m:Nat)(hd:d<=4)(V:G_)(hV:V.length=4)(hs:Sm V):∀(k i sum:Nat),i+k=d->sum<=1000000*(i+1)->
  (Dn prog).code (.loop oh) ⟨[(1,.ptr 0 0),(2,.ptr 1 0),(3,.ptr 2 0),(5,A_ n),(6,A_ sum),(21,A_ m),(22,A_ n),(27,.sl 2 0 d),(28,A_ d),(29,A_ i)],
   ⟨[(0,.cells [A_ dm,A_ lo,A_ hi,A_ pl]),(1,.cells cJ),(2,.cells (vc V))],N⟩⟩ =
  some (.exit 4,⟨[(1,.ptr 0 0),(2,.ptr 1 0),(3,.ptr 2 0),(5,A_ n),(6,A_ ((sum+Px ((V.take d).drop i):Nat))),(21,A_ m),(22,A_ n)],
   ⟨[(0,.cells [A_ dm,A_ lo,A_ hi,A_ pl]),(1,.cells cJ),(2,.cells (vc V))],N⟩⟩):=by
 intro k
 induction k with
 |zero =>
  intro i sum h1 h2;have e:(V.take d).drop i=[]:=co g_;rw[ah Db,e];simp(maxSteps:=9^6)(disch:=omega)[↓ac,↓aa,Px]
 |succ k ih =>
  intro i sum h1 h2;have hg:=apW (V:=V) (i:=i) o_;have hb:=hs (nth V i) (jE o_);have e:(V.take d).drop i=nth V i::(V.take d).drop (i+1):=by
   rw[eY g_]
   congr 1
   rw[tB,Z6 o_]
  have h5:=ih (i+1) (sum+(nth V i).natAbs) o_ o_;have es:sum+Px ((V.take d).drop i)=sum+(nth V i).natAbs+Px ((V.take d).drop (i+1)):=by rw[e,Px];omega
  rw[es];have c1:((i+1:Nat):Int)=(i:Int)+1:=rfl;rw[c1]at h5;rw[ah Db,<-h5];generalize nth V i=z at *;by_cases hz:z<0
  .have c2:((sum+z.natAbs:Nat):Int)=(sum:Int)+-z:=o_;rw[c2];simp(maxSteps:=9^6)(disch:=omega)[↓ac,↓aa,hg]
  .have c2:((sum+z.natAbs:Nat):Int)=(sum:Int)+z:=o_;rw[c2];simp(maxSteps:=9^6)(disch:=omega)[↓ac,↓aa,hg]
def as7 (n m:Nat)(hlo:-1000<=lo∧lo<=1000):∀(j:Nat) (V:G_),j<=4->V.length=4->Sm V->
  (Dn prog).code (.loop oB) ⟨[(1,.ptr 0 0),(2,.ptr 1 0),(3,.ptr 2 0),(9,A_ ((j:Int)-1)),(21,A_ m),(22,A_ n)],
   ⟨[(0,.cells [A_ dm,A_ lo,A_ hi,A_ pl]),(1,.cells cJ),(2,.cells (vc V))],N⟩⟩ =
  some (.exit 6,⟨[(1,.ptr 0 0),(2,.ptr 1 0),(3,.ptr 2 0),(21,A_ m),(22,A_ n)],
   ⟨[(0,.cells [A_ dm,A_ lo,A_ hi,A_ pl]),(1,.cells cJ),(2,.cells (vc (odo lo hi j V)))],N⟩⟩):=by
 intro j
 induction j with
 |zero =>
  intro V h1 hV hs;rw[ah C7];simp(maxSteps:=9^6)(disch:=omega)[↓ac,↓aa,odo]
 |succ j ih =>
  intro V h1 hV hs;have hg:=apW (V:=V) (i:=j) o_;have hb:=hs (nth V j) (jE o_);have hgs:∀z,(vc (V.set j z))[j]?=some (A_ z):=λz=>by
   rw[vc,b9,uX o_];rfl
  have c1:((j+1:Nat):Int)-1=(j:Int):=o_;have lp:=λz=>aiP (V:=V) (i:=j) (z:=z) (by omega)
  have lq:=λy z=>aiP (V:=V.set j y) (i:=j) (z:=z) (by simp;omega)
  have hss:∀y z,(V.set j y).set j z=V.set j z:=λy z=>List.set_set ..
  have hl2:∀y,(V.set j y).length=4:=λy=>by simpa using hV
  rw[c1,ah C7,odo];by_cases h:nth V j+1<=hi
  .rw[ac h];generalize nth V j=z at *;simp(maxSteps:=9^6)(disch:=omega)[↓ac,↓aa,hg,RN,lp,lq,hss,hl2,hV,hgs]
  .have h5:=ih (V.set j lo) o_ (by simpa using hV) (λz hz=>by
    rcases fU hz with g|g
    .exact hs z g
    .subst g;omega)
   rw[aa h,<-h5];generalize nth V j=z at *;simp(maxSteps:=9^6)(disch:=omega)[↓ac,↓aa,hg,RN,lp,lq,hss,hl2,hV,hgs]
def aaT (lo:Int):Nat->Nat->G_->G_
 |0,_,V=>V
 |k+1,i,V=>aaT lo k (i+1) (V.set i lo)
def au9 (d:Nat)(hd:d<=4):∀(k i:Nat) (V:G_),i+k=d->V.length=4->
  (Dn prog).code (.loop ox) ⟨[(1,.ptr 0 0),(2,.ptr 1 0),(3,.ptr 2 0),(11,A_ d),(12,A_ i)],
   ⟨[(0,.cells [A_ dm,A_ lo,A_ hi,A_ pl]),(1,.cells cJ),(2,.cells (vc V))],N⟩⟩ =
  some (.exit 0,⟨[(1,.ptr 0 0),(2,.ptr 1 0),(3,.ptr 2 0)],
   ⟨[(0,.cells [A_ dm,A_ lo,A_ hi,A_ pl]),(1,.cells cJ),(2,.cells (vc (aaT lo k i V)))],N⟩⟩):=by
 intro k
 induction k with
 |zero =>
  intro i V h1 hV;rw[ah C8];simp(maxSteps:=9^6)(disch:=omega)[↓ac,↓aa,aaT]
 |succ k ih =>
  intro i V h1 hV;have lp:=λz=>aiP (V:=V) (i:=i) (z:=z) (by omega)
  have h5:=ih (i+1) (V.set i lo) o_ (by simpa using hV);have c1:((i+1:Nat):Int)=(i:Int)+1:=rfl;rw[c1]at h5;rw[ah C8,aaT,<-h5];simp(maxSteps:=9^6)(disch:=omega)[↓ac,↓aa,RN,lp,hV]
end
def Bh (id n:Nat):G_:=(mU id n++[0,0,0,0]).take 4
def avQ (id n:Nat):Bool:=decide (odo (dy id) (dy id+cL id-1) (eW id) (Bh id n)=Bh id (n+1)) && decide (Px ((Bh id n).take (eW id))=Ai id n) && decide (Ai id n<=255) &&
 (Bh id n).all (λz=>decide (-100000<=z) && decide (z<=100000)) && decide ((Bh id n).length=4)
def axe:∀id∈ids,(List.range (br id)).all (avQ id)=true:=e_
def azt {id n:Nat}(h:jY id)(hn:n<br id):odo (dy id) (dy id+cL id-1) (eW id) (Bh id n)=Bh id (n+1)∧Px ((Bh id n).take (eW id))=Ai id n∧Ai id n<=255∧Sm (Bh id n)∧(Bh id n).length=4:=by
 have:=bJ.1 (axe id (gy h)) n (by simpa using hn);simp only[avQ,af,decide_eq_true_eq,bJ]at this;exact⟨this.1.1.1.1,this.1.1.1.2,this.1.1.2,λz hz=>this.1.2 z hz,this.2⟩
def av8:∀id∈ids,aaT (dy id) (eW id) 0 [0,0,0,0]=Bh id 0∧eW id<=4∧1<=eW id∧-1000<=dy id∧dy id<=1000∧br id<=289:=e_
def uK (id n:Nat):D_:=(List.range 289).map λe=>.d (.int .u8 (if e<n then Ai id e else 0:Nat))
def X5 {id n:Nat}:(uK id n).length=289:=by simp[uK]
def atH {id n:Nat}(h:n<289):List.take n (uK id n)++AV.d (.int .u8 (Ai id n:Nat))::List.drop (n+1) (uK id n)=uK id (n+1):=by
 have e:(uK id n).set n (AV.d (.int .u8 (Ai id n:Nat)))=uK id (n+1):=by
  apply dW;intro j;rw[List.getElem?_set];by_cases hj:n=j
  .subst hj;rw[ac rfl,ac (by rw[X5];exact h),uK,b9,lK h];simp
  .rw[aa hj,uK,uK,b9,b9];by_cases hl:j<289
   .rw[lK hl];simp only[vN];by_cases h2:j<n
    .rw[ac h2,ac o_]
    .rw[aa h2,aa o_]
   .rw[ir g_];rfl
 rw[<-e,mo,ac (by rw[X5];exact h)]
def asM (id:Nat)(h:jY id)(pl:Int)(N:Nat):∀(k n:Nat),n+k=br id->
  (Dn prog).code (.loop oi) ⟨[(1,.ptr 0 0),(2,.ptr 1 0),(3,.ptr 2 0),(21,A_ (br id)),(22,A_ n)],
   ⟨[(0,.cells [A_ (eW id),A_ (dy id),A_ (dy id+cL id-1),A_ pl]),(1,.cells (uK id n)),(2,.cells (vc (Bh id n)))],N⟩⟩ =
  some (.exit 2,⟨[(2,.ptr 1 0)],⟨[(1,.cells (uK id (br id))),(2,.cells (vc (Bh id (br id))))],N⟩⟩):=by
 obtain⟨d0,d1,d2,d3,d4,d5⟩:=av8 id (gy h);intro k
 induction k with
 |zero =>
  intro n hn;have:n=br id:=o_;subst this;rw[ah CR];simp(maxSteps:=9^6)(disch:=omega)[↓ac,↓aa]
 |succ k ih =>
  intro n hn;obtain⟨f1,f2,f3,f4,f5⟩:=azt (n:=n) h o_;have g1:=auY (eW id) (dy id) (dy id+cL id-1) pl (uK id n) N (eW id) n (br id) d1 (Bh id n) f5 f4 (eW id) 0 0 o_ o_;have g2:=as7 (eW id) (dy id) (dy id+cL id-1) pl (uK id (n+1)) N n (br id) ⟨d3,d4⟩ (eW id) (Bh id n) d1 f5 f4;rw[f1]at g2;rw[mN,f2,bn]at g1;have h5:=ih (n+1) o_;have c1:((n+1:Nat):Int)=(n:Int)+1:=rfl;have c0:((0:Nat):Int)=0:=rfl;rw[c1]at h5;rw[c0]at g1;have hp:=atH (id:=id) (n:=n) o_;have hl:=RN (V:=Bh id n);have ol:=X5 (id:=id) (n:=n);rw[ah CR,<-h5];generalize Ai id n=z at *;generalize hA:uK id n=A at *;generalize hB:uK id (n+1)=B at *;generalize Bh id n=V at *;generalize Bh id (n+1)=W at *;simp(maxSteps:=9^6)(disch:=omega)[↓ac,↓aa,g1,g2,hp,AV.int]
def Mn:D_:=List.replicate 289 (.d (.int .u8 0))
def aih:Mn.length=289:=by simp[Mn]
def az9 {id:Nat}:uK id 0=Mn:=by
 simp only[uK,Nat.not_lt_zero,bm,Mn];rw[List.map_const',sH];rfl
def avb {id:Nat}:uK id (br id)=sM id:=rfl
def aDY {x0:AV}{h:am}{n:Nat}:(Dn prog).code ou ⟨[(0,x0)],⟨h,n⟩⟩=fH (dU ((AV.cells x0).all bl) <|lA (put h n (.cells (AV.cells x0))) λh1=>lA (put h1 (n+1) (.cells Mn)) λh2=>some ⟨[(1,.ptr n 0),(2,.ptr (n+1) 0)],⟨h2,n+1+1⟩⟩):=BH
abbrev Dl (Z:D_):Prop:=∀x∈Z,∃d,x=AV.d d
def ajE:∀{Z:D_},(fY 1 Z).1=Z
 |[]=>rfl
 |v::r=>by rw[fY,ajE];rfl
def ahS {h:am}:∀{Z:D_},Dl Z->sv h Z=some (Z,h)
 |[],_=>rfl
 |v::r,hz=>by
  obtain⟨d,rfl⟩:=hz v (.head _);have h1:kj h (.d d)=some (.d d,h):=rfl;rw[sv,h1];simp only[ahS (Z:=r) λx hx=>hz x (.tail _ hx)]
def aiR:∀{Z:D_},Dl Z->Z.map nS=Z
 |[],_=>rfl
 |v::r,hz=>by
  obtain⟨d,rfl⟩:=hz v (.head _);rw[bL,aiR λx hx=>hz x (.tail _ hx)];rfl
def avT {id:Nat}:Dl (sM id):=by
 intro x hx;simp only[sM,dC]at hx;obtain⟨e,_,rfl⟩:=hx;exact⟨_,rfl⟩
def YB (id:Nat)(h:jY id):bq prog ig [Wu id]=some (.agg (sM id)):=by
 have hin:=gy h;obtain⟨d0,d1,d2,d3,d4,d5⟩:=av8 id hin;have hm:=H5 id hin;have h0:=au9 (eW id) (dy id) (dy id+cL id-1) (bR id) Mn 3 (eW id) d1 (eW id) 0 [0,0,0,0] o_ rfl;have h3:=asM id h (bR id) 3 (br id) 0 o_;have c0:((0:Nat):Int)=0:=rfl;have v0:vc [0,0,0,0]=[A_ 0,A_ 0,A_ 0,A_ 0]:=rfl;rw[d0,c0,v0]at h0;rw[az9,avb,c0]at h3;have zl:=acE (id:=id);have zr:=λh=>ahS (h:=h) (avT (id:=id))
 have zb:=aiR (avT (id:=id));have zt:List.take 289 (sM id)=sM id:=bH o_;have z1:=ajE (Z:=sM id);simp only[Wu]at hm⊢;rw[aG UM UW rfl];generalize sM id=Z at *;generalize vc (Bh id 0)=V0 at *;generalize vc (Bh id (br id))=V1 at *;generalize bR id=pl at *;generalize eW id=dm at *;generalize dy id=lo at *;generalize cL id=wi at *;generalize br id=n at *;simp(maxSteps:=9^6)(disch:=omega)[↓ac,↓aa,hm,h0,h3,-BH,aDY,zt,z1,zr];exact λ_=>zb
def anR {hp:C_->am}{D L:Nat}{F:AV}{C:Nat->Nat->Int}(H:Hp hp D)(K:Cm hp L F C)(n:Nat)(hlen:n<=1000000000)(hn:n % 20≠0)(N:Nat)(xs:C_)(hx:xs.length=n)(u:fC L xs) :
  (Dn prog).call sW [.sl D 0 n,F] ⟨hp xs,N⟩=some (.tup [],⟨hp (tq C n xs),N⟩):=by
 have h:=arM H K n hlen hn N xs hx u;rw[be Ef Fb rfl];simp(maxSteps:=9^6)(disch:=omega)[↓ac,↓aa,K.sh,K.fi,h]
def aCU {x2:AV}{x4:AV}{x6:AV}{h:am}{n:Nat}:(Dn prog).code Ah ⟨[(2,x2),(4,x4),(6,x6)],⟨h,n⟩⟩=fH (bP (loadAt h (some 4) 1 (share x4)) λa1 h2=>bA (fw (Dn prog) ig [firm a1] h2) λa3=>lA (put h2 n (.cells Mn)) λh4=>bA (storeAt h4 289 (.ptr n 0) (firm a3)) λh5=>some ⟨[(2,x2),(4,x4),(6,x6),(7,.ptr n 0)],⟨h5,n+1⟩⟩):=MM
def ahO {W Z:D_}(h:W.length=Z.length):aH W 0 Z=Z:=by simp[aH,<-h]
def aiA {id:Nat}:(sM id).all bl=true:=by
 rw[bJ];intro x hx;simp only[sM,dC]at hx;obtain⟨e,_,rfl⟩:=hx;rfl
def agm {id:Nat}:(sM id).map mW=sM id:=by
 simp only[sM,uh];rfl
def atg {n:Nat}:List.replicate n [D.int .i64 0]=cY (List.replicate n 0):=by simp[cY]
def aro (id:Nat)(h:jY id):bq prog HY [A_ id]=some (.tup [YY id,A_ 0]):=by
 have hin:=gy h;obtain⟨m1,m2,m3⟩:=amG id hin;obtain⟨e1,e2,e3⟩:=amR id hin;have hR:=awW id hin;have t1:List.take (br id) (cB id)=cB id:=bH o_;have t2:List.take (br id) (dT id)=dT id:=bH o_;have hst:=aBz id h;have ho:=Pd id hin;have hm:=H5 id hin;have hz:=YB id h;have zl:=acE (id:=id);have zc:=aiA (id:=id);have zf:=agm (id:=id);have z9:=aih;have zd:List.drop (sM id).length Mn=[]:=co o_;have hu:fC (br id) (cB id):=λx hx=>by simpa using bJ.1 e3 x hx
 have hs:=λa b c d x0 x1 R N=>anR (hp:=λxs=>[(0,.cells [a,b,c,d]),(2,.arr 1 (cY xs)),(3,.arr 1 (cY R)),(4,.cells [.d x0,.d x1,.sl 2 0 (br id),.sl 3 0 (br id)]),(5,.cells (sM id))]) (D:=2)
  ⟨λxs=>rfl,λxs ys=>rfl⟩ (aGg (S:=5) (λxs=>rfl) m1) (br id) o_ m2 N (List.range (br id)) s_ (λx hx=>by simpa using hx)
 have h0:=λa b c d x0 x1 R N=>akR (br id) (sM id) m1 R a b c d x0 x1 N (br id) 0 (by omega)
 have h1:=λa b c d x0 x1 N=>ali (br id) (sM id) m1 (cB id) e1 hu a b c d x0 x1 N (br id) 0 (List.replicate (br id) 0) o_ (by simp)
 have hup:Gr (br id) (br id)=List.range (br id):=by simp[Gr]
 have hu0:Gr (br id) 0=List.replicate (br id) 0:=by simp[Gr]
 rw[hup,hu0]at h0;simp only[hst,hR,Wu]at hs h1 ho hm hz;rw[aG apc apv rfl];have hid:(1:Int)<=id∧(id:Int)<=12:=o_;have c0:((0:Nat):Int)=0:=rfl;rw[c0]at h0 h1;simp only[YY];generalize sM id=Z at *;generalize cB id=es at *;generalize dT id=rs at *;generalize bR id=pl at *;generalize eW id=dm at *;generalize dy id=lo at *;generalize cL id=wi at *;generalize br id=n at *;simp(maxSteps:=9^6)(disch:=omega)[↓ac,↓aa,ho,hm,hz,h0,hs,h1,-MM,aCU,ahO,zc,zf,zd,Ea,atg,AV.int,t1,t2]
def lc (id:Nat):Bool:=decide (dy id<0)
def Sd:∀x∈ids.take 11,bq prog aeF [A_ x]=some (B_ (lc x)):=JF 100 _ (by kernel_rfl)
section
variable (id:Nat)
end
section
variable (n:Nat)(sz:C_)(hz:sz.length=n)(hn2:n<=289)(a b c d:AV)(x0 x1:D)(N:Nat)
include hz hn2
end
def okR (sz es rs:C_)(i:Nat):Bool:=Nat.beq (np rs (np es i)) i &&
 (Nat.beq i 0 ||Nat.blt (np sz (np es (i-1))) (np sz (np es i)) ||(Nat.beq (np sz (np es (i-1))) (np sz (np es i)) && Nat.blt (np es (i-1)) (np es i)))
def axL:∀id∈ids,(List.range (br id)).all (okR (j7 id) (cB id) (dT id))=true:=e_
def arb {id i:Nat}(h:jY id)(hi:i<br id):nth (dT id) (nth (cB id) i)=i∧(i≠0->nth (j7 id) (nth (cB id) (i-1))<nth (j7 id) (nth (cB id) i)∨(nth (j7 id) (nth (cB id) (i-1))=nth (j7 id) (nth (cB id) i)∧nth (cB id) (i-1)<nth (cB id) i)):=by
 have:=bJ.1 (axL id (gy h)) i (by simpa using hi);simp only[okR,BC,af,dc,aD,Nat.blt,bp]at this;refine⟨this.1,λh0=>?_⟩;rcases this.2 with (h1|h1)|h1
 .exact absurd h1 h0
 .exact .inl h1
 .exact .inr h1
section
variable (n:Nat)(hn:n<=289)(sz es rs:C_)(Z:D_)(he:es.length=n)(hr:rs.length=n)(hu:fC n es)(hZ:∀x,x<n->Z[x]?=some (.d (.int .u8 (nth sz x:Nat))))
 (h1:∀i,i<n->nth rs (nth es i)=i)(h2:∀i,i+1<n->nth sz (nth es i)<nth sz (nth es (i+1))∨(nth sz (nth es i)=nth sz (nth es (i+1))∧nth es i<nth es (i+1)))
include hn he hr hu hZ h1 h2
theorem afM (x0 x1:D)(N:Nat):∀(k i:Nat),i+k=n->
  (Dn prog).code (.loop wF) ⟨[(1,.ptr 0 0),(5,.ptr 2 0),(43,.d (.lst (cY es))),(44,A_ n),(45,A_ i)],⟨[(0,.cells [.d x0,.d x1,.d (.lst (cY es)),.d (.lst (cY rs))]),(2,.cells Z)],N⟩⟩ =
  some (.exit 0,⟨[],⟨[],N⟩⟩):=by
 intro k
 induction k with
 |zero =>
  intro i h;rw[ah KB];simp(maxSteps:=9^6)(disch:=omega)[↓ac,↓aa]
 |succ k ih =>
  intro i h;have hv:=hu.nth (i:=i) o_;have e1:=hZ _ hv;have r1:=h1 i o_;have h5:=ih (i+1) o_;have c1:((i+1:Nat):Int)=(i:Int)+1:=rfl;rw[c1]at h5;rw[ah KB,<-h5];by_cases h0:i=0
  .subst h0;have c0:((0:Nat):Int)=0:=rfl;rw[c0];have n0:(0:Int)=((0:Nat):Int):=rfl;simp(maxSteps:=9^6)(disch:=omega)[↓ac,↓aa,r1]
  .obtain⟨q,rfl⟩:∃q,i=q+1:=⟨i-1,o_⟩
   have hw:=hu.nth (i:=q) o_;have e2:=hZ _ hw;rcases h2 q o_ with g|⟨g1,g2⟩
   .simp(maxSteps:=9^6)(disch:=omega)[↓ac,↓aa,r1,e1,e2]
   .simp(maxSteps:=9^6)(disch:=omega)[↓ac,↓aa,r1,e1,e2]
end
def aCA {x1:AV}{x3:AV}{h:am}{n:Nat}:(Dn prog).code wd ⟨[(1,x1),(3,x3)],⟨h,n⟩⟩=fH (bP (loadAt h (some 4) 1 (share x3)) λa1 h2=>bA (fw (Dn prog) ig [firm a1] h2) λa3=>lA (put h2 n (.cells Mn)) λh4=>bA (storeAt h4 289 (.ptr n 0) (firm a3)) λh5=>some ⟨[(1,x1),(3,x3),(5,.ptr n 0)],⟨h5,n+1⟩⟩):=JB
def aj6 (id:Nat)(h:jY id):bq prog JT [oA id]=some (B_ true):=by
 have hin:=gy h;obtain⟨m1,m2,m3⟩:=amG id hin;obtain⟨e1,e2,e3⟩:=amR id hin;have ho:=Pd id hin;have hm:=H5 id hin;have hz:=YB id h;have zl:=acE (id:=id);have zc:=aiA (id:=id);have zf:=agm (id:=id);have z9:=aih;have zd:List.drop (sM id).length Mn=[]:=co o_;have hu:fC (br id) (cB id):=λx hx=>by simpa using bJ.1 e3 x hx
 have h0:=λx0 x1 N=>afM (br id) m1 (j7 id) (cB id) (dT id) (sM id) e1 e2 hu (λx hx=>abb hx m1) (λi hi=>(arb h hi).1) (λi hi=>by have:=(arb h hi).2 o_;simpa using this) x0 x1 N (br id) 0 (by omega)
 simp only[Wu]at ho hm hz;rw[aG ajd ajv rfl];have hid:(1:Int)<=id∧(id:Int)<=12:=o_;have c0:((0:Nat):Int)=0:=rfl;rw[c0]at h0;simp only[oA];generalize sM id=Z at *;generalize j7 id=zs at *;generalize cB id=es at *;generalize dT id=rs at *;generalize bR id=pl at *;generalize eW id=dm at *;generalize dy id=lo at *;generalize cL id=wi at *;generalize br id=n at *;simp(maxSteps:=9^6)(disch:=omega)[↓ac,↓aa,ho,hm,hz,h0,-JB,aCA,ahO,zc,zf,zd,AV.int,e1,e2]
def mR (b:C_):Nat->Nat->Int->R Nat
 |0,_,_=>.er 7
 |f+1,m,a=>(bi b a 1).bind λv n=>if v=1 then .ok m n else mR b f (m+1) n
abbrev pZ (b:C_)(m n:Nat):Prop:=m<=9∧n<=b.length
def agp {b:C_}:∀{f m k n:Nat}{a:Int},f+m=10->mR b f m a=.ok k n->pZ b k n
 |0,_,_,_,_,_,h=>absurd h (by simp[mR])
 |f+1,m,k,n,a,hf,h=>by
  rw[mR]at h
  cases h1:bi b a 1 with
  |er e=>rw[h1]at h;exact absurd h (by simp)
  |ok v a1 =>
   rw[h1,az]at h;by_cases hv:v=1
   .rw[ac hv]at h;injection h with e1 e2
    subst e1 e2;exact⟨o_,(eV h1).2⟩
   .rw[aa hv]at h;exact agp o_ h
def avd {α γ:Type}{p:α->Nat->Prop}{b:C_}{f m:Nat}{a:Int}{g:Nat->Nat->R α}{F:α->Nat->γ}{G:Nat->γ}(h:f+m=10):rK p ((mR b f m a).bind g) F G=rK (pZ b) (mR b f m a) (λv n=>rK p (g v n) F G) G:=yw λ_ _ h2=>agp h h2
def ase {γ:Type}{b:C_}{f m:Nat}{a:Int}{F:Nat->Nat->γ}{G:Nat->γ}(h:f+1+m=10):rK (pZ b) (mR b (f+1) m a) F G=rK (pG b 1) (bi b a 1) (λv n=>if v=1 then F m n else rK (pZ b) (mR b f (m+1) n) F G) G:=by
 rw[mR,Jv];refine kl (λ_ _=>rfl) (λv n hp=>?_) λ_=>rfl
 by_cases hv:v=1
 .rw[ac hv,ac hv,fp ⟨o_,hp.2⟩]
 .rw[aa hv,aa hv]
def z6 (id:Nat)(b:C_)(a:Int):R Nat :=
 (mR b 10 0 a).bind λm n=>(bi b n m).bind λhi n=>(bi b n (bR id)).bind λlo n =>
  if (cB id).length<=(2 ^ m+hi-1)*2 ^ bR id+lo then .er 7 else .ok (nth (cB id) ((2 ^ m+hi-1)*2 ^ bR id+lo)) n
def ag6 (b:C_)(hb:b.length<=1000000000)(X:Obj)(N:Nat):∀(f m:Nat) (a:Int),f+m=10->i64 a->
  (Dn prog).code (.loop yj) ⟨[(1,.d (.lst (ai b))),(3,.ptr 0 0),(7,A_ a),(9,A_ m),(10,A_ 0)],⟨[(0,X)],N⟩⟩ =
  rK (pZ b) (mR b f m a) (λm n=>some (.exit 0,⟨[(1,.d (.lst (ai b))),(3,.ptr 0 0),(7,A_ n),(9,A_ ((m+1:Nat):Int))],⟨[(0,X)],N⟩⟩)) (λe=>some (.ret,⟨[(6,A_ 0),(7,A_ 0),(8,A_ (e+1))],⟨[],N⟩⟩)):=by
 intro f
 induction f with
 |zero =>
  intro m a hf ha;rw[ah Er,mR];simp(maxSteps:=9^6)(disch:=omega)[↓ac,↓aa]
 |succ f ih =>
  intro m a hf ha;rw[ah Er,ase hf];simp(maxSteps:=9^6)(disch:=omega)[↓ac,↓aa,ik];refine kl (λ_ _=>rfl) (λv n hp=>?_) λ_=>rfl
  have hp4:v<2:=hp.1;by_cases h4:v=1
  .subst h4;rw[ac rfl,ah Er];simp(maxSteps:=9^6)(disch:=omega)[↓ac,↓aa]
  .have h5:v=0:=o_;subst h5;have h:=ih (m+1) n o_ o_;rw[aa h4];simp at h⊢;exact h
def YS (id:Nat)(h:jY id):bq prog JT [oA id]=some (B_ true):=aj6 id h
def WS (id:Nat)(h:jY id):bq prog HY [A_ id]=some (.tup [YY id,A_ 0]):=aro id h
def atB {γ:Type}{id:Nat}{b:C_}{a:Int}(hid:jY id){F:Nat->Nat->γ}{G:Nat->γ}:rK (λe n=>e<br id∧n<=b.length) (z6 id b a) F G =
  rK (pZ b) (mR b 10 0 a) (λm n=>rK (pG b m) (bi b n m) (λhi n=>rK (pG b (bR id)) (bi b n (bR id)) (λlo n =>
  if (cB id).length<=(2 ^ m+hi-1)*2 ^ bR id+lo then G 7 else F (nth (cB id) ((2 ^ m+hi-1)*2 ^ bR id+lo)) n) G) G) G:=by
 rw[z6,avd rfl];refine kl (λ_ _=>rfl) (λm n hp=>?_) λ_=>rfl
 rw[Jv];refine kl (λ_ _=>rfl) (λhi n hp=>?_) λ_=>rfl
 rw[Jv];refine kl (λ_ _=>rfl) (λlo n hp=>?_) λ_=>rfl
 by_cases hr:(cB id).length<=(2 ^ m+hi-1)*2 ^ bR id+lo
 .rw[ac hr,ac hr,jf]
 .rw[aa hr,aa hr,fp];exact⟨(KO o_).2.2.2 _ (jE o_),hp.2⟩
abbrev DZ:VC:=(.seq (.seq BW (.cond (.m 73) (.seq (.seq (K [7,13]) (F 3)) (.seq CA .ret)) .skip)) (.seq (.seq Di (F 3)) .ret))
def UD {m:Nat}(h:m<=60):fe .shl (A_ 1) (A_ m)=some (.int .i64 ((2 ^ m:Nat):Int)):=by
 have h2:2 ^ m<=2 ^ 60:=aw o_ h;have h3:min m 64=m:=o_;rw[sY o_,ar,IntKind.bits,h3];generalize 2 ^ m=P at *;rw[ah2 o_ o_,Int.one_mul]
def anO {x:Int}{m P:Nat}(hP:2 ^ m=P)(hm:m<=60)(h0:0<=x)(h1:x*P<=4611686018427387904):fe .shl (A_ x) (A_ m)=some (.int .i64 (x*P)):=by
 subst hP;have h2:2 ^ m<=2 ^ 60:=aw o_ hm;have h3:min m 64=m:=o_;rw[sY o_,ar,IntKind.bits,h3];have:0<=x*((2 ^ m:Nat):Int):=Int.mul_nonneg h0 (jK _);generalize x*((2 ^ m:Nat):Int)=y at *;rw[ah2 o_ o_]
def aBa {x:Int}(h0:0<=x)(h1:x<=100000000):fe .shl (A_ x) (A_ 0)=some (.int .i64 x):=by
 have:=anO (x:=x) (m:=0) (P:=1) rfl o_ h0 o_;simpa using this
def az5 {x:Int}(h0:0<=x)(h1:x<=100000000):fe .shl (A_ x) (A_ 1)=some (.int .i64 (x*2)):=by
 have:=anO (x:=x) (m:=1) (P:=2) rfl o_ h0 o_;simpa using this
def azd {x:Int}(h0:0<=x)(h1:x<=100000000):fe .shl (A_ x) (A_ 2)=some (.int .i64 (x*4)):=by
 have:=anO (x:=x) (m:=2) (P:=4) rfl o_ h0 o_;simpa using this
def ad8 (id:Nat)(b:C_)(a:Int)(hb:b.length<=1000000000)(ha:i64 a)(hid:jY id):bq prog Vj [oA id,.d (.lst (ai b)),A_ a] =
  rK (λe n=>e<br id∧n<=b.length) (z6 id b a) (λe n=>some (.tup [A_ e,A_ n,A_ 0])) (λe=>some (.tup [A_ 0,A_ 0,A_ (e+1)])):=by
 have hr:=YS id hid;have hf:=KO (id:=id) o_;rw[aG alC ajZ rfl,atB hid];have hl:=λX N=>ag6 b hb X N 10 0 a rfl ha
 have c0:((0:Nat):Int)=0:=rfl;simp only[c0]at hl;simp only[oA]at hr⊢;obtain⟨f1,f2,f3,-⟩:=hf;generalize cB id=es at *;generalize dT id=rs at *;generalize bR id=pl at *;simp(maxSteps:=9^6)(disch:=omega)[↓ac,↓aa,hr,hl];refine kl (λ_ _=>rfl) (λm n hp=>?_) λ_=>rfl
 have hp2:2 ^ m<=2 ^ 9:=aw o_ hp.1;have e1:(m:Int)+1-1=m:=o_;have hs1:=UD (m:=m) o_;have hp1:=hp.1;have hpos:0<2 ^ m:=bN m;have c1:((1:Nat):Int)=1:=rfl;have c2:((2:Nat):Int)=2:=rfl;generalize hP:2 ^ m=P at *;have fin:∀(x:Nat) (n:Nat) (i1 p:Int),x<=100000->tZ (wS [.tmp 6,.tmp 7,.tmp 8] ((Dn prog).code (DZ) ⟨[(3,.ptr 0 0),(7,A_ n),(13,A_ x)],⟨[(0,.cells [A_ i1,A_ p,.d (.lst (cY es)),.d (.lst (cY rs))])],1⟩⟩)) =
   if es.length<=x then some (.tup [A_ 0,A_ 0,A_ 8]) else some (.tup [A_ ((nth es x:Nat):Int),A_ n,A_ 0]):=λx n i1 p hx=>by
  by_cases hr:es.length<=x
  .rw[ac hr];simp(maxSteps:=9^6)(disch:=omega)[↓ac]
  .rw[aa hr];simp(maxSteps:=9^6)(disch:=omega)[↓aa]
 have hpl:pl=0∨pl=1∨pl=2:=o_;obtain⟨T,ht⟩:∃T,T=DZ:=⟨_,rfl⟩
 rw[<-ht]at fin;unfold DZ at ht;rw[<-ht];rcases hpl with rfl|rfl|rfl
 all_goals
  simp(maxSteps:=9^6)(disch:=omega)[↓ac,↓aa,ik,e1,-sY,hs1];refine kl (λ_ _=>rfl) (λhi n hp=>?_) λ_=>rfl
  refine kl (λ_ _=>rfl) (λlo n hq=>?_) λ_=>rfl
  have h1:hi<P:=hP▸hp.1;have h2:lo<4:=bc hq.1 k_;simp(maxSteps:=9^6)(disch:=omega)[-sY,aBa,az5,azd]
 .have e3:((P+hi-1+lo:Nat):Int)=P+hi-1+lo:=o_;rw[<-e3,fin _ n id 0 o_]
 .have e3:(((P+hi-1)*2+lo:Nat):Int)=(P+hi-1)*2+lo:=o_;rw[<-e3,fin _ n id 1 o_]
 .have e3:(((P+hi-1)*4+lo:Nat):Int)=(P+hi-1)*4+lo:=o_;rw[<-e3,fin _ n id 2 o_]
abbrev cw:=@List.singleton_append
def mw:∀id∈ids,1<=eW id∧eW id<=4∧1<=cL id∧cL id<=121∧-60<=dy id∧dy id<=0∧br id<=300:=e_
def adF (dim low pl:Int)(w:Nat)(hw:w<=1000)(hl:-1000<=low∧low<=1000):bq prog ut [.agg [A_ dim,A_ low,A_ (low+w-1),A_ pl]]=some (A_ w):=by
 rw[aG W4 Xo rfl];have e:low+(w:Int)-1-low+1=w:=o_;simp(disch:=omega)[e]
def td (e w:Nat):(e:Int).tdiv w=((e / w:Nat):Int):=rfl
def tm (e w:Nat):(e:Int).tmod w=((e % w:Nat):Int):=rfl
def axK {j:Nat}{x:Int}{suf:G_}:(List.replicate (j+1) (0:Int)++suf).set j x=List.replicate j 0++x::suf:=by
 rw[List.replicate_succ',ax,fg _ _ s_];simp
def acq (low:Int)(w pl dim:Nat)(hw:1<=w∧w<=1000)(hl:-1000<=low∧low<=1000):∀(j e:Nat) (suf:G_),j+suf.length=dim->dim<=10->e<=100000->
  (Dn prog).code (.loop mV) ⟨[(1,A_ e),(2,.ptr 0 0),(5,.sl 1 0 dim),(6,A_ (j-1))],⟨[(0,.cells [A_ dim,A_ low,A_ (low+w-1),A_ pl]),(1,.arr 1 (aI (List.replicate j 0++suf)))],2⟩⟩ =
   some (.exit 0,⟨[(5,.sl 1 0 dim)],⟨[(1,.arr 1 (aI (mB low w j e++suf)))],2⟩⟩):=by
 intro j
 induction j with
 |zero =>
  intro e suf h1 h2 h3;rw[ah BE];simp(disch:=omega)[↓aa,mB]
 |succ j ih =>
  intro e suf h1 h2 h3;have hm:e % w<w:=dl _ o_;have hd:e / w<=e:=fV _ _;have h:=ih (e / w) ((((e % w:Nat):Int)+low)::suf) g_ h2 o_;rw[mB,ax,cw,<-h,<-axK,ah BE];have hk:=adF dim low pl w o_ hl;have e1:((j+1:Nat):Int)-1=j:=o_;have hg:(aI (List.replicate (j+1) 0++suf))[j]?=some [.int .i64 (nth (List.replicate (j+1) 0++suf) j)]:=JG g_;simp only[e1];have td:=td e w;have tm:=tm e w;generalize hL:List.replicate (j+1) (0:Int)++suf=L at *;generalize e / w=q at *;generalize e % w=r at *;clear ih h;simp(maxSteps:=9^6)(disch:=omega)[↓ac,hk,td,tm,hg]
def Wz (id e:Nat)(h:jY id)(he:e<=100000):bq prog Gk [Wu id,A_ e]=some (.own true 1 (aI (mU id e))):=by
 obtain⟨k1,k2,k3,k4,k5,k6,k7⟩:=mw id (gy h);have hl:=acq (dy id) (cL id) (bR id) (eW id) o_ o_ (eW id) e [] s_ o_ he;rw[aG SD RK rfl];simp only[Wu,mU,bh]at hl⊢;have hr:aI (List.replicate (eW id) 0)=List.replicate (eW id) [D.int .i64 0]:=by simp[aI]
 rw[hr]at hl;have hv:(mB (dy id) (cL id) (eW id) e).length=eW id:=by
  have:∀(d e:Nat),(mB (dy id) (cL id) d e).length=d:=by
   intro d
   induction d with
   |zero=>intro e;rfl
   |succ d ih=>intro e;simp[mB,ih]
  exact this _ _
 generalize dy id=low at *;generalize cL id=w at *;generalize eW id=dim at *;generalize bR id=pl at *;generalize mB low w dim e=V at *;simp(maxSteps:=9^6)(disch:=omega)[hl,Ea];exact⟨o_,by rw[bH o_]⟩
def Wk (id e:Nat)(h:jY id)(he:e<br id):bq prog Qn [A_ id,A_ e]=some (.tup [.own true 1 (aI (mU id e)),A_ 0]):=by
 obtain⟨k1,k2,k3,k4,k5,k6,k7⟩:=mw id (gy h);have h1:=Pd id (gy h);have h2:=H5 id (gy h);have h3:=Wz id e h o_;rw[aG aeL ae9 rfl];simp only[Wu]at h1 h2 h3;generalize dy id=low at *;generalize cL id=w at *;generalize eW id=dim at *;generalize bR id=pl at *;generalize br id=mn at *;generalize mU id e=V at *;simp(maxSteps:=9^6)(disch:=omega)[h1,h2,h3,↓aa]
def rN (b:C_)(st:RS)(s:Int):RS:=if st.e=0 then (if eO b st.a s=0 then ⟨nO b st.a s,0⟩ else ⟨st.a,eO b st.a s⟩) else st
theorem Rx {b:C_}{st:RS}{s:Int}(hb:b.length<=1000000000)(h:st.fit):(rN b st s).fit:=by
 unfold rN;have:=apd (b:=b) (a:=st.a) (s:=s);have h2:i64 st.a:=h;split
 .split
  .show i64 _;simp only[];omega
  .exact h
 .exact h
abbrev rdC (b:C_)(st:RS):Obj:=.cells [.d (.lst (ai b)),A_ (ra st),A_ (re st)]
abbrev h4 (b:C_)(X0 X1 X3:Obj)(st:RS):am:=[(0,X0),(1,X1),(2,rdC b st),(3,X3)]
def Pi (b:C_)(hb:b.length<=1000000000)(X0 X1 X3:Obj)(N:Nat)(st:RS)(s:Int)(hf:st.fit):(Dn prog).call zg [.ptr 2 0,A_ s] ⟨h4 b X0 X1 X3 st,N⟩ =
  some (A_ (sV b st s),⟨h4 b X0 X1 X3 (rN b st s),N⟩):=by
 rw[be UN U0 rfl];obtain⟨a,e⟩:=st;have hf:i64 a:=hf;by_cases he:e=0
 .subst he;by_cases h2:eO b a s=0
  .simp(config := { maxSteps:=9^7 }) (disch:=omega)[KY,ra,re,sV,rN,h2]
  .simp(config := { maxSteps:=9^7 }) (disch:=omega)[KY,ra,re,sV,rN,h2]
 .simp(config := { maxSteps:=9^7 }) (disch:=omega)[ra,re,sV,rN,he]
def jB (b:C_):Nat->Nat->RS->Nat×RS
 |0,m,st=>(m,st)
 |f+1,m,st=>if sV b st 1=1∧re (rN b st 1)=0 then jB b f (m+1) (if 8<m+1 then ⟨ra (rN b st 1),8⟩ else rN b st 1) else (m,rN b st 1)
def UZ (b:C_)(hb:b.length<=1000000000)(X0 X1 X3:Obj)(N:Nat):∀(f m:Nat) (st:RS),f+m=10->m<=9->st.fit->(m=9->st.e≠0)->
  (Dn prog).code (.loop kF) ⟨[(0,.ptr 2 0),(3,A_ m)],⟨h4 b X0 X1 X3 st,N⟩⟩ =
  some (.exit 0,⟨[(0,.ptr 2 0),(3,A_ ((jB b f m st).1))],⟨h4 b X0 X1 X3 (jB b f m st).2,N⟩⟩):=by
 intro f
 induction f with
 |zero=>intro m st h1 h0 h2 h3;omega
 |succ f ih =>
  intro m st h1 h0 h2 h3;rw[ah JY,jB];have hg:=Pi b hb X0 X1 X3 N st 1 h2;have hf:=Rx (s:=1) hb h2;simp only[h4]at hg;by_cases hc:sV b st 1=1∧re (rN b st 1)=0
  .rw[ac hc];have he:st.e=0:=by
    have:=hc.1;unfold sV at this;by_cases h:st.e=0
    .exact h
    .rw[aa h]at this;omega
   have hm:m≠9:=λh=>h3 h he
   by_cases h8:8<m+1
   .rw[ac h8];have ih:=ih (m+1) ⟨ra (rN b st 1),8⟩ o_ o_ hf (λ_=>by simp);simp only[h4,show ra (⟨ra (rN b st 1),8⟩:RS)=ra (rN b st 1) from rfl,show re (⟨ra (rN b st 1),8⟩:RS)=8 from rfl]at ih⊢;rw[<-ih];simp(maxSteps:=9^6)(disch:=omega)[hg,hc.1,hc.2,↓ac,↓aa];rfl
   .rw[aa h8];have ih:=ih (m+1) (rN b st 1) o_ o_ hf (λh=>by omega);simp only[h4]at ih⊢;rw[<-ih];simp(maxSteps:=9^6)(disch:=omega)[hg,hc.1,hc.2,↓ac,↓aa]
  .rw[aa hc];by_cases h1:sV b st 1=1
   .have h2:¬re (rN b st 1)=0:=λh=>hc ⟨h1,h⟩
    simp(maxSteps:=9^6)(disch:=omega)[hg,h1,h2,↓ac,↓aa]
   .simp(maxSteps:=9^6)(disch:=omega)[hg,h1,↓ac,↓aa]
def WA {b:C_}:∀{f m:Nat}{st:RS},(jB b f m st).1<=m+f
 |0,m,st=>by simp[jB]
 |f+1,m,st=>by
  rw[jB];split
  .have:=WA (b:=b) (f:=f) (m:=m+1) (st:=if 8<m+1 then ⟨ra (rN b st 1),8⟩ else rN b st 1);omega
  .simp only[];omega
def Rs {b:C_}(hb:b.length<=1000000000):∀{f m:Nat}{st:RS},st.fit->(jB b f m st).2.fit
 |0,m,st,h=>by simpa [jB] using h
 |f+1,m,st,h=>by
  have hr:=Rx (s:=1) hb h;rw[jB];split
  .refine Rs hb ?_;split
   .exact hr
   .exact hr
  .exact hr
def RE (b:C_)(st:RS):Nat:=2 ^ ((jB b 10 0 st).1+4)+sV b (jB b 10 0 st).2 (((jB b 10 0 st).1+4:Nat):Int)
def G7 (b:C_)(st:RS):RS:=rN b (jB b 10 0 st).2 (((jB b 10 0 st).1+4:Nat):Int)
def atT {b:C_}{st:RS}(hb:b.length<=1000000000)(h:st.fit):(G7 b st).fit:=Rx hb (Rs hb h)
def amu {b:C_}{st:RS}:RE b st<32768:=by
 unfold RE;have h1:=WA (b:=b) (f:=10) (m:=0) (st:=st);have h2:=wC (b:=b) (st:=(jB b 10 0 st).2) (s:=(((jB b 10 0 st).1+4:Nat):Int));rw[ar]at h2;have h3:2 ^ ((jB b 10 0 st).1+4)<=2 ^ 14:=aw o_ o_;omega
def aba (b:C_)(hb:b.length<=1000000000)(X0 X1 X3:Obj)(N:Nat)(st:RS)(hf:st.fit):(Dn prog).call Bn [.ptr 2 0] ⟨h4 b X0 X1 X3 st,N⟩ =
  some (A_ (RE b st),⟨h4 b X0 X1 X3 (G7 b st),N⟩):=by
 rw[be NM Ms rfl];have hl:=UZ b hb X0 X1 X3 N 10 0 st rfl o_ hf o_;have hv:=amu (b:=b) (st:=st);have h1:=WA (b:=b) (f:=10) (m:=0) (st:=st);have hf2:=Rs (f:=10) (m:=0) hb hf;unfold RE G7 at *;generalize jB b 10 0 st=p at *;obtain⟨m,s2⟩:=p;simp only at hl hv h1 hf2⊢;have hg:=Pi b hb X0 X1 X3 N s2 ((m+4:Nat):Int) hf2;have c0:((0:Nat):Int)=0:=rfl;have hs:=UD (m:=m+4) o_;have c1:((m+4:Nat):Int)=(m:Int)+4:=o_;simp only[c0,h4,c1]at hl hg hs;have hpos:0<2 ^ (m+4):=bN _;have c2:((2 ^ (m+4)+sV b s2 ((m:Int)+4):Nat):Int)=((2 ^ (m+4):Nat):Int)+sV b s2 ((m:Int)+4):=o_;simp only[h4,c1,c2];rw[c1]at hv;generalize 2 ^ (m+4)=P at *;simp(maxSteps:=9^6)(disch:=omega)[hl,hg,hs,-sY]
def Bp (b:C_):G_->RS->C_
 |[],_=>[]
 |v::r,st=>if v=0 then 0::Bp b r st else sV b st 1::Bp b r (rN b st 1)
def wB (b:C_):G_->RS->RS
 |[],st=>st
 |v::r,st=>if v=0 then wB b r st else wB b r (rN b st 1)
def sg (s:Nat)(v:Int):Int:=if s=1 then -v else v
def Js (b:C_)(id:Nat):G_->C_->RS->G_
 |v::r,s::ss,st=>if id=11∧v=16 then sg s (RE b st)::Js b id r ss (G7 b st) else sg s v::Js b id r ss st
 |_,_,_=>[]
def zT (b:C_)(id:Nat):G_->C_->RS->RS
 |v::r,_::ss,st=>if id=11∧v=16 then zT b id r ss (G7 b st) else zT b id r ss st
 |_,_,st=>st
def Ur {α:Type}{a r:List α}{x y:α}:(a++x::r).set a.length y=a++y::r:=by
 rw[fg _ _ o_];simp
def atk {a r:C_}{x:Nat}:nth (a++x::r) a.length=x:=by simp[nth]
def XW {a r:G_}{x:Int}:nth (a++x::r) a.length=x:=by simp[nth]
def akS (b:C_)(hb:b.length<=1000000000)(X0:Obj)(N:Nat)(vals:G_)(hl:vals.length<=100):∀(vs:G_) (pre:G_) (sgn:C_) (st:RS),vals=pre++vs->sgn.length=pre.length->st.fit->
  (Dn prog).code (.loop vd) ⟨[(5,.ptr 0 0),(6,.sl 1 0 vals.length),(10,.ptr 2 0),(11,.sl 3 0 vals.length),(51,.sl 1 0 vals.length),(52,A_ vals.length),(53,A_ pre.length)],⟨h4 b X0 (.arr 1 (aI vals)) (.arr 1 (cY (sgn++List.replicate vs.length 0))) st,N⟩⟩ =
  some (.exit 0,⟨[(5,.ptr 0 0),(6,.sl 1 0 vals.length),(10,.ptr 2 0),(11,.sl 3 0 vals.length)],⟨h4 b X0 (.arr 1 (aI vals)) (.arr 1 (cY (sgn++Bp b vs st))) (wB b vs st),N⟩⟩):=by
 intro vs
 induction vs with
 |nil =>
  intro pre sgn st h1 h2 h3;rw[bh]at h1;subst h1;rw[ah Qb];simp(maxSteps:=9^6)(disch:=omega)[↓aa,Bp,wB]
 |cons v vs ih =>
  intro pre sgn st h1 h2 h3;have hlen:vals.length=pre.length+(vs.length+1):=by rw[h1];simp
  have hgv:nth vals pre.length=v:=by rw[h1];exact XW
  have hgi:(aI vals)[pre.length]?=some [.int .i64 v]:=by rw[JG o_,hgv]
  have hg:=λX1 X3=>Pi b hb X0 X1 X3 N st 1 h3
  rw[ah Qb,aq,cx];have hsl:(cY (sgn++0::List.replicate vs.length 0))[pre.length]?=some [.int .i64 0]:=by
   rw[DT g_,<-h2,atk];rfl
  simp only[h4]at hg⊢;by_cases hv:v=0
  .subst hv;have ih:=ih (pre++[0]) (sgn++[0]) st (by rw[h1];simp) (by simp[h2]) h3;simp only[h4]at ih;simp only[Bp,wB,bj];simp(maxSteps:=9^6)(disch:=omega)[↓ac,↓aa,hgi];simp at ih;exact ih
  .have ih:=ih (pre++[v]) (sgn++[sV b st 1]) (rN b st 1) (by rw[h1];simp) (by simp[h2]) (Rx hb h3);simp only[h4]at ih;simp only[Bp,wB,aa hv];simp(maxSteps:=9^6)(disch:=omega)[↓ac,↓aa,hgi,hv,hg,hsl];simp at ih;exact ih
def ajW (b:C_)(hb:b.length<=1000000000)(id:Nat)(pl:Int)(x2 x3:AV)(N len:Nat)(hlen:len<=100)(sgn:C_)(hsg:sgn.length=len):∀(vs:G_) (done:G_) (st:RS),done.length+vs.length=len->(∀v∈vs,0<=v∧v<=130)->st.fit->
  (Dn prog).code (.loop vp) ⟨[(5,.ptr 0 0),(6,.sl 1 0 len),(10,.ptr 2 0),(11,.sl 3 0 len),(66,.sl 1 0 len),(67,A_ len),(68,A_ done.length)],⟨h4 b (.cells [A_ id,A_ pl,x2,x3]) (.arr 1 (aI (done++vs))) (.arr 1 (cY sgn)) st,N⟩⟩ =
  some (.exit 2,⟨[(6,.sl 1 0 len),(10,.ptr 2 0)],⟨[(1,.arr 1 (aI (done++Js b id vs (sgn.drop done.length) st))),(2,rdC b (zT b id vs (sgn.drop done.length) st)),(3,.arr 1 (cY sgn))],N⟩⟩):=by
 intro vs
 induction vs with
 |nil =>
  intro done st h1 h2 h3;rw[ah Qp];have:done.length=len:=by simpa using h1
  simp(maxSteps:=9^6)(disch:=omega)[↓aa,Js,zT]
 |cons v vs ih =>
  intro done st h1 h2 h3;have hv:=h2 v s_;have h1:done.length+(vs.length+1)=len:=by simpa using h1
  have hgi:(aI (done++v::vs))[done.length]?=some [.int .i64 v]:=by rw[JG s_,XW]
  have hgs:(cY sgn)[done.length]?=some [.int .i64 (nth sgn done.length:Nat)]:=DT o_;have hset:∀x:Int,(aI (done++v::vs)).set done.length [.int .i64 x]=aI (done++x::vs):=λx=>by rw[ahD,Ur]
  have hset2:∀y x:Int,(aI (done++y::vs)).set done.length [.int .i64 x]=aI (done++x::vs):=λy x=>by rw[ahD,Ur]
  have hgi2:∀x:Int,(aI (done++x::vs))[done.length]?=some [.int .i64 x]:=λx=>by rw[JG s_,XW]
  have hE:=λX1 X3=>aba b hb (.cells [A_ id,A_ pl,x2,x3]) X1 X3 N st h3
  have hel:=amu (b:=b) (st:=st);rw[ah Qp,qX o_,Js,zT];simp only[h4]at hE⊢;by_cases hid:id=11∧v=16
  .obtain⟨rfl,rfl⟩:=hid;rw[ac ⟨rfl,rfl⟩,ac ⟨rfl,rfl⟩];have ih:=ih (done++[sg (nth sgn done.length) (RE b st)]) (G7 b st) g_ (λx hx=>h2 x (by simp[hx])) (atT hb h3);simp only[h4]at ih;simp at ih;have c11:((11:Nat):Int)=11:=rfl;simp only[c11]at hE;by_cases hs:nth sgn done.length=1
   .simp only[sg,ac hs]at ih⊢;simp(maxSteps:=9^6)(disch:=omega)[↓ac,↓aa,hgi,hE,hset,hgs,hgi2,hset2,hs];exact ih
   .simp only[sg,aa hs]at ih⊢;simp(maxSteps:=9^6)(disch:=omega)[↓ac,↓aa,hgi,hE,hset,hgs,hgi2,hset2,hs];exact ih
  .rw[aa hid,aa hid];have ih:=ih (done++[sg (nth sgn done.length) v]) st g_ (λx hx=>h2 x (by simp[hx])) h3;simp only[h4]at ih;simp at ih;by_cases hi:id=11
   .subst hi;have c11:((11:Nat):Int)=11:=rfl;have hv2:v≠16:=λh=>hid ⟨rfl,h⟩
    by_cases hs:nth sgn done.length=1
    .simp only[sg,ac hs]at ih⊢;simp(maxSteps:=9^6)(disch:=omega)[↓ac,↓aa,hgi,hset,hgs,hgi2,hset2,hs,hv2];exact ih
    .simp only[sg,aa hs]at ih⊢;simp(maxSteps:=9^6)(disch:=omega)[↓ac,↓aa,hgi,hset,hgs,hgi2,hset2,hs,hv2];exact ih
   .by_cases hs:nth sgn done.length=1
    .simp only[sg,ac hs]at ih⊢;simp(maxSteps:=9^6)(disch:=omega)[↓ac,↓aa,hgi,hset,hgs,hgi2,hset2,hs];exact ih
    .simp only[sg,aa hs]at ih⊢;simp(maxSteps:=9^6)(disch:=omega)[↓ac,↓aa,hgi,hset,hgs,hgi2,hset2,hs];exact ih
def kU (b:C_):G_->Nat->R C_
 |[],a=>.ok [] a
 |v::r,a=>if v=0 then (kU b r a).bind λl n=>.ok (0::l) n else (bi b a 1).bind λs n=>(kU b r n).bind λl n=>.ok (s::l) n
def ye (b:C_):Nat->Nat->Nat->R Nat
 |0,_,_=>.er 7
 |f+1,m,a=>(bi b a 1).bind λv n=>if v=1 then ye b f (m+1) n else .ok m n
def PV (b:C_)(a:Nat):R Nat:=(ye b 9 0 a).bind λm n=>(bi b n ((m+4:Nat):Int)).bind λx n=>.ok (2 ^ (m+4)+x) n
def nc (b:C_)(id:Nat):G_->C_->Nat->R G_
 |v::r,s::ss,a=>if id=11∧v=16 then (PV b a).bind λx n=>(nc b id r ss n).bind λl n=>.ok (sg s x::l) n else (nc b id r ss a).bind λl n=>.ok (sg s v::l) n
 |_,_,a=>.ok [] a
def Fp (id:Nat)(b:C_)(a:Int):R G_ :=
 (z6 id b a).bind λe n=>if lc id then .ok (mU id e) n else (kU b (mU id e) n).bind λss n=>nc b id (mU id e) ss n
def UI {b:C_}{a s:Int}{v n:Nat}(h:bi b a s=.ok v n):sV b ⟨a,0⟩ s=v∧rN b ⟨a,0⟩ s=⟨n,0⟩:=by
 constructor<;>simp[sV,rN,vO,nO,eO,h]
def af5 {b:C_}{a s:Int}{e:Nat}(h:bi b a s=.er e):sV b ⟨a,0⟩ s=0∧rN b ⟨a,0⟩ s=⟨a,e+1⟩:=by
 constructor<;>simp[sV,rN,vO,nO,eO,h]
def ai6 {b:C_}{a s:Int}{e:Nat}:sV b ⟨a,e+1⟩ s=0∧rN b ⟨a,e+1⟩ s=⟨a,e+1⟩:=by
 constructor<;>simp[sV,rN]
def am8 {b:C_}{a:Int}{e:Nat}{f m:Nat}:jB b f m ⟨a,e+1⟩=(m,⟨a,e+1⟩):=by
 cases f with
 |zero=>rfl
 |succ f=>rw[jB,ai6.1,ai6.2,aa s_]
def aAH {b:C_}{a:Int}{e:Nat}:G7 b ⟨a,e+1⟩=⟨a,e+1⟩:=by
 rw[G7,am8,ai6.2]
def aoQ {b:C_}{a:Int}{e:Nat}:∀{vs:G_},wB b vs ⟨a,e+1⟩=⟨a,e+1⟩
 |[]=>rfl
 |v::r=>by
  rw[wB];split
  .exact aoQ
  .rw[ai6.2];exact aoQ
theorem aga {b:C_}{id:Nat}{a:Int}{e:Nat}:∀{vs:G_}{ss:C_},zT b id vs ss ⟨a,e+1⟩=⟨a,e+1⟩
 |[],_=>by simp[zT]
 |_::_,[]=>by simp[zT]
 |v::r,s::ss=>by
  rw[zT];split
  .rw[aAH];exact aga
  .exact aga
def ava {b:C_}:∀{vs:G_}{a:Nat},match kU b vs a with
  |.ok l n=>Bp b vs ⟨a,0⟩=l∧wB b vs ⟨a,0⟩=⟨n,0⟩
  |.er e=>(wB b vs ⟨a,0⟩).e=e+1
 |[],a=>⟨rfl,rfl⟩
 |v::r,a=>by
  simp only[kU,Bp,wB];by_cases hv:v=0
  .simp only[ac hv];have ih:=ava (b:=b) (vs:=r) (a:=a)
   cases h:kU b r a with
   |ok l n=>rw[h]at ih;exact⟨by rw[ih.1],ih.2⟩
   |er e=>rw[h]at ih;exact ih
  .simp only[aa hv]
   cases h1:bi b a 1 with
   |ok s n =>
    rw[(UI h1).1,(UI h1).2,az];have ih:=ava (b:=b) (vs:=r) (a:=n)
    cases h:kU b r n with
    |ok l n=>rw[h]at ih;exact⟨by rw[ih.1],ih.2⟩
    |er e=>rw[h]at ih;exact ih
   |er e=>rw[(af5 h1).2,cG];simp only[aoQ]
def asc {b:C_}:∀{f m a:Nat},f+1+m=9->match ye b (f+1) m a with
  |.ok k n=>jB b (f+2) m ⟨a,0⟩=(k,⟨n,0⟩)
  |.er e=>(jB b (f+2) m ⟨a,0⟩).2.e=e+1
 |f,m,a,hm=>by
  rw[ye,jB]
  cases h1:bi b a 1 with
  |er e=>rw[(af5 h1).1,(af5 h1).2,cG,aa s_]
  |ok v n =>
   rw[(UI h1).1,(UI h1).2,az];by_cases hv:v=1
   .subst hv;rw[ac rfl,ac ⟨rfl,rfl⟩]
    cases f with
    |zero =>
     rw[ac o_,ye];show(jB b 1 (m+1) ⟨ra ⟨n,0⟩,7+1⟩).2.e=7+1;rw[am8]
    |succ f =>
     rw[aa o_];exact asc (by omega)
   .rw[aa hv,aa (λh=>hv h.1)]
def aCQ {b:C_}{a:Nat}:match PV b a with
  |.ok v n=>RE b ⟨a,0⟩=v∧G7 b ⟨a,0⟩=⟨n,0⟩
  |.er e=>(G7 b ⟨a,0⟩).e=e+1:=by
 rw[PV,RE,G7];have h:=asc (b:=b) (f:=8) (m:=0) (a:=a) rfl
 cases h1:ye b 9 0 a with
 |er e =>
  rw[h1]at h;generalize jB b 10 0 ⟨a,0⟩=p at *;obtain⟨m,x,y⟩:=p;simp only at h;subst h;simp only[ai6,cG]
 |ok k n =>
  rw[h1]at h;rw[az,h]
  cases h2:bi b n ((k+4:Nat):Int) with
  |er e=>simp only[(af5 h2).2,cG]
  |ok v m=>simp only[(UI h2).1,(UI h2).2,az];exact⟨trivial,trivial⟩
def auO {b:C_}{id:Nat}:∀{vs:G_}{ss:C_}{a:Nat},match nc b id vs ss a with
  |.ok l n=>Js b id vs ss ⟨a,0⟩=l∧zT b id vs ss ⟨a,0⟩=⟨n,0⟩
  |.er e=>(zT b id vs ss ⟨a,0⟩).e=e+1
 |[],ss,a=>by simp[nc,Js,zT]
 |v::r,[],a=>by simp[nc,Js,zT]
 |v::r,s::ss,a=>by
  rw[nc,Js,zT];by_cases hc:id=11∧v=16
  .simp only[ac hc];have h:=aCQ (b:=b) (a:=a)
   cases h1:PV b a with
   |er e =>
    rw[h1]at h;generalize G7 b ⟨a,0⟩=p at *;obtain⟨x,y⟩:=p;simp only at h;subst h;simp only[aga,cG]
   |ok x n =>
    rw[h1]at h;rw[h.1,h.2,az];have ih:=auO (b:=b) (id:=id) (vs:=r) (ss:=ss) (a:=n)
    cases h2:nc b id r ss n with
    |ok l n=>rw[h2]at ih;exact⟨by rw[ih.1],ih.2⟩
    |er e=>rw[h2]at ih;exact ih
  .simp only[aa hc];have ih:=auO (b:=b) (id:=id) (vs:=r) (ss:=ss) (a:=a)
   cases h2:nc b id r ss a with
   |ok l n=>rw[h2]at ih;exact⟨by rw[ih.1],ih.2⟩
   |er e=>rw[h2]at ih;exact ih
abbrev Jb:VC:=(.seq GD (.seq EW (.seq (.seq EV (.block 0 (.seq (.loop vd) (K [51,52,53])))) (.seq (.seq EK (.block 2 (.seq (.loop vp) (.seq (K [11,66,67,68]) (F 5))))) (.seq (.seq E3 (.cond (.m 103) (.seq (K [6]) (.seq yn .ret)) .skip)) (.seq yr .ret))))))
def adM {low:Int}{w:Nat}:∀{d e:Nat},(mB low w d e).length=d
 |0,_=>rfl
 |d+1,e=>by simp[mB,adM]
def JX {low:Int}{w:Nat}(hw:1<=w):∀{d e:Nat},∀x∈mB low w d e,low<=x∧x<low+w
 |0,_,x,h=>by simp[mB]at h
 |d+1,e,x,h=>by
  rw[mB,aW]at h;have:=dl e (show w > 0 by omega);rcases h with h|h
  .exact JX hw x h
  grind
theorem FJ {id e:Nat}:(mU id e).length=eW id:=adM
def agn:∀id∈ids,lc id=false->dy id=0:=e_
def an8 (b:C_)(hb:b.length<=1000000000)(id:Nat)(pl:Int)(x2 x3:AV)(vals:G_)(hl:1<=vals.length∧vals.length<=100)(hv:∀v∈vals,0<=v∧v<=130)(n:Nat)(hn:n<=b.length)(hx2:bl x2=true) :
  tZ (wS [.tmp 6,.tmp 7,.tmp 8] ((Dn prog).code Jb ⟨[(0,.d (.lst (ai b))),(5,.ptr 0 0),(6,.sl 1 0 vals.length),(7,A_ n)],⟨[(0,.cells [A_ id,A_ pl,x2,x3]),(1,.arr 1 (aI vals))],2⟩⟩)) =
  if re (zT b id vals (Bp b vals ⟨n,0⟩) (wB b vals ⟨n,0⟩))=0 then some (.tup [.own true 1 (aI (Js b id vals (Bp b vals ⟨n,0⟩) (wB b vals ⟨n,0⟩))),A_ ((ra (zT b id vals (Bp b vals ⟨n,0⟩) (wB b vals ⟨n,0⟩)))),A_ 0])
  else some (.tup [.nl,A_ 0,A_ ((re (zT b id vals (Bp b vals ⟨n,0⟩) (wB b vals ⟨n,0⟩))))]):=by
 have hf:RS.fit ⟨n,0⟩:=by show i64 _;grind
 have sgl:∀(vs:G_) (st:RS),(Bp b vs st).length=vs.length:=by
  intro vs
  induction vs<;>grind [Bp]
 have sgf:∀(vs:G_) (st:RS),st.fit->(wB b vs st).fit:=by
  intro vs
  induction vs<;>grind [wB,Rx]
 have l0:=λX0=>akS b hb X0 4 vals hl.2 vals [] [] ⟨n,0⟩ s_ rfl hf
 have l1:=ajW b hb id pl x2 x3 4 vals.length hl.2 (Bp b vals ⟨n,0⟩) (sgl _ _) vals [] (wB b vals ⟨n,0⟩) s_ hv (sgf _ _ hf);have vll:(Js b id vals (Bp b vals ⟨n,0⟩) (wB b vals ⟨n,0⟩)).length=vals.length:=by
  have:∀(vs:G_) (ss:C_) (st:RS),ss.length=vs.length->(Js b id vs ss st).length=vs.length:=by
   intro vs
   induction vs with
   |nil=>grind [Js]
   |cons v r ih =>
    intro ss st h
    cases ss<;>grind [Js]
  simp_all
 have hz:cY (List.replicate vals.length 0)=List.replicate vals.length [.int .i64 0]:=by simp[cY]
 have c0:((0:Nat):Int)=0:=rfl;simp only[aK,bt,mN,h4,rdC,hz,c0,aDo,aDt]at l0 l1;simp(disch:=omega)[l0,l1,Ea]
 grind
def avh {b:C_}{id:Nat}{vals:G_}{n:Nat}{γ:Type}{F:G_->Int->γ}{G:Nat->γ} :
  (if re (zT b id vals (Bp b vals ⟨n,0⟩) (wB b vals ⟨n,0⟩))=0 then F (Js b id vals (Bp b vals ⟨n,0⟩) (wB b vals ⟨n,0⟩)) (ra (zT b id vals (Bp b vals ⟨n,0⟩) (wB b vals ⟨n,0⟩)))
  else G (re (zT b id vals (Bp b vals ⟨n,0⟩) (wB b vals ⟨n,0⟩))))=match (kU b vals n).bind λss n=>nc b id vals ss n with
   |.ok l n=>F l n
   |.er e=>G (e+1):=by
 have h1:=ava (b:=b) (vs:=vals) (a:=n)
 cases h2:kU b vals n with
 |er e =>
  generalize wB b vals ⟨n,0⟩=p at *;obtain⟨x,y⟩:=p
  grind [aga,cG,re]
 |ok ss m =>
  rw[h2]at h1;rw[h1.1,h1.2,az];have h3:=auO (b:=b) (id:=id) (vs:=vals) (ss:=ss) (a:=m)
  cases h4:nc b id vals ss m with
  |er e =>
   rw[h4]at h3;have h5:re (zT b id vals ss ⟨m,0⟩)=e+1:=h3
   simp_all
  |ok l k =>
   rw[h4]at h3;rw[h3.1,h3.2];rfl
abbrev pH (b:C_)(id:Nat)(l:G_)(n:Nat):Prop:=l.length=eW id∧n<=b.length∧∀x∈l,-40000<=x∧x<=40000
def Pz {b:C_}:∀{vs:G_}{a:Nat}{l:C_}{n:Nat},a<=b.length->kU b vs a=.ok l n->l.length=vs.length∧n<=b.length
 |[],a,l,n,ha,h=>by
  grind [kU]
 |v::r,a,l,n,ha,h=>by
  simp only[kU]at h;by_cases hv:v=0
  .cases h1:kU b r a with
   |er e=>simp_all
   |ok l2 n2 =>
    have ih:=Pz ha h1
    grind [az]
  .cases h0:bi b a 1 with
   |er e=>simp_all
   |ok s m =>
    cases h1:kU b r m with
    |er e=>simp_all
    |ok l2 n2 =>
     have ih:=Pz (eV h0).2 h1
     grind [az]
def alZ {b:C_}:∀{f m a k n:Nat},f+m=9->ye b f m a=.ok k n->k<=8∧n<=b.length
 |0,_,_,_,_,_,h=>absurd h (by simp[ye])
 |f+1,m,a,k,n,hf,h=>by
  rw[ye]at h
  cases h1:bi b a 1 with
  |er e=>simp_all
  |ok v a1 =>
   rw[h1,az]at h;by_cases hv:v=1
   .rw[ac hv]at h;exact alZ o_ h
   .rw[aa hv]at h;injection h with e1 e2
    subst e1 e2;exact⟨o_,(eV h1).2⟩
def az6 {b:C_}{a v n:Nat}(h:PV b a=.ok v n):v<=30000∧n<=b.length:=by
 rw[PV]at h
 cases h1:ye b 9 0 a with
 |er e=>simp_all
 |ok m n1 =>
  have hp:=alZ rfl h1;rw[h1,az]at h
  cases h2:bi b n1 ((m+4:Nat):Int) with
  |er e=>simp_all
  |ok x n2 =>
   have hq:=eV h2;rw[h2,az]at h;have h3:2 ^ (m+4)<=2 ^ 12:=aw o_ (by omega)
   grind
theorem Uq {b:C_}{id:Nat}:∀{vs:G_}{ss:C_}{a:Nat}{l:G_}{n:Nat},a<=b.length->ss.length=vs.length->(∀v∈vs,-100<=v∧v<=130)->nc b id vs ss a=.ok l n->l.length=vs.length∧n<=b.length∧∀x∈l,-40000<=x∧x<=40000
 |[],ss,a,l,n,ha,hs,hv,h=>by
  grind [nc]
 |v::r,[],a,l,n,ha,hs,hv,h=>by simp at hs
 |v::r,s::ss,a,l,n,ha,hs,hv,h=>by
  have hs2:ss.length=r.length:=u_;have hv2:∀v∈r,-100<=v∧v<=130:=λx hx=>hv x (by simp[hx])
  have hv1:=hv v s_;have hsg:∀y:Int,-40000<=y->y<=40000->-40000<=sg s y∧sg s y<=40000:=λy h1 h2=>by grind [sg]
  rw[nc]at h;by_cases hc:id=11∧v=16
  .rw[ac hc]at h
   cases h1:PV b a with
   |er e=>simp_all
   |ok x n1 =>
    have hp:=az6 h1;rw[h1,az]at h
    cases h2:nc b id r ss n1 with
    |er e=>simp_all
    |ok l2 n2 =>
     obtain⟨i1,i2,i3⟩:=Uq hp.2 hs2 hv2 h2
     grind [az]
  .rw[aa hc]at h
   cases h2:nc b id r ss a with
   |er e=>simp_all
   |ok l2 n2 =>
    obtain⟨i1,i2,i3⟩:=Uq ha hs2 hv2 h2
    grind [az]
def Uj {id:Nat}{b:C_}{a:Int}{e n:Nat}(hid:jY id)(h:z6 id b a=.ok e n):e<br id∧n<=b.length:=by
 rw[z6]at h
 cases z1:mR b 10 0 a with
 |er e=>simp_all
 |ok m m1 =>
  rw[z1,az]at h
  cases z2:bi b m1 m with
  |er e=>simp_all
  |ok hi m2 =>
   rw[z2,az]at h
   cases z3:bi b m2 (bR id) with
   |er e=>simp_all
   |ok lo m3 =>
    rw[z3,az]at h;by_cases hc:(cB id).length<=(2 ^ m+hi-1)*2 ^ bR id+lo
    .simp_all
    .rw[aa hc]at h;injection h with e1 e2
     subst e1 e2;exact⟨(KO o_).2.2.2 _ (jE o_),(eV z3).2⟩
def axt {id:Nat}{b:C_}{a:Int}{l:G_}{n:Nat}(hid:jY id)(h:Fp id b a=.ok l n):pH b id l n:=by
 obtain⟨k1,k2,k3,k4,k5,k6,k7⟩:=mw id (gy hid);rw[Fp]at h
 cases h1:z6 id b a with
 |er e=>simp_all
 |ok e n1 =>
  have hp:=(Uj hid h1).2;have hv:∀v∈mU id e,-100<=v∧v<=200:=λv hv=>by
   have:=JX (low:=dy id) (w:=cL id) k3 (d:=eW id) (e:=e) v hv;omega
  rw[h1,az]at h;by_cases hs:lc id=true
  .grind [FJ]
  .rw[aa hs]at h
   cases h2:kU b (mU id e) n1 with
   |er e=>simp_all
   |ok ss n2 =>
    have hq:=Pz hp h2;rw[h2,az]at h;have hv2:∀v∈mU id e,-100<=v∧v<=130:=λv hv=>by
     have:=JX (low:=dy id) (w:=cL id) k3 (d:=eW id) (e:=e) v hv;omega
    have:=Uq hq.2 hq.1 hv2 h
    grind [FJ]
def atf (id:Nat)(b:C_)(a:Int)(hb:b.length<=1000000000)(ha:i64 a)(hid:1<=id∧id<=11):bq prog yq [.d (.lst (ai b)),A_ a,oA id] =
  rK (pH b id) (Fp id b a) (λl n=>some (.tup [.own true 1 (aI l),A_ n,A_ 0])) (λe=>some (.tup [.nl,A_ 0,A_ (e+1)])):=by
 have hok:jY id:=⟨hid.1,o_⟩
 have hr:=ad8 id b a hb ha hok;have hsg:=Sd id (by
  obtain⟨h1,h2⟩:=hid;simp only[ids,List.take,ay,b8,eg];omega)
 have hV:=λe he=>Wk id e hok he
 obtain⟨k1,k2,k3,k4,k5,k6,k7⟩:=mw id (gy hok);have hus:=agn id (gy hok);rw[aG aoB aoK rfl];obtain⟨T,ht⟩:∃T,T=Jb:=⟨_,rfl⟩
 have hT:=λpl x2 x3 vals hl hv n hn hx2=>an8 b hb id pl x2 x3 vals hl hv n hn hx2
 rw[<-ht]at hT;unfold Jb at ht;rw[<-ht];simp only[oA]at hr⊢;rw[Fp,yw (q:=λe n=>e<br id∧n<=b.length) (λe n h=>Uj hok h)];have hbl:∀e,(mU id e).length=eW id:=λe=>FJ
 have hbi:=λe=>JX (low:=dy id) (w:=cL id) k3 (d:=eW id) (e:=e)
 generalize hes:cB id=es at *;generalize hrs:dT id=rs at *;generalize hpl:bR id=pl at *;simp(maxSteps:=9^6)(disch:=omega)[hr,↓ac,↓aa];refine kl (λ_ _=>rfl) (λe n hp=>?_) λ_=>rfl
 have hVe:=hV e hp.1;have hie:=hbi e;simp only[mU]at hVe hbl⊢;have hble:=hbl e;generalize mB (dy id) (cL id) (eW id) e=vals at *;by_cases hs:lc id=true
 .rw[ac hs,fp ⟨hble,hp.2,λx hx=>by grind⟩];simp(disch:=omega)[hVe,hsg,hs,↓ac,↓aa]
 .have hs2:lc id=false:=d_;have hT2:=hT pl (.d (.lst (cY es))) (.d (.lst (cY rs))) vals o_ (λv hv=>by grind) n hp.2 rfl;simp(disch:=omega)[hVe,hsg,hs2,↓ac];rw[hT2];refine(avh (γ:=M_) (F:=λl n=>some (.tup [.own true 1 (aI l),A_ n,A_ 0])) (G:=λe=>some (.tup [.nl,A_ 0,A_ e]))).trans ?_
  cases h1:kU b vals n with
  |er e=>simp[rK]
  |ok ss m =>
   have hq:=Pz hp.2 h1
   grind [az,rK,Uq]
abbrev dA:=@Nat.mod_eq_of_lt
def IT (b:C_)(a:Int):R Int:=(z6 12 b a).bind λe n=>.ok ((e:Int)-60) n
abbrev pSt (b:C_)(d:Int)(n:Nat):Prop:=(-60<=d∧d<=60)∧n<=b.length
def axa {γ:Type}{b:C_}{a:Int}{F:Int->Nat->γ}{G:Nat->γ}:rK (pSt b) (IT b a) F G=rK (λe n=>e<br 12∧n<=b.length) (z6 12 b a) (λe n=>F ((e:Int)-60) n) G:=by
 rw[IT,yw (q:=λe n=>e<br 12∧n<=b.length) (λe n h=>Uj o_ h)];refine kl (λ_ _=>rfl) (λe n hp=>?_) λ_=>rfl
 have h1:e<121:=hp.1;rw[fp ⟨o_,hp.2⟩]
def aii (b:C_)(a:Int)(hb:b.length<=1000000000)(ha:i64 a):bq prog NC [.d (.lst (ai b)),A_ a] =
  rK (pSt b) (IT b a) (λd n=>some (.tup [A_ d,A_ n,A_ 0])) (λe=>some (.tup [A_ 0,A_ 0,A_ (e+1)])):=by
 have hok:jY 12:=o_;have hr:=ad8 12 b a hb ha hok;have hg:=WS 12 hok;have hV:=λe he=>Wk 12 e hok he
 have c12:((12:Nat):Int)=12:=rfl;rw[aG abA abB rfl,axa];simp only[oA,YY,c12]at hr hg hV⊢;generalize hes:cB 12=es at *;generalize hrs:dT 12=rs at *;generalize hpl:bR 12=pl at *;simp(maxSteps:=9^6)(disch:=omega)[hr,hg,↓ac,↓aa];refine kl (λ_ _=>rfl) (λe n hp=>?_) λ_=>rfl
 have h1:e<121:=hp.1;have hv:aI (mU 12 e)=[[.int .i64 ((e:Int)-60)]]:=by
  show aI [((e % 121:Nat):Int)+-60]=_;rw[dA h1];rfl
 have hVe:=hV e hp.1;rw[hv]at hVe;simp(maxSteps:=9^6)(disch:=omega)[hVe]
structure H2 (hp:Int->Int->am)(A:Nat):Prop where
 get:∀s z,get (hp s z) A=some (.cells [A_ s,A_ z])
 put:∀s z s' z',put (hp s z) A (.cells [A_ s',A_ z'])=hp s' z'
abbrev mp (book n s z:Int):Prop:=if book=13 then (0<=n∧n<=511)∧(z<0∨(z-60<=n∧n<=z+60)) else (0<=n∧n<=255)∧(s-60<=n∧n<=s+60)
def OY {hp:Int->Int->am}{A:Nat}(H:H2 hp A)(book n s z:Int)(N:Nat)(hn:-100000<=n∧n<=100000)(hs:-100000<=s∧s<=100000)(hz:-100000<=z∧z<=100000) :
  (Dn prog).call qR [.ptr A 0,A_ book,A_ n] ⟨hp s z,N⟩ =
   if mp book n s z then some (B_ true,⟨if book=13 then hp s n else hp n z,N⟩) else some (B_ false,⟨hp s z,N⟩):=by
 rw[be RX Rq rfl];by_cases hb:book=13
 .by_cases ho:(0<=n∧n<=511)∧(z<0∨(z-60<=n∧n<=z+60))
  .rw[ac (by rw[mp,ac hb];exact ho),ac hb];subst hb;rcases ho with ⟨⟨o1,o2⟩,o3|⟨o3,o4⟩⟩
   .simp(maxSteps:=9^6)(disch:=omega)[↓ac,↓aa,H.get,H.put]
   .by_cases hz0:z<0
    .simp(maxSteps:=9^6)(disch:=omega)[↓ac,↓aa,H.get,H.put]
    .simp(maxSteps:=9^6)(disch:=omega)[↓ac,↓aa,H.get,H.put]
  .rw[aa (by rw[mp,ac hb];exact ho)];subst hb;by_cases o1:n<0
   .simp(maxSteps:=9^6)(disch:=omega)[↓ac,↓aa,H.get,H.put]
   .by_cases o2:511<n
    .simp(maxSteps:=9^6)(disch:=omega)[↓ac,↓aa,H.get,H.put]
    .by_cases o3:n<z-60
     .simp(maxSteps:=9^6)(disch:=omega)[↓ac,↓aa,H.get,H.put]
     .simp(maxSteps:=9^6)(disch:=omega)[↓ac,↓aa,H.get,H.put]
 .by_cases ho:(0<=n∧n<=255)∧(s-60<=n∧n<=s+60)
  .rw[ac (by rw[mp,aa hb];exact ho),aa hb];obtain⟨⟨o1,o2⟩,o3,o4⟩:=ho;simp(maxSteps:=9^6)(disch:=omega)[↓ac,↓aa,H.get,H.put]
  .rw[aa (by rw[mp,aa hb];exact ho)];by_cases o1:n<0
   .simp(maxSteps:=9^6)(disch:=omega)[↓ac,↓aa,H.get,H.put]
   .by_cases o2:255<n
    .simp(maxSteps:=9^6)(disch:=omega)[↓ac,↓aa,H.get,H.put]
    .by_cases o3:n<s-60
     .simp(maxSteps:=9^6)(disch:=omega)[↓ac,↓aa,H.get,H.put]
     .simp(maxSteps:=9^6)(disch:=omega)[↓ac,↓aa,H.get,H.put]
abbrev mD:=@List.drop_drop
def AB {l:Q_}{i:Nat}{s:ba}{r:Q_}(h:l.drop i=s::r):(io l)[i]?=some [.int .i64 s.book,.int .i64 s.len]:=by
 have:=aP (λl=>l[0]?) h;simp only[ck,ca,ej]at this;rw[io,b9,this];rfl
def bK {α:Type}{l:List α}{i:Nat}{s:α}{r:List α}(h:l.drop i=s::r):l.drop (i+1)=r:=by
 have:=aP (λl=>l.drop 1) h;simpa [mD] using this
theorem bV {α:Type}{l:List α}{i:Nat}{s:α}{r:List α}(h:l.drop i=s::r):i<l.length:=by
 rcases bD i l.length with g|g
 .exact g
 .rw[co g]at h;exact absurd h (by simp)
def ah0 (full:Q_)(hl:full.length<=1000000)(x21:AV)(y22 y23:D):∀(l:Q_) (i:Nat) (lf c:Int) (N:Nat),full.drop i=l->fitsS lf l->0<=c->lf+c<=1000->
  (Dn prog).code (.loop xY) ⟨[(7,A_ (lf+c)),(21,x21),(22,.d y22),(23,.d y23),(27,.d (.lst (io full))),(28,A_ full.length),(29,A_ i)],⟨[],N⟩⟩ =
  some (.exit 2,⟨[(21,x21),(22,.d y22),(23,.d y23)],⟨[],N+l.length⟩⟩):=by
 intro l
 induction l with
 |nil =>
  intro i lf c N h hf h0 h1;have hi:full.length<=i:=by simpa [List.drop_eq_nil_iff] using h
  rw[ah Mz];simp(maxSteps:=9^6)(disch:=omega)[↓ac,↓aa]
 |cons s r ih =>
  intro i lf c N h hf h0 h1;obtain⟨⟨⟨s1,s2⟩,s3,s4⟩,hf2⟩:=hf;have hg:=AB h;have hlt:=bV h;have h5:=ih (i+1) (lf-s.len) c (N+1) (bK h) hf2 h0 o_;have c1:((i+1:Nat):Int)=(i:Int)+1:=rfl;have c2:lf-s.len+c=lf+c-s.len:=o_;rw[c1,c2]at h5;have e:N+(s::r).length=N+1+r.length:=by simp only[aq];omega
  rw[ah Mz,e,<-h5];rcases s4 with s4|s4
  .simp(maxSteps:=9^6)(disch:=omega)[↓ac,↓aa,hg]
  .simp(maxSteps:=9^6)(disch:=omega)[↓ac,↓aa,hg,s4]
def acS:H_->Nat
 |[]=>0
 |l::r=>l.length+acS r
def oE {g:H_}{i:Nat}{l:Q_}{r:H_}(h:g.drop i=l::r):(bO g)[i]?=some [.lst (io l)]:=by
 have:=aP (λl=>l[0]?) h;simp only[ck,ca,ej]at this;rw[bO,b9,this];rfl
def ahj (full:H_)(hl:full.length<=1000)(m:Int)(hm:0<=m∧m<=40):∀(g:H_) (i N:Nat),full.drop i=g->(∀l∈g,fitsS m l∧l.length<=1000)->
  (Dn prog).code (.loop yh) ⟨[(21,.d (.lst (bO full))),(22,A_ full.length),(23,A_ i)],⟨[],N⟩⟩=some (.exit 0,⟨[],⟨[],N+acS g⟩⟩):=by
 intro g
 induction g with
 |nil =>
  intro i N h hf;have hi:full.length<=i:=by simpa [List.drop_eq_nil_iff] using h
  rw[ah Nh];simp(maxSteps:=9^6)(disch:=omega)[↓ac,↓aa,acS]
 |cons l r ih =>
  intro i N h hf;have hg:=oE h;have hlt:=bV h;obtain⟨f1,f2⟩:=hf l (.head _);have h0:=ah0 l o_ (.d (.lst (bO full))) (.int .i64 full.length) (.int .i64 i) l 0 m (40-m) N rfl f1 o_ o_;have h5:=ih (i+1) (N+l.length) (bK h) λq hq=>hf q (.tail _ hq)
  have c1:((i+1:Nat):Int)=(i:Int)+1:=rfl;have c2:m+(40-m)=40:=o_;have c0:((0:Nat):Int)=0:=rfl;rw[c1]at h5;rw[c2,c0]at h0;have e:N+acS (l::r)=N+l.length+acS r:=by rw[acS];omega
  rw[ah Nh,e,<-h5];simp(maxSteps:=9^6)(disch:=omega)[↓ac,↓aa,hg,h0]
def aej (gain m:Int)(g:H_)(hgn:0<=gain∧gain<=255)(hl:g.length<=8)(hm:0<=m∧m<=40)(hf:∀l∈g,fitsS m l∧l.length<=1000) :
  bq prog Vd [A_ gain,.d (.lst (bO g))]=some (B_ true):=by
 have h:=ahj g o_ m hm g 0 0 rfl hf;have c0:((0:Nat):Int)=0:=rfl;rw[c0]at h;rw[aG ak6 alt rfl];simp(maxSteps:=9^6)(disch:=omega)[↓ac,↓aa,h]
abbrev fb:=@List.flatMap_nil
def L5:Int->Q_->Option Int
 |lf,[]=>some lf
 |lf,s::r=>if s.right lf then L5 (lf-s.len) r else none
theorem XJ {l:Q_}{lf:Int}:L5 lf l=some 0↔fitsS lf l:=by
 induction l generalizing lf<;>grind [L5,fitsS]
def aIM {l:Q_}{lf v:Int}(h:L5 lf l=some v)(h0:0<=lf):0<=v∧v<=lf:=by
 induction l generalizing lf<;>grind [L5]
def bv {α:Type}{l:List α}{i:Nat}(h:l.drop i=[]):l.length<=i:=u_
def afJ (full:Q_)(hl:full.length<=1000000)(X:Obj)(x26:AV)(y27 y28:D):∀(r:Q_) (i:Nat) (lf:Int) (N:Nat),full.drop i=r->0<=lf∧lf<=1000->1<=N->
  ∃M,N<=M∧(Dn prog).code (.loop wA) ⟨[(2,.ptr 0 0),(9,A_ lf),(26,x26),(27,.d y27),(28,.d y28),(34,.d (.lst (io full))),(35,A_ full.length),(36,A_ i)],⟨[(0,X)],N⟩⟩ =
  match L5 lf r with
  |some v=>some (.exit 2,⟨[(2,.ptr 0 0),(9,A_ v),(26,x26),(27,.d y27),(28,.d y28)],⟨[(0,X)],M⟩⟩)
  |none=>some (.ret,⟨[(4,A_ 8)],⟨[(0,X)],M⟩⟩):=by
 intro r
 induction r with
 |nil =>
  intro i lf N h h0 hN;have hi:=bv h;refine⟨N,ak _,?_⟩;rw[ah Ds,L5];simp(disch:=omega)[↓aa]
 |cons s r ih =>
  intro i lf N h h0 hN;have hg:=AB h;have hlt:=bV h;have h6:=λk n left=>Ye ⟨k,n⟩ left
  by_cases hr:s.right lf
  .obtain⟨M,hM,e⟩:=ih (i+1) (lf-s.len) (N+1) (bK h) o_ o_;refine⟨M,o_,?_⟩;rw[ah Ds,L5,ac hr,<-e];simp(disch:=omega)[↓ac,↓aa,hg,h6]
  .refine⟨N+1,o_,?_⟩;rw[ah Ds,L5,aa hr];simp(disch:=omega)[↓ac,↓aa,hg,h6]
abbrev fQ (m:Int)(g:H_):Prop:=∀l∈g,fitsS m l
def aeZ (i:aO)(hi:i.Fit)(h0:0<=i.max∧i.max<=1000)(full:H_)(hl:full.length<=1000)(hl2:∀l∈full,l.length<=1000):∀(g:H_) (j:Nat) (N:Nat),full.drop j=g->1<=N->
  ∃M,(Dn prog).code (.loop wI) ⟨[(2,.ptr 0 0),(26,.d (.lst (bO full))),(27,A_ full.length),(28,A_ j)],⟨[(0,.cells i.cells)],N⟩⟩ =
  if fQ i.max g then some (.exit 0,⟨[],⟨[(0,.cells i.cells)],M⟩⟩) else some (.ret,⟨[(4,A_ 8)],⟨[(0,.cells i.cells)],M⟩⟩):=by
 simp only[aO.cells];intro g
 induction g with
 |nil =>
  intro j N h hN;have hi:=bv h;refine⟨N,?_⟩;rw[ah wm,ac (show fQ i.max [] from λ_ h=>by simp at h)];simp(disch:=omega)[↓aa]
 |cons l r ih =>
  intro j N h hN;have hg:=oE h;have hlt:=bV h;have hll:l.length<=1000:=hl2 l (by rw[<-aX j full,h];simp);obtain⟨M,hM,e⟩:=afJ l o_ (.cells i.cells) (.d (.lst (bO full))) (.int .i64 full.length) (.int .i64 j) l 0 i.max N rfl h0 hN;have c0:((0:Nat):Int)=0:=rfl;rw[c0]at e;simp only[aO.cells]at e
  cases hrm:L5 i.max l with
  |none =>
   refine⟨M,?_⟩;rw[hrm]at e;have hn:¬fQ i.max (l::r):=λh=>by
    grind [XJ]
   rw[ah wm,aa hn];simp(disch:=omega)[↓ac,hg,e]
  |some v =>
   rw[hrm]at e;by_cases h9:v=0
   .subst h9;obtain⟨M2,e2⟩:=ih (j+1) M (bK h) o_;refine⟨M2,?_⟩;have hf:=XJ.1 hrm;have hx:fQ i.max (l::r)↔fQ i.max r:=d_;rw[ah wm,avU hx,<-e2];simp(disch:=omega)[↓ac,hg,e]
   .refine⟨M,?_⟩;have hn:¬fQ i.max (l::r):=λh=>by
     grind [XJ]
    rw[ah wm,aa hn];simp(disch:=omega)[↓ac,↓aa,hg,e]
abbrev auv (g:H_):Prop:=g.length<=1000∧∀l∈g,l.length<=1000
abbrev kg (i:aO)(g:H_):Prop:=g.length=i.groups.length∧fQ i.max g
def anZ (i:aO)(hi:i.Fit)(g:H_)(hf:auv g):bq prog Tc [.agg i.cells,.d (.lst (bO g))]=if i.may 11 then if kg i g then some (A_ 0) else some (A_ 8) else some (A_ 8):=by
 have hw:=oZ i hi;rw[aG aiD agP rfl];by_cases hm:i.may 11
 .rw[ac hm]at hw⊢;have h0:0<=i.max∧i.max<=1000:=by have:=hm.2.2.1;have:=hm.2.2.2.1;grind [J7]
  obtain⟨M,e⟩:=aeZ i hi h0 g hf.1 hf.2 g 0 1 rfl o_;have c0:((0:Nat):Int)=0:=rfl;rw[c0]at e;simp only[aO.cells]at hw e;by_cases h1:g.length=i.groups.length
  .by_cases h2:fQ i.max g
   .rw[ac ⟨h1,h2⟩];simp(disch:=omega)[↓ac,hw,e]
   .rw[aa (λh=>h2 h.2)];rw[aa h2]at e;simp(disch:=omega)[↓ac,hw,e]
  .simp(disch:=omega)[↓ac,↓aa,hw]
 .simp only[aO.cells]at hw;simp(disch:=omega)[↓ac,↓aa,hw]
def fk (aY:Nat):Nat->Nat->C_
 |0,n=>[n]
 |f+1,n=>if aY<=n then aY::fk aY f (n-aY) else [n]
def ajS {σ:Type}{hp:σ->Int->am}{l p q N:Nat}{st:σ->Nat->σ}{dE:Nat->σ->Prop}(hI:∀k s x,dE (k+1) s->dE k (st s x))(hM:∀j k s,j<=k->dE k s->dE j s)(aY:Nat)(hm:1<=aY∧aY<=1000)(hg:∀s n,get (hp s n) p=some (.cells [A_ n]))(hq:∀s n,get (hp s n) q=some (.cells [A_ aY]))(hpt:∀s n m,put (hp s n) p (.cells [A_ m])=hp s m)
  (hy:∀(k:Nat) (s:σ) (x:Nat) (n:Int),dE (k+1) s->x<=aY->cA (Dn prog) (.yield l) [A_ (x:Int)] ⟨hp s n,N⟩=some (B_ true,⟨hp (st s x) n,N⟩)):∀(f n:Nat) (s:σ),n<=f->n<=1000000->dE (f+1) s->
  ∃(m:Nat) (s2:σ),m<aY∧dE 1 s2∧st s2 m=(fk aY f n).foldl st s∧(Dn prog).code (.loop qC) ⟨[(0,.yield l),(1,.ptr p 0),(2,.ptr q 0)],⟨hp s n,N⟩⟩=some (.exit 0,⟨[(0,.yield l),(1,.ptr p 0)],⟨hp s2 m,N⟩⟩):=by
 intro f
 induction f with
 |zero =>
  intro n s hn hb hi;refine⟨n,s,o_,hi,by rfl,?_⟩;rw[ah xu];simp(disch:=omega)[↓aa,hg,hq]
 |succ f ih =>
  intro n s hn hb hi;by_cases h1:aY<=n
  .obtain⟨m,s2,a1,a2,a3,a4⟩:=ih (n-aY) (st s aY) o_ o_ (hI _ _ _ hi);refine⟨m,s2,a1,a2,by grind [fk],?_⟩;have h2:=hy (f+1) s aY n hi o_;have c1:((n-aY:Nat):Int)=(n:Int)-aY:=o_;rw[c1]at a4;rw[ah xu,<-a4];simp(disch:=omega)[↓ac,hg,hq,hpt,-mz,h2]
  .refine⟨n,s,o_,?_,by grind [fk],?_⟩
   .grind
   .rw[ah xu];simp(disch:=omega)[↓aa,hg,hq]
def asN {σ:Type}{hp:σ->Int->am}{l p q N:Nat}{st:σ->Nat->σ}{dE:Nat->σ->Prop}(hI:∀k s x,dE (k+1) s->dE k (st s x))(hM:∀j k s,j<=k->dE k s->dE j s)(aY:Nat)(hm:1<=aY∧aY<=1000)(hg:∀s n,get (hp s n) p=some (.cells [A_ n]))(hq:∀s n,get (hp s n) q=some (.cells [A_ aY]))(hpt:∀s n m,put (hp s n) p (.cells [A_ m])=hp s m)
  (hy:∀(k:Nat) (s:σ) (x:Nat) (n:Int),dE (k+1) s->x<=aY->cA (Dn prog) (.yield l) [A_ (x:Int)] ⟨hp s n,N⟩=some (B_ true,⟨hp (st s x) n,N⟩))(n:Nat)(s:σ)(hn:n<=1000000)(hi:dE (n+1) s) :
  ∃m:Int,(Dn prog).call nh [.yield l,.ptr p 0,.ptr q 0] ⟨hp s n,N⟩=some (.tup [],⟨hp ((fk aY n n).foldl st s) m,N⟩):=by
 obtain⟨m,s2,a1,a2,a3,a4⟩:=ajS hI hM aY hm hg hq hpt hy n n s (ak _) hn hi;have h2:=hy 0 s2 m m a2 o_;refine⟨m,?_⟩;rw[be X9 aaI rfl,<-a3];simp(disch:=omega)[a4,hg,-mz,h2]
def Wd {aY:Nat}(hm:1<=aY):∀{f n:Nat},(fk aY f n).length<=n+1
 |0,n=>by simp[fk]
 |f+1,n=>by
  rw[fk];split
  .have:=Wd hm (f:=f) (n:=n-aY)
   grind
  .simp
def ajM (n m:Int)(h:am)(N:Nat):(Dn prog).call Qu [A_ n,A_ m] ⟨h,N⟩=some (.fn nh [] [.ptr N 0,.ptr (N+1) 0],⟨put (put h N (.cells [A_ n])) (N+1) (.cells [A_ m]),N+2⟩):=by
 rw[be aeC afQ rfl];simp(disch:=omega)
def Lq (sz:Nat)(s:ba):C_:=au s.book.toNat 4++(fk (2 ^ sz-1) s.len.toNat s.len.toNat).flatMap λn=>au n sz
def aey {sz:Nat}:∀{l acc:C_},l.foldl (fun(s:C_) n=>s++au n sz) acc=acc++l.flatMap λn=>au n sz
 |[],acc=>by simp
 |x::r,acc=>by rw[ef,aey];simp
abbrev J4:Obj:=.cells [.junk,.junk,.junk,.junk]
abbrev hpS (sz:Nat)(v:AV):am:=[(0,.cells [v]),(1,J4),(2,.cells [A_ sz])]
abbrev hpF (sz aY N:Nat)(e:aZ)(v:AV)(n:Int):am:=[(0,.cells [v]),(1,J4),(2,.cells [A_ sz]),(N+1,.cells [A_ n]),(N+1+1,.cells [A_ aY]),(N+1+2,.loop e [55] Ax Ag false none)]
abbrev ab4 (aY:Nat)(y32 y33 y34:D)(full:Q_)(i:Int)(r:aZ):aZ:=(3,.ptr 0 0)::(9,.ptr 2 0)::(10,A_ aY)::(32,.d y32)::(33,.d y33)::(34,.d y34)::(38,.d (.lst (io full)))::(39,A_ full.length)::(40,A_ i)::r
def aG2 (sz aY N:Nat)(hsz:1<=sz∧sz<=5)(hm:aY<2 ^ sz)(hN:3<=N)(y32 y33 y34:D)(full:Q_)(i:Int)(b:C_)(x:Nat)(n:Int)(hx:x<=aY)(hb:b.length<=800000000) :
  cA (Dn prog) (.yield (N+1+2)) [A_ (x:Int)] ⟨hpF sz aY N (ab4 aY y32 y33 y34 full i [(54,.fn nh [] [.ptr (N+1) 0,.ptr (N+1+1) 0])]) (.own false 1 (ai b)) n,N+1+2+1⟩ =
  some (B_ true,⟨hpF sz aY N (ab4 aY y32 y33 y34 full i [(54,.fn nh [] [.ptr (N+1) 0,.ptr (N+1+1) 0])]) (.own false 1 (ai (b++au x sz))) n,N+1+2+1⟩):=by
 have h5:2 ^ sz<=2 ^ 5:=aw o_ hsz.2;have h1:=lW b x sz o_ o_ _ (.inl rfl);rw[ac d_]at h1;simp(disch:=omega)[aeM,aeA,↓ac,↓aa,h1]
theorem ajK (sz aY:Nat)(hsz:1<=sz∧sz<=5)(hm:aY=2 ^ sz-1)(full r:Q_)(hl:full.length<=1000)(s:ba)(y32 y33 y34:D)(i N:Nat)(b:C_)(hd:full.drop i=s::r)(hr:s.right 1000)(hN:3<=N)(hb:b.length<=700000000) :
  (Dn prog).code uT ⟨ab4 aY y32 y33 y34 full i [],⟨hpS sz (.own false 1 (ai b)),N⟩⟩ =
  some (.normal,⟨ab4 aY y32 y33 y34 full ((i+1:Nat):Int) [],⟨hpS sz (.own false 1 (ai (b++Lq sz s))),N+4⟩⟩):=by
 have hg:=AB hd;have hlt:=bV hd;have h5:2 ^ sz<=2 ^ 5:=aw o_ hsz.2;have h6:2 ^ 1<=2 ^ sz:=aw o_ hsz.1;have h1:=lW b s.book 4 o_ o_ _ (.inl rfl);have ho:om s.book 4:=by
  grind
 obtain⟨L,hL⟩:=aA (show 0<=s.len by omega);obtain⟨m,h7⟩:=asN (hp:=λb n=>hpF sz aY N (ab4 aY y32 y33 y34 full i [(54,.fn nh [] [.ptr (N+1) 0,.ptr (N+1+1) 0])]) (.own false 1 (ai b)) n) (l:=N+1+2) (p:=N+1) (q:=N+1+1) (N:=N+1+2+1) (st:=λs n=>s++au n sz) (dE:=λk s=>s.length+5*k<=750000000)
  (λk s x h=>by grind [cM]) (λj k s h1 h2=>by omega) aY o_ (λs n=>by simp(disch:=omega)[↓aa]) (λs n=>by simp(disch:=omega)[↓aa]) (λs n m=>by simp(disch:=omega)[↓aa])
  (λk s x n h1 h2=>aG2 sz aY N hsz o_ hN y32 y33 y34 full i s x n h2 o_) L (b++au s.book.toNat 4) o_ (by simp;omega)
 rw[aey]at h7;have e:b++au s.book.toNat 4++(fk aY L L).flatMap (λn=>au n sz)=b++Lq sz s:=by
  grind [Lq]
 rw[e]at h7;rw[hL]at hg;rw[Qj];simp(disch:=omega)[↓ac,↓aa,hg,h1,ajM,rd,h7]
def aip {sz:Nat}(hsz:1<=sz∧sz<=5){s:ba}(h:s.right 1000):(Lq sz s).length<=6000:=by
 have h6:2 ^ 1<=2 ^ sz:=aw o_ hsz.1;have h1:=Wd (aY:=2 ^ sz-1) o_ (f:=s.len.toNat) (n:=s.len.toNat);rw[Lq,aj,cM,List.length_flatMap];have:((fk (2 ^ sz-1) s.len.toNat s.len.toNat).map λn=>(au n sz).length).sum<=(fk (2 ^ sz-1) s.len.toNat s.len.toNat).length*5:=by
  generalize fk (2 ^ sz-1) s.len.toNat s.len.toNat=l
  induction l<;>grind [cM]
 omega
def qn (sz:Nat)(l:Q_):C_:=l.flatMap (Lq sz)
def uc {lf:Int}:∀{l:Q_},fitsS lf l->lf<=1000->∀s∈l,s.right 1000
 |[],_,_,s,h=>absurd h (by simp)
 |x::r,hf,h0,s,h=>by
  obtain⟨h1,h2⟩:=hf;rcases ay.1 h with e|e
  .grind
  .exact uc h2 o_ s e
def akZ (sz aY:Nat)(hsz:1<=sz∧sz<=5)(hm:aY=2 ^ sz-1)(full:Q_)(hl:full.length<=1000)(y32 y33 y34:D):∀(r:Q_) (i N:Nat) (b:C_),full.drop i=r->(∀s∈r,s.right 1000)->3<=N->b.length+6000*r.length<=700000000->
  ∃M,3<=M∧(Dn prog).code (.loop uT) ⟨ab4 aY y32 y33 y34 full i [],⟨hpS sz (.own false 1 (ai b)),N⟩⟩ =
  some (.exit 2,⟨[(3,.ptr 0 0),(9,.ptr 2 0),(10,A_ aY),(32,.d y32),(33,.d y33),(34,.d y34)],⟨hpS sz (.own false 1 (ai (b++qn sz r))),M⟩⟩):=by
 intro r
 induction r with
 |nil =>
  intro i N b hd hr hN hb;have hi:=bv hd;refine⟨N,hN,?_⟩;rw[ah Qj,qn,fb,bh];simp(disch:=omega)[↓aa]
 |cons s r ih =>
  intro i N b hd hr hN hb;have hs:=hr s (.head _);have h1:=aip hsz hs;obtain⟨M,hM,e⟩:=ih (i+1) (N+4) (b++Lq sz s) (bK hd) (λq hq=>hr q (.tail _ hq)) o_ (by grind)
  grind [qn,ah,ajK,NB]
def PI (i:aO)(g:H_):C_:=g.flatMap (qn i.fsz)
def RF {sz:Nat}(hsz:1<=sz∧sz<=5):∀{l:Q_},(∀s∈l,s.right 1000)->(qn sz l).length<=6000*l.length
 |[],_=>by simp[qn]
 |s::r,h=>by
  have h1:=aip hsz (h s (.head _));have h2:=RF hsz (l:=r) λq hq=>h q (.tail _ hq)
  grind [qn]
def akj (sz aY:Nat)(hsz:1<=sz∧sz<=5)(hm:aY=2 ^ sz-1)(m:Int)(hm0:m<=1000)(full:H_)(hl:full.length<=1000):∀(g:H_) (i N:Nat) (b:C_),full.drop i=g->fQ m g->(∀l∈g,l.length<=100)->3<=N->b.length+600000*g.length<=700000000->
  ∃M,(Dn prog).code (.loop Ap) ⟨[(3,.ptr 0 0),(9,.ptr 2 0),(10,A_ aY),(32,.d (.lst (bO full))),(33,A_ full.length),(34,A_ i)],⟨hpS sz (.own false 1 (ai b)),N⟩⟩ =
  some (.exit 0,⟨[(3,.ptr 0 0)],⟨hpS sz (.own false 1 (ai (b++g.flatMap (qn sz)))),M⟩⟩):=by
 intro g
 induction g with
 |nil =>
  intro i N b hd hf hll hN hb;have hi:=bv hd;refine⟨N,?_⟩;rw[ah QO,fb,bh];simp(disch:=omega)[↓aa]
 |cons l r ih =>
  intro i N b hd hf hll hN hb;simp only[aq]at hb;have hg:=oE hd;have hlt:=bV hd;have hlen:=hll l (.head _);have hr:=uc (hf l (.head _)) hm0;have h1:=RF hsz hr;obtain⟨M,hM,e⟩:=akZ sz aY hsz hm l o_ (.lst (bO full)) (.int .i64 full.length) (.int .i64 i) l 0 N b rfl hr hN o_;obtain⟨M2,e2⟩:=ih (i+1) M (b++qn sz l) (bK hd) (λq hq=>hf q (.tail _ hq)) (λq hq=>hll q (.tail _ hq)) hM d_;refine⟨M2,?_⟩;have c0:((0:Nat):Int)=0:=rfl;rw[c0]at e;have ea:b++(l::r).flatMap (qn sz)=b++qn sz l++r.flatMap (qn sz):=u_;rw[ah QO,ea,<-e2];simp(disch:=omega)[↓ac,hg,e]
def Jf {lf:Int}:∀{l:Q_},fitsS lf l->(l.length:Int)<=lf∨l=[]
 |[],_=>.inr rfl
 |x::r,hf=>by
  obtain⟨h1,h2⟩:=hf;have:=Jf h2
  grind
def atU (b:C_)(hb:b.length<=400000000)(x:AV)(hx:x=.d (.lst (ai b))∨x=.nl∧b=[])(i:aO)(hi:i.Fit)(hm:i.may 11)(g:H_)(hf:auv g)(hg:kg i g):bq prog ZJ [x,.agg i.cells,.d (.lst (bO g))] =
  some (.tup [.own true 1 (ai (b++PI i g)),A_ 0]):=by
 have hc:=anZ i hi g hf;rw[ac hm,ac hg]at hc;have h0:0<=i.max∧i.max<=100:=by have:=hm.2.2.1;have:=hm.2.2.2.1;grind [J7]
 have hfd:=Z8 i;have hsz:1<=i.fsz∧i.fsz<=5:=by grind [aO.fsz]
 have g8:g.length<=8:=by
  have h:=(d8 hm).1;have h2:=(d8 hm).2;have:=mT (λn hn=>(h n hn).1)
  grind [aO.many]
 have hll:∀l∈g,l.length<=100:=λl hl=>by
  rcases Jf (hg.2 l hl) with h|h<;>grind
 have hp:=lW b 0 0 o_ o_ x hx;rw[ac k_]at hp;have t0:(0:Int).toNat=0:=rfl;rw[t0,au,bh]at hp;obtain⟨M,e⟩:=akj i.fsz (2 ^ i.fsz-1) hsz rfl i.max o_ g hf.1 g 0 3 b rfl hg.2 hll o_ o_;have c0:((0:Nat):Int)=0:=rfl;rw[c0]at e;simp only[aO.cells]at hc hfd;rw[aG api an9 rfl,PI];rcases hx with rfl|⟨rfl,rfl⟩
 all_goals simp(disch:=omega)[↓ac,↓aa,hc,hfd,hp,e]
def aN (l:Q_):G_:=l.flatMap λs=>List.replicate s.len.toNat s.book
def aao {l:G_}{x:Int}:aI (l++[x])=aI l++[[.int .i64 x]]:=by simp[aI]
theorem iR {l:G_}:(aI l).length=l.length:=by simp[aI]
structure Tl {σ:Type}(hp:σ->am->am)(L:Nat):Prop where
 put:∀s K o,L<=K->Go.Vm.put (hp s []) K o=hp s [(K,o)]
 put2:∀s K o o',L<=K->Go.Vm.put (hp s [(K,o)]) K o'=hp s [(K,o')]
 get:∀s K o,L<=K->Go.Vm.get (hp s [(K,o)]) K=some o
 del:∀s K o,L<=K->Go.Vm.del (hp s [(K,o)]) K=hp s []
def vS {σ τ:Type}(st:Nat->Int->σ->Sum σ τ):G_->Nat->σ->Sum σ τ
 |[],_,s=>.inl s
 |k::r,a,s=>match st a k s with
  |.inl s=>vS st r (a+1) s
  |.inr z=>.inr z
def agR {σ τ:Type}{st:Nat->Int->σ->Sum σ τ}:∀{l r:G_}{a:Nat}{s:σ},vS st (l++r) a s=match vS st l a s with
  |.inl s=>vS st r (a+l.length) s
  |.inr z=>.inr z
 |[],r,a,s=>rfl
 |k::l,r,a,s=>by
  rw[aS,vS,vS]
  cases st a k s with
  |inl s=>simp only[agR,aq];rw[show a+(l.length+1)=a+1+l.length by omega]
  |inr z=>rfl
section
variable {σ τ:Type}{hp:σ->am->am}{hq:τ->am->am}{L l p:Nat}{bks:G_}{st:Nat->Int->σ->Sum σ τ}{dE:Nat->σ->Prop}
def Rnd (hp:σ->am->am)(hq:τ->am->am)(L l:Nat)(bks:G_)(st:Nat->Int->σ->Sum σ τ)(dE:Nat->σ->Prop):Prop :=
 ∀a k s K o N,bks[a]?=some k->dE a s->L<=K->K<N->
  (∃s2,st a k s=.inl s2∧dE (a+1) s2∧cA (Dn prog) (.yield l) [A_ (a:Int),A_ k] ⟨hp s [(K,o)],N⟩=some (B_ true,⟨hp s2 [(K,o)],N⟩))∨
  (∃z,st a k s=.inr z∧cA (Dn prog) (.yield l) [A_ (a:Int),A_ k] ⟨hp s [(K,o)],N⟩=some (B_ false,⟨hq z [(K,o)],N⟩))
def aoZ (H:Tl hp L)(H2:Tl hq L)(hY:Rnd hp hq L l bks st dE)(full:Q_)(s0:ba)(hs0:s0.len<=1000)(i K N:Nat)(hK:L<=K)(hKN:K<N):∀(k j a:Nat) (s:σ),j+k=s0.len.toNat->(∀q,q<k->bks[a+q]?=some s0.book)->a+k<=100000000->dE a s->
  (∃s2,vS st (List.replicate k s0.book) a s=.inl s2∧dE (a+k) s2∧(Dn prog).code (.loop mK) ⟨[(0,.yield l),(3,A_ a),(5,.ptr K 0),(6,.d (.lst (io full))),(7,A_ full.length),(8,A_ i),(13,A_ s0.len),(14,A_ j)],⟨hp s [(K,.cells [A_ s0.book,A_ s0.len])],N⟩⟩ =
   some (.exit 2,⟨[(0,.yield l),(3,A_ (a+k:Nat)),(6,.d (.lst (io full))),(7,A_ full.length),(8,A_ i)],⟨hp s2 [],N⟩⟩))∨
  (∃z,vS st (List.replicate k s0.book) a s=.inr z∧(Dn prog).code (.loop mK) ⟨[(0,.yield l),(3,A_ a),(5,.ptr K 0),(6,.d (.lst (io full))),(7,A_ full.length),(8,A_ i),(13,A_ s0.len),(14,A_ j)],⟨hp s [(K,.cells [A_ s0.book,A_ s0.len])],N⟩⟩ =
   some (.ret,⟨[],⟨hq z [],N⟩⟩)):=by
 have hG:=λs o=>H.get s K o hK
 have hD:=λs o=>H.del s K o hK
 have hD2:=λs o=>H2.del s K o hK
 intro k
 induction k with
 |zero =>
  intro j a s h1 h2 h3 hi;refine .inl ⟨s,rfl,hi,?_⟩;rw[ah wW];simp(maxSteps:=9^6)(disch:=omega)[↓aa,hD]
 |succ k ih =>
  intro j a s h1 h2 h3 hi;have hb:=h2 0 o_;rw[ej]at hb;have c1:((j+1:Nat):Int)=(j:Int)+1:=rfl;have c2:((a+1:Nat):Int)=(a:Int)+1:=rfl;rw[cx];rcases hY a s0.book s K (.cells [A_ s0.book,A_ s0.len]) N hb hi hK hKN with ⟨s2,e1,e2,e3⟩|⟨z,e1,e3⟩
  .rw[vS,e1,ah wW];have e4:a+(k+1)=a+1+k:=o_;have h9:=ih (j+1) (a+1) s2 o_ (λq hq=>by rw[show a+1+q=a+(q+1) by omega];exact h2 (q+1) o_) o_ e2;rw[c1,c2]at h9;rw[e4];rcases h9 with ⟨s3,f1,f2,f3⟩|⟨z,f1,f3⟩
   .refine .inl ⟨s3,f1,f2,?_⟩;rw[<-f3];simp(maxSteps:=9^6)(disch:=omega)[↓ac,↓aa,hG,-mz,e3]
   .refine .inr ⟨z,f1,?_⟩;rw[<-f3];simp(maxSteps:=9^6)(disch:=omega)[↓ac,↓aa,hG,-mz,e3]
  .refine .inr ⟨z,by rw[vS,e1],?_⟩;rw[ah wW];simp(maxSteps:=9^6)(disch:=omega)[↓ac,↓aa,hG,-mz,e3,hD2]
def ant (H:Tl hp L)(H2:Tl hq L)(hY:Rnd hp hq L l bks st dE)(full:Q_)(hfl:full.length<=1000):∀(r:Q_) (i a N:Nat) (s:σ),full.drop i=r->(∀q∈r,0<=q.len∧q.len<=1000)->bks.drop a=aN r->a<=1000*i->L<=N->dE a s->
  (∃s2 M,vS st (aN r) a s=.inl s2∧dE (a+(aN r).length) s2∧N<=M∧(Dn prog).code (.loop mS) ⟨[(0,.yield l),(3,A_ a),(6,.d (.lst (io full))),(7,A_ full.length),(8,A_ i)],⟨hp s [],N⟩⟩ =
   some (.exit 0,⟨[],⟨hp s2 [],M⟩⟩))∨
  (∃z M,vS st (aN r) a s=.inr z∧N<=M∧(Dn prog).code (.loop mS) ⟨[(0,.yield l),(3,A_ a),(6,.d (.lst (io full))),(7,A_ full.length),(8,A_ i)],⟨hp s [],N⟩⟩ =
   some (.ret,⟨[],⟨hq z [],M⟩⟩)):=by
 intro r
 induction r with
 |nil =>
  intro i a N s hd hr hb ha hL hi;have hk:=bv hd;refine .inl ⟨s,N,rfl,hi,ak _,?_⟩;rw[ah qI];simp(maxSteps:=9^6)(disch:=omega)[↓aa]
 |cons q r ih =>
  intro i a N s hd hr hb ha hL hi;have hq:=hr q (.head _);have hlt:=bV hd;have hg:=AB hd;have eb:aN (q::r)=List.replicate q.len.toNat q.book++aN r:=by rw[aN,aC];rfl
  rw[eb]at hb;have hbk:∀j,j<q.len.toNat->bks[a+j]?=some q.book:=λj hj=>by
   have:=aP (λl=>l[j]?) hb;simp only[ck]at this;rw[this,bU (by simpa using hj)];simp[hj]
  have hb2:bks.drop (a+q.len.toNat)=aN r:=by
   have:=aP (λl=>l.drop q.len.toNat) hb;simp only[mD]at this;rw[this,List.drop_left' s_]
  have hp1:=λo=>H.put s N o hL
  have hp2:=λo o'=>H.put2 s N o o' hL
  have hG:=λo=>H.get s N o hL
  have c1:((i+1:Nat):Int)=(i:Int)+1:=rfl;have c0:((0:Nat):Int)=0:=rfl;have h0:=aoZ H H2 hY full q hq.2 i N (N+1) hL o_ q.len.toNat 0 a s o_ hbk o_ hi;rw[c0]at h0;rw[eb,agR];rcases h0 with ⟨s2,e1,e2,e3⟩|⟨z,e1,e3⟩
  .have h9:=ih (i+1) (a+q.len.toNat) (N+1) s2 (bK hd) (λx hx=>hr x (.tail _ hx)) hb2 o_ o_ e2;rw[c1]at h9;rw[e1];simp only[aj,aL];rcases h9 with ⟨s3,M,f1,f2,f3,f4⟩|⟨z,M,f1,f3,f4⟩
   .refine .inl ⟨s3,M,f1,by rw[<-dP];exact f2,o_,?_⟩;rw[ah qI,<-f4];simp(maxSteps:=9^6)(disch:=omega)[↓ac,↓aa,hg,hp1,hp2,hG,e3]
   .refine .inr ⟨z,M,f1,o_,?_⟩;rw[ah qI,<-f4];simp(maxSteps:=9^6)(disch:=omega)[↓ac,↓aa,hg,hp1,hp2,hG,e3]
  .rw[e1];refine .inr ⟨z,N+1,rfl,o_,?_⟩;rw[ah qI];simp(maxSteps:=9^6)(disch:=omega)[↓ac,↓aa,hg,hp1,hp2,hG,e3]
def acQ (H:Tl hp L)(H2:Tl hq L)(full:Q_)(hY:Rnd hp hq L l (aN full) st dE)(hgp:∀s,get (hp s []) p=some (.cells [.d (.lst (io full))]))(hfl:full.length<=1000)(hr:∀q∈full,0<=q.len∧q.len<=1000)(N:Nat)(s:σ)(hN:L<=N)(hi:dE 0 s) :
  (∃s2 M,vS st (aN full) 0 s=.inl s2∧dE (aN full).length s2∧N<=M∧(Dn prog).call jD [.yield l,.ptr p 0] ⟨hp s [],N⟩=some (.tup [],⟨hp s2 [],M⟩))∨
  (∃z M,vS st (aN full) 0 s=.inr z∧N<=M∧(Dn prog).call jD [.yield l,.ptr p 0] ⟨hp s [],N⟩=some (.tup [],⟨hq z [],M⟩)):=by
 have h:=ant H H2 hY full hfl full 0 0 N s rfl hr rfl o_ hN hi;have c0:((0:Nat):Int)=0:=rfl;rw[c0,bn]at h;rw[be aa3 aaC rfl];rcases h with ⟨s2,M,e1,e2,e3,e4⟩|⟨z,M,e1,e3,e4⟩
 .refine .inl ⟨s2,M,e1,e2,e3,?_⟩;simp(maxSteps:=9^6)(disch:=omega)[hgp,e4]
 .refine .inr ⟨z,M,e1,e3,?_⟩;simp(maxSteps:=9^6)(disch:=omega)[hgp,e4]
end
def LW (x:D)(h:am)(N:Nat):(Dn prog).call GV [.d x] ⟨h,N⟩=some (.fn jD [] [.ptr N 0],⟨put h N (.cells [.d x]),N+1⟩):=by
 rw[be aeI afv rfl];simp(maxSteps:=9^6)(disch:=omega)
abbrev aJ:=@List.getElem?_eq_some_iff
def dj (t:K_):E_:=t.map λl=>[.lst (aI l)]
@[simp] def aqN {t:K_}:(dj t).length=t.length:=by simp[dj]
def KG {g:K_}{i:Nat}{l:G_}{r:K_}(h:g.drop i=l::r):(dj g)[i]?=some [.lst (aI l)]:=by
 grind [List.getElem?_cons_zero,dj]
def BA {l:G_}{i:Nat}{k:Int}{r:G_}(h:l.drop i=k::r):(aI l)[i]?=some [.int .i64 k]:=by
 grind [List.getElem?_cons_zero,aI]
def ee:G_->G_->Int->Int->Option (Int×Int)
 |[],[],w,z=>some (w,z)
 |k::r,n::t,w,z=>if k=0 then (if n=0 then ee r t w z else none) else if mp k n w z then (if k=13 then ee r t w n else ee r t n z) else none
 |_,_,_,_=>none
def na:H_->K_->Int->Int->Option (Int×Int)
 |[],[],w,z=>some (w,z)
 |l::r,t::s,w,z=>match ee (aN l) t w z with
  |some (w,z)=>na r s w z
  |none=>none
 |_,_,_,_=>none
abbrev Bq (gain:Int)(g:H_)(t:K_):Prop:=na g t gain (-1)≠none
theorem Kv:∀{g:H_}{t:K_}{w z:Int},na g t w z≠none->g.length=t.length
 |[],[],_,_,_=>rfl
 |[],_::_,_,_,h=>absurd rfl h
 |_::_,[],_,_,h=>absurd rfl h
 |l::r,t::s,w,z,h=>by
  rw[na]at h;split at h
  .simp only[aq,Kv h]
  simp_all
abbrev uO (w:Int):Prop:=-1<=w∧w<=511
def SI {k n w z:Int}(h:mp k n w z):uO n:=by
 grind
def kB (k n w z:Int):Int×Int:=if k=0 then (w,z) else if k=13 then (w,n) else (n,z)
def qt {k n:Int}{r t:G_}{w z:Int}(h:ee (k::r) (n::t) w z≠none):(k=0->n=0)∧(k≠0->mp k n w z)∧ee (k::r) (n::t) w z=ee r t (kB k n w z).1 (kB k n w z).2:=by
 grind [ee,kB]
def aer {bks t:G_}{a:Nat}{k:Int}{w z:Int}(hk:bks[a]?=some k)(h:ee (bks.drop a) (t.drop a) w z≠none):∃n,t.drop a=n::t.drop (a+1)∧(k=0->n=0)∧(k≠0->mp k n w z)∧ee (bks.drop a) (t.drop a) w z=ee (bks.drop (a+1)) (t.drop (a+1)) (kB k n w z).1 (kB k n w z).2:=by
 obtain⟨hlt,e⟩:=aJ.1 hk;have h1:=eY hlt;rw[e]at h1;rw[h1]at h⊢
 cases h2:t.drop a with
 |nil=>rw[h2]at h;exact absurd rfl h
 |cons n r =>
  have h3:t.drop (a+1)=r:=bK h2;rw[h2]at h;obtain⟨a1,a2,a3⟩:=qt h
  simp_all
abbrev hpK (ss:K_)(g N:Nat)(l:Q_)(e:aZ)(s:Nat×Int×Int)(T:am):am :=
 (0,.cells [.d (.lst (dj ss))])::(1,.cells [A_ 0])::(2,.cells [A_ s.2.1,A_ s.2.2])::(3,.cells [.ptr 2 0])::(N,.cells [A_ g])::(N+1,.cells [A_ s.1])::(N+1+1,.cells [.d (.lst (io l))])::(N+1+1+1,.loop e [36,37] md mj false none)::T
abbrev aoc (gs:H_)(g N:Nat):aZ:=[(5,.ptr 0 0),(6,.ptr 1 0),(7,.ptr 3 0),(8,.ptr N 0),(10,.ptr (N+1) 0),(27,.d (.lst (bO gs))),(28,A_ gs.length),(29,A_ g),(35,.fn jD [] [.ptr (N+1+1) 0])]
def aGc {ss:K_}{g N:Nat}{l:Q_}{e:aZ}(hN:4<=N):Tl (hpK ss g N l e) (N+1+1+1+1):=by
 constructor
 .intro s K o h;simp(disch:=omega)[↓aa]
 .intro s K o o' h;simp(disch:=omega)[↓aa]
 .intro s K o h;simp(disch:=omega)[↓aa]
 .intro s K o h;simp(disch:=omega)[↓aa]
def noH (z:Empty)(_:am):am:=nomatch z
def aom {L:Nat}:Tl noH L:=by constructor<;>(grind)
structure LK (F:Obj->Int->Int->Int->am)(ss:K_)(g:Int)(L N:Nat):Prop where
 gl:∀q m w z,get (F q m w z) L=some q
 pl:∀q m w z q',put (F q m w z) L q'=F q' m w z
 g0:∀q m w z,get (F q m w z) 0=some (.cells [.d (.lst (dj ss))])
 g2:∀q m w z,get (F q m w z) 2=some (.cells [A_ w,A_ z])
 p2:∀q m w z w' z',put (F q m w z) 2 (.cells [A_ w',A_ z'])=F q m w' z'
 g3:∀q m w z,get (F q m w z) 3=some (.cells [.ptr 2 0])
 gN:∀q m w z,get (F q m w z) N=some (.cells [A_ g])
 gM:∀q m w z,get (F q m w z) (N+1)=some (.cells [A_ m])
 pM:∀q m w z m',put (F q m w z) (N+1) (.cells [A_ m'])=F q m' w z
def aC0 {F:Obj->Int->Int->Int->am}{L:Nat}(ss:K_)(hss:ss.length<=1000)(gs:H_)(hgs:gs.length<=1000)(g N:Nat)(H:LK F ss g L N)(t:G_)(ht:t.length<=100000)(hg:(dj ss)[g]?=some [.lst (aI t)])(a:Nat)(k:Int)(w z:Int)(M:Nat)(n:Int)(r:G_)(hd:t.drop a=n::r)(h0:k=0->n=0)(h1:k≠0->mp k n w z)(hk:0<=k∧k<=13)(hw:uO w)(hz:uO z) :
  cA (Dn prog) (.yield L) [A_ (a:Int),A_ k] ⟨F (.loop (aoc gs g N) [36,37] md mj false none) a w z,M⟩=some (B_ true,⟨F (.loop (aoc gs g N) [36,37] md mj false none) (a+1) (kB k n w z).1 (kB k n w z).2,M⟩):=by
 have ha:=bV hd;have hn:=BA hd;have gl:g<ss.length:=by
  obtain⟨h,_⟩:=aJ.1 hg;simpa using h
 have T:=λq m=>OY (hp:=λw z=>F q m w z) (A:=2) ⟨λs z=>H.g2 q m s z,λs z s' z'=>H.p2 q m s z s' z'⟩ k n w z M
 by_cases k0:k=0
 .have:=h0 k0;subst k0 this;simp(disch:=omega)[AA,A7,↓ac,↓aa,hg,hn,H.gl,H.pl,H.g0,H.gN,H.gM,H.pM,kB]
 .have hT:=h1 k0;have hn5:=SI hT;have T:=λq m=>T q m o_ o_ (by omega)
  simp only[ac hT]at T;have e:(kB k n w z)=if k=13 then (w,n) else (n,z):=by rw[kB,aa k0]
  by_cases k13:k=13
  .rw[e,ac k13];simp(disch:=omega)[AA,A7,↓ac,↓aa,hg,hn,H.gl,H.pl,H.g0,H.g3,H.gN,H.gM,H.pM,T]
  .rw[e,aa k13];simp(disch:=omega)[AA,A7,↓ac,↓aa,hg,hn,H.gl,H.pl,H.g0,H.g3,H.gN,H.gM,H.pM,T]
abbrev FK (ss:K_)(g N:Nat)(l:Q_)(T:am)(q:Obj)(m w z:Int):am :=
 (0,.cells [.d (.lst (dj ss))])::(1,.cells [A_ 0])::(2,.cells [A_ w,A_ z])::(3,.cells [.ptr 2 0])::(N,.cells [A_ g])::(N+1,.cells [A_ m])::(N+1+1,.cells [.d (.lst (io l))])::(N+1+1+1,q)::T
def aDB {ss:K_}{g N:Nat}{l:Q_}{T:am}(hN:4<=N):LK (FK ss g N l T) ss g (N+1+1+1) N:=by
 constructor<;>intro q m w z<;>(try intro q')<;>(try intro q'')<;>simp(disch:=omega)[↓aa]
def aDe (ss:K_)(hss:ss.length<=1000)(gs:H_)(hgs:gs.length<=1000)(g N:Nat)(hN:4<=N)(t:G_)(ht:t.length<=100000)(hg:(dj ss)[g]?=some [.lst (aI t)])(l:Q_)(hl:∀k∈aN l,0<=k∧k<=13)(fin:Int×Int) :
  Rnd (hpK ss g N l (aoc gs g N)) noH (N+1+1+1+1) (N+1+1+1) (aN l) (λa k s=>.inl (a+1,kB k (nth t a) s.2.1 s.2.2)) (λa s=>s.1=a∧uO s.2.1∧uO s.2.2∧ee ((aN l).drop a) (t.drop a) s.2.1 s.2.2=some fin):=by
 intro a k s K o M hk hi hK hM;obtain⟨i1,i2,i3,i4⟩:=hi;obtain⟨n,d1,d2,d3,d4⟩:=aer hk (by rw[i4];simp);have hn:nth t a=n:=by
  grind [bV,qX]
 have hkm:=hl k d_;rw[i4]at d4;have hgo:uO (kB k n s.2.1 s.2.2).1∧uO (kB k n s.2.1 s.2.2).2:=by
  grind [kB]
 refine .inl ⟨(a+1,kB k n s.2.1 s.2.2),u_,⟨rfl,hgo.1,hgo.2,d4.symm⟩,?_⟩;obtain⟨m,w,z⟩:=s;subst i1;have:=aC0 ss hss gs hgs g N (aDB (ss:=ss) (g:=g) (l:=l) (T:=[(K,o)]) hN) t ht hg m k w z M n _ d1 d2 d3 hkm i2 i3;exact this
def Po {l:Q_}{lf:Int}(h:fitsS lf l):∀k∈aN l,0<=k∧k<=13:=by
 induction l generalizing lf with
 |nil=>grind [aN]
 |cons s r ih =>
  intro k hk;obtain⟨h1,h2⟩:=h
  grind [aN]
abbrev aFt (ss:K_)(w z:Int):am:=[(0,.cells [.d (.lst (dj ss))]),(1,.cells [A_ 0]),(2,.cells [A_ w,A_ z]),(3,.cells [.ptr 2 0])]
def ahF {t:G_}{a:Nat}{w z:Int}{fin:Int×Int}(h:ee [] (t.drop a) w z=some fin):(w,z)=fin∧t.length<=a:=by
 cases h1:t.drop a<;>simp_all [ee]
theorem XU:∀{bks t:G_}{w z:Int}{fin:Int×Int},ee bks t w z=some fin->bks.length=t.length
 |[],[],_,_,_,_=>rfl
 |[],_::_,_,_,_,h=>absurd h (by simp[ee])
 |_::_,[],_,_,_,h=>absurd h (by simp[ee])
 |k::r,n::t,w,z,fin,h=>by
  have h1:=qt (by rw[h];simp);rw[h]at h1;have:=XU h1.2.2.symm
  simp_all
def abe (ss:K_)(hss:ss.length<=1000)(hss2:∀t∈ss,t.length<=100000)(gs:H_)(hgs:gs.length<=1000)(m:Int)(hm:m<=1000):∀(gr:H_) (sr:K_) (i N:Nat) (w z:Int),gs.drop i=gr->ss.drop i=sr->fQ m gr->(∀l∈gr,l.length<=1000)->uO w->uO z->na gr sr w z≠none->4<=N->
  ∃M w' z',(Dn prog).code (.loop uC) ⟨[(5,.ptr 0 0),(6,.ptr 1 0),(7,.ptr 3 0),(27,.d (.lst (bO gs))),(28,A_ gs.length),(29,A_ i)],⟨aFt ss w z,N⟩⟩ =
  some (.exit 0,⟨[(6,.ptr 1 0)],⟨[(1,.cells [A_ 0]),(2,.cells [A_ w',A_ z'])],M⟩⟩):=by
 intro gr
 induction gr with
 |nil =>
  intro sr i N w z hd hd2 hf hl hw hz hr hN;have hi:=bv hd;refine⟨N,w,z,?_⟩;rw[ah IM];simp(disch:=omega)[↓ac,↓aa]
 |cons l r ih =>
  intro sr i N w z hd hd2 hf hl hw hz hr hN;have hg:=oE hd;have hlt:=bV hd;have hfl:=hf l (.head _);have hll:=hl l (.head _)
  cases sr with
  |nil=>exact absurd rfl hr
  |cons t s =>
   have hgt:=KG hd2;have htl:=hss2 t (by rw[<-aX i ss,hd2];simp);have hlt2:=bV hd2;rw[na]at hr
   cases hrow:ee (aN l) t w z with
   |none=>simp_all
   |some fin =>
    rw[hrow]at hr;have hlen:=XU hrow;have hb:=acQ (p:=N+1+1) (aGc (ss:=ss) (g:=i) (l:=l) (e:=aoc gs i N) hN) aom l (aDe ss hss gs hgs i N hN t htl hgt l (Po hfl) fin) (λs=>by simp(disch:=omega)[↓aa]) hll (λq hq=>by have:=(uc hfl hm q hq).1;omega) (N+1+1+1+1) (0,w,z) (ak _) ⟨rfl,hw,hz,u_⟩;rcases hb with ⟨⟨m2,w2,z2⟩,M,e1,⟨e2,e3,e4,e5⟩,e6,e7⟩|⟨z,_⟩
    .rw[co (ak _)]at e5;obtain⟨e8,e9⟩:=ahF e5;subst e8;obtain⟨M2,w3,z3,f⟩:=ih s (i+1) M w2 z2 (bK hd) (bK hd2) (λq hq=>hf q (.tail _ hq)) (λq hq=>hl q (.tail _ hq)) e3 e4 hr o_;refine⟨M2,w3,z3,?_⟩;have c0:((0:Nat):Int)=0:=rfl;simp only[hpK,c0]at e7;rw[ah IM,<-f];simp(disch:=omega)[↓ac,↓aa,hg,hgt,LW,rd,e7]
    grind
def aku (gain m:Int)(g:H_)(t:K_)(hgn:0<=gain∧gain<=255)(hl:g.length<=8)(hm:0<=m∧m<=40)(hf:fQ m g)(hf2:∀l∈g,l.length<=1000)(ht:Bq gain g t)(ht2:∀l∈t,l.length<=100000) :
  bq prog Qq [A_ gain,.d (.lst (bO g)),.d (.lst (dj t))]=some (A_ 0):=by
 have h1:=aej gain m g hgn hl hm λl h=>⟨hf l h,hf2 l h⟩
 have hlen:=Kv ht;obtain⟨M,w,z,e⟩:=abe t o_ ht2 g o_ m o_ g t 0 4 gain (-1) rfl rfl hf hf2 o_ o_ ht (ak _);have c0:((0:Nat):Int)=0:=rfl;rw[c0]at e;rw[aG afk afw rfl];simp(disch:=omega)[↓ac,↓aa,h1,e]
abbrev di:=@List.exists_cons_of_ne_nil
def pz (xs:AD_):E_:=xs.map λl=>[.lst (ai l)]
@[simp] def adz {t:AD_}:(pz t).length=t.length:=by simp[pz]
def K4 {g:AD_}{i:Nat}{l:C_}{r:AD_}(h:g.drop i=l::r):(pz g)[i]?=some [.lst (ai l)]:=by
 have:=aP (λl=>l[0]?) h;simp only[ck,ca,ej]at this;rw[pz,b9,this];rfl
def bB {l:C_}:(ai l).length=l.length:=by simp[ai]
def apN (xs:AD_)(hx:xs.length<=1000)(h:am)(N:Nat):∀(r:AD_) (i:Nat) (n:Nat),xs.drop i=r->n+r.flatten.length<=1000000000->
  (Dn prog).code (.loop kG) ⟨[(0,.d (.lst (pz xs))),(3,A_ n),(9,.d (.lst (pz xs))),(10,A_ xs.length),(11,A_ i)],⟨h,N⟩⟩ =
  some (.exit 0,⟨[(0,.d (.lst (pz xs))),(3,A_ (n+r.flatten.length:Nat))],⟨h,N⟩⟩):=by
 intro r
 induction r with
 |nil =>
  intro i n hd hn;have hi:=bv hd;rw[ah wL];simp(maxSteps:=9^6)(disch:=omega)[↓aa]
 |cons l r ih =>
  intro i n hd hn;have hg:=K4 hd;have hlt:=bV hd;simp only[dG,aj]at hn⊢;have h5:=ih (i+1) (n+l.length) (bK hd) o_;have c1:((i+1:Nat):Int)=(i:Int)+1:=rfl;have c2:((n+l.length:Nat):Int)=(n:Int)+l.length:=rfl;rw[c1,c2,dP]at h5;rw[ah wL,<-h5];simp(maxSteps:=9^6)(disch:=omega)[↓ac,↓aa,hg,bB]
def ar1 (xs:AD_)(hx:xs.length<=1000)(h:am)(N:Nat):∀(r:AD_) (i:Nat) (acc:C_),xs.drop i=r->acc.length+r.flatten.length<=1000000000->
  (Dn prog).code (.loop kP) ⟨[(6,.own false 1 (ai acc)),(25,.d (.lst (pz xs))),(26,A_ xs.length),(27,A_ i)],⟨h,N⟩⟩ =
  some (.exit 2,⟨[(6,.own false 1 (ai (acc++r.flatten)))],⟨h,N⟩⟩):=by
 intro r
 induction r with
 |nil =>
  intro i acc hd hn;have hi:=bv hd;rw[ah pe];simp(maxSteps:=9^6)(disch:=omega)[↓aa]
 |cons l r ih =>
  intro i acc hd hn;have hg:=K4 hd;have hlt:=bV hd;simp only[dG,aj]at hn⊢;have h5:=ih (i+1) (acc++l) (bK hd) (by simp only[aj];omega);have c1:((i+1:Nat):Int)=(i:Int)+1:=rfl;rw[c1,ax]at h5;rw[ah pe,<-h5];simp(maxSteps:=9^6)(disch:=omega)[↓ac,↓aa,hg,bB]
def awS (n:Nat)(hn:0<n∧n<=1000000000):(Dn prog).call DL [.nl,A_ n] ⟨[],0⟩=some (.sl 0 0 0,⟨[(0,.arr 1 (List.replicate n [.int .u8 0]))],1⟩):=by
 have e1:eK (A_ n) aY=some n:=by rw[yp o_ (by simp only[aY];omega)];simp
 have e2:HV [.int .u8 0] [] .nl (A_ n)=some (.own true 1 (List.replicate n [.int .u8 0]),[]):=by
  unfold HV;rw[e1];obtain⟨m,rfl⟩:∃m,n=m+1:=⟨n-1,o_⟩
  simp(disch:=omega)[cx,↓ac]
 have e0:eK (A_ 0) n=some 0:=yp o_ o_;have e3:mF [] 1 .nl none (some (.int .i64 0)) none=some .nl:=rfl;have e4:mF [(0,.arr 1 (List.replicate n [D.int .u8 0]))] 1 (.sl 0 0 n) none (some (.int .i64 0)) none=some (.sl 0 0 0):=by
  simp[mF,okSl,vt,lenOf,xb,e0,v7]
 rw[be Q6 Q5 rfl];simp(maxSteps:=9^6)(disch:=omega)[↓ac,↓aa,abQ,e2,e3,e4]
def agu (xs:AD_)(hx:xs.length<=1000)(hn:0<xs.flatten.length∧xs.flatten.length<=1000000000):bq prog Bm [.d (.lst (pz xs))]=some (.own true 1 (ai xs.flatten)):=by
 have h0:=apN xs hx [] 0 xs 0 0 rfl o_;have h2:=awS xs.flatten.length hn;have c0:((0:Nat):Int)=0:=rfl;rw[bn,c0]at h0;have hne:xs≠[]:=by intro h;subst h;simp at hn
 obtain⟨l,r,e⟩:=di hne;have h1:=ar1 xs hx [] 1 r 1 l (by rw[e];rfl) (by rw[e]at hn;simpa using hn.2);have hg:=K4 (g:=xs) (i:=0) (l:=l) (r:=r) (by rw[e];rfl);have hlt:0<xs.length:=bS.2 hne;have e5:l++r.flatten=xs.flatten:=by rw[e];rfl
 rw[e5]at h1;have hll:l.length<=1000000000:=by rw[<-e5,aj]at hn;omega
 clear e5 e;generalize xs.flatten=F at *;have c1:((1:Nat):Int)=1:=rfl;rw[c1]at h1;rw[aG Mw MT rfl];simp(maxSteps:=9^6)(disch:=omega)[↓ac,↓aa,h0,h2];rw[ah pe];simp(maxSteps:=9^6)(disch:=omega)[↓ac,↓aa,hg,bB,h1]
def cU (n:Nat):Nat:=if n=0 then 0 else n.log2+1
def Ig {n:Nat}:n<2 ^ cU n:=by
 unfold cU;by_cases h:n=0
 .subst h;decide
 .rw[aa h];exact(Nat.log2_lt h).1 (Nat.lt_succ_self _)
def vG {n:Nat}(h:n≠0):2 ^ (cU n-1)<=n:=by
 unfold cU;rw[aa h,dx];exact(Nat.le_log2 h).1 (ak _)
def aqL {n k:Nat}(h1:2 ^ k<=n)(h2:n<2 ^ (k+1)):cU n=k+1:=by
 have h0:n≠0:=by have:=bN k;omega
 unfold cU;rw[aa h0];have a:=(Nat.le_log2 h0).2 h1;have b:=(Nat.log2_lt h0).2 h2;omega
def auC {n:Nat}(h:256<=n):cU n=8+cU (n / 256):=by
 have h0:n / 256≠0:=o_;obtain⟨k,hk⟩:∃k,cU (n / 256)=k+1:=⟨cU (n / 256)-1,by unfold cU;rw[aa h0];omega⟩
 have a:=Ig (n:=n / 256);have b:=vG h0;rw[hk]at a b⊢;rw[dx]at b;rw[aqL (k:=k+8)]
 .omega
 .rw[Nat.pow_add];omega
 .rw[show k+8+1=k+1+8 by omega,Nat.pow_add];omega
def abE:BC_:=[0,1,2,2,3,3,3,3,4,4,4,4,4,4,4,4,5,5,5,5,5,5,5,5,5,5,5,5,5,5,5,5,6,6,6,6,6,6,6,6,6,6,6,6,6,6,6,6,6,6,6,6,6,6,6,6,6,6,6,6,6,6,6,6,7,7,7,7,7,7,7,7,7,7,7,7,7,7,7,7,7,7,7,7,7,7,7,7,7,7,7,7,7,7,7,7,7,7,7,7,7,7,7,7,7,7,7,7,7,7,7,7,7,7,7,7,7,7,7,7,7,7,7,7,7,7,7,7,8,8,8,8,8,8,8,8,8,8,8,8,8,8,8,8,8,8,8,8,8,8,8,8,8,8,8,8,8,8,8,8,8,8,8,8,8,8,8,8,8,8,8,8,8,8,8,8,8,8,8,8,8,8,8,8,8,8,8,8,8,8,8,8,8,8,8,8,8,8,8,8,8,8,8,8,8,8,8,8,8,8,8,8,8,8,8,8,8,8,8,8,8,8,8,8,8,8,8,8,8,8,8,8,8,8,8,8,8,8,8,8,8,8,8,8,8,8,8,8,8,8,8,8,8,8,8,8]
def au3:∀n,n<256->(abE[n]?).map UInt8.toNat=some (cU n):=e_
def al1 {n:Nat}(h:n<256):apr (.d (.str abE)) (.d (.int .u8 n))=some (.int .u8 (cU n)):=by
 have:=au3 n h;show(match abE[n]? with|some b=>some (D.int .u8 (.ofNat b.toNat))|none=>none)=_
 cases hx:abE[n]? with
 |none=>rw[hx]at this;exact absurd this (by simp)
 |some b =>
  rw[hx]at this;injection this with this
  show some (D.int .u8 ((b.toNat:Nat):Int))=_;rw[this]
def aGi {n:Nat}:fe .shr (.d (.int .u64 (n:Int))) (.d (.int .u64 8))=some (.int .u64 ((n / 256:Nat):Int)):=by
 rw[jH o_];have:min ((8:Int)).toNat IntKind.u64.bits=8:=rfl;rw[this,dK _ (jK _),<-Int.natCast_ediv]
def ai8 (n:Nat)(hn:n<65536):bq prog KJ [.d (.int .u64 n)]=some (A_ (cU n)):=by
 have h64:bq prog HN [.d (.int .u64 n)]=some (A_ (cU n)):=by
  rw[aG U6 U4 rfl];by_cases h:256<=n
  .have h2:=al1 (n:=n / 256) o_;have h3:=auC h;have h4:cU (n / 256)<=8:=by
    have a:=vG (n:=n / 256) o_;rcases bD 8 (cU (n / 256)) with h|h
    .have:2 ^ 8<=2 ^ (cU (n / 256)-1):=aw o_ o_;omega
    .exact h
   have c1:((n / 256:Nat):Int)=(n:Int) / 256:=o_;rw[abE,c1]at h2;rw[h3];simp(maxSteps:=9^6)(disch:=omega)[↓ac,↓aa,-jH,aGi,h2]
  .have h2:=al1 (n:=n) o_;have h4:cU n<=8:=by
    by_cases h0:n=0
    .subst h0;decide
    .have a:=vG (n:=n) h0;rcases bD 8 (cU n) with h|h
     .have:2 ^ 8<=2 ^ (cU n-1):=aw o_ o_;omega
     .exact h
   rw[abE]at h2;simp(maxSteps:=9^6)(disch:=omega)[↓ac,↓aa,-jH,h2]
 rw[aG aae Zh rfl];simp(maxSteps:=9^6)(disch:=omega)[↓ac,↓aa,h64,aoa]
abbrev vV:=@Int.natCast_mul
abbrev nN:=@Nat.and_two_pow_sub_one_eq_mod
def lS (low:Int)(w:Nat):G_->Nat->Nat
 |[],n=>n
 |v::r,n=>lS low w r (n*w+(v-low).toNat)
abbrev Sw (id:Nat)(vs:G_):Prop:=vs.length=eW id∧∀v∈vs,dy id<=v∧v<dy id+cL id
def H9 {low:Int}{w:Nat}:∀{r:G_}{n j:Nat},(∀v∈r,low<=v∧v<low+w)->n<w ^ j->lS low w r n<w ^ (j+r.length)
 |[],n,j,_,h=>h
 |v::r,n,j,hr,h=>by
  have h1:=hr v (.head _);have h2:n*w+(v-low).toNat<w ^ (j+1):=by
   rw[da];have:(n+1)*w<=w ^ j*w:=cq _ h;rw[dh]at this;omega
  have:=H9 (r:=r) (λq hq=>hr q (.tail _ hq)) h2;rw[lS,aq,show j+(r.length+1)=j+1+r.length by omega];exact this
def afm (id:Nat)(hid:jY id)(vs:G_)(hl:vs.length=eW id)(N:Nat):∀(r:G_) (i n:Nat),vs.drop i=r->(∀v∈r,dy id<=v∧v<dy id+cL id)->n<cL id ^ i->
  (Dn prog).code (.loop wc) ⟨[(6,.ptr 0 0),(8,A_ n),(26,.d (.lst (aI vs))),(27,A_ vs.length),(28,A_ i)],⟨[(0,.cells [A_ (eW id),A_ (dy id),A_ (dy id+cL id-1),A_ (bR id)])],N⟩⟩ =
  some (.exit 1,⟨[(8,A_ (lS (dy id) (cL id) r n))],⟨[],N⟩⟩):=by
 obtain⟨k1,k2,k3,k4,k5,k6,k7⟩:=mw id (gy hid);have hmany:br id=cL id ^ eW id:=rfl;intro r
 induction r with
 |nil =>
  intro i n hd hr hn;have hi:=bv hd;rw[ah La,lS];simp(maxSteps:=9^6)(disch:=omega)[↓aa]
 |cons v r ih =>
  intro i n hd hr hn;have hv:=hr v (.head _);have hg:=BA hd;have hlt:=bV hd;have hw:=adF (eW id) (dy id) (bR id) (cL id) o_ o_;have h2:n*cL id+(v-dy id).toNat<cL id ^ (i+1):=by
   rw[da];have:(n+1)*cL id<=cL id ^ i*cL id:=cq _ hn;rw[dh]at this;omega
  have h3:cL id ^ (i+1)<=cL id ^ eW id:=aw o_ o_;have h5:=ih (i+1) (n*cL id+(v-dy id).toNat) (bK hd) (λq hq=>hr q (.tail _ hq)) h2;have c1:((i+1:Nat):Int)=(i:Int)+1:=rfl;have h4:n*cL id<=300:=o_;have c2:((n*cL id+(v-dy id).toNat:Nat):Int)=(n:Int)*cL id+v-dy id:=by
   have:(((v-dy id).toNat:Nat):Int)=v-dy id:=o_;rw[Int.natCast_add,vV,this];omega
  have h6:0<=(n:Int)*cL id∧(n:Int)*cL id<=300:=by
   have:(n:Int)*cL id=((n*cL id:Nat):Int):=by rw[vV]
   omega
  rw[c1,c2]at h5;rw[ah La,lS,<-h5];simp(maxSteps:=9^6)(disch:=omega)[↓ac,↓aa,hg,hw]
def ZV (id:Nat)(hid:jY id)(vs:G_)(hv:Sw id vs):bq prog Sr [A_ id,.d (.lst (aI vs))]=some (.tup [A_ (lS (dy id) (cL id) vs 0),A_ 0]):=by
 have ho:=Pd id (gy hid);have h:=afm id hid vs hv.1 1 vs 0 0 rfl hv.2 (by rw[Nat.pow_zero];omega);have c0:((0:Nat):Int)=0:=rfl;have hl:=hv.1;obtain⟨k1,k2,k3,k4,k5,k6,k7⟩:=mw id (gy hid);simp only[Wu]at ho;rw[c0]at h;rw[aG ai9 ajH rfl];simp(maxSteps:=9^6)(disch:=omega)[↓ac,↓aa,ho,h]
def PM:∀id∈ids,(dT id).all (λe=>decide (e<br id))=true∧(dT id).length=br id∧bR id<=2:=e_
def abo {id e:Nat}(h:jY id)(he:e<br id):nth (dT id) e<br id:=by
 obtain⟨h1,h2,_⟩:=PM id (gy h);have:=bJ.1 h1 _ (jE (l:=dT id) (i:=e) o_);simpa using this
def kt (id e:Nat):C_:=au (nth (dT id) e / 2 ^ bR id+1) (2*cU (nth (dT id) e / 2 ^ bR id+1)-1)++au (nth (dT id) e % 2 ^ bR id) (bR id)
def aAR {n k P:Nat}(hP:2 ^ k=P)(hk:k<=62)(h:n<9223372036854775808):fe .and (A_ (n:Int)) (A_ ((P:Int)-1))=some (.int .i64 ((n % P:Nat):Int)):=by
 have h1:2 ^ k<=2 ^ 62:=aw o_ hk;have h2:=bN k;have:=agr (k:=.i64) (a:=n) (b:=2 ^ k-1) (by simpa [jM,IntKind.signed] using h) (by simp[jM,IntKind.signed];omega);rw[nN]at this;subst hP;have c:((2 ^ k-1:Nat):Int)=((2 ^ k:Nat):Int)-1:=o_;rw[c]at this;exact this
def adX (id e:Nat)(hid:jY id)(he:e<br id):bq prog U9 [oA id,A_ e]=some (.tup [.own true 1 (ai (kt id e)),A_ 0]):=by
 have hr:=YS id hid;obtain⟨h1,h2,h3⟩:=PM id (gy hid);have hm:br id<=300:=by have:=mw id (gy hid);omega
 have hrk:=abo hid he;have hg:(cY (dT id))[e]?=some [.int .i64 (nth (dT id) e:Nat)]:=DT o_;unfold kt;simp only[oA]at hr⊢;generalize nth (dT id) e=r at *;have q1:=aoW (n:=r) (k:=bR id) o_;have q2:=UD (m:=bR id) o_;have hP:1<=2 ^ bR id∧2 ^ bR id<=2 ^ 2:=⟨bN _,aw o_ h3⟩
 have hmod:r % 2 ^ bR id<2 ^ bR id:=dl _ hP.1;have q3:=aAR (n:=r) (k:=bR id) rfl o_ o_;have hdv:r / 2 ^ bR id<=r:=fV _ _;have hr3:r<300:=o_;generalize hPP:2 ^ bR id=PP at *;generalize r / PP=RQ at *;generalize r % PP=RM at *;have q4:=ai8 (RQ+1) o_;have hL1:=Ig (n:=RQ+1);have hL2:=vG (n:=RQ+1) o_;have hL9:cU (RQ+1)<=9:=by
  rcases bD 9 (cU (RQ+1)) with h|h
  .have:2 ^ 9<=2 ^ (cU (RQ+1)-1):=aw o_ o_;omega
  .exact h
 have hL0:1<=cU (RQ+1):=by unfold cU;rw[aa o_];omega
 have hpw:2 ^ cU (RQ+1)<=2 ^ (2*cU (RQ+1)-1):=aw o_ o_;have p1:=lW [] ((RQ+1:Nat):Int) ((2*cU (RQ+1)-1:Nat):Int) s_ o_ .nl (.inr ⟨rfl,rfl⟩);have ho1:om ((RQ+1:Nat):Int) ((2*cU (RQ+1)-1:Nat):Int):=by
  simp only[om,ar];generalize 2 ^ (2*cU (RQ+1)-1)=Z at *;omega
 rw[ac ho1]at p1;have p2:=λb (hb:b.length<=900000000)=>lW b (RM:Int) ((bR id:Nat):Int) hb o_ _ (.inl rfl)
 have ho2:om (RM:Int) ((bR id:Nat):Int):=by simp only[om,ar,hPP];omega
 simp only[ac ho2]at p2;simp only[ar,aK]at p1 p2;have p3:=p2 (au (RQ+1) (2*cU (RQ+1)-1)) g_;have c1:((2*cU (RQ+1)-1:Nat):Int)=2*(cU (RQ+1):Int)-1:=o_;have c2:((RQ+1:Nat):Int)=(RQ:Int)+1:=rfl;rw[c1,c2]at p1;rw[c2]at q4;clear p2 hL1 hL2 hpw ho1 ho2;generalize au (RQ+1) (2*cU (RQ+1)-1)++au RM (bR id)=RES at *;generalize au (RQ+1) (2*cU (RQ+1)-1)=RE1 at *;generalize cU (RQ+1)=LN at *;generalize bR id=pl at *;generalize cB id=es at *;rw[aG ak7 ak0 rfl];simp(maxSteps:=9^6)(disch:=omega)[↓ac,↓aa,hr,hg,-jH,-sY,q1,q2,q3,q4,p1,p3]
abbrev uL:=@List.flatten_nil
abbrev fD:=@List.any_cons
abbrev nT:=@Bool.false_or
def ad4 {a b:C_}:[[D.lst (ai a)],[D.lst (ai b)]]=pz [a,b]:=rfl
def anW {a b c d:C_}:[[D.lst (ai a)],[D.lst (ai b)],[D.lst (ai c)],[D.lst (ai d)]]=pz [a,b,c,d]:=rfl
def Ba {id e:Nat}(hid:jY id)(he:e<br id):1<=(kt id e).length∧(kt id e).length<=20:=by
 obtain⟨h1,h2,h3⟩:=PM id (gy hid);have hm:br id<=300:=by have:=mw id (gy hid);omega
 have hrk:=abo hid he;have hdv:nth (dT id) e / 2 ^ bR id<=nth (dT id) e:=fV _ _;unfold kt;rw[aj,cM,cM];generalize nth (dT id) e / 2 ^ bR id=RQ at *;have hL2:=vG (n:=RQ+1) o_;have hL9:cU (RQ+1)<=9:=by
  rcases bD 9 (cU (RQ+1)) with h|h
  .have:2 ^ 9<=2 ^ (cU (RQ+1)-1):=aw o_ o_;omega
  .exact h
 have hL0:1<=cU (RQ+1):=by unfold cU;rw[aa o_];omega
 omega
def adN (b:C_)(hb:b.length<=900000000)(x:AV)(hx:x=.d (.lst (ai b))∨x=.nl∧b=[])(d:Int)(hd:-60<=d∧d<=60):bq prog Fy [x,A_ d]=some (.tup [.own true 1 (ai (b++kt 12 (d+60).toNat)),A_ 0]):=by
 obtain⟨E,rfl⟩:∃E:Nat,d=(E:Int)-60:=⟨(d+60).toNat,o_⟩
 have hok:jY 12:=o_;have he:((E:Int)-60+60).toNat<br 12:=by show _<121;omega
 have hE:=ZV 12 hok [(E:Int)-60] ⟨rfl,λv hv=>by
  rw[List.mem_singleton]at hv;show -60<=v∧v < -60+((121:Nat):Int);omega⟩
 have e1:lS (dy 12) (cL 12) [(E:Int)-60] 0=((E:Int)-60+60).toNat:=by
  show 0*121+((E:Int)-60-(-60)).toNat=_;omega
 have e2:((E:Int)-60+60).toNat=E:=o_;rw[e2]at e1 he⊢;rw[e1]at hE;have hG:=WS 12 hok;have hC:=adX 12 E hok he;have hcl:=Ba hok he;have hcat:=agu [b,kt 12 E] s_ g_;have c12:((12:Nat):Int)=12:=rfl;have i1:aI [(E:Int)-60]=[[.int .i64 ((E:Int)-60)]]:=rfl;simp only[YY,oA,c12,i1,dG,uL,bh]at hE hG hC hcat;rw[<-ad4]at hcat;generalize kt 12 E=CB at *;generalize cB 12=es at *;generalize dT 12=rs at *;generalize bR 12=pl at *;rw[aG ak1 ajV rfl];rcases hx with rfl|⟨rfl,rfl⟩
 .simp(maxSteps:=9^6)(disch:=omega)[↓ac,↓aa,hE,hG,hC,hcat]
 .have n0:ai []=[]:=rfl;rw[n0]at hcat;simp(maxSteps:=9^6)(disch:=omega)[↓ac,↓aa,hE,hG,hC,hcat]
def Xp (F:AV)(P:Int->Bool)(l:G_)(hl:l.length<=1000000000)(h:am)(N:Nat)(hF:firm (share F)=F)(hc:∀v∈l,cA (Dn prog) F [A_ v] ⟨h,N⟩=some (B_ (P v),⟨h,N⟩)):∀(r:G_) (i:Nat),l.drop i=r->
  (r.any P=true∧∃k:Nat,(Dn prog).code (.loop gQ) ⟨[(0,.d (.lst (aI l))),(1,F),(7,A_ l.length),(8,A_ i)],⟨h,N⟩⟩=some (.ret,⟨[(4,A_ k)],⟨h,N⟩⟩))∨
  (r.any P=false∧(Dn prog).code (.loop gQ) ⟨[(0,.d (.lst (aI l))),(1,F),(7,A_ l.length),(8,A_ i)],⟨h,N⟩⟩=some (.exit 0,⟨[],⟨h,N⟩⟩)):=by
 intro r
 induction r with
 |nil =>
  intro i hd;have hi:=bv hd;refine .inr ⟨rfl,?_⟩;rw[ah jT];simp(maxSteps:=9^6)(disch:=omega)[↓aa]
 |cons v r ih =>
  intro i hd;have hg:=BA hd;have hlt:=bV hd;have hv:=hc v (by rw[<-aX i l,hd];simp);have h5:=ih (i+1) (bK hd);have c1:((i+1:Nat):Int)=(i:Int)+1:=rfl;rw[c1]at h5
  cases hp:P v with
  |true =>
   rw[hp]at hv;refine .inl ⟨by rw[fD,hp];rfl,i,?_⟩;rw[ah jT];simp(maxSteps:=9^6)(disch:=omega)[↓ac,↓aa,hg,hF,hv]
  |false =>
   rw[hp]at hv;rw[fD,hp,nT];rcases h5 with ⟨e1,k,e2⟩|⟨e1,e2⟩
   .refine .inl ⟨e1,k,?_⟩;rw[ah jT,<-e2];simp(maxSteps:=9^6)(disch:=omega)[↓ac,↓aa,hg,hF,hv]
   .refine .inr ⟨e1,?_⟩;rw[ah jT,<-e2];simp(maxSteps:=9^6)(disch:=omega)[↓ac,↓aa,hg,hF,hv]
def AC (F:AV)(P:Int->Bool)(l:G_)(hl:l.length<=1000000000)(h:am)(N:Nat)(hF:firm (share F)=F)(hF2:firm F=F)(hc:∀v∈l,cA (Dn prog) F [A_ v] ⟨h,N⟩=some (B_ (P v),⟨h,N⟩)) :
  (Dn prog).call nE [.d (.lst (aI l)),F] ⟨h,N⟩=some (B_ (l.any P),⟨h,N⟩):=by
 have h1:=Xp F P l hl h N hF hc l 0 rfl;have c0:((0:Nat):Int)=0:=rfl;rw[c0]at h1;have h2:∃k:Int,(0<=k↔l.any P=true)∧(Dn prog).call yJ [.d (.lst (aI l)),F] ⟨h,N⟩=some (A_ k,⟨h,N⟩):=by
  rcases h1 with ⟨e1,k,e2⟩|⟨e1,e2⟩
  .refine⟨k,⟨λ_=>e1,λ_=>by omega⟩,?_⟩;rw[be yQ yL rfl];simp(maxSteps:=9^6)(disch:=omega)[e2]
  .refine⟨-1,⟨λh=>by omega,λh=>by rw[e1]at h;exact absurd h s_⟩,?_⟩;rw[be yQ yL rfl];simp(maxSteps:=9^6)(disch:=omega)[e2]
 obtain⟨k,e1,e2⟩:=h2;rw[be Hf GF rfl]
 cases hp:l.any P with
 |true =>
  have:=e1.2 hp;simp(maxSteps:=9^6)(disch:=omega)[↓ac,hF2,e2]
 |false =>
  have:¬0<=k:=λh=>by rw[e1.1 h]at hp;exact absurd hp (by simp)
  simp(maxSteps:=9^6)(disch:=omega)[↓aa,hF2,e2]
def jd (id:Nat):Nat:=[0,1,1,2,2,4,4,7,7,12,12,8191,0].getD id 0
abbrev avK:D_:=[A_ 0,A_ 1,A_ 1,A_ 2,A_ 2,A_ 4,A_ 4,A_ 7,A_ 7,A_ 12,A_ 12,A_ 8191,A_ 0]
def aeB:bq prog Zn []=some (.agg avK):=BP 100 (by kernel_rfl)
def axb {id:Nat}(h:id<=12):ixV 13 1 false (.agg avK) (A_ id)=some (A_ (jd id)):=by
 obtain rfl|rfl|rfl|rfl|rfl|rfl|rfl|rfl|rfl|rfl|rfl|rfl|rfl:id=0∨id=1∨id=2∨id=3∨id=4∨id=5∨id=6∨id=7∨id=8∨id=9∨id=10∨id=11∨id=12:=o_
 all_goals rfl
def bI (id:Nat):Nat:=if id<5 then 4 else 2
def at4 (id:Nat):bq prog YO [A_ id]=some (A_ (bI id)):=by
 rw[aG anQ an3 rfl];unfold bI;by_cases h:id<5
 .simp(disch:=omega)[↓ac]
 .simp(disch:=omega)[↓aa]
def LT (m:Nat)(v:Int):Bool:=decide ((m:Int)<v∨v < -(m:Int))
def azq (m:Nat)(hm:m<=100000)(v:Int)(N:Nat):(Dn prog).call Hq [A_ v,.ptr 0 0] ⟨[(0,.cells [A_ m])],N⟩=some (B_ (LT m v),⟨[(0,.cells [A_ m])],N⟩):=by
 rw[be afB ae8 rfl];unfold LT;by_cases h1:(m:Int)<v
 .simp(maxSteps:=9^6)(disch:=omega)[↓ac,h1]
 .by_cases h2:v < -(m:Int)
  .simp(maxSteps:=9^6)(disch:=omega)[↓ac,↓aa,h1,h2]
  .simp(maxSteps:=9^6)(disch:=omega)[↓ac,↓aa,h1,h2]
def SC (id:Nat)(hid:1<=id∧id<=11)(vs:G_)(hv:vs.length=bI id):bq prog Ww [A_ id,.d (.lst (aI vs))]=some (.tup [B_ ((!(vs.any (LT (jd id))))),A_ 0]):=by
 have hm:jd id<=100000:=by
  obtain rfl|rfl|rfl|rfl|rfl|rfl|rfl|rfl|rfl|rfl|rfl:id=1∨id=2∨id=3∨id=4∨id=5∨id=6∨id=7∨id=8∨id=9∨id=10∨id=11:=o_
  all_goals decide
 have hd4:bI id<=4:=by unfold bI;split<;>omega
 have h1:=AC (.fn Hq [] [.ptr 0 0]) (LT (jd id)) vs o_ [(0,.cells [A_ (jd id)])] 1 rfl rfl λv _=>by
  simp(maxSteps:=9^6)(disch:=omega)[azq (jd id) hm v 1]
 have h2:=axb (id:=id) o_;have h3:=at4 id;rw[aG alx akN rfl];simp(maxSteps:=9^6)(disch:=omega)[↓ac,↓aa,h3,aeB,h2,h1]
def kZ (id:Nat)(v:Int):Int:=if id=11∧16<=v.natAbs then 16 else v.natAbs
def qD (v:Int):C_:=if v=0 then [] else if v<0 then [1] else [0]
def xn (id:Nat)(v:Int):C_:=if id=11∧16<=v.natAbs then List.replicate (cU v.natAbs-5) 1++(0::au (v.natAbs % 2 ^ (cU v.natAbs-1)) (cU v.natAbs-1)) else []
def zW (id:Nat)(vs:G_):C_:=if lc id then kt id (lS (dy id) (cL id) vs 0)
 else kt id (lS (dy id) (cL id) (vs.map (kZ id)) 0)++(vs.flatMap qD++vs.flatMap (xn id))
def arQ (v:Int)(h:-100000<=v∧v<=100000):bq prog V4 [A_ v]=some (A_ v.natAbs):=by
 rw[aG ajL ak3 rfl];by_cases h0:v<0
 .have:((v.natAbs:Nat):Int)=-v:=o_;rw[this];simp(disch:=omega)[↓ac]
 .have:((v.natAbs:Nat):Int)=v:=o_;rw[this];simp(disch:=omega)[↓aa]
def atl:∀m∈List.range 9,bq prog Nq [.d (.lst [[.int .u8 1]]),A_ m]=some (.own true 1 (ai (List.replicate m 1))):=JF 100 (List.range 9) (by kernel_rfl)
def aqC {m:Nat}{h:am}{xs ys:E_}(hl:xs.length+ys.length<=1000000000):∃v,eM m h (aE m xs) ys=some (v,h)∧firm v=aE m (xs++ys):=by
 cases xs with
 |nil =>
  cases ys with
  |nil=>exact⟨.nl,rfl,rfl⟩
  |cons y r =>
   simp only[aq,bt]at hl;exact⟨.own true m (y::r),by simp(disch:=omega)[aE,↓ac],rfl⟩
 |cons x r =>
  exact⟨.own false m (x::r++ys),by
   grind [aef,T8,ab5,amo,amn,aY],rfl⟩
def awL {v:Int}(h:-100000<=v∧v<0):wr .u64 v=v+18446744073709551616:=by
 grind [wr,oW,IntKind.wrap,IntKind.bits,IntKind.signed]
def alb (id:Nat)(hid:1<=id∧id<=11)(pl ents ranks:D)(x0:AV)(vs:G_)(hl:vs.length<=4)(N:Nat):∀(r:G_) (i:Nat) (sz:G_) (sg es:C_),vs.drop i=r->(∀v∈r,v.natAbs<=8191)->sz.length<=100+i->sg.length<=100+i->es.length<=100+100*i->
  (Dn prog).code (.loop Al) ⟨[(0,x0),(4,.ptr 0 0),(15,aE 1 (aI sz)),(16,aE 1 (ai sg)),(17,aE 1 (ai es)),(69,.d (.lst (aI vs))),(70,A_ vs.length),(71,A_ i)],⟨[(0,.cells [A_ id,.d pl,.d ents,.d ranks])],N⟩⟩ =
  some (.exit 0,⟨[(0,x0),(4,.ptr 0 0),(15,aE 1 (aI (sz++r.map (kZ id)))),(16,aE 1 (ai (sg++r.flatMap qD))),(17,aE 1 (ai (es++r.flatMap (xn id))))],⟨[(0,.cells [A_ id,.d pl,.d ents,.d ranks])],N⟩⟩):=by
 intro r
 induction r with
 |nil =>
  intro i sz sg es hd hr h1 h2 h3;have hi:=bv hd;rw[ah GZ];simp(disch:=omega)[↓aa]
 |cons v r ih =>
  intro i sz sg es hd hr h1 h2 h3;have hg:=BA hd;have hlt:=bV hd;have hv:=hr v (.head _);have hs:=arQ v o_;have c1:((i+1:Nat):Int)=(i:Int)+1:=rfl;have hlg:=bB (l:=sg);have hle:=bB (l:=es);have hsz:=iR (l:=sz);obtain⟨n,hn⟩:∃n,n=v.natAbs:=⟨_,rfl⟩
  rw[<-hn]at hs hv;have hvs:Yh .u64 (A_ v)=some (.int .u64 (wr .u64 v)):=rfl;have hpos:0<v->fe .shr (.d (.int .u64 v)) (.d (.int .u64 63))=some (.int .u64 0):=λh=>by
   rw[jH o_];have:min ((63:Int)).toNat IntKind.u64.bits=63:=rfl
   grind
  have hneg:v<0->fe .shr (.d (.int .u64 (wr .u64 v))) (.d (.int .u64 63))=some (.int .u64 1):=λh=>by
   rw[awL o_,jH o_];have:min ((63:Int)).toNat IntKind.u64.bits=63:=rfl
   grind
  have hb1:ai sg++[[D.int .u8 1]]=ai (sg++[1]):=by simp[ai]
  have hb0:ai sg++[[D.int .u8 0]]=ai (sg++[0]):=by simp[ai]
  by_cases he:id=11∧16<=v.natAbs
  .obtain⟨h11,h16⟩:=he;rw[<-hn]at h16;have hL1:=Ig (n:=n);have hL2:=vG (n:=n) o_;have hL13:cU n<=13:=by
    rcases bD 13 (cU n) with h|h
    .have:2 ^ 13<=2 ^ (cU n-1):=aw o_ o_;omega
    .exact h
   have hL5:5<=cU n:=by
    rcases bD (cU n) 5 with h|h
    .have:2 ^ cU n<=2 ^ 4:=aw o_ o_;omega
    .exact h
   obtain⟨m,hm⟩:∃m,cU n=m+5:=⟨cU n-5,o_⟩
   have e1:kZ id v=16:=by grind [kZ]
   have e2:xn id v=List.replicate m 1++(0::au (n % 2 ^ (m+4)) (m+4)):=by
    grind [xn]
   have hl2:=ai8 n o_;have hrp:=atl m (et.2 o_);have hlr:(ai (List.replicate m 1)).length=m:=u_;obtain⟨w,hw1,hw2⟩:=aqC (m:=1) (h:=[(0,.cells [A_ id,.d pl,.d ents,.d ranks])]) (xs:=ai es) (ys:=ai (List.replicate m 1)) o_;have hbe:ai es++ai (List.replicate m 1)=ai (es++List.replicate m 1):=ahh;rw[hbe]at hw2;have hlw:(ai (es++List.replicate m 1)).length=es.length+m:=u_;have hbw:ai (es++List.replicate m 1)++[[D.int .u8 0]]=ai (es++List.replicate m 1++[0]):=by simp[ai]
   have hp4:2 ^ (m+4)<=2 ^ 12:=aw o_ o_;have hmod:n % 2 ^ (m+4)<2 ^ (m+4):=dl _ (bN _);have q2:=UD (m:=m+4) o_;have q3:=aAR (n:=n) (k:=m+4) rfl o_ o_;have p1:=lW (es++List.replicate m 1++[0]) ((n % 2 ^ (m+4):Nat):Int) ((m+4:Nat):Int) d_ o_ _ (.inl rfl);rw[ac d_]at p1;simp only[ar]at p1;have c4:((m+4:Nat):Int)=(m:Int)+4:=rfl;have c5:((m+5:Nat):Int)=(m:Int)+5:=rfl;rw[hm,c5]at hl2;rw[c4]at p1 q2;have h5:=λs2 (h:s2.length<=101+i)=>ih (i+1) (sz++[16]) s2 (es++List.replicate m 1++[0]++au (n % 2 ^ (m+4)) (m+4)) (bK hd) (λq hq=>hr q (.tail _ hq)) d_ o_ (by simp;omega)
   generalize n % 2 ^ (m+4)=RM at *;generalize 2 ^ (m+4)=PP at *;have eo:aE 1 (aI (sz++[16]))=.own false 1 (aI (sz++[16])):=mi (by simp[aI]);have eo3:aE 1 (ai (es++List.replicate m 1++[0]++au RM (m+4)))=.own false 1 (ai (es++List.replicate m 1++[0]++au RM (m+4))):=mi (by simp[ai]);have eL:es++List.replicate m 1++[0]++au RM (m+4)++r.flatMap (xn id)=es++(List.replicate m 1++(0::au RM (m+4))++r.flatMap (xn id)):=s_;simp only[eo3,eL]at h5;generalize es++List.replicate m 1++[0]++au RM (m+4)=ES at *;generalize es++List.replicate m 1++[0]=E0 at *;generalize es++List.replicate m 1=EM at *;simp only[c1,eo,ax,cw]at h5;rw[ah GZ,bL,aC,aC,e1,e2];have v0:v≠0:=o_;by_cases hvn:v<0
   .have e3:qD v=[1]:=by grind [qD]
    have eo2:aE 1 (ai (sg++[1]))=.own false 1 (ai (sg++[1])):=mi (by simp[ai]);have h6:=h5 (sg++[1]) d_;simp only[eo2,ax,cw]at h6;rw[e3,cw];simp only[ax,aS]at h6⊢;rw[<-h6];simp(disch:=omega)[↓ac,↓aa,hg,hs,-jH,-sY,hneg hvn,hb1,hl2,hrp,hw1,hw2,hbw,q2,q3,p1]
   .have hvp:0<v:=o_;have e3:qD v=[0]:=by grind [qD]
    have eo2:aE 1 (ai (sg++[0]))=.own false 1 (ai (sg++[0])):=mi (by simp[ai]);have h6:=h5 (sg++[0]) d_;simp only[eo2,ax,cw]at h6;rw[e3,cw];simp only[ax,aS]at h6⊢;rw[<-h6];simp(disch:=omega)[↓ac,↓aa,hg,hs,-jH,-sY,hpos hvp,hb0,hl2,hrp,hw1,hw2,hbw,q2,q3,p1]
  .have e1:kZ id v=n:=by grind [kZ]
   have e2:xn id v=[]:=by grind [xn]
   have h5:=λs2 (h:s2.length<=101+i)=>ih (i+1) (sz++[(n:Int)]) s2 es (bK hd) (λq hq=>hr q (.tail _ hq)) d_ o_ (by omega)
   have eo:aE 1 (aI (sz++[(n:Int)]))=.own false 1 (aI (sz++[(n:Int)])):=mi (by simp[aI]);simp only[c1,eo,ax,cw]at h5;rw[ah GZ,bL,aC,aC,e1,e2,aK];have hen:¬(id=11∧16<=n):=o_;by_cases v0:v=0
   .have e3:qD v=[]:=by grind [qD]
    rw[e3,aK,<-h5 sg o_];by_cases h11:id=11
    .simp(disch:=omega)[↓ac,↓aa,hg,hs]
    .simp(disch:=omega)[↓ac,↓aa,hg,hs]
   .by_cases hvn:v<0
    .have e3:qD v=[1]:=by grind [qD]
     have eo2:aE 1 (ai (sg++[1]))=.own false 1 (ai (sg++[1])):=mi (by simp[ai]);have h6:=h5 (sg++[1]) d_;simp only[eo2,ax,cw]at h6;rw[e3,cw,<-h6];by_cases h11:id=11
     .simp(disch:=omega)[↓ac,↓aa,hg,hs,-jH,hneg hvn,hb1]
     .simp(disch:=omega)[↓ac,↓aa,hg,hs,-jH,hneg hvn,hb1]
    .have hvp:0<v:=o_;have e3:qD v=[0]:=by grind [qD]
     have eo2:aE 1 (ai (sg++[0]))=.own false 1 (ai (sg++[0])):=mi (by simp[ai]);have h6:=h5 (sg++[0]) d_;simp only[eo2,ax,cw]at h6;rw[e3,cw,<-h6];by_cases h11:id=11
     .simp(disch:=omega)[↓ac,↓aa,hg,hs,-jH,hpos hvp,hb0]
     .simp(disch:=omega)[↓ac,↓aa,hg,hs,-jH,hpos hvp,hb0]
theorem C0:∀id∈ids.take 11,(lc id=true->dy id=-(jd id:Int)∧cL id=2*jd id+1)∧(lc id=false->dy id=0∧(id≠11->cL id=jd id+1)∧(id=11->cL id=17))∧eW id=bI id∧jd id<=8191:=e_
theorem Ub {id:Nat}(h:1<=id∧id<=11):id∈ids.take 11:=by
 show id∈[1,2,3,4,5,6,7,8,9,10,11];simp only[ay,b8,eg];omega
abbrev OW (id:Nat)(vs:G_):Prop:=vs.length=bI id∧∀v∈vs,v.natAbs<=jd id
def ayj {id:Nat}{vs:G_}(h:∀v∈vs,v.natAbs<=jd id):vs.any (LT (jd id))=false:=by
 grind [LT]
def OM {id:Nat}(hid:1<=id∧id<=11){vs:G_}(h:OW id vs):(lc id=true->Sw id vs)∧(lc id=false->Sw id (vs.map (kZ id))):=by
 grind [C0,Ub,kZ]
def agF {vs:G_}:(vs.flatMap qD).length<=vs.length:=by
 induction vs<;>grind [qD]
def awA {id:Nat}{v:Int}(h:v.natAbs<=8191):(xn id v).length<=30:=by
 unfold xn;split
 .have hL2:v.natAbs≠0->2 ^ (cU v.natAbs-1)<=v.natAbs:=vG;have hL13:cU v.natAbs<=13:=by
   rcases bD 13 (cU v.natAbs) with h|h
   .have:2 ^ 13<=2 ^ (cU v.natAbs-1):=aw o_ o_;omega
   .exact h
  grind [cM]
 .simp
def WF {id:Nat}:∀{vs:G_},(∀v∈vs,v.natAbs<=8191)->(vs.flatMap (xn id)).length<=30*vs.length
 |[],_=>by simp
 |v::r,h=>by
  have h1:=awA (id:=id) (h v (.head _));have h2:=WF (id:=id) (vs:=r) λq hq=>h q (.tail _ hq)
  grind
def auD (b:C_)(hb:b.length<=900000000)(x:AV)(hx:x=.d (.lst (ai b))∨x=.nl∧b=[])(id:Nat)(hid:1<=id∧id<=11)(vs:G_)(hv:OW id vs):bq prog H1 [x,oA id,.d (.lst (aI vs))]=some (.tup [.own true 1 (ai (b++zW id vs)),A_ 0]):=by
 have hok:jY id:=o_;have hF:=SC id hid vs hv.1;rw[ayj hv.2]at hF;have hS:=Sd id (Ub hid);obtain⟨m1,m2,m3,m4⟩:=C0 id (Ub hid);obtain⟨f1,f2⟩:=OM hid hv;have hE:=ZV id hok;have hC:=λe he=>adX id e hok he
 have hd4:bI id<=4:=by grind [bI]
 have hvl:=hv.1;have hv8:∀v∈vs,v.natAbs<=8191:=λv h=>aM (hv.2 v h) m4
 simp only[oA]at hC⊢;have hmany:br id=cL id ^ eW id:=rfl;unfold zW;by_cases hs:lc id=true
 .rw[hs]at hS;have hin:=f1 hs;have hE:=hE vs hin;have hlt:=H9 (n:=0) (j:=0) hin.2 s_;rw[bn,hin.1,<-hmany]at hlt;have hC:=hC _ hlt;have hcl:=Ba hok hlt;have hcat:=agu [b,kt id (lS (dy id) (cL id) vs 0)] s_ d_;simp only[dG,uL,bh]at hcat;rw[<-ad4]at hcat;rw[ac hs];generalize kt id (lS (dy id) (cL id) vs 0)=CB at *;generalize lS (dy id) (cL id) vs 0=EN at *;generalize cB id=es at *;generalize dT id=rs at *;generalize bR id=pl at *;rw[aG ZD aaw rfl];rcases hx with rfl|⟨rfl,rfl⟩
  .simp(disch:=omega)[↓ac,hF,hS,hE,hC,hcat]
  .have n0:ai []=[]:=rfl;rw[n0]at hcat;simp(disch:=omega)[↓ac,hF,hS,hE,hC,hcat]
 .have hs2:lc id=false:=u_;rw[hs2]at hS;have hin:=f2 hs2;have hE:=hE _ hin;have hlt:=H9 (n:=0) (j:=0) hin.2 s_;rw[bn,hin.1,<-hmany]at hlt;have hC:=hC _ hlt;have hcl:=Ba hok hlt;have hsl:=agF (vs:=vs);have hel:=WF (id:=id) hv8;have hcat:=agu [b,kt id (lS (dy id) (cL id) (vs.map (kZ id)) 0),vs.flatMap qD,vs.flatMap (xn id)] s_ d_;simp only[dG,uL,bh]at hcat;rw[<-anW]at hcat;have hl0:=λx0=>alb id hid (.int .i64 (bR id)) (.lst (cY (cB id))) (.lst (cY (dT id))) x0 vs o_ 1 vs 0 [] [] [] rfl hv8 s_ s_ (by simp)
  have c0:((0:Nat):Int)=0:=rfl;have n0:ai []=[]:=rfl;have n1:aI []=[]:=rfl;have hne:aI (vs.map (kZ id))≠[]:=by
   grind [aI,List.length_nil,bI]
  simp only[n0,n1,qU,aK,c0,mi hne]at hl0;rw[aa hs];generalize kt id (lS (dy id) (cL id) (vs.map (kZ id)) 0)=CB at *;generalize lS (dy id) (cL id) (vs.map (kZ id)) 0=EN at *;generalize cB id=es at *;rw[aG ZD aaw rfl];rcases hx with rfl|⟨rfl,rfl⟩
  .simp(disch:=omega)[↓ac,hF,hS,hl0,hE,hC,hcat]
  .rw[n0]at hcat;simp(disch:=omega)[↓ac,hF,hS,hl0,hE,hC,hcat]
def sf (k n w z:Int):C_:=if k=0 then [] else if k=13 then (if z<0 then au n.toNat 9 else kt 12 (n-z+60).toNat) else kt 12 (n-w+60).toNat
def qa:G_->G_->Int->Int->C_
 |k::r,n::t,w,z=>sf k n w z++qa r t (kB k n w z).1 (kB k n w z).2
 |_,_,_,_=>[]
def oz:H_->K_->Int->Int->C_
 |l::r,t::s,w,z=>qa (aN l) t w z++(match ee (aN l) t w z with
  |some (w,z)=>oz r s w z
  |none=>[])
 |_,_,_,_=>[]
def adB {k n w z:Int}(h:k≠0->mp k n w z):(sf k n w z).length<=20:=by
 unfold sf;by_cases h0:k=0
 .simp_all
 .have hok:jY 12:=o_;have hc:=λe (he:e<121)=>(Ba (id:=12) (e:=e) hok he).2
  by_cases h13:k=13
  .by_cases hz:z<0
   .simp_all
   grind
  grind
structure LP (F:Obj->AV->Int->Int->am)(ss:K_)(g:Int)(L N:Nat):Prop where
 gl:∀q v w z,get (F q v w z) L=some q
 pl:∀q v w z q',put (F q v w z) L q'=F q' v w z
 g0:∀q v w z,get (F q v w z) 0=some (.cells [v])
 p0:∀q v w z v',put (F q v w z) 0 (.cells [v'])=F q v' w z
 g1:∀q v w z,get (F q v w z) 1=some (.cells [.d (.lst (dj ss))])
 g2:∀q v w z,get (F q v w z) 2=some (.cells [A_ w,A_ z])
 p2:∀q v w z w' z',put (F q v w z) 2 (.cells [A_ w',A_ z'])=F q v w' z'
 g3:∀q v w z,get (F q v w z) 3=some (.cells [.ptr 2 0])
 gN:∀q v w z,get (F q v w z) N=some (.cells [A_ g])
abbrev aFW (gs:H_)(g N:Nat):aZ:=[(4,.ptr 0 0),(7,.ptr 1 0),(11,.ptr 3 0),(12,.ptr N 0),(32,.d (.lst (bO gs))),(33,A_ gs.length),(34,A_ g),(40,.fn jD [] [.ptr (N+1) 0])]
abbrev afS (gs:H_)(g N:Nat):Obj:=.loop (aFW gs g N) [41,42] xW xP false none
def aCE {F:Obj->AV->Int->Int->am}{L:Nat}(ss:K_)(hss:ss.length<=1000)(gs:H_)(hgs:gs.length<=1000)(g N:Nat)(H:LP F ss g L N)(t:G_)(ht:t.length<=100000)(hg:(dj ss)[g]?=some [.lst (aI t)])(a:Nat)(k:Int)(b:C_)(hb:b.length<=800000000)(w z:Int)(M:Nat)(n:Int)(r:G_)(hd:t.drop a=n::r)(h0:k=0->n=0)(h1:k≠0->mp k n w z)(hk:0<=k∧k<=13)(hw:uO w)(hz:uO z) :
  cA (Dn prog) (.yield L) [A_ (a:Int),A_ k] ⟨F (afS gs g N) (.own false 1 (ai b)) w z,M⟩=some (B_ true,⟨F (afS gs g N) (.own false 1 (ai (b++sf k n w z))) (kB k n w z).1 (kB k n w z).2,M⟩):=by
 have ha:=bV hd;have hn:=BA hd;have gl:g<ss.length:=by
  obtain⟨h,_⟩:=aJ.1 hg;simpa using h
 have T:=λq v=>OY (hp:=λw z=>F q v w z) (A:=2) ⟨λs z=>H.g2 q v s z,λs z s' z'=>H.p2 q v s z s' z'⟩ k n w z M
 by_cases k0:k=0
 .have:=h0 k0;subst k0 this;simp(disch:=omega)[xZ,xM,↓ac,↓aa,hg,hn,H.gl,H.pl,H.g1,H.gN,kB,sf];rfl
 .have hT:=h1 k0;have hn5:=SI hT;have T:=λq v=>T q v o_ o_ (by omega)
  simp only[ac hT]at T;have e:(kB k n w z)=if k=13 then (w,n) else (n,z):=by rw[kB,aa k0]
  have es:sf k n w z=if k=13 then (if z<0 then au n.toNat 9 else kt 12 (n-z+60).toNat) else kt 12 (n-w+60).toNat:=by grind [sf]
  unfold mp at hT;by_cases k13:k=13
  .rw[ac k13]at hT;rw[e,ac k13,es,ac k13];simp only[ac k13]at T;subst k13;by_cases hz0:z<0
   .rw[ac hz0];have p1:=lW b n 9 o_ o_ _ (.inl rfl);have c9:(9:Int).toNat=9:=rfl;rw[ac d_,c9]at p1;simp(disch:=omega)[xZ,xM,↓ac,↓aa,hg,hn,H.gl,H.pl,H.g0,H.p0,H.g1,H.g2,H.g3,H.gN,T,p1];rfl
   .have p1:=adN b o_ _ (.inl rfl) (n-z) o_;simp(disch:=omega)[xZ,xM,↓ac,↓aa,hg,hn,H.gl,H.pl,H.g0,H.p0,H.g1,H.g2,H.g3,H.gN,T,p1];rfl
  .rw[aa k13]at hT;rw[e,aa k13,es,aa k13];have p1:=adN b o_ _ (.inl rfl) (n-w) o_;simp(disch:=omega)[xZ,xM,↓aa,hg,hn,H.gl,H.pl,H.g0,H.p0,H.g1,H.g2,H.g3,H.gN,T,p1];rfl
abbrev FP (ss:K_)(g N:Nat)(l:Q_)(T:am)(q:Obj)(v:AV)(w z:Int):am :=
 (0,.cells [v])::(1,.cells [.d (.lst (dj ss))])::(2,.cells [A_ w,A_ z])::(3,.cells [.ptr 2 0])::(N,.cells [A_ g])::(N+1,.cells [.d (.lst (io l))])::(N+1+1,q)::T
def aCc {ss:K_}{g N:Nat}{l:Q_}{T:am}(hN:4<=N):LP (FP ss g N l T) ss g (N+1+1) N:=by
 constructor<;>intro q m w z<;>(try intro q')<;>(try intro q'')<;>simp(disch:=omega)[↓aa]
abbrev aBn (ss:K_)(g N:Nat)(l:Q_)(q:Obj)(s:C_×Int×Int)(T:am):am:=FP ss g N l T q (.own false 1 (ai s.1)) s.2.1 s.2.2
def aFM {ss:K_}{g N:Nat}{l:Q_}{q:Obj}(hN:4<=N):Tl (aBn ss g N l q) (N+1+1+1):=by
 constructor
 .intro s K o h;simp(disch:=omega)[↓aa]
 .intro s K o o' h;simp(disch:=omega)[↓aa]
 .intro s K o h;simp(disch:=omega)[↓aa]
 .intro s K o h;simp(disch:=omega)[↓aa]
def aqz {bks t:G_}{a:Nat}{k n:Int}{w z:Int}(hk:bks[a]?=some k)(hd:t.drop a=n::t.drop (a+1)):qa (bks.drop a) (t.drop a) w z=sf k n w z++qa (bks.drop (a+1)) (t.drop (a+1)) (kB k n w z).1 (kB k n w z).2:=by
 grind [List.drop_eq_getElem_cons,qa]
def aCF (ss:K_)(hss:ss.length<=1000)(gs:H_)(hgs:gs.length<=1000)(g N:Nat)(hN:4<=N)(t:G_)(ht:t.length<=100000)(hg:(dj ss)[g]?=some [.lst (aI t)])(l:Q_)(hl:∀k∈aN l,0<=k∧k<=13)(hbl:(aN l).length<=100000)(fin:Int×Int)(TOT:C_) :
  Rnd (aBn ss g N l (afS gs g N)) noH (N+1+1+1) (N+1+1) (aN l) (λa k s=>.inl (s.1++sf k (nth t a) s.2.1 s.2.2,kB k (nth t a) s.2.1 s.2.2)) (λa s=>(s.1.length<=700000000+20*a∧s.1++qa ((aN l).drop a) (t.drop a) s.2.1 s.2.2=TOT)∧uO s.2.1∧uO s.2.2∧ee ((aN l).drop a) (t.drop a) s.2.1 s.2.2=some fin):=by
 intro a k s K o M hk hi hK hM;obtain⟨⟨i0,i1⟩,i2,i3,i4⟩:=hi;obtain⟨n,d1,d2,d3,d4⟩:=aer hk (by rw[i4];simp);have hlt:a<(aN l).length:=d_;have hn:nth t a=n:=by
  grind [bV,qX]
 have hkm:=hl k d_;rw[i4]at d4;rw[aqz hk d1]at i1;have hsl:=adB (k:=k) (n:=n) (w:=s.2.1) (z:=s.2.2) d3;have hgo:uO (kB k n s.2.1 s.2.2).1∧uO (kB k n s.2.1 s.2.2).2:=by
  grind [kB]
 refine .inl ⟨(s.1++sf k n s.2.1 s.2.2,kB k n s.2.1 s.2.2),u_,⟨⟨d_,u_⟩,hgo.1,hgo.2,d4.symm⟩,?_⟩;obtain⟨b,w,z⟩:=s;simp only at i0 i1 i2 i3;exact aCE ss hss gs hgs g N (aCc (ss:=ss) (g:=g) (l:=l) (T:=[(K,o)]) hN) t ht hg a k b o_ w z M n _ d1 d2 d3 hkm i2 i3
abbrev aFR (ss:K_)(v:AV)(w z:Int):am:=[(0,.cells [v]),(1,.cells [.d (.lst (dj ss))]),(2,.cells [A_ w,A_ z]),(3,.cells [.ptr 2 0])]
def XM:∀{bks t:G_}{w z:Int},ee bks t w z≠none->(qa bks t w z).length<=20*bks.length
 |[],[],_,_,_=>by simp[qa]
 |[],_::_,_,_,h=>absurd rfl h
 |_::_,[],_,_,h=>absurd rfl h
 |k::r,n::t,w,z,h=>by
  have h1:=qt h;have h2:=adB h1.2.1;have h3:=XM (by rw[h1.2.2]at h;exact h)
  grind [qa]
theorem tJ {l:Q_}{lf:Int}(h:fitsS lf l)(h0:0<=lf):((aN l).length:Int)=lf:=by
 induction l generalizing lf<;>grind [fitsS,aN]
def agQ (ss:K_)(hss:ss.length<=1000)(hss2:∀t∈ss,t.length<=100000)(gs:H_)(hgs:gs.length<=1000)(m:Int)(hm:0<=m∧m<=1000):∀(gr:H_) (sr:K_) (i N:Nat) (b:C_) (w z:Int),gs.drop i=gr->ss.drop i=sr->fQ m gr->(∀l∈gr,l.length<=1000)->uO w->uO z->na gr sr w z≠none->4<=N->b.length+20000*gr.length<=600000000->
  ∃M w' z',(Dn prog).code (.loop yc) ⟨[(4,.ptr 0 0),(7,.ptr 1 0),(11,.ptr 3 0),(32,.d (.lst (bO gs))),(33,A_ gs.length),(34,A_ i)],⟨aFR ss (.own false 1 (ai b)) w z,N⟩⟩ =
  some (.exit 0,⟨[(4,.ptr 0 0)],⟨[(0,.cells [.own false 1 (ai (b++oz gr sr w z))]),(2,.cells [A_ w',A_ z'])],M⟩⟩):=by
 intro gr
 induction gr with
 |nil =>
  intro sr i N b w z hd hd2 hf hl hw hz hr hN hb;have hi:=bv hd;refine⟨N,w,z,?_⟩;have e:b++oz [] sr w z=b:=by grind [oz]
  rw[ah NT,e];simp(disch:=omega)[↓ac,↓aa]
 |cons l r ih =>
  intro sr i N b w z hd hd2 hf hl hw hz hr hN hb;simp only[aq]at hb;have hg:=oE hd;have hlt:=bV hd;have hfl:=hf l (.head _);have hll:=hl l (.head _);have hbk:=tJ hfl hm.1
  cases sr with
  |nil=>exact absurd rfl hr
  |cons t s =>
   have hgt:=KG hd2;have htl:=hss2 t (by rw[<-aX i ss,hd2];simp);rw[na]at hr
   cases hrow:ee (aN l) t w z with
   |none=>simp_all
   |some fin =>
    rw[hrow]at hr;have hrl:=XM (bks:=aN l) (t:=t) (w:=w) (z:=z) u_;have hb1:=acQ (p:=N+1) (aFM (ss:=ss) (g:=i) (l:=l) (q:=afS gs i N) hN) aom l (aCF ss hss gs hgs i N hN t htl hgt l (Po hfl) o_ fin (b++qa (aN l) t w z)) (λs=>by simp(disch:=omega)[↓aa]) hll (λq hq=>by have:=(uc hfl hm.2 q hq).1;omega) (N+1+1+1) (b,w,z) (ak _) ⟨⟨d_,rfl⟩,hw,hz,u_⟩;rcases hb1 with ⟨⟨b2,w2,z2⟩,M,e1,⟨⟨e2,e2'⟩,e3,e4,e5⟩,e6,e7⟩|⟨z,_⟩
    .rw[co (ak _)]at e5 e2';obtain⟨e8,e9⟩:=ahF e5;subst e8;have e10:b2=b++qa (aN l) t w z:=by
      grind [qa]
     subst e10;obtain⟨M2,w3,z3,f⟩:=ih s (i+1) M (b++qa (aN l) t w z) w2 z2 (bK hd) (bK hd2) (λq hq=>hf q (.tail _ hq)) (λq hq=>hl q (.tail _ hq)) e3 e4 hr o_ d_;refine⟨M2,w3,z3,?_⟩;have eT:b++oz (l::r) (t::s) w z=b++qa (aN l) t w z++oz r s w2 z2:=by grind [oz]
     rw[ah NT,eT,<-f];simp(disch:=omega)[↓ac,↓aa,hg,LW,rd,e7]
    grind
def apR (b:C_)(hb:b.length<=500000000)(x:AV)(hx:x=.d (.lst (ai b))∨x=.nl∧b=[])(gain m:Int)(g:H_)(t:K_)(hgn:0<=gain∧gain<=255)(hl:g.length<=8)(hm:0<=m∧m<=40)(hf:fQ m g)(hf2:∀l∈g,l.length<=1000)(ht:Bq gain g t)(ht2:∀l∈t,l.length<=100000) :
  bq prog Wc [x,A_ gain,.d (.lst (bO g)),.d (.lst (dj t))]=some (.tup [.own true 1 (ai (b++oz g t gain (-1))),A_ 0]):=by
 have h1:=aku gain m g t hgn hl hm hf hf2 ht ht2;have hlen:=Kv ht;obtain⟨M,w,z,e⟩:=agQ t o_ ht2 g o_ m o_ g t 0 4 b gain (-1) rfl rfl hf hf2 o_ o_ ht (ak _) o_;have c0:((0:Nat):Int)=0:=rfl;rw[c0]at e;have hp:=lW b 0 0 o_ o_ x hx;rw[ac k_]at hp;have t0:(0:Int).toNat=0:=rfl;rw[t0,au,bh]at hp;rw[aG alr alo rfl];rcases hx with rfl|⟨rfl,rfl⟩
 all_goals simp(disch:=omega)[↓ac,↓aa,h1,hp,e]
structure ct where
 len:Int
 order:Int
 down:Bool
 fine:Bool
 coefs:G_
abbrev AA_:=List ct
abbrev O_:=List (AA_)
abbrev ct.cells (f:ct):W_:=[.int .i64 f.len,.int .i64 f.order,.bool f.down,.bool f.fine,.lst (aI f.coefs)]
abbrev ct.av (f:ct):D_:=[A_ f.len,A_ f.order,B_ f.down,B_ f.fine,.d (.lst (aI f.coefs))]
def fh (l:AA_):E_:=l.map ct.cells
@[simp] def au7 {l:AA_}:(fh l).length=l.length:=by simp[fh]
def D6 {l:AA_}{i:Nat}{s:ct}{r:AA_}(h:l.drop i=s::r):(fh l)[i]?=some [.int .i64 s.len,.int .i64 s.order,.bool s.down,.bool s.fine,.lst (aI s.coefs)]:=by
 grind [List.getElem?_cons_zero,fh]
def dk (t:O_):E_:=t.map λl=>[.lst (fh l)]
@[simp] theorem ad7 {t:O_}:(dk t).length=t.length:=by simp[dk]
def Bt {g:O_}{i:Nat}{l:AA_}{r:O_}(h:g.drop i=l::r):(dk g)[i]?=some [.lst (fh l)]:=by
 grind [List.getElem?_cons_zero,dk]
def ags (h:Int):∀(l:G_),l.any (λc=>decide (c < -h∨h<=c))=!decide (∀c∈l,-h<=c∧c<h)
 |[]=>by simp
 |c::r=>by
  grind
def dS (fine:Bool):Int:=if fine then 8 else 4
def AW (sh:Bool):Int:=if sh then 15 else 63
def xo (sh:Bool):Int:=if sh then 7 else 12
def Cl (sh:Bool)(f:ct):Prop:=(0<=f.len∧f.len<=AW sh)∧(0<=f.order∧f.order<=xo sh)∧(f.coefs.length:Int)=f.order∧(f.order=0->f.down=false)∧∀c∈f.coefs,-dS f.fine<=c∧c<dS f.fine
instance {sh:Bool}{f:ct}:Decidable (Cl sh f):=by unfold Cl;infer_instance
theorem Jm (b:Bool):bq prog El [B_ b]=some (A_ (if b then 4 else 3)):=by
 rw[aG abX abW rfl]
 cases b<;>simp(disch:=omega)
def Fw (b:Bool):bq prog QP [B_ b]=some (A_ (if b then 1 else 0)):=by
 rw[aG afL ae1 rfl]
 cases b<;>simp(disch:=omega)
def mL (sh:Bool):D_:=if sh then [A_ 1,A_ 4,A_ 3,A_ 1,A_ 7] else [A_ 2,A_ 6,A_ 5,A_ 3,A_ 12]
def aO.short (i:aO):Bool:=decide (i.seq=2)
def Aq (i:aO):bq prog Dc [.agg i.cells]=some (.agg (mL i.short)):=by
 rw[aG aaL Z4 rfl];unfold mL aO.short;by_cases h:i.seq=2
 .simp(disch:=omega)[↓ac,h]
 .simp(disch:=omega)[↓aa,h]
def aCq (m:Nat)(hm:m<=100000)(v:Int)(N:Nat):(Dn prog).call Dx [A_ v,.ptr 0 0] ⟨[(0,.cells [A_ m])],N⟩=some (B_ ((decide (v < -(m:Int)∨(m:Int)<=v))),⟨[(0,.cells [A_ m])],N⟩):=by
 rw[be aaD Yf rfl];by_cases h1:v < -(m:Int)
 .simp(disch:=omega)[↓ac,h1]
 .by_cases h2:(m:Int)<=v
  .simp(disch:=omega)[↓ac,↓aa,h1,h2]
  .simp(disch:=omega)[↓ac,↓aa,h1,h2]
def LM (l:G_)(hl:l.length<=1000000)(s:Nat)(hs:1<=s∧s<=10):bq prog Hk [.d (.lst (aI l)),A_ s]=some (B_ ((decide (∀c∈l,-((2 ^ (s-1):Nat):Int)<=c∧c<((2 ^ (s-1):Nat):Int))))):=by
 have hp:2 ^ (s-1)<=2 ^ 10:=aw o_ o_;have q2:=UD (m:=s-1) o_;have c1:((s-1:Nat):Int)=(s:Int)-1:=o_;rw[c1]at q2;generalize 2 ^ (s-1)=P at *;have h1:=AC (.fn Dx [] [.ptr 0 0]) (λc=>decide (c < -(P:Int)∨(P:Int)<=c)) l o_ [(0,.cells [A_ P])] 1 rfl rfl λv _=>by
  have:=aCq P o_ v 1
  simp_all
 rw[ags]at h1;rw[aG afH afO rfl];simp(disch:=omega)[-sY,q2,h1]
def afD (i:aO)(f:ct)(h:Cl i.short f):bq prog K0 [.agg i.cells,.agg f.av]=some (B_ true):=by
 obtain⟨⟨l1,l2⟩,⟨o1,o2⟩,c1,d1,c2⟩:=h;have hs:=Aq i;have hw:=Jm f.fine;have hof:xo i.short<=12:=by grind [xo]
 have hft:=LM f.coefs o_ (if f.fine then 4 else 3) d_;have hh:((2 ^ ((if f.fine then 4 else 3)-1):Nat):Int)=dS f.fine:=by grind [dS]
 rw[hh,dT_ c2]at hft;have hc:(((if f.fine=true then 4 else 3:Nat)):Int)=if f.fine=true then 4 else 3:=d_
 rw[hc]at hft;have hl:=iR (l:=f.coefs);generalize hW:(if f.fine=true then (4:Int) else 3)=W at *;simp only[aO.cells]at hs;have hdn:f.order > 0∨f.order=0∧f.down=false:=by
  grind
 rw[aG aaq aaG rfl];unfold AW at l2;unfold xo at o2
 cases hsh:i.short with
 |true =>
  rw[hsh]at l2 o2 hs;simp only[mL,bj]at l2 o2 hs;rcases hdn with hdn|⟨h0,hdn⟩
  .simp(disch:=omega)[↓ac,↓aa,hs,hw,hft]
  .simp(disch:=omega)[↓ac,↓aa,hs,hw,hft,hdn]
 |false =>
  rw[hsh]at l2 o2 hs;simp only[mL]at l2 o2 hs;rcases hdn with hdn|⟨h0,hdn⟩
  .simp(disch:=omega)[↓ac,↓aa,hs,hw,hft]
  .simp(disch:=omega)[↓ac,↓aa,hs,hw,hft,hdn]
def acT (F:AV)(P:ct->Bool)(l:AA_)(hl:l.length<=1000000000)(h:am)(N0:Nat)(hF:firm (share F)=F)(hc:∀f∈l,∀N,N0<=N->cA (Dn prog) F [.agg f.av] ⟨h,N⟩=some (B_ (P f),⟨h,N+1⟩)):∀(r:AA_) (i N:Nat),l.drop i=r->N0<=N->
  (r.any P=true∧∃k M:Nat,N<=M∧(Dn prog).code (.loop fR) ⟨[(0,.d (.lst (fh l))),(1,F),(7,A_ l.length),(8,A_ i)],⟨h,N⟩⟩=some (.ret,⟨[(4,A_ k)],⟨h,M⟩⟩))∨
  (r.any P=false∧∃M,N<=M∧(Dn prog).code (.loop fR) ⟨[(0,.d (.lst (fh l))),(1,F),(7,A_ l.length),(8,A_ i)],⟨h,N⟩⟩=some (.exit 0,⟨[],⟨h,M⟩⟩)):=by
 intro r
 induction r with
 |nil =>
  intro i N hd hN;have hi:=bv hd;refine .inr ⟨rfl,N,ak _,?_⟩;rw[ah iH];simp(disch:=omega)[↓aa]
 |cons v r ih =>
  intro i N hd hN;have hg:=D6 hd;have hlt:=bV hd;have hv:=hc v (by rw[<-aX i l,hd];simp) N hN;have h5:=ih (i+1) (N+1) (bK hd) (by omega)
  cases hp:P v with
  |true =>
   rw[hp]at hv;refine .inl ⟨u_,i,N+1,o_,?_⟩;rw[ah iH];simp(disch:=omega)[↓ac,hg,hF,hv]
  |false =>
   rw[hp]at hv;rw[fD,hp,nT];rcases h5 with ⟨e1,k,M,e3,e2⟩|⟨e1,M,e3,e2⟩
   .refine .inl ⟨e1,k,M,o_,?_⟩;rw[ah iH,<-e2];simp(disch:=omega)[↓ac,hg,hF,hv]
   .refine .inr ⟨e1,M,o_,?_⟩;rw[ah iH,<-e2];simp(disch:=omega)[↓ac,hg,hF,hv]
def Fl (F:AV)(P:ct->Bool)(l:AA_)(hl:l.length<=1000000000)(h:am)(N:Nat)(hF:firm (share F)=F)(hF2:firm F=F)(hc:∀f∈l,∀M,N<=M->cA (Dn prog) F [.agg f.av] ⟨h,M⟩=some (B_ (P f),⟨h,M+1⟩)) :
  ∃M,N<=M∧(Dn prog).call fT [.d (.lst (fh l)),F] ⟨h,N⟩=some (B_ (l.any P),⟨h,M⟩):=by
 have h1:=acT F P l hl h N hF hc l 0 N rfl (ak _);have c0:((0:Nat):Int)=0:=rfl;rw[c0]at h1;have h2:∃(k:Int) (M:Nat),N<=M∧(0<=k↔l.any P=true)∧(Dn prog).call vk [.d (.lst (fh l)),F] ⟨h,N⟩=some (A_ k,⟨h,M⟩):=by
  rcases h1 with ⟨e1,k,M,e3,e2⟩|⟨e1,M,e3,e2⟩
  .refine⟨k,M,e3,⟨λ_=>e1,λ_=>by omega⟩,?_⟩;rw[be uY u5 rfl];simp(disch:=omega)[e2]
  .refine⟨-1,M,e3,⟨λh=>by omega,λh=>by simp_all⟩,?_⟩;rw[be uY u5 rfl];simp(disch:=omega)[e2]
 obtain⟨k,M,e3,e1,e2⟩:=h2;refine⟨M,e3,?_⟩;rw[be DC Dy rfl]
 cases hp:l.any P with
 |true =>
  have:=e1.2 hp;simp(disch:=omega)[↓ac,hF2,e2]
 |false =>
  have:¬0<=k:=λh=>by simp_all
  simp(disch:=omega)[↓aa,hF2,e2]
def aeH (lo hi v:Int)(hlo:-100<=lo∧lo<=0)(hhi:0<=hi∧hi<=100)(X:Obj)(N:Nat):(Dn prog).call wE [A_ v,.ptr 1 0,.ptr 2 0] ⟨[(0,X),(1,.cells [A_ lo]),(2,.cells [A_ hi])],N⟩=some (B_ (decide (v<lo∨hi<v)),⟨[(0,X),(1,.cells [A_ lo]),(2,.cells [A_ hi])],N⟩):=by
 rw[be aad aat rfl];by_cases h1:v<lo
 .simp(disch:=omega)[↓ac,h1]
 .by_cases h2:hi<v
  .simp(disch:=omega)[↓ac,↓aa,h1,h2]
  .simp(disch:=omega)[↓ac,↓aa,h1,h2]
def aoe (X:Obj)(l:G_)(hl:l.length<=1000000)(fine:Bool):(Dn prog).call nE [.d (.lst (aI l)),.fn wE [] [.ptr 1 0,.ptr 2 0]] ⟨[(0,X),(1,.cells [A_ (-dS fine)]),(2,.cells [A_ (dS fine-1)])],3⟩ =
  some (B_ (!decide (∀c∈l,-dS fine<=c∧c<dS fine)),⟨[(0,X),(1,.cells [A_ (-dS fine)]),(2,.cells [A_ (dS fine-1)])],3⟩):=by
 have hh:4<=dS fine∧dS fine<=8:=by grind [dS]
 have h1:=AC (.fn wE [] [.ptr 1 0,.ptr 2 0]) (λc=>decide (c < -dS fine∨dS fine-1<c)) l o_ [(0,X),(1,.cells [A_ (-dS fine)]),(2,.cells [A_ (dS fine-1)])] 3 rfl rfl λv _=>by
  have:=aeH (-dS fine) (dS fine-1) v o_ o_ X 3
  simp_all
 have e:(λc:Int=>decide (c < -dS fine∨dS fine-1<c))=λc=>decide (c < -dS fine∨dS fine<=c):=by
  grind
 rw[e,ags]at h1;exact h1
def alw (sh:Bool)(f:ct)(hl:f.coefs.length<=1000000):bq prog QL [.agg f.av,B_ sh]=some (B_ (decide (Cl sh f))):=by
 rw[aG afG afz rfl];have hll:=iR (l:=f.coefs);have hls:AW sh=if sh then 15 else 63:=rfl
 have hos:xo sh=if sh then 7 else 12:=rfl
 by_cases a1:0<=f.len∧f.len<=AW sh
 .by_cases a2:0<=f.order∧f.order<=xo sh
  .by_cases a3:(f.coefs.length:Int)=f.order
   .by_cases a4:f.order=0∧f.down=true
    .rw[dF_ (λh=>by have:=h.2.2.2.1 a4.1;simp_all)];obtain⟨a4,a5⟩:=a4
     cases sh<;>simp only[AW,xo,bj,ao,bm]at a1 a2<;>simp(disch:=omega)[↓ac,↓aa,a5]
    .have hc:=aoe (.cells f.av) f.coefs hl f.fine;have hd:decide (Cl sh f)=decide (∀c∈f.coefs,-dS f.fine<=c∧c<dS f.fine):=by
      rw[decide_eq_decide];refine⟨λh=>h.2.2.2.2,λh=>⟨a1,a2,a3,λh0=>?_,h⟩⟩
      simp_all
     rw[hd];generalize decide (∀c∈f.coefs,-dS f.fine<=c∧c<dS f.fine)=B at *;have h4:dS false=4:=rfl;have h8:dS true=8:=rfl;by_cases h0:f.order=0
     .have hdn:f.down=false:=by
       simp_all
      cases hfn:f.fine<;>simp only[hfn,h4,h8,Int.reduceNeg,Int.reduceSub]at hc<;>cases sh<;>simp only[AW,xo,bj,ao,bm]at a1 a2<;>simp(disch:=omega)[↓ac,↓aa,hdn,hfn,hc]
     .cases hfn:f.fine<;>simp only[hfn,h4,h8,Int.reduceNeg,Int.reduceSub]at hc<;>cases sh<;>simp only[AW,xo,bj,ao,bm]at a1 a2<;>simp(disch:=omega)[↓ac,↓aa,hfn,hc]
   .rw[dF_ (λh=>a3 h.2.2.1)]
    cases sh<;>simp only[AW,xo,bj,ao,bm]at a1 a2<;>simp(disch:=omega)[↓ac,↓aa]
  .rw[dF_ (λh=>a2 h.2.1)];by_cases b1:f.order<0
   .cases sh<;>simp only[AW,xo,bj,ao,bm]at a1 a2<;>simp(disch:=omega)[↓ac,↓aa]
   .cases sh<;>simp only[AW,xo,bj,ao,bm]at a1 a2<;>simp(disch:=omega)[↓ac,↓aa]
 .rw[dF_ (λh=>a1 h.1)];by_cases b1:f.len<0
  .cases sh<;>simp only[AW,bj,ao,bm]at a1<;>simp(disch:=omega)[↓ac]
  .cases sh<;>simp only[AW,bj,ao,bm]at a1<;>simp(disch:=omega)[↓ac,↓aa]
def Lt (H:am)(N:Nat):Prop:=∀p∈H,p.1<N
def vI {H:am}{N:Nat}{o:Obj}(h:Lt H N):put H N o=H++[(N,o)]:=by
 induction H with
 |nil=>rfl
 |cons p r ih =>
  obtain⟨k,v⟩:=p;have h1:=h (k,v) (.head _);rw[xE,aa o_,aa o_,ih (λp hp=>h p (.tail _ hp)),aS]
def Ik {H:am}{N:Nat}{o o':Obj}(h:Lt H N):put (H++[(N,o)]) N o'=H++[(N,o')]:=by
 induction H with
 |nil=>simp_all
 |cons p r ih =>
  obtain⟨k,v⟩:=p;have h1:=h (k,v) (.head _);rw[aS,xE,aa o_,aa o_,ih (λp hp=>h p (.tail _ hp)),aS]
def yD {H:am}{N:Nat}{o:Obj}(h:Lt H N):get (H++[(N,o)]) N=some o:=by
 induction H with
 |nil=>simp_all
 |cons p r ih =>
  obtain⟨k,v⟩:=p;have h1:=h (k,v) (.head _);rw[aS,ju,aa o_,ih (λp hp=>h p (.tail _ hp))]
def A9 {H:am}{N k:Nat}{o o':Obj}(h:get H k=some o'):get (H++[(N,o)]) k=some o':=by
 induction H<;>grind [Bj,ju]
def M5 {H:am}{N:Nat}{o:Obj}(h:Lt H N):del (H++[(N,o)]) N=H:=by
 induction H with
 |nil=>simp_all
 |cons p r ih =>
  obtain⟨k,v⟩:=p;have h1:=h (k,v) (.head _);rw[aS,pc,aa o_,ih (λp hp=>h p (.tail _ hp))]
def KK {H:am}{N M:Nat}(h:Lt H N)(hm:N<=M):Lt H M:=λp hp=>bc (h p hp) hm
def MR {H:am}{N:Nat}{o:Obj}(h:Lt H N):Lt (H++[(N,o)]) (N+1):=by
 intro p hp;rcases aW.1 hp with h1|h1
 .have:=h p h1;omega
 simp_all
@[simp] def aHM (a b:Bool):aai true (B_ a) (B_ b)=some (.bool (a != b)):=by cases a<;>cases b<;>rfl
@[simp] def aHC (a b:Bool):aai false (B_ a) (B_ b)=some (.bool (a == b)):=by cases a<;>cases b<;>rfl
def act (sh:Bool)(f0 f:ct):Bool:=!decide (Cl sh f) ||f.fine != f0.fine
def aqY (sh:Bool)(f0:ct)(l:AA_)(f:ct)(hf:f.coefs.length<=1000000)(H:am)(p q M:Nat)(hp:get H p=some (.cells [B_ sh]))(hq:get H q=some (.cells [.d (.lst (fh (f0::l)))]))(hl:(f0::l).length<=1000000)(hM:Lt H M) :
  (Dn prog).call pg [.agg f.av,.ptr p 0,.ptr q 0] ⟨H,M⟩=some (B_ (act sh f0 f),⟨H,M+1⟩):=by
 have e1:=λo=>vI (o:=o) hM
 have e2:=λo=>yD (o:=o) hM
 have e3:=λo=>A9 (N:=M) (o:=o) hp
 have e4:=λo=>A9 (N:=M) (o:=o) hq
 have e5:=λo=>M5 (o:=o) hM
 have e6:=alw sh f hf;have hg:=D6 (l:=f0::l) (i:=0) (s:=f0) (r:=l) rfl;unfold act;rw[be Xf W1 rfl];simp only[ct.av]at e6⊢
 cases hB:decide (Cl sh f) with
 |false =>
  rw[hB]at e6;simp(disch:=omega)[e1,e2,e3,e5,e6]
 |true =>
  rw[hB]at e6
  cases hf1:f.fine<;>cases hf2:f0.fine<;>rw[hf1]at e6<;>rw[hf2]at hg<;>
   simp(disch:=omega)[e1,e2,e3,e4,e5,e6,hg]
structure cQ where
 gain:Int
 info:aO
 sects:H_
 steps:K_
 tns:O_
 lines:G_
abbrev BA_:=List cQ
abbrev cQ.av (c:cQ):D_:=[A_ c.gain,.d (.int .u8 c.info.seq),.d (.int .u8 c.info.shape),A_ c.info.max,.d (.lst (aI c.info.groups)),.d (.lst (bO c.sects)),.d (.lst (dj c.steps)),.d (.lst (dk c.tns)),.d (.lst (aI c.lines))]
structure cQ.Fit (c:cQ):Prop where
 gain:i64 c.gain
 info:c.info.Fit
 sects:auv c.sects
 secI:∀l∈c.sects,∀s∈l,i64 s.book∧i64 s.len
 steps:c.steps.length<=1000∧∀l∈c.steps,l.length<=1000
 stepI:∀l∈c.steps,∀n∈l,i64 n
 tns:c.tns.length<=1000∧∀l∈c.tns,l.length<=1000∧∀f∈l,f.coefs.length<=1000
 fltI:∀l∈c.tns,∀f∈l,(i64 f.len∧i64 f.order)∧∀x∈f.coefs,i64 x
 lines:c.lines.length<=100000
 lineI:∀n∈c.lines,i64 n
def qP (sh:Bool):Nat:=if sh then 1 else 3
def tY (sh:Bool)(l:AA_):Prop:=l.length<=qP sh∧∀f0∈l.head?,∀f∈l,Cl sh f∧f.fine=f0.fine
abbrev T2 (i:aO)(t:O_):Prop:=t.length=i.many∧∀l∈t,tY i.short l
def aw1 {sh:Bool}{f0:ct}{l:AA_}:l.any (act sh f0)=false↔∀f∈l,Cl sh f∧f.fine=f0.fine:=by
 grind [act]
def acW (sh:Bool):AA_->Bool
 |[]=>false
 |f0::r=>(f0::r).any (act sh f0)
theorem agY {sh:Bool}{l:AA_}:tY sh l↔l.length<=qP sh∧acW sh l=false:=by
 unfold tY
 cases l with
 |nil=>simp[acW]
 |cons f0 r0 =>
  simp only[acW,aw1]
  simp_all
instance {sh:Bool}{l:AA_}:Decidable (tY sh l):=decidable_of_iff _ agY.symm
def Yg (sh:Bool)(full:O_)(hl:full.length<=1000)(hl2:∀l∈full,l.length<=1000∧∀f∈l,f.coefs.length<=1000):∀(r:O_) (i N:Nat) (H:am),full.drop i=r->get H 1=some (.cells [B_ sh])->Lt H N->2<=N->
  ((∀l∈r,tY sh l)∧∃H2 M,(Dn prog).code (.loop nK) ⟨[(5,.ptr 1 0),(6,A_ (qP sh)),(20,.d (.lst (dk full))),(21,A_ full.length),(22,A_ i)],⟨H,N⟩⟩=some (.exit 0,⟨[],⟨H2,M⟩⟩))∨
  ((¬∀l∈r,tY sh l)∧∃H2 M,(Dn prog).code (.loop nK) ⟨[(5,.ptr 1 0),(6,A_ (qP sh)),(20,.d (.lst (dk full))),(21,A_ full.length),(22,A_ i)],⟨H,N⟩⟩=some (.ret,⟨[(4,B_ false)],⟨H2,M⟩⟩)):=by
 intro r
 induction r with
 |nil =>
  intro i N H hd hH hL hN;have hi:=bv hd;refine .inl ⟨s_,H,N,?_⟩;rw[ah oa];simp(disch:=omega)[↓aa]
 |cons l r ih =>
  intro i N H hd hH hL hN;have hg:=Bt hd;have hlt:=bV hd;obtain⟨hll,hlc⟩:=hl2 l (by rw[<-aX i full,hd];simp);have hm:qP sh<=3:=by grind [qP]
  have e1:=λo=>vI (o:=o) hL
  have e2:=λo=>yD (o:=o) hL
  have e3:=λo=>A9 (N:=N) (o:=o) hH
  have e4:=λo o'=>Ik (o:=o) (o':=o') hL
  have c1:((i+1:Nat):Int)=(i:Int)+1:=rfl;by_cases h1:l.length<=qP sh
  .have hcf:∃M,N+1<=M∧(Dn prog).call fT [.d (.lst (fh l)),.fn pg [] [.ptr 1 0,.ptr N 0]] ⟨H++[(N,.cells [.d (.lst (fh l))])],N+1⟩=some (B_ (acW sh l),⟨H++[(N,.cells [.d (.lst (fh l))])],M⟩):=by
    cases l with
    |nil =>
     exact Fl (.fn pg [] [.ptr 1 0,.ptr N 0]) (λ_=>false) [] s_ _ (N+1) rfl rfl λf hf=>by simp at hf
    |cons f0 r0 =>
     refine Fl (.fn pg [] [.ptr 1 0,.ptr N 0]) (act sh f0) (f0::r0) o_ _ (N+1) rfl rfl λf hf M hM=>?_
     have:=aqY sh f0 r0 f d_ (H++[(N,.cells [.d (.lst (fh (f0::r0)))])]) 1 N M (e3 _) (e2 _) o_ (KK (MR hL) hM)
     simp_all
   obtain⟨M,hM,e5⟩:=hcf;have hW:acW sh l=false↔tY sh l:=by grind [agY]
   generalize acW sh l=B at *
   cases B with
   |true =>
    refine .inr ⟨λh=>?_,H++[(N,.cells [.d (.lst (fh l))])],M,?_⟩
    .simp_all
    .rw[ah oa];simp(disch:=omega)[↓ac,↓aa,hg,e1,e2,e4,e5]
   |false =>
    have h5:=ih (i+1) M (H++[(N,.cells [.d (.lst (fh l))])]) (bK hd) (e3 _) (KK (MR hL) hM) o_;rcases h5 with ⟨f1,H2,M2,f2⟩|⟨f1,H2,M2,f2⟩
    .refine .inl ⟨λq hq=>?_,H2,M2,?_⟩
     .grind
     .rw[ah oa,<-f2];simp(disch:=omega)[↓ac,↓aa,hg,e1,e2,e4,e5]
    .refine .inr ⟨λh=>f1 λq hq=>h q (.tail _ hq),H2,M2,?_⟩;rw[ah oa,<-f2];simp(disch:=omega)[↓ac,↓aa,hg,e1,e2,e4,e5]
  .refine .inr ⟨λh=>h1 (h l (.head _)).1,H++[(N,.cells [.d (.lst (fh l))])],N+1,?_⟩;rw[ah oa];simp(disch:=omega)[↓ac,hg,e1,e2,e4]
def ain (c:cQ)(hc:c.Fit)(w:Nat)(hw:w<=8):bq prog E4 [.agg c.av,A_ w]=some (B_ (decide (c.tns.length=w∧∀l∈c.tns,tY c.info.short l))):=by
 have hl:=hc.tns.1;have h0:=Yg c.info.short c.tns hc.tns.1 hc.tns.2 c.tns 0 2 [(1,.cells [B_ c.info.short])] rfl s_ (λp hp=>by simp_all) o_;have c0:((0:Nat):Int)=0:=rfl;rw[c0]at h0;have m1:((1:Nat):Int)=1:=rfl;have m3:((3:Nat):Int)=3:=rfl;rw[aG aca aa5 rfl];by_cases h1:c.tns.length=w
 .have hsh:c.info.short=decide (c.info.seq=2):=rfl;have e:decide (c.tns.length=w∧∀l∈c.tns,tY c.info.short l)=decide (∀l∈c.tns,tY c.info.short l):=by simp[h1]
  rw[e];rcases h0 with ⟨f1,H2,M2,f2⟩|⟨f1,H2,M2,f2⟩
  .rw[dT_ f1];by_cases hs:c.info.seq=2
   .rw[dT_ hs]at hsh;rw[hsh]at f2;simp only[qP,bj,m1]at f2;simp(disch:=omega)[↓ac,↓aa,f2]
   .rw[dF_ hs]at hsh;rw[hsh]at f2;simp only[qP,ao,bm,m3]at f2;simp(disch:=omega)[↓ac,↓aa,f2]
  .rw[dF_ f1];by_cases hs:c.info.seq=2
   .rw[dT_ hs]at hsh;rw[hsh]at f2;simp only[qP,bj,m1]at f2;simp(disch:=omega)[↓ac,↓aa,f2]
   .rw[dF_ hs]at hsh;rw[hsh]at f2;simp only[qP,ao,bm,m3]at f2;simp(disch:=omega)[↓ac,↓aa,f2]
 .rw[dF_ (λh=>h1 h.1)];by_cases hs:c.info.seq=2
  .simp(disch:=omega)[↓ac,↓aa]
  .simp(disch:=omega)[↓ac,↓aa]
def G9:Int->Q_->Option Int
 |a,[]=>some a
 |a,s::r=>if (1<=s.len∧s.len<=40)∧Nw s.book then G9 (a+s.len) r else none
def abl:∀{l:Q_}{a v:Int},G9 a l=some v->a+l.length<=v∧v<=a+40*l.length
 |[],a,v,h=>by simp only[G9]at h;injection h with h;simp;omega
 |s::r,a,v,h=>by
  rw[G9]at h;split at h
  .rename_i h1;have:=abl h;simp only[aq];omega
  .exact absurd h (by simp)
def Tr {m:Int}(hm:m<=40):∀{l:Q_}{a:Int},0<=a->(G9 a l=some m↔fitsS (m-a) l)
 |[],a,h=>by
  simp only[G9,fitsS,ae];omega
 |s::r,a,h=>by
  rw[G9,fitsS];by_cases h1:(1<=s.len∧s.len<=40)∧Nw s.book
  .rw[ac h1,Tr hm o_];have e:m-(a+s.len)=m-a-s.len:=o_;rw[e];constructor
   .intro h2;refine⟨⟨⟨h1.1.1,?_⟩,h1.2⟩,h2⟩;have:=(Tr (l:=r) (a:=a+s.len) hm o_).2 (by rw[e];exact h2);have:=abl this;omega
   .intro h2;exact h2.2
  .rw[aa h1];constructor
   .intro h2;exact absurd h2 (by simp)
   .intro h2;obtain⟨⟨⟨a1,a2⟩,a3⟩,a4⟩:=h2;exact absurd ⟨⟨a1,o_⟩,a3⟩ h1
def XZ (full:Q_)(hl:full.length<=1000)(X:Obj)(x4:AV)(x17:AV)(y18 y19:D):∀(r:Q_) (i:Nat) (a:Int) (N:Nat),full.drop i=r->0<=a∧a<=40*i->1<=N->
  ∃M,N<=M∧(Dn prog).code (.loop qA) ⟨[(1,.ptr 0 0),(4,x4),(5,A_ a),(17,x17),(18,.d y18),(19,.d y19),(23,.d (.lst (io full))),(24,A_ full.length),(25,A_ i)],⟨[(0,X)],N⟩⟩ =
  match G9 a r with
  |some v=>some (.exit 2,⟨[(1,.ptr 0 0),(4,x4),(5,A_ v),(17,x17),(18,.d y18),(19,.d y19)],⟨[(0,X)],M⟩⟩)
  |none=>some (.ret,⟨[(2,B_ false)],⟨[],M⟩⟩):=by
 intro r
 induction r with
 |nil =>
  intro i a N h h0 hN;have hi:=bv h;refine⟨N,ak _,?_⟩;rw[ah xc,G9];simp(maxSteps:=9^6)(disch:=omega)[↓ac,↓aa]
 |cons s r ih =>
  intro i a N h h0 hN;have hg:=AB h;have hlt:=bV h;have hN0:N≠0:=o_;by_cases hr:(1<=s.len∧s.len<=40)∧Nw s.book
  .have hr1:=hr.1;obtain⟨M,hM,e⟩:=ih (i+1) (a+s.len) (N+1) (bK h) o_ o_;refine⟨M,o_,?_⟩;have c1:((i+1:Nat):Int)=(i:Int)+1:=rfl;rw[c1]at e;rw[ah xc,G9,ac hr,<-e];obtain⟨⟨r1,r2⟩,r3,r4|r4⟩:=hr
   .simp(maxSteps:=9^6)(disch:=omega)[↓ac,↓aa,hg,hN0]
   .simp(maxSteps:=9^6)(disch:=omega)[↓ac,↓aa,hg,hN0]
  .refine⟨N+1,o_,?_⟩;rw[ah xc,G9,aa hr];by_cases b1:s.len<1
   .simp(maxSteps:=9^6)(disch:=omega)[↓ac,↓aa,hg,hN0]
   .by_cases b2:40<s.len
    .simp(maxSteps:=9^6)(disch:=omega)[↓ac,↓aa,hg,hN0]
    .by_cases b3:s.book<0
     .simp(maxSteps:=9^6)(disch:=omega)[↓ac,↓aa,hg,hN0]
     .have b4:11<s.book∧s.book≠13:=by
       unfold Nw at hr;omega
      obtain⟨b4,b5⟩:=b4;simp(maxSteps:=9^6)(disch:=omega)[↓ac,↓aa,hg,hN0]
def ayx:∀x∈HX,r8 x.1 x.2<=40:=e_
def ka {i:aO}(hm:i.may 11):0<=i.max∧i.max<=40:=by
 have h1:=hm.2.2.1;have h2:=hm.2.2.2.1;have h3:=ayx _ (fP (r:=11) (s:=decide (i.seq=2)) o_);simp only[]at h3;omega
def W8 (c:cQ)(hm:0<=c.info.max∧c.info.max<=40)(hl:c.sects.length<=1000)(hl2:∀l∈c.sects,l.length<=1000):∀(g:H_) (j:Nat) (N:Nat),c.sects.drop j=g->1<=N->
  ∃H M,(Dn prog).code (.loop qF) ⟨[(1,.ptr 0 0),(17,.d (.lst (bO c.sects))),(18,A_ c.sects.length),(19,A_ j)],⟨[(0,.cells c.av)],N⟩⟩ =
  if fQ c.info.max g then some (.exit 0,⟨[],⟨H,M⟩⟩) else some (.ret,⟨[(2,B_ false)],⟨H,M⟩⟩):=by
 simp only[cQ.av];intro g
 induction g with
 |nil =>
  intro j N h hN;have hi:=bv h;refine⟨[],N,?_⟩;rw[ah qJ,ac (show fQ c.info.max [] from λ_ h=>by simp at h)];simp(maxSteps:=9^6)(disch:=omega)[↓ac,↓aa]
 |cons l r ih =>
  intro j N h hN;have hg:=oE h;have hlt:=bV h;have hll:l.length<=1000:=hl2 l (by rw[<-aX j c.sects,h];simp);obtain⟨M,hM,e⟩:=XZ l hll (.cells c.av) (.d (.lst (io l))) (.d (.lst (bO c.sects))) (.int .i64 c.sects.length) (.int .i64 j) l 0 0 N rfl o_ hN;have c0:((0:Nat):Int)=0:=rfl;rw[c0]at e;simp only[cQ.av]at e;have hiff:=Tr (m:=c.info.max) hm.2 (l:=l) (a:=0) o_;rw[Int.sub_zero]at hiff
  cases hrm:G9 0 l with
  |none =>
   rw[hrm]at e hiff;refine⟨[],M,?_⟩;have hn:¬fQ c.info.max (l::r):=λh=>absurd (hiff.2 (h l (.head _))) (by simp)
   rw[ah qJ,aa hn];simp(maxSteps:=9^6)(disch:=omega)[↓ac,↓aa,hg,e]
  |some v =>
   rw[hrm]at e hiff;have hv:=abl hrm;by_cases h9:v=c.info.max
   .subst h9;have hf:=hiff.1 rfl;obtain⟨H2,M2,e2⟩:=ih (j+1) M (bK h) o_;refine⟨H2,M2,?_⟩;have hx:fQ c.info.max (l::r)↔fQ c.info.max r:=by simp[fQ,hf]
    have c1:((j+1:Nat):Int)=(j:Int)+1:=rfl;rw[c1]at e2;rw[ah qJ,avU hx,<-e2];simp(maxSteps:=9^6)(disch:=omega)[↓ac,↓aa,hg,e]
   .refine⟨[],M,?_⟩;have hn:¬fQ c.info.max (l::r):=λh=>by
     have:=hiff.2 (h l (.head _));injection this with this;exact h9 this
    rw[ah qJ,aa hn];simp(maxSteps:=9^6)(disch:=omega)[↓ac,↓aa,hg,e]
instance {m:Int}{g:H_}:Decidable (fQ m g):=by unfold fQ;infer_instance
def aeT (c:cQ)(hc:c.Fit)(hm:c.info.may 11):bq prog Cu [.agg c.av]=some (B_ (decide (kg c.info c.sects))):=by
 obtain⟨H,M,e⟩:=W8 c (ka hm) hc.sects.1 hc.sects.2 c.sects 0 1 rfl o_;have c0:((0:Nat):Int)=0:=rfl;rw[c0]at e;simp only[cQ.av]at e⊢;have hl1:=hc.sects.1;have hl2:=hc.info.len;rw[aG X6 ZP rfl];by_cases h1:c.sects.length=c.info.groups.length
 .by_cases h2:fQ c.info.max c.sects
  .rw[dT_ ⟨h1,h2⟩];rw[ac h2]at e;simp(maxSteps:=9^6)(disch:=omega)[↓ac,↓aa,e]
  .rw[dF_ (λh=>h2 h.2)];rw[aa h2]at e;simp(maxSteps:=9^6)(disch:=omega)[↓ac,↓aa,e]
 .rw[dF_ (λh=>h1 h.1)];simp(maxSteps:=9^6)(disch:=omega)[↓ac,↓aa]
abbrev su:=@Nat.add_right_cancel_iff
def Ky (w n:Int)(hw:-1000<=w∧w<=1000)(hn:-1000<=n∧n<=1000):bq prog Vw [A_ w,A_ n]=some (B_ (decide (w-60<=n∧n<=w+60))):=by
 rw[aG alk akc rfl];by_cases h1:w-60<=n
 .by_cases h2:n<=w+60
  .rw[dT_ ⟨h1,h2⟩];simp(disch:=omega)[↓ac]
  .rw[dF_ (λh=>h2 h.2)];simp(disch:=omega)[↓ac,↓aa]
 .rw[dF_ (λh=>h1 h.1)];simp(disch:=omega)[↓aa]
def ajo (full:Q_)(hl:full.length<=1000):∀(r:Q_) (i b N:Nat) (lf:Int) (k:Int),full.drop i=r->fitsS lf r->lf<=1000->(aN r)[b]?=some k->
  ∃M,(Dn prog).code (.loop xX) ⟨[(2,A_ b),(25,.d (.lst (io full))),(26,A_ full.length),(27,A_ i)],⟨[],N⟩⟩ =
  some (.ret,⟨[(6,A_ k),(7,A_ 0)],⟨[],M⟩⟩):=by
 intro r
 induction r with
 |nil=>grind [aN]
 |cons s r ih =>
  intro i b N lf k h hf h0 hk;have hg:=AB h;have hlt:=bV h;obtain⟨h1,h2⟩:=hf;have eb:aN (s::r)=List.replicate s.len.toNat s.book++aN r:=by grind [aN]
  rw[eb]at hk;by_cases hb:(b:Int)<s.len
  .rw[bU u_]at hk;have hk2:k=s.book:=by
    simp_all
   subst hk2;refine⟨N+1,?_⟩;rw[ah Mu];simp(disch:=omega)[↓ac,↓aa,hg]
  .rw[bg u_]at hk;simp only[aL]at hk;obtain⟨M,e⟩:=ih (i+1) (b-s.len.toNat) (N+1) (lf-s.len) k (bK h) h2 o_ hk;refine⟨M,?_⟩;have c1:((i+1:Nat):Int)=(i:Int)+1:=rfl;have c2:((b-s.len.toNat:Nat):Int)=(b:Int)-s.len:=o_;have hbl:b<100000000:=by
    grind [tJ]
   rw[c1,c2]at e;rw[ah Mu,<-e];simp(disch:=omega)[↓ac,↓aa,hg]
def adh (g:H_)(hl:g.length<=1000)(hl2:∀l∈g,l.length<=1000)(m:Int)(hm:m<=1000)(hf:fQ m g)(j b:Nat)(l:Q_)(r:H_)(hd:g.drop j=l::r)(k:Int)(hk:(aN l)[b]?=some k) :
  bq prog VD [.d (.lst (bO g)),A_ j,A_ b]=some (.tup [A_ k,A_ 0]):=by
 have hg:=oE hd;have hlt:=bV hd;have hmem:l∈g:=by rw[<-aX j g,hd];simp
 have hbl:b<100000000:=by
  have h6:=hf l hmem;rcases Int.le_total 0 m with h|h
  .grind [tJ]
  .rcases Jf h6 with h7|h7
   .have:l=[]:=by cases l<;>grind
    grind [aN]
   grind [aN]
 obtain⟨M,e⟩:=ajo l (hl2 l hmem) l 0 b 0 m k rfl (hf l hmem) hm hk;have c0:((0:Nat):Int)=0:=rfl;rw[c0]at e;rw[aG ak2 akl rfl];simp(disch:=omega)[↓aa,hg,e]
def zP (z:Int):Int:=if 0<=z then z else 0
def ac3 {k n:Int}{r t:G_}{w z:Int}(h:k=0->n≠0)(h1:k≠0->¬mp k n w z):ee (k::r) (n::t) w z=none:=by
 grind [ee]
def aeQ (c:cQ)(hl:c.sects.length<=1000)(hl2:∀l∈c.sects,l.length<=1000)(m:Int)(hm:0<=m∧m<=1000)(hf:fQ m c.sects)(x23:AV)(y24 y25:D)(j:Nat)(l:Q_)(rr:H_)(hd:c.sects.drop j=l::rr)(t:G_)(ht:t.length<=1000)(hbl:(aN l).length=t.length)(htI:∀n∈t,i64 n)(N:Nat):∀(r:G_) (b:Nat) (w z:Int),t.drop b=r->uO w->uO z->
  ∃H,(Dn prog).code (.loop wu) ⟨[(1,.ptr 0 0),(3,A_ w),(4,A_ (zP z)),(5,B_ (decide (0<=z))),(6,A_ j),(23,x23),(24,.d y24),(25,.d y25),(36,.d (.lst (aI t))),(37,A_ t.length),(38,A_ b)],⟨[(0,.cells c.av)],N⟩⟩ =
  match ee ((aN l).drop b) r w z with
  |some (w,z)=>some (.exit 2,⟨[(1,.ptr 0 0),(3,A_ w),(4,A_ (zP z)),(5,B_ (decide (0<=z))),(23,x23),(24,.d y24),(25,.d y25)],⟨[(0,.cells c.av)],N⟩⟩)
  |none=>some (.ret,⟨[(2,B_ false)],⟨H,N⟩⟩):=by
 simp only[cQ.av];intro r
 induction r with
 |nil =>
  intro b w z h hw hz;have hi:=bv h;refine⟨[],?_⟩;rw[ah kJ,co o_,ee];simp(disch:=omega)[↓aa]
 |cons n r ih =>
  intro b w z h hw hz;have hg:=BA h;have hlt:=bV h;have hnI:=htI n (by rw[<-aX b t,h];simp);have hblt:b<(aN l).length:=o_;have hkk:=eY hblt;obtain⟨k,hk⟩:∃k,k=(aN l)[b]:=⟨_,rfl⟩
  have hk?:(aN l)[b]?=some k:=u_;have hmem:l∈c.sects:=by rw[<-aX j c.sects,hd];simp
  have hkr:=Po (hf l hmem) k u_;rw[<-hk]at hkk;have hB:=adh c.sects hl hl2 m hm.2 hf j b l rr hd k hk?;have c1:((b+1:Nat):Int)=(b:Int)+1:=rfl;rw[hkk];by_cases k0:k=0
  .by_cases n0:n=0
   .obtain⟨H,e⟩:=ih (b+1) w z (bK h) hw hz;refine⟨H,?_⟩;rw[c1]at e;have eR:ee (k::(aN l).drop (b+1)) (n::r) w z=ee ((aN l).drop (b+1)) r w z:=by grind [ee]
    rw[ah kJ,eR,<-e];subst k0 n0;simp(disch:=omega)[↓ac,↓aa,hg,hB]
   .refine⟨[],?_⟩;rw[ah kJ,ac3 (λ_=>n0) (λh=>absurd k0 h)];subst k0;simp(disch:=omega)[↓ac,↓aa,hg,hB]
  .by_cases k13:k=13
   .by_cases ho:mp k n w z
    .have hn5:=SI ho;obtain⟨H,e⟩:=ih (b+1) w n (bK h) hw hn5;refine⟨H,?_⟩;unfold mp at ho;rw[ac k13]at ho;have hnn:zP n=n:=by grind [zP]
     rw[c1,hnn,dT_ (show 0<=n by omega)]at e;have eR:ee (k::(aN l).drop (b+1)) (n::r) w z=ee ((aN l).drop (b+1)) r w n:=by grind [ee]
     rw[ah kJ,eR,<-e];subst k13;by_cases hz0:0<=z
     .have hzn:zP z=z:=by grind [zP]
      have hnr:=Ky z n o_ o_;rw[dT_ (show z-60<=n∧n<=z+60 by omega)]at hnr;rw[hzn,dT_ hz0];simp(disch:=omega)[↓ac,↓aa,hg,hB,hnr]
     .rw[dF_ hz0];simp(disch:=omega)[↓ac,↓aa,hg,hB]
    .refine⟨[],?_⟩;rw[ah kJ,ac3 (λh=>absurd h k0) (λ_=>ho)];unfold mp at ho;rw[ac k13]at ho;subst k13;by_cases b1:n<0
     .simp(disch:=omega)[↓ac,↓aa,hg,hB]
     .by_cases b2:511<n
      .simp(disch:=omega)[↓ac,↓aa,hg,hB]
      .have hz0:0<=z:=o_;have hzn:zP z=z:=by grind [zP]
       have hnr:=Ky z n o_ o_;rw[dF_ (show ¬(z-60<=n∧n<=z+60) by omega)]at hnr;rw[hzn,dT_ hz0];simp(disch:=omega)[↓ac,↓aa,hg,hB,hnr]
   .by_cases ho:mp k n w z
    .have hn5:=SI ho;obtain⟨H,e⟩:=ih (b+1) n z (bK h) hn5 hz;refine⟨H,?_⟩;have eR:ee (k::(aN l).drop (b+1)) (n::r) w z=ee ((aN l).drop (b+1)) r n z:=by grind [ee]
     unfold mp at ho;rw[aa k13]at ho;rw[c1]at e;have hnr:=Ky w n o_ o_;rw[dT_ (show w-60<=n∧n<=w+60 by omega)]at hnr;rw[ah kJ,eR,<-e];simp(disch:=omega)[↓ac,↓aa,hg,hB,hnr]
    .refine⟨[],?_⟩;rw[ah kJ,ac3 (λh=>absurd h k0) (λ_=>ho)];unfold mp at ho;rw[aa k13]at ho;by_cases b1:n<0
     .simp(disch:=omega)[↓ac,↓aa,hg,hB]
     .by_cases b2:255<n
      .simp(disch:=omega)[↓ac,↓aa,hg,hB]
      .have hnr:=Ky w n o_ o_;rw[dF_ (show ¬(w-60<=n∧n<=w+60) by omega)]at hnr;simp(disch:=omega)[↓ac,↓aa,hg,hB,hnr]
def awD {bks:G_}:∀{t:G_}{w z:Int}{fin:Int×Int},uO w->uO z->ee bks t w z=some fin->uO fin.1∧uO fin.2:=by
 induction bks with
 |nil =>
  grind [ee]
 |cons k r ih =>
  intro t w z fin hw hz h
  cases t with
  |nil=>grind [ee]
  |cons n t =>
   obtain⟨h1,h2,h3⟩:=qt (by rw[h];simp)
   grind [kB]
def afh (c:cQ)(hc:c.Fit)(hm:c.info.may 11)(hf:fQ c.info.max c.sects):∀(gr:H_) (sr:K_) (j N:Nat) (w z:Int),c.sects.drop j=gr->c.steps.drop j=sr->gr.length=sr.length->uO w->uO z->
  ∃H M,(Dn prog).code (.loop wG) ⟨[(1,.ptr 0 0),(3,A_ w),(4,A_ (zP z)),(5,B_ (decide (0<=z))),(23,.d (.lst (dj c.steps))),(24,A_ c.steps.length),(25,A_ j)],⟨[(0,.cells c.av)],N⟩⟩ =
  match na gr sr w z with
  |some _=>some (.exit 0,⟨[],⟨H,M⟩⟩)
  |none=>some (.ret,⟨[(2,B_ false)],⟨H,M⟩⟩):=by
 have hmx:=ka hm;have hl1:=hc.steps.1;simp only[cQ.av];intro gr
 induction gr with
 |nil =>
  intro sr j N w z hd hd2 he hw hz;have hi2:c.steps.length<=j:=by
   grind
  have hsr:sr=[]:=d_;refine⟨[],N,?_⟩;rw[ah we,hsr,na];simp(disch:=omega)[↓ac,↓aa]
 |cons l r ih =>
  intro sr j N w z hd hd2 he hw hz
  cases sr with
  |nil=>simp at he
  |cons t s =>
   simp only[aq,su]at he;have hgt:=KG hd2;have hlt2:=bV hd2;have hmt:t∈c.steps:=by rw[<-aX j c.steps,hd2];simp
   have htl:=hc.steps.2 t hmt;have hml:l∈c.sects:=by rw[<-aX j c.sects,hd];simp
   have hbk:=tJ (hf l hml) hmx.1;have c0:((0:Nat):Int)=0:=rfl;rw[na];by_cases hlen:(t.length:Int)=c.info.max
   .obtain⟨H,e⟩:=aeQ c hc.sects.1 hc.sects.2 c.info.max ⟨hmx.1,o_⟩ hf (.d (.lst (dj c.steps))) (.int .i64 c.steps.length) (.int .i64 j) j l r hd t htl o_ (hc.stepI t hmt) N t 0 w z rfl hw hz;rw[c0,mN]at e
    cases hrow:ee (aN l) t w z with
    |none =>
     rw[hrow]at e;refine⟨H,N,?_⟩;rw[ah we];simp(disch:=omega)[↓ac,hgt,e]
    |some fin =>
     rw[hrow]at e;obtain⟨f1,f2⟩:=awD hw hz hrow;obtain⟨H2,M2,e2⟩:=ih s (j+1) N fin.1 fin.2 (bK hd) (bK hd2) he f1 f2;refine⟨H2,M2,?_⟩;rw[ah we];rw[<-e2];simp(disch:=omega)[↓ac,hgt,e]
   .refine⟨[],N,?_⟩;have hn:ee (aN l) t w z=none:=by
     cases hrow:ee (aN l) t w z<;>grind [XU]
    rw[ah we,hn];simp(disch:=omega)[↓ac,↓aa,hgt]
instance {gain:Int}{g:H_}{t:K_}:Decidable (Bq gain g t):=by unfold Bq;infer_instance
def aoq (c:cQ)(hc:c.Fit)(hm:c.info.may 11)(hgn:0<=c.gain∧c.gain<=255)(hs:kg c.info c.sects):bq prog It [.agg c.av]=some (B_ (decide (Bq c.gain c.sects c.steps))):=by
 have c0:((0:Nat):Int)=0:=rfl;have hnv:zP (-1)=0:=rfl;have hdf:decide ((0:Int)<=-1)=false:=rfl;rw[aG ahr agZ rfl];by_cases h1:c.steps.length=c.info.groups.length
 .obtain⟨H,M,e⟩:=afh c hc hm hs.2 c.sects c.steps 0 1 c.gain (-1) rfl rfl o_ o_ o_;rw[c0,hnv,hdf]at e;by_cases hr:na c.sects c.steps c.gain (-1)=none
  .rw[hr]at e;rw[dF_ (λh=>h hr)];simp(disch:=omega)[↓ac,e]
  .obtain⟨fin,hf⟩:=Option.ne_none_iff_exists'.1 hr;rw[hf]at e;rw[dT_ hr];simp(disch:=omega)[↓ac,e]
 .rw[dF_ (λh=>h1 (by grind [Kv]))];simp(disch:=omega)[↓ac,↓aa]
abbrev rO:=@Bool.or_false
def aho {h:am}{l:G_}{a b:Nat}(hab:a<=b)(hb:b<=l.length)(x y:Int)(hx:x=a)(hy:y=b):mF h 1 (.d (.lst (aI l))) (some (A_ x)) (some (A_ y)) none=some (.d (.lst (aI ((l.drop a).take (b-a))))):=by
 have e1:eK (A_ (b:Int)) (aI l).length=some b:=by grind [yp,iR]
 have e2:eK (A_ (a:Int)) b=some a:=by grind [yp]
 have e3:Gp 1 (aI l)=true:=by cases l<;>rfl
 simp_all [mF,okSl,vt,xb,v7]
def au2 {id:Nat}(hid:1<=id∧id<=11):jd id<=8191:=(C0 id (Ub hid)).2.2.2
def arO (id:Nat)(hid:1<=id∧id<=11)(v:Int)(hv:i64 v):bq prog VX [A_ id,A_ v]=some (B_ (decide (v.natAbs<=jd id))):=by
 have i4:[[D.int .i64 v],[D.int .i64 0],[D.int .i64 0],[D.int .i64 0]]=aI [v,0,0,0]:=rfl;have i2:[[D.int .i64 v],[D.int .i64 0]]=aI [v,0]:=rfl;have hz:LT (jd id) 0=false:=by grind [LT]
 have hf:LT (jd id) v=!decide (v.natAbs<=jd id):=by
  grind [LT]
 rw[aG alj akq rfl];by_cases h4:4<id
 .have h:=SC id hid [v,0] (by grind [bI]);simp only[fD,List.any_nil,hz,hf,rO,Bool.not_not]at h;rw[<-i2]at h;have hs:mF [] 1 (.own false 1 [[.int .i64 v],[.int .i64 0],[.int .i64 0],[.int .i64 0]]) none (some (A_ 2)) none=some (.d (.lst [[.int .i64 v],[.int .i64 0]])):=rfl;simp(disch:=omega)[↓ac,hs,h]
 .have h:=SC id hid [v,0,0,0] (by grind [bI]);simp only[fD,List.any_nil,hz,hf,rO,Bool.not_not]at h;rw[<-i4]at h;simp(disch:=omega)[↓ac,↓aa,h]
def mu:C_->Nat->Nat
 |[],_=>0
 |x::r,i=>if x<=i then mu r i+1 else 0
def aeN (os:C_)(ho:os.length<=100)(X:Obj)(x4 x54:AV)(y10 y12 y16 y34 y35 y55 y56:D)(i:Nat)(hi:i<=1000)(hoI:∀x∈os,x<=1000)(hp:HS):∀(r:C_) (b:Nat),os.drop (b+1)=r->(∃x∈r,i<x)->
  (Dn prog).code (.loop wa) ⟨[(4,x4),(8,.own false 1 (cY os)),(10,.d y10),(12,.d y12),(14,A_ b),(15,A_ i),(16,.d y16),(34,.d y34),(35,.d y35),(54,x54),(55,.d y55),(56,.d y56)],hp⟩ =
  some (.exit 4,⟨[(4,x4),(8,.own false 1 (cY os)),(10,.d y10),(12,.d y12),(14,A_ (b+mu r i:Nat)),(16,.d y16),(34,.d y34),(35,.d y35),(54,x54),(55,.d y55),(56,.d y56)],hp⟩):=by
 obtain⟨h,n⟩:=hp;intro r
 induction r with
 |nil=>simp_all
 |cons x r ih =>
  intro b hd hx;have hlt:=bV hd;have hnx:nth os (b+1)=x:=by
   grind [qX]
  have hg:(cY os)[b+1]?=some [.int .i64 (x:Int)]:=by grind [DT]
  have hxI:=hoI x (by grind [jE]);rw[ah ZG,mu];by_cases h1:x<=i
  .have hx2:∃y∈r,i<y:=by
    grind
   have h5:=ih (b+1) (bK hd) hx2;rw[ac h1,show b+(mu r i+1)=b+1+mu r i by omega,<-h5];simp(disch:=omega)[↓ac,hg]
  .simp(disch:=omega)[↓aa,hg]
def Z7 {l:C_}{i:Nat}:∀{b:Nat},b<=l.length->(∀x∈l.take b,x<=i)->mu l i=b+mu (l.drop b) i:=by
 induction l with
 |nil=>simp_all
 |cons x r ih =>
  intro b hb h
  cases b<;>grind [mu]
def aoh {l:C_}{i:Nat}:∀x∈l.take (mu l i),x<=i:=by
 induction l<;>grind [mu]
def atC {l:C_}{i:Nat}:mu l i<=l.length:=by
 induction l<;>grind [mu]
def ND (tl:C_)(bks:G_)(i:Nat)(v:Int):Prop:=v=0∨∃k,bks[mu tl i]?=some k∧(1<=k∧k<=11)∧v.natAbs<=jd k.toNat
def xA (tl:C_)(bks:G_):Nat->G_->Prop
 |_,[]=>True
 |i,v::r=>ND tl bks i v∧xA tl bks (i+1) r
def afl (c:cQ)(hc:c.Fit)(hm:c.info.may 11)(hf:fQ c.info.max c.sects)(os:C_)(ho:os.length<=100)(hoI:∀x∈os,x<=1000)(hne:os≠[])(y10 y34 y35:D)(j:Nat)(l:Q_)(rr:H_)(hd:c.sects.drop j=l::rr)(ls:G_)(hls:ls.length<=1000)(hlI:∀v∈ls,i64 v)(hlast:∀i,i<ls.length->∃x∈os.drop 1,i<x)(N:Nat):∀(r:G_) (i b:Nat),ls.drop i=r->b<=(os.drop 1).length->(∀x∈(os.drop 1).take b,x<=i)->
  (xA (os.drop 1) (aN l) i r∧(Dn prog).code (.loop qm) ⟨[(4,.ptr 0 0),(8,.own false 1 (cY os)),(10,.d y10),(12,A_ j),(14,A_ b),(34,.d y34),(35,.d y35),(54,.d (.lst (aI ls))),(55,A_ ls.length),(56,A_ i)],⟨[(0,.cells c.av)],N⟩⟩ =
   some (.exit 2,⟨[(4,.ptr 0 0),(8,.own false 1 (cY os)),(10,.d y10),(34,.d y34),(35,.d y35)],⟨[(0,.cells c.av)],N⟩⟩))∨
  (¬xA (os.drop 1) (aN l) i r∧(Dn prog).code (.loop qm) ⟨[(4,.ptr 0 0),(8,.own false 1 (cY os)),(10,.d y10),(12,A_ j),(14,A_ b),(34,.d y34),(35,.d y35),(54,.d (.lst (aI ls))),(55,A_ ls.length),(56,A_ i)],⟨[(0,.cells c.av)],N⟩⟩ =
   some (.ret,⟨[(6,B_ false)],⟨[],N⟩⟩)):=by
 have hmx:=ka hm;have hml:l∈c.sects:=by rw[<-aX j c.sects,hd];simp
 have hbk:=tJ (hf l hml) hmx.1;simp only[cQ.av];intro r
 induction r with
 |nil =>
  intro i b h hb hx;have hi:=bv h;refine .inl ⟨trivial,?_⟩;rw[ah jx];simp(disch:=omega)[↓aa]
 |cons v r ih =>
  intro i b h hb hx;have hg:=BA h;have hlt:=bV h;have hvI:=hlI v (by rw[<-aX i ls,h];simp);have c1:((i+1:Nat):Int)=(i:Int)+1:=rfl;by_cases v0:v=0
  .have h5:=ih (i+1) b (bK h) hb λx hx2=>by grind
   rw[c1]at h5;have hL:ND (os.drop 1) (aN l) i v:=.inl v0;rw[xA];subst v0;rcases h5 with ⟨e1,e2⟩|⟨e1,e2⟩
   .refine .inl ⟨⟨hL,e1⟩,?_⟩;rw[ah jx,<-e2];simp(disch:=omega)[↓ac,hg]
   .refine .inr ⟨λh=>e1 h.2,?_⟩;rw[ah jx,<-e2];simp(disch:=omega)[↓ac,hg]
  .have hsk:=Z7 hb hx;have hdd:os.drop (b+1)=(os.drop 1).drop b:=u_;have hex:∃x∈os.drop (b+1),i<x:=by
    grind [List.take_append_drop]
   have h0:=aeN os ho (.cells c.av) (.ptr 0 0) (.d (.lst (aI ls))) y10 (.int .i64 j) (.int .i64 v) y34 y35 (.int .i64 ls.length) (.int .i64 i) i o_ hoI ⟨[(0,.cells c.av)],N⟩ (os.drop (b+1)) b rfl hex;rw[hdd,<-hsk]at h0;have hbl:=atC (l:=os.drop 1) (i:=i);have hbt:=aoh (l:=os.drop 1) (i:=i);have hol:(os.drop 1).length<=100:=d_;obtain⟨B,hB⟩:∃B,B=mu (os.drop 1) i:=⟨_,rfl⟩
   have h5:=ih (i+1) B (bK h) o_ λx hx2=>by grind
   rw[c1]at h5;simp only[cQ.av]at h0;rw[xA];unfold ND;rw[<-hB]at h0⊢;by_cases hBm:(B:Int)<c.info.max
   .have hBl:B<(aN l).length:=o_;obtain⟨k,hk⟩:∃k,(aN l)[B]?=some k:=⟨_,bC hBl⟩
    have hBk:=adh c.sects hc.sects.1 hc.sects.2 c.info.max o_ hf j B l rr hd k hk;rw[hk];by_cases hk1:1<=k∧k<=11
    .obtain⟨K,rfl⟩:=aA (show 0<=k by omega);have hft:=arO K o_ v hvI;by_cases hfit:v.natAbs<=jd K
     .rw[dT_ hfit]at hft;have hL:v=0∨∃k,some (K:Int)=some k∧(1<=k∧k<=11)∧v.natAbs<=jd k.toNat:=.inr ⟨K,rfl,hk1,by simpa using hfit⟩;rcases h5 with ⟨e1,e2⟩|⟨e1,e2⟩
      .refine .inl ⟨⟨hL,e1⟩,?_⟩;rw[ah jx,<-e2];simp(disch:=omega)[↓ac,↓aa,hg,h0,hBk,hft]
      .refine .inr ⟨λh=>e1 h.2,?_⟩;rw[ah jx,<-e2];simp(disch:=omega)[↓ac,↓aa,hg,h0,hBk,hft]
     .rw[dF_ hfit]at hft;refine .inr ⟨λh=>?_,?_⟩
      .grind
      .rw[ah jx];simp(disch:=omega)[↓ac,↓aa,hg,h0,hBk,hft]
    .have hn:¬((v=0∨∃k',some k=some k'∧(1<=k'∧k'<=11)∧v.natAbs<=jd k'.toNat)∧xA (os.drop 1) (aN l) (i+1) r):=λh=>by
      grind
     refine .inr ⟨hn,?_⟩;rw[ah jx];by_cases hk0:k<1
     .simp(disch:=omega)[↓ac,↓aa,hg,h0,hBk]
     .simp(disch:=omega)[↓ac,↓aa,hg,h0,hBk]
   .have hBl:(aN l)[B]?=none:=ir o_;refine .inr ⟨λh=>?_,?_⟩
    .grind
    .rw[ah jx];simp(disch:=omega)[↓ac,↓aa,hg,h0]
abbrev cP:=@List.length_drop
abbrev gx:=@Nat.add_sub_cancel_left
def aiE:∀{l:G_}{w:Int},w<l.sum->(∀n∈l,1<=n)->0<=w->lF l w<l.length
 |[],w,h,_,h0=>by grind
 |n::r,w,h,hn,h0=>by
  rw[lF];split
  .simp
  .have:=aiE (l:=r) (w:=w-n) d_ (λm hm=>hn m (.tail _ hm)) (by omega)
   simp_all
def aO.wide (i:aO):Nat:=if i.seq=2 then 32 else 256
def yX (c:cQ)(w:Nat):G_:=(c.lines.drop (w*c.info.wide)).take c.info.wide
def wQ (c:cQ)(w:Nat):Q_:=c.sects.getD (lF c.info.groups w) []
def Is (r:Nat)(c:cQ):Nat->Nat->Prop
 |0,_=>True
 |k+1,w=>xA ((offs r c.info.short).drop 1) (aN (wQ c w)) 0 (yX c w)∧Is r c k (w+1)
abbrev Tv (r:Nat)(c:cQ):Prop:=c.lines.length=256∧Is r c c.info.many 0
def Bl:∀x∈HX,((offs x.1 x.2).drop 1).contains (cond x.2 32 256)=true∧(offs x.1 x.2).all (λy=>decide (y<=1000))=true∧(offs x.1 x.2).length<=64∧1<=(offs x.1 x.2).length:=e_
def afg (rt:Nat)(hrt:rt<=11)(c:cQ)(hc:c.Fit)(hm:c.info.may 11)(hs:kg c.info c.sects)(hl:c.lines.length=256)(N:Nat):∀(k w:Nat),w+k=c.info.many->
  (Is rt c k w∧∃H,(Dn prog).code (.loop ql) ⟨[(4,.ptr 0 0),(8,.own false 1 (cY (offs rt c.info.short))),(10,A_ c.info.wide),(34,A_ c.info.many),(35,A_ w)],⟨[(0,.cells c.av)],N⟩⟩=some (.exit 0,⟨[],⟨H,N⟩⟩))∨
  (¬Is rt c k w∧(Dn prog).code (.loop ql) ⟨[(4,.ptr 0 0),(8,.own false 1 (cY (offs rt c.info.short))),(10,A_ c.info.wide),(34,A_ c.info.many),(35,A_ w)],⟨[(0,.cells c.av)],N⟩⟩=some (.ret,⟨[(6,B_ false)],⟨[],N⟩⟩)):=by
 have hmm:c.info.many*c.info.wide=256∧c.info.many<=8∧c.info.wide<=256∧1<=c.info.many:=by grind [aO.many,aO.wide]
 obtain⟨m1,m2,m3,m4⟩:=hmm;obtain⟨o1,o2,o3,o4⟩:=Bl (rt,c.info.short) (fP o_);simp only at o1 o2 o3 o4;obtain⟨g1,g2⟩:=d8 hm;have hoI:∀x∈offs rt c.info.short,x<=1000:=λx hx=>by simp_all
 have hcond:(cond c.info.short 32 256:Nat)=c.info.wide:=by
  grind [aO.short,aO.wide]
 rw[hcond]at o1;have hlast:∀i,i<c.info.wide->∃x∈(offs rt c.info.short).drop 1,i<x:=λi hi=>⟨c.info.wide,u_,hi⟩
 intro k
 induction k with
 |zero =>
  intro w hw;refine .inl ⟨trivial,[],?_⟩;rw[ah v9];simp(disch:=omega)[↓ac,↓aa]
 |succ k ih =>
  intro w hw;have hG:=ON c.info hc.info hm w o_ o_;have hgl:=aiE (l:=c.info.groups) (w:=w) o_ (λn hn=>(g1 n hn).1) o_;obtain⟨G,hGe⟩:∃G,G=lF c.info.groups w:=⟨_,rfl⟩
  rw[<-hGe]at hG hgl;have hGs:G<c.sects.length:=o_;have hsa:wQ c w=c.sects[G]:=by grind [wQ]
  have hd:=eY hGs;have hwl:w*c.info.wide+c.info.wide<=256:=by
   grind
  have hwn:(yX c w).length=c.info.wide:=by unfold yX;rw[b7,cP];omega
  have hwI:∀v∈yX c w,i64 v:=λv hv=>hc.lineI v (c7 (dr hv))
  have h1:=afl c hc hm hs.2 (offs rt c.info.short) o_ hoI d_ (.int .i64 c.info.wide) (.int .i64 c.info.many) (.int .i64 w) G c.sects[G] _ hd (yX c w) o_ hwI (λi hi=>hlast i o_) N (yX c w) 0 0 rfl o_ s_;have h2:=ih (w+1) o_;have c1:((w+1:Nat):Int)=(w:Int)+1:=rfl;have c0:((0:Nat):Int)=0:=rfl;rw[c1]at h2;rw[c0]at h1;rw[hwn]at h1;have hmul:(w:Int)*c.info.wide=((w*c.info.wide:Nat):Int):=o_;have hmul2:((w:Int)+1)*c.info.wide=((w*c.info.wide+c.info.wide:Nat):Int):=d_;have hsl:=aho (h:=[(0,.cells c.av)]) (l:=c.lines) (a:=w*c.info.wide) (b:=w*c.info.wide+c.info.wide) o_ o_ ((w:Int)*c.info.wide) (((w:Int)+1)*c.info.wide) hmul hmul2;rw[gx]at hsl;have hW:((c.lines.drop (w*c.info.wide)).take c.info.wide)=yX c w:=rfl;rw[hW]at hsl;have hlw:=iR (l:=yX c w);rw[hwn]at hlw;rw[Is,hsa];simp only[cQ.av,aO.cells]at h1 h2 hsl hG⊢;rcases h1 with ⟨e1,e2⟩|⟨e1,e2⟩
  .rcases h2 with ⟨f1,H,f2⟩|⟨f1,f2⟩
   .refine .inl ⟨⟨e1,f1⟩,H,?_⟩;rw[ah v9,<-f2];simp(disch:=omega)[↓ac,hG,hsl,hlw,e2]
   .refine .inr ⟨λh=>f1 h.2,?_⟩;rw[ah v9,<-f2];simp(disch:=omega)[↓ac,hG,hsl,hlw,e2]
  .refine .inr ⟨λh=>e1 h.1,?_⟩;rw[ah v9];simp(disch:=omega)[↓ac,hG,hsl,hlw,e2]
def ang (rt:Nat)(hrt:rt<=11)(c:cQ)(hc:c.Fit)(hm:c.info.may 11)(hs:kg c.info c.sects):(Tv rt c∧bq prog Cx [A_ rt,.agg c.av,A_ c.info.many]=some (B_ true))∨(¬Tv rt c∧bq prog Cx [A_ rt,.agg c.av,A_ c.info.many]=some (B_ false)):=by
 have hof:=BZ rt c.info.short;rw[aG agL ahK rfl];by_cases hl:c.lines.length=256
 .have h0:=afg rt hrt c hc hm hs hl 1 c.info.many 0 o_;have c0:((0:Nat):Int)=0:=rfl;rw[c0]at h0;have hq:(256:Int).tdiv c.info.many=c.info.wide:=by grind [aO.many,aO.wide]
  have hmm:1<=c.info.many∧c.info.many<=8∧c.info.wide<=256:=by grind [aO.many]
  by_cases hs2:c.info.seq=2
  .have hsh:c.info.short=true:=dT_ hs2;rw[hsh]at hof h0;rcases h0 with ⟨e1,H,e2⟩|⟨e1,e2⟩
   .refine .inl ⟨⟨hl,e1⟩,?_⟩;simp(disch:=omega)[↓ac,hof,hq,e2]
   .refine .inr ⟨λh=>e1 h.2,?_⟩;simp(disch:=omega)[↓ac,hof,hq,e2]
  .have hsh:c.info.short=false:=dF_ hs2;rw[hsh]at hof h0;rcases h0 with ⟨e1,H,e2⟩|⟨e1,e2⟩
   .refine .inl ⟨⟨hl,e1⟩,?_⟩;simp(disch:=omega)[↓ac,↓aa,hof,hq,e2]
   .refine .inr ⟨λh=>e1 h.2,?_⟩;simp(disch:=omega)[↓ac,↓aa,hof,hq,e2]
 .refine .inr ⟨λh=>hl h.1,?_⟩;simp(disch:=omega)[↓ac,↓aa]
abbrev au4:D_:=[.fn Fi [] [.ptr 1 0],.fn Ei [] [.ptr 1 0],.fn ET [] [.ptr 1 0],.fn Fh [] [.ptr 1 0,.ptr 2 0],.fn Fg [] [.ptr 0 0,.ptr 1 0,.ptr 2 0]]
abbrev zu (rt:Int)(c:cQ):am:=[(0,.cells [A_ rt]),(1,.cells c.av),(2,.cells [A_ c.info.many]),(3,.cells au4)]
def yi (rt:Int)(c:cQ)(N i:Nat)(hi:i<5)(F:AV)(hF:au4[i]?=some F)(hF2:firm (firm (firm (share F)))=F)(B:Bool)(hB:cA (Dn prog) F [] ⟨zu rt c,N⟩=some (B_ B,⟨zu rt c,N⟩)) :
  (Dn prog).code (.loop kR) ⟨[(28,.sl 3 0 5),(29,A_ 5),(30,A_ i)],⟨zu rt c,N⟩⟩ =
  if B=true then (Dn prog).code (.loop kR) ⟨[(28,.sl 3 0 5),(29,A_ 5),(30,A_ ((i+1:Nat):Int))],⟨zu rt c,N⟩⟩ else some (.ret,⟨[(4,A_ 8)],⟨zu rt c,N⟩⟩):=by
 have c1:((i+1:Nat):Int)=(i:Int)+1:=rfl;obtain⟨hlt,e⟩:=aJ.1 hF;rw[c1,ah Lc]
 cases B with
 |true =>
  simp(disch:=omega)[↓ac,↓aa,e,hF2,hB]
 |false =>
  simp(disch:=omega)[↓ac,↓aa,e,hF2,hB]
def axP (rt:Int)(c:cQ)(N:Nat):(Dn prog).call Fi [.ptr 1 0] ⟨zu rt c,N⟩=some (B_ (decide (0<=c.gain∧c.gain<=255)),⟨zu rt c,N⟩):=by
 rw[be abI ac4 rfl];by_cases h1:0<=c.gain
 .by_cases h2:c.gain<=255
  .rw[dT_ ⟨h1,h2⟩];simp(disch:=omega)[↓ac,↓aa]
  .rw[dF_ (λh=>h2 h.2)];simp(disch:=omega)[↓ac,↓aa]
 .rw[dF_ (λh=>h1 h.1)];simp(disch:=omega)[↓ac,↓aa]
def ayD (rt:Int)(c:cQ)(N:Nat)(B:Bool)(h:bq prog Cu [.agg c.av]=some (B_ B)):(Dn prog).call Ei [.ptr 1 0] ⟨zu rt c,N⟩=some (B_ B,⟨zu rt c,N⟩):=by
 rw[be acH abr rfl];simp(disch:=omega)[h]
def axU (rt:Int)(c:cQ)(N:Nat)(B:Bool)(h:bq prog It [.agg c.av]=some (B_ B)):(Dn prog).call ET [.ptr 1 0] ⟨zu rt c,N⟩=some (B_ B,⟨zu rt c,N⟩):=by
 rw[be aa8 abv rfl];simp(disch:=omega)[h]
def ay1 (rt:Int)(c:cQ)(N:Nat)(B:Bool)(h:bq prog E4 [.agg c.av,A_ c.info.many]=some (B_ B)):(Dn prog).call Fh [.ptr 1 0,.ptr 2 0] ⟨zu rt c,N⟩=some (B_ B,⟨zu rt c,N⟩):=by
 rw[be ac8 acg rfl];simp(disch:=omega)[h]
def alH (rt:Int)(c:cQ)(N:Nat)(B:Bool)(h:bq prog Cx [A_ rt,.agg c.av,A_ c.info.many]=some (B_ B)):(Dn prog).call Fg [.ptr 0 0,.ptr 1 0,.ptr 2 0] ⟨zu rt c,N⟩=some (B_ B,⟨zu rt c,N⟩):=by
 rw[be ac1 acP rfl];simp(disch:=omega)[h]
structure nG (r:Nat)(c:cQ):Prop where
 gain:0<=c.gain∧c.gain<=255
 info:c.info.may r
 sects:kg c.info c.sects
 steps:Bq c.gain c.sects c.steps
 tns:T2 c.info c.tns
 lines:Tv r c
def NF {f:FuncId}{caps:D_}{h:am}{N:Nat}:cA (Dn prog) (.fn f [] caps) [] ⟨h,N⟩=(Dn prog).call f caps ⟨h,N⟩:=s_
def Pu (rt:Int)(c:cQ)(hc:c.Fit):(ep rt∧nG rt.toNat c∧bq prog jL [A_ rt,.agg c.av]=some (A_ 0))∨
  (ep rt∧¬nG rt.toNat c∧bq prog jL [A_ rt,.agg c.av]=some (A_ 8))∨(¬ep rt∧bq prog jL [A_ rt,.agg c.av]=some (A_ 2)):=by
 have hi:=xL rt c.info hc.info;have hw:=oZ c.info hc.info;simp only[aO.cells]at hi hw;by_cases hr:ep rt
 .rw[ac hr]at hi;by_cases hm:c.info.may rt.toNat
  .rw[ac hm]at hi;have hm11:=gR o_ hm;rw[ac hm11]at hw;have hmm:c.info.many<=8:=by grind [aO.many]
   have cI:(rt.toNat:Int)=rt:=o_;have c0:((0:Nat):Int)=0:=rfl;have fin:∀(e:Int) (X:J_),(Dn prog).code (.loop kR) ⟨[(28,.sl 3 0 5),(29,A_ 5),(30,A_ ((0:Nat):Int))],⟨zu rt c,4⟩⟩=X->(X=some (.exit 0,⟨[],⟨zu rt c,4⟩⟩)∧e=0∨X=some (.ret,⟨[(4,A_ 8)],⟨zu rt c,4⟩⟩)∧e=8)->bq prog jL [A_ rt,.agg c.av]=some (A_ e):=by
    intro e X h hX;rw[c0]at h;simp only[zu,au4,cQ.av]at h hX;rw[aG IJ Iy rfl];rcases hX with ⟨rfl,rfl⟩|⟨rfl,rfl⟩
    .simp(disch:=omega)[↓ac,↓aa,hi,hw,Kh,h]
    .simp(disch:=omega)[↓ac,↓aa,hi,hw,Kh,h]
   have s1:=yi rt c 4 0 o_ _ rfl rfl _ (NF.trans (axP rt c 4));by_cases b1:0<=c.gain∧c.gain<=255
   .rw[ac (dT_ b1)]at s1;have s2:=yi rt c 4 (0+1) o_ _ rfl rfl _ (NF.trans (ayD rt c 4 _ (aeT c hc hm11)));rw[s2]at s1;by_cases b2:kg c.info c.sects
    .rw[ac (dT_ b2)]at s1;have s3:=yi rt c 4 (0+1+1) o_ _ rfl rfl _ (NF.trans (axU rt c 4 _ (aoq c hc hm11 b1 b2)));rw[s3]at s1;by_cases b3:Bq c.gain c.sects c.steps
     .rw[ac (dT_ b3)]at s1;have s4:=yi rt c 4 (0+1+1+1) o_ _ rfl rfl _ (NF.trans (ay1 rt c 4 _ (ain c hc c.info.many hmm)));rw[s4]at s1;by_cases b4:T2 c.info c.tns
      .rw[ac (dT_ b4)]at s1;have hL:=ang rt.toNat o_ c hc hm11 b2;rw[cI]at hL;rcases hL with ⟨b5,h5⟩|⟨b5,h5⟩
       .have s5:=yi rt c 4 (0+1+1+1+1) o_ _ rfl rfl _ (NF.trans (alH rt c 4 _ h5));rw[s5]at s1;have s6:(Dn prog).code (.loop kR) ⟨[(28,.sl 3 0 5),(29,A_ 5),(30,A_ ((0+1+1+1+1+1:Nat):Int))],⟨zu rt c,4⟩⟩=some (.exit 0,⟨[],⟨zu rt c,4⟩⟩):=by
         have c5:((0+1+1+1+1+1:Nat):Int)=5:=rfl;rw[c5,ah Lc];simp(disch:=omega)[↓aa]
        rw[s6]at s1;exact .inl ⟨hr,⟨b1,hm,b2,b3,b4,b5⟩,fin 0 _ s1 (.inl ⟨rfl,rfl⟩)⟩
       .have s5:=yi rt c 4 (0+1+1+1+1) o_ _ rfl rfl _ (NF.trans (alH rt c 4 _ h5))
        grind [nG.lines]
      grind [nG.tns]
     grind [nG.steps]
    grind [nG.sects]
   grind [nG.gain]
  .refine .inr (.inl ⟨hr,λh=>hm h.info,?_⟩);rw[aG IJ Iy rfl];simp(disch:=omega)[↓ac,↓aa,hi]
 .refine .inr (.inr ⟨hr,?_⟩);rw[aG IJ Iy rfl];simp(disch:=omega)[↓ac,↓aa,hi]
def aFZ {n:Int}{k P:Nat}(hP:2 ^ k=P)(hk:k<=62):fe .and (A_ n) (A_ ((P:Int)-1))=some (.int .i64 (n % P)):=by
 have h1:2 ^ k<=2 ^ 62:=aw o_ hk;have h2:=bN k;have hd:(P:Int) ∣ 18446744073709551616:=by
  subst hP;have:(2:Nat) ^ k ∣ 2 ^ 64:=Nat.pow_dvd_pow 2 o_;have:=Int.natCast_dvd_natCast.2 this;simpa using this
 have e0:0<=n % 18446744073709551616:=Int.emod_nonneg _ o_;have e1:n % 18446744073709551616 % P=n % P:=Int.emod_emod_of_dvd n hd;refine sK ?_;rw[lU s_ s_];have c:(P:Int)-1=((P-1:Nat):Int):=o_;rw[c];simp only[jR,Ge,BitVec.toNat_and,Fn (show P-1<jM .i64 by simp[jM,IntKind.signed];omega)];have e2:((2 ^ IntKind.i64.bits:Nat):Int)=18446744073709551616:=rfl;rw[BitVec.toNat_ofInt,e2];subst hP;rw[nN];have h3:(n % 18446744073709551616).toNat % 2 ^ k<2 ^ k:=dl _ h2;rw[afR (by simp[jM,IntKind.signed];omega),Int.natCast_emod];have e3:(((n % 18446744073709551616).toNat:Nat):Int)=n % 18446744073709551616:=o_;rw[e3,e1]
def aec {hp:AV->am}{p N:Nat}(H:Hv hp p){b:C_}(hb:b.length<=900000000)(n:Int)(s:Nat)(hs:s<=31)(hn:i64 n)(sI:Int)(es:sI=s) :
  (Dn prog).call qy [A_ n,A_ sI,.ptr p 0] ⟨hp (.own false 1 (ai b)),N⟩=some (.tup [],⟨hp (.own false 1 (ai (b++au (n % ((2 ^ s:Nat):Int)).toNat s))),N⟩):=by
 subst es;have h31:2 ^ s<=2 ^ 31:=aw o_ hs;have h2:=bN s;have q1:=UD (m:=s) o_;have q2:=aFZ (n:=n) (k:=s) rfl o_;have e0:0<=n % ((2 ^ s:Nat):Int):=Int.emod_nonneg _ o_;have e1:n % ((2 ^ s:Nat):Int)<((2 ^ s:Nat):Int):=Int.emod_lt_of_pos _ o_;have h1:=lW b (n % ((2 ^ s:Nat):Int)) s hb o_ _ (.inl rfl);rw[ac (by simp only[om,ar];omega)]at h1;simp only[ar]at h1;generalize n % ((2 ^ s:Nat):Int)=Q at *;generalize 2 ^ s=P at *;rw[be YU Z1 rfl];simp(maxSteps:=9^6)(disch:=omega)[H.get,H.put,-sY,q1,q2,h1]
def gj (f:ct):Bool:=decide (∀c∈f.coefs,-(dS f.fine / 2)<=c∧c<dS f.fine / 2)
def fW (fine:Bool):Nat:=if fine then 4 else 3
def eu (b:Bool):Nat:=if b then 1 else 0
def uI (f:ct):Nat:=fW f.fine-eu (gj f)
def qQ (w:Nat)(l:G_):C_:=l.flatMap λc=>au (c % ((2 ^ w:Nat):Int)).toNat w
def bX (sh:Bool):Nat:=if sh then 4 else 6
def bT (sh:Bool):Nat:=if sh then 3 else 5
def fq (sh:Bool):Nat:=if sh then 1 else 2
def sR (sh:Bool)(f:ct):C_:=au f.len.toNat (bX sh)++(au f.order.toNat (bT sh)++if f.order=0 then [] else au (eu f.down) 1++(au (eu (gj f)) 1++qQ (uI f) f.coefs))
def zj (sh:Bool)(l:AA_):C_:=au l.length (fq sh)++match l with
 |[]=>[]
 |f0::_=>au (eu f0.fine) 1++l.flatMap (sR sh)
def jJ (sh:Bool)(t:O_):C_:=t.flatMap (zj sh)
abbrev Vg (sh:Bool)(v:AV):am:=[(0,.cells [v]),(2,.cells (mL sh))]
abbrev XY (full:O_)(i:Int)(r:aZ):aZ:=(3,.ptr 0 0)::(9,.fn qy [] [.ptr 0 0])::(10,.ptr 2 0)::(30,.d (.lst (dk full)))::(31,A_ full.length)::(32,A_ i)::r
def auf (sh:Bool):Hv (Vg sh) 0:=⟨λv=>by simp,λv w=>by simp⟩
theorem YW {w:Nat}:∀{l:G_},(qQ w l).length=w*l.length
 |[]=>by simp[qQ]
 |c::r=>by
  have:=YW (w:=w) (l:=r);rw[qQ]at this⊢;rw[aC,aj,cM,aq,this,Nat.mul_add];omega
def aAt (sh:Bool)(full:O_)(i:Int)(l:AA_)(k:Int)(nw:Bool)(w:Nat)(hw:1<=w-eu nw∧w<=4)(cs:G_)(hcs:cs.length<=100)(hcI:∀c∈cs,i64 c)(N:Nat):∀(r:G_) (j:Nat) (b:C_),cs.drop j=r->b.length+4*r.length<=900000000->
  (Dn prog).code (.loop uD) ⟨(3,.ptr 0 0)::(9,.fn qy [] [.ptr 0 0])::(10,.ptr 2 0)::(15,A_ w)::(16,B_ nw)::(30,.d (.lst (dk full)))::(31,A_ full.length)::(32,A_ i)::[(52,.d (.lst (fh l))),(53,A_ l.length),(54,A_ k),(91,.d (.lst (aI cs))),(92,A_ cs.length),(93,A_ j)],⟨Vg sh (.own false 1 (ai b)),N⟩⟩ =
  some (.exit 4,⟨XY full i [(52,.d (.lst (fh l))),(53,A_ l.length),(54,A_ k)],⟨Vg sh (.own false 1 (ai (b++qQ (w-eu nw) r))),N⟩⟩):=by
 intro r
 induction r with
 |nil =>
  intro j b hd hb;have hi:=bv hd;rw[ah IK];simp(maxSteps:=9^6)(disch:=omega)[↓aa,qQ]
 |cons c r ih =>
  intro j b hd hb;simp only[aq]at hb;have hg:=BA hd;have hlt:=bV hd;have hcc:=hcI c (by rw[<-aX j cs,hd];simp);have hbit:=Fw nw;have hbI:((eu nw:Nat):Int)=if nw=true then 1 else 0:=by cases nw<;>rfl
  rw[<-hbI]at hbit;have hbb:eu nw<=1:=by cases nw<;>decide
  have hp:=aec (auf sh) (N:=N) (b:=b) o_ c (w-eu nw) o_ hcc ((w:Int)-eu nw) o_;have h5:=ih (j+1) (b++au (c % ((2 ^ (w-eu nw):Nat):Int)).toNat (w-eu nw)) (bK hd) g_;have c1:((j+1:Nat):Int)=(j:Int)+1:=rfl;have ea:b++qQ (w-eu nw) (c::r)=b++au (c % ((2 ^ (w-eu nw):Nat):Int)).toNat (w-eu nw)++qQ (w-eu nw) r:=by rw[qQ,aC,ax];rfl
  rw[c1]at h5;rw[ea,<-h5,ah IK];simp(maxSteps:=9^6)(disch:=omega)[↓ac,hg,hbit,hp]
abbrev j9:=@Int.emod_eq_of_lt
@[simp] def aHo {sh:Bool}:(mL sh)[0]?=some (A_ (fq sh:Int)):=by cases sh<;>rfl
@[simp] def aH3 {sh:Bool}:(mL sh)[1]?=some (A_ (bX sh:Int)):=by cases sh<;>rfl
@[simp] def aHX {sh:Bool}:(mL sh)[2]?=some (A_ (bT sh:Int)):=by cases sh<;>rfl
@[simp] def aCn {sh:Bool}:(mL sh).map mW=mL sh:=by cases sh<;>rfl
def Bi {hp:AV->am}{p N:Nat}(H:Hv hp p){b:C_}(hb:b.length<=900000000)(n:Int)(s:Nat)(hs:s<=31)(h0:0<=n)(h1:n.toNat<2 ^ s)(m:Nat)(hm:m=n.toNat)(sI:Int)(es:sI=s) :
  (Dn prog).call qy [A_ n,A_ sI,.ptr p 0] ⟨hp (.own false 1 (ai b)),N⟩=some (.tup [],⟨hp (.own false 1 (ai (b++au m s))),N⟩):=by
 have h31:2 ^ s<=2 ^ 31:=aw o_ hs;have h:=aec H (N:=N) hb n s hs o_ sI es
 simp_all [j9]
abbrev aAg (sh:Bool)(N:Nat)(f:ct)(v:AV):am:=[(0,.cells [v]),(2,.cells (mL sh)),(N,.cells f.av)]
def af6 (sh:Bool)(N:Nat)(hN:3<=N)(f:ct):Hv (aAg sh N f) 0:=⟨λv=>by simp,λv w=>by simp⟩
def VZ (f:ct):1<=uI f∧fW f.fine<=4∧3<=fW f.fine∧eu (gj f)<=1:=by
 grind [uI,fW,eu]
theorem aAD (sh:Bool)(full:O_)(i:Int)(l:AA_)(hl:l.length<=100)(k N:Nat)(hN:3<=N)(f:ct)(r:AA_)(hd:l.drop k=f::r)(hf:Cl sh f)(hcI:∀c∈f.coefs,i64 c)(b:C_)(hb:b.length<=800000000) :
  (Dn prog).code pt ⟨XY full i [(52,.d (.lst (fh l))),(53,A_ l.length),(54,A_ k)],⟨Vg sh (.own false 1 (ai b)),N⟩⟩ =
  some (.normal,⟨XY full i [(52,.d (.lst (fh l))),(53,A_ l.length),(54,A_ ((k+1:Nat):Int))],⟨Vg sh (.own false 1 (ai (b++sR sh f))),N+1⟩⟩):=by
 have hg:=D6 hd;have hlt:=bV hd;obtain⟨⟨l1,l2⟩,⟨o1,o2⟩,c1,d1,c2⟩:=hf;have hlw:AW sh<2 ^ bX sh∧bX sh<=6∧xo sh<2 ^ bT sh∧bT sh<=5∧xo sh<=12:=by cases sh<;>decide
 obtain⟨w1,w2,w3,w4,w5⟩:=hlw;have wN1:((2 ^ bX sh:Nat):Int)=2 ^ bX sh:=s_;have wN2:((2 ^ bT sh:Nat):Int)=2 ^ bT sh:=s_;have p1:=Bi (af6 sh N hN f) (N:=N+1) (b:=b) o_ f.len (bX sh) o_ l1 o_ f.len.toNat rfl (bX sh) rfl;have p2:=Bi (af6 sh N hN f) (N:=N+1) (b:=b++au f.len.toNat (bX sh)) g_ f.order (bT sh) o_ o1 o_ f.order.toNat rfl (bT sh) rfl;have n0:N≠0∧N≠1∧N≠2:=o_;obtain⟨n0,n1,n2⟩:=n0;have c9:((k+1:Nat):Int)=(k:Int)+1:=rfl;rw[c9,JZ];by_cases h0:f.order=0
 .have e:b++sR sh f=b++au f.len.toNat (bX sh)++au f.order.toNat (bT sh):=by grind [sR]
  rw[e];generalize b++au f.len.toNat (bX sh)++au f.order.toNat (bT sh)=B2 at *;generalize b++au f.len.toNat (bX sh)=B1 at *;simp only[aAg,ct.av]at p1 p2;simp(disch:=omega)[↓ac,↓aa,hg,p1,p2]
 .have hw:=Jm f.fine;obtain⟨q1,q2,q3,q4⟩:=VZ f;have hcl:f.coefs.length<=100:=o_;have hft:=LM f.coefs o_ (fW f.fine-1) o_;have hh:((2 ^ (fW f.fine-1-1):Nat):Int)=dS f.fine / 2:=by unfold fW dS;grind
  have hwI:(if f.fine=true then (4:Int) else 3)=(fW f.fine:Int):=by grind [fW]
  have hwS:((fW f.fine-1:Nat):Int)=(fW f.fine:Int)-1:=o_;have hnr:decide (∀c∈f.coefs,-(dS f.fine / 2)<=c∧c<dS f.fine / 2)=gj f:=rfl;rw[hh,hnr,hwS]at hft;rw[hwI]at hw;have hb1:=Fw f.down;have hb2:=Fw (gj f);have e1:(if f.down=true then (1:Int) else 0)=(eu f.down:Int):=by cases f.down<;>rfl
  have e2:(if gj f=true then (1:Int) else 0)=(eu (gj f):Int):=by cases gj f<;>rfl
  rw[e1]at hb1;rw[e2]at hb2;have hbd:eu f.down<=1:=o_;have p3:=Bi (af6 sh N hN f) (N:=N+1) (b:=b++au f.len.toNat (bX sh)++au f.order.toNat (bT sh)) g_ (eu f.down) 1 o_ o_ o_ (eu f.down) s_ 1 rfl;have p4:=Bi (af6 sh N hN f) (N:=N+1) (b:=b++au f.len.toNat (bX sh)++au f.order.toNat (bT sh)++au (eu f.down) 1) g_ (eu (gj f)) 1 o_ o_ o_ (eu (gj f)) s_ 1 rfl;have p5:=aAt sh full i l k (gj f) (fW f.fine) o_ f.coefs hcl hcI (N+1) f.coefs 0 (b++au f.len.toNat (bX sh)++au f.order.toNat (bT sh)++au (eu f.down) 1++au (eu (gj f)) 1) rfl g_;have c0:((0:Nat):Int)=0:=rfl;have hlc:=iR (l:=f.coefs);have e:b++sR sh f=b++au f.len.toNat (bX sh)++au f.order.toNat (bT sh)++au (eu f.down) 1++au (eu (gj f)) 1++qQ (fW f.fine-eu (gj f)) f.coefs:=by
   rw[sR,aa h0];simp only[ax];rfl
  rw[c0]at p5;rw[e];generalize b++au f.len.toNat (bX sh)++au f.order.toNat (bT sh)++au (eu f.down) 1++au (eu (gj f)) 1=B4 at *;generalize b++au f.len.toNat (bX sh)++au f.order.toNat (bT sh)=B2 at *;simp(disch:=omega)[↓ac,↓aa,hg,p1,p2,p3,p4,p5,hw,hft,hb1,hb2,hlc]
theorem ajr {sh:Bool}{f:ct}(hf:Cl sh f):(sR sh f).length<=100:=by
 obtain⟨⟨l1,l2⟩,⟨o1,o2⟩,c1,d1,c2⟩:=hf;have hlw:bX sh<=6∧bT sh<=5∧xo sh<=12:=by cases sh<;>decide
 obtain⟨q1,q2,q3,q4⟩:=VZ f;have hcw:uI f<=4:=by unfold uI;omega
 have h1:uI f*f.coefs.length<=4*f.coefs.length:=cq _ hcw
 grind [sR,cM,YW]
def ar5 (sh:Bool)(full:O_)(i:Int)(l:AA_)(hl:l.length<=100):∀(r:AA_) (k N:Nat) (b:C_),l.drop k=r->3<=N->(∀f∈r,Cl sh f∧∀c∈f.coefs,i64 c)->b.length+100*r.length<=800000000->
  ∃M,3<=M∧(Dn prog).code (.loop pt) ⟨XY full i [(52,.d (.lst (fh l))),(53,A_ l.length),(54,A_ k)],⟨Vg sh (.own false 1 (ai b)),N⟩⟩ =
  some (.exit 2,⟨XY full i [],⟨Vg sh (.own false 1 (ai (b++r.flatMap (sR sh)))),M⟩⟩):=by
 intro r
 induction r with
 |nil =>
  intro k N b hd hN hr hb;have hi:=bv hd;refine⟨N,hN,?_⟩;rw[ah JZ,fb,bh];simp(disch:=omega)[↓aa]
 |cons f r ih =>
  intro k N b hd hN hr hb;obtain⟨h1,h2⟩:=hr f (.head _);have h3:=ajr h1;obtain⟨M,hM,e⟩:=ih (k+1) (N+1) (b++sR sh f) (bK hd) o_ (λq hq=>hr q (.tail _ hq)) (by grind)
  grind [ah,aAD,NB]
def abR {sh:Bool}{l:AA_}(h:tY sh l):(zj sh l).length<=1000:=by
 have hm:qP sh<=3∧fq sh<=2:=by cases sh<;>decide
 have h1:=h.1;unfold zj;rw[aj,cM]
 cases l with
 |nil=>grind
 |cons f0 r =>
  have h2:=h.2 f0 s_;have:∀q:AA_,(∀f∈q,Cl sh f)->(q.flatMap (sR sh)).length<=100*q.length:=by
   intro q
   induction q<;>grind [ajr]
  grind [cM]
def azD (i:aO)(full:O_)(hl:full.length<=1000):∀(r:O_) (j N:Nat) (b:C_),full.drop j=r->3<=N->(∀l∈r,tY i.short l∧∀f∈l,∀c∈f.coefs,i64 c)->b.length+1000*r.length<=700000000->
  ∃M,(Dn prog).code (.loop uF) ⟨XY full j [],⟨Vg i.short (.own false 1 (ai b)),N⟩⟩ =
  some (.exit 0,⟨[(3,.ptr 0 0)],⟨[(0,.cells [.own false 1 (ai (b++jJ i.short r))])],M⟩⟩):=by
 intro r
 induction r with
 |nil =>
  intro j N b hd hN hr hb;have hi:=bv hd;refine⟨N,?_⟩;rw[ah AX,jJ,fb,bh];simp(disch:=omega)[↓aa]
 |cons l r ih =>
  intro j N b hd hN hr hb;simp only[aq]at hb;have hg:=Bt hd;have hlt:=bV hd;obtain⟨h1,h2⟩:=hr l (.head _);have hwl:=abR h1;have hm:qP i.short<=3∧fq i.short<=2∧qP i.short<2 ^ fq i.short:=by cases i.short<;>decide
  obtain⟨m1,m2,m3⟩:=hm;have hll:=h1.1;have p1:=Bi (auf i.short) (N:=N) (b:=b) o_ l.length (fq i.short) o_ o_ o_ l.length s_ (fq i.short) rfl;have c1:((j+1:Nat):Int)=(j:Int)+1:=rfl;have c0:((0:Nat):Int)=0:=rfl
  cases l with
  |nil =>
   have eb:zj i.short []=au 0 (fq i.short):=by simp[zj]
   obtain⟨M2,hM2,p2⟩:=ar5 i.short full j [] s_ [] 0 N (b++zj i.short []) rfl hN s_ d_;obtain⟨M,e⟩:=ih (j+1) M2 (b++zj i.short []) (bK hd) hM2 (λq hq=>hr q (.tail _ hq)) d_;refine⟨M,?_⟩;have ea:b++jJ i.short ([]::r)=b++zj i.short []++jJ i.short r:=by grind [jJ]
   rw[eb]at ea e p2;simp only[bt,fb,bh]at p1 p2;rw[c1]at e;rw[c0]at p1 p2;have n0:fh []=[]:=rfl;rw[n0]at hg p2;rw[ea];generalize b++au 0 (fq i.short)++jJ i.short r=BB at *;generalize b++au 0 (fq i.short)=B1 at *;simp only[Vg]at p1 p2 e⊢;rw[<-e,ah AX];simp(disch:=omega)[↓ac,↓aa,hg,p1,p2]
  |cons f0 r0 =>
   have hgf:=D6 (l:=f0::r0) (i:=0) (s:=f0) (r:=r0) rfl;have hb1:=Fw f0.fine;have e1:(if f0.fine=true then (1:Int) else 0)=(eu f0.fine:Int):=by cases f0.fine<;>rfl
   rw[e1]at hb1;have hbd:eu f0.fine<=1:=o_;have hok:∀f∈f0::r0,Cl i.short f∧∀c∈f.coefs,i64 c:=λf hf=>⟨(h1.2 f0 s_ f hf).1,h2 f hf⟩
   have p2:=Bi (auf i.short) (N:=N) (b:=b++au (f0::r0).length (fq i.short)) g_ (eu f0.fine) 1 o_ o_ o_ (eu f0.fine) s_ 1 rfl;obtain⟨M2,hM2,p3⟩:=ar5 i.short full j (f0::r0) o_ (f0::r0) 0 N (b++au (f0::r0).length (fq i.short)++au (eu f0.fine) 1) rfl hN hok (by grind [cM]);have eb:b++au (f0::r0).length (fq i.short)++au (eu f0.fine) 1++(f0::r0).flatMap (sR i.short)=b++zj i.short (f0::r0):=by grind [zj]
   obtain⟨M,e⟩:=ih (j+1) M2 (b++zj i.short (f0::r0)) (bK hd) hM2 (λq hq=>hr q (.tail _ hq)) d_;refine⟨M,?_⟩;have ea:b++jJ i.short ((f0::r0)::r)=b++zj i.short (f0::r0)++jJ i.short r:=by grind [jJ]
   have hll2:1<=(f0::r0).length:=s_;rw[eb]at p3;rw[c1]at e;rw[c0]at p3;rw[ea];generalize b++au (f0::r0).length (fq i.short)++au (eu f0.fine) 1=B2 at *;generalize hLL:(f0::r0).length=LL at *;have hfl:(fh (f0::r0)).length=LL:=u_;obtain⟨hgl,hge⟩:=aJ.1 hgf;rw[<-e,ah AX];simp(disch:=omega)[↓ac,↓aa,hg,hge,hfl,hb1,p1,p2,p3]
def aki (i:aO)(f0:ct)(l:AA_)(f:ct)(hf:Cl i.short f∧f.fine=f0.fine)(H:am)(p q M:Nat)(hp:get H p=some (.cells i.cells))(hq:get H q=some (.cells [.d (.lst (fh (f0::l)))]))(hl:(f0::l).length<=1000000)(hM:Lt H M) :
  (Dn prog).call nY [.agg f.av,.ptr p 0,.ptr q 0] ⟨H,M⟩=some (B_ false,⟨H,M+1⟩):=by
 have e1:=λo=>vI (o:=o) hM
 have e2:=λo=>yD (o:=o) hM
 have e3:=λo=>A9 (N:=M) (o:=o) hp
 have e4:=λo=>A9 (N:=M) (o:=o) hq
 have e5:=λo=>M5 (o:=o) hM
 have e6:=afD i f hf.1;have hfn:=hf.2;have hg:=D6 (l:=f0::l) (i:=0) (s:=f0) (r:=l) rfl;rw[be UV UJ rfl];simp only[ct.av,aO.cells]at e3 e6⊢
 cases hf2:f0.fine<;>rw[hf2]at hg hfn<;>rw[hfn]at e6⊢<;>
  simp(disch:=omega)[e1,e2,e3,e4,e5,e6,hg]
def ag2 (i:aO)(full:O_)(hl:full.length<=1000):∀(r:O_) (j N:Nat) (H:am),full.drop j=r->get H 0=some (.cells i.cells)->Lt H N->1<=N->(∀l∈r,tY i.short l)->
  ∃H2 M,(Dn prog).code (.loop qG) ⟨[(2,.ptr 0 0),(21,.d (.lst (dk full))),(22,A_ full.length),(23,A_ j)],⟨H,N⟩⟩=some (.exit 0,⟨[],⟨H2,M⟩⟩):=by
 intro r
 induction r with
 |nil =>
  intro j N H hd hH hL hN hr;have hi:=bv hd;refine⟨H,N,?_⟩;rw[ah FT];simp(disch:=omega)[↓aa]
 |cons l r ih =>
  intro j N H hd hH hL hN hr;have hg:=Bt hd;have hlt:=bV hd;have hW:=hr l (.head _);have hm:qP i.short<=3:=by cases i.short<;>decide
  have hll:=hW.1;have e1:=λo=>vI (o:=o) hL
  have e2:=λo=>yD (o:=o) hL
  have e3:=λo=>A9 (N:=N) (o:=o) hH
  have e4:=λo o'=>Ik (o:=o) (o':=o') hL
  have hsz:=Aq i;have hix:ixV 5 1 false (.agg (mL i.short)) (A_ 3)=some (A_ (qP i.short:Int)):=by cases i.short<;>rfl
  have hcf:∃M,N+1<=M∧(Dn prog).call fT [.d (.lst (fh l)),.fn nY [] [.ptr 0 0,.ptr N 0]] ⟨H++[(N,.cells [.d (.lst (fh l))])],N+1⟩=some (B_ false,⟨H++[(N,.cells [.d (.lst (fh l))])],M⟩):=by
   have h:=Fl (.fn nY [] [.ptr 0 0,.ptr N 0]) (λ_=>false) l o_ (H++[(N,.cells [.d (.lst (fh l))])]) (N+1) rfl rfl λf hf M hM=>by
    cases l with
    |nil=>simp at hf
    |cons f0 r0 =>
     have:=aki i f0 r0 f (hW.2 f0 s_ f hf) (H++[(N,.cells [.d (.lst (fh (f0::r0)))])]) 0 N M (e3 _) (e2 _) o_ (KK (MR hL) hM)
     simp_all
   grind
  obtain⟨M,hM,e5⟩:=hcf;obtain⟨H2,M2,f2⟩:=ih (j+1) M (H++[(N,.cells [.d (.lst (fh l))])]) (bK hd) (e3 _) (KK (MR hL) hM) o_ (λq hq=>hr q (.tail _ hq));refine⟨H2,M2,?_⟩;simp only[aO.cells]at e3 hsz;rw[ah FT,<-f2];simp(disch:=omega)[↓ac,↓aa,hg,e1,e2,e3,e4,e5,hsz,hix]
def afp (i:aO)(hi:i.Fit)(hm:i.may 11)(t:O_)(ht:T2 i t):bq prog Kw [.agg i.cells,.d (.lst (dk t))]=some (A_ 0):=by
 have hw:=oZ i hi;have hmm:i.many<=8:=by grind [aO.many]
 obtain⟨H2,M,e⟩:=ag2 i t o_ t 0 1 [(0,.cells i.cells)] rfl s_ (λp hp=>by simp_all) o_ ht.2;have c0:((0:Nat):Int)=0:=rfl;rw[c0]at e;simp only[aO.cells]at hw e;rw[aG aaP Zo rfl];simp(disch:=omega)[↓ac,hw,e]
def aj0 (b:C_)(hb:b.length<=600000000)(x:AV)(hx:x=.d (.lst (ai b))∨x=.nl∧b=[])(i:aO)(hi:i.Fit)(hm:i.may 11)(t:O_)(ht:T2 i t)(htI:∀l∈t,∀f∈l,∀c∈f.coefs,i64 c):bq prog GA [x,.agg i.cells,.d (.lst (dk t))] =
  some (.tup [.own true 1 (ai (b++jJ i.short t)),A_ 0]):=by
 have hc:=afp i hi hm t ht;have hmm:i.many<=8:=by grind [aO.many]
 obtain⟨M,e⟩:=azD i t o_ t 0 3 b rfl o_ (λl hl=>⟨ht.2 l hl,htI l hl⟩) o_;have hcl:bq prog oj [x]=some (.own true 1 (ai b)):=by
  refine NN x b o_ ?_;rcases hx with rfl|⟨rfl,rfl⟩<;>rfl
 have hsz:=Aq i;have hl5:(mL i.short).length=5:=by cases i.short<;>rfl
 have hall:(mL i.short).all bl=true:=by cases i.short<;>rfl
 have hfm:(mL i.short).map mW=mL i.short:=u_;have c0:((0:Nat):Int)=0:=rfl;rw[c0]at e;simp only[aO.cells,Vg,XY]at hc e hsz;rw[aG afr afs rfl];rcases hx with rfl|⟨rfl,rfl⟩
 .simp(disch:=omega)[↓ac,↓aa,hc,hcl,hsz,hl5,hall,hfm,e]
 .simp(disch:=omega)[↓ac,↓aa,hc,hcl,hsz,hl5,hall,hfm,e]
def awH (id:Nat):bq prog Tj [A_ id]=some (A_ (bI id)):=by
 rw[aG aqp ark rfl];unfold bI;by_cases h:id<5
 .simp(disch:=omega)[↓ac]
 .simp(disch:=omega)[↓aa]
def sX (d hi:Nat):Nat->Nat->C_
 |0,_=>[]
 |f+1,x=>if x<hi then x::sX d hi f (x+d) else []
def rl (os:C_)(d b:Nat):Nat->Nat->C_
 |0,_=>[]
 |k+1,w=>(sX d (nth os (b+1)) 300 (nth os b)).map (λx=>w*32+x)++rl os d b k (w+1)
def zq (os:C_)(d n first:Nat):Nat->Nat->C_
 |0,_=>[]
 |k+1,b=>rl os d b n first++zq os d n first k (b+1)
def Bf (os:C_)(n first:Nat):Q_->Nat->R_
 |[],_=>[]
 |s::r,b=>(if s.book=0∨s.book=13 then [] else (zq os (bI s.book.toNat) n first s.len.toNat b).map λx=>(s.book.toNat,x))++Bf os n first r (b+s.len.toNat)
def qq (os:C_):H_->G_->Nat->R_
 |l::r,n::g,first=>Bf os n.toNat first l 0++qq os r g (first+n.toNat)
 |_,_,_=>[]
def lJ {σ τ:Type}(st:Nat×Nat->σ->Sum σ τ):R_->σ->Sum σ τ
 |[],s=>.inl s
 |p::r,s=>match st p s with
  |.inl s=>lJ st r s
  |.inr z=>.inr z
def FX {σ τ:Type}{st:Nat×Nat->σ->Sum σ τ}:∀{l r:R_}{s:σ},lJ st (l++r) s=match lJ st l s with
  |.inl s=>lJ st r s
  |.inr z=>.inr z
 |[],r,s=>rfl
 |p::l,r,s=>by
  rw[aS,lJ,lJ]
  cases st p s with
  |inl s=>simp only[FX]
  |inr z=>rfl
def Ro {σ τ:Type}(hp:σ->am->am)(hq:τ->am->am)(L l:Nat)(st:Nat×Nat->σ->Sum σ τ)(dE:R_->σ->Prop):Prop :=
 ∀p r s K o N,dE (p::r) s->L<=K->K<N->
  (∃s2 M,N<=M∧st p s=.inl s2∧dE r s2∧cA (Dn prog) (.yield l) [.agg [A_ (p.1:Int),A_ (p.2:Int),A_ ((p.2+bI p.1:Nat):Int)]] ⟨hp s [(K,o)],N⟩=some (B_ true,⟨hp s2 [(K,o)],M⟩))∨
  (∃z M,N<=M∧st p s=.inr z∧cA (Dn prog) (.yield l) [.agg [A_ (p.1:Int),A_ (p.2:Int),A_ ((p.2+bI p.1:Nat):Int)]] ⟨hp s [(K,o)],N⟩=some (B_ false,⟨hq z [(K,o)],M⟩))
structure PlS where
 l:Nat
 p2:Nat
 p3:Nat
 full:H_
 os:C_
abbrev eP (P:PlS)(first g b:Int)(r:aZ):aZ:=(0,.yield P.l)::(2,.ptr P.p2 0)::(3,.ptr P.p3 0)::(5,A_ first)::(6,A_ g)::(8,A_ b)::r
abbrev Kn (P:PlS)(g:Int)(r:aZ):aZ:=(14,.d (.lst (bO P.full)))::(15,A_ P.full.length)::(16,A_ g)::r
abbrev R4 (ls:Q_)(k:Int):aZ:=[(21,.d (.lst (io ls))),(22,A_ ls.length),(23,A_ k)]
section
variable {σ τ:Type}{hp:σ->am->am}{hq:τ->am->am}{L:Nat}{P:PlS}{st:Nat×Nat->σ->Sum σ τ}{dE:R_->σ->Prop}
def aDu (H:Tl hp L)(H2:Tl hq L)(hY:Ro hp hq L P.l st dE)(hg3:∀s T,get (hp s T) P.p3=some (.cells [.own false 1 (cY P.os)]))(s0:ba)(bk:Nat)(hbk:s0.book=bk)(hb1:1<=bk∧bk<=11)(b:Nat)(hb:b+1<P.os.length)(ho:P.os.length<=100)(hhi:nth P.os (b+1)<=256)(first g en gi k:Int)(w:Nat)(hw:w<=8)(ls:Q_)(K:Nat)(hK:L<=K)(rest:R_):∀(f x N:Nat) (s:σ),nth P.os (b+1)<=x+f->x<=300->K<N->dE ((sX (bI bk) (nth P.os (b+1)) f x).map (λy=>(bk,w*32+y))++rest) s->
  (∃s2 M,N<=M∧lJ st ((sX (bI bk) (nth P.os (b+1)) f x).map (λy=>(bk,w*32+y))) s=.inl s2∧dE rest s2∧
   (Dn prog).code (.loop nV) ⟨eP P first g b ((10,.ptr K 0)::(11,A_ en)::(12,A_ w)::(13,A_ x)::Kn P gi (R4 ls k)),⟨hp s [(K,.cells [A_ s0.book,A_ s0.len])],N⟩⟩ =
   some (.exit 8,⟨eP P first g b ((10,.ptr K 0)::(11,A_ en)::(12,A_ w)::Kn P gi (R4 ls k)),⟨hp s2 [(K,.cells [A_ s0.book,A_ s0.len])],M⟩⟩))∨
  (∃z M,N<=M∧lJ st ((sX (bI bk) (nth P.os (b+1)) f x).map (λy=>(bk,w*32+y))) s=.inr z∧
   (Dn prog).code (.loop nV) ⟨eP P first g b ((10,.ptr K 0)::(11,A_ en)::(12,A_ w)::(13,A_ x)::Kn P gi (R4 ls k)),⟨hp s [(K,.cells [A_ s0.book,A_ s0.len])],N⟩⟩ =
   some (.ret,⟨[],⟨hq z [],M⟩⟩)):=by
 have hG:=λs o=>H.get s K o hK
 have hD2:=λs o=>H2.del s K o hK
 have hd4:bI bk<=4∧2<=bI bk:=by grind [bI]
 have hdim:=awH bk;have hgo:(cY P.os)[b+1]?=some [.int .i64 (nth P.os (b+1):Nat)]:=DT hb;have hne:cY P.os≠[]:=d_;intro f
 induction f with
 |zero =>
  intro x N s h1 h2 hKN hi;refine .inl ⟨s,N,ak _,rfl,hi,?_⟩;rw[ah nJ];simp(disch:=omega)[↓aa,hg3,hgo]
 |succ f ih =>
  intro x N s h1 h2 hKN hi;by_cases hx:x<nth P.os (b+1)
  .rw[sX,ac hx,bL,aS]at hi;rw[sX,ac hx,bL,lJ];have c1:((x+bI bk:Nat):Int)=(x:Int)+bI bk:=rfl;have c2:((w*32+x:Nat):Int)=(w:Int)*32+x:=o_;have c3:((w*32+x+bI bk:Nat):Int)=(w:Int)*32+x+bI bk:=o_;rcases hY (bk,w*32+x) _ s K (.cells [A_ s0.book,A_ s0.len]) N hi hK hKN with ⟨s2,M,hM,e1,e2,e3⟩|⟨z,M,hM,e1,e3⟩
   .rw[e1];simp only[c2,c3]at e3;have h9:=ih (x+bI bk) M s2 o_ o_ o_ e2;rw[c1]at h9;rw[hbk]at h9 e3⊢;rcases h9 with ⟨s3,M2,hM2,f1,f2,f3⟩|⟨z,M2,hM2,f1,f3⟩
    .refine .inl ⟨s3,M2,o_,f1,f2,?_⟩;rw[<-f3,ah nJ];simp(disch:=omega)[↓ac,hg3,hgo,hG,hdim,-mz,e3]
    .refine .inr ⟨z,M2,o_,f1,?_⟩;rw[<-f3,ah nJ];simp(disch:=omega)[↓ac,hg3,hgo,hG,hdim,-mz,e3]
   .rw[e1];simp only[c2,c3]at e3;rw[hbk]at e3⊢;refine .inr ⟨z,M,hM,rfl,?_⟩;rw[ah nJ];simp(disch:=omega)[↓ac,hg3,hgo,hG,hdim,-mz,e3,hD2]
  .rw[sX,aa hx]at hi;rw[sX,aa hx];refine .inl ⟨s,N,ak _,rfl,hi,?_⟩;rw[ah nJ];simp(disch:=omega)[↓aa,hg3,hgo]
def aB6 (i:aO)(hil:i.groups.length<=1000)(H:Tl hp L)(H2:Tl hq L)(hY:Ro hp hq L P.l st dE)(hg2:∀s T,get (hp s T) P.p2=some (.cells i.cells))(hg3:∀s T,get (hp s T) P.p3=some (.cells [.own false 1 (cY P.os)]))(s0:ba)(bk:Nat)(hbk:s0.book=bk)(hb1:1<=bk∧bk<=11)(b:Nat)(hb:b+1<P.os.length)(ho:P.os.length<=100)(hhi:∀x∈P.os,x<=256)(first n g:Nat)(hgl:g<i.groups.length)(hn:nth i.groups g=n)(hfn:first+n<=8)(en gi k:Int)(ls:Q_)(K:Nat)(hK:L<=K)(rest:R_):∀(j w N:Nat) (s:σ),w+j=first+n->K<N->dE ((rl P.os (bI bk) b j w).map (λy=>(bk,y))++rest) s->
  (∃s2 M,N<=M∧lJ st ((rl P.os (bI bk) b j w).map (λy=>(bk,y))) s=.inl s2∧dE rest s2∧
   (Dn prog).code (.loop nL) ⟨eP P first g b ((10,.ptr K 0)::(11,A_ en)::(12,A_ w)::Kn P gi (R4 ls k)),⟨hp s [(K,.cells [A_ s0.book,A_ s0.len])],N⟩⟩ =
   some (.exit 6,⟨eP P first g b ((10,.ptr K 0)::(11,A_ en)::Kn P gi (R4 ls k)),⟨hp s2 [(K,.cells [A_ s0.book,A_ s0.len])],M⟩⟩))∨
  (∃z M,N<=M∧lJ st ((rl P.os (bI bk) b j w).map (λy=>(bk,y))) s=.inr z∧
   (Dn prog).code (.loop nL) ⟨eP P first g b ((10,.ptr K 0)::(11,A_ en)::(12,A_ w)::Kn P gi (R4 ls k)),⟨hp s [(K,.cells [A_ s0.book,A_ s0.len])],N⟩⟩ =
   some (.ret,⟨[],⟨hq z [],M⟩⟩)):=by
 have hgo:(cY P.os)[b]?=some [.int .i64 (nth P.os b:Nat)]:=DT o_;have hob:=hhi (nth P.os b) (jE o_);have hob1:=hhi (nth P.os (b+1)) (jE hb);simp only[aO.cells]at hg2;intro j
 induction j with
 |zero =>
  intro w N s h1 hKN hi;refine .inl ⟨s,N,ak _,rfl,hi,?_⟩;rw[ah rL];simp(disch:=omega)[↓aa,hg2,hn]
 |succ j ih =>
  intro w N s h1 hKN hi;have c1:((w+1:Nat):Int)=(w:Int)+1:=rfl;have em:(rl P.os (bI bk) b (j+1) w).map (λy=>(bk,y))=(sX (bI bk) (nth P.os (b+1)) 300 (nth P.os b)).map (λy=>(bk,w*32+y))++(rl P.os (bI bk) b j (w+1)).map (λy=>(bk,y)):=by
   simp_all [rl]
  rw[em]at hi⊢;rw[ax]at hi;rw[FX];rcases aDu H H2 hY hg3 s0 bk hbk hb1 b hb ho hob1 first g en gi k w o_ ls K hK _ 300 (nth P.os b) N s o_ o_ hKN hi with ⟨s2,M,hM,e1,e2,e3⟩|⟨z,M,hM,e1,e3⟩
  .rw[e1];have h9:=ih (w+1) M s2 o_ o_ e2;rcases h9 with ⟨s3,M2,hM2,f1,f2,f3⟩|⟨z,M2,hM2,f1,f3⟩
   .refine .inl ⟨s3,M2,o_,f1,f2,?_⟩;rw[<-f3,ah rL];simp(disch:=omega)[↓ac,hg2,hg3,hgo,hn,e3]
   .refine .inr ⟨z,M2,o_,f1,?_⟩;rw[<-f3,ah rL];simp(disch:=omega)[↓ac,hg2,hg3,hgo,hn,e3]
  .rw[e1];refine .inr ⟨z,M,hM,rfl,?_⟩;rw[ah rL];simp(disch:=omega)[↓ac,hg2,hg3,hgo,hn,e3]
def aCv (i:aO)(hil:i.groups.length<=1000)(H:Tl hp L)(H2:Tl hq L)(hY:Ro hp hq L P.l st dE)(hg2:∀s T,get (hp s T) P.p2=some (.cells i.cells))(hg3:∀s T,get (hp s T) P.p3=some (.cells [.own false 1 (cY P.os)]))(s0:ba)(bk:Nat)(hbk:s0.book=bk)(hb1:bk<=11∨bk=13)(ho:P.os.length<=100)(hhi:∀x∈P.os,x<=256)(first n g:Nat)(hgl:g<i.groups.length)(hn:nth i.groups g=n)(hfn:first+n<=8)(en:Nat)(hen:en<P.os.length)(gi k:Int)(ls:Q_)(K:Nat)(hK:L<=K)(rest:R_):∀(j b N:Nat) (s:σ),b+j=en->K<N->dE ((if bk=0∨bk=13 then [] else (zq P.os (bI bk) n first j b).map (λy=>(bk,y)))++rest) s->
  (∃s2 M,N<=M∧lJ st (if bk=0∨bk=13 then [] else (zq P.os (bI bk) n first j b).map (λy=>(bk,y))) s=.inl s2∧dE rest s2∧
   (Dn prog).code (.loop nX) ⟨eP P first g b ((10,.ptr K 0)::(11,A_ en)::Kn P gi (R4 ls k)),⟨hp s [(K,.cells [A_ s0.book,A_ s0.len])],N⟩⟩ =
   some (.exit 4,⟨eP P first g en (Kn P gi (R4 ls k)),⟨hp s2 [],M⟩⟩))∨
  (∃z M,N<=M∧lJ st (if bk=0∨bk=13 then [] else (zq P.os (bI bk) n first j b).map (λy=>(bk,y))) s=.inr z∧
   (Dn prog).code (.loop nX) ⟨eP P first g b ((10,.ptr K 0)::(11,A_ en)::Kn P gi (R4 ls k)),⟨hp s [(K,.cells [A_ s0.book,A_ s0.len])],N⟩⟩ =
   some (.ret,⟨[],⟨hq z [],M⟩⟩)):=by
 have hG:=λs o=>H.get s K o hK
 have hD:=λs o=>H.del s K o hK
 intro j
 induction j with
 |zero =>
  intro b N s h1 hKN hi;have eb:b=en:=o_;subst eb;have e0:(if bk=0∨bk=13 then [] else (zq P.os (bI bk) n first 0 b).map (λy=>(bk,y)))=[]:=by split<;>rfl
  rw[e0]at hi⊢;refine .inl ⟨s,N,ak _,rfl,hi,?_⟩;rw[ah lh];simp(disch:=omega)[↓aa,hD]
 |succ j ih =>
  intro b N s h1 hKN hi;have c1:((b+1:Nat):Int)=(b:Int)+1:=rfl;by_cases h0:bk=0∨bk=13
  .rw[ac h0]at hi⊢;have h9:=ih (b+1) N s o_ hKN u_;rw[ac h0,c1]at h9;rw[hbk]at h9⊢;rcases h9 with ⟨s3,M2,hM2,f1,f2,f3⟩|⟨z,M2,hM2,f1,f3⟩
   .refine .inl ⟨s3,M2,o_,f1,f2,?_⟩;rw[<-f3,ah lh];rcases h0 with h0|h0<;>simp(disch:=omega)[↓ac,↓aa,hG]
   .refine .inr ⟨z,M2,o_,f1,?_⟩;rw[<-f3,ah lh];rcases h0 with h0|h0<;>simp(disch:=omega)[↓ac,↓aa,hG]
  .rw[aa h0]at hi⊢;have em:(zq P.os (bI bk) n first (j+1) b).map (λy=>(bk,y))=(rl P.os (bI bk) b n first).map (λy=>(bk,y))++(zq P.os (bI bk) n first j (b+1)).map (λy=>(bk,y)):=by
    grind [zq]
   rw[em]at hi⊢;rw[ax]at hi;rw[FX];rcases aB6 i hil H H2 hY hg2 hg3 s0 bk hbk o_ b o_ ho hhi first n g hgl hn hfn en gi k ls K hK _ n first N s rfl hKN hi with ⟨s2,M,hM,e1,e2,e3⟩|⟨z,M,hM,e1,e3⟩
   .rw[e1];have h9:=ih (b+1) M s2 o_ o_ u_;rw[aa h0,c1]at h9;rw[hbk]at h9 e3⊢;rcases h9 with ⟨s3,M2,hM2,f1,f2,f3⟩|⟨z,M2,hM2,f1,f3⟩
    .refine .inl ⟨s3,M2,o_,f1,f2,?_⟩;rw[<-f3,ah lh];simp(disch:=omega)[↓ac,↓aa,hG,e3]
    .refine .inr ⟨z,M2,o_,f1,?_⟩;rw[<-f3,ah lh];simp(disch:=omega)[↓ac,↓aa,hG,e3]
   .rw[e1];refine .inr ⟨z,M,hM,rfl,?_⟩;rw[ah lh];simp(disch:=omega)[↓ac,↓aa,hG,e3]
def aDC (i:aO)(hil:i.groups.length<=1000)(H:Tl hp L)(H2:Tl hq L)(hY:Ro hp hq L P.l st dE)(hg2:∀s T,get (hp s T) P.p2=some (.cells i.cells))(hg3:∀s T,get (hp s T) P.p3=some (.cells [.own false 1 (cY P.os)]))(ho:P.os.length<=100)(hhi:∀x∈P.os,x<=256)(first n g:Nat)(hgl:g<i.groups.length)(hn:nth i.groups g=n)(hfn:first+n<=8)(gi:Int)(ls:Q_)(hls:ls.length<=1000)(rest:R_):∀(r:Q_) (k b N:Nat) (lf:Int) (s:σ),ls.drop k=r->fitsS lf r->(b:Int)+lf<P.os.length->L<=N->dE (Bf P.os n first r b++rest) s->
  (∃s2 M,N<=M∧lJ st (Bf P.os n first r b) s=.inl s2∧dE rest s2∧
   (Dn prog).code (.loop nW) ⟨eP P first g b (Kn P gi (R4 ls k)),⟨hp s [],N⟩⟩ =
   some (.exit 2,⟨(0,.yield P.l)::(2,.ptr P.p2 0)::(3,.ptr P.p3 0)::(5,A_ first)::(6,A_ g)::Kn P gi [],⟨hp s2 [],M⟩⟩))∨
  (∃z M,N<=M∧lJ st (Bf P.os n first r b) s=.inr z∧
   (Dn prog).code (.loop nW) ⟨eP P first g b (Kn P gi (R4 ls k)),⟨hp s [],N⟩⟩ =
   some (.ret,⟨[],⟨hq z [],M⟩⟩)):=by
 intro r
 induction r with
 |nil =>
  intro k b N lf s hd hf hb hN hi;have hk:=bv hd;refine .inl ⟨s,N,ak _,rfl,hi,?_⟩;rw[ah rI];simp(disch:=omega)[↓aa]
 |cons s0 r ih =>
  intro k b N lf s hd hf hb hN hi;have hg:=AB hd;have hlt:=bV hd;obtain⟨⟨⟨l1,l2⟩,b1,b2⟩,hf2⟩:=hf;obtain⟨bk,hbk⟩:=aA b1;have hbt:s0.book.toNat=bk:=o_;have hif:(s0.book=0∨s0.book=13)↔(bk=0∨bk=13):=o_;have em:Bf P.os n first (s0::r) b=(if bk=0∨bk=13 then [] else (zq P.os (bI bk) n first s0.len.toNat b).map (λy=>(bk,y)))++Bf P.os n first r (b+s0.len.toNat):=by
   grind [Bf]
  rw[em]at hi⊢;rw[ax]at hi;rw[FX];have hp1:=λs o=>H.put s N o hN
  have hp2:=λs o o'=>H.put2 s N o o' hN
  have hG:=λs o=>H.get s N o hN
  have c1:((k+1:Nat):Int)=(k:Int)+1:=rfl;have cE:((b+s0.len.toNat:Nat):Int)=(b:Int)+s0.len:=o_;rcases aCv i hil H H2 hY hg2 hg3 s0 bk hbk o_ ho hhi first n g hgl hn hfn (b+s0.len.toNat) o_ gi k ls N hN _ s0.len.toNat b (N+1) s rfl o_ hi with ⟨s2,M,hM,e1,e2,e3⟩|⟨z,M,hM,e1,e3⟩
  .rw[e1];have h9:=ih (k+1) (b+s0.len.toNat) M (lf-s0.len) s2 (bK hd) hf2 o_ o_ e2;rw[c1,cE]at h9;rw[cE]at e3;rcases h9 with ⟨s3,M2,hM2,f1,f2,f3⟩|⟨z,M2,hM2,f1,f3⟩
   .refine .inl ⟨s3,M2,o_,f1,f2,?_⟩;rw[<-f3,ah rI];simp(disch:=omega)[↓ac,hg,hp1,hp2,hG,e3]
   .refine .inr ⟨z,M2,o_,f1,?_⟩;rw[<-f3,ah rI];simp(disch:=omega)[↓ac,hg,hp1,hp2,hG,e3]
  .rw[e1];rw[cE]at e3;refine .inr ⟨z,M,o_,rfl,?_⟩;rw[ah rI];simp(disch:=omega)[↓ac,hg,hp1,hp2,hG,e3]
def aDM (i:aO)(hil:i.groups.length<=1000)(H:Tl hp L)(H2:Tl hq L)(hY:Ro hp hq L P.l st dE)(hg2:∀s T,get (hp s T) P.p2=some (.cells i.cells))(hg3:∀s T,get (hp s T) P.p3=some (.cells [.own false 1 (cY P.os)]))(ho:P.os.length<=100)(hhi:∀x∈P.os,x<=256)(m:Int)(hm:0<=m∧m<P.os.length)(hfl:P.full.length<=1000)(hlc:∀l∈P.full,l.length<=1000)(hgg:∀n∈i.groups,1<=n)(rest:R_):∀(r:H_) (q:G_) (g first N:Nat) (s:σ),P.full.drop g=r->i.groups.drop g=q->r.length=q.length->fQ m r->(first:Int)+q.sum<=8->L<=N->dE (qq P.os r q first++rest) s->
  (∃s2 M,N<=M∧lJ st (qq P.os r q first) s=.inl s2∧dE rest s2∧
   (Dn prog).code (.loop n9) ⟨(0,.yield P.l)::(2,.ptr P.p2 0)::(3,.ptr P.p3 0)::(5,A_ first)::Kn P g [],⟨hp s [],N⟩⟩=some (.exit 0,⟨[],⟨hp s2 [],M⟩⟩))∨
  (∃z M,N<=M∧lJ st (qq P.os r q first) s=.inr z∧
   (Dn prog).code (.loop n9) ⟨(0,.yield P.l)::(2,.ptr P.p2 0)::(3,.ptr P.p3 0)::(5,A_ first)::Kn P g [],⟨hp s [],N⟩⟩=some (.ret,⟨[],⟨hq z [],M⟩⟩)):=by
 have hg2':=hg2;simp only[aO.cells]at hg2';intro r
 induction r with
 |nil =>
  intro q g first N s hd hd2 hl hf hs hN hi
  have hk:=bv hd;have hq0:q=[]:=d_;subst hq0;refine .inl ⟨s,N,ak _,rfl,hi,?_⟩;rw[ah rR];simp(disch:=omega)[↓aa]
 |cons l r ih =>
  intro q g first N s hd hd2 hl hf hs hN hi
  cases q with
  |nil=>simp at hl
  |cons n0 q =>
   have hg:=oE hd;have hlt:=bV hd;have hlt2:=bV hd2;have hn0:nth i.groups g=n0:=by
    grind [qX]
   have hn1:=hgg n0 (by grind [jE]);obtain⟨n,hn⟩:=aA (show 0<=n0 by omega);have hnt:n0.toNat=n:=o_;have hqs:0<=q.sum:=by
    have:∀x∈q,1<=x:=λx hx=>hgg x (by grind)
    have:=mT this;omega
   rw[li]at hs;have em:qq P.os (l::r) (n0::q) first=Bf P.os n first l 0++qq P.os r q (first+n):=by rw[qq,hnt]
   rw[em]at hi⊢;rw[ax]at hi;rw[FX];have hml:l∈P.full:=by rw[<-aX g P.full,hd];simp
   have c0:((0:Nat):Int)=0:=rfl;have c1:((g+1:Nat):Int)=(g:Int)+1:=rfl;have cF:((first+n:Nat):Int)=(first:Int)+n:=rfl;simp only[aq,su]at hl;rcases aDC i hil H H2 hY hg2 hg3 ho hhi first n g hlt2 o_ o_ g l (hlc l hml) _ l 0 0 N m s rfl (hf l (.head _)) o_ hN hi with ⟨s2,M,hM,e1,e2,e3⟩|⟨z,M,hM,e1,e3⟩
   .rw[e1];have h9:=ih q (g+1) (first+n) M s2 (bK hd) (bK hd2) hl (λx hx=>hf x (.tail _ hx)) o_ o_ e2;rw[c1,cF]at h9;rw[c0]at e3;rw[hn]at hn0;rcases h9 with ⟨s3,M2,hM2,f1,f2,f3⟩|⟨z,M2,hM2,f1,f3⟩
    .refine .inl ⟨s3,M2,o_,f1,f2,?_⟩;rw[<-f3,ah rR];simp(disch:=omega)[↓ac,hg,hg2',hn0,e3]
    .refine .inr ⟨z,M2,o_,f1,?_⟩;rw[<-f3,ah rR];simp(disch:=omega)[↓ac,hg,hg2',hn0,e3]
   .rw[e1];rw[c0]at e3;refine .inr ⟨z,M,hM,rfl,?_⟩;rw[ah rR];simp(disch:=omega)[↓ac,hg,e3]
end
def agC {σ τ:Type}{hp:σ->am->am}{hq:τ->am->am}{L:Nat}{P:PlS}{st:Nat×Nat->σ->Sum σ τ}{dE:R_->σ->Prop}(i:aO)(hi:i.Fit)(hm:i.may 11)(p1:Nat)(H:Tl hp L)(H2:Tl hq L)(hY:Ro hp hq L P.l st dE)(hg1:∀s,get (hp s []) p1=some (.cells [.d (.lst (bO P.full))]))(hg2:∀s T,get (hp s T) P.p2=some (.cells i.cells))(hg3:∀s T,get (hp s T) P.p3=some (.cells [.own false 1 (cY P.os)]))(ho:P.os.length<=100)(hhi:∀x∈P.os,x<=256)(hmo:i.max<P.os.length)(hf:kg i P.full)(N:Nat)(hN:L<=N)(s:σ)(hs:dE (qq P.os P.full i.groups 0) s) :
  (∃s2 M,N<=M∧lJ st (qq P.os P.full i.groups 0) s=.inl s2∧dE [] s2∧(Dn prog).call jh [.yield P.l,.ptr p1 0,.ptr P.p2 0,.ptr P.p3 0] ⟨hp s [],N⟩=some (.tup [],⟨hp s2 [],M⟩))∨
  (∃z M,N<=M∧lJ st (qq P.os P.full i.groups 0) s=.inr z∧(Dn prog).call jh [.yield P.l,.ptr p1 0,.ptr P.p2 0,.ptr P.p3 0] ⟨hp s [],N⟩=some (.tup [],⟨hq z [],M⟩)):=by
 have hmx:=ka hm;obtain⟨g1,g2⟩:=d8 hm;have hmm:i.many<=8:=by grind [aO.many]
 have hgl:i.groups.length<=8:=by have:=mT (λn hn=>(g1 n hn).1);omega
 have hlc:∀l∈P.full,l.length<=1000:=λl hl=>by
  rcases Jf (hf.2 l hl) with h|h<;>grind
 have hfl:=hf.1;have c0:((0:Nat):Int)=0:=rfl;have h:=aDM i hi.len H H2 hY hg2 hg3 ho hhi i.max ⟨hmx.1,hmo⟩ o_ hlc (λn hn=>(g1 n hn).1) [] P.full i.groups 0 0 N s rfl rfl hfl hf.2 o_ hN u_;rw[c0]at h;rw[be abf abU rfl];rcases h with ⟨s2,M,hM,e1,e2,e3⟩|⟨z,M,hM,e1,e3⟩
 .refine .inl ⟨s2,M,hM,e1,e2,?_⟩;simp(disch:=omega)[hg1,e3]
 .refine .inr ⟨z,M,hM,e1,?_⟩;simp(disch:=omega)[hg1,e3]
def Py (r:Nat)(hr:r<=11)(i:aO)(y:D)(H:am)(N:Nat)(hL:Lt H N):(Dn prog).call SY [A_ r,.agg i.cells,.d y] ⟨H,N⟩=some (.fn jh [] [.ptr (N+1) 0,.ptr N 0,.ptr (N+1+1) 0],⟨H++[(N,.cells i.cells)]++[(N+1,.cells [.d y])]++[(N+1+1,.cells [.own false 1 (cY (offs r i.short))])],N+1+1+1⟩):=by
 have hof:=BZ r i.short;rw[ac o_]at hof;have L1:=MR (o:=.cells i.cells) hL;have L2:=MR (o:=.cells [.d y]) L1;have e1:=λo=>vI (o:=o) hL
 have e2:=λo=>vI (o:=o) L1
 have e3:=λo=>vI (o:=o) L2
 have e4:=A9 (N:=N+1) (o:=.cells [.d y]) (yD (o:=.cells i.cells) hL);have e5:=λo=>yD (o:=o) L2
 have e6:=λo o'=>Ik (o:=o) (o':=o') L2
 have hsh:i.short=decide (i.seq=2):=rfl;rw[be aje aja rfl];simp only[aO.cells]at e1 e2 e3 e4 e5 e6⊢;by_cases hs2:i.seq=2
 .rw[dT_ hs2]at hsh;rw[hsh]at hof⊢;simp(disch:=omega)[↓ac,hof,e1,e2,e3,e4,e5,e6,-List.append_assoc]
 .rw[dF_ hs2]at hsh;rw[hsh]at hof⊢;simp(disch:=omega)[↓aa,hof,e1,e2,e3,e4,e5,e6,-List.append_assoc]
abbrev aAF:D_:=[A_ 0,A_ 0,.nl,.nl]
abbrev rQ (id:Nat):D_:=[A_ id,A_ (bR id),.own false 1 (cY (cB id)),.own false 1 (cY (dT id))]
def H3 (C:D_):Prop:=C.length=48∧∀id,id<12->sub C (4*id) 4=aAF∨(1<=id∧sub C (4*id) 4=rQ id)
theorem W3 {α:Type}{C:List α}{a k:Nat}(hk:k<4):(sub C a 4)[k]?=C[a+k]?:=by
 simp_all
def S2 {α:Type}{C W:List α}{a:Nat}(hw:W.length=4)(ha:a+4<=C.length):sub (aH C a W) a 4=W:=by
 grind [sub,aH,List.drop_eq_nil_of_le]
def afn {α:Type}{C W:List α}{a b:Nat}(hw:W.length=4)(ha:a+4<=C.length)(hb:b+4<=C.length)(h:b+4<=a∨a+4<=b):sub (aH C a W) b 4=sub C b 4:=by
 apply dW
 grind [W3,aH,sub]
def alO {α:Type}{C W:List α}{a:Nat}(hw:W.length=4)(ha:a+4<=C.length):(aH C a W).length=C.length:=by
 grind [aH]
def atE {C W:D_}{a:Nat}(ha:a+4<=C.length)(h:sub C a 4=W):aH C a W=C:=by
 subst h
 grind [aH,sub,List.take_append_drop]
def adQ {C:D_}(h:H3 C){id:Nat}(hid:1<=id∧id<=11):H3 (aH C (4*id) (rQ id)):=by
 refine⟨by rw[alO rfl (by rw[h.1];omega)];exact h.1,λj hj=>?_⟩;by_cases e:j=id
 .subst e;exact .inr ⟨hid.1,S2 rfl (by rw[h.1];omega)⟩
 .rw[afn rfl (by rw[h.1];omega) (by rw[h.1];omega) o_];exact h.2 j hj
structure Bk (hp:D_->am->am)(A N:Nat):Prop where
 gA:∀C T,get (hp C T) A=some (.cells C)
 pA:∀C T C',put (hp C T) A (.cells C')=hp C' T
 pN:∀C o,put (hp C []) N o=hp C [(N,o)]
 pN2:∀C o o',put (hp C [(N,o)]) N o'=hp C [(N,o')]
 gN:∀C o,get (hp C [(N,o)]) N=some o
 dN:∀C o,del (hp C [(N,o)]) N=hp C []
def S3 {hp:D_->am->am}{A N:Nat}(H:Bk hp A N)(C:D_)(hC:H3 C)(id:Nat)(hid:1<=id∧id<=11):(Dn prog).call mZ [.ptr A 0,A_ id] ⟨hp C [],N⟩=some (oA id,⟨hp (aH C (4*id) (rQ id)) [],N+1⟩):=by
 have hb:=WS id o_;have h48:=hC.1;have hia:∀p,KD 12 4 (.ptr p 0) (A_ id)=some (.ptr p (4*id)):=λp=>by
  grind [abH,KD,iQ,Us]
 rw[be ZA ZK rfl];rcases hC.2 id o_ with h0|⟨_,h1⟩
 .have e0:C[4*id]?=some (A_ 0):=by rw[<-ej (4*id),<-W3 o_,h0];rfl
  obtain⟨hl0,e0⟩:=aJ.1 e0;have hsm:=S2 (C:=C) (W:=rQ id) (a:=4*id) rfl o_;have hsl:=alO (C:=C) (W:=rQ id) (a:=4*id) rfl o_;simp(disch:=omega)[↓ac,H.gA,H.pA,H.pN,H.pN2,H.gN,H.dN,hia,e0,hb,-aH,-sub,-OP,-anl,hsm,hsl];simp
 .have e0:C[4*id]?=some (A_ id):=by rw[<-ej (4*id),<-W3 o_,h1];rfl
  obtain⟨hl0,e0⟩:=aJ.1 e0;rw[atE o_ h1];simp(disch:=omega)[↓ac,↓aa,H.gA,H.pN,H.pN2,H.gN,H.dN,hia,e0,-aH,-sub,-OP,-anl,h1];simp
def ack (l:AA_)(hl:l.length<=100000)(h:am)(N:Nat):(Dn prog).call AK [.d (.lst (fh l))] ⟨h,N⟩=some (B_ (decide (0<l.length)),⟨h,N⟩):=by
 rw[be WZ Xy rfl];by_cases h0:0<l.length
 .rw[dT_ h0];simp(disch:=omega)[↓ac]
 .rw[dF_ h0];simp(disch:=omega)[↓aa]
def ZN (F:AV)(P:AA_->Bool)(l:O_)(hl:l.length<=1000000000)(h:am)(N:Nat)(hF:firm (share F)=F)(hc:∀v∈l,cA (Dn prog) F [.d (.lst (fh v))] ⟨h,N⟩=some (B_ (P v),⟨h,N⟩)):∀(r:O_) (i:Nat),l.drop i=r->
  (r.any P=true∧∃k:Nat,(Dn prog).code (.loop fN) ⟨[(0,.d (.lst (dk l))),(1,F),(7,A_ l.length),(8,A_ i)],⟨h,N⟩⟩=some (.ret,⟨[(4,A_ k)],⟨h,N⟩⟩))∨
  (r.any P=false∧(Dn prog).code (.loop fN) ⟨[(0,.d (.lst (dk l))),(1,F),(7,A_ l.length),(8,A_ i)],⟨h,N⟩⟩=some (.exit 0,⟨[],⟨h,N⟩⟩)):=by
 intro r
 induction r with
 |nil =>
  intro i hd;have hi:=bv hd;refine .inr ⟨rfl,?_⟩;rw[ah iB];simp(disch:=omega)[↓aa]
 |cons v r ih =>
  intro i hd;have hg:=Bt hd;have hlt:=bV hd;have hv:=hc v (by rw[<-aX i l,hd];simp);have h5:=ih (i+1) (bK hd)
  cases hp:P v with
  |true =>
   rw[hp]at hv;refine .inl ⟨u_,i,?_⟩;rw[ah iB];simp(disch:=omega)[↓ac,hg,hF,hv]
  |false =>
   rw[hp]at hv;rw[fD,hp,nT];rcases h5 with ⟨e1,k,e2⟩|⟨e1,e2⟩
   .refine .inl ⟨e1,k,?_⟩;rw[ah iB,<-e2];simp(disch:=omega)[↓ac,hg,hF,hv]
   .refine .inr ⟨e1,?_⟩;rw[ah iB,<-e2];simp(disch:=omega)[↓ac,hg,hF,hv]
def ZB (F:AV)(P:AA_->Bool)(l:O_)(hl:l.length<=1000000000)(h:am)(N:Nat)(hF:firm (share F)=F)(hF2:firm F=F)(hc:∀v∈l,cA (Dn prog) F [.d (.lst (fh v))] ⟨h,N⟩=some (B_ (P v),⟨h,N⟩)) :
  (Dn prog).call qL [.d (.lst (dk l)),F] ⟨h,N⟩=some (B_ (l.any P),⟨h,N⟩):=by
 have h1:=ZN F P l hl h N hF hc l 0 rfl;have c0:((0:Nat):Int)=0:=rfl;rw[c0]at h1;have h2:∃k:Int,(0<=k↔l.any P=true)∧(Dn prog).call tM [.d (.lst (dk l)),F] ⟨h,N⟩=some (A_ k,⟨h,N⟩):=by
  rcases h1 with ⟨e1,k,e2⟩|⟨e1,e2⟩
  .refine⟨k,⟨λ_=>e1,λ_=>by omega⟩,?_⟩;rw[be tN tQ rfl];simp(disch:=omega)[e2]
  .refine⟨-1,⟨λh=>by omega,λh=>by simp_all⟩,?_⟩;rw[be tN tQ rfl];simp(disch:=omega)[e2]
 obtain⟨k,e1,e2⟩:=h2;rw[be Cp Cs rfl]
 cases hp:l.any P with
 |true =>
  have:=e1.2 hp;simp(disch:=omega)[↓ac,hF2,e2]
 |false =>
  have:¬0<=k:=λh=>by simp_all
  simp(disch:=omega)[↓aa,hF2,e2]
def pf (t:O_):Bool:=t.any λl=>decide (0<l.length)
def Rk (t:O_)(ht:t.length<=100000)(ht2:∀l∈t,l.length<=100000):bq prog Nv [.d (.lst (dk t))]=some (B_ (pf t)):=by
 have h:=ZB (.fn AK [] []) (λl=>decide (0<l.length)) t o_ [] 0 rfl rfl λv hv=>by
  simp_all [ack]
 rw[aG abt ace rfl];unfold pf;simp(disch:=omega)[h]
abbrev jA:=@List.getElem?_replicate
abbrev jP:=@List.getElem?_take
abbrev aV:=@List.getD_eq_getElem?_getD
def Nd {d hi:Nat}(hd:1<=d):∀{f lo x:Nat},(hi-lo) % d=0->x∈sX d hi f lo->lo<=x∧x+d<=hi∧(x-lo) % d=0
 |0,lo,x,_,h=>by simp[sX]at h
 |f+1,lo,x,hm,h=>by
  rw[sX]at h;by_cases h1:lo<hi
  .rw[ac h1]at h;have h2:lo+d<=hi:=by
    rcases bD (hi-lo) d with h3|h3
    .rw[dA h3]at hm;omega
    .omega
   rcases ay.1 h with e|e
   .subst e;exact⟨ak _,h2,s_⟩
   .have h4:(hi-(lo+d)) % d=0:=by
     have:hi-lo=hi-(lo+d)+d:=o_;rw[this,Nat.add_mod_right]at hm;exact hm
    have ⟨a,b,c⟩:=Nd hd h4 e;refine⟨o_,b,?_⟩;have:x-lo=x-(lo+d)+d:=o_;rw[this,Nat.add_mod_right];exact c
  .rw[aa h1]at h;simp at h
def acY {os:C_}{d b:Nat}:∀{k w y:Nat},y∈rl os d b k w->∃w' x,w<=w'∧w'<w+k∧x∈sX d (nth os (b+1)) 300 (nth os b)∧y=w'*32+x
 |0,w,y,h=>by simp[rl]at h
 |k+1,w,y,h=>by
  rw[rl,aW]at h;rcases h with h|h
  .obtain⟨x,hx,e⟩:=dC.1 h;exact⟨w,x,ak _,o_,hx,e.symm⟩
  .obtain⟨w',x,a,b,c,e⟩:=acY h;exact⟨w',x,o_,o_,c,e⟩
def Uy {os:C_}{d n first:Nat}:∀{k b y:Nat},y∈zq os d n first k b->∃b',b<=b'∧b'<b+k∧y∈rl os d b' n first
 |0,b,y,h=>by simp[zq]at h
 |k+1,b,y,h=>by
  rw[zq,aW]at h;rcases h with h|h
  .exact⟨b,ak _,o_,h⟩
  .obtain⟨b',a,c,e⟩:=Uy h;exact⟨b',o_,o_,e⟩
def TX {os:C_}{n first:Nat}:∀{r:Q_}{b:Nat}{lf:Int}{p:Nat×Nat},fitsS lf r->p∈Bf os n first r b->∃j,(aN r)[j]?=some (p.1:Int)∧(1<=p.1∧p.1<=11)∧p.2∈rl os (bI p.1) (b+j) n first
 |[],b,lf,p,_,h=>by simp[Bf]at h
 |s::r,b,lf,p,hf,h=>by
  obtain⟨⟨⟨l1,l2⟩,b1,b2⟩,hf2⟩:=hf;have eb:aN (s::r)=List.replicate s.len.toNat s.book++aN r:=by rw[aN,aC];rfl
  rw[Bf,aW]at h;rcases h with h|h
  .by_cases h0:s.book=0∨s.book=13
   .rw[ac h0]at h;simp at h
   .rw[aa h0]at h;obtain⟨y,hy,e⟩:=dC.1 h;subst e;obtain⟨b',c1,c2,c3⟩:=Uy hy;refine⟨b'-b,?_,by simp only[];omega,by rw[show b+(b'-b)=b' by omega];exact c3⟩;rw[eb,bU g_,jA,ac o_];simp only[ae];omega
  .obtain⟨j,a,c,e⟩:=TX hf2 h;refine⟨s.len.toNat+j,?_,c,by rw[<-dP];exact e⟩;rw[eb,bg s_,aL,gx];exact a
def Nz {os:C_}{m:Int}:∀{r:H_}{q:G_}{first:Nat}{p:Nat×Nat},fQ m r->(∀n∈q,1<=n)->p∈qq os r q first->∃(w g j:Nat) (l:Q_),r[g]?=some l∧first<=w∧(w:Int)<first+q.sum∧lF q ((w:Int)-first)=g∧(aN l)[j]?=some (p.1:Int)∧(1<=p.1∧p.1<=11)∧∃x∈sX (bI p.1) (nth os (j+1)) 300 (nth os j),p.2=w*32+x
 |[],q,first,p,_,_,h=>by simp[qq]at h
 |l::r,[],first,p,_,_,h=>by simp[qq]at h
 |l::r,n::q,first,p,hf,hn,h=>by
  have hn1:=hn n (.head _);have hqs:0<=q.sum:=by have:=mT λx hx=>hn x (.tail _ hx);omega
  rw[qq,aW]at h;rw[li];rcases h with h|h
  .obtain⟨j,a,c,e⟩:=TX (hf l (.head _)) h;rw[bn]at e;obtain⟨w,x,e1,e2,e3,e4⟩:=acY e;refine⟨w,0,j,l,rfl,e1,o_,?_,a,c,x,e3,e4⟩;rw[lF,ac o_]
  .obtain⟨w,g,j,l',e1,e2,e3,e4,e5,e6,e7⟩:=Nz (λx hx=>hf x (.tail _ hx)) (λx hx=>hn x (.tail _ hx)) h;refine⟨w,g+1,j,l',by simpa using e1,o_,o_,?_,e5,e6,e7⟩;rw[lF,aa o_];have:(w:Int)-first-n=(w:Int)-((first+n.toNat:Nat):Int):=o_
   rw[this,e4]
def oF:∀x∈HX,((List.range ((offs x.1 x.2).length-1)).all λj=>decide (nth (offs x.1 x.2) j<nth (offs x.1 x.2) (j+1)) && decide ((nth (offs x.1 x.2) (j+1)-nth (offs x.1 x.2) j) % 4=0))=true∧nth (offs x.1 x.2) 0=0∧(offs x.1 x.2).all (λy=>decide (y<=cond x.2 32 256))=true:=e_
def Sp {tl:C_}{bks:G_}:∀{ls:G_}{i j:Nat}{v:Int},xA tl bks i ls->ls[j]?=some v->ND tl bks (i+j) v
 |[],i,j,v,_,h=>by simp at h
 |u::r,i,0,v,h,e=>by
  simp only[ca,ae]at e;subst e;exact h.1
 |u::r,i,j+1,v,h,e=>by
  have:=Sp (j:=j) h.2 (by simpa using e);rw[show i+(j+1)=i+1+j by omega];exact this
def SP {r:Nat}{c:cQ}:∀{k w w':Nat},Is r c k w->w<=w'->w'<w+k->xA ((offs r c.info.short).drop 1) (aN (wQ c w')) 0 (yX c w')
 |0,w,w',_,h1,h2=>by omega
 |k+1,w,w',h,h1,h2=>by
  rcases bD w w' with h3|h3
  .exact SP h.2 h3 (by omega)
  .have:w'=w:=o_;subst this;exact h.1
def ag9 {os:C_}{b i:Nat}(hs:∀j,j+1<os.length->nth os j<nth os (j+1))(hb:b+1<os.length)(h1:nth os b<=i)(h2:i<nth os (b+1)):mu (os.drop 1) i=b:=by
 have hmono:∀k j,j+k<os.length->nth os j<=nth os (j+k):=by
  intro k
  induction k with
  |zero=>intro j _;exact ak _
  |succ k ih =>
   intro j hj;have a:=ih j o_;have b:=hs (j+k) o_;rw[show j+(k+1)=j+k+1 by omega];omega
 have hlen:(os.drop 1).length=os.length-1:=s_;rw[Z7 (b:=b) o_ ?_]
 .have hdd:(os.drop 1).drop b=os.drop (b+1):=by rw[mD];congr 1;omega
  rw[hdd,qX hb,mu,aa o_];rfl
 .intro x hx;obtain⟨j,hj,e⟩:=iY.1 hx;have hj2:j<b:=by have:=hj;simp only[b7]at this;omega
  rw[tB,List.getElem_drop]at e;have hn:nth os (1+j)=x:=by
   have h9:=yg (l:=os) (i:=1+j) o_;rw[bC o_,e]at h9;injection h9 with h9;exact h9.symm
  have:=hmono (b-(1+j)) (1+j) o_;rw[show 1+j+(b-(1+j))=b by omega]at this;omega
def Sv {r:Nat}{c:cQ}(hc:c.Fit)(h:nG r c)(hr:r<=11){p:Nat×Nat}(hp:p∈qq (offs r c.info.short) c.sects c.info.groups 0):(1<=p.1∧p.1<=11)∧p.2+bI p.1<=256∧OW p.1 ((c.lines.drop p.2).take (bI p.1)):=by
 have hm11:=gR hr h.info;obtain⟨g1,g2⟩:=d8 hm11;obtain⟨w,g,j,l,e1,e2,e3,e4,e5,e6,x,e7,e8⟩:=Nz h.sects.2 (λn hn=>(g1 n hn).1) hp;obtain⟨o1,o2,o3⟩:=oF (r,c.info.short) (fP o_);simp only at o1 o2 o3;have hmx:=h.info.2.2.2.1;have hlm:l∈c.sects:=dt e1;have hbl:=tJ (h.sects.2 l hlm) h.info.2.2.1;have hjl:j<(aN l).length:=(aJ.1 e5).1;have hmy:r8 r (decide (c.info.seq=2))=(offs r c.info.short).length-1:=rfl;have hj1:j+1<(offs r c.info.short).length:=o_;have hoj:nth (offs r c.info.short) j<nth (offs r c.info.short) (j+1)∧(nth (offs r c.info.short) (j+1)-nth (offs r c.info.short) j) % 4=0:=by
  have:=bJ.1 o1 j (et.2 o_);simpa using this
 have hos:∀k,k+1<(offs r c.info.short).length->nth (offs r c.info.short) k<nth (offs r c.info.short) (k+1):=λk hk=>by
  have:=bJ.1 o1 k (et.2 o_);simp only[af,decide_eq_true_eq]at this;exact this.1
 have hd4:bI p.1=4∨bI p.1=2:=by unfold bI;split<;>simp
 have hx:=Nd (d:=bI p.1) o_ (by rcases hd4 with h|h<;>rw[h]<;>omega) e7;have hw:(w:Int)<c.info.many:=o_;have ho256:nth (offs r c.info.short) (j+1)<=cond c.info.short 32 256:=by
  have:=bJ.1 o3 _ (jE hj1);simpa using this
 have hcond:(cond c.info.short 32 256:Nat)=c.info.wide:=by
  unfold aO.short aO.wide;by_cases h:c.info.seq=2
  .rw[dT_ h,ac h];rfl
  .rw[dF_ h,aa h];rfl
 rw[hcond]at ho256;have hww:w*32=w*c.info.wide∧w*c.info.wide+c.info.wide<=256:=by
  unfold aO.many at hw;unfold aO.wide;split at hw
  .rename_i h2;rw[ac h2];omega
  .rename_i h2;rw[aa h2];omega
 have hl:=h.lines.1;have hle:p.2+bI p.1<=256:=o_;refine⟨e6,hle,?_,λv hv=>?_⟩
 .rw[b7,cP];omega
 .obtain⟨k,hk,ek⟩:=iY.1 hv;have hk2:k<bI p.1:=by have:=hk;simp only[b7]at this;omega
  rw[tB,List.getElem_drop]at ek;have hf:=SP h.lines.2 (w':=w) o_ o_;have hwl:(yX c w)[x+k]?=some v:=by
   unfold yX;rw[jP,ac o_,ck,show w*c.info.wide+(x+k)=p.2+k by omega,bC o_,ek]
  have hlo:=Sp hf hwl;rw[bn]at hlo;have hgr:lF c.info.groups w=g:=by rw[<-e4];congr 1
  have hsa:wQ c w=l:=by
   unfold wQ;rw[hgr,aV,e1];rfl
  have hba:=ag9 (i:=x+k) hos hj1 o_ o_;unfold ND at hlo;rw[hsa,hba,e5]at hlo;rcases hlo with h0|⟨k',a1,a2,a3⟩
  .subst h0;simp
  .injection a1 with a1
   subst a1;simpa using a3
end Go.Vm
end
