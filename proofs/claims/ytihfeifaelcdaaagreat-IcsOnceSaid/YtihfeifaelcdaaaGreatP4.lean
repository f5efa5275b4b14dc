import Derived.Test.YtihfeifaelcdaaaGreatP3
set_option linter.unusedVariables false
set_option linter.unusedSimpArgs false
noncomputable section
namespace Go.Vm
set_option maxRecDepth 100000
set_option maxHeartbeats 4000000
def Dk (C:Nat→Nat→Int) (n:Nat):Nat→List Nat→Nat→List Nat×Nat
 | 0,xs,a=>(xs,a)
 | f+1,xs,a=>if a+20≤n then Dk C n f (insO C a 19 (a+1) xs) (a+20) else (xs,a)
def JK (C:Nat→Nat→Int) (n bs:Nat):Nat→List Nat→Nat→List Nat×Nat
 | 0,xs,a=>(xs,a)
 | f+1,xs,a=>if a+2*bs≤n then JK C n bs f (symM C (2*bs) xs a (a+bs) (a+2*bs)) (a+2*bs) else (xs,a)
def stE (C:Nat→Nat→Int) (n bs:Nat) (p:List Nat×Nat):List Nat:=if p.2+bs<n then symM C (n-p.2) p.1 p.2 (p.2+bs) n else p.1
def XI (C:Nat→Nat→Int) (n:Nat):Nat→List Nat→Nat→List Nat
 | 0,xs,_=>xs
 | f+1,xs,bs=>if bs<n then XI C n f (stE C n bs (JK C n bs n xs 0)) (2*bs) else xs
def stS (C:Nat→Nat→Int) (n:Nat) (p:List Nat×Nat):List Nat:=insO C p.2 (n-(p.2+1)) (p.2+1) p.1
def li (C:Nat→Nat→Int) (n:Nat) (xs:List Nat):List Nat:=XI C n n (stS C n (Dk C n n xs 0)) 20
section
variable {hp:List Nat→ac}{D L:Nat}{F:AV}{C:Nat→Nat→Int}
theorem apI (H:Hp hp D) (K:Cm hp L F C) (n:Nat) (hlen:n≤1000000000) (N:Nat):∀ (f a:Nat) (xs:List Nat),n<a+f*20+20→a≤n→xs.length=n→b8 L xs→
  (Dn prog).code (.loop dK) ⟨[(0,.sl D 0 n),(1,.d (.int .i64 n)),(2,F),(6,.d (.int .i64 20)),(7,.d (.int .i64 a)),(8,.d (.int .i64 ((a:Int)+20)))],⟨hp xs,N⟩⟩ =
  some (.exit 0,⟨[(0,.sl D 0 n),(1,.d (.int .i64 n)),(2,F),(6,.d (.int .i64 20)),(7,.d (.int .i64 (Dk C n f xs a).2))],⟨hp (Dk C n f xs a).1,N⟩⟩)∧
  (Dk C n f xs a).1.length=n∧b8 L (Dk C n f xs a).1∧a≤(Dk C n f xs a).2∧(Dk C n f xs a).2≤n∧∃ q,(Dk C n f xs a).2=a+20*q:=by
 intro f
 induction f with
 | zero =>
  intro a xs h1 h2 hx u;refine⟨?_,hx,u,Nat.le_refl _,h2,0,rfl⟩;rw[aa dK.eq_1];simp (maxSteps:=300000) (disch:=omega) [↓if_pos,↓if_neg,Dk,K.sh,K.fi]
 | succ f ih =>
  intro a xs h1 h2 hx u;rw[aa dK.eq_1,Dk];by_cases h:a+20≤n
  ·rw[if_pos h];have h0:=JM H K n hlen a (a+20) N (by omega) h xs hx u;rw[show a+20-(a+1)=19 by omega]at h0;obtain⟨g1,g2,g3,g4,g5,q,g6⟩:=ih (a+20) (insO C a 19 (a+1) xs) (by omega) h (by rw[Tb];exact hx) (u.insO (by omega));refine⟨?_,g2,g3,by omega,g5,q+1,by omega⟩;have c1:((a+20:Nat):Int)=(a:Int)+20:=rfl;rw[c1]at h0 g1;rw[←g1];simp (maxSteps:=300000) (disch:=omega) [↓if_pos,↓if_neg,K.sh,K.fi,h0]
  ·rw[if_neg h];refine⟨?_,hx,u,Nat.le_refl _,h2,0,rfl⟩;simp (maxSteps:=300000) (disch:=omega) [↓if_pos,↓if_neg,K.sh,K.fi]
theorem arX (H:Hp hp D) (K:Cm hp L F C) (n:Nat) (hlen:n≤1000000000) (bs N:Nat) (hbs:1≤bs) (hb2:bs≤1000000000):∀ (f a:Nat) (xs:List Nat),n<a+f+1→a≤n→xs.length=n→b8 L xs→
  (Dn prog).code (.loop dJ) ⟨[(0,.sl D 0 n),(1,.d (.int .i64 n)),(2,F),(6,.d (.int .i64 bs)),(7,.d (.int .i64 a)),(8,.d (.int .i64 ((a:Int)+2*(bs:Int))))],⟨hp xs,N⟩⟩ =
  some (.exit 4,⟨[(0,.sl D 0 n),(1,.d (.int .i64 n)),(2,F),(6,.d (.int .i64 bs)),(7,.d (.int .i64 (JK C n bs f xs a).2))],⟨hp (JK C n bs f xs a).1,N⟩⟩)∧
  (JK C n bs f xs a).1.length=n∧b8 L (JK C n bs f xs a).1∧(JK C n bs f xs a).2≤n:=by
 intro f
 induction f with
 | zero =>
  intro a xs h1 h2 hx u;refine⟨?_,hx,u,h2⟩;rw[aa dJ.eq_1];simp (maxSteps:=300000) (disch:=omega) [↓if_pos,↓if_neg,JK,K.sh,K.fi]
 | succ f ih =>
  intro a xs h1 h2 hx u;rw[aa dJ.eq_1,JK];by_cases h:a+2*bs≤n
  ·rw[if_pos h];have h0:=ajk H K n hlen N (2*bs) a (a+bs) (a+2*bs) xs (by omega) (by omega) (by omega) h hx u;obtain⟨g1,g2,g3,g4⟩:=ih (a+2*bs) (symM C (2*bs) xs a (a+bs) (a+2*bs)) (by omega) h (by rw[q7];exact hx) (u.symM (by omega) (by omega) (by omega));refine⟨?_,g2,g3,g4⟩;have c1:((a+bs:Nat):Int)=(a:Int)+bs:=rfl;have c2:((a+2*bs:Nat):Int)=(a:Int)+2*bs:=by omega
   rw[c1,c2]at h0;rw[c2]at g1;rw[←g1];simp (maxSteps:=300000) (disch:=omega) [↓if_pos,↓if_neg,K.sh,K.fi,h0]
  ·rw[if_neg h];refine⟨?_,hx,u,h2⟩;simp (maxSteps:=300000) (disch:=omega) [↓if_pos,↓if_neg,K.sh,K.fi]
theorem arT (H:Hp hp D) (K:Cm hp L F C) (n:Nat) (hlen:n≤1000000000) (N:Nat):∀ (f bs:Nat) (xs:List Nat),n<bs+f+1→1≤bs→bs≤2000000000→xs.length=n→b8 L xs→
  (Dn prog).code (.loop dL) ⟨[(0,.sl D 0 n),(1,.d (.int .i64 n)),(2,F),(6,.d (.int .i64 bs))],⟨hp xs,N⟩⟩ =
  some (.exit 2,⟨[],⟨hp (XI C n f xs bs),N⟩⟩)∧(XI C n f xs bs).length=n∧b8 L (XI C n f xs bs):=by
 intro f
 induction f with
 | zero =>
  intro bs xs h1 h2 h3 hx u;refine⟨?_,hx,u⟩;rw[aa dL.eq_1];simp (maxSteps:=300000) (disch:=omega) [↓if_pos,↓if_neg,XI,K.sh,K.fi]
 | succ f ih =>
  intro bs xs h1 h2 h3 hx u;rw[aa dL.eq_1,XI];by_cases h:bs<n
  ·rw[if_pos h];obtain⟨g1,g2,g3,g4⟩:=arX H K n hlen bs N h2 (by omega) n 0 xs (by omega) (by omega) hx u;generalize JK C n bs n xs 0=p at *;obtain⟨ys,a⟩:=p;simp only at g1 g2 g3 g4;have c0:((0:Nat):Int)=0:=rfl;have cz:(0:Int)+2*(bs:Int)=2*(bs:Int):=by omega
   have c2:((2*bs:Nat):Int)=2*(bs:Int):=by omega
   rw[c0,cz]at g1;unfold stE;simp only;by_cases h5:a+bs<n
   ·rw[if_pos h5];have h0:=ajk H K n hlen N (n-a) a (a+bs) n ys (by omega) (by omega) h5 (Nat.le_refl _) g2 g3;have c1:((a+bs:Nat):Int)=(a:Int)+bs:=rfl;obtain⟨k1,k2,k3⟩:=ih (2*bs) (symM C (n-a) ys a (a+bs) n) (by omega) (by omega) (by omega) (by rw[q7];exact g2) (g3.symM (by omega) h5 (by omega));refine⟨?_,k2,k3⟩;rw[c1]at h0;rw[c2]at k1;have cc:(bs:Int)*2=2*(bs:Int):=by omega
    rw[←k1];simp (maxSteps:=300000) (disch:=omega) [↓if_pos,↓if_neg,K.sh,K.fi,g1,h0,cc]
   ·rw[if_neg h5];obtain⟨k1,k2,k3⟩:=ih (2*bs) ys (by omega) (by omega) (by omega) g2 g3;refine⟨?_,k2,k3⟩;rw[c2]at k1;have cc:(bs:Int)*2=2*(bs:Int):=by omega
    rw[←k1];simp (maxSteps:=300000) (disch:=omega) [↓if_pos,↓if_neg,K.sh,K.fi,g1,cc]
  ·rw[if_neg h];refine⟨?_,hx,u⟩;simp (maxSteps:=300000) (disch:=omega) [↓if_pos,↓if_neg,K.sh,K.fi]
theorem aqQ (H:Hp hp D) (K:Cm hp L F C) (n:Nat) (hlen:n≤1000000000) (hn:n % 20≠0) (N:Nat) (xs:List Nat) (hx:xs.length=n) (u:b8 L xs) :
  (Dn prog).call iM [.sl D 0 n,.d (.int .i64 n),F] ⟨hp xs,N⟩=some (.tup [],⟨hp (li C n xs),N⟩):=by
 rw[aD yX iR.eq_1 rfl,li];obtain⟨g1,g2,g3,_,g5,q,g6⟩:=apI H K n hlen N n 0 xs (by omega) (by omega) hx u;generalize Dk C n n xs 0=p at *;obtain⟨ys,a⟩:=p;simp only at g1 g2 g3 g5 g6;have h0:=JM H K n hlen a n N (by omega) (Nat.le_refl _) ys g2 g3;unfold stS;simp only;obtain⟨k1,k2,k3⟩:=arT H K n hlen N n 20 (insO C a (n-(a+1)) (a+1) ys) (by omega) (by omega) (by omega) (by rw[Tb];exact g2) (g3.insO (by omega));have c0:((0:Nat):Int)=0:=rfl;have cz:(0:Int)+20=20:=rfl;have c2:((20:Nat):Int)=20:=rfl;rw[c0,cz]at g1;rw[c2]at k1;simp (maxSteps:=300000) (disch:=omega) [↓if_pos,↓if_neg,K.sh,K.fi,g1,h0,k1]
end
def bQ (id:Nat):Nat:=if id<5 then 4 else if id=12 then 1 else 2
def bq (id:Nat):Int:=[0,-1,-1,0,0,-4,-4,0,0,0,0,0,-60].getD id 0
def aW (id:Nat):Nat:=[1,3,3,3,3,9,9,8,8,13,13,17,121].getD id 1
def aG (id:Nat):Nat:=[0,0,1,0,1,0,1,1,2,1,2,2,0].getD id 0
def gL (low:Int) (w:Nat):Nat→Nat→List Int
 | 0,_=>[]
 | d+1,e=>gL low w d (e / w)++[((e % w:Nat):Int)+low]
def iw (id e:Nat):List Int:=gL (bq id) (aW id) (bQ id) e
def Hc:List Int→Nat
 | []=>0
 | x::r=>x.natAbs+Hc r
def qy (id e:Nat):Nat:=Hc (iw id e)
def ax (id:Nat):Nat:=aW id ^ bQ id
def aoB (s:Nat):List (Nat×Nat)→List Nat
 | []=>[]
 | (e,z)::r=>match Nat.beq z s with
  | true=>e::aoB s r
  | false=>aoB s r
def aAd (id:Nat):List (Nat×Nat):=(List.range (ax id)).map fun e=>(e,qy id e)
def aS (id:Nat):List Nat:=let l:=aAd id;(List.range 61).flatMap fun s=>aoB s l
def ayi (e:Nat):Nat→List Nat→Nat
 | i,[]=>i
 | i,x::r=>match Nat.beq x e with
  | true=>i
  | false=>ayi e (i+1) r
def bF (id:Nat):List Nat:=let l:=aS id;(List.range (ax id)).map fun e=>ayi e 0 l
abbrev eY (id:Nat):Prop:=1≤id∧id≤12
abbrev iX (id:Nat):AV:=.agg [.d (.int .i64 id),.d (.int .i64 (aG id)),.d (.lst (bf (aS id))),.d (.lst (bf (bF id)))]
abbrev Nw (id:Nat):AV:=.agg [.d (.int .i64 id),.d (.int .i64 (aG id)),.own true 1 (bf (aS id)),.own true 1 (bf (bF id))]
theorem apt:∀ id∈List.range 13,aG id≤2∧(aS id).length≤300∧(bF id).length≤300∧(aS id).all (fun e=>decide (e<ax id))=true:=by decide +kernel
theorem Dx {id:Nat}(h:id≤12):aG id≤2∧(aS id).length≤300∧(bF id).length≤300∧∀ e∈aS id,e<ax id:=by
 obtain⟨a,b,c,d⟩:=apt id (by simp;omega);exact⟨a,b,c,fun e he=>by simpa using List.all_eq_true.1 d e he⟩
def ids:List Nat:=[1,2,3,4,5,6,7,8,9,10,11,12]
theorem c6 {id:Nat}(h:eY id):id∈ids:=by
 obtain⟨h1,h2⟩:=h;simp only[ids,List.mem_cons,List.not_mem_nil,or_false];omega
abbrev Rt (id:Nat):AV:=.agg [.d (.int .i64 (bQ id)),.d (.int .i64 (bq id)),.d (.int .i64 (bq id+aW id-1)),.d (.int .i64 (aG id))]
theorem IP:∀ x∈ids,aM prog xr [.d (.int .i64 x)]=some (.tup [Rt x,.d (.int .i64 0)]):=Bl 100 ids (by kernel_rfl)
theorem Ax:∀ x∈ids,aM prog eQ [Rt x]=some (.d (.int .i64 (ax x))):=Bl 100 ids (by kernel_rfl)
theorem Gt {z:List D}{n:Nat}(h:n≤1000000000):BA z (.d (.int .i64 n)) (.d (.int .i64 n))=some (.own true z.length (List.replicate n z)):=by
 have h0:¬ ((n:Int)<0):=by omega
 have h1:Nat.ble n aq=true:=Nat.ble_eq_true_of_le (Nat.le_trans h (by decide));have h2:Nat.ble n n=true:=by rw[Z8];simp
 simp only[BA,cD,h1,h2]
theorem Ls (x:Nat):aM prog kJ [.d (.int .u8 x)]=some (.d (.bool false)):=by
 rw[az OB pJ.eq_1 rfl];simp (maxSteps:=300000) (disch:=omega) [↓if_pos,↓if_neg]
theorem alB (x y:Nat):aM prog mU [.d (.int .u8 x),.d (.int .u8 y)]=some (.d (.int .i64 (if x<y then -1 else if y<x then 1 else 0))):=by
 rw[az JU mZ.eq_1 rfl];by_cases h1:x<y
 ·rw[if_pos h1];simp (maxSteps:=300000) (disch:=omega) [↓if_pos,↓if_neg,Ls]
 ·rw[if_neg h1];by_cases h2:y<x
  ·rw[if_pos h2];simp (maxSteps:=300000) (disch:=omega) [↓if_pos,↓if_neg,Ls]
  ·rw[if_neg h2];simp (maxSteps:=300000) (disch:=omega) [↓if_pos,↓if_neg,Ls]
@[simp] theorem aDG {len n S o:Nat}{k:IntKind}{z:Int}(h0:0≤z) (h:z<len):DS len n (.ptr S o) (.d (.int k z))=some (.ptr S (o+z.toNat*n)):=by
 obtain⟨i,rfl⟩:=Int.eq_ofNat_of_zero_le h0;have hl:Nat.ble len i=false:=by rw[←Bool.not_eq_true,Nat.ble_eq];omega
 show (match Nat.ble len i with | true=>none | false=>gy (i*n) (.ptr S o))=_;rw[hl];rfl
def fl (id:Nat):List Nat:=(List.range (ax id)).map fun e=>qy id e
def cC (l:List Nat) (x y:Nat):Int:=if nth l x<nth l y then -1 else if nth l y<nth l x then 1 else 0
def kR (id:Nat):List AV:=(List.range 289).map fun e=>.d (.int .u8 (if e<ax id then qy id e else 0:Nat))
theorem abe {id:Nat}:(kR id).length=289:=by simp[kR]
theorem acG {id x:Nat}(h:x<ax id) (h2:ax id≤289):(kR id)[x]?=some (.d (.int .u8 (nth (fl id) x:Nat))):=by
 have e:nth (fl id) x=qy id x:=by
  have:=sD (l:=fl id) (i:=x) (by simp[fl];exact h);rw[fl,List.getElem?_map,List.getElem?_range h]at this;simpa [fl] using this.symm
 rw[e,kR,List.getElem?_map,List.getElem?_range (by omega)];simp[h]
theorem aCU {hp:List Nat→ac}{S id:Nat}(hS:∀ xs,get (hp xs) S=some (.cells (kR id))) (h2:ax id≤289):Cm hp (ax id) (.fn uc [] [.ptr S 0]) (cC (fl id)) where
 sh:=rfl
 fi:=rfl
 cl xs N x y hx hy:=by
  have e1:=acG hx h2;have e2:=acG hy h2;show (Dn prog).call uc ([]++([.d (.int .i64 (x:Nat)),.d (.int .i64 (y:Nat))]++[.ptr S 0])) ⟨hp xs,N⟩=_;simp only[List.nil_append,List.cons_append];rw[aD ak6 Ci.eq_1 rfl];generalize kR id=Z at *;simp (maxSteps:=300000) (disch:=omega) [↓if_pos,↓if_neg,hS,e1,e2,alB,cC]
noncomputable section
theorem axq {k i:Nat}(h:k=i):Nat.beq k i=true:=by rw[Nat.beq_eq];exact h
theorem aAT {k i:Nat}(h:¬ k=i):Nat.beq k i=false:=by rw[←Bool.not_eq_true,Nat.beq_eq];exact h
def iS (l:List Nat):Nat→Nat:=List.rec (motive:=fun _=>Nat→Nat) (fun _=>0) (fun x _ ih i=>Nat.casesOn (motive:=fun _=>Nat) i x (fun k=>ih k)) l
theorem sM:∀ (l:List Nat) (i:Nat),iS l i=nth l i
 | [],i=>by simp[nth];rfl
 | x::l,0=>rfl
 | x::l,i+1=>sM l i
def ao6 (l:List Nat):Nat→Nat→List Nat:=List.rec (motive:=fun _=>Nat→Nat→List Nat) (fun _ _=>[]) (fun x r ih i v=>Nat.casesOn (motive:=fun _=>List Nat) i (v::r) (fun k=>x::ih k v)) l
theorem am2:∀ (l:List Nat) (i v:Nat),ao6 l i v=l.set i v
 | [],i,v=>rfl
 | x::l,0,v=>rfl
 | x::l,i+1,v=>by
  show x::ao6 l i v=_;rw[am2 l i v];rfl
def abQ (xs:List Nat) (i j:Nat):List Nat:=ao6 (ao6 xs i (iS xs j)) j (iS xs i)
theorem NR (xs:List Nat) (i j:Nat):abQ xs i j=swp xs i j:=by simp only[abQ,swp,am2,sM]
def Q4 (l:List Nat) (x y:Nat):Bool:=Nat.ble (Nat.succ (iS l x)) (iS l y)
theorem xO (l:List Nat) (x y:Nat):(Q4 l x y=true)=(cC l x y<0):=by
 simp only[Q4,sM,Nat.ble_eq,cC];apply propext;constructor
 ·intro h;rw[if_pos (by omega)];omega
 ·intro h;split at h
  ·omega
  ·split at h<;>omega
def N6 (a b:Nat):Nat→Nat→List Nat→List Nat
 | 0,_,xs=>xs
 | k+1,i,xs=>N6 a b k (i+1) (abQ xs (a+i) (b+i))
theorem I4 {a b:Nat}:∀ (k i:Nat) (xs:List Nat),N6 a b k i xs=swpR xs a b k i
 | 0,_,_=>rfl
 | k+1,i,xs=>by rw[N6,swpR,NR,I4]
def ajV (m:Nat):Nat→List Nat→Nat→Nat→List Nat
 | 0,xs,i,j=>xs
 | f+1,xs,i,j=>match Nat.beq i j with
  | true=>N6 (m-i) m i 0 xs
  | false=>match Nat.ble i j with
   | true=>ajV m f (N6 (m-i) (m+j-i) i 0 xs) i (j-i)
   | false=>ajV m f (N6 (m-i) m j 0 xs) (i-j) j
theorem abu {m:Nat}:∀ (f:Nat) (xs:List Nat) (i j:Nat),ajV m f xs i j=rot m f xs i j
 | 0,_,_,_=>rfl
 | f+1,xs,i,j=>by
  rw[ajV,rot];by_cases h:i=j
  ·rw[axq h,if_pos h,I4]
  ·rw[aAT h,if_neg h];by_cases h2:j<i
   ·rw[show Nat.ble i j=false by rw[←Bool.not_eq_true,Nat.ble_eq];omega,if_pos h2];simp only[abu,I4]
   ·rw[Nat.ble_eq_true_of_le (by omega:i≤j),if_neg h2];simp only[abu,I4]
section
variable (l:List Nat)
def aii (a:Nat):Nat→List Nat→List Nat
 | 0,xs=>xs
 | j+1,xs=>match Nat.ble a j with
  | false=>xs
  | true=>match Q4 l (iS xs (j+1)) (iS xs j) with
   | true=>aii a j (abQ xs (j+1) j)
   | false=>xs
theorem ajG {a:Nat}:∀ (j:Nat) (xs:List Nat),aii l a j xs=insJ (cC l) a j xs
 | 0,_=>rfl
 | j+1,xs=>by
  rw[aii,insJ];by_cases h:a≤j
  ·rw[Nat.ble_eq_true_of_le h];simp only[sM]
   cases h2:Q4 l (nth xs (j+1)) (nth xs j) with
   | true=>rw[if_pos ⟨h,by rw[←xO];exact h2⟩,←ajG,NR]
   | false=>rw[if_neg (fun q=>by have:=q.2;rw[←xO,h2]at this;exact absurd this (by simp))]
  ·rw[show Nat.ble a j=false by rw[←Bool.not_eq_true,Nat.ble_eq];exact h,if_neg (fun q=>h q.1)]
def Zb (a:Nat):Nat→Nat→List Nat→List Nat
 | 0,_,xs=>xs
 | k+1,i,xs=>Zb a k (i+1) (aii l a i xs)
theorem RI {a:Nat}:∀ (k i:Nat) (xs:List Nat),Zb l a k i xs=insO (cC l) a k i xs
 | 0,_,_=>rfl
 | k+1,i,xs=>by rw[Zb,insO,ajG,RI]
def aiF (xs:List Nat) (a:Nat):Nat→Nat→Nat→Nat
 | 0,i,_=>i
 | f+1,i,j=>match Nat.ble j i with
  | true=>i
  | false=>match Q4 l (iS xs ((i+j) / 2)) (iS xs a) with
   | true=>aiF xs a f ((i+j) / 2+1) j
   | false=>aiF xs a f i ((i+j) / 2)
theorem adi {xs:List Nat}{a:Nat}:∀ (f i j:Nat),aiF l xs a f i j=GD (cC l) xs a f i j
 | 0,_,_=>rfl
 | f+1,i,j=>by
  rw[aiF,GD];by_cases h:i<j
  ·rw[show Nat.ble j i=false by rw[←Bool.not_eq_true,Nat.ble_eq];omega,if_pos h];simp only[sM]
   cases h2:Q4 l (nth xs ((i+j) / 2)) (nth xs a) with
   | true=>rw[if_pos (by rw[←xO];exact h2)];simp only[adi]
   | false=>rw[if_neg (by rw[←xO,h2];simp)];simp only[adi]
  ·rw[Nat.ble_eq_true_of_le (by omega:j≤i),if_neg h]
def ajx (xs:List Nat) (m:Nat):Nat→Nat→Nat→Nat
 | 0,i,_=>i
 | f+1,i,j=>match Nat.ble j i with
  | true=>i
  | false=>match Q4 l (iS xs m) (iS xs ((i+j) / 2)) with
   | true=>ajx xs m f i ((i+j) / 2)
   | false=>ajx xs m f ((i+j) / 2+1) j
theorem abO {xs:List Nat}{m:Nat}:∀ (f i j:Nat),ajx l xs m f i j=F2 (cC l) xs m f i j
 | 0,_,_=>rfl
 | f+1,i,j=>by
  rw[ajx,F2];by_cases h:i<j
  ·rw[show Nat.ble j i=false by rw[←Bool.not_eq_true,Nat.ble_eq];omega,if_pos h];simp only[sM]
   cases h2:Q4 l (nth xs m) (nth xs ((i+j) / 2)) with
   | true=>rw[if_pos (by rw[←xO];exact h2)];simp only[abO]
   | false=>rw[if_neg (by rw[←xO,h2];simp)];simp only[abO]
  ·rw[Nat.ble_eq_true_of_le (by omega:j≤i),if_neg h]
def ab5 (xs:List Nat) (p:Nat):Nat→Nat→Nat→Nat
 | 0,i,_=>i
 | f+1,i,j=>match Nat.ble j i with
  | true=>i
  | false=>match Q4 l (iS xs (p-(i+j) / 2)) (iS xs ((i+j) / 2)) with
   | true=>ab5 xs p f i ((i+j) / 2)
   | false=>ab5 xs p f ((i+j) / 2+1) j
theorem adI {xs:List Nat}{p:Nat}:∀ (f i j:Nat),ab5 l xs p f i j=kY (cC l) xs p f i j
 | 0,_,_=>rfl
 | f+1,i,j=>by
  rw[ab5,kY];by_cases h:i<j
  ·rw[show Nat.ble j i=false by rw[←Bool.not_eq_true,Nat.ble_eq];omega,if_pos h];simp only[sM]
   cases h2:Q4 l (nth xs (p-(i+j) / 2)) (nth xs ((i+j) / 2)) with
   | true=>rw[if_pos (by rw[←xO];exact h2)];simp only[adI]
   | false=>rw[if_neg (by rw[←xO,h2];simp)];simp only[adI]
  ·rw[Nat.ble_eq_true_of_le (by omega:j≤i),if_neg h]
def an2:Nat→Nat→List Nat→List Nat
 | 0,_,xs=>xs
 | n+1,k,xs=>an2 n (k+1) (abQ xs k (k+1))
theorem ana:∀ (n k:Nat) (xs:List Nat),an2 n k xs=shU n k xs
 | 0,_,_=>rfl
 | n+1,k,xs=>by rw[an2,shU,NR,ana]
def apo:Nat→Nat→List Nat→List Nat
 | 0,_,xs=>xs
 | n+1,k,xs=>apo n (k-1) (abQ xs k (k-1))
theorem amU:∀ (n k:Nat) (xs:List Nat),apo n k xs=shD n k xs
 | 0,_,_=>rfl
 | n+1,k,xs=>by rw[apo,shD,NR,amU]
def Ni:Nat→List Nat→Nat→Nat→Nat→List Nat
 | 0,xs,_,_,_=>xs
 | f+1,xs,a,m,b =>
  if m-a=1 then an2 (aiF l xs a (b-m) m b-1-a) a xs
  else if b-m=1 then apo (m-ajx l xs m (m-a) a m) m xs
  else
   let s:=if (a+b) / 2<m then ab5 l xs ((a+b) / 2+m-1) (b-a) ((a+b) / 2+m-b) ((a+b) / 2) else ab5 l xs ((a+b) / 2+m-1) (b-a) a m
   let e:=(a+b) / 2+m-s
   let ys:=if s<m∧m<e then ajV m (e-s) xs (m-s) (e-m) else xs
   let zs:=if a<s∧s<(a+b) / 2 then Ni f ys a s ((a+b) / 2) else ys
   if (a+b) / 2<e∧e<b then Ni f zs ((a+b) / 2) e b else zs
theorem S6:∀ (f:Nat) (xs:List Nat) (a m b:Nat),Ni l f xs a m b=symM (cC l) f xs a m b
 | 0,_,_,_,_=>rfl
 | f+1,xs,a,m,b=>by
  rw[Ni,symM];simp only[ana,amU,adi,abO,adI,abu,S6 f]
def aj9 (n:Nat):Nat→List Nat→Nat→List Nat×Nat
 | 0,xs,a=>(xs,a)
 | f+1,xs,a=>if a+20≤n then aj9 n f (Zb l a 19 (a+1) xs) (a+20) else (xs,a)
theorem amW {n:Nat}:∀ (f:Nat) (xs:List Nat) (a:Nat),aj9 l n f xs a=Dk (cC l) n f xs a
 | 0,_,_=>rfl
 | f+1,xs,a=>by rw[aj9,Dk];simp only[RI,amW f]
def aiZ (n bs:Nat):Nat→List Nat→Nat→List Nat×Nat
 | 0,xs,a=>(xs,a)
 | f+1,xs,a=>if a+2*bs≤n then aiZ n bs f (Ni l (2*bs) xs a (a+bs) (a+2*bs)) (a+2*bs) else (xs,a)
theorem am0 {n bs:Nat}:∀ (f:Nat) (xs:List Nat) (a:Nat),aiZ l n bs f xs a=JK (cC l) n bs f xs a
 | 0,_,_=>rfl
 | f+1,xs,a=>by rw[aiZ,JK];simp only[S6,am0 f]
def aom (n bs:Nat) (p:List Nat×Nat):List Nat:=if p.2+bs<n then Ni l (n-p.2) p.1 p.2 (p.2+bs) n else p.1
theorem avj {n bs:Nat}(p:List Nat×Nat):aom l n bs p=stE (cC l) n bs p:=by rw[aom,stE];simp only[S6]
def at5 (n:Nat) (p:List Nat×Nat):List Nat:=Zb l p.2 (n-(p.2+1)) (p.2+1) p.1
theorem axg {n:Nat}(p:List Nat×Nat):at5 l n p=stS (cC l) n p:=RI l _ _ _
def MI (n:Nat):Nat→List Nat→Nat→List Nat
 | 0,xs,_=>xs
 | f+1,xs,bs=>if bs<n then MI n f (aom l n bs (aiZ l n bs n xs 0)) (2*bs) else xs
theorem anr {n:Nat}:∀ (f:Nat) (xs:List Nat) (bs:Nat),MI l n f xs bs=XI (cC l) n f xs bs
 | 0,_,_=>rfl
 | f+1,xs,bs=>by rw[MI,XI];simp only[avj,am0,anr f]
def abH (n:Nat) (xs:List Nat):List Nat:=MI l n n (at5 l n (aj9 l n n xs 0)) 20
theorem me {n:Nat}(xs:List Nat):abH l n xs=li (cC l) n xs:=by rw[abH,li,anr,axg,amW]
def rnd (n bs:Nat) (xs:List Nat):List Nat:=aom l n bs (aiZ l n bs n xs 0)
end
end
theorem st1:li (cC (fl 1)) (ax 1) (List.range (ax 1))=aS 1:=by rw[←me];decide +kernel
theorem st3:li (cC (fl 3)) (ax 3) (List.range (ax 3))=aS 3:=by rw[←me];decide +kernel
theorem st5:li (cC (fl 5)) (ax 5) (List.range (ax 5))=aS 5:=by rw[←me];decide +kernel
theorem st7:li (cC (fl 7)) (ax 7) (List.range (ax 7))=aS 7:=by rw[←me];decide +kernel
theorem aC2:li (cC (fl 12)) (ax 12) (List.range (ax 12))=aS 12:=by rw[←me];decide +kernel
theorem st9:li (cC (fl 9)) (ax 9) (List.range (ax 9))=aS 9:=by rw[←me];decide +kernel
noncomputable section
def aup:List Nat:=[0,1,17,2,18,3,19,4,5,6,7,8,9,10,11,12,13,14,15,16,34,35,20,36,21,37,22,38,23,39,24,25,26,27,28,29,30,31,32,33,51,52,53,54,55,40,56,41,57,42,58,43,59,44,45,46,47,48,49,50,68,69,70,71,72,73,74,75,60,76,61,77,62,78,63,79,64,65,66,67,85,86,87,88,89,90,91,92,93,94,95,80,96,81,97,82,98,83,99,84,102,103,119,104,105,106,107,108,109,110,111,112,113,114,115,100,116,101,117,118,120,136,121,137,122,138,123,139,124,125,126,127,128,129,130,131,132,133,134,135,153,154,155,140,156,141,157,142,158,143,159,144,145,146,147,148,149,150,151,152,170,171,172,173,174,175,160,176,161,177,162,178,163,179,164,165,166,167,168,169,187,188,189,190,191,192,193,194,195,180,196,181,197,182,198,183,199,184,185,186,204,205,206,207,208,209,210,211,212,213,214,215,200,216,201,217,202,218,203,219,221,222,238,223,239,224,225,226,227,228,229,230,231,232,233,234,235,220,236,237,255,240,256,241,257,242,258,243,259,244,245,246,247,248,249,250,251,252,253,254,272,273,274,275,260,276,261,277,262,278,263,279,264,265,266,267,268,269,270,271,280,281,282,283,284,285,286,287,288]
def auN:List Nat:=[0,1,17,2,18,34,3,19,35,4,20,36,5,21,37,6,22,38,7,23,39,8,24,9,25,10,26,11,27,12,28,13,29,14,30,15,31,16,32,33,51,52,68,53,69,54,70,55,71,40,56,72,41,57,73,42,58,74,43,59,75,44,60,76,45,61,77,46,62,78,47,63,79,48,64,49,65,50,66,67,85,86,102,87,103,119,88,104,89,105,90,106,91,107,92,108,93,109,94,110,95,111,80,96,112,81,97,113,82,98,114,83,99,115,84,100,116,101,117,118,120,136,121,137,153,122,138,154,123,139,155,124,140,156,125,141,157,126,142,158,127,143,159,128,144,129,145,130,146,131,147,132,148,133,149,134,150,135,151,152,170,171,187,172,188,173,189,174,190,175,191,160,176,192,161,177,193,162,178,194,163,179,195,164,180,196,165,181,197,166,182,198,167,183,199,168,184,169,185,186,204,205,221,206,222,238,207,223,239,208,224,209,225,210,226,211,227,212,228,213,229,214,230,215,231,200,216,232,201,217,233,202,218,234,203,219,235,220,236,237,255,240,256,272,241,257,273,242,258,274,243,259,275,244,260,276,245,261,277,246,262,278,247,263,279,248,264,249,265,250,266,251,267,252,268,253,269,254,270,271,280,281,282,283,284,285,286,287,288]
def auK:List Nat:=[0,1,17,2,18,34,3,19,35,51,4,20,36,52,68,5,21,37,53,69,6,22,38,54,70,7,23,39,55,71,8,24,40,56,72,9,25,41,57,73,10,26,42,58,74,11,27,43,59,75,12,28,44,60,76,13,29,45,61,77,14,30,46,62,78,15,31,47,63,79,16,32,48,64,33,49,65,50,66,67,85,86,102,87,103,119,88,104,120,136,89,105,121,137,153,90,106,122,138,154,91,107,123,139,155,92,108,124,140,156,93,109,125,141,157,94,110,126,142,158,95,111,127,143,159,80,96,112,128,144,81,97,113,129,145,82,98,114,130,146,83,99,115,131,147,84,100,116,132,148,101,117,133,149,118,134,150,135,151,152,170,171,187,172,188,204,173,189,205,221,174,190,206,222,238,175,191,207,223,239,160,176,192,208,224,161,177,193,209,225,162,178,194,210,226,163,179,195,211,227,164,180,196,212,228,165,181,197,213,229,166,182,198,214,230,167,183,199,215,231,168,184,200,216,232,169,185,201,217,233,186,202,218,234,203,219,235,220,236,237,255,240,256,272,241,257,273,242,258,274,243,259,275,244,260,276,245,261,277,246,262,278,247,263,279,248,264,280,249,265,281,250,266,282,251,267,283,252,268,284,253,269,285,254,270,286,271,287,288]
def aum:List Nat:=[0,1,17,2,18,34,3,19,35,51,4,20,36,52,68,5,21,37,53,69,85,6,22,38,54,70,86,102,7,23,39,55,71,87,103,119,8,24,40,56,72,88,104,120,136,9,25,41,57,73,89,105,121,137,153,10,26,42,58,74,90,106,122,138,154,11,27,43,59,75,91,107,123,139,155,12,28,44,60,76,92,108,124,140,156,13,29,45,61,77,93,109,125,141,157,14,30,46,62,78,94,110,126,142,158,15,31,47,63,79,95,111,127,143,159,16,32,48,64,80,96,112,128,144,33,49,65,81,97,113,129,145,50,66,82,98,114,130,146,67,83,99,115,131,147,84,100,116,132,148,101,117,133,149,118,134,150,135,151,152,170,171,187,172,188,204,173,189,205,221,174,190,206,222,238,175,191,207,223,239,255,160,176,192,208,224,240,256,272,161,177,193,209,225,241,257,273,162,178,194,210,226,242,258,274,163,179,195,211,227,243,259,275,164,180,196,212,228,244,260,276,165,181,197,213,229,245,261,277,166,182,198,214,230,246,262,278,167,183,199,215,231,247,263,279,168,184,200,216,232,248,264,280,169,185,201,217,233,249,265,281,186,202,218,234,250,266,282,203,219,235,251,267,283,220,236,252,268,284,237,253,269,285,254,270,286,271,287,288]
theorem aBg:at5 (fl 11) 289 (aj9 (fl 11) 289 289 (List.range 289) 0)=aup:=by decide +kernel
theorem aA1:rnd (fl 11) 289 20 aup=auN:=by decide +kernel
theorem aAP:rnd (fl 11) 289 40 auN=auK:=by decide +kernel
theorem aA7:rnd (fl 11) 289 80 auK=aum:=by decide +kernel
theorem aBh:rnd (fl 11) 289 160 aum=aS 11:=by decide +kernel
theorem aC8:li (cC (fl 11)) 289 (List.range 289)=aS 11:=by
 rw[←me,abH,aBg];have u:∀ (f:Nat) (xs:List Nat) (bs:Nat),bs<289→MI (fl 11) 289 (f+1) xs bs=MI (fl 11) 289 f (rnd (fl 11) 289 bs xs) (2*bs):=fun f xs bs h=>by rw[MI,if_pos h];rfl
 rw[u 288 _ _ (by omega),aA1,u 287 _ _ (by omega),aAP,u 286 _ _ (by omega),aA7,u 285 _ _ (by omega),aBh];rw[show (285:Nat)=284+1 from rfl,MI,if_neg (by omega)]
end
theorem asO:fl 2=fl 1∧fl 4=fl 3∧fl 6=fl 5∧fl 8=fl 7∧fl 10=fl 9:=⟨rfl,rfl,rfl,rfl,rfl⟩
theorem anW:aS 2=aS 1∧aS 4=aS 3∧aS 6=aS 5∧aS 8=aS 7∧aS 10=aS 9:=⟨rfl,rfl,rfl,rfl,rfl⟩
theorem axG (id:Nat) (h:eY id):li (cC (fl id)) (ax id) (List.range (ax id))=aS id:=by
 obtain⟨p2,p4,p6,p8,p10⟩:=asO;obtain⟨q2,q4,q6,q8,q10⟩:=anW;have h1:id=1∨id=2∨id=3∨id=4∨id=5∨id=6∨id=7∨id=8∨id=9∨id=10∨id=11∨id=12:=by omega
 rcases h1 with rfl | rfl | rfl | rfl | rfl | rfl | rfl | rfl | rfl | rfl | rfl | rfl
 ·exact st1
 ·rw[p2,q2];exact st1
 ·exact st3
 ·rw[p4,q4];exact st3
 ·exact st5
 ·rw[p6,q6];exact st5
 ·exact st7
 ·rw[p8,q8];exact st7
 ·exact st9
 ·rw[p10,q10];exact st9
 ·exact aC8
 ·exact aC2
theorem anz:∀ id∈ids,ax id≤289∧ax id % 20≠0∧1≤ax id:=by decide +kernel
def rks (es:List Nat):Nat→Nat→List Nat→List Nat
 | 0,_,R=>R
 | k+1,i,R=>rks es k (i+1) (R.set (nth es i) i)
theorem axd:∀ id∈ids,rks (aS id) (ax id) 0 (List.replicate (ax id) 0)=bF id:=by decide +kernel
theorem amH:∀ id∈ids,(aS id).length=ax id∧(bF id).length=ax id∧(aS id).all (fun e=>decide (e<ax id))=true:=by decide +kernel
def ym (n i:Nat):List Nat:=List.range i++List.replicate (n-i) 0
theorem atT {n i:Nat}(h:i≤n):(ym n i).length=n:=by simp[ym];omega
theorem atA {n i:Nat}(h:i<n):(ym n i).set i i=ym n (i+1):=by
 unfold ym;obtain⟨k,hk⟩:∃ k,n-i=k+1:=⟨n-i-1,by omega⟩
 rw[hk,List.replicate_succ,List.set_append_right _ _ (by simp),List.length_range,Nat.sub_self,List.set_cons_zero,List.range_succ,List.append_assoc]
 congr 2
 rw[show n-(i+1)=k by omega];rfl
section
variable (id n:Nat) (Z:List AV)
theorem amh (hn:n≤289) (R:List Nat) (a b c d:AV) (x0 x1:D) (N:Nat):∀ (k i:Nat),i+k=n→
  (Dn prog).code (.loop ql) ⟨[(2,.ptr 0 0),(6,.ptr 4 0),(7,.ptr 5 0),(34,.d (.int .i64 n)),(35,.d (.int .i64 i))],
   ⟨[(0,.cells [a,b,c,d]),(2,.arr 1 (bf (ym n i))),(3,.arr 1 (bf R)),(4,.cells [.d x0,.d x1,.sl 2 0 n,.sl 3 0 n]),(5,.cells Z)],N⟩⟩ =
  some (.exit 0,⟨[(2,.ptr 0 0),(6,.ptr 4 0),(7,.ptr 5 0)],⟨[(0,.cells [a,b,c,d]),(2,.arr 1 (bf (ym n n))),(3,.arr 1 (bf R)),(4,.cells [.d x0,.d x1,.sl 2 0 n,.sl 3 0 n]),(5,.cells Z)],N⟩⟩):=by
 intro k
 induction k with
 | zero =>
  intro i h;have:i=n:=by omega
  subst this;rw[aa ql.eq_1];simp (maxSteps:=300000) (disch:=omega) [↓if_pos,↓if_neg]
 | succ k ih =>
  intro i h;have l:=atT (n:=n) (i:=i) (by omega);have h5:=ih (i+1) (by omega);have c1:((i+1:Nat):Int)=(i:Int)+1:=rfl;rw[c1]at h5;rw[aa ql.eq_1,←h5,←atA (by omega)];generalize ym n i=xs at *;simp (maxSteps:=300000) (disch:=omega) [↓if_pos,↓if_neg]
theorem alO (hn:n≤289) (es:List Nat) (he:es.length=n) (hu:b8 n es) (a b c d:AV) (x0 x1:D) (N:Nat):∀ (k i:Nat) (R:List Nat),i+k=n→R.length=n→
  (Dn prog).code (.loop qf) ⟨[(2,.ptr 0 0),(6,.ptr 4 0),(49,.sl 2 0 n),(50,.d (.int .i64 n)),(51,.d (.int .i64 i))],
   ⟨[(0,.cells [a,b,c,d]),(2,.arr 1 (bf es)),(3,.arr 1 (bf R)),(4,.cells [.d x0,.d x1,.sl 2 0 n,.sl 3 0 n]),(5,.cells Z)],N⟩⟩ =
  some (.exit 2,⟨[(2,.ptr 0 0),(6,.ptr 4 0)],⟨[(0,.cells [a,b,c,d]),(2,.arr 1 (bf es)),(3,.arr 1 (bf (rks es k i R))),(4,.cells [.d x0,.d x1,.sl 2 0 n,.sl 3 0 n]),(5,.cells Z)],N⟩⟩):=by
 intro k
 induction k with
 | zero =>
  intro i R h hR;rw[aa qf.eq_1];simp (maxSteps:=300000) (disch:=omega) [↓if_pos,↓if_neg,rks]
 | succ k ih =>
  intro i R h hR;have h5:=ih (i+1) (R.set (nth es i) i) (by omega) (by simpa using hR);have c1:((i+1:Nat):Int)=(i:Int)+1:=rfl;have hv:=hu.nth (i:=i) (by omega);rw[c1]at h5;rw[aa qf.eq_1,rks,←h5];simp (maxSteps:=300000) (disch:=omega) [↓if_pos,↓if_neg]
end
@[simp] theorem aEc {h:ac}{n id off:Nat}{k:IntKind}{z:Int}(h0:0≤z) (h1:z≤n):Nc h n (.ptr id off) none (some (.d (.int k z))) none=bA (get h id) fun o=>bA (cellsOf o) fun cs=>bI (Nat.ble (off+n) cs.length) (some (.sl id off z.toNat)):=by
 obtain⟨d,rfl⟩:=Int.eq_ofNat_of_zero_le h0;have hd:Nat.ble d n=true:=Nat.ble_eq_true_of_le (by omega);have hb:uD n none (some (.d (.int k (d:Int)))) none=some (0,d,n):=by
  show (match (match Nat.ble d n with | true=>some d | false=>none) with | none=>none | some h=>qh none h n)=_;rw[hd];rfl
 simp only[Nc,N4]
 cases get h id with
 | none=>rfl
 | some o =>
  cases o with
  | cells cs =>
   simp only[bA,cellsOf,hb]
   cases Nat.ble (off+n) cs.length<;>simp[bI]
  | arr=>rfl
  | loop=>rfl
def vc (V:List Int):List AV:=V.map fun z=>.d (.int .i64 z)
theorem KH {V:List Int}:(vc V).length=V.length:=by simp[vc]
theorem aq1 {V:List Int}{i:Nat}(h:i<V.length):(vc V)[i]?=some (.d (.int .i64 (nth V i))):=by
 rw[vc,List.getElem?_map,sD h];rfl
theorem axF {V:List Int}{i:Nat}{z:Int}:(vc V).set i (.d (.int .i64 z))=vc (V.set i z):=by simp[vc,List.map_set]
theorem akd {V:List Int}{i:Nat}{z:Int}(h:i<V.length):List.take i (vc V)++AV.d (.int .i64 z)::List.drop (i+1) (vc V)=vc (V.set i z):=by
 rw[←axF,List.set_eq_take_append_cons_drop,if_pos (by rw[KH];exact h)]
def odo (lo hi:Int):Nat→List Int→List Int
 | 0,V=>V
 | i+1,V=>if nth V i+1≤hi then V.set i (nth V i+1) else odo lo hi i (V.set i lo)
abbrev Sm (V:List Int):Prop:=∀ z∈V,-100000≤z∧z≤100000
section
variable (k1:AV) (dm lo hi pl:Int) (aX:List AV) (N:Nat)
theorem asM (d n m:Nat) (hd:d≤4) (V:List Int) (hV:V.length=4) (hs:Sm V):∀ (k i sum:Nat),i+k=d→sum≤1000000*(i+1)→
  (Dn prog).code (.loop iW) ⟨[(1,.ptr 0 0),(2,.ptr 1 0),(3,.ptr 2 0),(5,.d (.int .i64 n)),(6,.d (.int .i64 sum)),(21,.d (.int .i64 m)),(22,.d (.int .i64 n)),(27,.sl 2 0 d),(28,.d (.int .i64 d)),(29,.d (.int .i64 i))],
   ⟨[(0,.cells [.d (.int .i64 dm),.d (.int .i64 lo),.d (.int .i64 hi),.d (.int .i64 pl)]),(1,.cells aX),(2,.cells (vc V))],N⟩⟩ =
  some (.exit 4,⟨[(1,.ptr 0 0),(2,.ptr 1 0),(3,.ptr 2 0),(5,.d (.int .i64 n)),(6,.d (.int .i64 (sum+Hc ((V.take d).drop i):Nat))),(21,.d (.int .i64 m)),(22,.d (.int .i64 n))],
   ⟨[(0,.cells [.d (.int .i64 dm),.d (.int .i64 lo),.d (.int .i64 hi),.d (.int .i64 pl)]),(1,.cells aX),(2,.cells (vc V))],N⟩⟩):=by
 intro k
 induction k with
 | zero =>
  intro i sum h1 h2;have e:(V.take d).drop i=[]:=List.drop_eq_nil_of_le (by simp;omega);rw[aa iW.eq_1,e];simp (maxSteps:=300000) (disch:=omega) [↓if_pos,↓if_neg,Hc]
 | succ k ih =>
  intro i sum h1 h2;have hg:=aq1 (V:=V) (i:=i) (by omega);have hb:=hs (nth V i) (fk (by omega));have e:(V.take d).drop i=nth V i::(V.take d).drop (i+1):=by
   rw[List.drop_eq_getElem_cons (by simp;omega)]
   congr 1
   rw[List.getElem_take,ajv (by omega)]
  have h5:=ih (i+1) (sum+(nth V i).natAbs) (by omega) (by omega);have es:sum+Hc ((V.take d).drop i)=sum+(nth V i).natAbs+Hc ((V.take d).drop (i+1)):=by rw[e,Hc];omega
  rw[es];have c1:((i+1:Nat):Int)=(i:Int)+1:=rfl;rw[c1]at h5;rw[aa iW.eq_1,←h5];generalize nth V i=z at *;by_cases hz:z<0
  ·have c2:((sum+z.natAbs:Nat):Int)=(sum:Int)+-z:=by omega
   rw[c2];simp (maxSteps:=300000) (disch:=omega) [↓if_pos,↓if_neg,hg]
  ·have c2:((sum+z.natAbs:Nat):Int)=(sum:Int)+z:=by omega
   rw[c2];simp (maxSteps:=300000) (disch:=omega) [↓if_pos,↓if_neg,hg]
theorem asC (n m:Nat) (hlo:-1000≤lo∧lo≤1000):∀ (j:Nat) (V:List Int),j≤4→V.length=4→Sm V→
  (Dn prog).code (.loop iY) ⟨[(1,.ptr 0 0),(2,.ptr 1 0),(3,.ptr 2 0),(9,.d (.int .i64 ((j:Int)-1))),(21,.d (.int .i64 m)),(22,.d (.int .i64 n))],
   ⟨[(0,.cells [.d (.int .i64 dm),.d (.int .i64 lo),.d (.int .i64 hi),.d (.int .i64 pl)]),(1,.cells aX),(2,.cells (vc V))],N⟩⟩ =
  some (.exit 6,⟨[(1,.ptr 0 0),(2,.ptr 1 0),(3,.ptr 2 0),(21,.d (.int .i64 m)),(22,.d (.int .i64 n))],
   ⟨[(0,.cells [.d (.int .i64 dm),.d (.int .i64 lo),.d (.int .i64 hi),.d (.int .i64 pl)]),(1,.cells aX),(2,.cells (vc (odo lo hi j V)))],N⟩⟩):=by
 intro j
 induction j with
 | zero =>
  intro V h1 hV hs;rw[aa iY.eq_1];simp (maxSteps:=300000) (disch:=omega) [↓if_pos,↓if_neg,odo]
 | succ j ih =>
  intro V h1 hV hs;have hg:=aq1 (V:=V) (i:=j) (by omega);have hb:=hs (nth V j) (fk (by omega));have hgs:∀ z,(vc (V.set j z))[j]?=some (.d (.int .i64 z)):=fun z=>by
   rw[vc,List.getElem?_map,List.getElem?_set_self (by omega)];rfl
  have c1:((j+1:Nat):Int)-1=(j:Int):=by omega
  have lp:=fun z=>akd (V:=V) (i:=j) (z:=z) (by omega)
  have lq:=fun y z=>akd (V:=V.set j y) (i:=j) (z:=z) (by simp;omega)
  have hss:∀ y z,(V.set j y).set j z=V.set j z:=fun y z=>List.set_set ..
  have hl2:∀ y,(V.set j y).length=4:=fun y=>by simpa using hV
  rw[c1,aa iY.eq_1,odo];by_cases h:nth V j+1≤hi
  ·rw[if_pos h];generalize nth V j=z at *;simp (maxSteps:=300000) (disch:=omega) [↓if_pos,↓if_neg,hg,KH,lp,lq,hss,hl2,hV,hgs]
  ·have h5:=ih (V.set j lo) (by omega) (by simpa using hV) (fun z hz=>by
    rcases List.mem_or_eq_of_mem_set hz with g | g
    ·exact hs z g
    ·subst g;omega)
   rw[if_neg h,←h5];generalize nth V j=z at *;simp (maxSteps:=300000) (disch:=omega) [↓if_pos,↓if_neg,hg,KH,lp,lq,hss,hl2,hV,hgs]
def XP (lo:Int):Nat→Nat→List Int→List Int
 | 0,_,V=>V
 | k+1,i,V=>XP lo k (i+1) (V.set i lo)
theorem asH (d:Nat) (hd:d≤4):∀ (k i:Nat) (V:List Int),i+k=d→V.length=4→
  (Dn prog).code (.loop i9) ⟨[(1,.ptr 0 0),(2,.ptr 1 0),(3,.ptr 2 0),(11,.d (.int .i64 d)),(12,.d (.int .i64 i))],
   ⟨[(0,.cells [.d (.int .i64 dm),.d (.int .i64 lo),.d (.int .i64 hi),.d (.int .i64 pl)]),(1,.cells aX),(2,.cells (vc V))],N⟩⟩ =
  some (.exit 0,⟨[(1,.ptr 0 0),(2,.ptr 1 0),(3,.ptr 2 0)],
   ⟨[(0,.cells [.d (.int .i64 dm),.d (.int .i64 lo),.d (.int .i64 hi),.d (.int .i64 pl)]),(1,.cells aX),(2,.cells (vc (XP lo k i V)))],N⟩⟩):=by
 intro k
 induction k with
 | zero =>
  intro i V h1 hV;rw[aa i9.eq_1];simp (maxSteps:=300000) (disch:=omega) [↓if_pos,↓if_neg,XP]
 | succ k ih =>
  intro i V h1 hV;have lp:=fun z=>akd (V:=V) (i:=i) (z:=z) (by omega)
  have h5:=ih (i+1) (V.set i lo) (by omega) (by simpa using hV);have c1:((i+1:Nat):Int)=(i:Int)+1:=rfl;rw[c1]at h5;rw[aa i9.eq_1,XP,←h5];simp (maxSteps:=300000) (disch:=omega) [↓if_pos,↓if_neg,KH,lp,hV]
end
def sO (id n:Nat):List Int:=(iw id n++[0,0,0,0]).take 4
def aun (id n:Nat):Bool:=decide (odo (bq id) (bq id+aW id-1) (bQ id) (sO id n)=sO id (n+1)) && decide (Hc ((sO id n).take (bQ id))=qy id n) && decide (qy id n≤255) &&
 (sO id n).all (fun z=>decide (-100000≤z) && decide (z≤100000)) && decide ((sO id n).length=4)
theorem aws:∀ id∈ids,(List.range (ax id)).all (aun id)=true:=by decide +kernel
theorem ayT {id n:Nat}(h:eY id) (hn:n<ax id):odo (bq id) (bq id+aW id-1) (bQ id) (sO id n)=sO id (n+1)∧Hc ((sO id n).take (bQ id))=qy id n∧qy id n≤255∧Sm (sO id n)∧(sO id n).length=4:=by
 have:=List.all_eq_true.1 (aws id (c6 h)) n (by simpa using hn);simp only[aun,Bool.and_eq_true,decide_eq_true_eq,List.all_eq_true]at this;exact⟨this.1.1.1.1,this.1.1.1.2,this.1.1.2,fun z hz=>this.1.2 z hz,this.2⟩
theorem au0:∀ id∈ids,XP (bq id) (bQ id) 0 [0,0,0,0]=sO id 0∧bQ id≤4∧1≤bQ id∧-1000≤bq id∧bq id≤1000∧ax id≤289:=by decide +kernel
def lS (id n:Nat):List AV:=(List.range 289).map fun e=>.d (.int .u8 (if e<n then qy id e else 0:Nat))
theorem Um {id n:Nat}:(lS id n).length=289:=by simp[lS]
theorem as6 {id n:Nat}(h:n<289):List.take n (lS id n)++AV.d (.int .u8 (qy id n:Nat))::List.drop (n+1) (lS id n)=lS id (n+1):=by
 have e:(lS id n).set n (AV.d (.int .u8 (qy id n:Nat)))=lS id (n+1):=by
  apply List.ext_getElem?;intro j;rw[List.getElem?_set];by_cases hj:n=j
  ·subst hj;rw[if_pos rfl,if_pos (by rw[Um];exact h),lS,List.getElem?_map,List.getElem?_range h];simp
  ·rw[if_neg hj,lS,lS,List.getElem?_map,List.getElem?_map];by_cases hl:j<289
   ·rw[List.getElem?_range hl];simp only[Option.map_some];by_cases h2:j<n
    ·rw[if_pos h2,if_pos (by omega)]
    ·rw[if_neg h2,if_neg (by omega)]
   ·rw[List.getElem?_eq_none (by simp;omega)];rfl
 rw[←e,List.set_eq_take_append_cons_drop,if_pos (by rw[Um];exact h)]
theorem asI (id:Nat) (h:eY id) (pl:Int) (N:Nat):∀ (k n:Nat),n+k=ax id→
  (Dn prog).code (.loop iZ) ⟨[(1,.ptr 0 0),(2,.ptr 1 0),(3,.ptr 2 0),(21,.d (.int .i64 (ax id))),(22,.d (.int .i64 n))],
   ⟨[(0,.cells [.d (.int .i64 (bQ id)),.d (.int .i64 (bq id)),.d (.int .i64 (bq id+aW id-1)),.d (.int .i64 pl)]),(1,.cells (lS id n)),(2,.cells (vc (sO id n)))],N⟩⟩ =
  some (.exit 2,⟨[(2,.ptr 1 0)],⟨[(1,.cells (lS id (ax id))),(2,.cells (vc (sO id (ax id))))],N⟩⟩):=by
 obtain⟨d0,d1,d2,d3,d4,d5⟩:=au0 id (c6 h);intro k
 induction k with
 | zero =>
  intro n hn;have:n=ax id:=by omega
  subst this;rw[aa iZ.eq_1];simp (maxSteps:=300000) (disch:=omega) [↓if_pos,↓if_neg]
 | succ k ih =>
  intro n hn;obtain⟨f1,f2,f3,f4,f5⟩:=ayT (n:=n) h (by omega);have g1:=asM (bQ id) (bq id) (bq id+aW id-1) pl (lS id n) N (bQ id) n (ax id) d1 (sO id n) f5 f4 (bQ id) 0 0 (by omega) (by omega);have g2:=asC (bQ id) (bq id) (bq id+aW id-1) pl (lS id (n+1)) N n (ax id) ⟨d3,d4⟩ (bQ id) (sO id n) d1 f5 f4;rw[f1]at g2;rw[List.drop_zero,f2,Nat.zero_add]at g1;have h5:=ih (n+1) (by omega);have c1:((n+1:Nat):Int)=(n:Int)+1:=rfl;have c0:((0:Nat):Int)=0:=rfl;rw[c1]at h5;rw[c0]at g1;have hp:=as6 (id:=id) (n:=n) (by omega);have hl:=KH (V:=sO id n);have ol:=Um (id:=id) (n:=n);rw[aa iZ.eq_1,←h5];generalize qy id n=z at *;generalize hA:lS id n=A at *;generalize hB:lS id (n+1)=B at *;generalize sO id n=V at *;generalize sO id (n+1)=W at *;simp (maxSteps:=300000) (disch:=omega) [↓if_pos,↓if_neg,g1,g2,hp,AV.int]
def EU:List AV:=List.replicate 289 (.d (.int .u8 0))
theorem aj6:EU.length=289:=by simp[EU]
theorem axE {id:Nat}:lS id 0=EU:=by
 simp only[lS,Nat.not_lt_zero,if_false,EU];rw[List.map_const',List.length_range];rfl
theorem ar8 {id:Nat}:lS id (ax id)=kR id:=rfl
theorem aAJ {x0:AV}{h:ac}{n:Nat}:(Dn prog).code mh ⟨[(0,x0)],⟨h,n⟩⟩=bp (bI ((AV.cells x0).all bJ) <| lA (put h n (.cells (AV.cells x0))) fun h1=>lA (put h1 (n+1) (.cells EU)) fun h2=>some ⟨[(1,.ptr n 0),(2,.ptr (n+1) 0)],⟨h2,n+1+1⟩⟩):=r8
abbrev Dl (Z:List AV):Prop:=∀ x∈Z,∃ d,x=AV.d d
theorem ajy:∀ {Z:List AV},(cU 1 Z).1=Z
 | []=>rfl
 | v::r=>by rw[cU,ajy];rfl
theorem ai6 {h:ac}:∀ {Z:List AV},Dl Z→lC h Z=some (Z,h)
 | [],_=>rfl
 | v::r,hz=>by
  obtain⟨d,rfl⟩:=hz v (.head _);have h1:fR h (.d d)=some (.d d,h):=rfl;rw[lC,h1];simp only[ai6 (Z:=r) fun x hx=>hz x (.tail _ hx)]
theorem aji:∀ {Z:List AV},Dl Z→Z.map jv=Z
 | [],_=>rfl
 | v::r,hz=>by
  obtain⟨d,rfl⟩:=hz v (.head _);rw[List.map_cons,aji fun x hx=>hz x (.tail _ hx)];rfl
theorem auB {id:Nat}:Dl (kR id):=by
 intro x hx;simp only[kR,List.mem_map]at hx;obtain⟨e,_,rfl⟩:=hx;exact⟨_,rfl⟩
theorem UZ (id:Nat) (h:eY id):aM prog dw [Rt id]=some (.agg (kR id)):=by
 have hin:=c6 h;obtain⟨d0,d1,d2,d3,d4,d5⟩:=au0 id hin;have hm:=Ax id hin;have h0:=asH (bQ id) (bq id) (bq id+aW id-1) (aG id) EU 3 (bQ id) d1 (bQ id) 0 [0,0,0,0] (by omega) rfl;have h3:=asI id h (aG id) 3 (ax id) 0 (by omega);have c0:((0:Nat):Int)=0:=rfl;have v0:vc [0,0,0,0]=[.d (.int .i64 0),.d (.int .i64 0),.d (.int .i64 0),.d (.int .i64 0)]:=rfl;rw[d0,c0,v0]at h0;rw[axE,ar8,c0]at h3;have zl:=abe (id:=id);have zr:=fun h=>ai6 (h:=h) (auB (id:=id))
 have zb:=aji (auB (id:=id));have zt:List.take 289 (kR id)=kR id:=List.take_of_length_le (by omega);have z1:=ajy (Z:=kR id);simp only[Rt]at hm⊢;rw[az P4 pB.eq_1 rfl];generalize kR id=Z at *;generalize vc (sO id 0)=V0 at *;generalize vc (sO id (ax id))=V1 at *;generalize aG id=pl at *;generalize bQ id=dm at *;generalize bq id=lo at *;generalize aW id=wi at *;generalize ax id=n at *;simp (maxSteps:=300000) (disch:=omega) [↓if_pos,↓if_neg,hm,h0,h3,-r8,aAJ,zt,z1,zr];exact fun _=>zb
theorem anX {hp:List Nat→ac}{D L:Nat}{F:AV}{C:Nat→Nat→Int}(H:Hp hp D) (K:Cm hp L F C) (n:Nat) (hlen:n≤1000000000) (hn:n % 20≠0) (N:Nat) (xs:List Nat) (hx:xs.length=n) (u:b8 L xs) :
  (Dn prog).call gD [.sl D 0 n,F] ⟨hp xs,N⟩=some (.tup [],⟨hp (li C n xs),N⟩):=by
 have h:=aqQ H K n hlen hn N xs hx u;rw[aD wp gE.eq_1 rfl];simp (maxSteps:=300000) (disch:=omega) [↓if_pos,↓if_neg,K.sh,K.fi,h]
theorem azW {x2:AV}{x4:AV}{x6:AV}{h:ac}{n:Nat}:(Dn prog).code zA ⟨[(2,x2),(4,x4),(6,x6)],⟨h,n⟩⟩=bp (bP (loadAt h (some 4) 1 (share x4)) fun a1 h2=>bA (bZ (Dn prog) dw [firm a1] h2) fun a3=>lA (put h2 n (.cells EU)) fun h4=>bA (storeAt h4 289 (.ptr n 0) (firm a3)) fun h5=>some ⟨[(2,x2),(4,x4),(6,x6),(7,.ptr n 0)],⟨h5,n+1⟩⟩):=F7
theorem ai0 {W Z:List AV}(h:W.length=Z.length):ah W 0 Z=Z:=by simp[ah,←h]
theorem aj7 {id:Nat}:(kR id).all bJ=true:=by
 rw[List.all_eq_true];intro x hx;simp only[kR,List.mem_map]at hx;obtain⟨e,_,rfl⟩:=hx;rfl
theorem akN {id:Nat}:(kR id).map kM=kR id:=by
 simp only[kR,List.map_map];rfl
theorem asc {n:Nat}:List.replicate n [D.int .i64 0]=bf (List.replicate n 0):=by simp[bf]
theorem apX (id:Nat) (h:eY id):aM prog pb [.d (.int .i64 id)]=some (.tup [Nw id,.d (.int .i64 0)]):=by
 have hin:=c6 h;obtain⟨m1,m2,m3⟩:=anz id hin;obtain⟨e1,e2,e3⟩:=amH id hin;have hR:=axd id hin;have t1:List.take (ax id) (aS id)=aS id:=List.take_of_length_le (by omega);have t2:List.take (ax id) (bF id)=bF id:=List.take_of_length_le (by omega);have hst:=axG id h;have ho:=IP id hin;have hm:=Ax id hin;have hz:=UZ id h;have zl:=abe (id:=id);have zc:=aj7 (id:=id);have zf:=akN (id:=id);have z9:=aj6;have zd:List.drop (kR id).length EU=[]:=List.drop_eq_nil_of_le (by omega);have hu:b8 (ax id) (aS id):=fun x hx=>by simpa using List.all_eq_true.1 e3 x hx
 have hs:=fun a b c d x0 x1 R N=>anX (hp:=fun xs=>[(0,.cells [a,b,c,d]),(2,.arr 1 (bf xs)),(3,.arr 1 (bf R)),(4,.cells [.d x0,.d x1,.sl 2 0 (ax id),.sl 3 0 (ax id)]),(5,.cells (kR id))]) (D:=2)
  ⟨fun xs=>rfl,fun xs ys=>rfl⟩ (aCU (S:=5) (fun xs=>rfl) m1) (ax id) (by omega) m2 N (List.range (ax id)) (by simp) (fun x hx=>by simpa using hx)
 have h0:=fun a b c d x0 x1 R N=>amh (ax id) (kR id) m1 R a b c d x0 x1 N (ax id) 0 (by omega)
 have h1:=fun a b c d x0 x1 N=>alO (ax id) (kR id) m1 (aS id) e1 hu a b c d x0 x1 N (ax id) 0 (List.replicate (ax id) 0) (by omega) (by simp)
 have hup:ym (ax id) (ax id)=List.range (ax id):=by simp[ym]
 have hu0:ym (ax id) 0=List.replicate (ax id) 0:=by simp[ym]
 rw[hup,hu0]at h0;simp only[hst,hR,Rt]at hs h1 ho hm hz;rw[az aod H0.eq_1 rfl];have hid:(1:Int)≤id∧(id:Int)≤12:=by omega
 have c0:((0:Nat):Int)=0:=rfl;rw[c0]at h0 h1;simp only[Nw];generalize kR id=Z at *;generalize aS id=es at *;generalize bF id=rs at *;generalize aG id=pl at *;generalize bQ id=dm at *;generalize bq id=lo at *;generalize aW id=wi at *;generalize ax id=n at *;simp (maxSteps:=300000) (disch:=omega) [↓if_pos,↓if_neg,ho,hm,hz,h0,hs,h1,-F7,azW,ai0,zc,zf,zd,Gt,asc,AV.int,t1,t2]
def fZ (id:Nat):Bool:=decide (bq id<0)
theorem Nd:∀ x∈ids.take 11,aM prog zx [.d (.int .i64 x)]=some (.d (.bool (fZ x))):=Bl 100 _ (by kernel_rfl)
section
variable (id:Nat)
end
section
variable (n:Nat) (sz:List Nat) (hz:sz.length=n) (hn2:n≤289) (a b c d:AV) (x0 x1:D) (N:Nat)
include hz hn2
end
def okR (sz es rs:List Nat) (i:Nat):Bool:=Nat.beq (iS rs (iS es i)) i &&
 (Nat.beq i 0 || Nat.blt (iS sz (iS es (i-1))) (iS sz (iS es i)) || (Nat.beq (iS sz (iS es (i-1))) (iS sz (iS es i)) && Nat.blt (iS es (i-1)) (iS es i)))
theorem awS:∀ id∈ids,(List.range (ax id)).all (okR (fl id) (aS id) (bF id))=true:=by decide +kernel
theorem aqh {id i:Nat}(h:eY id) (hi:i<ax id):nth (bF id) (nth (aS id) i)=i∧(i≠0→nth (fl id) (nth (aS id) (i-1))<nth (fl id) (nth (aS id) i)∨(nth (fl id) (nth (aS id) (i-1))=nth (fl id) (nth (aS id) i)∧nth (aS id) (i-1)<nth (aS id) i)):=by
 have:=List.all_eq_true.1 (awS id (c6 h)) i (by simpa using hi);simp only[okR,sM,Bool.and_eq_true,Bool.or_eq_true,Nat.beq_eq,Nat.blt,Nat.ble_eq]at this;refine⟨this.1,fun h0=>?_⟩;rcases this.2 with (h1 | h1) | h1
 ·exact absurd h1 h0
 ·exact .inl h1
 ·exact .inr h1
section
variable (n:Nat) (hn:n≤289) (sz es rs:List Nat) (Z:List AV) (he:es.length=n) (hr:rs.length=n) (hu:b8 n es) (hZ:∀ x,x<n→Z[x]?=some (.d (.int .u8 (nth sz x:Nat))))
 (h1:∀ i,i<n→nth rs (nth es i)=i) (h2:∀ i,i+1<n→nth sz (nth es i)<nth sz (nth es (i+1))∨(nth sz (nth es i)=nth sz (nth es (i+1))∧nth es i<nth es (i+1)))
include hn he hr hu hZ h1 h2
theorem aga (x0 x1:D) (N:Nat):∀ (k i:Nat),i+k=n→
  (Dn prog).code (.loop nC) ⟨[(1,.ptr 0 0),(5,.ptr 2 0),(43,.d (.lst (bf es))),(44,.d (.int .i64 n)),(45,.d (.int .i64 i))],⟨[(0,.cells [.d x0,.d x1,.d (.lst (bf es)),.d (.lst (bf rs))]),(2,.cells Z)],N⟩⟩ =
  some (.exit 0,⟨[],⟨[],N⟩⟩):=by
 intro k
 induction k with
 | zero =>
  intro i h;rw[aa nC.eq_1];simp (maxSteps:=300000) (disch:=omega) [↓if_pos,↓if_neg]
 | succ k ih =>
  intro i h;have hv:=hu.nth (i:=i) (by omega);have e1:=hZ _ hv;have r1:=h1 i (by omega);have h5:=ih (i+1) (by omega);have c1:((i+1:Nat):Int)=(i:Int)+1:=rfl;rw[c1]at h5;rw[aa nC.eq_1,←h5];by_cases h0:i=0
  ·subst h0;have c0:((0:Nat):Int)=0:=rfl;rw[c0];have n0:(0:Int)=((0:Nat):Int):=rfl;simp (maxSteps:=300000) (disch:=omega) [↓if_pos,↓if_neg,r1]
  ·obtain⟨q,rfl⟩:∃ q,i=q+1:=⟨i-1,by omega⟩
   have hw:=hu.nth (i:=q) (by omega);have e2:=hZ _ hw;rcases h2 q (by omega) with g | ⟨g1,g2⟩
   ·simp (maxSteps:=300000) (disch:=omega) [↓if_pos,↓if_neg,r1,e1,e2]
   ·simp (maxSteps:=300000) (disch:=omega) [↓if_pos,↓if_neg,r1,e1,e2]
end
theorem aAs {x1:AV}{x3:AV}{h:ac}{n:Nat}:(Dn prog).code tN ⟨[(1,x1),(3,x3)],⟨h,n⟩⟩=bp (bP (loadAt h (some 4) 1 (share x3)) fun a1 h2=>bA (bZ (Dn prog) dw [firm a1] h2) fun a3=>lA (put h2 n (.cells EU)) fun h4=>bA (storeAt h4 289 (.ptr n 0) (firm a3)) fun h5=>some ⟨[(1,x1),(3,x3),(5,.ptr n 0)],⟨h5,n+1⟩⟩):=B0
theorem alr (id:Nat) (h:eY id):aM prog nM [iX id]=some (.d (.bool true)):=by
 have hin:=c6 h;obtain⟨m1,m2,m3⟩:=anz id hin;obtain⟨e1,e2,e3⟩:=amH id hin;have ho:=IP id hin;have hm:=Ax id hin;have hz:=UZ id h;have zl:=abe (id:=id);have zc:=aj7 (id:=id);have zf:=akN (id:=id);have z9:=aj6;have zd:List.drop (kR id).length EU=[]:=List.drop_eq_nil_of_le (by omega);have hu:b8 (ax id) (aS id):=fun x hx=>by simpa using List.all_eq_true.1 e3 x hx
 have h0:=fun x0 x1 N=>aga (ax id) m1 (fl id) (aS id) (bF id) (kR id) e1 e2 hu (fun x hx=>acG hx m1) (fun i hi=>(aqh h hi).1) (fun i hi=>by have:=(aqh h hi).2 (by omega);simpa using this) x0 x1 N (ax id) 0 (by omega)
 simp only[Rt]at ho hm hz;rw[az ak4 Cj.eq_1 rfl];have hid:(1:Int)≤id∧(id:Int)≤12:=by omega
 have c0:((0:Nat):Int)=0:=rfl;rw[c0]at h0;simp only[iX];generalize kR id=Z at *;generalize fl id=zs at *;generalize aS id=es at *;generalize bF id=rs at *;generalize aG id=pl at *;generalize bQ id=dm at *;generalize bq id=lo at *;generalize aW id=wi at *;generalize ax id=n at *;simp (maxSteps:=300000) (disch:=omega) [↓if_pos,↓if_neg,ho,hm,hz,h0,-B0,aAs,ai0,zc,zf,zd,AV.int,e1,e2]
def ic (b:List Nat):Nat→Nat→Int→R Nat
 | 0,_,_=>.er 7
 | f+1,m,a=>(aO b a 1).bind fun v n=>if v=1 then .ok m n else ic b f (m+1) n
abbrev pZ (b:List Nat) (m n:Nat):Prop:=m≤9∧n≤b.length
theorem ald {b:List Nat}:∀ {f m k n:Nat}{a:Int},f+m=10→ic b f m a=.ok k n→pZ b k n
 | 0,_,_,_,_,_,h=>absurd h (by simp[ic])
 | f+1,m,k,n,a,hf,h=>by
  rw[ic]at h
  cases h1:aO b a 1 with
  | er e=>rw[h1]at h;exact absurd h (by simp)
  | ok v a1 =>
   rw[h1,aw]at h;by_cases hv:v=1
   ·rw[if_pos hv]at h;injection h with e1 e2
    subst e1 e2;exact⟨by omega,(cW h1).2⟩
   ·rw[if_neg hv]at h;exact ald (by omega) h
theorem asF {α γ:Type}{p:α→Nat→Prop}{b:List Nat}{f m:Nat}{a:Int}{g:Nat→Nat→R α}{F:α→Nat→γ}{G:Nat→γ}(h:f+m=10):rK p ((ic b f m a).bind g) F G=rK (pZ b) (ic b f m a) (fun v n=>rK p (g v n) F G) G:=oZ fun _ _ h2=>ald h h2
theorem aqP {γ:Type}{b:List Nat}{f m:Nat}{a:Int}{F:Nat→Nat→γ}{G:Nat→γ}(h:f+1+m=10):rK (pZ b) (ic b (f+1) m a) F G=rK (pG b 1) (aO b a 1) (fun v n=>if v=1 then F m n else rK (pZ b) (ic b f (m+1) n) F G) G:=by
 rw[ic,Cq];refine fA (fun _ _=>rfl) (fun v n hp=>?_) fun _=>rfl
 by_cases hv:v=1
 ·rw[if_pos hv,if_pos hv,cu ⟨by omega,hp.2⟩]
 ·rw[if_neg hv,if_neg hv]
def qz (id:Nat) (b:List Nat) (a:Int):R Nat :=
 (ic b 10 0 a).bind fun m n=>(aO b n m).bind fun hi n=>(aO b n (aG id)).bind fun lo n =>
  if (aS id).length≤(2 ^ m+hi-1)*2 ^ aG id+lo then .er 7 else .ok (nth (aS id) ((2 ^ m+hi-1)*2 ^ aG id+lo)) n
theorem akJ (b:List Nat) (hb:b.length≤1000000000) (X:Obj) (N:Nat):∀ (f m:Nat) (a:Int),f+m=10→i64 a→
  (Dn prog).code (.loop lx) ⟨[(1,.d (.lst (af b))),(3,.ptr 0 0),(7,.d (.int .i64 a)),(9,.d (.int .i64 m)),(10,.d (.int .i64 0))],⟨[(0,X)],N⟩⟩ =
  rK (pZ b) (ic b f m a) (fun m n=>some (.exit 0,⟨[(1,.d (.lst (af b))),(3,.ptr 0 0),(7,.d (.int .i64 n)),(9,.d (.int .i64 ((m+1:Nat):Int)))],⟨[(0,X)],N⟩⟩)) (fun e=>some (.ret,⟨[(6,.d (.int .i64 0)),(7,.d (.int .i64 0)),(8,.d (.int .i64 (e+1)))],⟨[],N⟩⟩)):=by
 intro f
 induction f with
 | zero =>
  intro m a hf ha;rw[aa lx.eq_1,ic];simp (maxSteps:=300000) (disch:=omega) [↓if_pos,↓if_neg]
 | succ f ih =>
  intro m a hf ha;rw[aa lx.eq_1,aqP hf];simp (maxSteps:=300000) (disch:=omega) [↓if_pos,↓if_neg,d8];refine fA (fun _ _=>rfl) (fun v n hp=>?_) fun _=>rfl
  have hp4:v<2:=hp.1;by_cases h4:v=1
  ·subst h4;rw[if_pos rfl,aa lx.eq_1];simp (maxSteps:=300000) (disch:=omega) [↓if_pos,↓if_neg]
  ·have h5:v=0:=by omega
   subst h5;have h:=ih (m+1) n (by omega) (by omega);rw[if_neg h4];simp at h⊢;exact h
theorem YX (id:Nat) (h:eY id):aM prog nM [iX id]=some (.d (.bool true)):=alr id h
theorem TZ (id:Nat) (h:eY id):aM prog pb [.d (.int .i64 id)]=some (.tup [Nw id,.d (.int .i64 0)]):=apX id h
theorem atc {γ:Type}{id:Nat}{b:List Nat}{a:Int}(hid:eY id) {F:Nat→Nat→γ}{G:Nat→γ}:rK (fun e n=>e<ax id∧n≤b.length) (qz id b a) F G =
  rK (pZ b) (ic b 10 0 a) (fun m n=>rK (pG b m) (aO b n m) (fun hi n=>rK (pG b (aG id)) (aO b n (aG id)) (fun lo n =>
  if (aS id).length≤(2 ^ m+hi-1)*2 ^ aG id+lo then G 7 else F (nth (aS id) ((2 ^ m+hi-1)*2 ^ aG id+lo)) n) G) G) G:=by
 rw[qz,asF rfl];refine fA (fun _ _=>rfl) (fun m n hp=>?_) fun _=>rfl
 rw[Cq];refine fA (fun _ _=>rfl) (fun hi n hp=>?_) fun _=>rfl
 rw[Cq];refine fA (fun _ _=>rfl) (fun lo n hp=>?_) fun _=>rfl
 by_cases hr:(aS id).length≤(2 ^ m+hi-1)*2 ^ aG id+lo
 ·rw[if_pos hr,if_pos hr,eK]
 ·rw[if_neg hr,if_neg hr,cu];exact⟨(Dx (by omega)).2.2.2 _ (fk (by omega)),hp.2⟩
abbrev wT:VC:=(.seq (.seq Dz (.cond (.m 73) (.seq (.seq (K [7,13]) (F 3)) (.seq D3 .ret)) .skip)) (.seq (.seq DB (F 3)) .ret))
theorem NJ {m:Nat}(h:m≤60):cZ .shl (.d (.int .i64 1)) (.d (.int .i64 m))=some (.int .i64 ((2 ^ m:Nat):Int)):=by
 have h2:2 ^ m≤2 ^ 60:=Nat.pow_le_pow_right (by omega) h;have h3:min m 64=m:=by omega
 rw[nR (by omega),Int.toNat_natCast,IntKind.bits,h3];generalize 2 ^ m=P at *;rw[ako (by omega) (by omega),Int.one_mul]
theorem aou {x:Int}{m P:Nat}(hP:2 ^ m=P) (hm:m≤60) (h0:0≤x) (h1:x*P≤4611686018427387904):cZ .shl (.d (.int .i64 x)) (.d (.int .i64 m))=some (.int .i64 (x*P)):=by
 subst hP;have h2:2 ^ m≤2 ^ 60:=Nat.pow_le_pow_right (by omega) hm;have h3:min m 64=m:=by omega
 rw[nR (by omega),Int.toNat_natCast,IntKind.bits,h3];have:0≤x*((2 ^ m:Nat):Int):=Int.mul_nonneg h0 (Int.natCast_nonneg _);generalize x*((2 ^ m:Nat):Int)=y at *;rw[ako (by omega) (by omega)]
theorem axH {x:Int}(h0:0≤x) (h1:x≤100000000):cZ .shl (.d (.int .i64 x)) (.d (.int .i64 0))=some (.int .i64 x):=by
 have:=aou (x:=x) (m:=0) (P:=1) rfl (by omega) h0 (by omega);simpa using this
theorem ayP {x:Int}(h0:0≤x) (h1:x≤100000000):cZ .shl (.d (.int .i64 x)) (.d (.int .i64 1))=some (.int .i64 (x*2)):=by
 have:=aou (x:=x) (m:=1) (P:=2) rfl (by omega) h0 (by omega);simpa using this
theorem ax7 {x:Int}(h0:0≤x) (h1:x≤100000000):cZ .shl (.d (.int .i64 x)) (.d (.int .i64 2))=some (.int .i64 (x*4)):=by
 have:=aou (x:=x) (m:=2) (P:=4) rfl (by omega) h0 (by omega);simpa using this
theorem aeR (id:Nat) (b:List Nat) (a:Int) (hb:b.length≤1000000000) (ha:i64 a) (hid:eY id):aM prog xa [iX id,.d (.lst (af b)),.d (.int .i64 a)] =
  rK (fun e n=>e<ax id∧n≤b.length) (qz id b a) (fun e n=>some (.tup [.d (.int .i64 e),.d (.int .i64 n),.d (.int .i64 0)])) (fun e=>some (.tup [.d (.int .i64 0),.d (.int .i64 0),.d (.int .i64 (e+1))])):=by
 have hr:=YX id hid;have hf:=Dx (id:=id) (by omega);rw[az amr Fj.eq_1 rfl,atc hid];have hl:=fun X N=>akJ b hb X N 10 0 a rfl ha
 have c0:((0:Nat):Int)=0:=rfl;simp only[c0]at hl;simp only[iX]at hr⊢;obtain⟨f1,f2,f3,-⟩:=hf;generalize aS id=es at *;generalize bF id=rs at *;generalize aG id=pl at *;simp (maxSteps:=300000) (disch:=omega) [↓if_pos,↓if_neg,hr,hl];refine fA (fun _ _=>rfl) (fun m n hp=>?_) fun _=>rfl
 have hp2:2 ^ m≤2 ^ 9:=Nat.pow_le_pow_right (by omega) hp.1;have e1:(m:Int)+1-1=m:=by omega
 have hs1:=NJ (m:=m) (by omega);have hp1:=hp.1;have hpos:0<2 ^ m:=Nat.two_pow_pos m;have c1:((1:Nat):Int)=1:=rfl;have c2:((2:Nat):Int)=2:=rfl;generalize hP:2 ^ m=P at *;have fin:∀ (x:Nat) (n:Nat) (i1 p:Int),x≤100000→lU (oA [.tmp 6,.tmp 7,.tmp 8] ((Dn prog).code (wT) ⟨[(3,.ptr 0 0),(7,.d (.int .i64 n)),(13,.d (.int .i64 x))],⟨[(0,.cells [.d (.int .i64 i1),.d (.int .i64 p),.d (.lst (bf es)),.d (.lst (bf rs))])],1⟩⟩)) =
   if es.length≤x then some (.tup [.d (.int .i64 0),.d (.int .i64 0),.d (.int .i64 8)]) else some (.tup [.d (.int .i64 ((nth es x:Nat):Int)),.d (.int .i64 n),.d (.int .i64 0)]):=fun x n i1 p hx=>by
  by_cases hr:es.length≤x
  ·rw[if_pos hr];simp (maxSteps:=300000) (disch:=omega) [↓if_pos]
  ·rw[if_neg hr];simp (maxSteps:=300000) (disch:=omega) [↓if_neg]
 have hpl:pl=0∨pl=1∨pl=2:=by omega
 obtain⟨T,ht⟩:∃ T,T=wT:=⟨_,rfl⟩
 rw[←ht]at fin;unfold wT at ht;rw[←ht];rcases hpl with rfl | rfl | rfl
 all_goals
  simp (maxSteps:=300000) (disch:=omega) [↓if_pos,↓if_neg,d8,e1,-nR,hs1];refine fA (fun _ _=>rfl) (fun hi n hp=>?_) fun _=>rfl
  refine fA (fun _ _=>rfl) (fun lo n hq=>?_) fun _=>rfl
  have h1:hi<P:=hP▸hp.1;have h2:lo<4:=Nat.lt_of_lt_of_le hq.1 (by decide);simp (maxSteps:=300000) (disch:=omega) [-nR,axH,ayP,ax7]
 ·have e3:((P+hi-1+lo:Nat):Int)=P+hi-1+lo:=by omega
  rw[←e3,fin _ n id 0 (by omega)]
 ·have e3:(((P+hi-1)*2+lo:Nat):Int)=(P+hi-1)*2+lo:=by omega
  rw[←e3,fin _ n id 1 (by omega)]
 ·have e3:(((P+hi-1)*4+lo:Nat):Int)=(P+hi-1)*4+lo:=by omega
  rw[←e3,fin _ n id 2 (by omega)]
theorem gP:∀ id∈ids,1≤bQ id∧bQ id≤4∧1≤aW id∧aW id≤121∧-60≤bq id∧bq id≤0∧ax id≤300:=by decide +kernel
theorem aeS (dim low pl:Int) (w:Nat) (hw:w≤1000) (hl:-1000≤low∧low≤1000):aM prog gC [.agg [.d (.int .i64 dim),.d (.int .i64 low),.d (.int .i64 (low+w-1)),.d (.int .i64 pl)]]=some (.d (.int .i64 w)):=by
 rw[az S4 rk.eq_1 rfl];have e:low+(w:Int)-1-low+1=w:=by omega
 simp (disch:=omega) [e]
theorem td (e w:Nat):(e:Int).tdiv w=((e / w:Nat):Int):=rfl
theorem tm (e w:Nat):(e:Int).tmod w=((e % w:Nat):Int):=rfl
theorem avb {j:Nat}{x:Int}{suf:List Int}:(List.replicate (j+1) (0:Int)++suf).set j x=List.replicate j 0++x::suf:=by
 rw[List.replicate_succ',List.append_assoc,List.set_append_right _ _ (by simp)];simp
theorem acN (low:Int) (w pl dim:Nat) (hw:1≤w∧w≤1000) (hl:-1000≤low∧low≤1000):∀ (j e:Nat) (suf:List Int),j+suf.length=dim→dim≤10→e≤100000→
  (Dn prog).code (.loop ir) ⟨[(1,.d (.int .i64 e)),(2,.ptr 0 0),(5,.sl 1 0 dim),(6,.d (.int .i64 (j-1)))],⟨[(0,.cells [.d (.int .i64 dim),.d (.int .i64 low),.d (.int .i64 (low+w-1)),.d (.int .i64 pl)]),(1,.arr 1 (ai (List.replicate j 0++suf)))],2⟩⟩ =
   some (.exit 0,⟨[(5,.sl 1 0 dim)],⟨[(1,.arr 1 (ai (gL low w j e++suf)))],2⟩⟩):=by
 intro j
 induction j with
 | zero =>
  intro e suf h1 h2 h3;rw[aa ir.eq_1];simp (disch:=omega) [↓if_neg,gL]
 | succ j ih =>
  intro e suf h1 h2 h3;have hm:e % w<w:=Nat.mod_lt _ (by omega);have hd:e / w≤e:=Nat.div_le_self _ _;have h:=ih (e / w) ((((e % w:Nat):Int)+low)::suf) (by simp;omega) h2 (by omega);rw[gL,List.append_assoc,List.singleton_append,←h,←avb,aa ir.eq_1];have hk:=aeS dim low pl w (by omega) hl;have e1:((j+1:Nat):Int)-1=j:=by omega
  have hg:(ai (List.replicate (j+1) 0++suf))[j]?=some [.int .i64 (nth (List.replicate (j+1) 0++suf) j)]:=BT (by simp;omega);simp only[e1];have td:=td e w;have tm:=tm e w;generalize hL:List.replicate (j+1) (0:Int)++suf=L at *;generalize e / w=q at *;generalize e % w=r at *;clear ih h;simp (maxSteps:=300000) (disch:=omega) [↓if_pos,hk,td,tm,hg]
theorem UG (id e:Nat) (h:eY id) (he:e≤100000):aM prog ov [Rt id,.d (.int .i64 e)]=some (.own true 1 (ai (iw id e))):=by
 obtain⟨k1,k2,k3,k4,k5,k6,k7⟩:=gP id (c6 h);have hl:=acN (bq id) (aW id) (aG id) (bQ id) (by omega) (by omega) (bQ id) e [] (by simp) (by omega) he;rw[az M3 oy.eq_1 rfl];simp only[Rt,iw,List.append_nil]at hl⊢;have hr:ai (List.replicate (bQ id) 0)=List.replicate (bQ id) [D.int .i64 0]:=by simp[ai]
 rw[hr]at hl;have hv:(gL (bq id) (aW id) (bQ id) e).length=bQ id:=by
  have:∀ (d e:Nat),(gL (bq id) (aW id) d e).length=d:=by
   intro d
   induction d with
   | zero=>intro e;rfl
   | succ d ih=>intro e;simp[gL,ih]
  exact this _ _
 generalize bq id=low at *;generalize aW id=w at *;generalize bQ id=dim at *;generalize aG id=pl at *;generalize gL low w dim e=V at *;simp (maxSteps:=300000) (disch:=omega) [hl,Gt];exact⟨by omega,by rw[List.take_of_length_le (by omega)]⟩
theorem QV (id e:Nat) (h:eY id) (he:e<ax id):aM prog qe [.d (.int .i64 id),.d (.int .i64 e)]=some (.tup [.own true 1 (ai (iw id e)),.d (.int .i64 0)]):=by
 obtain⟨k1,k2,k3,k4,k5,k6,k7⟩:=gP id (c6 h);have h1:=IP id (c6 h);have h2:=Ax id (c6 h);have h3:=UG id e h (by omega);rw[az ahX yi.eq_1 rfl];simp only[Rt]at h1 h2 h3;generalize bq id=low at *;generalize aW id=w at *;generalize bQ id=dim at *;generalize aG id=pl at *;generalize ax id=mn at *;generalize iw id e=V at *;simp (maxSteps:=300000) (disch:=omega) [h1,h2,h3,↓if_neg]
def rN (b:List Nat) (st:RS) (s:Int):RS:=if st.e=0 then (if eO b st.a s=0 then ⟨nO b st.a s,0⟩ else ⟨st.a,eO b st.a s⟩) else st
theorem Kt {b:List Nat}{st:RS}{s:Int}(hb:b.length≤1000000000) (h:st.fit):(rN b st s).fit:=by
 unfold rN;have:=aph (b:=b) (a:=st.a) (s:=s);have h2:i64 st.a:=h;split
 ·split
  ·show i64 _;simp only[];omega
  ·exact h
 ·exact h
abbrev rdC (b:List Nat) (st:RS):Obj:=.cells [.d (.lst (af b)),.d (.int .i64 (ra st)),.d (.int .i64 (re st))]
abbrev h4 (b:List Nat) (X0 X1 X3:Obj) (st:RS):ac:=[(0,X0),(1,X1),(2,rdC b st),(3,X3)]
theorem IV (b:List Nat) (hb:b.length≤1000000000) (X0 X1 X3:Obj) (N:Nat) (st:RS) (s:Int) (hf:st.fit):(Dn prog).call iU [.ptr 2 0,.d (.int .i64 s)] ⟨h4 b X0 X1 X3 st,N⟩ =
  some (.d (.int .i64 (sV b st s)),⟨h4 b X0 X1 X3 (rN b st s),N⟩):=by
 rw[aD PB pD.eq_1 rfl];obtain⟨a,e⟩:=st;have hf:i64 a:=hf;by_cases he:e=0
 ·subst he;by_cases h2:eO b a s=0
  ·simp (config := { maxSteps:=1000000 }) (disch:=omega) [DQ,ra,re,sV,rN,h2]
  ·simp (config := { maxSteps:=1000000 }) (disch:=omega) [DQ,ra,re,sV,rN,h2]
 ·simp (config := { maxSteps:=1000000 }) (disch:=omega) [ra,re,sV,rN,he]
def eh (b:List Nat):Nat→Nat→RS→Nat×RS
 | 0,m,st=>(m,st)
 | f+1,m,st=>if sV b st 1=1∧re (rN b st 1)=0 then eh b f (m+1) (if 8<m+1 then ⟨ra (rN b st 1),8⟩ else rN b st 1) else (m,rN b st 1)
theorem P3 (b:List Nat) (hb:b.length≤1000000000) (X0 X1 X3:Obj) (N:Nat):∀ (f m:Nat) (st:RS),f+m=10→m≤9→st.fit→(m=9→st.e≠0)→
  (Dn prog).code (.loop jz) ⟨[(0,.ptr 2 0),(3,.d (.int .i64 m))],⟨h4 b X0 X1 X3 st,N⟩⟩ =
  some (.exit 0,⟨[(0,.ptr 2 0),(3,.d (.int .i64 (eh b f m st).1))],⟨h4 b X0 X1 X3 (eh b f m st).2,N⟩⟩):=by
 intro f
 induction f with
 | zero=>intro m st h1 h0 h2 h3;omega
 | succ f ih =>
  intro m st h1 h0 h2 h3;rw[aa jz.eq_1,eh];have hg:=IV b hb X0 X1 X3 N st 1 h2;have hf:=Kt (s:=1) hb h2;simp only[h4]at hg;by_cases hc:sV b st 1=1∧re (rN b st 1)=0
  ·rw[if_pos hc];have he:st.e=0:=by
    have:=hc.1;unfold sV at this;by_cases h:st.e=0
    ·exact h
    ·rw[if_neg h]at this;omega
   have hm:m≠9:=fun h=>h3 h he
   by_cases h8:8<m+1
   ·rw[if_pos h8];have ih:=ih (m+1) ⟨ra (rN b st 1),8⟩ (by omega) (by omega) hf (fun _=>by simp);simp only[h4,show ra (⟨ra (rN b st 1),8⟩:RS)=ra (rN b st 1) from rfl,show re (⟨ra (rN b st 1),8⟩:RS)=8 from rfl]at ih⊢;rw[←ih];simp (maxSteps:=300000) (disch:=omega) [hg,hc.1,hc.2,↓if_pos,↓if_neg];rfl
   ·rw[if_neg h8];have ih:=ih (m+1) (rN b st 1) (by omega) (by omega) hf (fun h=>by omega);simp only[h4]at ih⊢;rw[←ih];simp (maxSteps:=300000) (disch:=omega) [hg,hc.1,hc.2,↓if_pos,↓if_neg]
  ·rw[if_neg hc];by_cases h1:sV b st 1=1
   ·have h2:¬ re (rN b st 1)=0:=fun h=>hc ⟨h1,h⟩
    simp (maxSteps:=300000) (disch:=omega) [hg,h1,h2,↓if_pos,↓if_neg]
   ·simp (maxSteps:=300000) (disch:=omega) [hg,h1,↓if_pos,↓if_neg]
theorem UF {b:List Nat}:∀ {f m:Nat}{st:RS},(eh b f m st).1≤m+f
 | 0,m,st=>by simp[eh]
 | f+1,m,st=>by
  rw[eh];split
  ·have:=UF (b:=b) (f:=f) (m:=m+1) (st:=if 8<m+1 then ⟨ra (rN b st 1),8⟩ else rN b st 1);omega
  ·simp only[];omega
theorem LT {b:List Nat}(hb:b.length≤1000000000):∀ {f m:Nat}{st:RS},st.fit→(eh b f m st).2.fit
 | 0,m,st,h=>by simpa [eh] using h
 | f+1,m,st,h=>by
  have hr:=Kt (s:=1) hb h;rw[eh];split
  ·refine LT hb ?_;split
   ·exact hr
   ·exact hr
  ·exact hr
def Kk (b:List Nat) (st:RS):Nat:=2 ^ ((eh b 10 0 st).1+4)+sV b (eh b 10 0 st).2 (((eh b 10 0 st).1+4:Nat):Int)
def za (b:List Nat) (st:RS):RS:=rN b (eh b 10 0 st).2 (((eh b 10 0 st).1+4:Nat):Int)
theorem asu {b:List Nat}{st:RS}(hb:b.length≤1000000000) (h:st.fit):(za b st).fit:=Kt hb (LT hb h)
theorem anM {b:List Nat}{st:RS}:Kk b st<32768:=by
 unfold Kk;have h1:=UF (b:=b) (f:=10) (m:=0) (st:=st);have h2:=nc (b:=b) (st:=(eh b 10 0 st).2) (s:=(((eh b 10 0 st).1+4:Nat):Int));rw[Int.toNat_natCast]at h2;have h3:2 ^ ((eh b 10 0 st).1+4)≤2 ^ 14:=Nat.pow_le_pow_right (by omega) (by omega);omega
theorem adu (b:List Nat) (hb:b.length≤1000000000) (X0 X1 X3:Obj) (N:Nat) (st:RS) (hf:st.fit):(Dn prog).call kW [.ptr 2 0] ⟨h4 b X0 X1 X3 st,N⟩ =
  some (.d (.int .i64 (Kk b st)),⟨h4 b X0 X1 X3 (za b st),N⟩):=by
 rw[aD FO kV.eq_1 rfl];have hl:=P3 b hb X0 X1 X3 N 10 0 st rfl (by omega) hf (by omega);have hv:=anM (b:=b) (st:=st);have h1:=UF (b:=b) (f:=10) (m:=0) (st:=st);have hf2:=LT (f:=10) (m:=0) hb hf;unfold Kk za at *;generalize eh b 10 0 st=p at *;obtain⟨m,s2⟩:=p;simp only at hl hv h1 hf2⊢;have hg:=IV b hb X0 X1 X3 N s2 ((m+4:Nat):Int) hf2;have c0:((0:Nat):Int)=0:=rfl;have hs:=NJ (m:=m+4) (by omega);have c1:((m+4:Nat):Int)=(m:Int)+4:=by omega
 simp only[c0,h4,c1]at hl hg hs;have hpos:0<2 ^ (m+4):=Nat.two_pow_pos _;have c2:((2 ^ (m+4)+sV b s2 ((m:Int)+4):Nat):Int)=((2 ^ (m+4):Nat):Int)+sV b s2 ((m:Int)+4):=by omega
 simp only[h4,c1,c2];rw[c1]at hv;generalize 2 ^ (m+4)=P at *;simp (maxSteps:=300000) (disch:=omega) [hl,hg,hs,-nR]
def r9 (b:List Nat):List Int→RS→List Nat
 | [],_=>[]
 | v::r,st=>if v=0 then 0::r9 b r st else sV b st 1::r9 b r (rN b st 1)
def ni (b:List Nat):List Int→RS→RS
 | [],st=>st
 | v::r,st=>if v=0 then ni b r st else ni b r (rN b st 1)
def sg (s:Nat) (v:Int):Int:=if s=1 then -v else v
def Ca (b:List Nat) (id:Nat):List Int→List Nat→RS→List Int
 | v::r,s::ss,st=>if id=11∧v=16 then sg s (Kk b st)::Ca b id r ss (za b st) else sg s v::Ca b id r ss st
 | _,_,_=>[]
def pX (b:List Nat) (id:Nat):List Int→List Nat→RS→RS
 | v::r,_::ss,st=>if id=11∧v=16 then pX b id r ss (za b st) else pX b id r ss st
 | _,_,st=>st
theorem anp {α:Type}{a r:List α}{x y:α}:(a++x::r).set a.length y=a++y::r:=by
 rw[List.set_append_right _ _ (by omega)];simp
theorem atU {a r:List Nat}{x:Nat}:nth (a++x::r) a.length=x:=by simp[nth]
theorem SW {a r:List Int}{x:Int}:nth (a++x::r) a.length=x:=by simp[nth]
theorem alK (b:List Nat) (hb:b.length≤1000000000) (X0:Obj) (N:Nat) (vals:List Int) (hl:vals.length≤100):∀ (vs:List Int) (pre:List Int) (sgn:List Nat) (st:RS),vals=pre++vs→sgn.length=pre.length→st.fit→
  (Dn prog).code (.loop mr) ⟨[(5,.ptr 0 0),(6,.sl 1 0 vals.length),(10,.ptr 2 0),(11,.sl 3 0 vals.length),(51,.sl 1 0 vals.length),(52,.d (.int .i64 vals.length)),(53,.d (.int .i64 pre.length))],⟨h4 b X0 (.arr 1 (ai vals)) (.arr 1 (bf (sgn++List.replicate vs.length 0))) st,N⟩⟩ =
  some (.exit 0,⟨[(5,.ptr 0 0),(6,.sl 1 0 vals.length),(10,.ptr 2 0),(11,.sl 3 0 vals.length)],⟨h4 b X0 (.arr 1 (ai vals)) (.arr 1 (bf (sgn++r9 b vs st))) (ni b vs st),N⟩⟩):=by
 intro vs
 induction vs with
 | nil =>
  intro pre sgn st h1 h2 h3;rw[List.append_nil]at h1;subst h1;rw[aa mr.eq_1];simp (maxSteps:=300000) (disch:=omega) [↓if_neg,r9,ni]
 | cons v vs ih =>
  intro pre sgn st h1 h2 h3;have hlen:vals.length=pre.length+(vs.length+1):=by rw[h1];simp
  have hgv:nth vals pre.length=v:=by rw[h1];exact SW
  have hgi:(ai vals)[pre.length]?=some [.int .i64 v]:=by rw[BT (by omega),hgv]
  have hg:=fun X1 X3=>IV b hb X0 X1 X3 N st 1 h3
  rw[aa mr.eq_1,List.length_cons,List.replicate_succ];have hsl:(bf (sgn++0::List.replicate vs.length 0))[pre.length]?=some [.int .i64 0]:=by
   rw[wA (by simp;omega),←h2,atU];rfl
  simp only[h4]at hg⊢;by_cases hv:v=0
  ·subst hv;have ih:=ih (pre++[0]) (sgn++[0]) st (by rw[h1];simp) (by simp[h2]) h3;simp only[h4]at ih;simp only[r9,ni,if_true];simp (maxSteps:=300000) (disch:=omega) [↓if_pos,↓if_neg,hgi];simp at ih;exact ih
  ·have ih:=ih (pre++[v]) (sgn++[sV b st 1]) (rN b st 1) (by rw[h1];simp) (by simp[h2]) (Kt hb h3);simp only[h4]at ih;simp only[r9,ni,if_neg hv];simp (maxSteps:=300000) (disch:=omega) [↓if_pos,↓if_neg,hgi,hv,hg,hsl];simp at ih;exact ih
theorem alU (b:List Nat) (hb:b.length≤1000000000) (id:Nat) (pl:Int) (x2 x3:AV) (N len:Nat) (hlen:len≤100) (sgn:List Nat) (hsg:sgn.length=len):∀ (vs:List Int) (done:List Int) (st:RS),done.length+vs.length=len→(∀ v∈vs,0≤v∧v≤130)→st.fit→
  (Dn prog).code (.loop mt) ⟨[(5,.ptr 0 0),(6,.sl 1 0 len),(10,.ptr 2 0),(11,.sl 3 0 len),(66,.sl 1 0 len),(67,.d (.int .i64 len)),(68,.d (.int .i64 done.length))],⟨h4 b (.cells [.d (.int .i64 id),.d (.int .i64 pl),x2,x3]) (.arr 1 (ai (done++vs))) (.arr 1 (bf sgn)) st,N⟩⟩ =
  some (.exit 2,⟨[(6,.sl 1 0 len),(10,.ptr 2 0)],⟨[(1,.arr 1 (ai (done++Ca b id vs (sgn.drop done.length) st))),(2,rdC b (pX b id vs (sgn.drop done.length) st)),(3,.arr 1 (bf sgn))],N⟩⟩):=by
 intro vs
 induction vs with
 | nil =>
  intro done st h1 h2 h3;rw[aa mt.eq_1];have:done.length=len:=by simpa using h1
  simp (maxSteps:=300000) (disch:=omega) [↓if_neg,Ca,pX]
 | cons v vs ih =>
  intro done st h1 h2 h3;have hv:=h2 v (by simp);have h1:done.length+(vs.length+1)=len:=by simpa using h1
  have hgi:(ai (done++v::vs))[done.length]?=some [.int .i64 v]:=by rw[BT (by simp),SW]
  have hgs:(bf sgn)[done.length]?=some [.int .i64 (nth sgn done.length:Nat)]:=wA (by omega);have hset:∀ x:Int,(ai (done++v::vs)).set done.length [.int .i64 x]=ai (done++x::vs):=fun x=>by rw[akn,anp]
  have hset2:∀ y x:Int,(ai (done++y::vs)).set done.length [.int .i64 x]=ai (done++x::vs):=fun y x=>by rw[akn,anp]
  have hgi2:∀ x:Int,(ai (done++x::vs))[done.length]?=some [.int .i64 x]:=fun x=>by rw[BT (by simp),SW]
  have hE:=fun X1 X3=>adu b hb (.cells [.d (.int .i64 id),.d (.int .i64 pl),x2,x3]) X1 X3 N st h3
  have hel:=anM (b:=b) (st:=st);rw[aa mt.eq_1,kA (by omega),Ca,pX];simp only[h4]at hE⊢;by_cases hid:id=11∧v=16
  ·obtain⟨rfl,rfl⟩:=hid;rw[if_pos ⟨rfl,rfl⟩,if_pos ⟨rfl,rfl⟩];have ih:=ih (done++[sg (nth sgn done.length) (Kk b st)]) (za b st) (by simp;omega) (fun x hx=>h2 x (by simp[hx])) (asu hb h3);simp only[h4]at ih;simp at ih;have c11:((11:Nat):Int)=11:=rfl;simp only[c11]at hE;by_cases hs:nth sgn done.length=1
   ·simp only[sg,if_pos hs]at ih⊢;simp (maxSteps:=300000) (disch:=omega) [↓if_pos,↓if_neg,hgi,hE,hset,hgs,hgi2,hset2,hs];exact ih
   ·simp only[sg,if_neg hs]at ih⊢;simp (maxSteps:=300000) (disch:=omega) [↓if_pos,↓if_neg,hgi,hE,hset,hgs,hgi2,hset2,hs];exact ih
  ·rw[if_neg hid,if_neg hid];have ih:=ih (done++[sg (nth sgn done.length) v]) st (by simp;omega) (fun x hx=>h2 x (by simp[hx])) h3;simp only[h4]at ih;simp at ih;by_cases hi:id=11
   ·subst hi;have c11:((11:Nat):Int)=11:=rfl;have hv2:v≠16:=fun h=>hid ⟨rfl,h⟩
    by_cases hs:nth sgn done.length=1
    ·simp only[sg,if_pos hs]at ih⊢;simp (maxSteps:=300000) (disch:=omega) [↓if_pos,↓if_neg,hgi,hset,hgs,hgi2,hset2,hs,hv2];exact ih
    ·simp only[sg,if_neg hs]at ih⊢;simp (maxSteps:=300000) (disch:=omega) [↓if_pos,↓if_neg,hgi,hset,hgs,hgi2,hset2,hs,hv2];exact ih
   ·by_cases hs:nth sgn done.length=1
    ·simp only[sg,if_pos hs]at ih⊢;simp (maxSteps:=300000) (disch:=omega) [↓if_pos,↓if_neg,hgi,hset,hgs,hgi2,hset2,hs];exact ih
    ·simp only[sg,if_neg hs]at ih⊢;simp (maxSteps:=300000) (disch:=omega) [↓if_pos,↓if_neg,hgi,hset,hgs,hgi2,hset2,hs];exact ih
def fU (b:List Nat):List Int→Nat→R (List Nat)
 | [],a=>.ok [] a
 | v::r,a=>if v=0 then (fU b r a).bind fun l n=>.ok (0::l) n else (aO b a 1).bind fun s n=>(fU b r n).bind fun l n=>.ok (s::l) n
def pg (b:List Nat):Nat→Nat→Nat→R Nat
 | 0,_,_=>.er 7
 | f+1,m,a=>(aO b a 1).bind fun v n=>if v=1 then pg b f (m+1) n else .ok m n
def HW (b:List Nat) (a:Nat):R Nat:=(pg b 9 0 a).bind fun m n=>(aO b n ((m+4:Nat):Int)).bind fun x n=>.ok (2 ^ (m+4)+x) n
def iD (b:List Nat) (id:Nat):List Int→List Nat→Nat→R (List Int)
 | v::r,s::ss,a=>if id=11∧v=16 then (HW b a).bind fun x n=>(iD b id r ss n).bind fun l n=>.ok (sg s x::l) n else (iD b id r ss a).bind fun l n=>.ok (sg s v::l) n
 | _,_,a=>.ok [] a
def xb (id:Nat) (b:List Nat) (a:Int):R (List Int) :=
 (qz id b a).bind fun e n=>if fZ id then .ok (iw id e) n else (fU b (iw id e) n).bind fun ss n=>iD b id (iw id e) ss n
theorem NA {b:List Nat}{a s:Int}{v n:Nat}(h:aO b a s=.ok v n):sV b ⟨a,0⟩ s=v∧rN b ⟨a,0⟩ s=⟨n,0⟩:=by
 constructor<;>simp[sV,rN,vO,nO,eO,h]
theorem ah7 {b:List Nat}{a s:Int}{e:Nat}(h:aO b a s=.er e):sV b ⟨a,0⟩ s=0∧rN b ⟨a,0⟩ s=⟨a,e+1⟩:=by
 constructor<;>simp[sV,rN,vO,nO,eO,h]
theorem akb {b:List Nat}{a s:Int}{e:Nat}:sV b ⟨a,e+1⟩ s=0∧rN b ⟨a,e+1⟩ s=⟨a,e+1⟩:=by
 constructor<;>simp[sV,rN]
theorem anD {b:List Nat}{a:Int}{e:Nat}{f m:Nat}:eh b f m ⟨a,e+1⟩=(m,⟨a,e+1⟩):=by
 cases f with
 | zero=>rfl
 | succ f=>rw[eh,akb.1,akb.2,if_neg (by simp)]
theorem ayU {b:List Nat}{a:Int}{e:Nat}:za b ⟨a,e+1⟩=⟨a,e+1⟩:=by
 rw[za,anD,akb.2]
theorem ape {b:List Nat}{a:Int}{e:Nat}:∀ {vs:List Int},ni b vs ⟨a,e+1⟩=⟨a,e+1⟩
 | []=>rfl
 | v::r=>by
  rw[ni];split
  ·exact ape
  ·rw[akb.2];exact ape
theorem aic {b:List Nat}{id:Nat}{a:Int}{e:Nat}:∀ {vs:List Int}{ss:List Nat},pX b id vs ss ⟨a,e+1⟩=⟨a,e+1⟩
 | [],_=>by simp[pX]
 | _::_,[]=>by simp[pX]
 | v::r,s::ss=>by
  rw[pX];split
  ·rw[ayU];exact aic
  ·exact aic
theorem att {b:List Nat}:∀ {vs:List Int}{a:Nat},match fU b vs a with
  | .ok l n=>r9 b vs ⟨a,0⟩=l∧ni b vs ⟨a,0⟩=⟨n,0⟩
  | .er e=>(ni b vs ⟨a,0⟩).e=e+1
 | [],a=>⟨rfl,rfl⟩
 | v::r,a=>by
  simp only[fU,r9,ni];by_cases hv:v=0
  ·simp only[if_pos hv];have ih:=att (b:=b) (vs:=r) (a:=a)
   cases h:fU b r a with
   | ok l n=>rw[h]at ih;exact⟨by rw[ih.1],ih.2⟩
   | er e=>rw[h]at ih;exact ih
  ·simp only[if_neg hv]
   cases h1:aO b a 1 with
   | ok s n =>
    rw[(NA h1).1,(NA h1).2,aw];have ih:=att (b:=b) (vs:=r) (a:=n)
    cases h:fU b r n with
    | ok l n=>rw[h]at ih;exact⟨by rw[ih.1],ih.2⟩
    | er e=>rw[h]at ih;exact ih
   | er e=>rw[(ah7 h1).2,cS];simp only[ape]
theorem ars {b:List Nat}:∀ {f m a:Nat},f+1+m=9→match pg b (f+1) m a with
  | .ok k n=>eh b (f+2) m ⟨a,0⟩=(k,⟨n,0⟩)
  | .er e=>(eh b (f+2) m ⟨a,0⟩).2.e=e+1
 | f,m,a,hm=>by
  rw[pg,eh]
  cases h1:aO b a 1 with
  | er e=>rw[(ah7 h1).1,(ah7 h1).2,cS,if_neg (by simp)]
  | ok v n =>
   rw[(NA h1).1,(NA h1).2,aw];by_cases hv:v=1
   ·subst hv;rw[if_pos rfl,if_pos ⟨rfl,rfl⟩]
    cases f with
    | zero =>
     rw[if_pos (by omega),pg];show (eh b 1 (m+1) ⟨ra ⟨n,0⟩,7+1⟩).2.e=7+1;rw[anD]
    | succ f =>
     rw[if_neg (by omega)];exact ars (by omega)
   ·rw[if_neg hv,if_neg (fun h=>hv h.1)]
theorem aAe {b:List Nat}{a:Nat}:match HW b a with
  | .ok v n=>Kk b ⟨a,0⟩=v∧za b ⟨a,0⟩=⟨n,0⟩
  | .er e=>(za b ⟨a,0⟩).e=e+1:=by
 rw[HW,Kk,za];have h:=ars (b:=b) (f:=8) (m:=0) (a:=a) rfl
 cases h1:pg b 9 0 a with
 | er e =>
  rw[h1]at h;generalize eh b 10 0 ⟨a,0⟩=p at *;obtain⟨m,x,y⟩:=p;simp only at h;subst h;simp only[akb,cS]
 | ok k n =>
  rw[h1]at h;rw[aw,h]
  cases h2:aO b n ((k+4:Nat):Int) with
  | er e=>simp only[(ah7 h2).2,cS]
  | ok v m=>simp only[(NA h2).1,(NA h2).2,aw];exact⟨trivial,trivial⟩
theorem at6 {b:List Nat}{id:Nat}:∀ {vs:List Int}{ss:List Nat}{a:Nat},match iD b id vs ss a with
  | .ok l n=>Ca b id vs ss ⟨a,0⟩=l∧pX b id vs ss ⟨a,0⟩=⟨n,0⟩
  | .er e=>(pX b id vs ss ⟨a,0⟩).e=e+1
 | [],ss,a=>by simp[iD,Ca,pX]
 | v::r,[],a=>by simp[iD,Ca,pX]
 | v::r,s::ss,a=>by
  rw[iD,Ca,pX];by_cases hc:id=11∧v=16
  ·simp only[if_pos hc];have h:=aAe (b:=b) (a:=a)
   cases h1:HW b a with
   | er e =>
    rw[h1]at h;generalize za b ⟨a,0⟩=p at *;obtain⟨x,y⟩:=p;simp only at h;subst h;simp only[aic,cS]
   | ok x n =>
    rw[h1]at h;rw[h.1,h.2,aw];have ih:=at6 (b:=b) (id:=id) (vs:=r) (ss:=ss) (a:=n)
    cases h2:iD b id r ss n with
    | ok l n=>rw[h2]at ih;exact⟨by rw[ih.1],ih.2⟩
    | er e=>rw[h2]at ih;exact ih
  ·simp only[if_neg hc];have ih:=at6 (b:=b) (id:=id) (vs:=r) (ss:=ss) (a:=a)
   cases h2:iD b id r ss a with
   | ok l n=>rw[h2]at ih;exact⟨by rw[ih.1],ih.2⟩
   | er e=>rw[h2]at ih;exact ih
abbrev BR:VC:=(.seq Jt (.seq Fx (.seq (.seq F5 (.block 0 (.seq (.loop mr) (K [51,52,53])))) (.seq (.seq Fs (.block 2 (.seq (.loop mt) (.seq (K [11,66,67,68]) (F 5))))) (.seq (.seq Gi (.cond (.m 103) (.seq (K [6]) (.seq wE .ret)) .skip)) (.seq wc .ret))))))
theorem aeQ {low:Int}{w:Nat}:∀ {d e:Nat},(gL low w d e).length=d
 | 0,_=>rfl
 | d+1,e=>by simp[gL,aeQ]
theorem AQ {low:Int}{w:Nat}(hw:1≤w):∀ {d e:Nat},∀ x∈gL low w d e,low≤x∧x<low+w
 | 0,_,x,h=>by simp[gL]at h
 | d+1,e,x,h=>by
  rw[gL,List.mem_append]at h;have:=Nat.mod_lt e (show w > 0 by omega);rcases h with h | h
  ·exact AQ hw x h
  grind
theorem xL {id e:Nat}:(iw id e).length=bQ id:=aeQ
theorem akp:∀ id∈ids,fZ id=false→bq id=0:=by decide +kernel
theorem aoY (b:List Nat) (hb:b.length≤1000000000) (id:Nat) (pl:Int) (x2 x3:AV) (vals:List Int) (hl:1≤vals.length∧vals.length≤100) (hv:∀ v∈vals,0≤v∧v≤130) (n:Nat) (hn:n≤b.length) (hx2:bJ x2=true) :
  lU (oA [.tmp 6,.tmp 7,.tmp 8] ((Dn prog).code BR ⟨[(0,.d (.lst (af b))),(5,.ptr 0 0),(6,.sl 1 0 vals.length),(7,.d (.int .i64 n))],⟨[(0,.cells [.d (.int .i64 id),.d (.int .i64 pl),x2,x3]),(1,.arr 1 (ai vals))],2⟩⟩)) =
  if re (pX b id vals (r9 b vals ⟨n,0⟩) (ni b vals ⟨n,0⟩))=0 then some (.tup [.own true 1 (ai (Ca b id vals (r9 b vals ⟨n,0⟩) (ni b vals ⟨n,0⟩))),.d (.int .i64 (ra (pX b id vals (r9 b vals ⟨n,0⟩) (ni b vals ⟨n,0⟩)))),.d (.int .i64 0)])
  else some (.tup [.nl,.d (.int .i64 0),.d (.int .i64 (re (pX b id vals (r9 b vals ⟨n,0⟩) (ni b vals ⟨n,0⟩))))]):=by
 have hf:RS.fit ⟨n,0⟩:=by show i64 _;grind
 have sgl:∀ (vs:List Int) (st:RS),(r9 b vs st).length=vs.length:=by
  intro vs
  induction vs<;>grind [r9]
 have sgf:∀ (vs:List Int) (st:RS),st.fit→(ni b vs st).fit:=by
  intro vs
  induction vs<;>grind [ni,Kt]
 have l0:=fun X0=>alK b hb X0 4 vals hl.2 vals [] [] ⟨n,0⟩ (by simp) rfl hf
 have l1:=alU b hb id pl x2 x3 4 vals.length hl.2 (r9 b vals ⟨n,0⟩) (sgl _ _) vals [] (ni b vals ⟨n,0⟩) (by simp) hv (sgf _ _ hf);have vll:(Ca b id vals (r9 b vals ⟨n,0⟩) (ni b vals ⟨n,0⟩)).length=vals.length:=by
  have:∀ (vs:List Int) (ss:List Nat) (st:RS),ss.length=vs.length→(Ca b id vs ss st).length=vs.length:=by
   intro vs
   induction vs with
   | nil=>grind [Ca]
   | cons v r ih =>
    intro ss st h
    cases ss<;>grind [Ca]
  simp_all
 have hz:bf (List.replicate vals.length 0)=List.replicate vals.length [.int .i64 0]:=by simp[bf]
 have c0:((0:Nat):Int)=0:=rfl;simp only[List.nil_append,List.length_nil,List.drop_zero,h4,rdC,hz,c0,aAb,aA8]at l0 l1;simp (disch:=omega) [l0,l1,Gt]
 grind
theorem ath {b:List Nat}{id:Nat}{vals:List Int}{n:Nat}{γ:Type}{F:List Int→Int→γ}{G:Nat→γ} :
  (if re (pX b id vals (r9 b vals ⟨n,0⟩) (ni b vals ⟨n,0⟩))=0 then F (Ca b id vals (r9 b vals ⟨n,0⟩) (ni b vals ⟨n,0⟩)) (ra (pX b id vals (r9 b vals ⟨n,0⟩) (ni b vals ⟨n,0⟩)))
  else G (re (pX b id vals (r9 b vals ⟨n,0⟩) (ni b vals ⟨n,0⟩))))=match (fU b vals n).bind fun ss n=>iD b id vals ss n with
   | .ok l n=>F l n
   | .er e=>G (e+1):=by
 have h1:=att (b:=b) (vs:=vals) (a:=n)
 cases h2:fU b vals n with
 | er e =>
  generalize ni b vals ⟨n,0⟩=p at *;obtain⟨x,y⟩:=p
  grind [aic,cS,re]
 | ok ss m =>
  rw[h2]at h1;rw[h1.1,h1.2,aw];have h3:=at6 (b:=b) (id:=id) (vs:=vals) (ss:=ss) (a:=m)
  cases h4:iD b id vals ss m with
  | er e =>
   rw[h4]at h3;have h5:re (pX b id vals ss ⟨m,0⟩)=e+1:=h3
   simp_all
  | ok l k =>
   rw[h4]at h3;rw[h3.1,h3.2];rfl
abbrev pH (b:List Nat) (id:Nat) (l:List Int) (n:Nat):Prop:=l.length=bQ id∧n≤b.length∧∀ x∈l,-40000≤x∧x≤40000
theorem Hg {b:List Nat}:∀ {vs:List Int}{a:Nat}{l:List Nat}{n:Nat},a≤b.length→fU b vs a=.ok l n→l.length=vs.length∧n≤b.length
 | [],a,l,n,ha,h=>by
  grind [fU]
 | v::r,a,l,n,ha,h=>by
  simp only[fU]at h;by_cases hv:v=0
  ·cases h1:fU b r a with
   | er e=>simp_all
   | ok l2 n2 =>
    have ih:=Hg ha h1
    grind [aw]
  ·cases h0:aO b a 1 with
   | er e=>simp_all
   | ok s m =>
    cases h1:fU b r m with
    | er e=>simp_all
    | ok l2 n2 =>
     have ih:=Hg (cW h0).2 h1
     grind [aw]
theorem am5 {b:List Nat}:∀ {f m a k n:Nat},f+m=9→pg b f m a=.ok k n→k≤8∧n≤b.length
 | 0,_,_,_,_,_,h=>absurd h (by simp[pg])
 | f+1,m,a,k,n,hf,h=>by
  rw[pg]at h
  cases h1:aO b a 1 with
  | er e=>simp_all
  | ok v a1 =>
   rw[h1,aw]at h;by_cases hv:v=1
   ·rw[if_pos hv]at h;exact am5 (by omega) h
   ·rw[if_neg hv]at h;injection h with e1 e2
    subst e1 e2;exact⟨by omega,(cW h1).2⟩
theorem ayz {b:List Nat}{a v n:Nat}(h:HW b a=.ok v n):v≤30000∧n≤b.length:=by
 rw[HW]at h
 cases h1:pg b 9 0 a with
 | er e=>simp_all
 | ok m n1 =>
  have hp:=am5 rfl h1;rw[h1,aw]at h
  cases h2:aO b n1 ((m+4:Nat):Int) with
  | er e=>simp_all
  | ok x n2 =>
   have hq:=cW h2;rw[h2,aw]at h;have h3:2 ^ (m+4)≤2 ^ 12:=Nat.pow_le_pow_right (by omega) (by omega)
   grind
theorem NT {b:List Nat}{id:Nat}:∀ {vs:List Int}{ss:List Nat}{a:Nat}{l:List Int}{n:Nat},a≤b.length→ss.length=vs.length→(∀ v∈vs,-100≤v∧v≤130)→iD b id vs ss a=.ok l n→l.length=vs.length∧n≤b.length∧∀ x∈l,-40000≤x∧x≤40000
 | [],ss,a,l,n,ha,hs,hv,h=>by
  grind [iD]
 | v::r,[],a,l,n,ha,hs,hv,h=>by simp at hs
 | v::r,s::ss,a,l,n,ha,hs,hv,h=>by
  have hs2:ss.length=r.length:=by simp_all
  have hv2:∀ v∈r,-100≤v∧v≤130:=fun x hx=>hv x (by simp[hx])
  have hv1:=hv v (by simp);have hsg:∀ y:Int,-40000≤y→y≤40000→-40000≤sg s y∧sg s y≤40000:=fun y h1 h2=>by grind [sg]
  rw[iD]at h;by_cases hc:id=11∧v=16
  ·rw[if_pos hc]at h
   cases h1:HW b a with
   | er e=>simp_all
   | ok x n1 =>
    have hp:=ayz h1;rw[h1,aw]at h
    cases h2:iD b id r ss n1 with
    | er e=>simp_all
    | ok l2 n2 =>
     obtain⟨i1,i2,i3⟩:=NT hp.2 hs2 hv2 h2
     grind [aw]
  ·rw[if_neg hc]at h
   cases h2:iD b id r ss a with
   | er e=>simp_all
   | ok l2 n2 =>
    obtain⟨i1,i2,i3⟩:=NT ha hs2 hv2 h2
    grind [aw]
theorem NP {id:Nat}{b:List Nat}{a:Int}{e n:Nat}(hid:eY id) (h:qz id b a=.ok e n):e<ax id∧n≤b.length:=by
 rw[qz]at h
 cases z1:ic b 10 0 a with
 | er e=>simp_all
 | ok m m1 =>
  rw[z1,aw]at h
  cases z2:aO b m1 m with
  | er e=>simp_all
  | ok hi m2 =>
   rw[z2,aw]at h
   cases z3:aO b m2 (aG id) with
   | er e=>simp_all
   | ok lo m3 =>
    rw[z3,aw]at h;by_cases hc:(aS id).length≤(2 ^ m+hi-1)*2 ^ aG id+lo
    ·simp_all
    ·rw[if_neg hc]at h;injection h with e1 e2
     subst e1 e2;exact⟨(Dx (by omega)).2.2.2 _ (fk (by omega)),(cW z3).2⟩
theorem avT {id:Nat}{b:List Nat}{a:Int}{l:List Int}{n:Nat}(hid:eY id) (h:xb id b a=.ok l n):pH b id l n:=by
 obtain⟨k1,k2,k3,k4,k5,k6,k7⟩:=gP id (c6 hid);rw[xb]at h
 cases h1:qz id b a with
 | er e=>simp_all
 | ok e n1 =>
  have hp:=(NP hid h1).2;have hv:∀ v∈iw id e,-100≤v∧v≤200:=fun v hv=>by
   have:=AQ (low:=bq id) (w:=aW id) k3 (d:=bQ id) (e:=e) v hv;omega
  rw[h1,aw]at h;by_cases hs:fZ id=true
  ·grind [xL]
  ·rw[if_neg hs]at h
   cases h2:fU b (iw id e) n1 with
   | er e=>simp_all
   | ok ss n2 =>
    have hq:=Hg hp h2;rw[h2,aw]at h;have hv2:∀ v∈iw id e,-100≤v∧v≤130:=fun v hv=>by
     have:=AQ (low:=bq id) (w:=aW id) k3 (d:=bQ id) (e:=e) v hv;omega
    have:=NT hq.2 hq.1 hv2 h
    grind [xL]
theorem atN (id:Nat) (b:List Nat) (a:Int) (hb:b.length≤1000000000) (ha:i64 a) (hid:1≤id∧id≤11):aM prog oN [.d (.lst (af b)),.d (.int .i64 a),iX id] =
  rK (pH b id) (xb id b a) (fun l n=>some (.tup [.own true 1 (ai l),.d (.int .i64 n),.d (.int .i64 0)])) (fun e=>some (.tup [.nl,.d (.int .i64 0),.d (.int .i64 (e+1))])):=by
 have hok:eY id:=⟨hid.1,by omega⟩
 have hr:=aeR id b a hb ha hok;have hsg:=Nd id (by
  obtain⟨h1,h2⟩:=hid;simp only[ids,List.take,List.mem_cons,List.not_mem_nil,or_false];omega)
 have hV:=fun e he=>QV id e hok he
 obtain⟨k1,k2,k3,k4,k5,k6,k7⟩:=gP id (c6 hok);have hus:=akp id (c6 hok);rw[az api IG.eq_1 rfl];obtain⟨T,ht⟩:∃ T,T=BR:=⟨_,rfl⟩
 have hT:=fun pl x2 x3 vals hl hv n hn hx2=>aoY b hb id pl x2 x3 vals hl hv n hn hx2
 rw[←ht]at hT;unfold BR at ht;rw[←ht];simp only[iX]at hr⊢;rw[xb,oZ (q:=fun e n=>e<ax id∧n≤b.length) (fun e n h=>NP hok h)];have hbl:∀ e,(iw id e).length=bQ id:=fun e=>xL
 have hbi:=fun e=>AQ (low:=bq id) (w:=aW id) k3 (d:=bQ id) (e:=e)
 generalize hes:aS id=es at *;generalize hrs:bF id=rs at *;generalize hpl:aG id=pl at *;simp (maxSteps:=300000) (disch:=omega) [hr,↓if_pos,↓if_neg];refine fA (fun _ _=>rfl) (fun e n hp=>?_) fun _=>rfl
 have hVe:=hV e hp.1;have hie:=hbi e;simp only[iw]at hVe hbl⊢;have hble:=hbl e;generalize gL (bq id) (aW id) (bQ id) e=vals at *;by_cases hs:fZ id=true
 ·rw[if_pos hs,cu ⟨hble,hp.2,fun x hx=>by grind⟩];simp (disch:=omega) [hVe,hsg,hs,↓if_pos,↓if_neg]
 ·have hs2:fZ id=false:=by grind
  have hT2:=hT pl (.d (.lst (bf es))) (.d (.lst (bf rs))) vals (by omega) (fun v hv=>by grind) n hp.2 rfl;simp (disch:=omega) [hVe,hsg,hs2,↓if_pos];rw[hT2];refine(ath (γ:=Option AV) (F:=fun l n=>some (.tup [.own true 1 (ai l),.d (.int .i64 n),.d (.int .i64 0)])) (G:=fun e=>some (.tup [.nl,.d (.int .i64 0),.d (.int .i64 e)]))).trans ?_
  cases h1:fU b vals n with
  | er e=>simp[rK]
  | ok ss m =>
   have hq:=Hg hp.2 h1
   grind [aw,rK,NT]
abbrev pT {α:Type}(_:α) (_:Nat):Prop:=True
def Bf (b:List Nat) (a:Int):R Int:=(qz 12 b a).bind fun e n=>.ok ((e:Int)-60) n
abbrev pSt (b:List Nat) (d:Int) (n:Nat):Prop:=(-60≤d∧d≤60)∧n≤b.length
theorem avn {γ:Type}{b:List Nat}{a:Int}{F:Int→Nat→γ}{G:Nat→γ}:rK (pSt b) (Bf b a) F G=rK (fun e n=>e<ax 12∧n≤b.length) (qz 12 b a) (fun e n=>F ((e:Int)-60) n) G:=by
 rw[Bf,oZ (q:=fun e n=>e<ax 12∧n≤b.length) (fun e n h=>NP (by omega) h)];refine fA (fun _ _=>rfl) (fun e n hp=>?_) fun _=>rfl
 have h1:e<121:=hp.1;rw[cu ⟨by omega,hp.2⟩]
theorem aj0 (b:List Nat) (a:Int) (hb:b.length≤1000000000) (ha:i64 a):aM prog oV [.d (.lst (af b)),.d (.int .i64 a)] =
  rK (pSt b) (Bf b a) (fun d n=>some (.tup [.d (.int .i64 d),.d (.int .i64 n),.d (.int .i64 0)])) (fun e=>some (.tup [.d (.int .i64 0),.d (.int .i64 0),.d (.int .i64 (e+1))])):=by
 have hok:eY 12:=by omega
 have hr:=aeR 12 b a hb ha hok;have hg:=TZ 12 hok;have hV:=fun e he=>QV 12 e hok he
 have c12:((12:Nat):Int)=12:=rfl;rw[az abL vT.eq_1 rfl,avn];simp only[iX,Nw,c12]at hr hg hV⊢;generalize hes:aS 12=es at *;generalize hrs:bF 12=rs at *;generalize hpl:aG 12=pl at *;simp (maxSteps:=300000) (disch:=omega) [hr,hg,↓if_pos,↓if_neg];refine fA (fun _ _=>rfl) (fun e n hp=>?_) fun _=>rfl
 have h1:e<121:=hp.1;have hv:ai (iw 12 e)=[[.int .i64 ((e:Int)-60)]]:=by
  show ai [((e % 121:Nat):Int)+-60]=_;rw[Nat.mod_eq_of_lt h1];rfl
 have hVe:=hV e hp.1;rw[hv]at hVe;simp (maxSteps:=300000) (disch:=omega) [hVe]
structure H2 (hp:Int→Int→ac) (A:Nat):Prop where
 get:∀ s z,get (hp s z) A=some (.cells [.d (.int .i64 s),.d (.int .i64 z)])
 put:∀ s z s' z',put (hp s z) A (.cells [.d (.int .i64 s'),.d (.int .i64 z')])=hp s' z'
abbrev gI (book n s z:Int):Prop:=if book=13 then (0≤n∧n≤511)∧(z<0∨(z-60≤n∧n≤z+60)) else (0≤n∧n≤255)∧(s-60≤n∧n≤s+60)
theorem HC {hp:Int→Int→ac}{A:Nat}(H:H2 hp A) (book n s z:Int) (N:Nat) (hn:-100000≤n∧n≤100000) (hs:-100000≤s∧s≤100000) (hz:-100000≤z∧z≤100000) :
  (Dn prog).call fp [.ptr A 0,.d (.int .i64 book),.d (.int .i64 n)] ⟨hp s z,N⟩ =
   if gI book n s z then some (.d (.bool true),⟨if book=13 then hp s n else hp n z,N⟩) else some (.d (.bool false),⟨hp s z,N⟩):=by
 rw[aD Mm nE.eq_1 rfl];by_cases hb:book=13
 ·by_cases ho:(0≤n∧n≤511)∧(z<0∨(z-60≤n∧n≤z+60))
  ·rw[if_pos (by rw[gI,if_pos hb];exact ho),if_pos hb];subst hb;rcases ho with ⟨⟨o1,o2⟩,o3 | ⟨o3,o4⟩⟩
   ·simp (maxSteps:=300000) (disch:=omega) [↓if_pos,↓if_neg,H.get,H.put]
   ·by_cases hz0:z<0
    ·simp (maxSteps:=300000) (disch:=omega) [↓if_pos,↓if_neg,H.get,H.put]
    ·simp (maxSteps:=300000) (disch:=omega) [↓if_pos,↓if_neg,H.get,H.put]
  ·rw[if_neg (by rw[gI,if_pos hb];exact ho)];subst hb;by_cases o1:n<0
   ·simp (maxSteps:=300000) (disch:=omega) [↓if_pos,↓if_neg,H.get,H.put]
   ·by_cases o2:511<n
    ·simp (maxSteps:=300000) (disch:=omega) [↓if_pos,↓if_neg,H.get,H.put]
    ·by_cases o3:n<z-60
     ·simp (maxSteps:=300000) (disch:=omega) [↓if_pos,↓if_neg,H.get,H.put]
     ·simp (maxSteps:=300000) (disch:=omega) [↓if_pos,↓if_neg,H.get,H.put]
 ·by_cases ho:(0≤n∧n≤255)∧(s-60≤n∧n≤s+60)
  ·rw[if_pos (by rw[gI,if_neg hb];exact ho),if_neg hb];obtain⟨⟨o1,o2⟩,o3,o4⟩:=ho;simp (maxSteps:=300000) (disch:=omega) [↓if_pos,↓if_neg,H.get,H.put]
  ·rw[if_neg (by rw[gI,if_neg hb];exact ho)];by_cases o1:n<0
   ·simp (maxSteps:=300000) (disch:=omega) [↓if_pos,↓if_neg,H.get,H.put]
   ·by_cases o2:255<n
    ·simp (maxSteps:=300000) (disch:=omega) [↓if_pos,↓if_neg,H.get,H.put]
    ·by_cases o3:n<s-60
     ·simp (maxSteps:=300000) (disch:=omega) [↓if_pos,↓if_neg,H.get,H.put]
     ·simp (maxSteps:=300000) (disch:=omega) [↓if_pos,↓if_neg,H.get,H.put]
theorem qJ {l:List am}{i:Nat}{s:am}{r:List am}(h:l.drop i=s::r):(dA l)[i]?=some [.int .i64 s.book,.int .i64 s.len]:=by
 have:=congrArg (fun l=>l[0]?) h;simp only[List.getElem?_drop,List.getElem?_cons_zero,Nat.add_zero]at this;rw[dA,List.getElem?_map,this];rfl
theorem aT {α:Type}{l:List α}{i:Nat}{s:α}{r:List α}(h:l.drop i=s::r):l.drop (i+1)=r:=by
 have:=congrArg (fun l=>l.drop 1) h;simpa [List.drop_drop] using this
theorem bn {α:Type}{l:List α}{i:Nat}{s:α}{r:List α}(h:l.drop i=s::r):i<l.length:=by
 rcases Nat.lt_or_ge i l.length with g | g
 ·exact g
 ·rw[List.drop_eq_nil_of_le g]at h;exact absurd h (by simp)
theorem aiv (full:List am) (hl:full.length≤1000000) (x21:AV) (y22 y23:D):∀ (l:List am) (i:Nat) (lf c:Int) (N:Nat),full.drop i=l→fitsS lf l→0≤c→lf+c≤1000→
  (Dn prog).code (.loop pe) ⟨[(7,.d (.int .i64 (lf+c))),(21,x21),(22,.d y22),(23,.d y23),(27,.d (.lst (dA full))),(28,.d (.int .i64 full.length)),(29,.d (.int .i64 i))],⟨[],N⟩⟩ =
  some (.exit 2,⟨[(21,x21),(22,.d y22),(23,.d y23)],⟨[],N+l.length⟩⟩):=by
 intro l
 induction l with
 | nil =>
  intro i lf c N h hf h0 h1;have hi:full.length≤i:=by simpa [List.drop_eq_nil_iff] using h
  rw[aa pe.eq_1];simp (maxSteps:=300000) (disch:=omega) [↓if_pos,↓if_neg]
 | cons s r ih =>
  intro i lf c N h hf h0 h1;obtain⟨⟨⟨s1,s2⟩,s3,s4⟩,hf2⟩:=hf;have hg:=qJ h;have hlt:=bn h;have h5:=ih (i+1) (lf-s.len) c (N+1) (aT h) hf2 h0 (by omega);have c1:((i+1:Nat):Int)=(i:Int)+1:=rfl;have c2:lf-s.len+c=lf+c-s.len:=by omega
  rw[c1,c2]at h5;have e:N+(s::r).length=N+1+r.length:=by simp only[List.length_cons];omega
  rw[aa pe.eq_1,e,←h5];rcases s4 with s4 | s4
  ·simp (maxSteps:=300000) (disch:=omega) [↓if_pos,↓if_neg,hg]
  ·simp (maxSteps:=300000) (disch:=omega) [↓if_pos,↓if_neg,hg,s4]
def aen:List (List am)→Nat
 | []=>0
 | l::r=>l.length+aen r
theorem kr {g:List (List am)}{i:Nat}{l:List am}{r:List (List am)}(h:g.drop i=l::r):(aK g)[i]?=some [.lst (dA l)]:=by
 have:=congrArg (fun l=>l[0]?) h;simp only[List.getElem?_drop,List.getElem?_cons_zero,Nat.add_zero]at this;rw[aK,List.getElem?_map,this];rfl
theorem aiO (full:List (List am)) (hl:full.length≤1000) (m:Int) (hm:0≤m∧m≤40):∀ (g:List (List am)) (i N:Nat),full.drop i=g→(∀ l∈g,fitsS m l∧l.length≤1000)→
  (Dn prog).code (.loop oT) ⟨[(21,.d (.lst (aK full))),(22,.d (.int .i64 full.length)),(23,.d (.int .i64 i))],⟨[],N⟩⟩=some (.exit 0,⟨[],⟨[],N+aen g⟩⟩):=by
 intro g
 induction g with
 | nil =>
  intro i N h hf;have hi:full.length≤i:=by simpa [List.drop_eq_nil_iff] using h
  rw[aa oT.eq_1];simp (maxSteps:=300000) (disch:=omega) [↓if_pos,↓if_neg,aen]
 | cons l r ih =>
  intro i N h hf;have hg:=kr h;have hlt:=bn h;obtain⟨f1,f2⟩:=hf l (.head _);have h0:=aiv l (by omega) (.d (.lst (aK full))) (.int .i64 full.length) (.int .i64 i) l 0 m (40-m) N rfl f1 (by omega) (by omega);have h5:=ih (i+1) (N+l.length) (aT h) fun q hq=>hf q (.tail _ hq)
  have c1:((i+1:Nat):Int)=(i:Int)+1:=rfl;have c2:m+(40-m)=40:=by omega
  have c0:((0:Nat):Int)=0:=rfl;rw[c1]at h5;rw[c2,c0]at h0;have e:N+aen (l::r)=N+l.length+aen r:=by rw[aen];omega
  rw[aa oT.eq_1,e,←h5];simp (maxSteps:=300000) (disch:=omega) [↓if_pos,↓if_neg,hg,h0]
theorem aff (gain m:Int) (g:List (List am)) (hgn:0≤gain∧gain≤255) (hl:g.length≤8) (hm:0≤m∧m≤40) (hf:∀ l∈g,fitsS m l∧l.length≤1000) :
  aM prog xc [.d (.int .i64 gain),.d (.lst (aK g))]=some (.d (.bool true)):=by
 have h:=aiO g (by omega) m hm g 0 0 rfl hf;have c0:((0:Nat):Int)=0:=rfl;rw[c0]at h;rw[az alJ E4.eq_1 rfl];simp (maxSteps:=300000) (disch:=omega) [↓if_pos,↓if_neg,h]
def ak (l:List am):List Int:=l.flatMap fun s=>List.replicate s.len.toNat s.book
theorem U2 {l:List Int}{x:Int}:ai (l++[x])=ai l++[[.int .i64 x]]:=by simp[ai]
theorem eq {l:List Int}:(ai l).length=l.length:=by simp[ai]
abbrev ll (book:Int):Int:=if book=13 then 511 else 255
def gg (b:List Nat) (a book was:Int):R Int :=
 if was<0 then (aO b a 9).bind fun v n=>.ok (v:Int) n
 else (Bf b a).bind fun d n=>if was+d<0∨ll book<was+d then .er 7 else .ok (was+d) n
abbrev aDa (b:List Nat) (book:Int) (v:Int) (n:Nat):Prop:=(0≤v∧v≤511)∧n≤b.length
theorem aav {b:List Nat}{a:Int}{d:Int}{n:Nat}(h:Bf b a=.ok d n):pSt b d n:=by
 rw[Bf]at h
 cases h1:qz 12 b a with
 | er e=>rw[h1]at h;exact absurd h (by simp)
 | ok e m =>
  rw[h1,aw]at h;obtain⟨k1,k2⟩:=NP (by omega) h1;have h2:e<121:=k1;injection h with g1 g2
  subst g1 g2;exact⟨by omega,k2⟩
theorem Vv {b:List Nat}{a book was:Int}{v:Int}{n:Nat}(h:gg b a book was=.ok v n):aDa b book v n:=by
 rw[gg]at h;split at h
 ·cases h1:aO b a 9 with
  | er e=>rw[h1]at h;exact absurd h (by simp)
  | ok v0 m =>
   rw[h1,aw]at h;have hp:=cW h1;have h2:v0<512:=hp.1;have h3:=hp.2;injection h with g1 g2
   subst g1 g2;exact⟨by omega,h3⟩
 ·cases h1:Bf b a with
  | er e=>rw[h1]at h;exact absurd h (by simp)
  | ok d m =>
   rw[h1,aw]at h;have hp:=aav h1;split at h
   ·exact absurd h (by simp)
   ·rename_i hn;injection h with g1 g2
    subst g1 g2;refine⟨?_,hp.2⟩;simp only[ll]at hn;split at hn<;>omega
def jx (b:List Nat):List Int→Int→Int→Int→R (List Int×Int×Int)
 | [],a,w,z=>.ok ([],w,z) a.toNat
 | k::r,a,w,z=>if k=13 then (gg b a 13 z).bind fun v n=>(jx b r n w v).bind fun q n=>.ok (v::q.1,q.2) n
  else if 0<k then (gg b a k w).bind fun v n=>(jx b r n v z).bind fun q n=>.ok (v::q.1,q.2) n
  else (jx b r a w z).bind fun q n=>.ok (0::q.1,q.2) n
abbrev inW (w:Int):Prop:=-1≤w∧w≤511
abbrev aDU (b:List Nat) (r:List Int) (q:List Int×Int×Int) (n:Nat):Prop:=q.1.length=r.length∧(inW q.2.1∧inW q.2.2)∧n≤b.length
theorem Mu {b:List Nat}:∀ {r:List Int}{a:Nat}{w z:Int}{q:List Int×Int×Int}{n:Nat},a≤b.length→inW w→inW z→jx b r a w z=.ok q n→aDU b r q n
 | [],a,w,z,q,n,ha,hw,hz,h=>by
  rw[jx]at h;injection h with g1 g2
  subst g1 g2;exact⟨rfl,⟨hw,hz⟩,by simpa using ha⟩
 | k::r,a,w,z,q,n,ha,hw,hz,h=>by
  rw[jx]at h;split at h
  ·cases h1:gg b a 13 z with
   | er e=>rw[h1]at h;exact absurd h (by simp)
   | ok v m =>
    rw[h1,aw]at h;have hp:=Vv h1
    cases h2:jx b r m w v with
    | er e=>rw[h2]at h;exact absurd h (by simp)
    | ok q1 m1 =>
     rw[h2,aw]at h;have hq:=Mu hp.2 hw ⟨by have:=hp.1.1;omega,hp.1.2⟩ h2;injection h with g1 g2
     subst g1 g2;exact⟨by simp[hq.1],hq.2⟩
  ·split at h
   ·cases h1:gg b a k w with
    | er e=>rw[h1]at h;exact absurd h (by simp)
    | ok v m =>
     rw[h1,aw]at h;have hp:=Vv h1
     cases h2:jx b r m v z with
     | er e=>rw[h2]at h;exact absurd h (by simp)
     | ok q1 m1 =>
      rw[h2,aw]at h;have hq:=Mu hp.2 ⟨by have:=hp.1.1;omega,hp.1.2⟩ hz h2;injection h with g1 g2
      subst g1 g2;exact⟨by simp[hq.1],hq.2⟩
   ·cases h2:jx b r a w z with
    | er e=>rw[h2]at h;exact absurd h (by simp)
    | ok q1 m1 =>
     rw[h2,aw]at h;have hq:=Mu ha hw hz h2;injection h with g1 g2
     subst g1 g2;exact⟨by simp[hq.1],hq.2⟩
theorem sP {l:List Int}{i:Nat}{k:Int}{r:List Int}(h:l.drop i=k::r):(ai l)[i]?=some [.int .i64 k]:=by
 have:=congrArg (fun l=>l[0]?) h;simp only[List.getElem?_drop,List.getElem?_cons_zero,Nat.add_zero]at this;rw[ai,List.getElem?_map,this];rfl
def aj (n:Nat):Nat→List Nat
 | 0=>[]
 | k+1=>n / 2 ^ k % 2::aj n k
@[simp] theorem d9 {n:Nat}:∀ {k:Nat},(aj n k).length=k
 | 0=>rfl
 | k+1=>by rw[aj,List.length_cons,d9]
theorem an6 {n k:Nat}(hk:k≤63):cZ .shr (.d (.int .i64 (n:Int))) (.d (.int .i64 (k:Int)))=some (.int .i64 ((n / 2 ^ k:Nat):Int)):=by
 rw[gw (by omega)];have:min ((k:Int)).toNat IntKind.i64.bits=k:=by simp only[Int.toNat_natCast,IntKind.bits];omega
 rw[this,Int.fdiv_eq_ediv_of_nonneg _ (Int.natCast_nonneg _),←Int.natCast_ediv]
theorem aD5 {a:Nat}(h:a<9223372036854775808):cZ .and (.d (.int .i64 (a:Int))) (.d (.int .i64 1))=some (.int .i64 ((a % 2:Nat):Int)):=by
 have:=ark (k:=.i64) (a:=a) (b:=1) (by simpa [kB,IntKind.signed] using h) (by decide);rw[Nat.and_one_is_mod]at this;exact this
theorem arg {σ:Type}{hp:σ→ac}{l p N:Nat}{st:σ→Nat→σ}{bw:Nat→σ→Prop}(hI:∀ k s x,bw (k+1) s→bw k (st s x)) (n:Nat) (hn:n≤9223372036854775807) (hg:∀ s,get (hp s) p=some (.cells [.d (.int .i64 n)]))
  (hy:∀ (k:Nat) (s:σ) (x:Nat),bw (k+1) s→x≤1→bc (Dn prog) (.yield l) [.d (.int .u8 (x:Int))] ⟨hp s,N⟩=some (.d (.bool true),⟨hp (st s x),N⟩)):∀ (k:Nat) (I:Int) (s:σ),k≤31→bw k s→I=k-1→
  (Dn prog).code (.loop lV) ⟨[(0,.yield l),(2,.ptr p 0),(4,.d (.int .i64 I))],⟨hp s,N⟩⟩=some (.exit 0,⟨[],⟨hp ((aj n k).foldl st s),N⟩⟩):=by
 intro k
 induction k with
 | zero =>
  intro I s hk hi hI;subst hI;rw[aa lV.eq_1];simp (disch:=omega) [↓if_neg,aj]
 | succ k ih =>
  intro I s hk hi hI;subst hI;have c:((k+1:Nat):Int)-1=(k:Int):=by omega
  have h1:n / 2 ^ k≤n:=Nat.div_le_self _ _;have h2:=an6 (n:=n) (k:=k) (by omega);have h3:=aD5 (a:=n / 2 ^ k) (by omega);have h4:=hy k s (n / 2 ^ k % 2) hi (by omega);have h5:=ih ((k:Int)-1) (st s (n / 2 ^ k % 2)) (by omega) (hI _ _ _ hi) rfl;rw[c,aa lV.eq_1,aj,List.foldl_cons];generalize n / 2 ^ k=Q at *;have c2:((Q % 2:Nat):Int)=(Q:Int) % 2:=by omega
  rw[c2]at h4;simp (disch:=omega) [↓if_pos,hg,-gw,h2,h3,-gQ,h4];exact h5
theorem axp {σ:Type}{hp:σ→ac}{l p q N:Nat}{st:σ→Nat→σ}{bw:Nat→σ→Prop}(hI:∀ k s x,bw (k+1) s→bw k (st s x)) (n k:Nat) (hn:n≤9223372036854775807) (hk:k≤31) (hg:∀ s,get (hp s) p=some (.cells [.d (.int .i64 n)])) (hg2:∀ s,get (hp s) q=some (.cells [.d (.int .i64 k)]))
  (hy:∀ (k:Nat) (s:σ) (x:Nat),bw (k+1) s→x≤1→bc (Dn prog) (.yield l) [.d (.int .u8 (x:Int))] ⟨hp s,N⟩=some (.d (.bool true),⟨hp (st s x),N⟩)) (s:σ) (hs:bw k s) :
  (Dn prog).call mB [.yield l,.ptr q 0,.ptr p 0] ⟨hp s,N⟩=some (.tup [],⟨hp ((aj n k).foldl st s),N⟩):=by
 rw[aD ags zH.eq_1 rfl];have h:=arg hI n hn hg hy k ((k:Int)-1) s hk hs rfl;simp (disch:=omega) [hg2,h]
abbrev arZ (n k:Int) (acc:List Nat):ac:=[(0,.cells [.d (.int .i64 n)]),(1,.cells [.d (.int .i64 k)]),(2,.cells [.own false 1 (af acc)]),(3,.loop [(2,.ptr 2 0)] [7] gX ik false none)]
theorem atv {l acc:List Nat}:l.foldl (fun(s:List Nat) x=>s++[x]) acc=acc++l:=by
 induction l generalizing acc with
 | nil=>simp
 | cons x r ih=>rw[List.foldl_cons,ih];simp
theorem aC1 (n k:Int) (s:List Nat) (x:Nat) (hs:s.length≤990000000):bc (Dn prog) (.yield 3) [.d (.int .u8 (x:Int))] ⟨arZ n k s,4⟩=some (.d (.bool true),⟨arZ n k (s++[x]),4⟩):=by
 have hl:(af s).length=s.length:=by simp[af]
 simp (disch:=omega) [gX,ik];omega
theorem aai (acc:List Nat) (n k:Nat) (hn:n≤9223372036854775807) (hk:k≤31) (ha:acc.length≤900000000) :
  (Dn prog).call jB [.own false 1 (af acc),.fn mB [] [.ptr 1 0,.ptr 0 0]] ⟨[(0,.cells [.d (.int .i64 n)]),(1,.cells [.d (.int .i64 k)])],2⟩ =
  some (.own false 1 (af (acc++aj n k)),⟨[(0,.cells [.d (.int .i64 n)]),(1,.cells [.d (.int .i64 k)]),(2,.cells [.junk])],4⟩):=by
 have h:=axp (hp:=arZ n k) (l:=3) (p:=0) (q:=1) (N:=4) (st:=fun s x=>s++[x]) (bw:=fun k s=>s.length+k≤980000000) (fun k s x h=>by simp only[List.length_append,List.length_cons,List.length_nil];omega) n k hn hk (fun s=>by simp) (fun s=>by simp) (fun j s x h _=>aC1 n k s x (by omega)) acc (by omega);rw[atv]at h;rw[aD Bi jC.eq_1 rfl];simp (disch:=omega) [rd,h]
theorem arS (n k:Int):(Dn prog).call Ed [.d (.int .i64 n),.d (.int .i64 k)] ⟨[],0⟩=some (.fn mB [] [.ptr 1 0,.ptr 0 0],⟨[(0,.cells [.d (.int .i64 n)]),(1,.cells [.d (.int .i64 k)])],2⟩):=by
 rw[aD al7 Eh.eq_1 rfl];simp (disch:=omega)
abbrev np (n s:Int):Prop:=(0≤s∧s≤31)∧0≤n∧n.toNat<2 ^ s.toNat
theorem G9 (x:AV) (b:List Nat) (hb:b.length≤1000000000) (hx:elems [] x=some (af b)):aM prog dX [x]=some (.own true 1 (af b)):=by
 have hl:(af b).length=b.length:=by simp[af]
 rw[az Ho l9.eq_1 rfl];have h4:Nat.ble b.length 4294967296=true:=by rw[Nat.ble_eq];omega
 rw[dZ];simp (disch:=omega) [bj,FN,hx,h4]
theorem jq (b:List Nat) (n s:Int) (hb:b.length≤900000000) (hn:i64 n) (x:AV) (hx:x=.d (.lst (af b))∨x=.nl∧b=[]):aM prog dU [x,.d (.int .i64 n),.d (.int .i64 s)] =
  if np n s then some (.tup [.own true 1 (af (b++aj n.toNat s.toNat)),.d (.int .i64 0)]) else some (.tup [.nl,.d (.int .i64 2)]):=by
 have hc:aM prog dX [x]=some (.own true 1 (af b)):=by
  refine G9 x b (by omega) ?_;rcases hx with rfl | ⟨rfl,rfl⟩<;>rfl
 rw[az aof Hm.eq_1 rfl];by_cases h1:0≤s∧s≤31
 ·obtain⟨S,rfl⟩:=Int.eq_ofNat_of_zero_le h1.1;by_cases h2:n<0
  ·rw[if_neg (by simp only[np];omega)];simp (disch:=omega) [pi,↓if_pos,↓if_neg]
  ·obtain⟨M,rfl⟩:=Int.eq_ofNat_of_zero_le (Int.not_lt.1 h2);have h3:=an6 (n:=M) (k:=S) (by omega);by_cases h4:M<2 ^ S
   ·rw[if_pos (by simp only[np,Int.toNat_natCast];omega)];rw[Nat.div_eq_of_lt h4]at h3;have h5:=aai b M S (by omega) (by omega) hb;rcases hx with rfl | ⟨rfl,rfl⟩
    ·simp (disch:=omega) [pi,↓if_pos,↓if_neg,-gw,h3,hc,arS,h5]
    ·simp (disch:=omega) [pi,↓if_pos,↓if_neg,-gw,h3,hc,arS,h5]
   ·rw[if_neg (by simp only[np,Int.toNat_natCast];omega)];have h6:M / 2 ^ S≠0:=by
     intro h;rcases Nat.div_eq_zero_iff.1 h with h | h
     ·have:=Nat.two_pow_pos S;omega
     ·exact h4 h
    have h7:¬ (((M / 2 ^ S:Nat):Int)=0):=by omega
    generalize M / 2 ^ S=Q at *;simp (disch:=omega) [pi,↓if_pos,↓if_neg,-gw,h3]
 ·rw[if_neg (by simp only[np];omega)];simp (disch:=omega) [pi,↓if_pos,↓if_neg]
structure Hv (hp:AV→ac) (p:Nat):Prop where
 get:∀ v,get (hp v) p=some (.cells [v])
 put:∀ v w,put (hp v) p (.cells [w])=hp w
def inB (x:AV) (b:List Nat):Prop:=x=.own false 1 (af b)∨x=.d (.lst (af b))∨x=.nl∧b=[]
theorem wD {b:List Nat}:inB (.own false 1 (af b)) b:=.inl rfl
theorem IM {hp:AV→ac}{p N:Nat}(H:Hv hp p) {x:AV}{b:List Nat}(hx:inB x b) (hb:b.length≤900000000) (n s:Int) (ho:np n s) (hn:i64 n) :
  (Dn prog).call oD [.d (.int .i64 n),.d (.int .i64 s),.ptr p 0] ⟨hp x,N⟩=some (.tup [],⟨hp (.own false 1 (af (b++aj n.toNat s.toNat))),N⟩):=by
 have h1:=fun x hx=>jq b n s hb hn x hx
 simp only[if_pos ho]at h1;rw[aD akx CN.eq_1 rfl];rcases hx with rfl | rfl | ⟨rfl,rfl⟩
 ·have h2:=h1 _ (.inl rfl);simp (disch:=omega) [H.get,H.put,h2]
 ·have h2:=h1 _ (.inl rfl);simp (disch:=omega) [H.get,H.put,h2]
 ·have h2:=h1 _ (.inr ⟨rfl,rfl⟩);simp (disch:=omega) [H.get,H.put,h2]
theorem oW {hp:AV→ac}{p N:Nat}(H:Hv hp p) {x:AV}{b:List Nat}(hx:inB x b) (hb:b.length≤900000000) (n s:Nat) (hs:s≤31) (ho:n<2 ^ s) (nI sI:Int) (en:nI=n) (es:sI=s) :
  (Dn prog).call oD [.d (.int .i64 nI),.d (.int .i64 sI),.ptr p 0] ⟨hp x,N⟩=some (.tup [],⟨hp (.own false 1 (af (b++aj n s))),N⟩):=by
 subst en es;have h31:2 ^ s≤2 ^ 31:=Nat.pow_le_pow_right (by omega) hs;exact IM H hx hb n s (by simp only[np,Int.toNat_natCast];omega) (by omega)
def ja:List Int→Int→Nat
 | [],_=>0
 | n::r,w=>if w<n then 0 else ja r (w-n)+1
theorem agw (i:al) (hi:i.groups.length≤1000) (hg:∀ n∈i.groups,1≤n∧n≤8) (m:Nat):∀ (r:List Int) (g:Nat) (w:Int),i.groups.drop g=r→0≤w→w<r.sum→w≤8→
  (Dn prog).code (.loop tC) ⟨[(2,.ptr 0 0),(8,.d (.int .i64 g)),(9,.d (.int .i64 w))],⟨[(0,.cells i.cells)],m⟩⟩=some (.exit 0,⟨[(8,.d (.int .i64 (g+ja r w:Nat)))],⟨[(0,.cells i.cells)],m⟩⟩):=by
 simp only[al.cells];intro r
 induction r with
 | nil=>intro g w h1 h2 h3;simp at h3;omega
 | cons n r ih =>
  intro g w h1 h2 h3 h4;have hlt:g<i.groups.length:=by
   rcases Nat.lt_or_ge g i.groups.length with h | h
   ·exact h
   ·rw[List.drop_eq_nil_of_le h]at h1;exact absurd h1 (by simp)
  have h5:=List.drop_eq_getElem_cons hlt;have e1:i.groups[g]=n∧i.groups.drop (g+1)=r:=by rw[h1]at h5;injection h5 with a b;exact⟨a.symm,b.symm⟩
  have hn:=hg _ (List.getElem_mem hlt);rw[e1.1]at hn;have hnt:nth i.groups g=n:=by have:=sD hlt;rw[List.getElem?_eq_getElem hlt,e1.1]at this;injection this with this;exact this.symm
  rw[aa tC.eq_1,ja];by_cases h6:w<n
  ·rw[if_pos h6];simp (disch:=omega) [↓if_pos,↓if_neg,hnt]
  ·have h7:=ih (g+1) (w-n) e1.2 (by omega) (by simp only[List.sum_cons]at h3;omega) (by omega);have c1:((g+1:Nat):Int)=(g:Int)+1:=rfl;have c2:g+1+ja r (w-n)=g+(ja r (w-n)+1):=by omega
   rw[c1,c2]at h7;rw[if_neg h6];simp (disch:=omega) [↓if_pos,↓if_neg,hnt];exact h7
theorem b6 {i:al}(hm:i.may 11):(∀ n∈i.groups,1≤n∧n≤8)∧i.groups.sum=i.many:=by
 obtain⟨_,_,_,_,h⟩:=hm;unfold al.grouped at h;unfold al.many;by_cases hs:i.seq=2
 ·rw[if_pos hs]at h⊢;exact⟨h.1,h.2.1⟩
 ·rw[if_neg hs]at h⊢;rw[h];simp
theorem Io (i:al) (hi:i.Fit) (hm:i.may 11) (w:Int) (h0:0≤w) (h1:w<i.many):aM prog nL [.agg i.cells,.d (.int .i64 w)]=some (.tup [.d (.int .i64 (ja i.groups w)),.d (.int .i64 0)]):=by
 have hw:=jr i hi;rw[if_pos hm]at hw;obtain⟨g1,g2⟩:=b6 hm;have hmm:i.many≤8:=by unfold al.many;split<;>omega
 have hl:=agw i hi.len g1 1 i.groups 0 w rfl h0 (by omega) (by omega);have c0:((0:Nat):Int)=0:=rfl;rw[c0,Nat.zero_add]at hl;simp only[al.cells]at hw hl;rw[az ajc CF.eq_1 rfl];simp (disch:=omega) [hw,↓if_pos,↓if_neg,hl]
theorem Jd:∀ x∈z7,kL x.1 x.2≤kL 11 x.2∧kL x.1 true≤14:=by decide +kernel
theorem im {r:Nat}{i:al}(hr:r≤11) (h:i.may r):i.may 11:=by
 obtain⟨h1,h2,h3,h4,h5⟩:=h;have:=(Jd _ (dQ (r:=r) (s:=decide (i.seq=2)) (by omega))).1;exact⟨h1,h2,h3,by simp only[]at this;omega,h5⟩
def D2 (g:List Int):Nat→Nat→List Nat
 | 0,_=>[]
 | k+1,w=>(if ja g w=ja g (w+1) then aj 1 1 else aj 0 1)++D2 g k (w+1)
theorem abK {g:List Int}:∀ {k w:Nat},(D2 g k w).length=k
 | 0,_=>rfl
 | k+1,w=>by rw[D2,List.length_append,abK];split<;>simp<;>omega
def nA (i:al):List Nat:=aj 0 1++(aj i.seq 2++(aj i.shape 1++(if i.seq=2 then aj i.max.toNat 4++D2 i.groups 7 0 else aj i.max.toNat 6++aj 0 1)))
abbrev hpP (i:al) (v:AV):ac:=[(0,.cells [v]),(1,.cells i.cells)]
theorem LO (i:al):Hv (hpP i) 0:=⟨fun v=>by simp,fun v w=>by simp⟩
theorem al1 (i:al) (hi:i.Fit) (hm:i.may 11) (hs:i.seq=2) (N:Nat):∀ (k w:Nat) (b:List Nat),w+k=7→b.length≤800000000+w→
  (Dn prog).code (.loop qg) ⟨[(3,.ptr 0 0),(5,.ptr 1 0),(9,.fn oD [] [.ptr 0 0]),(10,.d (.int .i64 ((w:Int)+1)))],⟨hpP i (.own false 1 (af b)),N⟩⟩ =
  some (.exit 0,⟨[(3,.ptr 0 0)],⟨hpP i (.own false 1 (af (b++D2 i.groups k w))),N⟩⟩):=by
 have hmm:i.many=8:=by unfold al.many;rw[if_pos hs]
 intro k
 induction k with
 | zero =>
  intro w b h1 h2;rw[aa qg.eq_1,D2];simp (disch:=omega) [↓if_neg]
 | succ k ih =>
  intro w b h1 h2;have g1:=Io i hi hm w (by omega) (by omega);have g2:=Io i hi hm (w+1) (by omega) (by omega);have p1:=IM (LO i) (N:=N) (wD (b:=b)) (by omega) 1 1 (by decide) (by omega);have p0:=IM (LO i) (N:=N) (wD (b:=b)) (by omega) 0 1 (by decide) (by omega);have i1:=ih (w+1) (b++aj 1 1) (by omega) (by simp;omega);have i0:=ih (w+1) (b++aj 0 1) (by omega) (by simp;omega);have c1:((w+1:Nat):Int)=(w:Int)+1:=rfl;have t1:(1:Int).toNat=1:=rfl;have t0:(0:Int).toNat=0:=rfl;simp only[al.cells]at g1 g2;simp only[c1,t1,t0,List.append_assoc]at p1 p0 i1 i0;rw[aa qg.eq_1,D2];by_cases h:ja i.groups w=ja i.groups (w+1)
  ·rw[if_pos h];simp (disch:=omega) [↓if_pos,g1,g2,h,p1];exact i1
  ·rw[if_neg h];simp (disch:=omega) [↓if_pos,↓if_neg,g1,g2,h,p0];exact i0
theorem asJ (b:List Nat) (hb:b.length≤700000000) (x:AV) (hx:x=.d (.lst (af b))∨x=.nl∧b=[]) (r:Int) (i:al) (hi:i.Fit):aM prog HX [x,.d (.int .i64 r),.agg i.cells] =
  if ct r then if i.may r.toNat then some (.tup [.own true 1 (af (b++nA i)),.d (.int .i64 0)]) else some (.tup [.nl,.d (.int .i64 8)]) else some (.tup [.nl,.d (.int .i64 2)]):=by
 have hc:=pk r i hi;simp only[al.cells]at hc;have hxx:inB x b:=by
  rcases hx with rfl | ⟨rfl,rfl⟩
  ·exact .inr (.inl rfl)
  ·exact .inr (.inr ⟨rfl,rfl⟩)
 rw[az aoo Hw.eq_1 rfl];by_cases hr:ct r
 ·rw[if_pos hr]at hc⊢;by_cases hm:i.may r.toNat
  ·rw[if_pos hm]at hc⊢;have hm11:i.may 11:=im (by omega) hm;obtain⟨m1,m2,m3,m4,m5⟩:=hm;have hmb:=Ce (r:=r.toNat) (s:=decide (i.seq=2)) (by omega);have q1:=oW (LO i) (N:=2) hxx (by omega) 0 1 (by decide) (by decide) 0 1 rfl rfl;have q2:=oW (LO i) (N:=2) (wD (b:=b++aj 0 1)) (by simp;omega) i.seq 2 (by decide) (by omega) i.seq 2 rfl rfl;have q3:=oW (LO i) (N:=2) (wD (b:=b++aj 0 1++aj i.seq 2)) (by simp;omega) i.shape 1 (by decide) (by omega) i.shape 1 rfl rfl;by_cases hs:i.seq=2
   ·rw[decide_eq_true hs]at m4;have hmb:=(Jd _ (dQ (r:=r.toNat) (s:=true) (by omega))).2;simp only[]at hmb;have q4:=oW (LO i) (N:=2) (wD (b:=b++aj 0 1++aj i.seq 2++aj i.shape 1)) (by simp;omega) i.max.toNat 4 (by decide) (by omega) i.max 4 (by omega) rfl;have q5:=al1 i hi hm11 hs 2 7 0 (b++aj 0 1++aj i.seq 2++aj i.shape 1++aj i.max.toNat 4) (by omega) (by simp;omega);have c0:((0:Nat):Int)+1=1:=rfl;rw[c0]at q5;have e:b++aj 0 1++aj i.seq 2++aj i.shape 1++aj i.max.toNat 4++D2 i.groups 7 0=b++nA i:=by simp only[nA,if_pos hs,List.append_assoc]
    rw[e]at q5;simp only[hpP,al.cells]at q1 q2 q3 q4 q5;generalize b++aj 0 1=B1 at *;generalize B1++aj i.seq 2=B2 at *;generalize B2++aj i.shape 1=B3 at *;generalize B3++aj i.max.toNat 4=B4 at *;generalize nA i=IB at *;rcases hx with rfl | ⟨rfl,rfl⟩
    all_goals
     simp (maxSteps:=300000) (disch:=omega) [hc,↓if_pos,↓if_neg,q1,q2,q3,q4,q5]
   ·have q4:=oW (LO i) (N:=2) (wD (b:=b++aj 0 1++aj i.seq 2++aj i.shape 1)) (by simp;omega) i.max.toNat 6 (by decide) (by omega) i.max 6 (by omega) rfl;have q5:=oW (LO i) (N:=2) (wD (b:=b++aj 0 1++aj i.seq 2++aj i.shape 1++aj i.max.toNat 6)) (by simp;omega) 0 1 (by decide) (by decide) 0 1 rfl rfl;have e:b++aj 0 1++aj i.seq 2++aj i.shape 1++aj i.max.toNat 6++aj 0 1=b++nA i:=by simp only[nA,if_neg hs,List.append_assoc]
    rw[e]at q5;simp only[hpP,al.cells]at q1 q2 q3 q4 q5;generalize b++aj 0 1=B1 at *;generalize B1++aj i.seq 2=B2 at *;generalize B2++aj i.shape 1=B3 at *;generalize B3++aj i.max.toNat 6=B4 at *;generalize nA i=IB at *;rcases hx with rfl | ⟨rfl,rfl⟩
    all_goals
     simp (maxSteps:=300000) (disch:=omega) [hc,↓if_pos,↓if_neg,q1,q2,q3,q4,q5]
  ·rw[if_neg hm]at hc⊢;rcases hx with rfl | ⟨rfl,rfl⟩
   all_goals simp (disch:=omega) [hc,↓if_pos,↓if_neg]
 ·rw[if_neg hr]at hc⊢;rcases hx with rfl | ⟨rfl,rfl⟩
  all_goals simp (disch:=omega) [hc,↓if_pos,↓if_neg]
def EX:Int→List am→Option Int
 | lf,[]=>some lf
 | lf,s::r=>if s.right lf then EX (lf-s.len) r else none
theorem TG {l:List am}{lf:Int}:EX lf l=some 0↔fitsS lf l:=by
 induction l generalizing lf<;>grind [EX,fitsS]
theorem aFg {l:List am}{lf v:Int}(h:EX lf l=some v) (h0:0≤lf):0≤v∧v≤lf:=by
 induction l generalizing lf<;>grind [EX]
theorem bg {α:Type}{l:List α}{i:Nat}(h:l.drop i=[]):l.length≤i:=by simp_all
theorem agA (full:List am) (hl:full.length≤1000000) (X:Obj) (x26:AV) (y27 y28:D):∀ (r:List am) (i:Nat) (lf:Int) (N:Nat),full.drop i=r→0≤lf∧lf≤1000→1≤N→
  ∃ M,N≤M∧(Dn prog).code (.loop kl) ⟨[(2,.ptr 0 0),(9,.d (.int .i64 lf)),(26,x26),(27,.d y27),(28,.d y28),(34,.d (.lst (dA full))),(35,.d (.int .i64 full.length)),(36,.d (.int .i64 i))],⟨[(0,X)],N⟩⟩ =
  match EX lf r with
  | some v=>some (.exit 2,⟨[(2,.ptr 0 0),(9,.d (.int .i64 v)),(26,x26),(27,.d y27),(28,.d y28)],⟨[(0,X)],M⟩⟩)
  | none=>some (.ret,⟨[(4,.d (.int .i64 8))],⟨[(0,X)],M⟩⟩):=by
 intro r
 induction r with
 | nil =>
  intro i lf N h h0 hN;have hi:=bg h;refine⟨N,Nat.le_refl _,?_⟩;rw[aa kl.eq_1,EX];simp (disch:=omega) [↓if_neg]
 | cons s r ih =>
  intro i lf N h h0 hN;have hg:=qJ h;have hlt:=bn h;have h6:=fun k n left=>Vj ⟨k,n⟩ left
  by_cases hr:s.right lf
  ·obtain⟨M,hM,e⟩:=ih (i+1) (lf-s.len) (N+1) (aT h) (by omega) (by omega);refine⟨M,by omega,?_⟩;rw[aa kl.eq_1,EX,if_pos hr,←e];simp (disch:=omega) [↓if_pos,↓if_neg,hg,h6]
  ·refine⟨N+1,by omega,?_⟩;rw[aa kl.eq_1,EX,if_neg hr];simp (disch:=omega) [↓if_pos,↓if_neg,hg,h6]
abbrev cB (m:Int) (g:List (List am)):Prop:=∀ l∈g,fitsS m l
theorem af3 (i:al) (hi:i.Fit) (h0:0≤i.max∧i.max≤1000) (full:List (List am)) (hl:full.length≤1000) (hl2:∀ l∈full,l.length≤1000):∀ (g:List (List am)) (j:Nat) (N:Nat),full.drop j=g→1≤N→
  ∃ M,(Dn prog).code (.loop iF) ⟨[(2,.ptr 0 0),(26,.d (.lst (aK full))),(27,.d (.int .i64 full.length)),(28,.d (.int .i64 j))],⟨[(0,.cells i.cells)],N⟩⟩ =
  if cB i.max g then some (.exit 0,⟨[],⟨[(0,.cells i.cells)],M⟩⟩) else some (.ret,⟨[(4,.d (.int .i64 8))],⟨[(0,.cells i.cells)],M⟩⟩):=by
 simp only[al.cells];intro g
 induction g with
 | nil =>
  intro j N h hN;have hi:=bg h;refine⟨N,?_⟩;rw[aa iF.eq_1,if_pos (show cB i.max [] from fun _ h=>by simp at h)];simp (disch:=omega) [↓if_neg]
 | cons l r ih =>
  intro j N h hN;have hg:=kr h;have hlt:=bn h;have hll:l.length≤1000:=hl2 l (by rw[←List.take_append_drop j full,h];simp);obtain⟨M,hM,e⟩:=agA l (by omega) (.cells i.cells) (.d (.lst (aK full))) (.int .i64 full.length) (.int .i64 j) l 0 i.max N rfl h0 hN;have c0:((0:Nat):Int)=0:=rfl;rw[c0]at e;simp only[al.cells]at e
  cases hrm:EX i.max l with
  | none =>
   refine⟨M,?_⟩;rw[hrm]at e;have hn:¬ cB i.max (l::r):=fun h=>by
    grind [TG]
   rw[aa iF.eq_1,if_neg hn];simp (disch:=omega) [↓if_pos,hg,e]
  | some v =>
   rw[hrm]at e;by_cases h9:v=0
   ·subst h9;obtain⟨M2,e2⟩:=ih (j+1) M (aT h) (by omega);refine⟨M2,?_⟩;have hf:=TG.1 hrm;have hx:cB i.max (l::r)↔cB i.max r:=by grind
    rw[aa iF.eq_1,auR hx,←e2];simp (disch:=omega) [↓if_pos,hg,e]
   ·refine⟨M,?_⟩;have hn:¬ cB i.max (l::r):=fun h=>by
     grind [TG]
    rw[aa iF.eq_1,if_neg hn];simp (disch:=omega) [↓if_pos,↓if_neg,hg,e]
abbrev asE (g:List (List am)):Prop:=g.length≤1000∧∀ l∈g,l.length≤1000
abbrev fq (i:al) (g:List (List am)):Prop:=g.length=i.groups.length∧cB i.max g
theorem an0 (i:al) (hi:i.Fit) (g:List (List am)) (hf:asE g):aM prog Bz [.agg i.cells,.d (.lst (aK g))]=if i.may 11 then if fq i g then some (.d (.int .i64 0)) else some (.d (.int .i64 8)) else some (.d (.int .i64 8)):=by
 have hw:=jr i hi;rw[az aiP CA.eq_1 rfl];by_cases hm:i.may 11
 ·rw[if_pos hm]at hw⊢;have h0:0≤i.max∧i.max≤1000:=by have:=hm.2.2.1;have:=hm.2.2.2.1;grind [Ce]
  obtain⟨M,e⟩:=af3 i hi h0 g hf.1 hf.2 g 0 1 rfl (by omega);have c0:((0:Nat):Int)=0:=rfl;rw[c0]at e;simp only[al.cells]at hw e;by_cases h1:g.length=i.groups.length
  ·by_cases h2:cB i.max g
   ·rw[if_pos ⟨h1,h2⟩];simp (disch:=omega) [↓if_pos,hw,e]
   ·rw[if_neg (fun h=>h2 h.2)];rw[if_neg h2]at e;simp (disch:=omega) [↓if_pos,hw,e]
  ·simp (disch:=omega) [↓if_pos,↓if_neg,hw]
 ·simp only[al.cells]at hw;simp (disch:=omega) [↓if_pos,↓if_neg,hw]
def bV (aq:Nat):Nat→Nat→List Nat
 | 0,n=>[n]
 | f+1,n=>if aq≤n then aq::bV aq f (n-aq) else [n]
theorem alD {σ:Type}{hp:σ→Int→ac}{l p q N:Nat}{st:σ→Nat→σ}{bw:Nat→σ→Prop}(hI:∀ k s x,bw (k+1) s→bw k (st s x)) (hM:∀ j k s,j≤k→bw k s→bw j s) (aq:Nat) (hm:1≤aq∧aq≤1000) (hg:∀ s n,get (hp s n) p=some (.cells [.d (.int .i64 n)])) (hq:∀ s n,get (hp s n) q=some (.cells [.d (.int .i64 aq)])) (hpt:∀ s n m,put (hp s n) p (.cells [.d (.int .i64 m)])=hp s m)
  (hy:∀ (k:Nat) (s:σ) (x:Nat) (n:Int),bw (k+1) s→x≤aq→bc (Dn prog) (.yield l) [.d (.int .i64 (x:Int))] ⟨hp s n,N⟩=some (.d (.bool true),⟨hp (st s x) n,N⟩)):∀ (f n:Nat) (s:σ),n≤f→n≤1000000→bw (f+1) s→
  ∃ (m:Nat) (s2:σ),m<aq∧bw 1 s2∧st s2 m=(bV aq f n).foldl st s∧(Dn prog).code (.loop gS) ⟨[(0,.yield l),(1,.ptr p 0),(2,.ptr q 0)],⟨hp s n,N⟩⟩=some (.exit 0,⟨[(0,.yield l),(1,.ptr p 0)],⟨hp s2 m,N⟩⟩):=by
 intro f
 induction f with
 | zero =>
  intro n s hn hb hi;refine⟨n,s,by omega,hi,by rfl,?_⟩;rw[aa gS.eq_1];simp (disch:=omega) [↓if_neg,hg,hq]
 | succ f ih =>
  intro n s hn hb hi;by_cases h1:aq≤n
  ·obtain⟨m,s2,a1,a2,a3,a4⟩:=ih (n-aq) (st s aq) (by omega) (by omega) (hI _ _ _ hi);refine⟨m,s2,a1,a2,by grind [bV],?_⟩;have h2:=hy (f+1) s aq n hi (by omega);have c1:((n-aq:Nat):Int)=(n:Int)-aq:=by omega
   rw[c1]at a4;rw[aa gS.eq_1,←a4];simp (disch:=omega) [↓if_pos,hg,hq,hpt,-gQ,h2]
  ·refine⟨n,s,by omega,?_,by grind [bV],?_⟩
   ·grind
   ·rw[aa gS.eq_1];simp (disch:=omega) [↓if_neg,hg,hq]
theorem ate {σ:Type}{hp:σ→Int→ac}{l p q N:Nat}{st:σ→Nat→σ}{bw:Nat→σ→Prop}(hI:∀ k s x,bw (k+1) s→bw k (st s x)) (hM:∀ j k s,j≤k→bw k s→bw j s) (aq:Nat) (hm:1≤aq∧aq≤1000) (hg:∀ s n,get (hp s n) p=some (.cells [.d (.int .i64 n)])) (hq:∀ s n,get (hp s n) q=some (.cells [.d (.int .i64 aq)])) (hpt:∀ s n m,put (hp s n) p (.cells [.d (.int .i64 m)])=hp s m)
  (hy:∀ (k:Nat) (s:σ) (x:Nat) (n:Int),bw (k+1) s→x≤aq→bc (Dn prog) (.yield l) [.d (.int .i64 (x:Int))] ⟨hp s n,N⟩=some (.d (.bool true),⟨hp (st s x) n,N⟩)) (n:Nat) (s:σ) (hn:n≤1000000) (hi:bw (n+1) s) :
  ∃ m:Int,(Dn prog).call fM [.yield l,.ptr p 0,.ptr q 0] ⟨hp s n,N⟩=some (.tup [],⟨hp ((bV aq n n).foldl st s) m,N⟩):=by
 obtain⟨m,s2,a1,a2,a3,a4⟩:=alD hI hM aq hm hg hq hpt hy n n s (Nat.le_refl _) hn hi;have h2:=hy 0 s2 m m a2 (by omega);refine⟨m,?_⟩;rw[aD XJ uL.eq_1 rfl,←a3];simp (disch:=omega) [a4,hg,-gQ,h2]
theorem Rh {aq:Nat}(hm:1≤aq):∀ {f n:Nat},(bV aq f n).length≤n+1
 | 0,n=>by simp[bV]
 | f+1,n=>by
  rw[bV];split
  ·have:=Rh hm (f:=f) (n:=n-aq)
   grind
  ·simp
theorem ama (n m:Int) (h:ac) (N:Nat):(Dn prog).call yH [.d (.int .i64 n),.d (.int .i64 m)] ⟨h,N⟩=some (.fn fM [] [.ptr N 0,.ptr (N+1) 0],⟨put (put h N (.cells [.d (.int .i64 n)])) (N+1) (.cells [.d (.int .i64 m)]),N+2⟩):=by
 rw[aD afQ yu.eq_1 rfl];simp (disch:=omega)
def Ez (sz:Nat) (s:am):List Nat:=aj s.book.toNat 4++(bV (2 ^ sz-1) s.len.toNat s.len.toNat).flatMap fun n=>aj n sz
theorem ae2 {sz:Nat}:∀ {l acc:List Nat},l.foldl (fun(s:List Nat) n=>s++aj n sz) acc=acc++l.flatMap fun n=>aj n sz
 | [],acc=>by simp
 | x::r,acc=>by rw[List.foldl_cons,ae2];simp
abbrev J4:Obj:=.cells [.junk,.junk,.junk,.junk]
abbrev hpS (sz:Nat) (v:AV):ac:=[(0,.cells [v]),(1,J4),(2,.cells [.d (.int .i64 sz)])]
abbrev hpF (sz aq N:Nat) (e:ao) (v:AV) (n:Int):ac:=[(0,.cells [v]),(1,J4),(2,.cells [.d (.int .i64 sz)]),(N+1,.cells [.d (.int .i64 n)]),(N+1+1,.cells [.d (.int .i64 aq)]),(N+1+2,.loop e [55] zy zk false none)]
abbrev acL (aq:Nat) (y32 y33 y34:D) (full:List am) (i:Int) (r:ao):ao:=(3,.ptr 0 0)::(9,.ptr 2 0)::(10,.d (.int .i64 aq))::(32,.d y32)::(33,.d y33)::(34,.d y34)::(38,.d (.lst (dA full)))::(39,.d (.int .i64 full.length))::(40,.d (.int .i64 i))::r
theorem aD2 (sz aq N:Nat) (hsz:1≤sz∧sz≤5) (hm:aq<2 ^ sz) (hN:3≤N) (y32 y33 y34:D) (full:List am) (i:Int) (b:List Nat) (x:Nat) (n:Int) (hx:x≤aq) (hb:b.length≤800000000) :
  bc (Dn prog) (.yield (N+1+2)) [.d (.int .i64 (x:Int))] ⟨hpF sz aq N (acL aq y32 y33 y34 full i [(54,.fn fM [] [.ptr (N+1) 0,.ptr (N+1+1) 0])]) (.own false 1 (af b)) n,N+1+2+1⟩ =
  some (.d (.bool true),⟨hpF sz aq N (acL aq y32 y33 y34 full i [(54,.fn fM [] [.ptr (N+1) 0,.ptr (N+1+1) 0])]) (.own false 1 (af (b++aj x sz))) n,N+1+2+1⟩):=by
 have h5:2 ^ sz≤2 ^ 5:=Nat.pow_le_pow_right (by omega) hsz.2;have h1:=jq b x sz (by omega) (by omega) _ (.inl rfl);rw[if_pos (by grind)]at h1;simp (disch:=omega) [zy,zk,↓if_pos,↓if_neg,h1]
theorem alm (sz aq:Nat) (hsz:1≤sz∧sz≤5) (hm:aq=2 ^ sz-1) (full r:List am) (hl:full.length≤1000) (s:am) (y32 y33 y34:D) (i N:Nat) (b:List Nat) (hd:full.drop i=s::r) (hr:s.right 1000) (hN:3≤N) (hb:b.length≤700000000) :
  (Dn prog).code ml ⟨acL aq y32 y33 y34 full i [],⟨hpS sz (.own false 1 (af b)),N⟩⟩ =
  some (.normal,⟨acL aq y32 y33 y34 full ((i+1:Nat):Int) [],⟨hpS sz (.own false 1 (af (b++Ez sz s))),N+4⟩⟩):=by
 have hg:=qJ hd;have hlt:=bn hd;have h5:2 ^ sz≤2 ^ 5:=Nat.pow_le_pow_right (by omega) hsz.2;have h6:2 ^ 1≤2 ^ sz:=Nat.pow_le_pow_right (by omega) hsz.1;have h1:=jq b s.book 4 (by omega) (by omega) _ (.inl rfl);have ho:np s.book 4:=by
  grind
 obtain⟨L,hL⟩:=Int.eq_ofNat_of_zero_le (show 0≤s.len by omega);obtain⟨m,h7⟩:=ate (hp:=fun b n=>hpF sz aq N (acL aq y32 y33 y34 full i [(54,.fn fM [] [.ptr (N+1) 0,.ptr (N+1+1) 0])]) (.own false 1 (af b)) n) (l:=N+1+2) (p:=N+1) (q:=N+1+1) (N:=N+1+2+1) (st:=fun s n=>s++aj n sz) (bw:=fun k s=>s.length+5*k≤750000000)
  (fun k s x h=>by grind [d9]) (fun j k s h1 h2=>by omega) aq (by omega) (fun s n=>by simp (disch:=omega) [↓if_neg]) (fun s n=>by simp (disch:=omega) [↓if_neg]) (fun s n m=>by simp (disch:=omega) [↓if_neg])
  (fun k s x n h1 h2=>aD2 sz aq N hsz (by omega) hN y32 y33 y34 full i s x n h2 (by omega)) L (b++aj s.book.toNat 4) (by omega) (by simp;omega)
 rw[ae2]at h7;have e:b++aj s.book.toNat 4++(bV aq L L).flatMap (fun n=>aj n sz)=b++Ez sz s:=by
  grind [Ez]
 rw[e]at h7;rw[hL]at hg;rw[ml.eq_1];simp (disch:=omega) [↓if_pos,↓if_neg,hg,h1,ama,rd,h7]
theorem aiC {sz:Nat}(hsz:1≤sz∧sz≤5) {s:am}(h:s.right 1000):(Ez sz s).length≤6000:=by
 have h6:2 ^ 1≤2 ^ sz:=Nat.pow_le_pow_right (by omega) hsz.1;have h1:=Rh (aq:=2 ^ sz-1) (by omega) (f:=s.len.toNat) (n:=s.len.toNat);rw[Ez,List.length_append,d9,List.length_flatMap];have:((bV (2 ^ sz-1) s.len.toNat s.len.toNat).map fun n=>(aj n sz).length).sum≤(bV (2 ^ sz-1) s.len.toNat s.len.toNat).length*5:=by
  generalize bV (2 ^ sz-1) s.len.toNat s.len.toNat=l
  induction l<;>grind [d9]
 omega
def kt (sz:Nat) (l:List am):List Nat:=l.flatMap (Ez sz)
theorem lN {lf:Int}:∀ {l:List am},fitsS lf l→lf≤1000→∀ s∈l,s.right 1000
 | [],_,_,s,h=>absurd h (by simp)
 | x::r,hf,h0,s,h=>by
  obtain⟨h1,h2⟩:=hf;rcases List.mem_cons.1 h with e | e
  ·grind
  ·exact lN h2 (by omega) s e
theorem alR (sz aq:Nat) (hsz:1≤sz∧sz≤5) (hm:aq=2 ^ sz-1) (full:List am) (hl:full.length≤1000) (y32 y33 y34:D):∀ (r:List am) (i N:Nat) (b:List Nat),full.drop i=r→(∀ s∈r,s.right 1000)→3≤N→b.length+6000*r.length≤700000000→
  ∃ M,3≤M∧(Dn prog).code (.loop ml) ⟨acL aq y32 y33 y34 full i [],⟨hpS sz (.own false 1 (af b)),N⟩⟩ =
  some (.exit 2,⟨[(3,.ptr 0 0),(9,.ptr 2 0),(10,.d (.int .i64 aq)),(32,.d y32),(33,.d y33),(34,.d y34)],⟨hpS sz (.own false 1 (af (b++kt sz r))),M⟩⟩):=by
 intro r
 induction r with
 | nil =>
  intro i N b hd hr hN hb;have hi:=bg hd;refine⟨N,hN,?_⟩;rw[aa ml.eq_1,kt,List.flatMap_nil,List.append_nil];simp (disch:=omega) [↓if_neg]
 | cons s r ih =>
  intro i N b hd hr hN hb;have hs:=hr s (.head _);have h1:=aiC hsz hs;obtain⟨M,hM,e⟩:=ih (i+1) (N+4) (b++Ez sz s) (aT hd) (fun q hq=>hr q (.tail _ hq)) (by omega) (by grind)
  grind [kt,aa,alm,Gg]
def NH (i:al) (g:List (List am)):List Nat:=g.flatMap (kt i.fsz)
theorem MK {sz:Nat}(hsz:1≤sz∧sz≤5):∀ {l:List am},(∀ s∈l,s.right 1000)→(kt sz l).length≤6000*l.length
 | [],_=>by simp[kt]
 | s::r,h=>by
  have h1:=aiC hsz (h s (.head _));have h2:=MK hsz (l:=r) fun q hq=>h q (.tail _ hq)
  grind [kt]
theorem alt (sz aq:Nat) (hsz:1≤sz∧sz≤5) (hm:aq=2 ^ sz-1) (m:Int) (hm0:m≤1000) (full:List (List am)) (hl:full.length≤1000):∀ (g:List (List am)) (i N:Nat) (b:List Nat),full.drop i=g→cB m g→(∀ l∈g,l.length≤100)→3≤N→b.length+600000*g.length≤700000000→
  ∃ M,(Dn prog).code (.loop qt) ⟨[(3,.ptr 0 0),(9,.ptr 2 0),(10,.d (.int .i64 aq)),(32,.d (.lst (aK full))),(33,.d (.int .i64 full.length)),(34,.d (.int .i64 i))],⟨hpS sz (.own false 1 (af b)),N⟩⟩ =
  some (.exit 0,⟨[(3,.ptr 0 0)],⟨hpS sz (.own false 1 (af (b++g.flatMap (kt sz)))),M⟩⟩):=by
 intro g
 induction g with
 | nil =>
  intro i N b hd hf hll hN hb;have hi:=bg hd;refine⟨N,?_⟩;rw[aa qt.eq_1,List.flatMap_nil,List.append_nil];simp (disch:=omega) [↓if_neg]
 | cons l r ih =>
  intro i N b hd hf hll hN hb;simp only[List.length_cons]at hb;have hg:=kr hd;have hlt:=bn hd;have hlen:=hll l (.head _);have hr:=lN (hf l (.head _)) hm0;have h1:=MK hsz hr;obtain⟨M,hM,e⟩:=alR sz aq hsz hm l (by omega) (.lst (aK full)) (.int .i64 full.length) (.int .i64 i) l 0 N b rfl hr hN (by omega);obtain⟨M2,e2⟩:=ih (i+1) M (b++kt sz l) (aT hd) (fun q hq=>hf q (.tail _ hq)) (fun q hq=>hll q (.tail _ hq)) hM (by grind);refine⟨M2,?_⟩;have c0:((0:Nat):Int)=0:=rfl;rw[c0]at e;have ea:b++(l::r).flatMap (kt sz)=b++kt sz l++r.flatMap (kt sz):=by simp_all
  rw[aa qt.eq_1,ea,←e2];simp (disch:=omega) [↓if_pos,hg,e]
theorem Bh {lf:Int}:∀ {l:List am},fitsS lf l→(l.length:Int)≤lf∨l=[]
 | [],_=>.inr rfl
 | x::r,hf=>by
  obtain⟨h1,h2⟩:=hf;have:=Bh h2
  grind
theorem atg (b:List Nat) (hb:b.length≤400000000) (x:AV) (hx:x=.d (.lst (af b))∨x=.nl∧b=[]) (i:al) (hi:i.Fit) (hm:i.may 11) (g:List (List am)) (hf:asE g) (hg:fq i g):aM prog IT [x,.agg i.cells,.d (.lst (aK g))] =
  some (.tup [.own true 1 (af (b++NH i g)),.d (.int .i64 0)]):=by
 have hc:=an0 i hi g hf;rw[if_pos hm,if_pos hg]at hc;have h0:0≤i.max∧i.max≤100:=by have:=hm.2.2.1;have:=hm.2.2.2.1;grind [Ce]
 have hfd:=XA i;have hsz:1≤i.fsz∧i.fsz≤5:=by grind [al.fsz]
 have g8:g.length≤8:=by
  have h:=(b6 hm).1;have h2:=(b6 hm).2;have:=j6 (fun n hn=>(h n hn).1)
  grind [al.many]
 have hll:∀ l∈g,l.length≤100:=fun l hl=>by
  rcases Bh (hg.2 l hl) with h | h<;>grind
 have hp:=jq b 0 0 (by omega) (by omega) x hx;rw[if_pos (by decide)]at hp;have t0:(0:Int).toNat=0:=rfl;rw[t0,aj,List.append_nil]at hp;obtain⟨M,e⟩:=alt i.fsz (2 ^ i.fsz-1) hsz rfl i.max (by omega) g hf.1 g 0 3 b rfl hg.2 hll (by omega) (by omega);have c0:((0:Nat):Int)=0:=rfl;rw[c0]at e;simp only[al.cells]at hc hfd;rw[az ao1 Ix.eq_1 rfl,NH];rcases hx with rfl | ⟨rfl,rfl⟩
 all_goals simp (disch:=omega) [↓if_pos,↓if_neg,hc,hfd,hp,e]
structure Tl {σ:Type}(hp:σ→ac→ac) (L:Nat):Prop where
 put:∀ s K o,L≤K→Go.Vm.put (hp s []) K o=hp s [(K,o)]
 put2:∀ s K o o',L≤K→Go.Vm.put (hp s [(K,o)]) K o'=hp s [(K,o')]
 get:∀ s K o,L≤K→Go.Vm.get (hp s [(K,o)]) K=some o
 del:∀ s K o,L≤K→Go.Vm.del (hp s [(K,o)]) K=hp s []
def na {σ τ:Type}(st:Nat→Int→σ→Sum σ τ):List Int→Nat→σ→Sum σ τ
 | [],_,s=>.inl s
 | k::r,a,s=>match st a k s with
  | .inl s=>na st r (a+1) s
  | .inr z=>.inr z
theorem ak7 {σ τ:Type}{st:Nat→Int→σ→Sum σ τ}:∀ {l r:List Int}{a:Nat}{s:σ},na st (l++r) a s=match na st l a s with
  | .inl s=>na st r (a+l.length) s
  | .inr z=>.inr z
 | [],r,a,s=>rfl
 | k::l,r,a,s=>by
  rw[List.cons_append,na,na]
  cases st a k s with
  | inl s=>simp only[ak7,List.length_cons];rw[show a+(l.length+1)=a+1+l.length by omega]
  | inr z=>rfl
section
variable {σ τ:Type}{hp:σ→ac→ac}{hq:τ→ac→ac}{L l p:Nat}{bks:List Int}{st:Nat→Int→σ→Sum σ τ}{bw:Nat→σ→Prop}
def Rnd (hp:σ→ac→ac) (hq:τ→ac→ac) (L l:Nat) (bks:List Int) (st:Nat→Int→σ→Sum σ τ) (bw:Nat→σ→Prop):Prop :=
 ∀ a k s K o N,bks[a]?=some k→bw a s→L≤K→K<N→
  (∃ s2,st a k s=.inl s2∧bw (a+1) s2∧bc (Dn prog) (.yield l) [.d (.int .i64 (a:Int)),.d (.int .i64 k)] ⟨hp s [(K,o)],N⟩=some (.d (.bool true),⟨hp s2 [(K,o)],N⟩))∨
  (∃ z,st a k s=.inr z∧bc (Dn prog) (.yield l) [.d (.int .i64 (a:Int)),.d (.int .i64 k)] ⟨hp s [(K,o)],N⟩=some (.d (.bool false),⟨hq z [(K,o)],N⟩))
theorem aoT (H:Tl hp L) (H2:Tl hq L) (hY:Rnd hp hq L l bks st bw) (full:List am) (s0:am) (hs0:s0.len≤1000) (i K N:Nat) (hK:L≤K) (hKN:K<N):∀ (k j a:Nat) (s:σ),j+k=s0.len.toNat→(∀ q,q<k→bks[a+q]?=some s0.book)→a+k≤100000000→bw a s→
  (∃ s2,na st (List.replicate k s0.book) a s=.inl s2∧bw (a+k) s2∧(Dn prog).code (.loop fm) ⟨[(0,.yield l),(3,.d (.int .i64 a)),(5,.ptr K 0),(6,.d (.lst (dA full))),(7,.d (.int .i64 full.length)),(8,.d (.int .i64 i)),(13,.d (.int .i64 s0.len)),(14,.d (.int .i64 j))],⟨hp s [(K,.cells [.d (.int .i64 s0.book),.d (.int .i64 s0.len)])],N⟩⟩ =
   some (.exit 2,⟨[(0,.yield l),(3,.d (.int .i64 (a+k:Nat))),(6,.d (.lst (dA full))),(7,.d (.int .i64 full.length)),(8,.d (.int .i64 i))],⟨hp s2 [],N⟩⟩))∨
  (∃ z,na st (List.replicate k s0.book) a s=.inr z∧(Dn prog).code (.loop fm) ⟨[(0,.yield l),(3,.d (.int .i64 a)),(5,.ptr K 0),(6,.d (.lst (dA full))),(7,.d (.int .i64 full.length)),(8,.d (.int .i64 i)),(13,.d (.int .i64 s0.len)),(14,.d (.int .i64 j))],⟨hp s [(K,.cells [.d (.int .i64 s0.book),.d (.int .i64 s0.len)])],N⟩⟩ =
   some (.ret,⟨[],⟨hq z [],N⟩⟩)):=by
 have hG:=fun s o=>H.get s K o hK
 have hD:=fun s o=>H.del s K o hK
 have hD2:=fun s o=>H2.del s K o hK
 intro k
 induction k with
 | zero =>
  intro j a s h1 h2 h3 hi;refine .inl ⟨s,rfl,hi,?_⟩;rw[aa fm.eq_1];simp (maxSteps:=300000) (disch:=omega) [↓if_neg,hD]
 | succ k ih =>
  intro j a s h1 h2 h3 hi;have hb:=h2 0 (by omega);rw[Nat.add_zero]at hb;have c1:((j+1:Nat):Int)=(j:Int)+1:=rfl;have c2:((a+1:Nat):Int)=(a:Int)+1:=rfl;rw[List.replicate_succ];rcases hY a s0.book s K (.cells [.d (.int .i64 s0.book),.d (.int .i64 s0.len)]) N hb hi hK hKN with ⟨s2,e1,e2,e3⟩ | ⟨z,e1,e3⟩
  ·rw[na,e1,aa fm.eq_1];have e4:a+(k+1)=a+1+k:=by omega
   have h9:=ih (j+1) (a+1) s2 (by omega) (fun q hq=>by rw[show a+1+q=a+(q+1) by omega];exact h2 (q+1) (by omega)) (by omega) e2;rw[c1,c2]at h9;rw[e4];rcases h9 with ⟨s3,f1,f2,f3⟩ | ⟨z,f1,f3⟩
   ·refine .inl ⟨s3,f1,f2,?_⟩;rw[←f3];simp (maxSteps:=300000) (disch:=omega) [↓if_pos,↓if_neg,hG,-gQ,e3]
   ·refine .inr ⟨z,f1,?_⟩;rw[←f3];simp (maxSteps:=300000) (disch:=omega) [↓if_pos,↓if_neg,hG,-gQ,e3]
  ·refine .inr ⟨z,by rw[na,e1],?_⟩;rw[aa fm.eq_1];simp (maxSteps:=300000) (disch:=omega) [↓if_pos,↓if_neg,hG,-gQ,e3,hD2]
theorem aoE (H:Tl hp L) (H2:Tl hq L) (hY:Rnd hp hq L l bks st bw) (full:List am) (hfl:full.length≤1000):∀ (r:List am) (i a N:Nat) (s:σ),full.drop i=r→(∀ q∈r,0≤q.len∧q.len≤1000)→bks.drop a=ak r→a≤1000*i→L≤N→bw a s→
  (∃ s2 M,na st (ak r) a s=.inl s2∧bw (a+(ak r).length) s2∧N≤M∧(Dn prog).code (.loop dR) ⟨[(0,.yield l),(3,.d (.int .i64 a)),(6,.d (.lst (dA full))),(7,.d (.int .i64 full.length)),(8,.d (.int .i64 i))],⟨hp s [],N⟩⟩ =
   some (.exit 0,⟨[],⟨hp s2 [],M⟩⟩))∨
  (∃ z M,na st (ak r) a s=.inr z∧N≤M∧(Dn prog).code (.loop dR) ⟨[(0,.yield l),(3,.d (.int .i64 a)),(6,.d (.lst (dA full))),(7,.d (.int .i64 full.length)),(8,.d (.int .i64 i))],⟨hp s [],N⟩⟩ =
   some (.ret,⟨[],⟨hq z [],M⟩⟩)):=by
 intro r
 induction r with
 | nil =>
  intro i a N s hd hr hb ha hL hi;have hk:=bg hd;refine .inl ⟨s,N,rfl,hi,Nat.le_refl _,?_⟩;rw[aa dR.eq_1];simp (maxSteps:=300000) (disch:=omega) [↓if_neg]
 | cons q r ih =>
  intro i a N s hd hr hb ha hL hi;have hq:=hr q (.head _);have hlt:=bn hd;have hg:=qJ hd;have eb:ak (q::r)=List.replicate q.len.toNat q.book++ak r:=by rw[ak,List.flatMap_cons];rfl
  rw[eb]at hb;have hbk:∀ j,j<q.len.toNat→bks[a+j]?=some q.book:=fun j hj=>by
   have:=congrArg (fun l=>l[j]?) hb;simp only[List.getElem?_drop]at this;rw[this,List.getElem?_append_left (by simpa using hj)];simp[hj]
  have hb2:bks.drop (a+q.len.toNat)=ak r:=by
   have:=congrArg (fun l=>l.drop q.len.toNat) hb;simp only[List.drop_drop]at this;rw[this,List.drop_left' (by simp)]
  have hp1:=fun o=>H.put s N o hL
  have hp2:=fun o o'=>H.put2 s N o o' hL
  have hG:=fun o=>H.get s N o hL
  have c1:((i+1:Nat):Int)=(i:Int)+1:=rfl;have c0:((0:Nat):Int)=0:=rfl;have h0:=aoT H H2 hY full q hq.2 i N (N+1) hL (by omega) q.len.toNat 0 a s (by omega) hbk (by omega) hi;rw[c0]at h0;rw[eb,ak7];rcases h0 with ⟨s2,e1,e2,e3⟩ | ⟨z,e1,e3⟩
  ·have h9:=ih (i+1) (a+q.len.toNat) (N+1) s2 (aT hd) (fun x hx=>hr x (.tail _ hx)) hb2 (by omega) (by omega) e2;rw[c1]at h9;rw[e1];simp only[List.length_append,List.length_replicate];rcases h9 with ⟨s3,M,f1,f2,f3,f4⟩ | ⟨z,M,f1,f3,f4⟩
   ·refine .inl ⟨s3,M,f1,by rw[←Nat.add_assoc];exact f2,by omega,?_⟩;rw[aa dR.eq_1,←f4];simp (maxSteps:=300000) (disch:=omega) [↓if_pos,↓if_neg,hg,hp1,hp2,hG,e3]
   ·refine .inr ⟨z,M,f1,by omega,?_⟩;rw[aa dR.eq_1,←f4];simp (maxSteps:=300000) (disch:=omega) [↓if_pos,↓if_neg,hg,hp1,hp2,hG,e3]
  ·rw[e1];refine .inr ⟨z,N+1,rfl,by omega,?_⟩;rw[aa dR.eq_1];simp (maxSteps:=300000) (disch:=omega) [↓if_pos,↓if_neg,hg,hp1,hp2,hG,e3]
theorem abt (H:Tl hp L) (H2:Tl hq L) (full:List am) (hY:Rnd hp hq L l (ak full) st bw) (hgp:∀ s,get (hp s []) p=some (.cells [.d (.lst (dA full))])) (hfl:full.length≤1000) (hr:∀ q∈full,0≤q.len∧q.len≤1000) (N:Nat) (s:σ) (hN:L≤N) (hi:bw 0 s) :
  (∃ s2 M,na st (ak full) 0 s=.inl s2∧bw (ak full).length s2∧N≤M∧(Dn prog).call dH [.yield l,.ptr p 0] ⟨hp s [],N⟩=some (.tup [],⟨hp s2 [],M⟩))∨
  (∃ z M,na st (ak full) 0 s=.inr z∧N≤M∧(Dn prog).call dH [.yield l,.ptr p 0] ⟨hp s [],N⟩=some (.tup [],⟨hq z [],M⟩)):=by
 have h:=aoE H H2 hY full hfl full 0 0 N s rfl hr rfl (by omega) hN hi;have c0:((0:Nat):Int)=0:=rfl;rw[c0,Nat.zero_add]at h;rw[aD U0 uO.eq_1 rfl];rcases h with ⟨s2,M,e1,e2,e3,e4⟩ | ⟨z,M,e1,e3,e4⟩
 ·refine .inl ⟨s2,M,e1,e2,e3,?_⟩;simp (maxSteps:=300000) (disch:=omega) [hgp,e4]
 ·refine .inr ⟨z,M,e1,e3,?_⟩;simp (maxSteps:=300000) (disch:=omega) [hgp,e4]
end
theorem Ep (x:D) (h:ac) (N:Nat):(Dn prog).call jX [.d x] ⟨h,N⟩=some (.fn dH [] [.ptr N 0],⟨put h N (.cells [.d x]),N+1⟩):=by
 rw[aD ahh yN.eq_1 rfl];simp (maxSteps:=300000) (disch:=omega)
def bu (t:List (List Int)):List (List D):=t.map fun l=>[.lst (ai l)]
@[simp] theorem arM {t:List (List Int)}:(bu t).length=t.length:=by simp[bu]
theorem LC {g:List (List Int)}{i:Nat}{l:List Int}{r:List (List Int)}(h:g.drop i=l::r):(bu g)[i]?=some [.lst (ai l)]:=by
 grind [List.getElem?_cons_zero,bu]
def bH:List Int→List Int→Int→Int→Option (Int×Int)
 | [],[],w,z=>some (w,z)
 | k::r,n::t,w,z=>if k=0 then (if n=0 then bH r t w z else none) else if gI k n w z then (if k=13 then bH r t w n else bH r t n z) else none
 | _,_,_,_=>none
def iC:List (List am)→List (List Int)→Int→Int→Option (Int×Int)
 | [],[],w,z=>some (w,z)
 | l::r,t::s,w,z=>match bH (ak l) t w z with
  | some (w,z)=>iC r s w z
  | none=>none
 | _,_,_,_=>none
abbrev sC (gain:Int) (g:List (List am)) (t:List (List Int)):Prop:=iC g t gain (-1)≠none
theorem DK:∀ {g:List (List am)}{t:List (List Int)}{w z:Int},iC g t w z≠none→g.length=t.length
 | [],[],_,_,_=>rfl
 | [],_::_,_,_,h=>absurd rfl h
 | _::_,[],_,_,h=>absurd rfl h
 | l::r,t::s,w,z,h=>by
  rw[iC]at h;split at h
  ·simp only[List.length_cons,DK h]
  simp_all
abbrev my (w:Int):Prop:=-1≤w∧w≤511
theorem KU {k n w z:Int}(h:gI k n w z):my n:=by
 grind
def fF (k n w z:Int):Int×Int:=if k=0 then (w,z) else if k=13 then (w,n) else (n,z)
theorem j9 {k n:Int}{r t:List Int}{w z:Int}(h:bH (k::r) (n::t) w z≠none):(k=0→n=0)∧(k≠0→gI k n w z)∧bH (k::r) (n::t) w z=bH r t (fF k n w z).1 (fF k n w z).2:=by
 grind [bH,fF]
theorem afC {bks t:List Int}{a:Nat}{k:Int}{w z:Int}(hk:bks[a]?=some k) (h:bH (bks.drop a) (t.drop a) w z≠none):∃ n,t.drop a=n::t.drop (a+1)∧(k=0→n=0)∧(k≠0→gI k n w z)∧bH (bks.drop a) (t.drop a) w z=bH (bks.drop (a+1)) (t.drop (a+1)) (fF k n w z).1 (fF k n w z).2:=by
 obtain⟨hlt,e⟩:=List.getElem?_eq_some_iff.1 hk;have h1:=List.drop_eq_getElem_cons hlt;rw[e]at h1;rw[h1]at h⊢
 cases h2:t.drop a with
 | nil=>rw[h2]at h;exact absurd rfl h
 | cons n r =>
  have h3:t.drop (a+1)=r:=aT h2;rw[h2]at h;obtain⟨a1,a2,a3⟩:=j9 h
  simp_all
abbrev hpK (ss:List (List Int)) (g N:Nat) (l:List am) (e:ao) (s:Nat×Int×Int) (T:ac):ac :=
 (0,.cells [.d (.lst (bu ss))])::(1,.cells [.d (.int .i64 0)])::(2,.cells [.d (.int .i64 s.2.1),.d (.int .i64 s.2.2)])::(3,.cells [.ptr 2 0])::(N,.cells [.d (.int .i64 g)])::(N+1,.cells [.d (.int .i64 s.1)])::(N+1+1,.cells [.d (.lst (dA l))])::(N+1+1+1,.loop e [36,37] eV eU false none)::T
abbrev ao9 (gs:List (List am)) (g N:Nat):ao:=[(5,.ptr 0 0),(6,.ptr 1 0),(7,.ptr 3 0),(8,.ptr N 0),(10,.ptr (N+1) 0),(27,.d (.lst (aK gs))),(28,.d (.int .i64 gs.length)),(29,.d (.int .i64 g)),(35,.fn dH [] [.ptr (N+1+1) 0])]
theorem aCS {ss:List (List Int)}{g N:Nat}{l:List am}{e:ao}(hN:4≤N):Tl (hpK ss g N l e) (N+1+1+1+1):=by
 constructor
 ·intro s K o h;simp (disch:=omega) [↓if_neg]
 ·intro s K o o' h;simp (disch:=omega) [↓if_neg]
 ·intro s K o h;simp (disch:=omega) [↓if_neg]
 ·intro s K o h;simp (disch:=omega) [↓if_neg]
def noH (z:Empty) (_:ac):ac:=nomatch z
theorem aoH {L:Nat}:Tl noH L:=by constructor<;>(grind)
structure LK (F:Obj→Int→Int→Int→ac) (ss:List (List Int)) (g:Int) (L N:Nat):Prop where
 gl:∀ q m w z,get (F q m w z) L=some q
 pl:∀ q m w z q',put (F q m w z) L q'=F q' m w z
 g0:∀ q m w z,get (F q m w z) 0=some (.cells [.d (.lst (bu ss))])
 g2:∀ q m w z,get (F q m w z) 2=some (.cells [.d (.int .i64 w),.d (.int .i64 z)])
 p2:∀ q m w z w' z',put (F q m w z) 2 (.cells [.d (.int .i64 w'),.d (.int .i64 z')])=F q m w' z'
 g3:∀ q m w z,get (F q m w z) 3=some (.cells [.ptr 2 0])
 gN:∀ q m w z,get (F q m w z) N=some (.cells [.d (.int .i64 g)])
 gM:∀ q m w z,get (F q m w z) (N+1)=some (.cells [.d (.int .i64 m)])
 pM:∀ q m w z m',put (F q m w z) (N+1) (.cells [.d (.int .i64 m')])=F q m' w z
theorem aAf {F:Obj→Int→Int→Int→ac}{L:Nat}(ss:List (List Int)) (hss:ss.length≤1000) (gs:List (List am)) (hgs:gs.length≤1000) (g N:Nat) (H:LK F ss g L N) (t:List Int) (ht:t.length≤100000) (hg:(bu ss)[g]?=some [.lst (ai t)]) (a:Nat) (k:Int) (w z:Int) (M:Nat) (n:Int) (r:List Int) (hd:t.drop a=n::r) (h0:k=0→n=0) (h1:k≠0→gI k n w z) (hk:0≤k∧k≤13) (hw:my w) (hz:my z) :
  bc (Dn prog) (.yield L) [.d (.int .i64 (a:Int)),.d (.int .i64 k)] ⟨F (.loop (ao9 gs g N) [36,37] eV eU false none) a w z,M⟩=some (.d (.bool true),⟨F (.loop (ao9 gs g N) [36,37] eV eU false none) (a+1) (fF k n w z).1 (fF k n w z).2,M⟩):=by
 have ha:=bn hd;have hn:=sP hd;have gl:g<ss.length:=by
  obtain⟨h,_⟩:=List.getElem?_eq_some_iff.1 hg;simpa using h
 have T:=fun q m=>HC (hp:=fun w z=>F q m w z) (A:=2) ⟨fun s z=>H.g2 q m s z,fun s z s' z'=>H.p2 q m s z s' z'⟩ k n w z M
 by_cases k0:k=0
 ·have:=h0 k0;subst k0 this;simp (disch:=omega) [eV,eU,↓if_pos,↓if_neg,hg,hn,H.gl,H.pl,H.g0,H.gN,H.gM,H.pM,fF]
 ·have hT:=h1 k0;have hn5:=KU hT;have T:=fun q m=>T q m (by omega) (by omega) (by omega)
  simp only[if_pos hT]at T;have e:(fF k n w z)=if k=13 then (w,n) else (n,z):=by rw[fF,if_neg k0]
  by_cases k13:k=13
  ·rw[e,if_pos k13];simp (disch:=omega) [eV,eU,↓if_pos,↓if_neg,hg,hn,H.gl,H.pl,H.g0,H.g3,H.gN,H.gM,H.pM,T]
  ·rw[e,if_neg k13];simp (disch:=omega) [eV,eU,↓if_pos,↓if_neg,hg,hn,H.gl,H.pl,H.g0,H.g3,H.gN,H.gM,H.pM,T]
abbrev FK (ss:List (List Int)) (g N:Nat) (l:List am) (T:ac) (q:Obj) (m w z:Int):ac :=
 (0,.cells [.d (.lst (bu ss))])::(1,.cells [.d (.int .i64 0)])::(2,.cells [.d (.int .i64 w),.d (.int .i64 z)])::(3,.cells [.ptr 2 0])::(N,.cells [.d (.int .i64 g)])::(N+1,.cells [.d (.int .i64 m)])::(N+1+1,.cells [.d (.lst (dA l))])::(N+1+1+1,q)::T
theorem aAI {ss:List (List Int)}{g N:Nat}{l:List am}{T:ac}(hN:4≤N):LK (FK ss g N l T) ss g (N+1+1+1) N:=by
 constructor<;>intro q m w z<;>(try intro q')<;>(try intro q'')<;>simp (disch:=omega) [↓if_neg]
theorem azT (ss:List (List Int)) (hss:ss.length≤1000) (gs:List (List am)) (hgs:gs.length≤1000) (g N:Nat) (hN:4≤N) (t:List Int) (ht:t.length≤100000) (hg:(bu ss)[g]?=some [.lst (ai t)]) (l:List am) (hl:∀ k∈ak l,0≤k∧k≤13) (fin:Int×Int) :
  Rnd (hpK ss g N l (ao9 gs g N)) noH (N+1+1+1+1) (N+1+1+1) (ak l) (fun a k s=>.inl (a+1,fF k (nth t a) s.2.1 s.2.2)) (fun a s=>s.1=a∧my s.2.1∧my s.2.2∧bH ((ak l).drop a) (t.drop a) s.2.1 s.2.2=some fin):=by
 intro a k s K o M hk hi hK hM;obtain⟨i1,i2,i3,i4⟩:=hi;obtain⟨n,d1,d2,d3,d4⟩:=afC hk (by rw[i4];simp);have hn:nth t a=n:=by
  grind [bn,kA]
 have hkm:=hl k (by grind);rw[i4]at d4;have hgo:my (fF k n s.2.1 s.2.2).1∧my (fF k n s.2.1 s.2.2).2:=by
  grind [fF]
 refine .inl ⟨(a+1,fF k n s.2.1 s.2.2),by simp_all,⟨rfl,hgo.1,hgo.2,d4.symm⟩,?_⟩;obtain⟨m,w,z⟩:=s;subst i1;have:=aAf ss hss gs hgs g N (aAI (ss:=ss) (g:=g) (l:=l) (T:=[(K,o)]) hN) t ht hg m k w z M n _ d1 d2 d3 hkm i2 i3;exact this
theorem ID {l:List am}{lf:Int}(h:fitsS lf l):∀ k∈ak l,0≤k∧k≤13:=by
 induction l generalizing lf with
 | nil=>grind [ak]
 | cons s r ih =>
  intro k hk;obtain⟨h1,h2⟩:=h
  grind [ak]
abbrev aD3 (ss:List (List Int)) (w z:Int):ac:=[(0,.cells [.d (.lst (bu ss))]),(1,.cells [.d (.int .i64 0)]),(2,.cells [.d (.int .i64 w),.d (.int .i64 z)]),(3,.cells [.ptr 2 0])]
theorem aip {t:List Int}{a:Nat}{w z:Int}{fin:Int×Int}(h:bH [] (t.drop a) w z=some fin):(w,z)=fin∧t.length≤a:=by
 cases h1:t.drop a<;>simp_all [bH]
theorem Se:∀ {bks t:List Int}{w z:Int}{fin:Int×Int},bH bks t w z=some fin→bks.length=t.length
 | [],[],_,_,_,_=>rfl
 | [],_::_,_,_,_,h=>absurd h (by simp[bH])
 | _::_,[],_,_,_,h=>absurd h (by simp[bH])
 | k::r,n::t,w,z,fin,h=>by
  have h1:=j9 (by rw[h];simp);rw[h]at h1;have:=Se h1.2.2.symm
  simp_all
theorem ab4 (ss:List (List Int)) (hss:ss.length≤1000) (hss2:∀ t∈ss,t.length≤100000) (gs:List (List am)) (hgs:gs.length≤1000) (m:Int) (hm:m≤1000):∀ (gr:List (List am)) (sr:List (List Int)) (i N:Nat) (w z:Int),gs.drop i=gr→ss.drop i=sr→cB m gr→(∀ l∈gr,l.length≤1000)→my w→my z→iC gr sr w z≠none→4≤N→
  ∃ M w' z',(Dn prog).code (.loop mg) ⟨[(5,.ptr 0 0),(6,.ptr 1 0),(7,.ptr 3 0),(27,.d (.lst (aK gs))),(28,.d (.int .i64 gs.length)),(29,.d (.int .i64 i))],⟨aD3 ss w z,N⟩⟩ =
  some (.exit 0,⟨[(6,.ptr 1 0)],⟨[(1,.cells [.d (.int .i64 0)]),(2,.cells [.d (.int .i64 w'),.d (.int .i64 z')])],M⟩⟩):=by
 intro gr
 induction gr with
 | nil =>
  intro sr i N w z hd hd2 hf hl hw hz hr hN;have hi:=bg hd;refine⟨N,w,z,?_⟩;rw[aa mg.eq_1];simp (disch:=omega) [↓if_pos,↓if_neg]
 | cons l r ih =>
  intro sr i N w z hd hd2 hf hl hw hz hr hN;have hg:=kr hd;have hlt:=bn hd;have hfl:=hf l (.head _);have hll:=hl l (.head _)
  cases sr with
  | nil=>exact absurd rfl hr
  | cons t s =>
   have hgt:=LC hd2;have htl:=hss2 t (by rw[←List.take_append_drop i ss,hd2];simp);have hlt2:=bn hd2;rw[iC]at hr
   cases hrow:bH (ak l) t w z with
   | none=>simp_all
   | some fin =>
    rw[hrow]at hr;have hlen:=Se hrow;have hb:=abt (p:=N+1+1) (aCS (ss:=ss) (g:=i) (l:=l) (e:=ao9 gs i N) hN) aoH l (azT ss hss gs hgs i N hN t htl hgt l (ID hfl) fin) (fun s=>by simp (disch:=omega) [↓if_neg]) hll (fun q hq=>by have:=(lN hfl hm q hq).1;omega) (N+1+1+1+1) (0,w,z) (Nat.le_refl _) ⟨rfl,hw,hz,by simp_all⟩;rcases hb with ⟨⟨m2,w2,z2⟩,M,e1,⟨e2,e3,e4,e5⟩,e6,e7⟩ | ⟨z,_⟩
    ·rw[List.drop_eq_nil_of_le (Nat.le_refl _)]at e5;obtain⟨e8,e9⟩:=aip e5;subst e8;obtain⟨M2,w3,z3,f⟩:=ih s (i+1) M w2 z2 (aT hd) (aT hd2) (fun q hq=>hf q (.tail _ hq)) (fun q hq=>hl q (.tail _ hq)) e3 e4 hr (by omega);refine⟨M2,w3,z3,?_⟩;have c0:((0:Nat):Int)=0:=rfl;simp only[hpK,c0]at e7;rw[aa mg.eq_1,←f];simp (disch:=omega) [↓if_pos,↓if_neg,hg,hgt,Ep,rd,e7]
    grind
theorem alV (gain m:Int) (g:List (List am)) (t:List (List Int)) (hgn:0≤gain∧gain≤255) (hl:g.length≤8) (hm:0≤m∧m≤40) (hf:cB m g) (hf2:∀ l∈g,l.length≤1000) (ht:sC gain g t) (ht2:∀ l∈t,l.length≤100000) :
  aM prog zD [.d (.int .i64 gain),.d (.lst (aK g)),.d (.lst (bu t))]=some (.d (.int .i64 0)):=by
 have h1:=aff gain m g hgn hl hm fun l h=>⟨hf l h,hf2 l h⟩
 have hlen:=DK ht;obtain⟨M,w,z,e⟩:=ab4 t (by omega) ht2 g (by omega) m (by omega) g t 0 4 gain (-1) rfl rfl hf hf2 (by omega) (by omega) ht (Nat.le_refl _);have c0:((0:Nat):Int)=0:=rfl;rw[c0]at e;rw[az afP yw.eq_1 rfl];simp (disch:=omega) [↓if_pos,↓if_neg,h1,e]
def iT (b:List Nat):List (List am)→Int→Int→Int→R (List (List Int))
 | [],a,_,_=>.ok [] a.toNat
 | l::r,a,w,z=>(jx b (ak l) a w z).bind fun q n=>(iT b r n q.2.1 q.2.2).bind fun t n=>.ok (q.1::t) n
abbrev pSc (b:List Nat) (g:List (List am)) (t:List (List Int)) (n:Nat):Prop:=t.map List.length=g.map (fun l=>(ak l).length)∧n≤b.length
theorem SY {b:List Nat}:∀ {g:List (List am)}{a:Nat}{w z:Int}{t:List (List Int)}{n:Nat},a≤b.length→inW w→inW z→iT b g a w z=.ok t n→pSc b g t n
 | [],a,w,z,t,n,ha,hw,hz,h=>by
  rw[iT]at h;injection h with g1 g2
  subst g1 g2;exact⟨rfl,by simpa using ha⟩
 | l::r,a,w,z,t,n,ha,hw,hz,h=>by
  rw[iT]at h
  cases h1:jx b (ak l) a w z with
  | er e=>rw[h1]at h;exact absurd h (by simp)
  | ok q m =>
   rw[h1,aw]at h;have hp:=Mu ha hw hz h1
   cases h2:iT b r m q.2.1 q.2.2 with
   | er e=>rw[h2]at h;exact absurd h (by simp)
   | ok t1 m1 =>
    rw[h2,aw]at h;have hq:=SY hp.2.2 hp.2.1.1 hp.2.1.2 h2;injection h with g1 g2
    subst g1 g2;exact⟨by simp only[List.map_cons,hq.1,hp.1],hq.2⟩
theorem asw {t:List (List Int)}{l:List Int}:bu (t++[l])=bu t++[[.lst (ai l)]]:=by simp[bu]
theorem aoz {l:List am}(hl:l.length≤1000) (hs:∀ s∈l,0≤s.len∧s.len≤1000):(ak l).length≤1000*l.length:=by
 induction l with
 | nil=>simp[ak]
 | cons s r ih =>
  have h1:=hs s (.head _);have h2:=ih (by simp at hl;omega) fun q hq=>hs q (.tail _ hq)
  simp only[ak,List.flatMap_cons,List.length_append,List.length_replicate,List.length_cons]at h2⊢;omega
abbrev ah9 (l:List am):Prop:=l.length≤1000∧∀ s∈l,0≤s.len∧s.len≤1000
def uS (b:List Nat) (g:List (List am)) (a gain:Int):R (List (List Int)):=if 0≤a∧a≤b.length then iT b g a gain (-1) else .er 1
structure SG where
 row:List Int
 nx:Nat
 w:Int
 z:Int
theorem uQ {A0 A1 A2 A3:Obj}{R:ac}(book n s z:Int) (N:Nat) (hn:-100000≤n∧n≤100000) (hs:-100000≤s∧s≤100000) (hz:-100000≤z∧z≤100000) :
  (Dn prog).call fp [.ptr 4 0,.d (.int .i64 book),.d (.int .i64 n)] ⟨(0,A0)::(1,A1)::(2,A2)::(3,A3)::(4,.cells [.d (.int .i64 s),.d (.int .i64 z)])::R,N⟩ =
   if gI book n s z then some (.d (.bool true),⟨if book=13 then (0,A0)::(1,A1)::(2,A2)::(3,A3)::(4,.cells [.d (.int .i64 s),.d (.int .i64 n)])::R else (0,A0)::(1,A1)::(2,A2)::(3,A3)::(4,.cells [.d (.int .i64 n),.d (.int .i64 z)])::R,N⟩) else some (.d (.bool false),⟨(0,A0)::(1,A1)::(2,A2)::(3,A3)::(4,.cells [.d (.int .i64 s),.d (.int .i64 z)])::R,N⟩) :=
 HC (hp:=fun s z=>(0,A0)::(1,A1)::(2,A2)::(3,A3)::(4,.cells [.d (.int .i64 s),.d (.int .i64 z)])::R) (A:=4) ⟨fun s z=>by simp,fun s z s' z'=>by simp⟩ book n s z N hn hs hz
section
variable (b:List Nat) (full:List (List am)) (ss:List (List Int)) (l:List am) (i N:Nat)
abbrev ah6:ao:=[(4,.ptr 0 0),(8,.ptr 1 0),(9,.ptr 2 0),(10,.ptr 3 0),(11,.ptr 5 0),(14,.ptr N 0),(35,.d (.lst (aK full))),(36,.d (.int .i64 full.length)),(37,.d (.int .i64 i)),(42,.fn dH [] [.ptr (N+1) 0])]
abbrev FG (q:Bool) (p:Option aX) (x1 x2 x3:AV) (row:List Int) (w z:Int) (T:ac):ac :=
 (0,.cells [.d (.lst (af b))])::(1,.cells [x1])::(2,.cells [x2])::(3,.cells [x3])::(4,.cells [.d (.int .i64 w),.d (.int .i64 z)])::(5,.cells [.ptr 4 0])::(N,.cells [au 1 (ai row)])::(N+1,.cells [.d (.lst (dA l))])::(N+1+1,.loop (ah6 full i N) [43,44] cR cV q p)::T
abbrev hpG (s:SG) (T:ac):ac:=FG b full l i N false none (au 1 (bu ss)) (.d (.int .i64 s.nx)) (.d (.int .i64 0)) s.row s.w s.z T
abbrev hqG (s:Nat×SG) (T:ac):ac:=FG b full l i N false (some .ret) .nl (.d (.int .i64 0)) (.d (.int .i64 ((s.1:Int)+1))) s.2.row s.2.w s.2.z T
end
def HO (b:List Nat) (k:Int) (s:SG):Sum SG (Nat×SG) :=
 if k=13 then (match gg b s.nx 13 s.z with
  | .ok v n=>.inl ⟨s.row++[v],n,s.w,v⟩
  | .er e=>.inr (e,s))
 else if 0<k then (match gg b s.nx k s.w with
  | .ok v n=>.inl ⟨s.row++[v],n,v,s.z⟩
  | .er e=>.inr (e,s))
 else .inl ⟨s.row++[0],s.nx,s.w,s.z⟩
def ao5 (b:List Nat) (a:Nat) (s:SG):Prop:=s.nx≤b.length∧(0≤s.w∧s.w≤511)∧inW s.z∧s.row.length=a∧a≤1000000
theorem aAB (b:List Nat) (hb:b.length≤1000000000) (full:List (List am)) (ss:List (List Int)) (l:List am) (i N:Nat) (hN:6≤N) (a:Nat) (k:Int) (hk:0≤k∧k≤13) (s:SG) (hs:ao5 b a s) (K M:Nat) (o:Obj) (hK:N+1+1+1≤K) :
  bc (Dn prog) (.yield (N+1+1)) [.d (.int .i64 (a:Int)),.d (.int .i64 k)] ⟨hpG b full ss l i N s [(K,o)],M⟩ =
  match HO b k s with
  | .inl s2=>some (.d (.bool true),⟨hpG b full ss l i N s2 [(K,o)],M⟩)
  | .inr z=>some (.d (.bool false),⟨hqG b full l i N z [(K,o)],M⟩):=by
 obtain⟨h1,h2,h3,h4,h5⟩:=hs;obtain⟨n0,n1,n2,n3,n4⟩:(N≠0∧N≠1∧N≠2∧N≠3∧N≠4∧N≠5)∧(N+1≠0∧N+1≠1∧N+1≠2∧N+1≠3∧N+1≠4∧N+1≠5)∧(N+1+1≠0∧N+1+1≠1∧N+1+1≠2∧N+1+1≠3∧N+1+1≠4∧N+1+1≠5)∧N+1+1≠N∧N+1+1≠N+1:=by omega
 have hrl:=eq (l:=s.row);have eo:∀ v,AV.own false 1 (ai (s.row++[v]))=au 1 (ai (s.row++[v])):=fun v=>by rw[U2];exact lJ.symm
 have hS:=aj0 b s.nx hb (by omega);have hG:=d8 b s.nx 9 hb (by omega);have hz0:=h3.1;have hz1:=h3.2;rw[HO];by_cases e1:k=13
 ·subst e1;rw[if_pos rfl];by_cases hz:s.z<0
  ·cases hg:aO b s.nx 9 with
   | ok v n =>
    have hp:=cW hg;have hv:v<512:=hp.1;have hn:=hp.2;rw[hg,cu hp]at hG;have ho:gg b s.nx 13 s.z=.ok (v:Int) n:=by rw[gg,if_pos hz,hg,aw]
    have hT:gI 13 v s.w s.z:=by rw[gI,if_pos rfl];omega
    rw[ho];simp (maxSteps:=300000) (disch:=omega) [cR,cV,↓if_pos,↓if_neg,n0,n1,n2,n3,n4,uQ,hG,if_pos hT];exact eo _
   | er e =>
    rw[hg,eK]at hG;have ho:gg b s.nx 13 s.z=.er e:=by rw[gg,if_pos hz,hg,cS]
    rw[ho];simp (maxSteps:=300000) (disch:=omega) [cR,cV,↓if_pos,↓if_neg,n0,n1,n2,n3,n4,uQ,hG]
  ·cases hg:Bf b s.nx with
   | ok d n =>
    have hp:=aav hg;have hd:=hp.1;have hn:=hp.2;rw[hg,cu hp]at hS;by_cases hr:s.z+d<0∨ll 13<s.z+d
    ·have ho:gg b s.nx 13 s.z=.er 7:=by rw[gg,if_neg hz,hg,aw,if_pos hr]
     have hT:¬ gI 13 (d+s.z) s.w s.z:=by rw[gI,if_pos rfl];simp only[ll,if_pos]at hr;omega
     rw[ho];simp (maxSteps:=300000) (disch:=omega) [cR,cV,↓if_pos,↓if_neg,n0,n1,n2,n3,n4,uQ,hS,if_neg hT]
    ·have ho:gg b s.nx 13 s.z=.ok (s.z+d) n:=by rw[gg,if_neg hz,hg,aw,if_neg hr]
     have hT:gI 13 (d+s.z) s.w s.z:=by rw[gI,if_pos rfl];simp only[ll,if_pos]at hr;omega
     rw[ho,Int.add_comm];simp (maxSteps:=300000) (disch:=omega) [cR,cV,↓if_pos,↓if_neg,n0,n1,n2,n3,n4,uQ,hS,if_pos hT];exact eo _
   | er e =>
    rw[hg,eK]at hS;have ho:gg b s.nx 13 s.z=.er e:=by rw[gg,if_neg hz,hg,cS]
    rw[ho];simp (maxSteps:=300000) (disch:=omega) [cR,cV,↓if_pos,↓if_neg,n0,n1,n2,n3,n4,uQ,hS]
 ·rw[if_neg e1];by_cases e2:0<k
  ·rw[if_pos e2];have hw:¬ s.w<0:=by omega
   cases hg:Bf b s.nx with
   | ok d n =>
    have hp:=aav hg;have hd:=hp.1;have hn:=hp.2;rw[hg,cu hp]at hS;by_cases hr:s.w+d<0∨ll k<s.w+d
    ·have ho:gg b s.nx k s.w=.er 7:=by rw[gg,if_neg hw,hg,aw,if_pos hr]
     have hT:¬ gI k (d+s.w) s.w s.z:=by rw[gI,if_neg e1];simp only[ll,if_neg e1]at hr;omega
     rw[ho];simp (maxSteps:=300000) (disch:=omega) [cR,cV,↓if_pos,↓if_neg,n0,n1,n2,n3,n4,uQ,hS,if_neg hT,e1]
    ·have ho:gg b s.nx k s.w=.ok (s.w+d) n:=by rw[gg,if_neg hw,hg,aw,if_neg hr]
     have hT:gI k (d+s.w) s.w s.z:=by rw[gI,if_neg e1];simp only[ll,if_neg e1]at hr;omega
     rw[ho,Int.add_comm];simp (maxSteps:=300000) (disch:=omega) [cR,cV,↓if_pos,↓if_neg,n0,n1,n2,n3,n4,uQ,hS,if_pos hT,e1];exact eo _
   | er e =>
    rw[hg,eK]at hS;have ho:gg b s.nx k s.w=.er e:=by rw[gg,if_neg hw,hg,cS]
    rw[ho];simp (maxSteps:=300000) (disch:=omega) [cR,cV,↓if_pos,↓if_neg,n0,n1,n2,n3,n4,uQ,hS,e1]
  ·rw[if_neg e2];have:k=0:=by omega
   subst this;simp (maxSteps:=300000) (disch:=omega) [cR,cV,↓if_pos,↓if_neg,n0,n1,n2,n3,n4,uQ,e1];exact eo _
theorem avm {b:List Nat}{a:Nat}{k:Int}{s s2:SG}(hs:ao5 b a s) (ha:a<1000000) (h:HO b k s=.inl s2):ao5 b (a+1) s2:=by
 obtain⟨h1,h2,h3,h4,h5⟩:=hs;have h3':=h3;rw[HO]at h;split at h
 ·split at h
  ·rename_i v n ho;have hp:=Vv ho;obtain⟨⟨hv1,hv2⟩,hn⟩:=hp;injection h with h;subst h
   exact⟨hn,h2,⟨by simp only[];omega,hv2⟩,by simp[h4],by omega⟩
  ·exact nomatch h
 ·split at h
  ·split at h
   ·rename_i v n ho;have hp:=Vv ho;obtain⟨⟨hv1,hv2⟩,hn⟩:=hp;injection h with h;subst h
    exact⟨hn,⟨hv1,hv2⟩,h3,by simp[h4],by omega⟩
   ·exact nomatch h
  ·injection h with h;subst h
   exact⟨h1,h2,h3,by simp[h4],by omega⟩
theorem Nh {b:List Nat}:∀ {r:List Int}{a:Nat}{s:SG},(∀ q n,jx b r s.nx s.w s.z=.ok q n→na (fun _ k s=>HO b k s) r a s=.inl ⟨s.row++q.1,n,q.2.1,q.2.2⟩)∧(∀ e,jx b r s.nx s.w s.z=.er e→∃ z,na (fun _ k s=>HO b k s) r a s=.inr (e,z))
 | [],a,s=>⟨fun q n h=>by
   rw[jx]at h;injection h with g1 g2
   subst g1 g2;rw[na];simp,fun e h=>by rw[jx]at h;exact absurd h (by simp)⟩
 | k::r,a,s=>by
  rw[jx,na,HO];by_cases e1:k=13
  ·rw[if_pos e1,if_pos e1]
   cases ho:gg b s.nx 13 s.z with
   | er e=>exact⟨fun q n h=>by rw[cS]at h;exact absurd h (by simp),fun e' h=>by rw[cS]at h;injection h with h;subst h;exact⟨s,rfl⟩⟩
   | ok v n =>
    simp only[aw];have ih:=Nh (b:=b) (r:=r) (a:=a+1) (s:=⟨s.row++[v],n,s.w,v⟩)
    cases hr:jx b r n s.w v with
    | er e=>exact⟨fun q n h=>by rw[cS]at h;exact absurd h (by simp),fun e' h=>by rw[cS]at h;injection h with h;subst h;exact ih.2 e hr⟩
    | ok q m =>
     refine⟨fun q' n' h=>?_,fun e h=>by rw[aw]at h;exact absurd h (by simp)⟩;rw[aw]at h;injection h with g1 g2
     subst g1 g2;rw[ih.1 q m hr];simp
  ·rw[if_neg e1,if_neg e1];by_cases e2:0<k
   ·rw[if_pos e2,if_pos e2]
    cases ho:gg b s.nx k s.w with
    | er e=>exact⟨fun q n h=>by rw[cS]at h;exact absurd h (by simp),fun e' h=>by rw[cS]at h;injection h with h;subst h;exact⟨s,rfl⟩⟩
    | ok v n =>
     simp only[aw];have ih:=Nh (b:=b) (r:=r) (a:=a+1) (s:=⟨s.row++[v],n,v,s.z⟩)
     cases hr:jx b r n v s.z with
     | er e=>exact⟨fun q n h=>by rw[cS]at h;exact absurd h (by simp),fun e' h=>by rw[cS]at h;injection h with h;subst h;exact ih.2 e hr⟩
     | ok q m =>
      refine⟨fun q' n' h=>?_,fun e h=>by rw[aw]at h;exact absurd h (by simp)⟩;rw[aw]at h;injection h with g1 g2
      subst g1 g2;rw[ih.1 q m hr];simp
   ·rw[if_neg e2,if_neg e2];have ih:=Nh (b:=b) (r:=r) (a:=a+1) (s:=⟨s.row++[0],s.nx,s.w,s.z⟩)
    cases hr:jx b r s.nx s.w s.z with
    | er e=>exact⟨fun q n h=>by rw[cS]at h;exact absurd h (by simp),fun e' h=>by rw[cS]at h;injection h with h;subst h;exact ih.2 e hr⟩
    | ok q m =>
     refine⟨fun q' n' h=>?_,fun e h=>by rw[aw]at h;exact absurd h (by simp)⟩;rw[aw]at h;injection h with g1 g2
     subst g1 g2;simp only;rw[ih.1 q m hr];simp
theorem ax2 (b:List Nat) (hb:b.length≤1000000000) (full:List (List am)) (ss:List (List Int)) (l:List am) (i N:Nat) (hN:6≤N) (hk:∀ k∈ak l,0≤k∧k≤13) (hl:(ak l).length≤1000000) :
  Rnd (hpG b full ss l i N) (hqG b full l i N) (N+1+1+1) (N+1+1) (ak l) (fun _ k s=>HO b k s) (ao5 b):=by
 intro a k s K o M hak hi hK hKM;have hal:a<(ak l).length:=(List.getElem?_eq_some_iff.1 hak).1;have h:=aAB b hb full ss l i N hN a k (hk k (List.mem_of_getElem? hak)) s hi K M o hK
 cases hg:HO b k s with
 | inl s2 =>
  rw[hg]at h;exact .inl ⟨s2,hg,avm hi (by omega) hg,h⟩
 | inr z =>
  rw[hg]at h;exact .inr ⟨z,hg,h⟩
theorem aAM {b:List Nat}{full:List (List am)}{ss:List (List Int)}{l:List am}{i N:Nat}(hN:6≤N):Tl (hpG b full ss l i N) (N+1+1+1):=by
 obtain⟨n0,n1,n2,n3,n4⟩:(N≠0∧N≠1∧N≠2∧N≠3∧N≠4∧N≠5)∧(N+1≠0∧N+1≠1∧N+1≠2∧N+1≠3∧N+1≠4∧N+1≠5)∧(N+1+1≠0∧N+1+1≠1∧N+1+1≠2∧N+1+1≠3∧N+1+1≠4∧N+1+1≠5)∧N+1+1≠N∧N+1+1≠N+1:=by omega
 constructor
 ·intro s K o h;simp (maxSteps:=300000) (disch:=omega) [↓if_neg]
 ·intro s K o o' h;simp (maxSteps:=300000) (disch:=omega) [↓if_neg]
 ·intro s K o h;simp (maxSteps:=300000) (disch:=omega) [↓if_neg]
 ·intro s K o h;simp (maxSteps:=300000) (disch:=omega) [↓if_neg]
theorem aAt {b:List Nat}{full:List (List am)}{l:List am}{i N:Nat}(hN:6≤N):Tl (hqG b full l i N) (N+1+1+1):=by
 obtain⟨n0,n1,n2,n3,n4⟩:(N≠0∧N≠1∧N≠2∧N≠3∧N≠4∧N≠5)∧(N+1≠0∧N+1≠1∧N+1≠2∧N+1≠3∧N+1≠4∧N+1≠5)∧(N+1+1≠0∧N+1+1≠1∧N+1+1≠2∧N+1+1≠3∧N+1+1≠4∧N+1+1≠5)∧N+1+1≠N∧N+1+1≠N+1:=by omega
 constructor
 ·intro s K o h;simp (maxSteps:=300000) (disch:=omega) [↓if_neg]
 ·intro s K o o' h;simp (maxSteps:=300000) (disch:=omega) [↓if_neg]
 ·intro s K o h;simp (maxSteps:=300000) (disch:=omega) [↓if_neg]
 ·intro s K o h;simp (maxSteps:=300000) (disch:=omega) [↓if_neg]
theorem KB (x:D) (A0 A1 A2 A3 A4 A5 A6:Obj) (N:Nat) (hN:6≤N):(Dn prog).call jX [.d x] ⟨[(0,A0),(1,A1),(2,A2),(3,A3),(4,A4),(5,A5),(N,A6)],N+1⟩=some (.fn dH [] [.ptr (N+1) 0],⟨[(0,A0),(1,A1),(2,A2),(3,A3),(4,A4),(5,A5),(N,A6),(N+1,.cells [.d x])],N+1+1⟩):=by
 rw[Ep];simp (maxSteps:=300000) (disch:=omega) [↓if_neg]
def aoL (l:List am):Prop:=∀ k∈ak l,0≤k∧k≤13
abbrev hpL (b:List Nat) (ss:List (List Int)) (nx:Nat) (w z:Int):ac:=[(0,.cells [.d (.lst (af b))]),(1,.cells [au 1 (bu ss)]),(2,.cells [.d (.int .i64 nx)]),(3,.cells [.d (.int .i64 0)]),(4,.cells [.d (.int .i64 w),.d (.int .i64 z)]),(5,.cells [.ptr 4 0])]
theorem akM (b:List Nat) (hb:b.length≤1000000000) (full:List (List am)) (hfl:full.length≤1000):∀ (g:List (List am)) (i N:Nat) (ss:List (List Int)) (nx:Nat) (w z:Int),full.drop i=g→(∀ l∈g,ah9 l∧aoL l)→nx≤b.length→(0≤w∧w≤511)→inW z→ss.length≤i→6≤N→
  (∀ t n,iT b g nx w z=.ok t n→∃ M A4,(Dn prog).code (.loop fc) ⟨[(4,.ptr 0 0),(8,.ptr 1 0),(9,.ptr 2 0),(10,.ptr 3 0),(11,.ptr 5 0),(35,.d (.lst (aK full))),(36,.d (.int .i64 full.length)),(37,.d (.int .i64 i))],⟨hpL b ss nx w z,N⟩⟩ =
   some (.exit 0,⟨[(8,.ptr 1 0),(9,.ptr 2 0),(10,.ptr 3 0)],⟨[(1,.cells [au 1 (bu (ss++t))]),(2,.cells [.d (.int .i64 n)]),(3,.cells [.d (.int .i64 0)]),(4,A4)],M⟩⟩))∧
  (∀ e,iT b g nx w z=.er e→∃ M I K T,(Dn prog).code (.loop fc) ⟨[(4,.ptr 0 0),(8,.ptr 1 0),(9,.ptr 2 0),(10,.ptr 3 0),(11,.ptr 5 0),(35,.d (.lst (aK full))),(36,.d (.int .i64 full.length)),(37,.d (.int .i64 i))],⟨hpL b ss nx w z,N⟩⟩ =
   some (.ret,⟨ah6 full I K,⟨(0,.cells [.d (.lst (af b))])::(1,.cells [.nl])::(2,.cells [.d (.int .i64 0)])::(3,.cells [.d (.int .i64 ((e:Int)+1))])::T,M⟩⟩)):=by
 intro g
 induction g with
 | nil =>
  intro i N ss nx w z hd hok hnx hw hz hss hN;have hk:=bg hd;refine⟨fun t n h=>?_,fun e h=>by rw[iT]at h;exact absurd h (by simp)⟩;rw[iT]at h;injection h with g1 g2
  subst g1 g2;refine⟨N,.cells [.d (.int .i64 w),.d (.int .i64 z)],?_⟩;rw[aa fc.eq_1];simp (maxSteps:=300000) (disch:=omega) [↓if_pos,↓if_neg]
 | cons l r ih =>
  intro i N ss nx w z hd hok hnx hw hz hss hN;have hlt:=bn hd;have hg:=kr hd;obtain⟨hl,hbk⟩:=hok l (.head _);have hbl:=aoz hl.1 hl.2;have hsl:=arM (t:=ss);obtain⟨n0,n1,n2,n3,n4⟩:(N≠0∧N≠1∧N≠2∧N≠3∧N≠4∧N≠5)∧(N+1≠0∧N+1≠1∧N+1≠2∧N+1≠3∧N+1≠4∧N+1≠5)∧(N+1+1≠0∧N+1+1≠1∧N+1+1≠2∧N+1+1≠3∧N+1+1≠4∧N+1+1≠5)∧N+1+1≠N∧N+1+1≠N+1:=by omega
  have hB:=abt (p:=N+1) (aAM (b:=b) (full:=full) (ss:=ss) (l:=l) (i:=i) hN) (aAt (b:=b) (full:=full) (l:=l) (i:=i) hN) l (ax2 b hb full ss l i N hN hbk (by omega)) (fun s=>by simp (maxSteps:=300000) (disch:=omega) [↓if_neg,↓if_pos]) (by omega) hl.2 (N+1+1+1) ⟨[],nx,w,z⟩ (Nat.le_refl _) ⟨hnx,hw,hz,rfl,by omega⟩;have hrow:=Nh (b:=b) (r:=ak l) (a:=0) (s:=⟨[],nx,w,z⟩);have n00:ai []=[]:=rfl;have c1:((i+1:Nat):Int)=(i:Int)+1:=rfl;rw[iT]
  cases hr:jx b (ak l) nx w z with
  | er e =>
   obtain⟨zz,hz2⟩:=hrow.2 e hr;rw[hz2]at hB;refine⟨fun t n h=>by rw[cS]at h;exact absurd h (by simp),fun e' h=>?_⟩;rw[cS]at h;injection h with h
   subst h;rcases hB with ⟨s2,M,e1,_⟩ | ⟨q,M,e1,e2,e3⟩
   ·exact nomatch e1
   ·injection e1 with e1
    subst e1;simp only[hpG,hqG,FG,n00,ky,ah6]at e3;refine⟨M,i,N,[(4,.cells [.d (.int .i64 zz.w),.d (.int .i64 zz.z)]),(5,.cells [.ptr 4 0]),(N,.cells [au 1 (ai zz.row)]),(N+1,.cells [.d (.lst (dA l))])],?_⟩;rw[aa fc.eq_1];simp (maxSteps:=300000) (disch:=omega) [↓if_pos,↓if_neg,hg,n0,n1,n2,n3,n4,KB,rd,e3]
  | ok q m =>
   have hp:=Mu hnx ⟨by omega,by omega⟩ hz hr;obtain⟨p1,⟨p2,p3⟩,p4⟩:=hp;have hz2:=hrow.1 q m hr;rw[hz2]at hB;rcases hB with ⟨s2,M,e1,ei,e2,e3⟩ | ⟨q,M,e1,_⟩
   rotate_left
   ·exact nomatch e1
   injection e1 with e1
   subst e1;obtain⟨_,hw2,hz3,_⟩:=ei;simp only[List.nil_append]at e3 hw2 hz3;have h5:=ih (i+1) M (ss++[q.1]) m q.2.1 q.2.2 (aT hd) (fun x hx=>hok x (.tail _ hx)) p4 hw2 hz3 (by simp;omega) (by omega);rw[c1]at h5;simp only[aw];have step:(Dn prog).code (.loop fc) ⟨[(4,.ptr 0 0),(8,.ptr 1 0),(9,.ptr 2 0),(10,.ptr 3 0),(11,.ptr 5 0),(35,.d (.lst (aK full))),(36,.d (.int .i64 full.length)),(37,.d (.int .i64 i))],⟨hpL b ss nx w z,N⟩⟩ =
     (Dn prog).code (.loop fc) ⟨[(4,.ptr 0 0),(8,.ptr 1 0),(9,.ptr 2 0),(10,.ptr 3 0),(11,.ptr 5 0),(35,.d (.lst (aK full))),(36,.d (.int .i64 full.length)),(37,.d (.int .i64 ((i:Int)+1)))],⟨hpL b (ss++[q.1]) m q.2.1 q.2.2,M⟩⟩:=by
    simp only[hpG,hqG,FG,n00,ky,ah6]at e3;simp only[hpL,asw,lJ];rw[aa fc.eq_1];simp (maxSteps:=300000) (disch:=omega) [↓if_pos,↓if_neg,hg,n0,n1,n2,n3,n4,KB,rd,e3]
   rw[step]
   cases hs:iT b r m q.2.1 q.2.2 with
   | er e =>
    refine⟨fun t n h=>by rw[cS]at h;exact absurd h (by simp),fun e' h=>?_⟩;rw[cS]at h;injection h with h
    subst h;exact h5.2 e hs
   | ok t0 m0 =>
    refine⟨fun t n h=>?_,fun e h=>by rw[aw]at h;exact absurd h (by simp)⟩;rw[aw]at h;injection h with g1 g2
    subst g1 g2;obtain⟨M2,A4,f⟩:=h5.1 t0 m0 hs;refine⟨M2,A4,?_⟩;rw[f,List.append_assoc];rfl
theorem aiE {m:Nat}{xs:List (List D)}:share (share (au m xs))=share (au m xs):=by cases xs<;>rfl
theorem anx {m:Nat}{xs:List (List D)}:firm (share (au m xs))=share (au m xs):=by cases xs<;>rfl
theorem aiU {m:Nat}{xs:List (List D)}:AV.cells (share (au m xs))=[share (au m xs)]:=by cases xs<;>rfl
theorem anK {m:Nat}{xs:List (List D)}:bJ (share (au m xs))=true:=by cases xs<;>rfl
theorem ase {h:ac}{m:Nat}{xs:List (List D)}{a b:Int}:eE h (.tup [share (au m xs),.d (.int .i64 a),.d (.int .i64 b)])=some (.tup [share (au m xs),.d (.int .i64 a),.d (.int .i64 b)]):=by cases xs<;>rfl
theorem arv (b:List Nat) (hb:b.length≤1000000000) (a gain m:Int) (ha:i64 a) (hg:0≤gain∧gain≤255) (g:List (List am)) (hl:g.length≤8) (hm:0≤m∧m≤40) (hf:cB m g) (hf2:∀ l∈g,l.length≤1000) (hok:∀ l∈g,ah9 l∧aoL l):aM prog Eq [.d (.lst (af b)),.d (.int .i64 a),.d (.int .i64 gain),.d (.lst (aK g))] =
  rK (pSc b g) (uS b g a gain) (fun t n=>some (.tup [share (au 1 (bu t)),.d (.int .i64 n),.d (.int .i64 0)])) (fun e=>some (.tup [.nl,.d (.int .i64 0),.d (.int .i64 (e+1))])):=by
 have hmay:=aff gain m g hg hl hm fun l h=>⟨hf l h,hf2 l h⟩
 have hG:=d8 b a 0 hb ha;have e0:∀ a,aO b a 0=if 0≤a∧a≤b.length then .ok 0 a.toNat else .er 1:=by
  intro a;by_cases h:0≤a∧a≤b.length
  ·rw[if_pos h,aO];simp[h,bin,val]
  ·rw[if_neg h,aO];simp[h]
 rw[az alH E7.eq_1 rfl,uS];by_cases h1:0≤a∧a≤b.length
 ·obtain⟨A,rfl⟩:=Int.eq_ofNat_of_zero_le h1.1;rw[if_pos h1];rw[e0,if_pos h1,cu ⟨by decide,by omega⟩]at hG;have hL:=akM b hb g (by omega) g 0 6 [] A gain (-1) rfl hok (by omega) ⟨hg.1,by omega⟩ ⟨by omega,by omega⟩ (Nat.le_refl _) (Nat.le_refl _);have c0:((0:Nat):Int)=0:=rfl;have n0:bu []=[]:=rfl;simp only[c0,n0,ky,hpL,List.nil_append]at hL;simp only[Int.toNat_natCast]at hG
  cases hs:iT b g A gain (-1) with
  | ok t n =>
   have hp:=SY (by omega) ⟨by omega,by omega⟩ ⟨by omega,by omega⟩ hs;obtain⟨M,A4,f⟩:=hL.1 t n hs;rw[cu hp];simp (maxSteps:=300000) (disch:=omega) [↓if_pos,↓if_neg,hmay,hG,f,-VY,ase,-bJ,anx,aiU,anK,aiE]
  | er e =>
   obtain⟨M,I,K,T,f⟩:=hL.2 e hs;rw[eK];simp (maxSteps:=300000) (disch:=omega) [↓if_pos,↓if_neg,hmay,hG,f]
 ·rw[if_neg h1,eK];rw[e0,if_neg h1,eK]at hG;simp (maxSteps:=300000) (disch:=omega) [↓if_pos,↓if_neg,hmay,hG]
def tz (xs:List (List Nat)):List (List D):=xs.map fun l=>[.lst (af l)]
@[simp] theorem aCa {t:List (List Nat)}:(tz t).length=t.length:=by simp[tz]
theorem Lp {g:List (List Nat)}{i:Nat}{l:List Nat}{r:List (List Nat)}(h:g.drop i=l::r):(tz g)[i]?=some [.lst (af l)]:=by
 have:=congrArg (fun l=>l[0]?) h;simp only[List.getElem?_drop,List.getElem?_cons_zero,Nat.add_zero]at this;rw[tz,List.getElem?_map,this];rfl
theorem eg {l:List Nat}:(af l).length=l.length:=by simp[af]
theorem apQ (xs:List (List Nat)) (hx:xs.length≤1000) (h:ac) (N:Nat):∀ (r:List (List Nat)) (i:Nat) (n:Nat),xs.drop i=r→n+r.flatten.length≤1000000000→
  (Dn prog).code (.loop fI) ⟨[(0,.d (.lst (tz xs))),(3,.d (.int .i64 n)),(9,.d (.lst (tz xs))),(10,.d (.int .i64 xs.length)),(11,.d (.int .i64 i))],⟨h,N⟩⟩ =
  some (.exit 0,⟨[(0,.d (.lst (tz xs))),(3,.d (.int .i64 (n+r.flatten.length:Nat)))],⟨h,N⟩⟩):=by
 intro r
 induction r with
 | nil =>
  intro i n hd hn;have hi:=bg hd;rw[aa fI.eq_1];simp (maxSteps:=300000) (disch:=omega) [↓if_neg]
 | cons l r ih =>
  intro i n hd hn;have hg:=Lp hd;have hlt:=bn hd;simp only[List.flatten_cons,List.length_append]at hn⊢;have h5:=ih (i+1) (n+l.length) (aT hd) (by omega);have c1:((i+1:Nat):Int)=(i:Int)+1:=rfl;have c2:((n+l.length:Nat):Int)=(n:Int)+l.length:=rfl;rw[c1,c2,Nat.add_assoc]at h5;rw[aa fI.eq_1,←h5];simp (maxSteps:=300000) (disch:=omega) [↓if_pos,↓if_neg,hg,eg]
theorem arw (xs:List (List Nat)) (hx:xs.length≤1000) (h:ac) (N:Nat):∀ (r:List (List Nat)) (i:Nat) (acc:List Nat),xs.drop i=r→acc.length+r.flatten.length≤1000000000→
  (Dn prog).code (.loop dS) ⟨[(6,.own false 1 (af acc)),(25,.d (.lst (tz xs))),(26,.d (.int .i64 xs.length)),(27,.d (.int .i64 i))],⟨h,N⟩⟩ =
  some (.exit 2,⟨[(6,.own false 1 (af (acc++r.flatten)))],⟨h,N⟩⟩):=by
 intro r
 induction r with
 | nil =>
  intro i acc hd hn;have hi:=bg hd;rw[aa dS.eq_1];simp (maxSteps:=300000) (disch:=omega) [↓if_neg]
 | cons l r ih =>
  intro i acc hd hn;have hg:=Lp hd;have hlt:=bn hd;simp only[List.flatten_cons,List.length_append]at hn⊢;have h5:=ih (i+1) (acc++l) (aT hd) (by simp only[List.length_append];omega);have c1:((i+1:Nat):Int)=(i:Int)+1:=rfl;rw[c1,List.append_assoc]at h5;rw[aa dS.eq_1,←h5];simp (maxSteps:=300000) (disch:=omega) [↓if_pos,↓if_neg,hg,eg]
theorem axb (n:Nat) (hn:0<n∧n≤1000000000):(Dn prog).call nb [.nl,.d (.int .i64 n)] ⟨[],0⟩=some (.sl 0 0 0,⟨[(0,.arr 1 (List.replicate n [.int .u8 0]))],1⟩):=by
 have e1:cD (.d (.int .i64 n)) aq=some n:=by rw[DP (by omega) (by simp only[aq];omega)];simp
 have e2:WV [.int .u8 0] [] .nl (.d (.int .i64 n))=some (.own true 1 (List.replicate n [.int .u8 0]),[]):=by
  unfold WV;rw[e1];obtain⟨m,rfl⟩:∃ m,n=m+1:=⟨n-1,by omega⟩
  simp (disch:=omega) [List.replicate_succ,↓if_pos]
 have e0:cD (.d (.int .i64 0)) n=some 0:=DP (by omega) (by omega);have e3:pw [] 1 .nl none (some (.int .i64 0)) none=some .nl:=rfl;have e4:pw [(0,.arr 1 (List.replicate n [D.int .u8 0]))] 1 (.sl 0 0 n) none (some (.int .i64 0)) none=some (.sl 0 0 0):=by
  simp[pw,okSl,r5,lenOf,uD,e0,qh]
 rw[aD JX mY.eq_1 rfl];simp (maxSteps:=300000) (disch:=omega) [↓if_pos,↓if_neg,aoj,e2,e3,e4]
theorem ajT (xs:List (List Nat)) (hx:xs.length≤1000) (hn:0<xs.flatten.length∧xs.flatten.length≤1000000000):aM prog fg [.d (.lst (tz xs))]=some (.own true 1 (af xs.flatten)):=by
 have h0:=apQ xs hx [] 0 xs 0 0 rfl (by omega);have h2:=axb xs.flatten.length hn;have c0:((0:Nat):Int)=0:=rfl;rw[Nat.zero_add,c0]at h0;have hne:xs≠[]:=by intro h;subst h;simp at hn
 obtain⟨l,r,e⟩:=List.exists_cons_of_ne_nil hne;have h1:=arw xs hx [] 1 r 1 l (by rw[e];rfl) (by rw[e]at hn;simpa using hn.2);have hg:=Lp (g:=xs) (i:=0) (l:=l) (r:=r) (by rw[e];rfl);have hlt:0<xs.length:=List.length_pos_iff.2 hne;have e5:l++r.flatten=xs.flatten:=by rw[e];rfl
 rw[e5]at h1;have hll:l.length≤1000000000:=by rw[←e5,List.length_append]at hn;omega
 clear e5 e;generalize xs.flatten=F at *;have c1:((1:Nat):Int)=1:=rfl;rw[c1]at h1;rw[az GB lD.eq_1 rfl];simp (maxSteps:=300000) (disch:=omega) [↓if_pos,↓if_neg,h0,h2];rw[aa dS.eq_1];simp (maxSteps:=300000) (disch:=omega) [↓if_pos,↓if_neg,hg,eg,h1]
def bb (n:Nat):Nat:=if n=0 then 0 else n.log2+1
theorem AH {n:Nat}:n<2 ^ bb n:=by
 unfold bb;by_cases h:n=0
 ·subst h;decide
 ·rw[if_neg h];exact(Nat.log2_lt h).1 (Nat.lt_succ_self _)
theorem mC {n:Nat}(h:n≠0):2 ^ (bb n-1)≤n:=by
 unfold bb;rw[if_neg h,Nat.add_sub_cancel];exact(Nat.le_log2 h).1 (Nat.le_refl _)
theorem arl {n k:Nat}(h1:2 ^ k≤n) (h2:n<2 ^ (k+1)):bb n=k+1:=by
 have h0:n≠0:=by have:=Nat.two_pow_pos k;omega
 unfold bb;rw[if_neg h0];have a:=(Nat.le_log2 h0).2 h1;have b:=(Nat.log2_lt h0).2 h2;omega
theorem atm {n:Nat}(h:256≤n):bb n=8+bb (n / 256):=by
 have h0:n / 256≠0:=by omega
 obtain⟨k,hk⟩:∃ k,bb (n / 256)=k+1:=⟨bb (n / 256)-1,by unfold bb;rw[if_neg h0];omega⟩
 have a:=AH (n:=n / 256);have b:=mC h0;rw[hk]at a b⊢;rw[Nat.add_sub_cancel]at b;rw[arl (k:=k+8)]
 ·omega
 ·rw[Nat.pow_add];omega
 ·rw[show k+8+1=k+1+8 by omega,Nat.pow_add];omega
def ZW:List UInt8:=[0,1,2,2,3,3,3,3,4,4,4,4,4,4,4,4,5,5,5,5,5,5,5,5,5,5,5,5,5,5,5,5,6,6,6,6,6,6,6,6,6,6,6,6,6,6,6,6,6,6,6,6,6,6,6,6,6,6,6,6,6,6,6,6,7,7,7,7,7,7,7,7,7,7,7,7,7,7,7,7,7,7,7,7,7,7,7,7,7,7,7,7,7,7,7,7,7,7,7,7,7,7,7,7,7,7,7,7,7,7,7,7,7,7,7,7,7,7,7,7,7,7,7,7,7,7,7,7,8,8,8,8,8,8,8,8,8,8,8,8,8,8,8,8,8,8,8,8,8,8,8,8,8,8,8,8,8,8,8,8,8,8,8,8,8,8,8,8,8,8,8,8,8,8,8,8,8,8,8,8,8,8,8,8,8,8,8,8,8,8,8,8,8,8,8,8,8,8,8,8,8,8,8,8,8,8,8,8,8,8,8,8,8,8,8,8,8,8,8,8,8,8,8,8,8,8,8,8,8,8,8,8,8,8,8,8,8,8,8,8,8,8,8,8,8,8,8,8,8,8,8,8,8,8,8,8]
theorem as8:∀ n,n<256→(ZW[n]?).map UInt8.toNat=some (bb n):=by decide +kernel
theorem amB {n:Nat}(h:n<256):aol (.d (.str ZW)) (.d (.int .u8 n))=some (.int .u8 (bb n)):=by
 have:=as8 n h;show (match ZW[n]? with | some b=>some (D.int .u8 (.ofNat b.toNat)) | none=>none)=_
 cases hx:ZW[n]? with
 | none=>rw[hx]at this;exact absurd this (by simp)
 | some b =>
  rw[hx]at this;injection this with this
  show some (D.int .u8 ((b.toNat:Nat):Int))=_;rw[this]
theorem aDx {n:Nat}:cZ .shr (.d (.int .u64 (n:Int))) (.d (.int .u64 8))=some (.int .u64 ((n / 256:Nat):Int)):=by
 rw[gw (by omega)];have:min ((8:Int)).toNat IntKind.u64.bits=8:=rfl;rw[this,Int.fdiv_eq_ediv_of_nonneg _ (Int.natCast_nonneg _),←Int.natCast_ediv]
theorem ake (n:Nat) (hn:n<65536):aM prog nu [.d (.int .u64 n)]=some (.d (.int .i64 (bb n))):=by
 have h64:aM prog pt [.d (.int .u64 n)]=some (.d (.int .i64 (bb n))):=by
  rw[az PV py.eq_1 rfl];by_cases h:256≤n
  ·have h2:=amB (n:=n / 256) (by omega);have h3:=atm h;have h4:bb (n / 256)≤8:=by
    have a:=mC (n:=n / 256) (by omega);rcases Nat.lt_or_ge 8 (bb (n / 256)) with h | h
    ·have:2 ^ 8≤2 ^ (bb (n / 256)-1):=Nat.pow_le_pow_right (by omega) (by omega);omega
    ·exact h
   have c1:((n / 256:Nat):Int)=(n:Int) / 256:=by omega
   rw[ZW,c1]at h2;rw[h3];simp (maxSteps:=300000) (disch:=omega) [↓if_pos,↓if_neg,-gw,aDx,h2]
  ·have h2:=amB (n:=n) (by omega);have h4:bb n≤8:=by
    by_cases h0:n=0
    ·subst h0;decide
    ·have a:=mC (n:=n) h0;rcases Nat.lt_or_ge 8 (bb n) with h | h
     ·have:2 ^ 8≤2 ^ (bb n-1):=Nat.pow_le_pow_right (by omega) (by omega);omega
     ·exact h
   rw[ZW]at h2;simp (maxSteps:=300000) (disch:=omega) [↓if_pos,↓if_neg,-gw,h2]
 rw[az WC uN.eq_1 rfl];simp (maxSteps:=300000) (disch:=omega) [↓if_pos,↓if_neg,h64,ao0]
def gG (low:Int) (w:Nat):List Int→Nat→Nat
 | [],n=>n
 | v::r,n=>gG low w r (n*w+(v-low).toNat)
abbrev KY (id:Nat) (vs:List Int):Prop:=vs.length=bQ id∧∀ v∈vs,bq id≤v∧v<bq id+aW id
theorem AC {low:Int}{w:Nat}:∀ {r:List Int}{n j:Nat},(∀ v∈r,low≤v∧v<low+w)→n<w ^ j→gG low w r n<w ^ (j+r.length)
 | [],n,j,_,h=>h
 | v::r,n,j,hr,h=>by
  have h1:=hr v (.head _);have h2:n*w+(v-low).toNat<w ^ (j+1):=by
   rw[Nat.pow_succ];have:(n+1)*w≤w ^ j*w:=Nat.mul_le_mul_right _ h;rw[Nat.add_mul]at this;omega
  have:=AC (r:=r) (fun q hq=>hr q (.tail _ hq)) h2;rw[gG,List.length_cons,show j+(r.length+1)=j+1+r.length by omega];exact this
theorem afH (id:Nat) (hid:eY id) (vs:List Int) (hl:vs.length=bQ id) (N:Nat):∀ (r:List Int) (i n:Nat),vs.drop i=r→(∀ v∈r,bq id≤v∧v<bq id+aW id)→n<aW id ^ i→
  (Dn prog).code (.loop nf) ⟨[(6,.ptr 0 0),(8,.d (.int .i64 n)),(26,.d (.lst (ai vs))),(27,.d (.int .i64 vs.length)),(28,.d (.int .i64 i))],⟨[(0,.cells [.d (.int .i64 (bQ id)),.d (.int .i64 (bq id)),.d (.int .i64 (bq id+aW id-1)),.d (.int .i64 (aG id))])],N⟩⟩ =
  some (.exit 1,⟨[(8,.d (.int .i64 (gG (bq id) (aW id) r n)))],⟨[],N⟩⟩):=by
 obtain⟨k1,k2,k3,k4,k5,k6,k7⟩:=gP id (c6 hid);have hmany:ax id=aW id ^ bQ id:=rfl;intro r
 induction r with
 | nil =>
  intro i n hd hr hn;have hi:=bg hd;rw[aa nf.eq_1,gG];simp (maxSteps:=300000) (disch:=omega) [↓if_neg]
 | cons v r ih =>
  intro i n hd hr hn;have hv:=hr v (.head _);have hg:=sP hd;have hlt:=bn hd;have hw:=aeS (bQ id) (bq id) (aG id) (aW id) (by omega) (by omega);have h2:n*aW id+(v-bq id).toNat<aW id ^ (i+1):=by
   rw[Nat.pow_succ];have:(n+1)*aW id≤aW id ^ i*aW id:=Nat.mul_le_mul_right _ hn;rw[Nat.add_mul]at this;omega
  have h3:aW id ^ (i+1)≤aW id ^ bQ id:=Nat.pow_le_pow_right (by omega) (by omega);have h5:=ih (i+1) (n*aW id+(v-bq id).toNat) (aT hd) (fun q hq=>hr q (.tail _ hq)) h2;have c1:((i+1:Nat):Int)=(i:Int)+1:=rfl;have h4:n*aW id≤300:=by omega
  have c2:((n*aW id+(v-bq id).toNat:Nat):Int)=(n:Int)*aW id+v-bq id:=by
   have:(((v-bq id).toNat:Nat):Int)=v-bq id:=by omega
   rw[Int.natCast_add,Int.natCast_mul,this];omega
  have h6:0≤(n:Int)*aW id∧(n:Int)*aW id≤300:=by
   have:(n:Int)*aW id=((n*aW id:Nat):Int):=by rw[Int.natCast_mul]
   omega
  rw[c1,c2]at h5;rw[aa nf.eq_1,gG,←h5];simp (maxSteps:=300000) (disch:=omega) [↓if_pos,↓if_neg,hg,hw]
theorem YV (id:Nat) (hid:eY id) (vs:List Int) (hv:KY id vs):aM prog ox [.d (.int .i64 id),.d (.lst (ai vs))]=some (.tup [.d (.int .i64 (gG (bq id) (aW id) vs 0)),.d (.int .i64 0)]):=by
 have ho:=IP id (c6 hid);have h:=afH id hid vs hv.1 1 vs 0 0 rfl hv.2 (by rw[Nat.pow_zero];omega);have c0:((0:Nat):Int)=0:=rfl;have hl:=hv.1;obtain⟨k1,k2,k3,k4,k5,k6,k7⟩:=gP id (c6 hid);simp only[Rt]at ho;rw[c0]at h;rw[az ajD BH.eq_1 rfl];simp (maxSteps:=300000) (disch:=omega) [↓if_pos,↓if_neg,ho,h]
theorem Ht:∀ id∈ids,(bF id).all (fun e=>decide (e<ax id))=true∧(bF id).length=ax id∧aG id≤2:=by decide +kernel
theorem ac4 {id e:Nat}(h:eY id) (he:e<ax id):nth (bF id) e<ax id:=by
 obtain⟨h1,h2,_⟩:=Ht id (c6 h);have:=List.all_eq_true.1 h1 _ (fk (l:=bF id) (i:=e) (by omega));simpa using this
def fS (id e:Nat):List Nat:=aj (nth (bF id) e / 2 ^ aG id+1) (2*bb (nth (bF id) e / 2 ^ aG id+1)-1)++aj (nth (bF id) e % 2 ^ aG id) (aG id)
theorem ax3 {n k P:Nat}(hP:2 ^ k=P) (hk:k≤62) (h:n<9223372036854775808):cZ .and (.d (.int .i64 (n:Int))) (.d (.int .i64 ((P:Int)-1)))=some (.int .i64 ((n % P:Nat):Int)):=by
 have h1:2 ^ k≤2 ^ 62:=Nat.pow_le_pow_right (by omega) hk;have h2:=Nat.two_pow_pos k;have:=ark (k:=.i64) (a:=n) (b:=2 ^ k-1) (by simpa [kB,IntKind.signed] using h) (by simp[kB,IntKind.signed];omega);rw[Nat.and_two_pow_sub_one_eq_mod]at this;subst hP;have c:((2 ^ k-1:Nat):Int)=((2 ^ k:Nat):Int)-1:=by omega
 rw[c]at this;exact this
theorem aex (id e:Nat) (hid:eY id) (he:e<ax id):aM prog mI [iX id,.d (.int .i64 e)]=some (.tup [.own true 1 (af (fS id e)),.d (.int .i64 0)]):=by
 have hr:=YX id hid;obtain⟨h1,h2,h3⟩:=Ht id (c6 hid);have hm:ax id≤300:=by have:=gP id (c6 hid);omega
 have hrk:=ac4 hid he;have hg:(bf (bF id))[e]?=some [.int .i64 (nth (bF id) e:Nat)]:=wA (by omega);unfold fS;simp only[iX]at hr⊢;generalize nth (bF id) e=r at *;have q1:=an6 (n:=r) (k:=aG id) (by omega);have q2:=NJ (m:=aG id) (by omega);have hP:1≤2 ^ aG id∧2 ^ aG id≤2 ^ 2:=⟨Nat.two_pow_pos _,Nat.pow_le_pow_right (by omega) h3⟩
 have hmod:r % 2 ^ aG id<2 ^ aG id:=Nat.mod_lt _ hP.1;have q3:=ax3 (n:=r) (k:=aG id) rfl (by omega) (by omega);have hdv:r / 2 ^ aG id≤r:=Nat.div_le_self _ _;have hr3:r<300:=by omega
 generalize hPP:2 ^ aG id=PP at *;generalize r / PP=RQ at *;generalize r % PP=RM at *;have q4:=ake (RQ+1) (by omega);have hL1:=AH (n:=RQ+1);have hL2:=mC (n:=RQ+1) (by omega);have hL9:bb (RQ+1)≤9:=by
  rcases Nat.lt_or_ge 9 (bb (RQ+1)) with h | h
  ·have:2 ^ 9≤2 ^ (bb (RQ+1)-1):=Nat.pow_le_pow_right (by omega) (by omega);omega
  ·exact h
 have hL0:1≤bb (RQ+1):=by unfold bb;rw[if_neg (by omega)];omega
 have hpw:2 ^ bb (RQ+1)≤2 ^ (2*bb (RQ+1)-1):=Nat.pow_le_pow_right (by omega) (by omega);have p1:=jq [] ((RQ+1:Nat):Int) ((2*bb (RQ+1)-1:Nat):Int) (by simp) (by omega) .nl (.inr ⟨rfl,rfl⟩);have ho1:np ((RQ+1:Nat):Int) ((2*bb (RQ+1)-1:Nat):Int):=by
  simp only[np,Int.toNat_natCast];generalize 2 ^ (2*bb (RQ+1)-1)=Z at *;omega
 rw[if_pos ho1]at p1;have p2:=fun b (hb:b.length≤900000000)=>jq b (RM:Int) ((aG id:Nat):Int) hb (by omega) _ (.inl rfl)
 have ho2:np (RM:Int) ((aG id:Nat):Int):=by simp only[np,Int.toNat_natCast,hPP];omega
 simp only[if_pos ho2]at p2;simp only[Int.toNat_natCast,List.nil_append]at p1 p2;have p3:=p2 (aj (RQ+1) (2*bb (RQ+1)-1)) (by simp;omega);have c1:((2*bb (RQ+1)-1:Nat):Int)=2*(bb (RQ+1):Int)-1:=by omega
 have c2:((RQ+1:Nat):Int)=(RQ:Int)+1:=rfl;rw[c1,c2]at p1;rw[c2]at q4;clear p2 hL1 hL2 hpw ho1 ho2;generalize aj (RQ+1) (2*bb (RQ+1)-1)++aj RM (aG id)=RES at *;generalize aj (RQ+1) (2*bb (RQ+1)-1)=RE1 at *;generalize bb (RQ+1)=LN at *;generalize aG id=pl at *;generalize aS id=es at *;rw[az ame Fh.eq_1 rfl];simp (maxSteps:=300000) (disch:=omega) [↓if_pos,↓if_neg,hr,hg,-gw,-nR,q1,q2,q3,q4,p1,p3]
theorem afs {a b:List Nat}:[[D.lst (af a)],[D.lst (af b)]]=tz [a,b]:=rfl
theorem an1 {a b c d:List Nat}:[[D.lst (af a)],[D.lst (af b)],[D.lst (af c)],[D.lst (af d)]]=tz [a,b,c,d]:=rfl
theorem sA {id e:Nat}(hid:eY id) (he:e<ax id):1≤(fS id e).length∧(fS id e).length≤20:=by
 obtain⟨h1,h2,h3⟩:=Ht id (c6 hid);have hm:ax id≤300:=by have:=gP id (c6 hid);omega
 have hrk:=ac4 hid he;have hdv:nth (bF id) e / 2 ^ aG id≤nth (bF id) e:=Nat.div_le_self _ _;unfold fS;rw[List.length_append,d9,d9];generalize nth (bF id) e / 2 ^ aG id=RQ at *;have hL2:=mC (n:=RQ+1) (by omega);have hL9:bb (RQ+1)≤9:=by
  rcases Nat.lt_or_ge 9 (bb (RQ+1)) with h | h
  ·have:2 ^ 9≤2 ^ (bb (RQ+1)-1):=Nat.pow_le_pow_right (by omega) (by omega);omega
  ·exact h
 have hL0:1≤bb (RQ+1):=by unfold bb;rw[if_neg (by omega)];omega
 omega
theorem afq (b:List Nat) (hb:b.length≤900000000) (x:AV) (hx:x=.d (.lst (af b))∨x=.nl∧b=[]) (d:Int) (hd:-60≤d∧d≤60):aM prog xn [x,.d (.int .i64 d)]=some (.tup [.own true 1 (af (b++fS 12 (d+60).toNat)),.d (.int .i64 0)]):=by
 obtain⟨E,rfl⟩:∃ E:Nat,d=(E:Int)-60:=⟨(d+60).toNat,by omega⟩
 have hok:eY 12:=by omega
 have he:((E:Int)-60+60).toNat<ax 12:=by show _<121;omega
 have hE:=YV 12 hok [(E:Int)-60] ⟨rfl,fun v hv=>by
  rw[List.mem_singleton]at hv;show -60≤v∧v < -60+((121:Nat):Int);omega⟩
 have e1:gG (bq 12) (aW 12) [(E:Int)-60] 0=((E:Int)-60+60).toNat:=by
  show 0*121+((E:Int)-60-(-60)).toNat=_;omega
 have e2:((E:Int)-60+60).toNat=E:=by omega
 rw[e2]at e1 he⊢;rw[e1]at hE;have hG:=TZ 12 hok;have hC:=aex 12 E hok he;have hcl:=sA hok he;have hcat:=ajT [b,fS 12 E] (by simp) (by simp;omega);have c12:((12:Nat):Int)=12:=rfl;have i1:ai [(E:Int)-60]=[[.int .i64 ((E:Int)-60)]]:=rfl;simp only[Nw,iX,c12,i1,List.flatten_cons,List.flatten_nil,List.append_nil]at hE hG hC hcat;rw[←afs]at hcat;generalize fS 12 E=CB at *;generalize aS 12=es at *;generalize bF 12=rs at *;generalize aG 12=pl at *;rw[az alE EB.eq_1 rfl];rcases hx with rfl | ⟨rfl,rfl⟩
 ·simp (maxSteps:=300000) (disch:=omega) [↓if_pos,↓if_neg,hE,hG,hC,hcat]
 ·have n0:af []=[]:=rfl;rw[n0]at hcat;simp (maxSteps:=300000) (disch:=omega) [↓if_pos,↓if_neg,hE,hG,hC,hcat]
theorem SC (F:AV) (P:Int→Bool) (l:List Int) (hl:l.length≤1000000000) (h:ac) (N:Nat) (hF:firm (share F)=F) (hc:∀ v∈l,bc (Dn prog) F [.d (.int .i64 v)] ⟨h,N⟩=some (.d (.bool (P v)),⟨h,N⟩)):∀ (r:List Int) (i:Nat),l.drop i=r→
  (r.any P=true∧∃ k:Nat,(Dn prog).code (.loop bN) ⟨[(0,.d (.lst (ai l))),(1,F),(7,.d (.int .i64 l.length)),(8,.d (.int .i64 i))],⟨h,N⟩⟩=some (.ret,⟨[(4,.d (.int .i64 k))],⟨h,N⟩⟩))∨
  (r.any P=false∧(Dn prog).code (.loop bN) ⟨[(0,.d (.lst (ai l))),(1,F),(7,.d (.int .i64 l.length)),(8,.d (.int .i64 i))],⟨h,N⟩⟩=some (.exit 0,⟨[],⟨h,N⟩⟩)):=by
 intro r
 induction r with
 | nil =>
  intro i hd;have hi:=bg hd;refine .inr ⟨rfl,?_⟩;rw[aa bN.eq_1];simp (maxSteps:=300000) (disch:=omega) [↓if_neg]
 | cons v r ih =>
  intro i hd;have hg:=sP hd;have hlt:=bn hd;have hv:=hc v (by rw[←List.take_append_drop i l,hd];simp);have h5:=ih (i+1) (aT hd);have c1:((i+1:Nat):Int)=(i:Int)+1:=rfl;rw[c1]at h5
  cases hp:P v with
  | true =>
   rw[hp]at hv;refine .inl ⟨by rw[List.any_cons,hp];rfl,i,?_⟩;rw[aa bN.eq_1];simp (maxSteps:=300000) (disch:=omega) [↓if_pos,↓if_neg,hg,hF,hv]
  | false =>
   rw[hp]at hv;rw[List.any_cons,hp,Bool.false_or];rcases h5 with ⟨e1,k,e2⟩ | ⟨e1,e2⟩
   ·refine .inl ⟨e1,k,?_⟩;rw[aa bN.eq_1,←e2];simp (maxSteps:=300000) (disch:=omega) [↓if_pos,↓if_neg,hg,hF,hv]
   ·refine .inr ⟨e1,?_⟩;rw[aa bN.eq_1,←e2];simp (maxSteps:=300000) (disch:=omega) [↓if_pos,↓if_neg,hg,hF,hv]
theorem rO (F:AV) (P:Int→Bool) (l:List Int) (hl:l.length≤1000000000) (h:ac) (N:Nat) (hF:firm (share F)=F) (hF2:firm F=F) (hc:∀ v∈l,bc (Dn prog) F [.d (.int .i64 v)] ⟨h,N⟩=some (.d (.bool (P v)),⟨h,N⟩)) :
  (Dn prog).call cj [.d (.lst (ai l)),F] ⟨h,N⟩=some (.d (.bool (l.any P)),⟨h,N⟩):=by
 have h1:=SC F P l hl h N hF hc l 0 rfl;have c0:((0:Nat):Int)=0:=rfl;rw[c0]at h1;have h2:∃ k:Int,(0≤k↔l.any P=true)∧(Dn prog).call jS [.d (.lst (ai l)),F] ⟨h,N⟩=some (.d (.int .i64 k),⟨h,N⟩):=by
  rcases h1 with ⟨e1,k,e2⟩ | ⟨e1,e2⟩
  ·refine⟨k,⟨fun _=>e1,fun _=>by omega⟩,?_⟩;rw[aD pq gv.eq_1 rfl];simp (maxSteps:=300000) (disch:=omega) [e2]
  ·refine⟨-1,⟨fun h=>by omega,fun h=>by rw[e1]at h;exact absurd h (by simp)⟩,?_⟩;rw[aD pq gv.eq_1 rfl];simp (maxSteps:=300000) (disch:=omega) [e2]
 obtain⟨k,e1,e2⟩:=h2;rw[aD yT iQ.eq_1 rfl]
 cases hp:l.any P with
 | true =>
  have:=e1.2 hp;simp (maxSteps:=300000) (disch:=omega) [↓if_pos,hF2,e2]
 | false =>
  have:¬ 0≤k:=fun h=>by rw[e1.1 h]at hp;exact absurd hp (by simp)
  simp (maxSteps:=300000) (disch:=omega) [↓if_neg,hF2,e2]
def di (id:Nat):Nat:=[0,1,1,2,2,4,4,7,7,12,12,8191,0].getD id 0
abbrev auC:List AV:=[.d (.int .i64 0),.d (.int .i64 1),.d (.int .i64 1),.d (.int .i64 2),.d (.int .i64 2),.d (.int .i64 4),.d (.int .i64 4),.d (.int .i64 7),.d (.int .i64 7),.d (.int .i64 12),.d (.int .i64 12),.d (.int .i64 8191),.d (.int .i64 0)]
theorem afZ:aM prog Dv []=some (.agg auC):=sn 100 (by kernel_rfl)
theorem avN {id:Nat}(h:id≤12):ixV 13 1 false (.agg auC) (.d (.int .i64 id))=some (.d (.int .i64 (di id))):=by
 obtain rfl | rfl | rfl | rfl | rfl | rfl | rfl | rfl | rfl | rfl | rfl | rfl | rfl:id=0∨id=1∨id=2∨id=3∨id=4∨id=5∨id=6∨id=7∨id=8∨id=9∨id=10∨id=11∨id=12:=by omega
 all_goals rfl
def aI (id:Nat):Nat:=if id<5 then 4 else 2
theorem aub (id:Nat):aM prog IA [.d (.int .i64 id)]=some (.d (.int .i64 (aI id))):=by
 rw[az ao4 HR.eq_1 rfl];unfold aI;by_cases h:id<5
 ·simp (disch:=omega) [↓if_pos]
 ·simp (disch:=omega) [↓if_neg]
def EA (m:Nat) (v:Int):Bool:=decide ((m:Int)<v∨v < -(m:Int))
theorem ay1 (m:Nat) (hm:m≤100000) (v:Int) (N:Nat):(Dn prog).call qk [.d (.int .i64 v),.ptr 0 0] ⟨[(0,.cells [.d (.int .i64 m)])],N⟩=some (.d (.bool (EA m v)),⟨[(0,.cells [.d (.int .i64 m)])],N⟩):=by
 rw[aD afU yn.eq_1 rfl];unfold EA;by_cases h1:(m:Int)<v
 ·simp (maxSteps:=300000) (disch:=omega) [↓if_pos,h1]
 ·by_cases h2:v < -(m:Int)
  ·simp (maxSteps:=300000) (disch:=omega) [↓if_pos,↓if_neg,h1,h2]
  ·simp (maxSteps:=300000) (disch:=omega) [↓if_pos,↓if_neg,h1,h2]
theorem Lk (id:Nat) (hid:1≤id∧id≤11) (vs:List Int) (hv:vs.length=aI id):aM prog xl [.d (.int .i64 id),.d (.lst (ai vs))]=some (.tup [.d (.bool (!(vs.any (EA (di id))))),.d (.int .i64 0)]):=by
 have hm:di id≤100000:=by
  obtain rfl | rfl | rfl | rfl | rfl | rfl | rfl | rfl | rfl | rfl | rfl:id=1∨id=2∨id=3∨id=4∨id=5∨id=6∨id=7∨id=8∨id=9∨id=10∨id=11:=by omega
  all_goals decide
 have hd4:aI id≤4:=by unfold aI;split<;>omega
 have h1:=rO (.fn qk [] [.ptr 0 0]) (EA (di id)) vs (by omega) [(0,.cells [.d (.int .i64 (di id))])] 1 rfl rfl fun v _=>by
  simp (maxSteps:=300000) (disch:=omega) [ay1 (di id) hm v 1]
 have h2:=avN (id:=id) (by omega);have h3:=aub id;rw[az al3 Fb.eq_1 rfl];simp (maxSteps:=300000) (disch:=omega) [↓if_pos,↓if_neg,h3,afZ,h2,h1]
def fK (id:Nat) (v:Int):Int:=if id=11∧16≤v.natAbs then 16 else v.natAbs
def ka (v:Int):List Nat:=if v=0 then [] else if v<0 then [1] else [0]
def og (id:Nat) (v:Int):List Nat:=if id=11∧16≤v.natAbs then List.replicate (bb v.natAbs-5) 1++(0::aj (v.natAbs % 2 ^ (bb v.natAbs-1)) (bb v.natAbs-1)) else []
def xk (id:Nat) (vs:List Int):List Nat:=if fZ id then fS id (gG (bq id) (aW id) vs 0)
 else fS id (gG (bq id) (aW id) (vs.map (fK id)) 0)++(vs.flatMap ka++vs.flatMap (og id))
theorem aqc (v:Int) (h:-100000≤v∧v≤100000):aM prog Fc [.d (.int .i64 v)]=some (.d (.int .i64 v.natAbs)):=by
 rw[az alv D9.eq_1 rfl];by_cases h0:v<0
 ·have:((v.natAbs:Nat):Int)=-v:=by omega
  rw[this];simp (disch:=omega) [↓if_pos]
 ·have:((v.natAbs:Nat):Int)=v:=by omega
  rw[this];simp (disch:=omega) [↓if_neg]
theorem asB:∀ m∈List.range 9,aM prog sf [.d (.lst [[.int .u8 1]]),.d (.int .i64 m)]=some (.own true 1 (af (List.replicate m 1))):=Bl 100 (List.range 9) (by kernel_rfl)
theorem arG {m:Nat}{h:ac}{xs ys:List (List D)}(hl:xs.length+ys.length≤1000000000):∃ v,cf m h (au m xs) ys=some (v,h)∧firm v=au m (xs++ys):=by
 cases xs with
 | nil =>
  cases ys with
  | nil=>exact⟨.nl,rfl,rfl⟩
  | cons y r =>
   simp only[List.length_cons,List.length_nil]at hl;exact⟨.own true m (y::r),by simp (disch:=omega) [au,↓if_pos],rfl⟩
 | cons x r =>
  exact⟨.own false m (x::r++ys),by
   grind [afl,ant,ac5,amR,anl,aq],rfl⟩
theorem av9 {v:Int}(h:-100000≤v∧v<0):wr .u64 v=v+18446744073709551616:=by
 grind [wr,jp,IntKind.wrap,IntKind.bits,IntKind.signed]
theorem alh (id:Nat) (hid:1≤id∧id≤11) (pl ents ranks:D) (x0:AV) (vs:List Int) (hl:vs.length≤4) (N:Nat):∀ (r:List Int) (i:Nat) (sz:List Int) (sg es:List Nat),vs.drop i=r→(∀ v∈r,v.natAbs≤8191)→sz.length≤100+i→sg.length≤100+i→es.length≤100+100*i→
  (Dn prog).code (.loop mq) ⟨[(0,x0),(4,.ptr 0 0),(15,au 1 (ai sz)),(16,au 1 (af sg)),(17,au 1 (af es)),(69,.d (.lst (ai vs))),(70,.d (.int .i64 vs.length)),(71,.d (.int .i64 i))],⟨[(0,.cells [.d (.int .i64 id),.d pl,.d ents,.d ranks])],N⟩⟩ =
  some (.exit 0,⟨[(0,x0),(4,.ptr 0 0),(15,au 1 (ai (sz++r.map (fK id)))),(16,au 1 (af (sg++r.flatMap ka))),(17,au 1 (af (es++r.flatMap (og id))))],⟨[(0,.cells [.d (.int .i64 id),.d pl,.d ents,.d ranks])],N⟩⟩):=by
 intro r
 induction r with
 | nil =>
  intro i sz sg es hd hr h1 h2 h3;have hi:=bg hd;rw[aa mq.eq_1];simp (disch:=omega) [↓if_neg]
 | cons v r ih =>
  intro i sz sg es hd hr h1 h2 h3;have hg:=sP hd;have hlt:=bn hd;have hv:=hr v (.head _);have hs:=aqc v (by omega);have c1:((i+1:Nat):Int)=(i:Int)+1:=rfl;have hlg:=eg (l:=sg);have hle:=eg (l:=es);have hsz:=eq (l:=sz);obtain⟨n,hn⟩:∃ n,n=v.natAbs:=⟨_,rfl⟩
  rw[←hn]at hs hv;have hvs:Xk .u64 (.d (.int .i64 v))=some (.int .u64 (wr .u64 v)):=rfl;have hpos:0<v→cZ .shr (.d (.int .u64 v)) (.d (.int .u64 63))=some (.int .u64 0):=fun h=>by
   rw[gw (by omega)];have:min ((63:Int)).toNat IntKind.u64.bits=63:=rfl
   grind
  have hneg:v<0→cZ .shr (.d (.int .u64 (wr .u64 v))) (.d (.int .u64 63))=some (.int .u64 1):=fun h=>by
   rw[av9 (by omega),gw (by omega)];have:min ((63:Int)).toNat IntKind.u64.bits=63:=rfl
   grind
  have hb1:af sg++[[D.int .u8 1]]=af (sg++[1]):=by simp[af]
  have hb0:af sg++[[D.int .u8 0]]=af (sg++[0]):=by simp[af]
  by_cases he:id=11∧16≤v.natAbs
  ·obtain⟨h11,h16⟩:=he;rw[←hn]at h16;have hL1:=AH (n:=n);have hL2:=mC (n:=n) (by omega);have hL13:bb n≤13:=by
    rcases Nat.lt_or_ge 13 (bb n) with h | h
    ·have:2 ^ 13≤2 ^ (bb n-1):=Nat.pow_le_pow_right (by omega) (by omega);omega
    ·exact h
   have hL5:5≤bb n:=by
    rcases Nat.lt_or_ge (bb n) 5 with h | h
    ·have:2 ^ bb n≤2 ^ 4:=Nat.pow_le_pow_right (by omega) (by omega);omega
    ·exact h
   obtain⟨m,hm⟩:∃ m,bb n=m+5:=⟨bb n-5,by omega⟩
   have e1:fK id v=16:=by grind [fK]
   have e2:og id v=List.replicate m 1++(0::aj (n % 2 ^ (m+4)) (m+4)):=by
    grind [og]
   have hl2:=ake n (by omega);have hrp:=asB m (List.mem_range.2 (by omega));have hlr:(af (List.replicate m 1)).length=m:=by simp_all
   obtain⟨w,hw1,hw2⟩:=arG (m:=1) (h:=[(0,.cells [.d (.int .i64 id),.d pl,.d ents,.d ranks])]) (xs:=af es) (ys:=af (List.replicate m 1)) (by omega);have hbe:af es++af (List.replicate m 1)=af (es++List.replicate m 1):=aiW;rw[hbe]at hw2;have hlw:(af (es++List.replicate m 1)).length=es.length+m:=by simp_all
   have hbw:af (es++List.replicate m 1)++[[D.int .u8 0]]=af (es++List.replicate m 1++[0]):=by simp[af]
   have hp4:2 ^ (m+4)≤2 ^ 12:=Nat.pow_le_pow_right (by omega) (by omega);have hmod:n % 2 ^ (m+4)<2 ^ (m+4):=Nat.mod_lt _ (Nat.two_pow_pos _);have q2:=NJ (m:=m+4) (by omega);have q3:=ax3 (n:=n) (k:=m+4) rfl (by omega) (by omega);have p1:=jq (es++List.replicate m 1++[0]) ((n % 2 ^ (m+4):Nat):Int) ((m+4:Nat):Int) (by grind) (by omega) _ (.inl rfl);rw[if_pos (by grind)]at p1;simp only[Int.toNat_natCast]at p1;have c4:((m+4:Nat):Int)=(m:Int)+4:=rfl;have c5:((m+5:Nat):Int)=(m:Int)+5:=rfl;rw[hm,c5]at hl2;rw[c4]at p1 q2;have h5:=fun s2 (h:s2.length≤101+i)=>ih (i+1) (sz++[16]) s2 (es++List.replicate m 1++[0]++aj (n % 2 ^ (m+4)) (m+4)) (aT hd) (fun q hq=>hr q (.tail _ hq)) (by grind) (by omega) (by simp;omega)
   generalize n % 2 ^ (m+4)=RM at *;generalize 2 ^ (m+4)=PP at *;have eo:au 1 (ai (sz++[16]))=.own false 1 (ai (sz++[16])):=lE (by simp[ai]);have eo3:au 1 (af (es++List.replicate m 1++[0]++aj RM (m+4)))=.own false 1 (af (es++List.replicate m 1++[0]++aj RM (m+4))):=lE (by simp[af]);have eL:es++List.replicate m 1++[0]++aj RM (m+4)++r.flatMap (og id)=es++(List.replicate m 1++(0::aj RM (m+4))++r.flatMap (og id)):=by simp
   simp only[eo3,eL]at h5;generalize es++List.replicate m 1++[0]++aj RM (m+4)=ES at *;generalize es++List.replicate m 1++[0]=E0 at *;generalize es++List.replicate m 1=EM at *;simp only[c1,eo,List.append_assoc,List.singleton_append]at h5;rw[aa mq.eq_1,List.map_cons,List.flatMap_cons,List.flatMap_cons,e1,e2];have v0:v≠0:=by omega
   by_cases hvn:v<0
   ·have e3:ka v=[1]:=by grind [ka]
    have eo2:au 1 (af (sg++[1]))=.own false 1 (af (sg++[1])):=lE (by simp[af]);have h6:=h5 (sg++[1]) (by grind);simp only[eo2,List.append_assoc,List.singleton_append]at h6;rw[e3,List.singleton_append];simp only[List.append_assoc,List.cons_append]at h6⊢;rw[←h6];simp (disch:=omega) [↓if_pos,↓if_neg,hg,hs,-gw,-nR,hneg hvn,hb1,hl2,hrp,hw1,hw2,hbw,q2,q3,p1]
   ·have hvp:0<v:=by omega
    have e3:ka v=[0]:=by grind [ka]
    have eo2:au 1 (af (sg++[0]))=.own false 1 (af (sg++[0])):=lE (by simp[af]);have h6:=h5 (sg++[0]) (by grind);simp only[eo2,List.append_assoc,List.singleton_append]at h6;rw[e3,List.singleton_append];simp only[List.append_assoc,List.cons_append]at h6⊢;rw[←h6];simp (disch:=omega) [↓if_pos,↓if_neg,hg,hs,-gw,-nR,hpos hvp,hb0,hl2,hrp,hw1,hw2,hbw,q2,q3,p1]
  ·have e1:fK id v=n:=by grind [fK]
   have e2:og id v=[]:=by grind [og]
   have h5:=fun s2 (h:s2.length≤101+i)=>ih (i+1) (sz++[(n:Int)]) s2 es (aT hd) (fun q hq=>hr q (.tail _ hq)) (by grind) (by omega) (by omega)
   have eo:au 1 (ai (sz++[(n:Int)]))=.own false 1 (ai (sz++[(n:Int)])):=lE (by simp[ai]);simp only[c1,eo,List.append_assoc,List.singleton_append]at h5;rw[aa mq.eq_1,List.map_cons,List.flatMap_cons,List.flatMap_cons,e1,e2,List.nil_append];have hen:¬ (id=11∧16≤n):=by omega
   by_cases v0:v=0
   ·have e3:ka v=[]:=by grind [ka]
    rw[e3,List.nil_append,←h5 sg (by omega)];by_cases h11:id=11
    ·simp (disch:=omega) [↓if_pos,↓if_neg,hg,hs]
    ·simp (disch:=omega) [↓if_pos,↓if_neg,hg,hs]
   ·by_cases hvn:v<0
    ·have e3:ka v=[1]:=by grind [ka]
     have eo2:au 1 (af (sg++[1]))=.own false 1 (af (sg++[1])):=lE (by simp[af]);have h6:=h5 (sg++[1]) (by grind);simp only[eo2,List.append_assoc,List.singleton_append]at h6;rw[e3,List.singleton_append,←h6];by_cases h11:id=11
     ·simp (disch:=omega) [↓if_pos,↓if_neg,hg,hs,-gw,hneg hvn,hb1]
     ·simp (disch:=omega) [↓if_pos,↓if_neg,hg,hs,-gw,hneg hvn,hb1]
    ·have hvp:0<v:=by omega
     have e3:ka v=[0]:=by grind [ka]
     have eo2:au 1 (af (sg++[0]))=.own false 1 (af (sg++[0])):=lE (by simp[af]);have h6:=h5 (sg++[0]) (by grind);simp only[eo2,List.append_assoc,List.singleton_append]at h6;rw[e3,List.singleton_append,←h6];by_cases h11:id=11
     ·simp (disch:=omega) [↓if_pos,↓if_neg,hg,hs,-gw,hpos hvp,hb0]
     ·simp (disch:=omega) [↓if_pos,↓if_neg,hg,hs,-gw,hpos hvp,hb0]
theorem tD:∀ id∈ids.take 11,(fZ id=true→bq id=-(di id:Int)∧aW id=2*di id+1)∧(fZ id=false→bq id=0∧(id≠11→aW id=di id+1)∧(id=11→aW id=17))∧bQ id=aI id∧di id≤8191:=by decide +kernel
theorem No {id:Nat}(h:1≤id∧id≤11):id∈ids.take 11:=by
 show id∈[1,2,3,4,5,6,7,8,9,10,11];simp only[List.mem_cons,List.not_mem_nil,or_false];omega
abbrev K5 (id:Nat) (vs:List Int):Prop:=vs.length=aI id∧∀ v∈vs,v.natAbs≤di id
theorem axf {id:Nat}{vs:List Int}(h:∀ v∈vs,v.natAbs≤di id):vs.any (EA (di id))=false:=by
 grind [EA]
theorem Hs {id:Nat}(hid:1≤id∧id≤11) {vs:List Int}(h:K5 id vs):(fZ id=true→KY id vs)∧(fZ id=false→KY id (vs.map (fK id))):=by
 grind [tD,No,fK]
theorem akH {vs:List Int}:(vs.flatMap ka).length≤vs.length:=by
 induction vs<;>grind [ka]
theorem avd {id:Nat}{v:Int}(h:v.natAbs≤8191):(og id v).length≤30:=by
 unfold og;split
 ·have hL2:v.natAbs≠0→2 ^ (bb v.natAbs-1)≤v.natAbs:=mC;have hL13:bb v.natAbs≤13:=by
   rcases Nat.lt_or_ge 13 (bb v.natAbs) with h | h
   ·have:2 ^ 13≤2 ^ (bb v.natAbs-1):=Nat.pow_le_pow_right (by omega) (by omega);omega
   ·exact h
  grind [d9]
 ·simp
theorem RK {id:Nat}:∀ {vs:List Int},(∀ v∈vs,v.natAbs≤8191)→(vs.flatMap (og id)).length≤30*vs.length
 | [],_=>by simp
 | v::r,h=>by
  have h1:=avd (id:=id) (h v (.head _));have h2:=RK (id:=id) (vs:=r) fun q hq=>h q (.tail _ hq)
  grind
theorem atz (b:List Nat) (hb:b.length≤900000000) (x:AV) (hx:x=.d (.lst (af b))∨x=.nl∧b=[]) (id:Nat) (hid:1≤id∧id≤11) (vs:List Int) (hv:K5 id vs):aM prog Au [x,iX id,.d (.lst (ai vs))]=some (.tup [.own true 1 (af (b++xk id vs)),.d (.int .i64 0)]):=by
 have hok:eY id:=by omega
 have hF:=Lk id hid vs hv.1;rw[axf hv.2]at hF;have hS:=Nd id (No hid);obtain⟨m1,m2,m3,m4⟩:=tD id (No hid);obtain⟨f1,f2⟩:=Hs hid hv;have hE:=YV id hok;have hC:=fun e he=>aex id e hok he
 have hd4:aI id≤4:=by grind [aI]
 have hvl:=hv.1;have hv8:∀ v∈vs,v.natAbs≤8191:=fun v h=>Nat.le_trans (hv.2 v h) m4
 simp only[iX]at hC⊢;have hmany:ax id=aW id ^ bQ id:=rfl;unfold xk;by_cases hs:fZ id=true
 ·rw[hs]at hS;have hin:=f1 hs;have hE:=hE vs hin;have hlt:=AC (n:=0) (j:=0) hin.2 (by simp);rw[Nat.zero_add,hin.1,←hmany]at hlt;have hC:=hC _ hlt;have hcl:=sA hok hlt;have hcat:=ajT [b,fS id (gG (bq id) (aW id) vs 0)] (by simp) (by grind);simp only[List.flatten_cons,List.flatten_nil,List.append_nil]at hcat;rw[←afs]at hcat;rw[if_pos hs];generalize fS id (gG (bq id) (aW id) vs 0)=CB at *;generalize gG (bq id) (aW id) vs 0=EN at *;generalize aS id=es at *;generalize bF id=rs at *;generalize aG id=pl at *;rw[az Wc zZ.eq_1 rfl];rcases hx with rfl | ⟨rfl,rfl⟩
  ·simp (disch:=omega) [↓if_pos,hF,hS,hE,hC,hcat]
  ·have n0:af []=[]:=rfl;rw[n0]at hcat;simp (disch:=omega) [↓if_pos,hF,hS,hE,hC,hcat]
 ·have hs2:fZ id=false:=by simp_all
  rw[hs2]at hS;have hin:=f2 hs2;have hE:=hE _ hin;have hlt:=AC (n:=0) (j:=0) hin.2 (by simp);rw[Nat.zero_add,hin.1,←hmany]at hlt;have hC:=hC _ hlt;have hcl:=sA hok hlt;have hsl:=akH (vs:=vs);have hel:=RK (id:=id) hv8;have hcat:=ajT [b,fS id (gG (bq id) (aW id) (vs.map (fK id)) 0),vs.flatMap ka,vs.flatMap (og id)] (by simp) (by grind);simp only[List.flatten_cons,List.flatten_nil,List.append_nil]at hcat;rw[←an1]at hcat;have hl0:=fun x0=>alh id hid (.int .i64 (aG id)) (.lst (bf (aS id))) (.lst (bf (bF id))) x0 vs (by omega) 1 vs 0 [] [] [] rfl hv8 (by simp) (by simp) (by simp)
  have c0:((0:Nat):Int)=0:=rfl;have n0:af []=[]:=rfl;have n1:ai []=[]:=rfl;have hne:ai (vs.map (fK id))≠[]:=by
   grind [ai,List.length_nil,aI]
  simp only[n0,n1,ky,List.nil_append,c0,lE hne]at hl0;rw[if_neg hs];generalize fS id (gG (bq id) (aW id) (vs.map (fK id)) 0)=CB at *;generalize gG (bq id) (aW id) (vs.map (fK id)) 0=EN at *;generalize aS id=es at *;rw[az Wc zZ.eq_1 rfl];rcases hx with rfl | ⟨rfl,rfl⟩
  ·simp (disch:=omega) [↓if_pos,hF,hS,hl0,hE,hC,hcat]
  ·rw[n0]at hcat;simp (disch:=omega) [↓if_pos,hF,hS,hl0,hE,hC,hcat]
def kN (k n w z:Int):List Nat:=if k=0 then [] else if k=13 then (if z<0 then aj n.toNat 9 else fS 12 (n-z+60).toNat) else fS 12 (n-w+60).toNat
def kx:List Int→List Int→Int→Int→List Nat
 | k::r,n::t,w,z=>kN k n w z++kx r t (fF k n w z).1 (fF k n w z).2
 | _,_,_,_=>[]
def kp:List (List am)→List (List Int)→Int→Int→List Nat
 | l::r,t::s,w,z=>kx (ak l) t w z++(match bH (ak l) t w z with
  | some (w,z)=>kp r s w z
  | none=>[])
 | _,_,_,_=>[]
theorem afA {k n w z:Int}(h:k≠0→gI k n w z):(kN k n w z).length≤20:=by
 unfold kN;by_cases h0:k=0
 ·simp_all
 ·have hok:eY 12:=by omega
  have hc:=fun e (he:e<121)=>(sA (id:=12) (e:=e) hok he).2
  by_cases h13:k=13
  ·by_cases hz:z<0
   ·simp_all
   grind
  grind
structure LP (F:Obj→AV→Int→Int→ac) (ss:List (List Int)) (g:Int) (L N:Nat):Prop where
 gl:∀ q v w z,get (F q v w z) L=some q
 pl:∀ q v w z q',put (F q v w z) L q'=F q' v w z
 g0:∀ q v w z,get (F q v w z) 0=some (.cells [v])
 p0:∀ q v w z v',put (F q v w z) 0 (.cells [v'])=F q v' w z
 g1:∀ q v w z,get (F q v w z) 1=some (.cells [.d (.lst (bu ss))])
 g2:∀ q v w z,get (F q v w z) 2=some (.cells [.d (.int .i64 w),.d (.int .i64 z)])
 p2:∀ q v w z w' z',put (F q v w z) 2 (.cells [.d (.int .i64 w'),.d (.int .i64 z')])=F q v w' z'
 g3:∀ q v w z,get (F q v w z) 3=some (.cells [.ptr 2 0])
 gN:∀ q v w z,get (F q v w z) N=some (.cells [.d (.int .i64 g)])
abbrev aDd (gs:List (List am)) (g N:Nat):ao:=[(4,.ptr 0 0),(7,.ptr 1 0),(11,.ptr 3 0),(12,.ptr N 0),(32,.d (.lst (aK gs))),(33,.d (.int .i64 gs.length)),(34,.d (.int .i64 g)),(40,.fn dH [] [.ptr (N+1) 0])]
abbrev ah5 (gs:List (List am)) (g N:Nat):Obj:=.loop (aDd gs g N) [41,42] jk jf false none
theorem aAx {F:Obj→AV→Int→Int→ac}{L:Nat}(ss:List (List Int)) (hss:ss.length≤1000) (gs:List (List am)) (hgs:gs.length≤1000) (g N:Nat) (H:LP F ss g L N) (t:List Int) (ht:t.length≤100000) (hg:(bu ss)[g]?=some [.lst (ai t)]) (a:Nat) (k:Int) (b:List Nat) (hb:b.length≤800000000) (w z:Int) (M:Nat) (n:Int) (r:List Int) (hd:t.drop a=n::r) (h0:k=0→n=0) (h1:k≠0→gI k n w z) (hk:0≤k∧k≤13) (hw:my w) (hz:my z) :
  bc (Dn prog) (.yield L) [.d (.int .i64 (a:Int)),.d (.int .i64 k)] ⟨F (ah5 gs g N) (.own false 1 (af b)) w z,M⟩=some (.d (.bool true),⟨F (ah5 gs g N) (.own false 1 (af (b++kN k n w z))) (fF k n w z).1 (fF k n w z).2,M⟩):=by
 have ha:=bn hd;have hn:=sP hd;have gl:g<ss.length:=by
  obtain⟨h,_⟩:=List.getElem?_eq_some_iff.1 hg;simpa using h
 have T:=fun q v=>HC (hp:=fun w z=>F q v w z) (A:=2) ⟨fun s z=>H.g2 q v s z,fun s z s' z'=>H.p2 q v s z s' z'⟩ k n w z M
 by_cases k0:k=0
 ·have:=h0 k0;subst k0 this;simp (disch:=omega) [jk,jf,↓if_pos,↓if_neg,hg,hn,H.gl,H.pl,H.g1,H.gN,fF,kN];rfl
 ·have hT:=h1 k0;have hn5:=KU hT;have T:=fun q v=>T q v (by omega) (by omega) (by omega)
  simp only[if_pos hT]at T;have e:(fF k n w z)=if k=13 then (w,n) else (n,z):=by rw[fF,if_neg k0]
  have es:kN k n w z=if k=13 then (if z<0 then aj n.toNat 9 else fS 12 (n-z+60).toNat) else fS 12 (n-w+60).toNat:=by grind [kN]
  unfold gI at hT;by_cases k13:k=13
  ·rw[if_pos k13]at hT;rw[e,if_pos k13,es,if_pos k13];simp only[if_pos k13]at T;subst k13;by_cases hz0:z<0
   ·rw[if_pos hz0];have p1:=jq b n 9 (by omega) (by omega) _ (.inl rfl);have c9:(9:Int).toNat=9:=rfl;rw[if_pos (by grind),c9]at p1;simp (disch:=omega) [jk,jf,↓if_pos,↓if_neg,hg,hn,H.gl,H.pl,H.g0,H.p0,H.g1,H.g2,H.g3,H.gN,T,p1];rfl
   ·have p1:=afq b (by omega) _ (.inl rfl) (n-z) (by omega);simp (disch:=omega) [jk,jf,↓if_pos,↓if_neg,hg,hn,H.gl,H.pl,H.g0,H.p0,H.g1,H.g2,H.g3,H.gN,T,p1];rfl
  ·rw[if_neg k13]at hT;rw[e,if_neg k13,es,if_neg k13];have p1:=afq b (by omega) _ (.inl rfl) (n-w) (by omega);simp (disch:=omega) [jk,jf,↓if_neg,hg,hn,H.gl,H.pl,H.g0,H.p0,H.g1,H.g2,H.g3,H.gN,T,p1];rfl
abbrev FP (ss:List (List Int)) (g N:Nat) (l:List am) (T:ac) (q:Obj) (v:AV) (w z:Int):ac :=
 (0,.cells [v])::(1,.cells [.d (.lst (bu ss))])::(2,.cells [.d (.int .i64 w),.d (.int .i64 z)])::(3,.cells [.ptr 2 0])::(N,.cells [.d (.int .i64 g)])::(N+1,.cells [.d (.lst (dA l))])::(N+1+1,q)::T
theorem az2 {ss:List (List Int)}{g N:Nat}{l:List am}{T:ac}(hN:4≤N):LP (FP ss g N l T) ss g (N+1+1) N:=by
 constructor<;>intro q m w z<;>(try intro q')<;>(try intro q'')<;>simp (disch:=omega) [↓if_neg]
abbrev azj (ss:List (List Int)) (g N:Nat) (l:List am) (q:Obj) (s:List Nat×Int×Int) (T:ac):ac:=FP ss g N l T q (.own false 1 (af s.1)) s.2.1 s.2.2
theorem aDQ {ss:List (List Int)}{g N:Nat}{l:List am}{q:Obj}(hN:4≤N):Tl (azj ss g N l q) (N+1+1+1):=by
 constructor
 ·intro s K o h;simp (disch:=omega) [↓if_neg]
 ·intro s K o o' h;simp (disch:=omega) [↓if_neg]
 ·intro s K o h;simp (disch:=omega) [↓if_neg]
 ·intro s K o h;simp (disch:=omega) [↓if_neg]
theorem arP {bks t:List Int}{a:Nat}{k n:Int}{w z:Int}(hk:bks[a]?=some k) (hd:t.drop a=n::t.drop (a+1)):kx (bks.drop a) (t.drop a) w z=kN k n w z++kx (bks.drop (a+1)) (t.drop (a+1)) (fF k n w z).1 (fF k n w z).2:=by
 grind [List.drop_eq_getElem_cons,kx]
theorem aAD (ss:List (List Int)) (hss:ss.length≤1000) (gs:List (List am)) (hgs:gs.length≤1000) (g N:Nat) (hN:4≤N) (t:List Int) (ht:t.length≤100000) (hg:(bu ss)[g]?=some [.lst (ai t)]) (l:List am) (hl:∀ k∈ak l,0≤k∧k≤13) (hbl:(ak l).length≤100000) (fin:Int×Int) (TOT:List Nat) :
  Rnd (azj ss g N l (ah5 gs g N)) noH (N+1+1+1) (N+1+1) (ak l) (fun a k s=>.inl (s.1++kN k (nth t a) s.2.1 s.2.2,fF k (nth t a) s.2.1 s.2.2)) (fun a s=>(s.1.length≤700000000+20*a∧s.1++kx ((ak l).drop a) (t.drop a) s.2.1 s.2.2=TOT)∧my s.2.1∧my s.2.2∧bH ((ak l).drop a) (t.drop a) s.2.1 s.2.2=some fin):=by
 intro a k s K o M hk hi hK hM;obtain⟨⟨i0,i1⟩,i2,i3,i4⟩:=hi;obtain⟨n,d1,d2,d3,d4⟩:=afC hk (by rw[i4];simp);have hlt:a<(ak l).length:=by grind
 have hn:nth t a=n:=by
  grind [bn,kA]
 have hkm:=hl k (by grind);rw[i4]at d4;rw[arP hk d1]at i1;have hsl:=afA (k:=k) (n:=n) (w:=s.2.1) (z:=s.2.2) d3;have hgo:my (fF k n s.2.1 s.2.2).1∧my (fF k n s.2.1 s.2.2).2:=by
  grind [fF]
 refine .inl ⟨(s.1++kN k n s.2.1 s.2.2,fF k n s.2.1 s.2.2),by simp_all,⟨⟨by grind,by simp_all⟩,hgo.1,hgo.2,d4.symm⟩,?_⟩;obtain⟨b,w,z⟩:=s;simp only at i0 i1 i2 i3;exact aAx ss hss gs hgs g N (az2 (ss:=ss) (g:=g) (l:=l) (T:=[(K,o)]) hN) t ht hg a k b (by omega) w z M n _ d1 d2 d3 hkm i2 i3
abbrev aCW (ss:List (List Int)) (v:AV) (w z:Int):ac:=[(0,.cells [v]),(1,.cells [.d (.lst (bu ss))]),(2,.cells [.d (.int .i64 w),.d (.int .i64 z)]),(3,.cells [.ptr 2 0])]
theorem Uz:∀ {bks t:List Int}{w z:Int},bH bks t w z≠none→(kx bks t w z).length≤20*bks.length
 | [],[],_,_,_=>by simp[kx]
 | [],_::_,_,_,h=>absurd rfl h
 | _::_,[],_,_,h=>absurd rfl h
 | k::r,n::t,w,z,h=>by
  have h1:=j9 h;have h2:=afA h1.2.1;have h3:=Uz (by rw[h1.2.2]at h;exact h)
  grind [kx]
theorem lI {l:List am}{lf:Int}(h:fitsS lf l) (h0:0≤lf):((ak l).length:Int)=lf:=by
 induction l generalizing lf<;>grind [fitsS,ak]
theorem ajI (ss:List (List Int)) (hss:ss.length≤1000) (hss2:∀ t∈ss,t.length≤100000) (gs:List (List am)) (hgs:gs.length≤1000) (m:Int) (hm:0≤m∧m≤1000):∀ (gr:List (List am)) (sr:List (List Int)) (i N:Nat) (b:List Nat) (w z:Int),gs.drop i=gr→ss.drop i=sr→cB m gr→(∀ l∈gr,l.length≤1000)→my w→my z→iC gr sr w z≠none→4≤N→b.length+20000*gr.length≤600000000→
  ∃ M w' z',(Dn prog).code (.loop oU) ⟨[(4,.ptr 0 0),(7,.ptr 1 0),(11,.ptr 3 0),(32,.d (.lst (aK gs))),(33,.d (.int .i64 gs.length)),(34,.d (.int .i64 i))],⟨aCW ss (.own false 1 (af b)) w z,N⟩⟩ =
  some (.exit 0,⟨[(4,.ptr 0 0)],⟨[(0,.cells [.own false 1 (af (b++kp gr sr w z))]),(2,.cells [.d (.int .i64 w'),.d (.int .i64 z')])],M⟩⟩):=by
 intro gr
 induction gr with
 | nil =>
  intro sr i N b w z hd hd2 hf hl hw hz hr hN hb;have hi:=bg hd;refine⟨N,w,z,?_⟩;have e:b++kp [] sr w z=b:=by grind [kp]
  rw[aa oU.eq_1,e];simp (disch:=omega) [↓if_pos,↓if_neg]
 | cons l r ih =>
  intro sr i N b w z hd hd2 hf hl hw hz hr hN hb;simp only[List.length_cons]at hb;have hg:=kr hd;have hlt:=bn hd;have hfl:=hf l (.head _);have hll:=hl l (.head _);have hbk:=lI hfl hm.1
  cases sr with
  | nil=>exact absurd rfl hr
  | cons t s =>
   have hgt:=LC hd2;have htl:=hss2 t (by rw[←List.take_append_drop i ss,hd2];simp);rw[iC]at hr
   cases hrow:bH (ak l) t w z with
   | none=>simp_all
   | some fin =>
    rw[hrow]at hr;have hrl:=Uz (bks:=ak l) (t:=t) (w:=w) (z:=z) (by simp_all);have hb1:=abt (p:=N+1) (aDQ (ss:=ss) (g:=i) (l:=l) (q:=ah5 gs i N) hN) aoH l (aAD ss hss gs hgs i N hN t htl hgt l (ID hfl) (by omega) fin (b++kx (ak l) t w z)) (fun s=>by simp (disch:=omega) [↓if_neg]) hll (fun q hq=>by have:=(lN hfl hm.2 q hq).1;omega) (N+1+1+1) (b,w,z) (Nat.le_refl _) ⟨⟨by grind,rfl⟩,hw,hz,by simp_all⟩;rcases hb1 with ⟨⟨b2,w2,z2⟩,M,e1,⟨⟨e2,e2'⟩,e3,e4,e5⟩,e6,e7⟩ | ⟨z,_⟩
    ·rw[List.drop_eq_nil_of_le (Nat.le_refl _)]at e5 e2';obtain⟨e8,e9⟩:=aip e5;subst e8;have e10:b2=b++kx (ak l) t w z:=by
      grind [kx]
     subst e10;obtain⟨M2,w3,z3,f⟩:=ih s (i+1) M (b++kx (ak l) t w z) w2 z2 (aT hd) (aT hd2) (fun q hq=>hf q (.tail _ hq)) (fun q hq=>hl q (.tail _ hq)) e3 e4 hr (by omega) (by grind);refine⟨M2,w3,z3,?_⟩;have eT:b++kp (l::r) (t::s) w z=b++kx (ak l) t w z++kp r s w2 z2:=by grind [kp]
     rw[aa oU.eq_1,eT,←f];simp (disch:=omega) [↓if_pos,↓if_neg,hg,Ep,rd,e7]
    grind
theorem aqS (b:List Nat) (hb:b.length≤500000000) (x:AV) (hx:x=.d (.lst (af b))∨x=.nl∧b=[]) (gain m:Int) (g:List (List am)) (t:List (List Int)) (hgn:0≤gain∧gain≤255) (hl:g.length≤8) (hm:0≤m∧m≤40) (hf:cB m g) (hf2:∀ l∈g,l.length≤1000) (ht:sC gain g t) (ht2:∀ l∈t,l.length≤100000) :
  aM prog EE [x,.d (.int .i64 gain),.d (.lst (aK g)),.d (.lst (bu t))]=some (.tup [.own true 1 (af (b++kp g t gain (-1))),.d (.int .i64 0)]):=by
 have h1:=alV gain m g t hgn hl hm hf hf2 ht ht2;have hlen:=DK ht;obtain⟨M,w,z,e⟩:=ajI t (by omega) ht2 g (by omega) m (by omega) g t 0 4 b gain (-1) rfl rfl hf hf2 (by omega) (by omega) ht (Nat.le_refl _) (by omega);have c0:((0:Nat):Int)=0:=rfl;rw[c0]at e;have hp:=jq b 0 0 (by omega) (by omega) x hx;rw[if_pos (by decide)]at hp;have t0:(0:Int).toNat=0:=rfl;rw[t0,aj,List.append_nil]at hp;rw[az alI EQ.eq_1 rfl];rcases hx with rfl | ⟨rfl,rfl⟩
 all_goals simp (disch:=omega) [↓if_pos,↓if_neg,h1,hp,e]
structure aV where
 len:Int
 order:Int
 down:Bool
 fine:Bool
 coefs:List Int
abbrev aV.cells (f:aV):List D:=[.int .i64 f.len,.int .i64 f.order,.bool f.down,.bool f.fine,.lst (ai f.coefs)]
abbrev aV.av (f:aV):List AV:=[.d (.int .i64 f.len),.d (.int .i64 f.order),.d (.bool f.down),.d (.bool f.fine),.d (.lst (ai f.coefs))]
def bX (l:List aV):List (List D):=l.map aV.cells
@[simp] theorem atY {l:List aV}:(bX l).length=l.length:=by simp[bX]
theorem BM {l:List aV}{i:Nat}{s:aV}{r:List aV}(h:l.drop i=s::r):(bX l)[i]?=some [.int .i64 s.len,.int .i64 s.order,.bool s.down,.bool s.fine,.lst (ai s.coefs)]:=by
 grind [List.getElem?_cons_zero,bX]
def bt (t:List (List aV)):List (List D):=t.map fun l=>[.lst (bX l)]
@[simp] theorem afz {t:List (List aV)}:(bt t).length=t.length:=by simp[bt]
theorem DH {g:List (List aV)}{i:Nat}{l:List aV}{r:List (List aV)}(h:g.drop i=l::r):(bt g)[i]?=some [.lst (bX l)]:=by
 grind [List.getElem?_cons_zero,bt]
theorem akT (h:Int):∀ (l:List Int),l.any (fun c=>decide (c < -h∨h≤c))=!decide (∀ c∈l,-h≤c∧c<h)
 | []=>by simp
 | c::r=>by
  grind
def bD (fine:Bool):Int:=if fine then 8 else 4
def qC (sh:Bool):Int:=if sh then 15 else 63
def nU (sh:Bool):Int:=if sh then 7 else 12
def tK (sh:Bool) (f:aV):Prop:=(0≤f.len∧f.len≤qC sh)∧(0≤f.order∧f.order≤nU sh)∧(f.coefs.length:Int)=f.order∧(f.order=0→f.down=false)∧∀ c∈f.coefs,-bD f.fine≤c∧c<bD f.fine
instance {sh:Bool}{f:aV}:Decidable (tK sh f):=by unfold tK;infer_instance
theorem BC (b:Bool):aM prog jg [.d (.bool b)]=some (.d (.int .i64 (if b then 4 else 3))):=by
 rw[az acr wV.eq_1 rfl]
 cases b<;>simp (disch:=omega)
theorem xf (b:Bool):aM prog j0 [.d (.bool b)]=some (.d (.int .i64 (if b then 1 else 0))):=by
 rw[az aha yd.eq_1 rfl]
 cases b<;>simp (disch:=omega)
def gY (sh:Bool):List AV:=if sh then [.d (.int .i64 1),.d (.int .i64 4),.d (.int .i64 3),.d (.int .i64 1),.d (.int .i64 7)] else [.d (.int .i64 2),.d (.int .i64 6),.d (.int .i64 5),.d (.int .i64 3),.d (.int .i64 12)]
def al.short (i:al):Bool:=decide (i.seq=2)
theorem qm (i:al):aM prog iy [.agg i.cells]=some (.agg (gY i.short)):=by
 rw[az V6 tO.eq_1 rfl];unfold gY al.short;by_cases h:i.seq=2
 ·simp (disch:=omega) [↓if_pos,h]
 ·simp (disch:=omega) [↓if_neg,h]
theorem aAY (m:Nat) (hm:m≤100000) (v:Int) (N:Nat):(Dn prog).call nk [.d (.int .i64 v),.ptr 0 0] ⟨[(0,.cells [.d (.int .i64 m)])],N⟩=some (.d (.bool (decide (v < -(m:Int)∨(m:Int)≤v))),⟨[(0,.cells [.d (.int .i64 m)])],N⟩):=by
 rw[aD Vf ul.eq_1 rfl];by_cases h1:v < -(m:Int)
 ·simp (disch:=omega) [↓if_pos,h1]
 ·by_cases h2:(m:Int)≤v
  ·simp (disch:=omega) [↓if_pos,↓if_neg,h1,h2]
  ·simp (disch:=omega) [↓if_pos,↓if_neg,h1,h2]
theorem ED (l:List Int) (hl:l.length≤1000000) (s:Nat) (hs:1≤s∧s≤10):aM prog jW [.d (.lst (ai l)),.d (.int .i64 s)]=some (.d (.bool (decide (∀ c∈l,-((2 ^ (s-1):Nat):Int)≤c∧c<((2 ^ (s-1):Nat):Int))))):=by
 have hp:2 ^ (s-1)≤2 ^ 10:=Nat.pow_le_pow_right (by omega) (by omega);have q2:=NJ (m:=s-1) (by omega);have c1:((s-1:Nat):Int)=(s:Int)-1:=by omega
 rw[c1]at q2;generalize 2 ^ (s-1)=P at *;have h1:=rO (.fn nk [] [.ptr 0 0]) (fun c=>decide (c < -(P:Int)∨(P:Int)≤c)) l (by omega) [(0,.cells [.d (.int .i64 P)])] 1 rfl rfl fun v _=>by
  have:=aAY P (by omega) v 1
  simp_all
 rw[akT]at h1;rw[az af5 yJ.eq_1 rfl];simp (disch:=omega) [-nR,q2,h1]
theorem ahi (i:al) (f:aV) (h:tK i.short f):aM prog ux [.agg i.cells,.agg f.av]=some (.d (.bool true)):=by
 obtain⟨⟨l1,l2⟩,⟨o1,o2⟩,c1,d1,c2⟩:=h;have hs:=qm i;have hw:=BC f.fine;have hof:nU i.short≤12:=by grind [nU]
 have hft:=ED f.coefs (by omega) (if f.fine then 4 else 3) (by grind);have hh:((2 ^ ((if f.fine then 4 else 3)-1):Nat):Int)=bD f.fine:=by grind [bD]
 rw[hh,decide_eq_true c2]at hft;have hc:(((if f.fine=true then 4 else 3:Nat)):Int)=if f.fine=true then 4 else 3:=by grind
 rw[hc]at hft;have hl:=eq (l:=f.coefs);generalize hW:(if f.fine=true then (4:Int) else 3)=W at *;simp only[al.cells]at hs;have hdn:f.order > 0∨f.order=0∧f.down=false:=by
  grind
 rw[az WY uu.eq_1 rfl];unfold qC at l2;unfold nU at o2
 cases hsh:i.short with
 | true =>
  rw[hsh]at l2 o2 hs;simp only[gY,if_true]at l2 o2 hs;rcases hdn with hdn | ⟨h0,hdn⟩
  ·simp (disch:=omega) [↓if_pos,↓if_neg,hs,hw,hft]
  ·simp (disch:=omega) [↓if_pos,↓if_neg,hs,hw,hft,hdn]
 | false =>
  rw[hsh]at l2 o2 hs;simp only[gY]at l2 o2 hs;rcases hdn with hdn | ⟨h0,hdn⟩
  ·simp (disch:=omega) [↓if_pos,↓if_neg,hs,hw,hft]
  ·simp (disch:=omega) [↓if_pos,↓if_neg,hs,hw,hft,hdn]
theorem aau (F:AV) (P:aV→Bool) (l:List aV) (hl:l.length≤1000000000) (h:ac) (N0:Nat) (hF:firm (share F)=F) (hc:∀ f∈l,∀ N,N0≤N→bc (Dn prog) F [.agg f.av] ⟨h,N⟩=some (.d (.bool (P f)),⟨h,N+1⟩)):∀ (r:List aV) (i N:Nat),l.drop i=r→N0≤N→
  (r.any P=true∧∃ k M:Nat,N≤M∧(Dn prog).code (.loop bG) ⟨[(0,.d (.lst (bX l))),(1,F),(7,.d (.int .i64 l.length)),(8,.d (.int .i64 i))],⟨h,N⟩⟩=some (.ret,⟨[(4,.d (.int .i64 k))],⟨h,M⟩⟩))∨
  (r.any P=false∧∃ M,N≤M∧(Dn prog).code (.loop bG) ⟨[(0,.d (.lst (bX l))),(1,F),(7,.d (.int .i64 l.length)),(8,.d (.int .i64 i))],⟨h,N⟩⟩=some (.exit 0,⟨[],⟨h,M⟩⟩)):=by
 intro r
 induction r with
 | nil =>
  intro i N hd hN;have hi:=bg hd;refine .inr ⟨rfl,N,Nat.le_refl _,?_⟩;rw[aa bG.eq_1];simp (disch:=omega) [↓if_neg]
 | cons v r ih =>
  intro i N hd hN;have hg:=BM hd;have hlt:=bn hd;have hv:=hc v (by rw[←List.take_append_drop i l,hd];simp) N hN;have h5:=ih (i+1) (N+1) (aT hd) (by omega)
  cases hp:P v with
  | true =>
   rw[hp]at hv;refine .inl ⟨by simp_all,i,N+1,by omega,?_⟩;rw[aa bG.eq_1];simp (disch:=omega) [↓if_pos,hg,hF,hv]
  | false =>
   rw[hp]at hv;rw[List.any_cons,hp,Bool.false_or];rcases h5 with ⟨e1,k,M,e3,e2⟩ | ⟨e1,M,e3,e2⟩
   ·refine .inl ⟨e1,k,M,by omega,?_⟩;rw[aa bG.eq_1,←e2];simp (disch:=omega) [↓if_pos,hg,hF,hv]
   ·refine .inr ⟨e1,M,by omega,?_⟩;rw[aa bG.eq_1,←e2];simp (disch:=omega) [↓if_pos,hg,hF,hv]
theorem wh (F:AV) (P:aV→Bool) (l:List aV) (hl:l.length≤1000000000) (h:ac) (N:Nat) (hF:firm (share F)=F) (hF2:firm F=F) (hc:∀ f∈l,∀ M,N≤M→bc (Dn prog) F [.agg f.av] ⟨h,M⟩=some (.d (.bool (P f)),⟨h,M+1⟩)) :
  ∃ M,N≤M∧(Dn prog).call bS [.d (.lst (bX l)),F] ⟨h,N⟩=some (.d (.bool (l.any P)),⟨h,M⟩):=by
 have h1:=aau F P l hl h N hF hc l 0 N rfl (Nat.le_refl _);have c0:((0:Nat):Int)=0:=rfl;rw[c0]at h1;have h2:∃ (k:Int) (M:Nat),N≤M∧(0≤k↔l.any P=true)∧(Dn prog).call iO [.d (.lst (bX l)),F] ⟨h,N⟩=some (.d (.int .i64 k),⟨h,M⟩):=by
  rcases h1 with ⟨e1,k,M,e3,e2⟩ | ⟨e1,M,e3,e2⟩
  ·refine⟨k,M,e3,⟨fun _=>e1,fun _=>by omega⟩,?_⟩;rw[aD mu eJ.eq_1 rfl];simp (disch:=omega) [e2]
  ·refine⟨-1,M,e3,⟨fun h=>by omega,fun h=>by simp_all⟩,?_⟩;rw[aD mu eJ.eq_1 rfl];simp (disch:=omega) [e2]
 obtain⟨k,M,e3,e1,e2⟩:=h2;refine⟨M,e3,?_⟩;rw[aD u4 gk.eq_1 rfl]
 cases hp:l.any P with
 | true =>
  have:=e1.2 hp;simp (disch:=omega) [↓if_pos,hF2,e2]
 | false =>
  have:¬ 0≤k:=fun h=>by simp_all
  simp (disch:=omega) [↓if_neg,hF2,e2]
theorem agD (lo hi v:Int) (hlo:-100≤lo∧lo≤0) (hhi:0≤hi∧hi≤100) (X:Obj) (N:Nat):(Dn prog).call kf [.d (.int .i64 v),.ptr 1 0,.ptr 2 0] ⟨[(0,X),(1,.cells [.d (.int .i64 lo)]),(2,.cells [.d (.int .i64 hi)])],N⟩=some (.d (.bool (decide (v<lo∨hi<v))),⟨[(0,X),(1,.cells [.d (.int .i64 lo)]),(2,.cells [.d (.int .i64 hi)])],N⟩):=by
 rw[aD WK uA.eq_1 rfl];by_cases h1:v<lo
 ·simp (disch:=omega) [↓if_pos,h1]
 ·by_cases h2:hi<v
  ·simp (disch:=omega) [↓if_pos,↓if_neg,h1,h2]
  ·simp (disch:=omega) [↓if_pos,↓if_neg,h1,h2]
theorem aoR (X:Obj) (l:List Int) (hl:l.length≤1000000) (fine:Bool):(Dn prog).call cj [.d (.lst (ai l)),.fn kf [] [.ptr 1 0,.ptr 2 0]] ⟨[(0,X),(1,.cells [.d (.int .i64 (-bD fine))]),(2,.cells [.d (.int .i64 (bD fine-1))])],3⟩ =
  some (.d (.bool (!decide (∀ c∈l,-bD fine≤c∧c<bD fine))),⟨[(0,X),(1,.cells [.d (.int .i64 (-bD fine))]),(2,.cells [.d (.int .i64 (bD fine-1))])],3⟩):=by
 have hh:4≤bD fine∧bD fine≤8:=by grind [bD]
 have h1:=rO (.fn kf [] [.ptr 1 0,.ptr 2 0]) (fun c=>decide (c < -bD fine∨bD fine-1<c)) l (by omega) [(0,X),(1,.cells [.d (.int .i64 (-bD fine))]),(2,.cells [.d (.int .i64 (bD fine-1))])] 3 rfl rfl fun v _=>by
  have:=agD (-bD fine) (bD fine-1) v (by omega) (by omega) X 3
  simp_all
 have e:(fun c:Int=>decide (c < -bD fine∨bD fine-1<c))=fun c=>decide (c < -bD fine∨bD fine≤c):=by
  grind
 rw[e,akT]at h1;exact h1
theorem amb (sh:Bool) (f:aV) (hl:f.coefs.length≤1000000):aM prog yG [.agg f.av,.d (.bool sh)]=some (.d (.bool (decide (tK sh f)))):=by
 rw[az ahB yS.eq_1 rfl];have hll:=eq (l:=f.coefs);have hls:qC sh=if sh then 15 else 63:=rfl
 have hos:nU sh=if sh then 7 else 12:=rfl
 by_cases a1:0≤f.len∧f.len≤qC sh
 ·by_cases a2:0≤f.order∧f.order≤nU sh
  ·by_cases a3:(f.coefs.length:Int)=f.order
   ·by_cases a4:f.order=0∧f.down=true
    ·rw[decide_eq_false (fun h=>by have:=h.2.2.2.1 a4.1;simp_all)];obtain⟨a4,a5⟩:=a4
     cases sh<;>simp only[qC,nU,if_true,Bool.false_eq_true,if_false]at a1 a2<;>simp (disch:=omega) [↓if_pos,↓if_neg,a5]
    ·have hc:=aoR (.cells f.av) f.coefs hl f.fine;have hd:decide (tK sh f)=decide (∀ c∈f.coefs,-bD f.fine≤c∧c<bD f.fine):=by
      rw[decide_eq_decide];refine⟨fun h=>h.2.2.2.2,fun h=>⟨a1,a2,a3,fun h0=>?_,h⟩⟩
      simp_all
     rw[hd];generalize decide (∀ c∈f.coefs,-bD f.fine≤c∧c<bD f.fine)=B at *;have h4:bD false=4:=rfl;have h8:bD true=8:=rfl;by_cases h0:f.order=0
     ·have hdn:f.down=false:=by
       simp_all
      cases hfn:f.fine<;>simp only[hfn,h4,h8,Int.reduceNeg,Int.reduceSub]at hc<;>cases sh<;>simp only[qC,nU,if_true,Bool.false_eq_true,if_false]at a1 a2<;>simp (disch:=omega) [↓if_pos,↓if_neg,hdn,hfn,hc]
     ·cases hfn:f.fine<;>simp only[hfn,h4,h8,Int.reduceNeg,Int.reduceSub]at hc<;>cases sh<;>simp only[qC,nU,if_true,Bool.false_eq_true,if_false]at a1 a2<;>simp (disch:=omega) [↓if_pos,↓if_neg,hfn,hc]
   ·rw[decide_eq_false (fun h=>a3 h.2.2.1)]
    cases sh<;>simp only[qC,nU,if_true,Bool.false_eq_true,if_false]at a1 a2<;>simp (disch:=omega) [↓if_pos,↓if_neg]
  ·rw[decide_eq_false (fun h=>a2 h.2.1)];by_cases b1:f.order<0
   ·cases sh<;>simp only[qC,nU,if_true,Bool.false_eq_true,if_false]at a1 a2<;>simp (disch:=omega) [↓if_pos,↓if_neg]
   ·cases sh<;>simp only[qC,nU,if_true,Bool.false_eq_true,if_false]at a1 a2<;>simp (disch:=omega) [↓if_pos,↓if_neg]
 ·rw[decide_eq_false (fun h=>a1 h.1)];by_cases b1:f.len<0
  ·cases sh<;>simp only[qC,if_true,Bool.false_eq_true,if_false]at a1<;>simp (disch:=omega) [↓if_pos]
  ·cases sh<;>simp only[qC,if_true,Bool.false_eq_true,if_false]at a1<;>simp (disch:=omega) [↓if_pos,↓if_neg]
def Lt (H:ac) (N:Nat):Prop:=∀ p∈H,p.1<N
theorem pc {H:ac}{N:Nat}{o:Obj}(h:Lt H N):put H N o=H++[(N,o)]:=by
 induction H with
 | nil=>rfl
 | cons p r ih =>
  obtain⟨k,v⟩:=p;have h1:=h (k,v) (.head _);simp only at h1;rw[md,if_neg (by omega),if_neg (by omega),ih (fun p hp=>h p (.tail _ hp)),List.cons_append]
theorem Fq {H:ac}{N:Nat}{o o':Obj}(h:Lt H N):put (H++[(N,o)]) N o'=H++[(N,o')]:=by
 induction H with
 | nil=>rw[List.nil_append,md,if_pos rfl];rfl
 | cons p r ih =>
  obtain⟨k,v⟩:=p;have h1:=h (k,v) (.head _);simp only at h1;rw[List.cons_append,md,if_neg (by omega),if_neg (by omega),ih (fun p hp=>h p (.tail _ hp)),List.cons_append]
theorem si {H:ac}{N:Nat}{o:Obj}(h:Lt H N):get (H++[(N,o)]) N=some o:=by
 induction H with
 | nil=>rw[List.nil_append,dD,if_pos rfl]
 | cons p r ih =>
  obtain⟨k,v⟩:=p;have h1:=h (k,v) (.head _);simp only at h1;rw[List.cons_append,dD,if_neg (by omega),ih (fun p hp=>h p (.tail _ hp))]
theorem wt {H:ac}{N k:Nat}{o o':Obj}(h:get H k=some o'):get (H++[(N,o)]) k=some o':=by
 induction H with
 | nil=>exact absurd h (by simp[sk])
 | cons p r ih =>
  obtain⟨j,v⟩:=p;rw[dD]at h;rw[List.cons_append,dD];by_cases hj:j=k
  ·rw[if_pos hj]at h⊢;exact h
  ·rw[if_neg hj]at h⊢;exact ih h
theorem Nr {H:ac}{N:Nat}{o:Obj}(h:Lt H N):del (H++[(N,o)]) N=H:=by
 induction H with
 | nil=>rw[List.nil_append,iN,if_pos rfl];rfl
 | cons p r ih =>
  obtain⟨k,v⟩:=p;have h1:=h (k,v) (.head _);simp only at h1;rw[List.cons_append,iN,if_neg (by omega),ih (fun p hp=>h p (.tail _ hp))]
theorem DD {H:ac}{N M:Nat}(h:Lt H N) (hm:N≤M):Lt H M:=fun p hp=>Nat.lt_of_lt_of_le (h p hp) hm
theorem GT {H:ac}{N:Nat}{o:Obj}(h:Lt H N):Lt (H++[(N,o)]) (N+1):=by
 intro p hp;rcases List.mem_append.1 hp with h1 | h1
 ·have:=h p h1;omega
 ·rw[List.mem_singleton]at h1;subst h1;exact Nat.lt_succ_self _
@[simp] theorem aEZ (a b:Bool):ah2 true (.d (.bool a)) (.d (.bool b))=some (.bool (a != b)):=by cases a<;>cases b<;>rfl
def UB (sh:Bool) (f0 f:aV):Bool:=!decide (tK sh f) || f.fine != f0.fine
theorem apH (sh:Bool) (f0:aV) (l:List aV) (f:aV) (hf:f.coefs.length≤1000000) (H:ac) (p q M:Nat) (hp:get H p=some (.cells [.d (.bool sh)])) (hq:get H q=some (.cells [.d (.lst (bX (f0::l)))])) (hl:(f0::l).length≤1000000) (hM:Lt H M) :
  (Dn prog).call gF [.agg f.av,.ptr p 0,.ptr q 0] ⟨H,M⟩=some (.d (.bool (UB sh f0 f)),⟨H,M+1⟩):=by
 have e1:=fun o=>pc (o:=o) hM
 have e2:=fun o=>si (o:=o) hM
 have e3:=fun o=>wt (N:=M) (o:=o) hp
 have e4:=fun o=>wt (N:=M) (o:=o) hq
 have e5:=fun o=>Nr (o:=o) hM
 have e6:=amb sh f hf;have hg:=BM (l:=f0::l) (i:=0) (s:=f0) (r:=l) rfl;unfold UB;rw[aD SU rX.eq_1 rfl];simp only[aV.av]at e6⊢;simp only[List.length_cons]at hl
 cases hB:decide (tK sh f) with
 | false =>
  rw[hB]at e6;simp (maxSteps:=300000) (disch:=omega) [↓if_pos,↓if_neg,e1,e2,e3,e4,e5,e6,hg]
 | true =>
  rw[hB]at e6
  cases hf1:f.fine<;>cases hf2:f0.fine<;>rw[hf1]at e6<;>rw[hf2]at hg<;>
   simp (maxSteps:=300000) (disch:=omega) [↓if_pos,↓if_neg,e1,e2,e3,e4,e5,e6,hg]
structure cg where
 gain:Int
 info:al
 sects:List (List am)
 steps:List (List Int)
 tns:List (List aV)
 lines:List Int
abbrev cg.av (c:cg):List AV:=[.d (.int .i64 c.gain),.d (.int .u8 c.info.seq),.d (.int .u8 c.info.shape),.d (.int .i64 c.info.max),.d (.lst (ai c.info.groups)),.d (.lst (aK c.sects)),.d (.lst (bu c.steps)),.d (.lst (bt c.tns)),.d (.lst (ai c.lines))]
structure cg.Fit (c:cg):Prop where
 gain:i64 c.gain
 info:c.info.Fit
 sects:asE c.sects
 secI:∀ l∈c.sects,∀ s∈l,i64 s.book∧i64 s.len
 steps:c.steps.length≤1000∧∀ l∈c.steps,l.length≤1000
 stepI:∀ l∈c.steps,∀ n∈l,i64 n
 tns:c.tns.length≤1000∧∀ l∈c.tns,l.length≤1000∧∀ f∈l,f.coefs.length≤1000
 fltI:∀ l∈c.tns,∀ f∈l,(i64 f.len∧i64 f.order)∧∀ x∈f.coefs,i64 x
 lines:c.lines.length≤100000
 lineI:∀ n∈c.lines,i64 n
def ke (sh:Bool):Nat:=if sh then 1 else 3
def lO (sh:Bool) (l:List aV):Prop:=l.length≤ke sh∧∀ f0∈l.head?,∀ f∈l,tK sh f∧f.fine=f0.fine
abbrev NZ (i:al) (t:List (List aV)):Prop:=t.length=i.many∧∀ l∈t,lO i.short l
theorem awX {sh:Bool}{f0:aV}{l:List aV}:l.any (UB sh f0)=false↔∀ f∈l,tK sh f∧f.fine=f0.fine:=by
 rw[List.any_eq_false];constructor
 ·intro h f hf;have:=h f hf;simp only[UB,Bool.or_eq_true,Bool.not_eq_true',decide_eq_false_iff_not,bne_iff_ne,not_or,Decidable.not_not]at this;exact this
 ·intro h f hf;have:=h f hf;simp[UB,this.1,this.2]
def adz (sh:Bool):List aV→Bool
 | []=>false
 | f0::r=>(f0::r).any (UB sh f0)
theorem akR {sh:Bool}{l:List aV}:lO sh l↔l.length≤ke sh∧adz sh l=false:=by
 unfold lO
 cases l with
 | nil=>simp[adz]
 | cons f0 r0 =>
  simp only[adz,awX];constructor
  ·intro h;exact⟨h.1,h.2 f0 (by simp)⟩
  ·intro h;exact⟨h.1,fun f hf=>by simp at hf;subst hf;exact h.2⟩
instance {sh:Bool}{l:List aV}:Decidable (lO sh l):=decidable_of_iff _ akR.symm
theorem V2 (sh:Bool) (full:List (List aV)) (hl:full.length≤1000) (hl2:∀ l∈full,l.length≤1000∧∀ f∈l,f.coefs.length≤1000):∀ (r:List (List aV)) (i N:Nat) (H:ac),full.drop i=r→get H 1=some (.cells [.d (.bool sh)])→Lt H N→2≤N→
  ((∀ l∈r,lO sh l)∧∃ H2 M,(Dn prog).code (.loop dy) ⟨[(5,.ptr 1 0),(6,.d (.int .i64 (ke sh))),(20,.d (.lst (bt full))),(21,.d (.int .i64 full.length)),(22,.d (.int .i64 i))],⟨H,N⟩⟩=some (.exit 0,⟨[],⟨H2,M⟩⟩))∨
  ((¬ ∀ l∈r,lO sh l)∧∃ H2 M,(Dn prog).code (.loop dy) ⟨[(5,.ptr 1 0),(6,.d (.int .i64 (ke sh))),(20,.d (.lst (bt full))),(21,.d (.int .i64 full.length)),(22,.d (.int .i64 i))],⟨H,N⟩⟩=some (.ret,⟨[(4,.d (.bool false))],⟨H2,M⟩⟩)):=by
 intro r
 induction r with
 | nil =>
  intro i N H hd hH hL hN;have hi:=bg hd;refine .inl ⟨by simp,H,N,?_⟩;rw[aa dy.eq_1];simp (maxSteps:=300000) (disch:=omega) [↓if_neg]
 | cons l r ih =>
  intro i N H hd hH hL hN;have hg:=DH hd;have hlt:=bn hd;obtain⟨hll,hlc⟩:=hl2 l (by rw[←List.take_append_drop i full,hd];simp);have hm:ke sh≤3:=by unfold ke;split<;>omega
  have e1:=fun o=>pc (o:=o) hL
  have e2:=fun o=>si (o:=o) hL
  have e3:=fun o=>wt (N:=N) (o:=o) hH
  have e4:=fun o o'=>Fq (o:=o) (o':=o') hL
  have c1:((i+1:Nat):Int)=(i:Int)+1:=rfl;by_cases h1:l.length≤ke sh
  ·have hcf:∃ M,N+1≤M∧(Dn prog).call bS [.d (.lst (bX l)),.fn gF [] [.ptr 1 0,.ptr N 0]] ⟨H++[(N,.cells [.d (.lst (bX l))])],N+1⟩=some (.d (.bool (adz sh l)),⟨H++[(N,.cells [.d (.lst (bX l))])],M⟩):=by
    cases l with
    | nil =>
     exact wh (.fn gF [] [.ptr 1 0,.ptr N 0]) (fun _=>false) [] (by simp) _ (N+1) rfl rfl fun f hf=>by simp at hf
    | cons f0 r0 =>
     refine wh (.fn gF [] [.ptr 1 0,.ptr N 0]) (UB sh f0) (f0::r0) (by omega) _ (N+1) rfl rfl fun f hf M hM=>?_
     have:=apH sh f0 r0 f (by have:=hlc f hf;omega) (H++[(N,.cells [.d (.lst (bX (f0::r0)))])]) 1 N M (e3 _) (e2 _) (by omega) (DD (GT hL) hM);simpa using this
   obtain⟨M,hM,e5⟩:=hcf;have hW:adz sh l=false↔lO sh l:=by rw[akR];exact⟨fun h=>⟨h1,h⟩,fun h=>h.2⟩
   generalize adz sh l=B at *
   cases B with
   | true =>
    refine .inr ⟨fun h=>?_,H++[(N,.cells [.d (.lst (bX l))])],M,?_⟩
    ·have:=hW.2 (h l (.head _));exact absurd this (by simp)
    ·rw[aa dy.eq_1];simp (maxSteps:=300000) (disch:=omega) [↓if_pos,↓if_neg,hg,e1,e2,e4,e5]
   | false =>
    have hw:=hW.1 rfl;have h5:=ih (i+1) M (H++[(N,.cells [.d (.lst (bX l))])]) (aT hd) (e3 _) (DD (GT hL) hM) (by omega);rw[c1]at h5;rcases h5 with ⟨f1,H2,M2,f2⟩ | ⟨f1,H2,M2,f2⟩
    ·refine .inl ⟨fun q hq=>?_,H2,M2,?_⟩
     ·rcases List.mem_cons.1 hq with h | h
      ·rw[h];exact hw
      ·exact f1 q h
     ·rw[aa dy.eq_1,←f2];simp (maxSteps:=300000) (disch:=omega) [↓if_pos,↓if_neg,hg,e1,e2,e4,e5]
    ·refine .inr ⟨fun h=>f1 fun q hq=>h q (.tail _ hq),H2,M2,?_⟩;rw[aa dy.eq_1,←f2];simp (maxSteps:=300000) (disch:=omega) [↓if_pos,↓if_neg,hg,e1,e2,e4,e5]
  ·refine .inr ⟨fun h=>h1 (h l (.head _)).1,H++[(N,.cells [.d (.lst (bX l))])],N+1,?_⟩;rw[aa dy.eq_1];simp (maxSteps:=300000) (disch:=omega) [↓if_pos,↓if_neg,hg,e1,e2,e4]
theorem ak9 (c:cg) (hc:c.Fit) (w:Nat) (hw:w≤8):aM prog oO [.agg c.av,.d (.int .i64 w)]=some (.d (.bool (decide (c.tns.length=w∧∀ l∈c.tns,lO c.info.short l)))):=by
 have hl:=hc.tns.1;have h0:=V2 c.info.short c.tns hc.tns.1 hc.tns.2 c.tns 0 2 [(1,.cells [.d (.bool c.info.short)])] rfl (by simp) (fun p hp=>by rw[List.mem_singleton]at hp;subst hp;show 1<2;omega) (by omega);have c0:((0:Nat):Int)=0:=rfl;rw[c0]at h0;have m1:((1:Nat):Int)=1:=rfl;have m3:((3:Nat):Int)=3:=rfl;rw[az acT wB.eq_1 rfl];by_cases h1:c.tns.length=w
 ·have hsh:c.info.short=decide (c.info.seq=2):=rfl;have e:decide (c.tns.length=w∧∀ l∈c.tns,lO c.info.short l)=decide (∀ l∈c.tns,lO c.info.short l):=by simp[h1]
  rw[e];rcases h0 with ⟨f1,H2,M2,f2⟩ | ⟨f1,H2,M2,f2⟩
  ·rw[decide_eq_true f1];by_cases hs:c.info.seq=2
   ·rw[decide_eq_true hs]at hsh;rw[hsh]at f2;simp only[ke,if_true,m1]at f2;simp (maxSteps:=300000) (disch:=omega) [↓if_pos,↓if_neg,f2]
   ·rw[decide_eq_false hs]at hsh;rw[hsh]at f2;simp only[ke,Bool.false_eq_true,if_false,m3]at f2;simp (maxSteps:=300000) (disch:=omega) [↓if_pos,↓if_neg,f2]
  ·rw[decide_eq_false f1];by_cases hs:c.info.seq=2
   ·rw[decide_eq_true hs]at hsh;rw[hsh]at f2;simp only[ke,if_true,m1]at f2;simp (maxSteps:=300000) (disch:=omega) [↓if_pos,↓if_neg,f2]
   ·rw[decide_eq_false hs]at hsh;rw[hsh]at f2;simp only[ke,Bool.false_eq_true,if_false,m3]at f2;simp (maxSteps:=300000) (disch:=omega) [↓if_pos,↓if_neg,f2]
 ·rw[decide_eq_false (fun h=>h1 h.1)];by_cases hs:c.info.seq=2
  ·simp (maxSteps:=300000) (disch:=omega) [↓if_pos,↓if_neg]
  ·simp (maxSteps:=300000) (disch:=omega) [↓if_pos,↓if_neg]
def yP:Int→List am→Option Int
 | a,[]=>some a
 | a,s::r=>if (1≤s.len∧s.len≤40)∧FM s.book then yP (a+s.len) r else none
theorem aal:∀ {l:List am}{a v:Int},yP a l=some v→a+l.length≤v∧v≤a+40*l.length
 | [],a,v,h=>by simp only[yP]at h;injection h with h;simp;omega
 | s::r,a,v,h=>by
  rw[yP]at h;split at h
  ·rename_i h1;have:=aal h;simp only[List.length_cons];omega
  ·exact absurd h (by simp)
theorem LQ {m:Int}(hm:m≤40):∀ {l:List am}{a:Int},0≤a→(yP a l=some m↔fitsS (m-a) l)
 | [],a,h=>by
  simp only[yP,fitsS,Option.some.injEq];omega
 | s::r,a,h=>by
  rw[yP,fitsS];by_cases h1:(1≤s.len∧s.len≤40)∧FM s.book
  ·rw[if_pos h1,LQ hm (by omega)];have e:m-(a+s.len)=m-a-s.len:=by omega
   rw[e];constructor
   ·intro h2;refine⟨⟨⟨h1.1.1,?_⟩,h1.2⟩,h2⟩;have:=(LQ (l:=r) (a:=a+s.len) hm (by omega)).2 (by rw[e];exact h2);have:=aal this;omega
   ·intro h2;exact h2.2
  ·rw[if_neg h1];constructor
   ·intro h2;exact absurd h2 (by simp)
   ·intro h2;obtain⟨⟨⟨a1,a2⟩,a3⟩,a4⟩:=h2;exact absurd ⟨⟨a1,by omega⟩,a3⟩ h1
theorem S5 (full:List am) (hl:full.length≤1000) (X:Obj) (x4:AV) (x17:AV) (y18 y19:D):∀ (r:List am) (i:Nat) (a:Int) (N:Nat),full.drop i=r→0≤a∧a≤40*i→1≤N→
  ∃ M,N≤M∧(Dn prog).code (.loop gW) ⟨[(1,.ptr 0 0),(4,x4),(5,.d (.int .i64 a)),(17,x17),(18,.d y18),(19,.d y19),(23,.d (.lst (dA full))),(24,.d (.int .i64 full.length)),(25,.d (.int .i64 i))],⟨[(0,X)],N⟩⟩ =
  match yP a r with
  | some v=>some (.exit 2,⟨[(1,.ptr 0 0),(4,x4),(5,.d (.int .i64 v)),(17,x17),(18,.d y18),(19,.d y19)],⟨[(0,X)],M⟩⟩)
  | none=>some (.ret,⟨[(2,.d (.bool false))],⟨[],M⟩⟩):=by
 intro r
 induction r with
 | nil =>
  intro i a N h h0 hN;have hi:=bg h;refine⟨N,Nat.le_refl _,?_⟩;rw[aa gW.eq_1,yP];simp (maxSteps:=300000) (disch:=omega) [↓if_pos,↓if_neg]
 | cons s r ih =>
  intro i a N h h0 hN;have hg:=qJ h;have hlt:=bn h;have hN0:N≠0:=by omega
  by_cases hr:(1≤s.len∧s.len≤40)∧FM s.book
  ·have hr1:=hr.1;obtain⟨M,hM,e⟩:=ih (i+1) (a+s.len) (N+1) (aT h) (by omega) (by omega);refine⟨M,by omega,?_⟩;have c1:((i+1:Nat):Int)=(i:Int)+1:=rfl;rw[c1]at e;rw[aa gW.eq_1,yP,if_pos hr,←e];obtain⟨⟨r1,r2⟩,r3,r4 | r4⟩:=hr
   ·simp (maxSteps:=300000) (disch:=omega) [↓if_pos,↓if_neg,hg,hN0]
   ·simp (maxSteps:=300000) (disch:=omega) [↓if_pos,↓if_neg,hg,hN0]
  ·refine⟨N+1,by omega,?_⟩;rw[aa gW.eq_1,yP,if_neg hr];by_cases b1:s.len<1
   ·simp (maxSteps:=300000) (disch:=omega) [↓if_pos,↓if_neg,hg,hN0]
   ·by_cases b2:40<s.len
    ·simp (maxSteps:=300000) (disch:=omega) [↓if_pos,↓if_neg,hg,hN0]
    ·by_cases b3:s.book<0
     ·simp (maxSteps:=300000) (disch:=omega) [↓if_pos,↓if_neg,hg,hN0]
     ·have b4:11<s.book∧s.book≠13:=by
       unfold FM at hr;omega
      obtain⟨b4,b5⟩:=b4;simp (maxSteps:=300000) (disch:=omega) [↓if_pos,↓if_neg,hg,hN0]
theorem awK:∀ x∈z7,kL x.1 x.2≤40:=by decide +kernel
theorem jh {i:al}(hm:i.may 11):0≤i.max∧i.max≤40:=by
 have h1:=hm.2.2.1;have h2:=hm.2.2.2.1;have h3:=awK _ (dQ (r:=11) (s:=decide (i.seq=2)) (by omega));simp only[]at h3;omega
theorem Sz (c:cg) (hm:0≤c.info.max∧c.info.max≤40) (hl:c.sects.length≤1000) (hl2:∀ l∈c.sects,l.length≤1000):∀ (g:List (List am)) (j:Nat) (N:Nat),c.sects.drop j=g→1≤N→
  ∃ H M,(Dn prog).code (.loop fj) ⟨[(1,.ptr 0 0),(17,.d (.lst (aK c.sects))),(18,.d (.int .i64 c.sects.length)),(19,.d (.int .i64 j))],⟨[(0,.cells c.av)],N⟩⟩ =
  if cB c.info.max g then some (.exit 0,⟨[],⟨H,M⟩⟩) else some (.ret,⟨[(2,.d (.bool false))],⟨H,M⟩⟩):=by
 simp only[cg.av];intro g
 induction g with
 | nil =>
  intro j N h hN;have hi:=bg h;refine⟨[],N,?_⟩;rw[aa fj.eq_1,if_pos (show cB c.info.max [] from fun _ h=>by simp at h)];simp (maxSteps:=300000) (disch:=omega) [↓if_pos,↓if_neg]
 | cons l r ih =>
  intro j N h hN;have hg:=kr h;have hlt:=bn h;have hll:l.length≤1000:=hl2 l (by rw[←List.take_append_drop j c.sects,h];simp);obtain⟨M,hM,e⟩:=S5 l hll (.cells c.av) (.d (.lst (dA l))) (.d (.lst (aK c.sects))) (.int .i64 c.sects.length) (.int .i64 j) l 0 0 N rfl (by omega) hN;have c0:((0:Nat):Int)=0:=rfl;rw[c0]at e;simp only[cg.av]at e;have hiff:=LQ (m:=c.info.max) hm.2 (l:=l) (a:=0) (by omega);rw[Int.sub_zero]at hiff
  cases hrm:yP 0 l with
  | none =>
   rw[hrm]at e hiff;refine⟨[],M,?_⟩;have hn:¬ cB c.info.max (l::r):=fun h=>absurd (hiff.2 (h l (.head _))) (by simp)
   rw[aa fj.eq_1,if_neg hn];simp (maxSteps:=300000) (disch:=omega) [↓if_pos,↓if_neg,hg,e]
  | some v =>
   rw[hrm]at e hiff;have hv:=aal hrm;by_cases h9:v=c.info.max
   ·subst h9;have hf:=hiff.1 rfl;obtain⟨H2,M2,e2⟩:=ih (j+1) M (aT h) (by omega);refine⟨H2,M2,?_⟩;have hx:cB c.info.max (l::r)↔cB c.info.max r:=by simp[cB,hf]
    have c1:((j+1:Nat):Int)=(j:Int)+1:=rfl;rw[c1]at e2;rw[aa fj.eq_1,auR hx,←e2];simp (maxSteps:=300000) (disch:=omega) [↓if_pos,↓if_neg,hg,e]
   ·refine⟨[],M,?_⟩;have hn:¬ cB c.info.max (l::r):=fun h=>by
     have:=hiff.2 (h l (.head _));injection this with this;exact h9 this
    rw[aa fj.eq_1,if_neg hn];simp (maxSteps:=300000) (disch:=omega) [↓if_pos,↓if_neg,hg,e]
instance {m:Int}{g:List (List am)}:Decidable (cB m g):=by unfold cB;infer_instance
theorem ahA (c:cg) (hc:c.Fit) (hm:c.info.may 11):aM prog nv [.agg c.av]=some (.d (.bool (decide (fq c.info c.sects)))):=by
 obtain⟨H,M,e⟩:=Sz c (jh hm) hc.sects.1 hc.sects.2 c.sects 0 1 rfl (by omega);have c0:((0:Nat):Int)=0:=rfl;rw[c0]at e;simp only[cg.av]at e⊢;have hl1:=hc.sects.1;have hl2:=hc.info.len;rw[az Vx uo.eq_1 rfl];by_cases h1:c.sects.length=c.info.groups.length
 ·by_cases h2:cB c.info.max c.sects
  ·rw[decide_eq_true ⟨h1,h2⟩];rw[if_pos h2]at e;simp (maxSteps:=300000) (disch:=omega) [↓if_pos,↓if_neg,e]
  ·rw[decide_eq_false (fun h=>h2 h.2)];rw[if_neg h2]at e;simp (maxSteps:=300000) (disch:=omega) [↓if_pos,↓if_neg,e]
 ·rw[decide_eq_false (fun h=>h1 h.1)];simp (maxSteps:=300000) (disch:=omega) [↓if_pos,↓if_neg]
theorem DO (w n:Int) (hw:-1000≤w∧w≤1000) (hn:-1000≤n∧n≤1000):aM prog w9 [.d (.int .i64 w),.d (.int .i64 n)]=some (.d (.bool (decide (w-60≤n∧n≤w+60)))):=by
 rw[az al0 Fg.eq_1 rfl];by_cases h1:w-60≤n
 ·by_cases h2:n≤w+60
  ·rw[decide_eq_true ⟨h1,h2⟩];simp (disch:=omega) [↓if_pos]
  ·rw[decide_eq_false (fun h=>h2 h.2)];simp (disch:=omega) [↓if_pos,↓if_neg]
 ·rw[decide_eq_false (fun h=>h1 h.1)];simp (disch:=omega) [↓if_neg]
theorem akF (full:List am) (hl:full.length≤1000):∀ (r:List am) (i b N:Nat) (lf:Int) (k:Int),full.drop i=r→fitsS lf r→lf≤1000→(ak r)[b]?=some k→
  ∃ M,(Dn prog).code (.loop oL) ⟨[(2,.d (.int .i64 b)),(25,.d (.lst (dA full))),(26,.d (.int .i64 full.length)),(27,.d (.int .i64 i))],⟨[],N⟩⟩ =
  some (.ret,⟨[(6,.d (.int .i64 k)),(7,.d (.int .i64 0))],⟨[],M⟩⟩):=by
 intro r
 induction r with
 | nil=>grind [ak]
 | cons s r ih =>
  intro i b N lf k h hf h0 hk;have hg:=qJ h;have hlt:=bn h;obtain⟨h1,h2⟩:=hf;have eb:ak (s::r)=List.replicate s.len.toNat s.book++ak r:=by grind [ak]
  rw[eb]at hk;by_cases hb:(b:Int)<s.len
  ·rw[List.getElem?_append_left (by simp_all)]at hk;have hk2:k=s.book:=by
    simp_all
   subst hk2;refine⟨N+1,?_⟩;rw[aa oL.eq_1];simp (disch:=omega) [↓if_pos,↓if_neg,hg]
  ·rw[List.getElem?_append_right (by simp_all)]at hk;simp only[List.length_replicate]at hk;obtain⟨M,e⟩:=ih (i+1) (b-s.len.toNat) (N+1) (lf-s.len) k (aT h) h2 (by omega) hk;refine⟨M,?_⟩;have c1:((i+1:Nat):Int)=(i:Int)+1:=rfl;have c2:((b-s.len.toNat:Nat):Int)=(b:Int)-s.len:=by omega
   have hbl:b<100000000:=by
    grind [lI]
   rw[c1,c2]at e;rw[aa oL.eq_1,←e];simp (disch:=omega) [↓if_pos,↓if_neg,hg]
theorem afr (g:List (List am)) (hl:g.length≤1000) (hl2:∀ l∈g,l.length≤1000) (m:Int) (hm:m≤1000) (hf:cB m g) (j b:Nat) (l:List am) (r:List (List am)) (hd:g.drop j=l::r) (k:Int) (hk:(ak l)[b]?=some k) :
  aM prog wY [.d (.lst (aK g)),.d (.int .i64 j),.d (.int .i64 b)]=some (.tup [.d (.int .i64 k),.d (.int .i64 0)]):=by
 have hg:=kr hd;have hlt:=bn hd;have hmem:l∈g:=by rw[←List.take_append_drop j g,hd];simp
 have hbl:b<100000000:=by
  have h6:=hf l hmem;rcases Int.le_total 0 m with h | h
  ·grind [lI]
  ·rcases Bh h6 with h7 | h7
   ·have:l=[]:=by cases l<;>grind
    grind [ak]
   grind [ak]
 obtain⟨M,e⟩:=akF l (hl2 l hmem) l 0 b 0 m k rfl (hf l hmem) hm hk;have c0:((0:Nat):Int)=0:=rfl;rw[c0]at e;rw[az alC Eg.eq_1 rfl];simp (disch:=omega) [↓if_neg,hg,e]
def pY (z:Int):Int:=if 0≤z then z else 0
theorem aaB {k n:Int}{r t:List Int}{w z:Int}(h:k=0→n≠0) (h1:k≠0→¬ gI k n w z):bH (k::r) (n::t) w z=none:=by
 grind [bH]
theorem ahC (c:cg) (hl:c.sects.length≤1000) (hl2:∀ l∈c.sects,l.length≤1000) (m:Int) (hm:0≤m∧m≤1000) (hf:cB m c.sects) (x23:AV) (y24 y25:D) (j:Nat) (l:List am) (rr:List (List am)) (hd:c.sects.drop j=l::rr) (t:List Int) (ht:t.length≤1000) (hbl:(ak l).length=t.length) (htI:∀ n∈t,i64 n) (N:Nat):∀ (r:List Int) (b:Nat) (w z:Int),t.drop b=r→my w→my z→
  ∃ H,(Dn prog).code (.loop dG) ⟨[(1,.ptr 0 0),(3,.d (.int .i64 w)),(4,.d (.int .i64 (pY z))),(5,.d (.bool (decide (0≤z)))),(6,.d (.int .i64 j)),(23,x23),(24,.d y24),(25,.d y25),(36,.d (.lst (ai t))),(37,.d (.int .i64 t.length)),(38,.d (.int .i64 b))],⟨[(0,.cells c.av)],N⟩⟩ =
  match bH ((ak l).drop b) r w z with
  | some (w,z)=>some (.exit 2,⟨[(1,.ptr 0 0),(3,.d (.int .i64 w)),(4,.d (.int .i64 (pY z))),(5,.d (.bool (decide (0≤z)))),(23,x23),(24,.d y24),(25,.d y25)],⟨[(0,.cells c.av)],N⟩⟩)
  | none=>some (.ret,⟨[(2,.d (.bool false))],⟨H,N⟩⟩):=by
 simp only[cg.av];intro r
 induction r with
 | nil =>
  intro b w z h hw hz;have hi:=bg h;refine⟨[],?_⟩;rw[aa dG.eq_1,List.drop_eq_nil_of_le (by omega),bH];simp (disch:=omega) [↓if_neg]
 | cons n r ih =>
  intro b w z h hw hz;have hg:=sP h;have hlt:=bn h;have hnI:=htI n (by rw[←List.take_append_drop b t,h];simp);have hblt:b<(ak l).length:=by omega
  have hkk:=List.drop_eq_getElem_cons hblt;obtain⟨k,hk⟩:∃ k,k=(ak l)[b]:=⟨_,rfl⟩
  have hk?:(ak l)[b]?=some k:=by simp_all
  have hmem:l∈c.sects:=by rw[←List.take_append_drop j c.sects,hd];simp
  have hkr:=ID (hf l hmem) k (by simp_all);rw[←hk]at hkk;have hB:=afr c.sects hl hl2 m hm.2 hf j b l rr hd k hk?;have c1:((b+1:Nat):Int)=(b:Int)+1:=rfl;rw[hkk];by_cases k0:k=0
  ·by_cases n0:n=0
   ·obtain⟨H,e⟩:=ih (b+1) w z (aT h) hw hz;refine⟨H,?_⟩;rw[c1]at e;have eR:bH (k::(ak l).drop (b+1)) (n::r) w z=bH ((ak l).drop (b+1)) r w z:=by grind [bH]
    rw[aa dG.eq_1,eR,←e];subst k0 n0;simp (disch:=omega) [↓if_pos,↓if_neg,hg,hB]
   ·refine⟨[],?_⟩;rw[aa dG.eq_1,aaB (fun _=>n0) (fun h=>absurd k0 h)];subst k0;simp (disch:=omega) [↓if_pos,↓if_neg,hg,hB]
  ·by_cases k13:k=13
   ·by_cases ho:gI k n w z
    ·have hn5:=KU ho;obtain⟨H,e⟩:=ih (b+1) w n (aT h) hw hn5;refine⟨H,?_⟩;unfold gI at ho;rw[if_pos k13]at ho;have hnn:pY n=n:=by grind [pY]
     rw[c1,hnn,decide_eq_true (show 0≤n by omega)]at e;have eR:bH (k::(ak l).drop (b+1)) (n::r) w z=bH ((ak l).drop (b+1)) r w n:=by grind [bH]
     rw[aa dG.eq_1,eR,←e];subst k13;by_cases hz0:0≤z
     ·have hzn:pY z=z:=by grind [pY]
      have hnr:=DO z n (by omega) (by omega);rw[decide_eq_true (show z-60≤n∧n≤z+60 by omega)]at hnr;rw[hzn,decide_eq_true hz0];simp (disch:=omega) [↓if_pos,↓if_neg,hg,hB,hnr]
     ·rw[decide_eq_false hz0];simp (disch:=omega) [↓if_pos,↓if_neg,hg,hB]
    ·refine⟨[],?_⟩;rw[aa dG.eq_1,aaB (fun h=>absurd h k0) (fun _=>ho)];unfold gI at ho;rw[if_pos k13]at ho;subst k13;by_cases b1:n<0
     ·simp (disch:=omega) [↓if_pos,↓if_neg,hg,hB]
     ·by_cases b2:511<n
      ·simp (disch:=omega) [↓if_pos,↓if_neg,hg,hB]
      ·have hz0:0≤z:=by omega
       have hzn:pY z=z:=by grind [pY]
       have hnr:=DO z n (by omega) (by omega);rw[decide_eq_false (show ¬ (z-60≤n∧n≤z+60) by omega)]at hnr;rw[hzn,decide_eq_true hz0];simp (disch:=omega) [↓if_pos,↓if_neg,hg,hB,hnr]
   ·by_cases ho:gI k n w z
    ·have hn5:=KU ho;obtain⟨H,e⟩:=ih (b+1) n z (aT h) hn5 hz;refine⟨H,?_⟩;have eR:bH (k::(ak l).drop (b+1)) (n::r) w z=bH ((ak l).drop (b+1)) r n z:=by grind [bH]
     unfold gI at ho;rw[if_neg k13]at ho;rw[c1]at e;have hnr:=DO w n (by omega) (by omega);rw[decide_eq_true (show w-60≤n∧n≤w+60 by omega)]at hnr;rw[aa dG.eq_1,eR,←e];simp (disch:=omega) [↓if_pos,↓if_neg,hg,hB,hnr]
    ·refine⟨[],?_⟩;rw[aa dG.eq_1,aaB (fun h=>absurd h k0) (fun _=>ho)];unfold gI at ho;rw[if_neg k13]at ho;by_cases b1:n<0
     ·simp (disch:=omega) [↓if_pos,↓if_neg,hg,hB]
     ·by_cases b2:255<n
      ·simp (disch:=omega) [↓if_pos,↓if_neg,hg,hB]
      ·have hnr:=DO w n (by omega) (by omega);rw[decide_eq_false (show ¬ (w-60≤n∧n≤w+60) by omega)]at hnr;simp (disch:=omega) [↓if_pos,↓if_neg,hg,hB,hnr]
theorem awk {bks:List Int}:∀ {t:List Int}{w z:Int}{fin:Int×Int},my w→my z→bH bks t w z=some fin→my fin.1∧my fin.2:=by
 induction bks with
 | nil =>
  grind [bH]
 | cons k r ih =>
  intro t w z fin hw hz h
  cases t with
  | nil=>grind [bH]
  | cons n t =>
   obtain⟨h1,h2,h3⟩:=j9 (by rw[h];simp)
   grind [fF]
theorem ahf (c:cg) (hc:c.Fit) (hm:c.info.may 11) (hf:cB c.info.max c.sects):∀ (gr:List (List am)) (sr:List (List Int)) (j N:Nat) (w z:Int),c.sects.drop j=gr→c.steps.drop j=sr→gr.length=sr.length→my w→my z→
  ∃ H M,(Dn prog).code (.loop iu) ⟨[(1,.ptr 0 0),(3,.d (.int .i64 w)),(4,.d (.int .i64 (pY z))),(5,.d (.bool (decide (0≤z)))),(23,.d (.lst (bu c.steps))),(24,.d (.int .i64 c.steps.length)),(25,.d (.int .i64 j))],⟨[(0,.cells c.av)],N⟩⟩ =
  match iC gr sr w z with
  | some _=>some (.exit 0,⟨[],⟨H,M⟩⟩)
  | none=>some (.ret,⟨[(2,.d (.bool false))],⟨H,M⟩⟩):=by
 have hmx:=jh hm;have hl1:=hc.steps.1;simp only[cg.av];intro gr
 induction gr with
 | nil =>
  intro sr j N w z hd hd2 he hw hz;have hi2:c.steps.length≤j:=by
   grind
  have hsr:sr=[]:=by grind
  refine⟨[],N,?_⟩;rw[aa iu.eq_1,hsr,iC];simp (disch:=omega) [↓if_pos,↓if_neg]
 | cons l r ih =>
  intro sr j N w z hd hd2 he hw hz
  cases sr with
  | nil=>simp at he
  | cons t s =>
   simp only[List.length_cons,Nat.add_right_cancel_iff]at he;have hgt:=LC hd2;have hlt2:=bn hd2;have hmt:t∈c.steps:=by rw[←List.take_append_drop j c.steps,hd2];simp
   have htl:=hc.steps.2 t hmt;have hml:l∈c.sects:=by rw[←List.take_append_drop j c.sects,hd];simp
   have hbk:=lI (hf l hml) hmx.1;have c0:((0:Nat):Int)=0:=rfl;rw[iC];by_cases hlen:(t.length:Int)=c.info.max
   ·obtain⟨H,e⟩:=ahC c hc.sects.1 hc.sects.2 c.info.max ⟨hmx.1,by omega⟩ hf (.d (.lst (bu c.steps))) (.int .i64 c.steps.length) (.int .i64 j) j l r hd t htl (by omega) (hc.stepI t hmt) N t 0 w z rfl hw hz;rw[c0,List.drop_zero]at e
    cases hrow:bH (ak l) t w z with
    | none =>
     rw[hrow]at e;refine⟨H,N,?_⟩;rw[aa iu.eq_1];simp (disch:=omega) [↓if_pos,hgt,e]
    | some fin =>
     rw[hrow]at e;obtain⟨f1,f2⟩:=awk hw hz hrow;obtain⟨H2,M2,e2⟩:=ih s (j+1) N fin.1 fin.2 (aT hd) (aT hd2) he f1 f2;refine⟨H2,M2,?_⟩;rw[aa iu.eq_1];rw[←e2];simp (disch:=omega) [↓if_pos,hgt,e]
   ·refine⟨[],N,?_⟩;have hn:bH (ak l) t w z=none:=by
     cases hrow:bH (ak l) t w z<;>grind [Se]
    rw[aa iu.eq_1,hn];simp (disch:=omega) [↓if_pos,↓if_neg,hgt]
instance {gain:Int}{g:List (List am)}{t:List (List Int)}:Decidable (sC gain g t):=by unfold sC;infer_instance
theorem aov (c:cg) (hc:c.Fit) (hm:c.info.may 11) (hgn:0≤c.gain∧c.gain≤255) (hs:fq c.info c.sects):aM prog tv [.agg c.av]=some (.d (.bool (decide (sC c.gain c.sects c.steps)))):=by
 have c0:((0:Nat):Int)=0:=rfl;have hnv:pY (-1)=0:=rfl;have hdf:decide ((0:Int)≤-1)=false:=rfl;rw[az ajh By.eq_1 rfl];by_cases h1:c.steps.length=c.info.groups.length
 ·obtain⟨H,M,e⟩:=ahf c hc hm hs.2 c.sects c.steps 0 1 c.gain (-1) rfl rfl (by omega) (by omega) (by omega);rw[c0,hnv,hdf]at e;by_cases hr:iC c.sects c.steps c.gain (-1)=none
  ·rw[hr]at e;rw[decide_eq_false (fun h=>h hr)];simp (disch:=omega) [↓if_pos,e]
  ·obtain⟨fin,hf⟩:=Option.ne_none_iff_exists'.1 hr;rw[hf]at e;rw[decide_eq_true hr];simp (disch:=omega) [↓if_pos,e]
 ·rw[decide_eq_false (fun h=>h1 (by grind [DK]))];simp (disch:=omega) [↓if_pos,↓if_neg]
theorem akr {h:ac}{l:List Int}{a b:Nat}(hab:a≤b) (hb:b≤l.length) (x y:Int) (hx:x=a) (hy:y=b):pw h 1 (.d (.lst (ai l))) (some (.d (.int .i64 x))) (some (.d (.int .i64 y))) none=some (.d (.lst (ai ((l.drop a).take (b-a))))):=by
 subst hx hy;have e1:cD (.d (.int .i64 (b:Int))) (ai l).length=some b:=by rw[DP (by omega) (by rw[eq];omega)];simp
 have e2:cD (.d (.int .i64 (a:Int))) b=some a:=by rw[DP (by omega) (by omega)];simp
 have e3:CJ 1 (ai l)=true:=by cases l<;>rfl
 simp only[pw,okSl,r5,lenOf,uD,qh,e1,e2,e3,sub];rw[arI,aqA]
theorem ajB {id:Nat}(hid:1≤id∧id≤11):di id≤8191:=(tD id (No hid)).2.2.2
theorem aqD (id:Nat) (hid:1≤id∧id≤11) (v:Int) (hv:i64 v):aM prog EK [.d (.int .i64 id),.d (.int .i64 v)]=some (.d (.bool (decide (v.natAbs≤di id)))):=by
 have i4:[[D.int .i64 v],[D.int .i64 0],[D.int .i64 0],[D.int .i64 0]]=ai [v,0,0,0]:=rfl;have i2:[[D.int .i64 v],[D.int .i64 0]]=ai [v,0]:=rfl;have hm:=ajB hid;have hz:EA (di id) 0=false:=by unfold EA;rw[decide_eq_false];omega
 have hf:EA (di id) v=!decide (v.natAbs≤di id):=by
  unfold EA;by_cases h:v.natAbs≤di id
  ·rw[decide_eq_true h,decide_eq_false (by omega)];rfl
  ·rw[decide_eq_false h,decide_eq_true (by omega)];rfl
 rw[az amo Ej.eq_1 rfl];by_cases h4:4<id
 ·have h:=Lk id hid [v,0] (by unfold aI;rw[if_neg (by omega)];rfl);simp only[List.any_cons,List.any_nil,hz,hf,Bool.or_false,Bool.not_not]at h;rw[←i2]at h;generalize decide (v.natAbs≤di id)=B at *;have hs:pw [] 1 (.own false 1 [[.int .i64 v],[.int .i64 0],[.int .i64 0],[.int .i64 0]]) none (some (.d (.int .i64 2))) none=some (.d (.lst [[.int .i64 v],[.int .i64 0]])):=rfl;simp (maxSteps:=300000) (disch:=omega) [↓if_pos,↓if_neg,hs,h]
 ·have h:=Lk id hid [v,0,0,0] (by unfold aI;rw[if_pos (by omega)];rfl);simp only[List.any_cons,List.any_nil,hz,hf,Bool.or_false,Bool.not_not]at h;rw[←i4]at h;generalize decide (v.natAbs≤di id)=B at *;simp (maxSteps:=300000) (disch:=omega) [↓if_pos,↓if_neg,h]
def jI:List Nat→Nat→Nat
 | [],_=>0
 | x::r,i=>if x≤i then jI r i+1 else 0
theorem agW (os:List Nat) (ho:os.length≤100) (X:Obj) (x4 x54:AV) (y10 y12 y16 y34 y35 y55 y56:D) (i:Nat) (hi:i≤1000) (hoI:∀ x∈os,x≤1000) (hp:HS):∀ (r:List Nat) (b:Nat),os.drop (b+1)=r→(∃ x∈r,i<x)→
  (Dn prog).code (.loop uv) ⟨[(4,x4),(8,.own false 1 (bf os)),(10,.d y10),(12,.d y12),(14,.d (.int .i64 b)),(15,.d (.int .i64 i)),(16,.d y16),(34,.d y34),(35,.d y35),(54,x54),(55,.d y55),(56,.d y56)],hp⟩ =
  some (.exit 4,⟨[(4,x4),(8,.own false 1 (bf os)),(10,.d y10),(12,.d y12),(14,.d (.int .i64 (b+jI r i:Nat))),(16,.d y16),(34,.d y34),(35,.d y35),(54,x54),(55,.d y55),(56,.d y56)],hp⟩):=by
 obtain⟨h,n⟩:=hp;intro r
 induction r with
 | nil=>intro b hd hx;obtain⟨x,hx,_⟩:=hx;simp at hx
 | cons x r ih =>
  intro b hd hx;have hlt:=bn hd;have hnx:nth os (b+1)=x:=by
   have h2:=kA (l:=os) hlt;rw[hd]at h2;injection h2 with h2;exact h2.symm
  have hg:(bf os)[b+1]?=some [.int .i64 (x:Int)]:=by rw[wA hlt,hnx]
  have hxI:=hoI x (by rw[←hnx];exact fk hlt);rw[aa uv.eq_1,jI];by_cases h1:x≤i
  ·have hx2:∃ y∈r,i<y:=by
    obtain⟨y,hy,h3⟩:=hx;rcases List.mem_cons.1 hy with e | e
    ·omega
    ·exact⟨y,e,h3⟩
   have h5:=ih (b+1) (aT hd) hx2;have c1:((b+1:Nat):Int)=(b:Int)+1:=rfl;rw[c1]at h5;rw[if_pos h1,show b+(jI r i+1)=b+1+jI r i by omega,←h5];simp (maxSteps:=300000) (disch:=omega) [↓if_pos,↓if_neg,hg]
  ·rw[if_neg h1];simp (maxSteps:=300000) (disch:=omega) [↓if_pos,↓if_neg,hg]
theorem U9 {l:List Nat}{i:Nat}:∀ {b:Nat},b≤l.length→(∀ x∈l.take b,x≤i)→jI l i=b+jI (l.drop b) i:=by
 induction l with
 | nil=>intro b hb h;simp at hb;subst hb;simp[jI]
 | cons x r ih =>
  intro b hb h
  cases b with
  | zero=>simp
  | succ b =>
   rw[jI,if_pos (h x (by simp)),ih (b:=b) (by simpa using hb) (fun y hy=>h y (by simp[hy])),List.drop_succ_cons];omega
theorem apl {l:List Nat}{i:Nat}:∀ x∈l.take (jI l i),x≤i:=by
 induction l with
 | nil=>intro x hx;simp at hx
 | cons y r ih =>
  intro x hx;rw[jI]at hx;by_cases h:y≤i
  ·rw[if_pos h,List.take_succ_cons]at hx;rcases List.mem_cons.1 hx with e | e
   ·omega
   ·exact ih x e
  ·rw[if_neg h]at hx;simp at hx
theorem at7 {l:List Nat}{i:Nat}:jI l i≤l.length:=by
 induction l with
 | nil=>simp[jI]
 | cons y r ih=>rw[jI];split<;>simp<;>omega
def Gk (tl:List Nat) (bks:List Int) (i:Nat) (v:Int):Prop:=v=0∨∃ k,bks[jI tl i]?=some k∧(1≤k∧k≤11)∧v.natAbs≤di k.toNat
def nW (tl:List Nat) (bks:List Int):Nat→List Int→Prop
 | _,[]=>True
 | i,v::r=>Gk tl bks i v∧nW tl bks (i+1) r
theorem aht (c:cg) (hc:c.Fit) (hm:c.info.may 11) (hf:cB c.info.max c.sects) (os:List Nat) (ho:os.length≤100) (hoI:∀ x∈os,x≤1000) (hne:os≠[]) (y10 y34 y35:D) (j:Nat) (l:List am) (rr:List (List am)) (hd:c.sects.drop j=l::rr) (ls:List Int) (hls:ls.length≤1000) (hlI:∀ v∈ls,i64 v) (hlast:∀ i,i<ls.length→∃ x∈os.drop 1,i<x) (N:Nat):∀ (r:List Int) (i b:Nat),ls.drop i=r→b≤(os.drop 1).length→(∀ x∈(os.drop 1).take b,x≤i)→
  (nW (os.drop 1) (ak l) i r∧(Dn prog).code (.loop co) ⟨[(4,.ptr 0 0),(8,.own false 1 (bf os)),(10,.d y10),(12,.d (.int .i64 j)),(14,.d (.int .i64 b)),(34,.d y34),(35,.d y35),(54,.d (.lst (ai ls))),(55,.d (.int .i64 ls.length)),(56,.d (.int .i64 i))],⟨[(0,.cells c.av)],N⟩⟩ =
   some (.exit 2,⟨[(4,.ptr 0 0),(8,.own false 1 (bf os)),(10,.d y10),(34,.d y34),(35,.d y35)],⟨[(0,.cells c.av)],N⟩⟩))∨
  (¬ nW (os.drop 1) (ak l) i r∧(Dn prog).code (.loop co) ⟨[(4,.ptr 0 0),(8,.own false 1 (bf os)),(10,.d y10),(12,.d (.int .i64 j)),(14,.d (.int .i64 b)),(34,.d y34),(35,.d y35),(54,.d (.lst (ai ls))),(55,.d (.int .i64 ls.length)),(56,.d (.int .i64 i))],⟨[(0,.cells c.av)],N⟩⟩ =
   some (.ret,⟨[(6,.d (.bool false))],⟨[],N⟩⟩)):=by
 have hmx:=jh hm;have hml:l∈c.sects:=by rw[←List.take_append_drop j c.sects,hd];simp
 have hbk:=lI (hf l hml) hmx.1;simp only[cg.av];intro r
 induction r with
 | nil =>
  intro i b h hb hx;have hi:=bg h;refine .inl ⟨trivial,?_⟩;rw[aa co.eq_1];simp (maxSteps:=300000) (disch:=omega) [↓if_pos,↓if_neg]
 | cons v r ih =>
  intro i b h hb hx;have hg:=sP h;have hlt:=bn h;have hvI:=hlI v (by rw[←List.take_append_drop i ls,h];simp);have c1:((i+1:Nat):Int)=(i:Int)+1:=rfl;by_cases v0:v=0
  ·have h5:=ih (i+1) b (aT h) hb fun x hx2=>by have:=hx x hx2;omega
   rw[c1]at h5;have hL:Gk (os.drop 1) (ak l) i v:=.inl v0;rw[nW];subst v0;rcases h5 with ⟨e1,e2⟩ | ⟨e1,e2⟩
   ·refine .inl ⟨⟨hL,e1⟩,?_⟩;rw[aa co.eq_1,←e2];simp (maxSteps:=300000) (disch:=omega) [↓if_pos,↓if_neg,hg]
   ·refine .inr ⟨fun h=>e1 h.2,?_⟩;rw[aa co.eq_1,←e2];simp (maxSteps:=300000) (disch:=omega) [↓if_pos,↓if_neg,hg]
  ·have hsk:=U9 hb hx;have hdd:os.drop (b+1)=(os.drop 1).drop b:=by rw[List.drop_drop];congr 1;omega
   have hex:∃ x∈os.drop (b+1),i<x:=by
    obtain⟨x,hx1,hx2⟩:=hlast i hlt;rw[←List.take_append_drop b (os.drop 1)]at hx1;rcases List.mem_append.1 hx1 with h1 | h1
    ·have:=hx x h1;omega
    ·exact⟨x,by rw[hdd];exact h1,hx2⟩
   have h0:=agW os ho (.cells c.av) (.ptr 0 0) (.d (.lst (ai ls))) y10 (.int .i64 j) (.int .i64 v) y34 y35 (.int .i64 ls.length) (.int .i64 i) i (by omega) hoI ⟨[(0,.cells c.av)],N⟩ (os.drop (b+1)) b rfl hex;rw[hdd,←hsk]at h0;have hbl:=at7 (l:=os.drop 1) (i:=i);have hbt:=apl (l:=os.drop 1) (i:=i);have hol:(os.drop 1).length≤100:=by simp;omega
   obtain⟨B,hB⟩:∃ B,B=jI (os.drop 1) i:=⟨_,rfl⟩
   have h5:=ih (i+1) B (aT h) (by omega) fun x hx2=>by rw[hB]at hx2;have:=hbt x hx2;omega
   rw[c1]at h5;simp only[cg.av]at h0;rw[nW];unfold Gk;rw[←hB]at h0⊢;by_cases hBm:(B:Int)<c.info.max
   ·have hBl:B<(ak l).length:=by omega
    obtain⟨k,hk⟩:∃ k,(ak l)[B]?=some k:=⟨_,List.getElem?_eq_getElem hBl⟩
    have hBk:=afr c.sects hc.sects.1 hc.sects.2 c.info.max (by omega) hf j B l rr hd k hk;rw[hk];by_cases hk1:1≤k∧k≤11
    ·obtain⟨K,rfl⟩:=Int.eq_ofNat_of_zero_le (show 0≤k by omega);have hft:=aqD K (by omega) v hvI;by_cases hfit:v.natAbs≤di K
     ·rw[decide_eq_true hfit]at hft;have hL:v=0∨∃ k,some (K:Int)=some k∧(1≤k∧k≤11)∧v.natAbs≤di k.toNat:=.inr ⟨K,rfl,hk1,by simpa using hfit⟩;rcases h5 with ⟨e1,e2⟩ | ⟨e1,e2⟩
      ·refine .inl ⟨⟨hL,e1⟩,?_⟩;rw[aa co.eq_1,←e2];simp (maxSteps:=300000) (disch:=omega) [↓if_pos,↓if_neg,hg,h0,hBk,hft]
      ·refine .inr ⟨fun h=>e1 h.2,?_⟩;rw[aa co.eq_1,←e2];simp (maxSteps:=300000) (disch:=omega) [↓if_pos,↓if_neg,hg,h0,hBk,hft]
     ·rw[decide_eq_false hfit]at hft;refine .inr ⟨fun h=>?_,?_⟩
      ·rcases h.1 with h | ⟨k,h1,h2,h3⟩
       ·exact v0 h
       ·injection h1 with h1;subst h1;exact hfit (by simpa using h3)
      ·rw[aa co.eq_1];simp (maxSteps:=300000) (disch:=omega) [↓if_pos,↓if_neg,hg,h0,hBk,hft]
    ·have hn:¬ ((v=0∨∃ k',some k=some k'∧(1≤k'∧k'≤11)∧v.natAbs≤di k'.toNat)∧nW (os.drop 1) (ak l) (i+1) r):=fun h=>by
      rcases h.1 with h | ⟨k',h1,h2,h3⟩
      ·exact v0 h
      ·injection h1 with h1;subst h1;exact hk1 h2
     refine .inr ⟨hn,?_⟩;rw[aa co.eq_1];by_cases hk0:k<1
     ·simp (maxSteps:=300000) (disch:=omega) [↓if_pos,↓if_neg,hg,h0,hBk]
     ·simp (maxSteps:=300000) (disch:=omega) [↓if_pos,↓if_neg,hg,h0,hBk]
   ·have hBl:(ak l)[B]?=none:=List.getElem?_eq_none (by omega);rw[hBl];refine .inr ⟨fun h=>?_,?_⟩
    ·rcases h.1 with h | ⟨k',h1,h2,h3⟩
     ·exact v0 h
     ·exact absurd h1 (by simp)
    ·rw[aa co.eq_1];simp (maxSteps:=300000) (disch:=omega) [↓if_pos,↓if_neg,hg,h0]
theorem aq7:∀ {l:List Int}{w:Int},w<l.sum→(∀ n∈l,1≤n)→0≤w→ja l w<l.length
 | [],w,h,_,h0=>by grind
 | n::r,w,h,hn,h0=>by
  rw[ja];split
  ·simp
  ·have:=aq7 (l:=r) (w:=w-n) (by grind) (fun m hm=>hn m (.tail _ hm)) (by omega)
   simp_all
def al.wide (i:al):Nat:=if i.seq=2 then 32 else 256
def uk (c:cg) (w:Nat):List Int:=(c.lines.drop (w*c.info.wide)).take c.info.wide
def tF (c:cg) (w:Nat):List am:=c.sects.getD (ja c.info.groups w) []
def BX (r:Nat) (c:cg):Nat→Nat→Prop
 | 0,_=>True
 | k+1,w=>nW ((offs r c.info.short).drop 1) (ak (tF c w)) 0 (uk c w)∧BX r c k (w+1)
abbrev NU (r:Nat) (c:cg):Prop:=c.lines.length=256∧BX r c c.info.many 0
theorem DV:∀ x∈z7,((offs x.1 x.2).drop 1).contains (cond x.2 32 256)=true∧(offs x.1 x.2).all (fun y=>decide (y≤1000))=true∧(offs x.1 x.2).length≤64∧1≤(offs x.1 x.2).length:=by decide +kernel
theorem ahI (rt:Nat) (hrt:rt≤11) (c:cg) (hc:c.Fit) (hm:c.info.may 11) (hs:fq c.info c.sects) (hl:c.lines.length=256) (N:Nat):∀ (k w:Nat),w+k=c.info.many→
  (BX rt c k w∧∃ H,(Dn prog).code (.loop fG) ⟨[(4,.ptr 0 0),(8,.own false 1 (bf (offs rt c.info.short))),(10,.d (.int .i64 c.info.wide)),(34,.d (.int .i64 c.info.many)),(35,.d (.int .i64 w))],⟨[(0,.cells c.av)],N⟩⟩=some (.exit 0,⟨[],⟨H,N⟩⟩))∨
  (¬ BX rt c k w∧(Dn prog).code (.loop fG) ⟨[(4,.ptr 0 0),(8,.own false 1 (bf (offs rt c.info.short))),(10,.d (.int .i64 c.info.wide)),(34,.d (.int .i64 c.info.many)),(35,.d (.int .i64 w))],⟨[(0,.cells c.av)],N⟩⟩=some (.ret,⟨[(6,.d (.bool false))],⟨[],N⟩⟩)):=by
 have hmm:c.info.many*c.info.wide=256∧c.info.many≤8∧c.info.wide≤256∧1≤c.info.many:=by grind [al.many,al.wide]
 obtain⟨m1,m2,m3,m4⟩:=hmm;obtain⟨o1,o2,o3,o4⟩:=DV (rt,c.info.short) (dQ (by omega));simp only at o1 o2 o3 o4;obtain⟨g1,g2⟩:=b6 hm;have hoI:∀ x∈offs rt c.info.short,x≤1000:=fun x hx=>by simp_all
 have hcond:(cond c.info.short 32 256:Nat)=c.info.wide:=by
  grind [al.short,al.wide]
 rw[hcond]at o1;have hlast:∀ i,i<c.info.wide→∃ x∈(offs rt c.info.short).drop 1,i<x:=fun i hi=>⟨c.info.wide,by simp_all,hi⟩
 intro k
 induction k with
 | zero =>
  intro w hw;refine .inl ⟨trivial,[],?_⟩;rw[aa fG.eq_1];simp (disch:=omega) [↓if_pos,↓if_neg]
 | succ k ih =>
  intro w hw;have hG:=Io c.info hc.info hm w (by omega) (by omega);have hgl:=aq7 (l:=c.info.groups) (w:=w) (by omega) (fun n hn=>(g1 n hn).1) (by omega);obtain⟨G,hGe⟩:∃ G,G=ja c.info.groups w:=⟨_,rfl⟩
  rw[←hGe]at hG hgl;have hGs:G<c.sects.length:=by omega
  have hsa:tF c w=c.sects[G]:=by grind [tF]
  have hd:=List.drop_eq_getElem_cons hGs;have hwl:w*c.info.wide+c.info.wide≤256:=by
   grind
  have hwn:(uk c w).length=c.info.wide:=by unfold uk;rw[List.length_take,List.length_drop];omega
  have hwI:∀ v∈uk c w,i64 v:=fun v hv=>hc.lineI v (List.mem_of_mem_drop (List.mem_of_mem_take hv))
  have h1:=aht c hc hm hs.2 (offs rt c.info.short) (by omega) hoI (by grind) (.int .i64 c.info.wide) (.int .i64 c.info.many) (.int .i64 w) G c.sects[G] _ hd (uk c w) (by omega) hwI (fun i hi=>hlast i (by omega)) N (uk c w) 0 0 rfl (by omega) (by simp);have h2:=ih (w+1) (by omega);have c1:((w+1:Nat):Int)=(w:Int)+1:=rfl;have c0:((0:Nat):Int)=0:=rfl;rw[c1]at h2;rw[c0]at h1;rw[hwn]at h1;have hmul:(w:Int)*c.info.wide=((w*c.info.wide:Nat):Int):=by omega
  have hmul2:((w:Int)+1)*c.info.wide=((w*c.info.wide+c.info.wide:Nat):Int):=by grind
  have hsl:=akr (h:=[(0,.cells c.av)]) (l:=c.lines) (a:=w*c.info.wide) (b:=w*c.info.wide+c.info.wide) (by omega) (by omega) ((w:Int)*c.info.wide) (((w:Int)+1)*c.info.wide) hmul hmul2;rw[Nat.add_sub_cancel_left]at hsl;have hW:((c.lines.drop (w*c.info.wide)).take c.info.wide)=uk c w:=rfl;rw[hW]at hsl;have hlw:=eq (l:=uk c w);rw[hwn]at hlw;rw[BX,hsa];simp only[cg.av,al.cells]at h1 h2 hsl hG⊢;rcases h1 with ⟨e1,e2⟩ | ⟨e1,e2⟩
  ·rcases h2 with ⟨f1,H,f2⟩ | ⟨f1,f2⟩
   ·refine .inl ⟨⟨e1,f1⟩,H,?_⟩;rw[aa fG.eq_1,←f2];simp (disch:=omega) [↓if_pos,hG,hsl,hlw,e2]
   ·refine .inr ⟨fun h=>f1 h.2,?_⟩;rw[aa fG.eq_1,←f2];simp (disch:=omega) [↓if_pos,hG,hsl,hlw,e2]
  ·refine .inr ⟨fun h=>e1 h.1,?_⟩;rw[aa fG.eq_1];simp (disch:=omega) [↓if_pos,hG,hsl,hlw,e2]
theorem aoK (rt:Nat) (hrt:rt≤11) (c:cg) (hc:c.Fit) (hm:c.info.may 11) (hs:fq c.info c.sects):(NU rt c∧aM prog oB [.d (.int .i64 rt),.agg c.av,.d (.int .i64 c.info.many)]=some (.d (.bool true)))∨(¬ NU rt c∧aM prog oB [.d (.int .i64 rt),.agg c.av,.d (.int .i64 c.info.many)]=some (.d (.bool false))):=by
 have hof:=ug rt c.info.short;rw[az ai5 Bn.eq_1 rfl];by_cases hl:c.lines.length=256
 ·have h0:=ahI rt hrt c hc hm hs hl 1 c.info.many 0 (by omega);have c0:((0:Nat):Int)=0:=rfl;rw[c0]at h0;have hq:(256:Int).tdiv c.info.many=c.info.wide:=by grind [al.many,al.wide]
  have hmm:1≤c.info.many∧c.info.many≤8∧c.info.wide≤256:=by grind [al.many]
  by_cases hs2:c.info.seq=2
  ·have hsh:c.info.short=true:=decide_eq_true hs2;rw[hsh]at hof h0;rcases h0 with ⟨e1,H,e2⟩ | ⟨e1,e2⟩
   ·refine .inl ⟨⟨hl,e1⟩,?_⟩;simp (disch:=omega) [↓if_pos,hof,hq,e2]
   ·refine .inr ⟨fun h=>e1 h.2,?_⟩;simp (disch:=omega) [↓if_pos,hof,hq,e2]
  ·have hsh:c.info.short=false:=decide_eq_false hs2;rw[hsh]at hof h0;rcases h0 with ⟨e1,H,e2⟩ | ⟨e1,e2⟩
   ·refine .inl ⟨⟨hl,e1⟩,?_⟩;simp (disch:=omega) [↓if_pos,↓if_neg,hof,hq,e2]
   ·refine .inr ⟨fun h=>e1 h.2,?_⟩;simp (disch:=omega) [↓if_pos,↓if_neg,hof,hq,e2]
 ·refine .inr ⟨fun h=>hl h.1,?_⟩;simp (disch:=omega) [↓if_pos,↓if_neg]
abbrev asy:List AV:=[.fn ph [] [.ptr 1 0],.fn oG [] [.ptr 1 0],.fn oS [] [.ptr 1 0],.fn oJ [] [.ptr 1 0,.ptr 2 0],.fn pn [] [.ptr 0 0,.ptr 1 0,.ptr 2 0]]
abbrev pU (rt:Int) (c:cg):ac:=[(0,.cells [.d (.int .i64 rt)]),(1,.cells c.av),(2,.cells [.d (.int .i64 c.info.many)]),(3,.cells asy)]
theorem oM (rt:Int) (c:cg) (N i:Nat) (hi:i<5) (F:AV) (hF:asy[i]?=some F) (hF2:firm (firm (firm (share F)))=F) (B:Bool) (hB:bc (Dn prog) F [] ⟨pU rt c,N⟩=some (.d (.bool B),⟨pU rt c,N⟩)) :
  (Dn prog).code (.loop fO) ⟨[(28,.sl 3 0 5),(29,.d (.int .i64 5)),(30,.d (.int .i64 i))],⟨pU rt c,N⟩⟩ =
  if B=true then (Dn prog).code (.loop fO) ⟨[(28,.sl 3 0 5),(29,.d (.int .i64 5)),(30,.d (.int .i64 ((i+1:Nat):Int)))],⟨pU rt c,N⟩⟩ else some (.ret,⟨[(4,.d (.int .i64 8))],⟨pU rt c,N⟩⟩):=by
 have c1:((i+1:Nat):Int)=(i:Int)+1:=rfl;obtain⟨hlt,e⟩:=List.getElem?_eq_some_iff.1 hF;rw[c1,aa fO.eq_1]
 cases B with
 | true =>
  simp (disch:=omega) [↓if_pos,↓if_neg,e,hF2,hB]
 | false =>
  simp (disch:=omega) [↓if_pos,↓if_neg,e,hF2,hB]
theorem avz (rt:Int) (c:cg) (N:Nat):(Dn prog).call ph [.ptr 1 0] ⟨pU rt c,N⟩=some (.d (.bool (decide (0≤c.gain∧c.gain≤255))),⟨pU rt c,N⟩):=by
 rw[aD aaC v7.eq_1 rfl];by_cases h1:0≤c.gain
 ·by_cases h2:c.gain≤255
  ·rw[decide_eq_true ⟨h1,h2⟩];simp (disch:=omega) [↓if_pos,↓if_neg]
  ·rw[decide_eq_false (fun h=>h2 h.2)];simp (disch:=omega) [↓if_pos,↓if_neg]
 ·rw[decide_eq_false (fun h=>h1 h.1)];simp (disch:=omega) [↓if_pos,↓if_neg]
theorem avA (rt:Int) (c:cg) (N:Nat) (B:Bool) (h:aM prog nv [.agg c.av]=some (.d (.bool B))):(Dn prog).call oG [.ptr 1 0] ⟨pU rt c,N⟩=some (.d (.bool B),⟨pU rt c,N⟩):=by
 rw[aD adf v9.eq_1 rfl];simp (disch:=omega) [h]
theorem awo (rt:Int) (c:cg) (N:Nat) (B:Bool) (h:aM prog tv [.agg c.av]=some (.d (.bool B))):(Dn prog).call oS [.ptr 1 0] ⟨pU rt c,N⟩=some (.d (.bool B),⟨pU rt c,N⟩):=by
 rw[aD aaj wb.eq_1 rfl];simp (disch:=omega) [h]
theorem awm (rt:Int) (c:cg) (N:Nat) (B:Bool) (h:aM prog oO [.agg c.av,.d (.int .i64 c.info.many)]=some (.d (.bool B))):(Dn prog).call oJ [.ptr 1 0,.ptr 2 0] ⟨pU rt c,N⟩=some (.d (.bool B),⟨pU rt c,N⟩):=by
 rw[aD aab vW.eq_1 rfl];simp (disch:=omega) [h]
theorem amM (rt:Int) (c:cg) (N:Nat) (B:Bool) (h:aM prog oB [.d (.int .i64 rt),.agg c.av,.d (.int .i64 c.info.many)]=some (.d (.bool B))):(Dn prog).call pn [.ptr 0 0,.ptr 1 0,.ptr 2 0] ⟨pU rt c,N⟩=some (.d (.bool B),⟨pU rt c,N⟩):=by
 rw[aD Z7 wz.eq_1 rfl];simp (disch:=omega) [h]
structure wg (r:Nat) (c:cg):Prop where
 gain:0≤c.gain∧c.gain≤255
 info:c.info.may r
 sects:fq c.info c.sects
 steps:sC c.gain c.sects c.steps
 tns:NZ c.info c.tns
 lines:NU r c
theorem GV {f:FuncId}{caps:List AV}{h:ac}{N:Nat}:bc (Dn prog) (.fn f [] caps) [] ⟨h,N⟩=(Dn prog).call f caps ⟨h,N⟩:=by simp
theorem Xo (rt:Int) (c:cg) (hc:c.Fit):(ct rt∧wg rt.toNat c∧aM prog dh [.d (.int .i64 rt),.agg c.av]=some (.d (.int .i64 0)))∨
  (ct rt∧¬ wg rt.toNat c∧aM prog dh [.d (.int .i64 rt),.agg c.av]=some (.d (.int .i64 8)))∨(¬ ct rt∧aM prog dh [.d (.int .i64 rt),.agg c.av]=some (.d (.int .i64 2))):=by
 have hi:=pk rt c.info hc.info;have hw:=jr c.info hc.info;simp only[al.cells]at hi hw;by_cases hr:ct rt
 ·rw[if_pos hr]at hi;by_cases hm:c.info.may rt.toNat
  ·rw[if_pos hm]at hi;have hm11:=im (by omega) hm;rw[if_pos hm11]at hw;have hmm:c.info.many≤8:=by grind [al.many]
   have cI:(rt.toNat:Int)=rt:=by omega
   have c0:((0:Nat):Int)=0:=rfl;have fin:∀ (e:Int) (X:Option (aX×St)),(Dn prog).code (.loop fO) ⟨[(28,.sl 3 0 5),(29,.d (.int .i64 5)),(30,.d (.int .i64 ((0:Nat):Int)))],⟨pU rt c,4⟩⟩=X→(X=some (.exit 0,⟨[],⟨pU rt c,4⟩⟩)∧e=0∨X=some (.ret,⟨[(4,.d (.int .i64 8))],⟨pU rt c,4⟩⟩)∧e=8)→aM prog dh [.d (.int .i64 rt),.agg c.av]=some (.d (.int .i64 e)):=by
    intro e X h hX;rw[c0]at h;simp only[pU,asy,cg.av]at h hX;rw[az Cl ou.eq_1 rfl];rcases hX with ⟨rfl,rfl⟩ | ⟨rfl,rfl⟩
    ·simp (disch:=omega) [↓if_pos,↓if_neg,hi,hw,DX,h]
    ·simp (disch:=omega) [↓if_pos,↓if_neg,hi,hw,DX,h]
   have s1:=oM rt c 4 0 (by omega) _ rfl rfl _ (GV.trans (avz rt c 4));by_cases b1:0≤c.gain∧c.gain≤255
   ·rw[if_pos (decide_eq_true b1)]at s1;have s2:=oM rt c 4 (0+1) (by omega) _ rfl rfl _ (GV.trans (avA rt c 4 _ (ahA c hc hm11)));rw[s2]at s1;by_cases b2:fq c.info c.sects
    ·rw[if_pos (decide_eq_true b2)]at s1;have s3:=oM rt c 4 (0+1+1) (by omega) _ rfl rfl _ (GV.trans (awo rt c 4 _ (aov c hc hm11 b1 b2)));rw[s3]at s1;by_cases b3:sC c.gain c.sects c.steps
     ·rw[if_pos (decide_eq_true b3)]at s1;have s4:=oM rt c 4 (0+1+1+1) (by omega) _ rfl rfl _ (GV.trans (awm rt c 4 _ (ak9 c hc c.info.many hmm)));rw[s4]at s1;by_cases b4:NZ c.info c.tns
      ·rw[if_pos (decide_eq_true b4)]at s1;have hL:=aoK rt.toNat (by omega) c hc hm11 b2;rw[cI]at hL;rcases hL with ⟨b5,h5⟩ | ⟨b5,h5⟩
       ·have s5:=oM rt c 4 (0+1+1+1+1) (by omega) _ rfl rfl _ (GV.trans (amM rt c 4 _ h5));rw[s5]at s1;have s6:(Dn prog).code (.loop fO) ⟨[(28,.sl 3 0 5),(29,.d (.int .i64 5)),(30,.d (.int .i64 ((0+1+1+1+1+1:Nat):Int)))],⟨pU rt c,4⟩⟩=some (.exit 0,⟨[],⟨pU rt c,4⟩⟩):=by
         have c5:((0+1+1+1+1+1:Nat):Int)=5:=rfl;rw[c5,aa fO.eq_1];simp (disch:=omega) [↓if_neg]
        rw[s6]at s1;exact .inl ⟨hr,⟨b1,hm,b2,b3,b4,b5⟩,fin 0 _ s1 (.inl ⟨rfl,rfl⟩)⟩
       ·have s5:=oM rt c 4 (0+1+1+1+1) (by omega) _ rfl rfl _ (GV.trans (amM rt c 4 _ h5))
        grind [wg.lines]
      grind [wg.tns]
     grind [wg.steps]
    grind [wg.sects]
   grind [wg.gain]
  ·refine .inr (.inl ⟨hr,fun h=>hm h.info,?_⟩);rw[az Cl ou.eq_1 rfl];simp (disch:=omega) [↓if_pos,↓if_neg,hi]
 ·refine .inr (.inr ⟨hr,?_⟩);rw[az Cl ou.eq_1 rfl];simp (disch:=omega) [↓if_pos,↓if_neg,hi]
theorem aCy {n:Int}{k P:Nat}(hP:2 ^ k=P) (hk:k≤62):cZ .and (.d (.int .i64 n)) (.d (.int .i64 ((P:Int)-1)))=some (.int .i64 (n % P)):=by
 have h1:2 ^ k≤2 ^ 62:=Nat.pow_le_pow_right (by omega) hk;have h2:=Nat.two_pow_pos k;have hd:(P:Int) ∣ 18446744073709551616:=by
  subst hP;have:(2:Nat) ^ k ∣ 2 ^ 64:=Nat.pow_dvd_pow 2 (by omega);have:=Int.natCast_dvd_natCast.2 this;simpa using this
 have e0:0≤n % 18446744073709551616:=Int.emod_nonneg _ (by omega);have e1:n % 18446744073709551616 % P=n % P:=Int.emod_emod_of_dvd n hd;refine mF ?_;rw[iB (by simp) (by simp)];have c:(P:Int)-1=((P-1:Nat):Int):=by omega
 rw[c];simp only[fB,Cc,BitVec.toNat_and,E3 (show P-1<kB .i64 by simp[kB,IntKind.signed];omega)];have e2:((2 ^ IntKind.i64.bits:Nat):Int)=18446744073709551616:=rfl;rw[BitVec.toNat_ofInt,e2];subst hP;rw[Nat.and_two_pow_sub_one_eq_mod];have h3:(n % 18446744073709551616).toNat % 2 ^ k<2 ^ k:=Nat.mod_lt _ h2;rw[aog (by simp[kB,IntKind.signed];omega),Int.natCast_emod];have e3:(((n % 18446744073709551616).toNat:Nat):Int)=n % 18446744073709551616:=by omega
 rw[e3,e1]
theorem aew {hp:AV→ac}{p N:Nat}(H:Hv hp p) {b:List Nat}(hb:b.length≤900000000) (n:Int) (s:Nat) (hs:s≤31) (hn:i64 n) (sI:Int) (es:sI=s) :
  (Dn prog).call iA [.d (.int .i64 n),.d (.int .i64 sI),.ptr p 0] ⟨hp (.own false 1 (af b)),N⟩=some (.tup [],⟨hp (.own false 1 (af (b++aj (n % ((2 ^ s:Nat):Int)).toNat s))),N⟩):=by
 subst es;have h31:2 ^ s≤2 ^ 31:=Nat.pow_le_pow_right (by omega) hs;have h2:=Nat.two_pow_pos s;have q1:=NJ (m:=s) (by omega);have q2:=aCy (n:=n) (k:=s) rfl (by omega);have e0:0≤n % ((2 ^ s:Nat):Int):=Int.emod_nonneg _ (by omega);have e1:n % ((2 ^ s:Nat):Int)<((2 ^ s:Nat):Int):=Int.emod_lt_of_pos _ (by omega);have h1:=jq b (n % ((2 ^ s:Nat):Int)) s hb (by omega) _ (.inl rfl);rw[if_pos (by simp only[np,Int.toNat_natCast];omega)]at h1;simp only[Int.toNat_natCast]at h1;generalize n % ((2 ^ s:Nat):Int)=Q at *;generalize 2 ^ s=P at *;rw[aD XG tQ.eq_1 rfl];simp (maxSteps:=300000) (disch:=omega) [H.get,H.put,-nR,q1,q2,h1]
def cN (f:aV):Bool:=decide (∀ c∈f.coefs,-(bD f.fine / 2)≤c∧c<bD f.fine / 2)
def cK (fine:Bool):Nat:=if fine then 4 else 3
def bL (b:Bool):Nat:=if b then 1 else 0
def l7 (f:aV):Nat:=cK f.fine-bL (cN f)
def kw (w:Nat) (l:List Int):List Nat:=l.flatMap fun c=>aj (c % ((2 ^ w:Nat):Int)).toNat w
def aL (sh:Bool):Nat:=if sh then 4 else 6
def aJ (sh:Bool):Nat:=if sh then 3 else 5
def bY (sh:Bool):Nat:=if sh then 1 else 2
def lv (sh:Bool) (f:aV):List Nat:=aj f.len.toNat (aL sh)++(aj f.order.toNat (aJ sh)++if f.order=0 then [] else aj (bL f.down) 1++(aj (bL (cN f)) 1++kw (l7 f) f.coefs))
def rS (sh:Bool) (l:List aV):List Nat:=aj l.length (bY sh)++match l with
 | []=>[]
 | f0::_=>aj (bL f0.fine) 1++l.flatMap (lv sh)
def fV (sh:Bool) (t:List (List aV)):List Nat:=t.flatMap (rS sh)
abbrev Ri (sh:Bool) (v:AV):ac:=[(0,.cells [v]),(2,.cells (gY sh))]
abbrev Sf (full:List (List aV)) (i:Int) (r:ao):ao:=(3,.ptr 0 0)::(9,.fn iA [] [.ptr 0 0])::(10,.ptr 2 0)::(30,.d (.lst (bt full)))::(31,.d (.int .i64 full.length))::(32,.d (.int .i64 i))::r
theorem ask (sh:Bool):Hv (Ri sh) 0:=⟨fun v=>by simp,fun v w=>by simp⟩
theorem Yy {w:Nat}:∀ {l:List Int},(kw w l).length=w*l.length
 | []=>by simp[kw]
 | c::r=>by
  have:=Yy (w:=w) (l:=r);rw[kw]at this⊢;rw[List.flatMap_cons,List.length_append,d9,List.length_cons,this,Nat.mul_add];omega
theorem axU (sh:Bool) (full:List (List aV)) (i:Int) (l:List aV) (k:Int) (nw:Bool) (w:Nat) (hw:1≤w-bL nw∧w≤4) (cs:List Int) (hcs:cs.length≤100) (hcI:∀ c∈cs,i64 c) (N:Nat):∀ (r:List Int) (j:Nat) (b:List Nat),cs.drop j=r→b.length+4*r.length≤900000000→
  (Dn prog).code (.loop lZ) ⟨(3,.ptr 0 0)::(9,.fn iA [] [.ptr 0 0])::(10,.ptr 2 0)::(15,.d (.int .i64 w))::(16,.d (.bool nw))::(30,.d (.lst (bt full)))::(31,.d (.int .i64 full.length))::(32,.d (.int .i64 i))::[(52,.d (.lst (bX l))),(53,.d (.int .i64 l.length)),(54,.d (.int .i64 k)),(91,.d (.lst (ai cs))),(92,.d (.int .i64 cs.length)),(93,.d (.int .i64 j))],⟨Ri sh (.own false 1 (af b)),N⟩⟩ =
  some (.exit 4,⟨Sf full i [(52,.d (.lst (bX l))),(53,.d (.int .i64 l.length)),(54,.d (.int .i64 k))],⟨Ri sh (.own false 1 (af (b++kw (w-bL nw) r))),N⟩⟩):=by
 intro r
 induction r with
 | nil =>
  intro j b hd hb;have hi:=bg hd;rw[aa lZ.eq_1];simp (maxSteps:=300000) (disch:=omega) [↓if_neg,kw]
 | cons c r ih =>
  intro j b hd hb;simp only[List.length_cons]at hb;have hg:=sP hd;have hlt:=bn hd;have hcc:=hcI c (by rw[←List.take_append_drop j cs,hd];simp);have hbit:=xf nw;have hbI:((bL nw:Nat):Int)=if nw=true then 1 else 0:=by cases nw<;>rfl
  rw[←hbI]at hbit;have hbb:bL nw≤1:=by cases nw<;>decide
  have hp:=aew (ask sh) (N:=N) (b:=b) (by omega) c (w-bL nw) (by omega) hcc ((w:Int)-bL nw) (by omega);have h5:=ih (j+1) (b++aj (c % ((2 ^ (w-bL nw):Nat):Int)).toNat (w-bL nw)) (aT hd) (by simp;omega);have c1:((j+1:Nat):Int)=(j:Int)+1:=rfl;have ea:b++kw (w-bL nw) (c::r)=b++aj (c % ((2 ^ (w-bL nw):Nat):Int)).toNat (w-bL nw)++kw (w-bL nw) r:=by rw[kw,List.flatMap_cons,List.append_assoc];rfl
  rw[c1]at h5;rw[ea,←h5,aa lZ.eq_1];simp (maxSteps:=300000) (disch:=omega) [↓if_pos,hg,hbit,hp]
end Go.Vm
end
