import Derived.Test.YtklpmgeceaaheaaGreatP3
set_option linter.unusedVariables false
set_option linter.unusedSimpArgs false
set_option linter.defProp false
set_option linter.unusedSectionVars false
noncomputable section
namespace Go.Vm
set_option maxRecDepth 100000
set_option maxHeartbeats 4000000
def C9 (C:Nat→Nat→Int) (n:Nat):Nat→List Nat→Nat→List Nat×Nat
 | 0,xs,a=>(xs,a)
 | f+1,xs,a=>if a+20≤n then C9 C n f (insO C a 19 (a+1) xs) (a+20) else (xs,a)
def Hw (C:Nat→Nat→Int) (n bs:Nat):Nat→List Nat→Nat→List Nat×Nat
 | 0,xs,a=>(xs,a)
 | f+1,xs,a=>if a+2*bs≤n then Hw C n bs f (symM C (2*bs) xs a (a+bs) (a+2*bs)) (a+2*bs) else (xs,a)
def stE (C:Nat→Nat→Int) (n bs:Nat) (p:List Nat×Nat):List Nat:=if p.2+bs<n then symM C (n-p.2) p.1 p.2 (p.2+bs) n else p.1
def QH (C:Nat→Nat→Int) (n:Nat):Nat→List Nat→Nat→List Nat
 | 0,xs,_=>xs
 | f+1,xs,bs=>if bs<n then QH C n f (stE C n bs (Hw C n bs n xs 0)) (2*bs) else xs
def stS (C:Nat→Nat→Int) (n:Nat) (p:List Nat×Nat):List Nat:=insO C p.2 (n-(p.2+1)) (p.2+1) p.1
def ml (C:Nat→Nat→Int) (n:Nat) (xs:List Nat):List Nat:=QH C n n (stS C n (C9 C n n xs 0)) 20
section
variable {hp:List Nat→af}{D L:Nat}{F:AV}{C:Nat→Nat→Int}
theorem agQ (H:Hp hp D) (K:Cm hp L F C) (n:Nat) (hlen:n≤1000000000) (N:Nat):∀ (f a:Nat) (xs:List Nat),n<a+f*20+20→a≤n→xs.length=n→co L xs→
  (Dn prog).code (.loop dL) ⟨[(0,.sl D 0 n),(1,.d (.int .i64 n)),(2,F),(6,.d (.int .i64 20)),(7,.d (.int .i64 a)),(8,.d (.int .i64 ((a:Int)+20)))],⟨hp xs,N⟩⟩ =
  some (.exit 0,⟨[(0,.sl D 0 n),(1,.d (.int .i64 n)),(2,F),(6,.d (.int .i64 20)),(7,.d (.int .i64 (C9 C n f xs a).2))],⟨hp (C9 C n f xs a).1,N⟩⟩)∧
  (C9 C n f xs a).1.length=n∧co L (C9 C n f xs a).1∧a≤(C9 C n f xs a).2∧(C9 C n f xs a).2≤n∧∃ q,(C9 C n f xs a).2=a+20*q:=by
 intro f
 induction f with
 | zero =>
  intro a xs h1 h2 hx u;refine⟨?_,hx,u,Nat.le_refl _,h2,0,rfl⟩;rw[ac lB];simp (maxSteps:=300000) (disch:=omega) [↓if_pos,↓if_neg,C9,K.sh,K.fi]
 | succ f ih =>
  intro a xs h1 h2 hx u;rw[ac lB,C9];by_cases h:a+20≤n
  ·rw[if_pos h];have h0:=HN H K n hlen a (a+20) N (by omega) h xs hx u;rw[show a+20-(a+1)=19 by omega]at h0;obtain⟨g1,g2,g3,g4,g5,q,g6⟩:=ih (a+20) (insO C a 19 (a+1) xs) (by omega) h (by rw[NB];exact hx) (u.insO (by omega));refine⟨?_,g2,g3,by omega,g5,q+1,by omega⟩;have c1:((a+20:Nat):Int)=(a:Int)+20:=rfl;rw[c1]at h0 g1;rw[←g1];simp (maxSteps:=300000) (disch:=omega) [↓if_pos,↓if_neg,K.sh,K.fi,h0]
  ·rw[if_neg h];refine⟨?_,hx,u,Nat.le_refl _,h2,0,rfl⟩;simp (maxSteps:=300000) (disch:=omega) [↓if_pos,↓if_neg,K.sh,K.fi]
theorem ahS (H:Hp hp D) (K:Cm hp L F C) (n:Nat) (hlen:n≤1000000000) (bs N:Nat) (hbs:1≤bs) (hb2:bs≤1000000000):∀ (f a:Nat) (xs:List Nat),n<a+f+1→a≤n→xs.length=n→co L xs→
  (Dn prog).code (.loop dM) ⟨[(0,.sl D 0 n),(1,.d (.int .i64 n)),(2,F),(6,.d (.int .i64 bs)),(7,.d (.int .i64 a)),(8,.d (.int .i64 ((a:Int)+2*(bs:Int))))],⟨hp xs,N⟩⟩ =
  some (.exit 4,⟨[(0,.sl D 0 n),(1,.d (.int .i64 n)),(2,F),(6,.d (.int .i64 bs)),(7,.d (.int .i64 (Hw C n bs f xs a).2))],⟨hp (Hw C n bs f xs a).1,N⟩⟩)∧
  (Hw C n bs f xs a).1.length=n∧co L (Hw C n bs f xs a).1∧(Hw C n bs f xs a).2≤n:=by
 intro f
 induction f with
 | zero =>
  intro a xs h1 h2 hx u;refine⟨?_,hx,u,h2⟩;rw[ac lE];simp (maxSteps:=300000) (disch:=omega) [↓if_pos,↓if_neg,Hw,K.sh,K.fi]
 | succ f ih =>
  intro a xs h1 h2 hx u;rw[ac lE,Hw];by_cases h:a+2*bs≤n
  ·rw[if_pos h];have h0:=Zs H K n hlen N (2*bs) a (a+bs) (a+2*bs) xs (by omega) (by omega) (by omega) h hx u;obtain⟨g1,g2,g3,g4⟩:=ih (a+2*bs) (symM C (2*bs) xs a (a+bs) (a+2*bs)) (by omega) h (by rw[pt];exact hx) (u.symM (by omega) (by omega) (by omega));refine⟨?_,g2,g3,g4⟩;have c1:((a+bs:Nat):Int)=(a:Int)+bs:=rfl;have c2:((a+2*bs:Nat):Int)=(a:Int)+2*bs:=by omega
   rw[c1,c2]at h0;rw[c2]at g1;rw[←g1];simp (maxSteps:=300000) (disch:=omega) [↓if_pos,↓if_neg,K.sh,K.fi,h0]
  ·rw[if_neg h];refine⟨?_,hx,u,h2⟩;simp (maxSteps:=300000) (disch:=omega) [↓if_pos,↓if_neg,K.sh,K.fi]
theorem agM (H:Hp hp D) (K:Cm hp L F C) (n:Nat) (hlen:n≤1000000000) (N:Nat):∀ (f bs:Nat) (xs:List Nat),n<bs+f+1→1≤bs→bs≤2000000000→xs.length=n→co L xs→
  (Dn prog).code (.loop dO) ⟨[(0,.sl D 0 n),(1,.d (.int .i64 n)),(2,F),(6,.d (.int .i64 bs))],⟨hp xs,N⟩⟩ =
  some (.exit 2,⟨[],⟨hp (QH C n f xs bs),N⟩⟩)∧(QH C n f xs bs).length=n∧co L (QH C n f xs bs):=by
 intro f
 induction f with
 | zero =>
  intro bs xs h1 h2 h3 hx u;refine⟨?_,hx,u⟩;rw[ac lv];simp (maxSteps:=300000) (disch:=omega) [↓if_pos,↓if_neg,QH,K.sh,K.fi]
 | succ f ih =>
  intro bs xs h1 h2 h3 hx u;rw[ac lv,QH];by_cases h:bs<n
  ·rw[if_pos h];obtain⟨g1,g2,g3,g4⟩:=ahS H K n hlen bs N h2 (by omega) n 0 xs (by omega) (by omega) hx u;generalize Hw C n bs n xs 0=p at *;obtain⟨ys,a⟩:=p;simp only at g1 g2 g3 g4;have c0:((0:Nat):Int)=0:=rfl;have cz:(0:Int)+2*(bs:Int)=2*(bs:Int):=by omega
   have c2:((2*bs:Nat):Int)=2*(bs:Int):=by omega
   rw[c0,cz]at g1;unfold stE;simp only;by_cases h5:a+bs<n
   ·rw[if_pos h5];have h0:=Zs H K n hlen N (n-a) a (a+bs) n ys (by omega) (by omega) h5 (Nat.le_refl _) g2 g3;have c1:((a+bs:Nat):Int)=(a:Int)+bs:=rfl;obtain⟨k1,k2,k3⟩:=ih (2*bs) (symM C (n-a) ys a (a+bs) n) (by omega) (by omega) (by omega) (by rw[pt];exact g2) (g3.symM (by omega) h5 (by omega));refine⟨?_,k2,k3⟩;rw[c1]at h0;rw[c2]at k1;have cc:(bs:Int)*2=2*(bs:Int):=by omega
    rw[←k1];simp (maxSteps:=300000) (disch:=omega) [↓if_pos,↓if_neg,K.sh,K.fi,g1,h0,cc]
   ·rw[if_neg h5];obtain⟨k1,k2,k3⟩:=ih (2*bs) ys (by omega) (by omega) (by omega) g2 g3;refine⟨?_,k2,k3⟩;rw[c2]at k1;have cc:(bs:Int)*2=2*(bs:Int):=by omega
    rw[←k1];simp (maxSteps:=300000) (disch:=omega) [↓if_pos,↓if_neg,K.sh,K.fi,g1,cc]
  ·rw[if_neg h];refine⟨?_,hx,u⟩;simp (maxSteps:=300000) (disch:=omega) [↓if_pos,↓if_neg,K.sh,K.fi]
theorem af6 (H:Hp hp D) (K:Cm hp L F C) (n:Nat) (hlen:n≤1000000000) (hn:n % 20≠0) (N:Nat) (xs:List Nat) (hx:xs.length=n) (u:co L xs) :
  (Dn prog).call nE [.sl D 0 n,.d (.int .i64 n),F] ⟨hp xs,N⟩=some (.tup [],⟨hp (ml C n xs),N⟩):=by
 rw[aN yJ zh rfl,ml];obtain⟨g1,g2,g3,_,g5,q,g6⟩:=agQ H K n hlen N n 0 xs (by omega) (by omega) hx u;generalize C9 C n n xs 0=p at *;obtain⟨ys,a⟩:=p;simp only at g1 g2 g3 g5 g6;have h0:=HN H K n hlen a n N (by omega) (Nat.le_refl _) ys g2 g3;unfold stS;simp only;obtain⟨k1,k2,k3⟩:=agM H K n hlen N n 20 (insO C a (n-(a+1)) (a+1) ys) (by omega) (by omega) (by omega) (by rw[NB];exact g2) (g3.insO (by omega));have c0:((0:Nat):Int)=0:=rfl;have cz:(0:Int)+20=20:=rfl;have c2:((20:Nat):Int)=20:=rfl;rw[c0,cz]at g1;rw[c2]at k1;simp (maxSteps:=300000) (disch:=omega) [↓if_pos,↓if_neg,K.sh,K.fi,g1,h0,k1]
end
def cL (id:Nat):Nat:=if id<5 then 4 else if id=12 then 1 else 2
def cw (id:Nat):Int:=[0,-1,-1,0,0,-4,-4,0,0,0,0,0,-60].getD id 0
def cM (id:Nat):Nat:=[1,3,3,3,3,9,9,8,8,13,13,17,121].getD id 1
def bm (id:Nat):Nat:=[0,0,1,0,1,0,1,1,2,1,2,2,0].getD id 0
def im (low:Int) (w:Nat):Nat→Nat→List Int
 | 0,_=>[]
 | d+1,e=>im low w d (e / w)++[((e % w:Nat):Int)+low]
def iR (id e:Nat):List Int:=im (cw id) (cM id) (cL id) e
def G7:List Int→Nat
 | []=>0
 | x::r=>x.natAbs+G7 r
def sP (id e:Nat):Nat:=G7 (iR id e)
def aA (id:Nat):Nat:=cM id ^ cL id
def aeY (s:Nat):List (Nat×Nat)→List Nat
 | []=>[]
 | (e,z)::r=>match Nat.beq z s with
  | true=>e::aeY s r
  | false=>aeY s r
def asw (id:Nat):List (Nat×Nat):=(List.range (aA id)).map fun e=>(e,sP id e)
def bc (id:Nat):List Nat:=let l:=asw id;(List.range 61).flatMap fun s=>aeY s l
def apx (e:Nat):Nat→List Nat→Nat
 | i,[]=>i
 | i,x::r=>match Nat.beq x e with
  | true=>i
  | false=>apx e (i+1) r
def cJ (id:Nat):List Nat:=let l:=bc id;(List.range (aA id)).map fun e=>apx e 0 l
abbrev jR (id:Nat):Prop:=1≤id∧id≤12
abbrev qH (id:Nat):AV:=.agg [.d (.int .i64 id),.d (.int .i64 (bm id)),.d (.lst (bB (bc id))),.d (.lst (bB (cJ id)))]
abbrev Rm (id:Nat):AV:=.agg [.d (.int .i64 id),.d (.int .i64 (bm id)),.own true 1 (bB (bc id)),.own true 1 (bB (cJ id))]
theorem afL:∀ id∈List.range 13,bm id≤2∧(bc id).length≤300∧(cJ id).length≤300∧(bc id).all (fun e=>decide (e<aA id))=true:=by decide +kernel
theorem CP {id:Nat}(h:id≤12):bm id≤2∧(bc id).length≤300∧(cJ id).length≤300∧∀ e∈bc id,e<aA id:=by
 obtain⟨a,b,c,d⟩:=afL id (by simp;omega);exact⟨a,b,c,fun e he=>by simpa using List.all_eq_true.1 d e he⟩
def ids:List Nat:=[1,2,3,4,5,6,7,8,9,10,11,12]
theorem ft {id:Nat}(h:jR id):id∈ids:=by
 obtain⟨h1,h2⟩:=h;simp only[ids,List.mem_cons,List.not_mem_nil,or_false];omega
abbrev OZ (id:Nat):AV:=.agg [.d (.int .i64 (cL id)),.d (.int .i64 (cw id)),.d (.int .i64 (cw id+cM id-1)),.d (.int .i64 (bm id))]
theorem OC:∀ x∈ids,aS prog aio [.d (.int .i64 x)]=some (.tup [OZ x,.d (.int .i64 0)]):=Gf 100 ids (by kernel_rfl)
theorem Ar:∀ x∈ids,aS prog tx [OZ x]=some (.d (.int .i64 (aA x))):=Gf 100 ids (by kernel_rfl)
theorem AG {z:List D}{n:Nat}(h:n≤1000000000):ya z (.d (.int .i64 n)) (.d (.int .i64 n))=some (.own true z.length (List.replicate n z)):=by
 have h0:¬ ((n:Int)<0):=by omega
 have h1:Nat.ble n aP=true:=Nat.ble_eq_true_of_le (Nat.le_trans h (by decide));have h2:Nat.ble n n=true:=by rw[Ub];simp
 simp only[ya,cB,h1,h2]
theorem JJ (x:Nat):aS prog zM [.d (.int .u8 x)]=some (.d (.bool false)):=by
 rw[ao Lz LG rfl];simp (maxSteps:=300000) (disch:=omega) [↓if_pos,↓if_neg]
theorem aaW (x y:Nat):aS prog we [.d (.int .u8 x),.d (.int .u8 y)]=some (.d (.int .i64 (if x<y then -1 else if y<x then 1 else 0))):=by
 rw[ao Ia HZ rfl];by_cases h1:x<y
 ·rw[if_pos h1];simp (maxSteps:=300000) (disch:=omega) [↓if_pos,↓if_neg,JJ]
 ·rw[if_neg h1];by_cases h2:y<x
  ·rw[if_pos h2];simp (maxSteps:=300000) (disch:=omega) [↓if_pos,↓if_neg,JJ]
  ·rw[if_neg h2];simp (maxSteps:=300000) (disch:=omega) [↓if_pos,↓if_neg,JJ]
@[simp] theorem avp {len n S o:Nat}{k:IntKind}{z:Int}(h0:0≤z) (h:z<len):Dh len n (.ptr S o) (.d (.int k z))=some (.ptr S (o+z.toNat*n)):=by
 obtain⟨i,rfl⟩:=Int.eq_ofNat_of_zero_le h0;have hl:Nat.ble len i=false:=by rw[←Bool.not_eq_true,Nat.ble_eq];omega
 show (match Nat.ble len i with | true=>none | false=>fZ (i*n) (.ptr S o))=_;rw[hl];rfl
def fo (id:Nat):List Nat:=(List.range (aA id)).map fun e=>sP id e
def cC (l:List Nat) (x y:Nat):Int:=if nth l x<nth l y then -1 else if nth l y<nth l x then 1 else 0
def lW (id:Nat):List AV:=(List.range 289).map fun e=>.d (.int .u8 (if e<aA id then sP id e else 0:Nat))
theorem ST {id:Nat}:(lW id).length=289:=by simp[lW]
theorem TV {id x:Nat}(h:x<aA id) (h2:aA id≤289):(lW id)[x]?=some (.d (.int .u8 (nth (fo id) x:Nat))):=by
 have e:nth (fo id) x=sP id x:=by
  have:=xn (l:=fo id) (i:=x) (by simp[fo];exact h);rw[fo,List.getElem?_map,List.getElem?_range h]at this;simpa [fo] using this.symm
 rw[e,lW,List.getElem?_map,List.getElem?_range (by omega)];simp[h]
theorem av3 {hp:List Nat→af}{S id:Nat}(hS:∀ xs,get (hp xs) S=some (.cells (lW id))) (h2:aA id≤289):Cm hp (aA id) (.fn BC [] [.ptr S 0]) (cC (fo id)) where
 sh:=rfl
 fi:=rfl
 cl xs N x y hx hy:=by
  have e1:=TV hx h2;have e2:=TV hy h2;show (Dn prog).call BC ([]++([.d (.int .i64 (x:Nat)),.d (.int .i64 (y:Nat))]++[.ptr S 0])) ⟨hp xs,N⟩=_;simp only[List.nil_append,List.cons_append];rw[aN ZE Xp rfl];generalize lW id=Z at *;simp (maxSteps:=300000) (disch:=omega) [↓if_pos,↓if_neg,hS,e1,e2,aaW,cC]
noncomputable section
theorem ao3 {k i:Nat}(h:k=i):Nat.beq k i=true:=by rw[Nat.beq_eq];exact h
theorem aso {k i:Nat}(h:¬ k=i):Nat.beq k i=false:=by rw[←Bool.not_eq_true,Nat.beq_eq];exact h
def iV (l:List Nat):Nat→Nat:=List.rec (motive:=fun _=>Nat→Nat) (fun _=>0) (fun x _ ih i=>Nat.casesOn (motive:=fun _=>Nat) i x (fun k=>ih k)) l
theorem tP:∀ (l:List Nat) (i:Nat),iV l i=nth l i
 | [],i=>by simp[nth];rfl
 | x::l,0=>rfl
 | x::l,i+1=>tP l i
def adN (l:List Nat):Nat→Nat→List Nat:=List.rec (motive:=fun _=>Nat→Nat→List Nat) (fun _ _=>[]) (fun x r ih i v=>Nat.casesOn (motive:=fun _=>List Nat) i (v::r) (fun k=>x::ih k v)) l
theorem acS:∀ (l:List Nat) (i v:Nat),adN l i v=l.set i v
 | [],i,v=>rfl
 | x::l,0,v=>rfl
 | x::l,i+1,v=>by
  show x::adN l i v=_;rw[acS l i v];rfl
def To (xs:List Nat) (i j:Nat):List Nat:=adN (adN xs i (iV xs j)) j (iV xs i)
theorem Kt (xs:List Nat) (i j:Nat):To xs i j=swp xs i j:=by simp only[To,swp,acS,tP]
def LS (l:List Nat) (x y:Nat):Bool:=Nat.ble (Nat.succ (iV l x)) (iV l y)
theorem yi (l:List Nat) (x y:Nat):(LS l x y=true)=(cC l x y<0):=by
 simp only[LS,tP,Nat.ble_eq,cC];apply propext;constructor
 ·intro h;rw[if_pos (by omega)];omega
 ·intro h;split at h
  ·omega
  ·split at h<;>omega
def KL (a b:Nat):Nat→Nat→List Nat→List Nat
 | 0,_,xs=>xs
 | k+1,i,xs=>KL a b k (i+1) (To xs (a+i) (b+i))
theorem Gx {a b:Nat}:∀ (k i:Nat) (xs:List Nat),KL a b k i xs=swpR xs a b k i
 | 0,_,_=>rfl
 | k+1,i,xs=>by rw[KL,swpR,Kt,Gx]
def XQ (m:Nat):Nat→List Nat→Nat→Nat→List Nat
 | 0,xs,i,j=>xs
 | f+1,xs,i,j=>match Nat.beq i j with
  | true=>KL (m-i) m i 0 xs
  | false=>match Nat.ble i j with
   | true=>XQ m f (KL (m-i) (m+j-i) i 0 xs) i (j-i)
   | false=>XQ m f (KL (m-i) m j 0 xs) (i-j) j
theorem Sj {m:Nat}:∀ (f:Nat) (xs:List Nat) (i j:Nat),XQ m f xs i j=rot m f xs i j
 | 0,_,_,_=>rfl
 | f+1,xs,i,j=>by
  rw[XQ,rot];by_cases h:i=j
  ·rw[ao3 h,if_pos h,Gx]
  ·rw[aso h,if_neg h];by_cases h2:j<i
   ·rw[show Nat.ble i j=false by rw[←Bool.not_eq_true,Nat.ble_eq];omega,if_pos h2];simp only[Sj,Gx]
   ·rw[Nat.ble_eq_true_of_le (by omega:i≤j),if_neg h2];simp only[Sj,Gx]
section
variable (l:List Nat)
def WJ (a:Nat):Nat→List Nat→List Nat
 | 0,xs=>xs
 | j+1,xs=>match Nat.ble a j with
  | false=>xs
  | true=>match LS l (iV xs (j+1)) (iV xs j) with
   | true=>WJ a j (To xs (j+1) j)
   | false=>xs
theorem Ym {a:Nat}:∀ (j:Nat) (xs:List Nat),WJ l a j xs=insJ (cC l) a j xs
 | 0,_=>rfl
 | j+1,xs=>by
  rw[WJ,insJ];by_cases h:a≤j
  ·rw[Nat.ble_eq_true_of_le h];simp only[tP]
   cases h2:LS l (nth xs (j+1)) (nth xs j) with
   | true=>rw[if_pos ⟨h,by rw[←yi];exact h2⟩,←Ym,Kt]
   | false=>rw[if_neg (fun q=>by have:=q.2;rw[←yi,h2]at this;exact absurd this (by simp))]
  ·rw[show Nat.ble a j=false by rw[←Bool.not_eq_true,Nat.ble_eq];exact h,if_neg (fun q=>h q.1)]
def Pe (a:Nat):Nat→Nat→List Nat→List Nat
 | 0,_,xs=>xs
 | k+1,i,xs=>Pe a k (i+1) (WJ l a i xs)
theorem NR {a:Nat}:∀ (k i:Nat) (xs:List Nat),Pe l a k i xs=insO (cC l) a k i xs
 | 0,_,_=>rfl
 | k+1,i,xs=>by rw[Pe,insO,Ym,NR]
def ZM (xs:List Nat) (a:Nat):Nat→Nat→Nat→Nat
 | 0,i,_=>i
 | f+1,i,j=>match Nat.ble j i with
  | true=>i
  | false=>match LS l (iV xs ((i+j) / 2)) (iV xs a) with
   | true=>ZM xs a f ((i+j) / 2+1) j
   | false=>ZM xs a f i ((i+j) / 2)
theorem SU {xs:List Nat}{a:Nat}:∀ (f i j:Nat),ZM l xs a f i j=Ef (cC l) xs a f i j
 | 0,_,_=>rfl
 | f+1,i,j=>by
  rw[ZM,Ef];by_cases h:i<j
  ·rw[show Nat.ble j i=false by rw[←Bool.not_eq_true,Nat.ble_eq];omega,if_pos h];simp only[tP]
   cases h2:LS l (nth xs ((i+j) / 2)) (nth xs a) with
   | true=>rw[if_pos (by rw[←yi];exact h2)];simp only[SU]
   | false=>rw[if_neg (by rw[←yi,h2];simp)];simp only[SU]
  ·rw[Nat.ble_eq_true_of_le (by omega:j≤i),if_neg h]
def Xr (xs:List Nat) (m:Nat):Nat→Nat→Nat→Nat
 | 0,i,_=>i
 | f+1,i,j=>match Nat.ble j i with
  | true=>i
  | false=>match LS l (iV xs m) (iV xs ((i+j) / 2)) with
   | true=>Xr xs m f i ((i+j) / 2)
   | false=>Xr xs m f ((i+j) / 2+1) j
theorem Sy {xs:List Nat}{m:Nat}:∀ (f i j:Nat),Xr l xs m f i j=EL (cC l) xs m f i j
 | 0,_,_=>rfl
 | f+1,i,j=>by
  rw[Xr,EL];by_cases h:i<j
  ·rw[show Nat.ble j i=false by rw[←Bool.not_eq_true,Nat.ble_eq];omega,if_pos h];simp only[tP]
   cases h2:LS l (nth xs m) (nth xs ((i+j) / 2)) with
   | true=>rw[if_pos (by rw[←yi];exact h2)];simp only[Sy]
   | false=>rw[if_neg (by rw[←yi,h2];simp)];simp only[Sy]
  ·rw[Nat.ble_eq_true_of_le (by omega:j≤i),if_neg h]
def Sv (xs:List Nat) (p:Nat):Nat→Nat→Nat→Nat
 | 0,i,_=>i
 | f+1,i,j=>match Nat.ble j i with
  | true=>i
  | false=>match LS l (iV xs (p-(i+j) / 2)) (iV xs ((i+j) / 2)) with
   | true=>Sv xs p f i ((i+j) / 2)
   | false=>Sv xs p f ((i+j) / 2+1) j
theorem SC {xs:List Nat}{p:Nat}:∀ (f i j:Nat),Sv l xs p f i j=jX (cC l) xs p f i j
 | 0,_,_=>rfl
 | f+1,i,j=>by
  rw[Sv,jX];by_cases h:i<j
  ·rw[show Nat.ble j i=false by rw[←Bool.not_eq_true,Nat.ble_eq];omega,if_pos h];simp only[tP]
   cases h2:LS l (nth xs (p-(i+j) / 2)) (nth xs ((i+j) / 2)) with
   | true=>rw[if_pos (by rw[←yi];exact h2)];simp only[SC]
   | false=>rw[if_neg (by rw[←yi,h2];simp)];simp only[SC]
  ·rw[Nat.ble_eq_true_of_le (by omega:j≤i),if_neg h]
def ael:Nat→Nat→List Nat→List Nat
 | 0,_,xs=>xs
 | n+1,k,xs=>ael n (k+1) (To xs k (k+1))
theorem adn:∀ (n k:Nat) (xs:List Nat),ael n k xs=shU n k xs
 | 0,_,_=>rfl
 | n+1,k,xs=>by rw[ael,shU,Kt,adn]
def ae7:Nat→Nat→List Nat→List Nat
 | 0,_,xs=>xs
 | n+1,k,xs=>ae7 n (k-1) (To xs k (k-1))
theorem acF:∀ (n k:Nat) (xs:List Nat),ae7 n k xs=shD n k xs
 | 0,_,_=>rfl
 | n+1,k,xs=>by rw[ae7,shD,Kt,acF]
def Ky:Nat→List Nat→Nat→Nat→Nat→List Nat
 | 0,xs,_,_,_=>xs
 | f+1,xs,a,m,b =>
  if m-a=1 then ael (ZM l xs a (b-m) m b-1-a) a xs
  else if b-m=1 then ae7 (m-Xr l xs m (m-a) a m) m xs
  else
   let s:=if (a+b) / 2<m then Sv l xs ((a+b) / 2+m-1) (b-a) ((a+b) / 2+m-b) ((a+b) / 2) else Sv l xs ((a+b) / 2+m-1) (b-a) a m
   let e:=(a+b) / 2+m-s
   let ys:=if s<m∧m<e then XQ m (e-s) xs (m-s) (e-m) else xs
   let zs:=if a<s∧s<(a+b) / 2 then Ky f ys a s ((a+b) / 2) else ys
   if (a+b) / 2<e∧e<b then Ky f zs ((a+b) / 2) e b else zs
theorem M5:∀ (f:Nat) (xs:List Nat) (a m b:Nat),Ky l f xs a m b=symM (cC l) f xs a m b
 | 0,_,_,_,_=>rfl
 | f+1,xs,a,m,b=>by
  rw[Ky,symM];simp only[adn,acF,SU,Sy,SC,Sj,M5 f]
def Yi (n:Nat):Nat→List Nat→Nat→List Nat×Nat
 | 0,xs,a=>(xs,a)
 | f+1,xs,a=>if a+20≤n then Yi n f (Pe l a 19 (a+1) xs) (a+20) else (xs,a)
theorem ack {n:Nat}:∀ (f:Nat) (xs:List Nat) (a:Nat),Yi l n f xs a=C9 (cC l) n f xs a
 | 0,_,_=>rfl
 | f+1,xs,a=>by rw[Yi,C9];simp only[NR,ack f]
def YR (n bs:Nat):Nat→List Nat→Nat→List Nat×Nat
 | 0,xs,a=>(xs,a)
 | f+1,xs,a=>if a+2*bs≤n then YR n bs f (Ky l (2*bs) xs a (a+bs) (a+2*bs)) (a+2*bs) else (xs,a)
theorem ac5 {n bs:Nat}:∀ (f:Nat) (xs:List Nat) (a:Nat),YR l n bs f xs a=Hw (cC l) n bs f xs a
 | 0,_,_=>rfl
 | f+1,xs,a=>by rw[YR,Hw];simp only[M5,ac5 f]
def afg (n bs:Nat) (p:List Nat×Nat):List Nat:=if p.2+bs<n then Ky l (n-p.2) p.1 p.2 (p.2+bs) n else p.1
theorem anf {n bs:Nat}(p:List Nat×Nat):afg l n bs p=stE (cC l) n bs p:=by rw[afg,stE];simp only[M5]
def akp (n:Nat) (p:List Nat×Nat):List Nat:=Pe l p.2 (n-(p.2+1)) (p.2+1) p.1
theorem amF {n:Nat}(p:List Nat×Nat):akp l n p=stS (cC l) n p:=NR l _ _ _
def Ip (n:Nat):Nat→List Nat→Nat→List Nat
 | 0,xs,_=>xs
 | f+1,xs,bs=>if bs<n then Ip n f (afg l n bs (YR l n bs n xs 0)) (2*bs) else xs
theorem acI {n:Nat}:∀ (f:Nat) (xs:List Nat) (bs:Nat),Ip l n f xs bs=QH (cC l) n f xs bs
 | 0,_,_=>rfl
 | f+1,xs,bs=>by rw[Ip,QH];simp only[anf,ac5,acI f]
def Su (n:Nat) (xs:List Nat):List Nat:=Ip l n n (akp l n (Yi l n n xs 0)) 20
theorem mO {n:Nat}(xs:List Nat):Su l n xs=ml (cC l) n xs:=by rw[Su,ml,acI,amF,ack]
def rnd (n bs:Nat) (xs:List Nat):List Nat:=afg l n bs (YR l n bs n xs 0)
end
end
theorem st1:ml (cC (fo 1)) (aA 1) (List.range (aA 1))=bc 1:=by rw[←mO];decide +kernel
theorem st3:ml (cC (fo 3)) (aA 3) (List.range (aA 3))=bc 3:=by rw[←mO];decide +kernel
theorem st5:ml (cC (fo 5)) (aA 5) (List.range (aA 5))=bc 5:=by rw[←mO];decide +kernel
theorem st7:ml (cC (fo 7)) (aA 7) (List.range (aA 7))=bc 7:=by rw[←mO];decide +kernel
theorem awl:ml (cC (fo 12)) (aA 12) (List.range (aA 12))=bc 12:=by rw[←mO];decide +kernel
theorem st9:ml (cC (fo 9)) (aA 9) (List.range (aA 9))=bc 9:=by rw[←mO];decide +kernel
noncomputable section
def alc:List Nat:=[0,1,17,2,18,3,19,4,5,6,7,8,9,10,11,12,13,14,15,16,34,35,20,36,21,37,22,38,23,39,24,25,26,27,28,29,30,31,32,33,51,52,53,54,55,40,56,41,57,42,58,43,59,44,45,46,47,48,49,50,68,69,70,71,72,73,74,75,60,76,61,77,62,78,63,79,64,65,66,67,85,86,87,88,89,90,91,92,93,94,95,80,96,81,97,82,98,83,99,84,102,103,119,104,105,106,107,108,109,110,111,112,113,114,115,100,116,101,117,118,120,136,121,137,122,138,123,139,124,125,126,127,128,129,130,131,132,133,134,135,153,154,155,140,156,141,157,142,158,143,159,144,145,146,147,148,149,150,151,152,170,171,172,173,174,175,160,176,161,177,162,178,163,179,164,165,166,167,168,169,187,188,189,190,191,192,193,194,195,180,196,181,197,182,198,183,199,184,185,186,204,205,206,207,208,209,210,211,212,213,214,215,200,216,201,217,202,218,203,219,221,222,238,223,239,224,225,226,227,228,229,230,231,232,233,234,235,220,236,237,255,240,256,241,257,242,258,243,259,244,245,246,247,248,249,250,251,252,253,254,272,273,274,275,260,276,261,277,262,278,263,279,264,265,266,267,268,269,270,271,280,281,282,283,284,285,286,287,288]
def alY:List Nat:=[0,1,17,2,18,34,3,19,35,4,20,36,5,21,37,6,22,38,7,23,39,8,24,9,25,10,26,11,27,12,28,13,29,14,30,15,31,16,32,33,51,52,68,53,69,54,70,55,71,40,56,72,41,57,73,42,58,74,43,59,75,44,60,76,45,61,77,46,62,78,47,63,79,48,64,49,65,50,66,67,85,86,102,87,103,119,88,104,89,105,90,106,91,107,92,108,93,109,94,110,95,111,80,96,112,81,97,113,82,98,114,83,99,115,84,100,116,101,117,118,120,136,121,137,153,122,138,154,123,139,155,124,140,156,125,141,157,126,142,158,127,143,159,128,144,129,145,130,146,131,147,132,148,133,149,134,150,135,151,152,170,171,187,172,188,173,189,174,190,175,191,160,176,192,161,177,193,162,178,194,163,179,195,164,180,196,165,181,197,166,182,198,167,183,199,168,184,169,185,186,204,205,221,206,222,238,207,223,239,208,224,209,225,210,226,211,227,212,228,213,229,214,230,215,231,200,216,232,201,217,233,202,218,234,203,219,235,220,236,237,255,240,256,272,241,257,273,242,258,274,243,259,275,244,260,276,245,261,277,246,262,278,247,263,279,248,264,249,265,250,266,251,267,252,268,253,269,254,270,271,280,281,282,283,284,285,286,287,288]
def al5:List Nat:=[0,1,17,2,18,34,3,19,35,51,4,20,36,52,68,5,21,37,53,69,6,22,38,54,70,7,23,39,55,71,8,24,40,56,72,9,25,41,57,73,10,26,42,58,74,11,27,43,59,75,12,28,44,60,76,13,29,45,61,77,14,30,46,62,78,15,31,47,63,79,16,32,48,64,33,49,65,50,66,67,85,86,102,87,103,119,88,104,120,136,89,105,121,137,153,90,106,122,138,154,91,107,123,139,155,92,108,124,140,156,93,109,125,141,157,94,110,126,142,158,95,111,127,143,159,80,96,112,128,144,81,97,113,129,145,82,98,114,130,146,83,99,115,131,147,84,100,116,132,148,101,117,133,149,118,134,150,135,151,152,170,171,187,172,188,204,173,189,205,221,174,190,206,222,238,175,191,207,223,239,160,176,192,208,224,161,177,193,209,225,162,178,194,210,226,163,179,195,211,227,164,180,196,212,228,165,181,197,213,229,166,182,198,214,230,167,183,199,215,231,168,184,200,216,232,169,185,201,217,233,186,202,218,234,203,219,235,220,236,237,255,240,256,272,241,257,273,242,258,274,243,259,275,244,260,276,245,261,277,246,262,278,247,263,279,248,264,280,249,265,281,250,266,282,251,267,283,252,268,284,253,269,285,254,270,286,271,287,288]
def alV:List Nat:=[0,1,17,2,18,34,3,19,35,51,4,20,36,52,68,5,21,37,53,69,85,6,22,38,54,70,86,102,7,23,39,55,71,87,103,119,8,24,40,56,72,88,104,120,136,9,25,41,57,73,89,105,121,137,153,10,26,42,58,74,90,106,122,138,154,11,27,43,59,75,91,107,123,139,155,12,28,44,60,76,92,108,124,140,156,13,29,45,61,77,93,109,125,141,157,14,30,46,62,78,94,110,126,142,158,15,31,47,63,79,95,111,127,143,159,16,32,48,64,80,96,112,128,144,33,49,65,81,97,113,129,145,50,66,82,98,114,130,146,67,83,99,115,131,147,84,100,116,132,148,101,117,133,149,118,134,150,135,151,152,170,171,187,172,188,204,173,189,205,221,174,190,206,222,238,175,191,207,223,239,255,160,176,192,208,224,240,256,272,161,177,193,209,225,241,257,273,162,178,194,210,226,242,258,274,163,179,195,211,227,243,259,275,164,180,196,212,228,244,260,276,165,181,197,213,229,245,261,277,166,182,198,214,230,246,262,278,167,183,199,215,231,247,263,279,168,184,200,216,232,248,264,280,169,185,201,217,233,249,265,281,186,202,218,234,250,266,282,203,219,235,251,267,283,220,236,252,268,284,237,253,269,285,254,270,286,271,287,288]
theorem atx:akp (fo 11) 289 (Yi (fo 11) 289 289 (List.range 289) 0)=alc:=by decide +kernel
theorem ar8:rnd (fo 11) 289 20 alc=alY:=by decide +kernel
theorem asF:rnd (fo 11) 289 40 alY=al5:=by decide +kernel
theorem as7:rnd (fo 11) 289 80 al5=alV:=by decide +kernel
theorem ate:rnd (fo 11) 289 160 alV=bc 11:=by decide +kernel
theorem auX:ml (cC (fo 11)) 289 (List.range 289)=bc 11:=by
 rw[←mO,Su,atx];have u:∀ (f:Nat) (xs:List Nat) (bs:Nat),bs<289→Ip (fo 11) 289 (f+1) xs bs=Ip (fo 11) 289 f (rnd (fo 11) 289 bs xs) (2*bs):=fun f xs bs h=>by rw[Ip,if_pos h];rfl
 rw[u 288 _ _ (by omega),ar8,u 287 _ _ (by omega),asF,u 286 _ _ (by omega),as7,u 285 _ _ (by omega),ate];rw[show (285:Nat)=284+1 from rfl,Ip,if_neg (by omega)]
end
theorem ajO:fo 2=fo 1∧fo 4=fo 3∧fo 6=fo 5∧fo 8=fo 7∧fo 10=fo 9:=⟨rfl,rfl,rfl,rfl,rfl⟩
theorem adV:bc 2=bc 1∧bc 4=bc 3∧bc 6=bc 5∧bc 8=bc 7∧bc 10=bc 9:=⟨rfl,rfl,rfl,rfl,rfl⟩
theorem aqQ (id:Nat) (h:jR id):ml (cC (fo id)) (aA id) (List.range (aA id))=bc id:=by
 obtain⟨p2,p4,p6,p8,p10⟩:=ajO;obtain⟨q2,q4,q6,q8,q10⟩:=adV;have h1:id=1∨id=2∨id=3∨id=4∨id=5∨id=6∨id=7∨id=8∨id=9∨id=10∨id=11∨id=12:=by omega
 rcases h1 with rfl | rfl | rfl | rfl | rfl | rfl | rfl | rfl | rfl | rfl | rfl | rfl
 ·exact st1
 ·rw[p2,q2];exact st1
 ·exact st3
 ·rw[p4,q4];exact st3
 ·exact st5
 ·rw[p6,q6];exact st5
 ·exact st7
 ·rw[p8,q8];exact st7
 ·exact st9
 ·rw[p10,q10];exact st9
 ·exact auX
 ·exact awl
theorem aco:∀ id∈ids,aA id≤289∧aA id % 20≠0∧1≤aA id:=by decide +kernel
def rks (es:List Nat):Nat→Nat→List Nat→List Nat
 | 0,_,R=>R
 | k+1,i,R=>rks es k (i+1) (R.set (nth es i) i)
theorem amY:∀ id∈ids,rks (bc id) (aA id) 0 (List.replicate (aA id) 0)=cJ id:=by decide +kernel
theorem abS:∀ id∈ids,(bc id).length=aA id∧(cJ id).length=aA id∧(bc id).all (fun e=>decide (e<aA id))=true:=by decide +kernel
def yK (n i:Nat):List Nat:=List.range i++List.replicate (n-i) 0
theorem akv {n i:Nat}(h:i≤n):(yK n i).length=n:=by simp[yK];omega
theorem aiB {n i:Nat}(h:i<n):(yK n i).set i i=yK n (i+1):=by
 unfold yK;obtain⟨k,hk⟩:∃ k,n-i=k+1:=⟨n-i-1,by omega⟩
 rw[hk,List.replicate_succ,List.set_append_right _ _ (by simp),List.length_range,Nat.sub_self,List.set_cons_zero,List.range_succ,List.append_assoc]
 congr 2
 rw[show n-(i+1)=k by omega];rfl
section
variable (id n:Nat) (Z:List AV)
theorem abe (hn:n≤289) (R:List Nat) (a b c d:AV) (x0 x1:D) (N:Nat):∀ (k i:Nat),i+k=n→
  (Dn prog).code (.loop sU) ⟨[(2,.ptr 0 0),(6,.ptr 4 0),(7,.ptr 5 0),(34,.d (.int .i64 n)),(35,.d (.int .i64 i))],
   ⟨[(0,.cells [a,b,c,d]),(2,.arr 1 (bB (yK n i))),(3,.arr 1 (bB R)),(4,.cells [.d x0,.d x1,.sl 2 0 n,.sl 3 0 n]),(5,.cells Z)],N⟩⟩ =
  some (.exit 0,⟨[(2,.ptr 0 0),(6,.ptr 4 0),(7,.ptr 5 0)],⟨[(0,.cells [a,b,c,d]),(2,.arr 1 (bB (yK n n))),(3,.arr 1 (bB R)),(4,.cells [.d x0,.d x1,.sl 2 0 n,.sl 3 0 n]),(5,.cells Z)],N⟩⟩):=by
 intro k
 induction k with
 | zero =>
  intro i h;have:i=n:=by omega
  subst this;rw[ac Hx];simp (maxSteps:=300000) (disch:=omega) [↓if_pos,↓if_neg]
 | succ k ih =>
  intro i h;have l:=akv (n:=n) (i:=i) (by omega);have h5:=ih (i+1) (by omega);have c1:((i+1:Nat):Int)=(i:Int)+1:=rfl;rw[c1]at h5;rw[ac Hx,←h5,←aiB (by omega)];generalize yK n i=xs at *;simp (maxSteps:=300000) (disch:=omega) [↓if_pos,↓if_neg]
theorem abL (hn:n≤289) (es:List Nat) (he:es.length=n) (hu:co n es) (a b c d:AV) (x0 x1:D) (N:Nat):∀ (k i:Nat) (R:List Nat),i+k=n→R.length=n→
  (Dn prog).code (.loop sM) ⟨[(2,.ptr 0 0),(6,.ptr 4 0),(49,.sl 2 0 n),(50,.d (.int .i64 n)),(51,.d (.int .i64 i))],
   ⟨[(0,.cells [a,b,c,d]),(2,.arr 1 (bB es)),(3,.arr 1 (bB R)),(4,.cells [.d x0,.d x1,.sl 2 0 n,.sl 3 0 n]),(5,.cells Z)],N⟩⟩ =
  some (.exit 2,⟨[(2,.ptr 0 0),(6,.ptr 4 0)],⟨[(0,.cells [a,b,c,d]),(2,.arr 1 (bB es)),(3,.arr 1 (bB (rks es k i R))),(4,.cells [.d x0,.d x1,.sl 2 0 n,.sl 3 0 n]),(5,.cells Z)],N⟩⟩):=by
 intro k
 induction k with
 | zero =>
  intro i R h hR;rw[ac HC];simp (maxSteps:=300000) (disch:=omega) [↓if_pos,↓if_neg,rks]
 | succ k ih =>
  intro i R h hR;have h5:=ih (i+1) (R.set (nth es i) i) (by omega) (by simpa using hR);have c1:((i+1:Nat):Int)=(i:Int)+1:=rfl;have hv:=hu.nth (i:=i) (by omega);rw[c1]at h5;rw[ac HC,rks,←h5];simp (maxSteps:=300000) (disch:=omega) [↓if_pos,↓if_neg]
end
@[simp] theorem awe {h:af}{n id off:Nat}{k:IntKind}{z:Int}(h0:0≤z) (h1:z≤n):I1 h n (.ptr id off) none (some (.d (.int k z))) none=bA (get h id) fun o=>bA (cellsOf o) fun cs=>bN (Nat.ble (off+n) cs.length) (some (.sl id off z.toNat)):=by
 obtain⟨d,rfl⟩:=Int.eq_ofNat_of_zero_le h0;have hd:Nat.ble d n=true:=Nat.ble_eq_true_of_le (by omega);have hb:sm n none (some (.d (.int k (d:Int)))) none=some (0,d,n):=by
  show (match (match Nat.ble d n with | true=>some d | false=>none) with | none=>none | some h=>qu none h n)=_;rw[hd];rfl
 simp only[I1,J8]
 cases get h id with
 | none=>rfl
 | some o =>
  cases o with
  | cells cs =>
   simp only[bA,cellsOf,hb]
   cases Nat.ble (off+n) cs.length<;>simp[bN]
  | arr=>rfl
  | loop=>rfl
def vc (V:List Int):List AV:=V.map fun z=>.d (.int .i64 z)
theorem JN {V:List Int}:(vc V).length=V.length:=by simp[vc]
theorem ag9 {V:List Int}{i:Nat}(h:i<V.length):(vc V)[i]?=some (.d (.int .i64 (nth V i))):=by
 rw[vc,List.getElem?_map,xn h];rfl
theorem aqr {V:List Int}{i:Nat}{z:Int}:(vc V).set i (.d (.int .i64 z))=vc (V.set i z):=by simp[vc,List.map_set]
theorem Yg {V:List Int}{i:Nat}{z:Int}(h:i<V.length):List.take i (vc V)++AV.d (.int .i64 z)::List.drop (i+1) (vc V)=vc (V.set i z):=by
 rw[←aqr,List.set_eq_take_append_cons_drop,if_pos (by rw[JN];exact h)]
def odo (lo hi:Int):Nat→List Int→List Int
 | 0,V=>V
 | i+1,V=>if nth V i+1≤hi then V.set i (nth V i+1) else odo lo hi i (V.set i lo)
abbrev Sm (V:List Int):Prop:=∀ z∈V,-100000≤z∧z≤100000
section
variable (k1:AV) (dm lo hi pl:Int) (aY:List AV) (N:Nat)
theorem aj9 (d n m:Nat) (hd:d≤4) (V:List Int) (hV:V.length=4) (hs:Sm V):∀ (k i sum:Nat),i+k=d→sum≤1000000*(i+1)→
  (Dn prog).code (.loop jz) ⟨[(1,.ptr 0 0),(2,.ptr 1 0),(3,.ptr 2 0),(5,.d (.int .i64 n)),(6,.d (.int .i64 sum)),(21,.d (.int .i64 m)),(22,.d (.int .i64 n)),(27,.sl 2 0 d),(28,.d (.int .i64 d)),(29,.d (.int .i64 i))],
   ⟨[(0,.cells [.d (.int .i64 dm),.d (.int .i64 lo),.d (.int .i64 hi),.d (.int .i64 pl)]),(1,.cells aY),(2,.cells (vc V))],N⟩⟩ =
  some (.exit 4,⟨[(1,.ptr 0 0),(2,.ptr 1 0),(3,.ptr 2 0),(5,.d (.int .i64 n)),(6,.d (.int .i64 (sum+G7 ((V.take d).drop i):Nat))),(21,.d (.int .i64 m)),(22,.d (.int .i64 n))],
   ⟨[(0,.cells [.d (.int .i64 dm),.d (.int .i64 lo),.d (.int .i64 hi),.d (.int .i64 pl)]),(1,.cells aY),(2,.cells (vc V))],N⟩⟩):=by
 intro k
 induction k with
 | zero =>
  intro i sum h1 h2;have e:(V.take d).drop i=[]:=List.drop_eq_nil_of_le (by simp;omega);rw[ac uB,e];simp (maxSteps:=300000) (disch:=omega) [↓if_pos,↓if_neg,G7]
 | succ k ih =>
  intro i sum h1 h2;have hg:=ag9 (V:=V) (i:=i) (by omega);have hb:=hs (nth V i) (ig (by omega));have e:(V.take d).drop i=nth V i::(V.take d).drop (i+1):=by
   rw[List.drop_eq_getElem_cons (by simp;omega)]
   congr 1
   rw[List.getElem_take,YS (by omega)]
  have h5:=ih (i+1) (sum+(nth V i).natAbs) (by omega) (by omega);have es:sum+G7 ((V.take d).drop i)=sum+(nth V i).natAbs+G7 ((V.take d).drop (i+1)):=by rw[e,G7];omega
  rw[es];have c1:((i+1:Nat):Int)=(i:Int)+1:=rfl;rw[c1]at h5;rw[ac uB,←h5];generalize nth V i=z at *;by_cases hz:z<0
  ·have c2:((sum+z.natAbs:Nat):Int)=(sum:Int)+-z:=by omega
   rw[c2];simp (maxSteps:=300000) (disch:=omega) [↓if_pos,↓if_neg,hg]
  ·have c2:((sum+z.natAbs:Nat):Int)=(sum:Int)+z:=by omega
   rw[c2];simp (maxSteps:=300000) (disch:=omega) [↓if_pos,↓if_neg,hg]
theorem akB (n m:Nat) (hlo:-1000≤lo∧lo≤1000):∀ (j:Nat) (V:List Int),j≤4→V.length=4→Sm V→
  (Dn prog).code (.loop js) ⟨[(1,.ptr 0 0),(2,.ptr 1 0),(3,.ptr 2 0),(9,.d (.int .i64 ((j:Int)-1))),(21,.d (.int .i64 m)),(22,.d (.int .i64 n))],
   ⟨[(0,.cells [.d (.int .i64 dm),.d (.int .i64 lo),.d (.int .i64 hi),.d (.int .i64 pl)]),(1,.cells aY),(2,.cells (vc V))],N⟩⟩ =
  some (.exit 6,⟨[(1,.ptr 0 0),(2,.ptr 1 0),(3,.ptr 2 0),(21,.d (.int .i64 m)),(22,.d (.int .i64 n))],
   ⟨[(0,.cells [.d (.int .i64 dm),.d (.int .i64 lo),.d (.int .i64 hi),.d (.int .i64 pl)]),(1,.cells aY),(2,.cells (vc (odo lo hi j V)))],N⟩⟩):=by
 intro j
 induction j with
 | zero =>
  intro V h1 hV hs;rw[ac uM];simp (maxSteps:=300000) (disch:=omega) [↓if_pos,↓if_neg,odo]
 | succ j ih =>
  intro V h1 hV hs;have hg:=ag9 (V:=V) (i:=j) (by omega);have hb:=hs (nth V j) (ig (by omega));have hgs:∀ z,(vc (V.set j z))[j]?=some (.d (.int .i64 z)):=fun z=>by
   rw[vc,List.getElem?_map,List.getElem?_set_self (by omega)];rfl
  have c1:((j+1:Nat):Int)-1=(j:Int):=by omega
  have lp:=fun z=>Yg (V:=V) (i:=j) (z:=z) (by omega)
  have lq:=fun y z=>Yg (V:=V.set j y) (i:=j) (z:=z) (by simp;omega)
  have hss:∀ y z,(V.set j y).set j z=V.set j z:=fun y z=>List.set_set ..
  have hl2:∀ y,(V.set j y).length=4:=fun y=>by simpa using hV
  rw[c1,ac uM,odo];by_cases h:nth V j+1≤hi
  ·rw[if_pos h];generalize nth V j=z at *;simp (maxSteps:=300000) (disch:=omega) [↓if_pos,↓if_neg,hg,JN,lp,lq,hss,hl2,hV,hgs]
  ·have h5:=ih (V.set j lo) (by omega) (by simpa using hV) (fun z hz=>by
    rcases List.mem_or_eq_of_mem_set hz with g | g
    ·exact hs z g
    ·subst g;omega)
   rw[if_neg h,←h5];generalize nth V j=z at *;simp (maxSteps:=300000) (disch:=omega) [↓if_pos,↓if_neg,hg,JN,lp,lq,hss,hl2,hV,hgs]
def Rf (lo:Int):Nat→Nat→List Int→List Int
 | 0,_,V=>V
 | k+1,i,V=>Rf lo k (i+1) (V.set i lo)
theorem aiE (d:Nat) (hd:d≤4):∀ (k i:Nat) (V:List Int),i+k=d→V.length=4→
  (Dn prog).code (.loop jv) ⟨[(1,.ptr 0 0),(2,.ptr 1 0),(3,.ptr 2 0),(11,.d (.int .i64 d)),(12,.d (.int .i64 i))],
   ⟨[(0,.cells [.d (.int .i64 dm),.d (.int .i64 lo),.d (.int .i64 hi),.d (.int .i64 pl)]),(1,.cells aY),(2,.cells (vc V))],N⟩⟩ =
  some (.exit 0,⟨[(1,.ptr 0 0),(2,.ptr 1 0),(3,.ptr 2 0)],
   ⟨[(0,.cells [.d (.int .i64 dm),.d (.int .i64 lo),.d (.int .i64 hi),.d (.int .i64 pl)]),(1,.cells aY),(2,.cells (vc (Rf lo k i V)))],N⟩⟩):=by
 intro k
 induction k with
 | zero =>
  intro i V h1 hV;rw[ac vd];simp (maxSteps:=300000) (disch:=omega) [↓if_pos,↓if_neg,Rf]
 | succ k ih =>
  intro i V h1 hV;have lp:=fun z=>Yg (V:=V) (i:=i) (z:=z) (by omega)
  have h5:=ih (i+1) (V.set i lo) (by omega) (by simpa using hV);have c1:((i+1:Nat):Int)=(i:Int)+1:=rfl;rw[c1]at h5;rw[ac vd,Rf,←h5];simp (maxSteps:=300000) (disch:=omega) [↓if_pos,↓if_neg,JN,lp,hV]
end
def tO (id n:Nat):List Int:=(iR id n++[0,0,0,0]).take 4
def alC (id n:Nat):Bool:=decide (odo (cw id) (cw id+cM id-1) (cL id) (tO id n)=tO id (n+1)) && decide (G7 ((tO id n).take (cL id))=sP id n) && decide (sP id n≤255) &&
 (tO id n).all (fun z=>decide (-100000≤z) && decide (z≤100000)) && decide ((tO id n).length=4)
theorem amq:∀ id∈ids,(List.range (aA id)).all (alC id)=true:=by decide +kernel
theorem aq8 {id n:Nat}(h:jR id) (hn:n<aA id):odo (cw id) (cw id+cM id-1) (cL id) (tO id n)=tO id (n+1)∧G7 ((tO id n).take (cL id))=sP id n∧sP id n≤255∧Sm (tO id n)∧(tO id n).length=4:=by
 have:=List.all_eq_true.1 (amq id (ft h)) n (by simpa using hn);simp only[alC,Bool.and_eq_true,decide_eq_true_eq,List.all_eq_true]at this;exact⟨this.1.1.1.1,this.1.1.1.2,this.1.1.2,fun z hz=>this.1.2 z hz,this.2⟩
theorem alN:∀ id∈ids,Rf (cw id) (cL id) 0 [0,0,0,0]=tO id 0∧cL id≤4∧1≤cL id∧-1000≤cw id∧cw id≤1000∧aA id≤289:=by decide +kernel
def mQ (id n:Nat):List AV:=(List.range 289).map fun e=>.d (.int .u8 (if e<n then sP id e else 0:Nat))
theorem OF {id n:Nat}:(mQ id n).length=289:=by simp[mQ]
theorem akJ {id n:Nat}(h:n<289):List.take n (mQ id n)++AV.d (.int .u8 (sP id n:Nat))::List.drop (n+1) (mQ id n)=mQ id (n+1):=by
 have e:(mQ id n).set n (AV.d (.int .u8 (sP id n:Nat)))=mQ id (n+1):=by
  apply List.ext_getElem?;intro j;rw[List.getElem?_set];by_cases hj:n=j
  ·subst hj;rw[if_pos rfl,if_pos (by rw[OF];exact h),mQ,List.getElem?_map,List.getElem?_range h];simp
  ·rw[if_neg hj,mQ,mQ,List.getElem?_map,List.getElem?_map];by_cases hl:j<289
   ·rw[List.getElem?_range hl];simp only[Option.map_some];by_cases h2:j<n
    ·rw[if_pos h2,if_pos (by omega)]
    ·rw[if_neg h2,if_neg (by omega)]
   ·rw[List.getElem?_eq_none (by simp;omega)];rfl
 rw[←e,List.set_eq_take_append_cons_drop,if_pos (by rw[OF];exact h)]
theorem akW (id:Nat) (h:jR id) (pl:Int) (N:Nat):∀ (k n:Nat),n+k=aA id→
  (Dn prog).code (.loop jy) ⟨[(1,.ptr 0 0),(2,.ptr 1 0),(3,.ptr 2 0),(21,.d (.int .i64 (aA id))),(22,.d (.int .i64 n))],
   ⟨[(0,.cells [.d (.int .i64 (cL id)),.d (.int .i64 (cw id)),.d (.int .i64 (cw id+cM id-1)),.d (.int .i64 pl)]),(1,.cells (mQ id n)),(2,.cells (vc (tO id n)))],N⟩⟩ =
  some (.exit 2,⟨[(2,.ptr 1 0)],⟨[(1,.cells (mQ id (aA id))),(2,.cells (vc (tO id (aA id))))],N⟩⟩):=by
 obtain⟨d0,d1,d2,d3,d4,d5⟩:=alN id (ft h);intro k
 induction k with
 | zero =>
  intro n hn;have:n=aA id:=by omega
  subst this;rw[ac uN];simp (maxSteps:=300000) (disch:=omega) [↓if_pos,↓if_neg]
 | succ k ih =>
  intro n hn;obtain⟨f1,f2,f3,f4,f5⟩:=aq8 (n:=n) h (by omega);have g1:=aj9 (cL id) (cw id) (cw id+cM id-1) pl (mQ id n) N (cL id) n (aA id) d1 (tO id n) f5 f4 (cL id) 0 0 (by omega) (by omega);have g2:=akB (cL id) (cw id) (cw id+cM id-1) pl (mQ id (n+1)) N n (aA id) ⟨d3,d4⟩ (cL id) (tO id n) d1 f5 f4;rw[f1]at g2;rw[List.drop_zero,f2,Nat.zero_add]at g1;have h5:=ih (n+1) (by omega);have c1:((n+1:Nat):Int)=(n:Int)+1:=rfl;have c0:((0:Nat):Int)=0:=rfl;rw[c1]at h5;rw[c0]at g1;have hp:=akJ (id:=id) (n:=n) (by omega);have hl:=JN (V:=tO id n);have ol:=OF (id:=id) (n:=n);rw[ac uN,←h5];generalize sP id n=z at *;generalize hA:mQ id n=A at *;generalize hB:mQ id (n+1)=B at *;generalize tO id n=V at *;generalize tO id (n+1)=W at *;simp (maxSteps:=300000) (disch:=omega) [↓if_pos,↓if_neg,g1,g2,hp,AV.int]
def Dt:List AV:=List.replicate 289 (.d (.int .u8 0))
theorem Z8:Dt.length=289:=by simp[Dt]
theorem ao5 {id:Nat}:mQ id 0=Dt:=by
 simp only[mQ,Nat.not_lt_zero,if_false,Dt];rw[List.map_const',List.length_range];rfl
theorem ak5 {id:Nat}:mQ id (aA id)=lW id:=rfl
theorem ar4 {x0:AV}{h:af}{n:Nat}:(Dn prog).code jq ⟨[(0,x0)],⟨h,n⟩⟩=bu (bN ((AV.cells x0).all aV) <| lA (put h n (.cells (AV.cells x0))) fun h1=>lA (put h1 (n+1) (.cells Dt)) fun h2=>some ⟨[(1,.ptr n 0),(2,.ptr (n+1) 0)],⟨h2,n+1+1⟩⟩):=tU
abbrev Dl (Z:List AV):Prop:=∀ x∈Z,∃ d,x=AV.d d
theorem ZY:∀ {Z:List AV},(cW 1 Z).1=Z
 | []=>rfl
 | v::r=>by rw[cW,ZY];rfl
theorem YO {h:af}:∀ {Z:List AV},Dl Z→mh h Z=some (Z,h)
 | [],_=>rfl
 | v::r,hz=>by
  obtain⟨d,rfl⟩:=hz v (.head _);have h1:fD h (.d d)=some (.d d,h):=rfl;rw[mh,h1];simp only[YO (Z:=r) fun x hx=>hz x (.tail _ hx)]
theorem Z7:∀ {Z:List AV},Dl Z→Z.map ji=Z
 | [],_=>rfl
 | v::r,hz=>by
  obtain⟨d,rfl⟩:=hz v (.head _);rw[List.map_cons,Z7 fun x hx=>hz x (.tail _ hx)];rfl
theorem alw {id:Nat}:Dl (lW id):=by
 intro x hx;simp only[lW,List.mem_map]at hx;obtain⟨e,_,rfl⟩:=hx;exact⟨_,rfl⟩
theorem QW (id:Nat) (h:jR id):aS prog dy [OZ id]=some (.agg (lW id)):=by
 have hin:=ft h;obtain⟨d0,d1,d2,d3,d4,d5⟩:=alN id hin;have hm:=Ar id hin;have h0:=aiE (cL id) (cw id) (cw id+cM id-1) (bm id) Dt 3 (cL id) d1 (cL id) 0 [0,0,0,0] (by omega) rfl;have h3:=akW id h (bm id) 3 (aA id) 0 (by omega);have c0:((0:Nat):Int)=0:=rfl;have v0:vc [0,0,0,0]=[.d (.int .i64 0),.d (.int .i64 0),.d (.int .i64 0),.d (.int .i64 0)]:=rfl;rw[d0,c0,v0]at h0;rw[ao5,ak5,c0]at h3;have zl:=ST (id:=id);have zr:=fun h=>YO (h:=h) (alw (id:=id))
 have zb:=Z7 (alw (id:=id));have zt:List.take 289 (lW id)=lW id:=List.take_of_length_le (by omega);have z1:=ZY (Z:=lW id);simp only[OZ]at hm⊢;rw[ao Lv K9 rfl];generalize lW id=Z at *;generalize vc (tO id 0)=V0 at *;generalize vc (tO id (aA id))=V1 at *;generalize bm id=pl at *;generalize cL id=dm at *;generalize cw id=lo at *;generalize cM id=wi at *;generalize aA id=n at *;simp (maxSteps:=300000) (disch:=omega) [↓if_pos,↓if_neg,hm,h0,h3,-tU,ar4,zt,z1,zr];exact fun _=>zb
theorem adt {hp:List Nat→af}{D L:Nat}{F:AV}{C:Nat→Nat→Int}(H:Hp hp D) (K:Cm hp L F C) (n:Nat) (hlen:n≤1000000000) (hn:n % 20≠0) (N:Nat) (xs:List Nat) (hx:xs.length=n) (u:co L xs) :
  (Dn prog).call mp [.sl D 0 n,F] ⟨hp xs,N⟩=some (.tup [],⟨hp (ml C n xs),N⟩):=by
 have h:=af6 H K n hlen hn N xs hx u;rw[aN wA xr rfl];simp (maxSteps:=300000) (disch:=omega) [↓if_pos,↓if_neg,K.sh,K.fi,h]
theorem as9 {x2:AV}{x4:AV}{x6:AV}{h:af}{n:Nat}:(Dn prog).code sW ⟨[(2,x2),(4,x4),(6,x6)],⟨h,n⟩⟩=bu (bP (loadAt h (some 4) 1 (share x4)) fun a1 h2=>bA (cy (Dn prog) dy [firm a1] h2) fun a3=>lA (put h2 n (.cells Dt)) fun h4=>bA (storeAt h4 289 (.ptr n 0) (firm a3)) fun h5=>some ⟨[(2,x2),(4,x4),(6,x6),(7,.ptr n 0)],⟨h5,n+1⟩⟩):=Ez
theorem Zt {W Z:List AV}(h:W.length=Z.length):ai W 0 Z=Z:=by simp[ai,←h]
theorem XH {id:Nat}:(lW id).all aV=true:=by
 rw[List.all_eq_true];intro x hx;simp only[lW,List.mem_map]at hx;obtain⟨e,_,rfl⟩:=hx;rfl
theorem Xe {id:Nat}:(lW id).map kU=lW id:=by
 simp only[lW,List.map_map];rfl
theorem ajy {n:Nat}:List.replicate n [D.int .i64 0]=bB (List.replicate n 0):=by simp[bB]
theorem agl (id:Nat) (h:jR id):aS prog As [.d (.int .i64 id)]=some (.tup [Rm id,.d (.int .i64 0)]):=by
 have hin:=ft h;obtain⟨m1,m2,m3⟩:=aco id hin;obtain⟨e1,e2,e3⟩:=abS id hin;have hR:=amY id hin;have t1:List.take (aA id) (bc id)=bc id:=List.take_of_length_le (by omega);have t2:List.take (aA id) (cJ id)=cJ id:=List.take_of_length_le (by omega);have hst:=aqQ id h;have ho:=OC id hin;have hm:=Ar id hin;have hz:=QW id h;have zl:=ST (id:=id);have zc:=XH (id:=id);have zf:=Xe (id:=id);have z9:=Z8;have zd:List.drop (lW id).length Dt=[]:=List.drop_eq_nil_of_le (by omega);have hu:co (aA id) (bc id):=fun x hx=>by simpa using List.all_eq_true.1 e3 x hx
 have hs:=fun a b c d x0 x1 R N=>adt (hp:=fun xs=>[(0,.cells [a,b,c,d]),(2,.arr 1 (bB xs)),(3,.arr 1 (bB R)),(4,.cells [.d x0,.d x1,.sl 2 0 (aA id),.sl 3 0 (aA id)]),(5,.cells (lW id))]) (D:=2)
  ⟨fun xs=>rfl,fun xs ys=>rfl⟩ (av3 (S:=5) (fun xs=>rfl) m1) (aA id) (by omega) m2 N (List.range (aA id)) (by simp) (fun x hx=>by simpa using hx)
 have h0:=fun a b c d x0 x1 R N=>abe (aA id) (lW id) m1 R a b c d x0 x1 N (aA id) 0 (by omega)
 have h1:=fun a b c d x0 x1 N=>abL (aA id) (lW id) m1 (bc id) e1 hu a b c d x0 x1 N (aA id) 0 (List.replicate (aA id) 0) (by omega) (by simp)
 have hup:yK (aA id) (aA id)=List.range (aA id):=by simp[yK]
 have hu0:yK (aA id) 0=List.replicate (aA id) 0:=by simp[yK]
 rw[hup,hu0]at h0;simp only[hst,hR,OZ]at hs h1 ho hm hz;rw[ao aek ae3 rfl];have hid:(1:Int)≤id∧(id:Int)≤12:=by omega
 have c0:((0:Nat):Int)=0:=rfl;rw[c0]at h0 h1;simp only[Rm];generalize lW id=Z at *;generalize bc id=es at *;generalize cJ id=rs at *;generalize bm id=pl at *;generalize cL id=dm at *;generalize cw id=lo at *;generalize cM id=wi at *;generalize aA id=n at *;simp (maxSteps:=300000) (disch:=omega) [↓if_pos,↓if_neg,ho,hm,hz,h0,hs,h1,-Ez,as9,Zt,zc,zf,zd,AG,ajy,AV.int,t1,t2]
def jM (id:Nat):Bool:=decide (cw id<0)
theorem Yn:∀ x∈ids.take 11,aS prog Wd [.d (.int .i64 x)]=some (.d (.bool (jM x))):=Gf 100 _ (by kernel_rfl)
section
variable (id:Nat)
end
section
variable (n:Nat) (sz:List Nat) (hz:sz.length=n) (hn2:n≤289) (a b c d:AV) (x0 x1:D) (N:Nat)
include hz hn2
end
def okR (sz es rs:List Nat) (i:Nat):Bool:=Nat.beq (iV rs (iV es i)) i &&
 (Nat.beq i 0 || Nat.blt (iV sz (iV es (i-1))) (iV sz (iV es i)) || (Nat.beq (iV sz (iV es (i-1))) (iV sz (iV es i)) && Nat.blt (iV es (i-1)) (iV es i)))
theorem amW:∀ id∈ids,(List.range (aA id)).all (okR (fo id) (bc id) (cJ id))=true:=by decide +kernel
theorem agH {id i:Nat}(h:jR id) (hi:i<aA id):nth (cJ id) (nth (bc id) i)=i∧(i≠0→nth (fo id) (nth (bc id) (i-1))<nth (fo id) (nth (bc id) i)∨(nth (fo id) (nth (bc id) (i-1))=nth (fo id) (nth (bc id) i)∧nth (bc id) (i-1)<nth (bc id) i)):=by
 have:=List.all_eq_true.1 (amW id (ft h)) i (by simpa using hi);simp only[okR,tP,Bool.and_eq_true,Bool.or_eq_true,Nat.beq_eq,Nat.blt,Nat.ble_eq]at this;refine⟨this.1,fun h0=>?_⟩;rcases this.2 with (h1 | h1) | h1
 ·exact absurd h1 h0
 ·exact .inl h1
 ·exact .inr h1
section
variable (n:Nat) (hn:n≤289) (sz es rs:List Nat) (Z:List AV) (he:es.length=n) (hr:rs.length=n) (hu:co n es) (hZ:∀ x,x<n→Z[x]?=some (.d (.int .u8 (nth sz x:Nat))))
 (h1:∀ i,i<n→nth rs (nth es i)=i) (h2:∀ i,i+1<n→nth sz (nth es i)<nth sz (nth es (i+1))∨(nth sz (nth es i)=nth sz (nth es (i+1))∧nth es i<nth es (i+1)))
include hn he hr hu hZ h1 h2
theorem Wi (x0 x1:D) (N:Nat):∀ (k i:Nat),i+k=n→
  (Dn prog).code (.loop oU) ⟨[(1,.ptr 0 0),(5,.ptr 2 0),(43,.d (.lst (bB es))),(44,.d (.int .i64 n)),(45,.d (.int .i64 i))],⟨[(0,.cells [.d x0,.d x1,.d (.lst (bB es)),.d (.lst (bB rs))]),(2,.cells Z)],N⟩⟩ =
  some (.exit 0,⟨[],⟨[],N⟩⟩):=by
 intro k
 induction k with
 | zero =>
  intro i h;rw[ac Dg];simp (maxSteps:=300000) (disch:=omega) [↓if_pos,↓if_neg]
 | succ k ih =>
  intro i h;have hv:=hu.nth (i:=i) (by omega);have e1:=hZ _ hv;have r1:=h1 i (by omega);have h5:=ih (i+1) (by omega);have c1:((i+1:Nat):Int)=(i:Int)+1:=rfl;rw[c1]at h5;rw[ac Dg,←h5];by_cases h0:i=0
  ·subst h0;have c0:((0:Nat):Int)=0:=rfl;rw[c0];have n0:(0:Int)=((0:Nat):Int):=rfl;simp (maxSteps:=300000) (disch:=omega) [↓if_pos,↓if_neg,r1]
  ·obtain⟨q,rfl⟩:∃ q,i=q+1:=⟨i-1,by omega⟩
   have hw:=hu.nth (i:=q) (by omega);have e2:=hZ _ hw;rcases h2 q (by omega) with g | ⟨g1,g2⟩
   ·simp (maxSteps:=300000) (disch:=omega) [↓if_pos,↓if_neg,r1,e1,e2]
   ·simp (maxSteps:=300000) (disch:=omega) [↓if_pos,↓if_neg,r1,e1,e2]
end
theorem ar5 {x1:AV}{x3:AV}{h:af}{n:Nat}:(Dn prog).code oR ⟨[(1,x1),(3,x3)],⟨h,n⟩⟩=bu (bP (loadAt h (some 4) 1 (share x3)) fun a1 h2=>bA (cy (Dn prog) dy [firm a1] h2) fun a3=>lA (put h2 n (.cells Dt)) fun h4=>bA (storeAt h4 289 (.ptr n 0) (firm a3)) fun h5=>some ⟨[(1,x1),(3,x3),(5,.ptr n 0)],⟨h5,n+1⟩⟩):=Ci
theorem abj (id:Nat) (h:jR id):aS prog AX [qH id]=some (.d (.bool true)):=by
 have hin:=ft h;obtain⟨m1,m2,m3⟩:=aco id hin;obtain⟨e1,e2,e3⟩:=abS id hin;have ho:=OC id hin;have hm:=Ar id hin;have hz:=QW id h;have zl:=ST (id:=id);have zc:=XH (id:=id);have zf:=Xe (id:=id);have z9:=Z8;have zd:List.drop (lW id).length Dt=[]:=List.drop_eq_nil_of_le (by omega);have hu:co (aA id) (bc id):=fun x hx=>by simpa using List.all_eq_true.1 e3 x hx
 have h0:=fun x0 x1 N=>Wi (aA id) m1 (fo id) (bc id) (cJ id) (lW id) e1 e2 hu (fun x hx=>TV hx m1) (fun i hi=>(agH h hi).1) (fun i hi=>by have:=(agH h hi).2 (by omega);simpa using this) x0 x1 N (aA id) 0 (by omega)
 simp only[OZ]at ho hm hz;rw[ao Zp Xh rfl];have hid:(1:Int)≤id∧(id:Int)≤12:=by omega
 have c0:((0:Nat):Int)=0:=rfl;rw[c0]at h0;simp only[qH];generalize lW id=Z at *;generalize fo id=zs at *;generalize bc id=es at *;generalize cJ id=rs at *;generalize bm id=pl at *;generalize cL id=dm at *;generalize cw id=lo at *;generalize cM id=wi at *;generalize aA id=n at *;simp (maxSteps:=300000) (disch:=omega) [↓if_pos,↓if_neg,ho,hm,hz,h0,-Ci,ar5,Zt,zc,zf,zd,AV.int,e1,e2]
def iB (b:List Nat):Nat→Nat→Int→R Nat
 | 0,_,_=>.er 7
 | f+1,m,a=>(aw b a 1).bind fun v n=>if v=1 then .ok m n else iB b f (m+1) n
abbrev pZ (b:List Nat) (m n:Nat):Prop:=m≤9∧n≤b.length
theorem Zx {b:List Nat}:∀ {f m k n:Nat}{a:Int},f+m=10→iB b f m a=.ok k n→pZ b k n
 | 0,_,_,_,_,_,h=>absurd h (by simp[iB])
 | f+1,m,k,n,a,hf,h=>by
  rw[iB]at h
  cases h1:aw b a 1 with
  | er e=>rw[h1]at h;exact absurd h (by simp)
  | ok v a1 =>
   rw[h1,aj]at h;by_cases hv:v=1
   ·rw[if_pos hv]at h;injection h with e1 e2
    subst e1 e2;exact⟨by omega,(bY h1).2⟩
   ·rw[if_neg hv]at h;exact Zx (by omega) h
theorem akU {α γ:Type}{p:α→Nat→Prop}{b:List Nat}{f m:Nat}{a:Int}{g:Nat→Nat→R α}{F:α→Nat→γ}{G:Nat→γ}(h:f+m=10):rK p ((iB b f m a).bind g) F G=rK (pZ b) (iB b f m a) (fun v n=>rK p (g v n) F G) G:=qB fun _ _ h2=>Zx h h2
theorem ag7 {γ:Type}{b:List Nat}{f m:Nat}{a:Int}{F:Nat→Nat→γ}{G:Nat→γ}(h:f+1+m=10):rK (pZ b) (iB b (f+1) m a) F G=rK (pG b 1) (aw b a 1) (fun v n=>if v=1 then F m n else rK (pZ b) (iB b f (m+1) n) F G) G:=by
 rw[iB,Cq];refine fF (fun _ _=>rfl) (fun v n hp=>?_) fun _=>rfl
 by_cases hv:v=1
 ·rw[if_pos hv,if_pos hv,bV ⟨by omega,hp.2⟩]
 ·rw[if_neg hv,if_neg hv]
def sI (id:Nat) (b:List Nat) (a:Int):R Nat :=
 (iB b 10 0 a).bind fun m n=>(aw b n m).bind fun hi n=>(aw b n (bm id)).bind fun lo n =>
  if (bc id).length≤(2 ^ m+hi-1)*2 ^ bm id+lo then .er 7 else .ok (nth (bc id) ((2 ^ m+hi-1)*2 ^ bm id+lo)) n
theorem XA (b:List Nat) (hb:b.length≤1000000000) (X:Obj) (N:Nat):∀ (f m:Nat) (a:Int),f+m=10→i64 a→
  (Dn prog).code (.loop qI) ⟨[(1,.d (.lst (ae b))),(3,.ptr 0 0),(7,.d (.int .i64 a)),(9,.d (.int .i64 m)),(10,.d (.int .i64 0))],⟨[(0,X)],N⟩⟩ =
  rK (pZ b) (iB b f m a) (fun m n=>some (.exit 0,⟨[(1,.d (.lst (ae b))),(3,.ptr 0 0),(7,.d (.int .i64 n)),(9,.d (.int .i64 ((m+1:Nat):Int)))],⟨[(0,X)],N⟩⟩)) (fun e=>some (.ret,⟨[(6,.d (.int .i64 0)),(7,.d (.int .i64 0)),(8,.d (.int .i64 (e+1)))],⟨[],N⟩⟩)):=by
 intro f
 induction f with
 | zero =>
  intro m a hf ha;rw[ac xp,iB];simp (maxSteps:=300000) (disch:=omega) [↓if_pos,↓if_neg]
 | succ f ih =>
  intro m a hf ha;rw[ac xp,ag7 hf];simp (maxSteps:=300000) (disch:=omega) [↓if_pos,↓if_neg,dz];refine fF (fun _ _=>rfl) (fun v n hp=>?_) fun _=>rfl
  have hp4:v<2:=hp.1;by_cases h4:v=1
  ·subst h4;rw[if_pos rfl,ac xp];simp (maxSteps:=300000) (disch:=omega) [↓if_pos,↓if_neg]
  ·have h5:v=0:=by omega
   subst h5;have h:=ih (m+1) n (by omega) (by omega);rw[if_neg h4];simp at h⊢;exact h
theorem afB (id:Nat) (h:jR id):aS prog AX [qH id]=some (.d (.bool true)):=abj id h
theorem YC (id:Nat) (h:jR id):aS prog As [.d (.int .i64 id)]=some (.tup [Rm id,.d (.int .i64 0)]):=agl id h
theorem ajF {γ:Type}{id:Nat}{b:List Nat}{a:Int}(hid:jR id) {F:Nat→Nat→γ}{G:Nat→γ}:rK (fun e n=>e<aA id∧n≤b.length) (sI id b a) F G =
  rK (pZ b) (iB b 10 0 a) (fun m n=>rK (pG b m) (aw b n m) (fun hi n=>rK (pG b (bm id)) (aw b n (bm id)) (fun lo n =>
  if (bc id).length≤(2 ^ m+hi-1)*2 ^ bm id+lo then G 7 else F (nth (bc id) ((2 ^ m+hi-1)*2 ^ bm id+lo)) n) G) G) G:=by
 rw[sI,akU rfl];refine fF (fun _ _=>rfl) (fun m n hp=>?_) fun _=>rfl
 rw[Cq];refine fF (fun _ _=>rfl) (fun hi n hp=>?_) fun _=>rfl
 rw[Cq];refine fF (fun _ _=>rfl) (fun lo n hp=>?_) fun _=>rfl
 by_cases hr:(bc id).length≤(2 ^ m+hi-1)*2 ^ bm id+lo
 ·rw[if_pos hr,if_pos hr,dH]
 ·rw[if_neg hr,if_neg hr,bV];exact⟨(CP (by omega)).2.2.2 _ (ig (by omega)),hp.2⟩
abbrev xh:VC:=(.seq (.seq uQ (.cond (.m 73) (.seq (.seq (K [7,13]) (F 3)) (.seq uV .ret)) .skip)) (.seq (.seq uk (F 3)) .ret))
theorem ae8 {m:Nat}(h:m≤60):da .shl (.d (.int .i64 1)) (.d (.int .i64 m))=some (.int .i64 ((2 ^ m:Nat):Int)):=by
 have h2:2 ^ m≤2 ^ 60:=Nat.pow_le_pow_right (by omega) h;have h3:min m 64=m:=by omega
 rw[Bo (by omega),Int.toNat_natCast,IntKind.bits,h3];generalize 2 ^ m=P at *;rw[Z9 (by omega) (by omega),Int.one_mul]
theorem aeO {x:Int}{m P:Nat}(hP:2 ^ m=P) (hm:m≤60) (h0:0≤x) (h1:x*P≤4611686018427387904):da .shl (.d (.int .i64 x)) (.d (.int .i64 m))=some (.int .i64 (x*P)):=by
 subst hP;have h2:2 ^ m≤2 ^ 60:=Nat.pow_le_pow_right (by omega) hm;have h3:min m 64=m:=by omega
 rw[Bo (by omega),Int.toNat_natCast,IntKind.bits,h3];have:0≤x*((2 ^ m:Nat):Int):=Int.mul_nonneg h0 (Int.natCast_nonneg _);generalize x*((2 ^ m:Nat):Int)=y at *;rw[Z9 (by omega) (by omega)]
theorem aql {x:Int}(h0:0≤x) (h1:x≤100000000):da .shl (.d (.int .i64 x)) (.d (.int .i64 0))=some (.int .i64 x):=by
 have:=aeO (x:=x) (m:=0) (P:=1) rfl (by omega) h0 (by omega);simpa using this
theorem aqy {x:Int}(h0:0≤x) (h1:x≤100000000):da .shl (.d (.int .i64 x)) (.d (.int .i64 1))=some (.int .i64 (x*2)):=by
 have:=aeO (x:=x) (m:=1) (P:=2) rfl (by omega) h0 (by omega);simpa using this
theorem apk {x:Int}(h0:0≤x) (h1:x≤100000000):da .shl (.d (.int .i64 x)) (.d (.int .i64 2))=some (.int .i64 (x*4)):=by
 have:=aeO (x:=x) (m:=2) (P:=4) rfl (by omega) h0 (by omega);simpa using this
theorem UO (id:Nat) (b:List Nat) (a:Int) (hb:b.length≤1000000000) (ha:i64 a) (hid:jR id):aS prog MI [qH id,.d (.lst (ae b)),.d (.int .i64 a)] =
  rK (fun e n=>e<aA id∧n≤b.length) (sI id b a) (fun e n=>some (.tup [.d (.int .i64 e),.d (.int .i64 n),.d (.int .i64 0)])) (fun e=>some (.tup [.d (.int .i64 0),.d (.int .i64 0),.d (.int .i64 (e+1))])):=by
 have hr:=afB id hid;have hf:=CP (id:=id) (by omega);rw[ao aaA abm rfl,ajF hid];have hl:=fun X N=>XA b hb X N 10 0 a rfl ha
 have c0:((0:Nat):Int)=0:=rfl;simp only[c0]at hl;simp only[qH]at hr⊢;obtain⟨f1,f2,f3,-⟩:=hf;generalize bc id=es at *;generalize cJ id=rs at *;generalize bm id=pl at *;simp (maxSteps:=300000) (disch:=omega) [↓if_pos,↓if_neg,hr,hl];refine fF (fun _ _=>rfl) (fun m n hp=>?_) fun _=>rfl
 have hp2:2 ^ m≤2 ^ 9:=Nat.pow_le_pow_right (by omega) hp.1;have e1:(m:Int)+1-1=m:=by omega
 have hs1:=ae8 (m:=m) (by omega);have hp1:=hp.1;have hpos:0<2 ^ m:=Nat.two_pow_pos m;have c1:((1:Nat):Int)=1:=rfl;have c2:((2:Nat):Int)=2:=rfl;generalize hP:2 ^ m=P at *;have fin:∀ (x:Nat) (n:Nat) (i1 p:Int),x≤100000→nC (pO [.tmp 6,.tmp 7,.tmp 8] ((Dn prog).code (xh) ⟨[(3,.ptr 0 0),(7,.d (.int .i64 n)),(13,.d (.int .i64 x))],⟨[(0,.cells [.d (.int .i64 i1),.d (.int .i64 p),.d (.lst (bB es)),.d (.lst (bB rs))])],1⟩⟩)) =
   if es.length≤x then some (.tup [.d (.int .i64 0),.d (.int .i64 0),.d (.int .i64 8)]) else some (.tup [.d (.int .i64 ((nth es x:Nat):Int)),.d (.int .i64 n),.d (.int .i64 0)]):=fun x n i1 p hx=>by
  by_cases hr:es.length≤x
  ·rw[if_pos hr];simp (maxSteps:=300000) (disch:=omega) [↓if_pos]
  ·rw[if_neg hr];simp (maxSteps:=300000) (disch:=omega) [↓if_neg]
 have hpl:pl=0∨pl=1∨pl=2:=by omega
 obtain⟨T,ht⟩:∃ T,T=xh:=⟨_,rfl⟩
 rw[←ht]at fin;unfold xh at ht;rw[←ht];rcases hpl with rfl | rfl | rfl
 all_goals
  simp (maxSteps:=300000) (disch:=omega) [↓if_pos,↓if_neg,dz,e1,-Bo,hs1];refine fF (fun _ _=>rfl) (fun hi n hp=>?_) fun _=>rfl
  refine fF (fun _ _=>rfl) (fun lo n hq=>?_) fun _=>rfl
  have h1:hi<P:=hP▸hp.1;have h2:lo<4:=Nat.lt_of_lt_of_le hq.1 (by decide);simp (maxSteps:=300000) (disch:=omega) [-Bo,aql,aqy,apk]
 ·have e3:((P+hi-1+lo:Nat):Int)=P+hi-1+lo:=by omega
  rw[←e3,fin _ n id 0 (by omega)]
 ·have e3:(((P+hi-1)*2+lo:Nat):Int)=(P+hi-1)*2+lo:=by omega
  rw[←e3,fin _ n id 1 (by omega)]
 ·have e3:(((P+hi-1)*4+lo:Nat):Int)=(P+hi-1)*4+lo:=by omega
  rw[←e3,fin _ n id 2 (by omega)]
theorem qx:∀ id∈ids,1≤cL id∧cL id≤4∧1≤cM id∧cM id≤121∧-60≤cw id∧cw id≤0∧aA id≤300:=by decide +kernel
theorem agr (dim low pl:Int) (w:Nat) (hw:w≤1000) (hl:-1000≤low∧low≤1000):aS prog mU [.agg [.d (.int .i64 dim),.d (.int .i64 low),.d (.int .i64 (low+w-1)),.d (.int .i64 pl)]]=some (.d (.int .i64 w)):=by
 rw[ao NX N0 rfl];have e:low+(w:Int)-1-low+1=w:=by omega
 simp (disch:=omega) [e]
theorem td (e w:Nat):(e:Int).tdiv w=((e / w:Nat):Int):=rfl
theorem tm (e w:Nat):(e:Int).tmod w=((e % w:Nat):Int):=rfl
theorem amK {j:Nat}{x:Int}{suf:List Int}:(List.replicate (j+1) (0:Int)++suf).set j x=List.replicate j 0++x::suf:=by
 rw[List.replicate_succ',List.append_assoc,List.set_append_right _ _ (by simp)];simp
theorem TZ (low:Int) (w pl dim:Nat) (hw:1≤w∧w≤1000) (hl:-1000≤low∧low≤1000):∀ (j e:Nat) (suf:List Int),j+suf.length=dim→dim≤10→e≤100000→
  (Dn prog).code (.loop iM) ⟨[(1,.d (.int .i64 e)),(2,.ptr 0 0),(5,.sl 1 0 dim),(6,.d (.int .i64 (j-1)))],⟨[(0,.cells [.d (.int .i64 dim),.d (.int .i64 low),.d (.int .i64 (low+w-1)),.d (.int .i64 pl)]),(1,.arr 1 (am (List.replicate j 0++suf)))],2⟩⟩ =
   some (.exit 0,⟨[(5,.sl 1 0 dim)],⟨[(1,.arr 1 (am (im low w j e++suf)))],2⟩⟩):=by
 intro j
 induction j with
 | zero =>
  intro e suf h1 h2 h3;rw[ac tR];simp (disch:=omega) [↓if_neg,im]
 | succ j ih =>
  intro e suf h1 h2 h3;have hm:e % w<w:=Nat.mod_lt _ (by omega);have hd:e / w≤e:=Nat.div_le_self _ _;have h:=ih (e / w) ((((e % w:Nat):Int)+low)::suf) (by simp;omega) h2 (by omega);rw[im,List.append_assoc,List.singleton_append,←h,←amK,ac tR];have hk:=agr dim low pl w (by omega) hl;have e1:((j+1:Nat):Int)-1=j:=by omega
  have hg:(am (List.replicate (j+1) 0++suf))[j]?=some [.int .i64 (nth (List.replicate (j+1) 0++suf) j)]:=Bn (by simp;omega);simp only[e1];have td:=td e w;have tm:=tm e w;generalize hL:List.replicate (j+1) (0:Int)++suf=L at *;generalize e / w=q at *;generalize e % w=r at *;clear ih h;simp (maxSteps:=300000) (disch:=omega) [↓if_pos,hk,td,tm,hg]
theorem NW (id e:Nat) (h:jR id) (he:e≤100000):aS prog ym [OZ id,.d (.int .i64 e)]=some (.own true 1 (am (iR id e))):=by
 obtain⟨k1,k2,k3,k4,k5,k6,k7⟩:=qx id (ft h);have hl:=TZ (cw id) (cM id) (bm id) (cL id) (by omega) (by omega) (cL id) e [] (by simp) (by omega) he;rw[ao IN Iv rfl];simp only[OZ,iR,List.append_nil]at hl⊢;have hr:am (List.replicate (cL id) 0)=List.replicate (cL id) [D.int .i64 0]:=by simp[am]
 rw[hr]at hl;have hv:(im (cw id) (cM id) (cL id) e).length=cL id:=by
  have:∀ (d e:Nat),(im (cw id) (cM id) d e).length=d:=by
   intro d
   induction d with
   | zero=>intro e;rfl
   | succ d ih=>intro e;simp[im,ih]
  exact this _ _
 generalize cw id=low at *;generalize cM id=w at *;generalize cL id=dim at *;generalize bm id=pl at *;generalize im low w dim e=V at *;simp (maxSteps:=300000) (disch:=omega) [hl,AG];exact⟨by omega,by rw[List.take_of_length_le (by omega)]⟩
theorem Mr (id e:Nat) (h:jR id) (he:e<aA id):aS prog HR [.d (.int .i64 id),.d (.int .i64 e)]=some (.tup [.own true 1 (am (iR id e)),.d (.int .i64 0)]):=by
 obtain⟨k1,k2,k3,k4,k5,k6,k7⟩:=qx id (ft h);have h1:=OC id (ft h);have h2:=Ar id (ft h);have h3:=NW id e h (by omega);rw[ao Wh Wb rfl];simp only[OZ]at h1 h2 h3;generalize cw id=low at *;generalize cM id=w at *;generalize cL id=dim at *;generalize bm id=pl at *;generalize aA id=mn at *;generalize iR id e=V at *;simp (maxSteps:=300000) (disch:=omega) [h1,h2,h3,↓if_neg]
def rN (b:List Nat) (st:RS) (s:Int):RS:=if st.e=0 then (if eO b st.a s=0 then ⟨nO b st.a s,0⟩ else ⟨st.a,eO b st.a s⟩) else st
theorem JK {b:List Nat}{st:RS}{s:Int}(hb:b.length≤1000000000) (h:st.fit):(rN b st s).fit:=by
 unfold rN;have:=aed (b:=b) (a:=st.a) (s:=s);have h2:i64 st.a:=h;split
 ·split
  ·show i64 _;simp only[];omega
  ·exact h
 ·exact h
abbrev rdC (b:List Nat) (st:RS):Obj:=.cells [.d (.lst (ae b)),.d (.int .i64 (ra st)),.d (.int .i64 (re st))]
abbrev h4 (b:List Nat) (X0 X1 X3:Obj) (st:RS):af:=[(0,X0),(1,X1),(2,rdC b st),(3,X3)]
theorem F7 (b:List Nat) (hb:b.length≤1000000000) (X0 X1 X3:Obj) (N:Nat) (st:RS) (s:Int) (hf:st.fit):(Dn prog).call rB [.ptr 2 0,.d (.int .i64 s)] ⟨h4 b X0 X1 X3 st,N⟩ =
  some (.d (.int .i64 (sV b st s)),⟨h4 b X0 X1 X3 (rN b st s),N⟩):=by
 rw[aN LI Lj rfl];obtain⟨a,e⟩:=st;have hf:i64 a:=hf;by_cases he:e=0
 ·subst he;by_cases h2:eO b a s=0
  ·simp (config := { maxSteps:=1000000 }) (disch:=omega) [CE,ra,re,sV,rN,h2]
  ·simp (config := { maxSteps:=1000000 }) (disch:=omega) [CE,ra,re,sV,rN,h2]
 ·simp (config := { maxSteps:=1000000 }) (disch:=omega) [ra,re,sV,rN,he]
def eq (b:List Nat):Nat→Nat→RS→Nat×RS
 | 0,m,st=>(m,st)
 | f+1,m,st=>if sV b st 1=1∧re (rN b st 1)=0 then eq b f (m+1) (if 8<m+1 then ⟨ra (rN b st 1),8⟩ else rN b st 1) else (m,rN b st 1)
theorem Le (b:List Nat) (hb:b.length≤1000000000) (X0 X1 X3:Obj) (N:Nat):∀ (f m:Nat) (st:RS),f+m=10→m≤9→st.fit→(m=9→st.e≠0)→
  (Dn prog).code (.loop f9) ⟨[(0,.ptr 2 0),(3,.d (.int .i64 m))],⟨h4 b X0 X1 X3 st,N⟩⟩ =
  some (.exit 0,⟨[(0,.ptr 2 0),(3,.d (.int .i64 (eq b f m st).1))],⟨h4 b X0 X1 X3 (eq b f m st).2,N⟩⟩):=by
 intro f
 induction f with
 | zero=>intro m st h1 h0 h2 h3;omega
 | succ f ih =>
  intro m st h1 h0 h2 h3;rw[ac AU,eq];have hg:=F7 b hb X0 X1 X3 N st 1 h2;have hf:=JK (s:=1) hb h2;simp only[h4]at hg;by_cases hc:sV b st 1=1∧re (rN b st 1)=0
  ·rw[if_pos hc];have he:st.e=0:=by
    have:=hc.1;unfold sV at this;by_cases h:st.e=0
    ·exact h
    ·rw[if_neg h]at this;omega
   have hm:m≠9:=fun h=>h3 h he
   by_cases h8:8<m+1
   ·rw[if_pos h8];have ih:=ih (m+1) ⟨ra (rN b st 1),8⟩ (by omega) (by omega) hf (fun _=>by simp);simp only[h4,show ra (⟨ra (rN b st 1),8⟩:RS)=ra (rN b st 1) from rfl,show re (⟨ra (rN b st 1),8⟩:RS)=8 from rfl]at ih⊢;rw[←ih];simp (maxSteps:=300000) (disch:=omega) [hg,hc.1,hc.2,↓if_pos,↓if_neg];rfl
   ·rw[if_neg h8];have ih:=ih (m+1) (rN b st 1) (by omega) (by omega) hf (fun h=>by omega);simp only[h4]at ih⊢;rw[←ih];simp (maxSteps:=300000) (disch:=omega) [hg,hc.1,hc.2,↓if_pos,↓if_neg]
  ·rw[if_neg hc];by_cases h1:sV b st 1=1
   ·have h2:¬ re (rN b st 1)=0:=fun h=>hc ⟨h1,h⟩
    simp (maxSteps:=300000) (disch:=omega) [hg,h1,h2,↓if_pos,↓if_neg]
   ·simp (maxSteps:=300000) (disch:=omega) [hg,h1,↓if_pos,↓if_neg]
theorem ND {b:List Nat}:∀ {f m:Nat}{st:RS},(eq b f m st).1≤m+f
 | 0,m,st=>by simp[eq]
 | f+1,m,st=>by
  rw[eq];split
  ·have:=ND (b:=b) (f:=f) (m:=m+1) (st:=if 8<m+1 then ⟨ra (rN b st 1),8⟩ else rN b st 1);omega
  ·simp only[];omega
theorem Ie {b:List Nat}(hb:b.length≤1000000000):∀ {f m:Nat}{st:RS},st.fit→(eq b f m st).2.fit
 | 0,m,st,h=>by simpa [eq] using h
 | f+1,m,st,h=>by
  have hr:=JK (s:=1) hb h;rw[eq];split
  ·refine Ie hb ?_;split
   ·exact hr
   ·exact hr
  ·exact hr
def I4 (b:List Nat) (st:RS):Nat:=2 ^ ((eq b 10 0 st).1+4)+sV b (eq b 10 0 st).2 (((eq b 10 0 st).1+4:Nat):Int)
def yN (b:List Nat) (st:RS):RS:=rN b (eq b 10 0 st).2 (((eq b 10 0 st).1+4:Nat):Int)
theorem akG {b:List Nat}{st:RS}(hb:b.length≤1000000000) (h:st.fit):(yN b st).fit:=JK hb (Ie hb h)
theorem acC {b:List Nat}{st:RS}:I4 b st<32768:=by
 unfold I4;have h1:=ND (b:=b) (f:=10) (m:=0) (st:=st);have h2:=oN (b:=b) (st:=(eq b 10 0 st).2) (s:=(((eq b 10 0 st).1+4:Nat):Int));rw[Int.toNat_natCast]at h2;have h3:2 ^ ((eq b 10 0 st).1+4)≤2 ^ 14:=Nat.pow_le_pow_right (by omega) (by omega);omega
theorem Sg (b:List Nat) (hb:b.length≤1000000000) (X0 X1 X3:Obj) (N:Nat) (st:RS) (hf:st.fit):(Dn prog).call tN [.ptr 2 0] ⟨h4 b X0 X1 X3 st,N⟩ =
  some (.d (.int .i64 (I4 b st)),⟨h4 b X0 X1 X3 (yN b st),N⟩):=by
 rw[aN EP Eo rfl];have hl:=Le b hb X0 X1 X3 N 10 0 st rfl (by omega) hf (by omega);have hv:=acC (b:=b) (st:=st);have h1:=ND (b:=b) (f:=10) (m:=0) (st:=st);have hf2:=Ie (f:=10) (m:=0) hb hf;unfold I4 yN at *;generalize eq b 10 0 st=p at *;obtain⟨m,s2⟩:=p;simp only at hl hv h1 hf2⊢;have hg:=F7 b hb X0 X1 X3 N s2 ((m+4:Nat):Int) hf2;have c0:((0:Nat):Int)=0:=rfl;have hs:=ae8 (m:=m+4) (by omega);have c1:((m+4:Nat):Int)=(m:Int)+4:=by omega
 simp only[c0,h4,c1]at hl hg hs;have hpos:0<2 ^ (m+4):=Nat.two_pow_pos _;have c2:((2 ^ (m+4)+sV b s2 ((m:Int)+4):Nat):Int)=((2 ^ (m+4):Nat):Int)+sV b s2 ((m:Int)+4):=by omega
 simp only[h4,c1,c2];rw[c1]at hv;generalize 2 ^ (m+4)=P at *;simp (maxSteps:=300000) (disch:=omega) [hl,hg,hs,-Bo]
def pg (b:List Nat):List Int→RS→List Nat
 | [],_=>[]
 | v::r,st=>if v=0 then 0::pg b r st else sV b st 1::pg b r (rN b st 1)
def lY (b:List Nat):List Int→RS→RS
 | [],st=>st
 | v::r,st=>if v=0 then lY b r st else lY b r (rN b st 1)
def sg (s:Nat) (v:Int):Int:=if s=1 then -v else v
def zV (b:List Nat) (id:Nat):List Int→List Nat→RS→List Int
 | v::r,s::ss,st=>if id=11∧v=16 then sg s (I4 b st)::zV b id r ss (yN b st) else sg s v::zV b id r ss st
 | _,_,_=>[]
def rq (b:List Nat) (id:Nat):List Int→List Nat→RS→RS
 | v::r,_::ss,st=>if id=11∧v=16 then rq b id r ss (yN b st) else rq b id r ss st
 | _,_,st=>st
theorem Sb {α:Type}{a r:List α}{x y:α}:(a++x::r).set a.length y=a++y::r:=by
 rw[List.set_append_right _ _ (by omega)];simp
theorem aiz {a r:List Nat}{x:Nat}:nth (a++x::r) a.length=x:=by simp[nth]
theorem Od {a r:List Int}{x:Int}:nth (a++x::r) a.length=x:=by simp[nth]
theorem abu (b:List Nat) (hb:b.length≤1000000000) (X0:Obj) (N:Nat) (vals:List Int) (hl:vals.length≤100):∀ (vs:List Int) (pre:List Int) (sgn:List Nat) (st:RS),vals=pre++vs→sgn.length=pre.length→st.fit→
  (Dn prog).code (.loop nI) ⟨[(5,.ptr 0 0),(6,.sl 1 0 vals.length),(10,.ptr 2 0),(11,.sl 3 0 vals.length),(51,.sl 1 0 vals.length),(52,.d (.int .i64 vals.length)),(53,.d (.int .i64 pre.length))],⟨h4 b X0 (.arr 1 (am vals)) (.arr 1 (bB (sgn++List.replicate vs.length 0))) st,N⟩⟩ =
  some (.exit 0,⟨[(5,.ptr 0 0),(6,.sl 1 0 vals.length),(10,.ptr 2 0),(11,.sl 3 0 vals.length)],⟨h4 b X0 (.arr 1 (am vals)) (.arr 1 (bB (sgn++pg b vs st))) (lY b vs st),N⟩⟩):=by
 intro vs
 induction vs with
 | nil =>
  intro pre sgn st h1 h2 h3;rw[List.append_nil]at h1;subst h1;rw[ac Hj];simp (maxSteps:=300000) (disch:=omega) [↓if_neg,pg,lY]
 | cons v vs ih =>
  intro pre sgn st h1 h2 h3;have hlen:vals.length=pre.length+(vs.length+1):=by rw[h1];simp
  have hgv:nth vals pre.length=v:=by rw[h1];exact Od
  have hgi:(am vals)[pre.length]?=some [.int .i64 v]:=by rw[Bn (by omega),hgv]
  have hg:=fun X1 X3=>F7 b hb X0 X1 X3 N st 1 h3
  rw[ac Hj,List.length_cons,List.replicate_succ];have hsl:(bB (sgn++0::List.replicate vs.length 0))[pre.length]?=some [.int .i64 0]:=by
   rw[FY (by simp;omega),←h2,aiz];rfl
  simp only[h4]at hg⊢;by_cases hv:v=0
  ·subst hv;have ih:=ih (pre++[0]) (sgn++[0]) st (by rw[h1];simp) (by simp[h2]) h3;simp only[h4]at ih;simp only[pg,lY,if_true];simp (maxSteps:=300000) (disch:=omega) [↓if_pos,↓if_neg,hgi];simp at ih;exact ih
  ·have ih:=ih (pre++[v]) (sgn++[sV b st 1]) (rN b st 1) (by rw[h1];simp) (by simp[h2]) (JK hb h3);simp only[h4]at ih;simp only[pg,lY,if_neg hv];simp (maxSteps:=300000) (disch:=omega) [↓if_pos,↓if_neg,hgi,hv,hg,hsl];simp at ih;exact ih
theorem aaJ (b:List Nat) (hb:b.length≤1000000000) (id:Nat) (pl:Int) (x2 x3:AV) (N len:Nat) (hlen:len≤100) (sgn:List Nat) (hsg:sgn.length=len):∀ (vs:List Int) (done:List Int) (st:RS),done.length+vs.length=len→(∀ v∈vs,0≤v∧v≤130)→st.fit→
  (Dn prog).code (.loop nQ) ⟨[(5,.ptr 0 0),(6,.sl 1 0 len),(10,.ptr 2 0),(11,.sl 3 0 len),(66,.sl 1 0 len),(67,.d (.int .i64 len)),(68,.d (.int .i64 done.length))],⟨h4 b (.cells [.d (.int .i64 id),.d (.int .i64 pl),x2,x3]) (.arr 1 (am (done++vs))) (.arr 1 (bB sgn)) st,N⟩⟩ =
  some (.exit 2,⟨[(6,.sl 1 0 len),(10,.ptr 2 0)],⟨[(1,.arr 1 (am (done++zV b id vs (sgn.drop done.length) st))),(2,rdC b (rq b id vs (sgn.drop done.length) st)),(3,.arr 1 (bB sgn))],N⟩⟩):=by
 intro vs
 induction vs with
 | nil =>
  intro done st h1 h2 h3;rw[ac HA];have:done.length=len:=by simpa using h1
  simp (maxSteps:=300000) (disch:=omega) [↓if_neg,zV,rq]
 | cons v vs ih =>
  intro done st h1 h2 h3;have hv:=h2 v (by simp);have h1:done.length+(vs.length+1)=len:=by simpa using h1
  have hgi:(am (done++v::vs))[done.length]?=some [.int .i64 v]:=by rw[Bn (by simp),Od]
  have hgs:(bB sgn)[done.length]?=some [.int .i64 (nth sgn done.length:Nat)]:=FY (by omega);have hset:∀ x:Int,(am (done++v::vs)).set done.length [.int .i64 x]=am (done++x::vs):=fun x=>by rw[X8,Sb]
  have hset2:∀ y x:Int,(am (done++y::vs)).set done.length [.int .i64 x]=am (done++x::vs):=fun y x=>by rw[X8,Sb]
  have hgi2:∀ x:Int,(am (done++x::vs))[done.length]?=some [.int .i64 x]:=fun x=>by rw[Bn (by simp),Od]
  have hE:=fun X1 X3=>Sg b hb (.cells [.d (.int .i64 id),.d (.int .i64 pl),x2,x3]) X1 X3 N st h3
  have hel:=acC (b:=b) (st:=st);rw[ac HA,tg (by omega),zV,rq];simp only[h4]at hE⊢;by_cases hid:id=11∧v=16
  ·obtain⟨rfl,rfl⟩:=hid;rw[if_pos ⟨rfl,rfl⟩,if_pos ⟨rfl,rfl⟩];have ih:=ih (done++[sg (nth sgn done.length) (I4 b st)]) (yN b st) (by simp;omega) (fun x hx=>h2 x (by simp[hx])) (akG hb h3);simp only[h4]at ih;simp at ih;have c11:((11:Nat):Int)=11:=rfl;simp only[c11]at hE;by_cases hs:nth sgn done.length=1
   ·simp only[sg,if_pos hs]at ih⊢;simp (maxSteps:=300000) (disch:=omega) [↓if_pos,↓if_neg,hgi,hE,hset,hgs,hgi2,hset2,hs];exact ih
   ·simp only[sg,if_neg hs]at ih⊢;simp (maxSteps:=300000) (disch:=omega) [↓if_pos,↓if_neg,hgi,hE,hset,hgs,hgi2,hset2,hs];exact ih
  ·rw[if_neg hid,if_neg hid];have ih:=ih (done++[sg (nth sgn done.length) v]) st (by simp;omega) (fun x hx=>h2 x (by simp[hx])) h3;simp only[h4]at ih;simp at ih;by_cases hi:id=11
   ·subst hi;have c11:((11:Nat):Int)=11:=rfl;have hv2:v≠16:=fun h=>hid ⟨rfl,h⟩
    by_cases hs:nth sgn done.length=1
    ·simp only[sg,if_pos hs]at ih⊢;simp (maxSteps:=300000) (disch:=omega) [↓if_pos,↓if_neg,hgi,hset,hgs,hgi2,hset2,hs,hv2];exact ih
    ·simp only[sg,if_neg hs]at ih⊢;simp (maxSteps:=300000) (disch:=omega) [↓if_pos,↓if_neg,hgi,hset,hgs,hgi2,hset2,hs,hv2];exact ih
   ·by_cases hs:nth sgn done.length=1
    ·simp only[sg,if_pos hs]at ih⊢;simp (maxSteps:=300000) (disch:=omega) [↓if_pos,↓if_neg,hgi,hset,hgs,hgi2,hset2,hs];exact ih
    ·simp only[sg,if_neg hs]at ih⊢;simp (maxSteps:=300000) (disch:=omega) [↓if_pos,↓if_neg,hgi,hset,hgs,hgi2,hset2,hs];exact ih
def fW (b:List Nat):List Int→Nat→R (List Nat)
 | [],a=>.ok [] a
 | v::r,a=>if v=0 then (fW b r a).bind fun l n=>.ok (0::l) n else (aw b a 1).bind fun s n=>(fW b r n).bind fun l n=>.ok (s::l) n
def qp (b:List Nat):Nat→Nat→Nat→R Nat
 | 0,_,_=>.er 7
 | f+1,m,a=>(aw b a 1).bind fun v n=>if v=1 then qp b f (m+1) n else .ok m n
def Gp (b:List Nat) (a:Nat):R Nat:=(qp b 9 0 a).bind fun m n=>(aw b n ((m+4:Nat):Int)).bind fun x n=>.ok (2 ^ (m+4)+x) n
def io (b:List Nat) (id:Nat):List Int→List Nat→Nat→R (List Int)
 | v::r,s::ss,a=>if id=11∧v=16 then (Gp b a).bind fun x n=>(io b id r ss n).bind fun l n=>.ok (sg s x::l) n else (io b id r ss a).bind fun l n=>.ok (sg s v::l) n
 | _,_,a=>.ok [] a
def xV (id:Nat) (b:List Nat) (a:Int):R (List Int) :=
 (sI id b a).bind fun e n=>if jM id then .ok (iR id e) n else (fW b (iR id e) n).bind fun ss n=>io b id (iR id e) ss n
theorem K6 {b:List Nat}{a s:Int}{v n:Nat}(h:aw b a s=.ok v n):sV b ⟨a,0⟩ s=v∧rN b ⟨a,0⟩ s=⟨n,0⟩:=by
 constructor<;>simp[sV,rN,vO,nO,eO,h]
theorem Ww {b:List Nat}{a s:Int}{e:Nat}(h:aw b a s=.er e):sV b ⟨a,0⟩ s=0∧rN b ⟨a,0⟩ s=⟨a,e+1⟩:=by
 constructor<;>simp[sV,rN,vO,nO,eO,h]
theorem XV {b:List Nat}{a s:Int}{e:Nat}:sV b ⟨a,e+1⟩ s=0∧rN b ⟨a,e+1⟩ s=⟨a,e+1⟩:=by
 constructor<;>simp[sV,rN]
theorem ac0 {b:List Nat}{a:Int}{e:Nat}{f m:Nat}:eq b f m ⟨a,e+1⟩=(m,⟨a,e+1⟩):=by
 cases f with
 | zero=>rfl
 | succ f=>rw[eq,XV.1,XV.2,if_neg (by simp)]
theorem apd {b:List Nat}{a:Int}{e:Nat}:yN b ⟨a,e+1⟩=⟨a,e+1⟩:=by
 rw[yN,ac0,XV.2]
theorem adG {b:List Nat}{a:Int}{e:Nat}:∀ {vs:List Int},lY b vs ⟨a,e+1⟩=⟨a,e+1⟩
 | []=>rfl
 | v::r=>by
  rw[lY];split
  ·exact adG
  ·rw[XV.2];exact adG
theorem WM {b:List Nat}{id:Nat}{a:Int}{e:Nat}:∀ {vs:List Int}{ss:List Nat},rq b id vs ss ⟨a,e+1⟩=⟨a,e+1⟩
 | [],_=>by simp[rq]
 | _::_,[]=>by simp[rq]
 | v::r,s::ss=>by
  rw[rq];split
  ·rw[apd];exact WM
  ·exact WM
theorem ajc {b:List Nat}:∀ {vs:List Int}{a:Nat},match fW b vs a with
  | .ok l n=>pg b vs ⟨a,0⟩=l∧lY b vs ⟨a,0⟩=⟨n,0⟩
  | .er e=>(lY b vs ⟨a,0⟩).e=e+1
 | [],a=>⟨rfl,rfl⟩
 | v::r,a=>by
  simp only[fW,pg,lY];by_cases hv:v=0
  ·simp only[if_pos hv];have ih:=ajc (b:=b) (vs:=r) (a:=a)
   cases h:fW b r a with
   | ok l n=>rw[h]at ih;exact⟨by rw[ih.1],ih.2⟩
   | er e=>rw[h]at ih;exact ih
  ·simp only[if_neg hv]
   cases h1:aw b a 1 with
   | ok s n =>
    rw[(K6 h1).1,(K6 h1).2,aj];have ih:=ajc (b:=b) (vs:=r) (a:=n)
    cases h:fW b r n with
    | ok l n=>rw[h]at ih;exact⟨by rw[ih.1],ih.2⟩
    | er e=>rw[h]at ih;exact ih
   | er e=>rw[(Ww h1).2,aU];simp only[adG]
theorem ago {b:List Nat}:∀ {f m a:Nat},f+1+m=9→match qp b (f+1) m a with
  | .ok k n=>eq b (f+2) m ⟨a,0⟩=(k,⟨n,0⟩)
  | .er e=>(eq b (f+2) m ⟨a,0⟩).2.e=e+1
 | f,m,a,hm=>by
  rw[qp,eq]
  cases h1:aw b a 1 with
  | er e=>rw[(Ww h1).1,(Ww h1).2,aU,if_neg (by simp)]
  | ok v n =>
   rw[(K6 h1).1,(K6 h1).2,aj];by_cases hv:v=1
   ·subst hv;rw[if_pos rfl,if_pos ⟨rfl,rfl⟩]
    cases f with
    | zero =>
     rw[if_pos (by omega),qp];show (eq b 1 (m+1) ⟨ra ⟨n,0⟩,7+1⟩).2.e=7+1;rw[ac0]
    | succ f =>
     rw[if_neg (by omega)];exact ago (by omega)
   ·rw[if_neg hv,if_neg (fun h=>hv h.1)]
theorem atc {b:List Nat}{a:Nat}:match Gp b a with
  | .ok v n=>I4 b ⟨a,0⟩=v∧yN b ⟨a,0⟩=⟨n,0⟩
  | .er e=>(yN b ⟨a,0⟩).e=e+1:=by
 rw[Gp,I4,yN];have h:=ago (b:=b) (f:=8) (m:=0) (a:=a) rfl
 cases h1:qp b 9 0 a with
 | er e =>
  rw[h1]at h;generalize eq b 10 0 ⟨a,0⟩=p at *;obtain⟨m,x,y⟩:=p;simp only at h;subst h;simp only[XV,aU]
 | ok k n =>
  rw[h1]at h;rw[aj,h]
  cases h2:aw b n ((k+4:Nat):Int) with
  | er e=>simp only[(Ww h2).2,aU]
  | ok v m=>simp only[(K6 h2).1,(K6 h2).2,aj];exact⟨trivial,trivial⟩
theorem ak6 {b:List Nat}{id:Nat}:∀ {vs:List Int}{ss:List Nat}{a:Nat},match io b id vs ss a with
  | .ok l n=>zV b id vs ss ⟨a,0⟩=l∧rq b id vs ss ⟨a,0⟩=⟨n,0⟩
  | .er e=>(rq b id vs ss ⟨a,0⟩).e=e+1
 | [],ss,a=>by simp[io,zV,rq]
 | v::r,[],a=>by simp[io,zV,rq]
 | v::r,s::ss,a=>by
  rw[io,zV,rq];by_cases hc:id=11∧v=16
  ·simp only[if_pos hc];have h:=atc (b:=b) (a:=a)
   cases h1:Gp b a with
   | er e =>
    rw[h1]at h;generalize yN b ⟨a,0⟩=p at *;obtain⟨x,y⟩:=p;simp only at h;subst h;simp only[WM,aU]
   | ok x n =>
    rw[h1]at h;rw[h.1,h.2,aj];have ih:=ak6 (b:=b) (id:=id) (vs:=r) (ss:=ss) (a:=n)
    cases h2:io b id r ss n with
    | ok l n=>rw[h2]at ih;exact⟨by rw[ih.1],ih.2⟩
    | er e=>rw[h2]at ih;exact ih
  ·simp only[if_neg hc];have ih:=ak6 (b:=b) (id:=id) (vs:=r) (ss:=ss) (a:=a)
   cases h2:io b id r ss a with
   | ok l n=>rw[h2]at ih;exact⟨by rw[ih.1],ih.2⟩
   | er e=>rw[h2]at ih;exact ih
abbrev AQ:VC:=(.seq zn (.seq wo (.seq (.seq xl (.block 0 (.seq (.loop nI) (K [51,52,53])))) (.seq (.seq xo (.block 2 (.seq (.loop nQ) (.seq (K [11,66,67,68]) (F 5))))) (.seq (.seq wO (.cond (.m 103) (.seq (K [6]) (.seq qj .ret)) .skip)) (.seq qf .ret))))))
theorem U4 {low:Int}{w:Nat}:∀ {d e:Nat},(im low w d e).length=d
 | 0,_=>rfl
 | d+1,e=>by simp[im,U4]
theorem Br {low:Int}{w:Nat}(hw:1≤w):∀ {d e:Nat},∀ x∈im low w d e,low≤x∧x<low+w
 | 0,_,x,h=>by simp[im]at h
 | d+1,e,x,h=>by
  rw[im,List.mem_append]at h;have:=Nat.mod_lt e (show w > 0 by omega);rcases h with h | h
  ·exact Br hw x h
  ·simp at h;omega
theorem xZ {id e:Nat}:(iR id e).length=cL id:=U4
theorem JB:∀ id∈ids,jM id=false→cw id=0:=by decide +kernel
theorem afu (b:List Nat) (hb:b.length≤1000000000) (id:Nat) (pl:Int) (x2 x3:AV) (vals:List Int) (hl:1≤vals.length∧vals.length≤100) (hv:∀ v∈vals,0≤v∧v≤130) (n:Nat) (hn:n≤b.length) (hx2:aV x2=true) :
  nC (pO [.tmp 6,.tmp 7,.tmp 8] ((Dn prog).code AQ ⟨[(0,.d (.lst (ae b))),(5,.ptr 0 0),(6,.sl 1 0 vals.length),(7,.d (.int .i64 n))],⟨[(0,.cells [.d (.int .i64 id),.d (.int .i64 pl),x2,x3]),(1,.arr 1 (am vals))],2⟩⟩)) =
  if re (rq b id vals (pg b vals ⟨n,0⟩) (lY b vals ⟨n,0⟩))=0 then some (.tup [.own true 1 (am (zV b id vals (pg b vals ⟨n,0⟩) (lY b vals ⟨n,0⟩))),.d (.int .i64 (ra (rq b id vals (pg b vals ⟨n,0⟩) (lY b vals ⟨n,0⟩)))),.d (.int .i64 0)])
  else some (.tup [.nl,.d (.int .i64 0),.d (.int .i64 (re (rq b id vals (pg b vals ⟨n,0⟩) (lY b vals ⟨n,0⟩))))]):=by
 have hf:RS.fit ⟨n,0⟩:=by show i64 _;simp only[];omega
 have sgl:∀ (vs:List Int) (st:RS),(pg b vs st).length=vs.length:=by
  intro vs
  induction vs with
  | nil=>intro st;rfl
  | cons v r ih=>intro st;rw[pg];split<;>simp[ih]
 have sgf:∀ (vs:List Int) (st:RS),st.fit→(lY b vs st).fit:=by
  intro vs
  induction vs with
  | nil=>intro st h;exact h
  | cons v r ih =>
   intro st h;rw[lY];split
   ·exact ih _ h
   ·exact ih _ (JK hb h)
 have l0:=fun X0=>abu b hb X0 4 vals hl.2 vals [] [] ⟨n,0⟩ (by simp) rfl hf
 have l1:=aaJ b hb id pl x2 x3 4 vals.length hl.2 (pg b vals ⟨n,0⟩) (sgl _ _) vals [] (lY b vals ⟨n,0⟩) (by simp) hv (sgf _ _ hf);have vll:(zV b id vals (pg b vals ⟨n,0⟩) (lY b vals ⟨n,0⟩)).length=vals.length:=by
  have:∀ (vs:List Int) (ss:List Nat) (st:RS),ss.length=vs.length→(zV b id vs ss st).length=vs.length:=by
   intro vs
   induction vs with
   | nil=>intro ss st h;simp[zV]
   | cons v r ih =>
    intro ss st h
    cases ss with
    | nil=>simp at h
    | cons s ss =>
     rw[zV];split<;>simp[ih _ _ (by simpa using h)]
  exact this _ _ _ (sgl _ _)
 have hz:bB (List.replicate vals.length 0)=List.replicate vals.length [.int .i64 0]:=by simp[bB]
 have c0:((0:Nat):Int)=0:=rfl;simp only[List.nil_append,List.length_nil,List.drop_zero,h4,rdC,hz,c0,atg,atv]at l0 l1;generalize rq b id vals (pg b vals ⟨n,0⟩) (lY b vals ⟨n,0⟩)=st3 at *;generalize zV b id vals (pg b vals ⟨n,0⟩) (lY b vals ⟨n,0⟩)=V3 at *;generalize pg b vals ⟨n,0⟩=S1 at *;generalize lY b vals ⟨n,0⟩=st2 at *;simp (maxSteps:=300000) (disch:=omega) [l0,l1,AG];by_cases hre:re st3=0
 ·rw[if_pos hre,if_pos hre,if_pos (show vals.length≤V3.length by omega),List.take_of_length_le (by omega)]
 ·rw[if_neg hre,if_neg hre]
theorem ajK {b:List Nat}{id:Nat}{vals:List Int}{n:Nat}{γ:Type}{F:List Int→Int→γ}{G:Nat→γ} :
  (if re (rq b id vals (pg b vals ⟨n,0⟩) (lY b vals ⟨n,0⟩))=0 then F (zV b id vals (pg b vals ⟨n,0⟩) (lY b vals ⟨n,0⟩)) (ra (rq b id vals (pg b vals ⟨n,0⟩) (lY b vals ⟨n,0⟩)))
  else G (re (rq b id vals (pg b vals ⟨n,0⟩) (lY b vals ⟨n,0⟩))))=match (fW b vals n).bind fun ss n=>io b id vals ss n with
   | .ok l n=>F l n
   | .er e=>G (e+1):=by
 have h1:=ajc (b:=b) (vs:=vals) (a:=n)
 cases h2:fW b vals n with
 | er e =>
  rw[h2]at h1;generalize lY b vals ⟨n,0⟩=p at *;obtain⟨x,y⟩:=p;simp only at h1;subst h1;rw[WM,aU,if_neg (by simp[re])];rfl
 | ok ss m =>
  rw[h2]at h1;rw[h1.1,h1.2,aj];have h3:=ak6 (b:=b) (id:=id) (vs:=vals) (ss:=ss) (a:=m)
  cases h4:io b id vals ss m with
  | er e =>
   rw[h4]at h3;have h5:re (rq b id vals ss ⟨m,0⟩)=e+1:=h3;rw[h5,if_neg (by omega)]
  | ok l k =>
   rw[h4]at h3;rw[h3.1,h3.2];rfl
abbrev pH (b:List Nat) (id:Nat) (l:List Int) (n:Nat):Prop:=l.length=cL id∧n≤b.length∧∀ x∈l,-40000≤x∧x≤40000
theorem Gz {b:List Nat}:∀ {vs:List Int}{a:Nat}{l:List Nat}{n:Nat},a≤b.length→fW b vs a=.ok l n→l.length=vs.length∧n≤b.length
 | [],a,l,n,ha,h=>by
  simp only[fW]at h;injection h with e1 e2
  subst e1 e2;exact⟨rfl,ha⟩
 | v::r,a,l,n,ha,h=>by
  simp only[fW]at h;by_cases hv:v=0
  ·rw[if_pos hv]at h
   cases h1:fW b r a with
   | er e=>rw[h1]at h;exact absurd h (by simp)
   | ok l2 n2 =>
    have ih:=Gz ha h1;rw[h1,aj]at h;injection h with e1 e2
    subst e1 e2;exact⟨by simp[ih.1],ih.2⟩
  ·rw[if_neg hv]at h
   cases h0:aw b a 1 with
   | er e=>rw[h0]at h;exact absurd h (by simp)
   | ok s m =>
    rw[h0,aj]at h
    cases h1:fW b r m with
    | er e=>rw[h1]at h;exact absurd h (by simp)
    | ok l2 n2 =>
     have ih:=Gz (bY h0).2 h1;rw[h1,aj]at h;injection h with e1 e2
     subst e1 e2;exact⟨by simp[ih.1],ih.2⟩
theorem ac2 {b:List Nat}:∀ {f m a k n:Nat},f+m=9→qp b f m a=.ok k n→k≤8∧n≤b.length
 | 0,_,_,_,_,_,h=>absurd h (by simp[qp])
 | f+1,m,a,k,n,hf,h=>by
  rw[qp]at h
  cases h1:aw b a 1 with
  | er e=>rw[h1]at h;exact absurd h (by simp)
  | ok v a1 =>
   rw[h1,aj]at h;by_cases hv:v=1
   ·rw[if_pos hv]at h;exact ac2 (by omega) h
   ·rw[if_neg hv]at h;injection h with e1 e2
    subst e1 e2;exact⟨by omega,(bY h1).2⟩
theorem aoV {b:List Nat}{a v n:Nat}(h:Gp b a=.ok v n):v≤30000∧n≤b.length:=by
 rw[Gp]at h
 cases h1:qp b 9 0 a with
 | er e=>rw[h1]at h;exact absurd h (by simp)
 | ok m n1 =>
  have hp:=ac2 rfl h1;rw[h1,aj]at h
  cases h2:aw b n1 ((m+4:Nat):Int) with
  | er e=>rw[h2]at h;exact absurd h (by simp)
  | ok x n2 =>
   have hq:=bY h2;rw[h2,aj]at h;injection h with e1 e2
   subst e1 e2;have h3:2 ^ (m+4)≤2 ^ 12:=Nat.pow_le_pow_right (by omega) (by omega);have h4:=hq.1;rw[Int.toNat_natCast]at h4;exact⟨by omega,hq.2⟩
theorem KE {b:List Nat}{id:Nat}:∀ {vs:List Int}{ss:List Nat}{a:Nat}{l:List Int}{n:Nat},a≤b.length→ss.length=vs.length→(∀ v∈vs,-100≤v∧v≤130)→io b id vs ss a=.ok l n→l.length=vs.length∧n≤b.length∧∀ x∈l,-40000≤x∧x≤40000
 | [],ss,a,l,n,ha,hs,hv,h=>by
  simp only[io]at h;injection h with e1 e2
  subst e1 e2;exact⟨rfl,ha,by simp⟩
 | v::r,[],a,l,n,ha,hs,hv,h=>by simp at hs
 | v::r,s::ss,a,l,n,ha,hs,hv,h=>by
  have hs2:ss.length=r.length:=by simpa using hs
  have hv2:∀ v∈r,-100≤v∧v≤130:=fun x hx=>hv x (by simp[hx])
  have hv1:=hv v (by simp);have hsg:∀ y:Int,-40000≤y→y≤40000→-40000≤sg s y∧sg s y≤40000:=fun y h1 h2=>by unfold sg;split<;>omega
  rw[io]at h;by_cases hc:id=11∧v=16
  ·rw[if_pos hc]at h
   cases h1:Gp b a with
   | er e=>rw[h1]at h;exact absurd h (by simp)
   | ok x n1 =>
    have hp:=aoV h1;rw[h1,aj]at h
    cases h2:io b id r ss n1 with
    | er e=>rw[h2]at h;exact absurd h (by simp)
    | ok l2 n2 =>
     obtain⟨i1,i2,i3⟩:=KE hp.2 hs2 hv2 h2;rw[h2,aj]at h;injection h with e1 e2
     subst e1 e2;refine⟨by simp[i1],i2,fun y hy=>?_⟩;rcases List.mem_cons.1 hy with e | e
     ·subst e;exact hsg _ (by omega) (by omega)
     ·exact i3 y e
  ·rw[if_neg hc]at h
   cases h2:io b id r ss a with
   | er e=>rw[h2]at h;exact absurd h (by simp)
   | ok l2 n2 =>
    obtain⟨i1,i2,i3⟩:=KE ha hs2 hv2 h2;rw[h2,aj]at h;injection h with e1 e2
    subst e1 e2;refine⟨by simp[i1],i2,fun y hy=>?_⟩;rcases List.mem_cons.1 hy with e | e
    ·subst e;exact hsg _ (by omega) (by omega)
    ·exact i3 y e
theorem J1 {id:Nat}{b:List Nat}{a:Int}{e n:Nat}(hid:jR id) (h:sI id b a=.ok e n):e<aA id∧n≤b.length:=by
 rw[sI]at h
 cases z1:iB b 10 0 a with
 | er e=>rw[z1]at h;exact absurd h (by simp)
 | ok m m1 =>
  rw[z1,aj]at h
  cases z2:aw b m1 m with
  | er e=>rw[z2]at h;exact absurd h (by simp)
  | ok hi m2 =>
   rw[z2,aj]at h
   cases z3:aw b m2 (bm id) with
   | er e=>rw[z3]at h;exact absurd h (by simp)
   | ok lo m3 =>
    rw[z3,aj]at h;by_cases hc:(bc id).length≤(2 ^ m+hi-1)*2 ^ bm id+lo
    ·rw[if_pos hc]at h;exact absurd h (by simp)
    ·rw[if_neg hc]at h;injection h with e1 e2
     subst e1 e2;exact⟨(CP (by omega)).2.2.2 _ (ig (by omega)),(bY z3).2⟩
theorem an5 {id:Nat}{b:List Nat}{a:Int}{l:List Int}{n:Nat}(hid:jR id) (h:xV id b a=.ok l n):pH b id l n:=by
 obtain⟨k1,k2,k3,k4,k5,k6,k7⟩:=qx id (ft hid);rw[xV]at h
 cases h1:sI id b a with
 | er e=>rw[h1]at h;exact absurd h (by simp)
 | ok e n1 =>
  have hp:=(J1 hid h1).2;have hv:∀ v∈iR id e,-100≤v∧v≤200:=fun v hv=>by
   have:=Br (low:=cw id) (w:=cM id) k3 (d:=cL id) (e:=e) v hv;omega
  rw[h1,aj]at h;by_cases hs:jM id=true
  ·rw[if_pos hs]at h;injection h with e1 e2
   subst e1 e2;exact⟨xZ,hp,fun x hx=>by have:=hv x hx;omega⟩
  ·rw[if_neg hs]at h
   cases h2:fW b (iR id e) n1 with
   | er e=>rw[h2]at h;exact absurd h (by simp)
   | ok ss n2 =>
    have hq:=Gz hp h2;rw[h2,aj]at h;have hus:=JB id (ft hid) (by simpa using hs);have hv2:∀ v∈iR id e,-100≤v∧v≤130:=fun v hv=>by
     have:=Br (low:=cw id) (w:=cM id) k3 (d:=cL id) (e:=e) v hv;omega
    have:=KE hq.2 hq.1 hv2 h;exact⟨by rw[this.1,xZ],this.2⟩
theorem akk (id:Nat) (b:List Nat) (a:Int) (hb:b.length≤1000000000) (ha:i64 a) (hid:1≤id∧id≤11):aS prog qK [.d (.lst (ae b)),.d (.int .i64 a),qH id] =
  rK (pH b id) (xV id b a) (fun l n=>some (.tup [.own true 1 (am l),.d (.int .i64 n),.d (.int .i64 0)])) (fun e=>some (.tup [.nl,.d (.int .i64 0),.d (.int .i64 (e+1))])):=by
 have hok:jR id:=⟨hid.1,by omega⟩
 have hr:=UO id b a hb ha hok;have hsg:=Yn id (by
  obtain⟨h1,h2⟩:=hid;simp only[ids,List.take,List.mem_cons,List.not_mem_nil,or_false];omega)
 have hV:=fun e he=>Mr id e hok he
 obtain⟨k1,k2,k3,k4,k5,k6,k7⟩:=qx id (ft hok);have hus:=JB id (ft hok);rw[ao afN ae5 rfl];obtain⟨T,ht⟩:∃ T,T=AQ:=⟨_,rfl⟩
 have hT:=fun pl x2 x3 vals hl hv n hn hx2=>afu b hb id pl x2 x3 vals hl hv n hn hx2
 rw[←ht]at hT;unfold AQ at ht;rw[←ht];simp only[qH]at hr⊢;rw[xV,qB (q:=fun e n=>e<aA id∧n≤b.length) (fun e n h=>J1 hok h)];have hbl:∀ e,(iR id e).length=cL id:=fun e=>xZ
 have hbi:=fun e=>Br (low:=cw id) (w:=cM id) k3 (d:=cL id) (e:=e)
 generalize hes:bc id=es at *;generalize hrs:cJ id=rs at *;generalize hpl:bm id=pl at *;simp (maxSteps:=300000) (disch:=omega) [hr,hsg,↓if_pos,↓if_neg];refine fF (fun _ _=>rfl) (fun e n hp=>?_) fun _=>rfl
 have hVe:=hV e hp.1;have hie:=hbi e;simp only[iR]at hVe hbl⊢;have hble:=hbl e;generalize im (cw id) (cM id) (cL id) e=vals at *;by_cases hs:jM id=true
 ·rw[if_pos hs,bV ⟨hble,hp.2,fun x hx=>by have:=hie x hx;omega⟩];simp (maxSteps:=300000) (disch:=omega) [hVe,hsg,hs,↓if_pos,↓if_neg]
 ·have hs2:jM id=false:=by simpa using hs
  have hT2:=hT pl (.d (.lst (bB es))) (.d (.lst (bB rs))) vals (by omega) (fun v hv=>by have:=hie v hv;have:=hus hs2;omega) n hp.2 rfl;rw[if_neg hs];simp (maxSteps:=300000) (disch:=omega) [hVe,hsg,hs2,↓if_pos,↓if_neg];rw[hT2];refine(ajK (γ:=Option AV) (F:=fun l n=>some (.tup [.own true 1 (am l),.d (.int .i64 n),.d (.int .i64 0)])) (G:=fun e=>some (.tup [.nl,.d (.int .i64 0),.d (.int .i64 e)]))).trans ?_
  cases h1:fW b vals n with
  | er e=>simp[rK]
  | ok ss m =>
   have hq:=Gz hp.2 h1;rw[aj]
   cases h2:io b id vals ss m with
   | er e=>simp[rK]
   | ok l k =>
    have hv2:=KE hq.2 hq.1 (fun v hv=>by have:=hie v hv;omega) h2;rw[bV ⟨by omega,hv2.2⟩]
def A9 (b:List Nat) (a:Int):R Int:=(sI 12 b a).bind fun e n=>.ok ((e:Int)-60) n
abbrev pSt (b:List Nat) (d:Int) (n:Nat):Prop:=(-60≤d∧d≤60)∧n≤b.length
theorem am9 {γ:Type}{b:List Nat}{a:Int}{F:Int→Nat→γ}{G:Nat→γ}:rK (pSt b) (A9 b a) F G=rK (fun e n=>e<aA 12∧n≤b.length) (sI 12 b a) (fun e n=>F ((e:Int)-60) n) G:=by
 rw[A9,qB (q:=fun e n=>e<aA 12∧n≤b.length) (fun e n h=>J1 (by omega) h)];refine fF (fun _ _=>rfl) (fun e n hp=>?_) fun _=>rfl
 have h1:e<121:=hp.1;rw[bV ⟨by omega,hp.2⟩]
theorem Yk (b:List Nat) (a:Int) (hb:b.length≤1000000000) (ha:i64 a):aS prog Fa [.d (.lst (ae b)),.d (.int .i64 a)] =
  rK (pSt b) (A9 b a) (fun d n=>some (.tup [.d (.int .i64 d),.d (.int .i64 n),.d (.int .i64 0)])) (fun e=>some (.tup [.d (.int .i64 0),.d (.int .i64 0),.d (.int .i64 (e+1))])):=by
 have hok:jR 12:=by omega
 have hr:=UO 12 b a hb ha hok;have hg:=YC 12 hok;have hV:=fun e he=>Mr 12 e hok he
 have c12:((12:Nat):Int)=12:=rfl;rw[ao S8 Ue rfl,am9];simp only[qH,Rm,c12]at hr hg hV⊢;generalize hes:bc 12=es at *;generalize hrs:cJ 12=rs at *;generalize hpl:bm 12=pl at *;simp (maxSteps:=300000) (disch:=omega) [hr,hg,↓if_pos,↓if_neg];refine fF (fun _ _=>rfl) (fun e n hp=>?_) fun _=>rfl
 have h1:e<121:=hp.1;have hv:am (iR 12 e)=[[.int .i64 ((e:Int)-60)]]:=by
  show am [((e % 121:Nat):Int)+-60]=_;rw[Nat.mod_eq_of_lt h1];rfl
 have hVe:=hV e hp.1;rw[hv]at hVe;simp (maxSteps:=300000) (disch:=omega) [hVe]
structure H2 (hp:Int→Int→af) (A:Nat):Prop where
 get:∀ s z,get (hp s z) A=some (.cells [.d (.int .i64 s),.d (.int .i64 z)])
 put:∀ s z s' z',put (hp s z) A (.cells [.d (.int .i64 s'),.d (.int .i64 z')])=hp s' z'
abbrev mD (book n s z:Int):Prop:=if book=13 then (0≤n∧n≤511)∧(z<0∨(z-60≤n∧n≤z+60)) else (0≤n∧n≤255)∧(s-60≤n∧n≤s+60)
theorem aeb {hp:Int→Int→af}{A:Nat}(H:H2 hp A) (book n s z:Int) (N:Nat) (hn:-100000≤n∧n≤100000) (hs:-100000≤s∧s≤100000) (hz:-100000≤z∧z≤100000) :
  (Dn prog).call kG [.ptr A 0,.d (.int .i64 book),.d (.int .i64 n)] ⟨hp s z,N⟩ =
   if mD book n s z then some (.d (.bool true),⟨if book=13 then hp s n else hp n z,N⟩) else some (.d (.bool false),⟨hp s z,N⟩):=by
 rw[aN Jk It rfl];by_cases hb:book=13
 ·by_cases ho:(0≤n∧n≤511)∧(z<0∨(z-60≤n∧n≤z+60))
  ·rw[if_pos (by rw[mD,if_pos hb];exact ho),if_pos hb];subst hb;rcases ho with ⟨⟨o1,o2⟩,o3 | ⟨o3,o4⟩⟩
   ·simp (maxSteps:=300000) (disch:=omega) [↓if_pos,↓if_neg,H.get,H.put]
   ·by_cases hz0:z<0
    ·simp (maxSteps:=300000) (disch:=omega) [↓if_pos,↓if_neg,H.get,H.put]
    ·simp (maxSteps:=300000) (disch:=omega) [↓if_pos,↓if_neg,H.get,H.put]
  ·rw[if_neg (by rw[mD,if_pos hb];exact ho)];subst hb;by_cases o1:n<0
   ·simp (maxSteps:=300000) (disch:=omega) [↓if_pos,↓if_neg,H.get,H.put]
   ·by_cases o2:511<n
    ·simp (maxSteps:=300000) (disch:=omega) [↓if_pos,↓if_neg,H.get,H.put]
    ·by_cases o3:n<z-60
     ·simp (maxSteps:=300000) (disch:=omega) [↓if_pos,↓if_neg,H.get,H.put]
     ·simp (maxSteps:=300000) (disch:=omega) [↓if_pos,↓if_neg,H.get,H.put]
 ·by_cases ho:(0≤n∧n≤255)∧(s-60≤n∧n≤s+60)
  ·rw[if_pos (by rw[mD,if_neg hb];exact ho),if_neg hb];obtain⟨⟨o1,o2⟩,o3,o4⟩:=ho;simp (maxSteps:=300000) (disch:=omega) [↓if_pos,↓if_neg,H.get,H.put]
  ·rw[if_neg (by rw[mD,if_neg hb];exact ho)];by_cases o1:n<0
   ·simp (maxSteps:=300000) (disch:=omega) [↓if_pos,↓if_neg,H.get,H.put]
   ·by_cases o2:255<n
    ·simp (maxSteps:=300000) (disch:=omega) [↓if_pos,↓if_neg,H.get,H.put]
    ·by_cases o3:n<s-60
     ·simp (maxSteps:=300000) (disch:=omega) [↓if_pos,↓if_neg,H.get,H.put]
     ·simp (maxSteps:=300000) (disch:=omega) [↓if_pos,↓if_neg,H.get,H.put]
theorem Gj {l:List aG}{i:Nat}{s:aG}{r:List aG}(h:l.drop i=s::r):(fY l)[i]?=some [.int .i64 s.book,.int .i64 s.len]:=by
 have:=congrArg (fun l=>l[0]?) h;simp only[List.getElem?_drop,List.getElem?_cons_zero,Nat.add_zero]at this;rw[fY,List.getElem?_map,this];rfl
theorem cS {α:Type}{l:List α}{i:Nat}{s:α}{r:List α}(h:l.drop i=s::r):l.drop (i+1)=r:=by
 have:=congrArg (fun l=>l.drop 1) h;simpa [List.drop_drop] using this
theorem bR {α:Type}{l:List α}{i:Nat}{s:α}{r:List α}(h:l.drop i=s::r):i<l.length:=by
 rcases Nat.lt_or_ge i l.length with g | g
 ·exact g
 ·rw[List.drop_eq_nil_of_le g]at h;exact absurd h (by simp)
theorem Xt (full:List aG) (hl:full.length≤1000000) (x21:AV) (y22 y23:D):∀ (l:List aG) (i:Nat) (lf c:Int) (N:Nat),full.drop i=l→fitsS lf l→0≤c→lf+c≤1000→
  (Dn prog).code (.loop qy) ⟨[(7,.d (.int .i64 (lf+c))),(21,x21),(22,.d y22),(23,.d y23),(27,.d (.lst (fY full))),(28,.d (.int .i64 full.length)),(29,.d (.int .i64 i))],⟨[],N⟩⟩ =
  some (.exit 2,⟨[(21,x21),(22,.d y22),(23,.d y23)],⟨[],N+l.length⟩⟩):=by
 intro l
 induction l with
 | nil =>
  intro i lf c N h hf h0 h1;have hi:full.length≤i:=by simpa [List.drop_eq_nil_iff] using h
  rw[ac Em];simp (maxSteps:=300000) (disch:=omega) [↓if_pos,↓if_neg]
 | cons s r ih =>
  intro i lf c N h hf h0 h1;obtain⟨⟨⟨s1,s2⟩,s3,s4⟩,hf2⟩:=hf;have hg:=Gj h;have hlt:=bR h;have h5:=ih (i+1) (lf-s.len) c (N+1) (cS h) hf2 h0 (by omega);have c1:((i+1:Nat):Int)=(i:Int)+1:=rfl;have c2:lf-s.len+c=lf+c-s.len:=by omega
  rw[c1,c2]at h5;have e:N+(s::r).length=N+1+r.length:=by simp only[List.length_cons];omega
  rw[ac Em,e,←h5];rcases s4 with s4 | s4
  ·simp (maxSteps:=300000) (disch:=omega) [↓if_pos,↓if_neg,hg]
  ·simp (maxSteps:=300000) (disch:=omega) [↓if_pos,↓if_neg,hg,s4]
def Th:List (List aG)→Nat
 | []=>0
 | l::r=>l.length+Th r
theorem xY {g:List (List aG)}{i:Nat}{l:List aG}{r:List (List aG)}(h:g.drop i=l::r):(aM g)[i]?=some [.lst (fY l)]:=by
 have:=congrArg (fun l=>l[0]?) h;simp only[List.getElem?_drop,List.getElem?_cons_zero,Nat.add_zero]at this;rw[aM,List.getElem?_map,this];rfl
theorem aab (full:List (List aG)) (hl:full.length≤1000) (m:Int) (hm:0≤m∧m≤40):∀ (g:List (List aG)) (i N:Nat),full.drop i=g→(∀ l∈g,fitsS m l∧l.length≤1000)→
  (Dn prog).code (.loop qC) ⟨[(21,.d (.lst (aM full))),(22,.d (.int .i64 full.length)),(23,.d (.int .i64 i))],⟨[],N⟩⟩=some (.exit 0,⟨[],⟨[],N+Th g⟩⟩):=by
 intro g
 induction g with
 | nil =>
  intro i N h hf;have hi:full.length≤i:=by simpa [List.drop_eq_nil_iff] using h
  rw[ac EB];simp (maxSteps:=300000) (disch:=omega) [↓if_pos,↓if_neg,Th]
 | cons l r ih =>
  intro i N h hf;have hg:=xY h;have hlt:=bR h;obtain⟨f1,f2⟩:=hf l (.head _);have h0:=Xt l (by omega) (.d (.lst (aM full))) (.int .i64 full.length) (.int .i64 i) l 0 m (40-m) N rfl f1 (by omega) (by omega);have h5:=ih (i+1) (N+l.length) (cS h) fun q hq=>hf q (.tail _ hq)
  have c1:((i+1:Nat):Int)=(i:Int)+1:=rfl;have c2:m+(40-m)=40:=by omega
  have c0:((0:Nat):Int)=0:=rfl;rw[c1]at h5;rw[c2,c0]at h0;have e:N+Th (l::r)=N+l.length+Th r:=by rw[Th];omega
  rw[ac EB,e,←h5];simp (maxSteps:=300000) (disch:=omega) [↓if_pos,↓if_neg,hg,h0]
theorem ais (gain m:Int) (g:List (List aG)) (hgn:0≤gain∧gain≤255) (hl:g.length≤8) (hm:0≤m∧m≤40) (hf:∀ l∈g,fitsS m l∧l.length≤1000) :
  aS prog Mj [.d (.int .i64 gain),.d (.lst (aM g))]=some (.d (.bool true)):=by
 have h:=aab g (by omega) m hm g 0 0 rfl hf;have c0:((0:Nat):Int)=0:=rfl;rw[c0]at h;rw[ao aay aa7 rfl];simp (maxSteps:=300000) (disch:=omega) [↓if_pos,↓if_neg,h]
theorem bn {α:Type}{l:List α}{i:Nat}(h:l.drop i=[]):l.length≤i:=by simpa [List.drop_eq_nil_iff] using h
abbrev CH (m:Int) (g:List (List aG)):Prop:=∀ l∈g,fitsS m l
abbrev avx (g:List (List aG)):Prop:=g.length≤1000∧∀ l∈g,l.length≤1000
abbrev qD (i:az) (g:List (List aG)):Prop:=g.length=i.groups.length∧CH i.max g
def gk (aP:Nat):Nat→Nat→List Nat
 | 0,n=>[n]
 | f+1,n=>if aP≤n then aP::gk aP f (n-aP) else [n]
def afy (sz:Nat) (s:aG):List Nat:=aF s.book.toNat 4++(gk (2 ^ sz-1) s.len.toNat s.len.toNat).flatMap fun n=>aF n sz
def Kl (sz:Nat) (l:List aG):List Nat:=l.flatMap (afy sz)
theorem GA {lf:Int}:∀ {l:List aG},fitsS lf l→lf≤1000→∀ s∈l,s.right 1000
 | [],_,_,s,h=>absurd h (by simp)
 | x::r,hf,h0,s,h=>by
  obtain⟨h1,h2⟩:=hf;obtain⟨⟨a,b⟩,c⟩:=h1;rcases List.mem_cons.1 h with e | e
  ·subst e;exact⟨⟨a,by omega⟩,c⟩
  ·exact GA h2 (by omega) s e
def alR (i:az) (g:List (List aG)):List Nat:=g.flatMap (Kl i.fsz)
theorem Yo {lf:Int}:∀ {l:List aG},fitsS lf l→(l.length:Int)≤lf∨l=[]
 | [],_=>.inr rfl
 | x::r,hf=>by
  obtain⟨h1,h2⟩:=hf;have:=Yo h2;obtain⟨⟨a,b⟩,c⟩:=h1;left;rcases this with h | h
  ·simp only[List.length_cons];omega
  ·subst h;simp only[List.length_cons,List.length_nil];omega
def aL (l:List aG):List Int:=l.flatMap fun s=>List.replicate s.len.toNat s.book
theorem PS {l:List Int}{x:Int}:am (l++[x])=am l++[[.int .i64 x]]:=by simp[am]
theorem mM {l:List Int}:(am l).length=l.length:=by simp[am]
structure Tl {σ:Type}(hp:σ→af→af) (L:Nat):Prop where
 put:∀ s K o,L≤K→Go.Vm.put (hp s []) K o=hp s [(K,o)]
 put2:∀ s K o o',L≤K→Go.Vm.put (hp s [(K,o)]) K o'=hp s [(K,o')]
 get:∀ s K o,L≤K→Go.Vm.get (hp s [(K,o)]) K=some o
 del:∀ s K o,L≤K→Go.Vm.del (hp s [(K,o)]) K=hp s []
def oI {σ τ:Type}(st:Nat→Int→σ→Sum σ τ):List Int→Nat→σ→Sum σ τ
 | [],_,s=>.inl s
 | k::r,a,s=>match st a k s with
  | .inl s=>oI st r (a+1) s
  | .inr z=>.inr z
theorem ZZ {σ τ:Type}{st:Nat→Int→σ→Sum σ τ}:∀ {l r:List Int}{a:Nat}{s:σ},oI st (l++r) a s=match oI st l a s with
  | .inl s=>oI st r (a+l.length) s
  | .inr z=>.inr z
 | [],r,a,s=>rfl
 | k::l,r,a,s=>by
  rw[List.cons_append,oI,oI]
  cases st a k s with
  | inl s=>simp only[ZZ,List.length_cons];rw[show a+(l.length+1)=a+1+l.length by omega]
  | inr z=>rfl
section
variable {σ τ:Type}{hp:σ→af→af}{hq:τ→af→af}{L l p:Nat}{bks:List Int}{st:Nat→Int→σ→Sum σ τ}{bX:Nat→σ→Prop}
def Rnd (hp:σ→af→af) (hq:τ→af→af) (L l:Nat) (bks:List Int) (st:Nat→Int→σ→Sum σ τ) (bX:Nat→σ→Prop):Prop :=
 ∀ a k s K o N,bks[a]?=some k→bX a s→L≤K→K<N→
  (∃ s2,st a k s=.inl s2∧bX (a+1) s2∧bD (Dn prog) (.yield l) [.d (.int .i64 (a:Int)),.d (.int .i64 k)] ⟨hp s [(K,o)],N⟩=some (.d (.bool true),⟨hp s2 [(K,o)],N⟩))∨
  (∃ z,st a k s=.inr z∧bD (Dn prog) (.yield l) [.d (.int .i64 (a:Int)),.d (.int .i64 k)] ⟨hp s [(K,o)],N⟩=some (.d (.bool false),⟨hq z [(K,o)],N⟩))
theorem ad6 (H:Tl hp L) (H2:Tl hq L) (hY:Rnd hp hq L l bks st bX) (full:List aG) (s0:aG) (hs0:s0.len≤1000) (i K N:Nat) (hK:L≤K) (hKN:K<N):∀ (k j a:Nat) (s:σ),j+k=s0.len.toNat→(∀ q,q<k→bks[a+q]?=some s0.book)→a+k≤100000000→bX a s→
  (∃ s2,oI st (List.replicate k s0.book) a s=.inl s2∧bX (a+k) s2∧(Dn prog).code (.loop iD) ⟨[(0,.yield l),(3,.d (.int .i64 a)),(5,.ptr K 0),(6,.d (.lst (fY full))),(7,.d (.int .i64 full.length)),(8,.d (.int .i64 i)),(13,.d (.int .i64 s0.len)),(14,.d (.int .i64 j))],⟨hp s [(K,.cells [.d (.int .i64 s0.book),.d (.int .i64 s0.len)])],N⟩⟩ =
   some (.exit 2,⟨[(0,.yield l),(3,.d (.int .i64 (a+k:Nat))),(6,.d (.lst (fY full))),(7,.d (.int .i64 full.length)),(8,.d (.int .i64 i))],⟨hp s2 [],N⟩⟩))∨
  (∃ z,oI st (List.replicate k s0.book) a s=.inr z∧(Dn prog).code (.loop iD) ⟨[(0,.yield l),(3,.d (.int .i64 a)),(5,.ptr K 0),(6,.d (.lst (fY full))),(7,.d (.int .i64 full.length)),(8,.d (.int .i64 i)),(13,.d (.int .i64 s0.len)),(14,.d (.int .i64 j))],⟨hp s [(K,.cells [.d (.int .i64 s0.book),.d (.int .i64 s0.len)])],N⟩⟩ =
   some (.ret,⟨[],⟨hq z [],N⟩⟩)):=by
 have hG:=fun s o=>H.get s K o hK
 have hD:=fun s o=>H.del s K o hK
 have hD2:=fun s o=>H2.del s K o hK
 intro k
 induction k with
 | zero =>
  intro j a s h1 h2 h3 hi;refine .inl ⟨s,rfl,hi,?_⟩;rw[ac py];simp (maxSteps:=300000) (disch:=omega) [↓if_neg,hD]
 | succ k ih =>
  intro j a s h1 h2 h3 hi;have hb:=h2 0 (by omega);rw[Nat.add_zero]at hb;have c1:((j+1:Nat):Int)=(j:Int)+1:=rfl;have c2:((a+1:Nat):Int)=(a:Int)+1:=rfl;rw[List.replicate_succ];rcases hY a s0.book s K (.cells [.d (.int .i64 s0.book),.d (.int .i64 s0.len)]) N hb hi hK hKN with ⟨s2,e1,e2,e3⟩ | ⟨z,e1,e3⟩
  ·rw[oI,e1,ac py];have e4:a+(k+1)=a+1+k:=by omega
   have h9:=ih (j+1) (a+1) s2 (by omega) (fun q hq=>by rw[show a+1+q=a+(q+1) by omega];exact h2 (q+1) (by omega)) (by omega) e2;rw[c1,c2]at h9;rw[e4];rcases h9 with ⟨s3,f1,f2,f3⟩ | ⟨z,f1,f3⟩
   ·refine .inl ⟨s3,f1,f2,?_⟩;rw[←f3];simp (maxSteps:=300000) (disch:=omega) [↓if_pos,↓if_neg,hG,-lc,e3]
   ·refine .inr ⟨z,f1,?_⟩;rw[←f3];simp (maxSteps:=300000) (disch:=omega) [↓if_pos,↓if_neg,hG,-lc,e3]
  ·refine .inr ⟨z,by rw[oI,e1],?_⟩;rw[ac py];simp (maxSteps:=300000) (disch:=omega) [↓if_pos,↓if_neg,hG,-lc,e3,hD2]
theorem adL (H:Tl hp L) (H2:Tl hq L) (hY:Rnd hp hq L l bks st bX) (full:List aG) (hfl:full.length≤1000):∀ (r:List aG) (i a N:Nat) (s:σ),full.drop i=r→(∀ q∈r,0≤q.len∧q.len≤1000)→bks.drop a=aL r→a≤1000*i→L≤N→bX a s→
  (∃ s2 M,oI st (aL r) a s=.inl s2∧bX (a+(aL r).length) s2∧N≤M∧(Dn prog).code (.loop iw) ⟨[(0,.yield l),(3,.d (.int .i64 a)),(6,.d (.lst (fY full))),(7,.d (.int .i64 full.length)),(8,.d (.int .i64 i))],⟨hp s [],N⟩⟩ =
   some (.exit 0,⟨[],⟨hp s2 [],M⟩⟩))∨
  (∃ z M,oI st (aL r) a s=.inr z∧N≤M∧(Dn prog).code (.loop iw) ⟨[(0,.yield l),(3,.d (.int .i64 a)),(6,.d (.lst (fY full))),(7,.d (.int .i64 full.length)),(8,.d (.int .i64 i))],⟨hp s [],N⟩⟩ =
   some (.ret,⟨[],⟨hq z [],M⟩⟩)):=by
 intro r
 induction r with
 | nil =>
  intro i a N s hd hr hb ha hL hi;have hk:=bn hd;refine .inl ⟨s,N,rfl,hi,Nat.le_refl _,?_⟩;rw[ac kY];simp (maxSteps:=300000) (disch:=omega) [↓if_neg]
 | cons q r ih =>
  intro i a N s hd hr hb ha hL hi;have hq:=hr q (.head _);have hlt:=bR hd;have hg:=Gj hd;have eb:aL (q::r)=List.replicate q.len.toNat q.book++aL r:=by rw[aL,List.flatMap_cons];rfl
  rw[eb]at hb;have hbk:∀ j,j<q.len.toNat→bks[a+j]?=some q.book:=fun j hj=>by
   have:=congrArg (fun l=>l[j]?) hb;simp only[List.getElem?_drop]at this;rw[this,List.getElem?_append_left (by simpa using hj)];simp[hj]
  have hb2:bks.drop (a+q.len.toNat)=aL r:=by
   have:=congrArg (fun l=>l.drop q.len.toNat) hb;simp only[List.drop_drop]at this;rw[this,List.drop_left' (by simp)]
  have hp1:=fun o=>H.put s N o hL
  have hp2:=fun o o'=>H.put2 s N o o' hL
  have hG:=fun o=>H.get s N o hL
  have c1:((i+1:Nat):Int)=(i:Int)+1:=rfl;have c0:((0:Nat):Int)=0:=rfl;have h0:=ad6 H H2 hY full q hq.2 i N (N+1) hL (by omega) q.len.toNat 0 a s (by omega) hbk (by omega) hi;rw[c0]at h0;rw[eb,ZZ];rcases h0 with ⟨s2,e1,e2,e3⟩ | ⟨z,e1,e3⟩
  ·have h9:=ih (i+1) (a+q.len.toNat) (N+1) s2 (cS hd) (fun x hx=>hr x (.tail _ hx)) hb2 (by omega) (by omega) e2;rw[c1]at h9;rw[e1];simp only[List.length_append,List.length_replicate];rcases h9 with ⟨s3,M,f1,f2,f3,f4⟩ | ⟨z,M,f1,f3,f4⟩
   ·refine .inl ⟨s3,M,f1,by rw[←Nat.add_assoc];exact f2,by omega,?_⟩;rw[ac kY,←f4];simp (maxSteps:=300000) (disch:=omega) [↓if_pos,↓if_neg,hg,hp1,hp2,hG,e3]
   ·refine .inr ⟨z,M,f1,by omega,?_⟩;rw[ac kY,←f4];simp (maxSteps:=300000) (disch:=omega) [↓if_pos,↓if_neg,hg,hp1,hp2,hG,e3]
  ·rw[e1];refine .inr ⟨z,N+1,rfl,by omega,?_⟩;rw[ac kY];simp (maxSteps:=300000) (disch:=omega) [↓if_pos,↓if_neg,hg,hp1,hp2,hG,e3]
theorem amu (H:Tl hp L) (H2:Tl hq L) (full:List aG) (hY:Rnd hp hq L l (aL full) st bX) (hgp:∀ s,get (hp s []) p=some (.cells [.d (.lst (fY full))])) (hfl:full.length≤1000) (hr:∀ q∈full,0≤q.len∧q.len≤1000) (N:Nat) (s:σ) (hN:L≤N) (hi:bX 0 s) :
  (∃ s2 M,oI st (aL full) 0 s=.inl s2∧bX (aL full).length s2∧N≤M∧(Dn prog).call iL [.yield l,.ptr p 0] ⟨hp s [],N⟩=some (.tup [],⟨hp s2 [],M⟩))∨
  (∃ z M,oI st (aL full) 0 s=.inr z∧N≤M∧(Dn prog).call iL [.yield l,.ptr p 0] ⟨hp s [],N⟩=some (.tup [],⟨hq z [],M⟩)):=by
 have h:=adL H H2 hY full hfl full 0 0 N s rfl hr rfl (by omega) hN hi;have c0:((0:Nat):Int)=0:=rfl;rw[c0,Nat.zero_add]at h;rw[aN Ri RI rfl];rcases h with ⟨s2,M,e1,e2,e3,e4⟩ | ⟨z,M,e1,e3,e4⟩
 ·refine .inl ⟨s2,M,e1,e2,e3,?_⟩;simp (maxSteps:=300000) (disch:=omega) [hgp,e4]
 ·refine .inr ⟨z,M,e1,e3,?_⟩;simp (maxSteps:=300000) (disch:=omega) [hgp,e4]
end
theorem aba (x:D) (h:af) (N:Nat):(Dn prog).call yU [.d x] ⟨h,N⟩=some (.fn iL [] [.ptr N 0],⟨put h N (.cells [.d x]),N+1⟩):=by
 rw[aN VO Vw rfl];simp (maxSteps:=300000) (disch:=omega)
def bO (t:List (List Int)):List (List D):=t.map fun l=>[.lst (am l)]
@[simp] theorem agK {t:List (List Int)}:(bO t).length=t.length:=by simp[bO]
theorem agR {g:List (List Int)}{i:Nat}{l:List Int}{r:List (List Int)}(h:g.drop i=l::r):(bO g)[i]?=some [.lst (am l)]:=by
 have:=congrArg (fun l=>l[0]?) h;simp only[List.getElem?_drop,List.getElem?_cons_zero,Nat.add_zero]at this;rw[bO,List.getElem?_map,this];rfl
theorem ac7 {l:List Int}{i:Nat}{k:Int}{r:List Int}(h:l.drop i=k::r):(am l)[i]?=some [.int .i64 k]:=by
 have:=congrArg (fun l=>l[0]?) h;simp only[List.getElem?_drop,List.getElem?_cons_zero,Nat.add_zero]at this;rw[am,List.getElem?_map,this];rfl
def i9:List Int→List Int→Int→Int→Option (Int×Int)
 | [],[],w,z=>some (w,z)
 | k::r,n::t,w,z=>if k=0 then (if n=0 then i9 r t w z else none) else if mD k n w z then (if k=13 then i9 r t w n else i9 r t n z) else none
 | _,_,_,_=>none
def CU:List (List aG)→List (List Int)→Int→Int→Option (Int×Int)
 | [],[],w,z=>some (w,z)
 | l::r,t::s,w,z=>match i9 (aL l) t w z with
  | some (w,z)=>CU r s w z
  | none=>none
 | _,_,_,_=>none
abbrev KC (gain:Int) (g:List (List aG)) (t:List (List Int)):Prop:=CU g t gain (-1)≠none
abbrev in5 (w:Int):Prop:=-1≤w∧w≤511
theorem ap8 {k n w z:Int}(h:mD k n w z):in5 n:=by
 unfold mD at h;split at h<;>omega
def zY (k n w z:Int):Int×Int:=if k=0 then (w,z) else if k=13 then (w,n) else (n,z)
theorem yo {k n:Int}{r t:List Int}{w z:Int}(h:i9 (k::r) (n::t) w z≠none):(k=0→n=0)∧(k≠0→mD k n w z)∧i9 (k::r) (n::t) w z=i9 r t (zY k n w z).1 (zY k n w z).2:=by
 rw[i9]at h;by_cases h0:k=0
 ·rw[if_pos h0]at h;by_cases h1:n=0
  ·exact⟨fun _=>h1,fun h=>absurd h0 h,by rw[i9,if_pos h0,if_pos h1,zY,if_pos h0]⟩
  ·rw[if_neg h1]at h;exact absurd rfl h
 ·rw[if_neg h0]at h;by_cases h1:mD k n w z
  ·refine⟨fun h=>absurd h h0,fun _=>h1,?_⟩;rw[i9,if_neg h0,if_pos h1,zY,if_neg h0];split<;>rfl
  ·rw[if_neg h1]at h;exact absurd rfl h
theorem ajt {l:List aG}{lf:Int}(h:fitsS lf l):∀ k∈aL l,0≤k∧k≤13:=by
 induction l generalizing lf with
 | nil=>intro k hk;simp[aL]at hk
 | cons s r ih =>
  intro k hk;obtain⟨h1,h2⟩:=h;rw[aL,List.flatMap_cons,List.mem_append]at hk;rcases hk with hk | hk
  ·have:=List.eq_of_mem_replicate hk;have:=h1.2;omega
  ·exact ih h2 k hk
def vg (xs:List (List Nat)):List (List D):=xs.map fun l=>[.lst (ae l)]
@[simp] theorem Uz {t:List (List Nat)}:(vg t).length=t.length:=by simp[vg]
theorem agp {g:List (List Nat)}{i:Nat}{l:List Nat}{r:List (List Nat)}(h:g.drop i=l::r):(vg g)[i]?=some [.lst (ae l)]:=by
 have:=congrArg (fun l=>l[0]?) h;simp only[List.getElem?_drop,List.getElem?_cons_zero,Nat.add_zero]at this;rw[vg,List.getElem?_map,this];rfl
theorem ba {l:List Nat}:(ae l).length=l.length:=by simp[ae]
def gS (n:Nat):Nat:=if n=0 then 0 else n.log2+1
theorem Sk {n:Nat}:n<2 ^ gS n:=by
 unfold gS;by_cases h:n=0
 ·subst h;decide
 ·rw[if_neg h];exact(Nat.log2_lt h).1 (Nat.lt_succ_self _)
theorem Ua {n:Nat}(h:n≠0):2 ^ (gS n-1)≤n:=by
 unfold gS;rw[if_neg h,Nat.add_sub_cancel];exact(Nat.le_log2 h).1 (Nat.le_refl _)
def rM (low:Int) (w:Nat):List Int→Nat→Nat
 | [],n=>n
 | v::r,n=>rM low w r (n*w+(v-low).toNat)
abbrev PP (id:Nat) (vs:List Int):Prop:=vs.length=cL id∧∀ v∈vs,cw id≤v∧v<cw id+cM id
theorem adc {low:Int}{w:Nat}:∀ {r:List Int}{n j:Nat},(∀ v∈r,low≤v∧v<low+w)→n<w ^ j→rM low w r n<w ^ (j+r.length)
 | [],n,j,_,h=>h
 | v::r,n,j,hr,h=>by
  have h1:=hr v (.head _);have h2:n*w+(v-low).toNat<w ^ (j+1):=by
   rw[Nat.pow_succ];have:(n+1)*w≤w ^ j*w:=Nat.mul_le_mul_right _ h;rw[Nat.add_mul]at this;omega
  have:=adc (r:=r) (fun q hq=>hr q (.tail _ hq)) h2;rw[rM,List.length_cons,show j+(r.length+1)=j+1+r.length by omega];exact this
theorem aah:∀ id∈ids,(cJ id).all (fun e=>decide (e<aA id))=true∧(cJ id).length=aA id∧bm id≤2:=by decide +kernel
theorem aoh {id e:Nat}(h:jR id) (he:e<aA id):nth (cJ id) e<aA id:=by
 obtain⟨h1,h2,_⟩:=aah id (ft h);have:=List.all_eq_true.1 h1 _ (ig (l:=cJ id) (i:=e) (by omega));simpa using this
def Au (id e:Nat):List Nat:=aF (nth (cJ id) e / 2 ^ bm id+1) (2*gS (nth (cJ id) e / 2 ^ bm id+1)-1)++aF (nth (cJ id) e % 2 ^ bm id) (bm id)
theorem NS (F:AV) (P:Int→Bool) (l:List Int) (hl:l.length≤1000000000) (h:af) (N:Nat) (hF:firm (share F)=F) (hc:∀ v∈l,bD (Dn prog) F [.d (.int .i64 v)] ⟨h,N⟩=some (.d (.bool (P v)),⟨h,N⟩)):∀ (r:List Int) (i:Nat),l.drop i=r→
  (r.any P=true∧∃ k:Nat,(Dn prog).code (.loop di) ⟨[(0,.d (.lst (am l))),(1,F),(7,.d (.int .i64 l.length)),(8,.d (.int .i64 i))],⟨h,N⟩⟩=some (.ret,⟨[(4,.d (.int .i64 k))],⟨h,N⟩⟩))∨
  (r.any P=false∧(Dn prog).code (.loop di) ⟨[(0,.d (.lst (am l))),(1,F),(7,.d (.int .i64 l.length)),(8,.d (.int .i64 i))],⟨h,N⟩⟩=some (.exit 0,⟨[],⟨h,N⟩⟩)):=by
 intro r
 induction r with
 | nil =>
  intro i hd;have hi:=bn hd;refine .inr ⟨rfl,?_⟩;rw[ac eW];simp (maxSteps:=300000) (disch:=omega) [↓if_neg]
 | cons v r ih =>
  intro i hd;have hg:=ac7 hd;have hlt:=bR hd;have hv:=hc v (by rw[←List.take_append_drop i l,hd];simp);have h5:=ih (i+1) (cS hd);have c1:((i+1:Nat):Int)=(i:Int)+1:=rfl;rw[c1]at h5
  cases hp:P v with
  | true =>
   rw[hp]at hv;refine .inl ⟨by rw[List.any_cons,hp];rfl,i,?_⟩;rw[ac eW];simp (maxSteps:=300000) (disch:=omega) [↓if_pos,↓if_neg,hg,hF,hv]
  | false =>
   rw[hp]at hv;rw[List.any_cons,hp,Bool.false_or];rcases h5 with ⟨e1,k,e2⟩ | ⟨e1,e2⟩
   ·refine .inl ⟨e1,k,?_⟩;rw[ac eW,←e2];simp (maxSteps:=300000) (disch:=omega) [↓if_pos,↓if_neg,hg,hF,hv]
   ·refine .inr ⟨e1,?_⟩;rw[ac eW,←e2];simp (maxSteps:=300000) (disch:=omega) [↓if_pos,↓if_neg,hg,hF,hv]
theorem MY (F:AV) (P:Int→Bool) (l:List Int) (hl:l.length≤1000000000) (h:af) (N:Nat) (hF:firm (share F)=F) (hF2:firm F=F) (hc:∀ v∈l,bD (Dn prog) F [.d (.int .i64 v)] ⟨h,N⟩=some (.d (.bool (P v)),⟨h,N⟩)) :
  (Dn prog).call nY [.d (.lst (am l)),F] ⟨h,N⟩=some (.d (.bool (l.any P)),⟨h,N⟩):=by
 have h1:=NS F P l hl h N hF hc l 0 rfl;have c0:((0:Nat):Int)=0:=rfl;rw[c0]at h1;have h2:∃ k:Int,(0≤k↔l.any P=true)∧(Dn prog).call rg [.d (.lst (am l)),F] ⟨h,N⟩=some (.d (.int .i64 k),⟨h,N⟩):=by
  rcases h1 with ⟨e1,k,e2⟩ | ⟨e1,e2⟩
  ·refine⟨k,⟨fun _=>e1,fun _=>by omega⟩,?_⟩;rw[aN qZ rk rfl];simp (maxSteps:=300000) (disch:=omega) [e2]
  ·refine⟨-1,⟨fun h=>by omega,fun h=>by rw[e1]at h;exact absurd h (by simp)⟩,?_⟩;rw[aN qZ rk rfl];simp (maxSteps:=300000) (disch:=omega) [e2]
 obtain⟨k,e1,e2⟩:=h2;rw[aN zK zg rfl]
 cases hp:l.any P with
 | true =>
  have:=e1.2 hp;simp (maxSteps:=300000) (disch:=omega) [↓if_pos,hF2,e2]
 | false =>
  have:¬ 0≤k:=fun h=>by rw[e1.1 h]at hp;exact absurd hp (by simp)
  simp (maxSteps:=300000) (disch:=omega) [↓if_neg,hF2,e2]
def sD (id:Nat):Nat:=[0,1,1,2,2,4,4,7,7,12,12,8191,0].getD id 0
def bp (id:Nat):Nat:=if id<5 then 4 else 2
def oL (id:Nat) (v:Int):Int:=if id=11∧16≤v.natAbs then 16 else v.natAbs
def afa (v:Int):List Nat:=if v=0 then [] else if v<0 then [1] else [0]
def Sf (id:Nat) (v:Int):List Nat:=if id=11∧16≤v.natAbs then List.replicate (gS v.natAbs-5) 1++(0::aF (v.natAbs % 2 ^ (gS v.natAbs-1)) (gS v.natAbs-1)) else []
def WB (id:Nat) (vs:List Int):List Nat:=if jM id then Au id (rM (cw id) (cM id) vs 0)
 else Au id (rM (cw id) (cM id) (vs.map (oL id)) 0)++(vs.flatMap afa++vs.flatMap (Sf id))
theorem Fw:∀ id∈ids.take 11,(jM id=true→cw id=-(sD id:Int)∧cM id=2*sD id+1)∧(jM id=false→cw id=0∧(id≠11→cM id=sD id+1)∧(id=11→cM id=17))∧cL id=bp id∧sD id≤8191:=by decide +kernel
theorem afs {id:Nat}(h:1≤id∧id≤11):id∈ids.take 11:=by
 show id∈[1,2,3,4,5,6,7,8,9,10,11];simp only[List.mem_cons,List.not_mem_nil,or_false];omega
abbrev aj3 (id:Nat) (vs:List Int):Prop:=vs.length=bp id∧∀ v∈vs,v.natAbs≤sD id
theorem Xl {id:Nat}(hid:1≤id∧id≤11) {vs:List Int}(h:aj3 id vs):(jM id=true→PP id vs)∧(jM id=false→PP id (vs.map (oL id))):=by
 obtain⟨m1,m2,m3,m4⟩:=Fw id (afs hid);constructor
 ·intro hs;obtain⟨a,b⟩:=m1 hs;refine⟨by rw[h.1,m3],fun v hv=>?_⟩;have:=h.2 v hv;rw[a,b];omega
 ·intro hs;obtain⟨a,b,c⟩:=m2 hs;refine⟨by rw[List.length_map,h.1,m3],fun v hv=>?_⟩;obtain⟨u,hu,rfl⟩:=List.mem_map.1 hv;have:=h.2 u hu;rw[a,oL];by_cases h11:id=11
  ·rw[c h11];by_cases h16:16≤u.natAbs
   ·rw[if_pos ⟨h11,h16⟩];omega
   ·rw[if_neg (fun h=>h16 h.2)];omega
  ·rw[b h11,if_neg (fun h=>h11 h.1)];omega
def GI (k n w z:Int):List Nat:=if k=0 then [] else if k=13 then (if z<0 then aF n.toNat 9 else Au 12 (n-z+60).toNat) else Au 12 (n-w+60).toNat
def Gu:List Int→List Int→Int→Int→List Nat
 | k::r,n::t,w,z=>GI k n w z++Gu r t (zY k n w z).1 (zY k n w z).2
 | _,_,_,_=>[]
def K5:List (List aG)→List (List Int)→Int→Int→List Nat
 | l::r,t::s,w,z=>Gu (aL l) t w z++(match i9 (aL l) t w z with
  | some (w,z)=>K5 r s w z
  | none=>[])
 | _,_,_,_=>[]
theorem ahN {l:List aG}{lf:Int}(h:fitsS lf l) (h0:0≤lf):((aL l).length:Int)=lf:=by
 induction l generalizing lf with
 | nil=>simp only[fitsS]at h;simp[aL,h]
 | cons s r ih =>
  obtain⟨h1,h2⟩:=h;have h3:=h1.1;have:=ih h2 (by omega);rw[aL]at this⊢;rw[List.flatMap_cons,List.length_append,List.length_replicate];omega
structure bG where
 len:Int
 order:Int
 down:Bool
 fine:Bool
 coefs:List Int
abbrev bG.cells (f:bG):List D:=[.int .i64 f.len,.int .i64 f.order,.bool f.down,.bool f.fine,.lst (am f.coefs)]
abbrev bG.av (f:bG):List AV:=[.d (.int .i64 f.len),.d (.int .i64 f.order),.d (.bool f.down),.d (.bool f.fine),.d (.lst (am f.coefs))]
def kz (l:List bG):List (List D):=l.map bG.cells
@[simp] theorem ajk {l:List bG}:(kz l).length=l.length:=by simp[kz]
theorem akd {l:List bG}{i:Nat}{s:bG}{r:List bG}(h:l.drop i=s::r):(kz l)[i]?=some [.int .i64 s.len,.int .i64 s.order,.bool s.down,.bool s.fine,.lst (am s.coefs)]:=by
 have:=congrArg (fun l=>l[0]?) h;simp only[List.getElem?_drop,List.getElem?_cons_zero,Nat.add_zero]at this;rw[kz,List.getElem?_map,this];rfl
def bt (t:List (List bG)):List (List D):=t.map fun l=>[.lst (kz l)]
@[simp] theorem U5 {t:List (List bG)}:(bt t).length=t.length:=by simp[bt]
theorem Ja {g:List (List bG)}{i:Nat}{l:List bG}{r:List (List bG)}(h:g.drop i=l::r):(bt g)[i]?=some [.lst (kz l)]:=by
 have:=congrArg (fun l=>l[0]?) h;simp only[List.getElem?_drop,List.getElem?_cons_zero,Nat.add_zero]at this;rw[bt,List.getElem?_map,this];rfl
theorem Zc (h:Int):∀ (l:List Int),l.any (fun c=>decide (c < -h∨h≤c))=!decide (∀ c∈l,-h≤c∧c<h)
 | []=>by simp
 | c::r=>by
  rw[List.any_cons,Zc h r];by_cases h1:-h≤c∧c<h
  ·rw[decide_eq_false (p:=c < -h∨h≤c) (by omega)];simp[h1]
  ·rw[decide_eq_true (p:=c < -h∨h≤c) (by omega)];simp[h1]
def nh (fine:Bool):Int:=if fine then 8 else 4
def aiW (sh:Bool):Int:=if sh then 15 else 63
def aka (sh:Bool):Int:=if sh then 7 else 12
def OW (sh:Bool) (f:bG):Prop:=(0≤f.len∧f.len≤aiW sh)∧(0≤f.order∧f.order≤aka sh)∧(f.coefs.length:Int)=f.order∧(f.order=0→f.down=false)∧∀ c∈f.coefs,-nh f.fine≤c∧c<nh f.fine
instance {sh:Bool}{f:bG}:Decidable (OW sh f):=by unfold OW;infer_instance
theorem X7 (b:Bool):aS prog xu [.d (.bool b)]=some (.d (.int .i64 (if b then 4 else 3))):=by
 rw[ao TL SP rfl]
 cases b<;>simp (disch:=omega)
def Zg (sh:Bool):List AV:=if sh then [.d (.int .i64 1),.d (.int .i64 4),.d (.int .i64 3),.d (.int .i64 1),.d (.int .i64 7)] else [.d (.int .i64 2),.d (.int .i64 6),.d (.int .i64 5),.d (.int .i64 3),.d (.int .i64 12)]
def az.short (i:az):Bool:=decide (i.seq=2)
theorem Vt (i:az):aS prog vk [.agg i.cells]=some (.agg (Zg i.short)):=by
 rw[ao QT PU rfl];unfold Zg az.short;by_cases h:i.seq=2
 ·simp (disch:=omega) [↓if_pos,h]
 ·simp (disch:=omega) [↓if_neg,h]
theorem ar3 (m:Nat) (hm:m≤100000) (v:Int) (N:Nat):(Dn prog).call uL [.d (.int .i64 v),.ptr 0 0] ⟨[(0,.cells [.d (.int .i64 m)])],N⟩=some (.d (.bool (decide (v < -(m:Int)∨(m:Int)≤v))),⟨[(0,.cells [.d (.int .i64 m)])],N⟩):=by
 rw[aN Pd QJ rfl];by_cases h1:v < -(m:Int)
 ·simp (maxSteps:=300000) (disch:=omega) [↓if_pos,h1]
 ·by_cases h2:(m:Int)≤v
  ·simp (maxSteps:=300000) (disch:=omega) [↓if_pos,↓if_neg,h1,h2]
  ·simp (maxSteps:=300000) (disch:=omega) [↓if_pos,↓if_neg,h1,h2]
theorem abt (l:List Int) (hl:l.length≤1000000) (s:Nat) (hs:1≤s∧s≤10):aS prog yZ [.d (.lst (am l)),.d (.int .i64 s)]=some (.d (.bool (decide (∀ c∈l,-((2 ^ (s-1):Nat):Int)≤c∧c<((2 ^ (s-1):Nat):Int))))):=by
 have hp:2 ^ (s-1)≤2 ^ 10:=Nat.pow_le_pow_right (by omega) (by omega);have q2:=ae8 (m:=s-1) (by omega);have c1:((s-1:Nat):Int)=(s:Int)-1:=by omega
 rw[c1]at q2;generalize 2 ^ (s-1)=P at *;have h1:=MY (.fn uL [] [.ptr 0 0]) (fun c=>decide (c < -(P:Int)∨(P:Int)≤c)) l (by omega) [(0,.cells [.d (.int .i64 P)])] 1 rfl rfl fun v _=>by
  have:=ar3 P (by omega) v 1;simpa using this
 rw[Zc]at h1;rw[ao V5 Wr rfl];simp (maxSteps:=300000) (disch:=omega) [-Bo,q2,h1]
def Lt (H:af) (N:Nat):Prop:=∀ p∈H,p.1<N
theorem El {H:af}{N:Nat}{o:Obj}(h:Lt H N):put H N o=H++[(N,o)]:=by
 induction H with
 | nil=>rfl
 | cons p r ih =>
  obtain⟨k,v⟩:=p;have h1:=h (k,v) (.head _);simp only at h1;rw[nk,if_neg (by omega),if_neg (by omega),ih (fun p hp=>h p (.tail _ hp)),List.cons_append]
theorem Sh {H:af}{N:Nat}{o o':Obj}(h:Lt H N):put (H++[(N,o)]) N o'=H++[(N,o')]:=by
 induction H with
 | nil=>rw[List.nil_append,nk,if_pos rfl];rfl
 | cons p r ih =>
  obtain⟨k,v⟩:=p;have h1:=h (k,v) (.head _);simp only at h1;rw[List.cons_append,nk,if_neg (by omega),if_neg (by omega),ih (fun p hp=>h p (.tail _ hp)),List.cons_append]
theorem Km {H:af}{N:Nat}{o:Obj}(h:Lt H N):get (H++[(N,o)]) N=some o:=by
 induction H with
 | nil=>rw[List.nil_append,dC,if_pos rfl]
 | cons p r ih =>
  obtain⟨k,v⟩:=p;have h1:=h (k,v) (.head _);simp only at h1;rw[List.cons_append,dC,if_neg (by omega),ih (fun p hp=>h p (.tail _ hp))]
theorem anw {H:af}{N k:Nat}{o o':Obj}(h:get H k=some o'):get (H++[(N,o)]) k=some o':=by
 induction H with
 | nil=>exact absurd h (by simp[tH])
 | cons p r ih =>
  obtain⟨j,v⟩:=p;rw[dC]at h;rw[List.cons_append,dC];by_cases hj:j=k
  ·rw[if_pos hj]at h⊢;exact h
  ·rw[if_neg hj]at h⊢;exact ih h
theorem acu {H:af}{N:Nat}{o:Obj}(h:Lt H N):del (H++[(N,o)]) N=H:=by
 induction H with
 | nil=>rw[List.nil_append,jf,if_pos rfl];rfl
 | cons p r ih =>
  obtain⟨k,v⟩:=p;have h1:=h (k,v) (.head _);simp only at h1;rw[List.cons_append,jf,if_neg (by omega),ih (fun p hp=>h p (.tail _ hp))]
theorem WG {H:af}{N M:Nat}(h:Lt H N) (hm:N≤M):Lt H M:=fun p hp=>Nat.lt_of_lt_of_le (h p hp) hm
theorem aha {H:af}{N:Nat}{o:Obj}(h:Lt H N):Lt (H++[(N,o)]) (N+1):=by
 intro p hp;rcases List.mem_append.1 hp with h1 | h1
 ·have:=h p h1;omega
 ·rw[List.mem_singleton]at h1;subst h1;exact Nat.lt_succ_self _
@[simp] theorem awN (a b:Bool):WO true (.d (.bool a)) (.d (.bool b))=some (.bool (a != b)):=by cases a<;>cases b<;>rfl
def aes (sh:Bool) (f0 f:bG):Bool:=!decide (OW sh f) || f.fine != f0.fine
structure fb where
 gain:Int
 info:az
 sects:List (List aG)
 steps:List (List Int)
 tns:List (List bG)
 lines:List Int
abbrev fb.av (c:fb):List AV:=[.d (.int .i64 c.gain),.d (.int .u8 c.info.seq),.d (.int .u8 c.info.shape),.d (.int .i64 c.info.max),.d (.lst (am c.info.groups)),.d (.lst (aM c.sects)),.d (.lst (bO c.steps)),.d (.lst (bt c.tns)),.d (.lst (am c.lines))]
structure fb.Fit (c:fb):Prop where
 gain:i64 c.gain
 info:c.info.Fit
 sects:avx c.sects
 secI:∀ l∈c.sects,∀ s∈l,i64 s.book∧i64 s.len
 steps:c.steps.length≤1000∧∀ l∈c.steps,l.length≤1000
 stepI:∀ l∈c.steps,∀ n∈l,i64 n
 tns:c.tns.length≤1000∧∀ l∈c.tns,l.length≤1000∧∀ f∈l,f.coefs.length≤1000
 fltI:∀ l∈c.tns,∀ f∈l,(i64 f.len∧i64 f.order)∧∀ x∈f.coefs,i64 x
 lines:c.lines.length≤100000
 lineI:∀ n∈c.lines,i64 n
def adS (sh:Bool):Nat:=if sh then 1 else 3
def KZ (sh:Bool) (l:List bG):Prop:=l.length≤adS sh∧∀ f0∈l.head?,∀ f∈l,OW sh f∧f.fine=f0.fine
abbrev afo (i:az) (t:List (List bG)):Prop:=t.length=i.many∧∀ l∈t,KZ i.short l
theorem anZ {sh:Bool}{f0:bG}{l:List bG}:l.any (aes sh f0)=false↔∀ f∈l,OW sh f∧f.fine=f0.fine:=by
 rw[List.any_eq_false];constructor
 ·intro h f hf;have:=h f hf;simp only[aes,Bool.or_eq_true,Bool.not_eq_true',decide_eq_false_iff_not,bne_iff_ne,not_or,Decidable.not_not]at this;exact this
 ·intro h f hf;have:=h f hf;simp[aes,this.1,this.2]
def aiD (sh:Bool):List bG→Bool
 | []=>false
 | f0::r=>(f0::r).any (aes sh f0)
theorem ajA {sh:Bool}{l:List bG}:KZ sh l↔l.length≤adS sh∧aiD sh l=false:=by
 unfold KZ
 cases l with
 | nil=>simp[aiD]
 | cons f0 r0 =>
  simp only[aiD,anZ];constructor
  ·intro h;exact⟨h.1,h.2 f0 (by simp)⟩
  ·intro h;exact⟨h.1,fun f hf=>by simp at hf;subst hf;exact h.2⟩
instance {sh:Bool}{l:List bG}:Decidable (KZ sh l):=decidable_of_iff _ ajA.symm
theorem ano:∀ x∈Ay,oT x.1 x.2≤40:=by decide +kernel
theorem ox {i:az}(hm:i.may 11):0≤i.max∧i.max≤40:=by
 have h1:=hm.2.2.1;have h2:=hm.2.2.2.1;have h3:=ano _ (iX (r:=11) (s:=decide (i.seq=2)) (by omega));simp only[]at h3;omega
instance {m:Int}{g:List (List aG)}:Decidable (CH m g):=by unfold CH;infer_instance
instance {gain:Int}{g:List (List aG)}{t:List (List Int)}:Decidable (KC gain g t):=by unfold KC;infer_instance
theorem akF {id:Nat}(hid:1≤id∧id≤11):sD id≤8191:=(Fw id (afs hid)).2.2.2
def C7:List Nat→Nat→Nat
 | [],_=>0
 | x::r,i=>if x≤i then C7 r i+1 else 0
theorem aeC {l:List Nat}{i:Nat}:∀ {b:Nat},b≤l.length→(∀ x∈l.take b,x≤i)→C7 l i=b+C7 (l.drop b) i:=by
 induction l with
 | nil=>intro b hb h;simp at hb;subst hb;simp[C7]
 | cons x r ih =>
  intro b hb h
  cases b with
  | zero=>simp
  | succ b =>
   rw[C7,if_pos (h x (by simp)),ih (b:=b) (by simpa using hb) (fun y hy=>h y (by simp[hy])),List.drop_succ_cons];omega
def agx (tl:List Nat) (bks:List Int) (i:Nat) (v:Int):Prop:=v=0∨∃ k,bks[C7 tl i]?=some k∧(1≤k∧k≤11)∧v.natAbs≤sD k.toNat
def Qq (tl:List Nat) (bks:List Int):Nat→List Int→Prop
 | _,[]=>True
 | i,v::r=>agx tl bks i v∧Qq tl bks (i+1) r
def az.wide (i:az):Nat:=if i.seq=2 then 32 else 256
def adu (c:fb) (w:Nat):List Int:=(c.lines.drop (w*c.info.wide)).take c.info.wide
def Rv (c:fb) (w:Nat):List aG:=c.sects.getD (CA c.info.groups w) []
def YP (r:Nat) (c:fb):Nat→Nat→Prop
 | 0,_=>True
 | k+1,w=>Qq ((offs r c.info.short).drop 1) (aL (Rv c w)) 0 (adu c w)∧YP r c k (w+1)
abbrev aci (r:Nat) (c:fb):Prop:=c.lines.length=256∧YP r c c.info.many 0
theorem Vh:∀ x∈Ay,((offs x.1 x.2).drop 1).contains (cond x.2 32 256)=true∧(offs x.1 x.2).all (fun y=>decide (y≤1000))=true∧(offs x.1 x.2).length≤64∧1≤(offs x.1 x.2).length:=by decide +kernel
structure ajP (r:Nat) (c:fb):Prop where
 gain:0≤c.gain∧c.gain≤255
 info:c.info.may r
 sects:qD c.info c.sects
 steps:KC c.gain c.sects c.steps
 tns:afo c.info c.tns
 lines:aci r c
def om (f:bG):Bool:=decide (∀ c∈f.coefs,-(nh f.fine / 2)≤c∧c<nh f.fine / 2)
def iu (fine:Bool):Nat:=if fine then 4 else 3
def pU (b:Bool):Nat:=if b then 1 else 0
def xU (f:bG):Nat:=iu f.fine-pU (om f)
def Jm (w:Nat) (l:List Int):List Nat:=l.flatMap fun c=>aF (c % ((2 ^ w:Nat):Int)).toNat w
def aX (sh:Bool):Nat:=if sh then 4 else 6
def aT (sh:Bool):Nat:=if sh then 3 else 5
def eU (sh:Bool):Nat:=if sh then 1 else 2
def Ge (sh:Bool) (f:bG):List Nat:=aF f.len.toNat (aX sh)++(aF f.order.toNat (aT sh)++if f.order=0 then [] else aF (pU f.down) 1++(aF (pU (om f)) 1++Jm (xU f) f.coefs))
def ae0 (sh:Bool) (l:List bG):List Nat:=aF l.length (eU sh)++match l with
 | []=>[]
 | f0::_=>aF (pU f0.fine) 1++l.flatMap (Ge sh)
def M6 (sh:Bool) (t:List (List bG)):List Nat:=t.flatMap (ae0 sh)
theorem anh (id:Nat):aS prog I7 [.d (.int .i64 id)]=some (.d (.int .i64 (bp id))):=by
 rw[ao ahu ahi rfl];unfold bp;by_cases h:id<5
 ·simp (disch:=omega) [↓if_pos]
 ·simp (disch:=omega) [↓if_neg]
def sc (d hi:Nat):Nat→Nat→List Nat
 | 0,_=>[]
 | f+1,x=>if x<hi then x::sc d hi f (x+d) else []
def pP (os:List Nat) (d b:Nat):Nat→Nat→List Nat
 | 0,_=>[]
 | k+1,w=>(sc d (nth os (b+1)) 300 (nth os b)).map (fun x=>w*32+x)++pP os d b k (w+1)
def zX (os:List Nat) (d n first:Nat):Nat→Nat→List Nat
 | 0,_=>[]
 | k+1,b=>pP os d b n first++zX os d n first k (b+1)
def Bh (os:List Nat) (n first:Nat):List aG→Nat→List (Nat×Nat)
 | [],_=>[]
 | s::r,b=>(if s.book=0∨s.book=13 then [] else (zX os (bp s.book.toNat) n first s.len.toNat b).map fun x=>(s.book.toNat,x))++Bh os n first r (b+s.len.toNat)
def sf (os:List Nat):List (List aG)→List Int→Nat→List (Nat×Nat)
 | l::r,n::g,first=>Bh os n.toNat first l 0++sf os r g (first+n.toNat)
 | _,_,_=>[]
def gE {σ τ:Type}(st:Nat×Nat→σ→Sum σ τ):List (Nat×Nat)→σ→Sum σ τ
 | [],s=>.inl s
 | p::r,s=>match st p s with
  | .inl s=>gE st r s
  | .inr z=>.inr z
theorem yb {σ τ:Type}{st:Nat×Nat→σ→Sum σ τ}:∀ {l r:List (Nat×Nat)}{s:σ},gE st (l++r) s=match gE st l s with
  | .inl s=>gE st r s
  | .inr z=>.inr z
 | [],r,s=>rfl
 | p::l,r,s=>by
  rw[List.cons_append,gE,gE]
  cases st p s with
  | inl s=>simp only[yb]
  | inr z=>rfl
def OK {σ τ:Type}(hp:σ→af→af) (hq:τ→af→af) (L l:Nat) (st:Nat×Nat→σ→Sum σ τ) (bX:List (Nat×Nat)→σ→Prop):Prop :=
 ∀ p r s K o N,bX (p::r) s→L≤K→K<N→
  (∃ s2 M,N≤M∧st p s=.inl s2∧bX r s2∧bD (Dn prog) (.yield l) [.agg [.d (.int .i64 (p.1:Int)),.d (.int .i64 (p.2:Int)),.d (.int .i64 ((p.2+bp p.1:Nat):Int))]] ⟨hp s [(K,o)],N⟩=some (.d (.bool true),⟨hp s2 [(K,o)],M⟩))∨
  (∃ z M,N≤M∧st p s=.inr z∧bD (Dn prog) (.yield l) [.agg [.d (.int .i64 (p.1:Int)),.d (.int .i64 (p.2:Int)),.d (.int .i64 ((p.2+bp p.1:Nat):Int))]] ⟨hp s [(K,o)],N⟩=some (.d (.bool false),⟨hq z [(K,o)],M⟩))
structure PlS where
 l:Nat
 p2:Nat
 p3:Nat
 full:List (List aG)
 os:List Nat
abbrev eP (P:PlS) (first g b:Int) (r:aq):aq:=(0,.yield P.l)::(2,.ptr P.p2 0)::(3,.ptr P.p3 0)::(5,.d (.int .i64 first))::(6,.d (.int .i64 g))::(8,.d (.int .i64 b))::r
abbrev Cz (P:PlS) (g:Int) (r:aq):aq:=(14,.d (.lst (aM P.full)))::(15,.d (.int .i64 P.full.length))::(16,.d (.int .i64 g))::r
abbrev IL (ls:List aG) (k:Int):aq:=[(21,.d (.lst (fY ls))),(22,.d (.int .i64 ls.length)),(23,.d (.int .i64 k))]
section
variable {σ τ:Type}{hp:σ→af→af}{hq:τ→af→af}{L:Nat}{P:PlS}{st:Nat×Nat→σ→Sum σ τ}{bX:List (Nat×Nat)→σ→Prop}
theorem ash (H:Tl hp L) (H2:Tl hq L) (hY:OK hp hq L P.l st bX) (hg3:∀ s T,get (hp s T) P.p3=some (.cells [.own false 1 (bB P.os)])) (s0:aG) (bk:Nat) (hbk:s0.book=bk) (hb1:1≤bk∧bk≤11) (b:Nat) (hb:b+1<P.os.length) (ho:P.os.length≤100) (hhi:nth P.os (b+1)≤256) (first g en gi k:Int) (w:Nat) (hw:w≤8) (ls:List aG) (K:Nat) (hK:L≤K) (rest:List (Nat×Nat)):∀ (f x N:Nat) (s:σ),nth P.os (b+1)≤x+f→x≤300→K<N→bX ((sc (bp bk) (nth P.os (b+1)) f x).map (fun y=>(bk,w*32+y))++rest) s→
  (∃ s2 M,N≤M∧gE st ((sc (bp bk) (nth P.os (b+1)) f x).map (fun y=>(bk,w*32+y))) s=.inl s2∧bX rest s2∧
   (Dn prog).code (.loop jh) ⟨eP P first g b ((10,.ptr K 0)::(11,.d (.int .i64 en))::(12,.d (.int .i64 w))::(13,.d (.int .i64 x))::Cz P gi (IL ls k)),⟨hp s [(K,.cells [.d (.int .i64 s0.book),.d (.int .i64 s0.len)])],N⟩⟩ =
   some (.exit 8,⟨eP P first g b ((10,.ptr K 0)::(11,.d (.int .i64 en))::(12,.d (.int .i64 w))::Cz P gi (IL ls k)),⟨hp s2 [(K,.cells [.d (.int .i64 s0.book),.d (.int .i64 s0.len)])],M⟩⟩))∨
  (∃ z M,N≤M∧gE st ((sc (bp bk) (nth P.os (b+1)) f x).map (fun y=>(bk,w*32+y))) s=.inr z∧
   (Dn prog).code (.loop jh) ⟨eP P first g b ((10,.ptr K 0)::(11,.d (.int .i64 en))::(12,.d (.int .i64 w))::(13,.d (.int .i64 x))::Cz P gi (IL ls k)),⟨hp s [(K,.cells [.d (.int .i64 s0.book),.d (.int .i64 s0.len)])],N⟩⟩ =
   some (.ret,⟨[],⟨hq z [],M⟩⟩)):=by
 have hG:=fun s o=>H.get s K o hK
 have hD2:=fun s o=>H2.del s K o hK
 have hd4:bp bk≤4∧2≤bp bk:=by unfold bp;split<;>omega
 have hdim:=anh bk;have hgo:(bB P.os)[b+1]?=some [.int .i64 (nth P.os (b+1):Nat)]:=FY hb;have hne:bB P.os≠[]:=by intro h;have:=congrArg List.length h;simp at this;simp[this]at hb
 intro f
 induction f with
 | zero =>
  intro x N s h1 h2 hKN hi;refine .inl ⟨s,N,Nat.le_refl _,rfl,hi,?_⟩;rw[ac jl];simp (maxSteps:=300000) (disch:=omega) [↓if_neg,hg3,hgo]
 | succ f ih =>
  intro x N s h1 h2 hKN hi;by_cases hx:x<nth P.os (b+1)
  ·rw[sc,if_pos hx,List.map_cons,List.cons_append]at hi;rw[sc,if_pos hx,List.map_cons,gE];have c1:((x+bp bk:Nat):Int)=(x:Int)+bp bk:=rfl;have c2:((w*32+x:Nat):Int)=(w:Int)*32+x:=by omega
   have c3:((w*32+x+bp bk:Nat):Int)=(w:Int)*32+x+bp bk:=by omega
   rcases hY (bk,w*32+x) _ s K (.cells [.d (.int .i64 s0.book),.d (.int .i64 s0.len)]) N hi hK hKN with ⟨s2,M,hM,e1,e2,e3⟩ | ⟨z,M,hM,e1,e3⟩
   ·rw[e1];simp only[c2,c3]at e3;have h9:=ih (x+bp bk) M s2 (by omega) (by omega) (by omega) e2;rw[c1]at h9;rw[hbk]at h9 e3⊢;rcases h9 with ⟨s3,M2,hM2,f1,f2,f3⟩ | ⟨z,M2,hM2,f1,f3⟩
    ·refine .inl ⟨s3,M2,by omega,f1,f2,?_⟩;rw[←f3,ac jl];simp (maxSteps:=300000) (disch:=omega) [↓if_pos,↓if_neg,hg3,hgo,hG,hdim,-lc,e3]
    ·refine .inr ⟨z,M2,by omega,f1,?_⟩;rw[←f3,ac jl];simp (maxSteps:=300000) (disch:=omega) [↓if_pos,↓if_neg,hg3,hgo,hG,hdim,-lc,e3]
   ·rw[e1];simp only[c2,c3]at e3;rw[hbk]at e3⊢;refine .inr ⟨z,M,hM,rfl,?_⟩;rw[ac jl];simp (maxSteps:=300000) (disch:=omega) [↓if_pos,↓if_neg,hg3,hgo,hG,hdim,-lc,e3,hD2]
  ·rw[sc,if_neg hx]at hi;rw[sc,if_neg hx];refine .inl ⟨s,N,Nat.le_refl _,rfl,hi,?_⟩;rw[ac jl];simp (maxSteps:=300000) (disch:=omega) [↓if_neg,hg3,hgo]
theorem asl (i:az) (hil:i.groups.length≤1000) (H:Tl hp L) (H2:Tl hq L) (hY:OK hp hq L P.l st bX) (hg2:∀ s T,get (hp s T) P.p2=some (.cells i.cells)) (hg3:∀ s T,get (hp s T) P.p3=some (.cells [.own false 1 (bB P.os)])) (s0:aG) (bk:Nat) (hbk:s0.book=bk) (hb1:1≤bk∧bk≤11) (b:Nat) (hb:b+1<P.os.length) (ho:P.os.length≤100) (hhi:∀ x∈P.os,x≤256) (first n g:Nat) (hgl:g<i.groups.length) (hn:nth i.groups g=n) (hfn:first+n≤8) (en gi k:Int) (ls:List aG) (K:Nat) (hK:L≤K) (rest:List (Nat×Nat)):∀ (j w N:Nat) (s:σ),w+j=first+n→K<N→bX ((pP P.os (bp bk) b j w).map (fun y=>(bk,y))++rest) s→
  (∃ s2 M,N≤M∧gE st ((pP P.os (bp bk) b j w).map (fun y=>(bk,y))) s=.inl s2∧bX rest s2∧
   (Dn prog).code (.loop jn) ⟨eP P first g b ((10,.ptr K 0)::(11,.d (.int .i64 en))::(12,.d (.int .i64 w))::Cz P gi (IL ls k)),⟨hp s [(K,.cells [.d (.int .i64 s0.book),.d (.int .i64 s0.len)])],N⟩⟩ =
   some (.exit 6,⟨eP P first g b ((10,.ptr K 0)::(11,.d (.int .i64 en))::Cz P gi (IL ls k)),⟨hp s2 [(K,.cells [.d (.int .i64 s0.book),.d (.int .i64 s0.len)])],M⟩⟩))∨
  (∃ z M,N≤M∧gE st ((pP P.os (bp bk) b j w).map (fun y=>(bk,y))) s=.inr z∧
   (Dn prog).code (.loop jn) ⟨eP P first g b ((10,.ptr K 0)::(11,.d (.int .i64 en))::(12,.d (.int .i64 w))::Cz P gi (IL ls k)),⟨hp s [(K,.cells [.d (.int .i64 s0.book),.d (.int .i64 s0.len)])],N⟩⟩ =
   some (.ret,⟨[],⟨hq z [],M⟩⟩)):=by
 have hgo:(bB P.os)[b]?=some [.int .i64 (nth P.os b:Nat)]:=FY (by omega);have hob:=hhi (nth P.os b) (ig (by omega));have hob1:=hhi (nth P.os (b+1)) (ig hb);simp only[az.cells]at hg2;intro j
 induction j with
 | zero =>
  intro w N s h1 hKN hi;refine .inl ⟨s,N,Nat.le_refl _,rfl,hi,?_⟩;rw[ac lO];simp (maxSteps:=300000) (disch:=omega) [↓if_neg,hg2,hn]
 | succ j ih =>
  intro w N s h1 hKN hi;have c1:((w+1:Nat):Int)=(w:Int)+1:=rfl;have em:(pP P.os (bp bk) b (j+1) w).map (fun y=>(bk,y))=(sc (bp bk) (nth P.os (b+1)) 300 (nth P.os b)).map (fun y=>(bk,w*32+y))++(pP P.os (bp bk) b j (w+1)).map (fun y=>(bk,y)):=by
   rw[pP,List.map_append,List.map_map];rfl
  rw[em]at hi⊢;rw[List.append_assoc]at hi;rw[yb];rcases ash H H2 hY hg3 s0 bk hbk hb1 b hb ho hob1 first g en gi k w (by omega) ls K hK _ 300 (nth P.os b) N s (by omega) (by omega) hKN hi with ⟨s2,M,hM,e1,e2,e3⟩ | ⟨z,M,hM,e1,e3⟩
  ·rw[e1];have h9:=ih (w+1) M s2 (by omega) (by omega) e2;rw[c1]at h9;rcases h9 with ⟨s3,M2,hM2,f1,f2,f3⟩ | ⟨z,M2,hM2,f1,f3⟩
   ·refine .inl ⟨s3,M2,by omega,f1,f2,?_⟩;rw[←f3,ac lO];simp (maxSteps:=300000) (disch:=omega) [↓if_pos,↓if_neg,hg2,hg3,hgo,hn,e3]
   ·refine .inr ⟨z,M2,by omega,f1,?_⟩;rw[←f3,ac lO];simp (maxSteps:=300000) (disch:=omega) [↓if_pos,↓if_neg,hg2,hg3,hgo,hn,e3]
  ·rw[e1];refine .inr ⟨z,M,hM,rfl,?_⟩;rw[ac lO];simp (maxSteps:=300000) (disch:=omega) [↓if_pos,↓if_neg,hg2,hg3,hgo,hn,e3]
theorem arY (i:az) (hil:i.groups.length≤1000) (H:Tl hp L) (H2:Tl hq L) (hY:OK hp hq L P.l st bX) (hg2:∀ s T,get (hp s T) P.p2=some (.cells i.cells)) (hg3:∀ s T,get (hp s T) P.p3=some (.cells [.own false 1 (bB P.os)])) (s0:aG) (bk:Nat) (hbk:s0.book=bk) (hb1:bk≤11∨bk=13) (ho:P.os.length≤100) (hhi:∀ x∈P.os,x≤256) (first n g:Nat) (hgl:g<i.groups.length) (hn:nth i.groups g=n) (hfn:first+n≤8) (en:Nat) (hen:en<P.os.length) (gi k:Int) (ls:List aG) (K:Nat) (hK:L≤K) (rest:List (Nat×Nat)):∀ (j b N:Nat) (s:σ),b+j=en→K<N→bX ((if bk=0∨bk=13 then [] else (zX P.os (bp bk) n first j b).map (fun y=>(bk,y)))++rest) s→
  (∃ s2 M,N≤M∧gE st (if bk=0∨bk=13 then [] else (zX P.os (bp bk) n first j b).map (fun y=>(bk,y))) s=.inl s2∧bX rest s2∧
   (Dn prog).code (.loop jp) ⟨eP P first g b ((10,.ptr K 0)::(11,.d (.int .i64 en))::Cz P gi (IL ls k)),⟨hp s [(K,.cells [.d (.int .i64 s0.book),.d (.int .i64 s0.len)])],N⟩⟩ =
   some (.exit 4,⟨eP P first g en (Cz P gi (IL ls k)),⟨hp s2 [],M⟩⟩))∨
  (∃ z M,N≤M∧gE st (if bk=0∨bk=13 then [] else (zX P.os (bp bk) n first j b).map (fun y=>(bk,y))) s=.inr z∧
   (Dn prog).code (.loop jp) ⟨eP P first g b ((10,.ptr K 0)::(11,.d (.int .i64 en))::Cz P gi (IL ls k)),⟨hp s [(K,.cells [.d (.int .i64 s0.book),.d (.int .i64 s0.len)])],N⟩⟩ =
   some (.ret,⟨[],⟨hq z [],M⟩⟩)):=by
 have hG:=fun s o=>H.get s K o hK
 have hD:=fun s o=>H.del s K o hK
 intro j
 induction j with
 | zero =>
  intro b N s h1 hKN hi;have eb:b=en:=by omega
  subst eb;have e0:(if bk=0∨bk=13 then [] else (zX P.os (bp bk) n first 0 b).map (fun y=>(bk,y)))=[]:=by split<;>rfl
  rw[e0]at hi⊢;refine .inl ⟨s,N,Nat.le_refl _,rfl,hi,?_⟩;rw[ac gh];simp (maxSteps:=300000) (disch:=omega) [↓if_neg,hD]
 | succ j ih =>
  intro b N s h1 hKN hi;have c1:((b+1:Nat):Int)=(b:Int)+1:=rfl;by_cases h0:bk=0∨bk=13
  ·rw[if_pos h0]at hi⊢;have h9:=ih (b+1) N s (by omega) hKN (by rw[if_pos h0];exact hi);rw[if_pos h0,c1]at h9;rw[hbk]at h9⊢;rcases h9 with ⟨s3,M2,hM2,f1,f2,f3⟩ | ⟨z,M2,hM2,f1,f3⟩
   ·refine .inl ⟨s3,M2,by omega,f1,f2,?_⟩;rw[←f3,ac gh];rcases h0 with h0 | h0<;>simp (maxSteps:=300000) (disch:=omega) [↓if_pos,↓if_neg,hG]
   ·refine .inr ⟨z,M2,by omega,f1,?_⟩;rw[←f3,ac gh];rcases h0 with h0 | h0<;>simp (maxSteps:=300000) (disch:=omega) [↓if_pos,↓if_neg,hG]
  ·rw[if_neg h0]at hi⊢;have em:(zX P.os (bp bk) n first (j+1) b).map (fun y=>(bk,y))=(pP P.os (bp bk) b n first).map (fun y=>(bk,y))++(zX P.os (bp bk) n first j (b+1)).map (fun y=>(bk,y)):=by
    rw[zX,List.map_append]
   rw[em]at hi⊢;rw[List.append_assoc]at hi;rw[yb];rcases asl i hil H H2 hY hg2 hg3 s0 bk hbk (by omega) b (by omega) ho hhi first n g hgl hn hfn en gi k ls K hK _ n first N s rfl hKN hi with ⟨s2,M,hM,e1,e2,e3⟩ | ⟨z,M,hM,e1,e3⟩
   ·rw[e1];have h9:=ih (b+1) M s2 (by omega) (by omega) (by rw[if_neg h0];exact e2);rw[if_neg h0,c1]at h9;rw[hbk]at h9 e3⊢;rcases h9 with ⟨s3,M2,hM2,f1,f2,f3⟩ | ⟨z,M2,hM2,f1,f3⟩
    ·refine .inl ⟨s3,M2,by omega,f1,f2,?_⟩;rw[←f3,ac gh];simp (maxSteps:=300000) (disch:=omega) [↓if_pos,↓if_neg,hG,e3]
    ·refine .inr ⟨z,M2,by omega,f1,?_⟩;rw[←f3,ac gh];simp (maxSteps:=300000) (disch:=omega) [↓if_pos,↓if_neg,hG,e3]
   ·rw[e1];rw[hbk]at e3⊢;refine .inr ⟨z,M,hM,rfl,?_⟩;rw[ac gh];simp (maxSteps:=300000) (disch:=omega) [↓if_pos,↓if_neg,hG,e3]
theorem asU (i:az) (hil:i.groups.length≤1000) (H:Tl hp L) (H2:Tl hq L) (hY:OK hp hq L P.l st bX) (hg2:∀ s T,get (hp s T) P.p2=some (.cells i.cells)) (hg3:∀ s T,get (hp s T) P.p3=some (.cells [.own false 1 (bB P.os)])) (ho:P.os.length≤100) (hhi:∀ x∈P.os,x≤256) (first n g:Nat) (hgl:g<i.groups.length) (hn:nth i.groups g=n) (hfn:first+n≤8) (gi:Int) (ls:List aG) (hls:ls.length≤1000) (rest:List (Nat×Nat)):∀ (r:List aG) (k b N:Nat) (lf:Int) (s:σ),ls.drop k=r→fitsS lf r→(b:Int)+lf<P.os.length→L≤N→bX (Bh P.os n first r b++rest) s→
  (∃ s2 M,N≤M∧gE st (Bh P.os n first r b) s=.inl s2∧bX rest s2∧
   (Dn prog).code (.loop jg) ⟨eP P first g b (Cz P gi (IL ls k)),⟨hp s [],N⟩⟩ =
   some (.exit 2,⟨(0,.yield P.l)::(2,.ptr P.p2 0)::(3,.ptr P.p3 0)::(5,.d (.int .i64 first))::(6,.d (.int .i64 g))::Cz P gi [],⟨hp s2 [],M⟩⟩))∨
  (∃ z M,N≤M∧gE st (Bh P.os n first r b) s=.inr z∧
   (Dn prog).code (.loop jg) ⟨eP P first g b (Cz P gi (IL ls k)),⟨hp s [],N⟩⟩ =
   some (.ret,⟨[],⟨hq z [],M⟩⟩)):=by
 intro r
 induction r with
 | nil =>
  intro k b N lf s hd hf hb hN hi;have hk:=bn hd;refine .inl ⟨s,N,Nat.le_refl _,rfl,hi,?_⟩;rw[ac lQ];simp (maxSteps:=300000) (disch:=omega) [↓if_neg]
 | cons s0 r ih =>
  intro k b N lf s hd hf hb hN hi;have hg:=Gj hd;have hlt:=bR hd;obtain⟨⟨⟨l1,l2⟩,b1,b2⟩,hf2⟩:=hf;obtain⟨bk,hbk⟩:=Int.eq_ofNat_of_zero_le b1;have hbt:s0.book.toNat=bk:=by omega
  have hif:(s0.book=0∨s0.book=13)↔(bk=0∨bk=13):=by omega
  have em:Bh P.os n first (s0::r) b=(if bk=0∨bk=13 then [] else (zX P.os (bp bk) n first s0.len.toNat b).map (fun y=>(bk,y)))++Bh P.os n first r (b+s0.len.toNat):=by
   rw[Bh,hbt,atm hif]
  rw[em]at hi⊢;rw[List.append_assoc]at hi;rw[yb];have hp1:=fun s o=>H.put s N o hN
  have hp2:=fun s o o'=>H.put2 s N o o' hN
  have hG:=fun s o=>H.get s N o hN
  have c1:((k+1:Nat):Int)=(k:Int)+1:=rfl;have cE:((b+s0.len.toNat:Nat):Int)=(b:Int)+s0.len:=by omega
  rcases arY i hil H H2 hY hg2 hg3 s0 bk hbk (by omega) ho hhi first n g hgl hn hfn (b+s0.len.toNat) (by omega) gi k ls N hN _ s0.len.toNat b (N+1) s rfl (by omega) hi with ⟨s2,M,hM,e1,e2,e3⟩ | ⟨z,M,hM,e1,e3⟩
  ·rw[e1];have h9:=ih (k+1) (b+s0.len.toNat) M (lf-s0.len) s2 (cS hd) hf2 (by omega) (by omega) e2;rw[c1,cE]at h9;rw[cE]at e3;rcases h9 with ⟨s3,M2,hM2,f1,f2,f3⟩ | ⟨z,M2,hM2,f1,f3⟩
   ·refine .inl ⟨s3,M2,by omega,f1,f2,?_⟩;rw[←f3,ac lQ];simp (maxSteps:=300000) (disch:=omega) [↓if_pos,↓if_neg,hg,hp1,hp2,hG,e3]
   ·refine .inr ⟨z,M2,by omega,f1,?_⟩;rw[←f3,ac lQ];simp (maxSteps:=300000) (disch:=omega) [↓if_pos,↓if_neg,hg,hp1,hp2,hG,e3]
  ·rw[e1];rw[cE]at e3;refine .inr ⟨z,M,by omega,rfl,?_⟩;rw[ac lQ];simp (maxSteps:=300000) (disch:=omega) [↓if_pos,↓if_neg,hg,hp1,hp2,hG,e3]
theorem asT (i:az) (hil:i.groups.length≤1000) (H:Tl hp L) (H2:Tl hq L) (hY:OK hp hq L P.l st bX) (hg2:∀ s T,get (hp s T) P.p2=some (.cells i.cells)) (hg3:∀ s T,get (hp s T) P.p3=some (.cells [.own false 1 (bB P.os)])) (ho:P.os.length≤100) (hhi:∀ x∈P.os,x≤256) (m:Int) (hm:0≤m∧m<P.os.length) (hfl:P.full.length≤1000) (hlc:∀ l∈P.full,l.length≤1000) (hgg:∀ n∈i.groups,1≤n) (rest:List (Nat×Nat)):∀ (r:List (List aG)) (q:List Int) (g first N:Nat) (s:σ),P.full.drop g=r→i.groups.drop g=q→r.length=q.length→CH m r→(first:Int)+q.sum≤8→L≤N→bX (sf P.os r q first++rest) s→
  (∃ s2 M,N≤M∧gE st (sf P.os r q first) s=.inl s2∧bX rest s2∧
   (Dn prog).code (.loop jk) ⟨(0,.yield P.l)::(2,.ptr P.p2 0)::(3,.ptr P.p3 0)::(5,.d (.int .i64 first))::Cz P g [],⟨hp s [],N⟩⟩=some (.exit 0,⟨[],⟨hp s2 [],M⟩⟩))∨
  (∃ z M,N≤M∧gE st (sf P.os r q first) s=.inr z∧
   (Dn prog).code (.loop jk) ⟨(0,.yield P.l)::(2,.ptr P.p2 0)::(3,.ptr P.p3 0)::(5,.d (.int .i64 first))::Cz P g [],⟨hp s [],N⟩⟩=some (.ret,⟨[],⟨hq z [],M⟩⟩)):=by
 have hg2':=hg2;simp only[az.cells]at hg2';intro r
 induction r with
 | nil =>
  intro q g first N s hd hd2 hl hf hs hN hi
  have hk:=bn hd;have hq0:q=[]:=by cases q with | nil=>rfl | cons=>simp at hl
  subst hq0;refine .inl ⟨s,N,Nat.le_refl _,rfl,hi,?_⟩;rw[ac lI];simp (maxSteps:=300000) (disch:=omega) [↓if_neg]
 | cons l r ih =>
  intro q g first N s hd hd2 hl hf hs hN hi
  cases q with
  | nil=>simp at hl
  | cons n0 q =>
   have hg:=xY hd;have hlt:=bR hd;have hlt2:=bR hd2;have hn0:nth i.groups g=n0:=by
    have h2:=tg (l:=i.groups) hlt2;rw[hd2]at h2;injection h2 with h2;exact h2.symm
   have hn1:=hgg n0 (by rw[←hn0];exact ig hlt2);obtain⟨n,hn⟩:=Int.eq_ofNat_of_zero_le (show 0≤n0 by omega);have hnt:n0.toNat=n:=by omega
   have hqs:0≤q.sum:=by
    have:∀ x∈q,1≤x:=fun x hx=>hgg x (by rw[←List.take_append_drop g i.groups,hd2];simp[hx])
    have:=oi this;omega
   rw[List.sum_cons]at hs;have em:sf P.os (l::r) (n0::q) first=Bh P.os n first l 0++sf P.os r q (first+n):=by rw[sf,hnt]
   rw[em]at hi⊢;rw[List.append_assoc]at hi;rw[yb];have hml:l∈P.full:=by rw[←List.take_append_drop g P.full,hd];simp
   have c0:((0:Nat):Int)=0:=rfl;have c1:((g+1:Nat):Int)=(g:Int)+1:=rfl;have cF:((first+n:Nat):Int)=(first:Int)+n:=rfl;simp only[List.length_cons,Nat.add_right_cancel_iff]at hl;rcases asU i hil H H2 hY hg2 hg3 ho hhi first n g hlt2 (by omega) (by omega) g l (hlc l hml) _ l 0 0 N m s rfl (hf l (.head _)) (by omega) hN hi with ⟨s2,M,hM,e1,e2,e3⟩ | ⟨z,M,hM,e1,e3⟩
   ·rw[e1];have h9:=ih q (g+1) (first+n) M s2 (cS hd) (cS hd2) hl (fun x hx=>hf x (.tail _ hx)) (by omega) (by omega) e2;rw[c1,cF]at h9;rw[c0]at e3;rw[hn]at hn0;rcases h9 with ⟨s3,M2,hM2,f1,f2,f3⟩ | ⟨z,M2,hM2,f1,f3⟩
    ·refine .inl ⟨s3,M2,by omega,f1,f2,?_⟩;rw[←f3,ac lI];simp (maxSteps:=300000) (disch:=omega) [↓if_pos,↓if_neg,hg,hg2',hn0,e3]
    ·refine .inr ⟨z,M2,by omega,f1,?_⟩;rw[←f3,ac lI];simp (maxSteps:=300000) (disch:=omega) [↓if_pos,↓if_neg,hg,hg2',hn0,e3]
   ·rw[e1];rw[c0]at e3;refine .inr ⟨z,M,hM,rfl,?_⟩;rw[ac lI];simp (maxSteps:=300000) (disch:=omega) [↓if_pos,↓if_neg,hg,e3]
end
theorem akn {σ τ:Type}{hp:σ→af→af}{hq:τ→af→af}{L:Nat}{P:PlS}{st:Nat×Nat→σ→Sum σ τ}{bX:List (Nat×Nat)→σ→Prop}(i:az) (hi:i.Fit) (hm:i.may 11) (p1:Nat) (H:Tl hp L) (H2:Tl hq L) (hY:OK hp hq L P.l st bX) (hg1:∀ s,get (hp s []) p1=some (.cells [.d (.lst (aM P.full))])) (hg2:∀ s T,get (hp s T) P.p2=some (.cells i.cells)) (hg3:∀ s T,get (hp s T) P.p3=some (.cells [.own false 1 (bB P.os)])) (ho:P.os.length≤100) (hhi:∀ x∈P.os,x≤256) (hmo:i.max<P.os.length) (hf:qD i P.full) (N:Nat) (hN:L≤N) (s:σ) (hs:bX (sf P.os P.full i.groups 0) s) :
  (∃ s2 M,N≤M∧gE st (sf P.os P.full i.groups 0) s=.inl s2∧bX [] s2∧(Dn prog).call ik [.yield P.l,.ptr p1 0,.ptr P.p2 0,.ptr P.p3 0] ⟨hp s [],N⟩=some (.tup [],⟨hp s2 [],M⟩))∨
  (∃ z M,N≤M∧gE st (sf P.os P.full i.groups 0) s=.inr z∧(Dn prog).call ik [.yield P.l,.ptr p1 0,.ptr P.p2 0,.ptr P.p3 0] ⟨hp s [],N⟩=some (.tup [],⟨hq z [],M⟩)):=by
 have hmx:=ox hm;obtain⟨g1,g2⟩:=eR hm;have hmm:i.many≤8:=by unfold az.many;split<;>omega
 have hgl:i.groups.length≤8:=by have:=oi (fun n hn=>(g1 n hn).1);omega
 have hlc:∀ l∈P.full,l.length≤1000:=fun l hl=>by
  rcases Yo (hf.2 l hl) with h | h
  ·omega
  ·subst h;simp
 have hfl:=hf.1;have c0:((0:Nat):Int)=0:=rfl;have h:=asT i hi.len H H2 hY hg2 hg3 ho hhi i.max ⟨hmx.1,hmo⟩ (by omega) hlc (fun n hn=>(g1 n hn).1) [] P.full i.groups 0 0 N s rfl rfl hfl hf.2 (by omega) hN (by rw[List.append_nil];exact hs);rw[c0]at h;rw[aN TX Tg rfl];rcases h with ⟨s2,M,hM,e1,e2,e3⟩ | ⟨z,M,hM,e1,e3⟩
 ·refine .inl ⟨s2,M,hM,e1,e2,?_⟩;simp (maxSteps:=300000) (disch:=omega) [hg1,e3]
 ·refine .inr ⟨z,M,hM,e1,?_⟩;simp (maxSteps:=300000) (disch:=omega) [hg1,e3]
theorem Qi (r:Nat) (hr:r≤11) (i:az) (y:D) (H:af) (N:Nat) (hL:Lt H N):(Dn prog).call Id [.d (.int .i64 r),.agg i.cells,.d y] ⟨H,N⟩=some (.fn ik [] [.ptr (N+1) 0,.ptr N 0,.ptr (N+1+1) 0],⟨H++[(N,.cells i.cells)]++[(N+1,.cells [.d y])]++[(N+1+1,.cells [.own false 1 (bB (offs r i.short))])],N+1+1+1⟩):=by
 have hof:=AM r i.short;rw[if_pos (by omega)]at hof;simp only[Int.toNat_natCast]at hof;have L1:=aha (o:=.cells i.cells) hL;have L2:=aha (o:=.cells [.d y]) L1;have e1:=fun o=>El (o:=o) hL
 have e2:=fun o=>El (o:=o) L1
 have e3:=fun o=>El (o:=o) L2
 have e4:=anw (N:=N+1) (o:=.cells [.d y]) (Km (o:=.cells i.cells) hL);have e5:=fun o=>Km (o:=o) L2
 have e6:=fun o o'=>Sh (o:=o) (o':=o') L2
 have hsh:i.short=decide (i.seq=2):=rfl;rw[aN XX YH rfl];simp only[az.cells]at e1 e2 e3 e4 e5 e6⊢;by_cases hs2:i.seq=2
 ·rw[decide_eq_true hs2]at hsh;rw[hsh]at hof⊢;simp (maxSteps:=300000) (disch:=omega) [↓if_pos,↓if_neg,hof,e1,e2,e3,e4,e5,e6,-List.append_assoc]
 ·rw[decide_eq_false hs2]at hsh;rw[hsh]at hof⊢;simp (maxSteps:=300000) (disch:=omega) [↓if_pos,↓if_neg,hof,e1,e2,e3,e4,e5,e6,-List.append_assoc]
abbrev apS:List AV:=[.d (.int .i64 0),.d (.int .i64 0),.nl,.nl]
abbrev qz (id:Nat):List AV:=[.d (.int .i64 id),.d (.int .i64 (bm id)),.own false 1 (bB (bc id)),.own false 1 (bB (cJ id))]
def Fk (C:List AV):Prop:=C.length=48∧∀ id,id<12→sub C (4*id) 4=apS∨(1≤id∧sub C (4*id) 4=qz id)
theorem FV {α:Type}{C:List α}{a k:Nat}(hk:k<4):(sub C a 4)[k]?=C[a+k]?:=by
 unfold sub;rw[List.getElem?_take,if_pos hk,List.getElem?_drop]
theorem I2 {α:Type}{C W:List α}{a:Nat}(hw:W.length=4) (ha:a+4≤C.length):sub (ai C a W) a 4=W:=by
 unfold sub ai;have h1:(C.take a).length=a:=by rw[List.length_take];omega
 rw[List.append_assoc,List.drop_append_of_le_length (by omega),List.drop_eq_nil_of_le (by omega),List.nil_append,←hw,List.take_left'];rfl
theorem Vr {α:Type}{C W:List α}{a b:Nat}(hw:W.length=4) (ha:a+4≤C.length) (hb:b+4≤C.length) (h:b+4≤a∨a+4≤b):sub (ai C a W) b 4=sub C b 4:=by
 apply List.ext_getElem?;intro k;by_cases hk:k<4
 ·rw[FV hk,FV hk];unfold ai;have h1:(C.take a).length=a:=by rw[List.length_take];omega
  rcases h with h | h
  ·rw[List.append_assoc,List.getElem?_append_left (by omega),List.getElem?_take,if_pos (by omega)]
  ·rw[List.getElem?_append_right (by rw[List.length_append];omega),List.getElem?_drop,List.length_append,h1,hw]
   congr 1;omega
 ·unfold sub;rw[List.getElem?_eq_none (by rw[List.length_take];omega),List.getElem?_eq_none (by rw[List.length_take];omega)]
theorem ace {α:Type}{C W:List α}{a:Nat}(hw:W.length=4) (ha:a+4≤C.length):(ai C a W).length=C.length:=by
 unfold ai;simp only[List.length_append,List.length_take,List.length_drop];omega
theorem ai2 {C W:List AV}{a:Nat}(ha:a+4≤C.length) (h:sub C a 4=W):ai C a W=C:=by
 subst h;unfold ai sub;rw[List.length_take,List.length_drop,show a+min 4 (C.length-a)=a+4 by omega,List.append_assoc,←List.drop_drop,List.take_append_drop,List.take_append_drop]
theorem agb {C:List AV}(h:Fk C) {id:Nat}(hid:1≤id∧id≤11):Fk (ai C (4*id) (qz id)):=by
 refine⟨by rw[ace rfl (by rw[h.1];omega)];exact h.1,fun j hj=>?_⟩;by_cases e:j=id
 ·subst e;exact .inr ⟨hid.1,I2 rfl (by rw[h.1];omega)⟩
 ·rw[Vr rfl (by rw[h.1];omega) (by rw[h.1];omega) (by omega)];exact h.2 j hj
structure Bk (hp:List AV→af→af) (A N:Nat):Prop where
 gA:∀ C T,get (hp C T) A=some (.cells C)
 pA:∀ C T C',put (hp C T) A (.cells C')=hp C' T
 pN:∀ C o,put (hp C []) N o=hp C [(N,o)]
 pN2:∀ C o o',put (hp C [(N,o)]) N o'=hp C [(N,o')]
 gN:∀ C o,get (hp C [(N,o)]) N=some o
 dN:∀ C o,del (hp C [(N,o)]) N=hp C []
theorem Uk {hp:List AV→af→af}{A N:Nat}(H:Bk hp A N) (C:List AV) (hC:Fk C) (id:Nat) (hid:1≤id∧id≤11):(Dn prog).call kR [.ptr A 0,.d (.int .i64 id)] ⟨hp C [],N⟩=some (qH id,⟨hp (ai C (4*id) (qz id)) [],N+1⟩):=by
 have hb:=YC id (by omega);simp only[Rm]at hb;have h48:=hC.1;have hia:∀ p,Dh 12 4 (.ptr p 0) (.d (.int .i64 id))=some (.ptr p (4*id)):=fun p=>by
  have hb2:Nat.ble 12 id=false:=by rw[Ub];exact decide_eq_false (by omega)
  simp only[Dh,KX (show (0:Int)≤id by omega),Int.toNat_natCast,hb2,fZ];rw[Nat.zero_add,Nat.mul_comm]
 rw[aN Pi Rk rfl];rcases hC.2 id (by omega) with h0 | ⟨_,h1⟩
 ·have e0:C[4*id]?=some (.d (.int .i64 0)):=by rw[←Nat.add_zero (4*id),←FV (by omega),h0];rfl
  obtain⟨hl0,e0⟩:=List.getElem?_eq_some_iff.1 e0;have hsm:=I2 (C:=C) (W:=qz id) (a:=4*id) rfl (by rw[h48];omega);have hsl:=ace (C:=C) (W:=qz id) (a:=4*id) rfl (by rw[h48];omega);rw[h48]at hsl;simp (maxSteps:=300000) (disch:=omega) [↓if_pos,↓if_neg,H.gA,H.pA,H.pN,H.pN2,H.gN,H.dN,hia,e0,hb,-ai,-sub,-FJ,-aeo,hsm,hsl];simp
 ·have e0:C[4*id]?=some (.d (.int .i64 id)):=by rw[←Nat.add_zero (4*id),←FV (by omega),h1];rfl
  obtain⟨hl0,e0⟩:=List.getElem?_eq_some_iff.1 e0;rw[ai2 (by omega) h1];simp (maxSteps:=300000) (disch:=omega) [↓if_pos,↓if_neg,H.gA,H.pA,H.pN,H.pN2,H.gN,H.dN,hia,e0,hb,-ai,-sub,-FJ,-aeo,h1];simp
theorem Tx (l:List bG) (hl:l.length≤100000) (h:af) (N:Nat):(Dn prog).call ta [.d (.lst (kz l))] ⟨h,N⟩=some (.d (.bool (decide (0<l.length))),⟨h,N⟩):=by
 rw[aN N8 Nz rfl];by_cases h0:0<l.length
 ·rw[decide_eq_true h0];simp (maxSteps:=300000) (disch:=omega) [↓if_pos]
 ·rw[decide_eq_false h0];simp (maxSteps:=300000) (disch:=omega) [↓if_neg]
theorem RP (F:AV) (P:List bG→Bool) (l:List (List bG)) (hl:l.length≤1000000000) (h:af) (N:Nat) (hF:firm (share F)=F) (hc:∀ v∈l,bD (Dn prog) F [.d (.lst (kz v))] ⟨h,N⟩=some (.d (.bool (P v)),⟨h,N⟩)):∀ (r:List (List bG)) (i:Nat),l.drop i=r→
  (r.any P=true∧∃ k:Nat,(Dn prog).code (.loop cK) ⟨[(0,.d (.lst (bt l))),(1,F),(7,.d (.int .i64 l.length)),(8,.d (.int .i64 i))],⟨h,N⟩⟩=some (.ret,⟨[(4,.d (.int .i64 k))],⟨h,N⟩⟩))∨
  (r.any P=false∧(Dn prog).code (.loop cK) ⟨[(0,.d (.lst (bt l))),(1,F),(7,.d (.int .i64 l.length)),(8,.d (.int .i64 i))],⟨h,N⟩⟩=some (.exit 0,⟨[],⟨h,N⟩⟩)):=by
 intro r
 induction r with
 | nil =>
  intro i hd;have hi:=bn hd;refine .inr ⟨rfl,?_⟩;rw[ac dE];simp (maxSteps:=300000) (disch:=omega) [↓if_neg]
 | cons v r ih =>
  intro i hd;have hg:=Ja hd;have hlt:=bR hd;have hv:=hc v (by rw[←List.take_append_drop i l,hd];simp);have h5:=ih (i+1) (cS hd);have c1:((i+1:Nat):Int)=(i:Int)+1:=rfl;rw[c1]at h5
  cases hp:P v with
  | true =>
   rw[hp]at hv;refine .inl ⟨by rw[List.any_cons,hp];rfl,i,?_⟩;rw[ac dE];simp (maxSteps:=300000) (disch:=omega) [↓if_pos,↓if_neg,hg,hF,hv]
  | false =>
   rw[hp]at hv;rw[List.any_cons,hp,Bool.false_or];rcases h5 with ⟨e1,k,e2⟩ | ⟨e1,e2⟩
   ·refine .inl ⟨e1,k,?_⟩;rw[ac dE,←e2];simp (maxSteps:=300000) (disch:=omega) [↓if_pos,↓if_neg,hg,hF,hv]
   ·refine .inr ⟨e1,?_⟩;rw[ac dE,←e2];simp (maxSteps:=300000) (disch:=omega) [↓if_pos,↓if_neg,hg,hF,hv]
theorem R5 (F:AV) (P:List bG→Bool) (l:List (List bG)) (hl:l.length≤1000000000) (h:af) (N:Nat) (hF:firm (share F)=F) (hF2:firm F=F) (hc:∀ v∈l,bD (Dn prog) F [.d (.lst (kz v))] ⟨h,N⟩=some (.d (.bool (P v)),⟨h,N⟩)) :
  (Dn prog).call kZ [.d (.lst (bt l)),F] ⟨h,N⟩=some (.d (.bool (l.any P)),⟨h,N⟩):=by
 have h1:=RP F P l hl h N hF hc l 0 rfl;have c0:((0:Nat):Int)=0:=rfl;rw[c0]at h1;have h2:∃ k:Int,(0≤k↔l.any P=true)∧(Dn prog).call mK [.d (.lst (bt l)),F] ⟨h,N⟩=some (.d (.int .i64 k),⟨h,N⟩):=by
  rcases h1 with ⟨e1,k,e2⟩ | ⟨e1,e2⟩
  ·refine⟨k,⟨fun _=>e1,fun _=>by omega⟩,?_⟩;rw[aN mF mI rfl];simp (maxSteps:=300000) (disch:=omega) [e2]
  ·refine⟨-1,⟨fun h=>by omega,fun h=>by rw[e1]at h;exact absurd h (by simp)⟩,?_⟩;rw[aN mF mI rfl];simp (maxSteps:=300000) (disch:=omega) [e2]
 obtain⟨k,e1,e2⟩:=h2;rw[aN uG uK rfl]
 cases hp:l.any P with
 | true =>
  have:=e1.2 hp;simp (maxSteps:=300000) (disch:=omega) [↓if_pos,hF2,e2]
 | false =>
  have:¬ 0≤k:=fun h=>by rw[e1.1 h]at hp;exact absurd hp (by simp)
  simp (maxSteps:=300000) (disch:=omega) [↓if_neg,hF2,e2]
def ve (t:List (List bG)):Bool:=t.any fun l=>decide (0<l.length)
theorem Z3 (t:List (List bG)) (ht:t.length≤100000) (ht2:∀ l∈t,l.length≤100000):aS prog Fe [.d (.lst (bt t))]=some (.d (.bool (ve t))):=by
 have h:=R5 (.fn ta [] []) (fun l=>decide (0<l.length)) t (by omega) [] 0 rfl rfl fun v hv=>by
  have:=Tx v (ht2 v hv) [] 0;simpa using this
 rw[ao Td Sq rfl];unfold ve;simp (maxSteps:=300000) (disch:=omega) [h]
theorem KJ {d hi:Nat}(hd:1≤d):∀ {f lo x:Nat},(hi-lo) % d=0→x∈sc d hi f lo→lo≤x∧x+d≤hi∧(x-lo) % d=0
 | 0,lo,x,_,h=>by simp[sc]at h
 | f+1,lo,x,hm,h=>by
  rw[sc]at h;by_cases h1:lo<hi
  ·rw[if_pos h1]at h;have h2:lo+d≤hi:=by
    rcases Nat.lt_or_ge (hi-lo) d with h3 | h3
    ·rw[Nat.mod_eq_of_lt h3]at hm;omega
    ·omega
   rcases List.mem_cons.1 h with e | e
   ·subst e;exact⟨Nat.le_refl _,h2,by simp⟩
   ·have h4:(hi-(lo+d)) % d=0:=by
     have:hi-lo=hi-(lo+d)+d:=by omega
     rw[this,Nat.add_mod_right]at hm;exact hm
    have ⟨a,b,c⟩:=KJ hd h4 e;refine⟨by omega,b,?_⟩;have:x-lo=x-(lo+d)+d:=by omega
    rw[this,Nat.add_mod_right];exact c
  ·rw[if_neg h1]at h;simp at h
theorem SE {os:List Nat}{d b:Nat}:∀ {k w y:Nat},y∈pP os d b k w→∃ w' x,w≤w'∧w'<w+k∧x∈sc d (nth os (b+1)) 300 (nth os b)∧y=w'*32+x
 | 0,w,y,h=>by simp[pP]at h
 | k+1,w,y,h=>by
  rw[pP,List.mem_append]at h;rcases h with h | h
  ·obtain⟨x,hx,e⟩:=List.mem_map.1 h;exact⟨w,x,Nat.le_refl _,by omega,hx,e.symm⟩
  ·obtain⟨w',x,a,b,c,e⟩:=SE h;exact⟨w',x,by omega,by omega,c,e⟩
theorem Ks {os:List Nat}{d n first:Nat}:∀ {k b y:Nat},y∈zX os d n first k b→∃ b',b≤b'∧b'<b+k∧y∈pP os d b' n first
 | 0,b,y,h=>by simp[zX]at h
 | k+1,b,y,h=>by
  rw[zX,List.mem_append]at h;rcases h with h | h
  ·exact⟨b,Nat.le_refl _,by omega,h⟩
  ·obtain⟨b',a,c,e⟩:=Ks h;exact⟨b',by omega,by omega,e⟩
theorem J6 {os:List Nat}{n first:Nat}:∀ {r:List aG}{b:Nat}{lf:Int}{p:Nat×Nat},fitsS lf r→p∈Bh os n first r b→∃ j,(aL r)[j]?=some (p.1:Int)∧(1≤p.1∧p.1≤11)∧p.2∈pP os (bp p.1) (b+j) n first
 | [],b,lf,p,_,h=>by simp[Bh]at h
 | s::r,b,lf,p,hf,h=>by
  obtain⟨⟨⟨l1,l2⟩,b1,b2⟩,hf2⟩:=hf;have eb:aL (s::r)=List.replicate s.len.toNat s.book++aL r:=by rw[aL,List.flatMap_cons];rfl
  rw[Bh,List.mem_append]at h;rcases h with h | h
  ·by_cases h0:s.book=0∨s.book=13
   ·rw[if_pos h0]at h;simp at h
   ·rw[if_neg h0]at h;obtain⟨y,hy,e⟩:=List.mem_map.1 h;subst e;obtain⟨b',c1,c2,c3⟩:=Ks hy;refine⟨b'-b,?_,by simp only[];omega,by rw[show b+(b'-b)=b' by omega];exact c3⟩;rw[eb,List.getElem?_append_left (by simp;omega),List.getElem?_replicate,if_pos (by omega)];simp only[Option.some.injEq];omega
  ·obtain⟨j,a,c,e⟩:=J6 hf2 h;refine⟨s.len.toNat+j,?_,c,by rw[←Nat.add_assoc];exact e⟩;rw[eb,List.getElem?_append_right (by simp),List.length_replicate,Nat.add_sub_cancel_left];exact a
theorem J5 {os:List Nat}{m:Int}:∀ {r:List (List aG)}{q:List Int}{first:Nat}{p:Nat×Nat},CH m r→(∀ n∈q,1≤n)→p∈sf os r q first→∃ (w g j:Nat) (l:List aG),r[g]?=some l∧first≤w∧(w:Int)<first+q.sum∧CA q ((w:Int)-first)=g∧(aL l)[j]?=some (p.1:Int)∧(1≤p.1∧p.1≤11)∧∃ x∈sc (bp p.1) (nth os (j+1)) 300 (nth os j),p.2=w*32+x
 | [],q,first,p,_,_,h=>by simp[sf]at h
 | l::r,[],first,p,_,_,h=>by simp[sf]at h
 | l::r,n::q,first,p,hf,hn,h=>by
  have hn1:=hn n (.head _);have hqs:0≤q.sum:=by have:=oi fun x hx=>hn x (.tail _ hx);omega
  rw[sf,List.mem_append]at h;rw[List.sum_cons];rcases h with h | h
  ·obtain⟨j,a,c,e⟩:=J6 (hf l (.head _)) h;rw[Nat.zero_add]at e;obtain⟨w,x,e1,e2,e3,e4⟩:=SE e;refine⟨w,0,j,l,rfl,e1,by omega,?_,a,c,x,e3,e4⟩;rw[CA,if_pos (by omega)]
  ·obtain⟨w,g,j,l',e1,e2,e3,e4,e5,e6,e7⟩:=J5 (fun x hx=>hf x (.tail _ hx)) (fun x hx=>hn x (.tail _ hx)) h;refine⟨w,g+1,j,l',by simpa using e1,by omega,by omega,?_,e5,e6,e7⟩;rw[CA,if_neg (by omega)];have:(w:Int)-first-n=(w:Int)-((first+n.toNat:Nat):Int):=by omega
   rw[this,e4]
theorem xI:∀ x∈Ay,((List.range ((offs x.1 x.2).length-1)).all fun j=>decide (nth (offs x.1 x.2) j<nth (offs x.1 x.2) (j+1)) && decide ((nth (offs x.1 x.2) (j+1)-nth (offs x.1 x.2) j) % 4=0))=true∧nth (offs x.1 x.2) 0=0∧(offs x.1 x.2).all (fun y=>decide (y≤cond x.2 32 256))=true:=by decide +kernel
theorem akK {os:List Nat}{b i:Nat}(hs:∀ j,j+1<os.length→nth os j<nth os (j+1)) (hb:b+1<os.length) (h1:nth os b≤i) (h2:i<nth os (b+1)):C7 (os.drop 1) i=b:=by
 have hmono:∀ k j,j+k<os.length→nth os j≤nth os (j+k):=by
  intro k
  induction k with
  | zero=>intro j _;exact Nat.le_refl _
  | succ k ih =>
   intro j hj;have a:=ih j (by omega);have b:=hs (j+k) (by omega);rw[show j+(k+1)=j+k+1 by omega];omega
 have hlen:(os.drop 1).length=os.length-1:=by simp
 rw[aeC (b:=b) (by omega) ?_]
 ·have hdd:(os.drop 1).drop b=os.drop (b+1):=by rw[List.drop_drop];congr 1;omega
  rw[hdd,tg hb,C7,if_neg (by omega)];rfl
 ·intro x hx;obtain⟨j,hj,e⟩:=List.mem_iff_getElem.1 hx;have hj2:j<b:=by have:=hj;simp only[List.length_take]at this;omega
  rw[List.getElem_take,List.getElem_drop]at e;have hn:nth os (1+j)=x:=by
   have h9:=xn (l:=os) (i:=1+j) (by omega);rw[List.getElem?_eq_getElem (by omega),e]at h9;injection h9 with h9;exact h9.symm
  have:=hmono (b-(1+j)) (1+j) (by omega);rw[show 1+j+(b-(1+j))=b by omega]at this;omega
def asg (c:fb) (p:Nat×Nat):List Nat:=WB p.1 ((c.lines.drop p.2).take (bp p.1))
def ain (r:Nat) (c:fb):List Nat:=(sf (offs r c.info.short) c.sects c.info.groups 0).flatMap (asg c)
abbrev wx:List AV:=[.d (.int .i64 0),.d (.int .i64 0),.nl,.nl,.d (.int .i64 0),.d (.int .i64 0),.nl,.nl,.d (.int .i64 0),.d (.int .i64 0),.nl,.nl,.d (.int .i64 0),.d (.int .i64 0),.nl,.nl,.d (.int .i64 0),.d (.int .i64 0),.nl,.nl,.d (.int .i64 0),.d (.int .i64 0),.nl,.nl,.d (.int .i64 0),.d (.int .i64 0),.nl,.nl,.d (.int .i64 0),.d (.int .i64 0),.nl,.nl,.d (.int .i64 0),.d (.int .i64 0),.nl,.nl,.d (.int .i64 0),.d (.int .i64 0),.nl,.nl,.d (.int .i64 0),.d (.int .i64 0),.nl,.nl,.d (.int .i64 0),.d (.int .i64 0),.nl,.nl]
theorem ai9:Fk wx:=by
 refine⟨rfl,fun id hid=>.inl ?_⟩;obtain rfl | rfl | rfl | rfl | rfl | rfl | rfl | rfl | rfl | rfl | rfl | rfl:id=0∨id=1∨id=2∨id=3∨id=4∨id=5∨id=6∨id=7∨id=8∨id=9∨id=10∨id=11:=by omega
 all_goals rfl
def apZ (r:Nat) (c:fb) (common:Bool):List Nat :=
 aF c.gain.toNat 8++((if common then [] else F0 c.info)++(alR c.info c.sects++(K5 c.sects c.steps c.gain (-1)++((if ve c.tns then 0::1::(M6 c.info.short c.tns++[0]) else [0,0,0])++ain r c))))
structure alt (c:fb):Prop where
 groups:c.info.groups.length≤40
 sects:c.sects.length≤40∧∀ l∈c.sects,l.length≤100
 steps:c.steps.length≤40∧∀ l∈c.steps,l.length≤200
 tns:c.tns.length≤40∧∀ l∈c.tns,l.length≤20∧∀ f∈l,f.coefs.length≤100
 lines:c.lines.length≤2000
abbrev lV (book:Int):Int:=if book=13 then 511 else 255
def gw (b:List Nat) (a book was:Int):R Int :=
 if was<0 then (aw b a 9).bind fun v n=>.ok (v:Int) n
 else (A9 b a).bind fun d n=>if was+d<0∨lV book<was+d then .er 7 else .ok (was+d) n
abbrev au2 (b:List Nat) (book:Int) (v:Int) (n:Nat):Prop:=(0≤v∧v≤511)∧n≤b.length
theorem TA {b:List Nat}{a:Int}{d:Int}{n:Nat}(h:A9 b a=.ok d n):pSt b d n:=by
 rw[A9]at h
 cases h1:sI 12 b a with
 | er e=>rw[h1]at h;exact absurd h (by simp)
 | ok e m =>
  rw[h1,aj]at h;obtain⟨k1,k2⟩:=J1 (by omega) h1;have h2:e<121:=k1;injection h with g1 g2
  subst g1 g2;exact⟨by omega,k2⟩
theorem Po {b:List Nat}{a book was:Int}{v:Int}{n:Nat}(h:gw b a book was=.ok v n):au2 b book v n:=by
 rw[gw]at h;split at h
 ·cases h1:aw b a 9 with
  | er e=>rw[h1]at h;exact absurd h (by simp)
  | ok v0 m =>
   rw[h1,aj]at h;have hp:=bY h1;have h2:v0<512:=hp.1;have h3:=hp.2;injection h with g1 g2
   subst g1 g2;exact⟨by omega,h3⟩
 ·cases h1:A9 b a with
  | er e=>rw[h1]at h;exact absurd h (by simp)
  | ok d m =>
   rw[h1,aj]at h;have hp:=TA h1;split at h
   ·exact absurd h (by simp)
   ·rename_i hn;injection h with g1 g2
    subst g1 g2;refine⟨?_,hp.2⟩;simp only[lV]at hn;split at hn<;>omega
def jW (b:List Nat):List Int→Int→Int→Int→R (List Int×Int×Int)
 | [],a,w,z=>.ok ([],w,z) a.toNat
 | k::r,a,w,z=>if k=13 then (gw b a 13 z).bind fun v n=>(jW b r n w v).bind fun q n=>.ok (v::q.1,q.2) n
  else if 0<k then (gw b a k w).bind fun v n=>(jW b r n v z).bind fun q n=>.ok (v::q.1,q.2) n
  else (jW b r a w z).bind fun q n=>.ok (0::q.1,q.2) n
abbrev US (w:Int):Prop:=-1≤w∧w≤511
abbrev avn (b:List Nat) (r:List Int) (q:List Int×Int×Int) (n:Nat):Prop:=q.1.length=r.length∧(US q.2.1∧US q.2.2)∧n≤b.length
theorem JS {b:List Nat}:∀ {r:List Int}{a:Nat}{w z:Int}{q:List Int×Int×Int}{n:Nat},a≤b.length→US w→US z→jW b r a w z=.ok q n→avn b r q n
 | [],a,w,z,q,n,ha,hw,hz,h=>by
  rw[jW]at h;injection h with g1 g2
  subst g1 g2;exact⟨rfl,⟨hw,hz⟩,by simpa using ha⟩
 | k::r,a,w,z,q,n,ha,hw,hz,h=>by
  rw[jW]at h;split at h
  ·cases h1:gw b a 13 z with
   | er e=>rw[h1]at h;exact absurd h (by simp)
   | ok v m =>
    rw[h1,aj]at h;have hp:=Po h1
    cases h2:jW b r m w v with
    | er e=>rw[h2]at h;exact absurd h (by simp)
    | ok q1 m1 =>
     rw[h2,aj]at h;have hq:=JS hp.2 hw ⟨by have:=hp.1.1;omega,hp.1.2⟩ h2;injection h with g1 g2
     subst g1 g2;exact⟨by simp[hq.1],hq.2⟩
  ·split at h
   ·cases h1:gw b a k w with
    | er e=>rw[h1]at h;exact absurd h (by simp)
    | ok v m =>
     rw[h1,aj]at h;have hp:=Po h1
     cases h2:jW b r m v z with
     | er e=>rw[h2]at h;exact absurd h (by simp)
     | ok q1 m1 =>
      rw[h2,aj]at h;have hq:=JS hp.2 ⟨by have:=hp.1.1;omega,hp.1.2⟩ hz h2;injection h with g1 g2
      subst g1 g2;exact⟨by simp[hq.1],hq.2⟩
   ·cases h2:jW b r a w z with
    | er e=>rw[h2]at h;exact absurd h (by simp)
    | ok q1 m1 =>
     rw[h2,aj]at h;have hq:=JS ha hw hz h2;injection h with g1 g2
     subst g1 g2;exact⟨by simp[hq.1],hq.2⟩
def jo (b:List Nat):List (List aG)→Int→Int→Int→R (List (List Int))
 | [],a,_,_=>.ok [] a.toNat
 | l::r,a,w,z=>(jW b (aL l) a w z).bind fun q n=>(jo b r n q.2.1 q.2.2).bind fun t n=>.ok (q.1::t) n
abbrev pSc (b:List Nat) (g:List (List aG)) (t:List (List Int)) (n:Nat):Prop:=t.map List.length=g.map (fun l=>(aL l).length)∧n≤b.length
theorem OL {b:List Nat}:∀ {g:List (List aG)}{a:Nat}{w z:Int}{t:List (List Int)}{n:Nat},a≤b.length→US w→US z→jo b g a w z=.ok t n→pSc b g t n
 | [],a,w,z,t,n,ha,hw,hz,h=>by
  rw[jo]at h;injection h with g1 g2
  subst g1 g2;exact⟨rfl,by simpa using ha⟩
 | l::r,a,w,z,t,n,ha,hw,hz,h=>by
  rw[jo]at h
  cases h1:jW b (aL l) a w z with
  | er e=>rw[h1]at h;exact absurd h (by simp)
  | ok q m =>
   rw[h1,aj]at h;have hp:=JS ha hw hz h1
   cases h2:jo b r m q.2.1 q.2.2 with
   | er e=>rw[h2]at h;exact absurd h (by simp)
   | ok t1 m1 =>
    rw[h2,aj]at h;have hq:=OL hp.2.2 hp.2.1.1 hp.2.1.2 h2;injection h with g1 g2
    subst g1 g2;exact⟨by simp only[List.map_cons,hq.1,hp.1],hq.2⟩
theorem ajC {t:List (List Int)}{l:List Int}:bO (t++[l])=bO t++[[.lst (am l)]]:=by simp[bO]
theorem afE {l:List aG}(hl:l.length≤1000) (hs:∀ s∈l,0≤s.len∧s.len≤1000):(aL l).length≤1000*l.length:=by
 induction l with
 | nil=>simp[aL]
 | cons s r ih =>
  have h1:=hs s (.head _);have h2:=ih (by simp at hl;omega) fun q hq=>hs q (.tail _ hq)
  simp only[aL,List.flatMap_cons,List.length_append,List.length_replicate,List.length_cons]at h2⊢;omega
abbrev WI (l:List aG):Prop:=l.length≤1000∧∀ s∈l,0≤s.len∧s.len≤1000
def u4 (b:List Nat) (g:List (List aG)) (a gain:Int):R (List (List Int)):=if 0≤a∧a≤b.length then jo b g a gain (-1) else .er 1
structure SG where
 row:List Int
 nx:Nat
 w:Int
 z:Int
theorem u7 {A0 A1 A2 A3:Obj}{R:af}(book n s z:Int) (N:Nat) (hn:-100000≤n∧n≤100000) (hs:-100000≤s∧s≤100000) (hz:-100000≤z∧z≤100000) :
  (Dn prog).call kG [.ptr 4 0,.d (.int .i64 book),.d (.int .i64 n)] ⟨(0,A0)::(1,A1)::(2,A2)::(3,A3)::(4,.cells [.d (.int .i64 s),.d (.int .i64 z)])::R,N⟩ =
   if mD book n s z then some (.d (.bool true),⟨if book=13 then (0,A0)::(1,A1)::(2,A2)::(3,A3)::(4,.cells [.d (.int .i64 s),.d (.int .i64 n)])::R else (0,A0)::(1,A1)::(2,A2)::(3,A3)::(4,.cells [.d (.int .i64 n),.d (.int .i64 z)])::R,N⟩) else some (.d (.bool false),⟨(0,A0)::(1,A1)::(2,A2)::(3,A3)::(4,.cells [.d (.int .i64 s),.d (.int .i64 z)])::R,N⟩) :=
 aeb (hp:=fun s z=>(0,A0)::(1,A1)::(2,A2)::(3,A3)::(4,.cells [.d (.int .i64 s),.d (.int .i64 z)])::R) (A:=4) ⟨fun s z=>by simp,fun s z s' z'=>by simp⟩ book n s z N hn hs hz
section
variable (b:List Nat) (full:List (List aG)) (ss:List (List Int)) (l:List aG) (i N:Nat)
abbrev Wx:aq:=[(4,.ptr 0 0),(8,.ptr 1 0),(9,.ptr 2 0),(10,.ptr 3 0),(11,.ptr 5 0),(14,.ptr N 0),(35,.d (.lst (aM full))),(36,.d (.int .i64 full.length)),(37,.d (.int .i64 i)),(42,.fn iL [] [.ptr (N+1) 0])]
abbrev FG (q:Bool) (p:Option aY) (x1 x2 x3:AV) (row:List Int) (w z:Int) (T:af):af :=
 (0,.cells [.d (.lst (ae b))])::(1,.cells [x1])::(2,.cells [x2])::(3,.cells [x3])::(4,.cells [.d (.int .i64 w),.d (.int .i64 z)])::(5,.cells [.ptr 4 0])::(N,.cells [ah 1 (am row)])::(N+1,.cells [.d (.lst (fY l))])::(N+1+1,.loop (Wx full i N) [43,44] qL qb q p)::T
abbrev hpG (s:SG) (T:af):af:=FG b full l i N false none (ah 1 (bO ss)) (.d (.int .i64 s.nx)) (.d (.int .i64 0)) s.row s.w s.z T
abbrev hqG (s:Nat×SG) (T:af):af:=FG b full l i N false (some .ret) .nl (.d (.int .i64 0)) (.d (.int .i64 ((s.1:Int)+1))) s.2.row s.2.w s.2.z T
end
def FN (b:List Nat) (k:Int) (s:SG):Sum SG (Nat×SG) :=
 if k=13 then (match gw b s.nx 13 s.z with
  | .ok v n=>.inl ⟨s.row++[v],n,s.w,v⟩
  | .er e=>.inr (e,s))
 else if 0<k then (match gw b s.nx k s.w with
  | .ok v n=>.inl ⟨s.row++[v],n,v,s.z⟩
  | .er e=>.inr (e,s))
 else .inl ⟨s.row++[0],s.nx,s.w,s.z⟩
def adw (b:List Nat) (a:Nat) (s:SG):Prop:=s.nx≤b.length∧(0≤s.w∧s.w≤511)∧US s.z∧s.row.length=a∧a≤1000000
theorem asM (b:List Nat) (hb:b.length≤1000000000) (full:List (List aG)) (ss:List (List Int)) (l:List aG) (i N:Nat) (hN:6≤N) (a:Nat) (k:Int) (hk:0≤k∧k≤13) (s:SG) (hs:adw b a s) (K M:Nat) (o:Obj) (hK:N+1+1+1≤K) :
  bD (Dn prog) (.yield (N+1+1)) [.d (.int .i64 (a:Int)),.d (.int .i64 k)] ⟨hpG b full ss l i N s [(K,o)],M⟩ =
  match FN b k s with
  | .inl s2=>some (.d (.bool true),⟨hpG b full ss l i N s2 [(K,o)],M⟩)
  | .inr z=>some (.d (.bool false),⟨hqG b full l i N z [(K,o)],M⟩):=by
 obtain⟨h1,h2,h3,h4,h5⟩:=hs;obtain⟨n0,n1,n2,n3,n4⟩:(N≠0∧N≠1∧N≠2∧N≠3∧N≠4∧N≠5)∧(N+1≠0∧N+1≠1∧N+1≠2∧N+1≠3∧N+1≠4∧N+1≠5)∧(N+1+1≠0∧N+1+1≠1∧N+1+1≠2∧N+1+1≠3∧N+1+1≠4∧N+1+1≠5)∧N+1+1≠N∧N+1+1≠N+1:=by omega
 have hrl:=mM (l:=s.row);have eo:∀ v,AV.own false 1 (am (s.row++[v]))=ah 1 (am (s.row++[v])):=fun v=>by rw[PS];exact gp.symm
 have hS:=Yk b s.nx hb (by omega);have hG:=dz b s.nx 9 hb (by omega);have hz0:=h3.1;have hz1:=h3.2;rw[FN];by_cases e1:k=13
 ·subst e1;rw[if_pos rfl];by_cases hz:s.z<0
  ·cases hg:aw b s.nx 9 with
   | ok v n =>
    have hp:=bY hg;have hv:v<512:=hp.1;have hn:=hp.2;rw[hg,bV hp]at hG;have ho:gw b s.nx 13 s.z=.ok (v:Int) n:=by rw[gw,if_pos hz,hg,aj]
    have hT:mD 13 v s.w s.z:=by rw[mD,if_pos rfl];omega
    rw[ho];simp (maxSteps:=300000) (disch:=omega) [dV,dX,↓if_pos,↓if_neg,n0,n1,n2,n3,n4,u7,hG,if_pos hT];exact eo _
   | er e =>
    rw[hg,dH]at hG;have ho:gw b s.nx 13 s.z=.er e:=by rw[gw,if_pos hz,hg,aU]
    rw[ho];simp (maxSteps:=300000) (disch:=omega) [dV,dX,↓if_pos,↓if_neg,n0,n1,n2,n3,n4,u7,hG]
  ·cases hg:A9 b s.nx with
   | ok d n =>
    have hp:=TA hg;have hd:=hp.1;have hn:=hp.2;rw[hg,bV hp]at hS;by_cases hr:s.z+d<0∨lV 13<s.z+d
    ·have ho:gw b s.nx 13 s.z=.er 7:=by rw[gw,if_neg hz,hg,aj,if_pos hr]
     have hT:¬ mD 13 (d+s.z) s.w s.z:=by rw[mD,if_pos rfl];simp only[lV,if_pos]at hr;omega
     rw[ho];simp (maxSteps:=300000) (disch:=omega) [dV,dX,↓if_pos,↓if_neg,n0,n1,n2,n3,n4,u7,hS,if_neg hT]
    ·have ho:gw b s.nx 13 s.z=.ok (s.z+d) n:=by rw[gw,if_neg hz,hg,aj,if_neg hr]
     have hT:mD 13 (d+s.z) s.w s.z:=by rw[mD,if_pos rfl];simp only[lV,if_pos]at hr;omega
     rw[ho,Int.add_comm];simp (maxSteps:=300000) (disch:=omega) [dV,dX,↓if_pos,↓if_neg,n0,n1,n2,n3,n4,u7,hS,if_pos hT];exact eo _
   | er e =>
    rw[hg,dH]at hS;have ho:gw b s.nx 13 s.z=.er e:=by rw[gw,if_neg hz,hg,aU]
    rw[ho];simp (maxSteps:=300000) (disch:=omega) [dV,dX,↓if_pos,↓if_neg,n0,n1,n2,n3,n4,u7,hS]
 ·rw[if_neg e1];by_cases e2:0<k
  ·rw[if_pos e2];have hw:¬ s.w<0:=by omega
   cases hg:A9 b s.nx with
   | ok d n =>
    have hp:=TA hg;have hd:=hp.1;have hn:=hp.2;rw[hg,bV hp]at hS;by_cases hr:s.w+d<0∨lV k<s.w+d
    ·have ho:gw b s.nx k s.w=.er 7:=by rw[gw,if_neg hw,hg,aj,if_pos hr]
     have hT:¬ mD k (d+s.w) s.w s.z:=by rw[mD,if_neg e1];simp only[lV,if_neg e1]at hr;omega
     rw[ho];simp (maxSteps:=300000) (disch:=omega) [dV,dX,↓if_pos,↓if_neg,n0,n1,n2,n3,n4,u7,hS,if_neg hT,e1]
    ·have ho:gw b s.nx k s.w=.ok (s.w+d) n:=by rw[gw,if_neg hw,hg,aj,if_neg hr]
     have hT:mD k (d+s.w) s.w s.z:=by rw[mD,if_neg e1];simp only[lV,if_neg e1]at hr;omega
     rw[ho,Int.add_comm];simp (maxSteps:=300000) (disch:=omega) [dV,dX,↓if_pos,↓if_neg,n0,n1,n2,n3,n4,u7,hS,if_pos hT,e1];exact eo _
   | er e =>
    rw[hg,dH]at hS;have ho:gw b s.nx k s.w=.er e:=by rw[gw,if_neg hw,hg,aU]
    rw[ho];simp (maxSteps:=300000) (disch:=omega) [dV,dX,↓if_pos,↓if_neg,n0,n1,n2,n3,n4,u7,hS,e1]
  ·rw[if_neg e2];have:k=0:=by omega
   subst this;simp (maxSteps:=300000) (disch:=omega) [dV,dX,↓if_pos,↓if_neg,n0,n1,n2,n3,n4,u7,e1];exact eo _
theorem aof {b:List Nat}{a:Nat}{k:Int}{s s2:SG}(hs:adw b a s) (ha:a<1000000) (h:FN b k s=.inl s2):adw b (a+1) s2:=by
 obtain⟨h1,h2,h3,h4,h5⟩:=hs;have h3':=h3;rw[FN]at h;split at h
 ·split at h
  ·rename_i v n ho;have hp:=Po ho;obtain⟨⟨hv1,hv2⟩,hn⟩:=hp;injection h with h;subst h
   exact⟨hn,h2,⟨by simp only[];omega,hv2⟩,by simp[h4],by omega⟩
  ·exact nomatch h
 ·split at h
  ·split at h
   ·rename_i v n ho;have hp:=Po ho;obtain⟨⟨hv1,hv2⟩,hn⟩:=hp;injection h with h;subst h
    exact⟨hn,⟨hv1,hv2⟩,h3,by simp[h4],by omega⟩
   ·exact nomatch h
  ·injection h with h;subst h
   exact⟨h1,h2,h3,by simp[h4],by omega⟩
theorem J2 {b:List Nat}:∀ {r:List Int}{a:Nat}{s:SG},(∀ q n,jW b r s.nx s.w s.z=.ok q n→oI (fun _ k s=>FN b k s) r a s=.inl ⟨s.row++q.1,n,q.2.1,q.2.2⟩)∧(∀ e,jW b r s.nx s.w s.z=.er e→∃ z,oI (fun _ k s=>FN b k s) r a s=.inr (e,z))
 | [],a,s=>⟨fun q n h=>by
   rw[jW]at h;injection h with g1 g2
   subst g1 g2;rw[oI];simp,fun e h=>by rw[jW]at h;exact absurd h (by simp)⟩
 | k::r,a,s=>by
  rw[jW,oI,FN];by_cases e1:k=13
  ·rw[if_pos e1,if_pos e1]
   cases ho:gw b s.nx 13 s.z with
   | er e=>exact⟨fun q n h=>by rw[aU]at h;exact absurd h (by simp),fun e' h=>by rw[aU]at h;injection h with h;subst h;exact⟨s,rfl⟩⟩
   | ok v n =>
    simp only[aj];have ih:=J2 (b:=b) (r:=r) (a:=a+1) (s:=⟨s.row++[v],n,s.w,v⟩)
    cases hr:jW b r n s.w v with
    | er e=>exact⟨fun q n h=>by rw[aU]at h;exact absurd h (by simp),fun e' h=>by rw[aU]at h;injection h with h;subst h;exact ih.2 e hr⟩
    | ok q m =>
     refine⟨fun q' n' h=>?_,fun e h=>by rw[aj]at h;exact absurd h (by simp)⟩;rw[aj]at h;injection h with g1 g2
     subst g1 g2;rw[ih.1 q m hr];simp
  ·rw[if_neg e1,if_neg e1];by_cases e2:0<k
   ·rw[if_pos e2,if_pos e2]
    cases ho:gw b s.nx k s.w with
    | er e=>exact⟨fun q n h=>by rw[aU]at h;exact absurd h (by simp),fun e' h=>by rw[aU]at h;injection h with h;subst h;exact⟨s,rfl⟩⟩
    | ok v n =>
     simp only[aj];have ih:=J2 (b:=b) (r:=r) (a:=a+1) (s:=⟨s.row++[v],n,v,s.z⟩)
     cases hr:jW b r n v s.z with
     | er e=>exact⟨fun q n h=>by rw[aU]at h;exact absurd h (by simp),fun e' h=>by rw[aU]at h;injection h with h;subst h;exact ih.2 e hr⟩
     | ok q m =>
      refine⟨fun q' n' h=>?_,fun e h=>by rw[aj]at h;exact absurd h (by simp)⟩;rw[aj]at h;injection h with g1 g2
      subst g1 g2;rw[ih.1 q m hr];simp
   ·rw[if_neg e2,if_neg e2];have ih:=J2 (b:=b) (r:=r) (a:=a+1) (s:=⟨s.row++[0],s.nx,s.w,s.z⟩)
    cases hr:jW b r s.nx s.w s.z with
    | er e=>exact⟨fun q n h=>by rw[aU]at h;exact absurd h (by simp),fun e' h=>by rw[aU]at h;injection h with h;subst h;exact ih.2 e hr⟩
    | ok q m =>
     refine⟨fun q' n' h=>?_,fun e h=>by rw[aj]at h;exact absurd h (by simp)⟩;rw[aj]at h;injection h with g1 g2
     subst g1 g2;simp only;rw[ih.1 q m hr];simp
theorem apP (b:List Nat) (hb:b.length≤1000000000) (full:List (List aG)) (ss:List (List Int)) (l:List aG) (i N:Nat) (hN:6≤N) (hk:∀ k∈aL l,0≤k∧k≤13) (hl:(aL l).length≤1000000) :
  Rnd (hpG b full ss l i N) (hqG b full l i N) (N+1+1+1) (N+1+1) (aL l) (fun _ k s=>FN b k s) (adw b):=by
 intro a k s K o M hak hi hK hKM;have hal:a<(aL l).length:=(List.getElem?_eq_some_iff.1 hak).1;have h:=asM b hb full ss l i N hN a k (hk k (List.mem_of_getElem? hak)) s hi K M o hK
 cases hg:FN b k s with
 | inl s2 =>
  rw[hg]at h;exact .inl ⟨s2,hg,aof hi (by omega) hg,h⟩
 | inr z =>
  rw[hg]at h;exact .inr ⟨z,hg,h⟩
theorem asn {b:List Nat}{full:List (List aG)}{ss:List (List Int)}{l:List aG}{i N:Nat}(hN:6≤N):Tl (hpG b full ss l i N) (N+1+1+1):=by
 obtain⟨n0,n1,n2,n3,n4⟩:(N≠0∧N≠1∧N≠2∧N≠3∧N≠4∧N≠5)∧(N+1≠0∧N+1≠1∧N+1≠2∧N+1≠3∧N+1≠4∧N+1≠5)∧(N+1+1≠0∧N+1+1≠1∧N+1+1≠2∧N+1+1≠3∧N+1+1≠4∧N+1+1≠5)∧N+1+1≠N∧N+1+1≠N+1:=by omega
 constructor
 ·intro s K o h;simp (maxSteps:=300000) (disch:=omega) [↓if_neg]
 ·intro s K o o' h;simp (maxSteps:=300000) (disch:=omega) [↓if_neg]
 ·intro s K o h;simp (maxSteps:=300000) (disch:=omega) [↓if_neg]
 ·intro s K o h;simp (maxSteps:=300000) (disch:=omega) [↓if_neg]
theorem asb {b:List Nat}{full:List (List aG)}{l:List aG}{i N:Nat}(hN:6≤N):Tl (hqG b full l i N) (N+1+1+1):=by
 obtain⟨n0,n1,n2,n3,n4⟩:(N≠0∧N≠1∧N≠2∧N≠3∧N≠4∧N≠5)∧(N+1≠0∧N+1≠1∧N+1≠2∧N+1≠3∧N+1≠4∧N+1≠5)∧(N+1+1≠0∧N+1+1≠1∧N+1+1≠2∧N+1+1≠3∧N+1+1≠4∧N+1+1≠5)∧N+1+1≠N∧N+1+1≠N+1:=by omega
 constructor
 ·intro s K o h;simp (maxSteps:=300000) (disch:=omega) [↓if_neg]
 ·intro s K o o' h;simp (maxSteps:=300000) (disch:=omega) [↓if_neg]
 ·intro s K o h;simp (maxSteps:=300000) (disch:=omega) [↓if_neg]
 ·intro s K o h;simp (maxSteps:=300000) (disch:=omega) [↓if_neg]
theorem IT (x:D) (A0 A1 A2 A3 A4 A5 A6:Obj) (N:Nat) (hN:6≤N):(Dn prog).call yU [.d x] ⟨[(0,A0),(1,A1),(2,A2),(3,A3),(4,A4),(5,A5),(N,A6)],N+1⟩=some (.fn iL [] [.ptr (N+1) 0],⟨[(0,A0),(1,A1),(2,A2),(3,A3),(4,A4),(5,A5),(N,A6),(N+1,.cells [.d x])],N+1+1⟩):=by
 rw[aba];simp (maxSteps:=300000) (disch:=omega) [↓if_neg]
def adF (l:List aG):Prop:=∀ k∈aL l,0≤k∧k≤13
abbrev hpL (b:List Nat) (ss:List (List Int)) (nx:Nat) (w z:Int):af:=[(0,.cells [.d (.lst (ae b))]),(1,.cells [ah 1 (bO ss)]),(2,.cells [.d (.int .i64 nx)]),(3,.cells [.d (.int .i64 0)]),(4,.cells [.d (.int .i64 w),.d (.int .i64 z)]),(5,.cells [.ptr 4 0])]
theorem Xz (b:List Nat) (hb:b.length≤1000000000) (full:List (List aG)) (hfl:full.length≤1000):∀ (g:List (List aG)) (i N:Nat) (ss:List (List Int)) (nx:Nat) (w z:Int),full.drop i=g→(∀ l∈g,WI l∧adF l)→nx≤b.length→(0≤w∧w≤511)→US z→ss.length≤i→6≤N→
  (∀ t n,jo b g nx w z=.ok t n→∃ M A4,(Dn prog).code (.loop gQ) ⟨[(4,.ptr 0 0),(8,.ptr 1 0),(9,.ptr 2 0),(10,.ptr 3 0),(11,.ptr 5 0),(35,.d (.lst (aM full))),(36,.d (.int .i64 full.length)),(37,.d (.int .i64 i))],⟨hpL b ss nx w z,N⟩⟩ =
   some (.exit 0,⟨[(8,.ptr 1 0),(9,.ptr 2 0),(10,.ptr 3 0)],⟨[(1,.cells [ah 1 (bO (ss++t))]),(2,.cells [.d (.int .i64 n)]),(3,.cells [.d (.int .i64 0)]),(4,A4)],M⟩⟩))∧
  (∀ e,jo b g nx w z=.er e→∃ M I K T,(Dn prog).code (.loop gQ) ⟨[(4,.ptr 0 0),(8,.ptr 1 0),(9,.ptr 2 0),(10,.ptr 3 0),(11,.ptr 5 0),(35,.d (.lst (aM full))),(36,.d (.int .i64 full.length)),(37,.d (.int .i64 i))],⟨hpL b ss nx w z,N⟩⟩ =
   some (.ret,⟨Wx full I K,⟨(0,.cells [.d (.lst (ae b))])::(1,.cells [.nl])::(2,.cells [.d (.int .i64 0)])::(3,.cells [.d (.int .i64 ((e:Int)+1))])::T,M⟩⟩)):=by
 intro g
 induction g with
 | nil =>
  intro i N ss nx w z hd hok hnx hw hz hss hN;have hk:=bn hd;refine⟨fun t n h=>?_,fun e h=>by rw[jo]at h;exact absurd h (by simp)⟩;rw[jo]at h;injection h with g1 g2
  subst g1 g2;refine⟨N,.cells [.d (.int .i64 w),.d (.int .i64 z)],?_⟩;rw[ac xc];simp (maxSteps:=300000) (disch:=omega) [↓if_pos,↓if_neg]
 | cons l r ih =>
  intro i N ss nx w z hd hok hnx hw hz hss hN;have hlt:=bR hd;have hg:=xY hd;obtain⟨hl,hbk⟩:=hok l (.head _);have hbl:=afE hl.1 hl.2;have hsl:=agK (t:=ss);obtain⟨n0,n1,n2,n3,n4⟩:(N≠0∧N≠1∧N≠2∧N≠3∧N≠4∧N≠5)∧(N+1≠0∧N+1≠1∧N+1≠2∧N+1≠3∧N+1≠4∧N+1≠5)∧(N+1+1≠0∧N+1+1≠1∧N+1+1≠2∧N+1+1≠3∧N+1+1≠4∧N+1+1≠5)∧N+1+1≠N∧N+1+1≠N+1:=by omega
  have hB:=amu (p:=N+1) (asn (b:=b) (full:=full) (ss:=ss) (l:=l) (i:=i) hN) (asb (b:=b) (full:=full) (l:=l) (i:=i) hN) l (apP b hb full ss l i N hN hbk (by omega)) (fun s=>by simp (maxSteps:=300000) (disch:=omega) [↓if_neg,↓if_pos]) (by omega) hl.2 (N+1+1+1) ⟨[],nx,w,z⟩ (Nat.le_refl _) ⟨hnx,hw,hz,rfl,by omega⟩;have hrow:=J2 (b:=b) (r:=aL l) (a:=0) (s:=⟨[],nx,w,z⟩);have n00:am []=[]:=rfl;have c1:((i+1:Nat):Int)=(i:Int)+1:=rfl;rw[jo]
  cases hr:jW b (aL l) nx w z with
  | er e =>
   obtain⟨zz,hz2⟩:=hrow.2 e hr;rw[hz2]at hB;refine⟨fun t n h=>by rw[aU]at h;exact absurd h (by simp),fun e' h=>?_⟩;rw[aU]at h;injection h with h
   subst h;rcases hB with ⟨s2,M,e1,_⟩ | ⟨q,M,e1,e2,e3⟩
   ·exact nomatch e1
   ·injection e1 with e1
    subst e1;simp only[hpG,hqG,FG,n00,lk,Wx]at e3;refine⟨M,i,N,[(4,.cells [.d (.int .i64 zz.w),.d (.int .i64 zz.z)]),(5,.cells [.ptr 4 0]),(N,.cells [ah 1 (am zz.row)]),(N+1,.cells [.d (.lst (fY l))])],?_⟩;rw[ac xc];simp (maxSteps:=300000) (disch:=omega) [↓if_pos,↓if_neg,hg,n0,n1,n2,n3,n4,IT,rd,e3]
  | ok q m =>
   have hp:=JS hnx ⟨by omega,by omega⟩ hz hr;obtain⟨p1,⟨p2,p3⟩,p4⟩:=hp;have hz2:=hrow.1 q m hr;rw[hz2]at hB;rcases hB with ⟨s2,M,e1,ei,e2,e3⟩ | ⟨q,M,e1,_⟩
   rotate_left
   ·exact nomatch e1
   injection e1 with e1
   subst e1;obtain⟨_,hw2,hz3,_⟩:=ei;simp only[List.nil_append]at e3 hw2 hz3;have h5:=ih (i+1) M (ss++[q.1]) m q.2.1 q.2.2 (cS hd) (fun x hx=>hok x (.tail _ hx)) p4 hw2 hz3 (by simp;omega) (by omega);rw[c1]at h5;simp only[aj];have step:(Dn prog).code (.loop gQ) ⟨[(4,.ptr 0 0),(8,.ptr 1 0),(9,.ptr 2 0),(10,.ptr 3 0),(11,.ptr 5 0),(35,.d (.lst (aM full))),(36,.d (.int .i64 full.length)),(37,.d (.int .i64 i))],⟨hpL b ss nx w z,N⟩⟩ =
     (Dn prog).code (.loop gQ) ⟨[(4,.ptr 0 0),(8,.ptr 1 0),(9,.ptr 2 0),(10,.ptr 3 0),(11,.ptr 5 0),(35,.d (.lst (aM full))),(36,.d (.int .i64 full.length)),(37,.d (.int .i64 ((i:Int)+1)))],⟨hpL b (ss++[q.1]) m q.2.1 q.2.2,M⟩⟩:=by
    simp only[hpG,hqG,FG,n00,lk,Wx]at e3;simp only[hpL,ajC,gp];rw[ac xc];simp (maxSteps:=300000) (disch:=omega) [↓if_pos,↓if_neg,hg,n0,n1,n2,n3,n4,IT,rd,e3]
   rw[step]
   cases hs:jo b r m q.2.1 q.2.2 with
   | er e =>
    refine⟨fun t n h=>by rw[aU]at h;exact absurd h (by simp),fun e' h=>?_⟩;rw[aU]at h;injection h with h
    subst h;exact h5.2 e hs
   | ok t0 m0 =>
    refine⟨fun t n h=>?_,fun e h=>by rw[aj]at h;exact absurd h (by simp)⟩;rw[aj]at h;injection h with g1 g2
    subst g1 g2;obtain⟨M2,A4,f⟩:=h5.1 t0 m0 hs;refine⟨M2,A4,?_⟩;rw[f,List.append_assoc];rfl
theorem wv {m:Nat}{xs:List (List D)}:share (share (ah m xs))=share (ah m xs):=by cases xs<;>rfl
theorem acm {m:Nat}{xs:List (List D)}:firm (share (ah m xs))=share (ah m xs):=by cases xs<;>rfl
theorem XP {m:Nat}{xs:List (List D)}:AV.cells (share (ah m xs))=[share (ah m xs)]:=by cases xs<;>rfl
theorem AD {m:Nat}{xs:List (List D)}:aV (share (ah m xs))=true:=by cases xs<;>rfl
theorem ajf {h:af}{m:Nat}{xs:List (List D)}{a b:Int}:dF h (.tup [share (ah m xs),.d (.int .i64 a),.d (.int .i64 b)])=some (.tup [share (ah m xs),.d (.int .i64 a),.d (.int .i64 b)]):=by cases xs<;>rfl
theorem af5 (b:List Nat) (hb:b.length≤1000000000) (a gain m:Int) (ha:i64 a) (hg:0≤gain∧gain≤255) (g:List (List aG)) (hl:g.length≤8) (hm:0≤m∧m≤40) (hf:CH m g) (hf2:∀ l∈g,l.length≤1000) (hok:∀ l∈g,WI l∧adF l):aS prog Mh [.d (.lst (ae b)),.d (.int .i64 a),.d (.int .i64 gain),.d (.lst (aM g))] =
  rK (pSc b g) (u4 b g a gain) (fun t n=>some (.tup [share (ah 1 (bO t)),.d (.int .i64 n),.d (.int .i64 0)])) (fun e=>some (.tup [.nl,.d (.int .i64 0),.d (.int .i64 (e+1))])):=by
 have hmay:=ais gain m g hg hl hm fun l h=>⟨hf l h,hf2 l h⟩
 have hG:=dz b a 0 hb ha;have e0:∀ a,aw b a 0=if 0≤a∧a≤b.length then .ok 0 a.toNat else .er 1:=by
  intro a;by_cases h:0≤a∧a≤b.length
  ·rw[if_pos h,aw];simp[h,bin,val]
  ·rw[if_neg h,aw];simp[h]
 rw[ao abh aa0 rfl,u4];by_cases h1:0≤a∧a≤b.length
 ·obtain⟨A,rfl⟩:=Int.eq_ofNat_of_zero_le h1.1;rw[if_pos h1];rw[e0,if_pos h1,bV ⟨by decide,by omega⟩]at hG;have hL:=Xz b hb g (by omega) g 0 6 [] A gain (-1) rfl hok (by omega) ⟨hg.1,by omega⟩ ⟨by omega,by omega⟩ (Nat.le_refl _) (Nat.le_refl _);have c0:((0:Nat):Int)=0:=rfl;have n0:bO []=[]:=rfl;simp only[c0,n0,lk,hpL,List.nil_append]at hL;simp only[Int.toNat_natCast]at hG
  cases hs:jo b g A gain (-1) with
  | ok t n =>
   have hp:=OL (by omega) ⟨by omega,by omega⟩ ⟨by omega,by omega⟩ hs;obtain⟨M,A4,f⟩:=hL.1 t n hs;rw[bV hp];simp (maxSteps:=300000) (disch:=omega) [↓if_pos,↓if_neg,hmay,hG,f,-Q5,ajf,-aV,acm,XP,AD,wv]
  | er e =>
   obtain⟨M,I,K,T,f⟩:=hL.2 e hs;rw[dH];simp (maxSteps:=300000) (disch:=omega) [↓if_pos,↓if_neg,hmay,hG,f]
 ·rw[if_neg h1,dH];rw[e0,if_neg h1,dH]at hG;simp (maxSteps:=300000) (disch:=omega) [↓if_pos,↓if_neg,hmay,hG]
abbrev HT (b:List Nat) (st:RS) (R:af):af:=(0,.cells [.d (.lst (ae b))])::(2,.cells [.d (.int .i64 (ra st))])::(3,.cells [.d (.int .i64 (re st))])::R
theorem wz (b:List Nat) (s:Int) (st:RS) (R:af) (N:Nat) (hb:b.length≤1000000000) (ha:st.fit):(Dn prog).call vj [.d (.int .i64 s),.ptr 3 0,.ptr 0 0,.ptr 2 0] ⟨HT b st R,N⟩ =
  some (.d (.int .i64 (sV b st s)),⟨HT b (sN b st s) R,N⟩):=by
 rw[aN Qf Rs rfl];obtain⟨a,e⟩:=st;have hf:i64 a:=ha;by_cases he:e=0
 ·subst he;simp (maxSteps:=300000) (disch:=omega) [CE,ra,re,sV,sN]
 ·simp (maxSteps:=300000) (disch:=omega) [ra,re,sV,sN,he]
def Iz (v sz:Nat):Int:=(v:Int)-((v / 2 ^ (sz-1)*2 ^ sz:Nat):Int)
def qU (b:List Nat) (sz:Nat):Nat→RS→List Int
 | 0,_=>[]
 | k+1,st=>Iz (sV b st sz) sz::qU b sz k (sN b st sz)
def oK (b:List Nat) (sz:Nat):Nat→RS→RS
 | 0,st=>st
 | k+1,st=>oK b sz k (sN b st sz)
theorem TK {b:List Nat}{sz:Nat}(hb:b.length≤1000000000):∀ {k:Nat}{st:RS},st.fit→(oK b sz k st).fit
 | 0,_,h=>h
 | _+1,_,h=>by rw[oK];exact TK hb (c7 hb h)
theorem S5 {b:List Nat}{sz:Nat}:∀ {k:Nat}{st:RS},(qU b sz k st).length=k
 | 0,_=>rfl
 | k+1,st=>by rw[qU,List.length_cons,S5]
theorem avW {q s:Nat}(hq:q≤1) (hs:s≤4):da .shl (.d (.int .i64 (q:Int))) (.d (.int .i64 (s:Int)))=some (.int .i64 ((q*2 ^ s:Nat):Int)):=by
 have h:∀ q:Nat,q≤1→∀ s:Nat,s≤4→da .shl (.d (.int .i64 (q:Int))) (.d (.int .i64 (s:Int)))=some (.int .i64 ((q*2 ^ s:Nat):Int)):=by
  intro q hq s hs;obtain rfl | rfl:q=0∨q=1:=by omega
  all_goals
   obtain rfl | rfl | rfl | rfl | rfl:s=0∨s=1∨s=2∨s=3∨s=4:=by omega
   all_goals rfl
 exact h q hq s hs
abbrev IR:AV:=.fn vj [] [.ptr 3 0,.ptr 0 0,.ptr 2 0]
theorem anm (b:List Nat) (hb:b.length≤1000000000) (SZ:Obj) (a0 a1 a2 a3 x6 x13:AV) (y12 y15 y32 y33 y46 y47:D) (nar:Int) (sz ord N M:Nat) (hsz:2≤sz∧sz≤4) (ho:ord≤100) (hN:5≤N):∀ (k j:Nat) (st:RS) (acc:List Int),j+k=ord→acc.length=j→st.fit→
  (Dn prog).code (.loop ni) ⟨[(6,x6),(7,.ptr 2 0),(8,.ptr 3 0),(10,IR),(11,.ptr 4 0),(12,.d y12),(13,x13),(15,.d y15),(16,.ptr N 0),(17,.d (.int .i64 nar)),(18,.d (.int .i64 sz)),(32,.d y32),(33,.d y33),(46,.d y46),(47,.d y47),(80,.d (.int .i64 ord)),(81,.d (.int .i64 j))],⟨HT b st [(4,SZ),(N,.cells [a0,a1,a2,a3,ah 1 (am acc)])],M⟩⟩ =
  some (.exit 4,⟨[(6,x6),(7,.ptr 2 0),(8,.ptr 3 0),(10,IR),(11,.ptr 4 0),(12,.d y12),(13,x13),(15,.d y15),(16,.ptr N 0),(17,.d (.int .i64 nar)),(18,.d (.int .i64 sz)),(32,.d y32),(33,.d y33),(46,.d y46),(47,.d y47)],⟨HT b (oK b sz k st) [(4,SZ),(N,.cells [a0,a1,a2,a3,ah 1 (am (acc++qU b sz k st))])],M⟩⟩):=by
 obtain⟨n0,n2,n3,n4⟩:N≠0∧N≠2∧N≠3∧N≠4:=by omega
 intro k
 induction k with
 | zero =>
  intro j st acc h1 h2 h3;rw[ac BY,qU,oK,List.append_nil];simp (maxSteps:=300000) (disch:=omega) [↓if_pos,↓if_neg]
 | succ k ih =>
  intro j st acc h1 h2 h3;have hg:=wz b sz st [(4,SZ),(N,.cells [a0,a1,a2,a3,ah 1 (am acc)])] M hb h3;have hv:=oN (b:=b) (st:=st) (s:=sz);have h5:=ih (j+1) (sN b st sz) (acc++[Iz (sV b st sz) sz]) (by omega) (by simp;omega) (c7 hb h3);have c1:((j+1:Nat):Int)=(j:Int)+1:=rfl;have c2:((sz-1:Nat):Int)=(sz:Int)-1:=by omega
  have hla:=mM (l:=acc);simp only[Int.toNat_natCast]at hv;have hp:2 ^ (sz-1)*2=2 ^ sz:=by rw[←Nat.pow_succ];congr 1;omega
  have hp0:=Nat.two_pow_pos (sz-1);have hq:sV b st sz / 2 ^ (sz-1)≤1:=by
   have:sV b st sz / 2 ^ (sz-1)<2:=(Nat.div_lt_iff_lt_mul hp0).2 (by omega);omega
  have hp4:2 ^ sz≤2 ^ 4:=Nat.pow_le_pow_right (by omega) hsz.2;have w1:=ai5 (n:=sV b st sz) (k:=sz-1) (by omega);have w2:=avW hq hsz.2;rw[c2]at w1;have hcf:Iz (sV b st sz) sz=(sV b st sz:Int)-((sV b st sz / 2 ^ (sz-1)*2 ^ sz:Nat):Int):=rfl;have hqq:sV b st sz / 2 ^ (sz-1)*2 ^ sz≤16:=by
   have:=Nat.mul_le_mul hq hp4;omega
  rw[c1,List.append_assoc,PS,gp]at h5;simp only[HT]at hg h5⊢;rw[ac BY,qU,oK,show acc++Iz (sV b st sz) sz::qU b sz k (sN b st sz)=acc++([Iz (sV b st sz) sz]++qU b sz k (sN b st sz)) from rfl,←h5,hcf];clear h5 ih;generalize sV b st sz / 2 ^ (sz-1)*2 ^ sz=Q2 at *;generalize sV b st sz / 2 ^ (sz-1)=Q at *;simp (maxSteps:=300000) (disch:=omega) [↓if_pos,↓if_neg,n0,n2,n3,n4,hg,-En,-Bo,w1,w2]
def Ap (l:List Int) (s:Nat):Bool:=decide (∀ c∈l,-((2 ^ (s-1):Nat):Int)≤c∧c<((2 ^ (s-1):Nat):Int))
def lU (b:List Nat) (x1 x2:Nat) (st:RS):Nat:=sV b (sN b st x1) x2
def sn (b:List Nat) (x1 x2:Nat) (st:RS):RS:=sN b (sN b st x1) x2
def flD (b:List Nat) (x1 x2:Nat) (st:RS):Nat:=sV b (sn b x1 x2 st) 1
def zU (b:List Nat) (x1 x2:Nat) (st:RS):Nat:=sV b (sN b (sn b x1 x2 st) 1) 1
def Ho (b:List Nat) (x1 x2:Nat) (st:RS):RS:=sN b (sN b (sn b x1 x2 st) 1) 1
def Ce (b:List Nat) (x1 x2:Nat) (fine:Bool) (st:RS):Nat:=iu fine-zU b x1 x2 st
def Fh (b:List Nat) (x1 x2:Nat) (fine:Bool) (st:RS):bG :=
 if lU b x1 x2 st=0 then ⟨sV b st x1,0,false,fine,[]⟩
 else ⟨sV b st x1,lU b x1 x2 st,decide (flD b x1 x2 st=1),fine,qU b (Ce b x1 x2 fine st) (lU b x1 x2 st) (Ho b x1 x2 st)⟩
def Dj (b:List Nat) (x1 x2:Nat) (fine:Bool) (st:RS):Bool :=
 if lU b x1 x2 st=0 then false else decide (zU b x1 x2 st=0) && Ap (qU b (Ce b x1 x2 fine st) (lU b x1 x2 st) (Ho b x1 x2 st)) (Ce b x1 x2 fine st-1)
def q9 (b:List Nat) (x1 x2:Nat) (fine:Bool) (st:RS):RS :=
 if lU b x1 x2 st=0 then sn b x1 x2 st else oK b (Ce b x1 x2 fine st) (lU b x1 x2 st) (Ho b x1 x2 st)
def dU (b:List Nat) (x1 x2:Nat) (fine:Bool):Nat→Bool→RS→Option (List bG×Bool×RS)
 | 0,o,st=>some ([],o,st)
 | k+1,o,st=>if 12<lU b x1 x2 st∧(sn b x1 x2 st).e=0 then none
  else match dU b x1 x2 fine k (o || Dj b x1 x2 fine st) (q9 b x1 x2 fine st) with
   | none=>none
   | some q=>some (Fh b x1 x2 fine st::q.1,q.2)
theorem ana {b:List Nat}{x1 x2:Nat}{fine:Bool}{st:RS}(hb:b.length≤1000000000) (h:st.fit):(q9 b x1 x2 fine st).fit:=by
 unfold q9;split
 ·exact c7 hb (c7 hb h)
 ·exact TK hb (c7 hb (c7 hb (c7 hb (c7 hb h))))
theorem aqe {b:List Nat}{st:RS}{s:Int}(h:sV b st s≠0):(sN b st s).e=0:=by
 unfold sV at h;unfold sN;split at h
 ·rename_i he;rw[if_pos he];unfold vO at h;unfold eO;split at h
  ·rename_i v n hg;simp only[hg]
  ·exact absurd rfl h
 ·exact absurd rfl h
abbrev Mu (y0 y3 y4:AV) (x1 x2:Nat):Obj:=.cells [y0,.d (.int .i64 x1),.d (.int .i64 x2),y3,y4]
theorem Ul {t:List bG}{f:bG}:kz (t++[f])=kz t++[[.int .i64 f.len,.int .i64 f.order,.bool f.down,.bool f.fine,.lst (am f.coefs)]]:=by simp[kz,bG.cells]
theorem aot (b:List Nat) (hb:b.length≤1000000000) (y0 y3 y4:AV) (x1 x2:Nat) (hx:x1≤6∧x2≤5) (x6:AV) (fine:Bool) (y32 y33:D) (many:Nat) (hm:many≤3):∀ (k j N:Nat) (o:Bool) (st:RS) (acc:List bG),j+k=many→acc.length=j→st.fit→5≤N→
  ∃ M,N≤M∧(Dn prog).code (.loop dQ) ⟨[(6,x6),(7,.ptr 2 0),(8,.ptr 3 0),(10,IR),(11,.ptr 4 0),(12,.d (.bool o)),(13,ah 5 (kz acc)),(15,.d (.bool fine)),(32,.d y32),(33,.d y33),(46,.d (.int .i64 many)),(47,.d (.int .i64 j))],⟨HT b st [(4,Mu y0 y3 y4 x1 x2)],N⟩⟩ =
  match dU b x1 x2 fine k o st with
  | none=>some (.ret,⟨[(6,.nl),(7,.ptr 2 0),(8,.ptr 3 0)],⟨[(0,.cells [.d (.lst (ae b))]),(2,.cells [.d (.int .i64 0)]),(3,.cells [.d (.int .i64 8)])],M⟩⟩)
  | some (l,o2,st2)=>some (.exit 2,⟨[(6,x6),(7,.ptr 2 0),(8,.ptr 3 0),(10,IR),(11,.ptr 4 0),(12,.d (.bool o2)),(13,ah 5 (kz (acc++l))),(32,.d y32),(33,.d y33)],⟨HT b st2 [(4,Mu y0 y3 y4 x1 x2)],M⟩⟩):=by
 intro k
 induction k with
 | zero =>
  intro j N o st acc h1 h2 h3 hN;refine⟨N,Nat.le_refl _,?_⟩;rw[ac mY,dU];simp only[List.append_nil];simp (maxSteps:=300000) (disch:=omega) [↓if_pos,↓if_neg]
 | succ k ih =>
  intro j N o st acc h1 h2 h3 hN;obtain⟨n0,n2,n3,n4⟩:N≠0∧N≠2∧N≠3∧N≠4:=by omega
  have f1:=c7 (s:=x1) hb h3;have f2:=c7 (s:=x2) hb f1;have f3:=c7 (s:=1) hb f2;have f4:=c7 (s:=1) hb f3;have g1:=fun R N=>wz b x1 st R N hb h3
  have g2:=fun R N=>wz b x2 (sN b st x1) R N hb f1
  have g3:=fun R N=>wz b 1 (sN b (sN b st x1) x2) R N hb f2
  have g4:=fun R N=>wz b 1 (sN b (sN b (sN b st x1) x2) 1) R N hb f3
  have v1:=oN (b:=b) (st:=st) (s:=x1);have v2:=oN (b:=b) (st:=sN b st x1) (s:=x2);have v3:=oN (b:=b) (st:=sN b (sN b st x1) x2) (s:=1);have v4:=oN (b:=b) (st:=sN b (sN b (sN b st x1) x2) 1) (s:=1);have k1:2 ^ x1≤2 ^ 6:=Nat.pow_le_pow_right (by omega) hx.1;have k2:2 ^ x2≤2 ^ 5:=Nat.pow_le_pow_right (by omega) hx.2;have t1:(1:Int).toNat=1:=rfl;simp only[Int.toNat_natCast,t1]at v1 v2 v3 v4;have hO:lU b x1 x2 st=sV b (sN b st x1) x2:=rfl;have hS:sn b x1 x2 st=sN b (sN b st x1) x2:=rfl;have c1:((j+1:Nat):Int)=(j:Int)+1:=rfl;have hla:=ajk (l:=acc);rw[dU,hO,hS];simp only[HT]at g1 g2 g3 g4;by_cases hbad:12<sV b (sN b st x1) x2∧(sN b (sN b st x1) x2).e=0
  ·rw[if_pos hbad];obtain⟨hb1,hb2⟩:=hbad;have hre:re (sN b (sN b st x1) x2)=0:=hb2;refine⟨N+1,by omega,?_⟩;simp only[HT];rw[ac mY];simp (maxSteps:=300000) (disch:=omega) [↓if_pos,↓if_neg,n0,n2,n3,n4,g1,g2,hre]
  ·rw[if_neg hbad];by_cases hO0:sV b (sN b st x1) x2=0
   ·have eF:Fh b x1 x2 fine st=⟨sV b st x1,0,false,fine,[]⟩:=by rw[Fh,if_pos (by rw[hO];exact hO0)]
    have eX:Dj b x1 x2 fine st=false:=by rw[Dj,if_pos (by rw[hO];exact hO0)]
    have eN:q9 b x1 x2 fine st=sN b (sN b st x1) x2:=by rw[q9,if_pos (by rw[hO];exact hO0)];rfl
    rw[eF,eX,eN,Bool.or_false];obtain⟨M,hM,h5⟩:=ih (j+1) (N+1) o (sN b (sN b st x1) x2) (acc++[⟨sV b st x1,0,false,fine,[]⟩]) (by omega) (by simp;omega) f2 (by omega);refine⟨M,by omega,?_⟩;have key:(Dn prog).code (.loop dQ) ⟨[(6,x6),(7,.ptr 2 0),(8,.ptr 3 0),(10,IR),(11,.ptr 4 0),(12,.d (.bool o)),(13,ah 5 (kz acc)),(15,.d (.bool fine)),(32,.d y32),(33,.d y33),(46,.d (.int .i64 many)),(47,.d (.int .i64 j))],⟨HT b st [(4,Mu y0 y3 y4 x1 x2)],N⟩⟩ =
      (Dn prog).code (.loop dQ) ⟨[(6,x6),(7,.ptr 2 0),(8,.ptr 3 0),(10,IR),(11,.ptr 4 0),(12,.d (.bool o)),(13,ah 5 (kz (acc++[⟨sV b st x1,0,false,fine,[]⟩]))),(15,.d (.bool fine)),(32,.d y32),(33,.d y33),(46,.d (.int .i64 many)),(47,.d (.int .i64 ((j+1:Nat):Int)))],⟨HT b (sN b (sN b st x1) x2) [(4,Mu y0 y3 y4 x1 x2)],N+1⟩⟩:=by
     have n00:am []=[]:=rfl;simp only[HT,c1,Ul,gp,n00];clear h5 ih;rw[ac mY];simp (maxSteps:=300000) (disch:=omega) [↓if_pos,↓if_neg,n0,n2,n3,n4,g1,g2,hO0]
    rw[key,h5]
    cases dU b x1 x2 fine k o (sN b (sN b st x1) x2) with
    | none=>rfl
    | some q =>
     obtain⟨l,o2,st2⟩:=q;simp only[List.append_assoc,List.cons_append,List.nil_append]
   ·have he:(sN b (sN b st x1) x2).e=0:=aqe hO0;have hO12:sV b (sN b st x1) x2≤12:=by
     rcases Nat.lt_or_ge 12 (sV b (sN b st x1) x2) with h | h
     ·exact absurd ⟨h,he⟩ hbad
     ·exact h
    have hre:re (sN b (sN b st x1) x2)=0:=he;have hw4:3≤iu fine∧iu fine≤4:=by unfold iu;split<;>omega
    have hwide:aS prog xu [.d (.bool fine)]=some (.d (.int .i64 ((iu fine:Nat):Int))):=by rw[X7];unfold iu;cases fine<;>rfl
    obtain⟨W,hW⟩:∃ W,W=sV b (sN b (sN b (sN b st x1) x2) 1) 1:=⟨_,rfl⟩
    obtain⟨Dd,hDd⟩:∃ Dd,Dd=sV b (sN b (sN b st x1) x2) 1:=⟨_,rfl⟩
    obtain⟨T4,hT4⟩:∃ T4,T4=sN b (sN b (sN b (sN b st x1) x2) 1) 1:=⟨_,rfl⟩
    obtain⟨sz,hsz⟩:∃ sz,sz=iu fine-W:=⟨_,rfl⟩
    rw[←hW]at v4 g4;rw[←hDd]at v3 g3;rw[←hT4]at g4 f4;have c00:((0:Nat):Int)=0:=rfl;simp only[hre,c00]at g3;have hszI:((iu fine:Nat):Int)-(W:Int)=(sz:Int):=by omega
    have hsz1:(sz:Int)-1=((sz-1:Nat):Int):=by omega
    have hne:lU b x1 x2 st≠0:=by rw[hO];exact hO0
    have eF:Fh b x1 x2 fine st=⟨sV b st x1,sV b (sN b st x1) x2,decide (Dd=1),fine,qU b sz (sV b (sN b st x1) x2) T4⟩:=by
     rw[Fh,if_neg hne,Ce,zU,Ho,flD,hS,hO,←hW,←hDd,←hT4,←hsz]
    have eX:Dj b x1 x2 fine st=(decide (W=0) && Ap (qU b sz (sV b (sN b st x1) x2) T4) (sz-1)):=by
     rw[Dj,if_neg hne,Ce,zU,Ho,hS,hO,←hW,←hT4,←hsz]
    have eN:q9 b x1 x2 fine st=oK b sz (sV b (sN b st x1) x2) T4:=by
     rw[q9,if_neg hne,Ce,zU,Ho,hS,hO,←hW,←hT4,←hsz]
    have f5:(oK b sz (sV b (sN b st x1) x2) T4).fit:=TK hb f4;have hcl:=S5 (b:=b) (sz:=sz) (k:=sV b (sN b st x1) x2) (st:=T4);have hL0:=fun a0 a2 y46 y47 N M hN=>anm b hb (Mu y0 y3 y4 x1 x2) a0 (.d (.int .i64 (sV b (sN b st x1) x2))) a2 (.d (.bool fine)) x6 (ah 5 (kz acc)) (.bool o) (.bool fine) y32 y33 y46 y47 W sz (sV b (sN b st x1) x2) N M (by omega) (by omega) hN (sV b (sN b st x1) x2) 0 T4 [] (by omega) rfl f4
    have n00:am []=[]:=rfl;have c0:((0:Nat):Int)=0:=rfl;simp only[n00,lk,List.nil_append,c0,HT]at hL0;have hDec:decide ((Dd:Int)=1)=decide (Dd=1):=by rw[decide_eq_decide];omega
    rw[eF,eX,eN];generalize sV b (sN b st x1) x2=O at *;obtain⟨CS,hCS⟩:∃ CS,CS=qU b sz O T4:=⟨_,rfl⟩
    rw[←hCS]at hL0 hcl;rw[←hCS];obtain⟨M,hM,h5⟩:=ih (j+1) (N+1) (o || (decide (W=0) && Ap CS (sz-1))) (oK b sz O T4) (acc++[⟨sV b st x1,O,decide (Dd=1),fine,CS⟩]) (by omega) (by simp;omega) f5 (by omega);refine⟨M,by omega,?_⟩;have hshare:share (ah 1 (am CS))=.d (.lst (am CS)):=by
     cases CS with
     | nil=>simp at hcl;omega
     | cons x r=>rfl
    have key:(Dn prog).code (.loop dQ) ⟨[(6,x6),(7,.ptr 2 0),(8,.ptr 3 0),(10,IR),(11,.ptr 4 0),(12,.d (.bool o)),(13,ah 5 (kz acc)),(15,.d (.bool fine)),(32,.d y32),(33,.d y33),(46,.d (.int .i64 many)),(47,.d (.int .i64 j))],⟨HT b st [(4,Mu y0 y3 y4 x1 x2)],N⟩⟩ =
      (Dn prog).code (.loop dQ) ⟨[(6,x6),(7,.ptr 2 0),(8,.ptr 3 0),(10,IR),(11,.ptr 4 0),(12,.d (.bool (o || (decide (W=0) && Ap CS (sz-1))))),(13,ah 5 (kz (acc++[⟨sV b st x1,O,decide (Dd=1),fine,CS⟩]))),(15,.d (.bool fine)),(32,.d y32),(33,.d y33),(46,.d (.int .i64 many)),(47,.d (.int .i64 ((j+1:Nat):Int)))],⟨HT b (oK b sz O T4) [(4,Mu y0 y3 y4 x1 x2)],N+1⟩⟩:=by
     simp only[HT,c1,Ul,gp];clear h5 ih;have hfit:=abt CS (by omega) (sz-1) (by omega);have hfit2:aS prog yZ [.d (.lst (am CS)),.d (.int .i64 ((sz-1:Nat):Int))]=some (.d (.bool (Ap CS (sz-1)))):=hfit;rw[ac mY];obtain⟨B1,hB1⟩:∃ B1,B1=decide (Dd=1):=⟨_,rfl⟩
     rw[←hB1]
     cases o with
     | true =>
      by_cases hD1:Dd=1
      ·rw[hB1,decide_eq_true hD1];simp (maxSteps:=300000) (disch:=omega) [↓if_pos,↓if_neg,n0,n2,n3,n4,g1,g2,g3,g4,hre,hwide,hszI,hL0]
      ·rw[hB1,decide_eq_false hD1];simp (maxSteps:=300000) (disch:=omega) [↓if_pos,↓if_neg,n0,n2,n3,n4,g1,g2,g3,g4,hre,hwide,hszI,hL0]
     | false =>
      by_cases hW0:W=0
      ·rw[decide_eq_true hW0];by_cases hD1:Dd=1
       ·rw[hB1,decide_eq_true hD1];simp (maxSteps:=300000) (disch:=omega) [↓if_pos,↓if_neg,n0,n2,n3,n4,g1,g2,g3,g4,hre,hwide,hszI,hL0,hshare,hsz1,hfit2]
       ·rw[hB1,decide_eq_false hD1];simp (maxSteps:=300000) (disch:=omega) [↓if_pos,↓if_neg,n0,n2,n3,n4,g1,g2,g3,g4,hre,hwide,hszI,hL0,hshare,hsz1,hfit2]
      ·rw[decide_eq_false hW0];by_cases hD1:Dd=1
       ·rw[hB1,decide_eq_true hD1];simp (maxSteps:=300000) (disch:=omega) [↓if_pos,↓if_neg,n0,n2,n3,n4,g1,g2,g3,g4,hre,hwide,hszI,hL0]
       ·rw[hB1,decide_eq_false hD1];simp (maxSteps:=300000) (disch:=omega) [↓if_pos,↓if_neg,n0,n2,n3,n4,g1,g2,g3,g4,hre,hwide,hszI,hL0]
    rw[key,h5]
    cases dU b x1 x2 fine k (o || (decide (W=0) && Ap CS (sz-1))) (oK b sz O T4) with
    | none=>rfl
    | some q =>
     obtain⟨l,o2,st2⟩:=q;simp only[List.append_assoc,List.cons_append,List.nil_append]
def IU (b:List Nat) (x0:Nat) (st:RS):Bool:=decide (0<sV b st x0) && decide (sV b (sN b st x0) 1=1)
def wc (b:List Nat) (x0:Nat) (st:RS):RS:=if 0<sV b st x0 then sN b (sN b st x0) 1 else sN b st x0
def kw (b:List Nat) (x0 x1 x2:Nat):Nat→Bool→RS→Option (List (List bG)×Bool×RS)
 | 0,o,st=>some ([],o,st)
 | k+1,o,st=>match dU b x1 x2 (IU b x0 st) (sV b st x0) o (wc b x0 st) with
  | none=>none
  | some q=>match kw b x0 x1 x2 k q.2.1 q.2.2 with
   | none=>none
   | some w=>some (q.1::w.1,w.2)
theorem ads {t:List (List bG)}{l:List bG}:bt (t++[l])=bt t++[[.lst (kz l)]]:=by simp[bt]
theorem acp {b:List Nat}{x0:Nat}{st:RS}(hb:b.length≤1000000000) (h:st.fit):(wc b x0 st).fit:=by
 unfold wc;split
 ·exact c7 hb (c7 hb h)
 ·exact c7 hb h
theorem NA {b:List Nat}{x1 x2:Nat}{fine:Bool}(hb:b.length≤1000000000):∀ {k:Nat}{o:Bool}{st:RS}{l:List bG}{o2:Bool}{st2:RS},st.fit→dU b x1 x2 fine k o st=some (l,o2,st2)→st2.fit∧l.length=k
 | 0,o,st,l,o2,st2,h,e=>by
  rw[dU]at e;injection e with e
  injection e with e1 e
  injection e with e2 e3
  subst e1 e3;exact⟨h,rfl⟩
 | k+1,o,st,l,o2,st2,h,e=>by
  rw[dU]at e;split at e
  ·exact absurd e (by simp)
  ·cases hq:dU b x1 x2 fine k (o || Dj b x1 x2 fine st) (q9 b x1 x2 fine st) with
   | none=>rw[hq]at e;exact absurd e (by simp)
   | some q =>
    obtain⟨q1,q2,q3⟩:=q;rw[hq]at e;injection e with e
    injection e with e1 e
    injection e with e2 e3
    obtain⟨i1,i2⟩:=NA hb (ana hb h) hq;subst e1 e3;exact⟨i1,by simp[i2]⟩
theorem aol (b:List Nat) (hb:b.length≤1000000000) (y3 y4:AV) (x0 x1 x2:Nat) (hx:x0≤2∧x1≤6∧x2≤5) (many:Nat) (hm:many≤8):∀ (k j N:Nat) (o:Bool) (st:RS) (acc:List (List bG)),j+k=many→acc.length=j→st.fit→5≤N→
  ∃ M,N≤M∧(Dn prog).code (.loop gW) ⟨[(6,ah 1 (bt acc)),(7,.ptr 2 0),(8,.ptr 3 0),(10,IR),(11,.ptr 4 0),(12,.d (.bool o)),(32,.d (.int .i64 many)),(33,.d (.int .i64 j))],⟨HT b st [(4,Mu (.d (.int .i64 x0)) y3 y4 x1 x2)],N⟩⟩ =
  match kw b x0 x1 x2 k o st with
  | none=>some (.ret,⟨[(6,.nl),(7,.ptr 2 0),(8,.ptr 3 0)],⟨[(0,.cells [.d (.lst (ae b))]),(2,.cells [.d (.int .i64 0)]),(3,.cells [.d (.int .i64 8)])],M⟩⟩)
  | some (t,o2,st2)=>some (.exit 0,⟨[(6,ah 1 (bt (acc++t))),(7,.ptr 2 0),(8,.ptr 3 0),(12,.d (.bool o2))],⟨HT b st2 [],M⟩⟩):=by
 intro k
 induction k with
 | zero =>
  intro j N o st acc h1 h2 h3 hN;refine⟨N,Nat.le_refl _,?_⟩;rw[ac tu,kw];simp only[List.append_nil];simp (maxSteps:=300000) (disch:=omega) [↓if_pos,↓if_neg]
 | succ k ih =>
  intro j N o st acc h1 h2 h3 hN;have f1:=c7 (s:=x0) hb h3;have g1:=fun R N=>wz b x0 st R N hb h3
  have g2:=fun R N=>wz b 1 (sN b st x0) R N hb f1
  have v1:=oN (b:=b) (st:=st) (s:=x0);have v2:=oN (b:=b) (st:=sN b st x0) (s:=1);have k1:2 ^ x0≤2 ^ 2:=Nat.pow_le_pow_right (by omega) hx.1;have t1:(1:Int).toNat=1:=rfl;simp only[Int.toNat_natCast,t1]at v1 v2;have c1:((j+1:Nat):Int)=(j:Int)+1:=rfl;have c0:((0:Nat):Int)=0:=rfl;have n00:kz []=[]:=rfl;have hla:=U5 (t:=acc);have hfs:=acp (x0:=x0) hb h3;obtain⟨M1,hM1,hL1⟩:=aot b hb (.d (.int .i64 x0)) y3 y4 x1 x2 hx.2 (ah 1 (bt acc)) (IU b x0 st) (.int .i64 many) (.int .i64 j) (sV b st x0) (by omega) (sV b st x0) 0 N o (wc b x0 st) [] (by omega) rfl hfs hN;have hF:IU b x0 st=(decide (0<sV b st x0) && decide (sV b (sN b st x0) 1=1)):=rfl;have hS:wc b x0 st=if 0<sV b st x0 then sN b (sN b st x0) 1 else sN b st x0:=rfl
  rw[kw];simp only[HT,c0,n00,lk,List.nil_append]at g1 g2 hL1
  cases hfl:dU b x1 x2 (IU b x0 st) (sV b st x0) o (wc b x0 st) with
  | none =>
   rw[hfl]at hL1;refine⟨M1,hM1,?_⟩;simp only[HT];rw[ac tu];rw[hF,hS]at hL1;by_cases hp:0<sV b st x0
   ·rw[if_pos hp,decide_eq_true hp,Bool.true_and]at hL1;by_cases hd:sV b (sN b st x0) 1=1
    ·rw[decide_eq_true hd]at hL1;simp (maxSteps:=300000) (disch:=omega) [↓if_pos,↓if_neg,g1,g2,hL1]
    ·rw[decide_eq_false hd]at hL1;simp (maxSteps:=300000) (disch:=omega) [↓if_pos,↓if_neg,g1,g2,hL1]
   ·have h0:sV b st x0=0:=by omega
    rw[if_neg hp,decide_eq_false hp,Bool.false_and,h0,c0]at hL1;simp (maxSteps:=300000) (disch:=omega) [↓if_pos,↓if_neg,g1,g2,h0,hL1]
  | some q =>
   obtain⟨l,o2,st2⟩:=q;rw[hfl]at hL1;obtain⟨i1,i2⟩:=NA hb hfs hfl;obtain⟨M,hM,h5⟩:=ih (j+1) M1 o2 st2 (acc++[l]) (by omega) (by simp;omega) i1 (by omega);refine⟨M,by omega,?_⟩;have key:(Dn prog).code (.loop gW) ⟨[(6,ah 1 (bt acc)),(7,.ptr 2 0),(8,.ptr 3 0),(10,IR),(11,.ptr 4 0),(12,.d (.bool o)),(32,.d (.int .i64 many)),(33,.d (.int .i64 j))],⟨HT b st [(4,Mu (.d (.int .i64 x0)) y3 y4 x1 x2)],N⟩⟩ =
     (Dn prog).code (.loop gW) ⟨[(6,ah 1 (bt (acc++[l]))),(7,.ptr 2 0),(8,.ptr 3 0),(10,IR),(11,.ptr 4 0),(12,.d (.bool o2)),(32,.d (.int .i64 many)),(33,.d (.int .i64 ((j+1:Nat):Int)))],⟨HT b st2 [(4,Mu (.d (.int .i64 x0)) y3 y4 x1 x2)],M1⟩⟩:=by
    simp only[HT,c1,ads,gp];clear h5 ih;rw[hF,hS]at hL1;rw[ac tu];by_cases hp:0<sV b st x0
    ·rw[if_pos hp,decide_eq_true hp,Bool.true_and]at hL1;by_cases hd:sV b (sN b st x0) 1=1
     ·rw[decide_eq_true hd]at hL1;simp (maxSteps:=300000) (disch:=omega) [↓if_pos,↓if_neg,g1,g2,hL1]
     ·rw[decide_eq_false hd]at hL1;simp (maxSteps:=300000) (disch:=omega) [↓if_pos,↓if_neg,g1,g2,hL1]
    ·have h0:sV b st x0=0:=by omega
     rw[if_neg hp,decide_eq_false hp,Bool.false_and,h0,c0]at hL1;simp (maxSteps:=300000) (disch:=omega) [↓if_pos,↓if_neg,g1,g2,h0,hL1]
   rw[key,h5];simp only
   cases kw b x0 x1 x2 k o2 st2 with
   | none=>rfl
   | some w =>
    obtain⟨t,o3,st3⟩:=w;simp only[List.append_assoc,List.cons_append,List.nil_append]
attribute [simp ↓ high] ak3 anV
def roC:AV→Bool
 | .d _=>true
 | .nl=>true
 | .own _ _ _=>true
 | _=>false
@[simp] theorem ayU {x:D}:roC (.d x)=true:=rfl
theorem Nb:∀ (b:List Nat),ov (ae b)=some (b.map Nat.toUInt8)
 | []=>rfl
 | n::r=>by
  have h:ae (n::r)=[.int .u8 (.ofNat n)]::ae r:=rfl;rw[h,ov,Nb r,List.map_cons]
@[simp] theorem afb {h:af}{b:List Nat}:EX h (.d (.lst (ae b)))=some (.str (b.map Nat.toUInt8)):=by
 simp only[EX,Va,Nb]
def c0:fb:=⟨0,⟨0,0,0,[1]⟩,[[]],[[]],[[]],List.replicate 256 0⟩
abbrev fb.cells (c:fb):List D:=[.int .i64 c.gain,.int .u8 c.info.seq,.int .u8 c.info.shape,.int .i64 c.info.max,.lst (am c.info.groups),.lst (aM c.sects),.lst (bO c.steps),.lst (bt c.tns),.lst (am c.lines)]
def c4 (l:List fb):List (List D):=l.map fb.cells
@[simp] theorem Y5 {l:List fb}:(c4 l).length=l.length:=by simp[c4]
theorem aiS {g:List fb}{i:Nat}{c:fb}{r:List fb}(h:g.drop i=c::r):(c4 g)[i]?=some [.int .i64 c.gain,.int .u8 c.info.seq,.int .u8 c.info.shape,.int .i64 c.info.max,.lst (am c.info.groups),.lst (aM c.sects),.lst (bO c.steps),.lst (bt c.tns),.lst (am c.lines)]:=by
 have:=congrArg (fun l=>l[0]?) h;simp only[List.getElem?_drop,Nat.add_zero,List.getElem?_cons_zero]at this;rw[c4,List.getElem?_map,this];rfl
theorem agG {g:List fb}{c:fb}:c4 (g++[c])=c4 g++[[.int .i64 c.gain,.int .u8 c.info.seq,.int .u8 c.info.shape,.int .i64 c.info.max,.lst (am c.info.groups),.lst (aM c.sects),.lst (bO c.steps),.lst (bt c.tns),.lst (am c.lines)]]:=by simp[c4]
def kJ (l:List Bool):List (List D):=l.map fun b=>[.bool b]
@[simp] theorem JZ {l:List Bool}:(kJ l).length=l.length:=by simp[kJ]
theorem amo {g:List Bool}{i:Nat}{c:Bool}{r:List Bool}(h:g.drop i=c::r):(kJ g)[i]?=some [.bool c]:=by
 have:=congrArg (fun l=>l[0]?) h;simp only[List.getElem?_drop,Nat.add_zero,List.getElem?_cons_zero]at this;rw[kJ,List.getElem?_map,this];rfl
def bT (t:List (List Bool)):List (List D):=t.map fun l=>[.lst (kJ l)]
@[simp] theorem Yh {t:List (List Bool)}:(bT t).length=t.length:=by simp[bT]
theorem Yj {g:List (List Bool)}{i:Nat}{l:List Bool}{r:List (List Bool)}(h:g.drop i=l::r):(bT g)[i]?=some [.lst (kJ l)]:=by
 have:=congrArg (fun l=>l[0]?) h;simp only[List.getElem?_drop,Nat.add_zero,List.getElem?_cons_zero]at this;rw[bT,List.getElem?_map,this];rfl
theorem af2 {t:List (List Bool)}{l:List Bool}:bT (t++[l])=bT t++[[.lst (kJ l)]]:=by simp[bT]
structure gb where
 chans:List fb
 common:Bool
 mask:Int
 bands:List (List Bool)
 fill:List Nat
structure gb.Fit (f:gb):Prop where
 chans:f.chans.length≤1000∧∀ c∈f.chans,c.Fit
 mask:i64 f.mask
 bands:f.bands.length≤1000∧∀ l∈f.bands,l.length≤1000
 fill:f.fill.length≤100000
 fillI:∀ n∈f.fill,n≤255
abbrev gb.av (f:gb):List AV:=[.d (.lst (c4 f.chans)),.d (.bool f.common),.d (.int .i64 f.mask),.d (.lst (bT f.bands)),.d (.lst (ae f.fill))]
structure ars (f:gb):Prop where
 chans:f.chans.length≤10∧∀ c∈f.chans,alt c
 bands:f.bands.length≤40∧∀ l∈f.bands,l.length≤200
 fill:f.fill.length≤2000
def al6 (i j:az):Prop:=(i.seq=j.seq∧i.shape=j.shape)∧i.max=j.max∧i.groups=j.groups
instance {i j:az}:Decidable (al6 i j):=inferInstanceAs (Decidable (_∧_))
def ck (x:AV) (l:List (List D)):Prop:=x=.d (.lst l)∨x=.nl∧l=[]
theorem ck.d {l:List (List D)}:ck (.d (.lst l)) l:=.inl rfl
theorem ck.facts {x:AV}{l:List (List D)}(h:ck x l):(share x=x∧firm x=x∧AV.cells x=[x])∧aV x=true∧lenOf x=some l.length:=by
 rcases h with rfl | ⟨rfl,rfl⟩<;>exact⟨⟨rfl,rfl,rfl⟩,rfl,rfl⟩
theorem ck.ne {x:AV}{l:List (List D)}(h:ck x l) (hl:l≠[]):x=.d (.lst l):=by
 rcases h with h | ⟨_,h⟩
 ·exact h
 ·exact absurd h hl
def aqw (f:gb):List fb→Prop
 | []=>False
 | c::r=>if f.common then (∃ d∈r.head?,al6 c.info d.info)∧(if f.mask=1 then f.bands.length=c.info.groups.length∧∀ l∈f.bands,(l.length:Int)=c.info.max else f.bands=[]) else f.mask=0∧f.bands=[]
structure aq4 (rt:Nat) (n:Int) (f:gb):Prop where
 len:(f.chans.length:Int)=n
 fill:f.fill.length≤269
 mask:0≤f.mask∧f.mask≤2
 may:∀ c∈f.chans,ajP rt c
 rest:aqw f f.chans
abbrev fQ (rt n:Int) (b:Bool) (z:Int):AV:=.agg [.d (.int .i64 rt),.d (.int .i64 n),.d (.bool b),.d (.int .i64 z)]
abbrev frA (f:gb) (X Y Z:AV):AV:=.agg [X,.d (.bool f.common),.d (.int .i64 f.mask),Y,Z]
def bJ (l:List Nat):List Nat:=l.flatMap fun n=>aF n 8
theorem tB:∀ {l:List Nat},(bJ l).length=8*l.length
 | []=>rfl
 | n::r=>by have:=tB (l:=r);rw[bJ]at this⊢;rw[List.flatMap_cons,List.length_append,ti,List.length_cons];omega
abbrev avG (l:List Nat) (i:Int) (N:Nat):aq:=[(4,.ptr 0 0),(15,.d (.lst (ae l))),(16,.d (.int .i64 l.length)),(17,.d (.int .i64 i)),(23,.fn kF [] [.ptr (N+1) 0,.ptr N 0])]
abbrev hp8 (l:List Nat) (i n:Int) (N:Nat) (b:List Nat):af:=[(0,.cells [.own false 1 (ae b)]),(N,.cells [.d (.int .i64 n)]),(N+1,.cells [.d (.int .i64 8)]),(N+2,.loop (avG l i N) [24] na ng false none)]
theorem au5 (l:List Nat) (i n:Int) (N:Nat) (hN:1≤N) (b:List Nat) (x:Nat) (hb:b.length≤800000000) :
  bD (Dn prog) (.yield (N+2)) [.d (.int .u8 (x:Int))] ⟨hp8 l i n N b,N+2+1⟩=some (.d (.bool true),⟨hp8 l i n N (b++[x]),N+2+1⟩):=by
 have hl:=ba (l:=b);have n1:N≠0∧N+1≠0∧N+2≠0:=by omega
 simp (maxSteps:=300000) (disch:=omega) [OO,Nt,↓if_pos,↓if_neg]
theorem arg (n k:Int) (c:Obj) (N:Nat) (hN:1≤N):(Dn prog).call Dv [.d (.int .i64 n),.d (.int .i64 k)] ⟨[(0,c)],N⟩=some (.fn kF [] [.ptr (N+1) 0,.ptr N 0],⟨[(0,c),(N,.cells [.d (.int .i64 n)]),(N+1,.cells [.d (.int .i64 k)])],N+1+1⟩):=by
 rw[aN Mo MW rfl];simp (maxSteps:=300000) (disch:=omega) [↓if_pos,↓if_neg]
theorem ac8 {z:List D}{n:Int}(h:0≤n∧n≤1000000000):ya z (.d (.int .i64 0)) (.d (.int .i64 n))=some (.own true z.length []):=by
 obtain⟨n,rfl⟩:=Int.eq_ofNat_of_zero_le h.1;have h1:cB (.d (.int .i64 (n:Int))) aP=some n:=by rw[An (by omega) (by simp only[aP];omega)];simp
 have h2:cB (.d (.int .i64 0)) n=some 0:=An (by omega) (by omega);simp only[ya,h1,h2];rfl
theorem aib (l:List Nat) (hl:l.length≤100000) (hl2:∀ n∈l,n≤255):∀ (r:List Nat) (i N:Nat) (b:List Nat),l.drop i=r→b.length≤8*i→1≤N→
  ∃ M,(Dn prog).code (.loop nf) ⟨[(4,.ptr 0 0),(15,.d (.lst (ae l))),(16,.d (.int .i64 l.length)),(17,.d (.int .i64 i))],⟨[(0,.cells [.own false 1 (ae b)])],N⟩⟩ =
  some (.exit 0,⟨[(4,.ptr 0 0)],⟨[(0,.cells [.own false 1 (ae (b++bJ r))])],M⟩⟩):=by
 intro r
 induction r with
 | nil =>
  intro i N b hd hb hN;have hi:=bn hd;refine⟨N,?_⟩;rw[ac tz];simp (maxSteps:=300000) (disch:=omega) [↓if_pos,↓if_neg,bJ]
 | cons n r ih =>
  intro i N b hd hb hN;have hlt:=bR hd;have hn:=hl2 n (List.mem_of_mem_drop (by rw[hd];exact .head _));have hg:(ae l)[i]?=some [.int .u8 n]:=by
   have:=congrArg (fun l=>l[0]?) hd;simp only[List.getElem?_drop,List.getElem?_cons_zero,Nat.add_zero]at this;rw[ae,List.getElem?_map,this];rfl
  have h1:=agU (hp:=hp8 l i n N) (l:=N+2) (p:=N) (q:=N+1) (N:=N+2+1) (st:=fun s x=>s++[x]) (bX:=fun k s=>s.length+k≤800000000) (fun k s x h=>by simp only[List.length_append,List.length_cons,List.length_nil];omega) n 8 (by omega) (by omega)
   (fun s=>by simp (maxSteps:=300000) (disch:=omega) [↓if_neg,↓if_pos]) (fun s=>by simp (maxSteps:=300000) (disch:=omega) [↓if_neg,↓if_pos]) (fun k s x h _=>au5 l i n N hN s x (by omega)) b (by omega)
  rw[Zi]at h1;obtain⟨M,h5⟩:=ih (i+1) (N+2+1) (b++aF n 8) (cS hd) (by simp;omega) (by omega);refine⟨M,?_⟩;have c1:((i+1:Nat):Int)=(i:Int)+1:=rfl;have e:b++bJ (n::r)=b++aF n 8++bJ r:=by rw[bJ,List.flatMap_cons,List.append_assoc];rfl
  rw[c1]at h5;have n1:N≠0∧N+1≠0∧N+2≠0:=by omega
  rw[ac tz,e,←h5];simp (maxSteps:=300000) (disch:=omega) [↓if_pos,↓if_neg,hg,n1,rd,arg,h1]
theorem DP (l:List Nat) (hl:l.length≤100000) (hl2:∀ n∈l,n≤255) (X:AV) (hX:ck X (ae l)):aS prog yT [X]=some (.tup [.own true 1 (ae (bJ l)),.d (.int .i64 0)]):=by
 have hl3:=ba (l:=l);have n0:ae []=[]:=rfl;have c0:((0:Nat):Int)=0:=rfl;obtain⟨M,h⟩:=aib l hl hl2 l 0 1 [] rfl (by simp) (Nat.le_refl _);rw[c0,n0,List.nil_append]at h;rw[ao Wp V9 rfl];rcases hX with rfl | ⟨rfl,hX⟩
 ·simp (maxSteps:=300000) (disch:=omega) [↓if_pos,↓if_neg,ac8,h]
 ·have:l=[]:=List.eq_nil_of_length_eq_zero (by rw[hX]at hl3;simpa using hl3.symm);subst this;simp (maxSteps:=300000) (disch:=omega) [↓if_pos,↓if_neg,ac8];rw[ac tz];simp (maxSteps:=300000) (disch:=omega) [↓if_pos,↓if_neg,bJ];rfl
def C3 (l:List Bool):List Nat:=l.flatMap fun b=>aF (cond b 1 0) 1
def Xm (rt:Nat) (q:Bool) (l:List fb):List Nat:=l.flatMap fun c=>apZ rt c q
def aiF (n:Nat):Nat:=(8-n % 8) % 8
def awf (b:List Nat):List Nat:=b++List.replicate (aiF b.length) 0
def He (l:List Nat):List Nat:=if l=[] then [] else aF 6 3++(aF (min l.length 15) 4++((if 15≤l.length then aF (l.length-14) 8 else [])++bJ l))
theorem Jq {a b:List Nat}:ae (a++b)=ae a++ae b:=by simp[ae]
def ad8 (f:gb):List Nat:=match f.chans with
 | []=>[]
 | c::_=>F0 c.info
def adB (n:Int) (f:gb):List Nat:=if n=1 then aF 0 3++aF 0 4 else if f.common then aF 1 3++aF 0 4++aF 1 1++ad8 f++aF f.mask.toNat 2++C3 f.bands.flatten else aF 1 3++aF 0 4++aF 0 1
def wrB (R:Nat) (n:Int) (f:gb):List Nat:=awf (adB n f++Xm R f.common f.chans++He f.fill++aF 7 3)
theorem ck.view {x:AV}{l:List (List D)}(h:ck x l):(∀ hp,viewArg hp x=some x)∧lM x=false:=by
 rcases h with rfl | ⟨rfl,rfl⟩<;>exact⟨fun _=>rfl,rfl⟩
def sF (rt n:Int):Prop:=eM rt∧(n=1∨n=2)
theorem Pm (rt n:Int) (cb:Bool) (cz:Int):(sF rt n∧aS prog BU [fQ rt n cb cz]=some (.d (.bool true)))∨(¬ sF rt n∧aS prog BU [fQ rt n cb cz]=some (.d (.bool false))):=by
 rw[ao YY YN rfl];by_cases h1:0≤rt
 rotate_left
 ·refine .inr ⟨fun h=>h1 h.1.1,?_⟩;simp (maxSteps:=300000) (disch:=omega) [↓if_pos,↓if_neg]
 by_cases h2:rt≤11
 rotate_left
 ·refine .inr ⟨fun h=>h2 h.1.2,?_⟩;simp (maxSteps:=300000) (disch:=omega) [↓if_pos,↓if_neg]
 by_cases h3:n=1
 ·refine .inl ⟨⟨⟨h1,h2⟩,.inl h3⟩,?_⟩;simp (maxSteps:=300000) (disch:=omega) [↓if_pos,↓if_neg,h3]
 by_cases h4:n=2
 ·refine .inl ⟨⟨⟨h1,h2⟩,.inr h4⟩,?_⟩;simp (maxSteps:=300000) (disch:=omega) [↓if_pos,↓if_neg,h4]
 ·refine .inr ⟨fun h=>h.2.elim h3 h4,?_⟩;simp (maxSteps:=300000) (disch:=omega) [↓if_pos,↓if_neg,h3,h4]
theorem ck.one {x:AV}{l:List (List D)}(h:ck x l):((∀ hp,viewOne hp x=some x)∧kU x=x)∧oA x=false:=by
 rcases h with rfl | ⟨rfl,rfl⟩<;>exact⟨⟨fun _=>rfl,rfl⟩,rfl⟩
theorem gr {m:Nat}{xs:List (List D)}:ck (share (ah m xs)) xs:=by
 cases xs with
 | nil=>exact .inr ⟨rfl,rfl⟩
 | cons x r=>exact .inl rfl
theorem aai {m:Nat}{xs:List (List D)}:lenOf (share (ah m xs))=some xs.length:=by cases xs<;>rfl
theorem amn {n:Nat}:List.replicate n [D.bool false]=kJ (List.replicate n false):=by simp[kJ]
def UH (sh:Bool):Nat:=if sh then 1 else 2
def XN (sh:Bool):Nat:=if sh then 4 else 6
def XZ (sh:Bool):Nat:=if sh then 3 else 5
def Np (b:List Nat) (i:az) (a:Int):Option (List (List bG)×Bool×RS):=kw b (UH i.short) (XN i.short) (XZ i.short) i.many false ⟨a,0⟩
def FO (b:List Nat) (i:az) (a:Int):R (List (List bG)) :=
 match Np b i a with
 | none=>.er 7
 | some (t,o,st)=>if st.e≠0 then .er (st.e-1) else if o then .er 7 else .ok t st.a.toNat
theorem O9 {b:List Nat}{x1 x2:Nat}{fine:Bool}:∀ {k:Nat}{o:Bool}{st:RS}{l:List bG}{o2:Bool}{st2:RS},dU b x1 x2 fine k o st=some (l,o2,st2)→l.length=k∧∀ f∈l,f.coefs.length≤12
 | 0,o,st,l,o2,st2,e=>by
  rw[dU]at e;injection e with e
  injection e with e1 e
  subst e1;exact⟨rfl,by simp⟩
 | k+1,o,st,l,o2,st2,e=>by
  rw[dU]at e;split at e
  ·exact absurd e (by simp)
  ·rename_i hbad
   cases hq:dU b x1 x2 fine k (o || Dj b x1 x2 fine st) (q9 b x1 x2 fine st) with
   | none=>rw[hq]at e;exact absurd e (by simp)
   | some q =>
    obtain⟨q1,q2,q3⟩:=q;rw[hq]at e;injection e with e
    injection e with e1 e
    obtain⟨i1,i2⟩:=O9 hq;subst e1;refine⟨by simp[i1],fun f hf=>?_⟩;rcases List.mem_cons.1 hf with rfl | hf
    ·unfold Fh;split
     ·simp
     ·rename_i h0;simp only[S5];have he:(sn b x1 x2 st).e=0:=aqe h0;rcases Nat.lt_or_ge 12 (lU b x1 x2 st) with h | h
      ·exact absurd ⟨h,he⟩ hbad
      ·exact h
    ·exact i2 f hf
theorem Rw {b:List Nat}{x0 x1 x2:Nat}(hb:b.length≤1000000000) (h2:x0≤2):∀ {k:Nat}{o:Bool}{st:RS}{t:List (List bG)}{o2:Bool}{st2:RS},st.fit→kw b x0 x1 x2 k o st=some (t,o2,st2)→st2.fit∧t.length=k∧∀ l∈t,l.length≤3∧∀ f∈l,f.coefs.length≤12
 | 0,o,st,t,o2,st2,h,e=>by
  rw[kw]at e;injection e with e
  injection e with e1 e
  injection e with e2 e3
  subst e1 e3;exact⟨h,rfl,by simp⟩
 | k+1,o,st,t,o2,st2,h,e=>by
  rw[kw]at e
  cases hq:dU b x1 x2 (IU b x0 st) (sV b st x0) o (wc b x0 st) with
  | none=>rw[hq]at e;exact absurd e (by simp)
  | some q =>
   obtain⟨q1,q2,q3⟩:=q;rw[hq]at e;simp only at e
   cases hw:kw b x0 x1 x2 k q2 q3 with
   | none=>rw[hw]at e;exact absurd e (by simp)
   | some w =>
    obtain⟨w1,w2,w3⟩:=w;rw[hw]at e;injection e with e
    injection e with e1 e
    injection e with e2 e3
    obtain⟨f1,f2⟩:=NA hb (acp hb h) hq;obtain⟨i1,i2,i3⟩:=Rw hb h2 f1 hw;obtain⟨j1,j2⟩:=O9 hq;have v1:=oN (b:=b) (st:=st) (s:=x0);have k1:2 ^ x0≤2 ^ 2:=Nat.pow_le_pow_right (by omega) h2;simp only[Int.toNat_natCast]at v1;subst e1 e3;refine⟨i1,by simp[i2],fun l hl=>?_⟩;rcases List.mem_cons.1 hl with rfl | hl
    ·exact⟨by omega,j2⟩
    ·exact i3 l hl
abbrev pTn (b:List Nat) (i:az) (t:List (List bG)) (n:Nat):Prop:=t.length=i.many∧n≤b.length∧∀ l∈t,l.length≤3∧∀ f∈l,f.coefs.length≤12
theorem ajM {h:af}{t:List (List bG)}{n e:Int}(ht:t≠[]):dF h (.tup [ah 1 (bt t),.d (.int .i64 n),.d (.int .i64 e)])=some (.tup [ah 1 (bt t),.d (.int .i64 n),.d (.int .i64 e)]):=by
 cases t with
 | nil=>exact absurd rfl ht
 | cons x r=>rfl
def RS.inB (b:List Nat) (st:RS):Prop:=0≤st.a∧st.a≤b.length
theorem xO {b:List Nat}{st:RS}{s:Int}(h:st.e=0∨st.inB b):(sN b st s).inB b:=by
 unfold sN;split
 ·have:=aed (b:=b) (a:=st.a) (s:=s);show 0≤_∧_;simp only[];omega
 ·rename_i he;exact h.resolve_left he
theorem ahw {b:List Nat}{sz:Nat}:∀ {k:Nat}{st:RS},st.inB b→(oK b sz k st).inB b
 | 0,_,h=>h
 | _+1,_,h=>by rw[oK];exact ahw (xO (.inr h))
theorem ap9 {b:List Nat}{x1 x2:Nat}{fine:Bool}{st:RS}(h:st.inB b):(q9 b x1 x2 fine st).inB b:=by
 unfold q9;split
 ·exact xO (.inr (xO (.inr h)))
 ·exact ahw (xO (.inr (xO (.inr (xO (.inr (xO (.inr h))))))))
theorem adk {b:List Nat}{x1 x2:Nat}{fine:Bool}:∀ {k:Nat}{o:Bool}{st:RS}{l:List bG}{o2:Bool}{st2:RS},st.inB b→dU b x1 x2 fine k o st=some (l,o2,st2)→st2.inB b
 | 0,o,st,l,o2,st2,h,e=>by
  rw[dU]at e;injection e with e
  injection e with e1 e
  injection e with e2 e3
  subst e3;exact h
 | k+1,o,st,l,o2,st2,h,e=>by
  rw[dU]at e;split at e
  ·exact absurd e (by simp)
  ·cases hq:dU b x1 x2 fine k (o || Dj b x1 x2 fine st) (q9 b x1 x2 fine st) with
   | none=>rw[hq]at e;exact absurd e (by simp)
   | some q =>
    obtain⟨q1,q2,q3⟩:=q;rw[hq]at e;injection e with e
    injection e with e1 e
    injection e with e2 e3
    subst e3;exact adk (ap9 h) hq
theorem aqn {b:List Nat}{x0:Nat}{st:RS}(h:st.e=0∨st.inB b):(wc b x0 st).inB b:=by
 unfold wc;split
 ·exact xO (.inr (xO h))
 ·exact xO h
theorem SQ {b:List Nat}{x0 x1 x2:Nat}:∀ {k:Nat}{o:Bool}{st:RS}{t:List (List bG)}{o2:Bool}{st2:RS},st.inB b∨(st.e=0∧1≤k)→kw b x0 x1 x2 k o st=some (t,o2,st2)→st2.inB b
 | 0,o,st,t,o2,st2,h,e=>by
  rw[kw]at e;injection e with e
  injection e with e1 e
  injection e with e2 e3
  subst e3;rcases h with h | ⟨_,h⟩
  ·exact h
  ·omega
 | k+1,o,st,t,o2,st2,h,e=>by
  rw[kw]at e
  cases hq:dU b x1 x2 (IU b x0 st) (sV b st x0) o (wc b x0 st) with
  | none=>rw[hq]at e;exact absurd e (by simp)
  | some q =>
   obtain⟨q1,q2,q3⟩:=q;rw[hq]at e;simp only at e
   cases hw:kw b x0 x1 x2 k q2 q3 with
   | none=>rw[hw]at e;exact absurd e (by simp)
   | some w =>
    obtain⟨w1,w2,w3⟩:=w;rw[hw]at e;injection e with e
    injection e with e1 e
    injection e with e2 e3
    subst e3;have h0:st.e=0∨st.inB b:=by rcases h with h | ⟨h,_⟩;exact .inr h;exact .inl h
    exact SQ (.inl (adk (aqn h0) hq)) hw
theorem pE (i:az):1≤i.many∧i.many≤8:=by unfold az.many;split<;>omega
theorem agf {b:List Nat}{i:az}{a:Int}(hb:b.length≤1000000000) (ha:i64 a) {t:List (List bG)}{n:Nat}(h:FO b i a=.ok t n):pTn b i t n:=by
 rw[FO]at h
 cases hq:Np b i a with
 | none=>rw[hq]at h;exact absurd h (by simp)
 | some q =>
  obtain⟨t',o,st⟩:=q;rw[hq]at h;simp only at h;rw[Np]at hq;obtain⟨j1,j2,j3⟩:=Rw (st:=⟨a,0⟩) hb (by unfold UH;split<;>omega) (show RS.fit ⟨a,0⟩ from ha) hq;have j4:=SQ (.inr ⟨rfl,(pE i).1⟩) hq;split at h
  ·exact absurd h (by simp)
  ·split at h
   ·exact absurd h (by simp)
   ·injection h with g1 g2
    subst g1 g2;obtain⟨k1,k2⟩:=j4;exact⟨j2,by omega,j3⟩
theorem abp (b:List Nat) (hb:b.length≤1000000000) (a:Int) (ha:i64 a) (i:az) (hi:i.Fit) (hm:i.may 11):aS prog HQ [.d (.lst (ae b)),.d (.int .i64 a),.agg i.cells] =
  rK (pTn b i) (FO b i a) (fun t n=>some (.tup [ah 1 (bt t),.d (.int .i64 n),.d (.int .i64 0)])) (fun e=>some (.tup [.nl,.d (.int .i64 0),.d (.int .i64 (e+1))])):=by
 have hw:=BM i hi;rw[if_pos hm]at hw;have hsz:=Vt i;obtain⟨m1,m8⟩:=pE i;obtain⟨M,hM,hL⟩:=aol b hb (.d (.int .i64 (if i.short then 1 else 3))) (.d (.int .i64 (if i.short then 7 else 12))) (UH i.short) (XN i.short) (XZ i.short) (by unfold UH XN XZ;cases i.short<;>decide) i.many m8 i.many 0 5 false ⟨a,0⟩ [] (by omega) rfl ha (Nat.le_refl _);have c0:((0:Nat):Int)=0:=rfl;have n0:bt []=[]:=rfl;have hq0:kw b (UH i.short) (XN i.short) (XZ i.short) i.many false ⟨a,0⟩=Np b i a:=rfl;have hra:ra ⟨a,0⟩=a:=rfl;have hre:re ⟨a,0⟩=0:=rfl;rw[hq0]at hL;simp only[c0,n0,lk,List.nil_append,HT,hra,hre]at hL;have hszv:Zg i.short=[.d (.int .i64 (UH i.short:Nat)),.d (.int .i64 (XN i.short:Nat)),.d (.int .i64 (XZ i.short:Nat)),.d (.int .i64 (if i.short then 1 else 3)),.d (.int .i64 (if i.short then 7 else 12))]:=by
  cases i.short<;>rfl
 rw[hszv]at hsz;have hp:=fun t n=>agf (b:=b) (i:=i) (a:=a) (t:=t) (n:=n) hb ha
 have hin0:∀ t o st,Np b i a=some (t,o,st)→st.inB b:=fun t o st h=>SQ (.inr ⟨rfl,m1⟩) h
 rw[FO]at hp⊢;rw[ao Wl Vq rfl];simp only[az.cells]at hw hsz⊢;generalize UH i.short=X0 at *;generalize XN i.short=X1 at *;generalize XZ i.short=X2 at *;generalize (if i.short then (1:Int) else 3)=Y3 at *;generalize (if i.short then (7:Int) else 12)=Y4 at *
 cases hq:Np b i a with
 | none =>
  rw[hq]at hL;simp only at hL⊢;rw[dH];simp (maxSteps:=300000) (disch:=omega) [↓if_pos,↓if_neg,hw,hsz,hL]
 | some q =>
  obtain⟨t,o,st⟩:=q;rw[hq]at hL hp;simp only at hL hp⊢;obtain⟨sa,se⟩:=st;by_cases he:se=0
  ·subst he;have hin:=hin0 t o ⟨sa,0⟩ hq;obtain⟨k1,k2⟩:=hin;simp only at k1 k2;obtain⟨A,rfl⟩:=Int.eq_ofNat_of_zero_le k1;have hra2:ra ⟨(A:Int),0⟩=(A:Int):=rfl;have hre2:re ⟨(A:Int),0⟩=0:=rfl;simp only[hra2,hre2,c0]at hL
   cases o with
   | true =>
    simp only[ne_eq,not_true_eq_false,if_false,if_true]at hp⊢;rw[dH];simp (maxSteps:=300000) (disch:=omega) [↓if_pos,↓if_neg,hw,hsz,hL]
   | false =>
    simp only[ne_eq,not_true_eq_false,if_false,Bool.false_eq_true]at hp⊢;have hpt:=hp t _ rfl;have htn:t≠[]:=fun h=>by rw[h]at hpt;have:=hpt.1;simp at this;omega
    rw[bV hpt];have hrt:=fun h n e=>ajM (h:=h) (n:=n) (e:=e) htn
    simp (maxSteps:=300000) (disch:=omega) [↓if_pos,↓if_neg,hw,hsz,hL,-Q5,hrt]
  ·have hre2:re ⟨sa,se⟩=se:=rfl;have hse:((se-1:Nat):Int)+1=(se:Int):=by omega
   simp only[hre2]at hL;simp only[ne_eq,he,not_false_eq_true,if_true]at hp⊢;rw[dH,hse];simp (maxSteps:=300000) (disch:=omega) [↓if_pos,↓if_neg,hw,hsz,hL,he]
abbrev tp:List AV:=[.ptr 0 0,.ptr 5 0,.ptr 4 0,.ptr 6 0]
abbrev YA:AV:=.fn DQ [] [.ptr 0 0,.ptr 5 0,.ptr 6 0]
abbrev pp:List AV:=[.fn rU [] tp,.fn jD [] [.ptr 3 0,.ptr 4 0,.ptr 2 0,.ptr 0 0,.ptr 5 0,.ptr 1 0,.ptr 6 0],.fn rR [] tp,.fn rW [] tp,.fn rO [] [.ptr 9 0,.ptr 7 0],.fn r7 [] [.ptr 9 0,.ptr 8 0],.fn jA [] [.ptr 8 0,.ptr 0 0,.ptr 5 0,.ptr 4 0,.ptr 6 0],.fn rV [] [.ptr 7 0,.ptr 9 0]]
abbrev ct (b:List Nat) (r:Int) (q:Bool) (iv cs:List AV) (nx e od is:Int):af:=[(0,.cells [.d (.lst (ae b))]),(1,.cells [.d (.int .i64 r)]),(2,.cells [.d (.bool q)]),(3,.cells iv),(4,.cells cs),(5,.cells [.d (.int .i64 nx)]),(6,.cells [.d (.int .i64 e)]),(7,.cells [.d (.int .i64 od)]),(8,.cells [.d (.int .i64 is)]),(9,.cells [YA]),(10,.cells pp)]
theorem ajm {m:Nat}{xs:List (List D)}:oS (share (ah m xs))=share (ah m xs):=by cases xs<;>rfl
theorem Vv (x:AV) (l:List Int) (hl:l.length≤1000000000) (hx:elems [] x=some (am l)):aS prog wg [x]=some (.own true 1 (am l)):=by
 have hl2:(am l).length=l.length:=mM;rw[ao H4 H3 rfl];have h4:Nat.ble l.length 4294967296=true:=by rw[Nat.ble_eq];omega
 rw[eD];simp (maxSteps:=300000) (disch:=omega) [br,ET,hx,h4]
theorem U6 (i:az) (hi:i.groups.length≤1000000):aS prog DZ [.agg i.cells]=some (.agg (Jp i)):=by
 have h:=Vv (.d (.lst (am i.groups))) i.groups (by omega) rfl;simp only[az.cells];rw[ao abI abO rfl];simp (maxSteps:=300000) (disch:=omega) [↓if_pos,↓if_neg,h]
abbrev zI:List AV:=[.d (.int .u8 0),.d (.int .u8 0),.d (.int .i64 0),.nl]
theorem ae2:aS prog DZ [.agg zI]=some (.agg (Jp ⟨0,0,0,[]⟩)):=tY 400 (by kernel_rfl)
section
variable (b:List Nat) (r:Int) (q:Bool) (iv:List AV) (nx od is:Int) (N:Nat)
theorem aok (hq:q=true) (i:az) (hi:i.groups.length≤1000000) (hiv:iv=i.cells) (a0 a1 a2 a3 a4 a5 a6 a7 a8:AV):(Dn prog).call jD [.ptr 3 0,.ptr 4 0,.ptr 2 0,.ptr 0 0,.ptr 5 0,.ptr 1 0,.ptr 6 0] ⟨ct b r q iv [a0,a1,a2,a3,a4,a5,a6,a7,a8] nx 0 od is,N⟩ =
  some (.tup [],⟨ct b r q iv [a0,.d (.int .u8 i.seq),.d (.int .u8 i.shape),.d (.int .i64 i.max),.own false 1 (am i.groups),a5,a6,a7,a8] nx 0 od is,N⟩):=by
 subst hq hiv;have h:=U6 i hi;simp only[az.cells,Jp]at h⊢;rw[aN Ms MF rfl];simp (maxSteps:=300000) (disch:=omega) [↓if_pos,↓if_neg,h]
theorem anu (i:az) (hi:i.Fit) (hm:i.may 11) (h1:is≠1) (a0 a5 a6 a7 a8:AV):(Dn prog).call jA [.ptr 8 0,.ptr 0 0,.ptr 5 0,.ptr 4 0,.ptr 6 0] ⟨ct b r q iv [a0,.d (.int .u8 i.seq),.d (.int .u8 i.shape),.d (.int .i64 i.max),.own false 1 (am i.groups),a5,a6,a7,a8] nx 0 od is,N⟩ =
  some (.tup [],⟨ct b r q iv [a0,.d (.int .u8 i.seq),.d (.int .u8 i.shape),.d (.int .i64 i.max),.own false 1 (am i.groups),a5,a6,.own false 1 (bt (List.replicate i.many [])),a8] nx 0 od is,N⟩):=by
 have hw:=BM i hi;rw[if_pos hm]at hw;have hmm:=pE i;have hk:=AG (z:=[.lst []]) (n:=i.many) (by omega);have e:List.replicate i.many [D.lst []]=bt (List.replicate i.many []):=by simp[bt,kz]
 rw[e]at hk;simp only[az.cells]at hw;rw[aN L0 Mf rfl];simp (maxSteps:=300000) (disch:=omega) [↓if_pos,↓if_neg,h1,hw,hk]
end
section
variable (b:List Nat) (hb:b.length≤1000000000) (r:Int) (q:Bool) (iv:List AV) (nx od is:Int) (hn:i64 nx) (N:Nat)
include hb hn
theorem aoW (a0 a1 a2 a3 a4 a5 a6 a7 a8:AV):(Dn prog).call rU tp ⟨ct b r q iv [a0,a1,a2,a3,a4,a5,a6,a7,a8] nx 0 od is,N⟩ =
  rK (pG b 8) (aw b nx 8) (fun v n=>some (.tup [],⟨ct b r q iv [.d (.int .i64 v),a1,a2,a3,a4,a5,a6,a7,a8] n 0 od is,N⟩)) (fun e=>some (.tup [],⟨ct b r q iv [.d (.int .i64 0),a1,a2,a3,a4,a5,a6,a7,a8] 0 (e+1) od is,N⟩)):=by
 have h:=dz b nx 8 hb hn;rw[aN aaz aaX rfl];simp (maxSteps:=300000) (disch:=omega) [↓if_pos,↓if_neg,h]
theorem aeI (cs:List AV):(Dn prog).call DQ [.ptr 0 0,.ptr 5 0,.ptr 6 0] ⟨ct b r q iv cs nx 0 od is,N⟩ =
  rK (pG b 1) (aw b nx 1) (fun v n=>some (.d (.int .i64 v),⟨ct b r q iv cs n 0 od is,N⟩)) (fun e=>some (.d (.int .i64 0),⟨ct b r q iv cs 0 (e+1) od is,N⟩)):=by
 have h:=dz b nx 1 hb hn;rw[aN aaP abf rfl];simp (maxSteps:=300000) (disch:=omega) [↓if_pos,↓if_neg,h]
theorem aqB (cs:List AV):(Dn prog).call rO [.ptr 9 0,.ptr 7 0] ⟨ct b r q iv cs nx 0 od is,N⟩ =
  rK (pG b 1) (aw b nx 1) (fun v n=>some (.tup [],⟨ct b r q iv cs n 0 v is,N⟩)) (fun e=>some (.tup [],⟨ct b r q iv cs 0 (e+1) 0 is,N⟩)):=by
 have h:=aeI b hb r q iv nx od is hn N cs;rw[aN abi abF rfl];simp (maxSteps:=300000) (disch:=omega) [↓if_pos,↓if_neg,h]
theorem apY (cs:List AV):(Dn prog).call r7 [.ptr 9 0,.ptr 8 0] ⟨ct b r q iv cs nx 0 od is,N⟩ =
  rK (pG b 1) (aw b nx 1) (fun v n=>some (.tup [],⟨ct b r q iv cs n 0 od v,N⟩)) (fun e=>some (.tup [],⟨ct b r q iv cs 0 (e+1) od 0,N⟩)):=by
 have h:=aeI b hb r q iv nx od is hn N cs;rw[aN abd aaB rfl];simp (maxSteps:=300000) (disch:=omega) [↓if_pos,↓if_neg,h]
theorem aq1 (cs:List AV) (ho:0≤od∧od≤1):(Dn prog).call rV [.ptr 7 0,.ptr 9 0] ⟨ct b r q iv cs nx 0 od is,N⟩ =
  rK (pG b 1) (aw b nx 1) (fun v n=>some (.tup [],⟨ct b r q iv cs n 0 (RB od v) is,N⟩)) (fun e=>some (.tup [],⟨ct b r q iv cs 0 (e+1) od is,N⟩)):=by
 have h:=aeI b hb r q iv nx od is hn N cs;rw[aN aaV abn rfl];simp (maxSteps:=300000) (disch:=omega) [↓if_pos,↓if_neg,h];refine Ih (fun _ _ h=>bY h) (fun v n e2 hp=>?_) fun e e2=>by simp (maxSteps:=300000) (disch:=omega) [Qt]
 have hv:v<2:=hp.1;simp (maxSteps:=300000) (disch:=omega) [Qt]
theorem apQ (i:az) (hi:i.Fit) (hm:i.may 11) (hg:i.groups≠[]) (a0 a5 a6 a7 a8:AV):(Dn prog).call rR tp ⟨ct b r q iv [a0,.d (.int .u8 i.seq),.d (.int .u8 i.shape),.d (.int .i64 i.max),.own false 1 (am i.groups),a5,a6,a7,a8] nx 0 od is,N⟩ =
  rK (MG b i.max.toNat i.groups.length) (qc b i nx) (fun g n=>some (.tup [],⟨ct b r q iv [a0,.d (.int .u8 i.seq),.d (.int .u8 i.shape),.d (.int .i64 i.max),.own false 1 (am i.groups),ah 1 (aM g),a6,a7,a8] n 0 od is,N⟩)) (fun e=>some (.tup [],⟨ct b r q iv [a0,.d (.int .u8 i.seq),.d (.int .u8 i.shape),.d (.int .i64 i.max),.own false 1 (am i.groups),.nl,a6,a7,a8] 0 (e+1) od is,N⟩)):=by
 have h:=akI b nx i hb hn hi hm;simp only[az.cells]at h;rw[aN aaO aa9 rfl];simp (maxSteps:=300000) (disch:=omega) [↓if_pos,↓if_neg,-aV,h]
theorem aqW (g:Int) (hg:0≤g∧g≤255) (m:Int) (hm:0≤m∧m≤40) (S:List (List aG)) (hS:S≠[]) (hl:S.length≤8) (hf:CH m S) (hf2:∀ l∈S,l.length≤1000) (hok:∀ l∈S,WI l∧adF l) (a1 a2 a3 a4 a6 a7 a8:AV):(Dn prog).call rW tp ⟨ct b r q iv [.d (.int .i64 g),a1,a2,a3,a4,ah 1 (aM S),a6,a7,a8] nx 0 od is,N⟩ =
  rK (pSc b S) (u4 b S nx g) (fun t n=>some (.tup [],⟨ct b r q iv [.d (.int .i64 g),a1,a2,a3,a4,ah 1 (aM S),share (ah 1 (bO t)),a7,a8] n 0 od is,N⟩)) (fun e=>some (.tup [],⟨ct b r q iv [.d (.int .i64 g),a1,a2,a3,a4,ah 1 (aM S),.nl,a7,a8] 0 (e+1) od is,N⟩)):=by
 have h:=af5 b hb nx g m hn hg S hl hm hf hf2 hok;rw[aN aao aa5 rfl]
 cases S with
 | nil=>exact absurd rfl hS
 | cons s0 S0 =>
  have e:ah 1 (aM (s0::S0))=.own false 1 (aM (s0::S0)):=rfl;rw[e];simp (maxSteps:=300000) (disch:=omega) [↓if_pos,↓if_neg,-aV,h,acm,ajm,XP,AD,wv]
theorem acK (hq:q=false) (hr:eM r) (i:az) (hi:i.groups.length≤1000000) (hiv:iv=i.cells∨iv=zI) (a0 a1 a2 a3 a4 a5 a6 a7 a8:AV):(Dn prog).call jD [.ptr 3 0,.ptr 4 0,.ptr 2 0,.ptr 0 0,.ptr 5 0,.ptr 1 0,.ptr 6 0] ⟨ct b r q iv [a0,a1,a2,a3,a4,a5,a6,a7,a8] nx 0 od is,N⟩ =
  rK (pI b r.toNat) (jK b nx r.toNat) (fun j n=>some (.tup [],⟨ct b r q iv [a0,.d (.int .u8 j.seq),.d (.int .u8 j.shape),.d (.int .i64 j.max),.own false 1 (am j.groups),a5,a6,a7,a8] n 0 od is,N⟩)) (fun e=>some (.tup [],⟨ct b r q iv [a0,.d (.int .u8 0),.d (.int .u8 0),.d (.int .i64 0),.nl,a5,a6,a7,a8] 0 (e+1) od is,N⟩)):=by
 subst hq;have h:=U6 i hi;have h0:=ae2;have hG:=NH b nx r hb hn;rw[if_pos hr]at hG;rcases hiv with rfl | rfl
 all_goals
  simp only[az.cells,Jp,NE]at h hG⊢;rw[aN Ms MF rfl];simp (maxSteps:=300000) (disch:=omega) [↓if_pos,↓if_neg,h,h0,hG]
theorem acQ (i:az) (hi:i.Fit) (hm:i.may 11) (h1:is=1) (a0 a5 a6 a7 a8:AV):(Dn prog).call jA [.ptr 8 0,.ptr 0 0,.ptr 5 0,.ptr 4 0,.ptr 6 0] ⟨ct b r q iv [a0,.d (.int .u8 i.seq),.d (.int .u8 i.shape),.d (.int .i64 i.max),.own false 1 (am i.groups),a5,a6,a7,a8] nx 0 od is,N⟩ =
  rK (pTn b i) (FO b i nx) (fun t n=>some (.tup [],⟨ct b r q iv [a0,.d (.int .u8 i.seq),.d (.int .u8 i.shape),.d (.int .i64 i.max),.own false 1 (am i.groups),a5,a6,ah 1 (bt t),a8] n 0 od is,N⟩)) (fun e=>some (.tup [],⟨ct b r q iv [a0,.d (.int .u8 i.seq),.d (.int .u8 i.shape),.d (.int .i64 i.max),.own false 1 (am i.groups),a5,a6,.nl,a8] 0 (e+1) od is,N⟩)):=by
 subst h1;have h:=abp b hb nx hn i hi hm;simp only[az.cells]at h;rw[aN L0 Mf rfl];simp (maxSteps:=300000) (disch:=omega) [↓if_pos,↓if_neg,-aV,h]
end
abbrev WK:List AV:=[.d (.int .i64 0),.d (.int .u8 0),.d (.int .u8 0),.d (.int .i64 0),.nl,.nl,.nl,.nl,.nl]
abbrev TD (i:Int):aq:=[(5,.ptr 0 0),(7,.ptr 1 0),(10,.ptr 4 0),(11,.ptr 5 0),(12,.ptr 6 0),(13,.ptr 7 0),(14,.ptr 8 0),(60,.sl 10 0 8),(61,.d (.int .i64 8)),(62,.d (.int .i64 i))]
abbrev aqa:aq:=[(5,.ptr 0 0),(7,.ptr 1 0),(10,.ptr 4 0),(11,.ptr 5 0),(12,.ptr 6 0),(13,.ptr 7 0),(14,.ptr 8 0)]
section
variable (b:List Nat) (r:Int) (q:Bool) (iv:List AV) (N:Nat)
theorem ah5 {cs cs2:List AV}{nx nx2 e0 od od2 is is2:Int}(i:Nat) (hi:i<8) (f:FuncId) (caps:List AV) (hF:pp[i]?=some (.fn f [] caps)) (hF2:firm (firm (firm (share (.fn f [] caps))))=.fn f [] caps)
  (h:(Dn prog).call f caps ⟨ct b r q iv cs nx 0 od is,N⟩=some (.tup [],⟨ct b r q iv cs2 nx2 0 od2 is2,N⟩)) :
  (Dn prog).code (.loop fP) ⟨TD i,⟨ct b r q iv cs nx e0 od is,N⟩⟩=(Dn prog).code (.loop fP) ⟨TD ((i+1:Nat):Int),⟨ct b r q iv cs2 nx2 0 od2 is2,N⟩⟩:=by
 have c1:((i+1:Nat):Int)=(i:Int)+1:=rfl;obtain⟨hlt,e⟩:=List.getElem?_eq_some_iff.1 hF;rw[c1,ac Cl];simp (maxSteps:=300000) (disch:=omega) [↓if_pos,↓if_neg,e,hF2,h]
theorem aro {cs:List AV}{a0 a1 a2 a3 a4 a5 a6 a7 a8:AV}{nx nx2 e0 od od2 is is2:Int}(i:Nat) (hi:i<8) (f:FuncId) (caps:List AV) (hF:pp[i]?=some (.fn f [] caps)) (hF2:firm (firm (firm (share (.fn f [] caps))))=.fn f [] caps) (e:Nat)
  (h:(Dn prog).call f caps ⟨ct b r q iv cs nx 0 od is,N⟩=some (.tup [],⟨ct b r q iv [a0,a1,a2,a3,a4,a5,a6,a7,a8] nx2 ((e:Int)+1) od2 is2,N⟩)) :
  (Dn prog).code (.loop fP) ⟨TD i,⟨ct b r q iv cs nx e0 od is,N⟩⟩=some (.ret,⟨[(10,.ptr 4 0),(11,.ptr 5 0),(12,.ptr 6 0)],⟨ct b r q iv WK 0 ((e:Int)+1) od2 is2,N⟩⟩):=by
 obtain⟨hlt,e1⟩:=List.getElem?_eq_some_iff.1 hF;rw[ac Cl];simp (maxSteps:=300000) (disch:=omega) [↓if_pos,↓if_neg,e1,hF2,h]
theorem anN {cs:List AV}{nx e0 od is:Int}:(Dn prog).code (.loop fP) ⟨TD 8,⟨ct b r q iv cs nx e0 od is,N⟩⟩=some (.exit 0,⟨aqa,⟨ct b r q iv cs nx e0 od is,N⟩⟩):=by
 rw[ac Cl];simp (maxSteps:=300000) (disch:=omega) [↓if_pos,↓if_neg]
end
structure Hd where
 gain:Nat
 inf:az
 S:List (List aG)
 T:List (List Int)
 F:List (List bG)
 od:Int
 is:Nat
def Ak (b:List Nat) (a:Int) (r:Nat) (q:Bool) (i:az):R Hd :=
 (aw b a 8).bind fun g n=>(if q then R.ok i n else jK b n r).bind fun j n=>(qc b j n).bind fun S n=>(u4 b S n g).bind fun T n =>
  (aw b n 1).bind fun o n=>(aw b n 1).bind fun s n=>(if s=1 then FO b j n else R.ok (List.replicate j.many []) n).bind fun F n=>(aw b n 1).bind fun p n=>R.ok ⟨g,j,S,T,F,RB o p,s⟩ n
abbrev Ys (H:Hd):List AV:=[.d (.int .i64 H.gain),.d (.int .u8 H.inf.seq),.d (.int .u8 H.inf.shape),.d (.int .i64 H.inf.max),.own false 1 (am H.inf.groups),ah 1 (aM H.S),share (ah 1 (bO H.T)),ah 1 (bt H.F),.nl]
section
variable (b:List Nat) (r:Int) (q:Bool) (iv:List AV) (N:Nat)
def Ng (e0:Int) (i:Nat) (cs:List AV) (nx od is:Int) (x:R Hd):Prop :=
 (∀ H n,x=.ok H n→(Dn prog).code (.loop fP) ⟨TD i,⟨ct b r q iv cs nx e0 od is,N⟩⟩=some (.exit 0,⟨aqa,⟨ct b r q iv (Ys H) n 0 H.od H.is,N⟩⟩))∧
 (∀ e,x=.er e→∃ od2 is2,(Dn prog).code (.loop fP) ⟨TD i,⟨ct b r q iv cs nx e0 od is,N⟩⟩=some (.ret,⟨[(10,.ptr 4 0),(11,.ptr 5 0),(12,.ptr 6 0)],⟨ct b r q iv WK 0 ((e:Int)+1) od2 is2,N⟩⟩))
theorem aqR {e0:Int}{i:Nat}{cs cs2:List AV}{nx nx2 od od2 is is2:Int}{x:R Hd}(hi:i<8) (f:FuncId) (caps:List AV) (hF:pp[i]?=some (.fn f [] caps)) (hF2:firm (firm (firm (share (.fn f [] caps))))=.fn f [] caps)
  (h:(Dn prog).call f caps ⟨ct b r q iv cs nx 0 od is,N⟩=some (.tup [],⟨ct b r q iv cs2 nx2 0 od2 is2,N⟩)) (ho:Ng b r q iv N 0 (i+1) cs2 nx2 od2 is2 x):Ng b r q iv N e0 i cs nx od is x:=by
 refine⟨fun H n e=>?_,fun e h2=>?_⟩
 ·rw[ah5 b r q iv N i hi f caps hF hF2 h];exact ho.1 H n e
 ·rw[ah5 b r q iv N i hi f caps hF hF2 h];exact ho.2 e h2
theorem aqc {e0:Int}{i:Nat}{cs:List AV}{a0 a1 a2 a3 a4 a5 a6 a7 a8:AV}{nx nx2 od od2 is is2:Int}{e:Nat}(hi:i<8) (f:FuncId) (caps:List AV) (hF:pp[i]?=some (.fn f [] caps)) (hF2:firm (firm (firm (share (.fn f [] caps))))=.fn f [] caps)
  (h:(Dn prog).call f caps ⟨ct b r q iv cs nx 0 od is,N⟩=some (.tup [],⟨ct b r q iv [a0,a1,a2,a3,a4,a5,a6,a7,a8] nx2 ((e:Int)+1) od2 is2,N⟩)):Ng b r q iv N e0 i cs nx od is (.er e):=by
 refine⟨fun H n h2=>absurd h2 (by simp),fun e' h2=>?_⟩;injection h2 with h2
 subst h2;exact⟨_,_,aro b r q iv N i hi f caps hF hF2 e h⟩
end
theorem aeZ {b:List Nat}{i:az}{g:List (List aG)}{n:Nat}(hm:i.may 11) (h:MG b i.max.toNat i.groups.length g n) :
  g≠[]∧g.length≤8∧qD i g∧(∀ l∈g,l.length≤100)∧∀ l∈g,WI l∧adF l:=by
 obtain⟨h1,h2,h3⟩:=h;have hmx:=ox hm;obtain⟨q1,q2⟩:=eR hm;have hmm:=pE i;have hgl:i.groups.length≤8:=by have:=oi (fun n hn=>(q1 n hn).1);omega
 have hgn:i.groups≠[]:=fun h=>by rw[h]at q2;simp at q2;omega
 have hg1:=List.length_pos_iff.2 hgn;have hmc:((i.max.toNat:Nat):Int)=i.max:=Int.toNat_of_nonneg hmx.1;have hf:∀ l∈g,fitsS i.max l:=fun l hl=>by have:=(h1 l hl).1;rwa [hmc]at this
 refine⟨fun h=>by rw[h]at h3;simp at h3;omega,by omega,⟨h3,hf⟩,fun l hl=>by have:=(h1 l hl).2;omega,fun l hl=>⟨⟨by have:=(h1 l hl).2;omega,fun s hs=>?_⟩,ajt (hf l hl)⟩⟩;have:=GA (hf l hl) (by omega) s hs;have:=this.1;omega
theorem lh {α β:Type}{x:R α}{f:α→Nat→R β}{v:β}{n:Nat}(h:x.bind f=.ok v n):∃ u m,x=.ok u m∧f u m=.ok v n:=by
 cases x with
 | ok u m=>exact⟨u,m,rfl,h⟩
 | er e=>exact absurd h (by simp)
theorem YL {α:Type}{c:Prop}[Decidable c] {v w:α}{n m:Nat}(h:JR c v n=.ok w m):c∧v=w∧n=m:=by
 unfold JR at h;split at h
 ·rename_i hc;injection h with g1 g2
  exact⟨hc,g1,g2⟩
 ·exact absurd h (by simp)
theorem abV {b:List Nat}:∀ {k a:Nat}{l:List Nat}{n:Nat},a≤b.length→qi b k a=.ok l n→n≤b.length
 | 0,a,l,n,ha,h=>by
  rw[qi]at h;injection h with g1 g2
  omega
 | k+1,a,l,n,ha,h=>by
  rw[qi]at h;obtain⟨v,m,h1,h⟩:=lh h;obtain⟨l2,m2,h2,h⟩:=lh h;have:=abV (bY h1).2 h2;injection h with g1 g2
  omega
theorem CR {b:List Nat}{a:Int}{r:Nat}(hr:r≤11) {i:az}{n:Nat}(h:jK b a r=.ok i n):pI b r i n:=by
 rw[jK]at h;obtain⟨o,n1,h1,h⟩:=lh h;obtain⟨q,n2,h2,h⟩:=lh h;obtain⟨s,n3,h3,h⟩:=lh h;have key:i.may r∧n≤b.length:=by
  split at h
  ·obtain⟨m,n4,h4,h⟩:=lh h;obtain⟨l,n5,h5,h⟩:=lh h;obtain⟨hc,e1,e2⟩:=YL h;have:=abV (bY h4).2 h5;rw[←e1];exact⟨hc.2,by omega⟩
  ·obtain⟨m,n4,h4,h⟩:=lh h;obtain⟨p,n5,h5,h⟩:=lh h;obtain⟨hc,e1,e2⟩:=YL h;have:=(bY h5).2;rw[←e1];exact⟨hc.2,by omega⟩
 obtain⟨g1,g2⟩:=eR (kN hr key.1);have hmm:=pE i;exact⟨key.1,key.2,by have:=oi (fun n hn=>(g1 n hn).1);omega⟩
structure pHd (b:List Nat) (r:Nat) (H:Hd) (n:Nat):Prop where
 gain:H.gain≤255
 fit:H.inf.Fit
 may:H.inf.may r
 S:qD H.inf H.S
 Sl:∀ l∈H.S,l.length≤100
 T:H.T.map List.length=H.S.map (fun l=>(aL l).length)
 F:H.F.length=H.inf.many∧∀ l∈H.F,l.length≤3∧∀ f∈l,f.coefs.length≤12
 od:0≤H.od∧H.od≤1
 is:H.is≤1
 n:n≤b.length
theorem Sw {r:Nat}{i:az}(hr:r≤11) (h:i.may r) (hl:i.groups.length≤100):i.Fit:=by
 have h11:=kN hr h;have hmx:=ox h11;obtain⟨g1,g2⟩:=eR h11;exact⟨by have:=h.1;omega,by have:=h.2.1;omega,by omega,by omega,fun n hn=>by have:=g1 n hn;omega⟩
abbrev QX (b:List Nat) (r:Nat) (x:R Hd):Prop:=∀ H n,x=.ok H n→pHd b r H n
theorem tQ {b:List Nat}{r:Int}{q:Bool}{iv:List AV}{N R0:Nat}{e0:Int}{i:Nat}{cs cs2:List AV}{nx nx2 od od2 is is2:Int}{x:R Hd}(hi:i<8) (f:FuncId) (caps:List AV) (hF:pp[i]?=some (.fn f [] caps)) (hF2:firm (firm (firm (share (.fn f [] caps))))=.fn f [] caps)
  (h:(Dn prog).call f caps ⟨ct b r q iv cs nx 0 od is,N⟩=some (.tup [],⟨ct b r q iv cs2 nx2 0 od2 is2,N⟩)) (ho:Ng b r q iv N 0 (i+1) cs2 nx2 od2 is2 x∧QX b R0 x):Ng b r q iv N e0 i cs nx od is x∧QX b R0 x :=
 ⟨aqR b r q iv N hi f caps hF hF2 h ho.1,ho.2⟩
theorem t8 {b:List Nat}{r:Int}{q:Bool}{iv:List AV}{N R0:Nat}{e0:Int}{i:Nat}{cs:List AV}{a0 a1 a2 a3 a4 a5 a6 a7 a8:AV}{nx nx2 od od2 is is2:Int}{e:Nat}(hi:i<8) (f:FuncId) (caps:List AV) (hF:pp[i]?=some (.fn f [] caps)) (hF2:firm (firm (firm (share (.fn f [] caps))))=.fn f [] caps)
  (h:(Dn prog).call f caps ⟨ct b r q iv cs nx 0 od is,N⟩=some (.tup [],⟨ct b r q iv [a0,a1,a2,a3,a4,a5,a6,a7,a8] nx2 ((e:Int)+1) od2 is2,N⟩)):Ng b r q iv N e0 i cs nx od is (.er e)∧QX b R0 (.er e) :=
 ⟨aqc b r q iv N hi f caps hF hF2 h,fun H n h=>absurd h (by simp)⟩
theorem ag6 {b:List Nat}{i:az}{a:Int}{g:List (List aG)}{n:Nat}(h:qc b i a=.ok g n):MG b i.max.toNat i.groups.length g n:=by
 rw[qc]at h;split at h
 ·exact J9 (by omega) h
 ·exact absurd h (by simp)
theorem akj {b:List Nat}{g:List (List aG)}{a gain:Int}(hg:0≤gain∧gain≤255) {t:List (List Int)}{n:Nat}(h:u4 b g a gain=.ok t n):pSc b g t n:=by
 rw[u4]at h;split at h
 ·rename_i ha;obtain⟨A,rfl⟩:=Int.eq_ofNat_of_zero_le ha.1;exact OL (by omega) ⟨by omega,by omega⟩ ⟨by omega,by omega⟩ h
 ·exact absurd h (by simp)
theorem Fs (b:List Nat) (hb:b.length≤1000000000) (r:Int) (hr:eM r) (q:Bool) (i:az) (hi:i.Fit) (iv:List AV) (hiv:iv=i.cells∨q=false∧iv=zI) (hq:q=true→i.may r.toNat) (nx:Int) (hn:i64 nx) (e0:Int) (N:Nat) :
  Ng b r q iv N e0 0 WK nx 0 0 (Ak b nx r.toNat q i)∧QX b r.toNat (Ak b nx r.toNat q i):=by
 have hR:r.toNat≤11:=by omega
 rw[Ak];have h:=aoW b hb r q iv nx 0 0 hn N (.d (.int .i64 0)) (.d (.int .u8 0)) (.d (.int .u8 0)) (.d (.int .i64 0)) .nl .nl .nl .nl .nl
 cases e1:aw b nx 8 with
 | er e=>rw[e1,dH]at h;exact t8 (by decide) rU tp rfl rfl h
 | ok g n1 =>
 have p1:=bY e1;have hg:g<256:=p1.1;have hn1:=p1.2;have i1:i64 (n1:Int):=by omega
 rw[e1,bV p1]at h;rw[aj];refine tQ (by decide) rU tp rfl rfl h ?_;clear h;have key:∃ X:R az,X=(if q=true then R.ok i n1 else jK b n1 r.toNat)∧(∀ j n,X=.ok j n→((j.Fit∧j.may r.toNat)∧n≤b.length)∧(Dn prog).call jD [.ptr 3 0,.ptr 4 0,.ptr 2 0,.ptr 0 0,.ptr 5 0,.ptr 1 0,.ptr 6 0] ⟨ct b r q iv [.d (.int .i64 g),.d (.int .u8 0),.d (.int .u8 0),.d (.int .i64 0),.nl,.nl,.nl,.nl,.nl] n1 0 0 0,N⟩=some (.tup [],⟨ct b r q iv [.d (.int .i64 g),.d (.int .u8 j.seq),.d (.int .u8 j.shape),.d (.int .i64 j.max),.own false 1 (am j.groups),.nl,.nl,.nl,.nl] n 0 0 0,N⟩))∧
   (∀ e,X=.er e→(Dn prog).call jD [.ptr 3 0,.ptr 4 0,.ptr 2 0,.ptr 0 0,.ptr 5 0,.ptr 1 0,.ptr 6 0] ⟨ct b r q iv [.d (.int .i64 g),.d (.int .u8 0),.d (.int .u8 0),.d (.int .i64 0),.nl,.nl,.nl,.nl,.nl] n1 0 0 0,N⟩=some (.tup [],⟨ct b r q iv [.d (.int .i64 g),.d (.int .u8 0),.d (.int .u8 0),.d (.int .i64 0),.nl,.nl,.nl,.nl,.nl] 0 ((e:Int)+1) 0 0,N⟩)):=by
  refine⟨_,rfl,fun j n h=>?_,fun e h=>?_⟩
  ·cases hqc:q with
   | true =>
    rw[hqc]at h;simp only[if_true]at h;injection h with g1 g2
    subst g1 g2;exact⟨⟨⟨hi,hq hqc⟩,hn1⟩,aok b r true iv n1 0 0 N rfl i (by have:=hi.len;omega) (hiv.resolve_right fun h=>by rw[hqc]at h;exact absurd h.1 (by simp)) (.d (.int .i64 g)) (.d (.int .u8 0)) (.d (.int .u8 0)) (.d (.int .i64 0)) .nl .nl .nl .nl .nl⟩
   | false =>
    rw[hqc]at h;simp only[Bool.false_eq_true,if_false]at h;have hp:=CR hR h;have h3:=acK b hb r false iv n1 0 0 i1 N rfl hr i (by have:=hi.len;omega) (hiv.imp id And.right) (.d (.int .i64 g)) (.d (.int .u8 0)) (.d (.int .u8 0)) (.d (.int .i64 0)) .nl .nl .nl .nl .nl;rw[h,bV hp]at h3;exact⟨⟨⟨Sw hR hp.1 hp.2.2,hp.1⟩,hp.2.1⟩,h3⟩
  ·cases hqc:q with
   | true=>rw[hqc]at h;simp at h
   | false =>
    rw[hqc]at h;simp only[Bool.false_eq_true,if_false]at h;have h3:=acK b hb r false iv n1 0 0 i1 N rfl hr i (by have:=hi.len;omega) (hiv.imp id And.right) (.d (.int .i64 g)) (.d (.int .u8 0)) (.d (.int .u8 0)) (.d (.int .i64 0)) .nl .nl .nl .nl .nl;rw[h,dH]at h3;exact h3
 obtain⟨X,hX,hX1,hX2⟩:=key;rw[←hX]
 cases e2:X with
 | er e=>exact t8 (by decide) jD _ rfl rfl (hX2 e e2)
 | ok j n2 =>
 obtain⟨⟨⟨hj,hjm⟩,hn2⟩,h⟩:=hX1 j n2 e2;have i2:i64 (n2:Int):=by omega
 have hjm11:=kN hR hjm;have hmx:=ox hjm11;obtain⟨gr1,gr2⟩:=eR hjm11;have hmm:=pE j;have hgn:j.groups≠[]:=fun h=>by rw[h]at gr2;simp at gr2;omega
 rw[aj];refine tQ (by decide) jD _ rfl rfl h ?_;clear h hX hX1 hX2 e2 X;have h:=apQ b hb r q iv n2 0 0 i2 N j hj hjm11 hgn (.d (.int .i64 g)) .nl .nl .nl .nl
 cases e3:qc b j n2 with
 | er e=>rw[e3,dH]at h;exact t8 (by decide) rR tp rfl rfl h
 | ok S n3 =>
 have p3:=ag6 e3;have hn3:=p3.2.1;have i3:i64 (n3:Int):=by omega
 obtain⟨s1,s2,s3,s4,s5⟩:=aeZ hjm11 p3;rw[e3,bV p3]at h;rw[aj];refine tQ (by decide) rR tp rfl rfl h ?_;clear h;have h:=aqW b hb r q iv n3 0 0 i3 N g (by omega) j.max hmx S s1 s2 s3.2 (fun l hl=>by have:=s4 l hl;omega) s5 (.d (.int .u8 j.seq)) (.d (.int .u8 j.shape)) (.d (.int .i64 j.max)) (.own false 1 (am j.groups)) .nl .nl .nl
 cases e4:u4 b S n3 g with
 | er e=>rw[e4,dH]at h;exact t8 (by decide) rW tp rfl rfl h
 | ok T n4 =>
 have p4:=akj (by omega) e4;have hn4:=p4.2;have i4:i64 (n4:Int):=by omega
 rw[e4,bV p4]at h;rw[aj];refine tQ (by decide) rW tp rfl rfl h ?_;clear h;have h:=aqB b hb r q iv n4 0 0 i4 N [.d (.int .i64 g),.d (.int .u8 j.seq),.d (.int .u8 j.shape),.d (.int .i64 j.max),.own false 1 (am j.groups),ah 1 (aM S),share (ah 1 (bO T)),.nl,.nl]
 cases e5:aw b n4 1 with
 | er e=>rw[e5,dH]at h;exact t8 (by decide) rO _ rfl rfl h
 | ok o n5 =>
 have p5:=bY e5;have ho:o<2:=p5.1;have hn5:=p5.2;have i5:i64 (n5:Int):=by omega
 rw[e5,bV p5]at h;rw[aj];refine tQ (by decide) rO _ rfl rfl h ?_;clear h;have h:=apY b hb r q iv n5 o 0 i5 N [.d (.int .i64 g),.d (.int .u8 j.seq),.d (.int .u8 j.shape),.d (.int .i64 j.max),.own false 1 (am j.groups),ah 1 (aM S),share (ah 1 (bO T)),.nl,.nl]
 cases e6:aw b n5 1 with
 | er e=>rw[e6,dH]at h;exact t8 (by decide) r7 _ rfl rfl h
 | ok s n6 =>
 have p6:=bY e6;have hs:s<2:=p6.1;have hn6:=p6.2;have i6:i64 (n6:Int):=by omega
 rw[e6,bV p6]at h;rw[aj];refine tQ (by decide) r7 _ rfl rfl h ?_;clear h;have key:∃ X:R (List (List bG)),X=(if s=1 then FO b j n6 else R.ok (List.replicate j.many []) n6)∧(∀ F n,X=.ok F n→pTn b j F n∧(Dn prog).call jA [.ptr 8 0,.ptr 0 0,.ptr 5 0,.ptr 4 0,.ptr 6 0] ⟨ct b r q iv [.d (.int .i64 g),.d (.int .u8 j.seq),.d (.int .u8 j.shape),.d (.int .i64 j.max),.own false 1 (am j.groups),ah 1 (aM S),share (ah 1 (bO T)),.nl,.nl] n6 0 o s,N⟩=some (.tup [],⟨ct b r q iv [.d (.int .i64 g),.d (.int .u8 j.seq),.d (.int .u8 j.shape),.d (.int .i64 j.max),.own false 1 (am j.groups),ah 1 (aM S),share (ah 1 (bO T)),ah 1 (bt F),.nl] n 0 o s,N⟩))∧
   (∀ e,X=.er e→(Dn prog).call jA [.ptr 8 0,.ptr 0 0,.ptr 5 0,.ptr 4 0,.ptr 6 0] ⟨ct b r q iv [.d (.int .i64 g),.d (.int .u8 j.seq),.d (.int .u8 j.shape),.d (.int .i64 j.max),.own false 1 (am j.groups),ah 1 (aM S),share (ah 1 (bO T)),.nl,.nl] n6 0 o s,N⟩=some (.tup [],⟨ct b r q iv [.d (.int .i64 g),.d (.int .u8 j.seq),.d (.int .u8 j.shape),.d (.int .i64 j.max),.own false 1 (am j.groups),ah 1 (aM S),share (ah 1 (bO T)),.nl,.nl] 0 ((e:Int)+1) o s,N⟩)):=by
  refine⟨_,rfl,fun F n h=>?_,fun e h=>?_⟩
  ·by_cases h1:s=1
   ·rw[if_pos h1]at h;have hp:=agf hb i6 h;have h3:=acQ b hb r q iv n6 o s i6 N j hj hjm11 (by omega) (.d (.int .i64 g)) (ah 1 (aM S)) (share (ah 1 (bO T))) .nl .nl;rw[h,bV hp]at h3;exact⟨hp,h3⟩
   ·rw[if_neg h1]at h;injection h with g1 g2
    subst g1 g2;have h3:=anu b r q iv n6 o s N j hj hjm11 (by omega) (.d (.int .i64 g)) (ah 1 (aM S)) (share (ah 1 (bO T))) .nl .nl;refine⟨⟨by simp,hn6,fun l hl=>by rw[List.eq_of_mem_replicate hl];simp⟩,?_⟩;have e9:ah 1 (bt (List.replicate j.many []))=.own false 1 (bt (List.replicate j.many [])):=E1 (fun hz=>by
     have:=congrArg List.length hz;rw[U5,List.length_replicate,List.length_nil]at this;omega)
    rw[e9];exact h3
  ·by_cases h1:s=1
   ·rw[if_pos h1]at h;have h3:=acQ b hb r q iv n6 o s i6 N j hj hjm11 (by omega) (.d (.int .i64 g)) (ah 1 (aM S)) (share (ah 1 (bO T))) .nl .nl;rw[h,dH]at h3;exact h3
   ·rw[if_neg h1]at h;exact absurd h (by simp)
 obtain⟨X,hX,hX1,hX2⟩:=key;rw[←hX]
 cases e7:X with
 | er e=>exact t8 (by decide) jA _ rfl rfl (hX2 e e7)
 | ok F n7 =>
 obtain⟨p7,h⟩:=hX1 F n7 e7;have hn7:=p7.2.1;have i7:i64 (n7:Int):=by omega
 rw[aj];refine tQ (by decide) jA _ rfl rfl h ?_;clear h hX hX1 hX2 e7 X;have h:=aq1 b hb r q iv n7 o s i7 N [.d (.int .i64 g),.d (.int .u8 j.seq),.d (.int .u8 j.shape),.d (.int .i64 j.max),.own false 1 (am j.groups),ah 1 (aM S),share (ah 1 (bO T)),ah 1 (bt F),.nl] (by omega)
 cases e8:aw b n7 1 with
 | er e=>rw[e8,dH]at h;exact t8 (by decide) rV _ rfl rfl h
 | ok p n8 =>
 have p8:=bY e8;have hp8:p<2:=p8.1;have hn8:=p8.2;rw[e8,bV p8]at h;rw[aj];refine tQ (by decide) rV _ rfl rfl h ⟨⟨fun H n hh=>?_,fun e hh=>absurd hh (by simp)⟩,fun H n hh=>?_⟩
 ·injection hh with g1 g2
  subst g1 g2;exact anN b r q iv N
 ·injection hh with g1 g2
  subst g1 g2;exact⟨by simp only[];omega,hj,hjm,s3,s4,p4.1,⟨p7.1,p7.2.2⟩,by simp only[RB];split<;>omega,by simp only[];omega,hn8⟩
structure GO where
 o1:Obj
 o2:Obj
 o3:Obj
 o7:Obj
 o8:Obj
 o9:Obj
 oX:Obj
 o14:Obj
 o15:Obj
 o16:Obj
abbrev GH (b:List Nat) (g:GO) (cs:List AV) (nx e:Int) (Z:List Int) (C:List AV) (lo:Obj) (T:af):af:=(0,.cells [.d (.lst (ae b))])::(1,g.o1)::(2,g.o2)::(3,g.o3)::(4,.cells cs)::(5,.cells [.d (.int .i64 nx)])::(6,.cells [.d (.int .i64 e)])::(7,g.o7)::(8,g.o8)::(9,g.o9)::(10,g.oX)::(11,.arr 1 (am Z))::(12,.cells C)::(13,.cells [.ptr 12 0])::(14,g.o14)::(15,g.o15)::(16,g.o16)::(17,lo)::T
abbrev arq:aq:=[(5,.ptr 0 0),(10,.ptr 4 0),(11,.ptr 5 0),(12,.ptr 6 0),(13,.ptr 7 0),(14,.ptr 8 0),(18,.ptr 13 0),(82,.fn ik [] [.ptr 15 0,.ptr 14 0,.ptr 16 0])]
theorem ajZ {Z l:List Int}{a:Nat}:ai (am Z) a (am l)=am (ai Z a l):=by simp[ai,am]
theorem anH {h:af}{xs:List (List D)}{id a b n:Nat}(hab:a≤b) (hb:b≤n) (hn:n≤1000000000) (hg:get h id=some (.arr 1 xs)) (x y:Int) (hx:x=a) (hy:y=b):gX h 1 (.sl id 0 n) (some (.d (.int .i64 x))) (some (.d (.int .i64 y))) none=some (.sl id a (b-a)):=by
 subst hx hy;have e1:cB (.d (.int .i64 (b:Int))) n=some b:=by rw[An (by omega) (by omega)];simp
 have e2:cB (.d (.int .i64 (a:Int))) b=some a:=by rw[An (by omega) (by omega)];simp
 have e3:okSl h 1 (.sl id 0 n)=true:=by simp only[okSl,hg];rfl
 simp only[gX,e3,qq,lenOf,sm,qu,e1,e2,Nat.zero_add]
theorem aoc {h:af}{Z l:List Int}{id a n:Nat}{y:AV}(hn:l.length=n) (hb:a+n≤Z.length) (he:elems h y=some (am l)) (hg:get h id=some (.arr 1 (am Z))):X4 1 h (.sl id a n) y=some (.int .i64 (n:Nat),put h id (.arr 1 (am (ai Z a l)))):=by
 have e1:Nat.ble (a+n) (am Z).length=true:=by rw[Nat.ble_eq,mM];exact hb
 have e2:min n (am l).length=n:=by rw[mM,hn,Nat.min_self]
 have e3:(am l).take n=am l:=List.take_of_length_le (by rw[mM];omega);have e4:(dt 1 (am l) && Nat.beq 1 1 && Nat.ble (a+n) (am Z).length)=true:=by rw[ajG,e1];rfl
 simp only[X4,he,hg,e4,e2,e3,ajZ];rfl
theorem ap2 {F:List AV→af}{A N:Nat}(hL:∀ C,Lt (F C) N) (hg:∀ C T,get (F C++T) A=some (.cells C)) (hp:∀ C T C',put (F C++T) A (.cells C')=F C'++T):Bk (fun C T=>F C++T) A N:=by
 refine⟨hg,hp,fun C o=>?_,fun C o o'=>Sh (hL C),fun C o=>Km (hL C),fun C o=>?_⟩
 ·show put (F C++[]) N o=_;rw[List.append_nil];exact El (hL C)
 ·show _=F C++[];rw[List.append_nil];exact acu (hL C)
theorem aqd (b:List Nat) (g:GO) (cs:List AV) (nx e0:Int) (Z:List Int) (lo:Obj) (K:Nat) (hK:18≤K) (o w:Obj) (N:Nat) (hN:K<N):Bk (fun C T=>GH b g cs nx e0 Z C lo [(K,o),(N,w)]++T) 12 (N+1):=by
 refine ap2 (fun C p hp=>?_) (fun C T=>rfl) (fun C T C'=>rfl);simp only[List.mem_cons,List.not_mem_nil,or_false]at hp;rcases hp with rfl | rfl | rfl | rfl | rfl | rfl | rfl | rfl | rfl | rfl | rfl | rfl | rfl | rfl | rfl | rfl | rfl | rfl | rfl | rfl<;>simp only[]<;>omega
abbrev kW (d:Bool):Obj:=.loop arq [83] mc mf d none
abbrev Fo:Obj:=.loop arq [83] mc mf false (some .ret)
abbrev plO (p:Nat×Nat):Obj:=.cells [.d (.int .i64 (p.1:Int)),.d (.int .i64 (p.2:Int)),.d (.int .i64 ((p.2+bp p.1:Nat):Int))]
theorem ass (b:List Nat) (g:GO) (a0 a1 a2 a3 a4 a5 a6 a7:AV) (nx e0:Int) (Z:List Int) (hZ:Z.length=256) (C:List AV) (hC:Fk C) (p:Nat×Nat) (hp:(1≤p.1∧p.1≤11)∧p.2+bp p.1≤256) (l:List Int) (hl:l.length=bp p.1) (n2:Nat) (hh:aS prog qK [.d (.lst (ae b)),.d (.int .i64 nx),qH p.1]=some (.tup [.own true 1 (am l),.d (.int .i64 n2),.d (.int .i64 0)])) (K:Nat) (o:Obj) (hK:18≤K) (N:Nat) (hN:K<N) :
  bD (Dn prog) (.yield 17) [.agg [.d (.int .i64 (p.1:Int)),.d (.int .i64 (p.2:Int)),.d (.int .i64 ((p.2+bp p.1:Nat):Int))]] ⟨GH b g [a0,a1,a2,a3,a4,a5,a6,a7,.sl 11 0 256] nx e0 Z C (kW false) [(K,o)],N⟩ =
  some (.d (.bool true),⟨GH b g [a0,a1,a2,a3,a4,a5,a6,a7,.sl 11 0 256] n2 0 (ai Z p.2 l) (ai C (4*p.1) (qz p.1)) (kW false) [(K,o)],N+1+1⟩):=by
 obtain⟨h1,h2⟩:=hp;have hB:=Uk (aqd b g [a0,a1,a2,a3,a4,a5,a6,a7,.sl 11 0 256] nx e0 Z (kW true) K hK o (plO p) N hN) C hC p.1 h1;have hs:=fun C2=>anH (h:=GH b g [a0,a1,a2,a3,a4,a5,a6,a7,.sl 11 0 256] n2 0 Z C2 (kW true) [(K,o),(N,plO p)]) (xs:=am Z) (id:=11) (a:=p.2) (b:=p.2+bp p.1) (n:=256) (by omega) h2 (by omega) rfl (p.2:Int) _ rfl rfl
 rw[Nat.add_sub_cancel_left]at hs;have hc:=fun C2=>aoc (h:=GH b g [a0,a1,a2,a3,a4,a5,a6,a7,.sl 11 0 256] n2 0 Z C2 (kW true) [(K,o),(N,plO p)]) (id:=11) (a:=p.2) (n:=bp p.1) (y:=.own false 1 (am l)) hl (by omega) rfl rfl
 generalize ai C (4*p.1) (qz p.1)=C2 at *;replace hs:=hs C2;replace hc:=hc C2;obtain⟨TO,hT⟩:∃ TO:Int,TO=((p.2+bp p.1:Nat):Int):=⟨_,rfl⟩
 simp only[GH,plO,kW,List.cons_append,List.nil_append,qH]at hB hs hc hh⊢;rw[←hT]at hB hs hc⊢;obtain⟨o1,o2,o3,o7,o8,o9,oX,o14,o15,o16⟩:=g;simp only[]at *;have eA:∀ st,(Dn prog).code mc st=(Dn prog).code yS st:=fun _=>rfl
 have eB:∀ st,(Dn prog).code mf st=(Dn prog).code (.block 3
  (.seq zJ
  (.seq (.seq (.seq sT (Vm.K [18,84]))
  (.seq zy
  (.cond (.m 96)
  (.seq (.seq (Vm.K [20]) (F 19)) (.seq (.seq sE (Vm.K [12]))
  .ret))
  (.seq (Vm.K [11,12]) .skip))))
  (.seq zB (F 19))))) st:=fun _=>rfl
 simp (config := { maxSteps:=1000000 }) (disch:=omega) [↓if_pos,↓if_neg,eA,eB,hh,hB,hs,hc]
theorem asP (b:List Nat) (g:GO) (a0 a1 a2 a3 a4 a5 a6 a7:AV) (nx e0:Int) (Z:List Int) (C:List AV) (hC:Fk C) (p:Nat×Nat) (hp:(1≤p.1∧p.1≤11)∧p.2+bp p.1≤256) (e:Nat) (hh:aS prog qK [.d (.lst (ae b)),.d (.int .i64 nx),qH p.1]=some (.tup [.nl,.d (.int .i64 0),.d (.int .i64 (e+1))])) (K:Nat) (o:Obj) (hK:18≤K) (N:Nat) (hN:K<N) :
  bD (Dn prog) (.yield 17) [.agg [.d (.int .i64 (p.1:Int)),.d (.int .i64 (p.2:Int)),.d (.int .i64 ((p.2+bp p.1:Nat):Int))]] ⟨GH b g [a0,a1,a2,a3,a4,a5,a6,a7,.sl 11 0 256] nx e0 Z C (kW false) [(K,o)],N⟩ =
  some (.d (.bool false),⟨GH b g WK 0 ((e:Int)+1) Z (ai C (4*p.1) (qz p.1)) Fo [(K,o)],N+1+1⟩):=by
 obtain⟨h1,h2⟩:=hp;have hB:=Uk (aqd b g [a0,a1,a2,a3,a4,a5,a6,a7,.sl 11 0 256] nx e0 Z (kW true) K hK o (plO p) N hN) C hC p.1 h1;generalize ai C (4*p.1) (qz p.1)=C2 at *;obtain⟨TO,hT⟩:∃ TO:Int,TO=((p.2+bp p.1:Nat):Int):=⟨_,rfl⟩
 simp only[GH,plO,kW,Fo,List.cons_append,List.nil_append,qH]at hB hh⊢;rw[←hT]at hB⊢;obtain⟨o1,o2,o3,o7,o8,o9,oX,o14,o15,o16⟩:=g;simp only[]at *;have eA:∀ st,(Dn prog).code mc st=(Dn prog).code yS st:=fun _=>rfl
 have eB:∀ st,(Dn prog).code mf st=(Dn prog).code (.block 3
  (.seq zJ
  (.seq (.seq (.seq sT (Vm.K [18,84]))
  (.seq zy
  (.cond (.m 96)
  (.seq (.seq (Vm.K [20]) (F 19)) (.seq (.seq sE (Vm.K [12]))
  .ret))
  (.seq (Vm.K [11,12]) .skip))))
  (.seq zB (F 19))))) st:=fun _=>rfl
 simp (config := { maxSteps:=1000000 }) (disch:=omega) [↓if_pos,↓if_neg,eA,eB,hh,hB]
theorem MZ {r:Nat}{jj:az}{SS:List (List aG)}(hm:jj.may r) (hS:qD jj SS) (hr:r≤11) {p:Nat×Nat}(hp:p∈sf (offs r jj.short) SS jj.groups 0):(1≤p.1∧p.1≤11)∧p.2+bp p.1≤256:=by
 have hm11:=kN hr hm;obtain⟨g1,g2⟩:=eR hm11;obtain⟨w,g,j,l,e1,e2,e3,e4,e5,e6,x,e7,e8⟩:=J5 hS.2 (fun n hn=>(g1 n hn).1) hp;obtain⟨o1,o2,o3⟩:=xI (r,jj.short) (iX (by omega));simp only at o1 o2 o3;have hmx:=hm.2.2.2.1;have hlm:l∈SS:=List.mem_of_getElem? e1;have hbl:=ahN (hS.2 l hlm) hm.2.2.1;have hjl:j<(aL l).length:=(List.getElem?_eq_some_iff.1 e5).1;have hmy:oT r (decide (jj.seq=2))=(offs r jj.short).length-1:=rfl;have hj1:j+1<(offs r jj.short).length:=by omega
 have hoj:nth (offs r jj.short) j<nth (offs r jj.short) (j+1)∧(nth (offs r jj.short) (j+1)-nth (offs r jj.short) j) % 4=0:=by
  have:=List.all_eq_true.1 o1 j (List.mem_range.2 (by omega));simpa using this
 have hos:∀ k,k+1<(offs r jj.short).length→nth (offs r jj.short) k<nth (offs r jj.short) (k+1):=fun k hk=>by
  have:=List.all_eq_true.1 o1 k (List.mem_range.2 (by omega));simp only[Bool.and_eq_true,decide_eq_true_eq]at this;exact this.1
 have hd4:bp p.1=4∨bp p.1=2:=by unfold bp;split<;>simp
 have hx:=KJ (d:=bp p.1) (by omega) (by rcases hd4 with h | h<;>rw[h]<;>omega) e7;have hw:(w:Int)<jj.many:=by omega
 have ho256:nth (offs r jj.short) (j+1)≤cond jj.short 32 256:=by
  have:=List.all_eq_true.1 o3 _ (ig hj1);simpa using this
 have hcond:(cond jj.short 32 256:Nat)=jj.wide:=by
  unfold az.short az.wide;by_cases h:jj.seq=2
  ·rw[decide_eq_true h,if_pos h];rfl
  ·rw[decide_eq_false h,if_neg h];rfl
 rw[hcond]at ho256;have hww:w*32=w*jj.wide∧w*jj.wide+jj.wide≤256:=by
  unfold az.many at hw;unfold az.wide;split at hw
  ·rename_i h2;rw[if_pos h2];omega
  ·rename_i h2;rw[if_neg h2];omega
 exact⟨e6,by omega⟩
theorem apN:∀ id∈List.range 12,1≤id→cL id=bp id:=by decide +kernel
def jU (b:List Nat):List (Nat×Nat)→Nat→List Int→R (List Int)
 | [],n,Z=>.ok Z n
 | p::r,n,Z=>(xV p.1 b n).bind fun l m=>jU b r m (ai Z p.2 l)
abbrev StG:Type:=List AV×Nat×List Int
abbrev OE (b:List Nat) (p:Nat×Nat) (s:StG):Sum StG (List AV×Nat×List Int):=match xV p.1 b s.2.1 with
 | .ok l n=>.inl (ai s.1 (4*p.1) (qz p.1),n,ai s.2.2 p.2 l)
 | .er e=>.inr (ai s.1 (4*p.1) (qz p.1),e,s.2.2)
abbrev vH:List AV:=[.d (.int .i64 0),.d (.int .u8 0),.d (.int .u8 0),.d (.int .i64 0),.nl,.nl,.nl,.nl,.nl]
abbrev au7 (B:Nat) (r:List (Nat×Nat)) (s:StG):Prop:=Fk s.1∧s.2.1≤B∧s.2.2.length=256∧(∀ x∈s.2.2,-40000≤x∧x≤40000)∧∀ p∈r,(1≤p.1∧p.1≤11)∧p.2+bp p.1≤256
theorem W1 {Z l:List Int}{a:Nat}(h:a+l.length≤Z.length):(ai Z a l).length=Z.length:=by
 simp only[ai,List.length_append,List.length_take,List.length_drop];omega
theorem amA {Z l:List Int}{a:Nat}{x:Int}(h:x∈ai Z a l):x∈Z∨x∈l:=by
 simp only[ai,List.mem_append]at h;rcases h with (h | h) | h
 ·exact .inl (List.mem_of_mem_take h)
 ·exact .inr h
 ·exact .inl (List.mem_of_mem_drop h)
theorem as0 (b:List Nat) (hb:b.length≤1000000000) (g:GO) (a0 a1 a2 a3 a4 a5 a6 a7:AV):OK (fun(s:StG) T=>GH b g [a0,a1,a2,a3,a4,a5,a6,a7,.sl 11 0 256] s.2.1 0 s.2.2 s.1 (kW false) T) (fun(z:List AV×Nat×List Int) T=>GH b g vH 0 ((z.2.1:Int)+1) z.2.2 z.1 Fo T) 18 17 (OE b) (au7 b.length):=by
 intro p r s K o N hi hK hN;obtain⟨C,n0,Z⟩:=s;obtain⟨i1,i2,i3,i4,i5⟩:=hi;simp only at i1 i2 i3 i4;have hp:=i5 p (.head _);have hH:=akk p.1 b n0 hb (by omega) hp.1;have hd:=apN p.1 (List.mem_range.2 (by omega)) hp.1.1
 cases e:xV p.1 b n0 with
 | ok l n =>
  have hq:=an5 ⟨hp.1.1,by omega⟩ e;rw[e,bV hq]at hH;obtain⟨q1,q2,q3⟩:=hq;have hl:l.length=bp p.1:=by omega
  refine .inl ⟨(ai C (4*p.1) (qz p.1),n,ai Z p.2 l),N+1+1,by omega,by simp only[OE,e],⟨agb i1 hp.1,q2,?_,fun x hx=>?_,fun q hq=>i5 q (.tail _ hq)⟩,ass b g a0 a1 a2 a3 a4 a5 a6 a7 n0 0 Z i3 C i1 p hp l hl n hH K o hK N hN⟩
  ·show (ai Z p.2 l).length=256;rw[W1 (by omega)];exact i3
  ·rcases amA hx with h | h
   ·exact i4 x h
   ·exact q3 x h
 | er e2 =>
  rw[e,dH]at hH;exact .inr ⟨(ai C (4*p.1) (qz p.1),e2,Z),N+1+1,by omega,by simp only[OE,e],asP b g a0 a1 a2 a3 a4 a5 a6 a7 n0 0 Z C i1 p hp e2 hH K o hK N hN⟩
theorem alr {b:List Nat}:∀ {r:List (Nat×Nat)}{C:List AV}{n:Nat}{Z:List Int},(∀ Z2 m,jU b r n Z=.ok Z2 m→∃ C2,gE (OE b) r (C,n,Z)=.inl (C2,m,Z2))∧∀ e,jU b r n Z=.er e→∃ C2 Z2,gE (OE b) r (C,n,Z)=.inr (C2,e,Z2)
 | [],C,n,Z=>⟨fun Z2 m h=>by
   injection h with g1 g2
   subst g1 g2;exact⟨C,rfl⟩,fun e h=>absurd h (by simp[jU])⟩
 | p::r,C,n,Z=>by
  rw[jU,gE]
  cases e:xV p.1 b n with
  | ok l m =>
   simp only[OE,e,aj];exact alr
  | er e2 =>
   simp only[OE,e];exact⟨fun Z2 m h=>absurd h (by simp),fun e3 h=>by
    injection h with h
    subst h;exact⟨_,_,rfl⟩⟩
theorem alZ {b:List Nat}{g:GO}{cs:List AV}{nx e0:Int}{Z:List Int}{C:List AV}{lo:Obj}{L:Nat}(hL:18≤L):Lt (GH b g cs nx e0 Z C lo []) L:=by
 intro p hp;simp only[List.mem_cons,List.not_mem_nil,or_false]at hp;rcases hp with rfl | rfl | rfl | rfl | rfl | rfl | rfl | rfl | rfl | rfl | rfl | rfl | rfl | rfl | rfl | rfl | rfl | rfl<;>simp only[]<;>omega
theorem agN {σ:Type}{F:σ→af}{L:Nat}(hL:∀ s,Lt (F s) L):Tl (fun s T=>F s++T) L:=by
 refine⟨fun s K o h=>?_,fun s K o o' h=>Sh (WG (hL s) h),fun s K o h=>Km (WG (hL s) h),fun s K o h=>?_⟩
 ·show put (F s++[]) K o=_;rw[List.append_nil];exact El (WG (hL s) h)
 ·show _=F s++[];rw[List.append_nil];exact acu (WG (hL s) h)
abbrev IB (r:Nat) (jj:az) (S:List (List aG)):List (Nat×Nat):=sf (offs r jj.short) S jj.groups 0
abbrev Z0:List Int:=List.replicate 256 0
theorem UG (b:List Nat) (hb:b.length≤1000000000) (g:GO) (a0 a1 a2 a3 a4 a5 a6 a7:AV) (r:Nat) (hr:r≤11) (jj:az) (hj:jj.Fit) (hm:jj.may r) (S:List (List aG)) (hS:qD jj S) (g14:g.o14=.cells jj.cells) (g15:g.o15=.cells [.d (.lst (aM S))]) (g16:g.o16=.cells [.own false 1 (bB (offs r jj.short))]) (n:Nat) (hn:n≤b.length) :
  (∀ Z m,jU b (IB r jj S) n Z0=.ok Z m→Z.length=256∧(∀ x∈Z,-40000≤x∧x≤40000)∧m≤b.length∧∃ C2 M,(Dn prog).call ik [.yield 17,.ptr 15 0,.ptr 14 0,.ptr 16 0] ⟨GH b g [a0,a1,a2,a3,a4,a5,a6,a7,.sl 11 0 256] n 0 Z0 wx (kW false) [],18⟩=some (.tup [],⟨GH b g [a0,a1,a2,a3,a4,a5,a6,a7,.sl 11 0 256] m 0 Z C2 (kW false) [],M⟩))∧
  (∀ e,jU b (IB r jj S) n Z0=.er e→∃ C2 Z2 M,(Dn prog).call ik [.yield 17,.ptr 15 0,.ptr 14 0,.ptr 16 0] ⟨GH b g [a0,a1,a2,a3,a4,a5,a6,a7,.sl 11 0 256] n 0 Z0 wx (kW false) [],18⟩=some (.tup [],⟨GH b g vH 0 ((e:Int)+1) Z2 C2 Fo [],M⟩)):=by
 obtain⟨o1,o2,o3,o4⟩:=Vh (r,jj.short) (iX (by omega));obtain⟨p1,p2,p3⟩:=xI (r,jj.short) (iX (by omega));simp only at o1 o2 o3 o4 p1 p2 p3;have hmx:=hm.2.2.2.1;have hmy:oT r (decide (jj.seq=2))=(offs r jj.short).length-1:=rfl;have hhi:∀ x∈offs r jj.short,x≤256:=fun x hx=>by
  have:=List.all_eq_true.1 p3 x hx;simp only[decide_eq_true_eq]at this;have:(cond jj.short 32 256:Nat)≤256:=by cases jj.short<;>decide
  omega
 have hT:Tl (fun(s:StG) T=>GH b g [a0,a1,a2,a3,a4,a5,a6,a7,.sl 11 0 256] s.2.1 0 s.2.2 s.1 (kW false) T) 18:=agN (F:=fun(s:StG)=>GH b g [a0,a1,a2,a3,a4,a5,a6,a7,.sl 11 0 256] s.2.1 0 s.2.2 s.1 (kW false) []) (fun s=>alZ (Nat.le_refl _));have hT2:Tl (fun(z:List AV×Nat×List Int) T=>GH b g vH 0 ((z.2.1:Int)+1) z.2.2 z.1 Fo T) 18:=agN (F:=fun(z:List AV×Nat×List Int)=>GH b g vH 0 ((z.2.1:Int)+1) z.2.2 z.1 Fo []) (fun s=>alZ (Nat.le_refl _));have hpl:=akn (P:=⟨17,14,16,S,offs r jj.short⟩) jj hj (kN hr hm) 15 hT hT2 (as0 b hb g a0 a1 a2 a3 a4 a5 a6 a7) (fun s=>by rw[←g15];rfl) (fun s T=>by rw[←g14];rfl) (fun s T=>by rw[←g16];rfl) (by simp only[];omega) hhi (by simp only[];omega) hS 18 (Nat.le_refl _) (wx,n,Z0) ⟨ai9,hn,by simp only[List.length_replicate],fun x hx=>by rw[List.eq_of_mem_replicate hx];omega,fun p hp=>MZ hm hS hr hp⟩;have hru:=alr (b:=b) (r:=IB r jj S) (C:=wx) (n:=n) (Z:=Z0);refine⟨fun Z m e=>?_,fun e1 e=>?_⟩
 ·obtain⟨C2,h1⟩:=hru.1 Z m e;rcases hpl with ⟨s2,M,hM,e1,⟨i1,i2,i3,i4,i5⟩,e5⟩ | ⟨z,M,hM,e1,e3⟩
  ·rw[h1]at e1;injection e1 with e1
   subst e1;exact⟨i3,i4,i2,C2,M,e5⟩
  ·rw[h1]at e1;exact absurd e1 (by simp)
 ·obtain⟨C2,Z2,h1⟩:=hru.2 e1 e;rcases hpl with ⟨s2,M,hM,e1,⟨i1,i2,i3,i4,i5⟩,e5⟩ | ⟨z,M,hM,e1,e3⟩
  ·rw[h1]at e1;exact absurd e1 (by simp)
  ·rw[h1]at e1;injection e1 with e1
   subst e1;exact⟨C2,Z2,M,e3⟩
theorem alB:ya [.int .i64 0] (.d (.int .i64 256)) (.d (.int .i64 256))=some (.own true 1 (am Z0)):=(AG (z:=[.int .i64 0]) (n:=256) (by omega)).trans (by simp[am])
theorem ahQ:(am Z0).length=256:=by rw[mM,List.length_replicate]
abbrev Kr (H:Hd) (Z:List Int):List AV:=[.d (.int .i64 H.gain),.d (.int .u8 H.inf.seq),.d (.int .u8 H.inf.shape),.d (.int .i64 H.inf.max),.d (.lst (am H.inf.groups)),.d (.lst (aM H.S)),.d (.lst (bO H.T)),.d (.lst (bt H.F)),.own true 1 (am Z)]
theorem ae1:∀ r<12,(aS prog pe [.d (.int .i64 ((r:Nat):Int)),.agg zI]=some (.d (.int .i64 8))):=by
 intro r hr;have:r=0∨r=1∨r=2∨r=3∨r=4∨r=5∨r=6∨r=7∨r=8∨r=9∨r=10∨r=11:=by omega
 rcases this with rfl | rfl | rfl | rfl | rfl | rfl | rfl | rfl | rfl | rfl | rfl | rfl<;>exact tY 400 (by kernel_rfl)
theorem Fr {r:Nat}{q:Bool}{i:az}{iv:List AV}(hr:r≤11) (hi:i.Fit) (hiv:iv=i.cells∨q=false∧iv=zI) (hq:q=true→i.may r):∃ k:Int,(q=true→k=0)∧aS prog pe [.d (.int .i64 r),.agg iv]=some (.d (.int .i64 k)):=by
 rcases hiv with rfl | ⟨rfl,rfl⟩
 ·have hI:=Af r i hi;rw[if_pos (by omega),Int.toNat_natCast]at hI;by_cases hm:i.may r
  ·rw[if_pos hm]at hI;exact⟨0,fun _=>rfl,hI⟩
  ·rw[if_neg hm]at hI;exact⟨8,fun h=>absurd (hq h) hm,hI⟩
 ·exact⟨8,fun h=>absurd h (by simp),ae1 r (by omega)⟩
theorem anx (b:List Nat) (hb:b.length≤1000000000) (a:Int) (ha:i64 a) (r:Nat) (hr:r≤11) (q:Bool) (i:az) (hi:i.Fit) (iv:List AV) (hiv:iv=i.cells∨q=false∧iv=zI) (hq:q=true→i.may r) (n0:Nat) (e0:aw b a 0=.ok 0 n0) (H:Hd) (n:Nat) (eH:Ak b n0 r q i=.ok H n) (Z:List Int) (m:Nat) (eL:jU b (IB r H.inf H.S) n Z0=.ok Z m):aS prog mG [.d (.lst (ae b)),.d (.int .i64 a),.d (.int .i64 r),.d (.bool q),.agg iv] =
  if H.od=0∧(H.is=1→ve H.F=true) then some (.tup [.agg (Kr H Z),.d (.int .i64 m),.d (.int .i64 0)])
  else some (.tup [.agg vH,.d (.int .i64 0),.d (.int .i64 8)]):=by
 have hR:eM (r:Int):=by omega
 have hB:=dz b a 0 hb ha;have p0:=bY e0;rw[e0,bV p0]at hB;obtain⟨k,hk0,hI⟩:=Fr hr hi hiv hq;have hh:=Fs b hb r hR q i hi iv hiv (fun h=>by rw[Int.toNat_natCast];exact hq h) n0 (by have:=p0.2;omega) k 11;rw[Int.toNat_natCast]at hh;have p1:=hh.2 H n eH;have hl:=hh.1.1 H n eH;have hM:=gn r false;rw[if_pos hR]at hM;obtain⟨G,j,S,T,Ft,od,is⟩:=H;have hF:=Z3 Ft (by have:=p1.F.1;simp only at this;have:=pE j;omega) (fun l hl=>by have:=(p1.F.2 l hl).1;omega);simp only[Ys]at hl eL;obtain⟨q1,q2,q3,C2,M,hp⟩:=(UG b hb ⟨.cells [.junk],.cells [.d (.bool q)],.cells iv,.cells [.d (.int .i64 od)],.cells [.d (.int .i64 is)],.cells [YA],.cells pp,.cells j.cells,.cells [.d (.lst (aM S))],.cells [.own false 1 (bB (offs r j.short))]⟩ (.d (.int .i64 G)) (.d (.int .u8 j.seq)) (.d (.int .u8 j.shape)) (.d (.int .i64 j.max)) (.own false 1 (am j.groups)) (ah 1 (aM S)) (share (ah 1 (bO T))) (ah 1 (bt Ft)) r hr j p1.fit p1.may S p1.S rfl rfl rfl n p1.n).1 Z m eL;have hj11:=kN hr p1.may;have hSl:S.length=j.groups.length:=p1.S.1;have hTl:=congrArg List.length p1.T;simp only[List.length_map]at hTl;have hFl:=p1.F.1;simp only at hFl;have hmn:=pE j;have hgn:j.groups≠[]:=fun h=>by have:=(eR hj11).2;rw[h]at this;simp at this;omega
 have hg1:=List.length_pos_iff.2 hgn;obtain⟨s1,S1,rfl⟩:=List.exists_cons_of_ne_nil (List.length_pos_iff.1 (show 0<S.length by omega));obtain⟨t1,T1,rfl⟩:=List.exists_cons_of_ne_nil (List.length_pos_iff.1 (show 0<T.length by omega));obtain⟨f1,F1,rfl⟩:=List.exists_cons_of_ne_nil (List.length_pos_iff.1 (show 0<Ft.length by omega));have eS:ah 1 (aM (s1::S1))=.own false 1 (aM (s1::S1)):=rfl;have eT:share (ah 1 (bO (t1::T1)))=.d (.lst (bO (t1::T1))):=rfl;have eF:ah 1 (bt (f1::F1))=.own false 1 (bt (f1::F1)):=rfl;have hP:=Qi r hr j (.lst (aM (s1::S1))) [(0,.cells [.d (.lst (ae b))]),(1,.cells [.junk]),(2,.cells [.d (.bool q)]),(3,.cells iv),(4,.cells [.d (.int .i64 G),.d (.int .u8 j.seq),.d (.int .u8 j.shape),.d (.int .i64 j.max),.own false 1 (am j.groups),.own false 1 (aM (s1::S1)),.d (.lst (bO (t1::T1))),.own false 1 (bt (f1::F1)),.sl 11 0 256]),(5,.cells [.d (.int .i64 n)]),(6,.cells [.d (.int .i64 0)]),(7,.cells [.d (.int .i64 od)]),(8,.cells [.d (.int .i64 is)]),(9,.cells [YA]),(10,.cells pp),(11,.arr 1 (am Z0)),(12,.cells wx),(13,.cells [.ptr 12 0])] 14 (fun p hp=>by
  simp only[List.mem_cons,List.not_mem_nil,or_false]at hp;rcases hp with rfl | rfl | rfl | rfl | rfl | rfl | rfl | rfl | rfl | rfl | rfl | rfl | rfl | rfl<;>simp only[]<;>omega)
 have c0:((0:Nat):Int)=0:=rfl;rw[eS,eT,eF]at hl hp;simp only[Kr,az.cells,GH,kW,List.cons_append,List.nil_append,c0]at hI hl hp hP hB⊢;clear hh p1 eL eH q2 eS eT eF hi;generalize aM (s1::S1)=SS at *;generalize bO (t1::T1)=TT at *;generalize bt (f1::F1)=FF at *;generalize hz:am Z0=z0 at *;have hk:=alB;have hz2:=ahQ;rw[hz]at hk hz2;rw[ao yE yd rfl];have hmk:Ke 1 pp=true:=rfl;simp only[pp,tp]at hmk;have hZt:List.take 256 Z=Z:=List.take_of_length_le (by omega);have hoi:(od=0∧((((is:Nat):Int)=1∧ve (f1::F1)=true)∨(((is:Nat):Int)≠1)))∨(od=0∧((is:Nat):Int)=1∧ve (f1::F1)=false)∨od≠0:=by
  cases ve (f1::F1)<;>simp<;>omega
 have hii:(is=1)=(((is:Nat):Int)=1):=propext (by omega);simp only[hii];clear hii;generalize ve (f1::F1)=an at *;generalize ((is:Nat):Int)=iz at *;rcases hoi with ⟨h1,⟨h2,h3⟩ | h2⟩ | ⟨h1,h2,h3⟩ | h1
 ·subst h3;rw[if_pos ⟨h1,fun _=>rfl⟩];rcases hiv with rfl | ⟨rfl,rfl⟩
  ·simp only[az.cells]at hI hl hp hP⊢
   cases q with
   | true =>
    have:=hk0 rfl;subst this;simp (config := { maxSteps:=1000000 }) (disch:=omega) [↓if_pos,↓if_neg,rd,hB,hM,hI,hl,hk,hz2,hP,hp,hmk,hF,q1,hZt]
   | false=>simp (config := { maxSteps:=1000000 }) (disch:=omega) [↓if_pos,↓if_neg,rd,hB,hM,hI,hl,hk,hz2,hP,hp,hmk,hF,q1,hZt]
  ·simp only[zI]at hI hl hp hP⊢;simp (config := { maxSteps:=1000000 }) (disch:=omega) [↓if_pos,↓if_neg,rd,hB,hM,hI,hl,hk,hz2,hP,hp,hmk,hF,q1,hZt]
 ·rw[if_pos ⟨h1,fun h=>absurd h h2⟩];rcases hiv with rfl | ⟨rfl,rfl⟩
  ·simp only[az.cells]at hI hl hp hP⊢
   cases q with
   | true =>
    have:=hk0 rfl;subst this;simp (config := { maxSteps:=1000000 }) (disch:=omega) [↓if_pos,↓if_neg,rd,hB,hM,hI,hl,hk,hz2,hP,hp,hmk,hF,q1,hZt]
   | false=>simp (config := { maxSteps:=1000000 }) (disch:=omega) [↓if_pos,↓if_neg,rd,hB,hM,hI,hl,hk,hz2,hP,hp,hmk,hF,q1,hZt]
  ·simp only[zI]at hI hl hp hP⊢;simp (config := { maxSteps:=1000000 }) (disch:=omega) [↓if_pos,↓if_neg,rd,hB,hM,hI,hl,hk,hz2,hP,hp,hmk,hF,q1,hZt]
 ·subst h3;rw[if_neg (fun h=>absurd (h.2 h2) (by simp))];rcases hiv with rfl | ⟨rfl,rfl⟩
  ·simp only[az.cells]at hI hl hp hP⊢
   cases q with
   | true =>
    have:=hk0 rfl;subst this;simp (config := { maxSteps:=1000000 }) (disch:=omega) [↓if_pos,↓if_neg,rd,hB,hM,hI,hl,hk,hz2,hP,hp,hmk,hF,q1,hZt]
   | false=>simp (config := { maxSteps:=1000000 }) (disch:=omega) [↓if_pos,↓if_neg,rd,hB,hM,hI,hl,hk,hz2,hP,hp,hmk,hF,q1,hZt]
  ·simp only[zI]at hI hl hp hP⊢;simp (config := { maxSteps:=1000000 }) (disch:=omega) [↓if_pos,↓if_neg,rd,hB,hM,hI,hl,hk,hz2,hP,hp,hmk,hF,q1,hZt]
 ·rw[if_neg (fun h=>absurd h.1 h1)];rcases hiv with rfl | ⟨rfl,rfl⟩
  ·simp only[az.cells]at hI hl hp hP⊢
   cases q with
   | true =>
    have:=hk0 rfl;subst this;simp (config := { maxSteps:=1000000 }) (disch:=omega) [↓if_pos,↓if_neg,rd,hB,hM,hI,hl,hk,hz2,hP,hp,hmk,hF,q1,hZt]
   | false=>simp (config := { maxSteps:=1000000 }) (disch:=omega) [↓if_pos,↓if_neg,rd,hB,hM,hI,hl,hk,hz2,hP,hp,hmk,hF,q1,hZt]
  ·simp only[zI]at hI hl hp hP⊢;simp (config := { maxSteps:=1000000 }) (disch:=omega) [↓if_pos,↓if_neg,rd,hB,hM,hI,hl,hk,hz2,hP,hp,hmk,hF,q1,hZt]
end Go.Vm
end
