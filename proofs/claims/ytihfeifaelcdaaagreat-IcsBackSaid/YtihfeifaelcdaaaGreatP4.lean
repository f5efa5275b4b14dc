import Derived.Test.YtihfeifaelcdaaaGreatP3
set_option linter.unusedVariables false
set_option linter.unusedSimpArgs false
noncomputable section
namespace Go.Vm
set_option maxRecDepth 100000
set_option maxHeartbeats 4000000
def DS (C:Nat→Nat→Int) (n:Nat):Nat→List Nat→Nat→List Nat×Nat
 | 0,xs,a=>(xs,a)
 | f+1,xs,a=>if a+20≤n then DS C n f (insO C a 19 (a+1) xs) (a+20) else (xs,a)
def Jp (C:Nat→Nat→Int) (n bs:Nat):Nat→List Nat→Nat→List Nat×Nat
 | 0,xs,a=>(xs,a)
 | f+1,xs,a=>if a+2*bs≤n then Jp C n bs f (symM C (2*bs) xs a (a+bs) (a+2*bs)) (a+2*bs) else (xs,a)
def stE (C:Nat→Nat→Int) (n bs:Nat) (p:List Nat×Nat):List Nat:=if p.2+bs<n then symM C (n-p.2) p.1 p.2 (p.2+bs) n else p.1
def Wr (C:Nat→Nat→Int) (n:Nat):Nat→List Nat→Nat→List Nat
 | 0,xs,_=>xs
 | f+1,xs,bs=>if bs<n then Wr C n f (stE C n bs (Jp C n bs n xs 0)) (2*bs) else xs
def stS (C:Nat→Nat→Int) (n:Nat) (p:List Nat×Nat):List Nat:=insO C p.2 (n-(p.2+1)) (p.2+1) p.1
def lQ (C:Nat→Nat→Int) (n:Nat) (xs:List Nat):List Nat:=Wr C n n (stS C n (DS C n n xs 0)) 20
section
variable {hp:List Nat→ac}{D L:Nat}{F:AV}{C:Nat→Nat→Int}
theorem aqD (H:Hp hp D) (K:Cm hp L F C) (n:Nat) (hlen:n≤1000000000) (N:Nat):∀ (f a:Nat) (xs:List Nat),n<a+f*20+20→a≤n→xs.length=n→ck L xs→
  (Dn prog).code (.loop dT) ⟨[(0,.sl D 0 n),(1,.d (.int .i64 n)),(2,F),(6,.d (.int .i64 20)),(7,.d (.int .i64 a)),(8,.d (.int .i64 ((a:Int)+20)))],⟨hp xs,N⟩⟩ =
  some (.exit 0,⟨[(0,.sl D 0 n),(1,.d (.int .i64 n)),(2,F),(6,.d (.int .i64 20)),(7,.d (.int .i64 (DS C n f xs a).2))],⟨hp (DS C n f xs a).1,N⟩⟩)∧
  (DS C n f xs a).1.length=n∧ck L (DS C n f xs a).1∧a≤(DS C n f xs a).2∧(DS C n f xs a).2≤n∧∃ q,(DS C n f xs a).2=a+20*q:=by
 intro f
 induction f with
 | zero =>
  intro a xs h1 h2 hx u;refine⟨?_,hx,u,Nat.le_refl _,h2,0,rfl⟩;rw[aa dT.eq_1];simp (maxSteps:=300000) (disch:=omega) [↓if_pos,↓if_neg,DS,K.sh,K.fi]
 | succ f ih =>
  intro a xs h1 h2 hx u;rw[aa dT.eq_1,DS];by_cases h:a+20≤n
  ·rw[if_pos h];have h0:=JG H K n hlen a (a+20) N (by omega) h xs hx u;rw[show a+20-(a+1)=19 by omega]at h0;obtain⟨g1,g2,g3,g4,g5,q,g6⟩:=ih (a+20) (insO C a 19 (a+1) xs) (by omega) h (by rw[UE];exact hx) (u.insO (by omega));refine⟨?_,g2,g3,by omega,g5,q+1,by omega⟩;have c1:((a+20:Nat):Int)=(a:Int)+20:=rfl;rw[c1]at h0 g1;rw[←g1];simp (maxSteps:=300000) (disch:=omega) [↓if_pos,↓if_neg,K.sh,K.fi,h0]
  ·rw[if_neg h];refine⟨?_,hx,u,Nat.le_refl _,h2,0,rfl⟩;simp (maxSteps:=300000) (disch:=omega) [↓if_pos,↓if_neg,K.sh,K.fi]
theorem aqI (H:Hp hp D) (K:Cm hp L F C) (n:Nat) (hlen:n≤1000000000) (bs N:Nat) (hbs:1≤bs) (hb2:bs≤1000000000):∀ (f a:Nat) (xs:List Nat),n<a+f+1→a≤n→xs.length=n→ck L xs→
  (Dn prog).code (.loop dU) ⟨[(0,.sl D 0 n),(1,.d (.int .i64 n)),(2,F),(6,.d (.int .i64 bs)),(7,.d (.int .i64 a)),(8,.d (.int .i64 ((a:Int)+2*(bs:Int))))],⟨hp xs,N⟩⟩ =
  some (.exit 4,⟨[(0,.sl D 0 n),(1,.d (.int .i64 n)),(2,F),(6,.d (.int .i64 bs)),(7,.d (.int .i64 (Jp C n bs f xs a).2))],⟨hp (Jp C n bs f xs a).1,N⟩⟩)∧
  (Jp C n bs f xs a).1.length=n∧ck L (Jp C n bs f xs a).1∧(Jp C n bs f xs a).2≤n:=by
 intro f
 induction f with
 | zero =>
  intro a xs h1 h2 hx u;refine⟨?_,hx,u,h2⟩;rw[aa dU.eq_1];simp (maxSteps:=300000) (disch:=omega) [↓if_pos,↓if_neg,Jp,K.sh,K.fi]
 | succ f ih =>
  intro a xs h1 h2 hx u;rw[aa dU.eq_1,Jp];by_cases h:a+2*bs≤n
  ·rw[if_pos h];have h0:=ai2 H K n hlen N (2*bs) a (a+bs) (a+2*bs) xs (by omega) (by omega) (by omega) h hx u;obtain⟨g1,g2,g3,g4⟩:=ih (a+2*bs) (symM C (2*bs) xs a (a+bs) (a+2*bs)) (by omega) h (by rw[rO];exact hx) (u.symM (by omega) (by omega) (by omega));refine⟨?_,g2,g3,g4⟩;have c1:((a+bs:Nat):Int)=(a:Int)+bs:=rfl;have c2:((a+2*bs:Nat):Int)=(a:Int)+2*bs:=by omega
   rw[c1,c2]at h0;rw[c2]at g1;rw[←g1];simp (maxSteps:=300000) (disch:=omega) [↓if_pos,↓if_neg,K.sh,K.fi,h0]
  ·rw[if_neg h];refine⟨?_,hx,u,h2⟩;simp (maxSteps:=300000) (disch:=omega) [↓if_pos,↓if_neg,K.sh,K.fi]
theorem arg (H:Hp hp D) (K:Cm hp L F C) (n:Nat) (hlen:n≤1000000000) (N:Nat):∀ (f bs:Nat) (xs:List Nat),n<bs+f+1→1≤bs→bs≤2000000000→xs.length=n→ck L xs→
  (Dn prog).code (.loop dS) ⟨[(0,.sl D 0 n),(1,.d (.int .i64 n)),(2,F),(6,.d (.int .i64 bs))],⟨hp xs,N⟩⟩ =
  some (.exit 2,⟨[],⟨hp (Wr C n f xs bs),N⟩⟩)∧(Wr C n f xs bs).length=n∧ck L (Wr C n f xs bs):=by
 intro f
 induction f with
 | zero =>
  intro bs xs h1 h2 h3 hx u;refine⟨?_,hx,u⟩;rw[aa dS.eq_1];simp (maxSteps:=300000) (disch:=omega) [↓if_pos,↓if_neg,Wr,K.sh,K.fi]
 | succ f ih =>
  intro bs xs h1 h2 h3 hx u;rw[aa dS.eq_1,Wr];by_cases h:bs<n
  ·rw[if_pos h];obtain⟨g1,g2,g3,g4⟩:=aqI H K n hlen bs N h2 (by omega) n 0 xs (by omega) (by omega) hx u;generalize Jp C n bs n xs 0=p at *;obtain⟨ys,a⟩:=p;simp only at g1 g2 g3 g4;have c0:((0:Nat):Int)=0:=rfl;have cz:(0:Int)+2*(bs:Int)=2*(bs:Int):=by omega
   have c2:((2*bs:Nat):Int)=2*(bs:Int):=by omega
   rw[c0,cz]at g1;unfold stE;simp only;by_cases h5:a+bs<n
   ·rw[if_pos h5];have h0:=ai2 H K n hlen N (n-a) a (a+bs) n ys (by omega) (by omega) h5 (Nat.le_refl _) g2 g3;have c1:((a+bs:Nat):Int)=(a:Int)+bs:=rfl;obtain⟨k1,k2,k3⟩:=ih (2*bs) (symM C (n-a) ys a (a+bs) n) (by omega) (by omega) (by omega) (by rw[rO];exact g2) (g3.symM (by omega) h5 (by omega));refine⟨?_,k2,k3⟩;rw[c1]at h0;rw[c2]at k1;have cc:(bs:Int)*2=2*(bs:Int):=by omega
    rw[←k1];simp (maxSteps:=300000) (disch:=omega) [↓if_pos,↓if_neg,K.sh,K.fi,g1,h0,cc]
   ·rw[if_neg h5];obtain⟨k1,k2,k3⟩:=ih (2*bs) ys (by omega) (by omega) (by omega) g2 g3;refine⟨?_,k2,k3⟩;rw[c2]at k1;have cc:(bs:Int)*2=2*(bs:Int):=by omega
    rw[←k1];simp (maxSteps:=300000) (disch:=omega) [↓if_pos,↓if_neg,K.sh,K.fi,g1,cc]
  ·rw[if_neg h];refine⟨?_,hx,u⟩;simp (maxSteps:=300000) (disch:=omega) [↓if_pos,↓if_neg,K.sh,K.fi]
theorem apU (H:Hp hp D) (K:Cm hp L F C) (n:Nat) (hlen:n≤1000000000) (hn:n % 20≠0) (N:Nat) (xs:List Nat) (hx:xs.length=n) (u:ck L xs) :
  (Dn prog).call jb [.sl D 0 n,.d (.int .i64 n),F] ⟨hp xs,N⟩=some (.tup [],⟨hp (lQ C n xs),N⟩):=by
 rw[aD zZ iX.eq_1 rfl,lQ];obtain⟨g1,g2,g3,_,g5,q,g6⟩:=aqD H K n hlen N n 0 xs (by omega) (by omega) hx u;generalize DS C n n xs 0=p at *;obtain⟨ys,a⟩:=p;simp only at g1 g2 g3 g5 g6;have h0:=JG H K n hlen a n N (by omega) (Nat.le_refl _) ys g2 g3;unfold stS;simp only;obtain⟨k1,k2,k3⟩:=arg H K n hlen N n 20 (insO C a (n-(a+1)) (a+1) ys) (by omega) (by omega) (by omega) (by rw[UE];exact g2) (g3.insO (by omega));have c0:((0:Nat):Int)=0:=rfl;have cz:(0:Int)+20=20:=rfl;have c2:((20:Nat):Int)=20:=rfl;rw[c0,cz]at g1;rw[c2]at k1;simp (maxSteps:=300000) (disch:=omega) [↓if_pos,↓if_neg,K.sh,K.fi,g1,h0,k1]
end
def bU (id:Nat):Nat:=if id<5 then 4 else if id=12 then 1 else 2
def bu (id:Nat):Int:=[0,-1,-1,0,0,-4,-4,0,0,0,0,0,-60].getD id 0
def ba (id:Nat):Nat:=[1,3,3,3,3,9,9,8,8,13,13,17,121].getD id 1
def aG (id:Nat):Nat:=[0,0,1,0,1,0,1,1,2,1,2,2,0].getD id 0
def ik (low:Int) (w:Nat):Nat→Nat→List Int
 | 0,_=>[]
 | d+1,e=>ik low w d (e / w)++[((e % w:Nat):Int)+low]
def iM (id e:Nat):List Int:=ik (bu id) (ba id) (bU id) e
def Ho:List Int→Nat
 | []=>0
 | x::r=>x.natAbs+Ho r
def qU (id e:Nat):Nat:=Ho (iM id e)
def ay (id:Nat):Nat:=ba id ^ bU id
def aow (s:Nat):List (Nat×Nat)→List Nat
 | []=>[]
 | (e,z)::r=>match Nat.beq z s with
  | true=>e::aow s r
  | false=>aow s r
def aAb (id:Nat):List (Nat×Nat):=(List.range (ay id)).map fun e=>(e,qU id e)
def aW (id:Nat):List Nat:=let l:=aAb id;(List.range 61).flatMap fun s=>aow s l
def ayC (e:Nat):Nat→List Nat→Nat
 | i,[]=>i
 | i,x::r=>match Nat.beq x e with
  | true=>i
  | false=>ayC e (i+1) r
def bF (id:Nat):List Nat:=let l:=aW id;(List.range (ay id)).map fun e=>ayC e 0 l
abbrev fl (id:Nat):Prop:=1≤id∧id≤12
abbrev jr (id:Nat):AV:=.agg [.d (.int .i64 id),.d (.int .i64 (aG id)),.d (.lst (bj (aW id))),.d (.lst (bj (bF id)))]
abbrev Ny (id:Nat):AV:=.agg [.d (.int .i64 id),.d (.int .i64 (aG id)),.own true 1 (bj (aW id)),.own true 1 (bj (bF id))]
theorem aoF:∀ id∈List.range 13,aG id≤2∧(aW id).length≤300∧(bF id).length≤300∧(aW id).all (fun e=>decide (e<ay id))=true:=by decide +kernel
theorem DH {id:Nat}(h:id≤12):aG id≤2∧(aW id).length≤300∧(bF id).length≤300∧∀ e∈aW id,e<ay id:=by
 obtain⟨a,b,c,d⟩:=aoF id (by simp;omega);exact⟨a,b,c,fun e he=>by simpa using List.all_eq_true.1 d e he⟩
def ids:List Nat:=[1,2,3,4,5,6,7,8,9,10,11,12]
theorem de {id:Nat}(h:fl id):id∈ids:=by
 obtain⟨h1,h2⟩:=h;simp only[ids,List.mem_cons,List.not_mem_nil,or_false];omega
abbrev Rx (id:Nat):AV:=.agg [.d (.int .i64 (bU id)),.d (.int .i64 (bu id)),.d (.int .i64 (bu id+ba id-1)),.d (.int .i64 (aG id))]
theorem Jc:∀ x∈ids,aO prog ya [.d (.int .i64 x)]=some (.tup [Rx x,.d (.int .i64 0)]):=BE 100 ids (by kernel_rfl)
theorem AC:∀ x∈ids,aO prog fp [Rx x]=some (.d (.int .i64 (ay x))):=BE 100 ids (by kernel_rfl)
theorem Fy {z:List D}{n:Nat}(h:n≤1000000000):Bw z (.d (.int .i64 n)) (.d (.int .i64 n))=some (.own true z.length (List.replicate n z)):=by
 have h0:¬ ((n:Int)<0):=by omega
 have h1:Nat.ble n au=true:=Nat.ble_eq_true_of_le (Nat.le_trans h (by decide));have h2:Nat.ble n n=true:=by rw[aaA];simp
 simp only[Bw,df,h1,h2]
theorem Nc (x:Nat):aO prog kZ [.d (.int .u8 x)]=some (.d (.bool false)):=by
 rw[aq PE qk.eq_1 rfl];simp (maxSteps:=300000) (disch:=omega) [↓if_pos,↓if_neg]
theorem als (x y:Nat):aO prog nB [.d (.int .u8 x),.d (.int .u8 y)]=some (.d (.int .i64 (if x<y then -1 else if y<x then 1 else 0))):=by
 rw[aq Ke nE.eq_1 rfl];by_cases h1:x<y
 ·rw[if_pos h1];simp (maxSteps:=300000) (disch:=omega) [↓if_pos,↓if_neg,Nc]
 ·rw[if_neg h1];by_cases h2:y<x
  ·rw[if_pos h2];simp (maxSteps:=300000) (disch:=omega) [↓if_pos,↓if_neg,Nc]
  ·rw[if_neg h2];simp (maxSteps:=300000) (disch:=omega) [↓if_pos,↓if_neg,Nc]
@[simp] theorem aDP {len n S o:Nat}{k:IntKind}{z:Int}(h0:0≤z) (h:z<len):Dy len n (.ptr S o) (.d (.int k z))=some (.ptr S (o+z.toNat*n)):=by
 obtain⟨i,rfl⟩:=Int.eq_ofNat_of_zero_le h0;have hl:Nat.ble len i=false:=by rw[←Bool.not_eq_true,Nat.ble_eq];omega
 show (match Nat.ble len i with | true=>none | false=>gP (i*n) (.ptr S o))=_;rw[hl];rfl
def fy (id:Nat):List Nat:=(List.range (ay id)).map fun e=>qU id e
def cC (l:List Nat) (x y:Nat):Int:=if nth l x<nth l y then -1 else if nth l y<nth l x then 1 else 0
def lE (id:Nat):List AV:=(List.range 289).map fun e=>.d (.int .u8 (if e<ay id then qU id e else 0:Nat))
theorem adt {id:Nat}:(lE id).length=289:=by simp[lE]
theorem aa8 {id x:Nat}(h:x<ay id) (h2:ay id≤289):(lE id)[x]?=some (.d (.int .u8 (nth (fy id) x:Nat))):=by
 have e:nth (fy id) x=qU id x:=by
  have:=sY (l:=fy id) (i:=x) (by simp[fy];exact h);rw[fy,List.getElem?_map,List.getElem?_range h]at this;simpa [fy] using this.symm
 rw[e,lE,List.getElem?_map,List.getElem?_range (by omega)];simp[h]
theorem aEi {hp:List Nat→ac}{S id:Nat}(hS:∀ xs,get (hp xs) S=some (.cells (lE id))) (h2:ay id≤289):Cm hp (ay id) (.fn uJ [] [.ptr S 0]) (cC (fy id)) where
 sh:=rfl
 fi:=rfl
 cl xs N x y hx hy:=by
  have e1:=aa8 hx h2;have e2:=aa8 hy h2;show (Dn prog).call uJ ([]++([.d (.int .i64 (x:Nat)),.d (.int .i64 (y:Nat))]++[.ptr S 0])) ⟨hp xs,N⟩=_;simp only[List.nil_append,List.cons_append];rw[aD ajl Ca.eq_1 rfl];generalize lE id=Z at *;simp (maxSteps:=300000) (disch:=omega) [↓if_pos,↓if_neg,hS,e1,e2,als,cC]
noncomputable section
theorem azt {k i:Nat}(h:k=i):Nat.beq k i=true:=by rw[Nat.beq_eq];exact h
theorem aAy {k i:Nat}(h:¬ k=i):Nat.beq k i=false:=by rw[←Bool.not_eq_true,Nat.beq_eq];exact h
def jf (l:List Nat):Nat→Nat:=List.rec (motive:=fun _=>Nat→Nat) (fun _=>0) (fun x _ ih i=>Nat.casesOn (motive:=fun _=>Nat) i x (fun k=>ih k)) l
theorem sP:∀ (l:List Nat) (i:Nat),jf l i=nth l i
 | [],i=>by simp[nth];rfl
 | x::l,0=>rfl
 | x::l,i+1=>sP l i
def aob (l:List Nat):Nat→Nat→List Nat:=List.rec (motive:=fun _=>Nat→Nat→List Nat) (fun _ _=>[]) (fun x r ih i v=>Nat.casesOn (motive:=fun _=>List Nat) i (v::r) (fun k=>x::ih k v)) l
theorem amT:∀ (l:List Nat) (i v:Nat),aob l i v=l.set i v
 | [],i,v=>rfl
 | x::l,0,v=>rfl
 | x::l,i+1,v=>by
  show x::aob l i v=_;rw[amT l i v];rfl
def ad5 (xs:List Nat) (i j:Nat):List Nat:=aob (aob xs i (jf xs j)) j (jf xs i)
theorem NV (xs:List Nat) (i j:Nat):ad5 xs i j=swp xs i j:=by simp only[ad5,swp,amT,sP]
def Rs (l:List Nat) (x y:Nat):Bool:=Nat.ble (Nat.succ (jf l x)) (jf l y)
theorem xI (l:List Nat) (x y:Nat):(Rs l x y=true)=(cC l x y<0):=by
 simp only[Rs,sP,Nat.ble_eq,cC];apply propext;constructor
 ·intro h;rw[if_pos (by omega)];omega
 ·intro h;split at h
  ·omega
  ·split at h<;>omega
def NF (a b:Nat):Nat→Nat→List Nat→List Nat
 | 0,_,xs=>xs
 | k+1,i,xs=>NF a b k (i+1) (ad5 xs (a+i) (b+i))
theorem H5 {a b:Nat}:∀ (k i:Nat) (xs:List Nat),NF a b k i xs=swpR xs a b k i
 | 0,_,_=>rfl
 | k+1,i,xs=>by rw[NF,swpR,NV,H5]
def akX (m:Nat):Nat→List Nat→Nat→Nat→List Nat
 | 0,xs,i,j=>xs
 | f+1,xs,i,j=>match Nat.beq i j with
  | true=>NF (m-i) m i 0 xs
  | false=>match Nat.ble i j with
   | true=>akX m f (NF (m-i) (m+j-i) i 0 xs) i (j-i)
   | false=>akX m f (NF (m-i) m j 0 xs) (i-j) j
theorem abZ {m:Nat}:∀ (f:Nat) (xs:List Nat) (i j:Nat),akX m f xs i j=rot m f xs i j
 | 0,_,_,_=>rfl
 | f+1,xs,i,j=>by
  rw[akX,rot];by_cases h:i=j
  ·rw[azt h,if_pos h,H5]
  ·rw[aAy h,if_neg h];by_cases h2:j<i
   ·rw[show Nat.ble i j=false by rw[←Bool.not_eq_true,Nat.ble_eq];omega,if_pos h2];simp only[abZ,H5]
   ·rw[Nat.ble_eq_true_of_le (by omega:i≤j),if_neg h2];simp only[abZ,H5]
section
variable (l:List Nat)
def ah9 (a:Nat):Nat→List Nat→List Nat
 | 0,xs=>xs
 | j+1,xs=>match Nat.ble a j with
  | false=>xs
  | true=>match Rs l (jf xs (j+1)) (jf xs j) with
   | true=>ah9 a j (ad5 xs (j+1) j)
   | false=>xs
theorem akv {a:Nat}:∀ (j:Nat) (xs:List Nat),ah9 l a j xs=insJ (cC l) a j xs
 | 0,_=>rfl
 | j+1,xs=>by
  rw[ah9,insJ];by_cases h:a≤j
  ·rw[Nat.ble_eq_true_of_le h];simp only[sP]
   cases h2:Rs l (nth xs (j+1)) (nth xs j) with
   | true=>rw[if_pos ⟨h,by rw[←xI];exact h2⟩,←akv,NV]
   | false=>rw[if_neg (fun q=>by have:=q.2;rw[←xI,h2]at this;exact absurd this (by simp))]
  ·rw[show Nat.ble a j=false by rw[←Bool.not_eq_true,Nat.ble_eq];exact h,if_neg (fun q=>h q.1)]
def WS (a:Nat):Nat→Nat→List Nat→List Nat
 | 0,_,xs=>xs
 | k+1,i,xs=>WS a k (i+1) (ah9 l a i xs)
theorem T9 {a:Nat}:∀ (k i:Nat) (xs:List Nat),WS l a k i xs=insO (cC l) a k i xs
 | 0,_,_=>rfl
 | k+1,i,xs=>by rw[WS,insO,akv,T9]
def aji (xs:List Nat) (a:Nat):Nat→Nat→Nat→Nat
 | 0,i,_=>i
 | f+1,i,j=>match Nat.ble j i with
  | true=>i
  | false=>match Rs l (jf xs ((i+j) / 2)) (jf xs a) with
   | true=>aji xs a f ((i+j) / 2+1) j
   | false=>aji xs a f i ((i+j) / 2)
theorem Z7 {xs:List Nat}{a:Nat}:∀ (f i j:Nat),aji l xs a f i j=Gl (cC l) xs a f i j
 | 0,_,_=>rfl
 | f+1,i,j=>by
  rw[aji,Gl];by_cases h:i<j
  ·rw[show Nat.ble j i=false by rw[←Bool.not_eq_true,Nat.ble_eq];omega,if_pos h];simp only[sP]
   cases h2:Rs l (nth xs ((i+j) / 2)) (nth xs a) with
   | true=>rw[if_pos (by rw[←xI];exact h2)];simp only[Z7]
   | false=>rw[if_neg (by rw[←xI,h2];simp)];simp only[Z7]
  ·rw[Nat.ble_eq_true_of_le (by omega:j≤i),if_neg h]
def aj7 (xs:List Nat) (m:Nat):Nat→Nat→Nat→Nat
 | 0,i,_=>i
 | f+1,i,j=>match Nat.ble j i with
  | true=>i
  | false=>match Rs l (jf xs m) (jf xs ((i+j) / 2)) with
   | true=>aj7 xs m f i ((i+j) / 2)
   | false=>aj7 xs m f ((i+j) / 2+1) j
theorem ZF {xs:List Nat}{m:Nat}:∀ (f i j:Nat),aj7 l xs m f i j=GA (cC l) xs m f i j
 | 0,_,_=>rfl
 | f+1,i,j=>by
  rw[aj7,GA];by_cases h:i<j
  ·rw[show Nat.ble j i=false by rw[←Bool.not_eq_true,Nat.ble_eq];omega,if_pos h];simp only[sP]
   cases h2:Rs l (nth xs m) (nth xs ((i+j) / 2)) with
   | true=>rw[if_pos (by rw[←xI];exact h2)];simp only[ZF]
   | false=>rw[if_neg (by rw[←xI,h2];simp)];simp only[ZF]
  ·rw[Nat.ble_eq_true_of_le (by omega:j≤i),if_neg h]
def adQ (xs:List Nat) (p:Nat):Nat→Nat→Nat→Nat
 | 0,i,_=>i
 | f+1,i,j=>match Nat.ble j i with
  | true=>i
  | false=>match Rs l (jf xs (p-(i+j) / 2)) (jf xs ((i+j) / 2)) with
   | true=>adQ xs p f i ((i+j) / 2)
   | false=>adQ xs p f ((i+j) / 2+1) j
theorem abo {xs:List Nat}{p:Nat}:∀ (f i j:Nat),adQ l xs p f i j=lm (cC l) xs p f i j
 | 0,_,_=>rfl
 | f+1,i,j=>by
  rw[adQ,lm];by_cases h:i<j
  ·rw[show Nat.ble j i=false by rw[←Bool.not_eq_true,Nat.ble_eq];omega,if_pos h];simp only[sP]
   cases h2:Rs l (nth xs (p-(i+j) / 2)) (nth xs ((i+j) / 2)) with
   | true=>rw[if_pos (by rw[←xI];exact h2)];simp only[abo]
   | false=>rw[if_neg (by rw[←xI,h2];simp)];simp only[abo]
  ·rw[Nat.ble_eq_true_of_le (by omega:j≤i),if_neg h]
def aoU:Nat→Nat→List Nat→List Nat
 | 0,_,xs=>xs
 | n+1,k,xs=>aoU n (k+1) (ad5 xs k (k+1))
theorem amD:∀ (n k:Nat) (xs:List Nat),aoU n k xs=shU n k xs
 | 0,_,_=>rfl
 | n+1,k,xs=>by rw[aoU,shU,NV,amD]
def an5:Nat→Nat→List Nat→List Nat
 | 0,_,xs=>xs
 | n+1,k,xs=>an5 n (k-1) (ad5 xs k (k-1))
theorem anb:∀ (n k:Nat) (xs:List Nat),an5 n k xs=shD n k xs
 | 0,_,_=>rfl
 | n+1,k,xs=>by rw[an5,shD,NV,anb]
def NH:Nat→List Nat→Nat→Nat→Nat→List Nat
 | 0,xs,_,_,_=>xs
 | f+1,xs,a,m,b =>
  if m-a=1 then aoU (aji l xs a (b-m) m b-1-a) a xs
  else if b-m=1 then an5 (m-aj7 l xs m (m-a) a m) m xs
  else
   let s:=if (a+b) / 2<m then adQ l xs ((a+b) / 2+m-1) (b-a) ((a+b) / 2+m-b) ((a+b) / 2) else adQ l xs ((a+b) / 2+m-1) (b-a) a m
   let e:=(a+b) / 2+m-s
   let ys:=if s<m∧m<e then akX m (e-s) xs (m-s) (e-m) else xs
   let zs:=if a<s∧s<(a+b) / 2 then NH f ys a s ((a+b) / 2) else ys
   if (a+b) / 2<e∧e<b then NH f zs ((a+b) / 2) e b else zs
theorem Uf:∀ (f:Nat) (xs:List Nat) (a m b:Nat),NH l f xs a m b=symM (cC l) f xs a m b
 | 0,_,_,_,_=>rfl
 | f+1,xs,a,m,b=>by
  rw[NH,symM];simp only[amD,anb,Z7,ZF,abo,abZ,Uf f]
def akG (n:Nat):Nat→List Nat→Nat→List Nat×Nat
 | 0,xs,a=>(xs,a)
 | f+1,xs,a=>if a+20≤n then akG n f (WS l a 19 (a+1) xs) (a+20) else (xs,a)
theorem anM {n:Nat}:∀ (f:Nat) (xs:List Nat) (a:Nat),akG l n f xs a=DS (cC l) n f xs a
 | 0,_,_=>rfl
 | f+1,xs,a=>by rw[akG,DS];simp only[T9,anM f]
def ai7 (n bs:Nat):Nat→List Nat→Nat→List Nat×Nat
 | 0,xs,a=>(xs,a)
 | f+1,xs,a=>if a+2*bs≤n then ai7 n bs f (NH l (2*bs) xs a (a+bs) (a+2*bs)) (a+2*bs) else (xs,a)
theorem anY {n bs:Nat}:∀ (f:Nat) (xs:List Nat) (a:Nat),ai7 l n bs f xs a=Jp (cC l) n bs f xs a
 | 0,_,_=>rfl
 | f+1,xs,a=>by rw[ai7,Jp];simp only[Uf,anY f]
def ao0 (n bs:Nat) (p:List Nat×Nat):List Nat:=if p.2+bs<n then NH l (n-p.2) p.1 p.2 (p.2+bs) n else p.1
theorem awh {n bs:Nat}(p:List Nat×Nat):ao0 l n bs p=stE (cC l) n bs p:=by rw[ao0,stE];simp only[Uf]
def asD (n:Nat) (p:List Nat×Nat):List Nat:=WS l p.2 (n-(p.2+1)) (p.2+1) p.1
theorem awd {n:Nat}(p:List Nat×Nat):asD l n p=stS (cC l) n p:=T9 l _ _ _
def LW (n:Nat):Nat→List Nat→Nat→List Nat
 | 0,xs,_=>xs
 | f+1,xs,bs=>if bs<n then LW n f (ao0 l n bs (ai7 l n bs n xs 0)) (2*bs) else xs
theorem amL {n:Nat}:∀ (f:Nat) (xs:List Nat) (bs:Nat),LW l n f xs bs=Wr (cC l) n f xs bs
 | 0,_,_=>rfl
 | f+1,xs,bs=>by rw[LW,Wr];simp only[awh,anY,amL f]
def adE (n:Nat) (xs:List Nat):List Nat:=LW l n n (asD l n (akG l n n xs 0)) 20
theorem mh {n:Nat}(xs:List Nat):adE l n xs=lQ (cC l) n xs:=by rw[adE,lQ,amL,awd,anM]
def rnd (n bs:Nat) (xs:List Nat):List Nat:=ao0 l n bs (ai7 l n bs n xs 0)
end
end
theorem st1:lQ (cC (fy 1)) (ay 1) (List.range (ay 1))=aW 1:=by rw[←mh];decide +kernel
theorem st3:lQ (cC (fy 3)) (ay 3) (List.range (ay 3))=aW 3:=by rw[←mh];decide +kernel
theorem st5:lQ (cC (fy 5)) (ay 5) (List.range (ay 5))=aW 5:=by rw[←mh];decide +kernel
theorem st7:lQ (cC (fy 7)) (ay 7) (List.range (ay 7))=aW 7:=by rw[←mh];decide +kernel
theorem aDM:lQ (cC (fy 12)) (ay 12) (List.range (ay 12))=aW 12:=by rw[←mh];decide +kernel
theorem st9:lQ (cC (fy 9)) (ay 9) (List.range (ay 9))=aW 9:=by rw[←mh];decide +kernel
noncomputable section
def aus:List Nat:=[0,1,17,2,18,3,19,4,5,6,7,8,9,10,11,12,13,14,15,16,34,35,20,36,21,37,22,38,23,39,24,25,26,27,28,29,30,31,32,33,51,52,53,54,55,40,56,41,57,42,58,43,59,44,45,46,47,48,49,50,68,69,70,71,72,73,74,75,60,76,61,77,62,78,63,79,64,65,66,67,85,86,87,88,89,90,91,92,93,94,95,80,96,81,97,82,98,83,99,84,102,103,119,104,105,106,107,108,109,110,111,112,113,114,115,100,116,101,117,118,120,136,121,137,122,138,123,139,124,125,126,127,128,129,130,131,132,133,134,135,153,154,155,140,156,141,157,142,158,143,159,144,145,146,147,148,149,150,151,152,170,171,172,173,174,175,160,176,161,177,162,178,163,179,164,165,166,167,168,169,187,188,189,190,191,192,193,194,195,180,196,181,197,182,198,183,199,184,185,186,204,205,206,207,208,209,210,211,212,213,214,215,200,216,201,217,202,218,203,219,221,222,238,223,239,224,225,226,227,228,229,230,231,232,233,234,235,220,236,237,255,240,256,241,257,242,258,243,259,244,245,246,247,248,249,250,251,252,253,254,272,273,274,275,260,276,261,277,262,278,263,279,264,265,266,267,268,269,270,271,280,281,282,283,284,285,286,287,288]
def auu:List Nat:=[0,1,17,2,18,34,3,19,35,4,20,36,5,21,37,6,22,38,7,23,39,8,24,9,25,10,26,11,27,12,28,13,29,14,30,15,31,16,32,33,51,52,68,53,69,54,70,55,71,40,56,72,41,57,73,42,58,74,43,59,75,44,60,76,45,61,77,46,62,78,47,63,79,48,64,49,65,50,66,67,85,86,102,87,103,119,88,104,89,105,90,106,91,107,92,108,93,109,94,110,95,111,80,96,112,81,97,113,82,98,114,83,99,115,84,100,116,101,117,118,120,136,121,137,153,122,138,154,123,139,155,124,140,156,125,141,157,126,142,158,127,143,159,128,144,129,145,130,146,131,147,132,148,133,149,134,150,135,151,152,170,171,187,172,188,173,189,174,190,175,191,160,176,192,161,177,193,162,178,194,163,179,195,164,180,196,165,181,197,166,182,198,167,183,199,168,184,169,185,186,204,205,221,206,222,238,207,223,239,208,224,209,225,210,226,211,227,212,228,213,229,214,230,215,231,200,216,232,201,217,233,202,218,234,203,219,235,220,236,237,255,240,256,272,241,257,273,242,258,274,243,259,275,244,260,276,245,261,277,246,262,278,247,263,279,248,264,249,265,250,266,251,267,252,268,253,269,254,270,271,280,281,282,283,284,285,286,287,288]
def auP:List Nat:=[0,1,17,2,18,34,3,19,35,51,4,20,36,52,68,5,21,37,53,69,6,22,38,54,70,7,23,39,55,71,8,24,40,56,72,9,25,41,57,73,10,26,42,58,74,11,27,43,59,75,12,28,44,60,76,13,29,45,61,77,14,30,46,62,78,15,31,47,63,79,16,32,48,64,33,49,65,50,66,67,85,86,102,87,103,119,88,104,120,136,89,105,121,137,153,90,106,122,138,154,91,107,123,139,155,92,108,124,140,156,93,109,125,141,157,94,110,126,142,158,95,111,127,143,159,80,96,112,128,144,81,97,113,129,145,82,98,114,130,146,83,99,115,131,147,84,100,116,132,148,101,117,133,149,118,134,150,135,151,152,170,171,187,172,188,204,173,189,205,221,174,190,206,222,238,175,191,207,223,239,160,176,192,208,224,161,177,193,209,225,162,178,194,210,226,163,179,195,211,227,164,180,196,212,228,165,181,197,213,229,166,182,198,214,230,167,183,199,215,231,168,184,200,216,232,169,185,201,217,233,186,202,218,234,203,219,235,220,236,237,255,240,256,272,241,257,273,242,258,274,243,259,275,244,260,276,245,261,277,246,262,278,247,263,279,248,264,280,249,265,281,250,266,282,251,267,283,252,268,284,253,269,285,254,270,286,271,287,288]
def auy:List Nat:=[0,1,17,2,18,34,3,19,35,51,4,20,36,52,68,5,21,37,53,69,85,6,22,38,54,70,86,102,7,23,39,55,71,87,103,119,8,24,40,56,72,88,104,120,136,9,25,41,57,73,89,105,121,137,153,10,26,42,58,74,90,106,122,138,154,11,27,43,59,75,91,107,123,139,155,12,28,44,60,76,92,108,124,140,156,13,29,45,61,77,93,109,125,141,157,14,30,46,62,78,94,110,126,142,158,15,31,47,63,79,95,111,127,143,159,16,32,48,64,80,96,112,128,144,33,49,65,81,97,113,129,145,50,66,82,98,114,130,146,67,83,99,115,131,147,84,100,116,132,148,101,117,133,149,118,134,150,135,151,152,170,171,187,172,188,204,173,189,205,221,174,190,206,222,238,175,191,207,223,239,255,160,176,192,208,224,240,256,272,161,177,193,209,225,241,257,273,162,178,194,210,226,242,258,274,163,179,195,211,227,243,259,275,164,180,196,212,228,244,260,276,165,181,197,213,229,245,261,277,166,182,198,214,230,246,262,278,167,183,199,215,231,247,263,279,168,184,200,216,232,248,264,280,169,185,201,217,233,249,265,281,186,202,218,234,250,266,282,203,219,235,251,267,283,220,236,252,268,284,237,253,269,285,254,270,286,271,287,288]
theorem aA0:asD (fy 11) 289 (akG (fy 11) 289 289 (List.range 289) 0)=aus:=by decide +kernel
theorem aAq:rnd (fy 11) 289 20 aus=auu:=by decide +kernel
theorem aBc:rnd (fy 11) 289 40 auu=auP:=by decide +kernel
theorem aA2:rnd (fy 11) 289 80 auP=auy:=by decide +kernel
theorem aBi:rnd (fy 11) 289 160 auy=aW 11:=by decide +kernel
theorem aCU:lQ (cC (fy 11)) 289 (List.range 289)=aW 11:=by
 rw[←mh,adE,aA0];have u:∀ (f:Nat) (xs:List Nat) (bs:Nat),bs<289→LW (fy 11) 289 (f+1) xs bs=LW (fy 11) 289 f (rnd (fy 11) 289 bs xs) (2*bs):=fun f xs bs h=>by rw[LW,if_pos h];rfl
 rw[u 288 _ _ (by omega),aAq,u 287 _ _ (by omega),aBc,u 286 _ _ (by omega),aA2,u 285 _ _ (by omega),aBi];rw[show (285:Nat)=284+1 from rfl,LW,if_neg (by omega)]
end
theorem ar7:fy 2=fy 1∧fy 4=fy 3∧fy 6=fy 5∧fy 8=fy 7∧fy 10=fy 9:=⟨rfl,rfl,rfl,rfl,rfl⟩
theorem aoe:aW 2=aW 1∧aW 4=aW 3∧aW 6=aW 5∧aW 8=aW 7∧aW 10=aW 9:=⟨rfl,rfl,rfl,rfl,rfl⟩
theorem azz (id:Nat) (h:fl id):lQ (cC (fy id)) (ay id) (List.range (ay id))=aW id:=by
 obtain⟨p2,p4,p6,p8,p10⟩:=ar7;obtain⟨q2,q4,q6,q8,q10⟩:=aoe;have h1:id=1∨id=2∨id=3∨id=4∨id=5∨id=6∨id=7∨id=8∨id=9∨id=10∨id=11∨id=12:=by omega
 rcases h1 with rfl | rfl | rfl | rfl | rfl | rfl | rfl | rfl | rfl | rfl | rfl | rfl
 ·exact st1
 ·rw[p2,q2];exact st1
 ·exact st3
 ·rw[p4,q4];exact st3
 ·exact st5
 ·rw[p6,q6];exact st5
 ·exact st7
 ·rw[p8,q8];exact st7
 ·exact st9
 ·rw[p10,q10];exact st9
 ·exact aCU
 ·exact aDM
theorem anK:∀ id∈ids,ay id≤289∧ay id % 20≠0∧1≤ay id:=by decide +kernel
def rks (es:List Nat):Nat→Nat→List Nat→List Nat
 | 0,_,R=>R
 | k+1,i,R=>rks es k (i+1) (R.set (nth es i) i)
theorem avp:∀ id∈ids,rks (aW id) (ay id) 0 (List.replicate (ay id) 0)=bF id:=by decide +kernel
theorem amK:∀ id∈ids,(aW id).length=ay id∧(bF id).length=ay id∧(aW id).all (fun e=>decide (e<ay id))=true:=by decide +kernel
def yT (n i:Nat):List Nat:=List.range i++List.replicate (n-i) 0
theorem atB {n i:Nat}(h:i≤n):(yT n i).length=n:=by simp[yT];omega
theorem ar5 {n i:Nat}(h:i<n):(yT n i).set i i=yT n (i+1):=by
 unfold yT;obtain⟨k,hk⟩:∃ k,n-i=k+1:=⟨n-i-1,by omega⟩
 rw[hk,List.replicate_succ,List.set_append_right _ _ (by simp),List.length_range,Nat.sub_self,List.set_cons_zero,List.range_succ,List.append_assoc]
 congr 2
 rw[show n-(i+1)=k by omega];rfl
section
variable (id n:Nat) (Z:List AV)
theorem alJ (hn:n≤289) (R:List Nat) (a b c d:AV) (x0 x1:D) (N:Nat):∀ (k i:Nat),i+k=n→
  (Dn prog).code (.loop qR) ⟨[(2,.ptr 0 0),(6,.ptr 4 0),(7,.ptr 5 0),(34,.d (.int .i64 n)),(35,.d (.int .i64 i))],
   ⟨[(0,.cells [a,b,c,d]),(2,.arr 1 (bj (yT n i))),(3,.arr 1 (bj R)),(4,.cells [.d x0,.d x1,.sl 2 0 n,.sl 3 0 n]),(5,.cells Z)],N⟩⟩ =
  some (.exit 0,⟨[(2,.ptr 0 0),(6,.ptr 4 0),(7,.ptr 5 0)],⟨[(0,.cells [a,b,c,d]),(2,.arr 1 (bj (yT n n))),(3,.arr 1 (bj R)),(4,.cells [.d x0,.d x1,.sl 2 0 n,.sl 3 0 n]),(5,.cells Z)],N⟩⟩):=by
 intro k
 induction k with
 | zero =>
  intro i h;have:i=n:=by omega
  subst this;rw[aa qR.eq_1];simp (maxSteps:=300000) (disch:=omega) [↓if_pos,↓if_neg]
 | succ k ih =>
  intro i h;have l:=atB (n:=n) (i:=i) (by omega);have h5:=ih (i+1) (by omega);have c1:((i+1:Nat):Int)=(i:Int)+1:=rfl;rw[c1]at h5;rw[aa qR.eq_1,←h5,←ar5 (by omega)];generalize yT n i=xs at *;simp (maxSteps:=300000) (disch:=omega) [↓if_pos,↓if_neg]
theorem alN (hn:n≤289) (es:List Nat) (he:es.length=n) (hu:ck n es) (a b c d:AV) (x0 x1:D) (N:Nat):∀ (k i:Nat) (R:List Nat),i+k=n→R.length=n→
  (Dn prog).code (.loop qI) ⟨[(2,.ptr 0 0),(6,.ptr 4 0),(49,.sl 2 0 n),(50,.d (.int .i64 n)),(51,.d (.int .i64 i))],
   ⟨[(0,.cells [a,b,c,d]),(2,.arr 1 (bj es)),(3,.arr 1 (bj R)),(4,.cells [.d x0,.d x1,.sl 2 0 n,.sl 3 0 n]),(5,.cells Z)],N⟩⟩ =
  some (.exit 2,⟨[(2,.ptr 0 0),(6,.ptr 4 0)],⟨[(0,.cells [a,b,c,d]),(2,.arr 1 (bj es)),(3,.arr 1 (bj (rks es k i R))),(4,.cells [.d x0,.d x1,.sl 2 0 n,.sl 3 0 n]),(5,.cells Z)],N⟩⟩):=by
 intro k
 induction k with
 | zero =>
  intro i R h hR;rw[aa qI.eq_1];simp (maxSteps:=300000) (disch:=omega) [↓if_pos,↓if_neg,rks]
 | succ k ih =>
  intro i R h hR;have h5:=ih (i+1) (R.set (nth es i) i) (by omega) (by simpa using hR);have c1:((i+1:Nat):Int)=(i:Int)+1:=rfl;have hv:=hu.nth (i:=i) (by omega);rw[c1]at h5;rw[aa qI.eq_1,rks,←h5];simp (maxSteps:=300000) (disch:=omega) [↓if_pos,↓if_neg]
end
@[simp] theorem aDH {h:ac}{n id off:Nat}{k:IntKind}{z:Int}(h0:0≤z) (h1:z≤n):Ml h n (.ptr id off) none (some (.d (.int k z))) none=bA (get h id) fun o=>bA (cellsOf o) fun cs=>bQ (Nat.ble (off+n) cs.length) (some (.sl id off z.toNat)):=by
 obtain⟨d,rfl⟩:=Int.eq_ofNat_of_zero_le h0;have hd:Nat.ble d n=true:=Nat.ble_eq_true_of_le (by omega);have hb:xQ n none (some (.d (.int k (d:Int)))) none=some (0,d,n):=by
  show (match (match Nat.ble d n with | true=>some d | false=>none) with | none=>none | some h=>ue none h n)=_;rw[hd];rfl
 simp only[Ml,NU]
 cases get h id with
 | none=>rfl
 | some o =>
  cases o with
  | cells cs =>
   simp only[bA,cellsOf,hb]
   cases Nat.ble (off+n) cs.length<;>simp[bQ]
  | arr=>rfl
  | loop=>rfl
def vc (V:List Int):List AV:=V.map fun z=>.d (.int .i64 z)
theorem KU {V:List Int}:(vc V).length=V.length:=by simp[vc]
theorem arh {V:List Int}{i:Nat}(h:i<V.length):(vc V)[i]?=some (.d (.int .i64 (nth V i))):=by
 rw[vc,List.getElem?_map,sY h];rfl
theorem ayv {V:List Int}{i:Nat}{z:Int}:(vc V).set i (.d (.int .i64 z))=vc (V.set i z):=by simp[vc,List.map_set]
theorem ald {V:List Int}{i:Nat}{z:Int}(h:i<V.length):List.take i (vc V)++AV.d (.int .i64 z)::List.drop (i+1) (vc V)=vc (V.set i z):=by
 rw[←ayv,List.set_eq_take_append_cons_drop,if_pos (by rw[KU];exact h)]
def odo (lo hi:Int):Nat→List Int→List Int
 | 0,V=>V
 | i+1,V=>if nth V i+1≤hi then V.set i (nth V i+1) else odo lo hi i (V.set i lo)
abbrev Sm (V:List Int):Prop:=∀ z∈V,-100000≤z∧z≤100000
section
variable (k1:AV) (dm lo hi pl:Int) (aZ:List AV) (N:Nat)
theorem asq (d n m:Nat) (hd:d≤4) (V:List Int) (hV:V.length=4) (hs:Sm V):∀ (k i sum:Nat),i+k=d→sum≤1000000*(i+1)→
  (Dn prog).code (.loop jq) ⟨[(1,.ptr 0 0),(2,.ptr 1 0),(3,.ptr 2 0),(5,.d (.int .i64 n)),(6,.d (.int .i64 sum)),(21,.d (.int .i64 m)),(22,.d (.int .i64 n)),(27,.sl 2 0 d),(28,.d (.int .i64 d)),(29,.d (.int .i64 i))],
   ⟨[(0,.cells [.d (.int .i64 dm),.d (.int .i64 lo),.d (.int .i64 hi),.d (.int .i64 pl)]),(1,.cells aZ),(2,.cells (vc V))],N⟩⟩ =
  some (.exit 4,⟨[(1,.ptr 0 0),(2,.ptr 1 0),(3,.ptr 2 0),(5,.d (.int .i64 n)),(6,.d (.int .i64 (sum+Ho ((V.take d).drop i):Nat))),(21,.d (.int .i64 m)),(22,.d (.int .i64 n))],
   ⟨[(0,.cells [.d (.int .i64 dm),.d (.int .i64 lo),.d (.int .i64 hi),.d (.int .i64 pl)]),(1,.cells aZ),(2,.cells (vc V))],N⟩⟩):=by
 intro k
 induction k with
 | zero =>
  intro i sum h1 h2;have e:(V.take d).drop i=[]:=List.drop_eq_nil_of_le (by simp;omega);rw[aa jq.eq_1,e];simp (maxSteps:=300000) (disch:=omega) [↓if_pos,↓if_neg,Ho]
 | succ k ih =>
  intro i sum h1 h2;have hg:=arh (V:=V) (i:=i) (by omega);have hb:=hs (nth V i) (gn (by omega));have e:(V.take d).drop i=nth V i::(V.take d).drop (i+1):=by
   rw[List.drop_eq_getElem_cons (by simp;omega)]
   congr 1
   rw[List.getElem_take,aj3 (by omega)]
  have h5:=ih (i+1) (sum+(nth V i).natAbs) (by omega) (by omega);have es:sum+Ho ((V.take d).drop i)=sum+(nth V i).natAbs+Ho ((V.take d).drop (i+1)):=by rw[e,Ho];omega
  rw[es];have c1:((i+1:Nat):Int)=(i:Int)+1:=rfl;rw[c1]at h5;rw[aa jq.eq_1,←h5];generalize nth V i=z at *;by_cases hz:z<0
  ·have c2:((sum+z.natAbs:Nat):Int)=(sum:Int)+-z:=by omega
   rw[c2];simp (maxSteps:=300000) (disch:=omega) [↓if_pos,↓if_neg,hg]
  ·have c2:((sum+z.natAbs:Nat):Int)=(sum:Int)+z:=by omega
   rw[c2];simp (maxSteps:=300000) (disch:=omega) [↓if_pos,↓if_neg,hg]
theorem atc (n m:Nat) (hlo:-1000≤lo∧lo≤1000):∀ (j:Nat) (V:List Int),j≤4→V.length=4→Sm V→
  (Dn prog).code (.loop jn) ⟨[(1,.ptr 0 0),(2,.ptr 1 0),(3,.ptr 2 0),(9,.d (.int .i64 ((j:Int)-1))),(21,.d (.int .i64 m)),(22,.d (.int .i64 n))],
   ⟨[(0,.cells [.d (.int .i64 dm),.d (.int .i64 lo),.d (.int .i64 hi),.d (.int .i64 pl)]),(1,.cells aZ),(2,.cells (vc V))],N⟩⟩ =
  some (.exit 6,⟨[(1,.ptr 0 0),(2,.ptr 1 0),(3,.ptr 2 0),(21,.d (.int .i64 m)),(22,.d (.int .i64 n))],
   ⟨[(0,.cells [.d (.int .i64 dm),.d (.int .i64 lo),.d (.int .i64 hi),.d (.int .i64 pl)]),(1,.cells aZ),(2,.cells (vc (odo lo hi j V)))],N⟩⟩):=by
 intro j
 induction j with
 | zero =>
  intro V h1 hV hs;rw[aa jn.eq_1];simp (maxSteps:=300000) (disch:=omega) [↓if_pos,↓if_neg,odo]
 | succ j ih =>
  intro V h1 hV hs;have hg:=arh (V:=V) (i:=j) (by omega);have hb:=hs (nth V j) (gn (by omega));have hgs:∀ z,(vc (V.set j z))[j]?=some (.d (.int .i64 z)):=fun z=>by
   rw[vc,List.getElem?_map,List.getElem?_set_self (by omega)];rfl
  have c1:((j+1:Nat):Int)-1=(j:Int):=by omega
  have lp:=fun z=>ald (V:=V) (i:=j) (z:=z) (by omega)
  have lq:=fun y z=>ald (V:=V.set j y) (i:=j) (z:=z) (by simp;omega)
  have hss:∀ y z,(V.set j y).set j z=V.set j z:=fun y z=>List.set_set ..
  have hl2:∀ y,(V.set j y).length=4:=fun y=>by simpa using hV
  rw[c1,aa jn.eq_1,odo];by_cases h:nth V j+1≤hi
  ·rw[if_pos h];generalize nth V j=z at *;simp (maxSteps:=300000) (disch:=omega) [↓if_pos,↓if_neg,hg,KU,lp,lq,hss,hl2,hV,hgs]
  ·have h5:=ih (V.set j lo) (by omega) (by simpa using hV) (fun z hz=>by
    rcases List.mem_or_eq_of_mem_set hz with g | g
    ·exact hs z g
    ·subst g;omega)
   rw[if_neg h,←h5];generalize nth V j=z at *;simp (maxSteps:=300000) (disch:=omega) [↓if_pos,↓if_neg,hg,KU,lp,lq,hss,hl2,hV,hgs]
def XL (lo:Int):Nat→Nat→List Int→List Int
 | 0,_,V=>V
 | k+1,i,V=>XL lo k (i+1) (V.set i lo)
theorem at4 (d:Nat) (hd:d≤4):∀ (k i:Nat) (V:List Int),i+k=d→V.length=4→
  (Dn prog).code (.loop jo) ⟨[(1,.ptr 0 0),(2,.ptr 1 0),(3,.ptr 2 0),(11,.d (.int .i64 d)),(12,.d (.int .i64 i))],
   ⟨[(0,.cells [.d (.int .i64 dm),.d (.int .i64 lo),.d (.int .i64 hi),.d (.int .i64 pl)]),(1,.cells aZ),(2,.cells (vc V))],N⟩⟩ =
  some (.exit 0,⟨[(1,.ptr 0 0),(2,.ptr 1 0),(3,.ptr 2 0)],
   ⟨[(0,.cells [.d (.int .i64 dm),.d (.int .i64 lo),.d (.int .i64 hi),.d (.int .i64 pl)]),(1,.cells aZ),(2,.cells (vc (XL lo k i V)))],N⟩⟩):=by
 intro k
 induction k with
 | zero =>
  intro i V h1 hV;rw[aa jo.eq_1];simp (maxSteps:=300000) (disch:=omega) [↓if_pos,↓if_neg,XL]
 | succ k ih =>
  intro i V h1 hV;have lp:=fun z=>ald (V:=V) (i:=i) (z:=z) (by omega)
  have h5:=ih (i+1) (V.set i lo) (by omega) (by simpa using hV);have c1:((i+1:Nat):Int)=(i:Int)+1:=rfl;rw[c1]at h5;rw[aa jo.eq_1,XL,←h5];simp (maxSteps:=300000) (disch:=omega) [↓if_pos,↓if_neg,KU,lp,hV]
end
def tg (id n:Nat):List Int:=(iM id n++[0,0,0,0]).take 4
def auR (id n:Nat):Bool:=decide (odo (bu id) (bu id+ba id-1) (bU id) (tg id n)=tg id (n+1)) && decide (Ho ((tg id n).take (bU id))=qU id n) && decide (qU id n≤255) &&
 (tg id n).all (fun z=>decide (-100000≤z) && decide (z≤100000)) && decide ((tg id n).length=4)
theorem aw9:∀ id∈ids,(List.range (ay id)).all (auR id)=true:=by decide +kernel
theorem azF {id n:Nat}(h:fl id) (hn:n<ay id):odo (bu id) (bu id+ba id-1) (bU id) (tg id n)=tg id (n+1)∧Ho ((tg id n).take (bU id))=qU id n∧qU id n≤255∧Sm (tg id n)∧(tg id n).length=4:=by
 have:=List.all_eq_true.1 (aw9 id (de h)) n (by simpa using hn);simp only[auR,Bool.and_eq_true,decide_eq_true_eq,List.all_eq_true]at this;exact⟨this.1.1.1.1,this.1.1.1.2,this.1.1.2,fun z hz=>this.1.2 z hz,this.2⟩
theorem au3:∀ id∈ids,XL (bu id) (bU id) 0 [0,0,0,0]=tg id 0∧bU id≤4∧1≤bU id∧-1000≤bu id∧bu id≤1000∧ay id≤289:=by decide +kernel
def mF (id n:Nat):List AV:=(List.range 289).map fun e=>.d (.int .u8 (if e<n then qU id e else 0:Nat))
theorem Sb {id n:Nat}:(mF id n).length=289:=by simp[mF]
theorem as0 {id n:Nat}(h:n<289):List.take n (mF id n)++AV.d (.int .u8 (qU id n:Nat))::List.drop (n+1) (mF id n)=mF id (n+1):=by
 have e:(mF id n).set n (AV.d (.int .u8 (qU id n:Nat)))=mF id (n+1):=by
  apply List.ext_getElem?;intro j;rw[List.getElem?_set];by_cases hj:n=j
  ·subst hj;rw[if_pos rfl,if_pos (by rw[Sb];exact h),mF,List.getElem?_map,List.getElem?_range h];simp
  ·rw[if_neg hj,mF,mF,List.getElem?_map,List.getElem?_map];by_cases hl:j<289
   ·rw[List.getElem?_range hl];simp only[Option.map_some];by_cases h2:j<n
    ·rw[if_pos h2,if_pos (by omega)]
    ·rw[if_neg h2,if_neg (by omega)]
   ·rw[List.getElem?_eq_none (by simp;omega)];rfl
 rw[←e,List.set_eq_take_append_cons_drop,if_pos (by rw[Sb];exact h)]
theorem auj (id:Nat) (h:fl id) (pl:Int) (N:Nat):∀ (k n:Nat),n+k=ay id→
  (Dn prog).code (.loop jl) ⟨[(1,.ptr 0 0),(2,.ptr 1 0),(3,.ptr 2 0),(21,.d (.int .i64 (ay id))),(22,.d (.int .i64 n))],
   ⟨[(0,.cells [.d (.int .i64 (bU id)),.d (.int .i64 (bu id)),.d (.int .i64 (bu id+ba id-1)),.d (.int .i64 pl)]),(1,.cells (mF id n)),(2,.cells (vc (tg id n)))],N⟩⟩ =
  some (.exit 2,⟨[(2,.ptr 1 0)],⟨[(1,.cells (mF id (ay id))),(2,.cells (vc (tg id (ay id))))],N⟩⟩):=by
 obtain⟨d0,d1,d2,d3,d4,d5⟩:=au3 id (de h);intro k
 induction k with
 | zero =>
  intro n hn;have:n=ay id:=by omega
  subst this;rw[aa jl.eq_1];simp (maxSteps:=300000) (disch:=omega) [↓if_pos,↓if_neg]
 | succ k ih =>
  intro n hn;obtain⟨f1,f2,f3,f4,f5⟩:=azF (n:=n) h (by omega);have g1:=asq (bU id) (bu id) (bu id+ba id-1) pl (mF id n) N (bU id) n (ay id) d1 (tg id n) f5 f4 (bU id) 0 0 (by omega) (by omega);have g2:=atc (bU id) (bu id) (bu id+ba id-1) pl (mF id (n+1)) N n (ay id) ⟨d3,d4⟩ (bU id) (tg id n) d1 f5 f4;rw[f1]at g2;rw[List.drop_zero,f2,Nat.zero_add]at g1;have h5:=ih (n+1) (by omega);have c1:((n+1:Nat):Int)=(n:Int)+1:=rfl;have c0:((0:Nat):Int)=0:=rfl;rw[c1]at h5;rw[c0]at g1;have hp:=as0 (id:=id) (n:=n) (by omega);have hl:=KU (V:=tg id n);have ol:=Sb (id:=id) (n:=n);rw[aa jl.eq_1,←h5];generalize qU id n=z at *;generalize hA:mF id n=A at *;generalize hB:mF id (n+1)=B at *;generalize tg id n=V at *;generalize tg id (n+1)=W at *;simp (maxSteps:=300000) (disch:=omega) [↓if_pos,↓if_neg,g1,g2,hp,AV.int]
def Em:List AV:=List.replicate 289 (.d (.int .u8 0))
theorem ajh:Em.length=289:=by simp[Em]
theorem ayo {id:Nat}:mF id 0=Em:=by
 simp only[mF,Nat.not_lt_zero,if_false,Em];rw[List.map_const',List.length_range];rfl
theorem asA {id:Nat}:mF id (ay id)=lE id:=rfl
theorem az4 {x0:AV}{h:ac}{n:Nat}:(Dn prog).code mi ⟨[(0,x0)],⟨h,n⟩⟩=br (bQ ((AV.cells x0).all bM) <| lA (put h n (.cells (AV.cells x0))) fun h1=>lA (put h1 (n+1) (.cells Em)) fun h2=>some ⟨[(1,.ptr n 0),(2,.ptr (n+1) 0)],⟨h2,n+1+1⟩⟩):=sX
abbrev Dl (Z:List AV):Prop:=∀ x∈Z,∃ d,x=AV.d d
theorem aks:∀ {Z:List AV},(cY 1 Z).1=Z
 | []=>rfl
 | v::r=>by rw[cY,aks];rfl
theorem akW {h:ac}:∀ {Z:List AV},Dl Z→lv h Z=some (Z,h)
 | [],_=>rfl
 | v::r,hz=>by
  obtain⟨d,rfl⟩:=hz v (.head _);have h1:gk h (.d d)=some (.d d,h):=rfl;rw[lv,h1];simp only[akW (Z:=r) fun x hx=>hz x (.tail _ hx)]
theorem ak1:∀ {Z:List AV},Dl Z→Z.map jG=Z
 | [],_=>rfl
 | v::r,hz=>by
  obtain⟨d,rfl⟩:=hz v (.head _);rw[List.map_cons,ak1 fun x hx=>hz x (.tail _ hx)];rfl
theorem auZ {id:Nat}:Dl (lE id):=by
 intro x hx;simp only[lE,List.mem_map]at hx;obtain⟨e,_,rfl⟩:=hx;exact⟨_,rfl⟩
theorem WY (id:Nat) (h:fl id):aO prog dG [Rx id]=some (.agg (lE id)):=by
 have hin:=de h;obtain⟨d0,d1,d2,d3,d4,d5⟩:=au3 id hin;have hm:=AC id hin;have h0:=at4 (bU id) (bu id) (bu id+ba id-1) (aG id) Em 3 (bU id) d1 (bU id) 0 [0,0,0,0] (by omega) rfl;have h3:=auj id h (aG id) 3 (ay id) 0 (by omega);have c0:((0:Nat):Int)=0:=rfl;have v0:vc [0,0,0,0]=[.d (.int .i64 0),.d (.int .i64 0),.d (.int .i64 0),.d (.int .i64 0)]:=rfl;rw[d0,c0,v0]at h0;rw[ayo,asA,c0]at h3;have zl:=adt (id:=id);have zr:=fun h=>akW (h:=h) (auZ (id:=id))
 have zb:=ak1 (auZ (id:=id));have zt:List.take 289 (lE id)=lE id:=List.take_of_length_le (by omega);have z1:=aks (Z:=lE id);simp only[Rx]at hm⊢;rw[aq QH qj.eq_1 rfl];generalize lE id=Z at *;generalize vc (tg id 0)=V0 at *;generalize vc (tg id (ay id))=V1 at *;generalize aG id=pl at *;generalize bU id=dm at *;generalize bu id=lo at *;generalize ba id=wi at *;generalize ay id=n at *;simp (maxSteps:=300000) (disch:=omega) [↓if_pos,↓if_neg,hm,h0,h3,-sX,az4,zt,z1,zr];exact fun _=>zb
theorem aop {hp:List Nat→ac}{D L:Nat}{F:AV}{C:Nat→Nat→Int}(H:Hp hp D) (K:Cm hp L F C) (n:Nat) (hlen:n≤1000000000) (hn:n % 20≠0) (N:Nat) (xs:List Nat) (hx:xs.length=n) (u:ck L xs) :
  (Dn prog).call gW [.sl D 0 n,F] ⟨hp xs,N⟩=some (.tup [],⟨hp (lQ C n xs),N⟩):=by
 have h:=apU H K n hlen hn N xs hx u;rw[aD wT gS.eq_1 rfl];simp (maxSteps:=300000) (disch:=omega) [↓if_pos,↓if_neg,K.sh,K.fi,h]
theorem aBx {x2:AV}{x4:AV}{x6:AV}{h:ac}{n:Nat}:(Dn prog).code yz ⟨[(2,x2),(4,x4),(6,x6)],⟨h,n⟩⟩=br (bP (loadAt h (some 4) 1 (share x4)) fun a1 h2=>bA (ca (Dn prog) dG [firm a1] h2) fun a3=>lA (put h2 n (.cells Em)) fun h4=>bA (storeAt h4 289 (.ptr n 0) (firm a3)) fun h5=>some ⟨[(2,x2),(4,x4),(6,x6),(7,.ptr n 0)],⟨h5,n+1⟩⟩):=GZ
theorem ajJ {W Z:List AV}(h:W.length=Z.length):ah W 0 Z=Z:=by simp[ah,←h]
theorem aiE {id:Nat}:(lE id).all bM=true:=by
 rw[List.all_eq_true];intro x hx;simp only[lE,List.mem_map]at hx;obtain⟨e,_,rfl⟩:=hx;rfl
theorem aix {id:Nat}:(lE id).map kY=lE id:=by
 simp only[lE,List.map_map];rfl
theorem asZ {n:Nat}:List.replicate n [D.int .i64 0]=bj (List.replicate n 0):=by simp[bj]
theorem arj (id:Nat) (h:fl id):aO prog pt [.d (.int .i64 id)]=some (.tup [Ny id,.d (.int .i64 0)]):=by
 have hin:=de h;obtain⟨m1,m2,m3⟩:=anK id hin;obtain⟨e1,e2,e3⟩:=amK id hin;have hR:=avp id hin;have t1:List.take (ay id) (aW id)=aW id:=List.take_of_length_le (by omega);have t2:List.take (ay id) (bF id)=bF id:=List.take_of_length_le (by omega);have hst:=azz id h;have ho:=Jc id hin;have hm:=AC id hin;have hz:=WY id h;have zl:=adt (id:=id);have zc:=aiE (id:=id);have zf:=aix (id:=id);have z9:=ajh;have zd:List.drop (lE id).length Em=[]:=List.drop_eq_nil_of_le (by omega);have hu:ck (ay id) (aW id):=fun x hx=>by simpa using List.all_eq_true.1 e3 x hx
 have hs:=fun a b c d x0 x1 R N=>aop (hp:=fun xs=>[(0,.cells [a,b,c,d]),(2,.arr 1 (bj xs)),(3,.arr 1 (bj R)),(4,.cells [.d x0,.d x1,.sl 2 0 (ay id),.sl 3 0 (ay id)]),(5,.cells (lE id))]) (D:=2)
  ⟨fun xs=>rfl,fun xs ys=>rfl⟩ (aEi (S:=5) (fun xs=>rfl) m1) (ay id) (by omega) m2 N (List.range (ay id)) (by simp) (fun x hx=>by simpa using hx)
 have h0:=fun a b c d x0 x1 R N=>alJ (ay id) (lE id) m1 R a b c d x0 x1 N (ay id) 0 (by omega)
 have h1:=fun a b c d x0 x1 N=>alN (ay id) (lE id) m1 (aW id) e1 hu a b c d x0 x1 N (ay id) 0 (List.replicate (ay id) 0) (by omega) (by simp)
 have hup:yT (ay id) (ay id)=List.range (ay id):=by simp[yT]
 have hu0:yT (ay id) 0=List.replicate (ay id) 0:=by simp[yT]
 rw[hup,hu0]at h0;simp only[hst,hR,Rx]at hs h1 ho hm hz;rw[aq aoa IM.eq_1 rfl];have hid:(1:Int)≤id∧(id:Int)≤12:=by omega
 have c0:((0:Nat):Int)=0:=rfl;rw[c0]at h0 h1;simp only[Ny];generalize lE id=Z at *;generalize aW id=es at *;generalize bF id=rs at *;generalize aG id=pl at *;generalize bU id=dm at *;generalize bu id=lo at *;generalize ba id=wi at *;generalize ay id=n at *;simp (maxSteps:=300000) (disch:=omega) [↓if_pos,↓if_neg,ho,hm,hz,h0,hs,h1,-GZ,aBx,ajJ,zc,zf,zd,Fy,asZ,AV.int,t1,t2]
def gp (id:Nat):Bool:=decide (bu id<0)
theorem Kv:∀ x∈ids.take 11,aO prog yU [.d (.int .i64 x)]=some (.d (.bool (gp x))):=BE 100 _ (by kernel_rfl)
section
variable (id:Nat)
end
section
variable (n:Nat) (sz:List Nat) (hz:sz.length=n) (hn2:n≤289) (a b c d:AV) (x0 x1:D) (N:Nat)
include hz hn2
end
def okR (sz es rs:List Nat) (i:Nat):Bool:=Nat.beq (jf rs (jf es i)) i &&
 (Nat.beq i 0 || Nat.blt (jf sz (jf es (i-1))) (jf sz (jf es i)) || (Nat.beq (jf sz (jf es (i-1))) (jf sz (jf es i)) && Nat.blt (jf es (i-1)) (jf es i)))
theorem ave:∀ id∈ids,(List.range (ay id)).all (okR (fy id) (aW id) (bF id))=true:=by decide +kernel
theorem aqh {id i:Nat}(h:fl id) (hi:i<ay id):nth (bF id) (nth (aW id) i)=i∧(i≠0→nth (fy id) (nth (aW id) (i-1))<nth (fy id) (nth (aW id) i)∨(nth (fy id) (nth (aW id) (i-1))=nth (fy id) (nth (aW id) i)∧nth (aW id) (i-1)<nth (aW id) i)):=by
 have:=List.all_eq_true.1 (ave id (de h)) i (by simpa using hi);simp only[okR,sP,Bool.and_eq_true,Bool.or_eq_true,Nat.beq_eq,Nat.blt,Nat.ble_eq]at this;refine⟨this.1,fun h0=>?_⟩;rcases this.2 with (h1 | h1) | h1
 ·exact absurd h1 h0
 ·exact .inl h1
 ·exact .inr h1
section
variable (n:Nat) (hn:n≤289) (sz es rs:List Nat) (Z:List AV) (he:es.length=n) (hr:rs.length=n) (hu:ck n es) (hZ:∀ x,x<n→Z[x]?=some (.d (.int .u8 (nth sz x:Nat))))
 (h1:∀ i,i<n→nth rs (nth es i)=i) (h2:∀ i,i+1<n→nth sz (nth es i)<nth sz (nth es (i+1))∨(nth sz (nth es i)=nth sz (nth es (i+1))∧nth es i<nth es (i+1)))
include hn he hr hu hZ h1 h2
theorem ahD (x0 x1:D) (N:Nat):∀ (k i:Nat),i+k=n→
  (Dn prog).code (.loop nK) ⟨[(1,.ptr 0 0),(5,.ptr 2 0),(43,.d (.lst (bj es))),(44,.d (.int .i64 n)),(45,.d (.int .i64 i))],⟨[(0,.cells [.d x0,.d x1,.d (.lst (bj es)),.d (.lst (bj rs))]),(2,.cells Z)],N⟩⟩ =
  some (.exit 0,⟨[],⟨[],N⟩⟩):=by
 intro k
 induction k with
 | zero =>
  intro i h;rw[aa nK.eq_1];simp (maxSteps:=300000) (disch:=omega) [↓if_pos,↓if_neg]
 | succ k ih =>
  intro i h;have hv:=hu.nth (i:=i) (by omega);have e1:=hZ _ hv;have r1:=h1 i (by omega);have h5:=ih (i+1) (by omega);have c1:((i+1:Nat):Int)=(i:Int)+1:=rfl;rw[c1]at h5;rw[aa nK.eq_1,←h5];by_cases h0:i=0
  ·subst h0;have c0:((0:Nat):Int)=0:=rfl;rw[c0];have n0:(0:Int)=((0:Nat):Int):=rfl;simp (maxSteps:=300000) (disch:=omega) [↓if_pos,↓if_neg,r1]
  ·obtain⟨q,rfl⟩:∃ q,i=q+1:=⟨i-1,by omega⟩
   have hw:=hu.nth (i:=q) (by omega);have e2:=hZ _ hw;rcases h2 q (by omega) with g | ⟨g1,g2⟩
   ·simp (maxSteps:=300000) (disch:=omega) [↓if_pos,↓if_neg,r1,e1,e2]
   ·simp (maxSteps:=300000) (disch:=omega) [↓if_pos,↓if_neg,r1,e1,e2]
end
theorem aAA {x1:AV}{x3:AV}{h:ac}{n:Nat}:(Dn prog).code uU ⟨[(1,x1),(3,x3)],⟨h,n⟩⟩=br (bP (loadAt h (some 4) 1 (share x3)) fun a1 h2=>bA (ca (Dn prog) dG [firm a1] h2) fun a3=>lA (put h2 n (.cells Em)) fun h4=>bA (storeAt h4 289 (.ptr n 0) (firm a3)) fun h5=>some ⟨[(1,x1),(3,x3),(5,.ptr n 0)],⟨h5,n+1⟩⟩):=Bp
theorem alD (id:Nat) (h:fl id):aO prog oM [jr id]=some (.d (.bool true)):=by
 have hin:=de h;obtain⟨m1,m2,m3⟩:=anK id hin;obtain⟨e1,e2,e3⟩:=amK id hin;have ho:=Jc id hin;have hm:=AC id hin;have hz:=WY id h;have zl:=adt (id:=id);have zc:=aiE (id:=id);have zf:=aix (id:=id);have z9:=ajh;have zd:List.drop (lE id).length Em=[]:=List.drop_eq_nil_of_le (by omega);have hu:ck (ay id) (aW id):=fun x hx=>by simpa using List.all_eq_true.1 e3 x hx
 have h0:=fun x0 x1 N=>ahD (ay id) m1 (fy id) (aW id) (bF id) (lE id) e1 e2 hu (fun x hx=>aa8 hx m1) (fun i hi=>(aqh h hi).1) (fun i hi=>by have:=(aqh h hi).2 (by omega);simpa using this) x0 x1 N (ay id) 0 (by omega)
 simp only[Rx]at ho hm hz;rw[aq ait Cb.eq_1 rfl];have hid:(1:Int)≤id∧(id:Int)≤12:=by omega
 have c0:((0:Nat):Int)=0:=rfl;rw[c0]at h0;simp only[jr];generalize lE id=Z at *;generalize fy id=zs at *;generalize aW id=es at *;generalize bF id=rs at *;generalize aG id=pl at *;generalize bU id=dm at *;generalize bu id=lo at *;generalize ba id=wi at *;generalize ay id=n at *;simp (maxSteps:=300000) (disch:=omega) [↓if_pos,↓if_neg,ho,hm,hz,h0,-Bp,aAA,ajJ,zc,zf,zd,AV.int,e1,e2]
def ir (b:List Nat):Nat→Nat→Int→R Nat
 | 0,_,_=>.er 7
 | f+1,m,a=>(aQ b a 1).bind fun v n=>if v=1 then .ok m n else ir b f (m+1) n
abbrev pZ (b:List Nat) (m n:Nat):Prop:=m≤9∧n≤b.length
theorem ak6 {b:List Nat}:∀ {f m k n:Nat}{a:Int},f+m=10→ir b f m a=.ok k n→pZ b k n
 | 0,_,_,_,_,_,h=>absurd h (by simp[ir])
 | f+1,m,k,n,a,hf,h=>by
  rw[ir]at h
  cases h1:aQ b a 1 with
  | er e=>rw[h1]at h;exact absurd h (by simp)
  | ok v a1 =>
   rw[h1,ak]at h;by_cases hv:v=1
   ·rw[if_pos hv]at h;injection h with e1 e2
    subst e1 e2;exact⟨by omega,(cZ h1).2⟩
   ·rw[if_neg hv]at h;exact ak6 (by omega) h
theorem atD {α γ:Type}{p:α→Nat→Prop}{b:List Nat}{f m:Nat}{a:Int}{g:Nat→Nat→R α}{F:α→Nat→γ}{G:Nat→γ}(h:f+m=10):rK p ((ir b f m a).bind g) F G=rK (pZ b) (ir b f m a) (fun v n=>rK p (g v n) F G) G:=pn fun _ _ h2=>ak6 h h2
theorem arp {γ:Type}{b:List Nat}{f m:Nat}{a:Int}{F:Nat→Nat→γ}{G:Nat→γ}(h:f+1+m=10):rK (pZ b) (ir b (f+1) m a) F G=rK (pG b 1) (aQ b a 1) (fun v n=>if v=1 then F m n else rK (pZ b) (ir b f (m+1) n) F G) G:=by
 rw[ir,Bt];refine fI (fun _ _=>rfl) (fun v n hp=>?_) fun _=>rfl
 by_cases hv:v=1
 ·rw[if_pos hv,if_pos hv,cG ⟨by omega,hp.2⟩]
 ·rw[if_neg hv,if_neg hv]
def qF (id:Nat) (b:List Nat) (a:Int):R Nat :=
 (ir b 10 0 a).bind fun m n=>(aQ b n m).bind fun hi n=>(aQ b n (aG id)).bind fun lo n =>
  if (aW id).length≤(2 ^ m+hi-1)*2 ^ aG id+lo then .er 7 else .ok (nth (aW id) ((2 ^ m+hi-1)*2 ^ aG id+lo)) n
theorem aiT (b:List Nat) (hb:b.length≤1000000000) (X:Obj) (N:Nat):∀ (f m:Nat) (a:Int),f+m=10→i64 a→
  (Dn prog).code (.loop lC) ⟨[(1,.d (.lst (af b))),(3,.ptr 0 0),(7,.d (.int .i64 a)),(9,.d (.int .i64 m)),(10,.d (.int .i64 0))],⟨[(0,X)],N⟩⟩ =
  rK (pZ b) (ir b f m a) (fun m n=>some (.exit 0,⟨[(1,.d (.lst (af b))),(3,.ptr 0 0),(7,.d (.int .i64 n)),(9,.d (.int .i64 ((m+1:Nat):Int)))],⟨[(0,X)],N⟩⟩)) (fun e=>some (.ret,⟨[(6,.d (.int .i64 0)),(7,.d (.int .i64 0)),(8,.d (.int .i64 (e+1)))],⟨[],N⟩⟩)):=by
 intro f
 induction f with
 | zero =>
  intro m a hf ha;rw[aa lC.eq_1,ir];simp (maxSteps:=300000) (disch:=omega) [↓if_pos,↓if_neg]
 | succ f ih =>
  intro m a hf ha;rw[aa lC.eq_1,arp hf];simp (maxSteps:=300000) (disch:=omega) [↓if_pos,↓if_neg,ez];refine fI (fun _ _=>rfl) (fun v n hp=>?_) fun _=>rfl
  have hp4:v<2:=hp.1;by_cases h4:v=1
  ·subst h4;rw[if_pos rfl,aa lC.eq_1];simp (maxSteps:=300000) (disch:=omega) [↓if_pos,↓if_neg]
  ·have h5:v=0:=by omega
   subst h5;have h:=ih (m+1) n (by omega) (by omega);rw[if_neg h4];simp at h⊢;exact h
theorem XH (id:Nat) (h:fl id):aO prog oM [jr id]=some (.d (.bool true)):=alD id h
theorem S9 (id:Nat) (h:fl id):aO prog pt [.d (.int .i64 id)]=some (.tup [Ny id,.d (.int .i64 0)]):=arj id h
theorem ate {γ:Type}{id:Nat}{b:List Nat}{a:Int}(hid:fl id) {F:Nat→Nat→γ}{G:Nat→γ}:rK (fun e n=>e<ay id∧n≤b.length) (qF id b a) F G =
  rK (pZ b) (ir b 10 0 a) (fun m n=>rK (pG b m) (aQ b n m) (fun hi n=>rK (pG b (aG id)) (aQ b n (aG id)) (fun lo n =>
  if (aW id).length≤(2 ^ m+hi-1)*2 ^ aG id+lo then G 7 else F (nth (aW id) ((2 ^ m+hi-1)*2 ^ aG id+lo)) n) G) G) G:=by
 rw[qF,atD rfl];refine fI (fun _ _=>rfl) (fun m n hp=>?_) fun _=>rfl
 rw[Bt];refine fI (fun _ _=>rfl) (fun hi n hp=>?_) fun _=>rfl
 rw[Bt];refine fI (fun _ _=>rfl) (fun lo n hp=>?_) fun _=>rfl
 by_cases hr:(aW id).length≤(2 ^ m+hi-1)*2 ^ aG id+lo
 ·rw[if_pos hr,if_pos hr,fc]
 ·rw[if_neg hr,if_neg hr,cG];exact⟨(DH (by omega)).2.2.2 _ (gn (by omega)),hp.2⟩
abbrev wL:VC:=(.seq (.seq DA (.cond (.m 73) (.seq (.seq (K [7,13]) (F 3)) (.seq D0 .ret)) .skip)) (.seq (.seq Dz (F 3)) .ret))
theorem N3 {m:Nat}(h:m≤60):c8 .shl (.d (.int .i64 1)) (.d (.int .i64 m))=some (.int .i64 ((2 ^ m:Nat):Int)):=by
 have h2:2 ^ m≤2 ^ 60:=Nat.pow_le_pow_right (by omega) h;have h3:min m 64=m:=by omega
 rw[oW (by omega),Int.toNat_natCast,IntKind.bits,h3];generalize 2 ^ m=P at *;rw[ajI (by omega) (by omega),Int.one_mul]
theorem ao9 {x:Int}{m P:Nat}(hP:2 ^ m=P) (hm:m≤60) (h0:0≤x) (h1:x*P≤4611686018427387904):c8 .shl (.d (.int .i64 x)) (.d (.int .i64 m))=some (.int .i64 (x*P)):=by
 subst hP;have h2:2 ^ m≤2 ^ 60:=Nat.pow_le_pow_right (by omega) hm;have h3:min m 64=m:=by omega
 rw[oW (by omega),Int.toNat_natCast,IntKind.bits,h3];have:0≤x*((2 ^ m:Nat):Int):=Int.mul_nonneg h0 (Int.natCast_nonneg _);generalize x*((2 ^ m:Nat):Int)=y at *;rw[ajI (by omega) (by omega)]
theorem ax5 {x:Int}(h0:0≤x) (h1:x≤100000000):c8 .shl (.d (.int .i64 x)) (.d (.int .i64 0))=some (.int .i64 x):=by
 have:=ao9 (x:=x) (m:=0) (P:=1) rfl (by omega) h0 (by omega);simpa using this
theorem axO {x:Int}(h0:0≤x) (h1:x≤100000000):c8 .shl (.d (.int .i64 x)) (.d (.int .i64 1))=some (.int .i64 (x*2)):=by
 have:=ao9 (x:=x) (m:=1) (P:=2) rfl (by omega) h0 (by omega);simpa using this
theorem azs {x:Int}(h0:0≤x) (h1:x≤100000000):c8 .shl (.d (.int .i64 x)) (.d (.int .i64 2))=some (.int .i64 (x*4)):=by
 have:=ao9 (x:=x) (m:=2) (P:=4) rfl (by omega) h0 (by omega);simpa using this
theorem aff (id:Nat) (b:List Nat) (a:Int) (hb:b.length≤1000000000) (ha:i64 a) (hid:fl id):aO prog xr [jr id,.d (.lst (af b)),.d (.int .i64 a)] =
  rK (fun e n=>e<ay id∧n≤b.length) (qF id b a) (fun e n=>some (.tup [.d (.int .i64 e),.d (.int .i64 n),.d (.int .i64 0)])) (fun e=>some (.tup [.d (.int .i64 0),.d (.int .i64 0),.d (.int .i64 (e+1))])):=by
 have hr:=XH id hid;have hf:=DH (id:=id) (by omega);rw[aq amu E3.eq_1 rfl,ate hid];have hl:=fun X N=>aiT b hb X N 10 0 a rfl ha
 have c0:((0:Nat):Int)=0:=rfl;simp only[c0]at hl;simp only[jr]at hr⊢;obtain⟨f1,f2,f3,-⟩:=hf;generalize aW id=es at *;generalize bF id=rs at *;generalize aG id=pl at *;simp (maxSteps:=300000) (disch:=omega) [↓if_pos,↓if_neg,hr,hl];refine fI (fun _ _=>rfl) (fun m n hp=>?_) fun _=>rfl
 have hp2:2 ^ m≤2 ^ 9:=Nat.pow_le_pow_right (by omega) hp.1;have e1:(m:Int)+1-1=m:=by omega
 have hs1:=N3 (m:=m) (by omega);have hp1:=hp.1;have hpos:0<2 ^ m:=Nat.two_pow_pos m;have c1:((1:Nat):Int)=1:=rfl;have c2:((2:Nat):Int)=2:=rfl;generalize hP:2 ^ m=P at *;have fin:∀ (x:Nat) (n:Nat) (i1 p:Int),x≤100000→mt (ow [.tmp 6,.tmp 7,.tmp 8] ((Dn prog).code (wL) ⟨[(3,.ptr 0 0),(7,.d (.int .i64 n)),(13,.d (.int .i64 x))],⟨[(0,.cells [.d (.int .i64 i1),.d (.int .i64 p),.d (.lst (bj es)),.d (.lst (bj rs))])],1⟩⟩)) =
   if es.length≤x then some (.tup [.d (.int .i64 0),.d (.int .i64 0),.d (.int .i64 8)]) else some (.tup [.d (.int .i64 ((nth es x:Nat):Int)),.d (.int .i64 n),.d (.int .i64 0)]):=fun x n i1 p hx=>by
  by_cases hr:es.length≤x
  ·rw[if_pos hr];simp (maxSteps:=300000) (disch:=omega) [↓if_pos]
  ·rw[if_neg hr];simp (maxSteps:=300000) (disch:=omega) [↓if_neg]
 have hpl:pl=0∨pl=1∨pl=2:=by omega
 obtain⟨T,ht⟩:∃ T,T=wL:=⟨_,rfl⟩
 rw[←ht]at fin;unfold wL at ht;rw[←ht];rcases hpl with rfl | rfl | rfl
 all_goals
  simp (maxSteps:=300000) (disch:=omega) [↓if_pos,↓if_neg,ez,e1,-oW,hs1];refine fI (fun _ _=>rfl) (fun hi n hp=>?_) fun _=>rfl
  refine fI (fun _ _=>rfl) (fun lo n hq=>?_) fun _=>rfl
  have h1:hi<P:=hP▸hp.1;have h2:lo<4:=Nat.lt_of_lt_of_le hq.1 (by decide);simp (maxSteps:=300000) (disch:=omega) [-oW,ax5,axO,azs]
 ·have e3:((P+hi-1+lo:Nat):Int)=P+hi-1+lo:=by omega
  rw[←e3,fin _ n id 0 (by omega)]
 ·have e3:(((P+hi-1)*2+lo:Nat):Int)=(P+hi-1)*2+lo:=by omega
  rw[←e3,fin _ n id 1 (by omega)]
 ·have e3:(((P+hi-1)*4+lo:Nat):Int)=(P+hi-1)*4+lo:=by omega
  rw[←e3,fin _ n id 2 (by omega)]
theorem ie:∀ id∈ids,1≤bU id∧bU id≤4∧1≤ba id∧ba id≤121∧-60≤bu id∧bu id≤0∧ay id≤300:=by decide +kernel
theorem aeM (dim low pl:Int) (w:Nat) (hw:w≤1000) (hl:-1000≤low∧low≤1000):aO prog gY [.agg [.d (.int .i64 dim),.d (.int .i64 low),.d (.int .i64 (low+w-1)),.d (.int .i64 pl)]]=some (.d (.int .i64 w)):=by
 rw[aq Te rL.eq_1 rfl];have e:low+(w:Int)-1-low+1=w:=by omega
 simp (disch:=omega) [e]
theorem td (e w:Nat):(e:Int).tdiv w=((e / w:Nat):Int):=rfl
theorem tm (e w:Nat):(e:Int).tmod w=((e % w:Nat):Int):=rfl
theorem axq {j:Nat}{x:Int}{suf:List Int}:(List.replicate (j+1) (0:Int)++suf).set j x=List.replicate j 0++x::suf:=by
 rw[List.replicate_succ',List.append_assoc,List.set_append_right _ _ (by simp)];simp
theorem abQ (low:Int) (w pl dim:Nat) (hw:1≤w∧w≤1000) (hl:-1000≤low∧low≤1000):∀ (j e:Nat) (suf:List Int),j+suf.length=dim→dim≤10→e≤100000→
  (Dn prog).code (.loop iR) ⟨[(1,.d (.int .i64 e)),(2,.ptr 0 0),(5,.sl 1 0 dim),(6,.d (.int .i64 (j-1)))],⟨[(0,.cells [.d (.int .i64 dim),.d (.int .i64 low),.d (.int .i64 (low+w-1)),.d (.int .i64 pl)]),(1,.arr 1 (ai (List.replicate j 0++suf)))],2⟩⟩ =
   some (.exit 0,⟨[(5,.sl 1 0 dim)],⟨[(1,.arr 1 (ai (ik low w j e++suf)))],2⟩⟩):=by
 intro j
 induction j with
 | zero =>
  intro e suf h1 h2 h3;rw[aa iR.eq_1];simp (disch:=omega) [↓if_neg,ik]
 | succ j ih =>
  intro e suf h1 h2 h3;have hm:e % w<w:=Nat.mod_lt _ (by omega);have hd:e / w≤e:=Nat.div_le_self _ _;have h:=ih (e / w) ((((e % w:Nat):Int)+low)::suf) (by simp;omega) h2 (by omega);rw[ik,List.append_assoc,List.singleton_append,←h,←axq,aa iR.eq_1];have hk:=aeM dim low pl w (by omega) hl;have e1:((j+1:Nat):Int)-1=j:=by omega
  have hg:(ai (List.replicate (j+1) 0++suf))[j]?=some [.int .i64 (nth (List.replicate (j+1) 0++suf) j)]:=Bu (by simp;omega);simp only[e1];have td:=td e w;have tm:=tm e w;generalize hL:List.replicate (j+1) (0:Int)++suf=L at *;generalize e / w=q at *;generalize e % w=r at *;clear ih h;simp (maxSteps:=300000) (disch:=omega) [↓if_pos,hk,td,tm,hg]
theorem SW (id e:Nat) (h:fl id) (he:e≤100000):aO prog oQ [Rx id,.d (.int .i64 e)]=some (.own true 1 (ai (iM id e))):=by
 obtain⟨k1,k2,k3,k4,k5,k6,k7⟩:=ie id (de h);have hl:=abQ (bu id) (ba id) (aG id) (bU id) (by omega) (by omega) (bU id) e [] (by simp) (by omega) he;rw[aq La oC.eq_1 rfl];simp only[Rx,iM,List.append_nil]at hl⊢;have hr:ai (List.replicate (bU id) 0)=List.replicate (bU id) [D.int .i64 0]:=by simp[ai]
 rw[hr]at hl;have hv:(ik (bu id) (ba id) (bU id) e).length=bU id:=by
  have:∀ (d e:Nat),(ik (bu id) (ba id) d e).length=d:=by
   intro d
   induction d with
   | zero=>intro e;rfl
   | succ d ih=>intro e;simp[ik,ih]
  exact this _ _
 generalize bu id=low at *;generalize ba id=w at *;generalize bU id=dim at *;generalize aG id=pl at *;generalize ik low w dim e=V at *;simp (maxSteps:=300000) (disch:=omega) [hl,Fy];exact⟨by omega,by rw[List.take_of_length_le (by omega)]⟩
theorem Rr (id e:Nat) (h:fl id) (he:e<ay id):aO prog qT [.d (.int .i64 id),.d (.int .i64 e)]=some (.tup [.own true 1 (ai (iM id e)),.d (.int .i64 0)]):=by
 obtain⟨k1,k2,k3,k4,k5,k6,k7⟩:=ie id (de h);have h1:=Jc id (de h);have h2:=AC id (de h);have h3:=SW id e h (by omega);rw[aq ahO zo.eq_1 rfl];simp only[Rx]at h1 h2 h3;generalize bu id=low at *;generalize ba id=w at *;generalize bU id=dim at *;generalize aG id=pl at *;generalize ay id=mn at *;generalize iM id e=V at *;simp (maxSteps:=300000) (disch:=omega) [h1,h2,h3,↓if_neg]
def rN (b:List Nat) (st:RS) (s:Int):RS:=if st.e=0 then (if eO b st.a s=0 then ⟨nO b st.a s,0⟩ else ⟨st.a,eO b st.a s⟩) else st
theorem KJ {b:List Nat}{st:RS}{s:Int}(hb:b.length≤1000000000) (h:st.fit):(rN b st s).fit:=by
 unfold rN;have:=aph (b:=b) (a:=st.a) (s:=s);have h2:i64 st.a:=h;split
 ·split
  ·show i64 _;simp only[];omega
  ·exact h
 ·exact h
abbrev rdC (b:List Nat) (st:RS):Obj:=.cells [.d (.lst (af b)),.d (.int .i64 (ra st)),.d (.int .i64 (re st))]
abbrev h4 (b:List Nat) (X0 X1 X3:Obj) (st:RS):ac:=[(0,X0),(1,X1),(2,rdC b st),(3,X3)]
theorem Hl (b:List Nat) (hb:b.length≤1000000000) (X0 X1 X3:Obj) (N:Nat) (st:RS) (s:Int) (hf:st.fit):(Dn prog).call jh [.ptr 2 0,.d (.int .i64 s)] ⟨h4 b X0 X1 X3 st,N⟩ =
  some (.d (.int .i64 (sV b st s)),⟨h4 b X0 X1 X3 (rN b st s),N⟩):=by
 rw[aD OG qf.eq_1 rfl];obtain⟨a,e⟩:=st;have hf:i64 a:=hf;by_cases he:e=0
 ·subst he;by_cases h2:eO b a s=0
  ·simp (config := { maxSteps:=1000000 }) (disch:=omega) [DM,ra,re,sV,rN,h2]
  ·simp (config := { maxSteps:=1000000 }) (disch:=omega) [DM,ra,re,sV,rN,h2]
 ·simp (config := { maxSteps:=1000000 }) (disch:=omega) [ra,re,sV,rN,he]
def eJ (b:List Nat):Nat→Nat→RS→Nat×RS
 | 0,m,st=>(m,st)
 | f+1,m,st=>if sV b st 1=1∧re (rN b st 1)=0 then eJ b f (m+1) (if 8<m+1 then ⟨ra (rN b st 1),8⟩ else rN b st 1) else (m,rN b st 1)
theorem Qj (b:List Nat) (hb:b.length≤1000000000) (X0 X1 X3:Obj) (N:Nat):∀ (f m:Nat) (st:RS),f+m=10→m≤9→st.fit→(m=9→st.e≠0)→
  (Dn prog).code (.loop jT) ⟨[(0,.ptr 2 0),(3,.d (.int .i64 m))],⟨h4 b X0 X1 X3 st,N⟩⟩ =
  some (.exit 0,⟨[(0,.ptr 2 0),(3,.d (.int .i64 (eJ b f m st).1))],⟨h4 b X0 X1 X3 (eJ b f m st).2,N⟩⟩):=by
 intro f
 induction f with
 | zero=>intro m st h1 h0 h2 h3;omega
 | succ f ih =>
  intro m st h1 h0 h2 h3;rw[aa jT.eq_1,eJ];have hg:=Hl b hb X0 X1 X3 N st 1 h2;have hf:=KJ (s:=1) hb h2;simp only[h4]at hg;by_cases hc:sV b st 1=1∧re (rN b st 1)=0
  ·rw[if_pos hc];have he:st.e=0:=by
    have:=hc.1;unfold sV at this;by_cases h:st.e=0
    ·exact h
    ·rw[if_neg h]at this;omega
   have hm:m≠9:=fun h=>h3 h he
   by_cases h8:8<m+1
   ·rw[if_pos h8];have ih:=ih (m+1) ⟨ra (rN b st 1),8⟩ (by omega) (by omega) hf (fun _=>by simp);simp only[h4,show ra (⟨ra (rN b st 1),8⟩:RS)=ra (rN b st 1) from rfl,show re (⟨ra (rN b st 1),8⟩:RS)=8 from rfl]at ih⊢;rw[←ih];simp (maxSteps:=300000) (disch:=omega) [hg,hc.1,hc.2,↓if_pos,↓if_neg];rfl
   ·rw[if_neg h8];have ih:=ih (m+1) (rN b st 1) (by omega) (by omega) hf (fun h=>by omega);simp only[h4]at ih⊢;rw[←ih];simp (maxSteps:=300000) (disch:=omega) [hg,hc.1,hc.2,↓if_pos,↓if_neg]
  ·rw[if_neg hc];by_cases h1:sV b st 1=1
   ·have h2:¬ re (rN b st 1)=0:=fun h=>hc ⟨h1,h⟩
    simp (maxSteps:=300000) (disch:=omega) [hg,h1,h2,↓if_pos,↓if_neg]
   ·simp (maxSteps:=300000) (disch:=omega) [hg,h1,↓if_pos,↓if_neg]
theorem T5 {b:List Nat}:∀ {f m:Nat}{st:RS},(eJ b f m st).1≤m+f
 | 0,m,st=>by simp[eJ]
 | f+1,m,st=>by
  rw[eJ];split
  ·have:=T5 (b:=b) (f:=f) (m:=m+1) (st:=if 8<m+1 then ⟨ra (rN b st 1),8⟩ else rN b st 1);omega
  ·simp only[];omega
theorem KZ {b:List Nat}(hb:b.length≤1000000000):∀ {f m:Nat}{st:RS},st.fit→(eJ b f m st).2.fit
 | 0,m,st,h=>by simpa [eJ] using h
 | f+1,m,st,h=>by
  have hr:=KJ (s:=1) hb h;rw[eJ];split
  ·refine KZ hb ?_;split
   ·exact hr
   ·exact hr
  ·exact hr
def LQ (b:List Nat) (st:RS):Nat:=2 ^ ((eJ b 10 0 st).1+4)+sV b (eJ b 10 0 st).2 (((eJ b 10 0 st).1+4:Nat):Int)
def yJ (b:List Nat) (st:RS):RS:=rN b (eJ b 10 0 st).2 (((eJ b 10 0 st).1+4:Nat):Int)
theorem atG {b:List Nat}{st:RS}(hb:b.length≤1000000000) (h:st.fit):(yJ b st).fit:=KJ hb (KZ hb h)
theorem am2 {b:List Nat}{st:RS}:LQ b st<32768:=by
 unfold LQ;have h1:=T5 (b:=b) (f:=10) (m:=0) (st:=st);have h2:=oa (b:=b) (st:=(eJ b 10 0 st).2) (s:=(((eJ b 10 0 st).1+4:Nat):Int));rw[Int.toNat_natCast]at h2;have h3:2 ^ ((eJ b 10 0 st).1+4)≤2 ^ 14:=Nat.pow_le_pow_right (by omega) (by omega);omega
theorem ab9 (b:List Nat) (hb:b.length≤1000000000) (X0 X1 X3:Obj) (N:Nat) (st:RS) (hf:st.fit):(Dn prog).call lO [.ptr 2 0] ⟨h4 b X0 X1 X3 st,N⟩ =
  some (.d (.int .i64 (LQ b st)),⟨h4 b X0 X1 X3 (yJ b st),N⟩):=by
 rw[aD Gw lM.eq_1 rfl];have hl:=Qj b hb X0 X1 X3 N 10 0 st rfl (by omega) hf (by omega);have hv:=am2 (b:=b) (st:=st);have h1:=T5 (b:=b) (f:=10) (m:=0) (st:=st);have hf2:=KZ (f:=10) (m:=0) hb hf;unfold LQ yJ at *;generalize eJ b 10 0 st=p at *;obtain⟨m,s2⟩:=p;simp only at hl hv h1 hf2⊢;have hg:=Hl b hb X0 X1 X3 N s2 ((m+4:Nat):Int) hf2;have c0:((0:Nat):Int)=0:=rfl;have hs:=N3 (m:=m+4) (by omega);have c1:((m+4:Nat):Int)=(m:Int)+4:=by omega
 simp only[c0,h4,c1]at hl hg hs;have hpos:0<2 ^ (m+4):=Nat.two_pow_pos _;have c2:((2 ^ (m+4)+sV b s2 ((m:Int)+4):Nat):Int)=((2 ^ (m+4):Nat):Int)+sV b s2 ((m:Int)+4):=by omega
 simp only[h4,c1,c2];rw[c1]at hv;generalize 2 ^ (m+4)=P at *;simp (maxSteps:=300000) (disch:=omega) [hl,hg,hs,-oW]
def sU (b:List Nat):List Int→RS→List Nat
 | [],_=>[]
 | v::r,st=>if v=0 then 0::sU b r st else sV b st 1::sU b r (rN b st 1)
def nS (b:List Nat):List Int→RS→RS
 | [],st=>st
 | v::r,st=>if v=0 then nS b r st else nS b r (rN b st 1)
def sg (s:Nat) (v:Int):Int:=if s=1 then -v else v
def CI (b:List Nat) (id:Nat):List Int→List Nat→RS→List Int
 | v::r,s::ss,st=>if id=11∧v=16 then sg s (LQ b st)::CI b id r ss (yJ b st) else sg s v::CI b id r ss st
 | _,_,_=>[]
def qy (b:List Nat) (id:Nat):List Int→List Nat→RS→RS
 | v::r,_::ss,st=>if id=11∧v=16 then qy b id r ss (yJ b st) else qy b id r ss st
 | _,_,st=>st
theorem am9 {α:Type}{a r:List α}{x y:α}:(a++x::r).set a.length y=a++y::r:=by
 rw[List.set_append_right _ _ (by omega)];simp
theorem asM {a r:List Nat}{x:Nat}:nth (a++x::r) a.length=x:=by simp[nth]
theorem Tk {a r:List Int}{x:Int}:nth (a++x::r) a.length=x:=by simp[nth]
theorem alX (b:List Nat) (hb:b.length≤1000000000) (X0:Obj) (N:Nat) (vals:List Int) (hl:vals.length≤100):∀ (vs:List Int) (pre:List Int) (sgn:List Nat) (st:RS),vals=pre++vs→sgn.length=pre.length→st.fit→
  (Dn prog).code (.loop mP) ⟨[(5,.ptr 0 0),(6,.sl 1 0 vals.length),(10,.ptr 2 0),(11,.sl 3 0 vals.length),(51,.sl 1 0 vals.length),(52,.d (.int .i64 vals.length)),(53,.d (.int .i64 pre.length))],⟨h4 b X0 (.arr 1 (ai vals)) (.arr 1 (bj (sgn++List.replicate vs.length 0))) st,N⟩⟩ =
  some (.exit 0,⟨[(5,.ptr 0 0),(6,.sl 1 0 vals.length),(10,.ptr 2 0),(11,.sl 3 0 vals.length)],⟨h4 b X0 (.arr 1 (ai vals)) (.arr 1 (bj (sgn++sU b vs st))) (nS b vs st),N⟩⟩):=by
 intro vs
 induction vs with
 | nil =>
  intro pre sgn st h1 h2 h3;rw[List.append_nil]at h1;subst h1;rw[aa mP.eq_1];simp (maxSteps:=300000) (disch:=omega) [↓if_neg,sU,nS]
 | cons v vs ih =>
  intro pre sgn st h1 h2 h3;have hlen:vals.length=pre.length+(vs.length+1):=by rw[h1];simp
  have hgv:nth vals pre.length=v:=by rw[h1];exact Tk
  have hgi:(ai vals)[pre.length]?=some [.int .i64 v]:=by rw[Bu (by omega),hgv]
  have hg:=fun X1 X3=>Hl b hb X0 X1 X3 N st 1 h3
  rw[aa mP.eq_1,List.length_cons,List.replicate_succ];have hsl:(bj (sgn++0::List.replicate vs.length 0))[pre.length]?=some [.int .i64 0]:=by
   rw[xa (by simp;omega),←h2,asM];rfl
  simp only[h4]at hg⊢;by_cases hv:v=0
  ·subst hv;have ih:=ih (pre++[0]) (sgn++[0]) st (by rw[h1];simp) (by simp[h2]) h3;simp only[h4]at ih;simp only[sU,nS,if_true];simp (maxSteps:=300000) (disch:=omega) [↓if_pos,↓if_neg,hgi];simp at ih;exact ih
  ·have ih:=ih (pre++[v]) (sgn++[sV b st 1]) (rN b st 1) (by rw[h1];simp) (by simp[h2]) (KJ hb h3);simp only[h4]at ih;simp only[sU,nS,if_neg hv];simp (maxSteps:=300000) (disch:=omega) [↓if_pos,↓if_neg,hgi,hv,hg,hsl];simp at ih;exact ih
theorem amm (b:List Nat) (hb:b.length≤1000000000) (id:Nat) (pl:Int) (x2 x3:AV) (N len:Nat) (hlen:len≤100) (sgn:List Nat) (hsg:sgn.length=len):∀ (vs:List Int) (done:List Int) (st:RS),done.length+vs.length=len→(∀ v∈vs,0≤v∧v≤130)→st.fit→
  (Dn prog).code (.loop mU) ⟨[(5,.ptr 0 0),(6,.sl 1 0 len),(10,.ptr 2 0),(11,.sl 3 0 len),(66,.sl 1 0 len),(67,.d (.int .i64 len)),(68,.d (.int .i64 done.length))],⟨h4 b (.cells [.d (.int .i64 id),.d (.int .i64 pl),x2,x3]) (.arr 1 (ai (done++vs))) (.arr 1 (bj sgn)) st,N⟩⟩ =
  some (.exit 2,⟨[(6,.sl 1 0 len),(10,.ptr 2 0)],⟨[(1,.arr 1 (ai (done++CI b id vs (sgn.drop done.length) st))),(2,rdC b (qy b id vs (sgn.drop done.length) st)),(3,.arr 1 (bj sgn))],N⟩⟩):=by
 intro vs
 induction vs with
 | nil =>
  intro done st h1 h2 h3;rw[aa mU.eq_1];have:done.length=len:=by simpa using h1
  simp (maxSteps:=300000) (disch:=omega) [↓if_neg,CI,qy]
 | cons v vs ih =>
  intro done st h1 h2 h3;have hv:=h2 v (by simp);have h1:done.length+(vs.length+1)=len:=by simpa using h1
  have hgi:(ai (done++v::vs))[done.length]?=some [.int .i64 v]:=by rw[Bu (by simp),Tk]
  have hgs:(bj sgn)[done.length]?=some [.int .i64 (nth sgn done.length:Nat)]:=xa (by omega);have hset:∀ x:Int,(ai (done++v::vs)).set done.length [.int .i64 x]=ai (done++x::vs):=fun x=>by rw[aiu,am9]
  have hset2:∀ y x:Int,(ai (done++y::vs)).set done.length [.int .i64 x]=ai (done++x::vs):=fun y x=>by rw[aiu,am9]
  have hgi2:∀ x:Int,(ai (done++x::vs))[done.length]?=some [.int .i64 x]:=fun x=>by rw[Bu (by simp),Tk]
  have hE:=fun X1 X3=>ab9 b hb (.cells [.d (.int .i64 id),.d (.int .i64 pl),x2,x3]) X1 X3 N st h3
  have hel:=am2 (b:=b) (st:=st);rw[aa mU.eq_1,kR (by omega),CI,qy];simp only[h4]at hE⊢;by_cases hid:id=11∧v=16
  ·obtain⟨rfl,rfl⟩:=hid;rw[if_pos ⟨rfl,rfl⟩,if_pos ⟨rfl,rfl⟩];have ih:=ih (done++[sg (nth sgn done.length) (LQ b st)]) (yJ b st) (by simp;omega) (fun x hx=>h2 x (by simp[hx])) (atG hb h3);simp only[h4]at ih;simp at ih;have c11:((11:Nat):Int)=11:=rfl;simp only[c11]at hE;by_cases hs:nth sgn done.length=1
   ·simp only[sg,if_pos hs]at ih⊢;simp (maxSteps:=300000) (disch:=omega) [↓if_pos,↓if_neg,hgi,hE,hset,hgs,hgi2,hset2,hs];exact ih
   ·simp only[sg,if_neg hs]at ih⊢;simp (maxSteps:=300000) (disch:=omega) [↓if_pos,↓if_neg,hgi,hE,hset,hgs,hgi2,hset2,hs];exact ih
  ·rw[if_neg hid,if_neg hid];have ih:=ih (done++[sg (nth sgn done.length) v]) st (by simp;omega) (fun x hx=>h2 x (by simp[hx])) h3;simp only[h4]at ih;simp at ih;by_cases hi:id=11
   ·subst hi;have c11:((11:Nat):Int)=11:=rfl;have hv2:v≠16:=fun h=>hid ⟨rfl,h⟩
    by_cases hs:nth sgn done.length=1
    ·simp only[sg,if_pos hs]at ih⊢;simp (maxSteps:=300000) (disch:=omega) [↓if_pos,↓if_neg,hgi,hset,hgs,hgi2,hset2,hs,hv2];exact ih
    ·simp only[sg,if_neg hs]at ih⊢;simp (maxSteps:=300000) (disch:=omega) [↓if_pos,↓if_neg,hgi,hset,hgs,hgi2,hset2,hs,hv2];exact ih
   ·by_cases hs:nth sgn done.length=1
    ·simp only[sg,if_pos hs]at ih⊢;simp (maxSteps:=300000) (disch:=omega) [↓if_pos,↓if_neg,hgi,hset,hgs,hgi2,hset2,hs];exact ih
    ·simp only[sg,if_neg hs]at ih⊢;simp (maxSteps:=300000) (disch:=omega) [↓if_pos,↓if_neg,hgi,hset,hgs,hgi2,hset2,hs];exact ih
def ge (b:List Nat):List Int→Nat→R (List Nat)
 | [],a=>.ok [] a
 | v::r,a=>if v=0 then (ge b r a).bind fun l n=>.ok (0::l) n else (aQ b a 1).bind fun s n=>(ge b r n).bind fun l n=>.ok (s::l) n
def pR (b:List Nat):Nat→Nat→Nat→R Nat
 | 0,_,_=>.er 7
 | f+1,m,a=>(aQ b a 1).bind fun v n=>if v=1 then pR b f (m+1) n else .ok m n
def Ij (b:List Nat) (a:Nat):R Nat:=(pR b 9 0 a).bind fun m n=>(aQ b n ((m+4:Nat):Int)).bind fun x n=>.ok (2 ^ (m+4)+x) n
def iP (b:List Nat) (id:Nat):List Int→List Nat→Nat→R (List Int)
 | v::r,s::ss,a=>if id=11∧v=16 then (Ij b a).bind fun x n=>(iP b id r ss n).bind fun l n=>.ok (sg s x::l) n else (iP b id r ss a).bind fun l n=>.ok (sg s v::l) n
 | _,_,a=>.ok [] a
def xB (id:Nat) (b:List Nat) (a:Int):R (List Int) :=
 (qF id b a).bind fun e n=>if gp id then .ok (iM id e) n else (ge b (iM id e) n).bind fun ss n=>iP b id (iM id e) ss n
theorem N1 {b:List Nat}{a s:Int}{v n:Nat}(h:aQ b a s=.ok v n):sV b ⟨a,0⟩ s=v∧rN b ⟨a,0⟩ s=⟨n,0⟩:=by
 constructor<;>simp[sV,rN,vO,nO,eO,h]
theorem aih {b:List Nat}{a s:Int}{e:Nat}(h:aQ b a s=.er e):sV b ⟨a,0⟩ s=0∧rN b ⟨a,0⟩ s=⟨a,e+1⟩:=by
 constructor<;>simp[sV,rN,vO,nO,eO,h]
theorem aiw {b:List Nat}{a s:Int}{e:Nat}:sV b ⟨a,e+1⟩ s=0∧rN b ⟨a,e+1⟩ s=⟨a,e+1⟩:=by
 constructor<;>simp[sV,rN]
theorem anT {b:List Nat}{a:Int}{e:Nat}{f m:Nat}:eJ b f m ⟨a,e+1⟩=(m,⟨a,e+1⟩):=by
 cases f with
 | zero=>rfl
 | succ f=>rw[eJ,aiw.1,aiw.2,if_neg (by simp)]
theorem azo {b:List Nat}{a:Int}{e:Nat}:yJ b ⟨a,e+1⟩=⟨a,e+1⟩:=by
 rw[yJ,anT,aiw.2]
theorem ao1 {b:List Nat}{a:Int}{e:Nat}:∀ {vs:List Int},nS b vs ⟨a,e+1⟩=⟨a,e+1⟩
 | []=>rfl
 | v::r=>by
  rw[nS];split
  ·exact ao1
  ·rw[aiw.2];exact ao1
theorem aii {b:List Nat}{id:Nat}{a:Int}{e:Nat}:∀ {vs:List Int}{ss:List Nat},qy b id vs ss ⟨a,e+1⟩=⟨a,e+1⟩
 | [],_=>by simp[qy]
 | _::_,[]=>by simp[qy]
 | v::r,s::ss=>by
  rw[qy];split
  ·rw[azo];exact aii
  ·exact aii
theorem ar0 {b:List Nat}:∀ {vs:List Int}{a:Nat},match ge b vs a with
  | .ok l n=>sU b vs ⟨a,0⟩=l∧nS b vs ⟨a,0⟩=⟨n,0⟩
  | .er e=>(nS b vs ⟨a,0⟩).e=e+1
 | [],a=>⟨rfl,rfl⟩
 | v::r,a=>by
  simp only[ge,sU,nS];by_cases hv:v=0
  ·simp only[if_pos hv];have ih:=ar0 (b:=b) (vs:=r) (a:=a)
   cases h:ge b r a with
   | ok l n=>rw[h]at ih;exact⟨by rw[ih.1],ih.2⟩
   | er e=>rw[h]at ih;exact ih
  ·simp only[if_neg hv]
   cases h1:aQ b a 1 with
   | ok s n =>
    rw[(N1 h1).1,(N1 h1).2,ak];have ih:=ar0 (b:=b) (vs:=r) (a:=n)
    cases h:ge b r n with
    | ok l n=>rw[h]at ih;exact⟨by rw[ih.1],ih.2⟩
    | er e=>rw[h]at ih;exact ih
   | er e=>rw[(aih h1).2,cX];simp only[ao1]
theorem aqc {b:List Nat}:∀ {f m a:Nat},f+1+m=9→match pR b (f+1) m a with
  | .ok k n=>eJ b (f+2) m ⟨a,0⟩=(k,⟨n,0⟩)
  | .er e=>(eJ b (f+2) m ⟨a,0⟩).2.e=e+1
 | f,m,a,hm=>by
  rw[pR,eJ]
  cases h1:aQ b a 1 with
  | er e=>rw[(aih h1).1,(aih h1).2,cX,if_neg (by simp)]
  | ok v n =>
   rw[(N1 h1).1,(N1 h1).2,ak];by_cases hv:v=1
   ·subst hv;rw[if_pos rfl,if_pos ⟨rfl,rfl⟩]
    cases f with
    | zero =>
     rw[if_pos (by omega),pR];show (eJ b 1 (m+1) ⟨ra ⟨n,0⟩,7+1⟩).2.e=7+1;rw[anT]
    | succ f =>
     rw[if_neg (by omega)];exact aqc (by omega)
   ·rw[if_neg hv,if_neg (fun h=>hv h.1)]
theorem aA8 {b:List Nat}{a:Nat}:match Ij b a with
  | .ok v n=>LQ b ⟨a,0⟩=v∧yJ b ⟨a,0⟩=⟨n,0⟩
  | .er e=>(yJ b ⟨a,0⟩).e=e+1:=by
 rw[Ij,LQ,yJ];have h:=aqc (b:=b) (f:=8) (m:=0) (a:=a) rfl
 cases h1:pR b 9 0 a with
 | er e =>
  rw[h1]at h;generalize eJ b 10 0 ⟨a,0⟩=p at *;obtain⟨m,x,y⟩:=p;simp only at h;subst h;simp only[aiw,cX]
 | ok k n =>
  rw[h1]at h;rw[ak,h]
  cases h2:aQ b n ((k+4:Nat):Int) with
  | er e=>simp only[(aih h2).2,cX]
  | ok v m=>simp only[(N1 h2).1,(N1 h2).2,ak];exact⟨trivial,trivial⟩
theorem atp {b:List Nat}{id:Nat}:∀ {vs:List Int}{ss:List Nat}{a:Nat},match iP b id vs ss a with
  | .ok l n=>CI b id vs ss ⟨a,0⟩=l∧qy b id vs ss ⟨a,0⟩=⟨n,0⟩
  | .er e=>(qy b id vs ss ⟨a,0⟩).e=e+1
 | [],ss,a=>by simp[iP,CI,qy]
 | v::r,[],a=>by simp[iP,CI,qy]
 | v::r,s::ss,a=>by
  rw[iP,CI,qy];by_cases hc:id=11∧v=16
  ·simp only[if_pos hc];have h:=aA8 (b:=b) (a:=a)
   cases h1:Ij b a with
   | er e =>
    rw[h1]at h;generalize yJ b ⟨a,0⟩=p at *;obtain⟨x,y⟩:=p;simp only at h;subst h;simp only[aii,cX]
   | ok x n =>
    rw[h1]at h;rw[h.1,h.2,ak];have ih:=atp (b:=b) (id:=id) (vs:=r) (ss:=ss) (a:=n)
    cases h2:iP b id r ss n with
    | ok l n=>rw[h2]at ih;exact⟨by rw[ih.1],ih.2⟩
    | er e=>rw[h2]at ih;exact ih
  ·simp only[if_neg hc];have ih:=atp (b:=b) (id:=id) (vs:=r) (ss:=ss) (a:=a)
   cases h2:iP b id r ss a with
   | ok l n=>rw[h2]at ih;exact⟨by rw[ih.1],ih.2⟩
   | er e=>rw[h2]at ih;exact ih
abbrev Cu:VC:=(.seq JE (.seq FJ (.seq (.seq Gx (.block 0 (.seq (.loop mP) (K [51,52,53])))) (.seq (.seq GI (.block 2 (.seq (.loop mU) (.seq (K [11,66,67,68]) (F 5))))) (.seq (.seq Gc (.cond (.m 103) (.seq (K [6]) (.seq wb .ret)) .skip)) (.seq wo .ret))))))
theorem aeF {low:Int}{w:Nat}:∀ {d e:Nat},(ik low w d e).length=d
 | 0,_=>rfl
 | d+1,e=>by simp[ik,aeF]
theorem CP {low:Int}{w:Nat}(hw:1≤w):∀ {d e:Nat},∀ x∈ik low w d e,low≤x∧x<low+w
 | 0,_,x,h=>by simp[ik]at h
 | d+1,e,x,h=>by
  rw[ik,List.mem_append]at h;have:=Nat.mod_lt e (show w > 0 by omega);rcases h with h | h
  ·exact CP hw x h
  grind
theorem yq {id e:Nat}:(iM id e).length=bU id:=aeF
theorem ai4:∀ id∈ids,gp id=false→bu id=0:=by decide +kernel
theorem aov (b:List Nat) (hb:b.length≤1000000000) (id:Nat) (pl:Int) (x2 x3:AV) (vals:List Int) (hl:1≤vals.length∧vals.length≤100) (hv:∀ v∈vals,0≤v∧v≤130) (n:Nat) (hn:n≤b.length) (hx2:bM x2=true) :
  mt (ow [.tmp 6,.tmp 7,.tmp 8] ((Dn prog).code Cu ⟨[(0,.d (.lst (af b))),(5,.ptr 0 0),(6,.sl 1 0 vals.length),(7,.d (.int .i64 n))],⟨[(0,.cells [.d (.int .i64 id),.d (.int .i64 pl),x2,x3]),(1,.arr 1 (ai vals))],2⟩⟩)) =
  if re (qy b id vals (sU b vals ⟨n,0⟩) (nS b vals ⟨n,0⟩))=0 then some (.tup [.own true 1 (ai (CI b id vals (sU b vals ⟨n,0⟩) (nS b vals ⟨n,0⟩))),.d (.int .i64 (ra (qy b id vals (sU b vals ⟨n,0⟩) (nS b vals ⟨n,0⟩)))),.d (.int .i64 0)])
  else some (.tup [.nl,.d (.int .i64 0),.d (.int .i64 (re (qy b id vals (sU b vals ⟨n,0⟩) (nS b vals ⟨n,0⟩))))]):=by
 have hf:RS.fit ⟨n,0⟩:=by show i64 _;grind
 have sgl:∀ (vs:List Int) (st:RS),(sU b vs st).length=vs.length:=by
  intro vs
  induction vs<;>grind [sU]
 have sgf:∀ (vs:List Int) (st:RS),st.fit→(nS b vs st).fit:=by
  intro vs
  induction vs<;>grind [nS,KJ]
 have l0:=fun X0=>alX b hb X0 4 vals hl.2 vals [] [] ⟨n,0⟩ (by simp) rfl hf
 have l1:=amm b hb id pl x2 x3 4 vals.length hl.2 (sU b vals ⟨n,0⟩) (sgl _ _) vals [] (nS b vals ⟨n,0⟩) (by simp) hv (sgf _ _ hf);have vll:(CI b id vals (sU b vals ⟨n,0⟩) (nS b vals ⟨n,0⟩)).length=vals.length:=by
  have:∀ (vs:List Int) (ss:List Nat) (st:RS),ss.length=vs.length→(CI b id vs ss st).length=vs.length:=by
   intro vs
   induction vs with
   | nil=>grind [CI]
   | cons v r ih =>
    intro ss st h
    cases ss<;>grind [CI]
  simp_all
 have hz:bj (List.replicate vals.length 0)=List.replicate vals.length [.int .i64 0]:=by simp[bj]
 have c0:((0:Nat):Int)=0:=rfl;simp only[List.nil_append,List.length_nil,List.drop_zero,h4,rdC,hz,c0,azZ,aA6]at l0 l1;simp (disch:=omega) [l0,l1,Fy]
 grind
theorem ar6 {b:List Nat}{id:Nat}{vals:List Int}{n:Nat}{γ:Type}{F:List Int→Int→γ}{G:Nat→γ} :
  (if re (qy b id vals (sU b vals ⟨n,0⟩) (nS b vals ⟨n,0⟩))=0 then F (CI b id vals (sU b vals ⟨n,0⟩) (nS b vals ⟨n,0⟩)) (ra (qy b id vals (sU b vals ⟨n,0⟩) (nS b vals ⟨n,0⟩)))
  else G (re (qy b id vals (sU b vals ⟨n,0⟩) (nS b vals ⟨n,0⟩))))=match (ge b vals n).bind fun ss n=>iP b id vals ss n with
   | .ok l n=>F l n
   | .er e=>G (e+1):=by
 have h1:=ar0 (b:=b) (vs:=vals) (a:=n)
 cases h2:ge b vals n with
 | er e =>
  generalize nS b vals ⟨n,0⟩=p at *;obtain⟨x,y⟩:=p
  grind [aii,cX,re]
 | ok ss m =>
  rw[h2]at h1;rw[h1.1,h1.2,ak];have h3:=atp (b:=b) (id:=id) (vs:=vals) (ss:=ss) (a:=m)
  cases h4:iP b id vals ss m with
  | er e =>
   rw[h4]at h3;have h5:re (qy b id vals ss ⟨m,0⟩)=e+1:=h3
   simp_all
  | ok l k =>
   rw[h4]at h3;rw[h3.1,h3.2];rfl
abbrev pH (b:List Nat) (id:Nat) (l:List Int) (n:Nat):Prop:=l.length=bU id∧n≤b.length∧∀ x∈l,-40000≤x∧x≤40000
theorem Hk {b:List Nat}:∀ {vs:List Int}{a:Nat}{l:List Nat}{n:Nat},a≤b.length→ge b vs a=.ok l n→l.length=vs.length∧n≤b.length
 | [],a,l,n,ha,h=>by
  grind [ge]
 | v::r,a,l,n,ha,h=>by
  simp only[ge]at h;by_cases hv:v=0
  ·cases h1:ge b r a with
   | er e=>simp_all
   | ok l2 n2 =>
    have ih:=Hk ha h1
    grind [ak]
  ·cases h0:aQ b a 1 with
   | er e=>simp_all
   | ok s m =>
    cases h1:ge b r m with
    | er e=>simp_all
    | ok l2 n2 =>
     have ih:=Hk (cZ h0).2 h1
     grind [ak]
theorem ani {b:List Nat}:∀ {f m a k n:Nat},f+m=9→pR b f m a=.ok k n→k≤8∧n≤b.length
 | 0,_,_,_,_,_,h=>absurd h (by simp[pR])
 | f+1,m,a,k,n,hf,h=>by
  rw[pR]at h
  cases h1:aQ b a 1 with
  | er e=>simp_all
  | ok v a1 =>
   rw[h1,ak]at h;by_cases hv:v=1
   ·rw[if_pos hv]at h;exact ani (by omega) h
   ·rw[if_neg hv]at h;injection h with e1 e2
    subst e1 e2;exact⟨by omega,(cZ h1).2⟩
theorem azg {b:List Nat}{a v n:Nat}(h:Ij b a=.ok v n):v≤30000∧n≤b.length:=by
 rw[Ij]at h
 cases h1:pR b 9 0 a with
 | er e=>simp_all
 | ok m n1 =>
  have hp:=ani rfl h1;rw[h1,ak]at h
  cases h2:aQ b n1 ((m+4:Nat):Int) with
  | er e=>simp_all
  | ok x n2 =>
   have hq:=cZ h2;rw[h2,ak]at h;have h3:2 ^ (m+4)≤2 ^ 12:=Nat.pow_le_pow_right (by omega) (by omega)
   grind
theorem NM {b:List Nat}{id:Nat}:∀ {vs:List Int}{ss:List Nat}{a:Nat}{l:List Int}{n:Nat},a≤b.length→ss.length=vs.length→(∀ v∈vs,-100≤v∧v≤130)→iP b id vs ss a=.ok l n→l.length=vs.length∧n≤b.length∧∀ x∈l,-40000≤x∧x≤40000
 | [],ss,a,l,n,ha,hs,hv,h=>by
  grind [iP]
 | v::r,[],a,l,n,ha,hs,hv,h=>by simp at hs
 | v::r,s::ss,a,l,n,ha,hs,hv,h=>by
  have hs2:ss.length=r.length:=by simp_all
  have hv2:∀ v∈r,-100≤v∧v≤130:=fun x hx=>hv x (by simp[hx])
  have hv1:=hv v (by simp);have hsg:∀ y:Int,-40000≤y→y≤40000→-40000≤sg s y∧sg s y≤40000:=fun y h1 h2=>by grind [sg]
  rw[iP]at h;by_cases hc:id=11∧v=16
  ·rw[if_pos hc]at h
   cases h1:Ij b a with
   | er e=>simp_all
   | ok x n1 =>
    have hp:=azg h1;rw[h1,ak]at h
    cases h2:iP b id r ss n1 with
    | er e=>simp_all
    | ok l2 n2 =>
     obtain⟨i1,i2,i3⟩:=NM hp.2 hs2 hv2 h2
     grind [ak]
  ·rw[if_neg hc]at h
   cases h2:iP b id r ss a with
   | er e=>simp_all
   | ok l2 n2 =>
    obtain⟨i1,i2,i3⟩:=NM ha hs2 hv2 h2
    grind [ak]
theorem Np {id:Nat}{b:List Nat}{a:Int}{e n:Nat}(hid:fl id) (h:qF id b a=.ok e n):e<ay id∧n≤b.length:=by
 rw[qF]at h
 cases z1:ir b 10 0 a with
 | er e=>simp_all
 | ok m m1 =>
  rw[z1,ak]at h
  cases z2:aQ b m1 m with
  | er e=>simp_all
  | ok hi m2 =>
   rw[z2,ak]at h
   cases z3:aQ b m2 (aG id) with
   | er e=>simp_all
   | ok lo m3 =>
    rw[z3,ak]at h;by_cases hc:(aW id).length≤(2 ^ m+hi-1)*2 ^ aG id+lo
    ·simp_all
    ·rw[if_neg hc]at h;injection h with e1 e2
     subst e1 e2;exact⟨(DH (by omega)).2.2.2 _ (gn (by omega)),(cZ z3).2⟩
theorem awt {id:Nat}{b:List Nat}{a:Int}{l:List Int}{n:Nat}(hid:fl id) (h:xB id b a=.ok l n):pH b id l n:=by
 obtain⟨k1,k2,k3,k4,k5,k6,k7⟩:=ie id (de hid);rw[xB]at h
 cases h1:qF id b a with
 | er e=>simp_all
 | ok e n1 =>
  have hp:=(Np hid h1).2;have hv:∀ v∈iM id e,-100≤v∧v≤200:=fun v hv=>by
   have:=CP (low:=bu id) (w:=ba id) k3 (d:=bU id) (e:=e) v hv;omega
  rw[h1,ak]at h;by_cases hs:gp id=true
  ·grind [yq]
  ·rw[if_neg hs]at h
   cases h2:ge b (iM id e) n1 with
   | er e=>simp_all
   | ok ss n2 =>
    have hq:=Hk hp h2;rw[h2,ak]at h;have hv2:∀ v∈iM id e,-100≤v∧v≤130:=fun v hv=>by
     have:=CP (low:=bu id) (w:=ba id) k3 (d:=bU id) (e:=e) v hv;omega
    have:=NM hq.2 hq.1 hv2 h
    grind [yq]
theorem aue (id:Nat) (b:List Nat) (a:Int) (hb:b.length≤1000000000) (ha:i64 a) (hid:1≤id∧id≤11):aO prog pC [.d (.lst (af b)),.d (.int .i64 a),jr id] =
  rK (pH b id) (xB id b a) (fun l n=>some (.tup [.own true 1 (ai l),.d (.int .i64 n),.d (.int .i64 0)])) (fun e=>some (.tup [.nl,.d (.int .i64 0),.d (.int .i64 (e+1))])):=by
 have hok:fl id:=⟨hid.1,by omega⟩
 have hr:=aff id b a hb ha hok;have hsg:=Kv id (by
  obtain⟨h1,h2⟩:=hid;simp only[ids,List.take,List.mem_cons,List.not_mem_nil,or_false];omega)
 have hV:=fun e he=>Rr id e hok he
 obtain⟨k1,k2,k3,k4,k5,k6,k7⟩:=ie id (de hok);have hus:=ai4 id (de hok);rw[aq apw Ik.eq_1 rfl];obtain⟨T,ht⟩:∃ T,T=Cu:=⟨_,rfl⟩
 have hT:=fun pl x2 x3 vals hl hv n hn hx2=>aov b hb id pl x2 x3 vals hl hv n hn hx2
 rw[←ht]at hT;unfold Cu at ht;rw[←ht];simp only[jr]at hr⊢;rw[xB,pn (q:=fun e n=>e<ay id∧n≤b.length) (fun e n h=>Np hok h)];have hbl:∀ e,(iM id e).length=bU id:=fun e=>yq
 have hbi:=fun e=>CP (low:=bu id) (w:=ba id) k3 (d:=bU id) (e:=e)
 generalize hes:aW id=es at *;generalize hrs:bF id=rs at *;generalize hpl:aG id=pl at *;simp (maxSteps:=300000) (disch:=omega) [hr,↓if_pos,↓if_neg];refine fI (fun _ _=>rfl) (fun e n hp=>?_) fun _=>rfl
 have hVe:=hV e hp.1;have hie:=hbi e;simp only[iM]at hVe hbl⊢;have hble:=hbl e;generalize ik (bu id) (ba id) (bU id) e=vals at *;by_cases hs:gp id=true
 ·rw[if_pos hs,cG ⟨hble,hp.2,fun x hx=>by grind⟩];simp (disch:=omega) [hVe,hsg,hs,↓if_pos,↓if_neg]
 ·have hs2:gp id=false:=by grind
  have hT2:=hT pl (.d (.lst (bj es))) (.d (.lst (bj rs))) vals (by omega) (fun v hv=>by grind) n hp.2 rfl;simp (disch:=omega) [hVe,hsg,hs2,↓if_pos];rw[hT2];refine(ar6 (γ:=Option AV) (F:=fun l n=>some (.tup [.own true 1 (ai l),.d (.int .i64 n),.d (.int .i64 0)])) (G:=fun e=>some (.tup [.nl,.d (.int .i64 0),.d (.int .i64 e)]))).trans ?_
  cases h1:ge b vals n with
  | er e=>simp[rK]
  | ok ss m =>
   have hq:=Hk hp.2 h1
   grind [ak,rK,NM]
abbrev pT {α:Type}(_:α) (_:Nat):Prop:=True
def Cq (b:List Nat) (a:Int):R Int:=(qF 12 b a).bind fun e n=>.ok ((e:Int)-60) n
abbrev pSt (b:List Nat) (d:Int) (n:Nat):Prop:=(-60≤d∧d≤60)∧n≤b.length
theorem avT {γ:Type}{b:List Nat}{a:Int}{F:Int→Nat→γ}{G:Nat→γ}:rK (pSt b) (Cq b a) F G=rK (fun e n=>e<ay 12∧n≤b.length) (qF 12 b a) (fun e n=>F ((e:Int)-60) n) G:=by
 rw[Cq,pn (q:=fun e n=>e<ay 12∧n≤b.length) (fun e n h=>Np (by omega) h)];refine fI (fun _ _=>rfl) (fun e n hp=>?_) fun _=>rfl
 have h1:e<121:=hp.1;rw[cG ⟨by omega,hp.2⟩]
theorem alf (b:List Nat) (a:Int) (hb:b.length≤1000000000) (ha:i64 a):aO prog pw [.d (.lst (af b)),.d (.int .i64 a)] =
  rK (pSt b) (Cq b a) (fun d n=>some (.tup [.d (.int .i64 d),.d (.int .i64 n),.d (.int .i64 0)])) (fun e=>some (.tup [.d (.int .i64 0),.d (.int .i64 0),.d (.int .i64 (e+1))])):=by
 have hok:fl 12:=by omega
 have hr:=aff 12 b a hb ha hok;have hg:=S9 12 hok;have hV:=fun e he=>Rr 12 e hok he
 have c12:((12:Nat):Int)=12:=rfl;rw[aq aaH xi.eq_1 rfl,avT];simp only[jr,Ny,c12]at hr hg hV⊢;generalize hes:aW 12=es at *;generalize hrs:bF 12=rs at *;generalize hpl:aG 12=pl at *;simp (maxSteps:=300000) (disch:=omega) [hr,hg,↓if_pos,↓if_neg];refine fI (fun _ _=>rfl) (fun e n hp=>?_) fun _=>rfl
 have h1:e<121:=hp.1;have hv:ai (iM 12 e)=[[.int .i64 ((e:Int)-60)]]:=by
  show ai [((e % 121:Nat):Int)+-60]=_;rw[Nat.mod_eq_of_lt h1];rfl
 have hVe:=hV e hp.1;rw[hv]at hVe;simp (maxSteps:=300000) (disch:=omega) [hVe]
structure H2 (hp:Int→Int→ac) (A:Nat):Prop where
 get:∀ s z,get (hp s z) A=some (.cells [.d (.int .i64 s),.d (.int .i64 z)])
 put:∀ s z s' z',put (hp s z) A (.cells [.d (.int .i64 s'),.d (.int .i64 z')])=hp s' z'
abbrev ib (book n s z:Int):Prop:=if book=13 then (0≤n∧n≤511)∧(z<0∨(z-60≤n∧n≤z+60)) else (0≤n∧n≤255)∧(s-60≤n∧n≤s+60)
theorem HX {hp:Int→Int→ac}{A:Nat}(H:H2 hp A) (book n s z:Int) (N:Nat) (hn:-100000≤n∧n≤100000) (hs:-100000≤s∧s≤100000) (hz:-100000≤z∧z≤100000) :
  (Dn prog).call fw [.ptr A 0,.d (.int .i64 book),.d (.int .i64 n)] ⟨hp s z,N⟩ =
   if ib book n s z then some (.d (.bool true),⟨if book=13 then hp s n else hp n z,N⟩) else some (.d (.bool false),⟨hp s z,N⟩):=by
 rw[aD ME og.eq_1 rfl];by_cases hb:book=13
 ·by_cases ho:(0≤n∧n≤511)∧(z<0∨(z-60≤n∧n≤z+60))
  ·rw[if_pos (by rw[ib,if_pos hb];exact ho),if_pos hb];subst hb;rcases ho with ⟨⟨o1,o2⟩,o3 | ⟨o3,o4⟩⟩
   ·simp (maxSteps:=300000) (disch:=omega) [↓if_pos,↓if_neg,H.get,H.put]
   ·by_cases hz0:z<0
    ·simp (maxSteps:=300000) (disch:=omega) [↓if_pos,↓if_neg,H.get,H.put]
    ·simp (maxSteps:=300000) (disch:=omega) [↓if_pos,↓if_neg,H.get,H.put]
  ·rw[if_neg (by rw[ib,if_pos hb];exact ho)];subst hb;by_cases o1:n<0
   ·simp (maxSteps:=300000) (disch:=omega) [↓if_pos,↓if_neg,H.get,H.put]
   ·by_cases o2:511<n
    ·simp (maxSteps:=300000) (disch:=omega) [↓if_pos,↓if_neg,H.get,H.put]
    ·by_cases o3:n<z-60
     ·simp (maxSteps:=300000) (disch:=omega) [↓if_pos,↓if_neg,H.get,H.put]
     ·simp (maxSteps:=300000) (disch:=omega) [↓if_pos,↓if_neg,H.get,H.put]
 ·by_cases ho:(0≤n∧n≤255)∧(s-60≤n∧n≤s+60)
  ·rw[if_pos (by rw[ib,if_neg hb];exact ho),if_neg hb];obtain⟨⟨o1,o2⟩,o3,o4⟩:=ho;simp (maxSteps:=300000) (disch:=omega) [↓if_pos,↓if_neg,H.get,H.put]
  ·rw[if_neg (by rw[ib,if_neg hb];exact ho)];by_cases o1:n<0
   ·simp (maxSteps:=300000) (disch:=omega) [↓if_pos,↓if_neg,H.get,H.put]
   ·by_cases o2:255<n
    ·simp (maxSteps:=300000) (disch:=omega) [↓if_pos,↓if_neg,H.get,H.put]
    ·by_cases o3:n<s-60
     ·simp (maxSteps:=300000) (disch:=omega) [↓if_pos,↓if_neg,H.get,H.put]
     ·simp (maxSteps:=300000) (disch:=omega) [↓if_pos,↓if_neg,H.get,H.put]
theorem oj {l:List ao}{i:Nat}{s:ao}{r:List ao}(h:l.drop i=s::r):(dL l)[i]?=some [.int .i64 s.book,.int .i64 s.len]:=by
 have:=congrArg (fun l=>l[0]?) h;simp only[List.getElem?_drop,List.getElem?_cons_zero,Nat.add_zero]at this;rw[dL,List.getElem?_map,this];rfl
theorem aP {α:Type}{l:List α}{i:Nat}{s:α}{r:List α}(h:l.drop i=s::r):l.drop (i+1)=r:=by
 have:=congrArg (fun l=>l.drop 1) h;simpa [List.drop_drop] using this
theorem aU {α:Type}{l:List α}{i:Nat}{s:α}{r:List α}(h:l.drop i=s::r):i<l.length:=by
 rcases Nat.lt_or_ge i l.length with g | g
 ·exact g
 ·rw[List.drop_eq_nil_of_le g]at h;exact absurd h (by simp)
theorem ak2 (full:List ao) (hl:full.length≤1000000) (x21:AV) (y22 y23:D):∀ (l:List ao) (i:Nat) (lf c:Int) (N:Nat),full.drop i=l→fitsS lf l→0≤c→lf+c≤1000→
  (Dn prog).code (.loop ph) ⟨[(7,.d (.int .i64 (lf+c))),(21,x21),(22,.d y22),(23,.d y23),(27,.d (.lst (dL full))),(28,.d (.int .i64 full.length)),(29,.d (.int .i64 i))],⟨[],N⟩⟩ =
  some (.exit 2,⟨[(21,x21),(22,.d y22),(23,.d y23)],⟨[],N+l.length⟩⟩):=by
 intro l
 induction l with
 | nil =>
  intro i lf c N h hf h0 h1;have hi:full.length≤i:=by simpa [List.drop_eq_nil_iff] using h
  rw[aa ph.eq_1];simp (maxSteps:=300000) (disch:=omega) [↓if_pos,↓if_neg]
 | cons s r ih =>
  intro i lf c N h hf h0 h1;obtain⟨⟨⟨s1,s2⟩,s3,s4⟩,hf2⟩:=hf;have hg:=oj h;have hlt:=aU h;have h5:=ih (i+1) (lf-s.len) c (N+1) (aP h) hf2 h0 (by omega);have c1:((i+1:Nat):Int)=(i:Int)+1:=rfl;have c2:lf-s.len+c=lf+c-s.len:=by omega
  rw[c1,c2]at h5;have e:N+(s::r).length=N+1+r.length:=by simp only[List.length_cons];omega
  rw[aa ph.eq_1,e,←h5];rcases s4 with s4 | s4
  ·simp (maxSteps:=300000) (disch:=omega) [↓if_pos,↓if_neg,hg]
  ·simp (maxSteps:=300000) (disch:=omega) [↓if_pos,↓if_neg,hg,s4]
def adH:List (List ao)→Nat
 | []=>0
 | l::r=>l.length+adH r
theorem gw {g:List (List ao)}{i:Nat}{l:List ao}{r:List (List ao)}(h:g.drop i=l::r):(aC g)[i]?=some [.lst (dL l)]:=by
 have:=congrArg (fun l=>l[0]?) h;simp only[List.getElem?_drop,List.getElem?_cons_zero,Nat.add_zero]at this;rw[aC,List.getElem?_map,this];rfl
theorem ajG (full:List (List ao)) (hl:full.length≤1000) (m:Int) (hm:0≤m∧m≤40):∀ (g:List (List ao)) (i N:Nat),full.drop i=g→(∀ l∈g,fitsS m l∧l.length≤1000)→
  (Dn prog).code (.loop pE) ⟨[(21,.d (.lst (aC full))),(22,.d (.int .i64 full.length)),(23,.d (.int .i64 i))],⟨[],N⟩⟩=some (.exit 0,⟨[],⟨[],N+adH g⟩⟩):=by
 intro g
 induction g with
 | nil =>
  intro i N h hf;have hi:full.length≤i:=by simpa [List.drop_eq_nil_iff] using h
  rw[aa pE.eq_1];simp (maxSteps:=300000) (disch:=omega) [↓if_pos,↓if_neg,adH]
 | cons l r ih =>
  intro i N h hf;have hg:=gw h;have hlt:=aU h;obtain⟨f1,f2⟩:=hf l (.head _);have h0:=ak2 l (by omega) (.d (.lst (aC full))) (.int .i64 full.length) (.int .i64 i) l 0 m (40-m) N rfl f1 (by omega) (by omega);have h5:=ih (i+1) (N+l.length) (aP h) fun q hq=>hf q (.tail _ hq)
  have c1:((i+1:Nat):Int)=(i:Int)+1:=rfl;have c2:m+(40-m)=40:=by omega
  have c0:((0:Nat):Int)=0:=rfl;rw[c1]at h5;rw[c2,c0]at h0;have e:N+adH (l::r)=N+l.length+adH r:=by rw[adH];omega
  rw[aa pE.eq_1,e,←h5];simp (maxSteps:=300000) (disch:=omega) [↓if_pos,↓if_neg,hg,h0]
theorem afo (gain m:Int) (g:List (List ao)) (hgn:0≤gain∧gain≤255) (hl:g.length≤8) (hm:0≤m∧m≤40) (hf:∀ l∈g,fitsS m l∧l.length≤1000) :
  aO prog xt [.d (.int .i64 gain),.d (.lst (aC g))]=some (.d (.bool true)):=by
 have h:=ajG g (by omega) m hm g 0 0 rfl hf;have c0:((0:Nat):Int)=0:=rfl;rw[c0]at h;rw[aq al7 Ei.eq_1 rfl];simp (maxSteps:=300000) (disch:=omega) [↓if_pos,↓if_neg,h]
def al (l:List ao):List Int:=l.flatMap fun s=>List.replicate s.len.toNat s.book
theorem X8 {l:List Int}{x:Int}:ai (l++[x])=ai l++[[.int .i64 x]]:=by simp[ai]
theorem fE {l:List Int}:(ai l).length=l.length:=by simp[ai]
abbrev lG (book:Int):Int:=if book=13 then 511 else 255
def gy (b:List Nat) (a book was:Int):R Int :=
 if was<0 then (aQ b a 9).bind fun v n=>.ok (v:Int) n
 else (Cq b a).bind fun d n=>if was+d<0∨lG book<was+d then .er 7 else .ok (was+d) n
abbrev aDa (b:List Nat) (book:Int) (v:Int) (n:Nat):Prop:=(0≤v∧v≤511)∧n≤b.length
theorem aaE {b:List Nat}{a:Int}{d:Int}{n:Nat}(h:Cq b a=.ok d n):pSt b d n:=by
 rw[Cq]at h
 cases h1:qF 12 b a with
 | er e=>rw[h1]at h;exact absurd h (by simp)
 | ok e m =>
  rw[h1,ak]at h;obtain⟨k1,k2⟩:=Np (by omega) h1;have h2:e<121:=k1;injection h with g1 g2
  subst g1 g2;exact⟨by omega,k2⟩
theorem XU {b:List Nat}{a book was:Int}{v:Int}{n:Nat}(h:gy b a book was=.ok v n):aDa b book v n:=by
 rw[gy]at h;split at h
 ·cases h1:aQ b a 9 with
  | er e=>rw[h1]at h;exact absurd h (by simp)
  | ok v0 m =>
   rw[h1,ak]at h;have hp:=cZ h1;have h2:v0<512:=hp.1;have h3:=hp.2;injection h with g1 g2
   subst g1 g2;exact⟨by omega,h3⟩
 ·cases h1:Cq b a with
  | er e=>rw[h1]at h;exact absurd h (by simp)
  | ok d m =>
   rw[h1,ak]at h;have hp:=aaE h1;split at h
   ·exact absurd h (by simp)
   ·rename_i hn;injection h with g1 g2
    subst g1 g2;refine⟨?_,hp.2⟩;simp only[lG]at hn;split at hn<;>omega
def jV (b:List Nat):List Int→Int→Int→Int→R (List Int×Int×Int)
 | [],a,w,z=>.ok ([],w,z) a.toNat
 | k::r,a,w,z=>if k=13 then (gy b a 13 z).bind fun v n=>(jV b r n w v).bind fun q n=>.ok (v::q.1,q.2) n
  else if 0<k then (gy b a k w).bind fun v n=>(jV b r n v z).bind fun q n=>.ok (v::q.1,q.2) n
  else (jV b r a w z).bind fun q n=>.ok (0::q.1,q.2) n
abbrev inW (w:Int):Prop:=-1≤w∧w≤511
abbrev aCC (b:List Nat) (r:List Int) (q:List Int×Int×Int) (n:Nat):Prop:=q.1.length=r.length∧(inW q.2.1∧inW q.2.2)∧n≤b.length
theorem LO {b:List Nat}:∀ {r:List Int}{a:Nat}{w z:Int}{q:List Int×Int×Int}{n:Nat},a≤b.length→inW w→inW z→jV b r a w z=.ok q n→aCC b r q n
 | [],a,w,z,q,n,ha,hw,hz,h=>by
  rw[jV]at h;injection h with g1 g2
  subst g1 g2;exact⟨rfl,⟨hw,hz⟩,by simpa using ha⟩
 | k::r,a,w,z,q,n,ha,hw,hz,h=>by
  rw[jV]at h;split at h
  ·cases h1:gy b a 13 z with
   | er e=>rw[h1]at h;exact absurd h (by simp)
   | ok v m =>
    rw[h1,ak]at h;have hp:=XU h1
    cases h2:jV b r m w v with
    | er e=>rw[h2]at h;exact absurd h (by simp)
    | ok q1 m1 =>
     rw[h2,ak]at h;have hq:=LO hp.2 hw ⟨by have:=hp.1.1;omega,hp.1.2⟩ h2;injection h with g1 g2
     subst g1 g2;exact⟨by simp[hq.1],hq.2⟩
  ·split at h
   ·cases h1:gy b a k w with
    | er e=>rw[h1]at h;exact absurd h (by simp)
    | ok v m =>
     rw[h1,ak]at h;have hp:=XU h1
     cases h2:jV b r m v z with
     | er e=>rw[h2]at h;exact absurd h (by simp)
     | ok q1 m1 =>
      rw[h2,ak]at h;have hq:=LO hp.2 ⟨by have:=hp.1.1;omega,hp.1.2⟩ hz h2;injection h with g1 g2
      subst g1 g2;exact⟨by simp[hq.1],hq.2⟩
   ·cases h2:jV b r a w z with
    | er e=>rw[h2]at h;exact absurd h (by simp)
    | ok q1 m1 =>
     rw[h2,ak]at h;have hq:=LO ha hw hz h2;injection h with g1 g2
     subst g1 g2;exact⟨by simp[hq.1],hq.2⟩
theorem py {l:List Int}{i:Nat}{k:Int}{r:List Int}(h:l.drop i=k::r):(ai l)[i]?=some [.int .i64 k]:=by
 have:=congrArg (fun l=>l[0]?) h;simp only[List.getElem?_drop,List.getElem?_cons_zero,Nat.add_zero]at this;rw[ai,List.getElem?_map,this];rfl
def aj (n:Nat):Nat→List Nat
 | 0=>[]
 | k+1=>n / 2 ^ k % 2::aj n k
@[simp] theorem d8 {n:Nat}:∀ {k:Nat},(aj n k).length=k
 | 0=>rfl
 | k+1=>by rw[aj,List.length_cons,d8]
theorem aoN {n k:Nat}(hk:k≤63):c8 .shr (.d (.int .i64 (n:Int))) (.d (.int .i64 (k:Int)))=some (.int .i64 ((n / 2 ^ k:Nat):Int)):=by
 rw[gO (by omega)];have:min ((k:Int)).toNat IntKind.i64.bits=k:=by simp only[Int.toNat_natCast,IntKind.bits];omega
 rw[this,Int.fdiv_eq_ediv_of_nonneg _ (Int.natCast_nonneg _),←Int.natCast_ediv]
theorem aDV {a:Nat}(h:a<9223372036854775808):c8 .and (.d (.int .i64 (a:Int))) (.d (.int .i64 1))=some (.int .i64 ((a % 2:Nat):Int)):=by
 have:=apQ (k:=.i64) (a:=a) (b:=1) (by simpa [kO,IntKind.signed] using h) (by decide);rw[Nat.and_one_is_mod]at this;exact this
theorem arA {σ:Type}{hp:σ→ac}{l p N:Nat}{st:σ→Nat→σ}{bw:Nat→σ→Prop}(hI:∀ k s x,bw (k+1) s→bw k (st s x)) (n:Nat) (hn:n≤9223372036854775807) (hg:∀ s,get (hp s) p=some (.cells [.d (.int .i64 n)]))
  (hy:∀ (k:Nat) (s:σ) (x:Nat),bw (k+1) s→x≤1→bf (Dn prog) (.yield l) [.d (.int .u8 (x:Int))] ⟨hp s,N⟩=some (.d (.bool true),⟨hp (st s x),N⟩)):∀ (k:Nat) (I:Int) (s:σ),k≤31→bw k s→I=k-1→
  (Dn prog).code (.loop mC) ⟨[(0,.yield l),(2,.ptr p 0),(4,.d (.int .i64 I))],⟨hp s,N⟩⟩=some (.exit 0,⟨[],⟨hp ((aj n k).foldl st s),N⟩⟩):=by
 intro k
 induction k with
 | zero =>
  intro I s hk hi hI;subst hI;rw[aa mC.eq_1];simp (disch:=omega) [↓if_neg,aj]
 | succ k ih =>
  intro I s hk hi hI;subst hI;have c:((k+1:Nat):Int)-1=(k:Int):=by omega
  have h1:n / 2 ^ k≤n:=Nat.div_le_self _ _;have h2:=aoN (n:=n) (k:=k) (by omega);have h3:=aDV (a:=n / 2 ^ k) (by omega);have h4:=hy k s (n / 2 ^ k % 2) hi (by omega);have h5:=ih ((k:Int)-1) (st s (n / 2 ^ k % 2)) (by omega) (hI _ _ _ hi) rfl;rw[c,aa mC.eq_1,aj,List.foldl_cons];generalize n / 2 ^ k=Q at *;have c2:((Q % 2:Nat):Int)=(Q:Int) % 2:=by omega
  rw[c2]at h4;simp (disch:=omega) [↓if_pos,hg,-gO,h2,h3,-io,h4];exact h5
theorem azC {σ:Type}{hp:σ→ac}{l p q N:Nat}{st:σ→Nat→σ}{bw:Nat→σ→Prop}(hI:∀ k s x,bw (k+1) s→bw k (st s x)) (n k:Nat) (hn:n≤9223372036854775807) (hk:k≤31) (hg:∀ s,get (hp s) p=some (.cells [.d (.int .i64 n)])) (hg2:∀ s,get (hp s) q=some (.cells [.d (.int .i64 k)]))
  (hy:∀ (k:Nat) (s:σ) (x:Nat),bw (k+1) s→x≤1→bf (Dn prog) (.yield l) [.d (.int .u8 (x:Int))] ⟨hp s,N⟩=some (.d (.bool true),⟨hp (st s x),N⟩)) (s:σ) (hs:bw k s) :
  (Dn prog).call mO [.yield l,.ptr q 0,.ptr p 0] ⟨hp s,N⟩=some (.tup [],⟨hp ((aj n k).foldl st s),N⟩):=by
 rw[aD ahb yM.eq_1 rfl];have h:=arA hI n hn hg hy k ((k:Int)-1) s hk hs rfl;simp (disch:=omega) [hg2,h]
abbrev ata (n k:Int) (acc:List Nat):ac:=[(0,.cells [.d (.int .i64 n)]),(1,.cells [.d (.int .i64 k)]),(2,.cells [.own false 1 (af acc)]),(3,.loop [(2,.ptr 2 0)] [7] iC iE false none)]
theorem asf {l acc:List Nat}:l.foldl (fun(s:List Nat) x=>s++[x]) acc=acc++l:=by
 induction l generalizing acc with
 | nil=>simp
 | cons x r ih=>rw[List.foldl_cons,ih];simp
theorem aDg (n k:Int) (s:List Nat) (x:Nat) (hs:s.length≤990000000):bf (Dn prog) (.yield 3) [.d (.int .u8 (x:Int))] ⟨ata n k s,4⟩=some (.d (.bool true),⟨ata n k (s++[x]),4⟩):=by
 have hl:(af s).length=s.length:=by simp[af]
 simp (disch:=omega) [iC,iE];omega
theorem abd (acc:List Nat) (n k:Nat) (hn:n≤9223372036854775807) (hk:k≤31) (ha:acc.length≤900000000) :
  (Dn prog).call jM [.own false 1 (af acc),.fn mO [] [.ptr 1 0,.ptr 0 0]] ⟨[(0,.cells [.d (.int .i64 n)]),(1,.cells [.d (.int .i64 k)])],2⟩ =
  some (.own false 1 (af (acc++aj n k)),⟨[(0,.cells [.d (.int .i64 n)]),(1,.cells [.d (.int .i64 k)]),(2,.cells [.junk])],4⟩):=by
 have h:=azC (hp:=ata n k) (l:=3) (p:=0) (q:=1) (N:=4) (st:=fun s x=>s++[x]) (bw:=fun k s=>s.length+k≤980000000) (fun k s x h=>by simp only[List.length_append,List.length_cons,List.length_nil];omega) n k hn hk (fun s=>by simp) (fun s=>by simp) (fun j s x h _=>aDg n k s x (by omega)) acc (by omega);rw[asf]at h;rw[aD Bj jU.eq_1 rfl];simp (disch:=omega) [rd,h]
theorem aqZ (n k:Int):(Dn prog).call Ek [.d (.int .i64 n),.d (.int .i64 k)] ⟨[],0⟩=some (.fn mO [] [.ptr 1 0,.ptr 0 0],⟨[(0,.cells [.d (.int .i64 n)]),(1,.cells [.d (.int .i64 k)])],2⟩):=by
 rw[aD amg EX.eq_1 rfl];simp (disch:=omega)
abbrev nX (n s:Int):Prop:=(0≤s∧s≤31)∧0≤n∧n.toNat<2 ^ s.toNat
theorem GP (x:AV) (b:List Nat) (hb:b.length≤1000000000) (hx:elems [] x=some (af b)):aO prog eq [x]=some (.own true 1 (af b)):=by
 have hl:(af b).length=b.length:=by simp[af]
 rw[aq Jf mD.eq_1 rfl];have h4:Nat.ble b.length 4294967296=true:=by rw[Nat.ble_eq];omega
 rw[eh];simp (disch:=omega) [bp,FB,hx,h4]
theorem jQ (b:List Nat) (n s:Int) (hb:b.length≤900000000) (hn:i64 n) (x:AV) (hx:x=.d (.lst (af b))∨x=.nl∧b=[]):aO prog ed [x,.d (.int .i64 n),.d (.int .i64 s)] =
  if nX n s then some (.tup [.own true 1 (af (b++aj n.toNat s.toNat)),.d (.int .i64 0)]) else some (.tup [.nl,.d (.int .i64 2)]):=by
 have hc:aO prog eq [x]=some (.own true 1 (af b)):=by
  refine GP x b (by omega) ?_;rcases hx with rfl | ⟨rfl,rfl⟩<;>rfl
 rw[aq api IY.eq_1 rfl];by_cases h1:0≤s∧s≤31
 ·obtain⟨S,rfl⟩:=Int.eq_ofNat_of_zero_le h1.1;by_cases h2:n<0
  ·rw[if_neg (by simp only[nX];omega)];simp (disch:=omega) [pg,↓if_pos,↓if_neg]
  ·obtain⟨M,rfl⟩:=Int.eq_ofNat_of_zero_le (Int.not_lt.1 h2);have h3:=aoN (n:=M) (k:=S) (by omega);by_cases h4:M<2 ^ S
   ·rw[if_pos (by simp only[nX,Int.toNat_natCast];omega)];rw[Nat.div_eq_of_lt h4]at h3;have h5:=abd b M S (by omega) (by omega) hb;rcases hx with rfl | ⟨rfl,rfl⟩
    ·simp (disch:=omega) [pg,↓if_pos,↓if_neg,-gO,h3,hc,aqZ,h5]
    ·simp (disch:=omega) [pg,↓if_pos,↓if_neg,-gO,h3,hc,aqZ,h5]
   ·rw[if_neg (by simp only[nX,Int.toNat_natCast];omega)];have h6:M / 2 ^ S≠0:=by
     intro h;rcases Nat.div_eq_zero_iff.1 h with h | h
     ·have:=Nat.two_pow_pos S;omega
     ·exact h4 h
    have h7:¬ (((M / 2 ^ S:Nat):Int)=0):=by omega
    generalize M / 2 ^ S=Q at *;simp (disch:=omega) [pg,↓if_pos,↓if_neg,-gO,h3]
 ·rw[if_neg (by simp only[nX];omega)];simp (disch:=omega) [pg,↓if_pos,↓if_neg]
structure Hv (hp:AV→ac) (p:Nat):Prop where
 get:∀ v,get (hp v) p=some (.cells [v])
 put:∀ v w,put (hp v) p (.cells [w])=hp w
def inB (x:AV) (b:List Nat):Prop:=x=.own false 1 (af b)∨x=.d (.lst (af b))∨x=.nl∧b=[]
theorem w8 {b:List Nat}:inB (.own false 1 (af b)) b:=.inl rfl
theorem HO {hp:AV→ac}{p N:Nat}(H:Hv hp p) {x:AV}{b:List Nat}(hx:inB x b) (hb:b.length≤900000000) (n s:Int) (ho:nX n s) (hn:i64 n) :
  (Dn prog).call oZ [.d (.int .i64 n),.d (.int .i64 s),.ptr p 0] ⟨hp x,N⟩=some (.tup [],⟨hp (.own false 1 (af (b++aj n.toNat s.toNat))),N⟩):=by
 have h1:=fun x hx=>jQ b n s hb hn x hx
 simp only[if_pos ho]at h1;rw[aD ajm Ba.eq_1 rfl];rcases hx with rfl | rfl | ⟨rfl,rfl⟩
 ·have h2:=h1 _ (.inl rfl);simp (disch:=omega) [H.get,H.put,h2]
 ·have h2:=h1 _ (.inl rfl);simp (disch:=omega) [H.get,H.put,h2]
 ·have h2:=h1 _ (.inr ⟨rfl,rfl⟩);simp (disch:=omega) [H.get,H.put,h2]
theorem pK {hp:AV→ac}{p N:Nat}(H:Hv hp p) {x:AV}{b:List Nat}(hx:inB x b) (hb:b.length≤900000000) (n s:Nat) (hs:s≤31) (ho:n<2 ^ s) (nI sI:Int) (en:nI=n) (es:sI=s) :
  (Dn prog).call oZ [.d (.int .i64 nI),.d (.int .i64 sI),.ptr p 0] ⟨hp x,N⟩=some (.tup [],⟨hp (.own false 1 (af (b++aj n s))),N⟩):=by
 subst en es;have h31:2 ^ s≤2 ^ 31:=Nat.pow_le_pow_right (by omega) hs;exact HO H hx hb n s (by simp only[nX,Int.toNat_natCast];omega) (by omega)
def im:List Int→Int→Nat
 | [],_=>0
 | n::r,w=>if w<n then 0 else im r (w-n)+1
theorem agS (i:am) (hi:i.groups.length≤1000) (hg:∀ n∈i.groups,1≤n∧n≤8) (m:Nat):∀ (r:List Int) (g:Nat) (w:Int),i.groups.drop g=r→0≤w→w<r.sum→w≤8→
  (Dn prog).code (.loop vg) ⟨[(2,.ptr 0 0),(8,.d (.int .i64 g)),(9,.d (.int .i64 w))],⟨[(0,.cells i.cells)],m⟩⟩=some (.exit 0,⟨[(8,.d (.int .i64 (g+im r w:Nat)))],⟨[(0,.cells i.cells)],m⟩⟩):=by
 simp only[am.cells];intro r
 induction r with
 | nil=>intro g w h1 h2 h3;simp at h3;omega
 | cons n r ih =>
  intro g w h1 h2 h3 h4;have hlt:g<i.groups.length:=by
   rcases Nat.lt_or_ge g i.groups.length with h | h
   ·exact h
   ·rw[List.drop_eq_nil_of_le h]at h1;exact absurd h1 (by simp)
  have h5:=List.drop_eq_getElem_cons hlt;have e1:i.groups[g]=n∧i.groups.drop (g+1)=r:=by rw[h1]at h5;injection h5 with a b;exact⟨a.symm,b.symm⟩
  have hn:=hg _ (List.getElem_mem hlt);rw[e1.1]at hn;have hnt:nth i.groups g=n:=by have:=sY hlt;rw[List.getElem?_eq_getElem hlt,e1.1]at this;injection this with this;exact this.symm
  rw[aa vg.eq_1,im];by_cases h6:w<n
  ·rw[if_pos h6];simp (disch:=omega) [↓if_pos,↓if_neg,hnt]
  ·have h7:=ih (g+1) (w-n) e1.2 (by omega) (by simp only[List.sum_cons]at h3;omega) (by omega);have c1:((g+1:Nat):Int)=(g:Int)+1:=rfl;have c2:g+1+im r (w-n)=g+(im r (w-n)+1):=by omega
   rw[c1,c2]at h7;rw[if_neg h6];simp (disch:=omega) [↓if_pos,↓if_neg,hnt];exact h7
theorem cD {i:am}(hm:i.may 11):(∀ n∈i.groups,1≤n∧n≤8)∧i.groups.sum=i.many:=by
 obtain⟨_,_,_,_,h⟩:=hm;unfold am.grouped at h;unfold am.many;by_cases hs:i.seq=2
 ·rw[if_pos hs]at h⊢;exact⟨h.1,h.2.1⟩
 ·rw[if_neg hs]at h⊢;rw[h];simp
theorem I8 (i:am) (hi:i.Fit) (hm:i.may 11) (w:Int) (h0:0≤w) (h1:w<i.many):aO prog oi [.agg i.cells,.d (.int .i64 w)]=some (.tup [.d (.int .i64 (im i.groups w)),.d (.int .i64 0)]):=by
 have hw:=jD i hi;rw[if_pos hm]at hw;obtain⟨g1,g2⟩:=cD hm;have hmm:i.many≤8:=by unfold am.many;split<;>omega
 have hl:=agS i hi.len g1 1 i.groups 0 w rfl h0 (by omega) (by omega);have c0:((0:Nat):Int)=0:=rfl;rw[c0,Nat.zero_add]at hl;simp only[am.cells]at hw hl;rw[aq akB CD.eq_1 rfl];simp (disch:=omega) [hw,↓if_pos,↓if_neg,hl]
theorem Ja:∀ x∈AF,nU x.1 x.2≤nU 11 x.2∧nU x.1 true≤14:=by decide +kernel
theorem iw {r:Nat}{i:am}(hr:r≤11) (h:i.may r):i.may 11:=by
 obtain⟨h1,h2,h3,h4,h5⟩:=h;have:=(Ja _ (dI (r:=r) (s:=decide (i.seq=2)) (by omega))).1;exact⟨h1,h2,h3,by simp only[]at this;omega,h5⟩
def DE (g:List Int):Nat→Nat→List Nat
 | 0,_=>[]
 | k+1,w=>(if im g w=im g (w+1) then aj 1 1 else aj 0 1)++DE g k (w+1)
theorem ad1 {g:List Int}:∀ {k w:Nat},(DE g k w).length=k
 | 0,_=>rfl
 | k+1,w=>by rw[DE,List.length_append,ad1];split<;>simp<;>omega
def nZ (i:am):List Nat:=aj 0 1++(aj i.seq 2++(aj i.shape 1++(if i.seq=2 then aj i.max.toNat 4++DE i.groups 7 0 else aj i.max.toNat 6++aj 0 1)))
abbrev hpP (i:am) (v:AV):ac:=[(0,.cells [v]),(1,.cells i.cells)]
theorem Mx (i:am):Hv (hpP i) 0:=⟨fun v=>by simp,fun v w=>by simp⟩
theorem alC (i:am) (hi:i.Fit) (hm:i.may 11) (hs:i.seq=2) (N:Nat):∀ (k w:Nat) (b:List Nat),w+k=7→b.length≤800000000+w→
  (Dn prog).code (.loop qQ) ⟨[(3,.ptr 0 0),(5,.ptr 1 0),(9,.fn oZ [] [.ptr 0 0]),(10,.d (.int .i64 ((w:Int)+1)))],⟨hpP i (.own false 1 (af b)),N⟩⟩ =
  some (.exit 0,⟨[(3,.ptr 0 0)],⟨hpP i (.own false 1 (af (b++DE i.groups k w))),N⟩⟩):=by
 have hmm:i.many=8:=by unfold am.many;rw[if_pos hs]
 intro k
 induction k with
 | zero =>
  intro w b h1 h2;rw[aa qQ.eq_1,DE];simp (disch:=omega) [↓if_neg]
 | succ k ih =>
  intro w b h1 h2;have g1:=I8 i hi hm w (by omega) (by omega);have g2:=I8 i hi hm (w+1) (by omega) (by omega);have p1:=HO (Mx i) (N:=N) (w8 (b:=b)) (by omega) 1 1 (by decide) (by omega);have p0:=HO (Mx i) (N:=N) (w8 (b:=b)) (by omega) 0 1 (by decide) (by omega);have i1:=ih (w+1) (b++aj 1 1) (by omega) (by simp;omega);have i0:=ih (w+1) (b++aj 0 1) (by omega) (by simp;omega);have c1:((w+1:Nat):Int)=(w:Int)+1:=rfl;have t1:(1:Int).toNat=1:=rfl;have t0:(0:Int).toNat=0:=rfl;simp only[am.cells]at g1 g2;simp only[c1,t1,t0,List.append_assoc]at p1 p0 i1 i0;rw[aa qQ.eq_1,DE];by_cases h:im i.groups w=im i.groups (w+1)
  ·rw[if_pos h];simp (disch:=omega) [↓if_pos,g1,g2,h,p1];exact i1
  ·rw[if_neg h];simp (disch:=omega) [↓if_pos,↓if_neg,g1,g2,h,p0];exact i0
theorem as3 (b:List Nat) (hb:b.length≤700000000) (x:AV) (hx:x=.d (.lst (af b))∨x=.nl∧b=[]) (r:Int) (i:am) (hi:i.Fit):aO prog Hy [x,.d (.int .i64 r),.agg i.cells] =
  if dc r then if i.may r.toNat then some (.tup [.own true 1 (af (b++nZ i)),.d (.int .i64 0)]) else some (.tup [.nl,.d (.int .i64 8)]) else some (.tup [.nl,.d (.int .i64 2)]):=by
 have hc:=pr r i hi;simp only[am.cells]at hc;have hxx:inB x b:=by
  rcases hx with rfl | ⟨rfl,rfl⟩
  ·exact .inr (.inl rfl)
  ·exact .inr (.inr ⟨rfl,rfl⟩)
 rw[aq apr Ir.eq_1 rfl];by_cases hr:dc r
 ·rw[if_pos hr]at hc⊢;by_cases hm:i.may r.toNat
  ·rw[if_pos hm]at hc⊢;have hm11:i.may 11:=iw (by omega) hm;obtain⟨m1,m2,m3,m4,m5⟩:=hm;have hmb:=CR (r:=r.toNat) (s:=decide (i.seq=2)) (by omega);have q1:=pK (Mx i) (N:=2) hxx (by omega) 0 1 (by decide) (by decide) 0 1 rfl rfl;have q2:=pK (Mx i) (N:=2) (w8 (b:=b++aj 0 1)) (by simp;omega) i.seq 2 (by decide) (by omega) i.seq 2 rfl rfl;have q3:=pK (Mx i) (N:=2) (w8 (b:=b++aj 0 1++aj i.seq 2)) (by simp;omega) i.shape 1 (by decide) (by omega) i.shape 1 rfl rfl;by_cases hs:i.seq=2
   ·rw[decide_eq_true hs]at m4;have hmb:=(Ja _ (dI (r:=r.toNat) (s:=true) (by omega))).2;simp only[]at hmb;have q4:=pK (Mx i) (N:=2) (w8 (b:=b++aj 0 1++aj i.seq 2++aj i.shape 1)) (by simp;omega) i.max.toNat 4 (by decide) (by omega) i.max 4 (by omega) rfl;have q5:=alC i hi hm11 hs 2 7 0 (b++aj 0 1++aj i.seq 2++aj i.shape 1++aj i.max.toNat 4) (by omega) (by simp;omega);have c0:((0:Nat):Int)+1=1:=rfl;rw[c0]at q5;have e:b++aj 0 1++aj i.seq 2++aj i.shape 1++aj i.max.toNat 4++DE i.groups 7 0=b++nZ i:=by simp only[nZ,if_pos hs,List.append_assoc]
    rw[e]at q5;simp only[hpP,am.cells]at q1 q2 q3 q4 q5;generalize b++aj 0 1=B1 at *;generalize B1++aj i.seq 2=B2 at *;generalize B2++aj i.shape 1=B3 at *;generalize B3++aj i.max.toNat 4=B4 at *;generalize nZ i=IB at *;rcases hx with rfl | ⟨rfl,rfl⟩
    all_goals
     simp (maxSteps:=300000) (disch:=omega) [hc,↓if_pos,↓if_neg,q1,q2,q3,q4,q5]
   ·have q4:=pK (Mx i) (N:=2) (w8 (b:=b++aj 0 1++aj i.seq 2++aj i.shape 1)) (by simp;omega) i.max.toNat 6 (by decide) (by omega) i.max 6 (by omega) rfl;have q5:=pK (Mx i) (N:=2) (w8 (b:=b++aj 0 1++aj i.seq 2++aj i.shape 1++aj i.max.toNat 6)) (by simp;omega) 0 1 (by decide) (by decide) 0 1 rfl rfl;have e:b++aj 0 1++aj i.seq 2++aj i.shape 1++aj i.max.toNat 6++aj 0 1=b++nZ i:=by simp only[nZ,if_neg hs,List.append_assoc]
    rw[e]at q5;simp only[hpP,am.cells]at q1 q2 q3 q4 q5;generalize b++aj 0 1=B1 at *;generalize B1++aj i.seq 2=B2 at *;generalize B2++aj i.shape 1=B3 at *;generalize B3++aj i.max.toNat 6=B4 at *;generalize nZ i=IB at *;rcases hx with rfl | ⟨rfl,rfl⟩
    all_goals
     simp (maxSteps:=300000) (disch:=omega) [hc,↓if_pos,↓if_neg,q1,q2,q3,q4,q5]
  ·rw[if_neg hm]at hc⊢;rcases hx with rfl | ⟨rfl,rfl⟩
   all_goals simp (disch:=omega) [hc,↓if_pos,↓if_neg]
 ·rw[if_neg hr]at hc⊢;rcases hx with rfl | ⟨rfl,rfl⟩
  all_goals simp (disch:=omega) [hc,↓if_pos,↓if_neg]
def Fb:Int→List ao→Option Int
 | lf,[]=>some lf
 | lf,s::r=>if s.right lf then Fb (lf-s.len) r else none
theorem TM {l:List ao}{lf:Int}:Fb lf l=some 0↔fitsS lf l:=by
 induction l generalizing lf<;>grind [Fb,fitsS]
theorem aFD {l:List ao}{lf v:Int}(h:Fb lf l=some v) (h0:0≤lf):0≤v∧v≤lf:=by
 induction l generalizing lf<;>grind [Fb]
theorem aK {α:Type}{l:List α}{i:Nat}(h:l.drop i=[]):l.length≤i:=by simp_all
theorem agv (full:List ao) (hl:full.length≤1000000) (X:Obj) (x26:AV) (y27 y28:D):∀ (r:List ao) (i:Nat) (lf:Int) (N:Nat),full.drop i=r→0≤lf∧lf≤1000→1≤N→
  ∃ M,N≤M∧(Dn prog).code (.loop kC) ⟨[(2,.ptr 0 0),(9,.d (.int .i64 lf)),(26,x26),(27,.d y27),(28,.d y28),(34,.d (.lst (dL full))),(35,.d (.int .i64 full.length)),(36,.d (.int .i64 i))],⟨[(0,X)],N⟩⟩ =
  match Fb lf r with
  | some v=>some (.exit 2,⟨[(2,.ptr 0 0),(9,.d (.int .i64 v)),(26,x26),(27,.d y27),(28,.d y28)],⟨[(0,X)],M⟩⟩)
  | none=>some (.ret,⟨[(4,.d (.int .i64 8))],⟨[(0,X)],M⟩⟩):=by
 intro r
 induction r with
 | nil =>
  intro i lf N h h0 hN;have hi:=aK h;refine⟨N,Nat.le_refl _,?_⟩;rw[aa kC.eq_1,Fb];simp (disch:=omega) [↓if_neg]
 | cons s r ih =>
  intro i lf N h h0 hN;have hg:=oj h;have hlt:=aU h;have h6:=fun k n left=>W9 ⟨k,n⟩ left
  by_cases hr:s.right lf
  ·obtain⟨M,hM,e⟩:=ih (i+1) (lf-s.len) (N+1) (aP h) (by omega) (by omega);refine⟨M,by omega,?_⟩;rw[aa kC.eq_1,Fb,if_pos hr,←e];simp (disch:=omega) [↓if_pos,↓if_neg,hg,h6]
  ·refine⟨N+1,by omega,?_⟩;rw[aa kC.eq_1,Fb,if_neg hr];simp (disch:=omega) [↓if_pos,↓if_neg,hg,h6]
abbrev cP (m:Int) (g:List (List ao)):Prop:=∀ l∈g,fitsS m l
theorem ag5 (i:am) (hi:i.Fit) (h0:0≤i.max∧i.max≤1000) (full:List (List ao)) (hl:full.length≤1000) (hl2:∀ l∈full,l.length≤1000):∀ (g:List (List ao)) (j:Nat) (N:Nat),full.drop j=g→1≤N→
  ∃ M,(Dn prog).code (.loop iQ) ⟨[(2,.ptr 0 0),(26,.d (.lst (aC full))),(27,.d (.int .i64 full.length)),(28,.d (.int .i64 j))],⟨[(0,.cells i.cells)],N⟩⟩ =
  if cP i.max g then some (.exit 0,⟨[],⟨[(0,.cells i.cells)],M⟩⟩) else some (.ret,⟨[(4,.d (.int .i64 8))],⟨[(0,.cells i.cells)],M⟩⟩):=by
 simp only[am.cells];intro g
 induction g with
 | nil =>
  intro j N h hN;have hi:=aK h;refine⟨N,?_⟩;rw[aa iQ.eq_1,if_pos (show cP i.max [] from fun _ h=>by simp at h)];simp (disch:=omega) [↓if_neg]
 | cons l r ih =>
  intro j N h hN;have hg:=gw h;have hlt:=aU h;have hll:l.length≤1000:=hl2 l (by rw[←List.take_append_drop j full,h];simp);obtain⟨M,hM,e⟩:=agv l (by omega) (.cells i.cells) (.d (.lst (aC full))) (.int .i64 full.length) (.int .i64 j) l 0 i.max N rfl h0 hN;have c0:((0:Nat):Int)=0:=rfl;rw[c0]at e;simp only[am.cells]at e
  cases hrm:Fb i.max l with
  | none =>
   refine⟨M,?_⟩;rw[hrm]at e;have hn:¬ cP i.max (l::r):=fun h=>by
    grind [TM]
   rw[aa iQ.eq_1,if_neg hn];simp (disch:=omega) [↓if_pos,hg,e]
  | some v =>
   rw[hrm]at e;by_cases h9:v=0
   ·subst h9;obtain⟨M2,e2⟩:=ih (j+1) M (aP h) (by omega);refine⟨M2,?_⟩;have hf:=TM.1 hrm;have hx:cP i.max (l::r)↔cP i.max r:=by grind
    rw[aa iQ.eq_1,auv hx,←e2];simp (disch:=omega) [↓if_pos,hg,e]
   ·refine⟨M,?_⟩;have hn:¬ cP i.max (l::r):=fun h=>by
     grind [TM]
    rw[aa iQ.eq_1,if_neg hn];simp (disch:=omega) [↓if_pos,↓if_neg,hg,e]
abbrev asz (g:List (List ao)):Prop:=g.length≤1000∧∀ l∈g,l.length≤1000
abbrev gX (i:am) (g:List (List ao)):Prop:=g.length=i.groups.length∧cP i.max g
theorem aoo (i:am) (hi:i.Fit) (g:List (List ao)) (hf:asz g):aO prog Bc [.agg i.cells,.d (.lst (aC g))]=if i.may 11 then if gX i g then some (.d (.int .i64 0)) else some (.d (.int .i64 8)) else some (.d (.int .i64 8)):=by
 have hw:=jD i hi;rw[aq akx CV.eq_1 rfl];by_cases hm:i.may 11
 ·rw[if_pos hm]at hw⊢;have h0:0≤i.max∧i.max≤1000:=by have:=hm.2.2.1;have:=hm.2.2.2.1;grind [CR]
  obtain⟨M,e⟩:=ag5 i hi h0 g hf.1 hf.2 g 0 1 rfl (by omega);have c0:((0:Nat):Int)=0:=rfl;rw[c0]at e;simp only[am.cells]at hw e;by_cases h1:g.length=i.groups.length
  ·by_cases h2:cP i.max g
   ·rw[if_pos ⟨h1,h2⟩];simp (disch:=omega) [↓if_pos,hw,e]
   ·rw[if_neg (fun h=>h2 h.2)];rw[if_neg h2]at e;simp (disch:=omega) [↓if_pos,hw,e]
  ·simp (disch:=omega) [↓if_pos,↓if_neg,hw]
 ·simp only[am.cells]at hw;simp (disch:=omega) [↓if_pos,↓if_neg,hw]
def bZ (au:Nat):Nat→Nat→List Nat
 | 0,n=>[n]
 | f+1,n=>if au≤n then au::bZ au f (n-au) else [n]
theorem alj {σ:Type}{hp:σ→Int→ac}{l p q N:Nat}{st:σ→Nat→σ}{bw:Nat→σ→Prop}(hI:∀ k s x,bw (k+1) s→bw k (st s x)) (hM:∀ j k s,j≤k→bw k s→bw j s) (au:Nat) (hm:1≤au∧au≤1000) (hg:∀ s n,get (hp s n) p=some (.cells [.d (.int .i64 n)])) (hq:∀ s n,get (hp s n) q=some (.cells [.d (.int .i64 au)])) (hpt:∀ s n m,put (hp s n) p (.cells [.d (.int .i64 m)])=hp s m)
  (hy:∀ (k:Nat) (s:σ) (x:Nat) (n:Int),bw (k+1) s→x≤au→bf (Dn prog) (.yield l) [.d (.int .i64 (x:Int))] ⟨hp s n,N⟩=some (.d (.bool true),⟨hp (st s x) n,N⟩)):∀ (f n:Nat) (s:σ),n≤f→n≤1000000→bw (f+1) s→
  ∃ (m:Nat) (s2:σ),m<au∧bw 1 s2∧st s2 m=(bZ au f n).foldl st s∧(Dn prog).code (.loop iq) ⟨[(0,.yield l),(1,.ptr p 0),(2,.ptr q 0)],⟨hp s n,N⟩⟩=some (.exit 0,⟨[(0,.yield l),(1,.ptr p 0)],⟨hp s2 m,N⟩⟩):=by
 intro f
 induction f with
 | zero =>
  intro n s hn hb hi;refine⟨n,s,by omega,hi,by rfl,?_⟩;rw[aa iq.eq_1];simp (disch:=omega) [↓if_neg,hg,hq]
 | succ f ih =>
  intro n s hn hb hi;by_cases h1:au≤n
  ·obtain⟨m,s2,a1,a2,a3,a4⟩:=ih (n-au) (st s au) (by omega) (by omega) (hI _ _ _ hi);refine⟨m,s2,a1,a2,by grind [bZ],?_⟩;have h2:=hy (f+1) s au n hi (by omega);have c1:((n-au:Nat):Int)=(n:Int)-au:=by omega
   rw[c1]at a4;rw[aa iq.eq_1,←a4];simp (disch:=omega) [↓if_pos,hg,hq,hpt,-io,h2]
  ·refine⟨n,s,by omega,?_,by grind [bZ],?_⟩
   ·grind
   ·rw[aa iq.eq_1];simp (disch:=omega) [↓if_neg,hg,hq]
theorem atb {σ:Type}{hp:σ→Int→ac}{l p q N:Nat}{st:σ→Nat→σ}{bw:Nat→σ→Prop}(hI:∀ k s x,bw (k+1) s→bw k (st s x)) (hM:∀ j k s,j≤k→bw k s→bw j s) (au:Nat) (hm:1≤au∧au≤1000) (hg:∀ s n,get (hp s n) p=some (.cells [.d (.int .i64 n)])) (hq:∀ s n,get (hp s n) q=some (.cells [.d (.int .i64 au)])) (hpt:∀ s n m,put (hp s n) p (.cells [.d (.int .i64 m)])=hp s m)
  (hy:∀ (k:Nat) (s:σ) (x:Nat) (n:Int),bw (k+1) s→x≤au→bf (Dn prog) (.yield l) [.d (.int .i64 (x:Int))] ⟨hp s n,N⟩=some (.d (.bool true),⟨hp (st s x) n,N⟩)) (n:Nat) (s:σ) (hn:n≤1000000) (hi:bw (n+1) s) :
  ∃ m:Int,(Dn prog).call f9 [.yield l,.ptr p 0,.ptr q 0] ⟨hp s n,N⟩=some (.tup [],⟨hp ((bZ au n n).foldl st s) m,N⟩):=by
 obtain⟨m,s2,a1,a2,a3,a4⟩:=alj hI hM au hm hg hq hpt hy n n s (Nat.le_refl _) hn hi;have h2:=hy 0 s2 m m a2 (by omega);refine⟨m,?_⟩;rw[aD Vy u4.eq_1 rfl,←a3];simp (disch:=omega) [a4,hg,-io,h2]
theorem Rj {au:Nat}(hm:1≤au):∀ {f n:Nat},(bZ au f n).length≤n+1
 | 0,n=>by simp[bZ]
 | f+1,n=>by
  rw[bZ];split
  ·have:=Rj hm (f:=f) (n:=n-au)
   grind
  ·simp
theorem amo (n m:Int) (h:ac) (N:Nat):(Dn prog).call zQ [.d (.int .i64 n),.d (.int .i64 m)] ⟨h,N⟩=some (.fn f9 [] [.ptr N 0,.ptr (N+1) 0],⟨put (put h N (.cells [.d (.int .i64 n)])) (N+1) (.cells [.d (.int .i64 m)]),N+2⟩):=by
 rw[aD agI yX.eq_1 rfl];simp (disch:=omega)
def E5 (sz:Nat) (s:ao):List Nat:=aj s.book.toNat 4++(bZ (2 ^ sz-1) s.len.toNat s.len.toNat).flatMap fun n=>aj n sz
theorem afg {sz:Nat}:∀ {l acc:List Nat},l.foldl (fun(s:List Nat) n=>s++aj n sz) acc=acc++l.flatMap fun n=>aj n sz
 | [],acc=>by simp
 | x::r,acc=>by rw[List.foldl_cons,afg];simp
abbrev J4:Obj:=.cells [.junk,.junk,.junk,.junk]
abbrev hpS (sz:Nat) (v:AV):ac:=[(0,.cells [v]),(1,J4),(2,.cells [.d (.int .i64 sz)])]
abbrev hpF (sz au N:Nat) (e:ar) (v:AV) (n:Int):ac:=[(0,.cells [v]),(1,J4),(2,.cells [.d (.int .i64 sz)]),(N+1,.cells [.d (.int .i64 n)]),(N+1+1,.cells [.d (.int .i64 au)]),(N+1+2,.loop e [55] zG zj false none)]
abbrev ac7 (au:Nat) (y32 y33 y34:D) (full:List ao) (i:Int) (r:ar):ar:=(3,.ptr 0 0)::(9,.ptr 2 0)::(10,.d (.int .i64 au))::(32,.d y32)::(33,.d y33)::(34,.d y34)::(38,.d (.lst (dL full)))::(39,.d (.int .i64 full.length))::(40,.d (.int .i64 i))::r
theorem aD7 (sz au N:Nat) (hsz:1≤sz∧sz≤5) (hm:au<2 ^ sz) (hN:3≤N) (y32 y33 y34:D) (full:List ao) (i:Int) (b:List Nat) (x:Nat) (n:Int) (hx:x≤au) (hb:b.length≤800000000) :
  bf (Dn prog) (.yield (N+1+2)) [.d (.int .i64 (x:Int))] ⟨hpF sz au N (ac7 au y32 y33 y34 full i [(54,.fn f9 [] [.ptr (N+1) 0,.ptr (N+1+1) 0])]) (.own false 1 (af b)) n,N+1+2+1⟩ =
  some (.d (.bool true),⟨hpF sz au N (ac7 au y32 y33 y34 full i [(54,.fn f9 [] [.ptr (N+1) 0,.ptr (N+1+1) 0])]) (.own false 1 (af (b++aj x sz))) n,N+1+2+1⟩):=by
 have h5:2 ^ sz≤2 ^ 5:=Nat.pow_le_pow_right (by omega) hsz.2;have h1:=jQ b x sz (by omega) (by omega) _ (.inl rfl);rw[if_pos (by grind)]at h1;simp (disch:=omega) [zG,zj,↓if_pos,↓if_neg,h1]
theorem aln (sz au:Nat) (hsz:1≤sz∧sz≤5) (hm:au=2 ^ sz-1) (full r:List ao) (hl:full.length≤1000) (s:ao) (y32 y33 y34:D) (i N:Nat) (b:List Nat) (hd:full.drop i=s::r) (hr:s.right 1000) (hN:3≤N) (hb:b.length≤700000000) :
  (Dn prog).code mK ⟨ac7 au y32 y33 y34 full i [],⟨hpS sz (.own false 1 (af b)),N⟩⟩ =
  some (.normal,⟨ac7 au y32 y33 y34 full ((i+1:Nat):Int) [],⟨hpS sz (.own false 1 (af (b++E5 sz s))),N+4⟩⟩):=by
 have hg:=oj hd;have hlt:=aU hd;have h5:2 ^ sz≤2 ^ 5:=Nat.pow_le_pow_right (by omega) hsz.2;have h6:2 ^ 1≤2 ^ sz:=Nat.pow_le_pow_right (by omega) hsz.1;have h1:=jQ b s.book 4 (by omega) (by omega) _ (.inl rfl);have ho:nX s.book 4:=by
  grind
 obtain⟨L,hL⟩:=Int.eq_ofNat_of_zero_le (show 0≤s.len by omega);obtain⟨m,h7⟩:=atb (hp:=fun b n=>hpF sz au N (ac7 au y32 y33 y34 full i [(54,.fn f9 [] [.ptr (N+1) 0,.ptr (N+1+1) 0])]) (.own false 1 (af b)) n) (l:=N+1+2) (p:=N+1) (q:=N+1+1) (N:=N+1+2+1) (st:=fun s n=>s++aj n sz) (bw:=fun k s=>s.length+5*k≤750000000)
  (fun k s x h=>by grind [d8]) (fun j k s h1 h2=>by omega) au (by omega) (fun s n=>by simp (disch:=omega) [↓if_neg]) (fun s n=>by simp (disch:=omega) [↓if_neg]) (fun s n m=>by simp (disch:=omega) [↓if_neg])
  (fun k s x n h1 h2=>aD7 sz au N hsz (by omega) hN y32 y33 y34 full i s x n h2 (by omega)) L (b++aj s.book.toNat 4) (by omega) (by simp;omega)
 rw[afg]at h7;have e:b++aj s.book.toNat 4++(bZ au L L).flatMap (fun n=>aj n sz)=b++E5 sz s:=by
  grind [E5]
 rw[e]at h7;rw[hL]at hg;rw[mK.eq_1];simp (disch:=omega) [↓if_pos,↓if_neg,hg,h1,amo,rd,h7]
theorem aiB {sz:Nat}(hsz:1≤sz∧sz≤5) {s:ao}(h:s.right 1000):(E5 sz s).length≤6000:=by
 have h6:2 ^ 1≤2 ^ sz:=Nat.pow_le_pow_right (by omega) hsz.1;have h1:=Rj (au:=2 ^ sz-1) (by omega) (f:=s.len.toNat) (n:=s.len.toNat);rw[E5,List.length_append,d8,List.length_flatMap];have:((bZ (2 ^ sz-1) s.len.toNat s.len.toNat).map fun n=>(aj n sz).length).sum≤(bZ (2 ^ sz-1) s.len.toNat s.len.toNat).length*5:=by
  generalize bZ (2 ^ sz-1) s.len.toNat s.len.toNat=l
  induction l<;>grind [d8]
 omega
def kz (sz:Nat) (l:List ao):List Nat:=l.flatMap (E5 sz)
theorem px {lf:Int}:∀ {l:List ao},fitsS lf l→lf≤1000→∀ s∈l,s.right 1000
 | [],_,_,s,h=>absurd h (by simp)
 | x::r,hf,h0,s,h=>by
  obtain⟨h1,h2⟩:=hf;rcases List.mem_cons.1 h with e | e
  ·grind
  ·exact px h2 (by omega) s e
theorem amj (sz au:Nat) (hsz:1≤sz∧sz≤5) (hm:au=2 ^ sz-1) (full:List ao) (hl:full.length≤1000) (y32 y33 y34:D):∀ (r:List ao) (i N:Nat) (b:List Nat),full.drop i=r→(∀ s∈r,s.right 1000)→3≤N→b.length+6000*r.length≤700000000→
  ∃ M,3≤M∧(Dn prog).code (.loop mK) ⟨ac7 au y32 y33 y34 full i [],⟨hpS sz (.own false 1 (af b)),N⟩⟩ =
  some (.exit 2,⟨[(3,.ptr 0 0),(9,.ptr 2 0),(10,.d (.int .i64 au)),(32,.d y32),(33,.d y33),(34,.d y34)],⟨hpS sz (.own false 1 (af (b++kz sz r))),M⟩⟩):=by
 intro r
 induction r with
 | nil =>
  intro i N b hd hr hN hb;have hi:=aK hd;refine⟨N,hN,?_⟩;rw[aa mK.eq_1,kz,List.flatMap_nil,List.append_nil];simp (disch:=omega) [↓if_neg]
 | cons s r ih =>
  intro i N b hd hr hN hb;have hs:=hr s (.head _);have h1:=aiB hsz hs;obtain⟨M,hM,e⟩:=ih (i+1) (N+4) (b++E5 sz s) (aP hd) (fun q hq=>hr q (.tail _ hq)) (by omega) (by grind)
  grind [kz,aa,aln,Gj]
def Ns (i:am) (g:List (List ao)):List Nat:=g.flatMap (kz i.fsz)
theorem KS {sz:Nat}(hsz:1≤sz∧sz≤5):∀ {l:List ao},(∀ s∈l,s.right 1000)→(kz sz l).length≤6000*l.length
 | [],_=>by simp[kz]
 | s::r,h=>by
  have h1:=aiB hsz (h s (.head _));have h2:=KS hsz (l:=r) fun q hq=>h q (.tail _ hq)
  grind [kz]
theorem amt (sz au:Nat) (hsz:1≤sz∧sz≤5) (hm:au=2 ^ sz-1) (m:Int) (hm0:m≤1000) (full:List (List ao)) (hl:full.length≤1000):∀ (g:List (List ao)) (i N:Nat) (b:List Nat),full.drop i=g→cP m g→(∀ l∈g,l.length≤100)→3≤N→b.length+600000*g.length≤700000000→
  ∃ M,(Dn prog).code (.loop qL) ⟨[(3,.ptr 0 0),(9,.ptr 2 0),(10,.d (.int .i64 au)),(32,.d (.lst (aC full))),(33,.d (.int .i64 full.length)),(34,.d (.int .i64 i))],⟨hpS sz (.own false 1 (af b)),N⟩⟩ =
  some (.exit 0,⟨[(3,.ptr 0 0)],⟨hpS sz (.own false 1 (af (b++g.flatMap (kz sz)))),M⟩⟩):=by
 intro g
 induction g with
 | nil =>
  intro i N b hd hf hll hN hb;have hi:=aK hd;refine⟨N,?_⟩;rw[aa qL.eq_1,List.flatMap_nil,List.append_nil];simp (disch:=omega) [↓if_neg]
 | cons l r ih =>
  intro i N b hd hf hll hN hb;simp only[List.length_cons]at hb;have hg:=gw hd;have hlt:=aU hd;have hlen:=hll l (.head _);have hr:=px (hf l (.head _)) hm0;have h1:=KS hsz hr;obtain⟨M,hM,e⟩:=amj sz au hsz hm l (by omega) (.lst (aC full)) (.int .i64 full.length) (.int .i64 i) l 0 N b rfl hr hN (by omega);obtain⟨M2,e2⟩:=ih (i+1) M (b++kz sz l) (aP hd) (fun q hq=>hf q (.tail _ hq)) (fun q hq=>hll q (.tail _ hq)) hM (by grind);refine⟨M2,?_⟩;have c0:((0:Nat):Int)=0:=rfl;rw[c0]at e;have ea:b++(l::r).flatMap (kz sz)=b++kz sz l++r.flatMap (kz sz):=by simp_all
  rw[aa qL.eq_1,ea,←e2];simp (disch:=omega) [↓if_pos,hg,e]
theorem Cp {lf:Int}:∀ {l:List ao},fitsS lf l→(l.length:Int)≤lf∨l=[]
 | [],_=>.inr rfl
 | x::r,hf=>by
  obtain⟨h1,h2⟩:=hf;have:=Cp h2
  grind
theorem atu (b:List Nat) (hb:b.length≤400000000) (x:AV) (hx:x=.d (.lst (af b))∨x=.nl∧b=[]) (i:am) (hi:i.Fit) (hm:i.may 11) (g:List (List ao)) (hf:asz g) (hg:gX i g):aO prog HW [x,.agg i.cells,.d (.lst (aC g))] =
  some (.tup [.own true 1 (af (b++Ns i g)),.d (.int .i64 0)]):=by
 have hc:=aoo i hi g hf;rw[if_pos hm,if_pos hg]at hc;have h0:0≤i.max∧i.max≤100:=by have:=hm.2.2.1;have:=hm.2.2.2.1;grind [CR]
 have hfd:=Vu i;have hsz:1≤i.fsz∧i.fsz≤5:=by grind [am.fsz]
 have g8:g.length≤8:=by
  have h:=(cD hm).1;have h2:=(cD hm).2;have:=lk (fun n hn=>(h n hn).1)
  grind [am.many]
 have hll:∀ l∈g,l.length≤100:=fun l hl=>by
  rcases Cp (hg.2 l hl) with h | h<;>grind
 have hp:=jQ b 0 0 (by omega) (by omega) x hx;rw[if_pos (by decide)]at hp;have t0:(0:Int).toNat=0:=rfl;rw[t0,aj,List.append_nil]at hp;obtain⟨M,e⟩:=amt i.fsz (2 ^ i.fsz-1) hsz rfl i.max (by omega) g hf.1 g 0 3 b rfl hg.2 hll (by omega) (by omega);have c0:((0:Nat):Int)=0:=rfl;rw[c0]at e;simp only[am.cells]at hc hfd;rw[aq apu Ix.eq_1 rfl,Ns];rcases hx with rfl | ⟨rfl,rfl⟩
 all_goals simp (disch:=omega) [↓if_pos,↓if_neg,hc,hfd,hp,e]
structure Tl {σ:Type}(hp:σ→ac→ac) (L:Nat):Prop where
 put:∀ s K o,L≤K→Go.Vm.put (hp s []) K o=hp s [(K,o)]
 put2:∀ s K o o',L≤K→Go.Vm.put (hp s [(K,o)]) K o'=hp s [(K,o')]
 get:∀ s K o,L≤K→Go.Vm.get (hp s [(K,o)]) K=some o
 del:∀ s K o,L≤K→Go.Vm.del (hp s [(K,o)]) K=hp s []
def nJ {σ τ:Type}(st:Nat→Int→σ→Sum σ τ):List Int→Nat→σ→Sum σ τ
 | [],_,s=>.inl s
 | k::r,a,s=>match st a k s with
  | .inl s=>nJ st r (a+1) s
  | .inr z=>.inr z
theorem aiR {σ τ:Type}{st:Nat→Int→σ→Sum σ τ}:∀ {l r:List Int}{a:Nat}{s:σ},nJ st (l++r) a s=match nJ st l a s with
  | .inl s=>nJ st r (a+l.length) s
  | .inr z=>.inr z
 | [],r,a,s=>rfl
 | k::l,r,a,s=>by
  rw[List.cons_append,nJ,nJ]
  cases st a k s with
  | inl s=>simp only[aiR,List.length_cons];rw[show a+(l.length+1)=a+1+l.length by omega]
  | inr z=>rfl
section
variable {σ τ:Type}{hp:σ→ac→ac}{hq:τ→ac→ac}{L l p:Nat}{bks:List Int}{st:Nat→Int→σ→Sum σ τ}{bw:Nat→σ→Prop}
def Rnd (hp:σ→ac→ac) (hq:τ→ac→ac) (L l:Nat) (bks:List Int) (st:Nat→Int→σ→Sum σ τ) (bw:Nat→σ→Prop):Prop :=
 ∀ a k s K o N,bks[a]?=some k→bw a s→L≤K→K<N→
  (∃ s2,st a k s=.inl s2∧bw (a+1) s2∧bf (Dn prog) (.yield l) [.d (.int .i64 (a:Int)),.d (.int .i64 k)] ⟨hp s [(K,o)],N⟩=some (.d (.bool true),⟨hp s2 [(K,o)],N⟩))∨
  (∃ z,st a k s=.inr z∧bf (Dn prog) (.yield l) [.d (.int .i64 (a:Int)),.d (.int .i64 k)] ⟨hp s [(K,o)],N⟩=some (.d (.bool false),⟨hq z [(K,o)],N⟩))
theorem aoC (H:Tl hp L) (H2:Tl hq L) (hY:Rnd hp hq L l bks st bw) (full:List ao) (s0:ao) (hs0:s0.len≤1000) (i K N:Nat) (hK:L≤K) (hKN:K<N):∀ (k j a:Nat) (s:σ),j+k=s0.len.toNat→(∀ q,q<k→bks[a+q]?=some s0.book)→a+k≤100000000→bw a s→
  (∃ s2,nJ st (List.replicate k s0.book) a s=.inl s2∧bw (a+k) s2∧(Dn prog).code (.loop fF) ⟨[(0,.yield l),(3,.d (.int .i64 a)),(5,.ptr K 0),(6,.d (.lst (dL full))),(7,.d (.int .i64 full.length)),(8,.d (.int .i64 i)),(13,.d (.int .i64 s0.len)),(14,.d (.int .i64 j))],⟨hp s [(K,.cells [.d (.int .i64 s0.book),.d (.int .i64 s0.len)])],N⟩⟩ =
   some (.exit 2,⟨[(0,.yield l),(3,.d (.int .i64 (a+k:Nat))),(6,.d (.lst (dL full))),(7,.d (.int .i64 full.length)),(8,.d (.int .i64 i))],⟨hp s2 [],N⟩⟩))∨
  (∃ z,nJ st (List.replicate k s0.book) a s=.inr z∧(Dn prog).code (.loop fF) ⟨[(0,.yield l),(3,.d (.int .i64 a)),(5,.ptr K 0),(6,.d (.lst (dL full))),(7,.d (.int .i64 full.length)),(8,.d (.int .i64 i)),(13,.d (.int .i64 s0.len)),(14,.d (.int .i64 j))],⟨hp s [(K,.cells [.d (.int .i64 s0.book),.d (.int .i64 s0.len)])],N⟩⟩ =
   some (.ret,⟨[],⟨hq z [],N⟩⟩)):=by
 have hG:=fun s o=>H.get s K o hK
 have hD:=fun s o=>H.del s K o hK
 have hD2:=fun s o=>H2.del s K o hK
 intro k
 induction k with
 | zero =>
  intro j a s h1 h2 h3 hi;refine .inl ⟨s,rfl,hi,?_⟩;rw[aa fF.eq_1];simp (maxSteps:=300000) (disch:=omega) [↓if_neg,hD]
 | succ k ih =>
  intro j a s h1 h2 h3 hi;have hb:=h2 0 (by omega);rw[Nat.add_zero]at hb;have c1:((j+1:Nat):Int)=(j:Int)+1:=rfl;have c2:((a+1:Nat):Int)=(a:Int)+1:=rfl;rw[List.replicate_succ];rcases hY a s0.book s K (.cells [.d (.int .i64 s0.book),.d (.int .i64 s0.len)]) N hb hi hK hKN with ⟨s2,e1,e2,e3⟩ | ⟨z,e1,e3⟩
  ·rw[nJ,e1,aa fF.eq_1];have e4:a+(k+1)=a+1+k:=by omega
   have h9:=ih (j+1) (a+1) s2 (by omega) (fun q hq=>by rw[show a+1+q=a+(q+1) by omega];exact h2 (q+1) (by omega)) (by omega) e2;rw[c1,c2]at h9;rw[e4];rcases h9 with ⟨s3,f1,f2,f3⟩ | ⟨z,f1,f3⟩
   ·refine .inl ⟨s3,f1,f2,?_⟩;rw[←f3];simp (maxSteps:=300000) (disch:=omega) [↓if_pos,↓if_neg,hG,-io,e3]
   ·refine .inr ⟨z,f1,?_⟩;rw[←f3];simp (maxSteps:=300000) (disch:=omega) [↓if_pos,↓if_neg,hG,-io,e3]
  ·refine .inr ⟨z,by rw[nJ,e1],?_⟩;rw[aa fF.eq_1];simp (maxSteps:=300000) (disch:=omega) [↓if_pos,↓if_neg,hG,-io,e3,hD2]
theorem aon (H:Tl hp L) (H2:Tl hq L) (hY:Rnd hp hq L l bks st bw) (full:List ao) (hfl:full.length≤1000):∀ (r:List ao) (i a N:Nat) (s:σ),full.drop i=r→(∀ q∈r,0≤q.len∧q.len≤1000)→bks.drop a=al r→a≤1000*i→L≤N→bw a s→
  (∃ s2 M,nJ st (al r) a s=.inl s2∧bw (a+(al r).length) s2∧N≤M∧(Dn prog).code (.loop dX) ⟨[(0,.yield l),(3,.d (.int .i64 a)),(6,.d (.lst (dL full))),(7,.d (.int .i64 full.length)),(8,.d (.int .i64 i))],⟨hp s [],N⟩⟩ =
   some (.exit 0,⟨[],⟨hp s2 [],M⟩⟩))∨
  (∃ z M,nJ st (al r) a s=.inr z∧N≤M∧(Dn prog).code (.loop dX) ⟨[(0,.yield l),(3,.d (.int .i64 a)),(6,.d (.lst (dL full))),(7,.d (.int .i64 full.length)),(8,.d (.int .i64 i))],⟨hp s [],N⟩⟩ =
   some (.ret,⟨[],⟨hq z [],M⟩⟩)):=by
 intro r
 induction r with
 | nil =>
  intro i a N s hd hr hb ha hL hi;have hk:=aK hd;refine .inl ⟨s,N,rfl,hi,Nat.le_refl _,?_⟩;rw[aa dX.eq_1];simp (maxSteps:=300000) (disch:=omega) [↓if_neg]
 | cons q r ih =>
  intro i a N s hd hr hb ha hL hi;have hq:=hr q (.head _);have hlt:=aU hd;have hg:=oj hd;have eb:al (q::r)=List.replicate q.len.toNat q.book++al r:=by rw[al,List.flatMap_cons];rfl
  rw[eb]at hb;have hbk:∀ j,j<q.len.toNat→bks[a+j]?=some q.book:=fun j hj=>by
   have:=congrArg (fun l=>l[j]?) hb;simp only[List.getElem?_drop]at this;rw[this,List.getElem?_append_left (by simpa using hj)];simp[hj]
  have hb2:bks.drop (a+q.len.toNat)=al r:=by
   have:=congrArg (fun l=>l.drop q.len.toNat) hb;simp only[List.drop_drop]at this;rw[this,List.drop_left' (by simp)]
  have hp1:=fun o=>H.put s N o hL
  have hp2:=fun o o'=>H.put2 s N o o' hL
  have hG:=fun o=>H.get s N o hL
  have c1:((i+1:Nat):Int)=(i:Int)+1:=rfl;have c0:((0:Nat):Int)=0:=rfl;have h0:=aoC H H2 hY full q hq.2 i N (N+1) hL (by omega) q.len.toNat 0 a s (by omega) hbk (by omega) hi;rw[c0]at h0;rw[eb,aiR];rcases h0 with ⟨s2,e1,e2,e3⟩ | ⟨z,e1,e3⟩
  ·have h9:=ih (i+1) (a+q.len.toNat) (N+1) s2 (aP hd) (fun x hx=>hr x (.tail _ hx)) hb2 (by omega) (by omega) e2;rw[c1]at h9;rw[e1];simp only[List.length_append,List.length_replicate];rcases h9 with ⟨s3,M,f1,f2,f3,f4⟩ | ⟨z,M,f1,f3,f4⟩
   ·refine .inl ⟨s3,M,f1,by rw[←Nat.add_assoc];exact f2,by omega,?_⟩;rw[aa dX.eq_1,←f4];simp (maxSteps:=300000) (disch:=omega) [↓if_pos,↓if_neg,hg,hp1,hp2,hG,e3]
   ·refine .inr ⟨z,M,f1,by omega,?_⟩;rw[aa dX.eq_1,←f4];simp (maxSteps:=300000) (disch:=omega) [↓if_pos,↓if_neg,hg,hp1,hp2,hG,e3]
  ·rw[e1];refine .inr ⟨z,N+1,rfl,by omega,?_⟩;rw[aa dX.eq_1];simp (maxSteps:=300000) (disch:=omega) [↓if_pos,↓if_neg,hg,hp1,hp2,hG,e3]
theorem adg (H:Tl hp L) (H2:Tl hq L) (full:List ao) (hY:Rnd hp hq L l (al full) st bw) (hgp:∀ s,get (hp s []) p=some (.cells [.d (.lst (dL full))])) (hfl:full.length≤1000) (hr:∀ q∈full,0≤q.len∧q.len≤1000) (N:Nat) (s:σ) (hN:L≤N) (hi:bw 0 s) :
  (∃ s2 M,nJ st (al full) 0 s=.inl s2∧bw (al full).length s2∧N≤M∧(Dn prog).call dR [.yield l,.ptr p 0] ⟨hp s [],N⟩=some (.tup [],⟨hp s2 [],M⟩))∨
  (∃ z M,nJ st (al full) 0 s=.inr z∧N≤M∧(Dn prog).call dR [.yield l,.ptr p 0] ⟨hp s [],N⟩=some (.tup [],⟨hq z [],M⟩)):=by
 have h:=aon H H2 hY full hfl full 0 0 N s rfl hr rfl (by omega) hN hi;have c0:((0:Nat):Int)=0:=rfl;rw[c0,Nat.zero_add]at h;rw[aD X4 uf.eq_1 rfl];rcases h with ⟨s2,M,e1,e2,e3,e4⟩ | ⟨z,M,e1,e3,e4⟩
 ·refine .inl ⟨s2,M,e1,e2,e3,?_⟩;simp (maxSteps:=300000) (disch:=omega) [hgp,e4]
 ·refine .inr ⟨z,M,e1,e3,?_⟩;simp (maxSteps:=300000) (disch:=omega) [hgp,e4]
end
theorem Eh (x:D) (h:ac) (N:Nat):(Dn prog).call kl [.d x] ⟨h,N⟩=some (.fn dR [] [.ptr N 0],⟨put h N (.cells [.d x]),N+1⟩):=by
 rw[aD agN zx.eq_1 rfl];simp (maxSteps:=300000) (disch:=omega)
def bq (t:List (List Int)):List (List D):=t.map fun l=>[.lst (ai l)]
@[simp] theorem aq8 {t:List (List Int)}:(bq t).length=t.length:=by simp[bq]
theorem xP {g:List (List Int)}{i:Nat}{l:List Int}{r:List (List Int)}(h:g.drop i=l::r):(bq g)[i]?=some [.lst (ai l)]:=by
 grind [List.getElem?_cons_zero,bq]
def bK:List Int→List Int→Int→Int→Option (Int×Int)
 | [],[],w,z=>some (w,z)
 | k::r,n::t,w,z=>if k=0 then (if n=0 then bK r t w z else none) else if ib k n w z then (if k=13 then bK r t w n else bK r t n z) else none
 | _,_,_,_=>none
def jZ:List (List ao)→List (List Int)→Int→Int→Option (Int×Int)
 | [],[],w,z=>some (w,z)
 | l::r,t::s,w,z=>match bK (al l) t w z with
  | some (w,z)=>jZ r s w z
  | none=>none
 | _,_,_,_=>none
abbrev tc (gain:Int) (g:List (List ao)) (t:List (List Int)):Prop:=jZ g t gain (-1)≠none
theorem DD:∀ {g:List (List ao)}{t:List (List Int)}{w z:Int},jZ g t w z≠none→g.length=t.length
 | [],[],_,_,_=>rfl
 | [],_::_,_,_,h=>absurd rfl h
 | _::_,[],_,_,h=>absurd rfl h
 | l::r,t::s,w,z,h=>by
  rw[jZ]at h;split at h
  ·simp only[List.length_cons,DD h]
  simp_all
abbrev mS (w:Int):Prop:=-1≤w∧w≤511
theorem Xe {k n w z:Int}(h:ib k n w z):mS n:=by
 grind
def fP (k n w z:Int):Int×Int:=if k=0 then (w,z) else if k=13 then (w,n) else (n,z)
theorem lV {k n:Int}{r t:List Int}{w z:Int}(h:bK (k::r) (n::t) w z≠none):(k=0→n=0)∧(k≠0→ib k n w z)∧bK (k::r) (n::t) w z=bK r t (fP k n w z).1 (fP k n w z).2:=by
 grind [bK,fP]
theorem afA {bks t:List Int}{a:Nat}{k:Int}{w z:Int}(hk:bks[a]?=some k) (h:bK (bks.drop a) (t.drop a) w z≠none):∃ n,t.drop a=n::t.drop (a+1)∧(k=0→n=0)∧(k≠0→ib k n w z)∧bK (bks.drop a) (t.drop a) w z=bK (bks.drop (a+1)) (t.drop (a+1)) (fP k n w z).1 (fP k n w z).2:=by
 obtain⟨hlt,e⟩:=List.getElem?_eq_some_iff.1 hk;have h1:=List.drop_eq_getElem_cons hlt;rw[e]at h1;rw[h1]at h⊢
 cases h2:t.drop a with
 | nil=>rw[h2]at h;exact absurd rfl h
 | cons n r =>
  have h3:t.drop (a+1)=r:=aP h2;rw[h2]at h;obtain⟨a1,a2,a3⟩:=lV h
  simp_all
abbrev hpK (ss:List (List Int)) (g N:Nat) (l:List ao) (e:ar) (s:Nat×Int×Int) (T:ac):ac :=
 (0,.cells [.d (.lst (bq ss))])::(1,.cells [.d (.int .i64 0)])::(2,.cells [.d (.int .i64 s.2.1),.d (.int .i64 s.2.2)])::(3,.cells [.ptr 2 0])::(N,.cells [.d (.int .i64 g)])::(N+1,.cells [.d (.int .i64 s.1)])::(N+1+1,.cells [.d (.lst (dL l))])::(N+1+1+1,.loop e [36,37] fm fo false none)::T
abbrev anZ (gs:List (List ao)) (g N:Nat):ar:=[(5,.ptr 0 0),(6,.ptr 1 0),(7,.ptr 3 0),(8,.ptr N 0),(10,.ptr (N+1) 0),(27,.d (.lst (aC gs))),(28,.d (.int .i64 gs.length)),(29,.d (.int .i64 g)),(35,.fn dR [] [.ptr (N+1+1) 0])]
theorem aDG {ss:List (List Int)}{g N:Nat}{l:List ao}{e:ar}(hN:4≤N):Tl (hpK ss g N l e) (N+1+1+1+1):=by
 constructor
 ·intro s K o h;simp (disch:=omega) [↓if_neg]
 ·intro s K o o' h;simp (disch:=omega) [↓if_neg]
 ·intro s K o h;simp (disch:=omega) [↓if_neg]
 ·intro s K o h;simp (disch:=omega) [↓if_neg]
def noH (z:Empty) (_:ac):ac:=nomatch z
theorem apm {L:Nat}:Tl noH L:=by constructor<;>(grind)
structure LK (F:Obj→Int→Int→Int→ac) (ss:List (List Int)) (g:Int) (L N:Nat):Prop where
 gl:∀ q m w z,get (F q m w z) L=some q
 pl:∀ q m w z q',put (F q m w z) L q'=F q' m w z
 g0:∀ q m w z,get (F q m w z) 0=some (.cells [.d (.lst (bq ss))])
 g2:∀ q m w z,get (F q m w z) 2=some (.cells [.d (.int .i64 w),.d (.int .i64 z)])
 p2:∀ q m w z w' z',put (F q m w z) 2 (.cells [.d (.int .i64 w'),.d (.int .i64 z')])=F q m w' z'
 g3:∀ q m w z,get (F q m w z) 3=some (.cells [.ptr 2 0])
 gN:∀ q m w z,get (F q m w z) N=some (.cells [.d (.int .i64 g)])
 gM:∀ q m w z,get (F q m w z) (N+1)=some (.cells [.d (.int .i64 m)])
 pM:∀ q m w z m',put (F q m w z) (N+1) (.cells [.d (.int .i64 m')])=F q m' w z
theorem aBl {F:Obj→Int→Int→Int→ac}{L:Nat}(ss:List (List Int)) (hss:ss.length≤1000) (gs:List (List ao)) (hgs:gs.length≤1000) (g N:Nat) (H:LK F ss g L N) (t:List Int) (ht:t.length≤100000) (hg:(bq ss)[g]?=some [.lst (ai t)]) (a:Nat) (k:Int) (w z:Int) (M:Nat) (n:Int) (r:List Int) (hd:t.drop a=n::r) (h0:k=0→n=0) (h1:k≠0→ib k n w z) (hk:0≤k∧k≤13) (hw:mS w) (hz:mS z) :
  bf (Dn prog) (.yield L) [.d (.int .i64 (a:Int)),.d (.int .i64 k)] ⟨F (.loop (anZ gs g N) [36,37] fm fo false none) a w z,M⟩=some (.d (.bool true),⟨F (.loop (anZ gs g N) [36,37] fm fo false none) (a+1) (fP k n w z).1 (fP k n w z).2,M⟩):=by
 have ha:=aU hd;have hn:=py hd;have gl:g<ss.length:=by
  obtain⟨h,_⟩:=List.getElem?_eq_some_iff.1 hg;simpa using h
 have T:=fun q m=>HX (hp:=fun w z=>F q m w z) (A:=2) ⟨fun s z=>H.g2 q m s z,fun s z s' z'=>H.p2 q m s z s' z'⟩ k n w z M
 by_cases k0:k=0
 ·have:=h0 k0;subst k0 this;simp (disch:=omega) [fm,fo,↓if_pos,↓if_neg,hg,hn,H.gl,H.pl,H.g0,H.gN,H.gM,H.pM,fP]
 ·have hT:=h1 k0;have hn5:=Xe hT;have T:=fun q m=>T q m (by omega) (by omega) (by omega)
  simp only[if_pos hT]at T;have e:(fP k n w z)=if k=13 then (w,n) else (n,z):=by rw[fP,if_neg k0]
  by_cases k13:k=13
  ·rw[e,if_pos k13];simp (disch:=omega) [fm,fo,↓if_pos,↓if_neg,hg,hn,H.gl,H.pl,H.g0,H.g3,H.gN,H.gM,H.pM,T]
  ·rw[e,if_neg k13];simp (disch:=omega) [fm,fo,↓if_pos,↓if_neg,hg,hn,H.gl,H.pl,H.g0,H.g3,H.gN,H.gM,H.pM,T]
abbrev FK (ss:List (List Int)) (g N:Nat) (l:List ao) (T:ac) (q:Obj) (m w z:Int):ac :=
 (0,.cells [.d (.lst (bq ss))])::(1,.cells [.d (.int .i64 0)])::(2,.cells [.d (.int .i64 w),.d (.int .i64 z)])::(3,.cells [.ptr 2 0])::(N,.cells [.d (.int .i64 g)])::(N+1,.cells [.d (.int .i64 m)])::(N+1+1,.cells [.d (.lst (dL l))])::(N+1+1+1,q)::T
theorem aAz {ss:List (List Int)}{g N:Nat}{l:List ao}{T:ac}(hN:4≤N):LK (FK ss g N l T) ss g (N+1+1+1) N:=by
 constructor<;>intro q m w z<;>(try intro q')<;>(try intro q'')<;>simp (disch:=omega) [↓if_neg]
theorem aBk (ss:List (List Int)) (hss:ss.length≤1000) (gs:List (List ao)) (hgs:gs.length≤1000) (g N:Nat) (hN:4≤N) (t:List Int) (ht:t.length≤100000) (hg:(bq ss)[g]?=some [.lst (ai t)]) (l:List ao) (hl:∀ k∈al l,0≤k∧k≤13) (fin:Int×Int) :
  Rnd (hpK ss g N l (anZ gs g N)) noH (N+1+1+1+1) (N+1+1+1) (al l) (fun a k s=>.inl (a+1,fP k (nth t a) s.2.1 s.2.2)) (fun a s=>s.1=a∧mS s.2.1∧mS s.2.2∧bK ((al l).drop a) (t.drop a) s.2.1 s.2.2=some fin):=by
 intro a k s K o M hk hi hK hM;obtain⟨i1,i2,i3,i4⟩:=hi;obtain⟨n,d1,d2,d3,d4⟩:=afA hk (by rw[i4];simp);have hn:nth t a=n:=by
  grind [aU,kR]
 have hkm:=hl k (by grind);rw[i4]at d4;have hgo:mS (fP k n s.2.1 s.2.2).1∧mS (fP k n s.2.1 s.2.2).2:=by
  grind [fP]
 refine .inl ⟨(a+1,fP k n s.2.1 s.2.2),by simp_all,⟨rfl,hgo.1,hgo.2,d4.symm⟩,?_⟩;obtain⟨m,w,z⟩:=s;subst i1;have:=aBl ss hss gs hgs g N (aAz (ss:=ss) (g:=g) (l:=l) (T:=[(K,o)]) hN) t ht hg m k w z M n _ d1 d2 d3 hkm i2 i3;exact this
theorem HA {l:List ao}{lf:Int}(h:fitsS lf l):∀ k∈al l,0≤k∧k≤13:=by
 induction l generalizing lf with
 | nil=>grind [al]
 | cons s r ih =>
  intro k hk;obtain⟨h1,h2⟩:=h
  grind [al]
abbrev aC7 (ss:List (List Int)) (w z:Int):ac:=[(0,.cells [.d (.lst (bq ss))]),(1,.cells [.d (.int .i64 0)]),(2,.cells [.d (.int .i64 w),.d (.int .i64 z)]),(3,.cells [.ptr 2 0])]
theorem aiO {t:List Int}{a:Nat}{w z:Int}{fin:Int×Int}(h:bK [] (t.drop a) w z=some fin):(w,z)=fin∧t.length≤a:=by
 cases h1:t.drop a<;>simp_all [bK]
theorem Ug:∀ {bks t:List Int}{w z:Int}{fin:Int×Int},bK bks t w z=some fin→bks.length=t.length
 | [],[],_,_,_,_=>rfl
 | [],_::_,_,_,_,h=>absurd h (by simp[bK])
 | _::_,[],_,_,_,h=>absurd h (by simp[bK])
 | k::r,n::t,w,z,fin,h=>by
  have h1:=lV (by rw[h];simp);rw[h]at h1;have:=Ug h1.2.2.symm
  simp_all
theorem ZP (ss:List (List Int)) (hss:ss.length≤1000) (hss2:∀ t∈ss,t.length≤100000) (gs:List (List ao)) (hgs:gs.length≤1000) (m:Int) (hm:m≤1000):∀ (gr:List (List ao)) (sr:List (List Int)) (i N:Nat) (w z:Int),gs.drop i=gr→ss.drop i=sr→cP m gr→(∀ l∈gr,l.length≤1000)→mS w→mS z→jZ gr sr w z≠none→4≤N→
  ∃ M w' z',(Dn prog).code (.loop mr) ⟨[(5,.ptr 0 0),(6,.ptr 1 0),(7,.ptr 3 0),(27,.d (.lst (aC gs))),(28,.d (.int .i64 gs.length)),(29,.d (.int .i64 i))],⟨aC7 ss w z,N⟩⟩ =
  some (.exit 0,⟨[(6,.ptr 1 0)],⟨[(1,.cells [.d (.int .i64 0)]),(2,.cells [.d (.int .i64 w'),.d (.int .i64 z')])],M⟩⟩):=by
 intro gr
 induction gr with
 | nil =>
  intro sr i N w z hd hd2 hf hl hw hz hr hN;have hi:=aK hd;refine⟨N,w,z,?_⟩;rw[aa mr.eq_1];simp (disch:=omega) [↓if_pos,↓if_neg]
 | cons l r ih =>
  intro sr i N w z hd hd2 hf hl hw hz hr hN;have hg:=gw hd;have hlt:=aU hd;have hfl:=hf l (.head _);have hll:=hl l (.head _)
  cases sr with
  | nil=>exact absurd rfl hr
  | cons t s =>
   have hgt:=xP hd2;have htl:=hss2 t (by rw[←List.take_append_drop i ss,hd2];simp);have hlt2:=aU hd2;rw[jZ]at hr
   cases hrow:bK (al l) t w z with
   | none=>simp_all
   | some fin =>
    rw[hrow]at hr;have hlen:=Ug hrow;have hb:=adg (p:=N+1+1) (aDG (ss:=ss) (g:=i) (l:=l) (e:=anZ gs i N) hN) apm l (aBk ss hss gs hgs i N hN t htl hgt l (HA hfl) fin) (fun s=>by simp (disch:=omega) [↓if_neg]) hll (fun q hq=>by have:=(px hfl hm q hq).1;omega) (N+1+1+1+1) (0,w,z) (Nat.le_refl _) ⟨rfl,hw,hz,by simp_all⟩;rcases hb with ⟨⟨m2,w2,z2⟩,M,e1,⟨e2,e3,e4,e5⟩,e6,e7⟩ | ⟨z,_⟩
    ·rw[List.drop_eq_nil_of_le (Nat.le_refl _)]at e5;obtain⟨e8,e9⟩:=aiO e5;subst e8;obtain⟨M2,w3,z3,f⟩:=ih s (i+1) M w2 z2 (aP hd) (aP hd2) (fun q hq=>hf q (.tail _ hq)) (fun q hq=>hl q (.tail _ hq)) e3 e4 hr (by omega);refine⟨M2,w3,z3,?_⟩;have c0:((0:Nat):Int)=0:=rfl;simp only[hpK,c0]at e7;rw[aa mr.eq_1,←f];simp (disch:=omega) [↓if_pos,↓if_neg,hg,hgt,Eh,rd,e7]
    grind
theorem amn (gain m:Int) (g:List (List ao)) (t:List (List Int)) (hgn:0≤gain∧gain≤255) (hl:g.length≤8) (hm:0≤m∧m≤40) (hf:cP m g) (hf2:∀ l∈g,l.length≤1000) (ht:tc gain g t) (ht2:∀ l∈t,l.length≤100000) :
  aO prog zi [.d (.int .i64 gain),.d (.lst (aC g)),.d (.lst (bq t))]=some (.d (.int .i64 0)):=by
 have h1:=afo gain m g hgn hl hm fun l h=>⟨hf l h,hf2 l h⟩
 have hlen:=DD ht;obtain⟨M,w,z,e⟩:=ZP t (by omega) ht2 g (by omega) m (by omega) g t 0 4 gain (-1) rfl rfl hf hf2 (by omega) (by omega) ht (Nat.le_refl _);have c0:((0:Nat):Int)=0:=rfl;rw[c0]at e;rw[aq ago z5.eq_1 rfl];simp (disch:=omega) [↓if_pos,↓if_neg,h1,e]
def ji (b:List Nat):List (List ao)→Int→Int→Int→R (List (List Int))
 | [],a,_,_=>.ok [] a.toNat
 | l::r,a,w,z=>(jV b (al l) a w z).bind fun q n=>(ji b r n q.2.1 q.2.2).bind fun t n=>.ok (q.1::t) n
abbrev pSc (b:List Nat) (g:List (List ao)) (t:List (List Int)) (n:Nat):Prop:=t.map List.length=g.map (fun l=>(al l).length)∧n≤b.length
theorem SJ {b:List Nat}:∀ {g:List (List ao)}{a:Nat}{w z:Int}{t:List (List Int)}{n:Nat},a≤b.length→inW w→inW z→ji b g a w z=.ok t n→pSc b g t n
 | [],a,w,z,t,n,ha,hw,hz,h=>by
  rw[ji]at h;injection h with g1 g2
  subst g1 g2;exact⟨rfl,by simpa using ha⟩
 | l::r,a,w,z,t,n,ha,hw,hz,h=>by
  rw[ji]at h
  cases h1:jV b (al l) a w z with
  | er e=>rw[h1]at h;exact absurd h (by simp)
  | ok q m =>
   rw[h1,ak]at h;have hp:=LO ha hw hz h1
   cases h2:ji b r m q.2.1 q.2.2 with
   | er e=>rw[h2]at h;exact absurd h (by simp)
   | ok t1 m1 =>
    rw[h2,ak]at h;have hq:=SJ hp.2.2 hp.2.1.1 hp.2.1.2 h2;injection h with g1 g2
    subst g1 g2;exact⟨by simp only[List.map_cons,hq.1,hp.1],hq.2⟩
theorem ati {t:List (List Int)}{l:List Int}:bq (t++[l])=bq t++[[.lst (ai l)]]:=by simp[bq]
theorem aoL {l:List ao}(hl:l.length≤1000) (hs:∀ s∈l,0≤s.len∧s.len≤1000):(al l).length≤1000*l.length:=by
 induction l with
 | nil=>simp[al]
 | cons s r ih =>
  have h1:=hs s (.head _);have h2:=ih (by simp at hl;omega) fun q hq=>hs q (.tail _ hq)
  simp only[al,List.flatMap_cons,List.length_append,List.length_replicate,List.length_cons]at h2⊢;omega
abbrev ah6 (l:List ao):Prop:=l.length≤1000∧∀ s∈l,0≤s.len∧s.len≤1000
def qt (b:List Nat) (g:List (List ao)) (a gain:Int):R (List (List Int)):=if 0≤a∧a≤b.length then ji b g a gain (-1) else .er 1
structure SG where
 row:List Int
 nx:Nat
 w:Int
 z:Int
theorem tT {A0 A1 A2 A3:Obj}{R:ac}(book n s z:Int) (N:Nat) (hn:-100000≤n∧n≤100000) (hs:-100000≤s∧s≤100000) (hz:-100000≤z∧z≤100000) :
  (Dn prog).call fw [.ptr 4 0,.d (.int .i64 book),.d (.int .i64 n)] ⟨(0,A0)::(1,A1)::(2,A2)::(3,A3)::(4,.cells [.d (.int .i64 s),.d (.int .i64 z)])::R,N⟩ =
   if ib book n s z then some (.d (.bool true),⟨if book=13 then (0,A0)::(1,A1)::(2,A2)::(3,A3)::(4,.cells [.d (.int .i64 s),.d (.int .i64 n)])::R else (0,A0)::(1,A1)::(2,A2)::(3,A3)::(4,.cells [.d (.int .i64 n),.d (.int .i64 z)])::R,N⟩) else some (.d (.bool false),⟨(0,A0)::(1,A1)::(2,A2)::(3,A3)::(4,.cells [.d (.int .i64 s),.d (.int .i64 z)])::R,N⟩) :=
 HX (hp:=fun s z=>(0,A0)::(1,A1)::(2,A2)::(3,A3)::(4,.cells [.d (.int .i64 s),.d (.int .i64 z)])::R) (A:=4) ⟨fun s z=>by simp,fun s z s' z'=>by simp⟩ book n s z N hn hs hz
section
variable (b:List Nat) (full:List (List ao)) (ss:List (List Int)) (l:List ao) (i N:Nat)
abbrev aib:ar:=[(4,.ptr 0 0),(8,.ptr 1 0),(9,.ptr 2 0),(10,.ptr 3 0),(11,.ptr 5 0),(14,.ptr N 0),(35,.d (.lst (aC full))),(36,.d (.int .i64 full.length)),(37,.d (.int .i64 i)),(42,.fn dR [] [.ptr (N+1) 0])]
abbrev FG (q:Bool) (p:Option aZ) (x1 x2 x3:AV) (row:List Int) (w z:Int) (T:ac):ac :=
 (0,.cells [.d (.lst (af b))])::(1,.cells [x1])::(2,.cells [x2])::(3,.cells [x3])::(4,.cells [.d (.int .i64 w),.d (.int .i64 z)])::(5,.cells [.ptr 4 0])::(N,.cells [ax 1 (ai row)])::(N+1,.cells [.d (.lst (dL l))])::(N+1+1,.loop (aib full i N) [43,44] cR cQ q p)::T
abbrev hpG (s:SG) (T:ac):ac:=FG b full l i N false none (ax 1 (bq ss)) (.d (.int .i64 s.nx)) (.d (.int .i64 0)) s.row s.w s.z T
abbrev hqG (s:Nat×SG) (T:ac):ac:=FG b full l i N false (some .ret) .nl (.d (.int .i64 0)) (.d (.int .i64 ((s.1:Int)+1))) s.2.row s.2.w s.2.z T
end
def Ih (b:List Nat) (k:Int) (s:SG):Sum SG (Nat×SG) :=
 if k=13 then (match gy b s.nx 13 s.z with
  | .ok v n=>.inl ⟨s.row++[v],n,s.w,v⟩
  | .er e=>.inr (e,s))
 else if 0<k then (match gy b s.nx k s.w with
  | .ok v n=>.inl ⟨s.row++[v],n,v,s.z⟩
  | .er e=>.inr (e,s))
 else .inl ⟨s.row++[0],s.nx,s.w,s.z⟩
def aot (b:List Nat) (a:Nat) (s:SG):Prop:=s.nx≤b.length∧(0≤s.w∧s.w≤511)∧inW s.z∧s.row.length=a∧a≤1000000
theorem aA3 (b:List Nat) (hb:b.length≤1000000000) (full:List (List ao)) (ss:List (List Int)) (l:List ao) (i N:Nat) (hN:6≤N) (a:Nat) (k:Int) (hk:0≤k∧k≤13) (s:SG) (hs:aot b a s) (K M:Nat) (o:Obj) (hK:N+1+1+1≤K) :
  bf (Dn prog) (.yield (N+1+1)) [.d (.int .i64 (a:Int)),.d (.int .i64 k)] ⟨hpG b full ss l i N s [(K,o)],M⟩ =
  match Ih b k s with
  | .inl s2=>some (.d (.bool true),⟨hpG b full ss l i N s2 [(K,o)],M⟩)
  | .inr z=>some (.d (.bool false),⟨hqG b full l i N z [(K,o)],M⟩):=by
 obtain⟨h1,h2,h3,h4,h5⟩:=hs;obtain⟨n0,n1,n2,n3,n4⟩:(N≠0∧N≠1∧N≠2∧N≠3∧N≠4∧N≠5)∧(N+1≠0∧N+1≠1∧N+1≠2∧N+1≠3∧N+1≠4∧N+1≠5)∧(N+1+1≠0∧N+1+1≠1∧N+1+1≠2∧N+1+1≠3∧N+1+1≠4∧N+1+1≠5)∧N+1+1≠N∧N+1+1≠N+1:=by omega
 have hrl:=fE (l:=s.row);have eo:∀ v,AV.own false 1 (ai (s.row++[v]))=ax 1 (ai (s.row++[v])):=fun v=>by rw[X8];exact lY.symm
 have hS:=alf b s.nx hb (by omega);have hG:=ez b s.nx 9 hb (by omega);have hz0:=h3.1;have hz1:=h3.2;rw[Ih];by_cases e1:k=13
 ·subst e1;rw[if_pos rfl];by_cases hz:s.z<0
  ·cases hg:aQ b s.nx 9 with
   | ok v n =>
    have hp:=cZ hg;have hv:v<512:=hp.1;have hn:=hp.2;rw[hg,cG hp]at hG;have ho:gy b s.nx 13 s.z=.ok (v:Int) n:=by rw[gy,if_pos hz,hg,ak]
    have hT:ib 13 v s.w s.z:=by rw[ib,if_pos rfl];omega
    rw[ho];simp (maxSteps:=300000) (disch:=omega) [cR,cQ,↓if_pos,↓if_neg,n0,n1,n2,n3,n4,tT,hG,if_pos hT];exact eo _
   | er e =>
    rw[hg,fc]at hG;have ho:gy b s.nx 13 s.z=.er e:=by rw[gy,if_pos hz,hg,cX]
    rw[ho];simp (maxSteps:=300000) (disch:=omega) [cR,cQ,↓if_pos,↓if_neg,n0,n1,n2,n3,n4,tT,hG]
  ·cases hg:Cq b s.nx with
   | ok d n =>
    have hp:=aaE hg;have hd:=hp.1;have hn:=hp.2;rw[hg,cG hp]at hS;by_cases hr:s.z+d<0∨lG 13<s.z+d
    ·have ho:gy b s.nx 13 s.z=.er 7:=by rw[gy,if_neg hz,hg,ak,if_pos hr]
     have hT:¬ ib 13 (d+s.z) s.w s.z:=by rw[ib,if_pos rfl];simp only[lG,if_pos]at hr;omega
     rw[ho];simp (maxSteps:=300000) (disch:=omega) [cR,cQ,↓if_pos,↓if_neg,n0,n1,n2,n3,n4,tT,hS,if_neg hT]
    ·have ho:gy b s.nx 13 s.z=.ok (s.z+d) n:=by rw[gy,if_neg hz,hg,ak,if_neg hr]
     have hT:ib 13 (d+s.z) s.w s.z:=by rw[ib,if_pos rfl];simp only[lG,if_pos]at hr;omega
     rw[ho,Int.add_comm];simp (maxSteps:=300000) (disch:=omega) [cR,cQ,↓if_pos,↓if_neg,n0,n1,n2,n3,n4,tT,hS,if_pos hT];exact eo _
   | er e =>
    rw[hg,fc]at hS;have ho:gy b s.nx 13 s.z=.er e:=by rw[gy,if_neg hz,hg,cX]
    rw[ho];simp (maxSteps:=300000) (disch:=omega) [cR,cQ,↓if_pos,↓if_neg,n0,n1,n2,n3,n4,tT,hS]
 ·rw[if_neg e1];by_cases e2:0<k
  ·rw[if_pos e2];have hw:¬ s.w<0:=by omega
   cases hg:Cq b s.nx with
   | ok d n =>
    have hp:=aaE hg;have hd:=hp.1;have hn:=hp.2;rw[hg,cG hp]at hS;by_cases hr:s.w+d<0∨lG k<s.w+d
    ·have ho:gy b s.nx k s.w=.er 7:=by rw[gy,if_neg hw,hg,ak,if_pos hr]
     have hT:¬ ib k (d+s.w) s.w s.z:=by rw[ib,if_neg e1];simp only[lG,if_neg e1]at hr;omega
     rw[ho];simp (maxSteps:=300000) (disch:=omega) [cR,cQ,↓if_pos,↓if_neg,n0,n1,n2,n3,n4,tT,hS,if_neg hT,e1]
    ·have ho:gy b s.nx k s.w=.ok (s.w+d) n:=by rw[gy,if_neg hw,hg,ak,if_neg hr]
     have hT:ib k (d+s.w) s.w s.z:=by rw[ib,if_neg e1];simp only[lG,if_neg e1]at hr;omega
     rw[ho,Int.add_comm];simp (maxSteps:=300000) (disch:=omega) [cR,cQ,↓if_pos,↓if_neg,n0,n1,n2,n3,n4,tT,hS,if_pos hT,e1];exact eo _
   | er e =>
    rw[hg,fc]at hS;have ho:gy b s.nx k s.w=.er e:=by rw[gy,if_neg hw,hg,cX]
    rw[ho];simp (maxSteps:=300000) (disch:=omega) [cR,cQ,↓if_pos,↓if_neg,n0,n1,n2,n3,n4,tT,hS,e1]
  ·rw[if_neg e2];have:k=0:=by omega
   subst this;simp (maxSteps:=300000) (disch:=omega) [cR,cQ,↓if_pos,↓if_neg,n0,n1,n2,n3,n4,tT,e1];exact eo _
theorem av0 {b:List Nat}{a:Nat}{k:Int}{s s2:SG}(hs:aot b a s) (ha:a<1000000) (h:Ih b k s=.inl s2):aot b (a+1) s2:=by
 obtain⟨h1,h2,h3,h4,h5⟩:=hs;have h3':=h3;rw[Ih]at h;split at h
 ·split at h
  ·rename_i v n ho;have hp:=XU ho;obtain⟨⟨hv1,hv2⟩,hn⟩:=hp;injection h with h;subst h
   exact⟨hn,h2,⟨by simp only[];omega,hv2⟩,by simp[h4],by omega⟩
  ·exact nomatch h
 ·split at h
  ·split at h
   ·rename_i v n ho;have hp:=XU ho;obtain⟨⟨hv1,hv2⟩,hn⟩:=hp;injection h with h;subst h
    exact⟨hn,⟨hv1,hv2⟩,h3,by simp[h4],by omega⟩
   ·exact nomatch h
  ·injection h with h;subst h
   exact⟨h1,h2,h3,by simp[h4],by omega⟩
theorem Nk {b:List Nat}:∀ {r:List Int}{a:Nat}{s:SG},(∀ q n,jV b r s.nx s.w s.z=.ok q n→nJ (fun _ k s=>Ih b k s) r a s=.inl ⟨s.row++q.1,n,q.2.1,q.2.2⟩)∧(∀ e,jV b r s.nx s.w s.z=.er e→∃ z,nJ (fun _ k s=>Ih b k s) r a s=.inr (e,z))
 | [],a,s=>⟨fun q n h=>by
   rw[jV]at h;injection h with g1 g2
   subst g1 g2;rw[nJ];simp,fun e h=>by rw[jV]at h;exact absurd h (by simp)⟩
 | k::r,a,s=>by
  rw[jV,nJ,Ih];by_cases e1:k=13
  ·rw[if_pos e1,if_pos e1]
   cases ho:gy b s.nx 13 s.z with
   | er e=>exact⟨fun q n h=>by rw[cX]at h;exact absurd h (by simp),fun e' h=>by rw[cX]at h;injection h with h;subst h;exact⟨s,rfl⟩⟩
   | ok v n =>
    simp only[ak];have ih:=Nk (b:=b) (r:=r) (a:=a+1) (s:=⟨s.row++[v],n,s.w,v⟩)
    cases hr:jV b r n s.w v with
    | er e=>exact⟨fun q n h=>by rw[cX]at h;exact absurd h (by simp),fun e' h=>by rw[cX]at h;injection h with h;subst h;exact ih.2 e hr⟩
    | ok q m =>
     refine⟨fun q' n' h=>?_,fun e h=>by rw[ak]at h;exact absurd h (by simp)⟩;rw[ak]at h;injection h with g1 g2
     subst g1 g2;rw[ih.1 q m hr];simp
  ·rw[if_neg e1,if_neg e1];by_cases e2:0<k
   ·rw[if_pos e2,if_pos e2]
    cases ho:gy b s.nx k s.w with
    | er e=>exact⟨fun q n h=>by rw[cX]at h;exact absurd h (by simp),fun e' h=>by rw[cX]at h;injection h with h;subst h;exact⟨s,rfl⟩⟩
    | ok v n =>
     simp only[ak];have ih:=Nk (b:=b) (r:=r) (a:=a+1) (s:=⟨s.row++[v],n,v,s.z⟩)
     cases hr:jV b r n v s.z with
     | er e=>exact⟨fun q n h=>by rw[cX]at h;exact absurd h (by simp),fun e' h=>by rw[cX]at h;injection h with h;subst h;exact ih.2 e hr⟩
     | ok q m =>
      refine⟨fun q' n' h=>?_,fun e h=>by rw[ak]at h;exact absurd h (by simp)⟩;rw[ak]at h;injection h with g1 g2
      subst g1 g2;rw[ih.1 q m hr];simp
   ·rw[if_neg e2,if_neg e2];have ih:=Nk (b:=b) (r:=r) (a:=a+1) (s:=⟨s.row++[0],s.nx,s.w,s.z⟩)
    cases hr:jV b r s.nx s.w s.z with
    | er e=>exact⟨fun q n h=>by rw[cX]at h;exact absurd h (by simp),fun e' h=>by rw[cX]at h;injection h with h;subst h;exact ih.2 e hr⟩
    | ok q m =>
     refine⟨fun q' n' h=>?_,fun e h=>by rw[ak]at h;exact absurd h (by simp)⟩;rw[ak]at h;injection h with g1 g2
     subst g1 g2;simp only;rw[ih.1 q m hr];simp
theorem aye (b:List Nat) (hb:b.length≤1000000000) (full:List (List ao)) (ss:List (List Int)) (l:List ao) (i N:Nat) (hN:6≤N) (hk:∀ k∈al l,0≤k∧k≤13) (hl:(al l).length≤1000000) :
  Rnd (hpG b full ss l i N) (hqG b full l i N) (N+1+1+1) (N+1+1) (al l) (fun _ k s=>Ih b k s) (aot b):=by
 intro a k s K o M hak hi hK hKM;have hal:a<(al l).length:=(List.getElem?_eq_some_iff.1 hak).1;have h:=aA3 b hb full ss l i N hN a k (hk k (List.mem_of_getElem? hak)) s hi K M o hK
 cases hg:Ih b k s with
 | inl s2 =>
  rw[hg]at h;exact .inl ⟨s2,hg,av0 hi (by omega) hg,h⟩
 | inr z =>
  rw[hg]at h;exact .inr ⟨z,hg,h⟩
theorem aAU {b:List Nat}{full:List (List ao)}{ss:List (List Int)}{l:List ao}{i N:Nat}(hN:6≤N):Tl (hpG b full ss l i N) (N+1+1+1):=by
 obtain⟨n0,n1,n2,n3,n4⟩:(N≠0∧N≠1∧N≠2∧N≠3∧N≠4∧N≠5)∧(N+1≠0∧N+1≠1∧N+1≠2∧N+1≠3∧N+1≠4∧N+1≠5)∧(N+1+1≠0∧N+1+1≠1∧N+1+1≠2∧N+1+1≠3∧N+1+1≠4∧N+1+1≠5)∧N+1+1≠N∧N+1+1≠N+1:=by omega
 constructor
 ·intro s K o h;simp (maxSteps:=300000) (disch:=omega) [↓if_neg]
 ·intro s K o o' h;simp (maxSteps:=300000) (disch:=omega) [↓if_neg]
 ·intro s K o h;simp (maxSteps:=300000) (disch:=omega) [↓if_neg]
 ·intro s K o h;simp (maxSteps:=300000) (disch:=omega) [↓if_neg]
theorem aBd {b:List Nat}{full:List (List ao)}{l:List ao}{i N:Nat}(hN:6≤N):Tl (hqG b full l i N) (N+1+1+1):=by
 obtain⟨n0,n1,n2,n3,n4⟩:(N≠0∧N≠1∧N≠2∧N≠3∧N≠4∧N≠5)∧(N+1≠0∧N+1≠1∧N+1≠2∧N+1≠3∧N+1≠4∧N+1≠5)∧(N+1+1≠0∧N+1+1≠1∧N+1+1≠2∧N+1+1≠3∧N+1+1≠4∧N+1+1≠5)∧N+1+1≠N∧N+1+1≠N+1:=by omega
 constructor
 ·intro s K o h;simp (maxSteps:=300000) (disch:=omega) [↓if_neg]
 ·intro s K o o' h;simp (maxSteps:=300000) (disch:=omega) [↓if_neg]
 ·intro s K o h;simp (maxSteps:=300000) (disch:=omega) [↓if_neg]
 ·intro s K o h;simp (maxSteps:=300000) (disch:=omega) [↓if_neg]
theorem LC (x:D) (A0 A1 A2 A3 A4 A5 A6:Obj) (N:Nat) (hN:6≤N):(Dn prog).call kl [.d x] ⟨[(0,A0),(1,A1),(2,A2),(3,A3),(4,A4),(5,A5),(N,A6)],N+1⟩=some (.fn dR [] [.ptr (N+1) 0],⟨[(0,A0),(1,A1),(2,A2),(3,A3),(4,A4),(5,A5),(N,A6),(N+1,.cells [.d x])],N+1+1⟩):=by
 rw[Eh];simp (maxSteps:=300000) (disch:=omega) [↓if_neg]
def apj (l:List ao):Prop:=∀ k∈al l,0≤k∧k≤13
abbrev hpL (b:List Nat) (ss:List (List Int)) (nx:Nat) (w z:Int):ac:=[(0,.cells [.d (.lst (af b))]),(1,.cells [ax 1 (bq ss)]),(2,.cells [.d (.int .i64 nx)]),(3,.cells [.d (.int .i64 0)]),(4,.cells [.d (.int .i64 w),.d (.int .i64 z)]),(5,.cells [.ptr 4 0])]
theorem ajR (b:List Nat) (hb:b.length≤1000000000) (full:List (List ao)) (hfl:full.length≤1000):∀ (g:List (List ao)) (i N:Nat) (ss:List (List Int)) (nx:Nat) (w z:Int),full.drop i=g→(∀ l∈g,ah6 l∧apj l)→nx≤b.length→(0≤w∧w≤511)→inW z→ss.length≤i→6≤N→
  (∀ t n,ji b g nx w z=.ok t n→∃ M A4,(Dn prog).code (.loop fD) ⟨[(4,.ptr 0 0),(8,.ptr 1 0),(9,.ptr 2 0),(10,.ptr 3 0),(11,.ptr 5 0),(35,.d (.lst (aC full))),(36,.d (.int .i64 full.length)),(37,.d (.int .i64 i))],⟨hpL b ss nx w z,N⟩⟩ =
   some (.exit 0,⟨[(8,.ptr 1 0),(9,.ptr 2 0),(10,.ptr 3 0)],⟨[(1,.cells [ax 1 (bq (ss++t))]),(2,.cells [.d (.int .i64 n)]),(3,.cells [.d (.int .i64 0)]),(4,A4)],M⟩⟩))∧
  (∀ e,ji b g nx w z=.er e→∃ M I K T,(Dn prog).code (.loop fD) ⟨[(4,.ptr 0 0),(8,.ptr 1 0),(9,.ptr 2 0),(10,.ptr 3 0),(11,.ptr 5 0),(35,.d (.lst (aC full))),(36,.d (.int .i64 full.length)),(37,.d (.int .i64 i))],⟨hpL b ss nx w z,N⟩⟩ =
   some (.ret,⟨aib full I K,⟨(0,.cells [.d (.lst (af b))])::(1,.cells [.nl])::(2,.cells [.d (.int .i64 0)])::(3,.cells [.d (.int .i64 ((e:Int)+1))])::T,M⟩⟩)):=by
 intro g
 induction g with
 | nil =>
  intro i N ss nx w z hd hok hnx hw hz hss hN;have hk:=aK hd;refine⟨fun t n h=>?_,fun e h=>by rw[ji]at h;exact absurd h (by simp)⟩;rw[ji]at h;injection h with g1 g2
  subst g1 g2;refine⟨N,.cells [.d (.int .i64 w),.d (.int .i64 z)],?_⟩;rw[aa fD.eq_1];simp (maxSteps:=300000) (disch:=omega) [↓if_pos,↓if_neg]
 | cons l r ih =>
  intro i N ss nx w z hd hok hnx hw hz hss hN;have hlt:=aU hd;have hg:=gw hd;obtain⟨hl,hbk⟩:=hok l (.head _);have hbl:=aoL hl.1 hl.2;have hsl:=aq8 (t:=ss);obtain⟨n0,n1,n2,n3,n4⟩:(N≠0∧N≠1∧N≠2∧N≠3∧N≠4∧N≠5)∧(N+1≠0∧N+1≠1∧N+1≠2∧N+1≠3∧N+1≠4∧N+1≠5)∧(N+1+1≠0∧N+1+1≠1∧N+1+1≠2∧N+1+1≠3∧N+1+1≠4∧N+1+1≠5)∧N+1+1≠N∧N+1+1≠N+1:=by omega
  have hB:=adg (p:=N+1) (aAU (b:=b) (full:=full) (ss:=ss) (l:=l) (i:=i) hN) (aBd (b:=b) (full:=full) (l:=l) (i:=i) hN) l (aye b hb full ss l i N hN hbk (by omega)) (fun s=>by simp (maxSteps:=300000) (disch:=omega) [↓if_neg,↓if_pos]) (by omega) hl.2 (N+1+1+1) ⟨[],nx,w,z⟩ (Nat.le_refl _) ⟨hnx,hw,hz,rfl,by omega⟩;have hrow:=Nk (b:=b) (r:=al l) (a:=0) (s:=⟨[],nx,w,z⟩);have n00:ai []=[]:=rfl;have c1:((i+1:Nat):Int)=(i:Int)+1:=rfl;rw[ji]
  cases hr:jV b (al l) nx w z with
  | er e =>
   obtain⟨zz,hz2⟩:=hrow.2 e hr;rw[hz2]at hB;refine⟨fun t n h=>by rw[cX]at h;exact absurd h (by simp),fun e' h=>?_⟩;rw[cX]at h;injection h with h
   subst h;rcases hB with ⟨s2,M,e1,_⟩ | ⟨q,M,e1,e2,e3⟩
   ·exact nomatch e1
   ·injection e1 with e1
    subst e1;simp only[hpG,hqG,FG,n00,kL,aib]at e3;refine⟨M,i,N,[(4,.cells [.d (.int .i64 zz.w),.d (.int .i64 zz.z)]),(5,.cells [.ptr 4 0]),(N,.cells [ax 1 (ai zz.row)]),(N+1,.cells [.d (.lst (dL l))])],?_⟩;rw[aa fD.eq_1];simp (maxSteps:=300000) (disch:=omega) [↓if_pos,↓if_neg,hg,n0,n1,n2,n3,n4,LC,rd,e3]
  | ok q m =>
   have hp:=LO hnx ⟨by omega,by omega⟩ hz hr;obtain⟨p1,⟨p2,p3⟩,p4⟩:=hp;have hz2:=hrow.1 q m hr;rw[hz2]at hB;rcases hB with ⟨s2,M,e1,ei,e2,e3⟩ | ⟨q,M,e1,_⟩
   rotate_left
   ·exact nomatch e1
   injection e1 with e1
   subst e1;obtain⟨_,hw2,hz3,_⟩:=ei;simp only[List.nil_append]at e3 hw2 hz3;have h5:=ih (i+1) M (ss++[q.1]) m q.2.1 q.2.2 (aP hd) (fun x hx=>hok x (.tail _ hx)) p4 hw2 hz3 (by simp;omega) (by omega);rw[c1]at h5;simp only[ak];have step:(Dn prog).code (.loop fD) ⟨[(4,.ptr 0 0),(8,.ptr 1 0),(9,.ptr 2 0),(10,.ptr 3 0),(11,.ptr 5 0),(35,.d (.lst (aC full))),(36,.d (.int .i64 full.length)),(37,.d (.int .i64 i))],⟨hpL b ss nx w z,N⟩⟩ =
     (Dn prog).code (.loop fD) ⟨[(4,.ptr 0 0),(8,.ptr 1 0),(9,.ptr 2 0),(10,.ptr 3 0),(11,.ptr 5 0),(35,.d (.lst (aC full))),(36,.d (.int .i64 full.length)),(37,.d (.int .i64 ((i:Int)+1)))],⟨hpL b (ss++[q.1]) m q.2.1 q.2.2,M⟩⟩:=by
    simp only[hpG,hqG,FG,n00,kL,aib]at e3;simp only[hpL,ati,lY];rw[aa fD.eq_1];simp (maxSteps:=300000) (disch:=omega) [↓if_pos,↓if_neg,hg,n0,n1,n2,n3,n4,LC,rd,e3]
   rw[step]
   cases hs:ji b r m q.2.1 q.2.2 with
   | er e =>
    refine⟨fun t n h=>by rw[cX]at h;exact absurd h (by simp),fun e' h=>?_⟩;rw[cX]at h;injection h with h
    subst h;exact h5.2 e hs
   | ok t0 m0 =>
    refine⟨fun t n h=>?_,fun e h=>by rw[ak]at h;exact absurd h (by simp)⟩;rw[ak]at h;injection h with g1 g2
    subst g1 g2;obtain⟨M2,A4,f⟩:=h5.1 t0 m0 hs;refine⟨M2,A4,?_⟩;rw[f,List.append_assoc];rfl
theorem ajk {m:Nat}{xs:List (List D)}:share (share (ax m xs))=share (ax m xs):=by cases xs<;>rfl
theorem am5 {m:Nat}{xs:List (List D)}:firm (share (ax m xs))=share (ax m xs):=by cases xs<;>rfl
theorem ajW {m:Nat}{xs:List (List D)}:AV.cells (share (ax m xs))=[share (ax m xs)]:=by cases xs<;>rfl
theorem anJ {m:Nat}{xs:List (List D)}:bM (share (ax m xs))=true:=by cases xs<;>rfl
theorem asi {h:ac}{m:Nat}{xs:List (List D)}{a b:Int}:eZ h (.tup [share (ax m xs),.d (.int .i64 a),.d (.int .i64 b)])=some (.tup [share (ax m xs),.d (.int .i64 a),.d (.int .i64 b)]):=by cases xs<;>rfl
theorem arB (b:List Nat) (hb:b.length≤1000000000) (a gain m:Int) (ha:i64 a) (hg:0≤gain∧gain≤255) (g:List (List ao)) (hl:g.length≤8) (hm:0≤m∧m≤40) (hf:cP m g) (hf2:∀ l∈g,l.length≤1000) (hok:∀ l∈g,ah6 l∧apj l):aO prog EV [.d (.lst (af b)),.d (.int .i64 a),.d (.int .i64 gain),.d (.lst (aC g))] =
  rK (pSc b g) (qt b g a gain) (fun t n=>some (.tup [share (ax 1 (bq t)),.d (.int .i64 n),.d (.int .i64 0)])) (fun e=>some (.tup [.nl,.d (.int .i64 0),.d (.int .i64 (e+1))])):=by
 have hmay:=afo gain m g hg hl hm fun l h=>⟨hf l h,hf2 l h⟩
 have hG:=ez b a 0 hb ha;have e0:∀ a,aQ b a 0=if 0≤a∧a≤b.length then .ok 0 a.toNat else .er 1:=by
  intro a;by_cases h:0≤a∧a≤b.length
  ·rw[if_pos h,aQ];simp[h,bin,val]
  ·rw[if_neg h,aQ];simp[h]
 rw[aq alo EP.eq_1 rfl,qt];by_cases h1:0≤a∧a≤b.length
 ·obtain⟨A,rfl⟩:=Int.eq_ofNat_of_zero_le h1.1;rw[if_pos h1];rw[e0,if_pos h1,cG ⟨by decide,by omega⟩]at hG;have hL:=ajR b hb g (by omega) g 0 6 [] A gain (-1) rfl hok (by omega) ⟨hg.1,by omega⟩ ⟨by omega,by omega⟩ (Nat.le_refl _) (Nat.le_refl _);have c0:((0:Nat):Int)=0:=rfl;have n0:bq []=[]:=rfl;simp only[c0,n0,kL,hpL,List.nil_append]at hL;simp only[Int.toNat_natCast]at hG
  cases hs:ji b g A gain (-1) with
  | ok t n =>
   have hp:=SJ (by omega) ⟨by omega,by omega⟩ ⟨by omega,by omega⟩ hs;obtain⟨M,A4,f⟩:=hL.1 t n hs;rw[cG hp];simp (maxSteps:=300000) (disch:=omega) [↓if_pos,↓if_neg,hmay,hG,f,-Xd,asi,-bM,am5,ajW,anJ,ajk]
  | er e =>
   obtain⟨M,I,K,T,f⟩:=hL.2 e hs;rw[fc];simp (maxSteps:=300000) (disch:=omega) [↓if_pos,↓if_neg,hmay,hG,f]
 ·rw[if_neg h1,fc];rw[e0,if_neg h1,fc]at hG;simp (maxSteps:=300000) (disch:=omega) [↓if_pos,↓if_neg,hmay,hG]
def uM (xs:List (List Nat)):List (List D):=xs.map fun l=>[.lst (af l)]
@[simp] theorem aCt {t:List (List Nat)}:(uM t).length=t.length:=by simp[uM]
theorem MK {g:List (List Nat)}{i:Nat}{l:List Nat}{r:List (List Nat)}(h:g.drop i=l::r):(uM g)[i]?=some [.lst (af l)]:=by
 have:=congrArg (fun l=>l[0]?) h;simp only[List.getElem?_drop,List.getElem?_cons_zero,Nat.add_zero]at this;rw[uM,List.getElem?_map,this];rfl
theorem eI {l:List Nat}:(af l).length=l.length:=by simp[af]
theorem aro (xs:List (List Nat)) (hx:xs.length≤1000) (h:ac) (N:Nat):∀ (r:List (List Nat)) (i:Nat) (n:Nat),xs.drop i=r→n+r.flatten.length≤1000000000→
  (Dn prog).code (.loop gb) ⟨[(0,.d (.lst (uM xs))),(3,.d (.int .i64 n)),(9,.d (.lst (uM xs))),(10,.d (.int .i64 xs.length)),(11,.d (.int .i64 i))],⟨h,N⟩⟩ =
  some (.exit 0,⟨[(0,.d (.lst (uM xs))),(3,.d (.int .i64 (n+r.flatten.length:Nat)))],⟨h,N⟩⟩):=by
 intro r
 induction r with
 | nil =>
  intro i n hd hn;have hi:=aK hd;rw[aa gb.eq_1];simp (maxSteps:=300000) (disch:=omega) [↓if_neg]
 | cons l r ih =>
  intro i n hd hn;have hg:=MK hd;have hlt:=aU hd;simp only[List.flatten_cons,List.length_append]at hn⊢;have h5:=ih (i+1) (n+l.length) (aP hd) (by omega);have c1:((i+1:Nat):Int)=(i:Int)+1:=rfl;have c2:((n+l.length:Nat):Int)=(n:Int)+l.length:=rfl;rw[c1,c2,Nat.add_assoc]at h5;rw[aa gb.eq_1,←h5];simp (maxSteps:=300000) (disch:=omega) [↓if_pos,↓if_neg,hg,eI]
theorem aqT (xs:List (List Nat)) (hx:xs.length≤1000) (h:ac) (N:Nat):∀ (r:List (List Nat)) (i:Nat) (acc:List Nat),xs.drop i=r→acc.length+r.flatten.length≤1000000000→
  (Dn prog).code (.loop dY) ⟨[(6,.own false 1 (af acc)),(25,.d (.lst (uM xs))),(26,.d (.int .i64 xs.length)),(27,.d (.int .i64 i))],⟨h,N⟩⟩ =
  some (.exit 2,⟨[(6,.own false 1 (af (acc++r.flatten)))],⟨h,N⟩⟩):=by
 intro r
 induction r with
 | nil =>
  intro i acc hd hn;have hi:=aK hd;rw[aa dY.eq_1];simp (maxSteps:=300000) (disch:=omega) [↓if_neg]
 | cons l r ih =>
  intro i acc hd hn;have hg:=MK hd;have hlt:=aU hd;simp only[List.flatten_cons,List.length_append]at hn⊢;have h5:=ih (i+1) (acc++l) (aP hd) (by simp only[List.length_append];omega);have c1:((i+1:Nat):Int)=(i:Int)+1:=rfl;rw[c1,List.append_assoc]at h5;rw[aa dY.eq_1,←h5];simp (maxSteps:=300000) (disch:=omega) [↓if_pos,↓if_neg,hg,eI]
theorem awU (n:Nat) (hn:0<n∧n≤1000000000):(Dn prog).call nH [.nl,.d (.int .i64 n)] ⟨[],0⟩=some (.sl 0 0 0,⟨[(0,.arr 1 (List.replicate n [.int .u8 0]))],1⟩):=by
 have e1:df (.d (.int .i64 n)) au=some n:=by rw[Nh (by omega) (by simp only[au];omega)];simp
 have e2:Yv [.int .u8 0] [] .nl (.d (.int .i64 n))=some (.own true 1 (List.replicate n [.int .u8 0]),[]):=by
  unfold Yv;rw[e1];obtain⟨m,rfl⟩:∃ m,n=m+1:=⟨n-1,by omega⟩
  simp (disch:=omega) [List.replicate_succ,↓if_pos]
 have e0:df (.d (.int .i64 0)) n=some 0:=Nh (by omega) (by omega);have e3:uB [] 1 .nl none (some (.int .i64 0)) none=some .nl:=rfl;have e4:uB [(0,.arr 1 (List.replicate n [D.int .u8 0]))] 1 (.sl 0 0 n) none (some (.int .i64 0)) none=some (.sl 0 0 0):=by
  simp[uB,okSl,w6,lenOf,xQ,e0,ue]
 rw[aD Ka nA.eq_1 rfl];simp (maxSteps:=300000) (disch:=omega) [↓if_pos,↓if_neg,aoG,e2,e3,e4]
theorem akA (xs:List (List Nat)) (hx:xs.length≤1000) (hn:0<xs.flatten.length∧xs.flatten.length≤1000000000):aO prog fB [.d (.lst (uM xs))]=some (.own true 1 (af xs.flatten)):=by
 have h0:=aro xs hx [] 0 xs 0 0 rfl (by omega);have h2:=awU xs.flatten.length hn;have c0:((0:Nat):Int)=0:=rfl;rw[Nat.zero_add,c0]at h0;have hne:xs≠[]:=by intro h;subst h;simp at hn
 obtain⟨l,r,e⟩:=List.exists_cons_of_ne_nil hne;have h1:=aqT xs hx [] 1 r 1 l (by rw[e];rfl) (by rw[e]at hn;simpa using hn.2);have hg:=MK (g:=xs) (i:=0) (l:=l) (r:=r) (by rw[e];rfl);have hlt:0<xs.length:=List.length_pos_iff.2 hne;have e5:l++r.flatten=xs.flatten:=by rw[e];rfl
 rw[e5]at h1;have hll:l.length≤1000000000:=by rw[←e5,List.length_append]at hn;omega
 clear e5 e;generalize xs.flatten=F at *;have c1:((1:Nat):Int)=1:=rfl;rw[c1]at h1;rw[aq Gi lN.eq_1 rfl];simp (maxSteps:=300000) (disch:=omega) [↓if_pos,↓if_neg,h0,h2];rw[aa dY.eq_1];simp (maxSteps:=300000) (disch:=omega) [↓if_pos,↓if_neg,hg,eI,h1]
def be (n:Nat):Nat:=if n=0 then 0 else n.log2+1
theorem AY {n:Nat}:n<2 ^ be n:=by
 unfold be;by_cases h:n=0
 ·subst h;decide
 ·rw[if_neg h];exact(Nat.log2_lt h).1 (Nat.lt_succ_self _)
theorem nu {n:Nat}(h:n≠0):2 ^ (be n-1)≤n:=by
 unfold be;rw[if_neg h,Nat.add_sub_cancel];exact(Nat.le_log2 h).1 (Nat.le_refl _)
theorem ap2 {n k:Nat}(h1:2 ^ k≤n) (h2:n<2 ^ (k+1)):be n=k+1:=by
 have h0:n≠0:=by have:=Nat.two_pow_pos k;omega
 unfold be;rw[if_neg h0];have a:=(Nat.le_log2 h0).2 h1;have b:=(Nat.log2_lt h0).2 h2;omega
theorem asF {n:Nat}(h:256≤n):be n=8+be (n / 256):=by
 have h0:n / 256≠0:=by omega
 obtain⟨k,hk⟩:∃ k,be (n / 256)=k+1:=⟨be (n / 256)-1,by unfold be;rw[if_neg h0];omega⟩
 have a:=AY (n:=n / 256);have b:=nu h0;rw[hk]at a b⊢;rw[Nat.add_sub_cancel]at b;rw[ap2 (k:=k+8)]
 ·omega
 ·rw[Nat.pow_add];omega
 ·rw[show k+8+1=k+1+8 by omega,Nat.pow_add];omega
def aa7:List UInt8:=[0,1,2,2,3,3,3,3,4,4,4,4,4,4,4,4,5,5,5,5,5,5,5,5,5,5,5,5,5,5,5,5,6,6,6,6,6,6,6,6,6,6,6,6,6,6,6,6,6,6,6,6,6,6,6,6,6,6,6,6,6,6,6,6,7,7,7,7,7,7,7,7,7,7,7,7,7,7,7,7,7,7,7,7,7,7,7,7,7,7,7,7,7,7,7,7,7,7,7,7,7,7,7,7,7,7,7,7,7,7,7,7,7,7,7,7,7,7,7,7,7,7,7,7,7,7,7,7,8,8,8,8,8,8,8,8,8,8,8,8,8,8,8,8,8,8,8,8,8,8,8,8,8,8,8,8,8,8,8,8,8,8,8,8,8,8,8,8,8,8,8,8,8,8,8,8,8,8,8,8,8,8,8,8,8,8,8,8,8,8,8,8,8,8,8,8,8,8,8,8,8,8,8,8,8,8,8,8,8,8,8,8,8,8,8,8,8,8,8,8,8,8,8,8,8,8,8,8,8,8,8,8,8,8,8,8,8,8,8,8,8,8,8,8,8,8,8,8,8,8,8,8,8,8,8,8]
theorem aub:∀ n,n<256→(aa7[n]?).map UInt8.toNat=some (be n):=by decide +kernel
theorem amV {n:Nat}(h:n<256):aoA (.d (.str aa7)) (.d (.int .u8 n))=some (.int .u8 (be n)):=by
 have:=aub n h;show (match aa7[n]? with | some b=>some (D.int .u8 (.ofNat b.toNat)) | none=>none)=_
 cases hx:aa7[n]? with
 | none=>rw[hx]at this;exact absurd this (by simp)
 | some b =>
  rw[hx]at this;injection this with this
  show some (D.int .u8 ((b.toNat:Nat):Int))=_;rw[this]
theorem aDT {n:Nat}:c8 .shr (.d (.int .u64 (n:Int))) (.d (.int .u64 8))=some (.int .u64 ((n / 256:Nat):Int)):=by
 rw[gO (by omega)];have:min ((8:Int)).toNat IntKind.u64.bits=8:=rfl;rw[this,Int.fdiv_eq_ediv_of_nonneg _ (Int.natCast_nonneg _),←Int.natCast_ediv]
theorem ajT (n:Nat) (hn:n<65536):aO prog nW [.d (.int .u64 n)]=some (.d (.int .i64 (be n))):=by
 have h64:aO prog qm [.d (.int .u64 n)]=some (.d (.int .i64 (be n))):=by
  rw[aq Oj qn.eq_1 rfl];by_cases h:256≤n
  ·have h2:=amV (n:=n / 256) (by omega);have h3:=asF h;have h4:be (n / 256)≤8:=by
    have a:=nu (n:=n / 256) (by omega);rcases Nat.lt_or_ge 8 (be (n / 256)) with h | h
    ·have:2 ^ 8≤2 ^ (be (n / 256)-1):=Nat.pow_le_pow_right (by omega) (by omega);omega
    ·exact h
   have c1:((n / 256:Nat):Int)=(n:Int) / 256:=by omega
   rw[aa7,c1]at h2;rw[h3];simp (maxSteps:=300000) (disch:=omega) [↓if_pos,↓if_neg,-gO,aDT,h2]
  ·have h2:=amV (n:=n) (by omega);have h4:be n≤8:=by
    by_cases h0:n=0
    ·subst h0;decide
    ·have a:=nu (n:=n) h0;rcases Nat.lt_or_ge 8 (be n) with h | h
     ·have:2 ^ 8≤2 ^ (be n-1):=Nat.pow_le_pow_right (by omega) (by omega);omega
     ·exact h
   rw[aa7]at h2;simp (maxSteps:=300000) (disch:=omega) [↓if_pos,↓if_neg,-gO,h2]
 rw[aq Yj tS.eq_1 rfl];simp (maxSteps:=300000) (disch:=omega) [↓if_pos,↓if_neg,h64,aoD]
def hU (low:Int) (w:Nat):List Int→Nat→Nat
 | [],n=>n
 | v::r,n=>hU low w r (n*w+(v-low).toNat)
abbrev Km (id:Nat) (vs:List Int):Prop:=vs.length=bU id∧∀ v∈vs,bu id≤v∧v<bu id+ba id
theorem AU {low:Int}{w:Nat}:∀ {r:List Int}{n j:Nat},(∀ v∈r,low≤v∧v<low+w)→n<w ^ j→hU low w r n<w ^ (j+r.length)
 | [],n,j,_,h=>h
 | v::r,n,j,hr,h=>by
  have h1:=hr v (.head _);have h2:n*w+(v-low).toNat<w ^ (j+1):=by
   rw[Nat.pow_succ];have:(n+1)*w≤w ^ j*w:=Nat.mul_le_mul_right _ h;rw[Nat.add_mul]at this;omega
  have:=AU (r:=r) (fun q hq=>hr q (.tail _ hq)) h2;rw[hU,List.length_cons,show j+(r.length+1)=j+1+r.length by omega];exact this
theorem ahX (id:Nat) (hid:fl id) (vs:List Int) (hl:vs.length=bU id) (N:Nat):∀ (r:List Int) (i n:Nat),vs.drop i=r→(∀ v∈r,bu id≤v∧v<bu id+ba id)→n<ba id ^ i→
  (Dn prog).code (.loop nY) ⟨[(6,.ptr 0 0),(8,.d (.int .i64 n)),(26,.d (.lst (ai vs))),(27,.d (.int .i64 vs.length)),(28,.d (.int .i64 i))],⟨[(0,.cells [.d (.int .i64 (bU id)),.d (.int .i64 (bu id)),.d (.int .i64 (bu id+ba id-1)),.d (.int .i64 (aG id))])],N⟩⟩ =
  some (.exit 1,⟨[(8,.d (.int .i64 (hU (bu id) (ba id) r n)))],⟨[],N⟩⟩):=by
 obtain⟨k1,k2,k3,k4,k5,k6,k7⟩:=ie id (de hid);have hmany:ay id=ba id ^ bU id:=rfl;intro r
 induction r with
 | nil =>
  intro i n hd hr hn;have hi:=aK hd;rw[aa nY.eq_1,hU];simp (maxSteps:=300000) (disch:=omega) [↓if_neg]
 | cons v r ih =>
  intro i n hd hr hn;have hv:=hr v (.head _);have hg:=py hd;have hlt:=aU hd;have hw:=aeM (bU id) (bu id) (aG id) (ba id) (by omega) (by omega);have h2:n*ba id+(v-bu id).toNat<ba id ^ (i+1):=by
   rw[Nat.pow_succ];have:(n+1)*ba id≤ba id ^ i*ba id:=Nat.mul_le_mul_right _ hn;rw[Nat.add_mul]at this;omega
  have h3:ba id ^ (i+1)≤ba id ^ bU id:=Nat.pow_le_pow_right (by omega) (by omega);have h5:=ih (i+1) (n*ba id+(v-bu id).toNat) (aP hd) (fun q hq=>hr q (.tail _ hq)) h2;have c1:((i+1:Nat):Int)=(i:Int)+1:=rfl;have h4:n*ba id≤300:=by omega
  have c2:((n*ba id+(v-bu id).toNat:Nat):Int)=(n:Int)*ba id+v-bu id:=by
   have:(((v-bu id).toNat:Nat):Int)=v-bu id:=by omega
   rw[Int.natCast_add,Int.natCast_mul,this];omega
  have h6:0≤(n:Int)*ba id∧(n:Int)*ba id≤300:=by
   have:(n:Int)*ba id=((n*ba id:Nat):Int):=by rw[Int.natCast_mul]
   omega
  rw[c1,c2]at h5;rw[aa nY.eq_1,hU,←h5];simp (maxSteps:=300000) (disch:=omega) [↓if_pos,↓if_neg,hg,hw]
theorem UU (id:Nat) (hid:fl id) (vs:List Int) (hv:Km id vs):aO prog oI [.d (.int .i64 id),.d (.lst (ai vs))]=some (.tup [.d (.int .i64 (hU (bu id) (ba id) vs 0)),.d (.int .i64 0)]):=by
 have ho:=Jc id (de hid);have h:=ahX id hid vs hv.1 1 vs 0 0 rfl hv.2 (by rw[Nat.pow_zero];omega);have c0:((0:Nat):Int)=0:=rfl;have hl:=hv.1;obtain⟨k1,k2,k3,k4,k5,k6,k7⟩:=ie id (de hid);simp only[Rx]at ho;rw[c0]at h;rw[aq ajj BH.eq_1 rfl];simp (maxSteps:=300000) (disch:=omega) [↓if_pos,↓if_neg,ho,h]
theorem IC:∀ id∈ids,(bF id).all (fun e=>decide (e<ay id))=true∧(bF id).length=ay id∧aG id≤2:=by decide +kernel
theorem adc {id e:Nat}(h:fl id) (he:e<ay id):nth (bF id) e<ay id:=by
 obtain⟨h1,h2,_⟩:=IC id (de h);have:=List.all_eq_true.1 h1 _ (gn (l:=bF id) (i:=e) (by omega));simpa using this
def fQ (id e:Nat):List Nat:=aj (nth (bF id) e / 2 ^ aG id+1) (2*be (nth (bF id) e / 2 ^ aG id+1)-1)++aj (nth (bF id) e % 2 ^ aG id) (aG id)
theorem ayT {n k P:Nat}(hP:2 ^ k=P) (hk:k≤62) (h:n<9223372036854775808):c8 .and (.d (.int .i64 (n:Int))) (.d (.int .i64 ((P:Int)-1)))=some (.int .i64 ((n % P:Nat):Int)):=by
 have h1:2 ^ k≤2 ^ 62:=Nat.pow_le_pow_right (by omega) hk;have h2:=Nat.two_pow_pos k;have:=apQ (k:=.i64) (a:=n) (b:=2 ^ k-1) (by simpa [kO,IntKind.signed] using h) (by simp[kO,IntKind.signed];omega);rw[Nat.and_two_pow_sub_one_eq_mod]at this;subst hP;have c:((2 ^ k-1:Nat):Int)=((2 ^ k:Nat):Int)-1:=by omega
 rw[c]at this;exact this
theorem afs (id e:Nat) (hid:fl id) (he:e<ay id):aO prog mW [jr id,.d (.int .i64 e)]=some (.tup [.own true 1 (af (fQ id e)),.d (.int .i64 0)]):=by
 have hr:=XH id hid;obtain⟨h1,h2,h3⟩:=IC id (de hid);have hm:ay id≤300:=by have:=ie id (de hid);omega
 have hrk:=adc hid he;have hg:(bj (bF id))[e]?=some [.int .i64 (nth (bF id) e:Nat)]:=xa (by omega);unfold fQ;simp only[jr]at hr⊢;generalize nth (bF id) e=r at *;have q1:=aoN (n:=r) (k:=aG id) (by omega);have q2:=N3 (m:=aG id) (by omega);have hP:1≤2 ^ aG id∧2 ^ aG id≤2 ^ 2:=⟨Nat.two_pow_pos _,Nat.pow_le_pow_right (by omega) h3⟩
 have hmod:r % 2 ^ aG id<2 ^ aG id:=Nat.mod_lt _ hP.1;have q3:=ayT (n:=r) (k:=aG id) rfl (by omega) (by omega);have hdv:r / 2 ^ aG id≤r:=Nat.div_le_self _ _;have hr3:r<300:=by omega
 generalize hPP:2 ^ aG id=PP at *;generalize r / PP=RQ at *;generalize r % PP=RM at *;have q4:=ajT (RQ+1) (by omega);have hL1:=AY (n:=RQ+1);have hL2:=nu (n:=RQ+1) (by omega);have hL9:be (RQ+1)≤9:=by
  rcases Nat.lt_or_ge 9 (be (RQ+1)) with h | h
  ·have:2 ^ 9≤2 ^ (be (RQ+1)-1):=Nat.pow_le_pow_right (by omega) (by omega);omega
  ·exact h
 have hL0:1≤be (RQ+1):=by unfold be;rw[if_neg (by omega)];omega
 have hpw:2 ^ be (RQ+1)≤2 ^ (2*be (RQ+1)-1):=Nat.pow_le_pow_right (by omega) (by omega);have p1:=jQ [] ((RQ+1:Nat):Int) ((2*be (RQ+1)-1:Nat):Int) (by simp) (by omega) .nl (.inr ⟨rfl,rfl⟩);have ho1:nX ((RQ+1:Nat):Int) ((2*be (RQ+1)-1:Nat):Int):=by
  simp only[nX,Int.toNat_natCast];generalize 2 ^ (2*be (RQ+1)-1)=Z at *;omega
 rw[if_pos ho1]at p1;have p2:=fun b (hb:b.length≤900000000)=>jQ b (RM:Int) ((aG id:Nat):Int) hb (by omega) _ (.inl rfl)
 have ho2:nX (RM:Int) ((aG id:Nat):Int):=by simp only[nX,Int.toNat_natCast,hPP];omega
 simp only[if_pos ho2]at p2;simp only[Int.toNat_natCast,List.nil_append]at p1 p2;have p3:=p2 (aj (RQ+1) (2*be (RQ+1)-1)) (by simp;omega);have c1:((2*be (RQ+1)-1:Nat):Int)=2*(be (RQ+1):Int)-1:=by omega
 have c2:((RQ+1:Nat):Int)=(RQ:Int)+1:=rfl;rw[c1,c2]at p1;rw[c2]at q4;clear p2 hL1 hL2 hpw ho1 ho2;generalize aj (RQ+1) (2*be (RQ+1)-1)++aj RM (aG id)=RES at *;generalize aj (RQ+1) (2*be (RQ+1)-1)=RE1 at *;generalize be (RQ+1)=LN at *;generalize aG id=pl at *;generalize aW id=es at *;rw[aq alw Ee.eq_1 rfl];simp (maxSteps:=300000) (disch:=omega) [↓if_pos,↓if_neg,hr,hg,-gO,-oW,q1,q2,q3,q4,p1,p3]
theorem ae8 {a b:List Nat}:[[D.lst (af a)],[D.lst (af b)]]=uM [a,b]:=rfl
theorem aoE {a b c d:List Nat}:[[D.lst (af a)],[D.lst (af b)],[D.lst (af c)],[D.lst (af d)]]=uM [a,b,c,d]:=rfl
theorem sW {id e:Nat}(hid:fl id) (he:e<ay id):1≤(fQ id e).length∧(fQ id e).length≤20:=by
 obtain⟨h1,h2,h3⟩:=IC id (de hid);have hm:ay id≤300:=by have:=ie id (de hid);omega
 have hrk:=adc hid he;have hdv:nth (bF id) e / 2 ^ aG id≤nth (bF id) e:=Nat.div_le_self _ _;unfold fQ;rw[List.length_append,d8,d8];generalize nth (bF id) e / 2 ^ aG id=RQ at *;have hL2:=nu (n:=RQ+1) (by omega);have hL9:be (RQ+1)≤9:=by
  rcases Nat.lt_or_ge 9 (be (RQ+1)) with h | h
  ·have:2 ^ 9≤2 ^ (be (RQ+1)-1):=Nat.pow_le_pow_right (by omega) (by omega);omega
  ·exact h
 have hL0:1≤be (RQ+1):=by unfold be;rw[if_neg (by omega)];omega
 omega
theorem aeZ (b:List Nat) (hb:b.length≤900000000) (x:AV) (hx:x=.d (.lst (af b))∨x=.nl∧b=[]) (d:Int) (hd:-60≤d∧d≤60):aO prog xE [x,.d (.int .i64 d)]=some (.tup [.own true 1 (af (b++fQ 12 (d+60).toNat)),.d (.int .i64 0)]):=by
 obtain⟨E,rfl⟩:∃ E:Nat,d=(E:Int)-60:=⟨(d+60).toNat,by omega⟩
 have hok:fl 12:=by omega
 have he:((E:Int)-60+60).toNat<ay 12:=by show _<121;omega
 have hE:=UU 12 hok [(E:Int)-60] ⟨rfl,fun v hv=>by
  rw[List.mem_singleton]at hv;show -60≤v∧v < -60+((121:Nat):Int);omega⟩
 have e1:hU (bu 12) (ba 12) [(E:Int)-60] 0=((E:Int)-60+60).toNat:=by
  show 0*121+((E:Int)-60-(-60)).toNat=_;omega
 have e2:((E:Int)-60+60).toNat=E:=by omega
 rw[e2]at e1 he⊢;rw[e1]at hE;have hG:=S9 12 hok;have hC:=afs 12 E hok he;have hcl:=sW hok he;have hcat:=akA [b,fQ 12 E] (by simp) (by simp;omega);have c12:((12:Nat):Int)=12:=rfl;have i1:ai [(E:Int)-60]=[[.int .i64 ((E:Int)-60)]]:=rfl;simp only[Ny,jr,c12,i1,List.flatten_cons,List.flatten_nil,List.append_nil]at hE hG hC hcat;rw[←ae8]at hcat;generalize fQ 12 E=CB at *;generalize aW 12=es at *;generalize bF 12=rs at *;generalize aG 12=pl at *;rw[aq al3 EH.eq_1 rfl];rcases hx with rfl | ⟨rfl,rfl⟩
 ·simp (maxSteps:=300000) (disch:=omega) [↓if_pos,↓if_neg,hE,hG,hC,hcat]
 ·have n0:af []=[]:=rfl;rw[n0]at hcat;simp (maxSteps:=300000) (disch:=omega) [↓if_pos,↓if_neg,hE,hG,hC,hcat]
theorem Tc (F:AV) (P:Int→Bool) (l:List Int) (hl:l.length≤1000000000) (h:ac) (N:Nat) (hF:firm (share F)=F) (hc:∀ v∈l,bf (Dn prog) F [.d (.int .i64 v)] ⟨h,N⟩=some (.d (.bool (P v)),⟨h,N⟩)):∀ (r:List Int) (i:Nat),l.drop i=r→
  (r.any P=true∧∃ k:Nat,(Dn prog).code (.loop bS) ⟨[(0,.d (.lst (ai l))),(1,F),(7,.d (.int .i64 l.length)),(8,.d (.int .i64 i))],⟨h,N⟩⟩=some (.ret,⟨[(4,.d (.int .i64 k))],⟨h,N⟩⟩))∨
  (r.any P=false∧(Dn prog).code (.loop bS) ⟨[(0,.d (.lst (ai l))),(1,F),(7,.d (.int .i64 l.length)),(8,.d (.int .i64 i))],⟨h,N⟩⟩=some (.exit 0,⟨[],⟨h,N⟩⟩)):=by
 intro r
 induction r with
 | nil =>
  intro i hd;have hi:=aK hd;refine .inr ⟨rfl,?_⟩;rw[aa bS.eq_1];simp (maxSteps:=300000) (disch:=omega) [↓if_neg]
 | cons v r ih =>
  intro i hd;have hg:=py hd;have hlt:=aU hd;have hv:=hc v (by rw[←List.take_append_drop i l,hd];simp);have h5:=ih (i+1) (aP hd);have c1:((i+1:Nat):Int)=(i:Int)+1:=rfl;rw[c1]at h5
  cases hp:P v with
  | true =>
   rw[hp]at hv;refine .inl ⟨by rw[List.any_cons,hp];rfl,i,?_⟩;rw[aa bS.eq_1];simp (maxSteps:=300000) (disch:=omega) [↓if_pos,↓if_neg,hg,hF,hv]
  | false =>
   rw[hp]at hv;rw[List.any_cons,hp,Bool.false_or];rcases h5 with ⟨e1,k,e2⟩ | ⟨e1,e2⟩
   ·refine .inl ⟨e1,k,?_⟩;rw[aa bS.eq_1,←e2];simp (maxSteps:=300000) (disch:=omega) [↓if_pos,↓if_neg,hg,hF,hv]
   ·refine .inr ⟨e1,?_⟩;rw[aa bS.eq_1,←e2];simp (maxSteps:=300000) (disch:=omega) [↓if_pos,↓if_neg,hg,hF,hv]
theorem sE (F:AV) (P:Int→Bool) (l:List Int) (hl:l.length≤1000000000) (h:ac) (N:Nat) (hF:firm (share F)=F) (hF2:firm F=F) (hc:∀ v∈l,bf (Dn prog) F [.d (.int .i64 v)] ⟨h,N⟩=some (.d (.bool (P v)),⟨h,N⟩)) :
  (Dn prog).call cu [.d (.lst (ai l)),F] ⟨h,N⟩=some (.d (.bool (l.any P)),⟨h,N⟩):=by
 have h1:=Tc F P l hl h N hF hc l 0 rfl;have c0:((0:Nat):Int)=0:=rfl;rw[c0]at h1;have h2:∃ k:Int,(0≤k↔l.any P=true)∧(Dn prog).call ke [.d (.lst (ai l)),F] ⟨h,N⟩=some (.d (.int .i64 k),⟨h,N⟩):=by
  rcases h1 with ⟨e1,k,e2⟩ | ⟨e1,e2⟩
  ·refine⟨k,⟨fun _=>e1,fun _=>by omega⟩,?_⟩;rw[aD qb gK.eq_1 rfl];simp (maxSteps:=300000) (disch:=omega) [e2]
  ·refine⟨-1,⟨fun h=>by omega,fun h=>by rw[e1]at h;exact absurd h (by simp)⟩,?_⟩;rw[aD qb gK.eq_1 rfl];simp (maxSteps:=300000) (disch:=omega) [e2]
 obtain⟨k,e1,e2⟩:=h2;rw[aD zB jc.eq_1 rfl]
 cases hp:l.any P with
 | true =>
  have:=e1.2 hp;simp (maxSteps:=300000) (disch:=omega) [↓if_pos,hF2,e2]
 | false =>
  have:¬ 0≤k:=fun h=>by rw[e1.1 h]at hp;exact absurd hp (by simp)
  simp (maxSteps:=300000) (disch:=omega) [↓if_neg,hF2,e2]
def dP (id:Nat):Nat:=[0,1,1,2,2,4,4,7,7,12,12,8191,0].getD id 0
abbrev auI:List AV:=[.d (.int .i64 0),.d (.int .i64 1),.d (.int .i64 1),.d (.int .i64 2),.d (.int .i64 2),.d (.int .i64 4),.d (.int .i64 4),.d (.int .i64 7),.d (.int .i64 7),.d (.int .i64 12),.d (.int .i64 12),.d (.int .i64 8191),.d (.int .i64 0)]
theorem ahL:aO prog DR []=some (.agg auI):=wV 100 (by kernel_rfl)
theorem awq {id:Nat}(h:id≤12):ixV 13 1 false (.agg auI) (.d (.int .i64 id))=some (.d (.int .i64 (dP id))):=by
 obtain rfl | rfl | rfl | rfl | rfl | rfl | rfl | rfl | rfl | rfl | rfl | rfl | rfl:id=0∨id=1∨id=2∨id=3∨id=4∨id=5∨id=6∨id=7∨id=8∨id=9∨id=10∨id=11∨id=12:=by omega
 all_goals rfl
def aM (id:Nat):Nat:=if id<5 then 4 else 2
theorem asV (id:Nat):aO prog Hu [.d (.int .i64 id)]=some (.d (.int .i64 (aM id))):=by
 rw[aq apE HC.eq_1 rfl];unfold aM;by_cases h:id<5
 ·simp (disch:=omega) [↓if_pos]
 ·simp (disch:=omega) [↓if_neg]
def E4 (m:Nat) (v:Int):Bool:=decide ((m:Int)<v∨v < -(m:Int))
theorem axC (m:Nat) (hm:m≤100000) (v:Int) (N:Nat):(Dn prog).call qK [.d (.int .i64 v),.ptr 0 0] ⟨[(0,.cells [.d (.int .i64 m)])],N⟩=some (.d (.bool (E4 m v)),⟨[(0,.cells [.d (.int .i64 m)])],N⟩):=by
 rw[aD ahe yL.eq_1 rfl];unfold E4;by_cases h1:(m:Int)<v
 ·simp (maxSteps:=300000) (disch:=omega) [↓if_pos,h1]
 ·by_cases h2:v < -(m:Int)
  ·simp (maxSteps:=300000) (disch:=omega) [↓if_pos,↓if_neg,h1,h2]
  ·simp (maxSteps:=300000) (disch:=omega) [↓if_pos,↓if_neg,h1,h2]
theorem K9 (id:Nat) (hid:1≤id∧id≤11) (vs:List Int) (hv:vs.length=aM id):aO prog xl [.d (.int .i64 id),.d (.lst (ai vs))]=some (.tup [.d (.bool (!(vs.any (E4 (dP id))))),.d (.int .i64 0)]):=by
 have hm:dP id≤100000:=by
  obtain rfl | rfl | rfl | rfl | rfl | rfl | rfl | rfl | rfl | rfl | rfl:id=1∨id=2∨id=3∨id=4∨id=5∨id=6∨id=7∨id=8∨id=9∨id=10∨id=11:=by omega
  all_goals decide
 have hd4:aM id≤4:=by unfold aM;split<;>omega
 have h1:=sE (.fn qK [] [.ptr 0 0]) (E4 (dP id)) vs (by omega) [(0,.cells [.d (.int .i64 (dP id))])] 1 rfl rfl fun v _=>by
  simp (maxSteps:=300000) (disch:=omega) [axC (dP id) hm v 1]
 have h2:=awq (id:=id) (by omega);have h3:=asV id;rw[aq al5 Eq.eq_1 rfl];simp (maxSteps:=300000) (disch:=omega) [↓if_pos,↓if_neg,h3,ahL,h2,h1]
def fZ (id:Nat) (v:Int):Int:=if id=11∧16≤v.natAbs then 16 else v.natAbs
def kx (v:Int):List Nat:=if v=0 then [] else if v<0 then [1] else [0]
def oF (id:Nat) (v:Int):List Nat:=if id=11∧16≤v.natAbs then List.replicate (be v.natAbs-5) 1++(0::aj (v.natAbs % 2 ^ (be v.natAbs-1)) (be v.natAbs-1)) else []
def xy (id:Nat) (vs:List Int):List Nat:=if gp id then fQ id (hU (bu id) (ba id) vs 0)
 else fQ id (hU (bu id) (ba id) (vs.map (fZ id)) 0)++(vs.flatMap kx++vs.flatMap (oF id))
theorem aqO (v:Int) (h:-100000≤v∧v≤100000):aO prog Fh [.d (.int .i64 v)]=some (.d (.int .i64 v.natAbs)):=by
 rw[aq alQ E2.eq_1 rfl];by_cases h0:v<0
 ·have:((v.natAbs:Nat):Int)=-v:=by omega
  rw[this];simp (disch:=omega) [↓if_pos]
 ·have:((v.natAbs:Nat):Int)=v:=by omega
  rw[this];simp (disch:=omega) [↓if_neg]
theorem ato:∀ m∈List.range 9,aO prog sS [.d (.lst [[.int .u8 1]]),.d (.int .i64 m)]=some (.own true 1 (af (List.replicate m 1))):=BE 100 (List.range 9) (by kernel_rfl)
theorem are {m:Nat}{h:ac}{xs ys:List (List D)}(hl:xs.length+ys.length≤1000000000):∃ v,ct m h (ax m xs) ys=some (v,h)∧firm v=ax m (xs++ys):=by
 cases xs with
 | nil =>
  cases ys with
  | nil=>exact⟨.nl,rfl,rfl⟩
  | cons y r =>
   simp only[List.length_cons,List.length_nil]at hl;exact⟨.own true m (y::r),by simp (disch:=omega) [ax,↓if_pos],rfl⟩
 | cons x r =>
  exact⟨.own false m (x::r++ys),by
   grind [aeL,amR,ZI,anG,amF,au],rfl⟩
theorem axd {v:Int}(h:-100000≤v∧v<0):wr .u64 v=v+18446744073709551616:=by
 grind [wr,jW,IntKind.wrap,IntKind.bits,IntKind.signed]
theorem amk (id:Nat) (hid:1≤id∧id≤11) (pl ents ranks:D) (x0:AV) (vs:List Int) (hl:vs.length≤4) (N:Nat):∀ (r:List Int) (i:Nat) (sz:List Int) (sg es:List Nat),vs.drop i=r→(∀ v∈r,v.natAbs≤8191)→sz.length≤100+i→sg.length≤100+i→es.length≤100+100*i→
  (Dn prog).code (.loop mI) ⟨[(0,x0),(4,.ptr 0 0),(15,ax 1 (ai sz)),(16,ax 1 (af sg)),(17,ax 1 (af es)),(69,.d (.lst (ai vs))),(70,.d (.int .i64 vs.length)),(71,.d (.int .i64 i))],⟨[(0,.cells [.d (.int .i64 id),.d pl,.d ents,.d ranks])],N⟩⟩ =
  some (.exit 0,⟨[(0,x0),(4,.ptr 0 0),(15,ax 1 (ai (sz++r.map (fZ id)))),(16,ax 1 (af (sg++r.flatMap kx))),(17,ax 1 (af (es++r.flatMap (oF id))))],⟨[(0,.cells [.d (.int .i64 id),.d pl,.d ents,.d ranks])],N⟩⟩):=by
 intro r
 induction r with
 | nil =>
  intro i sz sg es hd hr h1 h2 h3;have hi:=aK hd;rw[aa mI.eq_1];simp (disch:=omega) [↓if_neg]
 | cons v r ih =>
  intro i sz sg es hd hr h1 h2 h3;have hg:=py hd;have hlt:=aU hd;have hv:=hr v (.head _);have hs:=aqO v (by omega);have c1:((i+1:Nat):Int)=(i:Int)+1:=rfl;have hlg:=eI (l:=sg);have hle:=eI (l:=es);have hsz:=fE (l:=sz);obtain⟨n,hn⟩:∃ n,n=v.natAbs:=⟨_,rfl⟩
  rw[←hn]at hs hv;have hvs:WG .u64 (.d (.int .i64 v))=some (.int .u64 (wr .u64 v)):=rfl;have hpos:0<v→c8 .shr (.d (.int .u64 v)) (.d (.int .u64 63))=some (.int .u64 0):=fun h=>by
   rw[gO (by omega)];have:min ((63:Int)).toNat IntKind.u64.bits=63:=rfl
   grind
  have hneg:v<0→c8 .shr (.d (.int .u64 (wr .u64 v))) (.d (.int .u64 63))=some (.int .u64 1):=fun h=>by
   rw[axd (by omega),gO (by omega)];have:min ((63:Int)).toNat IntKind.u64.bits=63:=rfl
   grind
  have hb1:af sg++[[D.int .u8 1]]=af (sg++[1]):=by simp[af]
  have hb0:af sg++[[D.int .u8 0]]=af (sg++[0]):=by simp[af]
  by_cases he:id=11∧16≤v.natAbs
  ·obtain⟨h11,h16⟩:=he;rw[←hn]at h16;have hL1:=AY (n:=n);have hL2:=nu (n:=n) (by omega);have hL13:be n≤13:=by
    rcases Nat.lt_or_ge 13 (be n) with h | h
    ·have:2 ^ 13≤2 ^ (be n-1):=Nat.pow_le_pow_right (by omega) (by omega);omega
    ·exact h
   have hL5:5≤be n:=by
    rcases Nat.lt_or_ge (be n) 5 with h | h
    ·have:2 ^ be n≤2 ^ 4:=Nat.pow_le_pow_right (by omega) (by omega);omega
    ·exact h
   obtain⟨m,hm⟩:∃ m,be n=m+5:=⟨be n-5,by omega⟩
   have e1:fZ id v=16:=by grind [fZ]
   have e2:oF id v=List.replicate m 1++(0::aj (n % 2 ^ (m+4)) (m+4)):=by
    grind [oF]
   have hl2:=ajT n (by omega);have hrp:=ato m (List.mem_range.2 (by omega));have hlr:(af (List.replicate m 1)).length=m:=by simp_all
   obtain⟨w,hw1,hw2⟩:=are (m:=1) (h:=[(0,.cells [.d (.int .i64 id),.d pl,.d ents,.d ranks])]) (xs:=af es) (ys:=af (List.replicate m 1)) (by omega);have hbe:af es++af (List.replicate m 1)=af (es++List.replicate m 1):=ajX;rw[hbe]at hw2;have hlw:(af (es++List.replicate m 1)).length=es.length+m:=by simp_all
   have hbw:af (es++List.replicate m 1)++[[D.int .u8 0]]=af (es++List.replicate m 1++[0]):=by simp[af]
   have hp4:2 ^ (m+4)≤2 ^ 12:=Nat.pow_le_pow_right (by omega) (by omega);have hmod:n % 2 ^ (m+4)<2 ^ (m+4):=Nat.mod_lt _ (Nat.two_pow_pos _);have q2:=N3 (m:=m+4) (by omega);have q3:=ayT (n:=n) (k:=m+4) rfl (by omega) (by omega);have p1:=jQ (es++List.replicate m 1++[0]) ((n % 2 ^ (m+4):Nat):Int) ((m+4:Nat):Int) (by grind) (by omega) _ (.inl rfl);rw[if_pos (by grind)]at p1;simp only[Int.toNat_natCast]at p1;have c4:((m+4:Nat):Int)=(m:Int)+4:=rfl;have c5:((m+5:Nat):Int)=(m:Int)+5:=rfl;rw[hm,c5]at hl2;rw[c4]at p1 q2;have h5:=fun s2 (h:s2.length≤101+i)=>ih (i+1) (sz++[16]) s2 (es++List.replicate m 1++[0]++aj (n % 2 ^ (m+4)) (m+4)) (aP hd) (fun q hq=>hr q (.tail _ hq)) (by grind) (by omega) (by simp;omega)
   generalize n % 2 ^ (m+4)=RM at *;generalize 2 ^ (m+4)=PP at *;have eo:ax 1 (ai (sz++[16]))=.own false 1 (ai (sz++[16])):=lR (by simp[ai]);have eo3:ax 1 (af (es++List.replicate m 1++[0]++aj RM (m+4)))=.own false 1 (af (es++List.replicate m 1++[0]++aj RM (m+4))):=lR (by simp[af]);have eL:es++List.replicate m 1++[0]++aj RM (m+4)++r.flatMap (oF id)=es++(List.replicate m 1++(0::aj RM (m+4))++r.flatMap (oF id)):=by simp
   simp only[eo3,eL]at h5;generalize es++List.replicate m 1++[0]++aj RM (m+4)=ES at *;generalize es++List.replicate m 1++[0]=E0 at *;generalize es++List.replicate m 1=EM at *;simp only[c1,eo,List.append_assoc,List.singleton_append]at h5;rw[aa mI.eq_1,List.map_cons,List.flatMap_cons,List.flatMap_cons,e1,e2];have v0:v≠0:=by omega
   by_cases hvn:v<0
   ·have e3:kx v=[1]:=by grind [kx]
    have eo2:ax 1 (af (sg++[1]))=.own false 1 (af (sg++[1])):=lR (by simp[af]);have h6:=h5 (sg++[1]) (by grind);simp only[eo2,List.append_assoc,List.singleton_append]at h6;rw[e3,List.singleton_append];simp only[List.append_assoc,List.cons_append]at h6⊢;rw[←h6];simp (disch:=omega) [↓if_pos,↓if_neg,hg,hs,-gO,-oW,hneg hvn,hb1,hl2,hrp,hw1,hw2,hbw,q2,q3,p1]
   ·have hvp:0<v:=by omega
    have e3:kx v=[0]:=by grind [kx]
    have eo2:ax 1 (af (sg++[0]))=.own false 1 (af (sg++[0])):=lR (by simp[af]);have h6:=h5 (sg++[0]) (by grind);simp only[eo2,List.append_assoc,List.singleton_append]at h6;rw[e3,List.singleton_append];simp only[List.append_assoc,List.cons_append]at h6⊢;rw[←h6];simp (disch:=omega) [↓if_pos,↓if_neg,hg,hs,-gO,-oW,hpos hvp,hb0,hl2,hrp,hw1,hw2,hbw,q2,q3,p1]
  ·have e1:fZ id v=n:=by grind [fZ]
   have e2:oF id v=[]:=by grind [oF]
   have h5:=fun s2 (h:s2.length≤101+i)=>ih (i+1) (sz++[(n:Int)]) s2 es (aP hd) (fun q hq=>hr q (.tail _ hq)) (by grind) (by omega) (by omega)
   have eo:ax 1 (ai (sz++[(n:Int)]))=.own false 1 (ai (sz++[(n:Int)])):=lR (by simp[ai]);simp only[c1,eo,List.append_assoc,List.singleton_append]at h5;rw[aa mI.eq_1,List.map_cons,List.flatMap_cons,List.flatMap_cons,e1,e2,List.nil_append];have hen:¬ (id=11∧16≤n):=by omega
   by_cases v0:v=0
   ·have e3:kx v=[]:=by grind [kx]
    rw[e3,List.nil_append,←h5 sg (by omega)];by_cases h11:id=11
    ·simp (disch:=omega) [↓if_pos,↓if_neg,hg,hs]
    ·simp (disch:=omega) [↓if_pos,↓if_neg,hg,hs]
   ·by_cases hvn:v<0
    ·have e3:kx v=[1]:=by grind [kx]
     have eo2:ax 1 (af (sg++[1]))=.own false 1 (af (sg++[1])):=lR (by simp[af]);have h6:=h5 (sg++[1]) (by grind);simp only[eo2,List.append_assoc,List.singleton_append]at h6;rw[e3,List.singleton_append,←h6];by_cases h11:id=11
     ·simp (disch:=omega) [↓if_pos,↓if_neg,hg,hs,-gO,hneg hvn,hb1]
     ·simp (disch:=omega) [↓if_pos,↓if_neg,hg,hs,-gO,hneg hvn,hb1]
    ·have hvp:0<v:=by omega
     have e3:kx v=[0]:=by grind [kx]
     have eo2:ax 1 (af (sg++[0]))=.own false 1 (af (sg++[0])):=lR (by simp[af]);have h6:=h5 (sg++[0]) (by grind);simp only[eo2,List.append_assoc,List.singleton_append]at h6;rw[e3,List.singleton_append,←h6];by_cases h11:id=11
     ·simp (disch:=omega) [↓if_pos,↓if_neg,hg,hs,-gO,hpos hvp,hb0]
     ·simp (disch:=omega) [↓if_pos,↓if_neg,hg,hs,-gO,hpos hvp,hb0]
theorem uA:∀ id∈ids.take 11,(gp id=true→bu id=-(dP id:Int)∧ba id=2*dP id+1)∧(gp id=false→bu id=0∧(id≠11→ba id=dP id+1)∧(id=11→ba id=17))∧bU id=aM id∧dP id≤8191:=by decide +kernel
theorem NA {id:Nat}(h:1≤id∧id≤11):id∈ids.take 11:=by
 show id∈[1,2,3,4,5,6,7,8,9,10,11];simp only[List.mem_cons,List.not_mem_nil,or_false];omega
abbrev Kk (id:Nat) (vs:List Int):Prop:=vs.length=aM id∧∀ v∈vs,v.natAbs≤dP id
theorem axe {id:Nat}{vs:List Int}(h:∀ v∈vs,v.natAbs≤dP id):vs.any (E4 (dP id))=false:=by
 grind [E4]
theorem Hz {id:Nat}(hid:1≤id∧id≤11) {vs:List Int}(h:Kk id vs):(gp id=true→Km id vs)∧(gp id=false→Km id (vs.map (fZ id))):=by
 grind [uA,NA,fZ]
theorem akY {vs:List Int}:(vs.flatMap kx).length≤vs.length:=by
 induction vs<;>grind [kx]
theorem awo {id:Nat}{v:Int}(h:v.natAbs≤8191):(oF id v).length≤30:=by
 unfold oF;split
 ·have hL2:v.natAbs≠0→2 ^ (be v.natAbs-1)≤v.natAbs:=nu;have hL13:be v.natAbs≤13:=by
   rcases Nat.lt_or_ge 13 (be v.natAbs) with h | h
   ·have:2 ^ 13≤2 ^ (be v.natAbs-1):=Nat.pow_le_pow_right (by omega) (by omega);omega
   ·exact h
  grind [d8]
 ·simp
theorem RE {id:Nat}:∀ {vs:List Int},(∀ v∈vs,v.natAbs≤8191)→(vs.flatMap (oF id)).length≤30*vs.length
 | [],_=>by simp
 | v::r,h=>by
  have h1:=awo (id:=id) (h v (.head _));have h2:=RE (id:=id) (vs:=r) fun q hq=>h q (.tail _ hq)
  grind
theorem as8 (b:List Nat) (hb:b.length≤900000000) (x:AV) (hx:x=.d (.lst (af b))∨x=.nl∧b=[]) (id:Nat) (hid:1≤id∧id≤11) (vs:List Int) (hv:Kk id vs):aO prog AI [x,jr id,.d (.lst (ai vs))]=some (.tup [.own true 1 (af (b++xy id vs)),.d (.int .i64 0)]):=by
 have hok:fl id:=by omega
 have hF:=K9 id hid vs hv.1;rw[axe hv.2]at hF;have hS:=Kv id (NA hid);obtain⟨m1,m2,m3,m4⟩:=uA id (NA hid);obtain⟨f1,f2⟩:=Hz hid hv;have hE:=UU id hok;have hC:=fun e he=>afs id e hok he
 have hd4:aM id≤4:=by grind [aM]
 have hvl:=hv.1;have hv8:∀ v∈vs,v.natAbs≤8191:=fun v h=>Nat.le_trans (hv.2 v h) m4
 simp only[jr]at hC⊢;have hmany:ay id=ba id ^ bU id:=rfl;unfold xy;by_cases hs:gp id=true
 ·rw[hs]at hS;have hin:=f1 hs;have hE:=hE vs hin;have hlt:=AU (n:=0) (j:=0) hin.2 (by simp);rw[Nat.zero_add,hin.1,←hmany]at hlt;have hC:=hC _ hlt;have hcl:=sW hok hlt;have hcat:=akA [b,fQ id (hU (bu id) (ba id) vs 0)] (by simp) (by grind);simp only[List.flatten_cons,List.flatten_nil,List.append_nil]at hcat;rw[←ae8]at hcat;rw[if_pos hs];generalize fQ id (hU (bu id) (ba id) vs 0)=CB at *;generalize hU (bu id) (ba id) vs 0=EN at *;generalize aW id=es at *;generalize bF id=rs at *;generalize aG id=pl at *;rw[aq Xz Ai.eq_1 rfl];rcases hx with rfl | ⟨rfl,rfl⟩
  ·simp (disch:=omega) [↓if_pos,hF,hS,hE,hC,hcat]
  ·have n0:af []=[]:=rfl;rw[n0]at hcat;simp (disch:=omega) [↓if_pos,hF,hS,hE,hC,hcat]
 ·have hs2:gp id=false:=by simp_all
  rw[hs2]at hS;have hin:=f2 hs2;have hE:=hE _ hin;have hlt:=AU (n:=0) (j:=0) hin.2 (by simp);rw[Nat.zero_add,hin.1,←hmany]at hlt;have hC:=hC _ hlt;have hcl:=sW hok hlt;have hsl:=akY (vs:=vs);have hel:=RE (id:=id) hv8;have hcat:=akA [b,fQ id (hU (bu id) (ba id) (vs.map (fZ id)) 0),vs.flatMap kx,vs.flatMap (oF id)] (by simp) (by grind);simp only[List.flatten_cons,List.flatten_nil,List.append_nil]at hcat;rw[←aoE]at hcat;have hl0:=fun x0=>amk id hid (.int .i64 (aG id)) (.lst (bj (aW id))) (.lst (bj (bF id))) x0 vs (by omega) 1 vs 0 [] [] [] rfl hv8 (by simp) (by simp) (by simp)
  have c0:((0:Nat):Int)=0:=rfl;have n0:af []=[]:=rfl;have n1:ai []=[]:=rfl;have hne:ai (vs.map (fZ id))≠[]:=by
   grind [ai,List.length_nil,aM]
  simp only[n0,n1,kL,List.nil_append,c0,lR hne]at hl0;rw[if_neg hs];generalize fQ id (hU (bu id) (ba id) (vs.map (fZ id)) 0)=CB at *;generalize hU (bu id) (ba id) (vs.map (fZ id)) 0=EN at *;generalize aW id=es at *;rw[aq Xz Ai.eq_1 rfl];rcases hx with rfl | ⟨rfl,rfl⟩
  ·simp (disch:=omega) [↓if_pos,hF,hS,hl0,hE,hC,hcat]
  ·rw[n0]at hcat;simp (disch:=omega) [↓if_pos,hF,hS,hl0,hE,hC,hcat]
def kW (k n w z:Int):List Nat:=if k=0 then [] else if k=13 then (if z<0 then aj n.toNat 9 else fQ 12 (n-z+60).toNat) else fQ 12 (n-w+60).toNat
def kN:List Int→List Int→Int→Int→List Nat
 | k::r,n::t,w,z=>kW k n w z++kN r t (fP k n w z).1 (fP k n w z).2
 | _,_,_,_=>[]
def kE:List (List ao)→List (List Int)→Int→Int→List Nat
 | l::r,t::s,w,z=>kN (al l) t w z++(match bK (al l) t w z with
  | some (w,z)=>kE r s w z
  | none=>[])
 | _,_,_,_=>[]
theorem afD {k n w z:Int}(h:k≠0→ib k n w z):(kW k n w z).length≤20:=by
 unfold kW;by_cases h0:k=0
 ·simp_all
 ·have hok:fl 12:=by omega
  have hc:=fun e (he:e<121)=>(sW (id:=12) (e:=e) hok he).2
  by_cases h13:k=13
  ·by_cases hz:z<0
   ·simp_all
   grind
  grind
structure LP (F:Obj→AV→Int→Int→ac) (ss:List (List Int)) (g:Int) (L N:Nat):Prop where
 gl:∀ q v w z,get (F q v w z) L=some q
 pl:∀ q v w z q',put (F q v w z) L q'=F q' v w z
 g0:∀ q v w z,get (F q v w z) 0=some (.cells [v])
 p0:∀ q v w z v',put (F q v w z) 0 (.cells [v'])=F q v' w z
 g1:∀ q v w z,get (F q v w z) 1=some (.cells [.d (.lst (bq ss))])
 g2:∀ q v w z,get (F q v w z) 2=some (.cells [.d (.int .i64 w),.d (.int .i64 z)])
 p2:∀ q v w z w' z',put (F q v w z) 2 (.cells [.d (.int .i64 w'),.d (.int .i64 z')])=F q v w' z'
 g3:∀ q v w z,get (F q v w z) 3=some (.cells [.ptr 2 0])
 gN:∀ q v w z,get (F q v w z) N=some (.cells [.d (.int .i64 g)])
abbrev aCQ (gs:List (List ao)) (g N:Nat):ar:=[(4,.ptr 0 0),(7,.ptr 1 0),(11,.ptr 3 0),(12,.ptr N 0),(32,.d (.lst (aC gs))),(33,.d (.int .i64 gs.length)),(34,.d (.int .i64 g)),(40,.fn dR [] [.ptr (N+1) 0])]
abbrev aie (gs:List (List ao)) (g N:Nat):Obj:=.loop (aCQ gs g N) [41,42] jA jB false none
theorem aBb {F:Obj→AV→Int→Int→ac}{L:Nat}(ss:List (List Int)) (hss:ss.length≤1000) (gs:List (List ao)) (hgs:gs.length≤1000) (g N:Nat) (H:LP F ss g L N) (t:List Int) (ht:t.length≤100000) (hg:(bq ss)[g]?=some [.lst (ai t)]) (a:Nat) (k:Int) (b:List Nat) (hb:b.length≤800000000) (w z:Int) (M:Nat) (n:Int) (r:List Int) (hd:t.drop a=n::r) (h0:k=0→n=0) (h1:k≠0→ib k n w z) (hk:0≤k∧k≤13) (hw:mS w) (hz:mS z) :
  bf (Dn prog) (.yield L) [.d (.int .i64 (a:Int)),.d (.int .i64 k)] ⟨F (aie gs g N) (.own false 1 (af b)) w z,M⟩=some (.d (.bool true),⟨F (aie gs g N) (.own false 1 (af (b++kW k n w z))) (fP k n w z).1 (fP k n w z).2,M⟩):=by
 have ha:=aU hd;have hn:=py hd;have gl:g<ss.length:=by
  obtain⟨h,_⟩:=List.getElem?_eq_some_iff.1 hg;simpa using h
 have T:=fun q v=>HX (hp:=fun w z=>F q v w z) (A:=2) ⟨fun s z=>H.g2 q v s z,fun s z s' z'=>H.p2 q v s z s' z'⟩ k n w z M
 by_cases k0:k=0
 ·have:=h0 k0;subst k0 this;simp (disch:=omega) [jA,jB,↓if_pos,↓if_neg,hg,hn,H.gl,H.pl,H.g1,H.gN,fP,kW];rfl
 ·have hT:=h1 k0;have hn5:=Xe hT;have T:=fun q v=>T q v (by omega) (by omega) (by omega)
  simp only[if_pos hT]at T;have e:(fP k n w z)=if k=13 then (w,n) else (n,z):=by rw[fP,if_neg k0]
  have es:kW k n w z=if k=13 then (if z<0 then aj n.toNat 9 else fQ 12 (n-z+60).toNat) else fQ 12 (n-w+60).toNat:=by grind [kW]
  unfold ib at hT;by_cases k13:k=13
  ·rw[if_pos k13]at hT;rw[e,if_pos k13,es,if_pos k13];simp only[if_pos k13]at T;subst k13;by_cases hz0:z<0
   ·rw[if_pos hz0];have p1:=jQ b n 9 (by omega) (by omega) _ (.inl rfl);have c9:(9:Int).toNat=9:=rfl;rw[if_pos (by grind),c9]at p1;simp (disch:=omega) [jA,jB,↓if_pos,↓if_neg,hg,hn,H.gl,H.pl,H.g0,H.p0,H.g1,H.g2,H.g3,H.gN,T,p1];rfl
   ·have p1:=aeZ b (by omega) _ (.inl rfl) (n-z) (by omega);simp (disch:=omega) [jA,jB,↓if_pos,↓if_neg,hg,hn,H.gl,H.pl,H.g0,H.p0,H.g1,H.g2,H.g3,H.gN,T,p1];rfl
  ·rw[if_neg k13]at hT;rw[e,if_neg k13,es,if_neg k13];have p1:=aeZ b (by omega) _ (.inl rfl) (n-w) (by omega);simp (disch:=omega) [jA,jB,↓if_neg,hg,hn,H.gl,H.pl,H.g0,H.p0,H.g1,H.g2,H.g3,H.gN,T,p1];rfl
abbrev FP (ss:List (List Int)) (g N:Nat) (l:List ao) (T:ac) (q:Obj) (v:AV) (w z:Int):ac :=
 (0,.cells [v])::(1,.cells [.d (.lst (bq ss))])::(2,.cells [.d (.int .i64 w),.d (.int .i64 z)])::(3,.cells [.ptr 2 0])::(N,.cells [.d (.int .i64 g)])::(N+1,.cells [.d (.lst (dL l))])::(N+1+1,q)::T
theorem aAK {ss:List (List Int)}{g N:Nat}{l:List ao}{T:ac}(hN:4≤N):LP (FP ss g N l T) ss g (N+1+1) N:=by
 constructor<;>intro q m w z<;>(try intro q')<;>(try intro q'')<;>simp (disch:=omega) [↓if_neg]
abbrev axW (ss:List (List Int)) (g N:Nat) (l:List ao) (q:Obj) (s:List Nat×Int×Int) (T:ac):ac:=FP ss g N l T q (.own false 1 (af s.1)) s.2.1 s.2.2
theorem aEe {ss:List (List Int)}{g N:Nat}{l:List ao}{q:Obj}(hN:4≤N):Tl (axW ss g N l q) (N+1+1+1):=by
 constructor
 ·intro s K o h;simp (disch:=omega) [↓if_neg]
 ·intro s K o o' h;simp (disch:=omega) [↓if_neg]
 ·intro s K o h;simp (disch:=omega) [↓if_neg]
 ·intro s K o h;simp (disch:=omega) [↓if_neg]
theorem ap4 {bks t:List Int}{a:Nat}{k n:Int}{w z:Int}(hk:bks[a]?=some k) (hd:t.drop a=n::t.drop (a+1)):kN (bks.drop a) (t.drop a) w z=kW k n w z++kN (bks.drop (a+1)) (t.drop (a+1)) (fP k n w z).1 (fP k n w z).2:=by
 grind [List.drop_eq_getElem_cons,kN]
theorem az3 (ss:List (List Int)) (hss:ss.length≤1000) (gs:List (List ao)) (hgs:gs.length≤1000) (g N:Nat) (hN:4≤N) (t:List Int) (ht:t.length≤100000) (hg:(bq ss)[g]?=some [.lst (ai t)]) (l:List ao) (hl:∀ k∈al l,0≤k∧k≤13) (hbl:(al l).length≤100000) (fin:Int×Int) (TOT:List Nat) :
  Rnd (axW ss g N l (aie gs g N)) noH (N+1+1+1) (N+1+1) (al l) (fun a k s=>.inl (s.1++kW k (nth t a) s.2.1 s.2.2,fP k (nth t a) s.2.1 s.2.2)) (fun a s=>(s.1.length≤700000000+20*a∧s.1++kN ((al l).drop a) (t.drop a) s.2.1 s.2.2=TOT)∧mS s.2.1∧mS s.2.2∧bK ((al l).drop a) (t.drop a) s.2.1 s.2.2=some fin):=by
 intro a k s K o M hk hi hK hM;obtain⟨⟨i0,i1⟩,i2,i3,i4⟩:=hi;obtain⟨n,d1,d2,d3,d4⟩:=afA hk (by rw[i4];simp);have hlt:a<(al l).length:=by grind
 have hn:nth t a=n:=by
  grind [aU,kR]
 have hkm:=hl k (by grind);rw[i4]at d4;rw[ap4 hk d1]at i1;have hsl:=afD (k:=k) (n:=n) (w:=s.2.1) (z:=s.2.2) d3;have hgo:mS (fP k n s.2.1 s.2.2).1∧mS (fP k n s.2.1 s.2.2).2:=by
  grind [fP]
 refine .inl ⟨(s.1++kW k n s.2.1 s.2.2,fP k n s.2.1 s.2.2),by simp_all,⟨⟨by grind,by simp_all⟩,hgo.1,hgo.2,d4.symm⟩,?_⟩;obtain⟨b,w,z⟩:=s;simp only at i0 i1 i2 i3;exact aBb ss hss gs hgs g N (aAK (ss:=ss) (g:=g) (l:=l) (T:=[(K,o)]) hN) t ht hg a k b (by omega) w z M n _ d1 d2 d3 hkm i2 i3
abbrev aEm (ss:List (List Int)) (v:AV) (w z:Int):ac:=[(0,.cells [v]),(1,.cells [.d (.lst (bq ss))]),(2,.cells [.d (.int .i64 w),.d (.int .i64 z)]),(3,.cells [.ptr 2 0])]
theorem RT:∀ {bks t:List Int}{w z:Int},bK bks t w z≠none→(kN bks t w z).length≤20*bks.length
 | [],[],_,_,_=>by simp[kN]
 | [],_::_,_,_,h=>absurd rfl h
 | _::_,[],_,_,h=>absurd rfl h
 | k::r,n::t,w,z,h=>by
  have h1:=lV h;have h2:=afD h1.2.1;have h3:=RT (by rw[h1.2.2]at h;exact h)
  grind [kN]
theorem lX {l:List ao}{lf:Int}(h:fitsS lf l) (h0:0≤lf):((al l).length:Int)=lf:=by
 induction l generalizing lf<;>grind [fitsS,al]
theorem akk (ss:List (List Int)) (hss:ss.length≤1000) (hss2:∀ t∈ss,t.length≤100000) (gs:List (List ao)) (hgs:gs.length≤1000) (m:Int) (hm:0≤m∧m≤1000):∀ (gr:List (List ao)) (sr:List (List Int)) (i N:Nat) (b:List Nat) (w z:Int),gs.drop i=gr→ss.drop i=sr→cP m gr→(∀ l∈gr,l.length≤1000)→mS w→mS z→jZ gr sr w z≠none→4≤N→b.length+20000*gr.length≤600000000→
  ∃ M w' z',(Dn prog).code (.loop pf) ⟨[(4,.ptr 0 0),(7,.ptr 1 0),(11,.ptr 3 0),(32,.d (.lst (aC gs))),(33,.d (.int .i64 gs.length)),(34,.d (.int .i64 i))],⟨aEm ss (.own false 1 (af b)) w z,N⟩⟩ =
  some (.exit 0,⟨[(4,.ptr 0 0)],⟨[(0,.cells [.own false 1 (af (b++kE gr sr w z))]),(2,.cells [.d (.int .i64 w'),.d (.int .i64 z')])],M⟩⟩):=by
 intro gr
 induction gr with
 | nil =>
  intro sr i N b w z hd hd2 hf hl hw hz hr hN hb;have hi:=aK hd;refine⟨N,w,z,?_⟩;have e:b++kE [] sr w z=b:=by grind [kE]
  rw[aa pf.eq_1,e];simp (disch:=omega) [↓if_pos,↓if_neg]
 | cons l r ih =>
  intro sr i N b w z hd hd2 hf hl hw hz hr hN hb;simp only[List.length_cons]at hb;have hg:=gw hd;have hlt:=aU hd;have hfl:=hf l (.head _);have hll:=hl l (.head _);have hbk:=lX hfl hm.1
  cases sr with
  | nil=>exact absurd rfl hr
  | cons t s =>
   have hgt:=xP hd2;have htl:=hss2 t (by rw[←List.take_append_drop i ss,hd2];simp);rw[jZ]at hr
   cases hrow:bK (al l) t w z with
   | none=>simp_all
   | some fin =>
    rw[hrow]at hr;have hrl:=RT (bks:=al l) (t:=t) (w:=w) (z:=z) (by simp_all);have hb1:=adg (p:=N+1) (aEe (ss:=ss) (g:=i) (l:=l) (q:=aie gs i N) hN) apm l (az3 ss hss gs hgs i N hN t htl hgt l (HA hfl) (by omega) fin (b++kN (al l) t w z)) (fun s=>by simp (disch:=omega) [↓if_neg]) hll (fun q hq=>by have:=(px hfl hm.2 q hq).1;omega) (N+1+1+1) (b,w,z) (Nat.le_refl _) ⟨⟨by grind,rfl⟩,hw,hz,by simp_all⟩;rcases hb1 with ⟨⟨b2,w2,z2⟩,M,e1,⟨⟨e2,e2'⟩,e3,e4,e5⟩,e6,e7⟩ | ⟨z,_⟩
    ·rw[List.drop_eq_nil_of_le (Nat.le_refl _)]at e5 e2';obtain⟨e8,e9⟩:=aiO e5;subst e8;have e10:b2=b++kN (al l) t w z:=by
      grind [kN]
     subst e10;obtain⟨M2,w3,z3,f⟩:=ih s (i+1) M (b++kN (al l) t w z) w2 z2 (aP hd) (aP hd2) (fun q hq=>hf q (.tail _ hq)) (fun q hq=>hl q (.tail _ hq)) e3 e4 hr (by omega) (by grind);refine⟨M2,w3,z3,?_⟩;have eT:b++kE (l::r) (t::s) w z=b++kN (al l) t w z++kE r s w2 z2:=by grind [kE]
     rw[aa pf.eq_1,eT,←f];simp (disch:=omega) [↓if_pos,↓if_neg,hg,Eh,rd,e7]
    grind
theorem ap0 (b:List Nat) (hb:b.length≤500000000) (x:AV) (hx:x=.d (.lst (af b))∨x=.nl∧b=[]) (gain m:Int) (g:List (List ao)) (t:List (List Int)) (hgn:0≤gain∧gain≤255) (hl:g.length≤8) (hm:0≤m∧m≤40) (hf:cP m g) (hf2:∀ l∈g,l.length≤1000) (ht:tc gain g t) (ht2:∀ l∈t,l.length≤100000) :
  aO prog EF [x,.d (.int .i64 gain),.d (.lst (aC g)),.d (.lst (bq t))]=some (.tup [.own true 1 (af (b++kE g t gain (-1))),.d (.int .i64 0)]):=by
 have h1:=amn gain m g t hgn hl hm hf hf2 ht ht2;have hlen:=DD ht;obtain⟨M,w,z,e⟩:=akk t (by omega) ht2 g (by omega) m (by omega) g t 0 4 b gain (-1) rfl rfl hf hf2 (by omega) (by omega) ht (Nat.le_refl _) (by omega);have c0:((0:Nat):Int)=0:=rfl;rw[c0]at e;have hp:=jQ b 0 0 (by omega) (by omega) x hx;rw[if_pos (by decide)]at hp;have t0:(0:Int).toNat=0:=rfl;rw[t0,aj,List.append_nil]at hp;rw[aq alk D8.eq_1 rfl];rcases hx with rfl | ⟨rfl,rfl⟩
 all_goals simp (disch:=omega) [↓if_pos,↓if_neg,h1,hp,e]
structure aR where
 len:Int
 order:Int
 down:Bool
 fine:Bool
 coefs:List Int
abbrev aR.cells (f:aR):List D:=[.int .i64 f.len,.int .i64 f.order,.bool f.down,.bool f.fine,.lst (ai f.coefs)]
abbrev aR.av (f:aR):List AV:=[.d (.int .i64 f.len),.d (.int .i64 f.order),.d (.bool f.down),.d (.bool f.fine),.d (.lst (ai f.coefs))]
def b7 (l:List aR):List (List D):=l.map aR.cells
@[simp] theorem asy {l:List aR}:(b7 l).length=l.length:=by simp[b7]
theorem rW {l:List aR}{i:Nat}{s:aR}{r:List aR}(h:l.drop i=s::r):(b7 l)[i]?=some [.int .i64 s.len,.int .i64 s.order,.bool s.down,.bool s.fine,.lst (ai s.coefs)]:=by
 grind [List.getElem?_cons_zero,b7]
def bi (t:List (List aR)):List (List D):=t.map fun l=>[.lst (b7 l)]
@[simp] theorem ae5 {t:List (List aR)}:(bi t).length=t.length:=by simp[bi]
theorem lT {g:List (List aR)}{i:Nat}{l:List aR}{r:List (List aR)}(h:g.drop i=l::r):(bi g)[i]?=some [.lst (b7 l)]:=by
 grind [List.getElem?_cons_zero,bi]
theorem ajD (h:Int):∀ (l:List Int),l.any (fun c=>decide (c < -h∨h≤c))=!decide (∀ c∈l,-h≤c∧c<h)
 | []=>by simp
 | c::r=>by
  grind
def bI (fine:Bool):Int:=if fine then 8 else 4
def uh (sh:Bool):Int:=if sh then 15 else 63
def qg (sh:Bool):Int:=if sh then 7 else 12
def uK (sh:Bool) (f:aR):Prop:=(0≤f.len∧f.len≤uh sh)∧(0≤f.order∧f.order≤qg sh)∧(f.coefs.length:Int)=f.order∧(f.order=0→f.down=false)∧∀ c∈f.coefs,-bI f.fine≤c∧c<bI f.fine
instance {sh:Bool}{f:aR}:Decidable (uK sh f):=by unfold uK;infer_instance
theorem Ct (b:Bool):aO prog jy [.d (.bool b)]=some (.d (.int .i64 (if b then 4 else 3))):=by
 rw[aq adr wF.eq_1 rfl]
 cases b<;>simp (disch:=omega)
theorem xw (b:Bool):aO prog ko [.d (.bool b)]=some (.d (.int .i64 (if b then 1 else 0))):=by
 rw[aq agm zA.eq_1 rfl]
 cases b<;>simp (disch:=omega)
def iD (sh:Bool):List AV:=if sh then [.d (.int .i64 1),.d (.int .i64 4),.d (.int .i64 3),.d (.int .i64 1),.d (.int .i64 7)] else [.d (.int .i64 2),.d (.int .i64 6),.d (.int .i64 5),.d (.int .i64 3),.d (.int .i64 12)]
def am.short (i:am):Bool:=decide (i.seq=2)
theorem qN (i:am):aO prog iL [.agg i.cells]=some (.agg (iD i.short)):=by
 rw[aq Xp uZ.eq_1 rfl];unfold iD am.short;by_cases h:i.seq=2
 ·simp (disch:=omega) [↓if_pos,h]
 ·simp (disch:=omega) [↓if_neg,h]
theorem aAN (m:Nat) (hm:m≤100000) (v:Int) (N:Nat):(Dn prog).call nP [.d (.int .i64 v),.ptr 0 0] ⟨[(0,.cells [.d (.int .i64 m)])],N⟩=some (.d (.bool (decide (v < -(m:Int)∨(m:Int)≤v))),⟨[(0,.cells [.d (.int .i64 m)])],N⟩):=by
 rw[aD VA uV.eq_1 rfl];by_cases h1:v < -(m:Int)
 ·simp (disch:=omega) [↓if_pos,h1]
 ·by_cases h2:(m:Int)≤v
  ·simp (disch:=omega) [↓if_pos,↓if_neg,h1,h2]
  ·simp (disch:=omega) [↓if_pos,↓if_neg,h1,h2]
theorem Eu (l:List Int) (hl:l.length≤1000000) (s:Nat) (hs:1≤s∧s≤10):aO prog kp [.d (.lst (ai l)),.d (.int .i64 s)]=some (.d (.bool (decide (∀ c∈l,-((2 ^ (s-1):Nat):Int)≤c∧c<((2 ^ (s-1):Nat):Int))))):=by
 have hp:2 ^ (s-1)≤2 ^ 10:=Nat.pow_le_pow_right (by omega) (by omega);have q2:=N3 (m:=s-1) (by omega);have c1:((s-1:Nat):Int)=(s:Int)-1:=by omega
 rw[c1]at q2;generalize 2 ^ (s-1)=P at *;have h1:=sE (.fn nP [] [.ptr 0 0]) (fun c=>decide (c < -(P:Int)∨(P:Int)≤c)) l (by omega) [(0,.cells [.d (.int .i64 P)])] 1 rfl rfl fun v _=>by
  have:=aAN P (by omega) v 1
  simp_all
 rw[ajD]at h1;rw[aq agM yP.eq_1 rfl];simp (disch:=omega) [-oW,q2,h1]
theorem ahd (i:am) (f:aR) (h:uK i.short f):aO prog uq [.agg i.cells,.agg f.av]=some (.d (.bool true)):=by
 obtain⟨⟨l1,l2⟩,⟨o1,o2⟩,c1,d1,c2⟩:=h;have hs:=qN i;have hw:=Ct f.fine;have hof:qg i.short≤12:=by grind [qg]
 have hft:=Eu f.coefs (by omega) (if f.fine then 4 else 3) (by grind);have hh:((2 ^ ((if f.fine then 4 else 3)-1):Nat):Int)=bI f.fine:=by grind [bI]
 rw[hh,decide_eq_true c2]at hft;have hc:(((if f.fine=true then 4 else 3:Nat)):Int)=if f.fine=true then 4 else 3:=by grind
 rw[hc]at hft;have hl:=fE (l:=f.coefs);generalize hW:(if f.fine=true then (4:Int) else 3)=W at *;simp only[am.cells]at hs;have hdn:f.order > 0∨f.order=0∧f.down=false:=by
  grind
 rw[aq VY ve.eq_1 rfl];unfold uh at l2;unfold qg at o2
 cases hsh:i.short with
 | true =>
  rw[hsh]at l2 o2 hs;simp only[iD,if_true]at l2 o2 hs;rcases hdn with hdn | ⟨h0,hdn⟩
  ·simp (disch:=omega) [↓if_pos,↓if_neg,hs,hw,hft]
  ·simp (disch:=omega) [↓if_pos,↓if_neg,hs,hw,hft,hdn]
 | false =>
  rw[hsh]at l2 o2 hs;simp only[iD]at l2 o2 hs;rcases hdn with hdn | ⟨h0,hdn⟩
  ·simp (disch:=omega) [↓if_pos,↓if_neg,hs,hw,hft]
  ·simp (disch:=omega) [↓if_pos,↓if_neg,hs,hw,hft,hdn]
theorem abP (F:AV) (P:aR→Bool) (l:List aR) (hl:l.length≤1000000000) (h:ac) (N0:Nat) (hF:firm (share F)=F) (hc:∀ f∈l,∀ N,N0≤N→bf (Dn prog) F [.agg f.av] ⟨h,N⟩=some (.d (.bool (P f)),⟨h,N+1⟩)):∀ (r:List aR) (i N:Nat),l.drop i=r→N0≤N→
  (r.any P=true∧∃ k M:Nat,N≤M∧(Dn prog).code (.loop bG) ⟨[(0,.d (.lst (b7 l))),(1,F),(7,.d (.int .i64 l.length)),(8,.d (.int .i64 i))],⟨h,N⟩⟩=some (.ret,⟨[(4,.d (.int .i64 k))],⟨h,M⟩⟩))∨
  (r.any P=false∧∃ M,N≤M∧(Dn prog).code (.loop bG) ⟨[(0,.d (.lst (b7 l))),(1,F),(7,.d (.int .i64 l.length)),(8,.d (.int .i64 i))],⟨h,N⟩⟩=some (.exit 0,⟨[],⟨h,M⟩⟩)):=by
 intro r
 induction r with
 | nil =>
  intro i N hd hN;have hi:=aK hd;refine .inr ⟨rfl,N,Nat.le_refl _,?_⟩;rw[aa bG.eq_1];simp (disch:=omega) [↓if_neg]
 | cons v r ih =>
  intro i N hd hN;have hg:=rW hd;have hlt:=aU hd;have hv:=hc v (by rw[←List.take_append_drop i l,hd];simp) N hN;have h5:=ih (i+1) (N+1) (aP hd) (by omega)
  cases hp:P v with
  | true =>
   rw[hp]at hv;refine .inl ⟨by simp_all,i,N+1,by omega,?_⟩;rw[aa bG.eq_1];simp (disch:=omega) [↓if_pos,hg,hF,hv]
  | false =>
   rw[hp]at hv;rw[List.any_cons,hp,Bool.false_or];rcases h5 with ⟨e1,k,M,e3,e2⟩ | ⟨e1,M,e3,e2⟩
   ·refine .inl ⟨e1,k,M,by omega,?_⟩;rw[aa bG.eq_1,←e2];simp (disch:=omega) [↓if_pos,hg,hF,hv]
   ·refine .inr ⟨e1,M,by omega,?_⟩;rw[aa bG.eq_1,←e2];simp (disch:=omega) [↓if_pos,hg,hF,hv]
theorem wE (F:AV) (P:aR→Bool) (l:List aR) (hl:l.length≤1000000000) (h:ac) (N:Nat) (hF:firm (share F)=F) (hF2:firm F=F) (hc:∀ f∈l,∀ M,N≤M→bf (Dn prog) F [.agg f.av] ⟨h,M⟩=some (.d (.bool (P f)),⟨h,M+1⟩)) :
  ∃ M,N≤M∧(Dn prog).call bW [.d (.lst (b7 l)),F] ⟨h,N⟩=some (.d (.bool (l.any P)),⟨h,M⟩):=by
 have h1:=abP F P l hl h N hF hc l 0 N rfl (Nat.le_refl _);have c0:((0:Nat):Int)=0:=rfl;rw[c0]at h1;have h2:∃ (k:Int) (M:Nat),N≤M∧(0≤k↔l.any P=true)∧(Dn prog).call jg [.d (.lst (b7 l)),F] ⟨h,N⟩=some (.d (.int .i64 k),⟨h,M⟩):=by
  rcases h1 with ⟨e1,k,M,e3,e2⟩ | ⟨e1,M,e3,e2⟩
  ·refine⟨k,M,e3,⟨fun _=>e1,fun _=>by omega⟩,?_⟩;rw[aD mL fg.eq_1 rfl];simp (disch:=omega) [e2]
  ·refine⟨-1,M,e3,⟨fun h=>by omega,fun h=>by simp_all⟩,?_⟩;rw[aD mL fg.eq_1 rfl];simp (disch:=omega) [e2]
 obtain⟨k,M,e3,e1,e2⟩:=h2;refine⟨M,e3,?_⟩;rw[aD vX gD.eq_1 rfl]
 cases hp:l.any P with
 | true =>
  have:=e1.2 hp;simp (disch:=omega) [↓if_pos,hF2,e2]
 | false =>
  have:¬ 0≤k:=fun h=>by simp_all
  simp (disch:=omega) [↓if_neg,hF2,e2]
theorem afT (lo hi v:Int) (hlo:-100≤lo∧lo≤0) (hhi:0≤hi∧hi≤100) (X:Obj) (N:Nat):(Dn prog).call kD [.d (.int .i64 v),.ptr 1 0,.ptr 2 0] ⟨[(0,X),(1,.cells [.d (.int .i64 lo)]),(2,.cells [.d (.int .i64 hi)])],N⟩=some (.d (.bool (decide (v<lo∨hi<v))),⟨[(0,X),(1,.cells [.d (.int .i64 lo)]),(2,.cells [.d (.int .i64 hi)])],N⟩):=by
 rw[aD Xa u5.eq_1 rfl];by_cases h1:v<lo
 ·simp (disch:=omega) [↓if_pos,h1]
 ·by_cases h2:hi<v
  ·simp (disch:=omega) [↓if_pos,↓if_neg,h1,h2]
  ·simp (disch:=omega) [↓if_pos,↓if_neg,h1,h2]
theorem apl (X:Obj) (l:List Int) (hl:l.length≤1000000) (fine:Bool):(Dn prog).call cu [.d (.lst (ai l)),.fn kD [] [.ptr 1 0,.ptr 2 0]] ⟨[(0,X),(1,.cells [.d (.int .i64 (-bI fine))]),(2,.cells [.d (.int .i64 (bI fine-1))])],3⟩ =
  some (.d (.bool (!decide (∀ c∈l,-bI fine≤c∧c<bI fine))),⟨[(0,X),(1,.cells [.d (.int .i64 (-bI fine))]),(2,.cells [.d (.int .i64 (bI fine-1))])],3⟩):=by
 have hh:4≤bI fine∧bI fine≤8:=by grind [bI]
 have h1:=sE (.fn kD [] [.ptr 1 0,.ptr 2 0]) (fun c=>decide (c < -bI fine∨bI fine-1<c)) l (by omega) [(0,X),(1,.cells [.d (.int .i64 (-bI fine))]),(2,.cells [.d (.int .i64 (bI fine-1))])] 3 rfl rfl fun v _=>by
  have:=afT (-bI fine) (bI fine-1) v (by omega) (by omega) X 3
  simp_all
 have e:(fun c:Int=>decide (c < -bI fine∨bI fine-1<c))=fun c=>decide (c < -bI fine∨bI fine≤c):=by
  grind
 rw[e,ajD]at h1;exact h1
theorem alE (sh:Bool) (f:aR) (hl:f.coefs.length≤1000000):aO prog zh [.agg f.av,.d (.bool sh)]=some (.d (.bool (decide (uK sh f)))):=by
 rw[aq af8 yR.eq_1 rfl];have hll:=fE (l:=f.coefs);have hls:uh sh=if sh then 15 else 63:=rfl
 have hos:qg sh=if sh then 7 else 12:=rfl
 by_cases a1:0≤f.len∧f.len≤uh sh
 ·by_cases a2:0≤f.order∧f.order≤qg sh
  ·by_cases a3:(f.coefs.length:Int)=f.order
   ·by_cases a4:f.order=0∧f.down=true
    ·rw[decide_eq_false (fun h=>by have:=h.2.2.2.1 a4.1;simp_all)];obtain⟨a4,a5⟩:=a4
     cases sh<;>simp only[uh,qg,if_true,Bool.false_eq_true,if_false]at a1 a2<;>simp (disch:=omega) [↓if_pos,↓if_neg,a5]
    ·have hc:=apl (.cells f.av) f.coefs hl f.fine;have hd:decide (uK sh f)=decide (∀ c∈f.coefs,-bI f.fine≤c∧c<bI f.fine):=by
      rw[decide_eq_decide];refine⟨fun h=>h.2.2.2.2,fun h=>⟨a1,a2,a3,fun h0=>?_,h⟩⟩
      simp_all
     rw[hd];generalize decide (∀ c∈f.coefs,-bI f.fine≤c∧c<bI f.fine)=B at *;have h4:bI false=4:=rfl;have h8:bI true=8:=rfl;by_cases h0:f.order=0
     ·have hdn:f.down=false:=by
       simp_all
      cases hfn:f.fine<;>simp only[hfn,h4,h8,Int.reduceNeg,Int.reduceSub]at hc<;>cases sh<;>simp only[uh,qg,if_true,Bool.false_eq_true,if_false]at a1 a2<;>simp (disch:=omega) [↓if_pos,↓if_neg,hdn,hfn,hc]
     ·cases hfn:f.fine<;>simp only[hfn,h4,h8,Int.reduceNeg,Int.reduceSub]at hc<;>cases sh<;>simp only[uh,qg,if_true,Bool.false_eq_true,if_false]at a1 a2<;>simp (disch:=omega) [↓if_pos,↓if_neg,hfn,hc]
   ·rw[decide_eq_false (fun h=>a3 h.2.2.1)]
    cases sh<;>simp only[uh,qg,if_true,Bool.false_eq_true,if_false]at a1 a2<;>simp (disch:=omega) [↓if_pos,↓if_neg]
  ·rw[decide_eq_false (fun h=>a2 h.2.1)];by_cases b1:f.order<0
   ·cases sh<;>simp only[uh,qg,if_true,Bool.false_eq_true,if_false]at a1 a2<;>simp (disch:=omega) [↓if_pos,↓if_neg]
   ·cases sh<;>simp only[uh,qg,if_true,Bool.false_eq_true,if_false]at a1 a2<;>simp (disch:=omega) [↓if_pos,↓if_neg]
 ·rw[decide_eq_false (fun h=>a1 h.1)];by_cases b1:f.len<0
  ·cases sh<;>simp only[uh,if_true,Bool.false_eq_true,if_false]at a1<;>simp (disch:=omega) [↓if_pos]
  ·cases sh<;>simp only[uh,if_true,Bool.false_eq_true,if_false]at a1<;>simp (disch:=omega) [↓if_pos,↓if_neg]
def Lt (H:ac) (N:Nat):Prop:=∀ p∈H,p.1<N
theorem pJ {H:ac}{N:Nat}{o:Obj}(h:Lt H N):put H N o=H++[(N,o)]:=by
 induction H with
 | nil=>rfl
 | cons p r ih =>
  obtain⟨k,v⟩:=p;have h1:=h (k,v) (.head _);simp only at h1;rw[mf,if_neg (by omega),if_neg (by omega),ih (fun p hp=>h p (.tail _ hp)),List.cons_append]
theorem GM {H:ac}{N:Nat}{o o':Obj}(h:Lt H N):put (H++[(N,o)]) N o'=H++[(N,o')]:=by
 induction H with
 | nil=>rw[List.nil_append,mf,if_pos rfl];rfl
 | cons p r ih =>
  obtain⟨k,v⟩:=p;have h1:=h (k,v) (.head _);simp only at h1;rw[List.cons_append,mf,if_neg (by omega),if_neg (by omega),ih (fun p hp=>h p (.tail _ hp)),List.cons_append]
theorem tk {H:ac}{N:Nat}{o:Obj}(h:Lt H N):get (H++[(N,o)]) N=some o:=by
 induction H with
 | nil=>rw[List.nil_append,dH,if_pos rfl]
 | cons p r ih =>
  obtain⟨k,v⟩:=p;have h1:=h (k,v) (.head _);simp only at h1;rw[List.cons_append,dH,if_neg (by omega),ih (fun p hp=>h p (.tail _ hp))]
theorem wh {H:ac}{N k:Nat}{o o':Obj}(h:get H k=some o'):get (H++[(N,o)]) k=some o':=by
 induction H with
 | nil=>exact absurd h (by simp[tj])
 | cons p r ih =>
  obtain⟨j,v⟩:=p;rw[dH]at h;rw[List.cons_append,dH];by_cases hj:j=k
  ·rw[if_pos hj]at h⊢;exact h
  ·rw[if_neg hj]at h⊢;exact ih h
theorem No {H:ac}{N:Nat}{o:Obj}(h:Lt H N):del (H++[(N,o)]) N=H:=by
 induction H with
 | nil=>rw[List.nil_append,iW,if_pos rfl];rfl
 | cons p r ih =>
  obtain⟨k,v⟩:=p;have h1:=h (k,v) (.head _);simp only at h1;rw[List.cons_append,iW,if_neg (by omega),ih (fun p hp=>h p (.tail _ hp))]
theorem DG {H:ac}{N M:Nat}(h:Lt H N) (hm:N≤M):Lt H M:=fun p hp=>Nat.lt_of_lt_of_le (h p hp) hm
theorem Gb {H:ac}{N:Nat}{o:Obj}(h:Lt H N):Lt (H++[(N,o)]) (N+1):=by
 intro p hp;rcases List.mem_append.1 hp with h1 | h1
 ·have:=h p h1;omega
 ·rw[List.mem_singleton]at h1;subst h1;exact Nat.lt_succ_self _
@[simp] theorem aEH (a b:Bool):aic true (.d (.bool a)) (.d (.bool b))=some (.bool (a != b)):=by cases a<;>cases b<;>rfl
def Tr (sh:Bool) (f0 f:aR):Bool:=!decide (uK sh f) || f.fine != f0.fine
theorem apW (sh:Bool) (f0:aR) (l:List aR) (f:aR) (hf:f.coefs.length≤1000000) (H:ac) (p q M:Nat) (hp:get H p=some (.cells [.d (.bool sh)])) (hq:get H q=some (.cells [.d (.lst (b7 (f0::l)))])) (hl:(f0::l).length≤1000000) (hM:Lt H M) :
  (Dn prog).call gT [.agg f.av,.ptr p 0,.ptr q 0] ⟨H,M⟩=some (.d (.bool (Tr sh f0 f)),⟨H,M+1⟩):=by
 have e1:=fun o=>pJ (o:=o) hM
 have e2:=fun o=>tk (o:=o) hM
 have e3:=fun o=>wh (N:=M) (o:=o) hp
 have e4:=fun o=>wh (N:=M) (o:=o) hq
 have e5:=fun o=>No (o:=o) hM
 have e6:=alE sh f hf;have hg:=rW (l:=f0::l) (i:=0) (s:=f0) (r:=l) rfl;unfold Tr;rw[aD SB so.eq_1 rfl];simp only[aR.av]at e6⊢;simp only[List.length_cons]at hl
 cases hB:decide (uK sh f) with
 | false =>
  rw[hB]at e6;simp (maxSteps:=300000) (disch:=omega) [↓if_pos,↓if_neg,e1,e2,e3,e4,e5,e6,hg]
 | true =>
  rw[hB]at e6
  cases hf1:f.fine<;>cases hf2:f0.fine<;>rw[hf1]at e6<;>rw[hf2]at hg<;>
   simp (maxSteps:=300000) (disch:=omega) [↓if_pos,↓if_neg,e1,e2,e3,e4,e5,e6,hg]
structure bJ where
 gain:Int
 info:am
 sects:List (List ao)
 steps:List (List Int)
 tns:List (List aR)
 lines:List Int
abbrev bJ.av (c:bJ):List AV:=[.d (.int .i64 c.gain),.d (.int .u8 c.info.seq),.d (.int .u8 c.info.shape),.d (.int .i64 c.info.max),.d (.lst (ai c.info.groups)),.d (.lst (aC c.sects)),.d (.lst (bq c.steps)),.d (.lst (bi c.tns)),.d (.lst (ai c.lines))]
structure bJ.Fit (c:bJ):Prop where
 gain:i64 c.gain
 info:c.info.Fit
 sects:asz c.sects
 secI:∀ l∈c.sects,∀ s∈l,i64 s.book∧i64 s.len
 steps:c.steps.length≤1000∧∀ l∈c.steps,l.length≤1000
 stepI:∀ l∈c.steps,∀ n∈l,i64 n
 tns:c.tns.length≤1000∧∀ l∈c.tns,l.length≤1000∧∀ f∈l,f.coefs.length≤1000
 fltI:∀ l∈c.tns,∀ f∈l,(i64 f.len∧i64 f.order)∧∀ x∈f.coefs,i64 x
 lines:c.lines.length≤100000
 lineI:∀ n∈c.lines,i64 n
def kJ (sh:Bool):Nat:=if sh then 1 else 3
def mw (sh:Bool) (l:List aR):Prop:=l.length≤kJ sh∧∀ f0∈l.head?,∀ f∈l,uK sh f∧f.fine=f0.fine
abbrev VB (i:am) (t:List (List aR)):Prop:=t.length=i.many∧∀ l∈t,mw i.short l
theorem axp {sh:Bool}{f0:aR}{l:List aR}:l.any (Tr sh f0)=false↔∀ f∈l,uK sh f∧f.fine=f0.fine:=by
 rw[List.any_eq_false];constructor
 ·intro h f hf;have:=h f hf;simp only[Tr,Bool.or_eq_true,Bool.not_eq_true',decide_eq_false_iff_not,bne_iff_ne,not_or,Decidable.not_not]at this;exact this
 ·intro h f hf;have:=h f hf;simp[Tr,this.1,this.2]
def Z9 (sh:Bool):List aR→Bool
 | []=>false
 | f0::r=>(f0::r).any (Tr sh f0)
theorem ajn {sh:Bool}{l:List aR}:mw sh l↔l.length≤kJ sh∧Z9 sh l=false:=by
 unfold mw
 cases l with
 | nil=>simp[Z9]
 | cons f0 r0 =>
  simp only[Z9,axp];constructor
  ·intro h;exact⟨h.1,h.2 f0 (by simp)⟩
  ·intro h;exact⟨h.1,fun f hf=>by simp at hf;subst hf;exact h.2⟩
instance {sh:Bool}{l:List aR}:Decidable (mw sh l):=decidable_of_iff _ ajn.symm
theorem Wl (sh:Bool) (full:List (List aR)) (hl:full.length≤1000) (hl2:∀ l∈full,l.length≤1000∧∀ f∈l,f.coefs.length≤1000):∀ (r:List (List aR)) (i N:Nat) (H:ac),full.drop i=r→get H 1=some (.cells [.d (.bool sh)])→Lt H N→2≤N→
  ((∀ l∈r,mw sh l)∧∃ H2 M,(Dn prog).code (.loop dE) ⟨[(5,.ptr 1 0),(6,.d (.int .i64 (kJ sh))),(20,.d (.lst (bi full))),(21,.d (.int .i64 full.length)),(22,.d (.int .i64 i))],⟨H,N⟩⟩=some (.exit 0,⟨[],⟨H2,M⟩⟩))∨
  ((¬ ∀ l∈r,mw sh l)∧∃ H2 M,(Dn prog).code (.loop dE) ⟨[(5,.ptr 1 0),(6,.d (.int .i64 (kJ sh))),(20,.d (.lst (bi full))),(21,.d (.int .i64 full.length)),(22,.d (.int .i64 i))],⟨H,N⟩⟩=some (.ret,⟨[(4,.d (.bool false))],⟨H2,M⟩⟩)):=by
 intro r
 induction r with
 | nil =>
  intro i N H hd hH hL hN;have hi:=aK hd;refine .inl ⟨by simp,H,N,?_⟩;rw[aa dE.eq_1];simp (maxSteps:=300000) (disch:=omega) [↓if_neg]
 | cons l r ih =>
  intro i N H hd hH hL hN;have hg:=lT hd;have hlt:=aU hd;obtain⟨hll,hlc⟩:=hl2 l (by rw[←List.take_append_drop i full,hd];simp);have hm:kJ sh≤3:=by unfold kJ;split<;>omega
  have e1:=fun o=>pJ (o:=o) hL
  have e2:=fun o=>tk (o:=o) hL
  have e3:=fun o=>wh (N:=N) (o:=o) hH
  have e4:=fun o o'=>GM (o:=o) (o':=o') hL
  have c1:((i+1:Nat):Int)=(i:Int)+1:=rfl;by_cases h1:l.length≤kJ sh
  ·have hcf:∃ M,N+1≤M∧(Dn prog).call bW [.d (.lst (b7 l)),.fn gT [] [.ptr 1 0,.ptr N 0]] ⟨H++[(N,.cells [.d (.lst (b7 l))])],N+1⟩=some (.d (.bool (Z9 sh l)),⟨H++[(N,.cells [.d (.lst (b7 l))])],M⟩):=by
    cases l with
    | nil =>
     exact wE (.fn gT [] [.ptr 1 0,.ptr N 0]) (fun _=>false) [] (by simp) _ (N+1) rfl rfl fun f hf=>by simp at hf
    | cons f0 r0 =>
     refine wE (.fn gT [] [.ptr 1 0,.ptr N 0]) (Tr sh f0) (f0::r0) (by omega) _ (N+1) rfl rfl fun f hf M hM=>?_
     have:=apW sh f0 r0 f (by have:=hlc f hf;omega) (H++[(N,.cells [.d (.lst (b7 (f0::r0)))])]) 1 N M (e3 _) (e2 _) (by omega) (DG (Gb hL) hM);simpa using this
   obtain⟨M,hM,e5⟩:=hcf;have hW:Z9 sh l=false↔mw sh l:=by rw[ajn];exact⟨fun h=>⟨h1,h⟩,fun h=>h.2⟩
   generalize Z9 sh l=B at *
   cases B with
   | true =>
    refine .inr ⟨fun h=>?_,H++[(N,.cells [.d (.lst (b7 l))])],M,?_⟩
    ·have:=hW.2 (h l (.head _));exact absurd this (by simp)
    ·rw[aa dE.eq_1];simp (maxSteps:=300000) (disch:=omega) [↓if_pos,↓if_neg,hg,e1,e2,e4,e5]
   | false =>
    have hw:=hW.1 rfl;have h5:=ih (i+1) M (H++[(N,.cells [.d (.lst (b7 l))])]) (aP hd) (e3 _) (DG (Gb hL) hM) (by omega);rw[c1]at h5;rcases h5 with ⟨f1,H2,M2,f2⟩ | ⟨f1,H2,M2,f2⟩
    ·refine .inl ⟨fun q hq=>?_,H2,M2,?_⟩
     ·rcases List.mem_cons.1 hq with h | h
      ·rw[h];exact hw
      ·exact f1 q h
     ·rw[aa dE.eq_1,←f2];simp (maxSteps:=300000) (disch:=omega) [↓if_pos,↓if_neg,hg,e1,e2,e4,e5]
    ·refine .inr ⟨fun h=>f1 fun q hq=>h q (.tail _ hq),H2,M2,?_⟩;rw[aa dE.eq_1,←f2];simp (maxSteps:=300000) (disch:=omega) [↓if_pos,↓if_neg,hg,e1,e2,e4,e5]
  ·refine .inr ⟨fun h=>h1 (h l (.head _)).1,H++[(N,.cells [.d (.lst (b7 l))])],N+1,?_⟩;rw[aa dE.eq_1];simp (maxSteps:=300000) (disch:=omega) [↓if_pos,↓if_neg,hg,e1,e2,e4]
theorem aiz (c:bJ) (hc:c.Fit) (w:Nat) (hw:w≤8):aO prog pW [.agg c.av,.d (.int .i64 w)]=some (.d (.bool (decide (c.tns.length=w∧∀ l∈c.tns,mw c.info.short l)))):=by
 have hl:=hc.tns.1;have h0:=Wl c.info.short c.tns hc.tns.1 hc.tns.2 c.tns 0 2 [(1,.cells [.d (.bool c.info.short)])] rfl (by simp) (fun p hp=>by rw[List.mem_singleton]at hp;subst hp;show 1<2;omega) (by omega);have c0:((0:Nat):Int)=0:=rfl;rw[c0]at h0;have m1:((1:Nat):Int)=1:=rfl;have m3:((3:Nat):Int)=3:=rfl;rw[aq aa9 wY.eq_1 rfl];by_cases h1:c.tns.length=w
 ·have hsh:c.info.short=decide (c.info.seq=2):=rfl;have e:decide (c.tns.length=w∧∀ l∈c.tns,mw c.info.short l)=decide (∀ l∈c.tns,mw c.info.short l):=by simp[h1]
  rw[e];rcases h0 with ⟨f1,H2,M2,f2⟩ | ⟨f1,H2,M2,f2⟩
  ·rw[decide_eq_true f1];by_cases hs:c.info.seq=2
   ·rw[decide_eq_true hs]at hsh;rw[hsh]at f2;simp only[kJ,if_true,m1]at f2;simp (maxSteps:=300000) (disch:=omega) [↓if_pos,↓if_neg,f2]
   ·rw[decide_eq_false hs]at hsh;rw[hsh]at f2;simp only[kJ,Bool.false_eq_true,if_false,m3]at f2;simp (maxSteps:=300000) (disch:=omega) [↓if_pos,↓if_neg,f2]
  ·rw[decide_eq_false f1];by_cases hs:c.info.seq=2
   ·rw[decide_eq_true hs]at hsh;rw[hsh]at f2;simp only[kJ,if_true,m1]at f2;simp (maxSteps:=300000) (disch:=omega) [↓if_pos,↓if_neg,f2]
   ·rw[decide_eq_false hs]at hsh;rw[hsh]at f2;simp only[kJ,Bool.false_eq_true,if_false,m3]at f2;simp (maxSteps:=300000) (disch:=omega) [↓if_pos,↓if_neg,f2]
 ·rw[decide_eq_false (fun h=>h1 h.1)];by_cases hs:c.info.seq=2
  ·simp (maxSteps:=300000) (disch:=omega) [↓if_pos,↓if_neg]
  ·simp (maxSteps:=300000) (disch:=omega) [↓if_pos,↓if_neg]
def zL:Int→List ao→Option Int
 | a,[]=>some a
 | a,s::r=>if (1≤s.len∧s.len≤40)∧FL s.book then zL (a+s.len) r else none
theorem acT:∀ {l:List ao}{a v:Int},zL a l=some v→a+l.length≤v∧v≤a+40*l.length
 | [],a,v,h=>by simp only[zL]at h;injection h with h;simp;omega
 | s::r,a,v,h=>by
  rw[zL]at h;split at h
  ·rename_i h1;have:=acT h;simp only[List.length_cons];omega
  ·exact absurd h (by simp)
theorem KY {m:Int}(hm:m≤40):∀ {l:List ao}{a:Int},0≤a→(zL a l=some m↔fitsS (m-a) l)
 | [],a,h=>by
  simp only[zL,fitsS,Option.some.injEq];omega
 | s::r,a,h=>by
  rw[zL,fitsS];by_cases h1:(1≤s.len∧s.len≤40)∧FL s.book
  ·rw[if_pos h1,KY hm (by omega)];have e:m-(a+s.len)=m-a-s.len:=by omega
   rw[e];constructor
   ·intro h2;refine⟨⟨⟨h1.1.1,?_⟩,h1.2⟩,h2⟩;have:=(KY (l:=r) (a:=a+s.len) hm (by omega)).2 (by rw[e];exact h2);have:=acT this;omega
   ·intro h2;exact h2.2
  ·rw[if_neg h1];constructor
   ·intro h2;exact absurd h2 (by simp)
   ·intro h2;obtain⟨⟨⟨a1,a2⟩,a3⟩,a4⟩:=h2;exact absurd ⟨⟨a1,by omega⟩,a3⟩ h1
theorem SO (full:List ao) (hl:full.length≤1000) (X:Obj) (x4:AV) (x17:AV) (y18 y19:D):∀ (r:List ao) (i:Nat) (a:Int) (N:Nat),full.drop i=r→0≤a∧a≤40*i→1≤N→
  ∃ M,N≤M∧(Dn prog).code (.loop iG) ⟨[(1,.ptr 0 0),(4,x4),(5,.d (.int .i64 a)),(17,x17),(18,.d y18),(19,.d y19),(23,.d (.lst (dL full))),(24,.d (.int .i64 full.length)),(25,.d (.int .i64 i))],⟨[(0,X)],N⟩⟩ =
  match zL a r with
  | some v=>some (.exit 2,⟨[(1,.ptr 0 0),(4,x4),(5,.d (.int .i64 v)),(17,x17),(18,.d y18),(19,.d y19)],⟨[(0,X)],M⟩⟩)
  | none=>some (.ret,⟨[(2,.d (.bool false))],⟨[],M⟩⟩):=by
 intro r
 induction r with
 | nil =>
  intro i a N h h0 hN;have hi:=aK h;refine⟨N,Nat.le_refl _,?_⟩;rw[aa iG.eq_1,zL];simp (maxSteps:=300000) (disch:=omega) [↓if_pos,↓if_neg]
 | cons s r ih =>
  intro i a N h h0 hN;have hg:=oj h;have hlt:=aU h;have hN0:N≠0:=by omega
  by_cases hr:(1≤s.len∧s.len≤40)∧FL s.book
  ·have hr1:=hr.1;obtain⟨M,hM,e⟩:=ih (i+1) (a+s.len) (N+1) (aP h) (by omega) (by omega);refine⟨M,by omega,?_⟩;have c1:((i+1:Nat):Int)=(i:Int)+1:=rfl;rw[c1]at e;rw[aa iG.eq_1,zL,if_pos hr,←e];obtain⟨⟨r1,r2⟩,r3,r4 | r4⟩:=hr
   ·simp (maxSteps:=300000) (disch:=omega) [↓if_pos,↓if_neg,hg,hN0]
   ·simp (maxSteps:=300000) (disch:=omega) [↓if_pos,↓if_neg,hg,hN0]
  ·refine⟨N+1,by omega,?_⟩;rw[aa iG.eq_1,zL,if_neg hr];by_cases b1:s.len<1
   ·simp (maxSteps:=300000) (disch:=omega) [↓if_pos,↓if_neg,hg,hN0]
   ·by_cases b2:40<s.len
    ·simp (maxSteps:=300000) (disch:=omega) [↓if_pos,↓if_neg,hg,hN0]
    ·by_cases b3:s.book<0
     ·simp (maxSteps:=300000) (disch:=omega) [↓if_pos,↓if_neg,hg,hN0]
     ·have b4:11<s.book∧s.book≠13:=by
       unfold FL at hr;omega
      obtain⟨b4,b5⟩:=b4;simp (maxSteps:=300000) (disch:=omega) [↓if_pos,↓if_neg,hg,hN0]
theorem avA:∀ x∈AF,nU x.1 x.2≤40:=by decide +kernel
theorem jx {i:am}(hm:i.may 11):0≤i.max∧i.max≤40:=by
 have h1:=hm.2.2.1;have h2:=hm.2.2.2.1;have h3:=avA _ (dI (r:=11) (s:=decide (i.seq=2)) (by omega));simp only[]at h3;omega
theorem Ut (c:bJ) (hm:0≤c.info.max∧c.info.max≤40) (hl:c.sects.length≤1000) (hl2:∀ l∈c.sects,l.length≤1000):∀ (g:List (List ao)) (j:Nat) (N:Nat),c.sects.drop j=g→1≤N→
  ∃ H M,(Dn prog).code (.loop fA) ⟨[(1,.ptr 0 0),(17,.d (.lst (aC c.sects))),(18,.d (.int .i64 c.sects.length)),(19,.d (.int .i64 j))],⟨[(0,.cells c.av)],N⟩⟩ =
  if cP c.info.max g then some (.exit 0,⟨[],⟨H,M⟩⟩) else some (.ret,⟨[(2,.d (.bool false))],⟨H,M⟩⟩):=by
 simp only[bJ.av];intro g
 induction g with
 | nil =>
  intro j N h hN;have hi:=aK h;refine⟨[],N,?_⟩;rw[aa fA.eq_1,if_pos (show cP c.info.max [] from fun _ h=>by simp at h)];simp (maxSteps:=300000) (disch:=omega) [↓if_pos,↓if_neg]
 | cons l r ih =>
  intro j N h hN;have hg:=gw h;have hlt:=aU h;have hll:l.length≤1000:=hl2 l (by rw[←List.take_append_drop j c.sects,h];simp);obtain⟨M,hM,e⟩:=SO l hll (.cells c.av) (.d (.lst (dL l))) (.d (.lst (aC c.sects))) (.int .i64 c.sects.length) (.int .i64 j) l 0 0 N rfl (by omega) hN;have c0:((0:Nat):Int)=0:=rfl;rw[c0]at e;simp only[bJ.av]at e;have hiff:=KY (m:=c.info.max) hm.2 (l:=l) (a:=0) (by omega);rw[Int.sub_zero]at hiff
  cases hrm:zL 0 l with
  | none =>
   rw[hrm]at e hiff;refine⟨[],M,?_⟩;have hn:¬ cP c.info.max (l::r):=fun h=>absurd (hiff.2 (h l (.head _))) (by simp)
   rw[aa fA.eq_1,if_neg hn];simp (maxSteps:=300000) (disch:=omega) [↓if_pos,↓if_neg,hg,e]
  | some v =>
   rw[hrm]at e hiff;have hv:=acT hrm;by_cases h9:v=c.info.max
   ·subst h9;have hf:=hiff.1 rfl;obtain⟨H2,M2,e2⟩:=ih (j+1) M (aP h) (by omega);refine⟨H2,M2,?_⟩;have hx:cP c.info.max (l::r)↔cP c.info.max r:=by simp[cP,hf]
    have c1:((j+1:Nat):Int)=(j:Int)+1:=rfl;rw[c1]at e2;rw[aa fA.eq_1,auv hx,←e2];simp (maxSteps:=300000) (disch:=omega) [↓if_pos,↓if_neg,hg,e]
   ·refine⟨[],M,?_⟩;have hn:¬ cP c.info.max (l::r):=fun h=>by
     have:=hiff.2 (h l (.head _));injection this with this;exact h9 this
    rw[aa fA.eq_1,if_neg hn];simp (maxSteps:=300000) (disch:=omega) [↓if_pos,↓if_neg,hg,e]
instance {m:Int}{g:List (List ao)}:Decidable (cP m g):=by unfold cP;infer_instance
theorem ahG (c:bJ) (hc:c.Fit) (hm:c.info.may 11):aO prog nT [.agg c.av]=some (.d (.bool (decide (gX c.info c.sects)))):=by
 obtain⟨H,M,e⟩:=Ut c (jx hm) hc.sects.1 hc.sects.2 c.sects 0 1 rfl (by omega);have c0:((0:Nat):Int)=0:=rfl;rw[c0]at e;simp only[bJ.av]at e⊢;have hl1:=hc.sects.1;have hl2:=hc.info.len;rw[aq VL uP.eq_1 rfl];by_cases h1:c.sects.length=c.info.groups.length
 ·by_cases h2:cP c.info.max c.sects
  ·rw[decide_eq_true ⟨h1,h2⟩];rw[if_pos h2]at e;simp (maxSteps:=300000) (disch:=omega) [↓if_pos,↓if_neg,e]
  ·rw[decide_eq_false (fun h=>h2 h.2)];rw[if_neg h2]at e;simp (maxSteps:=300000) (disch:=omega) [↓if_pos,↓if_neg,e]
 ·rw[decide_eq_false (fun h=>h1 h.1)];simp (maxSteps:=300000) (disch:=omega) [↓if_pos,↓if_neg]
theorem DC (w n:Int) (hw:-1000≤w∧w≤1000) (hn:-1000≤n∧n≤1000):aO prog xF [.d (.int .i64 w),.d (.int .i64 n)]=some (.d (.bool (decide (w-60≤n∧n≤w+60)))):=by
 rw[aq alP Ej.eq_1 rfl];by_cases h1:w-60≤n
 ·by_cases h2:n≤w+60
  ·rw[decide_eq_true ⟨h1,h2⟩];simp (disch:=omega) [↓if_pos]
  ·rw[decide_eq_false (fun h=>h2 h.2)];simp (disch:=omega) [↓if_pos,↓if_neg]
 ·rw[decide_eq_false (fun h=>h1 h.1)];simp (disch:=omega) [↓if_neg]
theorem ajP (full:List ao) (hl:full.length≤1000):∀ (r:List ao) (i b N:Nat) (lf:Int) (k:Int),full.drop i=r→fitsS lf r→lf≤1000→(al r)[b]?=some k→
  ∃ M,(Dn prog).code (.loop pU) ⟨[(2,.d (.int .i64 b)),(25,.d (.lst (dL full))),(26,.d (.int .i64 full.length)),(27,.d (.int .i64 i))],⟨[],N⟩⟩ =
  some (.ret,⟨[(6,.d (.int .i64 k)),(7,.d (.int .i64 0))],⟨[],M⟩⟩):=by
 intro r
 induction r with
 | nil=>grind [al]
 | cons s r ih =>
  intro i b N lf k h hf h0 hk;have hg:=oj h;have hlt:=aU h;obtain⟨h1,h2⟩:=hf;have eb:al (s::r)=List.replicate s.len.toNat s.book++al r:=by grind [al]
  rw[eb]at hk;by_cases hb:(b:Int)<s.len
  ·rw[List.getElem?_append_left (by simp_all)]at hk;have hk2:k=s.book:=by
    simp_all
   subst hk2;refine⟨N+1,?_⟩;rw[aa pU.eq_1];simp (disch:=omega) [↓if_pos,↓if_neg,hg]
  ·rw[List.getElem?_append_right (by simp_all)]at hk;simp only[List.length_replicate]at hk;obtain⟨M,e⟩:=ih (i+1) (b-s.len.toNat) (N+1) (lf-s.len) k (aP h) h2 (by omega) hk;refine⟨M,?_⟩;have c1:((i+1:Nat):Int)=(i:Int)+1:=rfl;have c2:((b-s.len.toNat:Nat):Int)=(b:Int)-s.len:=by omega
   have hbl:b<100000000:=by
    grind [lX]
   rw[c1,c2]at e;rw[aa pU.eq_1,←e];simp (disch:=omega) [↓if_pos,↓if_neg,hg]
theorem ae7 (g:List (List ao)) (hl:g.length≤1000) (hl2:∀ l∈g,l.length≤1000) (m:Int) (hm:m≤1000) (hf:cP m g) (j b:Nat) (l:List ao) (r:List (List ao)) (hd:g.drop j=l::r) (k:Int) (hk:(al l)[b]?=some k) :
  aO prog xH [.d (.lst (aC g)),.d (.int .i64 j),.d (.int .i64 b)]=some (.tup [.d (.int .i64 k),.d (.int .i64 0)]):=by
 have hg:=gw hd;have hlt:=aU hd;have hmem:l∈g:=by rw[←List.take_append_drop j g,hd];simp
 have hbl:b<100000000:=by
  have h6:=hf l hmem;rcases Int.le_total 0 m with h | h
  ·grind [lX]
  ·rcases Cp h6 with h7 | h7
   ·have:l=[]:=by cases l<;>grind
    grind [al]
   grind [al]
 obtain⟨M,e⟩:=ajP l (hl2 l hmem) l 0 b 0 m k rfl (hf l hmem) hm hk;have c0:((0:Nat):Int)=0:=rfl;rw[c0]at e;rw[aq al8 Ff.eq_1 rfl];simp (disch:=omega) [↓if_neg,hg,e]
def qu (z:Int):Int:=if 0≤z then z else 0
theorem ad8 {k n:Int}{r t:List Int}{w z:Int}(h:k=0→n≠0) (h1:k≠0→¬ ib k n w z):bK (k::r) (n::t) w z=none:=by
 grind [bK]
theorem agY (c:bJ) (hl:c.sects.length≤1000) (hl2:∀ l∈c.sects,l.length≤1000) (m:Int) (hm:0≤m∧m≤1000) (hf:cP m c.sects) (x23:AV) (y24 y25:D) (j:Nat) (l:List ao) (rr:List (List ao)) (hd:c.sects.drop j=l::rr) (t:List Int) (ht:t.length≤1000) (hbl:(al l).length=t.length) (htI:∀ n∈t,i64 n) (N:Nat):∀ (r:List Int) (b:Nat) (w z:Int),t.drop b=r→mS w→mS z→
  ∃ H,(Dn prog).code (.loop dO) ⟨[(1,.ptr 0 0),(3,.d (.int .i64 w)),(4,.d (.int .i64 (qu z))),(5,.d (.bool (decide (0≤z)))),(6,.d (.int .i64 j)),(23,x23),(24,.d y24),(25,.d y25),(36,.d (.lst (ai t))),(37,.d (.int .i64 t.length)),(38,.d (.int .i64 b))],⟨[(0,.cells c.av)],N⟩⟩ =
  match bK ((al l).drop b) r w z with
  | some (w,z)=>some (.exit 2,⟨[(1,.ptr 0 0),(3,.d (.int .i64 w)),(4,.d (.int .i64 (qu z))),(5,.d (.bool (decide (0≤z)))),(23,x23),(24,.d y24),(25,.d y25)],⟨[(0,.cells c.av)],N⟩⟩)
  | none=>some (.ret,⟨[(2,.d (.bool false))],⟨H,N⟩⟩):=by
 simp only[bJ.av];intro r
 induction r with
 | nil =>
  intro b w z h hw hz;have hi:=aK h;refine⟨[],?_⟩;rw[aa dO.eq_1,List.drop_eq_nil_of_le (by omega),bK];simp (disch:=omega) [↓if_neg]
 | cons n r ih =>
  intro b w z h hw hz;have hg:=py h;have hlt:=aU h;have hnI:=htI n (by rw[←List.take_append_drop b t,h];simp);have hblt:b<(al l).length:=by omega
  have hkk:=List.drop_eq_getElem_cons hblt;obtain⟨k,hk⟩:∃ k,k=(al l)[b]:=⟨_,rfl⟩
  have hk?:(al l)[b]?=some k:=by simp_all
  have hmem:l∈c.sects:=by rw[←List.take_append_drop j c.sects,hd];simp
  have hkr:=HA (hf l hmem) k (by simp_all);rw[←hk]at hkk;have hB:=ae7 c.sects hl hl2 m hm.2 hf j b l rr hd k hk?;have c1:((b+1:Nat):Int)=(b:Int)+1:=rfl;rw[hkk];by_cases k0:k=0
  ·by_cases n0:n=0
   ·obtain⟨H,e⟩:=ih (b+1) w z (aP h) hw hz;refine⟨H,?_⟩;rw[c1]at e;have eR:bK (k::(al l).drop (b+1)) (n::r) w z=bK ((al l).drop (b+1)) r w z:=by grind [bK]
    rw[aa dO.eq_1,eR,←e];subst k0 n0;simp (disch:=omega) [↓if_pos,↓if_neg,hg,hB]
   ·refine⟨[],?_⟩;rw[aa dO.eq_1,ad8 (fun _=>n0) (fun h=>absurd k0 h)];subst k0;simp (disch:=omega) [↓if_pos,↓if_neg,hg,hB]
  ·by_cases k13:k=13
   ·by_cases ho:ib k n w z
    ·have hn5:=Xe ho;obtain⟨H,e⟩:=ih (b+1) w n (aP h) hw hn5;refine⟨H,?_⟩;unfold ib at ho;rw[if_pos k13]at ho;have hnn:qu n=n:=by grind [qu]
     rw[c1,hnn,decide_eq_true (show 0≤n by omega)]at e;have eR:bK (k::(al l).drop (b+1)) (n::r) w z=bK ((al l).drop (b+1)) r w n:=by grind [bK]
     rw[aa dO.eq_1,eR,←e];subst k13;by_cases hz0:0≤z
     ·have hzn:qu z=z:=by grind [qu]
      have hnr:=DC z n (by omega) (by omega);rw[decide_eq_true (show z-60≤n∧n≤z+60 by omega)]at hnr;rw[hzn,decide_eq_true hz0];simp (disch:=omega) [↓if_pos,↓if_neg,hg,hB,hnr]
     ·rw[decide_eq_false hz0];simp (disch:=omega) [↓if_pos,↓if_neg,hg,hB]
    ·refine⟨[],?_⟩;rw[aa dO.eq_1,ad8 (fun h=>absurd h k0) (fun _=>ho)];unfold ib at ho;rw[if_pos k13]at ho;subst k13;by_cases b1:n<0
     ·simp (disch:=omega) [↓if_pos,↓if_neg,hg,hB]
     ·by_cases b2:511<n
      ·simp (disch:=omega) [↓if_pos,↓if_neg,hg,hB]
      ·have hz0:0≤z:=by omega
       have hzn:qu z=z:=by grind [qu]
       have hnr:=DC z n (by omega) (by omega);rw[decide_eq_false (show ¬ (z-60≤n∧n≤z+60) by omega)]at hnr;rw[hzn,decide_eq_true hz0];simp (disch:=omega) [↓if_pos,↓if_neg,hg,hB,hnr]
   ·by_cases ho:ib k n w z
    ·have hn5:=Xe ho;obtain⟨H,e⟩:=ih (b+1) n z (aP h) hn5 hz;refine⟨H,?_⟩;have eR:bK (k::(al l).drop (b+1)) (n::r) w z=bK ((al l).drop (b+1)) r n z:=by grind [bK]
     unfold ib at ho;rw[if_neg k13]at ho;rw[c1]at e;have hnr:=DC w n (by omega) (by omega);rw[decide_eq_true (show w-60≤n∧n≤w+60 by omega)]at hnr;rw[aa dO.eq_1,eR,←e];simp (disch:=omega) [↓if_pos,↓if_neg,hg,hB,hnr]
    ·refine⟨[],?_⟩;rw[aa dO.eq_1,ad8 (fun h=>absurd h k0) (fun _=>ho)];unfold ib at ho;rw[if_neg k13]at ho;by_cases b1:n<0
     ·simp (disch:=omega) [↓if_pos,↓if_neg,hg,hB]
     ·by_cases b2:255<n
      ·simp (disch:=omega) [↓if_pos,↓if_neg,hg,hB]
      ·have hnr:=DC w n (by omega) (by omega);rw[decide_eq_false (show ¬ (w-60≤n∧n≤w+60) by omega)]at hnr;simp (disch:=omega) [↓if_pos,↓if_neg,hg,hB,hnr]
theorem avE {bks:List Int}:∀ {t:List Int}{w z:Int}{fin:Int×Int},mS w→mS z→bK bks t w z=some fin→mS fin.1∧mS fin.2:=by
 induction bks with
 | nil =>
  grind [bK]
 | cons k r ih =>
  intro t w z fin hw hz h
  cases t with
  | nil=>grind [bK]
  | cons n t =>
   obtain⟨h1,h2,h3⟩:=lV (by rw[h];simp)
   grind [fP]
theorem ag8 (c:bJ) (hc:c.Fit) (hm:c.info.may 11) (hf:cP c.info.max c.sects):∀ (gr:List (List ao)) (sr:List (List Int)) (j N:Nat) (w z:Int),c.sects.drop j=gr→c.steps.drop j=sr→gr.length=sr.length→mS w→mS z→
  ∃ H M,(Dn prog).code (.loop iU) ⟨[(1,.ptr 0 0),(3,.d (.int .i64 w)),(4,.d (.int .i64 (qu z))),(5,.d (.bool (decide (0≤z)))),(23,.d (.lst (bq c.steps))),(24,.d (.int .i64 c.steps.length)),(25,.d (.int .i64 j))],⟨[(0,.cells c.av)],N⟩⟩ =
  match jZ gr sr w z with
  | some _=>some (.exit 0,⟨[],⟨H,M⟩⟩)
  | none=>some (.ret,⟨[(2,.d (.bool false))],⟨H,M⟩⟩):=by
 have hmx:=jx hm;have hl1:=hc.steps.1;simp only[bJ.av];intro gr
 induction gr with
 | nil =>
  intro sr j N w z hd hd2 he hw hz;have hi2:c.steps.length≤j:=by
   grind
  have hsr:sr=[]:=by grind
  refine⟨[],N,?_⟩;rw[aa iU.eq_1,hsr,jZ];simp (disch:=omega) [↓if_pos,↓if_neg]
 | cons l r ih =>
  intro sr j N w z hd hd2 he hw hz
  cases sr with
  | nil=>simp at he
  | cons t s =>
   simp only[List.length_cons,Nat.add_right_cancel_iff]at he;have hgt:=xP hd2;have hlt2:=aU hd2;have hmt:t∈c.steps:=by rw[←List.take_append_drop j c.steps,hd2];simp
   have htl:=hc.steps.2 t hmt;have hml:l∈c.sects:=by rw[←List.take_append_drop j c.sects,hd];simp
   have hbk:=lX (hf l hml) hmx.1;have c0:((0:Nat):Int)=0:=rfl;rw[jZ];by_cases hlen:(t.length:Int)=c.info.max
   ·obtain⟨H,e⟩:=agY c hc.sects.1 hc.sects.2 c.info.max ⟨hmx.1,by omega⟩ hf (.d (.lst (bq c.steps))) (.int .i64 c.steps.length) (.int .i64 j) j l r hd t htl (by omega) (hc.stepI t hmt) N t 0 w z rfl hw hz;rw[c0,List.drop_zero]at e
    cases hrow:bK (al l) t w z with
    | none =>
     rw[hrow]at e;refine⟨H,N,?_⟩;rw[aa iU.eq_1];simp (disch:=omega) [↓if_pos,hgt,e]
    | some fin =>
     rw[hrow]at e;obtain⟨f1,f2⟩:=avE hw hz hrow;obtain⟨H2,M2,e2⟩:=ih s (j+1) N fin.1 fin.2 (aP hd) (aP hd2) he f1 f2;refine⟨H2,M2,?_⟩;rw[aa iU.eq_1];rw[←e2];simp (disch:=omega) [↓if_pos,hgt,e]
   ·refine⟨[],N,?_⟩;have hn:bK (al l) t w z=none:=by
     cases hrow:bK (al l) t w z<;>grind [Ug]
    rw[aa iU.eq_1,hn];simp (disch:=omega) [↓if_pos,↓if_neg,hgt]
instance {gain:Int}{g:List (List ao)}{t:List (List Int)}:Decidable (tc gain g t):=by unfold tc;infer_instance
theorem aoz (c:bJ) (hc:c.Fit) (hm:c.info.may 11) (hgn:0≤c.gain∧c.gain≤255) (hs:gX c.info c.sects):aO prog tN [.agg c.av]=some (.d (.bool (decide (tc c.gain c.sects c.steps)))):=by
 have c0:((0:Nat):Int)=0:=rfl;have hnv:qu (-1)=0:=rfl;have hdf:decide ((0:Int)≤-1)=false:=rfl;rw[aq akR Bl.eq_1 rfl];by_cases h1:c.steps.length=c.info.groups.length
 ·obtain⟨H,M,e⟩:=ag8 c hc hm hs.2 c.sects c.steps 0 1 c.gain (-1) rfl rfl (by omega) (by omega) (by omega);rw[c0,hnv,hdf]at e;by_cases hr:jZ c.sects c.steps c.gain (-1)=none
  ·rw[hr]at e;rw[decide_eq_false (fun h=>h hr)];simp (disch:=omega) [↓if_pos,e]
  ·obtain⟨fin,hf⟩:=Option.ne_none_iff_exists'.1 hr;rw[hf]at e;rw[decide_eq_true hr];simp (disch:=omega) [↓if_pos,e]
 ·rw[decide_eq_false (fun h=>h1 (by grind [DD]))];simp (disch:=omega) [↓if_pos,↓if_neg]
theorem aj5 {h:ac}{l:List Int}{a b:Nat}(hab:a≤b) (hb:b≤l.length) (x y:Int) (hx:x=a) (hy:y=b):uB h 1 (.d (.lst (ai l))) (some (.d (.int .i64 x))) (some (.d (.int .i64 y))) none=some (.d (.lst (ai ((l.drop a).take (b-a))))):=by
 subst hx hy;have e1:df (.d (.int .i64 (b:Int))) (ai l).length=some b:=by rw[Nh (by omega) (by rw[fE];omega)];simp
 have e2:df (.d (.int .i64 (a:Int))) b=some a:=by rw[Nh (by omega) (by omega)];simp
 have e3:GS 1 (ai l)=true:=by cases l<;>rfl
 simp only[uB,okSl,w6,lenOf,xQ,ue,e1,e2,e3,sub];rw[aqa,aqk]
theorem asY {id:Nat}(hid:1≤id∧id≤11):dP id≤8191:=(uA id (NA hid)).2.2.2
theorem aqw (id:Nat) (hid:1≤id∧id≤11) (v:Int) (hv:i64 v):aO prog Fj [.d (.int .i64 id),.d (.int .i64 v)]=some (.d (.bool (decide (v.natAbs≤dP id)))):=by
 have i4:[[D.int .i64 v],[D.int .i64 0],[D.int .i64 0],[D.int .i64 0]]=ai [v,0,0,0]:=rfl;have i2:[[D.int .i64 v],[D.int .i64 0]]=ai [v,0]:=rfl;have hm:=asY hid;have hz:E4 (dP id) 0=false:=by unfold E4;rw[decide_eq_false];omega
 have hf:E4 (dP id) v=!decide (v.natAbs≤dP id):=by
  unfold E4;by_cases h:v.natAbs≤dP id
  ·rw[decide_eq_true h,decide_eq_false (by omega)];rfl
  ·rw[decide_eq_false h,decide_eq_true (by omega)];rfl
 rw[aq amv EQ.eq_1 rfl];by_cases h4:4<id
 ·have h:=K9 id hid [v,0] (by unfold aM;rw[if_neg (by omega)];rfl);simp only[List.any_cons,List.any_nil,hz,hf,Bool.or_false,Bool.not_not]at h;rw[←i2]at h;generalize decide (v.natAbs≤dP id)=B at *;have hs:uB [] 1 (.own false 1 [[.int .i64 v],[.int .i64 0],[.int .i64 0],[.int .i64 0]]) none (some (.d (.int .i64 2))) none=some (.d (.lst [[.int .i64 v],[.int .i64 0]])):=rfl;simp (maxSteps:=300000) (disch:=omega) [↓if_pos,↓if_neg,hs,h]
 ·have h:=K9 id hid [v,0,0,0] (by unfold aM;rw[if_pos (by omega)];rfl);simp only[List.any_cons,List.any_nil,hz,hf,Bool.or_false,Bool.not_not]at h;rw[←i4]at h;generalize decide (v.natAbs≤dP id)=B at *;simp (maxSteps:=300000) (disch:=omega) [↓if_pos,↓if_neg,h]
def fV:List Nat→Nat→Nat
 | [],_=>0
 | x::r,i=>if x≤i then fV r i+1 else 0
theorem agk (os:List Nat) (ho:os.length≤100) (X:Obj) (x4 x54:AV) (y10 y12 y16 y34 y35 y55 y56:D) (i:Nat) (hi:i≤1000) (hoI:∀ x∈os,x≤1000) (hp:HS):∀ (r:List Nat) (b:Nat),os.drop (b+1)=r→(∃ x∈r,i<x)→
  (Dn prog).code (.loop uY) ⟨[(4,x4),(8,.own false 1 (bj os)),(10,.d y10),(12,.d y12),(14,.d (.int .i64 b)),(15,.d (.int .i64 i)),(16,.d y16),(34,.d y34),(35,.d y35),(54,x54),(55,.d y55),(56,.d y56)],hp⟩ =
  some (.exit 4,⟨[(4,x4),(8,.own false 1 (bj os)),(10,.d y10),(12,.d y12),(14,.d (.int .i64 (b+fV r i:Nat))),(16,.d y16),(34,.d y34),(35,.d y35),(54,x54),(55,.d y55),(56,.d y56)],hp⟩):=by
 obtain⟨h,n⟩:=hp;intro r
 induction r with
 | nil=>intro b hd hx;obtain⟨x,hx,_⟩:=hx;simp at hx
 | cons x r ih =>
  intro b hd hx;have hlt:=aU hd;have hnx:nth os (b+1)=x:=by
   have h2:=kR (l:=os) hlt;rw[hd]at h2;injection h2 with h2;exact h2.symm
  have hg:(bj os)[b+1]?=some [.int .i64 (x:Int)]:=by rw[xa hlt,hnx]
  have hxI:=hoI x (by rw[←hnx];exact gn hlt);rw[aa uY.eq_1,fV];by_cases h1:x≤i
  ·have hx2:∃ y∈r,i<y:=by
    obtain⟨y,hy,h3⟩:=hx;rcases List.mem_cons.1 hy with e | e
    ·omega
    ·exact⟨y,e,h3⟩
   have h5:=ih (b+1) (aP hd) hx2;have c1:((b+1:Nat):Int)=(b:Int)+1:=rfl;rw[c1]at h5;rw[if_pos h1,show b+(fV r i+1)=b+1+fV r i by omega,←h5];simp (maxSteps:=300000) (disch:=omega) [↓if_pos,↓if_neg,hg]
  ·rw[if_neg h1];simp (maxSteps:=300000) (disch:=omega) [↓if_pos,↓if_neg,hg]
theorem XY {l:List Nat}{i:Nat}:∀ {b:Nat},b≤l.length→(∀ x∈l.take b,x≤i)→fV l i=b+fV (l.drop b) i:=by
 induction l with
 | nil=>intro b hb h;simp at hb;subst hb;simp[fV]
 | cons x r ih =>
  intro b hb h
  cases b with
  | zero=>simp
  | succ b =>
   rw[fV,if_pos (h x (by simp)),ih (b:=b) (by simpa using hb) (fun y hy=>h y (by simp[hy])),List.drop_succ_cons];omega
theorem aoS {l:List Nat}{i:Nat}:∀ x∈l.take (fV l i),x≤i:=by
 induction l with
 | nil=>intro x hx;simp at hx
 | cons y r ih =>
  intro x hx;rw[fV]at hx;by_cases h:y≤i
  ·rw[if_pos h,List.take_succ_cons]at hx;rcases List.mem_cons.1 hx with e | e
   ·omega
   ·exact ih x e
  ·rw[if_neg h]at hx;simp at hx
theorem auo {l:List Nat}{i:Nat}:fV l i≤l.length:=by
 induction l with
 | nil=>simp[fV]
 | cons y r ih=>rw[fV];split<;>simp<;>omega
def MI (tl:List Nat) (bks:List Int) (i:Nat) (v:Int):Prop:=v=0∨∃ k,bks[fV tl i]?=some k∧(1≤k∧k≤11)∧v.natAbs≤dP k.toNat
def u6 (tl:List Nat) (bks:List Int):Nat→List Int→Prop
 | _,[]=>True
 | i,v::r=>MI tl bks i v∧u6 tl bks (i+1) r
theorem ag9 (c:bJ) (hc:c.Fit) (hm:c.info.may 11) (hf:cP c.info.max c.sects) (os:List Nat) (ho:os.length≤100) (hoI:∀ x∈os,x≤1000) (hne:os≠[]) (y10 y34 y35:D) (j:Nat) (l:List ao) (rr:List (List ao)) (hd:c.sects.drop j=l::rr) (ls:List Int) (hls:ls.length≤1000) (hlI:∀ v∈ls,i64 v) (hlast:∀ i,i<ls.length→∃ x∈os.drop 1,i<x) (N:Nat):∀ (r:List Int) (i b:Nat),ls.drop i=r→b≤(os.drop 1).length→(∀ x∈(os.drop 1).take b,x≤i)→
  (u6 (os.drop 1) (al l) i r∧(Dn prog).code (.loop cy) ⟨[(4,.ptr 0 0),(8,.own false 1 (bj os)),(10,.d y10),(12,.d (.int .i64 j)),(14,.d (.int .i64 b)),(34,.d y34),(35,.d y35),(54,.d (.lst (ai ls))),(55,.d (.int .i64 ls.length)),(56,.d (.int .i64 i))],⟨[(0,.cells c.av)],N⟩⟩ =
   some (.exit 2,⟨[(4,.ptr 0 0),(8,.own false 1 (bj os)),(10,.d y10),(34,.d y34),(35,.d y35)],⟨[(0,.cells c.av)],N⟩⟩))∨
  (¬ u6 (os.drop 1) (al l) i r∧(Dn prog).code (.loop cy) ⟨[(4,.ptr 0 0),(8,.own false 1 (bj os)),(10,.d y10),(12,.d (.int .i64 j)),(14,.d (.int .i64 b)),(34,.d y34),(35,.d y35),(54,.d (.lst (ai ls))),(55,.d (.int .i64 ls.length)),(56,.d (.int .i64 i))],⟨[(0,.cells c.av)],N⟩⟩ =
   some (.ret,⟨[(6,.d (.bool false))],⟨[],N⟩⟩)):=by
 have hmx:=jx hm;have hml:l∈c.sects:=by rw[←List.take_append_drop j c.sects,hd];simp
 have hbk:=lX (hf l hml) hmx.1;simp only[bJ.av];intro r
 induction r with
 | nil =>
  intro i b h hb hx;have hi:=aK h;refine .inl ⟨trivial,?_⟩;rw[aa cy.eq_1];simp (maxSteps:=300000) (disch:=omega) [↓if_pos,↓if_neg]
 | cons v r ih =>
  intro i b h hb hx;have hg:=py h;have hlt:=aU h;have hvI:=hlI v (by rw[←List.take_append_drop i ls,h];simp);have c1:((i+1:Nat):Int)=(i:Int)+1:=rfl;by_cases v0:v=0
  ·have h5:=ih (i+1) b (aP h) hb fun x hx2=>by have:=hx x hx2;omega
   rw[c1]at h5;have hL:MI (os.drop 1) (al l) i v:=.inl v0;rw[u6];subst v0;rcases h5 with ⟨e1,e2⟩ | ⟨e1,e2⟩
   ·refine .inl ⟨⟨hL,e1⟩,?_⟩;rw[aa cy.eq_1,←e2];simp (maxSteps:=300000) (disch:=omega) [↓if_pos,↓if_neg,hg]
   ·refine .inr ⟨fun h=>e1 h.2,?_⟩;rw[aa cy.eq_1,←e2];simp (maxSteps:=300000) (disch:=omega) [↓if_pos,↓if_neg,hg]
  ·have hsk:=XY hb hx;have hdd:os.drop (b+1)=(os.drop 1).drop b:=by rw[List.drop_drop];congr 1;omega
   have hex:∃ x∈os.drop (b+1),i<x:=by
    obtain⟨x,hx1,hx2⟩:=hlast i hlt;rw[←List.take_append_drop b (os.drop 1)]at hx1;rcases List.mem_append.1 hx1 with h1 | h1
    ·have:=hx x h1;omega
    ·exact⟨x,by rw[hdd];exact h1,hx2⟩
   have h0:=agk os ho (.cells c.av) (.ptr 0 0) (.d (.lst (ai ls))) y10 (.int .i64 j) (.int .i64 v) y34 y35 (.int .i64 ls.length) (.int .i64 i) i (by omega) hoI ⟨[(0,.cells c.av)],N⟩ (os.drop (b+1)) b rfl hex;rw[hdd,←hsk]at h0;have hbl:=auo (l:=os.drop 1) (i:=i);have hbt:=aoS (l:=os.drop 1) (i:=i);have hol:(os.drop 1).length≤100:=by simp;omega
   obtain⟨B,hB⟩:∃ B,B=fV (os.drop 1) i:=⟨_,rfl⟩
   have h5:=ih (i+1) B (aP h) (by omega) fun x hx2=>by rw[hB]at hx2;have:=hbt x hx2;omega
   rw[c1]at h5;simp only[bJ.av]at h0;rw[u6];unfold MI;rw[←hB]at h0⊢;by_cases hBm:(B:Int)<c.info.max
   ·have hBl:B<(al l).length:=by omega
    obtain⟨k,hk⟩:∃ k,(al l)[B]?=some k:=⟨_,List.getElem?_eq_getElem hBl⟩
    have hBk:=ae7 c.sects hc.sects.1 hc.sects.2 c.info.max (by omega) hf j B l rr hd k hk;rw[hk];by_cases hk1:1≤k∧k≤11
    ·obtain⟨K,rfl⟩:=Int.eq_ofNat_of_zero_le (show 0≤k by omega);have hft:=aqw K (by omega) v hvI;by_cases hfit:v.natAbs≤dP K
     ·rw[decide_eq_true hfit]at hft;have hL:v=0∨∃ k,some (K:Int)=some k∧(1≤k∧k≤11)∧v.natAbs≤dP k.toNat:=.inr ⟨K,rfl,hk1,by simpa using hfit⟩;rcases h5 with ⟨e1,e2⟩ | ⟨e1,e2⟩
      ·refine .inl ⟨⟨hL,e1⟩,?_⟩;rw[aa cy.eq_1,←e2];simp (maxSteps:=300000) (disch:=omega) [↓if_pos,↓if_neg,hg,h0,hBk,hft]
      ·refine .inr ⟨fun h=>e1 h.2,?_⟩;rw[aa cy.eq_1,←e2];simp (maxSteps:=300000) (disch:=omega) [↓if_pos,↓if_neg,hg,h0,hBk,hft]
     ·rw[decide_eq_false hfit]at hft;refine .inr ⟨fun h=>?_,?_⟩
      ·rcases h.1 with h | ⟨k,h1,h2,h3⟩
       ·exact v0 h
       ·injection h1 with h1;subst h1;exact hfit (by simpa using h3)
      ·rw[aa cy.eq_1];simp (maxSteps:=300000) (disch:=omega) [↓if_pos,↓if_neg,hg,h0,hBk,hft]
    ·have hn:¬ ((v=0∨∃ k',some k=some k'∧(1≤k'∧k'≤11)∧v.natAbs≤dP k'.toNat)∧u6 (os.drop 1) (al l) (i+1) r):=fun h=>by
      rcases h.1 with h | ⟨k',h1,h2,h3⟩
      ·exact v0 h
      ·injection h1 with h1;subst h1;exact hk1 h2
     refine .inr ⟨hn,?_⟩;rw[aa cy.eq_1];by_cases hk0:k<1
     ·simp (maxSteps:=300000) (disch:=omega) [↓if_pos,↓if_neg,hg,h0,hBk]
     ·simp (maxSteps:=300000) (disch:=omega) [↓if_pos,↓if_neg,hg,h0,hBk]
   ·have hBl:(al l)[B]?=none:=List.getElem?_eq_none (by omega);rw[hBl];refine .inr ⟨fun h=>?_,?_⟩
    ·rcases h.1 with h | ⟨k',h1,h2,h3⟩
     ·exact v0 h
     ·exact absurd h1 (by simp)
    ·rw[aa cy.eq_1];simp (maxSteps:=300000) (disch:=omega) [↓if_pos,↓if_neg,hg,h0]
theorem akL:∀ {l:List Int}{w:Int},w<l.sum→(∀ n∈l,1≤n)→0≤w→im l w<l.length
 | [],w,h,_,h0=>by grind
 | n::r,w,h,hn,h0=>by
  rw[im];split
  ·simp
  ·have:=akL (l:=r) (w:=w-n) (by grind) (fun m hm=>hn m (.tail _ hm)) (by omega)
   simp_all
def am.wide (i:am):Nat:=if i.seq=2 then 32 else 256
def wZ (c:bJ) (w:Nat):List Int:=(c.lines.drop (w*c.info.wide)).take c.info.wide
def ym (c:bJ) (w:Nat):List ao:=c.sects.getD (im c.info.groups w) []
def F9 (r:Nat) (c:bJ):Nat→Nat→Prop
 | 0,_=>True
 | k+1,w=>u6 ((offs r c.info.short).drop 1) (al (ym c w)) 0 (wZ c w)∧F9 r c k (w+1)
abbrev aeu (r:Nat) (c:bJ):Prop:=c.lines.length=256∧F9 r c c.info.many 0
theorem yv:∀ x∈AF,((offs x.1 x.2).drop 1).contains (cond x.2 32 256)=true∧(offs x.1 x.2).all (fun y=>decide (y≤1000))=true∧(offs x.1 x.2).length≤64∧1≤(offs x.1 x.2).length:=by decide +kernel
theorem ahp (rt:Nat) (hrt:rt≤11) (c:bJ) (hc:c.Fit) (hm:c.info.may 11) (hs:gX c.info c.sects) (hl:c.lines.length=256) (N:Nat):∀ (k w:Nat),w+k=c.info.many→
  (F9 rt c k w∧∃ H,(Dn prog).code (.loop f8) ⟨[(4,.ptr 0 0),(8,.own false 1 (bj (offs rt c.info.short))),(10,.d (.int .i64 c.info.wide)),(34,.d (.int .i64 c.info.many)),(35,.d (.int .i64 w))],⟨[(0,.cells c.av)],N⟩⟩=some (.exit 0,⟨[],⟨H,N⟩⟩))∨
  (¬ F9 rt c k w∧(Dn prog).code (.loop f8) ⟨[(4,.ptr 0 0),(8,.own false 1 (bj (offs rt c.info.short))),(10,.d (.int .i64 c.info.wide)),(34,.d (.int .i64 c.info.many)),(35,.d (.int .i64 w))],⟨[(0,.cells c.av)],N⟩⟩=some (.ret,⟨[(6,.d (.bool false))],⟨[],N⟩⟩)):=by
 have hmm:c.info.many*c.info.wide=256∧c.info.many≤8∧c.info.wide≤256∧1≤c.info.many:=by grind [am.many,am.wide]
 obtain⟨m1,m2,m3,m4⟩:=hmm;obtain⟨o1,o2,o3,o4⟩:=yv (rt,c.info.short) (dI (by omega));simp only at o1 o2 o3 o4;obtain⟨g1,g2⟩:=cD hm;have hoI:∀ x∈offs rt c.info.short,x≤1000:=fun x hx=>by simp_all
 have hcond:(cond c.info.short 32 256:Nat)=c.info.wide:=by
  grind [am.short,am.wide]
 rw[hcond]at o1;have hlast:∀ i,i<c.info.wide→∃ x∈(offs rt c.info.short).drop 1,i<x:=fun i hi=>⟨c.info.wide,by simp_all,hi⟩
 intro k
 induction k with
 | zero =>
  intro w hw;refine .inl ⟨trivial,[],?_⟩;rw[aa f8.eq_1];simp (disch:=omega) [↓if_pos,↓if_neg]
 | succ k ih =>
  intro w hw;have hG:=I8 c.info hc.info hm w (by omega) (by omega);have hgl:=akL (l:=c.info.groups) (w:=w) (by omega) (fun n hn=>(g1 n hn).1) (by omega);obtain⟨G,hGe⟩:∃ G,G=im c.info.groups w:=⟨_,rfl⟩
  rw[←hGe]at hG hgl;have hGs:G<c.sects.length:=by omega
  have hsa:ym c w=c.sects[G]:=by grind [ym]
  have hd:=List.drop_eq_getElem_cons hGs;have hwl:w*c.info.wide+c.info.wide≤256:=by
   grind
  have hwn:(wZ c w).length=c.info.wide:=by unfold wZ;rw[List.length_take,List.length_drop];omega
  have hwI:∀ v∈wZ c w,i64 v:=fun v hv=>hc.lineI v (List.mem_of_mem_drop (List.mem_of_mem_take hv))
  have h1:=ag9 c hc hm hs.2 (offs rt c.info.short) (by omega) hoI (by grind) (.int .i64 c.info.wide) (.int .i64 c.info.many) (.int .i64 w) G c.sects[G] _ hd (wZ c w) (by omega) hwI (fun i hi=>hlast i (by omega)) N (wZ c w) 0 0 rfl (by omega) (by simp);have h2:=ih (w+1) (by omega);have c1:((w+1:Nat):Int)=(w:Int)+1:=rfl;have c0:((0:Nat):Int)=0:=rfl;rw[c1]at h2;rw[c0]at h1;rw[hwn]at h1;have hmul:(w:Int)*c.info.wide=((w*c.info.wide:Nat):Int):=by omega
  have hmul2:((w:Int)+1)*c.info.wide=((w*c.info.wide+c.info.wide:Nat):Int):=by grind
  have hsl:=aj5 (h:=[(0,.cells c.av)]) (l:=c.lines) (a:=w*c.info.wide) (b:=w*c.info.wide+c.info.wide) (by omega) (by omega) ((w:Int)*c.info.wide) (((w:Int)+1)*c.info.wide) hmul hmul2;rw[Nat.add_sub_cancel_left]at hsl;have hW:((c.lines.drop (w*c.info.wide)).take c.info.wide)=wZ c w:=rfl;rw[hW]at hsl;have hlw:=fE (l:=wZ c w);rw[hwn]at hlw;rw[F9,hsa];simp only[bJ.av,am.cells]at h1 h2 hsl hG⊢;rcases h1 with ⟨e1,e2⟩ | ⟨e1,e2⟩
  ·rcases h2 with ⟨f1,H,f2⟩ | ⟨f1,f2⟩
   ·refine .inl ⟨⟨e1,f1⟩,H,?_⟩;rw[aa f8.eq_1,←f2];simp (disch:=omega) [↓if_pos,hG,hsl,hlw,e2]
   ·refine .inr ⟨fun h=>f1 h.2,?_⟩;rw[aa f8.eq_1,←f2];simp (disch:=omega) [↓if_pos,hG,hsl,hlw,e2]
  ·refine .inr ⟨fun h=>e1 h.1,?_⟩;rw[aa f8.eq_1];simp (disch:=omega) [↓if_pos,hG,hsl,hlw,e2]
theorem aoB (rt:Nat) (hrt:rt≤11) (c:bJ) (hc:c.Fit) (hm:c.info.may 11) (hs:gX c.info c.sects):(aeu rt c∧aO prog oc [.d (.int .i64 rt),.agg c.av,.d (.int .i64 c.info.many)]=some (.d (.bool true)))∨(¬ aeu rt c∧aO prog oc [.d (.int .i64 rt),.agg c.av,.d (.int .i64 c.info.many)]=some (.d (.bool false))):=by
 have hof:=uv rt c.info.short;rw[aq aja CA.eq_1 rfl];by_cases hl:c.lines.length=256
 ·have h0:=ahp rt hrt c hc hm hs hl 1 c.info.many 0 (by omega);have c0:((0:Nat):Int)=0:=rfl;rw[c0]at h0;have hq:(256:Int).tdiv c.info.many=c.info.wide:=by grind [am.many,am.wide]
  have hmm:1≤c.info.many∧c.info.many≤8∧c.info.wide≤256:=by grind [am.many]
  by_cases hs2:c.info.seq=2
  ·have hsh:c.info.short=true:=decide_eq_true hs2;rw[hsh]at hof h0;rcases h0 with ⟨e1,H,e2⟩ | ⟨e1,e2⟩
   ·refine .inl ⟨⟨hl,e1⟩,?_⟩;simp (disch:=omega) [↓if_pos,hof,hq,e2]
   ·refine .inr ⟨fun h=>e1 h.2,?_⟩;simp (disch:=omega) [↓if_pos,hof,hq,e2]
  ·have hsh:c.info.short=false:=decide_eq_false hs2;rw[hsh]at hof h0;rcases h0 with ⟨e1,H,e2⟩ | ⟨e1,e2⟩
   ·refine .inl ⟨⟨hl,e1⟩,?_⟩;simp (disch:=omega) [↓if_pos,↓if_neg,hof,hq,e2]
   ·refine .inr ⟨fun h=>e1 h.2,?_⟩;simp (disch:=omega) [↓if_pos,↓if_neg,hof,hq,e2]
 ·refine .inr ⟨fun h=>hl h.1,?_⟩;simp (disch:=omega) [↓if_pos,↓if_neg]
abbrev atY:List AV:=[.fn pi [] [.ptr 1 0],.fn pP [] [.ptr 1 0],.fn pq [] [.ptr 1 0],.fn pb [] [.ptr 1 0,.ptr 2 0],.fn pe [] [.ptr 0 0,.ptr 1 0,.ptr 2 0]]
abbrev qD (rt:Int) (c:bJ):ac:=[(0,.cells [.d (.int .i64 rt)]),(1,.cells c.av),(2,.cells [.d (.int .i64 c.info.many)]),(3,.cells atY)]
theorem pk (rt:Int) (c:bJ) (N i:Nat) (hi:i<5) (F:AV) (hF:atY[i]?=some F) (hF2:firm (firm (firm (share F)))=F) (B:Bool) (hB:bf (Dn prog) F [] ⟨qD rt c,N⟩=some (.d (.bool B),⟨qD rt c,N⟩)) :
  (Dn prog).code (.loop fT) ⟨[(28,.sl 3 0 5),(29,.d (.int .i64 5)),(30,.d (.int .i64 i))],⟨qD rt c,N⟩⟩ =
  if B=true then (Dn prog).code (.loop fT) ⟨[(28,.sl 3 0 5),(29,.d (.int .i64 5)),(30,.d (.int .i64 ((i+1:Nat):Int)))],⟨qD rt c,N⟩⟩ else some (.ret,⟨[(4,.d (.int .i64 8))],⟨qD rt c,N⟩⟩):=by
 have c1:((i+1:Nat):Int)=(i:Int)+1:=rfl;obtain⟨hlt,e⟩:=List.getElem?_eq_some_iff.1 hF;rw[c1,aa fT.eq_1]
 cases B with
 | true =>
  simp (disch:=omega) [↓if_pos,↓if_neg,e,hF2,hB]
 | false =>
  simp (disch:=omega) [↓if_pos,↓if_neg,e,hF2,hB]
theorem avd (rt:Int) (c:bJ) (N:Nat):(Dn prog).call pi [.ptr 1 0] ⟨qD rt c,N⟩=some (.d (.bool (decide (0≤c.gain∧c.gain≤255))),⟨qD rt c,N⟩):=by
 rw[aD ac1 wa.eq_1 rfl];by_cases h1:0≤c.gain
 ·by_cases h2:c.gain≤255
  ·rw[decide_eq_true ⟨h1,h2⟩];simp (disch:=omega) [↓if_pos,↓if_neg]
  ·rw[decide_eq_false (fun h=>h2 h.2)];simp (disch:=omega) [↓if_pos,↓if_neg]
 ·rw[decide_eq_false (fun h=>h1 h.1)];simp (disch:=omega) [↓if_pos,↓if_neg]
theorem avk (rt:Int) (c:bJ) (N:Nat) (B:Bool) (h:aO prog nT [.agg c.av]=some (.d (.bool B))):(Dn prog).call pP [.ptr 1 0] ⟨qD rt c,N⟩=some (.d (.bool B),⟨qD rt c,N⟩):=by
 rw[aD aaZ wj.eq_1 rfl];simp (disch:=omega) [h]
theorem awK (rt:Int) (c:bJ) (N:Nat) (B:Bool) (h:aO prog tN [.agg c.av]=some (.d (.bool B))):(Dn prog).call pq [.ptr 1 0] ⟨qD rt c,N⟩=some (.d (.bool B),⟨qD rt c,N⟩):=by
 rw[aD aeh wI.eq_1 rfl];simp (disch:=omega) [h]
theorem axi (rt:Int) (c:bJ) (N:Nat) (B:Bool) (h:aO prog pW [.agg c.av,.d (.int .i64 c.info.many)]=some (.d (.bool B))):(Dn prog).call pb [.ptr 1 0,.ptr 2 0] ⟨qD rt c,N⟩=some (.d (.bool B),⟨qD rt c,N⟩):=by
 rw[aD acd wu.eq_1 rfl];simp (disch:=omega) [h]
theorem amZ (rt:Int) (c:bJ) (N:Nat) (B:Bool) (h:aO prog oc [.d (.int .i64 rt),.agg c.av,.d (.int .i64 c.info.many)]=some (.d (.bool B))):(Dn prog).call pe [.ptr 0 0,.ptr 1 0,.ptr 2 0] ⟨qD rt c,N⟩=some (.d (.bool B),⟨qD rt c,N⟩):=by
 rw[aD ach we.eq_1 rfl];simp (disch:=omega) [h]
structure ql (r:Nat) (c:bJ):Prop where
 gain:0≤c.gain∧c.gain≤255
 info:c.info.may r
 sects:gX c.info c.sects
 steps:tc c.gain c.sects c.steps
 tns:VB c.info c.tns
 lines:aeu r c
theorem GV {f:FuncId}{caps:List AV}{h:ac}{N:Nat}:bf (Dn prog) (.fn f [] caps) [] ⟨h,N⟩=(Dn prog).call f caps ⟨h,N⟩:=by simp
theorem ao5 (rt:Int) (c:bJ) (hc:c.Fit):(dc rt∧ql rt.toNat c∧aO prog dW [.d (.int .i64 rt),.agg c.av]=some (.d (.int .i64 0)))∨
  (dc rt∧¬ ql rt.toNat c∧aO prog dW [.d (.int .i64 rt),.agg c.av]=some (.d (.int .i64 8)))∨(¬ dc rt∧aO prog dW [.d (.int .i64 rt),.agg c.av]=some (.d (.int .i64 2))):=by
 have hi:=pr rt c.info hc.info;have hw:=jD c.info hc.info;simp only[am.cells]at hi hw;by_cases hr:dc rt
 ·rw[if_pos hr]at hi;by_cases hm:c.info.may rt.toNat
  ·rw[if_pos hm]at hi;have hm11:=iw (by omega) hm;rw[if_pos hm11]at hw;have hmm:c.info.many≤8:=by grind [am.many]
   have cI:(rt.toNat:Int)=rt:=by omega
   have c0:((0:Nat):Int)=0:=rfl;have fin:∀ (e:Int) (X:Option (aZ×St)),(Dn prog).code (.loop fT) ⟨[(28,.sl 3 0 5),(29,.d (.int .i64 5)),(30,.d (.int .i64 ((0:Nat):Int)))],⟨qD rt c,4⟩⟩=X→(X=some (.exit 0,⟨[],⟨qD rt c,4⟩⟩)∧e=0∨X=some (.ret,⟨[(4,.d (.int .i64 8))],⟨qD rt c,4⟩⟩)∧e=8)→aO prog dW [.d (.int .i64 rt),.agg c.av]=some (.d (.int .i64 e)):=by
    intro e X h hX;rw[c0]at h;simp only[qD,atY,bJ.av]at h hX;rw[aq CZ oL.eq_1 rfl];rcases hX with ⟨rfl,rfl⟩ | ⟨rfl,rfl⟩
    ·simp (disch:=omega) [↓if_pos,↓if_neg,hi,hw,DU,h]
    ·simp (disch:=omega) [↓if_pos,↓if_neg,hi,hw,DU,h]
   have s1:=pk rt c 4 0 (by omega) _ rfl rfl _ (GV.trans (avd rt c 4));by_cases b1:0≤c.gain∧c.gain≤255
   ·rw[if_pos (decide_eq_true b1)]at s1;have s2:=pk rt c 4 (0+1) (by omega) _ rfl rfl _ (GV.trans (avk rt c 4 _ (ahG c hc hm11)));rw[s2]at s1;by_cases b2:gX c.info c.sects
    ·rw[if_pos (decide_eq_true b2)]at s1;have s3:=pk rt c 4 (0+1+1) (by omega) _ rfl rfl _ (GV.trans (awK rt c 4 _ (aoz c hc hm11 b1 b2)));rw[s3]at s1;by_cases b3:tc c.gain c.sects c.steps
     ·rw[if_pos (decide_eq_true b3)]at s1;have s4:=pk rt c 4 (0+1+1+1) (by omega) _ rfl rfl _ (GV.trans (axi rt c 4 _ (aiz c hc c.info.many hmm)));rw[s4]at s1;by_cases b4:VB c.info c.tns
      ·rw[if_pos (decide_eq_true b4)]at s1;have hL:=aoB rt.toNat (by omega) c hc hm11 b2;rw[cI]at hL;rcases hL with ⟨b5,h5⟩ | ⟨b5,h5⟩
       ·have s5:=pk rt c 4 (0+1+1+1+1) (by omega) _ rfl rfl _ (GV.trans (amZ rt c 4 _ h5));rw[s5]at s1;have s6:(Dn prog).code (.loop fT) ⟨[(28,.sl 3 0 5),(29,.d (.int .i64 5)),(30,.d (.int .i64 ((0+1+1+1+1+1:Nat):Int)))],⟨qD rt c,4⟩⟩=some (.exit 0,⟨[],⟨qD rt c,4⟩⟩):=by
         have c5:((0+1+1+1+1+1:Nat):Int)=5:=rfl;rw[c5,aa fT.eq_1];simp (disch:=omega) [↓if_neg]
        rw[s6]at s1;exact .inl ⟨hr,⟨b1,hm,b2,b3,b4,b5⟩,fin 0 _ s1 (.inl ⟨rfl,rfl⟩)⟩
       ·have s5:=pk rt c 4 (0+1+1+1+1) (by omega) _ rfl rfl _ (GV.trans (amZ rt c 4 _ h5))
        grind [ql.lines]
      grind [ql.tns]
     grind [ql.steps]
    grind [ql.sects]
   grind [ql.gain]
  ·refine .inr (.inl ⟨hr,fun h=>hm h.info,?_⟩);rw[aq CZ oL.eq_1 rfl];simp (disch:=omega) [↓if_pos,↓if_neg,hi]
 ·refine .inr (.inr ⟨hr,?_⟩);rw[aq CZ oL.eq_1 rfl];simp (disch:=omega) [↓if_pos,↓if_neg,hi]
theorem aCE {n:Int}{k P:Nat}(hP:2 ^ k=P) (hk:k≤62):c8 .and (.d (.int .i64 n)) (.d (.int .i64 ((P:Int)-1)))=some (.int .i64 (n % P)):=by
 have h1:2 ^ k≤2 ^ 62:=Nat.pow_le_pow_right (by omega) hk;have h2:=Nat.two_pow_pos k;have hd:(P:Int) ∣ 18446744073709551616:=by
  subst hP;have:(2:Nat) ^ k ∣ 2 ^ 64:=Nat.pow_dvd_pow 2 (by omega);have:=Int.natCast_dvd_natCast.2 this;simpa using this
 have e0:0≤n % 18446744073709551616:=Int.emod_nonneg _ (by omega);have e1:n % 18446744073709551616 % P=n % P:=Int.emod_emod_of_dvd n hd;refine nt ?_;rw[iJ (by simp) (by simp)];have c:(P:Int)-1=((P-1:Nat):Int):=by omega
 rw[c];simp only[fG,BS,BitVec.toNat_and,Er (show P-1<kO .i64 by simp[kO,IntKind.signed];omega)];have e2:((2 ^ IntKind.i64.bits:Nat):Int)=18446744073709551616:=rfl;rw[BitVec.toNat_ofInt,e2];subst hP;rw[Nat.and_two_pow_sub_one_eq_mod];have h3:(n % 18446744073709551616).toNat % 2 ^ k<2 ^ k:=Nat.mod_lt _ h2;rw[an8 (by simp[kO,IntKind.signed];omega),Int.natCast_emod];have e3:(((n % 18446744073709551616).toNat:Nat):Int)=n % 18446744073709551616:=by omega
 rw[e3,e1]
theorem aeP {hp:AV→ac}{p N:Nat}(H:Hv hp p) {b:List Nat}(hb:b.length≤900000000) (n:Int) (s:Nat) (hs:s≤31) (hn:i64 n) (sI:Int) (es:sI=s) :
  (Dn prog).call iI [.d (.int .i64 n),.d (.int .i64 sI),.ptr p 0] ⟨hp (.own false 1 (af b)),N⟩=some (.tup [],⟨hp (.own false 1 (af (b++aj (n % ((2 ^ s:Nat):Int)).toNat s))),N⟩):=by
 subst es;have h31:2 ^ s≤2 ^ 31:=Nat.pow_le_pow_right (by omega) hs;have h2:=Nat.two_pow_pos s;have q1:=N3 (m:=s) (by omega);have q2:=aCE (n:=n) (k:=s) rfl (by omega);have e0:0≤n % ((2 ^ s:Nat):Int):=Int.emod_nonneg _ (by omega);have e1:n % ((2 ^ s:Nat):Int)<((2 ^ s:Nat):Int):=Int.emod_lt_of_pos _ (by omega);have h1:=jQ b (n % ((2 ^ s:Nat):Int)) s hb (by omega) _ (.inl rfl);rw[if_pos (by simp only[nX,Int.toNat_natCast];omega)]at h1;simp only[Int.toNat_natCast]at h1;generalize n % ((2 ^ s:Nat):Int)=Q at *;generalize 2 ^ s=P at *;rw[aD U5 ui.eq_1 rfl];simp (maxSteps:=300000) (disch:=omega) [H.get,H.put,-oW,q1,q2,h1]
def cV (f:aR):Bool:=decide (∀ c∈f.coefs,-(bI f.fine / 2)≤c∧c<bI f.fine / 2)
def cN (fine:Bool):Nat:=if fine then 4 else 3
def bL (b:Bool):Nat:=if b then 1 else 0
def mA (f:aR):Nat:=cN f.fine-bL (cV f)
def kA (w:Nat) (l:List Int):List Nat:=l.flatMap fun c=>aj (c % ((2 ^ w:Nat):Int)).toNat w
def aL (sh:Bool):Nat:=if sh then 4 else 6
def aJ (sh:Bool):Nat:=if sh then 3 else 5
def b9 (sh:Bool):Nat:=if sh then 1 else 2
def lj (sh:Bool) (f:aR):List Nat:=aj f.len.toNat (aL sh)++(aj f.order.toNat (aJ sh)++if f.order=0 then [] else aj (bL f.down) 1++(aj (bL (cV f)) 1++kA (mA f) f.coefs))
def rY (sh:Bool) (l:List aR):List Nat:=aj l.length (b9 sh)++match l with
 | []=>[]
 | f0::_=>aj (bL f0.fine) 1++l.flatMap (lj sh)
def fL (sh:Bool) (t:List (List aR)):List Nat:=t.flatMap (rY sh)
abbrev Q0 (sh:Bool) (v:AV):ac:=[(0,.cells [v]),(2,.cells (iD sh))]
abbrev TU (full:List (List aR)) (i:Int) (r:ar):ar:=(3,.ptr 0 0)::(9,.fn iI [] [.ptr 0 0])::(10,.ptr 2 0)::(30,.d (.lst (bi full)))::(31,.d (.int .i64 full.length))::(32,.d (.int .i64 i))::r
theorem asG (sh:Bool):Hv (Q0 sh) 0:=⟨fun v=>by simp,fun v w=>by simp⟩
theorem Va {w:Nat}:∀ {l:List Int},(kA w l).length=w*l.length
 | []=>by simp[kA]
 | c::r=>by
  have:=Va (w:=w) (l:=r);rw[kA]at this⊢;rw[List.flatMap_cons,List.length_append,d8,List.length_cons,this,Nat.mul_add];omega
theorem azy (sh:Bool) (full:List (List aR)) (i:Int) (l:List aR) (k:Int) (nw:Bool) (w:Nat) (hw:1≤w-bL nw∧w≤4) (cs:List Int) (hcs:cs.length≤100) (hcI:∀ c∈cs,i64 c) (N:Nat):∀ (r:List Int) (j:Nat) (b:List Nat),cs.drop j=r→b.length+4*r.length≤900000000→
  (Dn prog).code (.loop mu) ⟨(3,.ptr 0 0)::(9,.fn iI [] [.ptr 0 0])::(10,.ptr 2 0)::(15,.d (.int .i64 w))::(16,.d (.bool nw))::(30,.d (.lst (bi full)))::(31,.d (.int .i64 full.length))::(32,.d (.int .i64 i))::[(52,.d (.lst (b7 l))),(53,.d (.int .i64 l.length)),(54,.d (.int .i64 k)),(91,.d (.lst (ai cs))),(92,.d (.int .i64 cs.length)),(93,.d (.int .i64 j))],⟨Q0 sh (.own false 1 (af b)),N⟩⟩ =
  some (.exit 4,⟨TU full i [(52,.d (.lst (b7 l))),(53,.d (.int .i64 l.length)),(54,.d (.int .i64 k))],⟨Q0 sh (.own false 1 (af (b++kA (w-bL nw) r))),N⟩⟩):=by
 intro r
 induction r with
 | nil =>
  intro j b hd hb;have hi:=aK hd;rw[aa mu.eq_1];simp (maxSteps:=300000) (disch:=omega) [↓if_neg,kA]
 | cons c r ih =>
  intro j b hd hb;simp only[List.length_cons]at hb;have hg:=py hd;have hlt:=aU hd;have hcc:=hcI c (by rw[←List.take_append_drop j cs,hd];simp);have hbit:=xw nw;have hbI:((bL nw:Nat):Int)=if nw=true then 1 else 0:=by cases nw<;>rfl
  rw[←hbI]at hbit;have hbb:bL nw≤1:=by cases nw<;>decide
  have hp:=aeP (asG sh) (N:=N) (b:=b) (by omega) c (w-bL nw) (by omega) hcc ((w:Int)-bL nw) (by omega);have h5:=ih (j+1) (b++aj (c % ((2 ^ (w-bL nw):Nat):Int)).toNat (w-bL nw)) (aP hd) (by simp;omega);have c1:((j+1:Nat):Int)=(j:Int)+1:=rfl;have ea:b++kA (w-bL nw) (c::r)=b++aj (c % ((2 ^ (w-bL nw):Nat):Int)).toNat (w-bL nw)++kA (w-bL nw) r:=by rw[kA,List.flatMap_cons,List.append_assoc];rfl
  rw[c1]at h5;rw[ea,←h5,aa mu.eq_1];simp (maxSteps:=300000) (disch:=omega) [↓if_pos,hg,hbit,hp]
end Go.Vm
end
