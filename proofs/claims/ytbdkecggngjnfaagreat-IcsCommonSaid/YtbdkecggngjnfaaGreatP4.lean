import Derived.Test.YtbdkecggngjnfaaGreatP3
set_option linter.unusedVariables false
set_option linter.unusedSimpArgs false
noncomputable section
namespace Go.Vm
set_option maxHeartbeats 2000000
structure Hp (hp:List Nat→ac) (D:Nat):Prop where
 get:∀ xs,get (hp xs) D=some (.arr 1 (bm xs))
 put:∀ xs ys,put (hp xs) D (.arr 1 (bm ys))=hp ys
def swp (xs:List Nat) (i j:Nat):List Nat:=(xs.set i (nth xs j)).set j (nth xs i)
@[simp] theorem lT {xs:List Nat}{i j:Nat}:(swp xs i j).length=xs.length:=by simp[swp]
def swpR (xs:List Nat) (a b:Nat):Nat→Nat→List Nat
 | 0,_=>xs
 | k+1,i=>swpR (swp xs (a+i) (b+i)) a b k (i+1)
@[simp] theorem rN {a b:Nat}:∀ {k i:Nat}{xs:List Nat},(swpR xs a b k i).length=xs.length
 | 0,_,_=>rfl
 | k+1,i,xs=>by rw[swpR,rN,lT]
section
variable {hp:List Nat→ac}{D:Nat}
theorem WH (H:Hp hp D) (len:Nat) (hlen:len≤1000000000) (a b n N:Nat) (ha:a+n≤len) (hb:b+n≤len):∀ (k i:Nat) (xs:List Nat),i+k=n→xs.length=len→
  (Dn prog).code (.loop cK) ⟨[(0,.sl D 0 len),(1,.d (.int .i64 a)),(2,.d (.int .i64 b)),(3,.d (.int .i64 n)),(10,.d (.int .i64 i))],⟨hp xs,N⟩⟩ =
  some (.exit 0,⟨[],⟨hp (swpR xs a b k i),N⟩⟩):=by
 intro k
 induction k with
 | zero =>
  intro i xs hi hx
  rw[aa cK.eq_1]
  simp (maxSteps:=300000) (disch:=omega) [↓if_pos,↓if_neg,swpR]
 | succ k ih =>
  intro i xs hi hx
  rw[aa cK.eq_1]
  have l1:=List.length_set (as:=xs) (i:=a+i) (a:=nth xs (b+i))
  simp (maxSteps:=300000) (disch:=omega) [↓if_pos,↓if_neg,H.get,H.put]
  have h:=ih (i+1) (swp xs (a+i) (b+i)) (by omega) (by simpa using hx)
  have c1:((i+1:Nat):Int)=(i:Int)+1:=rfl
  rw[c1]at h
  rw[swpR,←h]
  rfl
theorem E9 (H:Hp hp D) (F:AV) (len:Nat) (hlen:len≤1000000000) (a b n N:Nat) (ha:a+n≤len) (hb:b+n≤len) (xs:List Nat) (hx:xs.length=len) :
  (Dn prog).call cq [.sl D 0 len,.d (.int .i64 a),.d (.int .i64 b),.d (.int .i64 n),F] ⟨hp xs,N⟩=some (.tup [],⟨hp (swpR xs a b n 0),N⟩):=by
 rw[aJ qn eX.eq_1 rfl]
 have h:=WH H len hlen a b n N ha hb n 0 xs (by omega) hx
 have c0:((0:Nat):Int)=0:=rfl
 rw[c0]at h
 simp (maxSteps:=300000) (disch:=omega) [↓if_pos,↓if_neg,h]
def rot (m:Nat):Nat→List Nat→Nat→Nat→List Nat
 | 0,xs,i,j=>xs
 | f+1,xs,i,j=>if i=j then swpR xs (m-i) m i 0 else if j<i then rot m f (swpR xs (m-i) m j 0) (i-j) j else rot m f (swpR xs (m-i) (m+j-i) i 0) i (j-i)
theorem u4 {m:Nat}:∀ {f:Nat}{xs:List Nat}{i j:Nat},(rot m f xs i j).length=xs.length
 | 0,_,_,_=>rfl
 | f+1,xs,i,j=>by
  rw[rot]
  split
  ·exact rN
  ·split
   ·rw[u4,rN]
   ·rw[u4,rN]
theorem acB (H:Hp hp D) (F:AV) (hF:share F=F) (hG:firm F=F) (len:Nat) (hlen:len≤1000000000) (m N:Nat):∀ (f i j:Nat) (xs:List Nat),i+j≤f→1≤i→1≤j→i≤m→m+j≤len→xs.length=len→
  ∃ (k:Nat) (ys:List Nat),(Dn prog).code (.loop eV) ⟨[(0,.sl D 0 len),(2,.d (.int .i64 m)),(4,F),(10,.d (.int .i64 i)),(11,.d (.int .i64 j))],⟨hp xs,N⟩⟩ =
   some (.exit 0,⟨[(0,.sl D 0 len),(2,.d (.int .i64 m)),(4,F),(10,.d (.int .i64 k))],⟨hp ys,N⟩⟩)∧k≤m∧m+k≤len∧ys.length=len∧swpR ys (m-k) m k 0=rot m f xs i j:=by
 intro f
 induction f with
 | zero=>intro i j xs h h1 h2;omega
 | succ f ih =>
  intro i j xs h h1 h2 h3 h4 hx
  rw[aa eV.eq_1]
  by_cases e:i=j
  ·subst e
   refine⟨i,xs,?_,h3,h4,hx,?_⟩
   ·simp (maxSteps:=300000) (disch:=omega) [↓if_pos,↓if_neg]
   ·rw[rot,if_pos rfl]
  ·by_cases e2:j<i
   ·obtain⟨k,ys,g1,g2,g3,g4,g5⟩:=ih (i-j) j (swpR xs (m-i) m j 0) (by omega) (by omega) h2 (by omega) h4 (by simpa using hx)
    refine⟨k,ys,?_,g2,g3,g4,?_⟩
    ·have hs:=E9 H F len hlen (m-i) m j N (by omega) (by omega) xs hx
     have c1:((m-i:Nat):Int)=(m:Int)-i:=by omega
     have c2:((i-j:Nat):Int)=(i:Int)-j:=by omega
     rw[c1]at hs
     rw[c2]at g1
     simp (maxSteps:=300000) (disch:=omega) [↓if_pos,↓if_neg,hs,hF,hG,g1]
    ·rw[rot,if_neg e,if_pos e2,g5]
   ·obtain⟨k,ys,g1,g2,g3,g4,g5⟩:=ih i (j-i) (swpR xs (m-i) (m+j-i) i 0) (by omega) h1 (by omega) h3 (by omega) (by simpa using hx)
    refine⟨k,ys,?_,g2,g3,g4,?_⟩
    ·have hs:=E9 H F len hlen (m-i) (m+j-i) i N (by omega) (by omega) xs hx
     have c1:((m-i:Nat):Int)=(m:Int)-i:=by omega
     have c2:((j-i:Nat):Int)=(j:Int)-i:=by omega
     have c3:((m+j-i:Nat):Int)=(m:Int)+j-i:=by omega
     rw[c1,c3]at hs
     rw[c2]at g1
     simp (maxSteps:=300000) (disch:=omega) [↓if_pos,↓if_neg,hs,hF,hG,g1]
    ·rw[rot,if_neg e,if_neg e2,g5]
theorem ade (H:Hp hp D) (F:AV) (hF:share F=F) (hG:firm F=F) (len:Nat) (hlen:len≤1000000000) (a m b N:Nat) (h1:a<m) (h2:m<b) (h3:b≤len) (xs:List Nat) (hx:xs.length=len) :
  (Dn prog).call f7 [.sl D 0 len,.d (.int .i64 a),.d (.int .i64 m),.d (.int .i64 b),F] ⟨hp xs,N⟩=some (.tup [],⟨hp (rot m (b-a) xs (m-a) (b-m)),N⟩):=by
 obtain⟨k,ys,g1,g2,g3,g4,g5⟩:=acB H F hF hG len hlen m N (b-a) (m-a) (b-m) xs (by omega) (by omega) (by omega) (by omega) (by omega) hx
 have hs:=E9 H F len hlen (m-k) m k N (by omega) (by omega) ys g4
 have c1:((m-k:Nat):Int)=(m:Int)-k:=by omega
 have c2:((m-a:Nat):Int)=(m:Int)-a:=by omega
 have c3:((b-m:Nat):Int)=(b:Int)-m:=by omega
 rw[c1,g5]at hs
 rw[c2,c3]at g1
 rw[aJ ue fZ.eq_1 rfl]
 simp (maxSteps:=300000) (disch:=omega) [↓if_pos,↓if_neg,hs,hF,hG,g1]
end
end Go.Vm
namespace Go.Vm
set_option maxHeartbeats 2000000
structure Cm (hp:List Nat→ac) (L:Nat) (F:AV) (C:Nat→Nat→Int):Prop where
 sh:share F=F
 fi:firm F=F
 cl:∀ xs N x y,x<L→y<L→aM (Dn prog) F [.d (.int .i64 (x:Nat)),.d (.int .i64 (y:Nat))] ⟨hp xs,N⟩=some (.d (.int .i64 (C x y)),⟨hp xs,N⟩)
abbrev bU (L:Nat) (xs:List Nat):Prop:=∀ x∈xs,x<L
theorem bU.nth {L:Nat}{xs:List Nat}(u:bU L xs) {i:Nat}(h:i<xs.length):Vm.nth xs i<L:=u _ (lI h)
theorem bU.swp {L:Nat}{xs:List Nat}(u:bU L xs) {i j:Nat}(hi:i<xs.length) (hj:j<xs.length):bU L (swp xs i j):=by
 intro x hx
 rcases List.mem_or_eq_of_mem_set hx with h | h
 ·rcases List.mem_or_eq_of_mem_set h with h | h
  ·exact u x h
  ·exact h▸u.nth hj
 ·exact h▸u.nth hi
theorem bU.swpR {L a b:Nat}:∀ {k i:Nat}{xs:List Nat},bU L xs→a+i+k≤xs.length→b+i+k≤xs.length→bU L (swpR xs a b k i)
 | 0,_,_,u,_,_=>u
 | k+1,i,xs,u,h1,h2=>by
  rw[Vm.swpR]
  exact bU.swpR (u.swp (by omega) (by omega)) (by rw[lT];omega) (by rw[lT];omega)
theorem bU.rot {L m:Nat}:∀ {f i j:Nat}{xs:List Nat},bU L xs→i≤m→m+j≤xs.length→bU L (rot m f xs i j)
 | 0,_,_,_,u,_,_=>u
 | f+1,i,j,xs,u,h1,h2=>by
  rw[Vm.rot]
  split
  ·exact u.swpR (by omega) (by omega)
  ·split
   ·exact(u.swpR (by omega) (by omega)).rot (by omega) (by rw[rN];omega)
   ·exact(u.swpR (by omega) (by omega)).rot (by omega) (by rw[rN];omega)
def insJ (C:Nat→Nat→Int) (a:Nat):Nat→List Nat→List Nat
 | 0,xs=>xs
 | j+1,xs=>if a≤j∧C (nth xs (j+1)) (nth xs j)<0 then insJ C a j (swp xs (j+1) j) else xs
def insO (C:Nat→Nat→Int) (a:Nat):Nat→Nat→List Nat→List Nat
 | 0,_,xs=>xs
 | k+1,i,xs=>insO C a k (i+1) (insJ C a i xs)
section
variable {C:Nat→Nat→Int}{a:Nat}
theorem Cp:∀ {j:Nat}{xs:List Nat},(insJ C a j xs).length=xs.length
 | 0,_=>rfl
 | j+1,xs=>by
  rw[insJ]
  split
  ·rw[Cp,lT]
  ·rfl
theorem Kn:∀ {k i:Nat}{xs:List Nat},(insO C a k i xs).length=xs.length
 | 0,_,_=>rfl
 | k+1,i,xs=>by rw[insO,Kn,Cp]
theorem bU.insJ {L:Nat}:∀ {j:Nat}{xs:List Nat},bU L xs→j<xs.length→bU L (insJ C a j xs)
 | 0,_,u,_=>u
 | j+1,xs,u,h=>by
  rw[Vm.insJ]
  split
  ·exact(u.swp h (by omega)).insJ (by rw[lT];omega)
  ·exact u
theorem bU.insO {L:Nat}:∀ {k i:Nat}{xs:List Nat},bU L xs→i+k≤xs.length→bU L (insO C a k i xs)
 | 0,_,_,u,_=>u
 | k+1,i,xs,u,h=>by
  rw[Vm.insO]
  exact(u.insJ (by omega)).insO (by rw[Cp];omega)
end
section
variable {hp:List Nat→ac}{D L:Nat}{F:AV}{C:Nat→Nat→Int}
theorem abF (H:Hp hp D) (K:Cm hp L F C) (len:Nat) (hlen:len≤1000000000) (a b I N:Nat):∀ (j:Nat) (xs:List Nat),j<len→xs.length=len→bU L xs→
  (Dn prog).code (.loop cm) ⟨[(0,.sl D 0 len),(1,.d (.int .i64 a)),(2,.d (.int .i64 b)),(3,F),(8,.d (.int .i64 I)),(9,.d (.int .i64 j))],⟨hp xs,N⟩⟩ =
  some (.exit 2,⟨[(0,.sl D 0 len),(1,.d (.int .i64 a)),(2,.d (.int .i64 b)),(3,F),(8,.d (.int .i64 I))],⟨hp (insJ C a j xs),N⟩⟩):=by
 intro j
 induction j with
 | zero =>
  intro xs hj hx u
  rw[aa cm.eq_1]
  simp (maxSteps:=300000) (disch:=omega) [↓if_pos,↓if_neg,insJ,K.sh,K.fi]
 | succ j ih =>
  intro xs hj hx u
  rw[aa cm.eq_1]
  have c1:((j+1:Nat):Int)=(j:Int)+1:=rfl
  by_cases h1:a≤j
  ·have hc:=K.cl xs N _ _ (u.nth (i:=j+1) (by omega)) (u.nth (i:=j) (by omega))
   have l1:=List.length_set (as:=xs) (i:=j+1) (a:=nth xs j)
   by_cases h2:C (nth xs (j+1)) (nth xs j)<0
   ·have h:=ih (swp xs (j+1) j) (by omega) (by simpa using hx) (u.swp (by omega) (by omega))
    rw[insJ,if_pos ⟨h1,h2⟩,←h]
    simp (maxSteps:=300000) (disch:=omega) [↓if_pos,↓if_neg,K.sh,K.fi,H.get,H.put,hc,c1]
    rfl
   ·rw[insJ,if_neg (fun h=>h2 h.2)]
    simp (maxSteps:=300000) (disch:=omega) [↓if_pos,↓if_neg,K.sh,K.fi,H.get,H.put,hc,c1]
  ·rw[insJ,if_neg (fun h=>h1 h.1)]
   simp (maxSteps:=300000) (disch:=omega) [↓if_pos,↓if_neg,K.sh,K.fi,c1]
theorem acu (H:Hp hp D) (K:Cm hp L F C) (len:Nat) (hlen:len≤1000000000) (a b N:Nat) (hb:b≤len):∀ (k i:Nat) (xs:List Nat),i+k=b→xs.length=len→bU L xs→
  (Dn prog).code (.loop b8) ⟨[(0,.sl D 0 len),(1,.d (.int .i64 a)),(2,.d (.int .i64 b)),(3,F),(8,.d (.int .i64 i))],⟨hp xs,N⟩⟩ =
  some (.exit 0,⟨[],⟨hp (insO C a k i xs),N⟩⟩):=by
 intro k
 induction k with
 | zero =>
  intro i xs hi hx u
  rw[aa b8.eq_1]
  simp (maxSteps:=300000) (disch:=omega) [↓if_pos,↓if_neg,insO,K.sh,K.fi]
 | succ k ih =>
  intro i xs hi hx u
  rw[aa b8.eq_1]
  have h0:=abF H K len hlen a b i N i xs (by omega) hx u
  have h:=ih (i+1) (insJ C a i xs) (by omega) (by rw[Cp];exact hx) (u.insJ (by omega))
  have c1:((i+1:Nat):Int)=(i:Int)+1:=rfl
  rw[c1]at h
  rw[insO,←h]
  simp (maxSteps:=300000) (disch:=omega) [↓if_pos,↓if_neg,K.sh,K.fi,h0]
theorem Cw (H:Hp hp D) (K:Cm hp L F C) (len:Nat) (hlen:len≤1000000000) (a b N:Nat) (hab:a<b) (hb:b≤len) (xs:List Nat) (hx:xs.length=len) (u:bU L xs) :
  (Dn prog).call cH [.sl D 0 len,.d (.int .i64 a),.d (.int .i64 b),F] ⟨hp xs,N⟩=some (.tup [],⟨hp (insO C a (b-(a+1)) (a+1) xs),N⟩):=by
 rw[aJ mw dS.eq_1 rfl]
 have h:=acu H K len hlen a b N hb (b-(a+1)) (a+1) xs (by omega) hx u
 have c1:((a+1:Nat):Int)=(a:Int)+1:=rfl
 rw[c1]at h
 simp (maxSteps:=300000) (disch:=omega) [↓if_pos,↓if_neg,K.sh,K.fi,h]
end
end Go.Vm
namespace Go.Vm
set_option maxHeartbeats 2000000
def zu (C:Nat→Nat→Int) (xs:List Nat) (a:Nat):Nat→Nat→Nat→Nat
 | 0,i,_=>i
 | f+1,i,j=>if i<j then (if C (nth xs ((i+j) / 2)) (nth xs a)<0 then zu C xs a f ((i+j) / 2+1) j else zu C xs a f i ((i+j) / 2)) else i
def zk (C:Nat→Nat→Int) (xs:List Nat) (m:Nat):Nat→Nat→Nat→Nat
 | 0,i,_=>i
 | f+1,i,j=>if i<j then (if C (nth xs m) (nth xs ((i+j) / 2))<0 then zk C xs m f i ((i+j) / 2) else zk C xs m f ((i+j) / 2+1) j) else i
def gY (C:Nat→Nat→Int) (xs:List Nat) (p:Nat):Nat→Nat→Nat→Nat
 | 0,i,_=>i
 | f+1,i,j=>if i<j then (if C (nth xs (p-(i+j) / 2)) (nth xs ((i+j) / 2))<0 then gY C xs p f i ((i+j) / 2) else gY C xs p f ((i+j) / 2+1) j) else i
def shU:Nat→Nat→List Nat→List Nat
 | 0,_,xs=>xs
 | n+1,k,xs=>shU n (k+1) (swp xs k (k+1))
def shD:Nat→Nat→List Nat→List Nat
 | 0,_,xs=>xs
 | n+1,k,xs=>shD n (k-1) (swp xs k (k-1))
theorem Lm {i j:Nat}:((i:Int)+j).fdiv 2=(((i+j) / 2:Nat):Int):=by
 rw[Int.fdiv_eq_ediv_of_nonneg _ (by omega)];omega
section
variable {hp:List Nat→ac}{D L:Nat}{F:AV}{C:Nat→Nat→Int}
theorem YK (H:Hp hp D) (K:Cm hp L F C) (len:Nat) (hlen:len≤1000000000) (a N:Nat) (ha:a<len) (xs:List Nat) (hx:xs.length=len) (u:bU L xs):∀ (f i j:Nat),j-i≤f→i≤j→j≤len→
  (Dn prog).code (.loop cU) ⟨[(0,.sl D 0 len),(1,.d (.int .i64 a)),(4,F),(10,.d (.int .i64 i)),(11,.d (.int .i64 j))],⟨hp xs,N⟩⟩ =
  some (.exit 0,⟨[(0,.sl D 0 len),(1,.d (.int .i64 a)),(10,.d (.int .i64 (zu C xs a f i j:Nat)))],⟨hp xs,N⟩⟩):=by
 intro f
 induction f with
 | zero =>
  intro i j h1 h2 h3
  rw[aa cU.eq_1]
  simp (maxSteps:=300000) (disch:=omega) [↓if_pos,↓if_neg,zu,K.sh,K.fi]
 | succ f ih =>
  intro i j h1 h2 h3
  rw[aa cU.eq_1]
  by_cases h:i<j
  ·have hf:=Lm (i:=i) (j:=j)
   rw[zu,if_pos h]
   have q1:i≤(i+j) / 2∧(i+j) / 2<j:=by omega
   generalize (i+j) / 2=q at *
   have hc:=K.cl xs N _ _ (u.nth (i:=q) (by omega)) (u.nth (i:=a) (by omega))
   by_cases g:C (nth xs q) (nth xs a)<0
   ·have h5:=ih (q+1) j (by omega) (by omega) h3
    rw[if_pos g,←h5]
    simp (maxSteps:=300000) (disch:=omega) [↓if_pos,↓if_neg,K.sh,K.fi,H.get,H.put,hc,hf]
   ·have h5:=ih i q (by omega) (by omega) (by omega)
    rw[if_neg g,←h5]
    simp (maxSteps:=300000) (disch:=omega) [↓if_pos,↓if_neg,K.sh,K.fi,H.get,H.put,hc,hf]
  ·rw[zu,if_neg h]
   simp (maxSteps:=300000) (disch:=omega) [↓if_pos,↓if_neg,K.sh,K.fi]
theorem YV (H:Hp hp D) (len:Nat) (hlen:len≤1000000000) (I N:Nat) (hI:I≤len):∀ (n k:Nat) (xs:List Nat),k+n=I-1→xs.length=len→
  (Dn prog).code (.loop cV) ⟨[(0,.sl D 0 len),(10,.d (.int .i64 I)),(13,.d (.int .i64 k))],⟨hp xs,N⟩⟩=some (.exit 2,⟨[],⟨hp (shU n k xs),N⟩⟩):=by
 intro n
 induction n with
 | zero =>
  intro k xs h hx
  rw[aa cV.eq_1]
  simp (maxSteps:=300000) (disch:=omega) [↓if_pos,↓if_neg,shU]
 | succ n ih =>
  intro k xs h hx
  rw[aa cV.eq_1]
  have l1:=List.length_set (as:=xs) (i:=k) (a:=nth xs (k+1))
  have h5:=ih (k+1) (swp xs k (k+1)) (by omega) (by simpa using hx)
  rw[shU,←h5]
  simp (maxSteps:=300000) (disch:=omega) [↓if_pos,↓if_neg,H.get,H.put]
  rfl
theorem YP (H:Hp hp D) (K:Cm hp L F C) (len:Nat) (hlen:len≤1000000000) (m N:Nat) (ha:m<len) (xs:List Nat) (hx:xs.length=len) (u:bU L xs):∀ (f i j:Nat),j-i≤f→i≤j→j≤len→
  (Dn prog).code (.loop cS) ⟨[(0,.sl D 0 len),(2,.d (.int .i64 m)),(4,F),(14,.d (.int .i64 i)),(15,.d (.int .i64 j))],⟨hp xs,N⟩⟩ =
  some (.exit 4,⟨[(0,.sl D 0 len),(2,.d (.int .i64 m)),(14,.d (.int .i64 (zk C xs m f i j:Nat)))],⟨hp xs,N⟩⟩):=by
 intro f
 induction f with
 | zero =>
  intro i j h1 h2 h3
  rw[aa cS.eq_1]
  simp (maxSteps:=300000) (disch:=omega) [↓if_pos,↓if_neg,zk,K.sh,K.fi]
 | succ f ih =>
  intro i j h1 h2 h3
  rw[aa cS.eq_1]
  by_cases h:i<j
  ·have hf:=Lm (i:=i) (j:=j)
   rw[zk,if_pos h]
   have q1:i≤(i+j) / 2∧(i+j) / 2<j:=by omega
   generalize (i+j) / 2=q at *
   have hc:=K.cl xs N _ _ (u.nth (i:=m) (by omega)) (u.nth (i:=q) (by omega))
   by_cases g:C (nth xs m) (nth xs q)<0
   ·have h5:=ih i q (by omega) (by omega) (by omega)
    rw[if_pos g,←h5]
    simp (maxSteps:=300000) (disch:=omega) [↓if_pos,↓if_neg,K.sh,K.fi,H.get,H.put,hc,hf]
   ·have h5:=ih (q+1) j (by omega) (by omega) h3
    rw[if_neg g,←h5]
    simp (maxSteps:=300000) (disch:=omega) [↓if_pos,↓if_neg,K.sh,K.fi,H.get,H.put,hc,hf]
  ·rw[zk,if_neg h]
   simp (maxSteps:=300000) (disch:=omega) [↓if_pos,↓if_neg,K.sh,K.fi]
theorem YC (H:Hp hp D) (len:Nat) (hlen:len≤1000000000) (I N:Nat):∀ (n k:Nat) (xs:List Nat),I+n=k→k<len→xs.length=len→
  (Dn prog).code (.loop cW) ⟨[(0,.sl D 0 len),(14,.d (.int .i64 I)),(17,.d (.int .i64 k))],⟨hp xs,N⟩⟩=some (.exit 6,⟨[],⟨hp (shD n k xs),N⟩⟩):=by
 intro n
 induction n with
 | zero =>
  intro k xs h hk hx
  rw[aa cW.eq_1]
  simp (maxSteps:=300000) (disch:=omega) [↓if_pos,↓if_neg,shD]
 | succ n ih =>
  intro k xs h hk hx
  obtain⟨q,rfl⟩:∃ q,k=q+1:=⟨k-1,by omega⟩
  rw[aa cW.eq_1]
  have l1:=List.length_set (as:=xs) (i:=q+1) (a:=nth xs q)
  have h5:=ih q (swp xs (q+1) q) (by omega) (by omega) (by simpa using hx)
  rw[shD,Nat.add_sub_cancel,←h5]
  simp (maxSteps:=300000) (disch:=omega) [↓if_pos,↓if_neg,H.get,H.put]
  rfl
theorem sO (H:Hp hp D) (K:Cm hp L F C) (len:Nat) (hlen:len≤1000000000) (a m b M n p N:Nat) (xs:List Nat) (hx:xs.length=len) (u:bU L xs):∀ (f i j:Nat),j-i≤f→i≤j→j≤len→j≤p+1→p<len+i→
  (Dn prog).code (.loop cT) ⟨[(0,.sl D 0 len),(1,.d (.int .i64 a)),(2,.d (.int .i64 m)),(3,.d (.int .i64 b)),(4,F),(18,.d (.int .i64 M)),(19,.d (.int .i64 n)),(20,.d (.int .i64 i)),(21,.d (.int .i64 j)),(22,.d (.int .i64 p))],⟨hp xs,N⟩⟩ =
  some (.exit 8,⟨[(0,.sl D 0 len),(1,.d (.int .i64 a)),(2,.d (.int .i64 m)),(3,.d (.int .i64 b)),(4,F),(18,.d (.int .i64 M)),(19,.d (.int .i64 n)),(20,.d (.int .i64 (gY C xs p f i j:Nat)))],⟨hp xs,N⟩⟩):=by
 intro f
 induction f with
 | zero =>
  intro i j h1 h2 h3 h4 h5
  rw[aa cT.eq_1]
  simp (maxSteps:=300000) (disch:=omega) [↓if_pos,↓if_neg,gY,K.sh,K.fi]
 | succ f ih =>
  intro i j h1 h2 h3 h4 h5
  rw[aa cT.eq_1]
  by_cases h:i<j
  ·have hf:=Lm (i:=i) (j:=j)
   rw[gY,if_pos h]
   have q1:i≤(i+j) / 2∧(i+j) / 2<j:=by omega
   generalize (i+j) / 2=q at *
   have hp1:p-q<len:=by omega
   have hpq:((p:Int)-q)=((p-q:Nat):Int):=by omega
   generalize p-q=r at *
   have hc:=K.cl xs N _ _ (u.nth (i:=r) (by omega)) (u.nth (i:=q) (by omega))
   by_cases g:C (nth xs r) (nth xs q)<0
   ·have h6:=ih i q (by omega) (by omega) (by omega) (by omega) (by omega)
    rw[if_pos g,←h6]
    simp (maxSteps:=300000) (disch:=omega) [↓if_pos,↓if_neg,K.sh,K.fi,H.get,H.put,hc,hf,hpq]
   ·have h6:=ih (q+1) j (by omega) (by omega) h3 (by omega) (by omega)
    rw[if_neg g,←h6]
    simp (maxSteps:=300000) (disch:=omega) [↓if_pos,↓if_neg,K.sh,K.fi,H.get,H.put,hc,hf,hpq]
  ·rw[gY,if_neg h]
   simp (maxSteps:=300000) (disch:=omega) [↓if_pos,↓if_neg,K.sh,K.fi]
end
def symM (C:Nat→Nat→Int):Nat→List Nat→Nat→Nat→Nat→List Nat
 | 0,xs,_,_,_=>xs
 | f+1,xs,a,m,b =>
  if m-a=1 then shU (zu C xs a (b-m) m b-1-a) a xs
  else if b-m=1 then shD (m-zk C xs m (m-a) a m) m xs
  else
   let s:=if (a+b) / 2<m then gY C xs ((a+b) / 2+m-1) (b-a) ((a+b) / 2+m-b) ((a+b) / 2) else gY C xs ((a+b) / 2+m-1) (b-a) a m
   let e:=(a+b) / 2+m-s
   let ys:=if s<m∧m<e then rot m (e-s) xs (m-s) (e-m) else xs
   let zs:=if a<s∧s<(a+b) / 2 then symM C f ys a s ((a+b) / 2) else ys
   if (a+b) / 2<e∧e<b then symM C f zs ((a+b) / 2) e b else zs
theorem M3 {C:Nat→Nat→Int}{xs:List Nat}{a:Nat}:∀ {f i j:Nat},i≤j→i≤zu C xs a f i j∧zu C xs a f i j≤j
 | 0,i,j,h=>⟨Nat.le_refl _,h⟩
 | f+1,i,j,h=>by
  rw[zu]
  split
  ·split
   ·have:=M3 (C:=C) (xs:=xs) (a:=a) (f:=f) (i:=(i+j) / 2+1) (j:=j) (by omega);omega
   ·have:=M3 (C:=C) (xs:=xs) (a:=a) (f:=f) (i:=i) (j:=(i+j) / 2) (by omega);omega
  ·exact⟨Nat.le_refl _,h⟩
theorem XG {C:Nat→Nat→Int}{xs:List Nat}{m:Nat}:∀ {f i j:Nat},i≤j→i≤zk C xs m f i j∧zk C xs m f i j≤j
 | 0,i,j,h=>⟨Nat.le_refl _,h⟩
 | f+1,i,j,h=>by
  rw[zk]
  split
  ·split
   ·have:=XG (C:=C) (xs:=xs) (m:=m) (f:=f) (i:=i) (j:=(i+j) / 2) (by omega);omega
   ·have:=XG (C:=C) (xs:=xs) (m:=m) (f:=f) (i:=(i+j) / 2+1) (j:=j) (by omega);omega
  ·exact⟨Nat.le_refl _,h⟩
theorem tD {C:Nat→Nat→Int}{xs:List Nat}{p:Nat}:∀ {f i j:Nat},i≤j→i≤gY C xs p f i j∧gY C xs p f i j≤j
 | 0,i,j,h=>⟨Nat.le_refl _,h⟩
 | f+1,i,j,h=>by
  rw[gY]
  split
  ·split
   ·have:=tD (C:=C) (xs:=xs) (p:=p) (f:=f) (i:=i) (j:=(i+j) / 2) (by omega);omega
   ·have:=tD (C:=C) (xs:=xs) (p:=p) (f:=f) (i:=(i+j) / 2+1) (j:=j) (by omega);omega
  ·exact⟨Nat.le_refl _,h⟩
theorem Zm:∀ {n k:Nat}{xs:List Nat},(shU n k xs).length=xs.length
 | 0,_,_=>rfl
 | n+1,k,xs=>by rw[shU,Zm,lT]
theorem Zj:∀ {n k:Nat}{xs:List Nat},(shD n k xs).length=xs.length
 | 0,_,_=>rfl
 | n+1,k,xs=>by rw[shD,Zj,lT]
theorem bU.shU {L:Nat}:∀ {n k:Nat}{xs:List Nat},bU L xs→k+n<xs.length→bU L (shU n k xs)
 | 0,_,_,u,_=>u
 | n+1,k,xs,u,h=>by rw[Vm.shU];exact(u.swp (by omega) (by omega)).shU (by rw[lT];omega)
theorem bU.shD {L:Nat}:∀ {n k:Nat}{xs:List Nat},bU L xs→k<xs.length→bU L (shD n k xs)
 | 0,_,_,u,_=>u
 | n+1,k,xs,u,h=>by rw[Vm.shD];exact(u.swp (by omega) (by omega)).shD (by rw[lT];omega)
end Go.Vm
namespace Go.Vm
set_option maxHeartbeats 2000000
theorem ll {C:Nat→Nat→Int}:∀ {f:Nat}{xs:List Nat}{a m b:Nat},(symM C f xs a m b).length=xs.length
 | 0,_,_,_,_=>rfl
 | f+1,xs,a,m,b=>by
  rw[symM]
  split
  ·exact Zm
  ·split
   ·exact Zj
   ·simp only
    repeat' split
    all_goals simp only[ll,u4]
theorem bU.symM {L:Nat}{C:Nat→Nat→Int}:∀ {f:Nat}{xs:List Nat}{a m b:Nat},bU L xs→a<m→m<b→b≤xs.length→bU L (symM C f xs a m b)
 | 0,_,_,_,_,u,_,_,_=>u
 | f+1,xs,a,m,b,u,h1,h2,h3=>by
  rw[Go.Vm.symM]
  split
  ·have:=M3 (C:=C) (xs:=xs) (a:=a) (f:=b-m) (i:=m) (j:=b) (by omega)
   exact u.shU (by omega)
  ·split
   ·exact u.shD (by omega)
   ·simp only
    generalize hs:(if (a+b) / 2<m then gY C xs ((a+b) / 2+m-1) (b-a) ((a+b) / 2+m-b) ((a+b) / 2) else gY C xs ((a+b) / 2+m-1) (b-a) a m)=s
    have s1:s≤m∧s≤(a+b) / 2+m∧a≤s+1∧(a+b) / 2+m-s≤b:=by
     subst hs
     split
     ·have:=tD (C:=C) (xs:=xs) (p:=(a+b) / 2+m-1) (f:=b-a) (i:=(a+b) / 2+m-b) (j:=(a+b) / 2) (by omega)
      omega
     ·have:=tD (C:=C) (xs:=xs) (p:=(a+b) / 2+m-1) (f:=b-a) (i:=a) (j:=m) (by omega)
      omega
    generalize hys:(if s<m∧m<(a+b) / 2+m-s then Go.Vm.rot m ((a+b) / 2+m-s-s) xs (m-s) ((a+b) / 2+m-s-m) else xs)=ys
    have uy:bU L ys∧ys.length=xs.length:=by
     subst hys
     split
     ·exact⟨u.rot (by omega) (by omega),u4⟩
     ·exact⟨u,rfl⟩
    generalize hzs:(if a<s∧s<(a+b) / 2 then Go.Vm.symM C f ys a s ((a+b) / 2) else ys)=zs
    have uz:bU L zs∧zs.length=xs.length:=by
     subst hzs
     split
     ·exact⟨uy.1.symM (by omega) (by omega) (by omega),by rw[ll];exact uy.2⟩
     ·exact uy
    split
    ·exact uz.1.symM (by omega) (by omega) (by omega)
    ·exact uz.1
section
variable {hp:List Nat→ac}{D L:Nat}{F:AV}{C:Nat→Nat→Int}
theorem Yp (H:Hp hp D) (K:Cm hp L F C) (len:Nat) (hlen:len≤1000000000) (N f:Nat) (ih:∀ (a m b:Nat) (xs:List Nat),b-a≤f→a<m→m<b→b≤len→xs.length=len→bU L xs→
  (Dn prog).call aw [.sl D 0 len,.d (.int .i64 a),.d (.int .i64 m),.d (.int .i64 b),F] ⟨hp xs,N⟩=some (.tup [],⟨hp (symM C f xs a m b),N⟩))
  (a m b:Nat) (xs:List Nat) (h1:b-a≤f+1) (h2:a<m) (h3:m<b) (h4:b≤len) (hx:xs.length=len) (u:bU L xs) (c1:¬ m-a=1) (c2:¬ b-m=1) (c3:(a+b) / 2<m) (d1:(gY C xs ((a+b) / 2+m-1) (b-a) ((a+b) / 2+m-b) ((a+b) / 2)<m∧m<(a+b) / 2+m-gY C xs ((a+b) / 2+m-1) (b-a) ((a+b) / 2+m-b) ((a+b) / 2))) :
  (Dn prog).call aw [.sl D 0 len,.d (.int .i64 a),.d (.int .i64 m),.d (.int .i64 b),F] ⟨hp xs,N⟩=some (.tup [],⟨hp (symM C (f+1) xs a m b),N⟩):=by
 rw[aJ bN bg.eq_1 rfl,symM,if_neg c1,if_neg c2]
 simp only
 have hf:=Lm (i:=a) (j:=b)
 have q1:a<(a+b) / 2∧(a+b) / 2<b∧(a+b) / 2*2≤a+b∧a+b≤(a+b) / 2*2+1:=by omega
 rw[if_pos c3]
 generalize (a+b) / 2=M at *
 have cn:((M+m:Nat):Int)=(M:Int)+m:=rfl
 have cp:((M+m-1:Nat):Int)=(M:Int)+m-1:=by omega
 have s1:=tD (C:=C) (xs:=xs) (p:=M+m-1) (f:=b-a) (i:=M+m-b) (j:=M) (by omega)
 have g4:=sO H K len hlen a m b M (M+m) (M+m-1) N xs hx u (b-a) (M+m-b) M (by omega) (by omega) (by omega) (by omega) (by omega)
 have ci:((M+m-b:Nat):Int)=(M:Int)+m-b:=by omega
 rw[cn,cp,ci]at g4
 generalize gY C xs (M+m-1) (b-a) (M+m-b) M=s at *
 have ce:((M+m-s:Nat):Int)=(M:Int)+m-s:=by omega
 rw[if_pos d1]
 have hr:=ade H F K.sh K.fi len hlen s m (M+m-s) N d1.1 d1.2 (by omega) xs hx
 have uy:bU L (rot m (M+m-s-s) xs (m-s) (M+m-s-m)):=u.rot (by omega) (by omega)
 have ly:(rot m (M+m-s-s) xs (m-s) (M+m-s-m)).length=len:=by rw[u4];exact hx
 generalize rot m (M+m-s-s) xs (m-s) (M+m-s-m)=ys at *
 rw[ce]at hr
 by_cases d2:a<s∧s<M
 ·rw[if_pos d2]
  have h6:=ih a s M ys (by omega) d2.1 d2.2 (by omega) ly uy
  have uz:bU L (symM C f ys a s M):=uy.symM d2.1 d2.2 (by omega)
  have lz:(symM C f ys a s M).length=len:=by rw[ll];exact ly
  generalize symM C f ys a s M=zs at *
  by_cases d3:M<M+m-s∧M+m-s<b
  ·rw[if_pos d3]
   have h7:=ih M (M+m-s) b zs (by omega) d3.1 d3.2 h4 lz uz
   rw[ce]at h7
   first
    | (exfalso;omega)
    | simp (maxSteps:=300000) (disch:=omega) [↓if_pos,↓if_neg,K.sh,K.fi,hf,g4,hr,h6,h7]
  ·rw[if_neg d3]
   have h7:True:=trivial
   first
    | (exfalso;omega)
    | simp (maxSteps:=300000) (disch:=omega) [↓if_pos,↓if_neg,K.sh,K.fi,hf,g4,hr,h6,h7]
 ·rw[if_neg d2]
  have uz:=uy
  have lz:=ly
  have h6:True:=trivial
  by_cases d3:M<M+m-s∧M+m-s<b
  ·rw[if_pos d3]
   have h7:=ih M (M+m-s) b ys (by omega) d3.1 d3.2 h4 lz uz
   rw[ce]at h7
   first
    | (exfalso;omega)
    | simp (maxSteps:=300000) (disch:=omega) [↓if_pos,↓if_neg,K.sh,K.fi,hf,g4,hr,h6,h7]
  ·rw[if_neg d3]
   have h7:True:=trivial
   first
    | (exfalso;omega)
    | simp (maxSteps:=300000) (disch:=omega) [↓if_pos,↓if_neg,K.sh,K.fi,hf,g4,hr,h6,h7]
theorem Yo (H:Hp hp D) (K:Cm hp L F C) (len:Nat) (hlen:len≤1000000000) (N f:Nat) (ih:∀ (a m b:Nat) (xs:List Nat),b-a≤f→a<m→m<b→b≤len→xs.length=len→bU L xs→
  (Dn prog).call aw [.sl D 0 len,.d (.int .i64 a),.d (.int .i64 m),.d (.int .i64 b),F] ⟨hp xs,N⟩=some (.tup [],⟨hp (symM C f xs a m b),N⟩))
  (a m b:Nat) (xs:List Nat) (h1:b-a≤f+1) (h2:a<m) (h3:m<b) (h4:b≤len) (hx:xs.length=len) (u:bU L xs) (c1:¬ m-a=1) (c2:¬ b-m=1) (c3:(a+b) / 2<m) (d1:¬ (gY C xs ((a+b) / 2+m-1) (b-a) ((a+b) / 2+m-b) ((a+b) / 2)<m∧m<(a+b) / 2+m-gY C xs ((a+b) / 2+m-1) (b-a) ((a+b) / 2+m-b) ((a+b) / 2))) :
  (Dn prog).call aw [.sl D 0 len,.d (.int .i64 a),.d (.int .i64 m),.d (.int .i64 b),F] ⟨hp xs,N⟩=some (.tup [],⟨hp (symM C (f+1) xs a m b),N⟩):=by
 rw[aJ bN bg.eq_1 rfl,symM,if_neg c1,if_neg c2]
 simp only
 have hf:=Lm (i:=a) (j:=b)
 have q1:a<(a+b) / 2∧(a+b) / 2<b∧(a+b) / 2*2≤a+b∧a+b≤(a+b) / 2*2+1:=by omega
 rw[if_pos c3]
 generalize (a+b) / 2=M at *
 have cn:((M+m:Nat):Int)=(M:Int)+m:=rfl
 have cp:((M+m-1:Nat):Int)=(M:Int)+m-1:=by omega
 have s1:=tD (C:=C) (xs:=xs) (p:=M+m-1) (f:=b-a) (i:=M+m-b) (j:=M) (by omega)
 have g4:=sO H K len hlen a m b M (M+m) (M+m-1) N xs hx u (b-a) (M+m-b) M (by omega) (by omega) (by omega) (by omega) (by omega)
 have ci:((M+m-b:Nat):Int)=(M:Int)+m-b:=by omega
 rw[cn,cp,ci]at g4
 generalize gY C xs (M+m-1) (b-a) (M+m-b) M=s at *
 have ce:((M+m-s:Nat):Int)=(M:Int)+m-s:=by omega
 rw[if_neg d1]
 have uy:=u
 have ly:=hx
 have hr:True:=trivial
 by_cases d2:a<s∧s<M
 ·rw[if_pos d2]
  have h6:=ih a s M xs (by omega) d2.1 d2.2 (by omega) ly uy
  have uz:bU L (symM C f xs a s M):=uy.symM d2.1 d2.2 (by omega)
  have lz:(symM C f xs a s M).length=len:=by rw[ll];exact ly
  generalize symM C f xs a s M=zs at *
  by_cases d3:M<M+m-s∧M+m-s<b
  ·rw[if_pos d3]
   have h7:=ih M (M+m-s) b zs (by omega) d3.1 d3.2 h4 lz uz
   rw[ce]at h7
   first
    | (exfalso;omega)
    | simp (maxSteps:=300000) (disch:=omega) [↓if_pos,↓if_neg,K.sh,K.fi,hf,g4,hr,h6,h7]
  ·rw[if_neg d3]
   have h7:True:=trivial
   first
    | (exfalso;omega)
    | simp (maxSteps:=300000) (disch:=omega) [↓if_pos,↓if_neg,K.sh,K.fi,hf,g4,hr,h6,h7]
 ·rw[if_neg d2]
  have uz:=uy
  have lz:=ly
  have h6:True:=trivial
  by_cases d3:M<M+m-s∧M+m-s<b
  ·rw[if_pos d3]
   have h7:=ih M (M+m-s) b xs (by omega) d3.1 d3.2 h4 lz uz
   rw[ce]at h7
   first
    | (exfalso;omega)
    | simp (maxSteps:=300000) (disch:=omega) [↓if_pos,↓if_neg,K.sh,K.fi,hf,g4,hr,h6,h7]
  ·rw[if_neg d3]
   have h7:True:=trivial
   first
    | (exfalso;omega)
    | simp (maxSteps:=300000) (disch:=omega) [↓if_pos,↓if_neg,K.sh,K.fi,hf,g4,hr,h6,h7]
theorem Y8 (H:Hp hp D) (K:Cm hp L F C) (len:Nat) (hlen:len≤1000000000) (N f:Nat) (ih:∀ (a m b:Nat) (xs:List Nat),b-a≤f→a<m→m<b→b≤len→xs.length=len→bU L xs→
  (Dn prog).call aw [.sl D 0 len,.d (.int .i64 a),.d (.int .i64 m),.d (.int .i64 b),F] ⟨hp xs,N⟩=some (.tup [],⟨hp (symM C f xs a m b),N⟩))
  (a m b:Nat) (xs:List Nat) (h1:b-a≤f+1) (h2:a<m) (h3:m<b) (h4:b≤len) (hx:xs.length=len) (u:bU L xs) (c1:¬ m-a=1) (c2:¬ b-m=1) (c3:¬ (a+b) / 2<m) (d1:(gY C xs ((a+b) / 2+m-1) (b-a) a m<m∧m<(a+b) / 2+m-gY C xs ((a+b) / 2+m-1) (b-a) a m)) :
  (Dn prog).call aw [.sl D 0 len,.d (.int .i64 a),.d (.int .i64 m),.d (.int .i64 b),F] ⟨hp xs,N⟩=some (.tup [],⟨hp (symM C (f+1) xs a m b),N⟩):=by
 rw[aJ bN bg.eq_1 rfl,symM,if_neg c1,if_neg c2]
 simp only
 have hf:=Lm (i:=a) (j:=b)
 have q1:a<(a+b) / 2∧(a+b) / 2<b∧(a+b) / 2*2≤a+b∧a+b≤(a+b) / 2*2+1:=by omega
 rw[if_neg c3]
 generalize (a+b) / 2=M at *
 have cn:((M+m:Nat):Int)=(M:Int)+m:=rfl
 have cp:((M+m-1:Nat):Int)=(M:Int)+m-1:=by omega
 have s1:=tD (C:=C) (xs:=xs) (p:=M+m-1) (f:=b-a) (i:=a) (j:=m) (by omega)
 have g4:=sO H K len hlen a m b M (M+m) (M+m-1) N xs hx u (b-a) a m (by omega) (by omega) (by omega) (by omega) (by omega)
 rw[cn,cp]at g4
 generalize gY C xs (M+m-1) (b-a) a m=s at *
 have ce:((M+m-s:Nat):Int)=(M:Int)+m-s:=by omega
 rw[if_pos d1]
 have hr:=ade H F K.sh K.fi len hlen s m (M+m-s) N d1.1 d1.2 (by omega) xs hx
 have uy:bU L (rot m (M+m-s-s) xs (m-s) (M+m-s-m)):=u.rot (by omega) (by omega)
 have ly:(rot m (M+m-s-s) xs (m-s) (M+m-s-m)).length=len:=by rw[u4];exact hx
 generalize rot m (M+m-s-s) xs (m-s) (M+m-s-m)=ys at *
 rw[ce]at hr
 by_cases d2:a<s∧s<M
 ·rw[if_pos d2]
  have h6:=ih a s M ys (by omega) d2.1 d2.2 (by omega) ly uy
  have uz:bU L (symM C f ys a s M):=uy.symM d2.1 d2.2 (by omega)
  have lz:(symM C f ys a s M).length=len:=by rw[ll];exact ly
  generalize symM C f ys a s M=zs at *
  by_cases d3:M<M+m-s∧M+m-s<b
  ·rw[if_pos d3]
   have h7:=ih M (M+m-s) b zs (by omega) d3.1 d3.2 h4 lz uz
   rw[ce]at h7
   first
    | (exfalso;omega)
    | simp (maxSteps:=300000) (disch:=omega) [↓if_pos,↓if_neg,K.sh,K.fi,hf,g4,hr,h6,h7]
  ·rw[if_neg d3]
   have h7:True:=trivial
   first
    | (exfalso;omega)
    | simp (maxSteps:=300000) (disch:=omega) [↓if_pos,↓if_neg,K.sh,K.fi,hf,g4,hr,h6,h7]
 ·rw[if_neg d2]
  have uz:=uy
  have lz:=ly
  have h6:True:=trivial
  by_cases d3:M<M+m-s∧M+m-s<b
  ·rw[if_pos d3]
   have h7:=ih M (M+m-s) b ys (by omega) d3.1 d3.2 h4 lz uz
   rw[ce]at h7
   first
    | (exfalso;omega)
    | simp (maxSteps:=300000) (disch:=omega) [↓if_pos,↓if_neg,K.sh,K.fi,hf,g4,hr,h6,h7]
  ·rw[if_neg d3]
   have h7:True:=trivial
   first
    | (exfalso;omega)
    | simp (maxSteps:=300000) (disch:=omega) [↓if_pos,↓if_neg,K.sh,K.fi,hf,g4,hr,h6,h7]
theorem YU (H:Hp hp D) (K:Cm hp L F C) (len:Nat) (hlen:len≤1000000000) (N f:Nat) (ih:∀ (a m b:Nat) (xs:List Nat),b-a≤f→a<m→m<b→b≤len→xs.length=len→bU L xs→
  (Dn prog).call aw [.sl D 0 len,.d (.int .i64 a),.d (.int .i64 m),.d (.int .i64 b),F] ⟨hp xs,N⟩=some (.tup [],⟨hp (symM C f xs a m b),N⟩))
  (a m b:Nat) (xs:List Nat) (h1:b-a≤f+1) (h2:a<m) (h3:m<b) (h4:b≤len) (hx:xs.length=len) (u:bU L xs) (c1:¬ m-a=1) (c2:¬ b-m=1) (c3:¬ (a+b) / 2<m) (d1:¬ (gY C xs ((a+b) / 2+m-1) (b-a) a m<m∧m<(a+b) / 2+m-gY C xs ((a+b) / 2+m-1) (b-a) a m)) :
  (Dn prog).call aw [.sl D 0 len,.d (.int .i64 a),.d (.int .i64 m),.d (.int .i64 b),F] ⟨hp xs,N⟩=some (.tup [],⟨hp (symM C (f+1) xs a m b),N⟩):=by
 rw[aJ bN bg.eq_1 rfl,symM,if_neg c1,if_neg c2]
 simp only
 have hf:=Lm (i:=a) (j:=b)
 have q1:a<(a+b) / 2∧(a+b) / 2<b∧(a+b) / 2*2≤a+b∧a+b≤(a+b) / 2*2+1:=by omega
 rw[if_neg c3]
 generalize (a+b) / 2=M at *
 have cn:((M+m:Nat):Int)=(M:Int)+m:=rfl
 have cp:((M+m-1:Nat):Int)=(M:Int)+m-1:=by omega
 have s1:=tD (C:=C) (xs:=xs) (p:=M+m-1) (f:=b-a) (i:=a) (j:=m) (by omega)
 have g4:=sO H K len hlen a m b M (M+m) (M+m-1) N xs hx u (b-a) a m (by omega) (by omega) (by omega) (by omega) (by omega)
 rw[cn,cp]at g4
 generalize gY C xs (M+m-1) (b-a) a m=s at *
 have ce:((M+m-s:Nat):Int)=(M:Int)+m-s:=by omega
 rw[if_neg d1]
 have uy:=u
 have ly:=hx
 have hr:True:=trivial
 by_cases d2:a<s∧s<M
 ·rw[if_pos d2]
  have h6:=ih a s M xs (by omega) d2.1 d2.2 (by omega) ly uy
  have uz:bU L (symM C f xs a s M):=uy.symM d2.1 d2.2 (by omega)
  have lz:(symM C f xs a s M).length=len:=by rw[ll];exact ly
  generalize symM C f xs a s M=zs at *
  by_cases d3:M<M+m-s∧M+m-s<b
  ·rw[if_pos d3]
   have h7:=ih M (M+m-s) b zs (by omega) d3.1 d3.2 h4 lz uz
   rw[ce]at h7
   first
    | (exfalso;omega)
    | simp (maxSteps:=300000) (disch:=omega) [↓if_pos,↓if_neg,K.sh,K.fi,hf,g4,hr,h6,h7]
  ·rw[if_neg d3]
   have h7:True:=trivial
   first
    | (exfalso;omega)
    | simp (maxSteps:=300000) (disch:=omega) [↓if_pos,↓if_neg,K.sh,K.fi,hf,g4,hr,h6,h7]
 ·rw[if_neg d2]
  have uz:=uy
  have lz:=ly
  have h6:True:=trivial
  by_cases d3:M<M+m-s∧M+m-s<b
  ·rw[if_pos d3]
   have h7:=ih M (M+m-s) b xs (by omega) d3.1 d3.2 h4 lz uz
   rw[ce]at h7
   first
    | (exfalso;omega)
    | simp (maxSteps:=300000) (disch:=omega) [↓if_pos,↓if_neg,K.sh,K.fi,hf,g4,hr,h6,h7]
  ·rw[if_neg d3]
   have h7:True:=trivial
   first
    | (exfalso;omega)
    | simp (maxSteps:=300000) (disch:=omega) [↓if_pos,↓if_neg,K.sh,K.fi,hf,g4,hr,h6,h7]
theorem Wz (H:Hp hp D) (K:Cm hp L F C) (len:Nat) (hlen:len≤1000000000) (N:Nat):∀ (f a m b:Nat) (xs:List Nat),b-a≤f→a<m→m<b→b≤len→xs.length=len→bU L xs→
  (Dn prog).call aw [.sl D 0 len,.d (.int .i64 a),.d (.int .i64 m),.d (.int .i64 b),F] ⟨hp xs,N⟩=some (.tup [],⟨hp (symM C f xs a m b),N⟩):=by
 intro f
 induction f with
 | zero=>intro a m b xs h1 h2 h3;omega
 | succ f ih =>
  intro a m b xs h1 h2 h3 h4 hx u
  by_cases c1:m-a=1
  ·rw[aJ bN bg.eq_1 rfl,symM,if_pos c1]
   have hb:=M3 (C:=C) (xs:=xs) (a:=a) (f:=b-m) (i:=m) (j:=b) (by omega)
   have g0:=YK H K len hlen a N (by omega) xs hx u (b-m) m b (by omega) (by omega) h4
   generalize zu C xs a (b-m) m b=I at *
   have g1:=YV H len hlen I N (by omega) (I-1-a) a xs (by omega) hx
   simp (maxSteps:=300000) (disch:=omega) [↓if_pos,↓if_neg,K.sh,K.fi,g0,g1]
  ·by_cases c2:b-m=1
   ·rw[aJ bN bg.eq_1 rfl,symM,if_neg c1,if_pos c2]
    have hb:=XG (C:=C) (xs:=xs) (m:=m) (f:=m-a) (i:=a) (j:=m) (by omega)
    have g0:=YP H K len hlen m N (by omega) xs hx u (m-a) a m (by omega) (by omega) (by omega)
    generalize zk C xs m (m-a) a m=I at *
    have g1:=YC H len hlen I N (m-I) m xs (by omega) (by omega) hx
    simp (maxSteps:=300000) (disch:=omega) [↓if_pos,↓if_neg,K.sh,K.fi,g0,g1]
   ·by_cases c3:(a+b) / 2<m
    ·by_cases d1:(gY C xs ((a+b) / 2+m-1) (b-a) ((a+b) / 2+m-b) ((a+b) / 2)<m∧m<(a+b) / 2+m-gY C xs ((a+b) / 2+m-1) (b-a) ((a+b) / 2+m-b) ((a+b) / 2))
     ·exact Yp H K len hlen N f ih a m b xs h1 h2 h3 h4 hx u c1 c2 c3 d1
     ·exact Yo H K len hlen N f ih a m b xs h1 h2 h3 h4 hx u c1 c2 c3 d1
    ·by_cases d1:(gY C xs ((a+b) / 2+m-1) (b-a) a m<m∧m<(a+b) / 2+m-gY C xs ((a+b) / 2+m-1) (b-a) a m)
     ·exact Y8 H K len hlen N f ih a m b xs h1 h2 h3 h4 hx u c1 c2 c3 d1
     ·exact YU H K len hlen N f ih a m b xs h1 h2 h3 h4 hx u c1 c2 c3 d1
end
end Go.Vm
namespace Go.Vm
set_option maxHeartbeats 2000000
def xy (C:Nat→Nat→Int) (n:Nat):Nat→List Nat→Nat→List Nat×Nat
 | 0,xs,a=>(xs,a)
 | f+1,xs,a=>if a+20≤n then xy C n f (insO C a 19 (a+1) xs) (a+20) else (xs,a)
def Cr (C:Nat→Nat→Int) (n bs:Nat):Nat→List Nat→Nat→List Nat×Nat
 | 0,xs,a=>(xs,a)
 | f+1,xs,a=>if a+2*bs≤n then Cr C n bs f (symM C (2*bs) xs a (a+bs) (a+2*bs)) (a+2*bs) else (xs,a)
def stE (C:Nat→Nat→Int) (n bs:Nat) (p:List Nat×Nat):List Nat:=if p.2+bs<n then symM C (n-p.2) p.1 p.2 (p.2+bs) n else p.1
def Ma (C:Nat→Nat→Int) (n:Nat):Nat→List Nat→Nat→List Nat
 | 0,xs,_=>xs
 | f+1,xs,bs=>if bs<n then Ma C n f (stE C n bs (Cr C n bs n xs 0)) (2*bs) else xs
def stS (C:Nat→Nat→Int) (n:Nat) (p:List Nat×Nat):List Nat:=insO C p.2 (n-(p.2+1)) (p.2+1) p.1
def jp (C:Nat→Nat→Int) (n:Nat) (xs:List Nat):List Nat:=Ma C n n (stS C n (xy C n n xs 0)) 20
section
variable {hp:List Nat→ac}{D L:Nat}{F:AV}{C:Nat→Nat→Int}
theorem acN (H:Hp hp D) (K:Cm hp L F C) (n:Nat) (hlen:n≤1000000000) (N:Nat):∀ (f a:Nat) (xs:List Nat),n<a+f*20+20→a≤n→xs.length=n→bU L xs→
  (Dn prog).code (.loop dj) ⟨[(0,.sl D 0 n),(1,.d (.int .i64 n)),(2,F),(6,.d (.int .i64 20)),(7,.d (.int .i64 a)),(8,.d (.int .i64 ((a:Int)+20)))],⟨hp xs,N⟩⟩ =
  some (.exit 0,⟨[(0,.sl D 0 n),(1,.d (.int .i64 n)),(2,F),(6,.d (.int .i64 20)),(7,.d (.int .i64 (xy C n f xs a).2))],⟨hp (xy C n f xs a).1,N⟩⟩)∧
  (xy C n f xs a).1.length=n∧bU L (xy C n f xs a).1∧a≤(xy C n f xs a).2∧(xy C n f xs a).2≤n∧∃ q,(xy C n f xs a).2=a+20*q:=by
 intro f
 induction f with
 | zero =>
  intro a xs h1 h2 hx u
  refine⟨?_,hx,u,Nat.le_refl _,h2,0,rfl⟩
  rw[aa dj.eq_1]
  simp (maxSteps:=300000) (disch:=omega) [↓if_pos,↓if_neg,xy,K.sh,K.fi]
 | succ f ih =>
  intro a xs h1 h2 hx u
  rw[aa dj.eq_1,xy]
  by_cases h:a+20≤n
  ·rw[if_pos h]
   have h0:=Cw H K n hlen a (a+20) N (by omega) h xs hx u
   rw[show a+20-(a+1)=19 by omega]at h0
   obtain⟨g1,g2,g3,g4,g5,q,g6⟩:=ih (a+20) (insO C a 19 (a+1) xs) (by omega) h (by rw[Kn];exact hx) (u.insO (by omega))
   refine⟨?_,g2,g3,by omega,g5,q+1,by omega⟩
   have c1:((a+20:Nat):Int)=(a:Int)+20:=rfl
   rw[c1]at h0 g1
   rw[←g1]
   simp (maxSteps:=300000) (disch:=omega) [↓if_pos,↓if_neg,K.sh,K.fi,h0]
  ·rw[if_neg h]
   refine⟨?_,hx,u,Nat.le_refl _,h2,0,rfl⟩
   simp (maxSteps:=300000) (disch:=omega) [↓if_pos,↓if_neg,K.sh,K.fi]
theorem ac9 (H:Hp hp D) (K:Cm hp L F C) (n:Nat) (hlen:n≤1000000000) (bs N:Nat) (hbs:1≤bs) (hb2:bs≤1000000000):∀ (f a:Nat) (xs:List Nat),n<a+f+1→a≤n→xs.length=n→bU L xs→
  (Dn prog).code (.loop di) ⟨[(0,.sl D 0 n),(1,.d (.int .i64 n)),(2,F),(6,.d (.int .i64 bs)),(7,.d (.int .i64 a)),(8,.d (.int .i64 ((a:Int)+2*(bs:Int))))],⟨hp xs,N⟩⟩ =
  some (.exit 4,⟨[(0,.sl D 0 n),(1,.d (.int .i64 n)),(2,F),(6,.d (.int .i64 bs)),(7,.d (.int .i64 (Cr C n bs f xs a).2))],⟨hp (Cr C n bs f xs a).1,N⟩⟩)∧
  (Cr C n bs f xs a).1.length=n∧bU L (Cr C n bs f xs a).1∧(Cr C n bs f xs a).2≤n:=by
 intro f
 induction f with
 | zero =>
  intro a xs h1 h2 hx u
  refine⟨?_,hx,u,h2⟩
  rw[aa di.eq_1]
  simp (maxSteps:=300000) (disch:=omega) [↓if_pos,↓if_neg,Cr,K.sh,K.fi]
 | succ f ih =>
  intro a xs h1 h2 hx u
  rw[aa di.eq_1,Cr]
  by_cases h:a+2*bs≤n
  ·rw[if_pos h]
   have h0:=Wz H K n hlen N (2*bs) a (a+bs) (a+2*bs) xs (by omega) (by omega) (by omega) h hx u
   obtain⟨g1,g2,g3,g4⟩:=ih (a+2*bs) (symM C (2*bs) xs a (a+bs) (a+2*bs)) (by omega) h (by rw[ll];exact hx) (u.symM (by omega) (by omega) (by omega))
   refine⟨?_,g2,g3,g4⟩
   have c1:((a+bs:Nat):Int)=(a:Int)+bs:=rfl
   have c2:((a+2*bs:Nat):Int)=(a:Int)+2*bs:=by omega
   rw[c1,c2]at h0
   rw[c2]at g1
   rw[←g1]
   simp (maxSteps:=300000) (disch:=omega) [↓if_pos,↓if_neg,K.sh,K.fi,h0]
  ·rw[if_neg h]
   refine⟨?_,hx,u,h2⟩
   simp (maxSteps:=300000) (disch:=omega) [↓if_pos,↓if_neg,K.sh,K.fi]
theorem ab3 (H:Hp hp D) (K:Cm hp L F C) (n:Nat) (hlen:n≤1000000000) (N:Nat):∀ (f bs:Nat) (xs:List Nat),n<bs+f+1→1≤bs→bs≤2000000000→xs.length=n→bU L xs→
  (Dn prog).code (.loop dk) ⟨[(0,.sl D 0 n),(1,.d (.int .i64 n)),(2,F),(6,.d (.int .i64 bs))],⟨hp xs,N⟩⟩ =
  some (.exit 2,⟨[],⟨hp (Ma C n f xs bs),N⟩⟩)∧(Ma C n f xs bs).length=n∧bU L (Ma C n f xs bs):=by
 intro f
 induction f with
 | zero =>
  intro bs xs h1 h2 h3 hx u
  refine⟨?_,hx,u⟩
  rw[aa dk.eq_1]
  simp (maxSteps:=300000) (disch:=omega) [↓if_pos,↓if_neg,Ma,K.sh,K.fi]
 | succ f ih =>
  intro bs xs h1 h2 h3 hx u
  rw[aa dk.eq_1,Ma]
  by_cases h:bs<n
  ·rw[if_pos h]
   obtain⟨g1,g2,g3,g4⟩:=ac9 H K n hlen bs N h2 (by omega) n 0 xs (by omega) (by omega) hx u
   generalize Cr C n bs n xs 0=p at *
   obtain⟨ys,a⟩:=p
   simp only at g1 g2 g3 g4
   have c0:((0:Nat):Int)=0:=rfl
   have cz:(0:Int)+2*(bs:Int)=2*(bs:Int):=by omega
   have c2:((2*bs:Nat):Int)=2*(bs:Int):=by omega
   rw[c0,cz]at g1
   unfold stE
   simp only
   by_cases h5:a+bs<n
   ·rw[if_pos h5]
    have h0:=Wz H K n hlen N (n-a) a (a+bs) n ys (by omega) (by omega) h5 (Nat.le_refl _) g2 g3
    have c1:((a+bs:Nat):Int)=(a:Int)+bs:=rfl
    obtain⟨k1,k2,k3⟩:=ih (2*bs) (symM C (n-a) ys a (a+bs) n) (by omega) (by omega) (by omega) (by rw[ll];exact g2) (g3.symM (by omega) h5 (by omega))
    refine⟨?_,k2,k3⟩
    rw[c1]at h0
    rw[c2]at k1
    have cc:(bs:Int)*2=2*(bs:Int):=by omega
    rw[←k1]
    simp (maxSteps:=300000) (disch:=omega) [↓if_pos,↓if_neg,K.sh,K.fi,g1,h0,cc]
   ·rw[if_neg h5]
    obtain⟨k1,k2,k3⟩:=ih (2*bs) ys (by omega) (by omega) (by omega) g2 g3
    refine⟨?_,k2,k3⟩
    rw[c2]at k1
    have cc:(bs:Int)*2=2*(bs:Int):=by omega
    rw[←k1]
    simp (maxSteps:=300000) (disch:=omega) [↓if_pos,↓if_neg,K.sh,K.fi,g1,cc]
  ·rw[if_neg h]
   refine⟨?_,hx,u⟩
   simp (maxSteps:=300000) (disch:=omega) [↓if_pos,↓if_neg,K.sh,K.fi]
theorem abJ (H:Hp hp D) (K:Cm hp L F C) (n:Nat) (hlen:n≤1000000000) (hn:n % 20≠0) (N:Nat) (xs:List Nat) (hx:xs.length=n) (u:bU L xs) :
  (Dn prog).call fW [.sl D 0 n,.d (.int .i64 n),F] ⟨hp xs,N⟩=some (.tup [],⟨hp (jp C n xs),N⟩):=by
 rw[aJ tH gg.eq_1 rfl,jp]
 obtain⟨g1,g2,g3,_,g5,q,g6⟩:=acN H K n hlen N n 0 xs (by omega) (by omega) hx u
 generalize xy C n n xs 0=p at *
 obtain⟨ys,a⟩:=p
 simp only at g1 g2 g3 g5 g6
 have h0:=Cw H K n hlen a n N (by omega) (Nat.le_refl _) ys g2 g3
 unfold stS
 simp only
 obtain⟨k1,k2,k3⟩:=ab3 H K n hlen N n 20 (insO C a (n-(a+1)) (a+1) ys) (by omega) (by omega) (by omega) (by rw[Kn];exact g2) (g3.insO (by omega))
 have c0:((0:Nat):Int)=0:=rfl
 have cz:(0:Int)+20=20:=rfl
 have c2:((20:Nat):Int)=20:=rfl
 rw[c0,cz]at g1
 rw[c2]at k1
 simp (maxSteps:=300000) (disch:=omega) [↓if_pos,↓if_neg,K.sh,K.fi,g1,h0,k1]
end
end Go.Vm
namespace Go.Vm
set_option maxHeartbeats 2000000
set_option maxRecDepth 100000
def dE (id:Nat):Nat:=if id<5 then 4 else if id=12 then 1 else 2
def bI (id:Nat):Int:=[0,-1,-1,0,0,-4,-4,0,0,0,0,0,-60].getD id 0
def be (id:Nat):Nat:=[1,3,3,3,3,9,9,8,8,13,13,17,121].getD id 1
def bw (id:Nat):Nat:=[0,0,1,0,1,0,1,1,2,1,2,2,0].getD id 0
def afq (low:Int) (w:Nat):Nat→Nat→List Int
 | 0,_=>[]
 | d+1,e=>afq low w d (e / w)++[((e % w:Nat):Int)+low]
def afM (id e:Nat):List Int:=afq (bI id) (be id) (dE id) e
def AW:List Int→Nat
 | []=>0
 | x::r=>x.natAbs+AW r
def mK (id e:Nat):Nat:=AW (afM id e)
def ay (id:Nat):Nat:=be id ^ dE id
def aaH (s:Nat):List (Nat×Nat)→List Nat
 | []=>[]
 | (e,z)::r=>match Nat.beq z s with
  | true=>e::aaH s r
  | false=>aaH s r
def aki (id:Nat):List (Nat×Nat):=(List.range (ay id)).map fun e=>(e,mK id e)
def bh (id:Nat):List Nat:=let l:=aki id;(List.range 61).flatMap fun s=>aaH s l
def ahL (e:Nat):Nat→List Nat→Nat
 | i,[]=>i
 | i,x::r=>match Nat.beq x e with
  | true=>i
  | false=>ahL e (i+1) r
def ca (id:Nat):List Nat:=let l:=bh id;(List.range (ay id)).map fun e=>ahL e 0 l
abbrev jT (id:Nat):Prop:=1≤id∧id≤12
abbrev sT (id:Nat):AV:=.agg [.d (.int .i64 id),.d (.int .i64 (bw id)),.d (.lst (bm (bh id))),.d (.lst (bm (ca id)))]
abbrev MM (id:Nat):AV:=.agg [.d (.int .i64 id),.d (.int .i64 (bw id)),.own true 1 (bm (bh id)),.own true 1 (bm (ca id))]
def ji:List Nat:=[1,2,3,4,5,6,7,8,9,10,11,12]
theorem iV {id:Nat}(h:jT id):id∈ji:=by
 obtain⟨h1,h2⟩:=h
 simp only[ji,List.mem_cons,List.not_mem_nil,or_false]
 omega
abbrev Xv (id:Nat):AV:=.agg [.d (.int .i64 (dE id)),.d (.int .i64 (bI id)),.d (.int .i64 (bI id+be id-1)),.d (.int .i64 (bw id))]
theorem IT:∀ x∈ji,aW prog xj [.d (.int .i64 x)]=some (.tup [Xv x,.d (.int .i64 0)]):=wj 100 ji (by kernel_rfl)
theorem BN:∀ x∈ji,aW prog dw [Xv x]=some (.d (.int .i64 (ay x))):=wj 100 ji (by kernel_rfl)
theorem af3 {z:List D}{n:Nat}(h:n≤1000000000):tp z (.d (.int .i64 n)) (.d (.int .i64 n))=some (.own true z.length (List.replicate n z)):=by
 have h0:¬ ((n:Int)<0):=by omega
 have h1:Nat.ble n aD=true:=Nat.ble_eq_true_of_le (Nat.le_trans h (by decide))
 have h2:Nat.ble n n=true:=by rw[SG];simp
 simp only[tp,bO,h1,h2]
end Go.Vm
namespace Go.Vm
set_option maxHeartbeats 2000000
set_option maxRecDepth 100000
theorem Ew (x:Nat):aW prog jd [.d (.int .u8 x)]=some (.d (.bool false)):=by
 rw[au GK mq.eq_1 rfl]
 simp (maxSteps:=300000) (disch:=omega) [↓if_pos,↓if_neg]
theorem YY (x y:Nat):aW prog kg [.d (.int .u8 x),.d (.int .u8 y)]=some (.d (.int .i64 (if x<y then -1 else if y<x then 1 else 0))):=by
 rw[au CY kf.eq_1 rfl]
 by_cases h1:x<y
 ·rw[if_pos h1]
  simp (maxSteps:=300000) (disch:=omega) [↓if_pos,↓if_neg,Ew]
 ·rw[if_neg h1]
  by_cases h2:y<x
  ·rw[if_pos h2]
   simp (maxSteps:=300000) (disch:=omega) [↓if_pos,↓if_neg,Ew]
  ·rw[if_neg h2]
   simp (maxSteps:=300000) (disch:=omega) [↓if_pos,↓if_neg,Ew]
@[simp] theorem amC {len n S o:Nat}{k:IntKind}{z:Int}(h0:0≤z) (h:z<len):AA len n (.ptr S o) (.d (.int k z))=some (.ptr S (o+z.toNat*n)):=by
 obtain⟨i,rfl⟩:=Int.eq_ofNat_of_zero_le h0
 have hl:Nat.ble len i=false:=by rw[←Bool.not_eq_true,Nat.ble_eq];omega
 show (match Nat.ble len i with | true=>none | false=>bM (i*n) (.ptr S o))=_
 rw[hl]
 rfl
def eg (id:Nat):List Nat:=(List.range (ay id)).map fun e=>mK id e
def cC (l:List Nat) (x y:Nat):Int:=if nth l x<nth l y then -1 else if nth l y<nth l x then 1 else 0
def jm (id:Nat):List AV:=(List.range 289).map fun e=>.d (.int .u8 (if e<ay id then mK id e else 0:Nat))
theorem Sa {id:Nat}:(jm id).length=289:=by simp[jm]
theorem Ru {id x:Nat}(h:x<ay id) (h2:ay id≤289):(jm id)[x]?=some (.d (.int .u8 (nth (eg id) x:Nat))):=by
 have e:nth (eg id) x=mK id x:=by
  have:=oA (l:=eg id) (i:=x) (by simp[eg];exact h)
  rw[eg,List.getElem?_map,List.getElem?_range h]at this
  simpa [eg] using this.symm
 rw[e,jm,List.getElem?_map,List.getElem?_range (by omega)]
 simp[h]
theorem amJ {hp:List Nat→ac}{S id:Nat}(hS:∀ xs,get (hp xs) S=some (.cells (jm id))) (h2:ay id≤289):Cm hp (ay id) (.fn py [] [.ptr S 0]) (cC (eg id)) where
 sh:=rfl
 fi:=rfl
 cl xs N x y hx hy:=by
  have e1:=Ru hx h2
  have e2:=Ru hy h2
  show (Dn prog).call py ([]++([.d (.int .i64 (x:Nat)),.d (.int .i64 (y:Nat))]++[.ptr S 0])) ⟨hp xs,N⟩=_
  simp only[List.nil_append,List.cons_append]
  rw[aJ Xk vx.eq_1 rfl]
  generalize jm id=Z at *
  simp (maxSteps:=300000) (disch:=omega) [↓if_pos,↓if_neg,hS,e1,e2,YY,cC]
end Go.Vm
namespace Go.Vm
set_option maxHeartbeats 2000000
set_option maxRecDepth 100000
noncomputable section
theorem ahO {k i:Nat}(h:k=i):Nat.beq k i=true:=by rw[Nat.beq_eq];exact h
theorem ajx {k i:Nat}(h:¬ k=i):Nat.beq k i=false:=by rw[←Bool.not_eq_true,Nat.beq_eq];exact h
def f8 (l:List Nat):Nat→Nat:=List.rec (motive:=fun _=>Nat→Nat) (fun _=>0) (fun x _ ih i=>Nat.casesOn (motive:=fun _=>Nat) i x (fun k=>ih k)) l
theorem oq:∀ (l:List Nat) (i:Nat),f8 l i=nth l i
 | [],i=>by simp[nth];rfl
 | x::l,0=>rfl
 | x::l,i+1=>oq l i
def aaQ (l:List Nat):Nat→Nat→List Nat:=List.rec (motive:=fun _=>Nat→Nat→List Nat) (fun _ _=>[]) (fun x r ih i v=>Nat.casesOn (motive:=fun _=>List Nat) i (v::r) (fun k=>x::ih k v)) l
theorem Zl:∀ (l:List Nat) (i v:Nat),aaQ l i v=l.set i v
 | [],i,v=>rfl
 | x::l,0,v=>rfl
 | x::l,i+1,v=>by
  show x::aaQ l i v=_
  rw[Zl l i v];rfl
def QZ (xs:List Nat) (i j:Nat):List Nat:=aaQ (aaQ xs i (f8 xs j)) j (f8 xs i)
theorem FX (xs:List Nat) (i j:Nat):QZ xs i j=swp xs i j:=by simp only[QZ,swp,Zl,oq]
def IH (l:List Nat) (x y:Nat):Bool:=Nat.ble (Nat.succ (f8 l x)) (f8 l y)
theorem tn (l:List Nat) (x y:Nat):(IH l x y=true)=(cC l x y<0):=by
 simp only[IH,oq,Nat.ble_eq,cC]
 apply propext
 constructor
 ·intro h;rw[if_pos (by omega)];omega
 ·intro h
  split at h
  ·omega
  ·split at h<;>omega
def FG (a b:Nat):Nat→Nat→List Nat→List Nat
 | 0,_,xs=>xs
 | k+1,i,xs=>FG a b k (i+1) (QZ xs (a+i) (b+i))
theorem Bw {a b:Nat}:∀ (k i:Nat) (xs:List Nat),FG a b k i xs=swpR xs a b k i
 | 0,_,_=>rfl
 | k+1,i,xs=>by rw[FG,swpR,FX,Bw]
def Wo (m:Nat):Nat→List Nat→Nat→Nat→List Nat
 | 0,xs,i,j=>xs
 | f+1,xs,i,j=>match Nat.beq i j with
  | true=>FG (m-i) m i 0 xs
  | false=>match Nat.ble i j with
   | true=>Wo m f (FG (m-i) (m+j-i) i 0 xs) i (j-i)
   | false=>Wo m f (FG (m-i) m j 0 xs) (i-j) j
theorem QJ {m:Nat}:∀ (f:Nat) (xs:List Nat) (i j:Nat),Wo m f xs i j=rot m f xs i j
 | 0,_,_,_=>rfl
 | f+1,xs,i,j=>by
  rw[Wo,rot]
  by_cases h:i=j
  ·rw[ahO h,if_pos h,Bw]
  ·rw[ajx h,if_neg h]
   by_cases h2:j<i
   ·rw[show Nat.ble i j=false by rw[←Bool.not_eq_true,Nat.ble_eq];omega,if_pos h2];simp only[QJ,Bw]
   ·rw[Nat.ble_eq_true_of_le (by omega:i≤j),if_neg h2];simp only[QJ,Bw]
section
variable (l:List Nat)
def VM (a:Nat):Nat→List Nat→List Nat
 | 0,xs=>xs
 | j+1,xs=>match Nat.ble a j with
  | false=>xs
  | true=>match IH l (f8 xs (j+1)) (f8 xs j) with
   | true=>VM a j (QZ xs (j+1) j)
   | false=>xs
theorem Wi {a:Nat}:∀ (j:Nat) (xs:List Nat),VM l a j xs=insJ (cC l) a j xs
 | 0,_=>rfl
 | j+1,xs=>by
  rw[VM,insJ]
  by_cases h:a≤j
  ·rw[Nat.ble_eq_true_of_le h]
   simp only[oq]
   cases h2:IH l (nth xs (j+1)) (nth xs j) with
   | true=>rw[if_pos ⟨h,by rw[←tn];exact h2⟩,←Wi,FX]
   | false=>rw[if_neg (fun q=>by have:=q.2;rw[←tn,h2]at this;exact absurd this (by simp))]
  ·rw[show Nat.ble a j=false by rw[←Bool.not_eq_true,Nat.ble_eq];exact h,if_neg (fun q=>h q.1)]
def Mj (a:Nat):Nat→Nat→List Nat→List Nat
 | 0,_,xs=>xs
 | k+1,i,xs=>Mj a k (i+1) (VM l a i xs)
theorem KJ {a:Nat}:∀ (k i:Nat) (xs:List Nat),Mj l a k i xs=insO (cC l) a k i xs
 | 0,_,_=>rfl
 | k+1,i,xs=>by rw[Mj,insO,Wi,KJ]
def Ye (xs:List Nat) (a:Nat):Nat→Nat→Nat→Nat
 | 0,i,_=>i
 | f+1,i,j=>match Nat.ble j i with
  | true=>i
  | false=>match IH l (f8 xs ((i+j) / 2)) (f8 xs a) with
   | true=>Ye xs a f ((i+j) / 2+1) j
   | false=>Ye xs a f i ((i+j) / 2)
theorem SV {xs:List Nat}{a:Nat}:∀ (f i j:Nat),Ye l xs a f i j=zu (cC l) xs a f i j
 | 0,_,_=>rfl
 | f+1,i,j=>by
  rw[Ye,zu]
  by_cases h:i<j
  ·rw[show Nat.ble j i=false by rw[←Bool.not_eq_true,Nat.ble_eq];omega,if_pos h]
   simp only[oq]
   cases h2:IH l (nth xs ((i+j) / 2)) (nth xs a) with
   | true=>rw[if_pos (by rw[←tn];exact h2)];simp only[SV]
   | false=>rw[if_neg (by rw[←tn,h2];simp)];simp only[SV]
  ·rw[Nat.ble_eq_true_of_le (by omega:j≤i),if_neg h]
def Xq (xs:List Nat) (m:Nat):Nat→Nat→Nat→Nat
 | 0,i,_=>i
 | f+1,i,j=>match Nat.ble j i with
  | true=>i
  | false=>match IH l (f8 xs m) (f8 xs ((i+j) / 2)) with
   | true=>Xq xs m f i ((i+j) / 2)
   | false=>Xq xs m f ((i+j) / 2+1) j
theorem Rg {xs:List Nat}{m:Nat}:∀ (f i j:Nat),Xq l xs m f i j=zk (cC l) xs m f i j
 | 0,_,_=>rfl
 | f+1,i,j=>by
  rw[Xq,zk]
  by_cases h:i<j
  ·rw[show Nat.ble j i=false by rw[←Bool.not_eq_true,Nat.ble_eq];omega,if_pos h]
   simp only[oq]
   cases h2:IH l (nth xs m) (nth xs ((i+j) / 2)) with
   | true=>rw[if_pos (by rw[←tn];exact h2)];simp only[Rg]
   | false=>rw[if_neg (by rw[←tn,h2];simp)];simp only[Rg]
  ·rw[Nat.ble_eq_true_of_le (by omega:j≤i),if_neg h]
def SL (xs:List Nat) (p:Nat):Nat→Nat→Nat→Nat
 | 0,i,_=>i
 | f+1,i,j=>match Nat.ble j i with
  | true=>i
  | false=>match IH l (f8 xs (p-(i+j) / 2)) (f8 xs ((i+j) / 2)) with
   | true=>SL xs p f i ((i+j) / 2)
   | false=>SL xs p f ((i+j) / 2+1) j
theorem S1 {xs:List Nat}{p:Nat}:∀ (f i j:Nat),SL l xs p f i j=gY (cC l) xs p f i j
 | 0,_,_=>rfl
 | f+1,i,j=>by
  rw[SL,gY]
  by_cases h:i<j
  ·rw[show Nat.ble j i=false by rw[←Bool.not_eq_true,Nat.ble_eq];omega,if_pos h]
   simp only[oq]
   cases h2:IH l (nth xs (p-(i+j) / 2)) (nth xs ((i+j) / 2)) with
   | true=>rw[if_pos (by rw[←tn];exact h2)];simp only[S1]
   | false=>rw[if_neg (by rw[←tn,h2];simp)];simp only[S1]
  ·rw[Nat.ble_eq_true_of_le (by omega:j≤i),if_neg h]
def aaX:Nat→Nat→List Nat→List Nat
 | 0,_,xs=>xs
 | n+1,k,xs=>aaX n (k+1) (QZ xs k (k+1))
theorem ZY:∀ (n k:Nat) (xs:List Nat),aaX n k xs=shU n k xs
 | 0,_,_=>rfl
 | n+1,k,xs=>by rw[aaX,shU,FX,ZY]
def aa4:Nat→Nat→List Nat→List Nat
 | 0,_,xs=>xs
 | n+1,k,xs=>aa4 n (k-1) (QZ xs k (k-1))
theorem aab:∀ (n k:Nat) (xs:List Nat),aa4 n k xs=shD n k xs
 | 0,_,_=>rfl
 | n+1,k,xs=>by rw[aa4,shD,FX,aab]
def Ge:Nat→List Nat→Nat→Nat→Nat→List Nat
 | 0,xs,_,_,_=>xs
 | f+1,xs,a,m,b =>
  if m-a=1 then aaX (Ye l xs a (b-m) m b-1-a) a xs
  else if b-m=1 then aa4 (m-Xq l xs m (m-a) a m) m xs
  else
   let s:=if (a+b) / 2<m then SL l xs ((a+b) / 2+m-1) (b-a) ((a+b) / 2+m-b) ((a+b) / 2) else SL l xs ((a+b) / 2+m-1) (b-a) a m
   let e:=(a+b) / 2+m-s
   let ys:=if s<m∧m<e then Wo m (e-s) xs (m-s) (e-m) else xs
   let zs:=if a<s∧s<(a+b) / 2 then Ge f ys a s ((a+b) / 2) else ys
   if (a+b) / 2<e∧e<b then Ge f zs ((a+b) / 2) e b else zs
theorem Ja:∀ (f:Nat) (xs:List Nat) (a m b:Nat),Ge l f xs a m b=symM (cC l) f xs a m b
 | 0,_,_,_,_=>rfl
 | f+1,xs,a,m,b=>by
  rw[Ge,symM]
  simp only[ZY,aab,SV,Rg,S1,QJ,Ja f]
def Xi (n:Nat):Nat→List Nat→Nat→List Nat×Nat
 | 0,xs,a=>(xs,a)
 | f+1,xs,a=>if a+20≤n then Xi n f (Mj l a 19 (a+1) xs) (a+20) else (xs,a)
theorem ZA {n:Nat}:∀ (f:Nat) (xs:List Nat) (a:Nat),Xi l n f xs a=xy (cC l) n f xs a
 | 0,_,_=>rfl
 | f+1,xs,a=>by rw[Xi,xy];simp only[KJ,ZA f]
def WT (n bs:Nat):Nat→List Nat→Nat→List Nat×Nat
 | 0,xs,a=>(xs,a)
 | f+1,xs,a=>if a+2*bs≤n then WT n bs f (Ge l (2*bs) xs a (a+bs) (a+2*bs)) (a+2*bs) else (xs,a)
theorem ZN {n bs:Nat}:∀ (f:Nat) (xs:List Nat) (a:Nat),WT l n bs f xs a=Cr (cC l) n bs f xs a
 | 0,_,_=>rfl
 | f+1,xs,a=>by rw[WT,Cr];simp only[Ja,ZN f]
def abf (n bs:Nat) (p:List Nat×Nat):List Nat:=if p.2+bs<n then Ge l (n-p.2) p.1 p.2 (p.2+bs) n else p.1
theorem ahu {n bs:Nat}(p:List Nat×Nat):abf l n bs p=stE (cC l) n bs p:=by rw[abf,stE];simp only[Ja]
def aem (n:Nat) (p:List Nat×Nat):List Nat:=Mj l p.2 (n-(p.2+1)) (p.2+1) p.1
theorem agQ {n:Nat}(p:List Nat×Nat):aem l n p=stS (cC l) n p:=KJ l _ _ _
def EG (n:Nat):Nat→List Nat→Nat→List Nat
 | 0,xs,_=>xs
 | f+1,xs,bs=>if bs<n then EG n f (abf l n bs (WT l n bs n xs 0)) (2*bs) else xs
theorem Z7 {n:Nat}:∀ (f:Nat) (xs:List Nat) (bs:Nat),EG l n f xs bs=Ma (cC l) n f xs bs
 | 0,_,_=>rfl
 | f+1,xs,bs=>by rw[EG,Ma];simp only[ahu,ZN,Z7 f]
def QO (n:Nat) (xs:List Nat):List Nat:=EG l n n (aem l n (Xi l n n xs 0)) 20
theorem jD {n:Nat}(xs:List Nat):QO l n xs=jp (cC l) n xs:=by rw[QO,jp,Z7,agQ,ZA]
def rnd (n bs:Nat) (xs:List Nat):List Nat:=abf l n bs (WT l n bs n xs 0)
end
end
end Go.Vm
namespace Go.Vm
set_option maxHeartbeats 2000000
set_option maxRecDepth 1000000
theorem ae:jp (cC (eg 1)) (ay 1) (List.range (ay 1))=bh 1:=by rw[←jD];decide +kernel
theorem st3:jp (cC (eg 3)) (ay 3) (List.range (ay 3))=bh 3:=by rw[←jD];decide +kernel
theorem st5:jp (cC (eg 5)) (ay 5) (List.range (ay 5))=bh 5:=by rw[←jD];decide +kernel
theorem st7:jp (cC (eg 7)) (ay 7) (List.range (ay 7))=bh 7:=by rw[←jD];decide +kernel
theorem amr:jp (cC (eg 12)) (ay 12) (List.range (ay 12))=bh 12:=by rw[←jD];decide +kernel
theorem st9:jp (cC (eg 9)) (ay 9) (List.range (ay 9))=bh 9:=by rw[←jD];decide +kernel
end Go.Vm
namespace Go.Vm
set_option maxHeartbeats 2000000
set_option maxRecDepth 1000000
noncomputable section
def afQ:List Nat:=[0,1,17,2,18,3,19,4,5,6,7,8,9,10,11,12,13,14,15,16,34,35,20,36,21,37,22,38,23,39,24,25,26,27,28,29,30,31,32,33,51,52,53,54,55,40,56,41,57,42,58,43,59,44,45,46,47,48,49,50,68,69,70,71,72,73,74,75,60,76,61,77,62,78,63,79,64,65,66,67,85,86,87,88,89,90,91,92,93,94,95,80,96,81,97,82,98,83,99,84,102,103,119,104,105,106,107,108,109,110,111,112,113,114,115,100,116,101,117,118,120,136,121,137,122,138,123,139,124,125,126,127,128,129,130,131,132,133,134,135,153,154,155,140,156,141,157,142,158,143,159,144,145,146,147,148,149,150,151,152,170,171,172,173,174,175,160,176,161,177,162,178,163,179,164,165,166,167,168,169,187,188,189,190,191,192,193,194,195,180,196,181,197,182,198,183,199,184,185,186,204,205,206,207,208,209,210,211,212,213,214,215,200,216,201,217,202,218,203,219,221,222,238,223,239,224,225,226,227,228,229,230,231,232,233,234,235,220,236,237,255,240,256,241,257,242,258,243,259,244,245,246,247,248,249,250,251,252,253,254,272,273,274,275,260,276,261,277,262,278,263,279,264,265,266,267,268,269,270,271,280,281,282,283,284,285,286,287,288]
def afn:List Nat:=[0,1,17,2,18,34,3,19,35,4,20,36,5,21,37,6,22,38,7,23,39,8,24,9,25,10,26,11,27,12,28,13,29,14,30,15,31,16,32,33,51,52,68,53,69,54,70,55,71,40,56,72,41,57,73,42,58,74,43,59,75,44,60,76,45,61,77,46,62,78,47,63,79,48,64,49,65,50,66,67,85,86,102,87,103,119,88,104,89,105,90,106,91,107,92,108,93,109,94,110,95,111,80,96,112,81,97,113,82,98,114,83,99,115,84,100,116,101,117,118,120,136,121,137,153,122,138,154,123,139,155,124,140,156,125,141,157,126,142,158,127,143,159,128,144,129,145,130,146,131,147,132,148,133,149,134,150,135,151,152,170,171,187,172,188,173,189,174,190,175,191,160,176,192,161,177,193,162,178,194,163,179,195,164,180,196,165,181,197,166,182,198,167,183,199,168,184,169,185,186,204,205,221,206,222,238,207,223,239,208,224,209,225,210,226,211,227,212,228,213,229,214,230,215,231,200,216,232,201,217,233,202,218,234,203,219,235,220,236,237,255,240,256,272,241,257,273,242,258,274,243,259,275,244,260,276,245,261,277,246,262,278,247,263,279,248,264,249,265,250,266,251,267,252,268,253,269,254,270,271,280,281,282,283,284,285,286,287,288]
def afV:List Nat:=[0,1,17,2,18,34,3,19,35,51,4,20,36,52,68,5,21,37,53,69,6,22,38,54,70,7,23,39,55,71,8,24,40,56,72,9,25,41,57,73,10,26,42,58,74,11,27,43,59,75,12,28,44,60,76,13,29,45,61,77,14,30,46,62,78,15,31,47,63,79,16,32,48,64,33,49,65,50,66,67,85,86,102,87,103,119,88,104,120,136,89,105,121,137,153,90,106,122,138,154,91,107,123,139,155,92,108,124,140,156,93,109,125,141,157,94,110,126,142,158,95,111,127,143,159,80,96,112,128,144,81,97,113,129,145,82,98,114,130,146,83,99,115,131,147,84,100,116,132,148,101,117,133,149,118,134,150,135,151,152,170,171,187,172,188,204,173,189,205,221,174,190,206,222,238,175,191,207,223,239,160,176,192,208,224,161,177,193,209,225,162,178,194,210,226,163,179,195,211,227,164,180,196,212,228,165,181,197,213,229,166,182,198,214,230,167,183,199,215,231,168,184,200,216,232,169,185,201,217,233,186,202,218,234,203,219,235,220,236,237,255,240,256,272,241,257,273,242,258,274,243,259,275,244,260,276,245,261,277,246,262,278,247,263,279,248,264,280,249,265,281,250,266,282,251,267,283,252,268,284,253,269,285,254,270,286,271,287,288]
def afU:List Nat:=[0,1,17,2,18,34,3,19,35,51,4,20,36,52,68,5,21,37,53,69,85,6,22,38,54,70,86,102,7,23,39,55,71,87,103,119,8,24,40,56,72,88,104,120,136,9,25,41,57,73,89,105,121,137,153,10,26,42,58,74,90,106,122,138,154,11,27,43,59,75,91,107,123,139,155,12,28,44,60,76,92,108,124,140,156,13,29,45,61,77,93,109,125,141,157,14,30,46,62,78,94,110,126,142,158,15,31,47,63,79,95,111,127,143,159,16,32,48,64,80,96,112,128,144,33,49,65,81,97,113,129,145,50,66,82,98,114,130,146,67,83,99,115,131,147,84,100,116,132,148,101,117,133,149,118,134,150,135,151,152,170,171,187,172,188,204,173,189,205,221,174,190,206,222,238,175,191,207,223,239,255,160,176,192,208,224,240,256,272,161,177,193,209,225,241,257,273,162,178,194,210,226,242,258,274,163,179,195,211,227,243,259,275,164,180,196,212,228,244,260,276,165,181,197,213,229,245,261,277,166,182,198,214,230,246,262,278,167,183,199,215,231,247,263,279,168,184,200,216,232,248,264,280,169,185,201,217,233,249,265,281,186,202,218,234,250,266,282,203,219,235,251,267,283,220,236,252,268,284,237,253,269,285,254,270,286,271,287,288]
theorem ajV:aem (eg 11) 289 (Xi (eg 11) 289 289 (List.range 289) 0)=afQ:=by decide +kernel
theorem akB:rnd (eg 11) 289 20 afQ=afn:=by decide +kernel
theorem akb:rnd (eg 11) 289 40 afn=afV:=by decide +kernel
theorem akx:rnd (eg 11) 289 80 afV=afU:=by decide +kernel
theorem akD:rnd (eg 11) 289 160 afU=bh 11:=by decide +kernel
theorem am0:jp (cC (eg 11)) 289 (List.range 289)=bh 11:=by
 rw[←jD,QO,ajV]
 have u:∀ (f:Nat) (xs:List Nat) (bs:Nat),bs<289→EG (eg 11) 289 (f+1) xs bs=EG (eg 11) 289 f (rnd (eg 11) 289 bs xs) (2*bs):=fun f xs bs h=>by rw[EG,if_pos h];rfl
 rw[u 288 _ _ (by omega),akB,u 287 _ _ (by omega),akb,u 286 _ _ (by omega),akx,u 285 _ _ (by omega),akD]
 rw[show (285:Nat)=284+1 from rfl,EG,if_neg (by omega)]
end
end Go.Vm
namespace Go.Vm
set_option maxHeartbeats 2000000
set_option maxRecDepth 100000
theorem aeC:eg 2=eg 1∧eg 4=eg 3∧eg 6=eg 5∧eg 8=eg 7∧eg 10=eg 9:=⟨rfl,rfl,rfl,rfl,rfl⟩
theorem aaT:bh 2=bh 1∧bh 4=bh 3∧bh 6=bh 5∧bh 8=bh 7∧bh 10=bh 9:=⟨rfl,rfl,rfl,rfl,rfl⟩
theorem ahS (id:Nat) (h:jT id):jp (cC (eg id)) (ay id) (List.range (ay id))=bh id:=by
 obtain⟨p2,p4,p6,p8,p10⟩:=aeC
 obtain⟨q2,q4,q6,q8,q10⟩:=aaT
 have h1:id=1∨id=2∨id=3∨id=4∨id=5∨id=6∨id=7∨id=8∨id=9∨id=10∨id=11∨id=12:=by omega
 rcases h1 with rfl | rfl | rfl | rfl | rfl | rfl | rfl | rfl | rfl | rfl | rfl | rfl
 ·exact ae
 ·rw[p2,q2];exact ae
 ·exact st3
 ·rw[p4,q4];exact st3
 ·exact st5
 ·rw[p6,q6];exact st5
 ·exact st7
 ·rw[p8,q8];exact st7
 ·exact st9
 ·rw[p10,q10];exact st9
 ·exact am0
 ·exact amr
theorem Z3:∀ id∈ji,ay id≤289∧ay id % 20≠0∧1≤ay id:=by decide +kernel
def rks (es:List Nat):Nat→Nat→List Nat→List Nat
 | 0,_,R=>R
 | k+1,i,R=>rks es k (i+1) (R.set (nth es i) i)
theorem ahB:∀ id∈ji,rks (bh id) (ay id) 0 (List.replicate (ay id) 0)=ca id:=by decide +kernel
theorem ZL:∀ id∈ji,(bh id).length=ay id∧(ca id).length=ay id∧(bh id).all (fun e=>decide (e<ay id))=true:=by decide +kernel
def uc (n i:Nat):List Nat:=List.range i++List.replicate (n-i) 0
theorem aeo {n i:Nat}(h:i≤n):(uc n i).length=n:=by simp[uc];omega
theorem adR {n i:Nat}(h:i<n):(uc n i).set i i=uc n (i+1):=by
 unfold uc
 obtain⟨k,hk⟩:∃ k,n-i=k+1:=⟨n-i-1,by omega⟩
 rw[hk,List.replicate_succ,List.set_append_right _ _ (by simp),List.length_range,Nat.sub_self,List.set_cons_zero,List.range_succ,List.append_assoc]
 congr 2
 rw[show n-(i+1)=k by omega];rfl
section
variable (id n:Nat) (Z:List AV)
theorem YL (hn:n≤289) (R:List Nat) (a b c d:AV) (x0 x1:D) (N:Nat):∀ (k i:Nat),i+k=n→
  (Dn prog).code (.loop mJ) ⟨[(2,.ptr 0 0),(6,.ptr 4 0),(7,.ptr 5 0),(34,.d (.int .i64 n)),(35,.d (.int .i64 i))],
   ⟨[(0,.cells [a,b,c,d]),(2,.arr 1 (bm (uc n i))),(3,.arr 1 (bm R)),(4,.cells [.d x0,.d x1,.sl 2 0 n,.sl 3 0 n]),(5,.cells Z)],N⟩⟩ =
  some (.exit 0,⟨[(2,.ptr 0 0),(6,.ptr 4 0),(7,.ptr 5 0)],⟨[(0,.cells [a,b,c,d]),(2,.arr 1 (bm (uc n n))),(3,.arr 1 (bm R)),(4,.cells [.d x0,.d x1,.sl 2 0 n,.sl 3 0 n]),(5,.cells Z)],N⟩⟩):=by
 intro k
 induction k with
 | zero =>
  intro i h
  have:i=n:=by omega
  subst this
  rw[aa mJ.eq_1]
  simp (maxSteps:=300000) (disch:=omega) [↓if_pos,↓if_neg]
 | succ k ih =>
  intro i h
  have l:=aeo (n:=n) (i:=i) (by omega)
  have h5:=ih (i+1) (by omega)
  have c1:((i+1:Nat):Int)=(i:Int)+1:=rfl
  rw[c1]at h5
  rw[aa mJ.eq_1,←h5,←adR (by omega)]
  generalize uc n i=xs at *
  simp (maxSteps:=300000) (disch:=omega) [↓if_pos,↓if_neg]
theorem YJ (hn:n≤289) (es:List Nat) (he:es.length=n) (hu:bU n es) (a b c d:AV) (x0 x1:D) (N:Nat):∀ (k i:Nat) (R:List Nat),i+k=n→R.length=n→
  (Dn prog).code (.loop mS) ⟨[(2,.ptr 0 0),(6,.ptr 4 0),(49,.sl 2 0 n),(50,.d (.int .i64 n)),(51,.d (.int .i64 i))],
   ⟨[(0,.cells [a,b,c,d]),(2,.arr 1 (bm es)),(3,.arr 1 (bm R)),(4,.cells [.d x0,.d x1,.sl 2 0 n,.sl 3 0 n]),(5,.cells Z)],N⟩⟩ =
  some (.exit 2,⟨[(2,.ptr 0 0),(6,.ptr 4 0)],⟨[(0,.cells [a,b,c,d]),(2,.arr 1 (bm es)),(3,.arr 1 (bm (rks es k i R))),(4,.cells [.d x0,.d x1,.sl 2 0 n,.sl 3 0 n]),(5,.cells Z)],N⟩⟩):=by
 intro k
 induction k with
 | zero =>
  intro i R h hR
  rw[aa mS.eq_1]
  simp (maxSteps:=300000) (disch:=omega) [↓if_pos,↓if_neg,rks]
 | succ k ih =>
  intro i R h hR
  have h5:=ih (i+1) (R.set (nth es i) i) (by omega) (by simpa using hR)
  have c1:((i+1:Nat):Int)=(i:Int)+1:=rfl
  have hv:=hu.nth (i:=i) (by omega)
  rw[c1]at h5
  rw[aa mS.eq_1,rks,←h5]
  simp (maxSteps:=300000) (disch:=omega) [↓if_pos,↓if_neg]
end
end Go.Vm
namespace Go.Vm
set_option maxHeartbeats 2000000
set_option maxRecDepth 100000
@[simp] theorem am1 {h:ac}{n id off:Nat}{k:IntKind}{z:Int}(h0:0≤z) (h1:z≤n):Dh h n (.ptr id off) none (some (.d (.int k z))) none=bA (get h id) fun o=>bA (cellsOf o) fun cs=>dt (Nat.ble (off+n) cs.length) (some (.sl id off z.toNat)):=by
 obtain⟨d,rfl⟩:=Int.eq_ofNat_of_zero_le h0
 have hd:Nat.ble d n=true:=Nat.ble_eq_true_of_le (by omega)
 have hb:o8 n none (some (.d (.int k (d:Int)))) none=some (0,d,n):=by
  show (match (match Nat.ble d n with | true=>some d | false=>none) with | none=>none | some h=>jK none h n)=_
  rw[hd];rfl
 simp only[Dh,Av]
 cases get h id with
 | none=>rfl
 | some o =>
  cases o with
  | cells cs =>
   simp only[bA,cellsOf,hb]
   cases Nat.ble (off+n) cs.length<;>simp[dt]
  | arr=>rfl
  | loop=>rfl
def vc (V:List Int):List AV:=V.map fun z=>.d (.int .i64 z)
theorem Dk {V:List Int}:(vc V).length=V.length:=by simp[vc]
theorem abM {V:List Int}{i:Nat}(h:i<V.length):(vc V)[i]?=some (.d (.int .i64 (nth V i))):=by
 rw[vc,List.getElem?_map,oA h];rfl
theorem aiZ {V:List Int}{i:Nat}{z:Int}:(vc V).set i (.d (.int .i64 z))=vc (V.set i z):=by simp[vc,List.map_set]
theorem XC {V:List Int}{i:Nat}{z:Int}(h:i<V.length):List.take i (vc V)++AV.d (.int .i64 z)::List.drop (i+1) (vc V)=vc (V.set i z):=by
 rw[←aiZ,List.set_eq_take_append_cons_drop,if_pos (by rw[Dk];exact h)]
def Z0 (lo hi:Int):Nat→List Int→List Int
 | 0,V=>V
 | i+1,V=>if nth V i+1≤hi then V.set i (nth V i+1) else Z0 lo hi i (V.set i lo)
abbrev Sm (V:List Int):Prop:=∀ z∈V,-100000≤z∧z≤100000
section
variable (k1:AV) (dm lo hi pl:Int) (aT:List AV) (N:Nat)
theorem ad7 (d n m:Nat) (hd:d≤4) (V:List Int) (hV:V.length=4) (hs:Sm V):∀ (k i sum:Nat),i+k=d→sum≤1000000*(i+1)→
  (Dn prog).code (.loop gz) ⟨[(1,.ptr 0 0),(2,.ptr 1 0),(3,.ptr 2 0),(5,.d (.int .i64 n)),(6,.d (.int .i64 sum)),(21,.d (.int .i64 m)),(22,.d (.int .i64 n)),(27,.sl 2 0 d),(28,.d (.int .i64 d)),(29,.d (.int .i64 i))],
   ⟨[(0,.cells [.d (.int .i64 dm),.d (.int .i64 lo),.d (.int .i64 hi),.d (.int .i64 pl)]),(1,.cells aT),(2,.cells (vc V))],N⟩⟩ =
  some (.exit 4,⟨[(1,.ptr 0 0),(2,.ptr 1 0),(3,.ptr 2 0),(5,.d (.int .i64 n)),(6,.d (.int .i64 (sum+AW ((V.take d).drop i):Nat))),(21,.d (.int .i64 m)),(22,.d (.int .i64 n))],
   ⟨[(0,.cells [.d (.int .i64 dm),.d (.int .i64 lo),.d (.int .i64 hi),.d (.int .i64 pl)]),(1,.cells aT),(2,.cells (vc V))],N⟩⟩):=by
 intro k
 induction k with
 | zero =>
  intro i sum h1 h2
  have e:(V.take d).drop i=[]:=List.drop_eq_nil_of_le (by simp;omega)
  rw[aa gz.eq_1,e]
  simp (maxSteps:=300000) (disch:=omega) [↓if_pos,↓if_neg,AW]
 | succ k ih =>
  intro i sum h1 h2
  have hg:=abM (V:=V) (i:=i) (by omega)
  have hb:=hs (nth V i) (lI (by omega))
  have e:(V.take d).drop i=nth V i::(V.take d).drop (i+1):=by
   rw[List.drop_eq_getElem_cons (by simp;omega)]
   congr 1
   rw[List.getElem_take,XW (by omega)]
  have h5:=ih (i+1) (sum+(nth V i).natAbs) (by omega) (by omega)
  have es:sum+AW ((V.take d).drop i)=sum+(nth V i).natAbs+AW ((V.take d).drop (i+1)):=by rw[e,AW];omega
  rw[es]
  have c1:((i+1:Nat):Int)=(i:Int)+1:=rfl
  rw[c1]at h5
  rw[aa gz.eq_1,←h5]
  generalize nth V i=z at *
  by_cases hz:z<0
  ·have c2:((sum+z.natAbs:Nat):Int)=(sum:Int)+-z:=by omega
   rw[c2]
   simp (maxSteps:=300000) (disch:=omega) [↓if_pos,↓if_neg,hg]
  ·have c2:((sum+z.natAbs:Nat):Int)=(sum:Int)+z:=by omega
   rw[c2]
   simp (maxSteps:=300000) (disch:=omega) [↓if_pos,↓if_neg,hg]
theorem aeY (n m:Nat) (hlo:-1000≤lo∧lo≤1000):∀ (j:Nat) (V:List Int),j≤4→V.length=4→Sm V→
  (Dn prog).code (.loop gw) ⟨[(1,.ptr 0 0),(2,.ptr 1 0),(3,.ptr 2 0),(9,.d (.int .i64 ((j:Int)-1))),(21,.d (.int .i64 m)),(22,.d (.int .i64 n))],
   ⟨[(0,.cells [.d (.int .i64 dm),.d (.int .i64 lo),.d (.int .i64 hi),.d (.int .i64 pl)]),(1,.cells aT),(2,.cells (vc V))],N⟩⟩ =
  some (.exit 6,⟨[(1,.ptr 0 0),(2,.ptr 1 0),(3,.ptr 2 0),(21,.d (.int .i64 m)),(22,.d (.int .i64 n))],
   ⟨[(0,.cells [.d (.int .i64 dm),.d (.int .i64 lo),.d (.int .i64 hi),.d (.int .i64 pl)]),(1,.cells aT),(2,.cells (vc (Z0 lo hi j V)))],N⟩⟩):=by
 intro j
 induction j with
 | zero =>
  intro V h1 hV hs
  rw[aa gw.eq_1]
  simp (maxSteps:=300000) (disch:=omega) [↓if_pos,↓if_neg,Z0]
 | succ j ih =>
  intro V h1 hV hs
  have hg:=abM (V:=V) (i:=j) (by omega)
  have hb:=hs (nth V j) (lI (by omega))
  have hgs:∀ z,(vc (V.set j z))[j]?=some (.d (.int .i64 z)):=fun z=>by
   rw[vc,List.getElem?_map,List.getElem?_set_self (by omega)];rfl
  have c1:((j+1:Nat):Int)-1=(j:Int):=by omega
  have lp:=fun z=>XC (V:=V) (i:=j) (z:=z) (by omega)
  have lq:=fun y z=>XC (V:=V.set j y) (i:=j) (z:=z) (by simp;omega)
  have hss:∀ y z,(V.set j y).set j z=V.set j z:=fun y z=>List.set_set ..
  have hl2:∀ y,(V.set j y).length=4:=fun y=>by simpa using hV
  rw[c1,aa gw.eq_1,Z0]
  by_cases h:nth V j+1≤hi
  ·rw[if_pos h]
   generalize nth V j=z at *
   simp (maxSteps:=300000) (disch:=omega) [↓if_pos,↓if_neg,hg,Dk,lp,lq,hss,hl2,hV,hgs]
  ·have h5:=ih (V.set j lo) (by omega) (by simpa using hV) (fun z hz=>by
    rcases List.mem_or_eq_of_mem_set hz with g | g
    ·exact hs z g
    ·subst g;omega)
   rw[if_neg h,←h5]
   generalize nth V j=z at *
   simp (maxSteps:=300000) (disch:=omega) [↓if_pos,↓if_neg,hg,Dk,lp,lq,hss,hl2,hV,hgs]
def OI (lo:Int):Nat→Nat→List Int→List Int
 | 0,_,V=>V
 | k+1,i,V=>OI lo k (i+1) (V.set i lo)
theorem aeq (d:Nat) (hd:d≤4):∀ (k i:Nat) (V:List Int),i+k=d→V.length=4→
  (Dn prog).code (.loop gv) ⟨[(1,.ptr 0 0),(2,.ptr 1 0),(3,.ptr 2 0),(11,.d (.int .i64 d)),(12,.d (.int .i64 i))],
   ⟨[(0,.cells [.d (.int .i64 dm),.d (.int .i64 lo),.d (.int .i64 hi),.d (.int .i64 pl)]),(1,.cells aT),(2,.cells (vc V))],N⟩⟩ =
  some (.exit 0,⟨[(1,.ptr 0 0),(2,.ptr 1 0),(3,.ptr 2 0)],
   ⟨[(0,.cells [.d (.int .i64 dm),.d (.int .i64 lo),.d (.int .i64 hi),.d (.int .i64 pl)]),(1,.cells aT),(2,.cells (vc (OI lo k i V)))],N⟩⟩):=by
 intro k
 induction k with
 | zero =>
  intro i V h1 hV
  rw[aa gv.eq_1]
  simp (maxSteps:=300000) (disch:=omega) [↓if_pos,↓if_neg,OI]
 | succ k ih =>
  intro i V h1 hV
  have lp:=fun z=>XC (V:=V) (i:=i) (z:=z) (by omega)
  have h5:=ih (i+1) (V.set i lo) (by omega) (by simpa using hV)
  have c1:((i+1:Nat):Int)=(i:Int)+1:=rfl
  rw[c1]at h5
  rw[aa gv.eq_1,OI,←h5]
  simp (maxSteps:=300000) (disch:=omega) [↓if_pos,↓if_neg,Dk,lp,hV]
end
def oa (id n:Nat):List Int:=(afM id n++[0,0,0,0]).take 4
def afJ (id n:Nat):Bool:=decide (Z0 (bI id) (bI id+be id-1) (dE id) (oa id n)=oa id (n+1)) && decide (AW ((oa id n).take (dE id))=mK id n) && decide (mK id n≤255) &&
 (oa id n).all (fun z=>decide (-100000≤z) && decide (z≤100000)) && decide ((oa id n).length=4)
theorem agk:∀ id∈ji,(List.range (ay id)).all (afJ id)=true:=by decide +kernel
theorem aie {id n:Nat}(h:jT id) (hn:n<ay id):Z0 (bI id) (bI id+be id-1) (dE id) (oa id n)=oa id (n+1)∧AW ((oa id n).take (dE id))=mK id n∧mK id n≤255∧Sm (oa id n)∧(oa id n).length=4:=by
 have:=List.all_eq_true.1 (agk id (iV h)) n (by simpa using hn)
 simp only[afJ,Bool.and_eq_true,decide_eq_true_eq,List.all_eq_true]at this
 exact⟨this.1.1.1.1,this.1.1.1.2,this.1.1.2,fun z hz=>this.1.2 z hz,this.2⟩
theorem afp:∀ id∈ji,OI (bI id) (dE id) 0 [0,0,0,0]=oa id 0∧dE id≤4∧1≤dE id∧-1000≤bI id∧bI id≤1000∧ay id≤289:=by decide +kernel
def jL (id n:Nat):List AV:=(List.range 289).map fun e=>.d (.int .u8 (if e<n then mK id e else 0:Nat))
theorem KC {id n:Nat}:(jL id n).length=289:=by simp[jL]
theorem aez {id n:Nat}(h:n<289):List.take n (jL id n)++AV.d (.int .u8 (mK id n:Nat))::List.drop (n+1) (jL id n)=jL id (n+1):=by
 have e:(jL id n).set n (AV.d (.int .u8 (mK id n:Nat)))=jL id (n+1):=by
  apply List.ext_getElem?
  intro j
  rw[List.getElem?_set]
  by_cases hj:n=j
  ·subst hj
   rw[if_pos rfl,if_pos (by rw[KC];exact h),jL,List.getElem?_map,List.getElem?_range h]
   simp
  ·rw[if_neg hj,jL,jL,List.getElem?_map,List.getElem?_map]
   by_cases hl:j<289
   ·rw[List.getElem?_range hl]
    simp only[Option.map_some]
    by_cases h2:j<n
    ·rw[if_pos h2,if_pos (by omega)]
    ·rw[if_neg h2,if_neg (by omega)]
   ·rw[List.getElem?_eq_none (by simp;omega)];rfl
 rw[←e,List.set_eq_take_append_cons_drop,if_pos (by rw[KC];exact h)]
theorem ae2 (id:Nat) (h:jT id) (pl:Int) (N:Nat):∀ (k n:Nat),n+k=ay id→
  (Dn prog).code (.loop gp) ⟨[(1,.ptr 0 0),(2,.ptr 1 0),(3,.ptr 2 0),(21,.d (.int .i64 (ay id))),(22,.d (.int .i64 n))],
   ⟨[(0,.cells [.d (.int .i64 (dE id)),.d (.int .i64 (bI id)),.d (.int .i64 (bI id+be id-1)),.d (.int .i64 pl)]),(1,.cells (jL id n)),(2,.cells (vc (oa id n)))],N⟩⟩ =
  some (.exit 2,⟨[(2,.ptr 1 0)],⟨[(1,.cells (jL id (ay id))),(2,.cells (vc (oa id (ay id))))],N⟩⟩):=by
 obtain⟨d0,d1,d2,d3,d4,d5⟩:=afp id (iV h)
 intro k
 induction k with
 | zero =>
  intro n hn
  have:n=ay id:=by omega
  subst this
  rw[aa gp.eq_1]
  simp (maxSteps:=300000) (disch:=omega) [↓if_pos,↓if_neg]
 | succ k ih =>
  intro n hn
  obtain⟨f1,f2,f3,f4,f5⟩:=aie (n:=n) h (by omega)
  have g1:=ad7 (dE id) (bI id) (bI id+be id-1) pl (jL id n) N (dE id) n (ay id) d1 (oa id n) f5 f4 (dE id) 0 0 (by omega) (by omega)
  have g2:=aeY (dE id) (bI id) (bI id+be id-1) pl (jL id (n+1)) N n (ay id) ⟨d3,d4⟩ (dE id) (oa id n) d1 f5 f4
  rw[f1]at g2
  rw[List.drop_zero,f2,Nat.zero_add]at g1
  have h5:=ih (n+1) (by omega)
  have c1:((n+1:Nat):Int)=(n:Int)+1:=rfl
  have c0:((0:Nat):Int)=0:=rfl
  rw[c1]at h5
  rw[c0]at g1
  have hp:=aez (id:=id) (n:=n) (by omega)
  have hl:=Dk (V:=oa id n)
  have ol:=KC (id:=id) (n:=n)
  rw[aa gp.eq_1,←h5]
  generalize mK id n=z at *
  generalize hA:jL id n=A at *
  generalize hB:jL id (n+1)=B at *
  generalize oa id n=V at *
  generalize oa id (n+1)=W at *
  simp (maxSteps:=300000) (disch:=omega) [↓if_pos,↓if_neg,g1,g2,hp,AV.int]
end Go.Vm
namespace Go.Vm
set_option maxHeartbeats 2000000
set_option maxRecDepth 100000
def yR:List AV:=List.replicate 289 (.d (.int .u8 0))
theorem V5:yR.length=289:=by simp[yR]
theorem aib {id:Nat}:jL id 0=yR:=by
 simp only[jL,Nat.not_lt_zero,if_false,yR]
 rw[List.map_const',List.length_range]
 rfl
theorem adQ {id:Nat}:jL id (ay id)=jm id:=rfl
theorem akA {x0:AV}{h:ac}{n:Nat}:(Dn prog).code jN ⟨[(0,x0)],⟨h,n⟩⟩=cM (dt ((AV.cells x0).all cy) <| lA (put h n (.cells (AV.cells x0))) fun h1=>lA (put h1 (n+1) (.cells yR)) fun h2=>some ⟨[(1,.ptr n 0),(2,.ptr (n+1) 0)],⟨h2,n+1+1⟩⟩):=ov
abbrev Dl (Z:List AV):Prop:=∀ x∈Z,∃ d,x=AV.d d
theorem XM:∀ {Z:List AV},(bZ 1 Z).1=Z
 | []=>rfl
 | v::r=>by rw[bZ,XM];rfl
theorem Yg {h:ac}:∀ {Z:List AV},Dl Z→js h Z=some (Z,h)
 | [],_=>rfl
 | v::r,hz=>by
  obtain⟨d,rfl⟩:=hz v (.head _)
  have h1:fe h (.d d)=some (.d d,h):=rfl
  rw[js,h1]
  simp only[Yg (Z:=r) fun x hx=>hz x (.tail _ hx)]
theorem Wn:∀ {Z:List AV},Dl Z→Z.map gS=Z
 | [],_=>rfl
 | v::r,hz=>by
  obtain⟨d,rfl⟩:=hz v (.head _)
  rw[List.map_cons,Wn fun x hx=>hz x (.tail _ hx)]
  rfl
theorem afE {id:Nat}:Dl (jm id):=by
 intro x hx
 simp only[jm,List.mem_map]at hx
 obtain⟨e,_,rfl⟩:=hx
 exact⟨_,rfl⟩
theorem Lx (id:Nat) (h:jT id):aW prog cZ [Xv id]=some (.agg (jm id)):=by
 have hin:=iV h
 obtain⟨d0,d1,d2,d3,d4,d5⟩:=afp id hin
 have hm:=BN id hin
 have h0:=aeq (dE id) (bI id) (bI id+be id-1) (bw id) yR 3 (dE id) d1 (dE id) 0 [0,0,0,0] (by omega) rfl
 have h3:=ae2 id h (bw id) 3 (ay id) 0 (by omega)
 have c0:((0:Nat):Int)=0:=rfl
 have v0:vc [0,0,0,0]=[.d (.int .i64 0),.d (.int .i64 0),.d (.int .i64 0),.d (.int .i64 0)]:=rfl
 rw[d0,c0,v0]at h0
 rw[aib,adQ,c0]at h3
 have zl:=Sa (id:=id)
 have zr:=fun h=>Yg (h:=h) (afE (id:=id))
 have zb:=Wn (afE (id:=id))
 have zt:List.take 289 (jm id)=jm id:=List.take_of_length_le (by omega)
 have z1:=XM (Z:=jm id)
 simp only[Xv]at hm⊢
 rw[au Hi mt.eq_1 rfl]
 generalize jm id=Z at *
 generalize vc (oa id 0)=V0 at *
 generalize vc (oa id (ay id))=V1 at *
 generalize bw id=pl at *
 generalize dE id=dm at *
 generalize bI id=lo at *
 generalize be id=wi at *
 generalize ay id=n at *
 simp (maxSteps:=300000) (disch:=omega) [↓if_pos,↓if_neg,hm,h0,h3,-ov,akA,zt,z1,zr]
 exact fun _=>zb
end Go.Vm
namespace Go.Vm
set_option maxHeartbeats 2000000
set_option maxRecDepth 100000
theorem abq {hp:List Nat→ac}{D L:Nat}{F:AV}{C:Nat→Nat→Int}(H:Hp hp D) (K:Cm hp L F C) (n:Nat) (hlen:n≤1000000000) (hn:n % 20≠0) (N:Nat) (xs:List Nat) (hx:xs.length=n) (u:bU L xs) :
  (Dn prog).call fj [.sl D 0 n,F] ⟨hp xs,N⟩=some (.tup [],⟨hp (jp C n xs),N⟩):=by
 have h:=abJ H K n hlen hn N xs hx u
 rw[aJ rG fg.eq_1 rfl]
 simp (maxSteps:=300000) (disch:=omega) [↓if_pos,↓if_neg,K.sh,K.fi,h]
theorem ajZ {x2:AV}{x4:AV}{x6:AV}{h:ac}{n:Nat}:(Dn prog).code tX ⟨[(2,x2),(4,x4),(6,x6)],⟨h,n⟩⟩=cM (bP (loadAt h (some 4) 1 (share x4)) fun a1 h2=>bA (aU (Dn prog) cZ [firm a1] h2) fun a3=>lA (put h2 n (.cells yR)) fun h4=>bA (storeAt h4 289 (.ptr n 0) (firm a3)) fun h5=>some ⟨[(2,x2),(4,x4),(6,x6),(7,.ptr n 0)],⟨h5,n+1⟩⟩):=An
theorem WD {W Z:List AV}(h:W.length=Z.length):aj W 0 Z=Z:=by simp[aj,←h]
theorem Ws {id:Nat}:(jm id).all cy=true:=by
 rw[List.all_eq_true]
 intro x hx
 simp only[jm,List.mem_map]at hx
 obtain⟨e,_,rfl⟩:=hx
 rfl
theorem XT {id:Nat}:(jm id).map gy=jm id:=by
 simp only[jm,List.map_map]
 rfl
theorem adP {n:Nat}:List.replicate n [D.int .i64 0]=bm (List.replicate n 0):=by simp[bm]
theorem adp (id:Nat) (h:jT id):aW prog mh [.d (.int .i64 id)]=some (.tup [MM id,.d (.int .i64 0)]):=by
 have hin:=iV h
 obtain⟨m1,m2,m3⟩:=Z3 id hin
 obtain⟨e1,e2,e3⟩:=ZL id hin
 have hR:=ahB id hin
 have t1:List.take (ay id) (bh id)=bh id:=List.take_of_length_le (by omega)
 have t2:List.take (ay id) (ca id)=ca id:=List.take_of_length_le (by omega)
 have hst:=ahS id h
 have ho:=IT id hin
 have hm:=BN id hin
 have hz:=Lx id h
 have zl:=Sa (id:=id)
 have zc:=Ws (id:=id)
 have zf:=XT (id:=id)
 have z9:=V5
 have zd:List.drop (jm id).length yR=[]:=List.drop_eq_nil_of_le (by omega)
 have hu:bU (ay id) (bh id):=fun x hx=>by simpa using List.all_eq_true.1 e3 x hx
 have hs:=fun a b c d x0 x1 R N=>abq (hp:=fun xs=>[(0,.cells [a,b,c,d]),(2,.arr 1 (bm xs)),(3,.arr 1 (bm R)),(4,.cells [.d x0,.d x1,.sl 2 0 (ay id),.sl 3 0 (ay id)]),(5,.cells (jm id))]) (D:=2)
  ⟨fun xs=>rfl,fun xs ys=>rfl⟩ (amJ (S:=5) (fun xs=>rfl) m1) (ay id) (by omega) m2 N (List.range (ay id)) (by simp) (fun x hx=>by simpa using hx)
 have h0:=fun a b c d x0 x1 R N=>YL (ay id) (jm id) m1 R a b c d x0 x1 N (ay id) 0 (by omega)
 have h1:=fun a b c d x0 x1 N=>YJ (ay id) (jm id) m1 (bh id) e1 hu a b c d x0 x1 N (ay id) 0 (List.replicate (ay id) 0) (by omega) (by simp)
 have hup:uc (ay id) (ay id)=List.range (ay id):=by simp[uc]
 have hu0:uc (ay id) 0=List.replicate (ay id) 0:=by simp[uc]
 rw[hup,hu0]at h0
 simp only[hst,hR,Xv]at hs h1 ho hm hz
 rw[au aaw Ck.eq_1 rfl]
 have hid:(1:Int)≤id∧(id:Int)≤12:=by omega
 have c0:((0:Nat):Int)=0:=rfl
 rw[c0]at h0 h1
 simp only[MM]
 generalize jm id=Z at *
 generalize bh id=es at *
 generalize ca id=rs at *
 generalize bw id=pl at *
 generalize dE id=dm at *
 generalize bI id=lo at *
 generalize be id=wi at *
 generalize ay id=n at *
 simp (maxSteps:=300000) (disch:=omega) [↓if_pos,↓if_neg,ho,hm,hz,h0,hs,h1,-An,ajZ,WD,zc,zf,zd,af3,adP,AV.int,t1,t2]
end Go.Vm
namespace Go.Vm
set_option maxHeartbeats 2000000
set_option maxRecDepth 100000
def lY (id:Nat):Bool:=decide (bI id<0)
theorem WF:∀ x∈ji.take 11,aW prog Ct [.d (.int .i64 x)]=some (.d (.bool (lY x))):=wj 100 _ (by kernel_rfl)
end Go.Vm
namespace Go.Vm
set_option maxHeartbeats 2000000
set_option maxRecDepth 100000
end Go.Vm
namespace Go.Vm
set_option maxHeartbeats 2000000
set_option maxRecDepth 100000
def ps1 (sz:List Nat) (s:Nat):Nat→Nat→List Nat→List Nat→List Nat×List Nat
 | 0,_,es,R=>(es,R)
 | k+1,i,es,R=>if nth sz i=s then ps1 sz s k (i+1) (es++[i]) (R.set i es.length) else ps1 sz s k (i+1) es R
def ps2 (sz:List Nat) (n:Nat):Nat→Nat→List Nat×List Nat→List Nat×List Nat
 | 0,_,p=>p
 | f+1,s,p=>if p.1.length<n then ps2 sz n f (s+1) (ps1 sz s n 0 p.1 p.2) else p
section
variable (id:Nat)
end
section
variable (n:Nat) (sz:List Nat) (hz:sz.length=n) (hn2:n≤289) (a b c d:AV) (x0 x1:D) (N:Nat)
include hz hn2
end
end Go.Vm
namespace Go.Vm
set_option maxHeartbeats 2000000
set_option maxRecDepth 1000000
end Go.Vm
namespace Go.Vm
set_option maxHeartbeats 2000000
set_option maxRecDepth 1000000
def okR (sz es rs:List Nat) (i:Nat):Bool:=Nat.beq (f8 rs (f8 es i)) i &&
 (Nat.beq i 0 || Nat.blt (f8 sz (f8 es (i-1))) (f8 sz (f8 es i)) || (Nat.beq (f8 sz (f8 es (i-1))) (f8 sz (f8 es i)) && Nat.blt (f8 es (i-1)) (f8 es i)))
theorem agp:∀ id∈ji,(List.range (ay id)).all (okR (eg id) (bh id) (ca id))=true:=by decide +kernel
theorem acX {id i:Nat}(h:jT id) (hi:i<ay id):nth (ca id) (nth (bh id) i)=i∧(i≠0→nth (eg id) (nth (bh id) (i-1))<nth (eg id) (nth (bh id) i)∨(nth (eg id) (nth (bh id) (i-1))=nth (eg id) (nth (bh id) i)∧nth (bh id) (i-1)<nth (bh id) i)):=by
 have:=List.all_eq_true.1 (agp id (iV h)) i (by simpa using hi)
 simp only[okR,oq,Bool.and_eq_true,Bool.or_eq_true,Nat.beq_eq,Nat.blt,Nat.ble_eq]at this
 refine⟨this.1,fun h0=>?_⟩
 rcases this.2 with (h1 | h1) | h1
 ·exact absurd h1 h0
 ·exact .inl h1
 ·exact .inr h1
section
variable (n:Nat) (hn:n≤289) (sz es rs:List Nat) (Z:List AV) (he:es.length=n) (hr:rs.length=n) (hu:bU n es) (hZ:∀ x,x<n→Z[x]?=some (.d (.int .u8 (nth sz x:Nat))))
 (h1:∀ i,i<n→nth rs (nth es i)=i) (h2:∀ i,i+1<n→nth sz (nth es i)<nth sz (nth es (i+1))∨(nth sz (nth es i)=nth sz (nth es (i+1))∧nth es i<nth es (i+1)))
include hn he hr hu hZ h1 h2
theorem UQ (x0 x1:D) (N:Nat):∀ (k i:Nat),i+k=n→
  (Dn prog).code (.loop kx) ⟨[(1,.ptr 0 0),(5,.ptr 2 0),(43,.d (.lst (bm es))),(44,.d (.int .i64 n)),(45,.d (.int .i64 i))],⟨[(0,.cells [.d x0,.d x1,.d (.lst (bm es)),.d (.lst (bm rs))]),(2,.cells Z)],N⟩⟩ =
  some (.exit 0,⟨[],⟨[],N⟩⟩):=by
 intro k
 induction k with
 | zero =>
  intro i h
  rw[aa kx.eq_1]
  simp (maxSteps:=300000) (disch:=omega) [↓if_pos,↓if_neg]
 | succ k ih =>
  intro i h
  have hv:=hu.nth (i:=i) (by omega)
  have e1:=hZ _ hv
  have r1:=h1 i (by omega)
  have h5:=ih (i+1) (by omega)
  have c1:((i+1:Nat):Int)=(i:Int)+1:=rfl
  rw[c1]at h5
  rw[aa kx.eq_1,←h5]
  by_cases h0:i=0
  ·subst h0
   have c0:((0:Nat):Int)=0:=rfl
   rw[c0]
   have n0:(0:Int)=((0:Nat):Int):=rfl
   simp (maxSteps:=300000) (disch:=omega) [↓if_pos,↓if_neg,r1]
  ·obtain⟨q,rfl⟩:∃ q,i=q+1:=⟨i-1,by omega⟩
   have hw:=hu.nth (i:=q) (by omega)
   have e2:=hZ _ hw
   rcases h2 q (by omega) with g | ⟨g1,g2⟩
   ·simp (maxSteps:=300000) (disch:=omega) [↓if_pos,↓if_neg,r1,e1,e2]
   ·simp (maxSteps:=300000) (disch:=omega) [↓if_pos,↓if_neg,r1,e1,e2]
end
end Go.Vm
namespace Go.Vm
set_option maxHeartbeats 2000000
set_option maxRecDepth 100000
theorem akI {x1:AV}{x3:AV}{h:ac}{n:Nat}:(Dn prog).code o9 ⟨[(1,x1),(3,x3)],⟨h,n⟩⟩=cM (bP (loadAt h (some 4) 1 (share x3)) fun a1 h2=>bA (aU (Dn prog) cZ [firm a1] h2) fun a3=>lA (put h2 n (.cells yR)) fun h4=>bA (storeAt h4 289 (.ptr n 0) (firm a3)) fun h5=>some ⟨[(1,x1),(3,x3),(5,.ptr n 0)],⟨h5,n+1⟩⟩):=wX
theorem Y5 (id:Nat) (h:jT id):aW prog qf [sT id]=some (.d (.bool true)):=by
 have hin:=iV h
 obtain⟨m1,m2,m3⟩:=Z3 id hin
 obtain⟨e1,e2,e3⟩:=ZL id hin
 have ho:=IT id hin
 have hm:=BN id hin
 have hz:=Lx id h
 have zl:=Sa (id:=id)
 have zc:=Ws (id:=id)
 have zf:=XT (id:=id)
 have z9:=V5
 have zd:List.drop (jm id).length yR=[]:=List.drop_eq_nil_of_le (by omega)
 have hu:bU (ay id) (bh id):=fun x hx=>by simpa using List.all_eq_true.1 e3 x hx
 have h0:=fun x0 x1 N=>UQ (ay id) m1 (eg id) (bh id) (ca id) (jm id) e1 e2 hu (fun x hx=>Ru hx m1) (fun i hi=>(acX h hi).1) (fun i hi=>by have:=(acX h hi).2 (by omega);simpa using this) x0 x1 N (ay id) 0 (by omega)
 simp only[Xv]at ho hm hz
 rw[au XE vZ.eq_1 rfl]
 have hid:(1:Int)≤id∧(id:Int)≤12:=by omega
 have c0:((0:Nat):Int)=0:=rfl
 rw[c0]at h0
 simp only[sT]
 generalize jm id=Z at *
 generalize eg id=zs at *
 generalize bh id=es at *
 generalize ca id=rs at *
 generalize bw id=pl at *
 generalize dE id=dm at *
 generalize bI id=lo at *
 generalize be id=wi at *
 generalize ay id=n at *
 simp (maxSteps:=300000) (disch:=omega) [↓if_pos,↓if_neg,ho,hm,hz,h0,-wX,akI,WD,zc,zf,zd,AV.int,e1,e2]
end Go.Vm
namespace Go.Vm
set_option maxHeartbeats 2000000
set_option maxRecDepth 100000
def ab5 (b:List Nat):Nat→Nat→Int→R Nat
 | 0,_,_=>.er 7
 | f+1,m,a=>(adB b a 1).bind fun v n=>if v=1 then .ok m n else ab5 b f (m+1) n
def ajI (id:Nat) (b:List Nat) (a:Int):R Nat :=
 (ab5 b 10 0 a).bind fun m n=>(adB b n m).bind fun hi n=>(adB b n (bw id)).bind fun lo n =>
  if (bh id).length≤(2 ^ m+hi-1)*2 ^ bw id+lo then .er 7 else .ok (nth (bh id) ((2 ^ m+hi-1)*2 ^ bw id+lo)) n
theorem abt (id:Nat) (h:jT id):aW prog qf [sT id]=some (.d (.bool true)):=Y5 id h
theorem Wy (id:Nat) (h:jT id):aW prog mh [.d (.int .i64 id)]=some (.tup [MM id,.d (.int .i64 0)]):=adp id h
theorem VQ {m:Nat}(h:m≤60):aV .shl (.d (.int .i64 1)) (.d (.int .i64 m))=some (.int .i64 ((2 ^ m:Nat):Int)):=by
 have h2:2 ^ m≤2 ^ 60:=Nat.pow_le_pow_right (by omega) h
 have h3:min m 64=m:=by omega
 rw[zg (by omega),Int.toNat_natCast,IntKind.bits,h3]
 generalize 2 ^ m=P at *
 rw[abY (by omega) (by omega),Int.one_mul]
end Go.Vm
namespace Go.Vm
set_option maxHeartbeats 2000000
set_option maxRecDepth 100000
end Go.Vm
namespace Go.Vm
set_option maxHeartbeats 2000000
set_option maxRecDepth 100000
theorem uD:∀ id∈ji,1≤dE id∧dE id≤4∧1≤be id∧be id≤121∧-60≤bI id∧bI id≤0∧ay id≤300:=by decide +kernel
theorem ab6 (dim low pl:Int) (w:Nat) (hw:w≤1000) (hl:-1000≤low∧low≤1000):aW prog jQ [.agg [.d (.int .i64 dim),.d (.int .i64 low),.d (.int .i64 (low+w-1)),.d (.int .i64 pl)]]=some (.d (.int .i64 w)):=by
 rw[au Kp n5.eq_1 rfl]
 have e:low+(w:Int)-1-low+1=w:=by omega
 simp (maxSteps:=300000) (disch:=omega) [e]
theorem tm (e w:Nat):(e:Int).tmod w=((e % w:Nat):Int):=rfl
end Go.Vm
namespace Go.Vm
set_option maxHeartbeats 2000000
set_option maxRecDepth 100000
abbrev rdC (b:List Nat) (st:RS):Obj:=.cells [.d (.lst (ah b)),.d (.int .i64 (ra st)),.d (.int .i64 (re st))]
abbrev h4 (b:List Nat) (X0 X1 X3:Obj) (st:RS):ac:=[(0,X0),(1,X1),(2,rdC b st),(3,X3)]
end Go.Vm
namespace Go.Vm
set_option maxHeartbeats 2000000
set_option maxRecDepth 100000
def sg (s:Nat) (v:Int):Int:=if s=1 then -v else v
end Go.Vm
namespace Go.Vm
set_option maxHeartbeats 2000000
set_option maxRecDepth 100000
end Go.Vm
namespace Go.Vm
set_option maxHeartbeats 2000000
set_option maxRecDepth 100000
end Go.Vm
namespace Go.Vm
set_option maxHeartbeats 2000000
set_option maxRecDepth 100000
abbrev pT {α:Type}(_:α) (_:Nat):Prop:=True
end Go.Vm
namespace Go.Vm
set_option maxHeartbeats 2000000
set_option maxRecDepth 100000
end Go.Vm
namespace Go.Vm
set_option maxHeartbeats 2000000
set_option maxRecDepth 100000
def VJ (b:List Nat) (a:Int):R Int:=(ajI 12 b a).bind fun e n=>.ok ((e:Int)-60) n
end Go.Vm
namespace Go.Vm
set_option maxHeartbeats 2000000
set_option maxRecDepth 100000
structure H2 (hp:Int→Int→ac) (A:Nat):Prop where
 get:∀ s z,get (hp s z) A=some (.cells [.d (.int .i64 s),.d (.int .i64 z)])
 put:∀ s z s' z',put (hp s z) A (.cells [.d (.int .i64 s'),.d (.int .i64 z')])=hp s' z'
abbrev ky (book n s z:Int):Prop:=if book=13 then (0≤n∧n≤511)∧(z<0∨(z-60≤n∧n≤z+60)) else (0≤n∧n≤255)∧(s-60≤n∧n≤s+60)
theorem Nz {hp:Int→Int→ac}{A:Nat}(H:H2 hp A) (book n s z:Int) (N:Nat) (hn:-100000≤n∧n≤100000) (hs:-100000≤s∧s≤100000) (hz:-100000≤z∧z≤100000) :
  (Dn prog).call fH [.ptr A 0,.d (.int .i64 book),.d (.int .i64 n)] ⟨hp s z,N⟩ =
   if ky book n s z then some (.d (.bool true),⟨if book=13 then hp s n else hp n z,N⟩) else some (.d (.bool false),⟨hp s z,N⟩):=by
 rw[aJ E5 kN.eq_1 rfl]
 by_cases hb:book=13
 ·by_cases ho:(0≤n∧n≤511)∧(z<0∨(z-60≤n∧n≤z+60))
  ·rw[if_pos (by rw[ky,if_pos hb];exact ho),if_pos hb]
   subst hb
   rcases ho with ⟨⟨o1,o2⟩,o3 | ⟨o3,o4⟩⟩
   ·simp (maxSteps:=300000) (disch:=omega) [↓if_pos,↓if_neg,H.get,H.put]
   ·by_cases hz0:z<0
    ·simp (maxSteps:=300000) (disch:=omega) [↓if_pos,↓if_neg,H.get,H.put]
    ·simp (maxSteps:=300000) (disch:=omega) [↓if_pos,↓if_neg,H.get,H.put]
  ·rw[if_neg (by rw[ky,if_pos hb];exact ho)]
   subst hb
   by_cases o1:n<0
   ·simp (maxSteps:=300000) (disch:=omega) [↓if_pos,↓if_neg,H.get,H.put]
   ·by_cases o2:511<n
    ·simp (maxSteps:=300000) (disch:=omega) [↓if_pos,↓if_neg,H.get,H.put]
    ·by_cases o3:n<z-60
     ·simp (maxSteps:=300000) (disch:=omega) [↓if_pos,↓if_neg,H.get,H.put]
     ·simp (maxSteps:=300000) (disch:=omega) [↓if_pos,↓if_neg,H.get,H.put]
 ·by_cases ho:(0≤n∧n≤255)∧(s-60≤n∧n≤s+60)
  ·rw[if_pos (by rw[ky,if_neg hb];exact ho),if_neg hb]
   obtain⟨⟨o1,o2⟩,o3,o4⟩:=ho
   simp (maxSteps:=300000) (disch:=omega) [↓if_pos,↓if_neg,H.get,H.put]
  ·rw[if_neg (by rw[ky,if_neg hb];exact ho)]
   by_cases o1:n<0
   ·simp (maxSteps:=300000) (disch:=omega) [↓if_pos,↓if_neg,H.get,H.put]
   ·by_cases o2:255<n
    ·simp (maxSteps:=300000) (disch:=omega) [↓if_pos,↓if_neg,H.get,H.put]
    ·by_cases o3:n<s-60
     ·simp (maxSteps:=300000) (disch:=omega) [↓if_pos,↓if_neg,H.get,H.put]
     ·simp (maxSteps:=300000) (disch:=omega) [↓if_pos,↓if_neg,H.get,H.put]
end Go.Vm
namespace Go.Vm
set_option maxHeartbeats 2000000
set_option maxRecDepth 100000
theorem nS {l:List aA}{i:Nat}{s:aA}{r:List aA}(h:l.drop i=s::r):(iz l)[i]?=some [.int .i64 s.book,.int .i64 s.len]:=by
 have:=congrArg (fun l=>l[0]?) h
 simp only[List.getElem?_drop,List.getElem?_cons_zero,Nat.add_zero]at this
 rw[iz,List.getElem?_map,this];rfl
theorem aL {α:Type}{l:List α}{i:Nat}{s:α}{r:List α}(h:l.drop i=s::r):l.drop (i+1)=r:=by
 have:=congrArg (fun l=>l.drop 1) h
 simpa [List.drop_drop] using this
theorem aQ {α:Type}{l:List α}{i:Nat}{s:α}{r:List α}(h:l.drop i=s::r):i<l.length:=by
 rcases Nat.lt_or_ge i l.length with g | g
 ·exact g
 ·rw[List.drop_eq_nil_of_le g]at h;exact absurd h (by simp)
theorem WU (full:List aA) (hl:full.length≤1000000) (x21:AV) (y22 y23:D):∀ (l:List aA) (i:Nat) (lf c:Int) (N:Nat),full.drop i=l→fitsS lf l→0≤c→lf+c≤1000→
  (Dn prog).code (.loop lE) ⟨[(7,.d (.int .i64 (lf+c))),(21,x21),(22,.d y22),(23,.d y23),(27,.d (.lst (iz full))),(28,.d (.int .i64 full.length)),(29,.d (.int .i64 i))],⟨[],N⟩⟩ =
  some (.exit 2,⟨[(21,x21),(22,.d y22),(23,.d y23)],⟨[],N+l.length⟩⟩):=by
 intro l
 induction l with
 | nil =>
  intro i lf c N h hf h0 h1
  have hi:full.length≤i:=by simpa [List.drop_eq_nil_iff] using h
  rw[aa lE.eq_1]
  simp (maxSteps:=300000) (disch:=omega) [↓if_pos,↓if_neg]
 | cons s r ih =>
  intro i lf c N h hf h0 h1
  obtain⟨⟨⟨s1,s2⟩,s3,s4⟩,hf2⟩:=hf
  have hg:=nS h
  have hlt:=aQ h
  have h5:=ih (i+1) (lf-s.len) c (N+1) (aL h) hf2 h0 (by omega)
  have c1:((i+1:Nat):Int)=(i:Int)+1:=rfl
  have c2:lf-s.len+c=lf+c-s.len:=by omega
  rw[c1,c2]at h5
  have e:N+(s::r).length=N+1+r.length:=by simp only[List.length_cons];omega
  rw[aa lE.eq_1,e,←h5]
  rcases s4 with s4 | s4
  ·simp (maxSteps:=300000) (disch:=omega) [↓if_pos,↓if_neg,hg]
  ·simp (maxSteps:=300000) (disch:=omega) [↓if_pos,↓if_neg,hg,s4]
def QP:List (List aA)→Nat
 | []=>0
 | l::r=>l.length+QP r
theorem iO {g:List (List aA)}{i:Nat}{l:List aA}{r:List (List aA)}(h:g.drop i=l::r):(da g)[i]?=some [.lst (iz l)]:=by
 have:=congrArg (fun l=>l[0]?) h
 simp only[List.getElem?_drop,List.getElem?_cons_zero,Nat.add_zero]at this
 rw[da,List.getElem?_map,this];rfl
theorem XS (full:List (List aA)) (hl:full.length≤1000) (m:Int) (hm:0≤m∧m≤40):∀ (g:List (List aA)) (i N:Nat),full.drop i=g→(∀ l∈g,fitsS m l∧l.length≤1000)→
  (Dn prog).code (.loop me) ⟨[(21,.d (.lst (da full))),(22,.d (.int .i64 full.length)),(23,.d (.int .i64 i))],⟨[],N⟩⟩=some (.exit 0,⟨[],⟨[],N+QP g⟩⟩):=by
 intro g
 induction g with
 | nil =>
  intro i N h hf
  have hi:full.length≤i:=by simpa [List.drop_eq_nil_iff] using h
  rw[aa me.eq_1]
  simp (maxSteps:=300000) (disch:=omega) [↓if_pos,↓if_neg,QP]
 | cons l r ih =>
  intro i N h hf
  have hg:=iO h
  have hlt:=aQ h
  obtain⟨f1,f2⟩:=hf l (.head _)
  have h0:=WU l (by omega) (.d (.lst (da full))) (.int .i64 full.length) (.int .i64 i) l 0 m (40-m) N rfl f1 (by omega) (by omega)
  have h5:=ih (i+1) (N+l.length) (aL h) fun q hq=>hf q (.tail _ hq)
  have c1:((i+1:Nat):Int)=(i:Int)+1:=rfl
  have c2:m+(40-m)=40:=by omega
  have c0:((0:Nat):Int)=0:=rfl
  rw[c1]at h5
  rw[c2,c0]at h0
  have e:N+QP (l::r)=N+l.length+QP r:=by rw[QP];omega
  rw[aa me.eq_1,e,←h5]
  simp (maxSteps:=300000) (disch:=omega) [↓if_pos,↓if_neg,hg,h0]
theorem acb (gain m:Int) (g:List (List aA)) (hgn:0≤gain∧gain≤255) (hl:g.length≤8) (hm:0≤m∧m≤40) (hf:∀ l∈g,fitsS m l∧l.length≤1000) :
  aW prog yU [.d (.int .i64 gain),.d (.lst (da g))]=some (.d (.bool true)):=by
 have h:=XS g (by omega) m hm g 0 0 rfl hf
 have c0:((0:Nat):Int)=0:=rfl
 rw[c0]at h
 rw[au Yu za.eq_1 rfl]
 simp (maxSteps:=300000) (disch:=omega) [↓if_pos,↓if_neg,h]
end Go.Vm
namespace Go.Vm
set_option maxHeartbeats 2000000
set_option maxRecDepth 100000
def tS:Int→List aA→Option Int
 | lf,[]=>some lf
 | lf,s::r=>if s.right lf then tS (lf-s.len) r else none
theorem JK {l:List aA}{lf:Int}:tS lf l=some 0↔fitsS lf l:=by
 induction l generalizing lf with
 | nil=>simp[tS,fitsS]
 | cons s r ih =>
  rw[tS,fitsS]
  by_cases h:s.right lf
  ·rw[if_pos h,ih];exact⟨fun x=>⟨h,x⟩,fun x=>x.2⟩
  ·rw[if_neg h];simp[h]
theorem ahZ {l:List aA}{lf v:Int}(h:tS lf l=some v) (h0:0≤lf):0≤v∧v≤lf:=by
 induction l generalizing lf with
 | nil=>simp only[tS]at h;injection h with h;omega
 | cons s r ih =>
  rw[tS]at h
  by_cases h1:s.right lf
  ·rw[if_pos h1]at h
   have h2:=h1.1
   have:=ih h (by omega)
   omega
  ·rw[if_neg h1]at h;exact absurd h (by simp)
theorem aH {α:Type}{l:List α}{i:Nat}(h:l.drop i=[]):l.length≤i:=by simpa [List.drop_eq_nil_iff] using h
theorem Ud (full:List aA) (hl:full.length≤1000000) (X:Obj) (x26:AV) (y27 y28:D):∀ (r:List aA) (i:Nat) (lf:Int) (N:Nat),full.drop i=r→0≤lf∧lf≤1000→1≤N→
  ∃ M,N≤M∧(Dn prog).code (.loop iH) ⟨[(2,.ptr 0 0),(9,.d (.int .i64 lf)),(26,x26),(27,.d y27),(28,.d y28),(34,.d (.lst (iz full))),(35,.d (.int .i64 full.length)),(36,.d (.int .i64 i))],⟨[(0,X)],N⟩⟩ =
  match tS lf r with
  | some v=>some (.exit 2,⟨[(2,.ptr 0 0),(9,.d (.int .i64 v)),(26,x26),(27,.d y27),(28,.d y28)],⟨[(0,X)],M⟩⟩)
  | none=>some (.ret,⟨[(4,.d (.int .i64 8))],⟨[(0,X)],M⟩⟩):=by
 intro r
 induction r with
 | nil =>
  intro i lf N h h0 hN
  have hi:=aH h
  refine⟨N,Nat.le_refl _,?_⟩
  rw[aa iH.eq_1,tS]
  simp (maxSteps:=300000) (disch:=omega) [↓if_pos,↓if_neg]
 | cons s r ih =>
  intro i lf N h h0 hN
  have hg:=nS h
  have hlt:=aQ h
  have h6:=fun k n left=>aay ⟨k,n⟩ left
  have hN0:N≠0:=by omega
  by_cases hr:s.right lf
  ·have hr1:=hr.1
   obtain⟨M,hM,e⟩:=ih (i+1) (lf-s.len) (N+1) (aL h) (by omega) (by omega)
   refine⟨M,by omega,?_⟩
   have c1:((i+1:Nat):Int)=(i:Int)+1:=rfl
   rw[c1]at e
   rw[aa iH.eq_1,tS,if_pos hr,←e]
   simp (maxSteps:=300000) (disch:=omega) [↓if_pos,↓if_neg,hg,h6,hr,hN0]
  ·refine⟨N+1,by omega,?_⟩
   rw[aa iH.eq_1,tS,if_neg hr]
   simp (maxSteps:=300000) (disch:=omega) [↓if_pos,↓if_neg,hg,h6,hr,hN0]
abbrev cG (m:Int) (g:List (List aA)):Prop:=∀ l∈g,fitsS m l
theorem U3 (i:aG) (hi:i.Fit) (h0:0≤i.max∧i.max≤1000) (full:List (List aA)) (hl:full.length≤1000) (hl2:∀ l∈full,l.length≤1000):∀ (g:List (List aA)) (j:Nat) (N:Nat),full.drop j=g→1≤N→
  ∃ M,(Dn prog).code (.loop fQ) ⟨[(2,.ptr 0 0),(26,.d (.lst (da full))),(27,.d (.int .i64 full.length)),(28,.d (.int .i64 j))],⟨[(0,.cells i.cells)],N⟩⟩ =
  if cG i.max g then some (.exit 0,⟨[],⟨[(0,.cells i.cells)],M⟩⟩) else some (.ret,⟨[(4,.d (.int .i64 8))],⟨[(0,.cells i.cells)],M⟩⟩):=by
 simp only[aG.cells]
 intro g
 induction g with
 | nil =>
  intro j N h hN
  have hi:=aH h
  refine⟨N,?_⟩
  rw[aa fQ.eq_1,if_pos (show cG i.max [] from fun _ h=>by simp at h)]
  simp (maxSteps:=300000) (disch:=omega) [↓if_pos,↓if_neg]
 | cons l r ih =>
  intro j N h hN
  have hg:=iO h
  have hlt:=aQ h
  have hll:l.length≤1000:=hl2 l (by rw[←List.take_append_drop j full,h];simp)
  obtain⟨M,hM,e⟩:=Ud l (by omega) (.cells i.cells) (.d (.lst (da full))) (.int .i64 full.length) (.int .i64 j) l 0 i.max N rfl h0 hN
  have c0:((0:Nat):Int)=0:=rfl
  rw[c0]at e
  simp only[aG.cells]at e
  cases hrm:tS i.max l with
  | none =>
   refine⟨M,?_⟩
   rw[hrm]at e
   have hn:¬ cG i.max (l::r):=fun h=>by
    have:=JK.2 (h l (.head _))
    rw[hrm]at this;exact absurd this (by simp)
   rw[aa fQ.eq_1,if_neg hn]
   simp (maxSteps:=300000) (disch:=omega) [↓if_pos,↓if_neg,hg,e]
  | some v =>
   rw[hrm]at e
   have hv:=ahZ hrm h0.1
   by_cases h9:v=0
   ·subst h9
    obtain⟨M2,e2⟩:=ih (j+1) M (aL h) (by omega)
    refine⟨M2,?_⟩
    have hf:=JK.1 hrm
    have hx:cG i.max (l::r)↔cG i.max r:=by simp[cG,hf]
    have c1:((j+1:Nat):Int)=(j:Int)+1:=rfl
    rw[c1]at e2
    rw[aa fQ.eq_1,abu hx,←e2]
    simp (maxSteps:=300000) (disch:=omega) [↓if_pos,↓if_neg,hg,e]
   ·refine⟨M,?_⟩
    have hn:¬ cG i.max (l::r):=fun h=>by
     have:=JK.2 (h l (.head _))
     rw[hrm]at this;injection this with this;exact h9 this
    rw[aa fQ.eq_1,if_neg hn]
    simp (maxSteps:=300000) (disch:=omega) [↓if_pos,↓if_neg,hg,e]
abbrev adr (g:List (List aA)):Prop:=g.length≤1000∧∀ l∈g,l.length≤1000
abbrev j9 (i:aG) (g:List (List aA)):Prop:=g.length=i.groups.length∧cG i.max g
theorem aaC (i:aG) (hi:i.Fit) (g:List (List aA)) (hf:adr g):aW prog v8 [.agg i.cells,.d (.lst (da g))]=if i.may 11 then if j9 i g then some (.d (.int .i64 0)) else some (.d (.int .i64 8)) else some (.d (.int .i64 8)):=by
 have hw:=pQ i hi
 have hll:=hi.len
 rw[au WC vp.eq_1 rfl]
 by_cases hm:i.may 11
 ·rw[if_pos hm]at hw⊢
  have h0:0≤i.max∧i.max≤1000:=by have:=hm.2.2.1;have:=hm.2.2.2.1;have:=Jl (r:=11) (s:=decide (i.seq=2)) (by omega);omega
  obtain⟨M,e⟩:=U3 i hi h0 g hf.1 hf.2 g 0 1 rfl (by omega)
  have c0:((0:Nat):Int)=0:=rfl
  rw[c0]at e
  simp only[aG.cells]at hw e
  by_cases h1:g.length=i.groups.length
  ·by_cases h2:cG i.max g
   ·rw[if_pos ⟨h1,h2⟩]
    rw[if_pos h2]at e
    simp (maxSteps:=300000) (disch:=omega) [↓if_pos,↓if_neg,hw,e]
   ·rw[if_neg (fun h=>h2 h.2)]
    rw[if_neg h2]at e
    simp (maxSteps:=300000) (disch:=omega) [↓if_pos,↓if_neg,hw,e]
  ·rw[if_neg (fun h=>h1 h.1)]
   simp (maxSteps:=300000) (disch:=omega) [↓if_pos,↓if_neg,hw]
 ·rw[if_neg hm]at hw⊢
  simp only[aG.cells]at hw
  simp (maxSteps:=300000) (disch:=omega) [↓if_pos,↓if_neg,hw]
def fS (aD:Nat):Nat→Nat→List Nat
 | 0,n=>[n]
 | f+1,n=>if aD≤n then aD::fS aD f (n-aD) else [n]
theorem Y7 {σ:Type}{hp:σ→Int→ac}{l p q N:Nat}{st:σ→Nat→σ}{bp:Nat→σ→Prop}(hI:∀ k s x,bp (k+1) s→bp k (st s x)) (hM:∀ j k s,j≤k→bp k s→bp j s) (aD:Nat) (hm:1≤aD∧aD≤1000) (hg:∀ s n,get (hp s n) p=some (.cells [.d (.int .i64 n)])) (hq:∀ s n,get (hp s n) q=some (.cells [.d (.int .i64 aD)])) (hpt:∀ s n m,put (hp s n) p (.cells [.d (.int .i64 m)])=hp s m)
  (hy:∀ (k:Nat) (s:σ) (x:Nat) (n:Int),bp (k+1) s→x≤aD→aM (Dn prog) (.yield l) [.d (.int .i64 (x:Int))] ⟨hp s n,N⟩=some (.d (.bool true),⟨hp (st s x) n,N⟩)):∀ (f n:Nat) (s:σ),n≤f→n≤1000000→bp (f+1) s→
  ∃ (m:Nat) (s2:σ),m<aD∧bp 1 s2∧st s2 m=(fS aD f n).foldl st s∧(Dn prog).code (.loop fF) ⟨[(0,.yield l),(1,.ptr p 0),(2,.ptr q 0)],⟨hp s n,N⟩⟩=some (.exit 0,⟨[(0,.yield l),(1,.ptr p 0)],⟨hp s2 m,N⟩⟩):=by
 intro f
 induction f with
 | zero =>
  intro n s hn hb hi
  refine⟨n,s,by omega,hi,by rw[fS];rfl,?_⟩
  rw[aa fF.eq_1]
  simp (maxSteps:=300000) (disch:=omega) [↓if_pos,↓if_neg,hg,hq]
 | succ f ih =>
  intro n s hn hb hi
  by_cases h1:aD≤n
  ·obtain⟨m,s2,a1,a2,a3,a4⟩:=ih (n-aD) (st s aD) (by omega) (by omega) (hI _ _ _ hi)
   refine⟨m,s2,a1,a2,by rw[fS,if_pos h1,List.foldl_cons];exact a3,?_⟩
   have h2:=hy (f+1) s aD n hi (by omega)
   have c1:((n-aD:Nat):Int)=(n:Int)-aD:=by omega
   rw[c1]at a4
   rw[aa fF.eq_1,←a4]
   simp (maxSteps:=300000) (disch:=omega) [↓if_pos,↓if_neg,hg,hq,hpt,-ft,h2]
  ·refine⟨n,s,by omega,?_,by rw[fS,if_neg h1];rfl,?_⟩
   ·exact hM _ _ _ (by omega) hi
   ·rw[aa fF.eq_1]
    simp (maxSteps:=300000) (disch:=omega) [↓if_pos,↓if_neg,hg,hq]
theorem adC {σ:Type}{hp:σ→Int→ac}{l p q N:Nat}{st:σ→Nat→σ}{bp:Nat→σ→Prop}(hI:∀ k s x,bp (k+1) s→bp k (st s x)) (hM:∀ j k s,j≤k→bp k s→bp j s) (aD:Nat) (hm:1≤aD∧aD≤1000) (hg:∀ s n,get (hp s n) p=some (.cells [.d (.int .i64 n)])) (hq:∀ s n,get (hp s n) q=some (.cells [.d (.int .i64 aD)])) (hpt:∀ s n m,put (hp s n) p (.cells [.d (.int .i64 m)])=hp s m)
  (hy:∀ (k:Nat) (s:σ) (x:Nat) (n:Int),bp (k+1) s→x≤aD→aM (Dn prog) (.yield l) [.d (.int .i64 (x:Int))] ⟨hp s n,N⟩=some (.d (.bool true),⟨hp (st s x) n,N⟩)) (n:Nat) (s:σ) (hn:n≤1000000) (hi:bp (n+1) s) :
  ∃ m:Int,(Dn prog).call eC [.yield l,.ptr p 0,.ptr q 0] ⟨hp s n,N⟩=some (.tup [],⟨hp ((fS aD n n).foldl st s) m,N⟩):=by
 obtain⟨m,s2,a1,a2,a3,a4⟩:=Y7 hI hM aD hm hg hq hpt hy n n s (Nat.le_refl _) hn hi
 have h2:=hy 0 s2 m m a2 (by omega)
 refine⟨m,?_⟩
 rw[aJ Px pU.eq_1 rfl,←a3]
 simp (maxSteps:=300000) (disch:=omega) [a4,hg,-ft,h2]
theorem Ip {aD:Nat}(hm:1≤aD):∀ {f n:Nat},(fS aD f n).length≤n+1
 | 0,n=>by simp[fS]
 | f+1,n=>by
  rw[fS]
  split
  ·have:=Ip hm (f:=f) (n:=n-aD)
   simp only[List.length_cons];omega
  ·simp
theorem Yv (n m:Int) (h:ac) (N:Nat):(Dn prog).call tP [.d (.int .i64 n),.d (.int .i64 m)] ⟨h,N⟩=some (.fn eC [] [.ptr N 0,.ptr (N+1) 0],⟨put (put h N (.cells [.d (.int .i64 n)])) (N+1) (.cells [.d (.int .i64 m)]),N+2⟩):=by
 rw[aJ Us uh.eq_1 rfl]
 simp (maxSteps:=300000) (disch:=omega)
def EL (sz:Nat) (s:aA):List Nat:=al s.book.toNat 4++(fS (2 ^ sz-1) s.len.toNat s.len.toNat).flatMap fun n=>al n sz
theorem Tn {sz:Nat}:∀ {l acc:List Nat},l.foldl (fun(s:List Nat) n=>s++al n sz) acc=acc++l.flatMap fun n=>al n sz
 | [],acc=>by simp
 | x::r,acc=>by rw[List.foldl_cons,Tn];simp
abbrev J4:Obj:=.cells [.junk,.junk,.junk,.junk]
abbrev X6 (sz:Nat) (v:AV):ac:=[(0,.cells [v]),(1,J4),(2,.cells [.d (.int .i64 sz)])]
abbrev hpF (sz aD N:Nat) (e:am) (v:AV) (n:Int):ac:=[(0,.cells [v]),(1,J4),(2,.cells [.d (.int .i64 sz)]),(N+1,.cells [.d (.int .i64 n)]),(N+1+1,.cells [.d (.int .i64 aD)]),(N+1+2,.loop e [55] uj ui false none)]
abbrev Sx (aD:Nat) (y32 y33 y34:D) (full:List aA) (i:Int) (r:am):am:=(3,.ptr 0 0)::(9,.ptr 2 0)::(10,.d (.int .i64 aD))::(32,.d y32)::(33,.d y33)::(34,.d y34)::(38,.d (.lst (iz full)))::(39,.d (.int .i64 full.length))::(40,.d (.int .i64 i))::r
theorem ani (sz aD N:Nat) (hsz:1≤sz∧sz≤5) (hm:aD<2 ^ sz) (hN:3≤N) (y32 y33 y34:D) (full:List aA) (i:Int) (b:List Nat) (x:Nat) (n:Int) (hx:x≤aD) (hb:b.length≤800000000) :
  aM (Dn prog) (.yield (N+1+2)) [.d (.int .i64 (x:Int))] ⟨hpF sz aD N (Sx aD y32 y33 y34 full i [(54,.fn eC [] [.ptr (N+1) 0,.ptr (N+1+1) 0])]) (.own false 1 (ah b)) n,N+1+2+1⟩ =
  some (.d (.bool true),⟨hpF sz aD N (Sx aD y32 y33 y34 full i [(54,.fn eC [] [.ptr (N+1) 0,.ptr (N+1+1) 0])]) (.own false 1 (ah (b++al x sz))) n,N+1+2+1⟩):=by
 have h5:2 ^ sz≤2 ^ 5:=Nat.pow_le_pow_right (by omega) hsz.2
 have h1:=il b x sz (by omega) (by omega) _ (.inl rfl)
 rw[if_pos (by simp only[io,Int.toNat_natCast];omega)]at h1
 simp only[Int.toNat_natCast]at h1
 have n1:N+1≠0∧N+1≠1∧N+1≠2:=by omega
 simp (maxSteps:=300000) (disch:=omega) [uj,ui,↓if_pos,↓if_neg,h1]
theorem Yr (sz aD:Nat) (hsz:1≤sz∧sz≤5) (hm:aD=2 ^ sz-1) (full r:List aA) (hl:full.length≤1000) (s:aA) (y32 y33 y34:D) (i N:Nat) (b:List Nat) (hd:full.drop i=s::r) (hr:s.right 1000) (hN:3≤N) (hb:b.length≤700000000) :
  (Dn prog).code jY ⟨Sx aD y32 y33 y34 full i [],⟨X6 sz (.own false 1 (ah b)),N⟩⟩ =
  some (.normal,⟨Sx aD y32 y33 y34 full ((i+1:Nat):Int) [],⟨X6 sz (.own false 1 (ah (b++EL sz s))),N+4⟩⟩):=by
 have hg:=nS hd
 have hlt:=aQ hd
 have h5:2 ^ sz≤2 ^ 5:=Nat.pow_le_pow_right (by omega) hsz.2
 have h6:2 ^ 1≤2 ^ sz:=Nat.pow_le_pow_right (by omega) hsz.1
 obtain⟨⟨l1,l2⟩,b1,b2⟩:=hr
 have h1:=il b s.book 4 (by omega) (by omega) _ (.inl rfl)
 have c4:(4:Int).toNat=4:=rfl
 have ho:io s.book 4:=by
  simp only[io,c4]
  omega
 rw[if_pos ho,c4]at h1
 obtain⟨n0,n1,n2⟩:N≠0∧N≠1∧N≠2:=by omega
 obtain⟨L,hL⟩:=Int.eq_ofNat_of_zero_le (show 0≤s.len by omega)
 obtain⟨m,h7⟩:=adC (hp:=fun b n=>hpF sz aD N (Sx aD y32 y33 y34 full i [(54,.fn eC [] [.ptr (N+1) 0,.ptr (N+1+1) 0])]) (.own false 1 (ah b)) n) (l:=N+1+2) (p:=N+1) (q:=N+1+1) (N:=N+1+2+1) (st:=fun s n=>s++al n sz) (bp:=fun k s=>s.length+5*k≤750000000)
  (fun k s x h=>by simp only[List.length_append,eB];omega) (fun j k s h1 h2=>by omega) aD (by omega) (fun s n=>by simp (maxSteps:=300000) (disch:=omega) [↓if_neg]) (fun s n=>by simp (disch:=omega) [↓if_neg]) (fun s n m=>by simp (disch:=omega) [↓if_neg])
  (fun k s x n h1 h2=>ani sz aD N hsz (by omega) hN y32 y33 y34 full i s x n h2 (by omega)) L (b++al s.book.toNat 4) (by omega) (by simp;omega)
 rw[Tn]at h7
 have e:b++al s.book.toNat 4++(fS aD L L).flatMap (fun n=>al n sz)=b++EL sz s:=by
  rw[EL,hL,←hm,List.append_assoc];rfl
 rw[e]at h7
 rw[hL]at hg
 rw[jY.eq_1]
 simp (maxSteps:=300000) (disch:=omega) [↓if_pos,↓if_neg,hg,h1,n0,n1,n2,Yv,rd,h7]
theorem Yf {sz:Nat}(hsz:1≤sz∧sz≤5) {s:aA}(h:s.right 1000):(EL sz s).length≤6000:=by
 have h6:2 ^ 1≤2 ^ sz:=Nat.pow_le_pow_right (by omega) hsz.1
 have h1:=Ip (aD:=2 ^ sz-1) (by omega) (f:=s.len.toNat) (n:=s.len.toNat)
 obtain⟨⟨l1,l2⟩,_⟩:=h
 rw[EL,List.length_append,eB,List.length_flatMap]
 have:((fS (2 ^ sz-1) s.len.toNat s.len.toNat).map fun n=>(al n sz).length).sum≤(fS (2 ^ sz-1) s.len.toNat s.len.toNat).length*5:=by
  generalize fS (2 ^ sz-1) s.len.toNat s.len.toNat=l
  clear h1
  induction l with
  | nil=>simp
  | cons x r ih=>simp only[List.map_cons,List.sum_cons,eB,List.length_cons]at ih⊢;omega
 omega
def kq (sz:Nat) (l:List aA):List Nat:=l.flatMap (EL sz)
theorem oM {lf:Int}:∀ {l:List aA},fitsS lf l→lf≤1000→∀ s∈l,s.right 1000
 | [],_,_,s,h=>absurd h (by simp)
 | x::r,hf,h0,s,h=>by
  obtain⟨h1,h2⟩:=hf
  obtain⟨⟨a,b⟩,c⟩:=h1
  rcases List.mem_cons.1 h with e | e
  ·subst e;exact⟨⟨a,by omega⟩,c⟩
  ·exact oM h2 (by omega) s e
theorem YA (sz aD:Nat) (hsz:1≤sz∧sz≤5) (hm:aD=2 ^ sz-1) (full:List aA) (hl:full.length≤1000) (y32 y33 y34:D):∀ (r:List aA) (i N:Nat) (b:List Nat),full.drop i=r→(∀ s∈r,s.right 1000)→3≤N→b.length+6000*r.length≤700000000→
  ∃ M,3≤M∧(Dn prog).code (.loop jY) ⟨Sx aD y32 y33 y34 full i [],⟨X6 sz (.own false 1 (ah b)),N⟩⟩ =
  some (.exit 2,⟨[(3,.ptr 0 0),(9,.ptr 2 0),(10,.d (.int .i64 aD)),(32,.d y32),(33,.d y33),(34,.d y34)],⟨X6 sz (.own false 1 (ah (b++kq sz r))),M⟩⟩):=by
 intro r
 induction r with
 | nil =>
  intro i N b hd hr hN hb
  have hi:=aH hd
  refine⟨N,hN,?_⟩
  rw[aa jY.eq_1,kq,List.flatMap_nil,List.append_nil]
  simp (maxSteps:=300000) (disch:=omega) [↓if_pos,↓if_neg]
 | cons s r ih =>
  intro i N b hd hr hN hb
  simp only[List.length_cons]at hb
  have hs:=hr s (.head _)
  have h1:=Yf hsz hs
  obtain⟨M,hM,e⟩:=ih (i+1) (N+4) (b++EL sz s) (aL hd) (fun q hq=>hr q (.tail _ hq)) (by omega) (by rw[List.length_append];omega)
  refine⟨M,hM,?_⟩
  have ea:b++kq sz (s::r)=b++EL sz s++kq sz r:=by rw[kq,List.flatMap_cons,List.append_assoc];rfl
  rw[aa rfl,Yr sz aD hsz hm full r hl s y32 y33 y34 i N b hd hs hN (by omega),SE,e,ea]
def Mw (i:aG) (g:List (List aA)):List Nat:=g.flatMap (kq i.fsz)
theorem DK {sz:Nat}(hsz:1≤sz∧sz≤5):∀ {l:List aA},(∀ s∈l,s.right 1000)→(kq sz l).length≤6000*l.length
 | [],_=>by simp[kq]
 | s::r,h=>by
  have h1:=Yf hsz (h s (.head _))
  have h2:=DK hsz (l:=r) fun q hq=>h q (.tail _ hq)
  rw[kq]at h2⊢
  rw[List.flatMap_cons,List.length_append,List.length_cons]
  omega
theorem YR (sz aD:Nat) (hsz:1≤sz∧sz≤5) (hm:aD=2 ^ sz-1) (m:Int) (hm0:m≤1000) (full:List (List aA)) (hl:full.length≤1000):∀ (g:List (List aA)) (i N:Nat) (b:List Nat),full.drop i=g→cG m g→(∀ l∈g,l.length≤100)→3≤N→b.length+600000*g.length≤700000000→
  ∃ M,(Dn prog).code (.loop mT) ⟨[(3,.ptr 0 0),(9,.ptr 2 0),(10,.d (.int .i64 aD)),(32,.d (.lst (da full))),(33,.d (.int .i64 full.length)),(34,.d (.int .i64 i))],⟨X6 sz (.own false 1 (ah b)),N⟩⟩ =
  some (.exit 0,⟨[(3,.ptr 0 0)],⟨X6 sz (.own false 1 (ah (b++g.flatMap (kq sz)))),M⟩⟩):=by
 intro g
 induction g with
 | nil =>
  intro i N b hd hf hll hN hb
  have hi:=aH hd
  refine⟨N,?_⟩
  rw[aa mT.eq_1,List.flatMap_nil,List.append_nil]
  simp (maxSteps:=300000) (disch:=omega) [↓if_pos,↓if_neg]
 | cons l r ih =>
  intro i N b hd hf hll hN hb
  simp only[List.length_cons]at hb
  have hg:=iO hd
  have hlt:=aQ hd
  have hlen:=hll l (.head _)
  have hr:=oM (hf l (.head _)) hm0
  have h1:=DK hsz hr
  obtain⟨M,hM,e⟩:=YA sz aD hsz hm l (by omega) (.lst (da full)) (.int .i64 full.length) (.int .i64 i) l 0 N b rfl hr hN (by omega)
  obtain⟨M2,e2⟩:=ih (i+1) M (b++kq sz l) (aL hd) (fun q hq=>hf q (.tail _ hq)) (fun q hq=>hll q (.tail _ hq)) hM (by rw[List.length_append];omega)
  refine⟨M2,?_⟩
  have c1:((i+1:Nat):Int)=(i:Int)+1:=rfl
  have c0:((0:Nat):Int)=0:=rfl
  rw[c0]at e
  rw[c1]at e2
  have ea:b++(l::r).flatMap (kq sz)=b++kq sz l++r.flatMap (kq sz):=by rw[List.flatMap_cons,List.append_assoc]
  rw[aa mT.eq_1,ea,←e2]
  simp (maxSteps:=300000) (disch:=omega) [↓if_pos,↓if_neg,hg,e]
theorem vO {lf:Int}:∀ {l:List aA},fitsS lf l→(l.length:Int)≤lf∨l=[]
 | [],_=>.inr rfl
 | x::r,hf=>by
  obtain⟨h1,h2⟩:=hf
  have:=vO h2
  obtain⟨⟨a,b⟩,c⟩:=h1
  left
  rcases this with h | h
  ·simp only[List.length_cons];omega
  ·subst h;simp only[List.length_cons,List.length_nil];omega
theorem ad4 (b:List Nat) (hb:b.length≤90000000) (x:AV) (hx:x=.d (.lst (ah b))∨x=.nl∧b=[]) (i:aG) (hi:i.Fit) (hm:i.may 11) (g:List (List aA)) (hf:adr g) (hg:j9 i g):aW prog AL [x,.agg i.cells,.d (.lst (da g))] =
  some (.tup [.own true 1 (ah (b++Mw i g)),.d (.int .i64 0)]):=by
 have hc:=aaC i hi g hf
 rw[if_pos hm,if_pos hg]at hc
 have h0:0≤i.max∧i.max≤100:=by have:=hm.2.2.1;have:=hm.2.2.2.1;have:=Jl (r:=11) (s:=decide (i.seq=2)) (by omega);omega
 have hfd:=aaO i
 have hsz:1≤i.fsz∧i.fsz≤5:=by unfold aG.fsz;split<;>omega
 have g8:g.length≤8:=by
  have h:=(gu hm).1
  have h2:=(gu hm).2
  have:=ou (fun n hn=>(h n hn).1)
  have:i.many≤8:=by unfold aG.many;split<;>omega
  have:=hg.1
  omega
 have hll:∀ l∈g,l.length≤100:=fun l hl=>by
  rcases vO (hg.2 l hl) with h | h
  ·omega
  ·subst h;simp
 have hp:=il b 0 0 (by omega) (by omega) x hx
 rw[if_pos (by decide)]at hp
 have t0:(0:Int).toNat=0:=rfl
 rw[t0,al,List.append_nil]at hp
 obtain⟨M,e⟩:=YR i.fsz (2 ^ i.fsz-1) hsz rfl i.max (by omega) g hf.1 g 0 3 b rfl hg.2 hll (by omega) (by omega)
 have c0:((0:Nat):Int)=0:=rfl
 rw[c0]at e
 simp only[aG.cells]at hc hfd
 simp only[X6]at e
 rw[au aaB A7.eq_1 rfl,Mw]
 generalize 2 ^ i.fsz-1=aD at *
 rcases hx with rfl | ⟨rfl,rfl⟩
 all_goals simp (maxSteps:=300000) (disch:=omega) [↓if_pos,↓if_neg,hc,hfd,hp,e]
end Go.Vm
namespace Go.Vm
set_option maxHeartbeats 2000000
set_option maxRecDepth 100000
def aq (l:List aA):List Int:=l.flatMap fun s=>List.replicate s.len.toNat s.book
theorem cu {l:List Int}:(aP l).length=l.length:=by simp[aP]
end Go.Vm
namespace Go.Vm
set_option maxHeartbeats 2000000
set_option maxRecDepth 100000
structure Tl {σ:Type}(hp:σ→ac→ac) (L:Nat):Prop where
 put:∀ s K o,L≤K→Go.Vm.put (hp s []) K o=hp s [(K,o)]
 put2:∀ s K o o',L≤K→Go.Vm.put (hp s [(K,o)]) K o'=hp s [(K,o')]
 get:∀ s K o,L≤K→Go.Vm.get (hp s [(K,o)]) K=some o
 del:∀ s K o,L≤K→Go.Vm.del (hp s [(K,o)]) K=hp s []
def oR {σ τ:Type}(st:Nat→Int→σ→Sum σ τ):List Int→Nat→σ→Sum σ τ
 | [],_,s=>.inl s
 | k::r,a,s=>match st a k s with
  | .inl s=>oR st r (a+1) s
  | .inr z=>.inr z
theorem Wd {σ τ:Type}{st:Nat→Int→σ→Sum σ τ}:∀ {l r:List Int}{a:Nat}{s:σ},oR st (l++r) a s=match oR st l a s with
  | .inl s=>oR st r (a+l.length) s
  | .inr z=>.inr z
 | [],r,a,s=>rfl
 | k::l,r,a,s=>by
  rw[List.cons_append,oR,oR]
  cases st a k s with
  | inl s=>simp only[Wd,List.length_cons];rw[show a+(l.length+1)=a+1+l.length by omega]
  | inr z=>rfl
section
variable {σ τ:Type}{hp:σ→ac→ac}{hq:τ→ac→ac}{L l p:Nat}{bks:List Int}{st:Nat→Int→σ→Sum σ τ}{bp:Nat→σ→Prop}
def Rnd (hp:σ→ac→ac) (hq:τ→ac→ac) (L l:Nat) (bks:List Int) (st:Nat→Int→σ→Sum σ τ) (bp:Nat→σ→Prop):Prop :=
 ∀ a k s K o N,bks[a]?=some k→bp a s→L≤K→K<N→
  (∃ s2,st a k s=.inl s2∧bp (a+1) s2∧aM (Dn prog) (.yield l) [.d (.int .i64 (a:Int)),.d (.int .i64 k)] ⟨hp s [(K,o)],N⟩=some (.d (.bool true),⟨hp s2 [(K,o)],N⟩))∨
  (∃ z,st a k s=.inr z∧aM (Dn prog) (.yield l) [.d (.int .i64 (a:Int)),.d (.int .i64 k)] ⟨hp s [(K,o)],N⟩=some (.d (.bool false),⟨hq z [(K,o)],N⟩))
theorem aa0 (H:Tl hp L) (H2:Tl hq L) (hY:Rnd hp hq L l bks st bp) (full:List aA) (s0:aA) (hs0:s0.len≤1000) (i K N:Nat) (hK:L≤K) (hKN:K<N):∀ (k j a:Nat) (s:σ),j+k=s0.len.toNat→(∀ q,q<k→bks[a+q]?=some s0.book)→a+k≤100000000→bp a s→
  (∃ s2,oR st (List.replicate k s0.book) a s=.inl s2∧bp (a+k) s2∧(Dn prog).code (.loop dZ) ⟨[(0,.yield l),(3,.d (.int .i64 a)),(5,.ptr K 0),(6,.d (.lst (iz full))),(7,.d (.int .i64 full.length)),(8,.d (.int .i64 i)),(13,.d (.int .i64 s0.len)),(14,.d (.int .i64 j))],⟨hp s [(K,.cells [.d (.int .i64 s0.book),.d (.int .i64 s0.len)])],N⟩⟩ =
   some (.exit 2,⟨[(0,.yield l),(3,.d (.int .i64 (a+k:Nat))),(6,.d (.lst (iz full))),(7,.d (.int .i64 full.length)),(8,.d (.int .i64 i))],⟨hp s2 [],N⟩⟩))∨
  (∃ z,oR st (List.replicate k s0.book) a s=.inr z∧(Dn prog).code (.loop dZ) ⟨[(0,.yield l),(3,.d (.int .i64 a)),(5,.ptr K 0),(6,.d (.lst (iz full))),(7,.d (.int .i64 full.length)),(8,.d (.int .i64 i)),(13,.d (.int .i64 s0.len)),(14,.d (.int .i64 j))],⟨hp s [(K,.cells [.d (.int .i64 s0.book),.d (.int .i64 s0.len)])],N⟩⟩ =
   some (.ret,⟨[],⟨hq z [],N⟩⟩)):=by
 have hG:=fun s o=>H.get s K o hK
 have hD:=fun s o=>H.del s K o hK
 have hD2:=fun s o=>H2.del s K o hK
 intro k
 induction k with
 | zero =>
  intro j a s h1 h2 h3 hi
  refine .inl ⟨s,rfl,hi,?_⟩
  rw[aa dZ.eq_1]
  simp (maxSteps:=300000) (disch:=omega) [↓if_neg,hD]
 | succ k ih =>
  intro j a s h1 h2 h3 hi
  have hb:=h2 0 (by omega)
  rw[Nat.add_zero]at hb
  have c1:((j+1:Nat):Int)=(j:Int)+1:=rfl
  have c2:((a+1:Nat):Int)=(a:Int)+1:=rfl
  rw[List.replicate_succ]
  rcases hY a s0.book s K (.cells [.d (.int .i64 s0.book),.d (.int .i64 s0.len)]) N hb hi hK hKN with ⟨s2,e1,e2,e3⟩ | ⟨z,e1,e3⟩
  ·rw[oR,e1,aa dZ.eq_1]
   have e4:a+(k+1)=a+1+k:=by omega
   have h9:=ih (j+1) (a+1) s2 (by omega) (fun q hq=>by rw[show a+1+q=a+(q+1) by omega];exact h2 (q+1) (by omega)) (by omega) e2
   rw[c1,c2]at h9
   rw[e4]
   rcases h9 with ⟨s3,f1,f2,f3⟩ | ⟨z,f1,f3⟩
   ·refine .inl ⟨s3,f1,f2,?_⟩
    rw[←f3]
    simp (maxSteps:=300000) (disch:=omega) [↓if_pos,↓if_neg,hG,-ft,e3]
   ·refine .inr ⟨z,f1,?_⟩
    rw[←f3]
    simp (maxSteps:=300000) (disch:=omega) [↓if_pos,↓if_neg,hG,-ft,e3]
  ·refine .inr ⟨z,by rw[oR,e1],?_⟩
   rw[aa dZ.eq_1]
   simp (maxSteps:=300000) (disch:=omega) [↓if_pos,↓if_neg,hG,-ft,e3,hD2]
theorem abj (H:Tl hp L) (H2:Tl hq L) (hY:Rnd hp hq L l bks st bp) (full:List aA) (hfl:full.length≤1000):∀ (r:List aA) (i a N:Nat) (s:σ),full.drop i=r→(∀ q∈r,0≤q.len∧q.len≤1000)→bks.drop a=aq r→a≤1000*i→L≤N→bp a s→
  (∃ s2 M,oR st (aq r) a s=.inl s2∧bp (a+(aq r).length) s2∧N≤M∧(Dn prog).code (.loop dn) ⟨[(0,.yield l),(3,.d (.int .i64 a)),(6,.d (.lst (iz full))),(7,.d (.int .i64 full.length)),(8,.d (.int .i64 i))],⟨hp s [],N⟩⟩ =
   some (.exit 0,⟨[],⟨hp s2 [],M⟩⟩))∨
  (∃ z M,oR st (aq r) a s=.inr z∧N≤M∧(Dn prog).code (.loop dn) ⟨[(0,.yield l),(3,.d (.int .i64 a)),(6,.d (.lst (iz full))),(7,.d (.int .i64 full.length)),(8,.d (.int .i64 i))],⟨hp s [],N⟩⟩ =
   some (.ret,⟨[],⟨hq z [],M⟩⟩)):=by
 intro r
 induction r with
 | nil =>
  intro i a N s hd hr hb ha hL hi
  have hk:=aH hd
  refine .inl ⟨s,N,rfl,hi,Nat.le_refl _,?_⟩
  rw[aa dn.eq_1]
  simp (maxSteps:=300000) (disch:=omega) [↓if_neg]
 | cons q r ih =>
  intro i a N s hd hr hb ha hL hi
  have hq:=hr q (.head _)
  have hlt:=aQ hd
  have hg:=nS hd
  have eb:aq (q::r)=List.replicate q.len.toNat q.book++aq r:=by rw[aq,List.flatMap_cons];rfl
  rw[eb]at hb
  have hbk:∀ j,j<q.len.toNat→bks[a+j]?=some q.book:=fun j hj=>by
   have:=congrArg (fun l=>l[j]?) hb
   simp only[List.getElem?_drop]at this
   rw[this,List.getElem?_append_left (by simpa using hj)]
   simp[hj]
  have hb2:bks.drop (a+q.len.toNat)=aq r:=by
   have:=congrArg (fun l=>l.drop q.len.toNat) hb
   simp only[List.drop_drop]at this
   rw[this,List.drop_left' (by simp)]
  have hp1:=fun o=>H.put s N o hL
  have hp2:=fun o o'=>H.put2 s N o o' hL
  have hG:=fun o=>H.get s N o hL
  have c1:((i+1:Nat):Int)=(i:Int)+1:=rfl
  have c0:((0:Nat):Int)=0:=rfl
  have h0:=aa0 H H2 hY full q hq.2 i N (N+1) hL (by omega) q.len.toNat 0 a s (by omega) hbk (by omega) hi
  rw[c0]at h0
  rw[eb,Wd]
  rcases h0 with ⟨s2,e1,e2,e3⟩ | ⟨z,e1,e3⟩
  ·have h9:=ih (i+1) (a+q.len.toNat) (N+1) s2 (aL hd) (fun x hx=>hr x (.tail _ hx)) hb2 (by omega) (by omega) e2
   rw[c1]at h9
   rw[e1]
   simp only[List.length_append,List.length_replicate]
   rcases h9 with ⟨s3,M,f1,f2,f3,f4⟩ | ⟨z,M,f1,f3,f4⟩
   ·refine .inl ⟨s3,M,f1,by rw[←Nat.add_assoc];exact f2,by omega,?_⟩
    rw[aa dn.eq_1,←f4]
    simp (maxSteps:=300000) (disch:=omega) [↓if_pos,↓if_neg,hg,hp1,hp2,hG,e3]
   ·refine .inr ⟨z,M,f1,by omega,?_⟩
    rw[aa dn.eq_1,←f4]
    simp (maxSteps:=300000) (disch:=omega) [↓if_pos,↓if_neg,hg,hp1,hp2,hG,e3]
  ·rw[e1]
   refine .inr ⟨z,N+1,rfl,by omega,?_⟩
   rw[aa dn.eq_1]
   simp (maxSteps:=300000) (disch:=omega) [↓if_pos,↓if_neg,hg,hp1,hp2,hG,e3]
theorem Zq (H:Tl hp L) (H2:Tl hq L) (full:List aA) (hY:Rnd hp hq L l (aq full) st bp) (hgp:∀ s,get (hp s []) p=some (.cells [.d (.lst (iz full))])) (hfl:full.length≤1000) (hr:∀ q∈full,0≤q.len∧q.len≤1000) (N:Nat) (s:σ) (hN:L≤N) (hi:bp 0 s) :
  (∃ s2 M,oR st (aq full) 0 s=.inl s2∧bp (aq full).length s2∧N≤M∧(Dn prog).call eF [.yield l,.ptr p 0] ⟨hp s [],N⟩=some (.tup [],⟨hp s2 [],M⟩))∨
  (∃ z M,oR st (aq full) 0 s=.inr z∧N≤M∧(Dn prog).call eF [.yield l,.ptr p 0] ⟨hp s [],N⟩=some (.tup [],⟨hq z [],M⟩)):=by
 have h:=abj H H2 hY full hfl full 0 0 N s rfl hr rfl (by omega) hN hi
 have c0:((0:Nat):Int)=0:=rfl
 rw[c0,Nat.zero_add]at h
 rw[aJ M5 pD.eq_1 rfl]
 rcases h with ⟨s2,M,e1,e2,e3,e4⟩ | ⟨z,M,e1,e3,e4⟩
 ·refine .inl ⟨s2,M,e1,e2,e3,?_⟩
  simp (maxSteps:=300000) (disch:=omega) [hgp,e4]
 ·refine .inr ⟨z,M,e1,e3,?_⟩
  simp (maxSteps:=300000) (disch:=omega) [hgp,e4]
end
theorem In (x:D) (h:ac) (N:Nat):(Dn prog).call mU [.d x] ⟨h,N⟩=some (.fn eF [] [.ptr N 0],⟨put h N (.cells [.d x]),N+1⟩):=by
 rw[aJ Uk tK.eq_1 rfl]
 simp (maxSteps:=300000) (disch:=omega)
end Go.Vm
namespace Go.Vm
set_option maxHeartbeats 2000000
set_option maxRecDepth 100000
def eZ (t:List (List Int)):List (List D):=t.map fun l=>[.lst (aP l)]
@[simp] theorem ak5 {t:List (List Int)}:(eZ t).length=t.length:=by simp[eZ]
theorem xL {g:List (List Int)}{i:Nat}{l:List Int}{r:List (List Int)}(h:g.drop i=l::r):(eZ g)[i]?=some [.lst (aP l)]:=by
 have:=congrArg (fun l=>l[0]?) h
 simp only[List.getElem?_drop,List.getElem?_cons_zero,Nat.add_zero]at this
 rw[eZ,List.getElem?_map,this];rfl
theorem oc {l:List Int}{i:Nat}{k:Int}{r:List Int}(h:l.drop i=k::r):(aP l)[i]?=some [.int .i64 k]:=by
 have:=congrArg (fun l=>l[0]?) h
 simp only[List.getElem?_drop,List.getElem?_cons_zero,Nat.add_zero]at this
 rw[aP,List.getElem?_map,this];rfl
def bW:List Int→List Int→Int→Int→Option (Int×Int)
 | [],[],w,z=>some (w,z)
 | k::r,n::t,w,z=>if k=0 then (if n=0 then bW r t w z else none) else if ky k n w z then (if k=13 then bW r t w n else bW r t n z) else none
 | _,_,_,_=>none
def kD:List (List aA)→List (List Int)→Int→Int→Option (Int×Int)
 | [],[],w,z=>some (w,z)
 | l::r,t::s,w,z=>match bW (aq l) t w z with
  | some (w,z)=>kD r s w z
  | none=>none
 | _,_,_,_=>none
abbrev sm (gain:Int) (g:List (List aA)) (t:List (List Int)):Prop:=kD g t gain (-1)≠none
theorem xF:∀ {g:List (List aA)}{t:List (List Int)}{w z:Int},kD g t w z≠none→g.length=t.length
 | [],[],_,_,_=>rfl
 | [],_::_,_,_,h=>absurd rfl h
 | _::_,[],_,_,h=>absurd rfl h
 | l::r,t::s,w,z,h=>by
  rw[kD]at h
  split at h
  ·simp only[List.length_cons,xF h]
  ·exact absurd rfl h
abbrev j0 (w:Int):Prop:=-1≤w∧w≤511
theorem tw {k n w z:Int}(h:ky k n w z):j0 n:=by
 unfold ky at h;split at h<;>omega
def gB (k n w z:Int):Int×Int:=if k=0 then (w,z) else if k=13 then (w,n) else (n,z)
theorem xG {k n:Int}{r t:List Int}{w z:Int}(h:bW (k::r) (n::t) w z≠none):(k=0→n=0)∧(k≠0→ky k n w z)∧bW (k::r) (n::t) w z=bW r t (gB k n w z).1 (gB k n w z).2:=by
 rw[bW]at h
 by_cases h0:k=0
 ·rw[if_pos h0]at h
  by_cases h1:n=0
  ·exact⟨fun _=>h1,fun h=>absurd h0 h,by rw[bW,if_pos h0,if_pos h1,gB,if_pos h0]⟩
  ·rw[if_neg h1]at h;exact absurd rfl h
 ·rw[if_neg h0]at h
  by_cases h1:ky k n w z
  ·refine⟨fun h=>absurd h h0,fun _=>h1,?_⟩
   rw[bW,if_neg h0,if_pos h1,gB,if_neg h0]
   split<;>rfl
  ·rw[if_neg h1]at h;exact absurd rfl h
theorem TA {bks t:List Int}{a:Nat}{k:Int}{w z:Int}(hk:bks[a]?=some k) (h:bW (bks.drop a) (t.drop a) w z≠none):∃ n,t.drop a=n::t.drop (a+1)∧(k=0→n=0)∧(k≠0→ky k n w z)∧bW (bks.drop a) (t.drop a) w z=bW (bks.drop (a+1)) (t.drop (a+1)) (gB k n w z).1 (gB k n w z).2:=by
 obtain⟨hlt,e⟩:=List.getElem?_eq_some_iff.1 hk
 have h1:=List.drop_eq_getElem_cons hlt
 rw[e]at h1
 rw[h1]at h⊢
 cases h2:t.drop a with
 | nil=>rw[h2]at h;exact absurd rfl h
 | cons n r =>
  have h3:t.drop (a+1)=r:=aL h2
  rw[h2]at h
  rw[h3]
  obtain⟨a1,a2,a3⟩:=xG h
  exact⟨n,rfl,a1,a2,a3⟩
abbrev hpK (ss:List (List Int)) (g N:Nat) (l:List aA) (e:am) (s:Nat×Int×Int) (T:ac):ac :=
 (0,.cells [.d (.lst (eZ ss))])::(1,.cells [.d (.int .i64 0)])::(2,.cells [.d (.int .i64 s.2.1),.d (.int .i64 s.2.2)])::(3,.cells [.ptr 2 0])::(N,.cells [.d (.int .i64 g)])::(N+1,.cells [.d (.int .i64 s.1)])::(N+1+1,.cells [.d (.lst (iz l))])::(N+1+1+1,.loop e [36,37] dX dW false none)::T
abbrev abr (gs:List (List aA)) (g N:Nat):am:=[(5,.ptr 0 0),(6,.ptr 1 0),(7,.ptr 3 0),(8,.ptr N 0),(10,.ptr (N+1) 0),(27,.d (.lst (da gs))),(28,.d (.int .i64 gs.length)),(29,.d (.int .i64 g)),(35,.fn eF [] [.ptr (N+1+1) 0])]
theorem amm {ss:List (List Int)}{g N:Nat}{l:List aA}{e:am}(hN:4≤N):Tl (hpK ss g N l e) (N+1+1+1+1):=by
 constructor
 ·intro s K o h
  simp (maxSteps:=300000) (disch:=omega) [↓if_neg]
 ·intro s K o o' h
  simp (maxSteps:=300000) (disch:=omega) [↓if_neg]
 ·intro s K o h
  simp (maxSteps:=300000) (disch:=omega) [↓if_neg]
 ·intro s K o h
  simp (maxSteps:=300000) (disch:=omega) [↓if_neg]
def noH (z:Empty) (_:ac):ac:=nomatch z
theorem abp {L:Nat}:Tl noH L:=by constructor<;>(intro z;exact nomatch z)
structure LK (F:Obj→Int→Int→Int→ac) (ss:List (List Int)) (g:Int) (L N:Nat):Prop where
 gl:∀ q m w z,get (F q m w z) L=some q
 pl:∀ q m w z q',put (F q m w z) L q'=F q' m w z
 g0:∀ q m w z,get (F q m w z) 0=some (.cells [.d (.lst (eZ ss))])
 g2:∀ q m w z,get (F q m w z) 2=some (.cells [.d (.int .i64 w),.d (.int .i64 z)])
 p2:∀ q m w z w' z',put (F q m w z) 2 (.cells [.d (.int .i64 w'),.d (.int .i64 z')])=F q m w' z'
 g3:∀ q m w z,get (F q m w z) 3=some (.cells [.ptr 2 0])
 gN:∀ q m w z,get (F q m w z) N=some (.cells [.d (.int .i64 g)])
 gM:∀ q m w z,get (F q m w z) (N+1)=some (.cells [.d (.int .i64 m)])
 pM:∀ q m w z m',put (F q m w z) (N+1) (.cells [.d (.int .i64 m')])=F q m' w z
theorem ajX {F:Obj→Int→Int→Int→ac}{L:Nat}(ss:List (List Int)) (hss:ss.length≤1000) (gs:List (List aA)) (hgs:gs.length≤1000) (g N:Nat) (H:LK F ss g L N) (t:List Int) (ht:t.length≤100000) (hg:(eZ ss)[g]?=some [.lst (aP t)]) (a:Nat) (k:Int) (w z:Int) (M:Nat) (n:Int) (r:List Int) (hd:t.drop a=n::r) (h0:k=0→n=0) (h1:k≠0→ky k n w z) (hk:0≤k∧k≤13) (hw:j0 w) (hz:j0 z) :
  aM (Dn prog) (.yield L) [.d (.int .i64 (a:Int)),.d (.int .i64 k)] ⟨F (.loop (abr gs g N) [36,37] dX dW false none) a w z,M⟩=some (.d (.bool true),⟨F (.loop (abr gs g N) [36,37] dX dW false none) (a+1) (gB k n w z).1 (gB k n w z).2,M⟩):=by
 have ha:=aQ hd
 have hn:=oc hd
 have gl:g<ss.length:=by
  obtain⟨h,_⟩:=List.getElem?_eq_some_iff.1 hg
  simpa using h
 have T:=fun q m=>Nz (hp:=fun w z=>F q m w z) (A:=2) ⟨fun s z=>H.g2 q m s z,fun s z s' z'=>H.p2 q m s z s' z'⟩ k n w z M
 by_cases k0:k=0
 ·have:=h0 k0
  subst k0 this
  simp (maxSteps:=300000) (disch:=omega) [dX,dW,↓if_pos,↓if_neg,hg,hn,cu,H.gl,H.pl,H.g0,H.g2,H.p2,H.g3,H.gN,H.gM,H.pM,gB]
 ·have hT:=h1 k0
  have hn5:=tw hT
  have T:=fun q m=>T q m (by omega) (by omega) (by omega)
  simp only[if_pos hT]at T
  have e:(gB k n w z)=if k=13 then (w,n) else (n,z):=by rw[gB,if_neg k0]
  by_cases k13:k=13
  ·rw[e,if_pos k13]
   simp only[if_pos k13]at T
   simp (maxSteps:=300000) (disch:=omega) [dX,dW,↓if_pos,↓if_neg,hg,hn,cu,H.gl,H.pl,H.g0,H.g2,H.g3,H.gN,H.gM,H.pM,T]
  ·rw[e,if_neg k13]
   simp only[if_neg k13]at T
   simp (maxSteps:=300000) (disch:=omega) [dX,dW,↓if_pos,↓if_neg,hg,hn,cu,H.gl,H.pl,H.g0,H.g2,H.g3,H.gN,H.gM,H.pM,T]
abbrev FK (ss:List (List Int)) (g N:Nat) (l:List aA) (T:ac) (q:Obj) (m w z:Int):ac :=
 (0,.cells [.d (.lst (eZ ss))])::(1,.cells [.d (.int .i64 0)])::(2,.cells [.d (.int .i64 w),.d (.int .i64 z)])::(3,.cells [.ptr 2 0])::(N,.cells [.d (.int .i64 g)])::(N+1,.cells [.d (.int .i64 m)])::(N+1+1,.cells [.d (.lst (iz l))])::(N+1+1+1,q)::T
theorem ajU {ss:List (List Int)}{g N:Nat}{l:List aA}{T:ac}(hN:4≤N):LK (FK ss g N l T) ss g (N+1+1+1) N:=by
 obtain⟨n0,n1,n2,n3⟩:N≠0∧N≠1∧N≠2∧N≠3:=by omega
 constructor<;>intro q m w z<;>(try intro q')<;>(try intro q'')<;>simp (maxSteps:=300000) (disch:=omega) [↓if_neg,n0,n1,n2,n3]
theorem aj3 (ss:List (List Int)) (hss:ss.length≤1000) (gs:List (List aA)) (hgs:gs.length≤1000) (g N:Nat) (hN:4≤N) (t:List Int) (ht:t.length≤100000) (hg:(eZ ss)[g]?=some [.lst (aP t)]) (l:List aA) (hl:∀ k∈aq l,0≤k∧k≤13) (fin:Int×Int) :
  Rnd (hpK ss g N l (abr gs g N)) noH (N+1+1+1+1) (N+1+1+1) (aq l) (fun a k s=>.inl (a+1,gB k (nth t a) s.2.1 s.2.2)) (fun a s=>s.1=a∧j0 s.2.1∧j0 s.2.2∧bW ((aq l).drop a) (t.drop a) s.2.1 s.2.2=some fin):=by
 intro a k s K o M hk hi hK hM
 obtain⟨i1,i2,i3,i4⟩:=hi
 obtain⟨n,d1,d2,d3,d4⟩:=TA hk (by rw[i4];simp)
 have hn:nth t a=n:=by
  have h1:=aQ d1
  have h2:=lv (l:=t) h1
  rw[d1]at h2;injection h2 with h2;exact h2.symm
 have hkm:=hl k (by obtain⟨h,e⟩:=List.getElem?_eq_some_iff.1 hk;rw[←e];exact List.getElem_mem h)
 rw[i4]at d4
 have hgo:j0 (gB k n s.2.1 s.2.2).1∧j0 (gB k n s.2.1 s.2.2).2:=by
  unfold gB
  by_cases h0:k=0
  ·rw[if_pos h0];exact⟨i2,i3⟩
  ·rw[if_neg h0]
   have:=tw (d3 h0)
   by_cases h13:k=13
   ·rw[if_pos h13];exact⟨i2,this⟩
   ·rw[if_neg h13];exact⟨this,i3⟩
 refine .inl ⟨(a+1,gB k n s.2.1 s.2.2),by simp only[hn],⟨rfl,hgo.1,hgo.2,d4.symm⟩,?_⟩
 obtain⟨m,w,z⟩:=s
 simp only at i1 i2 i3
 subst i1
 have:=ajX ss hss gs hgs g N (ajU (ss:=ss) (g:=g) (l:=l) (T:=[(K,o)]) hN) t ht hg m k w z M n _ d1 d2 d3 hkm i2 i3
 exact this
theorem Kq {l:List aA}{lf:Int}(h:fitsS lf l):∀ k∈aq l,0≤k∧k≤13:=by
 induction l generalizing lf with
 | nil=>intro k hk;simp[aq]at hk
 | cons s r ih =>
  intro k hk
  obtain⟨h1,h2⟩:=h
  rw[aq,List.flatMap_cons,List.mem_append]at hk
  rcases hk with hk | hk
  ·have:=List.eq_of_mem_replicate hk
   have:=h1.2
   omega
  ·exact ih h2 k hk
abbrev ahP (ss:List (List Int)) (w z:Int):ac:=[(0,.cells [.d (.lst (eZ ss))]),(1,.cells [.d (.int .i64 0)]),(2,.cells [.d (.int .i64 w),.d (.int .i64 z)]),(3,.cells [.ptr 2 0])]
theorem Xj {t:List Int}{a:Nat}{w z:Int}{fin:Int×Int}(h:bW [] (t.drop a) w z=some fin):(w,z)=fin∧t.length≤a:=by
 cases h1:t.drop a with
 | nil=>rw[h1,bW]at h;injection h with h;exact⟨h,aH h1⟩
 | cons n r=>rw[h1]at h;exact absurd h (by simp[bW])
theorem I1:∀ {bks t:List Int}{w z:Int}{fin:Int×Int},bW bks t w z=some fin→bks.length=t.length
 | [],[],_,_,_,_=>rfl
 | [],_::_,_,_,_,h=>absurd h (by simp[bW])
 | _::_,[],_,_,_,h=>absurd h (by simp[bW])
 | k::r,n::t,w,z,fin,h=>by
  have h1:=xG (by rw[h];simp)
  rw[h]at h1
  have:=I1 h1.2.2.symm
  simp only[List.length_cons,this]
theorem R9 (ss:List (List Int)) (hss:ss.length≤1000) (hss2:∀ t∈ss,t.length≤100000) (gs:List (List aA)) (hgs:gs.length≤1000) (m:Int) (hm:m≤1000):∀ (gr:List (List aA)) (sr:List (List Int)) (i N:Nat) (w z:Int),gs.drop i=gr→ss.drop i=sr→cG m gr→(∀ l∈gr,l.length≤1000)→j0 w→j0 z→kD gr sr w z≠none→4≤N→
  ∃ M w' z',(Dn prog).code (.loop jG) ⟨[(5,.ptr 0 0),(6,.ptr 1 0),(7,.ptr 3 0),(27,.d (.lst (da gs))),(28,.d (.int .i64 gs.length)),(29,.d (.int .i64 i))],⟨ahP ss w z,N⟩⟩ =
  some (.exit 0,⟨[(6,.ptr 1 0)],⟨[(1,.cells [.d (.int .i64 0)]),(2,.cells [.d (.int .i64 w'),.d (.int .i64 z')])],M⟩⟩):=by
 intro gr
 induction gr with
 | nil =>
  intro sr i N w z hd hd2 hf hl hw hz hr hN
  have hi:=aH hd
  refine⟨N,w,z,?_⟩
  rw[aa jG.eq_1]
  simp (maxSteps:=300000) (disch:=omega) [↓if_pos,↓if_neg]
 | cons l r ih =>
  intro sr i N w z hd hd2 hf hl hw hz hr hN
  have hg:=iO hd
  have hlt:=aQ hd
  have hfl:=hf l (.head _)
  have hll:=hl l (.head _)
  cases sr with
  | nil=>exact absurd rfl hr
  | cons t s =>
   have hgt:=xL hd2
   have htl:=hss2 t (by rw[←List.take_append_drop i ss,hd2];simp)
   have hlt2:=aQ hd2
   rw[kD]at hr
   cases hrow:bW (aq l) t w z with
   | none=>rw[hrow]at hr;exact absurd rfl hr
   | some fin =>
    rw[hrow]at hr
    have hlen:=I1 hrow
    have hb:=Zq (p:=N+1+1) (amm (ss:=ss) (g:=i) (l:=l) (e:=abr gs i N) hN) abp l (aj3 ss hss gs hgs i N hN t htl hgt l (Kq hfl) fin) (fun s=>by simp (maxSteps:=300000) (disch:=omega) [↓if_neg]) hll (fun q hq=>by have:=(oM hfl hm q hq).1;omega) (N+1+1+1+1) (0,w,z) (Nat.le_refl _) ⟨rfl,hw,hz,by simpa using hrow⟩
    rcases hb with ⟨⟨m2,w2,z2⟩,M,e1,⟨e2,e3,e4,e5⟩,e6,e7⟩ | ⟨z,_⟩
    ·rw[List.drop_eq_nil_of_le (Nat.le_refl _)]at e5
     obtain⟨e8,e9⟩:=Xj e5
     simp only at e2 e3 e4 e8
     subst e8
     obtain⟨M2,w3,z3,f⟩:=ih s (i+1) M w2 z2 (aL hd) (aL hd2) (fun q hq=>hf q (.tail _ hq)) (fun q hq=>hl q (.tail _ hq)) e3 e4 hr (by omega)
     refine⟨M2,w3,z3,?_⟩
     have c1:((i+1:Nat):Int)=(i:Int)+1:=rfl
     have c0:((0:Nat):Int)=0:=rfl
     rw[c1]at f
     simp only[hpK,c0]at e7
     obtain⟨n0,n1,n2,n3⟩:N≠0∧N≠1∧N≠2∧N≠3:=by omega
     have e10:m2=t.length:=by omega
     rw[e10]at e7
     rw[aa jG.eq_1,←f]
     simp (maxSteps:=300000) (disch:=omega) [↓if_pos,↓if_neg,hg,hgt,cu,In,n0,n1,n2,n3,rd,e7]
    ·exact nomatch z
theorem Yw (gain m:Int) (g:List (List aA)) (t:List (List Int)) (hgn:0≤gain∧gain≤255) (hl:g.length≤8) (hm:0≤m∧m≤40) (hf:cG m g) (hf2:∀ l∈g,l.length≤1000) (ht:sm gain g t) (ht2:∀ l∈t,l.length≤100000) :
  aW prog tW [.d (.int .i64 gain),.d (.lst (da g)),.d (.lst (eZ t))]=some (.d (.int .i64 0)):=by
 have h1:=acb gain m g hgn hl hm fun l h=>⟨hf l h,hf2 l h⟩
 have hlen:=xF ht
 obtain⟨M,w,z,e⟩:=R9 t (by omega) ht2 g (by omega) m (by omega) g t 0 4 gain (-1) rfl rfl hf hf2 (by omega) (by omega) ht (Nat.le_refl _)
 have c0:((0:Nat):Int)=0:=rfl
 rw[c0]at e
 simp only[ahP]at e
 rw[au Vl ua.eq_1 rfl]
 simp (maxSteps:=300000) (disch:=omega) [↓if_pos,↓if_neg,h1,e]
end Go.Vm
namespace Go.Vm
set_option maxHeartbeats 2000000
set_option maxRecDepth 100000
def oQ (xs:List (List Nat)):List (List D):=xs.map fun l=>[.lst (ah l)]
@[simp] theorem alc {t:List (List Nat)}:(oQ t).length=t.length:=by simp[oQ]
theorem Fh {g:List (List Nat)}{i:Nat}{l:List Nat}{r:List (List Nat)}(h:g.drop i=l::r):(oQ g)[i]?=some [.lst (ah l)]:=by
 have:=congrArg (fun l=>l[0]?) h
 simp only[List.getElem?_drop,List.getElem?_cons_zero,Nat.add_zero]at this
 rw[oQ,List.getElem?_map,this];rfl
theorem dJ {l:List Nat}:(ah l).length=l.length:=by simp[ah]
theorem acv (xs:List (List Nat)) (hx:xs.length≤1000) (h:ac) (N:Nat):∀ (r:List (List Nat)) (i:Nat) (n:Nat),xs.drop i=r→n+r.flatten.length≤1000000000→
  (Dn prog).code (.loop eE) ⟨[(0,.d (.lst (oQ xs))),(3,.d (.int .i64 n)),(9,.d (.lst (oQ xs))),(10,.d (.int .i64 xs.length)),(11,.d (.int .i64 i))],⟨h,N⟩⟩ =
  some (.exit 0,⟨[(0,.d (.lst (oQ xs))),(3,.d (.int .i64 (n+r.flatten.length:Nat)))],⟨h,N⟩⟩):=by
 intro r
 induction r with
 | nil =>
  intro i n hd hn
  have hi:=aH hd
  rw[aa eE.eq_1]
  simp (maxSteps:=300000) (disch:=omega) [↓if_neg]
 | cons l r ih =>
  intro i n hd hn
  have hg:=Fh hd
  have hlt:=aQ hd
  simp only[List.flatten_cons,List.length_append]at hn⊢
  have h5:=ih (i+1) (n+l.length) (aL hd) (by omega)
  have c1:((i+1:Nat):Int)=(i:Int)+1:=rfl
  have c2:((n+l.length:Nat):Int)=(n:Int)+l.length:=rfl
  rw[c1,c2,Nat.add_assoc]at h5
  rw[aa eE.eq_1,←h5]
  simp (maxSteps:=300000) (disch:=omega) [↓if_pos,↓if_neg,hg,dJ]
theorem acq (xs:List (List Nat)) (hx:xs.length≤1000) (h:ac) (N:Nat):∀ (r:List (List Nat)) (i:Nat) (acc:List Nat),xs.drop i=r→acc.length+r.flatten.length≤1000000000→
  (Dn prog).code (.loop dr) ⟨[(6,.own false 1 (ah acc)),(25,.d (.lst (oQ xs))),(26,.d (.int .i64 xs.length)),(27,.d (.int .i64 i))],⟨h,N⟩⟩ =
  some (.exit 2,⟨[(6,.own false 1 (ah (acc++r.flatten)))],⟨h,N⟩⟩):=by
 intro r
 induction r with
 | nil =>
  intro i acc hd hn
  have hi:=aH hd
  rw[aa dr.eq_1]
  simp (maxSteps:=300000) (disch:=omega) [↓if_neg]
 | cons l r ih =>
  intro i acc hd hn
  have hg:=Fh hd
  have hlt:=aQ hd
  simp only[List.flatten_cons,List.length_append]at hn⊢
  have h5:=ih (i+1) (acc++l) (aL hd) (by simp only[List.length_append];omega)
  have c1:((i+1:Nat):Int)=(i:Int)+1:=rfl
  rw[c1,List.append_assoc]at h5
  rw[aa dr.eq_1,←h5]
  simp (maxSteps:=300000) (disch:=omega) [↓if_pos,↓if_neg,hg,dJ]
theorem ag5 (n:Nat) (hn:0<n∧n≤1000000000):(Dn prog).call kl [.nl,.d (.int .i64 n)] ⟨[],0⟩=some (.sl 0 0 0,⟨[(0,.arr 1 (List.replicate n [.int .u8 0]))],1⟩):=by
 have e1:bO (.d (.int .i64 n)) aD=some n:=by rw[F8 (by omega) (by simp only[aD];omega)];simp
 have e2:OJ [.int .u8 0] [] .nl (.d (.int .i64 n))=some (.own true 1 (List.replicate n [.int .u8 0]),[]):=by
  unfold OJ
  rw[e1]
  obtain⟨m,rfl⟩:∃ m,n=m+1:=⟨n-1,by omega⟩
  simp (maxSteps:=300000) (disch:=omega) [List.replicate_succ,↓if_pos]
 have e0:bO (.d (.int .i64 0)) n=some 0:=F8 (by omega) (by omega)
 have e3:lg [] 1 .nl none (some (.int .i64 0)) none=some .nl:=rfl
 have e4:lg [(0,.arr 1 (List.replicate n [D.int .u8 0]))] 1 (.sl 0 0 n) none (some (.int .i64 0)) none=some (.sl 0 0 0):=by
  simp[lg,okSl,j8,lenOf,o8,e0,jK]
 rw[aJ CR kp.eq_1 rfl]
 simp (maxSteps:=300000) (disch:=omega) [↓if_pos,↓if_neg,aaJ,e2,e3,e4]
theorem W4 (xs:List (List Nat)) (hx:xs.length≤1000) (hn:0<xs.flatten.length∧xs.flatten.length≤1000000000):aW prog ed [.d (.lst (oQ xs))]=some (.own true 1 (ah xs.flatten)):=by
 have h0:=acv xs hx [] 0 xs 0 0 rfl (by omega)
 have h2:=ag5 xs.flatten.length hn
 have c0:((0:Nat):Int)=0:=rfl
 rw[Nat.zero_add,c0]at h0
 have hne:xs≠[]:=by intro h;subst h;simp at hn
 obtain⟨l,r,e⟩:=List.exists_cons_of_ne_nil hne
 have h1:=acq xs hx [] 1 r 1 l (by rw[e];rfl) (by rw[e]at hn;simpa using hn.2)
 have hg:=Fh (g:=xs) (i:=0) (l:=l) (r:=r) (by rw[e];rfl)
 have hlt:0<xs.length:=List.length_pos_iff.2 hne
 have e5:l++r.flatten=xs.flatten:=by rw[e];rfl
 rw[e5]at h1
 have hll:l.length≤1000000000:=by rw[←e5,List.length_append]at hn;omega
 clear e5 e
 generalize xs.flatten=F at *
 have c1:((1:Nat):Int)=1:=rfl
 rw[c1]at h1
 rw[au zO jq.eq_1 rfl]
 simp (maxSteps:=300000) (disch:=omega) [↓if_pos,↓if_neg,h0,h2]
 rw[aa dr.eq_1]
 simp (maxSteps:=300000) (disch:=omega) [↓if_pos,↓if_neg,hg,dJ,h1]
def bt (n:Nat):Nat:=if n=0 then 0 else n.log2+1
theorem SI {n:Nat}:n<2 ^ bt n:=by
 unfold bt
 by_cases h:n=0
 ·subst h;decide
 ·rw[if_neg h];exact(Nat.log2_lt h).1 (Nat.lt_succ_self _)
theorem sB {n:Nat}(h:n≠0):2 ^ (bt n-1)≤n:=by
 unfold bt
 rw[if_neg h,Nat.add_sub_cancel]
 exact(Nat.le_log2 h).1 (Nat.le_refl _)
theorem acR {n k:Nat}(h1:2 ^ k≤n) (h2:n<2 ^ (k+1)):bt n=k+1:=by
 have h0:n≠0:=by have:=Nat.two_pow_pos k;omega
 unfold bt
 rw[if_neg h0]
 have a:=(Nat.le_log2 h0).2 h1
 have b:=(Nat.log2_lt h0).2 h2
 omega
theorem adX {n:Nat}(h:256≤n):bt n=8+bt (n / 256):=by
 have h0:n / 256≠0:=by omega
 obtain⟨k,hk⟩:∃ k,bt (n / 256)=k+1:=⟨bt (n / 256)-1,by unfold bt;rw[if_neg h0];omega⟩
 have a:=SI (n:=n / 256)
 have b:=sB h0
 rw[hk]at a b⊢
 rw[Nat.add_sub_cancel]at b
 rw[acR (k:=k+8)]
 ·omega
 ·rw[Nat.pow_add];omega
 ·rw[show k+8+1=k+1+8 by omega,Nat.pow_add];omega
def Qd:List UInt8:=[0,1,2,2,3,3,3,3,4,4,4,4,4,4,4,4,5,5,5,5,5,5,5,5,5,5,5,5,5,5,5,5,6,6,6,6,6,6,6,6,6,6,6,6,6,6,6,6,6,6,6,6,6,6,6,6,6,6,6,6,6,6,6,6,7,7,7,7,7,7,7,7,7,7,7,7,7,7,7,7,7,7,7,7,7,7,7,7,7,7,7,7,7,7,7,7,7,7,7,7,7,7,7,7,7,7,7,7,7,7,7,7,7,7,7,7,7,7,7,7,7,7,7,7,7,7,7,7,8,8,8,8,8,8,8,8,8,8,8,8,8,8,8,8,8,8,8,8,8,8,8,8,8,8,8,8,8,8,8,8,8,8,8,8,8,8,8,8,8,8,8,8,8,8,8,8,8,8,8,8,8,8,8,8,8,8,8,8,8,8,8,8,8,8,8,8,8,8,8,8,8,8,8,8,8,8,8,8,8,8,8,8,8,8,8,8,8,8,8,8,8,8,8,8,8,8,8,8,8,8,8,8,8,8,8,8,8,8,8,8,8,8,8,8,8,8,8,8,8,8,8,8,8,8,8,8]
theorem afd:∀ n,n<256→(Qd[n]?).map UInt8.toNat=some (bt n):=by decide +kernel
theorem ZV {n:Nat}(h:n<256):aaF (.d (.str Qd)) (.d (.int .u8 n))=some (.int .u8 (bt n)):=by
 have:=afd n h
 show (match Qd[n]? with | some b=>some (D.int .u8 (.ofNat b.toNat)) | none=>none)=_
 cases hx:Qd[n]? with
 | none=>rw[hx]at this;exact absurd this (by simp)
 | some b =>
  rw[hx]at this
  injection this with this
  show some (D.int .u8 ((b.toNat:Nat):Int))=_
  rw[this]
theorem alS {n:Nat}:aV .shr (.d (.int .u64 (n:Int))) (.d (.int .u64 8))=some (.int .u64 ((n / 256:Nat):Int)):=by
 rw[fJ (by omega)]
 have:min ((8:Int)).toNat IntKind.u64.bits=8:=rfl
 rw[this,Int.fdiv_eq_ediv_of_nonneg _ (Int.natCast_nonneg _),←Int.natCast_ediv]
theorem WO (n:Nat) (hn:n<65536):aW prog kI [.d (.int .u64 n)]=some (.d (.int .i64 (bt n))):=by
 have h64:aW prog mu [.d (.int .u64 n)]=some (.d (.int .i64 (bt n))):=by
  rw[au HW mo.eq_1 rfl]
  by_cases h:256≤n
  ·have h2:=ZV (n:=n / 256) (by omega)
   have h3:=adX h
   have h4:bt (n / 256)≤8:=by
    have a:=sB (n:=n / 256) (by omega)
    rcases Nat.lt_or_ge 8 (bt (n / 256)) with h | h
    ·have:2 ^ 8≤2 ^ (bt (n / 256)-1):=Nat.pow_le_pow_right (by omega) (by omega)
     omega
    ·exact h
   have c1:((n / 256:Nat):Int)=(n:Int) / 256:=by omega
   rw[Qd,c1]at h2
   rw[h3]
   simp (maxSteps:=300000) (disch:=omega) [↓if_pos,↓if_neg,-fJ,alS,h2]
  ·have h2:=ZV (n:=n) (by omega)
   have h4:bt n≤8:=by
    by_cases h0:n=0
    ·subst h0;decide
    ·have a:=sB (n:=n) h0
     rcases Nat.lt_or_ge 8 (bt n) with h | h
     ·have:2 ^ 8≤2 ^ (bt n-1):=Nat.pow_le_pow_right (by omega) (by omega)
      omega
     ·exact h
   rw[Qd]at h2
   simp (maxSteps:=300000) (disch:=omega) [↓if_pos,↓if_neg,-fJ,h2]
 rw[au NZ pS.eq_1 rfl]
 simp (maxSteps:=300000) (disch:=omega) [↓if_pos,↓if_neg,h64,aas]
end Go.Vm
namespace Go.Vm
set_option maxHeartbeats 2000000
set_option maxRecDepth 100000
def mp (low:Int) (w:Nat):List Int→Nat→Nat
 | [],n=>n
 | v::r,n=>mp low w r (n*w+(v-low).toNat)
abbrev WB (id:Nat) (vs:List Int):Prop:=vs.length=dE id∧∀ v∈vs,bI id≤v∧v<bI id+be id
theorem Aw {low:Int}{w:Nat}:∀ {r:List Int}{n j:Nat},(∀ v∈r,low≤v∧v<low+w)→n<w ^ j→mp low w r n<w ^ (j+r.length)
 | [],n,j,_,h=>h
 | v::r,n,j,hr,h=>by
  have h1:=hr v (.head _)
  have h2:n*w+(v-low).toNat<w ^ (j+1):=by
   rw[Nat.pow_succ]
   have:(n+1)*w≤w ^ j*w:=Nat.mul_le_mul_right _ h
   rw[Nat.add_mul]at this
   omega
  have:=Aw (r:=r) (fun q hq=>hr q (.tail _ hq)) h2
  rw[mp,List.length_cons,show j+(r.length+1)=j+1+r.length by omega]
  exact this
theorem Ux (id:Nat) (hid:jT id) (vs:List Int) (hl:vs.length=dE id) (N:Nat):∀ (r:List Int) (i n:Nat),vs.drop i=r→(∀ v∈r,bI id≤v∧v<bI id+be id)→n<be id ^ i→
  (Dn prog).code (.loop kE) ⟨[(6,.ptr 0 0),(8,.d (.int .i64 n)),(26,.d (.lst (aP vs))),(27,.d (.int .i64 vs.length)),(28,.d (.int .i64 i))],⟨[(0,.cells [.d (.int .i64 (dE id)),.d (.int .i64 (bI id)),.d (.int .i64 (bI id+be id-1)),.d (.int .i64 (bw id))])],N⟩⟩ =
  some (.exit 1,⟨[(8,.d (.int .i64 (mp (bI id) (be id) r n)))],⟨[],N⟩⟩):=by
 obtain⟨k1,k2,k3,k4,k5,k6,k7⟩:=uD id (iV hid)
 have hmany:ay id=be id ^ dE id:=rfl
 intro r
 induction r with
 | nil =>
  intro i n hd hr hn
  have hi:=aH hd
  rw[aa kE.eq_1,mp]
  simp (maxSteps:=300000) (disch:=omega) [↓if_neg]
 | cons v r ih =>
  intro i n hd hr hn
  have hv:=hr v (.head _)
  have hg:=oc hd
  have hlt:=aQ hd
  have hw:=ab6 (dE id) (bI id) (bw id) (be id) (by omega) (by omega)
  have h2:n*be id+(v-bI id).toNat<be id ^ (i+1):=by
   rw[Nat.pow_succ]
   have:(n+1)*be id≤be id ^ i*be id:=Nat.mul_le_mul_right _ hn
   rw[Nat.add_mul]at this
   omega
  have h3:be id ^ (i+1)≤be id ^ dE id:=Nat.pow_le_pow_right (by omega) (by omega)
  have h5:=ih (i+1) (n*be id+(v-bI id).toNat) (aL hd) (fun q hq=>hr q (.tail _ hq)) h2
  have c1:((i+1:Nat):Int)=(i:Int)+1:=rfl
  have h4:n*be id≤300:=by omega
  have c2:((n*be id+(v-bI id).toNat:Nat):Int)=(n:Int)*be id+v-bI id:=by
   have:(((v-bI id).toNat:Nat):Int)=v-bI id:=by omega
   rw[Int.natCast_add,Int.natCast_mul,this];omega
  have h6:0≤(n:Int)*be id∧(n:Int)*be id≤300:=by
   have:(n:Int)*be id=((n*be id:Nat):Int):=by rw[Int.natCast_mul]
   omega
  rw[c1,c2]at h5
  rw[aa kE.eq_1,mp,←h5]
  simp (maxSteps:=300000) (disch:=omega) [↓if_pos,↓if_neg,hg,hw]
theorem N8 (id:Nat) (hid:jT id) (vs:List Int) (hv:WB id vs):aW prog kP [.d (.int .i64 id),.d (.lst (aP vs))]=some (.tup [.d (.int .i64 (mp (bI id) (be id) vs 0)),.d (.int .i64 0)]):=by
 have ho:=IT id (iV hid)
 have h:=Ux id hid vs hv.1 1 vs 0 0 rfl hv.2 (by rw[Nat.pow_zero];omega)
 have c0:((0:Nat):Int)=0:=rfl
 have hl:=hv.1
 obtain⟨k1,k2,k3,k4,k5,k6,k7⟩:=uD id (iV hid)
 simp only[Xv]at ho
 rw[c0]at h
 rw[au VT wt.eq_1 rfl]
 simp (maxSteps:=300000) (disch:=omega) [↓if_pos,↓if_neg,ho,h]
theorem J2:∀ id∈ji,(ca id).all (fun e=>decide (e<ay id))=true∧(ca id).length=ay id∧bw id≤2:=by decide +kernel
theorem Zo {id e:Nat}(h:jT id) (he:e<ay id):nth (ca id) e<ay id:=by
 obtain⟨h1,h2,_⟩:=J2 id (iV h)
 have:=List.all_eq_true.1 h1 _ (lI (l:=ca id) (i:=e) (by omega))
 simpa using this
def iq (id e:Nat):List Nat:=al (nth (ca id) e / 2 ^ bw id+1) (2*bt (nth (ca id) e / 2 ^ bw id+1)-1)++al (nth (ca id) e % 2 ^ bw id) (bw id)
theorem ah3 {n k P:Nat}(hP:2 ^ k=P) (hk:k≤62) (h:n<9223372036854775808):aV .and (.d (.int .i64 (n:Int))) (.d (.int .i64 ((P:Int)-1)))=some (.int .i64 ((n % P:Nat):Int)):=by
 have h1:2 ^ k≤2 ^ 62:=Nat.pow_le_pow_right (by omega) hk
 have h2:=Nat.two_pow_pos k
 have:=acn (k:=.i64) (a:=n) (b:=2 ^ k-1) (by simpa [pq,IntKind.signed] using h) (by simp[pq,IntKind.signed];omega)
 rw[Nat.and_two_pow_sub_one_eq_mod]at this
 subst hP
 have c:((2 ^ k-1:Nat):Int)=((2 ^ k:Nat):Int)-1:=by omega
 rw[c]at this
 exact this
theorem Tm (id e:Nat) (hid:jT id) (he:e<ay id):aW prog j7 [sT id,.d (.int .i64 e)]=some (.tup [.own true 1 (ah (iq id e)),.d (.int .i64 0)]):=by
 have hr:=abt id hid
 obtain⟨h1,h2,h3⟩:=J2 id (iV hid)
 have hm:ay id≤300:=by have:=uD id (iV hid);omega
 have hrk:=Zo hid he
 have hg:(bm (ca id))[e]?=some [.int .i64 (nth (ca id) e:Nat)]:=BZ (by omega)
 unfold iq
 simp only[sT]at hr⊢
 generalize nth (ca id) e=r at *
 have q1:=adZ (n:=r) (k:=bw id) (by omega)
 have q2:=VQ (m:=bw id) (by omega)
 have hP:1≤2 ^ bw id∧2 ^ bw id≤2 ^ 2:=⟨Nat.two_pow_pos _,Nat.pow_le_pow_right (by omega) h3⟩
 have hmod:r % 2 ^ bw id<2 ^ bw id:=Nat.mod_lt _ hP.1
 have q3:=ah3 (n:=r) (k:=bw id) rfl (by omega) (by omega)
 have hdv:r / 2 ^ bw id≤r:=Nat.div_le_self _ _
 have hr3:r<300:=by omega
 generalize hPP:2 ^ bw id=PP at *
 generalize r / PP=RQ at *
 generalize r % PP=RM at *
 have q4:=WO (RQ+1) (by omega)
 have hL1:=SI (n:=RQ+1)
 have hL2:=sB (n:=RQ+1) (by omega)
 have hL9:bt (RQ+1)≤9:=by
  rcases Nat.lt_or_ge 9 (bt (RQ+1)) with h | h
  ·have:2 ^ 9≤2 ^ (bt (RQ+1)-1):=Nat.pow_le_pow_right (by omega) (by omega)
   omega
  ·exact h
 have hL0:1≤bt (RQ+1):=by unfold bt;rw[if_neg (by omega)];omega
 have hpw:2 ^ bt (RQ+1)≤2 ^ (2*bt (RQ+1)-1):=Nat.pow_le_pow_right (by omega) (by omega)
 have p1:=il [] ((RQ+1:Nat):Int) ((2*bt (RQ+1)-1:Nat):Int) (by simp) (by omega) .nl (.inr ⟨rfl,rfl⟩)
 have ho1:io ((RQ+1:Nat):Int) ((2*bt (RQ+1)-1:Nat):Int):=by
  simp only[io,Int.toNat_natCast]
  generalize 2 ^ (2*bt (RQ+1)-1)=Z at *
  omega
 rw[if_pos ho1]at p1
 have p2:=fun b (hb:b.length≤900000000)=>il b (RM:Int) ((bw id:Nat):Int) hb (by omega) _ (.inl rfl)
 have ho2:io (RM:Int) ((bw id:Nat):Int):=by simp only[io,Int.toNat_natCast,hPP];omega
 simp only[if_pos ho2]at p2
 simp only[Int.toNat_natCast,List.nil_append]at p1 p2
 have p3:=p2 (al (RQ+1) (2*bt (RQ+1)-1)) (by simp;omega)
 have c1:((2*bt (RQ+1)-1:Nat):Int)=2*(bt (RQ+1):Int)-1:=by omega
 have c2:((RQ+1:Nat):Int)=(RQ:Int)+1:=rfl
 rw[c1,c2]at p1
 rw[c2]at q4
 clear p2 hL1 hL2 hpw ho1 ho2
 generalize al (RQ+1) (2*bt (RQ+1)-1)++al RM (bw id)=RES at *
 generalize al (RQ+1) (2*bt (RQ+1)-1)=RE1 at *
 generalize bt (RQ+1)=LN at *
 generalize bw id=pl at *
 generalize bh id=es at *
 rw[au Yq yK.eq_1 rfl]
 simp (maxSteps:=300000) (disch:=omega) [↓if_pos,↓if_neg,hr,hg,-fJ,-zg,q1,q2,q3,q4,p1,p3]
end Go.Vm
namespace Go.Vm
set_option maxHeartbeats 2000000
set_option maxRecDepth 100000
theorem Tc {a b:List Nat}:[[D.lst (ah a)],[D.lst (ah b)]]=oQ [a,b]:=rfl
theorem aaD {a b c d:List Nat}:[[D.lst (ah a)],[D.lst (ah b)],[D.lst (ah c)],[D.lst (ah d)]]=oQ [a,b,c,d]:=rfl
theorem oz {id e:Nat}(hid:jT id) (he:e<ay id):1≤(iq id e).length∧(iq id e).length≤20:=by
 obtain⟨h1,h2,h3⟩:=J2 id (iV hid)
 have hm:ay id≤300:=by have:=uD id (iV hid);omega
 have hrk:=Zo hid he
 have hdv:nth (ca id) e / 2 ^ bw id≤nth (ca id) e:=Nat.div_le_self _ _
 unfold iq
 rw[List.length_append,eB,eB]
 generalize nth (ca id) e / 2 ^ bw id=RQ at *
 have hL2:=sB (n:=RQ+1) (by omega)
 have hL9:bt (RQ+1)≤9:=by
  rcases Nat.lt_or_ge 9 (bt (RQ+1)) with h | h
  ·have:2 ^ 9≤2 ^ (bt (RQ+1)-1):=Nat.pow_le_pow_right (by omega) (by omega)
   omega
  ·exact h
 have hL0:1≤bt (RQ+1):=by unfold bt;rw[if_neg (by omega)];omega
 omega
theorem Ti (b:List Nat) (hb:b.length≤900000000) (x:AV) (hx:x=.d (.lst (ah b))∨x=.nl∧b=[]) (d:Int) (hd:-60≤d∧d≤60):aW prog j4 [x,.d (.int .i64 d)]=some (.tup [.own true 1 (ah (b++iq 12 (d+60).toNat)),.d (.int .i64 0)]):=by
 obtain⟨E,rfl⟩:∃ E:Nat,d=(E:Int)-60:=⟨(d+60).toNat,by omega⟩
 have hok:jT 12:=by omega
 have he:((E:Int)-60+60).toNat<ay 12:=by show _<121;omega
 have hE:=N8 12 hok [(E:Int)-60] ⟨rfl,fun v hv=>by
  rw[List.mem_singleton]at hv
  show -60≤v∧v < -60+((121:Nat):Int)
  omega⟩
 have e1:mp (bI 12) (be 12) [(E:Int)-60] 0=((E:Int)-60+60).toNat:=by
  show 0*121+((E:Int)-60-(-60)).toNat=_
  omega
 have e2:((E:Int)-60+60).toNat=E:=by omega
 rw[e2]at e1 he⊢
 rw[e1]at hE
 have hG:=Wy 12 hok
 have hC:=Tm 12 E hok he
 have hcl:=oz hok he
 have hcat:=W4 [b,iq 12 E] (by simp) (by simp;omega)
 have c12:((12:Nat):Int)=12:=rfl
 have i1:aP [(E:Int)-60]=[[.int .i64 ((E:Int)-60)]]:=rfl
 simp only[MM,sT,c12,i1,List.flatten_cons,List.flatten_nil,List.append_nil]at hE hG hC hcat
 rw[←Tc]at hcat
 generalize iq 12 E=CB at *
 generalize bh 12=es at *
 generalize ca 12=rs at *
 generalize bw 12=pl at *
 rw[au Y0 yZ.eq_1 rfl]
 rcases hx with rfl | ⟨rfl,rfl⟩
 ·simp (maxSteps:=300000) (disch:=omega) [↓if_pos,↓if_neg,hE,hG,hC,hcat]
 ·have n0:ah []=[]:=rfl
  rw[n0]at hcat
  simp (maxSteps:=300000) (disch:=omega) [↓if_pos,↓if_neg,hE,hG,hC,hcat]
theorem Jy (F:AV) (P:Int→Bool) (l:List Int) (hl:l.length≤1000000000) (h:ac) (N:Nat) (hF:firm (share F)=F) (hc:∀ v∈l,aM (Dn prog) F [.d (.int .i64 v)] ⟨h,N⟩=some (.d (.bool (P v)),⟨h,N⟩)):∀ (r:List Int) (i:Nat),l.drop i=r→
  (r.any P=true∧∃ k:Nat,(Dn prog).code (.loop bH) ⟨[(0,.d (.lst (aP l))),(1,F),(7,.d (.int .i64 l.length)),(8,.d (.int .i64 i))],⟨h,N⟩⟩=some (.ret,⟨[(4,.d (.int .i64 k))],⟨h,N⟩⟩))∨
  (r.any P=false∧(Dn prog).code (.loop bH) ⟨[(0,.d (.lst (aP l))),(1,F),(7,.d (.int .i64 l.length)),(8,.d (.int .i64 i))],⟨h,N⟩⟩=some (.exit 0,⟨[],⟨h,N⟩⟩)):=by
 intro r
 induction r with
 | nil =>
  intro i hd
  have hi:=aH hd
  refine .inr ⟨rfl,?_⟩
  rw[aa bH.eq_1]
  simp (maxSteps:=300000) (disch:=omega) [↓if_neg]
 | cons v r ih =>
  intro i hd
  have hg:=oc hd
  have hlt:=aQ hd
  have hv:=hc v (by rw[←List.take_append_drop i l,hd];simp)
  have h5:=ih (i+1) (aL hd)
  have c1:((i+1:Nat):Int)=(i:Int)+1:=rfl
  rw[c1]at h5
  cases hp:P v with
  | true =>
   rw[hp]at hv
   refine .inl ⟨by rw[List.any_cons,hp];rfl,i,?_⟩
   rw[aa bH.eq_1]
   simp (maxSteps:=300000) (disch:=omega) [↓if_pos,↓if_neg,hg,hF,hv]
  | false =>
   rw[hp]at hv
   rw[List.any_cons,hp,Bool.false_or]
   rcases h5 with ⟨e1,k,e2⟩ | ⟨e1,e2⟩
   ·refine .inl ⟨e1,k,?_⟩
    rw[aa bH.eq_1,←e2]
    simp (maxSteps:=300000) (disch:=omega) [↓if_pos,↓if_neg,hg,hF,hv]
   ·refine .inr ⟨e1,?_⟩
    rw[aa bH.eq_1,←e2]
    simp (maxSteps:=300000) (disch:=omega) [↓if_pos,↓if_neg,hg,hF,hv]
theorem nF (F:AV) (P:Int→Bool) (l:List Int) (hl:l.length≤1000000000) (h:ac) (N:Nat) (hF:firm (share F)=F) (hF2:firm F=F) (hc:∀ v∈l,aM (Dn prog) F [.d (.int .i64 v)] ⟨h,N⟩=some (.d (.bool (P v)),⟨h,N⟩)) :
  (Dn prog).call b6 [.d (.lst (aP l)),F] ⟨h,N⟩=some (.d (.bool (l.any P)),⟨h,N⟩):=by
 have h1:=Jy F P l hl h N hF hc l 0 rfl
 have c0:((0:Nat):Int)=0:=rfl
 rw[c0]at h1
 have h2:∃ k:Int,(0≤k↔l.any P=true)∧(Dn prog).call iw [.d (.lst (aP l)),F] ⟨h,N⟩=some (.d (.int .i64 k),⟨h,N⟩):=by
  rcases h1 with ⟨e1,k,e2⟩ | ⟨e1,e2⟩
  ·refine⟨k,⟨fun _=>e1,fun _=>by omega⟩,?_⟩
   rw[aJ ml eY.eq_1 rfl]
   simp (maxSteps:=300000) (disch:=omega) [e2]
  ·refine⟨-1,⟨fun h=>by omega,fun h=>by rw[e1]at h;exact absurd h (by simp)⟩,?_⟩
   rw[aJ ml eY.eq_1 rfl]
   simp (maxSteps:=300000) (disch:=omega) [e2]
 obtain⟨k,e1,e2⟩:=h2
 rw[aJ tJ gb.eq_1 rfl]
 cases hp:l.any P with
 | true =>
  have:=e1.2 hp
  simp (maxSteps:=300000) (disch:=omega) [↓if_pos,hF2,e2]
 | false =>
  have:¬ 0≤k:=fun h=>by rw[e1.1 h]at hp;exact absurd hp (by simp)
  simp (maxSteps:=300000) (disch:=omega) [↓if_neg,hF2,e2]
def dT (id:Nat):Nat:=[0,1,1,2,2,4,4,7,7,12,12,8191,0].getD id 0
abbrev afO:List AV:=[.d (.int .i64 0),.d (.int .i64 1),.d (.int .i64 1),.d (.int .i64 2),.d (.int .i64 2),.d (.int .i64 4),.d (.int .i64 4),.d (.int .i64 7),.d (.int .i64 7),.d (.int .i64 12),.d (.int .i64 12),.d (.int .i64 8191),.d (.int .i64 0)]
theorem Uu:aW prog xu []=some (.agg afO):=z6 100 (by kernel_rfl)
theorem agO {id:Nat}(h:id≤12):Zt 13 1 false (.agg afO) (.d (.int .i64 id))=some (.d (.int .i64 (dT id))):=by
 obtain rfl | rfl | rfl | rfl | rfl | rfl | rfl | rfl | rfl | rfl | rfl | rfl | rfl:id=0∨id=1∨id=2∨id=3∨id=4∨id=5∨id=6∨id=7∨id=8∨id=9∨id=10∨id=11∨id=12:=by omega
 all_goals rfl
def aZ (id:Nat):Nat:=if id<5 then 4 else 2
theorem afj (id:Nat):aW prog Ca [.d (.int .i64 id)]=some (.d (.int .i64 (aZ id))):=by
 rw[au aa5 AG.eq_1 rfl]
 unfold aZ
 by_cases h:id<5
 ·simp (maxSteps:=300000) (disch:=omega) [↓if_pos]
 ·simp (maxSteps:=300000) (disch:=omega) [↓if_neg]
def ze (m:Nat) (v:Int):Bool:=decide ((m:Int)<v∨v < -(m:Int))
theorem aiq (m:Nat) (hm:m≤100000) (v:Int) (N:Nat):(Dn prog).call na [.d (.int .i64 v),.ptr 0 0] ⟨[(0,.cells [.d (.int .i64 m)])],N⟩=some (.d (.bool (ze m v)),⟨[(0,.cells [.d (.int .i64 m)])],N⟩):=by
 rw[aJ U1 ud.eq_1 rfl]
 unfold ze
 by_cases h1:(m:Int)<v
 ·simp (maxSteps:=300000) (disch:=omega) [↓if_pos,h1]
 ·by_cases h2:v < -(m:Int)
  ·simp (maxSteps:=300000) (disch:=omega) [↓if_pos,↓if_neg,h1,h2]
  ·simp (maxSteps:=300000) (disch:=omega) [↓if_pos,↓if_neg,h1,h2]
theorem D8 (id:Nat) (hid:1≤id∧id≤11) (vs:List Int) (hv:vs.length=aZ id):aW prog sJ [.d (.int .i64 id),.d (.lst (aP vs))]=some (.tup [.d (.bool (!(vs.any (ze (dT id))))),.d (.int .i64 0)]):=by
 have hm:dT id≤100000:=by
  obtain rfl | rfl | rfl | rfl | rfl | rfl | rfl | rfl | rfl | rfl | rfl:id=1∨id=2∨id=3∨id=4∨id=5∨id=6∨id=7∨id=8∨id=9∨id=10∨id=11:=by omega
  all_goals decide
 have hd4:aZ id≤4:=by unfold aZ;split<;>omega
 have h1:=nF (.fn na [] [.ptr 0 0]) (ze (dT id)) vs (by omega) [(0,.cells [.d (.int .i64 (dT id))])] 1 rfl rfl fun v _=>by
  simp (maxSteps:=300000) (disch:=omega) [aiq (dT id) hm v 1]
 have h2:=agO (id:=id) (by omega)
 have h3:=afj id
 rw[au Za xW.eq_1 rfl]
 simp (maxSteps:=300000) (disch:=omega) [↓if_pos,↓if_neg,h3,Uu,h2,h1]
end Go.Vm
namespace Go.Vm
set_option maxHeartbeats 2000000
set_option maxRecDepth 100000
def lJ (id:Nat) (v:Int):Int:=if id=11∧16≤v.natAbs then 16 else v.natAbs
def iF (v:Int):List Nat:=if v=0 then [] else if v<0 then [1] else [0]
def qU (id:Nat) (v:Int):List Nat:=if id=11∧16≤v.natAbs then List.replicate (bt v.natAbs-5) 1++(0::al (v.natAbs % 2 ^ (bt v.natAbs-1)) (bt v.natAbs-1)) else []
def A3 (id:Nat) (vs:List Int):List Nat:=if lY id then iq id (mp (bI id) (be id) vs 0)
 else iq id (mp (bI id) (be id) (vs.map (lJ id)) 0)++(vs.flatMap iF++vs.flatMap (qU id))
theorem ace (v:Int) (h:-100000≤v∧v≤100000):aW prog xV [.d (.int .i64 v)]=some (.d (.int .i64 v.natAbs)):=by
 rw[au Yx yP.eq_1 rfl]
 by_cases h0:v<0
 ·have:((v.natAbs:Nat):Int)=-v:=by omega
  rw[this]
  simp (maxSteps:=300000) (disch:=omega) [↓if_pos]
 ·have:((v.natAbs:Nat):Int)=v:=by omega
  rw[this]
  simp (maxSteps:=300000) (disch:=omega) [↓if_neg]
theorem afi:∀ m∈List.range 9,aW prog oB [.d (.lst [[.int .u8 1]]),.d (.int .i64 m)]=some (.own true 1 (ah (List.replicate m 1))):=wj 100 (List.range 9) (by kernel_rfl)
theorem acA {m:Nat}{h:ac}{xs ys:List (List D)}(hl:xs.length+ys.length≤1000000000):∃ v,bK m h (cN m xs) ys=some (v,h)∧firm v=cN m (xs++ys):=by
 cases xs with
 | nil =>
  cases ys with
  | nil=>exact⟨.nl,rfl,rfl⟩
  | cons y r =>
   simp only[List.length_cons,List.length_nil]at hl
   exact⟨.own true m (y::r),by simp (maxSteps:=300000) (disch:=omega) [cN,↓if_pos],rfl⟩
 | cons x r =>
  simp only[List.length_cons]at hl
  exact⟨.own false m (x::r++ys),by
   simp only[TM,ZG,QR,Zx,ZE,aD]
   rw[if_pos (by omega),if_pos trivial,if_pos (by simp only[List.length_cons];omega)],rfl⟩
theorem agx {v:Int}(h:-100000≤v∧v<0):wr .u64 v=v+18446744073709551616:=by
 simp only[wr,gP]
 rw[decide_eq_false (by omega)]
 simp only[Bool.false_and]
 simp[IntKind.wrap,IntKind.bits,IntKind.signed]
 omega
theorem Yy (id:Nat) (hid:1≤id∧id≤11) (pl ents ranks:D) (x0:AV) (vs:List Int) (hl:vs.length≤4) (N:Nat):∀ (r:List Int) (i:Nat) (sz:List Int) (sg es:List Nat),vs.drop i=r→(∀ v∈r,v.natAbs≤8191)→sz.length≤100+i→sg.length≤100+i→es.length≤100+100*i→
  (Dn prog).code (.loop jW) ⟨[(0,x0),(4,.ptr 0 0),(15,cN 1 (aP sz)),(16,cN 1 (ah sg)),(17,cN 1 (ah es)),(69,.d (.lst (aP vs))),(70,.d (.int .i64 vs.length)),(71,.d (.int .i64 i))],⟨[(0,.cells [.d (.int .i64 id),.d pl,.d ents,.d ranks])],N⟩⟩ =
  some (.exit 0,⟨[(0,x0),(4,.ptr 0 0),(15,cN 1 (aP (sz++r.map (lJ id)))),(16,cN 1 (ah (sg++r.flatMap iF))),(17,cN 1 (ah (es++r.flatMap (qU id))))],⟨[(0,.cells [.d (.int .i64 id),.d pl,.d ents,.d ranks])],N⟩⟩):=by
 intro r
 induction r with
 | nil =>
  intro i sz sg es hd hr h1 h2 h3
  have hi:=aH hd
  rw[aa jW.eq_1]
  simp (maxSteps:=300000) (disch:=omega) [↓if_neg]
 | cons v r ih =>
  intro i sz sg es hd hr h1 h2 h3
  have hg:=oc hd
  have hlt:=aQ hd
  have hv:=hr v (.head _)
  have hs:=ace v (by omega)
  have c1:((i+1:Nat):Int)=(i:Int)+1:=rfl
  have hlg:=dJ (l:=sg)
  have hle:=dJ (l:=es)
  have hsz:=cu (l:=sz)
  obtain⟨n,hn⟩:∃ n,n=v.natAbs:=⟨_,rfl⟩
  rw[←hn]at hs hv
  have hvs:Pl .u64 (.d (.int .i64 v))=some (.int .u64 (wr .u64 v)):=rfl
  have hpos:0<v→aV .shr (.d (.int .u64 v)) (.d (.int .u64 63))=some (.int .u64 0):=fun h=>by
   rw[fJ (by omega)]
   have:min ((63:Int)).toNat IntKind.u64.bits=63:=rfl
   rw[this,Int.fdiv_eq_ediv_of_nonneg _ (Int.natCast_nonneg _),Int.ediv_eq_zero_of_lt (by omega) (by omega)]
  have hneg:v<0→aV .shr (.d (.int .u64 (wr .u64 v))) (.d (.int .u64 63))=some (.int .u64 1):=fun h=>by
   rw[agx (by omega),fJ (by omega)]
   have:min ((63:Int)).toNat IntKind.u64.bits=63:=rfl
   rw[this,Int.fdiv_eq_ediv_of_nonneg _ (Int.natCast_nonneg _)]
   have:(v+18446744073709551616) / ((2 ^ 63:Nat):Int)=1:=by
    have:((2 ^ 63:Nat):Int)=9223372036854775808:=rfl
    rw[this];omega
   rw[this]
  have hb1:ah sg++[[D.int .u8 1]]=ah (sg++[1]):=by simp[ah]
  have hb0:ah sg++[[D.int .u8 0]]=ah (sg++[0]):=by simp[ah]
  by_cases he:id=11∧16≤v.natAbs
  ·obtain⟨h11,h16⟩:=he
   rw[←hn]at h16
   have hL1:=SI (n:=n)
   have hL2:=sB (n:=n) (by omega)
   have hL13:bt n≤13:=by
    rcases Nat.lt_or_ge 13 (bt n) with h | h
    ·have:2 ^ 13≤2 ^ (bt n-1):=Nat.pow_le_pow_right (by omega) (by omega)
     omega
    ·exact h
   have hL5:5≤bt n:=by
    rcases Nat.lt_or_ge (bt n) 5 with h | h
    ·have:2 ^ bt n≤2 ^ 4:=Nat.pow_le_pow_right (by omega) (by omega)
     omega
    ·exact h
   obtain⟨m,hm⟩:∃ m,bt n=m+5:=⟨bt n-5,by omega⟩
   have e1:lJ id v=16:=by rw[lJ,if_pos ⟨h11,by omega⟩]
   have e2:qU id v=List.replicate m 1++(0::al (n % 2 ^ (m+4)) (m+4)):=by
    rw[qU,if_pos ⟨h11,by omega⟩,←hn,hm,show m+5-5=m by omega,show m+5-1=m+4 by omega]
   have hl2:=WO n (by omega)
   have hrp:=afi m (List.mem_range.2 (by omega))
   have hlr:(ah (List.replicate m 1)).length=m:=by simp[ah]
   obtain⟨w,hw1,hw2⟩:=acA (m:=1) (h:=[(0,.cells [.d (.int .i64 id),.d pl,.d ents,.d ranks])]) (xs:=ah es) (ys:=ah (List.replicate m 1)) (by omega)
   have hbe:ah es++ah (List.replicate m 1)=ah (es++List.replicate m 1):=Xu
   rw[hbe]at hw2
   have hlw:(ah (es++List.replicate m 1)).length=es.length+m:=by simp[ah]
   have hbw:ah (es++List.replicate m 1)++[[D.int .u8 0]]=ah (es++List.replicate m 1++[0]):=by simp[ah]
   have hp4:2 ^ (m+4)≤2 ^ 12:=Nat.pow_le_pow_right (by omega) (by omega)
   have hmod:n % 2 ^ (m+4)<2 ^ (m+4):=Nat.mod_lt _ (Nat.two_pow_pos _)
   have q2:=VQ (m:=m+4) (by omega)
   have q3:=ah3 (n:=n) (k:=m+4) rfl (by omega) (by omega)
   have p1:=il (es++List.replicate m 1++[0]) ((n % 2 ^ (m+4):Nat):Int) ((m+4:Nat):Int) (by simp;omega) (by omega) _ (.inl rfl)
   rw[if_pos (by simp only[io,Int.toNat_natCast];omega)]at p1
   simp only[Int.toNat_natCast]at p1
   have c4:((m+4:Nat):Int)=(m:Int)+4:=rfl
   have c5:((m+5:Nat):Int)=(m:Int)+5:=rfl
   rw[hm,c5]at hl2
   rw[c4]at p1 q2
   have h5:=fun s2 (h:s2.length≤101+i)=>ih (i+1) (sz++[16]) s2 (es++List.replicate m 1++[0]++al (n % 2 ^ (m+4)) (m+4)) (aL hd) (fun q hq=>hr q (.tail _ hq)) (by simp;omega) (by omega) (by simp;omega)
   generalize n % 2 ^ (m+4)=RM at *
   generalize 2 ^ (m+4)=PP at *
   have eo:cN 1 (aP (sz++[16]))=.own false 1 (aP (sz++[16])):=ka (by simp[aP])
   have eo3:cN 1 (ah (es++List.replicate m 1++[0]++al RM (m+4)))=.own false 1 (ah (es++List.replicate m 1++[0]++al RM (m+4))):=ka (by simp[ah])
   have eL:es++List.replicate m 1++[0]++al RM (m+4)++r.flatMap (qU id)=es++(List.replicate m 1++(0::al RM (m+4))++r.flatMap (qU id)):=by simp
   simp only[eo3,eL]at h5
   generalize es++List.replicate m 1++[0]++al RM (m+4)=ES at *
   generalize es++List.replicate m 1++[0]=E0 at *
   generalize es++List.replicate m 1=EM at *
   simp only[c1,eo,List.append_assoc,List.singleton_append]at h5
   rw[aa jW.eq_1,List.map_cons,List.flatMap_cons,List.flatMap_cons,e1,e2]
   have v0:v≠0:=by omega
   by_cases hvn:v<0
   ·have e3:iF v=[1]:=by rw[iF,if_neg v0,if_pos hvn]
    have eo2:cN 1 (ah (sg++[1]))=.own false 1 (ah (sg++[1])):=ka (by simp[ah])
    have h6:=h5 (sg++[1]) (by simp;omega)
    simp only[eo2,List.append_assoc,List.singleton_append]at h6
    rw[e3,List.singleton_append]
    simp only[List.append_assoc,List.cons_append]at h6⊢
    rw[←h6]
    simp (maxSteps:=300000) (disch:=omega) [↓if_pos,↓if_neg,hg,hs,-fJ,-zg,hneg hvn,hb1,hl2,hrp,hw1,hw2,hbw,q2,q3,p1]
   ·have hvp:0<v:=by omega
    have e3:iF v=[0]:=by rw[iF,if_neg v0,if_neg hvn]
    have eo2:cN 1 (ah (sg++[0]))=.own false 1 (ah (sg++[0])):=ka (by simp[ah])
    have h6:=h5 (sg++[0]) (by simp;omega)
    simp only[eo2,List.append_assoc,List.singleton_append]at h6
    rw[e3,List.singleton_append]
    simp only[List.append_assoc,List.cons_append]at h6⊢
    rw[←h6]
    simp (maxSteps:=300000) (disch:=omega) [↓if_pos,↓if_neg,hg,hs,-fJ,-zg,hpos hvp,hb0,hl2,hrp,hw1,hw2,hbw,q2,q3,p1]
  ·have e1:lJ id v=n:=by rw[lJ,if_neg he,hn]
   have e2:qU id v=[]:=by rw[qU,if_neg he]
   have h5:=fun s2 (h:s2.length≤101+i)=>ih (i+1) (sz++[(n:Int)]) s2 es (aL hd) (fun q hq=>hr q (.tail _ hq)) (by simp;omega) (by omega) (by omega)
   have eo:cN 1 (aP (sz++[(n:Int)]))=.own false 1 (aP (sz++[(n:Int)])):=ka (by simp[aP])
   simp only[c1,eo,List.append_assoc,List.singleton_append]at h5
   rw[aa jW.eq_1,List.map_cons,List.flatMap_cons,List.flatMap_cons,e1,e2,List.nil_append]
   have hen:¬ (id=11∧16≤n):=by rw[hn];exact he
   by_cases v0:v=0
   ·have e3:iF v=[]:=by rw[iF,if_pos v0]
    rw[e3,List.nil_append,←h5 sg (by omega)]
    by_cases h11:id=11
    ·simp (maxSteps:=300000) (disch:=omega) [↓if_pos,↓if_neg,hg,hs]
    ·simp (maxSteps:=300000) (disch:=omega) [↓if_pos,↓if_neg,hg,hs]
   ·by_cases hvn:v<0
    ·have e3:iF v=[1]:=by rw[iF,if_neg v0,if_pos hvn]
     have eo2:cN 1 (ah (sg++[1]))=.own false 1 (ah (sg++[1])):=ka (by simp[ah])
     have h6:=h5 (sg++[1]) (by simp;omega)
     simp only[eo2,List.append_assoc,List.singleton_append]at h6
     rw[e3,List.singleton_append,←h6]
     by_cases h11:id=11
     ·simp (maxSteps:=300000) (disch:=omega) [↓if_pos,↓if_neg,hg,hs,-fJ,hneg hvn,hb1]
     ·simp (maxSteps:=300000) (disch:=omega) [↓if_pos,↓if_neg,hg,hs,-fJ,hneg hvn,hb1]
    ·have hvp:0<v:=by omega
     have e3:iF v=[0]:=by rw[iF,if_neg v0,if_neg hvn]
     have eo2:cN 1 (ah (sg++[0]))=.own false 1 (ah (sg++[0])):=ka (by simp[ah])
     have h6:=h5 (sg++[0]) (by simp;omega)
     simp only[eo2,List.append_assoc,List.singleton_append]at h6
     rw[e3,List.singleton_append,←h6]
     by_cases h11:id=11
     ·simp (maxSteps:=300000) (disch:=omega) [↓if_pos,↓if_neg,hg,hs,-fJ,hpos hvp,hb0]
     ·simp (maxSteps:=300000) (disch:=omega) [↓if_pos,↓if_neg,hg,hs,-fJ,hpos hvp,hb0]
theorem ut:∀ id∈ji.take 11,(lY id=true→bI id=-(dT id:Int)∧be id=2*dT id+1)∧(lY id=false→bI id=0∧(id≠11→be id=dT id+1)∧(id=11→be id=17))∧dE id=aZ id∧dT id≤8191:=by decide +kernel
theorem Mo {id:Nat}(h:1≤id∧id≤11):id∈ji.take 11:=by
 show id∈[1,2,3,4,5,6,7,8,9,10,11]
 simp only[List.mem_cons,List.not_mem_nil,or_false]
 omega
abbrev R8 (id:Nat) (vs:List Int):Prop:=vs.length=aZ id∧∀ v∈vs,v.natAbs≤dT id
theorem af0 {id:Nat}{vs:List Int}(h:∀ v∈vs,v.natAbs≤dT id):vs.any (ze (dT id))=false:=by
 rw[List.any_eq_false]
 intro v hv
 have:=h v hv
 simp only[ze,decide_eq_true_eq]
 omega
theorem V2 {id:Nat}(hid:1≤id∧id≤11) {vs:List Int}(h:R8 id vs):(lY id=true→WB id vs)∧(lY id=false→WB id (vs.map (lJ id))):=by
 obtain⟨m1,m2,m3,m4⟩:=ut id (Mo hid)
 constructor
 ·intro hs
  obtain⟨a,b⟩:=m1 hs
  refine⟨by rw[h.1,m3],fun v hv=>?_⟩
  have:=h.2 v hv
  rw[a,b];omega
 ·intro hs
  obtain⟨a,b,c⟩:=m2 hs
  refine⟨by rw[List.length_map,h.1,m3],fun v hv=>?_⟩
  obtain⟨u,hu,rfl⟩:=List.mem_map.1 hv
  have:=h.2 u hu
  rw[a,lJ]
  by_cases h11:id=11
  ·rw[c h11]
   by_cases h16:16≤u.natAbs
   ·rw[if_pos ⟨h11,h16⟩];omega
   ·rw[if_neg (fun h=>h16 h.2)];omega
  ·rw[b h11,if_neg (fun h=>h11 h.1)];omega
theorem XQ {vs:List Int}:(vs.flatMap iF).length≤vs.length:=by
 induction vs with
 | nil=>simp
 | cons v r ih =>
  rw[List.flatMap_cons,List.length_append,List.length_cons]
  have:(iF v).length≤1:=by unfold iF;split<;>(try split)<;>simp
  omega
theorem agj {id:Nat}{v:Int}(h:v.natAbs≤8191):(qU id v).length≤30:=by
 unfold qU
 split
 ·have hL2:v.natAbs≠0→2 ^ (bt v.natAbs-1)≤v.natAbs:=sB
  have hL13:bt v.natAbs≤13:=by
   rcases Nat.lt_or_ge 13 (bt v.natAbs) with h | h
   ·have:2 ^ 13≤2 ^ (bt v.natAbs-1):=Nat.pow_le_pow_right (by omega) (by omega)
    omega
   ·exact h
  simp only[List.length_append,List.length_replicate,List.length_cons,eB]
  omega
 ·simp
theorem Jg {id:Nat}:∀ {vs:List Int},(∀ v∈vs,v.natAbs≤8191)→(vs.flatMap (qU id)).length≤30*vs.length
 | [],_=>by simp
 | v::r,h=>by
  have h1:=agj (id:=id) (h v (.head _))
  have h2:=Jg (id:=id) (vs:=r) fun q hq=>h q (.tail _ hq)
  rw[List.flatMap_cons,List.length_append,List.length_cons]
  omega
theorem aeV (b:List Nat) (hb:b.length≤900000000) (x:AV) (hx:x=.d (.lst (ah b))∨x=.nl∧b=[]) (id:Nat) (hid:1≤id∧id≤11) (vs:List Int) (hv:R8 id vs):aW prog uE [x,sT id,.d (.lst (aP vs))]=some (.tup [.own true 1 (ah (b++A3 id vs)),.d (.int .i64 0)]):=by
 have hok:jT id:=by omega
 have hF:=D8 id hid vs hv.1
 rw[af0 hv.2]at hF
 have hS:=WF id (Mo hid)
 obtain⟨m1,m2,m3,m4⟩:=ut id (Mo hid)
 obtain⟨f1,f2⟩:=V2 hid hv
 have hE:=N8 id hok
 have hC:=fun e he=>Tm id e hok he
 have hd4:aZ id≤4:=by unfold aZ;split<;>omega
 have hvl:=hv.1
 have hv8:∀ v∈vs,v.natAbs≤8191:=fun v h=>Nat.le_trans (hv.2 v h) m4
 simp only[sT]at hC⊢
 have hmany:ay id=be id ^ dE id:=rfl
 unfold A3
 by_cases hs:lY id=true
 ·rw[hs]at hS
  have hin:=f1 hs
  have hE:=hE vs hin
  have hlt:=Aw (n:=0) (j:=0) hin.2 (by simp)
  rw[Nat.zero_add,hin.1,←hmany]at hlt
  have hC:=hC _ hlt
  have hcl:=oz hok hlt
  have hcat:=W4 [b,iq id (mp (bI id) (be id) vs 0)] (by simp) (by simp;omega)
  simp only[List.flatten_cons,List.flatten_nil,List.append_nil]at hcat
  rw[←Tc]at hcat
  rw[if_pos hs]
  generalize iq id (mp (bI id) (be id) vs 0)=CB at *
  generalize mp (bI id) (be id) vs 0=EN at *
  generalize bh id=es at *
  generalize ca id=rs at *
  generalize bw id=pl at *
  rw[au Pb uS.eq_1 rfl]
  rcases hx with rfl | ⟨rfl,rfl⟩
  ·simp (maxSteps:=300000) (disch:=omega) [↓if_pos,↓if_neg,hF,hS,hE,hC,hcat]
  ·have n0:ah []=[]:=rfl
   rw[n0]at hcat
   simp (maxSteps:=300000) (disch:=omega) [↓if_pos,↓if_neg,hF,hS,hE,hC,hcat]
 ·have hs2:lY id=false:=by simpa using hs
  rw[hs2]at hS
  have hin:=f2 hs2
  have hE:=hE _ hin
  have hlt:=Aw (n:=0) (j:=0) hin.2 (by simp)
  rw[Nat.zero_add,hin.1,←hmany]at hlt
  have hC:=hC _ hlt
  have hcl:=oz hok hlt
  have hsl:=XQ (vs:=vs)
  have hel:=Jg (id:=id) hv8
  have hcat:=W4 [b,iq id (mp (bI id) (be id) (vs.map (lJ id)) 0),vs.flatMap iF,vs.flatMap (qU id)] (by simp) (by simp only[List.flatten_cons,List.flatten_nil,List.append_nil,List.length_append];omega)
  simp only[List.flatten_cons,List.flatten_nil,List.append_nil]at hcat
  rw[←aaD]at hcat
  have hl0:=fun x0=>Yy id hid (.int .i64 (bw id)) (.lst (bm (bh id))) (.lst (bm (ca id))) x0 vs (by omega) 1 vs 0 [] [] [] rfl hv8 (by simp) (by simp) (by simp)
  have c0:((0:Nat):Int)=0:=rfl
  have n0:ah []=[]:=rfl
  have n1:aP []=[]:=rfl
  have hne:aP (vs.map (lJ id))≠[]:=by
   intro h
   have:=congrArg List.length h
   simp only[aP,List.length_map,List.length_nil]at this
   unfold aZ at hvl
   split at hvl<;>omega
  simp only[n0,n1,Wl,List.nil_append,c0,ka hne]at hl0
  rw[if_neg hs]
  generalize iq id (mp (bI id) (be id) (vs.map (lJ id)) 0)=CB at *
  generalize mp (bI id) (be id) (vs.map (lJ id)) 0=EN at *
  generalize bh id=es at *
  generalize ca id=rs at *
  generalize bw id=pl at *
  generalize vs.map (lJ id)=SZ at *
  generalize vs.flatMap (qU id)=EB at *
  generalize vs.flatMap iF=SB at *
  rw[au Pb uS.eq_1 rfl]
  rcases hx with rfl | ⟨rfl,rfl⟩
  ·simp (maxSteps:=300000) (disch:=omega) [↓if_pos,↓if_neg,hF,hS,hl0,hE,hC,hcat]
  ·rw[n0]at hcat
   simp (maxSteps:=300000) (disch:=omega) [↓if_pos,↓if_neg,hF,hS,hl0,hE,hC,hcat]
end Go.Vm
namespace Go.Vm
set_option maxHeartbeats 2000000
set_option maxRecDepth 100000
def sQ (k n w z:Int):List Nat:=if k=0 then [] else if k=13 then (if z<0 then al n.toNat 9 else iq 12 (n-z+60).toNat) else iq 12 (n-w+60).toNat
def pJ:List Int→List Int→Int→Int→List Nat
 | k::r,n::t,w,z=>sQ k n w z++pJ r t (gB k n w z).1 (gB k n w z).2
 | _,_,_,_=>[]
def mb:List (List aA)→List (List Int)→Int→Int→List Nat
 | l::r,t::s,w,z=>pJ (aq l) t w z++(match bW (aq l) t w z with
  | some (w,z)=>mb r s w z
  | none=>[])
 | _,_,_,_=>[]
theorem TH {k n w z:Int}(h:k≠0→ky k n w z):(sQ k n w z).length≤20:=by
 unfold sQ
 by_cases h0:k=0
 ·rw[if_pos h0];simp
 ·have hT:=h h0
  have hok:jT 12:=by omega
  have hc:=fun e (he:e<121)=>(oz (id:=12) (e:=e) hok he).2
  rw[if_neg h0]
  unfold ky at hT
  by_cases h13:k=13
  ·rw[if_pos h13]at hT⊢
   by_cases hz:z<0
   ·rw[if_pos hz];simp
   ·rw[if_neg hz];exact hc _ (by omega)
  ·rw[if_neg h13]at hT⊢
   exact hc _ (by omega)
structure LP (F:Obj→AV→Int→Int→ac) (ss:List (List Int)) (g:Int) (L N:Nat):Prop where
 gl:∀ q v w z,get (F q v w z) L=some q
 pl:∀ q v w z q',put (F q v w z) L q'=F q' v w z
 g0:∀ q v w z,get (F q v w z) 0=some (.cells [v])
 p0:∀ q v w z v',put (F q v w z) 0 (.cells [v'])=F q v' w z
 g1:∀ q v w z,get (F q v w z) 1=some (.cells [.d (.lst (eZ ss))])
 g2:∀ q v w z,get (F q v w z) 2=some (.cells [.d (.int .i64 w),.d (.int .i64 z)])
 p2:∀ q v w z w' z',put (F q v w z) 2 (.cells [.d (.int .i64 w'),.d (.int .i64 z')])=F q v w' z'
 g3:∀ q v w z,get (F q v w z) 3=some (.cells [.ptr 2 0])
 gN:∀ q v w z,get (F q v w z) N=some (.cells [.d (.int .i64 g)])
abbrev ang (gs:List (List aA)) (g N:Nat):am:=[(4,.ptr 0 0),(7,.ptr 1 0),(11,.ptr 3 0),(12,.ptr N 0),(32,.d (.lst (da gs))),(33,.d (.int .i64 gs.length)),(34,.d (.int .i64 g)),(40,.fn eF [] [.ptr (N+1) 0])]
abbrev VR (gs:List (List aA)) (g N:Nat):Obj:=.loop (ang gs g N) [41,42] gI gG false none
theorem akQ {F:Obj→AV→Int→Int→ac}{L:Nat}(ss:List (List Int)) (hss:ss.length≤1000) (gs:List (List aA)) (hgs:gs.length≤1000) (g N:Nat) (H:LP F ss g L N) (t:List Int) (ht:t.length≤100000) (hg:(eZ ss)[g]?=some [.lst (aP t)]) (a:Nat) (k:Int) (b:List Nat) (hb:b.length≤800000000) (w z:Int) (M:Nat) (n:Int) (r:List Int) (hd:t.drop a=n::r) (h0:k=0→n=0) (h1:k≠0→ky k n w z) (hk:0≤k∧k≤13) (hw:j0 w) (hz:j0 z) :
  aM (Dn prog) (.yield L) [.d (.int .i64 (a:Int)),.d (.int .i64 k)] ⟨F (VR gs g N) (.own false 1 (ah b)) w z,M⟩=some (.d (.bool true),⟨F (VR gs g N) (.own false 1 (ah (b++sQ k n w z))) (gB k n w z).1 (gB k n w z).2,M⟩):=by
 have ha:=aQ hd
 have hn:=oc hd
 have gl:g<ss.length:=by
  obtain⟨h,_⟩:=List.getElem?_eq_some_iff.1 hg
  simpa using h
 have T:=fun q v=>Nz (hp:=fun w z=>F q v w z) (A:=2) ⟨fun s z=>H.g2 q v s z,fun s z s' z'=>H.p2 q v s z s' z'⟩ k n w z M
 by_cases k0:k=0
 ·have:=h0 k0
  subst k0 this
  simp (maxSteps:=300000) (disch:=omega) [gI,gG,↓if_pos,↓if_neg,hg,hn,cu,H.gl,H.pl,H.g0,H.p0,H.g1,H.g2,H.p2,H.g3,H.gN,gB,sQ]
  rfl
 ·have hT:=h1 k0
  have hn5:=tw hT
  have T:=fun q v=>T q v (by omega) (by omega) (by omega)
  simp only[if_pos hT]at T
  have e:(gB k n w z)=if k=13 then (w,n) else (n,z):=by rw[gB,if_neg k0]
  have es:sQ k n w z=if k=13 then (if z<0 then al n.toNat 9 else iq 12 (n-z+60).toNat) else iq 12 (n-w+60).toNat:=by rw[sQ,if_neg k0]
  unfold ky at hT
  by_cases k13:k=13
  ·rw[if_pos k13]at hT
   rw[e,if_pos k13,es,if_pos k13]
   simp only[if_pos k13]at T
   subst k13
   by_cases hz0:z<0
   ·rw[if_pos hz0]
    have p1:=il b n 9 (by omega) (by omega) _ (.inl rfl)
    have c9:(9:Int).toNat=9:=rfl
    rw[if_pos (by simp only[io,c9];omega),c9]at p1
    simp (maxSteps:=300000) (disch:=omega) [gI,gG,↓if_pos,↓if_neg,hg,hn,cu,H.gl,H.pl,H.g0,H.p0,H.g1,H.g2,H.g3,H.gN,T,p1]
    rfl
   ·rw[if_neg hz0]
    have p1:=Ti b (by omega) _ (.inl rfl) (n-z) (by omega)
    simp (maxSteps:=300000) (disch:=omega) [gI,gG,↓if_pos,↓if_neg,hg,hn,cu,H.gl,H.pl,H.g0,H.p0,H.g1,H.g2,H.g3,H.gN,T,p1]
    rfl
  ·rw[if_neg k13]at hT
   rw[e,if_neg k13,es,if_neg k13]
   simp only[if_neg k13]at T
   have p1:=Ti b (by omega) _ (.inl rfl) (n-w) (by omega)
   simp (maxSteps:=300000) (disch:=omega) [gI,gG,↓if_pos,↓if_neg,hg,hn,cu,H.gl,H.pl,H.g0,H.p0,H.g1,H.g2,H.g3,H.gN,T,p1]
   rfl
abbrev FP (ss:List (List Int)) (g N:Nat) (l:List aA) (T:ac) (q:Obj) (v:AV) (w z:Int):ac :=
 (0,.cells [v])::(1,.cells [.d (.lst (eZ ss))])::(2,.cells [.d (.int .i64 w),.d (.int .i64 z)])::(3,.cells [.ptr 2 0])::(N,.cells [.d (.int .i64 g)])::(N+1,.cells [.d (.lst (iz l))])::(N+1+1,q)::T
theorem ajG {ss:List (List Int)}{g N:Nat}{l:List aA}{T:ac}(hN:4≤N):LP (FP ss g N l T) ss g (N+1+1) N:=by
 obtain⟨n0,n1,n2,n3⟩:N≠0∧N≠1∧N≠2∧N≠3:=by omega
 constructor<;>intro q m w z<;>(try intro q')<;>(try intro q'')<;>simp (maxSteps:=300000) (disch:=omega) [↓if_neg,n0,n1,n2,n3]
abbrev adY (ss:List (List Int)) (g N:Nat) (l:List aA) (q:Obj) (s:List Nat×Int×Int) (T:ac):ac:=FP ss g N l T q (.own false 1 (ah s.1)) s.2.1 s.2.2
theorem amb {ss:List (List Int)}{g N:Nat}{l:List aA}{q:Obj}(hN:4≤N):Tl (adY ss g N l q) (N+1+1+1):=by
 constructor
 ·intro s K o h
  simp (maxSteps:=300000) (disch:=omega) [↓if_neg]
 ·intro s K o o' h
  simp (maxSteps:=300000) (disch:=omega) [↓if_neg]
 ·intro s K o h
  simp (maxSteps:=300000) (disch:=omega) [↓if_neg]
 ·intro s K o h
  simp (maxSteps:=300000) (disch:=omega) [↓if_neg]
theorem aco {bks t:List Int}{a:Nat}{k n:Int}{w z:Int}(hk:bks[a]?=some k) (hd:t.drop a=n::t.drop (a+1)):pJ (bks.drop a) (t.drop a) w z=sQ k n w z++pJ (bks.drop (a+1)) (t.drop (a+1)) (gB k n w z).1 (gB k n w z).2:=by
 obtain⟨hlt,e⟩:=List.getElem?_eq_some_iff.1 hk
 have h1:=List.drop_eq_getElem_cons hlt
 rw[e]at h1
 rw[h1,hd,pJ]
theorem aks (ss:List (List Int)) (hss:ss.length≤1000) (gs:List (List aA)) (hgs:gs.length≤1000) (g N:Nat) (hN:4≤N) (t:List Int) (ht:t.length≤100000) (hg:(eZ ss)[g]?=some [.lst (aP t)]) (l:List aA) (hl:∀ k∈aq l,0≤k∧k≤13) (hbl:(aq l).length≤100000) (fin:Int×Int) (TOT:List Nat) :
  Rnd (adY ss g N l (VR gs g N)) noH (N+1+1+1) (N+1+1) (aq l) (fun a k s=>.inl (s.1++sQ k (nth t a) s.2.1 s.2.2,gB k (nth t a) s.2.1 s.2.2)) (fun a s=>(s.1.length≤700000000+20*a∧s.1++pJ ((aq l).drop a) (t.drop a) s.2.1 s.2.2=TOT)∧j0 s.2.1∧j0 s.2.2∧bW ((aq l).drop a) (t.drop a) s.2.1 s.2.2=some fin):=by
 intro a k s K o M hk hi hK hM
 obtain⟨⟨i0,i1⟩,i2,i3,i4⟩:=hi
 obtain⟨n,d1,d2,d3,d4⟩:=TA hk (by rw[i4];simp)
 have hlt:a<(aq l).length:=by obtain⟨h,e⟩:=List.getElem?_eq_some_iff.1 hk;exact h
 have hn:nth t a=n:=by
  have h1:=aQ d1
  have h2:=lv (l:=t) h1
  rw[d1]at h2;injection h2 with h2;exact h2.symm
 have hkm:=hl k (by obtain⟨h,e⟩:=List.getElem?_eq_some_iff.1 hk;rw[←e];exact List.getElem_mem h)
 rw[i4]at d4
 rw[aco hk d1]at i1
 have hsl:=TH (k:=k) (n:=n) (w:=s.2.1) (z:=s.2.2) d3
 have hgo:j0 (gB k n s.2.1 s.2.2).1∧j0 (gB k n s.2.1 s.2.2).2:=by
  unfold gB
  by_cases h0:k=0
  ·rw[if_pos h0];exact⟨i2,i3⟩
  ·rw[if_neg h0]
   have:=tw (d3 h0)
   by_cases h13:k=13
   ·rw[if_pos h13];exact⟨i2,this⟩
   ·rw[if_neg h13];exact⟨this,i3⟩
 refine .inl ⟨(s.1++sQ k n s.2.1 s.2.2,gB k n s.2.1 s.2.2),by simp only[hn],⟨⟨by simp only[List.length_append];omega,by simp only[List.append_assoc];exact i1⟩,hgo.1,hgo.2,d4.symm⟩,?_⟩
 obtain⟨b,w,z⟩:=s
 simp only at i0 i1 i2 i3
 exact akQ ss hss gs hgs g N (ajG (ss:=ss) (g:=g) (l:=l) (T:=[(K,o)]) hN) t ht hg a k b (by omega) w z M n _ d1 d2 d3 hkm i2 i3
abbrev aip (ss:List (List Int)) (v:AV) (w z:Int):ac:=[(0,.cells [v]),(1,.cells [.d (.lst (eZ ss))]),(2,.cells [.d (.int .i64 w),.d (.int .i64 z)]),(3,.cells [.ptr 2 0])]
theorem J0:∀ {bks t:List Int}{w z:Int},bW bks t w z≠none→(pJ bks t w z).length≤20*bks.length
 | [],[],_,_,_=>by simp[pJ]
 | [],_::_,_,_,h=>absurd rfl h
 | _::_,[],_,_,h=>absurd rfl h
 | k::r,n::t,w,z,h=>by
  have h1:=xG h
  have h2:=TH h1.2.1
  have h3:=J0 (by rw[h1.2.2]at h;exact h)
  rw[pJ,List.length_append,List.length_cons]
  omega
theorem lj {l:List aA}{lf:Int}(h:fitsS lf l) (h0:0≤lf):((aq l).length:Int)=lf:=by
 induction l generalizing lf with
 | nil=>simp only[fitsS]at h;simp[aq,h]
 | cons s r ih =>
  obtain⟨h1,h2⟩:=h
  have h3:=h1.1
  have:=ih h2 (by omega)
  rw[aq]at this⊢
  rw[List.flatMap_cons,List.length_append,List.length_replicate]
  omega
theorem W8 (ss:List (List Int)) (hss:ss.length≤1000) (hss2:∀ t∈ss,t.length≤100000) (gs:List (List aA)) (hgs:gs.length≤1000) (m:Int) (hm:0≤m∧m≤1000):∀ (gr:List (List aA)) (sr:List (List Int)) (i N:Nat) (b:List Nat) (w z:Int),gs.drop i=gr→ss.drop i=sr→cG m gr→(∀ l∈gr,l.length≤1000)→j0 w→j0 z→kD gr sr w z≠none→4≤N→b.length+20000*gr.length≤600000000→
  ∃ M w' z',(Dn prog).code (.loop lM) ⟨[(4,.ptr 0 0),(7,.ptr 1 0),(11,.ptr 3 0),(32,.d (.lst (da gs))),(33,.d (.int .i64 gs.length)),(34,.d (.int .i64 i))],⟨aip ss (.own false 1 (ah b)) w z,N⟩⟩ =
  some (.exit 0,⟨[(4,.ptr 0 0)],⟨[(0,.cells [.own false 1 (ah (b++mb gr sr w z))]),(2,.cells [.d (.int .i64 w'),.d (.int .i64 z')])],M⟩⟩):=by
 intro gr
 induction gr with
 | nil =>
  intro sr i N b w z hd hd2 hf hl hw hz hr hN hb
  have hi:=aH hd
  refine⟨N,w,z,?_⟩
  have e:b++mb [] sr w z=b:=by cases sr<;>simp[mb]
  rw[aa lM.eq_1,e]
  simp (maxSteps:=300000) (disch:=omega) [↓if_pos,↓if_neg]
 | cons l r ih =>
  intro sr i N b w z hd hd2 hf hl hw hz hr hN hb
  simp only[List.length_cons]at hb
  have hg:=iO hd
  have hlt:=aQ hd
  have hfl:=hf l (.head _)
  have hll:=hl l (.head _)
  have hbk:=lj hfl hm.1
  cases sr with
  | nil=>exact absurd rfl hr
  | cons t s =>
   have hgt:=xL hd2
   have htl:=hss2 t (by rw[←List.take_append_drop i ss,hd2];simp)
   have hlt2:=aQ hd2
   rw[kD]at hr
   cases hrow:bW (aq l) t w z with
   | none=>rw[hrow]at hr;exact absurd rfl hr
   | some fin =>
    rw[hrow]at hr
    have hrl:=J0 (bks:=aq l) (t:=t) (w:=w) (z:=z) (by rw[hrow];simp)
    have hb1:=Zq (p:=N+1) (amb (ss:=ss) (g:=i) (l:=l) (q:=VR gs i N) hN) abp l (aks ss hss gs hgs i N hN t htl hgt l (Kq hfl) (by omega) fin (b++pJ (aq l) t w z)) (fun s=>by simp (maxSteps:=300000) (disch:=omega) [↓if_neg]) hll (fun q hq=>by have:=(oM hfl hm.2 q hq).1;omega) (N+1+1+1) (b,w,z) (Nat.le_refl _) ⟨⟨by simp only[];omega,rfl⟩,hw,hz,by simpa using hrow⟩
    rcases hb1 with ⟨⟨b2,w2,z2⟩,M,e1,⟨⟨e2,e2'⟩,e3,e4,e5⟩,e6,e7⟩ | ⟨z,_⟩
    ·rw[List.drop_eq_nil_of_le (Nat.le_refl _)]at e5 e2'
     obtain⟨e8,e9⟩:=Xj e5
     simp only at e2 e3 e4 e8
     subst e8
     have e10:b2=b++pJ (aq l) t w z:=by
      rw[←e2']
      cases t.drop (aq l).length<;>simp[pJ]
     subst e10
     obtain⟨M2,w3,z3,f⟩:=ih s (i+1) M (b++pJ (aq l) t w z) w2 z2 (aL hd) (aL hd2) (fun q hq=>hf q (.tail _ hq)) (fun q hq=>hl q (.tail _ hq)) e3 e4 hr (by omega) (by rw[List.length_append];omega)
     refine⟨M2,w3,z3,?_⟩
     have c1:((i+1:Nat):Int)=(i:Int)+1:=rfl
     rw[c1]at f
     simp only[adY,FP]at e7
     obtain⟨n0,n1,n2,n3⟩:N≠0∧N≠1∧N≠2∧N≠3:=by omega
     have eT:b++mb (l::r) (t::s) w z=b++pJ (aq l) t w z++mb r s w2 z2:=by rw[mb,hrow,List.append_assoc]
     rw[aa lM.eq_1,eT,←f]
     simp (maxSteps:=300000) (disch:=omega) [↓if_pos,↓if_neg,hg,hgt,cu,In,n0,n1,n2,n3,rd,e7]
    ·exact nomatch z
theorem acG (b:List Nat) (hb:b.length≤500000000) (x:AV) (hx:x=.d (.lst (ah b))∨x=.nl∧b=[]) (gain m:Int) (g:List (List aA)) (t:List (List Int)) (hgn:0≤gain∧gain≤255) (hl:g.length≤8) (hm:0≤m∧m≤40) (hf:cG m g) (hf2:∀ l∈g,l.length≤1000) (ht:sm gain g t) (ht2:∀ l∈t,l.length≤100000) :
  aW prog yf [x,.d (.int .i64 gain),.d (.lst (da g)),.d (.lst (eZ t))]=some (.tup [.own true 1 (ah (b++mb g t gain (-1))),.d (.int .i64 0)]):=by
 have h1:=Yw gain m g t hgn hl hm hf hf2 ht ht2
 have hlen:=xF ht
 obtain⟨M,w,z,e⟩:=W8 t (by omega) ht2 g (by omega) m (by omega) g t 0 4 b gain (-1) rfl rfl hf hf2 (by omega) (by omega) ht (Nat.le_refl _) (by omega)
 have c0:((0:Nat):Int)=0:=rfl
 rw[c0]at e
 have hp:=il b 0 0 (by omega) (by omega) x hx
 rw[if_pos (by decide)]at hp
 have t0:(0:Int).toNat=0:=rfl
 rw[t0,al,List.append_nil]at hp
 simp only[aip]at e
 rw[au Y6 yL.eq_1 rfl]
 rcases hx with rfl | ⟨rfl,rfl⟩
 all_goals simp (maxSteps:=300000) (disch:=omega) [↓if_pos,↓if_neg,h1,hp,e]
end Go.Vm
namespace Go.Vm
set_option maxHeartbeats 2000000
set_option maxRecDepth 100000
structure bb where
 len:Int
 order:Int
 down:Bool
 fine:Bool
 coefs:List Int
abbrev bb.cells (f:bb):List D:=[.int .i64 f.len,.int .i64 f.order,.bool f.down,.bool f.fine,.lst (aP f.coefs)]
abbrev bb.av (f:bb):List AV:=[.d (.int .i64 f.len),.d (.int .i64 f.order),.d (.bool f.down),.d (.bool f.fine),.d (.lst (aP f.coefs))]
def df (l:List bb):List (List D):=l.map bb.cells
@[simp] theorem aeF {l:List bb}:(df l).length=l.length:=by simp[df]
theorem q9 {l:List bb}{i:Nat}{s:bb}{r:List bb}(h:l.drop i=s::r):(df l)[i]?=some [.int .i64 s.len,.int .i64 s.order,.bool s.down,.bool s.fine,.lst (aP s.coefs)]:=by
 have:=congrArg (fun l=>l[0]?) h
 simp only[List.getElem?_drop,List.getElem?_cons_zero,Nat.add_zero]at this
 rw[df,List.getElem?_map,this];rfl
def gx (t:List (List bb)):List (List D):=t.map fun l=>[.lst (df l)]
@[simp] theorem alL {t:List (List bb)}:(gx t).length=t.length:=by simp[gx]
theorem ow {g:List (List bb)}{i:Nat}{l:List bb}{r:List (List bb)}(h:g.drop i=l::r):(gx g)[i]?=some [.lst (df l)]:=by
 have:=congrArg (fun l=>l[0]?) h
 simp only[List.getElem?_drop,List.getElem?_cons_zero,Nat.add_zero]at this
 rw[gx,List.getElem?_map,this];rfl
theorem Kc (h:Int):∀ (l:List Int),l.any (fun c=>decide (c < -h∨h≤c))=!decide (∀ c∈l,-h≤c∧c<h)
 | []=>by simp
 | c::r=>by
  rw[List.any_cons,Kc h r]
  by_cases h1:-h≤c∧c<h
  ·rw[decide_eq_false (p:=c < -h∨h≤c) (by omega)]
   simp[h1]
  ·rw[decide_eq_true (p:=c < -h∨h≤c) (by omega)]
   simp[h1]
def cj (fine:Bool):Int:=if fine then 8 else 4
def rF (sh:Bool):Int:=if sh then 15 else 63
def kR (sh:Bool):Int:=if sh then 7 else 12
def wg (sh:Bool) (f:bb):Prop:=(0≤f.len∧f.len≤rF sh)∧(0≤f.order∧f.order≤kR sh)∧(f.coefs.length:Int)=f.order∧(f.order=0→f.down=false)∧∀ c∈f.coefs,-cj f.fine≤c∧c<cj f.fine
instance {sh:Bool}{f:bb}:Decidable (wg sh f):=by unfold wg;infer_instance
theorem EC (b:Bool):aW prog lS [.d (.bool b)]=some (.d (.int .i64 (if b then 4 else 3))):=by
 rw[au QX rX.eq_1 rfl]
 cases b<;>simp (maxSteps:=300000) (disch:=omega)
theorem sK (b:Bool):aW prog iC [.d (.bool b)]=some (.d (.int .i64 (if b then 1 else 0))):=by
 rw[au UE tZ.eq_1 rfl]
 cases b<;>simp (maxSteps:=300000) (disch:=omega)
def fc (sh:Bool):List AV:=if sh then [.d (.int .i64 1),.d (.int .i64 4),.d (.int .i64 3),.d (.int .i64 1),.d (.int .i64 7)] else [.d (.int .i64 2),.d (.int .i64 6),.d (.int .i64 5),.d (.int .i64 3),.d (.int .i64 12)]
def aG.short (i:aG):Bool:=decide (i.seq=2)
theorem ub (i:aG):aW prog fO [.agg i.cells]=some (.agg (fc i.short)):=by
 rw[au Pr qa.eq_1 rfl]
 unfold fc aG.short
 by_cases h:i.seq=2
 ·simp (maxSteps:=300000) (disch:=omega) [↓if_pos,h]
 ·simp (maxSteps:=300000) (disch:=omega) [↓if_neg,h]
theorem ajD (m:Nat) (hm:m≤100000) (v:Int) (N:Nat):(Dn prog).call kH [.d (.int .i64 v),.ptr 0 0] ⟨[(0,.cells [.d (.int .i64 m)])],N⟩=some (.d (.bool (decide (v < -(m:Int)∨(m:Int)≤v))),⟨[(0,.cells [.d (.int .i64 m)])],N⟩):=by
 rw[aJ Nh pV.eq_1 rfl]
 by_cases h1:v < -(m:Int)
 ·simp (maxSteps:=300000) (disch:=omega) [↓if_pos,h1]
 ·by_cases h2:(m:Int)≤v
  ·simp (maxSteps:=300000) (disch:=omega) [↓if_pos,↓if_neg,h1,h2]
  ·simp (maxSteps:=300000) (disch:=omega) [↓if_pos,↓if_neg,h1,h2]
theorem Iw (l:List Int) (hl:l.length≤1000000) (s:Nat) (hs:1≤s∧s≤10):aW prog mV [.d (.lst (aP l)),.d (.int .i64 s)]=some (.d (.bool (decide (∀ c∈l,-((2 ^ (s-1):Nat):Int)≤c∧c<((2 ^ (s-1):Nat):Int))))):=by
 have hp:2 ^ (s-1)≤2 ^ 10:=Nat.pow_le_pow_right (by omega) (by omega)
 have q2:=VQ (m:=s-1) (by omega)
 have c1:((s-1:Nat):Int)=(s:Int)-1:=by omega
 rw[c1]at q2
 generalize 2 ^ (s-1)=P at *
 have h1:=nF (.fn kH [] [.ptr 0 0]) (fun c=>decide (c < -(P:Int)∨(P:Int)≤c)) l (by omega) [(0,.cells [.d (.int .i64 P)])] 1 rfl rfl fun v _=>by
  have:=ajD P (by omega) v 1
  simpa using this
 rw[Kc]at h1
 rw[au Vb t9.eq_1 rfl]
 simp (maxSteps:=300000) (disch:=omega) [-zg,q2,h1]
theorem UJ (i:aG) (f:bb) (h:wg i.short f):aW prog pK [.agg i.cells,.agg f.av]=some (.d (.bool true)):=by
 obtain⟨⟨l1,l2⟩,⟨o1,o2⟩,c1,d1,c2⟩:=h
 have hs:=ub i
 have hw:=EC f.fine
 have hof:kR i.short≤12:=by unfold kR;split<;>omega
 have hft:=Iw f.coefs (by omega) (if f.fine then 4 else 3) (by split<;>omega)
 have hh:((2 ^ ((if f.fine then 4 else 3)-1):Nat):Int)=cj f.fine:=by unfold cj;split<;>rfl
 rw[hh,decide_eq_true c2]at hft
 have hc:(((if f.fine=true then 4 else 3:Nat)):Int)=if f.fine=true then 4 else 3:=by split<;>rfl
 rw[hc]at hft
 have hl:=cu (l:=f.coefs)
 generalize hW:(if f.fine=true then (4:Int) else 3)=W at *
 simp only[aG.cells]at hs
 have hdn:f.order > 0∨f.order=0∧f.down=false:=by
  rcases Int.lt_or_eq_of_le o1 with h | h
  ·exact .inl h
  ·exact .inr ⟨h.symm,d1 h.symm⟩
 rw[au MI pe.eq_1 rfl]
 unfold rF at l2
 unfold kR at o2
 cases hsh:i.short with
 | true =>
  rw[hsh]at l2 o2 hs
  simp only[fc,if_true]at l2 o2 hs
  rcases hdn with hdn | ⟨h0,hdn⟩
  ·simp (config := { maxSteps:=1000000 }) (disch:=omega) [↓if_pos,↓if_neg,hs,hw,hft]
  ·simp (config := { maxSteps:=1000000 }) (disch:=omega) [↓if_pos,↓if_neg,hs,hw,hft,hdn]
 | false =>
  rw[hsh]at l2 o2 hs
  simp only[fc]at l2 o2 hs
  simp only[Bool.false_eq_true,if_false]at l2 o2 hs
  rcases hdn with hdn | ⟨h0,hdn⟩
  ·simp (config := { maxSteps:=1000000 }) (disch:=omega) [↓if_pos,↓if_neg,hs,hw,hft]
  ·simp (config := { maxSteps:=1000000 }) (disch:=omega) [↓if_pos,↓if_neg,hs,hw,hft,hdn]
theorem Rt (F:AV) (P:bb→Bool) (l:List bb) (hl:l.length≤1000000000) (h:ac) (N0:Nat) (hF:firm (share F)=F) (hc:∀ f∈l,∀ N,N0≤N→aM (Dn prog) F [.agg f.av] ⟨h,N⟩=some (.d (.bool (P f)),⟨h,N+1⟩)):∀ (r:List bb) (i N:Nat),l.drop i=r→N0≤N→
  (r.any P=true∧∃ k M:Nat,N≤M∧(Dn prog).code (.loop bz) ⟨[(0,.d (.lst (df l))),(1,F),(7,.d (.int .i64 l.length)),(8,.d (.int .i64 i))],⟨h,N⟩⟩=some (.ret,⟨[(4,.d (.int .i64 k))],⟨h,M⟩⟩))∨
  (r.any P=false∧∃ M,N≤M∧(Dn prog).code (.loop bz) ⟨[(0,.d (.lst (df l))),(1,F),(7,.d (.int .i64 l.length)),(8,.d (.int .i64 i))],⟨h,N⟩⟩=some (.exit 0,⟨[],⟨h,M⟩⟩)):=by
 intro r
 induction r with
 | nil =>
  intro i N hd hN
  have hi:=aH hd
  refine .inr ⟨rfl,N,Nat.le_refl _,?_⟩
  rw[aa bz.eq_1]
  simp (maxSteps:=300000) (disch:=omega) [↓if_neg]
 | cons v r ih =>
  intro i N hd hN
  have hg:=q9 hd
  have hlt:=aQ hd
  have hv:=hc v (by rw[←List.take_append_drop i l,hd];simp) N hN
  have h5:=ih (i+1) (N+1) (aL hd) (by omega)
  have c1:((i+1:Nat):Int)=(i:Int)+1:=rfl
  rw[c1]at h5
  cases hp:P v with
  | true =>
   rw[hp]at hv
   refine .inl ⟨by rw[List.any_cons,hp];rfl,i,N+1,by omega,?_⟩
   rw[aa bz.eq_1]
   simp (maxSteps:=300000) (disch:=omega) [↓if_pos,↓if_neg,hg,hF,hv]
  | false =>
   rw[hp]at hv
   rw[List.any_cons,hp,Bool.false_or]
   rcases h5 with ⟨e1,k,M,e3,e2⟩ | ⟨e1,M,e3,e2⟩
   ·refine .inl ⟨e1,k,M,by omega,?_⟩
    rw[aa bz.eq_1,←e2]
    simp (maxSteps:=300000) (disch:=omega) [↓if_pos,↓if_neg,hg,hF,hv]
   ·refine .inr ⟨e1,M,by omega,?_⟩
    rw[aa bz.eq_1,←e2]
    simp (maxSteps:=300000) (disch:=omega) [↓if_pos,↓if_neg,hg,hF,hv]
theorem rP (F:AV) (P:bb→Bool) (l:List bb) (hl:l.length≤1000000000) (h:ac) (N:Nat) (hF:firm (share F)=F) (hF2:firm F=F) (hc:∀ f∈l,∀ M,N≤M→aM (Dn prog) F [.agg f.av] ⟨h,M⟩=some (.d (.bool (P f)),⟨h,M+1⟩)) :
  ∃ M,N≤M∧(Dn prog).call bx [.d (.lst (df l)),F] ⟨h,N⟩=some (.d (.bool (l.any P)),⟨h,M⟩):=by
 have h1:=Rt F P l hl h N hF hc l 0 N rfl (Nat.le_refl _)
 have c0:((0:Nat):Int)=0:=rfl
 rw[c0]at h1
 have h2:∃ (k:Int) (M:Nat),N≤M∧(0≤k↔l.any P=true)∧(Dn prog).call f9 [.d (.lst (df l)),F] ⟨h,N⟩=some (.d (.int .i64 k),⟨h,M⟩):=by
  rcases h1 with ⟨e1,k,M,e3,e2⟩ | ⟨e1,M,e3,e2⟩
  ·refine⟨k,M,e3,⟨fun _=>e1,fun _=>by omega⟩,?_⟩
   rw[aJ jU dU.eq_1 rfl]
   simp (maxSteps:=300000) (disch:=omega) [e2]
  ·refine⟨-1,M,e3,⟨fun h=>by omega,fun h=>by rw[e1]at h;exact absurd h (by simp)⟩,?_⟩
   rw[aJ jU dU.eq_1 rfl]
   simp (maxSteps:=300000) (disch:=omega) [e2]
 obtain⟨k,M,e3,e1,e2⟩:=h2
 refine⟨M,e3,?_⟩
 rw[aJ qJ eW.eq_1 rfl]
 cases hp:l.any P with
 | true =>
  have:=e1.2 hp
  simp (maxSteps:=300000) (disch:=omega) [↓if_pos,hF2,e2]
 | false =>
  have:¬ 0≤k:=fun h=>by rw[e1.1 h]at hp;exact absurd hp (by simp)
  simp (maxSteps:=300000) (disch:=omega) [↓if_neg,hF2,e2]
theorem Vu (lo hi v:Int) (hlo:-100≤lo∧lo≤0) (hhi:0≤hi∧hi≤100) (X:Obj) (N:Nat):(Dn prog).call iU [.d (.int .i64 v),.ptr 1 0,.ptr 2 0] ⟨[(0,X),(1,.cells [.d (.int .i64 lo)]),(2,.cells [.d (.int .i64 hi)])],N⟩=some (.d (.bool (decide (v<lo∨hi<v))),⟨[(0,X),(1,.cells [.d (.int .i64 lo)]),(2,.cells [.d (.int .i64 hi)])],N⟩):=by
 rw[aJ LD pO.eq_1 rfl]
 by_cases h1:v<lo
 ·simp (maxSteps:=300000) (disch:=omega) [↓if_pos,h1]
 ·by_cases h2:hi<v
  ·simp (maxSteps:=300000) (disch:=omega) [↓if_pos,↓if_neg,h1,h2]
  ·simp (maxSteps:=300000) (disch:=omega) [↓if_pos,↓if_neg,h1,h2]
theorem aax (X:Obj) (l:List Int) (hl:l.length≤1000000) (fine:Bool):(Dn prog).call b6 [.d (.lst (aP l)),.fn iU [] [.ptr 1 0,.ptr 2 0]] ⟨[(0,X),(1,.cells [.d (.int .i64 (-cj fine))]),(2,.cells [.d (.int .i64 (cj fine-1))])],3⟩ =
  some (.d (.bool (!decide (∀ c∈l,-cj fine≤c∧c<cj fine))),⟨[(0,X),(1,.cells [.d (.int .i64 (-cj fine))]),(2,.cells [.d (.int .i64 (cj fine-1))])],3⟩):=by
 have hh:4≤cj fine∧cj fine≤8:=by unfold cj;split<;>omega
 have h1:=nF (.fn iU [] [.ptr 1 0,.ptr 2 0]) (fun c=>decide (c < -cj fine∨cj fine-1<c)) l (by omega) [(0,X),(1,.cells [.d (.int .i64 (-cj fine))]),(2,.cells [.d (.int .i64 (cj fine-1))])] 3 rfl rfl fun v _=>by
  have:=Vu (-cj fine) (cj fine-1) v (by omega) (by omega) X 3
  simpa using this
 have e:(fun c:Int=>decide (c < -cj fine∨cj fine-1<c))=fun c=>decide (c < -cj fine∨cj fine≤c):=by
  funext c
  rw[decide_eq_decide]
  omega
 rw[e,Kc]at h1
 exact h1
theorem YI (sh:Bool) (f:bb) (hl:f.coefs.length≤1000000):aW prog tI [.agg f.av,.d (.bool sh)]=some (.d (.bool (decide (wg sh f)))):=by
 rw[au Uc tM.eq_1 rfl]
 have hll:=cu (l:=f.coefs)
 have hls:rF sh=if sh then 15 else 63:=rfl
 have hos:kR sh=if sh then 7 else 12:=rfl
 by_cases a1:0≤f.len∧f.len≤rF sh
 ·by_cases a2:0≤f.order∧f.order≤kR sh
  ·by_cases a3:(f.coefs.length:Int)=f.order
   ·by_cases a4:f.order=0∧f.down=true
    ·rw[decide_eq_false (fun h=>by have:=h.2.2.2.1 a4.1;rw[a4.2]at this;exact absurd this (by simp))]
     obtain⟨a4,a5⟩:=a4
     cases sh<;>simp only[rF,kR,if_true,Bool.false_eq_true,if_false]at a1 a2<;>simp (config := { maxSteps:=1000000 }) (disch:=omega) [↓if_pos,↓if_neg,a5]
    ·have hc:=aax (.cells f.av) f.coefs hl f.fine
     have hd:decide (wg sh f)=decide (∀ c∈f.coefs,-cj f.fine≤c∧c<cj f.fine):=by
      rw[decide_eq_decide]
      refine⟨fun h=>h.2.2.2.2,fun h=>⟨a1,a2,a3,fun h0=>?_,h⟩⟩
      cases hdn:f.down with
      | false=>rfl
      | true=>exact absurd ⟨h0,hdn⟩ a4
     rw[hd]
     generalize decide (∀ c∈f.coefs,-cj f.fine≤c∧c<cj f.fine)=B at *
     have h4:cj false=4:=rfl
     have h8:cj true=8:=rfl
     by_cases h0:f.order=0
     ·have hdn:f.down=false:=by
       cases hdn:f.down with
       | false=>rfl
       | true=>exact absurd ⟨h0,hdn⟩ a4
      cases hfn:f.fine<;>simp only[hfn,h4,h8,Int.reduceNeg,Int.reduceSub]at hc<;>cases sh<;>simp only[rF,kR,if_true,Bool.false_eq_true,if_false]at a1 a2<;>simp (config := { maxSteps:=1000000 }) (disch:=omega) [↓if_pos,↓if_neg,hdn,hfn,hc]
     ·cases hfn:f.fine<;>simp only[hfn,h4,h8,Int.reduceNeg,Int.reduceSub]at hc<;>cases sh<;>simp only[rF,kR,if_true,Bool.false_eq_true,if_false]at a1 a2<;>simp (config := { maxSteps:=1000000 }) (disch:=omega) [↓if_pos,↓if_neg,hfn,hc]
   ·rw[decide_eq_false (fun h=>a3 h.2.2.1)]
    cases sh<;>simp only[rF,kR,if_true,Bool.false_eq_true,if_false]at a1 a2<;>simp (config := { maxSteps:=1000000 }) (disch:=omega) [↓if_pos,↓if_neg]
  ·rw[decide_eq_false (fun h=>a2 h.2.1)]
   by_cases b1:f.order<0
   ·cases sh<;>simp only[rF,kR,if_true,Bool.false_eq_true,if_false]at a1 a2<;>simp (config := { maxSteps:=1000000 }) (disch:=omega) [↓if_pos,↓if_neg]
   ·cases sh<;>simp only[rF,kR,if_true,Bool.false_eq_true,if_false]at a1 a2<;>simp (config := { maxSteps:=1000000 }) (disch:=omega) [↓if_pos,↓if_neg]
 ·rw[decide_eq_false (fun h=>a1 h.1)]
  by_cases b1:f.len<0
  ·cases sh<;>simp only[rF,kR,if_true,Bool.false_eq_true,if_false]at a1<;>simp (config := { maxSteps:=1000000 }) (disch:=omega) [↓if_pos,↓if_neg]
  ·cases sh<;>simp only[rF,kR,if_true,Bool.false_eq_true,if_false]at a1<;>simp (config := { maxSteps:=1000000 }) (disch:=omega) [↓if_pos,↓if_neg]
end Go.Vm
namespace Go.Vm
set_option maxHeartbeats 2000000
set_option maxRecDepth 100000
def Lt (H:ac) (N:Nat):Prop:=∀ p∈H,p.1<N
theorem su {H:ac}{N:Nat}{o:Obj}(h:Lt H N):put H N o=H++[(N,o)]:=by
 induction H with
 | nil=>rfl
 | cons p r ih =>
  obtain⟨k,v⟩:=p
  have h1:=h (k,v) (.head _)
  simp only at h1
  rw[jF,if_neg (by omega),if_neg (by omega),ih (fun p hp=>h p (.tail _ hp)),List.cons_append]
theorem QC {H:ac}{N:Nat}{o o':Obj}(h:Lt H N):put (H++[(N,o)]) N o'=H++[(N,o')]:=by
 induction H with
 | nil=>rw[List.nil_append,jF,if_pos rfl];rfl
 | cons p r ih =>
  obtain⟨k,v⟩:=p
  have h1:=h (k,v) (.head _)
  simp only at h1
  rw[List.cons_append,jF,if_neg (by omega),if_neg (by omega),ih (fun p hp=>h p (.tail _ hp)),List.cons_append]
theorem u7 {H:ac}{N:Nat}{o:Obj}(h:Lt H N):get (H++[(N,o)]) N=some o:=by
 induction H with
 | nil=>rw[List.nil_append,bq,if_pos rfl]
 | cons p r ih =>
  obtain⟨k,v⟩:=p
  have h1:=h (k,v) (.head _)
  simp only at h1
  rw[List.cons_append,bq,if_neg (by omega),ih (fun p hp=>h p (.tail _ hp))]
theorem rI {H:ac}{N k:Nat}{o o':Obj}(h:get H k=some o'):get (H++[(N,o)]) k=some o':=by
 induction H with
 | nil=>exact absurd h (by simp[mc])
 | cons p r ih =>
  obtain⟨j,v⟩:=p
  rw[bq]at h
  rw[List.cons_append,bq]
  by_cases hj:j=k
  ·rw[if_pos hj]at h⊢;exact h
  ·rw[if_neg hj]at h⊢;exact ih h
theorem ZZ {H:ac}{N:Nat}{o:Obj}(h:Lt H N):del (H++[(N,o)]) N=H:=by
 induction H with
 | nil=>rw[List.nil_append,fY,if_pos rfl];rfl
 | cons p r ih =>
  obtain⟨k,v⟩:=p
  have h1:=h (k,v) (.head _)
  simp only at h1
  rw[List.cons_append,fY,if_neg (by omega),ih (fun p hp=>h p (.tail _ hp))]
theorem VE {H:ac}{N M:Nat}(h:Lt H N) (hm:N≤M):Lt H M:=fun p hp=>Nat.lt_of_lt_of_le (h p hp) hm
theorem Am {H:ac}{N:Nat}{o:Obj}(h:Lt H N):Lt (H++[(N,o)]) (N+1):=by
 intro p hp
 rcases List.mem_append.1 hp with h1 | h1
 ·have:=h p h1;omega
 ·rw[List.mem_singleton]at h1;subst h1;exact Nat.lt_succ_self _
@[simp] theorem anC (a b:Bool):VP true (.d (.bool a)) (.d (.bool b))=some (.bool (a != b)):=by cases a<;>cases b<;>rfl
def KY (sh:Bool) (f0 f:bb):Bool:=!decide (wg sh f) || f.fine != f0.fine
theorem acz (sh:Bool) (f0:bb) (l:List bb) (f:bb) (hf:f.coefs.length≤1000000) (H:ac) (p q M:Nat) (hp:get H p=some (.cells [.d (.bool sh)])) (hq:get H q=some (.cells [.d (.lst (df (f0::l)))])) (hl:(f0::l).length≤1000000) (hM:Lt H M) :
  (Dn prog).call fm [.agg f.av,.ptr p 0,.ptr q 0] ⟨H,M⟩=some (.d (.bool (KY sh f0 f)),⟨H,M+1⟩):=by
 have e1:=fun o=>su (o:=o) hM
 have e2:=fun o=>u7 (o:=o) hM
 have e3:=fun o=>rI (N:=M) (o:=o) hp
 have e4:=fun o=>rI (N:=M) (o:=o) hq
 have e5:=fun o=>ZZ (o:=o) hM
 have e6:=YI sh f hf
 have hg:=q9 (l:=f0::l) (i:=0) (s:=f0) (r:=l) rfl
 unfold KY
 rw[aJ Kj np.eq_1 rfl]
 simp only[bb.av]at e6⊢
 simp only[List.length_cons]at hl
 cases hB:decide (wg sh f) with
 | false =>
  rw[hB]at e6
  simp (maxSteps:=300000) (disch:=omega) [↓if_pos,↓if_neg,e1,e2,e3,e4,e5,e6,hg]
 | true =>
  rw[hB]at e6
  cases hf1:f.fine<;>cases hf2:f0.fine<;>rw[hf1]at e6<;>rw[hf2]at hg<;>
   simp (maxSteps:=300000) (disch:=omega) [↓if_pos,↓if_neg,e1,e2,e3,e4,e5,e6,hg]
structure bB where
 gain:Int
 info:aG
 sects:List (List aA)
 steps:List (List Int)
 tns:List (List bb)
 lines:List Int
abbrev bB.av (c:bB):List AV:=[.d (.int .i64 c.gain),.d (.int .u8 c.info.seq),.d (.int .u8 c.info.shape),.d (.int .i64 c.info.max),.d (.lst (aP c.info.groups)),.d (.lst (da c.sects)),.d (.lst (eZ c.steps)),.d (.lst (gx c.tns)),.d (.lst (aP c.lines))]
structure bB.Fit (c:bB):Prop where
 gain:i64 c.gain
 info:c.info.Fit
 sects:adr c.sects
 secI:∀ l∈c.sects,∀ s∈l,i64 s.book∧i64 s.len
 steps:c.steps.length≤1000∧∀ l∈c.steps,l.length≤1000
 stepI:∀ l∈c.steps,∀ n∈l,i64 n
 tns:c.tns.length≤1000∧∀ l∈c.tns,l.length≤1000∧∀ f∈l,f.coefs.length≤1000
 fltI:∀ l∈c.tns,∀ f∈l,(i64 f.len∧i64 f.order)∧∀ x∈f.coefs,i64 x
 lines:c.lines.length≤100000
 lineI:∀ n∈c.lines,i64 n
def jb (sh:Bool):Nat:=if sh then 1 else 3
def lZ (sh:Bool) (l:List bb):Prop:=l.length≤jb sh∧∀ f0∈l.head?,∀ f∈l,wg sh f∧f.fine=f0.fine
abbrev VN (i:aG) (t:List (List bb)):Prop:=t.length=i.many∧∀ l∈t,lZ i.short l
theorem agh {sh:Bool}{f0:bb}{l:List bb}:l.any (KY sh f0)=false↔∀ f∈l,wg sh f∧f.fine=f0.fine:=by
 rw[List.any_eq_false]
 constructor
 ·intro h f hf
  have:=h f hf
  simp only[KY,Bool.or_eq_true,Bool.not_eq_true',decide_eq_false_iff_not,bne_iff_ne,not_or,Decidable.not_not]at this
  exact this
 ·intro h f hf
  have:=h f hf
  simp[KY,this.1,this.2]
def Ql (sh:Bool):List bb→Bool
 | []=>false
 | f0::r=>(f0::r).any (KY sh f0)
theorem WX {sh:Bool}{l:List bb}:lZ sh l↔l.length≤jb sh∧Ql sh l=false:=by
 unfold lZ
 cases l with
 | nil=>simp[Ql]
 | cons f0 r0 =>
  simp only[Ql,agh]
  constructor
  ·intro h
   exact⟨h.1,h.2 f0 (by simp)⟩
  ·intro h
   exact⟨h.1,fun f hf=>by simp at hf;subst hf;exact h.2⟩
instance {sh:Bool}{l:List bb}:Decidable (lZ sh l):=decidable_of_iff _ WX.symm
theorem NY (sh:Bool) (full:List (List bb)) (hl:full.length≤1000) (hl2:∀ l∈full,l.length≤1000∧∀ f∈l,f.coefs.length≤1000):∀ (r:List (List bb)) (i N:Nat) (H:ac),full.drop i=r→get H 1=some (.cells [.d (.bool sh)])→Lt H N→2≤N→
  ((∀ l∈r,lZ sh l)∧∃ H2 M,(Dn prog).code (.loop c6) ⟨[(5,.ptr 1 0),(6,.d (.int .i64 (jb sh))),(20,.d (.lst (gx full))),(21,.d (.int .i64 full.length)),(22,.d (.int .i64 i))],⟨H,N⟩⟩=some (.exit 0,⟨[],⟨H2,M⟩⟩))∨
  ((¬ ∀ l∈r,lZ sh l)∧∃ H2 M,(Dn prog).code (.loop c6) ⟨[(5,.ptr 1 0),(6,.d (.int .i64 (jb sh))),(20,.d (.lst (gx full))),(21,.d (.int .i64 full.length)),(22,.d (.int .i64 i))],⟨H,N⟩⟩=some (.ret,⟨[(4,.d (.bool false))],⟨H2,M⟩⟩)):=by
 intro r
 induction r with
 | nil =>
  intro i N H hd hH hL hN
  have hi:=aH hd
  refine .inl ⟨by simp,H,N,?_⟩
  rw[aa c6.eq_1]
  simp (maxSteps:=300000) (disch:=omega) [↓if_neg]
 | cons l r ih =>
  intro i N H hd hH hL hN
  have hg:=ow hd
  have hlt:=aQ hd
  obtain⟨hll,hlc⟩:=hl2 l (by rw[←List.take_append_drop i full,hd];simp)
  have hm:jb sh≤3:=by unfold jb;split<;>omega
  have e1:=fun o=>su (o:=o) hL
  have e2:=fun o=>u7 (o:=o) hL
  have e3:=fun o=>rI (N:=N) (o:=o) hH
  have e4:=fun o o'=>QC (o:=o) (o':=o') hL
  have c1:((i+1:Nat):Int)=(i:Int)+1:=rfl
  by_cases h1:l.length≤jb sh
  ·have hcf:∃ M,N+1≤M∧(Dn prog).call bx [.d (.lst (df l)),.fn fm [] [.ptr 1 0,.ptr N 0]] ⟨H++[(N,.cells [.d (.lst (df l))])],N+1⟩=some (.d (.bool (Ql sh l)),⟨H++[(N,.cells [.d (.lst (df l))])],M⟩):=by
    cases l with
    | nil =>
     exact rP (.fn fm [] [.ptr 1 0,.ptr N 0]) (fun _=>false) [] (by simp) _ (N+1) rfl rfl fun f hf=>by simp at hf
    | cons f0 r0 =>
     refine rP (.fn fm [] [.ptr 1 0,.ptr N 0]) (KY sh f0) (f0::r0) (by omega) _ (N+1) rfl rfl fun f hf M hM=>?_
     have:=acz sh f0 r0 f (by have:=hlc f hf;omega) (H++[(N,.cells [.d (.lst (df (f0::r0)))])]) 1 N M (e3 _) (e2 _) (by omega) (VE (Am hL) hM)
     simpa using this
   obtain⟨M,hM,e5⟩:=hcf
   have hW:Ql sh l=false↔lZ sh l:=by rw[WX];exact⟨fun h=>⟨h1,h⟩,fun h=>h.2⟩
   generalize Ql sh l=B at *
   cases B with
   | true =>
    refine .inr ⟨fun h=>?_,H++[(N,.cells [.d (.lst (df l))])],M,?_⟩
    ·have:=hW.2 (h l (.head _))
     exact absurd this (by simp)
    ·rw[aa c6.eq_1]
     simp (maxSteps:=300000) (disch:=omega) [↓if_pos,↓if_neg,hg,e1,e2,e4,e5]
   | false =>
    have hw:=hW.1 rfl
    have h5:=ih (i+1) M (H++[(N,.cells [.d (.lst (df l))])]) (aL hd) (e3 _) (VE (Am hL) hM) (by omega)
    rw[c1]at h5
    rcases h5 with ⟨f1,H2,M2,f2⟩ | ⟨f1,H2,M2,f2⟩
    ·refine .inl ⟨fun q hq=>?_,H2,M2,?_⟩
     ·rcases List.mem_cons.1 hq with h | h
      ·rw[h];exact hw
      ·exact f1 q h
     ·rw[aa c6.eq_1,←f2]
      simp (maxSteps:=300000) (disch:=omega) [↓if_pos,↓if_neg,hg,e1,e2,e4,e5]
    ·refine .inr ⟨fun h=>f1 fun q hq=>h q (.tail _ hq),H2,M2,?_⟩
     rw[aa c6.eq_1,←f2]
     simp (maxSteps:=300000) (disch:=omega) [↓if_pos,↓if_neg,hg,e1,e2,e4,e5]
  ·refine .inr ⟨fun h=>h1 (h l (.head _)).1,H++[(N,.cells [.d (.lst (df l))])],N+1,?_⟩
   rw[aa c6.eq_1]
   simp (maxSteps:=300000) (disch:=omega) [↓if_pos,↓if_neg,hg,e1,e2,e4]
theorem Wg (c:bB) (hc:c.Fit) (w:Nat) (hw:w≤8):aW prog mi [.agg c.av,.d (.int .i64 w)]=some (.d (.bool (decide (c.tns.length=w∧∀ l∈c.tns,lZ c.info.short l)))):=by
 have hl:=hc.tns.1
 have h0:=NY c.info.short c.tns hc.tns.1 hc.tns.2 c.tns 0 2 [(1,.cells [.d (.bool c.info.short)])] rfl (by simp) (fun p hp=>by rw[List.mem_singleton]at hp;subst hp;show 1<2;omega) (by omega)
 have c0:((0:Nat):Int)=0:=rfl
 rw[c0]at h0
 have m1:((1:Nat):Int)=1:=rfl
 have m3:((3:Nat):Int)=3:=rfl
 rw[au Qc r8.eq_1 rfl]
 by_cases h1:c.tns.length=w
 ·have hsh:c.info.short=decide (c.info.seq=2):=rfl
  have e:decide (c.tns.length=w∧∀ l∈c.tns,lZ c.info.short l)=decide (∀ l∈c.tns,lZ c.info.short l):=by simp[h1]
  rw[e]
  rcases h0 with ⟨f1,H2,M2,f2⟩ | ⟨f1,H2,M2,f2⟩
  ·rw[decide_eq_true f1]
   by_cases hs:c.info.seq=2
   ·rw[decide_eq_true hs]at hsh
    rw[hsh]at f2
    simp only[jb,if_true,m1]at f2
    simp (maxSteps:=300000) (disch:=omega) [↓if_pos,↓if_neg,f2]
   ·rw[decide_eq_false hs]at hsh
    rw[hsh]at f2
    simp only[jb,Bool.false_eq_true,if_false,m3]at f2
    simp (maxSteps:=300000) (disch:=omega) [↓if_pos,↓if_neg,f2]
  ·rw[decide_eq_false f1]
   by_cases hs:c.info.seq=2
   ·rw[decide_eq_true hs]at hsh
    rw[hsh]at f2
    simp only[jb,if_true,m1]at f2
    simp (maxSteps:=300000) (disch:=omega) [↓if_pos,↓if_neg,f2]
   ·rw[decide_eq_false hs]at hsh
    rw[hsh]at f2
    simp only[jb,Bool.false_eq_true,if_false,m3]at f2
    simp (maxSteps:=300000) (disch:=omega) [↓if_pos,↓if_neg,f2]
 ·rw[decide_eq_false (fun h=>h1 h.1)]
  by_cases hs:c.info.seq=2
  ·simp (maxSteps:=300000) (disch:=omega) [↓if_pos,↓if_neg]
  ·simp (maxSteps:=300000) (disch:=omega) [↓if_pos,↓if_neg]
end Go.Vm
namespace Go.Vm
set_option maxHeartbeats 2000000
set_option maxRecDepth 100000
def tL:Int→List aA→Option Int
 | a,[]=>some a
 | a,s::r=>if (1≤s.len∧s.len≤40)∧EF s.book then tL (a+s.len) r else none
theorem Qn:∀ {l:List aA}{a v:Int},tL a l=some v→a+l.length≤v∧v≤a+40*l.length
 | [],a,v,h=>by simp only[tL]at h;injection h with h;simp;omega
 | s::r,a,v,h=>by
  rw[tL]at h
  split at h
  ·rename_i h1
   have:=Qn h
   simp only[List.length_cons];omega
  ·exact absurd h (by simp)
theorem DM {m:Int}(hm:m≤40):∀ {l:List aA}{a:Int},0≤a→(tL a l=some m↔fitsS (m-a) l)
 | [],a,h=>by
  simp only[tL,fitsS,Option.some.injEq];omega
 | s::r,a,h=>by
  rw[tL,fitsS]
  by_cases h1:(1≤s.len∧s.len≤40)∧EF s.book
  ·rw[if_pos h1,DM hm (by omega)]
   have e:m-(a+s.len)=m-a-s.len:=by omega
   rw[e]
   constructor
   ·intro h2
    refine⟨⟨⟨h1.1.1,?_⟩,h1.2⟩,h2⟩
    have:=(DM (l:=r) (a:=a+s.len) hm (by omega)).2 (by rw[e];exact h2)
    have:=Qn this
    omega
   ·intro h2;exact h2.2
  ·rw[if_neg h1]
   constructor
   ·intro h2;exact absurd h2 (by simp)
   ·intro h2
    obtain⟨⟨⟨a1,a2⟩,a3⟩,a4⟩:=h2
    exact absurd ⟨⟨a1,by omega⟩,a3⟩ h1
theorem KD (full:List aA) (hl:full.length≤1000) (X:Obj) (x4:AV) (x17:AV) (y18 y19:D):∀ (r:List aA) (i:Nat) (a:Int) (N:Nat),full.drop i=r→0≤a∧a≤40*i→1≤N→
  ∃ M,N≤M∧(Dn prog).code (.loop fI) ⟨[(1,.ptr 0 0),(4,x4),(5,.d (.int .i64 a)),(17,x17),(18,.d y18),(19,.d y19),(23,.d (.lst (iz full))),(24,.d (.int .i64 full.length)),(25,.d (.int .i64 i))],⟨[(0,X)],N⟩⟩ =
  match tL a r with
  | some v=>some (.exit 2,⟨[(1,.ptr 0 0),(4,x4),(5,.d (.int .i64 v)),(17,x17),(18,.d y18),(19,.d y19)],⟨[(0,X)],M⟩⟩)
  | none=>some (.ret,⟨[(2,.d (.bool false))],⟨[],M⟩⟩):=by
 intro r
 induction r with
 | nil =>
  intro i a N h h0 hN
  have hi:=aH h
  refine⟨N,Nat.le_refl _,?_⟩
  rw[aa fI.eq_1,tL]
  simp (maxSteps:=300000) (disch:=omega) [↓if_pos,↓if_neg]
 | cons s r ih =>
  intro i a N h h0 hN
  have hg:=nS h
  have hlt:=aQ h
  have hN0:N≠0:=by omega
  by_cases hr:(1≤s.len∧s.len≤40)∧EF s.book
  ·have hr1:=hr.1
   obtain⟨M,hM,e⟩:=ih (i+1) (a+s.len) (N+1) (aL h) (by omega) (by omega)
   refine⟨M,by omega,?_⟩
   have c1:((i+1:Nat):Int)=(i:Int)+1:=rfl
   rw[c1]at e
   rw[aa fI.eq_1,tL,if_pos hr,←e]
   obtain⟨⟨r1,r2⟩,r3,r4 | r4⟩:=hr
   ·simp (maxSteps:=300000) (disch:=omega) [↓if_pos,↓if_neg,hg,hN0]
   ·simp (maxSteps:=300000) (disch:=omega) [↓if_pos,↓if_neg,hg,hN0]
  ·refine⟨N+1,by omega,?_⟩
   rw[aa fI.eq_1,tL,if_neg hr]
   by_cases b1:s.len<1
   ·simp (maxSteps:=300000) (disch:=omega) [↓if_pos,↓if_neg,hg,hN0]
   ·by_cases b2:40<s.len
    ·simp (maxSteps:=300000) (disch:=omega) [↓if_pos,↓if_neg,hg,hN0]
    ·by_cases b3:s.book<0
     ·simp (maxSteps:=300000) (disch:=omega) [↓if_pos,↓if_neg,hg,hN0]
     ·have b4:11<s.book∧s.book≠13:=by
       unfold EF at hr;omega
      obtain⟨b4,b5⟩:=b4
      simp (maxSteps:=300000) (disch:=omega) [↓if_pos,↓if_neg,hg,hN0]
theorem ahs:∀ x∈uQ,pg x.1 x.2≤40:=by decide +kernel
theorem oe {i:aG}(hm:i.may 11):0≤i.max∧i.max≤40:=by
 have h1:=hm.2.2.1
 have h2:=hm.2.2.2.1
 have h3:=ahs _ (iX (r:=11) (s:=decide (i.seq=2)) (by omega))
 simp only[]at h3
 omega
theorem JT (c:bB) (hm:0≤c.info.max∧c.info.max≤40) (hl:c.sects.length≤1000) (hl2:∀ l∈c.sects,l.length≤1000):∀ (g:List (List aA)) (j:Nat) (N:Nat),c.sects.drop j=g→1≤N→
  ∃ H M,(Dn prog).code (.loop d9) ⟨[(1,.ptr 0 0),(17,.d (.lst (da c.sects))),(18,.d (.int .i64 c.sects.length)),(19,.d (.int .i64 j))],⟨[(0,.cells c.av)],N⟩⟩ =
  if cG c.info.max g then some (.exit 0,⟨[],⟨H,M⟩⟩) else some (.ret,⟨[(2,.d (.bool false))],⟨H,M⟩⟩):=by
 simp only[bB.av]
 intro g
 induction g with
 | nil =>
  intro j N h hN
  have hi:=aH h
  refine⟨[],N,?_⟩
  rw[aa d9.eq_1,if_pos (show cG c.info.max [] from fun _ h=>by simp at h)]
  simp (maxSteps:=300000) (disch:=omega) [↓if_pos,↓if_neg]
 | cons l r ih =>
  intro j N h hN
  have hg:=iO h
  have hlt:=aQ h
  have hll:l.length≤1000:=hl2 l (by rw[←List.take_append_drop j c.sects,h];simp)
  obtain⟨M,hM,e⟩:=KD l hll (.cells c.av) (.d (.lst (iz l))) (.d (.lst (da c.sects))) (.int .i64 c.sects.length) (.int .i64 j) l 0 0 N rfl (by omega) hN
  have c0:((0:Nat):Int)=0:=rfl
  rw[c0]at e
  simp only[bB.av]at e
  have hiff:=DM (m:=c.info.max) hm.2 (l:=l) (a:=0) (by omega)
  rw[Int.sub_zero]at hiff
  cases hrm:tL 0 l with
  | none =>
   rw[hrm]at e hiff
   refine⟨[],M,?_⟩
   have hn:¬ cG c.info.max (l::r):=fun h=>absurd (hiff.2 (h l (.head _))) (by simp)
   rw[aa d9.eq_1,if_neg hn]
   simp (maxSteps:=300000) (disch:=omega) [↓if_pos,↓if_neg,hg,e]
  | some v =>
   rw[hrm]at e hiff
   have hv:=Qn hrm
   by_cases h9:v=c.info.max
   ·subst h9
    have hf:=hiff.1 rfl
    obtain⟨H2,M2,e2⟩:=ih (j+1) M (aL h) (by omega)
    refine⟨H2,M2,?_⟩
    have hx:cG c.info.max (l::r)↔cG c.info.max r:=by simp[cG,hf]
    have c1:((j+1:Nat):Int)=(j:Int)+1:=rfl
    rw[c1]at e2
    rw[aa d9.eq_1,abu hx,←e2]
    simp (maxSteps:=300000) (disch:=omega) [↓if_pos,↓if_neg,hg,e]
   ·refine⟨[],M,?_⟩
    have hn:¬ cG c.info.max (l::r):=fun h=>by
     have:=hiff.2 (h l (.head _))
     injection this with this;exact h9 this
    rw[aa d9.eq_1,if_neg hn]
    simp (maxSteps:=300000) (disch:=omega) [↓if_pos,↓if_neg,hg,e]
instance {m:Int}{g:List (List aA)}:Decidable (cG m g):=by unfold cG;infer_instance
theorem UO (c:bB) (hc:c.Fit) (hm:c.info.may 11):aW prog kG [.agg c.av]=some (.d (.bool (decide (j9 c.info c.sects)))):=by
 obtain⟨H,M,e⟩:=JT c (oe hm) hc.sects.1 hc.sects.2 c.sects 0 1 rfl (by omega)
 have c0:((0:Nat):Int)=0:=rfl
 rw[c0]at e
 simp only[bB.av]at e⊢
 have hl1:=hc.sects.1
 have hl2:=hc.info.len
 rw[au Nc pf.eq_1 rfl]
 by_cases h1:c.sects.length=c.info.groups.length
 ·by_cases h2:cG c.info.max c.sects
  ·rw[decide_eq_true ⟨h1,h2⟩]
   rw[if_pos h2]at e
   simp (maxSteps:=300000) (disch:=omega) [↓if_pos,↓if_neg,e]
  ·rw[decide_eq_false (fun h=>h2 h.2)]
   rw[if_neg h2]at e
   simp (maxSteps:=300000) (disch:=omega) [↓if_pos,↓if_neg,e]
 ·rw[decide_eq_false (fun h=>h1 h.1)]
  simp (maxSteps:=300000) (disch:=omega) [↓if_pos,↓if_neg]
end Go.Vm
namespace Go.Vm
set_option maxHeartbeats 2000000
set_option maxRecDepth 100000
theorem xi (w n:Int) (hw:-1000≤w∧w≤1000) (hn:-1000≤n∧n≤1000):aW prog sU [.d (.int .i64 w),.d (.int .i64 n)]=some (.d (.bool (decide (w-60≤n∧n≤w+60)))):=by
 rw[au YW xT.eq_1 rfl]
 by_cases h1:w-60≤n
 ·by_cases h2:n≤w+60
  ·rw[decide_eq_true ⟨h1,h2⟩]
   simp (maxSteps:=300000) (disch:=omega) [↓if_pos,↓if_neg]
  ·rw[decide_eq_false (fun h=>h2 h.2)]
   simp (maxSteps:=300000) (disch:=omega) [↓if_pos,↓if_neg]
 ·rw[decide_eq_false (fun h=>h1 h.1)]
  simp (maxSteps:=300000) (disch:=omega) [↓if_pos,↓if_neg]
theorem WQ (full:List aA) (hl:full.length≤1000):∀ (r:List aA) (i b N:Nat) (lf:Int) (k:Int),full.drop i=r→fitsS lf r→lf≤1000→(aq r)[b]?=some k→
  ∃ M,(Dn prog).code (.loop lX) ⟨[(2,.d (.int .i64 b)),(25,.d (.lst (iz full))),(26,.d (.int .i64 full.length)),(27,.d (.int .i64 i))],⟨[],N⟩⟩ =
  some (.ret,⟨[(6,.d (.int .i64 k)),(7,.d (.int .i64 0))],⟨[],M⟩⟩):=by
 intro r
 induction r with
 | nil=>intro i b N lf k h hf h0 hk;simp[aq]at hk
 | cons s r ih =>
  intro i b N lf k h hf h0 hk
  have hg:=nS h
  have hlt:=aQ h
  obtain⟨h1,h2⟩:=hf
  have h3:=h1.1
  have eb:aq (s::r)=List.replicate s.len.toNat s.book++aq r:=by rw[aq,List.flatMap_cons];rfl
  rw[eb]at hk
  by_cases hb:(b:Int)<s.len
  ·rw[List.getElem?_append_left (by simp;omega)]at hk
   have hk2:k=s.book:=by
    rw[List.getElem?_replicate]at hk
    split at hk
    ·injection hk with hk;exact hk.symm
    ·exact absurd hk (by simp)
   subst hk2
   refine⟨N+1,?_⟩
   rw[aa lX.eq_1]
   simp (maxSteps:=300000) (disch:=omega) [↓if_pos,↓if_neg,hg]
  ·rw[List.getElem?_append_right (by simp;omega)]at hk
   simp only[List.length_replicate]at hk
   obtain⟨M,e⟩:=ih (i+1) (b-s.len.toNat) (N+1) (lf-s.len) k (aL h) h2 (by omega) hk
   refine⟨M,?_⟩
   have c1:((i+1:Nat):Int)=(i:Int)+1:=rfl
   have c2:((b-s.len.toNat:Nat):Int)=(b:Int)-s.len:=by omega
   have hbl:b<100000000:=by
    have:=List.getElem?_eq_some_iff.1 hk
    obtain⟨h5,_⟩:=this
    have:=lj h2 (by omega)
    omega
   rw[c1,c2]at e
   rw[aa lX.eq_1,←e]
   simp (maxSteps:=300000) (disch:=omega) [↓if_pos,↓if_neg,hg]
theorem T6 (g:List (List aA)) (hl:g.length≤1000) (hl2:∀ l∈g,l.length≤1000) (m:Int) (hm:m≤1000) (hf:cG m g) (j b:Nat) (l:List aA) (r:List (List aA)) (hd:g.drop j=l::r) (k:Int) (hk:(aq l)[b]?=some k) :
  aW prog sM [.d (.lst (da g)),.d (.int .i64 j),.d (.int .i64 b)]=some (.tup [.d (.int .i64 k),.d (.int .i64 0)]):=by
 have hg:=iO hd
 have hlt:=aQ hd
 have hmem:l∈g:=by rw[←List.take_append_drop j g,hd];simp
 have hbl:b<100000000:=by
  obtain⟨h5,_⟩:=List.getElem?_eq_some_iff.1 hk
  have h6:=hf l hmem
  rcases Int.le_total 0 m with h | h
  ·have:=lj h6 h
   omega
  ·rcases vO h6 with h7 | h7
   ·have:l=[]:=by cases l with | nil=>rfl | cons=>simp at h7;omega
    subst this;simp[aq]at h5
   ·subst h7;simp[aq]at h5
 obtain⟨M,e⟩:=WQ l (hl2 l hmem) l 0 b 0 m k rfl (hf l hmem) hm hk
 have c0:((0:Nat):Int)=0:=rfl
 rw[c0]at e
 rw[au Y2 yH.eq_1 rfl]
 simp (maxSteps:=300000) (disch:=omega) [↓if_pos,↓if_neg,hg,e]
def mG (z:Int):Int:=if 0≤z then z else 0
theorem RK {k n:Int}{r t:List Int}{w z:Int}(h:k=0→n≠0) (h1:k≠0→¬ ky k n w z):bW (k::r) (n::t) w z=none:=by
 rw[bW]
 by_cases h0:k=0
 ·rw[if_pos h0,if_neg (h h0)]
 ·rw[if_neg h0,if_neg (h1 h0)]
theorem UK (c:bB) (hl:c.sects.length≤1000) (hl2:∀ l∈c.sects,l.length≤1000) (m:Int) (hm:0≤m∧m≤1000) (hf:cG m c.sects) (x23:AV) (y24 y25:D) (j:Nat) (l:List aA) (rr:List (List aA)) (hd:c.sects.drop j=l::rr) (t:List Int) (ht:t.length≤1000) (hbl:(aq l).length=t.length) (htI:∀ n∈t,i64 n) (N:Nat):∀ (r:List Int) (b:Nat) (w z:Int),t.drop b=r→j0 w→j0 z→
  ∃ H,(Dn prog).code (.loop de) ⟨[(1,.ptr 0 0),(3,.d (.int .i64 w)),(4,.d (.int .i64 (mG z))),(5,.d (.bool (decide (0≤z)))),(6,.d (.int .i64 j)),(23,x23),(24,.d y24),(25,.d y25),(36,.d (.lst (aP t))),(37,.d (.int .i64 t.length)),(38,.d (.int .i64 b))],⟨[(0,.cells c.av)],N⟩⟩ =
  match bW ((aq l).drop b) r w z with
  | some (w,z)=>some (.exit 2,⟨[(1,.ptr 0 0),(3,.d (.int .i64 w)),(4,.d (.int .i64 (mG z))),(5,.d (.bool (decide (0≤z)))),(23,x23),(24,.d y24),(25,.d y25)],⟨[(0,.cells c.av)],N⟩⟩)
  | none=>some (.ret,⟨[(2,.d (.bool false))],⟨H,N⟩⟩):=by
 simp only[bB.av]
 intro r
 induction r with
 | nil =>
  intro b w z h hw hz
  have hi:=aH h
  refine⟨[],?_⟩
  rw[aa de.eq_1,List.drop_eq_nil_of_le (by omega),bW]
  simp (maxSteps:=300000) (disch:=omega) [↓if_pos,↓if_neg]
 | cons n r ih =>
  intro b w z h hw hz
  have hg:=oc h
  have hlt:=aQ h
  have hnI:=htI n (by rw[←List.take_append_drop b t,h];simp)
  have hblt:b<(aq l).length:=by omega
  have hkk:=List.drop_eq_getElem_cons hblt
  obtain⟨k,hk⟩:∃ k,k=(aq l)[b]:=⟨_,rfl⟩
  have hk?:(aq l)[b]?=some k:=by rw[hk];exact List.getElem?_eq_getElem hblt
  have hmem:l∈c.sects:=by rw[←List.take_append_drop j c.sects,hd];simp
  have hkr:=Kq (hf l hmem) k (by rw[hk];exact List.getElem_mem hblt)
  rw[←hk]at hkk
  have hB:=T6 c.sects hl hl2 m hm.2 hf j b l rr hd k hk?
  have c1:((b+1:Nat):Int)=(b:Int)+1:=rfl
  rw[hkk]
  by_cases k0:k=0
  ·by_cases n0:n=0
   ·obtain⟨H,e⟩:=ih (b+1) w z (aL h) hw hz
    refine⟨H,?_⟩
    rw[c1]at e
    have eR:bW (k::(aq l).drop (b+1)) (n::r) w z=bW ((aq l).drop (b+1)) r w z:=by rw[bW,if_pos k0,if_pos n0]
    rw[aa de.eq_1,eR,←e]
    subst k0 n0
    simp (maxSteps:=300000) (disch:=omega) [↓if_pos,↓if_neg,hg,hB]
   ·refine⟨[],?_⟩
    rw[aa de.eq_1,RK (fun _=>n0) (fun h=>absurd k0 h)]
    subst k0
    simp (maxSteps:=300000) (disch:=omega) [↓if_pos,↓if_neg,hg,hB]
  ·by_cases k13:k=13
   ·by_cases ho:ky k n w z
    ·have hn5:=tw ho
     obtain⟨H,e⟩:=ih (b+1) w n (aL h) hw hn5
     refine⟨H,?_⟩
     unfold ky at ho
     rw[if_pos k13]at ho
     have hnn:mG n=n:=by unfold mG;rw[if_pos (by omega)]
     rw[c1,hnn,decide_eq_true (show 0≤n by omega)]at e
     have eR:bW (k::(aq l).drop (b+1)) (n::r) w z=bW ((aq l).drop (b+1)) r w n:=by rw[bW,if_neg k0,if_pos (by unfold ky;rw[if_pos k13];exact ho),if_pos k13]
     rw[aa de.eq_1,eR,←e]
     subst k13
     by_cases hz0:0≤z
     ·have hzn:mG z=z:=by unfold mG;rw[if_pos hz0]
      have hnr:=xi z n (by omega) (by omega)
      rw[decide_eq_true (show z-60≤n∧n≤z+60 by omega)]at hnr
      rw[hzn,decide_eq_true hz0]
      simp (maxSteps:=300000) (disch:=omega) [↓if_pos,↓if_neg,hg,hB,hnr]
     ·rw[decide_eq_false hz0]
      simp (maxSteps:=300000) (disch:=omega) [↓if_pos,↓if_neg,hg,hB]
    ·refine⟨[],?_⟩
     rw[aa de.eq_1,RK (fun h=>absurd h k0) (fun _=>ho)]
     unfold ky at ho
     rw[if_pos k13]at ho
     subst k13
     by_cases b1:n<0
     ·simp (maxSteps:=300000) (disch:=omega) [↓if_pos,↓if_neg,hg,hB]
     ·by_cases b2:511<n
      ·simp (maxSteps:=300000) (disch:=omega) [↓if_pos,↓if_neg,hg,hB]
      ·have hz0:0≤z:=by omega
       have hzn:mG z=z:=by unfold mG;rw[if_pos hz0]
       have hnr:=xi z n (by omega) (by omega)
       rw[decide_eq_false (show ¬ (z-60≤n∧n≤z+60) by omega)]at hnr
       rw[hzn,decide_eq_true hz0]
       simp (maxSteps:=300000) (disch:=omega) [↓if_pos,↓if_neg,hg,hB,hnr]
   ·by_cases ho:ky k n w z
    ·have hn5:=tw ho
     obtain⟨H,e⟩:=ih (b+1) n z (aL h) hn5 hz
     refine⟨H,?_⟩
     have eR:bW (k::(aq l).drop (b+1)) (n::r) w z=bW ((aq l).drop (b+1)) r n z:=by rw[bW,if_neg k0,if_pos ho,if_neg k13]
     unfold ky at ho
     rw[if_neg k13]at ho
     rw[c1]at e
     have hnr:=xi w n (by omega) (by omega)
     rw[decide_eq_true (show w-60≤n∧n≤w+60 by omega)]at hnr
     rw[aa de.eq_1,eR,←e]
     simp (maxSteps:=300000) (disch:=omega) [↓if_pos,↓if_neg,hg,hB,hnr]
    ·refine⟨[],?_⟩
     rw[aa de.eq_1,RK (fun h=>absurd h k0) (fun _=>ho)]
     unfold ky at ho
     rw[if_neg k13]at ho
     by_cases b1:n<0
     ·simp (maxSteps:=300000) (disch:=omega) [↓if_pos,↓if_neg,hg,hB]
     ·by_cases b2:255<n
      ·simp (maxSteps:=300000) (disch:=omega) [↓if_pos,↓if_neg,hg,hB]
      ·have hnr:=xi w n (by omega) (by omega)
       rw[decide_eq_false (show ¬ (w-60≤n∧n≤w+60) by omega)]at hnr
       simp (maxSteps:=300000) (disch:=omega) [↓if_pos,↓if_neg,hg,hB,hnr]
theorem ago {bks:List Int}:∀ {t:List Int}{w z:Int}{fin:Int×Int},j0 w→j0 z→bW bks t w z=some fin→j0 fin.1∧j0 fin.2:=by
 induction bks with
 | nil =>
  intro t w z fin hw hz h
  cases t with
  | nil=>rw[bW]at h;injection h with h;subst h;exact⟨hw,hz⟩
  | cons n t=>exact absurd h (by simp[bW])
 | cons k r ih =>
  intro t w z fin hw hz h
  cases t with
  | nil=>exact absurd h (by simp[bW])
  | cons n t =>
   obtain⟨h1,h2,h3⟩:=xG (by rw[h];simp)
   rw[h]at h3
   refine ih ?_ ?_ h3.symm
   ·unfold gB
    by_cases h0:k=0
    ·rw[if_pos h0];exact hw
    ·rw[if_neg h0];split
     ·exact hw
     ·exact tw (h2 h0)
   ·unfold gB
    by_cases h0:k=0
    ·rw[if_pos h0];exact hz
    ·rw[if_neg h0];split
     ·exact tw (h2 h0)
     ·exact hz
theorem Vd (c:bB) (hc:c.Fit) (hm:c.info.may 11) (hf:cG c.info.max c.sects):∀ (gr:List (List aA)) (sr:List (List Int)) (j N:Nat) (w z:Int),c.sects.drop j=gr→c.steps.drop j=sr→gr.length=sr.length→j0 w→j0 z→
  ∃ H M,(Dn prog).code (.loop fU) ⟨[(1,.ptr 0 0),(3,.d (.int .i64 w)),(4,.d (.int .i64 (mG z))),(5,.d (.bool (decide (0≤z)))),(23,.d (.lst (eZ c.steps))),(24,.d (.int .i64 c.steps.length)),(25,.d (.int .i64 j))],⟨[(0,.cells c.av)],N⟩⟩ =
  match kD gr sr w z with
  | some _=>some (.exit 0,⟨[],⟨H,M⟩⟩)
  | none=>some (.ret,⟨[(2,.d (.bool false))],⟨H,M⟩⟩):=by
 have hmx:=oe hm
 have hl1:=hc.steps.1
 simp only[bB.av]
 intro gr
 induction gr with
 | nil =>
  intro sr j N w z hd hd2 he hw hz
  have hi2:c.steps.length≤j:=by
   have:sr=[]:=by cases sr with | nil=>rfl | cons=>simp at he
   subst this
   exact aH hd2
  have hsr:sr=[]:=by cases sr with | nil=>rfl | cons=>simp at he
  refine⟨[],N,?_⟩
  rw[aa fU.eq_1,hsr,kD]
  simp (maxSteps:=300000) (disch:=omega) [↓if_pos,↓if_neg]
 | cons l r ih =>
  intro sr j N w z hd hd2 he hw hz
  cases sr with
  | nil=>simp at he
  | cons t s =>
   simp only[List.length_cons,Nat.add_right_cancel_iff]at he
   have hgt:=xL hd2
   have hlt2:=aQ hd2
   have hmt:t∈c.steps:=by rw[←List.take_append_drop j c.steps,hd2];simp
   have htl:=hc.steps.2 t hmt
   have hml:l∈c.sects:=by rw[←List.take_append_drop j c.sects,hd];simp
   have hbk:=lj (hf l hml) hmx.1
   have c1:((j+1:Nat):Int)=(j:Int)+1:=rfl
   have c0:((0:Nat):Int)=0:=rfl
   rw[kD]
   by_cases hlen:(t.length:Int)=c.info.max
   ·obtain⟨H,e⟩:=UK c hc.sects.1 hc.sects.2 c.info.max ⟨hmx.1,by omega⟩ hf (.d (.lst (eZ c.steps))) (.int .i64 c.steps.length) (.int .i64 j) j l r hd t htl (by omega) (hc.stepI t hmt) N t 0 w z rfl hw hz
    rw[c0,List.drop_zero]at e
    simp only[bB.av]at e
    cases hrow:bW (aq l) t w z with
    | none =>
     rw[hrow]at e
     refine⟨H,N,?_⟩
     rw[aa fU.eq_1]
     simp (maxSteps:=300000) (disch:=omega) [↓if_pos,↓if_neg,hgt,cu,e]
    | some fin =>
     rw[hrow]at e
     obtain⟨f1,f2⟩:=ago hw hz hrow
     obtain⟨H2,M2,e2⟩:=ih s (j+1) N fin.1 fin.2 (aL hd) (aL hd2) he f1 f2
     rw[c1]at e2
     refine⟨H2,M2,?_⟩
     rw[aa fU.eq_1]
     simp only
     rw[←e2]
     simp (maxSteps:=300000) (disch:=omega) [↓if_pos,↓if_neg,hgt,cu,e]
   ·refine⟨[],N,?_⟩
    have hn:bW (aq l) t w z=none:=by
     cases hrow:bW (aq l) t w z with
     | none=>rfl
     | some fin=>have:=I1 hrow;omega
    rw[aa fU.eq_1,hn]
    simp (maxSteps:=300000) (disch:=omega) [↓if_pos,↓if_neg,hgt,cu]
instance {gain:Int}{g:List (List aA)}{t:List (List Int)}:Decidable (sm gain g t):=by unfold sm;infer_instance
theorem aaP (c:bB) (hc:c.Fit) (hm:c.info.may 11) (hgn:0≤c.gain∧c.gain≤255) (hs:j9 c.info c.sects):aW prog pc [.agg c.av]=some (.d (.bool (decide (sm c.gain c.sects c.steps)))):=by
 have hl1:=hc.steps.1
 have hl2:=hc.info.len
 have c0:((0:Nat):Int)=0:=rfl
 have hnv:mG (-1)=0:=rfl
 have hdf:decide ((0:Int)≤-1)=false:=rfl
 rw[au XF wW.eq_1 rfl]
 simp only[bB.av]
 by_cases h1:c.steps.length=c.info.groups.length
 ·obtain⟨H,M,e⟩:=Vd c hc hm hs.2 c.sects c.steps 0 1 c.gain (-1) rfl rfl (by have:=hs.1;omega) (by omega) (by omega)
  rw[c0,hnv,hdf]at e
  simp only[bB.av]at e
  by_cases hr:kD c.sects c.steps c.gain (-1)=none
  ·rw[hr]at e
   rw[decide_eq_false (fun h=>h hr)]
   simp (maxSteps:=300000) (disch:=omega) [↓if_pos,↓if_neg,e]
  ·obtain⟨fin,hf⟩:=Option.ne_none_iff_exists'.1 hr
   rw[hf]at e
   rw[decide_eq_true hr]
   simp (maxSteps:=300000) (disch:=omega) [↓if_pos,↓if_neg,e]
 ·rw[decide_eq_false (fun h=>h1 (by have:=xF h;have:=hs.1;omega))]
  simp (maxSteps:=300000) (disch:=omega) [↓if_pos,↓if_neg]
end Go.Vm
namespace Go.Vm
set_option maxHeartbeats 2000000
set_option maxRecDepth 100000
theorem Yi {h:ac}{l:List Int}{a b:Nat}(hab:a≤b) (hb:b≤l.length) (x y:Int) (hx:x=a) (hy:y=b):lg h 1 (.d (.lst (aP l))) (some (.d (.int .i64 x))) (some (.d (.int .i64 y))) none=some (.d (.lst (aP ((l.drop a).take (b-a))))):=by
 subst hx hy
 have e1:bO (.d (.int .i64 (b:Int))) (aP l).length=some b:=by rw[F8 (by omega) (by rw[cu];omega)];simp
 have e2:bO (.d (.int .i64 (a:Int))) b=some a:=by rw[F8 (by omega) (by omega)];simp
 have e3:tf 1 (aP l)=true:=by cases l<;>rfl
 simp only[lg,okSl,j8,lenOf,o8,jK,e1,e2,e3,sub]
 rw[acS,adg]
theorem aeI {id:Nat}(hid:1≤id∧id≤11):dT id≤8191:=(ut id (Mo hid)).2.2.2
theorem acI (id:Nat) (hid:1≤id∧id≤11) (v:Int) (hv:i64 v):aW prog yI [.d (.int .i64 id),.d (.int .i64 v)]=some (.d (.bool (decide (v.natAbs≤dT id)))):=by
 have i4:[[D.int .i64 v],[D.int .i64 0],[D.int .i64 0],[D.int .i64 0]]=aP [v,0,0,0]:=rfl
 have i2:[[D.int .i64 v],[D.int .i64 0]]=aP [v,0]:=rfl
 have hm:=aeI hid
 have hz:ze (dT id) 0=false:=by unfold ze;rw[decide_eq_false];omega
 have hf:ze (dT id) v=!decide (v.natAbs≤dT id):=by
  unfold ze
  by_cases h:v.natAbs≤dT id
  ·rw[decide_eq_true h,decide_eq_false (by omega)];rfl
  ·rw[decide_eq_false h,decide_eq_true (by omega)];rfl
 rw[au Yz yl.eq_1 rfl]
 by_cases h4:4<id
 ·have h:=D8 id hid [v,0] (by unfold aZ;rw[if_neg (by omega)];rfl)
  simp only[List.any_cons,List.any_nil,hz,hf,Bool.or_false,Bool.not_not]at h
  rw[←i2]at h
  generalize decide (v.natAbs≤dT id)=B at *
  have hs:lg [] 1 (.own false 1 [[.int .i64 v],[.int .i64 0],[.int .i64 0],[.int .i64 0]]) none (some (.d (.int .i64 2))) none=some (.d (.lst [[.int .i64 v],[.int .i64 0]])):=rfl
  simp (maxSteps:=300000) (disch:=omega) [↓if_pos,↓if_neg,hs,h]
 ·have h:=D8 id hid [v,0,0,0] (by unfold aZ;rw[if_pos (by omega)];rfl)
  simp only[List.any_cons,List.any_nil,hz,hf,Bool.or_false,Bool.not_not]at h
  rw[←i4]at h
  generalize decide (v.natAbs≤dT id)=B at *
  simp (maxSteps:=300000) (disch:=omega) [↓if_pos,↓if_neg,h]
def ir:List Nat→Nat→Nat
 | [],_=>0
 | x::r,i=>if x≤i then ir r i+1 else 0
theorem Uh (os:List Nat) (ho:os.length≤100) (X:Obj) (x4 x54:AV) (y10 y12 y16 y34 y35 y55 y56:D) (i:Nat) (hi:i≤1000) (hoI:∀ x∈os,x≤1000) (hp:HS):∀ (r:List Nat) (b:Nat),os.drop (b+1)=r→(∃ x∈r,i<x)→
  (Dn prog).code (.loop ph) ⟨[(4,x4),(8,.own false 1 (bm os)),(10,.d y10),(12,.d y12),(14,.d (.int .i64 b)),(15,.d (.int .i64 i)),(16,.d y16),(34,.d y34),(35,.d y35),(54,x54),(55,.d y55),(56,.d y56)],hp⟩ =
  some (.exit 4,⟨[(4,x4),(8,.own false 1 (bm os)),(10,.d y10),(12,.d y12),(14,.d (.int .i64 (b+ir r i:Nat))),(16,.d y16),(34,.d y34),(35,.d y35),(54,x54),(55,.d y55),(56,.d y56)],hp⟩):=by
 obtain⟨h,n⟩:=hp
 intro r
 induction r with
 | nil=>intro b hd hx;obtain⟨x,hx,_⟩:=hx;simp at hx
 | cons x r ih =>
  intro b hd hx
  have hlt:=aQ hd
  have hnx:nth os (b+1)=x:=by
   have h2:=lv (l:=os) hlt
   rw[hd]at h2;injection h2 with h2;exact h2.symm
  have hg:(bm os)[b+1]?=some [.int .i64 (x:Int)]:=by rw[BZ hlt,hnx]
  have hxI:=hoI x (by rw[←hnx];exact lI hlt)
  rw[aa ph.eq_1,ir]
  by_cases h1:x≤i
  ·have hx2:∃ y∈r,i<y:=by
    obtain⟨y,hy,h3⟩:=hx
    rcases List.mem_cons.1 hy with e | e
    ·omega
    ·exact⟨y,e,h3⟩
   have h5:=ih (b+1) (aL hd) hx2
   have c1:((b+1:Nat):Int)=(b:Int)+1:=rfl
   rw[c1]at h5
   rw[if_pos h1,show b+(ir r i+1)=b+1+ir r i by omega,←h5]
   simp (maxSteps:=300000) (disch:=omega) [↓if_pos,↓if_neg,hg]
  ·rw[if_neg h1]
   simp (maxSteps:=300000) (disch:=omega) [↓if_pos,↓if_neg,hg]
theorem NI {l:List Nat}{i:Nat}:∀ {b:Nat},b≤l.length→(∀ x∈l.take b,x≤i)→ir l i=b+ir (l.drop b) i:=by
 induction l with
 | nil=>intro b hb h;simp at hb;subst hb;simp[ir]
 | cons x r ih =>
  intro b hb h
  cases b with
  | zero=>simp
  | succ b =>
   rw[ir,if_pos (h x (by simp)),ih (b:=b) (by simpa using hb) (fun y hy=>h y (by simp[hy])),List.drop_succ_cons]
   omega
theorem abg {l:List Nat}{i:Nat}:∀ x∈l.take (ir l i),x≤i:=by
 induction l with
 | nil=>intro x hx;simp at hx
 | cons y r ih =>
  intro x hx
  rw[ir]at hx
  by_cases h:y≤i
  ·rw[if_pos h,List.take_succ_cons]at hx
   rcases List.mem_cons.1 hx with e | e
   ·omega
   ·exact ih x e
  ·rw[if_neg h]at hx;simp at hx
theorem ad8 {l:List Nat}{i:Nat}:ir l i≤l.length:=by
 induction l with
 | nil=>simp[ir]
 | cons y r ih=>rw[ir];split<;>simp<;>omega
def Dc (tl:List Nat) (bks:List Int) (i:Nat) (v:Int):Prop:=v=0∨∃ k,bks[ir tl i]?=some k∧(1≤k∧k≤11)∧v.natAbs≤dT k.toNat
def pb (tl:List Nat) (bks:List Int):Nat→List Int→Prop
 | _,[]=>True
 | i,v::r=>Dc tl bks i v∧pb tl bks (i+1) r
theorem U2 (c:bB) (hc:c.Fit) (hm:c.info.may 11) (hf:cG c.info.max c.sects) (os:List Nat) (ho:os.length≤100) (hoI:∀ x∈os,x≤1000) (hne:os≠[]) (y10 y34 y35:D) (j:Nat) (l:List aA) (rr:List (List aA)) (hd:c.sects.drop j=l::rr) (ls:List Int) (hls:ls.length≤1000) (hlI:∀ v∈ls,i64 v) (hlast:∀ i,i<ls.length→∃ x∈os.drop 1,i<x) (N:Nat):∀ (r:List Int) (i b:Nat),ls.drop i=r→b≤(os.drop 1).length→(∀ x∈(os.drop 1).take b,x≤i)→
  (pb (os.drop 1) (aq l) i r∧(Dn prog).code (.loop ck) ⟨[(4,.ptr 0 0),(8,.own false 1 (bm os)),(10,.d y10),(12,.d (.int .i64 j)),(14,.d (.int .i64 b)),(34,.d y34),(35,.d y35),(54,.d (.lst (aP ls))),(55,.d (.int .i64 ls.length)),(56,.d (.int .i64 i))],⟨[(0,.cells c.av)],N⟩⟩ =
   some (.exit 2,⟨[(4,.ptr 0 0),(8,.own false 1 (bm os)),(10,.d y10),(34,.d y34),(35,.d y35)],⟨[(0,.cells c.av)],N⟩⟩))∨
  (¬ pb (os.drop 1) (aq l) i r∧(Dn prog).code (.loop ck) ⟨[(4,.ptr 0 0),(8,.own false 1 (bm os)),(10,.d y10),(12,.d (.int .i64 j)),(14,.d (.int .i64 b)),(34,.d y34),(35,.d y35),(54,.d (.lst (aP ls))),(55,.d (.int .i64 ls.length)),(56,.d (.int .i64 i))],⟨[(0,.cells c.av)],N⟩⟩ =
   some (.ret,⟨[(6,.d (.bool false))],⟨[],N⟩⟩)):=by
 have hmx:=oe hm
 have hml:l∈c.sects:=by rw[←List.take_append_drop j c.sects,hd];simp
 have hbk:=lj (hf l hml) hmx.1
 simp only[bB.av]
 intro r
 induction r with
 | nil =>
  intro i b h hb hx
  have hi:=aH h
  refine .inl ⟨trivial,?_⟩
  rw[aa ck.eq_1]
  simp (maxSteps:=300000) (disch:=omega) [↓if_pos,↓if_neg]
 | cons v r ih =>
  intro i b h hb hx
  have hg:=oc h
  have hlt:=aQ h
  have hvI:=hlI v (by rw[←List.take_append_drop i ls,h];simp)
  have c1:((i+1:Nat):Int)=(i:Int)+1:=rfl
  by_cases v0:v=0
  ·have h5:=ih (i+1) b (aL h) hb fun x hx2=>by have:=hx x hx2;omega
   rw[c1]at h5
   have hL:Dc (os.drop 1) (aq l) i v:=.inl v0
   rw[pb]
   subst v0
   rcases h5 with ⟨e1,e2⟩ | ⟨e1,e2⟩
   ·refine .inl ⟨⟨hL,e1⟩,?_⟩
    rw[aa ck.eq_1,←e2]
    simp (maxSteps:=300000) (disch:=omega) [↓if_pos,↓if_neg,hg]
   ·refine .inr ⟨fun h=>e1 h.2,?_⟩
    rw[aa ck.eq_1,←e2]
    simp (maxSteps:=300000) (disch:=omega) [↓if_pos,↓if_neg,hg]
  ·have hsk:=NI hb hx
   have hdd:os.drop (b+1)=(os.drop 1).drop b:=by rw[List.drop_drop];congr 1;omega
   have hex:∃ x∈os.drop (b+1),i<x:=by
    obtain⟨x,hx1,hx2⟩:=hlast i hlt
    rw[←List.take_append_drop b (os.drop 1)]at hx1
    rcases List.mem_append.1 hx1 with h1 | h1
    ·have:=hx x h1;omega
    ·exact⟨x,by rw[hdd];exact h1,hx2⟩
   have h0:=Uh os ho (.cells c.av) (.ptr 0 0) (.d (.lst (aP ls))) y10 (.int .i64 j) (.int .i64 v) y34 y35 (.int .i64 ls.length) (.int .i64 i) i (by omega) hoI ⟨[(0,.cells c.av)],N⟩ (os.drop (b+1)) b rfl hex
   rw[hdd,←hsk]at h0
   have hbl:=ad8 (l:=os.drop 1) (i:=i)
   have hbt:=abg (l:=os.drop 1) (i:=i)
   have hol:(os.drop 1).length≤100:=by simp;omega
   obtain⟨B,hB⟩:∃ B,B=ir (os.drop 1) i:=⟨_,rfl⟩
   have h5:=ih (i+1) B (aL h) (by omega) fun x hx2=>by rw[hB]at hx2;have:=hbt x hx2;omega
   rw[c1]at h5
   simp only[bB.av]at h0
   rw[pb]
   unfold Dc
   rw[←hB]at h0⊢
   by_cases hBm:(B:Int)<c.info.max
   ·have hBl:B<(aq l).length:=by omega
    obtain⟨k,hk⟩:∃ k,(aq l)[B]?=some k:=⟨_,List.getElem?_eq_getElem hBl⟩
    have hBk:=T6 c.sects hc.sects.1 hc.sects.2 c.info.max (by omega) hf j B l rr hd k hk
    rw[hk]
    by_cases hk1:1≤k∧k≤11
    ·obtain⟨K,rfl⟩:=Int.eq_ofNat_of_zero_le (show 0≤k by omega)
     have hft:=acI K (by omega) v hvI
     by_cases hfit:v.natAbs≤dT K
     ·rw[decide_eq_true hfit]at hft
      have hL:v=0∨∃ k,some (K:Int)=some k∧(1≤k∧k≤11)∧v.natAbs≤dT k.toNat:=.inr ⟨K,rfl,hk1,by simpa using hfit⟩
      rcases h5 with ⟨e1,e2⟩ | ⟨e1,e2⟩
      ·refine .inl ⟨⟨hL,e1⟩,?_⟩
       rw[aa ck.eq_1,←e2]
       simp (maxSteps:=300000) (disch:=omega) [↓if_pos,↓if_neg,hg,h0,hBk,hft]
      ·refine .inr ⟨fun h=>e1 h.2,?_⟩
       rw[aa ck.eq_1,←e2]
       simp (maxSteps:=300000) (disch:=omega) [↓if_pos,↓if_neg,hg,h0,hBk,hft]
     ·rw[decide_eq_false hfit]at hft
      refine .inr ⟨fun h=>?_,?_⟩
      ·rcases h.1 with h | ⟨k,h1,h2,h3⟩
       ·exact v0 h
       ·injection h1 with h1;subst h1;exact hfit (by simpa using h3)
      ·rw[aa ck.eq_1]
       simp (maxSteps:=300000) (disch:=omega) [↓if_pos,↓if_neg,hg,h0,hBk,hft]
    ·have hn:¬ ((v=0∨∃ k',some k=some k'∧(1≤k'∧k'≤11)∧v.natAbs≤dT k'.toNat)∧pb (os.drop 1) (aq l) (i+1) r):=fun h=>by
      rcases h.1 with h | ⟨k',h1,h2,h3⟩
      ·exact v0 h
      ·injection h1 with h1;subst h1;exact hk1 h2
     refine .inr ⟨hn,?_⟩
     rw[aa ck.eq_1]
     by_cases hk0:k<1
     ·simp (maxSteps:=300000) (disch:=omega) [↓if_pos,↓if_neg,hg,h0,hBk]
     ·simp (maxSteps:=300000) (disch:=omega) [↓if_pos,↓if_neg,hg,h0,hBk]
   ·have hBl:(aq l)[B]?=none:=List.getElem?_eq_none (by omega)
    rw[hBl]
    refine .inr ⟨fun h=>?_,?_⟩
    ·rcases h.1 with h | ⟨k',h1,h2,h3⟩
     ·exact v0 h
     ·exact absurd h1 (by simp)
    ·rw[aa ck.eq_1]
     simp (maxSteps:=300000) (disch:=omega) [↓if_pos,↓if_neg,hg,h0]
end Go.Vm
namespace Go.Vm
set_option maxHeartbeats 2000000
set_option maxRecDepth 100000
theorem adf:∀ {l:List Int}{w:Int},w<l.sum→(∀ n∈l,1≤n)→0≤w→ip l w<l.length
 | [],w,h,_,h0=>by simp at h;omega
 | n::r,w,h,hn,h0=>by
  rw[ip]
  split
  ·simp
  ·have:=adf (l:=r) (w:=w-n) (by simp only[List.sum_cons]at h;omega) (fun m hm=>hn m (.tail _ hm)) (by omega)
   simp only[List.length_cons];omega
def aG.wide (i:aG):Nat:=if i.seq=2 then 32 else 256
def rY (c:bB) (w:Nat):List Int:=(c.lines.drop (w*c.info.wide)).take c.info.wide
def zM (c:bB) (w:Nat):List aA:=c.sects.getD (ip c.info.groups w) []
def Ag (r:Nat) (c:bB):Nat→Nat→Prop
 | 0,_=>True
 | k+1,w=>pb ((bj r c.info.short).drop 1) (aq (zM c w)) 0 (rY c w)∧Ag r c k (w+1)
abbrev Qg (r:Nat) (c:bB):Prop:=c.lines.length=256∧Ag r c c.info.many 0
theorem TL:∀ x∈uQ,((bj x.1 x.2).drop 1).contains (cond x.2 32 256)=true∧(bj x.1 x.2).all (fun y=>decide (y≤1000))=true∧(bj x.1 x.2).length≤64∧1≤(bj x.1 x.2).length:=by decide +kernel
theorem Vg (rt:Nat) (hrt:rt≤11) (c:bB) (hc:c.Fit) (hm:c.info.may 11) (hs:j9 c.info c.sects) (hl:c.lines.length=256) (N:Nat):∀ (k w:Nat),w+k=c.info.many→
  (Ag rt c k w∧∃ H,(Dn prog).code (.loop et) ⟨[(4,.ptr 0 0),(8,.own false 1 (bm (bj rt c.info.short))),(10,.d (.int .i64 c.info.wide)),(34,.d (.int .i64 c.info.many)),(35,.d (.int .i64 w))],⟨[(0,.cells c.av)],N⟩⟩=some (.exit 0,⟨[],⟨H,N⟩⟩))∨
  (¬ Ag rt c k w∧(Dn prog).code (.loop et) ⟨[(4,.ptr 0 0),(8,.own false 1 (bm (bj rt c.info.short))),(10,.d (.int .i64 c.info.wide)),(34,.d (.int .i64 c.info.many)),(35,.d (.int .i64 w))],⟨[(0,.cells c.av)],N⟩⟩=some (.ret,⟨[(6,.d (.bool false))],⟨[],N⟩⟩)):=by
 have hmm:c.info.many*c.info.wide=256∧c.info.many≤8∧c.info.wide≤256∧1≤c.info.many:=by unfold aG.many aG.wide;split<;>omega
 obtain⟨m1,m2,m3,m4⟩:=hmm
 obtain⟨o1,o2,o3,o4⟩:=TL (rt,c.info.short) (iX (by omega))
 simp only at o1 o2 o3 o4
 obtain⟨g1,g2⟩:=gu hm
 have hoI:∀ x∈bj rt c.info.short,x≤1000:=fun x hx=>by simpa using List.all_eq_true.1 o2 x hx
 have hcond:(cond c.info.short 32 256:Nat)=c.info.wide:=by
  unfold aG.short aG.wide
  by_cases h:c.info.seq=2
  ·rw[decide_eq_true h,if_pos h];rfl
  ·rw[decide_eq_false h,if_neg h];rfl
 rw[hcond]at o1
 have hlast:∀ i,i<c.info.wide→∃ x∈(bj rt c.info.short).drop 1,i<x:=fun i hi=>⟨c.info.wide,by simpa using o1,hi⟩
 intro k
 induction k with
 | zero =>
  intro w hw
  refine .inl ⟨trivial,[],?_⟩
  rw[aa et.eq_1]
  simp (maxSteps:=300000) (disch:=omega) [↓if_pos,↓if_neg]
 | succ k ih =>
  intro w hw
  have hG:=AQ c.info hc.info hm w (by omega) (by omega)
  have hgl:=adf (l:=c.info.groups) (w:=w) (by omega) (fun n hn=>(g1 n hn).1) (by omega)
  obtain⟨G,hGe⟩:∃ G,G=ip c.info.groups w:=⟨_,rfl⟩
  rw[←hGe]at hG hgl
  have hGs:G<c.sects.length:=by rw[hs.1];exact hgl
  have hsa:zM c w=c.sects[G]:=by unfold zM;rw[←hGe,List.getD_eq_getElem?_getD,List.getElem?_eq_getElem hGs];rfl
  have hd:=List.drop_eq_getElem_cons hGs
  have hwl:w*c.info.wide+c.info.wide≤256:=by
   have:(w+1)*c.info.wide≤c.info.many*c.info.wide:=Nat.mul_le_mul_right _ (by omega)
   rw[Nat.add_mul,Nat.one_mul]at this;omega
  have hwn:(rY c w).length=c.info.wide:=by unfold rY;rw[List.length_take,List.length_drop];omega
  have hwI:∀ v∈rY c w,i64 v:=fun v hv=>hc.lineI v (List.mem_of_mem_drop (List.mem_of_mem_take hv))
  have h1:=U2 c hc hm hs.2 (bj rt c.info.short) (by omega) hoI (by intro h;rw[h]at o4;simp at o4) (.int .i64 c.info.wide) (.int .i64 c.info.many) (.int .i64 w) G c.sects[G] _ hd (rY c w) (by omega) hwI (fun i hi=>hlast i (by omega)) N (rY c w) 0 0 rfl (by omega) (by simp)
  have h2:=ih (w+1) (by omega)
  have c1:((w+1:Nat):Int)=(w:Int)+1:=rfl
  have c0:((0:Nat):Int)=0:=rfl
  rw[c1]at h2
  rw[c0]at h1
  rw[hwn]at h1
  have hmul:(w:Int)*c.info.wide=((w*c.info.wide:Nat):Int):=by rw[Int.natCast_mul]
  have hmul2:((w:Int)+1)*c.info.wide=((w*c.info.wide+c.info.wide:Nat):Int):=by rw[Int.add_mul,Int.one_mul,hmul];rfl
  have hsl:=Yi (h:=[(0,.cells c.av)]) (l:=c.lines) (a:=w*c.info.wide) (b:=w*c.info.wide+c.info.wide) (by omega) (by omega) ((w:Int)*c.info.wide) (((w:Int)+1)*c.info.wide) hmul hmul2
  rw[Nat.add_sub_cancel_left]at hsl
  have hwr:c.info.wide=(rY c w).length:=hwn.symm
  have hW:((c.lines.drop (w*c.info.wide)).take c.info.wide)=rY c w:=rfl
  rw[hW]at hsl
  have hlw:=cu (l:=rY c w)
  rw[hwn]at hlw
  have hb1:0≤(w:Int)*c.info.wide∧(w:Int)*c.info.wide≤1000:=by rw[hmul];omega
  have hb2:0≤((w:Int)+1)*c.info.wide∧((w:Int)+1)*c.info.wide≤1000:=by rw[hmul2];omega
  rw[Ag,hsa]
  simp only[bB.av,aG.cells]at h1 h2 hsl hG⊢
  generalize rY c w=WL at *
  rcases h1 with ⟨e1,e2⟩ | ⟨e1,e2⟩
  ·rcases h2 with ⟨f1,H,f2⟩ | ⟨f1,f2⟩
   ·refine .inl ⟨⟨e1,f1⟩,H,?_⟩
    rw[aa et.eq_1,←f2]
    simp (maxSteps:=300000) (disch:=omega) [↓if_pos,↓if_neg,hG,hsl,hlw,e2]
   ·refine .inr ⟨fun h=>f1 h.2,?_⟩
    rw[aa et.eq_1,←f2]
    simp (maxSteps:=300000) (disch:=omega) [↓if_pos,↓if_neg,hG,hsl,hlw,e2]
  ·refine .inr ⟨fun h=>e1 h.1,?_⟩
   rw[aa et.eq_1]
   simp (maxSteps:=300000) (disch:=omega) [↓if_pos,↓if_neg,hG,hsl,hlw,e2]
theorem abd (rt:Nat) (hrt:rt≤11) (c:bB) (hc:c.Fit) (hm:c.info.may 11) (hs:j9 c.info c.sects):(Qg rt c∧aW prog kQ [.d (.int .i64 rt),.agg c.av,.d (.int .i64 c.info.many)]=some (.d (.bool true)))∨(¬ Qg rt c∧aW prog kQ [.d (.int .i64 rt),.agg c.av,.d (.int .i64 c.info.many)]=some (.d (.bool false))):=by
 have hl1:=hc.lines
 have hof:=pt rt c.info.short
 rw[if_pos (by omega)]at hof
 simp only[Int.toNat_natCast]at hof
 rw[au XH vE.eq_1 rfl]
 by_cases hl:c.lines.length=256
 ·have h0:=Vg rt hrt c hc hm hs hl 1 c.info.many 0 (by omega)
  have c0:((0:Nat):Int)=0:=rfl
  rw[c0]at h0
  have hq:(256:Int).tdiv c.info.many=c.info.wide:=by unfold aG.many aG.wide;split<;>rfl
  have hmm:1≤c.info.many∧c.info.many≤8∧c.info.wide≤256:=by unfold aG.many aG.wide;split<;>omega
  simp only[bB.av]at h0⊢
  by_cases hs2:c.info.seq=2
  ·have hsh:c.info.short=true:=decide_eq_true hs2
   rw[hsh]at hof h0
   rcases h0 with ⟨e1,H,e2⟩ | ⟨e1,e2⟩
   ·refine .inl ⟨⟨hl,e1⟩,?_⟩
    simp (maxSteps:=300000) (disch:=omega) [↓if_pos,↓if_neg,hof,hq,e2]
   ·refine .inr ⟨fun h=>e1 h.2,?_⟩
    simp (maxSteps:=300000) (disch:=omega) [↓if_pos,↓if_neg,hof,hq,e2]
  ·have hsh:c.info.short=false:=decide_eq_false hs2
   rw[hsh]at hof h0
   rcases h0 with ⟨e1,H,e2⟩ | ⟨e1,e2⟩
   ·refine .inl ⟨⟨hl,e1⟩,?_⟩
    simp (maxSteps:=300000) (disch:=omega) [↓if_pos,↓if_neg,hof,hq,e2]
   ·refine .inr ⟨fun h=>e1 h.2,?_⟩
    simp (maxSteps:=300000) (disch:=omega) [↓if_pos,↓if_neg,hof,hq,e2]
 ·refine .inr ⟨fun h=>hl h.1,?_⟩
  simp (maxSteps:=300000) (disch:=omega) [↓if_pos,↓if_neg]
abbrev afg:List AV:=[.fn lQ [] [.ptr 1 0],.fn l0 [] [.ptr 1 0],.fn lL [] [.ptr 1 0],.fn md [] [.ptr 1 0,.ptr 2 0],.fn lG [] [.ptr 0 0,.ptr 1 0,.ptr 2 0]]
abbrev mA (rt:Int) (c:bB):ac:=[(0,.cells [.d (.int .i64 rt)]),(1,.cells c.av),(2,.cells [.d (.int .i64 c.info.many)]),(3,.cells afg)]
theorem lO (rt:Int) (c:bB) (N i:Nat) (hi:i<5) (F:AV) (hF:afg[i]?=some F) (hF2:firm (firm (firm (share F)))=F) (B:Bool) (hB:aM (Dn prog) F [] ⟨mA rt c,N⟩=some (.d (.bool B),⟨mA rt c,N⟩)) :
  (Dn prog).code (.loop ez) ⟨[(28,.sl 3 0 5),(29,.d (.int .i64 5)),(30,.d (.int .i64 i))],⟨mA rt c,N⟩⟩ =
  if B=true then (Dn prog).code (.loop ez) ⟨[(28,.sl 3 0 5),(29,.d (.int .i64 5)),(30,.d (.int .i64 ((i+1:Nat):Int)))],⟨mA rt c,N⟩⟩ else some (.ret,⟨[(4,.d (.int .i64 8))],⟨mA rt c,N⟩⟩):=by
 have c1:((i+1:Nat):Int)=(i:Int)+1:=rfl
 obtain⟨hlt,e⟩:=List.getElem?_eq_some_iff.1 hF
 rw[c1,aa ez.eq_1]
 cases B with
 | true =>
  simp (maxSteps:=300000) (disch:=omega) [↓if_pos,↓if_neg,e,hF2,hB]
 | false =>
  simp (maxSteps:=300000) (disch:=omega) [↓if_pos,↓if_neg,e,hF2,hB]
theorem agq (rt:Int) (c:bB) (N:Nat):(Dn prog).call lQ [.ptr 1 0] ⟨mA rt c,N⟩=some (.d (.bool (decide (0≤c.gain∧c.gain≤255))),⟨mA rt c,N⟩):=by
 rw[aJ Qp sf.eq_1 rfl]
 by_cases h1:0≤c.gain
 ·by_cases h2:c.gain≤255
  ·rw[decide_eq_true ⟨h1,h2⟩]
   simp (maxSteps:=300000) (disch:=omega) [↓if_pos,↓if_neg]
  ·rw[decide_eq_false (fun h=>h2 h.2)]
   simp (maxSteps:=300000) (disch:=omega) [↓if_pos,↓if_neg]
 ·rw[decide_eq_false (fun h=>h1 h.1)]
  simp (maxSteps:=300000) (disch:=omega) [↓if_pos,↓if_neg]
theorem ahj (rt:Int) (c:bB) (N:Nat) (B:Bool) (h:aW prog kG [.agg c.av]=some (.d (.bool B))):(Dn prog).call l0 [.ptr 1 0] ⟨mA rt c,N⟩=some (.d (.bool B),⟨mA rt c,N⟩):=by
 rw[aJ PO rC.eq_1 rfl]
 simp only[bB.av]at h
 simp (maxSteps:=300000) (disch:=omega) [h]
theorem agS (rt:Int) (c:bB) (N:Nat) (B:Bool) (h:aW prog pc [.agg c.av]=some (.d (.bool B))):(Dn prog).call lL [.ptr 1 0] ⟨mA rt c,N⟩=some (.d (.bool B),⟨mA rt c,N⟩):=by
 rw[aJ Q5 sq.eq_1 rfl]
 simp only[bB.av]at h
 simp (maxSteps:=300000) (disch:=omega) [h]
theorem af2 (rt:Int) (c:bB) (N:Nat) (B:Bool) (h:aW prog mi [.agg c.av,.d (.int .i64 c.info.many)]=some (.d (.bool B))):(Dn prog).call md [.ptr 1 0,.ptr 2 0] ⟨mA rt c,N⟩=some (.d (.bool B),⟨mA rt c,N⟩):=by
 rw[aJ Sl rW.eq_1 rfl]
 simp only[bB.av]at h
 simp (maxSteps:=300000) (disch:=omega) [h]
theorem ZJ (rt:Int) (c:bB) (N:Nat) (B:Bool) (h:aW prog kQ [.d (.int .i64 rt),.agg c.av,.d (.int .i64 c.info.many)]=some (.d (.bool B))):(Dn prog).call lG [.ptr 0 0,.ptr 1 0,.ptr 2 0] ⟨mA rt c,N⟩=some (.d (.bool B),⟨mA rt c,N⟩):=by
 rw[aJ Rv rR.eq_1 rfl]
 simp only[bB.av]at h
 simp (maxSteps:=300000) (disch:=omega) [h]
structure EH (r:Nat) (c:bB):Prop where
 gain:0≤c.gain∧c.gain≤255
 info:c.info.may r
 sects:j9 c.info c.sects
 steps:sm c.gain c.sects c.steps
 tns:VN c.info c.tns
 lines:Qg r c
theorem zF {f:FuncId}{caps:List AV}{h:ac}{N:Nat}:aM (Dn prog) (.fn f [] caps) [] ⟨h,N⟩=(Dn prog).call f caps ⟨h,N⟩:=by simp
theorem Nm (rt:Int) (c:bB) (hc:c.Fit):(iN rt∧EH rt.toNat c∧aW prog dp [.d (.int .i64 rt),.agg c.av]=some (.d (.int .i64 0)))∨
  (iN rt∧¬ EH rt.toNat c∧aW prog dp [.d (.int .i64 rt),.agg c.av]=some (.d (.int .i64 8)))∨(¬ iN rt∧aW prog dp [.d (.int .i64 rt),.agg c.av]=some (.d (.int .i64 2))):=by
 have hi:=Bq rt c.info hc.info
 have hw:=pQ c.info hc.info
 simp only[aG.cells]at hi hw
 by_cases hr:iN rt
 ·rw[if_pos hr]at hi
  by_cases hm:c.info.may rt.toNat
  ·rw[if_pos hm]at hi
   have hm11:=vt (by omega) hm
   rw[if_pos hm11]at hw
   have hmm:c.info.many≤8:=by unfold aG.many;split<;>omega
   have cI:(rt.toNat:Int)=rt:=by omega
   have c0:((0:Nat):Int)=0:=rfl
   have fin:∀ (e:Int) (X:Option (aT×St)),(Dn prog).code (.loop ez) ⟨[(28,.sl 3 0 5),(29,.d (.int .i64 5)),(30,.d (.int .i64 ((0:Nat):Int)))],⟨mA rt c,4⟩⟩=X→(X=some (.exit 0,⟨[],⟨mA rt c,4⟩⟩)∧e=0∨X=some (.ret,⟨[(4,.d (.int .i64 8))],⟨mA rt c,4⟩⟩)∧e=8)→aW prog dp [.d (.int .i64 rt),.agg c.av]=some (.d (.int .i64 e)):=by
    intro e X h hX
    rw[c0]at h
    simp only[mA,afg,bB.av]at h hX
    rw[au wU lr.eq_1 rfl]
    rcases hX with ⟨rfl,rfl⟩ | ⟨rfl,rfl⟩
    ·simp (maxSteps:=300000) (disch:=omega) [↓if_pos,↓if_neg,hi,hw,Nt,h]
    ·simp (maxSteps:=300000) (disch:=omega) [↓if_pos,↓if_neg,hi,hw,Nt,h]
   have s1:=lO rt c 4 0 (by omega) _ rfl rfl _ (zF.trans (agq rt c 4))
   by_cases b1:0≤c.gain∧c.gain≤255
   ·rw[if_pos (decide_eq_true b1)]at s1
    have s2:=lO rt c 4 (0+1) (by omega) _ rfl rfl _ (zF.trans (ahj rt c 4 _ (UO c hc hm11)))
    rw[s2]at s1
    by_cases b2:j9 c.info c.sects
    ·rw[if_pos (decide_eq_true b2)]at s1
     have s3:=lO rt c 4 (0+1+1) (by omega) _ rfl rfl _ (zF.trans (agS rt c 4 _ (aaP c hc hm11 b1 b2)))
     rw[s3]at s1
     by_cases b3:sm c.gain c.sects c.steps
     ·rw[if_pos (decide_eq_true b3)]at s1
      have s4:=lO rt c 4 (0+1+1+1) (by omega) _ rfl rfl _ (zF.trans (af2 rt c 4 _ (Wg c hc c.info.many hmm)))
      rw[s4]at s1
      by_cases b4:VN c.info c.tns
      ·rw[if_pos (decide_eq_true b4)]at s1
       have hL:=abd rt.toNat (by omega) c hc hm11 b2
       rw[cI]at hL
       rcases hL with ⟨b5,h5⟩ | ⟨b5,h5⟩
       ·have s5:=lO rt c 4 (0+1+1+1+1) (by omega) _ rfl rfl _ (zF.trans (ZJ rt c 4 _ h5))
        rw[if_pos rfl]at s5
        rw[s5]at s1
        have s6:(Dn prog).code (.loop ez) ⟨[(28,.sl 3 0 5),(29,.d (.int .i64 5)),(30,.d (.int .i64 ((0+1+1+1+1+1:Nat):Int)))],⟨mA rt c,4⟩⟩=some (.exit 0,⟨[],⟨mA rt c,4⟩⟩):=by
         have c5:((0+1+1+1+1+1:Nat):Int)=5:=rfl
         rw[c5,aa ez.eq_1]
         simp (maxSteps:=300000) (disch:=omega) [↓if_pos,↓if_neg]
        rw[s6]at s1
        exact .inl ⟨hr,⟨b1,hm,b2,b3,b4,b5⟩,fin 0 _ s1 (.inl ⟨rfl,rfl⟩)⟩
       ·have s5:=lO rt c 4 (0+1+1+1+1) (by omega) _ rfl rfl _ (zF.trans (ZJ rt c 4 _ h5))
        rw[if_neg (by simp)]at s5
        rw[s5]at s1
        exact .inr (.inl ⟨hr,fun h=>b5 h.lines,fin 8 _ s1 (.inr ⟨rfl,rfl⟩)⟩)
      ·rw[if_neg (by simpa using b4)]at s1
       exact .inr (.inl ⟨hr,fun h=>b4 h.tns,fin 8 _ s1 (.inr ⟨rfl,rfl⟩)⟩)
     ·rw[if_neg (by simpa using b3)]at s1
      exact .inr (.inl ⟨hr,fun h=>b3 h.steps,fin 8 _ s1 (.inr ⟨rfl,rfl⟩)⟩)
    ·rw[if_neg (by simpa using b2)]at s1
     exact .inr (.inl ⟨hr,fun h=>b2 h.sects,fin 8 _ s1 (.inr ⟨rfl,rfl⟩)⟩)
   ·rw[if_neg (by simpa using b1)]at s1
    exact .inr (.inl ⟨hr,fun h=>b1 h.gain,fin 8 _ s1 (.inr ⟨rfl,rfl⟩)⟩)
  ·rw[if_neg hm]at hi
   refine .inr (.inl ⟨hr,fun h=>hm h.info,?_⟩)
   rw[au wU lr.eq_1 rfl]
   simp (maxSteps:=300000) (disch:=omega) [↓if_pos,↓if_neg,hi]
 ·rw[if_neg hr]at hi
  refine .inr (.inr ⟨hr,?_⟩)
  rw[au wU lr.eq_1 rfl]
  simp (maxSteps:=300000) (disch:=omega) [↓if_pos,↓if_neg,hi]
end Go.Vm
namespace Go.Vm
set_option maxHeartbeats 2000000
set_option maxRecDepth 100000
theorem am8 {n:Int}{k P:Nat}(hP:2 ^ k=P) (hk:k≤62):aV .and (.d (.int .i64 n)) (.d (.int .i64 ((P:Int)-1)))=some (.int .i64 (n % P)):=by
 have h1:2 ^ k≤2 ^ 62:=Nat.pow_le_pow_right (by omega) hk
 have h2:=Nat.two_pow_pos k
 have hd:(P:Int) ∣ 18446744073709551616:=by
  subst hP
  have:(2:Nat) ^ k ∣ 2 ^ 64:=Nat.pow_dvd_pow 2 (by omega)
  have:=Int.natCast_dvd_natCast.2 this
  simpa using this
 have e0:0≤n % 18446744073709551616:=Int.emod_nonneg _ (by omega)
 have e1:n % 18446744073709551616 % P=n % P:=Int.emod_emod_of_dvd n hd
 refine lR ?_
 rw[iB (by simp) (by simp)]
 have c:(P:Int)-1=((P-1:Nat):Int):=by omega
 rw[c]
 simp only[ew,zP,BitVec.toNat_and,yi (show P-1<pq .i64 by simp[pq,IntKind.signed];omega)]
 have e2:((2 ^ IntKind.i64.bits:Nat):Int)=18446744073709551616:=rfl
 rw[BitVec.toNat_ofInt,e2]
 subst hP
 rw[Nat.and_two_pow_sub_one_eq_mod]
 have h3:(n % 18446744073709551616).toNat % 2 ^ k<2 ^ k:=Nat.mod_lt _ h2
 rw[afu (by simp[pq,IntKind.signed];omega),Int.natCast_emod]
 have e3:(((n % 18446744073709551616).toNat:Nat):Int)=n % 18446744073709551616:=by omega
 rw[e3,e1]
theorem TJ {hp:AV→ac}{p N:Nat}(H:Hv hp p) {b:List Nat}(hb:b.length≤900000000) (n:Int) (s:Nat) (hs:s≤31) (hn:i64 n) (sI:Int) (es:sI=s) :
  (Dn prog).call fP [.d (.int .i64 n),.d (.int .i64 sI),.ptr p 0] ⟨hp (.own false 1 (ah b)),N⟩=some (.tup [],⟨hp (.own false 1 (ah (b++al (n % ((2 ^ s:Nat):Int)).toNat s))),N⟩):=by
 subst es
 have h31:2 ^ s≤2 ^ 31:=Nat.pow_le_pow_right (by omega) hs
 have h2:=Nat.two_pow_pos s
 have q1:=VQ (m:=s) (by omega)
 have q2:=am8 (n:=n) (k:=s) rfl (by omega)
 have e0:0≤n % ((2 ^ s:Nat):Int):=Int.emod_nonneg _ (by omega)
 have e1:n % ((2 ^ s:Nat):Int)<((2 ^ s:Nat):Int):=Int.emod_lt_of_pos _ (by omega)
 have h1:=il b (n % ((2 ^ s:Nat):Int)) s hb (by omega) _ (.inl rfl)
 rw[if_pos (by simp only[io,Int.toNat_natCast];omega)]at h1
 simp only[Int.toNat_natCast]at h1
 generalize n % ((2 ^ s:Nat):Int)=Q at *
 generalize 2 ^ s=P at *
 rw[aJ ME px.eq_1 rfl]
 simp (maxSteps:=300000) (disch:=omega) [H.get,H.put,-zg,q1,q2,h1]
def dO (f:bb):Bool:=decide (∀ c∈f.coefs,-(cj f.fine / 2)≤c∧c<cj f.fine / 2)
def kz (fine:Bool):Nat:=if fine then 4 else 3
def bV (b:Bool):Nat:=if b then 1 else 0
def Bh (f:bb):Nat:=kz f.fine-bV (dO f)
def kO (w:Nat) (l:List Int):List Nat:=l.flatMap fun c=>al (c % ((2 ^ w:Nat):Int)).toNat w
def iy (sh:Bool):Nat:=if sh then 4 else 6
def jB (sh:Bool):Nat:=if sh then 3 else 5
def jA (sh:Bool):Nat:=if sh then 1 else 2
def nc (sh:Bool) (f:bb):List Nat:=al f.len.toNat (iy sh)++(al f.order.toNat (jB sh)++if f.order=0 then [] else al (bV f.down) 1++(al (bV (dO f)) 1++kO (Bh f) f.coefs))
def qj (sh:Bool) (l:List bb):List Nat:=al l.length (jA sh)++match l with
 | []=>[]
 | f0::_=>al (bV f0.fine) 1++l.flatMap (nc sh)
def fE (sh:Bool) (t:List (List bb)):List Nat:=t.flatMap (qj sh)
abbrev Df (sh:Bool) (v:AV):ac:=[(0,.cells [v]),(2,.cells (fc sh))]
abbrev I6 (full:List (List bb)) (i:Int) (r:am):am:=(3,.ptr 0 0)::(9,.fn fP [] [.ptr 0 0])::(10,.ptr 2 0)::(30,.d (.lst (gx full)))::(31,.d (.int .i64 full.length))::(32,.d (.int .i64 i))::r
theorem adU (sh:Bool):Hv (Df sh) 0:=⟨fun v=>by simp,fun v w=>by simp⟩
theorem M4 {w:Nat}:∀ {l:List Int},(kO w l).length=w*l.length
 | []=>by simp[kO]
 | c::r=>by
  have:=M4 (w:=w) (l:=r)
  rw[kO]at this⊢
  rw[List.flatMap_cons,List.length_append,eB,List.length_cons,this,Nat.mul_add];omega
theorem ai9 (sh:Bool) (full:List (List bb)) (i:Int) (l:List bb) (k:Int) (nw:Bool) (w:Nat) (hw:1≤w-bV nw∧w≤4) (cs:List Int) (hcs:cs.length≤100) (hcI:∀ c∈cs,i64 c) (N:Nat):∀ (r:List Int) (j:Nat) (b:List Nat),cs.drop j=r→b.length+4*r.length≤900000000→
  (Dn prog).code (.loop jC) ⟨(3,.ptr 0 0)::(9,.fn fP [] [.ptr 0 0])::(10,.ptr 2 0)::(15,.d (.int .i64 w))::(16,.d (.bool nw))::(30,.d (.lst (gx full)))::(31,.d (.int .i64 full.length))::(32,.d (.int .i64 i))::[(52,.d (.lst (df l))),(53,.d (.int .i64 l.length)),(54,.d (.int .i64 k)),(91,.d (.lst (aP cs))),(92,.d (.int .i64 cs.length)),(93,.d (.int .i64 j))],⟨Df sh (.own false 1 (ah b)),N⟩⟩ =
  some (.exit 4,⟨I6 full i [(52,.d (.lst (df l))),(53,.d (.int .i64 l.length)),(54,.d (.int .i64 k))],⟨Df sh (.own false 1 (ah (b++kO (w-bV nw) r))),N⟩⟩):=by
 intro r
 induction r with
 | nil =>
  intro j b hd hb
  have hi:=aH hd
  rw[aa jC.eq_1]
  simp (maxSteps:=300000) (disch:=omega) [↓if_neg,kO]
 | cons c r ih =>
  intro j b hd hb
  simp only[List.length_cons]at hb
  have hg:=oc hd
  have hlt:=aQ hd
  have hcc:=hcI c (by rw[←List.take_append_drop j cs,hd];simp)
  have hbit:=sK nw
  have hbI:((bV nw:Nat):Int)=if nw=true then 1 else 0:=by cases nw<;>rfl
  rw[←hbI]at hbit
  have hbb:bV nw≤1:=by cases nw<;>decide
  have hp:=TJ (adU sh) (N:=N) (b:=b) (by omega) c (w-bV nw) (by omega) hcc ((w:Int)-bV nw) (by omega)
  have h5:=ih (j+1) (b++al (c % ((2 ^ (w-bV nw):Nat):Int)).toNat (w-bV nw)) (aL hd) (by simp;omega)
  have c1:((j+1:Nat):Int)=(j:Int)+1:=rfl
  have ea:b++kO (w-bV nw) (c::r)=b++al (c % ((2 ^ (w-bV nw):Nat):Int)).toNat (w-bV nw)++kO (w-bV nw) r:=by rw[kO,List.flatMap_cons,List.append_assoc];rfl
  rw[c1]at h5
  rw[ea,←h5,aa jC.eq_1]
  simp (maxSteps:=300000) (disch:=omega) [↓if_pos,hg,hbit,hp]
end Go.Vm
namespace Go.Vm
set_option maxHeartbeats 2000000
set_option maxRecDepth 100000
@[simp] theorem anN {sh:Bool}:(fc sh)[0]?=some (.d (.int .i64 (jA sh:Int))):=by cases sh<;>rfl
@[simp] theorem anr {sh:Bool}:(fc sh)[1]?=some (.d (.int .i64 (iy sh:Int))):=by cases sh<;>rfl
@[simp] theorem anY {sh:Bool}:(fc sh)[2]?=some (.d (.int .i64 (jB sh:Int))):=by cases sh<;>rfl
@[simp] theorem akE {sh:Bool}:(fc sh).map gy=fc sh:=by cases sh<;>rfl
theorem oy {hp:AV→ac}{p N:Nat}(H:Hv hp p) {b:List Nat}(hb:b.length≤900000000) (n:Int) (s:Nat) (hs:s≤31) (h0:0≤n) (h1:n.toNat<2 ^ s) (m:Nat) (hm:m=n.toNat) (sI:Int) (es:sI=s) :
  (Dn prog).call fP [.d (.int .i64 n),.d (.int .i64 sI),.ptr p 0] ⟨hp (.own false 1 (ah b)),N⟩=some (.tup [],⟨hp (.own false 1 (ah (b++al m s))),N⟩):=by
 have h31:2 ^ s≤2 ^ 31:=Nat.pow_le_pow_right (by omega) hs
 have h:=TJ H (N:=N) hb n s hs (by omega) sI es
 have e:n % ((2 ^ s:Nat):Int)=n:=Int.emod_eq_of_lt h0 (by omega)
 rw[e,←hm]at h
 exact h
abbrev adu (sh:Bool) (N:Nat) (f:bb) (v:AV):ac:=[(0,.cells [v]),(2,.cells (fc sh)),(N,.cells f.av)]
theorem VF (sh:Bool) (N:Nat) (hN:3≤N) (f:bb):Hv (adu sh N f) 0:=⟨fun v=>by simp,fun v w=>by simp⟩
theorem Ii (f:bb):1≤Bh f∧kz f.fine≤4∧3≤kz f.fine∧bV (dO f)≤1:=by
 unfold Bh kz bV
 cases f.fine<;>cases dO f<;>decide
theorem aiN (sh:Bool) (full:List (List bb)) (i:Int) (l:List bb) (hl:l.length≤100) (k N:Nat) (hN:3≤N) (f:bb) (r:List bb) (hd:l.drop k=f::r) (hf:wg sh f) (hcI:∀ c∈f.coefs,i64 c) (b:List Nat) (hb:b.length≤800000000) :
  (Dn prog).code gR ⟨I6 full i [(52,.d (.lst (df l))),(53,.d (.int .i64 l.length)),(54,.d (.int .i64 k))],⟨Df sh (.own false 1 (ah b)),N⟩⟩ =
  some (.normal,⟨I6 full i [(52,.d (.lst (df l))),(53,.d (.int .i64 l.length)),(54,.d (.int .i64 ((k+1:Nat):Int)))],⟨Df sh (.own false 1 (ah (b++nc sh f))),N+1⟩⟩):=by
 have hg:=q9 hd
 have hlt:=aQ hd
 obtain⟨⟨l1,l2⟩,⟨o1,o2⟩,c1,d1,c2⟩:=hf
 have hlw:rF sh<2 ^ iy sh∧iy sh≤6∧kR sh<2 ^ jB sh∧jB sh≤5∧kR sh≤12:=by cases sh<;>decide
 obtain⟨w1,w2,w3,w4,w5⟩:=hlw
 have wN1:((2 ^ iy sh:Nat):Int)=2 ^ iy sh:=by simp
 have wN2:((2 ^ jB sh:Nat):Int)=2 ^ jB sh:=by simp
 have p1:=oy (VF sh N hN f) (N:=N+1) (b:=b) (by omega) f.len (iy sh) (by omega) l1 (by omega) f.len.toNat rfl (iy sh) rfl
 have p2:=oy (VF sh N hN f) (N:=N+1) (b:=b++al f.len.toNat (iy sh)) (by simp;omega) f.order (jB sh) (by omega) o1 (by omega) f.order.toNat rfl (jB sh) rfl
 have n0:N≠0∧N≠1∧N≠2:=by omega
 obtain⟨n0,n1,n2⟩:=n0
 have c9:((k+1:Nat):Int)=(k:Int)+1:=rfl
 rw[c9,gR.eq_1]
 by_cases h0:f.order=0
 ·have e:b++nc sh f=b++al f.len.toNat (iy sh)++al f.order.toNat (jB sh):=by rw[nc,if_pos h0,List.append_nil,List.append_assoc]
  rw[e]
  generalize b++al f.len.toNat (iy sh)++al f.order.toNat (jB sh)=B2 at *
  generalize b++al f.len.toNat (iy sh)=B1 at *
  simp only[adu,bb.av]at p1 p2
  simp (maxSteps:=300000) (disch:=omega) [↓if_pos,↓if_neg,hg,n0,n1,n2,p1,p2]
 ·have hw:=EC f.fine
  obtain⟨q1,q2,q3,q4⟩:=Ii f
  have hcl:f.coefs.length≤100:=by omega
  have hft:=Iw f.coefs (by omega) (kz f.fine-1) (by omega)
  have hh:((2 ^ (kz f.fine-1-1):Nat):Int)=cj f.fine / 2:=by unfold kz cj;cases f.fine<;>rfl
  have hwI:(if f.fine=true then (4:Int) else 3)=(kz f.fine:Int):=by unfold kz;cases f.fine<;>rfl
  have hwS:((kz f.fine-1:Nat):Int)=(kz f.fine:Int)-1:=by omega
  have hnr:decide (∀ c∈f.coefs,-(cj f.fine / 2)≤c∧c<cj f.fine / 2)=dO f:=rfl
  rw[hh,hnr,hwS]at hft
  rw[hwI]at hw
  have hb1:=sK f.down
  have hb2:=sK (dO f)
  have e1:(if f.down=true then (1:Int) else 0)=(bV f.down:Int):=by cases f.down<;>rfl
  have e2:(if dO f=true then (1:Int) else 0)=(bV (dO f):Int):=by cases dO f<;>rfl
  rw[e1]at hb1
  rw[e2]at hb2
  have hbd:bV f.down≤1:=by unfold bV;cases f.down<;>decide
  have p3:=oy (VF sh N hN f) (N:=N+1) (b:=b++al f.len.toNat (iy sh)++al f.order.toNat (jB sh)) (by simp;omega) (bV f.down) 1 (by omega) (by omega) (by simp only[Int.toNat_natCast];omega) (bV f.down) (by simp) 1 rfl
  have p4:=oy (VF sh N hN f) (N:=N+1) (b:=b++al f.len.toNat (iy sh)++al f.order.toNat (jB sh)++al (bV f.down) 1) (by simp;omega) (bV (dO f)) 1 (by omega) (by omega) (by simp only[Int.toNat_natCast];omega) (bV (dO f)) (by simp) 1 rfl
  have p5:=ai9 sh full i l k (dO f) (kz f.fine) (by unfold Bh at q1;omega) f.coefs hcl hcI (N+1) f.coefs 0 (b++al f.len.toNat (iy sh)++al f.order.toNat (jB sh)++al (bV f.down) 1++al (bV (dO f)) 1) rfl (by simp;omega)
  have c0:((0:Nat):Int)=0:=rfl
  have hlc:=cu (l:=f.coefs)
  have e:b++nc sh f=b++al f.len.toNat (iy sh)++al f.order.toNat (jB sh)++al (bV f.down) 1++al (bV (dO f)) 1++kO (kz f.fine-bV (dO f)) f.coefs:=by
   rw[nc,if_neg h0];simp only[List.append_assoc];rfl
  rw[c0]at p5
  rw[e]
  generalize b++al f.len.toNat (iy sh)++al f.order.toNat (jB sh)++al (bV f.down) 1++al (bV (dO f)) 1++kO (kz f.fine-bV (dO f)) f.coefs=B5 at *
  generalize b++al f.len.toNat (iy sh)++al f.order.toNat (jB sh)++al (bV f.down) 1++al (bV (dO f)) 1=B4 at *
  generalize b++al f.len.toNat (iy sh)++al f.order.toNat (jB sh)++al (bV f.down) 1=B3 at *
  generalize b++al f.len.toNat (iy sh)++al f.order.toNat (jB sh)=B2 at *
  generalize b++al f.len.toNat (iy sh)=B1 at *
  simp only[adu,bb.av]at p1 p2 p3 p4
  simp (maxSteps:=300000) (disch:=omega) [↓if_pos,↓if_neg,hg,n0,n1,n2,p1,p2,p3,p4,p5,hw,hft,hb1,hb2,hlc]
theorem WR {sh:Bool}{f:bb}(hf:wg sh f):(nc sh f).length≤100:=by
 obtain⟨⟨l1,l2⟩,⟨o1,o2⟩,c1,d1,c2⟩:=hf
 have hlw:iy sh≤6∧jB sh≤5∧kR sh≤12:=by cases sh<;>decide
 obtain⟨q1,q2,q3,q4⟩:=Ii f
 have hcw:Bh f≤4:=by unfold Bh;omega
 have h1:Bh f*f.coefs.length≤4*f.coefs.length:=Nat.mul_le_mul_right _ hcw
 unfold nc
 split
 ·simp only[List.length_append,eB,List.length_nil];omega
 ·simp only[List.length_append,eB,M4];omega
theorem abT (sh:Bool) (full:List (List bb)) (i:Int) (l:List bb) (hl:l.length≤100):∀ (r:List bb) (k N:Nat) (b:List Nat),l.drop k=r→3≤N→(∀ f∈r,wg sh f∧∀ c∈f.coefs,i64 c)→b.length+100*r.length≤800000000→
  ∃ M,3≤M∧(Dn prog).code (.loop gR) ⟨I6 full i [(52,.d (.lst (df l))),(53,.d (.int .i64 l.length)),(54,.d (.int .i64 k))],⟨Df sh (.own false 1 (ah b)),N⟩⟩ =
  some (.exit 2,⟨I6 full i [],⟨Df sh (.own false 1 (ah (b++r.flatMap (nc sh)))),M⟩⟩):=by
 intro r
 induction r with
 | nil =>
  intro k N b hd hN hr hb
  have hi:=aH hd
  refine⟨N,hN,?_⟩
  rw[aa gR.eq_1,List.flatMap_nil,List.append_nil]
  simp (maxSteps:=300000) (disch:=omega) [↓if_neg]
 | cons f r ih =>
  intro k N b hd hN hr hb
  simp only[List.length_cons]at hb
  obtain⟨h1,h2⟩:=hr f (.head _)
  have h3:=WR h1
  obtain⟨M,hM,e⟩:=ih (k+1) (N+1) (b++nc sh f) (aL hd) (by omega) (fun q hq=>hr q (.tail _ hq)) (by rw[List.length_append];omega)
  refine⟨M,hM,?_⟩
  have ea:b++(f::r).flatMap (nc sh)=b++nc sh f++r.flatMap (nc sh):=by rw[List.flatMap_cons,List.append_assoc]
  rw[aa rfl,aiN sh full i l hl k N hN f r hd h1 h2 b (by omega),SE,e,ea]
theorem PN {sh:Bool}{l:List bb}(h:lZ sh l):(qj sh l).length≤1000:=by
 have hm:jb sh≤3∧jA sh≤2:=by cases sh<;>decide
 have h1:=h.1
 unfold qj
 rw[List.length_append,eB]
 cases l with
 | nil=>simp;omega
 | cons f0 r =>
  have h2:=h.2 f0 (by simp)
  have:∀ q:List bb,(∀ f∈q,wg sh f)→(q.flatMap (nc sh)).length≤100*q.length:=by
   intro q
   induction q with
   | nil=>simp
   | cons f q ih =>
    intro hq
    have a:=WR (hq f (.head _))
    have b:=ih fun g hg=>hq g (.tail _ hg)
    rw[List.flatMap_cons,List.length_append,List.length_cons];omega
  have:=this (f0::r) fun f hf=>(h2 f hf).1
  simp only[List.length_append,eB]
  omega
theorem ah6 (i:aG) (full:List (List bb)) (hl:full.length≤1000):∀ (r:List (List bb)) (j N:Nat) (b:List Nat),full.drop j=r→3≤N→(∀ l∈r,lZ i.short l∧∀ f∈l,∀ c∈f.coefs,i64 c)→b.length+1000*r.length≤700000000→
  ∃ M,(Dn prog).code (.loop gZ) ⟨I6 full j [],⟨Df i.short (.own false 1 (ah b)),N⟩⟩ =
  some (.exit 0,⟨[(3,.ptr 0 0)],⟨[(0,.cells [.own false 1 (ah (b++fE i.short r))])],M⟩⟩):=by
 intro r
 induction r with
 | nil =>
  intro j N b hd hN hr hb
  have hi:=aH hd
  refine⟨N,?_⟩
  rw[aa gZ.eq_1,fE,List.flatMap_nil,List.append_nil]
  simp (maxSteps:=300000) (disch:=omega) [↓if_neg]
 | cons l r ih =>
  intro j N b hd hN hr hb
  simp only[List.length_cons]at hb
  have hg:=ow hd
  have hlt:=aQ hd
  obtain⟨h1,h2⟩:=hr l (.head _)
  have hwl:=PN h1
  have hm:jb i.short≤3∧jA i.short≤2∧jb i.short<2 ^ jA i.short:=by cases i.short<;>decide
  obtain⟨m1,m2,m3⟩:=hm
  have hll:=h1.1
  have p1:=oy (adU i.short) (N:=N) (b:=b) (by omega) l.length (jA i.short) (by omega) (by omega) (by simp only[Int.toNat_natCast];omega) l.length (by simp) (jA i.short) rfl
  have c1:((j+1:Nat):Int)=(j:Int)+1:=rfl
  have c0:((0:Nat):Int)=0:=rfl
  cases l with
  | nil =>
   have eb:qj i.short []=al 0 (jA i.short):=by simp[qj]
   obtain⟨M2,hM2,p2⟩:=abT i.short full j [] (by simp) [] 0 N (b++qj i.short []) rfl hN (by simp) (by simp;omega)
   obtain⟨M,e⟩:=ih (j+1) M2 (b++qj i.short []) (aL hd) hM2 (fun q hq=>hr q (.tail _ hq)) (by rw[List.length_append];omega)
   refine⟨M,?_⟩
   have ea:b++fE i.short ([]::r)=b++qj i.short []++fE i.short r:=by rw[fE,List.flatMap_cons,List.append_assoc];rfl
   rw[eb]at ea e p2
   simp only[List.length_nil,List.flatMap_nil,List.append_nil]at p1 p2
   rw[c1]at e
   rw[c0]at p1 p2
   have n0:df []=[]:=rfl
   rw[n0]at hg p2
   rw[ea]
   generalize b++al 0 (jA i.short)++fE i.short r=BB at *
   generalize b++al 0 (jA i.short)=B1 at *
   simp only[Df]at p1 p2 e⊢
   rw[←e,aa gZ.eq_1]
   simp (maxSteps:=300000) (disch:=omega) [↓if_pos,↓if_neg,hg,p1,p2]
  | cons f0 r0 =>
   have hgf:=q9 (l:=f0::r0) (i:=0) (s:=f0) (r:=r0) rfl
   have hb1:=sK f0.fine
   have e1:(if f0.fine=true then (1:Int) else 0)=(bV f0.fine:Int):=by cases f0.fine<;>rfl
   rw[e1]at hb1
   have hbd:bV f0.fine≤1:=by unfold bV;cases f0.fine<;>decide
   have hok:∀ f∈f0::r0,wg i.short f∧∀ c∈f.coefs,i64 c:=fun f hf=>⟨(h1.2 f0 (by simp) f hf).1,h2 f hf⟩
   have p2:=oy (adU i.short) (N:=N) (b:=b++al (f0::r0).length (jA i.short)) (by simp;omega) (bV f0.fine) 1 (by omega) (by omega) (by simp only[Int.toNat_natCast];omega) (bV f0.fine) (by simp) 1 rfl
   obtain⟨M2,hM2,p3⟩:=abT i.short full j (f0::r0) (by omega) (f0::r0) 0 N (b++al (f0::r0).length (jA i.short)++al (bV f0.fine) 1) rfl hN hok (by simp only[List.length_append,eB];omega)
   have eb:b++al (f0::r0).length (jA i.short)++al (bV f0.fine) 1++(f0::r0).flatMap (nc i.short)=b++qj i.short (f0::r0):=by simp only[qj,List.append_assoc]
   obtain⟨M,e⟩:=ih (j+1) M2 (b++qj i.short (f0::r0)) (aL hd) hM2 (fun q hq=>hr q (.tail _ hq)) (by rw[List.length_append];omega)
   refine⟨M,?_⟩
   have ea:b++fE i.short ((f0::r0)::r)=b++qj i.short (f0::r0)++fE i.short r:=by rw[fE,List.flatMap_cons,List.append_assoc];rfl
   have hll2:1≤(f0::r0).length:=by simp
   rw[eb]at p3
   rw[c1]at e
   rw[c0]at p3
   rw[ea]
   generalize b++qj i.short (f0::r0)++fE i.short r=BB at *
   generalize b++qj i.short (f0::r0)=B3 at *
   generalize b++al (f0::r0).length (jA i.short)++al (bV f0.fine) 1=B2 at *
   generalize b++al (f0::r0).length (jA i.short)=B1 at *
   generalize hLL:(f0::r0).length=LL at *
   have hfl:(df (f0::r0)).length=LL:=by rw[aeF,hLL]
   clear h2 hok h1
   generalize df (f0::r0)=FF at *
   obtain⟨hgl,hge⟩:=List.getElem?_eq_some_iff.1 hgf
   simp only[Df]at p1 p2 p3 e⊢
   rw[←e,aa gZ.eq_1]
   simp (maxSteps:=300000) (disch:=omega) [↓if_pos,↓if_neg,hg,hgf,hge,hfl,hb1,p1,p2,p3]
theorem YZ (i:aG) (f0:bb) (l:List bb) (f:bb) (hf:wg i.short f∧f.fine=f0.fine) (H:ac) (p q M:Nat) (hp:get H p=some (.cells i.cells)) (hq:get H q=some (.cells [.d (.lst (df (f0::l)))])) (hl:(f0::l).length≤1000000) (hM:Lt H M) :
  (Dn prog).call eQ [.agg f.av,.ptr p 0,.ptr q 0] ⟨H,M⟩=some (.d (.bool false),⟨H,M+1⟩):=by
 have e1:=fun o=>su (o:=o) hM
 have e2:=fun o=>u7 (o:=o) hM
 have e3:=fun o=>rI (N:=M) (o:=o) hp
 have e4:=fun o=>rI (N:=M) (o:=o) hq
 have e5:=fun o=>ZZ (o:=o) hM
 have e6:=UJ i f hf.1
 have hfn:=hf.2
 have hg:=q9 (l:=f0::l) (i:=0) (s:=f0) (r:=l) rfl
 rw[aJ GE mr.eq_1 rfl]
 simp only[bb.av,aG.cells]at e3 e6⊢
 simp only[List.length_cons]at hl
 cases hf2:f0.fine<;>rw[hf2]at hg hfn<;>rw[hfn]at e6⊢<;>
  simp (maxSteps:=300000) (disch:=omega) [↓if_pos,↓if_neg,e1,e2,e3,e4,e5,e6,hg]
theorem WG (i:aG) (full:List (List bb)) (hl:full.length≤1000):∀ (r:List (List bb)) (j N:Nat) (H:ac),full.drop j=r→get H 0=some (.cells i.cells)→Lt H N→1≤N→(∀ l∈r,lZ i.short l)→
  ∃ H2 M,(Dn prog).code (.loop iG) ⟨[(2,.ptr 0 0),(21,.d (.lst (gx full))),(22,.d (.int .i64 full.length)),(23,.d (.int .i64 j))],⟨H,N⟩⟩=some (.exit 0,⟨[],⟨H2,M⟩⟩):=by
 intro r
 induction r with
 | nil =>
  intro j N H hd hH hL hN hr
  have hi:=aH hd
  refine⟨H,N,?_⟩
  rw[aa iG.eq_1]
  simp (maxSteps:=300000) (disch:=omega) [↓if_neg]
 | cons l r ih =>
  intro j N H hd hH hL hN hr
  have hg:=ow hd
  have hlt:=aQ hd
  have hW:=hr l (.head _)
  have hm:jb i.short≤3:=by cases i.short<;>decide
  have hll:=hW.1
  have e1:=fun o=>su (o:=o) hL
  have e2:=fun o=>u7 (o:=o) hL
  have e3:=fun o=>rI (N:=N) (o:=o) hH
  have e4:=fun o o'=>QC (o:=o) (o':=o') hL
  have c1:((j+1:Nat):Int)=(j:Int)+1:=rfl
  have hsz:=ub i
  have hix:Zt 5 1 false (.agg (fc i.short)) (.d (.int .i64 3))=some (.d (.int .i64 (jb i.short:Int))):=by cases i.short<;>rfl
  have hcf:∃ M,N+1≤M∧(Dn prog).call bx [.d (.lst (df l)),.fn eQ [] [.ptr 0 0,.ptr N 0]] ⟨H++[(N,.cells [.d (.lst (df l))])],N+1⟩=some (.d (.bool false),⟨H++[(N,.cells [.d (.lst (df l))])],M⟩):=by
   have h:=rP (.fn eQ [] [.ptr 0 0,.ptr N 0]) (fun _=>false) l (by omega) (H++[(N,.cells [.d (.lst (df l))])]) (N+1) rfl rfl fun f hf M hM=>by
    cases l with
    | nil=>simp at hf
    | cons f0 r0 =>
     have:=YZ i f0 r0 f (hW.2 f0 (by simp) f hf) (H++[(N,.cells [.d (.lst (df (f0::r0)))])]) 0 N M (e3 _) (e2 _) (by omega) (VE (Am hL) hM)
     simpa using this
   have e:l.any (fun _=>false)=false:=by simp
   rw[e]at h
   exact h
  obtain⟨M,hM,e5⟩:=hcf
  obtain⟨H2,M2,f2⟩:=ih (j+1) M (H++[(N,.cells [.d (.lst (df l))])]) (aL hd) (e3 _) (VE (Am hL) hM) (by omega) (fun q hq=>hr q (.tail _ hq))
  rw[c1]at f2
  refine⟨H2,M2,?_⟩
  simp only[aG.cells]at e3 hsz
  rw[aa iG.eq_1,←f2]
  simp (maxSteps:=300000) (disch:=omega) [↓if_pos,↓if_neg,hg,e1,e2,e3,e4,e5,hsz,hix]
theorem U8 (i:aG) (hi:i.Fit) (hm:i.may 11) (t:List (List bb)) (ht:VN i t):aW prog pw [.agg i.cells,.d (.lst (gx t))]=some (.d (.int .i64 0)):=by
 have hw:=pQ i hi
 rw[if_pos hm]at hw
 have hmm:i.many≤8:=by unfold aG.many;split<;>omega
 have htl:=ht.1
 obtain⟨H2,M,e⟩:=WG i t (by omega) t 0 1 [(0,.cells i.cells)] rfl (by simp) (fun p hp=>by rw[List.mem_singleton]at hp;subst hp;show 0<1;omega) (by omega) ht.2
 have c0:((0:Nat):Int)=0:=rfl
 rw[c0]at e
 simp only[aG.cells]at hw e
 rw[au LJ oO.eq_1 rfl]
 simp (maxSteps:=300000) (disch:=omega) [↓if_pos,↓if_neg,hw,e]
theorem YX (b:List Nat) (hb:b.length≤600000000) (x:AV) (hx:x=.d (.lst (ah b))∨x=.nl∧b=[]) (i:aG) (hi:i.Fit) (hm:i.may 11) (t:List (List bb)) (ht:VN i t) (htI:∀ l∈t,∀ f∈l,∀ c∈f.coefs,i64 c):aW prog mX [x,.agg i.cells,.d (.lst (gx t))] =
  some (.tup [.own true 1 (ah (b++fE i.short t)),.d (.int .i64 0)]):=by
 have hc:=U8 i hi hm t ht
 have hmm:i.many≤8:=by unfold aG.many;split<;>omega
 have htl:=ht.1
 obtain⟨M,e⟩:=ah6 i t (by omega) t 0 3 b rfl (by omega) (fun l hl=>⟨ht.2 l hl,htI l hl⟩) (by omega)
 have hcl:aW prog dD [x]=some (.own true 1 (ah b)):=by
  refine zz x b (by omega) ?_
  rcases hx with rfl | ⟨rfl,rfl⟩<;>rfl
 have hsz:=ub i
 have hl5:(fc i.short).length=5:=by cases i.short<;>rfl
 have hsc:aj [AV.d (.int .i64 0),AV.d (.int .i64 0),AV.d (.int .i64 0),AV.d (.int .i64 0),AV.d (.int .i64 0)] 0 (fc i.short)=fc i.short:=by cases i.short<;>rfl
 have hall:(fc i.short).all cy=true:=by cases i.short<;>rfl
 have hfm:(fc i.short).map gy=fc i.short:=by cases i.short<;>rfl
 have c0:((0:Nat):Int)=0:=rfl
 rw[c0]at e
 simp only[aG.cells,Df,I6]at hc e hsz
 rw[au UD t4.eq_1 rfl]
 rcases hx with rfl | ⟨rfl,rfl⟩
 ·simp (maxSteps:=300000) (disch:=omega) [↓if_pos,↓if_neg,hc,hcl,hsz,hl5,hsc,hall,hfm,e]
 ·simp (maxSteps:=300000) (disch:=omega) [↓if_pos,↓if_neg,hc,hcl,hsz,hl5,hsc,hall,hfm,e]
end Go.Vm
end
