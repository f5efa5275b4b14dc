import Derived.Test.YtlmmdafiomepaaaGreatP2
set_option linter.unusedVariables false
set_option linter.unusedSimpArgs false
noncomputable section
namespace Go.Vm
set_option maxHeartbeats 2000000
set_option maxRecDepth 100000
structure Hv (hp:AV→ac) (p:Nat):Prop where
 get:∀ v,get (hp v) p=some (.cells [v])
 put:∀ v w,put (hp v) p (.cells [w])=hp w
def inB (x:AV) (b:List Nat):Prop:=x=.own false 1 (ah b)∨x=.d (.lst (ah b))∨x=.nl∧b=[]
theorem eG {b:List Nat}:inB (.own false 1 (ah b)) b:=.inl rfl
theorem Gp {hp:AV→ac}{p N:Nat}(H:Hv hp p) {x:AV}{b:List Nat}(hx:inB x b) (hb:b.length≤900000000) (n s:Int) (ho:gJ n s) (hn:i64 n) :
  (Dn prog).call mN [.d (.int .i64 n),.d (.int .i64 s),.ptr p 0] ⟨hp x,N⟩=some (.tup [],⟨hp (.own false 1 (ah (b++ae n.toNat s.toNat))),N⟩):=by
 have h1:=fun x hx=>im b n s hb hn x hx
 simp only[if_pos ho]at h1
 rw[aA ae7 Av.eq_1 rfl]
 rcases hx with rfl | rfl | ⟨rfl,rfl⟩
 ·have h2:=h1 _ (.inl rfl)
  simp (maxSteps:=300000) (disch:=omega) [H.get,H.put,h2]
 ·have h2:=h1 _ (.inl rfl)
  simp (maxSteps:=300000) (disch:=omega) [H.get,H.put,h2]
 ·have h2:=h1 _ (.inr ⟨rfl,rfl⟩)
  simp (maxSteps:=300000) (disch:=omega) [H.get,H.put,h2]
theorem nh {hp:AV→ac}{p N:Nat}(H:Hv hp p) {x:AV}{b:List Nat}(hx:inB x b) (hb:b.length≤900000000) (n s:Nat) (hs:s≤31) (ho:n<2 ^ s) (nI sI:Int) (en:nI=n) (es:sI=s) :
  (Dn prog).call mN [.d (.int .i64 nI),.d (.int .i64 sI),.ptr p 0] ⟨hp x,N⟩=some (.tup [],⟨hp (.own false 1 (ah (b++ae n s))),N⟩):=by
 subst en es
 have h31:2 ^ s≤2 ^ 31:=Nat.pow_le_pow_right (by omega) hs
 exact Gp H hx hb n s (by simp only[gJ,Int.toNat_natCast];omega) (by omega)
def jn:List Int→Int→Nat
 | [],_=>0
 | n::r,w=>if w<n then 0 else jn r (w-n)+1
theorem abF (i:aD) (hi:i.groups.length≤1000) (hg:∀ n∈i.groups,1≤n∧n≤8) (m:Nat):∀ (r:List Int) (g:Nat) (w:Int),i.groups.drop g=r→0≤w→w<r.sum→w≤8→
  (Dn prog).code (.loop sN) ⟨[(2,.ptr 0 0),(8,.d (.int .i64 g)),(9,.d (.int .i64 w))],⟨[(0,.cells i.cells)],m⟩⟩=some (.exit 0,⟨[(8,.d (.int .i64 (g+jn r w:Nat)))],⟨[(0,.cells i.cells)],m⟩⟩):=by
 simp only[aD.cells]
 intro r
 induction r with
 | nil=>intro g w h1 h2 h3;simp at h3;omega
 | cons n r ih =>
  intro g w h1 h2 h3 h4
  have hlt:g<i.groups.length:=by
   rcases Nat.lt_or_ge g i.groups.length with h | h
   ·exact h
   ·rw[List.drop_eq_nil_of_le h]at h1;exact absurd h1 (by simp)
  have h5:=List.drop_eq_getElem_cons hlt
  have e1:i.groups[g]=n∧i.groups.drop (g+1)=r:=by rw[h1]at h5;injection h5 with a b;exact⟨a.symm,b.symm⟩
  have hn:=hg _ (List.getElem_mem hlt)
  rw[e1.1]at hn
  have hnt:nth i.groups g=n:=by have:=qD hlt;rw[List.getElem?_eq_getElem hlt,e1.1]at this;injection this with this;exact this.symm
  rw[aa sN.eq_1,jn]
  by_cases h6:w<n
  ·rw[if_pos h6]
   simp (maxSteps:=300000) (disch:=omega) [↓if_pos,↓if_neg,hnt]
  ·have h7:=ih (g+1) (w-n) e1.2 (by omega) (by simp only[List.sum_cons]at h3;omega) (by omega)
   have c1:((g+1:Nat):Int)=(g:Int)+1:=rfl
   have c2:g+1+jn r (w-n)=g+(jn r (w-n)+1):=by omega
   rw[c1,c2]at h7
   rw[if_neg h6]
   simp (maxSteps:=300000) (disch:=omega) [↓if_pos,↓if_neg,hnt]
   exact h7
theorem ei {i:aD}(hm:i.may 11):(∀ n∈i.groups,1≤n∧n≤8)∧i.groups.sum=i.many:=by
 obtain⟨_,_,_,_,h⟩:=hm
 unfold aD.grouped at h
 unfold aD.many
 by_cases hs:i.seq=2
 ·rw[if_pos hs]at h⊢
  exact⟨h.1,h.2.1⟩
 ·rw[if_neg hs]at h⊢
  rw[h]
  simp
theorem GI (i:aD) (hi:i.Fit) (hm:i.may 11) (w:Int) (h0:0≤w) (h1:w<i.many):aL prog nc [.agg i.cells,.d (.int .i64 w)]=some (.tup [.d (.int .i64 (jn i.groups w)),.d (.int .i64 0)]):=by
 have hw:=sP i hi
 rw[if_pos hm]at hw
 obtain⟨g1,g2⟩:=ei hm
 have hmm:i.many≤8:=by unfold aD.many;split<;>omega
 have hl:=abF i hi.len g1 1 i.groups 0 w rfl h0 (by omega) (by omega)
 have c0:((0:Nat):Int)=0:=rfl
 rw[c0,Nat.zero_add]at hl
 simp only[aD.cells]at hw hl
 rw[am acT zQ.eq_1 rfl]
 simp (maxSteps:=300000) (disch:=omega) [hw,↓if_pos,↓if_neg,hl]
theorem SF:∀ x∈yd,rH x.1 x.2≤rH 11 x.2∧rH x.1 true≤14:=by decide +kernel
theorem lg {r:Nat}{i:aD}(hr:r≤11) (h:i.may r):i.may 11:=by
 obtain⟨h1,h2,h3,h4,h5⟩:=h
 have:=(SF _ (jV (r:=r) (s:=decide (i.seq=2)) (by omega))).1
 exact⟨h1,h2,h3,by simp only[]at this;omega,h5⟩
def eqB (g:List Int):Nat→Nat→List Nat
 | 0,_=>[]
 | k+1,w=>(if jn g w=jn g (w+1) then ae 1 1 else ae 0 1)++eqB g k (w+1)
theorem ahg {g:List Int}:∀ {k w:Nat},(eqB g k w).length=k
 | 0,_=>rfl
 | k+1,w=>by rw[eqB,List.length_append,ahg];split<;>simp<;>omega
def jk (i:aD):List Nat:=ae 0 1++(ae i.seq 2++(ae i.shape 1++(if i.seq=2 then ae i.max.toNat 4++eqB i.groups 7 0 else ae i.max.toNat 6++ae 0 1)))
abbrev hpP (i:aD) (v:AV):ac:=[(0,.cells [v]),(1,.cells i.cells)]
theorem Kg (i:aD):Hv (hpP i) 0:=⟨fun v=>by simp,fun v w=>by simp⟩
theorem afE (i:aD) (hi:i.Fit) (hm:i.may 11) (hs:i.seq=2) (N:Nat):∀ (k w:Nat) (b:List Nat),w+k=7→b.length≤800000000+w→
  (Dn prog).code (.loop oT) ⟨[(3,.ptr 0 0),(5,.ptr 1 0),(9,.fn mN [] [.ptr 0 0]),(10,.d (.int .i64 ((w:Int)+1)))],⟨hpP i (.own false 1 (ah b)),N⟩⟩ =
  some (.exit 0,⟨[(3,.ptr 0 0)],⟨hpP i (.own false 1 (ah (b++eqB i.groups k w))),N⟩⟩):=by
 have hmm:i.many=8:=by unfold aD.many;rw[if_pos hs]
 intro k
 induction k with
 | zero =>
  intro w b h1 h2
  rw[aa oT.eq_1,eqB]
  simp (maxSteps:=300000) (disch:=omega) [↓if_neg]
 | succ k ih =>
  intro w b h1 h2
  have g1:=GI i hi hm w (by omega) (by omega)
  have g2:=GI i hi hm (w+1) (by omega) (by omega)
  have p1:=Gp (Kg i) (N:=N) (eG (b:=b)) (by omega) 1 1 (by decide) (by omega)
  have p0:=Gp (Kg i) (N:=N) (eG (b:=b)) (by omega) 0 1 (by decide) (by omega)
  have i1:=ih (w+1) (b++ae 1 1) (by omega) (by simp;omega)
  have i0:=ih (w+1) (b++ae 0 1) (by omega) (by simp;omega)
  have c1:((w+1:Nat):Int)=(w:Int)+1:=rfl
  have t1:(1:Int).toNat=1:=rfl
  have t0:(0:Int).toNat=0:=rfl
  simp only[aD.cells]at g1 g2
  simp only[c1,t1,t0,List.append_assoc]at p1 p0 i1 i0
  rw[aa oT.eq_1,eqB]
  by_cases h:jn i.groups w=jn i.groups (w+1)
  ·rw[if_pos h]
   simp (maxSteps:=300000) (disch:=omega) [↓if_pos,g1,g2,h,p1]
   exact i1
  ·rw[if_neg h]
   simp (maxSteps:=300000) (disch:=omega) [↓if_pos,↓if_neg,g1,g2,h,p0]
   exact i0
theorem adV (b:List Nat) (hb:b.length≤700000000) (x:AV) (hx:x=.d (.lst (ah b))∨x=.nl∧b=[]) (r:Int) (i:aD) (hi:i.Fit):aL prog xW [x,.d (.int .i64 r),.agg i.cells] =
  if ef r then if i.may r.toNat then some (.tup [.own true 1 (ah (b++jk i)),.d (.int .i64 0)]) else some (.tup [.nl,.d (.int .i64 8)]) else some (.tup [.nl,.d (.int .i64 2)]):=by
 have hc:=Fh r i hi
 simp only[aD.cells]at hc
 have hxx:inB x b:=by
  rcases hx with rfl | ⟨rfl,rfl⟩
  ·exact .inr (.inl rfl)
  ·exact .inr (.inr ⟨rfl,rfl⟩)
 rw[am ahZ Gj.eq_1 rfl]
 by_cases hr:ef r
 ·rw[if_pos hr]at hc⊢
  by_cases hm:i.may r.toNat
  ·rw[if_pos hm]at hc⊢
   have hm11:i.may 11:=lg (by omega) hm
   obtain⟨m1,m2,m3,m4,m5⟩:=hm
   have hmb:=Qi (r:=r.toNat) (s:=decide (i.seq=2)) (by omega)
   have q1:=nh (Kg i) (N:=2) hxx (by omega) 0 1 (by decide) (by decide) 0 1 rfl rfl
   have q2:=nh (Kg i) (N:=2) (eG (b:=b++ae 0 1)) (by simp;omega) i.seq 2 (by decide) (by omega) i.seq 2 rfl rfl
   have q3:=nh (Kg i) (N:=2) (eG (b:=b++ae 0 1++ae i.seq 2)) (by simp;omega) i.shape 1 (by decide) (by omega) i.shape 1 rfl rfl
   by_cases hs:i.seq=2
   ·rw[decide_eq_true hs]at m4
    have hmb:=(SF _ (jV (r:=r.toNat) (s:=true) (by omega))).2
    simp only[]at hmb
    have q4:=nh (Kg i) (N:=2) (eG (b:=b++ae 0 1++ae i.seq 2++ae i.shape 1)) (by simp;omega) i.max.toNat 4 (by decide) (by omega) i.max 4 (by omega) rfl
    have q5:=afE i hi hm11 hs 2 7 0 (b++ae 0 1++ae i.seq 2++ae i.shape 1++ae i.max.toNat 4) (by omega) (by simp;omega)
    have c0:((0:Nat):Int)+1=1:=rfl
    rw[c0]at q5
    have e:b++ae 0 1++ae i.seq 2++ae i.shape 1++ae i.max.toNat 4++eqB i.groups 7 0=b++jk i:=by simp only[jk,if_pos hs,List.append_assoc]
    rw[e]at q5
    simp only[hpP,aD.cells]at q1 q2 q3 q4 q5
    generalize b++ae 0 1=B1 at *
    generalize B1++ae i.seq 2=B2 at *
    generalize B2++ae i.shape 1=B3 at *
    generalize B3++ae i.max.toNat 4=B4 at *
    generalize jk i=IB at *
    rcases hx with rfl | ⟨rfl,rfl⟩
    all_goals
     simp (maxSteps:=300000) (disch:=omega) [hc,↓if_pos,↓if_neg,q1,q2,q3,q4,q5]
   ·have q4:=nh (Kg i) (N:=2) (eG (b:=b++ae 0 1++ae i.seq 2++ae i.shape 1)) (by simp;omega) i.max.toNat 6 (by decide) (by omega) i.max 6 (by omega) rfl
    have q5:=nh (Kg i) (N:=2) (eG (b:=b++ae 0 1++ae i.seq 2++ae i.shape 1++ae i.max.toNat 6)) (by simp;omega) 0 1 (by decide) (by decide) 0 1 rfl rfl
    have e:b++ae 0 1++ae i.seq 2++ae i.shape 1++ae i.max.toNat 6++ae 0 1=b++jk i:=by simp only[jk,if_neg hs,List.append_assoc]
    rw[e]at q5
    simp only[hpP,aD.cells]at q1 q2 q3 q4 q5
    generalize b++ae 0 1=B1 at *
    generalize B1++ae i.seq 2=B2 at *
    generalize B2++ae i.shape 1=B3 at *
    generalize B3++ae i.max.toNat 6=B4 at *
    generalize jk i=IB at *
    rcases hx with rfl | ⟨rfl,rfl⟩
    all_goals
     simp (maxSteps:=300000) (disch:=omega) [hc,↓if_pos,↓if_neg,q1,q2,q3,q4,q5]
  ·rw[if_neg hm]at hc⊢
   rcases hx with rfl | ⟨rfl,rfl⟩
   all_goals simp (maxSteps:=300000) (disch:=omega) [hc,↓if_pos,↓if_neg]
 ·rw[if_neg hr]at hc⊢
  rcases hx with rfl | ⟨rfl,rfl⟩
  all_goals simp (maxSteps:=300000) (disch:=omega) [hc,↓if_pos,↓if_neg]
end Go.Vm
namespace Go.Vm
set_option maxHeartbeats 2000000
structure RS where
 a:Int
 e:Nat
def ra (s:RS):Int:=s.a
def re (s:RS):Nat:=s.e
def RS.fit (st:RS):Prop:=i64 st.a
def grow:List Int→List Nat→List Int
 | g,[]=>g
 | g,x::r=>grow (if x=1 then g.set (g.length-1) (nth g (g.length-1)+1) else g++[1]) r
end Go.Vm
namespace Go.Vm
set_option maxHeartbeats 2000000
def R.bind {α β:Type}(x:R α) (f:α→Nat→R β):R β :=
 match x with
 | .ok v n=>f v n
 | .er e=>.er e
@[simp] theorem avv {α β:Type}{v:α}{n:Nat}{f:α→Nat→R β}:R.bind (.ok v n) f=f v n:=rfl
@[simp] theorem av1 {α β:Type}{e:Nat}{f:α→Nat→R β}:R.bind (.er e) f=.er e:=rfl
end Go.Vm
namespace Go.Vm
set_option maxHeartbeats 2000000
end Go.Vm
namespace Go.Vm
set_option maxHeartbeats 2000000
end Go.Vm
namespace Go.Vm
set_option maxHeartbeats 2000000
structure aC where
 book:Int
 len:Int
abbrev aC.cells (s:aC):List D:=[.int .i64 s.book,.int .i64 s.len]
def ge (l:List aC):List (List D):=l.map aC.cells
@[simp] theorem alO {l:List aC}:(ge l).length=l.length:=by simp[ge]
end Go.Vm
namespace Go.Vm
set_option maxHeartbeats 2000000
def aD.fsz (i:aD):Nat:=if i.seq=2 then 3 else 5
theorem aiI (i:aD):aL prog Ap [.agg i.cells]=some (.tup [.d (.int .i64 i.fsz),.d (.int .i64 ((2 ^ i.fsz-1:Nat):Int))]):=by
 rw[am ad6 AQ.eq_1 rfl]
 unfold aD.fsz
 by_cases h:i.seq=2
 ·simp (disch:=first | omega | assumption) [↓if_pos,↓if_neg,h]
 ·simp (disch:=first | omega | assumption) [↓if_pos,↓if_neg,h]
abbrev I4 (k:Int):Prop:=0≤k∧(k≤11∨k=13)
abbrev aC.right (s:aC) (left:Int):Prop:=(1≤s.len∧s.len≤left)∧I4 s.book
theorem ahR (s:aC) (left:Int):aL prog zk [.agg [.d (.int .i64 s.book),.d (.int .i64 s.len)],.d (.int .i64 left)]=if s.right left then some (.d (.bool true)) else some (.d (.bool false)):=by
 rw[am aec zD.eq_1 rfl]
 by_cases h1:1≤s.len<;>by_cases h2:s.len≤left<;>by_cases h3:0≤s.book<;>by_cases h4:s.book≤11<;>by_cases h5:s.book=13<;>
  simp (disch:=first | omega | assumption) [↓if_pos,↓if_neg]
def fitsS:Int→List aC→Prop
 | left,[]=>left=0
 | left,s::l=>s.right left∧fitsS (left-s.len) l
instance:∀ (left:Int) (l:List aC),Decidable (fitsS left l)
 | left,[]=>by unfold fitsS;infer_instance
 | left,s::l=>by
  unfold fitsS
  have:Decidable (fitsS (left-s.len) l):=instDecidableFitsS _ l
  infer_instance
def bW (g:List (List aC)):List (List D):=g.map fun l=>[.lst (ge l)]
@[simp] theorem aj6 {g:List (List aC)}:(bW g).length=g.length:=by simp[bW]
end Go.Vm
namespace Go.Vm
set_option maxHeartbeats 2000000
end Go.Vm
namespace Go.Vm
set_option maxHeartbeats 2000000
end Go.Vm
namespace Go.Vm
set_option maxHeartbeats 2000000
end Go.Vm
namespace Go.Vm
set_option maxHeartbeats 2000000
structure Hp (hp:List Nat→ac) (D:Nat):Prop where
 get:∀ xs,get (hp xs) D=some (.arr 1 (bl xs))
 put:∀ xs ys,put (hp xs) D (.arr 1 (bl ys))=hp ys
def swp (xs:List Nat) (i j:Nat):List Nat:=(xs.set i (nth xs j)).set j (nth xs i)
@[simp] theorem nG {xs:List Nat}{i j:Nat}:(swp xs i j).length=xs.length:=by simp[swp]
def swpR (xs:List Nat) (a b:Nat):Nat→Nat→List Nat
 | 0,_=>xs
 | k+1,i=>swpR (swp xs (a+i) (b+i)) a b k (i+1)
@[simp] theorem tM {a b:Nat}:∀ {k i:Nat}{xs:List Nat},(swpR xs a b k i).length=xs.length
 | 0,_,_=>rfl
 | k+1,i,xs=>by rw[swpR,tM,nG]
section
variable {hp:List Nat→ac}{D:Nat}
theorem aeH (H:Hp hp D) (len:Nat) (hlen:len≤1000000000) (a b n N:Nat) (ha:a+n≤len) (hb:b+n≤len):∀ (k i:Nat) (xs:List Nat),i+k=n→xs.length=len→
  (Dn prog).code (.loop cU) ⟨[(0,.sl D 0 len),(1,.d (.int .i64 a)),(2,.d (.int .i64 b)),(3,.d (.int .i64 n)),(10,.d (.int .i64 i))],⟨hp xs,N⟩⟩ =
  some (.exit 0,⟨[],⟨hp (swpR xs a b k i),N⟩⟩):=by
 intro k
 induction k with
 | zero =>
  intro i xs hi hx
  rw[aa cU.eq_1]
  simp (maxSteps:=300000) (disch:=omega) [↓if_pos,↓if_neg,swpR]
 | succ k ih =>
  intro i xs hi hx
  rw[aa cU.eq_1]
  have l1:=List.length_set (as:=xs) (i:=a+i) (a:=nth xs (b+i))
  simp (maxSteps:=300000) (disch:=omega) [↓if_pos,↓if_neg,H.get,H.put]
  have h:=ih (i+1) (swp xs (a+i) (b+i)) (by omega) (by simpa using hx)
  have c1:((i+1:Nat):Int)=(i:Int)+1:=rfl
  rw[c1]at h
  rw[swpR,←h]
  rfl
theorem Kl (H:Hp hp D) (F:AV) (len:Nat) (hlen:len≤1000000000) (a b n N:Nat) (ha:a+n≤len) (hb:b+n≤len) (xs:List Nat) (hx:xs.length=len) :
  (Dn prog).call cJ [.sl D 0 len,.d (.int .i64 a),.d (.int .i64 b),.d (.int .i64 n),F] ⟨hp xs,N⟩=some (.tup [],⟨hp (swpR xs a b n 0),N⟩):=by
 rw[aA tp fG.eq_1 rfl]
 have h:=aeH H len hlen a b n N ha hb n 0 xs (by omega) hx
 have c0:((0:Nat):Int)=0:=rfl
 rw[c0]at h
 simp (maxSteps:=300000) (disch:=omega) [↓if_pos,↓if_neg,h]
def rot (m:Nat):Nat→List Nat→Nat→Nat→List Nat
 | 0,xs,i,j=>xs
 | f+1,xs,i,j=>if i=j then swpR xs (m-i) m i 0 else if j<i then rot m f (swpR xs (m-i) m j 0) (i-j) j else rot m f (swpR xs (m-i) (m+j-i) i 0) i (j-i)
theorem yD {m:Nat}:∀ {f:Nat}{xs:List Nat}{i j:Nat},(rot m f xs i j).length=xs.length
 | 0,_,_,_=>rfl
 | f+1,xs,i,j=>by
  rw[rot]
  split
  ·exact tM
  ·split
   ·rw[yD,tM]
   ·rw[yD,tM]
theorem ajo (H:Hp hp D) (F:AV) (hF:share F=F) (hG:firm F=F) (len:Nat) (hlen:len≤1000000000) (m N:Nat):∀ (f i j:Nat) (xs:List Nat),i+j≤f→1≤i→1≤j→i≤m→m+j≤len→xs.length=len→
  ∃ (k:Nat) (ys:List Nat),(Dn prog).code (.loop fE) ⟨[(0,.sl D 0 len),(2,.d (.int .i64 m)),(4,F),(10,.d (.int .i64 i)),(11,.d (.int .i64 j))],⟨hp xs,N⟩⟩ =
   some (.exit 0,⟨[(0,.sl D 0 len),(2,.d (.int .i64 m)),(4,F),(10,.d (.int .i64 k))],⟨hp ys,N⟩⟩)∧k≤m∧m+k≤len∧ys.length=len∧swpR ys (m-k) m k 0=rot m f xs i j:=by
 intro f
 induction f with
 | zero=>intro i j xs h h1 h2;omega
 | succ f ih =>
  intro i j xs h h1 h2 h3 h4 hx
  rw[aa fE.eq_1]
  by_cases e:i=j
  ·subst e
   refine⟨i,xs,?_,h3,h4,hx,?_⟩
   ·simp (maxSteps:=300000) (disch:=omega) [↓if_pos,↓if_neg]
   ·rw[rot,if_pos rfl]
  ·by_cases e2:j<i
   ·obtain⟨k,ys,g1,g2,g3,g4,g5⟩:=ih (i-j) j (swpR xs (m-i) m j 0) (by omega) (by omega) h2 (by omega) h4 (by simpa using hx)
    refine⟨k,ys,?_,g2,g3,g4,?_⟩
    ·have hs:=Kl H F len hlen (m-i) m j N (by omega) (by omega) xs hx
     have c1:((m-i:Nat):Int)=(m:Int)-i:=by omega
     have c2:((i-j:Nat):Int)=(i:Int)-j:=by omega
     rw[c1]at hs
     rw[c2]at g1
     simp (maxSteps:=300000) (disch:=omega) [↓if_pos,↓if_neg,hs,hF,hG,g1]
    ·rw[rot,if_neg e,if_pos e2,g5]
   ·obtain⟨k,ys,g1,g2,g3,g4,g5⟩:=ih i (j-i) (swpR xs (m-i) (m+j-i) i 0) (by omega) h1 (by omega) h3 (by omega) (by simpa using hx)
    refine⟨k,ys,?_,g2,g3,g4,?_⟩
    ·have hs:=Kl H F len hlen (m-i) (m+j-i) i N (by omega) (by omega) xs hx
     have c1:((m-i:Nat):Int)=(m:Int)-i:=by omega
     have c2:((j-i:Nat):Int)=(j:Int)-i:=by omega
     have c3:((m+j-i:Nat):Int)=(m:Int)+j-i:=by omega
     rw[c1,c3]at hs
     rw[c2]at g1
     simp (maxSteps:=300000) (disch:=omega) [↓if_pos,↓if_neg,hs,hF,hG,g1]
    ·rw[rot,if_neg e,if_neg e2,g5]
theorem ajC (H:Hp hp D) (F:AV) (hF:share F=F) (hG:firm F=F) (len:Nat) (hlen:len≤1000000000) (a m b N:Nat) (h1:a<m) (h2:m<b) (h3:b≤len) (xs:List Nat) (hx:xs.length=len) :
  (Dn prog).call ie [.sl D 0 len,.d (.int .i64 a),.d (.int .i64 m),.d (.int .i64 b),F] ⟨hp xs,N⟩=some (.tup [],⟨hp (rot m (b-a) xs (m-a) (b-m)),N⟩):=by
 obtain⟨k,ys,g1,g2,g3,g4,g5⟩:=ajo H F hF hG len hlen m N (b-a) (m-a) (b-m) xs (by omega) (by omega) (by omega) (by omega) (by omega) hx
 have hs:=Kl H F len hlen (m-k) m k N (by omega) (by omega) ys g4
 have c1:((m-k:Nat):Int)=(m:Int)-k:=by omega
 have c2:((m-a:Nat):Int)=(m:Int)-a:=by omega
 have c3:((b-m:Nat):Int)=(b:Int)-m:=by omega
 rw[c1,g5]at hs
 rw[c2,c3]at g1
 rw[aA wT gX.eq_1 rfl]
 simp (maxSteps:=300000) (disch:=omega) [↓if_pos,↓if_neg,hs,hF,hG,g1]
end
end Go.Vm
namespace Go.Vm
set_option maxHeartbeats 2000000
structure Cm (hp:List Nat→ac) (L:Nat) (F:AV) (C:Nat→Nat→Int):Prop where
 sh:share F=F
 fi:firm F=F
 cl:∀ xs N x y,x<L→y<L→aP (Dn prog) F [.d (.int .i64 (x:Nat)),.d (.int .i64 (y:Nat))] ⟨hp xs,N⟩=some (.d (.int .i64 (C x y)),⟨hp xs,N⟩)
abbrev b7 (L:Nat) (xs:List Nat):Prop:=∀ x∈xs,x<L
theorem b7.nth {L:Nat}{xs:List Nat}(u:b7 L xs) {i:Nat}(h:i<xs.length):Vm.nth xs i<L:=u _ (nk h)
theorem b7.swp {L:Nat}{xs:List Nat}(u:b7 L xs) {i j:Nat}(hi:i<xs.length) (hj:j<xs.length):b7 L (swp xs i j):=by
 intro x hx
 rcases List.mem_or_eq_of_mem_set hx with h | h
 ·rcases List.mem_or_eq_of_mem_set h with h | h
  ·exact u x h
  ·exact h▸u.nth hj
 ·exact h▸u.nth hi
theorem b7.swpR {L a b:Nat}:∀ {k i:Nat}{xs:List Nat},b7 L xs→a+i+k≤xs.length→b+i+k≤xs.length→b7 L (swpR xs a b k i)
 | 0,_,_,u,_,_=>u
 | k+1,i,xs,u,h1,h2=>by
  rw[Vm.swpR]
  exact b7.swpR (u.swp (by omega) (by omega)) (by rw[nG];omega) (by rw[nG];omega)
theorem b7.rot {L m:Nat}:∀ {f i j:Nat}{xs:List Nat},b7 L xs→i≤m→m+j≤xs.length→b7 L (rot m f xs i j)
 | 0,_,_,_,u,_,_=>u
 | f+1,i,j,xs,u,h1,h2=>by
  rw[Vm.rot]
  split
  ·exact u.swpR (by omega) (by omega)
  ·split
   ·exact(u.swpR (by omega) (by omega)).rot (by omega) (by rw[tM];omega)
   ·exact(u.swpR (by omega) (by omega)).rot (by omega) (by rw[tM];omega)
def insJ (C:Nat→Nat→Int) (a:Nat):Nat→List Nat→List Nat
 | 0,xs=>xs
 | j+1,xs=>if a≤j∧C (nth xs (j+1)) (nth xs j)<0 then insJ C a j (swp xs (j+1) j) else xs
def insO (C:Nat→Nat→Int) (a:Nat):Nat→Nat→List Nat→List Nat
 | 0,_,xs=>xs
 | k+1,i,xs=>insO C a k (i+1) (insJ C a i xs)
section
variable {C:Nat→Nat→Int}{a:Nat}
theorem Gt:∀ {j:Nat}{xs:List Nat},(insJ C a j xs).length=xs.length
 | 0,_=>rfl
 | j+1,xs=>by
  rw[insJ]
  split
  ·rw[Gt,nG]
  ·rfl
theorem NX:∀ {k i:Nat}{xs:List Nat},(insO C a k i xs).length=xs.length
 | 0,_,_=>rfl
 | k+1,i,xs=>by rw[insO,NX,Gt]
theorem b7.insJ {L:Nat}:∀ {j:Nat}{xs:List Nat},b7 L xs→j<xs.length→b7 L (insJ C a j xs)
 | 0,_,u,_=>u
 | j+1,xs,u,h=>by
  rw[Vm.insJ]
  split
  ·exact(u.swp h (by omega)).insJ (by rw[nG];omega)
  ·exact u
theorem b7.insO {L:Nat}:∀ {k i:Nat}{xs:List Nat},b7 L xs→i+k≤xs.length→b7 L (insO C a k i xs)
 | 0,_,_,u,_=>u
 | k+1,i,xs,u,h=>by
  rw[Vm.insO]
  exact(u.insJ (by omega)).insO (by rw[Gt];omega)
end
section
variable {hp:List Nat→ac}{D L:Nat}{F:AV}{C:Nat→Nat→Int}
theorem aiR (H:Hp hp D) (K:Cm hp L F C) (len:Nat) (hlen:len≤1000000000) (a b I N:Nat):∀ (j:Nat) (xs:List Nat),j<len→xs.length=len→b7 L xs→
  (Dn prog).code (.loop cB) ⟨[(0,.sl D 0 len),(1,.d (.int .i64 a)),(2,.d (.int .i64 b)),(3,F),(8,.d (.int .i64 I)),(9,.d (.int .i64 j))],⟨hp xs,N⟩⟩ =
  some (.exit 2,⟨[(0,.sl D 0 len),(1,.d (.int .i64 a)),(2,.d (.int .i64 b)),(3,F),(8,.d (.int .i64 I))],⟨hp (insJ C a j xs),N⟩⟩):=by
 intro j
 induction j with
 | zero =>
  intro xs hj hx u
  rw[aa cB.eq_1]
  simp (maxSteps:=300000) (disch:=omega) [↓if_pos,↓if_neg,insJ,K.sh,K.fi]
 | succ j ih =>
  intro xs hj hx u
  rw[aa cB.eq_1]
  have c1:((j+1:Nat):Int)=(j:Int)+1:=rfl
  by_cases h1:a≤j
  ·have hc:=K.cl xs N _ _ (u.nth (i:=j+1) (by omega)) (u.nth (i:=j) (by omega))
   have l1:=List.length_set (as:=xs) (i:=j+1) (a:=nth xs j)
   by_cases h2:C (nth xs (j+1)) (nth xs j)<0
   ·have h:=ih (swp xs (j+1) j) (by omega) (by simpa using hx) (u.swp (by omega) (by omega))
    rw[insJ,if_pos ⟨h1,h2⟩,←h]
    simp (maxSteps:=300000) (disch:=omega) [↓if_pos,↓if_neg,K.sh,K.fi,H.get,H.put,hc,c1]
    rfl
   ·rw[insJ,if_neg (fun h=>h2 h.2)]
    simp (maxSteps:=300000) (disch:=omega) [↓if_pos,↓if_neg,K.sh,K.fi,H.get,H.put,hc,c1]
  ·rw[insJ,if_neg (fun h=>h1 h.1)]
   simp (maxSteps:=300000) (disch:=omega) [↓if_pos,↓if_neg,K.sh,K.fi,c1]
theorem ajg (H:Hp hp D) (K:Cm hp L F C) (len:Nat) (hlen:len≤1000000000) (a b N:Nat) (hb:b≤len):∀ (k i:Nat) (xs:List Nat),i+k=b→xs.length=len→b7 L xs→
  (Dn prog).code (.loop cy) ⟨[(0,.sl D 0 len),(1,.d (.int .i64 a)),(2,.d (.int .i64 b)),(3,F),(8,.d (.int .i64 i))],⟨hp xs,N⟩⟩ =
  some (.exit 0,⟨[],⟨hp (insO C a k i xs),N⟩⟩):=by
 intro k
 induction k with
 | zero =>
  intro i xs hi hx u
  rw[aa cy.eq_1]
  simp (maxSteps:=300000) (disch:=omega) [↓if_pos,↓if_neg,insO,K.sh,K.fi]
 | succ k ih =>
  intro i xs hi hx u
  rw[aa cy.eq_1]
  have h0:=aiR H K len hlen a b i N i xs (by omega) hx u
  have h:=ih (i+1) (insJ C a i xs) (by omega) (by rw[Gt];exact hx) (u.insJ (by omega))
  have c1:((i+1:Nat):Int)=(i:Int)+1:=rfl
  rw[c1]at h
  rw[insO,←h]
  simp (maxSteps:=300000) (disch:=omega) [↓if_pos,↓if_neg,K.sh,K.fi,h0]
theorem Hl (H:Hp hp D) (K:Cm hp L F C) (len:Nat) (hlen:len≤1000000000) (a b N:Nat) (hab:a<b) (hb:b≤len) (xs:List Nat) (hx:xs.length=len) (u:b7 L xs) :
  (Dn prog).call cR [.sl D 0 len,.d (.int .i64 a),.d (.int .i64 b),F] ⟨hp xs,N⟩=some (.tup [],⟨hp (insO C a (b-(a+1)) (a+1) xs),N⟩):=by
 rw[aA oF ed.eq_1 rfl]
 have h:=ajg H K len hlen a b N hb (b-(a+1)) (a+1) xs (by omega) hx u
 have c1:((a+1:Nat):Int)=(a:Int)+1:=rfl
 rw[c1]at h
 simp (maxSteps:=300000) (disch:=omega) [↓if_pos,↓if_neg,K.sh,K.fi,h]
end
end Go.Vm
namespace Go.Vm
set_option maxHeartbeats 2000000
def E7 (C:Nat→Nat→Int) (xs:List Nat) (a:Nat):Nat→Nat→Nat→Nat
 | 0,i,_=>i
 | f+1,i,j=>if i<j then (if C (nth xs ((i+j) / 2)) (nth xs a)<0 then E7 C xs a f ((i+j) / 2+1) j else E7 C xs a f i ((i+j) / 2)) else i
def EU (C:Nat→Nat→Int) (xs:List Nat) (m:Nat):Nat→Nat→Nat→Nat
 | 0,i,_=>i
 | f+1,i,j=>if i<j then (if C (nth xs m) (nth xs ((i+j) / 2))<0 then EU C xs m f i ((i+j) / 2) else EU C xs m f ((i+j) / 2+1) j) else i
def ja (C:Nat→Nat→Int) (xs:List Nat) (p:Nat):Nat→Nat→Nat→Nat
 | 0,i,_=>i
 | f+1,i,j=>if i<j then (if C (nth xs (p-(i+j) / 2)) (nth xs ((i+j) / 2))<0 then ja C xs p f i ((i+j) / 2) else ja C xs p f ((i+j) / 2+1) j) else i
def shU:Nat→Nat→List Nat→List Nat
 | 0,_,xs=>xs
 | n+1,k,xs=>shU n (k+1) (swp xs k (k+1))
def shD:Nat→Nat→List Nat→List Nat
 | 0,_,xs=>xs
 | n+1,k,xs=>shD n (k-1) (swp xs k (k-1))
theorem Qd {i j:Nat}:((i:Int)+j).fdiv 2=(((i+j) / 2:Nat):Int):=by
 rw[Int.fdiv_eq_ediv_of_nonneg _ (by omega)];omega
section
variable {hp:List Nat→ac}{D L:Nat}{F:AV}{C:Nat→Nat→Int}
theorem afo (H:Hp hp D) (K:Cm hp L F C) (len:Nat) (hlen:len≤1000000000) (a N:Nat) (ha:a<len) (xs:List Nat) (hx:xs.length=len) (u:b7 L xs):∀ (f i j:Nat),j-i≤f→i≤j→j≤len→
  (Dn prog).code (.loop da) ⟨[(0,.sl D 0 len),(1,.d (.int .i64 a)),(4,F),(10,.d (.int .i64 i)),(11,.d (.int .i64 j))],⟨hp xs,N⟩⟩ =
  some (.exit 0,⟨[(0,.sl D 0 len),(1,.d (.int .i64 a)),(10,.d (.int .i64 (E7 C xs a f i j:Nat)))],⟨hp xs,N⟩⟩):=by
 intro f
 induction f with
 | zero =>
  intro i j h1 h2 h3
  rw[aa da.eq_1]
  simp (maxSteps:=300000) (disch:=omega) [↓if_pos,↓if_neg,E7,K.sh,K.fi]
 | succ f ih =>
  intro i j h1 h2 h3
  rw[aa da.eq_1]
  by_cases h:i<j
  ·have hf:=Qd (i:=i) (j:=j)
   rw[E7,if_pos h]
   have q1:i≤(i+j) / 2∧(i+j) / 2<j:=by omega
   generalize (i+j) / 2=q at *
   have hc:=K.cl xs N _ _ (u.nth (i:=q) (by omega)) (u.nth (i:=a) (by omega))
   by_cases g:C (nth xs q) (nth xs a)<0
   ·have h5:=ih (q+1) j (by omega) (by omega) h3
    rw[if_pos g,←h5]
    simp (maxSteps:=300000) (disch:=omega) [↓if_pos,↓if_neg,K.sh,K.fi,H.get,H.put,hc,hf]
   ·have h5:=ih i q (by omega) (by omega) (by omega)
    rw[if_neg g,←h5]
    simp (maxSteps:=300000) (disch:=omega) [↓if_pos,↓if_neg,K.sh,K.fi,H.get,H.put,hc,hf]
  ·rw[E7,if_neg h]
   simp (maxSteps:=300000) (disch:=omega) [↓if_pos,↓if_neg,K.sh,K.fi]
theorem afJ (H:Hp hp D) (len:Nat) (hlen:len≤1000000000) (I N:Nat) (hI:I≤len):∀ (n k:Nat) (xs:List Nat),k+n=I-1→xs.length=len→
  (Dn prog).code (.loop db) ⟨[(0,.sl D 0 len),(10,.d (.int .i64 I)),(13,.d (.int .i64 k))],⟨hp xs,N⟩⟩=some (.exit 2,⟨[],⟨hp (shU n k xs),N⟩⟩):=by
 intro n
 induction n with
 | zero =>
  intro k xs h hx
  rw[aa db.eq_1]
  simp (maxSteps:=300000) (disch:=omega) [↓if_pos,↓if_neg,shU]
 | succ n ih =>
  intro k xs h hx
  rw[aa db.eq_1]
  have l1:=List.length_set (as:=xs) (i:=k) (a:=nth xs (k+1))
  have h5:=ih (k+1) (swp xs k (k+1)) (by omega) (by simpa using hx)
  rw[shU,←h5]
  simp (maxSteps:=300000) (disch:=omega) [↓if_pos,↓if_neg,H.get,H.put]
  rfl
theorem af3 (H:Hp hp D) (K:Cm hp L F C) (len:Nat) (hlen:len≤1000000000) (m N:Nat) (ha:m<len) (xs:List Nat) (hx:xs.length=len) (u:b7 L xs):∀ (f i j:Nat),j-i≤f→i≤j→j≤len→
  (Dn prog).code (.loop de) ⟨[(0,.sl D 0 len),(2,.d (.int .i64 m)),(4,F),(14,.d (.int .i64 i)),(15,.d (.int .i64 j))],⟨hp xs,N⟩⟩ =
  some (.exit 4,⟨[(0,.sl D 0 len),(2,.d (.int .i64 m)),(14,.d (.int .i64 (EU C xs m f i j:Nat)))],⟨hp xs,N⟩⟩):=by
 intro f
 induction f with
 | zero =>
  intro i j h1 h2 h3
  rw[aa de.eq_1]
  simp (maxSteps:=300000) (disch:=omega) [↓if_pos,↓if_neg,EU,K.sh,K.fi]
 | succ f ih =>
  intro i j h1 h2 h3
  rw[aa de.eq_1]
  by_cases h:i<j
  ·have hf:=Qd (i:=i) (j:=j)
   rw[EU,if_pos h]
   have q1:i≤(i+j) / 2∧(i+j) / 2<j:=by omega
   generalize (i+j) / 2=q at *
   have hc:=K.cl xs N _ _ (u.nth (i:=m) (by omega)) (u.nth (i:=q) (by omega))
   by_cases g:C (nth xs m) (nth xs q)<0
   ·have h5:=ih i q (by omega) (by omega) (by omega)
    rw[if_pos g,←h5]
    simp (maxSteps:=300000) (disch:=omega) [↓if_pos,↓if_neg,K.sh,K.fi,H.get,H.put,hc,hf]
   ·have h5:=ih (q+1) j (by omega) (by omega) h3
    rw[if_neg g,←h5]
    simp (maxSteps:=300000) (disch:=omega) [↓if_pos,↓if_neg,K.sh,K.fi,H.get,H.put,hc,hf]
  ·rw[EU,if_neg h]
   simp (maxSteps:=300000) (disch:=omega) [↓if_pos,↓if_neg,K.sh,K.fi]
theorem afV (H:Hp hp D) (len:Nat) (hlen:len≤1000000000) (I N:Nat):∀ (n k:Nat) (xs:List Nat),I+n=k→k<len→xs.length=len→
  (Dn prog).code (.loop c8) ⟨[(0,.sl D 0 len),(14,.d (.int .i64 I)),(17,.d (.int .i64 k))],⟨hp xs,N⟩⟩=some (.exit 6,⟨[],⟨hp (shD n k xs),N⟩⟩):=by
 intro n
 induction n with
 | zero =>
  intro k xs h hk hx
  rw[aa c8.eq_1]
  simp (maxSteps:=300000) (disch:=omega) [↓if_pos,↓if_neg,shD]
 | succ n ih =>
  intro k xs h hk hx
  obtain⟨q,rfl⟩:∃ q,k=q+1:=⟨k-1,by omega⟩
  rw[aa c8.eq_1]
  have l1:=List.length_set (as:=xs) (i:=q+1) (a:=nth xs q)
  have h5:=ih q (swp xs (q+1) q) (by omega) (by omega) (by simpa using hx)
  rw[shD,Nat.add_sub_cancel,←h5]
  simp (maxSteps:=300000) (disch:=omega) [↓if_pos,↓if_neg,H.get,H.put]
  rfl
theorem u5 (H:Hp hp D) (K:Cm hp L F C) (len:Nat) (hlen:len≤1000000000) (a m b M n p N:Nat) (xs:List Nat) (hx:xs.length=len) (u:b7 L xs):∀ (f i j:Nat),j-i≤f→i≤j→j≤len→j≤p+1→p<len+i→
  (Dn prog).code (.loop dc) ⟨[(0,.sl D 0 len),(1,.d (.int .i64 a)),(2,.d (.int .i64 m)),(3,.d (.int .i64 b)),(4,F),(18,.d (.int .i64 M)),(19,.d (.int .i64 n)),(20,.d (.int .i64 i)),(21,.d (.int .i64 j)),(22,.d (.int .i64 p))],⟨hp xs,N⟩⟩ =
  some (.exit 8,⟨[(0,.sl D 0 len),(1,.d (.int .i64 a)),(2,.d (.int .i64 m)),(3,.d (.int .i64 b)),(4,F),(18,.d (.int .i64 M)),(19,.d (.int .i64 n)),(20,.d (.int .i64 (ja C xs p f i j:Nat)))],⟨hp xs,N⟩⟩):=by
 intro f
 induction f with
 | zero =>
  intro i j h1 h2 h3 h4 h5
  rw[aa dc.eq_1]
  simp (maxSteps:=300000) (disch:=omega) [↓if_pos,↓if_neg,ja,K.sh,K.fi]
 | succ f ih =>
  intro i j h1 h2 h3 h4 h5
  rw[aa dc.eq_1]
  by_cases h:i<j
  ·have hf:=Qd (i:=i) (j:=j)
   rw[ja,if_pos h]
   have q1:i≤(i+j) / 2∧(i+j) / 2<j:=by omega
   generalize (i+j) / 2=q at *
   have hp1:p-q<len:=by omega
   have hpq:((p:Int)-q)=((p-q:Nat):Int):=by omega
   generalize p-q=r at *
   have hc:=K.cl xs N _ _ (u.nth (i:=r) (by omega)) (u.nth (i:=q) (by omega))
   by_cases g:C (nth xs r) (nth xs q)<0
   ·have h6:=ih i q (by omega) (by omega) (by omega) (by omega) (by omega)
    rw[if_pos g,←h6]
    simp (maxSteps:=300000) (disch:=omega) [↓if_pos,↓if_neg,K.sh,K.fi,H.get,H.put,hc,hf,hpq]
   ·have h6:=ih (q+1) j (by omega) (by omega) h3 (by omega) (by omega)
    rw[if_neg g,←h6]
    simp (maxSteps:=300000) (disch:=omega) [↓if_pos,↓if_neg,K.sh,K.fi,H.get,H.put,hc,hf,hpq]
  ·rw[ja,if_neg h]
   simp (maxSteps:=300000) (disch:=omega) [↓if_pos,↓if_neg,K.sh,K.fi]
end
def symM (C:Nat→Nat→Int):Nat→List Nat→Nat→Nat→Nat→List Nat
 | 0,xs,_,_,_=>xs
 | f+1,xs,a,m,b =>
  if m-a=1 then shU (E7 C xs a (b-m) m b-1-a) a xs
  else if b-m=1 then shD (m-EU C xs m (m-a) a m) m xs
  else
   let s:=if (a+b) / 2<m then ja C xs ((a+b) / 2+m-1) (b-a) ((a+b) / 2+m-b) ((a+b) / 2) else ja C xs ((a+b) / 2+m-1) (b-a) a m
   let e:=(a+b) / 2+m-s
   let ys:=if s<m∧m<e then rot m (e-s) xs (m-s) (e-m) else xs
   let zs:=if a<s∧s<(a+b) / 2 then symM C f ys a s ((a+b) / 2) else ys
   if (a+b) / 2<e∧e<b then symM C f zs ((a+b) / 2) e b else zs
theorem To {C:Nat→Nat→Int}{xs:List Nat}{a:Nat}:∀ {f i j:Nat},i≤j→i≤E7 C xs a f i j∧E7 C xs a f i j≤j
 | 0,i,j,h=>⟨Nat.le_refl _,h⟩
 | f+1,i,j,h=>by
  rw[E7]
  split
  ·split
   ·have:=To (C:=C) (xs:=xs) (a:=a) (f:=f) (i:=(i+j) / 2+1) (j:=j) (by omega);omega
   ·have:=To (C:=C) (xs:=xs) (a:=a) (f:=f) (i:=i) (j:=(i+j) / 2) (by omega);omega
  ·exact⟨Nat.le_refl _,h⟩
theorem ac7 {C:Nat→Nat→Int}{xs:List Nat}{m:Nat}:∀ {f i j:Nat},i≤j→i≤EU C xs m f i j∧EU C xs m f i j≤j
 | 0,i,j,h=>⟨Nat.le_refl _,h⟩
 | f+1,i,j,h=>by
  rw[EU]
  split
  ·split
   ·have:=ac7 (C:=C) (xs:=xs) (m:=m) (f:=f) (i:=i) (j:=(i+j) / 2) (by omega);omega
   ·have:=ac7 (C:=C) (xs:=xs) (m:=m) (f:=f) (i:=(i+j) / 2+1) (j:=j) (by omega);omega
  ·exact⟨Nat.le_refl _,h⟩
theorem vR {C:Nat→Nat→Int}{xs:List Nat}{p:Nat}:∀ {f i j:Nat},i≤j→i≤ja C xs p f i j∧ja C xs p f i j≤j
 | 0,i,j,h=>⟨Nat.le_refl _,h⟩
 | f+1,i,j,h=>by
  rw[ja]
  split
  ·split
   ·have:=vR (C:=C) (xs:=xs) (p:=p) (f:=f) (i:=i) (j:=(i+j) / 2) (by omega);omega
   ·have:=vR (C:=C) (xs:=xs) (p:=p) (f:=f) (i:=(i+j) / 2+1) (j:=j) (by omega);omega
  ·exact⟨Nat.le_refl _,h⟩
theorem agh:∀ {n k:Nat}{xs:List Nat},(shU n k xs).length=xs.length
 | 0,_,_=>rfl
 | n+1,k,xs=>by rw[shU,agh,nG]
theorem agq:∀ {n k:Nat}{xs:List Nat},(shD n k xs).length=xs.length
 | 0,_,_=>rfl
 | n+1,k,xs=>by rw[shD,agq,nG]
theorem b7.shU {L:Nat}:∀ {n k:Nat}{xs:List Nat},b7 L xs→k+n<xs.length→b7 L (shU n k xs)
 | 0,_,_,u,_=>u
 | n+1,k,xs,u,h=>by rw[Vm.shU];exact(u.swp (by omega) (by omega)).shU (by rw[nG];omega)
theorem b7.shD {L:Nat}:∀ {n k:Nat}{xs:List Nat},b7 L xs→k<xs.length→b7 L (shD n k xs)
 | 0,_,_,u,_=>u
 | n+1,k,xs,u,h=>by rw[Vm.shD];exact(u.swp (by omega) (by omega)).shD (by rw[nG];omega)
end Go.Vm
namespace Go.Vm
set_option maxHeartbeats 2000000
theorem mP {C:Nat→Nat→Int}:∀ {f:Nat}{xs:List Nat}{a m b:Nat},(symM C f xs a m b).length=xs.length
 | 0,_,_,_,_=>rfl
 | f+1,xs,a,m,b=>by
  rw[symM]
  split
  ·exact agh
  ·split
   ·exact agq
   ·simp only
    repeat' split
    all_goals simp only[mP,yD]
theorem b7.symM {L:Nat}{C:Nat→Nat→Int}:∀ {f:Nat}{xs:List Nat}{a m b:Nat},b7 L xs→a<m→m<b→b≤xs.length→b7 L (symM C f xs a m b)
 | 0,_,_,_,_,u,_,_,_=>u
 | f+1,xs,a,m,b,u,h1,h2,h3=>by
  rw[Go.Vm.symM]
  split
  ·have:=To (C:=C) (xs:=xs) (a:=a) (f:=b-m) (i:=m) (j:=b) (by omega)
   exact u.shU (by omega)
  ·split
   ·exact u.shD (by omega)
   ·simp only
    generalize hs:(if (a+b) / 2<m then ja C xs ((a+b) / 2+m-1) (b-a) ((a+b) / 2+m-b) ((a+b) / 2) else ja C xs ((a+b) / 2+m-1) (b-a) a m)=s
    have s1:s≤m∧s≤(a+b) / 2+m∧a≤s+1∧(a+b) / 2+m-s≤b:=by
     subst hs
     split
     ·have:=vR (C:=C) (xs:=xs) (p:=(a+b) / 2+m-1) (f:=b-a) (i:=(a+b) / 2+m-b) (j:=(a+b) / 2) (by omega)
      omega
     ·have:=vR (C:=C) (xs:=xs) (p:=(a+b) / 2+m-1) (f:=b-a) (i:=a) (j:=m) (by omega)
      omega
    generalize hys:(if s<m∧m<(a+b) / 2+m-s then Go.Vm.rot m ((a+b) / 2+m-s-s) xs (m-s) ((a+b) / 2+m-s-m) else xs)=ys
    have uy:b7 L ys∧ys.length=xs.length:=by
     subst hys
     split
     ·exact⟨u.rot (by omega) (by omega),yD⟩
     ·exact⟨u,rfl⟩
    generalize hzs:(if a<s∧s<(a+b) / 2 then Go.Vm.symM C f ys a s ((a+b) / 2) else ys)=zs
    have uz:b7 L zs∧zs.length=xs.length:=by
     subst hzs
     split
     ·exact⟨uy.1.symM (by omega) (by omega) (by omega),by rw[mP];exact uy.2⟩
     ·exact uy
    split
    ·exact uz.1.symM (by omega) (by omega) (by omega)
    ·exact uz.1
section
variable {hp:List Nat→ac}{D L:Nat}{F:AV}{C:Nat→Nat→Int}
theorem afj (H:Hp hp D) (K:Cm hp L F C) (len:Nat) (hlen:len≤1000000000) (N f:Nat) (ih:∀ (a m b:Nat) (xs:List Nat),b-a≤f→a<m→m<b→b≤len→xs.length=len→b7 L xs→
  (Dn prog).call ay [.sl D 0 len,.d (.int .i64 a),.d (.int .i64 m),.d (.int .i64 b),F] ⟨hp xs,N⟩=some (.tup [],⟨hp (symM C f xs a m b),N⟩))
  (a m b:Nat) (xs:List Nat) (h1:b-a≤f+1) (h2:a<m) (h3:m<b) (h4:b≤len) (hx:xs.length=len) (u:b7 L xs) (c1:¬ m-a=1) (c2:¬ b-m=1) (c3:(a+b) / 2<m) (d1:(ja C xs ((a+b) / 2+m-1) (b-a) ((a+b) / 2+m-b) ((a+b) / 2)<m∧m<(a+b) / 2+m-ja C xs ((a+b) / 2+m-1) (b-a) ((a+b) / 2+m-b) ((a+b) / 2))) :
  (Dn prog).call ay [.sl D 0 len,.d (.int .i64 a),.d (.int .i64 m),.d (.int .i64 b),F] ⟨hp xs,N⟩=some (.tup [],⟨hp (symM C (f+1) xs a m b),N⟩):=by
 rw[aA bU be.eq_1 rfl,symM,if_neg c1,if_neg c2]
 simp only
 have hf:=Qd (i:=a) (j:=b)
 have q1:a<(a+b) / 2∧(a+b) / 2<b∧(a+b) / 2*2≤a+b∧a+b≤(a+b) / 2*2+1:=by omega
 rw[if_pos c3]
 generalize (a+b) / 2=M at *
 have cn:((M+m:Nat):Int)=(M:Int)+m:=rfl
 have cp:((M+m-1:Nat):Int)=(M:Int)+m-1:=by omega
 have s1:=vR (C:=C) (xs:=xs) (p:=M+m-1) (f:=b-a) (i:=M+m-b) (j:=M) (by omega)
 have g4:=u5 H K len hlen a m b M (M+m) (M+m-1) N xs hx u (b-a) (M+m-b) M (by omega) (by omega) (by omega) (by omega) (by omega)
 have ci:((M+m-b:Nat):Int)=(M:Int)+m-b:=by omega
 rw[cn,cp,ci]at g4
 generalize ja C xs (M+m-1) (b-a) (M+m-b) M=s at *
 have ce:((M+m-s:Nat):Int)=(M:Int)+m-s:=by omega
 rw[if_pos d1]
 have hr:=ajC H F K.sh K.fi len hlen s m (M+m-s) N d1.1 d1.2 (by omega) xs hx
 have uy:b7 L (rot m (M+m-s-s) xs (m-s) (M+m-s-m)):=u.rot (by omega) (by omega)
 have ly:(rot m (M+m-s-s) xs (m-s) (M+m-s-m)).length=len:=by rw[yD];exact hx
 generalize rot m (M+m-s-s) xs (m-s) (M+m-s-m)=ys at *
 rw[ce]at hr
 by_cases d2:a<s∧s<M
 ·rw[if_pos d2]
  have h6:=ih a s M ys (by omega) d2.1 d2.2 (by omega) ly uy
  have uz:b7 L (symM C f ys a s M):=uy.symM d2.1 d2.2 (by omega)
  have lz:(symM C f ys a s M).length=len:=by rw[mP];exact ly
  generalize symM C f ys a s M=zs at *
  by_cases d3:M<M+m-s∧M+m-s<b
  ·rw[if_pos d3]
   have h7:=ih M (M+m-s) b zs (by omega) d3.1 d3.2 h4 lz uz
   rw[ce]at h7
   first
    | (exfalso;omega)
    | simp (maxSteps:=300000) (disch:=omega) [↓if_pos,↓if_neg,K.sh,K.fi,hf,g4,hr,h6,h7]
  ·rw[if_neg d3]
   have h7:True:=trivial
   first
    | (exfalso;omega)
    | simp (maxSteps:=300000) (disch:=omega) [↓if_pos,↓if_neg,K.sh,K.fi,hf,g4,hr,h6,h7]
 ·rw[if_neg d2]
  have uz:=uy
  have lz:=ly
  have h6:True:=trivial
  by_cases d3:M<M+m-s∧M+m-s<b
  ·rw[if_pos d3]
   have h7:=ih M (M+m-s) b ys (by omega) d3.1 d3.2 h4 lz uz
   rw[ce]at h7
   first
    | (exfalso;omega)
    | simp (maxSteps:=300000) (disch:=omega) [↓if_pos,↓if_neg,K.sh,K.fi,hf,g4,hr,h6,h7]
  ·rw[if_neg d3]
   have h7:True:=trivial
   first
    | (exfalso;omega)
    | simp (maxSteps:=300000) (disch:=omega) [↓if_pos,↓if_neg,K.sh,K.fi,hf,g4,hr,h6,h7]
theorem afL (H:Hp hp D) (K:Cm hp L F C) (len:Nat) (hlen:len≤1000000000) (N f:Nat) (ih:∀ (a m b:Nat) (xs:List Nat),b-a≤f→a<m→m<b→b≤len→xs.length=len→b7 L xs→
  (Dn prog).call ay [.sl D 0 len,.d (.int .i64 a),.d (.int .i64 m),.d (.int .i64 b),F] ⟨hp xs,N⟩=some (.tup [],⟨hp (symM C f xs a m b),N⟩))
  (a m b:Nat) (xs:List Nat) (h1:b-a≤f+1) (h2:a<m) (h3:m<b) (h4:b≤len) (hx:xs.length=len) (u:b7 L xs) (c1:¬ m-a=1) (c2:¬ b-m=1) (c3:(a+b) / 2<m) (d1:¬ (ja C xs ((a+b) / 2+m-1) (b-a) ((a+b) / 2+m-b) ((a+b) / 2)<m∧m<(a+b) / 2+m-ja C xs ((a+b) / 2+m-1) (b-a) ((a+b) / 2+m-b) ((a+b) / 2))) :
  (Dn prog).call ay [.sl D 0 len,.d (.int .i64 a),.d (.int .i64 m),.d (.int .i64 b),F] ⟨hp xs,N⟩=some (.tup [],⟨hp (symM C (f+1) xs a m b),N⟩):=by
 rw[aA bU be.eq_1 rfl,symM,if_neg c1,if_neg c2]
 simp only
 have hf:=Qd (i:=a) (j:=b)
 have q1:a<(a+b) / 2∧(a+b) / 2<b∧(a+b) / 2*2≤a+b∧a+b≤(a+b) / 2*2+1:=by omega
 rw[if_pos c3]
 generalize (a+b) / 2=M at *
 have cn:((M+m:Nat):Int)=(M:Int)+m:=rfl
 have cp:((M+m-1:Nat):Int)=(M:Int)+m-1:=by omega
 have s1:=vR (C:=C) (xs:=xs) (p:=M+m-1) (f:=b-a) (i:=M+m-b) (j:=M) (by omega)
 have g4:=u5 H K len hlen a m b M (M+m) (M+m-1) N xs hx u (b-a) (M+m-b) M (by omega) (by omega) (by omega) (by omega) (by omega)
 have ci:((M+m-b:Nat):Int)=(M:Int)+m-b:=by omega
 rw[cn,cp,ci]at g4
 generalize ja C xs (M+m-1) (b-a) (M+m-b) M=s at *
 have ce:((M+m-s:Nat):Int)=(M:Int)+m-s:=by omega
 rw[if_neg d1]
 have uy:=u
 have ly:=hx
 have hr:True:=trivial
 by_cases d2:a<s∧s<M
 ·rw[if_pos d2]
  have h6:=ih a s M xs (by omega) d2.1 d2.2 (by omega) ly uy
  have uz:b7 L (symM C f xs a s M):=uy.symM d2.1 d2.2 (by omega)
  have lz:(symM C f xs a s M).length=len:=by rw[mP];exact ly
  generalize symM C f xs a s M=zs at *
  by_cases d3:M<M+m-s∧M+m-s<b
  ·rw[if_pos d3]
   have h7:=ih M (M+m-s) b zs (by omega) d3.1 d3.2 h4 lz uz
   rw[ce]at h7
   first
    | (exfalso;omega)
    | simp (maxSteps:=300000) (disch:=omega) [↓if_pos,↓if_neg,K.sh,K.fi,hf,g4,hr,h6,h7]
  ·rw[if_neg d3]
   have h7:True:=trivial
   first
    | (exfalso;omega)
    | simp (maxSteps:=300000) (disch:=omega) [↓if_pos,↓if_neg,K.sh,K.fi,hf,g4,hr,h6,h7]
 ·rw[if_neg d2]
  have uz:=uy
  have lz:=ly
  have h6:True:=trivial
  by_cases d3:M<M+m-s∧M+m-s<b
  ·rw[if_pos d3]
   have h7:=ih M (M+m-s) b xs (by omega) d3.1 d3.2 h4 lz uz
   rw[ce]at h7
   first
    | (exfalso;omega)
    | simp (maxSteps:=300000) (disch:=omega) [↓if_pos,↓if_neg,K.sh,K.fi,hf,g4,hr,h6,h7]
  ·rw[if_neg d3]
   have h7:True:=trivial
   first
    | (exfalso;omega)
    | simp (maxSteps:=300000) (disch:=omega) [↓if_pos,↓if_neg,K.sh,K.fi,hf,g4,hr,h6,h7]
theorem agb (H:Hp hp D) (K:Cm hp L F C) (len:Nat) (hlen:len≤1000000000) (N f:Nat) (ih:∀ (a m b:Nat) (xs:List Nat),b-a≤f→a<m→m<b→b≤len→xs.length=len→b7 L xs→
  (Dn prog).call ay [.sl D 0 len,.d (.int .i64 a),.d (.int .i64 m),.d (.int .i64 b),F] ⟨hp xs,N⟩=some (.tup [],⟨hp (symM C f xs a m b),N⟩))
  (a m b:Nat) (xs:List Nat) (h1:b-a≤f+1) (h2:a<m) (h3:m<b) (h4:b≤len) (hx:xs.length=len) (u:b7 L xs) (c1:¬ m-a=1) (c2:¬ b-m=1) (c3:¬ (a+b) / 2<m) (d1:(ja C xs ((a+b) / 2+m-1) (b-a) a m<m∧m<(a+b) / 2+m-ja C xs ((a+b) / 2+m-1) (b-a) a m)) :
  (Dn prog).call ay [.sl D 0 len,.d (.int .i64 a),.d (.int .i64 m),.d (.int .i64 b),F] ⟨hp xs,N⟩=some (.tup [],⟨hp (symM C (f+1) xs a m b),N⟩):=by
 rw[aA bU be.eq_1 rfl,symM,if_neg c1,if_neg c2]
 simp only
 have hf:=Qd (i:=a) (j:=b)
 have q1:a<(a+b) / 2∧(a+b) / 2<b∧(a+b) / 2*2≤a+b∧a+b≤(a+b) / 2*2+1:=by omega
 rw[if_neg c3]
 generalize (a+b) / 2=M at *
 have cn:((M+m:Nat):Int)=(M:Int)+m:=rfl
 have cp:((M+m-1:Nat):Int)=(M:Int)+m-1:=by omega
 have s1:=vR (C:=C) (xs:=xs) (p:=M+m-1) (f:=b-a) (i:=a) (j:=m) (by omega)
 have g4:=u5 H K len hlen a m b M (M+m) (M+m-1) N xs hx u (b-a) a m (by omega) (by omega) (by omega) (by omega) (by omega)
 rw[cn,cp]at g4
 generalize ja C xs (M+m-1) (b-a) a m=s at *
 have ce:((M+m-s:Nat):Int)=(M:Int)+m-s:=by omega
 rw[if_pos d1]
 have hr:=ajC H F K.sh K.fi len hlen s m (M+m-s) N d1.1 d1.2 (by omega) xs hx
 have uy:b7 L (rot m (M+m-s-s) xs (m-s) (M+m-s-m)):=u.rot (by omega) (by omega)
 have ly:(rot m (M+m-s-s) xs (m-s) (M+m-s-m)).length=len:=by rw[yD];exact hx
 generalize rot m (M+m-s-s) xs (m-s) (M+m-s-m)=ys at *
 rw[ce]at hr
 by_cases d2:a<s∧s<M
 ·rw[if_pos d2]
  have h6:=ih a s M ys (by omega) d2.1 d2.2 (by omega) ly uy
  have uz:b7 L (symM C f ys a s M):=uy.symM d2.1 d2.2 (by omega)
  have lz:(symM C f ys a s M).length=len:=by rw[mP];exact ly
  generalize symM C f ys a s M=zs at *
  by_cases d3:M<M+m-s∧M+m-s<b
  ·rw[if_pos d3]
   have h7:=ih M (M+m-s) b zs (by omega) d3.1 d3.2 h4 lz uz
   rw[ce]at h7
   first
    | (exfalso;omega)
    | simp (maxSteps:=300000) (disch:=omega) [↓if_pos,↓if_neg,K.sh,K.fi,hf,g4,hr,h6,h7]
  ·rw[if_neg d3]
   have h7:True:=trivial
   first
    | (exfalso;omega)
    | simp (maxSteps:=300000) (disch:=omega) [↓if_pos,↓if_neg,K.sh,K.fi,hf,g4,hr,h6,h7]
 ·rw[if_neg d2]
  have uz:=uy
  have lz:=ly
  have h6:True:=trivial
  by_cases d3:M<M+m-s∧M+m-s<b
  ·rw[if_pos d3]
   have h7:=ih M (M+m-s) b ys (by omega) d3.1 d3.2 h4 lz uz
   rw[ce]at h7
   first
    | (exfalso;omega)
    | simp (maxSteps:=300000) (disch:=omega) [↓if_pos,↓if_neg,K.sh,K.fi,hf,g4,hr,h6,h7]
  ·rw[if_neg d3]
   have h7:True:=trivial
   first
    | (exfalso;omega)
    | simp (maxSteps:=300000) (disch:=omega) [↓if_pos,↓if_neg,K.sh,K.fi,hf,g4,hr,h6,h7]
theorem afR (H:Hp hp D) (K:Cm hp L F C) (len:Nat) (hlen:len≤1000000000) (N f:Nat) (ih:∀ (a m b:Nat) (xs:List Nat),b-a≤f→a<m→m<b→b≤len→xs.length=len→b7 L xs→
  (Dn prog).call ay [.sl D 0 len,.d (.int .i64 a),.d (.int .i64 m),.d (.int .i64 b),F] ⟨hp xs,N⟩=some (.tup [],⟨hp (symM C f xs a m b),N⟩))
  (a m b:Nat) (xs:List Nat) (h1:b-a≤f+1) (h2:a<m) (h3:m<b) (h4:b≤len) (hx:xs.length=len) (u:b7 L xs) (c1:¬ m-a=1) (c2:¬ b-m=1) (c3:¬ (a+b) / 2<m) (d1:¬ (ja C xs ((a+b) / 2+m-1) (b-a) a m<m∧m<(a+b) / 2+m-ja C xs ((a+b) / 2+m-1) (b-a) a m)) :
  (Dn prog).call ay [.sl D 0 len,.d (.int .i64 a),.d (.int .i64 m),.d (.int .i64 b),F] ⟨hp xs,N⟩=some (.tup [],⟨hp (symM C (f+1) xs a m b),N⟩):=by
 rw[aA bU be.eq_1 rfl,symM,if_neg c1,if_neg c2]
 simp only
 have hf:=Qd (i:=a) (j:=b)
 have q1:a<(a+b) / 2∧(a+b) / 2<b∧(a+b) / 2*2≤a+b∧a+b≤(a+b) / 2*2+1:=by omega
 rw[if_neg c3]
 generalize (a+b) / 2=M at *
 have cn:((M+m:Nat):Int)=(M:Int)+m:=rfl
 have cp:((M+m-1:Nat):Int)=(M:Int)+m-1:=by omega
 have s1:=vR (C:=C) (xs:=xs) (p:=M+m-1) (f:=b-a) (i:=a) (j:=m) (by omega)
 have g4:=u5 H K len hlen a m b M (M+m) (M+m-1) N xs hx u (b-a) a m (by omega) (by omega) (by omega) (by omega) (by omega)
 rw[cn,cp]at g4
 generalize ja C xs (M+m-1) (b-a) a m=s at *
 have ce:((M+m-s:Nat):Int)=(M:Int)+m-s:=by omega
 rw[if_neg d1]
 have uy:=u
 have ly:=hx
 have hr:True:=trivial
 by_cases d2:a<s∧s<M
 ·rw[if_pos d2]
  have h6:=ih a s M xs (by omega) d2.1 d2.2 (by omega) ly uy
  have uz:b7 L (symM C f xs a s M):=uy.symM d2.1 d2.2 (by omega)
  have lz:(symM C f xs a s M).length=len:=by rw[mP];exact ly
  generalize symM C f xs a s M=zs at *
  by_cases d3:M<M+m-s∧M+m-s<b
  ·rw[if_pos d3]
   have h7:=ih M (M+m-s) b zs (by omega) d3.1 d3.2 h4 lz uz
   rw[ce]at h7
   first
    | (exfalso;omega)
    | simp (maxSteps:=300000) (disch:=omega) [↓if_pos,↓if_neg,K.sh,K.fi,hf,g4,hr,h6,h7]
  ·rw[if_neg d3]
   have h7:True:=trivial
   first
    | (exfalso;omega)
    | simp (maxSteps:=300000) (disch:=omega) [↓if_pos,↓if_neg,K.sh,K.fi,hf,g4,hr,h6,h7]
 ·rw[if_neg d2]
  have uz:=uy
  have lz:=ly
  have h6:True:=trivial
  by_cases d3:M<M+m-s∧M+m-s<b
  ·rw[if_pos d3]
   have h7:=ih M (M+m-s) b xs (by omega) d3.1 d3.2 h4 lz uz
   rw[ce]at h7
   first
    | (exfalso;omega)
    | simp (maxSteps:=300000) (disch:=omega) [↓if_pos,↓if_neg,K.sh,K.fi,hf,g4,hr,h6,h7]
  ·rw[if_neg d3]
   have h7:True:=trivial
   first
    | (exfalso;omega)
    | simp (maxSteps:=300000) (disch:=omega) [↓if_pos,↓if_neg,K.sh,K.fi,hf,g4,hr,h6,h7]
theorem ac4 (H:Hp hp D) (K:Cm hp L F C) (len:Nat) (hlen:len≤1000000000) (N:Nat):∀ (f a m b:Nat) (xs:List Nat),b-a≤f→a<m→m<b→b≤len→xs.length=len→b7 L xs→
  (Dn prog).call ay [.sl D 0 len,.d (.int .i64 a),.d (.int .i64 m),.d (.int .i64 b),F] ⟨hp xs,N⟩=some (.tup [],⟨hp (symM C f xs a m b),N⟩):=by
 intro f
 induction f with
 | zero=>intro a m b xs h1 h2 h3;omega
 | succ f ih =>
  intro a m b xs h1 h2 h3 h4 hx u
  by_cases c1:m-a=1
  ·rw[aA bU be.eq_1 rfl,symM,if_pos c1]
   have hb:=To (C:=C) (xs:=xs) (a:=a) (f:=b-m) (i:=m) (j:=b) (by omega)
   have g0:=afo H K len hlen a N (by omega) xs hx u (b-m) m b (by omega) (by omega) h4
   generalize E7 C xs a (b-m) m b=I at *
   have g1:=afJ H len hlen I N (by omega) (I-1-a) a xs (by omega) hx
   simp (maxSteps:=300000) (disch:=omega) [↓if_pos,↓if_neg,K.sh,K.fi,g0,g1]
  ·by_cases c2:b-m=1
   ·rw[aA bU be.eq_1 rfl,symM,if_neg c1,if_pos c2]
    have hb:=ac7 (C:=C) (xs:=xs) (m:=m) (f:=m-a) (i:=a) (j:=m) (by omega)
    have g0:=af3 H K len hlen m N (by omega) xs hx u (m-a) a m (by omega) (by omega) (by omega)
    generalize EU C xs m (m-a) a m=I at *
    have g1:=afV H len hlen I N (m-I) m xs (by omega) (by omega) hx
    simp (maxSteps:=300000) (disch:=omega) [↓if_pos,↓if_neg,K.sh,K.fi,g0,g1]
   ·by_cases c3:(a+b) / 2<m
    ·by_cases d1:(ja C xs ((a+b) / 2+m-1) (b-a) ((a+b) / 2+m-b) ((a+b) / 2)<m∧m<(a+b) / 2+m-ja C xs ((a+b) / 2+m-1) (b-a) ((a+b) / 2+m-b) ((a+b) / 2))
     ·exact afj H K len hlen N f ih a m b xs h1 h2 h3 h4 hx u c1 c2 c3 d1
     ·exact afL H K len hlen N f ih a m b xs h1 h2 h3 h4 hx u c1 c2 c3 d1
    ·by_cases d1:(ja C xs ((a+b) / 2+m-1) (b-a) a m<m∧m<(a+b) / 2+m-ja C xs ((a+b) / 2+m-1) (b-a) a m)
     ·exact agb H K len hlen N f ih a m b xs h1 h2 h3 h4 hx u c1 c2 c3 d1
     ·exact afR H K len hlen N f ih a m b xs h1 h2 h3 h4 hx u c1 c2 c3 d1
end
end Go.Vm
namespace Go.Vm
set_option maxHeartbeats 2000000
def Ct (C:Nat→Nat→Int) (n:Nat):Nat→List Nat→Nat→List Nat×Nat
 | 0,xs,a=>(xs,a)
 | f+1,xs,a=>if a+20≤n then Ct C n f (insO C a 19 (a+1) xs) (a+20) else (xs,a)
def Ha (C:Nat→Nat→Int) (n bs:Nat):Nat→List Nat→Nat→List Nat×Nat
 | 0,xs,a=>(xs,a)
 | f+1,xs,a=>if a+2*bs≤n then Ha C n bs f (symM C (2*bs) xs a (a+bs) (a+2*bs)) (a+2*bs) else (xs,a)
def stE (C:Nat→Nat→Int) (n bs:Nat) (p:List Nat×Nat):List Nat:=if p.2+bs<n then symM C (n-p.2) p.1 p.2 (p.2+bs) n else p.1
def SA (C:Nat→Nat→Int) (n:Nat):Nat→List Nat→Nat→List Nat
 | 0,xs,_=>xs
 | f+1,xs,bs=>if bs<n then SA C n f (stE C n bs (Ha C n bs n xs 0)) (2*bs) else xs
def stS (C:Nat→Nat→Int) (n:Nat) (p:List Nat×Nat):List Nat:=insO C p.2 (n-(p.2+1)) (p.2+1) p.1
def j8 (C:Nat→Nat→Int) (n:Nat) (xs:List Nat):List Nat:=SA C n n (stS C n (Ct C n n xs 0)) 20
section
variable {hp:List Nat→ac}{D L:Nat}{F:AV}{C:Nat→Nat→Int}
theorem ajk (H:Hp hp D) (K:Cm hp L F C) (n:Nat) (hlen:n≤1000000000) (N:Nat):∀ (f a:Nat) (xs:List Nat),n<a+f*20+20→a≤n→xs.length=n→b7 L xs→
  (Dn prog).code (.loop dx) ⟨[(0,.sl D 0 n),(1,.d (.int .i64 n)),(2,F),(6,.d (.int .i64 20)),(7,.d (.int .i64 a)),(8,.d (.int .i64 ((a:Int)+20)))],⟨hp xs,N⟩⟩ =
  some (.exit 0,⟨[(0,.sl D 0 n),(1,.d (.int .i64 n)),(2,F),(6,.d (.int .i64 20)),(7,.d (.int .i64 (Ct C n f xs a).2))],⟨hp (Ct C n f xs a).1,N⟩⟩)∧
  (Ct C n f xs a).1.length=n∧b7 L (Ct C n f xs a).1∧a≤(Ct C n f xs a).2∧(Ct C n f xs a).2≤n∧∃ q,(Ct C n f xs a).2=a+20*q:=by
 intro f
 induction f with
 | zero =>
  intro a xs h1 h2 hx u
  refine⟨?_,hx,u,Nat.le_refl _,h2,0,rfl⟩
  rw[aa dx.eq_1]
  simp (maxSteps:=300000) (disch:=omega) [↓if_pos,↓if_neg,Ct,K.sh,K.fi]
 | succ f ih =>
  intro a xs h1 h2 hx u
  rw[aa dx.eq_1,Ct]
  by_cases h:a+20≤n
  ·rw[if_pos h]
   have h0:=Hl H K n hlen a (a+20) N (by omega) h xs hx u
   rw[show a+20-(a+1)=19 by omega]at h0
   obtain⟨g1,g2,g3,g4,g5,q,g6⟩:=ih (a+20) (insO C a 19 (a+1) xs) (by omega) h (by rw[NX];exact hx) (u.insO (by omega))
   refine⟨?_,g2,g3,by omega,g5,q+1,by omega⟩
   have c1:((a+20:Nat):Int)=(a:Int)+20:=rfl
   rw[c1]at h0 g1
   rw[←g1]
   simp (maxSteps:=300000) (disch:=omega) [↓if_pos,↓if_neg,K.sh,K.fi,h0]
  ·rw[if_neg h]
   refine⟨?_,hx,u,Nat.le_refl _,h2,0,rfl⟩
   simp (maxSteps:=300000) (disch:=omega) [↓if_pos,↓if_neg,K.sh,K.fi]
theorem ajb (H:Hp hp D) (K:Cm hp L F C) (n:Nat) (hlen:n≤1000000000) (bs N:Nat) (hbs:1≤bs) (hb2:bs≤1000000000):∀ (f a:Nat) (xs:List Nat),n<a+f+1→a≤n→xs.length=n→b7 L xs→
  (Dn prog).code (.loop dy) ⟨[(0,.sl D 0 n),(1,.d (.int .i64 n)),(2,F),(6,.d (.int .i64 bs)),(7,.d (.int .i64 a)),(8,.d (.int .i64 ((a:Int)+2*(bs:Int))))],⟨hp xs,N⟩⟩ =
  some (.exit 4,⟨[(0,.sl D 0 n),(1,.d (.int .i64 n)),(2,F),(6,.d (.int .i64 bs)),(7,.d (.int .i64 (Ha C n bs f xs a).2))],⟨hp (Ha C n bs f xs a).1,N⟩⟩)∧
  (Ha C n bs f xs a).1.length=n∧b7 L (Ha C n bs f xs a).1∧(Ha C n bs f xs a).2≤n:=by
 intro f
 induction f with
 | zero =>
  intro a xs h1 h2 hx u
  refine⟨?_,hx,u,h2⟩
  rw[aa dy.eq_1]
  simp (maxSteps:=300000) (disch:=omega) [↓if_pos,↓if_neg,Ha,K.sh,K.fi]
 | succ f ih =>
  intro a xs h1 h2 hx u
  rw[aa dy.eq_1,Ha]
  by_cases h:a+2*bs≤n
  ·rw[if_pos h]
   have h0:=ac4 H K n hlen N (2*bs) a (a+bs) (a+2*bs) xs (by omega) (by omega) (by omega) h hx u
   obtain⟨g1,g2,g3,g4⟩:=ih (a+2*bs) (symM C (2*bs) xs a (a+bs) (a+2*bs)) (by omega) h (by rw[mP];exact hx) (u.symM (by omega) (by omega) (by omega))
   refine⟨?_,g2,g3,g4⟩
   have c1:((a+bs:Nat):Int)=(a:Int)+bs:=rfl
   have c2:((a+2*bs:Nat):Int)=(a:Int)+2*bs:=by omega
   rw[c1,c2]at h0
   rw[c2]at g1
   rw[←g1]
   simp (maxSteps:=300000) (disch:=omega) [↓if_pos,↓if_neg,K.sh,K.fi,h0]
  ·rw[if_neg h]
   refine⟨?_,hx,u,h2⟩
   simp (maxSteps:=300000) (disch:=omega) [↓if_pos,↓if_neg,K.sh,K.fi]
theorem aj3 (H:Hp hp D) (K:Cm hp L F C) (n:Nat) (hlen:n≤1000000000) (N:Nat):∀ (f bs:Nat) (xs:List Nat),n<bs+f+1→1≤bs→bs≤2000000000→xs.length=n→b7 L xs→
  (Dn prog).code (.loop dt) ⟨[(0,.sl D 0 n),(1,.d (.int .i64 n)),(2,F),(6,.d (.int .i64 bs))],⟨hp xs,N⟩⟩ =
  some (.exit 2,⟨[],⟨hp (SA C n f xs bs),N⟩⟩)∧(SA C n f xs bs).length=n∧b7 L (SA C n f xs bs):=by
 intro f
 induction f with
 | zero =>
  intro bs xs h1 h2 h3 hx u
  refine⟨?_,hx,u⟩
  rw[aa dt.eq_1]
  simp (maxSteps:=300000) (disch:=omega) [↓if_pos,↓if_neg,SA,K.sh,K.fi]
 | succ f ih =>
  intro bs xs h1 h2 h3 hx u
  rw[aa dt.eq_1,SA]
  by_cases h:bs<n
  ·rw[if_pos h]
   obtain⟨g1,g2,g3,g4⟩:=ajb H K n hlen bs N h2 (by omega) n 0 xs (by omega) (by omega) hx u
   generalize Ha C n bs n xs 0=p at *
   obtain⟨ys,a⟩:=p
   simp only at g1 g2 g3 g4
   have c0:((0:Nat):Int)=0:=rfl
   have cz:(0:Int)+2*(bs:Int)=2*(bs:Int):=by omega
   have c2:((2*bs:Nat):Int)=2*(bs:Int):=by omega
   rw[c0,cz]at g1
   unfold stE
   simp only
   by_cases h5:a+bs<n
   ·rw[if_pos h5]
    have h0:=ac4 H K n hlen N (n-a) a (a+bs) n ys (by omega) (by omega) h5 (Nat.le_refl _) g2 g3
    have c1:((a+bs:Nat):Int)=(a:Int)+bs:=rfl
    obtain⟨k1,k2,k3⟩:=ih (2*bs) (symM C (n-a) ys a (a+bs) n) (by omega) (by omega) (by omega) (by rw[mP];exact g2) (g3.symM (by omega) h5 (by omega))
    refine⟨?_,k2,k3⟩
    rw[c1]at h0
    rw[c2]at k1
    have cc:(bs:Int)*2=2*(bs:Int):=by omega
    rw[←k1]
    simp (maxSteps:=300000) (disch:=omega) [↓if_pos,↓if_neg,K.sh,K.fi,g1,h0,cc]
   ·rw[if_neg h5]
    obtain⟨k1,k2,k3⟩:=ih (2*bs) ys (by omega) (by omega) (by omega) g2 g3
    refine⟨?_,k2,k3⟩
    rw[c2]at k1
    have cc:(bs:Int)*2=2*(bs:Int):=by omega
    rw[←k1]
    simp (maxSteps:=300000) (disch:=omega) [↓if_pos,↓if_neg,K.sh,K.fi,g1,cc]
  ·rw[if_neg h]
   refine⟨?_,hx,u⟩
   simp (maxSteps:=300000) (disch:=omega) [↓if_pos,↓if_neg,K.sh,K.fi]
theorem akz (H:Hp hp D) (K:Cm hp L F C) (n:Nat) (hlen:n≤1000000000) (hn:n % 20≠0) (N:Nat) (xs:List Nat) (hx:xs.length=n) (u:b7 L xs) :
  (Dn prog).call gY [.sl D 0 n,.d (.int .i64 n),F] ⟨hp xs,N⟩=some (.tup [],⟨hp (j8 C n xs),N⟩):=by
 rw[aA xa ic.eq_1 rfl,j8]
 obtain⟨g1,g2,g3,_,g5,q,g6⟩:=ajk H K n hlen N n 0 xs (by omega) (by omega) hx u
 generalize Ct C n n xs 0=p at *
 obtain⟨ys,a⟩:=p
 simp only at g1 g2 g3 g5 g6
 have h0:=Hl H K n hlen a n N (by omega) (Nat.le_refl _) ys g2 g3
 unfold stS
 simp only
 obtain⟨k1,k2,k3⟩:=aj3 H K n hlen N n 20 (insO C a (n-(a+1)) (a+1) ys) (by omega) (by omega) (by omega) (by rw[NX];exact g2) (g3.insO (by omega))
 have c0:((0:Nat):Int)=0:=rfl
 have cz:(0:Int)+20=20:=rfl
 have c2:((20:Nat):Int)=20:=rfl
 rw[c0,cz]at g1
 rw[c2]at k1
 simp (maxSteps:=300000) (disch:=omega) [↓if_pos,↓if_neg,K.sh,K.fi,g1,h0,k1]
end
end Go.Vm
namespace Go.Vm
set_option maxHeartbeats 2000000
set_option maxRecDepth 100000
def dR (id:Nat):Nat:=if id<5 then 4 else if id=12 then 1 else 2
def bO (id:Nat):Int:=[0,-1,-1,0,0,-4,-4,0,0,0,0,0,-60].getD id 0
def bb (id:Nat):Nat:=[1,3,3,3,3,9,9,8,8,13,13,17,121].getD id 1
def bC (id:Nat):Nat:=[0,0,1,0,1,0,1,1,2,1,2,2,0].getD id 0
def amW (low:Int) (w:Nat):Nat→Nat→List Int
 | 0,_=>[]
 | d+1,e=>amW low w d (e / w)++[((e % w:Nat):Int)+low]
def amY (id e:Nat):List Int:=amW (bO id) (bb id) (dR id) e
def Ft:List Int→Nat
 | []=>0
 | x::r=>x.natAbs+Ft r
def oN (id e:Nat):Nat:=Ft (amY id e)
def az (id:Nat):Nat:=bb id ^ dR id
def aiF (s:Nat):List (Nat×Nat)→List Nat
 | []=>[]
 | (e,z)::r=>match Nat.beq z s with
  | true=>e::aiF s r
  | false=>aiF s r
def asA (id:Nat):List (Nat×Nat):=(List.range (az id)).map fun e=>(e,oN id e)
def bi (id:Nat):List Nat:=let l:=asA id;(List.range 61).flatMap fun s=>aiF s l
def aqE (e:Nat):Nat→List Nat→Nat
 | i,[]=>i
 | i,x::r=>match Nat.beq x e with
  | true=>i
  | false=>aqE e (i+1) r
def cu (id:Nat):List Nat:=let l:=bi id;(List.range (az id)).map fun e=>aqE e 0 l
abbrev kB (id:Nat):Prop:=1≤id∧id≤12
abbrev u6 (id:Nat):AV:=.agg [.d (.int .i64 id),.d (.int .i64 (bC id)),.d (.lst (bl (bi id))),.d (.lst (bl (cu id)))]
abbrev Sz (id:Nat):AV:=.agg [.d (.int .i64 id),.d (.int .i64 (bC id)),.own true 1 (bl (bi id)),.own true 1 (bl (cu id))]
def ids:List Nat:=[1,2,3,4,5,6,7,8,9,10,11,12]
theorem jE {id:Nat}(h:kB id):id∈ids:=by
 obtain⟨h1,h2⟩:=h
 simp only[ids,List.mem_cons,List.not_mem_nil,or_false]
 omega
abbrev kdV (id:Nat):AV:=.agg [.d (.int .i64 (dR id)),.d (.int .i64 (bO id)),.d (.int .i64 (bO id+bb id-1)),.d (.int .i64 (bC id))]
theorem Qw:∀ x∈ids,aL prog Cq [.d (.int .i64 x)]=some (.tup [kdV x,.d (.int .i64 0)]):=zT 100 ids (by kernel_rfl)
theorem FO:∀ x∈ids,aL prog fY [kdV x]=some (.d (.int .i64 (az x))):=zT 100 ids (by kernel_rfl)
theorem ags {z:List D}{n:Nat}(h:n≤1000000000):zV z (.d (.int .i64 n)) (.d (.int .i64 n))=some (.own true z.length (List.replicate n z)):=by
 have h0:¬ ((n:Int)<0):=by omega
 have h1:Nat.ble n aF=true:=Nat.ble_eq_true_of_le (Nat.le_trans h (by decide))
 have h2:Nat.ble n n=true:=by rw[VV];simp
 simp only[zV,bz,h1,h2]
end Go.Vm
namespace Go.Vm
set_option maxHeartbeats 2000000
set_option maxRecDepth 100000
theorem Kd (x:Nat):aL prog j3 [.d (.int .u8 x)]=some (.d (.bool false)):=by
 rw[am MX n9.eq_1 rfl]
 simp (maxSteps:=300000) (disch:=omega) [↓if_pos,↓if_neg]
theorem afx (x y:Nat):aL prog lQ [.d (.int .u8 x),.d (.int .u8 y)]=some (.d (.int .i64 (if x<y then -1 else if y<x then 1 else 0))):=by
 rw[am Hx lT.eq_1 rfl]
 by_cases h1:x<y
 ·rw[if_pos h1]
  simp (maxSteps:=300000) (disch:=omega) [↓if_pos,↓if_neg,Kd]
 ·rw[if_neg h1]
  by_cases h2:y<x
  ·rw[if_pos h2]
   simp (maxSteps:=300000) (disch:=omega) [↓if_pos,↓if_neg,Kd]
  ·rw[if_neg h2]
   simp (maxSteps:=300000) (disch:=omega) [↓if_pos,↓if_neg,Kd]
@[simp] theorem auh {len n S o:Nat}{k:IntKind}{z:Int}(h0:0≤z) (h:z<len):KK len n (.ptr S o) (.d (.int k z))=some (.ptr S (o+z.toNat*n)):=by
 obtain⟨i,rfl⟩:=Int.eq_ofNat_of_zero_le h0
 have hl:Nat.ble len i=false:=by rw[←Bool.not_eq_true,Nat.ble_eq];omega
 show (match Nat.ble len i with | true=>none | false=>eh (i*n) (.ptr S o))=_
 rw[hl]
 rfl
def eJ (id:Nat):List Nat:=(List.range (az id)).map fun e=>oN id e
def cC (l:List Nat) (x y:Nat):Int:=if nth l x<nth l y then -1 else if nth l y<nth l x then 1 else 0
def ki (id:Nat):List AV:=(List.range 289).map fun e=>.d (.int .u8 (if e<az id then oN id e else 0:Nat))
theorem WZ {id:Nat}:(ki id).length=289:=by simp[ki]
theorem YW {id x:Nat}(h:x<az id) (h2:az id≤289):(ki id)[x]?=some (.d (.int .u8 (nth (eJ id) x:Nat))):=by
 have e:nth (eJ id) x=oN id x:=by
  have:=qD (l:=eJ id) (i:=x) (by simp[eJ];exact h)
  rw[eJ,List.getElem?_map,List.getElem?_range h]at this
  simpa [eJ] using this.symm
 rw[e,ki,List.getElem?_map,List.getElem?_range (by omega)]
 simp[h]
theorem atZ {hp:List Nat→ac}{S id:Nat}(hS:∀ xs,get (hp xs) S=some (.cells (ki id))) (h2:az id≤289):Cm hp (az id) (.fn sq [] [.ptr S 0]) (cC (eJ id)) where
 sh:=rfl
 fi:=rfl
 cl xs N x y hx hy:=by
  have e1:=YW hx h2
  have e2:=YW hy h2
  show (Dn prog).call sq ([]++([.d (.int .i64 (x:Nat)),.d (.int .i64 (y:Nat))]++[.ptr S 0])) ⟨hp xs,N⟩=_
  simp only[List.nil_append,List.cons_append]
  rw[aA ac2 Bg.eq_1 rfl]
  generalize ki id=Z at *
  simp (maxSteps:=300000) (disch:=omega) [↓if_pos,↓if_neg,hS,e1,e2,afx,cC]
end Go.Vm
namespace Go.Vm
set_option maxHeartbeats 2000000
set_option maxRecDepth 100000
noncomputable section
theorem aqA {k i:Nat}(h:k=i):Nat.beq k i=true:=by rw[Nat.beq_eq];exact h
theorem asw {k i:Nat}(h:¬ k=i):Nat.beq k i=false:=by rw[←Bool.not_eq_true,Nat.beq_eq];exact h
def gW (l:List Nat):Nat→Nat:=List.rec (motive:=fun _=>Nat→Nat) (fun _=>0) (fun x _ ih i=>Nat.casesOn (motive:=fun _=>Nat) i x (fun k=>ih k)) l
theorem ql:∀ (l:List Nat) (i:Nat),gW l i=nth l i
 | [],i=>by simp[nth];rfl
 | x::l,0=>rfl
 | x::l,i+1=>ql l i
def aiz (l:List Nat):Nat→Nat→List Nat:=List.rec (motive:=fun _=>Nat→Nat→List Nat) (fun _ _=>[]) (fun x r ih i v=>Nat.casesOn (motive:=fun _=>List Nat) i (v::r) (fun k=>x::ih k v)) l
theorem ag8:∀ (l:List Nat) (i v:Nat),aiz l i v=l.set i v
 | [],i,v=>rfl
 | x::l,0,v=>rfl
 | x::l,i+1,v=>by
  show x::aiz l i v=_
  rw[ag8 l i v];rfl
def VW (xs:List Nat) (i j:Nat):List Nat:=aiz (aiz xs i (gW xs j)) j (gW xs i)
theorem KR (xs:List Nat) (i j:Nat):VW xs i j=swp xs i j:=by simp only[VW,swp,ag8,ql]
def Nq (l:List Nat) (x y:Nat):Bool:=Nat.ble (Nat.succ (gW l x)) (gW l y)
theorem v7 (l:List Nat) (x y:Nat):(Nq l x y=true)=(cC l x y<0):=by
 simp only[Nq,ql,Nat.ble_eq,cC]
 apply propext
 constructor
 ·intro h;rw[if_pos (by omega)];omega
 ·intro h
  split at h
  ·omega
  ·split at h<;>omega
def KI (a b:Nat):Nat→Nat→List Nat→List Nat
 | 0,_,xs=>xs
 | k+1,i,xs=>KI a b k (i+1) (VW xs (a+i) (b+i))
theorem GU {a b:Nat}:∀ (k i:Nat) (xs:List Nat),KI a b k i xs=swpR xs a b k i
 | 0,_,_=>rfl
 | k+1,i,xs=>by rw[KI,swpR,KR,GU]
def ae8 (m:Nat):Nat→List Nat→Nat→Nat→List Nat
 | 0,xs,i,j=>xs
 | f+1,xs,i,j=>match Nat.beq i j with
  | true=>KI (m-i) m i 0 xs
  | false=>match Nat.ble i j with
   | true=>ae8 m f (KI (m-i) (m+j-i) i 0 xs) i (j-i)
   | false=>ae8 m f (KI (m-i) m j 0 xs) (i-j) j
theorem Wi {m:Nat}:∀ (f:Nat) (xs:List Nat) (i j:Nat),ae8 m f xs i j=rot m f xs i j
 | 0,_,_,_=>rfl
 | f+1,xs,i,j=>by
  rw[ae8,rot]
  by_cases h:i=j
  ·rw[aqA h,if_pos h,GU]
  ·rw[asw h,if_neg h]
   by_cases h2:j<i
   ·rw[show Nat.ble i j=false by rw[←Bool.not_eq_true,Nat.ble_eq];omega,if_pos h2];simp only[Wi,GU]
   ·rw[Nat.ble_eq_true_of_le (by omega:i≤j),if_neg h2];simp only[Wi,GU]
section
variable (l:List Nat)
def acu (a:Nat):Nat→List Nat→List Nat
 | 0,xs=>xs
 | j+1,xs=>match Nat.ble a j with
  | false=>xs
  | true=>match Nq l (gW xs (j+1)) (gW xs j) with
   | true=>acu a j (VW xs (j+1) j)
   | false=>xs
theorem acW {a:Nat}:∀ (j:Nat) (xs:List Nat),acu l a j xs=insJ (cC l) a j xs
 | 0,_=>rfl
 | j+1,xs=>by
  rw[acu,insJ]
  by_cases h:a≤j
  ·rw[Nat.ble_eq_true_of_le h]
   simp only[ql]
   cases h2:Nq l (nth xs (j+1)) (nth xs j) with
   | true=>rw[if_pos ⟨h,by rw[←v7];exact h2⟩,←acW,KR]
   | false=>rw[if_neg (fun q=>by have:=q.2;rw[←v7,h2]at this;exact absurd this (by simp))]
  ·rw[show Nat.ble a j=false by rw[←Bool.not_eq_true,Nat.ble_eq];exact h,if_neg (fun q=>h q.1)]
def S1 (a:Nat):Nat→Nat→List Nat→List Nat
 | 0,_,xs=>xs
 | k+1,i,xs=>S1 a k (i+1) (acu l a i xs)
theorem Ok {a:Nat}:∀ (k i:Nat) (xs:List Nat),S1 l a k i xs=insO (cC l) a k i xs
 | 0,_,_=>rfl
 | k+1,i,xs=>by rw[S1,insO,acW,Ok]
def ads (xs:List Nat) (a:Nat):Nat→Nat→Nat→Nat
 | 0,i,_=>i
 | f+1,i,j=>match Nat.ble j i with
  | true=>i
  | false=>match Nq l (gW xs ((i+j) / 2)) (gW xs a) with
   | true=>ads xs a f ((i+j) / 2+1) j
   | false=>ads xs a f i ((i+j) / 2)
theorem WA {xs:List Nat}{a:Nat}:∀ (f i j:Nat),ads l xs a f i j=E7 (cC l) xs a f i j
 | 0,_,_=>rfl
 | f+1,i,j=>by
  rw[ads,E7]
  by_cases h:i<j
  ·rw[show Nat.ble j i=false by rw[←Bool.not_eq_true,Nat.ble_eq];omega,if_pos h]
   simp only[ql]
   cases h2:Nq l (nth xs ((i+j) / 2)) (nth xs a) with
   | true=>rw[if_pos (by rw[←v7];exact h2)];simp only[WA]
   | false=>rw[if_neg (by rw[←v7,h2];simp)];simp only[WA]
  ·rw[Nat.ble_eq_true_of_le (by omega:j≤i),if_neg h]
def adG (xs:List Nat) (m:Nat):Nat→Nat→Nat→Nat
 | 0,i,_=>i
 | f+1,i,j=>match Nat.ble j i with
  | true=>i
  | false=>match Nq l (gW xs m) (gW xs ((i+j) / 2)) with
   | true=>adG xs m f i ((i+j) / 2)
   | false=>adG xs m f ((i+j) / 2+1) j
theorem Wu {xs:List Nat}{m:Nat}:∀ (f i j:Nat),adG l xs m f i j=EU (cC l) xs m f i j
 | 0,_,_=>rfl
 | f+1,i,j=>by
  rw[adG,EU]
  by_cases h:i<j
  ·rw[show Nat.ble j i=false by rw[←Bool.not_eq_true,Nat.ble_eq];omega,if_pos h]
   simp only[ql]
   cases h2:Nq l (nth xs m) (nth xs ((i+j) / 2)) with
   | true=>rw[if_pos (by rw[←v7];exact h2)];simp only[Wu]
   | false=>rw[if_neg (by rw[←v7,h2];simp)];simp only[Wu]
  ·rw[Nat.ble_eq_true_of_le (by omega:j≤i),if_neg h]
def YP (xs:List Nat) (p:Nat):Nat→Nat→Nat→Nat
 | 0,i,_=>i
 | f+1,i,j=>match Nat.ble j i with
  | true=>i
  | false=>match Nq l (gW xs (p-(i+j) / 2)) (gW xs ((i+j) / 2)) with
   | true=>YP xs p f i ((i+j) / 2)
   | false=>YP xs p f ((i+j) / 2+1) j
theorem Xs {xs:List Nat}{p:Nat}:∀ (f i j:Nat),YP l xs p f i j=ja (cC l) xs p f i j
 | 0,_,_=>rfl
 | f+1,i,j=>by
  rw[YP,ja]
  by_cases h:i<j
  ·rw[show Nat.ble j i=false by rw[←Bool.not_eq_true,Nat.ble_eq];omega,if_pos h]
   simp only[ql]
   cases h2:Nq l (nth xs (p-(i+j) / 2)) (nth xs ((i+j) / 2)) with
   | true=>rw[if_pos (by rw[←v7];exact h2)];simp only[Xs]
   | false=>rw[if_neg (by rw[←v7,h2];simp)];simp only[Xs]
  ·rw[Nat.ble_eq_true_of_le (by omega:j≤i),if_neg h]
def ahD:Nat→Nat→List Nat→List Nat
 | 0,_,xs=>xs
 | n+1,k,xs=>ahD n (k+1) (VW xs k (k+1))
theorem agU:∀ (n k:Nat) (xs:List Nat),ahD n k xs=shU n k xs
 | 0,_,_=>rfl
 | n+1,k,xs=>by rw[ahD,shU,KR,agU]
def ah1:Nat→Nat→List Nat→List Nat
 | 0,_,xs=>xs
 | n+1,k,xs=>ah1 n (k-1) (VW xs k (k-1))
theorem aha:∀ (n k:Nat) (xs:List Nat),ah1 n k xs=shD n k xs
 | 0,_,_=>rfl
 | n+1,k,xs=>by rw[ah1,shD,KR,aha]
def Kx:Nat→List Nat→Nat→Nat→Nat→List Nat
 | 0,xs,_,_,_=>xs
 | f+1,xs,a,m,b =>
  if m-a=1 then ahD (ads l xs a (b-m) m b-1-a) a xs
  else if b-m=1 then ah1 (m-adG l xs m (m-a) a m) m xs
  else
   let s:=if (a+b) / 2<m then YP l xs ((a+b) / 2+m-1) (b-a) ((a+b) / 2+m-b) ((a+b) / 2) else YP l xs ((a+b) / 2+m-1) (b-a) a m
   let e:=(a+b) / 2+m-s
   let ys:=if s<m∧m<e then ae8 m (e-s) xs (m-s) (e-m) else xs
   let zs:=if a<s∧s<(a+b) / 2 then Kx f ys a s ((a+b) / 2) else ys
   if (a+b) / 2<e∧e<b then Kx f zs ((a+b) / 2) e b else zs
theorem Qv:∀ (f:Nat) (xs:List Nat) (a m b:Nat),Kx l f xs a m b=symM (cC l) f xs a m b
 | 0,_,_,_,_=>rfl
 | f+1,xs,a,m,b=>by
  rw[Kx,symM]
  simp only[agU,aha,WA,Wu,Xs,Wi,Qv f]
def adb (n:Nat):Nat→List Nat→Nat→List Nat×Nat
 | 0,xs,a=>(xs,a)
 | f+1,xs,a=>if a+20≤n then adb n f (S1 l a 19 (a+1) xs) (a+20) else (xs,a)
theorem agG {n:Nat}:∀ (f:Nat) (xs:List Nat) (a:Nat),adb l n f xs a=Ct (cC l) n f xs a
 | 0,_,_=>rfl
 | f+1,xs,a=>by rw[adb,Ct];simp only[Ok,agG f]
def aeO (n bs:Nat):Nat→List Nat→Nat→List Nat×Nat
 | 0,xs,a=>(xs,a)
 | f+1,xs,a=>if a+2*bs≤n then aeO n bs f (Kx l (2*bs) xs a (a+bs) (a+2*bs)) (a+2*bs) else (xs,a)
theorem agX {n bs:Nat}:∀ (f:Nat) (xs:List Nat) (a:Nat),aeO l n bs f xs a=Ha (cC l) n bs f xs a
 | 0,_,_=>rfl
 | f+1,xs,a=>by rw[aeO,Ha];simp only[Qv,agX f]
def aix (n bs:Nat) (p:List Nat×Nat):List Nat:=if p.2+bs<n then Kx l (n-p.2) p.1 p.2 (p.2+bs) n else p.1
theorem aox {n bs:Nat}(p:List Nat×Nat):aix l n bs p=stE (cC l) n bs p:=by rw[aix,stE];simp only[Qv]
def alx (n:Nat) (p:List Nat×Nat):List Nat:=S1 l p.2 (n-(p.2+1)) (p.2+1) p.1
theorem aod {n:Nat}(p:List Nat×Nat):alx l n p=stS (cC l) n p:=Ok l _ _ _
def IT (n:Nat):Nat→List Nat→Nat→List Nat
 | 0,xs,_=>xs
 | f+1,xs,bs=>if bs<n then IT n f (aix l n bs (aeO l n bs n xs 0)) (2*bs) else xs
theorem ahc {n:Nat}:∀ (f:Nat) (xs:List Nat) (bs:Nat),IT l n f xs bs=SA (cC l) n f xs bs
 | 0,_,_=>rfl
 | f+1,xs,bs=>by rw[IT,SA];simp only[aox,agX,ahc f]
def YL (n:Nat) (xs:List Nat):List Nat:=IT l n n (alx l n (adb l n n xs 0)) 20
theorem kQ {n:Nat}(xs:List Nat):YL l n xs=j8 (cC l) n xs:=by rw[YL,j8,ahc,aod,agG]
def rnd (n bs:Nat) (xs:List Nat):List Nat:=aix l n bs (aeO l n bs n xs 0)
end
end
end Go.Vm
namespace Go.Vm
set_option maxHeartbeats 2000000
set_option maxRecDepth 1000000
theorem st1:j8 (cC (eJ 1)) (az 1) (List.range (az 1))=bi 1:=by rw[←kQ];decide +kernel
theorem st3:j8 (cC (eJ 3)) (az 3) (List.range (az 3))=bi 3:=by rw[←kQ];decide +kernel
theorem st5:j8 (cC (eJ 5)) (az 5) (List.range (az 5))=bi 5:=by rw[←kQ];decide +kernel
theorem st7:j8 (cC (eJ 7)) (az 7) (List.range (az 7))=bi 7:=by rw[←kQ];decide +kernel
theorem auP:j8 (cC (eJ 12)) (az 12) (List.range (az 12))=bi 12:=by rw[←kQ];decide +kernel
theorem st9:j8 (cC (eJ 9)) (az 9) (List.range (az 9))=bi 9:=by rw[←kQ];decide +kernel
end Go.Vm
namespace Go.Vm
set_option maxHeartbeats 2000000
set_option maxRecDepth 1000000
noncomputable section
def anl:List Nat:=[0,1,17,2,18,3,19,4,5,6,7,8,9,10,11,12,13,14,15,16,34,35,20,36,21,37,22,38,23,39,24,25,26,27,28,29,30,31,32,33,51,52,53,54,55,40,56,41,57,42,58,43,59,44,45,46,47,48,49,50,68,69,70,71,72,73,74,75,60,76,61,77,62,78,63,79,64,65,66,67,85,86,87,88,89,90,91,92,93,94,95,80,96,81,97,82,98,83,99,84,102,103,119,104,105,106,107,108,109,110,111,112,113,114,115,100,116,101,117,118,120,136,121,137,122,138,123,139,124,125,126,127,128,129,130,131,132,133,134,135,153,154,155,140,156,141,157,142,158,143,159,144,145,146,147,148,149,150,151,152,170,171,172,173,174,175,160,176,161,177,162,178,163,179,164,165,166,167,168,169,187,188,189,190,191,192,193,194,195,180,196,181,197,182,198,183,199,184,185,186,204,205,206,207,208,209,210,211,212,213,214,215,200,216,201,217,202,218,203,219,221,222,238,223,239,224,225,226,227,228,229,230,231,232,233,234,235,220,236,237,255,240,256,241,257,242,258,243,259,244,245,246,247,248,249,250,251,252,253,254,272,273,274,275,260,276,261,277,262,278,263,279,264,265,266,267,268,269,270,271,280,281,282,283,284,285,286,287,288]
def amV:List Nat:=[0,1,17,2,18,34,3,19,35,4,20,36,5,21,37,6,22,38,7,23,39,8,24,9,25,10,26,11,27,12,28,13,29,14,30,15,31,16,32,33,51,52,68,53,69,54,70,55,71,40,56,72,41,57,73,42,58,74,43,59,75,44,60,76,45,61,77,46,62,78,47,63,79,48,64,49,65,50,66,67,85,86,102,87,103,119,88,104,89,105,90,106,91,107,92,108,93,109,94,110,95,111,80,96,112,81,97,113,82,98,114,83,99,115,84,100,116,101,117,118,120,136,121,137,153,122,138,154,123,139,155,124,140,156,125,141,157,126,142,158,127,143,159,128,144,129,145,130,146,131,147,132,148,133,149,134,150,135,151,152,170,171,187,172,188,173,189,174,190,175,191,160,176,192,161,177,193,162,178,194,163,179,195,164,180,196,165,181,197,166,182,198,167,183,199,168,184,169,185,186,204,205,221,206,222,238,207,223,239,208,224,209,225,210,226,211,227,212,228,213,229,214,230,215,231,200,216,232,201,217,233,202,218,234,203,219,235,220,236,237,255,240,256,272,241,257,273,242,258,274,243,259,275,244,260,276,245,261,277,246,262,278,247,263,279,248,264,249,265,250,266,251,267,252,268,253,269,254,270,271,280,281,282,283,284,285,286,287,288]
def amU:List Nat:=[0,1,17,2,18,34,3,19,35,51,4,20,36,52,68,5,21,37,53,69,6,22,38,54,70,7,23,39,55,71,8,24,40,56,72,9,25,41,57,73,10,26,42,58,74,11,27,43,59,75,12,28,44,60,76,13,29,45,61,77,14,30,46,62,78,15,31,47,63,79,16,32,48,64,33,49,65,50,66,67,85,86,102,87,103,119,88,104,120,136,89,105,121,137,153,90,106,122,138,154,91,107,123,139,155,92,108,124,140,156,93,109,125,141,157,94,110,126,142,158,95,111,127,143,159,80,96,112,128,144,81,97,113,129,145,82,98,114,130,146,83,99,115,131,147,84,100,116,132,148,101,117,133,149,118,134,150,135,151,152,170,171,187,172,188,204,173,189,205,221,174,190,206,222,238,175,191,207,223,239,160,176,192,208,224,161,177,193,209,225,162,178,194,210,226,163,179,195,211,227,164,180,196,212,228,165,181,197,213,229,166,182,198,214,230,167,183,199,215,231,168,184,200,216,232,169,185,201,217,233,186,202,218,234,203,219,235,220,236,237,255,240,256,272,241,257,273,242,258,274,243,259,275,244,260,276,245,261,277,246,262,278,247,263,279,248,264,280,249,265,281,250,266,282,251,267,283,252,268,284,253,269,285,254,270,286,271,287,288]
def anb:List Nat:=[0,1,17,2,18,34,3,19,35,51,4,20,36,52,68,5,21,37,53,69,85,6,22,38,54,70,86,102,7,23,39,55,71,87,103,119,8,24,40,56,72,88,104,120,136,9,25,41,57,73,89,105,121,137,153,10,26,42,58,74,90,106,122,138,154,11,27,43,59,75,91,107,123,139,155,12,28,44,60,76,92,108,124,140,156,13,29,45,61,77,93,109,125,141,157,14,30,46,62,78,94,110,126,142,158,15,31,47,63,79,95,111,127,143,159,16,32,48,64,80,96,112,128,144,33,49,65,81,97,113,129,145,50,66,82,98,114,130,146,67,83,99,115,131,147,84,100,116,132,148,101,117,133,149,118,134,150,135,151,152,170,171,187,172,188,204,173,189,205,221,174,190,206,222,238,175,191,207,223,239,255,160,176,192,208,224,240,256,272,161,177,193,209,225,241,257,273,162,178,194,210,226,242,258,274,163,179,195,211,227,243,259,275,164,180,196,212,228,244,260,276,165,181,197,213,229,245,261,277,166,182,198,214,230,246,262,278,167,183,199,215,231,247,263,279,168,184,200,216,232,248,264,280,169,185,201,217,233,249,265,281,186,202,218,234,250,266,282,203,219,235,251,267,283,220,236,252,268,284,237,253,269,285,254,270,286,271,287,288]
theorem ary:alx (eJ 11) 289 (adb (eJ 11) 289 289 (List.range 289) 0)=anl:=by decide +kernel
theorem arm:rnd (eJ 11) 289 20 anl=amV:=by decide +kernel
theorem arI:rnd (eJ 11) 289 40 amV=amU:=by decide +kernel
theorem asr:rnd (eJ 11) 289 80 amU=anb:=by decide +kernel
theorem ar5:rnd (eJ 11) 289 160 anb=bi 11:=by decide +kernel
theorem au4:j8 (cC (eJ 11)) 289 (List.range 289)=bi 11:=by
 rw[←kQ,YL,ary]
 have u:∀ (f:Nat) (xs:List Nat) (bs:Nat),bs<289→IT (eJ 11) 289 (f+1) xs bs=IT (eJ 11) 289 f (rnd (eJ 11) 289 bs xs) (2*bs):=fun f xs bs h=>by rw[IT,if_pos h];rfl
 rw[u 288 _ _ (by omega),arm,u 287 _ _ (by omega),arI,u 286 _ _ (by omega),asr,u 285 _ _ (by omega),ar5]
 rw[show (285:Nat)=284+1 from rfl,IT,if_neg (by omega)]
end
end Go.Vm
namespace Go.Vm
set_option maxHeartbeats 2000000
set_option maxRecDepth 100000
theorem amb:eJ 2=eJ 1∧eJ 4=eJ 3∧eJ 6=eJ 5∧eJ 8=eJ 7∧eJ 10=eJ 9:=⟨rfl,rfl,rfl,rfl,rfl⟩
theorem aio:bi 2=bi 1∧bi 4=bi 3∧bi 6=bi 5∧bi 8=bi 7∧bi 10=bi 9:=⟨rfl,rfl,rfl,rfl,rfl⟩
theorem aqx (id:Nat) (h:kB id):j8 (cC (eJ id)) (az id) (List.range (az id))=bi id:=by
 obtain⟨p2,p4,p6,p8,p10⟩:=amb
 obtain⟨q2,q4,q6,q8,q10⟩:=aio
 have h1:id=1∨id=2∨id=3∨id=4∨id=5∨id=6∨id=7∨id=8∨id=9∨id=10∨id=11∨id=12:=by omega
 rcases h1 with rfl | rfl | rfl | rfl | rfl | rfl | rfl | rfl | rfl | rfl | rfl | rfl
 ·exact st1
 ·rw[p2,q2];exact st1
 ·exact st3
 ·rw[p4,q4];exact st3
 ·exact st5
 ·rw[p6,q6];exact st5
 ·exact st7
 ·rw[p8,q8];exact st7
 ·exact st9
 ·rw[p10,q10];exact st9
 ·exact au4
 ·exact auP
theorem agA:∀ id∈ids,az id≤289∧az id % 20≠0∧1≤az id:=by decide +kernel
def rks (es:List Nat):Nat→Nat→List Nat→List Nat
 | 0,_,R=>R
 | k+1,i,R=>rks es k (i+1) (R.set (nth es i) i)
theorem ao2:∀ id∈ids,rks (bi id) (az id) 0 (List.replicate (az id) 0)=cu id:=by decide +kernel
theorem ag2:∀ id∈ids,(bi id).length=az id∧(cu id).length=az id∧(bi id).all (fun e=>decide (e<az id))=true:=by decide +kernel
def xc (n i:Nat):List Nat:=List.range i++List.replicate (n-i) 0
theorem alu {n i:Nat}(h:i≤n):(xc n i).length=n:=by simp[xc];omega
theorem amq {n i:Nat}(h:i<n):(xc n i).set i i=xc n (i+1):=by
 unfold xc
 obtain⟨k,hk⟩:∃ k,n-i=k+1:=⟨n-i-1,by omega⟩
 rw[hk,List.replicate_succ,List.set_append_right _ _ (by simp),List.length_range,Nat.sub_self,List.set_cons_zero,List.range_succ,List.append_assoc]
 congr 2
 rw[show n-(i+1)=k by omega];rfl
section
variable (id n:Nat) (Z:List AV)
theorem afS (hn:n≤289) (R:List Nat) (a b c d:AV) (x0 x1:D) (N:Nat):∀ (k i:Nat),i+k=n→
  (Dn prog).code (.loop oS) ⟨[(2,.ptr 0 0),(6,.ptr 4 0),(7,.ptr 5 0),(34,.d (.int .i64 n)),(35,.d (.int .i64 i))],
   ⟨[(0,.cells [a,b,c,d]),(2,.arr 1 (bl (xc n i))),(3,.arr 1 (bl R)),(4,.cells [.d x0,.d x1,.sl 2 0 n,.sl 3 0 n]),(5,.cells Z)],N⟩⟩ =
  some (.exit 0,⟨[(2,.ptr 0 0),(6,.ptr 4 0),(7,.ptr 5 0)],⟨[(0,.cells [a,b,c,d]),(2,.arr 1 (bl (xc n n))),(3,.arr 1 (bl R)),(4,.cells [.d x0,.d x1,.sl 2 0 n,.sl 3 0 n]),(5,.cells Z)],N⟩⟩):=by
 intro k
 induction k with
 | zero =>
  intro i h
  have:i=n:=by omega
  subst this
  rw[aa oS.eq_1]
  simp (maxSteps:=300000) (disch:=omega) [↓if_pos,↓if_neg]
 | succ k ih =>
  intro i h
  have l:=alu (n:=n) (i:=i) (by omega)
  have h5:=ih (i+1) (by omega)
  have c1:((i+1:Nat):Int)=(i:Int)+1:=rfl
  rw[c1]at h5
  rw[aa oS.eq_1,←h5,←amq (by omega)]
  generalize xc n i=xs at *
  simp (maxSteps:=300000) (disch:=omega) [↓if_pos,↓if_neg]
theorem afu (hn:n≤289) (es:List Nat) (he:es.length=n) (hu:b7 n es) (a b c d:AV) (x0 x1:D) (N:Nat):∀ (k i:Nat) (R:List Nat),i+k=n→R.length=n→
  (Dn prog).code (.loop oL) ⟨[(2,.ptr 0 0),(6,.ptr 4 0),(49,.sl 2 0 n),(50,.d (.int .i64 n)),(51,.d (.int .i64 i))],
   ⟨[(0,.cells [a,b,c,d]),(2,.arr 1 (bl es)),(3,.arr 1 (bl R)),(4,.cells [.d x0,.d x1,.sl 2 0 n,.sl 3 0 n]),(5,.cells Z)],N⟩⟩ =
  some (.exit 2,⟨[(2,.ptr 0 0),(6,.ptr 4 0)],⟨[(0,.cells [a,b,c,d]),(2,.arr 1 (bl es)),(3,.arr 1 (bl (rks es k i R))),(4,.cells [.d x0,.d x1,.sl 2 0 n,.sl 3 0 n]),(5,.cells Z)],N⟩⟩):=by
 intro k
 induction k with
 | zero =>
  intro i R h hR
  rw[aa oL.eq_1]
  simp (maxSteps:=300000) (disch:=omega) [↓if_pos,↓if_neg,rks]
 | succ k ih =>
  intro i R h hR
  have h5:=ih (i+1) (R.set (nth es i) i) (by omega) (by simpa using hR)
  have c1:((i+1:Nat):Int)=(i:Int)+1:=rfl
  have hv:=hu.nth (i:=i) (by omega)
  rw[c1]at h5
  rw[aa oL.eq_1,rks,←h5]
  simp (maxSteps:=300000) (disch:=omega) [↓if_pos,↓if_neg]
end
end Go.Vm
namespace Go.Vm
set_option maxHeartbeats 2000000
set_option maxRecDepth 100000
@[simp] theorem atS {h:ac}{n id off:Nat}{k:IntKind}{z:Int}(h0:0≤z) (h1:z≤n):JT h n (.ptr id off) none (some (.d (.int k z))) none=bA (get h id) fun o=>bA (cellsOf o) fun cs=>dg (Nat.ble (off+n) cs.length) (some (.sl id off z.toNat)):=by
 obtain⟨d,rfl⟩:=Int.eq_ofNat_of_zero_le h0
 have hd:Nat.ble d n=true:=Nat.ble_eq_true_of_le (by omega)
 have hb:vY n none (some (.d (.int k (d:Int)))) none=some (0,d,n):=by
  show (match (match Nat.ble d n with | true=>some d | false=>none) with | none=>none | some h=>lY none h n)=_
  rw[hd];rfl
 simp only[JT,Ey]
 cases get h id with
 | none=>rfl
 | some o =>
  cases o with
  | cells cs =>
   simp only[bA,cellsOf,hb]
   cases Nat.ble (off+n) cs.length<;>simp[dg]
  | arr=>rfl
  | loop=>rfl
def vc (V:List Int):List AV:=V.map fun z=>.d (.int .i64 z)
theorem Jg {V:List Int}:(vc V).length=V.length:=by simp[vc]
theorem akX {V:List Int}{i:Nat}(h:i<V.length):(vc V)[i]?=some (.d (.int .i64 (nth V i))):=by
 rw[vc,List.getElem?_map,qD h];rfl
theorem apG {V:List Int}{i:Nat}{z:Int}:(vc V).set i (.d (.int .i64 z))=vc (V.set i z):=by simp[vc,List.map_set]
theorem aeo {V:List Int}{i:Nat}{z:Int}(h:i<V.length):List.take i (vc V)++AV.d (.int .i64 z)::List.drop (i+1) (vc V)=vc (V.set i z):=by
 rw[←apG,List.set_eq_take_append_cons_drop,if_pos (by rw[Jg];exact h)]
def odo (lo hi:Int):Nat→List Int→List Int
 | 0,V=>V
 | i+1,V=>if nth V i+1≤hi then V.set i (nth V i+1) else odo lo hi i (V.set i lo)
abbrev Sm (V:List Int):Prop:=∀ z∈V,-100000≤z∧z≤100000
section
variable (k1:AV) (dm lo hi pl:Int) (aU:List AV) (N:Nat)
theorem ami (d n m:Nat) (hd:d≤4) (V:List Int) (hV:V.length=4) (hs:Sm V):∀ (k i sum:Nat),i+k=d→sum≤1000000*(i+1)→
  (Dn prog).code (.loop iA) ⟨[(1,.ptr 0 0),(2,.ptr 1 0),(3,.ptr 2 0),(5,.d (.int .i64 n)),(6,.d (.int .i64 sum)),(21,.d (.int .i64 m)),(22,.d (.int .i64 n)),(27,.sl 2 0 d),(28,.d (.int .i64 d)),(29,.d (.int .i64 i))],
   ⟨[(0,.cells [.d (.int .i64 dm),.d (.int .i64 lo),.d (.int .i64 hi),.d (.int .i64 pl)]),(1,.cells aU),(2,.cells (vc V))],N⟩⟩ =
  some (.exit 4,⟨[(1,.ptr 0 0),(2,.ptr 1 0),(3,.ptr 2 0),(5,.d (.int .i64 n)),(6,.d (.int .i64 (sum+Ft ((V.take d).drop i):Nat))),(21,.d (.int .i64 m)),(22,.d (.int .i64 n))],
   ⟨[(0,.cells [.d (.int .i64 dm),.d (.int .i64 lo),.d (.int .i64 hi),.d (.int .i64 pl)]),(1,.cells aU),(2,.cells (vc V))],N⟩⟩):=by
 intro k
 induction k with
 | zero =>
  intro i sum h1 h2
  have e:(V.take d).drop i=[]:=List.drop_eq_nil_of_le (by simp;omega)
  rw[aa iA.eq_1,e]
  simp (maxSteps:=300000) (disch:=omega) [↓if_pos,↓if_neg,Ft]
 | succ k ih =>
  intro i sum h1 h2
  have hg:=akX (V:=V) (i:=i) (by omega)
  have hb:=hs (nth V i) (nk (by omega))
  have e:(V.take d).drop i=nth V i::(V.take d).drop (i+1):=by
   rw[List.drop_eq_getElem_cons (by simp;omega)]
   congr 1
   rw[List.getElem_take,aex (by omega)]
  have h5:=ih (i+1) (sum+(nth V i).natAbs) (by omega) (by omega)
  have es:sum+Ft ((V.take d).drop i)=sum+(nth V i).natAbs+Ft ((V.take d).drop (i+1)):=by rw[e,Ft];omega
  rw[es]
  have c1:((i+1:Nat):Int)=(i:Int)+1:=rfl
  rw[c1]at h5
  rw[aa iA.eq_1,←h5]
  generalize nth V i=z at *
  by_cases hz:z<0
  ·have c2:((sum+z.natAbs:Nat):Int)=(sum:Int)+-z:=by omega
   rw[c2]
   simp (maxSteps:=300000) (disch:=omega) [↓if_pos,↓if_neg,hg]
  ·have c2:((sum+z.natAbs:Nat):Int)=(sum:Int)+z:=by omega
   rw[c2]
   simp (maxSteps:=300000) (disch:=omega) [↓if_pos,↓if_neg,hg]
theorem amK (n m:Nat) (hlo:-1000≤lo∧lo≤1000):∀ (j:Nat) (V:List Int),j≤4→V.length=4→Sm V→
  (Dn prog).code (.loop iB) ⟨[(1,.ptr 0 0),(2,.ptr 1 0),(3,.ptr 2 0),(9,.d (.int .i64 ((j:Int)-1))),(21,.d (.int .i64 m)),(22,.d (.int .i64 n))],
   ⟨[(0,.cells [.d (.int .i64 dm),.d (.int .i64 lo),.d (.int .i64 hi),.d (.int .i64 pl)]),(1,.cells aU),(2,.cells (vc V))],N⟩⟩ =
  some (.exit 6,⟨[(1,.ptr 0 0),(2,.ptr 1 0),(3,.ptr 2 0),(21,.d (.int .i64 m)),(22,.d (.int .i64 n))],
   ⟨[(0,.cells [.d (.int .i64 dm),.d (.int .i64 lo),.d (.int .i64 hi),.d (.int .i64 pl)]),(1,.cells aU),(2,.cells (vc (odo lo hi j V)))],N⟩⟩):=by
 intro j
 induction j with
 | zero =>
  intro V h1 hV hs
  rw[aa iB.eq_1]
  simp (maxSteps:=300000) (disch:=omega) [↓if_pos,↓if_neg,odo]
 | succ j ih =>
  intro V h1 hV hs
  have hg:=akX (V:=V) (i:=j) (by omega)
  have hb:=hs (nth V j) (nk (by omega))
  have hgs:∀ z,(vc (V.set j z))[j]?=some (.d (.int .i64 z)):=fun z=>by
   rw[vc,List.getElem?_map,List.getElem?_set_self (by omega)];rfl
  have c1:((j+1:Nat):Int)-1=(j:Int):=by omega
  have lp:=fun z=>aeo (V:=V) (i:=j) (z:=z) (by omega)
  have lq:=fun y z=>aeo (V:=V.set j y) (i:=j) (z:=z) (by simp;omega)
  have hss:∀ y z,(V.set j y).set j z=V.set j z:=fun y z=>List.set_set ..
  have hl2:∀ y,(V.set j y).length=4:=fun y=>by simpa using hV
  rw[c1,aa iB.eq_1,odo]
  by_cases h:nth V j+1≤hi
  ·rw[if_pos h]
   generalize nth V j=z at *
   simp (maxSteps:=300000) (disch:=omega) [↓if_pos,↓if_neg,hg,Jg,lp,lq,hss,hl2,hV,hgs]
  ·have h5:=ih (V.set j lo) (by omega) (by simpa using hV) (fun z hz=>by
    rcases List.mem_or_eq_of_mem_set hz with g | g
    ·exact hs z g
    ·subst g;omega)
   rw[if_neg h,←h5]
   generalize nth V j=z at *
   simp (maxSteps:=300000) (disch:=omega) [↓if_pos,↓if_neg,hg,Jg,lp,lq,hss,hl2,hV,hgs]
def S7 (lo:Int):Nat→Nat→List Int→List Int
 | 0,_,V=>V
 | k+1,i,V=>S7 lo k (i+1) (V.set i lo)
theorem alj (d:Nat) (hd:d≤4):∀ (k i:Nat) (V:List Int),i+k=d→V.length=4→
  (Dn prog).code (.loop iw) ⟨[(1,.ptr 0 0),(2,.ptr 1 0),(3,.ptr 2 0),(11,.d (.int .i64 d)),(12,.d (.int .i64 i))],
   ⟨[(0,.cells [.d (.int .i64 dm),.d (.int .i64 lo),.d (.int .i64 hi),.d (.int .i64 pl)]),(1,.cells aU),(2,.cells (vc V))],N⟩⟩ =
  some (.exit 0,⟨[(1,.ptr 0 0),(2,.ptr 1 0),(3,.ptr 2 0)],
   ⟨[(0,.cells [.d (.int .i64 dm),.d (.int .i64 lo),.d (.int .i64 hi),.d (.int .i64 pl)]),(1,.cells aU),(2,.cells (vc (S7 lo k i V)))],N⟩⟩):=by
 intro k
 induction k with
 | zero =>
  intro i V h1 hV
  rw[aa iw.eq_1]
  simp (maxSteps:=300000) (disch:=omega) [↓if_pos,↓if_neg,S7]
 | succ k ih =>
  intro i V h1 hV
  have lp:=fun z=>aeo (V:=V) (i:=i) (z:=z) (by omega)
  have h5:=ih (i+1) (V.set i lo) (by omega) (by simpa using hV)
  have c1:((i+1:Nat):Int)=(i:Int)+1:=rfl
  rw[c1]at h5
  rw[aa iw.eq_1,S7,←h5]
  simp (maxSteps:=300000) (disch:=omega) [↓if_pos,↓if_neg,Jg,lp,hV]
end
def qw (id n:Nat):List Int:=(amY id n++[0,0,0,0]).take 4
def ani (id n:Nat):Bool:=decide (odo (bO id) (bO id+bb id-1) (dR id) (qw id n)=qw id (n+1)) && decide (Ft ((qw id n).take (dR id))=oN id n) && decide (oN id n≤255) &&
 (qw id n).all (fun z=>decide (-100000≤z) && decide (z≤100000)) && decide ((qw id n).length=4)
theorem aof:∀ id∈ids,(List.range (az id)).all (ani id)=true:=by decide +kernel
theorem aqc {id n:Nat}(h:kB id) (hn:n<az id):odo (bO id) (bO id+bb id-1) (dR id) (qw id n)=qw id (n+1)∧Ft ((qw id n).take (dR id))=oN id n∧oN id n≤255∧Sm (qw id n)∧(qw id n).length=4:=by
 have:=List.all_eq_true.1 (aof id (jE h)) n (by simpa using hn)
 simp only[ani,Bool.and_eq_true,decide_eq_true_eq,List.all_eq_true]at this
 exact⟨this.1.1.1.1,this.1.1.1.2,this.1.1.2,fun z hz=>this.1.2 z hz,this.2⟩
theorem am2:∀ id∈ids,S7 (bO id) (dR id) 0 [0,0,0,0]=qw id 0∧dR id≤4∧1≤dR id∧-1000≤bO id∧bO id≤1000∧az id≤289:=by decide +kernel
def kZ (id n:Nat):List AV:=(List.range 289).map fun e=>.d (.int .u8 (if e<n then oN id e else 0:Nat))
theorem OF {id n:Nat}:(kZ id n).length=289:=by simp[kZ]
theorem amN {id n:Nat}(h:n<289):List.take n (kZ id n)++AV.d (.int .u8 (oN id n:Nat))::List.drop (n+1) (kZ id n)=kZ id (n+1):=by
 have e:(kZ id n).set n (AV.d (.int .u8 (oN id n:Nat)))=kZ id (n+1):=by
  apply List.ext_getElem?
  intro j
  rw[List.getElem?_set]
  by_cases hj:n=j
  ·subst hj
   rw[if_pos rfl,if_pos (by rw[OF];exact h),kZ,List.getElem?_map,List.getElem?_range h]
   simp
  ·rw[if_neg hj,kZ,kZ,List.getElem?_map,List.getElem?_map]
   by_cases hl:j<289
   ·rw[List.getElem?_range hl]
    simp only[Option.map_some]
    by_cases h2:j<n
    ·rw[if_pos h2,if_pos (by omega)]
    ·rw[if_neg h2,if_neg (by omega)]
   ·rw[List.getElem?_eq_none (by simp;omega)];rfl
 rw[←e,List.set_eq_take_append_cons_drop,if_pos (by rw[OF];exact h)]
theorem al6 (id:Nat) (h:kB id) (pl:Int) (N:Nat):∀ (k n:Nat),n+k=az id→
  (Dn prog).code (.loop iz) ⟨[(1,.ptr 0 0),(2,.ptr 1 0),(3,.ptr 2 0),(21,.d (.int .i64 (az id))),(22,.d (.int .i64 n))],
   ⟨[(0,.cells [.d (.int .i64 (dR id)),.d (.int .i64 (bO id)),.d (.int .i64 (bO id+bb id-1)),.d (.int .i64 pl)]),(1,.cells (kZ id n)),(2,.cells (vc (qw id n)))],N⟩⟩ =
  some (.exit 2,⟨[(2,.ptr 1 0)],⟨[(1,.cells (kZ id (az id))),(2,.cells (vc (qw id (az id))))],N⟩⟩):=by
 obtain⟨d0,d1,d2,d3,d4,d5⟩:=am2 id (jE h)
 intro k
 induction k with
 | zero =>
  intro n hn
  have:n=az id:=by omega
  subst this
  rw[aa iz.eq_1]
  simp (maxSteps:=300000) (disch:=omega) [↓if_pos,↓if_neg]
 | succ k ih =>
  intro n hn
  obtain⟨f1,f2,f3,f4,f5⟩:=aqc (n:=n) h (by omega)
  have g1:=ami (dR id) (bO id) (bO id+bb id-1) pl (kZ id n) N (dR id) n (az id) d1 (qw id n) f5 f4 (dR id) 0 0 (by omega) (by omega)
  have g2:=amK (dR id) (bO id) (bO id+bb id-1) pl (kZ id (n+1)) N n (az id) ⟨d3,d4⟩ (dR id) (qw id n) d1 f5 f4
  rw[f1]at g2
  rw[List.drop_zero,f2,Nat.zero_add]at g1
  have h5:=ih (n+1) (by omega)
  have c1:((n+1:Nat):Int)=(n:Int)+1:=rfl
  have c0:((0:Nat):Int)=0:=rfl
  rw[c1]at h5
  rw[c0]at g1
  have hp:=amN (id:=id) (n:=n) (by omega)
  have hl:=Jg (V:=qw id n)
  have ol:=OF (id:=id) (n:=n)
  rw[aa iz.eq_1,←h5]
  generalize oN id n=z at *
  generalize hA:kZ id n=A at *
  generalize hB:kZ id (n+1)=B at *
  generalize qw id n=V at *
  generalize qw id (n+1)=W at *
  simp (maxSteps:=300000) (disch:=omega) [↓if_pos,↓if_neg,g1,g2,hp,AV.int]
end Go.Vm
namespace Go.Vm
set_option maxHeartbeats 2000000
set_option maxRecDepth 100000
def C7:List AV:=List.replicate 289 (.d (.int .u8 0))
theorem adF:C7.length=289:=by simp[C7]
theorem apW {id:Nat}:kZ id 0=C7:=by
 simp only[kZ,Nat.not_lt_zero,if_false,C7]
 rw[List.map_const',List.length_range]
 rfl
theorem alG {id:Nat}:kZ id (az id)=ki id:=rfl
theorem asn {x0:AV}{h:ac}{n:Nat}:(Dn prog).code kX ⟨[(0,x0)],⟨h,n⟩⟩=ca (dg ((AV.cells x0).all au) <| lA (put h n (.cells (AV.cells x0))) fun h1=>lA (put h1 (n+1) (.cells C7)) fun h2=>some ⟨[(1,.ptr n 0),(2,.ptr (n+1) 0)],⟨h2,n+1+1⟩⟩):=qC
abbrev Dl (Z:List AV):Prop:=∀ x∈Z,∃ d,x=AV.d d
theorem ad3:∀ {Z:List AV},(ck 1 Z).1=Z
 | []=>rfl
 | v::r=>by rw[ck,ad3];rfl
theorem adu {h:ac}:∀ {Z:List AV},Dl Z→i5 h Z=some (Z,h)
 | [],_=>rfl
 | v::r,hz=>by
  obtain⟨d,rfl⟩:=hz v (.head _)
  have h1:eZ h (.d d)=some (.d d,h):=rfl
  rw[i5,h1]
  simp only[adu (Z:=r) fun x hx=>hz x (.tail _ hx)]
theorem afc:∀ {Z:List AV},Dl Z→Z.map iq=Z
 | [],_=>rfl
 | v::r,hz=>by
  obtain⟨d,rfl⟩:=hz v (.head _)
  rw[List.map_cons,afc fun x hx=>hz x (.tail _ hx)]
  rfl
theorem anm {id:Nat}:Dl (ki id):=by
 intro x hx
 simp only[ki,List.mem_map]at hx
 obtain⟨e,_,rfl⟩:=hx
 exact⟨_,rfl⟩
theorem Sw (id:Nat) (h:kB id):aL prog di [kdV id]=some (.agg (ki id)):=by
 have hin:=jE h
 obtain⟨d0,d1,d2,d3,d4,d5⟩:=am2 id hin
 have hm:=FO id hin
 have h0:=alj (dR id) (bO id) (bO id+bb id-1) (bC id) C7 3 (dR id) d1 (dR id) 0 [0,0,0,0] (by omega) rfl
 have h3:=al6 id h (bC id) 3 (az id) 0 (by omega)
 have c0:((0:Nat):Int)=0:=rfl
 have v0:vc [0,0,0,0]=[.d (.int .i64 0),.d (.int .i64 0),.d (.int .i64 0),.d (.int .i64 0)]:=rfl
 rw[d0,c0,v0]at h0
 rw[apW,alG,c0]at h3
 have zl:=WZ (id:=id)
 have zr:=fun h=>adu (h:=h) (anm (id:=id))
 have zb:=afc (anm (id:=id))
 have zt:List.take 289 (ki id)=ki id:=List.take_of_length_le (by omega)
 have z1:=ad3 (Z:=ki id)
 simp only[kdV]at hm⊢
 rw[am Mm n7.eq_1 rfl]
 generalize ki id=Z at *
 generalize vc (qw id 0)=V0 at *
 generalize vc (qw id (az id))=V1 at *
 generalize bC id=pl at *
 generalize dR id=dm at *
 generalize bO id=lo at *
 generalize bb id=wi at *
 generalize az id=n at *
 simp (maxSteps:=300000) (disch:=omega) [↓if_pos,↓if_neg,hm,h0,h3,-qC,asn,zt,z1,zr]
 exact fun _=>zb
end Go.Vm
namespace Go.Vm
set_option maxHeartbeats 2000000
set_option maxRecDepth 100000
theorem aht {hp:List Nat→ac}{D L:Nat}{F:AV}{C:Nat→Nat→Int}(H:Hp hp D) (K:Cm hp L F C) (n:Nat) (hlen:n≤1000000000) (hn:n % 20≠0) (N:Nat) (xs:List Nat) (hx:xs.length=n) (u:b7 L xs) :
  (Dn prog).call fV [.sl D 0 n,F] ⟨hp xs,N⟩=some (.tup [],⟨hp (j8 C n xs),N⟩):=by
 have h:=akz H K n hlen hn N xs hx u
 rw[aA t9 fX.eq_1 rfl]
 simp (maxSteps:=300000) (disch:=omega) [↓if_pos,↓if_neg,K.sh,K.fi,h]
theorem aso {x2:AV}{x4:AV}{x6:AV}{h:ac}{n:Nat}:(Dn prog).code wR ⟨[(2,x2),(4,x4),(6,x6)],⟨h,n⟩⟩=ca (bP (loadAt h (some 4) 1 (share x4)) fun a1 h2=>bA (bN (Dn prog) di [firm a1] h2) fun a3=>lA (put h2 n (.cells C7)) fun h4=>bA (storeAt h4 289 (.ptr n 0) (firm a3)) fun h5=>some ⟨[(2,x2),(4,x4),(6,x6),(7,.ptr n 0)],⟨h5,n+1⟩⟩):=Et
theorem ae3 {W Z:List AV}(h:W.length=Z.length):ai W 0 Z=Z:=by simp[ai,←h]
theorem aeT {id:Nat}:(ki id).all au=true:=by
 rw[List.all_eq_true]
 intro x hx
 simp only[ki,List.mem_map]at hx
 obtain⟨e,_,rfl⟩:=hx
 rfl
theorem aeV {id:Nat}:(ki id).map eM=ki id:=by
 simp only[ki,List.map_map]
 rfl
theorem amj {n:Nat}:List.replicate n [D.int .i64 0]=bl (List.replicate n 0):=by simp[bl]
theorem ajT (id:Nat) (h:kB id):aL prog su [.d (.int .i64 id)]=some (.tup [Sz id,.d (.int .i64 0)]):=by
 have hin:=jE h
 obtain⟨m1,m2,m3⟩:=agA id hin
 obtain⟨e1,e2,e3⟩:=ag2 id hin
 have hR:=ao2 id hin
 have t1:List.take (az id) (bi id)=bi id:=List.take_of_length_le (by omega)
 have t2:List.take (az id) (cu id)=cu id:=List.take_of_length_le (by omega)
 have hst:=aqx id h
 have ho:=Qw id hin
 have hm:=FO id hin
 have hz:=Sw id h
 have zl:=WZ (id:=id)
 have zc:=aeT (id:=id)
 have zf:=aeV (id:=id)
 have z9:=adF
 have zd:List.drop (ki id).length C7=[]:=List.drop_eq_nil_of_le (by omega)
 have hu:b7 (az id) (bi id):=fun x hx=>by simpa using List.all_eq_true.1 e3 x hx
 have hs:=fun a b c d x0 x1 R N=>aht (hp:=fun xs=>[(0,.cells [a,b,c,d]),(2,.arr 1 (bl xs)),(3,.arr 1 (bl R)),(4,.cells [.d x0,.d x1,.sl 2 0 (az id),.sl 3 0 (az id)]),(5,.cells (ki id))]) (D:=2)
  ⟨fun xs=>rfl,fun xs ys=>rfl⟩ (atZ (S:=5) (fun xs=>rfl) m1) (az id) (by omega) m2 N (List.range (az id)) (by simp) (fun x hx=>by simpa using hx)
 have h0:=fun a b c d x0 x1 R N=>afS (az id) (ki id) m1 R a b c d x0 x1 N (az id) 0 (by omega)
 have h1:=fun a b c d x0 x1 N=>afu (az id) (ki id) m1 (bi id) e1 hu a b c d x0 x1 N (az id) 0 (List.replicate (az id) 0) (by omega) (by simp)
 have hup:xc (az id) (az id)=List.range (az id):=by simp[xc]
 have hu0:xc (az id) 0=List.replicate (az id) 0:=by simp[xc]
 rw[hup,hu0]at h0
 simp only[hst,hR,kdV]at hs h1 ho hm hz
 rw[am ahP Fs.eq_1 rfl]
 have hid:(1:Int)≤id∧(id:Int)≤12:=by omega
 have c0:((0:Nat):Int)=0:=rfl
 rw[c0]at h0 h1
 simp only[Sz]
 generalize ki id=Z at *
 generalize bi id=es at *
 generalize cu id=rs at *
 generalize bC id=pl at *
 generalize dR id=dm at *
 generalize bO id=lo at *
 generalize bb id=wi at *
 generalize az id=n at *
 simp (maxSteps:=300000) (disch:=omega) [↓if_pos,↓if_neg,ho,hm,hz,h0,hs,h1,-Et,aso,ae3,zc,zf,zd,ags,amj,AV.int,t1,t2]
end Go.Vm
namespace Go.Vm
set_option maxHeartbeats 2000000
set_option maxRecDepth 100000
def nm (id:Nat):Bool:=decide (bO id<0)
theorem acK:∀ x∈ids.take 11,aL prog Hg [.d (.int .i64 x)]=some (.d (.bool (nm x))):=zT 100 _ (by kernel_rfl)
end Go.Vm
namespace Go.Vm
set_option maxHeartbeats 2000000
set_option maxRecDepth 100000
end Go.Vm
namespace Go.Vm
set_option maxHeartbeats 2000000
set_option maxRecDepth 100000
def ps1 (sz:List Nat) (s:Nat):Nat→Nat→List Nat→List Nat→List Nat×List Nat
 | 0,_,es,R=>(es,R)
 | k+1,i,es,R=>if nth sz i=s then ps1 sz s k (i+1) (es++[i]) (R.set i es.length) else ps1 sz s k (i+1) es R
def ps2 (sz:List Nat) (n:Nat):Nat→Nat→List Nat×List Nat→List Nat×List Nat
 | 0,_,p=>p
 | f+1,s,p=>if p.1.length<n then ps2 sz n f (s+1) (ps1 sz s n 0 p.1 p.2) else p
section
variable (id:Nat)
end
section
variable (n:Nat) (sz:List Nat) (hz:sz.length=n) (hn2:n≤289) (a b c d:AV) (x0 x1:D) (N:Nat)
include hz hn2
end
end Go.Vm
namespace Go.Vm
set_option maxHeartbeats 2000000
set_option maxRecDepth 1000000
end Go.Vm
namespace Go.Vm
set_option maxHeartbeats 2000000
set_option maxRecDepth 1000000
def okR (sz es rs:List Nat) (i:Nat):Bool:=Nat.beq (gW rs (gW es i)) i &&
 (Nat.beq i 0 || Nat.blt (gW sz (gW es (i-1))) (gW sz (gW es i)) || (Nat.beq (gW sz (gW es (i-1))) (gW sz (gW es i)) && Nat.blt (gW es (i-1)) (gW es i)))
theorem aoB:∀ id∈ids,(List.range (az id)).all (okR (eJ id) (bi id) (cu id))=true:=by decide +kernel
theorem aiV {id i:Nat}(h:kB id) (hi:i<az id):nth (cu id) (nth (bi id) i)=i∧(i≠0→nth (eJ id) (nth (bi id) (i-1))<nth (eJ id) (nth (bi id) i)∨(nth (eJ id) (nth (bi id) (i-1))=nth (eJ id) (nth (bi id) i)∧nth (bi id) (i-1)<nth (bi id) i)):=by
 have:=List.all_eq_true.1 (aoB id (jE h)) i (by simpa using hi)
 simp only[okR,ql,Bool.and_eq_true,Bool.or_eq_true,Nat.beq_eq,Nat.blt,Nat.ble_eq]at this
 refine⟨this.1,fun h0=>?_⟩
 rcases this.2 with (h1 | h1) | h1
 ·exact absurd h1 h0
 ·exact .inl h1
 ·exact .inr h1
section
variable (n:Nat) (hn:n≤289) (sz es rs:List Nat) (Z:List AV) (he:es.length=n) (hr:rs.length=n) (hu:b7 n es) (hZ:∀ x,x<n→Z[x]?=some (.d (.int .u8 (nth sz x:Nat))))
 (h1:∀ i,i<n→nth rs (nth es i)=i) (h2:∀ i,i+1<n→nth sz (nth es i)<nth sz (nth es (i+1))∨(nth sz (nth es i)=nth sz (nth es (i+1))∧nth es i<nth es (i+1)))
include hn he hr hu hZ h1 h2
theorem aaS (x0 x1:D) (N:Nat):∀ (k i:Nat),i+k=n→
  (Dn prog).code (.loop mj) ⟨[(1,.ptr 0 0),(5,.ptr 2 0),(43,.d (.lst (bl es))),(44,.d (.int .i64 n)),(45,.d (.int .i64 i))],⟨[(0,.cells [.d x0,.d x1,.d (.lst (bl es)),.d (.lst (bl rs))]),(2,.cells Z)],N⟩⟩ =
  some (.exit 0,⟨[],⟨[],N⟩⟩):=by
 intro k
 induction k with
 | zero =>
  intro i h
  rw[aa mj.eq_1]
  simp (maxSteps:=300000) (disch:=omega) [↓if_pos,↓if_neg]
 | succ k ih =>
  intro i h
  have hv:=hu.nth (i:=i) (by omega)
  have e1:=hZ _ hv
  have r1:=h1 i (by omega)
  have h5:=ih (i+1) (by omega)
  have c1:((i+1:Nat):Int)=(i:Int)+1:=rfl
  rw[c1]at h5
  rw[aa mj.eq_1,←h5]
  by_cases h0:i=0
  ·subst h0
   have c0:((0:Nat):Int)=0:=rfl
   rw[c0]
   have n0:(0:Int)=((0:Nat):Int):=rfl
   simp (maxSteps:=300000) (disch:=omega) [↓if_pos,↓if_neg,r1]
  ·obtain⟨q,rfl⟩:∃ q,i=q+1:=⟨i-1,by omega⟩
   have hw:=hu.nth (i:=q) (by omega)
   have e2:=hZ _ hw
   rcases h2 q (by omega) with g | ⟨g1,g2⟩
   ·simp (maxSteps:=300000) (disch:=omega) [↓if_pos,↓if_neg,r1,e1,e2]
   ·simp (maxSteps:=300000) (disch:=omega) [↓if_pos,↓if_neg,r1,e1,e2]
end
end Go.Vm
namespace Go.Vm
set_option maxHeartbeats 2000000
set_option maxRecDepth 100000
theorem ash {x1:AV}{x3:AV}{h:ac}{n:Nat}:(Dn prog).code rY ⟨[(1,x1),(3,x3)],⟨h,n⟩⟩=ca (bP (loadAt h (some 4) 1 (share x3)) fun a1 h2=>bA (bN (Dn prog) di [firm a1] h2) fun a3=>lA (put h2 n (.cells C7)) fun h4=>bA (storeAt h4 289 (.ptr n 0) (firm a3)) fun h5=>some ⟨[(1,x1),(3,x3),(5,.ptr n 0)],⟨h5,n+1⟩⟩):=AW
theorem afi (id:Nat) (h:kB id):aL prog sD [u6 id]=some (.d (.bool true)):=by
 have hin:=jE h
 obtain⟨m1,m2,m3⟩:=agA id hin
 obtain⟨e1,e2,e3⟩:=ag2 id hin
 have ho:=Qw id hin
 have hm:=FO id hin
 have hz:=Sw id h
 have zl:=WZ (id:=id)
 have zc:=aeT (id:=id)
 have zf:=aeV (id:=id)
 have z9:=adF
 have zd:List.drop (ki id).length C7=[]:=List.drop_eq_nil_of_le (by omega)
 have hu:b7 (az id) (bi id):=fun x hx=>by simpa using List.all_eq_true.1 e3 x hx
 have h0:=fun x0 x1 N=>aaS (az id) m1 (eJ id) (bi id) (cu id) (ki id) e1 e2 hu (fun x hx=>YW hx m1) (fun i hi=>(aiV h hi).1) (fun i hi=>by have:=(aiV h hi).2 (by omega);simpa using this) x0 x1 N (az id) 0 (by omega)
 simp only[kdV]at ho hm hz
 rw[am adN yY.eq_1 rfl]
 have hid:(1:Int)≤id∧(id:Int)≤12:=by omega
 have c0:((0:Nat):Int)=0:=rfl
 rw[c0]at h0
 simp only[u6]
 generalize ki id=Z at *
 generalize eJ id=zs at *
 generalize bi id=es at *
 generalize cu id=rs at *
 generalize bC id=pl at *
 generalize dR id=dm at *
 generalize bO id=lo at *
 generalize bb id=wi at *
 generalize az id=n at *
 simp (maxSteps:=300000) (disch:=omega) [↓if_pos,↓if_neg,ho,hm,hz,h0,-AW,ash,ae3,zc,zf,zd,AV.int,e1,e2]
end Go.Vm
namespace Go.Vm
set_option maxHeartbeats 2000000
set_option maxRecDepth 100000
theorem ahA (id:Nat) (h:kB id):aL prog sD [u6 id]=some (.d (.bool true)):=afi id h
theorem adM (id:Nat) (h:kB id):aL prog su [.d (.int .i64 id)]=some (.tup [Sz id,.d (.int .i64 0)]):=ajT id h
theorem acv {m:Nat}(h:m≤60):fy .shl (.d (.int .i64 1)) (.d (.int .i64 m))=some (.int .i64 ((2 ^ m:Nat):Int)):=by
 have h2:2 ^ m≤2 ^ 60:=Nat.pow_le_pow_right (by omega) h
 have h3:min m 64=m:=by omega
 rw[EZ (by omega),Int.toNat_natCast,IntKind.bits,h3]
 generalize 2 ^ m=P at *
 rw[ajK (by omega) (by omega),Int.one_mul]
end Go.Vm
namespace Go.Vm
set_option maxHeartbeats 2000000
set_option maxRecDepth 100000
end Go.Vm
namespace Go.Vm
set_option maxHeartbeats 2000000
set_option maxRecDepth 100000
theorem yz:∀ id∈ids,1≤dR id∧dR id≤4∧1≤bb id∧bb id≤121∧-60≤bO id∧bO id≤0∧az id≤300:=by decide +kernel
theorem aiS (dim low pl:Int) (w:Nat) (hw:w≤1000) (hl:-1000≤low∧low≤1000):aL prog kw [.agg [.d (.int .i64 dim),.d (.int .i64 low),.d (.int .i64 (low+w-1)),.d (.int .i64 pl)]]=some (.d (.int .i64 w)):=by
 rw[am Q0 pO.eq_1 rfl]
 have e:low+(w:Int)-1-low+1=w:=by omega
 simp (maxSteps:=300000) (disch:=omega) [e]
theorem tm (e w:Nat):(e:Int).tmod w=((e % w:Nat):Int):=rfl
end Go.Vm
namespace Go.Vm
set_option maxHeartbeats 2000000
set_option maxRecDepth 100000
abbrev rdC (b:List Nat) (st:RS):Obj:=.cells [.d (.lst (ah b)),.d (.int .i64 (ra st)),.d (.int .i64 (re st))]
abbrev h4 (b:List Nat) (X0 X1 X3:Obj) (st:RS):ac:=[(0,X0),(1,X1),(2,rdC b st),(3,X3)]
end Go.Vm
namespace Go.Vm
set_option maxHeartbeats 2000000
set_option maxRecDepth 100000
def sg (s:Nat) (v:Int):Int:=if s=1 then -v else v
end Go.Vm
namespace Go.Vm
set_option maxHeartbeats 2000000
set_option maxRecDepth 100000
end Go.Vm
namespace Go.Vm
set_option maxHeartbeats 2000000
set_option maxRecDepth 100000
end Go.Vm
namespace Go.Vm
set_option maxHeartbeats 2000000
set_option maxRecDepth 100000
end Go.Vm
namespace Go.Vm
set_option maxHeartbeats 2000000
set_option maxRecDepth 100000
end Go.Vm
namespace Go.Vm
set_option maxHeartbeats 2000000
set_option maxRecDepth 100000
end Go.Vm
namespace Go.Vm
set_option maxHeartbeats 2000000
set_option maxRecDepth 100000
structure H2 (hp:Int→Int→ac) (A:Nat):Prop where
 get:∀ s z,get (hp s z) A=some (.cells [.d (.int .i64 s),.d (.int .i64 z)])
 put:∀ s z s' z',put (hp s z) A (.cells [.d (.int .i64 s'),.d (.int .i64 z')])=hp s' z'
abbrev mb (book n s z:Int):Prop:=if book=13 then (0≤n∧n≤511)∧(z<0∨(z-60≤n∧n≤z+60)) else (0≤n∧n≤255)∧(s-60≤n∧n≤s+60)
theorem SQ {hp:Int→Int→ac}{A:Nat}(H:H2 hp A) (book n s z:Int) (N:Nat) (hn:-100000≤n∧n≤100000) (hs:-100000≤s∧s≤100000) (hz:-100000≤z∧z≤100000) :
  (Dn prog).call jD [.ptr A 0,.d (.int .i64 book),.d (.int .i64 n)] ⟨hp s z,N⟩ =
   if mb book n s z then some (.d (.bool true),⟨if book=13 then hp s n else hp n z,N⟩) else some (.d (.bool false),⟨hp s z,N⟩):=by
 rw[aA H5 mT.eq_1 rfl]
 by_cases hb:book=13
 ·by_cases ho:(0≤n∧n≤511)∧(z<0∨(z-60≤n∧n≤z+60))
  ·rw[if_pos (by rw[mb,if_pos hb];exact ho),if_pos hb]
   subst hb
   rcases ho with ⟨⟨o1,o2⟩,o3 | ⟨o3,o4⟩⟩
   ·simp (maxSteps:=300000) (disch:=omega) [↓if_pos,↓if_neg,H.get,H.put]
   ·by_cases hz0:z<0
    ·simp (maxSteps:=300000) (disch:=omega) [↓if_pos,↓if_neg,H.get,H.put]
    ·simp (maxSteps:=300000) (disch:=omega) [↓if_pos,↓if_neg,H.get,H.put]
  ·rw[if_neg (by rw[mb,if_pos hb];exact ho)]
   subst hb
   by_cases o1:n<0
   ·simp (maxSteps:=300000) (disch:=omega) [↓if_pos,↓if_neg,H.get,H.put]
   ·by_cases o2:511<n
    ·simp (maxSteps:=300000) (disch:=omega) [↓if_pos,↓if_neg,H.get,H.put]
    ·by_cases o3:n<z-60
     ·simp (maxSteps:=300000) (disch:=omega) [↓if_pos,↓if_neg,H.get,H.put]
     ·simp (maxSteps:=300000) (disch:=omega) [↓if_pos,↓if_neg,H.get,H.put]
 ·by_cases ho:(0≤n∧n≤255)∧(s-60≤n∧n≤s+60)
  ·rw[if_pos (by rw[mb,if_neg hb];exact ho),if_neg hb]
   obtain⟨⟨o1,o2⟩,o3,o4⟩:=ho
   simp (maxSteps:=300000) (disch:=omega) [↓if_pos,↓if_neg,H.get,H.put]
  ·rw[if_neg (by rw[mb,if_neg hb];exact ho)]
   by_cases o1:n<0
   ·simp (maxSteps:=300000) (disch:=omega) [↓if_pos,↓if_neg,H.get,H.put]
   ·by_cases o2:255<n
    ·simp (maxSteps:=300000) (disch:=omega) [↓if_pos,↓if_neg,H.get,H.put]
    ·by_cases o3:n<s-60
     ·simp (maxSteps:=300000) (disch:=omega) [↓if_pos,↓if_neg,H.get,H.put]
     ·simp (maxSteps:=300000) (disch:=omega) [↓if_pos,↓if_neg,H.get,H.put]
end Go.Vm
namespace Go.Vm
set_option maxHeartbeats 2000000
set_option maxRecDepth 100000
theorem pG {l:List aC}{i:Nat}{s:aC}{r:List aC}(h:l.drop i=s::r):(ge l)[i]?=some [.int .i64 s.book,.int .i64 s.len]:=by
 have:=congrArg (fun l=>l[0]?) h
 simp only[List.getElem?_drop,List.getElem?_cons_zero,Nat.add_zero]at this
 rw[ge,List.getElem?_map,this];rfl
theorem ar {α:Type}{l:List α}{i:Nat}{s:α}{r:List α}(h:l.drop i=s::r):l.drop (i+1)=r:=by
 have:=congrArg (fun l=>l.drop 1) h
 simpa [List.drop_drop] using this
theorem ax {α:Type}{l:List α}{i:Nat}{s:α}{r:List α}(h:l.drop i=s::r):i<l.length:=by
 rcases Nat.lt_or_ge i l.length with g | g
 ·exact g
 ·rw[List.drop_eq_nil_of_le g]at h;exact absurd h (by simp)
theorem aeN (full:List aC) (hl:full.length≤1000000) (x21:AV) (y22 y23:D):∀ (l:List aC) (i:Nat) (lf c:Int) (N:Nat),full.drop i=l→fitsS lf l→0≤c→lf+c≤1000→
  (Dn prog).code (.loop nM) ⟨[(7,.d (.int .i64 (lf+c))),(21,x21),(22,.d y22),(23,.d y23),(27,.d (.lst (ge full))),(28,.d (.int .i64 full.length)),(29,.d (.int .i64 i))],⟨[],N⟩⟩ =
  some (.exit 2,⟨[(21,x21),(22,.d y22),(23,.d y23)],⟨[],N+l.length⟩⟩):=by
 intro l
 induction l with
 | nil =>
  intro i lf c N h hf h0 h1
  have hi:full.length≤i:=by simpa [List.drop_eq_nil_iff] using h
  rw[aa nM.eq_1]
  simp (maxSteps:=300000) (disch:=omega) [↓if_pos,↓if_neg]
 | cons s r ih =>
  intro i lf c N h hf h0 h1
  obtain⟨⟨⟨s1,s2⟩,s3,s4⟩,hf2⟩:=hf
  have hg:=pG h
  have hlt:=ax h
  have h5:=ih (i+1) (lf-s.len) c (N+1) (ar h) hf2 h0 (by omega)
  have c1:((i+1:Nat):Int)=(i:Int)+1:=rfl
  have c2:lf-s.len+c=lf+c-s.len:=by omega
  rw[c1,c2]at h5
  have e:N+(s::r).length=N+1+r.length:=by simp only[List.length_cons];omega
  rw[aa nM.eq_1,e,←h5]
  rcases s4 with s4 | s4
  ·simp (maxSteps:=300000) (disch:=omega) [↓if_pos,↓if_neg,hg]
  ·simp (maxSteps:=300000) (disch:=omega) [↓if_pos,↓if_neg,hg,s4]
def WO:List (List aC)→Nat
 | []=>0
 | l::r=>l.length+WO r
theorem iI {g:List (List aC)}{i:Nat}{l:List aC}{r:List (List aC)}(h:g.drop i=l::r):(bW g)[i]?=some [.lst (ge l)]:=by
 have:=congrArg (fun l=>l[0]?) h
 simp only[List.getElem?_drop,List.getElem?_cons_zero,Nat.add_zero]at this
 rw[bW,List.getElem?_map,this];rfl
theorem ade (full:List (List aC)) (hl:full.length≤1000) (m:Int) (hm:0≤m∧m≤40):∀ (g:List (List aC)) (i N:Nat),full.drop i=g→(∀ l∈g,fitsS m l∧l.length≤1000)→
  (Dn prog).code (.loop nx) ⟨[(21,.d (.lst (bW full))),(22,.d (.int .i64 full.length)),(23,.d (.int .i64 i))],⟨[],N⟩⟩=some (.exit 0,⟨[],⟨[],N+WO g⟩⟩):=by
 intro g
 induction g with
 | nil =>
  intro i N h hf
  have hi:full.length≤i:=by simpa [List.drop_eq_nil_iff] using h
  rw[aa nx.eq_1]
  simp (maxSteps:=300000) (disch:=omega) [↓if_pos,↓if_neg,WO]
 | cons l r ih =>
  intro i N h hf
  have hg:=iI h
  have hlt:=ax h
  obtain⟨f1,f2⟩:=hf l (.head _)
  have h0:=aeN l (by omega) (.d (.lst (bW full))) (.int .i64 full.length) (.int .i64 i) l 0 m (40-m) N rfl f1 (by omega) (by omega)
  have h5:=ih (i+1) (N+l.length) (ar h) fun q hq=>hf q (.tail _ hq)
  have c1:((i+1:Nat):Int)=(i:Int)+1:=rfl
  have c2:m+(40-m)=40:=by omega
  have c0:((0:Nat):Int)=0:=rfl
  rw[c1]at h5
  rw[c2,c0]at h0
  have e:N+WO (l::r)=N+l.length+WO r:=by rw[WO];omega
  rw[aa nx.eq_1,e,←h5]
  simp (maxSteps:=300000) (disch:=omega) [↓if_pos,↓if_neg,hg,h0]
theorem ai1 (gain m:Int) (g:List (List aC)) (hgn:0≤gain∧gain≤255) (hl:g.length≤8) (hm:0≤m∧m≤40) (hf:∀ l∈g,fitsS m l∧l.length≤1000) :
  aL prog CE [.d (.int .i64 gain),.d (.lst (bW g))]=some (.d (.bool true)):=by
 have h:=ade g (by omega) m hm g 0 0 rfl hf
 have c0:((0:Nat):Int)=0:=rfl
 rw[c0]at h
 rw[am af4 Cz.eq_1 rfl]
 simp (maxSteps:=300000) (disch:=omega) [↓if_pos,↓if_neg,h]
end Go.Vm
namespace Go.Vm
set_option maxHeartbeats 2000000
set_option maxRecDepth 100000
def xk:Int→List aC→Option Int
 | lf,[]=>some lf
 | lf,s::r=>if s.right lf then xk (lf-s.len) r else none
theorem QU {l:List aC}{lf:Int}:xk lf l=some 0↔fitsS lf l:=by
 induction l generalizing lf with
 | nil=>simp[xk,fitsS]
 | cons s r ih =>
  rw[xk,fitsS]
  by_cases h:s.right lf
  ·rw[if_pos h,ih];exact⟨fun x=>⟨h,x⟩,fun x=>x.2⟩
  ·rw[if_neg h];simp[h]
theorem aqM {l:List aC}{lf v:Int}(h:xk lf l=some v) (h0:0≤lf):0≤v∧v≤lf:=by
 induction l generalizing lf with
 | nil=>simp only[xk]at h;injection h with h;omega
 | cons s r ih =>
  rw[xk]at h
  by_cases h1:s.right lf
  ·rw[if_pos h1]at h
   have h2:=h1.1
   have:=ih h (by omega)
   omega
  ·rw[if_neg h1]at h;exact absurd h (by simp)
theorem an {α:Type}{l:List α}{i:Nat}(h:l.drop i=[]):l.length≤i:=by simpa [List.drop_eq_nil_iff] using h
theorem ab7 (full:List aC) (hl:full.length≤1000000) (X:Obj) (x26:AV) (y27 y28:D):∀ (r:List aC) (i:Nat) (lf:Int) (N:Nat),full.drop i=r→0≤lf∧lf≤1000→1≤N→
  ∃ M,N≤M∧(Dn prog).code (.loop jP) ⟨[(2,.ptr 0 0),(9,.d (.int .i64 lf)),(26,x26),(27,.d y27),(28,.d y28),(34,.d (.lst (ge full))),(35,.d (.int .i64 full.length)),(36,.d (.int .i64 i))],⟨[(0,X)],N⟩⟩ =
  match xk lf r with
  | some v=>some (.exit 2,⟨[(2,.ptr 0 0),(9,.d (.int .i64 v)),(26,x26),(27,.d y27),(28,.d y28)],⟨[(0,X)],M⟩⟩)
  | none=>some (.ret,⟨[(4,.d (.int .i64 8))],⟨[(0,X)],M⟩⟩):=by
 intro r
 induction r with
 | nil =>
  intro i lf N h h0 hN
  have hi:=an h
  refine⟨N,Nat.le_refl _,?_⟩
  rw[aa jP.eq_1,xk]
  simp (maxSteps:=300000) (disch:=omega) [↓if_pos,↓if_neg]
 | cons s r ih =>
  intro i lf N h h0 hN
  have hg:=pG h
  have hlt:=ax h
  have h6:=fun k n left=>ahR ⟨k,n⟩ left
  have hN0:N≠0:=by omega
  by_cases hr:s.right lf
  ·have hr1:=hr.1
   obtain⟨M,hM,e⟩:=ih (i+1) (lf-s.len) (N+1) (ar h) (by omega) (by omega)
   refine⟨M,by omega,?_⟩
   have c1:((i+1:Nat):Int)=(i:Int)+1:=rfl
   rw[c1]at e
   rw[aa jP.eq_1,xk,if_pos hr,←e]
   simp (maxSteps:=300000) (disch:=omega) [↓if_pos,↓if_neg,hg,h6,hr,hN0]
  ·refine⟨N+1,by omega,?_⟩
   rw[aa jP.eq_1,xk,if_neg hr]
   simp (maxSteps:=300000) (disch:=omega) [↓if_pos,↓if_neg,hg,h6,hr,hN0]
abbrev cQ (m:Int) (g:List (List aC)):Prop:=∀ l∈g,fitsS m l
theorem abu (i:aD) (hi:i.Fit) (h0:0≤i.max∧i.max≤1000) (full:List (List aC)) (hl:full.length≤1000) (hl2:∀ l∈full,l.length≤1000):∀ (g:List (List aC)) (j:Nat) (N:Nat),full.drop j=g→1≤N→
  ∃ M,(Dn prog).code (.loop gR) ⟨[(2,.ptr 0 0),(26,.d (.lst (bW full))),(27,.d (.int .i64 full.length)),(28,.d (.int .i64 j))],⟨[(0,.cells i.cells)],N⟩⟩ =
  if cQ i.max g then some (.exit 0,⟨[],⟨[(0,.cells i.cells)],M⟩⟩) else some (.ret,⟨[(4,.d (.int .i64 8))],⟨[(0,.cells i.cells)],M⟩⟩):=by
 simp only[aD.cells]
 intro g
 induction g with
 | nil =>
  intro j N h hN
  have hi:=an h
  refine⟨N,?_⟩
  rw[aa gR.eq_1,if_pos (show cQ i.max [] from fun _ h=>by simp at h)]
  simp (maxSteps:=300000) (disch:=omega) [↓if_pos,↓if_neg]
 | cons l r ih =>
  intro j N h hN
  have hg:=iI h
  have hlt:=ax h
  have hll:l.length≤1000:=hl2 l (by rw[←List.take_append_drop j full,h];simp)
  obtain⟨M,hM,e⟩:=ab7 l (by omega) (.cells i.cells) (.d (.lst (bW full))) (.int .i64 full.length) (.int .i64 j) l 0 i.max N rfl h0 hN
  have c0:((0:Nat):Int)=0:=rfl
  rw[c0]at e
  simp only[aD.cells]at e
  cases hrm:xk i.max l with
  | none =>
   refine⟨M,?_⟩
   rw[hrm]at e
   have hn:¬ cQ i.max (l::r):=fun h=>by
    have:=QU.2 (h l (.head _))
    rw[hrm]at this;exact absurd this (by simp)
   rw[aa gR.eq_1,if_neg hn]
   simp (maxSteps:=300000) (disch:=omega) [↓if_pos,↓if_neg,hg,e]
  | some v =>
   rw[hrm]at e
   have hv:=aqM hrm h0.1
   by_cases h9:v=0
   ·subst h9
    obtain⟨M2,e2⟩:=ih (j+1) M (ar h) (by omega)
    refine⟨M2,?_⟩
    have hf:=QU.1 hrm
    have hx:cQ i.max (l::r)↔cQ i.max r:=by simp[cQ,hf]
    have c1:((j+1:Nat):Int)=(j:Int)+1:=rfl
    rw[c1]at e2
    rw[aa gR.eq_1,aiH hx,←e2]
    simp (maxSteps:=300000) (disch:=omega) [↓if_pos,↓if_neg,hg,e]
   ·refine⟨M,?_⟩
    have hn:¬ cQ i.max (l::r):=fun h=>by
     have:=QU.2 (h l (.head _))
     rw[hrm]at this;injection this with this;exact h9 this
    rw[aa gR.eq_1,if_neg hn]
    simp (maxSteps:=300000) (disch:=omega) [↓if_pos,↓if_neg,hg,e]
abbrev alX (g:List (List aC)):Prop:=g.length≤1000∧∀ l∈g,l.length≤1000
abbrev lI (i:aD) (g:List (List aC)):Prop:=g.length=i.groups.length∧cQ i.max g
theorem ahx (i:aD) (hi:i.Fit) (g:List (List aC)) (hf:alX g):aL prog zM [.agg i.cells,.d (.lst (bW g))]=if i.may 11 then if lI i g then some (.d (.int .i64 0)) else some (.d (.int .i64 8)) else some (.d (.int .i64 8)):=by
 have hw:=sP i hi
 have hll:=hi.len
 rw[am ad7 zx.eq_1 rfl]
 by_cases hm:i.may 11
 ·rw[if_pos hm]at hw⊢
  have h0:0≤i.max∧i.max≤1000:=by have:=hm.2.2.1;have:=hm.2.2.2.1;have:=Qi (r:=11) (s:=decide (i.seq=2)) (by omega);omega
  obtain⟨M,e⟩:=abu i hi h0 g hf.1 hf.2 g 0 1 rfl (by omega)
  have c0:((0:Nat):Int)=0:=rfl
  rw[c0]at e
  simp only[aD.cells]at hw e
  by_cases h1:g.length=i.groups.length
  ·by_cases h2:cQ i.max g
   ·rw[if_pos ⟨h1,h2⟩]
    rw[if_pos h2]at e
    simp (maxSteps:=300000) (disch:=omega) [↓if_pos,↓if_neg,hw,e]
   ·rw[if_neg (fun h=>h2 h.2)]
    rw[if_neg h2]at e
    simp (maxSteps:=300000) (disch:=omega) [↓if_pos,↓if_neg,hw,e]
  ·rw[if_neg (fun h=>h1 h.1)]
   simp (maxSteps:=300000) (disch:=omega) [↓if_pos,↓if_neg,hw]
 ·rw[if_neg hm]at hw⊢
  simp only[aD.cells]at hw
  simp (maxSteps:=300000) (disch:=omega) [↓if_pos,↓if_neg,hw]
def gC (aF:Nat):Nat→Nat→List Nat
 | 0,n=>[n]
 | f+1,n=>if aF≤n then aF::gC aF f (n-aF) else [n]
theorem afw {σ:Type}{hp:σ→Int→ac}{l p q N:Nat}{st:σ→Nat→σ}{bg:Nat→σ→Prop}(hI:∀ k s x,bg (k+1) s→bg k (st s x)) (hM:∀ j k s,j≤k→bg k s→bg j s) (aF:Nat) (hm:1≤aF∧aF≤1000) (hg:∀ s n,get (hp s n) p=some (.cells [.d (.int .i64 n)])) (hq:∀ s n,get (hp s n) q=some (.cells [.d (.int .i64 aF)])) (hpt:∀ s n m,put (hp s n) p (.cells [.d (.int .i64 m)])=hp s m)
  (hy:∀ (k:Nat) (s:σ) (x:Nat) (n:Int),bg (k+1) s→x≤aF→aP (Dn prog) (.yield l) [.d (.int .i64 (x:Int))] ⟨hp s n,N⟩=some (.d (.bool true),⟨hp (st s x) n,N⟩)):∀ (f n:Nat) (s:σ),n≤f→n≤1000000→bg (f+1) s→
  ∃ (m:Nat) (s2:σ),m<aF∧bg 1 s2∧st s2 m=(gC aF f n).foldl st s∧(Dn prog).code (.loop gu) ⟨[(0,.yield l),(1,.ptr p 0),(2,.ptr q 0)],⟨hp s n,N⟩⟩=some (.exit 0,⟨[(0,.yield l),(1,.ptr p 0)],⟨hp s2 m,N⟩⟩):=by
 intro f
 induction f with
 | zero =>
  intro n s hn hb hi
  refine⟨n,s,by omega,hi,by rw[gC];rfl,?_⟩
  rw[aa gu.eq_1]
  simp (maxSteps:=300000) (disch:=omega) [↓if_pos,↓if_neg,hg,hq]
 | succ f ih =>
  intro n s hn hb hi
  by_cases h1:aF≤n
  ·obtain⟨m,s2,a1,a2,a3,a4⟩:=ih (n-aF) (st s aF) (by omega) (by omega) (hI _ _ _ hi)
   refine⟨m,s2,a1,a2,by rw[gC,if_pos h1,List.foldl_cons];exact a3,?_⟩
   have h2:=hy (f+1) s aF n hi (by omega)
   have c1:((n-aF:Nat):Int)=(n:Int)-aF:=by omega
   rw[c1]at a4
   rw[aa gu.eq_1,←a4]
   simp (maxSteps:=300000) (disch:=omega) [↓if_pos,↓if_neg,hg,hq,hpt,-f7,h2]
  ·refine⟨n,s,by omega,?_,by rw[gC,if_neg h1];rfl,?_⟩
   ·exact hM _ _ _ (by omega) hi
   ·rw[aa gu.eq_1]
    simp (maxSteps:=300000) (disch:=omega) [↓if_pos,↓if_neg,hg,hq]
theorem alW {σ:Type}{hp:σ→Int→ac}{l p q N:Nat}{st:σ→Nat→σ}{bg:Nat→σ→Prop}(hI:∀ k s x,bg (k+1) s→bg k (st s x)) (hM:∀ j k s,j≤k→bg k s→bg j s) (aF:Nat) (hm:1≤aF∧aF≤1000) (hg:∀ s n,get (hp s n) p=some (.cells [.d (.int .i64 n)])) (hq:∀ s n,get (hp s n) q=some (.cells [.d (.int .i64 aF)])) (hpt:∀ s n m,put (hp s n) p (.cells [.d (.int .i64 m)])=hp s m)
  (hy:∀ (k:Nat) (s:σ) (x:Nat) (n:Int),bg (k+1) s→x≤aF→aP (Dn prog) (.yield l) [.d (.int .i64 (x:Int))] ⟨hp s n,N⟩=some (.d (.bool true),⟨hp (st s x) n,N⟩)) (n:Nat) (s:σ) (hn:n≤1000000) (hi:bg (n+1) s) :
  ∃ m:Int,(Dn prog).call fm [.yield l,.ptr p 0,.ptr q 0] ⟨hp s n,N⟩=some (.tup [],⟨hp ((gC aF n n).foldl st s) m,N⟩):=by
 obtain⟨m,s2,a1,a2,a3,a4⟩:=afw hI hM aF hm hg hq hpt hy n n s (Nat.le_refl _) hn hi
 have h2:=hy 0 s2 m m a2 (by omega)
 refine⟨m,?_⟩
 rw[aA Sx sA.eq_1 rfl,←a3]
 simp (maxSteps:=300000) (disch:=omega) [a4,hg,-f7,h2]
theorem Ny {aF:Nat}(hm:1≤aF):∀ {f n:Nat},(gC aF f n).length≤n+1
 | 0,n=>by simp[gC]
 | f+1,n=>by
  rw[gC]
  split
  ·have:=Ny hm (f:=f) (n:=n-aF)
   simp only[List.length_cons];omega
  ·simp
theorem afz (n m:Int) (h:ac) (N:Nat):(Dn prog).call wW [.d (.int .i64 n),.d (.int .i64 m)] ⟨h,N⟩=some (.fn fm [] [.ptr N 0,.ptr (N+1) 0],⟨put (put h N (.cells [.d (.int .i64 n)])) (N+1) (.cells [.d (.int .i64 m)]),N+2⟩):=by
 rw[aA acj wH.eq_1 rfl]
 simp (maxSteps:=300000) (disch:=omega)
def Ki (sz:Nat) (s:aC):List Nat:=ae s.book.toNat 4++(gC (2 ^ sz-1) s.len.toNat s.len.toNat).flatMap fun n=>ae n sz
theorem aaa {sz:Nat}:∀ {l acc:List Nat},l.foldl (fun(s:List Nat) n=>s++ae n sz) acc=acc++l.flatMap fun n=>ae n sz
 | [],acc=>by simp
 | x::r,acc=>by rw[List.foldl_cons,aaa];simp
abbrev J4:Obj:=.cells [.junk,.junk,.junk,.junk]
abbrev hpS (sz:Nat) (v:AV):ac:=[(0,.cells [v]),(1,J4),(2,.cells [.d (.int .i64 sz)])]
abbrev hpF (sz aF N:Nat) (e:ak) (v:AV) (n:Int):ac:=[(0,.cells [v]),(1,J4),(2,.cells [.d (.int .i64 sz)]),(N+1,.cells [.d (.int .i64 n)]),(N+1+1,.cells [.d (.int .i64 aF)]),(N+1+2,.loop e [55] wZ wO false none)]
abbrev WN (aF:Nat) (y32 y33 y34:D) (full:List aC) (i:Int) (r:ak):ak:=(3,.ptr 0 0)::(9,.ptr 2 0)::(10,.d (.int .i64 aF))::(32,.d y32)::(33,.d y33)::(34,.d y34)::(38,.d (.lst (ge full)))::(39,.d (.int .i64 full.length))::(40,.d (.int .i64 i))::r
theorem auw (sz aF N:Nat) (hsz:1≤sz∧sz≤5) (hm:aF<2 ^ sz) (hN:3≤N) (y32 y33 y34:D) (full:List aC) (i:Int) (b:List Nat) (x:Nat) (n:Int) (hx:x≤aF) (hb:b.length≤800000000) :
  aP (Dn prog) (.yield (N+1+2)) [.d (.int .i64 (x:Int))] ⟨hpF sz aF N (WN aF y32 y33 y34 full i [(54,.fn fm [] [.ptr (N+1) 0,.ptr (N+1+1) 0])]) (.own false 1 (ah b)) n,N+1+2+1⟩ =
  some (.d (.bool true),⟨hpF sz aF N (WN aF y32 y33 y34 full i [(54,.fn fm [] [.ptr (N+1) 0,.ptr (N+1+1) 0])]) (.own false 1 (ah (b++ae x sz))) n,N+1+2+1⟩):=by
 have h5:2 ^ sz≤2 ^ 5:=Nat.pow_le_pow_right (by omega) hsz.2
 have h1:=im b x sz (by omega) (by omega) _ (.inl rfl)
 rw[if_pos (by simp only[gJ,Int.toNat_natCast];omega)]at h1
 simp only[Int.toNat_natCast]at h1
 have n1:N+1≠0∧N+1≠1∧N+1≠2:=by omega
 simp (maxSteps:=300000) (disch:=omega) [wZ,wO,↓if_pos,↓if_neg,h1]
theorem afh (sz aF:Nat) (hsz:1≤sz∧sz≤5) (hm:aF=2 ^ sz-1) (full r:List aC) (hl:full.length≤1000) (s:aC) (y32 y33 y34:D) (i N:Nat) (b:List Nat) (hd:full.drop i=s::r) (hr:s.right 1000) (hN:3≤N) (hb:b.length≤700000000) :
  (Dn prog).code lx ⟨WN aF y32 y33 y34 full i [],⟨hpS sz (.own false 1 (ah b)),N⟩⟩ =
  some (.normal,⟨WN aF y32 y33 y34 full ((i+1:Nat):Int) [],⟨hpS sz (.own false 1 (ah (b++Ki sz s))),N+4⟩⟩):=by
 have hg:=pG hd
 have hlt:=ax hd
 have h5:2 ^ sz≤2 ^ 5:=Nat.pow_le_pow_right (by omega) hsz.2
 have h6:2 ^ 1≤2 ^ sz:=Nat.pow_le_pow_right (by omega) hsz.1
 obtain⟨⟨l1,l2⟩,b1,b2⟩:=hr
 have h1:=im b s.book 4 (by omega) (by omega) _ (.inl rfl)
 have c4:(4:Int).toNat=4:=rfl
 have ho:gJ s.book 4:=by
  simp only[gJ,c4]
  omega
 rw[if_pos ho,c4]at h1
 obtain⟨n0,n1,n2⟩:N≠0∧N≠1∧N≠2:=by omega
 obtain⟨L,hL⟩:=Int.eq_ofNat_of_zero_le (show 0≤s.len by omega)
 obtain⟨m,h7⟩:=alW (hp:=fun b n=>hpF sz aF N (WN aF y32 y33 y34 full i [(54,.fn fm [] [.ptr (N+1) 0,.ptr (N+1+1) 0])]) (.own false 1 (ah b)) n) (l:=N+1+2) (p:=N+1) (q:=N+1+1) (N:=N+1+2+1) (st:=fun s n=>s++ae n sz) (bg:=fun k s=>s.length+5*k≤750000000)
  (fun k s x h=>by simp only[List.length_append,bK];omega) (fun j k s h1 h2=>by omega) aF (by omega) (fun s n=>by simp (maxSteps:=300000) (disch:=omega) [↓if_neg]) (fun s n=>by simp (disch:=omega) [↓if_neg]) (fun s n m=>by simp (disch:=omega) [↓if_neg])
  (fun k s x n h1 h2=>auw sz aF N hsz (by omega) hN y32 y33 y34 full i s x n h2 (by omega)) L (b++ae s.book.toNat 4) (by omega) (by simp;omega)
 rw[aaa]at h7
 have e:b++ae s.book.toNat 4++(gC aF L L).flatMap (fun n=>ae n sz)=b++Ki sz s:=by
  rw[Ki,hL,←hm,List.append_assoc];rfl
 rw[e]at h7
 rw[hL]at hg
 rw[lx.eq_1]
 simp (maxSteps:=300000) (disch:=omega) [↓if_pos,↓if_neg,hg,h1,n0,n1,n2,afz,rd,h7]
theorem adL {sz:Nat}(hsz:1≤sz∧sz≤5) {s:aC}(h:s.right 1000):(Ki sz s).length≤6000:=by
 have h6:2 ^ 1≤2 ^ sz:=Nat.pow_le_pow_right (by omega) hsz.1
 have h1:=Ny (aF:=2 ^ sz-1) (by omega) (f:=s.len.toNat) (n:=s.len.toNat)
 obtain⟨⟨l1,l2⟩,_⟩:=h
 rw[Ki,List.length_append,bK,List.length_flatMap]
 have:((gC (2 ^ sz-1) s.len.toNat s.len.toNat).map fun n=>(ae n sz).length).sum≤(gC (2 ^ sz-1) s.len.toNat s.len.toNat).length*5:=by
  generalize gC (2 ^ sz-1) s.len.toNat s.len.toNat=l
  clear h1
  induction l with
  | nil=>simp
  | cons x r ih=>simp only[List.map_cons,List.sum_cons,bK,List.length_cons]at ih⊢;omega
 omega
def me (sz:Nat) (l:List aC):List Nat:=l.flatMap (Ki sz)
theorem sc {lf:Int}:∀ {l:List aC},fitsS lf l→lf≤1000→∀ s∈l,s.right 1000
 | [],_,_,s,h=>absurd h (by simp)
 | x::r,hf,h0,s,h=>by
  obtain⟨h1,h2⟩:=hf
  obtain⟨⟨a,b⟩,c⟩:=h1
  rcases List.mem_cons.1 h with e | e
  ·subst e;exact⟨⟨a,by omega⟩,c⟩
  ·exact sc h2 (by omega) s e
theorem af7 (sz aF:Nat) (hsz:1≤sz∧sz≤5) (hm:aF=2 ^ sz-1) (full:List aC) (hl:full.length≤1000) (y32 y33 y34:D):∀ (r:List aC) (i N:Nat) (b:List Nat),full.drop i=r→(∀ s∈r,s.right 1000)→3≤N→b.length+6000*r.length≤700000000→
  ∃ M,3≤M∧(Dn prog).code (.loop lx) ⟨WN aF y32 y33 y34 full i [],⟨hpS sz (.own false 1 (ah b)),N⟩⟩ =
  some (.exit 2,⟨[(3,.ptr 0 0),(9,.ptr 2 0),(10,.d (.int .i64 aF)),(32,.d y32),(33,.d y33),(34,.d y34)],⟨hpS sz (.own false 1 (ah (b++me sz r))),M⟩⟩):=by
 intro r
 induction r with
 | nil =>
  intro i N b hd hr hN hb
  have hi:=an hd
  refine⟨N,hN,?_⟩
  rw[aa lx.eq_1,me,List.flatMap_nil,List.append_nil]
  simp (maxSteps:=300000) (disch:=omega) [↓if_pos,↓if_neg]
 | cons s r ih =>
  intro i N b hd hr hN hb
  simp only[List.length_cons]at hb
  have hs:=hr s (.head _)
  have h1:=adL hsz hs
  obtain⟨M,hM,e⟩:=ih (i+1) (N+4) (b++Ki sz s) (ar hd) (fun q hq=>hr q (.tail _ hq)) (by omega) (by rw[List.length_append];omega)
  refine⟨M,hM,?_⟩
  have ea:b++me sz (s::r)=b++Ki sz s++me sz r:=by rw[me,List.flatMap_cons,List.append_assoc];rfl
  rw[aa rfl,afh sz aF hsz hm full r hl s y32 y33 y34 i N b hd hs hN (by omega),YX,e,ea]
def S4 (i:aD) (g:List (List aC)):List Nat:=g.flatMap (me i.fsz)
theorem JF {sz:Nat}(hsz:1≤sz∧sz≤5):∀ {l:List aC},(∀ s∈l,s.right 1000)→(me sz l).length≤6000*l.length
 | [],_=>by simp[me]
 | s::r,h=>by
  have h1:=adL hsz (h s (.head _))
  have h2:=JF hsz (l:=r) fun q hq=>h q (.tail _ hq)
  rw[me]at h2⊢
  rw[List.flatMap_cons,List.length_append,List.length_cons]
  omega
theorem afW (sz aF:Nat) (hsz:1≤sz∧sz≤5) (hm:aF=2 ^ sz-1) (m:Int) (hm0:m≤1000) (full:List (List aC)) (hl:full.length≤1000):∀ (g:List (List aC)) (i N:Nat) (b:List Nat),full.drop i=g→cQ m g→(∀ l∈g,l.length≤100)→3≤N→b.length+600000*g.length≤700000000→
  ∃ M,(Dn prog).code (.loop oU) ⟨[(3,.ptr 0 0),(9,.ptr 2 0),(10,.d (.int .i64 aF)),(32,.d (.lst (bW full))),(33,.d (.int .i64 full.length)),(34,.d (.int .i64 i))],⟨hpS sz (.own false 1 (ah b)),N⟩⟩ =
  some (.exit 0,⟨[(3,.ptr 0 0)],⟨hpS sz (.own false 1 (ah (b++g.flatMap (me sz)))),M⟩⟩):=by
 intro g
 induction g with
 | nil =>
  intro i N b hd hf hll hN hb
  have hi:=an hd
  refine⟨N,?_⟩
  rw[aa oU.eq_1,List.flatMap_nil,List.append_nil]
  simp (maxSteps:=300000) (disch:=omega) [↓if_pos,↓if_neg]
 | cons l r ih =>
  intro i N b hd hf hll hN hb
  simp only[List.length_cons]at hb
  have hg:=iI hd
  have hlt:=ax hd
  have hlen:=hll l (.head _)
  have hr:=sc (hf l (.head _)) hm0
  have h1:=JF hsz hr
  obtain⟨M,hM,e⟩:=af7 sz aF hsz hm l (by omega) (.lst (bW full)) (.int .i64 full.length) (.int .i64 i) l 0 N b rfl hr hN (by omega)
  obtain⟨M2,e2⟩:=ih (i+1) M (b++me sz l) (ar hd) (fun q hq=>hf q (.tail _ hq)) (fun q hq=>hll q (.tail _ hq)) hM (by rw[List.length_append];omega)
  refine⟨M2,?_⟩
  have c1:((i+1:Nat):Int)=(i:Int)+1:=rfl
  have c0:((0:Nat):Int)=0:=rfl
  rw[c0]at e
  rw[c1]at e2
  have ea:b++(l::r).flatMap (me sz)=b++me sz l++r.flatMap (me sz):=by rw[List.flatMap_cons,List.append_assoc]
  rw[aa oU.eq_1,ea,←e2]
  simp (maxSteps:=300000) (disch:=omega) [↓if_pos,↓if_neg,hg,e]
theorem yU {lf:Int}:∀ {l:List aC},fitsS lf l→(l.length:Int)≤lf∨l=[]
 | [],_=>.inr rfl
 | x::r,hf=>by
  obtain⟨h1,h2⟩:=hf
  have:=yU h2
  obtain⟨⟨a,b⟩,c⟩:=h1
  left
  rcases this with h | h
  ·simp only[List.length_cons];omega
  ·subst h;simp only[List.length_cons,List.length_nil];omega
theorem amg (b:List Nat) (hb:b.length≤400000000) (x:AV) (hx:x=.d (.lst (ah b))∨x=.nl∧b=[]) (i:aD) (hi:i.Fit) (hm:i.may 11) (g:List (List aC)) (hf:alX g) (hg:lI i g):aL prog FE [x,.agg i.cells,.d (.lst (bW g))] =
  some (.tup [.own true 1 (ah (b++S4 i g)),.d (.int .i64 0)]):=by
 have hc:=ahx i hi g hf
 rw[if_pos hm,if_pos hg]at hc
 have h0:0≤i.max∧i.max≤100:=by have:=hm.2.2.1;have:=hm.2.2.2.1;have:=Qi (r:=11) (s:=decide (i.seq=2)) (by omega);omega
 have hfd:=aiI i
 have hsz:1≤i.fsz∧i.fsz≤5:=by unfold aD.fsz;split<;>omega
 have g8:g.length≤8:=by
  have h:=(ei hm).1
  have h2:=(ei hm).2
  have:=lE (fun n hn=>(h n hn).1)
  have:i.many≤8:=by unfold aD.many;split<;>omega
  have:=hg.1
  omega
 have hll:∀ l∈g,l.length≤100:=fun l hl=>by
  rcases yU (hg.2 l hl) with h | h
  ·omega
  ·subst h;simp
 have hp:=im b 0 0 (by omega) (by omega) x hx
 rw[if_pos (by decide)]at hp
 have t0:(0:Int).toNat=0:=rfl
 rw[t0,ae,List.append_nil]at hp
 obtain⟨M,e⟩:=afW i.fsz (2 ^ i.fsz-1) hsz rfl i.max (by omega) g hf.1 g 0 3 b rfl hg.2 hll (by omega) (by omega)
 have c0:((0:Nat):Int)=0:=rfl
 rw[c0]at e
 simp only[aD.cells]at hc hfd
 simp only[hpS]at e
 rw[am ahu Fc.eq_1 rfl,S4]
 generalize 2 ^ i.fsz-1=aF at *
 rcases hx with rfl | ⟨rfl,rfl⟩
 all_goals simp (maxSteps:=300000) (disch:=omega) [↓if_pos,↓if_neg,hc,hfd,hp,e]
end Go.Vm
namespace Go.Vm
set_option maxHeartbeats 2000000
set_option maxRecDepth 100000
def aq (l:List aC):List Int:=l.flatMap fun s=>List.replicate s.len.toNat s.book
theorem bq {l:List Int}:(aI l).length=l.length:=by simp[aI]
end Go.Vm
namespace Go.Vm
set_option maxHeartbeats 2000000
set_option maxRecDepth 100000
structure Tl {σ:Type}(hp:σ→ac→ac) (L:Nat):Prop where
 put:∀ s K o,L≤K→Go.Vm.put (hp s []) K o=hp s [(K,o)]
 put2:∀ s K o o',L≤K→Go.Vm.put (hp s [(K,o)]) K o'=hp s [(K,o')]
 get:∀ s K o,L≤K→Go.Vm.get (hp s [(K,o)]) K=some o
 del:∀ s K o,L≤K→Go.Vm.del (hp s [(K,o)]) K=hp s []
def rN {σ τ:Type}(st:Nat→Int→σ→Sum σ τ):List Int→Nat→σ→Sum σ τ
 | [],_,s=>.inl s
 | k::r,a,s=>match st a k s with
  | .inl s=>rN st r (a+1) s
  | .inr z=>.inr z
theorem aeC {σ τ:Type}{st:Nat→Int→σ→Sum σ τ}:∀ {l r:List Int}{a:Nat}{s:σ},rN st (l++r) a s=match rN st l a s with
  | .inl s=>rN st r (a+l.length) s
  | .inr z=>.inr z
 | [],r,a,s=>rfl
 | k::l,r,a,s=>by
  rw[List.cons_append,rN,rN]
  cases st a k s with
  | inl s=>simp only[aeC,List.length_cons];rw[show a+(l.length+1)=a+1+l.length by omega]
  | inr z=>rfl
section
variable {σ τ:Type}{hp:σ→ac→ac}{hq:τ→ac→ac}{L l p:Nat}{bks:List Int}{st:Nat→Int→σ→Sum σ τ}{bg:Nat→σ→Prop}
def Rnd (hp:σ→ac→ac) (hq:τ→ac→ac) (L l:Nat) (bks:List Int) (st:Nat→Int→σ→Sum σ τ) (bg:Nat→σ→Prop):Prop :=
 ∀ a k s K o N,bks[a]?=some k→bg a s→L≤K→K<N→
  (∃ s2,st a k s=.inl s2∧bg (a+1) s2∧aP (Dn prog) (.yield l) [.d (.int .i64 (a:Int)),.d (.int .i64 k)] ⟨hp s [(K,o)],N⟩=some (.d (.bool true),⟨hp s2 [(K,o)],N⟩))∨
  (∃ z,st a k s=.inr z∧aP (Dn prog) (.yield l) [.d (.int .i64 (a:Int)),.d (.int .i64 k)] ⟨hp s [(K,o)],N⟩=some (.d (.bool false),⟨hq z [(K,o)],N⟩))
theorem ahL (H:Tl hp L) (H2:Tl hq L) (hY:Rnd hp hq L l bks st bg) (full:List aC) (s0:aC) (hs0:s0.len≤1000) (i K N:Nat) (hK:L≤K) (hKN:K<N):∀ (k j a:Nat) (s:σ),j+k=s0.len.toNat→(∀ q,q<k→bks[a+q]?=some s0.book)→a+k≤100000000→bg a s→
  (∃ s2,rN st (List.replicate k s0.book) a s=.inl s2∧bg (a+k) s2∧(Dn prog).code (.loop eF) ⟨[(0,.yield l),(3,.d (.int .i64 a)),(5,.ptr K 0),(6,.d (.lst (ge full))),(7,.d (.int .i64 full.length)),(8,.d (.int .i64 i)),(13,.d (.int .i64 s0.len)),(14,.d (.int .i64 j))],⟨hp s [(K,.cells [.d (.int .i64 s0.book),.d (.int .i64 s0.len)])],N⟩⟩ =
   some (.exit 2,⟨[(0,.yield l),(3,.d (.int .i64 (a+k:Nat))),(6,.d (.lst (ge full))),(7,.d (.int .i64 full.length)),(8,.d (.int .i64 i))],⟨hp s2 [],N⟩⟩))∨
  (∃ z,rN st (List.replicate k s0.book) a s=.inr z∧(Dn prog).code (.loop eF) ⟨[(0,.yield l),(3,.d (.int .i64 a)),(5,.ptr K 0),(6,.d (.lst (ge full))),(7,.d (.int .i64 full.length)),(8,.d (.int .i64 i)),(13,.d (.int .i64 s0.len)),(14,.d (.int .i64 j))],⟨hp s [(K,.cells [.d (.int .i64 s0.book),.d (.int .i64 s0.len)])],N⟩⟩ =
   some (.ret,⟨[],⟨hq z [],N⟩⟩)):=by
 have hG:=fun s o=>H.get s K o hK
 have hD:=fun s o=>H.del s K o hK
 have hD2:=fun s o=>H2.del s K o hK
 intro k
 induction k with
 | zero =>
  intro j a s h1 h2 h3 hi
  refine .inl ⟨s,rfl,hi,?_⟩
  rw[aa eF.eq_1]
  simp (maxSteps:=300000) (disch:=omega) [↓if_neg,hD]
 | succ k ih =>
  intro j a s h1 h2 h3 hi
  have hb:=h2 0 (by omega)
  rw[Nat.add_zero]at hb
  have c1:((j+1:Nat):Int)=(j:Int)+1:=rfl
  have c2:((a+1:Nat):Int)=(a:Int)+1:=rfl
  rw[List.replicate_succ]
  rcases hY a s0.book s K (.cells [.d (.int .i64 s0.book),.d (.int .i64 s0.len)]) N hb hi hK hKN with ⟨s2,e1,e2,e3⟩ | ⟨z,e1,e3⟩
  ·rw[rN,e1,aa eF.eq_1]
   have e4:a+(k+1)=a+1+k:=by omega
   have h9:=ih (j+1) (a+1) s2 (by omega) (fun q hq=>by rw[show a+1+q=a+(q+1) by omega];exact h2 (q+1) (by omega)) (by omega) e2
   rw[c1,c2]at h9
   rw[e4]
   rcases h9 with ⟨s3,f1,f2,f3⟩ | ⟨z,f1,f3⟩
   ·refine .inl ⟨s3,f1,f2,?_⟩
    rw[←f3]
    simp (maxSteps:=300000) (disch:=omega) [↓if_pos,↓if_neg,hG,-f7,e3]
   ·refine .inr ⟨z,f1,?_⟩
    rw[←f3]
    simp (maxSteps:=300000) (disch:=omega) [↓if_pos,↓if_neg,hG,-f7,e3]
  ·refine .inr ⟨z,by rw[rN,e1],?_⟩
   rw[aa eF.eq_1]
   simp (maxSteps:=300000) (disch:=omega) [↓if_pos,↓if_neg,hG,-f7,e3,hD2]
theorem aig (H:Tl hp L) (H2:Tl hq L) (hY:Rnd hp hq L l bks st bg) (full:List aC) (hfl:full.length≤1000):∀ (r:List aC) (i a N:Nat) (s:σ),full.drop i=r→(∀ q∈r,0≤q.len∧q.len≤1000)→bks.drop a=aq r→a≤1000*i→L≤N→bg a s→
  (∃ s2 M,rN st (aq r) a s=.inl s2∧bg (a+(aq r).length) s2∧N≤M∧(Dn prog).code (.loop dA) ⟨[(0,.yield l),(3,.d (.int .i64 a)),(6,.d (.lst (ge full))),(7,.d (.int .i64 full.length)),(8,.d (.int .i64 i))],⟨hp s [],N⟩⟩ =
   some (.exit 0,⟨[],⟨hp s2 [],M⟩⟩))∨
  (∃ z M,rN st (aq r) a s=.inr z∧N≤M∧(Dn prog).code (.loop dA) ⟨[(0,.yield l),(3,.d (.int .i64 a)),(6,.d (.lst (ge full))),(7,.d (.int .i64 full.length)),(8,.d (.int .i64 i))],⟨hp s [],N⟩⟩ =
   some (.ret,⟨[],⟨hq z [],M⟩⟩)):=by
 intro r
 induction r with
 | nil =>
  intro i a N s hd hr hb ha hL hi
  have hk:=an hd
  refine .inl ⟨s,N,rfl,hi,Nat.le_refl _,?_⟩
  rw[aa dA.eq_1]
  simp (maxSteps:=300000) (disch:=omega) [↓if_neg]
 | cons q r ih =>
  intro i a N s hd hr hb ha hL hi
  have hq:=hr q (.head _)
  have hlt:=ax hd
  have hg:=pG hd
  have eb:aq (q::r)=List.replicate q.len.toNat q.book++aq r:=by rw[aq,List.flatMap_cons];rfl
  rw[eb]at hb
  have hbk:∀ j,j<q.len.toNat→bks[a+j]?=some q.book:=fun j hj=>by
   have:=congrArg (fun l=>l[j]?) hb
   simp only[List.getElem?_drop]at this
   rw[this,List.getElem?_append_left (by simpa using hj)]
   simp[hj]
  have hb2:bks.drop (a+q.len.toNat)=aq r:=by
   have:=congrArg (fun l=>l.drop q.len.toNat) hb
   simp only[List.drop_drop]at this
   rw[this,List.drop_left' (by simp)]
  have hp1:=fun o=>H.put s N o hL
  have hp2:=fun o o'=>H.put2 s N o o' hL
  have hG:=fun o=>H.get s N o hL
  have c1:((i+1:Nat):Int)=(i:Int)+1:=rfl
  have c0:((0:Nat):Int)=0:=rfl
  have h0:=ahL H H2 hY full q hq.2 i N (N+1) hL (by omega) q.len.toNat 0 a s (by omega) hbk (by omega) hi
  rw[c0]at h0
  rw[eb,aeC]
  rcases h0 with ⟨s2,e1,e2,e3⟩ | ⟨z,e1,e3⟩
  ·have h9:=ih (i+1) (a+q.len.toNat) (N+1) s2 (ar hd) (fun x hx=>hr x (.tail _ hx)) hb2 (by omega) (by omega) e2
   rw[c1]at h9
   rw[e1]
   simp only[List.length_append,List.length_replicate]
   rcases h9 with ⟨s3,M,f1,f2,f3,f4⟩ | ⟨z,M,f1,f3,f4⟩
   ·refine .inl ⟨s3,M,f1,by rw[←Nat.add_assoc];exact f2,by omega,?_⟩
    rw[aa dA.eq_1,←f4]
    simp (maxSteps:=300000) (disch:=omega) [↓if_pos,↓if_neg,hg,hp1,hp2,hG,e3]
   ·refine .inr ⟨z,M,f1,by omega,?_⟩
    rw[aa dA.eq_1,←f4]
    simp (maxSteps:=300000) (disch:=omega) [↓if_pos,↓if_neg,hg,hp1,hp2,hG,e3]
  ·rw[e1]
   refine .inr ⟨z,N+1,rfl,by omega,?_⟩
   rw[aa dA.eq_1]
   simp (maxSteps:=300000) (disch:=omega) [↓if_pos,↓if_neg,hg,hp1,hp2,hG,e3]
theorem ag3 (H:Tl hp L) (H2:Tl hq L) (full:List aC) (hY:Rnd hp hq L l (aq full) st bg) (hgp:∀ s,get (hp s []) p=some (.cells [.d (.lst (ge full))])) (hfl:full.length≤1000) (hr:∀ q∈full,0≤q.len∧q.len≤1000) (N:Nat) (s:σ) (hN:L≤N) (hi:bg 0 s) :
  (∃ s2 M,rN st (aq full) 0 s=.inl s2∧bg (aq full).length s2∧N≤M∧(Dn prog).call fh [.yield l,.ptr p 0] ⟨hp s [],N⟩=some (.tup [],⟨hp s2 [],M⟩))∨
  (∃ z M,rN st (aq full) 0 s=.inr z∧N≤M∧(Dn prog).call fh [.yield l,.ptr p 0] ⟨hp s [],N⟩=some (.tup [],⟨hq z [],M⟩)):=by
 have h:=aig H H2 hY full hfl full 0 0 N s rfl hr rfl (by omega) hN hi
 have c0:((0:Nat):Int)=0:=rfl
 rw[c0,Nat.zero_add]at h
 rw[aA U1 rW.eq_1 rfl]
 rcases h with ⟨s2,M,e1,e2,e3,e4⟩ | ⟨z,M,e1,e3,e4⟩
 ·refine .inl ⟨s2,M,e1,e2,e3,?_⟩
  simp (maxSteps:=300000) (disch:=omega) [hgp,e4]
 ·refine .inr ⟨z,M,e1,e3,?_⟩
  simp (maxSteps:=300000) (disch:=omega) [hgp,e4]
end
theorem Nn (x:D) (h:ac) (N:Nat):(Dn prog).call oZ [.d x] ⟨h,N⟩=some (.fn fh [] [.ptr N 0],⟨put h N (.cells [.d x]),N+1⟩):=by
 rw[aA abv xg.eq_1 rfl]
 simp (maxSteps:=300000) (disch:=omega)
end Go.Vm
namespace Go.Vm
set_option maxHeartbeats 2000000
set_option maxRecDepth 100000
def cT (t:List (List Int)):List (List D):=t.map fun l=>[.lst (aI l)]
@[simp] theorem aiY {t:List (List Int)}:(cT t).length=t.length:=by simp[cT]
theorem vZ {g:List (List Int)}{i:Nat}{l:List Int}{r:List (List Int)}(h:g.drop i=l::r):(cT g)[i]?=some [.lst (aI l)]:=by
 have:=congrArg (fun l=>l[0]?) h
 simp only[List.getElem?_drop,List.getElem?_cons_zero,Nat.add_zero]at this
 rw[cT,List.getElem?_map,this];rfl
theorem qp {l:List Int}{i:Nat}{k:Int}{r:List Int}(h:l.drop i=k::r):(aI l)[i]?=some [.int .i64 k]:=by
 have:=congrArg (fun l=>l[0]?) h
 simp only[List.getElem?_drop,List.getElem?_cons_zero,Nat.add_zero]at this
 rw[aI,List.getElem?_map,this];rfl
def b9:List Int→List Int→Int→Int→Option (Int×Int)
 | [],[],w,z=>some (w,z)
 | k::r,n::t,w,z=>if k=0 then (if n=0 then b9 r t w z else none) else if mb k n w z then (if k=13 then b9 r t w n else b9 r t n z) else none
 | _,_,_,_=>none
def mh:List (List aC)→List (List Int)→Int→Int→Option (Int×Int)
 | [],[],w,z=>some (w,z)
 | l::r,t::s,w,z=>match b9 (aq l) t w z with
  | some (w,z)=>mh r s w z
  | none=>none
 | _,_,_,_=>none
abbrev tN (gain:Int) (g:List (List aC)) (t:List (List Int)):Prop:=mh g t gain (-1)≠none
theorem Cr:∀ {g:List (List aC)}{t:List (List Int)}{w z:Int},mh g t w z≠none→g.length=t.length
 | [],[],_,_,_=>rfl
 | [],_::_,_,_,h=>absurd rfl h
 | _::_,[],_,_,h=>absurd rfl h
 | l::r,t::s,w,z,h=>by
  rw[mh]at h
  split at h
  ·simp only[List.length_cons,Cr h]
  ·exact absurd rfl h
abbrev li (w:Int):Prop:=-1≤w∧w≤511
theorem vS {k n w z:Int}(h:mb k n w z):li n:=by
 unfold mb at h;split at h<;>omega
def iG (k n w z:Int):Int×Int:=if k=0 then (w,z) else if k=13 then (w,n) else (n,z)
theorem Cj {k n:Int}{r t:List Int}{w z:Int}(h:b9 (k::r) (n::t) w z≠none):(k=0→n=0)∧(k≠0→mb k n w z)∧b9 (k::r) (n::t) w z=b9 r t (iG k n w z).1 (iG k n w z).2:=by
 rw[b9]at h
 by_cases h0:k=0
 ·rw[if_pos h0]at h
  by_cases h1:n=0
  ·exact⟨fun _=>h1,fun h=>absurd h0 h,by rw[b9,if_pos h0,if_pos h1,iG,if_pos h0]⟩
  ·rw[if_neg h1]at h;exact absurd rfl h
 ·rw[if_neg h0]at h
  by_cases h1:mb k n w z
  ·refine⟨fun h=>absurd h h0,fun _=>h1,?_⟩
   rw[b9,if_neg h0,if_pos h1,iG,if_neg h0]
   split<;>rfl
  ·rw[if_neg h1]at h;exact absurd rfl h
theorem ZI {bks t:List Int}{a:Nat}{k:Int}{w z:Int}(hk:bks[a]?=some k) (h:b9 (bks.drop a) (t.drop a) w z≠none):∃ n,t.drop a=n::t.drop (a+1)∧(k=0→n=0)∧(k≠0→mb k n w z)∧b9 (bks.drop a) (t.drop a) w z=b9 (bks.drop (a+1)) (t.drop (a+1)) (iG k n w z).1 (iG k n w z).2:=by
 obtain⟨hlt,e⟩:=List.getElem?_eq_some_iff.1 hk
 have h1:=List.drop_eq_getElem_cons hlt
 rw[e]at h1
 rw[h1]at h⊢
 cases h2:t.drop a with
 | nil=>rw[h2]at h;exact absurd rfl h
 | cons n r =>
  have h3:t.drop (a+1)=r:=ar h2
  rw[h2]at h
  rw[h3]
  obtain⟨a1,a2,a3⟩:=Cj h
  exact⟨n,rfl,a1,a2,a3⟩
abbrev hpK (ss:List (List Int)) (g N:Nat) (l:List aC) (e:ak) (s:Nat×Int×Int) (T:ac):ac :=
 (0,.cells [.d (.lst (cT ss))])::(1,.cells [.d (.int .i64 0)])::(2,.cells [.d (.int .i64 s.2.1),.d (.int .i64 s.2.2)])::(3,.cells [.ptr 2 0])::(N,.cells [.d (.int .i64 g)])::(N+1,.cells [.d (.int .i64 s.1)])::(N+1+1,.cells [.d (.lst (ge l))])::(N+1+1+1,.loop e [36,37] et eu false none)::T
abbrev ahS (gs:List (List aC)) (g N:Nat):ak:=[(5,.ptr 0 0),(6,.ptr 1 0),(7,.ptr 3 0),(8,.ptr N 0),(10,.ptr (N+1) 0),(27,.d (.lst (bW gs))),(28,.d (.int .i64 gs.length)),(29,.d (.int .i64 g)),(35,.fn fh [] [.ptr (N+1+1) 0])]
theorem aup {ss:List (List Int)}{g N:Nat}{l:List aC}{e:ak}(hN:4≤N):Tl (hpK ss g N l e) (N+1+1+1+1):=by
 constructor
 ·intro s K o h
  simp (maxSteps:=300000) (disch:=omega) [↓if_neg]
 ·intro s K o o' h
  simp (maxSteps:=300000) (disch:=omega) [↓if_neg]
 ·intro s K o h
  simp (maxSteps:=300000) (disch:=omega) [↓if_neg]
 ·intro s K o h
  simp (maxSteps:=300000) (disch:=omega) [↓if_neg]
def noH (z:Empty) (_:ac):ac:=nomatch z
theorem aii {L:Nat}:Tl noH L:=by constructor<;>(intro z;exact nomatch z)
structure LK (F:Obj→Int→Int→Int→ac) (ss:List (List Int)) (g:Int) (L N:Nat):Prop where
 gl:∀ q m w z,get (F q m w z) L=some q
 pl:∀ q m w z q',put (F q m w z) L q'=F q' m w z
 g0:∀ q m w z,get (F q m w z) 0=some (.cells [.d (.lst (cT ss))])
 g2:∀ q m w z,get (F q m w z) 2=some (.cells [.d (.int .i64 w),.d (.int .i64 z)])
 p2:∀ q m w z w' z',put (F q m w z) 2 (.cells [.d (.int .i64 w'),.d (.int .i64 z')])=F q m w' z'
 g3:∀ q m w z,get (F q m w z) 3=some (.cells [.ptr 2 0])
 gN:∀ q m w z,get (F q m w z) N=some (.cells [.d (.int .i64 g)])
 gM:∀ q m w z,get (F q m w z) (N+1)=some (.cells [.d (.int .i64 m)])
 pM:∀ q m w z m',put (F q m w z) (N+1) (.cells [.d (.int .i64 m')])=F q m' w z
theorem ase {F:Obj→Int→Int→Int→ac}{L:Nat}(ss:List (List Int)) (hss:ss.length≤1000) (gs:List (List aC)) (hgs:gs.length≤1000) (g N:Nat) (H:LK F ss g L N) (t:List Int) (ht:t.length≤100000) (hg:(cT ss)[g]?=some [.lst (aI t)]) (a:Nat) (k:Int) (w z:Int) (M:Nat) (n:Int) (r:List Int) (hd:t.drop a=n::r) (h0:k=0→n=0) (h1:k≠0→mb k n w z) (hk:0≤k∧k≤13) (hw:li w) (hz:li z) :
  aP (Dn prog) (.yield L) [.d (.int .i64 (a:Int)),.d (.int .i64 k)] ⟨F (.loop (ahS gs g N) [36,37] et eu false none) a w z,M⟩=some (.d (.bool true),⟨F (.loop (ahS gs g N) [36,37] et eu false none) (a+1) (iG k n w z).1 (iG k n w z).2,M⟩):=by
 have ha:=ax hd
 have hn:=qp hd
 have gl:g<ss.length:=by
  obtain⟨h,_⟩:=List.getElem?_eq_some_iff.1 hg
  simpa using h
 have T:=fun q m=>SQ (hp:=fun w z=>F q m w z) (A:=2) ⟨fun s z=>H.g2 q m s z,fun s z s' z'=>H.p2 q m s z s' z'⟩ k n w z M
 by_cases k0:k=0
 ·have:=h0 k0
  subst k0 this
  simp (maxSteps:=300000) (disch:=omega) [et,eu,↓if_pos,↓if_neg,hg,hn,bq,H.gl,H.pl,H.g0,H.g2,H.p2,H.g3,H.gN,H.gM,H.pM,iG]
 ·have hT:=h1 k0
  have hn5:=vS hT
  have T:=fun q m=>T q m (by omega) (by omega) (by omega)
  simp only[if_pos hT]at T
  have e:(iG k n w z)=if k=13 then (w,n) else (n,z):=by rw[iG,if_neg k0]
  by_cases k13:k=13
  ·rw[e,if_pos k13]
   simp only[if_pos k13]at T
   simp (maxSteps:=300000) (disch:=omega) [et,eu,↓if_pos,↓if_neg,hg,hn,bq,H.gl,H.pl,H.g0,H.g2,H.g3,H.gN,H.gM,H.pM,T]
  ·rw[e,if_neg k13]
   simp only[if_neg k13]at T
   simp (maxSteps:=300000) (disch:=omega) [et,eu,↓if_pos,↓if_neg,hg,hn,bq,H.gl,H.pl,H.g0,H.g2,H.g3,H.gN,H.gM,H.pM,T]
abbrev FK (ss:List (List Int)) (g N:Nat) (l:List aC) (T:ac) (q:Obj) (m w z:Int):ac :=
 (0,.cells [.d (.lst (cT ss))])::(1,.cells [.d (.int .i64 0)])::(2,.cells [.d (.int .i64 w),.d (.int .i64 z)])::(3,.cells [.ptr 2 0])::(N,.cells [.d (.int .i64 g)])::(N+1,.cells [.d (.int .i64 m)])::(N+1+1,.cells [.d (.lst (ge l))])::(N+1+1+1,q)::T
theorem arJ {ss:List (List Int)}{g N:Nat}{l:List aC}{T:ac}(hN:4≤N):LK (FK ss g N l T) ss g (N+1+1+1) N:=by
 obtain⟨n0,n1,n2,n3⟩:N≠0∧N≠1∧N≠2∧N≠3:=by omega
 constructor<;>intro q m w z<;>(try intro q')<;>(try intro q'')<;>simp (maxSteps:=300000) (disch:=omega) [↓if_neg,n0,n1,n2,n3]
theorem art (ss:List (List Int)) (hss:ss.length≤1000) (gs:List (List aC)) (hgs:gs.length≤1000) (g N:Nat) (hN:4≤N) (t:List Int) (ht:t.length≤100000) (hg:(cT ss)[g]?=some [.lst (aI t)]) (l:List aC) (hl:∀ k∈aq l,0≤k∧k≤13) (fin:Int×Int) :
  Rnd (hpK ss g N l (ahS gs g N)) noH (N+1+1+1+1) (N+1+1+1) (aq l) (fun a k s=>.inl (a+1,iG k (nth t a) s.2.1 s.2.2)) (fun a s=>s.1=a∧li s.2.1∧li s.2.2∧b9 ((aq l).drop a) (t.drop a) s.2.1 s.2.2=some fin):=by
 intro a k s K o M hk hi hK hM
 obtain⟨i1,i2,i3,i4⟩:=hi
 obtain⟨n,d1,d2,d3,d4⟩:=ZI hk (by rw[i4];simp)
 have hn:nth t a=n:=by
  have h1:=ax d1
  have h2:=my (l:=t) h1
  rw[d1]at h2;injection h2 with h2;exact h2.symm
 have hkm:=hl k (by obtain⟨h,e⟩:=List.getElem?_eq_some_iff.1 hk;rw[←e];exact List.getElem_mem h)
 rw[i4]at d4
 have hgo:li (iG k n s.2.1 s.2.2).1∧li (iG k n s.2.1 s.2.2).2:=by
  unfold iG
  by_cases h0:k=0
  ·rw[if_pos h0];exact⟨i2,i3⟩
  ·rw[if_neg h0]
   have:=vS (d3 h0)
   by_cases h13:k=13
   ·rw[if_pos h13];exact⟨i2,this⟩
   ·rw[if_neg h13];exact⟨this,i3⟩
 refine .inl ⟨(a+1,iG k n s.2.1 s.2.2),by simp only[hn],⟨rfl,hgo.1,hgo.2,d4.symm⟩,?_⟩
 obtain⟨m,w,z⟩:=s
 simp only at i1 i2 i3
 subst i1
 have:=ase ss hss gs hgs g N (arJ (ss:=ss) (g:=g) (l:=l) (T:=[(K,o)]) hN) t ht hg m k w z M n _ d1 d2 d3 hkm i2 i3
 exact this
theorem Qr {l:List aC}{lf:Int}(h:fitsS lf l):∀ k∈aq l,0≤k∧k≤13:=by
 induction l generalizing lf with
 | nil=>intro k hk;simp[aq]at hk
 | cons s r ih =>
  intro k hk
  obtain⟨h1,h2⟩:=h
  rw[aq,List.flatMap_cons,List.mem_append]at hk
  rcases hk with hk | hk
  ·have:=List.eq_of_mem_replicate hk
   have:=h1.2
   omega
  ·exact ih h2 k hk
abbrev aqZ (ss:List (List Int)) (w z:Int):ac:=[(0,.cells [.d (.lst (cT ss))]),(1,.cells [.d (.int .i64 0)]),(2,.cells [.d (.int .i64 w),.d (.int .i64 z)]),(3,.cells [.ptr 2 0])]
theorem ad4 {t:List Int}{a:Nat}{w z:Int}{fin:Int×Int}(h:b9 [] (t.drop a) w z=some fin):(w,z)=fin∧t.length≤a:=by
 cases h1:t.drop a with
 | nil=>rw[h1,b9]at h;injection h with h;exact⟨h,an h1⟩
 | cons n r=>rw[h1]at h;exact absurd h (by simp[b9])
theorem PU:∀ {bks t:List Int}{w z:Int}{fin:Int×Int},b9 bks t w z=some fin→bks.length=t.length
 | [],[],_,_,_,_=>rfl
 | [],_::_,_,_,_,h=>absurd h (by simp[b9])
 | _::_,[],_,_,_,h=>absurd h (by simp[b9])
 | k::r,n::t,w,z,fin,h=>by
  have h1:=Cj (by rw[h];simp)
  rw[h]at h1
  have:=PU h1.2.2.symm
  simp only[List.length_cons,this]
theorem V9 (ss:List (List Int)) (hss:ss.length≤1000) (hss2:∀ t∈ss,t.length≤100000) (gs:List (List aC)) (hgs:gs.length≤1000) (m:Int) (hm:m≤1000):∀ (gr:List (List aC)) (sr:List (List Int)) (i N:Nat) (w z:Int),gs.drop i=gr→ss.drop i=sr→cQ m gr→(∀ l∈gr,l.length≤1000)→li w→li z→mh gr sr w z≠none→4≤N→
  ∃ M w' z',(Dn prog).code (.loop kL) ⟨[(5,.ptr 0 0),(6,.ptr 1 0),(7,.ptr 3 0),(27,.d (.lst (bW gs))),(28,.d (.int .i64 gs.length)),(29,.d (.int .i64 i))],⟨aqZ ss w z,N⟩⟩ =
  some (.exit 0,⟨[(6,.ptr 1 0)],⟨[(1,.cells [.d (.int .i64 0)]),(2,.cells [.d (.int .i64 w'),.d (.int .i64 z')])],M⟩⟩):=by
 intro gr
 induction gr with
 | nil =>
  intro sr i N w z hd hd2 hf hl hw hz hr hN
  have hi:=an hd
  refine⟨N,w,z,?_⟩
  rw[aa kL.eq_1]
  simp (maxSteps:=300000) (disch:=omega) [↓if_pos,↓if_neg]
 | cons l r ih =>
  intro sr i N w z hd hd2 hf hl hw hz hr hN
  have hg:=iI hd
  have hlt:=ax hd
  have hfl:=hf l (.head _)
  have hll:=hl l (.head _)
  cases sr with
  | nil=>exact absurd rfl hr
  | cons t s =>
   have hgt:=vZ hd2
   have htl:=hss2 t (by rw[←List.take_append_drop i ss,hd2];simp)
   have hlt2:=ax hd2
   rw[mh]at hr
   cases hrow:b9 (aq l) t w z with
   | none=>rw[hrow]at hr;exact absurd rfl hr
   | some fin =>
    rw[hrow]at hr
    have hlen:=PU hrow
    have hb:=ag3 (p:=N+1+1) (aup (ss:=ss) (g:=i) (l:=l) (e:=ahS gs i N) hN) aii l (art ss hss gs hgs i N hN t htl hgt l (Qr hfl) fin) (fun s=>by simp (maxSteps:=300000) (disch:=omega) [↓if_neg]) hll (fun q hq=>by have:=(sc hfl hm q hq).1;omega) (N+1+1+1+1) (0,w,z) (Nat.le_refl _) ⟨rfl,hw,hz,by simpa using hrow⟩
    rcases hb with ⟨⟨m2,w2,z2⟩,M,e1,⟨e2,e3,e4,e5⟩,e6,e7⟩ | ⟨z,_⟩
    ·rw[List.drop_eq_nil_of_le (Nat.le_refl _)]at e5
     obtain⟨e8,e9⟩:=ad4 e5
     simp only at e2 e3 e4 e8
     subst e8
     obtain⟨M2,w3,z3,f⟩:=ih s (i+1) M w2 z2 (ar hd) (ar hd2) (fun q hq=>hf q (.tail _ hq)) (fun q hq=>hl q (.tail _ hq)) e3 e4 hr (by omega)
     refine⟨M2,w3,z3,?_⟩
     have c1:((i+1:Nat):Int)=(i:Int)+1:=rfl
     have c0:((0:Nat):Int)=0:=rfl
     rw[c1]at f
     simp only[hpK,c0]at e7
     obtain⟨n0,n1,n2,n3⟩:N≠0∧N≠1∧N≠2∧N≠3:=by omega
     have e10:m2=t.length:=by omega
     rw[e10]at e7
     rw[aa kL.eq_1,←f]
     simp (maxSteps:=300000) (disch:=omega) [↓if_pos,↓if_neg,hg,hgt,bq,Nn,n0,n1,n2,n3,rd,e7]
    ·exact nomatch z
theorem afs (gain m:Int) (g:List (List aC)) (t:List (List Int)) (hgn:0≤gain∧gain≤255) (hl:g.length≤8) (hm:0≤m∧m≤40) (hf:cQ m g) (hf2:∀ l∈g,l.length≤1000) (ht:tN gain g t) (ht2:∀ l∈t,l.length≤100000) :
  aL prog xj [.d (.int .i64 gain),.d (.lst (bW g)),.d (.lst (cT t))]=some (.d (.int .i64 0)):=by
 have h1:=ai1 gain m g hgn hl hm fun l h=>⟨hf l h,hf2 l h⟩
 have hlen:=Cr ht
 obtain⟨M,w,z,e⟩:=V9 t (by omega) ht2 g (by omega) m (by omega) g t 0 4 gain (-1) rfl rfl hf hf2 (by omega) (by omega) ht (Nat.le_refl _)
 have c0:((0:Nat):Int)=0:=rfl
 rw[c0]at e
 simp only[aqZ]at e
 rw[am aaG wI.eq_1 rfl]
 simp (maxSteps:=300000) (disch:=omega) [↓if_pos,↓if_neg,h1,e]
end Go.Vm
namespace Go.Vm
set_option maxHeartbeats 2000000
set_option maxRecDepth 100000
def rl (xs:List (List Nat)):List (List D):=xs.map fun l=>[.lst (ah l)]
@[simp] theorem asL {t:List (List Nat)}:(rl t).length=t.length:=by simp[rl]
theorem Ix {g:List (List Nat)}{i:Nat}{l:List Nat}{r:List (List Nat)}(h:g.drop i=l::r):(rl g)[i]?=some [.lst (ah l)]:=by
 have:=congrArg (fun l=>l[0]?) h
 simp only[List.getElem?_drop,List.getElem?_cons_zero,Nat.add_zero]at this
 rw[rl,List.getElem?_map,this];rfl
theorem bD {l:List Nat}:(ah l).length=l.length:=by simp[ah]
theorem akk (xs:List (List Nat)) (hx:xs.length≤1000) (h:ac) (N:Nat):∀ (r:List (List Nat)) (i:Nat) (n:Nat),xs.drop i=r→n+r.flatten.length≤1000000000→
  (Dn prog).code (.loop fB) ⟨[(0,.d (.lst (rl xs))),(3,.d (.int .i64 n)),(9,.d (.lst (rl xs))),(10,.d (.int .i64 xs.length)),(11,.d (.int .i64 i))],⟨h,N⟩⟩ =
  some (.exit 0,⟨[(0,.d (.lst (rl xs))),(3,.d (.int .i64 (n+r.flatten.length:Nat)))],⟨h,N⟩⟩):=by
 intro r
 induction r with
 | nil =>
  intro i n hd hn
  have hi:=an hd
  rw[aa fB.eq_1]
  simp (maxSteps:=300000) (disch:=omega) [↓if_neg]
 | cons l r ih =>
  intro i n hd hn
  have hg:=Ix hd
  have hlt:=ax hd
  simp only[List.flatten_cons,List.length_append]at hn⊢
  have h5:=ih (i+1) (n+l.length) (ar hd) (by omega)
  have c1:((i+1:Nat):Int)=(i:Int)+1:=rfl
  have c2:((n+l.length:Nat):Int)=(n:Int)+l.length:=rfl
  rw[c1,c2,Nat.add_assoc]at h5
  rw[aa fB.eq_1,←h5]
  simp (maxSteps:=300000) (disch:=omega) [↓if_pos,↓if_neg,hg,bD]
theorem ajs (xs:List (List Nat)) (hx:xs.length≤1000) (h:ac) (N:Nat):∀ (r:List (List Nat)) (i:Nat) (acc:List Nat),xs.drop i=r→acc.length+r.flatten.length≤1000000000→
  (Dn prog).code (.loop dC) ⟨[(6,.own false 1 (ah acc)),(25,.d (.lst (rl xs))),(26,.d (.int .i64 xs.length)),(27,.d (.int .i64 i))],⟨h,N⟩⟩ =
  some (.exit 2,⟨[(6,.own false 1 (ah (acc++r.flatten)))],⟨h,N⟩⟩):=by
 intro r
 induction r with
 | nil =>
  intro i acc hd hn
  have hi:=an hd
  rw[aa dC.eq_1]
  simp (maxSteps:=300000) (disch:=omega) [↓if_neg]
 | cons l r ih =>
  intro i acc hd hn
  have hg:=Ix hd
  have hlt:=ax hd
  simp only[List.flatten_cons,List.length_append]at hn⊢
  have h5:=ih (i+1) (acc++l) (ar hd) (by simp only[List.length_append];omega)
  have c1:((i+1:Nat):Int)=(i:Int)+1:=rfl
  rw[c1,List.append_assoc]at h5
  rw[aa dC.eq_1,←h5]
  simp (maxSteps:=300000) (disch:=omega) [↓if_pos,↓if_neg,hg,bD]
theorem ao0 (n:Nat) (hn:0<n∧n≤1000000000):(Dn prog).call lO [.nl,.d (.int .i64 n)] ⟨[],0⟩=some (.sl 0 0 0,⟨[(0,.arr 1 (List.replicate n [.int .u8 0]))],1⟩):=by
 have e1:bz (.d (.int .i64 n)) aF=some n:=by rw[yf (by omega) (by simp only[aF];omega)];simp
 have e2:xX [.int .u8 0] [] .nl (.d (.int .i64 n))=some (.own true 1 (List.replicate n [.int .u8 0]),[]):=by
  unfold xX
  rw[e1]
  obtain⟨m,rfl⟩:∃ m,n=m+1:=⟨n-1,by omega⟩
  simp (maxSteps:=300000) (disch:=omega) [List.replicate_succ,↓if_pos]
 have e0:bz (.d (.int .i64 0)) n=some 0:=yf (by omega) (by omega)
 have e3:n6 [] 1 .nl none (some (.int .i64 0)) none=some .nl:=rfl
 have e4:n6 [(0,.arr 1 (List.replicate n [D.int .u8 0]))] 1 (.sl 0 0 n) none (some (.int .i64 0)) none=some (.sl 0 0 0):=by
  simp[n6,okSl,nq,lenOf,vY,e0,lY]
 rw[aA Ho lS.eq_1 rfl]
 simp (maxSteps:=300000) (disch:=omega) [↓if_pos,↓if_neg,Xj,e2,e3,e4]
theorem aem (xs:List (List Nat)) (hx:xs.length≤1000) (hn:0<xs.flatten.length∧xs.flatten.length≤1000000000):aL prog eE [.d (.lst (rl xs))]=some (.own true 1 (ah xs.flatten)):=by
 have h0:=akk xs hx [] 0 xs 0 0 rfl (by omega)
 have h2:=ao0 xs.flatten.length hn
 have c0:((0:Nat):Int)=0:=rfl
 rw[Nat.zero_add,c0]at h0
 have hne:xs≠[]:=by intro h;subst h;simp at hn
 obtain⟨l,r,e⟩:=List.exists_cons_of_ne_nil hne
 have h1:=ajs xs hx [] 1 r 1 l (by rw[e];rfl) (by rw[e]at hn;simpa using hn.2)
 have hg:=Ix (g:=xs) (i:=0) (l:=l) (r:=r) (by rw[e];rfl)
 have hlt:0<xs.length:=List.length_pos_iff.2 hne
 have e5:l++r.flatten=xs.flatten:=by rw[e];rfl
 rw[e5]at h1
 have hll:l.length≤1000000000:=by rw[←e5,List.length_append]at hn;omega
 clear e5 e
 generalize xs.flatten=F at *
 have c1:((1:Nat):Int)=1:=rfl
 rw[c1]at h1
 rw[am EJ j6.eq_1 rfl]
 simp (maxSteps:=300000) (disch:=omega) [↓if_pos,↓if_neg,h0,h2]
 rw[aa dC.eq_1]
 simp (maxSteps:=300000) (disch:=omega) [↓if_pos,↓if_neg,hg,bD,h1]
def bp (n:Nat):Nat:=if n=0 then 0 else n.log2+1
theorem Wk {n:Nat}:n<2 ^ bp n:=by
 unfold bp
 by_cases h:n=0
 ·subst h;decide
 ·rw[if_neg h];exact(Nat.log2_lt h).1 (Nat.lt_succ_self _)
theorem uM {n:Nat}(h:n≠0):2 ^ (bp n-1)≤n:=by
 unfold bp
 rw[if_neg h,Nat.add_sub_cancel]
 exact(Nat.le_log2 h).1 (Nat.le_refl _)
theorem ai3 {n k:Nat}(h1:2 ^ k≤n) (h2:n<2 ^ (k+1)):bp n=k+1:=by
 have h0:n≠0:=by have:=Nat.two_pow_pos k;omega
 unfold bp
 rw[if_neg h0]
 have a:=(Nat.le_log2 h0).2 h1
 have b:=(Nat.log2_lt h0).2 h2
 omega
theorem alm {n:Nat}(h:256≤n):bp n=8+bp (n / 256):=by
 have h0:n / 256≠0:=by omega
 obtain⟨k,hk⟩:∃ k,bp (n / 256)=k+1:=⟨bp (n / 256)-1,by unfold bp;rw[if_neg h0];omega⟩
 have a:=Wk (n:=n / 256)
 have b:=uM h0
 rw[hk]at a b⊢
 rw[Nat.add_sub_cancel]at b
 rw[ai3 (k:=k+8)]
 ·omega
 ·rw[Nat.pow_add];omega
 ·rw[show k+8+1=k+1+8 by omega,Nat.pow_add];omega
def Wj:List UInt8:=[0,1,2,2,3,3,3,3,4,4,4,4,4,4,4,4,5,5,5,5,5,5,5,5,5,5,5,5,5,5,5,5,6,6,6,6,6,6,6,6,6,6,6,6,6,6,6,6,6,6,6,6,6,6,6,6,6,6,6,6,6,6,6,6,7,7,7,7,7,7,7,7,7,7,7,7,7,7,7,7,7,7,7,7,7,7,7,7,7,7,7,7,7,7,7,7,7,7,7,7,7,7,7,7,7,7,7,7,7,7,7,7,7,7,7,7,7,7,7,7,7,7,7,7,7,7,7,7,8,8,8,8,8,8,8,8,8,8,8,8,8,8,8,8,8,8,8,8,8,8,8,8,8,8,8,8,8,8,8,8,8,8,8,8,8,8,8,8,8,8,8,8,8,8,8,8,8,8,8,8,8,8,8,8,8,8,8,8,8,8,8,8,8,8,8,8,8,8,8,8,8,8,8,8,8,8,8,8,8,8,8,8,8,8,8,8,8,8,8,8,8,8,8,8,8,8,8,8,8,8,8,8,8,8,8,8,8,8,8,8,8,8,8,8,8,8,8,8,8,8,8,8,8,8,8,8]
theorem alC:∀ n,n<256→(Wj[n]?).map UInt8.toNat=some (bp n):=by decide +kernel
theorem agN {n:Nat}(h:n<256):aia (.d (.str Wj)) (.d (.int .u8 n))=some (.int .u8 (bp n)):=by
 have:=alC n h
 show (match Wj[n]? with | some b=>some (D.int .u8 (.ofNat b.toNat)) | none=>none)=_
 cases hx:Wj[n]? with
 | none=>rw[hx]at this;exact absurd this (by simp)
 | some b =>
  rw[hx]at this
  injection this with this
  show some (D.int .u8 ((b.toNat:Nat):Int))=_
  rw[this]
theorem atI {n:Nat}:fy .shr (.d (.int .u64 (n:Int))) (.d (.int .u64 8))=some (.int .u64 ((n / 256:Nat):Int)):=by
 rw[gg (by omega)]
 have:min ((8:Int)).toNat IntKind.u64.bits=8:=rfl
 rw[this,Int.fdiv_eq_ediv_of_nonneg _ (Int.natCast_nonneg _),←Int.natCast_ediv]
theorem aey (n:Nat) (hn:n<65536):aL prog lX [.d (.int .u64 n)]=some (.d (.int .i64 (bp n))):=by
 have h64:aL prog od [.d (.int .u64 n)]=some (.d (.int .i64 (bp n))):=by
  rw[am Lr og.eq_1 rfl]
  by_cases h:256≤n
  ·have h2:=agN (n:=n / 256) (by omega)
   have h3:=alm h
   have h4:bp (n / 256)≤8:=by
    have a:=uM (n:=n / 256) (by omega)
    rcases Nat.lt_or_ge 8 (bp (n / 256)) with h | h
    ·have:2 ^ 8≤2 ^ (bp (n / 256)-1):=Nat.pow_le_pow_right (by omega) (by omega)
     omega
    ·exact h
   have c1:((n / 256:Nat):Int)=(n:Int) / 256:=by omega
   rw[Wj,c1]at h2
   rw[h3]
   simp (maxSteps:=300000) (disch:=omega) [↓if_pos,↓if_neg,-gg,atI,h2]
  ·have h2:=agN (n:=n) (by omega)
   have h4:bp n≤8:=by
    by_cases h0:n=0
    ·subst h0;decide
    ·have a:=uM (n:=n) h0
     rcases Nat.lt_or_ge 8 (bp n) with h | h
     ·have:2 ^ 8≤2 ^ (bp n-1):=Nat.pow_le_pow_right (by omega) (by omega)
      omega
     ·exact h
   rw[Wj]at h2
   simp (maxSteps:=300000) (disch:=omega) [↓if_pos,↓if_neg,-gg,h2]
 rw[am Uc qU.eq_1 rfl]
 simp (maxSteps:=300000) (disch:=omega) [↓if_pos,↓if_neg,h64,ah9]
end Go.Vm
namespace Go.Vm
set_option maxHeartbeats 2000000
set_option maxRecDepth 100000
def nY (low:Int) (w:Nat):List Int→Nat→Nat
 | [],n=>n
 | v::r,n=>nY low w r (n*w+(v-low).toNat)
abbrev aes (id:Nat) (vs:List Int):Prop:=vs.length=dR id∧∀ v∈vs,bO id≤v∧v<bO id+bb id
theorem DY {low:Int}{w:Nat}:∀ {r:List Int}{n j:Nat},(∀ v∈r,low≤v∧v<low+w)→n<w ^ j→nY low w r n<w ^ (j+r.length)
 | [],n,j,_,h=>h
 | v::r,n,j,hr,h=>by
  have h1:=hr v (.head _)
  have h2:n*w+(v-low).toNat<w ^ (j+1):=by
   rw[Nat.pow_succ]
   have:(n+1)*w≤w ^ j*w:=Nat.mul_le_mul_right _ h
   rw[Nat.add_mul]at this
   omega
  have:=DY (r:=r) (fun q hq=>hr q (.tail _ hq)) h2
  rw[nY,List.length_cons,show j+(r.length+1)=j+1+r.length by omega]
  exact this
theorem aaT (id:Nat) (hid:kB id) (vs:List Int) (hl:vs.length=dR id) (N:Nat):∀ (r:List Int) (i n:Nat),vs.drop i=r→(∀ v∈r,bO id≤v∧v<bO id+bb id)→n<bb id ^ i→
  (Dn prog).code (.loop mg) ⟨[(6,.ptr 0 0),(8,.d (.int .i64 n)),(26,.d (.lst (aI vs))),(27,.d (.int .i64 vs.length)),(28,.d (.int .i64 i))],⟨[(0,.cells [.d (.int .i64 (dR id)),.d (.int .i64 (bO id)),.d (.int .i64 (bO id+bb id-1)),.d (.int .i64 (bC id))])],N⟩⟩ =
  some (.exit 1,⟨[(8,.d (.int .i64 (nY (bO id) (bb id) r n)))],⟨[],N⟩⟩):=by
 obtain⟨k1,k2,k3,k4,k5,k6,k7⟩:=yz id (jE hid)
 have hmany:az id=bb id ^ dR id:=rfl
 intro r
 induction r with
 | nil =>
  intro i n hd hr hn
  have hi:=an hd
  rw[aa mg.eq_1,nY]
  simp (maxSteps:=300000) (disch:=omega) [↓if_neg]
 | cons v r ih =>
  intro i n hd hr hn
  have hv:=hr v (.head _)
  have hg:=qp hd
  have hlt:=ax hd
  have hw:=aiS (dR id) (bO id) (bC id) (bb id) (by omega) (by omega)
  have h2:n*bb id+(v-bO id).toNat<bb id ^ (i+1):=by
   rw[Nat.pow_succ]
   have:(n+1)*bb id≤bb id ^ i*bb id:=Nat.mul_le_mul_right _ hn
   rw[Nat.add_mul]at this
   omega
  have h3:bb id ^ (i+1)≤bb id ^ dR id:=Nat.pow_le_pow_right (by omega) (by omega)
  have h5:=ih (i+1) (n*bb id+(v-bO id).toNat) (ar hd) (fun q hq=>hr q (.tail _ hq)) h2
  have c1:((i+1:Nat):Int)=(i:Int)+1:=rfl
  have h4:n*bb id≤300:=by omega
  have c2:((n*bb id+(v-bO id).toNat:Nat):Int)=(n:Int)*bb id+v-bO id:=by
   have:(((v-bO id).toNat:Nat):Int)=v-bO id:=by omega
   rw[Int.natCast_add,Int.natCast_mul,this];omega
  have h6:0≤(n:Int)*bb id∧(n:Int)*bb id≤300:=by
   have:(n:Int)*bb id=((n*bb id:Nat):Int):=by rw[Int.natCast_mul]
   omega
  rw[c1,c2]at h5
  rw[aa mg.eq_1,nY,←h5]
  simp (maxSteps:=300000) (disch:=omega) [↓if_pos,↓if_neg,hg,hw]
theorem RF (id:Nat) (hid:kB id) (vs:List Int) (hv:aes id vs):aL prog mC [.d (.int .i64 id),.d (.lst (aI vs))]=some (.tup [.d (.int .i64 (nY (bO id) (bb id) vs 0)),.d (.int .i64 0)]):=by
 have ho:=Qw id (jE hid)
 have h:=aaT id hid vs hv.1 1 vs 0 0 rfl hv.2 (by rw[Nat.pow_zero];omega)
 have c0:((0:Nat):Int)=0:=rfl
 have hl:=hv.1
 obtain⟨k1,k2,k3,k4,k5,k6,k7⟩:=yz id (jE hid)
 simp only[kdV]at ho
 rw[c0]at h
 rw[am ae5 Bo.eq_1 rfl]
 simp (maxSteps:=300000) (disch:=omega) [↓if_pos,↓if_neg,ho,h]
theorem Qf:∀ id∈ids,(cu id).all (fun e=>decide (e<az id))=true∧(cu id).length=az id∧bC id≤2:=by decide +kernel
theorem ahb {id e:Nat}(h:kB id) (he:e<az id):nth (cu id) e<az id:=by
 obtain⟨h1,h2,_⟩:=Qf id (jE h)
 have:=List.all_eq_true.1 h1 _ (nk (l:=cu id) (i:=e) (by omega))
 simpa using this
def jl (id e:Nat):List Nat:=ae (nth (cu id) e / 2 ^ bC id+1) (2*bp (nth (cu id) e / 2 ^ bC id+1)-1)++ae (nth (cu id) e % 2 ^ bC id) (bC id)
theorem apY {n k P:Nat}(hP:2 ^ k=P) (hk:k≤62) (h:n<9223372036854775808):fy .and (.d (.int .i64 (n:Int))) (.d (.int .i64 ((P:Int)-1)))=some (.int .i64 ((n % P:Nat):Int)):=by
 have h1:2 ^ k≤2 ^ 62:=Nat.pow_le_pow_right (by omega) hk
 have h2:=Nat.two_pow_pos k
 have:=ajZ (k:=.i64) (a:=n) (b:=2 ^ k-1) (by simpa [rZ,IntKind.signed] using h) (by simp[rZ,IntKind.signed];omega)
 rw[Nat.and_two_pow_sub_one_eq_mod]at this
 subst hP
 have c:((2 ^ k-1:Nat):Int)=((2 ^ k:Nat):Int)-1:=by omega
 rw[c]at this
 exact this
theorem aas (id e:Nat) (hid:kB id) (he:e<az id):aL prog lJ [u6 id,.d (.int .i64 e)]=some (.tup [.own true 1 (ah (jl id e)),.d (.int .i64 0)]):=by
 have hr:=ahA id hid
 obtain⟨h1,h2,h3⟩:=Qf id (jE hid)
 have hm:az id≤300:=by have:=yz id (jE hid);omega
 have hrk:=ahb hid he
 have hg:(bl (cu id))[e]?=some [.int .i64 (nth (cu id) e:Nat)]:=Gu (by omega)
 unfold jl
 simp only[u6]at hr⊢
 generalize nth (cu id) e=r at *
 have q1:=amd (n:=r) (k:=bC id) (by omega)
 have q2:=acv (m:=bC id) (by omega)
 have hP:1≤2 ^ bC id∧2 ^ bC id≤2 ^ 2:=⟨Nat.two_pow_pos _,Nat.pow_le_pow_right (by omega) h3⟩
 have hmod:r % 2 ^ bC id<2 ^ bC id:=Nat.mod_lt _ hP.1
 have q3:=apY (n:=r) (k:=bC id) rfl (by omega) (by omega)
 have hdv:r / 2 ^ bC id≤r:=Nat.div_le_self _ _
 have hr3:r<300:=by omega
 generalize hPP:2 ^ bC id=PP at *
 generalize r / PP=RQ at *
 generalize r % PP=RM at *
 have q4:=aey (RQ+1) (by omega)
 have hL1:=Wk (n:=RQ+1)
 have hL2:=uM (n:=RQ+1) (by omega)
 have hL9:bp (RQ+1)≤9:=by
  rcases Nat.lt_or_ge 9 (bp (RQ+1)) with h | h
  ·have:2 ^ 9≤2 ^ (bp (RQ+1)-1):=Nat.pow_le_pow_right (by omega) (by omega)
   omega
  ·exact h
 have hL0:1≤bp (RQ+1):=by unfold bp;rw[if_neg (by omega)];omega
 have hpw:2 ^ bp (RQ+1)≤2 ^ (2*bp (RQ+1)-1):=Nat.pow_le_pow_right (by omega) (by omega)
 have p1:=im [] ((RQ+1:Nat):Int) ((2*bp (RQ+1)-1:Nat):Int) (by simp) (by omega) .nl (.inr ⟨rfl,rfl⟩)
 have ho1:gJ ((RQ+1:Nat):Int) ((2*bp (RQ+1)-1:Nat):Int):=by
  simp only[gJ,Int.toNat_natCast]
  generalize 2 ^ (2*bp (RQ+1)-1)=Z at *
  omega
 rw[if_pos ho1]at p1
 have p2:=fun b (hb:b.length≤900000000)=>im b (RM:Int) ((bC id:Nat):Int) hb (by omega) _ (.inl rfl)
 have ho2:gJ (RM:Int) ((bC id:Nat):Int):=by simp only[gJ,Int.toNat_natCast,hPP];omega
 simp only[if_pos ho2]at p2
 simp only[Int.toNat_natCast,List.nil_append]at p1 p2
 have p3:=p2 (ae (RQ+1) (2*bp (RQ+1)-1)) (by simp;omega)
 have c1:((2*bp (RQ+1)-1:Nat):Int)=2*(bp (RQ+1):Int)-1:=by omega
 have c2:((RQ+1:Nat):Int)=(RQ:Int)+1:=rfl
 rw[c1,c2]at p1
 rw[c2]at q4
 clear p2 hL1 hL2 hpw ho1 ho2
 generalize ae (RQ+1) (2*bp (RQ+1)-1)++ae RM (bC id)=RES at *
 generalize ae (RQ+1) (2*bp (RQ+1)-1)=RE1 at *
 generalize bp (RQ+1)=LN at *
 generalize bC id=pl at *
 generalize bi id=es at *
 rw[am afP DQ.eq_1 rfl]
 simp (maxSteps:=300000) (disch:=omega) [↓if_pos,↓if_neg,hr,hg,-gg,-EZ,q1,q2,q3,q4,p1,p3]
end Go.Vm
namespace Go.Vm
set_option maxHeartbeats 2000000
set_option maxRecDepth 100000
theorem aat {a b:List Nat}:[[D.lst (ah a)],[D.lst (ah b)]]=rl [a,b]:=rfl
theorem aiu {a b c d:List Nat}:[[D.lst (ah a)],[D.lst (ah b)],[D.lst (ah c)],[D.lst (ah d)]]=rl [a,b,c,d]:=rfl
theorem qu {id e:Nat}(hid:kB id) (he:e<az id):1≤(jl id e).length∧(jl id e).length≤20:=by
 obtain⟨h1,h2,h3⟩:=Qf id (jE hid)
 have hm:az id≤300:=by have:=yz id (jE hid);omega
 have hrk:=ahb hid he
 have hdv:nth (cu id) e / 2 ^ bC id≤nth (cu id) e:=Nat.div_le_self _ _
 unfold jl
 rw[List.length_append,bK,bK]
 generalize nth (cu id) e / 2 ^ bC id=RQ at *
 have hL2:=uM (n:=RQ+1) (by omega)
 have hL9:bp (RQ+1)≤9:=by
  rcases Nat.lt_or_ge 9 (bp (RQ+1)) with h | h
  ·have:2 ^ 9≤2 ^ (bp (RQ+1)-1):=Nat.pow_le_pow_right (by omega) (by omega)
   omega
  ·exact h
 have hL0:1≤bp (RQ+1):=by unfold bp;rw[if_neg (by omega)];omega
 omega
theorem ZX (b:List Nat) (hb:b.length≤900000000) (x:AV) (hx:x=.d (.lst (ah b))∨x=.nl∧b=[]) (d:Int) (hd:-60≤d∧d≤60):aL prog vu [x,.d (.int .i64 d)]=some (.tup [.own true 1 (ah (b++jl 12 (d+60).toNat)),.d (.int .i64 0)]):=by
 obtain⟨E,rfl⟩:∃ E:Nat,d=(E:Int)-60:=⟨(d+60).toNat,by omega⟩
 have hok:kB 12:=by omega
 have he:((E:Int)-60+60).toNat<az 12:=by show _<121;omega
 have hE:=RF 12 hok [(E:Int)-60] ⟨rfl,fun v hv=>by
  rw[List.mem_singleton]at hv
  show -60≤v∧v < -60+((121:Nat):Int)
  omega⟩
 have e1:nY (bO 12) (bb 12) [(E:Int)-60] 0=((E:Int)-60+60).toNat:=by
  show 0*121+((E:Int)-60-(-60)).toNat=_
  omega
 have e2:((E:Int)-60+60).toNat=E:=by omega
 rw[e2]at e1 he⊢
 rw[e1]at hE
 have hG:=adM 12 hok
 have hC:=aas 12 E hok he
 have hcl:=qu hok he
 have hcat:=aem [b,jl 12 E] (by simp) (by simp;omega)
 have c12:((12:Nat):Int)=12:=rfl
 have i1:aI [(E:Int)-60]=[[.int .i64 ((E:Int)-60)]]:=rfl
 simp only[Sz,u6,c12,i1,List.flatten_cons,List.flatten_nil,List.append_nil]at hE hG hC hcat
 rw[←aat]at hcat
 generalize jl 12 E=CB at *
 generalize bi 12=es at *
 generalize cu 12=rs at *
 generalize bC 12=pl at *
 rw[am afU CQ.eq_1 rfl]
 rcases hx with rfl | ⟨rfl,rfl⟩
 ·simp (maxSteps:=300000) (disch:=omega) [↓if_pos,↓if_neg,hE,hG,hC,hcat]
 ·have n0:ah []=[]:=rfl
  rw[n0]at hcat
  simp (maxSteps:=300000) (disch:=omega) [↓if_pos,↓if_neg,hE,hG,hC,hcat]
theorem QF (F:AV) (P:Int→Bool) (l:List Int) (hl:l.length≤1000000000) (h:ac) (N:Nat) (hF:firm (share F)=F) (hc:∀ v∈l,aP (Dn prog) F [.d (.int .i64 v)] ⟨h,N⟩=some (.d (.bool (P v)),⟨h,N⟩)):∀ (r:List Int) (i:Nat),l.drop i=r→
  (r.any P=true∧∃ k:Nat,(Dn prog).code (.loop bM) ⟨[(0,.d (.lst (aI l))),(1,F),(7,.d (.int .i64 l.length)),(8,.d (.int .i64 i))],⟨h,N⟩⟩=some (.ret,⟨[(4,.d (.int .i64 k))],⟨h,N⟩⟩))∨
  (r.any P=false∧(Dn prog).code (.loop bM) ⟨[(0,.d (.lst (aI l))),(1,F),(7,.d (.int .i64 l.length)),(8,.d (.int .i64 i))],⟨h,N⟩⟩=some (.exit 0,⟨[],⟨h,N⟩⟩)):=by
 intro r
 induction r with
 | nil =>
  intro i hd
  have hi:=an hd
  refine .inr ⟨rfl,?_⟩
  rw[aa bM.eq_1]
  simp (maxSteps:=300000) (disch:=omega) [↓if_neg]
 | cons v r ih =>
  intro i hd
  have hg:=qp hd
  have hlt:=ax hd
  have hv:=hc v (by rw[←List.take_append_drop i l,hd];simp)
  have h5:=ih (i+1) (ar hd)
  have c1:((i+1:Nat):Int)=(i:Int)+1:=rfl
  rw[c1]at h5
  cases hp:P v with
  | true =>
   rw[hp]at hv
   refine .inl ⟨by rw[List.any_cons,hp];rfl,i,?_⟩
   rw[aa bM.eq_1]
   simp (maxSteps:=300000) (disch:=omega) [↓if_pos,↓if_neg,hg,hF,hv]
  | false =>
   rw[hp]at hv
   rw[List.any_cons,hp,Bool.false_or]
   rcases h5 with ⟨e1,k,e2⟩ | ⟨e1,e2⟩
   ·refine .inl ⟨e1,k,?_⟩
    rw[aa bM.eq_1,←e2]
    simp (maxSteps:=300000) (disch:=omega) [↓if_pos,↓if_neg,hg,hF,hv]
   ·refine .inr ⟨e1,?_⟩
    rw[aa bM.eq_1,←e2]
    simp (maxSteps:=300000) (disch:=omega) [↓if_pos,↓if_neg,hg,hF,hv]
theorem pt (F:AV) (P:Int→Bool) (l:List Int) (hl:l.length≤1000000000) (h:ac) (N:Nat) (hF:firm (share F)=F) (hF2:firm F=F) (hc:∀ v∈l,aP (Dn prog) F [.d (.int .i64 v)] ⟨h,N⟩=some (.d (.bool (P v)),⟨h,N⟩)) :
  (Dn prog).call cm [.d (.lst (aI l)),F] ⟨h,N⟩=some (.d (.bool (l.any P)),⟨h,N⟩):=by
 have h1:=QF F P l hl h N hF hc l 0 rfl
 have c0:((0:Nat):Int)=0:=rfl
 rw[c0]at h1
 have h2:∃ k:Int,(0≤k↔l.any P=true)∧(Dn prog).call jy [.d (.lst (aI l)),F] ⟨h,N⟩=some (.d (.int .i64 k),⟨h,N⟩):=by
  rcases h1 with ⟨e1,k,e2⟩ | ⟨e1,e2⟩
  ·refine⟨k,⟨fun _=>e1,fun _=>by omega⟩,?_⟩
   rw[aA nX fH.eq_1 rfl]
   simp (maxSteps:=300000) (disch:=omega) [e2]
  ·refine⟨-1,⟨fun h=>by omega,fun h=>by rw[e1]at h;exact absurd h (by simp)⟩,?_⟩
   rw[aA nX fH.eq_1 rfl]
   simp (maxSteps:=300000) (disch:=omega) [e2]
 obtain⟨k,e1,e2⟩:=h2
 rw[aA wV ij.eq_1 rfl]
 cases hp:l.any P with
 | true =>
  have:=e1.2 hp
  simp (maxSteps:=300000) (disch:=omega) [↓if_pos,hF2,e2]
 | false =>
  have:¬ 0≤k:=fun h=>by rw[e1.1 h]at hp;exact absurd hp (by simp)
  simp (maxSteps:=300000) (disch:=omega) [↓if_neg,hF2,e2]
def eq (id:Nat):Nat:=[0,1,1,2,2,4,4,7,7,12,12,8191,0].getD id 0
abbrev am1:List AV:=[.d (.int .i64 0),.d (.int .i64 1),.d (.int .i64 1),.d (.int .i64 2),.d (.int .i64 2),.d (.int .i64 4),.d (.int .i64 4),.d (.int .i64 7),.d (.int .i64 7),.d (.int .i64 12),.d (.int .i64 12),.d (.int .i64 8191),.d (.int .i64 0)]
theorem ab9:aL prog B8 []=some (.agg am1):=EX 100 (by kernel_rfl)
theorem aoX {id:Nat}(h:id≤12):ixV 13 1 false (.agg am1) (.d (.int .i64 id))=some (.d (.int .i64 (eq id))):=by
 obtain rfl | rfl | rfl | rfl | rfl | rfl | rfl | rfl | rfl | rfl | rfl | rfl | rfl:id=0∨id=1∨id=2∨id=3∨id=4∨id=5∨id=6∨id=7∨id=8∨id=9∨id=10∨id=11∨id=12:=by omega
 all_goals rfl
def aZ (id:Nat):Nat:=if id<5 then 4 else 2
theorem amQ (id:Nat):aL prog Fj [.d (.int .i64 id)]=some (.d (.int .i64 (aZ id))):=by
 rw[am ahF GK.eq_1 rfl]
 unfold aZ
 by_cases h:id<5
 ·simp (maxSteps:=300000) (disch:=omega) [↓if_pos]
 ·simp (maxSteps:=300000) (disch:=omega) [↓if_neg]
def CJ (m:Nat) (v:Int):Bool:=decide ((m:Int)<v∨v < -(m:Int))
theorem apK (m:Nat) (hm:m≤100000) (v:Int) (N:Nat):(Dn prog).call oQ [.d (.int .i64 v),.ptr 0 0] ⟨[(0,.cells [.d (.int .i64 m)])],N⟩=some (.d (.bool (CJ m v)),⟨[(0,.cells [.d (.int .i64 m)])],N⟩):=by
 rw[aA aba wY.eq_1 rfl]
 unfold CJ
 by_cases h1:(m:Int)<v
 ·simp (maxSteps:=300000) (disch:=omega) [↓if_pos,h1]
 ·by_cases h2:v < -(m:Int)
  ·simp (maxSteps:=300000) (disch:=omega) [↓if_pos,↓if_neg,h1,h2]
  ·simp (maxSteps:=300000) (disch:=omega) [↓if_pos,↓if_neg,h1,h2]
theorem Kk (id:Nat) (hid:1≤id∧id≤11) (vs:List Int) (hv:vs.length=aZ id):aL prog vk [.d (.int .i64 id),.d (.lst (aI vs))]=some (.tup [.d (.bool (!(vs.any (CJ (eq id))))),.d (.int .i64 0)]):=by
 have hm:eq id≤100000:=by
  obtain rfl | rfl | rfl | rfl | rfl | rfl | rfl | rfl | rfl | rfl | rfl:id=1∨id=2∨id=3∨id=4∨id=5∨id=6∨id=7∨id=8∨id=9∨id=10∨id=11:=by omega
  all_goals decide
 have hd4:aZ id≤4:=by unfold aZ;split<;>omega
 have h1:=pt (.fn oQ [] [.ptr 0 0]) (CJ (eq id)) vs (by omega) [(0,.cells [.d (.int .i64 (eq id))])] 1 rfl rfl fun v _=>by
  simp (maxSteps:=300000) (disch:=omega) [apK (eq id) hm v 1]
 have h2:=aoX (id:=id) (by omega)
 have h3:=amQ id
 rw[am afg Dr.eq_1 rfl]
 simp (maxSteps:=300000) (disch:=omega) [↓if_pos,↓if_neg,h3,ab9,h2,h1]
end Go.Vm
namespace Go.Vm
set_option maxHeartbeats 2000000
set_option maxRecDepth 100000
def ng (id:Nat) (v:Int):Int:=if id=11∧16≤v.natAbs then 16 else v.natAbs
def jL (v:Int):List Nat:=if v=0 then [] else if v<0 then [1] else [0]
def tZ (id:Nat) (v:Int):List Nat:=if id=11∧16≤v.natAbs then List.replicate (bp v.natAbs-5) 1++(0::ae (v.natAbs % 2 ^ (bp v.natAbs-1)) (bp v.natAbs-1)) else []
def GZ (id:Nat) (vs:List Int):List Nat:=if nm id then jl id (nY (bO id) (bb id) vs 0)
 else jl id (nY (bO id) (bb id) (vs.map (ng id)) 0)++(vs.flatMap jL++vs.flatMap (tZ id))
theorem ake (v:Int) (h:-100000≤v∧v≤100000):aL prog CX [.d (.int .i64 v)]=some (.d (.int .i64 v.natAbs)):=by
 rw[am afZ CU.eq_1 rfl]
 by_cases h0:v<0
 ·have:((v.natAbs:Nat):Int)=-v:=by omega
  rw[this]
  simp (maxSteps:=300000) (disch:=omega) [↓if_pos]
 ·have:((v.natAbs:Nat):Int)=v:=by omega
  rw[this]
  simp (maxSteps:=300000) (disch:=omega) [↓if_neg]
theorem ak8:∀ m∈List.range 9,aL prog qB [.d (.lst [[.int .u8 1]]),.d (.int .i64 m)]=some (.own true 1 (ah (List.replicate m 1))):=zT 100 (List.range 9) (by kernel_rfl)
theorem ajE {m:Nat}{h:ac}{xs ys:List (List D)}(hl:xs.length+ys.length≤1000000000):∃ v,bF m h (aB m xs) ys=some (v,h)∧firm v=aB m (xs++ys):=by
 cases xs with
 | nil =>
  cases ys with
  | nil=>exact⟨.nl,rfl,rfl⟩
  | cons y r =>
   simp only[List.length_cons,List.length_nil]at hl
   exact⟨.own true m (y::r),by simp (maxSteps:=300000) (disch:=omega) [aB,↓if_pos],rfl⟩
 | cons x r =>
  simp only[List.length_cons]at hl
  exact⟨.own false m (x::r++ys),by
   simp only[aag,agQ,Wx,agf,agl,aF]
   rw[if_pos (by omega),if_pos trivial,if_pos (by simp only[List.length_cons];omega)],rfl⟩
theorem anG {v:Int}(h:-100000≤v∧v<0):wr .u64 v=v+18446744073709551616:=by
 simp only[wr,iV]
 rw[decide_eq_false (by omega)]
 simp only[Bool.false_and]
 simp[IntKind.wrap,IntKind.bits,IntKind.signed]
 omega
theorem afy (id:Nat) (hid:1≤id∧id≤11) (pl ents ranks:D) (x0:AV) (vs:List Int) (hl:vs.length≤4) (N:Nat):∀ (r:List Int) (i:Nat) (sz:List Int) (sg es:List Nat),vs.drop i=r→(∀ v∈r,v.natAbs≤8191)→sz.length≤100+i→sg.length≤100+i→es.length≤100+100*i→
  (Dn prog).code (.loop ll) ⟨[(0,x0),(4,.ptr 0 0),(15,aB 1 (aI sz)),(16,aB 1 (ah sg)),(17,aB 1 (ah es)),(69,.d (.lst (aI vs))),(70,.d (.int .i64 vs.length)),(71,.d (.int .i64 i))],⟨[(0,.cells [.d (.int .i64 id),.d pl,.d ents,.d ranks])],N⟩⟩ =
  some (.exit 0,⟨[(0,x0),(4,.ptr 0 0),(15,aB 1 (aI (sz++r.map (ng id)))),(16,aB 1 (ah (sg++r.flatMap jL))),(17,aB 1 (ah (es++r.flatMap (tZ id))))],⟨[(0,.cells [.d (.int .i64 id),.d pl,.d ents,.d ranks])],N⟩⟩):=by
 intro r
 induction r with
 | nil =>
  intro i sz sg es hd hr h1 h2 h3
  have hi:=an hd
  rw[aa ll.eq_1]
  simp (maxSteps:=300000) (disch:=omega) [↓if_neg]
 | cons v r ih =>
  intro i sz sg es hd hr h1 h2 h3
  have hg:=qp hd
  have hlt:=ax hd
  have hv:=hr v (.head _)
  have hs:=ake v (by omega)
  have c1:((i+1:Nat):Int)=(i:Int)+1:=rfl
  have hlg:=bD (l:=sg)
  have hle:=bD (l:=es)
  have hsz:=bq (l:=sz)
  obtain⟨n,hn⟩:∃ n,n=v.natAbs:=⟨_,rfl⟩
  rw[←hn]at hs hv
  have hvs:TH .u64 (.d (.int .i64 v))=some (.int .u64 (wr .u64 v)):=rfl
  have hpos:0<v→fy .shr (.d (.int .u64 v)) (.d (.int .u64 63))=some (.int .u64 0):=fun h=>by
   rw[gg (by omega)]
   have:min ((63:Int)).toNat IntKind.u64.bits=63:=rfl
   rw[this,Int.fdiv_eq_ediv_of_nonneg _ (Int.natCast_nonneg _),Int.ediv_eq_zero_of_lt (by omega) (by omega)]
  have hneg:v<0→fy .shr (.d (.int .u64 (wr .u64 v))) (.d (.int .u64 63))=some (.int .u64 1):=fun h=>by
   rw[anG (by omega),gg (by omega)]
   have:min ((63:Int)).toNat IntKind.u64.bits=63:=rfl
   rw[this,Int.fdiv_eq_ediv_of_nonneg _ (Int.natCast_nonneg _)]
   have:(v+18446744073709551616) / ((2 ^ 63:Nat):Int)=1:=by
    have:((2 ^ 63:Nat):Int)=9223372036854775808:=rfl
    rw[this];omega
   rw[this]
  have hb1:ah sg++[[D.int .u8 1]]=ah (sg++[1]):=by simp[ah]
  have hb0:ah sg++[[D.int .u8 0]]=ah (sg++[0]):=by simp[ah]
  by_cases he:id=11∧16≤v.natAbs
  ·obtain⟨h11,h16⟩:=he
   rw[←hn]at h16
   have hL1:=Wk (n:=n)
   have hL2:=uM (n:=n) (by omega)
   have hL13:bp n≤13:=by
    rcases Nat.lt_or_ge 13 (bp n) with h | h
    ·have:2 ^ 13≤2 ^ (bp n-1):=Nat.pow_le_pow_right (by omega) (by omega)
     omega
    ·exact h
   have hL5:5≤bp n:=by
    rcases Nat.lt_or_ge (bp n) 5 with h | h
    ·have:2 ^ bp n≤2 ^ 4:=Nat.pow_le_pow_right (by omega) (by omega)
     omega
    ·exact h
   obtain⟨m,hm⟩:∃ m,bp n=m+5:=⟨bp n-5,by omega⟩
   have e1:ng id v=16:=by rw[ng,if_pos ⟨h11,by omega⟩]
   have e2:tZ id v=List.replicate m 1++(0::ae (n % 2 ^ (m+4)) (m+4)):=by
    rw[tZ,if_pos ⟨h11,by omega⟩,←hn,hm,show m+5-5=m by omega,show m+5-1=m+4 by omega]
   have hl2:=aey n (by omega)
   have hrp:=ak8 m (List.mem_range.2 (by omega))
   have hlr:(ah (List.replicate m 1)).length=m:=by simp[ah]
   obtain⟨w,hw1,hw2⟩:=ajE (m:=1) (h:=[(0,.cells [.d (.int .i64 id),.d pl,.d ents,.d ranks])]) (xs:=ah es) (ys:=ah (List.replicate m 1)) (by omega)
   have hbe:ah es++ah (List.replicate m 1)=ah (es++List.replicate m 1):=acD
   rw[hbe]at hw2
   have hlw:(ah (es++List.replicate m 1)).length=es.length+m:=by simp[ah]
   have hbw:ah (es++List.replicate m 1)++[[D.int .u8 0]]=ah (es++List.replicate m 1++[0]):=by simp[ah]
   have hp4:2 ^ (m+4)≤2 ^ 12:=Nat.pow_le_pow_right (by omega) (by omega)
   have hmod:n % 2 ^ (m+4)<2 ^ (m+4):=Nat.mod_lt _ (Nat.two_pow_pos _)
   have q2:=acv (m:=m+4) (by omega)
   have q3:=apY (n:=n) (k:=m+4) rfl (by omega) (by omega)
   have p1:=im (es++List.replicate m 1++[0]) ((n % 2 ^ (m+4):Nat):Int) ((m+4:Nat):Int) (by simp;omega) (by omega) _ (.inl rfl)
   rw[if_pos (by simp only[gJ,Int.toNat_natCast];omega)]at p1
   simp only[Int.toNat_natCast]at p1
   have c4:((m+4:Nat):Int)=(m:Int)+4:=rfl
   have c5:((m+5:Nat):Int)=(m:Int)+5:=rfl
   rw[hm,c5]at hl2
   rw[c4]at p1 q2
   have h5:=fun s2 (h:s2.length≤101+i)=>ih (i+1) (sz++[16]) s2 (es++List.replicate m 1++[0]++ae (n % 2 ^ (m+4)) (m+4)) (ar hd) (fun q hq=>hr q (.tail _ hq)) (by simp;omega) (by omega) (by simp;omega)
   generalize n % 2 ^ (m+4)=RM at *
   generalize 2 ^ (m+4)=PP at *
   have eo:aB 1 (aI (sz++[16]))=.own false 1 (aI (sz++[16])):=iM (by simp[aI])
   have eo3:aB 1 (ah (es++List.replicate m 1++[0]++ae RM (m+4)))=.own false 1 (ah (es++List.replicate m 1++[0]++ae RM (m+4))):=iM (by simp[ah])
   have eL:es++List.replicate m 1++[0]++ae RM (m+4)++r.flatMap (tZ id)=es++(List.replicate m 1++(0::ae RM (m+4))++r.flatMap (tZ id)):=by simp
   simp only[eo3,eL]at h5
   generalize es++List.replicate m 1++[0]++ae RM (m+4)=ES at *
   generalize es++List.replicate m 1++[0]=E0 at *
   generalize es++List.replicate m 1=EM at *
   simp only[c1,eo,List.append_assoc,List.singleton_append]at h5
   rw[aa ll.eq_1,List.map_cons,List.flatMap_cons,List.flatMap_cons,e1,e2]
   have v0:v≠0:=by omega
   by_cases hvn:v<0
   ·have e3:jL v=[1]:=by rw[jL,if_neg v0,if_pos hvn]
    have eo2:aB 1 (ah (sg++[1]))=.own false 1 (ah (sg++[1])):=iM (by simp[ah])
    have h6:=h5 (sg++[1]) (by simp;omega)
    simp only[eo2,List.append_assoc,List.singleton_append]at h6
    rw[e3,List.singleton_append]
    simp only[List.append_assoc,List.cons_append]at h6⊢
    rw[←h6]
    simp (maxSteps:=300000) (disch:=omega) [↓if_pos,↓if_neg,hg,hs,-gg,-EZ,hneg hvn,hb1,hl2,hrp,hw1,hw2,hbw,q2,q3,p1]
   ·have hvp:0<v:=by omega
    have e3:jL v=[0]:=by rw[jL,if_neg v0,if_neg hvn]
    have eo2:aB 1 (ah (sg++[0]))=.own false 1 (ah (sg++[0])):=iM (by simp[ah])
    have h6:=h5 (sg++[0]) (by simp;omega)
    simp only[eo2,List.append_assoc,List.singleton_append]at h6
    rw[e3,List.singleton_append]
    simp only[List.append_assoc,List.cons_append]at h6⊢
    rw[←h6]
    simp (maxSteps:=300000) (disch:=omega) [↓if_pos,↓if_neg,hg,hs,-gg,-EZ,hpos hvp,hb0,hl2,hrp,hw1,hw2,hbw,q2,q3,p1]
  ·have e1:ng id v=n:=by rw[ng,if_neg he,hn]
   have e2:tZ id v=[]:=by rw[tZ,if_neg he]
   have h5:=fun s2 (h:s2.length≤101+i)=>ih (i+1) (sz++[(n:Int)]) s2 es (ar hd) (fun q hq=>hr q (.tail _ hq)) (by simp;omega) (by omega) (by omega)
   have eo:aB 1 (aI (sz++[(n:Int)]))=.own false 1 (aI (sz++[(n:Int)])):=iM (by simp[aI])
   simp only[c1,eo,List.append_assoc,List.singleton_append]at h5
   rw[aa ll.eq_1,List.map_cons,List.flatMap_cons,List.flatMap_cons,e1,e2,List.nil_append]
   have hen:¬ (id=11∧16≤n):=by rw[hn];exact he
   by_cases v0:v=0
   ·have e3:jL v=[]:=by rw[jL,if_pos v0]
    rw[e3,List.nil_append,←h5 sg (by omega)]
    by_cases h11:id=11
    ·simp (maxSteps:=300000) (disch:=omega) [↓if_pos,↓if_neg,hg,hs]
    ·simp (maxSteps:=300000) (disch:=omega) [↓if_pos,↓if_neg,hg,hs]
   ·by_cases hvn:v<0
    ·have e3:jL v=[1]:=by rw[jL,if_neg v0,if_pos hvn]
     have eo2:aB 1 (ah (sg++[1]))=.own false 1 (ah (sg++[1])):=iM (by simp[ah])
     have h6:=h5 (sg++[1]) (by simp;omega)
     simp only[eo2,List.append_assoc,List.singleton_append]at h6
     rw[e3,List.singleton_append,←h6]
     by_cases h11:id=11
     ·simp (maxSteps:=300000) (disch:=omega) [↓if_pos,↓if_neg,hg,hs,-gg,hneg hvn,hb1]
     ·simp (maxSteps:=300000) (disch:=omega) [↓if_pos,↓if_neg,hg,hs,-gg,hneg hvn,hb1]
    ·have hvp:0<v:=by omega
     have e3:jL v=[0]:=by rw[jL,if_neg v0,if_neg hvn]
     have eo2:aB 1 (ah (sg++[0]))=.own false 1 (ah (sg++[0])):=iM (by simp[ah])
     have h6:=h5 (sg++[0]) (by simp;omega)
     simp only[eo2,List.append_assoc,List.singleton_append]at h6
     rw[e3,List.singleton_append,←h6]
     by_cases h11:id=11
     ·simp (maxSteps:=300000) (disch:=omega) [↓if_pos,↓if_neg,hg,hs,-gg,hpos hvp,hb0]
     ·simp (maxSteps:=300000) (disch:=omega) [↓if_pos,↓if_neg,hg,hs,-gg,hpos hvp,hb0]
theorem yx:∀ id∈ids.take 11,(nm id=true→bO id=-(eq id:Int)∧bb id=2*eq id+1)∧(nm id=false→bO id=0∧(id≠11→bb id=eq id+1)∧(id=11→bb id=17))∧dR id=aZ id∧eq id≤8191:=by decide +kernel
theorem Uw {id:Nat}(h:1≤id∧id≤11):id∈ids.take 11:=by
 show id∈[1,2,3,4,5,6,7,8,9,10,11]
 simp only[List.mem_cons,List.not_mem_nil,or_false]
 omega
abbrev VY (id:Nat) (vs:List Int):Prop:=vs.length=aZ id∧∀ v∈vs,v.natAbs≤eq id
theorem anW {id:Nat}{vs:List Int}(h:∀ v∈vs,v.natAbs≤eq id):vs.any (CJ (eq id))=false:=by
 rw[List.any_eq_false]
 intro v hv
 have:=h v hv
 simp only[CJ,decide_eq_true_eq]
 omega
theorem adc {id:Nat}(hid:1≤id∧id≤11) {vs:List Int}(h:VY id vs):(nm id=true→aes id vs)∧(nm id=false→aes id (vs.map (ng id))):=by
 obtain⟨m1,m2,m3,m4⟩:=yx id (Uw hid)
 constructor
 ·intro hs
  obtain⟨a,b⟩:=m1 hs
  refine⟨by rw[h.1,m3],fun v hv=>?_⟩
  have:=h.2 v hv
  rw[a,b];omega
 ·intro hs
  obtain⟨a,b,c⟩:=m2 hs
  refine⟨by rw[List.length_map,h.1,m3],fun v hv=>?_⟩
  obtain⟨u,hu,rfl⟩:=List.mem_map.1 hv
  have:=h.2 u hu
  rw[a,ng]
  by_cases h11:id=11
  ·rw[c h11]
   by_cases h16:16≤u.natAbs
   ·rw[if_pos ⟨h11,h16⟩];omega
   ·rw[if_neg (fun h=>h16 h.2)];omega
  ·rw[b h11,if_neg (fun h=>h11 h.1)];omega
theorem acV {vs:List Int}:(vs.flatMap jL).length≤vs.length:=by
 induction vs with
 | nil=>simp
 | cons v r ih =>
  rw[List.flatMap_cons,List.length_append,List.length_cons]
  have:(jL v).length≤1:=by unfold jL;split<;>(try split)<;>simp
  omega
theorem ao8 {id:Nat}{v:Int}(h:v.natAbs≤8191):(tZ id v).length≤30:=by
 unfold tZ
 split
 ·have hL2:v.natAbs≠0→2 ^ (bp v.natAbs-1)≤v.natAbs:=uM
  have hL13:bp v.natAbs≤13:=by
   rcases Nat.lt_or_ge 13 (bp v.natAbs) with h | h
   ·have:2 ^ 13≤2 ^ (bp v.natAbs-1):=Nat.pow_le_pow_right (by omega) (by omega)
    omega
   ·exact h
  simp only[List.length_append,List.length_replicate,List.length_cons,bK]
  omega
 ·simp
theorem Qm {id:Nat}:∀ {vs:List Int},(∀ v∈vs,v.natAbs≤8191)→(vs.flatMap (tZ id)).length≤30*vs.length
 | [],_=>by simp
 | v::r,h=>by
  have h1:=ao8 (id:=id) (h v (.head _))
  have h2:=Qm (id:=id) (vs:=r) fun q hq=>h q (.tail _ hq)
  rw[List.flatMap_cons,List.length_append,List.length_cons]
  omega
theorem ald (b:List Nat) (hb:b.length≤900000000) (x:AV) (hx:x=.d (.lst (ah b))∨x=.nl∧b=[]) (id:Nat) (hid:1≤id∧id≤11) (vs:List Int) (hv:VY id vs):aL prog xL [x,u6 id,.d (.lst (aI vs))]=some (.tup [.own true 1 (ah (b++GZ id vs)),.d (.int .i64 0)]):=by
 have hok:kB id:=by omega
 have hF:=Kk id hid vs hv.1
 rw[anW hv.2]at hF
 have hS:=acK id (Uw hid)
 obtain⟨m1,m2,m3,m4⟩:=yx id (Uw hid)
 obtain⟨f1,f2⟩:=adc hid hv
 have hE:=RF id hok
 have hC:=fun e he=>aas id e hok he
 have hd4:aZ id≤4:=by unfold aZ;split<;>omega
 have hvl:=hv.1
 have hv8:∀ v∈vs,v.natAbs≤8191:=fun v h=>Nat.le_trans (hv.2 v h) m4
 simp only[u6]at hC⊢
 have hmany:az id=bb id ^ dR id:=rfl
 unfold GZ
 by_cases hs:nm id=true
 ·rw[hs]at hS
  have hin:=f1 hs
  have hE:=hE vs hin
  have hlt:=DY (n:=0) (j:=0) hin.2 (by simp)
  rw[Nat.zero_add,hin.1,←hmany]at hlt
  have hC:=hC _ hlt
  have hcl:=qu hok hlt
  have hcat:=aem [b,jl id (nY (bO id) (bb id) vs 0)] (by simp) (by simp;omega)
  simp only[List.flatten_cons,List.flatten_nil,List.append_nil]at hcat
  rw[←aat]at hcat
  rw[if_pos hs]
  generalize jl id (nY (bO id) (bb id) vs 0)=CB at *
  generalize nY (bO id) (bb id) vs 0=EN at *
  generalize bi id=es at *
  generalize cu id=rs at *
  generalize bC id=pl at *
  rw[am ST yp.eq_1 rfl]
  rcases hx with rfl | ⟨rfl,rfl⟩
  ·simp (maxSteps:=300000) (disch:=omega) [↓if_pos,↓if_neg,hF,hS,hE,hC,hcat]
  ·have n0:ah []=[]:=rfl
   rw[n0]at hcat
   simp (maxSteps:=300000) (disch:=omega) [↓if_pos,↓if_neg,hF,hS,hE,hC,hcat]
 ·have hs2:nm id=false:=by simpa using hs
  rw[hs2]at hS
  have hin:=f2 hs2
  have hE:=hE _ hin
  have hlt:=DY (n:=0) (j:=0) hin.2 (by simp)
  rw[Nat.zero_add,hin.1,←hmany]at hlt
  have hC:=hC _ hlt
  have hcl:=qu hok hlt
  have hsl:=acV (vs:=vs)
  have hel:=Qm (id:=id) hv8
  have hcat:=aem [b,jl id (nY (bO id) (bb id) (vs.map (ng id)) 0),vs.flatMap jL,vs.flatMap (tZ id)] (by simp) (by simp only[List.flatten_cons,List.flatten_nil,List.append_nil,List.length_append];omega)
  simp only[List.flatten_cons,List.flatten_nil,List.append_nil]at hcat
  rw[←aiu]at hcat
  have hl0:=fun x0=>afy id hid (.int .i64 (bC id)) (.lst (bl (bi id))) (.lst (bl (cu id))) x0 vs (by omega) 1 vs 0 [] [] [] rfl hv8 (by simp) (by simp) (by simp)
  have c0:((0:Nat):Int)=0:=rfl
  have n0:ah []=[]:=rfl
  have n1:aI []=[]:=rfl
  have hne:aI (vs.map (ng id))≠[]:=by
   intro h
   have:=congrArg List.length h
   simp only[aI,List.length_map,List.length_nil]at this
   unfold aZ at hvl
   split at hvl<;>omega
  simp only[n0,n1,mU,List.nil_append,c0,iM hne]at hl0
  rw[if_neg hs]
  generalize jl id (nY (bO id) (bb id) (vs.map (ng id)) 0)=CB at *
  generalize nY (bO id) (bb id) (vs.map (ng id)) 0=EN at *
  generalize bi id=es at *
  generalize cu id=rs at *
  generalize bC id=pl at *
  generalize vs.map (ng id)=SZ at *
  generalize vs.flatMap (tZ id)=EB at *
  generalize vs.flatMap jL=SB at *
  rw[am ST yp.eq_1 rfl]
  rcases hx with rfl | ⟨rfl,rfl⟩
  ·simp (maxSteps:=300000) (disch:=omega) [↓if_pos,↓if_neg,hF,hS,hl0,hE,hC,hcat]
  ·rw[n0]at hcat
   simp (maxSteps:=300000) (disch:=omega) [↓if_pos,↓if_neg,hF,hS,hl0,hE,hC,hcat]
end Go.Vm
namespace Go.Vm
set_option maxHeartbeats 2000000
set_option maxRecDepth 100000
def vt (k n w z:Int):List Nat:=if k=0 then [] else if k=13 then (if z<0 then ae n.toNat 9 else jl 12 (n-z+60).toNat) else jl 12 (n-w+60).toNat
def sO:List Int→List Int→Int→Int→List Nat
 | k::r,n::t,w,z=>vt k n w z++sO r t (iG k n w z).1 (iG k n w z).2
 | _,_,_,_=>[]
def nB:List (List aC)→List (List Int)→Int→Int→List Nat
 | l::r,t::s,w,z=>sO (aq l) t w z++(match b9 (aq l) t w z with
  | some (w,z)=>nB r s w z
  | none=>[])
 | _,_,_,_=>[]
theorem ZJ {k n w z:Int}(h:k≠0→mb k n w z):(vt k n w z).length≤20:=by
 unfold vt
 by_cases h0:k=0
 ·rw[if_pos h0];simp
 ·have hT:=h h0
  have hok:kB 12:=by omega
  have hc:=fun e (he:e<121)=>(qu (id:=12) (e:=e) hok he).2
  rw[if_neg h0]
  unfold mb at hT
  by_cases h13:k=13
  ·rw[if_pos h13]at hT⊢
   by_cases hz:z<0
   ·rw[if_pos hz];simp
   ·rw[if_neg hz];exact hc _ (by omega)
  ·rw[if_neg h13]at hT⊢
   exact hc _ (by omega)
structure LP (F:Obj→AV→Int→Int→ac) (ss:List (List Int)) (g:Int) (L N:Nat):Prop where
 gl:∀ q v w z,get (F q v w z) L=some q
 pl:∀ q v w z q',put (F q v w z) L q'=F q' v w z
 g0:∀ q v w z,get (F q v w z) 0=some (.cells [v])
 p0:∀ q v w z v',put (F q v w z) 0 (.cells [v'])=F q v' w z
 g1:∀ q v w z,get (F q v w z) 1=some (.cells [.d (.lst (cT ss))])
 g2:∀ q v w z,get (F q v w z) 2=some (.cells [.d (.int .i64 w),.d (.int .i64 z)])
 p2:∀ q v w z w' z',put (F q v w z) 2 (.cells [.d (.int .i64 w'),.d (.int .i64 z')])=F q v w' z'
 g3:∀ q v w z,get (F q v w z) 3=some (.cells [.ptr 2 0])
 gN:∀ q v w z,get (F q v w z) N=some (.cells [.d (.int .i64 g)])
abbrev aum (gs:List (List aC)) (g N:Nat):ak:=[(4,.ptr 0 0),(7,.ptr 1 0),(11,.ptr 3 0),(12,.ptr N 0),(32,.d (.lst (bW gs))),(33,.d (.int .i64 gs.length)),(34,.d (.int .i64 g)),(40,.fn fh [] [.ptr (N+1) 0])]
abbrev acm (gs:List (List aC)) (g N:Nat):Obj:=.loop (aum gs g N) [41,42] iN iO false none
theorem arY {F:Obj→AV→Int→Int→ac}{L:Nat}(ss:List (List Int)) (hss:ss.length≤1000) (gs:List (List aC)) (hgs:gs.length≤1000) (g N:Nat) (H:LP F ss g L N) (t:List Int) (ht:t.length≤100000) (hg:(cT ss)[g]?=some [.lst (aI t)]) (a:Nat) (k:Int) (b:List Nat) (hb:b.length≤800000000) (w z:Int) (M:Nat) (n:Int) (r:List Int) (hd:t.drop a=n::r) (h0:k=0→n=0) (h1:k≠0→mb k n w z) (hk:0≤k∧k≤13) (hw:li w) (hz:li z) :
  aP (Dn prog) (.yield L) [.d (.int .i64 (a:Int)),.d (.int .i64 k)] ⟨F (acm gs g N) (.own false 1 (ah b)) w z,M⟩=some (.d (.bool true),⟨F (acm gs g N) (.own false 1 (ah (b++vt k n w z))) (iG k n w z).1 (iG k n w z).2,M⟩):=by
 have ha:=ax hd
 have hn:=qp hd
 have gl:g<ss.length:=by
  obtain⟨h,_⟩:=List.getElem?_eq_some_iff.1 hg
  simpa using h
 have T:=fun q v=>SQ (hp:=fun w z=>F q v w z) (A:=2) ⟨fun s z=>H.g2 q v s z,fun s z s' z'=>H.p2 q v s z s' z'⟩ k n w z M
 by_cases k0:k=0
 ·have:=h0 k0
  subst k0 this
  simp (maxSteps:=300000) (disch:=omega) [iN,iO,↓if_pos,↓if_neg,hg,hn,bq,H.gl,H.pl,H.g0,H.p0,H.g1,H.g2,H.p2,H.g3,H.gN,iG,vt]
  rfl
 ·have hT:=h1 k0
  have hn5:=vS hT
  have T:=fun q v=>T q v (by omega) (by omega) (by omega)
  simp only[if_pos hT]at T
  have e:(iG k n w z)=if k=13 then (w,n) else (n,z):=by rw[iG,if_neg k0]
  have es:vt k n w z=if k=13 then (if z<0 then ae n.toNat 9 else jl 12 (n-z+60).toNat) else jl 12 (n-w+60).toNat:=by rw[vt,if_neg k0]
  unfold mb at hT
  by_cases k13:k=13
  ·rw[if_pos k13]at hT
   rw[e,if_pos k13,es,if_pos k13]
   simp only[if_pos k13]at T
   subst k13
   by_cases hz0:z<0
   ·rw[if_pos hz0]
    have p1:=im b n 9 (by omega) (by omega) _ (.inl rfl)
    have c9:(9:Int).toNat=9:=rfl
    rw[if_pos (by simp only[gJ,c9];omega),c9]at p1
    simp (maxSteps:=300000) (disch:=omega) [iN,iO,↓if_pos,↓if_neg,hg,hn,bq,H.gl,H.pl,H.g0,H.p0,H.g1,H.g2,H.g3,H.gN,T,p1]
    rfl
   ·rw[if_neg hz0]
    have p1:=ZX b (by omega) _ (.inl rfl) (n-z) (by omega)
    simp (maxSteps:=300000) (disch:=omega) [iN,iO,↓if_pos,↓if_neg,hg,hn,bq,H.gl,H.pl,H.g0,H.p0,H.g1,H.g2,H.g3,H.gN,T,p1]
    rfl
  ·rw[if_neg k13]at hT
   rw[e,if_neg k13,es,if_neg k13]
   simp only[if_neg k13]at T
   have p1:=ZX b (by omega) _ (.inl rfl) (n-w) (by omega)
   simp (maxSteps:=300000) (disch:=omega) [iN,iO,↓if_pos,↓if_neg,hg,hn,bq,H.gl,H.pl,H.g0,H.p0,H.g1,H.g2,H.g3,H.gN,T,p1]
   rfl
abbrev FP (ss:List (List Int)) (g N:Nat) (l:List aC) (T:ac) (q:Obj) (v:AV) (w z:Int):ac :=
 (0,.cells [v])::(1,.cells [.d (.lst (cT ss))])::(2,.cells [.d (.int .i64 w),.d (.int .i64 z)])::(3,.cells [.ptr 2 0])::(N,.cells [.d (.int .i64 g)])::(N+1,.cells [.d (.lst (ge l))])::(N+1+1,q)::T
theorem arM {ss:List (List Int)}{g N:Nat}{l:List aC}{T:ac}(hN:4≤N):LP (FP ss g N l T) ss g (N+1+1) N:=by
 obtain⟨n0,n1,n2,n3⟩:N≠0∧N≠1∧N≠2∧N≠3:=by omega
 constructor<;>intro q m w z<;>(try intro q')<;>(try intro q'')<;>simp (maxSteps:=300000) (disch:=omega) [↓if_neg,n0,n1,n2,n3]
abbrev amf (ss:List (List Int)) (g N:Nat) (l:List aC) (q:Obj) (s:List Nat×Int×Int) (T:ac):ac:=FP ss g N l T q (.own false 1 (ah s.1)) s.2.1 s.2.2
theorem auN {ss:List (List Int)}{g N:Nat}{l:List aC}{q:Obj}(hN:4≤N):Tl (amf ss g N l q) (N+1+1+1):=by
 constructor
 ·intro s K o h
  simp (maxSteps:=300000) (disch:=omega) [↓if_neg]
 ·intro s K o o' h
  simp (maxSteps:=300000) (disch:=omega) [↓if_neg]
 ·intro s K o h
  simp (maxSteps:=300000) (disch:=omega) [↓if_neg]
 ·intro s K o h
  simp (maxSteps:=300000) (disch:=omega) [↓if_neg]
theorem aiU {bks t:List Int}{a:Nat}{k n:Int}{w z:Int}(hk:bks[a]?=some k) (hd:t.drop a=n::t.drop (a+1)):sO (bks.drop a) (t.drop a) w z=vt k n w z++sO (bks.drop (a+1)) (t.drop (a+1)) (iG k n w z).1 (iG k n w z).2:=by
 obtain⟨hlt,e⟩:=List.getElem?_eq_some_iff.1 hk
 have h1:=List.drop_eq_getElem_cons hlt
 rw[e]at h1
 rw[h1,hd,sO]
theorem ar9 (ss:List (List Int)) (hss:ss.length≤1000) (gs:List (List aC)) (hgs:gs.length≤1000) (g N:Nat) (hN:4≤N) (t:List Int) (ht:t.length≤100000) (hg:(cT ss)[g]?=some [.lst (aI t)]) (l:List aC) (hl:∀ k∈aq l,0≤k∧k≤13) (hbl:(aq l).length≤100000) (fin:Int×Int) (TOT:List Nat) :
  Rnd (amf ss g N l (acm gs g N)) noH (N+1+1+1) (N+1+1) (aq l) (fun a k s=>.inl (s.1++vt k (nth t a) s.2.1 s.2.2,iG k (nth t a) s.2.1 s.2.2)) (fun a s=>(s.1.length≤700000000+20*a∧s.1++sO ((aq l).drop a) (t.drop a) s.2.1 s.2.2=TOT)∧li s.2.1∧li s.2.2∧b9 ((aq l).drop a) (t.drop a) s.2.1 s.2.2=some fin):=by
 intro a k s K o M hk hi hK hM
 obtain⟨⟨i0,i1⟩,i2,i3,i4⟩:=hi
 obtain⟨n,d1,d2,d3,d4⟩:=ZI hk (by rw[i4];simp)
 have hlt:a<(aq l).length:=by obtain⟨h,e⟩:=List.getElem?_eq_some_iff.1 hk;exact h
 have hn:nth t a=n:=by
  have h1:=ax d1
  have h2:=my (l:=t) h1
  rw[d1]at h2;injection h2 with h2;exact h2.symm
 have hkm:=hl k (by obtain⟨h,e⟩:=List.getElem?_eq_some_iff.1 hk;rw[←e];exact List.getElem_mem h)
 rw[i4]at d4
 rw[aiU hk d1]at i1
 have hsl:=ZJ (k:=k) (n:=n) (w:=s.2.1) (z:=s.2.2) d3
 have hgo:li (iG k n s.2.1 s.2.2).1∧li (iG k n s.2.1 s.2.2).2:=by
  unfold iG
  by_cases h0:k=0
  ·rw[if_pos h0];exact⟨i2,i3⟩
  ·rw[if_neg h0]
   have:=vS (d3 h0)
   by_cases h13:k=13
   ·rw[if_pos h13];exact⟨i2,this⟩
   ·rw[if_neg h13];exact⟨this,i3⟩
 refine .inl ⟨(s.1++vt k n s.2.1 s.2.2,iG k n s.2.1 s.2.2),by simp only[hn],⟨⟨by simp only[List.length_append];omega,by simp only[List.append_assoc];exact i1⟩,hgo.1,hgo.2,d4.symm⟩,?_⟩
 obtain⟨b,w,z⟩:=s
 simp only at i0 i1 i2 i3
 exact arY ss hss gs hgs g N (arM (ss:=ss) (g:=g) (l:=l) (T:=[(K,o)]) hN) t ht hg a k b (by omega) w z M n _ d1 d2 d3 hkm i2 i3
abbrev aqy (ss:List (List Int)) (v:AV) (w z:Int):ac:=[(0,.cells [v]),(1,.cells [.d (.lst (cT ss))]),(2,.cells [.d (.int .i64 w),.d (.int .i64 z)]),(3,.cells [.ptr 2 0])]
theorem Pa:∀ {bks t:List Int}{w z:Int},b9 bks t w z≠none→(sO bks t w z).length≤20*bks.length
 | [],[],_,_,_=>by simp[sO]
 | [],_::_,_,_,h=>absurd rfl h
 | _::_,[],_,_,h=>absurd rfl h
 | k::r,n::t,w,z,h=>by
  have h1:=Cj h
  have h2:=ZJ h1.2.1
  have h3:=Pa (by rw[h1.2.2]at h;exact h)
  rw[sO,List.length_append,List.length_cons]
  omega
theorem mD {l:List aC}{lf:Int}(h:fitsS lf l) (h0:0≤lf):((aq l).length:Int)=lf:=by
 induction l generalizing lf with
 | nil=>simp only[fitsS]at h;simp[aq,h]
 | cons s r ih =>
  obtain⟨h1,h2⟩:=h
  have h3:=h1.1
  have:=ih h2 (by omega)
  rw[aq]at this⊢
  rw[List.flatMap_cons,List.length_append,List.length_replicate]
  omega
theorem afb (ss:List (List Int)) (hss:ss.length≤1000) (hss2:∀ t∈ss,t.length≤100000) (gs:List (List aC)) (hgs:gs.length≤1000) (m:Int) (hm:0≤m∧m≤1000):∀ (gr:List (List aC)) (sr:List (List Int)) (i N:Nat) (b:List Nat) (w z:Int),gs.drop i=gr→ss.drop i=sr→cQ m gr→(∀ l∈gr,l.length≤1000)→li w→li z→mh gr sr w z≠none→4≤N→b.length+20000*gr.length≤600000000→
  ∃ M w' z',(Dn prog).code (.loop nH) ⟨[(4,.ptr 0 0),(7,.ptr 1 0),(11,.ptr 3 0),(32,.d (.lst (bW gs))),(33,.d (.int .i64 gs.length)),(34,.d (.int .i64 i))],⟨aqy ss (.own false 1 (ah b)) w z,N⟩⟩ =
  some (.exit 0,⟨[(4,.ptr 0 0)],⟨[(0,.cells [.own false 1 (ah (b++nB gr sr w z))]),(2,.cells [.d (.int .i64 w'),.d (.int .i64 z')])],M⟩⟩):=by
 intro gr
 induction gr with
 | nil =>
  intro sr i N b w z hd hd2 hf hl hw hz hr hN hb
  have hi:=an hd
  refine⟨N,w,z,?_⟩
  have e:b++nB [] sr w z=b:=by cases sr<;>simp[nB]
  rw[aa nH.eq_1,e]
  simp (maxSteps:=300000) (disch:=omega) [↓if_pos,↓if_neg]
 | cons l r ih =>
  intro sr i N b w z hd hd2 hf hl hw hz hr hN hb
  simp only[List.length_cons]at hb
  have hg:=iI hd
  have hlt:=ax hd
  have hfl:=hf l (.head _)
  have hll:=hl l (.head _)
  have hbk:=mD hfl hm.1
  cases sr with
  | nil=>exact absurd rfl hr
  | cons t s =>
   have hgt:=vZ hd2
   have htl:=hss2 t (by rw[←List.take_append_drop i ss,hd2];simp)
   have hlt2:=ax hd2
   rw[mh]at hr
   cases hrow:b9 (aq l) t w z with
   | none=>rw[hrow]at hr;exact absurd rfl hr
   | some fin =>
    rw[hrow]at hr
    have hrl:=Pa (bks:=aq l) (t:=t) (w:=w) (z:=z) (by rw[hrow];simp)
    have hb1:=ag3 (p:=N+1) (auN (ss:=ss) (g:=i) (l:=l) (q:=acm gs i N) hN) aii l (ar9 ss hss gs hgs i N hN t htl hgt l (Qr hfl) (by omega) fin (b++sO (aq l) t w z)) (fun s=>by simp (maxSteps:=300000) (disch:=omega) [↓if_neg]) hll (fun q hq=>by have:=(sc hfl hm.2 q hq).1;omega) (N+1+1+1) (b,w,z) (Nat.le_refl _) ⟨⟨by simp only[];omega,rfl⟩,hw,hz,by simpa using hrow⟩
    rcases hb1 with ⟨⟨b2,w2,z2⟩,M,e1,⟨⟨e2,e2'⟩,e3,e4,e5⟩,e6,e7⟩ | ⟨z,_⟩
    ·rw[List.drop_eq_nil_of_le (Nat.le_refl _)]at e5 e2'
     obtain⟨e8,e9⟩:=ad4 e5
     simp only at e2 e3 e4 e8
     subst e8
     have e10:b2=b++sO (aq l) t w z:=by
      rw[←e2']
      cases t.drop (aq l).length<;>simp[sO]
     subst e10
     obtain⟨M2,w3,z3,f⟩:=ih s (i+1) M (b++sO (aq l) t w z) w2 z2 (ar hd) (ar hd2) (fun q hq=>hf q (.tail _ hq)) (fun q hq=>hl q (.tail _ hq)) e3 e4 hr (by omega) (by rw[List.length_append];omega)
     refine⟨M2,w3,z3,?_⟩
     have c1:((i+1:Nat):Int)=(i:Int)+1:=rfl
     rw[c1]at f
     simp only[amf,FP]at e7
     obtain⟨n0,n1,n2,n3⟩:N≠0∧N≠1∧N≠2∧N≠3:=by omega
     have eT:b++nB (l::r) (t::s) w z=b++sO (aq l) t w z++nB r s w2 z2:=by rw[nB,hrow,List.append_assoc]
     rw[aa nH.eq_1,eT,←f]
     simp (maxSteps:=300000) (disch:=omega) [↓if_pos,↓if_neg,hg,hgt,bq,Nn,n0,n1,n2,n3,rd,e7]
    ·exact nomatch z
theorem ajx (b:List Nat) (hb:b.length≤500000000) (x:AV) (hx:x=.d (.lst (ah b))∨x=.nl∧b=[]) (gain m:Int) (g:List (List aC)) (t:List (List Int)) (hgn:0≤gain∧gain≤255) (hl:g.length≤8) (hm:0≤m∧m≤40) (hf:cQ m g) (hf2:∀ l∈g,l.length≤1000) (ht:tN gain g t) (ht2:∀ l∈t,l.length≤100000) :
  aL prog CK [x,.d (.int .i64 gain),.d (.lst (bW g)),.d (.lst (cT t))]=some (.tup [.own true 1 (ah (b++nB g t gain (-1))),.d (.int .i64 0)]):=by
 have h1:=afs gain m g t hgn hl hm hf hf2 ht ht2
 have hlen:=Cr ht
 obtain⟨M,w,z,e⟩:=afb t (by omega) ht2 g (by omega) m (by omega) g t 0 4 b gain (-1) rfl rfl hf hf2 (by omega) (by omega) ht (Nat.le_refl _) (by omega)
 have c0:((0:Nat):Int)=0:=rfl
 rw[c0]at e
 have hp:=im b 0 0 (by omega) (by omega) x hx
 rw[if_pos (by decide)]at hp
 have t0:(0:Int).toNat=0:=rfl
 rw[t0,ae,List.append_nil]at hp
 simp only[aqy]at e
 rw[am afC DO.eq_1 rfl]
 rcases hx with rfl | ⟨rfl,rfl⟩
 all_goals simp (maxSteps:=300000) (disch:=omega) [↓if_pos,↓if_neg,h1,hp,e]
end Go.Vm
namespace Go.Vm
set_option maxHeartbeats 2000000
set_option maxRecDepth 100000
structure aV where
 len:Int
 order:Int
 down:Bool
 fine:Bool
 coefs:List Int
abbrev aV.cells (f:aV):List D:=[.int .i64 f.len,.int .i64 f.order,.bool f.down,.bool f.fine,.lst (aI f.coefs)]
abbrev aV.av (f:aV):List AV:=[.d (.int .i64 f.len),.d (.int .i64 f.order),.d (.bool f.down),.d (.bool f.fine),.d (.lst (aI f.coefs))]
def cG (l:List aV):List (List D):=l.map aV.cells
@[simp] theorem adt {l:List aV}:(cG l).length=l.length:=by simp[cG]
theorem qd {l:List aV}{i:Nat}{s:aV}{r:List aV}(h:l.drop i=s::r):(cG l)[i]?=some [.int .i64 s.len,.int .i64 s.order,.bool s.down,.bool s.fine,.lst (aI s.coefs)]:=by
 have:=congrArg (fun l=>l[0]?) h
 simp only[List.getElem?_drop,List.getElem?_cons_zero,Nat.add_zero]at this
 rw[cG,List.getElem?_map,this];rfl
def dw (t:List (List aV)):List (List D):=t.map fun l=>[.lst (cG l)]
@[simp] theorem ajR {t:List (List aV)}:(dw t).length=t.length:=by simp[dw]
theorem ku {g:List (List aV)}{i:Nat}{l:List aV}{r:List (List aV)}(h:g.drop i=l::r):(dw g)[i]?=some [.lst (cG l)]:=by
 have:=congrArg (fun l=>l[0]?) h
 simp only[List.getElem?_drop,List.getElem?_cons_zero,Nat.add_zero]at this
 rw[dw,List.getElem?_map,this];rfl
theorem QQ (h:Int):∀ (l:List Int),l.any (fun c=>decide (c < -h∨h≤c))=!decide (∀ c∈l,-h≤c∧c<h)
 | []=>by simp
 | c::r=>by
  rw[List.any_cons,QQ h r]
  by_cases h1:-h≤c∧c<h
  ·rw[decide_eq_false (p:=c < -h∨h≤c) (by omega)]
   simp[h1]
  ·rw[decide_eq_true (p:=c < -h∨h≤c) (by omega)]
   simp[h1]
def cD (fine:Bool):Int:=if fine then 8 else 4
def t8 (sh:Bool):Int:=if sh then 15 else 63
def mS (sh:Bool):Int:=if sh then 7 else 12
def zE (sh:Bool) (f:aV):Prop:=(0≤f.len∧f.len≤t8 sh)∧(0≤f.order∧f.order≤mS sh)∧(f.coefs.length:Int)=f.order∧(f.order=0→f.down=false)∧∀ c∈f.coefs,-cD f.fine≤c∧c<cD f.fine
instance {sh:Bool}{f:aV}:Decidable (zE sh f):=by unfold zE;infer_instance
theorem IA (b:Bool):aL prog nK [.d (.bool b)]=some (.d (.int .i64 (if b then 4 else 3))):=by
 rw[am Xm tO.eq_1 rfl]
 cases b<;>simp (maxSteps:=300000) (disch:=omega)
theorem vw (b:Bool):aL prog jz [.d (.bool b)]=some (.d (.int .i64 (if b then 1 else 0))):=by
 rw[am aaU xd.eq_1 rfl]
 cases b<;>simp (maxSteps:=300000) (disch:=omega)
def fP (sh:Bool):List AV:=if sh then [.d (.int .i64 1),.d (.int .i64 4),.d (.int .i64 3),.d (.int .i64 1),.d (.int .i64 7)] else [.d (.int .i64 2),.d (.int .i64 6),.d (.int .i64 5),.d (.int .i64 3),.d (.int .i64 12)]
def aD.short (i:aD):Bool:=decide (i.seq=2)
theorem wG (i:aD):aL prog jK [.agg i.cells]=some (.agg (fP i.short)):=by
 rw[am Tg so.eq_1 rfl]
 unfold fP aD.short
 by_cases h:i.seq=2
 ·simp (maxSteps:=300000) (disch:=omega) [↓if_pos,h]
 ·simp (maxSteps:=300000) (disch:=omega) [↓if_neg,h]
theorem are (m:Nat) (hm:m≤100000) (v:Int) (N:Nat):(Dn prog).call ma [.d (.int .i64 v),.ptr 0 0] ⟨[(0,.cells [.d (.int .i64 m)])],N⟩=some (.d (.bool (decide (v < -(m:Int)∨(m:Int)≤v))),⟨[(0,.cells [.d (.int .i64 m)])],N⟩):=by
 rw[aA RB sy.eq_1 rfl]
 by_cases h1:v < -(m:Int)
 ·simp (maxSteps:=300000) (disch:=omega) [↓if_pos,h1]
 ·by_cases h2:(m:Int)≤v
  ·simp (maxSteps:=300000) (disch:=omega) [↓if_pos,↓if_neg,h1,h2]
  ·simp (maxSteps:=300000) (disch:=omega) [↓if_pos,↓if_neg,h1,h2]
theorem NJ (l:List Int) (hl:l.length≤1000000) (s:Nat) (hs:1≤s∧s≤10):aL prog oP [.d (.lst (aI l)),.d (.int .i64 s)]=some (.d (.bool (decide (∀ c∈l,-((2 ^ (s-1):Nat):Int)≤c∧c<((2 ^ (s-1):Nat):Int))))):=by
 have hp:2 ^ (s-1)≤2 ^ 10:=Nat.pow_le_pow_right (by omega) (by omega)
 have q2:=acv (m:=s-1) (by omega)
 have c1:((s-1:Nat):Int)=(s:Int)-1:=by omega
 rw[c1]at q2
 generalize 2 ^ (s-1)=P at *
 have h1:=pt (.fn ma [] [.ptr 0 0]) (fun c=>decide (c < -(P:Int)∨(P:Int)≤c)) l (by omega) [(0,.cells [.d (.int .i64 P)])] 1 rfl rfl fun v _=>by
  have:=are P (by omega) v 1
  simpa using this
 rw[QQ]at h1
 rw[am abd xi.eq_1 rfl]
 simp (maxSteps:=300000) (disch:=omega) [-EZ,q2,h1]
theorem abb (i:aD) (f:aV) (h:zE i.short f):aL prog rX [.agg i.cells,.agg f.av]=some (.d (.bool true)):=by
 obtain⟨⟨l1,l2⟩,⟨o1,o2⟩,c1,d1,c2⟩:=h
 have hs:=wG i
 have hw:=IA f.fine
 have hof:mS i.short≤12:=by unfold mS;split<;>omega
 have hft:=NJ f.coefs (by omega) (if f.fine then 4 else 3) (by split<;>omega)
 have hh:((2 ^ ((if f.fine then 4 else 3)-1):Nat):Int)=cD f.fine:=by unfold cD;split<;>rfl
 rw[hh,decide_eq_true c2]at hft
 have hc:(((if f.fine=true then 4 else 3:Nat)):Int)=if f.fine=true then 4 else 3:=by split<;>rfl
 rw[hc]at hft
 have hl:=bq (l:=f.coefs)
 generalize hW:(if f.fine=true then (4:Int) else 3)=W at *
 simp only[aD.cells]at hs
 have hdn:f.order > 0∨f.order=0∧f.down=false:=by
  rcases Int.lt_or_eq_of_le o1 with h | h
  ·exact .inl h
  ·exact .inr ⟨h.symm,d1 h.symm⟩
 rw[am Ue r7.eq_1 rfl]
 unfold t8 at l2
 unfold mS at o2
 cases hsh:i.short with
 | true =>
  rw[hsh]at l2 o2 hs
  simp only[fP,if_true]at l2 o2 hs
  rcases hdn with hdn | ⟨h0,hdn⟩
  ·simp (config := { maxSteps:=1000000 }) (disch:=omega) [↓if_pos,↓if_neg,hs,hw,hft]
  ·simp (config := { maxSteps:=1000000 }) (disch:=omega) [↓if_pos,↓if_neg,hs,hw,hft,hdn]
 | false =>
  rw[hsh]at l2 o2 hs
  simp only[fP]at l2 o2 hs
  simp only[Bool.false_eq_true,if_false]at l2 o2 hs
  rcases hdn with hdn | ⟨h0,hdn⟩
  ·simp (config := { maxSteps:=1000000 }) (disch:=omega) [↓if_pos,↓if_neg,hs,hw,hft]
  ·simp (config := { maxSteps:=1000000 }) (disch:=omega) [↓if_pos,↓if_neg,hs,hw,hft,hdn]
theorem Xl (F:AV) (P:aV→Bool) (l:List aV) (hl:l.length≤1000000000) (h:ac) (N0:Nat) (hF:firm (share F)=F) (hc:∀ f∈l,∀ N,N0≤N→aP (Dn prog) F [.agg f.av] ⟨h,N⟩=some (.d (.bool (P f)),⟨h,N+1⟩)):∀ (r:List aV) (i N:Nat),l.drop i=r→N0≤N→
  (r.any P=true∧∃ k M:Nat,N≤M∧(Dn prog).code (.loop br) ⟨[(0,.d (.lst (cG l))),(1,F),(7,.d (.int .i64 l.length)),(8,.d (.int .i64 i))],⟨h,N⟩⟩=some (.ret,⟨[(4,.d (.int .i64 k))],⟨h,M⟩⟩))∨
  (r.any P=false∧∃ M,N≤M∧(Dn prog).code (.loop br) ⟨[(0,.d (.lst (cG l))),(1,F),(7,.d (.int .i64 l.length)),(8,.d (.int .i64 i))],⟨h,N⟩⟩=some (.exit 0,⟨[],⟨h,M⟩⟩)):=by
 intro r
 induction r with
 | nil =>
  intro i N hd hN
  have hi:=an hd
  refine .inr ⟨rfl,N,Nat.le_refl _,?_⟩
  rw[aa br.eq_1]
  simp (maxSteps:=300000) (disch:=omega) [↓if_neg]
 | cons v r ih =>
  intro i N hd hN
  have hg:=qd hd
  have hlt:=ax hd
  have hv:=hc v (by rw[←List.take_append_drop i l,hd];simp) N hN
  have h5:=ih (i+1) (N+1) (ar hd) (by omega)
  have c1:((i+1:Nat):Int)=(i:Int)+1:=rfl
  rw[c1]at h5
  cases hp:P v with
  | true =>
   rw[hp]at hv
   refine .inl ⟨by rw[List.any_cons,hp];rfl,i,N+1,by omega,?_⟩
   rw[aa br.eq_1]
   simp (maxSteps:=300000) (disch:=omega) [↓if_pos,↓if_neg,hg,hF,hv]
  | false =>
   rw[hp]at hv
   rw[List.any_cons,hp,Bool.false_or]
   rcases h5 with ⟨e1,k,M,e3,e2⟩ | ⟨e1,M,e3,e2⟩
   ·refine .inl ⟨e1,k,M,by omega,?_⟩
    rw[aa br.eq_1,←e2]
    simp (maxSteps:=300000) (disch:=omega) [↓if_pos,↓if_neg,hg,hF,hv]
   ·refine .inr ⟨e1,M,by omega,?_⟩
    rw[aa br.eq_1,←e2]
    simp (maxSteps:=300000) (disch:=omega) [↓if_pos,↓if_neg,hg,hF,hv]
theorem uT (F:AV) (P:aV→Bool) (l:List aV) (hl:l.length≤1000000000) (h:ac) (N:Nat) (hF:firm (share F)=F) (hF2:firm F=F) (hc:∀ f∈l,∀ M,N≤M→aP (Dn prog) F [.agg f.av] ⟨h,M⟩=some (.d (.bool (P f)),⟨h,M+1⟩)) :
  ∃ M,N≤M∧(Dn prog).call bQ [.d (.lst (cG l)),F] ⟨h,N⟩=some (.d (.bool (l.any P)),⟨h,M⟩):=by
 have h1:=Xl F P l hl h N hF hc l 0 N rfl (Nat.le_refl _)
 have c0:((0:Nat):Int)=0:=rfl
 rw[c0]at h1
 have h2:∃ (k:Int) (M:Nat),N≤M∧(0≤k↔l.any P=true)∧(Dn prog).call gU [.d (.lst (cG l)),F] ⟨h,N⟩=some (.d (.int .i64 k),⟨h,M⟩):=by
  rcases h1 with ⟨e1,k,M,e3,e2⟩ | ⟨e1,M,e3,e2⟩
  ·refine⟨k,M,e3,⟨fun _=>e1,fun _=>by omega⟩,?_⟩
   rw[aA lB ej.eq_1 rfl]
   simp (maxSteps:=300000) (disch:=omega) [e2]
  ·refine⟨-1,M,e3,⟨fun h=>by omega,fun h=>by rw[e1]at h;exact absurd h (by simp)⟩,?_⟩
   rw[aA lB ej.eq_1 rfl]
   simp (maxSteps:=300000) (disch:=omega) [e2]
 obtain⟨k,M,e3,e1,e2⟩:=h2
 refine⟨M,e3,?_⟩
 rw[aA tn fF.eq_1 rfl]
 cases hp:l.any P with
 | true =>
  have:=e1.2 hp
  simp (maxSteps:=300000) (disch:=omega) [↓if_pos,hF2,e2]
 | false =>
  have:¬ 0≤k:=fun h=>by rw[e1.1 h]at hp;exact absurd hp (by simp)
  simp (maxSteps:=300000) (disch:=omega) [↓if_neg,hF2,e2]
theorem aaL (lo hi v:Int) (hlo:-100≤lo∧lo≤0) (hhi:0≤hi∧hi≤100) (X:Obj) (N:Nat):(Dn prog).call jF [.d (.int .i64 v),.ptr 1 0,.ptr 2 0] ⟨[(0,X),(1,.cells [.d (.int .i64 lo)]),(2,.cells [.d (.int .i64 hi)])],N⟩=some (.d (.bool (decide (v<lo∨hi<v))),⟨[(0,X),(1,.cells [.d (.int .i64 lo)]),(2,.cells [.d (.int .i64 hi)])],N⟩):=by
 rw[aA Vg r9.eq_1 rfl]
 by_cases h1:v<lo
 ·simp (maxSteps:=300000) (disch:=omega) [↓if_pos,h1]
 ·by_cases h2:hi<v
  ·simp (maxSteps:=300000) (disch:=omega) [↓if_pos,↓if_neg,h1,h2]
  ·simp (maxSteps:=300000) (disch:=omega) [↓if_pos,↓if_neg,h1,h2]
theorem ail (X:Obj) (l:List Int) (hl:l.length≤1000000) (fine:Bool):(Dn prog).call cm [.d (.lst (aI l)),.fn jF [] [.ptr 1 0,.ptr 2 0]] ⟨[(0,X),(1,.cells [.d (.int .i64 (-cD fine))]),(2,.cells [.d (.int .i64 (cD fine-1))])],3⟩ =
  some (.d (.bool (!decide (∀ c∈l,-cD fine≤c∧c<cD fine))),⟨[(0,X),(1,.cells [.d (.int .i64 (-cD fine))]),(2,.cells [.d (.int .i64 (cD fine-1))])],3⟩):=by
 have hh:4≤cD fine∧cD fine≤8:=by unfold cD;split<;>omega
 have h1:=pt (.fn jF [] [.ptr 1 0,.ptr 2 0]) (fun c=>decide (c < -cD fine∨cD fine-1<c)) l (by omega) [(0,X),(1,.cells [.d (.int .i64 (-cD fine))]),(2,.cells [.d (.int .i64 (cD fine-1))])] 3 rfl rfl fun v _=>by
  have:=aaL (-cD fine) (cD fine-1) v (by omega) (by omega) X 3
  simpa using this
 have e:(fun c:Int=>decide (c < -cD fine∨cD fine-1<c))=fun c=>decide (c < -cD fine∨cD fine≤c):=by
  funext c
  rw[decide_eq_decide]
  omega
 rw[e,QQ]at h1
 exact h1
theorem af8 (sh:Bool) (f:aV) (hl:f.coefs.length≤1000000):aL prog wL [.agg f.av,.d (.bool sh)]=some (.d (.bool (decide (zE sh f)))):=by
 rw[am abS w8.eq_1 rfl]
 have hll:=bq (l:=f.coefs)
 have hls:t8 sh=if sh then 15 else 63:=rfl
 have hos:mS sh=if sh then 7 else 12:=rfl
 by_cases a1:0≤f.len∧f.len≤t8 sh
 ·by_cases a2:0≤f.order∧f.order≤mS sh
  ·by_cases a3:(f.coefs.length:Int)=f.order
   ·by_cases a4:f.order=0∧f.down=true
    ·rw[decide_eq_false (fun h=>by have:=h.2.2.2.1 a4.1;rw[a4.2]at this;exact absurd this (by simp))]
     obtain⟨a4,a5⟩:=a4
     cases sh<;>simp only[t8,mS,if_true,Bool.false_eq_true,if_false]at a1 a2<;>simp (config := { maxSteps:=1000000 }) (disch:=omega) [↓if_pos,↓if_neg,a5]
    ·have hc:=ail (.cells f.av) f.coefs hl f.fine
     have hd:decide (zE sh f)=decide (∀ c∈f.coefs,-cD f.fine≤c∧c<cD f.fine):=by
      rw[decide_eq_decide]
      refine⟨fun h=>h.2.2.2.2,fun h=>⟨a1,a2,a3,fun h0=>?_,h⟩⟩
      cases hdn:f.down with
      | false=>rfl
      | true=>exact absurd ⟨h0,hdn⟩ a4
     rw[hd]
     generalize decide (∀ c∈f.coefs,-cD f.fine≤c∧c<cD f.fine)=B at *
     have h4:cD false=4:=rfl
     have h8:cD true=8:=rfl
     by_cases h0:f.order=0
     ·have hdn:f.down=false:=by
       cases hdn:f.down with
       | false=>rfl
       | true=>exact absurd ⟨h0,hdn⟩ a4
      cases hfn:f.fine<;>simp only[hfn,h4,h8,Int.reduceNeg,Int.reduceSub]at hc<;>cases sh<;>simp only[t8,mS,if_true,Bool.false_eq_true,if_false]at a1 a2<;>simp (config := { maxSteps:=1000000 }) (disch:=omega) [↓if_pos,↓if_neg,hdn,hfn,hc]
     ·cases hfn:f.fine<;>simp only[hfn,h4,h8,Int.reduceNeg,Int.reduceSub]at hc<;>cases sh<;>simp only[t8,mS,if_true,Bool.false_eq_true,if_false]at a1 a2<;>simp (config := { maxSteps:=1000000 }) (disch:=omega) [↓if_pos,↓if_neg,hfn,hc]
   ·rw[decide_eq_false (fun h=>a3 h.2.2.1)]
    cases sh<;>simp only[t8,mS,if_true,Bool.false_eq_true,if_false]at a1 a2<;>simp (config := { maxSteps:=1000000 }) (disch:=omega) [↓if_pos,↓if_neg]
  ·rw[decide_eq_false (fun h=>a2 h.2.1)]
   by_cases b1:f.order<0
   ·cases sh<;>simp only[t8,mS,if_true,Bool.false_eq_true,if_false]at a1 a2<;>simp (config := { maxSteps:=1000000 }) (disch:=omega) [↓if_pos,↓if_neg]
   ·cases sh<;>simp only[t8,mS,if_true,Bool.false_eq_true,if_false]at a1 a2<;>simp (config := { maxSteps:=1000000 }) (disch:=omega) [↓if_pos,↓if_neg]
 ·rw[decide_eq_false (fun h=>a1 h.1)]
  by_cases b1:f.len<0
  ·cases sh<;>simp only[t8,mS,if_true,Bool.false_eq_true,if_false]at a1<;>simp (config := { maxSteps:=1000000 }) (disch:=omega) [↓if_pos,↓if_neg]
  ·cases sh<;>simp only[t8,mS,if_true,Bool.false_eq_true,if_false]at a1<;>simp (config := { maxSteps:=1000000 }) (disch:=omega) [↓if_pos,↓if_neg]
end Go.Vm
namespace Go.Vm
set_option maxHeartbeats 2000000
set_option maxRecDepth 100000
def Lt (H:ac) (N:Nat):Prop:=∀ p∈H,p.1<N
theorem qo {H:ac}{N:Nat}{o:Obj}(h:Lt H N):put H N o=H++[(N,o)]:=by
 induction H with
 | nil=>rfl
 | cons p r ih =>
  obtain⟨k,v⟩:=p
  have h1:=h (k,v) (.head _)
  simp only at h1
  rw[kD,if_neg (by omega),if_neg (by omega),ih (fun p hp=>h p (.tail _ hp)),List.cons_append]
theorem KS {H:ac}{N:Nat}{o o':Obj}(h:Lt H N):put (H++[(N,o)]) N o'=H++[(N,o')]:=by
 induction H with
 | nil=>rw[List.nil_append,kD,if_pos rfl];rfl
 | cons p r ih =>
  obtain⟨k,v⟩:=p
  have h1:=h (k,v) (.head _)
  simp only at h1
  rw[List.cons_append,kD,if_neg (by omega),if_neg (by omega),ih (fun p hp=>h p (.tail _ hp)),List.cons_append]
theorem uo {H:ac}{N:Nat}{o:Obj}(h:Lt H N):get (H++[(N,o)]) N=some o:=by
 induction H with
 | nil=>rw[List.nil_append,bm,if_pos rfl]
 | cons p r ih =>
  obtain⟨k,v⟩:=p
  have h1:=h (k,v) (.head _)
  simp only at h1
  rw[List.cons_append,bm,if_neg (by omega),ih (fun p hp=>h p (.tail _ hp))]
theorem qr {H:ac}{N k:Nat}{o o':Obj}(h:get H k=some o'):get (H++[(N,o)]) k=some o':=by
 induction H with
 | nil=>exact absurd h (by simp[nu])
 | cons p r ih =>
  obtain⟨j,v⟩:=p
  rw[bm]at h
  rw[List.cons_append,bm]
  by_cases hj:j=k
  ·rw[if_pos hj]at h⊢;exact h
  ·rw[if_neg hj]at h⊢;exact ih h
theorem XJ {H:ac}{N:Nat}{o:Obj}(h:Lt H N):del (H++[(N,o)]) N=H:=by
 induction H with
 | nil=>rw[List.nil_append,gZ,if_pos rfl];rfl
 | cons p r ih =>
  obtain⟨k,v⟩:=p
  have h1:=h (k,v) (.head _)
  simp only at h1
  rw[List.cons_append,gZ,if_neg (by omega),ih (fun p hp=>h p (.tail _ hp))]
theorem acl {H:ac}{N M:Nat}(h:Lt H N) (hm:N≤M):Lt H M:=fun p hp=>Nat.lt_of_lt_of_le (h p hp) hm
theorem DT {H:ac}{N:Nat}{o:Obj}(h:Lt H N):Lt (H++[(N,o)]) (N+1):=by
 intro p hp
 rcases List.mem_append.1 hp with h1 | h1
 ·have:=h p h1;omega
 ·rw[List.mem_singleton]at h1;subst h1;exact Nat.lt_succ_self _
@[simp] theorem avU (a b:Bool):TV true (.d (.bool a)) (.d (.bool b))=some (.bool (a != b)):=by cases a<;>cases b<;>rfl
def OB (sh:Bool) (f0 f:aV):Bool:=!decide (zE sh f) || f.fine != f0.fine
theorem ai4 (sh:Bool) (f0:aV) (l:List aV) (f:aV) (hf:f.coefs.length≤1000000) (H:ac) (p q M:Nat) (hp:get H p=some (.cells [.d (.bool sh)])) (hq:get H q=some (.cells [.d (.lst (cG (f0::l)))])) (hl:(f0::l).length≤1000000) (hM:Lt H M) :
  (Dn prog).call fT [.agg f.av,.ptr p 0,.ptr q 0] ⟨H,M⟩=some (.d (.bool (OB sh f0 f)),⟨H,M+1⟩):=by
 have e1:=fun o=>qo (o:=o) hM
 have e2:=fun o=>uo (o:=o) hM
 have e3:=fun o=>qr (N:=M) (o:=o) hp
 have e4:=fun o=>qr (N:=M) (o:=o) hq
 have e5:=fun o=>XJ (o:=o) hM
 have e6:=af8 sh f hf
 have hg:=qd (l:=f0::l) (i:=0) (s:=f0) (r:=l) rfl
 unfold OB
 rw[aA P9 po.eq_1 rfl]
 simp only[aV.av]at e6⊢
 simp only[List.length_cons]at hl
 cases hB:decide (zE sh f) with
 | false =>
  rw[hB]at e6
  simp (maxSteps:=300000) (disch:=omega) [↓if_pos,↓if_neg,e1,e2,e3,e4,e5,e6,hg]
 | true =>
  rw[hB]at e6
  cases hf1:f.fine<;>cases hf2:f0.fine<;>rw[hf1]at e6<;>rw[hf2]at hg<;>
   simp (maxSteps:=300000) (disch:=omega) [↓if_pos,↓if_neg,e1,e2,e3,e4,e5,e6,hg]
structure aK where
 gain:Int
 info:aD
 sects:List (List aC)
 steps:List (List Int)
 tns:List (List aV)
 lines:List Int
abbrev aK.av (c:aK):List AV:=[.d (.int .i64 c.gain),.d (.int .u8 c.info.seq),.d (.int .u8 c.info.shape),.d (.int .i64 c.info.max),.d (.lst (aI c.info.groups)),.d (.lst (bW c.sects)),.d (.lst (cT c.steps)),.d (.lst (dw c.tns)),.d (.lst (aI c.lines))]
structure aK.Fit (c:aK):Prop where
 gain:i64 c.gain
 info:c.info.Fit
 sects:alX c.sects
 secI:∀ l∈c.sects,∀ s∈l,i64 s.book∧i64 s.len
 steps:c.steps.length≤1000∧∀ l∈c.steps,l.length≤1000
 stepI:∀ l∈c.steps,∀ n∈l,i64 n
 tns:c.tns.length≤1000∧∀ l∈c.tns,l.length≤1000∧∀ f∈l,f.coefs.length≤1000
 fltI:∀ l∈c.tns,∀ f∈l,(i64 f.len∧i64 f.order)∧∀ x∈f.coefs,i64 x
 lines:c.lines.length≤100000
 lineI:∀ n∈c.lines,i64 n
def jZ (sh:Bool):Nat:=if sh then 1 else 3
def nA (sh:Bool) (l:List aV):Prop:=l.length≤jZ sh∧∀ f0∈l.head?,∀ f∈l,zE sh f∧f.fine=f0.fine
abbrev acs (i:aD) (t:List (List aV)):Prop:=t.length=i.many∧∀ l∈t,nA i.short l
theorem anV {sh:Bool}{f0:aV}{l:List aV}:l.any (OB sh f0)=false↔∀ f∈l,zE sh f∧f.fine=f0.fine:=by
 rw[List.any_eq_false]
 constructor
 ·intro h f hf
  have:=h f hf
  simp only[OB,Bool.or_eq_true,Bool.not_eq_true',decide_eq_false_iff_not,bne_iff_ne,not_or,Decidable.not_not]at this
  exact this
 ·intro h f hf
  have:=h f hf
  simp[OB,this.1,this.2]
def XB (sh:Bool):List aV→Bool
 | []=>false
 | f0::r=>(f0::r).any (OB sh f0)
theorem adU {sh:Bool}{l:List aV}:nA sh l↔l.length≤jZ sh∧XB sh l=false:=by
 unfold nA
 cases l with
 | nil=>simp[XB]
 | cons f0 r0 =>
  simp only[XB,anV]
  constructor
  ·intro h
   exact⟨h.1,h.2 f0 (by simp)⟩
  ·intro h
   exact⟨h.1,fun f hf=>by simp at hf;subst hf;exact h.2⟩
instance {sh:Bool}{l:List aV}:Decidable (nA sh l):=decidable_of_iff _ adU.symm
theorem Tq (sh:Bool) (full:List (List aV)) (hl:full.length≤1000) (hl2:∀ l∈full,l.length≤1000∧∀ f∈l,f.coefs.length≤1000):∀ (r:List (List aV)) (i N:Nat) (H:ac),full.drop i=r→get H 1=some (.cells [.d (.bool sh)])→Lt H N→2≤N→
  ((∀ l∈r,nA sh l)∧∃ H2 M,(Dn prog).code (.loop dk) ⟨[(5,.ptr 1 0),(6,.d (.int .i64 (jZ sh))),(20,.d (.lst (dw full))),(21,.d (.int .i64 full.length)),(22,.d (.int .i64 i))],⟨H,N⟩⟩=some (.exit 0,⟨[],⟨H2,M⟩⟩))∨
  ((¬ ∀ l∈r,nA sh l)∧∃ H2 M,(Dn prog).code (.loop dk) ⟨[(5,.ptr 1 0),(6,.d (.int .i64 (jZ sh))),(20,.d (.lst (dw full))),(21,.d (.int .i64 full.length)),(22,.d (.int .i64 i))],⟨H,N⟩⟩=some (.ret,⟨[(4,.d (.bool false))],⟨H2,M⟩⟩)):=by
 intro r
 induction r with
 | nil =>
  intro i N H hd hH hL hN
  have hi:=an hd
  refine .inl ⟨by simp,H,N,?_⟩
  rw[aa dk.eq_1]
  simp (maxSteps:=300000) (disch:=omega) [↓if_neg]
 | cons l r ih =>
  intro i N H hd hH hL hN
  have hg:=ku hd
  have hlt:=ax hd
  obtain⟨hll,hlc⟩:=hl2 l (by rw[←List.take_append_drop i full,hd];simp)
  have hm:jZ sh≤3:=by unfold jZ;split<;>omega
  have e1:=fun o=>qo (o:=o) hL
  have e2:=fun o=>uo (o:=o) hL
  have e3:=fun o=>qr (N:=N) (o:=o) hH
  have e4:=fun o o'=>KS (o:=o) (o':=o') hL
  have c1:((i+1:Nat):Int)=(i:Int)+1:=rfl
  by_cases h1:l.length≤jZ sh
  ·have hcf:∃ M,N+1≤M∧(Dn prog).call bQ [.d (.lst (cG l)),.fn fT [] [.ptr 1 0,.ptr N 0]] ⟨H++[(N,.cells [.d (.lst (cG l))])],N+1⟩=some (.d (.bool (XB sh l)),⟨H++[(N,.cells [.d (.lst (cG l))])],M⟩):=by
    cases l with
    | nil =>
     exact uT (.fn fT [] [.ptr 1 0,.ptr N 0]) (fun _=>false) [] (by simp) _ (N+1) rfl rfl fun f hf=>by simp at hf
    | cons f0 r0 =>
     refine uT (.fn fT [] [.ptr 1 0,.ptr N 0]) (OB sh f0) (f0::r0) (by omega) _ (N+1) rfl rfl fun f hf M hM=>?_
     have:=ai4 sh f0 r0 f (by have:=hlc f hf;omega) (H++[(N,.cells [.d (.lst (cG (f0::r0)))])]) 1 N M (e3 _) (e2 _) (by omega) (acl (DT hL) hM)
     simpa using this
   obtain⟨M,hM,e5⟩:=hcf
   have hW:XB sh l=false↔nA sh l:=by rw[adU];exact⟨fun h=>⟨h1,h⟩,fun h=>h.2⟩
   generalize XB sh l=B at *
   cases B with
   | true =>
    refine .inr ⟨fun h=>?_,H++[(N,.cells [.d (.lst (cG l))])],M,?_⟩
    ·have:=hW.2 (h l (.head _))
     exact absurd this (by simp)
    ·rw[aa dk.eq_1]
     simp (maxSteps:=300000) (disch:=omega) [↓if_pos,↓if_neg,hg,e1,e2,e4,e5]
   | false =>
    have hw:=hW.1 rfl
    have h5:=ih (i+1) M (H++[(N,.cells [.d (.lst (cG l))])]) (ar hd) (e3 _) (acl (DT hL) hM) (by omega)
    rw[c1]at h5
    rcases h5 with ⟨f1,H2,M2,f2⟩ | ⟨f1,H2,M2,f2⟩
    ·refine .inl ⟨fun q hq=>?_,H2,M2,?_⟩
     ·rcases List.mem_cons.1 hq with h | h
      ·rw[h];exact hw
      ·exact f1 q h
     ·rw[aa dk.eq_1,←f2]
      simp (maxSteps:=300000) (disch:=omega) [↓if_pos,↓if_neg,hg,e1,e2,e4,e5]
    ·refine .inr ⟨fun h=>f1 fun q hq=>h q (.tail _ hq),H2,M2,?_⟩
     rw[aa dk.eq_1,←f2]
     simp (maxSteps:=300000) (disch:=omega) [↓if_pos,↓if_neg,hg,e1,e2,e4,e5]
  ·refine .inr ⟨fun h=>h1 (h l (.head _)).1,H++[(N,.cells [.d (.lst (cG l))])],N+1,?_⟩
   rw[aa dk.eq_1]
   simp (maxSteps:=300000) (disch:=omega) [↓if_pos,↓if_neg,hg,e1,e2,e4]
theorem aez (c:aK) (hc:c.Fit) (w:Nat) (hw:w≤8):aL prog nE [.agg c.av,.d (.int .i64 w)]=some (.d (.bool (decide (c.tns.length=w∧∀ l∈c.tns,nA c.info.short l)))):=by
 have hl:=hc.tns.1
 have h0:=Tq c.info.short c.tns hc.tns.1 hc.tns.2 c.tns 0 2 [(1,.cells [.d (.bool c.info.short)])] rfl (by simp) (fun p hp=>by rw[List.mem_singleton]at hp;subst hp;show 1<2;omega) (by omega)
 have c0:((0:Nat):Int)=0:=rfl
 rw[c0]at h0
 have m1:((1:Nat):Int)=1:=rfl
 have m3:((3:Nat):Int)=3:=rfl
 rw[am Ze ug.eq_1 rfl]
 by_cases h1:c.tns.length=w
 ·have hsh:c.info.short=decide (c.info.seq=2):=rfl
  have e:decide (c.tns.length=w∧∀ l∈c.tns,nA c.info.short l)=decide (∀ l∈c.tns,nA c.info.short l):=by simp[h1]
  rw[e]
  rcases h0 with ⟨f1,H2,M2,f2⟩ | ⟨f1,H2,M2,f2⟩
  ·rw[decide_eq_true f1]
   by_cases hs:c.info.seq=2
   ·rw[decide_eq_true hs]at hsh
    rw[hsh]at f2
    simp only[jZ,if_true,m1]at f2
    simp (maxSteps:=300000) (disch:=omega) [↓if_pos,↓if_neg,f2]
   ·rw[decide_eq_false hs]at hsh
    rw[hsh]at f2
    simp only[jZ,Bool.false_eq_true,if_false,m3]at f2
    simp (maxSteps:=300000) (disch:=omega) [↓if_pos,↓if_neg,f2]
  ·rw[decide_eq_false f1]
   by_cases hs:c.info.seq=2
   ·rw[decide_eq_true hs]at hsh
    rw[hsh]at f2
    simp only[jZ,if_true,m1]at f2
    simp (maxSteps:=300000) (disch:=omega) [↓if_pos,↓if_neg,f2]
   ·rw[decide_eq_false hs]at hsh
    rw[hsh]at f2
    simp only[jZ,Bool.false_eq_true,if_false,m3]at f2
    simp (maxSteps:=300000) (disch:=omega) [↓if_pos,↓if_neg,f2]
 ·rw[decide_eq_false (fun h=>h1 h.1)]
  by_cases hs:c.info.seq=2
  ·simp (maxSteps:=300000) (disch:=omega) [↓if_pos,↓if_neg]
  ·simp (maxSteps:=300000) (disch:=omega) [↓if_pos,↓if_neg]
end Go.Vm
namespace Go.Vm
set_option maxHeartbeats 2000000
set_option maxRecDepth 100000
def wM:Int→List aC→Option Int
 | a,[]=>some a
 | a,s::r=>if (1≤s.len∧s.len≤40)∧I4 s.book then wM (a+s.len) r else none
theorem XE:∀ {l:List aC}{a v:Int},wM a l=some v→a+l.length≤v∧v≤a+40*l.length
 | [],a,v,h=>by simp only[wM]at h;injection h with h;simp;omega
 | s::r,a,v,h=>by
  rw[wM]at h
  split at h
  ·rename_i h1
   have:=XE h
   simp only[List.length_cons];omega
  ·exact absurd h (by simp)
theorem Jq {m:Int}(hm:m≤40):∀ {l:List aC}{a:Int},0≤a→(wM a l=some m↔fitsS (m-a) l)
 | [],a,h=>by
  simp only[wM,fitsS,Option.some.injEq];omega
 | s::r,a,h=>by
  rw[wM,fitsS]
  by_cases h1:(1≤s.len∧s.len≤40)∧I4 s.book
  ·rw[if_pos h1,Jq hm (by omega)]
   have e:m-(a+s.len)=m-a-s.len:=by omega
   rw[e]
   constructor
   ·intro h2
    refine⟨⟨⟨h1.1.1,?_⟩,h1.2⟩,h2⟩
    have:=(Jq (l:=r) (a:=a+s.len) hm (by omega)).2 (by rw[e];exact h2)
    have:=XE this
    omega
   ·intro h2;exact h2.2
  ·rw[if_neg h1]
   constructor
   ·intro h2;exact absurd h2 (by simp)
   ·intro h2
    obtain⟨⟨⟨a1,a2⟩,a3⟩,a4⟩:=h2
    exact absurd ⟨⟨a1,by omega⟩,a3⟩ h1
theorem OP (full:List aC) (hl:full.length≤1000) (X:Obj) (x4:AV) (x17:AV) (y18 y19:D):∀ (r:List aC) (i:Nat) (a:Int) (N:Nat),full.drop i=r→0≤a∧a≤40*i→1≤N→
  ∃ M,N≤M∧(Dn prog).code (.loop gp) ⟨[(1,.ptr 0 0),(4,x4),(5,.d (.int .i64 a)),(17,x17),(18,.d y18),(19,.d y19),(23,.d (.lst (ge full))),(24,.d (.int .i64 full.length)),(25,.d (.int .i64 i))],⟨[(0,X)],N⟩⟩ =
  match wM a r with
  | some v=>some (.exit 2,⟨[(1,.ptr 0 0),(4,x4),(5,.d (.int .i64 v)),(17,x17),(18,.d y18),(19,.d y19)],⟨[(0,X)],M⟩⟩)
  | none=>some (.ret,⟨[(2,.d (.bool false))],⟨[],M⟩⟩):=by
 intro r
 induction r with
 | nil =>
  intro i a N h h0 hN
  have hi:=an h
  refine⟨N,Nat.le_refl _,?_⟩
  rw[aa gp.eq_1,wM]
  simp (maxSteps:=300000) (disch:=omega) [↓if_pos,↓if_neg]
 | cons s r ih =>
  intro i a N h h0 hN
  have hg:=pG h
  have hlt:=ax h
  have hN0:N≠0:=by omega
  by_cases hr:(1≤s.len∧s.len≤40)∧I4 s.book
  ·have hr1:=hr.1
   obtain⟨M,hM,e⟩:=ih (i+1) (a+s.len) (N+1) (ar h) (by omega) (by omega)
   refine⟨M,by omega,?_⟩
   have c1:((i+1:Nat):Int)=(i:Int)+1:=rfl
   rw[c1]at e
   rw[aa gp.eq_1,wM,if_pos hr,←e]
   obtain⟨⟨r1,r2⟩,r3,r4 | r4⟩:=hr
   ·simp (maxSteps:=300000) (disch:=omega) [↓if_pos,↓if_neg,hg,hN0]
   ·simp (maxSteps:=300000) (disch:=omega) [↓if_pos,↓if_neg,hg,hN0]
  ·refine⟨N+1,by omega,?_⟩
   rw[aa gp.eq_1,wM,if_neg hr]
   by_cases b1:s.len<1
   ·simp (maxSteps:=300000) (disch:=omega) [↓if_pos,↓if_neg,hg,hN0]
   ·by_cases b2:40<s.len
    ·simp (maxSteps:=300000) (disch:=omega) [↓if_pos,↓if_neg,hg,hN0]
    ·by_cases b3:s.book<0
     ·simp (maxSteps:=300000) (disch:=omega) [↓if_pos,↓if_neg,hg,hN0]
     ·have b4:11<s.book∧s.book≠13:=by
       unfold I4 at hr;omega
      obtain⟨b4,b5⟩:=b4
      simp (maxSteps:=300000) (disch:=omega) [↓if_pos,↓if_neg,hg,hN0]
theorem aoP:∀ x∈yd,rH x.1 x.2≤40:=by decide +kernel
theorem lG {i:aD}(hm:i.may 11):0≤i.max∧i.max≤40:=by
 have h1:=hm.2.2.1
 have h2:=hm.2.2.2.1
 have h3:=aoP _ (jV (r:=11) (s:=decide (i.seq=2)) (by omega))
 simp only[]at h3
 omega
theorem PC (c:aK) (hm:0≤c.info.max∧c.info.max≤40) (hl:c.sects.length≤1000) (hl2:∀ l∈c.sects,l.length≤1000):∀ (g:List (List aC)) (j:Nat) (N:Nat),c.sects.drop j=g→1≤N→
  ∃ H M,(Dn prog).code (.loop eC) ⟨[(1,.ptr 0 0),(17,.d (.lst (bW c.sects))),(18,.d (.int .i64 c.sects.length)),(19,.d (.int .i64 j))],⟨[(0,.cells c.av)],N⟩⟩ =
  if cQ c.info.max g then some (.exit 0,⟨[],⟨H,M⟩⟩) else some (.ret,⟨[(2,.d (.bool false))],⟨H,M⟩⟩):=by
 simp only[aK.av]
 intro g
 induction g with
 | nil =>
  intro j N h hN
  have hi:=an h
  refine⟨[],N,?_⟩
  rw[aa eC.eq_1,if_pos (show cQ c.info.max [] from fun _ h=>by simp at h)]
  simp (maxSteps:=300000) (disch:=omega) [↓if_pos,↓if_neg]
 | cons l r ih =>
  intro j N h hN
  have hg:=iI h
  have hlt:=ax h
  have hll:l.length≤1000:=hl2 l (by rw[←List.take_append_drop j c.sects,h];simp)
  obtain⟨M,hM,e⟩:=OP l hll (.cells c.av) (.d (.lst (ge l))) (.d (.lst (bW c.sects))) (.int .i64 c.sects.length) (.int .i64 j) l 0 0 N rfl (by omega) hN
  have c0:((0:Nat):Int)=0:=rfl
  rw[c0]at e
  simp only[aK.av]at e
  have hiff:=Jq (m:=c.info.max) hm.2 (l:=l) (a:=0) (by omega)
  rw[Int.sub_zero]at hiff
  cases hrm:wM 0 l with
  | none =>
   rw[hrm]at e hiff
   refine⟨[],M,?_⟩
   have hn:¬ cQ c.info.max (l::r):=fun h=>absurd (hiff.2 (h l (.head _))) (by simp)
   rw[aa eC.eq_1,if_neg hn]
   simp (maxSteps:=300000) (disch:=omega) [↓if_pos,↓if_neg,hg,e]
  | some v =>
   rw[hrm]at e hiff
   have hv:=XE hrm
   by_cases h9:v=c.info.max
   ·subst h9
    have hf:=hiff.1 rfl
    obtain⟨H2,M2,e2⟩:=ih (j+1) M (ar h) (by omega)
    refine⟨H2,M2,?_⟩
    have hx:cQ c.info.max (l::r)↔cQ c.info.max r:=by simp[cQ,hf]
    have c1:((j+1:Nat):Int)=(j:Int)+1:=rfl
    rw[c1]at e2
    rw[aa eC.eq_1,aiH hx,←e2]
    simp (maxSteps:=300000) (disch:=omega) [↓if_pos,↓if_neg,hg,e]
   ·refine⟨[],M,?_⟩
    have hn:¬ cQ c.info.max (l::r):=fun h=>by
     have:=hiff.2 (h l (.head _))
     injection this with this;exact h9 this
    rw[aa eC.eq_1,if_neg hn]
    simp (maxSteps:=300000) (disch:=omega) [↓if_pos,↓if_neg,hg,e]
instance {m:Int}{g:List (List aC)}:Decidable (cQ m g):=by unfold cQ;infer_instance
theorem abL (c:aK) (hc:c.Fit) (hm:c.info.may 11):aL prog lW [.agg c.av]=some (.d (.bool (decide (lI c.info c.sects)))):=by
 obtain⟨H,M,e⟩:=PC c (lG hm) hc.sects.1 hc.sects.2 c.sects 0 1 rfl (by omega)
 have c0:((0:Nat):Int)=0:=rfl
 rw[c0]at e
 simp only[aK.av]at e⊢
 have hl1:=hc.sects.1
 have hl2:=hc.info.len
 rw[am RG sv.eq_1 rfl]
 by_cases h1:c.sects.length=c.info.groups.length
 ·by_cases h2:cQ c.info.max c.sects
  ·rw[decide_eq_true ⟨h1,h2⟩]
   rw[if_pos h2]at e
   simp (maxSteps:=300000) (disch:=omega) [↓if_pos,↓if_neg,e]
  ·rw[decide_eq_false (fun h=>h2 h.2)]
   rw[if_neg h2]at e
   simp (maxSteps:=300000) (disch:=omega) [↓if_pos,↓if_neg,e]
 ·rw[decide_eq_false (fun h=>h1 h.1)]
  simp (maxSteps:=300000) (disch:=omega) [↓if_pos,↓if_neg]
end Go.Vm
namespace Go.Vm
set_option maxHeartbeats 2000000
set_option maxRecDepth 100000
theorem Cl (w n:Int) (hw:-1000≤w∧w≤1000) (hn:-1000≤n∧n≤1000):aL prog vA [.d (.int .i64 w),.d (.int .i64 n)]=some (.d (.bool (decide (w-60≤n∧n≤w+60)))):=by
 rw[am age CG.eq_1 rfl]
 by_cases h1:w-60≤n
 ·by_cases h2:n≤w+60
  ·rw[decide_eq_true ⟨h1,h2⟩]
   simp (maxSteps:=300000) (disch:=omega) [↓if_pos,↓if_neg]
  ·rw[decide_eq_false (fun h=>h2 h.2)]
   simp (maxSteps:=300000) (disch:=omega) [↓if_pos,↓if_neg]
 ·rw[decide_eq_false (fun h=>h1 h.1)]
  simp (maxSteps:=300000) (disch:=omega) [↓if_pos,↓if_neg]
theorem aeq (full:List aC) (hl:full.length≤1000):∀ (r:List aC) (i b N:Nat) (lf:Int) (k:Int),full.drop i=r→fitsS lf r→lf≤1000→(aq r)[b]?=some k→
  ∃ M,(Dn prog).code (.loop ni) ⟨[(2,.d (.int .i64 b)),(25,.d (.lst (ge full))),(26,.d (.int .i64 full.length)),(27,.d (.int .i64 i))],⟨[],N⟩⟩ =
  some (.ret,⟨[(6,.d (.int .i64 k)),(7,.d (.int .i64 0))],⟨[],M⟩⟩):=by
 intro r
 induction r with
 | nil=>intro i b N lf k h hf h0 hk;simp[aq]at hk
 | cons s r ih =>
  intro i b N lf k h hf h0 hk
  have hg:=pG h
  have hlt:=ax h
  obtain⟨h1,h2⟩:=hf
  have h3:=h1.1
  have eb:aq (s::r)=List.replicate s.len.toNat s.book++aq r:=by rw[aq,List.flatMap_cons];rfl
  rw[eb]at hk
  by_cases hb:(b:Int)<s.len
  ·rw[List.getElem?_append_left (by simp;omega)]at hk
   have hk2:k=s.book:=by
    rw[List.getElem?_replicate]at hk
    split at hk
    ·injection hk with hk;exact hk.symm
    ·exact absurd hk (by simp)
   subst hk2
   refine⟨N+1,?_⟩
   rw[aa ni.eq_1]
   simp (maxSteps:=300000) (disch:=omega) [↓if_pos,↓if_neg,hg]
  ·rw[List.getElem?_append_right (by simp;omega)]at hk
   simp only[List.length_replicate]at hk
   obtain⟨M,e⟩:=ih (i+1) (b-s.len.toNat) (N+1) (lf-s.len) k (ar h) h2 (by omega) hk
   refine⟨M,?_⟩
   have c1:((i+1:Nat):Int)=(i:Int)+1:=rfl
   have c2:((b-s.len.toNat:Nat):Int)=(b:Int)-s.len:=by omega
   have hbl:b<100000000:=by
    have:=List.getElem?_eq_some_iff.1 hk
    obtain⟨h5,_⟩:=this
    have:=mD h2 (by omega)
    omega
   rw[c1,c2]at e
   rw[aa ni.eq_1,←e]
   simp (maxSteps:=300000) (disch:=omega) [↓if_pos,↓if_neg,hg]
theorem aav (g:List (List aC)) (hl:g.length≤1000) (hl2:∀ l∈g,l.length≤1000) (m:Int) (hm:m≤1000) (hf:cQ m g) (j b:Nat) (l:List aC) (r:List (List aC)) (hd:g.drop j=l::r) (k:Int) (hk:(aq l)[b]?=some k) :
  aL prog vj [.d (.lst (bW g)),.d (.int .i64 j),.d (.int .i64 b)]=some (.tup [.d (.int .i64 k),.d (.int .i64 0)]):=by
 have hg:=iI hd
 have hlt:=ax hd
 have hmem:l∈g:=by rw[←List.take_append_drop j g,hd];simp
 have hbl:b<100000000:=by
  obtain⟨h5,_⟩:=List.getElem?_eq_some_iff.1 hk
  have h6:=hf l hmem
  rcases Int.le_total 0 m with h | h
  ·have:=mD h6 h
   omega
  ·rcases yU h6 with h7 | h7
   ·have:l=[]:=by cases l with | nil=>rfl | cons=>simp at h7;omega
    subst this;simp[aq]at h5
   ·subst h7;simp[aq]at h5
 obtain⟨M,e⟩:=aeq l (hl2 l hmem) l 0 b 0 m k rfl (hf l hmem) hm hk
 have c0:((0:Nat):Int)=0:=rfl
 rw[c0]at e
 rw[am afm Dj.eq_1 rfl]
 simp (maxSteps:=300000) (disch:=omega) [↓if_pos,↓if_neg,hg,e]
def oK (z:Int):Int:=if 0≤z then z else 0
theorem Yb {k n:Int}{r t:List Int}{w z:Int}(h:k=0→n≠0) (h1:k≠0→¬ mb k n w z):b9 (k::r) (n::t) w z=none:=by
 rw[b9]
 by_cases h0:k=0
 ·rw[if_pos h0,if_neg (h h0)]
 ·rw[if_neg h0,if_neg (h1 h0)]
theorem aaP (c:aK) (hl:c.sects.length≤1000) (hl2:∀ l∈c.sects,l.length≤1000) (m:Int) (hm:0≤m∧m≤1000) (hf:cQ m c.sects) (x23:AV) (y24 y25:D) (j:Nat) (l:List aC) (rr:List (List aC)) (hd:c.sects.drop j=l::rr) (t:List Int) (ht:t.length≤1000) (hbl:(aq l).length=t.length) (htI:∀ n∈t,i64 n) (N:Nat):∀ (r:List Int) (b:Nat) (w z:Int),t.drop b=r→li w→li z→
  ∃ H,(Dn prog).code (.loop dp) ⟨[(1,.ptr 0 0),(3,.d (.int .i64 w)),(4,.d (.int .i64 (oK z))),(5,.d (.bool (decide (0≤z)))),(6,.d (.int .i64 j)),(23,x23),(24,.d y24),(25,.d y25),(36,.d (.lst (aI t))),(37,.d (.int .i64 t.length)),(38,.d (.int .i64 b))],⟨[(0,.cells c.av)],N⟩⟩ =
  match b9 ((aq l).drop b) r w z with
  | some (w,z)=>some (.exit 2,⟨[(1,.ptr 0 0),(3,.d (.int .i64 w)),(4,.d (.int .i64 (oK z))),(5,.d (.bool (decide (0≤z)))),(23,x23),(24,.d y24),(25,.d y25)],⟨[(0,.cells c.av)],N⟩⟩)
  | none=>some (.ret,⟨[(2,.d (.bool false))],⟨H,N⟩⟩):=by
 simp only[aK.av]
 intro r
 induction r with
 | nil =>
  intro b w z h hw hz
  have hi:=an h
  refine⟨[],?_⟩
  rw[aa dp.eq_1,List.drop_eq_nil_of_le (by omega),b9]
  simp (maxSteps:=300000) (disch:=omega) [↓if_pos,↓if_neg]
 | cons n r ih =>
  intro b w z h hw hz
  have hg:=qp h
  have hlt:=ax h
  have hnI:=htI n (by rw[←List.take_append_drop b t,h];simp)
  have hblt:b<(aq l).length:=by omega
  have hkk:=List.drop_eq_getElem_cons hblt
  obtain⟨k,hk⟩:∃ k,k=(aq l)[b]:=⟨_,rfl⟩
  have hk?:(aq l)[b]?=some k:=by rw[hk];exact List.getElem?_eq_getElem hblt
  have hmem:l∈c.sects:=by rw[←List.take_append_drop j c.sects,hd];simp
  have hkr:=Qr (hf l hmem) k (by rw[hk];exact List.getElem_mem hblt)
  rw[←hk]at hkk
  have hB:=aav c.sects hl hl2 m hm.2 hf j b l rr hd k hk?
  have c1:((b+1:Nat):Int)=(b:Int)+1:=rfl
  rw[hkk]
  by_cases k0:k=0
  ·by_cases n0:n=0
   ·obtain⟨H,e⟩:=ih (b+1) w z (ar h) hw hz
    refine⟨H,?_⟩
    rw[c1]at e
    have eR:b9 (k::(aq l).drop (b+1)) (n::r) w z=b9 ((aq l).drop (b+1)) r w z:=by rw[b9,if_pos k0,if_pos n0]
    rw[aa dp.eq_1,eR,←e]
    subst k0 n0
    simp (maxSteps:=300000) (disch:=omega) [↓if_pos,↓if_neg,hg,hB]
   ·refine⟨[],?_⟩
    rw[aa dp.eq_1,Yb (fun _=>n0) (fun h=>absurd k0 h)]
    subst k0
    simp (maxSteps:=300000) (disch:=omega) [↓if_pos,↓if_neg,hg,hB]
  ·by_cases k13:k=13
   ·by_cases ho:mb k n w z
    ·have hn5:=vS ho
     obtain⟨H,e⟩:=ih (b+1) w n (ar h) hw hn5
     refine⟨H,?_⟩
     unfold mb at ho
     rw[if_pos k13]at ho
     have hnn:oK n=n:=by unfold oK;rw[if_pos (by omega)]
     rw[c1,hnn,decide_eq_true (show 0≤n by omega)]at e
     have eR:b9 (k::(aq l).drop (b+1)) (n::r) w z=b9 ((aq l).drop (b+1)) r w n:=by rw[b9,if_neg k0,if_pos (by unfold mb;rw[if_pos k13];exact ho),if_pos k13]
     rw[aa dp.eq_1,eR,←e]
     subst k13
     by_cases hz0:0≤z
     ·have hzn:oK z=z:=by unfold oK;rw[if_pos hz0]
      have hnr:=Cl z n (by omega) (by omega)
      rw[decide_eq_true (show z-60≤n∧n≤z+60 by omega)]at hnr
      rw[hzn,decide_eq_true hz0]
      simp (maxSteps:=300000) (disch:=omega) [↓if_pos,↓if_neg,hg,hB,hnr]
     ·rw[decide_eq_false hz0]
      simp (maxSteps:=300000) (disch:=omega) [↓if_pos,↓if_neg,hg,hB]
    ·refine⟨[],?_⟩
     rw[aa dp.eq_1,Yb (fun h=>absurd h k0) (fun _=>ho)]
     unfold mb at ho
     rw[if_pos k13]at ho
     subst k13
     by_cases b1:n<0
     ·simp (maxSteps:=300000) (disch:=omega) [↓if_pos,↓if_neg,hg,hB]
     ·by_cases b2:511<n
      ·simp (maxSteps:=300000) (disch:=omega) [↓if_pos,↓if_neg,hg,hB]
      ·have hz0:0≤z:=by omega
       have hzn:oK z=z:=by unfold oK;rw[if_pos hz0]
       have hnr:=Cl z n (by omega) (by omega)
       rw[decide_eq_false (show ¬ (z-60≤n∧n≤z+60) by omega)]at hnr
       rw[hzn,decide_eq_true hz0]
       simp (maxSteps:=300000) (disch:=omega) [↓if_pos,↓if_neg,hg,hB,hnr]
   ·by_cases ho:mb k n w z
    ·have hn5:=vS ho
     obtain⟨H,e⟩:=ih (b+1) n z (ar h) hn5 hz
     refine⟨H,?_⟩
     have eR:b9 (k::(aq l).drop (b+1)) (n::r) w z=b9 ((aq l).drop (b+1)) r n z:=by rw[b9,if_neg k0,if_pos ho,if_neg k13]
     unfold mb at ho
     rw[if_neg k13]at ho
     rw[c1]at e
     have hnr:=Cl w n (by omega) (by omega)
     rw[decide_eq_true (show w-60≤n∧n≤w+60 by omega)]at hnr
     rw[aa dp.eq_1,eR,←e]
     simp (maxSteps:=300000) (disch:=omega) [↓if_pos,↓if_neg,hg,hB,hnr]
    ·refine⟨[],?_⟩
     rw[aa dp.eq_1,Yb (fun h=>absurd h k0) (fun _=>ho)]
     unfold mb at ho
     rw[if_neg k13]at ho
     by_cases b1:n<0
     ·simp (maxSteps:=300000) (disch:=omega) [↓if_pos,↓if_neg,hg,hB]
     ·by_cases b2:255<n
      ·simp (maxSteps:=300000) (disch:=omega) [↓if_pos,↓if_neg,hg,hB]
      ·have hnr:=Cl w n (by omega) (by omega)
       rw[decide_eq_false (show ¬ (w-60≤n∧n≤w+60) by omega)]at hnr
       simp (maxSteps:=300000) (disch:=omega) [↓if_pos,↓if_neg,hg,hB,hnr]
theorem apj {bks:List Int}:∀ {t:List Int}{w z:Int}{fin:Int×Int},li w→li z→b9 bks t w z=some fin→li fin.1∧li fin.2:=by
 induction bks with
 | nil =>
  intro t w z fin hw hz h
  cases t with
  | nil=>rw[b9]at h;injection h with h;subst h;exact⟨hw,hz⟩
  | cons n t=>exact absurd h (by simp[b9])
 | cons k r ih =>
  intro t w z fin hw hz h
  cases t with
  | nil=>exact absurd h (by simp[b9])
  | cons n t =>
   obtain⟨h1,h2,h3⟩:=Cj (by rw[h];simp)
   rw[h]at h3
   refine ih ?_ ?_ h3.symm
   ·unfold iG
    by_cases h0:k=0
    ·rw[if_pos h0];exact hw
    ·rw[if_neg h0];split
     ·exact hw
     ·exact vS (h2 h0)
   ·unfold iG
    by_cases h0:k=0
    ·rw[if_pos h0];exact hz
    ·rw[if_neg h0];split
     ·exact vS (h2 h0)
     ·exact hz
theorem abW (c:aK) (hc:c.Fit) (hm:c.info.may 11) (hf:cQ c.info.max c.sects):∀ (gr:List (List aC)) (sr:List (List Int)) (j N:Nat) (w z:Int),c.sects.drop j=gr→c.steps.drop j=sr→gr.length=sr.length→li w→li z→
  ∃ H M,(Dn prog).code (.loop gE) ⟨[(1,.ptr 0 0),(3,.d (.int .i64 w)),(4,.d (.int .i64 (oK z))),(5,.d (.bool (decide (0≤z)))),(23,.d (.lst (cT c.steps))),(24,.d (.int .i64 c.steps.length)),(25,.d (.int .i64 j))],⟨[(0,.cells c.av)],N⟩⟩ =
  match mh gr sr w z with
  | some _=>some (.exit 0,⟨[],⟨H,M⟩⟩)
  | none=>some (.ret,⟨[(2,.d (.bool false))],⟨H,M⟩⟩):=by
 have hmx:=lG hm
 have hl1:=hc.steps.1
 simp only[aK.av]
 intro gr
 induction gr with
 | nil =>
  intro sr j N w z hd hd2 he hw hz
  have hi2:c.steps.length≤j:=by
   have:sr=[]:=by cases sr with | nil=>rfl | cons=>simp at he
   subst this
   exact an hd2
  have hsr:sr=[]:=by cases sr with | nil=>rfl | cons=>simp at he
  refine⟨[],N,?_⟩
  rw[aa gE.eq_1,hsr,mh]
  simp (maxSteps:=300000) (disch:=omega) [↓if_pos,↓if_neg]
 | cons l r ih =>
  intro sr j N w z hd hd2 he hw hz
  cases sr with
  | nil=>simp at he
  | cons t s =>
   simp only[List.length_cons,Nat.add_right_cancel_iff]at he
   have hgt:=vZ hd2
   have hlt2:=ax hd2
   have hmt:t∈c.steps:=by rw[←List.take_append_drop j c.steps,hd2];simp
   have htl:=hc.steps.2 t hmt
   have hml:l∈c.sects:=by rw[←List.take_append_drop j c.sects,hd];simp
   have hbk:=mD (hf l hml) hmx.1
   have c1:((j+1:Nat):Int)=(j:Int)+1:=rfl
   have c0:((0:Nat):Int)=0:=rfl
   rw[mh]
   by_cases hlen:(t.length:Int)=c.info.max
   ·obtain⟨H,e⟩:=aaP c hc.sects.1 hc.sects.2 c.info.max ⟨hmx.1,by omega⟩ hf (.d (.lst (cT c.steps))) (.int .i64 c.steps.length) (.int .i64 j) j l r hd t htl (by omega) (hc.stepI t hmt) N t 0 w z rfl hw hz
    rw[c0,List.drop_zero]at e
    simp only[aK.av]at e
    cases hrow:b9 (aq l) t w z with
    | none =>
     rw[hrow]at e
     refine⟨H,N,?_⟩
     rw[aa gE.eq_1]
     simp (maxSteps:=300000) (disch:=omega) [↓if_pos,↓if_neg,hgt,bq,e]
    | some fin =>
     rw[hrow]at e
     obtain⟨f1,f2⟩:=apj hw hz hrow
     obtain⟨H2,M2,e2⟩:=ih s (j+1) N fin.1 fin.2 (ar hd) (ar hd2) he f1 f2
     rw[c1]at e2
     refine⟨H2,M2,?_⟩
     rw[aa gE.eq_1]
     simp only
     rw[←e2]
     simp (maxSteps:=300000) (disch:=omega) [↓if_pos,↓if_neg,hgt,bq,e]
   ·refine⟨[],N,?_⟩
    have hn:b9 (aq l) t w z=none:=by
     cases hrow:b9 (aq l) t w z with
     | none=>rfl
     | some fin=>have:=PU hrow;omega
    rw[aa gE.eq_1,hn]
    simp (maxSteps:=300000) (disch:=omega) [↓if_pos,↓if_neg,hgt,bq]
instance {gain:Int}{g:List (List aC)}{t:List (List Int)}:Decidable (tN gain g t):=by unfold tN;infer_instance
theorem aiJ (c:aK) (hc:c.Fit) (hm:c.info.may 11) (hgn:0≤c.gain∧c.gain≤255) (hs:lI c.info c.sects):aL prog sj [.agg c.av]=some (.d (.bool (decide (tN c.gain c.sects c.steps)))):=by
 have hl1:=hc.steps.1
 have hl2:=hc.info.len
 have c0:((0:Nat):Int)=0:=rfl
 have hnv:oK (-1)=0:=rfl
 have hdf:decide ((0:Int)≤-1)=false:=rfl
 rw[am adJ yT.eq_1 rfl]
 simp only[aK.av]
 by_cases h1:c.steps.length=c.info.groups.length
 ·obtain⟨H,M,e⟩:=abW c hc hm hs.2 c.sects c.steps 0 1 c.gain (-1) rfl rfl (by have:=hs.1;omega) (by omega) (by omega)
  rw[c0,hnv,hdf]at e
  simp only[aK.av]at e
  by_cases hr:mh c.sects c.steps c.gain (-1)=none
  ·rw[hr]at e
   rw[decide_eq_false (fun h=>h hr)]
   simp (maxSteps:=300000) (disch:=omega) [↓if_pos,↓if_neg,e]
  ·obtain⟨fin,hf⟩:=Option.ne_none_iff_exists'.1 hr
   rw[hf]at e
   rw[decide_eq_true hr]
   simp (maxSteps:=300000) (disch:=omega) [↓if_pos,↓if_neg,e]
 ·rw[decide_eq_false (fun h=>h1 (by have:=Cr h;have:=hs.1;omega))]
  simp (maxSteps:=300000) (disch:=omega) [↓if_pos,↓if_neg]
end Go.Vm
namespace Go.Vm
set_option maxHeartbeats 2000000
set_option maxRecDepth 100000
theorem acJ {h:ac}{l:List Int}{a b:Nat}(hab:a≤b) (hb:b≤l.length) (x y:Int) (hx:x=a) (hy:y=b):n6 h 1 (.d (.lst (aI l))) (some (.d (.int .i64 x))) (some (.d (.int .i64 y))) none=some (.d (.lst (aI ((l.drop a).take (b-a))))):=by
 subst hx hy
 have e1:bz (.d (.int .i64 (b:Int))) (aI l).length=some b:=by rw[yf (by omega) (by rw[bq];omega)];simp
 have e2:bz (.d (.int .i64 (a:Int))) b=some a:=by rw[yf (by omega) (by omega)];simp
 have e3:E8 1 (aI l)=true:=by cases l<;>rfl
 simp only[n6,okSl,nq,lenOf,vY,lY,e1,e2,e3,sub]
 rw[akd,aji]
theorem amL {id:Nat}(hid:1≤id∧id≤11):eq id≤8191:=(yx id (Uw hid)).2.2.2
theorem ajL (id:Nat) (hid:1≤id∧id≤11) (v:Int) (hv:i64 v):aL prog Dm [.d (.int .i64 id),.d (.int .i64 v)]=some (.d (.bool (decide (v.natAbs≤eq id)))):=by
 have i4:[[D.int .i64 v],[D.int .i64 0],[D.int .i64 0],[D.int .i64 0]]=aI [v,0,0,0]:=rfl
 have i2:[[D.int .i64 v],[D.int .i64 0]]=aI [v,0]:=rfl
 have hm:=amL hid
 have hz:CJ (eq id) 0=false:=by unfold CJ;rw[decide_eq_false];omega
 have hf:CJ (eq id) v=!decide (v.natAbs≤eq id):=by
  unfold CJ
  by_cases h:v.natAbs≤eq id
  ·rw[decide_eq_true h,decide_eq_false (by omega)];rfl
  ·rw[decide_eq_false h,decide_eq_true (by omega)];rfl
 rw[am af6 C3.eq_1 rfl]
 by_cases h4:4<id
 ·have h:=Kk id hid [v,0] (by unfold aZ;rw[if_neg (by omega)];rfl)
  simp only[List.any_cons,List.any_nil,hz,hf,Bool.or_false,Bool.not_not]at h
  rw[←i2]at h
  generalize decide (v.natAbs≤eq id)=B at *
  have hs:n6 [] 1 (.own false 1 [[.int .i64 v],[.int .i64 0],[.int .i64 0],[.int .i64 0]]) none (some (.d (.int .i64 2))) none=some (.d (.lst [[.int .i64 v],[.int .i64 0]])):=rfl
  simp (maxSteps:=300000) (disch:=omega) [↓if_pos,↓if_neg,hs,h]
 ·have h:=Kk id hid [v,0,0,0] (by unfold aZ;rw[if_pos (by omega)];rfl)
  simp only[List.any_cons,List.any_nil,hz,hf,Bool.or_false,Bool.not_not]at h
  rw[←i4]at h
  generalize decide (v.natAbs≤eq id)=B at *
  simp (maxSteps:=300000) (disch:=omega) [↓if_pos,↓if_neg,h]
def jm:List Nat→Nat→Nat
 | [],_=>0
 | x::r,i=>if x≤i then jm r i+1 else 0
theorem aaZ (os:List Nat) (ho:os.length≤100) (X:Obj) (x4 x54:AV) (y10 y12 y16 y34 y35 y55 y56:D) (i:Nat) (hi:i≤1000) (hoI:∀ x∈os,x≤1000) (hp:HS):∀ (r:List Nat) (b:Nat),os.drop (b+1)=r→(∃ x∈r,i<x)→
  (Dn prog).code (.loop qX) ⟨[(4,x4),(8,.own false 1 (bl os)),(10,.d y10),(12,.d y12),(14,.d (.int .i64 b)),(15,.d (.int .i64 i)),(16,.d y16),(34,.d y34),(35,.d y35),(54,x54),(55,.d y55),(56,.d y56)],hp⟩ =
  some (.exit 4,⟨[(4,x4),(8,.own false 1 (bl os)),(10,.d y10),(12,.d y12),(14,.d (.int .i64 (b+jm r i:Nat))),(16,.d y16),(34,.d y34),(35,.d y35),(54,x54),(55,.d y55),(56,.d y56)],hp⟩):=by
 obtain⟨h,n⟩:=hp
 intro r
 induction r with
 | nil=>intro b hd hx;obtain⟨x,hx,_⟩:=hx;simp at hx
 | cons x r ih =>
  intro b hd hx
  have hlt:=ax hd
  have hnx:nth os (b+1)=x:=by
   have h2:=my (l:=os) hlt
   rw[hd]at h2;injection h2 with h2;exact h2.symm
  have hg:(bl os)[b+1]?=some [.int .i64 (x:Int)]:=by rw[Gu hlt,hnx]
  have hxI:=hoI x (by rw[←hnx];exact nk hlt)
  rw[aa qX.eq_1,jm]
  by_cases h1:x≤i
  ·have hx2:∃ y∈r,i<y:=by
    obtain⟨y,hy,h3⟩:=hx
    rcases List.mem_cons.1 hy with e | e
    ·omega
    ·exact⟨y,e,h3⟩
   have h5:=ih (b+1) (ar hd) hx2
   have c1:((b+1:Nat):Int)=(b:Int)+1:=rfl
   rw[c1]at h5
   rw[if_pos h1,show b+(jm r i+1)=b+1+jm r i by omega,←h5]
   simp (maxSteps:=300000) (disch:=omega) [↓if_pos,↓if_neg,hg]
  ·rw[if_neg h1]
   simp (maxSteps:=300000) (disch:=omega) [↓if_pos,↓if_neg,hg]
theorem Ux {l:List Nat}{i:Nat}:∀ {b:Nat},b≤l.length→(∀ x∈l.take b,x≤i)→jm l i=b+jm (l.drop b) i:=by
 induction l with
 | nil=>intro b hb h;simp at hb;subst hb;simp[jm]
 | cons x r ih =>
  intro b hb h
  cases b with
  | zero=>simp
  | succ b =>
   rw[jm,if_pos (h x (by simp)),ih (b:=b) (by simpa using hb) (fun y hy=>h y (by simp[hy])),List.drop_succ_cons]
   omega
theorem ahV {l:List Nat}{i:Nat}:∀ x∈l.take (jm l i),x≤i:=by
 induction l with
 | nil=>intro x hx;simp at hx
 | cons y r ih =>
  intro x hx
  rw[jm]at hx
  by_cases h:y≤i
  ·rw[if_pos h,List.take_succ_cons]at hx
   rcases List.mem_cons.1 hx with e | e
   ·omega
   ·exact ih x e
  ·rw[if_neg h]at hx;simp at hx
theorem amp {l:List Nat}{i:Nat}:jm l i≤l.length:=by
 induction l with
 | nil=>simp[jm]
 | cons y r ih=>rw[jm];split<;>simp<;>omega
def It (tl:List Nat) (bks:List Int) (i:Nat) (v:Int):Prop:=v=0∨∃ k,bks[jm tl i]?=some k∧(1≤k∧k≤11)∧v.natAbs≤eq k.toNat
def sG (tl:List Nat) (bks:List Int):Nat→List Int→Prop
 | _,[]=>True
 | i,v::r=>It tl bks i v∧sG tl bks (i+1) r
theorem acg (c:aK) (hc:c.Fit) (hm:c.info.may 11) (hf:cQ c.info.max c.sects) (os:List Nat) (ho:os.length≤100) (hoI:∀ x∈os,x≤1000) (hne:os≠[]) (y10 y34 y35:D) (j:Nat) (l:List aC) (rr:List (List aC)) (hd:c.sects.drop j=l::rr) (ls:List Int) (hls:ls.length≤1000) (hlI:∀ v∈ls,i64 v) (hlast:∀ i,i<ls.length→∃ x∈os.drop 1,i<x) (N:Nat):∀ (r:List Int) (i b:Nat),ls.drop i=r→b≤(os.drop 1).length→(∀ x∈(os.drop 1).take b,x≤i)→
  (sG (os.drop 1) (aq l) i r∧(Dn prog).code (.loop cw) ⟨[(4,.ptr 0 0),(8,.own false 1 (bl os)),(10,.d y10),(12,.d (.int .i64 j)),(14,.d (.int .i64 b)),(34,.d y34),(35,.d y35),(54,.d (.lst (aI ls))),(55,.d (.int .i64 ls.length)),(56,.d (.int .i64 i))],⟨[(0,.cells c.av)],N⟩⟩ =
   some (.exit 2,⟨[(4,.ptr 0 0),(8,.own false 1 (bl os)),(10,.d y10),(34,.d y34),(35,.d y35)],⟨[(0,.cells c.av)],N⟩⟩))∨
  (¬ sG (os.drop 1) (aq l) i r∧(Dn prog).code (.loop cw) ⟨[(4,.ptr 0 0),(8,.own false 1 (bl os)),(10,.d y10),(12,.d (.int .i64 j)),(14,.d (.int .i64 b)),(34,.d y34),(35,.d y35),(54,.d (.lst (aI ls))),(55,.d (.int .i64 ls.length)),(56,.d (.int .i64 i))],⟨[(0,.cells c.av)],N⟩⟩ =
   some (.ret,⟨[(6,.d (.bool false))],⟨[],N⟩⟩)):=by
 have hmx:=lG hm
 have hml:l∈c.sects:=by rw[←List.take_append_drop j c.sects,hd];simp
 have hbk:=mD (hf l hml) hmx.1
 simp only[aK.av]
 intro r
 induction r with
 | nil =>
  intro i b h hb hx
  have hi:=an h
  refine .inl ⟨trivial,?_⟩
  rw[aa cw.eq_1]
  simp (maxSteps:=300000) (disch:=omega) [↓if_pos,↓if_neg]
 | cons v r ih =>
  intro i b h hb hx
  have hg:=qp h
  have hlt:=ax h
  have hvI:=hlI v (by rw[←List.take_append_drop i ls,h];simp)
  have c1:((i+1:Nat):Int)=(i:Int)+1:=rfl
  by_cases v0:v=0
  ·have h5:=ih (i+1) b (ar h) hb fun x hx2=>by have:=hx x hx2;omega
   rw[c1]at h5
   have hL:It (os.drop 1) (aq l) i v:=.inl v0
   rw[sG]
   subst v0
   rcases h5 with ⟨e1,e2⟩ | ⟨e1,e2⟩
   ·refine .inl ⟨⟨hL,e1⟩,?_⟩
    rw[aa cw.eq_1,←e2]
    simp (maxSteps:=300000) (disch:=omega) [↓if_pos,↓if_neg,hg]
   ·refine .inr ⟨fun h=>e1 h.2,?_⟩
    rw[aa cw.eq_1,←e2]
    simp (maxSteps:=300000) (disch:=omega) [↓if_pos,↓if_neg,hg]
  ·have hsk:=Ux hb hx
   have hdd:os.drop (b+1)=(os.drop 1).drop b:=by rw[List.drop_drop];congr 1;omega
   have hex:∃ x∈os.drop (b+1),i<x:=by
    obtain⟨x,hx1,hx2⟩:=hlast i hlt
    rw[←List.take_append_drop b (os.drop 1)]at hx1
    rcases List.mem_append.1 hx1 with h1 | h1
    ·have:=hx x h1;omega
    ·exact⟨x,by rw[hdd];exact h1,hx2⟩
   have h0:=aaZ os ho (.cells c.av) (.ptr 0 0) (.d (.lst (aI ls))) y10 (.int .i64 j) (.int .i64 v) y34 y35 (.int .i64 ls.length) (.int .i64 i) i (by omega) hoI ⟨[(0,.cells c.av)],N⟩ (os.drop (b+1)) b rfl hex
   rw[hdd,←hsk]at h0
   have hbl:=amp (l:=os.drop 1) (i:=i)
   have hbt:=ahV (l:=os.drop 1) (i:=i)
   have hol:(os.drop 1).length≤100:=by simp;omega
   obtain⟨B,hB⟩:∃ B,B=jm (os.drop 1) i:=⟨_,rfl⟩
   have h5:=ih (i+1) B (ar h) (by omega) fun x hx2=>by rw[hB]at hx2;have:=hbt x hx2;omega
   rw[c1]at h5
   simp only[aK.av]at h0
   rw[sG]
   unfold It
   rw[←hB]at h0⊢
   by_cases hBm:(B:Int)<c.info.max
   ·have hBl:B<(aq l).length:=by omega
    obtain⟨k,hk⟩:∃ k,(aq l)[B]?=some k:=⟨_,List.getElem?_eq_getElem hBl⟩
    have hBk:=aav c.sects hc.sects.1 hc.sects.2 c.info.max (by omega) hf j B l rr hd k hk
    rw[hk]
    by_cases hk1:1≤k∧k≤11
    ·obtain⟨K,rfl⟩:=Int.eq_ofNat_of_zero_le (show 0≤k by omega)
     have hft:=ajL K (by omega) v hvI
     by_cases hfit:v.natAbs≤eq K
     ·rw[decide_eq_true hfit]at hft
      have hL:v=0∨∃ k,some (K:Int)=some k∧(1≤k∧k≤11)∧v.natAbs≤eq k.toNat:=.inr ⟨K,rfl,hk1,by simpa using hfit⟩
      rcases h5 with ⟨e1,e2⟩ | ⟨e1,e2⟩
      ·refine .inl ⟨⟨hL,e1⟩,?_⟩
       rw[aa cw.eq_1,←e2]
       simp (maxSteps:=300000) (disch:=omega) [↓if_pos,↓if_neg,hg,h0,hBk,hft]
      ·refine .inr ⟨fun h=>e1 h.2,?_⟩
       rw[aa cw.eq_1,←e2]
       simp (maxSteps:=300000) (disch:=omega) [↓if_pos,↓if_neg,hg,h0,hBk,hft]
     ·rw[decide_eq_false hfit]at hft
      refine .inr ⟨fun h=>?_,?_⟩
      ·rcases h.1 with h | ⟨k,h1,h2,h3⟩
       ·exact v0 h
       ·injection h1 with h1;subst h1;exact hfit (by simpa using h3)
      ·rw[aa cw.eq_1]
       simp (maxSteps:=300000) (disch:=omega) [↓if_pos,↓if_neg,hg,h0,hBk,hft]
    ·have hn:¬ ((v=0∨∃ k',some k=some k'∧(1≤k'∧k'≤11)∧v.natAbs≤eq k'.toNat)∧sG (os.drop 1) (aq l) (i+1) r):=fun h=>by
      rcases h.1 with h | ⟨k',h1,h2,h3⟩
      ·exact v0 h
      ·injection h1 with h1;subst h1;exact hk1 h2
     refine .inr ⟨hn,?_⟩
     rw[aa cw.eq_1]
     by_cases hk0:k<1
     ·simp (maxSteps:=300000) (disch:=omega) [↓if_pos,↓if_neg,hg,h0,hBk]
     ·simp (maxSteps:=300000) (disch:=omega) [↓if_pos,↓if_neg,hg,h0,hBk]
   ·have hBl:(aq l)[B]?=none:=List.getElem?_eq_none (by omega)
    rw[hBl]
    refine .inr ⟨fun h=>?_,?_⟩
    ·rcases h.1 with h | ⟨k',h1,h2,h3⟩
     ·exact v0 h
     ·exact absurd h1 (by simp)
    ·rw[aa cw.eq_1]
     simp (maxSteps:=300000) (disch:=omega) [↓if_pos,↓if_neg,hg,h0]
end Go.Vm
namespace Go.Vm
set_option maxHeartbeats 2000000
set_option maxRecDepth 100000
theorem akt:∀ {l:List Int}{w:Int},w<l.sum→(∀ n∈l,1≤n)→0≤w→jn l w<l.length
 | [],w,h,_,h0=>by simp at h;omega
 | n::r,w,h,hn,h0=>by
  rw[jn]
  split
  ·simp
  ·have:=akt (l:=r) (w:=w-n) (by simp only[List.sum_cons]at h;omega) (fun m hm=>hn m (.tail _ hm)) (by omega)
   simp only[List.length_cons];omega
def aD.wide (i:aD):Nat:=if i.seq=2 then 32 else 256
def uL (c:aK) (w:Nat):List Int:=(c.lines.drop (w*c.info.wide)).take c.info.wide
def D9 (c:aK) (w:Nat):List aC:=c.sects.getD (jn c.info.groups w) []
def Em (r:Nat) (c:aK):Nat→Nat→Prop
 | 0,_=>True
 | k+1,w=>sG ((offs r c.info.short).drop 1) (aq (D9 c w)) 0 (uL c w)∧Em r c k (w+1)
abbrev YM (r:Nat) (c:aK):Prop:=c.lines.length=256∧Em r c c.info.many 0
theorem Z5:∀ x∈yd,((offs x.1 x.2).drop 1).contains (cond x.2 32 256)=true∧(offs x.1 x.2).all (fun y=>decide (y≤1000))=true∧(offs x.1 x.2).length≤64∧1≤(offs x.1 x.2).length:=by decide +kernel
theorem abP (rt:Nat) (hrt:rt≤11) (c:aK) (hc:c.Fit) (hm:c.info.may 11) (hs:lI c.info c.sects) (hl:c.lines.length=256) (N:Nat):∀ (k w:Nat),w+k=c.info.many→
  (Em rt c k w∧∃ H,(Dn prog).code (.loop fg) ⟨[(4,.ptr 0 0),(8,.own false 1 (bl (offs rt c.info.short))),(10,.d (.int .i64 c.info.wide)),(34,.d (.int .i64 c.info.many)),(35,.d (.int .i64 w))],⟨[(0,.cells c.av)],N⟩⟩=some (.exit 0,⟨[],⟨H,N⟩⟩))∨
  (¬ Em rt c k w∧(Dn prog).code (.loop fg) ⟨[(4,.ptr 0 0),(8,.own false 1 (bl (offs rt c.info.short))),(10,.d (.int .i64 c.info.wide)),(34,.d (.int .i64 c.info.many)),(35,.d (.int .i64 w))],⟨[(0,.cells c.av)],N⟩⟩=some (.ret,⟨[(6,.d (.bool false))],⟨[],N⟩⟩)):=by
 have hmm:c.info.many*c.info.wide=256∧c.info.many≤8∧c.info.wide≤256∧1≤c.info.many:=by unfold aD.many aD.wide;split<;>omega
 obtain⟨m1,m2,m3,m4⟩:=hmm
 obtain⟨o1,o2,o3,o4⟩:=Z5 (rt,c.info.short) (jV (by omega))
 simp only at o1 o2 o3 o4
 obtain⟨g1,g2⟩:=ei hm
 have hoI:∀ x∈offs rt c.info.short,x≤1000:=fun x hx=>by simpa using List.all_eq_true.1 o2 x hx
 have hcond:(cond c.info.short 32 256:Nat)=c.info.wide:=by
  unfold aD.short aD.wide
  by_cases h:c.info.seq=2
  ·rw[decide_eq_true h,if_pos h];rfl
  ·rw[decide_eq_false h,if_neg h];rfl
 rw[hcond]at o1
 have hlast:∀ i,i<c.info.wide→∃ x∈(offs rt c.info.short).drop 1,i<x:=fun i hi=>⟨c.info.wide,by simpa using o1,hi⟩
 intro k
 induction k with
 | zero =>
  intro w hw
  refine .inl ⟨trivial,[],?_⟩
  rw[aa fg.eq_1]
  simp (maxSteps:=300000) (disch:=omega) [↓if_pos,↓if_neg]
 | succ k ih =>
  intro w hw
  have hG:=GI c.info hc.info hm w (by omega) (by omega)
  have hgl:=akt (l:=c.info.groups) (w:=w) (by omega) (fun n hn=>(g1 n hn).1) (by omega)
  obtain⟨G,hGe⟩:∃ G,G=jn c.info.groups w:=⟨_,rfl⟩
  rw[←hGe]at hG hgl
  have hGs:G<c.sects.length:=by rw[hs.1];exact hgl
  have hsa:D9 c w=c.sects[G]:=by unfold D9;rw[←hGe,List.getD_eq_getElem?_getD,List.getElem?_eq_getElem hGs];rfl
  have hd:=List.drop_eq_getElem_cons hGs
  have hwl:w*c.info.wide+c.info.wide≤256:=by
   have:(w+1)*c.info.wide≤c.info.many*c.info.wide:=Nat.mul_le_mul_right _ (by omega)
   rw[Nat.add_mul,Nat.one_mul]at this;omega
  have hwn:(uL c w).length=c.info.wide:=by unfold uL;rw[List.length_take,List.length_drop];omega
  have hwI:∀ v∈uL c w,i64 v:=fun v hv=>hc.lineI v (List.mem_of_mem_drop (List.mem_of_mem_take hv))
  have h1:=acg c hc hm hs.2 (offs rt c.info.short) (by omega) hoI (by intro h;rw[h]at o4;simp at o4) (.int .i64 c.info.wide) (.int .i64 c.info.many) (.int .i64 w) G c.sects[G] _ hd (uL c w) (by omega) hwI (fun i hi=>hlast i (by omega)) N (uL c w) 0 0 rfl (by omega) (by simp)
  have h2:=ih (w+1) (by omega)
  have c1:((w+1:Nat):Int)=(w:Int)+1:=rfl
  have c0:((0:Nat):Int)=0:=rfl
  rw[c1]at h2
  rw[c0]at h1
  rw[hwn]at h1
  have hmul:(w:Int)*c.info.wide=((w*c.info.wide:Nat):Int):=by rw[Int.natCast_mul]
  have hmul2:((w:Int)+1)*c.info.wide=((w*c.info.wide+c.info.wide:Nat):Int):=by rw[Int.add_mul,Int.one_mul,hmul];rfl
  have hsl:=acJ (h:=[(0,.cells c.av)]) (l:=c.lines) (a:=w*c.info.wide) (b:=w*c.info.wide+c.info.wide) (by omega) (by omega) ((w:Int)*c.info.wide) (((w:Int)+1)*c.info.wide) hmul hmul2
  rw[Nat.add_sub_cancel_left]at hsl
  have hwr:c.info.wide=(uL c w).length:=hwn.symm
  have hW:((c.lines.drop (w*c.info.wide)).take c.info.wide)=uL c w:=rfl
  rw[hW]at hsl
  have hlw:=bq (l:=uL c w)
  rw[hwn]at hlw
  have hb1:0≤(w:Int)*c.info.wide∧(w:Int)*c.info.wide≤1000:=by rw[hmul];omega
  have hb2:0≤((w:Int)+1)*c.info.wide∧((w:Int)+1)*c.info.wide≤1000:=by rw[hmul2];omega
  rw[Em,hsa]
  simp only[aK.av,aD.cells]at h1 h2 hsl hG⊢
  generalize uL c w=WL at *
  rcases h1 with ⟨e1,e2⟩ | ⟨e1,e2⟩
  ·rcases h2 with ⟨f1,H,f2⟩ | ⟨f1,f2⟩
   ·refine .inl ⟨⟨e1,f1⟩,H,?_⟩
    rw[aa fg.eq_1,←f2]
    simp (maxSteps:=300000) (disch:=omega) [↓if_pos,↓if_neg,hG,hsl,hlw,e2]
   ·refine .inr ⟨fun h=>f1 h.2,?_⟩
    rw[aa fg.eq_1,←f2]
    simp (maxSteps:=300000) (disch:=omega) [↓if_pos,↓if_neg,hG,hsl,hlw,e2]
  ·refine .inr ⟨fun h=>e1 h.1,?_⟩
   rw[aa fg.eq_1]
   simp (maxSteps:=300000) (disch:=omega) [↓if_pos,↓if_neg,hG,hsl,hlw,e2]
theorem ahE (rt:Nat) (hrt:rt≤11) (c:aK) (hc:c.Fit) (hm:c.info.may 11) (hs:lI c.info c.sects):(YM rt c∧aL prog mw [.d (.int .i64 rt),.agg c.av,.d (.int .i64 c.info.many)]=some (.d (.bool true)))∨(¬ YM rt c∧aL prog mw [.d (.int .i64 rt),.agg c.av,.d (.int .i64 c.info.many)]=some (.d (.bool false))):=by
 have hl1:=hc.lines
 have hof:=qV rt c.info.short
 rw[if_pos (by omega)]at hof
 simp only[Int.toNat_natCast]at hof
 rw[am ado A7.eq_1 rfl]
 by_cases hl:c.lines.length=256
 ·have h0:=abP rt hrt c hc hm hs hl 1 c.info.many 0 (by omega)
  have c0:((0:Nat):Int)=0:=rfl
  rw[c0]at h0
  have hq:(256:Int).tdiv c.info.many=c.info.wide:=by unfold aD.many aD.wide;split<;>rfl
  have hmm:1≤c.info.many∧c.info.many≤8∧c.info.wide≤256:=by unfold aD.many aD.wide;split<;>omega
  simp only[aK.av]at h0⊢
  by_cases hs2:c.info.seq=2
  ·have hsh:c.info.short=true:=decide_eq_true hs2
   rw[hsh]at hof h0
   rcases h0 with ⟨e1,H,e2⟩ | ⟨e1,e2⟩
   ·refine .inl ⟨⟨hl,e1⟩,?_⟩
    simp (maxSteps:=300000) (disch:=omega) [↓if_pos,↓if_neg,hof,hq,e2]
   ·refine .inr ⟨fun h=>e1 h.2,?_⟩
    simp (maxSteps:=300000) (disch:=omega) [↓if_pos,↓if_neg,hof,hq,e2]
  ·have hsh:c.info.short=false:=decide_eq_false hs2
   rw[hsh]at hof h0
   rcases h0 with ⟨e1,H,e2⟩ | ⟨e1,e2⟩
   ·refine .inl ⟨⟨hl,e1⟩,?_⟩
    simp (maxSteps:=300000) (disch:=omega) [↓if_pos,↓if_neg,hof,hq,e2]
   ·refine .inr ⟨fun h=>e1 h.2,?_⟩
    simp (maxSteps:=300000) (disch:=omega) [↓if_pos,↓if_neg,hof,hq,e2]
 ·refine .inr ⟨fun h=>hl h.1,?_⟩
  simp (maxSteps:=300000) (disch:=omega) [↓if_pos,↓if_neg]
abbrev alN:List AV:=[.fn nL [] [.ptr 1 0],.fn nv [] [.ptr 1 0],.fn nz [] [.ptr 1 0],.fn nD [] [.ptr 1 0,.ptr 2 0],.fn nN [] [.ptr 0 0,.ptr 1 0,.ptr 2 0]]
abbrev oH (rt:Int) (c:aK):ac:=[(0,.cells [.d (.int .i64 rt)]),(1,.cells c.av),(2,.cells [.d (.int .i64 c.info.many)]),(3,.cells alN)]
theorem nF (rt:Int) (c:aK) (N i:Nat) (hi:i<5) (F:AV) (hF:alN[i]?=some F) (hF2:firm (firm (firm (share F)))=F) (B:Bool) (hB:aP (Dn prog) F [] ⟨oH rt c,N⟩=some (.d (.bool B),⟨oH rt c,N⟩)) :
  (Dn prog).code (.loop fb) ⟨[(28,.sl 3 0 5),(29,.d (.int .i64 5)),(30,.d (.int .i64 i))],⟨oH rt c,N⟩⟩ =
  if B=true then (Dn prog).code (.loop fb) ⟨[(28,.sl 3 0 5),(29,.d (.int .i64 5)),(30,.d (.int .i64 ((i+1:Nat):Int)))],⟨oH rt c,N⟩⟩ else some (.ret,⟨[(4,.d (.int .i64 8))],⟨oH rt c,N⟩⟩):=by
 have c1:((i+1:Nat):Int)=(i:Int)+1:=rfl
 obtain⟨hlt,e⟩:=List.getElem?_eq_some_iff.1 hF
 rw[c1,aa fb.eq_1]
 cases B with
 | true =>
  simp (maxSteps:=300000) (disch:=omega) [↓if_pos,↓if_neg,e,hF2,hB]
 | false =>
  simp (maxSteps:=300000) (disch:=omega) [↓if_pos,↓if_neg,e,hF2,hB]
theorem an4 (rt:Int) (c:aK) (N:Nat):(Dn prog).call nL [.ptr 1 0] ⟨oH rt c,N⟩=some (.d (.bool (decide (0≤c.gain∧c.gain≤255))),⟨oH rt c,N⟩):=by
 rw[aA Wo u4.eq_1 rfl]
 by_cases h1:0≤c.gain
 ·by_cases h2:c.gain≤255
  ·rw[decide_eq_true ⟨h1,h2⟩]
   simp (maxSteps:=300000) (disch:=omega) [↓if_pos,↓if_neg]
  ·rw[decide_eq_false (fun h=>h2 h.2)]
   simp (maxSteps:=300000) (disch:=omega) [↓if_pos,↓if_neg]
 ·rw[decide_eq_false (fun h=>h1 h.1)]
  simp (maxSteps:=300000) (disch:=omega) [↓if_pos,↓if_neg]
theorem aor (rt:Int) (c:aK) (N:Nat) (B:Bool) (h:aL prog lW [.agg c.av]=some (.d (.bool B))):(Dn prog).call nv [.ptr 1 0] ⟨oH rt c,N⟩=some (.d (.bool B),⟨oH rt c,N⟩):=by
 rw[aA Yh uw.eq_1 rfl]
 simp only[aK.av]at h
 simp (maxSteps:=300000) (disch:=omega) [h]
theorem apf (rt:Int) (c:aK) (N:Nat) (B:Bool) (h:aL prog sj [.agg c.av]=some (.d (.bool B))):(Dn prog).call nz [.ptr 1 0] ⟨oH rt c,N⟩=some (.d (.bool B),⟨oH rt c,N⟩):=by
 rw[aA XA uK.eq_1 rfl]
 simp only[aK.av]at h
 simp (maxSteps:=300000) (disch:=omega) [h]
theorem an1 (rt:Int) (c:aK) (N:Nat) (B:Bool) (h:aL prog nE [.agg c.av,.d (.int .i64 c.info.many)]=some (.d (.bool B))):(Dn prog).call nD [.ptr 1 0,.ptr 2 0] ⟨oH rt c,N⟩=some (.d (.bool B),⟨oH rt c,N⟩):=by
 rw[aA Y3 uR.eq_1 rfl]
 simp only[aK.av]at h
 simp (maxSteps:=300000) (disch:=omega) [h]
theorem ag4 (rt:Int) (c:aK) (N:Nat) (B:Bool) (h:aL prog mw [.d (.int .i64 rt),.agg c.av,.d (.int .i64 c.info.many)]=some (.d (.bool B))):(Dn prog).call nN [.ptr 0 0,.ptr 1 0,.ptr 2 0] ⟨oH rt c,N⟩=some (.d (.bool B),⟨oH rt c,N⟩):=by
 rw[aA YS uH.eq_1 rfl]
 simp only[aK.av]at h
 simp (maxSteps:=300000) (disch:=omega) [h]
structure pV (r:Nat) (c:aK):Prop where
 gain:0≤c.gain∧c.gain≤255
 info:c.info.may r
 sects:lI c.info c.sects
 steps:tN c.gain c.sects c.steps
 tns:acs c.info c.tns
 lines:YM r c
theorem Eb {f:FuncId}{caps:List AV}{h:ac}{N:Nat}:aP (Dn prog) (.fn f [] caps) [] ⟨h,N⟩=(Dn prog).call f caps ⟨h,N⟩:=by simp
theorem GT (rt:Int) (c:aK) (hc:c.Fit):(ef rt∧pV rt.toNat c∧aL prog cY [.d (.int .i64 rt),.agg c.av]=some (.d (.int .i64 0)))∨
  (ef rt∧¬ pV rt.toNat c∧aL prog cY [.d (.int .i64 rt),.agg c.av]=some (.d (.int .i64 8)))∨(¬ ef rt∧aL prog cY [.d (.int .i64 rt),.agg c.av]=some (.d (.int .i64 2))):=by
 have hi:=Fh rt c.info hc.info
 have hw:=sP c.info hc.info
 simp only[aD.cells]at hi hw
 by_cases hr:ef rt
 ·rw[if_pos hr]at hi
  by_cases hm:c.info.may rt.toNat
  ·rw[if_pos hm]at hi
   have hm11:=lg (by omega) hm
   rw[if_pos hm11]at hw
   have hmm:c.info.many≤8:=by unfold aD.many;split<;>omega
   have cI:(rt.toNat:Int)=rt:=by omega
   have c0:((0:Nat):Int)=0:=rfl
   have fin:∀ (e:Int) (X:Option (aU×St)),(Dn prog).code (.loop fb) ⟨[(28,.sl 3 0 5),(29,.d (.int .i64 5)),(30,.d (.int .i64 ((0:Nat):Int)))],⟨oH rt c,4⟩⟩=X→(X=some (.exit 0,⟨[],⟨oH rt c,4⟩⟩)∧e=0∨X=some (.ret,⟨[(4,.d (.int .i64 8))],⟨oH rt c,4⟩⟩)∧e=8)→aL prog cY [.d (.int .i64 rt),.agg c.av]=some (.d (.int .i64 e)):=by
    intro e X h hX
    rw[c0]at h
    simp only[oH,alN,aK.av]at h hX
    rw[am zh mp.eq_1 rfl]
    rcases hX with ⟨rfl,rfl⟩ | ⟨rfl,rfl⟩
    ·simp (maxSteps:=300000) (disch:=omega) [↓if_pos,↓if_neg,hi,hw,Tr,h]
    ·simp (maxSteps:=300000) (disch:=omega) [↓if_pos,↓if_neg,hi,hw,Tr,h]
   have s1:=nF rt c 4 0 (by omega) _ rfl rfl _ (Eb.trans (an4 rt c 4))
   by_cases b1:0≤c.gain∧c.gain≤255
   ·rw[if_pos (decide_eq_true b1)]at s1
    have s2:=nF rt c 4 (0+1) (by omega) _ rfl rfl _ (Eb.trans (aor rt c 4 _ (abL c hc hm11)))
    rw[s2]at s1
    by_cases b2:lI c.info c.sects
    ·rw[if_pos (decide_eq_true b2)]at s1
     have s3:=nF rt c 4 (0+1+1) (by omega) _ rfl rfl _ (Eb.trans (apf rt c 4 _ (aiJ c hc hm11 b1 b2)))
     rw[s3]at s1
     by_cases b3:tN c.gain c.sects c.steps
     ·rw[if_pos (decide_eq_true b3)]at s1
      have s4:=nF rt c 4 (0+1+1+1) (by omega) _ rfl rfl _ (Eb.trans (an1 rt c 4 _ (aez c hc c.info.many hmm)))
      rw[s4]at s1
      by_cases b4:acs c.info c.tns
      ·rw[if_pos (decide_eq_true b4)]at s1
       have hL:=ahE rt.toNat (by omega) c hc hm11 b2
       rw[cI]at hL
       rcases hL with ⟨b5,h5⟩ | ⟨b5,h5⟩
       ·have s5:=nF rt c 4 (0+1+1+1+1) (by omega) _ rfl rfl _ (Eb.trans (ag4 rt c 4 _ h5))
        rw[if_pos rfl]at s5
        rw[s5]at s1
        have s6:(Dn prog).code (.loop fb) ⟨[(28,.sl 3 0 5),(29,.d (.int .i64 5)),(30,.d (.int .i64 ((0+1+1+1+1+1:Nat):Int)))],⟨oH rt c,4⟩⟩=some (.exit 0,⟨[],⟨oH rt c,4⟩⟩):=by
         have c5:((0+1+1+1+1+1:Nat):Int)=5:=rfl
         rw[c5,aa fb.eq_1]
         simp (maxSteps:=300000) (disch:=omega) [↓if_pos,↓if_neg]
        rw[s6]at s1
        exact .inl ⟨hr,⟨b1,hm,b2,b3,b4,b5⟩,fin 0 _ s1 (.inl ⟨rfl,rfl⟩)⟩
       ·have s5:=nF rt c 4 (0+1+1+1+1) (by omega) _ rfl rfl _ (Eb.trans (ag4 rt c 4 _ h5))
        rw[if_neg (by simp)]at s5
        rw[s5]at s1
        exact .inr (.inl ⟨hr,fun h=>b5 h.lines,fin 8 _ s1 (.inr ⟨rfl,rfl⟩)⟩)
      ·rw[if_neg (by simpa using b4)]at s1
       exact .inr (.inl ⟨hr,fun h=>b4 h.tns,fin 8 _ s1 (.inr ⟨rfl,rfl⟩)⟩)
     ·rw[if_neg (by simpa using b3)]at s1
      exact .inr (.inl ⟨hr,fun h=>b3 h.steps,fin 8 _ s1 (.inr ⟨rfl,rfl⟩)⟩)
    ·rw[if_neg (by simpa using b2)]at s1
     exact .inr (.inl ⟨hr,fun h=>b2 h.sects,fin 8 _ s1 (.inr ⟨rfl,rfl⟩)⟩)
   ·rw[if_neg (by simpa using b1)]at s1
    exact .inr (.inl ⟨hr,fun h=>b1 h.gain,fin 8 _ s1 (.inr ⟨rfl,rfl⟩)⟩)
  ·rw[if_neg hm]at hi
   refine .inr (.inl ⟨hr,fun h=>hm h.info,?_⟩)
   rw[am zh mp.eq_1 rfl]
   simp (maxSteps:=300000) (disch:=omega) [↓if_pos,↓if_neg,hi]
 ·rw[if_neg hr]at hi
  refine .inr (.inr ⟨hr,?_⟩)
  rw[am zh mp.eq_1 rfl]
  simp (maxSteps:=300000) (disch:=omega) [↓if_pos,↓if_neg,hi]
end Go.Vm
namespace Go.Vm
set_option maxHeartbeats 2000000
set_option maxRecDepth 100000
theorem aut {n:Int}{k P:Nat}(hP:2 ^ k=P) (hk:k≤62):fy .and (.d (.int .i64 n)) (.d (.int .i64 ((P:Int)-1)))=some (.int .i64 (n % P)):=by
 have h1:2 ^ k≤2 ^ 62:=Nat.pow_le_pow_right (by omega) hk
 have h2:=Nat.two_pow_pos k
 have hd:(P:Int) ∣ 18446744073709551616:=by
  subst hP
  have:(2:Nat) ^ k ∣ 2 ^ 64:=Nat.pow_dvd_pow 2 (by omega)
  have:=Int.natCast_dvd_natCast.2 this
  simpa using this
 have e0:0≤n % 18446744073709551616:=Int.emod_nonneg _ (by omega)
 have e1:n % 18446744073709551616 % P=n % P:=Int.emod_emod_of_dvd n hd
 refine nf ?_
 rw[iL (by simp) (by simp)]
 have c:(P:Int)-1=((P-1:Nat):Int):=by omega
 rw[c]
 simp only[eS,DU,BitVec.toNat_and,CC (show P-1<rZ .i64 by simp[rZ,IntKind.signed];omega)]
 have e2:((2 ^ IntKind.i64.bits:Nat):Int)=18446744073709551616:=rfl
 rw[BitVec.toNat_ofInt,e2]
 subst hP
 rw[Nat.and_two_pow_sub_one_eq_mod]
 have h3:(n % 18446744073709551616).toNat % 2 ^ k<2 ^ k:=Nat.mod_lt _ h2
 rw[anr (by simp[rZ,IntKind.signed];omega),Int.natCast_emod]
 have e3:(((n % 18446744073709551616).toNat:Nat):Int)=n % 18446744073709551616:=by omega
 rw[e3,e1]
theorem aar {hp:AV→ac}{p N:Nat}(H:Hv hp p) {b:List Nat}(hb:b.length≤900000000) (n:Int) (s:Nat) (hs:s≤31) (hn:i64 n) (sI:Int) (es:sI=s) :
  (Dn prog).call gL [.d (.int .i64 n),.d (.int .i64 sI),.ptr p 0] ⟨hp (.own false 1 (ah b)),N⟩=some (.tup [],⟨hp (.own false 1 (ah (b++ae (n % ((2 ^ s:Nat):Int)).toNat s))),N⟩):=by
 subst es
 have h31:2 ^ s≤2 ^ 31:=Nat.pow_le_pow_right (by omega) hs
 have h2:=Nat.two_pow_pos s
 have q1:=acv (m:=s) (by omega)
 have q2:=aut (n:=n) (k:=s) rfl (by omega)
 have e0:0≤n % ((2 ^ s:Nat):Int):=Int.emod_nonneg _ (by omega)
 have e1:n % ((2 ^ s:Nat):Int)<((2 ^ s:Nat):Int):=Int.emod_lt_of_pos _ (by omega)
 have h1:=im b (n % ((2 ^ s:Nat):Int)) s hb (by omega) _ (.inl rfl)
 rw[if_pos (by simp only[gJ,Int.toNat_natCast];omega)]at h1
 simp only[Int.toNat_natCast]at h1
 generalize n % ((2 ^ s:Nat):Int)=Q at *
 generalize 2 ^ s=P at *
 rw[aA Vv rQ.eq_1 rfl]
 simp (maxSteps:=300000) (disch:=omega) [H.get,H.put,-EZ,q1,q2,h1]
def dY (f:aV):Bool:=decide (∀ c∈f.coefs,-(cD f.fine / 2)≤c∧c<cD f.fine / 2)
def lZ (fine:Bool):Nat:=if fine then 4 else 3
def cf (b:Bool):Nat:=if b then 1 else 0
def GW (f:aV):Nat:=lZ f.fine-cf (dY f)
def mR (w:Nat) (l:List Int):List Nat:=l.flatMap fun c=>ae (c % ((2 ^ w:Nat):Int)).toNat w
def jx (sh:Bool):Nat:=if sh then 4 else 6
def kW (sh:Bool):Nat:=if sh then 3 else 5
def ky (sh:Bool):Nat:=if sh then 1 else 2
def pT (sh:Bool) (f:aV):List Nat:=ae f.len.toNat (jx sh)++(ae f.order.toNat (kW sh)++if f.order=0 then [] else ae (cf f.down) 1++(ae (cf (dY f)) 1++mR (GW f) f.coefs))
def q9 (sh:Bool) (l:List aV):List Nat:=ae l.length (ky sh)++match l with
 | []=>[]
 | f0::_=>ae (cf f0.fine) 1++l.flatMap (pT sh)
def gv (sh:Bool) (t:List (List aV)):List Nat:=t.flatMap (q9 sh)
abbrev H1 (sh:Bool) (v:AV):ac:=[(0,.cells [v]),(2,.cells (fP sh))]
abbrev NW (full:List (List aV)) (i:Int) (r:ak):ak:=(3,.ptr 0 0)::(9,.fn gL [] [.ptr 0 0])::(10,.ptr 2 0)::(30,.d (.lst (dw full)))::(31,.d (.int .i64 full.length))::(32,.d (.int .i64 i))::r
theorem amP (sh:Bool):Hv (H1 sh) 0:=⟨fun v=>by simp,fun v w=>by simp⟩
theorem Ss {w:Nat}:∀ {l:List Int},(mR w l).length=w*l.length
 | []=>by simp[mR]
 | c::r=>by
  have:=Ss (w:=w) (l:=r)
  rw[mR]at this⊢
  rw[List.flatMap_cons,List.length_append,bK,List.length_cons,this,Nat.mul_add];omega
theorem apH (sh:Bool) (full:List (List aV)) (i:Int) (l:List aV) (k:Int) (nw:Bool) (w:Nat) (hw:1≤w-cf nw∧w≤4) (cs:List Int) (hcs:cs.length≤100) (hcI:∀ c∈cs,i64 c) (N:Nat):∀ (r:List Int) (j:Nat) (b:List Nat),cs.drop j=r→b.length+4*r.length≤900000000→
  (Dn prog).code (.loop kG) ⟨(3,.ptr 0 0)::(9,.fn gL [] [.ptr 0 0])::(10,.ptr 2 0)::(15,.d (.int .i64 w))::(16,.d (.bool nw))::(30,.d (.lst (dw full)))::(31,.d (.int .i64 full.length))::(32,.d (.int .i64 i))::[(52,.d (.lst (cG l))),(53,.d (.int .i64 l.length)),(54,.d (.int .i64 k)),(91,.d (.lst (aI cs))),(92,.d (.int .i64 cs.length)),(93,.d (.int .i64 j))],⟨H1 sh (.own false 1 (ah b)),N⟩⟩ =
  some (.exit 4,⟨NW full i [(52,.d (.lst (cG l))),(53,.d (.int .i64 l.length)),(54,.d (.int .i64 k))],⟨H1 sh (.own false 1 (ah (b++mR (w-cf nw) r))),N⟩⟩):=by
 intro r
 induction r with
 | nil =>
  intro j b hd hb
  have hi:=an hd
  rw[aa kG.eq_1]
  simp (maxSteps:=300000) (disch:=omega) [↓if_neg,mR]
 | cons c r ih =>
  intro j b hd hb
  simp only[List.length_cons]at hb
  have hg:=qp hd
  have hlt:=ax hd
  have hcc:=hcI c (by rw[←List.take_append_drop j cs,hd];simp)
  have hbit:=vw nw
  have hbI:((cf nw:Nat):Int)=if nw=true then 1 else 0:=by cases nw<;>rfl
  rw[←hbI]at hbit
  have hbb:cf nw≤1:=by cases nw<;>decide
  have hp:=aar (amP sh) (N:=N) (b:=b) (by omega) c (w-cf nw) (by omega) hcc ((w:Int)-cf nw) (by omega)
  have h5:=ih (j+1) (b++ae (c % ((2 ^ (w-cf nw):Nat):Int)).toNat (w-cf nw)) (ar hd) (by simp;omega)
  have c1:((j+1:Nat):Int)=(j:Int)+1:=rfl
  have ea:b++mR (w-cf nw) (c::r)=b++ae (c % ((2 ^ (w-cf nw):Nat):Int)).toNat (w-cf nw)++mR (w-cf nw) r:=by rw[mR,List.flatMap_cons,List.append_assoc];rfl
  rw[c1]at h5
  rw[ea,←h5,aa kG.eq_1]
  simp (maxSteps:=300000) (disch:=omega) [↓if_pos,hg,hbit,hp]
end Go.Vm
namespace Go.Vm
set_option maxHeartbeats 2000000
set_option maxRecDepth 100000
@[simp] theorem awe {sh:Bool}:(fP sh)[0]?=some (.d (.int .i64 (ky sh:Int))):=by cases sh<;>rfl
@[simp] theorem avJ {sh:Bool}:(fP sh)[1]?=some (.d (.int .i64 (jx sh:Int))):=by cases sh<;>rfl
@[simp] theorem avK {sh:Bool}:(fP sh)[2]?=some (.d (.int .i64 (kW sh:Int))):=by cases sh<;>rfl
@[simp] theorem asz {sh:Bool}:(fP sh).map eM=fP sh:=by cases sh<;>rfl
theorem qz {hp:AV→ac}{p N:Nat}(H:Hv hp p) {b:List Nat}(hb:b.length≤900000000) (n:Int) (s:Nat) (hs:s≤31) (h0:0≤n) (h1:n.toNat<2 ^ s) (m:Nat) (hm:m=n.toNat) (sI:Int) (es:sI=s) :
  (Dn prog).call gL [.d (.int .i64 n),.d (.int .i64 sI),.ptr p 0] ⟨hp (.own false 1 (ah b)),N⟩=some (.tup [],⟨hp (.own false 1 (ah (b++ae m s))),N⟩):=by
 have h31:2 ^ s≤2 ^ 31:=Nat.pow_le_pow_right (by omega) hs
 have h:=aar H (N:=N) hb n s hs (by omega) sI es
 have e:n % ((2 ^ s:Nat):Int)=n:=Int.emod_eq_of_lt h0 (by omega)
 rw[e,←hm]at h
 exact h
abbrev aln (sh:Bool) (N:Nat) (f:aV) (v:AV):ac:=[(0,.cells [v]),(2,.cells (fP sh)),(N,.cells f.av)]
theorem acz (sh:Bool) (N:Nat) (hN:3≤N) (f:aV):Hv (aln sh N f) 0:=⟨fun v=>by simp,fun v w=>by simp⟩
theorem NO (f:aV):1≤GW f∧lZ f.fine≤4∧3≤lZ f.fine∧cf (dY f)≤1:=by
 unfold GW lZ cf
 cases f.fine<;>cases dY f<;>decide
theorem apT (sh:Bool) (full:List (List aV)) (i:Int) (l:List aV) (hl:l.length≤100) (k N:Nat) (hN:3≤N) (f:aV) (r:List aV) (hd:l.drop k=f::r) (hf:zE sh f) (hcI:∀ c∈f.coefs,i64 c) (b:List Nat) (hb:b.length≤800000000) :
  (Dn prog).code iZ ⟨NW full i [(52,.d (.lst (cG l))),(53,.d (.int .i64 l.length)),(54,.d (.int .i64 k))],⟨H1 sh (.own false 1 (ah b)),N⟩⟩ =
  some (.normal,⟨NW full i [(52,.d (.lst (cG l))),(53,.d (.int .i64 l.length)),(54,.d (.int .i64 ((k+1:Nat):Int)))],⟨H1 sh (.own false 1 (ah (b++pT sh f))),N+1⟩⟩):=by
 have hg:=qd hd
 have hlt:=ax hd
 obtain⟨⟨l1,l2⟩,⟨o1,o2⟩,c1,d1,c2⟩:=hf
 have hlw:t8 sh<2 ^ jx sh∧jx sh≤6∧mS sh<2 ^ kW sh∧kW sh≤5∧mS sh≤12:=by cases sh<;>decide
 obtain⟨w1,w2,w3,w4,w5⟩:=hlw
 have wN1:((2 ^ jx sh:Nat):Int)=2 ^ jx sh:=by simp
 have wN2:((2 ^ kW sh:Nat):Int)=2 ^ kW sh:=by simp
 have p1:=qz (acz sh N hN f) (N:=N+1) (b:=b) (by omega) f.len (jx sh) (by omega) l1 (by omega) f.len.toNat rfl (jx sh) rfl
 have p2:=qz (acz sh N hN f) (N:=N+1) (b:=b++ae f.len.toNat (jx sh)) (by simp;omega) f.order (kW sh) (by omega) o1 (by omega) f.order.toNat rfl (kW sh) rfl
 have n0:N≠0∧N≠1∧N≠2:=by omega
 obtain⟨n0,n1,n2⟩:=n0
 have c9:((k+1:Nat):Int)=(k:Int)+1:=rfl
 rw[c9,iZ.eq_1]
 by_cases h0:f.order=0
 ·have e:b++pT sh f=b++ae f.len.toNat (jx sh)++ae f.order.toNat (kW sh):=by rw[pT,if_pos h0,List.append_nil,List.append_assoc]
  rw[e]
  generalize b++ae f.len.toNat (jx sh)++ae f.order.toNat (kW sh)=B2 at *
  generalize b++ae f.len.toNat (jx sh)=B1 at *
  simp only[aln,aV.av]at p1 p2
  simp (maxSteps:=300000) (disch:=omega) [↓if_pos,↓if_neg,hg,n0,n1,n2,p1,p2]
 ·have hw:=IA f.fine
  obtain⟨q1,q2,q3,q4⟩:=NO f
  have hcl:f.coefs.length≤100:=by omega
  have hft:=NJ f.coefs (by omega) (lZ f.fine-1) (by omega)
  have hh:((2 ^ (lZ f.fine-1-1):Nat):Int)=cD f.fine / 2:=by unfold lZ cD;cases f.fine<;>rfl
  have hwI:(if f.fine=true then (4:Int) else 3)=(lZ f.fine:Int):=by unfold lZ;cases f.fine<;>rfl
  have hwS:((lZ f.fine-1:Nat):Int)=(lZ f.fine:Int)-1:=by omega
  have hnr:decide (∀ c∈f.coefs,-(cD f.fine / 2)≤c∧c<cD f.fine / 2)=dY f:=rfl
  rw[hh,hnr,hwS]at hft
  rw[hwI]at hw
  have hb1:=vw f.down
  have hb2:=vw (dY f)
  have e1:(if f.down=true then (1:Int) else 0)=(cf f.down:Int):=by cases f.down<;>rfl
  have e2:(if dY f=true then (1:Int) else 0)=(cf (dY f):Int):=by cases dY f<;>rfl
  rw[e1]at hb1
  rw[e2]at hb2
  have hbd:cf f.down≤1:=by unfold cf;cases f.down<;>decide
  have p3:=qz (acz sh N hN f) (N:=N+1) (b:=b++ae f.len.toNat (jx sh)++ae f.order.toNat (kW sh)) (by simp;omega) (cf f.down) 1 (by omega) (by omega) (by simp only[Int.toNat_natCast];omega) (cf f.down) (by simp) 1 rfl
  have p4:=qz (acz sh N hN f) (N:=N+1) (b:=b++ae f.len.toNat (jx sh)++ae f.order.toNat (kW sh)++ae (cf f.down) 1) (by simp;omega) (cf (dY f)) 1 (by omega) (by omega) (by simp only[Int.toNat_natCast];omega) (cf (dY f)) (by simp) 1 rfl
  have p5:=apH sh full i l k (dY f) (lZ f.fine) (by unfold GW at q1;omega) f.coefs hcl hcI (N+1) f.coefs 0 (b++ae f.len.toNat (jx sh)++ae f.order.toNat (kW sh)++ae (cf f.down) 1++ae (cf (dY f)) 1) rfl (by simp;omega)
  have c0:((0:Nat):Int)=0:=rfl
  have hlc:=bq (l:=f.coefs)
  have e:b++pT sh f=b++ae f.len.toNat (jx sh)++ae f.order.toNat (kW sh)++ae (cf f.down) 1++ae (cf (dY f)) 1++mR (lZ f.fine-cf (dY f)) f.coefs:=by
   rw[pT,if_neg h0];simp only[List.append_assoc];rfl
  rw[c0]at p5
  rw[e]
  generalize b++ae f.len.toNat (jx sh)++ae f.order.toNat (kW sh)++ae (cf f.down) 1++ae (cf (dY f)) 1++mR (lZ f.fine-cf (dY f)) f.coefs=B5 at *
  generalize b++ae f.len.toNat (jx sh)++ae f.order.toNat (kW sh)++ae (cf f.down) 1++ae (cf (dY f)) 1=B4 at *
  generalize b++ae f.len.toNat (jx sh)++ae f.order.toNat (kW sh)++ae (cf f.down) 1=B3 at *
  generalize b++ae f.len.toNat (jx sh)++ae f.order.toNat (kW sh)=B2 at *
  generalize b++ae f.len.toNat (jx sh)=B1 at *
  simp only[aln,aV.av]at p1 p2 p3 p4
  simp (maxSteps:=300000) (disch:=omega) [↓if_pos,↓if_neg,hg,n0,n1,n2,p1,p2,p3,p4,p5,hw,hft,hb1,hb2,hlc]
theorem acP {sh:Bool}{f:aV}(hf:zE sh f):(pT sh f).length≤100:=by
 obtain⟨⟨l1,l2⟩,⟨o1,o2⟩,c1,d1,c2⟩:=hf
 have hlw:jx sh≤6∧kW sh≤5∧mS sh≤12:=by cases sh<;>decide
 obtain⟨q1,q2,q3,q4⟩:=NO f
 have hcw:GW f≤4:=by unfold GW;omega
 have h1:GW f*f.coefs.length≤4*f.coefs.length:=Nat.mul_le_mul_right _ hcw
 unfold pT
 split
 ·simp only[List.length_append,bK,List.length_nil];omega
 ·simp only[List.length_append,bK,Ss];omega
theorem akv (sh:Bool) (full:List (List aV)) (i:Int) (l:List aV) (hl:l.length≤100):∀ (r:List aV) (k N:Nat) (b:List Nat),l.drop k=r→3≤N→(∀ f∈r,zE sh f∧∀ c∈f.coefs,i64 c)→b.length+100*r.length≤800000000→
  ∃ M,3≤M∧(Dn prog).code (.loop iZ) ⟨NW full i [(52,.d (.lst (cG l))),(53,.d (.int .i64 l.length)),(54,.d (.int .i64 k))],⟨H1 sh (.own false 1 (ah b)),N⟩⟩ =
  some (.exit 2,⟨NW full i [],⟨H1 sh (.own false 1 (ah (b++r.flatMap (pT sh)))),M⟩⟩):=by
 intro r
 induction r with
 | nil =>
  intro k N b hd hN hr hb
  have hi:=an hd
  refine⟨N,hN,?_⟩
  rw[aa iZ.eq_1,List.flatMap_nil,List.append_nil]
  simp (maxSteps:=300000) (disch:=omega) [↓if_neg]
 | cons f r ih =>
  intro k N b hd hN hr hb
  simp only[List.length_cons]at hb
  obtain⟨h1,h2⟩:=hr f (.head _)
  have h3:=acP h1
  obtain⟨M,hM,e⟩:=ih (k+1) (N+1) (b++pT sh f) (ar hd) (by omega) (fun q hq=>hr q (.tail _ hq)) (by rw[List.length_append];omega)
  refine⟨M,hM,?_⟩
  have ea:b++(f::r).flatMap (pT sh)=b++pT sh f++r.flatMap (pT sh):=by rw[List.flatMap_cons,List.append_assoc]
  rw[aa rfl,apT sh full i l hl k N hN f r hd h1 h2 b (by omega),YX,e,ea]
theorem Xu {sh:Bool}{l:List aV}(h:nA sh l):(q9 sh l).length≤1000:=by
 have hm:jZ sh≤3∧ky sh≤2:=by cases sh<;>decide
 have h1:=h.1
 unfold q9
 rw[List.length_append,bK]
 cases l with
 | nil=>simp;omega
 | cons f0 r =>
  have h2:=h.2 f0 (by simp)
  have:∀ q:List aV,(∀ f∈q,zE sh f)→(q.flatMap (pT sh)).length≤100*q.length:=by
   intro q
   induction q with
   | nil=>simp
   | cons f q ih =>
    intro hq
    have a:=acP (hq f (.head _))
    have b:=ih fun g hg=>hq g (.tail _ hg)
    rw[List.flatMap_cons,List.length_append,List.length_cons];omega
  have:=this (f0::r) fun f hf=>(h2 f hf).1
  simp only[List.length_append,bK]
  omega
theorem aqu (i:aD) (full:List (List aV)) (hl:full.length≤1000):∀ (r:List (List aV)) (j N:Nat) (b:List Nat),full.drop j=r→3≤N→(∀ l∈r,nA i.short l∧∀ f∈l,∀ c∈f.coefs,i64 c)→b.length+1000*r.length≤700000000→
  ∃ M,(Dn prog).code (.loop jh) ⟨NW full j [],⟨H1 i.short (.own false 1 (ah b)),N⟩⟩ =
  some (.exit 0,⟨[(3,.ptr 0 0)],⟨[(0,.cells [.own false 1 (ah (b++gv i.short r))])],M⟩⟩):=by
 intro r
 induction r with
 | nil =>
  intro j N b hd hN hr hb
  have hi:=an hd
  refine⟨N,?_⟩
  rw[aa jh.eq_1,gv,List.flatMap_nil,List.append_nil]
  simp (maxSteps:=300000) (disch:=omega) [↓if_neg]
 | cons l r ih =>
  intro j N b hd hN hr hb
  simp only[List.length_cons]at hb
  have hg:=ku hd
  have hlt:=ax hd
  obtain⟨h1,h2⟩:=hr l (.head _)
  have hwl:=Xu h1
  have hm:jZ i.short≤3∧ky i.short≤2∧jZ i.short<2 ^ ky i.short:=by cases i.short<;>decide
  obtain⟨m1,m2,m3⟩:=hm
  have hll:=h1.1
  have p1:=qz (amP i.short) (N:=N) (b:=b) (by omega) l.length (ky i.short) (by omega) (by omega) (by simp only[Int.toNat_natCast];omega) l.length (by simp) (ky i.short) rfl
  have c1:((j+1:Nat):Int)=(j:Int)+1:=rfl
  have c0:((0:Nat):Int)=0:=rfl
  cases l with
  | nil =>
   have eb:q9 i.short []=ae 0 (ky i.short):=by simp[q9]
   obtain⟨M2,hM2,p2⟩:=akv i.short full j [] (by simp) [] 0 N (b++q9 i.short []) rfl hN (by simp) (by simp;omega)
   obtain⟨M,e⟩:=ih (j+1) M2 (b++q9 i.short []) (ar hd) hM2 (fun q hq=>hr q (.tail _ hq)) (by rw[List.length_append];omega)
   refine⟨M,?_⟩
   have ea:b++gv i.short ([]::r)=b++q9 i.short []++gv i.short r:=by rw[gv,List.flatMap_cons,List.append_assoc];rfl
   rw[eb]at ea e p2
   simp only[List.length_nil,List.flatMap_nil,List.append_nil]at p1 p2
   rw[c1]at e
   rw[c0]at p1 p2
   have n0:cG []=[]:=rfl
   rw[n0]at hg p2
   rw[ea]
   generalize b++ae 0 (ky i.short)++gv i.short r=BB at *
   generalize b++ae 0 (ky i.short)=B1 at *
   simp only[H1]at p1 p2 e⊢
   rw[←e,aa jh.eq_1]
   simp (maxSteps:=300000) (disch:=omega) [↓if_pos,↓if_neg,hg,p1,p2]
  | cons f0 r0 =>
   have hgf:=qd (l:=f0::r0) (i:=0) (s:=f0) (r:=r0) rfl
   have hb1:=vw f0.fine
   have e1:(if f0.fine=true then (1:Int) else 0)=(cf f0.fine:Int):=by cases f0.fine<;>rfl
   rw[e1]at hb1
   have hbd:cf f0.fine≤1:=by unfold cf;cases f0.fine<;>decide
   have hok:∀ f∈f0::r0,zE i.short f∧∀ c∈f.coefs,i64 c:=fun f hf=>⟨(h1.2 f0 (by simp) f hf).1,h2 f hf⟩
   have p2:=qz (amP i.short) (N:=N) (b:=b++ae (f0::r0).length (ky i.short)) (by simp;omega) (cf f0.fine) 1 (by omega) (by omega) (by simp only[Int.toNat_natCast];omega) (cf f0.fine) (by simp) 1 rfl
   obtain⟨M2,hM2,p3⟩:=akv i.short full j (f0::r0) (by omega) (f0::r0) 0 N (b++ae (f0::r0).length (ky i.short)++ae (cf f0.fine) 1) rfl hN hok (by simp only[List.length_append,bK];omega)
   have eb:b++ae (f0::r0).length (ky i.short)++ae (cf f0.fine) 1++(f0::r0).flatMap (pT i.short)=b++q9 i.short (f0::r0):=by simp only[q9,List.append_assoc]
   obtain⟨M,e⟩:=ih (j+1) M2 (b++q9 i.short (f0::r0)) (ar hd) hM2 (fun q hq=>hr q (.tail _ hq)) (by rw[List.length_append];omega)
   refine⟨M,?_⟩
   have ea:b++gv i.short ((f0::r0)::r)=b++q9 i.short (f0::r0)++gv i.short r:=by rw[gv,List.flatMap_cons,List.append_assoc];rfl
   have hll2:1≤(f0::r0).length:=by simp
   rw[eb]at p3
   rw[c1]at e
   rw[c0]at p3
   rw[ea]
   generalize b++q9 i.short (f0::r0)++gv i.short r=BB at *
   generalize b++q9 i.short (f0::r0)=B3 at *
   generalize b++ae (f0::r0).length (ky i.short)++ae (cf f0.fine) 1=B2 at *
   generalize b++ae (f0::r0).length (ky i.short)=B1 at *
   generalize hLL:(f0::r0).length=LL at *
   have hfl:(cG (f0::r0)).length=LL:=by rw[adt,hLL]
   clear h2 hok h1
   generalize cG (f0::r0)=FF at *
   obtain⟨hgl,hge⟩:=List.getElem?_eq_some_iff.1 hgf
   simp only[H1]at p1 p2 p3 e⊢
   rw[←e,aa jh.eq_1]
   simp (maxSteps:=300000) (disch:=omega) [↓if_pos,↓if_neg,hg,hgf,hge,hfl,hb1,p1,p2,p3]
theorem afH (i:aD) (f0:aV) (l:List aV) (f:aV) (hf:zE i.short f∧f.fine=f0.fine) (H:ac) (p q M:Nat) (hp:get H p=some (.cells i.cells)) (hq:get H q=some (.cells [.d (.lst (cG (f0::l)))])) (hl:(f0::l).length≤1000000) (hM:Lt H M) :
  (Dn prog).call ip [.agg f.av,.ptr p 0,.ptr q 0] ⟨H,M⟩=some (.d (.bool false),⟨H,M+1⟩):=by
 have e1:=fun o=>qo (o:=o) hM
 have e2:=fun o=>uo (o:=o) hM
 have e3:=fun o=>qr (N:=M) (o:=o) hp
 have e4:=fun o=>qr (N:=M) (o:=o) hq
 have e5:=fun o=>XJ (o:=o) hM
 have e6:=abb i f hf.1
 have hfn:=hf.2
 have hg:=qd (l:=f0::l) (i:=0) (s:=f0) (r:=l) rfl
 rw[aA MT oq.eq_1 rfl]
 simp only[aV.av,aD.cells]at e3 e6⊢
 simp only[List.length_cons]at hl
 cases hf2:f0.fine<;>rw[hf2]at hg hfn<;>rw[hfn]at e6⊢<;>
  simp (maxSteps:=300000) (disch:=omega) [↓if_pos,↓if_neg,e1,e2,e3,e4,e5,e6,hg]
theorem aeI (i:aD) (full:List (List aV)) (hl:full.length≤1000):∀ (r:List (List aV)) (j N:Nat) (H:ac),full.drop j=r→get H 0=some (.cells i.cells)→Lt H N→1≤N→(∀ l∈r,nA i.short l)→
  ∃ H2 M,(Dn prog).code (.loop jJ) ⟨[(2,.ptr 0 0),(21,.d (.lst (dw full))),(22,.d (.int .i64 full.length)),(23,.d (.int .i64 j))],⟨H,N⟩⟩=some (.exit 0,⟨[],⟨H2,M⟩⟩):=by
 intro r
 induction r with
 | nil =>
  intro j N H hd hH hL hN hr
  have hi:=an hd
  refine⟨H,N,?_⟩
  rw[aa jJ.eq_1]
  simp (maxSteps:=300000) (disch:=omega) [↓if_neg]
 | cons l r ih =>
  intro j N H hd hH hL hN hr
  have hg:=ku hd
  have hlt:=ax hd
  have hW:=hr l (.head _)
  have hm:jZ i.short≤3:=by cases i.short<;>decide
  have hll:=hW.1
  have e1:=fun o=>qo (o:=o) hL
  have e2:=fun o=>uo (o:=o) hL
  have e3:=fun o=>qr (N:=N) (o:=o) hH
  have e4:=fun o o'=>KS (o:=o) (o':=o') hL
  have c1:((j+1:Nat):Int)=(j:Int)+1:=rfl
  have hsz:=wG i
  have hix:ixV 5 1 false (.agg (fP i.short)) (.d (.int .i64 3))=some (.d (.int .i64 (jZ i.short:Int))):=by cases i.short<;>rfl
  have hcf:∃ M,N+1≤M∧(Dn prog).call bQ [.d (.lst (cG l)),.fn ip [] [.ptr 0 0,.ptr N 0]] ⟨H++[(N,.cells [.d (.lst (cG l))])],N+1⟩=some (.d (.bool false),⟨H++[(N,.cells [.d (.lst (cG l))])],M⟩):=by
   have h:=uT (.fn ip [] [.ptr 0 0,.ptr N 0]) (fun _=>false) l (by omega) (H++[(N,.cells [.d (.lst (cG l))])]) (N+1) rfl rfl fun f hf M hM=>by
    cases l with
    | nil=>simp at hf
    | cons f0 r0 =>
     have:=afH i f0 r0 f (hW.2 f0 (by simp) f hf) (H++[(N,.cells [.d (.lst (cG (f0::r0)))])]) 0 N M (e3 _) (e2 _) (by omega) (acl (DT hL) hM)
     simpa using this
   have e:l.any (fun _=>false)=false:=by simp
   rw[e]at h
   exact h
  obtain⟨M,hM,e5⟩:=hcf
  obtain⟨H2,M2,f2⟩:=ih (j+1) M (H++[(N,.cells [.d (.lst (cG l))])]) (ar hd) (e3 _) (acl (DT hL) hM) (by omega) (fun q hq=>hr q (.tail _ hq))
  rw[c1]at f2
  refine⟨H2,M2,?_⟩
  simp only[aD.cells]at e3 hsz
  rw[aa jJ.eq_1,←f2]
  simp (maxSteps:=300000) (disch:=omega) [↓if_pos,↓if_neg,hg,e1,e2,e3,e4,e5,hsz,hix]
theorem abG (i:aD) (hi:i.Fit) (hm:i.may 11) (t:List (List aV)) (ht:acs i t):aL prog sH [.agg i.cells,.d (.lst (dw t))]=some (.d (.int .i64 0)):=by
 have hw:=sP i hi
 rw[if_pos hm]at hw
 have hmm:i.many≤8:=by unfold aD.many;split<;>omega
 have htl:=ht.1
 obtain⟨H2,M,e⟩:=aeI i t (by omega) t 0 1 [(0,.cells i.cells)] rfl (by simp) (fun p hp=>by rw[List.mem_singleton]at hp;subst hp;show 0<1;omega) (by omega) ht.2
 have c0:((0:Nat):Int)=0:=rfl
 rw[c0]at e
 simp only[aD.cells]at hw e
 rw[am RE qW.eq_1 rfl]
 simp (maxSteps:=300000) (disch:=omega) [↓if_pos,↓if_neg,hw,e]
theorem afl (b:List Nat) (hb:b.length≤600000000) (x:AV) (hx:x=.d (.lst (ah b))∨x=.nl∧b=[]) (i:aD) (hi:i.Fit) (hm:i.may 11) (t:List (List aV)) (ht:acs i t) (htI:∀ l∈t,∀ f∈l,∀ c∈f.coefs,i64 c):aL prog xy [x,.agg i.cells,.d (.lst (dw t))] =
  some (.tup [.own true 1 (ah (b++gv i.short t)),.d (.int .i64 0)]):=by
 have hc:=abG i hi hm t ht
 have hmm:i.many≤8:=by unfold aD.many;split<;>omega
 have htl:=ht.1
 obtain⟨M,e⟩:=aqu i t (by omega) t 0 3 b rfl (by omega) (fun l hl=>⟨ht.2 l hl,htI l hl⟩) (by omega)
 have hcl:aL prog dK [x]=some (.own true 1 (ah b)):=by
  refine Er x b (by omega) ?_
  rcases hx with rfl | ⟨rfl,rfl⟩<;>rfl
 have hsz:=wG i
 have hl5:(fP i.short).length=5:=by cases i.short<;>rfl
 have hsc:ai [AV.d (.int .i64 0),AV.d (.int .i64 0),AV.d (.int .i64 0),AV.d (.int .i64 0),AV.d (.int .i64 0)] 0 (fP i.short)=fP i.short:=by cases i.short<;>rfl
 have hall:(fP i.short).all au=true:=by cases i.short<;>rfl
 have hfm:(fP i.short).map eM=fP i.short:=by cases i.short<;>rfl
 have c0:((0:Nat):Int)=0:=rfl
 rw[c0]at e
 simp only[aD.cells,H1,NW]at hc e hsz
 rw[am abh xb.eq_1 rfl]
 rcases hx with rfl | ⟨rfl,rfl⟩
 ·simp (maxSteps:=300000) (disch:=omega) [↓if_pos,↓if_neg,hc,hcl,hsz,hl5,hsc,hall,hfm,e]
 ·simp (maxSteps:=300000) (disch:=omega) [↓if_pos,↓if_neg,hc,hcl,hsz,hl5,hsc,hall,hfm,e]
end Go.Vm
end
