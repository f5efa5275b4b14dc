import GoSem.ClaimChange
import Derived.WalkKit
import Derived.ProofKit
import Derived.OpenShut
import Derived.JoinedCond
import Derived.ChangeStays
import Derived.ChangeBook
import Derived.Test.YtbdkecggngjnfaaGreatP4
set_option linter.unusedVariables false
set_option linter.unusedSimpArgs false
noncomputable section
namespace Go.Vm
set_option maxHeartbeats 2000000
set_option maxRecDepth 100000
theorem agP (id:Nat):aW prog tC [.d (.int .i64 id)]=some (.d (.int .i64 (aZ id))):=by
 rw[au ac6 Ep.eq_1 rfl]
 unfold aZ
 by_cases h:id<5
 ·simp (maxSteps:=300000) (disch:=omega) [↓if_pos]
 ·simp (maxSteps:=300000) (disch:=omega) [↓if_neg]
def qS (d hi:Nat):Nat→Nat→List Nat
 | 0,_=>[]
 | f+1,x=>if x<hi then x::qS d hi f (x+d) else []
def tc (os:List Nat) (d b:Nat):Nat→Nat→List Nat
 | 0,_=>[]
 | k+1,w=>(qS d (nth os (b+1)) 300 (nth os b)).map (fun x=>w*32+x)++tc os d b k (w+1)
def uq (os:List Nat) (d n first:Nat):Nat→Nat→List Nat
 | 0,_=>[]
 | k+1,b=>tc os d b n first++uq os d n first k (b+1)
def wH (os:List Nat) (n first:Nat):List aA→Nat→List (Nat×Nat)
 | [],_=>[]
 | s::r,b=>(if s.book=0∨s.book=13 then [] else (uq os (aZ s.book.toNat) n first s.len.toNat b).map fun x=>(s.book.toNat,x))++wH os n first r (b+s.len.toNat)
def mE (os:List Nat):List (List aA)→List Int→Nat→List (Nat×Nat)
 | l::r,n::g,first=>wH os n.toNat first l 0++mE os r g (first+n.toNat)
 | _,_,_=>[]
def gm {σ τ:Type}(st:Nat×Nat→σ→Sum σ τ):List (Nat×Nat)→σ→Sum σ τ
 | [],s=>.inl s
 | p::r,s=>match st p s with
  | .inl s=>gm st r s
  | .inr z=>.inr z
theorem tk {σ τ:Type}{st:Nat×Nat→σ→Sum σ τ}:∀ {l r:List (Nat×Nat)}{s:σ},gm st (l++r) s=match gm st l s with
  | .inl s=>gm st r s
  | .inr z=>.inr z
 | [],r,s=>rfl
 | p::l,r,s=>by
  rw[List.cons_append,gm,gm]
  cases st p s with
  | inl s=>simp only[tk]
  | inr z=>rfl
def La {σ τ:Type}(hp:σ→ac→ac) (hq:τ→ac→ac) (L l:Nat) (st:Nat×Nat→σ→Sum σ τ) (bp:List (Nat×Nat)→σ→Prop):Prop :=
 ∀ p r s K o N,bp (p::r) s→L≤K→K<N→
  (∃ s2 M,N≤M∧st p s=.inl s2∧bp r s2∧aM (Dn prog) (.yield l) [.agg [.d (.int .i64 (p.1:Int)),.d (.int .i64 (p.2:Int)),.d (.int .i64 ((p.2+aZ p.1:Nat):Int))]] ⟨hp s [(K,o)],N⟩=some (.d (.bool true),⟨hp s2 [(K,o)],M⟩))∨
  (∃ z M,N≤M∧st p s=.inr z∧aM (Dn prog) (.yield l) [.agg [.d (.int .i64 (p.1:Int)),.d (.int .i64 (p.2:Int)),.d (.int .i64 ((p.2+aZ p.1:Nat):Int))]] ⟨hp s [(K,o)],N⟩=some (.d (.bool false),⟨hq z [(K,o)],M⟩))
structure PlS where
 l:Nat
 p2:Nat
 p3:Nat
 full:List (List aA)
 os:List Nat
abbrev eP (P:PlS) (first g b:Int) (r:am):am:=(0,.yield P.l)::(2,.ptr P.p2 0)::(3,.ptr P.p3 0)::(5,.d (.int .i64 first))::(6,.d (.int .i64 g))::(8,.d (.int .i64 b))::r
abbrev xA (P:PlS) (g:Int) (r:am):am:=(14,.d (.lst (da P.full)))::(15,.d (.int .i64 P.full.length))::(16,.d (.int .i64 g))::r
abbrev DI (ls:List aA) (k:Int):am:=[(21,.d (.lst (iz ls))),(22,.d (.int .i64 ls.length)),(23,.d (.int .i64 k))]
section
variable {σ τ:Type}{hp:σ→ac→ac}{hq:τ→ac→ac}{L:Nat}{P:PlS}{st:Nat×Nat→σ→Sum σ τ}{bp:List (Nat×Nat)→σ→Prop}
theorem akg (H:Tl hp L) (H2:Tl hq L) (hY:La hp hq L P.l st bp) (hg3:∀ s T,get (hp s T) P.p3=some (.cells [.own false 1 (bm P.os)])) (s0:aA) (bk:Nat) (hbk:s0.book=bk) (hb1:1≤bk∧bk≤11) (b:Nat) (hb:b+1<P.os.length) (ho:P.os.length≤100) (hhi:nth P.os (b+1)≤256) (first g en gi k:Int) (w:Nat) (hw:w≤8) (ls:List aA) (K:Nat) (hK:L≤K) (rest:List (Nat×Nat)):∀ (f x N:Nat) (s:σ),nth P.os (b+1)≤x+f→x≤300→K<N→bp ((qS (aZ bk) (nth P.os (b+1)) f x).map (fun y=>(bk,w*32+y))++rest) s→
  (∃ s2 M,N≤M∧gm st ((qS (aZ bk) (nth P.os (b+1)) f x).map (fun y=>(bk,w*32+y))) s=.inl s2∧bp rest s2∧
   (Dn prog).code (.loop c7) ⟨eP P first g b ((10,.ptr K 0)::(11,.d (.int .i64 en))::(12,.d (.int .i64 w))::(13,.d (.int .i64 x))::xA P gi (DI ls k)),⟨hp s [(K,.cells [.d (.int .i64 s0.book),.d (.int .i64 s0.len)])],N⟩⟩ =
   some (.exit 8,⟨eP P first g b ((10,.ptr K 0)::(11,.d (.int .i64 en))::(12,.d (.int .i64 w))::xA P gi (DI ls k)),⟨hp s2 [(K,.cells [.d (.int .i64 s0.book),.d (.int .i64 s0.len)])],M⟩⟩))∨
  (∃ z M,N≤M∧gm st ((qS (aZ bk) (nth P.os (b+1)) f x).map (fun y=>(bk,w*32+y))) s=.inr z∧
   (Dn prog).code (.loop c7) ⟨eP P first g b ((10,.ptr K 0)::(11,.d (.int .i64 en))::(12,.d (.int .i64 w))::(13,.d (.int .i64 x))::xA P gi (DI ls k)),⟨hp s [(K,.cells [.d (.int .i64 s0.book),.d (.int .i64 s0.len)])],N⟩⟩ =
   some (.ret,⟨[],⟨hq z [],M⟩⟩)):=by
 have hG:=fun s o=>H.get s K o hK
 have hD2:=fun s o=>H2.del s K o hK
 have hd4:aZ bk≤4∧2≤aZ bk:=by unfold aZ;split<;>omega
 have hdim:=agP bk
 have hgo:(bm P.os)[b+1]?=some [.int .i64 (nth P.os (b+1):Nat)]:=BZ hb
 have hne:bm P.os≠[]:=by intro h;have:=congrArg List.length h;simp at this;simp[this]at hb
 intro f
 induction f with
 | zero =>
  intro x N s h1 h2 hKN hi
  refine .inl ⟨s,N,Nat.le_refl _,rfl,hi,?_⟩
  rw[aa c7.eq_1]
  simp (maxSteps:=300000) (disch:=omega) [↓if_neg,hg3,hgo]
 | succ f ih =>
  intro x N s h1 h2 hKN hi
  by_cases hx:x<nth P.os (b+1)
  ·rw[qS,if_pos hx,List.map_cons,List.cons_append]at hi
   rw[qS,if_pos hx,List.map_cons,gm]
   have c1:((x+aZ bk:Nat):Int)=(x:Int)+aZ bk:=rfl
   have c2:((w*32+x:Nat):Int)=(w:Int)*32+x:=by omega
   have c3:((w*32+x+aZ bk:Nat):Int)=(w:Int)*32+x+aZ bk:=by omega
   rcases hY (bk,w*32+x) _ s K (.cells [.d (.int .i64 s0.book),.d (.int .i64 s0.len)]) N hi hK hKN with ⟨s2,M,hM,e1,e2,e3⟩ | ⟨z,M,hM,e1,e3⟩
   ·rw[e1]
    simp only[c2,c3]at e3
    have h9:=ih (x+aZ bk) M s2 (by omega) (by omega) (by omega) e2
    rw[c1]at h9
    rw[hbk]at h9 e3⊢
    rcases h9 with ⟨s3,M2,hM2,f1,f2,f3⟩ | ⟨z,M2,hM2,f1,f3⟩
    ·refine .inl ⟨s3,M2,by omega,f1,f2,?_⟩
     rw[←f3,aa c7.eq_1]
     simp (maxSteps:=300000) (disch:=omega) [↓if_pos,↓if_neg,hg3,hgo,hG,hdim,-ft,e3]
    ·refine .inr ⟨z,M2,by omega,f1,?_⟩
     rw[←f3,aa c7.eq_1]
     simp (maxSteps:=300000) (disch:=omega) [↓if_pos,↓if_neg,hg3,hgo,hG,hdim,-ft,e3]
   ·rw[e1]
    simp only[c2,c3]at e3
    rw[hbk]at e3⊢
    refine .inr ⟨z,M,hM,rfl,?_⟩
    rw[aa c7.eq_1]
    simp (maxSteps:=300000) (disch:=omega) [↓if_pos,↓if_neg,hg3,hgo,hG,hdim,-ft,e3,hD2]
  ·rw[qS,if_neg hx]at hi
   rw[qS,if_neg hx]
   refine .inl ⟨s,N,Nat.le_refl _,rfl,hi,?_⟩
   rw[aa c7.eq_1]
   simp (maxSteps:=300000) (disch:=omega) [↓if_neg,hg3,hgo]
theorem aj1 (i:aG) (hil:i.groups.length≤1000) (H:Tl hp L) (H2:Tl hq L) (hY:La hp hq L P.l st bp) (hg2:∀ s T,get (hp s T) P.p2=some (.cells i.cells)) (hg3:∀ s T,get (hp s T) P.p3=some (.cells [.own false 1 (bm P.os)])) (s0:aA) (bk:Nat) (hbk:s0.book=bk) (hb1:1≤bk∧bk≤11) (b:Nat) (hb:b+1<P.os.length) (ho:P.os.length≤100) (hhi:∀ x∈P.os,x≤256) (first n g:Nat) (hgl:g<i.groups.length) (hn:nth i.groups g=n) (hfn:first+n≤8) (en gi k:Int) (ls:List aA) (K:Nat) (hK:L≤K) (rest:List (Nat×Nat)):∀ (j w N:Nat) (s:σ),w+j=first+n→K<N→bp ((tc P.os (aZ bk) b j w).map (fun y=>(bk,y))++rest) s→
  (∃ s2 M,N≤M∧gm st ((tc P.os (aZ bk) b j w).map (fun y=>(bk,y))) s=.inl s2∧bp rest s2∧
   (Dn prog).code (.loop dG) ⟨eP P first g b ((10,.ptr K 0)::(11,.d (.int .i64 en))::(12,.d (.int .i64 w))::xA P gi (DI ls k)),⟨hp s [(K,.cells [.d (.int .i64 s0.book),.d (.int .i64 s0.len)])],N⟩⟩ =
   some (.exit 6,⟨eP P first g b ((10,.ptr K 0)::(11,.d (.int .i64 en))::xA P gi (DI ls k)),⟨hp s2 [(K,.cells [.d (.int .i64 s0.book),.d (.int .i64 s0.len)])],M⟩⟩))∨
  (∃ z M,N≤M∧gm st ((tc P.os (aZ bk) b j w).map (fun y=>(bk,y))) s=.inr z∧
   (Dn prog).code (.loop dG) ⟨eP P first g b ((10,.ptr K 0)::(11,.d (.int .i64 en))::(12,.d (.int .i64 w))::xA P gi (DI ls k)),⟨hp s [(K,.cells [.d (.int .i64 s0.book),.d (.int .i64 s0.len)])],N⟩⟩ =
   some (.ret,⟨[],⟨hq z [],M⟩⟩)):=by
 have hgo:(bm P.os)[b]?=some [.int .i64 (nth P.os b:Nat)]:=BZ (by omega)
 have hob:=hhi (nth P.os b) (lI (by omega))
 have hob1:=hhi (nth P.os (b+1)) (lI hb)
 simp only[aG.cells]at hg2
 intro j
 induction j with
 | zero =>
  intro w N s h1 hKN hi
  refine .inl ⟨s,N,Nat.le_refl _,rfl,hi,?_⟩
  rw[aa dG.eq_1]
  simp (maxSteps:=300000) (disch:=omega) [↓if_neg,hg2,hn]
 | succ j ih =>
  intro w N s h1 hKN hi
  have c1:((w+1:Nat):Int)=(w:Int)+1:=rfl
  have em:(tc P.os (aZ bk) b (j+1) w).map (fun y=>(bk,y))=(qS (aZ bk) (nth P.os (b+1)) 300 (nth P.os b)).map (fun y=>(bk,w*32+y))++(tc P.os (aZ bk) b j (w+1)).map (fun y=>(bk,y)):=by
   rw[tc,List.map_append,List.map_map];rfl
  rw[em]at hi⊢
  rw[List.append_assoc]at hi
  rw[tk]
  rcases akg H H2 hY hg3 s0 bk hbk hb1 b hb ho hob1 first g en gi k w (by omega) ls K hK _ 300 (nth P.os b) N s (by omega) (by omega) hKN hi with ⟨s2,M,hM,e1,e2,e3⟩ | ⟨z,M,hM,e1,e3⟩
  ·rw[e1]
   have h9:=ih (w+1) M s2 (by omega) (by omega) e2
   rw[c1]at h9
   rcases h9 with ⟨s3,M2,hM2,f1,f2,f3⟩ | ⟨z,M2,hM2,f1,f3⟩
   ·refine .inl ⟨s3,M2,by omega,f1,f2,?_⟩
    rw[←f3,aa dG.eq_1]
    simp (maxSteps:=300000) (disch:=omega) [↓if_pos,↓if_neg,hg2,hg3,hgo,hn,e3]
   ·refine .inr ⟨z,M2,by omega,f1,?_⟩
    rw[←f3,aa dG.eq_1]
    simp (maxSteps:=300000) (disch:=omega) [↓if_pos,↓if_neg,hg2,hg3,hgo,hn,e3]
  ·rw[e1]
   refine .inr ⟨z,M,hM,rfl,?_⟩
   rw[aa dG.eq_1]
   simp (maxSteps:=300000) (disch:=omega) [↓if_pos,↓if_neg,hg2,hg3,hgo,hn,e3]
theorem akn (i:aG) (hil:i.groups.length≤1000) (H:Tl hp L) (H2:Tl hq L) (hY:La hp hq L P.l st bp) (hg2:∀ s T,get (hp s T) P.p2=some (.cells i.cells)) (hg3:∀ s T,get (hp s T) P.p3=some (.cells [.own false 1 (bm P.os)])) (s0:aA) (bk:Nat) (hbk:s0.book=bk) (hb1:bk≤11∨bk=13) (ho:P.os.length≤100) (hhi:∀ x∈P.os,x≤256) (first n g:Nat) (hgl:g<i.groups.length) (hn:nth i.groups g=n) (hfn:first+n≤8) (en:Nat) (hen:en<P.os.length) (gi k:Int) (ls:List aA) (K:Nat) (hK:L≤K) (rest:List (Nat×Nat)):∀ (j b N:Nat) (s:σ),b+j=en→K<N→bp ((if bk=0∨bk=13 then [] else (uq P.os (aZ bk) n first j b).map (fun y=>(bk,y)))++rest) s→
  (∃ s2 M,N≤M∧gm st (if bk=0∨bk=13 then [] else (uq P.os (aZ bk) n first j b).map (fun y=>(bk,y))) s=.inl s2∧bp rest s2∧
   (Dn prog).code (.loop cw) ⟨eP P first g b ((10,.ptr K 0)::(11,.d (.int .i64 en))::xA P gi (DI ls k)),⟨hp s [(K,.cells [.d (.int .i64 s0.book),.d (.int .i64 s0.len)])],N⟩⟩ =
   some (.exit 4,⟨eP P first g en (xA P gi (DI ls k)),⟨hp s2 [],M⟩⟩))∨
  (∃ z M,N≤M∧gm st (if bk=0∨bk=13 then [] else (uq P.os (aZ bk) n first j b).map (fun y=>(bk,y))) s=.inr z∧
   (Dn prog).code (.loop cw) ⟨eP P first g b ((10,.ptr K 0)::(11,.d (.int .i64 en))::xA P gi (DI ls k)),⟨hp s [(K,.cells [.d (.int .i64 s0.book),.d (.int .i64 s0.len)])],N⟩⟩ =
   some (.ret,⟨[],⟨hq z [],M⟩⟩)):=by
 have hG:=fun s o=>H.get s K o hK
 have hD:=fun s o=>H.del s K o hK
 intro j
 induction j with
 | zero =>
  intro b N s h1 hKN hi
  have eb:b=en:=by omega
  subst eb
  have e0:(if bk=0∨bk=13 then [] else (uq P.os (aZ bk) n first 0 b).map (fun y=>(bk,y)))=[]:=by split<;>rfl
  rw[e0]at hi⊢
  refine .inl ⟨s,N,Nat.le_refl _,rfl,hi,?_⟩
  rw[aa cw.eq_1]
  simp (maxSteps:=300000) (disch:=omega) [↓if_neg,hD]
 | succ j ih =>
  intro b N s h1 hKN hi
  have c1:((b+1:Nat):Int)=(b:Int)+1:=rfl
  by_cases h0:bk=0∨bk=13
  ·rw[if_pos h0]at hi⊢
   have h9:=ih (b+1) N s (by omega) hKN (by rw[if_pos h0];exact hi)
   rw[if_pos h0,c1]at h9
   rw[hbk]at h9⊢
   rcases h9 with ⟨s3,M2,hM2,f1,f2,f3⟩ | ⟨z,M2,hM2,f1,f3⟩
   ·refine .inl ⟨s3,M2,by omega,f1,f2,?_⟩
    rw[←f3,aa cw.eq_1]
    rcases h0 with h0 | h0<;>simp (maxSteps:=300000) (disch:=omega) [↓if_pos,↓if_neg,hG]
   ·refine .inr ⟨z,M2,by omega,f1,?_⟩
    rw[←f3,aa cw.eq_1]
    rcases h0 with h0 | h0<;>simp (maxSteps:=300000) (disch:=omega) [↓if_pos,↓if_neg,hG]
  ·rw[if_neg h0]at hi⊢
   have em:(uq P.os (aZ bk) n first (j+1) b).map (fun y=>(bk,y))=(tc P.os (aZ bk) b n first).map (fun y=>(bk,y))++(uq P.os (aZ bk) n first j (b+1)).map (fun y=>(bk,y)):=by
    rw[uq,List.map_append]
   rw[em]at hi⊢
   rw[List.append_assoc]at hi
   rw[tk]
   rcases aj1 i hil H H2 hY hg2 hg3 s0 bk hbk (by omega) b (by omega) ho hhi first n g hgl hn hfn en gi k ls K hK _ n first N s rfl hKN hi with ⟨s2,M,hM,e1,e2,e3⟩ | ⟨z,M,hM,e1,e3⟩
   ·rw[e1]
    have h9:=ih (b+1) M s2 (by omega) (by omega) (by rw[if_neg h0];exact e2)
    rw[if_neg h0,c1]at h9
    rw[hbk]at h9 e3⊢
    rcases h9 with ⟨s3,M2,hM2,f1,f2,f3⟩ | ⟨z,M2,hM2,f1,f3⟩
    ·refine .inl ⟨s3,M2,by omega,f1,f2,?_⟩
     rw[←f3,aa cw.eq_1]
     simp (maxSteps:=300000) (disch:=omega) [↓if_pos,↓if_neg,hG,e3]
    ·refine .inr ⟨z,M2,by omega,f1,?_⟩
     rw[←f3,aa cw.eq_1]
     simp (maxSteps:=300000) (disch:=omega) [↓if_pos,↓if_neg,hG,e3]
   ·rw[e1]
    rw[hbk]at e3⊢
    refine .inr ⟨z,M,hM,rfl,?_⟩
    rw[aa cw.eq_1]
    simp (maxSteps:=300000) (disch:=omega) [↓if_pos,↓if_neg,hG,e3]
theorem ako (i:aG) (hil:i.groups.length≤1000) (H:Tl hp L) (H2:Tl hq L) (hY:La hp hq L P.l st bp) (hg2:∀ s T,get (hp s T) P.p2=some (.cells i.cells)) (hg3:∀ s T,get (hp s T) P.p3=some (.cells [.own false 1 (bm P.os)])) (ho:P.os.length≤100) (hhi:∀ x∈P.os,x≤256) (first n g:Nat) (hgl:g<i.groups.length) (hn:nth i.groups g=n) (hfn:first+n≤8) (gi:Int) (ls:List aA) (hls:ls.length≤1000) (rest:List (Nat×Nat)):∀ (r:List aA) (k b N:Nat) (lf:Int) (s:σ),ls.drop k=r→fitsS lf r→(b:Int)+lf<P.os.length→L≤N→bp (wH P.os n first r b++rest) s→
  (∃ s2 M,N≤M∧gm st (wH P.os n first r b) s=.inl s2∧bp rest s2∧
   (Dn prog).code (.loop dI) ⟨eP P first g b (xA P gi (DI ls k)),⟨hp s [],N⟩⟩ =
   some (.exit 2,⟨(0,.yield P.l)::(2,.ptr P.p2 0)::(3,.ptr P.p3 0)::(5,.d (.int .i64 first))::(6,.d (.int .i64 g))::xA P gi [],⟨hp s2 [],M⟩⟩))∨
  (∃ z M,N≤M∧gm st (wH P.os n first r b) s=.inr z∧
   (Dn prog).code (.loop dI) ⟨eP P first g b (xA P gi (DI ls k)),⟨hp s [],N⟩⟩ =
   some (.ret,⟨[],⟨hq z [],M⟩⟩)):=by
 intro r
 induction r with
 | nil =>
  intro k b N lf s hd hf hb hN hi
  have hk:=aH hd
  refine .inl ⟨s,N,Nat.le_refl _,rfl,hi,?_⟩
  rw[aa dI.eq_1]
  simp (maxSteps:=300000) (disch:=omega) [↓if_neg]
 | cons s0 r ih =>
  intro k b N lf s hd hf hb hN hi
  have hg:=nS hd
  have hlt:=aQ hd
  obtain⟨⟨⟨l1,l2⟩,b1,b2⟩,hf2⟩:=hf
  obtain⟨bk,hbk⟩:=Int.eq_ofNat_of_zero_le b1
  have hbt:s0.book.toNat=bk:=by omega
  have hif:(s0.book=0∨s0.book=13)↔(bk=0∨bk=13):=by omega
  have em:wH P.os n first (s0::r) b=(if bk=0∨bk=13 then [] else (uq P.os (aZ bk) n first s0.len.toNat b).map (fun y=>(bk,y)))++wH P.os n first r (b+s0.len.toNat):=by
   rw[wH,hbt,abu hif]
  rw[em]at hi⊢
  rw[List.append_assoc]at hi
  rw[tk]
  have hp1:=fun s o=>H.put s N o hN
  have hp2:=fun s o o'=>H.put2 s N o o' hN
  have hG:=fun s o=>H.get s N o hN
  have c1:((k+1:Nat):Int)=(k:Int)+1:=rfl
  have cE:((b+s0.len.toNat:Nat):Int)=(b:Int)+s0.len:=by omega
  rcases akn i hil H H2 hY hg2 hg3 s0 bk hbk (by omega) ho hhi first n g hgl hn hfn (b+s0.len.toNat) (by omega) gi k ls N hN _ s0.len.toNat b (N+1) s rfl (by omega) hi with ⟨s2,M,hM,e1,e2,e3⟩ | ⟨z,M,hM,e1,e3⟩
  ·rw[e1]
   have h9:=ih (k+1) (b+s0.len.toNat) M (lf-s0.len) s2 (aL hd) hf2 (by omega) (by omega) e2
   rw[c1,cE]at h9
   rw[cE]at e3
   rcases h9 with ⟨s3,M2,hM2,f1,f2,f3⟩ | ⟨z,M2,hM2,f1,f3⟩
   ·refine .inl ⟨s3,M2,by omega,f1,f2,?_⟩
    rw[←f3,aa dI.eq_1]
    simp (maxSteps:=300000) (disch:=omega) [↓if_pos,↓if_neg,hg,hp1,hp2,hG,e3]
   ·refine .inr ⟨z,M2,by omega,f1,?_⟩
    rw[←f3,aa dI.eq_1]
    simp (maxSteps:=300000) (disch:=omega) [↓if_pos,↓if_neg,hg,hp1,hp2,hG,e3]
  ·rw[e1]
   rw[cE]at e3
   refine .inr ⟨z,M,by omega,rfl,?_⟩
   rw[aa dI.eq_1]
   simp (maxSteps:=300000) (disch:=omega) [↓if_pos,↓if_neg,hg,hp1,hp2,hG,e3]
theorem ajJ (i:aG) (hil:i.groups.length≤1000) (H:Tl hp L) (H2:Tl hq L) (hY:La hp hq L P.l st bp) (hg2:∀ s T,get (hp s T) P.p2=some (.cells i.cells)) (hg3:∀ s T,get (hp s T) P.p3=some (.cells [.own false 1 (bm P.os)])) (ho:P.os.length≤100) (hhi:∀ x∈P.os,x≤256) (m:Int) (hm:0≤m∧m<P.os.length) (hfl:P.full.length≤1000) (hlc:∀ l∈P.full,l.length≤1000) (hgg:∀ n∈i.groups,1≤n) (rest:List (Nat×Nat)):∀ (r:List (List aA)) (q:List Int) (g first N:Nat) (s:σ),P.full.drop g=r→i.groups.drop g=q→r.length=q.length→cG m r→(first:Int)+q.sum≤8→L≤N→bp (mE P.os r q first++rest) s→
  (∃ s2 M,N≤M∧gm st (mE P.os r q first) s=.inl s2∧bp rest s2∧
   (Dn prog).code (.loop dH) ⟨(0,.yield P.l)::(2,.ptr P.p2 0)::(3,.ptr P.p3 0)::(5,.d (.int .i64 first))::xA P g [],⟨hp s [],N⟩⟩=some (.exit 0,⟨[],⟨hp s2 [],M⟩⟩))∨
  (∃ z M,N≤M∧gm st (mE P.os r q first) s=.inr z∧
   (Dn prog).code (.loop dH) ⟨(0,.yield P.l)::(2,.ptr P.p2 0)::(3,.ptr P.p3 0)::(5,.d (.int .i64 first))::xA P g [],⟨hp s [],N⟩⟩=some (.ret,⟨[],⟨hq z [],M⟩⟩)):=by
 have hg2':=hg2
 simp only[aG.cells]at hg2'
 intro r
 induction r with
 | nil =>
  intro q g first N s hd hd2 hl hf hs hN hi
  have hk:=aH hd
  have hq0:q=[]:=by cases q with | nil=>rfl | cons=>simp at hl
  subst hq0
  refine .inl ⟨s,N,Nat.le_refl _,rfl,hi,?_⟩
  rw[aa dH.eq_1]
  simp (maxSteps:=300000) (disch:=omega) [↓if_neg]
 | cons l r ih =>
  intro q g first N s hd hd2 hl hf hs hN hi
  cases q with
  | nil=>simp at hl
  | cons n0 q =>
   have hg:=iO hd
   have hlt:=aQ hd
   have hlt2:=aQ hd2
   have hn0:nth i.groups g=n0:=by
    have h2:=lv (l:=i.groups) hlt2
    rw[hd2]at h2;injection h2 with h2;exact h2.symm
   have hn1:=hgg n0 (by rw[←hn0];exact lI hlt2)
   obtain⟨n,hn⟩:=Int.eq_ofNat_of_zero_le (show 0≤n0 by omega)
   have hnt:n0.toNat=n:=by omega
   have hqs:0≤q.sum:=by
    have:∀ x∈q,1≤x:=fun x hx=>hgg x (by rw[←List.take_append_drop g i.groups,hd2];simp[hx])
    have:=ou this
    omega
   rw[List.sum_cons]at hs
   have em:mE P.os (l::r) (n0::q) first=wH P.os n first l 0++mE P.os r q (first+n):=by rw[mE,hnt]
   rw[em]at hi⊢
   rw[List.append_assoc]at hi
   rw[tk]
   have hml:l∈P.full:=by rw[←List.take_append_drop g P.full,hd];simp
   have c0:((0:Nat):Int)=0:=rfl
   have c1:((g+1:Nat):Int)=(g:Int)+1:=rfl
   have cF:((first+n:Nat):Int)=(first:Int)+n:=rfl
   simp only[List.length_cons,Nat.add_right_cancel_iff]at hl
   rcases ako i hil H H2 hY hg2 hg3 ho hhi first n g hlt2 (by omega) (by omega) g l (hlc l hml) _ l 0 0 N m s rfl (hf l (.head _)) (by omega) hN hi with ⟨s2,M,hM,e1,e2,e3⟩ | ⟨z,M,hM,e1,e3⟩
   ·rw[e1]
    have h9:=ih q (g+1) (first+n) M s2 (aL hd) (aL hd2) hl (fun x hx=>hf x (.tail _ hx)) (by omega) (by omega) e2
    rw[c1,cF]at h9
    rw[c0]at e3
    rw[hn]at hn0
    rcases h9 with ⟨s3,M2,hM2,f1,f2,f3⟩ | ⟨z,M2,hM2,f1,f3⟩
    ·refine .inl ⟨s3,M2,by omega,f1,f2,?_⟩
     rw[←f3,aa dH.eq_1]
     simp (maxSteps:=300000) (disch:=omega) [↓if_pos,↓if_neg,hg,hg2',hn0,e3]
    ·refine .inr ⟨z,M2,by omega,f1,?_⟩
     rw[←f3,aa dH.eq_1]
     simp (maxSteps:=300000) (disch:=omega) [↓if_pos,↓if_neg,hg,hg2',hn0,e3]
   ·rw[e1]
    rw[c0]at e3
    refine .inr ⟨z,M,hM,rfl,?_⟩
    rw[aa dH.eq_1]
    simp (maxSteps:=300000) (disch:=omega) [↓if_pos,↓if_neg,hg,e3]
end
end Go.Vm
namespace Go.Vm
set_option maxHeartbeats 2000000
set_option maxRecDepth 100000
theorem aeU {σ τ:Type}{hp:σ→ac→ac}{hq:τ→ac→ac}{L:Nat}{P:PlS}{st:Nat×Nat→σ→Sum σ τ}{bp:List (Nat×Nat)→σ→Prop}(i:aG) (hi:i.Fit) (hm:i.may 11) (p1:Nat) (H:Tl hp L) (H2:Tl hq L) (hY:La hp hq L P.l st bp) (hg1:∀ s,get (hp s []) p1=some (.cells [.d (.lst (da P.full))])) (hg2:∀ s T,get (hp s T) P.p2=some (.cells i.cells)) (hg3:∀ s T,get (hp s T) P.p3=some (.cells [.own false 1 (bm P.os)])) (ho:P.os.length≤100) (hhi:∀ x∈P.os,x≤256) (hmo:i.max<P.os.length) (hf:j9 i P.full) (N:Nat) (hN:L≤N) (s:σ) (hs:bp (mE P.os P.full i.groups 0) s) :
  (∃ s2 M,N≤M∧gm st (mE P.os P.full i.groups 0) s=.inl s2∧bp [] s2∧(Dn prog).call ff [.yield P.l,.ptr p1 0,.ptr P.p2 0,.ptr P.p3 0] ⟨hp s [],N⟩=some (.tup [],⟨hp s2 [],M⟩))∨
  (∃ z M,N≤M∧gm st (mE P.os P.full i.groups 0) s=.inr z∧(Dn prog).call ff [.yield P.l,.ptr p1 0,.ptr P.p2 0,.ptr P.p3 0] ⟨hp s [],N⟩=some (.tup [],⟨hq z [],M⟩)):=by
 have hmx:=oe hm
 obtain⟨g1,g2⟩:=gu hm
 have hmm:i.many≤8:=by unfold aG.many;split<;>omega
 have hgl:i.groups.length≤8:=by have:=ou (fun n hn=>(g1 n hn).1);omega
 have hlc:∀ l∈P.full,l.length≤1000:=fun l hl=>by
  rcases vO (hf.2 l hl) with h | h
  ·omega
  ·subst h;simp
 have hfl:=hf.1
 have c0:((0:Nat):Int)=0:=rfl
 have h:=ajJ i hi.len H H2 hY hg2 hg3 ho hhi i.max ⟨hmx.1,hmo⟩ (by omega) hlc (fun n hn=>(g1 n hn).1) [] P.full i.groups 0 0 N s rfl rfl hfl hf.2 (by omega) hN (by rw[List.append_nil];exact hs)
 rw[c0]at h
 rw[aJ P6 sA.eq_1 rfl]
 rcases h with ⟨s2,M,hM,e1,e2,e3⟩ | ⟨z,M,hM,e1,e3⟩
 ·refine .inl ⟨s2,M,hM,e1,e2,?_⟩
  simp (maxSteps:=300000) (disch:=omega) [hg1,e3]
 ·refine .inr ⟨z,M,hM,e1,?_⟩
  simp (maxSteps:=300000) (disch:=omega) [hg1,e3]
theorem aau (r:Nat) (hr:r≤11) (i:aG) (y:D) (H:ac) (N:Nat) (hL:Lt H N):(Dn prog).call vN [.d (.int .i64 r),.agg i.cells,.d y] ⟨H,N⟩=some (.fn ff [] [.ptr (N+1) 0,.ptr N 0,.ptr (N+1+1) 0],⟨H++[(N,.cells i.cells)]++[(N+1,.cells [.d y])]++[(N+1+1,.cells [.own false 1 (bm (bj r i.short))])],N+1+1+1⟩):=by
 have hof:=pt r i.short
 rw[if_pos (by omega)]at hof
 simp only[Int.toNat_natCast]at hof
 have L1:=Am (o:=.cells i.cells) hL
 have L2:=Am (o:=.cells [.d y]) L1
 have e1:=fun o=>su (o:=o) hL
 have e2:=fun o=>su (o:=o) L1
 have e3:=fun o=>su (o:=o) L2
 have e4:=rI (N:=N+1) (o:=.cells [.d y]) (u7 (o:=.cells i.cells) hL)
 have e5:=fun o=>u7 (o:=o) L2
 have e6:=fun o o'=>QC (o:=o) (o':=o') L2
 have hsh:i.short=decide (i.seq=2):=rfl
 rw[aJ XZ vT.eq_1 rfl]
 simp only[aG.cells]at e1 e2 e3 e4 e5 e6⊢
 by_cases hs2:i.seq=2
 ·rw[decide_eq_true hs2]at hsh
  rw[hsh]at hof⊢
  simp (maxSteps:=300000) (disch:=omega) [↓if_pos,↓if_neg,hof,e1,e2,e3,e4,e5,e6,-List.append_assoc]
 ·rw[decide_eq_false hs2]at hsh
  rw[hsh]at hof⊢
  simp (maxSteps:=300000) (disch:=omega) [↓if_pos,↓if_neg,hof,e1,e2,e3,e4,e5,e6,-List.append_assoc]
abbrev ail:List AV:=[.d (.int .i64 0),.d (.int .i64 0),.nl,.nl]
abbrev xn (id:Nat):List AV:=[.d (.int .i64 id),.d (.int .i64 (bw id)),.own false 1 (bm (bh id)),.own false 1 (bm (ca id))]
def F0 (C:List AV):Prop:=C.length=48∧∀ id,id<12→sub C (4*id) 4=ail∨(1≤id∧sub C (4*id) 4=xn id)
theorem A9 {α:Type}{C:List α}{a k:Nat}(hk:k<4):(sub C a 4)[k]?=C[a+k]?:=by
 unfold sub
 rw[List.getElem?_take,if_pos hk,List.getElem?_drop]
theorem Eh {α:Type}{C W:List α}{a:Nat}(hw:W.length=4) (ha:a+4≤C.length):sub (aj C a W) a 4=W:=by
 unfold sub aj
 have h1:(C.take a).length=a:=by rw[List.length_take];omega
 rw[List.append_assoc,List.drop_append_of_le_length (by omega),List.drop_eq_nil_of_le (by omega),List.nil_append,←hw,List.take_left']
 rfl
theorem Vw {α:Type}{C W:List α}{a b:Nat}(hw:W.length=4) (ha:a+4≤C.length) (hb:b+4≤C.length) (h:b+4≤a∨a+4≤b):sub (aj C a W) b 4=sub C b 4:=by
 apply List.ext_getElem?
 intro k
 by_cases hk:k<4
 ·rw[A9 hk,A9 hk]
  unfold aj
  have h1:(C.take a).length=a:=by rw[List.length_take];omega
  rcases h with h | h
  ·rw[List.append_assoc,List.getElem?_append_left (by omega),List.getElem?_take,if_pos (by omega)]
  ·rw[List.getElem?_append_right (by rw[List.length_append];omega),List.getElem?_drop,List.length_append,h1,hw]
   congr 1;omega
 ·unfold sub
  rw[List.getElem?_eq_none (by rw[List.length_take];omega),List.getElem?_eq_none (by rw[List.length_take];omega)]
theorem Z2 {α:Type}{C W:List α}{a:Nat}(hw:W.length=4) (ha:a+4≤C.length):(aj C a W).length=C.length:=by
 unfold aj
 simp only[List.length_append,List.length_take,List.length_drop]
 omega
theorem ae8 {C W:List AV}{a:Nat}(ha:a+4≤C.length) (h:sub C a 4=W):aj C a W=C:=by
 subst h
 unfold aj sub
 rw[List.length_take,List.length_drop,show a+min 4 (C.length-a)=a+4 by omega,List.append_assoc,←List.drop_drop,List.take_append_drop,List.take_append_drop]
theorem acE {C:List AV}(h:F0 C) {id:Nat}(hid:1≤id∧id≤11):F0 (aj C (4*id) (xn id)):=by
 refine⟨by rw[Z2 rfl (by rw[h.1];omega)];exact h.1,fun j hj=>?_⟩
 by_cases e:j=id
 ·subst e
  exact .inr ⟨hid.1,Eh rfl (by rw[h.1];omega)⟩
 ·rw[Vw rfl (by rw[h.1];omega) (by rw[h.1];omega) (by omega)]
  exact h.2 j hj
structure Bk (hp:List AV→ac→ac) (A N:Nat):Prop where
 gA:∀ C T,get (hp C T) A=some (.cells C)
 pA:∀ C T C',put (hp C T) A (.cells C')=hp C' T
 pN:∀ C o,put (hp C []) N o=hp C [(N,o)]
 pN2:∀ C o o',put (hp C [(N,o)]) N o'=hp C [(N,o')]
 gN:∀ C o,get (hp C [(N,o)]) N=some o
 dN:∀ C o,del (hp C [(N,o)]) N=hp C []
theorem acJ {hp:List AV→ac→ac}{A N:Nat}(H:Bk hp A N) (C:List AV) (hC:F0 C) (id:Nat) (hid:1≤id∧id≤11):(Dn prog).call kw [.ptr A 0,.d (.int .i64 id)] ⟨hp C [],N⟩=some (sT id,⟨hp (aj C (4*id) (xn id)) [],N+1⟩):=by
 have hb:=Wy id (by omega)
 simp only[MM]at hb
 have h48:=hC.1
 have hia:∀ p,AA 12 4 (.ptr p 0) (.d (.int .i64 id))=some (.ptr p (4*id)):=fun p=>by
  have hb2:Nat.ble 12 id=false:=by rw[SG];exact decide_eq_false (by omega)
  simp only[AA,Se (show (0:Int)≤id by omega),Int.toNat_natCast,hb2,bM]
  rw[Nat.zero_add,Nat.mul_comm]
 rw[aJ Lr p9.eq_1 rfl]
 rcases hC.2 id (by omega) with h0 | ⟨_,h1⟩
 ·have e0:C[4*id]?=some (.d (.int .i64 0)):=by rw[←Nat.add_zero (4*id),←A9 (by omega),h0];rfl
  obtain⟨hl0,e0⟩:=List.getElem?_eq_some_iff.1 e0
  have hsm:=Eh (C:=C) (W:=xn id) (a:=4*id) rfl (by rw[h48];omega)
  have hsl:=Z2 (C:=C) (W:=xn id) (a:=4*id) rfl (by rw[h48];omega)
  rw[h48]at hsl
  simp (maxSteps:=300000) (disch:=omega) [↓if_pos,↓if_neg,H.gA,H.pA,H.pN,H.pN2,H.gN,H.dN,hia,e0,hb,-aj,-sub,-B8,-aal,hsm,hsl]
  simp
 ·have e0:C[4*id]?=some (.d (.int .i64 id)):=by rw[←Nat.add_zero (4*id),←A9 (by omega),h1];rfl
  obtain⟨hl0,e0⟩:=List.getElem?_eq_some_iff.1 e0
  rw[ae8 (by omega) h1]
  simp (maxSteps:=300000) (disch:=omega) [↓if_pos,↓if_neg,H.gA,H.pA,H.pN,H.pN2,H.gN,H.dN,hia,e0,hb,-aj,-sub,-B8,-aal,h1]
  simp
theorem R3 (l:List bb) (hl:l.length≤100000) (h:ac) (N:Nat):(Dn prog).call jH [.d (.lst (df l))] ⟨h,N⟩=some (.d (.bool (decide (0<l.length))),⟨h,N⟩):=by
 rw[aJ Lf nT.eq_1 rfl]
 by_cases h0:0<l.length
 ·rw[decide_eq_true h0]
  simp (maxSteps:=300000) (disch:=omega) [↓if_pos]
 ·rw[decide_eq_false h0]
  simp (maxSteps:=300000) (disch:=omega) [↓if_neg]
theorem Nj (F:AV) (P:List bb→Bool) (l:List (List bb)) (hl:l.length≤1000000000) (h:ac) (N:Nat) (hF:firm (share F)=F) (hc:∀ v∈l,aM (Dn prog) F [.d (.lst (df v))] ⟨h,N⟩=some (.d (.bool (P v)),⟨h,N⟩)):∀ (r:List (List bb)) (i:Nat),l.drop i=r→
  (r.any P=true∧∃ k:Nat,(Dn prog).code (.loop bn) ⟨[(0,.d (.lst (gx l))),(1,F),(7,.d (.int .i64 l.length)),(8,.d (.int .i64 i))],⟨h,N⟩⟩=some (.ret,⟨[(4,.d (.int .i64 k))],⟨h,N⟩⟩))∨
  (r.any P=false∧(Dn prog).code (.loop bn) ⟨[(0,.d (.lst (gx l))),(1,F),(7,.d (.int .i64 l.length)),(8,.d (.int .i64 i))],⟨h,N⟩⟩=some (.exit 0,⟨[],⟨h,N⟩⟩)):=by
 intro r
 induction r with
 | nil =>
  intro i hd
  have hi:=aH hd
  refine .inr ⟨rfl,?_⟩
  rw[aa bn.eq_1]
  simp (maxSteps:=300000) (disch:=omega) [↓if_neg]
 | cons v r ih =>
  intro i hd
  have hg:=ow hd
  have hlt:=aQ hd
  have hv:=hc v (by rw[←List.take_append_drop i l,hd];simp)
  have h5:=ih (i+1) (aL hd)
  have c1:((i+1:Nat):Int)=(i:Int)+1:=rfl
  rw[c1]at h5
  cases hp:P v with
  | true =>
   rw[hp]at hv
   refine .inl ⟨by rw[List.any_cons,hp];rfl,i,?_⟩
   rw[aa bn.eq_1]
   simp (maxSteps:=300000) (disch:=omega) [↓if_pos,↓if_neg,hg,hF,hv]
  | false =>
   rw[hp]at hv
   rw[List.any_cons,hp,Bool.false_or]
   rcases h5 with ⟨e1,k,e2⟩ | ⟨e1,e2⟩
   ·refine .inl ⟨e1,k,?_⟩
    rw[aa bn.eq_1,←e2]
    simp (maxSteps:=300000) (disch:=omega) [↓if_pos,↓if_neg,hg,hF,hv]
   ·refine .inr ⟨e1,?_⟩
    rw[aa bn.eq_1,←e2]
    simp (maxSteps:=300000) (disch:=omega) [↓if_pos,↓if_neg,hg,hF,hv]
theorem Nk (F:AV) (P:List bb→Bool) (l:List (List bb)) (hl:l.length≤1000000000) (h:ac) (N:Nat) (hF:firm (share F)=F) (hF2:firm F=F) (hc:∀ v∈l,aM (Dn prog) F [.d (.lst (df v))] ⟨h,N⟩=some (.d (.bool (P v)),⟨h,N⟩)) :
  (Dn prog).call eI [.d (.lst (gx l)),F] ⟨h,N⟩=some (.d (.bool (l.any P)),⟨h,N⟩):=by
 have h1:=Nj F P l hl h N hF hc l 0 rfl
 have c0:((0:Nat):Int)=0:=rfl
 rw[c0]at h1
 have h2:∃ k:Int,(0≤k↔l.any P=true)∧(Dn prog).call fK [.d (.lst (gx l)),F] ⟨h,N⟩=some (.d (.int .i64 k),⟨h,N⟩):=by
  rcases h1 with ⟨e1,k,e2⟩ | ⟨e1,e2⟩
  ·refine⟨k,⟨fun _=>e1,fun _=>by omega⟩,?_⟩
   rw[aJ jw dL.eq_1 rfl]
   simp (maxSteps:=300000) (disch:=omega) [e2]
  ·refine⟨-1,⟨fun h=>by omega,fun h=>by rw[e1]at h;exact absurd h (by simp)⟩,?_⟩
   rw[aJ jw dL.eq_1 rfl]
   simp (maxSteps:=300000) (disch:=omega) [e2]
 obtain⟨k,e1,e2⟩:=h2
 rw[aJ pp eJ.eq_1 rfl]
 cases hp:l.any P with
 | true =>
  have:=e1.2 hp
  simp (maxSteps:=300000) (disch:=omega) [↓if_pos,hF2,e2]
 | false =>
  have:¬ 0≤k:=fun h=>by rw[e1.1 h]at hp;exact absurd hp (by simp)
  simp (maxSteps:=300000) (disch:=omega) [↓if_neg,hF2,e2]
def Js (t:List (List bb)):Bool:=t.any fun l=>decide (0<l.length)
theorem Ww (t:List (List bb)) (ht:t.length≤100000) (ht2:∀ l∈t,l.length≤100000):aW prog rL [.d (.lst (gx t))]=some (.d (.bool (Js t))):=by
 have h:=Nk (.fn jH [] []) (fun l=>decide (0<l.length)) t (by omega) [] 0 rfl rfl fun v hv=>by
  have:=R3 v (ht2 v hv) [] 0
  simpa using this
 rw[au Sb rJ.eq_1 rfl]
 unfold Js
 simp (maxSteps:=300000) (disch:=omega) [h]
end Go.Vm
namespace Go.Vm
set_option maxHeartbeats 2000000
set_option maxRecDepth 100000
theorem Zp {d hi:Nat}(hd:1≤d):∀ {f lo x:Nat},(hi-lo) % d=0→x∈qS d hi f lo→lo≤x∧x+d≤hi∧(x-lo) % d=0
 | 0,lo,x,_,h=>by simp[qS]at h
 | f+1,lo,x,hm,h=>by
  rw[qS]at h
  by_cases h1:lo<hi
  ·rw[if_pos h1]at h
   have h2:lo+d≤hi:=by
    rcases Nat.lt_or_ge (hi-lo) d with h3 | h3
    ·rw[Nat.mod_eq_of_lt h3]at hm;omega
    ·omega
   rcases List.mem_cons.1 h with e | e
   ·subst e;exact⟨Nat.le_refl _,h2,by simp⟩
   ·have h4:(hi-(lo+d)) % d=0:=by
     have:hi-lo=hi-(lo+d)+d:=by omega
     rw[this,Nat.add_mod_right]at hm;exact hm
    have ⟨a,b,c⟩:=Zp hd h4 e
    refine⟨by omega,b,?_⟩
    have:x-lo=x-(lo+d)+d:=by omega
    rw[this,Nat.add_mod_right];exact c
  ·rw[if_neg h1]at h;simp at h
theorem ZD {os:List Nat}{d b:Nat}:∀ {k w y:Nat},y∈tc os d b k w→∃ w' x,w≤w'∧w'<w+k∧x∈qS d (nth os (b+1)) 300 (nth os b)∧y=w'*32+x
 | 0,w,y,h=>by simp[tc]at h
 | k+1,w,y,h=>by
  rw[tc,List.mem_append]at h
  rcases h with h | h
  ·obtain⟨x,hx,e⟩:=List.mem_map.1 h
   exact⟨w,x,Nat.le_refl _,by omega,hx,e.symm⟩
  ·obtain⟨w',x,a,b,c,e⟩:=ZD h
   exact⟨w',x,by omega,by omega,c,e⟩
theorem Zu {os:List Nat}{d n first:Nat}:∀ {k b y:Nat},y∈uq os d n first k b→∃ b',b≤b'∧b'<b+k∧y∈tc os d b' n first
 | 0,b,y,h=>by simp[uq]at h
 | k+1,b,y,h=>by
  rw[uq,List.mem_append]at h
  rcases h with h | h
  ·exact⟨b,Nat.le_refl _,by omega,h⟩
  ·obtain⟨b',a,c,e⟩:=Zu h
   exact⟨b',by omega,by omega,e⟩
theorem Zg {os:List Nat}{n first:Nat}:∀ {r:List aA}{b:Nat}{lf:Int}{p:Nat×Nat},fitsS lf r→p∈wH os n first r b→∃ j,(aq r)[j]?=some (p.1:Int)∧(1≤p.1∧p.1≤11)∧p.2∈tc os (aZ p.1) (b+j) n first
 | [],b,lf,p,_,h=>by simp[wH]at h
 | s::r,b,lf,p,hf,h=>by
  obtain⟨⟨⟨l1,l2⟩,b1,b2⟩,hf2⟩:=hf
  have eb:aq (s::r)=List.replicate s.len.toNat s.book++aq r:=by rw[aq,List.flatMap_cons];rfl
  rw[wH,List.mem_append]at h
  rcases h with h | h
  ·by_cases h0:s.book=0∨s.book=13
   ·rw[if_pos h0]at h;simp at h
   ·rw[if_neg h0]at h
    obtain⟨y,hy,e⟩:=List.mem_map.1 h
    subst e
    obtain⟨b',c1,c2,c3⟩:=Zu hy
    refine⟨b'-b,?_,by simp only[];omega,by rw[show b+(b'-b)=b' by omega];exact c3⟩
    rw[eb,List.getElem?_append_left (by simp;omega),List.getElem?_replicate,if_pos (by omega)]
    simp only[Option.some.injEq];omega
  ·obtain⟨j,a,c,e⟩:=Zg hf2 h
   refine⟨s.len.toNat+j,?_,c,by rw[←Nat.add_assoc];exact e⟩
   rw[eb,List.getElem?_append_right (by simp),List.length_replicate,Nat.add_sub_cancel_left]
   exact a
theorem ZU {os:List Nat}{m:Int}:∀ {r:List (List aA)}{q:List Int}{first:Nat}{p:Nat×Nat},cG m r→(∀ n∈q,1≤n)→p∈mE os r q first→∃ (w g j:Nat) (l:List aA),r[g]?=some l∧first≤w∧(w:Int)<first+q.sum∧ip q ((w:Int)-first)=g∧(aq l)[j]?=some (p.1:Int)∧(1≤p.1∧p.1≤11)∧∃ x∈qS (aZ p.1) (nth os (j+1)) 300 (nth os j),p.2=w*32+x
 | [],q,first,p,_,_,h=>by simp[mE]at h
 | l::r,[],first,p,_,_,h=>by simp[mE]at h
 | l::r,n::q,first,p,hf,hn,h=>by
  have hn1:=hn n (.head _)
  have hqs:0≤q.sum:=by have:=ou fun x hx=>hn x (.tail _ hx);omega
  rw[mE,List.mem_append]at h
  rw[List.sum_cons]
  rcases h with h | h
  ·obtain⟨j,a,c,e⟩:=Zg (hf l (.head _)) h
   rw[Nat.zero_add]at e
   obtain⟨w,x,e1,e2,e3,e4⟩:=ZD e
   refine⟨w,0,j,l,rfl,e1,by omega,?_,a,c,x,e3,e4⟩
   rw[ip,if_pos (by omega)]
  ·obtain⟨w,g,j,l',e1,e2,e3,e4,e5,e6,e7⟩:=ZU (fun x hx=>hf x (.tail _ hx)) (fun x hx=>hn x (.tail _ hx)) h
   refine⟨w,g+1,j,l',by simpa using e1,by omega,by omega,?_,e5,e6,e7⟩
   rw[ip,if_neg (by omega)]
   have:(w:Int)-first-n=(w:Int)-((first+n.toNat:Nat):Int):=by omega
   rw[this,e4]
theorem Iv:∀ x∈uQ,((List.range ((bj x.1 x.2).length-1)).all fun j=>decide (nth (bj x.1 x.2) j<nth (bj x.1 x.2) (j+1)) && decide ((nth (bj x.1 x.2) (j+1)-nth (bj x.1 x.2) j) % 4=0))=true∧nth (bj x.1 x.2) 0=0∧(bj x.1 x.2).all (fun y=>decide (y≤cond x.2 32 256))=true:=by decide +kernel
theorem Tv {tl:List Nat}{bks:List Int}:∀ {ls:List Int}{i j:Nat}{v:Int},pb tl bks i ls→ls[j]?=some v→Dc tl bks (i+j) v
 | [],i,j,v,_,h=>by simp at h
 | u::r,i,0,v,h,e=>by
  simp only[List.getElem?_cons_zero,Option.some.injEq]at e
  subst e
  exact h.1
 | u::r,i,j+1,v,h,e=>by
  have:=Tv (j:=j) h.2 (by simpa using e)
  rw[show i+(j+1)=i+1+j by omega]
  exact this
theorem TT {r:Nat}{c:bB}:∀ {k w w':Nat},Ag r c k w→w≤w'→w'<w+k→pb ((bj r c.info.short).drop 1) (aq (zM c w')) 0 (rY c w')
 | 0,w,w',_,h1,h2=>by omega
 | k+1,w,w',h,h1,h2=>by
  rcases Nat.lt_or_ge w w' with h3 | h3
  ·exact TT h.2 h3 (by omega)
  ·have:w'=w:=by omega
   subst this;exact h.1
theorem aer {os:List Nat}{b i:Nat}(hs:∀ j,j+1<os.length→nth os j<nth os (j+1)) (hb:b+1<os.length) (h1:nth os b≤i) (h2:i<nth os (b+1)):ir (os.drop 1) i=b:=by
 have hmono:∀ k j,j+k<os.length→nth os j≤nth os (j+k):=by
  intro k
  induction k with
  | zero=>intro j _;exact Nat.le_refl _
  | succ k ih =>
   intro j hj
   have a:=ih j (by omega)
   have b:=hs (j+k) (by omega)
   rw[show j+(k+1)=j+k+1 by omega];omega
 have hlen:(os.drop 1).length=os.length-1:=by simp
 rw[NI (b:=b) (by omega) ?_]
 ·have hdd:(os.drop 1).drop b=os.drop (b+1):=by rw[List.drop_drop];congr 1;omega
  rw[hdd,lv hb,ir,if_neg (by omega)];rfl
 ·intro x hx
  obtain⟨j,hj,e⟩:=List.mem_iff_getElem.1 hx
  have hj2:j<b:=by have:=hj;simp only[List.length_take]at this;omega
  rw[List.getElem_take,List.getElem_drop]at e
  have hn:nth os (1+j)=x:=by
   have h9:=oA (l:=os) (i:=1+j) (by omega)
   rw[List.getElem?_eq_getElem (by omega),e]at h9
   injection h9 with h9;exact h9.symm
  have:=hmono (b-(1+j)) (1+j) (by omega)
  rw[show 1+j+(b-(1+j))=b by omega]at this
  omega
theorem TG {r:Nat}{c:bB}(hc:c.Fit) (h:EH r c) (hr:r≤11) {p:Nat×Nat}(hp:p∈mE (bj r c.info.short) c.sects c.info.groups 0):(1≤p.1∧p.1≤11)∧p.2+aZ p.1≤256∧R8 p.1 ((c.lines.drop p.2).take (aZ p.1)):=by
 have hm11:=vt hr h.info
 obtain⟨g1,g2⟩:=gu hm11
 obtain⟨w,g,j,l,e1,e2,e3,e4,e5,e6,x,e7,e8⟩:=ZU h.sects.2 (fun n hn=>(g1 n hn).1) hp
 obtain⟨o1,o2,o3⟩:=Iv (r,c.info.short) (iX (by omega))
 simp only at o1 o2 o3
 have hmx:=h.info.2.2.2.1
 have hlm:l∈c.sects:=List.mem_of_getElem? e1
 have hbl:=lj (h.sects.2 l hlm) h.info.2.2.1
 have hjl:j<(aq l).length:=(List.getElem?_eq_some_iff.1 e5).1
 have hmy:pg r (decide (c.info.seq=2))=(bj r c.info.short).length-1:=rfl
 have hj1:j+1<(bj r c.info.short).length:=by omega
 have hoj:nth (bj r c.info.short) j<nth (bj r c.info.short) (j+1)∧(nth (bj r c.info.short) (j+1)-nth (bj r c.info.short) j) % 4=0:=by
  have:=List.all_eq_true.1 o1 j (List.mem_range.2 (by omega))
  simpa using this
 have hos:∀ k,k+1<(bj r c.info.short).length→nth (bj r c.info.short) k<nth (bj r c.info.short) (k+1):=fun k hk=>by
  have:=List.all_eq_true.1 o1 k (List.mem_range.2 (by omega))
  simp only[Bool.and_eq_true,decide_eq_true_eq]at this
  exact this.1
 have hd4:aZ p.1=4∨aZ p.1=2:=by unfold aZ;split<;>simp
 have hx:=Zp (d:=aZ p.1) (by omega) (by rcases hd4 with h | h<;>rw[h]<;>omega) e7
 have hw:(w:Int)<c.info.many:=by omega
 have ho256:nth (bj r c.info.short) (j+1)≤cond c.info.short 32 256:=by
  have:=List.all_eq_true.1 o3 _ (lI hj1)
  simpa using this
 have hcond:(cond c.info.short 32 256:Nat)=c.info.wide:=by
  unfold aG.short aG.wide
  by_cases h:c.info.seq=2
  ·rw[decide_eq_true h,if_pos h];rfl
  ·rw[decide_eq_false h,if_neg h];rfl
 rw[hcond]at ho256
 have hww:w*32=w*c.info.wide∧w*c.info.wide+c.info.wide≤256:=by
  unfold aG.many at hw
  unfold aG.wide
  split at hw
  ·rename_i h2;rw[if_pos h2];omega
  ·rename_i h2;rw[if_neg h2];omega
 have hl:=h.lines.1
 have hle:p.2+aZ p.1≤256:=by omega
 refine⟨e6,hle,?_,fun v hv=>?_⟩
 ·rw[List.length_take,List.length_drop];omega
 ·obtain⟨k,hk,ek⟩:=List.mem_iff_getElem.1 hv
  have hk2:k<aZ p.1:=by have:=hk;simp only[List.length_take]at this;omega
  rw[List.getElem_take,List.getElem_drop]at ek
  have hf:=TT h.lines.2 (w':=w) (by omega) (by omega)
  have hwl:(rY c w)[x+k]?=some v:=by
   unfold rY
   rw[List.getElem?_take,if_pos (by omega),List.getElem?_drop,show w*c.info.wide+(x+k)=p.2+k by omega,List.getElem?_eq_getElem (by omega),ek]
  have hlo:=Tv hf hwl
  rw[Nat.zero_add]at hlo
  have hgr:ip c.info.groups w=g:=by rw[←e4];congr 1
  have hsa:zM c w=l:=by
   unfold zM
   rw[hgr,List.getD_eq_getElem?_getD,e1];rfl
  have hba:=aer (i:=x+k) hos hj1 (by omega) (by omega)
  unfold Dc at hlo
  rw[hsa,hba,e5]at hlo
  rcases hlo with h0 | ⟨k',a1,a2,a3⟩
  ·subst h0;simp
  ·injection a1 with a1
   subst a1
   simpa using a3
end Go.Vm
namespace Go.Vm
set_option maxHeartbeats 2000000
set_option maxRecDepth 100000
abbrev FQ (c:bB) (os:List Nat) (q:Obj) (C:List AV) (v:AV) (T:ac):ac :=
 (0,.cells c.av)::(1,.cells C)::(2,.cells [.ptr 1 0])::(3,.cells [v])::(4,.cells c.info.cells)::(5,.cells [.d (.lst (da c.sects))])::(6,.cells [.own false 1 (bm os)])::(7,q)::T
abbrev ai7 (x0:AV):am:=[(0,x0),(6,.ptr 0 0),(11,.ptr 2 0),(12,.ptr 3 0),(86,.fn ff [] [.ptr 5 0,.ptr 4 0,.ptr 6 0])]
abbrev Fz (x0:AV):Obj:=.loop (ai7 x0) [87] kL lk false none
def kB (c:bB) (p:Nat×Nat):List Nat:=A3 p.1 ((c.lines.drop p.2).take (aZ p.1))
theorem Tr {id:Nat}(hid:1≤id∧id≤11) {vs:List Int}(hv:R8 id vs):1≤(A3 id vs).length∧(A3 id vs).length≤200:=by
 have hok:jT id:=by omega
 obtain⟨m1,m2,m3,m4⟩:=ut id (Mo hid)
 obtain⟨f1,f2⟩:=V2 hid hv
 have hd4:aZ id≤4:=by unfold aZ;split<;>omega
 have hvl:=hv.1
 have hv8:∀ v∈vs,v.natAbs≤8191:=fun v h=>Nat.le_trans (hv.2 v h) m4
 have hmany:ay id=be id ^ dE id:=rfl
 unfold A3
 by_cases hs:lY id=true
 ·have hin:=f1 hs
  have hlt:=Aw (n:=0) (j:=0) hin.2 (by simp)
  rw[Nat.zero_add,hin.1,←hmany]at hlt
  have:=oz hok hlt
  rw[if_pos hs];omega
 ·have hin:=f2 (by simpa using hs)
  have hlt:=Aw (n:=0) (j:=0) hin.2 (by simp)
  rw[Nat.zero_add,hin.1,←hmany]at hlt
  have:=oz hok hlt
  have hsl:=XQ (vs:=vs)
  have hel:=Jg (id:=id) hv8
  rw[if_neg hs]
  simp only[List.length_append];omega
theorem aja {m:Nat}{xs ys:List (List D)}(hl:xs.length+ys.length≤1000000000):∃ v,(∀ h,bK m h (cN m xs) ys=some (v,h))∧firm v=cN m (xs++ys):=by
 obtain⟨v,h1,h2⟩:=acA (m:=m) (h:=[]) hl
 refine⟨v,fun h=>?_,h2⟩
 cases xs with
 | nil =>
  cases ys with
  | nil=>injection h1 with h1;injection h1 with h1;subst h1;rfl
  | cons y r =>
   simp only[Wl,ag3,QR,aD]at h1⊢
   split at h1
   ·rename_i h9
    rw[if_pos h9]
    injection h1 with h1;injection h1 with h1;subst h1;rfl
   ·exact absurd h1 (by simp)
 | cons x r =>
  simp only[TM,ZG,QR,Zx,ZE,aD]at h1⊢
  split at h1
  ·rename_i h9
   rw[if_pos h9]
   split at h1
   ·rename_i h8
    rw[if_pos h8]
    split at h1
    ·rename_i h7
     rw[if_pos h7]
     injection h1 with h1;injection h1 with h1;subst h1;rfl
    ·exact absurd h1 (by simp)
   ·exact absurd h1 (by simp)
  ·exact absurd h1 (by simp)
theorem amM (c:bB) (hl:c.lines.length=256) (os:List Nat) (x0:AV) (hx0:share x0=x0) (p:Nat×Nat) (hp:(1≤p.1∧p.1≤11)∧p.2+aZ p.1≤256∧R8 p.1 ((c.lines.drop p.2).take (aZ p.1))) (C:List AV) (hC:F0 C) (acc:List Nat) (hacc:acc.length≤900000000) (K:Nat) (o:Obj) (hK:8≤K) (N:Nat) (hN:K<N) :
  aM (Dn prog) (.yield 7) [.agg [.d (.int .i64 (p.1:Int)),.d (.int .i64 (p.2:Int)),.d (.int .i64 ((p.2+aZ p.1:Nat):Int))]] ⟨FQ c os (Fz x0) C (cN 1 (ah acc)) [(K,o)],N⟩=some (.d (.bool true),⟨FQ c os (Fz x0) (aj C (4*p.1) (xn p.1)) (cN 1 (ah (acc++kB c p))) [(K,o)],N+1+1⟩):=by
 obtain⟨h1,h2,h3⟩:=hp
 have hH:=aeV [] (by simp) .nl (.inr ⟨rfl,rfl⟩) p.1 h1 _ h3
 have hhl:=Tr h1 h3
 rw[List.nil_append]at hH
 have hsl:=fun h=>Yi (h:=h) (l:=c.lines) (a:=p.2) (b:=p.2+aZ p.1) (by omega) (by omega) (p.2:Int) ((p.2+aZ p.1:Nat):Int) rfl rfl
 simp only[Nat.add_sub_cancel_left]at hsl
 have hBk:Bk (fun C T=>FQ c os (.loop (ai7 x0) [87] kL lk true none) C (cN 1 (ah acc)) ([(K,o),(N,.cells [.d (.int .i64 (p.1:Int)),.d (.int .i64 (p.2:Int)),.d (.int .i64 ((p.2+aZ p.1:Nat):Int))])]++T)) 1 (N+1):=by
  have hK0:K≠0∧K≠1∧K≠2:=by omega
  constructor
  ·intro C T;simp
  ·intro C T C';simp
  ·intro C o;simp (maxSteps:=300000) (disch:=omega) [↓if_neg]
  ·intro C o o';simp (maxSteps:=300000) (disch:=omega) [↓if_neg]
  ·intro C o;simp (maxSteps:=300000) (disch:=omega) [↓if_neg]
  ·intro C o;simp (maxSteps:=300000) (disch:=omega) [↓if_neg]
 have hB:=acJ hBk C hC p.1 h1
 generalize aj C (4*p.1) (xn p.1)=C2 at *
 have hbl:(ah (kB c p)).length=(kB c p).length:=dJ
 have hba:(ah acc).length=acc.length:=dJ
 obtain⟨wv,hw1,hw2⟩:=aja (m:=1) (xs:=ah acc) (ys:=ah (kB c p)) (by unfold kB;unfold kB at hbl;omega)
 have hne:ah (acc++kB c p)≠[]:=by
  intro h
  have:=congrArg List.length h
  rw[dJ,List.length_append,List.length_nil]at this
  unfold kB at this
  omega
 rw[Xu,ka hne]at hw2
 rw[ka hne]
 have hLB:A3 p.1 ((c.lines.drop p.2).take (aZ p.1))=kB c p:=rfl
 rw[hLB]at hH
 simp only[sT,List.append_nil]at hB hH
 simp only[FQ,bB.av,aG.cells,List.cons_append,List.nil_append,kL,lk]at hB⊢
 generalize kB c p=LB at *
 generalize (c.lines.drop p.2).take (aZ p.1)=LS at *
 generalize ((p.2+aZ p.1:Nat):Int)=TO at *
 simp (config := { maxSteps:=1000000 }) (disch:=omega) [kL,lk,↓if_pos,↓if_neg,hx0,hsl,hH,hB,hw1,hw2]
theorem ajM (c:bB) (hl:c.lines.length=256) (os:List Nat) (x0:AV) (hx0:share x0=x0) (TOT:List Nat) (hT:TOT.length≤900000000):La (fun(s:List AV×List Nat) T=>FQ c os (Fz x0) s.1 (cN 1 (ah s.2)) T) noH 8 7 (fun p s=>.inl (aj s.1 (4*p.1) (xn p.1),s.2++kB c p))
  (fun r s=>F0 s.1∧s.2++r.flatMap (kB c)=TOT∧∀ p∈r,(1≤p.1∧p.1≤11)∧p.2+aZ p.1≤256∧R8 p.1 ((c.lines.drop p.2).take (aZ p.1))):=by
 intro p r s K o N hi hK hN
 obtain⟨i1,i2,i3⟩:=hi
 have hp:=i3 p (.head _)
 have hal:s.2.length≤900000000:=by rw[←i2,List.length_append]at hT;omega
 refine .inl ⟨_,N+1+1,by omega,rfl,⟨acE i1 hp.1,?_,fun q hq=>i3 q (.tail _ hq)⟩,amM c hl os x0 hx0 p hp s.1 i1 s.2 hal K o hK N hN⟩
 rw[List.flatMap_cons,←List.append_assoc]at i2
 exact i2
theorem amT {c:bB}{os:List Nat}{x0:AV}:Tl (fun(s:List AV×List Nat) T=>FQ c os (Fz x0) s.1 (cN 1 (ah s.2)) T) 8:=by
 constructor
 ·intro s K o h;simp (maxSteps:=300000) (disch:=omega) [↓if_neg]
 ·intro s K o o' h;simp (maxSteps:=300000) (disch:=omega) [↓if_neg]
 ·intro s K o h;simp (maxSteps:=300000) (disch:=omega) [↓if_neg]
 ·intro s K o h;simp (maxSteps:=300000) (disch:=omega) [↓if_neg]
def iT (r:Nat) (c:bB):List Nat:=(mE (bj r c.info.short) c.sects c.info.groups 0).flatMap (kB c)
abbrev F5:List AV:=[.d (.int .i64 0),.d (.int .i64 0),.nl,.nl,.d (.int .i64 0),.d (.int .i64 0),.nl,.nl,.d (.int .i64 0),.d (.int .i64 0),.nl,.nl,.d (.int .i64 0),.d (.int .i64 0),.nl,.nl,.d (.int .i64 0),.d (.int .i64 0),.nl,.nl,.d (.int .i64 0),.d (.int .i64 0),.nl,.nl,.d (.int .i64 0),.d (.int .i64 0),.nl,.nl,.d (.int .i64 0),.d (.int .i64 0),.nl,.nl,.d (.int .i64 0),.d (.int .i64 0),.nl,.nl,.d (.int .i64 0),.d (.int .i64 0),.nl,.nl,.d (.int .i64 0),.d (.int .i64 0),.nl,.nl,.d (.int .i64 0),.d (.int .i64 0),.nl,.nl]
theorem afk:F0 F5:=by
 refine⟨rfl,fun id hid=>.inl ?_⟩
 obtain rfl | rfl | rfl | rfl | rfl | rfl | rfl | rfl | rfl | rfl | rfl | rfl:id=0∨id=1∨id=2∨id=3∨id=4∨id=5∨id=6∨id=7∨id=8∨id=9∨id=10∨id=11:=by omega
 all_goals rfl
theorem adL (r:Nat) (hr:r≤11) (c:bB) (hc:c.Fit) (h:EH r c) (x0:AV) (hx0:share x0=x0) (hlen:(iT r c).length≤900000000):∃ C2 M,(Dn prog).call ff [.yield 7,.ptr 5 0,.ptr 4 0,.ptr 6 0] ⟨FQ c (bj r c.info.short) (Fz x0) F5 .nl [],8⟩=some (.tup [],⟨FQ c (bj r c.info.short) (Fz x0) C2 (cN 1 (ah (iT r c))) [],M⟩):=by
 obtain⟨o1,o2,o3,o4⟩:=TL (r,c.info.short) (iX (by omega))
 obtain⟨p1,p2,p3⟩:=Iv (r,c.info.short) (iX (by omega))
 simp only at o1 o2 o3 o4 p1 p2 p3
 have hmx:=h.info.2.2.2.1
 have hmy:pg r (decide (c.info.seq=2))=(bj r c.info.short).length-1:=rfl
 have hhi:∀ x∈bj r c.info.short,x≤256:=fun x hx=>by
  have:=List.all_eq_true.1 p3 x hx
  simp only[decide_eq_true_eq]at this
  have:(cond c.info.short 32 256:Nat)≤256:=by cases c.info.short<;>decide
  omega
 have hpl:=aeU (P:=⟨7,4,6,c.sects,bj r c.info.short⟩) c.info hc.info (vt hr h.info) 5 (amT (c:=c) (os:=bj r c.info.short) (x0:=x0)) abp (ajM c h.lines.1 (bj r c.info.short) x0 hx0 (iT r c) hlen) (fun s=>by simp) (fun s T=>by simp) (fun s T=>by simp) (by simp only[];omega) hhi (by simp only[];omega) h.sects 8 (Nat.le_refl _) (F5,[]) ⟨afk,by simp only[iT,List.nil_append],fun p hp=>TG hc h hr hp⟩
 rcases hpl with ⟨s2,M,hM,e1,⟨e2,e3,e4⟩,e5⟩ | ⟨z,_⟩
 ·rw[List.flatMap_nil,List.append_nil]at e3
  rw[e3]at e5
  exact⟨s2.1,M,e5⟩
 ·exact nomatch z
end Go.Vm
namespace Go.Vm
set_option maxHeartbeats 2000000
set_option maxRecDepth 100000
theorem wd {α:Type}{f:α→List Nat}{k:Nat}:∀ {l:List α},(∀ x∈l,(f x).length≤k)→(l.flatMap f).length≤k*l.length
 | [],_=>by simp
 | x::r,h=>by
  have a:=h x (.head _)
  have b:=wd (l:=r) fun y hy=>h y (.tail _ hy)
  rw[List.flatMap_cons,List.length_append,List.length_cons,Nat.mul_add];omega
theorem ZH {d hi:Nat}:∀ {f x:Nat},(qS d hi f x).length≤f
 | 0,_=>by simp[qS]
 | f+1,x=>by
  rw[qS];split
  ·have:=ZH (d:=d) (hi:=hi) (f:=f) (x:=x+d)
   simp only[List.length_cons];omega
  ·simp
theorem Zc {os:List Nat}{d b:Nat}:∀ {k w:Nat},(tc os d b k w).length≤300*k
 | 0,_=>by simp[tc]
 | k+1,w=>by
  have a:=ZH (d:=d) (hi:=nth os (b+1)) (f:=300) (x:=nth os b)
  have b:=Zc (os:=os) (d:=d) (b:=b) (k:=k) (w:=w+1)
  rw[tc,List.length_append,List.length_map];omega
theorem Z5 {os:List Nat}{d n first:Nat}(hn:n≤8):∀ {k b:Nat},(uq os d n first k b).length≤2400*k
 | 0,_=>by simp[uq]
 | k+1,b=>by
  have a:=Zc (os:=os) (d:=d) (b:=b) (k:=n) (w:=first)
  have c:=Z5 (os:=os) (d:=d) (first:=first) hn (k:=k) (b:=b+1)
  rw[uq,List.length_append];omega
theorem ZK {os:List Nat}{n first:Nat}(hn:n≤8):∀ {r:List aA}{b:Nat}{lf:Int},fitsS lf r→0≤lf→(wH os n first r b).length≤2400*lf.toNat
 | [],b,lf,h,h0=>by simp[wH]
 | s::r,b,lf,h,h0=>by
  obtain⟨⟨⟨l1,l2⟩,_⟩,h2⟩:=h
  have a:=Z5 (os:=os) (d:=aZ s.book.toNat) (first:=first) hn (k:=s.len.toNat) (b:=b)
  have c:=ZK (os:=os) (first:=first) hn (b:=b+s.len.toNat) h2 (by omega)
  rw[wH,List.length_append]
  split
  ·simp only[List.length_nil];omega
  ·rw[List.length_map];omega
theorem aae {os:List Nat}{m:Int}(hm:0≤m∧m≤40):∀ {r:List (List aA)}{q:List Int}{first:Nat},cG m r→(∀ n∈q,n≤8)→(mE os r q first).length≤100000*q.length
 | [],q,first,_,_=>by simp[mE]
 | l::r,[],first,_,_=>by simp[mE]
 | l::r,n::q,first,hf,hn=>by
  have h1:=hn n (.head _)
  have a:=ZK (os:=os) (n:=n.toNat) (first:=first) (by omega) (b:=0) (hf l (.head _)) hm.1
  have c:=aae (os:=os) hm (r:=r) (q:=q) (first:=first+n.toNat) (fun x hx=>hf x (.tail _ hx)) (fun x hx=>hn x (.tail _ hx))
  rw[mE,List.length_append,List.length_cons];omega
theorem OA {r:Nat}{c:bB}(hc:c.Fit) (h:EH r c) (hr:r≤11):(iT r c).length≤160000000:=by
 have hm11:=vt hr h.info
 obtain⟨g1,g2⟩:=gu hm11
 have hmm:c.info.many≤8:=by unfold aG.many;split<;>omega
 have hgl:c.info.groups.length≤8:=by have:=ou (fun n hn=>(g1 n hn).1);omega
 have a:=aae (os:=bj r c.info.short) (oe hm11) (first:=0) h.sects.2 fun n hn=>(g1 n hn).2
 have b:=wd (f:=kB c) (k:=200) (l:=mE (bj r c.info.short) c.sects c.info.groups 0) fun p hp=>by
  obtain⟨h1,h2,h3⟩:=TG hc h hr hp
  exact(Tr h1 h3).2
 unfold iT
 omega
theorem Ef:∀ {g:List (List aA)}{t:List (List Int)}{w z:Int}{m:Int},0≤m∧m≤40→cG m g→kD g t w z≠none→(mb g t w z).length≤800*g.length
 | [],[],_,_,_,_,_,_=>by simp[mb]
 | [],_::_,_,_,_,_,_,h=>absurd rfl h
 | _::_,[],_,_,_,_,_,h=>absurd rfl h
 | l::r,t::s,w,z,m,hm,hf,h=>by
  rw[kD]at h
  cases hr:bW (aq l) t w z with
  | none=>rw[hr]at h;exact absurd rfl h
  | some fin =>
   rw[hr]at h
   have a:=J0 (bks:=aq l) (t:=t) (w:=w) (z:=z) (by rw[hr];simp)
   have b:=lj (hf l (.head _)) hm.1
   have c:=Ef (g:=r) (t:=s) (w:=fin.1) (z:=fin.2) hm (fun x hx=>hf x (.tail _ hx)) h
   rw[mb,hr,List.length_append,List.length_cons]
   simp only
   omega
theorem D2 {i:aG}:(kC i).length≤20:=by
 unfold kC
 split<;>simp[Z4]
theorem Tp {i:aG}{g:List (List aA)}(hm:i.may 11) (hg:j9 i g):(Mw i g).length≤600000*g.length:=by
 have hsz:1≤i.fsz∧i.fsz≤5:=by unfold aG.fsz;split<;>omega
 have hmx:=oe hm
 refine wd fun l hl=>?_
 have hf:=hg.2 l hl
 have a:=DK hsz (oM hf (by omega))
 have b:l.length≤100:=by
  rcases vO hf with h | h
  ·omega
  ·subst h;simp
 omega
def ju (r:Nat) (c:bB) (common:Bool):List Nat :=
 al c.gain.toNat 8++((if common then [] else kC c.info)++(Mw c.info c.sects++(mb c.sects c.steps c.gain (-1)++((if Js c.tns then 0::1::(fE c.info.short c.tns++[0]) else [0,0,0])++iT r c))))
theorem ZS (b:List Nat) (hb:b.length≤10000000) (x:AV) (hx:x=.d (.lst (ah b))∨x=.nl∧b=[]) (rt:Int) (c:bB) (hc:c.Fit) (common:Bool) :
  (iN rt∧EH rt.toNat c∧aW prog gE [x,.d (.int .i64 rt),.agg c.av,.d (.bool common)]=some (.tup [.own true 1 (ah (b++ju rt.toNat c common)),.d (.int .i64 0)]))∨
  (∃ e:Int,e≠0∧aW prog dp [.d (.int .i64 rt),.agg c.av]=some (.d (.int .i64 e))∧(iN rt→¬ EH rt.toNat c)∧aW prog gE [x,.d (.int .i64 rt),.agg c.av,.d (.bool common)]=some (.tup [.nl,.d (.int .i64 e)])):=by
 have bad:∀ e:Int,e≠0→aW prog dp [.d (.int .i64 rt),.agg c.av]=some (.d (.int .i64 e))→aW prog gE [x,.d (.int .i64 rt),.agg c.av,.d (.bool common)]=some (.tup [.nl,.d (.int .i64 e)]):=by
  intro e he hC
  simp only[bB.av]at hC⊢
  rw[au TB xI.eq_1 rfl]
  rcases hx with rfl | ⟨rfl,rfl⟩
  all_goals simp (maxSteps:=300000) (disch:=omega) [↓if_pos,↓if_neg,hC,he]
 rcases Nm rt c hc with ⟨hr,h,hC⟩ | ⟨hr,h,hC⟩ | ⟨hr,hC⟩
 ·refine .inl ⟨hr,h,?_⟩
  obtain⟨R,rfl⟩:=Int.eq_ofNat_of_zero_le hr.1
  simp only[Int.toNat_natCast]at h⊢
  have hR:R≤11:=by omega
  have hm11:=vt hR h.info
  have hmx:=oe hm11
  obtain⟨g1,g2⟩:=gu hm11
  have hmm:c.info.many≤8:=by unfold aG.many;split<;>omega
  have hgl:c.info.groups.length≤8:=by have:=ou (fun n hn=>(g1 n hn).1);omega
  have hgs:c.sects.length≤8:=by have:=h.sects.1;omega
  have k1:=D2 (i:=c.info)
  have k2:=Tp hm11 h.sects
  have k3:=Ef hmx h.sects.2 h.steps
  have k4:(fE c.info.short c.tns).length≤1000*c.tns.length:=wd fun l hl=>PN (h.tns.2 l hl)
  have k5:=OA hc h hR
  have htl:=h.tns.1
  have hx8:(8:Int).toNat=8:=rfl
  have p1:=il b c.gain 8 (by omega) (by have:=h.gain;omega) x hx
  rw[if_pos (by have:=h.gain;simp only[io,hx8];omega),hx8]at p1
  obtain⟨B1,hB1⟩:∃ B1,B1=b++al c.gain.toNat 8:=⟨_,rfl⟩
  have l1:B1.length=b.length+8:=by rw[hB1];simp
  rw[←hB1]at p1
  have p2:=W6 B1 (by omega) _ (.inl rfl) R c.info hc.info
  rw[if_pos hr,Int.toNat_natCast,if_pos h.info]at p2
  obtain⟨B2,hB2⟩:∃ B2,B2=B1++(if common then [] else kC c.info):=⟨_,rfl⟩
  have l2:B2.length≤b.length+28:=by rw[hB2,List.length_append];split<;>(try simp only[List.length_nil])<;>omega
  have p3:=ad4 B2 (by omega) _ (.inl rfl) c.info hc.info hm11 c.sects hc.sects h.sects
  obtain⟨B3,hB3⟩:∃ B3,B3=B2++Mw c.info c.sects:=⟨_,rfl⟩
  have l3:B3.length≤b.length+5000000:=by rw[hB3,List.length_append];omega
  rw[←hB3]at p3
  have p4:=acG B3 (by omega) _ (.inl rfl) c.gain c.info.max c.sects c.steps h.gain hgs hmx h.sects.2 hc.sects.2 h.steps fun l hl=>by have:=hc.steps.2 l hl;omega
  obtain⟨B4,hB4⟩:∃ B4,B4=B3++mb c.sects c.steps c.gain (-1):=⟨_,rfl⟩
  have l4:B4.length≤b.length+6000000:=by rw[hB4,List.length_append];omega
  rw[←hB4]at p4
  have p5:=Ww c.tns (by omega) fun l hl=>by have:=(hc.tns.2 l hl).1;omega
  have p6:=YX (B4++[0,1]) (by simp;omega) _ (.inl rfl) c.info hc.info hm11 c.tns h.tns fun l hl f hf=>(hc.fltI l hl f hf).2
  obtain⟨B5,hB5⟩:∃ B5,B5=B4++(if Js c.tns then 0::1::(fE c.info.short c.tns++[0]) else [0,0,0]):=⟨_,rfl⟩
  have l5:B5.length≤b.length+7000000:=by rw[hB5,List.length_append];split<;>simp<;>omega
  have hfin:b++ju R c common=B5++iT R c:=by rw[hB5,hB4,hB3,hB2,hB1];simp only[ju,List.append_assoc]
  obtain⟨C2,M,p7⟩:=adL R hR c hc h (.d (.lst (ah B5))) rfl (by omega)
  have p8:=aau R hR c.info (.lst (da c.sects)) [(0,.cells c.av),(1,.cells F5),(2,.cells [.ptr 1 0]),(3,.cells [.nl])] 4 (fun p hp=>by
   simp only[List.mem_cons,List.not_mem_nil,or_false]at hp
   rcases hp with rfl | rfl | rfl | rfl<;>simp only[]<;>omega)
  rw[hfin]
  have hbl:(ah (iT R c)).length=(iT R c).length:=dJ
  have hb5:(ah B5).length=B5.length:=dJ
  have hb4:(ah B4).length=B4.length:=dJ
  have hb01:ah B4++[[D.int .u8 0],[D.int .u8 1]]=ah (B4++[0,1]):=by simp[ah]
  have hb000:ah B4++[[D.int .u8 0],[D.int .u8 0],[D.int .u8 0]]=ah (B4++[0,0,0]):=by simp[ah]
  have hb6:ah (B4++[0,1]++fE c.info.short c.tns)++[[D.int .u8 0]]=ah (B4++[0,1]++fE c.info.short c.tns++[0]):=by simp[ah]
  have hl6n:(B4++[0,1]++fE c.info.short c.tns).length≤100000000:=by simp;omega
  have hl6:(ah (B4++[0,1]++fE c.info.short c.tns)).length≤100000000:=by rw[dJ];simp;omega
  simp only[FQ,bB.av,aG.cells,List.cons_append,List.nil_append]at hC p2 p3 p4 p6 p7 p8⊢
  rw[au TB xI.eq_1 rfl]
  cases hcm:common with
  | true =>
   rw[hcm]at hB2
   simp only[if_true,List.append_nil]at hB2
   subst hB2
   cases haf:Js c.tns with
   | true =>
    rw[haf]at hB5 p5
    simp only[if_true]at hB5
    have e5:B4++[0,1]++fE c.info.short c.tns++[0]=B5:=by rw[hB5];simp
    rw[e5]at hb6
    generalize iT R c=LL at *
    generalize B4++[0,1]++fE c.info.short c.tns=B6 at *
    generalize B4++[0,1]=B7 at *
    rcases hx with rfl | ⟨rfl,rfl⟩
    ·simp (config := { maxSteps:=1000000 }) (disch:=omega) [↓if_pos,↓if_neg,rd,hC,p1,p3,p4,p5,p6,hb01,hb6,hb000,p8,p7]
     try omega
    ·simp (config := { maxSteps:=1000000 }) (disch:=omega) [↓if_pos,↓if_neg,rd,hC,p1,p3,p4,p5,p6,hb01,hb6,hb000,p8,p7]
     try omega
   | false =>
    rw[haf]at hB5 p5
    simp only[Bool.false_eq_true,if_false]at hB5
    rw[←hB5]at hb000
    generalize iT R c=LL at *
    generalize B4++[0,1]++fE c.info.short c.tns=B6 at *
    generalize B4++[0,1]=B7 at *
    rcases hx with rfl | ⟨rfl,rfl⟩
    ·simp (config := { maxSteps:=1000000 }) (disch:=omega) [↓if_pos,↓if_neg,rd,hC,p1,p3,p4,p5,p6,hb01,hb6,hb000,p8,p7]
     try omega
    ·simp (config := { maxSteps:=1000000 }) (disch:=omega) [↓if_pos,↓if_neg,rd,hC,p1,p3,p4,p5,p6,hb01,hb6,hb000,p8,p7]
     try omega
  | false =>
   rw[hcm]at hB2
   simp only[Bool.false_eq_true,if_false]at hB2
   rw[←hB2]at p2
   cases haf:Js c.tns with
   | true =>
    rw[haf]at hB5 p5
    simp only[if_true]at hB5
    have e5:B4++[0,1]++fE c.info.short c.tns++[0]=B5:=by rw[hB5];simp
    rw[e5]at hb6
    generalize iT R c=LL at *
    generalize B4++[0,1]++fE c.info.short c.tns=B6 at *
    generalize B4++[0,1]=B7 at *
    rcases hx with rfl | ⟨rfl,rfl⟩
    ·simp (config := { maxSteps:=1000000 }) (disch:=omega) [↓if_pos,↓if_neg,rd,hC,p1,p2,p3,p4,p5,p6,hb01,hb6,hb000,p8,p7]
     try omega
    ·simp (config := { maxSteps:=1000000 }) (disch:=omega) [↓if_pos,↓if_neg,rd,hC,p1,p2,p3,p4,p5,p6,hb01,hb6,hb000,p8,p7]
     try omega
   | false =>
    rw[haf]at hB5 p5
    simp only[Bool.false_eq_true,if_false]at hB5
    rw[←hB5]at hb000
    generalize iT R c=LL at *
    generalize B4++[0,1]++fE c.info.short c.tns=B6 at *
    generalize B4++[0,1]=B7 at *
    rcases hx with rfl | ⟨rfl,rfl⟩
    ·simp (config := { maxSteps:=1000000 }) (disch:=omega) [↓if_pos,↓if_neg,rd,hC,p1,p2,p3,p4,p5,p6,hb01,hb6,hb000,p8,p7]
     try omega
    ·simp (config := { maxSteps:=1000000 }) (disch:=omega) [↓if_pos,↓if_neg,rd,hC,p1,p2,p3,p4,p5,p6,hb01,hb6,hb000,p8,p7]
     try omega
 ·exact .inr ⟨8,by omega,hC,fun _=>h,bad 8 (by omega) hC⟩
 ·exact .inr ⟨2,by omega,hC,fun h=>absurd h hr,bad 2 (by omega) hC⟩
end Go.Vm
namespace Go.Vm
set_option maxHeartbeats 2000000
set_option maxRecDepth 100000
structure aaf (c:bB):Prop where
 groups:c.info.groups.length≤40
 sects:c.sects.length≤40∧∀ l∈c.sects,l.length≤100
 steps:c.steps.length≤40∧∀ l∈c.steps,l.length≤200
 tns:c.tns.length≤40∧∀ l∈c.tns,l.length≤20∧∀ f∈l,f.coefs.length≤100
 lines:c.lines.length≤2000
theorem afa (c:bB) (hl:c.sects.length≤40):∀ (r:List (List aA)) (i:Nat),c.sects.drop i=r→
  ((∀ l∈r,l.length≤100)∧(Dn prog).code (.loop bQ) ⟨[(1,.ptr 0 0),(3,.d (.int .i64 i))],⟨[(0,.cells c.av)],1⟩⟩=some (.exit 0,⟨[(1,.ptr 0 0)],⟨[(0,.cells c.av)],1⟩⟩))∨
  (Dn prog).code (.loop bQ) ⟨[(1,.ptr 0 0),(3,.d (.int .i64 i))],⟨[(0,.cells c.av)],1⟩⟩=some (.ret,⟨[(2,.d (.bool true))],⟨[],1⟩⟩):=by
 intro r
 induction r with
 | nil =>
  intro i hd
  have hi:=aH hd
  refine .inl ⟨by simp,?_⟩
  rw[aa bQ.eq_1]
  simp (maxSteps:=300000) (disch:=omega) [↓if_neg]
 | cons l r ih =>
  intro i hd
  have hg:=iO hd
  have hlt:=aQ hd
  have hd1:c.sects.drop (i+1)=r:=by rw[←List.tail_drop,hd];rfl
  have ih1:=ih (i+1) hd1
  rw[show ((i+1:Nat):Int)=(i:Int)+1 from rfl]at ih1
  by_cases hn:l.length≤100
  ·rcases ih1 with ⟨ha,e⟩ | e
   ·refine .inl ⟨fun q hq=>?_,?_⟩
    ·rcases List.mem_cons.1 hq with rfl | hq
     ·exact hn
     ·exact ha q hq
    ·rw[aa bQ.eq_1]
     simp (maxSteps:=300000) (disch:=omega) [↓if_pos,↓if_neg,hg,e]
   ·refine .inr ?_
    rw[aa bQ.eq_1]
    simp (maxSteps:=300000) (disch:=omega) [↓if_pos,↓if_neg,hg,e]
  ·refine .inr ?_
   rw[aa bQ.eq_1]
   simp (maxSteps:=300000) (disch:=omega) [↓if_pos,↓if_neg,hg]
theorem aeu (c:bB) (hl:c.steps.length≤40):∀ (r:List (List Int)) (i:Nat),c.steps.drop i=r→
  ((∀ l∈r,l.length≤200)∧(Dn prog).code (.loop bR) ⟨[(1,.ptr 0 0),(4,.d (.int .i64 i))],⟨[(0,.cells c.av)],1⟩⟩=some (.exit 2,⟨[(1,.ptr 0 0)],⟨[(0,.cells c.av)],1⟩⟩))∨
  (Dn prog).code (.loop bR) ⟨[(1,.ptr 0 0),(4,.d (.int .i64 i))],⟨[(0,.cells c.av)],1⟩⟩=some (.ret,⟨[(2,.d (.bool true))],⟨[],1⟩⟩):=by
 intro r
 induction r with
 | nil =>
  intro i hd
  have hi:=aH hd
  refine .inl ⟨by simp,?_⟩
  rw[aa bR.eq_1]
  simp (maxSteps:=300000) (disch:=omega) [↓if_neg]
 | cons l r ih =>
  intro i hd
  have hg:=xL hd
  have hlt:=aQ hd
  have hd1:c.steps.drop (i+1)=r:=by rw[←List.tail_drop,hd];rfl
  have ih1:=ih (i+1) hd1
  rw[show ((i+1:Nat):Int)=(i:Int)+1 from rfl]at ih1
  by_cases hn:l.length≤200
  ·rcases ih1 with ⟨ha,e⟩ | e
   ·refine .inl ⟨fun q hq=>?_,?_⟩
    ·rcases List.mem_cons.1 hq with rfl | hq
     ·exact hn
     ·exact ha q hq
    ·rw[aa bR.eq_1]
     simp (maxSteps:=300000) (disch:=omega) [↓if_pos,↓if_neg,hg,e]
   ·refine .inr ?_
    rw[aa bR.eq_1]
    simp (maxSteps:=300000) (disch:=omega) [↓if_pos,↓if_neg,hg,e]
  ·refine .inr ?_
   rw[aa bR.eq_1]
   simp (maxSteps:=300000) (disch:=omega) [↓if_pos,↓if_neg,hg]
theorem aeT (c:bB) (w:Nat) (full:List bb) (q:List (List bb)) (hw:c.tns.drop w=full::q) (hl:full.length≤20):∀ (r:List bb) (i:Nat),full.drop i=r→
  ((∀ f∈r,f.coefs.length≤100)∧(Dn prog).code (.loop bS) ⟨[(1,.ptr 0 0),(5,.d (.int .i64 w)),(6,.d (.int .i64 i))],⟨[(0,.cells c.av)],1⟩⟩=some (.exit 6,⟨[(1,.ptr 0 0),(5,.d (.int .i64 w))],⟨[(0,.cells c.av)],1⟩⟩))∨
  (Dn prog).code (.loop bS) ⟨[(1,.ptr 0 0),(5,.d (.int .i64 w)),(6,.d (.int .i64 i))],⟨[(0,.cells c.av)],1⟩⟩=some (.ret,⟨[(2,.d (.bool true))],⟨[],1⟩⟩):=by
 have hg1:=ow hw
 have hw1:=aQ hw
 intro r
 induction r with
 | nil =>
  intro i hd
  have hi:=aH hd
  refine .inl ⟨by simp,?_⟩
  rw[aa bS.eq_1]
  simp (maxSteps:=300000) (disch:=omega) [↓if_neg,↓if_pos,hg1]
 | cons l r ih =>
  intro i hd
  have hg:=q9 hd
  have hlt:=aQ hd
  have hd1:full.drop (i+1)=r:=by rw[←List.tail_drop,hd];rfl
  have ih1:=ih (i+1) hd1
  rw[show ((i+1:Nat):Int)=(i:Int)+1 from rfl]at ih1
  by_cases hn:l.coefs.length≤100
  ·rcases ih1 with ⟨ha,e⟩ | e
   ·refine .inl ⟨fun q hq=>?_,?_⟩
    ·rcases List.mem_cons.1 hq with rfl | hq
     ·exact hn
     ·exact ha q hq
    ·rw[aa bS.eq_1]
     simp (maxSteps:=300000) (disch:=omega) [↓if_pos,↓if_neg,hg,hg1,e]
   ·refine .inr ?_
    rw[aa bS.eq_1]
    simp (maxSteps:=300000) (disch:=omega) [↓if_pos,↓if_neg,hg,hg1,e]
  ·refine .inr ?_
   rw[aa bS.eq_1]
   simp (maxSteps:=300000) (disch:=omega) [↓if_pos,↓if_neg,hg,hg1]
theorem adw (c:bB) (hl:c.tns.length≤40):∀ (r:List (List bb)) (i:Nat),c.tns.drop i=r→
  ((∀ l∈r,l.length≤20∧∀ f∈l,f.coefs.length≤100)∧(Dn prog).code (.loop bE) ⟨[(1,.ptr 0 0),(5,.d (.int .i64 i))],⟨[(0,.cells c.av)],1⟩⟩=some (.exit 4,⟨[],⟨[],1⟩⟩))∨
  (Dn prog).code (.loop bE) ⟨[(1,.ptr 0 0),(5,.d (.int .i64 i))],⟨[(0,.cells c.av)],1⟩⟩=some (.ret,⟨[(2,.d (.bool true))],⟨[],1⟩⟩):=by
 intro r
 induction r with
 | nil =>
  intro i hd
  have hi:=aH hd
  refine .inl ⟨by simp,?_⟩
  rw[aa bE.eq_1]
  simp (maxSteps:=300000) (disch:=omega) [↓if_neg]
 | cons l r ih =>
  intro i hd
  have hg:=ow hd
  have hlt:=aQ hd
  have hd1:c.tns.drop (i+1)=r:=by rw[←List.tail_drop,hd];rfl
  have ih1:=ih (i+1) hd1
  rw[show ((i+1:Nat):Int)=(i:Int)+1 from rfl]at ih1
  by_cases hn:l.length≤20
  ·rcases aeT c i l r hd hn l 0 rfl with ⟨h2,e2⟩ | e2
   ·rw[show ((0:Nat):Int)=0 from rfl]at e2
    rcases ih1 with ⟨ha,e⟩ | e
    ·refine .inl ⟨fun q hq=>?_,?_⟩
     ·rcases List.mem_cons.1 hq with rfl | hq
      ·exact⟨hn,h2⟩
      ·exact ha q hq
     ·rw[aa bE.eq_1]
      simp (maxSteps:=300000) (disch:=omega) [↓if_pos,↓if_neg,hg,e2,e]
    ·refine .inr ?_
     rw[aa bE.eq_1]
     simp (maxSteps:=300000) (disch:=omega) [↓if_pos,↓if_neg,hg,e2,e]
   ·refine .inr ?_
    rw[show ((0:Nat):Int)=0 from rfl]at e2
    rw[aa bE.eq_1]
    simp (maxSteps:=300000) (disch:=omega) [↓if_pos,↓if_neg,hg,e2]
  ·refine .inr ?_
   rw[aa bE.eq_1]
   simp (maxSteps:=300000) (disch:=omega) [↓if_pos,↓if_neg,hg]
theorem ajw (c:bB):(aaf c∧aW prog fV [.agg c.av]=some (.d (.bool false)))∨aW prog fV [.agg c.av]=some (.d (.bool true)):=by
 by_cases h1:c.info.groups.length≤40
 rotate_left
 ·refine .inr ?_
  rw[au bG bf.eq_1 rfl]
  simp (maxSteps:=300000) (disch:=omega) [↓if_pos,↓if_neg]
 by_cases h2:c.sects.length≤40
 rotate_left
 ·refine .inr ?_
  rw[au bG bf.eq_1 rfl]
  simp (maxSteps:=300000) (disch:=omega) [↓if_pos,↓if_neg]
 by_cases h3:c.steps.length≤40
 rotate_left
 ·refine .inr ?_
  rw[au bG bf.eq_1 rfl]
  simp (maxSteps:=300000) (disch:=omega) [↓if_pos,↓if_neg]
 by_cases h4:c.tns.length≤40
 rotate_left
 ·refine .inr ?_
  rw[au bG bf.eq_1 rfl]
  simp (maxSteps:=300000) (disch:=omega) [↓if_pos,↓if_neg]
 by_cases h5:c.lines.length≤2000
 rotate_left
 ·refine .inr ?_
  rw[au bG bf.eq_1 rfl]
  simp (maxSteps:=300000) (disch:=omega) [↓if_pos,↓if_neg]
 rcases afa c h2 _ 0 rfl with ⟨a0,e0⟩ | e0
 rotate_left
 ·refine .inr ?_
  rw[show ((0:Nat):Int)=0 from rfl]at e0
  rw[au bG bf.eq_1 rfl]
  simp (maxSteps:=300000) (disch:=omega) [↓if_pos,↓if_neg,e0]
 rcases aeu c h3 _ 0 rfl with ⟨a1,e1⟩ | e1
 rotate_left
 ·refine .inr ?_
  rw[show ((0:Nat):Int)=0 from rfl]at e0 e1
  rw[au bG bf.eq_1 rfl]
  simp (maxSteps:=300000) (disch:=omega) [↓if_pos,↓if_neg,e0,e1]
 rcases adw c h4 _ 0 rfl with ⟨a3,e3⟩ | e3
 rotate_left
 ·refine .inr ?_
  rw[show ((0:Nat):Int)=0 from rfl]at e0 e1 e3
  rw[au bG bf.eq_1 rfl]
  simp (maxSteps:=300000) (disch:=omega) [↓if_pos,↓if_neg,e0,e1,e3]
 refine .inl ⟨⟨h1,⟨h2,a0⟩,⟨h3,a1⟩,⟨h4,a3⟩,h5⟩,?_⟩
 rw[show ((0:Nat):Int)=0 from rfl]at e0 e1 e3
 rw[au bG bf.eq_1 rfl]
 simp (maxSteps:=300000) (disch:=omega) [↓if_pos,↓if_neg,e0,e1,e3]
end Go.Vm
namespace Go.Vm
set_option maxHeartbeats 2000000
set_option maxRecDepth 100000
theorem WJ:∀ (b:List Nat),iE (ah b)=some (b.map Nat.toUInt8)
 | []=>rfl
 | n::r=>by
  have h:ah (n::r)=[.int .u8 (.ofNat n)]::ah r:=rfl
  rw[h,iE,WJ r,List.map_cons]
@[simp] theorem pk {h:ac}{b:List Nat}:sZ h (.d (.lst (ah b)))=some (.str (b.map Nat.toUInt8)):=by
 simp only[sZ,ac4,WJ]
theorem ab4 {h:ac}{l:List Nat}{b:Nat}(hb:b≤l.length) (y:Int) (hy:y=b):lg h 1 (.d (.lst (ah l))) none (some (.d (.int .i64 y))) none=some (.d (.lst (ah (l.take b)))):=by
 subst hy
 have e1:bO (.d (.int .i64 (b:Int))) (ah l).length=some b:=by rw[F8 (by omega) (by rw[dJ];omega)];simp
 have e3:tf 1 (ah l)=true:=by cases l<;>rfl
 simp only[lg,okSl,j8,lenOf,o8,jK,e1,e3,sub]
 simp[ah]
theorem acO {h:ac}{l:List Nat}{b:Nat}(hb:b≤l.length) (y:Int) (hy:y=b):lg h 1 (.d (.lst (ah l))) (some (.d (.int .i64 y))) none none=some (.d (.lst (ah (l.drop b)))):=by
 subst hy
 have e1:bO (.d (.int .i64 (b:Int))) (ah l).length=some b:=by rw[F8 (by omega) (by rw[dJ];omega)];simp
 have e3:tf 1 (ah l)=true:=by cases l<;>rfl
 simp only[lg,okSl,j8,lenOf,o8,jK,e1,e3,sub]
 have e4:(ah l).length-b≥((ah l).drop b).length:=by simp
 simp only[List.take_of_length_le e4]
 simp[ah]
def c0:bB:=⟨0,⟨0,0,0,[1]⟩,[[]],[[]],[[]],List.replicate 256 0⟩
theorem ahF:c0.Fit where
 gain:=by decide
 info:=⟨by decide,by decide,by decide,by decide,by intro n hn;simp[c0]at hn;subst hn;decide⟩
 sects:=⟨by simp[c0],by simp[c0]⟩
 secI:=by simp[c0]
 steps:=⟨by simp[c0],by simp[c0]⟩
 stepI:=by simp[c0]
 tns:=⟨by simp[c0],by simp[c0]⟩
 fltI:=by simp[c0]
 lines:=by simp[c0]
 lineI:=by
  intro n hn
  have:=List.eq_of_mem_replicate hn
  omega
theorem aee:aW prog dp [.d (.int .i64 0),.agg c0.av]=some (.d (.int .i64 0)):=z6 400 (by kernel_rfl)
theorem abS (common:Bool):aW prog gE [.nl,.d (.int .i64 0),.agg c0.av,.d (.bool common)]=some (.tup [.own true 1 (ah (ju 0 c0 common)),.d (.int .i64 0)]):=by
 rcases ZS [] (by simp) .nl (.inr ⟨rfl,rfl⟩) 0 c0 ahF common with ⟨_,_,h⟩ | ⟨e,he,h,_,_⟩
 ·simpa using h
 ·rw[aee]at h;simp at h;omega
theorem agb:aW prog Iq [.d (.int .i64 0),.agg [.d (.int .u8 0),.d (.int .u8 0),.d (.int .i64 0),.d (.lst (aP [1]))]]=some (.tup [.agg [.d (.int .i64 0),.d (.int .u8 0),.d (.int .u8 0),.d (.int .i64 0),.own false 1 (aP [1]),.own false 1 (da [[]]),.own false 1 (eZ [[]]),.own false 1 (gx [[]]),.own false 1 (aP (List.replicate 256 0))],.d (.int .i64 0)]):=z6 400 (by kernel_rfl)
theorem adV:ju 0 c0 true=List.replicate 11 0:=by decide +kernel
theorem aeh:(ju 0 c0 false).length=22:=by decide +kernel
theorem aeS:aW prog pG []=some (.agg [.d (.int .u8 0),.d (.int .u8 0),.d (.int .i64 0),.own true 1 (aP [1])]):=z6 100 (by kernel_rfl)
theorem ab7:aW prog jk []=some (.d (.bool true)):=by
 have pT:=abS true
 have pF:=abS false
 rw[adV]at pT
 obtain⟨F,hF⟩:∃ F,F=ju 0 c0 false:=⟨_,rfl⟩
 have hl:=aeh
 rw[←hF]at pF hl
 have pz:=agb
 have m11:tp [.int .u8 0] (.d (.int .i64 11)) (.d (.int .i64 11))=some (.own true 1 (ah [0,0,0,0,0,0,0,0,0,0,0])):=by kernel_rfl
 obtain⟨Z,hZ⟩:∃ Z:List Int,Z=List.replicate 256 0:=⟨_,rfl⟩
 have a0:c0.av=[.d (.int .i64 0),.d (.int .u8 0),.d (.int .u8 0),.d (.int .i64 0),.d (.lst (aP [1])),.d (.lst (da [[]])),.d (.lst (eZ [[]])),.d (.lst (gx [[]])),.d (.lst (aP Z))]:=by rw[hZ];rfl
 rw[a0]at pT pF
 rw[←hZ]at pz
 rw[au zo jg.eq_1 rfl]
 simp (maxSteps:=300000) (disch:=omega) [↓if_pos,↓if_neg,aeS,pz,pT,pF,hl,m11]
theorem ae3 {r:Nat}{c:bB}(hc:c.Fit) (h:EH r c) (hR:r≤11) (q:Bool):(ju r c q).length≤400000000:=by
 have hm11:=vt hR h.info
 have hmx:=oe hm11
 obtain⟨g1,g2⟩:=gu hm11
 have hmm:c.info.many≤8:=by unfold aG.many;split<;>omega
 have hgl:c.info.groups.length≤8:=by have:=ou (fun n hn=>(g1 n hn).1);omega
 have hgs:c.sects.length≤8:=by have:=h.sects.1;omega
 have k1:=D2 (i:=c.info)
 have k2:=Tp hm11 h.sects
 have k3:=Ef hmx h.sects.2 h.steps
 have k4:(fE c.info.short c.tns).length≤1000*c.tns.length:=wd fun l hl=>PN (h.tns.2 l hl)
 have k5:=OA hc h hR
 have htl:=h.tns.1
 have e1:(if q then [] else kC c.info).length≤20:=by split<;>(try simp only[List.length_nil])<;>omega
 have e2:(if Js c.tns then 0::1::(fE c.info.short c.tns++[0]) else [0,0,0]).length≤10000:=by split<;>simp<;>omega
 unfold ju
 simp only[List.length_append,eB]
 omega
theorem aaz (rt:Int) (c:bB) (hf:aaf c→c.Fit):aW prog gq [.d (.int .i64 rt),.agg c.av]=some (.d (.bool true)):=by
 have ha:=ab7
 rcases ajw c with ⟨hs,hg⟩ | hg
 rotate_left
 ·simp only[bB.av]at hg⊢
  rw[au gn db.eq_1 rfl]
  simp (maxSteps:=300000) (disch:=omega) [↓if_pos,↓if_neg,ha,hg]
 have hc:=hf hs
 have bad:∀ e:Int,e≠0→aW prog dp [.d (.int .i64 rt),.agg c.av]=some (.d (.int .i64 e))→aW prog gq [.d (.int .i64 rt),.agg c.av]=some (.d (.bool true)):=by
  intro e he hC
  simp only[bB.av]at hC hg⊢
  rw[au gn db.eq_1 rfl]
  simp (maxSteps:=300000) (disch:=omega) [↓if_pos,↓if_neg,ha,hg,hC,he]
 rcases Nm rt c hc with ⟨hr,h,hC⟩ | ⟨hr,h,hC⟩ | ⟨hr,hC⟩
 ·have put:∀ common,aW prog gE [.nl,.d (.int .i64 rt),.agg c.av,.d (.bool common)]=some (.tup [.own true 1 (ah (ju rt.toNat c common)),.d (.int .i64 0)]):=by
   intro common
   rcases ZS [] (by simp) .nl (.inr ⟨rfl,rfl⟩) rt c hc common with ⟨_,_,h⟩ | ⟨e,he,h,_,_⟩
   ·simpa using h
   ·rw[hC]at h;simp at h;omega
  have pT:=put true
  have pF:=put false
  have pi:=W6 [] (by simp) .nl (.inr ⟨rfl,rfl⟩) rt c.info hc.info
  rw[if_pos hr,if_pos h.info,List.nil_append]at pi
  have l1:∀ q,(ju rt.toNat c q).take 8=al c.gain.toNat 8:=by
   intro q
   unfold ju
   rw[List.take_append_of_le_length (by simp),List.take_of_length_le (by simp)]
  have l2:ju rt.toNat c false=(ju rt.toNat c true).take 8++kC c.info++(ju rt.toNat c true).drop 8:=by
   rw[l1]
   unfold ju
   rw[List.drop_append,List.drop_eq_nil_of_le (by simp)]
   simp
  have hR:rt.toNat≤11:=by omega
  have l4:=ae3 hc h hR true
  have l5:=D2 (i:=c.info)
  have l3:8≤(ju rt.toNat c true).length:=by unfold ju;simp
  obtain⟨T,hT⟩:∃ T,T=ju rt.toNat c true:=⟨_,rfl⟩
  obtain⟨F,hF⟩:∃ F,F=ju rt.toNat c false:=⟨_,rfl⟩
  obtain⟨I,hI⟩:∃ I,I=kC c.info:=⟨_,rfl⟩
  rw[←hT]at pT l2 l3 l4
  rw[←hF]at pF l2
  rw[←hI]at pi l2 l5
  have s1:=ab4 (h:=[]) l3 8 rfl
  have s2:=acO (h:=[]) l3 8 rfl
  have w1:aV .add (.d (.str ((T.map Nat.toUInt8).take 8))) (.d (.str (I.map Nat.toUInt8)))=some (.str ((T.map Nat.toUInt8).take 8++I.map Nat.toUInt8)):=Zz (by simp;omega)
  have w2:aV .add (.d (.str ((T.map Nat.toUInt8).take 8++I.map Nat.toUInt8))) (.d (.str ((T.map Nat.toUInt8).drop 8)))=some (.str ((T.map Nat.toUInt8).take 8++I.map Nat.toUInt8++(T.map Nat.toUInt8).drop 8)):=Zz (by simp;omega)
  have w3:F.map Nat.toUInt8=(T.map Nat.toUInt8).take 8++I.map Nat.toUInt8++(T.map Nat.toUInt8).drop 8:=by rw[l2];simp
  obtain⟨A,hA⟩:∃ A,A=(T.map Nat.toUInt8).take 8:=⟨_,rfl⟩
  obtain⟨Z,hZ⟩:∃ Z,Z=(T.map Nat.toUInt8).drop 8:=⟨_,rfl⟩
  rw[←hA,←hZ]at w2 w3
  rw[←hA]at w1
  have t1:sZ [] (.d (.lst (ah (T.take 8))))=some (.str A):=by rw[pk,hA,List.map_take]
  have t2:sZ [] (.d (.lst (ah (T.drop 8))))=some (.str Z):=by rw[pk,hZ,List.map_drop]
  have t3:sZ [] (.d (.lst (ah F)))=some (.str (A++I.map Nat.toUInt8++Z)):=by rw[pk,w3]
  simp only[bB.av,aG.cells]at hC hg pT pF pi⊢
  rw[au gn db.eq_1 rfl]
  simp (maxSteps:=300000) (disch:=omega) [↓if_pos,↓if_neg,ha,hg,hC,pT,pF,pi,s1,s2,w1,w2,t1,t2,t3,-List.append_assoc,-pk,pk (b:=I)]
 ·exact bad 8 (by omega) hC
 ·exact bad 2 (by omega) hC
end Go.Vm
namespace Go.Vm
def AS (ro:Option Nat) (P:Program) (c:Code) (Q:Exit→Act→World→Prop) (a:Act) (w:World):Prop :=
 ∀ (b:Frame) (k:List Item) (cs:List Frame),b.roundOf=ro→∃ e a' w',Q e a' w'∧ArrivesIn (Machine.fenced P (FR ro)) P (lone (b.atR a (.inLoop c::k)) cs w) b k cs e a' w'
def tx (ro:Option Nat) (P:Program) (body cur:Code) (Q:Exit→Act→World→Prop) (a:Act) (w:World):Prop :=
 ∀ (b:Frame) (k:List Item) (cs:List Frame),b.roundOf=ro→∃ e a' w',Q e a' w'∧ArrivesIn (Machine.fenced P (FR ro)) P (lone (b.atR a (.code cur::.inScope body::k)) cs w) b k cs e a' w'
section
variable {P:Program}{ro:Option Nat}{Q:Exit→Act→World→Prop}{a:Act}{w:World}
theorem xw {ro:Option Nat}(m:Machine):Machine.fenced P (FR ro) m:=fenced_wide P m
theorem N3 {c:Code}(h:c.wpIn (FR ro) 0 P (Exit.then (AS ro P c Q) Q) a w):AS ro P c Q a w∧(Code.loop c).wpIn (FR ro) 0 P Q a w:=by
 have key:∀ (b:Frame) (k:List Item) (cs:List Frame),b.roundOf=ro→∃ e a' w',Q e a' w'∧ArrivesIn (Machine.fenced P (FR ro)) P (lone (b.atR a (.code c::.inLoop c::k)) cs w) b k cs e a' w':=by
  intro b k cs hro
  obtain⟨e,a₁,w₁,hq,harr⟩:=h b (.inLoop c::k) cs hro trivial (S3 _ _)
  cases e with
  | normal =>
   obtain⟨e₂,a₂,w₂,hq₂,harr₂⟩:=hq b k cs hro
   exact⟨e₂,a₂,w₂,hq₂,.of_steps harr harr₂⟩
  | exit id=>exact⟨_,a₁,w₁,hq,.pass (x:=.inLoop c) rfl (fun _ _=>.inl (by simp)) harr⟩
  | goto l=>exact⟨_,a₁,w₁,hq,.pass (x:=.inLoop c) rfl (fun _ _=>.inl (by simp)) harr⟩
  | ret=>exact⟨_,a₁,w₁,hq,.pass (x:=.inLoop c) rfl (fun _ _=>.inl (by simp)) harr⟩
  | panic ch=>exact⟨_,a₁,w₁,hq,.pass (x:=.inLoop c) rfl (fun _ _=>.inl (by simp)) harr⟩
  | outgrown=>exact⟨_,a₁,w₁,hq,.pass (x:=.inLoop c) rfl (fun _ _=>.inl (by simp)) harr⟩
 refine⟨fun b k cs hro=>?_,fun b k cs hro _ _=>?_⟩
 ·obtain⟨e,a',w',hq,harr⟩:=key b k cs hro
  exact⟨e,a',w',hq,.of_steps (.one (xw _) stepR_inLoop) harr⟩
 ·obtain⟨e,a',w',hq,harr⟩:=key b k cs hro
  exact⟨e,a',w',hq,.of_steps (.one (xw _) stepR_loop) harr⟩
def Exit.scope (ro:Option Nat) (P:Program) (body:Code) (Q:Exit→Act→World→Prop):Exit→Act→World→Prop
 | .goto l,a,w=>match findLabel body l with
  | some rest=>tx ro P body rest Q a w
  | none=>Q (.goto l) a w
 | e,a,w=>Q e a w
theorem Yt {body cur:Code}(h:cur.wpIn (FR ro) 0 P (Exit.scope ro P body Q) a w):tx ro P body cur Q a w:=by
 intro b k cs hro
 obtain⟨e,a₁,w₁,hq,harr⟩:=h b (.inScope body::k) cs hro trivial (S3 _ _)
 cases e with
 | normal=>exact⟨.normal,a₁,w₁,hq,StepsIn.trans harr (.one (xw _) (step_lone_go (by simp[stepG,stepG.exec,Frame.atR])))⟩
 | exit id =>
  have hx:exitTo id (.inScope body::k)=exitTo id k:=by simp[exitTo]
  exact⟨_,a₁,w₁,hq,fun k' hk=>harr.1 k' (by rw[hx];exact hk),fun hr hk=>harr.2 hr (by rw[hx];exact hk)⟩
 | goto l =>
  have hx:gotoIn l (.inScope body::k)=match findLabel body l with | some rest=>some (.code rest::.inScope body::k) | none=>gotoIn l k:=by
   simp only[gotoIn];cases findLabel body l<;>rfl
  simp only[Exit.scope]at hq
  cases hf:findLabel body l with
  | some rest =>
   rw[hf]at hq hx
   obtain⟨e₂,a₂,w₂,hq₂,harr₂⟩:=hq b k cs hro
   exact⟨e₂,a₂,w₂,hq₂,.of_steps (harr.1 _ hx) harr₂⟩
  | none =>
   rw[hf]at hq hx
   exact⟨_,a₁,w₁,hq,fun k' hk=>harr.1 k' (by rw[hx];exact hk),fun hr hk=>harr.2 hr (by rw[hx];exact hk)⟩
 | ret=>exact⟨_,a₁,w₁,hq,harr⟩
 | panic ch=>exact⟨_,a₁,w₁,hq,harr⟩
 | outgrown=>exact⟨_,a₁,w₁,hq,harr⟩
theorem acp {body:Code}(h:tx ro P body body Q a w):(Code.scope body).wpIn (FR ro) 0 P Q a w:=by
 intro b k cs hro _ _
 obtain⟨e,a',w',hq,harr⟩:=h b k cs hro
 exact⟨e,a',w',hq,.of_steps (.one (xw _) (step_lone_go (by simp[stepG,stepG.exec,Frame.atR]))) harr⟩
end
theorem acC {P:Program}{n:Nat}{v:VC}{c:Code}(h:Mt P n v c) (l:Nat) :
  match ja v l with
  | some x=>∃ y,findLabel c l=some y∧Mt P n x y
  | none=>findLabel c l=none:=by
 have hgh:∀ {a:VC},jV a=true→ja a l=none:=by
  intro a
  induction a with
  | seq a b iha ihb =>
   intro h
   simp only[jV,Bool.and_eq_true]at h
   simp only[ja,iha h.1,ihb h.2]
  | _=>intro h;simp[jV,ja]at h⊢
 induction h with
 | ghostL h1 h2 ih=>simp only[ja,hgh h1];exact ih
 | @ghostR a b c h1 h2 ih =>
  simp only[ja,hgh h1]
  cases hf:ja a l with
  | none=>simp only[hf]at ih⊢;exact ih
  | some x =>
   simp only[hf]at ih⊢
   obtain⟨y,hy,hm⟩:=ih
   exact⟨y,hy,.ghostR h1 hm⟩
 | @seq a b c d h1 h2 ih1 ih2 =>
  simp only[ja]
  cases hf:ja a l with
  | some x =>
   simp only[hf]at ih1⊢
   obtain⟨y,hy,hm⟩:=ih1
   exact⟨.seq y d,by simp[findLabel,hy],.seq hm h2⟩
  | none =>
   simp only[hf]at ih1⊢
   cases hf2:ja b l with
   | some x =>
    simp only[hf2]at ih2⊢
    obtain⟨y,hy,hm⟩:=ih2
    exact⟨y,by simp[findLabel,ih1,hy],hm⟩
   | none =>
    simp only[hf2]at ih2⊢
    simp[findLabel,ih1,ih2]
 | @label k =>
  simp only[ja,findLabel]
  by_cases e:k=l
  ·subst e;simp[Mt.skip]
  ·have:Nat.beq k l=false:=by rw[←Bool.not_eq_true,Nat.beq_eq];exact e
   have e2:(k == l)=false:=by simpa using e
   simp[this,e2]
 | _=>simp[ja,findLabel]
end Go.Vm
namespace Go.Vm
section
variable {P:Program}{g:Gh}{w:World}{t:Array Value}{O:Nat→Nat}{st st':St}{a:AV}{o:Oper}{r:br}
theorem VU:∀ {vs:List AV}{i:Nat},∀ p∈dK i vs,i≤p.1
 | [],_,p,hp=>by simp[dK]at hp
 | v::vs,i,p,hp=>by
  simp only[dK]at hp
  rcases SM hp with rfl | hp
  ·exact Nat.le_refl _
  ·have:=VU p hp;omega
theorem Ea:∀ (vs:List AV) (i:Nat),aX (dK i vs)
 | [],_=>List.Pairwise.nil
 | v::vs,i=>(Ea vs (i+1)).put _ _
theorem aaU {t:Array Value}{i:Nat}{x:Value}(h:t[i]?=some x):i<t.size:=by
 rcases Nat.lt_or_ge i t.size with h' | h'
 ·exact h'
 ·rw[Array.getElem?_eq_none h']at h;simp at h
theorem To {t:Array Value}:∀ {vs:List AV}{xs:List Value}{i:Nat}{Ov:Nat→Nat},ai g w vs xs Ov→(∀ (j:Nat) (x:Value),xs[j]?=some x→t[i+j]?=some x)→eO g w (dK i vs) t Ov
 | [],xs,i,Ov,rv,_=>by simp only[ai]at rv;exact rv.2
 | v::vs,xs,i,Ov,rv,ht=>by
  simp only[ai]at rv
  obtain⟨x,ys,O1,O2,rfl,r1,r2,hs⟩:=rv
  have h0:t[i]?=some x:=ht 0 x rfl
  have rr:=To (t:=t) (i:=i+1) r2 fun j y hj=>by have:=ht (j+1) y (by simpa using hj);rw[←this];congr 1;omega
  rw[←jr (l:=dK (i+1) vs) (i:=i) fun p hp=>by have:=VU p hp;omega]at rr
  obtain⟨O,ro,ho⟩:=RL.put (Ea vs (i+1)) rr (i:=i) (x:=v) (O1:=O1) ⟨aaU h0,by rw[Array.getD_eq_getD_getElem?,h0];exact r1⟩
  have e:O=Ov:=funext fun b=>by rw[ho b,hs b]
  exact e▸ro
theorem agU {args:List AV}{hs:HS}{xs:List Value}{Oa Oh:Nat→Nat}(rv:ai g w args xs Oa) (sh:S P g w ⟨[],hs⟩ #[] Oh) (hle:∀ b,Oa b+Oh b≤1) (hhi:∀ b,Oa b≠0→b<w.heap.size) (n:Nat) :
  S P g w ⟨dK 0 args,hs⟩ (xs.toArray++Array.replicate n undef) fun b=>Oa b+Oh b:=by
 refine S.join (Ea _ _) (To rv fun j x hj=>?_) sh hle hhi
 have hlt:=ef hj
 rw[Nat.zero_add,Array.getElem?_append_left (by simpa using hlt)]
 simpa using hj
theorem az.deferBlk {b:Nat}{ds ds':Option (List Deferred)}(hb:w.heap[b]?=some (.deferred ds)):az g w g (Vm.setBlk w b (.deferred ds')) fun x=>x=b where
 obj _ _ h:=⟨h,rfl,rfl,rfl⟩
 pm b' o h:=⟨h,by
  by_cases e:b'=b
  ·subst e
   simp only[World.cell?,hb,bX (ba hb)]
  ·exact fh (dq e) o⟩
 blk b' _ h:=⟨dq h,fun _ h=>h⟩
 size:=by simp
 lp b' r h:=⟨r,by rw[dq (by rintro rfl;rw[hb]at h;simp at h)];exact h⟩
 same:=⟨rfl,rfl,mQ hb (by intro off;simp[cY]) (by intro off;simp[cY])⟩
theorem wC {b:Nat}(h:w.heap[b]?=some (.deferred (some []))):(Instr.takeDeferred b).run P w=.ok [] (setBlk w b (.deferred none)):=by
 simp[Instr.takeDeferred,getObj,setObj,Sem.run,Sem.run_bind,h,setBlk]
theorem MD {ro:Option Nat}{fn:Func}{tmps:Array Value}{R:Ending→World→Prop}{lo:Nat}:∀ {ms:List Deferred}{w:World},dV w O lo ms→S P g w st t O→
  (∀ w',S P g w' st t O→az g w g w' (fun b=>lo≤b)→∃ v,(results fn tmps).run P w'=.ok v w'∧R (.returned v) w')→LeavesInM (FR ro) 0 P fn tmps R ms .returning w
 | [],w,_,s,h=>h w s (.refl _ _ _)
 | d::ds,w,⟨⟨r,h1,h2,h3,h4,h5⟩,h6⟩,s,h=>by
  refine⟨by simp,.inl ⟨r,setBlk w r (.deferred none),h1,wC h3,?_⟩⟩
  have hx:az g w g (setBlk w r (.deferred none)) fun x=>x=r:=az.deferBlk h3
  have hm:dV (setBlk w r (.deferred none)) O lo ds:=by
   clear h
   have:∀ {es:List Deferred},(∀ d'∈es,∀ r',d'.target=.collected r'→r'<r)→dV w O lo es→dV (setBlk w r (.deferred none)) O lo es:=by
    intro es
    induction es with
    | nil=>exact fun _ _=>trivial
    | cons e es ih =>
     rintro hlt ⟨⟨q,k1,k2,k3,k4,k5⟩,k6⟩
     have:=hlt e (.head _) q k1
     exact⟨⟨q,k1,k2,by rw[dq (by omega)];exact k3,k4,k5⟩,ih (fun d' hd'=>hlt d' (.tail _ hd')) k6⟩
   exact this h5 h6
  exact MD hm (s.otherG hx h4) fun w' s' hx'=>h w' s' ((hx.mono (T:=fun b=>lo≤b) fun b _ e=>by rw[e];exact h2).trans hx' fun _ _ h=>h)
def OR (t:Array Value):ResultVar→Sem Value
 | .tmp i=>pure (t.getD i undef)
 | .cell i ty=>do loadVar ty (←asAddr (t.getD i undef))
theorem NG (fn:Func) (t:Array Value):results fn t=(do let vs←fn.results.mapM (OR t);pure (if h:vs.size=1 then vs[0] else .tuple vs)):=by
 unfold results
 congr 1
theorem Yc {α:Type}{f:α→Sem Value}{l:Array α}{xs:List Value}(h:(l.toList.mapM f).run P w=.ok xs w):(l.mapM f).run P w=.ok xs.toArray w:=by
 rw[Array.mapM_eq_mapM_toList]
 simp[h]
theorem sR:∀ {vr:List kj}{fr:List ResultVar},fA P vr fr=true→∀ {st st':St}{O:Nat→Nat}{vs:List AV},co st vr=some (vs,st')→S P g w st t O→
  ∃ xs:List Value,∃ Ov O',(fr.mapM (OR t)).run P w=.ok xs w∧ai g w vs xs Ov∧S P g w st' t O'∧(∀ b,Ov b+O' b≤O b)∧
   xs.length=fr.length
 | [],[],_,st,st',O,vs,h,s=>by
  simp only[co,Option.some.injEq,Prod.mk.injEq]at h
  obtain⟨rfl,rfl⟩:=h
  exact⟨[],zero,O,by simp,by simp[ai],s,fun b=>by simp,rfl⟩
 | .tmp i::vr,.tmp j::fr,hc,st,st',O,vs,h,s=>by
  simp only[fA,Bool.and_eq_true,Nat.beq_eq]at hc
  obtain⟨rfl,hc⟩:=hc
  simp only[co]at h
  split at h
  ·rename_i v hv
   split at h
   ·rename_i us ae hr
    simp only[Option.some.injEq,Prod.mk.injEq]at h
    obtain⟨rfl,rfl⟩:=h
    obtain⟨O1,O2,_,rv,s2,l2⟩:=s.pull hv
    obtain⟨xs,O3,O4,hrun,rvs,s4,l4,hlen⟩:=sR hc hr s2
    refine⟨t.getD i undef::xs,fun b=>O1 b+O3 b,O4,?_,?_,s4,fun b=>by have:=l2 b;have:=l4 b;show O1 b+O3 b+O4 b≤O b;omega,by simp[hlen]⟩
    ·simp only[List.mapM_cons,Sem.run_bind,OR,Sem.run_pure,Result.andThen_ok,hrun]
    ·simp only[ai];exact⟨_,_,O1,O3,rfl,rv,rvs,fun _=>rfl⟩
   ·simp at h
  ·simp at h
 | .cell i n::vr,.cell j ty::fr,hc,st,st',O,vs,h,s=>by
  simp only[fA,Bool.and_eq_true,Nat.beq_eq]at hc
  obtain⟨⟨rfl,hty⟩,hc⟩:=hc
  simp only[co]at h
  split at h
  ·rename_i id hv
   split at h
   ·rename_i v h' hl
    split at h
    ·rename_i us ae hr
     simp only[Option.some.injEq,Prod.mk.injEq]at h
     obtain⟨rfl,rfl⟩:=h
     obtain⟨O0,O00,_,rp,_,_⟩:=s.pull hv
     simp only[RV]at rp
     obtain⟨⟨b,hob,hp⟩,_⟩:=rp
     obtain⟨x,O1,O2,hrun1,rv,s2,l2⟩:=M7 hty s hob hl
     obtain⟨O5,s5,l5⟩:=s2.delEnv i
     obtain⟨O6,s6,l6⟩:=s5.delHeap id
     obtain⟨xs,O3,O4,hrun,rvs,s4,l4,hlen⟩:=sR hc hr s6
     refine⟨x::xs,fun b=>O1 b+O3 b,O4,?_,?_,s4,fun b=>by have:=l2 b;have:=l4 b;have:=l5 b;have:=l6 b;show O1 b+O3 b+O4 b≤O b;omega,by simp[hlen]⟩
     ·rw[List.mapM_cons]
      simp only[Sem.run_bind,OR,hp,asAddr,Sem.run_pure,Result.andThen_ok,hrun1,hrun]
     ·simp only[ai];exact⟨_,_,O1,O3,rfl,rv,rvs,fun _=>rfl⟩
    ·simp at h
   ·simp at h
  ·simp at h
 | [],_::_,hc,_,_,_,_,_,_=>by simp[fA]at hc
 | _::_,[],hc,_,_,_,_,_,_=>by simp[fA]at hc
 | .tmp _::_,.cell _ _::_,hc,_,_,_,_,_,_=>by simp[fA]at hc
 | .cell _ _::_,.tmp _::_,hc,_,_,_,_,_,_=>by simp[fA]at hc
theorem Wb {vf:af}{fn:Func}(hc:fA P vf.results fn.results.toList=true) {v:AV}{hs':HS}(h:uk vf st=some (v,hs')) (s:S P g w st t O) :
  ∃ x Ov Oh,(results fn t).run P w=.ok x w∧RV g w v x Ov∧S P g w ⟨[],hs'⟩ #[] Oh∧∀ b,Ov b+Oh b≤O b:=by
 unfold uk at h
 split at h
 ·rename_i v1 ae hr
  simp only[Option.some.injEq,Prod.mk.injEq]at h
  obtain⟨rfl,rfl⟩:=h
  obtain⟨xs,Ov,O',hrun,rvs,s',l,hlen⟩:=sR hc hr s
  simp only[ai]at rvs
  obtain⟨x,ys,O1,O2,rfl,rv,⟨rfl,_⟩,hs2⟩:=rvs
  obtain⟨Oe,Oh,_,sh,ho⟩:=s'.split
  refine⟨x,O1,Oh,?_,rv,sh,fun b=>by have:=l b;have:=ho b;have:=hs2 b;omega⟩
  rw[NG,Sem.run_bind,Yc hrun]
  simp
 ·rename_i vs ae hne hr
  simp only[Option.some.injEq,Prod.mk.injEq]at h
  obtain⟨rfl,rfl⟩:=h
  obtain⟨xs,Ov,O',hrun,rvs,s',l,hlen⟩:=sR hc hr s
  obtain⟨Oe,Oh,_,sh,ho⟩:=s'.split
  refine⟨.tuple xs.toArray,Ov,Oh,?_,by simp only[RV];exact⟨xs.toArray,rfl,rvs⟩,sh,fun b=>by have:=l b;have:=ho b;omega⟩
  have hl1:xs.length≠1:=by
   intro h1
   have h2:=rvs.length
   rw[h1]at h2
   match vs,h2 with
   | [v],_=>exact hne v rfl
  rw[NG,Sem.run_bind,Yc hrun]
  simp[hl1]
 ·simp at h
end
end Go.Vm
namespace Go.Vm
section
variable {P:Program}{g:Gh}{w:World}{t:Array Value}{O:Nat→Nat}{st st':St}{a:AV}{o:Oper}{r:br}
theorem iK {ro:Option Nat}{ops:Array Oper}{Q:Exit→Act→World→Prop}{i:Nat}{rest:List Nat}{ds:List Deferred}{v:Value}{w':World}(h:ops[i]?=some o) (hg:o.guard=none)
  (hd:∀ c,o.op≠.defer c) (hrun:(execOp (ev t) o).run P w=.ok (.value v) w') (hk:wpOpsIn (FR ro) 0 P ops Q rest ⟨jJ t o.dst v,ds⟩ w'):wpOpsIn (FR ro) 0 P ops Q (i::rest) ⟨t,ds⟩ w:=by
 simp only[wpOpsIn,h]
 rw[if_pos (by simp[Region.wanted,hg])]
 refine⟨fun _ _=>trivial,?_⟩
 rw[A8 _ _ hd,hrun,Oper.uponIn_value,Mx]
 exact hk
theorem lC {d:Nat}(h:yc o d=true):o.dst=some d∧o.guard=none:=by
 simp only[yc,Bool.and_eq_true]at h
 obtain⟨h1,h2⟩:=h
 split at h1
 ·rename_i e he;rw[Nat.beq_eq]at h1;subst h1;exact⟨he,Option.isNone_iff_eq_none.1 h2⟩
 ·simp at h1
theorem LX {x:Operand}(h:M6 x=true):x=.const (.slice none 0 0):=by
 unfold M6 at h;split at h
 ·rfl
 ·simp at h
theorem jy {i:Nat}{x:Operand}(h:sN i x=true):x=.tmp i:=by
 unfold sN at h;split at h
 ·rw[Nat.beq_eq]at h;subst h;rfl
 ·simp at h
theorem amU {α:Type}{r:Array α}{x:α}(h:r.toList=[x]):r=#[x]:=by
 apply Array.ext';simpa using h
theorem Nf {d:Nat}{r:Array Oper}(h:Mb d r.toList=true):∃ o,r=#[o]∧o.dst=some d∧o.guard=none∧o.op=.assign (.const (.slice none 0 0)):=by
 unfold Mb at h
 split at h
 ·rename_i o e
  simp only[Bool.and_eq_true]at h
  obtain⟨h1,h2⟩:=h
  obtain⟨k1,k2⟩:=lC h1
  split at h2
  ·rename_i x hx
   exact⟨o,by apply Array.ext';rw[e],k1,k2,by rw[hx,LX h2]⟩
  ·simp at h2
 ·simp at h
theorem abb {m:Nat}{r:Array Oper}(h:WW P m r.toList=true):∃ a b T u,r=#[a,b]∧a.dst=some 3∧a.guard=none∧a.op=.move (.tmp 0)∧b.dst=some 4∧b.guard=none∧
  b.op=.binOp .eql T (.tmp 3) (.const (.slice none 0 0)) u∧dC P T m=true:=by
 unfold WW at h
 split at h
 ·rename_i a b e
  simp only[Bool.and_eq_true]at h
  obtain⟨⟨⟨h1,h2⟩,h3⟩,h4⟩:=h
  obtain⟨k1,k2⟩:=lC h1
  obtain⟨k3,k4⟩:=lC h3
  split at h2
  ·rename_i x hx
   split at h4
   ·rename_i T y z u hb
    simp only[Bool.and_eq_true]at h4
    obtain⟨⟨q1,q2⟩,q3⟩:=h4
    exact⟨a,b,T,u,by apply Array.ext';rw[e],k1,k2,by rw[hx,jy h2],k3,k4,by rw[hb,jy q2,LX q3],q1⟩
   ·simp at h4
  ·simp at h2
 ·simp at h
theorem aaR {m:Nat}{r:Array Oper}(h:W1 P m r.toList=true):∃ a b c d T ats e',r=#[a,b,c,d]∧a.dst=some 5∧a.guard=none∧a.op=.buildSlice T 0 #[]∧dC P T m=true∧
  b.dst=some 6∧b.guard=none∧b.op=.move (.tmp 0)∧c.dst=some 7∧c.guard=none∧c.op=.call ⟨.builtin .append,#[.tmp 5,.tmp 6],ats⟩∧ats=#[iS ⟨.builtin .append,#[.tmp 5,.tmp 6],ats⟩,ats.getD 1 0]∧
  dC P (iS ⟨.builtin .append,#[.tmp 5,.tmp 6],ats⟩) m=true∧f6 P (iS ⟨.builtin .append,#[.tmp 5,.tmp 6],ats⟩) m=true∧P.underlying (ats.getD 1 0)=some (.slice e')∧
  d.dst=some 2∧d.guard=none∧d.op=.assign (.tmp 7):=by
 unfold W1 at h
 split at h
 ·rename_i a b c d e
  simp only[Bool.and_eq_true]at h
  obtain⟨⟨⟨⟨⟨⟨⟨h1,h2⟩,h3⟩,h4⟩,h5⟩,h6⟩,h7⟩,h8⟩:=h
  obtain⟨k1,k2⟩:=lC h1
  obtain⟨k3,k4⟩:=lC h3
  obtain⟨k5,k6⟩:=lC h5
  obtain⟨k7,k8⟩:=lC h7
  split at h2
  ·rename_i T ps hops
   simp only[Bool.and_eq_true]at h2
   have hps:ps=#[]:=by simpa using h2.2
   split at h4
   ·rename_i x hx
    split at h6
    ·rename_i k hk
     obtain⟨callee,args,ats⟩:=k
     simp only[Bool.and_eq_true]at h6
     obtain⟨⟨⟨⟨⟨q1,q2⟩,q3⟩,q4⟩,q5⟩,q6⟩:=h6
     have:=iL q1;subst this
     split at q6
     ·rename_i y z hargs
      simp only[Bool.and_eq_true]at q6
      have e1:=jy q6.1
      have e2:=jy q6.2
      subst e1 e2
      have:args=#[.tmp 5,.tmp 6]:=by apply Array.ext';rw[hargs]
      subst this
      split at q5
      ·rename_i e' he'
       split at h8
       ·rename_i u hu
        exact⟨a,b,c,d,T,ats,e',by apply Array.ext';rw[e],k1,k2,by rw[hops,hps],h2.1,k3,k4,by rw[hx,jy h4],k5,k6,hk,xr q2,q3,q4,he',k7,k8,by rw[hu,jy h8]⟩
       ·simp at h8
      ·simp at q5
     ·simp at q6
    ·simp at h6
   ·simp at h4
  ·simp at h2
 ·simp at h
theorem eu {i j:Nat}{v:Value}(h:j<t.size):(t.setIfInBounds i v).getD j undef=if i=j then v else t.getD j undef:=by
 simp only[Array.getD_eq_getD_getElem?,Array.getElem?_setIfInBounds]
 by_cases e:i=j
 ·subst e;simp[h]
 ·simp[e]
theorem abe {m:Nat}{c:Code}(hc:Bs P m c=true) {out:aT}(h:FC m st=some (out,st')) (ht:8≤t.size) (s:S P g w st t O) :
  c.wpIn (FR none) 0 P (aK P g w t O [] none out st') ⟨t,[]⟩ w:=by
 unfold Bs at hc
 split at hc
 ·rename_i i0 r0 i1 r1 i2 r2 i3 r3
  simp only[Bool.and_eq_true]at hc
  obtain⟨⟨⟨c0,c1⟩,c2⟩,c3⟩:=hc
  obtain⟨o0,rfl,d0,gd0,p0⟩:=Nf c0
  obtain⟨o1,o2,T,u,rfl,d1,gd1,p1,d2,gd2,p2,hT⟩:=abb c1
  obtain⟨o3,rfl,d3,gd3,p3⟩:=Nf c2
  obtain⟨o4,o5,o6,o7,T4,ats,e',rfl,d4,gd4,p4,hT4,d5,gd5,p5,d6,gd6,p6,hats,hT6,hz6,hu1,d7,gd7,p7⟩:=aaR c3
  unfold FC at h
  split at h
  ·rename_i v hv
   split at h
   ·rename_i xs hxs
    split at h
    ·rename_i hb
     simp only[Bool.and_eq_true,Nat.ble_eq]at hb
     obtain⟨hok,hmost⟩:=hb
     simp only[Option.some.injEq,Prod.mk.injEq]at h
     obtain⟨rfl,rfl⟩:=h
     have hl:=yq hok
     obtain⟨Ov,O1,h0t,rv,s1,l1⟩:=s.pull hv
     obtain⟨ad,cap,news0,hx,hels0⟩:=ox s hxs hl rv
     obtain⟨Oe,Oh,_,sh,ho⟩:=s.split
     generalize hX:t.getD 0 undef=X at *
     obtain⟨el,hu,hsz,hm,hby⟩:=cQ hT
     have fin:∀ (t':Array Value) (w':World) (g':Gh) (Or O':Nat→Nat),t'.size=t.size→RV g' w' (.own true m xs) (t'.getD 2 undef) Or→S P g' w' ⟨[],st.hs⟩ #[] O'→az g w g' w' (fun b=>O b≠0)→
       (∀ b,Or b+O' b≤1)→(∀ b,b<w.heap.size→Or b+O' b≤O b)→(∀ b,Or b≠0→b<w'.heap.size)→aK P g w t O [] none .ret ⟨[(2,.own true m xs)],st.hs⟩ .ret ⟨t',[]⟩ w':=by
      intro t' w' g' Or O' hsz' rv' s' hx' hle hold hhi
      refine⟨rfl,g',fun b=>Or b+O' b,[],⟨S.join (by simp[aX]) ⟨Or,zero,⟨by show 2<t'.size;omega,rv'⟩,fun _=>rfl,fun b=>by simp⟩ s' hle hhi,hx',hold,hsz'⟩,rfl,trivial,fun _=>rfl⟩
     have nodef:∀ {op:Op}{op':Op},op=op'→(∀ c,op'≠.defer c)→∀ c,op≠.defer c:=fun e h c e2=>h c (e▸e2)
     refine wpIn_seq (wpIn_region ?_)
     show wpOpsIn _ _ _ _ _ [0] _ _
     refine iK (o:=o0) (v:=.slice none 0 0) (w':=w) rfl gd0 (nodef p0 (by simp)) (by simp[execOp,p0,ev]) ?_
     refine wpIn_seq (wpIn_seq (wpIn_region ?_))
     show wpOpsIn _ _ _ _ _ [0,1] _ _
     have hev0:ev (jJ t (some 2) (.slice none 0 0)) (.tmp 0)=X:=by
      show (t.setIfInBounds 2 _).getD 0 undef=X
      rw[eu (by omega),if_neg (by omega),hX]
     rw[d0]
     refine iK (o:=o1) (v:=X) (w':=w) rfl gd1 (nodef p1 (by simp)) (by simp[execOp,p1,hev0]) ?_
     rw[d1]
     generalize ht2:jJ (jJ t (some 2) (.slice none 0 0)) (some 3) X=t2
     have hs2:t2.size=t.size:=by rw[←ht2,gD,gD]
     have hev3:ev t2 (.tmp 3)=X:=by
      rw[←ht2]
      show ((jJ t (some 2) (.slice none 0 0)).setIfInBounds 3 X).getD 3 undef=X
      rw[eu (by rw[gD];omega),if_pos rfl]
     have heq:(Op.equal T X (.slice none 0 0)).run P w=.ok ad.isNone w:=by
      show (Op.equalIn (9999+1) T X (.slice none 0 0)).run P w=_
      rw[hx]
      unfold Op.equalIn
      rw[Sem.run_bind,ak hu]
      cases ad<;>simp
     have hguard:(eqGuard .eql T (.tmp 3) (.const (.slice none 0 0)) X (.slice none 0 0)).run P w=.ok () w:=by
      rw[hx];unfold eqGuard;simp
     refine iK (o:=o2) (v:=.bool ad.isNone) (w':=w) rfl gd2 (nodef p2 (by simp)) ?_ ?_
     ·simp only[execOp,p2,hev3]
      have hc:ev t2 (.const (.slice none 0 0))=.slice none 0 0:=rfl
      rw[hc,Sem.run_bind,Sem.run_bind,hguard]
      have hbin:(binOp .eql T X (.slice none 0 0)).run P w=.ok (.bool ad.isNone) w:=by
       rw[hx]
       rw[hx]at heq
       show ((do pure (.bool (←Op.equal T (.slice ad xs.length cap) (.slice none 0 0))):Sem Value)).run P w=_
       rw[Sem.run_bind,heq];rfl
      simp only[Result.andThen_ok,hbin,Sem.run_pure]
     ·rw[d2]
      generalize ht3:jJ t2 (some 4) (.bool ad.isNone)=t3
      have hs3:t3.size=t.size:=by rw[←ht3,gD,hs2]
      have hev4:ev t3 (.tmp 4)=.bool ad.isNone:=by
       rw[←ht3]
       show (t2.setIfInBounds 4 _).getD 4 undef=_
       rw[eu (by omega),if_pos rfl]
      have hev03:ev t3 (.tmp 0)=X:=by
       rw[←ht3,←ht2]
       show (((t.setIfInBounds 2 _).setIfInBounds 3 _).setIfInBounds 4 _).getD 0 undef=X
       rw[eu (by simp;omega),if_neg (by omega),eu (by simp;omega),if_neg (by omega),eu (by omega),if_neg (by omega),hX]
      show (Code.cond (.tmp 4) (.seq (.region i2 #[o3] false) .ret) .skip).wpIn (FR none) 0 P _ ⟨t3,[]⟩ w
      cases had:ad with
      | none =>
       refine wpIn_cond_true (by rw[u5,hev4,had];rfl) (wpIn_seq (wpIn_region ?_))
       show wpOpsIn _ _ _ _ _ [0] _ _
       refine iK (o:=o3) (v:=.slice none 0 0) (w':=w) rfl gd3 (nodef p3 (by simp)) (by simp[execOp,p3,ev]) (wpIn_ret ?_)
       rw[d3]
       have hnil:xs=[]:=List.eq_nil_of_length_eq_zero (hels0.nn had)
       refine fin _ w g zero Oh (by rw[gD,hs3]) ?_ sh (.refl _ _ _) (fun b=>by have:=ho b;have:=s.le b;simp;omega) (fun b _=>by have:=ho b;simp;omega) (fun b hb=>by simp at hb)
       have:(jJ t3 (some 2) (.slice none 0 0)).getD 2 undef=.slice none 0 0:=by
        show (t3.setIfInBounds 2 _).getD 2 undef=_
        rw[eu (by omega),if_pos rfl]
       rw[this,hnil]
       simp only[RV,li]
       exact .inl ⟨trivial,fun _=>trivial,none,rfl⟩
      | some ad' =>
       refine wpIn_cond_false (by rw[u5,hev4,had];rfl) (wpIn_skip ?_)
       refine wpIn_seq (wpIn_region ?_)
       show wpOpsIn _ _ _ _ _ [0,1,2,3] _ _
       obtain⟨el4,hu4,hsz4,hm4,hby4⟩:=cQ hT4
       have hbuild:(Instr.buildSlice T4 0 #[]).run P w=.ok (.slice (some ⟨w.heap.size,0,none⟩) 0 0) (w.alloc (.cells #[] el4)):=by
        have hr:∀ f:Nat→Value,(Array.range (0*m)).map f=#[]:=by
         intro f
         apply Array.eq_empty_of_size_eq_zero
         simp
        simp only[Instr.buildSlice,ak hu4,bT hsz4,Sem.run_bind,Result.andThen_ok,Sem.run_ite,hr,Instr.fill,Nat.zero_mul,if_true,Sem.run_pure]
        have hr0:∀ f:Nat→Value,(Array.range 0).map f=#[]:=by
         intro f
         apply Array.eq_empty_of_size_eq_zero
         simp
        simp[newRow,hr0,Instr.fill]
       refine iK (o:=o4) (v:=.slice (some ⟨w.heap.size,0,none⟩) 0 0) (w':=w.alloc (.cells #[] el4)) rfl gd4 (nodef p4 (by simp)) (by simp[execOp,p4,hbuild]) ?_
       rw[d4]
       generalize ht5:jJ t3 (some 5) (.slice (some ⟨w.heap.size,0,none⟩) 0 0)=t5
       have hs5:t5.size=t.size:=by rw[←ht5,gD,hs3]
       have hev05:ev t5 (.tmp 0)=X:=by
        rw[←ht5]
        show (t3.setIfInBounds 5 _).getD 0 undef=X
        rw[eu (by omega),if_neg (by omega)]
        exact hev03
       refine iK (o:=o5) (v:=X) (w':=w.alloc (.cells #[] el4)) rfl gd5 (nodef p5 (by simp)) (by simp[execOp,p5,hev05]) ?_
       rw[d5]
       generalize ht6:jJ t5 (some 6) X=t6
       have hs6:t6.size=t.size:=by rw[←ht6,gD,hs5]
       have hev66:ev t6 (.tmp 6)=X:=by
        rw[←ht6]
        show (t5.setIfInBounds 6 _).getD 6 undef=X
        rw[eu (by omega),if_pos rfl]
       have hev65:ev t6 (.tmp 5)=.slice (some ⟨w.heap.size,0,none⟩) 0 0:=by
        rw[←ht6,←ht5]
        show ((t3.setIfInBounds 5 _).setIfInBounds 6 _).getD 5 undef=_
        rw[eu (by simp;omega),if_neg (by omega),eu (by omega),if_pos rfl]
       have hx1:az g w g (w.alloc (.cells #[] el4)) fun _=>False:=az.alloc s.pmlt _ _
       have hpl:∀ b o,g.pm b o→b<(w.alloc (.cells #[] el4)).heap.size:=fun b o h=>Nat.lt_of_lt_of_le (s.pmlt b o h) hx1.size
       have sx:=s.extF hx1 rfl hpl
       have shx:=sh.extF hx1 rfl hpl
       have rvx:=RV.ext hx1 _ _ _ rv (by simp)
       obtain⟨ad2,cap2,news,hxx,hels⟩:=ox sx hxs hl rvx
       rw[hx,had]at hxx
       simp only[Value.slice.injEq,true_and]at hxx
       obtain⟨rfl,rfl⟩:=hxx
       obtain⟨el6,hu6,hsz6,hm6,hby6⟩:=cQ hT6
       obtain⟨el6',i6,zv,hu6',hi,hz,hzs⟩:=jc hz6
       rw[hu6]at hu6'
       simp only[Option.some.injEq,TypeDesc.slice.injEq]at hu6'
       subst hu6'
       rw[yu hi]at hby6
       generalize iS ⟨.builtin .append,#[.tmp 5,.tmp 6],ats⟩=T0 at *
       generalize ats.getD 1 0=T1 at *
       have hsrc:Tk P (w.alloc (.cells #[] el4)) T1 X el6 m xs.length news:=by
        refine⟨hels.len,hels.one,.inl ⟨⟨e',hu1⟩,⟨ad,cap,hx⟩,fun w1 hw=>?_⟩⟩
        have:=hels.first (P:=P) (len:=xs.length) (cap:=cap) (Nat.le_refl _) hw
        rw[←hels.len,List.take_length,←had,←hx]at this
        exact this
       have hmost':xs.length≤4294967296:=hmost
       have hApp:kr P g (w.alloc (.cells #[] el4)) #[] Oh zero ⟨[],st.hs⟩ (.own true m xs) ((Builtin.append_ #[T0,T1] o6.type #[.slice (some ⟨w.heap.size,0,none⟩) 0 0,X]).run P (w.alloc (.cells #[] el4))):=by
        by_cases hxs0:xs.length=0
        ·have hnil:news=[]:=List.eq_nil_of_length_eq_zero (by rw[hels.len,hxs0];simp)
         have hxn:xs=[]:=List.eq_nil_of_length_eq_zero hxs0
         have hrun:=qg (P:=P) (w:=w.alloc (.cells #[] el4)) (ty:=o6.type) hu6 hi (BQ hsz6 hi) hm6 hby6 hmost' hsrc (base:=some ⟨w.heap.size,0,none⟩) (sLen:=0) (sCap:=0) (by omega)
         refine⟨.slice (some ⟨w.heap.size,0,none⟩) 0 0,w.alloc (.cells #[] el4),g,zero,Oh,?_,?_,shx,.refl _ _ _,fun b=>by have:=shx.le b;simp;omega,fun b _=>by simp,fun b hb=>by simp at hb⟩
         ·rw[hrun,hnil,hxs0];simp[storeCells]
         ·rw[hxn];simp only[RV,li];exact .inl ⟨trivial,fun _=>trivial,_,rfl⟩
        ·have:=IZ (Oa:=zero) (xs:=[]) (base:=some ⟨w.heap.size,0,none⟩) (sCap:=0) (olds:=[]) (ty:=o6.type) shx hu6 hi hz hzs (BQ hsz6 hi) hm6 hby6 hsrc hels.rd (fun e he=>by simp at he) hl (by simp)
          (fun j d h=>by simp at h) (fun w1 _=>ko m _ 0 0 w1) (by simpa using hmost') (by simp;omega)
         simpa using this
       obtain⟨vv,w2,g2,Or,O2,k1,k2,k3,k4,k5,k6,k7⟩:=hApp
       refine iK (o:=o6) (v:=vv) (w':=w2) rfl gd6 (nodef p6 (by simp)) ?_ ?_
       ·simp only[execOp,p6,resolve,Sem.run_bind,Sem.run_pure,Result.andThen_ok,invoke,builtin]
        have hargs:Array.map (ev t6) #[Operand.tmp 5,Operand.tmp 6]=#[.slice (some ⟨w.heap.size,0,none⟩) 0 0,X]:=by
         simp only[List.map_toArray,List.map_cons,List.map_nil,hev65,hev66]
        rw[hargs,hats,k1]
        simp
       ·rw[d6]
        generalize ht7:jJ t6 (some 7) vv=t7
        have hs7:t7.size=t.size:=by rw[←ht7,gD,hs6]
        have hev77:ev t7 (.tmp 7)=vv:=by
         rw[←ht7]
         show (t6.setIfInBounds 7 _).getD 7 undef=vv
         rw[eu (by omega),if_pos rfl]
        refine iK (o:=o7) (v:=vv) (w':=w2) rfl gd7 (nodef p7 (by simp)) (by simp[execOp,p7,hev77]) (wpIn_ret ?_)
        rw[d7]
        have hle1:w.heap.size≤(w.alloc (.cells #[] el4)).heap.size:=hx1.size
        refine fin _ w2 g2 Or O2 (by rw[gD,hs7]) ?_ k3 (((hx1.mono (T:=fun b=>O b≠0) fun _ _ h=>h.elim)).trans k4 fun b hb hq=>?_) k5 (fun b hb=>?_) k7
        ·have:(jJ t7 (some 2) vv).getD 2 undef=vv:=by
          show (t7.setIfInBounds 2 _).getD 2 undef=_
          rw[eu (by omega),if_pos rfl]
         rw[this];exact k2
        ·rcases hq with hq | hq
         ·exact absurd rfl hq
         ·have:=ho b;show O b≠0;omega
        ·have h6:Or b+O2 b≤0+Oh b:=k6 b (Nat.lt_of_lt_of_le hb hle1)
         have:=ho b;omega
    ·simp at h
   ·simp at h
  ·simp at h
 ·simp at hc
end
end Go.Vm
namespace Go.Vm
section
variable {r:br}
theorem wR {l:List (Nat×Nat)}(h:Au l=true):l=[]:=by
 cases l<;>simp_all [Au]
theorem BX {a:Bool}{F:List Nat}{i:VI}(h:kS a i=true) {e:am}{hs:HS}{ae:St}(hr:aF r a F i ⟨e,hs⟩=some ae):ae.hs=hs∧∀ hs',aF r a F i ⟨e,hs'⟩=some ⟨ae.env,hs'⟩:=by
 simp only[kS,Bool.and_eq_true,Bool.not_eq_true']at h
 obtain⟨⟨ha,hth⟩,hop⟩:=h
 have hth:=wR hth
 subst ha
 simp only[aF]at hr⊢
 have go:∀ ae,cR r i ⟨e,hs⟩=some ae→ae.hs=hs∧∀ hs',cR r i ⟨e,hs'⟩=some ⟨ae.env,hs'⟩:=by
  intro ae h
  unfold cR at h
  simp only[hth]at h
  split at h
  ·rename_i v st0 hv
   simp only[Option.some.injEq]at h;subst h
   obtain⟨q1,q2⟩:=aef hop hv
   refine⟨by cases i.dst<;>exact q1,fun hs'=>?_⟩
   unfold cR
   simp only[hth,q2 hs']
   cases i.dst<;>rfl
  ·simp at h
 unfold aS at hr
 cases hg:i.guard with
 | none =>
  rw[hg]at hr
  obtain⟨q1,q2⟩:=go _ hr
  exact⟨q1,fun hs'=>by unfold aS;rw[hg];exact q2 hs'⟩
 | some sw =>
  obtain⟨sl,want⟩:=sw
  rw[hg]at hr
  simp only at hr
  split at hr
  ·rename_i b hb
   split at hr
   ·rename_i hbw
    obtain⟨q1,q2⟩:=go _ hr
    exact⟨q1,fun hs'=>by unfold aS;rw[hg];simp only[hb,hbw];exact q2 hs'⟩
   ·rename_i hbw
    simp only[Option.some.injEq]at hr;subst hr
    exact⟨by cases i.dst<;>rfl,fun hs'=>by unfold aS;rw[hg];simp only[hb,hbw];cases i.dst<;>rfl⟩
  ·rename_i hb
   simp only[Option.some.injEq]at hr;subst hr
   exact⟨by cases i.dst<;>rfl,fun hs'=>by unfold aS;rw[hg];simp only[hb];cases i.dst<;>rfl⟩
  ·simp at hr
theorem J8 {i:VI}(h:ZI i=true):∃ R M,ei i=some (.q,R,M):=by
 unfold ZI at h
 split at h
 ·rename_i p hp;obtain⟨R,M⟩:=p;exact⟨R,M,hp⟩
 ·simp at h
theorem Jb {i:VI}(h:TZ i=true):∃ R M,ei i=some (.p,R,M):=by
 unfold TZ at h
 split at h
 ·rename_i p hp;obtain⟨R,M⟩:=p;exact⟨R,M,hp⟩
 ·simp at h
theorem xD {i:VI}(h:vV i=true):iZ i.op=.read:=by
 unfold vV at h
 split at h<;>simp_all
theorem acQ {i:VI}(h:XA i=true):iZ i.op=.take:=by
 unfold XA at h
 split at h<;>simp_all
theorem TN {i:VI}(h:Pm i=true):iZ i.op=.call:=by
 unfold Pm at h
 split at h<;>simp_all
theorem zG {a:Bool}{F:List Nat}{i:VI}(h:Lh a i=true) {e:am}{hs:HS}{ae:St}(hr:aF r a F i ⟨e,hs⟩=some ae):ae.hs=hs:=by
 simp only[Lh,Bool.and_eq_true,Bool.or_eq_true,Bool.not_eq_true']at h
 obtain⟨hq,hn⟩:=h
 obtain⟨R,M,hk⟩:=J8 hq
 have plain:aS r i ⟨e,hs⟩=some ae→ae.hs=hs:=fun h=>by
  obtain⟨ρ,τ,K,q1,_⟩:=ig hk e hs ae h
  rw[q1];exact K.2 hs
 cases a with
 | false=>exact plain hr
 | true =>
  have hn:=xD (hn.resolve_left (by simp))
  simp only[aF,kM,hn]at hr
  split at hr
  ·simp only[Option.some.injEq]at hr;subst hr;rfl
  ·simp at hr
theorem Gc {K:HK}{f:St→Option St}{R M:List Nat}(hl:FY K f R M) {e:am}(hsrt:aX e) {hs:HS}{ae:St}(hr:f ⟨e,hs⟩=some ae):∃ ρ τ,K hs ρ τ∧ae.hs=τ hs∧∀ hs',ρ hs'→f ⟨e,hs'⟩=some ⟨ae.env,τ hs'⟩:=by
 obtain⟨ρ,τ,k,q1,q2,q3,q4⟩:=hl e hs ae hr
 refine⟨ρ,τ,k,q1,fun hs' hρ=>?_⟩
 obtain⟨e1',p1,p2,p3⟩:=q4 e hs' (fun _ _=>rfl) hρ
 obtain⟨_,_,_,_,s2,_,_⟩:=hl e hs' _ p1
 rw[p1]
 congr 2
 refine j6 (s2 hsrt) (q2 hsrt) fun k=>?_
 by_cases hk:k∈M
 ·exact p3 k hk
 ·rw[p2 k hk,q3 k hk]
theorem acF {F F':List Nat}{u:VI}(hq:ZI u=true) (hn:vV u=true) {e:am}(hsrt:aX e) {hs:HS}{ae:St}(hr:aF r true F u ⟨e,hs⟩=some ae) :
  ∀ hs',bL (eh (fR u e) hs.heap) (eh (fR u e) hs'.heap)→aF r true F' u ⟨e,hs'⟩=some ⟨ae.env,hs'⟩:=by
 intro hs' hle
 obtain⟨R,M,hk⟩:=J8 hq
 have hn:=xD hn
 simp only[aF,kM,hn]at hr⊢
 split at hr
 ·rename_i st2 h2
  simp only[Option.some.injEq]at hr;subst hr
  obtain⟨ρ,τ,K,q1,q2⟩:=Gc (ig hk) hsrt h2
  rw[q2 ⟨eh (fR u e) hs'.heap,hs'.next⟩ (K.1 _ hle)]
 ·simp at hr
theorem abO {F:List Nat}{v:VI}(hn:Pm v=true) {e:am}{hs:HS}{ae:St}(hr:aF r true F v ⟨e,hs⟩=some ae):iQ F hs.heap ae.hs.heap=true:=by
 have hn:=TN hn
 simp only[aF,kM,hn]at hr
 split at hr
 ·split at hr
  ·rename_i h
   simp only[Option.some.injEq]at hr;subst hr
   exact h
  ·simp at hr
 ·simp at hr
theorem Yd {a:Bool}{F F':List Nat}{v:VI}{st ae:St}(hsub:∀ k∈F',k∈F) (hr:aF r a F v st=some ae):aF r a F' v st=some ae:=by
 cases a with
 | false=>exact hr
 | true =>
  simp only[aF,kM]at hr⊢
  split at hr
  ·rename_i hn
   split at hr
   ·rename_i st2 h2
    split at hr
    ·rename_i hs
     simp only[Tu hs hsub]
     exact hr
    ·simp at hr
   ·simp at hr
  ·exact hr
  ·exact hr
theorem aeg (a:Bool) (v:VI) (e:am) {F F':List Nat}(hsub:∀ k∈F',k∈F):∀ k∈eq a v e F',k∈eq a v e F:=by
 intro k hk
 unfold eq at hk⊢
 cases a with
 | false=>exact hsub k hk
 | true =>
  simp only at hk⊢
  split at hk
  ·rename_i hn
   rcases List.mem_append.1 hk with h | h
   ·exact List.mem_append_left _ h
   ·exact List.mem_append_right _ (hsub k h)
  ·exact hsub k hk
theorem agY (a:Bool) (v:VI) (e:am) (F:List Nat):∀ k∈F,k∈eq a v e F:=by
 intro k hk
 unfold eq
 cases a with
 | false=>exact hk
 | true =>
  simp only
  split
  ·exact List.mem_append_right _ hk
  ·exact hk
theorem I2 {nr:List Nat}{vs:List VI}:∀ {l:List Nat}{F F':List Nat}{st st':St},(∀ k∈F',k∈F)→ct r nr vs l F st=some st'→ct r nr vs l F' st=some st'
 | [],_,_,_,_,_,h=>h
 | i::l,F,F',st,st',hsub,h=>by
  simp only[ct]at h⊢
  split at h
  ·simp at h
  ·rename_i v hv
   split at h
   ·simp at h
   ·rename_i ae h1
    simp only[Yd hsub h1]
    exact I2 (aeg _ _ _ hsub) h
theorem aad {a:Bool}{F:List Nat}{v:VI}{e:am}{hs:HS}(hsrt:aX e) {R M:List Nat}(hf:a=false∨iZ v.op≠.read∨ei v=some (.q,R,M)) {ae:St}(hr:aF r a F v ⟨e,hs⟩=some ae):aS r v ⟨e,hs⟩=some ae:=by
 cases a with
 | false=>exact hr
 | true =>
  simp only[aF,kM]at hr
  split at hr
  ·split at hr
   ·rename_i h
    split at hr
    ·simp only[Option.some.injEq]at hr;subst hr;exact h
    ·simp at hr
   ·simp at hr
  ·split at hr
   ·rename_i h
    split at hr
    ·split at hr
     ·split at hr
      ·simp only[Option.some.injEq]at hr;subst hr;exact h
      ·simp at hr
     ·simp at hr
    ·simp at hr
   ·simp at hr
  ·rename_i hn
   split at hr
   ·rename_i st2 h
    simp only[Option.some.injEq]at hr;subst hr
    have hk:=(hf.resolve_left (by simp)).resolve_left (fun h=>h hn)
    obtain⟨ρ,τ,K,q1,q2⟩:=Gc (ig hk) hsrt h
    have:=q2 hs (K.1 _ (bL.only _ _))
    rw[K.2 hs]at this
    exact this
   ·simp at hr
theorem jP {a b:Bool}{u v:VI}(h:tg a b u v=true):∃ R1 M1 R2 M2,mO a u=some (R1,M1)∧mO b v=some (R2,M2)∧(∀ k∈M1,k∉R2∧k∉M2)∧∀ k∈M2,k∉R1∧k∉M1:=by
 unfold tg at h
 split at h
 ·rename_i R1 M1 R2 M2 e1 e2
  simp only[Bool.and_eq_true]at h
  obtain⟨⟨a1,a2⟩,a3⟩:=h
  exact⟨R1,M1,R2,M2,e1,e2,fun k hk=>⟨cb a1 k hk,cb a2 k hk⟩,fun k hk=>⟨cb a3 k hk,fun h=>cb a2 k h hk⟩⟩
 ·simp at h
theorem Ze {a:Bool}{v:VI}{R M:List Nat}(h:mO a v=some (R,M)) {e e':am}(he:∀ k∈R,get e' k=get e k) (F:List Nat):eq a v e' F=eq a v e F:=by
 cases a with
 | false=>rfl
 | true =>
  unfold mO at h
  split at h
  ·simp only[Option.some.injEq,Prod.mk.injEq]at h
   obtain⟨rfl,rfl⟩:=h
   have:fR v e'=fR v e:=Lo fun k hk=>he k (List.mem_append_right _ hk)
   simp only[eq,this]
  ·simp at h
def Dj (r:br) (a b:Bool) (u v:VI) (F:List Nat) (st ae st2:St):Prop :=
 ∃ st1',aF r b F v st=some st1'∧aF r a (eq b v st.env F) u st1'=some st2∧∀ k∈eq a u st1'.env (eq b v st.env F),k∈eq b v ae.env (eq a u st.env F)
theorem ad9 {a b:Bool}{u v:VI}{R1 M1 R2 M2:List Nat}(f1:mO a u=some (R1,M1)) (f2:mO b v=some (R2,M2)) (d1:∀ k∈M1,k∉R2∧k∉M2) (d2:∀ k∈M2,k∉R1∧k∉M1) {F:List Nat}{st ae st2 st1':St}
  (h1:aF r a F u st=some ae) (k1:aF r b F v st=some st1') (k2:aF r a (eq b v st.env F) u st1'=some st2):Dj r a b u v F st ae st2:=by
 refine⟨st1',k1,k2,?_⟩
 obtain⟨e,hs⟩:=st
 obtain⟨_,g1,_⟩:=eU (r:=r) f1 F e hs _ h1
 obtain⟨_,g2,_⟩:=eU (r:=r) f2 F e hs _ k1
 rw[Ze f1 (e:=e) (e':=st1'.env) (fun k hk=>g2 k fun hm=>(d2 k hm).1 hk),Ze f2 (e:=e) (e':=ae.env) (fun k hk=>g1 k fun hm=>(d1 k hm).1 hk)]
 intro k hk
 cases a with
 | false=>exact hk
 | true =>
  cases b with
  | false=>exact hk
  | true =>
   simp only[eq]at hk⊢
   cases hu:iZ u.op<;>cases hv:iZ v.op<;>simp only[hu,hv]at hk⊢<;>first | exact hk | skip
   simp only[List.mem_append]at hk⊢
   rcases hk with h | h | h
   ·exact .inr (.inl h)
   ·exact .inl h
   ·exact .inr (.inr h)
theorem Ns {a b:Bool}{u v:VI}(h:FZ a b u v=true) {F:List Nat}{st ae st2:St}(hsrt:aX st.env) (h1:aF r a F u st=some ae) (h2:aF r b (eq a u st.env F) v ae=some st2):Dj r a b u v F st ae st2:=by
 simp only[FZ,Bool.and_eq_true,Bool.or_eq_true]at h
 obtain⟨hap,h⟩:=h
 obtain⟨R1,M1,R2,M2,f1,f2,d1,d2⟩:=jP hap
 have l1:=fun F=>eU (r:=r) f1 F
 have l2:=fun F=>eU (r:=r) f2 F
 have h2':=Yd (F':=F) (agY a u st.env F) h2
 have fin:(∃ st1',aF r b F v st=some st1'∧aF r a F u st1'=some st2)→(∀ {s s':St},aF r a F u s=some s'→aF r a (eq b v st.env F) u s=some s')→Dj r a b u v F st ae st2:=by
  intro ⟨st1',k1,k2⟩ up
  exact ad9 f1 f2 d1 d2 h1 k1 (up k2)
 obtain⟨e,hs⟩:=st
 obtain⟨e1,hs1⟩:=ae
 obtain⟨e2,hs2⟩:=st2
 rcases h with ((h | h) | h) | h
 ·obtain⟨q1,q2⟩:=BX h h1
  simp only at q1;subst q1
  refine fin (kJ (l1 F) (l2 F) d1 d2 hsrt h1 h2' h2' (q2 hs2)) fun {s s'} hs=>?_
  simp only[kS,Bool.and_eq_true,Bool.not_eq_true']at h
  rw[h.1.1]at hs⊢
  exact hs
 ·obtain⟨q1,q2⟩:=BX h h2'
  simp only at q1;subst q1
  refine fin (kJ (l1 F) (l2 F) d1 d2 hsrt h1 h2' (q2 hs) h1) fun {s s'} hs=>?_
  simp only[kS,Bool.and_eq_true,Bool.not_eq_true']at h
  rw[h.1.1]
  exact hs
 ·have q1:=zG h.1 h1
  have q2:=zG h.2 h2'
  simp only at q1 q2;subst q1;subst q2
  refine fin (kJ (l1 F) (l2 F) d1 d2 hsrt h1 h2' h2' h1) fun {s s'} hs=>?_
  have hr:=h.1
  simp only[Lh,Bool.and_eq_true,Bool.or_eq_true,Bool.not_eq_true']at hr
  cases a with
  | false=>exact hs
  | true =>
   have hn:=xD (hr.2.resolve_left (by simp))
   simp only[aF,kM,hn]at hs⊢
   exact hs
 ·simp only[W9,Bool.and_eq_true]at h
  obtain⟨⟨⟨⟨rfl,rfl⟩,hq⟩,hn⟩,hc⟩:=h
  have q1:=zG (r:=r) (a:=true) (i:=u) (by simp only[Lh,hq,hn,Bool.or_true,Bool.and_true]) h1
  simp only at q1;subst q1
  have hnu:=xD hn
  have hsame:=abO hc h2
  have hle:=bL.same (ji:=fR u e) hsame (fun k hk=>by simp only[eq,hnu];exact List.mem_append_left _ hk)
  have hF:eq true v e F=F:=by simp only[eq,TN hc]
  refine fin (kJ (l1 F) (l2 F) d1 d2 hsrt h1 h2' h2' (acF hq hn hsrt h1 hs2 hle)) fun {s s'} hs=>?_
  simp only[hF];exact hs
def yp (m:Bool) (vs:List AV) (i:Nat):List AV:=match m with | true=>vs.set i .junk | false=>vs
def Eb (m:Bool) (e:am) (j:Nat) (vs:List AV) (i:Nat):am:=match m with | true=>put e j (.tup (yp m vs i)) | false=>e
def abl (m:Bool) (x:AV):AV:=match m with | true=>x | false=>share x
theorem ZT {m:Bool}{vs:List AV}{i k:Nat}(h:i≠k):(yp m vs i)[k]?=vs[k]?:=by
 cases m
 ·rfl
 ·exact List.getElem?_set_ne h
theorem acw {m n:Bool}{vs:List AV}{i k:Nat}(h:i≠k):yp n (yp m vs i) k=yp m (yp n vs k) i:=by
 cases m<;>cases n<;>try rfl
 exact List.set_comm _ _ h
theorem so {m:Bool}{e:am}{j:Nat}{vs:List AV}{i:Nat}(hj:get e j=some (.tup vs)) (q:Nat):get (Eb m e j vs i) q=if q=j then some (.tup (yp m vs i)) else get e q:=by
 cases m
 ·simp only[Eb,yp]
  by_cases h:q=j
  ·subst h;rw[if_pos rfl];exact hj
  ·rw[if_neg h]
 ·simp only[Eb,bC]
theorem v7 {m:Bool}{e:am}(h:aX e) (j:Nat) (vs:List AV) (i:Nat):aX (Eb m e j vs i):=by
 cases m
 ·exact h
 ·exact h.put _ _
theorem zi {u:VI}{j:Nat}{m:Bool}{i d:Nat}(ho:u.op=.ext j m i) (hd:u.dst=some d) (hg:u.guard=none) (ht:u.th=[]) (e:am) (hs:HS):aS r u ⟨e,hs⟩ =
  match get e j with
  | some (.tup vs)=>match vs[i]? with
   | some x=>some ⟨put (Eb m e j vs i) d (firm (abl m x)),hs⟩
   | none=>none
  | _=>none:=by
 unfold aS cR
 simp only[hg,ho,aY,oW,hd,ht]
 cases get e j with
 | none=>rfl
 | some w =>
  cases w<;>try rfl
  rename_i vs
  simp only
  cases vs[i]? with
  | none=>rfl
  | some x=>cases m<;>rfl
theorem adq {u v:VI}{j i k d c:Nat}{m n:Bool}(o1:u.op=.ext j m i) (o2:v.op=.ext j n k) (d1:u.dst=some d) (d2:v.dst=some c) (g1:u.guard=none) (g2:v.guard=none) (ht1:u.th=[]) (ht2:v.th=[])
  (hik:i≠k) (hdc:d≠c) (hdj:d≠j) (hcj:c≠j) {st ae st2:St}(hsrt:aX st.env) (h1:aS r u st=some ae) (h2:aS r v ae=some st2):∃ st1',aS r v st=some st1'∧aS r u st1'=some st2:=by
 obtain⟨e,hs⟩:=st
 rw[zi o1 d1 g1 ht1]at h1
 split at h1
 ·rename_i vs hj
  split at h1
  ·rename_i x hx
   simp only[Option.some.injEq]at h1;subst h1
   rw[zi o2 d2 g2 ht2]at h2
   have hj1:get (put (Eb m e j vs i) d (firm (abl m x))) j=some (.tup (yp m vs i)):=by
    rw[bC,if_neg (fun h=>hdj h.symm),so hj,if_pos rfl]
   rw[hj1]at h2
   simp only[ZT hik]at h2
   split at h2
   ·rename_i y hy
    simp only[Option.some.injEq]at h2;subst h2
    have hj2:get (put (Eb n e j vs k) c (firm (abl n y))) j=some (.tup (yp n vs k)):=by
     rw[bC,if_neg (fun h=>hcj h.symm),so hj,if_pos rfl]
    refine⟨⟨put (Eb n e j vs k) c (firm (abl n y)),hs⟩,by rw[zi o2 d2 g2 ht2,hj];simp only[hy],?_⟩
    rw[zi o1 d1 g1 ht1,hj2]
    simp only[ZT (fun h:k=i=>hik h.symm),hx,Option.some.injEq]
    congr 1
    refine j6 ((v7 ((v7 hsrt _ _ _).put _ _) _ _ _).put _ _) ((v7 ((v7 hsrt _ _ _).put _ _) _ _ _).put _ _) fun q=>?_
    rw[bC,so hj2,bC,so hj,bC,so hj1,bC,so hj]
    by_cases q1:q=d
    ·subst q1;simp[hdc,hdj]
    ·by_cases q2:q=c
     ·subst q2;simp[q1,hcj]
     ·by_cases q3:q=j
      ·subst q3;simp[q1,q2,acw hik]
      ·simp[q1,q2,q3]
   ·simp at h2
  ·simp at h1
 ·simp at h1
theorem EZ {a b:Bool}{u v:VI}(h:fN a b u v=true) {F:List Nat}{st ae st2:St}(hsrt:aX st.env) (h1:aF r a F u st=some ae) (h2:aF r b (eq a u st.env F) v ae=some st2):Dj r a b u v F st ae st2:=by
 simp only[fN,Bool.and_eq_true,Bool.not_eq_true']at h
 obtain⟨⟨⟨⟨rfl,rfl⟩,ht1⟩,ht2⟩,h⟩:=h
 have ht1:=wR ht1
 have ht2:=wR ht2
 simp only[aF]at h1 h2
 split at h
 ·rename_i j m i l n k d c o1 o2 d1 d2 g1 g2
  simp only[Bool.and_eq_true,Bool.not_eq_true',Nat.beq_eq]at h
  obtain⟨⟨⟨⟨rfl,hik⟩,hdc⟩,hdj⟩,hcj⟩:=h
  obtain⟨st1',k1,k2⟩:=adq o1 o2 d1 d2 g1 g2 ht1 ht2 (Nat.ne_of_beq_eq_false hik) (Nat.ne_of_beq_eq_false hdc) (Nat.ne_of_beq_eq_false hdj) (Nat.ne_of_beq_eq_false hcj) hsrt h1 h2
  exact⟨st1',k1,k2,fun k hk=>hk⟩
 ·simp at h
theorem aap {a b:Bool}{u v:VI}(h:fN a b u v=true):kS a u=true:=by
 simp only[fN,Bool.and_eq_true]at h
 obtain⟨⟨⟨⟨ha,hb⟩,ht1⟩,ht2⟩,h⟩:=h
 split at h
 ·rename_i j m i l n k d c o1 o2 d1 d2 g1 g2
  simp only[kS,ha,ht1,o1,sOp,Bool.and_self]
 ·simp at h
end
end Go.Vm
namespace Go.Vm
section
variable {r:br}
theorem X5 {cs:List AV}{off:Nat}{w:AV}(h:cs[off]?=some w):im (.cells cs) (.cells (cs.set off (share w))):=by
 simp only[im,b9,List.map_set,sH]
 refine List.ext_getElem? fun i=>?_
 rw[List.getElem?_set]
 have hm:(cs.map share)[off]?=some (share w):=by rw[List.getElem?_map,h];rfl
 split
 ·rename_i e
  subst e
  have hlt:off<(cs.map share).length:=by
   rcases Nat.lt_or_ge off (cs.map share).length with h | h
   ·exact h
   ·rw[List.getElem?_eq_none h]at hm;simp at hm
  rw[if_pos hlt,hm]
 ·rfl
def abR (w:AV):Prop:=(∃ p m xs,w=.own p m xs)∨w=.nl
theorem acW {w:AV}(h:xP (firm w)=true):abR w:=by
 cases w with
 | own p m xs=>exact .inl ⟨_,_,_,rfl⟩
 | nl=>exact .inr rfl
 | _=>exact absurd h (by simp only[firm,sP,gy,xP];simp)
theorem Ak {a:Bool}{i:VI}(h:oP a i=true):∃ p,a=true∧i.op=.ld none 2 p∧i.th=[]:=by
 simp only[oP,Bool.and_eq_true]at h
 obtain⟨⟨ha,hn⟩,hth⟩:=h
 have hth:=wR hth
 have hn:=acQ hn
 unfold iZ at hn
 split at hn<;>simp at hn
 rename_i p hp
 exact⟨p,ha,hp,hth⟩
theorem aeA {a:Bool}{i:VI}(h:oP a i=true) (e:am) (F:List Nat):eq a i e F=F:=by
 obtain⟨p,rfl,hop,hth⟩:=Ak h
 simp only[eq,hop,iZ]
theorem ahc {id off:Nat}{cs:List AV}{w:AV}{h:ac}(hg:get h id=some (.cells cs)) (hw:cs[off]?=some w):loadAt h none 2 (.ptr id off)=some (w,put h id (.cells (cs.set off (share w)))):=by
 simp only[loadAt,hg,hw,iW]
theorem B9 {a:Bool}{F:List Nat}{u:VI}(h:oP a u=true) {e e1:am}{hs hs1:HS}(hr:aF r a F u ⟨e,hs⟩=some ⟨e1,hs1⟩):∃ id off cs w,get hs.heap id=some (.cells cs)∧cs[off]?=some w∧abR w∧
  hs1=⟨put hs.heap id (.cells (cs.set off (share w))),hs.next⟩∧
   ∀ hs' cs',get hs'.heap id=some (.cells cs')→cs'[off]?=some w→aF r a F u ⟨e,hs'⟩=some ⟨e1,⟨put hs'.heap id (.cells (cs'.set off (share w))),hs'.next⟩⟩:=by
 obtain⟨p,rfl,hop,hth⟩:=Ak h
 have hn:iZ u.op=.take:=by rw[hop];rfl
 simp only[aF,kM,hn]at hr⊢
 split at hr
 ·rename_i ae h1
  split at hr
  ·rename_i d hd
   split at hr
   ·rename_i x hx
    split at hr
    ·rename_i ho
     simp only[Option.some.injEq]at hr;subst hr
     have go:cR r u ⟨e,hs⟩=some ⟨e1,hs1⟩∧∀ hs',aS r u ⟨e,hs'⟩=cR r u ⟨e,hs'⟩:=by
      have dead:∀ ae:St,some (aI u.dst (.tup []) ⟨e,hs⟩)=some ae→get ae.env d=some x→False:=by
       intro ae h h2
       simp only[Option.some.injEq]at h;subst h
       simp only[hd,aI,bC,if_true,Option.some.injEq]at h2
       subst h2
       simp[xP]at ho
      unfold aS at h1
      cases hg:u.guard with
      | none =>
       rw[hg]at h1
       exact⟨h1,fun hs'=>by unfold aS;rw[hg]⟩
      | some sw =>
       obtain⟨sl,want⟩:=sw
       rw[hg]at h1
       simp only at h1
       split at h1
       ·rename_i b hb
        split at h1
        ·rename_i hbw
         exact⟨h1,fun hs'=>by unfold aS;rw[hg];simp only[hb,hbw]⟩
        ·exact(dead _ h1 hx).elim
       ·exact(dead _ h1 hx).elim
       ·simp at h1
     obtain⟨hgo,hsame⟩:=go
     unfold cR at hgo
     simp only[hth,hop,aY,rS]at hgo
     split at hgo
     ·rename_i v st0 hv
      simp only[Option.some.injEq]at hgo
      split at hv
      ·rename_i pv e0 hp
       split at hv
       ·rename_i v' h1' hl
        simp only[Option.some.injEq,Prod.mk.injEq]at hv
        obtain⟨rfl,rfl⟩:=hv
        rw[hd]at hgo
        simp only[aI,St.mk.injEq]at hgo
        obtain⟨rfl,rfl⟩:=hgo
        simp only[bC,if_true,Option.some.injEq]at hx
        subst hx
        have hw:=acW ho
        have back:∀ hs' h2,loadAt hs'.heap none 2 pv=some (v',h2)→(match aS r u ⟨e,hs'⟩ with
          | some ae=>match (some d:Option Nat) with
           | some d=>match get ae.env d with
            | some a=>match xP a with
             | true=>some ae
             | false=>none
            | none=>none
           | none=>none
          | none=>none)=some ⟨put e0 d (firm v'),⟨h2,hs'.next⟩⟩:=by
         intro hs' h2 hl2
         rw[hsame]
         unfold cR
         simp only[hth,hop,aY,rS,hp,hl2,hd,aI,bC,if_true,ho]
        cases pv<;>simp only[loadAt,reduceCtorEq]at hl
        ·rename_i id off
         split at hl
         ·rename_i cs hg
          split at hl
          ·simp at hl
          ·rename_i w hcw
           simp only[iW,Option.some.injEq,Prod.mk.injEq]at hl
           obtain⟨rfl,rfl⟩:=hl
           refine⟨id,off,cs,w,hg,hcw,hw,rfl,fun hs' cs' hg' hw'=>?_⟩
           have hb:=back hs' _ (ahc hg' hw')
           simp only at hb
           exact hb
         ·simp at hl
        ·exfalso
         split at hl
         ·split at hl
          ·split at hl
           ·rename_i u hu
            simp only[Option.some.injEq,Prod.mk.injEq]at hl
            obtain⟨rfl,_⟩:=hl
            unfold gW at hu
            simp only at hu
            split at hu
            ·simp only[Option.some.injEq]at hu;subst hu;rcases hw with ⟨_,_,_,h⟩ | h<;>simp at h
            ·simp at hu
           ·simp at hl
          ·simp at hl
         ·simp at hl
        ·exfalso
         split at hl
         ·rename_i u hu
          simp only[Option.some.injEq,Prod.mk.injEq]at hl
          obtain⟨rfl,_⟩:=hl
          unfold gW at hu
          simp only at hu
          split at hu
          ·simp only[Option.some.injEq]at hu;subst hu;rcases hw with ⟨_,_,_,h⟩ | h<;>simp at h
          ·simp at hu
         ·simp at hl
       ·simp at hv
      ·simp at hv
     ·simp at hgo
    ·simp at hr
   ·simp at hr
  ·simp at hr
 ·simp at hr
theorem Af {α:Type}{l:List (Nat×α)}(h:aX l) (k:Nat) (a b:α):put (put l k a) k b=put l k b:=by
 refine j6 ((h.put _ _).put _ _) (h.put _ _) fun q=>?_
 simp only[bC]
 split<;>rfl
theorem afc {α:Type}{l:List (Nat×α)}(h:aX l) {j k:Nat}(hjk:j≠k) (a b:α):put (put l j a) k b=put (put l k b) j a:=by
 refine j6 ((h.put _ _).put _ _) ((h.put _ _).put _ _) fun q=>?_
 simp only[bC]
 by_cases h1:q=k
 ·rw[if_pos h1,if_pos h1,if_neg (fun h=>hjk (h.symm.trans h1))]
 ·rw[if_neg h1,if_neg h1]
theorem Zh {α:Type}{l:List (Nat×α)}(h:aX l) {j k:Nat}(hjk:j≠k) (a:α):put (del l k) j a=del (put l j a) k:=by
 refine j6 ((h.del _).put _ _) ((h.put _ _).del _) fun q=>?_
 simp only[bC,rV]
 by_cases h1:q=k
 ·rw[if_pos h1,if_pos h1,if_neg (fun h=>hjk (h.symm.trans h1))]
 ·rw[if_neg h1,if_neg h1]
theorem af9 {a b:Bool}{u v:VI}(hu:oP a u=true) (hv:oP b v=true) (hap:tg a b u v=true) {F:List Nat}{st ae st2:St}(inv:bp st) (h1:aF r a F u st=some ae) (h2:aF r b F v ae=some st2):∃ st1',aF r b F v st=some st1'∧aF r a F u st1'=some st2:=by
 obtain⟨R1,M1,R2,M2,f1,f2,d1,d2⟩:=jP hap
 have l1:=eU (r:=r) f1 F
 have l2:=eU (r:=r) f2 F
 obtain⟨e,hs⟩:=st
 obtain⟨e1,hs1⟩:=ae
 obtain⟨e2,hs2⟩:=st2
 have hsh:aX hs.heap:=inv.sh
 obtain⟨i1,o1,c1,w1,g1,k1,n1,rfl,b1⟩:=B9 hu h1
 obtain⟨i2,o2,c2,w2,g2,k2,n2,rfl,b2⟩:=B9 hv h2
 simp only at g2 b2 h2
 rw[bC]at g2
 by_cases hi:i2=i1
 ·subst hi
  rw[if_pos rfl]at g2
  simp only[Option.some.injEq,Obj.cells.injEq]at g2
  subst g2
  rw[Af hsh]at h2
  by_cases ho:o1=o2
  ·subst ho
   have hlt:o1<c1.length:=by
    rcases Nat.lt_or_ge o1 c1.length with h | h
    ·exact h
    ·rw[List.getElem?_eq_none h]at k1;simp at k1
   rw[List.getElem?_set_self hlt]at k2
   simp only[Option.some.injEq]at k2
   have hw1:w1=.nl:=by
    rcases n1 with ⟨p,m,xs,rfl⟩ | h
    ·exfalso
     subst k2
     cases p<;>rcases n2 with ⟨_,_,_,h⟩ | h<;>simp[share]at h
    ·exact h
   subst hw1
   have hw2:w2=.nl:=by rw[←k2];rfl
   subst hw2
   rw[Af hsh]
   refine kJ l1 l2 d1 d2 inv.se h1 h2 (b2 hs c1 g1 k1) ?_
   have:=b1 ⟨put hs.heap i2 (.cells (c1.set o1 (share .nl))),hs.next⟩ (c1.set o1 (share .nl)) (by simp only[bC,if_true]) (by rw[List.getElem?_set_self hlt];rfl)
   rw[this]
   simp only[Af hsh]
  ·rw[Af hsh]
   have k2':c1[o2]?=some w2:=by rw[List.getElem?_set_ne ho]at k2;exact k2
   refine kJ l1 l2 d1 d2 inv.se h1 h2 (b2 hs c1 g1 k2') ?_
   have:=b1 ⟨put hs.heap i2 (.cells (c1.set o2 (share w2))),hs.next⟩ (c1.set o2 (share w2)) (by simp only[bC,if_true]) (by rw[List.getElem?_set_ne (fun h=>ho h.symm)];exact k1)
   rw[this]
   simp only[Af hsh]
   rw[List.set_comm _ _ ho]
 ·rw[if_neg hi]at g2
  refine kJ l1 l2 d1 d2 inv.se h1 h2 (b2 hs c2 g2 k2) ?_
  have:=b1 ⟨put hs.heap i2 (.cells (c2.set o2 (share w2))),hs.next⟩ c1 (by simp only[bC];rw[if_neg (fun h=>hi h.symm)];exact g1) k1
  rw[this]
  simp only
  rw[afc hsh hi]
theorem Xs {b:Bool}{v:VI}(h:TZ v=true) (hb:(!b || oP b v)=true):b=false:=by
 cases b with
 | false=>rfl
 | true =>
  exfalso
  simp only[Bool.not_true,Bool.false_or]at hb
  obtain⟨p,_,hop,hth⟩:=Ak hb
  unfold TZ ei at h
  simp only[hth,hop]at h
  simp at h
theorem ag7 {a:Bool}{u v:VI}(hu:oP a u=true) (hv:TZ v=true) (hap:tg a false u v=true) {F:List Nat}{st ae st2:St}(inv:bp st) (h1:aF r a F u st=some ae) (h2:aS r v ae=some st2):∃ st1',aS r v st=some st1'∧aF r a F u st1'=some st2:=by
 obtain⟨R1,M1,R2,M2,f1,f2,d1,d2⟩:=jP hap
 have l1:=eU (r:=r) f1 F
 have l2:=eU (r:=r) f2 F
 obtain⟨e,hs⟩:=st
 obtain⟨e1,hs1⟩:=ae
 obtain⟨e2,hs2⟩:=st2
 have hsh:aX hs.heap:=inv.sh
 have s1:aX e1:=(l1 e hs _ h1).1 inv.se
 obtain⟨i1,o1,c1,w1,g1,k1,n1,rfl,b1⟩:=B9 hu h1
 have hle:bL (put hs.heap i1 (.cells (c1.set o1 (share w1)))) hs.heap:=(bL.upd (o:=some (.cells (c1.set o1 (share w1)))) g1 (fun o1 ho=>by simp only[Option.some.injEq]at ho;subst ho;exact X5 k1)).2
 obtain⟨R,M,hk⟩:=Jb hv
 obtain⟨ρ,τ,K,q1,q2⟩:=Gc (ig hk) s1 h2
 simp only at q1 q2
 subst q1
 rcases K with K | ⟨id,⟨m,xs,ga⟩,hρ,hτ⟩
 ·have hi:=q2 hs (K.1 _ hle)
  rw[K.2]at hi h2⊢
  exact kJ l1 l2 d1 d2 inv.se h1 h2 hi h1
 ·have hi:=q2 hs (hρ _ hle)
  rw[hτ]at hi h2⊢
  have hne:i1≠id:=by
   intro h
   subst h
   simp only[bC,if_true,Option.some.injEq,reduceCtorEq]at ga
  refine kJ l1 l2 d1 d2 inv.se h1 h2 hi ?_
  have:=b1 ⟨del hs.heap id,hs.next⟩ c1 (by simp only[rV];rw[if_neg hne];exact g1) k1
  rw[this]
  simp only
  rw[Zh hsh hne]
theorem ahd {b:Bool}{u v:VI}(hu:TZ u=true) (hv:oP b v=true) (hap:tg false b u v=true) {F:List Nat}{st ae st2:St}(inv:bp st) (h1:aS r u st=some ae) (h2:aF r b F v ae=some st2):∃ st1',aF r b F v st=some st1'∧aS r u st1'=some st2:=by
 obtain⟨R1,M1,R2,M2,f1,f2,d1,d2⟩:=jP hap
 have l1:=eU (r:=r) f1 F
 have l2:=eU (r:=r) f2 F
 obtain⟨e,hs⟩:=st
 obtain⟨e1,hs1⟩:=ae
 obtain⟨e2,hs2⟩:=st2
 have hsh:aX hs.heap:=inv.sh
 obtain⟨R,M,hk⟩:=Jb hu
 obtain⟨ρ,τ,K,q1,q2⟩:=Gc (ig hk) inv.se h1
 simp only at q1 q2
 subst q1
 obtain⟨i2,o2,c2,w2,g2,k2,n2,rfl,b2⟩:=B9 hv h2
 have hle:∀ {h:ac},get h i2=some (.cells c2)→bL h (put h i2 (.cells (c2.set o2 (share w2)))):=fun g=>(bL.upd (o:=some (.cells (c2.set o2 (share w2)))) g (fun o1 ho=>by simp only[Option.some.injEq]at ho;subst ho;exact X5 k2)).1
 rcases K with K | ⟨id,_,hρ,hτ⟩
 ·simp only[K.2]at g2 h2 h1 q2⊢
  exact kJ l1 l2 d1 d2 inv.se h1 h2 h2 (q2 _ (K.1 _ (hle g2)))
 ·simp only[hτ]at g2 h2 h1 q2⊢
  rw[rV]at g2
  split at g2
  ·simp at g2
  ·rename_i hne
   refine kJ l1 l2 d1 d2 inv.se h1 h2 (b2 hs c2 g2 k2) ?_
   have:=q2 ⟨put hs.heap i2 (.cells (c2.set o2 (share w2))),hs.next⟩ (hρ _ (hle g2))
   simp only at this
   rw[Zh hsh hne]
   exact this
theorem AM {a:Bool}{u:VI}(h:(!a || oP a u)=true) {F:List Nat}{st ae:St}(hr:aF r a F u st=some ae):aS r u st=some ae∧(a=true→∃ d x,u.dst=some d∧get ae.env d=some x∧xP x=true):=by
 cases a with
 | false=>exact⟨hr,fun h=>by simp at h⟩
 | true =>
  simp only[Bool.not_true,Bool.false_or]at h
  obtain⟨p,_,hop,hth⟩:=Ak h
  have hn:iZ u.op=.take:=by rw[hop];rfl
  simp only[aF,kM,hn]at hr
  split at hr
  ·rename_i ae h1
   split at hr
   ·rename_i d hd
    split at hr
    ·rename_i x hx
     split at hr
     ·rename_i ho
      simp only[Option.some.injEq]at hr;subst hr
      exact⟨h1,fun _=>⟨d,x,hd,hx,ho⟩⟩
     ·simp at hr
    ·simp at hr
   ·simp at hr
  ·simp at hr
theorem TP {a:Bool}{u:VI}(h:(!a || oP a u)=true) {F:List Nat}{st ae:St}(hr:aS r u st=some ae) (ho:a=true→∃ d x,u.dst=some d∧get ae.env d=some x∧xP x=true):aF r a F u st=some ae:=by
 cases a with
 | false=>exact hr
 | true =>
  simp only[Bool.not_true,Bool.false_or]at h
  obtain⟨p,_,hop,hth⟩:=Ak h
  have hn:iZ u.op=.take:=by rw[hop];rfl
  obtain⟨d,x,hd,hx,ho⟩:=ho rfl
  simp only[aF,kM,hn,hr,hd,hx,ho]
theorem lV {a:Bool}{u:VI}(h:(!a || oP a u)=true) (e:am) (F:List Nat):eq a u e F=F:=by
 cases a with
 | false=>rfl
 | true=>exact aeA (by simpa using h) e F
theorem TW {u v:VI}(h:u6 u v=true):∃ k1 R1 M1 k2 R2 M2,ei u=some (k1,R1,M1)∧ei v=some (k2,R2,M2)∧(∀ k∈M1,k∉M2):=by
 unfold u6 at h
 split at h
 ·rename_i k1 R1 M1 k2 R2 M2 e1 e2
  simp only[Bool.and_eq_true]at h
  obtain⟨⟨⟨_,_⟩,a2⟩,_⟩:=h
  exact⟨k1,R1,M1,k2,R2,M2,e1,e2,fun k hk=>cb a2 k hk⟩
 ·simp at h
theorem abk {a b:Bool}{u v:VI}(h:L7 a b u v=true) {F:List Nat}{st ae st2:St}(inv:bp st) (h1:aF r a F u st=some ae) (h2:aF r b (eq a u st.env F) v ae=some st2):Dj r a b u v F st ae st2:=by
 simp only[L7,Bool.and_eq_true]at h
 obtain⟨⟨ha,hb⟩,h⟩:=h
 rw[lV ha]at h2
 have fin:(∃ st1',aF r b F v st=some st1'∧aF r a F u st1'=some st2)→Dj r a b u v F st ae st2:=by
  intro ⟨st1',k1,k2⟩
  refine⟨st1',k1,by rw[lV hb];exact k2,?_⟩
  rw[lV hb,lV ha,lV ha,lV hb]
  exact fun k hk=>hk
 simp only[Bool.or_eq_true,Bool.and_eq_true]at h
 rcases h with h | ⟨hap,h⟩
 ·obtain⟨p1,o1⟩:=AM ha h1
  obtain⟨p2,o2⟩:=AM hb h2
  obtain⟨st1',q1,q2⟩:=aaS h inv p1 p2
  obtain⟨k1,R1,M1,k2,R2,M2,e1,e2,hap⟩:=TW h
  obtain⟨e,hs⟩:=st
  obtain⟨en1,hs1⟩:=ae
  obtain⟨en1',hs1'⟩:=st1'
  refine fin ⟨_,TP hb q1 fun hn=>?_,TP ha q2 fun hn=>?_⟩
  ·obtain⟨d,x,hd,hx,ho⟩:=o2 hn
   refine⟨d,x,hd,?_,ho⟩
   obtain⟨_,_,_,_,_,g,_⟩:=ig e1 en1' hs1' _ q2
   rw[←g d fun hm=>hap d hm (DY e2 hd)]
   exact hx
  ·obtain⟨d,x,hd,hx,ho⟩:=o1 hn
   refine⟨d,x,hd,?_,ho⟩
   obtain⟨_,_,_,_,_,g,_⟩:=ig e2 en1 hs1 _ p2
   rw[g d (hap d (DY e1 hd))]
   exact hx
 ·rcases h with (h | h) | h
  ·exact fin (af9 h.1 h.2 hap inv h1 h2)
  ·have:=Xs h.2 hb
   subst this
   exact fin (ag7 h.1 h.2 hap inv h1 h2)
  ·have:=Xs h.1 ha
   subst this
   exact fin (ahd h.1 h.2 hap inv h1 h2)
theorem WZ {a:Bool}{i:VI}(h:oP a i=true):∃ R M,ei i=some (.t,R,M):=by
 obtain⟨p,_,hop,hth⟩:=Ak h
 unfold ei
 simp only[hth,hop]
 exact⟨_,_,rfl⟩
theorem Bm {st ae:St}(inv:bp st) (he:aX ae.env) (hh:ae.hs=st.hs):bp ae:=⟨he,by rw[hh];exact inv.sh,by rw[hh];exact inv.fr⟩
theorem agB {u:VI}{j:Nat}{m:Bool}{i d:Nat}(ho:u.op=.ext j m i) (hd:u.dst=some d) (hg:u.guard=none) (ht:u.th=[]) {st ae:St}(hs:aX st.env) (h1:aS r u st=some ae):aX ae.env:=by
 obtain⟨e,hs0⟩:=st
 rw[zi ho hd hg ht]at h1
 split at h1
 ·split at h1
  ·simp only[Option.some.injEq]at h1;subst h1
   exact(v7 hs _ _ _).put _ _
  ·simp at h1
 ·simp at h1
theorem Ik {a b:Bool}{u v:VI}(h:fN a b u v=true) {F:List Nat}{st ae:St}(hs:aX st.env) (h1:aF r a F u st=some ae):aX ae.env:=by
 simp only[fN,Bool.and_eq_true,Bool.not_eq_true']at h
 obtain⟨⟨⟨⟨rfl,rfl⟩,ht1⟩,ht2⟩,h⟩:=h
 split at h
 ·rename_i j m i l n k d c o1 o2 dd1 dd2 g1 g2
  exact agB o1 dd1 g1 (wR ht1) hs h1
 ·simp at h
theorem ads {a b:Bool}{u v:VI}(h:fb a b u v=true) (hk:kS b v=false) {F:List Nat}{st ae:St}(inv:bp st) (h1:aF r a F u st=some ae):bp ae:=by
 simp only[fb,Bool.or_eq_true]at h
 rcases h with (h | h) | h
 ·obtain⟨e,hs⟩:=st
  simp only[FZ,Bool.and_eq_true,Bool.or_eq_true]at h
  obtain⟨hap,h⟩:=h
  obtain⟨R1,M1,R2,M2,f1,f2,d1,d2⟩:=jP hap
  have se:=(eU (r:=r) f1 F e hs _ h1).1 inv.se
  rcases h with ((h | h) | h) | h
  ·exact Bm inv se (BX h h1).1
  ·rw[hk]at h;simp at h
  ·exact Bm inv se (zG h.1 h1)
  ·simp only[W9,Bool.and_eq_true]at h
   obtain⟨⟨⟨⟨rfl,rfl⟩,hq⟩,hn⟩,hc⟩:=h
   exact Bm inv se (zG (by simp only[Lh,hq,hn,Bool.or_true,Bool.and_true]) h1)
 ·obtain⟨e,hs⟩:=st
  exact Bm inv (Ik h inv.se h1) (BX (aap h) h1).1
 ·simp only[Bool.and_eq_true]at h
  obtain⟨_,h⟩:=h
  simp only[L7,Bool.and_eq_true]at h
  obtain⟨⟨ha,hb⟩,h⟩:=h
  obtain⟨p1,_⟩:=AM ha h1
  simp only[Bool.or_eq_true,Bool.and_eq_true]at h
  rcases h with h | ⟨hap,h⟩
  ·obtain⟨k1,R1,M1,_,_,_,e1,_,_⟩:=TW h
   exact lx e1 inv p1
  ·rcases h with (h | h) | h
   ·obtain⟨R,M,e1⟩:=WZ h.1;exact lx e1 inv p1
   ·obtain⟨R,M,e1⟩:=WZ h.1;exact lx e1 inv p1
   ·obtain⟨R,M,e1⟩:=Jb h.1;exact lx e1 inv p1
theorem adz {a b:Bool}{u v:VI}(h:fb a b u v=true) (hk:kS b v=true) {F:List Nat}{st ae:St}(hs:aX st.env) (h1:aF r a F u st=some ae):aX ae.env:=by
 simp only[fb,Bool.or_eq_true]at h
 rcases h with (h | h) | h
 ·obtain⟨e,hs0⟩:=st
  simp only[FZ,Bool.and_eq_true]at h
  obtain⟨R1,M1,R2,M2,f1,f2,d1,d2⟩:=jP h.1
  exact(eU (r:=r) f1 F e hs0 _ h1).1 hs
 ·exact Ik h hs h1
 ·rw[hk]at h;simp at h
theorem aiE {a b:Bool}{u v:VI}(h:fb a b u v=true) (hk:kS b v=true) {F:List Nat}{st ae st2:St}(hs:aX st.env) (h1:aF r a F u st=some ae) (h2:aF r b (eq a u st.env F) v ae=some st2):Dj r a b u v F st ae st2:=by
 simp only[fb,Bool.or_eq_true]at h
 rcases h with (h | h) | h
 ·exact Ns h hs h1 h2
 ·exact EZ h hs h1 h2
 ·rw[hk]at h;simp at h
theorem aig {a b:Bool}{u v:VI}(h:fb a b u v=true) {F:List Nat}{st ae st2:St}(inv:bp st) (h1:aF r a F u st=some ae) (h2:aF r b (eq a u st.env F) v ae=some st2):Dj r a b u v F st ae st2:=by
 simp only[fb,Bool.or_eq_true]at h
 rcases h with (h | h) | h
 ·exact Ns h inv.se h1 h2
 ·exact EZ h inv.se h1 h2
 ·simp only[Bool.and_eq_true]at h
  exact abk h.2 inv h1 h2
end
end Go.Vm
namespace Go.Vm
inductive Ay (ops:Array Oper):Nat→Nat→Prop
 | one {i:Nat}{o:Oper}{e:Edge}:ops[i]?=some o→e∈o.after→mf e.ground=true→Ay ops i e.on
 | more {i j:Nat}{o:Oper}{e:Edge}:ops[i]?=some o→e∈o.after→mf e.ground=true→Ay ops e.on j→Ay ops i j
theorem Bi {k:Nat}:∀ {a l:List Nat},k∈DL a l→k∈a∨k∈l
 | [],l,h=>.inr h
 | x::r,l,h=>by
  simp only[DL]at h
  split at h
  ·rcases Bi h with h | h
   ·exact .inl (.tail _ h)
   ·exact .inr h
  ·rcases Bi h with h | h
   ·exact .inl (.tail _ h)
   ·rcases List.mem_cons.1 h with rfl | h
    ·exact .inl (.head _)
    ·exact .inr h
def Ls (ops:Array Oper) (tab:List (Nat×List Nat)):Prop:=∀ i l,get tab i=some l→∀ j∈l,Ay ops i j
theorem Me {ops:Array Oper}{tab:List (Nat×List Nat)}(ht:Ls ops tab) {i:Nat}{o:Oper}(ho:ops[i]?=some o):∀ {es:List Edge},(∀ e∈es,e∈o.after)→∀ j,j∈F6 tab es→Ay ops i j
 | [],_,j,h=>by simp[F6]at h
 | e::r,hes,j,h=>by
  simp only[F6]at h
  have hr:=Me ht ho (es:=r) (fun x hx=>hes x (.tail _ hx)) j
  split at h
  ·rename_i hw
   rcases Bi h with h | h
   ·rcases List.mem_cons.1 h with rfl | h
    ·exact .one ho (hes e (.head _)) hw
    ·split at h
     ·rename_i l hl
      exact .more ho (hes e (.head _)) hw (ht _ _ hl _ h)
     ·simp at h
   ·exact hr h
  ·exact hr h
theorem IC {ops:Array Oper}:∀ {l:List Nat}{tab:List (Nat×List Nat)},Ls ops tab→Ls ops (wS ops l tab)
 | [],_,ht=>ht
 | i::l,tab,ht=>by
  simp only[wS]
  refine IC fun k m h j hj=>?_
  rw[bq]at h
  split at h
  ·rename_i e
   subst e
   simp only[Option.some.injEq]at h;subst h
   split at hj
   ·rename_i o ho
    exact Me ht ho (fun e he=>Array.mem_toList_iff.1 he) j hj
   ·simp at hj
  ·exact ht k m h j hj
def aat (anc:List (Nat×List Nat)) (nr:List Nat) (vs:List VI) (j i:Nat):Prop :=
 (jz anc i j=true∨∃ u v,vs[j]?=some u∧vs[i]?=some v∧fb (bJ j nr) (bJ i nr) u v=true)∨(jX anc vs i=true∧(∀ k,k<vs.length→jz anc k i=true→jz anc k j=true)∧jz anc j i=false)
theorem MY {anc:List (Nat×List Nat)}{i j:Nat}:∀ {n:Nat},Mr anc i j n=true→∀ k,k<n→jz anc k i=true→jz anc k j=true
 | 0,_,k,hk,_=>by omega
 | n+1,h,k,hk,hd=>by
  simp only[Mr,Bool.and_eq_true,Bool.or_eq_true,Bool.not_eq_true']at h
  by_cases e:k=n
  ·subst e
   rcases h.1 with h1 | h1
   ·rw[h1]at hd;simp at hd
   ·exact h1
  ·exact MY h.2 k (by omega) hd
theorem ad3 {ops:Array Oper}{anc:List (Nat×List Nat)}(ha:Ls ops anc) {k i:Nat}(h:jz anc k i=true):Ay ops k i:=by
 unfold jz at h
 split at h
 ·rename_i l hl;exact ha _ _ hl _ (jR.1 h)
 ·simp at h
structure q7 (P:Program) (n:Nat) (ops:Array Oper) (nr:List Nat) (vs:List VI) (perm:List Nat) (anc:List (Nat×List Nat)):Prop where
 len:vs.length=ops.size
 vi:∀ (i:Nat) (v:VI) (o:Oper),vs[i]?=some v→ops[i]?=some o→pI P n ops v o=true
 edge:∀ (i:Nat) (o:Oper),ops[i]?=some o→∀ e∈o.after,e.on<ops.size∧(txG e.ground=true→e.on<i)
 pair:perm.Pairwise fun j i=>aat anc nr vs j i
 path:∀ k i,jz anc k i=true→Ay ops k i
 gco:∃ gl:List Nat,(∀ i,i<ops.size→i∈gl)∧gl.Pairwise (fun j i=>∀ o,ops[j]?=some o→∀ e∈o.after,Mu e.ground=true→e.on≠i)∧∀ j∈gl,∀ o,ops[j]?=some o→∀ e∈o.after,Mu e.ground=true→e.on≠j
 nd:perm.Nodup
 lt:∀ i∈perm,i<ops.size
 near:∀ (i:Nat) (v:VI),bJ i nr=true→vs[i]?=some v→iZ v.op≠.read∨∃ R M,ei v=some (.q,R,M)
 all:∀ i,i<ops.size→i∈perm
theorem ID {P:Program}{n:Nat}{ops:Array Oper}{k:Nat}:∀ {vs:List VI}{os:List Oper}{b:Nat},vg P n ops k b vs os=true→vs.length=os.length∧
  ∀ (i:Nat) (v:VI) (o:Oper),vs[i]?=some v→os[i]?=some o→pI P n ops v o=true∧∀ e∈o.after,e.on<k∧(txG e.ground=true→e.on<b+i)
 | [],[],_,_=>⟨rfl,fun i v o h=>by simp at h⟩
 | x::vs,p::os,b,h=>by
  simp only[vg,Bool.and_eq_true]at h
  obtain⟨⟨h1,h3⟩,h4⟩:=h
  obtain⟨k1,k2⟩:=ID h4
  refine⟨by simp[k1],fun i v o hv ho=>?_⟩
  cases i with
  | zero =>
   simp only[List.getElem?_cons_zero,Option.some.injEq]at hv ho
   subst hv ho
   refine⟨h1,fun e he=>?_⟩
   have:=List.all_eq_true.1 h3 e (Array.mem_toList_iff.2 he)
   simp only[Bool.and_eq_true,Bool.or_eq_true,Bool.not_eq_true',Nat.blt_eq]at this
   refine⟨this.1,fun ht=>?_⟩
   rcases this.2 with h | h
   ·rw[ht]at h;simp at h
   ·omega
  | succ i =>
   simp only[List.getElem?_cons_succ]at hv ho
   obtain⟨q1,q2⟩:=k2 i v o hv ho
   exact⟨q1,fun e he=>⟨(q2 e he).1,fun ht=>by have:=(q2 e he).2 ht;omega⟩⟩
 | [],_::_,_,h=>by simp[vg]at h
 | _::_,[],_,h=>by simp[vg]at h
theorem Iz {anc:List (Nat×List Nat)}{nr:List Nat}{vs:List VI}{j:Nat}:∀ {l:List Nat},FH anc nr vs j l=true→∀ i∈l,aat anc nr vs j i
 | [],_,i,hi=>by simp at hi
 | x::r,h,i,hi=>by
  simp only[FH,Bool.and_eq_true,Bool.or_eq_true]at h
  rcases List.mem_cons.1 hi with rfl | hi
  ·rcases h.1 with (h | h) | h
   ·exact .inl (.inl h)
   ·split at h
    ·rename_i u v h1 h2
     exact .inl (.inr ⟨u,v,h1,h2,h⟩)
    ·simp at h
   ·simp only[Bool.not_eq_true']at h;exact .inr ⟨h.1.1,MY h.1.2,h.2⟩
  ·exact Iz h.2 i hi
theorem aaG {ops:Array Oper}{j:Nat}{l:List Nat}(h:Xn ops j l=true):∀ i∈l,∀ o,ops[j]?=some o→∀ e∈o.after,Mu e.ground=true→e.on≠i:=by
 intro i hi o ho e he hg heq
 unfold Xn at h
 rw[ho]at h
 have:=List.all_eq_true.1 h e (Array.mem_toList_iff.2 he)
 rw[heq,jR.2 hi,hg]at this
 simp at this
theorem T3 {ops:Array Oper}:∀ {l:List Nat},VS ops l=true→l.Pairwise (fun j i=>∀ o,ops[j]?=some o→∀ e∈o.after,Mu e.ground=true→e.on≠i)∧∀ j∈l,∀ o,ops[j]?=some o→∀ e∈o.after,Mu e.ground=true→e.on≠j
 | [],_=>⟨.nil,fun i hi=>by simp at hi⟩
 | j::r,h=>by
  simp only[VS,Bool.and_eq_true]at h
  obtain⟨h0,h4⟩:=h
  obtain⟨k4,k5⟩:=T3 h4
  have hw:=aaG h0
  refine⟨.cons (fun i hi=>hw i (.tail _ hi)) k4,fun i hi=>?_⟩
  rcases List.mem_cons.1 hi with rfl | hi
  ·exact hw _ (.head _)
  ·exact k5 i hi
theorem Ig {ops:Array Oper}{anc:List (Nat×List Nat)}{nr:List Nat}{vs:List VI}:∀ {l:List Nat},FA ops anc nr vs l=true→l.Pairwise (fun j i=>aat anc nr vs j i)∧
  l.Nodup∧∀ i∈l,i<vs.length
 | [],_=>⟨.nil,.nil,fun i hi=>by simp at hi⟩
 | j::r,h=>by
  simp only[FA,Bool.and_eq_true,Bool.not_eq_true']at h
  obtain⟨⟨⟨h1,h2⟩,h3⟩,h4⟩:=h
  obtain⟨k1,k2,k3⟩:=Ig h4
  refine⟨.cons (Iz h1) k1,List.nodup_cons.2 ⟨fun hm=>?_,k2⟩,fun i hi=>?_⟩
  ·rw[jR.2 hm]at h2;simp at h2
  ·rcases List.mem_cons.1 hi with rfl | hi
   ·rwa [Nat.blt_eq]at h3
   ·exact k3 i hi
theorem D9 {l:List Nat}:∀ {n:Nat},MB l n=true→∀ i,i<n→i∈l
 | 0,_,i,hi=>by omega
 | n+1,h,i,hi=>by
  simp only[MB,Bool.and_eq_true]at h
  rcases Nat.lt_or_ge i n with h1 | h1
  ·exact D9 h.2 i h1
  ·have:i=n:=by omega
   subst this
   exact jR.1 h.1
theorem Tq {vs:List VI}:∀ {nr:List Nat},VK vs nr=true→∀ (i:Nat) (v:VI),bJ i nr=true→vs[i]?=some v→iZ v.op≠.read∨∃ R M,ei v=some (.q,R,M)
 | [],_,i,v,h,_=>by simp[bJ]at h
 | j::r,h,i,v,hg,hv=>by
  simp only[VK,Bool.and_eq_true]at h
  rcases List.mem_cons.1 (jR.1 hg) with e | hm
  ·subst e
   have h1:=h.1
   rw[hv]at h1
   simp only[Bool.or_eq_true,Bool.not_eq_true']at h1
   rcases h1 with h1 | h1
   ·exact .inl fun h=>by unfold vV at h1;rw[h]at h1;simp at h1
   ·exact .inr (J8 h1)
  ·exact Tq h.2 i v (jR.2 hm) hv
theorem agv {P:Program}{n:Nat}{ops:Array Oper}{gco nr:List Nat}{vs:List VI}{perm:List Nat}(h:v4 P n ops perm gco nr vs=true):q7 P n ops nr vs perm (wS ops perm []):=by
 simp only[v4,Bool.and_eq_true]at h
 obtain⟨⟨⟨⟨⟨h1,hnr⟩,hga⟩,hg⟩,h2⟩,h3⟩:=h
 obtain⟨g1,g2⟩:=T3 hg
 obtain⟨k1,k2⟩:=ID h1
 have hl:vs.length=ops.size:=by rw[k1];simp
 have ha:Ls ops (wS ops perm []):=IC fun i l h=>by simp[mc]at h
 obtain⟨q1,q2,q3⟩:=Ig h3
 have hget:∀ (i:Nat) (o:Oper),ops[i]?=some o→ops.toList[i]?=some o:=fun i o h=>by rw[Array.getElem?_toList];exact h
 refine⟨hl,fun i v o hv ho=>(k2 i v o hv (hget i o ho)).1,fun i o ho e he=>?_,q1,fun k i h=>ad3 ha h,⟨gco,fun i hi=>D9 hga i (by omega),g1,g2⟩,q2,fun i hi=>by have:=q3 i hi;omega,Tq hnr,fun i hi=>?_⟩
 ·have hi:i<vs.length:=by
   rw[hl]
   rcases Nat.lt_or_ge i ops.size with h | h
   ·exact h
   ·rw[Array.getElem?_eq_none h]at ho;simp at ho
  have:=(k2 i vs[i] o (by simp) (hget i o ho)).2 e he
  exact⟨by omega,fun ht=>by have:=this.2 ht;omega⟩
 ·exact D9 h2 i (by omega)
end Go.Vm
namespace Go.Vm
section
variable {P:Program}{r:br}
theorem VZ {g:Gh}{w:World}:∀ {l:ac}{O:Nat→Nat},pY P g w l O→∀ {id:Nat}{o:Obj},get l id=some o→∃ b,g.obj id=some b
 | [],_,_,id,o,h=>by simp[mc]at h
 | (k,v)::l,O,rh,id,o,h=>by
  obtain⟨Q1,Q2,q1,q2,_⟩:=rh
  rw[bq]at h
  split at h
  ·rename_i e
   subst e
   cases v with
   | cells cs=>simp only[bl]at q1;obtain⟨b,_,_,_,h,_⟩:=q1;exact⟨b,h⟩
   | arr m xs =>
    simp only[bl]at q1
    rcases q1 with ⟨_,_,_,_,h,_⟩ | ⟨b,_,_,h,_⟩
    ·exact h
    ·exact⟨b,h⟩
   | loop _ _ _ _ _ _=>simp only[bl]at q1;obtain⟨b,_,h,_⟩:=q1;exact⟨b,h⟩
  ·exact VZ q2 h
theorem S.heap_fresh {g:Gh}{w:World}{t:Array Value}{O:Nat→Nat}{st:St}(s:S P g w st t O) {id:Nat}(h:st.hs.next≤id):get st.hs.heap id=none:=by
 obtain⟨Oe,Oh,re,rh,ho⟩:=s.parts
 cases hg:get st.hs.heap id with
 | none=>rfl
 | some o =>
  obtain⟨b,hb⟩:=VZ rh hg
  rw[s.fresh id h]at hb;simp at hb
theorem Ci {nr:List Nat}{i:Nat}{F:List Nat}{v:VI}{st ae:St}(hn:bJ i nr=true→iZ v.op≠.read∨∃ R M,ei v=some (.q,R,M)) (hsrt:aX st.env) (h:aF r (bJ i nr) F v st=some ae):aS r v st=some ae:=by
 obtain⟨e,hs⟩:=st
 cases hg:bJ i nr with
 | false=>rw[hg]at h;exact h
 | true =>
  rw[hg]at h
  rcases hn hg with h1 | ⟨R,M,h1⟩
  ·exact aad (R:=[]) (M:=[]) hsrt (.inr (.inl h1)) h
  ·exact aad hsrt (.inr (.inr h1)) h
theorem Im {nr:List Nat}{vs:List VI}{i:Nat}{v:VI}(hv:vs[i]?=some v) (hk:kS (bJ i nr) v=true) {l2:List Nat}:∀ {l1:List Nat}{F:List Nat}{st st':St},(∀ j∈l1,∃ u,vs[j]?=some u∧fb (bJ j nr) (bJ i nr) u v=true)→aX st.env→
  ct r nr vs (l1++i::l2) F st=some st'→ct r nr vs (i::(l1++l2)) F st=some st'
 | [],F,st,st',_,_,h=>h
 | j::l1,F,st,st',hj,inv,h=>by
  obtain⟨u,hu,hm⟩:=hj j (.head _)
  simp only[List.cons_append,ct,hu]at h
  split at h
  ·simp at h
  ·rename_i ae h1
   have h2:=Im hv hk (fun k hk=>hj k (.tail _ hk)) (adz hm hk inv h1) h
   simp only[ct,hv]at h2
   split at h2
   ·simp at h2
   ·rename_i st2 h3
    obtain⟨st1',k1,k2,k3⟩:=aiE hm hk inv h1 h3
    simp only[ct,hv,k1,List.cons_append,hu,k2]
    exact I2 k3 h2
theorem Ix {nr:List Nat}{vs:List VI}{i:Nat}{v:VI}(hv:vs[i]?=some v) (hk:kS (bJ i nr) v=false) {l2:List Nat}:∀ {l1:List Nat}{F:List Nat}{st st':St},(∀ j∈l1,∃ u,vs[j]?=some u∧fb (bJ j nr) (bJ i nr) u v=true)→bp st→
  ct r nr vs (l1++i::l2) F st=some st'→ct r nr vs (i::(l1++l2)) F st=some st'
 | [],F,st,st',_,_,h=>h
 | j::l1,F,st,st',hj,inv,h=>by
  obtain⟨u,hu,hm⟩:=hj j (.head _)
  simp only[List.cons_append,ct,hu]at h
  split at h
  ·simp at h
  ·rename_i ae h1
   have h2:=Ix hv hk (fun k hk=>hj k (.tail _ hk)) (ads hm hk inv h1) h
   simp only[ct,hv]at h2
   split at h2
   ·simp at h2
   ·rename_i st2 h3
    obtain⟨st1',k1,k2,k3⟩:=aig hm inv h1 h3
    simp only[ct,hv,k1,List.cons_append,hu,k2]
    exact I2 k3 h2
theorem If {nr:List Nat}{vs:List VI}{i:Nat}{v:VI}(hv:vs[i]?=some v) {l2 l1:List Nat}{F:List Nat}{st st':St}(hj:∀ j∈l1,∃ u,vs[j]?=some u∧fb (bJ j nr) (bJ i nr) u v=true) (inv:bp st)
  (h:ct r nr vs (l1++i::l2) F st=some st'):ct r nr vs (i::(l1++l2)) F st=some st':=by
 cases hk:kS (bJ i nr) v with
 | true=>exact Im hv hk hj inv.se h
 | false=>exact Ix hv hk hj inv h
theorem Qt {α:Type}:∀ {l:List (Nat×α)},aX l→∀ {p:Nat×α},p∈l→get l p.1=some p.2
 | [],_,p,hp=>by simp at hp
 | (k,v)::r,hs,p,hp=>by
  rw[bq]
  rcases List.mem_cons.1 hp with rfl | hp
  ·simp
  ·have h1:=(List.pairwise_cons.1 hs).1 p hp
   have:k≠p.1:=(tj.ne h1).symm
   rw[if_neg this]
   exact Qt (List.pairwise_cons.1 hs).2 hp
theorem OP {anc:List (Nat×List Nat)}{d:Nat}{l:List Nat}{i:Nat}:∀ {vs:List VI}{b:Nat},Np anc d l i b vs=true→∀ k v,vs[k]?=some v→b+k≠i→jz anc (b+k) i=true∨∃ R M,eN v=some (R,M)∧d∉M∧(jz anc i (b+k)=true∨∀ q∈l,q∉M)
 | [],_,_,k,v,h,_=>by simp at h
 | x::r,b,h,k,v,hv,hne=>by
  simp only[Np,Bool.and_eq_true,Bool.or_eq_true]at h
  cases k with
  | zero =>
   simp only[List.getElem?_cons_zero,Option.some.injEq]at hv
   subst hv
   rcases h.1 with (h1 | h1) | h1
   ·rw[Nat.beq_eq]at h1;omega
   ·exact .inl h1
   ·split at h1
    ·rename_i R M hf
     simp only[Bool.and_eq_true,Bool.or_eq_true,Bool.not_eq_true']at h1
     refine .inr ⟨R,M,hf,fun hm=>?_,h1.2.imp id cb⟩
     rw[jR.2 hm]at h1;simp at h1
    ·simp at h1
  | succ k =>
   simp only[List.getElem?_cons_succ]at hv
   have:=OP h.2 k v hv (by omega)
   rwa [show b+1+k=b+(k+1) by omega]at this
theorem uu {v:VI}{d:Nat}(h:dg v=some d):(∃ zs,v=⟨some d,none,.alloc zs,[]⟩)∨∃ z l c th,v=⟨some d,none,.mkslice z l c,th⟩∧mM l=true∧mM c=true:=by
 obtain⟨dst,gd,op,th⟩:=v
 unfold dg at h
 simp only at h
 split at h
 ·subst h;exact .inl ⟨_,rfl⟩
 ·split at h
  ·rename_i l c hs
   subst h
   simp only[Bool.and_eq_true]at hs
   exact .inr ⟨_,_,_,_,rfl,hs.1,hs.2⟩
  ·simp at h
 ·simp at h
theorem mZ {v:VI}{d:Nat}(h:dg v=some d):v.dst=some d∧v.guard=none∧v.op≠.bad:=by
 rcases uu h with ⟨zs,rfl⟩ | ⟨z,l,c,th,rfl,_,_⟩<;>exact⟨rfl,rfl,by simp⟩
theorem lW {anc:List (Nat×List Nat)}{vs:List VI}{i:Nat}(h:jX anc vs i=true):∃ v d,vs[i]?=some v∧dg v=some d∧(∀ k u,vs[k]?=some u→k≠i→jz anc k i=true∨∃ R M,eN u=some (R,M)∧d∉M∧(jz anc i k=true∨∀ q∈mW v,q∉M))∧∀ j,jz anc i j=true→jX anc vs j=false:=by
 unfold jX at h
 split at h
 ·rename_i v hv
  split at h
  ·rename_i d hd
   simp only[Bool.and_eq_true]at h
   refine⟨v,d,hv,hd,fun k u hk hne=>by simpa using OP h.1 k u hk (by omega),fun j hj=>?_⟩
   unfold jz at hj
   split at hj
   ·rename_i l hl
    have h2:=h.2
    rw[hl]at h2
    have:=List.all_eq_true.1 h2 j (jR.1 hj)
    unfold jX
    cases hvj:vs[j]? with
    | none=>rfl
    | some u =>
     rw[hvj]at this
     simp only at this⊢
     cases hu:dg u with
     | none=>rfl
     | some d2=>rw[hu]at this;simp at this
   ·simp at hj
  ·simp at h
 ·simp at h
theorem Tj {v:VI}{k:pC}{R M:List Nat}(h:ei v=some (k,R,M)):eN v=some (R,M):=by simp only[eN,h]
theorem T7 {a b:Bool}{u v:VI}(h:fb a b u v=true) (hne:fN a b u v=false):∃ R1 M1 R2 M2,eN u=some (R1,M1)∧eN v=some (R2,M2)∧(∀ k∈M1,k∉R2∧k∉M2)∧∀ k∈M2,k∉R1:=by
 have sub:∀ {a:Bool}{v:VI}{R M:List Nat},mO a v=some (R,M)→∃ R',eN v=some (R',M)∧∀ k∈R',k∈R:=fun {a v R M} h=>by
  unfold mO at h
  split at h
  ·rename_i R0 M0 h0
   cases a with
   | false=>simp only[Option.some.injEq,Prod.mk.injEq]at h;obtain⟨rfl,rfl⟩:=h;exact⟨_,h0,fun k hk=>hk⟩
   | true=>simp only[Option.some.injEq,Prod.mk.injEq]at h;obtain⟨rfl,rfl⟩:=h;exact⟨_,h0,fun k hk=>List.mem_append_left _ hk⟩
  ·simp at h
 have ap:tg a b u v=true→∃ R1 M1 R2 M2,eN u=some (R1,M1)∧eN v=some (R2,M2)∧(∀ k∈M1,k∉R2∧k∉M2)∧∀ k∈M2,k∉R1:=fun h=>by
  obtain⟨R1,M1,R2,M2,f1,f2,d1,d2⟩:=jP h
  obtain⟨R1',f1',s1⟩:=sub f1
  obtain⟨R2',f2',s2⟩:=sub f2
  exact⟨R1',M1,R2',M2,f1',f2',fun k hk=>⟨fun h=>(d1 k hk).1 (s2 k h),(d1 k hk).2⟩,fun k hk h=>(d2 k hk).1 (s1 k h)⟩
 simp only[fb,Bool.or_eq_true,hne,Bool.false_eq_true,or_false,Bool.and_eq_true]at h
 rcases h with h | h
 ·simp only[FZ,Bool.and_eq_true]at h
  exact ap h.1
 ·simp only[L7,Bool.and_eq_true,Bool.or_eq_true]at h
  rcases h.2.2 with h | h
  ·unfold u6 at h
   split at h
   ·rename_i k1 R1 M1 k2 R2 M2 e1 e2
    simp only[Bool.and_eq_true]at h
    obtain⟨⟨⟨_,a1⟩,a2⟩,a3⟩:=h
    exact⟨R1,M1,R2,M2,Tj e1,Tj e2,fun k hk=>⟨cb a1 k hk,cb a2 k hk⟩,fun k hk=>cb a3 k hk⟩
   ·simp at h
  ·exact ap h.1
theorem NO {a b:Bool}{u v:VI}{d:Nat}(hu:dg u=some d):fN a b u v=false∧fN b a v u=false:=by
 rcases uu hu with ⟨zs,rfl⟩ | ⟨z,l,c,th,rfl,_,_⟩
 ·exact⟨by simp[fN],by unfold fN;cases v.op<;>simp⟩
 ·exact⟨by simp[fN],by unfold fN;cases v.op<;>simp⟩
theorem MQ {v:VI}{d:Nat}(hv:dg v=some d) {R M:List Nat}(h:eN v=some (R,M)):∀ q∈mW v,q∈R:=by
 rcases uu hv with ⟨zs,rfl⟩ | ⟨z,l,c,th,rfl,_,_⟩
 ·intro q hq;simp[mW]at hq
 ·intro q hq
  cases th with
  | nil =>
   simp only[eN,ei,mD,qX,Option.some.injEq,Prod.mk.injEq]at h
   rw[←h.1]
   simp only[xK]
   exact List.mem_append_left _ hq
  | cons p th =>
   simp only[eN,ei,mD,qX,Option.some.injEq,Prod.mk.injEq]at h
   rw[←h.1]
   simp only[xK]
   exact List.mem_append_left _ hq
theorem aav {a b:Bool}{u v:VI}{d:Nat}(h:fb a b u v=true) (hu:dg u=some d):∃ R M,eN v=some (R,M)∧∀ q∈d::mW u,q∉M:=by
 obtain⟨R1,M1,R2,M2,f1,f2,h1,h2⟩:=T7 h (NO hu).1
 refine⟨R2,M2,f2,fun q hq hm=>?_⟩
 rcases List.mem_cons.1 hq with rfl | hq
 ·exact(h1 q (sW f1 (mZ hu).1)).2 hm
 ·exact h2 q hm (MQ hu f1 q hq)
theorem LE {a b:Bool}{u v:VI}{d:Nat}(h:fb a b u v=true) (hv:dg v=some d):∃ R M,eN u=some (R,M)∧∀ q∈d::mW v,q∉M:=by
 obtain⟨R1,M1,R2,M2,f1,f2,h1,h2⟩:=T7 h (NO hv).2
 refine⟨R1,M1,f1,fun q hq hm=>?_⟩
 rcases List.mem_cons.1 hq with rfl | hq
 ·exact(h1 q hm).2 (sW f2 (mZ hv).1)
 ·exact(h1 q hm).1 (MQ hv f2 q hq)
theorem aac {e e':am}{x:Rd}(hs:mM x=true) (h:∀ q∈gk x,get e' q=get e q) {v:AV}{e1:am}(hr:rd e x=some (v,e1)):e1=e∧rd e' x=some (v,e'):=by
 cases x with
 | s i =>
  have hi:=h i (by simp[gk])
  simp only[rd]at hr⊢
  split at hr
  ·rename_i u hu
   simp only[Option.some.injEq,Prod.mk.injEq]at hr
   obtain⟨rfl,rfl⟩:=hr
   rw[hi,hu]
   exact⟨rfl,rfl⟩
  ·simp at hr
 | m i=>simp[mM]at hs
 | c u =>
  simp only[rd,Option.some.injEq,Prod.mk.injEq]at hr⊢
  exact⟨hr.2.symm,hr.1,trivial⟩
theorem ZC {z:List D}{l c:Rd}{st st2:St}{a:AV}{ae:St}(hl:mM l=true) (hc:mM c=true) (h:∀ q∈aE [l,c],get st2.env q=get st.env q) (hr:fB z l c st=some (a,ae)):ae=st∧fB z l c st2=some (a,st2):=by
 unfold fB at hr⊢
 split at hr
 ·rename_i n e hn
  obtain⟨rfl,h1⟩:=aac hl (fun q hq=>h q (by simp[aE,hq])) hn
  rw[h1]
  split at hr
  ·rename_i m e2 hm
   obtain⟨rfl,h2⟩:=aac hc (fun q hq=>h q (by simp[aE,hq])) hm
   simp only[h2]
   split at hr
   ·rename_i cc hcc
    split at hr
    ·rename_i nn hnn
     simp only[Option.some.injEq,Prod.mk.injEq]at hr
     obtain⟨rfl,rfl⟩:=hr
     exact⟨rfl,by simp[hcc,hnn]⟩
    ·simp at hr
   ·simp at hr
  ·simp at hr
 ·simp at hr
inductive po (g:Gh) (w:World) (st:St) (d:Nat):VI→Value→(Nat→Nat)→Prop
 | var {zs:List AV}{b:Nat}{c:Array Value}{el:TypeId}:gU zs c.toList=true→w.heap[b]?=some (.cells c el (0,0))→(∀ o,¬ g.pm b o)→po g w st d ⟨some d,none,.alloc zs,[]⟩ (.pointer (some ⟨b,0,none⟩)) (one b)
 | list {z:List D}{l c:Rd}{th:List (Nat×Nat)}{a:AV}{x:Value}{A:Nat→Nat}:mM l=true→mM c=true→fB z l c st=some (a,st)→RV g w a x A→po g w st d ⟨some d,none,.mkslice z l c,th⟩ x A
structure amz (g:Gh) (w:World) (t:Array Value) (O:Nat→Nat) (st:St) (anc:List (Nat×List Nat)) (vs:List VI) (i:Nat) (A:Nat→Nat):Prop where
 late:jX anc vs i=true
 hi:∀ b,A b≠0→b<w.heap.size
 le:∀ b,A b+O b≤1
 it:∃ v d x,vs[i]?=some v∧d<t.size∧t[d]?=some x∧po g w st d v x A
theorem po.dst {g:Gh}{w:World}{st:St}{d:Nat}{v:VI}{x:Value}{A:Nat→Nat}(h:po g w st d v x A):dg v=some d:=by
 cases h with
 | var _ _ _=>rfl
 | list h1 h2 _ _=>simp[dg,h1,h2]
theorem po.keep {g g':Gh}{w w':World}{st st':St}{d:Nat}{v:VI}{x:Value}{A:Nat→Nat}{T:Nat→Prop}(h:po g w st d v x A) (hx:az g w g' w' T) (hA:∀ b,A b≠0→b<w.heap.size∧¬ T b)
  (he:∀ q∈mW v,get st'.env q=get st.env q):po g' w' st' d v x A:=by
 cases h with
 | var h1 h2 h3 =>
  rename_i zs b c el
  have hb:=hA b (by simp)
  obtain⟨b1,b2⟩:=hx.blk b hb.1 hb.2
  exact .var h1 (b1.trans h2) fun o ho=>h3 o (b2 o ho)
 | list h1 h2 h3 h4=>exact .list h1 h2 (ZC h1 h2 he h3).2 (RV.ext hx _ _ _ h4 fun b hb=>(hA b hb).2)
theorem S.adopt {g:Gh}{w:World}{t:Array Value}{O:Nat→Nat}{st:St}{zs:List AV}{d b:Nat}{c:Array Value}{el:_}(s:S P g w st t O) (hb:b<w.heap.size) (h0:O b=0) (hp:∀ o,¬ g.pm b o) (hz:gU zs c.toList=true)
  (hh:w.heap[b]?=some (.cells c el (0,0))) (hd:d<t.size) (ht:t[d]?=some (.pointer (some ⟨b,0,none⟩))) :
  ∃ g' O',S P g' w ⟨put st.env d (.ptr st.hs.next 0),⟨put st.hs.heap st.hs.next (.cells zs),st.hs.next+1⟩⟩ t O'∧az g w g' w (fun _=>False)∧(∀ x,x≠b→O' x≤O x)∧g'.pm=g.pm:=by
 have hn:=s.fresh st.hs.next (Nat.le_refl _)
 have hx:az g w (g.add st.hs.next b 0 1 zs.length) w (fun _=>False):=(az.refl g w _).add hn _ _ _ _
 have hfr:=s.heap_fresh (Nat.le_refl st.hs.next)
 obtain⟨Oe,Oh,re,rh,ho⟩:=s.parts
 have re':=eO.ext hx re (by simp)
 have rh':pY P (g.add st.hs.next b 0 1 zs.length) w st.hs.heap Oh:=rh.imp' fun k v O1 _ _ q=>q.ext hx (by simp) (by simp)
 have hk:∀ p∈st.hs.heap,p.1≠st.hs.next:=by
  intro p hp e
  have:=Qt s.sh hp
  rw[e,hfr]at this
  simp at this
 have r:bl P (g.add st.hs.next b 0 1 zs.length) w st.hs.next (.cells zs) (fun x=>zero x+one b x):=by
  simp only[bl]
  exact⟨b,c,el,zero,by simp[Gh.add],by simp[Gh.add],by simp[Gh.add],by simp[Gh.add],hh,ai.consts hz,fun o ho=>hp o ho,fun _=>rfl⟩
 rw[←jr hk]at rh'
 obtain⟨O3,r3,h3⟩:=RL.put s.sh rh' r
 have hle:∀ x,one b x+O x≤1:=fun x=>by
  by_cases e:x=b
  ·subst e;rw[h0];simp[one]
  ·have:=s.le x;simp[one,e];exact this
 have s1:S P (g.add st.hs.next b 0 1 zs.length) w ⟨st.env,⟨put st.hs.heap st.hs.next (.cells zs),st.hs.next+1⟩⟩ t (fun x=>one b x+O x):=by
  refine⟨s.se,s.sh.put _ _,⟨Oe,O3,re',r3,fun x=>?_⟩,hle,fun x hxx=>?_,fun i hi=>?_,s.pmlt⟩
  ·have q1:=h3 x;have q2:=ho x;have z:zero x=0:=rfl;show one b x+O x=Oe x+O3 x;omega
  ·by_cases e:x=b
   ·subst e;exact hb
   ·exact s.hi x (by simp[one,e]at hxx;exact hxx)
  ·have hi':st.hs.next+1≤i:=hi
   simp only[Gh.add]
   rw[if_neg (by omega)]
   exact s.fresh i (by omega)
 have rv:RV (g.add st.hs.next b 0 1 zs.length) w (.ptr st.hs.next 0) (.pointer (some ⟨b,0,none⟩)) zero:=by
  simp only[RV]
  exact⟨⟨b,by simp[Gh.add],by simp[Gh.add]⟩,fun _=>trivial⟩
 obtain⟨O4,s4,l4⟩:=s1.setTmp hd rv (fun x=>by have:=hle x;simpa using this) (fun x hx=>by simp at hx)
 have htt:t.setIfInBounds d (.pointer (some ⟨b,0,none⟩))=t:=by
  apply Array.ext_getElem?
  intro k
  rw[Array.getElem?_setIfInBounds]
  by_cases e:d=k
  ·subst e;rw[if_pos rfl,if_pos hd,ht]
  ·simp[e]
 rw[htt]at s4
 exact⟨_,O4,s4,hx,fun x hne=>by
  have q:=l4 x
  have z:zero x=0:=rfl
  have o1:one b x=0:=by simp[one,hne]
  omega,rfl⟩
theorem S.setOther {g:Gh}{w:World}{t:Array Value}{O:Nat→Nat}{st:St}(s:S P g w st t O) {d:Nat}(hd:get st.env d=none) (x:Value):S P g w st (t.setIfInBounds d x) O:=by
 obtain⟨Oe,Oh,re,rh,ho⟩:=s.parts
 refine⟨s.se,s.sh,⟨Oe,Oh,re.imp' fun k v O1 hm _ q=>?_,rh,ho⟩,s.le,s.hi,s.fresh,s.pmlt⟩
 have hk:d≠k:=by
  rintro rfl
  have:=Qt s.se hm
  rw[hd]at this;simp at this
 refine⟨by simpa using q.1,?_⟩
 have:(t.setIfInBounds d x).getD k undef=t.getD k undef:=by
  simp only[Array.getD_eq_getD_getElem?,Array.getElem?_setIfInBounds]
  rw[if_neg hk]
 rw[this];exact q.2
theorem po.make {g:Gh}{w:World}{t:Array Value}{O:Nat→Nat}{st ae:St}{d:Nat}{v:VI}{x:Value}{A:Nat→Nat}(h:po g w st d v x A) (s:S P g w st t O) (hle:∀ b,A b+O b≤1) (hhi:∀ b,A b≠0→b<w.heap.size) (hd:d<t.size) (ht:t[d]?=some x)
  (hr:aS r v st=some ae):∃ g' O',S P g' w ae t O'∧az g w g' w (fun b=>A b≠0∨O b≠0)∧(∀ b,O' b≤A b+O b):=by
 cases h with
 | var h1 h2 h3 =>
  rename_i zs b c el
  have h9:ae=⟨put st.env d (.ptr st.hs.next 0),⟨put st.hs.heap st.hs.next (.cells zs),st.hs.next+1⟩⟩:=by
   simp only[aS,cR,aY,qW,vy,aI,firm,sP,gy,Option.some.injEq]at hr
   exact hr.symm
  have hob:O b=0:=by have:=hle b;simp at this;omega
  obtain⟨g',O',s',x',l',_⟩:=s.adopt (hhi b (by simp)) hob h3 h1 h2 hd ht
  rw[←h9]at s'
  refine⟨g',O',s',x'.mono fun _ _ h=>h.elim,fun q=>?_⟩
  by_cases e:q=b
  ·subst e;have:=s'.le q;simp;omega
  ·have:=l' q e;omega
 | list h1 h2 h3 h4 =>
  rename_i z l c th a
  simp only[aS]at hr
  obtain⟨v',st2,hv,rfl⟩:=FD hr
  simp only[aY]at hv
  rw[h3]at hv
  simp only[Option.some.injEq,Prod.mk.injEq]at hv
  obtain⟨rfl,rfl⟩:=hv
  obtain⟨g2,Ov2,O2,r2,s2,x2,l2⟩:=yb (P:=P) (t:=t) th (env:=st.env) (hs:=st.hs) s h4 hle hhi
  have hle2:∀ b,Ov2 b+O2 b≤1:=fun b=>Nat.le_trans (l2 b) (hle b)
  obtain⟨g3,r3,s3,x3⟩:=Xe s2 r2 hle2
  obtain⟨O4,s4,l4⟩:=s3.setTmp hd r3 hle2 fun b hb=>by
   by_cases h:A b=0
   ·exact s.hi b (by have:=l2 b;omega)
   ·exact hhi b h
  have htt:t.setIfInBounds d x=t:=by
   apply Array.ext_getElem?
   intro k
   rw[Array.getElem?_setIfInBounds]
   by_cases e:d=k
   ·subst e;rw[if_pos rfl,if_pos hd,ht]
   ·simp[e]
  rw[htt]at s4
  exact⟨g3,O4,s4,(x2.mono (T:=fun b=>A b≠0∨O b≠0) fun _ _ h=>h.elim).trans x3 fun b _ hb=>by have:=l2 b;omega,fun b=>by have:=l4 b;have:=l2 b;omega⟩
structure afT (ops:Array Oper) (nr:List Nat) (vs:List VI) (anc:List (Nat×List Nat)) (m:Region.Mode) (listed:Array Bool) (rem:List Nat) (pd:Nat→Option (Nat→Nat)):Prop where
 pair:rem.Pairwise fun j i=>aat anc nr vs j i
 nd:rem.Nodup
 lt:∀ i∈rem,i<ops.size
 size:listed.size=ops.size
 mem:∀ i,i<ops.size→(i∈rem↔(listed.getD i true=false∨(pd i).isSome=true))
 pdl:∀ i b,pd i=some b→i<ops.size∧listed.getD i false=true
 closed:∀ i o,listed.getD i false=true→ops[i]?=some o→∀ e∈o.after,Region.binds m e=true→listed.getD e.on false=true
structure Cf (P:Program) (r:br) (n:Nat) (ops:Array Oper) (nr:List Nat) (vs:List VI) (anc:List (Nat×List Nat)) (m:Region.Mode) (listed:Array Bool) (g0:Gh) (w0:World) (t0:Array Value) (O0:Nat→Nat) (st':St)
  (rem:List Nat) (pd:Nat→Option (Nat→Nat)) (F:List Nat) (g:Gh) (w:World) (t:Array Value) (O:Nat→Nat) (st:St):Prop where
 left:afT ops nr vs anc m listed rem pd
 n:t.size=n
 s:S P g w st t O
 abs:∀ i∈rem,∀ v d,vs[i]?=some v→dg v=some d→jX anc vs i=true→get st.env d=none
 pend:∀ i A,pd i=some A→amz g w t O st anc vs i A
 disj:∀ i j A B,i≠j→pd i=some A→pd j=some B→∀ b,A b+B b≤1
 base:dB P g0 w0 t0 O0 st t w g O
 old:∀ i A,pd i=some A→∀ b,b<w0.heap.size→A b+O b≤O0 b
 le0:∀ b,O0 b≤1
 run:ct r nr vs rem F st=some st'
theorem MH:∀ {l:List Nat},l≠[]→∃ i∈l,∀ j∈l,i≤j
 | [],h=>absurd rfl h
 | [x],_=>⟨x,.head _,fun j hj=>by simp at hj;omega⟩
 | x::y::r,_=>by
  obtain⟨i,hi,hm⟩:=MH (l:=y::r) (by simp)
  rcases Nat.le_total x i with h | h
  ·refine⟨x,.head _,fun j hj=>?_⟩
   rcases List.mem_cons.1 hj with rfl | hj
   ·exact Nat.le_refl _
   ·exact Nat.le_trans h (hm j hj)
  ·refine⟨i,.tail _ hi,fun j hj=>?_⟩
   rcases List.mem_cons.1 hj with rfl | hj
   ·exact h
   ·exact hm j hj
theorem j3 {ops:Array Oper}{m:Region.Mode}{listed:Array Bool}(hc:∀ i o,listed.getD i false=true→ops[i]?=some o→∀ e∈o.after,Region.binds m e=true→listed.getD e.on false=true) {i j:Nat}
  (hp:Ay ops i j):(∀ o,ops[i]?=some o→∀ e∈o.after,Region.binds m e=true→listed.getD e.on false=true)→listed.getD j false=true:=by
 induction hp with
 | one ho he hw=>intro h;exact h _ ho _ he (BH m hw)
 | more ho he hw _ ih =>
  intro h
  exact ih fun o2 ho2 e2 he2 hb2=>hc _ _ (h _ ho _ he (BH m hw)) ho2 e2 he2 hb2
theorem aeB {P:Program}{n:Nat}{ops:Array Oper}{nr:List Nat}{vs:List VI}{perm:List Nat}{anc:List (Nat×List Nat)}(hok:q7 P n ops nr vs perm anc) {m:Region.Mode}{listed:Array Bool}(hsz:listed.size=ops.size) {un:List Nat}
  (hun:∀ i,i∈un↔i<ops.size∧listed.getD i true=false) (hrem:un≠[]) :
  ((List.range ops.size).filter fun i=>!listed.getD i true && ((ops[i]?).map (·.after.all fun e=>!Region.binds m e || listed.getD e.on false)).getD false)≠[]∧
  ∀ i,i∈((List.range ops.size).filter fun i=>!listed.getD i true && ((ops[i]?).map (·.after.all fun e=>!Region.binds m e || listed.getD e.on false)).getD false)↔
   i<ops.size∧listed.getD i true=false∧∃ o,ops[i]?=some o∧∀ e∈o.after,Region.binds m e=true→listed.getD e.on false=true:=by
 have hmu:∀ i,i<ops.size→(i∈un↔listed.getD i true=false):=fun i hi=>⟨fun h=>((hun i).1 h).2,fun h=>(hun i).2 ⟨hi,h⟩⟩
 have hlt0:∀ i,i∈un→i<ops.size:=fun i h=>((hun i).1 h).1
 generalize hrs:((List.range ops.size).filter fun i=>!listed.getD i true && ((ops[i]?).map (·.after.all fun e=>!Region.binds m e || listed.getD e.on false)).getD false)=rs
 have hmem:∀ i,i∈rs↔i<ops.size∧listed.getD i true=false∧∃ o,ops[i]?=some o∧∀ e∈o.after,Region.binds m e=true→listed.getD e.on false=true:=by
  intro i
  rw[←hrs,List.mem_filter,List.mem_range]
  constructor
  ·rintro ⟨h1,h2⟩
   simp only[Bool.and_eq_true,Bool.not_eq_true']at h2
   refine⟨h1,h2.1,ops[i],by simp[h1],fun e he hb=>?_⟩
   have h3:=h2.2
   rw[Array.getElem?_eq_getElem h1]at h3
   simp only[Option.map_some,Option.getD_some]at h3
   have:=Array.all_eq_true_iff_forall_mem.1 h3 e he
   simpa [hb] using this
  ·rintro ⟨h1,h2,o,ho,h3⟩
   refine⟨h1,?_⟩
   simp only[Bool.and_eq_true,Bool.not_eq_true',h2,true_and,ho,Option.map_some,Option.getD_some]
   refine Array.all_eq_true_iff_forall_mem.2 fun e he=>?_
   cases hb:Region.binds m e with
   | false=>simp
   | true=>simp[h3 e he hb]
 have hlist:∀ k,k<ops.size→k∉un→listed.getD k false=true:=fun k hen hnot=>by
  have h2:listed.getD k true≠false:=fun h=>hnot ((hmu k hen).2 h)
  have hsz:k<listed.size:=by rw[hsz];exact hen
  simp[Array.getD,hsz]at h2⊢
  exact h2
 have ready:∀ i∈un,(∀ e∈(ops[i]?).toList.flatMap (fun o=>o.after.toList),Region.binds m e=true→e.on∉un)→i∈rs:=fun i hi he=>by
  have hin:=hlt0 i hi
  refine(hmem i).2 ⟨hin,(hmu i hin).1 hi,ops[i],by simp[hin],fun e hem hb=>?_⟩
  have hen:=(hok.edge i ops[i] (by simp[hin]) e hem).1
  exact hlist _ hen (he e (by simp[hin];exact hem) hb)
 have hne:rs≠[]:=by
  by_cases hm:m=.gc
  ·obtain⟨gl,ga,gt,gs⟩:=hok.gco
   have hl:gl.filter (fun i=>decide (i∈un))≠[]:=by
    obtain⟨i,hi⟩:=List.exists_mem_of_ne_nil un hrem
    exact List.ne_nil_of_mem (List.mem_filter.2 ⟨ga i (hlt0 i hi),by simpa using hi⟩)
   cases hc:gl.filter (fun i=>decide (i∈un)) with
   | nil=>exact absurd hc hl
   | cons i rest =>
    have hmm0:∀ k,k∈i::rest↔k∈gl∧k∈un:=fun k=>by rw[←hc,List.mem_filter,decide_eq_true_eq]
    have him:=(hmm0 i).1 (.head _)
    have hi:=hlt0 i him.2
    have hpw:(i::rest).Pairwise (fun j i=>∀ o,ops[j]?=some o→∀ e∈o.after,Mu e.ground=true→e.on≠i):=by rw[←hc];exact gt.sublist List.filter_sublist
    have:i∈rs:=ready i him.2 fun e he hb hmm=>by
     simp[hi]at he
     have hg:Mu e.ground=true:=by
      subst hm
      unfold Region.binds at hb
      unfold Mu
      split at hb<;>simp_all
     have h:=(hmm0 e.on).2 ⟨ga _ (hlt0 _ hmm),hmm⟩
     rcases List.mem_cons.1 h with h | h
     ·exact gs i him.1 ops[i] (by simp[hi]) e he hg h
     ·exact(List.pairwise_cons.1 hpw).1 _ h ops[i] (by simp[hi]) e he hg rfl
    intro h0;rw[h0]at this;simp at this
  ·obtain⟨i,hir,hmin⟩:=MH hrem
   have hi:=hlt0 i hir
   have:i∈rs:=ready i hir fun e he hb hmm=>by
    simp[hi]at he
    have hg:txG e.ground=true:=by
     unfold Region.binds at hb
     unfold txG
     split at hb<;>simp_all
    have h1:=(hok.edge i ops[i] (by simp[hi]) e he).2 hg
    have:=hmin _ hmm
    omega
   intro h0;rw[h0]at this;simp at this
 exact⟨hne,hmem⟩
theorem JD {listed:Array Bool}{i:Nat}(hi:i<listed.size) (k:Nat) (b:Bool):(listed.setIfInBounds i true).getD k b=if i=k then true else listed.getD k b:=by
 simp only[Array.getD_eq_getD_getElem?,Array.getElem?_setIfInBounds]
 by_cases e:i=k
 ·subst e;simp[hi]
 ·simp[e]
theorem gC {listed:Array Bool}{i:Nat}(hi:i<listed.size):listed.getD i true=listed.getD i false:=by
 simp[Array.getD,hi]
variable {n:Nat}{ops:Array Oper}{nr:List Nat}{vs:List VI}{perm:List Nat}{anc:List (Nat×List Nat)}{m:Region.Mode}{listed:Array Bool}{g0:Gh}{w0:World}{t0:Array Value}{O0:Nat→Nat}{st':St}
theorem Cf.flush (hok:q7 P n ops nr vs perm anc) {l1 l2:List Nat}{j:Nat}{A:Nat→Nat}{pd:Nat→Option (Nat→Nat)}{F:List Nat}{g:Gh}{w:World}{t:Array Value}{O:Nat→Nat}{st:St}
  (c:Cf P r n ops nr vs anc m listed g0 w0 t0 O0 st' (l1++j::l2) pd F g w t O st) (hj:pd j=some A) (hp:∀ x∈l1,∃ u v,vs[x]?=some u∧vs[j]?=some v∧fb (bJ x nr) (bJ j nr) u v=true) :
  ∃ F' g' O' ae,Cf P r n ops nr vs anc m listed g0 w0 t0 O0 st' (l1++l2) (fun i=>if i=j then none else pd i) F' g' w t O' ae:=by
 have pj:=c.pend j A hj
 obtain⟨v,d,x,h1,h4,h5,hk⟩:=pj.it
 have hdst:=hk.dst
 have hjn:=(c.left.pdl j A hj).1
 have inv:bp st:=⟨c.s.se,c.s.sh,fun id hid=>c.s.heap_fresh hid⟩
 have hsw:∀ x∈l1,∃ u,vs[x]?=some u∧fb (bJ x nr) (bJ j nr) u v=true:=fun x hx=>by
  obtain⟨u,v',a1,a2,a3⟩:=hp x hx
  rw[h1]at a2
  simp only[Option.some.injEq]at a2
  subst a2
  exact⟨u,a1,a3⟩
 have h6:=If h1 hsw inv c.run
 simp only[ct,h1]at h6
 split at h6
 ·simp at h6
 ·rename_i ae h7
  have h8:aS r v st=some ae:=Ci (fun hw=>hok.near j _ hw h1) c.s.se h7
  obtain⟨g',O',s',x',l'⟩:=hk.make c.s pj.le pj.hi h4 h5 h8
  have hsub:(l1++l2).Sublist (l1++j::l2):=List.Sublist.append_left (List.sublist_cons_self j l2) l1
  have hnd:=c.left.nd
  have hjl:j∉l1++l2:=fun hm=>by
   have hnd':=List.nodup_append.1 hnd
   rcases List.mem_append.1 hm with h | h
   ·exact hnd'.2.2 j h j (.head _) rfl
   ·exact(List.nodup_cons.1 hnd'.2.1).1 h
  have hfoot:∀ i,i∈l1++l2→jX anc vs i=true→∀ u q,vs[i]?=some u→dg u=some q→∀ k∈q::mW u,get ae.env k=get st.env k:=fun i hi hl u q hu hq k hkm=>by
   have hij:i≠j:=fun e=>hjl (e▸hi)
   obtain⟨u2,q2,k1,k2,k3,k4⟩:=lW hl
   rw[hu]at k1
   simp only[Option.some.injEq]at k1
   subst k1
   rw[hq]at k2
   simp only[Option.some.injEq]at k2
   subst k2
   obtain⟨R,M,f1,f0,f2⟩:=(k3 j v h1 (fun e=>hij e.symm)).resolve_left (fun hdj=>by
    obtain⟨_,_,_,_,_,hno⟩:=lW pj.late
    have:=hno i hdj
    rw[hl]at this;simp at this)
   obtain⟨e1,hs1'⟩:=st
   refine(od f1 e1 hs1' ae h8).2.1 k ?_
   rcases List.mem_cons.1 hkm with rfl | hkm
   ·exact f0
   ·exact f2.resolve_left (fun hdij=>by have:=k4 j hdij;rw[pj.late]at this;simp at this) k hkm
  have hmem:∀ i B,i≠j→pd i=some B→i∈l1++l2:=fun i B e hi=>by
   have:=(c.left.mem i (c.left.pdl i B hi).1).2 (.inr (by rw[hi];rfl))
   rcases List.mem_append.1 this with h | h
   ·exact List.mem_append_left _ h
   ·rcases List.mem_cons.1 h with h | h
    ·exact absurd h e
    ·exact List.mem_append_right _ h
  refine⟨_,g',O',ae,⟨⟨c.left.pair.sublist hsub,hnd.sublist hsub,fun k hk=>c.left.lt k (hsub.subset hk),c.left.size,fun k hk=>?_,fun i b' hi=>?_,c.left.closed⟩,c.n,s',fun i hi u q hu hq hl=>?_,fun i B hi=>?_,fun i k B C hik hi hk=>?_,?_,fun i B hi b hb=>?_,c.le0,h6⟩⟩
  ·have hold:=c.left.mem k hk
   by_cases e:k=j
   ·subst e
    simp only[if_true,Option.isSome_none,Bool.false_eq_true,or_false]
    have hl:=(c.left.pdl k A hj).2
    rw[←gC (by rw[c.left.size];exact hk)]at hl
    rw[hl]
    simp[hjl]
   ·simp only[e,if_false]
    rw[←hold]
    simp only[List.mem_append,List.mem_cons]
    constructor
    ·rintro (h | h)
     ·exact .inl h
     ·exact .inr (.inr h)
    ·rintro (h | h | h)
     ·exact .inl h
     ·exact absurd h e
     ·exact .inr h
  ·by_cases e:i=j
   ·simp[e]at hi
   ·simp only[e,if_false]at hi;exact c.left.pdl i b' hi
  ·rw[hfoot i hi hl u q hu hq q (.head _)]
   exact c.abs i (hsub.subset hi) u q hu hq hl
  ·by_cases e:i=j
   ·simp[e]at hi
   ·simp only[e,if_false]at hi
    have p:=c.pend i B hi
    obtain⟨u,q,y,k1,k2,k3,k4⟩:=p.it
    have hd:=c.disj i j B A e hi hj
    exact⟨p.late,p.hi,fun b=>by have:=l' b;have:=p.le b;have:=hd b;have:=pj.le b;have:=s'.le b;omega,u,q,y,k1,k2,k3,
     k4.keep x' (fun b hb=>⟨p.hi b hb,fun h=>by have:=hd b;have:=p.le b;rcases h with h | h<;>omega⟩) fun k hkm=>hfoot i (hmem i B e hi) p.late u q k1 k4.dst k (.tail _ hkm)⟩
  ·by_cases e:i=j
   ·simp[e]at hi
   ·by_cases e2:k=j
    ·simp[e2]at hk
    ·simp only[e,e2,if_false]at hi hk;exact c.disj i k B C hik hi hk
  ·refine⟨s',c.base.ext.trans x' fun b hb h=>?_,fun b hb=>?_,c.base.size⟩
   ·have:=c.old j A hj b hb;rcases h with h | h<;>omega
   ·exact Nat.le_trans (l' b) (c.old j A hj b hb)
  ·by_cases e:i=j
   ·simp[e]at hi
   ·simp only[e,if_false]at hi
    have q1:=c.old i B hi b hb
    have q2:=c.old j A hj b hb
    have q3:=c.disj i j B A e hi hj b
    have q4:=l' b
    have q5:=(c.pend i B hi).le b
    have q6:=pj.le b
    omega
theorem Cf.flush_all (hok:q7 P n ops nr vs perm anc):∀ {rem:List Nat}{pd:Nat→Option (Nat→Nat)}{F:List Nat}{g:Gh}{w:World}{t:Array Value}{O:Nat→Nat}{st:St},
  Cf P r n ops nr vs anc m listed g0 w0 t0 O0 st' rem pd F g w t O st→(∀ i∈rem,(pd i).isSome=true)→∃ g' O',dB P g0 w0 t0 O0 st' t w g' O'
 | [],pd,F,g,w,t,O,st,c,_=>by
  have h:=c.run
  simp only[ct,Option.some.injEq]at h
  subst h
  exact⟨g,O,c.base⟩
 | j::rem,pd,F,g,w,t,O,st,c,hall=>by
  obtain⟨b,hb⟩:=Option.isSome_iff_exists.1 (hall j (.head _))
  obtain⟨F',g',O',ae,c'⟩:=Cf.flush (l1:=[]) hok c hb (fun x hx=>by simp at hx)
  have hnd:=c.left.nd
  exact Cf.flush_all hok c' fun i hi=>by
   have:i≠j:=fun e=>(List.nodup_cons.1 hnd).1 (e▸hi)
   simp only[this,if_false]
   exact hall i (.tail _ hi)
theorem Cf.flush_for (hok:q7 P n ops nr vs perm anc) {i:Nat}(hil:listed.getD i true=false) (hnl:jX anc vs i=false) {o:Oper}(ho:ops[i]?=some o) (hready:∀ e∈o.after,Region.binds m e=true→listed.getD e.on false=true) :
  ∀ {k:Nat}{l1 l2:List Nat},l1.length=k→∀ {pd:Nat→Option (Nat→Nat)}{F:List Nat}{g:Gh}{w:World}{t:Array Value}{O:Nat→Nat}{st:St},
  Cf P r n ops nr vs anc m listed g0 w0 t0 O0 st' (l1++i::l2) pd F g w t O st→
  ∃ l1' pd' F' g' O' ae,Cf P r n ops nr vs anc m listed g0 w0 t0 O0 st' (l1'++i::l2) pd' F' g' w t O' ae∧(∀ j∈l1',∃ u v,vs[j]?=some u∧vs[i]?=some v∧fb (bJ j nr) (bJ i nr) u v=true)∧(l1'.filter fun q=>!listed.getD q true)=(l1.filter fun q=>!listed.getD q true):=by
 intro k
 induction k with
 | zero =>
  intro l1 l2 hk pd F g w t O st c
  have:l1=[]:=List.eq_nil_of_length_eq_zero hk
  subst this
  exact⟨[],pd,F,g,O,st,c,fun j hj=>by simp at hj,rfl⟩
 | succ k ih =>
  intro l1 l2 hk pd F g w t O st c
  have hpw:=List.pairwise_append.1 c.left.pair
  have hin:i<ops.size:=c.left.lt i (by simp)
  have hlist:∀ a q,a<ops.size→Ay ops a q→listed.getD a false=true∨a=i→listed.getD q false=true:=fun a q ha hpa hla=>by
   refine j3 c.left.closed hpa fun o' ho'=>?_
   rcases hla with h | h
   ·exact c.left.closed a o' h ho'
   ·subst h
    rw[ho]at ho'
    simp only[Option.some.injEq]at ho'
    subst ho'
    exact hready
  by_cases hex:∃ j∈l1,jz anc i j=true
  ·
   obtain⟨la,j,lb,hl1,hdj,hfirst⟩:∃ la j lb,l1=la++j::lb∧jz anc i j=true∧∀ x∈la,jz anc i x=false:=by
    clear ih hk c hpw
    induction l1 with
    | nil=>obtain⟨j,hj,_⟩:=hex;simp at hj
    | cons x l1 ihl =>
     by_cases hx:jz anc i x=true
     ·exact⟨[],x,l1,rfl,hx,fun y hy=>by simp at hy⟩
     ·obtain⟨la,j,lb,h1,h2,h3⟩:=ihl (by
       obtain⟨j,hj,hd⟩:=hex
       rcases List.mem_cons.1 hj with rfl | hj
       ·exact absurd hd hx
       ·exact⟨j,hj,hd⟩)
      refine⟨x::la,j,lb,by rw[h1];rfl,h2,fun y hy=>?_⟩
      rcases List.mem_cons.1 hy with rfl | hy
      ·simpa using hx
      ·exact h3 y hy
   subst hl1
   have hjm:j∈(la++j::lb)++i::l2:=by simp
   have hjn:=c.left.lt j hjm
   have hjl:=hlist i j hin (hok.path i j hdj) (.inr rfl)
   have hjp:∃ b,pd j=some b:=by
    rcases (c.left.mem j hjn).1 hjm with h | h
    ·rw[gC (by rw[c.left.size];exact hjn),hjl]at h;simp at h
    ·exact Option.isSome_iff_exists.1 h
   obtain⟨b,hb⟩:=hjp
   have hlate:=(c.pend j b hb).late
   obtain⟨_,_,_,_,_,hnoanc⟩:=lW hlate
   have hpj:=List.pairwise_append.1 hpw.1
   have hpass:∀ x∈la,∃ u v,vs[x]?=some u∧vs[j]?=some v∧fb (bJ x nr) (bJ j nr) u v=true:=fun x hx=>by
    have hxm:x∈(la++j::lb)++i::l2:=by simp[hx]
    have hxn:=c.left.lt x hxm
    rcases hpj.2.2 x hx j (.head _) with (h | h) | h
    ·
     exfalso
     have hxl:=hlist j x hjn (hok.path j x h) (.inl hjl)
     rcases (c.left.mem x hxn).1 hxm with h2 | h2
     ·rw[gC (by rw[c.left.size];exact hxn),hxl]at h2;simp at h2
     ·obtain⟨b2,hb2⟩:=Option.isSome_iff_exists.1 h2
      have:=(c.pend x b2 hb2).late
      rw[hnoanc x h]at this;simp at this
    ·exact h
    ·exfalso
     have:=h.2.1 i (by rw[hok.len];exact hin) hdj
     rw[hfirst x hx]at this;simp at this
   have c0:Cf P r n ops nr vs anc m listed g0 w0 t0 O0 st' (la++j::(lb++i::l2)) pd F g w t O st:=by simpa using c
   obtain⟨F',g',O',ae,c'⟩:=Cf.flush hok c0 hb hpass
   have c2:Cf P r n ops nr vs anc m listed g0 w0 t0 O0 st' ((la++lb)++i::l2) (fun q=>if q=j then none else pd q) F' g' w t O' ae:=by simpa using c'
   obtain⟨l1',pd',F2,g2,O2,st2,q1,q2,q3⟩:=ih (by simp at hk⊢;omega) c2
   refine⟨l1',pd',F2,g2,O2,st2,q1,q2,q3.trans ?_⟩
   rw[List.filter_append,List.filter_append,List.filter_cons_of_neg (by rw[gC (by rw[c.left.size];exact hjn),hjl];simp)]
  ·refine⟨l1,pd,F,g,O,st,c,fun j hj=>?_,rfl⟩
   rcases hpw.2.2 j hj i (.head _) with (h | h) | h
   ·exact absurd ⟨j,hj,h⟩ hex
   ·exact h
   ·rw[hnl]at h;simp at h
theorem WE (hok:q7 P n ops nr vs perm anc) {i:Nat}{v:VI}{d:Nat}(hv:vs[i]?=some v) (hd:dg v=some d):∀ {l1 l2 F:List Nat}{st:St},aX st.env→(∀ k∈l1,∀ u,vs[k]?=some u→∃ R M,eN u=some (R,M)∧∀ q∈d::mW v,q∉M)→
  ct r nr vs (l1++i::l2) F st=some st'→∃ ae st2,aS r v ae=some st2∧∀ q∈d::mW v,get ae.env q=get st.env q
 | [],l2,F,st,hsrt,_,h=>by
  simp only[List.nil_append,ct,hv]at h
  split at h
  ·simp at h
  ·rename_i ae h1
   exact⟨st,ae,Ci (fun hw=>hok.near i _ hw hv) hsrt h1,fun _ _=>rfl⟩
 | k::l1,l2,F,st,hsrt,hl,h=>by
  simp only[List.cons_append,ct]at h
  split at h
  ·simp at h
  ·rename_i u hu
   split at h
   ·simp at h
   ·rename_i ae h1
    have h2:aS r u st=some ae:=Ci (fun hw=>hok.near k _ hw hu) hsrt h1
    obtain⟨R,M,f1,f2⟩:=hl k (.head _) u hu
    obtain⟨e1,hs1⟩:=st
    obtain⟨k1,k2,_⟩:=od f1 e1 hs1 ae h2
    obtain⟨sa,sb,q1,q2⟩:=WE hok hv hd (k1 hsrt) (fun k hk=>hl k (.tail _ hk)) h
    exact⟨sa,sb,q1,fun q hq=>(q2 q hq).trans (k2 q (f2 q hq))⟩
theorem aah {g:Gh}{w:World}{t:Array Value}{O:Nat→Nat}{zs:List AV}{o:Oper}(s:S P g w st' t O) (hc:ar P (.alloc zs) o.op=true) :
  ∃ (c:Array Value) (el:_),gU zs c.toList=true∧(execOp (ev t) o).run P w=.ok (.value (.pointer (some ⟨w.heap.size,0,none⟩))) (w.alloc (.cells c el))∧az g w g (w.alloc (.cells c el)) (fun _=>False):=by
 obtain⟨dst,op,ty,pos,aft,gd⟩:=o
 simp only[ar]at hc
 split at hc
 ·rename_i e
  split at hc
  ·rename_i i hi
   split at hc
   ·rename_i z hz
    exact⟨z.cells,e,hc,by simp[execOp,Instr.alloc,zeroValue,typeInfo,hi,hz,newVar,newRow],az.alloc s.pmlt _ _ (by intro off;simp[cY])⟩
   ·simp at hc
  ·simp at hc
 ·simp at hc
theorem adl {ro:Option Nat}{g:Gh}{w:World}{t:Array Value}{O:Nat→Nat}{st:St}{v:VI}{d:Nat}{o:Oper}(s:S P g w st t O) (hd:dg v=some d) (hc:ar P v.op o.op=true)
  (hmk:∀ z l c th,v=⟨some d,none,.mkslice z l c,th⟩→mM l=true→mM c=true→∃ a,fB z l c st=some (a,st)) (ds:List Deferred) (next:Act→World→Prop) (Q:Exit→Act→World→Prop)
  (hn:∀ w1 x g1 O1 A,S P g1 w1 st t O1→az g w g1 w1 (fun b=>O b≠0)→(∀ b,b<w.heap.size→A b+O1 b≤O b)→(∀ b,A b+O1 b≤1)→(∀ b,A b≠0→b<w1.heap.size)→po g1 w1 st d v x A→next (Act.put ⟨t,ds⟩ o.dst x) w1) :
  o.uponIn (FR ro) 0 P ⟨t,ds⟩ next Q ((execOp (ev t) o).run P w):=by
 rcases uu hd with ⟨zs,rfl⟩ | ⟨z,l,c,th,rfl,hl,hc2⟩
 ·obtain⟨cc,el,hz,hrun,hx⟩:=aah s hc
  rw[hrun]
  have hobn:O w.heap.size=0:=by
   by_cases h:O w.heap.size=0
   ·exact h
   ·have:=s.hi _ h;omega
  refine hn _ _ g O (one w.heap.size) (s.extF hx rfl fun b o' hp=>by have:=s.pmlt b o' hp;simp only[World.size_alloc];omega) (hx.mono fun _ _ h=>h.elim) (fun b hb=>?_) (fun b=>?_) (fun b hb=>?_) (.var hz (dA _ _) fun o' hp=>?_)
  ·have:b≠w.heap.size:=by omega
   simp[one,this]
  ·by_cases e:b=w.heap.size
   ·subst e;simp[hobn]
   ·have:=s.le b;simp[one,e];exact this
  ·have:=lc (b:=w.heap.size) (x:=b) hb
   simp only[World.size_alloc];omega
  ·have:=s.pmlt _ o' hp;omega
 ·obtain⟨a,ha⟩:=hmk z l c th rfl hl hc2
  exact(OY s ha hc).opW ds next Q fun x w' g' Oa O' k=>hn _ _ g' O' Oa k.st k.ext k.old k.le k.hi (.list hl hc2 ha k.val)
theorem agG {ro:Option Nat}(hr:dz P r) (hcs:dP P r) (hok:q7 P n ops nr vs perm anc) {Q:Exit→Act→World→Prop}(ds:List Deferred)
  (hq:∀ w' t' g' O',dB P g0 w0 t0 O0 st' t' w' g' O'→Q .normal ⟨t',ds⟩ w') :
  ∀ {fuel:Nat}{listed:Array Bool}{tt:Nat}{rem:List Nat}{pd:Nat→Option (Nat→Nat)}{F:List Nat}{g:Gh}{w:World}{t:Array Value}{O:Nat→Nat}{st:St},
   Cf P r n ops nr vs anc m listed g0 w0 t0 O0 st' rem pd F g w t O st→(rem.filter fun i=>!listed.getD i true).length=fuel→wpOpsIn (FR ro) 0 P ops Q (Region.linearise.go m ops fuel tt listed []) ⟨t,ds⟩ w:=by
 intro fuel
 induction fuel with
 | zero =>
  intro listed tt rem pd F g w t O st c hf
  have hnil:=List.eq_nil_of_length_eq_zero hf
  have hall:∀ i∈rem,(pd i).isSome=true:=fun i hi=>by
   have hin:=c.left.lt i hi
   rcases (c.left.mem i hin).1 hi with h | h
   ·have:i∈rem.filter fun i=>!listed.getD i true:=List.mem_filter.2 ⟨hi,by rw[h];rfl⟩
    rw[hnil]at this;simp at this
   ·exact h
  obtain⟨g',O',G⟩:=Cf.flush_all hok c hall
  exact hq _ _ _ _ G
 | succ fuel ih =>
  intro listed tt rem pd F g w t O st c hf
  unfold Region.linearise.go
  simp only
  have hun:∀ i,i∈(rem.filter fun i=>!listed.getD i true)↔i<ops.size∧listed.getD i true=false:=fun i=>by
   rw[List.mem_filter,Bool.not_eq_true']
   exact⟨fun h=>⟨c.left.lt i h.1,h.2⟩,fun h=>⟨(c.left.mem i h.1).2 (.inl h.2),h.2⟩⟩
  obtain⟨hne,hmem⟩:=aeB (m:=m) hok c.left.size hun (by intro h0;rw[h0]at hf;simp at hf)
  generalize hrs:((List.range ops.size).filter fun i=>!listed.getD i true && ((ops[i]?).map (·.after.all fun e=>!Region.binds m e || listed.getD e.on false)).getD false)=rs at hne hmem
  have hlen:0<rs.length:=List.length_pos_iff.2 hne
  have hlt:=Nat.mod_lt tt hlen
  rw[List.getElem?_eq_getElem hlt]
  simp only
  generalize hi:rs[tt % rs.length]=i
  have hirs:i∈rs:=by rw[←hi];exact List.getElem_mem hlt
  obtain⟨hin,hil,o,ho,hready⟩:=(hmem i).1 hirs
  have hirem:i∈rem:=(c.left.mem i hin).2 (.inl hil)
  have hsz:i<listed.size:=by rw[c.left.size];exact hin
  have hvl:i<vs.length:=by rw[hok.len];exact hin
  have hv:vs[i]?=some vs[i]:=by simp
  have hacc:=linearise_go_acc m ops fuel (tt / rs.length) (listed.setIfInBounds i true) [i]
  rw[hacc]
  simp only[List.reverse_cons,List.reverse_nil,List.nil_append,List.cons_append,wpOpsIn,ho]
  have hclosed:∀ k o',(listed.setIfInBounds i true).getD k false=true→ops[k]?=some o'→∀ e∈o'.after,Region.binds m e=true→(listed.setIfInBounds i true).getD e.on false=true:=by
   intro k o' hk ho' e he hb
   rw[JD hsz]at hk⊢
   split
   ·rfl
   ·by_cases e1:i=k
    ·subst e1
     rw[ho]at ho'
     simp only[Option.some.injEq]at ho'
     subst ho'
     exact hready e he hb
    ·rw[if_neg e1]at hk
     exact c.left.closed k o' hk ho' e he hb
  have hcount:∀ {l1 l2:List Nat},rem=l1++i::l2→∀ {l1':List Nat},(l1'.filter fun i=>!listed.getD i true)=(l1.filter fun i=>!listed.getD i true)→i∉l1'→i∉l2→((l1'++l2).filter fun q=>!(listed.setIfInBounds i true).getD q true).length=fuel:=by
   intro l1 l2 hrem l1' hl1 hn1 hn2
   have h1:∀ l:List Nat,i∉l→(l.filter fun q=>!(listed.setIfInBounds i true).getD q true)=l.filter fun q=>!listed.getD q true:=fun l hl=>List.filter_congr fun q hq=>by
    rw[JD hsz,if_neg (fun e=>hl (by rw[e];exact hq))]
   rw[List.filter_append,h1 _ hn1,h1 _ hn2,hl1]
   rw[hrem,List.filter_append,List.filter_cons_of_pos (by rw[hil];rfl)]at hf
   simp at hf⊢
   omega
  cases hl:jX anc vs i with
  | true =>
   obtain⟨v,d,hvi,hdv,hfree,hnoanc⟩:=lW hl
   have hchk:=hok.vi i _ o hvi ho
   simp only[pI,Bool.and_eq_true]at hchk
   obtain⟨⟨hdst,hgd⟩,hop⟩:=hchk
   obtain⟨hd1,hd2,hd3⟩:=mZ hdv
   have hgn:o.guard=none:=by
    rw[hd2]at hgd
    cases hog:o.guard with
    | none=>rfl
    | some q=>rw[hog]at hgd;simp[sF]at hgd
   have hod:o.dst=some d∧d<n:=by
    rw[hd1]at hdst
    split at hdst
    ·rename_i e1 e2;simp at e1
    ·rename_i a b e1 e2
     simp only[Option.some.injEq]at e1
     subst e1
     simp only[Bool.and_eq_true,Nat.beq_eq,Nat.blt_eq]at hdst
     exact⟨by rw[e2,←hdst.1],hdst.2⟩
    ·simp at hdst
   have hw:Region.wanted o (yielded ops t)=true:=by simp[Region.wanted,hgn]
   rw[if_pos hw]
   refine⟨fun _ _=>trivial,?_⟩
   rw[A8 _ _ (CC hd3 hop)]
   have habs:=c.abs i hirem v d hvi hdv hl
   obtain⟨l1,l2,hrem⟩:=List.append_of_mem hirem
   have hapl:∀ k∈l1,∀ u,vs[k]?=some u→∃ R M,eN u=some (R,M)∧∀ q∈d::mW v,q∉M:=fun k hk u hu=>by
    have hkm:k∈rem:=by rw[hrem];exact List.mem_append_left _ hk
    have hkn:=c.left.lt k hkm
    have hne:k≠i:=fun e=>by
     have hnd:=c.left.nd
     rw[hrem]at hnd
     exact(List.nodup_append.1 hnd).2.2 i (e▸hk) i (.head _) rfl
    have hpr:=c.left.pair
    rw[hrem]at hpr
    have hnk:jz anc i k=true→False:=fun h=>by
     have hkl:=j3 c.left.closed (hok.path i k h) fun o' ho'=>by
      rw[ho]at ho'
      simp only[Option.some.injEq]at ho'
      subst ho'
      exact hready
     rcases (c.left.mem k hkn).1 hkm with h2 | h2
     ·rw[gC (by rw[c.left.size];exact hkn),hkl]at h2;simp at h2
     ·obtain⟨b2,hb2⟩:=Option.isSome_iff_exists.1 h2
      have:=(c.pend k b2 hb2).late
      rw[hnoanc k h]at this;simp at this
    rcases (List.pairwise_append.1 hpr).2.2 k hk i (.head _) with (h | ⟨u',v',a1,a2,a3⟩) | h
    ·exact(hnk h).elim
    ·rw[hu]at a1
     rw[hvi]at a2
     simp only[Option.some.injEq]at a1 a2
     subst a1 a2
     exact LE a3 hdv
    ·obtain⟨R,M,f1,f2,f3⟩:=(hfree k u hu hne).resolve_left (fun hd=>by rw[h.2.2]at hd;simp at hd)
     refine⟨R,M,f1,fun q hq=>?_⟩
     rcases List.mem_cons.1 hq with rfl | hq
     ·exact f2
     ·exact f3.resolve_left hnk q hq
   have hrun0:=c.run
   rw[hrem]at hrun0
   obtain⟨sa,sb,hsa,hsq⟩:=WE hok hvi hdv c.s.se hapl hrun0
   refine adl (ro:=ro) c.s hdv hop (fun z l c' th e hl1 hl2=>?_) ds _ Q fun w1 x g1 O1 A hs1 hx1 hold1 hle1 hhi1 hpk=>?_
   ·subst e
    simp only[aS]at hsa
    obtain⟨v',st2,hv',_⟩:=FD hsa
    simp only[aY]at hv'
    exact⟨v',(ZC hl1 hl2 (fun q hq=>(hsq q (List.mem_cons_of_mem _ hq)).symm) hv').2⟩
   ·rw[Mx,hod.1]
    have hdn:d<t.size:=by rw[c.n];exact hod.2
    have hs2:=hs1.setOther habs x
    have ht1:jJ t (some d) x=t.setIfInBounds d x:=by simp[jJ,Act.put]
    rw[ht1]
    have hgt:∀ q,q≠d→(t.setIfInBounds d x)[q]?=t[q]?:=fun q hqd=>by
     rw[Array.getElem?_setIfInBounds,if_neg (fun e=>hqd e.symm)]
    have hwle:w0.heap.size≤w.heap.size:=c.base.ext.size
    have hO1:∀ b,b<w.heap.size→O1 b≤O b:=fun b hb=>by have:=hold1 b hb;omega
    have hO1':∀ b,O1 b≤1:=fun b=>by have:=hle1 b;omega
    refine ih (rem:=rem) (pd:=fun q=>if q=i then some A else pd q) (F:=F) (g:=g1) (O:=O1) (st:=st) ⟨⟨c.left.pair,c.left.nd,c.left.lt,by simp[c.left.size],fun k hk=>?_,fun k b hk=>?_,hclosed⟩,by simp[c.n],hs2,c.abs,fun k B hk=>?_,fun k q B C hkq hk hq'=>?_,?_,fun k B hk b hb=>?_,c.le0,c.run⟩ ?_
    ·rw[JD hsz]
     by_cases e:i=k
     ·subst e;simp[hirem]
     ·have e':¬ k=i:=fun h=>e h.symm
      simp only[e,e',if_false]
      exact c.left.mem k hk
    ·rw[JD hsz]
     by_cases e:k=i
     ·subst e;exact⟨hin,by simp⟩
     ·simp only[e,if_false]at hk
      have:=c.left.pdl k b hk
      refine⟨this.1,?_⟩
      rw[if_neg (fun h=>e h.symm)]
      exact this.2
    ·by_cases e:k=i
     ·subst e
      simp only[if_true,Option.some.injEq]at hk
      subst hk
      refine⟨hl,hhi1,hle1,v,d,x,hvi,by simp[hdn],?_,hpk⟩
      rw[Array.getElem?_setIfInBounds,if_pos rfl,if_pos hdn]
     ·simp only[e,if_false]at hk
      have q:=c.pend k B hk
      obtain⟨u,d',y,h1,h4,h5,h6⟩:=q.it
      have hdd:d'≠d:=by
       obtain⟨R,M,f1,f2,_⟩:=(hfree k _ h1 e).resolve_left (fun hdk=>by
        obtain⟨_,_,_,_,_,hno⟩:=lW q.late
        have:=hno i hdk
        rw[hl]at this;simp at this)
       intro h
       exact f2 (h▸sW f1 (mZ h6.dst).1)
      exact⟨q.late,fun b hb=>Nat.lt_of_lt_of_le (q.hi b hb) hx1.size,fun b=>by
       by_cases hb:b<w.heap.size
       ·have:=q.le b;have:=hO1 b hb;omega
       ·have:B b=0:=by
         by_cases h:B b=0
         ·exact h
         ·exact absurd (q.hi b h) hb
        have:=hO1' b;omega,u,d',y,h1,by simpa using h4,(hgt d' hdd).trans h5,
       h6.keep hx1 (fun b hb=>⟨q.hi b hb,fun h=>by have:=q.le b;omega⟩) fun _ _=>rfl⟩
    ·have key:∀ k B,k≠i→pd k=some B→∀ b,A b+B b≤1:=fun k B e hk b=>by
      have q:=c.pend k B hk
      by_cases hb:b<w.heap.size
      ·have:=q.le b;have:=hold1 b hb;omega
      ·have:B b=0:=by
        by_cases h:B b=0
        ·exact h
        ·exact absurd (q.hi b h) hb
       have:=hle1 b;omega
     intro b
     by_cases e:k=i
     ·have e2:q≠i:=fun h=>hkq (e.trans h.symm)
      simp only[e,e2,if_true,if_false,Option.some.injEq]at hk hq'
      subst hk
      exact key q C e2 hq' b
     ·by_cases e2:q=i
      ·simp only[e,e2,if_true,if_false,Option.some.injEq]at hk hq'
       subst hq'
       have:=key k B e hk b;omega
      ·simp only[e,e2,if_false]at hk hq';exact c.disj k q B C hkq hk hq' b
    ·exact⟨hs2,c.base.ext.trans hx1 fun b hb h=>by have:=c.base.old b hb;omega,fun b hb=>Nat.le_trans (hO1 b (by omega)) (c.base.old b hb),by simp[c.base.size]⟩
    ·by_cases e:k=i
     ·simp only[e,if_true,Option.some.injEq]at hk
      subst hk
      have:=hold1 b (by omega);have:=c.base.old b hb;omega
     ·simp only[e,if_false]at hk
      have:=c.old k B hk b hb;have:=hO1 b (by omega);omega
    ·have hnd:=c.left.nd
     rw[hrem]at hnd
     have hnd':=List.nodup_append.1 hnd
     have hn1:i∉l1:=fun h=>hnd'.2.2 i h i (.head _) rfl
     have hn2:i∉l2:=(List.nodup_cons.1 hnd'.2.1).1
     have:=hcount hrem rfl hn1 hn2
     rw[hrem,List.filter_append,List.filter_cons_of_neg (by rw[JD hsz,if_pos rfl];simp),←List.filter_append]
     exact this
  | false =>
   obtain⟨l1,l2,hrem⟩:=List.append_of_mem hirem
   rw[hrem]at c
   obtain⟨l1',pd',F',g',O',ae,c1,hpass,hfl⟩:=Cf.flush_for hok hil hl ho hready rfl c
   have hsw:∀ j∈l1',∃ u,vs[j]?=some u∧fb (bJ j nr) (bJ i nr) u vs[i]=true:=fun j hj=>by
    obtain⟨u,v,a1,a2,a3⟩:=hpass j hj
    rw[hv]at a2
    simp only[Option.some.injEq]at a2
    subst a2
    exact⟨u,a1,a3⟩
   have inv:bp ae:=⟨c1.s.se,c1.s.sh,fun id hid=>c1.s.heap_fresh hid⟩
   have h2:=If hv hsw inv c1.run
   simp only[ct,hv]at h2
   split at h2
   ·simp at h2
   ·rename_i st2 h3N
    have h3:aS r vs[i] ae=some st2:=Ci (fun hw=>hok.near i _ hw hv) c1.s.se h3N
    have hnd:=c1.left.nd
    have hnd':=List.nodup_append.1 hnd
    have hn1:i∉l1':=fun h=>hnd'.2.2 i h i (.head _) rfl
    have hn2:i∉l2:=(List.nodup_cons.1 hnd'.2.1).1
    have hsub:(l1'++l2).Sublist (l1'++i::l2):=List.Sublist.append_left (List.sublist_cons_self i l2) l1'
    have hpdi:pd' i=none:=by
     cases h:pd' i with
     | none=>rfl
     | some b =>
      have:=(c1.left.pdl i b h).2
      rw[←gC hsz,hil]at this;simp at this
    have hapart:∀ k∈l1'++l2,jX anc vs k=true→∀ u d,vs[k]?=some u→dg u=some d→∃ R M,eN vs[i]=some (R,M)∧d∉M∧(listed.getD k false=true→∀ q∈mW u,q∉M):=fun k hk hlk u0 d hvk hdk=>by
     have hki:i≠k:=fun e=>by rw[e,hlk]at hl;simp at hl
     obtain⟨u2,d2,k1,kd,k2,_⟩:=lW hlk
     rw[hvk]at k1
     simp only[Option.some.injEq]at k1
     subst k1
     rw[hdk]at kd
     simp only[Option.some.injEq]at kd
     subst kd
     rcases k2 i _ hv hki with hd | hd
     ·rcases List.mem_append.1 hk with hk1 | hk1
      ·obtain⟨u,v,a1,a2,a3⟩:=hpass k hk1
       rw[hvk]at a1
       rw[hv]at a2
       simp only[Option.some.injEq]at a1 a2
       subst a1 a2
       obtain⟨R,M,f1,f2⟩:=aav a3 hdk
       exact⟨R,M,f1,f2 _ (.head _),fun _ q hq=>f2 q (.tail _ hq)⟩
      ·have hkm:k∈l1'++i::l2:=by simp[hk1]
       have hkn:=c1.left.lt k hkm
       have hkl:listed.getD k false=true:=j3 c1.left.closed (hok.path i k hd) fun o' ho'=>by
        rw[ho]at ho'
        simp only[Option.some.injEq]at ho'
        subst ho'
        exact hready
       have hif:listed.getD i false=false:=by rw[←gC hsz];exact hil
       have hpw:=(List.pairwise_cons.1 (List.pairwise_append.1 c1.left.pair).2.1).1 k hk1
       rcases hpw with (h | ⟨u,v,a1,a2,a3⟩) | h
       ·have:=j3 c1.left.closed (hok.path k i h) fun o' ho'=>c1.left.closed k o' hkl ho'
        rw[hif]at this;simp at this
       ·rw[hvk]at a2
        rw[hv]at a1
        simp only[Option.some.injEq]at a1 a2
        subst a1 a2
        obtain⟨R,M,f1,f2⟩:=LE a3 hdk
        exact⟨R,M,f1,f2 _ (.head _),fun _ q hq=>f2 q (.tail _ hq)⟩
       ·have hii:=h.2.1 i hvl hd
        have:=j3 c1.left.closed (hok.path i i hii) fun o' ho'=>by
         rw[ho]at ho'
         simp only[Option.some.injEq]at ho'
         subst ho'
         exact hready
        rw[hif]at this;simp at this
     ·obtain⟨R,M,f1,f2,f3⟩:=hd
      refine⟨R,M,f1,f2,fun hkl=>f3.resolve_left fun hki=>?_⟩
      have hif:listed.getD i false=false:=by rw[←gC hsz];exact hil
      have:=j3 c1.left.closed (hok.path k i hki) fun o' ho'=>c1.left.closed k o' hkl ho'
      rw[hif]at this;simp at this
    refine Zw (ro:=ro) hr hcs c1.n c1.s h3 (hok.vi i _ o hv ho) ds _ Q fun t' w' g2 O2 G hT=>?_
    refine ih (rem:=l1'++l2) (pd:=pd') ⟨⟨c1.left.pair.sublist hsub,hnd.sublist hsub,fun k hk=>c1.left.lt k (hsub.subset hk),by simp[c1.left.size],fun k hk=>?_,fun k b hk=>?_,hclosed⟩,by rw[G.size,c1.n],G.st,fun k hk u d hvk hdk hlk=>?_,fun k B hk=>?_,c1.disj,c1.base.trans G,fun k B hk b hb=>?_,c1.le0,h2⟩ ?_
    ·have hold:=c1.left.mem k hk
     rw[JD hsz]
     by_cases e:i=k
     ·subst e
      simp only[if_true,Bool.true_eq_false,hpdi,Option.isSome_none,Bool.false_eq_true,or_self,iff_false]
      intro hm
      rcases List.mem_append.1 hm with h | h
      ·exact hn1 h
      ·exact hn2 h
     ·simp only[e,if_false]
      rw[←hold]
      simp only[List.mem_append,List.mem_cons]
      constructor
      ·rintro (h | h)
       ·exact .inl h
       ·exact .inr (.inr h)
      ·rintro (h | h | h)
       ·exact .inl h
       ·exact absurd h.symm e
       ·exact .inr h
    ·have:=c1.left.pdl k b hk
     refine⟨this.1,?_⟩
     rw[JD hsz]
     split
     ·rfl
     ·exact this.2
    ·have h0:=c1.abs k (hsub.subset hk) u d hvk hdk hlk
     obtain⟨R,M,f1,f2,_⟩:=hapart k hk hlk u d hvk hdk
     obtain⟨e1,hs1'⟩:=ae
     have:=(od f1 e1 hs1' st2 h3).2.1 d f2
     rw[this];exact h0
    ·have hki:i≠k:=fun e=>by rw[←e,hpdi]at hk;simp at hk
     have hkm:k∈l1'++i::l2:=(c1.left.mem k (c1.left.pdl k B hk).1).2 (.inr (by rw[hk];rfl))
     have hkm':k∈l1'++l2:=by
      rcases List.mem_append.1 hkm with h | h
      ·exact List.mem_append_left _ h
      ·rcases List.mem_cons.1 h with h | h
       ·exact absurd h.symm hki
       ·exact List.mem_append_right _ h
     have q:=c1.pend k B hk
     obtain⟨u,d,y,h1,h4,h5,h6⟩:=q.it
     obtain⟨R,M,f1,f0,f2⟩:=hapart k hkm' q.late u d h1 h6.dst
     have f2:=f2 (c1.left.pdl k B hk).2
     have hdd:vs[i].dst≠some d:=fun e=>f0 (sW f1 e)
     refine⟨q.late,fun b hb=>Nat.lt_of_lt_of_le (q.hi b hb) G.ext.size,fun b=>?_,u,d,y,h1,by rw[G.size];exact h4,(hT d hdd).trans h5,h6.keep G.ext (fun b hb=>⟨q.hi b hb,fun h=>by have:=q.le b;omega⟩) fun p hp=>?_⟩
     ·by_cases hb:b<w.heap.size
      ·have:=q.le b;have:=G.old b hb;omega
      ·have:B b=0:=by
        by_cases h:B b=0
        ·exact h
        ·exact absurd (q.hi b h) hb
       have:=G.st.le b;omega
     ·obtain⟨e1,hs1'⟩:=ae
      exact(od f1 e1 hs1' st2 h3).2.1 p (f2 p hp)
    ·have:=c1.old k B hk b hb
     have:=G.old b (Nat.lt_of_lt_of_le hb c1.base.ext.size)
     omega
    ·
     exact hcount hrem hfl hn1 hn2
theorem Ib {e:am}:∀ {vs:List VI},ke e vs=true→∀ (i:Nat) (v:VI) (d:Nat),vs[i]?=some v→dg v=some d→get e d=none
 | [],_,i,v,d,h,_=>by simp at h
 | u::r,hl,i,v,d,h,hd=>by
  simp only[ke,Bool.and_eq_true]at hl
  cases i with
  | zero =>
   simp only[List.getElem?_cons_zero,Option.some.injEq]at h
   subst h
   have h1:=hl.1
   rw[hd]at h1
   simp only at h1
   cases hg:get e d with
   | none=>rfl
   | some x=>rw[hg]at h1;simp at h1
  | succ i =>
   simp only[List.getElem?_cons_succ]at h
   exact Ib hl.2 i v d h hd
theorem acs {g:Gh}{w:World}{t:Array Value}{O:Nat→Nat}{st st':St}{ro:Option Nat}(hr:dz P r) (hcs:dP P r) {n:Nat}{ops:Array Oper}{gco nr:List Nat}{vs:List VI}{perm:List Nat}(ds:List Deferred) (h:v4 P n ops perm gco nr vs=true) {Q:Exit→Act→World→Prop}{id:Nat}(hn:t.size=n)
  (s:S P g w st t O) (habs:ke st.env vs=true) (hrun:ct r nr vs perm [] st=some st') (hq:∀ w' t' g' O',dB P g w t O st' t' w' g' O'→Q .normal ⟨t',ds⟩ w'):(Code.region id ops true).wpIn (FR ro) 0 P Q ⟨t,ds⟩ w:=by
 have hok:=agv h
 refine wpIn_region_draw fun tt=>?_
 have hx:az g w g w.drew fun _=>False:=az.drew _ _ _
 have sd:=s.extF hx rfl s.pmlt
 have hleft:∀ m,afT ops nr vs (wS ops perm []) m (Array.replicate ops.size false) perm (fun _=>none):=fun m=>by
  refine⟨hok.pair,hok.nd,hok.lt,by simp,fun i hi=>?_,fun i b hi=>by simp at hi,fun i o hi=>?_⟩
  ·have:=hok.all i hi
   simp[hi,Array.getD,this]
  ·simp[Array.getD]at hi
 have hlen:(perm.filter fun i=>!(Array.replicate ops.size false).getD i true).length=ops.size:=by
  have h0:(perm.filter fun i=>!(Array.replicate ops.size false).getD i true)=perm:=List.filter_eq_self.2 fun i hi=>by
   have:=hok.lt i hi
   simp[Array.getD,this]
  have h1:perm.Perm (List.range ops.size):=by
   refine(List.perm_ext_iff_of_nodup hok.nd List.nodup_range).2 fun x=>?_
   rw[List.mem_range]
   exact⟨hok.lt x,hok.all x⟩
  rw[h0,h1.length_eq];simp
 have key:∀ m tt,wpOpsIn (FR ro) 0 P ops Q (Region.linearise m ops tt) ⟨t,ds⟩ w.drew:=fun m tt =>
  agG (ro:=ro) (m:=m) hr hcs hok ds (g0:=g) (w0:=w.drew) (t0:=t) (O0:=O) (st':=st') (fun w' t' g' O' G=>hq _ _ _ _ ⟨G.st,(hx.mono (T:=fun b=>O b≠0) fun _ _ h=>h.elim).trans G.ext fun _ _ h=>h,G.old,G.size⟩)
   ⟨hleft m,hn,sd,fun i hi v d hv hd _=>Ib habs i v d hv hd,fun i b hi=>by simp at hi,fun i j A B _ hi=>by simp at hi,dB.refl sd,fun i b hi=>by simp at hi,sd.le,hrun⟩ hlen
 unfold Region.schedule
 split
 ·exact key _ _
 ·exact key _ _
end
end Go.Vm
namespace Go.Vm
section
variable {P:Program}{F:Fence}{n:Nat}
theorem tY {fn:Func}{tmps:Array Value}{R:Ending→World→Prop}:∀ (ds:List Deferred) (u:FrameMode) (w:World) (fr:Frame)
  (cs:List Frame),fr.mode=u→fr.defers=ds→fr.tmps=tmps→P.funcs[fr.fn]?=some fn→fr.kind=.deferred→F.fn fr.fn→F.room (cs.length+1+n)→LeavesInM F n P fn tmps R ds u w→
  ∃ e w' fr',R e w'∧ComesIn (Machine.fenced P F) P (lone fr cs w) (lone fr' cs w') e∧fr'.fn=fr.fn∧fr'.kind=.deferred∧fr'.going P w' e:=by
 intro ds
 induction ds with
 | nil =>
  intro u w fr cs hu hd ht hf hk _ _ h
  cases u with
  | run=>exact h.elim
  | returning =>
   obtain⟨v,hr,hR⟩:=h
   exact⟨.returned v,w,fr,hR,StepsIn.refl _,rfl,hk,hu,hd,fn,hf,ht▸hr⟩
  | panicking chain=>exact⟨.panicked chain,w,fr,h,StepsIn.refl _,rfl,hk,hu,hd,fn,hf⟩
 | cons d ds ih =>
  intro u w fr cs hu hd ht hf hk hb hroom h
  obtain⟨hrun,h⟩:=h
  rcases h with ⟨r,w',htar,htake,hrest⟩ | ⟨hn,fv,cap,f,args,htar,hinv,hlead,hFf,hcall⟩
  ·have h1:=step_collected (cs:=cs) (hu▸hrun) hd htar htake
   have i1:(lone fr cs w).fenced P F:=fenced_out hb hroom (hu▸hrun) hd (fun g hg=>by rw[htar]at hg;simp[Target.leads]at hg)
   obtain⟨e',w'',fr',hR',hs',hfn',hk',hl'⟩:=ih u w' { fr with defers:=[]++ds } cs hu rfl ht hf hk hb hroom hrest
   exact⟨e',w'',fr',hR',ComesIn.of_steps (.one i1 h1) hs',hfn',hk',hl'⟩
  ·have h1:=step_defer (cs:=cs) (hu▸hrun) hd htar hinv
   have i1:(lone fr cs w).fenced P F:=fenced_out hb hroom (hu▸hrun) hd hlead
   have hroom':F.room (({ fr with defers:=ds }::cs).length+1+(n-1)):=Fence.room_enter hroom hn
   obtain⟨e,u',w',frX,hR,hsteps,hkX,hfX,hgo⟩:=hcall { fr with defers:=ds } cs hu hroom'
   cases e with
   | outgrown=>exact⟨.outgrown,w',fr,hR,Outgrown.of_steps (.one h1) hsteps,rfl,hk,trivial⟩
   | returned v =>
    have i2:(lone frX ({ { fr with defers:=ds } with mode:=u' }::cs) w').fenced P F:=fenced_going (n:=n-1) (hfX▸hFf) hroom' hgo
    have h2:=step_going_returned (c:={ { fr with defers:=ds } with mode:=u' }) (cs:=cs) hkX hgo
    obtain⟨e',w'',fr',hR',hs',hfn',hk',hl'⟩:=ih (settle u') w' { { { fr with defers:=ds } with mode:=u' } with mode:=settle u' } cs rfl rfl ht hf hk hb hroom hR
    exact⟨e',w'',fr',hR',ComesIn.of_steps (.head i1 h1 (StepsIn.trans hsteps (.one i2 h2))) hs',hfn',hk',hl'⟩
   | panicked chain =>
    have i2:(lone frX ({ { fr with defers:=ds } with mode:=u' }::cs) w').fenced P F:=fenced_going (n:=n-1) (hfX▸hFf) hroom' hgo
    have h2:=step_going_panicked (c:={ { fr with defers:=ds } with mode:=u' }) (cs:=cs) hgo
    obtain⟨e',w'',fr',hR',hs',hfn',hk',hl'⟩:=ih (raised u' chain) w' { { { fr with defers:=ds } with mode:=u' } with mode:=raised u' chain } cs rfl rfl ht hf hk hb hroom hR
    exact⟨e',w'',fr',hR',ComesIn.of_steps (.head i1 h1 (StepsIn.trans hsteps (.one i2 h2))) hs',hfn',hk',hl'⟩
theorem AK {f:FuncId}{fn:Func}{c:Code}{args:Array Value}{u:FrameMode}{w:World}{R:Ending→World→Prop}
  (hf:P.funcs[f]?=some fn) (hb:fn.body=some c) (hF:F.fn f)
  (h:c.wpIn F n P (bodyPostM F n P fn R) { tmps:=args++Array.replicate (fn.ntmps-args.size) undef,defers:=[] } w) (hro:F.round=none:=by rfl) :
  CallsDIn F n P f args u w fun e u' w'=>u'=u∧R e w':=by
 refine⟨hF,fun c₀ cs hu hr=>?_⟩
 let b:Frame:={ (default:Frame) with fn:=f,kind:=.deferred,roundOf:=none }
 have henter:Frame.enter P f args .deferred =
   b.atR { tmps:=args++Array.replicate (fn.ntmps-args.size) undef,defers:=[] } [.code c]:=by
  simp[Frame.enter,Frame.atR,hf,hb,b]
 have hc:({ c₀ with mode:=u }:Frame)=c₀:=by subst hu;rfl
 obtain⟨e,a',w',hq,harr⟩:=h b [] (c₀::cs) hro.symm hF hr
 rw[←henter]at harr
 cases e with
 | normal =>
  obtain⟨e',w'',fr',hR,hs,hfn,hk,hl⟩:=tY a'.defers .returning w' { b.atR a' [] with mode:=.returning } (c₀::cs) rfl rfl rfl hf rfl hF hr hq
  exact⟨e',u,w'',fr',⟨rfl,hR⟩,(by rw[hc];exact ComesIn.of_steps (StepsIn.trans harr (.one (fenced_calm (fr:=b.atR a' []) hF hr rfl) (stepR_end rfl))) hs),hk,hfn,hl⟩
 | ret =>
  obtain⟨todo,hs₀⟩:=harr.1 rfl
  obtain⟨e',w'',fr',hR,hs,hfn,hk,hl⟩:=tY a'.defers .returning w' { b.atR a' todo with mode:=.returning } (c₀::cs) rfl rfl rfl hf rfl hF hr hq
  exact⟨e',u,w'',fr',⟨rfl,hR⟩,(by rw[hc];exact ComesIn.of_steps hs₀ hs),hk,hfn,hl⟩
 | panic chain =>
  obtain⟨todo,hs₀⟩:=harr
  obtain⟨e',w'',fr',hR,hs,hfn,hk,hl⟩:=tY a'.defers (.panicking chain) w' { b.atR a' todo with mode:=.panicking chain } (c₀::cs) rfl rfl rfl hf rfl hF hr hq
  exact⟨e',u,w'',fr',⟨rfl,hR⟩,(by rw[hc];exact ComesIn.of_steps hs₀ hs),hk,hfn,hl⟩
 | exit id=>exact hq.elim
 | goto l=>exact hq.elim
 | outgrown=>exact⟨.outgrown,u,w',b,⟨rfl,hq⟩,(by rw[hc];exact harr.resolve_left (by simp[b])),rfl,rfl,trivial⟩
end
section
variable {P:Program}{g:Gh}{w:World}{t:Array Value}{O:Nat→Nat}{st st':St}{a:AV}{o:Oper}{r:br}
def sy (P:Program) (r:br):Prop :=
 ∀ {f:FuncId}{args:List AV}{hs:HS}{v:AV}{hs':HS},r.call f args hs=some (v,hs')→
  ∀ {g:Gh}{w:World}{xs:List Value}{Oa Oh:Nat→Nat},ai g w args xs Oa→S P g w ⟨[],hs⟩ #[] Oh→(∀ b,Oa b+Oh b≤1)→(∀ b,Oa b≠0→b<w.heap.size)→∀ u:FrameMode,
   CallsDIn (FR none) 0 P f xs.toArray u w fun e u' w'=>u'=u∧c8 P g w (fun b=>Oa b+Oh b) v hs' e w'
theorem It {ro:Option Nat}{fn:Func}{tmps:Array Value}{R:Ending→World→Prop}{lo:Nat}{es:List Deferred}:∀ {ms:List Deferred}{w:World},dV w O lo ms→S P g w st t O→
  (∀ w',S P g w' st t O→az g w g w' (fun b=>lo≤b)→LeavesInM (FR ro) 0 P fn tmps R es .returning w')→LeavesInM (FR ro) 0 P fn tmps R (ms++es) .returning w
 | [],w,_,s,h=>h w s (.refl _ _ _)
 | d::ds,w,⟨⟨r,h1,h2,h3,h4,h5⟩,h6⟩,s,h=>by
  refine⟨by simp,.inl ⟨r,setBlk w r (.deferred none),h1,wC h3,?_⟩⟩
  have hx:az g w g (setBlk w r (.deferred none)) fun x=>x=r:=az.deferBlk h3
  have hm:dV (setBlk w r (.deferred none)) O lo ds:=by
   clear h
   have:∀ {es:List Deferred},(∀ d'∈es,∀ r',d'.target=.collected r'→r'<r)→dV w O lo es→dV (setBlk w r (.deferred none)) O lo es:=by
    intro es
    induction es with
    | nil=>exact fun _ _=>trivial
    | cons e es ih =>
     rintro hlt ⟨⟨q,k1,k2,k3,k4,k5⟩,k6⟩
     have:=hlt e (.head _) q k1
     exact⟨⟨q,k1,k2,by rw[dq (by omega)];exact k3,k4,k5⟩,ih (fun d' hd'=>hlt d' (.tail _ hd')) k6⟩
   exact this h5 h6
  exact It hm (s.otherG hx h4) fun w' s' hx'=>h w' s' ((hx.mono (T:=fun b=>lo≤b) fun b _ e=>by rw[e];exact h2).trans hx' fun _ _ h=>h)
end
end Go.Vm
namespace Go.Vm
def afK (P:Program) (vf:af) (f:FuncId):Prop :=
 ∃ fn c,P.funcs[f]?=some fn∧fn.body=some c∧fn.name≠ "runtime.NumGoroutine"∧vf.nparams≤fn.ntmps∧fA P vf.results fn.results.toList=true∧
  (Mt P fn.ntmps vf.body c∨(∃ m,vf.body=.clone m∧Bs P m c=true∧8≤fn.ntmps)∨∃ i d f a,vf.body=.late i d f a∧Gd P fn.ntmps i d f a c=true)
def xk (P:Program) (T:Nat→Option af):Prop:=∀ f vf,T f=some vf→afK P vf f
def u9 (P:Program) (r:br):Prop :=
 ∀ {v:VC}{st:St}{o:aT}{st':St},r.code (.loop v) st=some (o,st')→∀ {c:Code}{n:Nat},Mt P n v c→∀ {g:Gh}{w:World}{t:Array Value}{O:Nat→Nat},t.size=n→S P g w st t O→
  ∀ (ro:Option Nat) (ds:List Deferred),rq w ro→AS ro P c (aK P g w t O ds ro o st') ⟨t,ds⟩ w
def qT (P:Program) (r:br):Prop :=
 ∀ {v cur:VC}{st:St}{o:aT}{st':St},r.code (.inScope v cur) st=some (o,st')→∀ {body c:Code}{n:Nat},Mt P n v body→Mt P n cur c→∀ {g:Gh}{w:World}{t:Array Value}{O:Nat→Nat},t.size=n→
  S P g w st t O→∀ (ro:Option Nat) (ds:List Deferred),rq w ro→tx ro P body c (aK P g w t O ds ro o st') ⟨t,ds⟩ w
def rk (P:Program) (r:br):Prop :=
 ∀ {v:VC}{st:St}{o:aT}{st':St},jV v=true→r.code v st=some (o,st')→o=.normal∧∀ {g:Gh}{w:World}{t:Array Value}{O:Nat→Nat},S P g w st t O→∃ g' O',dB P g w t O st' t w g' O'
section
variable {P:Program}{g:Gh}{w:World}{t:Array Value}{O:Nat→Nat}{st st':St}{r:br}
theorem AS.mono {ro:Option Nat}{c:Code}{Q Q':Exit→Act→World→Prop}{a:Act}(h:AS ro P c Q a w) (hq:∀ e a w,Q e a w→Q' e a w):AS ro P c Q' a w :=
 fun b k cs hr=>let ⟨e,a',w',q,x⟩:=h b k cs hr;⟨e,a',w',hq _ _ _ q,x⟩
theorem tx.mono {ro:Option Nat}{body c:Code}{Q Q':Exit→Act→World→Prop}{a:Act}(h:tx ro P body c Q a w) (hq:∀ e a w,Q e a w→Q' e a w):tx ro P body c Q' a w :=
 fun b k cs hr=>let ⟨e,a',w',q,x⟩:=h b k cs hr;⟨e,a',w',hq _ _ _ q,x⟩
theorem dB.mono {O2:Nat→Nat}{t':Array Value}{w':World}{g':Gh}{O':Nat→Nat}(h:dB P g w t O st' t' w' g' O') (hle:∀ b,O b≤O2 b):dB P g w t O2 st' t' w' g' O' :=
 ⟨h.st,h.ext.mono fun b _ hb=>by have:=hle b;omega,fun b hb=>Nat.le_trans (h.old b hb) (hle b),h.size⟩
theorem aK.mono {O2:Nat→Nat}{ds:List Deferred}{ro:Option Nat}{o:aT}{e:Exit}{a':Act}{w':World}(h:aK P g w t O ds ro o st' e a' w') (hle:∀ b,O b≤O2 b):aK P g w t O2 ds ro o st' e a' w':=by
 obtain⟨he,g',O',ms,G,hd,hm,hr⟩:=h
 exact⟨he,g',O',ms,G.mono hle,hd,hm,hr⟩
theorem aK.refl {ds:List Deferred}{ro:Option Nat}(o:aT) (s:S P g w st t O):aK P g w t O ds ro o st (ta o) ⟨t,ds⟩ w :=
 ⟨rfl,g,O,[],dB.refl s,rfl,trivial,fun _=>rfl⟩
theorem aK.ghost {ds:List Deferred}{ro:Option Nat}{o o2:aT}{st2:St}{e:Exit}{a':Act}{w':World}(h:aK P g w t O ds ro o st' e a' w')
  (hg:∀ {g:Gh}{w:World}{t:Array Value}{O:Nat→Nat},S P g w st' t O→∃ g' O',dB P g w t O st2 t w g' O') (ho:ta o=ta o2):aK P g w t O ds ro o2 st2 e a' w':=by
 obtain⟨he,g',O',ms,G,hd,hm,hr⟩:=h
 obtain⟨g2,O2,G2⟩:=hg G.st
 exact⟨he.trans ho,g2,O2,ms,G.trans G2,hd,hm.after G2.ext G2.old,hr⟩
theorem aK.as {ds:List Deferred}{ro:Option Nat}{o o2:aT}{e:Exit}{a':Act}{w':World}(h:aK P g w t O ds ro o st' e a' w'):aK P g w t O ds ro o2 st' (ta o2) a' w':=by
 obtain⟨_,h⟩:=h
 exact⟨rfl,h⟩
theorem rg {ds:List Deferred}{ro:Option Nat}(hro:rq w ro) {o1:aT}{ae:St}{next:Act→World→Prop}{o:aT}{e:Exit}{a1:Act}{w1:World}(h:aK P g w t O ds ro o1 ae e a1 w1)
  (hn:o1=.normal→∀ (t1:Array Value) (ds1:List Deferred) (g1:Gh) (O1:Nat→Nat),t1.size=t.size→S P g1 w1 ae t1 O1→rq w1 ro→
   (∀ e a2 w2,aK P g1 w1 t1 O1 ds1 ro o st' e a2 w2→aK P g w t O ds ro o st' e a2 w2)→next ⟨t1,ds1⟩ w1)
  (ho:o1≠.normal→o=o1∧st'=ae):Exit.then next (aK P g w t O ds ro o st') e a1 w1:=by
 have h0:=h
 obtain⟨he,g1,O1,ms,G,hd,hm,hr⟩:=h
 subst he
 by_cases hnm:o1=.normal
 ·subst hnm
  obtain⟨t1,d1⟩:=a1
  simp only at hd
  subst hd
  exact hn rfl t1 _ g1 O1 G.size G.st (hro.ext G.ext) fun e a2 w2 k=>aK.comp G hm hr k
 ·obtain⟨rfl,rfl⟩:=ho hnm
  cases o<;>first | exact absurd rfl hnm | exact h0
theorem TQ (hc:dP P r) (hl:u9 P r) (hs:qT P r) (hgh:rk P r) (hr:dz P r) {v:VC}{o:aT}(h:aR v r st=some (o,st')) {c:Code}{n:Nat}(hm:Mt P n v c) (hn:t.size=n)
  (s:S P g w st t O) (ro:Option Nat) (ds:List Deferred) (hro:rq w ro):c.wpIn (FR ro) 0 P (aK P g w t O ds ro o st') ⟨t,ds⟩ w:=by
 cases hm with
 | @ghostL a b c h1 h2 =>
  simp only[aR,AZ]at h
  split at h
  ·rename_i ae ha
   obtain⟨_,hg⟩:=hgh h1 ha
   obtain⟨g1,O1,G⟩:=hg s
   exact wpIn_mono (hc h h2 (by rw[←hn]) G.st ro ds hro) fun e a2 w2 k=>aK.comp (ms1:=[]) G trivial (fun _=>rfl) k
  ·rename_i x hx
   cases hra:r.code a st with
   | none=>rw[hra]at h;simp at h
   | some p =>
    obtain⟨o1,ae⟩:=p
    obtain⟨rfl,_⟩:=hgh h1 hra
    exact absurd hra (by intro h3;exact hx _ h3)
 | @ghostR a b c h1 h2 =>
  simp only[aR,AZ]at h
  split at h
  ·rename_i ae ha
   obtain⟨rfl,hg⟩:=hgh h1 h
   exact wpIn_mono (hc ha h2 hn s ro ds hro) fun e a2 w2 k=>k.ghost hg rfl
  ·rename_i x hx
   exact hc h h2 hn s ro ds hro
 | @seq a b c d h1 h2 =>
  simp only[aR,AZ]at h
  split at h
  ·rename_i ae ha
   refine wpIn_seq (wpIn_mono (hc ha h1 hn s ro ds hro) fun e a1 w1 k=>rg hro k (fun _ t1 ds1 g1 O1 hs1 s1 hro1 hcomp=>?_) (fun hne=>absurd rfl hne))
   exact wpIn_mono (hc h h2 (by rw[hs1,hn]) s1 ro ds1 hro1) hcomp
  ·rename_i x hx
   refine wpIn_seq (wpIn_mono (hc h h1 hn s ro ds hro) fun e a1 w1 k=>rg hro k (fun hnm=>?_) (fun _=>⟨rfl,rfl⟩))
   subst hnm
   exact absurd h (by intro h3;exact hx _ h3)
 | skip =>
  simp only[aR,Option.some.injEq,Prod.mk.injEq]at h
  obtain⟨rfl,rfl⟩:=h
  exact wpIn_skip (aK.refl .normal s)
 | @reg ops id os hops =>
  simp only[aR,F3]at h
  split at h
  ·rename_i ae hst
   simp only[Option.some.injEq,Prod.mk.injEq]at h
   obtain⟨rfl,rfl⟩:=h
   refine wpIn_region ?_
   have:=Rw (ro:=ro) (Q:=aK P g w t O ds ro .normal ae) hr hc ds (k:=0) rfl hops hn s hst fun w' t' g' O' G=>⟨rfl,g',O',[],G,rfl,trivial,fun _=>rfl⟩
   rw[List.range_eq_range']
   simpa using this
  ·simp at h
 | @draw ops id os hops =>
  simp only[aR,F3]at h
  split at h
  ·rename_i ae hst
   simp only[Option.some.injEq,Prod.mk.injEq]at h
   obtain⟨rfl,rfl⟩:=h
   exact afb hr hc ds hops hn s hst fun w' t' g' O' G=>⟨rfl,g',O',[],G,rfl,trivial,fun _=>rfl⟩
  ·simp at h
 | @drawP perm gco nr ops id os hops =>
  simp only[aR,zB,zY]at h
  split at h
  ·rename_i habs
   split at h
   ·rename_i ae hst
    simp only[Option.some.injEq,Prod.mk.injEq]at h
    obtain⟨rfl,rfl⟩:=h
    exact acs hr hc ds hops hn s habs hst fun w' t' g' O' G=>⟨rfl,g',O',[],G,rfl,trivial,fun _=>rfl⟩
   ·simp at h
  ·simp at h
 | @cond rd o' a b c d h1 h2 h3 =>
  simp only[aR,zh]at h
  have step:∀ (tb:Bool) (e:am) (k:VC) (cd:Code),Vm.rd st.env rd=some (.d (.bool tb),e)→r.code k ⟨e,st.hs⟩=some (o,st')→Mt P n k cd→(if tb then c else d)=cd→
    (Code.cond o' c d).wpIn (FR ro) 0 P (aK P g w t O ds ro o st') ⟨t,ds⟩ w:=by
   intro tb e k cd hrd hk hmk hcd
   obtain⟨Ov,O',rv,s',l⟩:=s.rd h1 hrd
   have hev:=og rv rfl
   refine wpIn_cond (t:=tb) (by rw[u5];exact hev) ?_
   rw[hcd]
   exact wpIn_mono (hc hk hmk hn s' ro ds hro) fun e a2 w2 k=>k.mono fun b=>by have:=l b;omega
  split at h
  ·rename_i e hrd
   exact step true e a c hrd h h2 rfl
  ·rename_i e hrd
   exact step false e b d hrd h h3 rfl
  ·simp at h
 | @block bid a c h1 =>
  simp only[aR,zS]at h
  split at h
  ·rename_i j ae ha
   refine wpIn_block (wpIn_mono (hc ha h1 hn s ro ds hro) fun e a1 w1 k=>?_)
   obtain⟨rfl,_⟩:=id k
   simp only[ta,Exit.inBlock]
   split at h
   ·rename_i hj
    rw[Nat.beq_eq]at hj
    simp only[Option.some.injEq,Prod.mk.injEq]at h
    obtain⟨rfl,rfl⟩:=h
    rw[if_pos hj]
    exact k.as
   ·rename_i hj
    simp only[Option.some.injEq,Prod.mk.injEq]at h
    obtain⟨rfl,rfl⟩:=h
    rw[if_neg (by intro e;subst e;simp at hj)]
    exact k
  ·rename_i x hx
   refine wpIn_block (wpIn_mono (hc h h1 hn s ro ds hro) fun e a1 w1 k=>?_)
   have hne:∀ j,o≠.exit j:=by rintro j rfl;exact absurd h (by intro h3;exact hx _ _ h3)
   obtain⟨rfl,_⟩:=id k
   cases o<;>first | exact k | exact absurd rfl (hne _)
 | @loop a c h1 =>
  simp only[aR,Ek]at h
  refine(N3 ?_).2
  split at h
  ·rename_i ae ha
   refine wpIn_mono (hc ha h1 hn s ro ds hro) fun e a1 w1 k=>rg hro k (fun _ t1 ds1 g1 O1 hs1 s1 hro1 hcomp=>?_) (fun hne=>absurd rfl hne)
   exact(hl h h1 (by rw[hs1,hn]) s1 ro ds1 hro1).mono hcomp
  ·rename_i x hx
   refine wpIn_mono (hc h h1 hn s ro ds hro) fun e a1 w1 k=>rg hro k (fun hnm=>?_) (fun _=>⟨rfl,rfl⟩)
   subst hnm
   exact absurd h (by intro h3;exact hx _ h3)
 | @rangeF rd o' ps qs a b c d h1 h2 h3 h4 h5 =>
  subst hn h2
  exact YD hr h h1 h3 h4 h5 s ro ds hro
 | exit =>
  simp only[aR,Option.some.injEq,Prod.mk.injEq]at h
  obtain⟨rfl,rfl⟩:=h
  exact wpIn_exit (aK.refl (.exit _) s)
 | @scope a c h1 =>
  simp only[aR,Z1]at h
  exact acp (hs h h1 h1 hn s ro ds hro)
 | label =>
  simp only[aR,Option.some.injEq,Prod.mk.injEq]at h
  obtain⟨rfl,rfl⟩:=h
  exact wpIn_label (aK.refl .normal s)
 | goto =>
  simp only[aR,Option.some.injEq,Prod.mk.injEq]at h
  obtain⟨rfl,rfl⟩:=h
  exact wpIn_goto (aK.refl (.goto _) s)
 | ret =>
  simp only[aR,Option.some.injEq,Prod.mk.injEq]at h
  obtain⟨rfl,rfl⟩:=h
  exact wpIn_ret (aK.refl .ret s)
theorem acM (hc:dP P r) (hl:u9 P r) {v:VC}{o:aT}(h:aR (.loop v) r st=some (o,st')) {c:Code}{n:Nat}(h1:Mt P n v c) (hn:t.size=n)
  (s:S P g w st t O) (ro:Option Nat) (ds:List Deferred) (hro:rq w ro):AS ro P c (aK P g w t O ds ro o st') ⟨t,ds⟩ w:=by
 simp only[aR,Ek]at h
 refine(N3 ?_).1
 split at h
 ·rename_i ae ha
  refine wpIn_mono (hc ha h1 hn s ro ds hro) fun e a1 w1 k=>rg hro k (fun _ t1 ds1 g1 O1 hs1 s1 hro1 hcomp=>?_) (fun hne=>absurd rfl hne)
  exact(hl h h1 (by rw[hs1,hn]) s1 ro ds1 hro1).mono hcomp
 ·rename_i x hx
  refine wpIn_mono (hc h h1 hn s ro ds hro) fun e a1 w1 k=>rg hro k (fun hnm=>?_) (fun _=>⟨rfl,rfl⟩)
  subst hnm
  exact absurd h (by intro h3;exact hx _ h3)
theorem abi (hc:dP P r) (hs:qT P r) {v cur:VC}{o:aT}(h:aR (.inScope v cur) r st=some (o,st')) {body c:Code}{n:Nat}(h1:Mt P n v body) (h2:Mt P n cur c) (hn:t.size=n)
  (s:S P g w st t O) (ro:Option Nat) (ds:List Deferred) (hro:rq w ro):tx ro P body c (aK P g w t O ds ro o st') ⟨t,ds⟩ w:=by
 simp only[aR,xH]at h
 refine Yt ?_
 split at h
 ·rename_i l ae ha
  refine wpIn_mono (hc ha h2 hn s ro ds hro) fun e a1 w1 k=>?_
  have k0:=k
  obtain⟨rfl,g1,O1,ms,G,hd,hm,hr⟩:=k
  have hf:=acC h1 l
  simp only[ta,Exit.scope]
  split at h
  ·rename_i rest hrest
   rw[hrest]at hf
   obtain⟨y,hy,hmy⟩:=hf
   rw[hy]
   obtain⟨t1,d1⟩:=a1
   simp only at hd
   subst hd
   exact(hs h h1 hmy (by rw[G.size,hn]) G.st ro _ (hro.ext G.ext)).mono fun e a2 w2 k=>aK.comp G hm hr k
  ·rename_i hnone
   rw[hnone]at hf
   rw[hf]
   simp only[Option.some.injEq,Prod.mk.injEq]at h
   obtain⟨rfl,rfl⟩:=h
   exact k0
 ·rename_i x hx
  refine wpIn_mono (hc h h2 hn s ro ds hro) fun e a1 w1 k=>?_
  have hne:∀ l,o≠.goto l:=by rintro l rfl;exact absurd h (by intro h3;exact hx _ _ h3)
  obtain⟨rfl,_⟩:=id k
  cases o<;>first | exact k | exact absurd rfl (hne _)
theorem Mp {r:br}:∀ {ops:List VI}{st st':St},ops.all zV=true→eM r ops st=some st'→∀ {g:Gh}{w:World}{t:Array Value}{O:Nat→Nat},S P g w st t O→∃ g' O',dB P g w t O st' t w g' O'
 | [],st,st',_,h,g,w,t,O,s=>by
  simp only[eM,Option.some.injEq]at h;subst h
  exact⟨g,O,dB.refl s⟩
 | i::l,st,st',ha,h,g,w,t,O,s=>by
  simp only[List.all_cons,Bool.and_eq_true]at ha
  simp only[eM]at h
  split at h
  ·rename_i ae hv
   obtain⟨g1,O1,G1⟩:=Th s ha.1 hv
   obtain⟨g2,O2,G2⟩:=Mp ha.2 h G1.st
   exact⟨g2,O2,G1.trans G2⟩
  ·simp at h
theorem aaM (hg:rk P r) {v:VC}{o:aT}(hv:jV v=true) (h:aR v r st=some (o,st')):o=.normal∧∀ {g:Gh}{w:World}{t:Array Value}{O:Nat→Nat},S P g w st t O→∃ g' O',dB P g w t O st' t w g' O':=by
 cases v<;>simp only[jV,Bool.false_eq_true]at hv
 ·simp only[aR,F3]at h
  split at h
  ·rename_i ae hst
   simp only[Option.some.injEq,Prod.mk.injEq]at h
   obtain⟨rfl,rfl⟩:=h
   exact⟨rfl,fun s=>Mp hv hst s⟩
  ·simp at h
 ·simp only[Bool.and_eq_true]at hv
  simp only[aR,AZ]at h
  split at h
  ·rename_i ae hst
   obtain⟨_,h1⟩:=hg hv.1 hst
   obtain⟨ho,h2⟩:=hg hv.2 h
   refine⟨ho,fun s=>?_⟩
   obtain⟨g1,O1,G1⟩:=h1 s
   obtain⟨g2,O2,G2⟩:=h2 G1.st
   exact⟨g2,O2,G1.trans G2⟩
  ·rename_i x hx
   obtain⟨ho,_⟩:=hg hv.1 h
   subst ho
   exact absurd h (hx _)
end
end Go.Vm
namespace Go.Vm
section
variable {P:Program}
theorem Cq {fn:Func}{vf:af}(h5:fA P vf.results fn.results.toList=true) {v:AV}{hs':HS}{o:aT}{ae:St}(ho:o=.normal∨o=.ret) (hend:uk vf ae=some (v,hs')) {g:Gh}{w:World}{t:Array Value}{O:Nat→Nat}
  {e:Exit}{a':Act}{w':World}(k:aK P g w t O [] none o ae e a' w'):bodyPostM (FR none) 0 P fn (c8 P g w O v hs') e a' w':=by
 obtain⟨rfl,g',O',ms,G,hd,hm,_⟩:=k
 rw[List.append_nil]at hd
 have key:LeavesInM (FR none) 0 P fn a'.tmps (c8 P g w O v hs') a'.defers .returning w':=by
  rw[hd]
  refine MD hm G.st fun w2 s2 hx2=>?_
  obtain⟨x,Ov,Oh2,hrun,rx,sh2,l2⟩:=Wb h5 hend s2
  refine⟨x,hrun,g',Ov,Oh2,rx,sh2,G.ext.trans hx2 (fun b hb hq=>absurd hq (by omega)),fun b=>by have:=l2 b;have:=s2.le b;omega,fun b hb=>?_,fun b hb=>s2.hi b (by have:=l2 b;omega)⟩
  have:=l2 b;have:=G.old b hb
  omega
 rcases ho with rfl | rfl
 ·exact key
 ·exact key
theorem aaW {r:br}(hr:dz P r) (hrd:sy P r) {fn:Func}{vf:af}(h5:fA P vf.results fn.results.toList=true) {v v1:AV}{hs2 hs':HS}{o:aT}{ae:St}(ho:o=.normal∨o=.ret) {f id off:Nat}
  (hcall:r.call f [.ptr id off] ae.hs=some (v1,hs2)) (hend:uk vf ⟨ae.env,hs2⟩=some (v,hs')) {g:Gh}{w:World}{t:Array Value}{O:Nat→Nat}{x:Value}(hx:∃ b,g.obj id=some b∧x=.pointer (some ⟨b,g.base id+off,none⟩))
  {e:Exit}{a':Act}{w':World}(k:aK P g w t O [{ target:=.fn (.func f) #[],args:=#[x] }] none o ae e a' w'):bodyPostM (FR none) 0 P fn (c8 P g w O v hs') e a' w':=by
 obtain⟨rfl,g',O',ms,G,hd,hm,_⟩:=k
 obtain⟨hf,hk⟩:=hr hcall
 have key:LeavesInM (FR none) 0 P fn a'.tmps (c8 P g w O v hs') a'.defers .returning w':=by
  rw[hd]
  refine It hm G.st fun w2 s2 hx2=>?_
  have hx12:az g w g' w2 fun b=>O b≠0:=G.ext.trans hx2 (fun b hb hq=>absurd hq (by omega))
  obtain⟨b,hb,hxe⟩:=hx
  obtain⟨k1,k2,_⟩:=hx12.obj id b hb
  have rv:ai g' w2 [.ptr id off] [x] zero:=by
   simp only[ai]
   refine⟨x,[],zero,zero,rfl,?_,⟨rfl,fun _=>rfl⟩,fun _=>rfl⟩
   simp only[RV]
   exact⟨⟨b,k1,by rw[hxe,k2]⟩,fun _=>by simp⟩
  obtain⟨Oe,Oh,re,sh,hO⟩:=s2.split
  refine⟨by simp,.inr ⟨by simp[Fence.wide],.func f,#[],f,#[x],rfl,?_,fun _ _=>trivial,(hrd hcall rv sh (fun b=>by have:=s2.le b;have:=hO b;simp;omega) (fun b hb=>by simp at hb) .returning).mono ?_⟩⟩
  ·show (callFunc f (#[x]++#[])).run P w2=_
   simpa using kX hf #[x]
  ·rintro e u' w3 ⟨rfl,hp⟩
   cases e with
   | panicked c=>exact hp.elim
   | outgrown=>exact hp.elim
   | returned y =>
    obtain⟨g3,Oa,O3,A⟩:=uw (v:=v1) (hs:=ae.hs) (t:=a'.tmps) s2.se re (fun b=>by have:=hO b;simp;omega) s2 hp
    obtain⟨x4,Ov,Oh2,hrun,rx,sh2,l2⟩:=Wb h5 hend A.st
    refine⟨x4,hrun,g3,Ov,Oh2,rx,sh2,hx12.trans A.ext (fun b hb h=>by have:=G.old b hb;omega),fun b=>by have:=l2 b;have:=A.le b;omega,fun b hb=>?_,fun b hb=>A.st.hi b (by have:=l2 b;omega)⟩
    have:=l2 b;have:=G.old b hb;have:=A.old b (Nat.lt_of_lt_of_le hb hx12.size)
    omega
 rcases ho with rfl | rfl
 ·exact key
 ·exact key
theorem aaq {r:br}(hc:dP P r) (hr:dz P r) (hrd:sy P r) {n i d f:Nat}{a:VC}{c:Code}(hk:Gd P n i d f a c=true) {fn:Func}{vf:af}(h5:fA P vf.results fn.results.toList=true) {st ae:St}{o:aT}{v:AV}{hs':HS}
  (h:Dd r i d f a st=some (o,ae)) (hend:uk vf ae=some (v,hs')) {g:Gh}{w:World}{t:Array Value}{O:Nat→Nat}(hn:t.size=n) (s:S P g w st t O) :
  c.wpIn (FR none) 0 P (bodyPostM (FR none) 0 P fn (c8 P g w O v hs')) ⟨t,[]⟩ w:=by
 obtain⟨env,hs⟩:=st
 unfold Gd at hk
 split at hk
 ·rename_i rid os rest
  simp only[Bool.and_eq_true]at hk
  obtain⟨⟨hk1,hdn⟩,hrest⟩:=hk
  split at hk1
  ·rename_i m kk hos
   simp only[Bool.and_eq_true]at hk1
   obtain⟨⟨⟨⟨hm1,hm2⟩,hk1a⟩,hk1b⟩,hk2⟩:=hk1
   obtain⟨hmd,hmg⟩:=lC hm1
   have hk1a':kk.dst=none:=by simpa using hk1a
   have hk1b':kk.guard=none:=by simpa using hk1b
   split at hm2
   ·rename_i y hmop
    have:=jy hm2;subst this
    split at hk2
    ·rename_i cl hkop
     simp only[Bool.and_eq_true]at hk2
     obtain⟨hcal,hargs⟩:=hk2
     have hcal':=yx hcal
     split at hargs
     ·rename_i y hay
      have:=jy hargs;subst this
      have harr:cl.args=#[.tmp d]:=amU hay
      have hosA:os=#[m,kk]:=by apply Array.ext';rw[hos]
      subst hosA
      have hd:d<t.size:=by rw[hn];simpa [Nat.blt_eq] using hdn
      unfold Dd at h
      split at h
      ·rename_i id off hget
       obtain⟨Ov,O1,rv,s1,l1⟩:=s.rd (r:=.s i) (o:=.tmp i) (by simp[aN]) (v:=.ptr id off) (e':=env) (by have hg:=hget;simp only at hg;simp[rd,hg,share])
       simp only[RV]at rv
       obtain⟨hxp,hOv⟩:=rv
       have rv':RV g w (.ptr id off) (ev t (.tmp i)) zero:=by simp only[RV];exact⟨hxp,fun _=>by simp⟩
       obtain⟨O2,s2,l2⟩:=s.setTmp hd rv' (fun b=>by have:=s.le b;simp;omega) (fun b hb=>by simp at hb)
       have hle2:∀ b,O2 b≤O b:=fun b=>by have:=l2 b;simpa using this
       have hst:∃ o1 st0 v1 hs2,(o1=.normal∨o1=.ret)∧r.code a ⟨put env d (.ptr id off),hs⟩=some (o1,st0)∧r.call f [.ptr id off] st0.hs=some (v1,hs2)∧ae=⟨st0.env,hs2⟩:=by
        split at h
        ·rename_i st0 hra
         split at h
         ·rename_i v1 hs2 hcl
          simp only[Option.some.injEq,Prod.mk.injEq]at h
          exact⟨_,st0,v1,hs2,.inl rfl,hra,hcl,h.2.symm⟩
         ·simp at h
        ·rename_i st0 hra
         split at h
         ·rename_i v1 hs2 hcl
          simp only[Option.some.injEq,Prod.mk.injEq]at h
          exact⟨_,st0,v1,hs2,.inr rfl,hra,hcl,h.2.symm⟩
         ·simp at h
        ·simp at h
       obtain⟨o1,st0,v1,hs2,ho1,hra,hcl,rfl⟩:=hst
       refine wpIn_seq (wpIn_region ?_)
       have hx2:(t.setIfInBounds d (ev t (.tmp i))).getD d undef=ev t (.tmp i):=by rw[eu hd];simp
       have hgo:rest.wpIn (FR none) 0 P (bodyPostM (FR none) 0 P fn (c8 P g w O v hs')) ⟨t.setIfInBounds d (ev t (.tmp i)),[{ target:=.fn (.func f) #[],args:=#[ev t (.tmp i)] }]⟩ w:=by
        refine wpIn_mono (hc hra (ee a rest hrest) (by simp[hn]) s2 none _ (fun l hl=>by simp at hl)) fun e a' w' k=>?_
        exact aaW hr hrd h5 ho1 hcl hend hxp (k.mono hle2)
       simp only[List.range,List.range.loop,List.size_toArray,List.length_cons,List.length_nil,wpOpsIn,Nat.zero_add]
       simp only[List.getElem?_toArray,List.getElem?_cons_zero,List.getElem?_cons_succ,Region.wanted,hmg,hk1b',if_true,Oper.wpIn]
       refine⟨fun _ _=>trivial,?_⟩
       rw[A8 t [] (by rw[hmop];simp)]
       simp only[execOp,hmop,Sem.run_pure,Oper.uponIn_value,Act.put,hmd]
       rw[Oper.semAt_none,u5]
       have hrun:(execOp (ev (t.setIfInBounds d (ev t (.tmp i)))) kk).run P w=.ok (.defer { target:=.fn (.func f) #[],args:=#[ev t (.tmp i)] }) w:=by
        have h0:ev (t.setIfInBounds d (ev t (.tmp i))) (.tmp d)=ev t (.tmp i):=hx2
        have h1:ev (t.setIfInBounds d (ev t (.tmp i))) (.func f)=.func (.func f) #[] #[]:=rfl
        simp only[execOp,hkop,resolve,hcal',harr,h1,Deferred.ofValue]
        simp[h0]
       rw[hrun,Oper.uponIn_defer]
       simp only[Act.put,hk1a']
       exact⟨fun _ _=>trivial,hgo⟩
      ·simp at h
     ·simp at hargs
    ·simp at hk2
   ·simp at hm2
  ·simp at hk1
 ·simp at hk
theorem Tf {T:Nat→Option af}(hT:xk P T) {r:br}(hc:dP P r) (hl:u9 P r) (hs:qT P r) (hgh:rk P r) (hr:dz P r) (hrd:sy P r) {f:FuncId}{args:List AV}{hs0:HS}{v:AV}{hs':HS}
  (h:kt T r f args hs0=some (v,hs')):∃ fn c,P.funcs[f]?=some fn∧fn.body=some c∧fn.name≠ "runtime.NumGoroutine"∧∀ {g:Gh}{w:World}{xs:List Value}{Oa Oh:Nat→Nat},ai g w args xs Oa→S P g w ⟨[],hs0⟩ #[] Oh→(∀ b,Oa b+Oh b≤1)→(∀ b,Oa b≠0→b<w.heap.size)→
   c.wpIn (FR none) 0 P (bodyPostM (FR none) 0 P fn (c8 P g w (fun b=>Oa b+Oh b) v hs')) ⟨xs.toArray++Array.replicate (fn.ntmps-xs.toArray.size) undef,[]⟩ w:=by
 unfold kt at h
 split at h
 ·simp at h
 ·rename_i vf hvf
  obtain⟨fn,c,h1,h2,h3,h4,h5,h6⟩:=hT f vf hvf
  refine⟨fn,c,h1,h2,h3,fun {g w xs Oa Oh} rv sh hle hhi=>?_⟩
  split at h
  ·simp at h
  ·rename_i hlen
   rw[Nat.beq_eq]at hlen
   have hxl:=rv.length
   have hfin:∀ {o:aT}{ae:St},(o=.normal∨o=.ret)→aR vf.body r ⟨dK 0 args,hs0⟩=some (o,ae)→uk vf ae=some (v,hs')→
     c.wpIn (FR none) 0 P (bodyPostM (FR none) 0 P fn (c8 P g w (fun b=>Oa b+Oh b) v hs')) ⟨xs.toArray++Array.replicate (fn.ntmps-xs.toArray.size) undef,[]⟩ w:=by
    intro o ae ho hcode hend
    have s:=agU rv sh hle hhi (fn.ntmps-xs.toArray.size)
    have hsz:(xs.toArray++Array.replicate (fn.ntmps-xs.toArray.size) undef).size=fn.ntmps:=by simp;omega
    rcases h6 with hm | ⟨m,hb,hcl,h8⟩ | ⟨i,d,f2,a,hb,hlt⟩
    ·exact wpIn_mono (TQ hc hl hs hgh hr hcode hm hsz s none [] (fun l hl=>by simp at hl)) fun e a' w' k=>Cq h5 ho hend k
    ·rw[hb]at hcode
     exact wpIn_mono (abe hcl hcode (by rw[hsz];exact h8) s) fun e a' w' k=>Cq h5 ho hend k
    ·rw[hb]at hcode
     exact aaq hc hr hrd hlt h5 hcode hend hsz s
   split at h
   ·rename_i ae hcode;exact hfin (.inl rfl) hcode h
   ·rename_i ae hcode;exact hfin (.inr rfl) hcode h
   ·simp at h
theorem acr {T:Nat→Option af}(hT:xk P T) {r:br}(hc:dP P r) (hl:u9 P r) (hs:qT P r) (hgh:rk P r) (hr:dz P r) (hrd:sy P r) {f:FuncId}{args:List AV}{hs0:HS}{v:AV}{hs':HS}
  (h:kt T r f args hs0=some (v,hs')):abv P f∧∀ {g:Gh}{w:World}{xs:List Value}{Oa Oh:Nat→Nat},ai g w args xs Oa→S P g w ⟨[],hs0⟩ #[] Oh→(∀ b,Oa b+Oh b≤1)→(∀ b,Oa b≠0→b<w.heap.size)→
   CallsIn (FR none) 0 P f xs.toArray w (c8 P g w (fun b=>Oa b+Oh b) v hs'):=by
 obtain⟨fn,c,h1,h2,h3,hk⟩:=Tf hT hc hl hs hgh hr hrd h
 exact⟨⟨fn,h1,by simp[h2],h3⟩,fun rv sh hle hhi=>callsIn_of_wp_marks (F:=FR none) h1 h2 trivial (hk rv sh hle hhi)⟩
theorem aaA {T:Nat→Option af}(hT:xk P T) {r:br}(hc:dP P r) (hl:u9 P r) (hs:qT P r) (hgh:rk P r) (hr:dz P r) (hrd:sy P r) {f:FuncId}{args:List AV}{hs0:HS}{v:AV}{hs':HS}
  (h:kt T r f args hs0=some (v,hs')):∀ {g:Gh}{w:World}{xs:List Value}{Oa Oh:Nat→Nat},ai g w args xs Oa→S P g w ⟨[],hs0⟩ #[] Oh→(∀ b,Oa b+Oh b≤1)→(∀ b,Oa b≠0→b<w.heap.size)→∀ u:FrameMode,
   CallsDIn (FR none) 0 P f xs.toArray u w fun e u' w'=>u'=u∧c8 P g w (fun b=>Oa b+Oh b) v hs' e w':=by
 obtain⟨fn,c,h1,h2,h3,hk⟩:=Tf hT hc hl hs hgh hr hrd h
 exact fun rv sh hle hhi u=>AK (F:=FR none) h1 h2 trivial (hk rv sh hle hhi)
theorem aih {T:Nat→Option af}(hT:xk P T):∀ n,dP P (run T n)∧u9 P (run T n)∧qT P (run T n)∧rk P (run T n)∧dz P (run T n)∧sy P (run T n)
 | 0=>⟨fun h=>by simp[run]at h,fun h=>by simp[run]at h,fun h=>by simp[run]at h,fun _ h=>by simp[run]at h,fun h=>by simp[run]at h,fun h=>by simp[run]at h⟩
 | n+1=>by
  obtain⟨hc,hl,hs,hgh,hr,hrd⟩:=aih hT n
  refine⟨fun {v st o st'} h {c m} hm {g w t O} hn s ro ds hro=>?_,fun {v st o st'} h {c m} hm {g w t O} hn s ro ds hro=>?_,fun {v cur st o st'} h {body c m} h1 h2 {g w t O} hn s ro ds hro=>?_,fun {v st o st'} hv h=>?_,fun {f args hs0 v hs'} h=>?_,fun {f args hs0 v hs'} h=>?_⟩
  ·exact TQ hc hl hs hgh hr h hm hn s ro ds hro
  ·exact acM hc hl h hm hn s ro ds hro
  ·exact abi hc hs h h1 h2 hn s ro ds hro
  ·exact aaM hgh hv h
  ·exact acr hT hc hl hs hgh hr hrd h
  ·exact aaA hT hc hl hs hgh hr hrd h
theorem Iu {T:Nat→Option af}(hT:xk P T) {n:Nat}{f:FuncId}{args:List AV}{v:AV}{hs':HS}(h:(run T n).call f args ⟨[],0⟩=some (v,hs')) {g:Gh}{w:World}{xs:List Value}
  (hobj:∀ id,g.obj id=none) (hpm:∀ b o,g.pm b o→b<w.heap.size) (rv:ai g w args xs zero) :
  Calls P f xs.toArray w (c8 P g w zero v hs'):=by
 obtain⟨_,_,_,_,hr,_⟩:=aih hT n
 obtain⟨_,hk⟩:=hr h
 have sh:S P g w ⟨[],⟨[],0⟩⟩ #[] zero:=⟨List.Pairwise.nil,List.Pairwise.nil,⟨zero,zero,fun _=>rfl,fun _=>rfl,fun _=>rfl⟩,fun _=>by simp,fun b hb=>by simp at hb,fun id _=>hobj id,hpm⟩
 have:=hk rv sh (fun b=>by simp) (fun b hb=>by simp at hb)
 exact this.calls fun _=>S3 _ _
end
#print axioms Iu
end Go.Vm
namespace Go.Vm
inductive Ty where
 | int (k:IntKind)
 | bool
 | str
 | lst (es:List Ty)
mutual
def jx:Ty→D→Prop
 | .int k,.int j n=>j=k∧(Lit.int k n).wf=true
 | .bool,.bool _=>True
 | .str,.str _=>True
 | .lst es,.lst xs=>∀ x∈xs,cf es x
 | _,_=>False
def cf:List Ty→List D→Prop
 | [],[]=>True
 | t::ts,d::ds=>jx t d∧cf ts ds
 | _,_=>False
end
def XX (P:Program) (f:TypeId→Option (List Ty)):List Field→Nat→Option (List Ty)
 | [],_=>some []
 | fd::r,off=>match Nat.beq fd.offset off,f fd.type with
  | true,some ts=>match Nat.beq (P.cellsOf fd.type) ts.length,XX P f r (off+ts.length) with
   | true,some us=>some (ts++us)
   | _,_=>none
  | _,_=>none
def sn (P:Program):Nat→TypeId→Option (List Ty)
 | 0,_=>none
 | n+1,t=>match P.underlying t with
  | some .bool=>some [.bool]
  | some (.int k)=>some [.int k]
  | some .string=>some [.str]
  | some (.slice e)=>match sn P n e with
   | some (x::xs)=>match Nat.beq (P.cellsOf e) (x::xs).length with
    | true=>some [.lst (x::xs)]
    | false=>none
   | _=>none
  | some (.struct fs)=>match XX P (sn P n) fs.toList 0 with
   | some ts=>match Nat.beq (P.cellsOf t) ts.length with
    | true=>some ts
    | false=>none
   | none=>none
  | _=>none
mutual
def cJ {H:Type}:DataW H→List D
 | .lit (.int k n)=>[.int k n]
 | .lit (.bool b)=>[.bool b]
 | .lit (.string s)=>[.str s]
 | .nil=>[.lst []]
 | .slice es _=>[.lst (mg es)]
 | .agg ps=>oh ps
 | _=>[]
def mg {H:Type}:List (DataW H)→List (List D)
 | []=>[]
 | d::r=>cJ d::mg r
def oh {H:Type}:List (DataW H)→List D
 | []=>[]
 | d::r=>cJ d++oh r
end
theorem cf.len:∀ {ts:List Ty}{ds:List D},cf ts ds→ds.length=ts.length
 | [],[],_=>rfl
 | t::ts,d::ds,h=>by simp only[cf]at h;simp[cf.len h.2]
 | [],_::_,h=>by simp[cf]at h
 | _::_,[],h=>by simp[cf]at h
theorem cf.append:∀ {ts us:List Ty}{ds es:List D},cf ts ds→cf us es→cf (ts++us) (ds++es)
 | [],us,[],es,_,h=>h
 | t::ts,us,d::ds,es,h,h2=>by
  simp only[cf,List.cons_append]at h⊢
  exact⟨h.1,h.2.append h2⟩
 | [],_,_::_,_,h,_=>by simp[cf]at h
 | _::_,_,[],_,h,_=>by simp[cf]at h
theorem Lk {α β:Type}{f:α→Option β}:∀ {l:List α}{ys:List β},l.mapM f=some ys→ys.length=l.length∧∀ (i:Nat) (x:α),l[i]?=some x→∃ y,ys[i]?=some y∧f x=some y
 | [],ys,h=>by simp at h;subst h;exact⟨rfl,fun i x h=>by simp at h⟩
 | a::l,ys,h=>by
  simp only[List.mapM_cons,Option.bind_eq_bind,Option.pure_def]at h
  cases ha:f a with
  | none=>simp[ha]at h
  | some b =>
   cases hl:l.mapM f with
   | none=>simp[ha,hl]at h
   | some bs =>
    simp[ha,hl]at h
    subst h
    obtain⟨h1,h2⟩:=Lk hl
    refine⟨by simp[h1],fun i x hi=>?_⟩
    cases i with
    | zero=>simp at hi;subst hi;exact⟨b,rfl,ha⟩
    | succ i=>simpa using h2 i x (by simpa using hi)
theorem yg {H:Type}(ds:List (DataW H)):mg ds=ds.map cJ:=by
 induction ds with
 | nil=>rfl
 | cons d ds ih=>simp[mg,ih]
theorem UP {xs:List (List D)}{m:Nat}(h:∀ e∈xs,e.length=m) {j:Nat}{c:D}(hj:xs.flatten[j]?=some c):∃ i k e,j=i*m+k∧k<m∧xs[i]?=some e∧e[k]?=some c:=by
 induction xs generalizing j with
 | nil=>simp at hj
 | cons x xs ih =>
  have hx:=h x (.head _)
  rw[List.flatten_cons]at hj
  rcases Nat.lt_or_ge j x.length with hlt | hge
  ·rw[List.getElem?_append_left hlt]at hj
   exact⟨0,j,x,by simp,by omega,rfl,hj⟩
  ·rw[List.getElem?_append_right hge]at hj
   obtain⟨i,k,e,h1,h2,h3,h4⟩:=ih (fun e he=>h e (.tail _ he)) hj
   exact⟨i+1,k,e,by rw[Nat.succ_mul];omega,h2,by simpa using h3,h4⟩
section
variable {H:Type}{enc:TypeId×Value→H}{P:Program}{W:World}{sp:Nat→Bool}{held:Bool}
abbrev sL (W:World):Nat→Nat→Prop:=fun b _=>b<W.heap.size
theorem Z8 {a:Addr}{v:Value}(h:W.cell? a=some v):a.block<W.heap.size∧a.spot=none:=by
 unfold World.cell? at h
 split at h
 ·rename_i c t fr hb
  split at h
  ·simp at h
  ·rename_i hs
   exact⟨ba hb,by cases hsp:a.spot<;>simp_all⟩
 ·simp at h
theorem IF {f:TypeId→Option (List Ty)}{g:TypeId→List Value→Option (DataW H×List MemPlace)}
  (ih:∀ t ts cs x,f t=some ts→g t cs=some x→cf ts (cJ x.1)∧cs.length=(cJ x.1).length∧∀ (j:Nat) (c:D),(cJ x.1)[j]?=some c→∃ u,cs[j]?=some u∧RD W (sL W) c u) :
  ∀ {fs:List Field}{off:Nat}{ts:List Ty}{cs:List Value}{xs:List (DataW H×List MemPlace)},XX P f fs off=some ts→off+ts.length≤cs.length→
   fs.mapM (fun fd=>g fd.type ((cs.drop fd.offset).take (P.cellsOf fd.type)))=some xs→
   cf ts (oh (xs.map (·.1)))∧∀ (j:Nat) (c:D),(oh (xs.map (·.1)))[j]?=some c→∃ u,cs[off+j]?=some u∧RD W (sL W) c u
 | [],off,ts,cs,xs,h,hb,hm=>by
  simp only[XX,Option.some.injEq]at h;subst h
  simp at hm;subst hm
  exact⟨by simp[oh,cf],fun j c hj=>by simp[oh]at hj⟩
 | fd::fs,off,ts,cs,xs,h,hb,hm=>by
  simp only[XX]at h
  split at h
  ·rename_i ts1 ho h1
   rw[Nat.beq_eq]at ho
   split at h
   ·rename_i us hc h2
    rw[Nat.beq_eq]at hc
    simp only[Option.some.injEq]at h;subst h
    simp only[List.length_append]at hb
    simp only[List.mapM_cons,Option.bind_eq_bind,Option.pure_def]at hm
    cases hg:g fd.type ((cs.drop fd.offset).take (P.cellsOf fd.type)) with
    | none=>simp[hg]at hm
    | some x =>
     cases hr:fs.mapM (fun fd=>g fd.type ((cs.drop fd.offset).take (P.cellsOf fd.type))) with
     | none=>simp[hg,hr]at hm
     | some ys =>
      simp[hg,hr]at hm
      subst hm
      obtain⟨k1,k2,k3⟩:=ih _ _ _ _ h1 hg
      have hl1:=k1.len
      obtain⟨q1,q2⟩:=IF ih h2 (by omega) hr
      refine⟨by simp only[List.map_cons,oh];exact k1.append q1,fun j c hj=>?_⟩
      simp only[List.map_cons,oh]at hj
      rcases Nat.lt_or_ge j (cJ x.1).length with hlt | hge
      ·rw[List.getElem?_append_left hlt]at hj
       obtain⟨u,hu,hrd⟩:=k3 j c hj
       rw[List.getElem?_take]at hu
       split at hu
       ·rw[List.getElem?_drop,ho]at hu;exact⟨u,hu,hrd⟩
       ·simp at hu
      ·rw[List.getElem?_append_right hge]at hj
       obtain⟨u,hu,hrd⟩:=q2 _ c hj
       exact⟨u,by rw[←hu];congr 1;omega,hrd⟩
   ·simp at h
  ·simp at h
theorem Ku:∀ (fuel n:Nat) (t:TypeId) (ts:List Ty) (cs:List Value) (x:DataW H×List MemPlace),sn P n t=some ts→DataW.trod enc P W 0 sp held fuel t cs=some x→
  cf ts (cJ x.1)∧cs.length=(cJ x.1).length∧∀ (j:Nat) (c:D),(cJ x.1)[j]?=some c→∃ u,cs[j]?=some u∧RD W (sL W) c u
 | 0,_,_,_,_,_,_,h=>by simp[DataW.trod]at h
 | _+1,0,_,_,_,_,h,_=>by simp[sn]at h
 | fuel+1,n+1,t,ts,cs,x,hty,h=>by
  have one:∀ {d:D}{v:Value},cf ts [d]→RD W (sL W) d v→cJ x.1=[d]→cs=[v]→cf ts (cJ x.1)∧cs.length=(cJ x.1).length∧∀ (j:Nat) (c:D),(cJ x.1)[j]?=some c→∃ u,cs[j]?=some u∧RD W (sL W) c u:=by
   intro d v h1 h2 h3 h4
   rw[h3,h4]
   refine⟨h1,rfl,fun j c hj=>?_⟩
   cases j with
   | zero=>simp at hj;subst hj;exact⟨v,rfl,h2⟩
   | succ j=>simp at hj
  simp only[sn]at hty
  unfold DataW.trod at h
  cases hu:P.underlying t with
  | none=>simp[hu]at hty
  | some d =>
   rw[hu]at hty h
   cases d<;>simp only[reduceCtorEq]at hty
   case bool =>
    simp only[Option.some.injEq]at hty;subst hty
    match cs,h with
    | [.bool b],h =>
     simp only[Option.some.injEq]at h;subst h
     exact one (d:=.bool b) (by simp[cf,jx]) (.bool _) rfl rfl
   case int k =>
    simp only[Option.some.injEq]at hty;subst hty
    match cs,h with
    | [.int k' m],h =>
     simp only at h
     split at h
     ·rename_i hk
      obtain⟨rfl,hwf⟩:=hk
      simp only[Option.some.injEq]at h;subst h
      exact one (d:=.int k' m) (by simp only[cf,jx];exact⟨⟨trivial,hwf⟩,trivial⟩) (.int _ _) rfl rfl
     ·simp at h
   case string =>
    simp only[Option.some.injEq]at hty;subst hty
    match cs,h with
    | [.string s],h =>
     simp only at h
     split at h
     ·simp only[Option.some.injEq]at h;subst h
      refine one (d:=.str s.data.toList) (by simp[cf,jx]) ?_ rfl rfl
      have:=RD.str (w:=W) (pm:=sL W) s.data.toList
      simpa using this
     ·simp at h
   case slice e =>
    split at hty
    ·rename_i y ys hte
     split at hty
     ·rename_i hce
      rw[Nat.beq_eq]at hce
      simp only[Option.some.injEq]at hty;subst hty
      match cs,h with
      | [.slice none 0 0],h =>
       simp only[Option.some.injEq]at h;subst h
       exact one (d:=.lst []) (by simp[cf,jx]) (.nil _ _) rfl rfl
      | [.slice (some a) len cap],h =>
       simp only at h
       split at h
       ·rename_i hb
        obtain⟨_,hlc,_⟩:=hb
        simp only[Option.bind_eq_some_iff,Option.map_eq_some_iff]at h
        obtain⟨elems,hel,rest,_,rfl⟩:=h
        obtain⟨hlen,hget⟩:=Lk hel
        simp only[List.length_range]at hlen
        have helem:∀ i,i<len→∃ z,elems[i]?=some z∧∃ cs',W.cells? 0 (a.add (i*P.cellsOf e)) (P.cellsOf e)=some cs'∧cf (y::ys) (cJ z.1)∧cs'.length=(cJ z.1).length∧
          ∀ (j:Nat) (c:D),(cJ z.1)[j]?=some c→∃ u,cs'[j]?=some u∧RD W (sL W) c u:=by
         intro i hi
         obtain⟨z,hz,hf⟩:=hget i i (by simp[hi])
         simp only[Option.bind_eq_some_iff]at hf
         obtain⟨cs',hcs,htr⟩:=hf
         exact⟨z,hz,cs',hcs,Ku fuel n e (y::ys) cs' z hte htr⟩
        have hmem:∀ d∈elems.map (·.1),cf (y::ys) (cJ d):=by
         intro d hd
         obtain⟨z,hz,rfl⟩:=List.mem_map.1 hd
         obtain⟨i,hi,rfl⟩:=List.mem_iff_getElem.1 hz
         obtain⟨z',hz',_,_,hok,_⟩:=helem i (by omega)
         rw[List.getElem?_eq_getElem hi]at hz'
         simp only[Option.some.injEq]at hz'
         rw[hz'];exact hok
        have hes:mg (elems.map (·.1))=elems.map fun z=>cJ z.1:=by rw[yg,List.map_map];rfl
        have hlm:∀ e'∈mg (elems.map (·.1)),e'.length=(y::ys).length:=by
         rw[yg]
         intro e' he'
         obtain⟨d,hd,rfl⟩:=List.mem_map.1 he'
         exact(hmem d hd).len
        refine one (d:=.lst (mg (elems.map (·.1)))) ?_ ?_ rfl rfl
        ·simp only[cf,jx,and_true]
         rw[yg]
         intro e' he'
         obtain⟨d,hd,rfl⟩:=List.mem_map.1 he'
         exact hmem d hd
        ·by_cases h0:len=0
         ·subst h0
          have:elems=[]:=List.eq_nil_of_length_eq_zero hlen
          subst this
          exact .nil _ _
         ·obtain⟨ab,aoff,asp⟩:=a
          have hm0:0<(y::ys).length:=by simp
          have hcell:∀ i k,i<len→k<(y::ys).length→∃ z c u,elems[i]?=some z∧(cJ z.1)[k]?=some c∧W.cell? ((Addr.add ⟨ab,aoff,asp⟩ (i*P.cellsOf e)).add k)=some u∧RD W (sL W) c u:=by
           intro i k hi hk
           obtain⟨z,hz,cs',hcs,hok,hl2,hrd⟩:=helem i hi
           have hkl:k<(cJ z.1).length:=by rw[hok.len];exact hk
           obtain⟨u,hu,hr⟩:=hrd k _ (List.getElem?_eq_getElem hkl)
           unfold World.cells? at hcs
           rw[if_pos (Nat.zero_le _)]at hcs
           obtain⟨hcl,hcg⟩:=Lk hcs
           obtain⟨v,hv,hw⟩:=hcg k k (by rw[List.getElem?_range (by rw[hce];exact hk)])
           rw[hu]at hv
           simp only[Option.some.injEq]at hv
           subst hv
           exact⟨z,_,u,hz,List.getElem?_eq_getElem hkl,hw,hr⟩
          obtain⟨_,_,u0,_,_,hu0,_⟩:=hcell 0 0 (by omega) hm0
          have hasp:asp=none:=by
           have:=(Z8 hu0).2
           simpa [Addr.add] using this
          subst hasp
          have hll:(mg (elems.map (·.1))).length=len:=by rw[hes];simp[hlen]
          have:=eS.rd (w:=W) (pm:=sL W) (xs:=mg (elems.map (·.1))) (b:=ab) (off:=aoff) (cap:=cap) hm0 (by omega) hlm (fun j c hj=>?_) (fun j _=>(Z8 hu0).1 |> fun h=>by simpa [Addr.add] using h)
          ·rw[hll]at this;exact this
          ·obtain⟨i,k,e',rfl,hk,hi,hck⟩:=UP hlm hj
           have hil:i<len:=by have:=ef hi;omega
           obtain⟨z,c',u,hz,hc',hcell',hr⟩:=hcell i k hil hk
           rw[hes,List.getElem?_map,hz]at hi
           simp only[Option.map_some,Option.some.injEq]at hi
           subst hi
           rw[hc']at hck
           simp only[Option.some.injEq]at hck
           subst hck
           rw[eD,eD,hce]at hcell'
           exact⟨u,by rw[←hcell'];congr 2;omega,hr⟩
       ·simp at h
     ·simp at hty
    ·simp at hty
   case struct fs =>
    split at hty
    ·rename_i us hfs
     split at hty
     ·rename_i hcl
      rw[Nat.beq_eq]at hcl
      simp only[Option.some.injEq]at hty;subst hty
      have h':(if cs.length=P.cellsOf t then (fs.toList.mapM fun f=>DataW.trod enc P W 0 sp held fuel f.type ((cs.drop f.offset).take (P.cellsOf f.type))).map fun xs=>((.agg (xs.map (·.1)):DataW H),xs.flatMap (·.2)) else none)=some x:=by
       cases cs with
       | nil=>exact h
       | cons v r=>cases r<;>(try cases v)<;>exact h
      split at h'
      ·rename_i hlen
       simp only[Option.map_eq_some_iff]at h'
       obtain⟨xs,hxs,rfl⟩:=h'
       obtain⟨q1,q2⟩:=IF (P:=P) (f:=sn P n) (g:=DataW.trod enc P W 0 sp held fuel) (fun t ts cs x h1 h2=>Ku fuel n t ts cs x h1 h2) (cs:=cs) hfs (by omega) hxs
       refine⟨q1,?_,fun j c hj=>?_⟩
       ·have:=q1.len
        simp only[cJ];omega
       ·obtain⟨u,hu,hr⟩:=q2 j c hj
        exact⟨u,by rw[←hu,Nat.zero_add],hr⟩
      ·simp at h'
     ·simp at hty
    ·simp at hty
end
end Go.Vm
namespace Go.Vm
open Go.ChangeShapes Go.WideShapes Go.ChangeAt Go.RowKit
def zq (P:Program) (n:Nat):List TypeId→Option (List (Bool×List Ty))
 | []=>some []
 | t::ts=>match sn P n t,zq P n ts with
  | some uo,some r=>some ((oS P t,uo)::r)
  | _,_=>none
def MW (agg:Bool) (cs:List D):AV :=
 match agg with
 | true=>.agg (cs.map .d)
 | false=>match cs with
  | [c]=>.d c
  | _=>.junk
def vL {H:Type}:List (Bool×List Ty)→List (DataW H)→List AV
 | (b,_)::ts,d::ds=>MW b (cJ d)::vL ts ds
 | _,_=>[]
def my {H:Type}:List (Bool×List Ty)→List (DataW H)→Prop
 | [],[]=>True
 | (_,uo)::ts,d::ds=>cf uo (cJ d)∧my ts ds
 | _,_=>False
def Gh.all (W:World):Gh where
 obj _:=none
 base _:=0
 esz _:=0
 bsz _:=0
 pm:=sL W
section
variable {H:Type}{enc:TypeId×Value→H}{P:Program}{W:World}{sp:Nat→Bool}
theorem VY {n:Nat}{base:Nat}:∀ {ts:List TypeId}{vs:List Value}{ds:List (DataW H)}{ps:List MemPlace}{uo:List (Bool×List Ty)},DataW.TrodAll enc P W 0 sp true ts vs ds ps→zq P n ts=some uo→
  (∀ (j:Nat) t v,ts[j]?=some t→vs[j]?=some v→Value.okWide P W .any base t v)→ai (Gh.all W) W (vL uo ds) vs zero∧my uo ds
 | [],[],[],_,uo,_,h,_=>by
  simp only[zq,Option.some.injEq]at h;subst h
  simp[vL,ai,my]
 | t::ts,v::vs,d::ds,ps,uo,hA,h,hok=>by
  obtain⟨p,q,⟨fuel,htr⟩,hrest,rfl⟩:=hA
  simp only[zq]at h
  split at h
  ·rename_i ty r h1 h2
   simp only[Option.some.injEq]at h;subst h
   obtain⟨k1,k2,k3⟩:=Ku fuel n t ty v.cells.toList (d,p) h1 htr
   obtain⟨q1,q2⟩:=VY hrest h2 fun j t v h1 h2=>hok (j+1) t v (by simpa using h1) (by simpa using h2)
   refine⟨?_,k1,q2⟩
   have hv:=hok 0 t v rfl rfl
   have hrv:RV (Gh.all W) W (MW (oS P t) (cJ d)) v zero:=by
    unfold Value.okWide at hv
    cases ha:oS P t with
    | true =>
     have hagg:∃ cs,v=.agg cs:=by
      unfold oS at ha
      split at ha
      ·rename_i hu;rw[hu]at hv;obtain⟨cs,e,_⟩:=hv;exact⟨cs,e⟩
      ·rename_i hu;rw[hu]at hv;obtain⟨cs,e,_⟩:=hv;exact⟨cs,e⟩
      ·simp at ha
     obtain⟨cs,rfl⟩:=hagg
     simp only[MW,RV]
     refine⟨cs,rfl,ai.ds (g:=Gh.all W) rfl (by have:=k2;simpa [Value.cells] using this) fun j c x hc hx=>?_⟩
     obtain⟨u,hu,hr⟩:=k3 j c hc
     have:u=x:=by
      have hu':cs.toList[j]?=some u:=by simpa [Value.cells] using hu
      rw[hu']at hx;simpa using hx
     rw[←this];exact hr
    | false =>
     have hone:v.cells=#[v]:=by
      have:Cell.okWide P W .any base t v:=by
       unfold oS at ha
       split at ha
       ·simp at ha
       ·simp at ha
       ·rename_i h1 h2
        split at hv
        ·rename_i fs hu;exact absurd hu (h1 fs)
        ·rename_i k e hu;exact absurd hu (h2 k e)
        ·exact hv
      cases v<;>first | rfl | (exfalso;unfold Cell.okWide at this;split at this<;>simp_all [Cell.ok])
     rw[hone]at k2 k3
     simp only[List.length_cons,List.length_nil]at k2
     match hcd:cJ d,k2 with
     | [c],_ =>
      obtain⟨u,hu,hr⟩:=k3 0 c (by rw[hcd];rfl)
      simp at hu;subst hu
      simp only[MW,RV]
      exact⟨hr,fun _=>trivial⟩
   simp only[vL,ai]
   exact⟨v,vs,zero,zero,rfl,hrv,q1,fun _=>rfl⟩
  ·simp at h
 | [],_::_,_,_,_,hA,_,_=>hA.elim
 | [],[],_::_,_,_,hA,_,_=>hA.elim
 | _::_,[],_,_,_,hA,_,_=>hA.elim
 | _::_,_::_,[],_,_,hA,_,_=>hA.elim
theorem TK {W':World}(hl:laidOutB P=true) (hblk:∀ b,b<W.heap.size→W'.heap[b]?=W.heap[b]?) {sp':Nat→Bool}:∀ {ts:List TypeId}{vs:List Value}{ds:List (DataW H)}{ps:List MemPlace},
  (∀ t∈ts,P.readableRec t=true∧t<P.types.size)→DataW.TrodAll enc P W 0 (fun _=>true) true ts vs ds ps→(∀ p∈ps,sp' p.block=true)→DataW.TrodAll enc P W' 0 sp' true ts vs ds ps
 | [],[],[],_,_,h,_=>h
 | t::ts,v::vs,d::ds,ps,hr,h,hs=>by
  have hlt:=h.lt
  obtain⟨p,q,⟨fuel,htr⟩,hrest,rfl⟩:=h
  obtain⟨h1,h2⟩:=hr t (.head _)
  refine⟨p,q,⟨fuel,DataW.trod_stays (kids_book hl h1) (book_sized h1) (fun h=>by cases h) ⟨h2,book_self t⟩ htr (fun x hx=>?_) (fun x hx=>hs x (List.mem_append_left _ hx))⟩,
   TK hl hblk (fun t ht=>hr t (.tail _ ht)) hrest (fun x hx=>hs x (List.mem_append_right _ hx)),rfl⟩
  have hxl:=hlt x (List.mem_append_left _ hx)
  cases x with
  | cell b o=>exact fh (hblk b hxl) o
  | map b=>exact hblk b hxl
 | [],_::_,_,_,_,h,_=>h.elim
 | [],[],_::_,_,_,h,_=>h.elim
 | _::_,[],_,_,_,h,_=>h.elim
 | _::_,_::_,[],_,_,h,_=>h.elim
theorem WK {T:Nat→Option af}(hT:xk P T) {fn:Func}{f:FuncId}{s:ChangeSpec}(hl:laidOutB P=true) (hrec:∀ t∈fn.params.toList,P.readableRec t=true∧t<P.types.size)
  {n:Nat}{uo:List (Bool×List Ty)}(hty:zq P n fn.params.toList=some uo) {tb:TypeId}(hres:fn.resultTypes=#[tb]) (htb:P.underlying tb=some .bool) (hvars:s.vars=[]) {apart:Bool}
  {base:Nat}{args:Array Value}{ds gs:List (DataW H)}{before:List MemPlace}(hval:∀ (j:Nat) t v,fn.params[j]?=some t→args[j]?=some v→Value.okWide P W .any base t v)
  (hW:DataW.Whole enc P fn.params.toList s.vars apart W args.toList ds gs before) (hfn:my uo ds→s.fn H ds={ results:=[.lit (.bool true)],args:=ds })
  (hrun:my uo ds→gs=[]→∃ m hs',(run T m).call f (vL uo ds) ⟨[],0⟩=some (.d (.bool true),hs')) :
  Calls P f args W fun e W'=>∃ v,e=.returned v∧s.post enc P fn apart true false false W args v W':=by
 have hW':=hW
 obtain⟨p,q,hA,hV,hpq,hfz,hnd⟩:=hW
 rw[hvars]at hV
 obtain⟨rfl,rfl⟩:=trodVars_none hV
 obtain⟨rv,hok⟩:=VY (n:=n) (base:=base) hA hty fun j t v h1 h2=>hval j t v (by rw[←Array.getElem?_toList];exact h1) (by rw[←Array.getElem?_toList];exact h2)
 obtain⟨m,hs',hcall⟩:=hrun hok rfl
 have hc:=Iu hT hcall (g:=Gh.all W) (fun _=>rfl) (fun b o h=>h) rv
 have hargs:args.toList.toArray=args:=by simp
 rw[hargs]at hc
 refine hc.mono fun e W2 hp=>?_
 cases e with
 | panicked _=>exact hp.elim
 | outgrown=>exact hp.elim
 | returned x =>
  obtain⟨g',Or,Oh,r1,_,hx,_,_,_⟩:=hp
  have hxv:=og r1 rfl
  subst hxv
  have hblk:∀ b,b<W.heap.size→W2.heap[b]?=W.heap[b]?:=fun b hb=>(hx.blk b hb (by simp)).1
  have hsfn:s.fn H (ds++[])={ results:=[.lit (.bool true)],args:=ds }:=by rw[List.append_nil];exact hfn hok
  refine⟨_,rfl,post_of_same (pa:=p) (pv:=[]) hW' (fun b sp hd=>?_) (fun sp hsp=>?_) (fun sp _=>?_) (by rw[hpq]) ⟨hx.same.1,hx.same.2.1,fun i hi=>?_⟩ hx.same.2.2 ?_⟩
  ·rw[hres,hsfn]
   exact trodAll_cons_mk (shut_bool htb _) trodAll_mk0
  ·rw[hsfn]
   exact TK hl hblk hrec hA fun x hx=>hsp x (by rw[hpq];simpa using hx)
  ·rw[hsfn,hvars]
   rfl
  ·rw[hblk i hi]
   split<;>simp_all
  ·exact ok_one hres rfl (okWide_bool_mk htb _)
end
end Go.Vm
namespace Go.Vm
set_option maxHeartbeats 2000000
set_option maxRecDepth 100000
theorem Kk {t:Ty}:∀ {ds:List D},cf [t] ds→∃ d,ds=[d]∧jx t d
 | [],h=>by simp[cf]at h
 | [d],h=>⟨d,rfl,by simpa [cf] using h⟩
 | _::_::_,h=>by simp[cf]at h
theorem sC {t:Ty}{ts:List Ty}:∀ {ds:List D},cf (t::ts) ds→∃ d r,ds=d::r∧jx t d∧cf ts r
 | [],h=>by simp[cf]at h
 | d::r,h=>⟨d,r,rfl,by simpa only[cf] using h⟩
theorem ac3 {k:IntKind}:∀ {d:D},jx (.int k) d→∃ n,d=.int k n∧(Lit.int k n).wf=true
 | .int j n,h=>by
  simp only[jx]at h
  obtain⟨rfl,h⟩:=h
  exact⟨n,rfl,h⟩
 | .bool _,h=>by simp[jx]at h
 | .str _,h=>by simp[jx]at h
 | .lst _,h=>by simp[jx]at h
theorem qh {d:D}(h:jx (.int .i64) d):∃ n,d=.int .i64 n∧i64 n:=by
 obtain⟨n,e,h⟩:=ac3 h
 refine⟨n,e,?_⟩
 simp[Lit.wf,IntKind.min,IntKind.max,IntKind.signed,IntKind.bits]at h
 omega
theorem afw {d:D}(h:jx (.int .u8) d):∃ n:Nat,d=.int .u8 n∧n≤255:=by
 obtain⟨n,e,h⟩:=ac3 h
 simp[Lit.wf,IntKind.min,IntKind.max,IntKind.signed,IntKind.bits]at h
 refine⟨n.toNat,?_,by omega⟩
 rw[e,Int.toNat_of_nonneg h.1]
theorem ZB:∀ {d:D},jx .bool d→∃ b,d=.bool b
 | .bool b,_=>⟨b,rfl⟩
 | .int _ _,h=>by simp[jx]at h
 | .str _,h=>by simp[jx]at h
 | .lst _,h=>by simp[jx]at h
theorem W0 {es:List Ty}:∀ {d:D},jx (.lst es) d→∃ xs,d=.lst xs∧∀ x∈xs,cf es x
 | .lst xs,h=>⟨xs,rfl,by simpa only[jx] using h⟩
 | .int _ _,h=>by simp[jx]at h
 | .str _,h=>by simp[jx]at h
 | .bool _,h=>by simp[jx]at h
theorem FW {α:Type}{es:List Ty}{f:α→List D}{Q:α→Prop}(h1:∀ x,cf es x→∃ a,x=f a∧Q a):∀ {xs:List (List D)},(∀ x∈xs,cf es x)→∃ l:List α,xs=l.map f∧∀ a∈l,Q a
 | [],_=>⟨[],rfl,by simp⟩
 | x::r,h=>by
  obtain⟨a,rfl,ha⟩:=h1 x (h x (.head _))
  obtain⟨l,rfl,hl⟩:=FW h1 (xs:=r) fun y hy=>h y (.tail _ hy)
  exact⟨a::l,rfl,fun b hb=>(List.mem_cons.1 hb).elim (fun e=>e▸ha) (hl b)⟩
theorem QN {d:D}(h:jx (.lst [.int .i64]) d):∃ ns,d=.lst (aP ns)∧∀ n∈ns,i64 n:=by
 obtain⟨xs,rfl,h⟩:=W0 h
 obtain⟨l,rfl,hl⟩:=FW (f:=fun n=>[.int .i64 n]) (Q:=i64) (fun x hx=>by
  obtain⟨d,rfl,hd⟩:=Kk hx
  obtain⟨n,rfl,hn⟩:=qh hd
  exact⟨n,rfl,hn⟩) h
 exact⟨l,rfl,hl⟩
def afD:List Ty:=[.int .i64,.int .i64]
def afs:List Ty:=[.int .i64,.int .i64,.bool,.bool,.lst [.int .i64]]
def VG:List Ty:=[.int .i64,.int .u8,.int .u8,.int .i64,.lst [.int .i64],.lst [.lst afD],.lst [.lst [.int .i64]],.lst [.lst afs],.lst [.int .i64]]
theorem aiy {x:List D}(h:cf afD x):∃ s:aA,x=s.cells∧i64 s.book∧i64 s.len:=by
 obtain⟨a,r,rfl,ha,h⟩:=sC h
 obtain⟨b,rfl,hb⟩:=Kk h
 obtain⟨n,rfl,hn⟩:=qh ha
 obtain⟨m,rfl,hm⟩:=qh hb
 exact⟨⟨n,m⟩,rfl,hn,hm⟩
theorem ais {x:List D}(h:cf afs x):∃ f:bb,x=f.cells∧(i64 f.len∧i64 f.order)∧∀ y∈f.coefs,i64 y:=by
 obtain⟨a,r,rfl,ha,h⟩:=sC h
 obtain⟨b,r,rfl,hb,h⟩:=sC h
 obtain⟨c,r,rfl,hc,h⟩:=sC h
 obtain⟨d,r,rfl,hd,h⟩:=sC h
 obtain⟨e,rfl,he⟩:=Kk h
 obtain⟨n,rfl,hn⟩:=qh ha
 obtain⟨m,rfl,hm⟩:=qh hb
 obtain⟨p,rfl⟩:=ZB hc
 obtain⟨q,rfl⟩:=ZB hd
 obtain⟨l,rfl,hl⟩:=QN he
 exact⟨⟨n,m,p,q,l⟩,rfl,⟨hn,hm⟩,hl⟩
theorem RF {α:Type}{es:List Ty}{f:α→List D}{Q:α→Prop}(h1:∀ x,cf es x→∃ a,x=f a∧Q a) {d:D}(h:jx (.lst [.lst es]) d):∃ l:List (List α),d=.lst (l.map fun r=>[.lst (r.map f)])∧∀ r∈l,∀ a∈r,Q a:=by
 obtain⟨xs,rfl,h⟩:=W0 h
 obtain⟨l,rfl,hl⟩:=FW (f:=fun r:List α=>[.lst (r.map f)]) (Q:=fun r=>∀ a∈r,Q a) (fun x hx=>by
  obtain⟨d,rfl,hd⟩:=Kk hx
  obtain⟨xs,rfl,h⟩:=W0 hd
  obtain⟨r,rfl,hr⟩:=FW h1 h
  exact⟨r,rfl,hr⟩) h
 exact⟨l,rfl,hl⟩
structure bB.Rng (c:bB):Prop where
 gain:i64 c.gain
 seq:c.info.seq≤255
 shape:c.info.shape≤255
 max:i64 c.info.max
 groups:∀ n∈c.info.groups,i64 n
 secI:∀ l∈c.sects,∀ s∈l,i64 s.book∧i64 s.len
 stepI:∀ l∈c.steps,∀ n∈l,i64 n
 fltI:∀ l∈c.tns,∀ f∈l,(i64 f.len∧i64 f.order)∧∀ x∈f.coefs,i64 x
 lineI:∀ n∈c.lines,i64 n
theorem ai1 {x:List D}(h:cf VG x):∃ c:bB,x.map .d=c.av∧c.Rng:=by
 obtain⟨a1,r,rfl,h1,h⟩:=sC h
 obtain⟨a2,r,rfl,h2,h⟩:=sC h
 obtain⟨a3,r,rfl,h3,h⟩:=sC h
 obtain⟨a4,r,rfl,h4,h⟩:=sC h
 obtain⟨a5,r,rfl,h5,h⟩:=sC h
 obtain⟨a6,r,rfl,h6,h⟩:=sC h
 obtain⟨a7,r,rfl,h7,h⟩:=sC h
 obtain⟨a8,r,rfl,h8,h⟩:=sC h
 obtain⟨a9,rfl,h9⟩:=Kk h
 obtain⟨n1,rfl,g1⟩:=qh h1
 obtain⟨n2,rfl,g2⟩:=afw h2
 obtain⟨n3,rfl,g3⟩:=afw h3
 obtain⟨n4,rfl,g4⟩:=qh h4
 obtain⟨l5,rfl,g5⟩:=QN h5
 obtain⟨l6,rfl,g6⟩:=RF (f:=aA.cells) (fun x hx=>aiy hx) h6
 obtain⟨l7,rfl,g7⟩:=RF (f:=fun n=>[.int .i64 n]) (Q:=i64) (fun x hx=>by
  obtain⟨d,rfl,hd⟩:=Kk hx
  obtain⟨n,rfl,hn⟩:=qh hd
  exact⟨n,rfl,hn⟩) h7
 obtain⟨l8,rfl,g8⟩:=RF (f:=bb.cells) (fun x hx=>ais hx) h8
 obtain⟨l9,rfl,g9⟩:=QN h9
 exact⟨⟨n1,⟨n2,n3,n4,l5⟩,l6,l7,l8,l9⟩,rfl,g1,g2,g3,g4,g5,g6,g7,g8,g9⟩
theorem bB.Rng.fit {c:bB}(h:c.Rng) (s:aaf c):c.Fit where
 gain:=h.gain
 info:=⟨h.seq,h.shape,h.max,by have:=s.groups;omega,h.groups⟩
 sects:=⟨by have:=s.sects.1;omega,fun l hl=>by have:=s.sects.2 l hl;omega⟩
 secI:=h.secI
 steps:=⟨by have:=s.steps.1;omega,fun l hl=>by have:=s.steps.2 l hl;omega⟩
 stepI:=h.stepI
 tns:=⟨by have:=s.tns.1;omega,fun l hl=>⟨by have:=(s.tns.2 l hl).1;omega,fun f hf=>by have:=(s.tns.2 l hl).2 f hf;omega⟩⟩
 fltI:=h.fltI
 lines:=by have:=s.lines;omega
 lineI:=h.lineI
theorem Ir {H:Type}:∀ {ds:List (DataW H)},my [(false,[.int .i64]),(true,VG)] ds→(∃ d1 d2,ds=[d1,d2])∧∃ (rt:Int) (c:bB),c.Rng∧vL [(false,[Ty.int .i64]),(true,VG)] ds=[.d (.int .i64 rt),.agg c.av]
 | [d1,d2],h=>by
  simp only[my,and_true]at h
  obtain⟨h1,h2⟩:=h
  obtain⟨x1,e1,h1⟩:=Kk h1
  obtain⟨n,rfl,_⟩:=qh h1
  obtain⟨c,e2,hc⟩:=ai1 h2
  refine⟨⟨_,_,rfl⟩,n,c,hc,?_⟩
  simp only[vL,e1,MW,e2]
 | [],h=>by simp[my]at h
 | [_],h=>by simp[my]at h
 | _::_::_::_,h=>by simp[my]at h
end Go.Vm
namespace Go.Vm
theorem ZM {w:AV}{b:Bool}(e:dY w=.d (.bool b)):w=.d (.bool b):=by
 unfold dY at e
 split at e
 ·cases w<;>simp[iM,iI,gS]at e⊢<;>exact e
 ·exact e
theorem ad6 {h:ac}{v:AV}{b:Bool}(e:fC h v=some (.d (.bool b))):v=.d (.bool b):=by
 unfold fC at e
 split at e
 ·split at e
  ·simp only[Option.some.injEq]at e
   exact absurd (ZM e) (by simp)
  ·simp at e
 ·split at e
  ·rename_i x q hq
   simp only[Option.some.injEq]at e
   have hx:=ZM e
   subst hx
   unfold d8 at hq
   split at hq
   ·split at hq<;>simp at hq
   ·unfold fe at hq
    split at hq
    ·simp only[Option.some.injEq,Prod.mk.injEq]at hq
     exact hq.1
    ·simp at hq
    ·simp at hq
    ·split at hq
     ·split at hq<;>simp at hq
     ·simp at hq
    ·simp at hq
  ·simp at e
theorem aaE {P:Nat→Option af}{f:FuncId}{as:List AV}{b:Bool}(h:aW P f as=some (.d (.bool b))):∃ m hs,(run P m).call f as ⟨[],0⟩=some (.d (.bool b),hs):=by
 unfold aW at h
 cases hc:(Dn P).call f as ⟨[],0⟩ with
 | none=>rw[hc]at h;simp[r7]at h
 | some q =>
  obtain⟨v,hs⟩:=q
  rw[hc]at h
  have:=ad6 h
  subst this
  obtain⟨m,hm⟩:=r9 hc
  exact⟨m,hs,hm⟩
end Go.Vm
namespace Go.Vm
def Md (P:Program) (vf:af) (f:FuncId):Bool:=afz P vf f || (match vf.body with
 | .clone m=>LU P m vf f
 | .late i d k a=>Te P i d k a vf f
 | _=>false)
def T.every (p:Nat→af→Bool):T→Bool
 | .leaf=>true
 | .node k v a b=>p k v && a.every p && b.every p
theorem T.look_every {p:Nat→af→Bool}:∀ {t:T}{f:Nat}{vf:af},t.every p=true→t.look f=some vf→p f vf=true
 | .leaf,_,_,_,h=>by simp[T.look]at h
 | .node k v a b,f,vf,he,h=>by
  simp only[T.every,Bool.and_eq_true]at he
  simp only[T.look]at h
  split at h
  ·rename_i hk
   rw[Nat.beq_eq]at hk
   simp only[Option.some.injEq]at h
   subst hk h
   exact he.1.1
  ·split at h
   ·exact T.look_every he.1.2 h
   ·exact T.look_every he.2 h
theorem XB {P:Program}{vf:af}{f:FuncId}(h:Md P vf f=true):afK P vf f:=by
 simp only[Md,Bool.or_eq_true]at h
 rcases h with h | h
 ·unfold afz at h
  split at h
  ·rename_i fn h1
   split at h
   ·rename_i c h2
    simp only[Bool.and_eq_true,Nat.ble_eq,bne_iff_ne,ne_eq]at h
    obtain⟨⟨⟨k1,k2⟩,k3⟩,k4⟩:=h
    exact⟨fn,c,h1,h2,k4,k2,k3,.inl (ee _ _ k1)⟩
   ·simp at h
  ·simp at h
 ·split at h
  ·rename_i m hb
   unfold LU at h
   split at h
   ·rename_i fn h1
    split at h
    ·rename_i c h2
     simp only[Bool.and_eq_true,Nat.ble_eq,Nat.beq_eq,bne_iff_ne,ne_eq]at h
     obtain⟨⟨⟨⟨⟨⟨k1,k2⟩,k3⟩,k4⟩,k5⟩,k6⟩,k7⟩:=h
     exact⟨fn,c,h1,h2,k7,by omega,k3,.inr (.inl ⟨m,hb,k6,k5⟩)⟩
    ·simp at h
   ·simp at h
  ·rename_i i d k a hb
   unfold Te at h
   split at h
   ·rename_i fn h1
    split at h
    ·rename_i c h2
     simp only[Bool.and_eq_true,Nat.ble_eq,bne_iff_ne,ne_eq]at h
     obtain⟨⟨⟨k1,k2⟩,k3⟩,k4⟩:=h
     exact⟨fn,c,h1,h2,k4,k2,k3,.inr (.inr ⟨i,d,k,a,hb,k1⟩)⟩
    ·simp at h
   ·simp at h
  ·simp at h
theorem akM {P:Program}{t:T}(h:t.every (fun f v=>Md P v f)=true):xk P t.look:=fun f vf hv=>XB (T.look_every (p:=fun f v=>Md P v f) h hv)
end Go.Vm
end
