import Derived.Test.YtlmmdafiomepaaaGreatP3
set_option linter.unusedVariables false
set_option linter.unusedSimpArgs false
noncomputable section
namespace Go.Vm
set_option maxHeartbeats 2000000
set_option maxRecDepth 100000
theorem aos (id:Nat):aL prog BT [.d (.int .i64 id)]=some (.d (.int .i64 (aZ id))):=by
 rw[am akG I2.eq_1 rfl]
 unfold aZ
 by_cases h:id<5
 ·simp (maxSteps:=300000) (disch:=omega) [↓if_pos]
 ·simp (maxSteps:=300000) (disch:=omega) [↓if_neg]
def tD (d hi:Nat):Nat→Nat→List Nat
 | 0,_=>[]
 | f+1,x=>if x<hi then x::tD d hi f (x+d) else []
def vC (os:List Nat) (d b:Nat):Nat→Nat→List Nat
 | 0,_=>[]
 | k+1,w=>(tD d (nth os (b+1)) 300 (nth os b)).map (fun x=>w*32+x)++vC os d b k (w+1)
def xD (os:List Nat) (d n first:Nat):Nat→Nat→List Nat
 | 0,_=>[]
 | k+1,b=>vC os d b n first++xD os d n first k (b+1)
def zB (os:List Nat) (n first:Nat):List aC→Nat→List (Nat×Nat)
 | [],_=>[]
 | s::r,b=>(if s.book=0∨s.book=13 then [] else (xD os (aZ s.book.toNat) n first s.len.toNat b).map fun x=>(s.book.toNat,x))++zB os n first r (b+s.len.toNat)
def ow (os:List Nat):List (List aC)→List Int→Nat→List (Nat×Nat)
 | l::r,n::g,first=>zB os n.toNat first l 0++ow os r g (first+n.toNat)
 | _,_,_=>[]
def iy {σ τ:Type}(st:Nat×Nat→σ→Sum σ τ):List (Nat×Nat)→σ→Sum σ τ
 | [],s=>.inl s
 | p::r,s=>match st p s with
  | .inl s=>iy st r s
  | .inr z=>.inr z
theorem vH {σ τ:Type}{st:Nat×Nat→σ→Sum σ τ}:∀ {l r:List (Nat×Nat)}{s:σ},iy st (l++r) s=match iy st l s with
  | .inl s=>iy st r s
  | .inr z=>.inr z
 | [],r,s=>rfl
 | p::l,r,s=>by
  rw[List.cons_append,iy,iy]
  cases st p s with
  | inl s=>simp only[vH]
  | inr z=>rfl
def Q4 {σ τ:Type}(hp:σ→ac→ac) (hq:τ→ac→ac) (L l:Nat) (st:Nat×Nat→σ→Sum σ τ) (bg:List (Nat×Nat)→σ→Prop):Prop :=
 ∀ p r s K o N,bg (p::r) s→L≤K→K<N→
  (∃ s2 M,N≤M∧st p s=.inl s2∧bg r s2∧aP (Dn prog) (.yield l) [.agg [.d (.int .i64 (p.1:Int)),.d (.int .i64 (p.2:Int)),.d (.int .i64 ((p.2+aZ p.1:Nat):Int))]] ⟨hp s [(K,o)],N⟩=some (.d (.bool true),⟨hp s2 [(K,o)],M⟩))∨
  (∃ z M,N≤M∧st p s=.inr z∧aP (Dn prog) (.yield l) [.agg [.d (.int .i64 (p.1:Int)),.d (.int .i64 (p.2:Int)),.d (.int .i64 ((p.2+aZ p.1:Nat):Int))]] ⟨hp s [(K,o)],N⟩=some (.d (.bool false),⟨hq z [(K,o)],M⟩))
structure PlS where
 l:Nat
 p2:Nat
 p3:Nat
 full:List (List aC)
 os:List Nat
abbrev eP (P:PlS) (first g b:Int) (r:ak):ak:=(0,.yield P.l)::(2,.ptr P.p2 0)::(3,.ptr P.p3 0)::(5,.d (.int .i64 first))::(6,.d (.int .i64 g))::(8,.d (.int .i64 b))::r
abbrev BS (P:PlS) (g:Int) (r:ak):ak:=(14,.d (.lst (bW P.full)))::(15,.d (.int .i64 P.full.length))::(16,.d (.int .i64 g))::r
abbrev Js (ls:List aC) (k:Int):ak:=[(21,.d (.lst (ge ls))),(22,.d (.int .i64 ls.length)),(23,.d (.int .i64 k))]
section
variable {σ τ:Type}{hp:σ→ac→ac}{hq:τ→ac→ac}{L:Nat}{P:PlS}{st:Nat×Nat→σ→Sum σ τ}{bg:List (Nat×Nat)→σ→Prop}
theorem ari (H:Tl hp L) (H2:Tl hq L) (hY:Q4 hp hq L P.l st bg) (hg3:∀ s T,get (hp s T) P.p3=some (.cells [.own false 1 (bl P.os)])) (s0:aC) (bk:Nat) (hbk:s0.book=bk) (hb1:1≤bk∧bk≤11) (b:Nat) (hb:b+1<P.os.length) (ho:P.os.length≤100) (hhi:nth P.os (b+1)≤256) (first g en gi k:Int) (w:Nat) (hw:w≤8) (ls:List aC) (K:Nat) (hK:L≤K) (rest:List (Nat×Nat)):∀ (f x N:Nat) (s:σ),nth P.os (b+1)≤x+f→x≤300→K<N→bg ((tD (aZ bk) (nth P.os (b+1)) f x).map (fun y=>(bk,w*32+y))++rest) s→
  (∃ s2 M,N≤M∧iy st ((tD (aZ bk) (nth P.os (b+1)) f x).map (fun y=>(bk,w*32+y))) s=.inl s2∧bg rest s2∧
   (Dn prog).code (.loop dj) ⟨eP P first g b ((10,.ptr K 0)::(11,.d (.int .i64 en))::(12,.d (.int .i64 w))::(13,.d (.int .i64 x))::BS P gi (Js ls k)),⟨hp s [(K,.cells [.d (.int .i64 s0.book),.d (.int .i64 s0.len)])],N⟩⟩ =
   some (.exit 8,⟨eP P first g b ((10,.ptr K 0)::(11,.d (.int .i64 en))::(12,.d (.int .i64 w))::BS P gi (Js ls k)),⟨hp s2 [(K,.cells [.d (.int .i64 s0.book),.d (.int .i64 s0.len)])],M⟩⟩))∨
  (∃ z M,N≤M∧iy st ((tD (aZ bk) (nth P.os (b+1)) f x).map (fun y=>(bk,w*32+y))) s=.inr z∧
   (Dn prog).code (.loop dj) ⟨eP P first g b ((10,.ptr K 0)::(11,.d (.int .i64 en))::(12,.d (.int .i64 w))::(13,.d (.int .i64 x))::BS P gi (Js ls k)),⟨hp s [(K,.cells [.d (.int .i64 s0.book),.d (.int .i64 s0.len)])],N⟩⟩ =
   some (.ret,⟨[],⟨hq z [],M⟩⟩)):=by
 have hG:=fun s o=>H.get s K o hK
 have hD2:=fun s o=>H2.del s K o hK
 have hd4:aZ bk≤4∧2≤aZ bk:=by unfold aZ;split<;>omega
 have hdim:=aos bk
 have hgo:(bl P.os)[b+1]?=some [.int .i64 (nth P.os (b+1):Nat)]:=Gu hb
 have hne:bl P.os≠[]:=by intro h;have:=congrArg List.length h;simp at this;simp[this]at hb
 intro f
 induction f with
 | zero =>
  intro x N s h1 h2 hKN hi
  refine .inl ⟨s,N,Nat.le_refl _,rfl,hi,?_⟩
  rw[aa dj.eq_1]
  simp (maxSteps:=300000) (disch:=omega) [↓if_neg,hg3,hgo]
 | succ f ih =>
  intro x N s h1 h2 hKN hi
  by_cases hx:x<nth P.os (b+1)
  ·rw[tD,if_pos hx,List.map_cons,List.cons_append]at hi
   rw[tD,if_pos hx,List.map_cons,iy]
   have c1:((x+aZ bk:Nat):Int)=(x:Int)+aZ bk:=rfl
   have c2:((w*32+x:Nat):Int)=(w:Int)*32+x:=by omega
   have c3:((w*32+x+aZ bk:Nat):Int)=(w:Int)*32+x+aZ bk:=by omega
   rcases hY (bk,w*32+x) _ s K (.cells [.d (.int .i64 s0.book),.d (.int .i64 s0.len)]) N hi hK hKN with ⟨s2,M,hM,e1,e2,e3⟩ | ⟨z,M,hM,e1,e3⟩
   ·rw[e1]
    simp only[c2,c3]at e3
    have h9:=ih (x+aZ bk) M s2 (by omega) (by omega) (by omega) e2
    rw[c1]at h9
    rw[hbk]at h9 e3⊢
    rcases h9 with ⟨s3,M2,hM2,f1,f2,f3⟩ | ⟨z,M2,hM2,f1,f3⟩
    ·refine .inl ⟨s3,M2,by omega,f1,f2,?_⟩
     rw[←f3,aa dj.eq_1]
     simp (maxSteps:=300000) (disch:=omega) [↓if_pos,↓if_neg,hg3,hgo,hG,hdim,-f7,e3]
    ·refine .inr ⟨z,M2,by omega,f1,?_⟩
     rw[←f3,aa dj.eq_1]
     simp (maxSteps:=300000) (disch:=omega) [↓if_pos,↓if_neg,hg3,hgo,hG,hdim,-f7,e3]
   ·rw[e1]
    simp only[c2,c3]at e3
    rw[hbk]at e3⊢
    refine .inr ⟨z,M,hM,rfl,?_⟩
    rw[aa dj.eq_1]
    simp (maxSteps:=300000) (disch:=omega) [↓if_pos,↓if_neg,hg3,hgo,hG,hdim,-f7,e3,hD2]
  ·rw[tD,if_neg hx]at hi
   rw[tD,if_neg hx]
   refine .inl ⟨s,N,Nat.le_refl _,rfl,hi,?_⟩
   rw[aa dj.eq_1]
   simp (maxSteps:=300000) (disch:=omega) [↓if_neg,hg3,hgo]
theorem ark (i:aD) (hil:i.groups.length≤1000) (H:Tl hp L) (H2:Tl hq L) (hY:Q4 hp hq L P.l st bg) (hg2:∀ s T,get (hp s T) P.p2=some (.cells i.cells)) (hg3:∀ s T,get (hp s T) P.p3=some (.cells [.own false 1 (bl P.os)])) (s0:aC) (bk:Nat) (hbk:s0.book=bk) (hb1:1≤bk∧bk≤11) (b:Nat) (hb:b+1<P.os.length) (ho:P.os.length≤100) (hhi:∀ x∈P.os,x≤256) (first n g:Nat) (hgl:g<i.groups.length) (hn:nth i.groups g=n) (hfn:first+n≤8) (en gi k:Int) (ls:List aC) (K:Nat) (hK:L≤K) (rest:List (Nat×Nat)):∀ (j w N:Nat) (s:σ),w+j=first+n→K<N→bg ((vC P.os (aZ bk) b j w).map (fun y=>(bk,y))++rest) s→
  (∃ s2 M,N≤M∧iy st ((vC P.os (aZ bk) b j w).map (fun y=>(bk,y))) s=.inl s2∧bg rest s2∧
   (Dn prog).code (.loop dU) ⟨eP P first g b ((10,.ptr K 0)::(11,.d (.int .i64 en))::(12,.d (.int .i64 w))::BS P gi (Js ls k)),⟨hp s [(K,.cells [.d (.int .i64 s0.book),.d (.int .i64 s0.len)])],N⟩⟩ =
   some (.exit 6,⟨eP P first g b ((10,.ptr K 0)::(11,.d (.int .i64 en))::BS P gi (Js ls k)),⟨hp s2 [(K,.cells [.d (.int .i64 s0.book),.d (.int .i64 s0.len)])],M⟩⟩))∨
  (∃ z M,N≤M∧iy st ((vC P.os (aZ bk) b j w).map (fun y=>(bk,y))) s=.inr z∧
   (Dn prog).code (.loop dU) ⟨eP P first g b ((10,.ptr K 0)::(11,.d (.int .i64 en))::(12,.d (.int .i64 w))::BS P gi (Js ls k)),⟨hp s [(K,.cells [.d (.int .i64 s0.book),.d (.int .i64 s0.len)])],N⟩⟩ =
   some (.ret,⟨[],⟨hq z [],M⟩⟩)):=by
 have hgo:(bl P.os)[b]?=some [.int .i64 (nth P.os b:Nat)]:=Gu (by omega)
 have hob:=hhi (nth P.os b) (nk (by omega))
 have hob1:=hhi (nth P.os (b+1)) (nk hb)
 simp only[aD.cells]at hg2
 intro j
 induction j with
 | zero =>
  intro w N s h1 hKN hi
  refine .inl ⟨s,N,Nat.le_refl _,rfl,hi,?_⟩
  rw[aa dU.eq_1]
  simp (maxSteps:=300000) (disch:=omega) [↓if_neg,hg2,hn]
 | succ j ih =>
  intro w N s h1 hKN hi
  have c1:((w+1:Nat):Int)=(w:Int)+1:=rfl
  have em:(vC P.os (aZ bk) b (j+1) w).map (fun y=>(bk,y))=(tD (aZ bk) (nth P.os (b+1)) 300 (nth P.os b)).map (fun y=>(bk,w*32+y))++(vC P.os (aZ bk) b j (w+1)).map (fun y=>(bk,y)):=by
   rw[vC,List.map_append,List.map_map];rfl
  rw[em]at hi⊢
  rw[List.append_assoc]at hi
  rw[vH]
  rcases ari H H2 hY hg3 s0 bk hbk hb1 b hb ho hob1 first g en gi k w (by omega) ls K hK _ 300 (nth P.os b) N s (by omega) (by omega) hKN hi with ⟨s2,M,hM,e1,e2,e3⟩ | ⟨z,M,hM,e1,e3⟩
  ·rw[e1]
   have h9:=ih (w+1) M s2 (by omega) (by omega) e2
   rw[c1]at h9
   rcases h9 with ⟨s3,M2,hM2,f1,f2,f3⟩ | ⟨z,M2,hM2,f1,f3⟩
   ·refine .inl ⟨s3,M2,by omega,f1,f2,?_⟩
    rw[←f3,aa dU.eq_1]
    simp (maxSteps:=300000) (disch:=omega) [↓if_pos,↓if_neg,hg2,hg3,hgo,hn,e3]
   ·refine .inr ⟨z,M2,by omega,f1,?_⟩
    rw[←f3,aa dU.eq_1]
    simp (maxSteps:=300000) (disch:=omega) [↓if_pos,↓if_neg,hg2,hg3,hgo,hn,e3]
  ·rw[e1]
   refine .inr ⟨z,M,hM,rfl,?_⟩
   rw[aa dU.eq_1]
   simp (maxSteps:=300000) (disch:=omega) [↓if_pos,↓if_neg,hg2,hg3,hgo,hn,e3]
theorem asf (i:aD) (hil:i.groups.length≤1000) (H:Tl hp L) (H2:Tl hq L) (hY:Q4 hp hq L P.l st bg) (hg2:∀ s T,get (hp s T) P.p2=some (.cells i.cells)) (hg3:∀ s T,get (hp s T) P.p3=some (.cells [.own false 1 (bl P.os)])) (s0:aC) (bk:Nat) (hbk:s0.book=bk) (hb1:bk≤11∨bk=13) (ho:P.os.length≤100) (hhi:∀ x∈P.os,x≤256) (first n g:Nat) (hgl:g<i.groups.length) (hn:nth i.groups g=n) (hfn:first+n≤8) (en:Nat) (hen:en<P.os.length) (gi k:Int) (ls:List aC) (K:Nat) (hK:L≤K) (rest:List (Nat×Nat)):∀ (j b N:Nat) (s:σ),b+j=en→K<N→bg ((if bk=0∨bk=13 then [] else (xD P.os (aZ bk) n first j b).map (fun y=>(bk,y)))++rest) s→
  (∃ s2 M,N≤M∧iy st (if bk=0∨bk=13 then [] else (xD P.os (aZ bk) n first j b).map (fun y=>(bk,y))) s=.inl s2∧bg rest s2∧
   (Dn prog).code (.loop cM) ⟨eP P first g b ((10,.ptr K 0)::(11,.d (.int .i64 en))::BS P gi (Js ls k)),⟨hp s [(K,.cells [.d (.int .i64 s0.book),.d (.int .i64 s0.len)])],N⟩⟩ =
   some (.exit 4,⟨eP P first g en (BS P gi (Js ls k)),⟨hp s2 [],M⟩⟩))∨
  (∃ z M,N≤M∧iy st (if bk=0∨bk=13 then [] else (xD P.os (aZ bk) n first j b).map (fun y=>(bk,y))) s=.inr z∧
   (Dn prog).code (.loop cM) ⟨eP P first g b ((10,.ptr K 0)::(11,.d (.int .i64 en))::BS P gi (Js ls k)),⟨hp s [(K,.cells [.d (.int .i64 s0.book),.d (.int .i64 s0.len)])],N⟩⟩ =
   some (.ret,⟨[],⟨hq z [],M⟩⟩)):=by
 have hG:=fun s o=>H.get s K o hK
 have hD:=fun s o=>H.del s K o hK
 intro j
 induction j with
 | zero =>
  intro b N s h1 hKN hi
  have eb:b=en:=by omega
  subst eb
  have e0:(if bk=0∨bk=13 then [] else (xD P.os (aZ bk) n first 0 b).map (fun y=>(bk,y)))=[]:=by split<;>rfl
  rw[e0]at hi⊢
  refine .inl ⟨s,N,Nat.le_refl _,rfl,hi,?_⟩
  rw[aa cM.eq_1]
  simp (maxSteps:=300000) (disch:=omega) [↓if_neg,hD]
 | succ j ih =>
  intro b N s h1 hKN hi
  have c1:((b+1:Nat):Int)=(b:Int)+1:=rfl
  by_cases h0:bk=0∨bk=13
  ·rw[if_pos h0]at hi⊢
   have h9:=ih (b+1) N s (by omega) hKN (by rw[if_pos h0];exact hi)
   rw[if_pos h0,c1]at h9
   rw[hbk]at h9⊢
   rcases h9 with ⟨s3,M2,hM2,f1,f2,f3⟩ | ⟨z,M2,hM2,f1,f3⟩
   ·refine .inl ⟨s3,M2,by omega,f1,f2,?_⟩
    rw[←f3,aa cM.eq_1]
    rcases h0 with h0 | h0<;>simp (maxSteps:=300000) (disch:=omega) [↓if_pos,↓if_neg,hG]
   ·refine .inr ⟨z,M2,by omega,f1,?_⟩
    rw[←f3,aa cM.eq_1]
    rcases h0 with h0 | h0<;>simp (maxSteps:=300000) (disch:=omega) [↓if_pos,↓if_neg,hG]
  ·rw[if_neg h0]at hi⊢
   have em:(xD P.os (aZ bk) n first (j+1) b).map (fun y=>(bk,y))=(vC P.os (aZ bk) b n first).map (fun y=>(bk,y))++(xD P.os (aZ bk) n first j (b+1)).map (fun y=>(bk,y)):=by
    rw[xD,List.map_append]
   rw[em]at hi⊢
   rw[List.append_assoc]at hi
   rw[vH]
   rcases ark i hil H H2 hY hg2 hg3 s0 bk hbk (by omega) b (by omega) ho hhi first n g hgl hn hfn en gi k ls K hK _ n first N s rfl hKN hi with ⟨s2,M,hM,e1,e2,e3⟩ | ⟨z,M,hM,e1,e3⟩
   ·rw[e1]
    have h9:=ih (b+1) M s2 (by omega) (by omega) (by rw[if_neg h0];exact e2)
    rw[if_neg h0,c1]at h9
    rw[hbk]at h9 e3⊢
    rcases h9 with ⟨s3,M2,hM2,f1,f2,f3⟩ | ⟨z,M2,hM2,f1,f3⟩
    ·refine .inl ⟨s3,M2,by omega,f1,f2,?_⟩
     rw[←f3,aa cM.eq_1]
     simp (maxSteps:=300000) (disch:=omega) [↓if_pos,↓if_neg,hG,e3]
    ·refine .inr ⟨z,M2,by omega,f1,?_⟩
     rw[←f3,aa cM.eq_1]
     simp (maxSteps:=300000) (disch:=omega) [↓if_pos,↓if_neg,hG,e3]
   ·rw[e1]
    rw[hbk]at e3⊢
    refine .inr ⟨z,M,hM,rfl,?_⟩
    rw[aa cM.eq_1]
    simp (maxSteps:=300000) (disch:=omega) [↓if_pos,↓if_neg,hG,e3]
theorem arK (i:aD) (hil:i.groups.length≤1000) (H:Tl hp L) (H2:Tl hq L) (hY:Q4 hp hq L P.l st bg) (hg2:∀ s T,get (hp s T) P.p2=some (.cells i.cells)) (hg3:∀ s T,get (hp s T) P.p3=some (.cells [.own false 1 (bl P.os)])) (ho:P.os.length≤100) (hhi:∀ x∈P.os,x≤256) (first n g:Nat) (hgl:g<i.groups.length) (hn:nth i.groups g=n) (hfn:first+n≤8) (gi:Int) (ls:List aC) (hls:ls.length≤1000) (rest:List (Nat×Nat)):∀ (r:List aC) (k b N:Nat) (lf:Int) (s:σ),ls.drop k=r→fitsS lf r→(b:Int)+lf<P.os.length→L≤N→bg (zB P.os n first r b++rest) s→
  (∃ s2 M,N≤M∧iy st (zB P.os n first r b) s=.inl s2∧bg rest s2∧
   (Dn prog).code (.loop dS) ⟨eP P first g b (BS P gi (Js ls k)),⟨hp s [],N⟩⟩ =
   some (.exit 2,⟨(0,.yield P.l)::(2,.ptr P.p2 0)::(3,.ptr P.p3 0)::(5,.d (.int .i64 first))::(6,.d (.int .i64 g))::BS P gi [],⟨hp s2 [],M⟩⟩))∨
  (∃ z M,N≤M∧iy st (zB P.os n first r b) s=.inr z∧
   (Dn prog).code (.loop dS) ⟨eP P first g b (BS P gi (Js ls k)),⟨hp s [],N⟩⟩ =
   some (.ret,⟨[],⟨hq z [],M⟩⟩)):=by
 intro r
 induction r with
 | nil =>
  intro k b N lf s hd hf hb hN hi
  have hk:=an hd
  refine .inl ⟨s,N,Nat.le_refl _,rfl,hi,?_⟩
  rw[aa dS.eq_1]
  simp (maxSteps:=300000) (disch:=omega) [↓if_neg]
 | cons s0 r ih =>
  intro k b N lf s hd hf hb hN hi
  have hg:=pG hd
  have hlt:=ax hd
  obtain⟨⟨⟨l1,l2⟩,b1,b2⟩,hf2⟩:=hf
  obtain⟨bk,hbk⟩:=Int.eq_ofNat_of_zero_le b1
  have hbt:s0.book.toNat=bk:=by omega
  have hif:(s0.book=0∨s0.book=13)↔(bk=0∨bk=13):=by omega
  have em:zB P.os n first (s0::r) b=(if bk=0∨bk=13 then [] else (xD P.os (aZ bk) n first s0.len.toNat b).map (fun y=>(bk,y)))++zB P.os n first r (b+s0.len.toNat):=by
   rw[zB,hbt,aiH hif]
  rw[em]at hi⊢
  rw[List.append_assoc]at hi
  rw[vH]
  have hp1:=fun s o=>H.put s N o hN
  have hp2:=fun s o o'=>H.put2 s N o o' hN
  have hG:=fun s o=>H.get s N o hN
  have c1:((k+1:Nat):Int)=(k:Int)+1:=rfl
  have cE:((b+s0.len.toNat:Nat):Int)=(b:Int)+s0.len:=by omega
  rcases asf i hil H H2 hY hg2 hg3 s0 bk hbk (by omega) ho hhi first n g hgl hn hfn (b+s0.len.toNat) (by omega) gi k ls N hN _ s0.len.toNat b (N+1) s rfl (by omega) hi with ⟨s2,M,hM,e1,e2,e3⟩ | ⟨z,M,hM,e1,e3⟩
  ·rw[e1]
   have h9:=ih (k+1) (b+s0.len.toNat) M (lf-s0.len) s2 (ar hd) hf2 (by omega) (by omega) e2
   rw[c1,cE]at h9
   rw[cE]at e3
   rcases h9 with ⟨s3,M2,hM2,f1,f2,f3⟩ | ⟨z,M2,hM2,f1,f3⟩
   ·refine .inl ⟨s3,M2,by omega,f1,f2,?_⟩
    rw[←f3,aa dS.eq_1]
    simp (maxSteps:=300000) (disch:=omega) [↓if_pos,↓if_neg,hg,hp1,hp2,hG,e3]
   ·refine .inr ⟨z,M2,by omega,f1,?_⟩
    rw[←f3,aa dS.eq_1]
    simp (maxSteps:=300000) (disch:=omega) [↓if_pos,↓if_neg,hg,hp1,hp2,hG,e3]
  ·rw[e1]
   rw[cE]at e3
   refine .inr ⟨z,M,by omega,rfl,?_⟩
   rw[aa dS.eq_1]
   simp (maxSteps:=300000) (disch:=omega) [↓if_pos,↓if_neg,hg,hp1,hp2,hG,e3]
theorem arg (i:aD) (hil:i.groups.length≤1000) (H:Tl hp L) (H2:Tl hq L) (hY:Q4 hp hq L P.l st bg) (hg2:∀ s T,get (hp s T) P.p2=some (.cells i.cells)) (hg3:∀ s T,get (hp s T) P.p3=some (.cells [.own false 1 (bl P.os)])) (ho:P.os.length≤100) (hhi:∀ x∈P.os,x≤256) (m:Int) (hm:0≤m∧m<P.os.length) (hfl:P.full.length≤1000) (hlc:∀ l∈P.full,l.length≤1000) (hgg:∀ n∈i.groups,1≤n) (rest:List (Nat×Nat)):∀ (r:List (List aC)) (q:List Int) (g first N:Nat) (s:σ),P.full.drop g=r→i.groups.drop g=q→r.length=q.length→cQ m r→(first:Int)+q.sum≤8→L≤N→bg (ow P.os r q first++rest) s→
  (∃ s2 M,N≤M∧iy st (ow P.os r q first) s=.inl s2∧bg rest s2∧
   (Dn prog).code (.loop dQ) ⟨(0,.yield P.l)::(2,.ptr P.p2 0)::(3,.ptr P.p3 0)::(5,.d (.int .i64 first))::BS P g [],⟨hp s [],N⟩⟩=some (.exit 0,⟨[],⟨hp s2 [],M⟩⟩))∨
  (∃ z M,N≤M∧iy st (ow P.os r q first) s=.inr z∧
   (Dn prog).code (.loop dQ) ⟨(0,.yield P.l)::(2,.ptr P.p2 0)::(3,.ptr P.p3 0)::(5,.d (.int .i64 first))::BS P g [],⟨hp s [],N⟩⟩=some (.ret,⟨[],⟨hq z [],M⟩⟩)):=by
 have hg2':=hg2
 simp only[aD.cells]at hg2'
 intro r
 induction r with
 | nil =>
  intro q g first N s hd hd2 hl hf hs hN hi
  have hk:=an hd
  have hq0:q=[]:=by cases q with | nil=>rfl | cons=>simp at hl
  subst hq0
  refine .inl ⟨s,N,Nat.le_refl _,rfl,hi,?_⟩
  rw[aa dQ.eq_1]
  simp (maxSteps:=300000) (disch:=omega) [↓if_neg]
 | cons l r ih =>
  intro q g first N s hd hd2 hl hf hs hN hi
  cases q with
  | nil=>simp at hl
  | cons n0 q =>
   have hg:=iI hd
   have hlt:=ax hd
   have hlt2:=ax hd2
   have hn0:nth i.groups g=n0:=by
    have h2:=my (l:=i.groups) hlt2
    rw[hd2]at h2;injection h2 with h2;exact h2.symm
   have hn1:=hgg n0 (by rw[←hn0];exact nk hlt2)
   obtain⟨n,hn⟩:=Int.eq_ofNat_of_zero_le (show 0≤n0 by omega)
   have hnt:n0.toNat=n:=by omega
   have hqs:0≤q.sum:=by
    have:∀ x∈q,1≤x:=fun x hx=>hgg x (by rw[←List.take_append_drop g i.groups,hd2];simp[hx])
    have:=lE this
    omega
   rw[List.sum_cons]at hs
   have em:ow P.os (l::r) (n0::q) first=zB P.os n first l 0++ow P.os r q (first+n):=by rw[ow,hnt]
   rw[em]at hi⊢
   rw[List.append_assoc]at hi
   rw[vH]
   have hml:l∈P.full:=by rw[←List.take_append_drop g P.full,hd];simp
   have c0:((0:Nat):Int)=0:=rfl
   have c1:((g+1:Nat):Int)=(g:Int)+1:=rfl
   have cF:((first+n:Nat):Int)=(first:Int)+n:=rfl
   simp only[List.length_cons,Nat.add_right_cancel_iff]at hl
   rcases arK i hil H H2 hY hg2 hg3 ho hhi first n g hlt2 (by omega) (by omega) g l (hlc l hml) _ l 0 0 N m s rfl (hf l (.head _)) (by omega) hN hi with ⟨s2,M,hM,e1,e2,e3⟩ | ⟨z,M,hM,e1,e3⟩
   ·rw[e1]
    have h9:=ih q (g+1) (first+n) M s2 (ar hd) (ar hd2) hl (fun x hx=>hf x (.tail _ hx)) (by omega) (by omega) e2
    rw[c1,cF]at h9
    rw[c0]at e3
    rw[hn]at hn0
    rcases h9 with ⟨s3,M2,hM2,f1,f2,f3⟩ | ⟨z,M2,hM2,f1,f3⟩
    ·refine .inl ⟨s3,M2,by omega,f1,f2,?_⟩
     rw[←f3,aa dQ.eq_1]
     simp (maxSteps:=300000) (disch:=omega) [↓if_pos,↓if_neg,hg,hg2',hn0,e3]
    ·refine .inr ⟨z,M2,by omega,f1,?_⟩
     rw[←f3,aa dQ.eq_1]
     simp (maxSteps:=300000) (disch:=omega) [↓if_pos,↓if_neg,hg,hg2',hn0,e3]
   ·rw[e1]
    rw[c0]at e3
    refine .inr ⟨z,M,hM,rfl,?_⟩
    rw[aa dQ.eq_1]
    simp (maxSteps:=300000) (disch:=omega) [↓if_pos,↓if_neg,hg,e3]
end
end Go.Vm
namespace Go.Vm
set_option maxHeartbeats 2000000
set_option maxRecDepth 100000
theorem alQ {σ τ:Type}{hp:σ→ac→ac}{hq:τ→ac→ac}{L:Nat}{P:PlS}{st:Nat×Nat→σ→Sum σ τ}{bg:List (Nat×Nat)→σ→Prop}(i:aD) (hi:i.Fit) (hm:i.may 11) (p1:Nat) (H:Tl hp L) (H2:Tl hq L) (hY:Q4 hp hq L P.l st bg) (hg1:∀ s,get (hp s []) p1=some (.cells [.d (.lst (bW P.full))])) (hg2:∀ s T,get (hp s T) P.p2=some (.cells i.cells)) (hg3:∀ s T,get (hp s T) P.p3=some (.cells [.own false 1 (bl P.os)])) (ho:P.os.length≤100) (hhi:∀ x∈P.os,x≤256) (hmo:i.max<P.os.length) (hf:lI i P.full) (N:Nat) (hN:L≤N) (s:σ) (hs:bg (ow P.os P.full i.groups 0) s) :
  (∃ s2 M,N≤M∧iy st (ow P.os P.full i.groups 0) s=.inl s2∧bg [] s2∧(Dn prog).call fS [.yield P.l,.ptr p1 0,.ptr P.p2 0,.ptr P.p3 0] ⟨hp s [],N⟩=some (.tup [],⟨hp s2 [],M⟩))∨
  (∃ z M,N≤M∧iy st (ow P.os P.full i.groups 0) s=.inr z∧(Dn prog).call fS [.yield P.l,.ptr p1 0,.ptr P.p2 0,.ptr P.p3 0] ⟨hp s [],N⟩=some (.tup [],⟨hq z [],M⟩)):=by
 have hmx:=lG hm
 obtain⟨g1,g2⟩:=ei hm
 have hmm:i.many≤8:=by unfold aD.many;split<;>omega
 have hgl:i.groups.length≤8:=by have:=lE (fun n hn=>(g1 n hn).1);omega
 have hlc:∀ l∈P.full,l.length≤1000:=fun l hl=>by
  rcases yU (hf.2 l hl) with h | h
  ·omega
  ·subst h;simp
 have hfl:=hf.1
 have c0:((0:Nat):Int)=0:=rfl
 have h:=arg i hi.len H H2 hY hg2 hg3 ho hhi i.max ⟨hmx.1,hmo⟩ (by omega) hlc (fun n hn=>(g1 n hn).1) [] P.full i.groups 0 0 N s rfl rfl hfl hf.2 (by omega) hN (by rw[List.append_nil];exact hs)
 rw[c0]at h
 rw[aA W9 uj.eq_1 rfl]
 rcases h with ⟨s2,M,hM,e1,e2,e3⟩ | ⟨z,M,hM,e1,e3⟩
 ·refine .inl ⟨s2,M,hM,e1,e2,?_⟩
  simp (maxSteps:=300000) (disch:=omega) [hg1,e3]
 ·refine .inr ⟨z,M,hM,e1,?_⟩
  simp (maxSteps:=300000) (disch:=omega) [hg1,e3]
theorem ahJ (r:Nat) (hr:r≤11) (i:aD) (y:D) (H:ac) (N:Nat) (hL:Lt H N):(Dn prog).call Ao [.d (.int .i64 r),.agg i.cells,.d y] ⟨H,N⟩=some (.fn fS [] [.ptr (N+1) 0,.ptr N 0,.ptr (N+1+1) 0],⟨H++[(N,.cells i.cells)]++[(N+1,.cells [.d y])]++[(N+1+1,.cells [.own false 1 (bl (offs r i.short))])],N+1+1+1⟩):=by
 have hof:=qV r i.short
 rw[if_pos (by omega)]at hof
 simp only[Int.toNat_natCast]at hof
 have L1:=DT (o:=.cells i.cells) hL
 have L2:=DT (o:=.cells [.d y]) L1
 have e1:=fun o=>qo (o:=o) hL
 have e2:=fun o=>qo (o:=o) L1
 have e3:=fun o=>qo (o:=o) L2
 have e4:=qr (N:=N+1) (o:=.cells [.d y]) (uo (o:=.cells i.cells) hL)
 have e5:=fun o=>uo (o:=o) L2
 have e6:=fun o o'=>KS (o:=o) (o':=o') L2
 have hsh:i.short=decide (i.seq=2):=rfl
 rw[aA aeS Aw.eq_1 rfl]
 simp only[aD.cells]at e1 e2 e3 e4 e5 e6⊢
 by_cases hs2:i.seq=2
 ·rw[decide_eq_true hs2]at hsh
  rw[hsh]at hof⊢
  simp (maxSteps:=300000) (disch:=omega) [↓if_pos,↓if_neg,hof,e1,e2,e3,e4,e5,e6,-List.append_assoc]
 ·rw[decide_eq_false hs2]at hsh
  rw[hsh]at hof⊢
  simp (maxSteps:=300000) (disch:=omega) [↓if_pos,↓if_neg,hof,e1,e2,e3,e4,e5,e6,-List.append_assoc]
abbrev apR:List AV:=[.d (.int .i64 0),.d (.int .i64 0),.nl,.nl]
abbrev BY (id:Nat):List AV:=[.d (.int .i64 id),.d (.int .i64 (bC id)),.own false 1 (bl (bi id)),.own false 1 (bl (cu id))]
def Kv (C:List AV):Prop:=C.length=48∧∀ id,id<12→sub C (4*id) 4=apR∨(1≤id∧sub C (4*id) 4=BY id)
theorem F1 {α:Type}{C:List α}{a k:Nat}(hk:k<4):(sub C a 4)[k]?=C[a+k]?:=by
 unfold sub
 rw[List.getElem?_take,if_pos hk,List.getElem?_drop]
theorem JI {α:Type}{C W:List α}{a:Nat}(hw:W.length=4) (ha:a+4≤C.length):sub (ai C a W) a 4=W:=by
 unfold sub ai
 have h1:(C.take a).length=a:=by rw[List.length_take];omega
 rw[List.append_assoc,List.drop_append_of_le_length (by omega),List.drop_eq_nil_of_le (by omega),List.nil_append,←hw,List.take_left']
 rfl
theorem aa0 {α:Type}{C W:List α}{a b:Nat}(hw:W.length=4) (ha:a+4≤C.length) (hb:b+4≤C.length) (h:b+4≤a∨a+4≤b):sub (ai C a W) b 4=sub C b 4:=by
 apply List.ext_getElem?
 intro k
 by_cases hk:k<4
 ·rw[F1 hk,F1 hk]
  unfold ai
  have h1:(C.take a).length=a:=by rw[List.length_take];omega
  rcases h with h | h
  ·rw[List.append_assoc,List.getElem?_append_left (by omega),List.getElem?_take,if_pos (by omega)]
  ·rw[List.getElem?_append_right (by rw[List.length_append];omega),List.getElem?_drop,List.length_append,h1,hw]
   congr 1;omega
 ·unfold sub
  rw[List.getElem?_eq_none (by rw[List.length_take];omega),List.getElem?_eq_none (by rw[List.length_take];omega)]
theorem ago {α:Type}{C W:List α}{a:Nat}(hw:W.length=4) (ha:a+4≤C.length):(ai C a W).length=C.length:=by
 unfold ai
 simp only[List.length_append,List.length_take,List.length_drop]
 omega
theorem amT {C W:List AV}{a:Nat}(ha:a+4≤C.length) (h:sub C a 4=W):ai C a W=C:=by
 subst h
 unfold ai sub
 rw[List.length_take,List.length_drop,show a+min 4 (C.length-a)=a+4 by omega,List.append_assoc,←List.drop_drop,List.take_append_drop,List.take_append_drop]
theorem akU {C:List AV}(h:Kv C) {id:Nat}(hid:1≤id∧id≤11):Kv (ai C (4*id) (BY id)):=by
 refine⟨by rw[ago rfl (by rw[h.1];omega)];exact h.1,fun j hj=>?_⟩
 by_cases e:j=id
 ·subst e
  exact .inr ⟨hid.1,JI rfl (by rw[h.1];omega)⟩
 ·rw[aa0 rfl (by rw[h.1];omega) (by rw[h.1];omega) (by omega)]
  exact h.2 j hj
structure Bk (hp:List AV→ac→ac) (A N:Nat):Prop where
 gA:∀ C T,get (hp C T) A=some (.cells C)
 pA:∀ C T C',put (hp C T) A (.cells C')=hp C' T
 pN:∀ C o,put (hp C []) N o=hp C [(N,o)]
 pN2:∀ C o o',put (hp C [(N,o)]) N o'=hp C [(N,o')]
 gN:∀ C o,get (hp C [(N,o)]) N=some o
 dN:∀ C o,del (hp C [(N,o)]) N=hp C []
theorem akS {hp:List AV→ac→ac}{A N:Nat}(H:Bk hp A N) (C:List AV) (hC:Kv C) (id:Nat) (hid:1≤id∧id≤11):(Dn prog).call l0 [.ptr A 0,.d (.int .i64 id)] ⟨hp C [],N⟩=some (u6 id,⟨hp (ai C (4*id) (BY id)) [],N+1⟩):=by
 have hb:=adM id (by omega)
 simp only[Sz]at hb
 have h48:=hC.1
 have hia:∀ p,KK 12 4 (.ptr p 0) (.d (.int .i64 id))=some (.ptr p (4*id)):=fun p=>by
  have hb2:Nat.ble 12 id=false:=by rw[VV];exact decide_eq_false (by omega)
  simp only[KK,WB (show (0:Int)≤id by omega),Int.toNat_natCast,hb2,eh]
  rw[Nat.zero_add,Nat.mul_comm]
 rw[aA R9 rM.eq_1 rfl]
 rcases hC.2 id (by omega) with h0 | ⟨_,h1⟩
 ·have e0:C[4*id]?=some (.d (.int .i64 0)):=by rw[←Nat.add_zero (4*id),←F1 (by omega),h0];rfl
  obtain⟨hl0,e0⟩:=List.getElem?_eq_some_iff.1 e0
  have hsm:=JI (C:=C) (W:=BY id) (a:=4*id) rfl (by rw[h48];omega)
  have hsl:=ago (C:=C) (W:=BY id) (a:=4*id) rfl (by rw[h48];omega)
  rw[h48]at hsl
  simp (maxSteps:=300000) (disch:=omega) [↓if_pos,↓if_neg,H.gA,H.pA,H.pN,H.pN2,H.gN,H.dN,hia,e0,hb,-ai,-sub,-Gk,-aid,hsm,hsl]
  simp
 ·have e0:C[4*id]?=some (.d (.int .i64 id)):=by rw[←Nat.add_zero (4*id),←F1 (by omega),h1];rfl
  obtain⟨hl0,e0⟩:=List.getElem?_eq_some_iff.1 e0
  rw[amT (by omega) h1]
  simp (maxSteps:=300000) (disch:=omega) [↓if_pos,↓if_neg,H.gA,H.pA,H.pN,H.pN2,H.gN,H.dN,hia,e0,hb,-ai,-sub,-Gk,-aid,h1]
  simp
theorem Xf (l:List aV) (hl:l.length≤100000) (h:ac) (N:Nat):(Dn prog).call kV [.d (.lst (cG l))] ⟨h,N⟩=some (.d (.bool (decide (0<l.length))),⟨h,N⟩):=by
 rw[aA Pv pH.eq_1 rfl]
 by_cases h0:0<l.length
 ·rw[decide_eq_true h0]
  simp (maxSteps:=300000) (disch:=omega) [↓if_pos]
 ·rw[decide_eq_false h0]
  simp (maxSteps:=300000) (disch:=omega) [↓if_neg]
theorem TQ (F:AV) (P:List aV→Bool) (l:List (List aV)) (hl:l.length≤1000000000) (h:ac) (N:Nat) (hF:firm (share F)=F) (hc:∀ v∈l,aP (Dn prog) F [.d (.lst (cG v))] ⟨h,N⟩=some (.d (.bool (P v)),⟨h,N⟩)):∀ (r:List (List aV)) (i:Nat),l.drop i=r→
  (r.any P=true∧∃ k:Nat,(Dn prog).code (.loop bj) ⟨[(0,.d (.lst (dw l))),(1,F),(7,.d (.int .i64 l.length)),(8,.d (.int .i64 i))],⟨h,N⟩⟩=some (.ret,⟨[(4,.d (.int .i64 k))],⟨h,N⟩⟩))∨
  (r.any P=false∧(Dn prog).code (.loop bj) ⟨[(0,.d (.lst (dw l))),(1,F),(7,.d (.int .i64 l.length)),(8,.d (.int .i64 i))],⟨h,N⟩⟩=some (.exit 0,⟨[],⟨h,N⟩⟩)):=by
 intro r
 induction r with
 | nil =>
  intro i hd
  have hi:=an hd
  refine .inr ⟨rfl,?_⟩
  rw[aa bj.eq_1]
  simp (maxSteps:=300000) (disch:=omega) [↓if_neg]
 | cons v r ih =>
  intro i hd
  have hg:=ku hd
  have hlt:=ax hd
  have hv:=hc v (by rw[←List.take_append_drop i l,hd];simp)
  have h5:=ih (i+1) (ar hd)
  have c1:((i+1:Nat):Int)=(i:Int)+1:=rfl
  rw[c1]at h5
  cases hp:P v with
  | true =>
   rw[hp]at hv
   refine .inl ⟨by rw[List.any_cons,hp];rfl,i,?_⟩
   rw[aa bj.eq_1]
   simp (maxSteps:=300000) (disch:=omega) [↓if_pos,↓if_neg,hg,hF,hv]
  | false =>
   rw[hp]at hv
   rw[List.any_cons,hp,Bool.false_or]
   rcases h5 with ⟨e1,k,e2⟩ | ⟨e1,e2⟩
   ·refine .inl ⟨e1,k,?_⟩
    rw[aa bj.eq_1,←e2]
    simp (maxSteps:=300000) (disch:=omega) [↓if_pos,↓if_neg,hg,hF,hv]
   ·refine .inr ⟨e1,?_⟩
    rw[aa bj.eq_1,←e2]
    simp (maxSteps:=300000) (disch:=omega) [↓if_pos,↓if_neg,hg,hF,hv]
theorem RH (F:AV) (P:List aV→Bool) (l:List (List aV)) (hl:l.length≤1000000000) (h:ac) (N:Nat) (hF:firm (share F)=F) (hF2:firm F=F) (hc:∀ v∈l,aP (Dn prog) F [.d (.lst (cG v))] ⟨h,N⟩=some (.d (.bool (P v)),⟨h,N⟩)) :
  (Dn prog).call fc [.d (.lst (dw l)),F] ⟨h,N⟩=some (.d (.bool (l.any P)),⟨h,N⟩):=by
 have h1:=TQ F P l hl h N hF hc l 0 rfl
 have c0:((0:Nat):Int)=0:=rfl
 rw[c0]at h1
 have h2:∃ k:Int,(0≤k↔l.any P=true)∧(Dn prog).call gk [.d (.lst (dw l)),F] ⟨h,N⟩=some (.d (.int .i64 k),⟨h,N⟩):=by
  rcases h1 with ⟨e1,k,e2⟩ | ⟨e1,e2⟩
  ·refine⟨k,⟨fun _=>e1,fun _=>by omega⟩,?_⟩
   rw[aA kp dV.eq_1 rfl]
   simp (maxSteps:=300000) (disch:=omega) [e2]
  ·refine⟨-1,⟨fun h=>by omega,fun h=>by rw[e1]at h;exact absurd h (by simp)⟩,?_⟩
   rw[aA kp dV.eq_1 rfl]
   simp (maxSteps:=300000) (disch:=omega) [e2]
 obtain⟨k,e1,e2⟩:=h2
 rw[aA sM eY.eq_1 rfl]
 cases hp:l.any P with
 | true =>
  have:=e1.2 hp
  simp (maxSteps:=300000) (disch:=omega) [↓if_pos,hF2,e2]
 | false =>
  have:¬ 0≤k:=fun h=>by rw[e1.1 h]at hp;exact absurd hp (by simp)
  simp (maxSteps:=300000) (disch:=omega) [↓if_neg,hF2,e2]
def QM (t:List (List aV)):Bool:=t.any fun l=>decide (0<l.length)
theorem ac8 (t:List (List aV)) (ht:t.length≤100000) (ht2:∀ l∈t,l.length≤100000):aL prog ui [.d (.lst (dw t))]=some (.d (.bool (QM t))):=by
 have h:=RH (.fn kV [] []) (fun l=>decide (0<l.length)) t (by omega) [] 0 rfl rfl fun v hv=>by
  have:=Xf v (ht2 v hv) [] 0
  simpa using this
 rw[am Wa um.eq_1 rfl]
 unfold QM
 simp (maxSteps:=300000) (disch:=omega) [h]
end Go.Vm
namespace Go.Vm
set_option maxHeartbeats 2000000
set_option maxRecDepth 100000
theorem ag7 {d hi:Nat}(hd:1≤d):∀ {f lo x:Nat},(hi-lo) % d=0→x∈tD d hi f lo→lo≤x∧x+d≤hi∧(x-lo) % d=0
 | 0,lo,x,_,h=>by simp[tD]at h
 | f+1,lo,x,hm,h=>by
  rw[tD]at h
  by_cases h1:lo<hi
  ·rw[if_pos h1]at h
   have h2:lo+d≤hi:=by
    rcases Nat.lt_or_ge (hi-lo) d with h3 | h3
    ·rw[Nat.mod_eq_of_lt h3]at hm;omega
    ·omega
   rcases List.mem_cons.1 h with e | e
   ·subst e;exact⟨Nat.le_refl _,h2,by simp⟩
   ·have h4:(hi-(lo+d)) % d=0:=by
     have:hi-lo=hi-(lo+d)+d:=by omega
     rw[this,Nat.add_mod_right]at hm;exact hm
    have ⟨a,b,c⟩:=ag7 hd h4 e
    refine⟨by omega,b,?_⟩
    have:x-lo=x-(lo+d)+d:=by omega
    rw[this,Nat.add_mod_right];exact c
  ·rw[if_neg h1]at h;simp at h
theorem agT {os:List Nat}{d b:Nat}:∀ {k w y:Nat},y∈vC os d b k w→∃ w' x,w≤w'∧w'<w+k∧x∈tD d (nth os (b+1)) 300 (nth os b)∧y=w'*32+x
 | 0,w,y,h=>by simp[vC]at h
 | k+1,w,y,h=>by
  rw[vC,List.mem_append]at h
  rcases h with h | h
  ·obtain⟨x,hx,e⟩:=List.mem_map.1 h
   exact⟨w,x,Nat.le_refl _,by omega,hx,e.symm⟩
  ·obtain⟨w',x,a,b,c,e⟩:=agT h
   exact⟨w',x,by omega,by omega,c,e⟩
theorem agu {os:List Nat}{d n first:Nat}:∀ {k b y:Nat},y∈xD os d n first k b→∃ b',b≤b'∧b'<b+k∧y∈vC os d b' n first
 | 0,b,y,h=>by simp[xD]at h
 | k+1,b,y,h=>by
  rw[xD,List.mem_append]at h
  rcases h with h | h
  ·exact⟨b,Nat.le_refl _,by omega,h⟩
  ·obtain⟨b',a,c,e⟩:=agu h
   exact⟨b',by omega,by omega,e⟩
theorem ahe {os:List Nat}{n first:Nat}:∀ {r:List aC}{b:Nat}{lf:Int}{p:Nat×Nat},fitsS lf r→p∈zB os n first r b→∃ j,(aq r)[j]?=some (p.1:Int)∧(1≤p.1∧p.1≤11)∧p.2∈vC os (aZ p.1) (b+j) n first
 | [],b,lf,p,_,h=>by simp[zB]at h
 | s::r,b,lf,p,hf,h=>by
  obtain⟨⟨⟨l1,l2⟩,b1,b2⟩,hf2⟩:=hf
  have eb:aq (s::r)=List.replicate s.len.toNat s.book++aq r:=by rw[aq,List.flatMap_cons];rfl
  rw[zB,List.mem_append]at h
  rcases h with h | h
  ·by_cases h0:s.book=0∨s.book=13
   ·rw[if_pos h0]at h;simp at h
   ·rw[if_neg h0]at h
    obtain⟨y,hy,e⟩:=List.mem_map.1 h
    subst e
    obtain⟨b',c1,c2,c3⟩:=agu hy
    refine⟨b'-b,?_,by simp only[];omega,by rw[show b+(b'-b)=b' by omega];exact c3⟩
    rw[eb,List.getElem?_append_left (by simp;omega),List.getElem?_replicate,if_pos (by omega)]
    simp only[Option.some.injEq];omega
  ·obtain⟨j,a,c,e⟩:=ahe hf2 h
   refine⟨s.len.toNat+j,?_,c,by rw[←Nat.add_assoc];exact e⟩
   rw[eb,List.getElem?_append_right (by simp),List.length_replicate,Nat.add_sub_cancel_left]
   exact a
theorem ahj {os:List Nat}{m:Int}:∀ {r:List (List aC)}{q:List Int}{first:Nat}{p:Nat×Nat},cQ m r→(∀ n∈q,1≤n)→p∈ow os r q first→∃ (w g j:Nat) (l:List aC),r[g]?=some l∧first≤w∧(w:Int)<first+q.sum∧jn q ((w:Int)-first)=g∧(aq l)[j]?=some (p.1:Int)∧(1≤p.1∧p.1≤11)∧∃ x∈tD (aZ p.1) (nth os (j+1)) 300 (nth os j),p.2=w*32+x
 | [],q,first,p,_,_,h=>by simp[ow]at h
 | l::r,[],first,p,_,_,h=>by simp[ow]at h
 | l::r,n::q,first,p,hf,hn,h=>by
  have hn1:=hn n (.head _)
  have hqs:0≤q.sum:=by have:=lE fun x hx=>hn x (.tail _ hx);omega
  rw[ow,List.mem_append]at h
  rw[List.sum_cons]
  rcases h with h | h
  ·obtain⟨j,a,c,e⟩:=ahe (hf l (.head _)) h
   rw[Nat.zero_add]at e
   obtain⟨w,x,e1,e2,e3,e4⟩:=agT e
   refine⟨w,0,j,l,rfl,e1,by omega,?_,a,c,x,e3,e4⟩
   rw[jn,if_pos (by omega)]
  ·obtain⟨w,g,j,l',e1,e2,e3,e4,e5,e6,e7⟩:=ahj (fun x hx=>hf x (.tail _ hx)) (fun x hx=>hn x (.tail _ hx)) h
   refine⟨w,g+1,j,l',by simpa using e1,by omega,by omega,?_,e5,e6,e7⟩
   rw[jn,if_neg (by omega)]
   have:(w:Int)-first-n=(w:Int)-((first+n.toNat:Nat):Int):=by omega
   rw[this,e4]
theorem NU:∀ x∈yd,((List.range ((offs x.1 x.2).length-1)).all fun j=>decide (nth (offs x.1 x.2) j<nth (offs x.1 x.2) (j+1)) && decide ((nth (offs x.1 x.2) (j+1)-nth (offs x.1 x.2) j) % 4=0))=true∧nth (offs x.1 x.2) 0=0∧(offs x.1 x.2).all (fun y=>decide (y≤cond x.2 32 256))=true:=by decide +kernel
theorem aaw {tl:List Nat}{bks:List Int}:∀ {ls:List Int}{i j:Nat}{v:Int},sG tl bks i ls→ls[j]?=some v→It tl bks (i+j) v
 | [],i,j,v,_,h=>by simp at h
 | u::r,i,0,v,h,e=>by
  simp only[List.getElem?_cons_zero,Option.some.injEq]at e
  subst e
  exact h.1
 | u::r,i,j+1,v,h,e=>by
  have:=aaw (j:=j) h.2 (by simpa using e)
  rw[show i+(j+1)=i+1+j by omega]
  exact this
theorem aac {r:Nat}{c:aK}:∀ {k w w':Nat},Em r c k w→w≤w'→w'<w+k→sG ((offs r c.info.short).drop 1) (aq (D9 c w')) 0 (uL c w')
 | 0,w,w',_,h1,h2=>by omega
 | k+1,w,w',h,h1,h2=>by
  rcases Nat.lt_or_ge w w' with h3 | h3
  ·exact aac h.2 h3 (by omega)
  ·have:w'=w:=by omega
   subst this;exact h.1
theorem amC {os:List Nat}{b i:Nat}(hs:∀ j,j+1<os.length→nth os j<nth os (j+1)) (hb:b+1<os.length) (h1:nth os b≤i) (h2:i<nth os (b+1)):jm (os.drop 1) i=b:=by
 have hmono:∀ k j,j+k<os.length→nth os j≤nth os (j+k):=by
  intro k
  induction k with
  | zero=>intro j _;exact Nat.le_refl _
  | succ k ih =>
   intro j hj
   have a:=ih j (by omega)
   have b:=hs (j+k) (by omega)
   rw[show j+(k+1)=j+k+1 by omega];omega
 have hlen:(os.drop 1).length=os.length-1:=by simp
 rw[Ux (b:=b) (by omega) ?_]
 ·have hdd:(os.drop 1).drop b=os.drop (b+1):=by rw[List.drop_drop];congr 1;omega
  rw[hdd,my hb,jm,if_neg (by omega)];rfl
 ·intro x hx
  obtain⟨j,hj,e⟩:=List.mem_iff_getElem.1 hx
  have hj2:j<b:=by have:=hj;simp only[List.length_take]at this;omega
  rw[List.getElem_take,List.getElem_drop]at e
  have hn:nth os (1+j)=x:=by
   have h9:=qD (l:=os) (i:=1+j) (by omega)
   rw[List.getElem?_eq_getElem (by omega),e]at h9
   injection h9 with h9;exact h9.symm
  have:=hmono (b-(1+j)) (1+j) (by omega)
  rw[show 1+j+(b-(1+j))=b by omega]at this
  omega
theorem Z2 {r:Nat}{c:aK}(hc:c.Fit) (h:pV r c) (hr:r≤11) {p:Nat×Nat}(hp:p∈ow (offs r c.info.short) c.sects c.info.groups 0):(1≤p.1∧p.1≤11)∧p.2+aZ p.1≤256∧VY p.1 ((c.lines.drop p.2).take (aZ p.1)):=by
 have hm11:=lg hr h.info
 obtain⟨g1,g2⟩:=ei hm11
 obtain⟨w,g,j,l,e1,e2,e3,e4,e5,e6,x,e7,e8⟩:=ahj h.sects.2 (fun n hn=>(g1 n hn).1) hp
 obtain⟨o1,o2,o3⟩:=NU (r,c.info.short) (jV (by omega))
 simp only at o1 o2 o3
 have hmx:=h.info.2.2.2.1
 have hlm:l∈c.sects:=List.mem_of_getElem? e1
 have hbl:=mD (h.sects.2 l hlm) h.info.2.2.1
 have hjl:j<(aq l).length:=(List.getElem?_eq_some_iff.1 e5).1
 have hmy:rH r (decide (c.info.seq=2))=(offs r c.info.short).length-1:=rfl
 have hj1:j+1<(offs r c.info.short).length:=by omega
 have hoj:nth (offs r c.info.short) j<nth (offs r c.info.short) (j+1)∧(nth (offs r c.info.short) (j+1)-nth (offs r c.info.short) j) % 4=0:=by
  have:=List.all_eq_true.1 o1 j (List.mem_range.2 (by omega))
  simpa using this
 have hos:∀ k,k+1<(offs r c.info.short).length→nth (offs r c.info.short) k<nth (offs r c.info.short) (k+1):=fun k hk=>by
  have:=List.all_eq_true.1 o1 k (List.mem_range.2 (by omega))
  simp only[Bool.and_eq_true,decide_eq_true_eq]at this
  exact this.1
 have hd4:aZ p.1=4∨aZ p.1=2:=by unfold aZ;split<;>simp
 have hx:=ag7 (d:=aZ p.1) (by omega) (by rcases hd4 with h | h<;>rw[h]<;>omega) e7
 have hw:(w:Int)<c.info.many:=by omega
 have ho256:nth (offs r c.info.short) (j+1)≤cond c.info.short 32 256:=by
  have:=List.all_eq_true.1 o3 _ (nk hj1)
  simpa using this
 have hcond:(cond c.info.short 32 256:Nat)=c.info.wide:=by
  unfold aD.short aD.wide
  by_cases h:c.info.seq=2
  ·rw[decide_eq_true h,if_pos h];rfl
  ·rw[decide_eq_false h,if_neg h];rfl
 rw[hcond]at ho256
 have hww:w*32=w*c.info.wide∧w*c.info.wide+c.info.wide≤256:=by
  unfold aD.many at hw
  unfold aD.wide
  split at hw
  ·rename_i h2;rw[if_pos h2];omega
  ·rename_i h2;rw[if_neg h2];omega
 have hl:=h.lines.1
 have hle:p.2+aZ p.1≤256:=by omega
 refine⟨e6,hle,?_,fun v hv=>?_⟩
 ·rw[List.length_take,List.length_drop];omega
 ·obtain⟨k,hk,ek⟩:=List.mem_iff_getElem.1 hv
  have hk2:k<aZ p.1:=by have:=hk;simp only[List.length_take]at this;omega
  rw[List.getElem_take,List.getElem_drop]at ek
  have hf:=aac h.lines.2 (w':=w) (by omega) (by omega)
  have hwl:(uL c w)[x+k]?=some v:=by
   unfold uL
   rw[List.getElem?_take,if_pos (by omega),List.getElem?_drop,show w*c.info.wide+(x+k)=p.2+k by omega,List.getElem?_eq_getElem (by omega),ek]
  have hlo:=aaw hf hwl
  rw[Nat.zero_add]at hlo
  have hgr:jn c.info.groups w=g:=by rw[←e4];congr 1
  have hsa:D9 c w=l:=by
   unfold D9
   rw[hgr,List.getD_eq_getElem?_getD,e1];rfl
  have hba:=amC (i:=x+k) hos hj1 (by omega) (by omega)
  unfold It at hlo
  rw[hsa,hba,e5]at hlo
  rcases hlo with h0 | ⟨k',a1,a2,a3⟩
  ·subst h0;simp
  ·injection a1 with a1
   subst a1
   simpa using a3
end Go.Vm
namespace Go.Vm
set_option maxHeartbeats 2000000
set_option maxRecDepth 100000
abbrev FQ (c:aK) (os:List Nat) (q:Obj) (C:List AV) (v:AV) (T:ac):ac :=
 (0,.cells c.av)::(1,.cells C)::(2,.cells [.ptr 1 0])::(3,.cells [v])::(4,.cells c.info.cells)::(5,.cells [.d (.lst (bW c.sects))])::(6,.cells [.own false 1 (bl os)])::(7,q)::T
abbrev aqL (x0:AV):ak:=[(0,x0),(6,.ptr 0 0),(11,.ptr 2 0),(12,.ptr 3 0),(86,.fn fS [] [.ptr 5 0,.ptr 4 0,.ptr 6 0])]
abbrev KF (x0:AV):Obj:=.loop (aqL x0) [87] mG mA false none
def mi (c:aK) (p:Nat×Nat):List Nat:=GZ p.1 ((c.lines.drop p.2).take (aZ p.1))
theorem aaB {id:Nat}(hid:1≤id∧id≤11) {vs:List Int}(hv:VY id vs):1≤(GZ id vs).length∧(GZ id vs).length≤200:=by
 have hok:kB id:=by omega
 obtain⟨m1,m2,m3,m4⟩:=yx id (Uw hid)
 obtain⟨f1,f2⟩:=adc hid hv
 have hd4:aZ id≤4:=by unfold aZ;split<;>omega
 have hvl:=hv.1
 have hv8:∀ v∈vs,v.natAbs≤8191:=fun v h=>Nat.le_trans (hv.2 v h) m4
 have hmany:az id=bb id ^ dR id:=rfl
 unfold GZ
 by_cases hs:nm id=true
 ·have hin:=f1 hs
  have hlt:=DY (n:=0) (j:=0) hin.2 (by simp)
  rw[Nat.zero_add,hin.1,←hmany]at hlt
  have:=qu hok hlt
  rw[if_pos hs];omega
 ·have hin:=f2 (by simpa using hs)
  have hlt:=DY (n:=0) (j:=0) hin.2 (by simp)
  rw[Nat.zero_add,hin.1,←hmany]at hlt
  have:=qu hok hlt
  have hsl:=acV (vs:=vs)
  have hel:=Qm (id:=id) hv8
  rw[if_neg hs]
  simp only[List.length_append];omega
theorem ajA {m:Nat}{xs ys:List (List D)}(hl:xs.length+ys.length≤1000000000):∃ v,(∀ h,bF m h (aB m xs) ys=some (v,h))∧firm v=aB m (xs++ys):=by
 obtain⟨v,h1,h2⟩:=ajE (m:=m) (h:=[]) hl
 refine⟨v,fun h=>?_,h2⟩
 cases xs with
 | nil =>
  cases ys with
  | nil=>injection h1 with h1;injection h1 with h1;subst h1;rfl
  | cons y r =>
   simp only[mU,an8,Wx,aF]at h1⊢
   split at h1
   ·rename_i h9
    rw[if_pos h9]
    injection h1 with h1;injection h1 with h1;subst h1;rfl
   ·exact absurd h1 (by simp)
 | cons x r =>
  simp only[aag,agQ,Wx,agf,agl,aF]at h1⊢
  split at h1
  ·rename_i h9
   rw[if_pos h9]
   split at h1
   ·rename_i h8
    rw[if_pos h8]
    split at h1
    ·rename_i h7
     rw[if_pos h7]
     injection h1 with h1;injection h1 with h1;subst h1;rfl
    ·exact absurd h1 (by simp)
   ·exact absurd h1 (by simp)
  ·exact absurd h1 (by simp)
theorem auW (c:aK) (hl:c.lines.length=256) (os:List Nat) (x0:AV) (hx0:share x0=x0) (p:Nat×Nat) (hp:(1≤p.1∧p.1≤11)∧p.2+aZ p.1≤256∧VY p.1 ((c.lines.drop p.2).take (aZ p.1))) (C:List AV) (hC:Kv C) (acc:List Nat) (hacc:acc.length≤900000000) (K:Nat) (o:Obj) (hK:8≤K) (N:Nat) (hN:K<N) :
  aP (Dn prog) (.yield 7) [.agg [.d (.int .i64 (p.1:Int)),.d (.int .i64 (p.2:Int)),.d (.int .i64 ((p.2+aZ p.1:Nat):Int))]] ⟨FQ c os (KF x0) C (aB 1 (ah acc)) [(K,o)],N⟩=some (.d (.bool true),⟨FQ c os (KF x0) (ai C (4*p.1) (BY p.1)) (aB 1 (ah (acc++mi c p))) [(K,o)],N+1+1⟩):=by
 obtain⟨h1,h2,h3⟩:=hp
 have hH:=ald [] (by simp) .nl (.inr ⟨rfl,rfl⟩) p.1 h1 _ h3
 have hhl:=aaB h1 h3
 rw[List.nil_append]at hH
 have hsl:=fun h=>acJ (h:=h) (l:=c.lines) (a:=p.2) (b:=p.2+aZ p.1) (by omega) (by omega) (p.2:Int) ((p.2+aZ p.1:Nat):Int) rfl rfl
 simp only[Nat.add_sub_cancel_left]at hsl
 have hBk:Bk (fun C T=>FQ c os (.loop (aqL x0) [87] mG mA true none) C (aB 1 (ah acc)) ([(K,o),(N,.cells [.d (.int .i64 (p.1:Int)),.d (.int .i64 (p.2:Int)),.d (.int .i64 ((p.2+aZ p.1:Nat):Int))])]++T)) 1 (N+1):=by
  have hK0:K≠0∧K≠1∧K≠2:=by omega
  constructor
  ·intro C T;simp
  ·intro C T C';simp
  ·intro C o;simp (maxSteps:=300000) (disch:=omega) [↓if_neg]
  ·intro C o o';simp (maxSteps:=300000) (disch:=omega) [↓if_neg]
  ·intro C o;simp (maxSteps:=300000) (disch:=omega) [↓if_neg]
  ·intro C o;simp (maxSteps:=300000) (disch:=omega) [↓if_neg]
 have hB:=akS hBk C hC p.1 h1
 generalize ai C (4*p.1) (BY p.1)=C2 at *
 have hbl:(ah (mi c p)).length=(mi c p).length:=bD
 have hba:(ah acc).length=acc.length:=bD
 obtain⟨wv,hw1,hw2⟩:=ajA (m:=1) (xs:=ah acc) (ys:=ah (mi c p)) (by unfold mi;unfold mi at hbl;omega)
 have hne:ah (acc++mi c p)≠[]:=by
  intro h
  have:=congrArg List.length h
  rw[bD,List.length_append,List.length_nil]at this
  unfold mi at this
  omega
 rw[acD,iM hne]at hw2
 rw[iM hne]
 have hLB:GZ p.1 ((c.lines.drop p.2).take (aZ p.1))=mi c p:=rfl
 rw[hLB]at hH
 simp only[u6,List.append_nil]at hB hH
 simp only[FQ,aK.av,aD.cells,List.cons_append,List.nil_append,mG,mA]at hB⊢
 generalize mi c p=LB at *
 generalize (c.lines.drop p.2).take (aZ p.1)=LS at *
 generalize ((p.2+aZ p.1:Nat):Int)=TO at *
 simp (config := { maxSteps:=1000000 }) (disch:=omega) [mG,mA,↓if_pos,↓if_neg,hx0,hsl,hH,hB,hw1,hw2]
theorem ar6 (c:aK) (hl:c.lines.length=256) (os:List Nat) (x0:AV) (hx0:share x0=x0) (TOT:List Nat) (hT:TOT.length≤900000000):Q4 (fun(s:List AV×List Nat) T=>FQ c os (KF x0) s.1 (aB 1 (ah s.2)) T) noH 8 7 (fun p s=>.inl (ai s.1 (4*p.1) (BY p.1),s.2++mi c p))
  (fun r s=>Kv s.1∧s.2++r.flatMap (mi c)=TOT∧∀ p∈r,(1≤p.1∧p.1≤11)∧p.2+aZ p.1≤256∧VY p.1 ((c.lines.drop p.2).take (aZ p.1))):=by
 intro p r s K o N hi hK hN
 obtain⟨i1,i2,i3⟩:=hi
 have hp:=i3 p (.head _)
 have hal:s.2.length≤900000000:=by rw[←i2,List.length_append]at hT;omega
 refine .inl ⟨_,N+1+1,by omega,rfl,⟨akU i1 hp.1,?_,fun q hq=>i3 q (.tail _ hq)⟩,auW c hl os x0 hx0 p hp s.1 i1 s.2 hal K o hK N hN⟩
 rw[List.flatMap_cons,←List.append_assoc]at i2
 exact i2
theorem auM {c:aK}{os:List Nat}{x0:AV}:Tl (fun(s:List AV×List Nat) T=>FQ c os (KF x0) s.1 (aB 1 (ah s.2)) T) 8:=by
 constructor
 ·intro s K o h;simp (maxSteps:=300000) (disch:=omega) [↓if_neg]
 ·intro s K o o' h;simp (maxSteps:=300000) (disch:=omega) [↓if_neg]
 ·intro s K o h;simp (maxSteps:=300000) (disch:=omega) [↓if_neg]
 ·intro s K o h;simp (maxSteps:=300000) (disch:=omega) [↓if_neg]
def jM (r:Nat) (c:aK):List Nat:=(ow (offs r c.info.short) c.sects c.info.groups 0).flatMap (mi c)
abbrev K6:List AV:=[.d (.int .i64 0),.d (.int .i64 0),.nl,.nl,.d (.int .i64 0),.d (.int .i64 0),.nl,.nl,.d (.int .i64 0),.d (.int .i64 0),.nl,.nl,.d (.int .i64 0),.d (.int .i64 0),.nl,.nl,.d (.int .i64 0),.d (.int .i64 0),.nl,.nl,.d (.int .i64 0),.d (.int .i64 0),.nl,.nl,.d (.int .i64 0),.d (.int .i64 0),.nl,.nl,.d (.int .i64 0),.d (.int .i64 0),.nl,.nl,.d (.int .i64 0),.d (.int .i64 0),.nl,.nl,.d (.int .i64 0),.d (.int .i64 0),.nl,.nl,.d (.int .i64 0),.d (.int .i64 0),.nl,.nl,.d (.int .i64 0),.d (.int .i64 0),.nl,.nl]
theorem alF:Kv K6:=by
 refine⟨rfl,fun id hid=>.inl ?_⟩
 obtain rfl | rfl | rfl | rfl | rfl | rfl | rfl | rfl | rfl | rfl | rfl | rfl:id=0∨id=1∨id=2∨id=3∨id=4∨id=5∨id=6∨id=7∨id=8∨id=9∨id=10∨id=11:=by omega
 all_goals rfl
theorem alV (r:Nat) (hr:r≤11) (c:aK) (hc:c.Fit) (h:pV r c) (x0:AV) (hx0:share x0=x0) (hlen:(jM r c).length≤900000000):∃ C2 M,(Dn prog).call fS [.yield 7,.ptr 5 0,.ptr 4 0,.ptr 6 0] ⟨FQ c (offs r c.info.short) (KF x0) K6 .nl [],8⟩=some (.tup [],⟨FQ c (offs r c.info.short) (KF x0) C2 (aB 1 (ah (jM r c))) [],M⟩):=by
 obtain⟨o1,o2,o3,o4⟩:=Z5 (r,c.info.short) (jV (by omega))
 obtain⟨p1,p2,p3⟩:=NU (r,c.info.short) (jV (by omega))
 simp only at o1 o2 o3 o4 p1 p2 p3
 have hmx:=h.info.2.2.2.1
 have hmy:rH r (decide (c.info.seq=2))=(offs r c.info.short).length-1:=rfl
 have hhi:∀ x∈offs r c.info.short,x≤256:=fun x hx=>by
  have:=List.all_eq_true.1 p3 x hx
  simp only[decide_eq_true_eq]at this
  have:(cond c.info.short 32 256:Nat)≤256:=by cases c.info.short<;>decide
  omega
 have hpl:=alQ (P:=⟨7,4,6,c.sects,offs r c.info.short⟩) c.info hc.info (lg hr h.info) 5 (auM (c:=c) (os:=offs r c.info.short) (x0:=x0)) aii (ar6 c h.lines.1 (offs r c.info.short) x0 hx0 (jM r c) hlen) (fun s=>by simp) (fun s T=>by simp) (fun s T=>by simp) (by simp only[];omega) hhi (by simp only[];omega) h.sects 8 (Nat.le_refl _) (K6,[]) ⟨alF,by simp only[jM,List.nil_append],fun p hp=>Z2 hc h hr hp⟩
 rcases hpl with ⟨s2,M,hM,e1,⟨e2,e3,e4⟩,e5⟩ | ⟨z,_⟩
 ·rw[List.flatMap_nil,List.append_nil]at e3
  rw[e3]at e5
  exact⟨s2.1,M,e5⟩
 ·exact nomatch z
end Go.Vm
namespace Go.Vm
set_option maxHeartbeats 2000000
set_option maxRecDepth 100000
theorem zq {α:Type}{f:α→List Nat}{k:Nat}:∀ {l:List α},(∀ x∈l,(f x).length≤k)→(l.flatMap f).length≤k*l.length
 | [],_=>by simp
 | x::r,h=>by
  have a:=h x (.head _)
  have b:=zq (l:=r) fun y hy=>h y (.tail _ hy)
  rw[List.flatMap_cons,List.length_append,List.length_cons,Nat.mul_add];omega
theorem agm {d hi:Nat}:∀ {f x:Nat},(tD d hi f x).length≤f
 | 0,_=>by simp[tD]
 | f+1,x=>by
  rw[tD];split
  ·have:=agm (d:=d) (hi:=hi) (f:=f) (x:=x+d)
   simp only[List.length_cons];omega
  ·simp
theorem ag6 {os:List Nat}{d b:Nat}:∀ {k w:Nat},(vC os d b k w).length≤300*k
 | 0,_=>by simp[vC]
 | k+1,w=>by
  have a:=agm (d:=d) (hi:=nth os (b+1)) (f:=300) (x:=nth os b)
  have b:=ag6 (os:=os) (d:=d) (b:=b) (k:=k) (w:=w+1)
  rw[vC,List.length_append,List.length_map];omega
theorem agB {os:List Nat}{d n first:Nat}(hn:n≤8):∀ {k b:Nat},(xD os d n first k b).length≤2400*k
 | 0,_=>by simp[xD]
 | k+1,b=>by
  have a:=ag6 (os:=os) (d:=d) (b:=b) (k:=n) (w:=first)
  have c:=agB (os:=os) (d:=d) (first:=first) hn (k:=k) (b:=b+1)
  rw[xD,List.length_append];omega
theorem agO {os:List Nat}{n first:Nat}(hn:n≤8):∀ {r:List aC}{b:Nat}{lf:Int},fitsS lf r→0≤lf→(zB os n first r b).length≤2400*lf.toNat
 | [],b,lf,h,h0=>by simp[zB]
 | s::r,b,lf,h,h0=>by
  obtain⟨⟨⟨l1,l2⟩,_⟩,h2⟩:=h
  have a:=agB (os:=os) (d:=aZ s.book.toNat) (first:=first) hn (k:=s.len.toNat) (b:=b)
  have c:=agO (os:=os) (first:=first) hn (b:=b+s.len.toNat) h2 (by omega)
  rw[zB,List.length_append]
  split
  ·simp only[List.length_nil];omega
  ·rw[List.length_map];omega
theorem ahi {os:List Nat}{m:Int}(hm:0≤m∧m≤40):∀ {r:List (List aC)}{q:List Int}{first:Nat},cQ m r→(∀ n∈q,n≤8)→(ow os r q first).length≤100000*q.length
 | [],q,first,_,_=>by simp[ow]
 | l::r,[],first,_,_=>by simp[ow]
 | l::r,n::q,first,hf,hn=>by
  have h1:=hn n (.head _)
  have a:=agO (os:=os) (n:=n.toNat) (first:=first) (by omega) (b:=0) (hf l (.head _)) hm.1
  have c:=ahi (os:=os) hm (r:=r) (q:=q) (first:=first+n.toNat) (fun x hx=>hf x (.tail _ hx)) (fun x hx=>hn x (.tail _ hx))
  rw[ow,List.length_append,List.length_cons];omega
theorem U5 {r:Nat}{c:aK}(hc:c.Fit) (h:pV r c) (hr:r≤11):(jM r c).length≤160000000:=by
 have hm11:=lg hr h.info
 obtain⟨g1,g2⟩:=ei hm11
 have hmm:c.info.many≤8:=by unfold aD.many;split<;>omega
 have hgl:c.info.groups.length≤8:=by have:=lE (fun n hn=>(g1 n hn).1);omega
 have a:=ahi (os:=offs r c.info.short) (lG hm11) (first:=0) h.sects.2 fun n hn=>(g1 n hn).2
 have b:=zq (f:=mi c) (k:=200) (l:=ow (offs r c.info.short) c.sects c.info.groups 0) fun p hp=>by
  obtain⟨h1,h2,h3⟩:=Z2 hc h hr hp
  exact(aaB h1 h3).2
 unfold jM
 omega
theorem IE:∀ {g:List (List aC)}{t:List (List Int)}{w z:Int}{m:Int},0≤m∧m≤40→cQ m g→mh g t w z≠none→(nB g t w z).length≤800*g.length
 | [],[],_,_,_,_,_,_=>by simp[nB]
 | [],_::_,_,_,_,_,_,h=>absurd rfl h
 | _::_,[],_,_,_,_,_,h=>absurd rfl h
 | l::r,t::s,w,z,m,hm,hf,h=>by
  rw[mh]at h
  cases hr:b9 (aq l) t w z with
  | none=>rw[hr]at h;exact absurd rfl h
  | some fin =>
   rw[hr]at h
   have a:=Pa (bks:=aq l) (t:=t) (w:=w) (z:=z) (by rw[hr];simp)
   have b:=mD (hf l (.head _)) hm.1
   have c:=IE (g:=r) (t:=s) (w:=fin.1) (z:=fin.2) hm (fun x hx=>hf x (.tail _ hx)) h
   rw[nB,hr,List.length_append,List.length_cons]
   simp only
   omega
theorem Cg {i:aD}:(jk i).length≤20:=by
 unfold jk
 split<;>simp[ahg]
theorem ZS {i:aD}{g:List (List aC)}(hm:i.may 11) (hg:lI i g):(S4 i g).length≤600000*g.length:=by
 have hsz:1≤i.fsz∧i.fsz≤5:=by unfold aD.fsz;split<;>omega
 have hmx:=lG hm
 refine zq fun l hl=>?_
 have hf:=hg.2 l hl
 have a:=JF hsz (sc hf (by omega))
 have b:l.length≤100:=by
  rcases yU hf with h | h
  ·omega
  ·subst h;simp
 omega
def DL (r:Nat) (c:aK) (common:Bool):List Nat :=
 ae c.gain.toNat 8++((if common then [] else jk c.info)++(S4 c.info c.sects++(nB c.sects c.steps c.gain (-1)++((if QM c.tns then 0::1::(gv c.info.short c.tns++[0]) else [0,0,0])++jM r c))))
theorem aoN (b:List Nat) (hb:b.length≤300000000) (x:AV) (hx:x=.d (.lst (ah b))∨x=.nl∧b=[]) (rt:Int) (c:aK) (hc:c.Fit) (common:Bool) :
  (ef rt∧pV rt.toNat c∧aL prog qx [x,.d (.int .i64 rt),.agg c.av,.d (.bool common)]=some (.tup [.own true 1 (ah (b++DL rt.toNat c common)),.d (.int .i64 0)]))∨
  (∃ e:Int,e≠0∧aL prog cY [.d (.int .i64 rt),.agg c.av]=some (.d (.int .i64 e))∧(ef rt→¬ pV rt.toNat c)∧aL prog qx [x,.d (.int .i64 rt),.agg c.av,.d (.bool common)]=some (.tup [.nl,.d (.int .i64 e)])):=by
 have bad:∀ e:Int,e≠0→aL prog cY [.d (.int .i64 rt),.agg c.av]=some (.d (.int .i64 e))→aL prog qx [x,.d (.int .i64 rt),.agg c.av,.d (.bool common)]=some (.tup [.nl,.d (.int .i64 e)]):=by
  intro e he hC
  simp only[aK.av]at hC⊢
  rw[am ZZ BX.eq_1 rfl]
  rcases hx with rfl | ⟨rfl,rfl⟩
  all_goals simp (maxSteps:=300000) (disch:=omega) [↓if_pos,↓if_neg,hC,he]
 rcases GT rt c hc with ⟨hr,h,hC⟩ | ⟨hr,h,hC⟩ | ⟨hr,hC⟩
 ·refine .inl ⟨hr,h,?_⟩
  obtain⟨R,rfl⟩:=Int.eq_ofNat_of_zero_le hr.1
  simp only[Int.toNat_natCast]at h⊢
  have hR:R≤11:=by omega
  have hm11:=lg hR h.info
  have hmx:=lG hm11
  obtain⟨g1,g2⟩:=ei hm11
  have hmm:c.info.many≤8:=by unfold aD.many;split<;>omega
  have hgl:c.info.groups.length≤8:=by have:=lE (fun n hn=>(g1 n hn).1);omega
  have hgs:c.sects.length≤8:=by have:=h.sects.1;omega
  have k1:=Cg (i:=c.info)
  have k2:=ZS hm11 h.sects
  have k3:=IE hmx h.sects.2 h.steps
  have k4:(gv c.info.short c.tns).length≤1000*c.tns.length:=zq fun l hl=>Xu (h.tns.2 l hl)
  have k5:=U5 hc h hR
  have htl:=h.tns.1
  have hx8:(8:Int).toNat=8:=rfl
  have p1:=im b c.gain 8 (by omega) (by have:=h.gain;omega) x hx
  rw[if_pos (by have:=h.gain;simp only[gJ,hx8];omega),hx8]at p1
  obtain⟨B1,hB1⟩:∃ B1,B1=b++ae c.gain.toNat 8:=⟨_,rfl⟩
  have l1:B1.length=b.length+8:=by rw[hB1];simp
  rw[←hB1]at p1
  have p2:=adV B1 (by omega) _ (.inl rfl) R c.info hc.info
  rw[if_pos hr,Int.toNat_natCast,if_pos h.info]at p2
  obtain⟨B2,hB2⟩:∃ B2,B2=B1++(if common then [] else jk c.info):=⟨_,rfl⟩
  have l2:B2.length≤b.length+28:=by rw[hB2,List.length_append];split<;>(try simp only[List.length_nil])<;>omega
  have p3:=amg B2 (by omega) _ (.inl rfl) c.info hc.info hm11 c.sects hc.sects h.sects
  obtain⟨B3,hB3⟩:∃ B3,B3=B2++S4 c.info c.sects:=⟨_,rfl⟩
  have l3:B3.length≤b.length+5000000:=by rw[hB3,List.length_append];omega
  rw[←hB3]at p3
  have p4:=ajx B3 (by omega) _ (.inl rfl) c.gain c.info.max c.sects c.steps h.gain hgs hmx h.sects.2 hc.sects.2 h.steps fun l hl=>by have:=hc.steps.2 l hl;omega
  obtain⟨B4,hB4⟩:∃ B4,B4=B3++nB c.sects c.steps c.gain (-1):=⟨_,rfl⟩
  have l4:B4.length≤b.length+6000000:=by rw[hB4,List.length_append];omega
  rw[←hB4]at p4
  have p5:=ac8 c.tns (by omega) fun l hl=>by have:=(hc.tns.2 l hl).1;omega
  have p6:=afl (B4++[0,1]) (by simp;omega) _ (.inl rfl) c.info hc.info hm11 c.tns h.tns fun l hl f hf=>(hc.fltI l hl f hf).2
  obtain⟨B5,hB5⟩:∃ B5,B5=B4++(if QM c.tns then 0::1::(gv c.info.short c.tns++[0]) else [0,0,0]):=⟨_,rfl⟩
  have l5:B5.length≤b.length+7000000:=by rw[hB5,List.length_append];split<;>simp<;>omega
  have hfin:b++DL R c common=B5++jM R c:=by rw[hB5,hB4,hB3,hB2,hB1];simp only[DL,List.append_assoc]
  obtain⟨C2,M,p7⟩:=alV R hR c hc h (.d (.lst (ah B5))) rfl (by omega)
  have p8:=ahJ R hR c.info (.lst (bW c.sects)) [(0,.cells c.av),(1,.cells K6),(2,.cells [.ptr 1 0]),(3,.cells [.nl])] 4 (fun p hp=>by
   simp only[List.mem_cons,List.not_mem_nil,or_false]at hp
   rcases hp with rfl | rfl | rfl | rfl<;>simp only[]<;>omega)
  rw[hfin]
  have hbl:(ah (jM R c)).length=(jM R c).length:=bD
  have hb5:(ah B5).length=B5.length:=bD
  have hb4:(ah B4).length=B4.length:=bD
  have hb01:ah B4++[[D.int .u8 0],[D.int .u8 1]]=ah (B4++[0,1]):=by simp[ah]
  have hb000:ah B4++[[D.int .u8 0],[D.int .u8 0],[D.int .u8 0]]=ah (B4++[0,0,0]):=by simp[ah]
  have hb6:ah (B4++[0,1]++gv c.info.short c.tns)++[[D.int .u8 0]]=ah (B4++[0,1]++gv c.info.short c.tns++[0]):=by simp[ah]
  have hl6n:(B4++[0,1]++gv c.info.short c.tns).length≤400000000:=by simp;omega
  have hl6:(ah (B4++[0,1]++gv c.info.short c.tns)).length≤400000000:=by rw[bD];simp;omega
  simp only[FQ,aK.av,aD.cells,List.cons_append,List.nil_append]at hC p2 p3 p4 p6 p7 p8⊢
  rw[am ZZ BX.eq_1 rfl]
  cases hcm:common with
  | true =>
   rw[hcm]at hB2
   simp only[if_true,List.append_nil]at hB2
   subst hB2
   cases haf:QM c.tns with
   | true =>
    rw[haf]at hB5 p5
    simp only[if_true]at hB5
    have e5:B4++[0,1]++gv c.info.short c.tns++[0]=B5:=by rw[hB5];simp
    rw[e5]at hb6
    generalize jM R c=LL at *
    generalize B4++[0,1]++gv c.info.short c.tns=B6 at *
    generalize B4++[0,1]=B7 at *
    rcases hx with rfl | ⟨rfl,rfl⟩
    ·simp (config := { maxSteps:=1000000 }) (disch:=omega) [↓if_pos,↓if_neg,rd,hC,p1,p3,p4,p5,p6,hb01,hb6,hb000,p8,p7]
     try omega
    ·simp (config := { maxSteps:=1000000 }) (disch:=omega) [↓if_pos,↓if_neg,rd,hC,p1,p3,p4,p5,p6,hb01,hb6,hb000,p8,p7]
     try omega
   | false =>
    rw[haf]at hB5 p5
    simp only[Bool.false_eq_true,if_false]at hB5
    rw[←hB5]at hb000
    generalize jM R c=LL at *
    generalize B4++[0,1]++gv c.info.short c.tns=B6 at *
    generalize B4++[0,1]=B7 at *
    rcases hx with rfl | ⟨rfl,rfl⟩
    ·simp (config := { maxSteps:=1000000 }) (disch:=omega) [↓if_pos,↓if_neg,rd,hC,p1,p3,p4,p5,p6,hb01,hb6,hb000,p8,p7]
     try omega
    ·simp (config := { maxSteps:=1000000 }) (disch:=omega) [↓if_pos,↓if_neg,rd,hC,p1,p3,p4,p5,p6,hb01,hb6,hb000,p8,p7]
     try omega
  | false =>
   rw[hcm]at hB2
   simp only[Bool.false_eq_true,if_false]at hB2
   rw[←hB2]at p2
   cases haf:QM c.tns with
   | true =>
    rw[haf]at hB5 p5
    simp only[if_true]at hB5
    have e5:B4++[0,1]++gv c.info.short c.tns++[0]=B5:=by rw[hB5];simp
    rw[e5]at hb6
    generalize jM R c=LL at *
    generalize B4++[0,1]++gv c.info.short c.tns=B6 at *
    generalize B4++[0,1]=B7 at *
    rcases hx with rfl | ⟨rfl,rfl⟩
    ·simp (config := { maxSteps:=1000000 }) (disch:=omega) [↓if_pos,↓if_neg,rd,hC,p1,p2,p3,p4,p5,p6,hb01,hb6,hb000,p8,p7]
     try omega
    ·simp (config := { maxSteps:=1000000 }) (disch:=omega) [↓if_pos,↓if_neg,rd,hC,p1,p2,p3,p4,p5,p6,hb01,hb6,hb000,p8,p7]
     try omega
   | false =>
    rw[haf]at hB5 p5
    simp only[Bool.false_eq_true,if_false]at hB5
    rw[←hB5]at hb000
    generalize jM R c=LL at *
    generalize B4++[0,1]++gv c.info.short c.tns=B6 at *
    generalize B4++[0,1]=B7 at *
    rcases hx with rfl | ⟨rfl,rfl⟩
    ·simp (config := { maxSteps:=1000000 }) (disch:=omega) [↓if_pos,↓if_neg,rd,hC,p1,p2,p3,p4,p5,p6,hb01,hb6,hb000,p8,p7]
     try omega
    ·simp (config := { maxSteps:=1000000 }) (disch:=omega) [↓if_pos,↓if_neg,rd,hC,p1,p2,p3,p4,p5,p6,hb01,hb6,hb000,p8,p7]
     try omega
 ·exact .inr ⟨8,by omega,hC,fun _=>h,bad 8 (by omega) hC⟩
 ·exact .inr ⟨2,by omega,hC,fun h=>absurd h hr,bad 2 (by omega) hC⟩
end Go.Vm
namespace Go.Vm
set_option maxHeartbeats 2000000
set_option maxRecDepth 100000
structure acp (c:aK):Prop where
 groups:c.info.groups.length≤40
 sects:c.sects.length≤40∧∀ l∈c.sects,l.length≤100
 steps:c.steps.length≤40∧∀ l∈c.steps,l.length≤200
 tns:c.tns.length≤40∧∀ l∈c.tns,l.length≤20∧∀ f∈l,f.coefs.length≤100
 lines:c.lines.length≤2000
theorem alf (c:aK) (hl:c.sects.length≤40):∀ (r:List (List aC)) (i:Nat),c.sects.drop i=r→
  ((∀ l∈r,l.length≤100)∧(Dn prog).code (.loop bX) ⟨[(1,.ptr 0 0),(3,.d (.int .i64 i))],⟨[(0,.cells c.av)],1⟩⟩=some (.exit 0,⟨[(1,.ptr 0 0)],⟨[(0,.cells c.av)],1⟩⟩))∨
  (Dn prog).code (.loop bX) ⟨[(1,.ptr 0 0),(3,.d (.int .i64 i))],⟨[(0,.cells c.av)],1⟩⟩=some (.ret,⟨[(2,.d (.bool true))],⟨[],1⟩⟩):=by
 intro r
 induction r with
 | nil =>
  intro i hd
  have hi:=an hd
  refine .inl ⟨by simp,?_⟩
  rw[aa bX.eq_1]
  simp (maxSteps:=300000) (disch:=omega) [↓if_neg]
 | cons l r ih =>
  intro i hd
  have hg:=iI hd
  have hlt:=ax hd
  have hd1:c.sects.drop (i+1)=r:=by rw[←List.tail_drop,hd];rfl
  have ih1:=ih (i+1) hd1
  rw[show ((i+1:Nat):Int)=(i:Int)+1 from rfl]at ih1
  by_cases hn:l.length≤100
  ·rcases ih1 with ⟨ha,e⟩ | e
   ·refine .inl ⟨fun q hq=>?_,?_⟩
    ·rcases List.mem_cons.1 hq with rfl | hq
     ·exact hn
     ·exact ha q hq
    ·rw[aa bX.eq_1]
     simp (maxSteps:=300000) (disch:=omega) [↓if_pos,↓if_neg,hg,e]
   ·refine .inr ?_
    rw[aa bX.eq_1]
    simp (maxSteps:=300000) (disch:=omega) [↓if_pos,↓if_neg,hg,e]
  ·refine .inr ?_
   rw[aa bX.eq_1]
   simp (maxSteps:=300000) (disch:=omega) [↓if_pos,↓if_neg,hg]
theorem aml (c:aK) (hl:c.steps.length≤40):∀ (r:List (List Int)) (i:Nat),c.steps.drop i=r→
  ((∀ l∈r,l.length≤200)∧(Dn prog).code (.loop bY) ⟨[(1,.ptr 0 0),(4,.d (.int .i64 i))],⟨[(0,.cells c.av)],1⟩⟩=some (.exit 2,⟨[(1,.ptr 0 0)],⟨[(0,.cells c.av)],1⟩⟩))∨
  (Dn prog).code (.loop bY) ⟨[(1,.ptr 0 0),(4,.d (.int .i64 i))],⟨[(0,.cells c.av)],1⟩⟩=some (.ret,⟨[(2,.d (.bool true))],⟨[],1⟩⟩):=by
 intro r
 induction r with
 | nil =>
  intro i hd
  have hi:=an hd
  refine .inl ⟨by simp,?_⟩
  rw[aa bY.eq_1]
  simp (maxSteps:=300000) (disch:=omega) [↓if_neg]
 | cons l r ih =>
  intro i hd
  have hg:=vZ hd
  have hlt:=ax hd
  have hd1:c.steps.drop (i+1)=r:=by rw[←List.tail_drop,hd];rfl
  have ih1:=ih (i+1) hd1
  rw[show ((i+1:Nat):Int)=(i:Int)+1 from rfl]at ih1
  by_cases hn:l.length≤200
  ·rcases ih1 with ⟨ha,e⟩ | e
   ·refine .inl ⟨fun q hq=>?_,?_⟩
    ·rcases List.mem_cons.1 hq with rfl | hq
     ·exact hn
     ·exact ha q hq
    ·rw[aa bY.eq_1]
     simp (maxSteps:=300000) (disch:=omega) [↓if_pos,↓if_neg,hg,e]
   ·refine .inr ?_
    rw[aa bY.eq_1]
    simp (maxSteps:=300000) (disch:=omega) [↓if_pos,↓if_neg,hg,e]
  ·refine .inr ?_
   rw[aa bY.eq_1]
   simp (maxSteps:=300000) (disch:=omega) [↓if_pos,↓if_neg,hg]
theorem ak0 (c:aK) (w:Nat) (full:List aV) (q:List (List aV)) (hw:c.tns.drop w=full::q) (hl:full.length≤20):∀ (r:List aV) (i:Nat),full.drop i=r→
  ((∀ f∈r,f.coefs.length≤100)∧(Dn prog).code (.loop bZ) ⟨[(1,.ptr 0 0),(5,.d (.int .i64 w)),(6,.d (.int .i64 i))],⟨[(0,.cells c.av)],1⟩⟩=some (.exit 6,⟨[(1,.ptr 0 0),(5,.d (.int .i64 w))],⟨[(0,.cells c.av)],1⟩⟩))∨
  (Dn prog).code (.loop bZ) ⟨[(1,.ptr 0 0),(5,.d (.int .i64 w)),(6,.d (.int .i64 i))],⟨[(0,.cells c.av)],1⟩⟩=some (.ret,⟨[(2,.d (.bool true))],⟨[],1⟩⟩):=by
 have hg1:=ku hw
 have hw1:=ax hw
 intro r
 induction r with
 | nil =>
  intro i hd
  have hi:=an hd
  refine .inl ⟨by simp,?_⟩
  rw[aa bZ.eq_1]
  simp (maxSteps:=300000) (disch:=omega) [↓if_neg,↓if_pos,hg1]
 | cons l r ih =>
  intro i hd
  have hg:=qd hd
  have hlt:=ax hd
  have hd1:full.drop (i+1)=r:=by rw[←List.tail_drop,hd];rfl
  have ih1:=ih (i+1) hd1
  rw[show ((i+1:Nat):Int)=(i:Int)+1 from rfl]at ih1
  by_cases hn:l.coefs.length≤100
  ·rcases ih1 with ⟨ha,e⟩ | e
   ·refine .inl ⟨fun q hq=>?_,?_⟩
    ·rcases List.mem_cons.1 hq with rfl | hq
     ·exact hn
     ·exact ha q hq
    ·rw[aa bZ.eq_1]
     simp (maxSteps:=300000) (disch:=omega) [↓if_pos,↓if_neg,hg,hg1,e]
   ·refine .inr ?_
    rw[aa bZ.eq_1]
    simp (maxSteps:=300000) (disch:=omega) [↓if_pos,↓if_neg,hg,hg1,e]
  ·refine .inr ?_
   rw[aa bZ.eq_1]
   simp (maxSteps:=300000) (disch:=omega) [↓if_pos,↓if_neg,hg,hg1]
theorem amn (c:aK) (hl:c.tns.length≤40):∀ (r:List (List aV)) (i:Nat),c.tns.drop i=r→
  ((∀ l∈r,l.length≤20∧∀ f∈l,f.coefs.length≤100)∧(Dn prog).code (.loop bB) ⟨[(1,.ptr 0 0),(5,.d (.int .i64 i))],⟨[(0,.cells c.av)],1⟩⟩=some (.exit 4,⟨[],⟨[],1⟩⟩))∨
  (Dn prog).code (.loop bB) ⟨[(1,.ptr 0 0),(5,.d (.int .i64 i))],⟨[(0,.cells c.av)],1⟩⟩=some (.ret,⟨[(2,.d (.bool true))],⟨[],1⟩⟩):=by
 intro r
 induction r with
 | nil =>
  intro i hd
  have hi:=an hd
  refine .inl ⟨by simp,?_⟩
  rw[aa bB.eq_1]
  simp (maxSteps:=300000) (disch:=omega) [↓if_neg]
 | cons l r ih =>
  intro i hd
  have hg:=ku hd
  have hlt:=ax hd
  have hd1:c.tns.drop (i+1)=r:=by rw[←List.tail_drop,hd];rfl
  have ih1:=ih (i+1) hd1
  rw[show ((i+1:Nat):Int)=(i:Int)+1 from rfl]at ih1
  by_cases hn:l.length≤20
  ·rcases ak0 c i l r hd hn l 0 rfl with ⟨h2,e2⟩ | e2
   ·rw[show ((0:Nat):Int)=0 from rfl]at e2
    rcases ih1 with ⟨ha,e⟩ | e
    ·refine .inl ⟨fun q hq=>?_,?_⟩
     ·rcases List.mem_cons.1 hq with rfl | hq
      ·exact⟨hn,h2⟩
      ·exact ha q hq
     ·rw[aa bB.eq_1]
      simp (maxSteps:=300000) (disch:=omega) [↓if_pos,↓if_neg,hg,e2,e]
    ·refine .inr ?_
     rw[aa bB.eq_1]
     simp (maxSteps:=300000) (disch:=omega) [↓if_pos,↓if_neg,hg,e2,e]
   ·refine .inr ?_
    rw[show ((0:Nat):Int)=0 from rfl]at e2
    rw[aa bB.eq_1]
    simp (maxSteps:=300000) (disch:=omega) [↓if_pos,↓if_neg,hg,e2]
  ·refine .inr ?_
   rw[aa bB.eq_1]
   simp (maxSteps:=300000) (disch:=omega) [↓if_pos,↓if_neg,hg]
theorem asd (c:aK):(acp c∧aL prog gQ [.agg c.av]=some (.d (.bool false)))∨aL prog gQ [.agg c.av]=some (.d (.bool true)):=by
 by_cases h1:c.info.groups.length≤40
 rotate_left
 ·refine .inr ?_
  rw[am bL bc.eq_1 rfl]
  simp (maxSteps:=300000) (disch:=omega) [↓if_pos,↓if_neg]
 by_cases h2:c.sects.length≤40
 rotate_left
 ·refine .inr ?_
  rw[am bL bc.eq_1 rfl]
  simp (maxSteps:=300000) (disch:=omega) [↓if_pos,↓if_neg]
 by_cases h3:c.steps.length≤40
 rotate_left
 ·refine .inr ?_
  rw[am bL bc.eq_1 rfl]
  simp (maxSteps:=300000) (disch:=omega) [↓if_pos,↓if_neg]
 by_cases h4:c.tns.length≤40
 rotate_left
 ·refine .inr ?_
  rw[am bL bc.eq_1 rfl]
  simp (maxSteps:=300000) (disch:=omega) [↓if_pos,↓if_neg]
 by_cases h5:c.lines.length≤2000
 rotate_left
 ·refine .inr ?_
  rw[am bL bc.eq_1 rfl]
  simp (maxSteps:=300000) (disch:=omega) [↓if_pos,↓if_neg]
 rcases alf c h2 _ 0 rfl with ⟨a0,e0⟩ | e0
 rotate_left
 ·refine .inr ?_
  rw[show ((0:Nat):Int)=0 from rfl]at e0
  rw[am bL bc.eq_1 rfl]
  simp (maxSteps:=300000) (disch:=omega) [↓if_pos,↓if_neg,e0]
 rcases aml c h3 _ 0 rfl with ⟨a1,e1⟩ | e1
 rotate_left
 ·refine .inr ?_
  rw[show ((0:Nat):Int)=0 from rfl]at e0 e1
  rw[am bL bc.eq_1 rfl]
  simp (maxSteps:=300000) (disch:=omega) [↓if_pos,↓if_neg,e0,e1]
 rcases amn c h4 _ 0 rfl with ⟨a3,e3⟩ | e3
 rotate_left
 ·refine .inr ?_
  rw[show ((0:Nat):Int)=0 from rfl]at e0 e1 e3
  rw[am bL bc.eq_1 rfl]
  simp (maxSteps:=300000) (disch:=omega) [↓if_pos,↓if_neg,e0,e1,e3]
 refine .inl ⟨⟨h1,⟨h2,a0⟩,⟨h3,a1⟩,⟨h4,a3⟩,h5⟩,?_⟩
 rw[show ((0:Nat):Int)=0 from rfl]at e0 e1 e3
 rw[am bL bc.eq_1 rfl]
 simp (maxSteps:=300000) (disch:=omega) [↓if_pos,↓if_neg,e0,e1,e3]
end Go.Vm
namespace Go.Vm
set_option maxHeartbeats 2000000
set_option maxRecDepth 100000
theorem mu {m:Nat}{xs:List (List D)}{y:List D}:aB m (xs++[y])=.own false m (xs++[y]):=by cases xs<;>rfl
@[simp ↓ high] theorem auT {m:Nat}{xs:List (List D)}:au (aB m xs)=true:=by cases xs<;>rfl
@[simp ↓ high] theorem avZ {m:Nat}{xs:List (List D)}:eM (aB m xs)=aB m xs:=by cases xs<;>rfl
def roC:AV→Bool
 | .d _=>true
 | .nl=>true
 | .own _ _ _=>true
 | _=>false
@[simp] theorem axp {x:D}:roC (.d x)=true:=rfl
@[simp] theorem axO {m:Nat}{xs:List (List D)}:roC (aB m xs)=true:=by cases xs<;>rfl
theorem Z1 {h:ac}:∀ {cs:List AV},cs.all roC=true→i5 h cs=some (cs,h)
 | [],_=>rfl
 | v::r,hc=>by
  simp only[List.all_cons,Bool.and_eq_true]at hc
  have h1:eZ h v=some (v,h):=by cases v<;>first | rfl | exact absurd hc.1 (by simp[roC])
  rw[i5,h1]
  simp only[Z1 hc.2]
theorem Yq {v:AV}:eM (iq v)=eM v:=by cases v<;>rfl
theorem anI {v:AV}:nJ (gq v)=nJ v:=by
 cases v with
 | agg cs=>simp only[gq,nJ,List.map_map];congr 1;exact List.map_congr_left fun x _=>Yq
 | _=>first | rfl | exact Yq
theorem aoF {v:AV}:firm (df v)=firm v:=by
 unfold df
 split
 ·cases v with
  | agg cs=>simp only[f9,gq,firm,List.map_map];congr 1;exact List.map_congr_left fun x _=>Yq
  | tup cs=>simp only[f9,firm,List.map_map];congr 1;exact List.map_congr_left fun x _=>anI
  | _=>rfl
 ·rfl
theorem Jd {cs:List AV}(hc:cs.all roC=true):∃ v,(∀ h,d9 h (.agg cs)=some v)∧firm v=firm (.agg cs):=by
 refine⟨df (.agg cs),fun h=>?_,aoF⟩
 simp only[d9,dB,Z1 hc]
@[simp] theorem alr:∀ {l:List aC},cq 2 (ge l)=true
 | []=>rfl
 | s::r=>by have:=alr (l:=r);simp only[cq,ge,List.map_cons,List.all_cons]at this⊢;rw[this];rfl
theorem yW {m:Nat}{ys:List (List D)}(hl:ys.length≤1000000000):∃ v,(∀ h,bF m h .nl ys=some (v,h))∧firm v=aB m ys:=by
 have:=ajA (m:=m) (xs:=[]) (ys:=ys) (by simpa using hl)
 simpa only[mU,List.nil_append] using this
theorem aqS (i:aD) (hi:i.groups.length≤1000):∃ v,aL prog kK [.agg i.cells]=some v∧firm v=.agg [.d (.int .u8 i.seq),.d (.int .u8 i.shape),.d (.int .i64 i.max),aB 1 (aI i.groups)]:=by
 obtain⟨w,w1,w2⟩:=yW (m:=1) (ys:=aI i.groups) (by rw[bq];omega)
 obtain⟨v,e1,e2⟩:=Jd (cs:=[.d (.int .u8 i.seq),.d (.int .u8 i.shape),.d (.int .i64 i.max),aB 1 (aI i.groups)]) (by simp)
 refine⟨v,?_,by rw[e2];simp⟩
 simp only[aD.cells]
 rw[am F6 kP.eq_1 rfl]
 simp (maxSteps:=300000) (disch:=omega) [↓if_pos,↓if_neg,w1,w2,e1]
theorem ahO {g:List (List aC)}{l:List aC}:bW (g++[l])=bW g++[[.lst (ge l)]]:=by simp[bW]
theorem ahv {t:List (List Int)}{l:List Int}:cT (t++[l])=cT t++[[.lst (aI l)]]:=by simp[cT]
theorem ait {t:List (List aV)}{l:List aV}:dw (t++[l])=dw t++[[.lst (cG l)]]:=by simp[dw]
theorem aiZ {t:List aV}{f:aV}:cG (t++[f])=cG t++[[.int .i64 f.len,.int .i64 f.order,.bool f.down,.bool f.fine,.lst (aI f.coefs)]]:=by simp[cG,aV.cells]
abbrev Ii (c:aK) (z:List AV) (a0 a1 a2 a3 G S T F L:AV):ac:=[(0,.cells c.av),(1,.cells z),(2,.cells [a0,a1,a2,a3,G,S,T,F,L])]
theorem ajv (c:aK) (hf:c.Fit) (z:List AV) (a0 a1 a2 a3 G T F L:AV):∀ (r:List (List aC)) (i:Nat) (acc:List (List aC)),c.sects.drop i=r→acc.length≤i→
  (Dn prog).code (.loop fI) ⟨[(1,.ptr 0 0),(2,.ptr 1 0),(3,.ptr 2 0),(4,.d (.int .i64 i))],⟨Ii c z a0 a1 a2 a3 G (aB 1 (bW acc)) T F L,3⟩⟩ =
  some (.exit 0,⟨[(1,.ptr 0 0),(2,.ptr 1 0),(3,.ptr 2 0)],⟨Ii c z a0 a1 a2 a3 G (aB 1 (bW (acc++r))) T F L,3⟩⟩):=by
 have hl:=hf.sects
 intro r
 induction r with
 | nil =>
  intro i acc hd ha
  have hi:=an hd
  rw[aa fI.eq_1]
  simp (maxSteps:=300000) (disch:=omega) [↓if_pos,↓if_neg]
 | cons l r ih =>
  intro i acc hd ha
  have hg:=iI hd
  have hlt:=ax hd
  have hll:=hl.2 l (List.mem_of_mem_drop (by rw[hd];exact .head _))
  obtain⟨w,w1,w2⟩:=yW (m:=2) (ys:=ge l) (by rw[alO];omega)
  have h5:=ih (i+1) (acc++[l]) (ar hd) (by simp;omega)
  have c1:((i+1:Nat):Int)=(i:Int)+1:=rfl
  have hal:=aj6 (g:=acc)
  have hl1:=hl.1
  rw[c1,List.append_assoc]at h5
  rw[aa fI.eq_1,show acc++l::r=acc++([l]++r) from rfl,←h5,ahO,mu]
  simp (maxSteps:=300000) (disch:=omega) [↓if_pos,↓if_neg,hg,w1,w2]
theorem ajU (c:aK) (hf:c.Fit) (z:List AV) (a0 a1 a2 a3 G S F L:AV):∀ (r:List (List Int)) (i:Nat) (acc:List (List Int)),c.steps.drop i=r→acc.length≤i→
  (Dn prog).code (.loop fO) ⟨[(1,.ptr 0 0),(2,.ptr 1 0),(3,.ptr 2 0),(5,.d (.int .i64 i))],⟨Ii c z a0 a1 a2 a3 G S (aB 1 (cT acc)) F L,3⟩⟩ =
  some (.exit 2,⟨[(1,.ptr 0 0),(2,.ptr 1 0),(3,.ptr 2 0)],⟨Ii c z a0 a1 a2 a3 G S (aB 1 (cT (acc++r))) F L,3⟩⟩):=by
 have hl:=hf.steps
 intro r
 induction r with
 | nil =>
  intro i acc hd ha
  have hi:=an hd
  rw[aa fO.eq_1]
  simp (maxSteps:=300000) (disch:=omega) [↓if_pos,↓if_neg]
 | cons l r ih =>
  intro i acc hd ha
  have hg:=vZ hd
  have hlt:=ax hd
  have hll:=hl.2 l (List.mem_of_mem_drop (by rw[hd];exact .head _))
  obtain⟨w,w1,w2⟩:=yW (m:=1) (ys:=aI l) (by rw[bq];omega)
  have h5:=ih (i+1) (acc++[l]) (ar hd) (by simp;omega)
  have c1:((i+1:Nat):Int)=(i:Int)+1:=rfl
  have hal:=aiY (t:=acc)
  have hl1:=hl.1
  rw[c1,List.append_assoc]at h5
  rw[aa fO.eq_1,show acc++l::r=acc++([l]++r) from rfl,←h5,ahv,mu]
  simp (maxSteps:=300000) (disch:=omega) [↓if_pos,↓if_neg,hg,w1,w2]
end Go.Vm
namespace Go.Vm
set_option maxHeartbeats 2000000
set_option maxRecDepth 100000
theorem ai0 (c:aK) (hf:c.Fit) (z:List AV) (a0 a1 a2 a3 G S T F L:AV) (w:Nat) (full:List aV) (q:List (List aV)) (hw:c.tns.drop w=full::q):∀ (r:List aV) (i N:Nat) (acc:List aV),full.drop i=r→acc.length≤i→3≤N→
  (Dn prog).code (.loop fL) ⟨[(1,.ptr 0 0),(2,.ptr 1 0),(3,.ptr 2 0),(6,.d (.int .i64 w)),(7,aB 5 (cG acc)),(8,.d (.int .i64 i))],⟨Ii c z a0 a1 a2 a3 G S T F L,N⟩⟩ =
  some (.exit 6,⟨[(1,.ptr 0 0),(2,.ptr 1 0),(3,.ptr 2 0),(6,.d (.int .i64 w)),(7,aB 5 (cG (acc++r)))],⟨Ii c z a0 a1 a2 a3 G S T F L,N+r.length⟩⟩):=by
 have hl:=hf.tns
 have hg1:=ku hw
 have hw1:=ax hw
 have hfl:=hl.2 full (List.mem_of_mem_drop (by rw[hw];exact .head _))
 intro r
 induction r with
 | nil =>
  intro i N acc hd ha hN
  have hi:=an hd
  rw[aa fL.eq_1]
  simp (maxSteps:=300000) (disch:=omega) [↓if_pos,↓if_neg,hg1]
 | cons f r ih =>
  intro i N acc hd ha hN
  have hg:=qd hd
  have hlt:=ax hd
  have hll:=hfl.2 f (List.mem_of_mem_drop (by rw[hd];exact .head _))
  obtain⟨v,w1,w2⟩:=yW (m:=1) (ys:=aI f.coefs) (by rw[bq];omega)
  have h5:=ih (i+1) (N+1) (acc++[f]) (ar hd) (by simp;omega) (by omega)
  have c1:((i+1:Nat):Int)=(i:Int)+1:=rfl
  have hal:=adt (l:=acc)
  have hl1:=hl.1
  rw[c1,List.append_assoc,Nat.add_assoc,Nat.add_comm 1]at h5
  rw[aa fL.eq_1,show acc++f::r=acc++([f]++r) from rfl,List.length_cons,←h5,aiZ,mu]
  simp (maxSteps:=300000) (disch:=omega) [↓if_pos,↓if_neg,hg,hg1,w1,w2]
theorem aky (c:aK) (hf:c.Fit) (z:List AV) (a0 a1 a2 a3 G S T L:AV):∀ (r:List (List aV)) (i N:Nat) (acc:List (List aV)),c.tns.drop i=r→acc.length≤i→3≤N→
  ∃ M,(Dn prog).code (.loop fM) ⟨[(1,.ptr 0 0),(2,.ptr 1 0),(3,.ptr 2 0),(6,.d (.int .i64 i))],⟨Ii c z a0 a1 a2 a3 G S T (aB 1 (dw acc)) L,N⟩⟩ =
  some (.exit 4,⟨[(2,.ptr 1 0),(3,.ptr 2 0)],⟨[(1,.cells z),(2,.cells [a0,a1,a2,a3,G,S,T,aB 1 (dw (acc++r)),L])],M⟩⟩):=by
 have hl:=hf.tns
 intro r
 induction r with
 | nil =>
  intro i N acc hd ha hN
  have hi:=an hd
  refine⟨N,?_⟩
  rw[aa fM.eq_1]
  simp (maxSteps:=300000) (disch:=omega) [↓if_pos,↓if_neg]
 | cons l r ih =>
  intro i N acc hd ha hN
  have hg:=ku hd
  have hlt:=ax hd
  have hll:=hl.2 l (List.mem_of_mem_drop (by rw[hd];exact .head _))
  have h2:=ai0 c hf z a0 a1 a2 a3 G S T (aB 1 (dw acc)) L i l r hd l 0 N [] rfl (Nat.le_refl _) hN
  obtain⟨M,h5⟩:=ih (i+1) (N+l.length) (acc++[l]) (ar hd) (by simp;omega) (by omega)
  refine⟨M,?_⟩
  have c1:((i+1:Nat):Int)=(i:Int)+1:=rfl
  have c0:((0:Nat):Int)=0:=rfl
  have n0:cG []=[]:=rfl
  have hal:=ajR (t:=acc)
  have hl1:=hl.1
  rw[c0,n0,mU,List.nil_append]at h2
  rw[c1,List.append_assoc]at h5
  rw[aa fM.eq_1,show acc++l::r=acc++([l]++r) from rfl,←h5,ait,mu]
  simp (maxSteps:=300000) (disch:=omega) [↓if_pos,↓if_neg,hg,h2]
abbrev aK.tw (c:aK):List AV:=[.d (.int .i64 c.gain),.d (.int .u8 c.info.seq),.d (.int .u8 c.info.shape),.d (.int .i64 c.info.max),aB 1 (aI c.info.groups),aB 1 (bW c.sects),aB 1 (cT c.steps),aB 1 (dw c.tns),aB 1 (aI c.lines)]
theorem aqY (c:aK) (hf:c.Fit):∃ v,aL prog kA [.agg c.av]=some v∧firm v=.agg c.tw:=by
 obtain⟨v,e1,e2⟩:=Jd (cs:=c.tw) (by simp)
 refine⟨v,?_,by rw[e2];simp⟩
 obtain⟨t,t1,t2⟩:=aqS c.info (hf.info.len)
 obtain⟨w,w1,w2⟩:=yW (m:=1) (ys:=aI c.lines) (by have:=hf.lines;rw[bq];omega)
 have h0:=fun z L=>ajv c hf z (.d (.int .i64 c.gain)) (.d (.int .u8 c.info.seq)) (.d (.int .u8 c.info.shape)) (.d (.int .i64 c.info.max)) (aB 1 (aI c.info.groups)) .nl .nl L c.sects 0 [] rfl (Nat.le_refl _)
 have h1:=fun z S L=>ajU c hf z (.d (.int .i64 c.gain)) (.d (.int .u8 c.info.seq)) (.d (.int .u8 c.info.shape)) (.d (.int .i64 c.info.max)) (aB 1 (aI c.info.groups)) S .nl L c.steps 0 [] rfl (Nat.le_refl _)
 have h3:=fun z S T L=>aky c hf z (.d (.int .i64 c.gain)) (.d (.int .u8 c.info.seq)) (.d (.int .u8 c.info.shape)) (.d (.int .i64 c.info.max)) (aB 1 (aI c.info.groups)) S T L c.tns 0 3 [] rfl (Nat.le_refl _) (Nat.le_refl _)
 have c0:((0:Nat):Int)=0:=rfl
 have n0:bW []=[]:=rfl
 have n1:cT []=[]:=rfl
 have n2:dw []=[]:=rfl
 simp only[c0,n0,n1,n2,mU,List.nil_append]at h0 h1 h3
 obtain⟨M,h3⟩:=h3 [.d (.int .i64 0),.d (.int .u8 0),.d (.int .u8 0),.d (.int .i64 0),.nl,.nl,.nl,.nl,.nl] (aB 1 (bW c.sects)) (aB 1 (cT c.steps)) (aB 1 (aI c.lines))
 simp only[aK.av,aK.tw,aD.cells,Ii]at t1 h0 h1 h3 e1⊢
 rw[am Gr kI.eq_1 rfl]
 simp (maxSteps:=300000) (disch:=omega) [↓if_pos,↓if_neg,-au,t1,t2,w1,w2,h0,h1,h3,e1]
end Go.Vm
namespace Go.Vm
set_option maxHeartbeats 2000000
set_option maxRecDepth 100000
def c0:aK:=⟨0,⟨0,0,0,[1]⟩,[[]],[[]],[[]],List.replicate 256 0⟩
theorem aiP:c0.Fit where
 gain:=by decide
 info:=⟨by decide,by decide,by decide,by decide,by intro n hn;simp[c0]at hn;subst hn;decide⟩
 sects:=⟨by simp[c0],by simp[c0]⟩
 secI:=by simp[c0]
 steps:=⟨by simp[c0],by simp[c0]⟩
 stepI:=by simp[c0]
 tns:=⟨by simp[c0],by simp[c0]⟩
 fltI:=by simp[c0]
 lines:=by simp[c0]
 lineI:=by
  intro n hn
  have:=List.eq_of_mem_replicate hn
  omega
theorem adS:aL prog cY [.d (.int .i64 0),.agg c0.av]=some (.d (.int .i64 0)):=EX 400 (by kernel_rfl)
theorem aeU {r:Nat}{c:aK}(hc:c.Fit) (h:pV r c) (hR:r≤11) (q:Bool):(DL r c q).length≤170000000:=by
 have hm11:=lg hR h.info
 have hmx:=lG hm11
 obtain⟨g1,g2⟩:=ei hm11
 have hmm:c.info.many≤8:=by unfold aD.many;split<;>omega
 have hgl:c.info.groups.length≤8:=by have:=lE (fun n hn=>(g1 n hn).1);omega
 have hgs:c.sects.length≤8:=by have:=h.sects.1;omega
 have k1:=Cg (i:=c.info)
 have k2:=ZS hm11 h.sects
 have k3:=IE hmx h.sects.2 h.steps
 have k4:(gv c.info.short c.tns).length≤1000*c.tns.length:=zq fun l hl=>Xu (h.tns.2 l hl)
 have k5:=U5 hc h hR
 have htl:=h.tns.1
 have e1:(if q then [] else jk c.info).length≤20:=by split<;>(try simp only[List.length_nil])<;>omega
 have e2:(if QM c.tns then 0::1::(gv c.info.short c.tns++[0]) else [0,0,0]).length≤10000:=by split<;>simp<;>omega
 unfold DL
 simp only[List.length_append,bK]
 omega
end Go.Vm
namespace Go.Vm
set_option maxHeartbeats 2000000
set_option maxRecDepth 100000
abbrev aK.cells (c:aK):List D:=[.int .i64 c.gain,.int .u8 c.info.seq,.int .u8 c.info.shape,.int .i64 c.info.max,.lst (aI c.info.groups),.lst (bW c.sects),.lst (cT c.steps),.lst (dw c.tns),.lst (aI c.lines)]
def bw (l:List aK):List (List D):=l.map aK.cells
@[simp] theorem mt {l:List aK}:(bw l).length=l.length:=by simp[bw]
theorem kH {g:List aK}{i:Nat}{c:aK}{r:List aK}(h:g.drop i=c::r):(bw g)[i]?=some [.int .i64 c.gain,.int .u8 c.info.seq,.int .u8 c.info.shape,.int .i64 c.info.max,.lst (aI c.info.groups),.lst (bW c.sects),.lst (cT c.steps),.lst (dw c.tns),.lst (aI c.lines)]:=by
 have:=congrArg (fun l=>l[0]?) h
 simp only[List.getElem?_drop,Nat.add_zero,List.getElem?_cons_zero]at this
 rw[bw,List.getElem?_map,this];rfl
theorem akP {g:List aK}{c:aK}:bw (g++[c])=bw g++[[.int .i64 c.gain,.int .u8 c.info.seq,.int .u8 c.info.shape,.int .i64 c.info.max,.lst (aI c.info.groups),.lst (bW c.sects),.lst (cT c.steps),.lst (dw c.tns),.lst (aI c.lines)]]:=by simp[bw]
def iF (l:List Bool):List (List D):=l.map fun b=>[.bool b]
@[simp] theorem qt {l:List Bool}:(iF l).length=l.length:=by simp[iF]
theorem anP {g:List Bool}{i:Nat}{c:Bool}{r:List Bool}(h:g.drop i=c::r):(iF g)[i]?=some [.bool c]:=by
 have:=congrArg (fun l=>l[0]?) h
 simp only[List.getElem?_drop,Nat.add_zero,List.getElem?_cons_zero]at this
 rw[iF,List.getElem?_map,this];rfl
@[simp] theorem avL {l:List Bool}:cq 1 (iF l)=true:=Kz
theorem anO {a b:List Bool}:iF (a++b)=iF a++iF b:=by simp[iF]
def cK (t:List (List Bool)):List (List D):=t.map fun l=>[.lst (iF l)]
@[simp] theorem zP {t:List (List Bool)}:(cK t).length=t.length:=by simp[cK]
theorem qi {g:List (List Bool)}{i:Nat}{l:List Bool}{r:List (List Bool)}(h:g.drop i=l::r):(cK g)[i]?=some [.lst (iF l)]:=by
 have:=congrArg (fun l=>l[0]?) h
 simp only[List.getElem?_drop,Nat.add_zero,List.getElem?_cons_zero]at this
 rw[cK,List.getElem?_map,this];rfl
theorem aax {t:List (List Bool)}{l:List Bool}:cK (t++[l])=cK t++[[.lst (iF l)]]:=by simp[cK]
structure cX where
 chans:List aK
 common:Bool
 mask:Int
 bands:List (List Bool)
 fill:List Nat
structure cX.Fit (f:cX):Prop where
 chans:f.chans.length≤1000∧∀ c∈f.chans,c.Fit
 mask:i64 f.mask
 bands:f.bands.length≤1000∧∀ l∈f.bands,l.length≤1000
 fill:f.fill.length≤100000
 fillI:∀ n∈f.fill,n≤255
abbrev cX.av (f:cX):List AV:=[.d (.lst (bw f.chans)),.d (.bool f.common),.d (.int .i64 f.mask),.d (.lst (cK f.bands)),.d (.lst (ah f.fill))]
abbrev hpU (f:cX) (C B F:AV) (N:Nat):HS:=⟨[(0,.cells f.av),(1,.cells [.nl,.d (.bool false),.d (.int .i64 0),.nl,.nl]),(2,.cells [C,.d (.bool f.common),.d (.int .i64 f.mask),B,F])],N⟩
theorem ajB (f:cX) (hf:f.Fit) (B F:AV) (N:Nat):∀ (r:List aK) (i:Nat) (acc:List aK),f.chans.drop i=r→acc.length≤i→
  (Dn prog).code (.loop fJ) ⟨[(1,.ptr 0 0),(2,.ptr 1 0),(3,.ptr 2 0),(4,.d (.int .i64 i))],hpU f (aB 9 (bw acc)) B F N⟩ =
  some (.exit 0,⟨[(1,.ptr 0 0),(2,.ptr 1 0),(3,.ptr 2 0)],hpU f (aB 9 (bw (acc++r))) B F N⟩):=by
 have hl:=hf.chans
 intro r
 induction r with
 | nil =>
  intro i acc hd ha
  have hi:=an hd
  rw[aa fJ.eq_1]
  simp (maxSteps:=300000) (disch:=omega) [↓if_pos,↓if_neg]
 | cons l r ih =>
  intro i acc hd ha
  have hg:=kH hd
  have hlt:=ax hd
  have hll:=hl.2 l (List.mem_of_mem_drop (by rw[hd];exact .head _))
  obtain⟨v,w1,w2⟩:=aqY l hll
  have h5:=ih (i+1) (acc++[l]) (ar hd) (by simp;omega)
  have c1:((i+1:Nat):Int)=(i:Int)+1:=rfl
  have hal:=mt (l:=acc)
  have hl1:=hl.1
  rw[c1,List.append_assoc]at h5
  simp only[aK.av,aK.tw]at w1 w2
  rw[aa fJ.eq_1,show acc++l::r=acc++([l]++r) from rfl,←h5,akP,mu]
  simp (maxSteps:=300000) (disch:=omega) [↓if_pos,↓if_neg,hg,w1,w2]
theorem akN (f:cX) (hf:f.Fit) (C F:AV) (N:Nat):∀ (r:List (List Bool)) (i:Nat) (acc:List (List Bool)),f.bands.drop i=r→acc.length≤i→
  (Dn prog).code (.loop fN) ⟨[(1,.ptr 0 0),(2,.ptr 1 0),(3,.ptr 2 0),(5,.d (.int .i64 i))],hpU f C (aB 1 (cK acc)) F N⟩ =
  some (.exit 2,⟨[(1,.ptr 0 0),(2,.ptr 1 0),(3,.ptr 2 0)],hpU f C (aB 1 (cK (acc++r))) F N⟩):=by
 have hl:=hf.bands
 intro r
 induction r with
 | nil =>
  intro i acc hd ha
  have hi:=an hd
  rw[aa fN.eq_1]
  simp (maxSteps:=300000) (disch:=omega) [↓if_pos,↓if_neg]
 | cons l r ih =>
  intro i acc hd ha
  have hg:=qi hd
  have hlt:=ax hd
  have hll:=hl.2 l (List.mem_of_mem_drop (by rw[hd];exact .head _))
  obtain⟨w,w1,w2⟩:=yW (m:=1) (ys:=iF l) (by rw[qt];omega)
  have h5:=ih (i+1) (acc++[l]) (ar hd) (by simp;omega)
  have c1:((i+1:Nat):Int)=(i:Int)+1:=rfl
  have hal:=zP (t:=acc)
  have hl1:=hl.1
  rw[c1,List.append_assoc]at h5
  rw[aa fN.eq_1,show acc++l::r=acc++([l]++r) from rfl,←h5,aax,mu]
  simp (maxSteps:=300000) (disch:=omega) [↓if_pos,↓if_neg,hg,w1,w2]
abbrev cX.tw (f:cX):List AV:=[aB 9 (bw f.chans),.d (.bool f.common),.d (.int .i64 f.mask),aB 1 (cK f.bands),aB 1 (ah f.fill)]
theorem ajN (f:cX) (hf:f.Fit):∃ v,aL prog fu [.agg f.av]=some v∧firm v=.agg f.tw:=by
 obtain⟨v,e1,e2⟩:=Jd (cs:=f.tw) (by simp)
 refine⟨v,?_,by rw[e2];simp⟩
 obtain⟨w,w1,w2⟩:=yW (m:=1) (ys:=ah f.fill) (by have:=hf.fill;rw[bD];omega)
 have h0:=ajB f hf .nl .nl 3 f.chans 0 [] rfl (Nat.le_refl _)
 have h1:=akN f hf (aB 9 (bw f.chans)) .nl 3 f.bands 0 [] rfl (Nat.le_refl _)
 have c0:((0:Nat):Int)=0:=rfl
 have n0:bw []=[]:=rfl
 have n1:cK []=[]:=rfl
 simp only[c0,n0,n1,mU,List.nil_append]at h0 h1
 simp only[cX.av,cX.tw,hpU]at h0 h1 e1⊢
 rw[am Fa kR.eq_1 rfl]
 simp (maxSteps:=300000) (disch:=omega) [↓if_pos,↓if_neg,w1,w2,h0,h1,e1,-au]
structure Uq (f:cX):Prop where
 chans:f.chans.length≤10∧∀ c∈f.chans,acp c
 bands:f.bands.length≤40∧∀ l∈f.bands,l.length≤200
 fill:f.fill.length≤2000
theorem aif (f:cX):∀ (r:List aK) (i:Nat),f.chans.drop i=r→i≤10→
  ((i+r.length≤10→∀ c∈r,acp c)∧(Dn prog).code (.loop bI) ⟨[(1,.ptr 0 0),(3,.d (.int .i64 i))],⟨[(0,.cells f.av)],1⟩⟩=some (.exit 0,⟨[(1,.ptr 0 0)],⟨[(0,.cells f.av)],1⟩⟩))∨
  (Dn prog).code (.loop bI) ⟨[(1,.ptr 0 0),(3,.d (.int .i64 i))],⟨[(0,.cells f.av)],1⟩⟩=some (.ret,⟨[(2,.d (.bool true))],⟨[],1⟩⟩):=by
 intro r
 induction r with
 | nil =>
  intro i hd h10
  have hi:=an hd
  refine .inl ⟨by simp,?_⟩
  rw[aa bI.eq_1]
  simp (maxSteps:=300000) (disch:=omega) [↓if_neg]
 | cons c r ih =>
  intro i hd h10
  have hg:=kH hd
  have hlt:=ax hd
  by_cases hi:i<10
  ·have ih1:=ih (i+1) (ar hd) (by omega)
   rw[show ((i+1:Nat):Int)=(i:Int)+1 from rfl]at ih1
   rcases asd c with ⟨hs,hG⟩ | hG
   ·simp only[aK.av]at hG
    rcases ih1 with ⟨ha,e⟩ | e
    ·refine .inl ⟨fun h q hq=>?_,?_⟩
     ·rcases List.mem_cons.1 hq with rfl | hq
      ·exact hs
      ·exact ha (by simp only[List.length_cons]at h;omega) q hq
     ·rw[aa bI.eq_1]
      simp (maxSteps:=300000) (disch:=omega) [↓if_pos,↓if_neg,hg,hG,e]
    ·refine .inr ?_
     rw[aa bI.eq_1]
     simp (maxSteps:=300000) (disch:=omega) [↓if_pos,↓if_neg,hg,hG,e]
   ·simp only[aK.av]at hG
    refine .inr ?_
    rw[aa bI.eq_1]
    simp (maxSteps:=300000) (disch:=omega) [↓if_pos,↓if_neg,hg,hG]
  ·refine .inl ⟨fun h=>by simp only[List.length_cons]at h;omega,?_⟩
   rw[aa bI.eq_1]
   simp (maxSteps:=300000) (disch:=omega) [↓if_pos,↓if_neg]
theorem aiA (f:cX):∀ (r:List (List Bool)) (i:Nat),f.bands.drop i=r→i≤40→
  ((i+r.length≤40→∀ l∈r,l.length≤200)∧(Dn prog).code (.loop bH) ⟨[(1,.ptr 0 0),(4,.d (.int .i64 i))],⟨[(0,.cells f.av)],1⟩⟩=some (.exit 2,⟨[(1,.ptr 0 0)],⟨[(0,.cells f.av)],1⟩⟩))∨
  (Dn prog).code (.loop bH) ⟨[(1,.ptr 0 0),(4,.d (.int .i64 i))],⟨[(0,.cells f.av)],1⟩⟩=some (.ret,⟨[(2,.d (.bool true))],⟨[],1⟩⟩):=by
 intro r
 induction r with
 | nil =>
  intro i hd h10
  have hi:=an hd
  refine .inl ⟨by simp,?_⟩
  rw[aa bH.eq_1]
  simp (maxSteps:=300000) (disch:=omega) [↓if_neg]
 | cons l r ih =>
  intro i hd h10
  have hg:=qi hd
  have hlt:=ax hd
  by_cases hi:i<40
  ·have ih1:=ih (i+1) (ar hd) (by omega)
   rw[show ((i+1:Nat):Int)=(i:Int)+1 from rfl]at ih1
   by_cases hn:l.length≤200
   ·rcases ih1 with ⟨ha,e⟩ | e
    ·refine .inl ⟨fun h q hq=>?_,?_⟩
     ·rcases List.mem_cons.1 hq with rfl | hq
      ·exact hn
      ·exact ha (by simp only[List.length_cons]at h;omega) q hq
     ·rw[aa bH.eq_1]
      simp (maxSteps:=300000) (disch:=omega) [↓if_pos,↓if_neg,hg,e]
    ·refine .inr ?_
     rw[aa bH.eq_1]
     simp (maxSteps:=300000) (disch:=omega) [↓if_pos,↓if_neg,hg,e]
   ·refine .inr ?_
    rw[aa bH.eq_1]
    simp (maxSteps:=300000) (disch:=omega) [↓if_pos,↓if_neg,hg]
  ·refine .inl ⟨fun h=>by simp only[List.length_cons]at h;omega,?_⟩
   rw[aa bH.eq_1]
   simp (maxSteps:=300000) (disch:=omega) [↓if_pos,↓if_neg]
theorem agK (f:cX):(Uq f∧aL prog eH [.agg f.av]=some (.d (.bool false)))∨aL prog eH [.agg f.av]=some (.d (.bool true)):=by
 have h0:=aif f f.chans 0 rfl (by omega)
 have h1:=aiA f f.bands 0 rfl (by omega)
 have c0:((0:Nat):Int)=0:=rfl
 rw[c0]at h0 h1
 simp only[cX.av,Nat.zero_add]at h0 h1⊢
 rw[am E9 kh.eq_1 rfl]
 rcases h0 with ⟨a0,e0⟩ | e0
 ·rcases h1 with ⟨a1,e1⟩ | e1
  ·by_cases hc:f.chans.length≤10
   ·by_cases hb:f.bands.length≤40
    ·by_cases hx:f.fill.length≤2000
     ·refine .inl ⟨⟨⟨hc,a0 hc⟩,⟨hb,a1 hb⟩,hx⟩,?_⟩
      simp (maxSteps:=300000) (disch:=omega) [↓if_pos,↓if_neg,e0,e1]
     ·refine .inr ?_
      simp (maxSteps:=300000) (disch:=omega) [↓if_pos,↓if_neg,e0,e1]
    ·refine .inr ?_
     simp (maxSteps:=300000) (disch:=omega) [↓if_pos,↓if_neg,e0,e1]
   ·refine .inr ?_
    simp (maxSteps:=300000) (disch:=omega) [↓if_pos,↓if_neg,e0,e1]
  ·refine .inr ?_
   simp (maxSteps:=300000) (disch:=omega) [↓if_pos,↓if_neg,e0,e1]
 ·refine .inr ?_
  simp (maxSteps:=300000) (disch:=omega) [↓if_pos,↓if_neg,e0]
end Go.Vm
namespace Go.Vm
set_option maxHeartbeats 2000000
set_option maxRecDepth 100000
def sE (i j:aD):Prop:=(i.seq=j.seq∧i.shape=j.shape)∧i.max=j.max∧i.groups=j.groups
instance {i j:aD}:Decidable (sE i j):=inferInstanceAs (Decidable (_∧_))
theorem aje (i j:aD) (hi:i.Fit) (hj:j.Fit):aL prog Ds [.agg i.cells,.agg j.cells]=some (.d (.bool (decide (sE i j)))):=by
 have he:=IP i.groups j.groups (by have:=hi.len;omega) (by have:=hj.len;omega)
 simp only[aD.cells]
 rw[am afn CP.eq_1 rfl]
 by_cases h1:i.seq=j.seq
 ·by_cases h2:i.shape=j.shape
  ·by_cases h3:i.max=j.max
   ·by_cases h4:i.groups=j.groups
    ·rw[if_pos h4]at he
     rw[decide_eq_true (show sE i j from ⟨⟨h1,h2⟩,h3,h4⟩)]
     simp (maxSteps:=300000) (disch:=omega) [↓if_pos,↓if_neg,he]
    ·rw[if_neg h4]at he
     rw[decide_eq_false (fun h:sE i j=>h4 h.2.2)]
     simp (maxSteps:=300000) (disch:=omega) [↓if_pos,↓if_neg,he]
   ·rw[decide_eq_false (fun h:sE i j=>h3 h.2.1)]
    simp (maxSteps:=300000) (disch:=omega) [↓if_pos,↓if_neg]
  ·rw[decide_eq_false (fun h:sE i j=>h2 h.1.2)]
   simp (maxSteps:=300000) (disch:=omega) [↓if_pos,↓if_neg]
 ·rw[decide_eq_false (fun h:sE i j=>h1 h.1.1)]
  simp (maxSteps:=300000) (disch:=omega) [↓if_pos,↓if_neg]
def C6 (rt:Int) (c:aK):Bool:=match aL prog cY [.d (.int .i64 rt),.agg c.av] with
 | some (.d (.int _ n))=>n != 0
 | _=>true
theorem NZ (rt:Int) (hr:ef rt) (c:aK) (hc:c.Fit):∃ n:Int,aL prog cY [.d (.int .i64 rt),.agg c.av]=some (.d (.int .i64 n))∧C6 rt c=(n != 0)∧(C6 rt c=false↔pV rt.toNat c):=by
 rcases GT rt c hc with ⟨_,h,hC⟩ | ⟨_,h,hC⟩ | ⟨h,_⟩
 ·refine⟨0,hC,by rw[C6,hC],?_⟩
  rw[C6,hC];simp[h]
 ·refine⟨8,hC,by rw[C6,hC],?_⟩
  rw[C6,hC];simp[h]
 ·exact absurd hr h
theorem anY (rt:Int) (hr:ef rt) (a1 a2 a3:AV) (c:aK) (hc:c.Fit) (H:ac) (M:Nat) (hp:get H 0=some (.cells [.d (.int .i64 rt),a1,a2,a3])) (hM:Lt H M) :
  (Dn prog).call oY [.agg c.av,.ptr 0 0] ⟨H,M⟩=some (.d (.bool (C6 rt c)),⟨H,M+1⟩):=by
 have e1:=fun o=>qo (o:=o) hM
 have e2:=fun o=>uo (o:=o) hM
 have e3:=fun o=>qr (N:=M) (o:=o) hp
 have e5:=fun o=>XJ (o:=o) hM
 have e6:=fun o o'=>KS (o:=o) (o':=o') hM
 obtain⟨n,hC,hB,_⟩:=NZ rt hr c hc
 rw[hB]
 simp only[aK.av]at hC⊢
 rw[aA abc wQ.eq_1 rfl]
 by_cases hn:n=0
 ·subst hn
  simp (maxSteps:=300000) (disch:=omega) [↓if_pos,↓if_neg,e1,e2,e3,e5,e6,hC]
 ·simp (maxSteps:=300000) (disch:=omega) [↓if_pos,↓if_neg,e1,e2,e3,e5,e6,hC,hn]
end Go.Vm
namespace Go.Vm
set_option maxHeartbeats 2000000
set_option maxRecDepth 100000
theorem XN (F:AV) (P:aK→Bool) (l:List aK) (hl:l.length≤1000000000) (h:ac) (N0:Nat) (hF:firm (share F)=F) (hc:∀ f∈l,∀ N,N0≤N→aP (Dn prog) F [.agg f.av] ⟨h,N⟩=some (.d (.bool (P f)),⟨h,N+1⟩)):∀ (r:List aK) (i N:Nat),l.drop i=r→N0≤N→
  (r.any P=true∧∃ k M:Nat,N≤M∧(Dn prog).code (.loop bG) ⟨[(0,.d (.lst (bw l))),(1,F),(7,.d (.int .i64 l.length)),(8,.d (.int .i64 i))],⟨h,N⟩⟩=some (.ret,⟨[(4,.d (.int .i64 k))],⟨h,M⟩⟩))∨
  (r.any P=false∧∃ M,N≤M∧(Dn prog).code (.loop bG) ⟨[(0,.d (.lst (bw l))),(1,F),(7,.d (.int .i64 l.length)),(8,.d (.int .i64 i))],⟨h,N⟩⟩=some (.exit 0,⟨[],⟨h,M⟩⟩)):=by
 intro r
 induction r with
 | nil =>
  intro i N hd hN
  have hi:=an hd
  refine .inr ⟨rfl,N,Nat.le_refl _,?_⟩
  rw[aa bG.eq_1]
  simp (maxSteps:=300000) (disch:=omega) [↓if_neg]
 | cons v r ih =>
  intro i N hd hN
  have hg:=kH hd
  have hlt:=ax hd
  have hv:=hc v (by rw[←List.take_append_drop i l,hd];simp) N hN
  have h5:=ih (i+1) (N+1) (ar hd) (by omega)
  have c1:((i+1:Nat):Int)=(i:Int)+1:=rfl
  rw[c1]at h5
  cases hp:P v with
  | true =>
   rw[hp]at hv
   refine .inl ⟨by rw[List.any_cons,hp];rfl,i,N+1,by omega,?_⟩
   rw[aa bG.eq_1]
   simp (maxSteps:=300000) (disch:=omega) [↓if_pos,↓if_neg,hg,hF,hv]
  | false =>
   rw[hp]at hv
   rw[List.any_cons,hp,Bool.false_or]
   rcases h5 with ⟨e1,k,M,e3,e2⟩ | ⟨e1,M,e3,e2⟩
   ·refine .inl ⟨e1,k,M,by omega,?_⟩
    rw[aa bG.eq_1,←e2]
    simp (maxSteps:=300000) (disch:=omega) [↓if_pos,↓if_neg,hg,hF,hv]
   ·refine .inr ⟨e1,M,by omega,?_⟩
    rw[aa bG.eq_1,←e2]
    simp (maxSteps:=300000) (disch:=omega) [↓if_pos,↓if_neg,hg,hF,hv]
theorem WX (F:AV) (P:aK→Bool) (l:List aK) (hl:l.length≤1000000000) (h:ac) (N:Nat) (hF:firm (share F)=F) (hF2:firm F=F) (hc:∀ f∈l,∀ M,N≤M→aP (Dn prog) F [.agg f.av] ⟨h,M⟩=some (.d (.bool (P f)),⟨h,M+1⟩)) :
  ∃ M,N≤M∧(Dn prog).call gn [.d (.lst (bw l)),F] ⟨h,N⟩=some (.d (.bool (l.any P)),⟨h,M⟩):=by
 have h1:=XN F P l hl h N hF hc l 0 N rfl (Nat.le_refl _)
 have c0:((0:Nat):Int)=0:=rfl
 rw[c0]at h1
 have h2:∃ (k:Int) (M:Nat),N≤M∧(0≤k↔l.any P=true)∧(Dn prog).call i7 [.d (.lst (bw l)),F] ⟨h,N⟩=some (.d (.int .i64 k),⟨h,M⟩):=by
  rcases h1 with ⟨e1,k,M,e3,e2⟩ | ⟨e1,M,e3,e2⟩
  ·refine⟨k,M,e3,⟨fun _=>e1,fun _=>by omega⟩,?_⟩
   rw[aA mI fw.eq_1 rfl]
   simp (maxSteps:=300000) (disch:=omega) [e2]
  ·refine⟨-1,M,e3,⟨fun h=>by omega,fun h=>by rw[e1]at h;exact absurd h (by simp)⟩,?_⟩
   rw[aA mI fw.eq_1 rfl]
   simp (maxSteps:=300000) (disch:=omega) [e2]
 obtain⟨k,M,e3,e1,e2⟩:=h2
 refine⟨M,e3,?_⟩
 rw[aA vT gw.eq_1 rfl]
 cases hp:l.any P with
 | true =>
  have:=e1.2 hp
  simp (maxSteps:=300000) (disch:=omega) [↓if_pos,hF2,e2]
 | false =>
  have:¬ 0≤k:=fun h=>by rw[e1.1 h]at hp;exact absurd hp (by simp)
  simp (maxSteps:=300000) (disch:=omega) [↓if_neg,hF2,e2]
theorem Zk (F:AV) (P:(List Bool)→Bool) (l:List (List Bool)) (hl:l.length≤1000000000) (h:ac) (N0:Nat) (hF:firm (share F)=F) (hc:∀ f∈l,∀ N,N0≤N→aP (Dn prog) F [.d (.lst (iF f))] ⟨h,N⟩=some (.d (.bool (P f)),⟨h,N⟩)):∀ (r:List (List Bool)) (i N:Nat),l.drop i=r→N0≤N→
  (r.any P=true∧∃ k M:Nat,N≤M∧(Dn prog).code (.loop bx) ⟨[(0,.d (.lst (cK l))),(1,F),(7,.d (.int .i64 l.length)),(8,.d (.int .i64 i))],⟨h,N⟩⟩=some (.ret,⟨[(4,.d (.int .i64 k))],⟨h,M⟩⟩))∨
  (r.any P=false∧∃ M,N≤M∧(Dn prog).code (.loop bx) ⟨[(0,.d (.lst (cK l))),(1,F),(7,.d (.int .i64 l.length)),(8,.d (.int .i64 i))],⟨h,N⟩⟩=some (.exit 0,⟨[],⟨h,M⟩⟩)):=by
 intro r
 induction r with
 | nil =>
  intro i N hd hN
  have hi:=an hd
  refine .inr ⟨rfl,N,Nat.le_refl _,?_⟩
  rw[aa bx.eq_1]
  simp (maxSteps:=300000) (disch:=omega) [↓if_neg]
 | cons v r ih =>
  intro i N hd hN
  have hg:=qi hd
  have hlt:=ax hd
  have hv:=hc v (by rw[←List.take_append_drop i l,hd];simp) N hN
  have h5:=ih (i+1) N (ar hd) (by omega)
  have c1:((i+1:Nat):Int)=(i:Int)+1:=rfl
  rw[c1]at h5
  cases hp:P v with
  | true =>
   rw[hp]at hv
   refine .inl ⟨by rw[List.any_cons,hp];rfl,i,N,by omega,?_⟩
   rw[aa bx.eq_1]
   simp (maxSteps:=300000) (disch:=omega) [↓if_pos,↓if_neg,hg,hF,hv]
  | false =>
   rw[hp]at hv
   rw[List.any_cons,hp,Bool.false_or]
   rcases h5 with ⟨e1,k,M,e3,e2⟩ | ⟨e1,M,e3,e2⟩
   ·refine .inl ⟨e1,k,M,by omega,?_⟩
    rw[aa bx.eq_1,←e2]
    simp (maxSteps:=300000) (disch:=omega) [↓if_pos,↓if_neg,hg,hF,hv]
   ·refine .inr ⟨e1,M,by omega,?_⟩
    rw[aa bx.eq_1,←e2]
    simp (maxSteps:=300000) (disch:=omega) [↓if_pos,↓if_neg,hg,hF,hv]
theorem Y5 (F:AV) (P:(List Bool)→Bool) (l:List (List Bool)) (hl:l.length≤1000000000) (h:ac) (N:Nat) (hF:firm (share F)=F) (hF2:firm F=F) (hc:∀ f∈l,∀ M,N≤M→aP (Dn prog) F [.d (.lst (iF f))] ⟨h,M⟩=some (.d (.bool (P f)),⟨h,M⟩)) :
  ∃ M,N≤M∧(Dn prog).call fR [.d (.lst (cK l)),F] ⟨h,N⟩=some (.d (.bool (l.any P)),⟨h,M⟩):=by
 have h1:=Zk F P l hl h N hF hc l 0 N rfl (Nat.le_refl _)
 have c0:((0:Nat):Int)=0:=rfl
 rw[c0]at h1
 have h2:∃ (k:Int) (M:Nat),N≤M∧(0≤k↔l.any P=true)∧(Dn prog).call iC [.d (.lst (cK l)),F] ⟨h,N⟩=some (.d (.int .i64 k),⟨h,M⟩):=by
  rcases h1 with ⟨e1,k,M,e3,e2⟩ | ⟨e1,M,e3,e2⟩
  ·refine⟨k,M,e3,⟨fun _=>e1,fun _=>by omega⟩,?_⟩
   rw[aA ml eN.eq_1 rfl]
   simp (maxSteps:=300000) (disch:=omega) [e2]
  ·refine⟨-1,M,e3,⟨fun h=>by omega,fun h=>by rw[e1]at h;exact absurd h (by simp)⟩,?_⟩
   rw[aA ml eN.eq_1 rfl]
   simp (maxSteps:=300000) (disch:=omega) [e2]
 obtain⟨k,M,e3,e1,e2⟩:=h2
 refine⟨M,e3,?_⟩
 rw[aA uN fQ.eq_1 rfl]
 cases hp:l.any P with
 | true =>
  have:=e1.2 hp
  simp (maxSteps:=300000) (disch:=omega) [↓if_pos,hF2,e2]
 | false =>
  have:¬ 0≤k:=fun h=>by rw[e1.1 h]at hp;exact absurd hp (by simp)
  simp (maxSteps:=300000) (disch:=omega) [↓if_neg,hF2,e2]
theorem anC (i:aD) (l:List Bool) (hl:l.length≤1000000) (H:ac) (K N:Nat) (hp:get H K=some (.cells i.cells)):(Dn prog).call o8 [.d (.lst (iF l)),.ptr K 0] ⟨H,N⟩=some (.d (.bool (decide ((l.length:Int)≠i.max))),⟨H,N⟩):=by
 have hb:=qt (l:=l)
 rw[aA abK w6.eq_1 rfl]
 by_cases h:(l.length:Int)=i.max
 ·simp (maxSteps:=300000) (disch:=omega) [hp,h]
 ·simp (maxSteps:=300000) (disch:=omega) [hp,h]
end Go.Vm
namespace Go.Vm
set_option maxHeartbeats 2000000
set_option maxRecDepth 100000
def iv (x:AV) (l:List (List D)):Prop:=x=.d (.lst l)∨x=.nl∧l=[]
theorem iv.d {l:List (List D)}:iv (.d (.lst l)) l:=.inl rfl
theorem iv.facts {x:AV}{l:List (List D)}(h:iv x l):(share x=x∧firm x=x∧AV.cells x=[x])∧au x=true∧lenOf x=some l.length:=by
 rcases h with rfl | ⟨rfl,rfl⟩<;>exact⟨⟨rfl,rfl,rfl⟩,rfl,rfl⟩
theorem iv.ne {x:AV}{l:List (List D)}(h:iv x l) (hl:l≠[]):x=.d (.lst l):=by
 rcases h with h | ⟨_,h⟩
 ·exact h
 ·exact absurd h hl
def zK (f:cX):List aK→Prop
 | []=>False
 | c::r=>if f.common then (∃ d∈r.head?,sE c.info d.info)∧(if f.mask=1 then f.bands.length=c.info.groups.length∧∀ l∈f.bands,(l.length:Int)=c.info.max else f.bands=[]) else f.mask=0∧f.bands=[]
structure wX (rt:Nat) (n:Int) (f:cX):Prop where
 len:(f.chans.length:Int)=n
 fill:f.fill.length≤269
 mask:0≤f.mask∧f.mask≤2
 may:∀ c∈f.chans,pV rt c
 rest:zK f f.chans
abbrev ke (rt n:Int) (b:Bool) (z:Int):AV:=.agg [.d (.int .i64 rt),.d (.int .i64 n),.d (.bool b),.d (.int .i64 z)]
abbrev xF (f:cX) (X Y Z:AV):AV:=.agg [X,.d (.bool f.common),.d (.int .i64 f.mask),Y,Z]
theorem ai2 (rt n:Int) (cb:Bool) (cz:Int) (hr:ef rt) (hn:n=1∨n=2) (f:cX) (hf:f.Fit) (X Y Z:AV) (hX:iv X (bw f.chans)) (hY:iv Y (cK f.bands)) (hZ:iv Z (ah f.fill)) :
  (wX rt.toNat n f∧aL prog vp [ke rt n cb cz,xF f X Y Z]=some (.d (.bool true)))∨(¬ wX rt.toNat n f∧aL prog vp [ke rt n cb cz,xF f X Y Z]=some (.d (.bool false))):=by
 obtain⟨⟨x1,x2,x3⟩,x4,x5⟩:=hX.facts
 obtain⟨⟨y1,y2,y3⟩,y4,y5⟩:=hY.facts
 obtain⟨⟨z1,z2,z3⟩,z4,z5⟩:=hZ.facts
 have xl:=mt (l:=f.chans)
 have yl:=zP (t:=f.bands)
 have zl:=bD (l:=f.fill)
 have hcl:=hf.chans.1
 have hbl:=hf.bands.1
 have hfl:=hf.fill
 rw[am afO DG.eq_1 rfl]
 by_cases h1:(f.chans.length:Int)=n
 rotate_left
 ·refine .inr ⟨fun h=>h1 h.len,?_⟩
  simp (maxSteps:=300000) (disch:=omega) [↓if_pos,↓if_neg,-au,x1,x2,x3,x4,x5,y1,y2,y3,y4,y5,z1,z2,z3,z4,z5]
 by_cases h2:f.fill.length≤269
 rotate_left
 ·refine .inr ⟨fun h=>h2 h.fill,?_⟩
  simp (maxSteps:=300000) (disch:=omega) [↓if_pos,↓if_neg,-au,x1,x2,x3,x4,x5,y1,y2,y3,y4,y5,z1,z2,z3,z4,z5]
 by_cases h3:0≤f.mask
 rotate_left
 ·refine .inr ⟨fun h=>h3 h.mask.1,?_⟩
  simp (maxSteps:=300000) (disch:=omega) [↓if_pos,↓if_neg,-au,x1,x2,x3,x4,x5,y1,y2,y3,y4,y5,z1,z2,z3,z4,z5]
 by_cases h4:f.mask≤2
 rotate_left
 ·refine .inr ⟨fun h=>h4 h.mask.2,?_⟩
  simp (maxSteps:=300000) (disch:=omega) [↓if_pos,↓if_neg,-au,x1,x2,x3,x4,x5,y1,y2,y3,y4,y5,z1,z2,z3,z4,z5]
 have hne:bw f.chans≠[]:=fun h=>by have:=congrArg List.length h;rw[mt,List.length_nil]at this;omega
 have hxe:=hX.ne hne
 subst hxe
 obtain⟨M,hM,e1⟩:=WX (.fn oY [] [.ptr 0 0]) (C6 rt) f.chans (by omega) [(0,.cells [.d (.int .i64 rt),.d (.int .i64 n),.d (.bool cb),.d (.int .i64 cz)]),(1,.cells [.d (.lst (bw f.chans)),.d (.bool f.common),.d (.int .i64 f.mask),Y,Z])] 2 rfl rfl fun c hc M hM=>by
  have:=anY rt hr (.d (.int .i64 n)) (.d (.bool cb)) (.d (.int .i64 cz)) c (hf.chans.2 c hc) [(0,.cells [.d (.int .i64 rt),.d (.int .i64 n),.d (.bool cb),.d (.int .i64 cz)]),(1,.cells [.d (.lst (bw f.chans)),.d (.bool f.common),.d (.int .i64 f.mask),Y,Z])] M (by simp) (by
   intro p hp
   simp only[List.mem_cons,List.not_mem_nil,or_false]at hp
   rcases hp with rfl | rfl<;>simp only[]<;>omega)
  simpa using this
 have hbad:f.chans.any (C6 rt)=false↔∀ c∈f.chans,pV rt.toNat c:=by
  rw[List.any_eq_false]
  constructor
  ·intro h c hc
   obtain⟨_,_,_,hb⟩:=NZ rt hr c (hf.chans.2 c hc)
   exact hb.1 (by simpa using h c hc)
  ·intro h c hc
   obtain⟨_,_,_,hb⟩:=NZ rt hr c (hf.chans.2 c hc)
   rw[hb.2 (h c hc)];simp
 cases hB:f.chans.any (C6 rt) with
 | true =>
  rw[hB]at e1
  refine .inr ⟨fun h=>by rw[hbad.2 h.may]at hB;exact absurd hB (by simp),?_⟩
  simp (maxSteps:=300000) (disch:=omega) [↓if_pos,↓if_neg,-au,x5,y1,y2,y3,y4,y5,z1,z2,z3,z4,z5,e1]
 | false =>
  rw[hB]at e1
  have hmay:=hbad.1 hB
  cases hch:f.chans with
  | nil=>rw[hch]at h1;simp at h1;omega
  | cons c r =>
   have hdr:f.chans.drop 0=c::r:=hch
   obtain⟨k0,g0⟩:=List.getElem?_eq_some_iff.1 (kH hdr)
   have hci:=(hf.chans.2 c (by rw[hch];exact .head _)).info
   have hfin:wX rt.toNat n f↔zK f (c::r):=⟨fun h=>by rw[←hch];exact h.rest,fun h=>⟨h1,h2,⟨h3,h4⟩,hmay,by rw[hch];exact h⟩⟩
   rw[←hch]
   cases hcm:f.common with
   | false =>
    have hT:zK f (c::r)↔f.mask=0∧f.bands=[]:=by simp only[zK,hcm,Bool.false_eq_true,if_false]
    rw[hcm]at e1
    by_cases h5:f.mask=0
    ·by_cases h6:f.bands.length=0
     ·refine .inl ⟨hfin.2 (hT.2 ⟨h5,List.eq_nil_of_length_eq_zero h6⟩),?_⟩
      simp (maxSteps:=300000) (disch:=omega) [↓if_pos,↓if_neg,-au,hcm,x5,y1,y2,y3,y4,y5,z1,z2,z3,z4,z5,e1,g0]
     ·refine .inr ⟨fun h=>h6 (by rw[(hT.1 (hfin.1 h)).2];rfl),?_⟩
      simp (maxSteps:=300000) (disch:=omega) [↓if_pos,↓if_neg,-au,hcm,x5,y1,y2,y3,y4,y5,z1,z2,z3,z4,z5,e1,g0]
    ·refine .inr ⟨fun h=>h5 (hT.1 (hfin.1 h)).1,?_⟩
     simp (maxSteps:=300000) (disch:=omega) [↓if_pos,↓if_neg,-au,hcm,x5,y1,y2,y3,y4,y5,z1,z2,z3,z4,z5,e1,g0]
   | true =>
    rw[hcm]at e1
    have hT:zK f (c::r)↔(∃ d∈r.head?,sE c.info d.info)∧(if f.mask=1 then f.bands.length=c.info.groups.length∧∀ l∈f.bands,(l.length:Int)=c.info.max else f.bands=[]):=by simp only[zK,hcm,if_true]
    rcases hn with rfl | rfl
    ·have hr0:r=[]:=List.eq_nil_of_length_eq_zero (by rw[hch]at h1;simp only[List.length_cons]at h1;omega)
     refine .inr ⟨fun h=>?_,?_⟩
     ·obtain⟨⟨d,hd,_⟩,_⟩:=hT.1 (hfin.1 h)
      rw[hr0]at hd;simp at hd
     ·simp (maxSteps:=300000) (disch:=omega) [↓if_pos,↓if_neg,-au,hcm,x5,y1,y2,y3,y4,y5,z1,z2,z3,z4,z5,e1,g0]
    ·cases r with
     | nil=>rw[hch]at h1;simp at h1
     | cons d r2 =>
      obtain⟨k1,g1⟩:=List.getElem?_eq_some_iff.1 (kH (ar hdr))
      have hsm:=aje c.info d.info hci (hf.chans.2 d (by rw[hch];exact .tail _ (.head _))).info
      simp only[aD.cells]at hsm
      have hm0:=hmay c (by rw[hch];exact .head _)
      obtain⟨q1,q2⟩:=ei (lg (r:=rt.toNat) (by omega) hm0.info)
      have hmm:1≤c.info.many:=by unfold aD.many;split<;>omega
      have hgn:c.info.groups.length≠0:=fun h=>by rw[List.eq_nil_of_length_eq_zero h]at q2;simp at q2;omega
      have hgi:=bq (l:=c.info.groups)
      have hg8:c.info.groups.length≤1000:=hci.len
      by_cases hs:sE c.info d.info
      rotate_left
      ·rw[decide_eq_false hs]at hsm
       refine .inr ⟨fun h=>?_,?_⟩
       ·obtain⟨⟨d',hd',hss⟩,_⟩:=hT.1 (hfin.1 h)
        simp only[List.head?_cons,Option.mem_def,Option.some.injEq]at hd'
        subst hd';exact hs hss
       ·simp (maxSteps:=300000) (disch:=omega) [↓if_pos,↓if_neg,-au,hcm,x5,y1,y2,y3,y4,y5,z1,z2,z3,z4,z5,e1,g0,g1,hsm]
      rw[decide_eq_true hs]at hsm
      have hhd:∃ d'∈(d::r2).head?,sE c.info d'.info:=⟨d,by simp,hs⟩
      by_cases h5:f.mask=1
      rotate_left
      ·rw[if_neg h5]at hT
       by_cases h6:f.bands.length=0
       ·refine .inl ⟨hfin.2 (hT.2 ⟨hhd,List.eq_nil_of_length_eq_zero h6⟩),?_⟩
        simp (maxSteps:=300000) (disch:=omega) [↓if_pos,↓if_neg,-au,hcm,x5,y1,y2,y3,y4,y5,z1,z2,z3,z4,z5,e1,g0,g1,hsm]
       ·refine .inr ⟨fun h=>h6 (by rw[(hT.1 (hfin.1 h)).2];rfl),?_⟩
        simp (maxSteps:=300000) (disch:=omega) [↓if_pos,↓if_neg,-au,hcm,x5,y1,y2,y3,y4,y5,z1,z2,z3,z4,z5,e1,g0,g1,hsm]
      rw[if_pos h5]at hT
      by_cases h6:f.bands.length=c.info.groups.length
      rotate_left
      ·refine .inr ⟨fun h=>h6 (hT.1 (hfin.1 h)).2.1,?_⟩
       simp (maxSteps:=300000) (disch:=omega) [↓if_pos,↓if_neg,-au,hcm,x5,y1,y2,y3,y4,y5,z1,z2,z3,z4,z5,e1,g0,g1,hsm]
      have hye:=hY.ne fun h=>by have:=congrArg List.length h;rw[zP,List.length_nil]at this;omega
      subst hye
      obtain⟨M2,hM2,e2⟩:=Y5 (.fn o8 [] [.ptr M 0]) (fun l=>decide ((l.length:Int)≠c.info.max)) f.bands (by omega) [(0,.cells [.d (.int .i64 rt),.d (.int .i64 2),.d (.bool cb),.d (.int .i64 cz)]),(1,.cells [.d (.lst (bw f.chans)),.d (.bool true),.d (.int .i64 f.mask),.d (.lst (cK f.bands)),Z]),(M,.cells c.info.cells)] (M+1) rfl rfl fun l hl N hN=>by
       have:=anC c.info l (by have:=hf.bands.2 l hl;omega) [(0,.cells [.d (.int .i64 rt),.d (.int .i64 2),.d (.bool cb),.d (.int .i64 cz)]),(1,.cells [.d (.lst (bw f.chans)),.d (.bool true),.d (.int .i64 f.mask),.d (.lst (cK f.bands)),Z]),(M,.cells c.info.cells)] M N (by
        obtain⟨m0,m1⟩:M≠0∧M≠1:=by omega
        simp (maxSteps:=300000) (disch:=omega) [↓if_pos,↓if_neg])
       simpa using this
      simp only[aD.cells]at e2
      cases hB2:f.bands.any (fun l=>decide ((l.length:Int)≠c.info.max)) with
      | true =>
       rw[hB2]at e2
       refine .inr ⟨fun h=>?_,?_⟩
       ·obtain⟨l,hl,hx⟩:=List.any_eq_true.1 hB2
        exact of_decide_eq_true hx ((hT.1 (hfin.1 h)).2.2 l hl)
       ·simp (maxSteps:=300000) (disch:=omega) [↓if_pos,↓if_neg,-au,hcm,x5,y5,z1,z2,z3,z4,z5,e1,g0,g1,hsm,e2]
      | false =>
       rw[hB2]at e2
       refine .inl ⟨hfin.2 (hT.2 ⟨hhd,h6,fun l hl=>?_⟩),?_⟩
       ·have:=List.any_eq_false.1 hB2 l hl
        simpa using this
       ·simp (maxSteps:=300000) (disch:=omega) [↓if_pos,↓if_neg,-au,hcm,x5,y5,z1,z2,z3,z4,z5,e1,g0,g1,hsm,e2]
end Go.Vm
namespace Go.Vm
set_option maxHeartbeats 2000000
set_option maxRecDepth 100000
theorem ali {l:List Bool}:∀ x∈iF l,∀ y∈x,jG y=true:=by
 intro x hx y hy
 simp only[iF,List.mem_map]at hx
 obtain⟨b,_,rfl⟩:=hx
 simp only[List.mem_cons,List.not_mem_nil,or_false]at hy
 subst hy;rfl
theorem UU (xs:List (List Bool)) (hx:xs.length≤1000) (h:ac) (N:Nat):∀ (r:List (List Bool)) (i:Nat) (n:Nat),xs.drop i=r→n+r.flatten.length≤1000000000→
  (Dn prog).code (.loop dI) ⟨[(0,.d (.lst (cK xs))),(3,.d (.int .i64 n)),(9,.d (.lst (cK xs))),(10,.d (.int .i64 xs.length)),(11,.d (.int .i64 i))],⟨h,N⟩⟩ =
  some (.exit 0,⟨[(0,.d (.lst (cK xs))),(3,.d (.int .i64 (n+r.flatten.length:Nat)))],⟨h,N⟩⟩):=by
 intro r
 induction r with
 | nil =>
  intro i n hd hn
  have hi:=an hd
  rw[aa dI.eq_1]
  simp (maxSteps:=300000) (disch:=omega) [↓if_neg]
 | cons l r ih =>
  intro i n hd hn
  have hg:=qi hd
  have hlt:=ax hd
  simp only[List.flatten_cons,List.length_append]at hn⊢
  have h5:=ih (i+1) (n+l.length) (ar hd) (by omega)
  have c1:((i+1:Nat):Int)=(i:Int)+1:=rfl
  have c2:((n+l.length:Nat):Int)=(n:Int)+l.length:=rfl
  rw[c1,c2,Nat.add_assoc]at h5
  rw[aa dI.eq_1,←h5]
  simp (maxSteps:=300000) (disch:=omega) [↓if_pos,↓if_neg,hg,qt]
theorem ah6 (xs:List (List Bool)) (hx:xs.length≤1000) (h:ac) (N:Nat):∀ (r:List (List Bool)) (i:Nat) (acc:List Bool),xs.drop i=r→acc.length+r.flatten.length≤1000000000→
  (Dn prog).code (.loop bh) ⟨[(6,.own false 1 (iF acc)),(25,.d (.lst (cK xs))),(26,.d (.int .i64 xs.length)),(27,.d (.int .i64 i))],⟨h,N⟩⟩ =
  some (.exit 2,⟨[(6,.own false 1 (iF (acc++r.flatten)))],⟨h,N⟩⟩):=by
 intro r
 induction r with
 | nil =>
  intro i acc hd hn
  have hi:=an hd
  rw[aa bh.eq_1]
  simp (maxSteps:=300000) (disch:=omega) [↓if_neg]
 | cons l r ih =>
  intro i acc hd hn
  have hg:=qi hd
  have hlt:=ax hd
  simp only[List.flatten_cons,List.length_append]at hn⊢
  have h5:=ih (i+1) (acc++l) (ar hd) (by simp only[List.length_append];omega)
  have c1:((i+1:Nat):Int)=(i:Int)+1:=rfl
  rw[c1,List.append_assoc]at h5
  rw[aa bh.eq_1,←h5]
  simp (maxSteps:=300000) (disch:=omega) [↓if_pos,↓if_neg,hg,qt,anO]
theorem alZ (n:Nat) (hn:0<n∧n≤1000000000):(Dn prog).call jo [.nl,.d (.int .i64 n)] ⟨[],0⟩=some (.sl 0 0 0,⟨[(0,.arr 1 (List.replicate n [.bool false]))],1⟩):=by
 have e1:bz (.d (.int .i64 n)) aF=some n:=by rw[yf (by omega) (by simp only[aF];omega)];simp
 have e2:xX [.bool false] [] .nl (.d (.int .i64 n))=some (.own true 1 (List.replicate n [.bool false]),[]):=by
  unfold xX
  rw[e1]
  obtain⟨m,rfl⟩:∃ m,n=m+1:=⟨n-1,by omega⟩
  simp (maxSteps:=300000) (disch:=omega) [List.replicate_succ,↓if_pos]
 have e0:bz (.d (.int .i64 0)) n=some 0:=yf (by omega) (by omega)
 have e3:n6 [] 1 .nl none (some (.int .i64 0)) none=some .nl:=rfl
 have e4:n6 [(0,.arr 1 (List.replicate n [D.bool false]))] 1 (.sl 0 0 n) none (some (.int .i64 0)) none=some (.sl 0 0 0):=by
  simp[n6,okSl,nq,lenOf,vY,e0,lY]
 rw[aA tE jp.eq_1 rfl]
 simp (maxSteps:=300000) (disch:=omega) [↓if_pos,↓if_neg,Xj,e2,e3,e4]
theorem amM (xs:List (List Bool)) (hx:xs.length≤1000) (hn:0<xs.flatten.length∧xs.flatten.length≤1000000000):aL prog gP [.d (.lst (cK xs))]=some (.own true 1 (iF xs.flatten)):=by
 have h0:=UU xs hx [] 0 xs 0 0 rfl (by omega)
 have h2:=alZ xs.flatten.length hn
 have c0:((0:Nat):Int)=0:=rfl
 rw[Nat.zero_add,c0]at h0
 have hne:xs≠[]:=by intro h;subst h;simp at hn
 obtain⟨l,r,e⟩:=List.exists_cons_of_ne_nil hne
 have h1:=ah6 xs hx [] 1 r 1 l (by rw[e];rfl) (by rw[e]at hn;simpa using hn.2)
 have hg:=qi (g:=xs) (i:=0) (l:=l) (r:=r) (by rw[e];rfl)
 have hlt:0<xs.length:=List.length_pos_iff.2 hne
 have e5:l++r.flatten=xs.flatten:=by rw[e];rfl
 rw[e5]at h1
 have hll:l.length≤1000000000:=by rw[←e5,List.length_append]at hn;omega
 clear e5 e
 generalize xs.flatten=F at *
 have c1:((1:Nat):Int)=1:=rfl
 rw[c1]at h1
 rw[am qk gI.eq_1 rfl]
 simp (maxSteps:=300000) (disch:=omega) [↓if_pos,↓if_neg,h0,h2]
 rw[aa bh.eq_1]
 simp (maxSteps:=300000) (disch:=omega) [↓if_pos,↓if_neg,hg,qt,h1]
 exact ali
theorem afK (xs:List (List Bool)) (hx:xs.length≤1000) (h:ac) (N:Nat):∀ (r:List (List Bool)) (i:Nat),xs.drop i=r→(∀ l∈r,l=[])→
  (Dn prog).code (.loop bh) ⟨[(6,.nl),(25,.d (.lst (cK xs))),(26,.d (.int .i64 xs.length)),(27,.d (.int .i64 i))],⟨h,N⟩⟩ =
  some (.exit 2,⟨[(6,.nl)],⟨h,N⟩⟩):=by
 intro r
 induction r with
 | nil =>
  intro i hd hn
  have hi:=an hd
  rw[aa bh.eq_1]
  simp (maxSteps:=300000) (disch:=omega) [↓if_neg]
 | cons l r ih =>
  intro i hd hn
  have hl:=hn l (.head _)
  subst hl
  have hg:=qi hd
  have hlt:=ax hd
  have h5:=ih (i+1) (ar hd) fun q hq=>hn q (.tail _ hq)
  have c1:((i+1:Nat):Int)=(i:Int)+1:=rfl
  have n0:iF []=[]:=rfl
  rw[c1]at h5
  rw[n0]at hg
  rw[aa bh.eq_1,←h5]
  simp (maxSteps:=300000) (disch:=omega) [↓if_pos,↓if_neg,hg]
theorem La:(Dn prog).call jo [.nl,.d (.int .i64 0)] ⟨[],0⟩=some (.nl,⟨[],0⟩):=by
 rw[aA tE jp.eq_1 rfl]
 simp (maxSteps:=300000) (disch:=omega) [↓if_pos,↓if_neg,Xj]
theorem aon (xs:List (List Bool)) (hx:xs.length≤1000) (hn:xs.flatten.length≤1000000000) (X:AV) (hX:iv X (cK xs)):∃ v,aL prog gP [X]=some v∧firm v=aB 1 (iF xs.flatten):=by
 by_cases h:0<xs.flatten.length
 ·have hne:cK xs≠[]:=fun h2=>by
   have:=congrArg List.length h2
   rw[zP,List.length_nil]at this
   rw[List.eq_nil_of_length_eq_zero this]at h;simp at h
  refine⟨.own true 1 (iF xs.flatten),by rw[hX.ne hne];exact amM xs hx ⟨h,hn⟩,?_⟩
  rw[iM]
  ·rfl
  ·intro h2
   have:=congrArg List.length h2
   rw[qt,List.length_nil]at this;omega
 ·have h0:xs.flatten=[]:=List.eq_nil_of_length_eq_zero (by omega)
  have hz:∀ l∈xs,l=[]:=fun l hl=>List.flatten_eq_nil_iff.1 h0 l hl
  refine⟨.nl,?_,by rw[h0];rfl⟩
  rw[am qk gI.eq_1 rfl]
  rcases hX with rfl | ⟨rfl,hX⟩
  ·have e0:=UU xs hx [] 0 xs 0 0 rfl (by omega)
   have e1:=afK xs hx [] 0 xs 0 rfl hz
   have c0:((0:Nat):Int)=0:=rfl
   rw[Nat.zero_add,c0,h0,List.length_nil,c0]at e0
   rw[c0]at e1
   simp (maxSteps:=300000) (disch:=omega) [↓if_pos,↓if_neg,e0,e1,La]
  ·simp (maxSteps:=300000) (disch:=omega) [↓if_pos,↓if_neg,La]
   rw[aa dI.eq_1]
   simp (maxSteps:=300000) (disch:=omega) [↓if_pos,↓if_neg,La]
   rw[aa bh.eq_1]
   simp (maxSteps:=300000) (disch:=omega) [↓if_pos,↓if_neg,La]
end Go.Vm
namespace Go.Vm
set_option maxHeartbeats 2000000
set_option maxRecDepth 100000
def kC (l:List Nat):List Nat:=l.flatMap fun n=>ae n 8
theorem ze:∀ {l:List Nat},(kC l).length=8*l.length
 | []=>rfl
 | n::r=>by have:=ze (l:=r);rw[kC]at this⊢;rw[List.flatMap_cons,List.length_append,bK,List.length_cons];omega
abbrev auA (l:List Nat) (i:Int) (N:Nat):ak:=[(4,.ptr 0 0),(15,.d (.lst (ah l))),(16,.d (.int .i64 l.length)),(17,.d (.int .i64 i)),(23,.fn ib [] [.ptr (N+1) 0,.ptr N 0])]
abbrev hp8 (l:List Nat) (i n:Int) (N:Nat) (b:List Nat):ac:=[(0,.cells [.own false 1 (ah b)]),(N,.cells [.d (.int .i64 n)]),(N+1,.cells [.d (.int .i64 8)]),(N+2,.loop (auA l i N) [24] pR pP false none)]
theorem atP (l:List Nat) (i n:Int) (N:Nat) (hN:1≤N) (b:List Nat) (x:Nat) (hb:b.length≤800000000) :
  aP (Dn prog) (.yield (N+2)) [.d (.int .u8 (x:Int))] ⟨hp8 l i n N b,N+2+1⟩=some (.d (.bool true),⟨hp8 l i n N (b++[x]),N+2+1⟩):=by
 have hl:=bD (l:=b)
 have n1:N≠0∧N+1≠0∧N+2≠0:=by omega
 simp (maxSteps:=300000) (disch:=omega) [pR,pP,↓if_pos,↓if_neg]
theorem apm (n k:Int) (c:Obj) (N:Nat) (hN:1≤N):(Dn prog).call oJ [.d (.int .i64 n),.d (.int .i64 k)] ⟨[(0,c)],N⟩=some (.fn ib [] [.ptr (N+1) 0,.ptr N 0],⟨[(0,c),(N,.cells [.d (.int .i64 n)]),(N+1,.cells [.d (.int .i64 k)])],N+1+1⟩):=by
 rw[aA Nm ve.eq_1 rfl]
 simp (maxSteps:=300000) (disch:=omega) [↓if_pos,↓if_neg]
theorem agC {z:List D}{n:Int}(h:0≤n∧n≤1000000000):zV z (.d (.int .i64 0)) (.d (.int .i64 n))=some (.own true z.length []):=by
 obtain⟨n,rfl⟩:=Int.eq_ofNat_of_zero_le h.1
 have h1:bz (.d (.int .i64 (n:Int))) aF=some n:=by rw[yf (by omega) (by simp only[aF];omega)];simp
 have h2:bz (.d (.int .i64 0)) n=some 0:=yf (by omega) (by omega)
 simp only[zV,h1,h2]
 rfl
theorem ajW (l:List Nat) (hl:l.length≤100000) (hl2:∀ n∈l,n≤255):∀ (r:List Nat) (i N:Nat) (b:List Nat),l.drop i=r→b.length≤8*i→1≤N→
  ∃ M,(Dn prog).code (.loop iS) ⟨[(4,.ptr 0 0),(15,.d (.lst (ah l))),(16,.d (.int .i64 l.length)),(17,.d (.int .i64 i))],⟨[(0,.cells [.own false 1 (ah b)])],N⟩⟩ =
  some (.exit 0,⟨[(4,.ptr 0 0)],⟨[(0,.cells [.own false 1 (ah (b++kC r))])],M⟩⟩):=by
 intro r
 induction r with
 | nil =>
  intro i N b hd hb hN
  have hi:=an hd
  refine⟨N,?_⟩
  rw[aa iS.eq_1]
  simp (maxSteps:=300000) (disch:=omega) [↓if_pos,↓if_neg,kC]
 | cons n r ih =>
  intro i N b hd hb hN
  have hlt:=ax hd
  have hn:=hl2 n (List.mem_of_mem_drop (by rw[hd];exact .head _))
  have hg:(ah l)[i]?=some [.int .u8 n]:=by
   have:=congrArg (fun l=>l[0]?) hd
   simp only[List.getElem?_drop,List.getElem?_cons_zero,Nat.add_zero]at this
   rw[ah,List.getElem?_map,this];rfl
  have h1:=akn (hp:=hp8 l i n N) (l:=N+2) (p:=N) (q:=N+1) (N:=N+2+1) (st:=fun s x=>s++[x]) (bg:=fun k s=>s.length+k≤800000000) (fun k s x h=>by simp only[List.length_append,List.length_cons,List.length_nil];omega) n 8 (by omega) (by omega)
   (fun s=>by simp (maxSteps:=300000) (disch:=omega) [↓if_neg,↓if_pos]) (fun s=>by simp (maxSteps:=300000) (disch:=omega) [↓if_neg,↓if_pos]) (fun k s x h _=>atP l i n N hN s x (by omega)) b (by omega)
  rw[aew]at h1
  obtain⟨M,h5⟩:=ih (i+1) (N+2+1) (b++ae n 8) (ar hd) (by simp;omega) (by omega)
  refine⟨M,?_⟩
  have c1:((i+1:Nat):Int)=(i:Int)+1:=rfl
  have e:b++kC (n::r)=b++ae n 8++kC r:=by rw[kC,List.flatMap_cons,List.append_assoc];rfl
  rw[c1]at h5
  have n1:N≠0∧N+1≠0∧N+2≠0:=by omega
  rw[aa iS.eq_1,e,←h5]
  simp (maxSteps:=300000) (disch:=omega) [↓if_pos,↓if_neg,hg,n1,rd,apm,h1]
theorem af9 (l:List Nat) (hl:l.length≤100000) (hl2:∀ n∈l,n≤255) (X:AV) (hX:iv X (ah l)):aL prog wF [X]=some (.tup [.own true 1 (ah (kC l)),.d (.int .i64 0)]):=by
 have hl3:=bD (l:=l)
 have n0:ah []=[]:=rfl
 have c0:((0:Nat):Int)=0:=rfl
 obtain⟨M,h⟩:=ajW l hl hl2 l 0 1 [] rfl (by simp) (Nat.le_refl _)
 rw[c0,n0,List.nil_append]at h
 rw[am acb wP.eq_1 rfl]
 rcases hX with rfl | ⟨rfl,hX⟩
 ·simp (maxSteps:=300000) (disch:=omega) [↓if_pos,↓if_neg,agC,h]
 ·have:l=[]:=List.eq_nil_of_length_eq_zero (by rw[hX]at hl3;simpa using hl3.symm)
  subst this
  simp (maxSteps:=300000) (disch:=omega) [↓if_pos,↓if_neg,agC]
  rw[aa iS.eq_1]
  simp (maxSteps:=300000) (disch:=omega) [↓if_pos,↓if_neg,kC]
  rfl
end Go.Vm
namespace Go.Vm
set_option maxHeartbeats 2000000
set_option maxRecDepth 100000
theorem aaM {hp:AV→ac}{p N:Nat}(H:Hv hp p) {x:AV}{b:List Nat}(hx:inB x b) (hb:b.length≤900000000) (n s:Int) (ho:gJ n s) (hn:i64 n) :
  (Dn prog).call bV [.d (.int .i64 n),.d (.int .i64 s),.ptr p 0] ⟨hp x,N⟩=some (.tup [],⟨hp (.own false 1 (ah (b++ae n.toNat s.toNat))),N⟩):=by
 have h1:=fun x hx=>im b n s hb hn x hx
 simp only[if_pos ho]at h1
 rw[aA TZ sL.eq_1 rfl]
 rcases hx with rfl | rfl | ⟨rfl,rfl⟩
 ·have h2:=h1 _ (.inl rfl)
  simp (maxSteps:=300000) (disch:=omega) [H.get,H.put,h2]
 ·have h2:=h1 _ (.inl rfl)
  simp (maxSteps:=300000) (disch:=omega) [H.get,H.put,h2]
 ·have h2:=h1 _ (.inr ⟨rfl,rfl⟩)
  simp (maxSteps:=300000) (disch:=omega) [H.get,H.put,h2]
theorem yE {hp:AV→ac}{p N:Nat}(H:Hv hp p) {x:AV}{b:List Nat}(hx:inB x b) (hb:b.length≤900000000) (n s:Nat) (hs:s≤31) (ho:n<2 ^ s) (nI sI:Int) (en:nI=n) (es:sI=s) :
  (Dn prog).call bV [.d (.int .i64 nI),.d (.int .i64 sI),.ptr p 0] ⟨hp x,N⟩=some (.tup [],⟨hp (.own false 1 (ah (b++ae n s))),N⟩):=by
 subst en es
 have h31:2 ^ s≤2 ^ 31:=Nat.pow_le_pow_right (by omega) hs
 exact aaM H hx hb n s (by simp only[gJ,Int.toNat_natCast];omega) (by omega)
theorem agF (b:Bool):aL prog BZ [.d (.bool b)]=some (.d (.int .i64 (cond b 1 0:Nat))):=by
 rw[am ajF Kc.eq_1 rfl]
 cases b<;>simp (maxSteps:=300000) (disch:=omega)
abbrev RU (C F:List AV) (v:AV):ac:=[(0,.cells C),(1,.cells F),(2,.cells [v])]
theorem ap4 (C F:List AV):Hv (RU C F) 2:=⟨fun v=>by simp,fun v w=>by simp⟩
def Cv (l:List Bool):List Nat:=l.flatMap fun b=>ae (cond b 1 0) 1
theorem JW:∀ {l:List Bool},(Cv l).length=l.length
 | []=>rfl
 | n::r=>by have:=JW (l:=r);rw[Cv]at this⊢;rw[List.flatMap_cons,List.length_append,bK,List.length_cons];omega
theorem ah2 (C F:List AV) (l:List Bool) (hl:l.length≤1000000) (N:Nat):∀ (r:List Bool) (i:Nat) (b:List Nat),l.drop i=r→b.length+r.length≤900000000→
  (Dn prog).code (.loop kY) ⟨[(2,.ptr 0 0),(3,.ptr 1 0),(4,.ptr 2 0),(5,.fn bV [] [.ptr 2 0]),(45,aB 1 (iF l)),(46,.d (.int .i64 l.length)),(47,.d (.int .i64 i))],⟨RU C F (.own false 1 (ah b)),N⟩⟩ =
  some (.exit 1,⟨[(2,.ptr 0 0),(3,.ptr 1 0),(4,.ptr 2 0),(5,.fn bV [] [.ptr 2 0])],⟨RU C F (.own false 1 (ah (b++Cv r))),N⟩⟩):=by
 intro r
 induction r with
 | nil =>
  intro i b hd hb
  have hi:=an hd
  rw[aa kY.eq_1]
  simp (maxSteps:=300000) (disch:=omega) [↓if_neg,Cv]
 | cons x r ih =>
  intro i b hd hb
  simp only[List.length_cons]at hb
  have hg:=anP hd
  have hlt:=ax hd
  have hne:iF l≠[]:=fun h=>by have:=congrArg List.length h;rw[qt,List.length_nil]at this;omega
  have hc:(cond x 1 0:Nat)≤1:=by cases x<;>decide
  have h1:=yE (ap4 C F) (N:=N) (eG (b:=b)) (by omega) (cond x 1 0) 1 (by decide) (by omega) (cond x 1 0:Nat) 1 rfl rfl
  have h2:=agF x
  have h5:=ih (i+1) (b++ae (cond x 1 0) 1) (ar hd) (by simp;omega)
  have c1:((i+1:Nat):Int)=(i:Int)+1:=rfl
  rw[c1,List.append_assoc,iM hne]at h5
  have e:Cv (x::r)=ae (cond x 1 0) 1++Cv r:=rfl
  simp only[RU]at h1 h5⊢
  rw[aa kY.eq_1,e,←h5,iM hne]
  generalize ((cond x 1 0:Nat):Int)=K at *
  simp (maxSteps:=300000) (disch:=omega) [↓if_pos,↓if_neg,hg,h1,h2]
def fA (rt:Nat) (q:Bool) (l:List aK):List Nat:=l.flatMap fun c=>DL rt c q
theorem GX {rt:Nat}{q:Bool}(hR:rt≤11):∀ {l:List aK},(∀ c∈l,c.Fit∧pV rt c)→(fA rt q l).length≤170000000*l.length
 | [],_=>by simp[fA]
 | c::r,h=>by
  have a:=aeU (h c (.head _)).1 (h c (.head _)).2 hR q
  have b:=GX hR (l:=r) (q:=q) fun x hx=>h x (.tail _ hx)
  rw[fA]at b⊢
  rw[List.flatMap_cons,List.length_append,List.length_cons];omega
theorem aiv (R:Nat) (hR:R≤11) (n:Int) (c2 c3:AV) (f:cX) (A:AV) (m:Int) (Y Z:AV) (l:List aK) (hl:l.length≤2) (hc:∀ c∈l,c.Fit∧pV R c):∀ (r:List aK) (i N:Nat) (b:List Nat),l.drop i=r→b.length≤1000+170000000*i→3≤N→
  ∃ M,(Dn prog).code (.loop kU) ⟨[(2,.ptr 0 0),(3,.ptr 1 0),(4,.ptr 2 0),(5,.fn bV [] [.ptr 2 0]),(63,.d (.lst (bw l))),(64,.d (.int .i64 l.length)),(65,.d (.int .i64 i))],⟨RU [.d (.int .i64 R),.d (.int .i64 n),c2,c3] [A,.d (.bool f.common),.d (.int .i64 m),Y,Z] (.own false 1 (ah b)),N⟩⟩ =
  some (.exit 3,⟨[(3,.ptr 1 0),(4,.ptr 2 0),(5,.fn bV [] [.ptr 2 0])],⟨[(1,.cells [A,.d (.bool f.common),.d (.int .i64 m),Y,Z]),(2,.cells [.own false 1 (ah (b++fA R f.common r))])],M⟩⟩):=by
 intro r
 induction r with
 | nil =>
  intro i N b hd hb hN
  have hi:=an hd
  refine⟨N,?_⟩
  rw[aa kU.eq_1]
  simp (maxSteps:=300000) (disch:=omega) [↓if_neg,fA]
 | cons c r ih =>
  intro i N b hd hb hN
  have hg:=kH hd
  have hlt:=ax hd
  obtain⟨hcf,hcm⟩:=hc c (List.mem_of_mem_drop (by rw[hd];exact .head _))
  have hil:=aeU hcf hcm hR f.common
  have hp:aL prog qx [.d (.lst (ah b)),.d (.int .i64 R),.agg c.av,.d (.bool f.common)]=some (.tup [.own true 1 (ah (b++DL R c f.common)),.d (.int .i64 0)]):=by
   rcases aoN b (by omega) _ (.inl rfl) R c hcf f.common with ⟨_,_,h⟩ | ⟨e,he,h,h2,_⟩
   ·simpa using h
   ·exact absurd hcm (by have:=h2 (by simp only[ef];omega);simpa using this)
  simp only[aK.av]at hp
  obtain⟨M,h5⟩:=ih (i+1) (N+1) (b++DL R c f.common) (ar hd) (by simp;omega) (by omega)
  refine⟨M,?_⟩
  have c1:((i+1:Nat):Int)=(i:Int)+1:=rfl
  rw[c1,List.append_assoc]at h5
  have e:fA R f.common (c::r)=DL R c f.common++fA R f.common r:=rfl
  have n0:N≠0∧N≠1∧N≠2:=by omega
  simp only[RU]at h5⊢
  rw[aa kU.eq_1,e,←h5]
  generalize b++DL R c f.common=B1 at *
  simp (maxSteps:=300000) (disch:=omega) [↓if_pos,↓if_neg,hg,hp]
end Go.Vm
namespace Go.Vm
set_option maxHeartbeats 2000000
set_option maxRecDepth 100000
def XT (n:Nat):Nat:=(8-n % 8) % 8
def xh (b:List Nat):List Nat:=b++List.replicate (XT b.length) 0
def j4 (l:List Nat):List Nat:=if l=[] then [] else ae 6 3++(ae (min l.length 15) 4++((if 15≤l.length then ae (l.length-14) 8 else [])++kC l))
theorem au5:Hv (fun v=>[(2,.cells [v])]) 2:=⟨fun v=>by simp,fun v w=>by simp⟩
theorem ah8 (F:List AV):Hv (fun v=>[(1,.cells F),(2,.cells [v])]) 2:=⟨fun v=>by simp,fun v w=>by simp⟩
theorem IC {a b:List Nat}:ah (a++b)=ah a++ah b:=by simp[ah]
theorem amH {h:ac}{b:List Nat}(hb:b.length≤900000000) (k:Nat) (hk:k≤8) (K:Int) (hK:K=k):xX [.int .u8 0] h (.own false 1 (ah b)) (.d (.int .i64 K))=some (.own false 1 (ah (b++List.replicate k 0)),h):=by
 subst hK
 have e1:bz (.d (.int .i64 k)) aF=some k:=by rw[yf (by omega) (by simp only[aF];omega)];simp
 have e2:List.replicate k [D.int .u8 0]=ah (List.replicate k 0):=by simp[ah]
 have e3:(ah (List.replicate k 0)).length=k:=by rw[bD];simp
 have hl:=bD (l:=b)
 unfold xX
 rw[e1]
 simp only[e2,IC]
 generalize ah (List.replicate k 0)=Z at *
 generalize ah b=B at *
 simp (maxSteps:=300000) (disch:=omega)
 exact⟨by omega,if_pos (by omega)⟩
theorem afp (b:List Nat) (hb:b.length≤800000000) (N:Nat):(Dn prog).code (.seq om (.seq oi .ret)) ⟨[(4,.ptr 2 0),(5,.fn bV [] [.ptr 2 0])],⟨[(2,.cells [.own false 1 (ah b)])],N⟩⟩ =
  some (.ret,⟨[(4,.ptr 2 0)],⟨[(2,.cells [.own false 1 (ah (xh (b++ae 7 3)))])],N⟩⟩):=by
 have h1:=yE au5 (N:=N) (eG (b:=b)) (by omega) 7 3 (by decide) (by decide) 7 3 rfl rfl
 have hl:(ah (b++ae 7 3)).length=b.length+3:=by rw[bD,List.length_append,bK]
 obtain⟨r,hr⟩:∃ r,r=(b.length+3) % 8:=⟨_,rfl⟩
 have t1:((b.length:Int)+3).tmod 8=(r:Int):=by rw[Int.tmod_eq_emod_of_nonneg (by omega)];omega
 have t2:(8-(r:Int)).tmod 8=(((8-r) % 8:Nat):Int):=by rw[Int.tmod_eq_emod_of_nonneg (by omega)];omega
 have e:b++ae 7 3++List.replicate ((8-r) % 8) 0=xh (b++ae 7 3):=by rw[xh,XT,List.length_append,bK,hr]
 have h2:=fun h K hK=>amH (h:=h) (b:=b++ae 7 3) (by simp;omega) ((8-r) % 8) (by omega) K hK
 rw[e]at h2
 have h3:=fun h=>h2 h _ t2
 generalize xh (b++ae 7 3)=B2 at *
 generalize b++ae 7 3=B1 at *
 simp (maxSteps:=300000) (disch:=omega) [↓if_pos,↓if_neg,h1,hl,t1,h3]
theorem aee (A0 A1 A2 A3 Z:AV) (l:List Nat) (hl:l.length≤269) (hl2:∀ n∈l,n≤255) (hZ:iv Z (ah l)) (b:List Nat) (hb:b.length≤700000000) (N:Nat) (T:VC) :
  (Dn prog).code (.seq (.seq nZ
 (.seq oe
 (.cond (.m 84)
 (.seq n5
 (.seq ou
 (.seq (.seq oa
 (.cond (.m 92)
 oh
 (.seq (K [10]) .skip)))
 (.seq (.seq n8 (F 3))
 ot))))
 (.seq (.seq (K [10]) (F 3)) .skip)))) T) ⟨[(3,.ptr 1 0),(4,.ptr 2 0),(5,.fn bV [] [.ptr 2 0])],⟨[(1,.cells [A0,A1,A2,A3,Z]),(2,.cells [.own false 1 (ah b)])],N⟩⟩ =
  (Dn prog).code T ⟨[(4,.ptr 2 0),(5,.fn bV [] [.ptr 2 0])],⟨[(2,.cells [.own false 1 (ah (b++j4 l))])],N⟩⟩:=by
 obtain⟨⟨z1,z2,z3⟩,z4,z5⟩:=hZ.facts
 have zl:=bD (l:=l)
 have hu:=af9 l (by omega) hl2 Z hZ
 have ul:=ze (l:=l)
 have uz:=bD (l:=kC l)
 by_cases h0:l.length=0
 ·have:l=[]:=List.eq_nil_of_length_eq_zero h0
  rw[j4,if_pos this,List.append_nil]
  simp (maxSteps:=300000) (disch:=omega) [↓if_pos,↓if_neg,-au,z1,z2,z3,z4,z5]
 have hne:l≠[]:=fun h=>h0 (by rw[h];rfl)
 have hze:=hZ.ne fun h=>h0 (by rw[h]at zl;exact zl.symm)
 subst hze
 rw[j4,if_neg hne]
 have p1:=yE (ah8 [A0,A1,A2,A3,.d (.lst (ah l))]) (N:=N) (eG (b:=b)) (by omega) 6 3 (by decide) (by decide) 6 3 rfl rfl
 have p2:=fun nI h=>yE (ah8 [A0,A1,A2,A3,.d (.lst (ah l))]) (N:=N) (eG (b:=b++ae 6 3)) (by simp;omega) (min l.length 15) 4 (by decide) (by omega) nI 4 h rfl
 by_cases h15:15≤l.length
 ·have p3:=yE (ah8 [A0,A1,A2,A3,.d (.lst (ah l))]) (N:=N) (eG (b:=b++ae 6 3++ae (min l.length 15) 4)) (by simp;omega) (l.length-14) 8 (by decide) (by omega) ((l.length:Int)-14) 8 (by omega) rfl
  rw[if_pos h15]
  simp only[←List.append_assoc]
  have hl3:(b++ae 6 3++ae (min l.length 15) 4++ae (l.length-14) 8).length≤800000000:=by simp;omega
  have e:ah (b++ae 6 3++ae (min l.length 15) 4++ae (l.length-14) 8)++ah (kC l)=ah (b++ae 6 3++ae (min l.length 15) 4++ae (l.length-14) 8++kC l):=IC.symm
  generalize b++ae 6 3++ae (min l.length 15) 4++ae (l.length-14) 8++kC l=B9 at *
  generalize b++ae 6 3++ae (min l.length 15) 4++ae (l.length-14) 8=B3 at *
  generalize b++ae 6 3++ae (min l.length 15) 4=B2 at *
  generalize b++ae 6 3=B1 at *
  generalize kC l=U at *
  by_cases h16:15<l.length
  ·have p2:=p2 15 (by omega)
   simp (maxSteps:=300000) (disch:=omega) [↓if_pos,↓if_neg,-au,z1,z2,z3,z4,z5,p1,p2,p3,hu,e]
  ·have p2:=p2 l.length (by omega)
   simp (maxSteps:=300000) (disch:=omega) [↓if_pos,↓if_neg,-au,z1,z2,z3,z4,z5,p1,p2,p3,hu,e]
 ·rw[if_neg h15,List.nil_append]
  simp only[←List.append_assoc]
  have hl3:(b++ae 6 3++ae (min l.length 15) 4).length≤800000000:=by simp;omega
  have e:ah (b++ae 6 3++ae (min l.length 15) 4)++ah (kC l)=ah (b++ae 6 3++ae (min l.length 15) 4++kC l):=IC.symm
  generalize b++ae 6 3++ae (min l.length 15) 4++kC l=B9 at *
  generalize b++ae 6 3++ae (min l.length 15) 4=B2 at *
  generalize b++ae 6 3=B1 at *
  generalize kC l=U at *
  have p2:=p2 l.length (by omega)
  simp (maxSteps:=300000) (disch:=omega) [↓if_pos,↓if_neg,-au,z1,z2,z3,z4,z5,p1,p2,hu,e]
end Go.Vm
namespace Go.Vm
set_option maxHeartbeats 2000000
set_option maxRecDepth 100000
def acr (f:cX):List Nat:=match f.chans with
 | []=>[]
 | c::_=>jk c.info
def dz (n:Int) (f:cX):List Nat:=if n=1 then ae 0 3++ae 0 4 else if f.common then ae 1 3++ae 0 4++ae 1 1++acr f++ae f.mask.toNat 2++Cv f.bands.flatten else ae 1 3++ae 0 4++ae 0 1
def mn (R:Nat) (n:Int) (f:cX):List Nat:=xh (dz n f++fA R f.common f.chans++j4 f.fill++ae 7 3)
theorem aal {k:Nat}:∀ {l:List (List Bool)},(∀ x∈l,x.length≤k)→l.flatten.length≤k*l.length
 | [],_=>by simp
 | x::r,h=>by
  have a:=h x (.head _)
  have b:=aal (l:=r) fun y hy=>h y (.tail _ hy)
  rw[List.flatten_cons,List.length_append,List.length_cons,Nat.mul_add];omega
theorem ZH {R:Nat}(hR:R≤11) {n:Int}{f:cX}(ok:wX R n f):f.bands.flatten.length≤320:=by
 have h:=ok.rest
 cases hc:f.chans with
 | nil=>rw[hc]at h;exact h.elim
 | cons c r =>
  rw[hc]at h
  have hm:=ok.may c (by rw[hc];exact .head _)
  have hmx:=lG (lg hR hm.info)
  obtain⟨g1,g2⟩:=ei (lg hR hm.info)
  have hmm:c.info.many≤8:=by unfold aD.many;split<;>omega
  have hgl:c.info.groups.length≤8:=by have:=lE (fun n hn=>(g1 n hn).1);omega
  simp only[zK]at h
  split at h
  ·obtain⟨_,h⟩:=h
   split at h
   ·obtain⟨h1,h2⟩:=h
    have:=aal (k:=40) (l:=f.bands) fun x hx=>by have:=h2 x hx;omega
    omega
   ·rw[h];simp
  ·rw[h.2];simp
theorem iv.view {x:AV}{l:List (List D)}(h:iv x l):(∀ hp,viewArg hp x=some x)∧kJ x=false:=by
 rcases h with rfl | ⟨rfl,rfl⟩<;>exact⟨fun _=>rfl,rfl⟩
theorem NH (R:Nat) (hR:R≤11) (n:Int) (hn:n=1∨n=2) (cb:Bool) (cz:Int) (f:cX) (hf:f.Fit) (ok:wX R n f) (X Y Z:AV) (hX:iv X (bw f.chans)) (hY:iv Y (cK f.bands)) (hZ:iv Z (ah f.fill)) :
  aL prog lj [ke R n cb cz,xF f X Y Z]=some (.own true 1 (ah (mn R n f))):=by
 obtain⟨⟨y1,y2,y3⟩,y4,y5⟩:=hY.facts
 obtain⟨⟨z1,z2,z3⟩,z4,z5⟩:=hZ.facts
 have hlen:=ok.len
 have hfl:=ok.fill
 have hmk:=ok.mask
 have hne:bw f.chans≠[]:=fun h=>by have:=congrArg List.length h;rw[mt,List.length_nil]at this;omega
 have hxe:=hX.ne hne
 subst hxe
 have hmay:∀ c∈f.chans,c.Fit∧pV R c:=fun c hc=>⟨hf.chans.2 c hc,ok.may c hc⟩
 have hcl:=GX hR (q:=f.common) hmay
 have hbl:=ZH hR ok
 have hr:ef R:=by simp only[ef];omega
 rw[am abw xq.eq_1 rfl]
 obtain⟨T,hT⟩:∃ T,T=(VC.seq (.seq nZ
 (.seq oe
 (.cond (.m 84)
 (.seq n5
 (.seq ou
 (.seq (.seq oa
 (.cond (.m 92)
 oh
 (.seq (K [10]) .skip)))
 (.seq (.seq n8 (F 3))
 ot))))
 (.seq (.seq (K [10]) (F 3)) .skip))))
 (.seq om
 (.seq oi
 .ret))):=⟨_,rfl⟩
 rw[←hT]
 have hfill:(j4 f.fill).length≤10000:=by
  unfold j4
  split
  ·simp
  ·simp only[List.length_append,bK,ze];split<;>simp<;>omega
 have hTr:∀ (b:List Nat) (N:Nat),b.length≤600000000→(Dn prog).code T ⟨[(3,.ptr 1 0),(4,.ptr 2 0),(5,.fn bV [] [.ptr 2 0])],⟨[(1,.cells [.d (.lst (bw f.chans)),.d (.bool f.common),.d (.int .i64 f.mask),Y,Z]),(2,.cells [.own false 1 (ah b)])],N⟩⟩=some (.ret,⟨[(4,.ptr 2 0)],⟨[(2,.cells [.own false 1 (ah (xh (b++j4 f.fill++ae 7 3)))])],N⟩⟩):=by
  intro b N hb
  rw[hT,aee _ _ _ _ Z f.fill hfl hf.fillI hZ b (by omega) N _,afp _ (by rw[List.length_append];omega)]
 have hL:=fun(b:List Nat) (hb:b.length≤1000)=>aiv R hR n (.d (.bool cb)) (.d (.int .i64 cz)) f (.d (.lst (bw f.chans))) f.mask Y Z f.chans (by omega) hmay f.chans 0 3 b rfl (by omega) (Nat.le_refl _)
 have c0:((0:Nat):Int)=0:=rfl
 simp only[c0,RU]at hL
 have pp:=fun {x:AV}{b:List Nat}(hx:inB x b) (hb:b.length≤1000)=>yE (ap4 [.d (.int .i64 R),.d (.int .i64 n),.d (.bool cb),.d (.int .i64 cz)] [.d (.lst (bw f.chans)),.d (.bool f.common),.d (.int .i64 f.mask),Y,Z]) (N:=3) hx (by omega)
 simp only[RU]at pp
 by_cases hn1:n=1
 ·subst hn1
  have q1:=pp (.inr (.inr ⟨rfl,rfl⟩)) (by simp) 0 3 (by decide) (by decide) 0 3 rfl rfl
  have q2:=pp (eG (b:=[]++ae 0 3)) (by simp) 0 4 (by decide) (by decide) 0 4 rfl rfl
  have e:dz 1 f=[]++ae 0 3++ae 0 4:=by rw[dz,if_pos rfl];rfl
  obtain⟨M,h1⟩:=hL (dz 1 f) (by rw[e];simp)
  have h2:=hTr (dz 1 f++fA R f.common f.chans) M (by rw[List.length_append,e];simp;omega)
  have ew:xh (dz 1 f++fA R f.common f.chans++j4 f.fill++ae 7 3)=mn R 1 f:=rfl
  rw[←e]at q2
  rw[ew]at h2
  generalize mn R 1 f=W at *
  generalize dz 1 f++fA R f.common f.chans=B2 at *
  generalize dz 1 f=B1 at *
  generalize []++ae 0 3=B0 at *
  simp (maxSteps:=300000) (disch:=omega) [↓if_pos,↓if_neg,-au,y1,y2,y3,y4,y5,z1,z2,z3,z4,z5,q1,q2,h1,h2]
 have hn2:n=2:=by omega
 subst hn2
 cases hch:f.chans with
 | nil=>rw[hch]at hlen;simp at hlen
 | cons c r =>
 have hdr:f.chans.drop 0=c::r:=hch
 obtain⟨k0,g0⟩:=List.getElem?_eq_some_iff.1 (kH hdr)
 have hcm:=ok.may c (by rw[hch];exact .head _)
 rw[←hch]
 have q1:=pp (.inr (.inr ⟨rfl,rfl⟩)) (by simp) 1 3 (by decide) (by decide) 1 3 rfl rfl
 have q2:=pp (eG (b:=[]++ae 1 3)) (by simp) 0 4 (by decide) (by decide) 0 4 rfl rfl
 have hb1:=agF f.common
 have xl:=mt (l:=f.chans)
 cases hco:f.common with
 | false =>
  have q3:=pp (eG (b:=[]++ae 1 3++ae 0 4)) (by simp) 0 1 (by decide) (by decide) 0 1 rfl rfl
  have e:dz 2 f=[]++ae 1 3++ae 0 4++ae 0 1:=by rw[dz,if_neg (by decide),hco];rfl
  obtain⟨M,h1⟩:=hL (dz 2 f) (by rw[e];simp)
  have h2:=hTr (dz 2 f++fA R f.common f.chans) M (by rw[List.length_append,e];simp;omega)
  have ew:xh (dz 2 f++fA R f.common f.chans++j4 f.fill++ae 7 3)=mn R 2 f:=rfl
  rw[←e]at q3
  rw[ew]at h2
  rw[hco]at q1 q2 q3 h1 h2 hb1
  generalize mn R 2 f=W at *
  generalize dz 2 f++fA R false f.chans=B2 at *
  generalize dz 2 f=B1 at *
  generalize []++ae 1 3++ae 0 4=B00 at *
  generalize []++ae 1 3=B0 at *
  simp only[cond]at hb1
  simp (maxSteps:=300000) (disch:=omega) [↓if_pos,↓if_neg,-au,y1,y2,y3,y4,y5,z1,z2,z3,z4,z5,hco,hb1,q1,q2,q3,h1,h2]
 | true =>
  have ht:=ok.rest
  simp only[hch,zK,hco,if_true]at ht
  have hil:=Cg (i:=c.info)
  have q3:=pp (eG (b:=[]++ae 1 3++ae 0 4)) (by simp) 1 1 (by decide) (by decide) 1 1 rfl rfl
  have q4:=adV ([]++ae 1 3++ae 0 4++ae 1 1) (by simp) _ (.inl rfl) R c.info (hf.chans.2 c (by rw[hch];exact .head _)).info
  rw[if_pos hr,Int.toNat_natCast,if_pos hcm.info]at q4
  have q5:=pp (eG (b:=[]++ae 1 3++ae 0 4++ae 1 1++jk c.info)) (by simp;omega) f.mask.toNat 2 (by decide) (by omega) f.mask 2 (by omega) rfl
  have q6:=ah2 [.d (.int .i64 R),.d (.int .i64 2),.d (.bool cb),.d (.int .i64 cz)] [.d (.lst (bw f.chans)),.d (.bool true),.d (.int .i64 f.mask),Y,Z] f.bands.flatten (by omega) 3 f.bands.flatten 0 ([]++ae 1 3++ae 0 4++ae 1 1++jk c.info++ae f.mask.toNat 2) rfl (by simp only[List.length_append,bK,List.length_nil];omega)
  obtain⟨v,v1,v2⟩:=aon f.bands hf.bands.1 (by omega) Y hY
  have e:dz 2 f=[]++ae 1 3++ae 0 4++ae 1 1++jk c.info++ae f.mask.toNat 2++Cv f.bands.flatten:=by rw[dz,if_neg (by decide),hco,if_pos rfl,acr,hch];rfl
  have hml:=JW (l:=f.bands.flatten)
  obtain⟨M,h1⟩:=hL (dz 2 f) (by rw[e];simp;omega)
  have h2:=hTr (dz 2 f++fA R f.common f.chans) M (by rw[List.length_append,e];simp;omega)
  have ew:xh (dz 2 f++fA R f.common f.chans++j4 f.fill++ae 7 3)=mn R 2 f:=rfl
  rw[←e]at q6
  rw[ew]at h2
  rw[hco]at q1 q2 q3 q5 h1 h2 hb1
  rw[c0]at q6
  simp only[RU,aD.cells]at q4 q6
  generalize mn R 2 f=W at *
  generalize dz 2 f++fA R true f.chans=B2 at *
  generalize dz 2 f=B1 at *
  generalize []++ae 1 3++ae 0 4++ae 1 1++jk c.info++ae f.mask.toNat 2=B04 at *
  generalize []++ae 1 3++ae 0 4++ae 1 1++jk c.info=B03 at *
  generalize []++ae 1 3++ae 0 4++ae 1 1=B02 at *
  generalize []++ae 1 3++ae 0 4=B01 at *
  generalize []++ae 1 3=B0 at *
  obtain⟨vw1,vw2⟩:=hY.view
  have hfv:lenOf (share (aB 1 (iF f.bands.flatten)))=some f.bands.flatten.length:=by
   rw[←qt (l:=f.bands.flatten)]
   cases iF f.bands.flatten<;>rfl
  simp only[cond]at hb1
  clear e hbl hml
  generalize f.bands.flatten=FL at *
  simp (maxSteps:=300000) (disch:=omega) [↓if_pos,↓if_neg,-au,y1,y2,y3,y4,y5,z1,z2,z3,z4,z5,hco,g0,hb1,q1,q2,q3,q4,q5,q6,vw1,vw2,v1,v2,hfv,h1,h2]
end Go.Vm
namespace Go.Vm
set_option maxHeartbeats 2000000
set_option maxRecDepth 100000
def GM (rt n:Int):Prop:=ef rt∧(n=1∨n=2)
theorem ain (rt n:Int) (cb:Bool) (cz:Int):(GM rt n∧aL prog sF [ke rt n cb cz]=some (.d (.bool true)))∨(¬ GM rt n∧aL prog sF [ke rt n cb cz]=some (.d (.bool false))):=by
 rw[am adw AC.eq_1 rfl]
 by_cases h1:0≤rt
 rotate_left
 ·refine .inr ⟨fun h=>h1 h.1.1,?_⟩
  simp (maxSteps:=300000) (disch:=omega) [↓if_pos,↓if_neg]
 by_cases h2:rt≤11
 rotate_left
 ·refine .inr ⟨fun h=>h2 h.1.2,?_⟩
  simp (maxSteps:=300000) (disch:=omega) [↓if_pos,↓if_neg]
 by_cases h3:n=1
 ·refine .inl ⟨⟨⟨h1,h2⟩,.inl h3⟩,?_⟩
  simp (maxSteps:=300000) (disch:=omega) [↓if_pos,↓if_neg,h3]
 by_cases h4:n=2
 ·refine .inl ⟨⟨⟨h1,h2⟩,.inr h4⟩,?_⟩
  simp (maxSteps:=300000) (disch:=omega) [↓if_pos,↓if_neg,h4]
 ·refine .inr ⟨fun h=>h.2.elim h3 h4,?_⟩
  simp (maxSteps:=300000) (disch:=omega) [↓if_pos,↓if_neg,h3,h4]
theorem K4 {R:Nat}(hR:R≤11) {n:Int}{f:cX}(hf:f.Fit) (ok:wX R n f) (hn:n≤2):(mn R n f).length≤400000000:=by
 have h1:=GX hR (q:=f.common) (l:=f.chans) fun c hc=>⟨hf.chans.2 c hc,ok.may c hc⟩
 have h2:=ZH hR ok
 have h3:=JW (l:=f.bands.flatten)
 have h4:=ok.len
 have h5:=ok.fill
 have h6:(j4 f.fill).length≤10000:=by
  unfold j4
  split
  ·simp
  ·simp only[List.length_append,bK,ze];split<;>simp<;>omega
 have h7:(acr f).length≤20:=by
  unfold acr
  split
  ·simp
  ·exact Cg
 have h8:(dz n f).length≤1000:=by
  unfold dz
  split
  ·simp
  ·split
   ·simp only[List.length_append,bK];omega
   ·simp
 have h9:∀ m,XT m≤7:=fun m=>by unfold XT;omega
 have h10:=h9 (dz n f++fA R f.common f.chans++j4 f.fill++ae 7 3).length
 rw[mn,xh,List.length_append,List.length_replicate]
 simp only[List.length_append,bK]at h10⊢
 omega
theorem iv.one {x:AV}{l:List (List D)}(h:iv x l):((∀ hp,viewOne hp x=some x)∧eM x=x)∧kT x=false:=by
 rcases h with rfl | ⟨rfl,rfl⟩<;>exact⟨⟨fun _=>rfl,rfl⟩,rfl⟩
theorem As (rt n:Int) (cb:Bool) (cz:Int) (f:cX) (hf:f.Fit) (X Y Z:AV) (hX:iv X (bw f.chans)) (hY:iv Y (cK f.bands)) (hZ:iv Z (ah f.fill)) :
  (GM rt n∧wX rt.toNat n f∧aL prog fk [ke rt n cb cz,xF f X Y Z]=some (.tup [.d (.int .i64 (mn rt.toNat n f).length),.d (.int .i64 0)]))∨
  (¬ (GM rt n∧wX rt.toNat n f)∧∃ e:Int,e≠0∧aL prog fk [ke rt n cb cz,xF f X Y Z]=some (.tup [.d (.int .i64 0),.d (.int .i64 e)])):=by
 obtain⟨⟨x1,x2,x3⟩,x4,x5⟩:=hX.facts
 obtain⟨⟨y1,y2,y3⟩,y4,y5⟩:=hY.facts
 obtain⟨⟨z1,z2,z3⟩,z4,z5⟩:=hZ.facts
 obtain⟨⟨vx,ux⟩,wx⟩:=hX.one
 obtain⟨⟨vy,uy⟩,wy⟩:=hY.one
 obtain⟨⟨vz,uz⟩,wz⟩:=hZ.one
 have hcf:=ain rt n cb cz
 simp only[ke,xF]at hcf
 rcases hcf with ⟨hc,ec⟩ | ⟨hc,ec⟩
 rotate_left
 ·refine .inr ⟨fun h=>hc h.1,2,by decide,?_⟩
  rw[am Gs rI.eq_1 rfl]
  simp (maxSteps:=300000) (disch:=omega) [↓if_pos,↓if_neg,-au,x1,x2,x3,x4,y1,y2,y3,y4,z1,z2,z3,z4,ec]
 have hrg:=ai2 rt n cb cz hc.1 hc.2 f hf X Y Z hX hY hZ
 simp only[ke,xF]at hrg
 rcases hrg with ⟨hr,er⟩ | ⟨hr,er⟩
 rotate_left
 ·refine .inr ⟨fun h=>hr h.2,8,by decide,?_⟩
  rw[am Gs rI.eq_1 rfl]
  simp (maxSteps:=300000) (disch:=omega) [↓if_pos,↓if_neg,-au,x1,x2,x3,x4,y1,y2,y3,y4,z1,z2,z3,z4,ux,uy,uz,vx,vy,vz,wx,wy,wz,ec,er]
 refine .inl ⟨hc,hr,?_⟩
 obtain⟨R,rfl⟩:=Int.eq_ofNat_of_zero_le hc.1.1
 simp only[Int.toNat_natCast]at hr⊢
 have hR:R≤11:=by have:=hc.1.2;omega
 have hw:=NH R hR n hc.2 cb cz f hf hr X Y Z hX hY hZ
 have hwl:=K4 hR hf hr (by rcases hc.2 with h | h<;>omega)
 have hbl:=bD (l:=mn R n f)
 simp only[ke,xF]at hw
 generalize mn R n f=W at *
 rw[am Gs rI.eq_1 rfl]
 simp (maxSteps:=300000) (disch:=omega) [↓if_pos,↓if_neg,-au,x1,x2,x3,x4,y1,y2,y3,y4,z1,z2,z3,z4,ux,uy,uz,vx,vy,vz,wx,wy,wz,ec,er,hw]
theorem Z8 (rt n:Int) (cb:Bool) (cz:Int) (f:cX) (hf:f.Fit) (X Y Z:AV) (hX:iv X (bw f.chans)) (hY:iv Y (cK f.bands)) (hZ:iv Z (ah f.fill)) :
  (GM rt n∧wX rt.toNat n f∧((mn rt.toNat n f).length:Int)≤1536*n∧aL prog lF [ke rt n cb cz,xF f X Y Z]=some (.d (.int .i64 0)))∨
  (¬ (GM rt n∧wX rt.toNat n f∧((mn rt.toNat n f).length:Int)≤1536*n)∧∃ e:Int,e≠0∧aL prog lF [ke rt n cb cz,xF f X Y Z]=some (.d (.int .i64 e))):=by
 obtain⟨⟨x1,x2,x3⟩,x4,x5⟩:=hX.facts
 obtain⟨⟨y1,y2,y3⟩,y4,y5⟩:=hY.facts
 obtain⟨⟨z1,z2,z3⟩,z4,z5⟩:=hZ.facts
 obtain⟨⟨vx,ux⟩,wx⟩:=hX.one
 obtain⟨⟨vy,uy⟩,wy⟩:=hY.one
 obtain⟨⟨vz,uz⟩,wz⟩:=hZ.one
 have hb:=As rt n cb cz f hf X Y Z hX hY hZ
 simp only[ke,xF]at hb
 rw[am afN CR.eq_1 rfl]
 rcases hb with ⟨hc,hr,eb⟩ | ⟨hx,e,he,eb⟩
 ·have hwl:=K4 (by have:=hc.1;omega) hf hr (by rcases hc.2 with h | h<;>omega)
  have hn:=hc.2
  by_cases hl:((mn rt.toNat n f).length:Int)≤1536*n
  ·refine .inl ⟨hc,hr,hl,?_⟩
   generalize mn rt.toNat n f=W at *
   simp (maxSteps:=300000) (disch:=omega) [↓if_pos,↓if_neg,-au,x1,x2,x3,x4,y1,y2,y3,y4,z1,z2,z3,z4,ux,uy,uz,vx,vy,vz,wx,wy,wz,eb]
  ·refine .inr ⟨fun h=>hl h.2.2,9,by decide,?_⟩
   generalize mn rt.toNat n f=W at *
   simp (maxSteps:=300000) (disch:=omega) [↓if_pos,↓if_neg,-au,x1,x2,x3,x4,y1,y2,y3,y4,z1,z2,z3,z4,ux,uy,uz,vx,vy,vz,wx,wy,wz,eb]
 ·refine .inr ⟨fun h=>hx ⟨h.1,h.2.1⟩,e,he,?_⟩
  simp (maxSteps:=300000) (disch:=omega) [↓if_pos,↓if_neg,-au,x1,x2,x3,x4,y1,y2,y3,y4,z1,z2,z3,z4,ux,uy,uz,vx,vy,vz,wx,wy,wz,eb,he]
end Go.Vm
namespace Go.Vm
set_option maxHeartbeats 2000000
set_option maxRecDepth 100000
def F0:cX:=⟨[c0],false,0,[],[]⟩
theorem aoU:∃ p,aL prog tC []=some (.tup [ke 0 1 false 0,.agg [.own p 9 (bw [c0]),.d (.bool false),.d (.int .i64 0),.nl,.nl],.d (.bool true)]):=⟨false,EX 600 (by kernel_rfl)⟩
theorem apI:pV 0 c0:=by
 rcases GT 0 c0 aiP with ⟨_,h,_⟩ | ⟨_,_,h⟩ | ⟨_,h⟩
 ·exact h
 ·rw[adS]at h;simp at h
 ·rw[adS]at h;simp at h
theorem aea:F0.Fit where
 chans:=⟨by simp[F0],fun c hc=>by simp only[F0,List.mem_cons,List.not_mem_nil,or_false]at hc;subst hc;exact aiP⟩
 mask:=by decide
 bands:=by simp[F0]
 fill:=by simp[F0]
 fillI:=by simp[F0]
theorem aco:GM 0 1∧wX 0 1 F0:=by
 refine⟨⟨by decide,.inl rfl⟩,rfl,by decide,by decide,fun c hc=>?_,?_⟩
 ·simp only[F0,List.mem_cons,List.not_mem_nil,or_false]at hc;subst hc;exact apI
 ·exact⟨rfl,rfl⟩
theorem Y7:mn 0 1 F0=List.replicate 29 0++[1,1,1]:=by decide +kernel
theorem ao7:aL prog Ns [.d (.lst (ah (List.replicate 29 0++[1,1,1])))]=some (.tup [.own true 1 (ah [0,0,0,7]),.d (.int .i64 0)]):=EX 600 (by kernel_rfl)
theorem anZ:aL prog fk [ke 0 1 false 0,.agg [.d (.lst (bw [c0])),.d (.bool false),.d (.int .i64 0),.nl,.nl]]=some (.tup [.d (.int .i64 32),.d (.int .i64 0)]):=by
 rcases As 0 1 false 0 F0 aea (.d (.lst (bw [c0]))) .nl .nl iv.d (.inr ⟨rfl,rfl⟩) (.inr ⟨rfl,rfl⟩) with ⟨_,_,h⟩ | ⟨h,_⟩
 ·rw[show (0:Int).toNat=0 from rfl,Y7]at h;exact h
 ·exact absurd aco h
theorem alR:aL prog Dq [ke 0 1 false 0,.agg [.d (.lst (bw [c0])),.d (.bool false),.d (.int .i64 0),.nl,.nl]]=some (.tup [.own true 1 (ah [0,0,0,7]),.d (.int .i64 0)]):=by
 have h1:aL prog lF [ke 0 1 false 0,.agg [.d (.lst (bw [c0])),.d (.bool false),.d (.int .i64 0),.nl,.nl]]=some (.d (.int .i64 0)):=by
  rcases Z8 0 1 false 0 F0 aea (.d (.lst (bw [c0]))) .nl .nl iv.d (.inr ⟨rfl,rfl⟩) (.inr ⟨rfl,rfl⟩) with ⟨_,_,_,h⟩ | ⟨h,_⟩
  ·exact h
  ·exact absurd ⟨aco.1,aco.2,by rw[show (0:Int).toNat=0 from rfl,Y7];decide⟩ h
 have h2:aL prog lj [ke 0 1 false 0,xF F0 (.d (.lst (bw [c0]))) .nl .nl]=_:=NH 0 (by decide) 1 (.inl rfl) false 0 F0 aea aco.2 (.d (.lst (bw [c0]))) .nl .nl iv.d (.inr ⟨rfl,rfl⟩) (.inr ⟨rfl,rfl⟩)
 have h3:=ao7
 rw[Y7]at h2
 simp only[ke,xF,show F0.common=false from rfl,show F0.mask=0 from rfl]at h1 h2⊢
 generalize bw [c0]=C at *
 generalize List.replicate 29 0++[1,1,1]=B at *
 rw[am af1 Dp.eq_1 rfl]
 simp (maxSteps:=300000) (disch:=omega) [↓if_pos,↓if_neg,h1,h2,h3]
theorem ZP:aL prog gF []=some (.d (.bool true)):=by
 obtain⟨p,h1⟩:=aoU
 have h2:=anZ
 have h3:=alR
 simp only[ke]at h1 h2 h3
 obtain⟨C,hC⟩:∃ C,C=bw [c0]:=⟨_,rfl⟩
 rw[←hC]at h1 h2 h3
 rw[show ah [0,0,0,7]=[[.int .u8 0],[.int .u8 0],[.int .u8 0],[.int .u8 7]] from rfl]at h3
 rw[am D2 kj.eq_1 rfl]
 simp (maxSteps:=300000) (disch:=omega) [↓if_pos,↓if_neg,h1,h2,h3]
end Go.Vm
namespace Go.Vm
set_option maxHeartbeats 2000000
set_option maxRecDepth 100000
theorem gm {m:Nat}{xs:List (List D)}:iv (share (aB m xs)) xs:=by
 cases xs with
 | nil=>exact .inr ⟨rfl,rfl⟩
 | cons x r=>exact .inl rfl
abbrev hpM (C F:List AV) (X:AV) (q:Bool) (M:Int) (B Z:AV):ac:=[(0,.cells C),(1,.cells F),(2,.cells [X,.d (.bool q),.d (.int .i64 M),B,Z])]
def mq (n mx:Nat):List (List Bool):=List.replicate n (List.replicate mx false)
theorem agd {n mx:Nat}:cK (mq (n+1) mx)=cK (mq n mx)++[[.lst (iF (List.replicate mx false))]]:=by
 unfold mq
 rw[List.replicate_succ',aax]
theorem aoZ {n:Nat}:List.replicate n [D.bool false]=iF (List.replicate n false):=by simp[iF]
theorem ame (C:List AV) (chs:List aK) (c:aK) (r:List aK) (hch:chs=c::r) (A1 A2 A3 A4 X Z:AV) (q:Bool) (mx:Nat) (hmx:c.info.max=mx) (hm:mx≤1000) (hg:c.info.groups.length≤1000):∀ (k i:Nat),i+k=c.info.groups.length→
  (Dn prog).code (.loop b8) ⟨[(3,.ptr 0 0),(4,.ptr 1 0),(8,.ptr 2 0),(9,.d (.int .i64 i))],⟨hpM C [.d (.lst (bw chs)),A1,A2,A3,A4] X q 1 (aB 1 (cK (mq i mx))) Z,3⟩⟩ =
  some (.exit 0,⟨[(3,.ptr 0 0),(4,.ptr 1 0),(8,.ptr 2 0)],⟨hpM C [.d (.lst (bw chs)),A1,A2,A3,A4] X q 1 (aB 1 (cK (mq c.info.groups.length mx))) Z,3⟩⟩):=by
 have hgl:=bq (l:=c.info.groups)
 have g0:=kH (g:=chs) (i:=0) (c:=c) (r:=r) hch
 have hl0:0<(bw chs).length:=by rw[mt,hch];simp
 obtain⟨k0,g0⟩:=List.getElem?_eq_some_iff.1 g0
 intro k
 induction k with
 | zero =>
  intro i hi
  have:i=c.info.groups.length:=by omega
  subst this
  rw[aa b8.eq_1]
  simp (maxSteps:=300000) (disch:=omega) [↓if_pos,↓if_neg,g0]
 | succ k ih =>
  intro i hi
  have h5:=ih (i+1) (by omega)
  have c1:((i+1:Nat):Int)=(i:Int)+1:=rfl
  have hbl:(cK (mq i mx)).length=i:=by rw[zP];simp[mq]
  have hk:=ags (z:=[.bool false]) (n:=mx) (by omega)
  rw[aoZ]at hk
  rw[c1,agd,mu]at h5
  rw[aa b8.eq_1,←h5]
  simp (maxSteps:=300000) (disch:=omega) [↓if_pos,↓if_neg,g0,hmx,hk]
theorem ajq (C:List AV) (chs:List aK) (c:aK) (r:List aK) (hch:chs=c::r) (A1 A2 A3 A4 X Z B:AV) (q:Bool) (M:Int) (hM:M≠1) :
  (Dn prog).code (.loop b8) ⟨[(3,.ptr 0 0),(4,.ptr 1 0),(8,.ptr 2 0),(9,.d (.int .i64 0))],⟨hpM C [.d (.lst (bw chs)),A1,A2,A3,A4] X q M B Z,3⟩⟩ =
  some (.exit 0,⟨[(3,.ptr 0 0),(4,.ptr 1 0),(8,.ptr 2 0)],⟨hpM C [.d (.lst (bw chs)),A1,A2,A3,A4] X q M B Z,3⟩⟩):=by
 have hgl:=bq (l:=c.info.groups)
 have g0:=kH (g:=chs) (i:=0) (c:=c) (r:=r) hch
 have hl0:0<(bw chs).length:=by rw[mt,hch];simp
 obtain⟨k0,g0⟩:=List.getElem?_eq_some_iff.1 g0
 rw[aa b8.eq_1]
 by_cases h:0<c.info.groups.length
 ·simp (maxSteps:=300000) (disch:=omega) [↓if_pos,↓if_neg,g0,hM]
 ·simp (maxSteps:=300000) (disch:=omega) [↓if_pos,↓if_neg,g0,hM]
end Go.Vm
namespace Go.Vm
set_option maxHeartbeats 2000000
set_option maxRecDepth 100000
@[simp] theorem avH (a b:Bool):TV false (.d (.bool a)) (.d (.bool b))=some (.bool (a == b)):=by cases a<;>cases b<;>rfl
@[simp ↓ high] theorem auZ {m:Nat}{xs:List (List D)}:eM (share (aB m xs))=share (aB m xs):=gm.one.1.2
@[simp ↓ high] theorem avx {m:Nat}{xs:List (List D)}{h:ac}:viewOne h (share (aB m xs))=some (share (aB m xs)):=gm.one.1.1 h
@[simp ↓ high] theorem awc {m:Nat}{xs:List (List D)}:kT (share (aB m xs))=false:=gm.one.2
theorem akB (rt n:Int) (cb:Bool) (cz:Int) (f:cX) (k:Nat) (hk:k≤255) (hf:Uq f→f.Fit):aL prog mV [ke rt n cb cz,.agg f.av,.d (.int .u8 k)]=some (.d (.bool true)):=by
 have ha:=ZP
 rcases agK f with ⟨hs,hg⟩ | hg
 rotate_left
 ·simp only[cX.av]at hg⊢
  rw[am jg dH.eq_1 rfl]
  simp (maxSteps:=300000) (disch:=omega) [↓if_pos,↓if_neg,ha,hg]
 have hF:=hf hs
 have hC:=Z8 rt n cb cz f hF _ _ _ iv.d iv.d iv.d
 simp only[ke,xF]at hC
 rcases hC with ⟨hcf,hok,_,hC⟩ | ⟨_,e,he,hC⟩
 rotate_left
 ·simp only[cX.av]at hg⊢
  rw[am jg dH.eq_1 rfl]
  simp (maxSteps:=300000) (disch:=omega) [↓if_pos,↓if_neg,ha,hg,hC,he]
 obtain⟨v,v1,v2⟩:=ajN f hF
 have hR:rt.toNat≤11:=by have:=hcf.1;omega
 cases hch:f.chans with
 | nil=>have:=hok.rest;rw[hch]at this;exact this.elim
 | cons c r =>
 have hcm:=hok.may c (by rw[hch];exact .head _)
 have hmx:=lG (lg hR hcm.info)
 obtain⟨g1,g2⟩:=ei (lg hR hcm.info)
 have hmm:c.info.many≤8:=by unfold aD.many;split<;>omega
 have hgl:c.info.groups.length≤8:=by have:=lE (fun n hn=>(g1 n hn).1);omega
 obtain⟨mx,hmn⟩:=Int.eq_ofNat_of_zero_le hmx.1
 have hT:=hok.rest
 rw[hch]at hT
 obtain⟨M,hM⟩:∃ M:Nat,M=k % 4:=⟨_,rfl⟩
 have hM4:(k:Int).tmod 4=(M:Int):=by rw[Int.tmod_eq_emod_of_nonneg (by omega)];omega
 obtain⟨bs,hbs⟩:∃ bs,bs=(if M=1 then mq c.info.groups.length mx else []):=⟨_,rfl⟩
 obtain⟨a,hA⟩:∃ a:cX,a=⟨f.chans,f.common,M,bs,f.fill⟩:=⟨_,rfl⟩
 have hbl:bs.length≤8∧∀ l∈bs,l.length=mx:=by
  rw[hbs]
  split
  ·refine⟨by simp[mq,hgl],fun l hl=>?_⟩
   rw[List.eq_of_mem_replicate hl];simp
  ·simp
 have hfa:a.Fit:=by
  rw[hA]
  exact⟨hF.chans,by simp only[];omega,⟨by have:=hbl.1;simp only[];omega,fun l hl=>by have:=hbl.2 l hl;omega⟩,hF.fill,hF.fillI⟩
 have hoa:wX rt.toNat n a↔M≤2∧(f.common=true∨M=0):=by
  constructor
  ·intro h
   have h1:=h.mask.2
   have h2:=h.rest
   rw[hA]at h1 h2
   simp only[hch,zK]at h1 h2
   refine⟨by omega,?_⟩
   cases hco:f.common with
   | true=>exact .inl rfl
   | false =>
    rw[hco]at h2
    simp only[Bool.false_eq_true,if_false]at h2
    have:=h2.1
    exact .inr (by omega)
  ·rintro ⟨h1,h2⟩
   refine⟨by rw[hA];exact hok.len,by rw[hA];exact hok.fill,by rw[hA];simp only[];omega,by rw[hA];exact hok.may,?_⟩
   rw[hA]
   simp only[hch,zK]at hT⊢
   cases hco:f.common with
   | true =>
    rw[hco]at hT
    simp only[if_true]at hT⊢
    refine⟨hT.1,?_⟩
    by_cases hm1:M=1
    ·rw[if_pos (by omega)]
     exact⟨by rw[hbs,if_pos hm1];simp[mq],fun l hl=>by rw[hbl.2 l hl,hmn]⟩
    ·rw[if_neg (by omega),hbs,if_neg hm1]
   | false =>
    have hm0:M=0:=by rcases h2 with h | h;rw[hco]at h;exact absurd h (by simp);exact h
    simp only[Bool.false_eq_true,if_false]
    exact⟨by omega,by rw[hbs,if_neg (by omega)]⟩
 have hB:=As rt n cb cz a hfa (share (aB 9 (bw a.chans))) (share (aB 1 (cK a.bands))) (share (aB 1 (ah a.fill))) gm gm gm
 rw[hoa]at hB
 have hLp:=fun(C:List AV) A1 A2 A3 A4 X Z q=>ame C f.chans c r hch A1 A2 A3 A4 X Z q mx hmn (by omega) (by omega) c.info.groups.length 0 (Nat.zero_add _)
 have hLz:=fun(C:List AV) A1 A2 A3 A4 X Z B q=>ajq C f.chans c r hch A1 A2 A3 A4 X Z B q M
 have c0:((0:Nat):Int)=0:=rfl
 have n0:cK (mq 0 mx)=[]:=rfl
 simp only[c0,n0,mU,hpM]at hLp
 simp only[hpM]at hLz
 have hco:f.common=true∨(f.common=false∧f.mask=0∧f.bands.length=0):=by
  cases h:f.common with
  | true=>exact .inl rfl
  | false =>
   simp only[zK,h,Bool.false_eq_true,if_false]at hT
   exact .inr ⟨rfl,hT.1,by rw[hT.2];rfl⟩
 have hsx:share (aB 9 (bw f.chans))=.d (.lst (bw f.chans)):=gm.ne fun h=>by have:=congrArg List.length h;rw[mt,hch,List.length_nil,List.length_cons]at this;omega
 simp only[hA,ke,xF,hsx]at hB
 obtain⟨NN,E,eB,hE⟩:∃ NN E:Int,aL prog fk [.agg [.d (.int .i64 rt),.d (.int .i64 n),.d (.bool cb),.d (.int .i64 cz)],.agg [.d (.lst (bw f.chans)),.d (.bool f.common),.d (.int .i64 M),share (aB 1 (cK bs)),share (aB 1 (ah f.fill))]]=some (.tup [.d (.int .i64 NN),.d (.int .i64 E)])∧(E=0↔M≤2∧(f.common=true∨M=0)):=by
  rcases hB with ⟨_,h,e⟩ | ⟨h,e,he,e'⟩
  ·exact⟨_,0,e,⟨fun _=>h,fun _=>rfl⟩⟩
  ·exact⟨0,e,e',⟨fun h0=>absurd h0 he,fun h2=>absurd ⟨hcf,h2⟩ h⟩⟩
 clear hB hA hoa
 rw[←hch]at *
 simp only[cX.av,cX.tw]at hg v1 v2⊢
 rw[am jg dH.eq_1 rfl]
 clear hT hok hcf hF hfa hf hs
 generalize f.common=q at *
 generalize f.mask=mk at *
 by_cases hm1:M=1
 ·rw[if_pos hm1]at hbs
  rw[hm1]at hM4 eB hE
  have c1:((1:Nat):Int)=1:=rfl
  rw[c1,hbs]at eB
  rw[c1]at hM4
  rcases hco with rfl | ⟨rfl,rfl,hbd⟩
  ·have hE0:E=0:=hE.2 ⟨by decide,.inl rfl⟩
   subst hE0
   simp (maxSteps:=300000) (disch:=omega) [↓if_pos,↓if_neg,-au,ha,hg,hC,v1,v2,hM4,hLp,hsx,eB]
  ·have hE0:E≠0:=fun h=>by have:=(hE.1 h).2;simp at this
   simp (maxSteps:=300000) (disch:=omega) [↓if_pos,↓if_neg,-au,ha,hg,hC,v1,v2,hM4,hLp,hsx,eB,hE0,hbd]
 ·have hne:(M:Int)≠1:=by omega
  have hLz:=fun(C:List AV) A1 A2 A3 A4 X Z B q=>hLz C A1 A2 A3 A4 X Z B q hne
  rw[hbs,if_neg hm1,show cK []=[] from rfl,mU,show share AV.nl=.nl from rfl]at eB
  rcases hco with rfl | ⟨rfl,rfl,hbd⟩
  ·by_cases h0:M=0
   ·have hE0:E=0:=hE.2 ⟨by omega,.inl rfl⟩
    subst hE0
    simp (maxSteps:=300000) (disch:=omega) [↓if_pos,↓if_neg,-au,ha,hg,hC,v1,v2,hM4,hLz,hsx,eB]
   ·by_cases h3:M≤2
    ·have hE0:E=0:=hE.2 ⟨h3,.inl rfl⟩
     subst hE0
     simp (maxSteps:=300000) (disch:=omega) [↓if_pos,↓if_neg,-au,ha,hg,hC,v1,v2,hM4,hLz,hsx,eB]
    ·have hE0:E≠0:=fun h=>h3 (hE.1 h).1
     simp (maxSteps:=300000) (disch:=omega) [↓if_pos,↓if_neg,-au,ha,hg,hC,v1,v2,hM4,hLz,hsx,eB,hE0]
  ·by_cases h0:M=0
   ·have hE0:E=0:=hE.2 ⟨by omega,.inr h0⟩
    subst hE0
    simp (maxSteps:=300000) (disch:=omega) [↓if_pos,↓if_neg,-au,ha,hg,hC,v1,v2,hM4,hLz,hsx,eB,hbd]
   ·have hE0:E≠0:=fun h=>by have:=(hE.1 h).2;simp at this;exact h0 this
    simp (maxSteps:=300000) (disch:=omega) [↓if_pos,↓if_neg,-au,ha,hg,hC,v1,v2,hM4,hLz,hsx,eB,hE0,hbd]
end Go.Vm
namespace Go.Vm
set_option maxHeartbeats 2000000
set_option maxRecDepth 100000
@[simp ↓ high] theorem avk {m:Nat}{xs:List (List D)}{h:ac}:viewOne h (aB m xs)=some (share (aB m xs)):=by cases xs<;>rfl
@[simp ↓ high] theorem avq {m:Nat}{xs:List (List D)}:kT (aB m xs)=false:=by cases xs<;>rfl
def Kw (k:Nat):Nat:=(if 0<k then 7+8*k else 0)+(if 15≤k then 8 else 0)
theorem akD {l:List Nat}:(j4 l).length=Kw l.length:=by
 unfold j4 Kw
 by_cases h:l=[]
 ·rw[if_pos h,h];simp
 ·have h0:0<l.length:=List.length_pos_iff.2 h
  rw[if_neg h,if_pos h0]
  simp only[List.length_append,bK,ze]
  split
  ·rw[bK];omega
  ·rw[List.length_nil];omega
theorem aeR {b:List Nat}:(xh b).length=b.length+XT b.length:=by rw[xh,List.length_append,List.length_replicate]
theorem alc {R:Nat}{n:Int}{f:cX}{l:List Nat}{x y:Nat}(hx:x=(mn R n ⟨f.chans,f.common,f.mask,f.bands,[]⟩).length) (hy:y=(mn R n ⟨f.chans,f.common,f.mask,f.bands,l⟩).length):(x+Kw l.length≤y+7∧y≤x+Kw l.length+7)∧x % 8=0∧y % 8=0:=by
 have e:dz n ⟨f.chans,f.common,f.mask,f.bands,[]⟩=dz n ⟨f.chans,f.common,f.mask,f.bands,l⟩:=rfl
 have h0:j4 []=[]:=rfl
 rw[mn,aeR,e]at hx
 rw[mn,aeR]at hy
 simp only[List.length_append,bK,akD,h0,List.length_nil]at hx hy
 generalize (dz n ⟨f.chans,f.common,f.mask,f.bands,l⟩).length=a at *
 generalize (fA R f.common f.chans).length=b at *
 generalize Kw l.length=m at *
 unfold XT at hx hy
 omega
theorem akK (rt n:Int) (cb:Bool) (cz:Int) (f:cX) (l:List Nat) (hl:∀ x∈l,x≤255) (hf:Uq f→f.Fit):aL prog mo [ke rt n cb cz,.agg f.av,.d (.lst (ah l))]=some (.d (.bool true)):=by
 have ha:=ZP
 have hbl:=bD (l:=l)
 rcases agK f with ⟨hs,hg⟩ | hg
 rotate_left
 ·simp only[cX.av]at hg⊢
  rw[am iT dG.eq_1 rfl]
  simp (maxSteps:=300000) (disch:=omega) [↓if_pos,↓if_neg,ha,hg]
 by_cases hk:l.length≤1000
 rotate_left
 ·simp only[cX.av]at hg⊢
  rw[am iT dG.eq_1 rfl]
  by_cases hmax:l.length≤4294967296
  ·simp (maxSteps:=300000) (disch:=omega) [↓if_pos,↓if_neg,ha,hg]
  ·simp (maxSteps:=300000) (disch:=omega) [↓if_pos,↓if_neg,ha,hg]
 have hF:=hf hs
 obtain⟨v,v1,v2⟩:=ajN f hF
 have hFA:cX.Fit ⟨f.chans,f.common,f.mask,f.bands,[]⟩:=⟨hF.chans,hF.mask,hF.bands,by simp,by simp⟩
 have hFB:cX.Fit ⟨f.chans,f.common,f.mask,f.bands,l⟩:=⟨hF.chans,hF.mask,hF.bands,by simp only[];omega,hl⟩
 have hA:=As rt n cb cz _ hFA (share (aB 9 (bw f.chans))) (share (aB 1 (cK f.bands))) .nl gm gm (.inr ⟨rfl,rfl⟩)
 have hB:=As rt n cb cz _ hFB (share (aB 9 (bw f.chans))) (share (aB 1 (cK f.bands))) (.d (.lst (ah l))) gm gm iv.d
 simp only[ke,xF]at hA hB
 simp only[cX.av,cX.tw]at hg v1 v2⊢
 rw[am iT dG.eq_1 rfl]
 rcases hA with ⟨hc,okA,eA⟩ | ⟨_,e,he,eA⟩
 rotate_left
 ·obtain⟨N2,E2,eB⟩:∃ N2 E2:Int,aL prog fk [.agg [.d (.int .i64 rt),.d (.int .i64 n),.d (.bool cb),.d (.int .i64 cz)],.agg [share (aB 9 (bw f.chans)),.d (.bool f.common),.d (.int .i64 f.mask),share (aB 1 (cK f.bands)),.d (.lst (ah l))]]=some (.tup [.d (.int .i64 N2),.d (.int .i64 E2)]):=by
   rcases hB with ⟨_,_,e⟩ | ⟨_,e,_,e'⟩
   ·exact⟨_,_,e⟩
   ·exact⟨_,_,e'⟩
  simp (maxSteps:=300000) (disch:=omega) [↓if_pos,↓if_neg,-au,ha,hg,v1,v2,eA,eB,he]
 rcases hB with ⟨_,dg,eB⟩ | ⟨hno,e,he,eB⟩
 rotate_left
 ·have h269:¬ l.length≤269:=fun h=>hno ⟨hc,⟨okA.len,h,okA.mask,okA.may,okA.rest⟩⟩
  simp (maxSteps:=300000) (disch:=omega) [↓if_pos,↓if_neg,-au,ha,hg,v1,v2,eA,eB,he]
 have wl1:=K4 (by have:=hc.1;omega) hFA okA (by rcases hc.2 with h | h<;>omega)
 have wl2:=K4 (by have:=hc.1;omega) hFB dg (by rcases hc.2 with h | h<;>omega)
 obtain⟨x,hx⟩:∃ x,x=(mn rt.toNat n ⟨f.chans,f.common,f.mask,f.bands,[]⟩).length:=⟨_,rfl⟩
 obtain⟨y,hy⟩:∃ y,y=(mn rt.toNat n ⟨f.chans,f.common,f.mask,f.bands,l⟩).length:=⟨_,rfl⟩
 obtain⟨⟨w1,w2⟩,w3,w4⟩:=alc hx hy
 rw[←hx]at eA wl1
 rw[←hy]at eB wl2
 clear hx hy okA dg
 have t1:(x:Int).tmod 8=0:=by rw[Int.tmod_eq_emod_of_nonneg (by omega)];omega
 have t2:(y:Int).tmod 8=0:=by rw[Int.tmod_eq_emod_of_nonneg (by omega)];omega
 unfold Kw at w1 w2
 by_cases h0:0<l.length
 ·by_cases h15:15≤l.length
  ·rw[if_pos h0,if_pos h15]at w1 w2
   simp (maxSteps:=300000) (disch:=omega) [↓if_pos,↓if_neg,-au,ha,hg,v1,v2,eA,eB,t1,t2]
  ·rw[if_pos h0,if_neg h15]at w1 w2
   simp (maxSteps:=300000) (disch:=omega) [↓if_pos,↓if_neg,-au,ha,hg,v1,v2,eA,eB,t1,t2]
 ·rw[if_neg h0,if_neg (by omega)]at w1 w2
  simp (maxSteps:=300000) (disch:=omega) [↓if_pos,↓if_neg,-au,ha,hg,v1,v2,eA,eB,t1,t2]
end Go.Vm
namespace Go.Vm
def G6 (ro:Option Nat) (P:Program) (c:Code) (Q:Exit→Act→World→Prop) (a:Act) (w:World):Prop :=
 ∀ (b:Frame) (k:List Item) (cs:List Frame),b.roundOf=ro→∃ e a' w',Q e a' w'∧ArrivesIn (Machine.fenced P (FR ro)) P (lone (b.atR a (.inLoop c::k)) cs w) b k cs e a' w'
def vP (ro:Option Nat) (P:Program) (body cur:Code) (Q:Exit→Act→World→Prop) (a:Act) (w:World):Prop :=
 ∀ (b:Frame) (k:List Item) (cs:List Frame),b.roundOf=ro→∃ e a' w',Q e a' w'∧ArrivesIn (Machine.fenced P (FR ro)) P (lone (b.atR a (.code cur::.inScope body::k)) cs w) b k cs e a' w'
section
variable {P:Program}{ro:Option Nat}{Q:Exit→Act→World→Prop}{a:Act}{w:World}
theorem Cw {ro:Option Nat}(m:Machine):Machine.fenced P (FR ro) m:=fenced_wide P m
theorem Sn {c:Code}(h:c.wpIn (FR ro) 0 P (Exit.then (G6 ro P c Q) Q) a w):G6 ro P c Q a w∧(Code.loop c).wpIn (FR ro) 0 P Q a w:=by
 have key:∀ (b:Frame) (k:List Item) (cs:List Frame),b.roundOf=ro→∃ e a' w',Q e a' w'∧ArrivesIn (Machine.fenced P (FR ro)) P (lone (b.atR a (.code c::.inLoop c::k)) cs w) b k cs e a' w':=by
  intro b k cs hro
  obtain⟨e,a₁,w₁,hq,harr⟩:=h b (.inLoop c::k) cs hro trivial (Xh _ _)
  cases e with
  | normal =>
   obtain⟨e₂,a₂,w₂,hq₂,harr₂⟩:=hq b k cs hro
   exact⟨e₂,a₂,w₂,hq₂,.of_steps harr harr₂⟩
  | exit id=>exact⟨_,a₁,w₁,hq,.pass (x:=.inLoop c) rfl (fun _ _=>.inl (by simp)) harr⟩
  | goto l=>exact⟨_,a₁,w₁,hq,.pass (x:=.inLoop c) rfl (fun _ _=>.inl (by simp)) harr⟩
  | ret=>exact⟨_,a₁,w₁,hq,.pass (x:=.inLoop c) rfl (fun _ _=>.inl (by simp)) harr⟩
  | panic ch=>exact⟨_,a₁,w₁,hq,.pass (x:=.inLoop c) rfl (fun _ _=>.inl (by simp)) harr⟩
  | outgrown=>exact⟨_,a₁,w₁,hq,.pass (x:=.inLoop c) rfl (fun _ _=>.inl (by simp)) harr⟩
 refine⟨fun b k cs hro=>?_,fun b k cs hro _ _=>?_⟩
 ·obtain⟨e,a',w',hq,harr⟩:=key b k cs hro
  exact⟨e,a',w',hq,.of_steps (.one (Cw _) stepR_inLoop) harr⟩
 ·obtain⟨e,a',w',hq,harr⟩:=key b k cs hro
  exact⟨e,a',w',hq,.of_steps (.one (Cw _) stepR_loop) harr⟩
def Exit.scope (ro:Option Nat) (P:Program) (body:Code) (Q:Exit→Act→World→Prop):Exit→Act→World→Prop
 | .goto l,a,w=>match findLabel body l with
  | some rest=>vP ro P body rest Q a w
  | none=>Q (.goto l) a w
 | e,a,w=>Q e a w
theorem afk {body cur:Code}(h:cur.wpIn (FR ro) 0 P (Exit.scope ro P body Q) a w):vP ro P body cur Q a w:=by
 intro b k cs hro
 obtain⟨e,a₁,w₁,hq,harr⟩:=h b (.inScope body::k) cs hro trivial (Xh _ _)
 cases e with
 | normal=>exact⟨.normal,a₁,w₁,hq,StepsIn.trans harr (.one (Cw _) (step_lone_go (by simp[stepG,stepG.exec,Frame.atR])))⟩
 | exit id =>
  have hx:exitTo id (.inScope body::k)=exitTo id k:=by simp[exitTo]
  exact⟨_,a₁,w₁,hq,fun k' hk=>harr.1 k' (by rw[hx];exact hk),fun hr hk=>harr.2 hr (by rw[hx];exact hk)⟩
 | goto l =>
  have hx:gotoIn l (.inScope body::k)=match findLabel body l with | some rest=>some (.code rest::.inScope body::k) | none=>gotoIn l k:=by
   simp only[gotoIn];cases findLabel body l<;>rfl
  simp only[Exit.scope]at hq
  cases hf:findLabel body l with
  | some rest =>
   rw[hf]at hq hx
   obtain⟨e₂,a₂,w₂,hq₂,harr₂⟩:=hq b k cs hro
   exact⟨e₂,a₂,w₂,hq₂,.of_steps (harr.1 _ hx) harr₂⟩
  | none =>
   rw[hf]at hq hx
   exact⟨_,a₁,w₁,hq,fun k' hk=>harr.1 k' (by rw[hx];exact hk),fun hr hk=>harr.2 hr (by rw[hx];exact hk)⟩
 | ret=>exact⟨_,a₁,w₁,hq,harr⟩
 | panic ch=>exact⟨_,a₁,w₁,hq,harr⟩
 | outgrown=>exact⟨_,a₁,w₁,hq,harr⟩
theorem akh {body:Code}(h:vP ro P body body Q a w):(Code.scope body).wpIn (FR ro) 0 P Q a w:=by
 intro b k cs hro _ _
 obtain⟨e,a',w',hq,harr⟩:=h b k cs hro
 exact⟨e,a',w',hq,.of_steps (.one (Cw _) (step_lone_go (by simp[stepG,stepG.exec,Frame.atR]))) harr⟩
end
theorem ajy {P:Program}{n:Nat}{v:VC}{c:Code}(h:Mt P n v c) (l:Nat) :
  match j2 v l with
  | some x=>∃ y,findLabel c l=some y∧Mt P n x y
  | none=>findLabel c l=none:=by
 have hgh:∀ {a:VC},lr a=true→j2 a l=none:=by
  intro a
  induction a with
  | seq a b iha ihb =>
   intro h
   simp only[lr,Bool.and_eq_true]at h
   simp only[j2,iha h.1,ihb h.2]
  | _=>intro h;simp[lr,j2]at h⊢
 induction h with
 | ghostL h1 h2 ih=>simp only[j2,hgh h1];exact ih
 | @ghostR a b c h1 h2 ih =>
  simp only[j2,hgh h1]
  cases hf:j2 a l with
  | none=>simp only[hf]at ih⊢;exact ih
  | some x =>
   simp only[hf]at ih⊢
   obtain⟨y,hy,hm⟩:=ih
   exact⟨y,hy,.ghostR h1 hm⟩
 | @seq a b c d h1 h2 ih1 ih2 =>
  simp only[j2]
  cases hf:j2 a l with
  | some x =>
   simp only[hf]at ih1⊢
   obtain⟨y,hy,hm⟩:=ih1
   exact⟨.seq y d,by simp[findLabel,hy],.seq hm h2⟩
  | none =>
   simp only[hf]at ih1⊢
   cases hf2:j2 b l with
   | some x =>
    simp only[hf2]at ih2⊢
    obtain⟨y,hy,hm⟩:=ih2
    exact⟨y,by simp[findLabel,ih1,hy],hm⟩
   | none =>
    simp only[hf2]at ih2⊢
    simp[findLabel,ih1,ih2]
 | @label k =>
  simp only[j2,findLabel]
  by_cases e:k=l
  ·subst e;simp[Mt.skip]
  ·have:Nat.beq k l=false:=by rw[←Bool.not_eq_true,Nat.beq_eq];exact e
   have e2:(k == l)=false:=by simpa using e
   simp[this,e2]
 | _=>simp[j2,findLabel]
end Go.Vm
namespace Go.Vm
section
variable {P:Program}{g:Gh}{w:World}{t:Array Value}{O:Nat→Nat}{st st':St}{a:AV}{o:Oper}{r:bn}
theorem aeA:∀ {vs:List AV}{i:Nat},∀ p∈dW i vs,i≤p.1
 | [],_,p,hp=>by simp[dW]at hp
 | v::vs,i,p,hp=>by
  simp only[dW]at hp
  rcases Zi hp with rfl | hp
  ·exact Nat.le_refl _
  ·have:=aeA p hp;omega
theorem J3:∀ (vs:List AV) (i:Nat),aX (dW i vs)
 | [],_=>List.Pairwise.nil
 | v::vs,i=>(J3 vs (i+1)).put _ _
theorem ahm {t:Array Value}{i:Nat}{x:Value}(h:t[i]?=some x):i<t.size:=by
 rcases Nat.lt_or_ge i t.size with h' | h'
 ·exact h'
 ·rw[Array.getElem?_eq_none h']at h;simp at h
theorem ZU {t:Array Value}:∀ {vs:List AV}{xs:List Value}{i:Nat}{Ov:Nat→Nat},RVs g w vs xs Ov→(∀ (j:Nat) (x:Value),xs[j]?=some x→t[i+j]?=some x)→fj g w (dW i vs) t Ov
 | [],xs,i,Ov,rv,_=>by simp only[RVs]at rv;exact rv.2
 | v::vs,xs,i,Ov,rv,ht=>by
  simp only[RVs]at rv
  obtain⟨x,ys,O1,O2,rfl,r1,r2,hs⟩:=rv
  have h0:t[i]?=some x:=ht 0 x rfl
  have rr:=ZU (t:=t) (i:=i+1) r2 fun j y hj=>by have:=ht (j+1) y (by simpa using hj);rw[←this];congr 1;omega
  rw[←j5 (l:=dW (i+1) vs) (i:=i) fun p hp=>by have:=aeA p hp;omega]at rr
  obtain⟨O,ro,ho⟩:=RL.put (J3 vs (i+1)) rr (i:=i) (x:=v) (O1:=O1) ⟨ahm h0,by rw[Array.getD_eq_getD_getElem?,h0];exact r1⟩
  have e:O=Ov:=funext fun b=>by rw[ho b,hs b]
  exact e▸ro
theorem apd {args:List AV}{hs:HS}{xs:List Value}{Oa Oh:Nat→Nat}(rv:RVs g w args xs Oa) (sh:S P g w ⟨[],hs⟩ #[] Oh) (hle:∀ b,Oa b+Oh b≤1) (hhi:∀ b,Oa b≠0→b<w.heap.size) (n:Nat) :
  S P g w ⟨dW 0 args,hs⟩ (xs.toArray++Array.replicate n undef) fun b=>Oa b+Oh b:=by
 refine S.join (J3 _ _) (ZU rv fun j x hj=>?_) sh hle hhi
 have hlt:=eI hj
 rw[Nat.zero_add,Array.getElem?_append_left (by simpa using hlt)]
 simpa using hj
theorem aE.deferBlk {b:Nat}{ds ds':Option (List Deferred)}(hb:w.heap[b]?=some (.deferred ds)):aE g w g (Vm.setBlk w b (.deferred ds')) fun x=>x=b where
 obj _ _ h:=⟨h,rfl,rfl,rfl⟩
 pm b' o h:=⟨h,by
  by_cases e:b'=b
  ·subst e
   simp only[World.cell?,hb,cg (ba hb)]
  ·exact fU (dE e) o⟩
 blk b' _ h:=⟨dE h,fun _ h=>h⟩
 size:=by simp
 lp b' r h:=⟨r,by rw[dE (by rintro rfl;rw[hb]at h;simp at h)];exact h⟩
 same:=⟨rfl,rfl,oV hb (by intro off;simp[dh]) (by intro off;simp[dh])⟩
theorem AB {b:Nat}(h:w.heap[b]?=some (.deferred (some []))):(Instr.takeDeferred b).run P w=.ok [] (setBlk w b (.deferred none)):=by
 simp[Instr.takeDeferred,getObj,setObj,Sem.run,Sem.run_bind,h,setBlk]
theorem Th {ro:Option Nat}{fn:Func}{tmps:Array Value}{R:Ending→World→Prop}{lo:Nat}:∀ {ms:List Deferred}{w:World},ep w O lo ms→S P g w st t O→
  (∀ w',S P g w' st t O→aE g w g w' (fun b=>lo≤b)→∃ v,(results fn tmps).run P w'=.ok v w'∧R (.returned v) w')→LeavesInM (FR ro) 0 P fn tmps R ms .returning w
 | [],w,_,s,h=>h w s (.refl _ _ _)
 | d::ds,w,⟨⟨r,h1,h2,h3,h4,h5⟩,h6⟩,s,h=>by
  refine⟨by simp,.inl ⟨r,setBlk w r (.deferred none),h1,AB h3,?_⟩⟩
  have hx:aE g w g (setBlk w r (.deferred none)) fun x=>x=r:=aE.deferBlk h3
  have hm:ep (setBlk w r (.deferred none)) O lo ds:=by
   clear h
   have:∀ {es:List Deferred},(∀ d'∈es,∀ r',d'.target=.collected r'→r'<r)→ep w O lo es→ep (setBlk w r (.deferred none)) O lo es:=by
    intro es
    induction es with
    | nil=>exact fun _ _=>trivial
    | cons e es ih =>
     rintro hlt ⟨⟨q,k1,k2,k3,k4,k5⟩,k6⟩
     have:=hlt e (.head _) q k1
     exact⟨⟨q,k1,k2,by rw[dE (by omega)];exact k3,k4,k5⟩,ih (fun d' hd'=>hlt d' (.tail _ hd')) k6⟩
   exact this h5 h6
  exact Th hm (s.otherG hx h4) fun w' s' hx'=>h w' s' ((hx.mono (T:=fun b=>lo≤b) fun b _ e=>by rw[e];exact h2).trans hx' fun _ _ h=>h)
def TT (t:Array Value):ResultVar→Sem Value
 | .tmp i=>pure (t.getD i undef)
 | .cell i ty=>do loadVar ty (←asAddr (t.getD i undef))
theorem Tt (fn:Func) (t:Array Value):results fn t=(do let vs←fn.results.mapM (TT t);pure (if h:vs.size=1 then vs[0] else .tuple vs)):=by
 unfold results
 congr 1
theorem aeZ {α:Type}{f:α→Sem Value}{l:Array α}{xs:List Value}(h:(l.toList.mapM f).run P w=.ok xs w):(l.mapM f).run P w=.ok xs.toArray w:=by
 rw[Array.mapM_eq_mapM_toList]
 simp[h]
theorem vg:∀ {vr:List lU}{fr:List ResultVar},f8 P vr fr=true→∀ {st st':St}{O:Nat→Nat}{vs:List AV},cH st vr=some (vs,st')→S P g w st t O→
  ∃ xs:List Value,∃ Ov O',(fr.mapM (TT t)).run P w=.ok xs w∧RVs g w vs xs Ov∧S P g w st' t O'∧(∀ b,Ov b+O' b≤O b)∧
   xs.length=fr.length
 | [],[],_,st,st',O,vs,h,s=>by
  simp only[cH,Option.some.injEq,Prod.mk.injEq]at h
  obtain⟨rfl,rfl⟩:=h
  exact⟨[],zero,O,by simp,by simp[RVs],s,fun b=>by simp,rfl⟩
 | .tmp i::vr,.tmp j::fr,hc,st,st',O,vs,h,s=>by
  simp only[f8,Bool.and_eq_true,Nat.beq_eq]at hc
  obtain⟨rfl,hc⟩:=hc
  simp only[cH]at h
  split at h
  ·rename_i v hv
   split at h
   ·rename_i us st1 hr
    simp only[Option.some.injEq,Prod.mk.injEq]at h
    obtain⟨rfl,rfl⟩:=h
    obtain⟨O1,O2,_,rv,s2,l2⟩:=s.pull hv
    obtain⟨xs,O3,O4,hrun,rvs,s4,l4,hlen⟩:=vg hc hr s2
    refine⟨t.getD i undef::xs,fun b=>O1 b+O3 b,O4,?_,?_,s4,fun b=>by have:=l2 b;have:=l4 b;show O1 b+O3 b+O4 b≤O b;omega,by simp[hlen]⟩
    ·simp only[List.mapM_cons,Sem.run_bind,TT,Sem.run_pure,Result.andThen_ok,hrun]
    ·simp only[RVs];exact⟨_,_,O1,O3,rfl,rv,rvs,fun _=>rfl⟩
   ·simp at h
  ·simp at h
 | .cell i n::vr,.cell j ty::fr,hc,st,st',O,vs,h,s=>by
  simp only[f8,Bool.and_eq_true,Nat.beq_eq]at hc
  obtain⟨⟨rfl,hty⟩,hc⟩:=hc
  simp only[cH]at h
  split at h
  ·rename_i id hv
   split at h
   ·rename_i v h' hl
    split at h
    ·rename_i us st1 hr
     simp only[Option.some.injEq,Prod.mk.injEq]at h
     obtain⟨rfl,rfl⟩:=h
     obtain⟨O0,O00,_,rp,_,_⟩:=s.pull hv
     simp only[RV]at rp
     obtain⟨⟨b,hob,hp⟩,_⟩:=rp
     obtain⟨x,O1,O2,hrun1,rv,s2,l2⟩:=S3 hty s hob hl
     obtain⟨O5,s5,l5⟩:=s2.delEnv i
     obtain⟨O6,s6,l6⟩:=s5.delHeap id
     obtain⟨xs,O3,O4,hrun,rvs,s4,l4,hlen⟩:=vg hc hr s6
     refine⟨x::xs,fun b=>O1 b+O3 b,O4,?_,?_,s4,fun b=>by have:=l2 b;have:=l4 b;have:=l5 b;have:=l6 b;show O1 b+O3 b+O4 b≤O b;omega,by simp[hlen]⟩
     ·rw[List.mapM_cons]
      simp only[Sem.run_bind,TT,hp,asAddr,Sem.run_pure,Result.andThen_ok,hrun1,hrun]
     ·simp only[RVs];exact⟨_,_,O1,O3,rfl,rv,rvs,fun _=>rfl⟩
    ·simp at h
   ·simp at h
  ·simp at h
 | [],_::_,hc,_,_,_,_,_,_=>by simp[f8]at hc
 | _::_,[],hc,_,_,_,_,_,_=>by simp[f8]at hc
 | .tmp _::_,.cell _ _::_,hc,_,_,_,_,_,_=>by simp[f8]at hc
 | .cell _ _::_,.tmp _::_,hc,_,_,_,_,_,_=>by simp[f8]at hc
theorem ae0 {vf:af}{fn:Func}(hc:f8 P vf.results fn.results.toList=true) {v:AV}{hs':HS}(h:xr vf st=some (v,hs')) (s:S P g w st t O) :
  ∃ x Ov Oh,(results fn t).run P w=.ok x w∧RV g w v x Ov∧S P g w ⟨[],hs'⟩ #[] Oh∧∀ b,Ov b+Oh b≤O b:=by
 unfold xr at h
 split at h
 ·rename_i v1 st1 hr
  simp only[Option.some.injEq,Prod.mk.injEq]at h
  obtain⟨rfl,rfl⟩:=h
  obtain⟨xs,Ov,O',hrun,rvs,s',l,hlen⟩:=vg hc hr s
  simp only[RVs]at rvs
  obtain⟨x,ys,O1,O2,rfl,rv,⟨rfl,_⟩,hs2⟩:=rvs
  obtain⟨Oe,Oh,_,sh,ho⟩:=s'.split
  refine⟨x,O1,Oh,?_,rv,sh,fun b=>by have:=l b;have:=ho b;have:=hs2 b;omega⟩
  rw[Tt,Sem.run_bind,aeZ hrun]
  simp
 ·rename_i vs st1 hne hr
  simp only[Option.some.injEq,Prod.mk.injEq]at h
  obtain⟨rfl,rfl⟩:=h
  obtain⟨xs,Ov,O',hrun,rvs,s',l,hlen⟩:=vg hc hr s
  obtain⟨Oe,Oh,_,sh,ho⟩:=s'.split
  refine⟨.tuple xs.toArray,Ov,Oh,?_,by simp only[RV];exact⟨xs.toArray,rfl,rvs⟩,sh,fun b=>by have:=l b;have:=ho b;omega⟩
  have hl1:xs.length≠1:=by
   intro h1
   have h2:=rvs.length
   rw[h1]at h2
   match vs,h2 with
   | [v],_=>exact hne v rfl
  rw[Tt,Sem.run_bind,aeZ hrun]
  simp[hl1]
 ·simp at h
end
end Go.Vm
namespace Go.Vm
section
variable {P:Program}{g:Gh}{w:World}{t:Array Value}{O:Nat→Nat}{st st':St}{a:AV}{o:Oper}{r:bn}
theorem jQ {ro:Option Nat}{ops:Array Oper}{Q:Exit→Act→World→Prop}{i:Nat}{rest:List Nat}{ds:List Deferred}{v:Value}{w':World}(h:ops[i]?=some o) (hg:o.guard=none)
  (hd:∀ c,o.op≠.defer c) (hrun:(execOp (ev t) o).run P w=.ok (.value v) w') (hk:wpOpsIn (FR ro) 0 P ops Q rest ⟨kO t o.dst v,ds⟩ w'):wpOpsIn (FR ro) 0 P ops Q (i::rest) ⟨t,ds⟩ w:=by
 simp only[wpOpsIn,h]
 rw[if_pos (by simp[Region.wanted,hg])]
 refine⟨fun _ _=>trivial,?_⟩
 rw[Gb _ _ hd,hrun,Oper.uponIn_value,SS]
 exact hk
theorem mJ {d:Nat}(h:Db o d=true):o.dst=some d∧o.guard=none:=by
 simp only[Db,Bool.and_eq_true]at h
 obtain⟨h1,h2⟩:=h
 split at h1
 ·rename_i e he;rw[Nat.beq_eq]at h1;subst h1;exact⟨he,Option.isNone_iff_eq_none.1 h2⟩
 ·simp at h1
theorem UJ {x:Operand}(h:Rt x=true):x=.const (.slice none 0 0):=by
 unfold Rt at h;split at h
 ·rfl
 ·simp at h
theorem kr {i:Nat}{x:Operand}(h:vd i x=true):x=.tmp i:=by
 unfold vd at h;split at h
 ·rw[Nat.beq_eq]at h;subst h;rfl
 ·simp at h
theorem au8 {α:Type}{r:Array α}{x:α}(h:r.toList=[x]):r=#[x]:=by
 apply Array.ext';simpa using h
theorem TB {d:Nat}{r:Array Oper}(h:Uj d r.toList=true):∃ o,r=#[o]∧o.dst=some d∧o.guard=none∧o.op=.assign (.const (.slice none 0 0)):=by
 unfold Uj at h
 split at h
 ·rename_i o e
  simp only[Bool.and_eq_true]at h
  obtain⟨h1,h2⟩:=h
  obtain⟨k1,k2⟩:=mJ h1
  split at h2
  ·rename_i x hx
   exact⟨o,by apply Array.ext';rw[e],k1,k2,by rw[hx,UJ h2]⟩
  ·simp at h2
 ·simp at h
theorem ahG {m:Nat}{r:Array Oper}(h:aeM P m r.toList=true):∃ a b T u,r=#[a,b]∧a.dst=some 3∧a.guard=none∧a.op=.move (.tmp 0)∧b.dst=some 4∧b.guard=none∧
  b.op=.binOp .eql T (.tmp 3) (.const (.slice none 0 0)) u∧dL P T m=true:=by
 unfold aeM at h
 split at h
 ·rename_i a b e
  simp only[Bool.and_eq_true]at h
  obtain⟨⟨⟨h1,h2⟩,h3⟩,h4⟩:=h
  obtain⟨k1,k2⟩:=mJ h1
  obtain⟨k3,k4⟩:=mJ h3
  split at h2
  ·rename_i x hx
   split at h4
   ·rename_i T y z u hb
    simp only[Bool.and_eq_true]at h4
    obtain⟨⟨q1,q2⟩,q3⟩:=h4
    exact⟨a,b,T,u,by apply Array.ext';rw[e],k1,k2,by rw[hx,kr h2],k3,k4,by rw[hb,kr q2,UJ q3],q1⟩
   ·simp at h4
  ·simp at h2
 ·simp at h
theorem ahw {m:Nat}{r:Array Oper}(h:ae9 P m r.toList=true):∃ a b c d T ats e',r=#[a,b,c,d]∧a.dst=some 5∧a.guard=none∧a.op=.buildSlice T 0 #[]∧dL P T m=true∧
  b.dst=some 6∧b.guard=none∧b.op=.move (.tmp 0)∧c.dst=some 7∧c.guard=none∧c.op=.call ⟨.builtin .append,#[.tmp 5,.tmp 6],ats⟩∧ats=#[jT ⟨.builtin .append,#[.tmp 5,.tmp 6],ats⟩,ats.getD 1 0]∧
  dL P (jT ⟨.builtin .append,#[.tmp 5,.tmp 6],ats⟩) m=true∧il P (jT ⟨.builtin .append,#[.tmp 5,.tmp 6],ats⟩) m=true∧P.underlying (ats.getD 1 0)=some (.slice e')∧
  d.dst=some 2∧d.guard=none∧d.op=.assign (.tmp 7):=by
 unfold ae9 at h
 split at h
 ·rename_i a b c d e
  simp only[Bool.and_eq_true]at h
  obtain⟨⟨⟨⟨⟨⟨⟨h1,h2⟩,h3⟩,h4⟩,h5⟩,h6⟩,h7⟩,h8⟩:=h
  obtain⟨k1,k2⟩:=mJ h1
  obtain⟨k3,k4⟩:=mJ h3
  obtain⟨k5,k6⟩:=mJ h5
  obtain⟨k7,k8⟩:=mJ h7
  split at h2
  ·rename_i T ps hops
   simp only[Bool.and_eq_true]at h2
   have hps:ps=#[]:=by simpa using h2.2
   split at h4
   ·rename_i x hx
    split at h6
    ·rename_i k hk
     obtain⟨callee,args,ats⟩:=k
     simp only[Bool.and_eq_true]at h6
     obtain⟨⟨⟨⟨⟨q1,q2⟩,q3⟩,q4⟩,q5⟩,q6⟩:=h6
     have:=jR q1;subst this
     split at q6
     ·rename_i y z hargs
      simp only[Bool.and_eq_true]at q6
      have e1:=kr q6.1
      have e2:=kr q6.2
      subst e1 e2
      have:args=#[.tmp 5,.tmp 6]:=by apply Array.ext';rw[hargs]
      subst this
      split at q5
      ·rename_i e' he'
       split at h8
       ·rename_i u hu
        exact⟨a,b,c,d,T,ats,e',by apply Array.ext';rw[e],k1,k2,by rw[hops,hps],h2.1,k3,k4,by rw[hx,kr h4],k5,k6,hk,Co q2,q3,q4,he',k7,k8,by rw[hu,kr h8]⟩
       ·simp at h8
      ·simp at q5
     ·simp at q6
    ·simp at h6
   ·simp at h4
  ·simp at h2
 ·simp at h
theorem ft {i j:Nat}{v:Value}(h:j<t.size):(t.setIfInBounds i v).getD j undef=if i=j then v else t.getD j undef:=by
 simp only[Array.getD_eq_getD_getElem?,Array.getElem?_setIfInBounds]
 by_cases e:i=j
 ·subst e;simp[h]
 ·simp[e]
theorem aip {m:Nat}{c:Code}(hc:Ff P m c=true) {out:aU}(h:KM m st=some (out,st')) (ht:8≤t.size) (s:S P g w st t O) :
  c.wpIn (FR none) 0 P (aO P g w t O [] none out st') ⟨t,[]⟩ w:=by
 unfold Ff at hc
 split at hc
 ·rename_i i0 r0 i1 r1 i2 r2 i3 r3
  simp only[Bool.and_eq_true]at hc
  obtain⟨⟨⟨c0,c1⟩,c2⟩,c3⟩:=hc
  obtain⟨o0,rfl,d0,gd0,p0⟩:=TB c0
  obtain⟨o1,o2,T,u,rfl,d1,gd1,p1,d2,gd2,p2,hT⟩:=ahG c1
  obtain⟨o3,rfl,d3,gd3,p3⟩:=TB c2
  obtain⟨o4,o5,o6,o7,T4,ats,e',rfl,d4,gd4,p4,hT4,d5,gd5,p5,d6,gd6,p6,hats,hT6,hz6,hu1,d7,gd7,p7⟩:=ahw c3
  unfold KM at h
  split at h
  ·rename_i v hv
   split at h
   ·rename_i xs hxs
    split at h
    ·rename_i hb
     simp only[Bool.and_eq_true,Nat.ble_eq]at hb
     obtain⟨hok,hmost⟩:=hb
     simp only[Option.some.injEq,Prod.mk.injEq]at h
     obtain⟨rfl,rfl⟩:=h
     have hl:=Dg hok
     obtain⟨Ov,O1,h0t,rv,s1,l1⟩:=s.pull hv
     obtain⟨ad,cap,news0,hx,hels0⟩:=qF s hxs hl rv
     obtain⟨Oe,Oh,_,sh,ho⟩:=s.split
     generalize hX:t.getD 0 undef=X at *
     obtain⟨el,hu,hsz,hm,hby⟩:=c6 hT
     have fin:∀ (t':Array Value) (w':World) (g':Gh) (Or O':Nat→Nat),t'.size=t.size→RV g' w' (.own true m xs) (t'.getD 2 undef) Or→S P g' w' ⟨[],st.hs⟩ #[] O'→aE g w g' w' (fun b=>O b≠0)→
       (∀ b,Or b+O' b≤1)→(∀ b,b<w.heap.size→Or b+O' b≤O b)→(∀ b,Or b≠0→b<w'.heap.size)→aO P g w t O [] none .ret ⟨[(2,.own true m xs)],st.hs⟩ .ret ⟨t',[]⟩ w':=by
      intro t' w' g' Or O' hsz' rv' s' hx' hle hold hhi
      refine⟨rfl,g',fun b=>Or b+O' b,[],⟨S.join (by simp[aX]) ⟨Or,zero,⟨by show 2<t'.size;omega,rv'⟩,fun _=>rfl,fun b=>by simp⟩ s' hle hhi,hx',hold,hsz'⟩,rfl,trivial,fun _=>rfl⟩
     have nodef:∀ {op:Op}{op':Op},op=op'→(∀ c,op'≠.defer c)→∀ c,op≠.defer c:=fun e h c e2=>h c (e▸e2)
     refine wpIn_seq (wpIn_region ?_)
     show wpOpsIn _ _ _ _ _ [0] _ _
     refine jQ (o:=o0) (v:=.slice none 0 0) (w':=w) rfl gd0 (nodef p0 (by simp)) (by simp[execOp,p0,ev]) ?_
     refine wpIn_seq (wpIn_seq (wpIn_region ?_))
     show wpOpsIn _ _ _ _ _ [0,1] _ _
     have hev0:ev (kO t (some 2) (.slice none 0 0)) (.tmp 0)=X:=by
      show (t.setIfInBounds 2 _).getD 0 undef=X
      rw[ft (by omega),if_neg (by omega),hX]
     rw[d0]
     refine jQ (o:=o1) (v:=X) (w':=w) rfl gd1 (nodef p1 (by simp)) (by simp[execOp,p1,hev0]) ?_
     rw[d1]
     generalize ht2:kO (kO t (some 2) (.slice none 0 0)) (some 3) X=t2
     have hs2:t2.size=t.size:=by rw[←ht2,iD,iD]
     have hev3:ev t2 (.tmp 3)=X:=by
      rw[←ht2]
      show ((kO t (some 2) (.slice none 0 0)).setIfInBounds 3 X).getD 3 undef=X
      rw[ft (by rw[iD];omega),if_pos rfl]
     have heq:(Op.equal T X (.slice none 0 0)).run P w=.ok ad.isNone w:=by
      show (Op.equalIn (9999+1) T X (.slice none 0 0)).run P w=_
      rw[hx]
      unfold Op.equalIn
      rw[Sem.run_bind,aj hu]
      cases ad<;>simp
     have hguard:(eqGuard .eql T (.tmp 3) (.const (.slice none 0 0)) X (.slice none 0 0)).run P w=.ok () w:=by
      rw[hx];unfold eqGuard;simp
     refine jQ (o:=o2) (v:=.bool ad.isNone) (w':=w) rfl gd2 (nodef p2 (by simp)) ?_ ?_
     ·simp only[execOp,p2,hev3]
      have hc:ev t2 (.const (.slice none 0 0))=.slice none 0 0:=rfl
      rw[hc,Sem.run_bind,Sem.run_bind,hguard]
      have hbin:(binOp .eql T X (.slice none 0 0)).run P w=.ok (.bool ad.isNone) w:=by
       rw[hx]
       rw[hx]at heq
       show ((do pure (.bool (←Op.equal T (.slice ad xs.length cap) (.slice none 0 0))):Sem Value)).run P w=_
       rw[Sem.run_bind,heq];rfl
      simp only[Result.andThen_ok,hbin,Sem.run_pure]
     ·rw[d2]
      generalize ht3:kO t2 (some 4) (.bool ad.isNone)=t3
      have hs3:t3.size=t.size:=by rw[←ht3,iD,hs2]
      have hev4:ev t3 (.tmp 4)=.bool ad.isNone:=by
       rw[←ht3]
       show (t2.setIfInBounds 4 _).getD 4 undef=_
       rw[ft (by omega),if_pos rfl]
      have hev03:ev t3 (.tmp 0)=X:=by
       rw[←ht3,←ht2]
       show (((t.setIfInBounds 2 _).setIfInBounds 3 _).setIfInBounds 4 _).getD 0 undef=X
       rw[ft (by simp;omega),if_neg (by omega),ft (by simp;omega),if_neg (by omega),ft (by omega),if_neg (by omega),hX]
      show (Code.cond (.tmp 4) (.seq (.region i2 #[o3] false) .ret) .skip).wpIn (FR none) 0 P _ ⟨t3,[]⟩ w
      cases had:ad with
      | none =>
       refine wpIn_cond_true (by rw[yJ,hev4,had];rfl) (wpIn_seq (wpIn_region ?_))
       show wpOpsIn _ _ _ _ _ [0] _ _
       refine jQ (o:=o3) (v:=.slice none 0 0) (w':=w) rfl gd3 (nodef p3 (by simp)) (by simp[execOp,p3,ev]) (wpIn_ret ?_)
       rw[d3]
       have hnil:xs=[]:=List.eq_nil_of_length_eq_zero (hels0.nn had)
       refine fin _ w g zero Oh (by rw[iD,hs3]) ?_ sh (.refl _ _ _) (fun b=>by have:=ho b;have:=s.le b;simp;omega) (fun b _=>by have:=ho b;simp;omega) (fun b hb=>by simp at hb)
       have:(kO t3 (some 2) (.slice none 0 0)).getD 2 undef=.slice none 0 0:=by
        show (t3.setIfInBounds 2 _).getD 2 undef=_
        rw[ft (by omega),if_pos rfl]
       rw[this,hnil]
       simp only[RV,mY]
       exact .inl ⟨trivial,fun _=>trivial,none,rfl⟩
      | some ad' =>
       refine wpIn_cond_false (by rw[yJ,hev4,had];rfl) (wpIn_skip ?_)
       refine wpIn_seq (wpIn_region ?_)
       show wpOpsIn _ _ _ _ _ [0,1,2,3] _ _
       obtain⟨el4,hu4,hsz4,hm4,hby4⟩:=c6 hT4
       have hbuild:(Instr.buildSlice T4 0 #[]).run P w=.ok (.slice (some ⟨w.heap.size,0,none⟩) 0 0) (w.alloc (.cells #[] el4)):=by
        have hr:∀ f:Nat→Value,(Array.range (0*m)).map f=#[]:=by
         intro f
         apply Array.eq_empty_of_size_eq_zero
         simp
        simp only[Instr.buildSlice,aj hu4,b6 hsz4,Sem.run_bind,Result.andThen_ok,Sem.run_ite,hr,Instr.fill,Nat.zero_mul,if_true,Sem.run_pure]
        have hr0:∀ f:Nat→Value,(Array.range 0).map f=#[]:=by
         intro f
         apply Array.eq_empty_of_size_eq_zero
         simp
        simp[newRow,hr0,Instr.fill]
       refine jQ (o:=o4) (v:=.slice (some ⟨w.heap.size,0,none⟩) 0 0) (w':=w.alloc (.cells #[] el4)) rfl gd4 (nodef p4 (by simp)) (by simp[execOp,p4,hbuild]) ?_
       rw[d4]
       generalize ht5:kO t3 (some 5) (.slice (some ⟨w.heap.size,0,none⟩) 0 0)=t5
       have hs5:t5.size=t.size:=by rw[←ht5,iD,hs3]
       have hev05:ev t5 (.tmp 0)=X:=by
        rw[←ht5]
        show (t3.setIfInBounds 5 _).getD 0 undef=X
        rw[ft (by omega),if_neg (by omega)]
        exact hev03
       refine jQ (o:=o5) (v:=X) (w':=w.alloc (.cells #[] el4)) rfl gd5 (nodef p5 (by simp)) (by simp[execOp,p5,hev05]) ?_
       rw[d5]
       generalize ht6:kO t5 (some 6) X=t6
       have hs6:t6.size=t.size:=by rw[←ht6,iD,hs5]
       have hev66:ev t6 (.tmp 6)=X:=by
        rw[←ht6]
        show (t5.setIfInBounds 6 _).getD 6 undef=X
        rw[ft (by omega),if_pos rfl]
       have hev65:ev t6 (.tmp 5)=.slice (some ⟨w.heap.size,0,none⟩) 0 0:=by
        rw[←ht6,←ht5]
        show ((t3.setIfInBounds 5 _).setIfInBounds 6 _).getD 5 undef=_
        rw[ft (by simp;omega),if_neg (by omega),ft (by omega),if_pos rfl]
       have hx1:aE g w g (w.alloc (.cells #[] el4)) fun _=>False:=aE.alloc s.pmlt _ _
       have hpl:∀ b o,g.pm b o→b<(w.alloc (.cells #[] el4)).heap.size:=fun b o h=>Nat.lt_of_lt_of_le (s.pmlt b o h) hx1.size
       have sx:=s.extF hx1 rfl hpl
       have shx:=sh.extF hx1 rfl hpl
       have rvx:=RV.ext hx1 _ _ _ rv (by simp)
       obtain⟨ad2,cap2,news,hxx,hels⟩:=qF sx hxs hl rvx
       rw[hx,had]at hxx
       simp only[Value.slice.injEq,true_and]at hxx
       obtain⟨rfl,rfl⟩:=hxx
       obtain⟨el6,hu6,hsz6,hm6,hby6⟩:=c6 hT6
       obtain⟨el6',i6,zv,hu6',hi,hz,hzs⟩:=j1 hz6
       rw[hu6]at hu6'
       simp only[Option.some.injEq,TypeDesc.slice.injEq]at hu6'
       subst hu6'
       rw[DH hi]at hby6
       generalize jT ⟨.builtin .append,#[.tmp 5,.tmp 6],ats⟩=T0 at *
       generalize ats.getD 1 0=T1 at *
       have hsrc:Src P (w.alloc (.cells #[] el4)) T1 X el6 m xs.length news:=by
        refine⟨hels.len,hels.one,.inl ⟨⟨e',hu1⟩,⟨ad,cap,hx⟩,fun w1 hw=>?_⟩⟩
        have:=hels.first (P:=P) (len:=xs.length) (cap:=cap) (Nat.le_refl _) hw
        rw[←hels.len,List.take_length,←had,←hx]at this
        exact this
       have hmost':xs.length≤4294967296:=hmost
       have hApp:mf P g (w.alloc (.cells #[] el4)) #[] Oh zero ⟨[],st.hs⟩ (.own true m xs) ((Builtin.append_ #[T0,T1] o6.type #[.slice (some ⟨w.heap.size,0,none⟩) 0 0,X]).run P (w.alloc (.cells #[] el4))):=by
        by_cases hxs0:xs.length=0
        ·have hnil:news=[]:=List.eq_nil_of_length_eq_zero (by rw[hels.len,hxs0];simp)
         have hxn:xs=[]:=List.eq_nil_of_length_eq_zero hxs0
         have hrun:=rL (P:=P) (w:=w.alloc (.cells #[] el4)) (ty:=o6.type) hu6 hi (GB hsz6 hi) hm6 hby6 hmost' hsrc (base:=some ⟨w.heap.size,0,none⟩) (sLen:=0) (sCap:=0) (by omega)
         refine⟨.slice (some ⟨w.heap.size,0,none⟩) 0 0,w.alloc (.cells #[] el4),g,zero,Oh,?_,?_,shx,.refl _ _ _,fun b=>by have:=shx.le b;simp;omega,fun b _=>by simp,fun b hb=>by simp at hb⟩
         ·rw[hrun,hnil,hxs0];simp[storeCells]
         ·rw[hxn];simp only[RV,mY];exact .inl ⟨trivial,fun _=>trivial,_,rfl⟩
        ·have:=Pj (Oa:=zero) (xs:=[]) (base:=some ⟨w.heap.size,0,none⟩) (sCap:=0) (olds:=[]) (ty:=o6.type) shx hu6 hi hz hzs (GB hsz6 hi) hm6 hby6 hsrc hels.rd (fun e he=>by simp at he) hl (by simp)
          (fun j d h=>by simp at h) (fun w1 _=>lN m _ 0 0 w1) (by simpa using hmost') (by simp;omega)
         simpa using this
       obtain⟨vv,w2,g2,Or,O2,k1,k2,k3,k4,k5,k6,k7⟩:=hApp
       refine jQ (o:=o6) (v:=vv) (w':=w2) rfl gd6 (nodef p6 (by simp)) ?_ ?_
       ·simp only[execOp,p6,resolve,Sem.run_bind,Sem.run_pure,Result.andThen_ok,invoke,builtin]
        have hargs:Array.map (ev t6) #[Operand.tmp 5,Operand.tmp 6]=#[.slice (some ⟨w.heap.size,0,none⟩) 0 0,X]:=by
         simp only[List.map_toArray,List.map_cons,List.map_nil,hev65,hev66]
        rw[hargs,hats,k1]
        simp
       ·rw[d6]
        generalize ht7:kO t6 (some 7) vv=t7
        have hs7:t7.size=t.size:=by rw[←ht7,iD,hs6]
        have hev77:ev t7 (.tmp 7)=vv:=by
         rw[←ht7]
         show (t6.setIfInBounds 7 _).getD 7 undef=vv
         rw[ft (by omega),if_pos rfl]
        refine jQ (o:=o7) (v:=vv) (w':=w2) rfl gd7 (nodef p7 (by simp)) (by simp[execOp,p7,hev77]) (wpIn_ret ?_)
        rw[d7]
        have hle1:w.heap.size≤(w.alloc (.cells #[] el4)).heap.size:=hx1.size
        refine fin _ w2 g2 Or O2 (by rw[iD,hs7]) ?_ k3 (((hx1.mono (T:=fun b=>O b≠0) fun _ _ h=>h.elim)).trans k4 fun b hb hq=>?_) k5 (fun b hb=>?_) k7
        ·have:(kO t7 (some 2) vv).getD 2 undef=vv:=by
          show (t7.setIfInBounds 2 _).getD 2 undef=_
          rw[ft (by omega),if_pos rfl]
         rw[this];exact k2
        ·rcases hq with hq | hq
         ·exact absurd rfl hq
         ·have:=ho b;show O b≠0;omega
        ·have h6:Or b+O2 b≤0+Oh b:=k6 b (Nat.lt_of_lt_of_le hb hle1)
         have:=ho b;omega
    ·simp at h
   ·simp at h
  ·simp at h
 ·simp at hc
end
end Go.Vm
namespace Go.Vm
section
variable {r:bn}
theorem Ay {l:List (Nat×Nat)}(h:D5 l=true):l=[]:=by
 cases l<;>simp_all [D5]
theorem Fo {a:Bool}{F:List Nat}{i:VI}(h:kS a i=true) {e:ak}{hs:HS}{st1:St}(hr:aM r a F i ⟨e,hs⟩=some st1):st1.hs=hs∧∀ hs',aM r a F i ⟨e,hs'⟩=some ⟨st1.env,hs'⟩:=by
 simp only[kS,Bool.and_eq_true,Bool.not_eq_true']at h
 obtain⟨⟨ha,hth⟩,hop⟩:=h
 have hth:=Ay hth
 subst ha
 simp only[aM]at hr⊢
 have go:∀ st1,cZ r i ⟨e,hs⟩=some st1→st1.hs=hs∧∀ hs',cZ r i ⟨e,hs'⟩=some ⟨st1.env,hs'⟩:=by
  intro st1 h
  unfold cZ at h
  simp only[hth]at h
  split at h
  ·rename_i v st0 hv
   simp only[Option.some.injEq]at h;subst h
   obtain⟨q1,q2⟩:=amm hop hv
   refine⟨by cases i.dst<;>exact q1,fun hs'=>?_⟩
   unfold cZ
   simp only[hth,q2 hs']
   cases i.dst<;>rfl
  ·simp at h
 unfold aT at hr
 cases hg:i.guard with
 | none =>
  rw[hg]at hr
  obtain⟨q1,q2⟩:=go _ hr
  exact⟨q1,fun hs'=>by unfold aT;rw[hg];exact q2 hs'⟩
 | some sw =>
  obtain⟨sl,want⟩:=sw
  rw[hg]at hr
  simp only at hr
  split at hr
  ·rename_i b hb
   split at hr
   ·rename_i hbw
    obtain⟨q1,q2⟩:=go _ hr
    exact⟨q1,fun hs'=>by unfold aT;rw[hg];simp only[hb,hbw];exact q2 hs'⟩
   ·rename_i hbw
    simp only[Option.some.injEq]at hr;subst hr
    exact⟨by cases i.dst<;>rfl,fun hs'=>by unfold aT;rw[hg];simp only[hb,hbw];cases i.dst<;>rfl⟩
  ·rename_i hb
   simp only[Option.some.injEq]at hr;subst hr
   exact⟨by cases i.dst<;>rfl,fun hs'=>by unfold aT;rw[hg];simp only[hb];cases i.dst<;>rfl⟩
  ·simp at hr
theorem QI {i:VI}(h:isQ i=true):∃ R M,eO i=some (.q,R,M):=by
 unfold isQ at h
 split at h
 ·rename_i p hp;obtain⟨R,M⟩:=p;exact⟨R,M,hp⟩
 ·simp at h
theorem Q9 {i:VI}(h:ZY i=true):∃ R M,eO i=some (.p,R,M):=by
 unfold ZY at h
 split at h
 ·rename_i p hp;obtain⟨R,M⟩:=p;exact⟨R,M,hp⟩
 ·simp at h
theorem Cu {i:VI}(h:Am i=true):jW i.op=.read:=by
 unfold Am at h
 split at h<;>simp_all
theorem akH {i:VI}(h:afd i=true):jW i.op=.take:=by
 unfold afd at h
 split at h<;>simp_all
theorem aai {i:VI}(h:S5 i=true):jW i.op=.call:=by
 unfold S5 at h
 split at h<;>simp_all
theorem EF {a:Bool}{F:List Nat}{i:VI}(h:PR a i=true) {e:ak}{hs:HS}{st1:St}(hr:aM r a F i ⟨e,hs⟩=some st1):st1.hs=hs:=by
 simp only[PR,Bool.and_eq_true,Bool.or_eq_true,Bool.not_eq_true']at h
 obtain⟨hq,hn⟩:=h
 obtain⟨R,M,hk⟩:=QI hq
 have plain:aT r i ⟨e,hs⟩=some st1→st1.hs=hs:=fun h=>by
  obtain⟨ρ,τ,K,q1,_⟩:=jb hk e hs st1 h
  rw[q1];exact K.2 hs
 cases a with
 | false=>exact plain hr
 | true =>
  have hn:=Cu (hn.resolve_left (by simp))
  simp only[aM,mF,hn]at hr
  split at hr
  ·simp only[Option.some.injEq]at hr;subst hr;rfl
  ·simp at hr
theorem KZ {K:HK}{f:St→Option St}{R M:List Nat}(hl:KH K f R M) {e:ak}(hsrt:aX e) {hs:HS}{st1:St}(hr:f ⟨e,hs⟩=some st1):∃ ρ τ,K hs ρ τ∧st1.hs=τ hs∧∀ hs',ρ hs'→f ⟨e,hs'⟩=some ⟨st1.env,τ hs'⟩:=by
 obtain⟨ρ,τ,k,q1,q2,q3,q4⟩:=hl e hs st1 hr
 refine⟨ρ,τ,k,q1,fun hs' hρ=>?_⟩
 obtain⟨e1',p1,p2,p3⟩:=q4 e hs' (fun _ _=>rfl) hρ
 obtain⟨_,_,_,_,s2,_,_⟩:=hl e hs' _ p1
 rw[p1]
 congr 2
 refine lK (s2 hsrt) (q2 hsrt) fun k=>?_
 by_cases hk:k∈M
 ·exact p3 k hk
 ·rw[p2 k hk,q3 k hk]
theorem ajm {F F':List Nat}{u:VI}(hq:isQ u=true) (hn:Am u=true) {e:ak}(hsrt:aX e) {hs:HS}{st1:St}(hr:aM r true F u ⟨e,hs⟩=some st1) :
  ∀ hs',bS (eK (gD u e) hs.heap) (eK (gD u e) hs'.heap)→aM r true F' u ⟨e,hs'⟩=some ⟨st1.env,hs'⟩:=by
 intro hs' hle
 obtain⟨R,M,hk⟩:=QI hq
 have hn:=Cu hn
 simp only[aM,mF,hn]at hr⊢
 split at hr
 ·rename_i st2 h2
  simp only[Option.some.injEq]at hr;subst hr
  obtain⟨ρ,τ,K,q1,q2⟩:=KZ (jb hk) hsrt h2
  rw[q2 ⟨eK (gD u e) hs'.heap,hs'.next⟩ (K.1 _ hle)]
 ·simp at hr
theorem aj4 {F:List Nat}{v:VI}(hn:S5 v=true) {e:ak}{hs:HS}{st1:St}(hr:aM r true F v ⟨e,hs⟩=some st1):jS F hs.heap st1.hs.heap=true:=by
 have hn:=aai hn
 simp only[aM,mF,hn]at hr
 split at hr
 ·split at hr
  ·rename_i h
   simp only[Option.some.injEq]at hr;subst hr
   exact h
  ·simp at hr
 ·simp at hr
theorem acS {a:Bool}{F F':List Nat}{v:VI}{st st1:St}(hsub:∀ k∈F',k∈F) (hr:aM r a F v st=some st1):aM r a F' v st=some st1:=by
 cases a with
 | false=>exact hr
 | true =>
  simp only[aM,mF]at hr⊢
  split at hr
  ·rename_i hn
   split at hr
   ·rename_i st2 h2
    split at hr
    ·rename_i hs
     simp only[aad hs hsub]
     exact hr
    ·simp at hr
   ·simp at hr
  ·exact hr
  ·exact hr
theorem amx (a:Bool) (v:VI) (e:ak) {F F':List Nat}(hsub:∀ k∈F',k∈F):∀ k∈eV a v e F',k∈eV a v e F:=by
 intro k hk
 unfold eV at hk⊢
 cases a with
 | false=>exact hsub k hk
 | true =>
  simp only at hk⊢
  split at hk
  ·rename_i hn
   rcases List.mem_append.1 hk with h | h
   ·exact List.mem_append_left _ h
   ·exact List.mem_append_right _ (hsub k h)
  ·exact hsub k hk
theorem aoY (a:Bool) (v:VI) (e:ak) (F:List Nat):∀ k∈F,k∈eV a v e F:=by
 intro k hk
 unfold eV
 cases a with
 | false=>exact hk
 | true =>
  simp only
  split
  ·exact List.mem_append_right _ hk
  ·exact hk
theorem Pl {nr:List Nat}{vs:List VI}:∀ {l:List Nat}{F F':List Nat}{st st':St},(∀ k∈F',k∈F)→cL r nr vs l F st=some st'→cL r nr vs l F' st=some st'
 | [],_,_,_,_,_,h=>h
 | i::l,F,F',st,st',hsub,h=>by
  simp only[cL]at h⊢
  split at h
  ·simp at h
  ·rename_i v hv
   split at h
   ·simp at h
   ·rename_i st1 h1
    simp only[acS hsub h1]
    exact Pl (amx _ _ _ hsub) h
theorem agJ {a:Bool}{F:List Nat}{v:VI}{e:ak}{hs:HS}(hsrt:aX e) {R M:List Nat}(hf:a=false∨jW v.op≠.read∨eO v=some (.q,R,M)) {st1:St}(hr:aM r a F v ⟨e,hs⟩=some st1):aT r v ⟨e,hs⟩=some st1:=by
 cases a with
 | false=>exact hr
 | true =>
  simp only[aM,mF]at hr
  split at hr
  ·split at hr
   ·rename_i h
    split at hr
    ·simp only[Option.some.injEq]at hr;subst hr;exact h
    ·simp at hr
   ·simp at hr
  ·split at hr
   ·rename_i h
    split at hr
    ·split at hr
     ·split at hr
      ·simp only[Option.some.injEq]at hr;subst hr;exact h
      ·simp at hr
     ·simp at hr
    ·simp at hr
   ·simp at hr
  ·rename_i hn
   split at hr
   ·rename_i st2 h
    simp only[Option.some.injEq]at hr;subst hr
    have hk:=(hf.resolve_left (by simp)).resolve_left (fun h=>h hn)
    obtain⟨ρ,τ,K,q1,q2⟩:=KZ (jb hk) hsrt h
    have:=q2 hs (K.1 _ (bS.only _ _))
    rw[K.2 hs]at this
    exact this
   ·simp at hr
theorem kx {a b:Bool}{u v:VI}(h:wn a b u v=true):∃ R1 M1 R2 M2,oX a u=some (R1,M1)∧oX b v=some (R2,M2)∧(∀ k∈M1,k∉R2∧k∉M2)∧∀ k∈M2,k∉R1∧k∉M1:=by
 unfold wn at h
 split at h
 ·rename_i R1 M1 R2 M2 e1 e2
  simp only[Bool.and_eq_true]at h
  obtain⟨⟨a1,a2⟩,a3⟩:=h
  exact⟨R1,M1,R2,M2,e1,e2,fun k hk=>⟨ct a1 k hk,ct a2 k hk⟩,fun k hk=>⟨ct a3 k hk,fun h=>ct a2 k h hk⟩⟩
 ·simp at h
theorem ahf {a:Bool}{v:VI}{R M:List Nat}(h:oX a v=some (R,M)) {e e':ak}(he:∀ k∈R,get e' k=get e k) (F:List Nat):eV a v e' F=eV a v e F:=by
 cases a with
 | false=>rfl
 | true =>
  unfold oX at h
  split at h
  ·simp only[Option.some.injEq,Prod.mk.injEq]at h
   obtain⟨rfl,rfl⟩:=h
   have:gD v e'=gD v e:=Ol fun k hk=>he k (List.mem_append_right _ hk)
   simp only[eV,this]
  ·simp at h
def Ik (r:bn) (a b:Bool) (u v:VI) (F:List Nat) (st st1 st2:St):Prop :=
 ∃ st1',aM r b F v st=some st1'∧aM r a (eV b v st.env F) u st1'=some st2∧∀ k∈eV a u st1'.env (eV b v st.env F),k∈eV b v st1.env (eV a u st.env F)
theorem alI {a b:Bool}{u v:VI}{R1 M1 R2 M2:List Nat}(f1:oX a u=some (R1,M1)) (f2:oX b v=some (R2,M2)) (d1:∀ k∈M1,k∉R2∧k∉M2) (d2:∀ k∈M2,k∉R1∧k∉M1) {F:List Nat}{st st1 st2 st1':St}
  (h1:aM r a F u st=some st1) (k1:aM r b F v st=some st1') (k2:aM r a (eV b v st.env F) u st1'=some st2):Ik r a b u v F st st1 st2:=by
 refine⟨st1',k1,k2,?_⟩
 obtain⟨e,hs⟩:=st
 obtain⟨_,g1,_⟩:=fD (r:=r) f1 F e hs _ h1
 obtain⟨_,g2,_⟩:=fD (r:=r) f2 F e hs _ k1
 rw[ahf f1 (e:=e) (e':=st1'.env) (fun k hk=>g2 k fun hm=>(d2 k hm).1 hk),ahf f2 (e:=e) (e':=st1.env) (fun k hk=>g1 k fun hm=>(d1 k hm).1 hk)]
 intro k hk
 cases a with
 | false=>exact hk
 | true =>
  cases b with
  | false=>exact hk
  | true =>
   simp only[eV]at hk⊢
   cases hu:jW u.op<;>cases hv:jW v.op<;>simp only[hu,hv]at hk⊢<;>first | exact hk | skip
   simp only[List.mem_append]at hk⊢
   rcases hk with h | h | h
   ·exact .inr (.inl h)
   ·exact .inl h
   ·exact .inr (.inr h)
theorem S6 {a b:Bool}{u v:VI}(h:Kt a b u v=true) {F:List Nat}{st st1 st2:St}(hsrt:aX st.env) (h1:aM r a F u st=some st1) (h2:aM r b (eV a u st.env F) v st1=some st2):Ik r a b u v F st st1 st2:=by
 simp only[Kt,Bool.and_eq_true,Bool.or_eq_true]at h
 obtain⟨hap,h⟩:=h
 obtain⟨R1,M1,R2,M2,f1,f2,d1,d2⟩:=kx hap
 have l1:=fun F=>fD (r:=r) f1 F
 have l2:=fun F=>fD (r:=r) f2 F
 have h2':=acS (F':=F) (aoY a u st.env F) h2
 have fin:(∃ st1',aM r b F v st=some st1'∧aM r a F u st1'=some st2)→(∀ {s s':St},aM r a F u s=some s'→aM r a (eV b v st.env F) u s=some s')→Ik r a b u v F st st1 st2:=by
  intro ⟨st1',k1,k2⟩ up
  exact alI f1 f2 d1 d2 h1 k1 (up k2)
 obtain⟨e,hs⟩:=st
 obtain⟨e1,hs1⟩:=st1
 obtain⟨e2,hs2⟩:=st2
 rcases h with ((h | h) | h) | h
 ·obtain⟨q1,q2⟩:=Fo h h1
  simp only at q1;subst q1
  refine fin (mZ (l1 F) (l2 F) d1 d2 hsrt h1 h2' h2' (q2 hs2)) fun {s s'} hs=>?_
  simp only[kS,Bool.and_eq_true,Bool.not_eq_true']at h
  rw[h.1.1]at hs⊢
  exact hs
 ·obtain⟨q1,q2⟩:=Fo h h2'
  simp only at q1;subst q1
  refine fin (mZ (l1 F) (l2 F) d1 d2 hsrt h1 h2' (q2 hs) h1) fun {s s'} hs=>?_
  simp only[kS,Bool.and_eq_true,Bool.not_eq_true']at h
  rw[h.1.1]
  exact hs
 ·have q1:=EF h.1 h1
  have q2:=EF h.2 h2'
  simp only at q1 q2;subst q1;subst q2
  refine fin (mZ (l1 F) (l2 F) d1 d2 hsrt h1 h2' h2' h1) fun {s s'} hs=>?_
  have hr:=h.1
  simp only[PR,Bool.and_eq_true,Bool.or_eq_true,Bool.not_eq_true']at hr
  cases a with
  | false=>exact hs
  | true =>
   have hn:=Cu (hr.2.resolve_left (by simp))
   simp only[aM,mF,hn]at hs⊢
   exact hs
 ·simp only[acM,Bool.and_eq_true]at h
  obtain⟨⟨⟨⟨rfl,rfl⟩,hq⟩,hn⟩,hc⟩:=h
  have q1:=EF (r:=r) (a:=true) (i:=u) (by simp only[PR,hq,hn,Bool.or_true,Bool.and_true]) h1
  simp only at q1;subst q1
  have hnu:=Cu hn
  have hsame:=aj4 hc h2
  have hle:=bS.same (ids:=gD u e) hsame (fun k hk=>by simp only[eV,hnu];exact List.mem_append_left _ hk)
  have hF:eV true v e F=F:=by simp only[eV,aai hc]
  refine fin (mZ (l1 F) (l2 F) d1 d2 hsrt h1 h2' h2' (ajm hq hn hsrt h1 hs2 hle)) fun {s s'} hs=>?_
  simp only[hF];exact hs
def C4 (m:Bool) (vs:List AV) (i:Nat):List AV:=match m with | true=>vs.set i .junk | false=>vs
def JJ (m:Bool) (e:ak) (j:Nat) (vs:List AV) (i:Nat):ak:=match m with | true=>put e j (.tup (C4 m vs i)) | false=>e
def aiw (m:Bool) (x:AV):AV:=match m with | true=>x | false=>share x
theorem agW {m:Bool}{vs:List AV}{i k:Nat}(h:i≠k):(C4 m vs i)[k]?=vs[k]?:=by
 cases m
 ·rfl
 ·exact List.getElem?_set_ne h
theorem akA {m n:Bool}{vs:List AV}{i k:Nat}(h:i≠k):C4 n (C4 m vs i) k=C4 m (C4 n vs k) i:=by
 cases m<;>cases n<;>try rfl
 exact List.set_comm _ _ h
theorem uY {m:Bool}{e:ak}{j:Nat}{vs:List AV}{i:Nat}(hj:get e j=some (.tup vs)) (q:Nat):get (JJ m e j vs i) q=if q=j then some (.tup (C4 m vs i)) else get e q:=by
 cases m
 ·simp only[JJ,C4]
  by_cases h:q=j
  ·subst h;rw[if_pos rfl];exact hj
  ·rw[if_neg h]
 ·simp only[JJ,bv]
theorem Ac {m:Bool}{e:ak}(h:aX e) (j:Nat) (vs:List AV) (i:Nat):aX (JJ m e j vs i):=by
 cases m
 ·exact h
 ·exact h.put _ _
theorem Ep {u:VI}{j:Nat}{m:Bool}{i d:Nat}(ho:u.op=.ext j m i) (hd:u.dst=some d) (hg:u.guard=none) (ht:u.th=[]) (e:ak) (hs:HS):aT r u ⟨e,hs⟩ =
  match get e j with
  | some (.tup vs)=>match vs[i]? with
   | some x=>some ⟨put (JJ m e j vs i) d (firm (aiw m x)),hs⟩
   | none=>none
  | _=>none:=by
 unfold aT cZ
 simp only[hg,ho,aY,qZ,hd,ht]
 cases get e j with
 | none=>rfl
 | some w =>
  cases w<;>try rfl
  rename_i vs
  simp only
  cases vs[i]? with
  | none=>rfl
  | some x=>cases m<;>rfl
theorem amc {u v:VI}{j i k d c:Nat}{m n:Bool}(o1:u.op=.ext j m i) (o2:v.op=.ext j n k) (d1:u.dst=some d) (d2:v.dst=some c) (g1:u.guard=none) (g2:v.guard=none) (ht1:u.th=[]) (ht2:v.th=[])
  (hik:i≠k) (hdc:d≠c) (hdj:d≠j) (hcj:c≠j) {st st1 st2:St}(hsrt:aX st.env) (h1:aT r u st=some st1) (h2:aT r v st1=some st2):∃ st1',aT r v st=some st1'∧aT r u st1'=some st2:=by
 obtain⟨e,hs⟩:=st
 rw[Ep o1 d1 g1 ht1]at h1
 split at h1
 ·rename_i vs hj
  split at h1
  ·rename_i x hx
   simp only[Option.some.injEq]at h1;subst h1
   rw[Ep o2 d2 g2 ht2]at h2
   have hj1:get (put (JJ m e j vs i) d (firm (aiw m x))) j=some (.tup (C4 m vs i)):=by
    rw[bv,if_neg (fun h=>hdj h.symm),uY hj,if_pos rfl]
   rw[hj1]at h2
   simp only[agW hik]at h2
   split at h2
   ·rename_i y hy
    simp only[Option.some.injEq]at h2;subst h2
    have hj2:get (put (JJ n e j vs k) c (firm (aiw n y))) j=some (.tup (C4 n vs k)):=by
     rw[bv,if_neg (fun h=>hcj h.symm),uY hj,if_pos rfl]
    refine⟨⟨put (JJ n e j vs k) c (firm (aiw n y)),hs⟩,by rw[Ep o2 d2 g2 ht2,hj];simp only[hy],?_⟩
    rw[Ep o1 d1 g1 ht1,hj2]
    simp only[agW (fun h:k=i=>hik h.symm),hx,Option.some.injEq]
    congr 1
    refine lK ((Ac ((Ac hsrt _ _ _).put _ _) _ _ _).put _ _) ((Ac ((Ac hsrt _ _ _).put _ _) _ _ _).put _ _) fun q=>?_
    rw[bv,uY hj2,bv,uY hj,bv,uY hj1,bv,uY hj]
    by_cases q1:q=d
    ·subst q1;simp[hdc,hdj]
    ·by_cases q2:q=c
     ·subst q2;simp[q1,hcj]
     ·by_cases q3:q=j
      ·subst q3;simp[q1,q2,akA hik]
      ·simp[q1,q2,q3]
   ·simp at h2
  ·simp at h1
 ·simp at h1
theorem JD {a b:Bool}{u v:VI}(h:gS a b u v=true) {F:List Nat}{st st1 st2:St}(hsrt:aX st.env) (h1:aM r a F u st=some st1) (h2:aM r b (eV a u st.env F) v st1=some st2):Ik r a b u v F st st1 st2:=by
 simp only[gS,Bool.and_eq_true,Bool.not_eq_true']at h
 obtain⟨⟨⟨⟨rfl,rfl⟩,ht1⟩,ht2⟩,h⟩:=h
 have ht1:=Ay ht1
 have ht2:=Ay ht2
 simp only[aM]at h1 h2
 split at h
 ·rename_i j m i l n k d c o1 o2 d1 d2 g1 g2
  simp only[Bool.and_eq_true,Bool.not_eq_true',Nat.beq_eq]at h
  obtain⟨⟨⟨⟨rfl,hik⟩,hdc⟩,hdj⟩,hcj⟩:=h
  obtain⟨st1',k1,k2⟩:=amc o1 o2 d1 d2 g1 g2 ht1 ht2 (Nat.ne_of_beq_eq_false hik) (Nat.ne_of_beq_eq_false hdc) (Nat.ne_of_beq_eq_false hdj) (Nat.ne_of_beq_eq_false hcj) hsrt h1 h2
  exact⟨st1',k1,k2,fun k hk=>hk⟩
 ·simp at h
theorem aib {a b:Bool}{u v:VI}(h:gS a b u v=true):kS a u=true:=by
 simp only[gS,Bool.and_eq_true]at h
 obtain⟨⟨⟨⟨ha,hb⟩,ht1⟩,ht2⟩,h⟩:=h
 split at h
 ·rename_i j m i l n k d c o1 o2 d1 d2 g1 g2
  simp only[kS,ha,ht1,o1,sOp,Bool.and_self]
 ·simp at h
end
end Go.Vm
namespace Go.Vm
section
variable {r:bn}
theorem ac1 {cs:List AV}{off:Nat}{w:AV}(h:cs[off]?=some w):jj (.cells cs) (.cells (cs.set off (share w))):=by
 simp only[jj,cx,List.map_set,u7]
 refine List.ext_getElem? fun i=>?_
 rw[List.getElem?_set]
 have hm:(cs.map share)[off]?=some (share w):=by rw[List.getElem?_map,h];rfl
 split
 ·rename_i e
  subst e
  have hlt:off<(cs.map share).length:=by
   rcases Nat.lt_or_ge off (cs.map share).length with h | h
   ·exact h
   ·rw[List.getElem?_eq_none h]at hm;simp at hm
  rw[if_pos hlt,hm]
 ·rfl
def akF (w:AV):Prop:=(∃ p m xs,w=.own p m xs)∨w=.nl
theorem ajh {w:AV}(h:DS (firm w)=true):akF w:=by
 cases w with
 | own p m xs=>exact .inl ⟨_,_,_,rfl⟩
 | nl=>exact .inr rfl
 | _=>exact absurd h (by simp only[firm,nJ,eM,DS];simp)
theorem EY {a:Bool}{i:VI}(h:rD a i=true):∃ p,a=true∧i.op=.ld none 2 p∧i.th=[]:=by
 simp only[rD,Bool.and_eq_true]at h
 obtain⟨⟨ha,hn⟩,hth⟩:=h
 have hth:=Ay hth
 have hn:=akH hn
 unfold jW at hn
 split at hn<;>simp at hn
 rename_i p hp
 exact⟨p,ha,hp,hth⟩
theorem amy {a:Bool}{i:VI}(h:rD a i=true) (e:ak) (F:List Nat):eV a i e F=F:=by
 obtain⟨p,rfl,hop,hth⟩:=EY h
 simp only[eV,hop,jW]
theorem aoa {id off:Nat}{cs:List AV}{w:AV}{h:ac}(hg:get h id=some (.cells cs)) (hw:cs[off]?=some w):loadAt h none 2 (.ptr id off)=some (w,put h id (.cells (cs.set off (share w)))):=by
 simp only[loadAt,hg,hw,jC]
theorem Fu {a:Bool}{F:List Nat}{u:VI}(h:rD a u=true) {e e1:ak}{hs hs1:HS}(hr:aM r a F u ⟨e,hs⟩=some ⟨e1,hs1⟩):∃ id off cs w,get hs.heap id=some (.cells cs)∧cs[off]?=some w∧akF w∧
  hs1=⟨put hs.heap id (.cells (cs.set off (share w))),hs.next⟩∧
   ∀ hs' cs',get hs'.heap id=some (.cells cs')→cs'[off]?=some w→aM r a F u ⟨e,hs'⟩=some ⟨e1,⟨put hs'.heap id (.cells (cs'.set off (share w))),hs'.next⟩⟩:=by
 obtain⟨p,rfl,hop,hth⟩:=EY h
 have hn:jW u.op=.take:=by rw[hop];rfl
 simp only[aM,mF,hn]at hr⊢
 split at hr
 ·rename_i st1 h1
  split at hr
  ·rename_i d hd
   split at hr
   ·rename_i x hx
    split at hr
    ·rename_i ho
     simp only[Option.some.injEq]at hr;subst hr
     have go:cZ r u ⟨e,hs⟩=some ⟨e1,hs1⟩∧∀ hs',aT r u ⟨e,hs'⟩=cZ r u ⟨e,hs'⟩:=by
      have dead:∀ st1:St,some (aN u.dst (.tup []) ⟨e,hs⟩)=some st1→get st1.env d=some x→False:=by
       intro st1 h h2
       simp only[Option.some.injEq]at h;subst h
       simp only[hd,aN,bv,if_true,Option.some.injEq]at h2
       subst h2
       simp[DS]at ho
      unfold aT at h1
      cases hg:u.guard with
      | none =>
       rw[hg]at h1
       exact⟨h1,fun hs'=>by unfold aT;rw[hg]⟩
      | some sw =>
       obtain⟨sl,want⟩:=sw
       rw[hg]at h1
       simp only at h1
       split at h1
       ·rename_i b hb
        split at h1
        ·rename_i hbw
         exact⟨h1,fun hs'=>by unfold aT;rw[hg];simp only[hb,hbw]⟩
        ·exact(dead _ h1 hx).elim
       ·exact(dead _ h1 hx).elim
       ·simp at h1
     obtain⟨hgo,hsame⟩:=go
     unfold cZ at hgo
     simp only[hth,hop,aY,tP]at hgo
     split at hgo
     ·rename_i v st0 hv
      simp only[Option.some.injEq]at hgo
      split at hv
      ·rename_i pv e0 hp
       split at hv
       ·rename_i v' h1' hl
        simp only[Option.some.injEq,Prod.mk.injEq]at hv
        obtain⟨rfl,rfl⟩:=hv
        rw[hd]at hgo
        simp only[aN,St.mk.injEq]at hgo
        obtain⟨rfl,rfl⟩:=hgo
        simp only[bv,if_true,Option.some.injEq]at hx
        subst hx
        have hw:=ajh ho
        have back:∀ hs' h2,loadAt hs'.heap none 2 pv=some (v',h2)→(match aT r u ⟨e,hs'⟩ with
          | some st1=>match (some d:Option Nat) with
           | some d=>match get st1.env d with
            | some a=>match DS a with
             | true=>some st1
             | false=>none
            | none=>none
           | none=>none
          | none=>none)=some ⟨put e0 d (firm v'),⟨h2,hs'.next⟩⟩:=by
         intro hs' h2 hl2
         rw[hsame]
         unfold cZ
         simp only[hth,hop,aY,tP,hp,hl2,hd,aN,bv,if_true,ho]
        cases pv<;>simp only[loadAt,reduceCtorEq]at hl
        ·rename_i id off
         split at hl
         ·rename_i cs hg
          split at hl
          ·simp at hl
          ·rename_i w hcw
           simp only[jC,Option.some.injEq,Prod.mk.injEq]at hl
           obtain⟨rfl,rfl⟩:=hl
           refine⟨id,off,cs,w,hg,hcw,hw,rfl,fun hs' cs' hg' hw'=>?_⟩
           have hb:=back hs' _ (aoa hg' hw')
           simp only at hb
           exact hb
         ·simp at hl
        ·exfalso
         split at hl
         ·split at hl
          ·split at hl
           ·rename_i u hu
            simp only[Option.some.injEq,Prod.mk.injEq]at hl
            obtain⟨rfl,_⟩:=hl
            unfold iR at hu
            simp only at hu
            split at hu
            ·simp only[Option.some.injEq]at hu;subst hu;rcases hw with ⟨_,_,_,h⟩ | h<;>simp at h
            ·simp at hu
           ·simp at hl
          ·simp at hl
         ·simp at hl
        ·exfalso
         split at hl
         ·rename_i u hu
          simp only[Option.some.injEq,Prod.mk.injEq]at hl
          obtain⟨rfl,_⟩:=hl
          unfold iR at hu
          simp only at hu
          split at hu
          ·simp only[Option.some.injEq]at hu;subst hu;rcases hw with ⟨_,_,_,h⟩ | h<;>simp at h
          ·simp at hu
         ·simp at hl
       ·simp at hv
      ·simp at hv
     ·simp at hgo
    ·simp at hr
   ·simp at hr
  ·simp at hr
 ·simp at hr
theorem DZ {α:Type}{l:List (Nat×α)}(h:aX l) (k:Nat) (a b:α):put (put l k a) k b=put l k b:=by
 refine lK ((h.put _ _).put _ _) (h.put _ _) fun q=>?_
 simp only[bv]
 split<;>rfl
theorem amF {α:Type}{l:List (Nat×α)}(h:aX l) {j k:Nat}(hjk:j≠k) (a b:α):put (put l j a) k b=put (put l k b) j a:=by
 refine lK ((h.put _ _).put _ _) ((h.put _ _).put _ _) fun q=>?_
 simp only[bv]
 by_cases h1:q=k
 ·rw[if_pos h1,if_pos h1,if_neg (fun h=>hjk (h.symm.trans h1))]
 ·rw[if_neg h1,if_neg h1]
theorem agR {α:Type}{l:List (Nat×α)}(h:aX l) {j k:Nat}(hjk:j≠k) (a:α):put (del l k) j a=del (put l j a) k:=by
 refine lK ((h.del _).put _ _) ((h.put _ _).del _) fun q=>?_
 simp only[bv,uZ]
 by_cases h1:q=k
 ·rw[if_pos h1,if_pos h1,if_neg (fun h=>hjk (h.symm.trans h1))]
 ·rw[if_neg h1,if_neg h1]
theorem apl {a b:Bool}{u v:VI}(hu:rD a u=true) (hv:rD b v=true) (hap:wn a b u v=true) {F:List Nat}{st st1 st2:St}(inv:bg st) (h1:aM r a F u st=some st1) (h2:aM r b F v st1=some st2):∃ st1',aM r b F v st=some st1'∧aM r a F u st1'=some st2:=by
 obtain⟨R1,M1,R2,M2,f1,f2,d1,d2⟩:=kx hap
 have l1:=fD (r:=r) f1 F
 have l2:=fD (r:=r) f2 F
 obtain⟨e,hs⟩:=st
 obtain⟨e1,hs1⟩:=st1
 obtain⟨e2,hs2⟩:=st2
 have hsh:aX hs.heap:=inv.sh
 obtain⟨i1,o1,c1,w1,g1,k1,n1,rfl,b1⟩:=Fu hu h1
 obtain⟨i2,o2,c2,w2,g2,k2,n2,rfl,b2⟩:=Fu hv h2
 simp only at g2 b2 h2
 rw[bv]at g2
 by_cases hi:i2=i1
 ·subst hi
  rw[if_pos rfl]at g2
  simp only[Option.some.injEq,Obj.cells.injEq]at g2
  subst g2
  rw[DZ hsh]at h2
  by_cases ho:o1=o2
  ·subst ho
   have hlt:o1<c1.length:=by
    rcases Nat.lt_or_ge o1 c1.length with h | h
    ·exact h
    ·rw[List.getElem?_eq_none h]at k1;simp at k1
   rw[List.getElem?_set_self hlt]at k2
   simp only[Option.some.injEq]at k2
   have hw1:w1=.nl:=by
    rcases n1 with ⟨p,m,xs,rfl⟩ | h
    ·exfalso
     subst k2
     cases p<;>rcases n2 with ⟨_,_,_,h⟩ | h<;>simp[share]at h
    ·exact h
   subst hw1
   have hw2:w2=.nl:=by rw[←k2];rfl
   subst hw2
   rw[DZ hsh]
   refine mZ l1 l2 d1 d2 inv.se h1 h2 (b2 hs c1 g1 k1) ?_
   have:=b1 ⟨put hs.heap i2 (.cells (c1.set o1 (share .nl))),hs.next⟩ (c1.set o1 (share .nl)) (by simp only[bv,if_true]) (by rw[List.getElem?_set_self hlt];rfl)
   rw[this]
   simp only[DZ hsh]
  ·rw[DZ hsh]
   have k2':c1[o2]?=some w2:=by rw[List.getElem?_set_ne ho]at k2;exact k2
   refine mZ l1 l2 d1 d2 inv.se h1 h2 (b2 hs c1 g1 k2') ?_
   have:=b1 ⟨put hs.heap i2 (.cells (c1.set o2 (share w2))),hs.next⟩ (c1.set o2 (share w2)) (by simp only[bv,if_true]) (by rw[List.getElem?_set_ne (fun h=>ho h.symm)];exact k1)
   rw[this]
   simp only[DZ hsh]
   rw[List.set_comm _ _ ho]
 ·rw[if_neg hi]at g2
  refine mZ l1 l2 d1 d2 inv.se h1 h2 (b2 hs c2 g2 k2) ?_
  have:=b1 ⟨put hs.heap i2 (.cells (c2.set o2 (share w2))),hs.next⟩ c1 (by simp only[bv];rw[if_neg (fun h=>hi h.symm)];exact g1) k1
  rw[this]
  simp only
  rw[amF hsh hi]
theorem acZ {b:Bool}{v:VI}(h:ZY v=true) (hb:(!b || rD b v)=true):b=false:=by
 cases b with
 | false=>rfl
 | true =>
  exfalso
  simp only[Bool.not_true,Bool.false_or]at hb
  obtain⟨p,_,hop,hth⟩:=EY hb
  unfold ZY eO at h
  simp only[hth,hop]at h
  simp at h
theorem aoO {a:Bool}{u v:VI}(hu:rD a u=true) (hv:ZY v=true) (hap:wn a false u v=true) {F:List Nat}{st st1 st2:St}(inv:bg st) (h1:aM r a F u st=some st1) (h2:aT r v st1=some st2):∃ st1',aT r v st=some st1'∧aM r a F u st1'=some st2:=by
 obtain⟨R1,M1,R2,M2,f1,f2,d1,d2⟩:=kx hap
 have l1:=fD (r:=r) f1 F
 have l2:=fD (r:=r) f2 F
 obtain⟨e,hs⟩:=st
 obtain⟨e1,hs1⟩:=st1
 obtain⟨e2,hs2⟩:=st2
 have hsh:aX hs.heap:=inv.sh
 have s1:aX e1:=(l1 e hs _ h1).1 inv.se
 obtain⟨i1,o1,c1,w1,g1,k1,n1,rfl,b1⟩:=Fu hu h1
 have hle:bS (put hs.heap i1 (.cells (c1.set o1 (share w1)))) hs.heap:=(bS.upd (o:=some (.cells (c1.set o1 (share w1)))) g1 (fun o1 ho=>by simp only[Option.some.injEq]at ho;subst ho;exact ac1 k1)).2
 obtain⟨R,M,hk⟩:=Q9 hv
 obtain⟨ρ,τ,K,q1,q2⟩:=KZ (jb hk) s1 h2
 simp only at q1 q2
 subst q1
 rcases K with K | ⟨id,⟨m,xs,ga⟩,hρ,hτ⟩
 ·have hi:=q2 hs (K.1 _ hle)
  rw[K.2]at hi h2⊢
  exact mZ l1 l2 d1 d2 inv.se h1 h2 hi h1
 ·have hi:=q2 hs (hρ _ hle)
  rw[hτ]at hi h2⊢
  have hne:i1≠id:=by
   intro h
   subst h
   simp only[bv,if_true,Option.some.injEq,reduceCtorEq]at ga
  refine mZ l1 l2 d1 d2 inv.se h1 h2 hi ?_
  have:=b1 ⟨del hs.heap id,hs.next⟩ c1 (by simp only[uZ];rw[if_neg hne];exact g1) k1
  rw[this]
  simp only
  rw[agR hsh hne]
theorem anK {b:Bool}{u v:VI}(hu:ZY u=true) (hv:rD b v=true) (hap:wn false b u v=true) {F:List Nat}{st st1 st2:St}(inv:bg st) (h1:aT r u st=some st1) (h2:aM r b F v st1=some st2):∃ st1',aM r b F v st=some st1'∧aT r u st1'=some st2:=by
 obtain⟨R1,M1,R2,M2,f1,f2,d1,d2⟩:=kx hap
 have l1:=fD (r:=r) f1 F
 have l2:=fD (r:=r) f2 F
 obtain⟨e,hs⟩:=st
 obtain⟨e1,hs1⟩:=st1
 obtain⟨e2,hs2⟩:=st2
 have hsh:aX hs.heap:=inv.sh
 obtain⟨R,M,hk⟩:=Q9 hu
 obtain⟨ρ,τ,K,q1,q2⟩:=KZ (jb hk) inv.se h1
 simp only at q1 q2
 subst q1
 obtain⟨i2,o2,c2,w2,g2,k2,n2,rfl,b2⟩:=Fu hv h2
 have hle:∀ {h:ac},get h i2=some (.cells c2)→bS h (put h i2 (.cells (c2.set o2 (share w2)))):=fun g=>(bS.upd (o:=some (.cells (c2.set o2 (share w2)))) g (fun o1 ho=>by simp only[Option.some.injEq]at ho;subst ho;exact ac1 k2)).1
 rcases K with K | ⟨id,_,hρ,hτ⟩
 ·simp only[K.2]at g2 h2 h1 q2⊢
  exact mZ l1 l2 d1 d2 inv.se h1 h2 h2 (q2 _ (K.1 _ (hle g2)))
 ·simp only[hτ]at g2 h2 h1 q2⊢
  rw[uZ]at g2
  split at g2
  ·simp at g2
  ·rename_i hne
   refine mZ l1 l2 d1 d2 inv.se h1 h2 (b2 hs c2 g2 k2) ?_
   have:=q2 ⟨put hs.heap i2 (.cells (c2.set o2 (share w2))),hs.next⟩ (hρ _ (hle g2))
   simp only at this
   rw[agR hsh hne]
   exact this
theorem F4 {a:Bool}{u:VI}(h:(!a || rD a u)=true) {F:List Nat}{st st1:St}(hr:aM r a F u st=some st1):aT r u st=some st1∧(a=true→∃ d x,u.dst=some d∧get st1.env d=some x∧DS x=true):=by
 cases a with
 | false=>exact⟨hr,fun h=>by simp at h⟩
 | true =>
  simp only[Bool.not_true,Bool.false_or]at h
  obtain⟨p,_,hop,hth⟩:=EY h
  have hn:jW u.op=.take:=by rw[hop];rfl
  simp only[aM,mF,hn]at hr
  split at hr
  ·rename_i st1 h1
   split at hr
   ·rename_i d hd
    split at hr
    ·rename_i x hx
     split at hr
     ·rename_i ho
      simp only[Option.some.injEq]at hr;subst hr
      exact⟨h1,fun _=>⟨d,x,hd,hx,ho⟩⟩
     ·simp at hr
    ·simp at hr
   ·simp at hr
  ·simp at hr
theorem ZV {a:Bool}{u:VI}(h:(!a || rD a u)=true) {F:List Nat}{st st1:St}(hr:aT r u st=some st1) (ho:a=true→∃ d x,u.dst=some d∧get st1.env d=some x∧DS x=true):aM r a F u st=some st1:=by
 cases a with
 | false=>exact hr
 | true =>
  simp only[Bool.not_true,Bool.false_or]at h
  obtain⟨p,_,hop,hth⟩:=EY h
  have hn:jW u.op=.take:=by rw[hop];rfl
  obtain⟨d,x,hd,hx,ho⟩:=ho rfl
  simp only[aM,mF,hn,hr,hd,hx,ho]
theorem nO {a:Bool}{u:VI}(h:(!a || rD a u)=true) (e:ak) (F:List Nat):eV a u e F=F:=by
 cases a with
 | false=>rfl
 | true=>exact amy (by simpa using h) e F
theorem ZT {u v:VI}(h:yL u v=true):∃ k1 R1 M1 k2 R2 M2,eO u=some (k1,R1,M1)∧eO v=some (k2,R2,M2)∧(∀ k∈M1,k∉M2):=by
 unfold yL at h
 split at h
 ·rename_i k1 R1 M1 k2 R2 M2 e1 e2
  simp only[Bool.and_eq_true]at h
  obtain⟨⟨⟨_,_⟩,a2⟩,_⟩:=h
  exact⟨k1,R1,M1,k2,R2,M2,e1,e2,fun k hk=>ct a2 k hk⟩
 ·simp at h
theorem aiG {a b:Bool}{u v:VI}(h:UP a b u v=true) {F:List Nat}{st st1 st2:St}(inv:bg st) (h1:aM r a F u st=some st1) (h2:aM r b (eV a u st.env F) v st1=some st2):Ik r a b u v F st st1 st2:=by
 simp only[UP,Bool.and_eq_true]at h
 obtain⟨⟨ha,hb⟩,h⟩:=h
 rw[nO ha]at h2
 have fin:(∃ st1',aM r b F v st=some st1'∧aM r a F u st1'=some st2)→Ik r a b u v F st st1 st2:=by
  intro ⟨st1',k1,k2⟩
  refine⟨st1',k1,by rw[nO hb];exact k2,?_⟩
  rw[nO hb,nO ha,nO ha,nO hb]
  exact fun k hk=>hk
 simp only[Bool.or_eq_true,Bool.and_eq_true]at h
 rcases h with h | ⟨hap,h⟩
 ·obtain⟨p1,o1⟩:=F4 ha h1
  obtain⟨p2,o2⟩:=F4 hb h2
  obtain⟨st1',q1,q2⟩:=ahp h inv p1 p2
  obtain⟨k1,R1,M1,k2,R2,M2,e1,e2,hap⟩:=ZT h
  obtain⟨e,hs⟩:=st
  obtain⟨en1,hs1⟩:=st1
  obtain⟨en1',hs1'⟩:=st1'
  refine fin ⟨_,ZV hb q1 fun hn=>?_,ZV ha q2 fun hn=>?_⟩
  ·obtain⟨d,x,hd,hx,ho⟩:=o2 hn
   refine⟨d,x,hd,?_,ho⟩
   obtain⟨_,_,_,_,_,g,_⟩:=jb e1 en1' hs1' _ q2
   rw[←g d fun hm=>hap d hm (I7 e2 hd)]
   exact hx
  ·obtain⟨d,x,hd,hx,ho⟩:=o1 hn
   refine⟨d,x,hd,?_,ho⟩
   obtain⟨_,_,_,_,_,g,_⟩:=jb e2 en1 hs1 _ p2
   rw[g d (hap d (I7 e1 hd))]
   exact hx
 ·rcases h with (h | h) | h
  ·exact fin (apl h.1 h.2 hap inv h1 h2)
  ·have:=acZ h.2 hb
   subst this
   exact fin (aoO h.1 h.2 hap inv h1 h2)
  ·have:=acZ h.1 ha
   subst this
   exact fin (anK h.1 h.2 hap inv h1 h2)
theorem aen {a:Bool}{i:VI}(h:rD a i=true):∃ R M,eO i=some (.t,R,M):=by
 obtain⟨p,_,hop,hth⟩:=EY h
 unfold eO
 simp only[hth,hop]
 exact⟨_,_,rfl⟩
theorem Gd {st st1:St}(inv:bg st) (he:aX st1.env) (hh:st1.hs=st.hs):bg st1:=⟨he,by rw[hh];exact inv.sh,by rw[hh];exact inv.fr⟩
theorem apb {u:VI}{j:Nat}{m:Bool}{i d:Nat}(ho:u.op=.ext j m i) (hd:u.dst=some d) (hg:u.guard=none) (ht:u.th=[]) {st st1:St}(hs:aX st.env) (h1:aT r u st=some st1):aX st1.env:=by
 obtain⟨e,hs0⟩:=st
 rw[Ep ho hd hg ht]at h1
 split at h1
 ·split at h1
  ·simp only[Option.some.injEq]at h1;subst h1
   exact(Ac hs _ _ _).put _ _
  ·simp at h1
 ·simp at h1
theorem Np {a b:Bool}{u v:VI}(h:gS a b u v=true) {F:List Nat}{st st1:St}(hs:aX st.env) (h1:aM r a F u st=some st1):aX st1.env:=by
 simp only[gS,Bool.and_eq_true,Bool.not_eq_true']at h
 obtain⟨⟨⟨⟨rfl,rfl⟩,ht1⟩,ht2⟩,h⟩:=h
 split at h
 ·rename_i j m i l n k d c o1 o2 dd1 dd2 g1 g2
  exact apb o1 dd1 g1 (Ay ht1) hs h1
 ·simp at h
theorem alz {a b:Bool}{u v:VI}(h:fK a b u v=true) (hk:kS b v=false) {F:List Nat}{st st1:St}(inv:bg st) (h1:aM r a F u st=some st1):bg st1:=by
 simp only[fK,Bool.or_eq_true]at h
 rcases h with (h | h) | h
 ·obtain⟨e,hs⟩:=st
  simp only[Kt,Bool.and_eq_true,Bool.or_eq_true]at h
  obtain⟨hap,h⟩:=h
  obtain⟨R1,M1,R2,M2,f1,f2,d1,d2⟩:=kx hap
  have se:=(fD (r:=r) f1 F e hs _ h1).1 inv.se
  rcases h with ((h | h) | h) | h
  ·exact Gd inv se (Fo h h1).1
  ·rw[hk]at h;simp at h
  ·exact Gd inv se (EF h.1 h1)
  ·simp only[acM,Bool.and_eq_true]at h
   obtain⟨⟨⟨⟨rfl,rfl⟩,hq⟩,hn⟩,hc⟩:=h
   exact Gd inv se (EF (by simp only[PR,hq,hn,Bool.or_true,Bool.and_true]) h1)
 ·obtain⟨e,hs⟩:=st
  exact Gd inv (Np h inv.se h1) (Fo (aib h) h1).1
 ·simp only[Bool.and_eq_true]at h
  obtain⟨_,h⟩:=h
  simp only[UP,Bool.and_eq_true]at h
  obtain⟨⟨ha,hb⟩,h⟩:=h
  obtain⟨p1,_⟩:=F4 ha h1
  simp only[Bool.or_eq_true,Bool.and_eq_true]at h
  rcases h with h | ⟨hap,h⟩
  ·obtain⟨k1,R1,M1,_,_,_,e1,_,_⟩:=ZT h
   exact mO e1 inv p1
  ·rcases h with (h | h) | h
   ·obtain⟨R,M,e1⟩:=aen h.1;exact mO e1 inv p1
   ·obtain⟨R,M,e1⟩:=aen h.1;exact mO e1 inv p1
   ·obtain⟨R,M,e1⟩:=Q9 h.1;exact mO e1 inv p1
theorem ak6 {a b:Bool}{u v:VI}(h:fK a b u v=true) (hk:kS b v=true) {F:List Nat}{st st1:St}(hs:aX st.env) (h1:aM r a F u st=some st1):aX st1.env:=by
 simp only[fK,Bool.or_eq_true]at h
 rcases h with (h | h) | h
 ·obtain⟨e,hs0⟩:=st
  simp only[Kt,Bool.and_eq_true]at h
  obtain⟨R1,M1,R2,M2,f1,f2,d1,d2⟩:=kx h.1
  exact(fD (r:=r) f1 F e hs0 _ h1).1 hs
 ·exact Np h hs h1
 ·rw[hk]at h;simp at h
theorem apL {a b:Bool}{u v:VI}(h:fK a b u v=true) (hk:kS b v=true) {F:List Nat}{st st1 st2:St}(hs:aX st.env) (h1:aM r a F u st=some st1) (h2:aM r b (eV a u st.env F) v st1=some st2):Ik r a b u v F st st1 st2:=by
 simp only[fK,Bool.or_eq_true]at h
 rcases h with (h | h) | h
 ·exact S6 h hs h1 h2
 ·exact JD h hs h1 h2
 ·rw[hk]at h;simp at h
theorem apF {a b:Bool}{u v:VI}(h:fK a b u v=true) {F:List Nat}{st st1 st2:St}(inv:bg st) (h1:aM r a F u st=some st1) (h2:aM r b (eV a u st.env F) v st1=some st2):Ik r a b u v F st st1 st2:=by
 simp only[fK,Bool.or_eq_true]at h
 rcases h with (h | h) | h
 ·exact S6 h inv.se h1 h2
 ·exact JD h inv.se h1 h2
 ·simp only[Bool.and_eq_true]at h
  exact aiG h.2 inv h1 h2
end
end Go.Vm
namespace Go.Vm
inductive Fl (ops:Array Oper):Nat→Nat→Prop
 | one {i:Nat}{o:Oper}{e:Edge}:ops[i]?=some o→e∈o.after→nP e.ground=true→Fl ops i e.on
 | more {i j:Nat}{o:Oper}{e:Edge}:ops[i]?=some o→e∈o.after→nP e.ground=true→Fl ops e.on j→Fl ops i j
theorem FH {k:Nat}:∀ {a l:List Nat},k∈H4 a l→k∈a∨k∈l
 | [],l,h=>.inr h
 | x::r,l,h=>by
  simp only[H4]at h
  split at h
  ·rcases FH h with h | h
   ·exact .inl (.tail _ h)
   ·exact .inr h
  ·rcases FH h with h | h
   ·exact .inl (.tail _ h)
   ·rcases List.mem_cons.1 h with rfl | h
    ·exact .inl (.head _)
    ·exact .inr h
def R3 (ops:Array Oper) (tab:List (Nat×List Nat)):Prop:=∀ i l,get tab i=some l→∀ j∈l,Fl ops i j
theorem Va {ops:Array Oper}{tab:List (Nat×List Nat)}(ht:R3 ops tab) {i:Nat}{o:Oper}(ho:ops[i]?=some o):∀ {es:List Edge},(∀ e∈es,e∈o.after)→∀ j,j∈KB tab es→Fl ops i j
 | [],_,j,h=>by simp[KB]at h
 | e::r,hes,j,h=>by
  simp only[KB]at h
  have hr:=Va ht ho (es:=r) (fun x hx=>hes x (.tail _ hx)) j
  split at h
  ·rename_i hw
   rcases FH h with h | h
   ·rcases List.mem_cons.1 h with rfl | h
    ·exact .one ho (hes e (.head _)) hw
    ·split at h
     ·rename_i l hl
      exact .more ho (hes e (.head _)) hw (ht _ _ hl _ h)
     ·simp at h
   ·exact hr h
  ·exact hr h
theorem Nv {ops:Array Oper}:∀ {l:List Nat}{tab:List (Nat×List Nat)},R3 ops tab→R3 ops (zn ops l tab)
 | [],_,ht=>ht
 | i::l,tab,ht=>by
  simp only[zn]
  refine Nv fun k m h j hj=>?_
  rw[bm]at h
  split at h
  ·rename_i e
   subst e
   simp only[Option.some.injEq]at h;subst h
   split at hj
   ·rename_i o ho
    exact Va ht ho (fun e he=>Array.mem_toList_iff.1 he) j hj
   ·simp at hj
  ·exact ht k m h j hj
def ah5 (anc:List (Nat×List Nat)) (nr:List Nat) (vs:List VI) (j i:Nat):Prop :=
 (kq anc i j=true∨∃ u v,vs[j]?=some u∧vs[i]?=some v∧fK (bR j nr) (bR i nr) u v=true)∨(lk anc vs i=true∧(∀ k,k<vs.length→kq anc k i=true→kq anc k j=true)∧kq anc j i=false)
theorem SY {anc:List (Nat×List Nat)}{i j:Nat}:∀ {n:Nat},Ua anc i j n=true→∀ k,k<n→kq anc k i=true→kq anc k j=true
 | 0,_,k,hk,_=>by omega
 | n+1,h,k,hk,hd=>by
  simp only[Ua,Bool.and_eq_true,Bool.or_eq_true,Bool.not_eq_true']at h
  by_cases e:k=n
  ·subst e
   rcases h.1 with h1 | h1
   ·rw[h1]at hd;simp at hd
   ·exact h1
  ·exact SY h.2 k (by omega) hd
theorem alv {ops:Array Oper}{anc:List (Nat×List Nat)}(ha:R3 ops anc) {k i:Nat}(h:kq anc k i=true):Fl ops k i:=by
 unfold kq at h
 split at h
 ·rename_i l hl;exact ha _ _ hl _ (kE.1 h)
 ·simp at h
structure ue (P:Program) (n:Nat) (ops:Array Oper) (nr:List Nat) (vs:List VI) (perm:List Nat) (anc:List (Nat×List Nat)):Prop where
 len:vs.length=ops.size
 vi:∀ (i:Nat) (v:VI) (o:Oper),vs[i]?=some v→ops[i]?=some o→rk P n ops v o=true
 edge:∀ (i:Nat) (o:Oper),ops[i]?=some o→∀ e∈o.after,e.on<ops.size∧(txG e.ground=true→e.on<i)
 pair:perm.Pairwise fun j i=>ah5 anc nr vs j i
 path:∀ k i,kq anc k i=true→Fl ops k i
 gco:∃ gl:List Nat,(∀ i,i<ops.size→i∈gl)∧gl.Pairwise (fun j i=>∀ o,ops[j]?=some o→∀ e∈o.after,RW e.ground=true→e.on≠i)∧∀ j∈gl,∀ o,ops[j]?=some o→∀ e∈o.after,RW e.ground=true→e.on≠j
 nd:perm.Nodup
 lt:∀ i∈perm,i<ops.size
 near:∀ (i:Nat) (v:VI),bR i nr=true→vs[i]?=some v→jW v.op≠.read∨∃ R M,eO v=some (.q,R,M)
 all:∀ i,i<ops.size→i∈perm
theorem NA {P:Program}{n:Nat}{ops:Array Oper}{k:Nat}:∀ {vs:List VI}{os:List Oper}{b:Nat},yM P n ops k b vs os=true→vs.length=os.length∧
  ∀ (i:Nat) (v:VI) (o:Oper),vs[i]?=some v→os[i]?=some o→rk P n ops v o=true∧∀ e∈o.after,e.on<k∧(txG e.ground=true→e.on<b+i)
 | [],[],_,_=>⟨rfl,fun i v o h=>by simp at h⟩
 | x::vs,p::os,b,h=>by
  simp only[yM,Bool.and_eq_true]at h
  obtain⟨⟨h1,h3⟩,h4⟩:=h
  obtain⟨k1,k2⟩:=NA h4
  refine⟨by simp[k1],fun i v o hv ho=>?_⟩
  cases i with
  | zero =>
   simp only[List.getElem?_cons_zero,Option.some.injEq]at hv ho
   subst hv ho
   refine⟨h1,fun e he=>?_⟩
   have:=List.all_eq_true.1 h3 e (Array.mem_toList_iff.2 he)
   simp only[Bool.and_eq_true,Bool.or_eq_true,Bool.not_eq_true',Nat.blt_eq]at this
   refine⟨this.1,fun ht=>?_⟩
   rcases this.2 with h | h
   ·rw[ht]at h;simp at h
   ·omega
  | succ i =>
   simp only[List.getElem?_cons_succ]at hv ho
   obtain⟨q1,q2⟩:=k2 i v o hv ho
   exact⟨q1,fun e he=>⟨(q2 e he).1,fun ht=>by have:=(q2 e he).2 ht;omega⟩⟩
 | [],_::_,_,h=>by simp[yM]at h
 | _::_,[],_,h=>by simp[yM]at h
theorem NQ {anc:List (Nat×List Nat)}{nr:List Nat}{vs:List VI}{j:Nat}:∀ {l:List Nat},K5 anc nr vs j l=true→∀ i∈l,ah5 anc nr vs j i
 | [],_,i,hi=>by simp at hi
 | x::r,h,i,hi=>by
  simp only[K5,Bool.and_eq_true,Bool.or_eq_true]at h
  rcases List.mem_cons.1 hi with rfl | hi
  ·rcases h.1 with (h | h) | h
   ·exact .inl (.inl h)
   ·split at h
    ·rename_i u v h1 h2
     exact .inl (.inr ⟨u,v,h1,h2,h⟩)
    ·simp at h
   ·simp only[Bool.not_eq_true']at h;exact .inr ⟨h.1.1,SY h.1.2,h.2⟩
  ·exact NQ h.2 i hi
theorem aih {ops:Array Oper}{j:Nat}{l:List Nat}(h:ad9 ops j l=true):∀ i∈l,∀ o,ops[j]?=some o→∀ e∈o.after,RW e.ground=true→e.on≠i:=by
 intro i hi o ho e he hg heq
 unfold ad9 at h
 rw[ho]at h
 have:=List.all_eq_true.1 h e (Array.mem_toList_iff.2 he)
 rw[heq,kE.2 hi,hg]at this
 simp at this
theorem ZO {ops:Array Oper}:∀ {l:List Nat},acq ops l=true→l.Pairwise (fun j i=>∀ o,ops[j]?=some o→∀ e∈o.after,RW e.ground=true→e.on≠i)∧∀ j∈l,∀ o,ops[j]?=some o→∀ e∈o.after,RW e.ground=true→e.on≠j
 | [],_=>⟨.nil,fun i hi=>by simp at hi⟩
 | j::r,h=>by
  simp only[acq,Bool.and_eq_true]at h
  obtain⟨h0,h4⟩:=h
  obtain⟨k4,k5⟩:=ZO h4
  have hw:=aih h0
  refine⟨.cons (fun i hi=>hw i (.tail _ hi)) k4,fun i hi=>?_⟩
  rcases List.mem_cons.1 hi with rfl | hi
  ·exact hw _ (.head _)
  ·exact k5 i hi
theorem NC {ops:Array Oper}{anc:List (Nat×List Nat)}{nr:List Nat}{vs:List VI}:∀ {l:List Nat},KE ops anc nr vs l=true→l.Pairwise (fun j i=>ah5 anc nr vs j i)∧
  l.Nodup∧∀ i∈l,i<vs.length
 | [],_=>⟨.nil,.nil,fun i hi=>by simp at hi⟩
 | j::r,h=>by
  simp only[KE,Bool.and_eq_true,Bool.not_eq_true']at h
  obtain⟨⟨⟨h1,h2⟩,h3⟩,h4⟩:=h
  obtain⟨k1,k2,k3⟩:=NC h4
  refine⟨.cons (NQ h1) k1,List.nodup_cons.2 ⟨fun hm=>?_,k2⟩,fun i hi=>?_⟩
  ·rw[kE.2 hm]at h2;simp at h2
  ·rcases List.mem_cons.1 hi with rfl | hi
   ·rwa [Nat.blt_eq]at h3
   ·exact k3 i hi
theorem H7 {l:List Nat}:∀ {n:Nat},TX l n=true→∀ i,i<n→i∈l
 | 0,_,i,hi=>by omega
 | n+1,h,i,hi=>by
  simp only[TX,Bool.and_eq_true]at h
  rcases Nat.lt_or_ge i n with h1 | h1
  ·exact H7 h.2 i h1
  ·have:i=n:=by omega
   subst this
   exact kE.1 h.1
theorem aaj {vs:List VI}:∀ {nr:List Nat},acn vs nr=true→∀ (i:Nat) (v:VI),bR i nr=true→vs[i]?=some v→jW v.op≠.read∨∃ R M,eO v=some (.q,R,M)
 | [],_,i,v,h,_=>by simp[bR]at h
 | j::r,h,i,v,hg,hv=>by
  simp only[acn,Bool.and_eq_true]at h
  rcases List.mem_cons.1 (kE.1 hg) with e | hm
  ·subst e
   have h1:=h.1
   rw[hv]at h1
   simp only[Bool.or_eq_true,Bool.not_eq_true']at h1
   rcases h1 with h1 | h1
   ·exact .inl fun h=>by unfold Am at h1;rw[h]at h1;simp at h1
   ·exact .inr (QI h1)
  ·exact aaj h.2 i v (kE.2 hm) hv
theorem apg {P:Program}{n:Nat}{ops:Array Oper}{gco nr:List Nat}{vs:List VI}{perm:List Nat}(h:Ab P n ops perm gco nr vs=true):ue P n ops nr vs perm (zn ops perm []):=by
 simp only[Ab,Bool.and_eq_true]at h
 obtain⟨⟨⟨⟨⟨h1,hnr⟩,hga⟩,hg⟩,h2⟩,h3⟩:=h
 obtain⟨g1,g2⟩:=ZO hg
 obtain⟨k1,k2⟩:=NA h1
 have hl:vs.length=ops.size:=by rw[k1];simp
 have ha:R3 ops (zn ops perm []):=Nv fun i l h=>by simp[nu]at h
 obtain⟨q1,q2,q3⟩:=NC h3
 have hget:∀ (i:Nat) (o:Oper),ops[i]?=some o→ops.toList[i]?=some o:=fun i o h=>by rw[Array.getElem?_toList];exact h
 refine⟨hl,fun i v o hv ho=>(k2 i v o hv (hget i o ho)).1,fun i o ho e he=>?_,q1,fun k i h=>alv ha h,⟨gco,fun i hi=>H7 hga i (by omega),g1,g2⟩,q2,fun i hi=>by have:=q3 i hi;omega,aaj hnr,fun i hi=>?_⟩
 ·have hi:i<vs.length:=by
   rw[hl]
   rcases Nat.lt_or_ge i ops.size with h | h
   ·exact h
   ·rw[Array.getElem?_eq_none h]at ho;simp at ho
  have:=(k2 i vs[i] o (by simp) (hget i o ho)).2 e he
  exact⟨by omega,fun ht=>by have:=this.2 ht;omega⟩
 ·exact H7 h2 i (by omega)
end Go.Vm
namespace Go.Vm
section
variable {P:Program}{r:bn}
theorem adr {g:Gh}{w:World}:∀ {l:ac}{O:Nat→Nat},rP P g w l O→∀ {id:Nat}{o:Obj},get l id=some o→∃ b,g.obj id=some b
 | [],_,_,id,o,h=>by simp[nu]at h
 | (k,v)::l,O,rh,id,o,h=>by
  obtain⟨Q1,Q2,q1,q2,_⟩:=rh
  rw[bm]at h
  split at h
  ·rename_i e
   subst e
   cases v with
   | cells cs=>simp only[bf]at q1;obtain⟨b,_,_,_,h,_⟩:=q1;exact⟨b,h⟩
   | arr m xs =>
    simp only[bf]at q1
    rcases q1 with ⟨_,_,_,_,h,_⟩ | ⟨b,_,_,h,_⟩
    ·exact h
    ·exact⟨b,h⟩
   | loop _ _ _ _ _ _=>simp only[bf]at q1;obtain⟨b,_,h,_⟩:=q1;exact⟨b,h⟩
  ·exact adr q2 h
theorem S.heap_fresh {g:Gh}{w:World}{t:Array Value}{O:Nat→Nat}{st:St}(s:S P g w st t O) {id:Nat}(h:st.hs.next≤id):get st.hs.heap id=none:=by
 obtain⟨Oe,Oh,re,rh,ho⟩:=s.parts
 cases hg:get st.hs.heap id with
 | none=>rfl
 | some o =>
  obtain⟨b,hb⟩:=adr rh hg
  rw[s.fresh id h]at hb;simp at hb
theorem GH {nr:List Nat}{i:Nat}{F:List Nat}{v:VI}{st st1:St}(hn:bR i nr=true→jW v.op≠.read∨∃ R M,eO v=some (.q,R,M)) (hsrt:aX st.env) (h:aM r (bR i nr) F v st=some st1):aT r v st=some st1:=by
 obtain⟨e,hs⟩:=st
 cases hg:bR i nr with
 | false=>rw[hg]at h;exact h
 | true =>
  rw[hg]at h
  rcases hn hg with h1 | ⟨R,M,h1⟩
  ·exact agJ (R:=[]) (M:=[]) hsrt (.inr (.inl h1)) h
  ·exact agJ hsrt (.inr (.inr h1)) h
theorem NB {nr:List Nat}{vs:List VI}{i:Nat}{v:VI}(hv:vs[i]?=some v) (hk:kS (bR i nr) v=true) {l2:List Nat}:∀ {l1:List Nat}{F:List Nat}{st st':St},(∀ j∈l1,∃ u,vs[j]?=some u∧fK (bR j nr) (bR i nr) u v=true)→aX st.env→
  cL r nr vs (l1++i::l2) F st=some st'→cL r nr vs (i::(l1++l2)) F st=some st'
 | [],F,st,st',_,_,h=>h
 | j::l1,F,st,st',hj,inv,h=>by
  obtain⟨u,hu,hm⟩:=hj j (.head _)
  simp only[List.cons_append,cL,hu]at h
  split at h
  ·simp at h
  ·rename_i st1 h1
   have h2:=NB hv hk (fun k hk=>hj k (.tail _ hk)) (ak6 hm hk inv h1) h
   simp only[cL,hv]at h2
   split at h2
   ·simp at h2
   ·rename_i st2 h3
    obtain⟨st1',k1,k2,k3⟩:=apL hm hk inv h1 h3
    simp only[cL,hv,k1,List.cons_append,hu,k2]
    exact Pl k3 h2
theorem NG {nr:List Nat}{vs:List VI}{i:Nat}{v:VI}(hv:vs[i]?=some v) (hk:kS (bR i nr) v=false) {l2:List Nat}:∀ {l1:List Nat}{F:List Nat}{st st':St},(∀ j∈l1,∃ u,vs[j]?=some u∧fK (bR j nr) (bR i nr) u v=true)→bg st→
  cL r nr vs (l1++i::l2) F st=some st'→cL r nr vs (i::(l1++l2)) F st=some st'
 | [],F,st,st',_,_,h=>h
 | j::l1,F,st,st',hj,inv,h=>by
  obtain⟨u,hu,hm⟩:=hj j (.head _)
  simp only[List.cons_append,cL,hu]at h
  split at h
  ·simp at h
  ·rename_i st1 h1
   have h2:=NG hv hk (fun k hk=>hj k (.tail _ hk)) (alz hm hk inv h1) h
   simp only[cL,hv]at h2
   split at h2
   ·simp at h2
   ·rename_i st2 h3
    obtain⟨st1',k1,k2,k3⟩:=apF hm inv h1 h3
    simp only[cL,hv,k1,List.cons_append,hu,k2]
    exact Pl k3 h2
theorem Nw {nr:List Nat}{vs:List VI}{i:Nat}{v:VI}(hv:vs[i]?=some v) {l2 l1:List Nat}{F:List Nat}{st st':St}(hj:∀ j∈l1,∃ u,vs[j]?=some u∧fK (bR j nr) (bR i nr) u v=true) (inv:bg st)
  (h:cL r nr vs (l1++i::l2) F st=some st'):cL r nr vs (i::(l1++l2)) F st=some st':=by
 cases hk:kS (bR i nr) v with
 | true=>exact NB hv hk hj inv.se h
 | false=>exact NG hv hk hj inv h
theorem W8 {α:Type}:∀ {l:List (Nat×α)},aX l→∀ {p:Nat×α},p∈l→get l p.1=some p.2
 | [],_,p,hp=>by simp at hp
 | (k,v)::r,hs,p,hp=>by
  rw[bm]
  rcases List.mem_cons.1 hp with rfl | hp
  ·simp
  ·have h1:=(List.pairwise_cons.1 hs).1 p hp
   have:k≠p.1:=(vX.ne h1).symm
   rw[if_neg this]
   exact W8 (List.pairwise_cons.1 hs).2 hp
theorem Se {anc:List (Nat×List Nat)}{d:Nat}{l:List Nat}{i:Nat}:∀ {vs:List VI}{b:Nat},SX anc d l i b vs=true→∀ k v,vs[k]?=some v→b+k≠i→kq anc (b+k) i=true∨∃ R M,fq v=some (R,M)∧d∉M∧(kq anc i (b+k)=true∨∀ q∈l,q∉M)
 | [],_,_,k,v,h,_=>by simp at h
 | x::r,b,h,k,v,hv,hne=>by
  simp only[SX,Bool.and_eq_true,Bool.or_eq_true]at h
  cases k with
  | zero =>
   simp only[List.getElem?_cons_zero,Option.some.injEq]at hv
   subst hv
   rcases h.1 with (h1 | h1) | h1
   ·rw[Nat.beq_eq]at h1;omega
   ·exact .inl h1
   ·split at h1
    ·rename_i R M hf
     simp only[Bool.and_eq_true,Bool.or_eq_true,Bool.not_eq_true']at h1
     refine .inr ⟨R,M,hf,fun hm=>?_,h1.2.imp id ct⟩
     rw[kE.2 hm]at h1;simp at h1
    ·simp at h1
  | succ k =>
   simp only[List.getElem?_cons_succ]at hv
   have:=Se h.2 k v hv (by omega)
   rwa [show b+1+k=b+(k+1) by omega]at this
theorem xK {v:VI}{d:Nat}(h:dr v=some d):(∃ zs,v=⟨some d,none,.alloc zs,[]⟩)∨∃ z l c th,v=⟨some d,none,.mkslice z l c,th⟩∧oR l=true∧oR c=true:=by
 obtain⟨dst,gd,op,th⟩:=v
 unfold dr at h
 simp only at h
 split at h
 ·subst h;exact .inl ⟨_,rfl⟩
 ·split at h
  ·rename_i l c hs
   subst h
   simp only[Bool.and_eq_true]at hs
   exact .inr ⟨_,_,_,_,rfl,hs.1,hs.2⟩
  ·simp at h
 ·simp at h
theorem oW {v:VI}{d:Nat}(h:dr v=some d):v.dst=some d∧v.guard=none∧v.op≠.bad:=by
 rcases xK h with ⟨zs,rfl⟩ | ⟨z,l,c,th,rfl,_,_⟩<;>exact⟨rfl,rfl,by simp⟩
theorem nt {anc:List (Nat×List Nat)}{vs:List VI}{i:Nat}(h:lk anc vs i=true):∃ v d,vs[i]?=some v∧dr v=some d∧(∀ k u,vs[k]?=some u→k≠i→kq anc k i=true∨∃ R M,fq u=some (R,M)∧d∉M∧(kq anc i k=true∨∀ q∈oM v,q∉M))∧∀ j,kq anc i j=true→lk anc vs j=false:=by
 unfold lk at h
 split at h
 ·rename_i v hv
  split at h
  ·rename_i d hd
   simp only[Bool.and_eq_true]at h
   refine⟨v,d,hv,hd,fun k u hk hne=>by simpa using Se h.1 k u hk (by omega),fun j hj=>?_⟩
   unfold kq at hj
   split at hj
   ·rename_i l hl
    have h2:=h.2
    rw[hl]at h2
    have:=List.all_eq_true.1 h2 j (kE.1 hj)
    unfold lk
    cases hvj:vs[j]? with
    | none=>rfl
    | some u =>
     rw[hvj]at this
     simp only at this⊢
     cases hu:dr u with
     | none=>rfl
     | some d2=>rw[hu]at this;simp at this
   ·simp at hj
  ·simp at h
 ·simp at h
theorem ZR {v:VI}{k:rJ}{R M:List Nat}(h:eO v=some (k,R,M)):fq v=some (R,M):=by simp only[fq,h]
theorem ZQ {a b:Bool}{u v:VI}(h:fK a b u v=true) (hne:gS a b u v=false):∃ R1 M1 R2 M2,fq u=some (R1,M1)∧fq v=some (R2,M2)∧(∀ k∈M1,k∉R2∧k∉M2)∧∀ k∈M2,k∉R1:=by
 have sub:∀ {a:Bool}{v:VI}{R M:List Nat},oX a v=some (R,M)→∃ R',fq v=some (R',M)∧∀ k∈R',k∈R:=fun {a v R M} h=>by
  unfold oX at h
  split at h
  ·rename_i R0 M0 h0
   cases a with
   | false=>simp only[Option.some.injEq,Prod.mk.injEq]at h;obtain⟨rfl,rfl⟩:=h;exact⟨_,h0,fun k hk=>hk⟩
   | true=>simp only[Option.some.injEq,Prod.mk.injEq]at h;obtain⟨rfl,rfl⟩:=h;exact⟨_,h0,fun k hk=>List.mem_append_left _ hk⟩
  ·simp at h
 have ap:wn a b u v=true→∃ R1 M1 R2 M2,fq u=some (R1,M1)∧fq v=some (R2,M2)∧(∀ k∈M1,k∉R2∧k∉M2)∧∀ k∈M2,k∉R1:=fun h=>by
  obtain⟨R1,M1,R2,M2,f1,f2,d1,d2⟩:=kx h
  obtain⟨R1',f1',s1⟩:=sub f1
  obtain⟨R2',f2',s2⟩:=sub f2
  exact⟨R1',M1,R2',M2,f1',f2',fun k hk=>⟨fun h=>(d1 k hk).1 (s2 k h),(d1 k hk).2⟩,fun k hk h=>(d2 k hk).1 (s1 k h)⟩
 simp only[fK,Bool.or_eq_true,hne,Bool.false_eq_true,or_false,Bool.and_eq_true]at h
 rcases h with h | h
 ·simp only[Kt,Bool.and_eq_true]at h
  exact ap h.1
 ·simp only[UP,Bool.and_eq_true,Bool.or_eq_true]at h
  rcases h.2.2 with h | h
  ·unfold yL at h
   split at h
   ·rename_i k1 R1 M1 k2 R2 M2 e1 e2
    simp only[Bool.and_eq_true]at h
    obtain⟨⟨⟨_,a1⟩,a2⟩,a3⟩:=h
    exact⟨R1,M1,R2,M2,ZR e1,ZR e2,fun k hk=>⟨ct a1 k hk,ct a2 k hk⟩,fun k hk=>ct a3 k hk⟩
   ·simp at h
  ·exact ap h.1
theorem Sc {a b:Bool}{u v:VI}{d:Nat}(hu:dr u=some d):gS a b u v=false∧gS b a v u=false:=by
 rcases xK hu with ⟨zs,rfl⟩ | ⟨z,l,c,th,rfl,_,_⟩
 ·exact⟨by simp[gS],by unfold gS;cases v.op<;>simp⟩
 ·exact⟨by simp[gS],by unfold gS;cases v.op<;>simp⟩
theorem Sv {v:VI}{d:Nat}(hv:dr v=some d) {R M:List Nat}(h:fq v=some (R,M)):∀ q∈oM v,q∈R:=by
 rcases xK hv with ⟨zs,rfl⟩ | ⟨z,l,c,th,rfl,_,_⟩
 ·intro q hq;simp[oM]at hq
 ·intro q hq
  cases th with
  | nil =>
   simp only[fq,eO,oC,uJ,Option.some.injEq,Prod.mk.injEq]at h
   rw[←h.1]
   simp only[Ca]
   exact List.mem_append_left _ hq
  | cons p th =>
   simp only[fq,eO,oC,uJ,Option.some.injEq,Prod.mk.injEq]at h
   rw[←h.1]
   simp only[Ca]
   exact List.mem_append_left _ hq
theorem ahy {a b:Bool}{u v:VI}{d:Nat}(h:fK a b u v=true) (hu:dr u=some d):∃ R M,fq v=some (R,M)∧∀ q∈d::oM u,q∉M:=by
 obtain⟨R1,M1,R2,M2,f1,f2,h1,h2⟩:=ZQ h (Sc hu).1
 refine⟨R2,M2,f2,fun q hq hm=>?_⟩
 rcases List.mem_cons.1 hq with rfl | hq
 ·exact(h1 q (vL f1 (oW hu).1)).2 hm
 ·exact h2 q hm (Sv hu f1 q hq)
theorem Tf {a b:Bool}{u v:VI}{d:Nat}(h:fK a b u v=true) (hv:dr v=some d):∃ R M,fq u=some (R,M)∧∀ q∈d::oM v,q∉M:=by
 obtain⟨R1,M1,R2,M2,f1,f2,h1,h2⟩:=ZQ h (Sc hv).2
 refine⟨R1,M1,f1,fun q hq hm=>?_⟩
 rcases List.mem_cons.1 hq with rfl | hq
 ·exact(h1 q hm).2 (vL f2 (oW hv).1)
 ·exact(h1 q hm).1 (Sv hv f2 q hq)
theorem agI {e e':ak}{x:Rd}(hs:oR x=true) (h:∀ q∈ir x,get e' q=get e q) {v:AV}{e1:ak}(hr:rd e x=some (v,e1)):e1=e∧rd e' x=some (v,e'):=by
 cases x with
 | s i =>
  have hi:=h i (by simp[ir])
  simp only[rd]at hr⊢
  split at hr
  ·rename_i u hu
   simp only[Option.some.injEq,Prod.mk.injEq]at hr
   obtain⟨rfl,rfl⟩:=hr
   rw[hi,hu]
   exact⟨rfl,rfl⟩
  ·simp at hr
 | m i=>simp[oR]at hs
 | c u =>
  simp only[rd,Option.some.injEq,Prod.mk.injEq]at hr⊢
  exact⟨hr.2.symm,hr.1,trivial⟩
theorem agP {z:List D}{l c:Rd}{st st2:St}{a:AV}{st1:St}(hl:oR l=true) (hc:oR c=true) (h:∀ q∈aJ [l,c],get st2.env q=get st.env q) (hr:gb z l c st=some (a,st1)):st1=st∧gb z l c st2=some (a,st2):=by
 unfold gb at hr⊢
 split at hr
 ·rename_i n e hn
  obtain⟨rfl,h1⟩:=agI hl (fun q hq=>h q (by simp[aJ,hq])) hn
  rw[h1]
  split at hr
  ·rename_i m e2 hm
   obtain⟨rfl,h2⟩:=agI hc (fun q hq=>h q (by simp[aJ,hq])) hm
   simp only[h2]
   split at hr
   ·rename_i cc hcc
    split at hr
    ·rename_i nn hnn
     simp only[Option.some.injEq,Prod.mk.injEq]at hr
     obtain⟨rfl,rfl⟩:=hr
     exact⟨rfl,by simp[hcc,hnn]⟩
    ·simp at hr
   ·simp at hr
  ·simp at hr
 ·simp at hr
inductive sK (g:Gh) (w:World) (st:St) (d:Nat):VI→Value→(Nat→Nat)→Prop
 | var {zs:List AV}{b:Nat}{c:Array Value}{el:TypeId}:jc zs c.toList=true→w.heap[b]?=some (.cells c el (0,0))→(∀ o,¬ g.pm b o)→sK g w st d ⟨some d,none,.alloc zs,[]⟩ (.pointer (some ⟨b,0,none⟩)) (one b)
 | list {z:List D}{l c:Rd}{th:List (Nat×Nat)}{a:AV}{x:Value}{A:Nat→Nat}:oR l=true→oR c=true→gb z l c st=some (a,st)→RV g w a x A→sK g w st d ⟨some d,none,.mkslice z l c,th⟩ x A
structure auS (g:Gh) (w:World) (t:Array Value) (O:Nat→Nat) (st:St) (anc:List (Nat×List Nat)) (vs:List VI) (i:Nat) (A:Nat→Nat):Prop where
 late:lk anc vs i=true
 hi:∀ b,A b≠0→b<w.heap.size
 le:∀ b,A b+O b≤1
 it:∃ v d x,vs[i]?=some v∧d<t.size∧t[d]?=some x∧sK g w st d v x A
theorem sK.dst {g:Gh}{w:World}{st:St}{d:Nat}{v:VI}{x:Value}{A:Nat→Nat}(h:sK g w st d v x A):dr v=some d:=by
 cases h with
 | var _ _ _=>rfl
 | list h1 h2 _ _=>simp[dr,h1,h2]
theorem sK.keep {g g':Gh}{w w':World}{st st':St}{d:Nat}{v:VI}{x:Value}{A:Nat→Nat}{T:Nat→Prop}(h:sK g w st d v x A) (hx:aE g w g' w' T) (hA:∀ b,A b≠0→b<w.heap.size∧¬ T b)
  (he:∀ q∈oM v,get st'.env q=get st.env q):sK g' w' st' d v x A:=by
 cases h with
 | var h1 h2 h3 =>
  rename_i zs b c el
  have hb:=hA b (by simp)
  obtain⟨b1,b2⟩:=hx.blk b hb.1 hb.2
  exact .var h1 (b1.trans h2) fun o ho=>h3 o (b2 o ho)
 | list h1 h2 h3 h4=>exact .list h1 h2 (agP h1 h2 he h3).2 (RV.ext hx _ _ _ h4 fun b hb=>(hA b hb).2)
theorem S.adopt {g:Gh}{w:World}{t:Array Value}{O:Nat→Nat}{st:St}{zs:List AV}{d b:Nat}{c:Array Value}{el:_}(s:S P g w st t O) (hb:b<w.heap.size) (h0:O b=0) (hp:∀ o,¬ g.pm b o) (hz:jc zs c.toList=true)
  (hh:w.heap[b]?=some (.cells c el (0,0))) (hd:d<t.size) (ht:t[d]?=some (.pointer (some ⟨b,0,none⟩))) :
  ∃ g' O',S P g' w ⟨put st.env d (.ptr st.hs.next 0),⟨put st.hs.heap st.hs.next (.cells zs),st.hs.next+1⟩⟩ t O'∧aE g w g' w (fun _=>False)∧(∀ x,x≠b→O' x≤O x)∧g'.pm=g.pm:=by
 have hn:=s.fresh st.hs.next (Nat.le_refl _)
 have hx:aE g w (g.add st.hs.next b 0 1 zs.length) w (fun _=>False):=(aE.refl g w _).add hn _ _ _ _
 have hfr:=s.heap_fresh (Nat.le_refl st.hs.next)
 obtain⟨Oe,Oh,re,rh,ho⟩:=s.parts
 have re':=fj.ext hx re (by simp)
 have rh':rP P (g.add st.hs.next b 0 1 zs.length) w st.hs.heap Oh:=rh.imp' fun k v O1 _ _ q=>q.ext hx (by simp) (by simp)
 have hk:∀ p∈st.hs.heap,p.1≠st.hs.next:=by
  intro p hp e
  have:=W8 s.sh hp
  rw[e,hfr]at this
  simp at this
 have r:bf P (g.add st.hs.next b 0 1 zs.length) w st.hs.next (.cells zs) (fun x=>zero x+one b x):=by
  simp only[bf]
  exact⟨b,c,el,zero,by simp[Gh.add],by simp[Gh.add],by simp[Gh.add],by simp[Gh.add],hh,RVs.consts hz,fun o ho=>hp o ho,fun _=>rfl⟩
 rw[←j5 hk]at rh'
 obtain⟨O3,r3,h3⟩:=RL.put s.sh rh' r
 have hle:∀ x,one b x+O x≤1:=fun x=>by
  by_cases e:x=b
  ·subst e;rw[h0];simp[one]
  ·have:=s.le x;simp[one,e];exact this
 have s1:S P (g.add st.hs.next b 0 1 zs.length) w ⟨st.env,⟨put st.hs.heap st.hs.next (.cells zs),st.hs.next+1⟩⟩ t (fun x=>one b x+O x):=by
  refine⟨s.se,s.sh.put _ _,⟨Oe,O3,re',r3,fun x=>?_⟩,hle,fun x hxx=>?_,fun i hi=>?_,s.pmlt⟩
  ·have q1:=h3 x;have q2:=ho x;have z:zero x=0:=rfl;show one b x+O x=Oe x+O3 x;omega
  ·by_cases e:x=b
   ·subst e;exact hb
   ·exact s.hi x (by simp[one,e]at hxx;exact hxx)
  ·have hi':st.hs.next+1≤i:=hi
   simp only[Gh.add]
   rw[if_neg (by omega)]
   exact s.fresh i (by omega)
 have rv:RV (g.add st.hs.next b 0 1 zs.length) w (.ptr st.hs.next 0) (.pointer (some ⟨b,0,none⟩)) zero:=by
  simp only[RV]
  exact⟨⟨b,by simp[Gh.add],by simp[Gh.add]⟩,fun _=>trivial⟩
 obtain⟨O4,s4,l4⟩:=s1.setTmp hd rv (fun x=>by have:=hle x;simpa using this) (fun x hx=>by simp at hx)
 have htt:t.setIfInBounds d (.pointer (some ⟨b,0,none⟩))=t:=by
  apply Array.ext_getElem?
  intro k
  rw[Array.getElem?_setIfInBounds]
  by_cases e:d=k
  ·subst e;rw[if_pos rfl,if_pos hd,ht]
  ·simp[e]
 rw[htt]at s4
 exact⟨_,O4,s4,hx,fun x hne=>by
  have q:=l4 x
  have z:zero x=0:=rfl
  have o1:one b x=0:=by simp[one,hne]
  omega,rfl⟩
theorem S.setOther {g:Gh}{w:World}{t:Array Value}{O:Nat→Nat}{st:St}(s:S P g w st t O) {d:Nat}(hd:get st.env d=none) (x:Value):S P g w st (t.setIfInBounds d x) O:=by
 obtain⟨Oe,Oh,re,rh,ho⟩:=s.parts
 refine⟨s.se,s.sh,⟨Oe,Oh,re.imp' fun k v O1 hm _ q=>?_,rh,ho⟩,s.le,s.hi,s.fresh,s.pmlt⟩
 have hk:d≠k:=by
  rintro rfl
  have:=W8 s.se hm
  rw[hd]at this;simp at this
 refine⟨by simpa using q.1,?_⟩
 have:(t.setIfInBounds d x).getD k undef=t.getD k undef:=by
  simp only[Array.getD_eq_getD_getElem?,Array.getElem?_setIfInBounds]
  rw[if_neg hk]
 rw[this];exact q.2
theorem sK.make {g:Gh}{w:World}{t:Array Value}{O:Nat→Nat}{st st1:St}{d:Nat}{v:VI}{x:Value}{A:Nat→Nat}(h:sK g w st d v x A) (s:S P g w st t O) (hle:∀ b,A b+O b≤1) (hhi:∀ b,A b≠0→b<w.heap.size) (hd:d<t.size) (ht:t[d]?=some x)
  (hr:aT r v st=some st1):∃ g' O',S P g' w st1 t O'∧aE g w g' w (fun b=>A b≠0∨O b≠0)∧(∀ b,O' b≤A b+O b):=by
 cases h with
 | var h1 h2 h3 =>
  rename_i zs b c el
  have h9:st1=⟨put st.env d (.ptr st.hs.next 0),⟨put st.hs.heap st.hs.next (.cells zs),st.hs.next+1⟩⟩:=by
   simp only[aT,cZ,aY,tR,zw,aN,firm,nJ,eM,Option.some.injEq]at hr
   exact hr.symm
  have hob:O b=0:=by have:=hle b;simp at this;omega
  obtain⟨g',O',s',x',l',_⟩:=s.adopt (hhi b (by simp)) hob h3 h1 h2 hd ht
  rw[←h9]at s'
  refine⟨g',O',s',x'.mono fun _ _ h=>h.elim,fun q=>?_⟩
  by_cases e:q=b
  ·subst e;have:=s'.le q;simp;omega
  ·have:=l' q e;omega
 | list h1 h2 h3 h4 =>
  rename_i z l c th a
  simp only[aT]at hr
  obtain⟨v',st2,hv,rfl⟩:=KG hr
  simp only[aY]at hv
  rw[h3]at hv
  simp only[Option.some.injEq,Prod.mk.injEq]at hv
  obtain⟨rfl,rfl⟩:=hv
  obtain⟨g2,Ov2,O2,r2,s2,x2,l2⟩:=CA (P:=P) (t:=t) th (env:=st.env) (hs:=st.hs) s h4 hle hhi
  have hle2:∀ b,Ov2 b+O2 b≤1:=fun b=>Nat.le_trans (l2 b) (hle b)
  obtain⟨g3,r3,s3,x3⟩:=acX s2 r2 hle2
  obtain⟨O4,s4,l4⟩:=s3.setTmp hd r3 hle2 fun b hb=>by
   by_cases h:A b=0
   ·exact s.hi b (by have:=l2 b;omega)
   ·exact hhi b h
  have htt:t.setIfInBounds d x=t:=by
   apply Array.ext_getElem?
   intro k
   rw[Array.getElem?_setIfInBounds]
   by_cases e:d=k
   ·subst e;rw[if_pos rfl,if_pos hd,ht]
   ·simp[e]
  rw[htt]at s4
  exact⟨g3,O4,s4,(x2.mono (T:=fun b=>A b≠0∨O b≠0) fun _ _ h=>h.elim).trans x3 fun b _ hb=>by have:=l2 b;omega,fun b=>by have:=l4 b;have:=l2 b;omega⟩
structure ank (ops:Array Oper) (nr:List Nat) (vs:List VI) (anc:List (Nat×List Nat)) (m:Region.Mode) (listed:Array Bool) (rem:List Nat) (pd:Nat→Option (Nat→Nat)):Prop where
 pair:rem.Pairwise fun j i=>ah5 anc nr vs j i
 nd:rem.Nodup
 lt:∀ i∈rem,i<ops.size
 size:listed.size=ops.size
 mem:∀ i,i<ops.size→(i∈rem↔(listed.getD i true=false∨(pd i).isSome=true))
 pdl:∀ i b,pd i=some b→i<ops.size∧listed.getD i false=true
 closed:∀ i o,listed.getD i false=true→ops[i]?=some o→∀ e∈o.after,Region.binds m e=true→listed.getD e.on false=true
structure Cf (P:Program) (r:bn) (n:Nat) (ops:Array Oper) (nr:List Nat) (vs:List VI) (anc:List (Nat×List Nat)) (m:Region.Mode) (listed:Array Bool) (g0:Gh) (w0:World) (t0:Array Value) (O0:Nat→Nat) (st':St)
  (rem:List Nat) (pd:Nat→Option (Nat→Nat)) (F:List Nat) (g:Gh) (w:World) (t:Array Value) (O:Nat→Nat) (st:St):Prop where
 left:ank ops nr vs anc m listed rem pd
 n:t.size=n
 s:S P g w st t O
 abs:∀ i∈rem,∀ v d,vs[i]?=some v→dr v=some d→lk anc vs i=true→get st.env d=none
 pend:∀ i A,pd i=some A→auS g w t O st anc vs i A
 disj:∀ i j A B,i≠j→pd i=some A→pd j=some B→∀ b,A b+B b≤1
 base:dM P g0 w0 t0 O0 st t w g O
 old:∀ i A,pd i=some A→∀ b,b<w0.heap.size→A b+O b≤O0 b
 le0:∀ b,O0 b≤1
 run:cL r nr vs rem F st=some st'
theorem Sg:∀ {l:List Nat},l≠[]→∃ i∈l,∀ j∈l,i≤j
 | [],h=>absurd rfl h
 | [x],_=>⟨x,.head _,fun j hj=>by simp at hj;omega⟩
 | x::y::r,_=>by
  obtain⟨i,hi,hm⟩:=Sg (l:=y::r) (by simp)
  rcases Nat.le_total x i with h | h
  ·refine⟨x,.head _,fun j hj=>?_⟩
   rcases List.mem_cons.1 hj with rfl | hj
   ·exact Nat.le_refl _
   ·exact Nat.le_trans h (hm j hj)
  ·refine⟨i,.tail _ hi,fun j hj=>?_⟩
   rcases List.mem_cons.1 hj with rfl | hj
   ·exact h
   ·exact hm j hj
theorem lD {ops:Array Oper}{m:Region.Mode}{listed:Array Bool}(hc:∀ i o,listed.getD i false=true→ops[i]?=some o→∀ e∈o.after,Region.binds m e=true→listed.getD e.on false=true) {i j:Nat}
  (hp:Fl ops i j):(∀ o,ops[i]?=some o→∀ e∈o.after,Region.binds m e=true→listed.getD e.on false=true)→listed.getD j false=true:=by
 induction hp with
 | one ho he hw=>intro h;exact h _ ho _ he (Gx m hw)
 | more ho he hw _ ih =>
  intro h
  exact ih fun o2 ho2 e2 he2 hb2=>hc _ _ (h _ ho _ he (Gx m hw)) ho2 e2 he2 hb2
theorem alw {P:Program}{n:Nat}{ops:Array Oper}{nr:List Nat}{vs:List VI}{perm:List Nat}{anc:List (Nat×List Nat)}(hok:ue P n ops nr vs perm anc) {m:Region.Mode}{listed:Array Bool}(hsz:listed.size=ops.size) {un:List Nat}
  (hun:∀ i,i∈un↔i<ops.size∧listed.getD i true=false) (hrem:un≠[]) :
  ((List.range ops.size).filter fun i=>!listed.getD i true && ((ops[i]?).map (·.after.all fun e=>!Region.binds m e || listed.getD e.on false)).getD false)≠[]∧
  ∀ i,i∈((List.range ops.size).filter fun i=>!listed.getD i true && ((ops[i]?).map (·.after.all fun e=>!Region.binds m e || listed.getD e.on false)).getD false)↔
   i<ops.size∧listed.getD i true=false∧∃ o,ops[i]?=some o∧∀ e∈o.after,Region.binds m e=true→listed.getD e.on false=true:=by
 have hmu:∀ i,i<ops.size→(i∈un↔listed.getD i true=false):=fun i hi=>⟨fun h=>((hun i).1 h).2,fun h=>(hun i).2 ⟨hi,h⟩⟩
 have hlt0:∀ i,i∈un→i<ops.size:=fun i h=>((hun i).1 h).1
 generalize hrs:((List.range ops.size).filter fun i=>!listed.getD i true && ((ops[i]?).map (·.after.all fun e=>!Region.binds m e || listed.getD e.on false)).getD false)=rs
 have hmem:∀ i,i∈rs↔i<ops.size∧listed.getD i true=false∧∃ o,ops[i]?=some o∧∀ e∈o.after,Region.binds m e=true→listed.getD e.on false=true:=by
  intro i
  rw[←hrs,List.mem_filter,List.mem_range]
  constructor
  ·rintro ⟨h1,h2⟩
   simp only[Bool.and_eq_true,Bool.not_eq_true']at h2
   refine⟨h1,h2.1,ops[i],by simp[h1],fun e he hb=>?_⟩
   have h3:=h2.2
   rw[Array.getElem?_eq_getElem h1]at h3
   simp only[Option.map_some,Option.getD_some]at h3
   have:=Array.all_eq_true_iff_forall_mem.1 h3 e he
   simpa [hb] using this
  ·rintro ⟨h1,h2,o,ho,h3⟩
   refine⟨h1,?_⟩
   simp only[Bool.and_eq_true,Bool.not_eq_true',h2,true_and,ho,Option.map_some,Option.getD_some]
   refine Array.all_eq_true_iff_forall_mem.2 fun e he=>?_
   cases hb:Region.binds m e with
   | false=>simp
   | true=>simp[h3 e he hb]
 have hlist:∀ k,k<ops.size→k∉un→listed.getD k false=true:=fun k hen hnot=>by
  have h2:listed.getD k true≠false:=fun h=>hnot ((hmu k hen).2 h)
  have hsz:k<listed.size:=by rw[hsz];exact hen
  simp[Array.getD,hsz]at h2⊢
  exact h2
 have ready:∀ i∈un,(∀ e∈(ops[i]?).toList.flatMap (fun o=>o.after.toList),Region.binds m e=true→e.on∉un)→i∈rs:=fun i hi he=>by
  have hin:=hlt0 i hi
  refine(hmem i).2 ⟨hin,(hmu i hin).1 hi,ops[i],by simp[hin],fun e hem hb=>?_⟩
  have hen:=(hok.edge i ops[i] (by simp[hin]) e hem).1
  exact hlist _ hen (he e (by simp[hin];exact hem) hb)
 have hne:rs≠[]:=by
  by_cases hm:m=.gc
  ·obtain⟨gl,ga,gt,gs⟩:=hok.gco
   have hl:gl.filter (fun i=>decide (i∈un))≠[]:=by
    obtain⟨i,hi⟩:=List.exists_mem_of_ne_nil un hrem
    exact List.ne_nil_of_mem (List.mem_filter.2 ⟨ga i (hlt0 i hi),by simpa using hi⟩)
   cases hc:gl.filter (fun i=>decide (i∈un)) with
   | nil=>exact absurd hc hl
   | cons i rest =>
    have hmm0:∀ k,k∈i::rest↔k∈gl∧k∈un:=fun k=>by rw[←hc,List.mem_filter,decide_eq_true_eq]
    have him:=(hmm0 i).1 (.head _)
    have hi:=hlt0 i him.2
    have hpw:(i::rest).Pairwise (fun j i=>∀ o,ops[j]?=some o→∀ e∈o.after,RW e.ground=true→e.on≠i):=by rw[←hc];exact gt.sublist List.filter_sublist
    have:i∈rs:=ready i him.2 fun e he hb hmm=>by
     simp[hi]at he
     have hg:RW e.ground=true:=by
      subst hm
      unfold Region.binds at hb
      unfold RW
      split at hb<;>simp_all
     have h:=(hmm0 e.on).2 ⟨ga _ (hlt0 _ hmm),hmm⟩
     rcases List.mem_cons.1 h with h | h
     ·exact gs i him.1 ops[i] (by simp[hi]) e he hg h
     ·exact(List.pairwise_cons.1 hpw).1 _ h ops[i] (by simp[hi]) e he hg rfl
    intro h0;rw[h0]at this;simp at this
  ·obtain⟨i,hir,hmin⟩:=Sg hrem
   have hi:=hlt0 i hir
   have:i∈rs:=ready i hir fun e he hb hmm=>by
    simp[hi]at he
    have hg:txG e.ground=true:=by
     unfold Region.binds at hb
     unfold txG
     split at hb<;>simp_all
    have h1:=(hok.edge i ops[i] (by simp[hi]) e he).2 hg
    have:=hmin _ hmm
    omega
   intro h0;rw[h0]at this;simp at this
 exact⟨hne,hmem⟩
theorem OE {listed:Array Bool}{i:Nat}(hi:i<listed.size) (k:Nat) (b:Bool):(listed.setIfInBounds i true).getD k b=if i=k then true else listed.getD k b:=by
 simp only[Array.getD_eq_getD_getElem?,Array.getElem?_setIfInBounds]
 by_cases e:i=k
 ·subst e;simp[hi]
 ·simp[e]
theorem iH {listed:Array Bool}{i:Nat}(hi:i<listed.size):listed.getD i true=listed.getD i false:=by
 simp[Array.getD,hi]
variable {n:Nat}{ops:Array Oper}{nr:List Nat}{vs:List VI}{perm:List Nat}{anc:List (Nat×List Nat)}{m:Region.Mode}{listed:Array Bool}{g0:Gh}{w0:World}{t0:Array Value}{O0:Nat→Nat}{st':St}
theorem Cf.flush (hok:ue P n ops nr vs perm anc) {l1 l2:List Nat}{j:Nat}{A:Nat→Nat}{pd:Nat→Option (Nat→Nat)}{F:List Nat}{g:Gh}{w:World}{t:Array Value}{O:Nat→Nat}{st:St}
  (c:Cf P r n ops nr vs anc m listed g0 w0 t0 O0 st' (l1++j::l2) pd F g w t O st) (hj:pd j=some A) (hp:∀ x∈l1,∃ u v,vs[x]?=some u∧vs[j]?=some v∧fK (bR x nr) (bR j nr) u v=true) :
  ∃ F' g' O' st1,Cf P r n ops nr vs anc m listed g0 w0 t0 O0 st' (l1++l2) (fun i=>if i=j then none else pd i) F' g' w t O' st1:=by
 have pj:=c.pend j A hj
 obtain⟨v,d,x,h1,h4,h5,hk⟩:=pj.it
 have hdst:=hk.dst
 have hjn:=(c.left.pdl j A hj).1
 have inv:bg st:=⟨c.s.se,c.s.sh,fun id hid=>c.s.heap_fresh hid⟩
 have hsw:∀ x∈l1,∃ u,vs[x]?=some u∧fK (bR x nr) (bR j nr) u v=true:=fun x hx=>by
  obtain⟨u,v',a1,a2,a3⟩:=hp x hx
  rw[h1]at a2
  simp only[Option.some.injEq]at a2
  subst a2
  exact⟨u,a1,a3⟩
 have h6:=Nw h1 hsw inv c.run
 simp only[cL,h1]at h6
 split at h6
 ·simp at h6
 ·rename_i st1 h7
  have h8:aT r v st=some st1:=GH (fun hw=>hok.near j _ hw h1) c.s.se h7
  obtain⟨g',O',s',x',l'⟩:=hk.make c.s pj.le pj.hi h4 h5 h8
  have hsub:(l1++l2).Sublist (l1++j::l2):=List.Sublist.append_left (List.sublist_cons_self j l2) l1
  have hnd:=c.left.nd
  have hjl:j∉l1++l2:=fun hm=>by
   have hnd':=List.nodup_append.1 hnd
   rcases List.mem_append.1 hm with h | h
   ·exact hnd'.2.2 j h j (.head _) rfl
   ·exact(List.nodup_cons.1 hnd'.2.1).1 h
  have hfoot:∀ i,i∈l1++l2→lk anc vs i=true→∀ u q,vs[i]?=some u→dr u=some q→∀ k∈q::oM u,get st1.env k=get st.env k:=fun i hi hl u q hu hq k hkm=>by
   have hij:i≠j:=fun e=>hjl (e▸hi)
   obtain⟨u2,q2,k1,k2,k3,k4⟩:=nt hl
   rw[hu]at k1
   simp only[Option.some.injEq]at k1
   subst k1
   rw[hq]at k2
   simp only[Option.some.injEq]at k2
   subst k2
   obtain⟨R,M,f1,f0,f2⟩:=(k3 j v h1 (fun e=>hij e.symm)).resolve_left (fun hdj=>by
    obtain⟨_,_,_,_,_,hno⟩:=nt pj.late
    have:=hno i hdj
    rw[hl]at this;simp at this)
   obtain⟨e1,hs1'⟩:=st
   refine(qq f1 e1 hs1' st1 h8).2.1 k ?_
   rcases List.mem_cons.1 hkm with rfl | hkm
   ·exact f0
   ·exact f2.resolve_left (fun hdij=>by have:=k4 j hdij;rw[pj.late]at this;simp at this) k hkm
  have hmem:∀ i B,i≠j→pd i=some B→i∈l1++l2:=fun i B e hi=>by
   have:=(c.left.mem i (c.left.pdl i B hi).1).2 (.inr (by rw[hi];rfl))
   rcases List.mem_append.1 this with h | h
   ·exact List.mem_append_left _ h
   ·rcases List.mem_cons.1 h with h | h
    ·exact absurd h e
    ·exact List.mem_append_right _ h
  refine⟨_,g',O',st1,⟨⟨c.left.pair.sublist hsub,hnd.sublist hsub,fun k hk=>c.left.lt k (hsub.subset hk),c.left.size,fun k hk=>?_,fun i b' hi=>?_,c.left.closed⟩,c.n,s',fun i hi u q hu hq hl=>?_,fun i B hi=>?_,fun i k B C hik hi hk=>?_,?_,fun i B hi b hb=>?_,c.le0,h6⟩⟩
  ·have hold:=c.left.mem k hk
   by_cases e:k=j
   ·subst e
    simp only[if_true,Option.isSome_none,Bool.false_eq_true,or_false]
    have hl:=(c.left.pdl k A hj).2
    rw[←iH (by rw[c.left.size];exact hk)]at hl
    rw[hl]
    simp[hjl]
   ·simp only[e,if_false]
    rw[←hold]
    simp only[List.mem_append,List.mem_cons]
    constructor
    ·rintro (h | h)
     ·exact .inl h
     ·exact .inr (.inr h)
    ·rintro (h | h | h)
     ·exact .inl h
     ·exact absurd h e
     ·exact .inr h
  ·by_cases e:i=j
   ·simp[e]at hi
   ·simp only[e,if_false]at hi;exact c.left.pdl i b' hi
  ·rw[hfoot i hi hl u q hu hq q (.head _)]
   exact c.abs i (hsub.subset hi) u q hu hq hl
  ·by_cases e:i=j
   ·simp[e]at hi
   ·simp only[e,if_false]at hi
    have p:=c.pend i B hi
    obtain⟨u,q,y,k1,k2,k3,k4⟩:=p.it
    have hd:=c.disj i j B A e hi hj
    exact⟨p.late,p.hi,fun b=>by have:=l' b;have:=p.le b;have:=hd b;have:=pj.le b;have:=s'.le b;omega,u,q,y,k1,k2,k3,
     k4.keep x' (fun b hb=>⟨p.hi b hb,fun h=>by have:=hd b;have:=p.le b;rcases h with h | h<;>omega⟩) fun k hkm=>hfoot i (hmem i B e hi) p.late u q k1 k4.dst k (.tail _ hkm)⟩
  ·by_cases e:i=j
   ·simp[e]at hi
   ·by_cases e2:k=j
    ·simp[e2]at hk
    ·simp only[e,e2,if_false]at hi hk;exact c.disj i k B C hik hi hk
  ·refine⟨s',c.base.ext.trans x' fun b hb h=>?_,fun b hb=>?_,c.base.size⟩
   ·have:=c.old j A hj b hb;rcases h with h | h<;>omega
   ·exact Nat.le_trans (l' b) (c.old j A hj b hb)
  ·by_cases e:i=j
   ·simp[e]at hi
   ·simp only[e,if_false]at hi
    have q1:=c.old i B hi b hb
    have q2:=c.old j A hj b hb
    have q3:=c.disj i j B A e hi hj b
    have q4:=l' b
    have q5:=(c.pend i B hi).le b
    have q6:=pj.le b
    omega
theorem Cf.flush_all (hok:ue P n ops nr vs perm anc):∀ {rem:List Nat}{pd:Nat→Option (Nat→Nat)}{F:List Nat}{g:Gh}{w:World}{t:Array Value}{O:Nat→Nat}{st:St},
  Cf P r n ops nr vs anc m listed g0 w0 t0 O0 st' rem pd F g w t O st→(∀ i∈rem,(pd i).isSome=true)→∃ g' O',dM P g0 w0 t0 O0 st' t w g' O'
 | [],pd,F,g,w,t,O,st,c,_=>by
  have h:=c.run
  simp only[cL,Option.some.injEq]at h
  subst h
  exact⟨g,O,c.base⟩
 | j::rem,pd,F,g,w,t,O,st,c,hall=>by
  obtain⟨b,hb⟩:=Option.isSome_iff_exists.1 (hall j (.head _))
  obtain⟨F',g',O',st1,c'⟩:=Cf.flush (l1:=[]) hok c hb (fun x hx=>by simp at hx)
  have hnd:=c.left.nd
  exact Cf.flush_all hok c' fun i hi=>by
   have:i≠j:=fun e=>(List.nodup_cons.1 hnd).1 (e▸hi)
   simp only[this,if_false]
   exact hall i (.tail _ hi)
theorem Cf.flush_for (hok:ue P n ops nr vs perm anc) {i:Nat}(hil:listed.getD i true=false) (hnl:lk anc vs i=false) {o:Oper}(ho:ops[i]?=some o) (hready:∀ e∈o.after,Region.binds m e=true→listed.getD e.on false=true) :
  ∀ {k:Nat}{l1 l2:List Nat},l1.length=k→∀ {pd:Nat→Option (Nat→Nat)}{F:List Nat}{g:Gh}{w:World}{t:Array Value}{O:Nat→Nat}{st:St},
  Cf P r n ops nr vs anc m listed g0 w0 t0 O0 st' (l1++i::l2) pd F g w t O st→
  ∃ l1' pd' F' g' O' st1,Cf P r n ops nr vs anc m listed g0 w0 t0 O0 st' (l1'++i::l2) pd' F' g' w t O' st1∧(∀ j∈l1',∃ u v,vs[j]?=some u∧vs[i]?=some v∧fK (bR j nr) (bR i nr) u v=true)∧(l1'.filter fun q=>!listed.getD q true)=(l1.filter fun q=>!listed.getD q true):=by
 intro k
 induction k with
 | zero =>
  intro l1 l2 hk pd F g w t O st c
  have:l1=[]:=List.eq_nil_of_length_eq_zero hk
  subst this
  exact⟨[],pd,F,g,O,st,c,fun j hj=>by simp at hj,rfl⟩
 | succ k ih =>
  intro l1 l2 hk pd F g w t O st c
  have hpw:=List.pairwise_append.1 c.left.pair
  have hin:i<ops.size:=c.left.lt i (by simp)
  have hlist:∀ a q,a<ops.size→Fl ops a q→listed.getD a false=true∨a=i→listed.getD q false=true:=fun a q ha hpa hla=>by
   refine lD c.left.closed hpa fun o' ho'=>?_
   rcases hla with h | h
   ·exact c.left.closed a o' h ho'
   ·subst h
    rw[ho]at ho'
    simp only[Option.some.injEq]at ho'
    subst ho'
    exact hready
  by_cases hex:∃ j∈l1,kq anc i j=true
  ·
   obtain⟨la,j,lb,hl1,hdj,hfirst⟩:∃ la j lb,l1=la++j::lb∧kq anc i j=true∧∀ x∈la,kq anc i x=false:=by
    clear ih hk c hpw
    induction l1 with
    | nil=>obtain⟨j,hj,_⟩:=hex;simp at hj
    | cons x l1 ihl =>
     by_cases hx:kq anc i x=true
     ·exact⟨[],x,l1,rfl,hx,fun y hy=>by simp at hy⟩
     ·obtain⟨la,j,lb,h1,h2,h3⟩:=ihl (by
       obtain⟨j,hj,hd⟩:=hex
       rcases List.mem_cons.1 hj with rfl | hj
       ·exact absurd hd hx
       ·exact⟨j,hj,hd⟩)
      refine⟨x::la,j,lb,by rw[h1];rfl,h2,fun y hy=>?_⟩
      rcases List.mem_cons.1 hy with rfl | hy
      ·simpa using hx
      ·exact h3 y hy
   subst hl1
   have hjm:j∈(la++j::lb)++i::l2:=by simp
   have hjn:=c.left.lt j hjm
   have hjl:=hlist i j hin (hok.path i j hdj) (.inr rfl)
   have hjp:∃ b,pd j=some b:=by
    rcases (c.left.mem j hjn).1 hjm with h | h
    ·rw[iH (by rw[c.left.size];exact hjn),hjl]at h;simp at h
    ·exact Option.isSome_iff_exists.1 h
   obtain⟨b,hb⟩:=hjp
   have hlate:=(c.pend j b hb).late
   obtain⟨_,_,_,_,_,hnoanc⟩:=nt hlate
   have hpj:=List.pairwise_append.1 hpw.1
   have hpass:∀ x∈la,∃ u v,vs[x]?=some u∧vs[j]?=some v∧fK (bR x nr) (bR j nr) u v=true:=fun x hx=>by
    have hxm:x∈(la++j::lb)++i::l2:=by simp[hx]
    have hxn:=c.left.lt x hxm
    rcases hpj.2.2 x hx j (.head _) with (h | h) | h
    ·
     exfalso
     have hxl:=hlist j x hjn (hok.path j x h) (.inl hjl)
     rcases (c.left.mem x hxn).1 hxm with h2 | h2
     ·rw[iH (by rw[c.left.size];exact hxn),hxl]at h2;simp at h2
     ·obtain⟨b2,hb2⟩:=Option.isSome_iff_exists.1 h2
      have:=(c.pend x b2 hb2).late
      rw[hnoanc x h]at this;simp at this
    ·exact h
    ·exfalso
     have:=h.2.1 i (by rw[hok.len];exact hin) hdj
     rw[hfirst x hx]at this;simp at this
   have c0:Cf P r n ops nr vs anc m listed g0 w0 t0 O0 st' (la++j::(lb++i::l2)) pd F g w t O st:=by simpa using c
   obtain⟨F',g',O',st1,c'⟩:=Cf.flush hok c0 hb hpass
   have c2:Cf P r n ops nr vs anc m listed g0 w0 t0 O0 st' ((la++lb)++i::l2) (fun q=>if q=j then none else pd q) F' g' w t O' st1:=by simpa using c'
   obtain⟨l1',pd',F2,g2,O2,st2,q1,q2,q3⟩:=ih (by simp at hk⊢;omega) c2
   refine⟨l1',pd',F2,g2,O2,st2,q1,q2,q3.trans ?_⟩
   rw[List.filter_append,List.filter_append,List.filter_cons_of_neg (by rw[iH (by rw[c.left.size];exact hjn),hjl];simp)]
  ·refine⟨l1,pd,F,g,O,st,c,fun j hj=>?_,rfl⟩
   rcases hpw.2.2 j hj i (.head _) with (h | h) | h
   ·exact absurd ⟨j,hj,h⟩ hex
   ·exact h
   ·rw[hnl]at h;simp at h
theorem ae1 (hok:ue P n ops nr vs perm anc) {i:Nat}{v:VI}{d:Nat}(hv:vs[i]?=some v) (hd:dr v=some d):∀ {l1 l2 F:List Nat}{st:St},aX st.env→(∀ k∈l1,∀ u,vs[k]?=some u→∃ R M,fq u=some (R,M)∧∀ q∈d::oM v,q∉M)→
  cL r nr vs (l1++i::l2) F st=some st'→∃ st1 st2,aT r v st1=some st2∧∀ q∈d::oM v,get st1.env q=get st.env q
 | [],l2,F,st,hsrt,_,h=>by
  simp only[List.nil_append,cL,hv]at h
  split at h
  ·simp at h
  ·rename_i st1 h1
   exact⟨st,st1,GH (fun hw=>hok.near i _ hw hv) hsrt h1,fun _ _=>rfl⟩
 | k::l1,l2,F,st,hsrt,hl,h=>by
  simp only[List.cons_append,cL]at h
  split at h
  ·simp at h
  ·rename_i u hu
   split at h
   ·simp at h
   ·rename_i st1 h1
    have h2:aT r u st=some st1:=GH (fun hw=>hok.near k _ hw hu) hsrt h1
    obtain⟨R,M,f1,f2⟩:=hl k (.head _) u hu
    obtain⟨e1,hs1⟩:=st
    obtain⟨k1,k2,_⟩:=qq f1 e1 hs1 st1 h2
    obtain⟨sa,sb,q1,q2⟩:=ae1 hok hv hd (k1 hsrt) (fun k hk=>hl k (.tail _ hk)) h
    exact⟨sa,sb,q1,fun q hq=>(q2 q hq).trans (k2 q (f2 q hq))⟩
theorem ahM {g:Gh}{w:World}{t:Array Value}{O:Nat→Nat}{zs:List AV}{o:Oper}(s:S P g w st' t O) (hc:aw P (.alloc zs) o.op=true) :
  ∃ (c:Array Value) (el:_),jc zs c.toList=true∧(execOp (ev t) o).run P w=.ok (.value (.pointer (some ⟨w.heap.size,0,none⟩))) (w.alloc (.cells c el))∧aE g w g (w.alloc (.cells c el)) (fun _=>False):=by
 obtain⟨dst,op,ty,pos,aft,gd⟩:=o
 simp only[aw]at hc
 split at hc
 ·rename_i e
  split at hc
  ·rename_i i hi
   split at hc
   ·rename_i z hz
    exact⟨z.cells,e,hc,by simp[execOp,Instr.alloc,zeroValue,typeInfo,hi,hz,newVar,newRow],aE.alloc s.pmlt _ _ (by intro off;simp[dh])⟩
   ·simp at hc
  ·simp at hc
 ·simp at hc
theorem ajn {ro:Option Nat}{g:Gh}{w:World}{t:Array Value}{O:Nat→Nat}{st:St}{v:VI}{d:Nat}{o:Oper}(s:S P g w st t O) (hd:dr v=some d) (hc:aw P v.op o.op=true)
  (hmk:∀ z l c th,v=⟨some d,none,.mkslice z l c,th⟩→oR l=true→oR c=true→∃ a,gb z l c st=some (a,st)) (ds:List Deferred) (next:Act→World→Prop) (Q:Exit→Act→World→Prop)
  (hn:∀ w1 x g1 O1 A,S P g1 w1 st t O1→aE g w g1 w1 (fun b=>O b≠0)→(∀ b,b<w.heap.size→A b+O1 b≤O b)→(∀ b,A b+O1 b≤1)→(∀ b,A b≠0→b<w1.heap.size)→sK g1 w1 st d v x A→next (Act.put ⟨t,ds⟩ o.dst x) w1) :
  o.uponIn (FR ro) 0 P ⟨t,ds⟩ next Q ((execOp (ev t) o).run P w):=by
 rcases xK hd with ⟨zs,rfl⟩ | ⟨z,l,c,th,rfl,hl,hc2⟩
 ·obtain⟨cc,el,hz,hrun,hx⟩:=ahM s hc
  rw[hrun]
  have hobn:O w.heap.size=0:=by
   by_cases h:O w.heap.size=0
   ·exact h
   ·have:=s.hi _ h;omega
  refine hn _ _ g O (one w.heap.size) (s.extF hx rfl fun b o' hp=>by have:=s.pmlt b o' hp;simp only[World.size_alloc];omega) (hx.mono fun _ _ h=>h.elim) (fun b hb=>?_) (fun b=>?_) (fun b hb=>?_) (.var hz (dJ _ _) fun o' hp=>?_)
  ·have:b≠w.heap.size:=by omega
   simp[one,this]
  ·by_cases e:b=w.heap.size
   ·subst e;simp[hobn]
   ·have:=s.le b;simp[one,e];exact this
  ·have:=mz (b:=w.heap.size) (x:=b) hb
   simp only[World.size_alloc];omega
  ·have:=s.pmlt _ o' hp;omega
 ·obtain⟨a,ha⟩:=hmk z l c th rfl hl hc2
  exact(SL s ha hc).opW ds next Q fun x w' g' Oa O' k=>hn _ _ g' O' Oa k.st k.ext k.old k.le k.hi (.list hl hc2 ha k.val)
theorem aph {ro:Option Nat}(hr:dO P r) (hcs:d8 P r) (hok:ue P n ops nr vs perm anc) {Q:Exit→Act→World→Prop}(ds:List Deferred)
  (hq:∀ w' t' g' O',dM P g0 w0 t0 O0 st' t' w' g' O'→Q .normal ⟨t',ds⟩ w') :
  ∀ {fuel:Nat}{listed:Array Bool}{tt:Nat}{rem:List Nat}{pd:Nat→Option (Nat→Nat)}{F:List Nat}{g:Gh}{w:World}{t:Array Value}{O:Nat→Nat}{st:St},
   Cf P r n ops nr vs anc m listed g0 w0 t0 O0 st' rem pd F g w t O st→(rem.filter fun i=>!listed.getD i true).length=fuel→wpOpsIn (FR ro) 0 P ops Q (Region.linearise.go m ops fuel tt listed []) ⟨t,ds⟩ w:=by
 intro fuel
 induction fuel with
 | zero =>
  intro listed tt rem pd F g w t O st c hf
  have hnil:=List.eq_nil_of_length_eq_zero hf
  have hall:∀ i∈rem,(pd i).isSome=true:=fun i hi=>by
   have hin:=c.left.lt i hi
   rcases (c.left.mem i hin).1 hi with h | h
   ·have:i∈rem.filter fun i=>!listed.getD i true:=List.mem_filter.2 ⟨hi,by rw[h];rfl⟩
    rw[hnil]at this;simp at this
   ·exact h
  obtain⟨g',O',G⟩:=Cf.flush_all hok c hall
  exact hq _ _ _ _ G
 | succ fuel ih =>
  intro listed tt rem pd F g w t O st c hf
  unfold Region.linearise.go
  simp only
  have hun:∀ i,i∈(rem.filter fun i=>!listed.getD i true)↔i<ops.size∧listed.getD i true=false:=fun i=>by
   rw[List.mem_filter,Bool.not_eq_true']
   exact⟨fun h=>⟨c.left.lt i h.1,h.2⟩,fun h=>⟨(c.left.mem i h.1).2 (.inl h.2),h.2⟩⟩
  obtain⟨hne,hmem⟩:=alw (m:=m) hok c.left.size hun (by intro h0;rw[h0]at hf;simp at hf)
  generalize hrs:((List.range ops.size).filter fun i=>!listed.getD i true && ((ops[i]?).map (·.after.all fun e=>!Region.binds m e || listed.getD e.on false)).getD false)=rs at hne hmem
  have hlen:0<rs.length:=List.length_pos_iff.2 hne
  have hlt:=Nat.mod_lt tt hlen
  rw[List.getElem?_eq_getElem hlt]
  simp only
  generalize hi:rs[tt % rs.length]=i
  have hirs:i∈rs:=by rw[←hi];exact List.getElem_mem hlt
  obtain⟨hin,hil,o,ho,hready⟩:=(hmem i).1 hirs
  have hirem:i∈rem:=(c.left.mem i hin).2 (.inl hil)
  have hsz:i<listed.size:=by rw[c.left.size];exact hin
  have hvl:i<vs.length:=by rw[hok.len];exact hin
  have hv:vs[i]?=some vs[i]:=by simp
  have hacc:=linearise_go_acc m ops fuel (tt / rs.length) (listed.setIfInBounds i true) [i]
  rw[hacc]
  simp only[List.reverse_cons,List.reverse_nil,List.nil_append,List.cons_append,wpOpsIn,ho]
  have hclosed:∀ k o',(listed.setIfInBounds i true).getD k false=true→ops[k]?=some o'→∀ e∈o'.after,Region.binds m e=true→(listed.setIfInBounds i true).getD e.on false=true:=by
   intro k o' hk ho' e he hb
   rw[OE hsz]at hk⊢
   split
   ·rfl
   ·by_cases e1:i=k
    ·subst e1
     rw[ho]at ho'
     simp only[Option.some.injEq]at ho'
     subst ho'
     exact hready e he hb
    ·rw[if_neg e1]at hk
     exact c.left.closed k o' hk ho' e he hb
  have hcount:∀ {l1 l2:List Nat},rem=l1++i::l2→∀ {l1':List Nat},(l1'.filter fun i=>!listed.getD i true)=(l1.filter fun i=>!listed.getD i true)→i∉l1'→i∉l2→((l1'++l2).filter fun q=>!(listed.setIfInBounds i true).getD q true).length=fuel:=by
   intro l1 l2 hrem l1' hl1 hn1 hn2
   have h1:∀ l:List Nat,i∉l→(l.filter fun q=>!(listed.setIfInBounds i true).getD q true)=l.filter fun q=>!listed.getD q true:=fun l hl=>List.filter_congr fun q hq=>by
    rw[OE hsz,if_neg (fun e=>hl (by rw[e];exact hq))]
   rw[List.filter_append,h1 _ hn1,h1 _ hn2,hl1]
   rw[hrem,List.filter_append,List.filter_cons_of_pos (by rw[hil];rfl)]at hf
   simp at hf⊢
   omega
  cases hl:lk anc vs i with
  | true =>
   obtain⟨v,d,hvi,hdv,hfree,hnoanc⟩:=nt hl
   have hchk:=hok.vi i _ o hvi ho
   simp only[rk,Bool.and_eq_true]at hchk
   obtain⟨⟨hdst,hgd⟩,hop⟩:=hchk
   obtain⟨hd1,hd2,hd3⟩:=oW hdv
   have hgn:o.guard=none:=by
    rw[hd2]at hgd
    cases hog:o.guard with
    | none=>rfl
    | some q=>rw[hog]at hgd;simp[uF]at hgd
   have hod:o.dst=some d∧d<n:=by
    rw[hd1]at hdst
    split at hdst
    ·rename_i e1 e2;simp at e1
    ·rename_i a b e1 e2
     simp only[Option.some.injEq]at e1
     subst e1
     simp only[Bool.and_eq_true,Nat.beq_eq,Nat.blt_eq]at hdst
     exact⟨by rw[e2,←hdst.1],hdst.2⟩
    ·simp at hdst
   have hw:Region.wanted o (yielded ops t)=true:=by simp[Region.wanted,hgn]
   rw[if_pos hw]
   refine⟨fun _ _=>trivial,?_⟩
   rw[Gb _ _ (Hh hd3 hop)]
   have habs:=c.abs i hirem v d hvi hdv hl
   obtain⟨l1,l2,hrem⟩:=List.append_of_mem hirem
   have hapl:∀ k∈l1,∀ u,vs[k]?=some u→∃ R M,fq u=some (R,M)∧∀ q∈d::oM v,q∉M:=fun k hk u hu=>by
    have hkm:k∈rem:=by rw[hrem];exact List.mem_append_left _ hk
    have hkn:=c.left.lt k hkm
    have hne:k≠i:=fun e=>by
     have hnd:=c.left.nd
     rw[hrem]at hnd
     exact(List.nodup_append.1 hnd).2.2 i (e▸hk) i (.head _) rfl
    have hpr:=c.left.pair
    rw[hrem]at hpr
    have hnk:kq anc i k=true→False:=fun h=>by
     have hkl:=lD c.left.closed (hok.path i k h) fun o' ho'=>by
      rw[ho]at ho'
      simp only[Option.some.injEq]at ho'
      subst ho'
      exact hready
     rcases (c.left.mem k hkn).1 hkm with h2 | h2
     ·rw[iH (by rw[c.left.size];exact hkn),hkl]at h2;simp at h2
     ·obtain⟨b2,hb2⟩:=Option.isSome_iff_exists.1 h2
      have:=(c.pend k b2 hb2).late
      rw[hnoanc k h]at this;simp at this
    rcases (List.pairwise_append.1 hpr).2.2 k hk i (.head _) with (h | ⟨u',v',a1,a2,a3⟩) | h
    ·exact(hnk h).elim
    ·rw[hu]at a1
     rw[hvi]at a2
     simp only[Option.some.injEq]at a1 a2
     subst a1 a2
     exact Tf a3 hdv
    ·obtain⟨R,M,f1,f2,f3⟩:=(hfree k u hu hne).resolve_left (fun hd=>by rw[h.2.2]at hd;simp at hd)
     refine⟨R,M,f1,fun q hq=>?_⟩
     rcases List.mem_cons.1 hq with rfl | hq
     ·exact f2
     ·exact f3.resolve_left hnk q hq
   have hrun0:=c.run
   rw[hrem]at hrun0
   obtain⟨sa,sb,hsa,hsq⟩:=ae1 hok hvi hdv c.s.se hapl hrun0
   refine ajn (ro:=ro) c.s hdv hop (fun z l c' th e hl1 hl2=>?_) ds _ Q fun w1 x g1 O1 A hs1 hx1 hold1 hle1 hhi1 hpk=>?_
   ·subst e
    simp only[aT]at hsa
    obtain⟨v',st2,hv',_⟩:=KG hsa
    simp only[aY]at hv'
    exact⟨v',(agP hl1 hl2 (fun q hq=>(hsq q (List.mem_cons_of_mem _ hq)).symm) hv').2⟩
   ·rw[SS,hod.1]
    have hdn:d<t.size:=by rw[c.n];exact hod.2
    have hs2:=hs1.setOther habs x
    have ht1:kO t (some d) x=t.setIfInBounds d x:=by simp[kO,Act.put]
    rw[ht1]
    have hgt:∀ q,q≠d→(t.setIfInBounds d x)[q]?=t[q]?:=fun q hqd=>by
     rw[Array.getElem?_setIfInBounds,if_neg (fun e=>hqd e.symm)]
    have hwle:w0.heap.size≤w.heap.size:=c.base.ext.size
    have hO1:∀ b,b<w.heap.size→O1 b≤O b:=fun b hb=>by have:=hold1 b hb;omega
    have hO1':∀ b,O1 b≤1:=fun b=>by have:=hle1 b;omega
    refine ih (rem:=rem) (pd:=fun q=>if q=i then some A else pd q) (F:=F) (g:=g1) (O:=O1) (st:=st) ⟨⟨c.left.pair,c.left.nd,c.left.lt,by simp[c.left.size],fun k hk=>?_,fun k b hk=>?_,hclosed⟩,by simp[c.n],hs2,c.abs,fun k B hk=>?_,fun k q B C hkq hk hq'=>?_,?_,fun k B hk b hb=>?_,c.le0,c.run⟩ ?_
    ·rw[OE hsz]
     by_cases e:i=k
     ·subst e;simp[hirem]
     ·have e':¬ k=i:=fun h=>e h.symm
      simp only[e,e',if_false]
      exact c.left.mem k hk
    ·rw[OE hsz]
     by_cases e:k=i
     ·subst e;exact⟨hin,by simp⟩
     ·simp only[e,if_false]at hk
      have:=c.left.pdl k b hk
      refine⟨this.1,?_⟩
      rw[if_neg (fun h=>e h.symm)]
      exact this.2
    ·by_cases e:k=i
     ·subst e
      simp only[if_true,Option.some.injEq]at hk
      subst hk
      refine⟨hl,hhi1,hle1,v,d,x,hvi,by simp[hdn],?_,hpk⟩
      rw[Array.getElem?_setIfInBounds,if_pos rfl,if_pos hdn]
     ·simp only[e,if_false]at hk
      have q:=c.pend k B hk
      obtain⟨u,d',y,h1,h4,h5,h6⟩:=q.it
      have hdd:d'≠d:=by
       obtain⟨R,M,f1,f2,_⟩:=(hfree k _ h1 e).resolve_left (fun hdk=>by
        obtain⟨_,_,_,_,_,hno⟩:=nt q.late
        have:=hno i hdk
        rw[hl]at this;simp at this)
       intro h
       exact f2 (h▸vL f1 (oW h6.dst).1)
      exact⟨q.late,fun b hb=>Nat.lt_of_lt_of_le (q.hi b hb) hx1.size,fun b=>by
       by_cases hb:b<w.heap.size
       ·have:=q.le b;have:=hO1 b hb;omega
       ·have:B b=0:=by
         by_cases h:B b=0
         ·exact h
         ·exact absurd (q.hi b h) hb
        have:=hO1' b;omega,u,d',y,h1,by simpa using h4,(hgt d' hdd).trans h5,
       h6.keep hx1 (fun b hb=>⟨q.hi b hb,fun h=>by have:=q.le b;omega⟩) fun _ _=>rfl⟩
    ·have key:∀ k B,k≠i→pd k=some B→∀ b,A b+B b≤1:=fun k B e hk b=>by
      have q:=c.pend k B hk
      by_cases hb:b<w.heap.size
      ·have:=q.le b;have:=hold1 b hb;omega
      ·have:B b=0:=by
        by_cases h:B b=0
        ·exact h
        ·exact absurd (q.hi b h) hb
       have:=hle1 b;omega
     intro b
     by_cases e:k=i
     ·have e2:q≠i:=fun h=>hkq (e.trans h.symm)
      simp only[e,e2,if_true,if_false,Option.some.injEq]at hk hq'
      subst hk
      exact key q C e2 hq' b
     ·by_cases e2:q=i
      ·simp only[e,e2,if_true,if_false,Option.some.injEq]at hk hq'
       subst hq'
       have:=key k B e hk b;omega
      ·simp only[e,e2,if_false]at hk hq';exact c.disj k q B C hkq hk hq' b
    ·exact⟨hs2,c.base.ext.trans hx1 fun b hb h=>by have:=c.base.old b hb;omega,fun b hb=>Nat.le_trans (hO1 b (by omega)) (c.base.old b hb),by simp[c.base.size]⟩
    ·by_cases e:k=i
     ·simp only[e,if_true,Option.some.injEq]at hk
      subst hk
      have:=hold1 b (by omega);have:=c.base.old b hb;omega
     ·simp only[e,if_false]at hk
      have:=c.old k B hk b hb;have:=hO1 b (by omega);omega
    ·have hnd:=c.left.nd
     rw[hrem]at hnd
     have hnd':=List.nodup_append.1 hnd
     have hn1:i∉l1:=fun h=>hnd'.2.2 i h i (.head _) rfl
     have hn2:i∉l2:=(List.nodup_cons.1 hnd'.2.1).1
     have:=hcount hrem rfl hn1 hn2
     rw[hrem,List.filter_append,List.filter_cons_of_neg (by rw[OE hsz,if_pos rfl];simp),←List.filter_append]
     exact this
  | false =>
   obtain⟨l1,l2,hrem⟩:=List.append_of_mem hirem
   rw[hrem]at c
   obtain⟨l1',pd',F',g',O',st1,c1,hpass,hfl⟩:=Cf.flush_for hok hil hl ho hready rfl c
   have hsw:∀ j∈l1',∃ u,vs[j]?=some u∧fK (bR j nr) (bR i nr) u vs[i]=true:=fun j hj=>by
    obtain⟨u,v,a1,a2,a3⟩:=hpass j hj
    rw[hv]at a2
    simp only[Option.some.injEq]at a2
    subst a2
    exact⟨u,a1,a3⟩
   have inv:bg st1:=⟨c1.s.se,c1.s.sh,fun id hid=>c1.s.heap_fresh hid⟩
   have h2:=Nw hv hsw inv c1.run
   simp only[cL,hv]at h2
   split at h2
   ·simp at h2
   ·rename_i st2 h3N
    have h3:aT r vs[i] st1=some st2:=GH (fun hw=>hok.near i _ hw hv) c1.s.se h3N
    have hnd:=c1.left.nd
    have hnd':=List.nodup_append.1 hnd
    have hn1:i∉l1':=fun h=>hnd'.2.2 i h i (.head _) rfl
    have hn2:i∉l2:=(List.nodup_cons.1 hnd'.2.1).1
    have hsub:(l1'++l2).Sublist (l1'++i::l2):=List.Sublist.append_left (List.sublist_cons_self i l2) l1'
    have hpdi:pd' i=none:=by
     cases h:pd' i with
     | none=>rfl
     | some b =>
      have:=(c1.left.pdl i b h).2
      rw[←iH hsz,hil]at this;simp at this
    have hapart:∀ k∈l1'++l2,lk anc vs k=true→∀ u d,vs[k]?=some u→dr u=some d→∃ R M,fq vs[i]=some (R,M)∧d∉M∧(listed.getD k false=true→∀ q∈oM u,q∉M):=fun k hk hlk u0 d hvk hdk=>by
     have hki:i≠k:=fun e=>by rw[e,hlk]at hl;simp at hl
     obtain⟨u2,d2,k1,kd,k2,_⟩:=nt hlk
     rw[hvk]at k1
     simp only[Option.some.injEq]at k1
     subst k1
     rw[hdk]at kd
     simp only[Option.some.injEq]at kd
     subst kd
     rcases k2 i _ hv hki with hd | hd
     ·rcases List.mem_append.1 hk with hk1 | hk1
      ·obtain⟨u,v,a1,a2,a3⟩:=hpass k hk1
       rw[hvk]at a1
       rw[hv]at a2
       simp only[Option.some.injEq]at a1 a2
       subst a1 a2
       obtain⟨R,M,f1,f2⟩:=ahy a3 hdk
       exact⟨R,M,f1,f2 _ (.head _),fun _ q hq=>f2 q (.tail _ hq)⟩
      ·have hkm:k∈l1'++i::l2:=by simp[hk1]
       have hkn:=c1.left.lt k hkm
       have hkl:listed.getD k false=true:=lD c1.left.closed (hok.path i k hd) fun o' ho'=>by
        rw[ho]at ho'
        simp only[Option.some.injEq]at ho'
        subst ho'
        exact hready
       have hif:listed.getD i false=false:=by rw[←iH hsz];exact hil
       have hpw:=(List.pairwise_cons.1 (List.pairwise_append.1 c1.left.pair).2.1).1 k hk1
       rcases hpw with (h | ⟨u,v,a1,a2,a3⟩) | h
       ·have:=lD c1.left.closed (hok.path k i h) fun o' ho'=>c1.left.closed k o' hkl ho'
        rw[hif]at this;simp at this
       ·rw[hvk]at a2
        rw[hv]at a1
        simp only[Option.some.injEq]at a1 a2
        subst a1 a2
        obtain⟨R,M,f1,f2⟩:=Tf a3 hdk
        exact⟨R,M,f1,f2 _ (.head _),fun _ q hq=>f2 q (.tail _ hq)⟩
       ·have hii:=h.2.1 i hvl hd
        have:=lD c1.left.closed (hok.path i i hii) fun o' ho'=>by
         rw[ho]at ho'
         simp only[Option.some.injEq]at ho'
         subst ho'
         exact hready
        rw[hif]at this;simp at this
     ·obtain⟨R,M,f1,f2,f3⟩:=hd
      refine⟨R,M,f1,f2,fun hkl=>f3.resolve_left fun hki=>?_⟩
      have hif:listed.getD i false=false:=by rw[←iH hsz];exact hil
      have:=lD c1.left.closed (hok.path k i hki) fun o' ho'=>c1.left.closed k o' hkl ho'
      rw[hif]at this;simp at this
    refine agx (ro:=ro) hr hcs c1.n c1.s h3 (hok.vi i _ o hv ho) ds _ Q fun t' w' g2 O2 G hT=>?_
    refine ih (rem:=l1'++l2) (pd:=pd') ⟨⟨c1.left.pair.sublist hsub,hnd.sublist hsub,fun k hk=>c1.left.lt k (hsub.subset hk),by simp[c1.left.size],fun k hk=>?_,fun k b hk=>?_,hclosed⟩,by rw[G.size,c1.n],G.st,fun k hk u d hvk hdk hlk=>?_,fun k B hk=>?_,c1.disj,c1.base.trans G,fun k B hk b hb=>?_,c1.le0,h2⟩ ?_
    ·have hold:=c1.left.mem k hk
     rw[OE hsz]
     by_cases e:i=k
     ·subst e
      simp only[if_true,Bool.true_eq_false,hpdi,Option.isSome_none,Bool.false_eq_true,or_self,iff_false]
      intro hm
      rcases List.mem_append.1 hm with h | h
      ·exact hn1 h
      ·exact hn2 h
     ·simp only[e,if_false]
      rw[←hold]
      simp only[List.mem_append,List.mem_cons]
      constructor
      ·rintro (h | h)
       ·exact .inl h
       ·exact .inr (.inr h)
      ·rintro (h | h | h)
       ·exact .inl h
       ·exact absurd h.symm e
       ·exact .inr h
    ·have:=c1.left.pdl k b hk
     refine⟨this.1,?_⟩
     rw[OE hsz]
     split
     ·rfl
     ·exact this.2
    ·have h0:=c1.abs k (hsub.subset hk) u d hvk hdk hlk
     obtain⟨R,M,f1,f2,_⟩:=hapart k hk hlk u d hvk hdk
     obtain⟨e1,hs1'⟩:=st1
     have:=(qq f1 e1 hs1' st2 h3).2.1 d f2
     rw[this];exact h0
    ·have hki:i≠k:=fun e=>by rw[←e,hpdi]at hk;simp at hk
     have hkm:k∈l1'++i::l2:=(c1.left.mem k (c1.left.pdl k B hk).1).2 (.inr (by rw[hk];rfl))
     have hkm':k∈l1'++l2:=by
      rcases List.mem_append.1 hkm with h | h
      ·exact List.mem_append_left _ h
      ·rcases List.mem_cons.1 h with h | h
       ·exact absurd h.symm hki
       ·exact List.mem_append_right _ h
     have q:=c1.pend k B hk
     obtain⟨u,d,y,h1,h4,h5,h6⟩:=q.it
     obtain⟨R,M,f1,f0,f2⟩:=hapart k hkm' q.late u d h1 h6.dst
     have f2:=f2 (c1.left.pdl k B hk).2
     have hdd:vs[i].dst≠some d:=fun e=>f0 (vL f1 e)
     refine⟨q.late,fun b hb=>Nat.lt_of_lt_of_le (q.hi b hb) G.ext.size,fun b=>?_,u,d,y,h1,by rw[G.size];exact h4,(hT d hdd).trans h5,h6.keep G.ext (fun b hb=>⟨q.hi b hb,fun h=>by have:=q.le b;omega⟩) fun p hp=>?_⟩
     ·by_cases hb:b<w.heap.size
      ·have:=q.le b;have:=G.old b hb;omega
      ·have:B b=0:=by
        by_cases h:B b=0
        ·exact h
        ·exact absurd (q.hi b h) hb
       have:=G.st.le b;omega
     ·obtain⟨e1,hs1'⟩:=st1
      exact(qq f1 e1 hs1' st2 h3).2.1 p (f2 p hp)
    ·have:=c1.old k B hk b hb
     have:=G.old b (Nat.lt_of_lt_of_le hb c1.base.ext.size)
     omega
    ·
     exact hcount hrem hfl hn1 hn2
theorem NT {e:ak}:∀ {vs:List VI},lM e vs=true→∀ (i:Nat) (v:VI) (d:Nat),vs[i]?=some v→dr v=some d→get e d=none
 | [],_,i,v,d,h,_=>by simp at h
 | u::r,hl,i,v,d,h,hd=>by
  simp only[lM,Bool.and_eq_true]at hl
  cases i with
  | zero =>
   simp only[List.getElem?_cons_zero,Option.some.injEq]at h
   subst h
   have h1:=hl.1
   rw[hd]at h1
   simp only at h1
   cases hg:get e d with
   | none=>rfl
   | some x=>rw[hg]at h1;simp at h1
  | succ i =>
   simp only[List.getElem?_cons_succ]at h
   exact NT hl.2 i v d h hd
theorem akI {g:Gh}{w:World}{t:Array Value}{O:Nat→Nat}{st st':St}{ro:Option Nat}(hr:dO P r) (hcs:d8 P r) {n:Nat}{ops:Array Oper}{gco nr:List Nat}{vs:List VI}{perm:List Nat}(ds:List Deferred) (h:Ab P n ops perm gco nr vs=true) {Q:Exit→Act→World→Prop}{id:Nat}(hn:t.size=n)
  (s:S P g w st t O) (habs:lM st.env vs=true) (hrun:cL r nr vs perm [] st=some st') (hq:∀ w' t' g' O',dM P g w t O st' t' w' g' O'→Q .normal ⟨t',ds⟩ w'):(Code.region id ops true).wpIn (FR ro) 0 P Q ⟨t,ds⟩ w:=by
 have hok:=apg h
 refine wpIn_region_draw fun tt=>?_
 have hx:aE g w g w.drew fun _=>False:=aE.drew _ _ _
 have sd:=s.extF hx rfl s.pmlt
 have hleft:∀ m,ank ops nr vs (zn ops perm []) m (Array.replicate ops.size false) perm (fun _=>none):=fun m=>by
  refine⟨hok.pair,hok.nd,hok.lt,by simp,fun i hi=>?_,fun i b hi=>by simp at hi,fun i o hi=>?_⟩
  ·have:=hok.all i hi
   simp[hi,Array.getD,this]
  ·simp[Array.getD]at hi
 have hlen:(perm.filter fun i=>!(Array.replicate ops.size false).getD i true).length=ops.size:=by
  have h0:(perm.filter fun i=>!(Array.replicate ops.size false).getD i true)=perm:=List.filter_eq_self.2 fun i hi=>by
   have:=hok.lt i hi
   simp[Array.getD,this]
  have h1:perm.Perm (List.range ops.size):=by
   refine(List.perm_ext_iff_of_nodup hok.nd List.nodup_range).2 fun x=>?_
   rw[List.mem_range]
   exact⟨hok.lt x,hok.all x⟩
  rw[h0,h1.length_eq];simp
 have key:∀ m tt,wpOpsIn (FR ro) 0 P ops Q (Region.linearise m ops tt) ⟨t,ds⟩ w.drew:=fun m tt =>
  aph (ro:=ro) (m:=m) hr hcs hok ds (g0:=g) (w0:=w.drew) (t0:=t) (O0:=O) (st':=st') (fun w' t' g' O' G=>hq _ _ _ _ ⟨G.st,(hx.mono (T:=fun b=>O b≠0) fun _ _ h=>h.elim).trans G.ext fun _ _ h=>h,G.old,G.size⟩)
   ⟨hleft m,hn,sd,fun i hi v d hv hd _=>NT habs i v d hv hd,fun i b hi=>by simp at hi,fun i j A B _ hi=>by simp at hi,dM.refl sd,fun i b hi=>by simp at hi,sd.le,hrun⟩ hlen
 unfold Region.schedule
 split
 ·exact key _ _
 ·exact key _ _
end
end Go.Vm
end
