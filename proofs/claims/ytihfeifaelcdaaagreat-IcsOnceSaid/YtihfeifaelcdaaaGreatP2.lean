import GoSem.ClaimChange
import Derived.WalkKit
import Derived.ProofKit
import Derived.OpenShut
import Derived.JoinedCond
import Derived.ChangeStays
import Derived.ChangeBook
import Derived.Test.YtihfeifaelcdaaaGreatP1
set_option linter.unusedVariables false
set_option linter.unusedSimpArgs false
noncomputable section
namespace Go.Vm
set_option maxRecDepth 100000
section
variable {P:Program}{g:Gh}{w:World}{t:Array Value}{O:Nat→Nat}{st st':St}{a:AV}{o:Oper}{r:bC}
theorem akK:∀ {vs:List AV}{i:Nat},∀ p∈fX i vs,i≤p.1
 | [],_,p,hp=>by simp[fX]at hp
 | v::vs,i,p,hp=>by
  rcases ad0 hp with rfl | hp
  ·omega
  ·have:=akK p hp;omega
theorem Lx:∀ (vs:List AV) (i:Nat),be (fX i vs)
 | [],_=>List.Pairwise.nil
 | v::vs,i=>(Lx vs (i+1)).put _ _
theorem aoF {t:Array Value}{i:Nat}{x:Value}(h:t[i]?=some x):i<t.size:=by
 grind
theorem aeC {t:Array Value}:∀ {vs:List AV}{xs:List Value}{i:Nat}{Ov:Nat→Nat},RVs g w vs xs Ov→(∀ (j:Nat) (x:Value),xs[j]?=some x→t[i+j]?=some x)→fP g w (fX i vs) t Ov
 | [],xs,i,Ov,rv,_=>by exact rv.2
 | v::vs,xs,i,Ov,rv,ht=>by
  obtain⟨x,ys,O1,O2,rfl,r1,r2,hs⟩:=rv;have h0:t[i]?=some x:=ht 0 x rfl;have rr:=aeC (t:=t) (i:=i+1) r2 fun j y hj=>by have:=ht (j+1) y (by simp_all);grind
  rw[←lc (l:=fX (i+1) vs) (i:=i) fun p hp=>by have:=akK p hp;omega]at rr;obtain⟨O,ro,ho⟩:=RL.put (Lx vs (i+1)) rr (i:=i) (x:=v) (O1:=O1) ⟨aoF h0,by simp_all⟩;have e:O=Ov:=funext fun b=>by simp_all
  exact e▸ro
theorem avf {args:List AV}{hs:HS}{xs:List Value}{Oa Oh:Nat→Nat}(rv:RVs g w args xs Oa) (sh:S P g w ⟨[],hs⟩ #[] Oh) (hle:∀ b,Oa b+Oh b≤1) (hhi:∀ b,Oa b≠0→b<w.heap.size) (n:Nat) :
  S P g w ⟨fX 0 args,hs⟩ (xs.toArray++Array.replicate n undef) fun b=>Oa b+Oh b:=by
 refine S.join (Lx _ _) (aeC rv fun j x hj=>?_) sh hle hhi
 grind
theorem aH.deferBlk {b:Nat}{ds ds':Option (List Deferred)}(hb:w.heap[b]?=some (.deferred ds)):aH g w g (Vm.setBlk w b (.deferred ds')) fun x=>x=b where
 obj _ _ h:=⟨h,rfl,rfl,rfl⟩
 pm b' o h:=⟨h,by
  grind [World.cell?,b9,dP]⟩
 blk b' _ h:=⟨dP h,fun _ h=>h⟩
 size:=by simp
 lp b' r h:=⟨r,by grind [dP]⟩
 same:=⟨rfl,rfl,qo hb (by grind [dx]) (by grind [dx])⟩
theorem CL {b:Nat}(h:w.heap[b]?=some (.deferred (some []))):(Instr.takeDeferred b).run P w=.ok [] (setBlk w b (.deferred none)):=by
 simp_all [Instr.takeDeferred,getObj,setObj,Sem.run,setBlk]
theorem W7 {ro:Option Nat}{fn:Func}{tmps:Array Value}{R:Ending→World→Prop}{lo:Nat}:∀ {ms:List Deferred}{w:World},fy w O lo ms→S P g w st t O→
  (∀ w',S P g w' st t O→aH g w g w' (fun b=>lo≤b)→∃ v,(results fn tmps).run P w'=.ok v w'∧R (.returned v) w')→LeavesInM (FR ro) 0 P fn tmps R ms .returning w
 | [],w,_,s,h=>h w s (.refl _ _ _)
 | d::ds,w,⟨⟨r,h1,h2,h3,h4,h5⟩,h6⟩,s,h=>by
  refine⟨by simp,.inl ⟨r,setBlk w r (.deferred none),h1,CL h3,?_⟩⟩;have hx:aH g w g (setBlk w r (.deferred none)) fun x=>x=r:=aH.deferBlk h3
  have hm:fy (setBlk w r (.deferred none)) O lo ds:=by
   have:∀ {es:List Deferred},(∀ d'∈es,∀ r',d'.target=.collected r'→r'<r)→fy w O lo es→fy (setBlk w r (.deferred none)) O lo es:=by
    intro es
    induction es with
    | nil=>exact fun _ _=>trivial
    | cons e es ih =>
     rintro hlt ⟨⟨q,k1,k2,k3,k4,k5⟩,k6⟩
     have:=hlt e (.head _) q k1;exact⟨⟨q,k1,k2,by grind [dP],k4,k5⟩,ih (fun d' hd'=>hlt d' (.tail _ hd')) k6⟩
   grind
  exact W7 hm (s.otherG hx h4) fun w' s' hx'=>h w' s' ((hx.mono (T:=fun b=>lo≤b) fun b _ e=>by omega).trans hx' fun _ _ h=>h)
def Za (t:Array Value):ResultVar→Sem Value
 | .tmp i=>pure (t.getD i undef)
 | .cell i ty=>do loadVar ty (←asAddr (t.getD i undef))
theorem Zs (fn:Func) (t:Array Value):results fn t=(do let vs←fn.results.mapM (Za t);pure (if h:vs.size=1 then vs[0] else .tuple vs)):=by
 congr 1
theorem akX {α:Type}{f:α→Sem Value}{l:Array α}{xs:List Value}(h:(l.toList.mapM f).run P w=.ok xs w):(l.mapM f).run P w=.ok xs.toArray w:=by
 simp_all [Array.mapM_eq_mapM_toList]
theorem w6:∀ {vr:List mb}{fr:List ResultVar},ib P vr fr=true→∀ {st st':St}{O:Nat→Nat}{vs:List AV},cQ st vr=some (vs,st')→S P g w st t O→
  ∃ xs:List Value,∃ Ov O',(fr.mapM (Za t)).run P w=.ok xs w∧RVs g w vs xs Ov∧S P g w st' t O'∧(∀ b,Ov b+O' b≤O b)∧
   xs.length=fr.length
 | [],[],_,st,st',O,vs,h,s=>by
  obtain⟨rfl,rfl⟩:=h;exact⟨[],zero,O,by simp,by simp[RVs],s,fun b=>by simp,rfl⟩
 | .tmp i::vr,.tmp j::fr,hc,st,st',O,vs,h,s=>by
  simp only[ib,Bool.and_eq_true,Nat.beq_eq]at hc;obtain⟨rfl,hc⟩:=hc;simp only[cQ]at h;split at h
  ·rename_i v hv;split at h
   ·rename_i us st1 hr;obtain⟨rfl,rfl⟩:=h;obtain⟨O1,O2,_,rv,s2,l2⟩:=s.pull hv;obtain⟨xs,O3,O4,hrun,rvs,s4,l4,hlen⟩:=w6 hc hr s2;refine⟨t.getD i undef::xs,fun b=>O1 b+O3 b,O4,?_,?_,s4,fun b=>by grind,by simp_all⟩
    ·simp_all [Za]
    grind [RVs]
   simp_all
  simp_all
 | .cell i n::vr,.cell j ty::fr,hc,st,st',O,vs,h,s=>by
  simp only[ib,Bool.and_eq_true,Nat.beq_eq]at hc;obtain⟨⟨rfl,hty⟩,hc⟩:=hc;simp only[cQ]at h;split at h
  ·rename_i id hv;split at h
   ·rename_i v h' hl;split at h
    ·rename_i us st1 hr;obtain⟨rfl,rfl⟩:=h;obtain⟨O0,O00,_,rp,_,_⟩:=s.pull hv;obtain⟨⟨b,hob,hp⟩,_⟩:=rp;obtain⟨x,O1,O2,hrun1,rv,s2,l2⟩:=Vr hty s hob hl;obtain⟨O5,s5,l5⟩:=s2.delEnv i;obtain⟨O6,s6,l6⟩:=s5.delHeap id;obtain⟨xs,O3,O4,hrun,rvs,s4,l4,hlen⟩:=w6 hc hr s6;refine⟨x::xs,fun b=>O1 b+O3 b,O4,?_,?_,s4,fun b=>by grind,by simp_all⟩
     ·simp_all [Za,asAddr]
     grind [RVs]
    simp_all
   simp_all
  simp_all
 | [],_::_,hc,_,_,_,_,_,_=>by simp[ib]at hc
 | _::_,[],hc,_,_,_,_,_,_=>by simp[ib]at hc
 | .tmp _::_,.cell _ _::_,hc,_,_,_,_,_,_=>by simp[ib]at hc
 | .cell _ _::_,.tmp _::_,hc,_,_,_,_,_,_=>by simp[ib]at hc
theorem akP {vf:ae}{fn:Func}(hc:ib P vf.results fn.results.toList=true) {v:AV}{hs':HS}(h:zo vf st=some (v,hs')) (s:S P g w st t O) :
  ∃ x Ov Oh,(results fn t).run P w=.ok x w∧RV g w v x Ov∧S P g w ⟨[],hs'⟩ #[] Oh∧∀ b,Ov b+Oh b≤O b:=by
 unfold zo at h;split at h
 ·rename_i v1 st1 hr;obtain⟨rfl,rfl⟩:=h;obtain⟨xs,Ov,O',hrun,rvs,s',l,hlen⟩:=w6 hc hr s;obtain⟨x,ys,O1,O2,rfl,rv,⟨rfl,_⟩,hs2⟩:=rvs;obtain⟨Oe,Oh,_,sh,ho⟩:=s'.split;refine⟨x,O1,Oh,?_,rv,sh,fun b=>by grind⟩
  simp_all [Zs,akX]
 ·rename_i vs st1 hne hr;obtain⟨rfl,rfl⟩:=h;obtain⟨xs,Ov,O',hrun,rvs,s',l,hlen⟩:=w6 hc hr s;obtain⟨Oe,Oh,_,sh,ho⟩:=s'.split;refine⟨.tuple xs.toArray,Ov,Oh,?_,by grind [RV],sh,fun b=>by grind⟩;have hl1:xs.length≠1:=by
   intro h1;have h2:=rvs.length;rw[h1]at h2
   match vs,h2 with
   | [v],_=>grind
  simp_all [Zs,akX]
 simp_all
end
section
variable {P:Program}{g:Gh}{w:World}{t:Array Value}{O:Nat→Nat}{st st':St}{a:AV}{o:Oper}{r:bC}
theorem kq {ro:Option Nat}{ops:Array Oper}{Q:Exit→Act→World→Prop}{i:Nat}{rest:List Nat}{ds:List Deferred}{v:Value}{w':World}(h:ops[i]?=some o) (hg:o.guard=none)
  (hd:∀ c,o.op≠.defer c) (hrun:(execOp (ev t) o).run P w=.ok (.value v) w') (hk:wpOpsIn (FR ro) 0 P ops Q rest ⟨om t o.dst v,ds⟩ w'):wpOpsIn (FR ro) 0 P ops Q (i::rest) ⟨t,ds⟩ w:=by
 simp only[wpOpsIn,h];rw[if_pos (by grind [Region.wanted])];refine⟨fun _ _=>trivial,?_⟩
 grind [IQ,Oper.uponIn_value,Y5]
theorem qO {d:Nat}(h:Ew o d=true):o.dst=some d∧o.guard=none:=by
 grind [Ew,Nat.beq_eq,Option.isNone_iff_eq_none]
theorem W0 {x:Operand}(h:Yf x=true):x=.const (.slice none 0 0):=by
 grind [Yf]
theorem nN {i:Nat}{x:Operand}(h:xe i x=true):x=.tmp i:=by
 unfold xe at h;grind [Nat.beq_eq]
theorem aDv {α:Type}{r:Array α}{x:α}(h:r.toList=[x]):r=#[x]:=by
 grind
theorem YP {d:Nat}{r:Array Oper}(h:Ze d r.toList=true):∃ o,r=#[o]∧o.dst=some d∧o.guard=none∧o.op=.assign (.const (.slice none 0 0)):=by
 unfold Ze at h
 grind [qO,W0]
theorem anU {m:Nat}{r:Array Oper}(h:ais P m r.toList=true):∃ a b T u,r=#[a,b]∧a.dst=some 3∧a.guard=none∧a.op=.move (.tmp 0)∧b.dst=some 4∧b.guard=none∧
  b.op=.binOp .eql T (.tmp 3) (.const (.slice none 0 0)) u∧dY P T m=true:=by
 unfold ais at h
 grind [qO,nN,W0]
theorem apv {m:Nat}{r:Array Oper}(h:aiB P m r.toList=true):∃ a b c d T ats e',r=#[a,b,c,d]∧a.dst=some 5∧a.guard=none∧a.op=.buildSlice T 0 #[]∧dY P T m=true∧
  b.dst=some 6∧b.guard=none∧b.op=.move (.tmp 0)∧c.dst=some 7∧c.guard=none∧c.op=.call ⟨.builtin .append,#[.tmp 5,.tmp 6],ats⟩∧ats=#[lL ⟨.builtin .append,#[.tmp 5,.tmp 6],ats⟩,ats.getD 1 0]∧
  dY P (lL ⟨.builtin .append,#[.tmp 5,.tmp 6],ats⟩) m=true∧iK P (lL ⟨.builtin .append,#[.tmp 5,.tmp 6],ats⟩) m=true∧P.underlying (ats.getD 1 0)=some (.slice e')∧
  d.dst=some 2∧d.guard=none∧d.op=.assign (.tmp 7):=by
 unfold aiB at h;split at h
 ·rename_i a b c d e;simp only[Bool.and_eq_true]at h;obtain⟨⟨⟨⟨⟨⟨⟨h1,h2⟩,h3⟩,h4⟩,h5⟩,h6⟩,h7⟩,h8⟩:=h;obtain⟨k1,k2⟩:=qO h1;obtain⟨k3,k4⟩:=qO h3;obtain⟨k5,k6⟩:=qO h5;obtain⟨k7,k8⟩:=qO h7;split at h2
  ·rename_i T ps hops;simp only[Bool.and_eq_true]at h2;split at h4
   ·split at h6
    ·rename_i k hk;obtain⟨callee,args,ats⟩:=k;simp only[Bool.and_eq_true]at h6;obtain⟨⟨⟨⟨⟨q1,q2⟩,q3⟩,q4⟩,q5⟩,q6⟩:=h6;have:=ko q1;subst this;split at q6
     ·simp only[Bool.and_eq_true]at q6;have e1:=nN q6.1;have e2:=nN q6.2;have:args=#[.tmp 5,.tmp 6]:=by grind
      subst this;split at q5
      ·rename_i e' he';split at h8
       ·exact⟨a,b,c,d,T,ats,e',by grind,k1,k2,by simp_all,h2.1,k3,k4,by grind [nN],k5,k6,hk,Dw q2,q3,q4,he',k7,k8,by grind [nN]⟩
       simp_all
      simp_all
     simp_all
    simp_all
   simp_all
  simp_all
 simp_all
theorem kD {i j:Nat}{v:Value}(h:j<t.size):(t.setIfInBounds i v).getD j undef=if i=j then v else t.getD j undef:=by
 simp only[Array.getD_eq_getD_getElem?,Array.getElem?_setIfInBounds]
 grind
theorem aoC {m:Nat}{c:Code}(hc:Jf P m c=true) {out:aX}(h:FN m st=some (out,st')) (ht:8≤t.size) (s:S P g w st t O) :
  c.wpIn (FR none) 0 P (aU P g w t O [] none out st') ⟨t,[]⟩ w:=by
 unfold Jf at hc;split at hc
 ·rename_i i0 r0 i1 r1 i2 r2 i3 r3;simp only[Bool.and_eq_true]at hc;obtain⟨⟨⟨c0,c1⟩,c2⟩,c3⟩:=hc;obtain⟨o0,rfl,d0,gd0,p0⟩:=YP c0;obtain⟨o1,o2,T,u,rfl,d1,gd1,p1,d2,gd2,p2,hT⟩:=anU c1;obtain⟨o3,rfl,d3,gd3,p3⟩:=YP c2;obtain⟨o4,o5,o6,o7,T4,ats,e',rfl,d4,gd4,p4,hT4,d5,gd5,p5,d6,gd6,p6,hats,hT6,hz6,hu1,d7,gd7,p7⟩:=apv c3;unfold FN at h;split at h
  ·rename_i v hv;split at h
   ·rename_i xs hxs;split at h
    ·rename_i hb;simp only[Bool.and_eq_true,Nat.ble_eq]at hb;obtain⟨hok,hmost⟩:=hb;simp only[Option.some.injEq,Prod.mk.injEq]at h;obtain⟨rfl,rfl⟩:=h;have hl:=ET hok;obtain⟨Ov,O1,h0t,rv,s1,l1⟩:=s.pull hv;obtain⟨ad,cap,news0,hx,hels0⟩:=sy s hxs hl rv;obtain⟨Oe,Oh,_,sh,ho⟩:=s.split;generalize hX:t.getD 0 undef=X at *;obtain⟨el,hu,hsz,hm,hby⟩:=dM hT;have fin:∀ (t':Array Value) (w':World) (g':Gh) (Or O':Nat→Nat),t'.size=t.size→RV g' w' (.own true m xs) (t'.getD 2 undef) Or→S P g' w' ⟨[],st.hs⟩ #[] O'→aH g w g' w' (fun b=>O b≠0)→
       (∀ b,Or b+O' b≤1)→(∀ b,b<w.heap.size→Or b+O' b≤O b)→(∀ b,Or b≠0→b<w'.heap.size)→aU P g w t O [] none .ret ⟨[(2,.own true m xs)],st.hs⟩ .ret ⟨t',[]⟩ w':=by
      intro t' w' g' Or O' hsz' rv' s' hx' hle hold hhi;refine⟨rfl,g',fun b=>Or b+O' b,[],⟨S.join (by simp[be]) ⟨Or,zero,⟨by grind,rv'⟩,fun _=>rfl,fun b=>by simp⟩ s' hle hhi,hx',hold,hsz'⟩,rfl,trivial,fun _=>rfl⟩
     have nodef:∀ {op:Op}{op':Op},op=op'→(∀ c,op'≠.defer c)→∀ c,op≠.defer c:=fun e h c e2=>h c (e▸e2)
     refine wpIn_seq (wpIn_region ?_);show wpOpsIn _ _ _ _ _ [0] _ _;refine kq (o:=o0) (v:=.slice none 0 0) (w':=w) rfl gd0 (nodef p0 (by simp)) (by simp[execOp,p0,ev]) ?_;refine wpIn_seq (wpIn_seq (wpIn_region ?_));show wpOpsIn _ _ _ _ _ [0,1] _ _;have hev0:ev (om t (some 2) (.slice none 0 0)) (.tmp 0)=X:=by
      show (t.setIfInBounds 2 _).getD 0 undef=X
      grind [kD]
     rw[d0];refine kq (o:=o1) (v:=X) (w':=w) rfl gd1 (nodef p1 (by simp)) (by simp[execOp,p1,hev0]) ?_;rw[d1];generalize ht2:om (om t (some 2) (.slice none 0 0)) (some 3) X=t2;have hs2:t2.size=t.size:=by grind [j8]
     have hev3:ev t2 (.tmp 3)=X:=by
      rw[←ht2];show ((om t (some 2) (.slice none 0 0)).setIfInBounds 3 X).getD 3 undef=X
      grind [kD,j8]
     have heq:(Op.equal T X (.slice none 0 0)).run P w=.ok ad.isNone w:=by
      show (Op.equalIn (9999+1) T X (.slice none 0 0)).run P w=_;rw[hx];unfold Op.equalIn;rw[Sem.run_bind,ar hu]
      cases ad<;>simp
     have hguard:(eqGuard .eql T (.tmp 3) (.const (.slice none 0 0)) X (.slice none 0 0)).run P w=.ok () w:=by
      rw[hx];unfold eqGuard;simp
     refine kq (o:=o2) (v:=.bool ad.isNone) (w':=w) rfl gd2 (nodef p2 (by simp)) ?_ ?_
     ·simp only[execOp,p2,hev3];have hc:ev t2 (.const (.slice none 0 0))=.slice none 0 0:=rfl;rw[hc,Sem.run_bind,Sem.run_bind,hguard];have hbin:(binOp .eql T X (.slice none 0 0)).run P w=.ok (.bool ad.isNone) w:=by
       rw[hx];rw[hx]at heq;show ((do pure (.bool (←Op.equal T (.slice ad xs.length cap) (.slice none 0 0))):Sem Value)).run P w=_;rw[Sem.run_bind,heq];rfl
      grind [Result.andThen_ok,Sem.run_pure]
     ·rw[d2];generalize ht3:om t2 (some 4) (.bool ad.isNone)=t3;have hs3:t3.size=t.size:=by grind [j8]
      have hev4:ev t3 (.tmp 4)=.bool ad.isNone:=by
       rw[←ht3];show (t2.setIfInBounds 4 _).getD 4 undef=_
       grind [kD]
      have hev03:ev t3 (.tmp 0)=X:=by
       rw[←ht3,←ht2];show (((t.setIfInBounds 2 _).setIfInBounds 3 _).setIfInBounds 4 _).getD 0 undef=X
       grind [kD]
      show (Code.cond (.tmp 4) (.seq (.region i2 #[o3] false) .ret) .skip).wpIn (FR none) 0 P _ ⟨t3,[]⟩ w
      cases had:ad with
      | none =>
       refine wpIn_cond_true (by rw[AG,hev4,had];rfl) (wpIn_seq (wpIn_region ?_));show wpOpsIn _ _ _ _ _ [0] _ _;refine kq (o:=o3) (v:=.slice none 0 0) (w':=w) rfl gd3 (nodef p3 (by simp)) (by simp[execOp,p3,ev]) (wpIn_ret ?_);rw[d3];have hnil:xs=[]:=List.eq_nil_of_length_eq_zero (hels0.nn had);refine fin _ w g zero Oh (by rw[j8,hs3]) ?_ sh (.refl _ _ _) (fun b=>by have:=ho b;have:=s.le b;grind) (fun b _=>by grind) (fun b hb=>by simp at hb);have:(om t3 (some 2) (.slice none 0 0)).getD 2 undef=.slice none 0 0:=by
        show (t3.setIfInBounds 2 _).getD 2 undef=_
        grind [kD]
       grind [RV,vI]
      | some ad' =>
       refine wpIn_cond_false (by rw[AG,hev4,had];rfl) (wpIn_skip ?_);refine wpIn_seq (wpIn_region ?_);show wpOpsIn _ _ _ _ _ [0,1,2,3] _ _;obtain⟨el4,hu4,hsz4,hm4,hby4⟩:=dM hT4;have hbuild:(Instr.buildSlice T4 0 #[]).run P w=.ok (.slice (some ⟨w.heap.size,0,none⟩) 0 0) (w.alloc (.cells #[] el4)):=by
        have hr:∀ f:Nat→Value,(Array.range (0*m)).map f=#[]:=by
         grind
        simp only[Instr.buildSlice,ar hu4,b7 hsz4,Sem.run_bind,Result.andThen_ok,Sem.run_ite,Instr.fill,Nat.zero_mul,if_true,Sem.run_pure];have hr0:∀ f:Nat→Value,(Array.range 0).map f=#[]:=by
         grind
        simp[newRow,hr0]
       refine kq (o:=o4) (v:=.slice (some ⟨w.heap.size,0,none⟩) 0 0) (w':=w.alloc (.cells #[] el4)) rfl gd4 (nodef p4 (by simp)) (by simp[execOp,p4,hbuild]) ?_;rw[d4];generalize ht5:om t3 (some 5) (.slice (some ⟨w.heap.size,0,none⟩) 0 0)=t5;have hs5:t5.size=t.size:=by grind [j8]
       have hev05:ev t5 (.tmp 0)=X:=by
        rw[←ht5];show (t3.setIfInBounds 5 _).getD 0 undef=X;rw[kD (by omega),if_neg (by omega)];exact hev03
       refine kq (o:=o5) (v:=X) (w':=w.alloc (.cells #[] el4)) rfl gd5 (nodef p5 (by simp)) (by simp[execOp,p5,hev05]) ?_;rw[d5];generalize ht6:om t5 (some 6) X=t6;have hs6:t6.size=t.size:=by grind [j8]
       have hev66:ev t6 (.tmp 6)=X:=by
        rw[←ht6];show (t5.setIfInBounds 6 _).getD 6 undef=X
        grind [kD]
       have hev65:ev t6 (.tmp 5)=.slice (some ⟨w.heap.size,0,none⟩) 0 0:=by
        rw[←ht6,←ht5];show ((t3.setIfInBounds 5 _).setIfInBounds 6 _).getD 5 undef=_
        grind [kD]
       have hx1:aH g w g (w.alloc (.cells #[] el4)) fun _=>False:=aH.alloc s.pmlt _ _
       have hpl:∀ b o,g.pm b o→b<(w.alloc (.cells #[] el4)).heap.size:=fun b o h=>Nat.lt_of_lt_of_le (s.pmlt b o h) hx1.size
       have sx:=s.extF hx1 rfl hpl;have shx:=sh.extF hx1 rfl hpl;have rvx:=RV.ext hx1 _ _ _ rv (by simp);obtain⟨ad2,cap2,news,hxx,hels⟩:=sy sx hxs hl rvx;rw[hx,had]at hxx;simp only[Value.slice.injEq,true_and]at hxx;obtain⟨rfl,rfl⟩:=hxx;obtain⟨el6,hu6,hsz6,hm6,hby6⟩:=dM hT6;obtain⟨el6',i6,zv,hu6',hi,hz,hzs⟩:=kE hz6;rw[hu6]at hu6';simp only[Option.some.injEq,TypeDesc.slice.injEq]at hu6';subst hu6';rw[Fe hi]at hby6;generalize lL ⟨.builtin .append,#[.tmp 5,.tmp 6],ats⟩=T0 at *;generalize ats.getD 1 0=T1 at *;have hsrc:VZ P (w.alloc (.cells #[] el4)) T1 X el6 m xs.length news:=by
        refine⟨hels.len,hels.one,.inl ⟨⟨e',hu1⟩,⟨ad,cap,hx⟩,fun w1 hw=>?_⟩⟩;have:=hels.first (P:=P) (len:=xs.length) (cap:=cap) (Nat.le_refl _) hw
        rw[←hels.len,List.take_length,←had,←hx]at this;exact this
       have hmost':xs.length≤4294967296:=hmost;have hApp:mc P g (w.alloc (.cells #[] el4)) #[] Oh zero ⟨[],st.hs⟩ (.own true m xs) ((Builtin.append_ #[T0,T1] o6.type #[.slice (some ⟨w.heap.size,0,none⟩) 0 0,X]).run P (w.alloc (.cells #[] el4))):=by
        by_cases hxs0:xs.length=0
        ·have hnil:news=[]:=List.eq_nil_of_length_eq_zero (by grind [tA.len]);have hxn:xs=[]:=List.eq_nil_of_length_eq_zero hxs0;have hrun:=um (P:=P) (w:=w.alloc (.cells #[] el4)) (ty:=o6.type) hu6 hi (IX hsz6 hi) hm6 hby6 hmost' hsrc (base:=some ⟨w.heap.size,0,none⟩) (sLen:=0) (sCap:=0) (by omega);refine⟨.slice (some ⟨w.heap.size,0,none⟩) 0 0,w.alloc (.cells #[] el4),g,zero,Oh,?_,?_,shx,.refl _ _ _,fun b=>by have:=shx.le b;simp_all,fun b _=>by simp,fun b hb=>by simp at hb⟩
         ·simp_all [storeCells]
         simp_all [RV,vI]
        ·have:=RE (Oa:=zero) (xs:=[]) (base:=some ⟨w.heap.size,0,none⟩) (sCap:=0) (olds:=[]) (ty:=o6.type) shx hu6 hi hz hzs (IX hsz6 hi) hm6 hby6 hsrc hels.rd (fun e he=>by simp at he) hl (by simp)
          (fun j d h=>by simp at h) (fun w1 _=>mV m _ 0 0 w1) (by simp_all) (by omega)
         simp_all
       obtain⟨vv,w2,g2,Or,O2,k1,k2,k3,k4,k5,k6,k7⟩:=hApp;refine kq (o:=o6) (v:=vv) (w':=w2) rfl gd6 (nodef p6 (by simp)) ?_ ?_
       ·simp_all [execOp,resolve,invoke,builtin]
       ·rw[d6];generalize ht7:om t6 (some 7) vv=t7;have hs7:t7.size=t.size:=by grind [j8]
        have hev77:ev t7 (.tmp 7)=vv:=by
         rw[←ht7];show (t6.setIfInBounds 7 _).getD 7 undef=vv
         grind [kD]
        refine kq (o:=o7) (v:=vv) (w':=w2) rfl gd7 (nodef p7 (by simp)) (by simp_all [execOp]) (wpIn_ret ?_);have hle1:w.heap.size≤(w.alloc (.cells #[] el4)).heap.size:=hx1.size;refine fin _ w2 g2 Or O2 (by rw[j8,hs7]) ?_ k3 (((hx1.mono (T:=fun b=>O b≠0) fun _ _ h=>h.elim)).trans k4 fun b hb hq=>?_) k5 (fun b hb=>?_) k7
        ·have:(om t7 (some 2) vv).getD 2 undef=vv:=by
          show (t7.setIfInBounds 2 _).getD 2 undef=_
          grind [kD]
         simp_all
        all_goals grind
    grind
   grind
  grind
 simp_all
end
section
variable {P:Program}{F:Fence}{n:Nat}
theorem zi {fn:Func}{tmps:Array Value}{R:Ending→World→Prop}:∀ (ds:List Deferred) (u:FrameMode) (w:World) (fr:Frame)
  (cs:List Frame),fr.mode=u→fr.defers=ds→fr.tmps=tmps→P.funcs[fr.fn]?=some fn→fr.kind=.deferred→F.fn fr.fn→F.room (cs.length+1+n)→LeavesInM F n P fn tmps R ds u w→
  ∃ e w' fr',R e w'∧ComesIn (Machine.fenced P F) P (lone fr cs w) (lone fr' cs w') e∧fr'.fn=fr.fn∧fr'.kind=.deferred∧fr'.going P w' e:=by
 intro ds
 induction ds with
 | nil =>
  intro u w fr cs hu hd ht hf hk _ _ h
  cases u with
  | run=>exact h.elim
  | returning =>
   obtain⟨v,hr,hR⟩:=h;exact⟨.returned v,w,fr,hR,StepsIn.refl _,rfl,hk,hu,hd,fn,hf,ht▸hr⟩
  | panicking chain=>exact⟨.panicked chain,w,fr,h,StepsIn.refl _,rfl,hk,hu,hd,fn,hf⟩
 | cons d ds ih =>
  intro u w fr cs hu hd ht hf hk hb hroom h;obtain⟨hrun,h⟩:=h;rcases h with ⟨r,w',htar,htake,hrest⟩ | ⟨hn,fv,cap,f,args,htar,hinv,hlead,hFf,hcall⟩
  ·have h1:=step_collected (cs:=cs) (hu▸hrun) hd htar htake;have i1:(lone fr cs w).fenced P F:=fenced_out hb hroom (hu▸hrun) hd (fun g hg=>by grind [Target.leads]);obtain⟨e',w'',fr',hR',hs',hfn',hk',hl'⟩:=ih u w' { fr with defers:=[]++ds } cs hu rfl ht hf hk hb hroom hrest;exact⟨e',w'',fr',hR',ComesIn.of_steps (.one i1 h1) hs',hfn',hk',hl'⟩
  ·have h1:=step_defer (cs:=cs) (hu▸hrun) hd htar hinv;have i1:(lone fr cs w).fenced P F:=fenced_out hb hroom (hu▸hrun) hd hlead;have hroom':F.room (({ fr with defers:=ds }::cs).length+1+(n-1)):=Fence.room_enter hroom hn;obtain⟨e,u',w',frX,hR,hsteps,hkX,hfX,hgo⟩:=hcall { fr with defers:=ds } cs hu hroom'
   cases e with
   | outgrown=>exact⟨.outgrown,w',fr,hR,Outgrown.of_steps (.one h1) hsteps,rfl,hk,trivial⟩
   | returned v =>
    have i2:(lone frX ({ { fr with defers:=ds } with mode:=u' }::cs) w').fenced P F:=fenced_going (n:=n-1) (hfX▸hFf) hroom' hgo;have h2:=step_going_returned (c:={ { fr with defers:=ds } with mode:=u' }) (cs:=cs) hkX hgo;obtain⟨e',w'',fr',hR',hs',hfn',hk',hl'⟩:=ih (settle u') w' { { { fr with defers:=ds } with mode:=u' } with mode:=settle u' } cs rfl rfl ht hf hk hb hroom hR;exact⟨e',w'',fr',hR',ComesIn.of_steps (.head i1 h1 (StepsIn.trans hsteps (.one i2 h2))) hs',hfn',hk',hl'⟩
   | panicked chain =>
    have i2:(lone frX ({ { fr with defers:=ds } with mode:=u' }::cs) w').fenced P F:=fenced_going (n:=n-1) (hfX▸hFf) hroom' hgo;have h2:=step_going_panicked (c:={ { fr with defers:=ds } with mode:=u' }) (cs:=cs) hgo;obtain⟨e',w'',fr',hR',hs',hfn',hk',hl'⟩:=ih (raised u' chain) w' { { { fr with defers:=ds } with mode:=u' } with mode:=raised u' chain } cs rfl rfl ht hf hk hb hroom hR;exact⟨e',w'',fr',hR',ComesIn.of_steps (.head i1 h1 (StepsIn.trans hsteps (.one i2 h2))) hs',hfn',hk',hl'⟩
theorem IH {f:FuncId}{fn:Func}{c:Code}{args:Array Value}{u:FrameMode}{w:World}{R:Ending→World→Prop}
  (hf:P.funcs[f]?=some fn) (hb:fn.body=some c) (hF:F.fn f)
  (h:c.wpIn F n P (bodyPostM F n P fn R) { tmps:=args++Array.replicate (fn.ntmps-args.size) undef,defers:=[] } w) (hro:F.round=none:=by rfl) :
  CallsDIn F n P f args u w fun e u' w'=>u'=u∧R e w':=by
 refine⟨hF,fun c₀ cs hu hr=>?_⟩
 let b:Frame:={ (default:Frame) with fn:=f,kind:=.deferred,roundOf:=none }
 have henter:Frame.enter P f args .deferred =
   b.atR { tmps:=args++Array.replicate (fn.ntmps-args.size) undef,defers:=[] } [.code c]:=by
  grind [Frame.enter,Frame.atR]
 have hc:({ c₀ with mode:=u }:Frame)=c₀:=by subst hu;rfl
 obtain⟨e,a',w',hq,harr⟩:=h b [] (c₀::cs) hro.symm hF hr;rw[←henter]at harr
 cases e with
 | normal =>
  obtain⟨e',w'',fr',hR,hs,hfn,hk,hl⟩:=zi a'.defers .returning w' { b.atR a' [] with mode:=.returning } (c₀::cs) rfl rfl rfl hf rfl hF hr hq;exact⟨e',u,w'',fr',⟨rfl,hR⟩,(by rw[hc];exact ComesIn.of_steps (StepsIn.trans harr (.one (fenced_calm (fr:=b.atR a' []) hF hr rfl) (stepR_end rfl))) hs),hk,hfn,hl⟩
 | ret =>
  obtain⟨todo,hs₀⟩:=harr.1 rfl;obtain⟨e',w'',fr',hR,hs,hfn,hk,hl⟩:=zi a'.defers .returning w' { b.atR a' todo with mode:=.returning } (c₀::cs) rfl rfl rfl hf rfl hF hr hq;exact⟨e',u,w'',fr',⟨rfl,hR⟩,(by grind [ComesIn.of_steps]),hk,hfn,hl⟩
 | panic chain =>
  obtain⟨todo,hs₀⟩:=harr;obtain⟨e',w'',fr',hR,hs,hfn,hk,hl⟩:=zi a'.defers (.panicking chain) w' { b.atR a' todo with mode:=.panicking chain } (c₀::cs) rfl rfl rfl hf rfl hF hr hq;exact⟨e',u,w'',fr',⟨rfl,hR⟩,(by grind [ComesIn.of_steps]),hk,hfn,hl⟩
 | exit id=>exact hq.elim
 | goto l=>exact hq.elim
 | outgrown=>exact⟨.outgrown,u,w',b,⟨rfl,hq⟩,(by exact harr.resolve_left (by simp[b])),rfl,rfl,trivial⟩
end
section
variable {P:Program}{g:Gh}{w:World}{t:Array Value}{O:Nat→Nat}{st st':St}{a:AV}{o:Oper}{r:bC}
def vY (P:Program) (r:bC):Prop :=
 ∀ {f:FuncId}{args:List AV}{hs:HS}{v:AV}{hs':HS},r.call f args hs=some (v,hs')→
  ∀ {g:Gh}{w:World}{xs:List Value}{Oa Oh:Nat→Nat},RVs g w args xs Oa→S P g w ⟨[],hs⟩ #[] Oh→(∀ b,Oa b+Oh b≤1)→(∀ b,Oa b≠0→b<w.heap.size)→∀ u:FrameMode,
   CallsDIn (FR none) 0 P f xs.toArray u w fun e u' w'=>u'=u∧dC P g w (fun b=>Oa b+Oh b) v hs' e w'
theorem Re {ro:Option Nat}{fn:Func}{tmps:Array Value}{R:Ending→World→Prop}{lo:Nat}{es:List Deferred}:∀ {ms:List Deferred}{w:World},fy w O lo ms→S P g w st t O→
  (∀ w',S P g w' st t O→aH g w g w' (fun b=>lo≤b)→LeavesInM (FR ro) 0 P fn tmps R es .returning w')→LeavesInM (FR ro) 0 P fn tmps R (ms++es) .returning w
 | [],w,_,s,h=>h w s (.refl _ _ _)
 | d::ds,w,⟨⟨r,h1,h2,h3,h4,h5⟩,h6⟩,s,h=>by
  refine⟨by simp,.inl ⟨r,setBlk w r (.deferred none),h1,CL h3,?_⟩⟩;have hx:aH g w g (setBlk w r (.deferred none)) fun x=>x=r:=aH.deferBlk h3
  have hm:fy (setBlk w r (.deferred none)) O lo ds:=by
   have:∀ {es:List Deferred},(∀ d'∈es,∀ r',d'.target=.collected r'→r'<r)→fy w O lo es→fy (setBlk w r (.deferred none)) O lo es:=by
    intro es
    induction es with
    | nil=>exact fun _ _=>trivial
    | cons e es ih =>
     rintro hlt ⟨⟨q,k1,k2,k3,k4,k5⟩,k6⟩
     have:=hlt e (.head _) q k1;exact⟨⟨q,k1,k2,by grind [dP],k4,k5⟩,ih (fun d' hd'=>hlt d' (.tail _ hd')) k6⟩
   grind
  exact Re hm (s.otherG hx h4) fun w' s' hx'=>h w' s' ((hx.mono (T:=fun b=>lo≤b) fun b _ e=>by omega).trans hx' fun _ _ h=>h)
end
def auv (P:Program) (vf:ae) (f:FuncId):Prop :=
 ∃ fn c,P.funcs[f]?=some fn∧fn.body=some c∧fn.name≠ "runtime.NumGoroutine"∧vf.nparams≤fn.ntmps∧ib P vf.results fn.results.toList=true∧
  (Mt P fn.ntmps vf.body c∨(∃ m,vf.body=.clone m∧Jf P m c=true∧8≤fn.ntmps)∨∃ i d f a,vf.body=.late i d f a∧Nn P fn.ntmps i d f a c=true)
def D1 (P:Program) (T:Nat→Option ae):Prop:=∀ f vf,T f=some vf→auv P vf f
def AK (P:Program) (r:bC):Prop :=
 ∀ {v:VC}{st:St}{o:aX}{st':St},r.code (.loop v) st=some (o,st')→∀ {c:Code}{n:Nat},Mt P n v c→∀ {g:Gh}{w:World}{t:Array Value}{O:Nat→Nat},t.size=n→S P g w st t O→
  ∀ (ro:Option Nat) (ds:List Deferred),wP w ro→H4 ro P c (aU P g w t O ds ro o st') ⟨t,ds⟩ w
def wW (P:Program) (r:bC):Prop :=
 ∀ {v cur:VC}{st:St}{o:aX}{st':St},r.code (.inScope v cur) st=some (o,st')→∀ {body c:Code}{n:Nat},Mt P n v body→Mt P n cur c→∀ {g:Gh}{w:World}{t:Array Value}{O:Nat→Nat},t.size=n→
  S P g w st t O→∀ (ro:Option Nat) (ds:List Deferred),wP w ro→xT ro P body c (aU P g w t O ds ro o st') ⟨t,ds⟩ w
def vV (P:Program) (r:bC):Prop :=
 ∀ {v:VC}{st:St}{o:aX}{st':St},oi v=true→r.code v st=some (o,st')→o=.normal∧∀ {g:Gh}{w:World}{t:Array Value}{O:Nat→Nat},S P g w st t O→∃ g' O',dB P g w t O st' t w g' O'
section
variable {P:Program}{g:Gh}{w:World}{t:Array Value}{O:Nat→Nat}{st st':St}{r:bC}
theorem H4.mono {ro:Option Nat}{c:Code}{Q Q':Exit→Act→World→Prop}{a:Act}(h:H4 ro P c Q a w) (hq:∀ e a w,Q e a w→Q' e a w):H4 ro P c Q' a w :=
 fun b k cs hr=>let ⟨e,a',w',q,x⟩:=h b k cs hr;⟨e,a',w',hq _ _ _ q,x⟩
theorem xT.mono {ro:Option Nat}{body c:Code}{Q Q':Exit→Act→World→Prop}{a:Act}(h:xT ro P body c Q a w) (hq:∀ e a w,Q e a w→Q' e a w):xT ro P body c Q' a w :=
 fun b k cs hr=>let ⟨e,a',w',q,x⟩:=h b k cs hr;⟨e,a',w',hq _ _ _ q,x⟩
theorem dB.mono {O2:Nat→Nat}{t':Array Value}{w':World}{g':Gh}{O':Nat→Nat}(h:dB P g w t O st' t' w' g' O') (hle:∀ b,O b≤O2 b):dB P g w t O2 st' t' w' g' O' :=
 ⟨h.st,h.ext.mono fun b _ hb=>by grind,fun b hb=>Nat.le_trans (h.old b hb) (hle b),h.size⟩
theorem aU.mono {O2:Nat→Nat}{ds:List Deferred}{ro:Option Nat}{o:aX}{e:Exit}{a':Act}{w':World}(h:aU P g w t O ds ro o st' e a' w') (hle:∀ b,O b≤O2 b):aU P g w t O2 ds ro o st' e a' w':=by
 obtain⟨he,g',O',ms,G,hd,hm,hr⟩:=h;exact⟨he,g',O',ms,G.mono hle,hd,hm,hr⟩
theorem aU.refl {ds:List Deferred}{ro:Option Nat}(o:aX) (s:S P g w st t O):aU P g w t O ds ro o st (xK o) ⟨t,ds⟩ w :=
 ⟨rfl,g,O,[],dB.refl s,rfl,trivial,fun _=>rfl⟩
theorem aU.ghost {ds:List Deferred}{ro:Option Nat}{o o2:aX}{st2:St}{e:Exit}{a':Act}{w':World}(h:aU P g w t O ds ro o st' e a' w')
  (hg:∀ {g:Gh}{w:World}{t:Array Value}{O:Nat→Nat},S P g w st' t O→∃ g' O',dB P g w t O st2 t w g' O') (ho:xK o=xK o2):aU P g w t O ds ro o2 st2 e a' w':=by
 obtain⟨he,g',O',ms,G,hd,hm,hr⟩:=h;obtain⟨g2,O2,G2⟩:=hg G.st;exact⟨he.trans ho,g2,O2,ms,G.trans G2,hd,hm.after G2.ext G2.old,hr⟩
theorem aU.as {ds:List Deferred}{ro:Option Nat}{o o2:aX}{e:Exit}{a':Act}{w':World}(h:aU P g w t O ds ro o st' e a' w'):aU P g w t O ds ro o2 st' (xK o2) a' w':=by
 obtain⟨_,h⟩:=h;exact⟨rfl,h⟩
theorem wx {ds:List Deferred}{ro:Option Nat}(hro:wP w ro) {o1:aX}{st1:St}{next:Act→World→Prop}{o:aX}{e:Exit}{a1:Act}{w1:World}(h:aU P g w t O ds ro o1 st1 e a1 w1)
  (hn:o1=.normal→∀ (t1:Array Value) (ds1:List Deferred) (g1:Gh) (O1:Nat→Nat),t1.size=t.size→S P g1 w1 st1 t1 O1→wP w1 ro→
   (∀ e a2 w2,aU P g1 w1 t1 O1 ds1 ro o st' e a2 w2→aU P g w t O ds ro o st' e a2 w2)→next ⟨t1,ds1⟩ w1)
  (ho:o1≠.normal→o=o1∧st'=st1):Exit.then next (aU P g w t O ds ro o st') e a1 w1:=by
 have h0:=h;obtain⟨he,g1,O1,ms,G,hd,hm,hr⟩:=h;subst he;by_cases hnm:o1=.normal
 ·subst hnm;obtain⟨t1,d1⟩:=a1;subst hd;exact hn rfl t1 _ g1 O1 G.size G.st (hro.ext G.ext) fun e a2 w2 k=>aU.comp G hm hr k
 ·obtain⟨rfl,rfl⟩:=ho hnm
  cases o<;>first | exact absurd rfl hnm | exact h0
theorem ae1 (hc:et P r) (hl:AK P r) (hs:wW P r) (hgh:vV P r) (hr:dW P r) {v:VC}{o:aX}(h:bj v r st=some (o,st')) {c:Code}{n:Nat}(hm:Mt P n v c) (hn:t.size=n)
  (s:S P g w st t O) (ro:Option Nat) (ds:List Deferred) (hro:wP w ro):c.wpIn (FR ro) 0 P (aU P g w t O ds ro o st') ⟨t,ds⟩ w:=by
 cases hm with
 | @ghostL a b c h1 h2 =>
  simp only[bj,IS]at h;split at h
  ·rename_i st1 ha;obtain⟨_,hg⟩:=hgh h1 ha;obtain⟨g1,O1,G⟩:=hg s;exact wpIn_mono (hc h h2 (by omega) G.st ro ds hro) fun e a2 w2 k=>aU.comp (ms1:=[]) G trivial (fun _=>rfl) k
  ·rename_i x hx
   cases hra:r.code a st with
   | none=>simp_all
   | some p =>
    obtain⟨o1,st1⟩:=p;obtain⟨rfl,_⟩:=hgh h1 hra
    simp_all
 | @ghostR a b c h1 h2 =>
  simp only[bj,IS]at h;split at h
  ·rename_i st1 ha;obtain⟨rfl,hg⟩:=hgh h1 h;exact wpIn_mono (hc ha h2 hn s ro ds hro) fun e a2 w2 k=>k.ghost hg rfl
  ·rename_i x hx;exact hc h h2 hn s ro ds hro
 | @seq a b c d h1 h2 =>
  simp only[bj,IS]at h;split at h
  ·rename_i st1 ha;refine wpIn_seq (wpIn_mono (hc ha h1 hn s ro ds hro) fun e a1 w1 k=>wx hro k (fun _ t1 ds1 g1 O1 hs1 s1 hro1 hcomp=>?_) (fun hne=>absurd rfl hne));exact wpIn_mono (hc h h2 (by omega) s1 ro ds1 hro1) hcomp
  ·rename_i x hx;refine wpIn_seq (wpIn_mono (hc h h1 hn s ro ds hro) fun e a1 w1 k=>wx hro k (fun hnm=>?_) (fun _=>⟨rfl,rfl⟩))
   simp_all
 | skip =>
  simp only[bj,Option.some.injEq,Prod.mk.injEq]at h;obtain⟨rfl,rfl⟩:=h;exact wpIn_skip (aU.refl .normal s)
 | @reg ops id os hops =>
  simp only[bj,N5]at h;split at h
  ·rename_i st1 hst;simp only[Option.some.injEq,Prod.mk.injEq]at h;obtain⟨rfl,rfl⟩:=h;refine wpIn_region ?_;have:=aaW (ro:=ro) (Q:=aU P g w t O ds ro .normal st1) hr hc ds (k:=0) rfl hops hn s hst fun w' t' g' O' G=>⟨rfl,g',O',[],G,rfl,trivial,fun _=>rfl⟩
   grind [List.range_eq_range']
  simp_all
 | @draw ops id os hops =>
  simp only[bj,N5]at h;split at h
  ·rename_i st1 hst;simp only[Option.some.injEq,Prod.mk.injEq]at h;obtain⟨rfl,rfl⟩:=h;exact asz hr hc ds hops hn s hst fun w' t' g' O' G=>⟨rfl,g',O',[],G,rfl,trivial,fun _=>rfl⟩
  simp_all
 | @drawP perm gco nr ops id os hops =>
  simp only[bj,Fw,Gn]at h;split at h
  ·rename_i habs;split at h
   ·rename_i st1 hst;simp only[Option.some.injEq,Prod.mk.injEq]at h;obtain⟨rfl,rfl⟩:=h;exact ap4 hr hc ds hops hn s habs hst fun w' t' g' O' G=>⟨rfl,g',O',[],G,rfl,trivial,fun _=>rfl⟩
   simp_all
  simp_all
 | @cond rd o' a b c d h1 h2 h3 =>
  simp only[bj,Fr]at h;have step:∀ (tb:Bool) (e:ao) (k:VC) (cd:Code),Vm.rd st.env rd=some (.d (.bool tb),e)→r.code k ⟨e,st.hs⟩=some (o,st')→Mt P n k cd→(if tb then c else d)=cd→
    (Code.cond o' c d).wpIn (FR ro) 0 P (aU P g w t O ds ro o st') ⟨t,ds⟩ w:=by
   intro tb e k cd hrd hk hmk hcd;obtain⟨Ov,O',rv,s',l⟩:=s.rd h1 hrd;have hev:=su rv rfl;refine wpIn_cond (t:=tb) (by simp_all [AG]) ?_;rw[hcd];exact wpIn_mono (hc hk hmk hn s' ro ds hro) fun e a2 w2 k=>k.mono fun b=>by grind
  grind
 | @block bid a c h1 =>
  simp only[bj,Hb]at h;split at h
  ·rename_i j st1 ha;refine wpIn_block (wpIn_mono (hc ha h1 hn s ro ds hro) fun e a1 w1 k=>?_);obtain⟨rfl,_⟩:=id k
   grind [xK,Exit.inBlock,Nat.beq_eq,aU.as]
  ·rename_i x hx;refine wpIn_block (wpIn_mono (hc h h1 hn s ro ds hro) fun e a1 w1 k=>?_);have hne:∀ j,o≠.exit j:=by simp_all
   obtain⟨rfl,_⟩:=id k
   cases o<;>first | exact k | simp_all
 | @loop a c h1 =>
  simp only[bj,M7]at h;refine(Y7 ?_).2;split at h
  ·rename_i st1 ha;refine wpIn_mono (hc ha h1 hn s ro ds hro) fun e a1 w1 k=>wx hro k (fun _ t1 ds1 g1 O1 hs1 s1 hro1 hcomp=>?_) (fun hne=>absurd rfl hne)
   exact(hl h h1 (by omega) s1 ro ds1 hro1).mono hcomp
  ·rename_i x hx;refine wpIn_mono (hc h h1 hn s ro ds hro) fun e a1 w1 k=>wx hro k (fun hnm=>?_) (fun _=>⟨rfl,rfl⟩)
   simp_all
 | @rangeF rd o' ps qs a b c d h1 h2 h3 h4 h5 =>
  subst hn h2;exact alk hr h h1 h3 h4 h5 s ro ds hro
 | exit =>
  simp only[bj,Option.some.injEq,Prod.mk.injEq]at h;obtain⟨rfl,rfl⟩:=h;exact wpIn_exit (aU.refl (.exit _) s)
 | @scope a c h1 =>
  exact arz (hs h h1 h1 hn s ro ds hro)
 | label =>
  obtain⟨rfl,rfl⟩:=h;exact wpIn_label (aU.refl .normal s)
 | goto =>
  obtain⟨rfl,rfl⟩:=h;exact wpIn_goto (aU.refl (.goto _) s)
 | ret =>
  obtain⟨rfl,rfl⟩:=h;exact wpIn_ret (aU.refl .ret s)
theorem ap0 (hc:et P r) (hl:AK P r) {v:VC}{o:aX}(h:bj (.loop v) r st=some (o,st')) {c:Code}{n:Nat}(h1:Mt P n v c) (hn:t.size=n)
  (s:S P g w st t O) (ro:Option Nat) (ds:List Deferred) (hro:wP w ro):H4 ro P c (aU P g w t O ds ro o st') ⟨t,ds⟩ w:=by
 simp only[bj,M7]at h;refine(Y7 ?_).1;split at h
 ·rename_i st1 ha;refine wpIn_mono (hc ha h1 hn s ro ds hro) fun e a1 w1 k=>wx hro k (fun _ t1 ds1 g1 O1 hs1 s1 hro1 hcomp=>?_) (fun hne=>absurd rfl hne)
  exact(hl h h1 (by omega) s1 ro ds1 hro1).mono hcomp
 ·refine wpIn_mono (hc h h1 hn s ro ds hro) fun e a1 w1 k=>wx hro k (fun hnm=>?_) (fun _=>⟨rfl,rfl⟩)
  simp_all
theorem aok (hc:et P r) (hs:wW P r) {v cur:VC}{o:aX}(h:bj (.inScope v cur) r st=some (o,st')) {body c:Code}{n:Nat}(h1:Mt P n v body) (h2:Mt P n cur c) (hn:t.size=n)
  (s:S P g w st t O) (ro:Option Nat) (ds:List Deferred) (hro:wP w ro):xT ro P body c (aU P g w t O ds ro o st') ⟨t,ds⟩ w:=by
 simp only[bj,DW]at h;refine als ?_;split at h
 ·rename_i l st1 ha;refine wpIn_mono (hc ha h2 hn s ro ds hro) fun e a1 w1 k=>?_
  have k0:=k;obtain⟨rfl,g1,O1,ms,G,hd,hm,hr⟩:=k;have hf:=aq0 h1 l;simp only[xK,Exit.scope];split at h
  ·rename_i rest hrest;rw[hrest]at hf;obtain⟨y,hy,hmy⟩:=hf;rw[hy];obtain⟨t1,d1⟩:=a1;subst hd;exact(hs h h1 hmy (by rw[G.size,hn]) G.st ro _ (hro.ext G.ext)).mono fun e a2 w2 k=>aU.comp G hm hr k
  ·rename_i hnone;rw[hnone]at hf;rw[hf];obtain⟨rfl,rfl⟩:=h;exact k0
 ·refine wpIn_mono (hc h h2 hn s ro ds hro) fun e a1 w1 k=>?_
  obtain⟨rfl,_⟩:=id k
  cases o<;>first | exact k | simp_all
theorem VP {r:bC}:∀ {ops:List VI}{st st':St},ops.all GF=true→gh r ops st=some st'→∀ {g:Gh}{w:World}{t:Array Value}{O:Nat→Nat},S P g w st t O→∃ g' O',dB P g w t O st' t w g' O'
 | [],st,st',_,h,g,w,t,O,s=>by
  simp only[gh,Option.some.injEq]at h;subst h;exact⟨g,O,dB.refl s⟩
 | i::l,st,st',ha,h,g,w,t,O,s=>by
  simp only[List.all_cons,Bool.and_eq_true]at ha;simp only[gh]at h;split at h
  ·rename_i st1 hv;obtain⟨g1,O1,G1⟩:=ae6 s ha.1 hv;obtain⟨g2,O2,G2⟩:=VP ha.2 h G1.st;exact⟨g2,O2,G1.trans G2⟩
  simp_all
theorem aoc (hg:vV P r) {v:VC}{o:aX}(hv:oi v=true) (h:bj v r st=some (o,st')):o=.normal∧∀ {g:Gh}{w:World}{t:Array Value}{O:Nat→Nat},S P g w st t O→∃ g' O',dB P g w t O st' t w g' O':=by
 cases v<;>simp only[oi,Bool.false_eq_true]at hv
 ·grind [bj,N5,VP]
 ·simp only[Bool.and_eq_true]at hv;simp only[bj,IS]at h;split at h
  ·rename_i st1 hst;obtain⟨_,h1⟩:=hg hv.1 hst;obtain⟨ho,h2⟩:=hg hv.2 h;refine⟨ho,fun s=>?_⟩;obtain⟨g1,O1,G1⟩:=h1 s;obtain⟨g2,O2,G2⟩:=h2 G1.st;exact⟨g2,O2,G1.trans G2⟩
  ·obtain⟨ho,_⟩:=hg hv.1 h
   simp_all
end
section
variable {P:Program}
theorem JC {fn:Func}{vf:ae}(h5:ib P vf.results fn.results.toList=true) {v:AV}{hs':HS}{o:aX}{st1:St}(ho:o=.normal∨o=.ret) (hend:zo vf st1=some (v,hs')) {g:Gh}{w:World}{t:Array Value}{O:Nat→Nat}
  {e:Exit}{a':Act}{w':World}(k:aU P g w t O [] none o st1 e a' w'):bodyPostM (FR none) 0 P fn (dC P g w O v hs') e a' w':=by
 obtain⟨rfl,g',O',ms,G,hd,hm,_⟩:=k;rw[List.append_nil]at hd;have key:LeavesInM (FR none) 0 P fn a'.tmps (dC P g w O v hs') a'.defers .returning w':=by
  rw[hd];refine W7 hm G.st fun w2 s2 hx2=>?_
  obtain⟨x,Ov,Oh2,hrun,rx,sh2,l2⟩:=akP h5 hend s2;refine⟨x,hrun,g',Ov,Oh2,rx,sh2,G.ext.trans hx2 (fun b hb hq=>absurd hq (by omega)),fun b=>by have:=l2 b;have:=s2.le b;omega,fun b hb=>?_,fun b hb=>s2.hi b (by grind)⟩
  grind [dB.old]
 rcases ho with rfl | rfl
 ·exact key
 ·exact key
theorem aoZ {r:bC}(hr:dW P r) (hrd:vY P r) {fn:Func}{vf:ae}(h5:ib P vf.results fn.results.toList=true) {v v1:AV}{hs2 hs':HS}{o:aX}{st1:St}(ho:o=.normal∨o=.ret) {f id off:Nat}
  (hcall:r.call f [.ptr id off] st1.hs=some (v1,hs2)) (hend:zo vf ⟨st1.env,hs2⟩=some (v,hs')) {g:Gh}{w:World}{t:Array Value}{O:Nat→Nat}{x:Value}(hx:∃ b,g.obj id=some b∧x=.pointer (some ⟨b,g.base id+off,none⟩))
  {e:Exit}{a':Act}{w':World}(k:aU P g w t O [{ target:=.fn (.func f) #[],args:=#[x] }] none o st1 e a' w'):bodyPostM (FR none) 0 P fn (dC P g w O v hs') e a' w':=by
 obtain⟨rfl,g',O',ms,G,hd,hm,_⟩:=k;obtain⟨hf,hk⟩:=hr hcall;have key:LeavesInM (FR none) 0 P fn a'.tmps (dC P g w O v hs') a'.defers .returning w':=by
  rw[hd];refine Re hm G.st fun w2 s2 hx2=>?_
  have hx12:aH g w g' w2 fun b=>O b≠0:=G.ext.trans hx2 (fun b hb hq=>absurd hq (by omega))
  obtain⟨b,hb,hxe⟩:=hx;obtain⟨k1,k2,_⟩:=hx12.obj id b hb;have rv:RVs g' w2 [.ptr id off] [x] zero:=by
   refine⟨x,[],zero,zero,rfl,?_,⟨rfl,fun _=>rfl⟩,fun _=>rfl⟩
   grind [RV]
  obtain⟨Oe,Oh,re,sh,hO⟩:=s2.split;refine⟨by simp,.inr ⟨by simp[Fence.wide],.func f,#[],f,#[x],rfl,?_,fun _ _=>trivial,(hrd hcall rv sh (fun b=>by have:=s2.le b;grind) (fun b hb=>by simp at hb) .returning).mono ?_⟩⟩
  ·show (callFunc f (#[x]++#[])).run P w2=_
   grind [oq]
  ·rintro e u' w3 ⟨rfl,hp⟩
   cases e with
   | panicked c=>exact hp.elim
   | outgrown=>exact hp.elim
   | returned y =>
    obtain⟨g3,Oa,O3,A⟩:=zY (v:=v1) (hs:=st1.hs) (t:=a'.tmps) s2.se re (fun b=>by simp_all) s2 hp;obtain⟨x4,Ov,Oh2,hrun,rx,sh2,l2⟩:=akP h5 hend A.st;refine⟨x4,hrun,g3,Ov,Oh2,rx,sh2,hx12.trans A.ext (fun b hb h=>by grind [dB.old]),fun b=>by have:=l2 b;have:=A.le b;omega,fun b hb=>?_,fun b hb=>A.st.hi b (by grind)⟩;have:=l2 b;have:=G.old b hb;have:=A.old b (Nat.lt_of_lt_of_le hb hx12.size);omega
 rcases ho with rfl | rfl
 ·exact key
 ·exact key
theorem apk {r:bC}(hc:et P r) (hr:dW P r) (hrd:vY P r) {n i d f:Nat}{a:VC}{c:Code}(hk:Nn P n i d f a c=true) {fn:Func}{vf:ae}(h5:ib P vf.results fn.results.toList=true) {st st1:St}{o:aX}{v:AV}{hs':HS}
  (h:Mg r i d f a st=some (o,st1)) (hend:zo vf st1=some (v,hs')) {g:Gh}{w:World}{t:Array Value}{O:Nat→Nat}(hn:t.size=n) (s:S P g w st t O) :
  c.wpIn (FR none) 0 P (bodyPostM (FR none) 0 P fn (dC P g w O v hs')) ⟨t,[]⟩ w:=by
 obtain⟨env,hs⟩:=st;unfold Nn at hk;split at hk
 ·rename_i rid os rest;simp only[Bool.and_eq_true]at hk;obtain⟨⟨hk1,hdn⟩,hrest⟩:=hk;split at hk1
  ·rename_i m kk hos;simp only[Bool.and_eq_true]at hk1;obtain⟨⟨⟨⟨hm1,hm2⟩,hk1a⟩,hk1b⟩,hk2⟩:=hk1;obtain⟨hmd,hmg⟩:=qO hm1;have hk1a':kk.dst=none:=by simp_all
   have hk1b':kk.guard=none:=by simp_all
   split at hm2
   ·rename_i y hmop;have:=nN hm2;subst this;split at hk2
    ·rename_i cl hkop;simp only[Bool.and_eq_true]at hk2;obtain⟨hcal,hargs⟩:=hk2;have hcal':=Fo hcal;split at hargs
     ·rename_i y hay;have:=nN hargs;subst this;have harr:cl.args=#[.tmp d]:=aDv hay;have hosA:os=#[m,kk]:=by grind
      subst hosA;have hd:d<t.size:=by simp_all
      unfold Mg at h;split at h
      ·rename_i id off hget;obtain⟨Ov,O1,rv,s1,l1⟩:=s.rd (r:=.s i) (o:=.tmp i) (by simp[aZ]) (v:=.ptr id off) (e':=env) (by grind [rd,share]);obtain⟨hxp,hOv⟩:=rv;have rv':RV g w (.ptr id off) (ev t (.tmp i)) zero:=by grind [RV]
       obtain⟨O2,s2,l2⟩:=s.setTmp hd rv' (fun b=>by have:=s.le b;simp_all) (fun b hb=>by simp at hb);have hle2:∀ b,O2 b≤O b:=fun b=>by simp_all
       have hst:∃ o1 st0 v1 hs2,(o1=.normal∨o1=.ret)∧r.code a ⟨put env d (.ptr id off),hs⟩=some (o1,st0)∧r.call f [.ptr id off] st0.hs=some (v1,hs2)∧st1=⟨st0.env,hs2⟩:=by
        grind
       obtain⟨o1,st0,v1,hs2,ho1,hra,hcl,rfl⟩:=hst;refine wpIn_seq (wpIn_region ?_);have hx2:(t.setIfInBounds d (ev t (.tmp i))).getD d undef=ev t (.tmp i):=by simp_all
       have hgo:rest.wpIn (FR none) 0 P (bodyPostM (FR none) 0 P fn (dC P g w O v hs')) ⟨t.setIfInBounds d (ev t (.tmp i)),[{ target:=.fn (.func f) #[],args:=#[ev t (.tmp i)] }]⟩ w:=by
        refine wpIn_mono (hc hra (fh a rest hrest) (by simp[hn]) s2 none _ (fun l hl=>by simp at hl)) fun e a' w' k=>?_
        exact aoZ hr hrd h5 ho1 hcl hend hxp (k.mono hle2)
       simp only[List.range,List.range.loop,List.size_toArray,List.length_cons,List.length_nil,wpOpsIn,Nat.zero_add];simp only[List.getElem?_toArray,List.getElem?_cons_zero,List.getElem?_cons_succ,Region.wanted,hmg,hk1b',if_true,Oper.wpIn];refine⟨fun _ _=>trivial,?_⟩;rw[IQ t [] (by simp_all)];simp only[execOp,hmop,Sem.run_pure,Oper.uponIn_value,Act.put,hmd];rw[Oper.semAt_none,AG];have hrun:(execOp (ev (t.setIfInBounds d (ev t (.tmp i)))) kk).run P w=.ok (.defer { target:=.fn (.func f) #[],args:=#[ev t (.tmp i)] }) w:=by
        have h0:ev (t.setIfInBounds d (ev t (.tmp i))) (.tmp d)=ev t (.tmp i):=hx2;have h1:ev (t.setIfInBounds d (ev t (.tmp i))) (.func f)=.func (.func f) #[] #[]:=rfl
        simp_all [execOp,resolve,Deferred.ofValue]
       rw[hrun,Oper.uponIn_defer];simp only[Act.put,hk1a'];exact⟨fun _ _=>trivial,hgo⟩
      simp_all
     simp_all
    simp_all
   simp_all
  simp_all
 simp_all
theorem afv {T:Nat→Option ae}(hT:D1 P T) {r:bC}(hc:et P r) (hl:AK P r) (hs:wW P r) (hgh:vV P r) (hr:dW P r) (hrd:vY P r) {f:FuncId}{args:List AV}{hs0:HS}{v:AV}{hs':HS}
  (h:nh T r f args hs0=some (v,hs')):∃ fn c,P.funcs[f]?=some fn∧fn.body=some c∧fn.name≠ "runtime.NumGoroutine"∧∀ {g:Gh}{w:World}{xs:List Value}{Oa Oh:Nat→Nat},RVs g w args xs Oa→S P g w ⟨[],hs0⟩ #[] Oh→(∀ b,Oa b+Oh b≤1)→(∀ b,Oa b≠0→b<w.heap.size)→
   c.wpIn (FR none) 0 P (bodyPostM (FR none) 0 P fn (dC P g w (fun b=>Oa b+Oh b) v hs')) ⟨xs.toArray++Array.replicate (fn.ntmps-xs.toArray.size) undef,[]⟩ w:=by
 unfold nh at h;split at h
 ·simp at h
 ·rename_i vf hvf;obtain⟨fn,c,h1,h2,h3,h4,h5,h6⟩:=hT f vf hvf;refine⟨fn,c,h1,h2,h3,fun {g w xs Oa Oh} rv sh hle hhi=>?_⟩;split at h
  ·simp at h
  ·have hxl:=rv.length;have hfin:∀ {o:aX}{st1:St},(o=.normal∨o=.ret)→bj vf.body r ⟨fX 0 args,hs0⟩=some (o,st1)→zo vf st1=some (v,hs')→
     c.wpIn (FR none) 0 P (bodyPostM (FR none) 0 P fn (dC P g w (fun b=>Oa b+Oh b) v hs')) ⟨xs.toArray++Array.replicate (fn.ntmps-xs.toArray.size) undef,[]⟩ w:=by
    intro o st1 ho hcode hend;have s:=avf rv sh hle hhi (fn.ntmps-xs.toArray.size);have hsz:(xs.toArray++Array.replicate (fn.ntmps-xs.toArray.size) undef).size=fn.ntmps:=by simp_all
    rcases h6 with hm | ⟨m,hb,hcl,h8⟩ | ⟨i,d,f2,a,hb,hlt⟩
    ·exact wpIn_mono (ae1 hc hl hs hgh hr hcode hm hsz s none [] (fun l hl=>by simp at hl)) fun e a' w' k=>JC h5 ho hend k
    ·rw[hb]at hcode;exact wpIn_mono (aoC hcl hcode (by omega) s) fun e a' w' k=>JC h5 ho hend k
    ·rw[hb]at hcode;exact apk hc hr hrd hlt h5 hcode hend hsz s
   grind
theorem aqd {T:Nat→Option ae}(hT:D1 P T) {r:bC}(hc:et P r) (hl:AK P r) (hs:wW P r) (hgh:vV P r) (hr:dW P r) (hrd:vY P r) {f:FuncId}{args:List AV}{hs0:HS}{v:AV}{hs':HS}
  (h:nh T r f args hs0=some (v,hs')):aoA P f∧∀ {g:Gh}{w:World}{xs:List Value}{Oa Oh:Nat→Nat},RVs g w args xs Oa→S P g w ⟨[],hs0⟩ #[] Oh→(∀ b,Oa b+Oh b≤1)→(∀ b,Oa b≠0→b<w.heap.size)→
   CallsIn (FR none) 0 P f xs.toArray w (dC P g w (fun b=>Oa b+Oh b) v hs'):=by
 obtain⟨fn,c,h1,h2,h3,hk⟩:=afv hT hc hl hs hgh hr hrd h;exact⟨⟨fn,h1,by simp[h2],h3⟩,fun rv sh hle hhi=>callsIn_of_wp_marks (F:=FR none) h1 h2 trivial (hk rv sh hle hhi)⟩
theorem aob {T:Nat→Option ae}(hT:D1 P T) {r:bC}(hc:et P r) (hl:AK P r) (hs:wW P r) (hgh:vV P r) (hr:dW P r) (hrd:vY P r) {f:FuncId}{args:List AV}{hs0:HS}{v:AV}{hs':HS}
  (h:nh T r f args hs0=some (v,hs')):∀ {g:Gh}{w:World}{xs:List Value}{Oa Oh:Nat→Nat},RVs g w args xs Oa→S P g w ⟨[],hs0⟩ #[] Oh→(∀ b,Oa b+Oh b≤1)→(∀ b,Oa b≠0→b<w.heap.size)→∀ u:FrameMode,
   CallsDIn (FR none) 0 P f xs.toArray u w fun e u' w'=>u'=u∧dC P g w (fun b=>Oa b+Oh b) v hs' e w':=by
 obtain⟨fn,c,h1,h2,h3,hk⟩:=afv hT hc hl hs hgh hr hrd h;exact fun rv sh hle hhi u=>IH (F:=FR none) h1 h2 trivial (hk rv sh hle hhi)
theorem ayM {T:Nat→Option ae}(hT:D1 P T):∀ n,et P (run T n)∧AK P (run T n)∧wW P (run T n)∧vV P (run T n)∧dW P (run T n)∧vY P (run T n)
 | 0=>⟨fun h=>by simp[run]at h,fun h=>by simp[run]at h,fun h=>by simp[run]at h,fun _ h=>by simp[run]at h,fun h=>by simp[run]at h,fun h=>by simp[run]at h⟩
 | n+1=>by
  obtain⟨hc,hl,hs,hgh,hr,hrd⟩:=ayM hT n;refine⟨fun {v st o st'} h {c m} hm {g w t O} hn s ro ds hro=>?_,fun {v st o st'} h {c m} hm {g w t O} hn s ro ds hro=>?_,fun {v cur st o st'} h {body c m} h1 h2 {g w t O} hn s ro ds hro=>?_,fun {v st o st'} hv h=>?_,fun {f args hs0 v hs'} h=>?_,fun {f args hs0 v hs'} h=>?_⟩
  ·exact ae1 hc hl hs hgh hr h hm hn s ro ds hro
  ·exact ap0 hc hl h hm hn s ro ds hro
  ·exact aok hc hs h h1 h2 hn s ro ds hro
  ·exact aoc hgh hv h
  ·exact aqd hT hc hl hs hgh hr hrd h
  ·exact aob hT hc hl hs hgh hr hrd h
theorem Rq {T:Nat→Option ae}(hT:D1 P T) {n:Nat}{f:FuncId}{args:List AV}{v:AV}{hs':HS}(h:(run T n).call f args ⟨[],0⟩=some (v,hs')) {g:Gh}{w:World}{xs:List Value}
  (hobj:∀ id,g.obj id=none) (hpm:∀ b o,g.pm b o→b<w.heap.size) (rv:RVs g w args xs zero) :
  Calls P f xs.toArray w (dC P g w zero v hs'):=by
 obtain⟨_,_,_,_,hr,_⟩:=ayM hT n;obtain⟨_,hk⟩:=hr h;have sh:S P g w ⟨[],⟨[],0⟩⟩ #[] zero:=⟨List.Pairwise.nil,List.Pairwise.nil,⟨zero,zero,fun _=>rfl,fun _=>rfl,fun _=>rfl⟩,fun _=>by simp,fun b hb=>by simp at hb,fun id _=>hobj id,hpm⟩
 grind [CallsIn.calls,acq]
end
#print axioms Rq
inductive Ty where
 | int (k:IntKind)
 | bool
 | str
 | lst (es:List Ty)
mutual
def lK:Ty→D→Prop
 | .int k,.int j n=>j=k∧(Lit.int k n).wf=true
 | .bool,.bool _=>True
 | .str,.str _=>True
 | .lst es,.lst xs=>∀ x∈xs,OkDs es x
 | _,_=>False
def OkDs:List Ty→List D→Prop
 | [],[]=>True
 | t::ts,d::ds=>lK t d∧OkDs ts ds
 | _,_=>False
end
def ai2 (P:Program) (f:TypeId→Option (List Ty)):List Field→Nat→Option (List Ty)
 | [],_=>some []
 | fd::r,off=>match Nat.beq fd.offset off,f fd.type with
  | true,some ts=>match Nat.beq (P.cellsOf fd.type) ts.length,ai2 P f r (off+ts.length) with
   | true,some us=>some (ts++us)
   | _,_=>none
  | _,_=>none
def wO (P:Program):Nat→TypeId→Option (List Ty)
 | 0,_=>none
 | n+1,t=>match P.underlying t with
  | some .bool=>some [.bool]
  | some (.int k)=>some [.int k]
  | some .string=>some [.str]
  | some (.slice e)=>match wO P n e with
   | some (x::xs)=>match Nat.beq (P.cellsOf e) (x::xs).length with
    | true=>some [.lst (x::xs)]
    | false=>none
   | _=>none
  | some (.struct fs)=>match ai2 P (wO P n) fs.toList 0 with
   | some ts=>match Nat.beq (P.cellsOf t) ts.length with
    | true=>some ts
    | false=>none
   | none=>none
  | _=>none
mutual
def df {H:Type}:DataW H→List D
 | .lit (.int k n)=>[.int k n]
 | .lit (.bool b)=>[.bool b]
 | .lit (.string s)=>[.str s]
 | .nil=>[.lst []]
 | .slice es _=>[.lst (cellsEs es)]
 | .agg ps=>cellsPs ps
 | _=>[]
def cellsEs {H:Type}:List (DataW H)→List (List D)
 | []=>[]
 | d::r=>df d::cellsEs r
def cellsPs {H:Type}:List (DataW H)→List D
 | []=>[]
 | d::r=>df d++cellsPs r
end
theorem OkDs.len:∀ {ts:List Ty}{ds:List D},OkDs ts ds→ds.length=ts.length
 | [],[],_=>rfl
 | t::ts,d::ds,h=>by simp[OkDs.len h.2]
 | [],_::_,h=>by simp[OkDs]at h
 | _::_,[],h=>by simp[OkDs]at h
theorem OkDs.append:∀ {ts us:List Ty}{ds es:List D},OkDs ts ds→OkDs us es→OkDs (ts++us) (ds++es)
 | [],us,[],es,_,h=>h
 | t::ts,us,d::ds,es,h,h2=>by
  exact⟨h.1,h.2.append h2⟩
 | [],_,_::_,_,h,_=>by simp[OkDs]at h
 | _::_,_,[],_,h,_=>by simp[OkDs]at h
theorem RU {α β:Type}{f:α→Option β}:∀ {l:List α}{ys:List β},l.mapM f=some ys→ys.length=l.length∧∀ (i:Nat) (x:α),l[i]?=some x→∃ y,ys[i]?=some y∧f x=some y
 | [],ys,h=>by simp_all
 | a::l,ys,h=>by
  cases ha:f a with
  | none=>simp_all
  | some b =>
   cases hl:l.mapM f with
   | none=>simp_all
   | some bs =>
    obtain⟨h1,h2⟩:=RU hl
    grind
theorem alz {H:Type}(ds:List (DataW H)):cellsEs ds=ds.map df:=by
 induction ds<;>grind [cellsEs]
theorem agv {xs:List (List D)}{m:Nat}(h:∀ e∈xs,e.length=m) {j:Nat}{c:D}(hj:xs.flatten[j]?=some c):∃ i k e,j=i*m+k∧k<m∧xs[i]?=some e∧e[k]?=some c:=by
 induction xs generalizing j with
 | nil=>simp at hj
 | cons x xs ih =>
  have hx:=h x (.head _);rw[List.flatten_cons]at hj;rcases Nat.lt_or_ge j x.length with hlt | hge
  ·rw[List.getElem?_append_left hlt]at hj;exact⟨0,j,x,by simp,by omega,rfl,hj⟩
  ·rw[List.getElem?_append_right hge]at hj;obtain⟨i,k,e,h1,h2,h3,h4⟩:=ih (fun e he=>h e (.tail _ he)) hj;exact⟨i+1,k,e,by grind,h2,by simp_all,h4⟩
section
variable {H:Type}{enc:TypeId×Value→H}{P:Program}{W:World}{sp:Nat→Bool}{held:Bool}
abbrev xp (W:World):Nat→Nat→Prop:=fun b _=>b<W.heap.size
theorem ang {a:Addr}{v:Value}(h:W.cell? a=some v):a.block<W.heap.size∧a.spot=none:=by
 unfold World.cell? at h;split at h<;>simp_all [fb]
theorem Rl {f:TypeId→Option (List Ty)}{g:TypeId→List Value→Option (DataW H×List MemPlace)}
  (ih:∀ t ts cs x,f t=some ts→g t cs=some x→OkDs ts (df x.1)∧cs.length=(df x.1).length∧∀ (j:Nat) (c:D),(df x.1)[j]?=some c→∃ u,cs[j]?=some u∧RD W (xp W) c u) :
  ∀ {fs:List Field}{off:Nat}{ts:List Ty}{cs:List Value}{xs:List (DataW H×List MemPlace)},ai2 P f fs off=some ts→off+ts.length≤cs.length→
   fs.mapM (fun fd=>g fd.type ((cs.drop fd.offset).take (P.cellsOf fd.type)))=some xs→
   OkDs ts (cellsPs (xs.map (·.1)))∧∀ (j:Nat) (c:D),(cellsPs (xs.map (·.1)))[j]?=some c→∃ u,cs[off+j]?=some u∧RD W (xp W) c u
 | [],off,ts,cs,xs,h,hb,hm=>by
  grind [ai2,cellsPs,OkDs]
 | fd::fs,off,ts,cs,xs,h,hb,hm=>by
  simp only[ai2]at h;split at h
  ·rename_i ts1 ho h1;rw[Nat.beq_eq]at ho;split at h
   ·rename_i us hc h2;rw[Nat.beq_eq]at hc;simp only[Option.some.injEq]at h;subst h;simp only[List.length_append]at hb;simp only[List.mapM_cons,Option.bind_eq_bind,Option.pure_def]at hm
    cases hg:g fd.type ((cs.drop fd.offset).take (P.cellsOf fd.type)) with
    | none=>simp_all
    | some x =>
     cases hr:fs.mapM (fun fd=>g fd.type ((cs.drop fd.offset).take (P.cellsOf fd.type))) with
     | none=>simp_all
     | some ys =>
      obtain⟨q1,q2⟩:=Rl ih h2 (by omega) hr
      grind [cellsPs,OkDs.append]
   simp_all
  simp_all
theorem TR:∀ (fuel n:Nat) (t:TypeId) (ts:List Ty) (cs:List Value) (x:DataW H×List MemPlace),wO P n t=some ts→DataW.trod enc P W 0 sp held fuel t cs=some x→
  OkDs ts (df x.1)∧cs.length=(df x.1).length∧∀ (j:Nat) (c:D),(df x.1)[j]?=some c→∃ u,cs[j]?=some u∧RD W (xp W) c u
 | 0,_,_,_,_,_,_,h=>by simp[DataW.trod]at h
 | _+1,0,_,_,_,_,h,_=>by simp[wO]at h
 | fuel+1,n+1,t,ts,cs,x,hty,h=>by
  have one:∀ {d:D}{v:Value},OkDs ts [d]→RD W (xp W) d v→df x.1=[d]→cs=[v]→OkDs ts (df x.1)∧cs.length=(df x.1).length∧∀ (j:Nat) (c:D),(df x.1)[j]?=some c→∃ u,cs[j]?=some u∧RD W (xp W) c u:=by
   grind
  simp only[wO]at hty;unfold DataW.trod at h
  cases hu:P.underlying t with
  | none=>simp_all
  | some d =>
   rw[hu]at hty h
   cases d<;>simp only[reduceCtorEq]at hty
   case bool =>
    simp only[Option.some.injEq]at hty;subst hty
    match cs,h with
    | [.bool b],h =>
     simp only[Option.some.injEq]at h;subst h;exact one (d:=.bool b) (by simp[OkDs,lK]) (.bool _) rfl rfl
   case int k =>
    simp only[Option.some.injEq]at hty;subst hty
    match cs,h with
    | [.int k' m],h =>
     simp only at h;split at h
     ·rename_i hk;obtain⟨rfl,hwf⟩:=hk;simp only[Option.some.injEq]at h;subst h;exact one (d:=.int k' m) (by grind [OkDs,lK]) (.int _ _) rfl rfl
     simp_all
   case string =>
    simp only[Option.some.injEq]at hty;subst hty
    match cs,h with
    | [.string s],h =>
     simp only at h;split at h
     ·simp only[Option.some.injEq]at h;subst h;refine one (d:=.str s.data.toList) (by simp[OkDs,lK]) ?_ rfl rfl;have:=RD.str (w:=W) (pm:=xp W) s.data.toList;omega
     simp_all
   case slice e =>
    split at hty
    ·rename_i y ys hte;split at hty
     ·rename_i hce;rw[Nat.beq_eq]at hce;simp only[Option.some.injEq]at hty;subst hty
      match cs,h with
      | [.slice none 0 0],h =>
       simp only[Option.some.injEq]at h;subst h;exact one (d:=.lst []) (by simp[OkDs,lK]) (.nil _ _) rfl rfl
      | [.slice (some a) len cap],h =>
       simp only at h;split at h
       ·rename_i hb;obtain⟨_,hlc,_⟩:=hb;simp only[Option.bind_eq_some_iff,Option.map_eq_some_iff]at h;obtain⟨elems,hel,rest,_,rfl⟩:=h;obtain⟨hlen,hget⟩:=RU hel;simp only[List.length_range]at hlen;have helem:∀ i,i<len→∃ z,elems[i]?=some z∧∃ cs',W.cells? 0 (a.add (i*P.cellsOf e)) (P.cellsOf e)=some cs'∧OkDs (y::ys) (df z.1)∧cs'.length=(df z.1).length∧
          ∀ (j:Nat) (c:D),(df z.1)[j]?=some c→∃ u,cs'[j]?=some u∧RD W (xp W) c u:=by
         intro i hi;obtain⟨z,hz,hf⟩:=hget i i (by simp[hi]);simp only[Option.bind_eq_some_iff]at hf;obtain⟨cs',hcs,htr⟩:=hf;exact⟨z,hz,cs',hcs,TR fuel n e (y::ys) cs' z hte htr⟩
        have hmem:∀ d∈elems.map (·.1),OkDs (y::ys) (df d):=by
         grind [List.mem_iff_getElem]
        have hes:cellsEs (elems.map (·.1))=elems.map fun z=>df z.1:=by simp_all [alz]
        have hlm:∀ e'∈cellsEs (elems.map (·.1)),e'.length=(y::ys).length:=by
         grind [OkDs.len]
        refine one (d:=.lst (cellsEs (elems.map (·.1)))) ?_ ?_ rfl rfl
        ·grind [OkDs,lK]
        ·by_cases h0:len=0
         ·subst h0;have:elems=[]:=List.eq_nil_of_length_eq_zero hlen;subst this;exact .nil _ _
         ·obtain⟨ab,aoff,asp⟩:=a;have hm0:0<(y::ys).length:=by simp
          have hcell:∀ i k,i<len→k<(y::ys).length→∃ z c u,elems[i]?=some z∧(df z.1)[k]?=some c∧W.cell? ((Addr.add ⟨ab,aoff,asp⟩ (i*P.cellsOf e)).add k)=some u∧RD W (xp W) c u:=by
           intro i k hi hk;obtain⟨z,hz,cs',hcs,hok,hl2,hrd⟩:=helem i hi;have hkl:k<(df z.1).length:=by grind
           obtain⟨u,hu,hr⟩:=hrd k _ (List.getElem?_eq_getElem hkl);unfold World.cells? at hcs;rw[if_pos (Nat.zero_le _)]at hcs;obtain⟨hcl,hcg⟩:=RU hcs;obtain⟨v,hv,hw⟩:=hcg k k (by simp_all)
           grind
          obtain⟨_,_,u0,_,_,hu0,_⟩:=hcell 0 0 (by omega) hm0;have hasp:asp=none:=by
           have:=(ang hu0).2
           grind [Addr.add]
          subst hasp;have hll:(cellsEs (elems.map (·.1))).length=len:=by simp_all
          have:=ej.rd (w:=W) (pm:=xp W) (xs:=cellsEs (elems.map (·.1))) (b:=ab) (off:=aoff) (cap:=cap) hm0 (by omega) hlm (fun j c hj=>?_) (fun j _=>(ang hu0).1 |> fun h=>by grind [Addr.add])
          ·simp_all
          ·obtain⟨i,k,e',rfl,hk,hi,hck⟩:=agv hlm hj;have hil:i<len:=by grind
           obtain⟨z,c',u,hz,hc',hcell',hr⟩:=hcell i k hil hk
           grind [gB]
       simp_all
     simp_all
    simp_all
   case struct fs =>
    split at hty
    ·rename_i us hfs;split at hty
     ·rename_i hcl;rw[Nat.beq_eq]at hcl;simp only[Option.some.injEq]at hty;subst hty;have h':(if cs.length=P.cellsOf t then (fs.toList.mapM fun f=>DataW.trod enc P W 0 sp held fuel f.type ((cs.drop f.offset).take (P.cellsOf f.type))).map fun xs=>((.agg (xs.map (·.1)):DataW H),xs.flatMap (·.2)) else none)=some x:=by
       omega
      split at h'
      ·simp only[Option.map_eq_some_iff]at h';obtain⟨xs,hxs,rfl⟩:=h';obtain⟨q1,q2⟩:=Rl (P:=P) (f:=wO P n) (g:=DataW.trod enc P W 0 sp held fuel) (fun t ts cs x h1 h2=>TR fuel n t ts cs x h1 h2) (cs:=cs) hfs (by omega) hxs
       grind [OkDs.len,df]
      ·simp at h'
     ·simp at hty
    simp_all
end
open Go.ChangeShapes Go.WideShapes Go.ChangeAt Go.RowKit
def FJ (P:Program) (n:Nat):List TypeId→Option (List (Bool×List Ty))
 | []=>some []
 | t::ts=>match wO P n t,FJ P n ts with
  | some tys,some r=>some ((tI P t,tys)::r)
  | _,_=>none
def aij (agg:Bool) (cs:List D):AV :=
 match agg with
 | true=>.agg (cs.map .d)
 | false=>match cs with
  | [c]=>.d c
  | _=>.junk
def Cu {H:Type}:List (Bool×List Ty)→List (DataW H)→List AV
 | (b,_)::ts,d::ds=>aij b (df d)::Cu ts ds
 | _,_=>[]
def kT {H:Type}:List (Bool×List Ty)→List (DataW H)→Prop
 | [],[]=>True
 | (_,tys)::ts,d::ds=>OkDs tys (df d)∧kT ts ds
 | _,_=>False
def Gh.all (W:World):Gh where
 obj _:=none
 base _:=0
 esz _:=0
 bsz _:=0
 pm:=xp W
section
variable {H:Type}{enc:TypeId×Value→H}{P:Program}{W:World}{sp:Nat→Bool}
theorem akV {n:Nat}{base:Nat}:∀ {ts:List TypeId}{vs:List Value}{ds:List (DataW H)}{ps:List MemPlace}{tys:List (Bool×List Ty)},DataW.TrodAll enc P W 0 sp true ts vs ds ps→FJ P n ts=some tys→
  (∀ (j:Nat) t v,ts[j]?=some t→vs[j]?=some v→Value.okWide P W .any base t v)→RVs (Gh.all W) W (Cu tys ds) vs zero∧kT tys ds
 | [],[],[],_,tys,_,h,_=>by
  grind [FJ,Cu,RVs,kT]
 | t::ts,v::vs,d::ds,ps,tys,hA,h,hok=>by
  obtain⟨p,q,⟨fuel,htr⟩,hrest,rfl⟩:=hA;simp only[FJ]at h;split at h
  ·rename_i ty r h1 h2;simp only[Option.some.injEq]at h;subst h;obtain⟨k1,k2,k3⟩:=TR fuel n t ty v.cells.toList (d,p) h1 htr;obtain⟨q1,q2⟩:=akV hrest h2 fun j t v h1 h2=>hok (j+1) t v (by simp_all) (by simp_all)
   refine⟨?_,k1,q2⟩;have hv:=hok 0 t v rfl rfl;have hrv:RV (Gh.all W) W (aij (tI P t) (df d)) v zero:=by
    unfold Value.okWide at hv
    cases ha:tI P t with
    | true =>
     have hagg:∃ cs,v=.agg cs:=by
      grind [tI]
     obtain⟨cs,rfl⟩:=hagg;refine⟨cs,rfl,RVs.ds (g:=Gh.all W) rfl (by grind [Value.cells]) fun j c x hc hx=>?_⟩;obtain⟨u,hu,hr⟩:=k3 j c hc;have:u=x:=by
      grind [Value.cells]
     rw[←this];exact hr
    | false =>
     have hone:v.cells=#[v]:=by
      have:Cell.okWide P W .any base t v:=by
       grind [tI]
      cases v<;>first | rfl | simp_all [Cell.okWide,Cell.ok]
     rw[hone]at k2 k3
     match hcd:df d,k2 with
     | [c],_ =>
      obtain⟨u,hu,hr⟩:=k3 0 c (by grind);simp at hu;subst hu;simp only[aij,RV];exact⟨hr,fun _=>trivial⟩
   grind [Cu,RVs]
  simp_all
 | [],_::_,_,_,_,hA,_,_=>hA.elim
 | [],[],_::_,_,_,hA,_,_=>hA.elim
 | _::_,[],_,_,_,hA,_,_=>hA.elim
 | _::_,_::_,[],_,_,hA,_,_=>hA.elim
theorem afo {W':World}(hl:laidOutB P=true) (hblk:∀ b,b<W.heap.size→W'.heap[b]?=W.heap[b]?) {sp':Nat→Bool}:∀ {ts:List TypeId}{vs:List Value}{ds:List (DataW H)}{ps:List MemPlace},
  (∀ t∈ts,P.readableRec t=true∧t<P.types.size)→DataW.TrodAll enc P W 0 (fun _=>true) true ts vs ds ps→(∀ p∈ps,sp' p.block=true)→DataW.TrodAll enc P W' 0 sp' true ts vs ds ps
 | [],[],[],_,_,h,_=>h
 | t::ts,v::vs,d::ds,ps,hr,h,hs=>by
  have hlt:=h.lt;obtain⟨p,q,⟨fuel,htr⟩,hrest,rfl⟩:=h;obtain⟨h1,h2⟩:=hr t (.head _);refine⟨p,q,⟨fuel,DataW.trod_stays (kids_book hl h1) (book_sized h1) (fun h=>by cases h) ⟨h2,book_self t⟩ htr (fun x hx=>?_) (fun x hx=>hs x (List.mem_append_left _ hx))⟩,
   afo hl hblk (fun t ht=>hr t (.tail _ ht)) hrest (fun x hx=>hs x (List.mem_append_right _ hx)),rfl⟩
  have hxl:=hlt x (List.mem_append_left _ hx)
  cases x with
  | cell b o=>exact kO (hblk b hxl) o
  | map b=>exact hblk b hxl
 | [],_::_,_,_,_,h,_=>h.elim
 | [],[],_::_,_,_,h,_=>h.elim
 | _::_,[],_,_,_,h,_=>h.elim
 | _::_,_::_,[],_,_,h,_=>h.elim
theorem ajH {T:Nat→Option ae}(hT:D1 P T) {fn:Func}{f:FuncId}{s:ChangeSpec}(hl:laidOutB P=true) (hrec:∀ t∈fn.params.toList,P.readableRec t=true∧t<P.types.size)
  {n:Nat}{tys:List (Bool×List Ty)}(hty:FJ P n fn.params.toList=some tys) {tb:TypeId}(hres:fn.resultTypes=#[tb]) (htb:P.underlying tb=some .bool) (hvars:s.vars=[]) {apart:Bool}
  {base:Nat}{args:Array Value}{ds gs:List (DataW H)}{before:List MemPlace}(hval:∀ (j:Nat) t v,fn.params[j]?=some t→args[j]?=some v→Value.okWide P W .any base t v)
  (hW:DataW.Whole enc P fn.params.toList s.vars apart W args.toList ds gs before) (hfn:kT tys ds→s.fn H ds={ results:=[.lit (.bool true)],args:=ds })
  (hrun:kT tys ds→gs=[]→∃ m hs',(run T m).call f (Cu tys ds) ⟨[],0⟩=some (.d (.bool true),hs')) :
  Calls P f args W fun e W'=>∃ v,e=.returned v∧s.post enc P fn apart true false false W args v W':=by
 have hW':=hW;obtain⟨p,q,hA,hV,hpq,hfz,hnd⟩:=hW;rw[hvars]at hV;obtain⟨rfl,rfl⟩:=trodVars_none hV;obtain⟨rv,hok⟩:=akV (n:=n) (base:=base) hA hty fun j t v h1 h2=>hval j t v (by simp_all) (by simp_all)
 obtain⟨m,hs',hcall⟩:=hrun hok rfl;have hc:=Rq hT hcall (g:=Gh.all W) (fun _=>rfl) (fun b o h=>h) rv;refine hc.mono fun e W2 hp=>?_
 cases e with
 | panicked _=>exact hp.elim
 | outgrown=>exact hp.elim
 | returned x =>
  obtain⟨g',Or,Oh,r1,_,hx,_,_,_⟩:=hp;have hxv:=su r1 rfl;subst hxv;have hblk:∀ b,b<W.heap.size→W2.heap[b]?=W.heap[b]?:=fun b hb=>(hx.blk b hb (by simp)).1
  have hsfn:s.fn H (ds++[])={ results:=[.lit (.bool true)],args:=ds }:=by simp_all
  refine⟨_,rfl,post_of_same (pa:=p) (pv:=[]) hW' (fun b sp hd=>?_) (fun sp hsp=>?_) (fun sp _=>?_) (by rw[hpq]) ⟨hx.same.1,hx.same.2.1,fun i hi=>?_⟩ hx.same.2.2 ?_⟩
  ·rw[hres,hsfn];exact trodAll_cons_mk (shut_bool htb _) trodAll_mk0
  ·grind [afo]
  ·rw[hsfn,hvars];rfl
  ·grind
  ·exact ok_one hres rfl (okWide_bool_mk htb _)
end
variable {P:Nat→Option ae}
attribute [simp ↓] axC axS axv ayY ax6 aya aym ay2 axR ayk ayr axN axQ azh ayx ayE axP axz Gg awf aw1 avv awA av6
attribute [simp ↓] arC arF atE apw arW atj aoU azf azx azS aAW aw5 avU arB
attribute [simp] delAll Cr
attribute [simp] aDM azo aCH put1 aCw axn
attribute [congr] ite_congr axj awD atb axh aw8 ar0
def Hh (x:Option (List AV×St)):Option (AV×HS) :=
 match x with
 | some ([v],st)=>some (v,st.hs)
 | some (vs,st)=>some (.tup vs,st.hs)
 | none=>none
theorem ayv {fn:ae}{st:St}:zo fn st=Hh (cQ st fn.results):=(by
 simp only[zo,Hh]
 cases cQ st fn.results with
 | none=>rfl
 | some q =>
  obtain⟨vs,s⟩:=q
  cases vs with
  | nil=>rfl
  | cons v r=>cases r<;>rfl)
@[simp] theorem aF1 {st:St}:Hh (some ([],st))=some (.tup [],st.hs):=(rfl)
@[simp] theorem aGe {v:AV}{st:St}:Hh (some ([v],st))=some (v,st.hs):=(rfl)
@[simp] theorem aFR {v w:AV}{r:List AV}{st:St}:Hh (some (v::w::r,st))=some (.tup (v::w::r),st.hs):=(rfl)
def oA (rs:List mb) (x:Option (aX×St)):Option (AV×HS) :=
 match x with
 | some (.normal,st)=>Hh (cQ st rs)
 | some (.ret,st)=>Hh (cQ st rs)
 | _=>none
@[simp ↓] theorem aFU {rs:List mb}{st:St}:oA rs (some (.normal,st))=Hh (cQ st rs):=(rfl)
@[simp ↓] theorem aF9 {rs:List mb}{st:St}:oA rs (some (.ret,st))=Hh (cQ st rs):=(rfl)
@[simp ↓] theorem aF7 {rs:List mb}{c:Prop}[Decidable c] {x y:Option (aX×St)}:oA rs (if c then x else y)=if c then oA rs x else oA rs y:=by split<;>rfl
@[simp ↓] theorem amN {n:Nat}{rs:List mb}{b:VC}{x:Option (aX×St)}:Uk ⟨n,rs,b⟩ x=oA rs x:=by
 simp only[Uk,oA];split<;>simp only[ayv]
theorem awp {rs:List mb}{x y:Option (aX×St)}(h:x=y):oA rs x=oA rs y:=by rw[h]
attribute [congr] awp
theorem aa {a b:VC}{st:St}(h:a=b):(Dn P).code (.loop a) st=kF P a ((Dn P).code b st):=by rw[←h];exact apS
theorem az {f:FuncId}{fn:ae}{n:Nat}{rs:List mb}{b:VC}{args:List AV}(hf:P f=some fn) (hd:fn=⟨n,rs,b⟩) (hl:args.length=n):aM P f args=lU (oA rs ((Dn P).code b ⟨fX 0 args,⟨[],0⟩⟩)):=by
 subst hd;rw[aty hf hl,amN]
theorem aD {f:FuncId}{fn:ae}{n:Nat}{rs:List mb}{b:VC}{args:List AV}{hs:HS}(hf:P f=some fn) (hd:fn=⟨n,rs,b⟩) (hl:args.length=n):(Dn P).call f args hs=oA rs ((Dn P).code b ⟨fX 0 args,hs⟩):=by
 subst hd;rw[afc hf hl,amN]
@[simp ↓] theorem aHb {α β:Type}{v:α}{f:α→Option β}:bA (some v) f=f v:=(rfl)
@[simp ↓] theorem aG5 {α β:Type}{f:α→Option β}:bA none f=none:=(rfl)
@[simp ↓] theorem aGZ {α β:Type}{c:Prop}[Decidable c] {x y:Option α}{f:α→Option β}:bA (if c then x else y) f=if c then bA x f else bA y f:=by split<;>rfl
@[simp ↓] theorem aG6 {α γ β:Type}{v:α}{w:γ}{f:α→γ→Option β}:bP (some (v,w)) f=f v w:=(rfl)
@[simp ↓] theorem aG7 {α γ β:Type}{f:α→γ→Option β}:bP none f=none:=(rfl)
@[simp ↓] theorem aGV {α γ β:Type}{c:Prop}[Decidable c] {x y:Option (α×γ)}{f:α→γ→Option β}:bP (if c then x else y) f=if c then bP x f else bP y f:=by split<;>rfl
@[simp ↓] theorem aGW {α β:Type}{x:α}{f:α→β}:lA x f=f x:=(rfl)
@[simp ↓] theorem aGX {α γ β:Type}{x:α}{y:γ}{f:α→γ→β}:lP (x,y) f=f x y:=(rfl)
@[simp ↓] theorem aGy {β:Type}{x:Option β}:bI true x=x:=(rfl)
@[simp ↓] theorem aGj {β:Type}{x:Option β}:bI false x=none:=(rfl)
theorem aA4 {α β:Type}{x y:Option α}{f:α→Option β}(h:x=y):bA x f=bA y f:=by rw[h]
theorem aAi {α γ β:Type}{x y:Option (α×γ)}{f:α→γ→Option β}(h:x=y):bP x f=bP y f:=by rw[h]
theorem aAc {α β:Type}{x y:α}{f:α→β}(h:x=y):lA x f=lA y f:=by rw[h]
theorem aAV {α γ β:Type}{x y:α×γ}{f:α→γ→β}(h:x=y):lP x f=lP y f:=by rw[h]
attribute [congr] aA4 aAi aAc aAV
@[simp ↓] theorem aGt {x:Option AV}:gV (.d (.bool true)) true x=x:=(rfl)
@[simp ↓] theorem aGx {x:Option AV}:gV (.d (.bool false)) false x=x:=(rfl)
@[simp ↓] theorem aGJ {x:Option AV}:gV (.d (.bool true)) false x=some (.tup []):=(rfl)
@[simp ↓] theorem aGP {x:Option AV}:gV (.d (.bool false)) true x=some (.tup []):=(rfl)
@[simp ↓] theorem aG3 {w:Bool}{x:Option AV}:gV (.tup []) w x=some (.tup []):=(rfl)
@[simp ↓] theorem aGk {hs:HS}{x:Option (AV×HS)}:gH (.d (.bool true)) true hs x=x:=(rfl)
@[simp ↓] theorem aGr {hs:HS}{x:Option (AV×HS)}:gH (.d (.bool false)) false hs x=x:=(rfl)
@[simp ↓] theorem aGT {hs:HS}{x:Option (AV×HS)}:gH (.d (.bool true)) false hs x=some (.tup [],hs):=(rfl)
@[simp ↓] theorem aGU {hs:HS}{x:Option (AV×HS)}:gH (.d (.bool false)) true hs x=some (.tup [],hs):=(rfl)
@[simp ↓] theorem aEz {a b:AV}:N2 (.d (.bool true)) a b=some a:=(rfl)
@[simp ↓] theorem aEl {a b:AV}:N2 (.d (.bool false)) a b=some b:=(rfl)
@[simp] theorem aFr {x:D}:firm (.d x)=.d x:=(rfl)
@[simp] theorem aE7:firm .nl=.nl:=(rfl)
@[simp] theorem aDF {p:Bool}{m:Nat}{xs:List (List D)}:firm (.own p m xs)=.own false m xs:=(rfl)
@[simp] theorem aCX {cs:List AV}:firm (.agg cs)=.agg (cs.map kM):=(rfl)
@[simp] theorem aDl {cs:List AV}:firm (.tup cs)=.tup (cs.map tP):=(rfl)
@[simp] theorem aDR {a b:Nat}:firm (.ptr a b)=.ptr a b:=(rfl)
@[simp] theorem aEd {a b c:Nat}:firm (.pel a b c)=.pel a b c:=(rfl)
@[simp] theorem aDp {a:List D}{b:Nat}:firm (.pim a b)=.pim a b:=(rfl)
@[simp] theorem aEK {a b c:Nat}:firm (.sl a b c)=.sl a b c:=(rfl)
@[simp] theorem aEQ {f:FuncId}{a b:List AV}:firm (.fn f a b)=.fn f a b:=(rfl)
@[simp] theorem aAQ {n:Nat}:firm (.yield n)=.yield n:=(rfl)
theorem mF {op:BinOp}{a b:AV}{x:D}(h:bE op a b=some (.d x)):cZ op a b=some x:=by simp only[cZ,h]
theorem vX {op:BinOp}{a b:AV}{c:Prop}[Decidable c] {x y:D}(h:bE op a b=if c then some (.d x) else some (.d y)):cZ op a b=if c then some x else some y:=by
 by_cases hc:c<;>simp[cZ,h,hc]
@[simp] theorem aFC {k:IntKind}{a b:Int}:cZ .add (.d (.int k a)) (.d (.int k b))=some (.int k (wr k (a+b))):=mF avk
@[simp] theorem aF8 {k:IntKind}{a b:Int}:cZ .sub (.d (.int k a)) (.d (.int k b))=some (.int k (wr k (a-b))):=mF avx
@[simp] theorem aFf {k:IntKind}{a b:Int}:cZ .mul (.d (.int k a)) (.d (.int k b))=some (.int k (wr k (a*b))):=mF avs
@[simp] theorem aFI {k:IntKind}{a b:Int}(h:b≠0):cZ .quo (.d (.int k a)) (.d (.int k b))=some (.int k (wr k (a.tdiv b))):=mF (avO h)
@[simp] theorem aFo {k:IntKind}{a b:Int}(h:b≠0):cZ .rem (.d (.int k a)) (.d (.int k b))=some (.int k (a.tmod b)):=mF (awr h)
@[simp] theorem aFs {k:IntKind}{a b:Int}:cZ .eql (.d (.int k a)) (.d (.int k b))=if a=b then some (.bool true) else some (.bool false):=vX avE
@[simp] theorem aFj {k:IntKind}{a b:Int}:cZ .neq (.d (.int k a)) (.d (.int k b))=if a=b then some (.bool false) else some (.bool true):=vX avD
@[simp] theorem aFA {k:IntKind}{a b:Int}:cZ .lss (.d (.int k a)) (.d (.int k b))=if a<b then some (.bool true) else some (.bool false):=vX awQ
@[simp] theorem aFl {k:IntKind}{a b:Int}:cZ .leq (.d (.int k a)) (.d (.int k b))=if a≤b then some (.bool true) else some (.bool false):=vX awT
@[simp] theorem aGb {k:IntKind}{a b:Int}:cZ .gtr (.d (.int k a)) (.d (.int k b))=if b<a then some (.bool true) else some (.bool false):=vX avC
@[simp] theorem aFn {k:IntKind}{a b:Int}:cZ .geq (.d (.int k a)) (.d (.int k b))=if b≤a then some (.bool true) else some (.bool false):=vX awL
@[simp] theorem nR {k j:IntKind}{a b:Int}(h:0≤b):cZ .shl (.d (.int k a)) (.d (.int j b))=some (.int k (wr k (a*((2 ^ (min b.toNat k.bits):Nat):Int)))):=mF (awI h)
@[simp] theorem gw {k j:IntKind}{a b:Int}(h:0≤b):cZ .shr (.d (.int k a)) (.d (.int j b))=some (.int k (a.fdiv ((2 ^ (min b.toNat k.bits):Nat):Int))):=mF (ava h)
@[simp] theorem aEE {a b:List UInt8}:cZ .eql (.d (.str a)) (.d (.str b))=if a=b then some (.bool true) else some (.bool false):=vX asL
theorem aAr {k:IntKind}{a b:Nat}(h:a<kB k) (h2:b<kB k) (h3:a ||| b<kB k):cZ .or (.d (.int k (a:Int))) (.d (.int k (b:Int)))=some (.int k ((a ||| b:Nat):Int)):=mF (axM h h2 h3)
theorem ark {k:IntKind}{a b:Nat}(h:a<kB k) (h2:b<kB k):cZ .and (.d (.int k (a:Int))) (.d (.int k (b:Int)))=some (.int k ((a &&& b:Nat):Int)):=mF (awW h h2)
theorem aqv {n b:Nat}(h:b≤1):2*n ||| b=2*n+b:=by
 have:=Nat.two_pow_add_eq_or_of_lt (i:=1) (b:=b) (by omega) n;simpa using this.symm
@[simp] theorem aFO {a b:Int}(h:0≤a) (h1:a<4611686018427387904) (h2:a % 2=0) (h3:0≤b) (h4:b≤1):cZ .or (.d (.int .i64 a)) (.d (.int .i64 b))=some (.int .i64 (a+b)):=by
 obtain⟨n,rfl⟩:∃ n:Nat,a=((2*n:Nat):Int):=⟨(a / 2).toNat,by omega⟩
 obtain⟨m,rfl⟩:=Int.eq_ofNat_of_zero_le h3;have hm:m≤1:=by omega
 have ht:kB .i64=9223372036854775808:=rfl;rw[aAr (by omega) (by omega) (by rw[aqv hm];omega),aqv hm];simp
@[simp] theorem aFb {b:Bool}:unD .not (.d (.bool b))=some (.bool !b):=(rfl)
@[simp] theorem aEC {k:IntKind}{n:Int}:unD .neg (.d (.int k n))=some (.int k (wr k (0-n))):=(rfl)
@[simp] theorem aEO {k j:IntKind}{n:Int}:Xk k (.d (.int j n))=some (.int k (wr k n)):=(rfl)
attribute [simp] ako aA6 ayV ay0 ayN
attribute [simp] asT atI arx aq9 IntKind.bits
@[simp] theorem aEG {h:ac}{m:Nat}{xs:List (List D)}{k:IntKind}{i:Int}(h0:0≤i):X4 h m (.d (.lst xs)) (.d (.int k i))=bA xs[i.toNat]? fun x=>if x.length=m then some (.pim x 0) else none:=by
 simp only[X4,NL h0,elems]
 cases xs[i.toNat]? with
 | none=>rfl
 | some x =>
  simp only[bA];by_cases hx:x.length=m
  ·simp[hx]
  ·simp[hx,abr]
@[simp] theorem aFt {h:ac}{m j:Nat}{xs:List (List D)}{k:IntKind}{i:Int}(h0:0≤i):X4 h m (.own false j xs) (.d (.int k i))=bA xs[i.toNat]? fun x=>if x.length=m then some (.pim x 0) else none:=by
 simp only[X4,NL h0,elems]
 cases xs[i.toNat]? with
 | none=>rfl
 | some x =>
  simp only[bA];by_cases hx:x.length=m
  ·simp[hx]
  ·simp[hx,abr]
attribute [simp] BT atZ aq6
@[simp] theorem aEk {h:ac}{n:Option Nat}{cs:List D}{o:Nat}:cP h n (.pim cs o)=jo n cs o:=by
 simp only[cP,loadAt];cases jo n cs o<;>rfl
@[simp] theorem aEh {cs:List D}{o:Nat}:jo none cs o=(cs[o]?).map .d:=by simp only[jo];cases cs[o]?<;>rfl
@[simp] theorem aDg {cs:List D}{n o:Nat}:jo (some n) cs o=if o+n≤cs.length then some (.agg ((sub cs o n).map .d)) else none:=by
 by_cases h:o+n≤cs.length<;>simp[jo,Z8,h]
@[simp] theorem gq0 {α:Type}{x:α}{r:List α}:(x::r)[0]?=some x:=(rfl)
@[simp] theorem aDC {f:FuncId}{vs:List AV}{h:ac}:bZ (Dn P) f vs h=bA (viewArgs h vs) fun ds=>bA (aM P f ds) fun v=>if vs.any nz=false then some v else if gz v=true then some v else some (IL v):=by
 simp only[bZ,aM,lU,bA]
 cases viewArgs h vs with
 | none=>rfl
 | some ds =>
  simp only
  cases (Dn P).call f ds ⟨[],0⟩ with
  | none=>rfl
  | some q =>
   obtain⟨v,h2⟩:=q;simp only
   cases eE h2.heap v with
   | none=>rfl
   | some v =>
    simp only
    cases vs.any nz with
    | false=>rfl
    | true=>simp only;cases gz v<;>rfl
@[simp] theorem aEA {x:D}:share (.d x)=.d x:=(rfl)
@[simp] theorem aCu  : share (.nl)=.nl:=(rfl)
@[simp] theorem aBe {m:Nat}{xs:List (List D)}:share (.own false m xs)=.d (.lst xs):=(rfl)
@[simp] theorem aB6 {cs:List AV}:share (.agg cs)=.agg (shareAll cs):=(rfl)
@[simp] theorem aBH {cs:List AV}:share (.tup cs)=.tup (shareAll cs):=(rfl)
@[simp] theorem aBK {a b:Nat}:share (.ptr a b)=.ptr a b:=(rfl)
@[simp] theorem aBW {a b c:Nat}:share (.pel a b c)=.pel a b c:=(rfl)
@[simp] theorem aBL {cs:List D}{b:Nat}:share (.pim cs b)=.pim cs b:=(rfl)
@[simp] theorem aDy {a b c:Nat}:share (.sl a b c)=.sl a b c:=(rfl)
@[simp] theorem aCx {f:FuncId}{a b:List AV}:share (.fn f a b)=.fn f a b:=(rfl)
@[simp] theorem azG {n:Nat}:share (.yield n)=.yield n:=(rfl)
@[simp] theorem azV  : shareAll []=[]:=(rfl)
@[simp] theorem aAv {v:AV}{r:List AV}:shareAll (v::r)=share v::shareAll r:=(by rw[jV])
@[simp] theorem aEi {x:D}:kM (.d x)=.d x:=(rfl)
@[simp] theorem aED {x:D}:tP (.d x)=.d x:=(rfl)
@[simp] theorem aEF {x:D}:AV.cells (.d x)=[.d x]:=(rfl)
@[simp] theorem aCO {x:D}:bJ (.d x)=true:=(rfl)
@[simp] theorem aCF {x:D}:xY (.d x)=bJ (.d x):=(rfl)
@[simp] theorem aFL {x:D}:oc (.d x)=false:=(rfl)
@[simp] theorem aEX {x:D}:nz (.d x)=false:=(rfl)
@[simp] theorem aDn {x:D}:jv (.d x)=.d x:=(rfl)
@[simp] theorem aDI {x:D}:km (.d x)=.d x:=(rfl)
@[simp] theorem aEa {x:D}:kP (.d x)=.d x:=(rfl)
@[simp] theorem aCQ  : kM (.nl)=.nl:=(rfl)
@[simp] theorem aCC  : tP (.nl)=.nl:=(rfl)
@[simp] theorem aC0  : AV.cells (.nl)=[.nl]:=(rfl)
@[simp] theorem aBF  : bJ (.nl)=true:=(rfl)
@[simp] theorem aEw  : oc (.nl)=false:=(rfl)
@[simp] theorem aDf  : nz (.nl)=false:=(rfl)
@[simp] theorem aCd  : ez (.nl)=true:=(rfl)
@[simp] theorem aBZ  : ij (.nl)=true:=(rfl)
@[simp] theorem aBt  : jv (.nl)=.nl:=(rfl)
@[simp] theorem aCq  : km (.nl)=.nl:=(rfl)
@[simp] theorem aB7 {p:Bool}{m:Nat}{xs:List (List D)}:kM (.own p m xs)=.own false m xs:=(rfl)
@[simp] theorem aBV {p:Bool}{m:Nat}{xs:List (List D)}:tP (.own p m xs)=.own false m xs:=(rfl)
@[simp] theorem aCm {p:Bool}{m:Nat}{xs:List (List D)}:AV.cells (.own p m xs)=[.own p m xs]:=(rfl)
@[simp] theorem aDc {p:Bool}{m:Nat}{xs:List (List D)}:oc (.own p m xs)=false:=(rfl)
@[simp] theorem aBD {p:Bool}{m:Nat}{xs:List (List D)}:nz (.own p m xs)=false:=(rfl)
@[simp] theorem aBT {cs:List AV}:tP (.agg cs)=.agg (cs.map kM):=(rfl)
@[simp] theorem aB4 {cs:List AV}:AV.cells (.agg cs)=cs:=(rfl)
@[simp] theorem aBq {cs:List AV}:nz (.agg cs)=cs.any oc:=(rfl)
@[simp] theorem aBv {a b:Nat}:AV.cells (.ptr a b)=[.ptr a b]:=(rfl)
@[simp] theorem aA2 {a b:Nat}:bJ (.ptr a b)=true:=(rfl)
@[simp] theorem aBr {a b:Nat}:Wy (.ptr a b)=some (.ptr a b):=(rfl)
@[simp] theorem aD4 {a b c:Nat}:kM (.sl a b c)=.sl a b c:=(rfl)
@[simp] theorem aCK {a b c:Nat}:tP (.sl a b c)=.sl a b c:=(rfl)
@[simp] theorem aCR {a b c:Nat}:AV.cells (.sl a b c)=[.sl a b c]:=(rfl)
@[simp] theorem aBz {a b c:Nat}:xY (.sl a b c)=bJ (.sl a b c):=(rfl)
@[simp] theorem aEN {a b c:Nat}:oc (.sl a b c)=true:=(rfl)
@[simp] theorem aCN {f:FuncId}{a b:List AV}:AV.cells (.fn f a b)=[.fn f a b]:=(rfl)
@[simp] theorem aBE {xs:List (List D)}:lenOf (.d (.lst xs))=some xs.length:=(rfl)
@[simp] theorem aCZ  : lenOf .nl=some 0:=(rfl)
@[simp] theorem aBR {p:Bool}{m:Nat}{xs:List (List D)}:lenOf (.own p m xs)=some xs.length:=(rfl)
@[simp] theorem aDz {a b n:Nat}:lenOf (.sl a b n)=some n:=(rfl)
@[simp] theorem aqt {h:ac}{xs:List (List D)}:elems h (.d (.lst xs))=some xs:=(rfl)
@[simp] theorem aCs {h:ac}{m:Nat}{xs:List (List D)}:elems h (.own false m xs)=some xs:=(rfl)
@[simp] theorem aAn {o a b:Nat}:gy o (.ptr a b)=some (.ptr a (b+o)):=(rfl)
@[simp] theorem aAX {o b:Nat}{cs:List D}:gy o (.pim cs b)=some (.pim cs (b+o)):=(rfl)
@[simp] theorem aFV {cs:List AV}{i:Nat}:rL true (.tup cs) i=cs[i]?:=(by simp only[rL];cases cs[i]?<;>rfl)
@[simp] theorem aFJ {cs:List AV}{i:Nat}:rL false (.tup cs) i=(cs[i]?).map share:=(by simp only[rL];cases cs[i]?<;>rfl)
@[simp] theorem aFT {cs:List AV}{i:Nat}:HY (.tup cs) i=.tup (cs.set i .junk):=(rfl)
@[simp] theorem aGS {x:D}:xx (.d x)=some x:=(rfl)
@[simp] theorem aFW  : xx .nl=some (.lst []):=(rfl)
@[simp] theorem aET {m:Nat}{xs:List (List D)}:xx (.own false m xs)=some (.lst xs):=(rfl)
@[simp] theorem aFq  : ie []=some []:=(rfl)
@[simp] theorem aFM {v:AV}{r:List AV}:ie (v::r)=bA (xx v) fun x=>bA (ie r) fun xs=>some (x::xs):=(by
 simp only[ie]
 cases xx v with
 | none=>rfl
 | some q=>simp only[bA];cases ie r<;>rfl)
@[simp] theorem aBO {m:Nat}:ft m []=some []:=(rfl)
@[simp] theorem aB3 {m:Nat}{v:AV}{r:List AV}:ft m (v::r)=if v.cells.length=m then bA (ie v.cells) fun x=>bA (ft m r) fun xs=>some (x::xs) else none:=(by
 by_cases h:v.cells.length=m
 ·simp only[ft,abr,h,decide_true,if_true]
  cases ie v.cells with
  | none=>rfl
  | some q=>simp only[bA];cases ft m r<;>rfl
 ·simp only[ft,abr,h,decide_false,if_false])
@[simp] theorem azE {cs:List AV}:ck cs []=some cs:=(rfl)
@[simp] theorem azC {cs:List AV}{o n:Nat}{v:AV}{r:List (Nat×Nat×AV)}:ck cs ((o,n,v)::r)=if v.cells.length=n∧xY v=true∧o+n≤cs.length then ck (ah cs o v.cells) r else none:=(by
 simp only[ck,abr,Z8];by_cases h:v.cells.length=n<;>by_cases h2:xY v=true<;>by_cases h3:o+n≤cs.length<;>simp[h,h2,h3])
theorem It {α:Type}{cs vs:List α}{o:Nat}:ah cs o vs=cs.take o++vs++cs.drop (o+vs.length):=(rfl)
attribute [simp] It
theorem anZ {α:Type}{cs:List α}{o n:Nat}:sub cs o n=(cs.drop o).take n:=(rfl)
attribute [simp] anZ
@[simp] theorem aCk {h:ac}{x:D}:viewOne h (.d x)=some (.d x):=(rfl)
@[simp] theorem aA0 {h:ac}:viewOne h .nl=some .nl:=(rfl)
@[simp] theorem azA {h:ac}{m:Nat}{xs:List (List D)}:viewOne h (.own false m xs)=some (.d (.lst xs)):=(rfl)
@[simp] theorem aAN {h:ac}{a b c:Nat}:viewOne h (.sl a b c)=bA (elems h (.sl a b c)) fun xs=>some (.d (.lst xs)):=(by simp only[viewOne];cases elems h (.sl a b c)<;>rfl)
@[simp] theorem aCo {h:ac}:viewAll h []=some []:=(rfl)
@[simp] theorem aBQ {h:ac}{v:AV}{r:List AV}:viewAll h (v::r)=bA (viewOne h v) fun x=>bA (viewAll h r) fun xs=>some (x::xs):=(by
 simp only[viewAll]
 cases viewOne h v with
 | none=>rfl
 | some q=>simp only[bA];cases viewAll h r<;>rfl)
@[simp] theorem aB0 {h:ac}{x:D}:viewArg h (.d x)=viewOne h (.d x):=(rfl)
@[simp] theorem aBj {h:ac}  : viewArg h (.nl)=viewOne h (.nl):=(rfl)
@[simp] theorem azy {h:ac}{p:Bool}{m:Nat}{xs:List (List D)}:viewArg h (.own p m xs)=viewOne h (.own p m xs):=(rfl)
@[simp] theorem azB {h:ac}{cs:List AV}:viewArg h (.agg cs)=bA (viewAll h cs) fun xs=>some (.agg xs):=(by simp only[viewArg];cases viewAll h cs<;>rfl)
@[simp] theorem aAL {h:ac}:viewArgs h []=some []:=(rfl)
@[simp] theorem aAF {h:ac}{v:AV}{r:List AV}:viewArgs h (v::r)=bA (viewArg h v) fun x=>bA (viewArgs h r) fun xs=>some (x::xs):=(by
 simp only[viewArgs]
 cases viewArg h v with
 | none=>rfl
 | some q=>simp only[bA];cases viewArgs h r<;>rfl)
@[simp] theorem aEf {h:ac}{x:D}:fR h (.d x)=some (.d x,h):=(rfl)
@[simp] theorem aCb {h:ac}:fR h .nl=some (.nl,h):=(rfl)
@[simp] theorem aBm {h:ac}{p:Bool}{m:Nat}{xs:List (List D)}:fR h (.own p m xs)=some (.own p m xs,h):=(rfl)
@[simp] theorem aCz {h:ac}:lC h []=some ([],h):=(rfl)
@[simp] theorem aD1 {h:ac}{v:AV}{r:List AV}:lC h (v::r)=bP (fR h v) fun x h=>bP (lC h r) fun xs h=>some (x::xs,h):=(by simp only[lC];cases fR h v with
 | none=>rfl
 | some q=>simp only[bP];cases lC q.2 r<;>rfl)
@[simp] theorem aBp {h:ac}{cs:List AV}:dE h (.agg cs)=bP (lC h cs) fun xs h=>some (.agg xs,h):=(by simp only[dE];cases lC h cs<;>rfl)
@[simp] theorem aC5 {h:ac}{x:D}:dE h (.d x)=fR h (.d x):=(rfl)
@[simp] theorem aCf {h:ac}  : dE h (.nl)=fR h (.nl):=(rfl)
@[simp] theorem azN {h:ac}{p:Bool}{m:Nat}{xs:List (List D)}:dE h (.own p m xs)=fR h (.own p m xs):=(rfl)
@[simp] theorem aCr {h:ac}{a b c:Nat}:dE h (.sl a b c)=fR h (.sl a b c):=(rfl)
@[simp] theorem aCl {h:ac}:lk h []=some ([],h):=(rfl)
@[simp] theorem aBJ {h:ac}{v:AV}{r:List AV}:lk h (v::r)=bP (dE h v) fun x h=>bP (lk h r) fun xs h=>some (x::xs,h):=(by simp only[lk];cases dE h v with
 | none=>rfl
 | some q=>simp only[bP];cases lk q.2 r<;>rfl)
@[simp] theorem VY {h:ac}{cs:List AV}:eE h (.tup cs)=bP (lk h cs) fun xs _=>some (eu (.tup xs)):=(by simp only[eE];cases lk h cs<;>rfl)
@[simp] theorem aD6 {h:ac}{x:D}:eE h (.d x)=bP (dE h (.d x)) fun x _=>some (eu x):=(by simp only[eE];cases dE h (.d x)<;>rfl)
@[simp] theorem aAz {h:ac}{p:Bool}{m:Nat}{xs:List (List D)}:eE h (.own p m xs)=bP (dE h (.own p m xs)) fun x _=>some (eu x):=(by simp only[eE];cases dE h (.own p m xs)<;>rfl)
@[simp] theorem aBi {h:ac}{cs:List AV}:eE h (.agg cs)=bP (dE h (.agg cs)) fun x _=>some (eu x):=(by simp only[eE];cases dE h (.agg cs)<;>rfl)
@[simp] theorem aBB {h:ac}{a b c:Nat}:eE h (.sl a b c)=bP (dE h (.sl a b c)) fun x _=>some (eu x):=(by simp only[eE];cases dE h (.sl a b c)<;>rfl)
@[simp] theorem aB5 {v:AV}:eu v=if gz v=true then kP v else v:=(by simp only[eu];cases gz v<;>rfl)
@[simp] theorem aCA {x:D}:ez (.d x)=jK x:=(rfl)
@[simp] theorem azX {p:Bool}{m:Nat}{xs:List (List D)}:ez (.own p m xs)=xs.all fun e=>e.all jK:=(rfl)
@[simp] theorem aBM {k:IntKind}{n:Int}:jK (.int k n)=true:=(rfl)
@[simp] theorem aA3 {b:Bool}:jK (.bool b)=true:=(rfl)
@[simp] theorem aBX {xs:List (List D)}:jK (.lst xs)=false:=(rfl)
@[simp] theorem aAo {cs:List AV}:ij (.agg cs)=cs.all ez:=(rfl)
@[simp] theorem aDu {x:D}:ij (.d x)=jK x:=(rfl)
@[simp] theorem az6 {cs:List AV}:gz (.agg cs)=cs.all ez:=(rfl)
@[simp] theorem aC9 {x:D}:gz (.d x)=jK x:=(rfl)
@[simp] theorem az7 {cs:List AV}:gz (.tup cs)=cs.all ij:=(rfl)
@[simp] theorem aAS {p:Bool}{m:Nat}{xs:List (List D)}:jv (.own p m xs)=.own true m xs:=(rfl)
@[simp] theorem aBa {p:Bool}{m:Nat}{xs:List (List D)}:km (.own p m xs)=.own true m xs:=(rfl)
@[simp] theorem azQ {p:Bool}{m:Nat}{xs:List (List D)}:kP (.own p m xs)=.own true m xs:=(rfl)
@[simp] theorem aAq {cs:List AV}:km (.agg cs)=.agg (cs.map jv):=(rfl)
@[simp] theorem azZ {cs:List AV}:kP (.agg cs)=.agg (cs.map jv):=(rfl)
@[simp] theorem aA5 {cs:List AV}:kP (.tup cs)=.tup (cs.map km):=(rfl)
@[simp] theorem aEj {i:Nat}:fX i []=[]:=(rfl)
@[simp] theorem aEy {i:Nat}{v:AV}{r:List AV}:fX i (v::r)=(i,v)::fX (i+1) r:=by
 have h:∀ (i:Nat) (r:List AV),put (fX (i+1) r) i v=(i,v)::fX (i+1) r:=fun i r=>by
  have:∃ q,fX (i+1) r=q∧∀ p∈q,Nat.blt i p.1=true:=⟨_,rfl,by
   have aux:∀ (r:List AV) (j:Nat),i<j→∀ p∈fX j r,Nat.blt i p.1=true:=by
    intro r
    induction r with
    | nil=>intro j hj p hp;simp[fX]at hp
    | cons w r ih =>
     intro j hj p hp;simp only[fX]at hp;rcases ad0 hp with rfl | hp
     ·rw[Nat.blt,Nat.ble_eq];exact hj
     ·exact ih (j+1) (by omega) p hp
   exact aux r (i+1) (by omega)⟩
  obtain⟨q,hq,hp⟩:=this;rw[hq]
  cases q with
  | nil=>rfl
  | cons p q =>
   obtain⟨k,u⟩:=p;have hk:i<k:=by have:=hp _ (.head _);rw[Nat.blt,Nat.ble_eq]at this;exact this
   rw[md,if_neg (by omega),if_pos (by omega)]
 exact h i r
@[simp] theorem aB9 {st:St}:cQ st []=some ([],st):=(rfl)
def asv (x:Option AV) (t:Nat) (st:St) (r:List mb):Option (List AV×St) :=
 match x with
 | some v=>bP (cQ ⟨del st.env t,st.hs⟩ r) fun vs st=>some (v::vs,st)
 | none=>none
@[simp] theorem aBP {t:Nat}{st:St}{r:List mb}:cQ st (.tmp t::r)=asv (get st.env t) t st r:=(by
 simp only[cQ,asv]
 cases get st.env t with
 | none=>rfl
 | some v=>simp only;cases cQ ⟨del st.env t,st.hs⟩ r<;>rfl)
@[simp] theorem aFE {v:AV}{t:Nat}{e:ao}{hs:HS}{r:List mb}:asv (some v) t ⟨e,hs⟩ r=bP (cQ ⟨del e t,hs⟩ r) fun vs st=>some (v::vs,st):=(rfl)
def aso (x:Option AV) (t:Nat) (n:Option Nat) (st:St) (r:List mb):Option (List AV×St) :=
 match x with
 | some (.ptr id 0)=>bP (loadAt st.hs.heap n 1 (.ptr id 0)) fun v h=>bP (cQ ⟨del st.env t,⟨del h id,st.hs.next⟩⟩ r) fun vs st=>some (v::vs,st)
 | _=>none
@[simp] theorem aCc {t:Nat}{n:Option Nat}{st:St}{r:List mb}:cQ st (.cell t n::r)=aso (get st.env t) t n st r:=(by
 simp only[cQ,aso]
 cases get st.env t with
 | none=>rfl
 | some v =>
  cases v<;>try rfl
  rename_i id off
  cases off with
  | succ k=>rfl
  | zero =>
   simp only
   cases loadAt st.hs.heap n 1 (.ptr id 0) with
   | none=>rfl
   | some q=>simp only[bP];cases cQ _ r<;>rfl)
@[simp] theorem aF6 {id t:Nat}{n:Option Nat}{e:ao}{hs:HS}{r:List mb}:aso (some (.ptr id 0)) t n ⟨e,hs⟩ r=bP (loadAt hs.heap n 1 (.ptr id 0)) fun v h=>bP (cQ ⟨del e t,⟨del h id,hs.next⟩⟩ r) fun vs st=>some (v::vs,st):=(rfl)
theorem aqV {l:List Int}:((ai l).all fun e=>e.all jK)=true:=by simp[ai]
theorem apE {l:List Nat}:((af l).all fun e=>e.all jK)=true:=by simp[af]
theorem apq {l:List Bool}:((NM l).all fun e=>e.all jK)=true:=by simp[NM]
attribute [simp] aqV apE apq
attribute [simp] aql
attribute [simp] azg ayD ayI ayd
variable {P:Nat→Option ae}
inductive R (α:Type) where
 | ok (v:α) (n:Nat)
 | er (e:Nat)
open Classical in
def rK {α γ:Type}(p:α→Nat→Prop) (r:R α) (f:α→Nat→γ) (g:Nat→γ):γ :=
 match r with
 | .ok v n=>if p v n then f v n else g 0
 | .er e=>g e
theorem fA {α γ:Type}{p q:α→Nat→Prop}{r:R α}{f f2:α→Nat→γ}{g g2:Nat→γ}(hp:∀ v n,p v n=q v n) (h:∀ v n,q v n→f v n=f2 v n) (k:∀ e,g e=g2 e):rK p r f g=rK q r f2 g2:=by
 have:p=q:=funext fun v=>funext fun n=>hp v n
 subst this
 cases r with
 | ok v n =>
  simp only[rK];split
  ·exact h _ _ ‹_›
  ·exact k 0
 | er e=>exact k e
attribute [congr] fA
theorem pK {α γ δ:Type}{p:α→Nat→Prop}{r:R α}{f:α→Nat→γ}{g:Nat→γ}(k:γ→δ):k (rK p r f g)=rK p r (fun v n=>k (f v n)) fun e=>k (g e):=by
 cases r with
 | ok v n=>simp only[rK];split<;>rfl
 | er e=>rfl
section
variable {α:Type}{p:α→Nat→Prop}{r:R α}
@[simp ↓] theorem ayn {f:α→Nat→Option (aX×St)}{g:Nat→Option (aX×St)}{b:VC}:rl P (rK p r f g) b=rK p r (fun v n=>rl P (f v n) b) fun e=>rl P (g e) b:=pK fun x=>rl P x b
@[simp ↓] theorem ayK {f:α→Nat→Option (aX×St)}{g:Nat→Option (aX×St)}{i:Nat}:pE i (rK p r f g)=rK p r (fun v n=>pE i (f v n)) fun e=>pE i (g e):=pK (pE i)
@[simp ↓] theorem anu {f:α→Nat→Option (aX×St)}{g:Nat→Option (aX×St)}{a:VC}:kF P a (rK p r f g)=rK p r (fun v n=>kF P a (f v n)) fun e=>kF P a (g e):=pK (kF P a)
@[simp ↓] theorem aGg {f:α→Nat→Option St}{g:Nat→Option St}:bp (rK p r f g)=rK p r (fun v n=>bp (f v n)) fun e=>bp (g e):=pK bp
@[simp ↓] theorem aFD {f:α→Nat→Option (aX×St)}{g:Nat→Option (aX×St)}{rs:List mb}:oA rs (rK p r f g)=rK p r (fun v n=>oA rs (f v n)) fun e=>oA rs (g e):=pK (oA rs)
@[simp ↓] theorem aFh {f:α→Nat→Option (AV×HS)}{g:Nat→Option (AV×HS)}:lU (rK p r f g)=rK p r (fun v n=>lU (f v n)) fun e=>lU (g e):=pK lU
@[simp ↓] theorem aG9 {γ β:Type}{f:α→Nat→Option γ}{g:Nat→Option γ}{k:γ→Option β}:bA (rK p r f g) k=rK p r (fun v n=>bA (f v n) k) fun e=>bA (g e) k:=pK fun x=>bA x k
@[simp ↓] theorem aG8 {γ δ β:Type}{f:α→Nat→Option (γ×δ)}{g:Nat→Option (γ×δ)}{k:γ→δ→Option β}:bP (rK p r f g) k=rK p r (fun v n=>bP (f v n) k) fun e=>bP (g e) k:=pK fun x=>bP x k
@[simp] theorem eK {γ:Type}{f:α→Nat→γ}{g:Nat→γ}{e:Nat}:rK p (.er e) f g=g e:=(rfl)
theorem cu {γ:Type}{f:α→Nat→γ}{g:Nat→γ}{v:α}{n:Nat}(h:p v n):rK p (.ok v n) f g=f v n:=by simp only[rK,if_pos h]
@[simp] theorem aGD {γ:Type}{f:α→Nat→γ}{g:Nat→γ}{c:Prop}[Decidable c] {x y:R α}:rK p (if c then x else y) f g=if c then rK p x f g else rK p y f g:=by split<;>rfl
end
theorem auL {α:Type}{a b:Prop}[Decidable a] [Decidable b] {x y:α}(h:b↔¬ a):(if a then x else y)=if b then y else x:=by
 by_cases ha:a
 ·rw[if_pos ha,if_neg (fun hb=>h.1 hb ha)]
 ·rw[if_neg ha,if_pos (h.2 ha)]
theorem auR {α:Type}{a b:Prop}[Decidable a] [Decidable b] {x y:α}(h:a↔b):(if a then x else y)=if b then x else y:=by
 by_cases ha:a
 ·rw[if_pos ha,if_pos (h.1 ha)]
 ·rw[if_neg ha,if_neg (fun hb=>ha (h.2 hb))]
def cellsOf:Obj→Option (List AV)
 | .cells cs=>some cs
 | _=>none
def an9:Obj→Option (List (List D))
 | .arr _ xs=>some xs
 | _=>none
@[simp ↓] theorem aB1 {cs:List AV}:cellsOf (.cells cs)=some cs:=(rfl)
@[simp ↓] theorem aE4 {m:Nat}{xs:List (List D)}:an9 (.arr m xs)=some xs:=(rfl)
@[simp] theorem aEq {h:ac}{id off:Nat}:cP h none (.ptr id off)=bA (get h id) fun o=>bA (cellsOf o) fun cs=>bA cs[off]? fun v=>some (share v):=by
 simp only[cP,loadAt]
 cases get h id with
 | none=>rfl
 | some o =>
  cases o<;>try rfl
  rename_i cs;simp only[bA,cellsOf]
  cases cs[off]?<;>rfl
@[simp] theorem aCv {h:ac}{id off n:Nat}:cP h (some n) (.ptr id off)=bA (get h id) fun o=>bA (cellsOf o) fun cs=>bI (Nat.ble (off+n) cs.length) (some (.agg (shareAll (sub cs off n)))):=by
 simp only[cP,loadAt]
 cases get h id with
 | none=>rfl
 | some o =>
  cases o<;>try rfl
  rename_i cs;simp only[bA,cellsOf]
  cases Nat.ble (off+n) cs.length<;>rfl
@[simp] theorem aBf {h:ac}{id off t:Nat}:loadAt h none (t+1) (.ptr id off)=bA (get h id) fun o=>bA (cellsOf o) fun cs=>bA cs[off]? fun v=>some ((kH (t+1) v).1,put h id (.cells (cs.set off (kH (t+1) v).2))):=by
 simp only[loadAt]
 cases get h id with
 | none=>rfl
 | some o =>
  cases o<;>try rfl
  rename_i cs;simp only[bA,cellsOf]
  cases cs[off]?<;>rfl
@[simp] theorem azH {h:ac}{id off n t:Nat}:loadAt h (some n) (t+1) (.ptr id off)=bA (get h id) fun o=>bA (cellsOf o) fun cs=>bI (Nat.ble (off+n) cs.length) (some (.agg (cU (t+1) (sub cs off n)).1,put h id (.cells (ah cs off (cU (t+1) (sub cs off n)).2)))):=by
 simp only[loadAt]
 cases get h id with
 | none=>rfl
 | some o =>
  cases o<;>try rfl
@[simp] theorem azz {h:ac}{id off n:Nat}{x:AV}:storeAt h n (.ptr id off) x=bI (Nat.beq x.cells.length n) (bA (get h id) fun o=>bA (cellsOf o) fun cs=>bI (Nat.ble (off+n) cs.length && x.cells.all bJ) (some (put h id (.cells (ah cs off x.cells))))):=by
 simp only[storeAt]
 cases Nat.beq x.cells.length n with
 | false=>rfl
 | true =>
  simp only[bI]
  cases get h id with
  | none=>rfl
  | some o =>
   cases o<;>try rfl
@[simp ↓] theorem ac5 {β:Type}{a b:Nat}{x:Option β}:bI (Nat.ble a b) x=if a≤b then x else none:=by
 rw[Z8];by_cases h:a≤b<;>simp[h]
@[simp ↓] theorem anl {β:Type}{a b:Nat}{x:Option β}:bI (Nat.beq a b) x=if a=b then x else none:=by
 rw[abr];by_cases h:a=b<;>simp[h]
@[simp ↓] theorem amR {β:Type}{a b:Bool}{x:Option β}:bI (a && b) x=bI a (bI b x):=by
 cases a<;>cases b<;>rfl
attribute [simp] kH cU sub ah bJ
def scK (P:Nat→Option ae) (a:VC) (x:Option (aX×St)):Option (aX×St) :=
 match x with
 | some (.goto l,st)=>match nq a l with
  | some rest=>(Dn P).code (.inScope a rest) st
  | none=>some (.goto l,st)
 | x=>x
@[simp ↓] theorem aBl {a:VC}{st:St}:(Dn P).code (.scope a) st=(Dn P).code (.inScope a a) st:=by rw[dZ];rfl
theorem awF {a c:VC}{st:St}:(Dn P).code (.inScope a c) st=scK P a ((Dn P).code c st):=by
 rw[dZ];rfl
@[simp ↓] theorem aGl {a:VC}{st:St}:scK P a (some (.ret,st))=some (.ret,st):=(rfl)
theorem ayF {a:VC}{x y:Option (aX×St)}(h:x=y):scK P a x=scK P a y:=by rw[h]
attribute [congr] ayF
theorem sn {f:FuncId}{args:List AV}{v:AV}(n:Nat) (h:lU ((run P n).call f args ⟨[],0⟩)=some v):aM P f args=some v:=by
 cases hx:(run P n).call f args ⟨[],0⟩ with
 | none=>rw[hx]at h;simp[lU]at h
 | some q=>rw[hx]at h;rw[aM,Sy hx,h]
theorem Bl {α:Type}{f:FuncId}{a:α→List AV}{v:α→AV}(n:Nat) (l:List α) (h:(l.map fun x=>lU ((run P n).call f (a x) ⟨[],0⟩))=l.map fun x=>some (v x)) (x:α) (hx:x∈l):aM P f (a x)=some (v x) :=
 sn n (List.map_inj_left.1 h x hx)
def bf (l:List Nat):List (List D):=l.map fun n=>[.int .i64 (n:Nat)]
@[simp] theorem aDt {l:List Nat}:(bf l).length=l.length:=by simp[bf]
@[simp] theorem wA {l:List Nat}{i:Nat}(h:i<l.length):(bf l)[i]?=some [.int .i64 (nth l i:Nat)]:=by simp[bf,sD h]
@[simp high] theorem azD {p:Bool}{m:Nat}{l:List Nat}:ez (.own p m (bf l))=true:=by simp[ez,bf,jK]
@[simp high] theorem Ry {p:Bool}{m:Nat}{l:List Int}:ez (.own p m (ai l))=true:=by simp[ez,ai,jK]
@[simp high] theorem azL {p:Bool}{m:Nat}{l:List Int}:ij (.own p m (ai l))=true:=Ry (p:=p) (m:=m)
@[simp high] theorem azI {p:Bool}{m:Nat}{l:List Int}:gz (.own p m (ai l))=true:=Ry (p:=p) (m:=m)
@[simp high] theorem Q9 {p:Bool}{m:Nat}{l:List Nat}:ez (.own p m (af l))=true:=by simp[ez,af,jK]
@[simp high] theorem azF {p:Bool}{m:Nat}{l:List Nat}:ij (.own p m (af l))=true:=Q9 (p:=p) (m:=m)
@[simp high] theorem azK {p:Bool}{m:Nat}{l:List Nat}:gz (.own p m (af l))=true:=Q9 (p:=p) (m:=m)
@[simp] theorem aBS {a:List Int}{x:Int}:ai a++[[.int .i64 x]]=ai (a++[x]):=by simp[ai]
@[simp] theorem aiW {a b:List Nat}:af a++af b=af (a++b):=by simp[af]
@[simp] theorem aBC {a:List Nat}{x:Nat}:af a++[[.int .u8 (x:Int)]]=af (a++[x]):=by simp[af]
@[simp] theorem aFm {k:IntKind}{a b:Int}:FV true [.d (.int k a),.d (.int k b)]=if a<b then some (.d (.int k b)) else some (.d (.int k a)):=by
 have:kh k k=true:=by cases k<;>rfl
 simp only[FV,xJ,CO,this];by_cases h:a<b<;>simp[h]
def iaO (o:Obj) (n id j:Nat):Option AV :=
 match o with
 | .arr m _=>bI (Nat.beq m n) (some (.pel id j 0))
 | .cells _=>bI (Nat.beq n 1) (some (.ptr id j))
 | _=>none
@[simp ↓] theorem aGz {m n id j:Nat}{xs:List (List D)}:iaO (.arr m xs) n id j=bI (Nat.beq m n) (some (.pel id j 0)):=(rfl)
@[simp ↓] theorem aGo {n id j:Nat}{cs:List AV}:iaO (.cells cs) n id j=bI (Nat.beq n 1) (some (.ptr id j)):=(rfl)
@[simp] theorem aGA {h:ac}{n id off len:Nat}{k:IntKind}{i:Int}(h0:0≤i) (h1:i.toNat<len):X4 h n (.sl id off len) (.d (.int k i))=bA (get h id) fun o=>iaO o n id (off+i.toNat):=by
 have:Nat.ble len i.toNat=false:=by rw[Z8];simp;omega
 simp only[X4,NL h0,this]
 cases get h id with
 | none=>rfl
 | some o =>
  cases o with
  | cells cs=>simp only[bA,iaO];cases Nat.beq n 1<;>rfl
  | arr m xs=>simp only[bA,iaO];cases Nat.beq m n<;>rfl
  | loop=>rfl
@[simp] theorem aEU {h:ac}{id i off:Nat}{n:Option Nat}:cP h n (.pel id i off)=bA (get h id) fun o=>bA (an9 o) fun xs=>bA xs[i]? fun x=>jo n x off:=by
 simp only[cP,loadAt]
 cases get h id with
 | none=>rfl
 | some o =>
  cases o<;>try rfl
  rename_i m xs;simp only[bA,an9]
  cases xs[i]? with
  | none=>rfl
  | some x=>simp only;cases jo n x off<;>rfl
def stO (o:Obj) (h:ac) (n id i off:Nat) (ds:List D):Option ac :=
 match o with
 | .arr m xs=>bA xs[i]? fun e=>bI (Nat.ble (off+n) e.length) (some (put h id (.arr m (xs.set i (ah e off ds)))))
 | _=>none
@[simp ↓] theorem aGF {h:ac}{m n id i off:Nat}{ds:List D}{xs:List (List D)}:stO (.arr m xs) h n id i off ds=bA xs[i]? fun e=>bI (Nat.ble (off+n) e.length) (some (put h id (.arr m (xs.set i (ah e off ds))))):=(rfl)
@[simp] theorem azM {h:ac}{id i off n:Nat}{x:AV}:storeAt h n (.pel id i off) x=bI (Nat.beq x.cells.length n) (bA (ie x.cells) fun ds=>bA (get h id) fun o=>stO o h n id i off ds):=by
 simp only[storeAt]
 cases Nat.beq x.cells.length n with
 | false=>rfl
 | true =>
  simp only[bI]
  cases ie x.cells with
  | none=>rfl
  | some ds =>
   simp only[bA]
   cases get h id with
   | none=>rfl
   | some o =>
    cases o<;>try rfl
    rename_i m xs;simp only[stO]
    cases xs[i]? with
    | none=>rfl
    | some e=>simp only[bA];cases Nat.ble (off+n) e.length<;>rfl
@[simp] theorem aqA {l:List Int}{i:Nat}:(ai l).take i=ai (l.take i):=by simp[ai]
@[simp] theorem arI {l:List Int}{i:Nat}:(ai l).drop i=ai (l.drop i):=by simp[ai]
@[simp] theorem aCi {l:List Nat}{i:Nat}:(bf l).take i=bf (l.take i):=by simp[bf]
@[simp] theorem akn {l:List Int}{i:Nat}{x:Int}:(ai l).set i [.int .i64 x]=ai (l.set i x):=by simp[ai,List.map_set]
@[simp] theorem aDX {l:List Nat}{i:Nat}{x:Nat}:(bf l).set i [.int .i64 (x:Int)]=bf (l.set i x):=by simp[bf,List.map_set]
def elO (o:Obj):Option (List (List D)) :=
 match o with
 | .arr _ xs=>some xs
 | .cells cs=>bA (ie cs) fun ds=>some (Fm ds)
 | _=>none
@[simp ↓] theorem aGv {m:Nat}{xs:List (List D)}:elO (.arr m xs)=some xs:=(rfl)
@[simp] theorem aDK {h:ac}{id off len:Nat}:elems h (.sl id off len)=bA (get h id) fun o=>bA (elO o) fun xs=>bI (Nat.ble (off+len) xs.length) (some (sub xs off len)):=by
 simp only[elems,objElems]
 cases get h id with
 | none=>rfl
 | some o =>
  cases o with
  | cells cs =>
   simp only[bA,elO]
   cases ie cs with
   | none=>rfl
   | some ds=>simp only;cases Nat.ble (off+len) (Fm ds).length<;>rfl
  | arr m xs=>simp only[bA,elO];cases Nat.ble (off+len) xs.length<;>rfl
  | loop=>rfl
attribute [simp] Fm
@[simp] theorem aFG {m:Nat}{h:ac}{a b:AV}:acs m h a b=bA (elems h b) fun ys=>bI (dt m ys) (cf m h a ys):=by
 simp only[acs]
 cases elems h b with
 | none=>rfl
 | some ys=>simp only[bA];cases dt m ys<;>rfl
@[simp] theorem ant {m k:Nat}{p:Bool}{h:ac}{xs ys:List (List D)}:cf m h (.own p k xs) ys=bI (Nat.ble ys.length aq) (bI (Nat.beq k m && Nat.ble (xs.length+ys.length) aq) (some (.own false m (xs++ys),h))):=by
 simp only[cf]
 cases Nat.ble ys.length aq with
 | false=>rfl
 | true=>simp only[bI];cases Nat.beq k m && Nat.ble (xs.length+ys.length) aq<;>rfl
@[simp] theorem aw4 {m:Nat}{h:ac}{y:List D}{r:List (List D)}:cf m h .nl (y::r)=bI (Nat.ble (r.length+1) aq) (some (.own true m (y::r),h)):=by
 simp only[cf,List.length_cons]
 cases Nat.ble (r.length+1) aq<;>rfl
def atX (o:Obj) (m:Nat) (h:ac) (id off len:Nat) (ys:List (List D)):Option (AV×ac) :=
 match o with
 | .arr k xs=>bI (Nat.beq k m && Nat.ble (off+len) xs.length && Nat.ble (len+ys.length) aq) (some (.own true m (sub xs off len++ys),del h id))
 | _=>none
@[simp ↓] theorem aFX {k m id off len:Nat}{h:ac}{xs ys:List (List D)}:atX (.arr k xs) m h id off len ys=bI (Nat.beq k m && Nat.ble (off+len) xs.length && Nat.ble (len+ys.length) aq) (some (.own true m (sub xs off len++ys),del h id)):=(rfl)
@[simp] theorem aFx {m id off len:Nat}{h:ac}{ys:List (List D)}:cf m h (.sl id off len) ys=bI (Nat.ble ys.length aq) (bA (get h id) fun o=>atX o m h id off len ys):=by
 simp only[cf]
 cases Nat.ble ys.length aq with
 | false=>rfl
 | true =>
  simp only[bI]
  cases get h id with
  | none=>rfl
  | some o =>
   cases o with
   | arr k xs=>simp only[bA,atX];cases Nat.beq k m && Nat.ble (off+len) xs.length && Nat.ble (len+ys.length) aq<;>rfl
   | cells cs=>rfl
   | loop=>rfl
attribute [simp] aq
theorem aaS {α:Type}{f:α→D}:∀ {l:List α},dt 1 (l.map fun x=>[f x])=true
 | []=>rfl
 | x::r=>by simp only[List.map_cons,dt,List.length_cons,List.length_nil];exact aaS
@[simp] theorem asR {l:List Int}:dt 1 (ai l)=true:=aaS
@[simp] theorem aEg {l:List Nat}:dt 1 (af l)=true:=aaS
@[simp] theorem aGH {m:Nat}:dt m []=true:=(rfl)
@[simp] theorem aGm {m:Nat}{x:List D}{r:List (List D)}:dt m (x::r)=(Nat.beq x.length m && dt m r):=by
 simp only[dt];cases Nat.beq x.length m<;>rfl
mutual
theorem akI:∀ d:D,JJ d d=true
 | .int k n=>by simp[JJ,QS]
 | .bool b=>by simp[JJ]
 | .str s=>by simp[JJ]
 | .lst xs=>by rw[JJ];exact eqDss_self xs
theorem Mj:∀ l:List D,M6 l l=true
 | []=>rfl
 | a::r=>by rw[M6,akI a,Mj r];rfl
theorem eqDss_self:∀ l:List (List D),eqDss l l=true
 | []=>rfl
 | a::r=>by rw[eqDss,Mj a,eqDss_self r];rfl
end
mutual
theorem arO:∀ v:AV,ee v v=true
 | .junk=>by simp[ee]
 | .d x=>by simp[ee,akI]
 | .nl=>by simp[ee]
 | .own p m xs=>by simp[ee,eqDss_self]
 | .gl n=>by simp[ee]
 | .agg a=>by rw[ee];exact eqAVs_self a
 | .tup a=>by rw[ee];exact eqAVs_self a
 | .nilp=>by simp[ee]
 | .ptr a b=>by simp[ee]
 | .pel a b c=>by simp[ee]
 | .pim a b=>by simp[ee,Mj]
 | .sl a b c=>by simp[ee]
 | .fn f a c=>by rw[ee,eqAVs_self a,eqAVs_self c];simp
 | .nilf=>by simp[ee]
 | .yield a=>by simp[ee]
theorem eqAVs_self:∀ l:List AV,eqAVs l l=true
 | []=>by rw[eqAVs]
 | a::r=>by rw[eqAVs,arO a,eqAVs_self r];rfl
end
@[simp] theorem aGI {a:List AV}:eqO (.cells a) (.cells a)=true:=by rw[eqO];exact eqAVs_self a
@[simp] theorem aEH {h k:ac}:bM [] h k=true:=(rfl)
@[simp] theorem aEB {i:Nat}{r:List Nat}{h k:ac}:bM (i::r) h k=((match get h i with
  | some o=>(match get k i with | some o'=>eqO o o' | none=>false)
  | none=>true) && bM r h k):=(rfl)
@[simp] theorem aFa {h:ac}:bO [] h=[]:=(rfl)
@[simp] theorem aEV {i:Nat}{r:List Nat}{h:ac}:bO (i::r) h=match get h i with
  | some o=>put (bO r h) i o
  | none=>bO r h:=(rfl)
attribute [simp] Er bm idsAll
attribute [simp] bK kz iH ji
def WI (a b:Int):Int:=if a=0 then b else 1
theorem YE {a b:Int}(h:0≤a) (h1:a≤1) (h2:0≤b) (h3:b≤1):cZ .or (.d (.int .i64 a)) (.d (.int .i64 b))=some (.int .i64 (WI a b)):=by
 have ha:a=0∨a=1:=by omega
 have hb:b=0∨b=1:=by omega
 rcases ha with rfl | rfl<;>rcases hb with rfl | rfl<;>rfl
@[simp] theorem aGh {a:Int}(h:0≤a) (h1:a≤1):WI a 0=a:=by
 have ha:a=0∨a=1:=by omega
 rcases ha with rfl | rfl<;>rfl
theorem ap7 {a b:Int}:(WI a b=0)↔a=0∧b=0:=by
 unfold WI;by_cases h:a=0<;>simp[h]
variable {P:Nat→Option ae}
def Dp (l:Nat) (e:ao) (x:Option (AV×HS)):Option (aX×St) :=
 match x with
 | some (_,hs)=>match get hs.heap l with
  | some (.loop _ _ _ _ false pend)=>match pend with
   | none=>some (.normal,⟨e,⟨del hs.heap l,hs.next⟩⟩)
   | some o=>some (o,⟨e,⟨del hs.heap l,hs.next⟩⟩)
  | _=>none
 | none=>none
def rgF (P:Nat→Option ae) (params:List Nat) (a b:VC) (hs:HS) (x:Option (AV×ao)):Option (aX×St) :=
 match x with
 | some (.fn g first caps,e)=>Dp hs.next e ((Dn P).call g (first++([.yield hs.next]++caps)) ⟨put hs.heap hs.next (.loop (e.map fun kv=>(kv.1,share kv.2)) params a b false none),hs.next+1⟩)
 | _=>none
theorem atp {f:Rd}{params:List Nat}{a b:VC}{e:ao}{hs:HS}:(Dn P).code (.rangeF f params a b) ⟨e,hs⟩=rgF P params a b hs (rd e f):=by
 rw[dZ];simp only[bj,vK,rgF]
 cases rd e f with
 | none=>rfl
 | some p =>
  obtain⟨v,e1⟩:=p
  cases v<;>rfl
theorem ayZ {params:List Nat}{a b:VC}{h:ac}{n g:Nat}{first caps:List AV}{e:ao}:rgF P params a b ⟨h,n⟩ (some (.fn g first caps,e))=Dp n e ((Dn P).call g (first++([.yield n]++caps)) ⟨put h n (.loop (e.map fun kv=>(kv.1,share kv.2)) params a b false none),n+1⟩):=rfl
def pdO (o:Obj):Option (Option aX) :=
 match o with
 | .loop _ _ _ _ false pend=>some pend
 | _=>none
theorem aA9 {s:ao}{p:List Nat}{a b:VC}{q:Option aX}:pdO (.loop s p a b false q)=some q:=rfl
def pdE (e:ao) (hs:HS) (l:Nat) (q:Option aX):Option (aX×St):=some (q.getD .normal,⟨e,⟨del hs.heap l,hs.next⟩⟩)
theorem az4 {e:ao}{h:ac}{n l:Nat}:pdE e ⟨h,n⟩ l none=some (.normal,⟨e,⟨del h l,n⟩⟩):=rfl
theorem aAH {e:ao}{h:ac}{n l:Nat}{o:aX}:pdE e ⟨h,n⟩ l (some o)=some (o,⟨e,⟨del h l,n⟩⟩):=rfl
theorem az5 {l n:Nat}{e:ao}{v:AV}{h:ac}:Dp l e (some (v,⟨h,n⟩))=bA (get h l) fun o=>bA (pdO o) fun q=>pdE e ⟨h,n⟩ l q:=by
 simp only[Dp]
 cases get h l with
 | none=>rfl
 | some o =>
  cases o with
  | loop s p a b busy pend=>cases busy<;>cases pend<;>rfl
  | cells=>rfl
  | arr=>rfl
theorem aAE {l:Nat}{e:ao}:Dp l e none=none:=rfl
theorem aAk {c:Prop}[Decidable c] {l:Nat}{e:ao}{x y:Option (AV×HS)}:Dp l e (if c then x else y)=if c then Dp l e x else Dp l e y:=by grind
theorem aAC {α:Type}{p:α→Nat→Prop}{r:R α}{l:Nat}{e:ao}{f:α→Nat→Option (AV×HS)}{g:Nat→Option (AV×HS)}:Dp l e (rK p r f g)=rK p r (fun v n=>Dp l e (f v n)) fun x=>Dp l e (g x):=pK (Dp l e)
theorem ayf {l:Nat}{e:ao}{x y:Option (AV×HS)}(h:x=y):Dp l e x=Dp l e y:=by rw[h]
def yB (l:Nat) (x:Option (aX×St)):Option (AV×HS) :=
 match x with
 | none=>none
 | some (o,st)=>match get st.hs.heap l with
  | some (.loop snap params assign body true none) =>
   match o with
   | .normal=>some (.bool true,⟨put st.hs.heap l (.loop snap params assign body false none),st.hs.next⟩)
   | o=>some (.bool false,⟨put st.hs.heap l (.loop snap params assign body false (some o)),st.hs.next⟩)
  | _=>none
def yA (P:Nat→Option ae) (l:Nat) (body:VC) (x:Option (aX×St)):Option (AV×HS) :=
 match x with
 | some (.normal,st)=>match get st.hs.heap l with
  | some (.loop snap params assign body2 false none)=>yB l ((Dn P).code body ⟨st.env,⟨put st.hs.heap l (.loop snap params assign body2 true none),st.hs.next⟩⟩)
  | _=>none
 | _=>none
def yO (P:Nat→Option ae) (l:Nat) (args:List AV) (hs:HS) (o:Obj):Option (AV×HS) :=
 match o with
 | .loop snap params assign body false none=>bA (nK snap params args) fun e=>yA P l body ((Dn P).code assign ⟨e,hs⟩)
 | _=>none
theorem gQ {l:Nat}{args:List AV}{hs:HS}:bc (Dn P) (.yield l) args hs=bA (get hs.heap l) fun o=>yO P l args hs o:=by
 simp only[bc,mP]
 cases get hs.heap l with
 | none=>rfl
 | some o =>
  cases o with
  | cells=>rfl
  | arr=>rfl
  | loop snap params assign body busy pend =>
   cases busy
   ·cases pend with
    | some q=>rfl
    | none =>
     simp only[bA,yO]
     cases nK snap params args with
     | none=>rfl
     | some e =>
      cases (Dn P).code assign ⟨e,hs⟩ with
      | none=>rfl
      | some p =>
       obtain⟨o,st⟩:=p
       cases o<;>rfl
   ·rfl
theorem aDE {l:Nat}{args:List AV}{hs:HS}{s:ao}{p:List Nat}{a b:VC}:yO P l args hs (.loop s p a b false none)=bA (nK s p args) fun e=>yA P l b ((Dn P).code a ⟨e,hs⟩):=rfl
def auX (o:Obj):Option Obj :=
 match o with
 | .loop s p a b false none=>some (.loop s p a b true none)
 | _=>none
theorem au8 {s:ao}{p:List Nat}{a b:VC}:auX (.loop s p a b false none)=some (.loop s p a b true none):=rfl
theorem aCP {l:Nat}{b:VC}{e:ao}{h:ac}{n:Nat}:yA P l b (some (.normal,⟨e,⟨h,n⟩⟩))=bA (get h l) fun o=>bA (auX o) fun o=>yB l ((Dn P).code b ⟨e,⟨put h l o,n⟩⟩):=by
 simp only[yA]
 cases get h l with
 | none=>rfl
 | some o =>
  cases o with
  | cells=>rfl
  | arr=>rfl
  | loop s p a b busy pend=>cases busy<;>cases pend<;>rfl
def aih (q:Option aX) (o:Obj):Option Obj :=
 match o with
 | .loop s p a b true none=>some (.loop s p a b false q)
 | _=>none
theorem awB {q:Option aX}{s:ao}{p:List Nat}{a b:VC}:aih q (.loop s p a b true none)=some (.loop s p a b false q):=rfl
theorem aDh {l:Nat}{e:ao}{h:ac}{n:Nat}:yB l (some (.normal,⟨e,⟨h,n⟩⟩))=bA (get h l) fun o=>bA (aih none o) fun o=>some (.bool true,⟨put h l o,n⟩):=by
 simp only[yB]
 cases get h l with
 | none=>rfl
 | some o =>
  cases o with
  | cells=>rfl
  | arr=>rfl
  | loop s p a b busy pend=>cases busy<;>cases pend<;>rfl
theorem aDY {l:Nat}{e:ao}{h:ac}{n:Nat}:yB l (some (.ret,⟨e,⟨h,n⟩⟩))=bA (get h l) fun o=>bA (aih (some .ret) o) fun o=>some (.bool false,⟨put h l o,n⟩):=by
 simp only[yB]
 cases get h l with
 | none=>rfl
 | some o =>
  cases o with
  | cells=>rfl
  | arr=>rfl
  | loop s p a b busy pend=>cases busy<;>cases pend<;>rfl
theorem aDO {l i:Nat}{e:ao}{h:ac}{n:Nat}:yB l (some (.exit i,⟨e,⟨h,n⟩⟩))=bA (get h l) fun o=>bA (aih (some (.exit i)) o) fun o=>some (.bool false,⟨put h l o,n⟩):=by
 simp only[yB]
 cases get h l with
 | none=>rfl
 | some o =>
  cases o with
  | cells=>rfl
  | arr=>rfl
  | loop s p a b busy pend=>cases busy<;>cases pend<;>rfl
theorem aCD {l:Nat}:yB l none=none:=rfl
theorem aCt {c:Prop}[Decidable c] {l:Nat}{x y:Option (aX×St)}:yB l (if c then x else y)=if c then yB l x else yB l y:=by grind
theorem aCG {α:Type}{p:α→Nat→Prop}{r:R α}{l:Nat}{f:α→Nat→Option (aX×St)}{g:Nat→Option (aX×St)}:yB l (rK p r f g)=rK p r (fun v n=>yB l (f v n)) fun x=>yB l (g x):=pK (yB l)
theorem az9 {l:Nat}{x y:Option (aX×St)}(h:x=y):yB l x=yB l y:=by rw[h]
theorem aAK {l:Nat}{b:VC}{x y:Option (aX×St)}(h:x=y):yA P l b x=yA P l b y:=by rw[h]
attribute [simp ↓] atp ayZ aA9 az4 aAH az5 aAE aAk aAC aDE au8 aCP awB aDh aDY aDO aCD aCt aCG gQ
attribute [congr] ayf az9 aAK
attribute [simp] nK
variable {P:Nat→Option ae}{l:List VI}{e:ao}{h:ac}{m d s:Nat}{op:jR}{hs:HS}{β:Type}{k:AV→ao→HS→Option β}
abbrev V (d:Nat) (op:jR):VI:=⟨some d,none,op,[]⟩
abbrev N (op:jR):VI:=⟨none,none,op,[]⟩
abbrev W (s d:Nat) (op:jR):VI:=⟨some d,some (s,true),op,[]⟩
abbrev U (s d:Nat) (op:jR):VI:=⟨some d,some (s,false),op,[]⟩
theorem avq {e e2:ao}{hs hs2:HS}(h:e=e2) (h2:hs=hs2):bU P l e hs=bU P l e2 hs2:=by rw[h,h2]
attribute [congr] avq
@[simp ↓ low] theorem aBY {i:VI}:(Dn P).code (.reg false (i::l)) ⟨e,hs⟩=bp (bU P (i::l) e hs):=xZ rfl
@[simp ↓ low] theorem aBA {i:VI}:(Dn P).code (.reg true (i::l)) ⟨e,hs⟩=bp (bU P (i::l) e hs):=xZ rfl
@[simp] theorem aFY:bU P [] e hs=some ⟨e,hs⟩:=(rfl)
@[simp] theorem aFS:bU P (⟨some d,none,op,[]⟩::l) e hs=aN P op e hs fun v e hs=>bU P l (put e d (firm v)) hs:=(rfl)
@[simp] theorem aGc:bU P (⟨none,none,op,[]⟩::l) e hs=aN P op e hs fun _ e hs=>bU P l e hs:=(rfl)
@[simp] theorem aGa {t:Nat×Nat}{th:List (Nat×Nat)}:bU P (⟨some d,none,op,t::th⟩::l) e hs=aN P op e hs fun v e hs=>lP (bK (t::th) v hs) fun v hs=>bU P l (put e d (firm v)) hs:=(rfl)
def wK {β:Type}(a b:Bool) (x y z:Option β):Option β :=
 match a with
 | true=>x
 | false=>match b with
  | true=>y
  | false=>z
@[simp ↓] theorem aGY {b:Bool}{x y z:Option β}:wK true b x y z=x:=(rfl)
@[simp ↓] theorem aHa {x y z:Option β}:wK false true x y z=y:=(rfl)
theorem azP {a a2 b b2:Bool}{x y z:Option β}(h:a=a2) (h2:b=b2):wK a b x y z=wK a2 b2 x y z:=by rw[h,h2]
attribute [congr] azP
@[simp] theorem aFK {w:Bool}:bU P (⟨some d,some (s,w),op,[]⟩::l) e hs=wK (bB op) (xy op)
  (bA (get e s) fun g=>bA (gV g w (aN P op e hs fun v _ _=>some v)) fun v=>bU P l (put e d (firm v)) hs)
  (bA (get e s) fun g=>bP (gH g w hs (aN P op e hs fun v _ hs=>some (v,hs))) fun v hs=>bU P l (put e d (firm v)) hs)
  (bA (bh (Dn P) ⟨some d,some (s,w),op,[]⟩ ⟨e,hs⟩) fun st=>bU P l st.env st.hs):=by
 simp only[bU,cvi,wK]
 cases bB op<;>cases xy op<;>(try rfl)<;>(cases get e s<;>rfl)
@[simp] theorem aGs {i:Nat}:aE (.s i)=true:=(rfl)
@[simp] theorem aGO {a:AV}:aE (.c a)=true:=(rfl)
@[simp] theorem aFB:dI []=true:=(rfl)
@[simp] theorem aFe {x:Rd}{r:List Rd}:dI (x::r)=(aE x && dI r):=(rfl)
@[simp] theorem aGR:tL none=true:=(rfl)
@[simp] theorem aGC {x:Rd}:tL (some x)=aE x:=(rfl)
@[simp] theorem aF5 {x:Rd}:bB (.mov x)=aE x:=(rfl)
@[simp] theorem aGM {x:Rd}{n:Option Nat}:bB (.ld n 0 x)=aE x:=(rfl)
@[simp] theorem aFZ {x:Rd}:bB (.nilck x)=aE x:=(rfl)
@[simp] theorem aFu {x y:Rd}{o:BinOp}:bB (.bin o x y)=(aE x && aE y):=(rfl)
@[simp] theorem aES {x y:Rd}{o:Bool}:bB (.binb o x y)=(aE x && aE y):=(rfl)
@[simp] theorem aGE {x:Rd}{o:UnOp}:bB (.un o x)=aE x:=(rfl)
@[simp] theorem aGL {x:Rd}{o:Nat}:bB (.fa o x)=aE x:=(rfl)
@[simp] theorem aGi {x y:Rd}{o:Nat}:bB (.ia o x y)=(aE x && aE y):=(rfl)
@[simp] theorem aEW {x y:Rd}{o n:Nat}:bB (.iarr o n x y)=(aE x && aE y):=(rfl)
@[simp] theorem aFi {x:Rd}:bB (.len x)=aE x:=(rfl)
@[simp] theorem aE3 {f:FuncId}{xs:List Rd}:bB (.call f xs)=dI xs:=(rfl)
@[simp] theorem aER {c x y:Rd}:bB (.pick c x y)=(aE c && aE x && aE y):=(rfl)
@[simp] theorem aDA {z:List AV}{ps:List (Nat×Nat×Rd)}:bB (.build z ps)=dI (jZ ps):=(rfl)
@[simp] theorem aFN {x:Rd}:bB (.toStr x)=aE x:=(rfl)
@[simp] theorem aEp {f:FuncId}{xs ys:List Rd}:bB (.mkfn f xs ys)=(dI xs && dI ys):=(rfl)
@[simp] theorem aEo {z:List D}{x y:Rd}:bB (.mkslice z x y)=(aE x && aE y):=(rfl)
@[simp] theorem aFv {m:Nat}{x:Rd}{a b c:Option Rd}:bB (.slice m x a b c)=(aE x && (tL a && (tL b && tL c))):=(rfl)
@[simp] theorem aCV {f:FuncId}{xs:List Rd}:bB (.calli f xs)=false:=(rfl)
@[simp] theorem aC7 {x:Rd}{xs:List Rd}:bB (.callv x xs)=false:=(rfl)
@[simp] theorem aCT {f:FuncId}{xs:List Rd}:xy (.calli f xs)=dI xs:=(rfl)
@[simp] theorem aDL {x:Rd}{xs:List Rd}:xy (.callv x xs)=(aE x && dI xs):=(rfl)
attribute [simp] jZ mf
def EJ {γ:Type}(c:Prop) [Decidable c] (a b:γ):γ:=if c then a else b
theorem avQ {γ:Type}{c d:Prop}[Decidable c] [i:Decidable d] {a b:γ}(h:c=d):EJ c a b=@EJ γ d i a b:=by subst h;congr
attribute [congr] avQ
@[simp ↓] theorem aGd {γ:Type}{i:Decidable True}{a b:γ}:@EJ γ True i a b=a:=by simp only[EJ,if_true]
@[simp ↓] theorem aFF {γ:Type}{i:Decidable False}{a b:γ}:@EJ γ False i a b=b:=by simp only[EJ,if_false]
@[simp high] theorem aG4 {k i:Nat}{v:AV}{r:ao}:get ((k,v)::r) i=EJ (k=i) (some v) (get r i):=azo
@[simp high] theorem aG2 {k i:Nat}{v x:AV}{r:ao}:put ((k,v)::r) i x=EJ (k=i) ((i,x)::r) (EJ (i≤k) ((i,x)::(k,v)::r) ((k,v)::put r i x)):=put1
@[simp high] theorem aG1 {k i:Nat}{v:AV}{r:ao}:del ((k,v)::r) i=EJ (k=i) (del r i) ((k,v)::del r i):=axn
variable {f:AV→ao→Option β}{x:Rd}
@[simp ↓] theorem aGq {i:Nat}:aY e (.s i) f=bA (get e i) fun v=>f (share v) e:=by
 simp only[aY,rd,bA];cases get e i<;>rfl
@[simp ↓] theorem aGw {i:Nat}:aY e (.m i) f=bA (get e i) fun v=>f v (del e i):=by
 simp only[aY,rd,bA];cases get e i<;>rfl
@[simp ↓] theorem aGG {a:AV}:aY e (.c a) f=f a e:=(rfl)
@[simp ↓] theorem aFP {f:List AV→ao→Option β}:gn e [] f=f [] e:=(rfl)
@[simp ↓] theorem aF4 {r:List Rd}{f:List AV→ao→Option β}:gn e (x::r) f=aY e x fun v e=>gn e r fun vs e=>f (v::vs) e:=(rfl)
@[simp ↓] theorem aFd {f:Option AV→ao→Option β}:iP e none f=f none e:=(rfl)
@[simp ↓] theorem aFQ {f:Option AV→ao→Option β}:iP e (some x) f=aY e x fun v e=>f (some v) e:=(rfl)
@[simp ↓] theorem aEs:aN P (.mov x) e hs k=aY e x fun v e=>k v e hs:=(rfl)
def Gc (e:ao):Rd→Option AV
 | .c v=>some v
 | .m i=>get e i
 | .s i=>match get e i with
  | some v=>some (share v)
  | none=>none
def pkV {β:Type}(c:AV) (a b:Rd) (x y:Option AV) (e:ao) (hs:HS) (k:AV→ao→HS→Option β):Option β :=
 match x,y with
 | some a,some b=>bA (N2 c a b) fun v=>k v e hs
 | _,_=>bP (gx (.c c) a b ⟨e,hs⟩) fun v st=>k v st.env st.hs
@[simp ↓] theorem aGu {c v w:AV}{a b:Rd}:pkV c a b (some v) (some w) e hs k=bA (N2 c v w) fun v=>k v e hs:=(rfl)
theorem ayl {c:AV}{a b:Rd}{x x2 y y2:Option AV}(h:x=x2) (h2:y=y2):pkV c a b x y e hs k=pkV c a b x2 y2 e hs k:=by rw[h,h2]
attribute [congr] ayl
@[simp] theorem aGB {v:AV}:Gc e (.c v)=some v:=(rfl)
@[simp] theorem aGN {i:Nat}:Gc e (.s i)=bA (get e i) fun v=>some (share v):=by
 simp only[Gc,bA];cases get e i<;>rfl
theorem ajF {c a b:Rd}(ha:aE a=true) (hb:aE b=true):aN P (.pick c a b) e hs k=aY e c fun c e=>pkV c a b (Gc e a) (Gc e b) e hs k:=by
 simp only[aN,ha,hb,Bool.and_self]
 congr 1
 funext c e;have h1:∀ x,aE x=true→rd e x=(Gc e x).map fun v=>(v,e):=by
  intro x hx
  cases x with
  | c=>rfl
  | m=>cases hx
  | s i=>simp only[rd,Gc];cases get e i<;>rfl
 rw[h1 a ha,h1 b hb]
 cases Gc e a<;>cases Gc e b<;>rfl
@[simp ↓] theorem aE6 {c:Rd}{i:Nat}{y:AV}:aN P (.pick c (.s i) (.c y)) e hs k=aY e c fun c e=>pkV c (.s i) (.c y) (Gc e (.s i)) (Gc e (.c y)) e hs k:=ajF rfl rfl
@[simp ↓] theorem aEL {c:Rd}{i:Nat}{y:AV}:aN P (.pick c (.c y) (.s i)) e hs k=aY e c fun c e=>pkV c (.c y) (.s i) (Gc e (.c y)) (Gc e (.s i)) e hs k:=ajF rfl rfl
@[simp ↓] theorem aCj {zs:List AV}:aN P (.alloc zs) e ⟨h,m⟩ k=lA (put h m (.cells zs)) fun h=>k (.ptr m 0) e ⟨h,m+1⟩:=(rfl)
@[simp ↓] theorem aEu:aN P (.box x) e ⟨h,m⟩ k=aY e x fun v e=>bI ((AV.cells v).all bJ) (lA (put h m (.cells (AV.cells v))) fun h=>k (.ptr m 0) e ⟨h,m+1⟩):=(rfl)
@[simp ↓] theorem aBN {zs:List AV}{ps:List (Nat×Nat×Rd)}:aN P (.build zs ps) e hs k=gn e (jZ ps) fun vs e=>bA (ck zs (mf ps vs)) fun cs=>k (.agg cs) e hs:=(rfl)
@[simp ↓] theorem aEP {j:Nat}{ps:List Rd}:aN P (.mks j ps) e hs k=gn e ps fun vs e=>bA (ft j vs) fun xs=>k (.own true j xs) e hs:=(rfl)
@[simp ↓] theorem aDi {j:Nat}{ps:List Rd}:aN P (.mksv j ps) e ⟨h,m⟩ k=gn e ps fun vs e=>bI (DX j vs) (lA (put h m (.cells (vs.flatMap AV.cells))) fun h=>k (.sl m 0 vs.length) e ⟨h,m+1⟩):=(rfl)
@[simp ↓] theorem aFp {n:Option Nat}:aN P (.ld n 0 x) e ⟨h,m⟩ k=aY e x fun p e=>bA (cP h n p) fun v=>k v e ⟨h,m⟩:=(rfl)
@[simp ↓] theorem aEt {n:Option Nat}:aN P (.ld n 1 x) e ⟨h,m⟩ k=aY e x fun p e=>bP (loadAt h n 1 p) fun v h=>k v e ⟨h,m⟩:=(rfl)
@[simp ↓] theorem aE2 {n:Option Nat}:aN P (.ld n 2 x) e ⟨h,m⟩ k=aY e x fun p e=>bP (loadAt h n 2 p) fun v h=>k v e ⟨h,m⟩:=(rfl)
@[simp ↓] theorem aF2 {n:Nat}{y:Rd}:aN P (.st n x y) e ⟨h,m⟩ k=aY e x fun p e=>aY e y fun v e=>bA (storeAt h n p v) fun h=>k .junk e ⟨h,m⟩:=(rfl)
@[simp ↓] theorem aCn:aN P (.nilck x) e hs k=aY e x fun v e=>bA (Wy v) fun v=>k v e hs:=(rfl)
@[simp ↓] theorem aE8 {o:BinOp}{y:Rd}:aN P (.bin o x y) e hs k=aY e x fun a e=>aY e y fun b e=>bA (cZ o a b) fun v=>k (.d v) e hs:=(rfl)
@[simp ↓] theorem aDb {o:Bool}{y:Rd}:aN P (.binb o x y) e hs k=aY e x fun a e=>aY e y fun b e=>bA (ah2 o a b) fun v=>k (.d v) e hs:=(rfl)
@[simp ↓] theorem aFz {o:UnOp}:aN P (.un o x) e hs k=aY e x fun a e=>bA (unD o a) fun v=>k (.d v) e hs:=(rfl)
@[simp ↓] theorem aCL {j:IntKind}:aN P (.conv j x) e hs k=aY e x fun a e=>bA (Xk j a) fun v=>k (.d v) e hs:=(rfl)
@[simp ↓] theorem aBu:aN P (.toStr x) e ⟨h,m⟩ k=aY e x fun a e=>bA (L9 h a) fun v=>k (.d v) e ⟨h,m⟩:=(rfl)
@[simp ↓] theorem aCM {f:FuncId}{a c:List Rd}:aN P (.mkfn f a c) e hs k=gn e a fun a e=>gn e c fun c e=>k (.fn f (shareAll a) (shareAll c)) e hs:=(rfl)
@[simp ↓] theorem azJ {z:List D}{y:Rd}:aN P (.mkslice z x y) e hs k=aY e x fun a e=>aY e y fun c e=>bA (BA z a c) fun v=>k v e hs:=(rfl)
@[simp ↓] theorem aBx {j:Nat}{lo hi mx:Option Rd}:aN P (.slice j x lo hi mx) e ⟨h,m⟩ k=aY e x fun x e=>iP e lo fun lo e=>iP e hi fun hi e=>iP e mx fun mx e=>bA (pw h j x lo hi mx) fun v=>k v e ⟨h,m⟩:=(rfl)
@[simp ↓] theorem aBs {j:Nat}{lo hi mx:Option Rd}:aN P (.slarr j x lo hi mx) e ⟨h,m⟩ k=aY e x fun x e=>iP e lo fun lo e=>iP e hi fun hi e=>iP e mx fun mx e=>bA (Nc h j x lo hi mx) fun v=>k v e ⟨h,m⟩:=(rfl)
@[simp ↓] theorem aFH {o:Nat}:aN P (.fa o x) e hs k=aY e x fun p e=>bA (gy o p) fun v=>k v e hs:=(rfl)
@[simp ↓] theorem aGf {n:Nat}{y:Rd}:aN P (.ia n x y) e ⟨h,m⟩ k=aY e x fun x e=>aY e y fun i e=>bA (X4 h n x i) fun v=>k v e ⟨h,m⟩:=(rfl)
@[simp ↓] theorem aDW {a n:Nat}{y:Rd}:aN P (.iarr a n x y) e hs k=aY e x fun p e=>aY e y fun i e=>bA (DS a n p i) fun v=>k v e hs:=(rfl)
@[simp ↓] theorem aFw {a n:Nat}{b:Bool}{y:Rd}:aN P (.ix a n b x y) e hs k=aY e x fun x e=>aY e y fun i e=>bA (ixV a n b x i) fun v=>k v e hs:=(rfl)
@[simp ↓] theorem aEn {y:Rd}:aN P (.ixs x y) e hs k=aY e x fun x e=>aY e y fun i e=>bA (aol x i) fun v=>k (.d v) e hs:=(rfl)
@[simp ↓] theorem aDw {j i:Nat}:aN P (.ext j true i) e hs k=bA (get e j) fun t=>bA (rL true t i) fun v=>k v (put e j (HY t i)) hs:=by
 simp only[aN,bA];cases get e j<;>(try rfl)
@[simp ↓] theorem aCE {j i:Nat}:aN P (.ext j false i) e hs k=bA (get e j) fun t=>bA (rL false t i) fun v=>k v e hs:=by
 simp only[aN,bA];cases get e j<;>(try rfl)
@[simp ↓] theorem aEm:aN P (.len x) e hs k=aY e x fun x e=>bA (lenOf x) fun n=>k (.int .i64 (.ofNat n)) e hs:=(rfl)
@[simp ↓] theorem aEM:aN P (.cap x) e hs k=aY e x fun x e=>bI (aoj x) (k (.int .i64 (.ofNat 0)) e hs):=(rfl)
@[simp ↓] theorem aE9 {j:Nat}{y:Rd}:aN P (.app j x y) e ⟨h,m⟩ k=aY e x fun a e=>aY e y fun b e=>bP (acs j h a b) fun v h=>k v e ⟨h,m⟩:=(rfl)
@[simp ↓] theorem aDB {z:List D}{y:Rd}:aN P (.appz z x y) e ⟨h,m⟩ k=aY e x fun a e=>aY e y fun n e=>bP (WV z h a n) fun v h=>k v e ⟨h,m⟩:=(rfl)
@[simp ↓] theorem aEI {j:Nat}{y:Rd}:aN P (.cpy j x y) e ⟨h,m⟩ k=aY e x fun a e=>aY e y fun b e=>bP (aiz j h a b) fun v h=>k (.d v) e ⟨h,m⟩:=(rfl)
@[simp ↓] theorem aBo {b:Bool}{xs:List Rd}:aN P (.minmax b xs) e hs k=gn e xs fun vs e=>bA (FV b vs) fun v=>k v e hs:=(rfl)
@[simp ↓] theorem aDP {f:FuncId}{as:List Rd}:aN P (.call f as) e ⟨h,m⟩ k=gn e as fun vs e=>bA (bZ (Dn P) f vs h) fun v=>k v e ⟨h,m⟩:=(rfl)
@[simp ↓] theorem aBU {f:FuncId}{as:List Rd}:aN P (.calli f as) e hs k=gn e as fun vs e=>bP ((Dn P).call f vs hs) fun v hs=>k v e hs:=(rfl)
@[simp ↓] theorem aCe {as:List Rd}:aN P (.callv x as) e hs k=aY e x fun f e=>gn e as fun vs e=>bP (bc (Dn P) f vs hs) fun v hs=>k v e hs:=(rfl)
@[simp ↓] theorem aD7 {is:List Nat}:aN P (.kill is) e hs k=k (.tup []) (is.foldl del e) hs:=(rfl)
end Go.Vm
end
