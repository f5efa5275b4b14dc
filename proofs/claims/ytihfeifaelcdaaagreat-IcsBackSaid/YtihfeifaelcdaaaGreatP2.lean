import GoSem.ClaimChange
import Derived.WalkKit
import Derived.ProofKit
import Derived.OpenShut
import Derived.JoinedCond
import Derived.ChangeStays
import Derived.ChangeBook
import Derived.Test.YtihfeifaelcdaaaGreatP1
set_option linter.unusedVariables false
set_option linter.unusedSimpArgs false
noncomputable section
namespace Go.Vm
set_option maxRecDepth 100000
section
variable {P:Program}{g:Gh}{w:World}{t:Array Value}{O:Nat→Nat}{st st':St}{a:AV}{o:Oper}{r:bD}
theorem akQ:∀ {vs:List AV}{i:Nat},∀ p∈fX i vs,i≤p.1
 | [],_,p,hp=>by simp[fX]at hp
 | v::vs,i,p,hp=>by
  rcases adm hp with rfl | hp
  ·omega
  ·have:=akQ p hp;omega
theorem MU:∀ (vs:List AV) (i:Nat),bg (fX i vs)
 | [],_=>List.Pairwise.nil
 | v::vs,i=>(MU vs (i+1)).put _ _
theorem aoP {t:Array Value}{i:Nat}{x:Value}(h:t[i]?=some x):i<t.size:=by
 grind
theorem aeY {t:Array Value}:∀ {vs:List AV}{xs:List Value}{i:Nat}{Ov:Nat→Nat},RVs g w vs xs Ov→(∀ (j:Nat) (x:Value),xs[j]?=some x→t[i+j]?=some x)→fW g w (fX i vs) t Ov
 | [],xs,i,Ov,rv,_=>by exact rv.2
 | v::vs,xs,i,Ov,rv,ht=>by
  obtain⟨x,ys,O1,O2,rfl,r1,r2,hs⟩:=rv;have h0:t[i]?=some x:=ht 0 x rfl;have rr:=aeY (t:=t) (i:=i+1) r2 fun j y hj=>by have:=ht (j+1) y (by simp_all);grind
  rw[←lh (l:=fX (i+1) vs) (i:=i) fun p hp=>by have:=akQ p hp;omega]at rr;obtain⟨O,ro,ho⟩:=RL.put (MU vs (i+1)) rr (i:=i) (x:=v) (O1:=O1) ⟨aoP h0,by simp_all⟩;have e:O=Ov:=funext fun b=>by simp_all
  exact e▸ro
theorem avU {args:List AV}{hs:HS}{xs:List Value}{Oa Oh:Nat→Nat}(rv:RVs g w args xs Oa) (sh:S P g w ⟨[],hs⟩ #[] Oh) (hle:∀ b,Oa b+Oh b≤1) (hhi:∀ b,Oa b≠0→b<w.heap.size) (n:Nat) :
  S P g w ⟨fX 0 args,hs⟩ (xs.toArray++Array.replicate n undef) fun b=>Oa b+Oh b:=by
 refine S.join (MU _ _) (aeY rv fun j x hj=>?_) sh hle hhi
 grind
theorem aI.deferBlk {b:Nat}{ds ds':Option (List Deferred)}(hb:w.heap[b]?=some (.deferred ds)):aI g w g (Vm.setBlk w b (.deferred ds')) fun x=>x=b where
 obj _ _ h:=⟨h,rfl,rfl,rfl⟩
 pm b' o h:=⟨h,by
  grind [World.cell?,cm,dZ]⟩
 blk b' _ h:=⟨dZ h,fun _ h=>h⟩
 size:=by simp
 lp b' r h:=⟨r,by grind [dZ]⟩
 same:=⟨rfl,rfl,qX hb (by grind [dD]) (by grind [dD])⟩
theorem Cz {b:Nat}(h:w.heap[b]?=some (.deferred (some []))):(Instr.takeDeferred b).run P w=.ok [] (setBlk w b (.deferred none)):=by
 simp_all [Instr.takeDeferred,getObj,setObj,Sem.run,setBlk]
theorem Ym {ro:Option Nat}{fn:Func}{tmps:Array Value}{R:Ending→World→Prop}{lo:Nat}:∀ {ms:List Deferred}{w:World},fJ w O lo ms→S P g w st t O→
  (∀ w',S P g w' st t O→aI g w g w' (fun b=>lo≤b)→∃ v,(results fn tmps).run P w'=.ok v w'∧R (.returned v) w')→LeavesInM (FR ro) 0 P fn tmps R ms .returning w
 | [],w,_,s,h=>h w s (.refl _ _ _)
 | d::ds,w,⟨⟨r,h1,h2,h3,h4,h5⟩,h6⟩,s,h=>by
  refine⟨by simp,.inl ⟨r,setBlk w r (.deferred none),h1,Cz h3,?_⟩⟩;have hx:aI g w g (setBlk w r (.deferred none)) fun x=>x=r:=aI.deferBlk h3
  have hm:fJ (setBlk w r (.deferred none)) O lo ds:=by
   have:∀ {es:List Deferred},(∀ d'∈es,∀ r',d'.target=.collected r'→r'<r)→fJ w O lo es→fJ (setBlk w r (.deferred none)) O lo es:=by
    intro es
    induction es with
    | nil=>exact fun _ _=>trivial
    | cons e es ih =>
     rintro hlt ⟨⟨q,k1,k2,k3,k4,k5⟩,k6⟩
     have:=hlt e (.head _) q k1;exact⟨⟨q,k1,k2,by grind [dZ],k4,k5⟩,ih (fun d' hd'=>hlt d' (.tail _ hd')) k6⟩
   grind
  exact Ym hm (s.otherG hx h4) fun w' s' hx'=>h w' s' ((hx.mono (T:=fun b=>lo≤b) fun b _ e=>by omega).trans hx' fun _ _ h=>h)
def Vh (t:Array Value):ResultVar→Sem Value
 | .tmp i=>pure (t.getD i undef)
 | .cell i ty=>do loadVar ty (←asAddr (t.getD i undef))
theorem Vw (fn:Func) (t:Array Value):results fn t=(do let vs←fn.results.mapM (Vh t);pure (if h:vs.size=1 then vs[0] else .tuple vs)):=by
 congr 1
theorem akd {α:Type}{f:α→Sem Value}{l:Array α}{xs:List Value}(h:(l.toList.mapM f).run P w=.ok xs w):(l.mapM f).run P w=.ok xs.toArray w:=by
 simp_all [Array.mapM_eq_mapM_toList]
theorem xq:∀ {vr:List md}{fr:List ResultVar},iB P vr fr=true→∀ {st st':St}{O:Nat→Nat}{vs:List AV},cT st vr=some (vs,st')→S P g w st t O→
  ∃ xs:List Value,∃ Ov O',(fr.mapM (Vh t)).run P w=.ok xs w∧RVs g w vs xs Ov∧S P g w st' t O'∧(∀ b,Ov b+O' b≤O b)∧
   xs.length=fr.length
 | [],[],_,st,st',O,vs,h,s=>by
  obtain⟨rfl,rfl⟩:=h;exact⟨[],zero,O,by simp,by simp[RVs],s,fun b=>by simp,rfl⟩
 | .tmp i::vr,.tmp j::fr,hc,st,st',O,vs,h,s=>by
  simp only[iB,Bool.and_eq_true,Nat.beq_eq]at hc;obtain⟨rfl,hc⟩:=hc;simp only[cT]at h;split at h
  ·rename_i v hv;split at h
   ·rename_i us st1 hr;obtain⟨rfl,rfl⟩:=h;obtain⟨O1,O2,_,rv,s2,l2⟩:=s.pull hv;obtain⟨xs,O3,O4,hrun,rvs,s4,l4,hlen⟩:=xq hc hr s2;refine⟨t.getD i undef::xs,fun b=>O1 b+O3 b,O4,?_,?_,s4,fun b=>by grind,by simp_all⟩
    ·simp_all [Vh]
    grind [RVs]
   simp_all
  simp_all
 | .cell i n::vr,.cell j ty::fr,hc,st,st',O,vs,h,s=>by
  simp only[iB,Bool.and_eq_true,Nat.beq_eq]at hc;obtain⟨⟨rfl,hty⟩,hc⟩:=hc;simp only[cT]at h;split at h
  ·rename_i id hv;split at h
   ·rename_i v h' hl;split at h
    ·rename_i us st1 hr;obtain⟨rfl,rfl⟩:=h;obtain⟨O0,O00,_,rp,_,_⟩:=s.pull hv;obtain⟨⟨b,hob,hp⟩,_⟩:=rp;obtain⟨x,O1,O2,hrun1,rv,s2,l2⟩:=Zu hty s hob hl;obtain⟨O5,s5,l5⟩:=s2.delEnv i;obtain⟨O6,s6,l6⟩:=s5.delHeap id;obtain⟨xs,O3,O4,hrun,rvs,s4,l4,hlen⟩:=xq hc hr s6;refine⟨x::xs,fun b=>O1 b+O3 b,O4,?_,?_,s4,fun b=>by grind,by simp_all⟩
     ·simp_all [Vh,asAddr]
     grind [RVs]
    simp_all
   simp_all
  simp_all
 | [],_::_,hc,_,_,_,_,_,_=>by simp[iB]at hc
 | _::_,[],hc,_,_,_,_,_,_=>by simp[iB]at hc
 | .tmp _::_,.cell _ _::_,hc,_,_,_,_,_,_=>by simp[iB]at hc
 | .cell _ _::_,.tmp _::_,hc,_,_,_,_,_,_=>by simp[iB]at hc
theorem akO {vf:ae}{fn:Func}(hc:iB P vf.results fn.results.toList=true) {v:AV}{hs':HS}(h:zm vf st=some (v,hs')) (s:S P g w st t O) :
  ∃ x Ov Oh,(results fn t).run P w=.ok x w∧RV g w v x Ov∧S P g w ⟨[],hs'⟩ #[] Oh∧∀ b,Ov b+Oh b≤O b:=by
 unfold zm at h;split at h
 ·rename_i v1 st1 hr;obtain⟨rfl,rfl⟩:=h;obtain⟨xs,Ov,O',hrun,rvs,s',l,hlen⟩:=xq hc hr s;obtain⟨x,ys,O1,O2,rfl,rv,⟨rfl,_⟩,hs2⟩:=rvs;obtain⟨Oe,Oh,_,sh,ho⟩:=s'.split;refine⟨x,O1,Oh,?_,rv,sh,fun b=>by grind⟩
  simp_all [Vw,akd]
 ·rename_i vs st1 hne hr;obtain⟨rfl,rfl⟩:=h;obtain⟨xs,Ov,O',hrun,rvs,s',l,hlen⟩:=xq hc hr s;obtain⟨Oe,Oh,_,sh,ho⟩:=s'.split;refine⟨.tuple xs.toArray,Ov,Oh,?_,by grind [RV],sh,fun b=>by grind⟩;have hl1:xs.length≠1:=by
   intro h1;have h2:=rvs.length;rw[h1]at h2
   match vs,h2 with
   | [v],_=>grind
  simp_all [Vw,akd]
 simp_all
end
section
variable {P:Program}{g:Gh}{w:World}{t:Array Value}{O:Nat→Nat}{st st':St}{a:AV}{o:Oper}{r:bD}
theorem kH {ro:Option Nat}{ops:Array Oper}{Q:Exit→Act→World→Prop}{i:Nat}{rest:List Nat}{ds:List Deferred}{v:Value}{w':World}(h:ops[i]?=some o) (hg:o.guard=none)
  (hd:∀ c,o.op≠.defer c) (hrun:(execOp (ev t) o).run P w=.ok (.value v) w') (hk:wpOpsIn (FR ro) 0 P ops Q rest ⟨oD t o.dst v,ds⟩ w'):wpOpsIn (FR ro) 0 P ops Q (i::rest) ⟨t,ds⟩ w:=by
 simp only[wpOpsIn,h];rw[if_pos (by grind [Region.wanted])];refine⟨fun _ _=>trivial,?_⟩
 grind [HZ,Oper.uponIn_value,Wq]
theorem si {d:Nat}(h:E1 o d=true):o.dst=some d∧o.guard=none:=by
 grind [E1,Nat.beq_eq,Option.isNone_iff_eq_none]
theorem Xm {x:Operand}(h:U1 x=true):x=.const (.slice none 0 0):=by
 grind [U1]
theorem oG {i:Nat}{x:Operand}(h:xk i x=true):x=.tmp i:=by
 unfold xk at h;grind [Nat.beq_eq]
theorem aEk {α:Type}{r:Array α}{x:α}(h:r.toList=[x]):r=#[x]:=by
 grind
theorem Y5 {d:Nat}{r:Array Oper}(h:Wi d r.toList=true):∃ o,r=#[o]∧o.dst=some d∧o.guard=none∧o.op=.assign (.const (.slice none 0 0)):=by
 unfold Wi at h
 grind [si,Xm]
theorem aod {m:Nat}{r:Array Oper}(h:akD P m r.toList=true):∃ a b T u,r=#[a,b]∧a.dst=some 3∧a.guard=none∧a.op=.move (.tmp 0)∧b.dst=some 4∧b.guard=none∧
  b.op=.binOp .eql T (.tmp 3) (.const (.slice none 0 0)) u∧ee P T m=true:=by
 unfold akD at h
 grind [si,oG,Xm]
theorem ao7 {m:Nat}{r:Array Oper}(h:aiJ P m r.toList=true):∃ a b c d T ats e',r=#[a,b,c,d]∧a.dst=some 5∧a.guard=none∧a.op=.buildSlice T 0 #[]∧ee P T m=true∧
  b.dst=some 6∧b.guard=none∧b.op=.move (.tmp 0)∧c.dst=some 7∧c.guard=none∧c.op=.call ⟨.builtin .append,#[.tmp 5,.tmp 6],ats⟩∧ats=#[lW ⟨.builtin .append,#[.tmp 5,.tmp 6],ats⟩,ats.getD 1 0]∧
  ee P (lW ⟨.builtin .append,#[.tmp 5,.tmp 6],ats⟩) m=true∧ja P (lW ⟨.builtin .append,#[.tmp 5,.tmp 6],ats⟩) m=true∧P.underlying (ats.getD 1 0)=some (.slice e')∧
  d.dst=some 2∧d.guard=none∧d.op=.assign (.tmp 7):=by
 unfold aiJ at h;split at h
 ·rename_i a b c d e;simp only[Bool.and_eq_true]at h;obtain⟨⟨⟨⟨⟨⟨⟨h1,h2⟩,h3⟩,h4⟩,h5⟩,h6⟩,h7⟩,h8⟩:=h;obtain⟨k1,k2⟩:=si h1;obtain⟨k3,k4⟩:=si h3;obtain⟨k5,k6⟩:=si h5;obtain⟨k7,k8⟩:=si h7;split at h2
  ·rename_i T ps hops;simp only[Bool.and_eq_true]at h2;split at h4
   ·split at h6
    ·rename_i k hk;obtain⟨callee,args,ats⟩:=k;simp only[Bool.and_eq_true]at h6;obtain⟨⟨⟨⟨⟨q1,q2⟩,q3⟩,q4⟩,q5⟩,q6⟩:=h6;have:=kw q1;subst this;split at q6
     ·simp only[Bool.and_eq_true]at q6;have e1:=oG q6.1;have e2:=oG q6.2;have:args=#[.tmp 5,.tmp 6]:=by grind
      subst this;split at q5
      ·rename_i e' he';split at h8
       ·exact⟨a,b,c,d,T,ats,e',by grind,k1,k2,by simp_all,h2.1,k3,k4,by grind [oG],k5,k6,hk,Du q2,q3,q4,he',k7,k8,by grind [oG]⟩
       simp_all
      simp_all
     simp_all
    simp_all
   simp_all
  simp_all
 simp_all
theorem kM {i j:Nat}{v:Value}(h:j<t.size):(t.setIfInBounds i v).getD j undef=if i=j then v else t.getD j undef:=by
 simp only[Array.getD_eq_getD_getElem?,Array.getElem?_setIfInBounds]
 grind
theorem aoR {m:Nat}{c:Code}(hc:H7 P m c=true) {out:aZ}(h:FB m st=some (out,st')) (ht:8≤t.size) (s:S P g w st t O) :
  c.wpIn (FR none) 0 P (aX P g w t O [] none out st') ⟨t,[]⟩ w:=by
 unfold H7 at hc;split at hc
 ·rename_i i0 r0 i1 r1 i2 r2 i3 r3;simp only[Bool.and_eq_true]at hc;obtain⟨⟨⟨c0,c1⟩,c2⟩,c3⟩:=hc;obtain⟨o0,rfl,d0,gd0,p0⟩:=Y5 c0;obtain⟨o1,o2,T,u,rfl,d1,gd1,p1,d2,gd2,p2,hT⟩:=aod c1;obtain⟨o3,rfl,d3,gd3,p3⟩:=Y5 c2;obtain⟨o4,o5,o6,o7,T4,ats,e',rfl,d4,gd4,p4,hT4,d5,gd5,p5,d6,gd6,p6,hats,hT6,hz6,hu1,d7,gd7,p7⟩:=ao7 c3;unfold FB at h;split at h
  ·rename_i v hv;split at h
   ·rename_i xs hxs;split at h
    ·rename_i hb;simp only[Bool.and_eq_true,Nat.ble_eq]at hb;obtain⟨hok,hmost⟩:=hb;simp only[Option.some.injEq,Prod.mk.injEq]at h;obtain⟨rfl,rfl⟩:=h;have hl:=EG hok;obtain⟨Ov,O1,h0t,rv,s1,l1⟩:=s.pull hv;obtain⟨ad,cap,news0,hx,hels0⟩:=tf s hxs hl rv;obtain⟨Oe,Oh,_,sh,ho⟩:=s.split;generalize hX:t.getD 0 undef=X at *;obtain⟨el,hu,hsz,hm,hby⟩:=d9 hT;have fin:∀ (t':Array Value) (w':World) (g':Gh) (Or O':Nat→Nat),t'.size=t.size→RV g' w' (.own true m xs) (t'.getD 2 undef) Or→S P g' w' ⟨[],st.hs⟩ #[] O'→aI g w g' w' (fun b=>O b≠0)→
       (∀ b,Or b+O' b≤1)→(∀ b,b<w.heap.size→Or b+O' b≤O b)→(∀ b,Or b≠0→b<w'.heap.size)→aX P g w t O [] none .ret ⟨[(2,.own true m xs)],st.hs⟩ .ret ⟨t',[]⟩ w':=by
      intro t' w' g' Or O' hsz' rv' s' hx' hle hold hhi;refine⟨rfl,g',fun b=>Or b+O' b,[],⟨S.join (by simp[bg]) ⟨Or,zero,⟨by grind,rv'⟩,fun _=>rfl,fun b=>by simp⟩ s' hle hhi,hx',hold,hsz'⟩,rfl,trivial,fun _=>rfl⟩
     have nodef:∀ {op:Op}{op':Op},op=op'→(∀ c,op'≠.defer c)→∀ c,op≠.defer c:=fun e h c e2=>h c (e▸e2)
     refine wpIn_seq (wpIn_region ?_);show wpOpsIn _ _ _ _ _ [0] _ _;refine kH (o:=o0) (v:=.slice none 0 0) (w':=w) rfl gd0 (nodef p0 (by simp)) (by simp[execOp,p0,ev]) ?_;refine wpIn_seq (wpIn_seq (wpIn_region ?_));show wpOpsIn _ _ _ _ _ [0,1] _ _;have hev0:ev (oD t (some 2) (.slice none 0 0)) (.tmp 0)=X:=by
      show (t.setIfInBounds 2 _).getD 0 undef=X
      grind [kM]
     rw[d0];refine kH (o:=o1) (v:=X) (w':=w) rfl gd1 (nodef p1 (by simp)) (by simp[execOp,p1,hev0]) ?_;rw[d1];generalize ht2:oD (oD t (some 2) (.slice none 0 0)) (some 3) X=t2;have hs2:t2.size=t.size:=by grind [ky]
     have hev3:ev t2 (.tmp 3)=X:=by
      rw[←ht2];show ((oD t (some 2) (.slice none 0 0)).setIfInBounds 3 X).getD 3 undef=X
      grind [kM,ky]
     have heq:(Op.equal T X (.slice none 0 0)).run P w=.ok ad.isNone w:=by
      show (Op.equalIn (9999+1) T X (.slice none 0 0)).run P w=_;rw[hx];unfold Op.equalIn;rw[Sem.run_bind,aw hu]
      cases ad<;>simp
     have hguard:(eqGuard .eql T (.tmp 3) (.const (.slice none 0 0)) X (.slice none 0 0)).run P w=.ok () w:=by
      rw[hx];unfold eqGuard;simp
     refine kH (o:=o2) (v:=.bool ad.isNone) (w':=w) rfl gd2 (nodef p2 (by simp)) ?_ ?_
     ·simp only[execOp,p2,hev3];have hc:ev t2 (.const (.slice none 0 0))=.slice none 0 0:=rfl;rw[hc,Sem.run_bind,Sem.run_bind,hguard];have hbin:(binOp .eql T X (.slice none 0 0)).run P w=.ok (.bool ad.isNone) w:=by
       rw[hx];rw[hx]at heq;show ((do pure (.bool (←Op.equal T (.slice ad xs.length cap) (.slice none 0 0))):Sem Value)).run P w=_;rw[Sem.run_bind,heq];rfl
      grind [Result.andThen_ok,Sem.run_pure]
     ·rw[d2];generalize ht3:oD t2 (some 4) (.bool ad.isNone)=t3;have hs3:t3.size=t.size:=by grind [ky]
      have hev4:ev t3 (.tmp 4)=.bool ad.isNone:=by
       rw[←ht3];show (t2.setIfInBounds 4 _).getD 4 undef=_
       grind [kM]
      have hev03:ev t3 (.tmp 0)=X:=by
       rw[←ht3,←ht2];show (((t.setIfInBounds 2 _).setIfInBounds 3 _).setIfInBounds 4 _).getD 0 undef=X
       grind [kM]
      show (Code.cond (.tmp 4) (.seq (.region i2 #[o3] false) .ret) .skip).wpIn (FR none) 0 P _ ⟨t3,[]⟩ w
      cases had:ad with
      | none =>
       refine wpIn_cond_true (by rw[AW,hev4,had];rfl) (wpIn_seq (wpIn_region ?_));show wpOpsIn _ _ _ _ _ [0] _ _;refine kH (o:=o3) (v:=.slice none 0 0) (w':=w) rfl gd3 (nodef p3 (by simp)) (by simp[execOp,p3,ev]) (wpIn_ret ?_);rw[d3];have hnil:xs=[]:=List.eq_nil_of_length_eq_zero (hels0.nn had);refine fin _ w g zero Oh (by rw[ky,hs3]) ?_ sh (.refl _ _ _) (fun b=>by have:=ho b;have:=s.le b;grind) (fun b _=>by grind) (fun b hb=>by simp at hb);have:(oD t3 (some 2) (.slice none 0 0)).getD 2 undef=.slice none 0 0:=by
        show (t3.setIfInBounds 2 _).getD 2 undef=_
        grind [kM]
       grind [RV,vZ]
      | some ad' =>
       refine wpIn_cond_false (by rw[AW,hev4,had];rfl) (wpIn_skip ?_);refine wpIn_seq (wpIn_region ?_);show wpOpsIn _ _ _ _ _ [0,1,2,3] _ _;obtain⟨el4,hu4,hsz4,hm4,hby4⟩:=d9 hT4;have hbuild:(Instr.buildSlice T4 0 #[]).run P w=.ok (.slice (some ⟨w.heap.size,0,none⟩) 0 0) (w.alloc (.cells #[] el4)):=by
        have hr:∀ f:Nat→Value,(Array.range (0*m)).map f=#[]:=by
         grind
        simp only[Instr.buildSlice,aw hu4,cj hsz4,Sem.run_bind,Result.andThen_ok,Sem.run_ite,Instr.fill,Nat.zero_mul,if_true,Sem.run_pure];have hr0:∀ f:Nat→Value,(Array.range 0).map f=#[]:=by
         grind
        simp[newRow,hr0]
       refine kH (o:=o4) (v:=.slice (some ⟨w.heap.size,0,none⟩) 0 0) (w':=w.alloc (.cells #[] el4)) rfl gd4 (nodef p4 (by simp)) (by simp[execOp,p4,hbuild]) ?_;rw[d4];generalize ht5:oD t3 (some 5) (.slice (some ⟨w.heap.size,0,none⟩) 0 0)=t5;have hs5:t5.size=t.size:=by grind [ky]
       have hev05:ev t5 (.tmp 0)=X:=by
        rw[←ht5];show (t3.setIfInBounds 5 _).getD 0 undef=X;rw[kM (by omega),if_neg (by omega)];exact hev03
       refine kH (o:=o5) (v:=X) (w':=w.alloc (.cells #[] el4)) rfl gd5 (nodef p5 (by simp)) (by simp[execOp,p5,hev05]) ?_;rw[d5];generalize ht6:oD t5 (some 6) X=t6;have hs6:t6.size=t.size:=by grind [ky]
       have hev66:ev t6 (.tmp 6)=X:=by
        rw[←ht6];show (t5.setIfInBounds 6 _).getD 6 undef=X
        grind [kM]
       have hev65:ev t6 (.tmp 5)=.slice (some ⟨w.heap.size,0,none⟩) 0 0:=by
        rw[←ht6,←ht5];show ((t3.setIfInBounds 5 _).setIfInBounds 6 _).getD 5 undef=_
        grind [kM]
       have hx1:aI g w g (w.alloc (.cells #[] el4)) fun _=>False:=aI.alloc s.pmlt _ _
       have hpl:∀ b o,g.pm b o→b<(w.alloc (.cells #[] el4)).heap.size:=fun b o h=>Nat.lt_of_lt_of_le (s.pmlt b o h) hx1.size
       have sx:=s.extF hx1 rfl hpl;have shx:=sh.extF hx1 rfl hpl;have rvx:=RV.ext hx1 _ _ _ rv (by simp);obtain⟨ad2,cap2,news,hxx,hels⟩:=tf sx hxs hl rvx;rw[hx,had]at hxx;simp only[Value.slice.injEq,true_and]at hxx;obtain⟨rfl,rfl⟩:=hxx;obtain⟨el6,hu6,hsz6,hm6,hby6⟩:=d9 hT6;obtain⟨el6',i6,zv,hu6',hi,hz,hzs⟩:=kU hz6;rw[hu6]at hu6';simp only[Option.some.injEq,TypeDesc.slice.injEq]at hu6';subst hu6';rw[EA hi]at hby6;generalize lW ⟨.builtin .append,#[.tmp 5,.tmp 6],ats⟩=T0 at *;generalize ats.getD 1 0=T1 at *;have hsrc:YX P (w.alloc (.cells #[] el4)) T1 X el6 m xs.length news:=by
        refine⟨hels.len,hels.one,.inl ⟨⟨e',hu1⟩,⟨ad,cap,hx⟩,fun w1 hw=>?_⟩⟩;have:=hels.first (P:=P) (len:=xs.length) (cap:=cap) (Nat.le_refl _) hw
        rw[←hels.len,List.take_length,←had,←hx]at this;exact this
       have hmost':xs.length≤4294967296:=hmost;have hApp:mq P g (w.alloc (.cells #[] el4)) #[] Oh zero ⟨[],st.hs⟩ (.own true m xs) ((Builtin.append_ #[T0,T1] o6.type #[.slice (some ⟨w.heap.size,0,none⟩) 0 0,X]).run P (w.alloc (.cells #[] el4))):=by
        by_cases hxs0:xs.length=0
        ·have hnil:news=[]:=List.eq_nil_of_length_eq_zero (by grind [uQ.len]);have hxn:xs=[]:=List.eq_nil_of_length_eq_zero hxs0;have hrun:=u9 (P:=P) (w:=w.alloc (.cells #[] el4)) (ty:=o6.type) hu6 hi (Ii hsz6 hi) hm6 hby6 hmost' hsrc (base:=some ⟨w.heap.size,0,none⟩) (sLen:=0) (sCap:=0) (by omega);refine⟨.slice (some ⟨w.heap.size,0,none⟩) 0 0,w.alloc (.cells #[] el4),g,zero,Oh,?_,?_,shx,.refl _ _ _,fun b=>by have:=shx.le b;simp_all,fun b _=>by simp,fun b hb=>by simp at hb⟩
         ·simp_all [storeCells]
         simp_all [RV,vZ]
        ·have:=RF (Oa:=zero) (xs:=[]) (base:=some ⟨w.heap.size,0,none⟩) (sCap:=0) (olds:=[]) (ty:=o6.type) shx hu6 hi hz hzs (Ii hsz6 hi) hm6 hby6 hsrc hels.rd (fun e he=>by simp at he) hl (by simp)
          (fun j d h=>by simp at h) (fun w1 _=>nC m _ 0 0 w1) (by simp_all) (by omega)
         simp_all
       obtain⟨vv,w2,g2,Or,O2,k1,k2,k3,k4,k5,k6,k7⟩:=hApp;refine kH (o:=o6) (v:=vv) (w':=w2) rfl gd6 (nodef p6 (by simp)) ?_ ?_
       ·simp_all [execOp,resolve,invoke,builtin]
       ·rw[d6];generalize ht7:oD t6 (some 7) vv=t7;have hs7:t7.size=t.size:=by grind [ky]
        have hev77:ev t7 (.tmp 7)=vv:=by
         rw[←ht7];show (t6.setIfInBounds 7 _).getD 7 undef=vv
         grind [kM]
        refine kH (o:=o7) (v:=vv) (w':=w2) rfl gd7 (nodef p7 (by simp)) (by simp_all [execOp]) (wpIn_ret ?_);have hle1:w.heap.size≤(w.alloc (.cells #[] el4)).heap.size:=hx1.size;refine fin _ w2 g2 Or O2 (by rw[ky,hs7]) ?_ k3 (((hx1.mono (T:=fun b=>O b≠0) fun _ _ h=>h.elim)).trans k4 fun b hb hq=>?_) k5 (fun b hb=>?_) k7
        ·have:(oD t7 (some 2) vv).getD 2 undef=vv:=by
          show (t7.setIfInBounds 2 _).getD 2 undef=_
          grind [kM]
         simp_all
        all_goals grind
    grind
   grind
  grind
 simp_all
end
section
variable {P:Program}{F:Fence}{n:Nat}
theorem zn {fn:Func}{tmps:Array Value}{R:Ending→World→Prop}:∀ (ds:List Deferred) (u:FrameMode) (w:World) (fr:Frame)
  (cs:List Frame),fr.mode=u→fr.defers=ds→fr.tmps=tmps→P.funcs[fr.fn]?=some fn→fr.kind=.deferred→F.fn fr.fn→F.room (cs.length+1+n)→LeavesInM F n P fn tmps R ds u w→
  ∃ e w' fr',R e w'∧ComesIn (Machine.fenced P F) P (lone fr cs w) (lone fr' cs w') e∧fr'.fn=fr.fn∧fr'.kind=.deferred∧fr'.going P w' e:=by
 intro ds
 induction ds with
 | nil =>
  intro u w fr cs hu hd ht hf hk _ _ h
  cases u with
  | run=>exact h.elim
  | returning =>
   obtain⟨v,hr,hR⟩:=h;exact⟨.returned v,w,fr,hR,StepsIn.refl _,rfl,hk,hu,hd,fn,hf,ht▸hr⟩
  | panicking chain=>exact⟨.panicked chain,w,fr,h,StepsIn.refl _,rfl,hk,hu,hd,fn,hf⟩
 | cons d ds ih =>
  intro u w fr cs hu hd ht hf hk hb hroom h;obtain⟨hrun,h⟩:=h;rcases h with ⟨r,w',htar,htake,hrest⟩ | ⟨hn,fv,cap,f,args,htar,hinv,hlead,hFf,hcall⟩
  ·have h1:=step_collected (cs:=cs) (hu▸hrun) hd htar htake;have i1:(lone fr cs w).fenced P F:=fenced_out hb hroom (hu▸hrun) hd (fun g hg=>by grind [Target.leads]);obtain⟨e',w'',fr',hR',hs',hfn',hk',hl'⟩:=ih u w' { fr with defers:=[]++ds } cs hu rfl ht hf hk hb hroom hrest;exact⟨e',w'',fr',hR',ComesIn.of_steps (.one i1 h1) hs',hfn',hk',hl'⟩
  ·have h1:=step_defer (cs:=cs) (hu▸hrun) hd htar hinv;have i1:(lone fr cs w).fenced P F:=fenced_out hb hroom (hu▸hrun) hd hlead;have hroom':F.room (({ fr with defers:=ds }::cs).length+1+(n-1)):=Fence.room_enter hroom hn;obtain⟨e,u',w',frX,hR,hsteps,hkX,hfX,hgo⟩:=hcall { fr with defers:=ds } cs hu hroom'
   cases e with
   | outgrown=>exact⟨.outgrown,w',fr,hR,Outgrown.of_steps (.one h1) hsteps,rfl,hk,trivial⟩
   | returned v =>
    have i2:(lone frX ({ { fr with defers:=ds } with mode:=u' }::cs) w').fenced P F:=fenced_going (n:=n-1) (hfX▸hFf) hroom' hgo;have h2:=step_going_returned (c:={ { fr with defers:=ds } with mode:=u' }) (cs:=cs) hkX hgo;obtain⟨e',w'',fr',hR',hs',hfn',hk',hl'⟩:=ih (settle u') w' { { { fr with defers:=ds } with mode:=u' } with mode:=settle u' } cs rfl rfl ht hf hk hb hroom hR;exact⟨e',w'',fr',hR',ComesIn.of_steps (.head i1 h1 (StepsIn.trans hsteps (.one i2 h2))) hs',hfn',hk',hl'⟩
   | panicked chain =>
    have i2:(lone frX ({ { fr with defers:=ds } with mode:=u' }::cs) w').fenced P F:=fenced_going (n:=n-1) (hfX▸hFf) hroom' hgo;have h2:=step_going_panicked (c:={ { fr with defers:=ds } with mode:=u' }) (cs:=cs) hgo;obtain⟨e',w'',fr',hR',hs',hfn',hk',hl'⟩:=ih (raised u' chain) w' { { { fr with defers:=ds } with mode:=u' } with mode:=raised u' chain } cs rfl rfl ht hf hk hb hroom hR;exact⟨e',w'',fr',hR',ComesIn.of_steps (.head i1 h1 (StepsIn.trans hsteps (.one i2 h2))) hs',hfn',hk',hl'⟩
theorem Iu {f:FuncId}{fn:Func}{c:Code}{args:Array Value}{u:FrameMode}{w:World}{R:Ending→World→Prop}
  (hf:P.funcs[f]?=some fn) (hb:fn.body=some c) (hF:F.fn f)
  (h:c.wpIn F n P (bodyPostM F n P fn R) { tmps:=args++Array.replicate (fn.ntmps-args.size) undef,defers:=[] } w) (hro:F.round=none:=by rfl) :
  CallsDIn F n P f args u w fun e u' w'=>u'=u∧R e w':=by
 refine⟨hF,fun c₀ cs hu hr=>?_⟩
 let b:Frame:={ (default:Frame) with fn:=f,kind:=.deferred,roundOf:=none }
 have henter:Frame.enter P f args .deferred =
   b.atR { tmps:=args++Array.replicate (fn.ntmps-args.size) undef,defers:=[] } [.code c]:=by
  grind [Frame.enter,Frame.atR]
 have hc:({ c₀ with mode:=u }:Frame)=c₀:=by subst hu;rfl
 obtain⟨e,a',w',hq,harr⟩:=h b [] (c₀::cs) hro.symm hF hr;rw[←henter]at harr
 cases e with
 | normal =>
  obtain⟨e',w'',fr',hR,hs,hfn,hk,hl⟩:=zn a'.defers .returning w' { b.atR a' [] with mode:=.returning } (c₀::cs) rfl rfl rfl hf rfl hF hr hq;exact⟨e',u,w'',fr',⟨rfl,hR⟩,(by rw[hc];exact ComesIn.of_steps (StepsIn.trans harr (.one (fenced_calm (fr:=b.atR a' []) hF hr rfl) (stepR_end rfl))) hs),hk,hfn,hl⟩
 | ret =>
  obtain⟨todo,hs₀⟩:=harr.1 rfl;obtain⟨e',w'',fr',hR,hs,hfn,hk,hl⟩:=zn a'.defers .returning w' { b.atR a' todo with mode:=.returning } (c₀::cs) rfl rfl rfl hf rfl hF hr hq;exact⟨e',u,w'',fr',⟨rfl,hR⟩,(by grind [ComesIn.of_steps]),hk,hfn,hl⟩
 | panic chain =>
  obtain⟨todo,hs₀⟩:=harr;obtain⟨e',w'',fr',hR,hs,hfn,hk,hl⟩:=zn a'.defers (.panicking chain) w' { b.atR a' todo with mode:=.panicking chain } (c₀::cs) rfl rfl rfl hf rfl hF hr hq;exact⟨e',u,w'',fr',⟨rfl,hR⟩,(by grind [ComesIn.of_steps]),hk,hfn,hl⟩
 | exit id=>exact hq.elim
 | goto l=>exact hq.elim
 | outgrown=>exact⟨.outgrown,u,w',b,⟨rfl,hq⟩,(by exact harr.resolve_left (by simp[b])),rfl,rfl,trivial⟩
end
section
variable {P:Program}{g:Gh}{w:World}{t:Array Value}{O:Nat→Nat}{st st':St}{a:AV}{o:Oper}{r:bD}
def wD (P:Program) (r:bD):Prop :=
 ∀ {f:FuncId}{args:List AV}{hs:HS}{v:AV}{hs':HS},r.call f args hs=some (v,hs')→
  ∀ {g:Gh}{w:World}{xs:List Value}{Oa Oh:Nat→Nat},RVs g w args xs Oa→S P g w ⟨[],hs⟩ #[] Oh→(∀ b,Oa b+Oh b≤1)→(∀ b,Oa b≠0→b<w.heap.size)→∀ u:FrameMode,
   CallsDIn (FR none) 0 P f xs.toArray u w fun e u' w'=>u'=u∧dK P g w (fun b=>Oa b+Oh b) v hs' e w'
theorem QR {ro:Option Nat}{fn:Func}{tmps:Array Value}{R:Ending→World→Prop}{lo:Nat}{es:List Deferred}:∀ {ms:List Deferred}{w:World},fJ w O lo ms→S P g w st t O→
  (∀ w',S P g w' st t O→aI g w g w' (fun b=>lo≤b)→LeavesInM (FR ro) 0 P fn tmps R es .returning w')→LeavesInM (FR ro) 0 P fn tmps R (ms++es) .returning w
 | [],w,_,s,h=>h w s (.refl _ _ _)
 | d::ds,w,⟨⟨r,h1,h2,h3,h4,h5⟩,h6⟩,s,h=>by
  refine⟨by simp,.inl ⟨r,setBlk w r (.deferred none),h1,Cz h3,?_⟩⟩;have hx:aI g w g (setBlk w r (.deferred none)) fun x=>x=r:=aI.deferBlk h3
  have hm:fJ (setBlk w r (.deferred none)) O lo ds:=by
   have:∀ {es:List Deferred},(∀ d'∈es,∀ r',d'.target=.collected r'→r'<r)→fJ w O lo es→fJ (setBlk w r (.deferred none)) O lo es:=by
    intro es
    induction es with
    | nil=>exact fun _ _=>trivial
    | cons e es ih =>
     rintro hlt ⟨⟨q,k1,k2,k3,k4,k5⟩,k6⟩
     have:=hlt e (.head _) q k1;exact⟨⟨q,k1,k2,by grind [dZ],k4,k5⟩,ih (fun d' hd'=>hlt d' (.tail _ hd')) k6⟩
   grind
  exact QR hm (s.otherG hx h4) fun w' s' hx'=>h w' s' ((hx.mono (T:=fun b=>lo≤b) fun b _ e=>by omega).trans hx' fun _ _ h=>h)
end
def auH (P:Program) (vf:ae) (f:FuncId):Prop :=
 ∃ fn c,P.funcs[f]?=some fn∧fn.body=some c∧fn.name≠ "runtime.NumGoroutine"∧vf.nparams≤fn.ntmps∧iB P vf.results fn.results.toList=true∧
  (Mt P fn.ntmps vf.body c∨(∃ m,vf.body=.clone m∧H7 P m c=true∧8≤fn.ntmps)∨∃ i d f a,vf.body=.late i d f a∧NW P fn.ntmps i d f a c=true)
def DL (P:Program) (T:Nat→Option ae):Prop:=∀ f vf,T f=some vf→auH P vf f
def A7 (P:Program) (r:bD):Prop :=
 ∀ {v:VC}{st:St}{o:aZ}{st':St},r.code (.loop v) st=some (o,st')→∀ {c:Code}{n:Nat},Mt P n v c→∀ {g:Gh}{w:World}{t:Array Value}{O:Nat→Nat},t.size=n→S P g w st t O→
  ∀ (ro:Option Nat) (ds:List Deferred),xj w ro→I9 ro P c (aX P g w t O ds ro o st') ⟨t,ds⟩ w
def xd (P:Program) (r:bD):Prop :=
 ∀ {v cur:VC}{st:St}{o:aZ}{st':St},r.code (.inScope v cur) st=some (o,st')→∀ {body c:Code}{n:Nat},Mt P n v body→Mt P n cur c→∀ {g:Gh}{w:World}{t:Array Value}{O:Nat→Nat},t.size=n→
  S P g w st t O→∀ (ro:Option Nat) (ds:List Deferred),xj w ro→xW ro P body c (aX P g w t O ds ro o st') ⟨t,ds⟩ w
def wR (P:Program) (r:bD):Prop :=
 ∀ {v:VC}{st:St}{o:aZ}{st':St},ov v=true→r.code v st=some (o,st')→o=.normal∧∀ {g:Gh}{w:World}{t:Array Value}{O:Nat→Nat},S P g w st t O→∃ g' O',dJ P g w t O st' t w g' O'
section
variable {P:Program}{g:Gh}{w:World}{t:Array Value}{O:Nat→Nat}{st st':St}{r:bD}
theorem I9.mono {ro:Option Nat}{c:Code}{Q Q':Exit→Act→World→Prop}{a:Act}(h:I9 ro P c Q a w) (hq:∀ e a w,Q e a w→Q' e a w):I9 ro P c Q' a w :=
 fun b k cs hr=>let ⟨e,a',w',q,x⟩:=h b k cs hr;⟨e,a',w',hq _ _ _ q,x⟩
theorem xW.mono {ro:Option Nat}{body c:Code}{Q Q':Exit→Act→World→Prop}{a:Act}(h:xW ro P body c Q a w) (hq:∀ e a w,Q e a w→Q' e a w):xW ro P body c Q' a w :=
 fun b k cs hr=>let ⟨e,a',w',q,x⟩:=h b k cs hr;⟨e,a',w',hq _ _ _ q,x⟩
theorem dJ.mono {O2:Nat→Nat}{t':Array Value}{w':World}{g':Gh}{O':Nat→Nat}(h:dJ P g w t O st' t' w' g' O') (hle:∀ b,O b≤O2 b):dJ P g w t O2 st' t' w' g' O' :=
 ⟨h.st,h.ext.mono fun b _ hb=>by grind,fun b hb=>Nat.le_trans (h.old b hb) (hle b),h.size⟩
theorem aX.mono {O2:Nat→Nat}{ds:List Deferred}{ro:Option Nat}{o:aZ}{e:Exit}{a':Act}{w':World}(h:aX P g w t O ds ro o st' e a' w') (hle:∀ b,O b≤O2 b):aX P g w t O2 ds ro o st' e a' w':=by
 obtain⟨he,g',O',ms,G,hd,hm,hr⟩:=h;exact⟨he,g',O',ms,G.mono hle,hd,hm,hr⟩
theorem aX.refl {ds:List Deferred}{ro:Option Nat}(o:aZ) (s:S P g w st t O):aX P g w t O ds ro o st (xU o) ⟨t,ds⟩ w :=
 ⟨rfl,g,O,[],dJ.refl s,rfl,trivial,fun _=>rfl⟩
theorem aX.ghost {ds:List Deferred}{ro:Option Nat}{o o2:aZ}{st2:St}{e:Exit}{a':Act}{w':World}(h:aX P g w t O ds ro o st' e a' w')
  (hg:∀ {g:Gh}{w:World}{t:Array Value}{O:Nat→Nat},S P g w st' t O→∃ g' O',dJ P g w t O st2 t w g' O') (ho:xU o=xU o2):aX P g w t O ds ro o2 st2 e a' w':=by
 obtain⟨he,g',O',ms,G,hd,hm,hr⟩:=h;obtain⟨g2,O2,G2⟩:=hg G.st;exact⟨he.trans ho,g2,O2,ms,G.trans G2,hd,hm.after G2.ext G2.old,hr⟩
theorem aX.as {ds:List Deferred}{ro:Option Nat}{o o2:aZ}{e:Exit}{a':Act}{w':World}(h:aX P g w t O ds ro o st' e a' w'):aX P g w t O ds ro o2 st' (xU o2) a' w':=by
 obtain⟨_,h⟩:=h;exact⟨rfl,h⟩
theorem wM {ds:List Deferred}{ro:Option Nat}(hro:xj w ro) {o1:aZ}{st1:St}{next:Act→World→Prop}{o:aZ}{e:Exit}{a1:Act}{w1:World}(h:aX P g w t O ds ro o1 st1 e a1 w1)
  (hn:o1=.normal→∀ (t1:Array Value) (ds1:List Deferred) (g1:Gh) (O1:Nat→Nat),t1.size=t.size→S P g1 w1 st1 t1 O1→xj w1 ro→
   (∀ e a2 w2,aX P g1 w1 t1 O1 ds1 ro o st' e a2 w2→aX P g w t O ds ro o st' e a2 w2)→next ⟨t1,ds1⟩ w1)
  (ho:o1≠.normal→o=o1∧st'=st1):Exit.then next (aX P g w t O ds ro o st') e a1 w1:=by
 have h0:=h;obtain⟨he,g1,O1,ms,G,hd,hm,hr⟩:=h;subst he;by_cases hnm:o1=.normal
 ·subst hnm;obtain⟨t1,d1⟩:=a1;subst hd;exact hn rfl t1 _ g1 O1 G.size G.st (hro.ext G.ext) fun e a2 w2 k=>aX.comp G hm hr k
 ·obtain⟨rfl,rfl⟩:=ho hnm
  cases o<;>first | exact absurd rfl hnm | exact h0
theorem aeI (hc:eK P r) (hl:A7 P r) (hs:xd P r) (hgh:wR P r) (hr:ep P r) {v:VC}{o:aZ}(h:bp v r st=some (o,st')) {c:Code}{n:Nat}(hm:Mt P n v c) (hn:t.size=n)
  (s:S P g w st t O) (ro:Option Nat) (ds:List Deferred) (hro:xj w ro):c.wpIn (FR ro) 0 P (aX P g w t O ds ro o st') ⟨t,ds⟩ w:=by
 cases hm with
 | @ghostL a b c h1 h2 =>
  simp only[bp,IV]at h;split at h
  ·rename_i st1 ha;obtain⟨_,hg⟩:=hgh h1 ha;obtain⟨g1,O1,G⟩:=hg s;exact wpIn_mono (hc h h2 (by omega) G.st ro ds hro) fun e a2 w2 k=>aX.comp (ms1:=[]) G trivial (fun _=>rfl) k
  ·rename_i x hx
   cases hra:r.code a st with
   | none=>simp_all
   | some p =>
    obtain⟨o1,st1⟩:=p;obtain⟨rfl,_⟩:=hgh h1 hra
    simp_all
 | @ghostR a b c h1 h2 =>
  simp only[bp,IV]at h;split at h
  ·rename_i st1 ha;obtain⟨rfl,hg⟩:=hgh h1 h;exact wpIn_mono (hc ha h2 hn s ro ds hro) fun e a2 w2 k=>k.ghost hg rfl
  ·rename_i x hx;exact hc h h2 hn s ro ds hro
 | @seq a b c d h1 h2 =>
  simp only[bp,IV]at h;split at h
  ·rename_i st1 ha;refine wpIn_seq (wpIn_mono (hc ha h1 hn s ro ds hro) fun e a1 w1 k=>wM hro k (fun _ t1 ds1 g1 O1 hs1 s1 hro1 hcomp=>?_) (fun hne=>absurd rfl hne));exact wpIn_mono (hc h h2 (by omega) s1 ro ds1 hro1) hcomp
  ·rename_i x hx;refine wpIn_seq (wpIn_mono (hc h h1 hn s ro ds hro) fun e a1 w1 k=>wM hro k (fun hnm=>?_) (fun _=>⟨rfl,rfl⟩))
   simp_all
 | skip =>
  simp only[bp,Option.some.injEq,Prod.mk.injEq]at h;obtain⟨rfl,rfl⟩:=h;exact wpIn_skip (aX.refl .normal s)
 | @reg ops id os hops =>
  simp only[bp,NT]at h;split at h
  ·rename_i st1 hst;simp only[Option.some.injEq,Prod.mk.injEq]at h;obtain⟨rfl,rfl⟩:=h;refine wpIn_region ?_;have:=aaT (ro:=ro) (Q:=aX P g w t O ds ro .normal st1) hr hc ds (k:=0) rfl hops hn s hst fun w' t' g' O' G=>⟨rfl,g',O',[],G,rfl,trivial,fun _=>rfl⟩
   grind [List.range_eq_range']
  simp_all
 | @draw ops id os hops =>
  simp only[bp,NT]at h;split at h
  ·rename_i st1 hst;simp only[Option.some.injEq,Prod.mk.injEq]at h;obtain⟨rfl,rfl⟩:=h;exact aum hr hc ds hops hn s hst fun w' t' g' O' G=>⟨rfl,g',O',[],G,rfl,trivial,fun _=>rfl⟩
  simp_all
 | @drawP perm gco nr ops id os hops =>
  simp only[bp,GB,Fr]at h;split at h
  ·rename_i habs;split at h
   ·rename_i st1 hst;simp only[Option.some.injEq,Prod.mk.injEq]at h;obtain⟨rfl,rfl⟩:=h;exact aqB hr hc ds hops hn s habs hst fun w' t' g' O' G=>⟨rfl,g',O',[],G,rfl,trivial,fun _=>rfl⟩
   simp_all
  simp_all
 | @cond rd o' a b c d h1 h2 h3 =>
  simp only[bp,FD]at h;have step:∀ (tb:Bool) (e:ar) (k:VC) (cd:Code),Vm.rd st.env rd=some (.d (.bool tb),e)→r.code k ⟨e,st.hs⟩=some (o,st')→Mt P n k cd→(if tb then c else d)=cd→
    (Code.cond o' c d).wpIn (FR ro) 0 P (aX P g w t O ds ro o st') ⟨t,ds⟩ w:=by
   intro tb e k cd hrd hk hmk hcd;obtain⟨Ov,O',rv,s',l⟩:=s.rd h1 hrd;have hev:=ta rv rfl;refine wpIn_cond (t:=tb) (by simp_all [AW]) ?_;rw[hcd];exact wpIn_mono (hc hk hmk hn s' ro ds hro) fun e a2 w2 k=>k.mono fun b=>by grind
  grind
 | @block bid a c h1 =>
  simp only[bp,FZ]at h;split at h
  ·rename_i j st1 ha;refine wpIn_block (wpIn_mono (hc ha h1 hn s ro ds hro) fun e a1 w1 k=>?_);obtain⟨rfl,_⟩:=id k
   grind [xU,Exit.inBlock,Nat.beq_eq,aX.as]
  ·rename_i x hx;refine wpIn_block (wpIn_mono (hc h h1 hn s ro ds hro) fun e a1 w1 k=>?_);have hne:∀ j,o≠.exit j:=by simp_all
   obtain⟨rfl,_⟩:=id k
   cases o<;>first | exact k | simp_all
 | @loop a c h1 =>
  simp only[bp,Lq]at h;refine(YP ?_).2;split at h
  ·rename_i st1 ha;refine wpIn_mono (hc ha h1 hn s ro ds hro) fun e a1 w1 k=>wM hro k (fun _ t1 ds1 g1 O1 hs1 s1 hro1 hcomp=>?_) (fun hne=>absurd rfl hne)
   exact(hl h h1 (by omega) s1 ro ds1 hro1).mono hcomp
  ·rename_i x hx;refine wpIn_mono (hc h h1 hn s ro ds hro) fun e a1 w1 k=>wM hro k (fun hnm=>?_) (fun _=>⟨rfl,rfl⟩)
   simp_all
 | @rangeF rd o' ps qs a b c d h1 h2 h3 h4 h5 =>
  subst hn h2;exact aly hr h h1 h3 h4 h5 s ro ds hro
 | exit =>
  simp only[bp,Option.some.injEq,Prod.mk.injEq]at h;obtain⟨rfl,rfl⟩:=h;exact wpIn_exit (aX.refl (.exit _) s)
 | @scope a c h1 =>
  exact ap9 (hs h h1 h1 hn s ro ds hro)
 | label =>
  obtain⟨rfl,rfl⟩:=h;exact wpIn_label (aX.refl .normal s)
 | goto =>
  obtain⟨rfl,rfl⟩:=h;exact wpIn_goto (aX.refl (.goto _) s)
 | ret =>
  obtain⟨rfl,rfl⟩:=h;exact wpIn_ret (aX.refl .ret s)
theorem arl (hc:eK P r) (hl:A7 P r) {v:VC}{o:aZ}(h:bp (.loop v) r st=some (o,st')) {c:Code}{n:Nat}(h1:Mt P n v c) (hn:t.size=n)
  (s:S P g w st t O) (ro:Option Nat) (ds:List Deferred) (hro:xj w ro):I9 ro P c (aX P g w t O ds ro o st') ⟨t,ds⟩ w:=by
 simp only[bp,Lq]at h;refine(YP ?_).1;split at h
 ·rename_i st1 ha;refine wpIn_mono (hc ha h1 hn s ro ds hro) fun e a1 w1 k=>wM hro k (fun _ t1 ds1 g1 O1 hs1 s1 hro1 hcomp=>?_) (fun hne=>absurd rfl hne)
  exact(hl h h1 (by omega) s1 ro ds1 hro1).mono hcomp
 ·refine wpIn_mono (hc h h1 hn s ro ds hro) fun e a1 w1 k=>wM hro k (fun hnm=>?_) (fun _=>⟨rfl,rfl⟩)
  simp_all
theorem an2 (hc:eK P r) (hs:xd P r) {v cur:VC}{o:aZ}(h:bp (.inScope v cur) r st=some (o,st')) {body c:Code}{n:Nat}(h1:Mt P n v body) (h2:Mt P n cur c) (hn:t.size=n)
  (s:S P g w st t O) (ro:Option Nat) (ds:List Deferred) (hro:xj w ro):xW ro P body c (aX P g w t O ds ro o st') ⟨t,ds⟩ w:=by
 simp only[bp,D5]at h;refine alA ?_;split at h
 ·rename_i l st1 ha;refine wpIn_mono (hc ha h2 hn s ro ds hro) fun e a1 w1 k=>?_
  have k0:=k;obtain⟨rfl,g1,O1,ms,G,hd,hm,hr⟩:=k;have hf:=arC h1 l;simp only[xU,Exit.scope];split at h
  ·rename_i rest hrest;rw[hrest]at hf;obtain⟨y,hy,hmy⟩:=hf;rw[hy];obtain⟨t1,d1⟩:=a1;subst hd;exact(hs h h1 hmy (by rw[G.size,hn]) G.st ro _ (hro.ext G.ext)).mono fun e a2 w2 k=>aX.comp G hm hr k
  ·rename_i hnone;rw[hnone]at hf;rw[hf];obtain⟨rfl,rfl⟩:=h;exact k0
 ·refine wpIn_mono (hc h h2 hn s ro ds hro) fun e a1 w1 k=>?_
  obtain⟨rfl,_⟩:=id k
  cases o<;>first | exact k | simp_all
theorem YN {r:bD}:∀ {ops:List VI}{st st':St},ops.all G9=true→gB r ops st=some st'→∀ {g:Gh}{w:World}{t:Array Value}{O:Nat→Nat},S P g w st t O→∃ g' O',dJ P g w t O st' t w g' O'
 | [],st,st',_,h,g,w,t,O,s=>by
  simp only[gB,Option.some.injEq]at h;subst h;exact⟨g,O,dJ.refl s⟩
 | i::l,st,st',ha,h,g,w,t,O,s=>by
  simp only[List.all_cons,Bool.and_eq_true]at ha;simp only[gB]at h;split at h
  ·rename_i st1 hv;obtain⟨g1,O1,G1⟩:=afp s ha.1 hv;obtain⟨g2,O2,G2⟩:=YN ha.2 h G1.st;exact⟨g2,O2,G1.trans G2⟩
  simp_all
theorem aom (hg:wR P r) {v:VC}{o:aZ}(hv:ov v=true) (h:bp v r st=some (o,st')):o=.normal∧∀ {g:Gh}{w:World}{t:Array Value}{O:Nat→Nat},S P g w st t O→∃ g' O',dJ P g w t O st' t w g' O':=by
 cases v<;>simp only[ov,Bool.false_eq_true]at hv
 ·grind [bp,NT,YN]
 ·simp only[Bool.and_eq_true]at hv;simp only[bp,IV]at h;split at h
  ·rename_i st1 hst;obtain⟨_,h1⟩:=hg hv.1 hst;obtain⟨ho,h2⟩:=hg hv.2 h;refine⟨ho,fun s=>?_⟩;obtain⟨g1,O1,G1⟩:=h1 s;obtain⟨g2,O2,G2⟩:=h2 G1.st;exact⟨g2,O2,G1.trans G2⟩
  ·obtain⟨ho,_⟩:=hg hv.1 h
   simp_all
end
section
variable {P:Program}
theorem Jr {fn:Func}{vf:ae}(h5:iB P vf.results fn.results.toList=true) {v:AV}{hs':HS}{o:aZ}{st1:St}(ho:o=.normal∨o=.ret) (hend:zm vf st1=some (v,hs')) {g:Gh}{w:World}{t:Array Value}{O:Nat→Nat}
  {e:Exit}{a':Act}{w':World}(k:aX P g w t O [] none o st1 e a' w'):bodyPostM (FR none) 0 P fn (dK P g w O v hs') e a' w':=by
 obtain⟨rfl,g',O',ms,G,hd,hm,_⟩:=k;rw[List.append_nil]at hd;have key:LeavesInM (FR none) 0 P fn a'.tmps (dK P g w O v hs') a'.defers .returning w':=by
  rw[hd];refine Ym hm G.st fun w2 s2 hx2=>?_
  obtain⟨x,Ov,Oh2,hrun,rx,sh2,l2⟩:=akO h5 hend s2;refine⟨x,hrun,g',Ov,Oh2,rx,sh2,G.ext.trans hx2 (fun b hb hq=>absurd hq (by omega)),fun b=>by have:=l2 b;have:=s2.le b;omega,fun b hb=>?_,fun b hb=>s2.hi b (by grind)⟩
  grind [dJ.old]
 rcases ho with rfl | rfl
 ·exact key
 ·exact key
theorem aoV {r:bD}(hr:ep P r) (hrd:wD P r) {fn:Func}{vf:ae}(h5:iB P vf.results fn.results.toList=true) {v v1:AV}{hs2 hs':HS}{o:aZ}{st1:St}(ho:o=.normal∨o=.ret) {f id off:Nat}
  (hcall:r.call f [.ptr id off] st1.hs=some (v1,hs2)) (hend:zm vf ⟨st1.env,hs2⟩=some (v,hs')) {g:Gh}{w:World}{t:Array Value}{O:Nat→Nat}{x:Value}(hx:∃ b,g.obj id=some b∧x=.pointer (some ⟨b,g.base id+off,none⟩))
  {e:Exit}{a':Act}{w':World}(k:aX P g w t O [{ target:=.fn (.func f) #[],args:=#[x] }] none o st1 e a' w'):bodyPostM (FR none) 0 P fn (dK P g w O v hs') e a' w':=by
 obtain⟨rfl,g',O',ms,G,hd,hm,_⟩:=k;obtain⟨hf,hk⟩:=hr hcall;have key:LeavesInM (FR none) 0 P fn a'.tmps (dK P g w O v hs') a'.defers .returning w':=by
  rw[hd];refine QR hm G.st fun w2 s2 hx2=>?_
  have hx12:aI g w g' w2 fun b=>O b≠0:=G.ext.trans hx2 (fun b hb hq=>absurd hq (by omega))
  obtain⟨b,hb,hxe⟩:=hx;obtain⟨k1,k2,_⟩:=hx12.obj id b hb;have rv:RVs g' w2 [.ptr id off] [x] zero:=by
   refine⟨x,[],zero,zero,rfl,?_,⟨rfl,fun _=>rfl⟩,fun _=>rfl⟩
   grind [RV]
  obtain⟨Oe,Oh,re,sh,hO⟩:=s2.split;refine⟨by simp,.inr ⟨by simp[Fence.wide],.func f,#[],f,#[x],rfl,?_,fun _ _=>trivial,(hrd hcall rv sh (fun b=>by have:=s2.le b;grind) (fun b hb=>by simp at hb) .returning).mono ?_⟩⟩
  ·show (callFunc f (#[x]++#[])).run P w2=_
   grind [oV]
  ·rintro e u' w3 ⟨rfl,hp⟩
   cases e with
   | panicked c=>exact hp.elim
   | outgrown=>exact hp.elim
   | returned y =>
    obtain⟨g3,Oa,O3,A⟩:=Au (v:=v1) (hs:=st1.hs) (t:=a'.tmps) s2.se re (fun b=>by simp_all) s2 hp;obtain⟨x4,Ov,Oh2,hrun,rx,sh2,l2⟩:=akO h5 hend A.st;refine⟨x4,hrun,g3,Ov,Oh2,rx,sh2,hx12.trans A.ext (fun b hb h=>by grind [dJ.old]),fun b=>by have:=l2 b;have:=A.le b;omega,fun b hb=>?_,fun b hb=>A.st.hi b (by grind)⟩;have:=l2 b;have:=G.old b hb;have:=A.old b (Nat.lt_of_lt_of_le hb hx12.size);omega
 rcases ho with rfl | rfl
 ·exact key
 ·exact key
theorem aoZ {r:bD}(hc:eK P r) (hr:ep P r) (hrd:wD P r) {n i d f:Nat}{a:VC}{c:Code}(hk:NW P n i d f a c=true) {fn:Func}{vf:ae}(h5:iB P vf.results fn.results.toList=true) {st st1:St}{o:aZ}{v:AV}{hs':HS}
  (h:MC r i d f a st=some (o,st1)) (hend:zm vf st1=some (v,hs')) {g:Gh}{w:World}{t:Array Value}{O:Nat→Nat}(hn:t.size=n) (s:S P g w st t O) :
  c.wpIn (FR none) 0 P (bodyPostM (FR none) 0 P fn (dK P g w O v hs')) ⟨t,[]⟩ w:=by
 obtain⟨env,hs⟩:=st;unfold NW at hk;split at hk
 ·rename_i rid os rest;simp only[Bool.and_eq_true]at hk;obtain⟨⟨hk1,hdn⟩,hrest⟩:=hk;split at hk1
  ·rename_i m kk hos;simp only[Bool.and_eq_true]at hk1;obtain⟨⟨⟨⟨hm1,hm2⟩,hk1a⟩,hk1b⟩,hk2⟩:=hk1;obtain⟨hmd,hmg⟩:=si hm1;have hk1a':kk.dst=none:=by simp_all
   have hk1b':kk.guard=none:=by simp_all
   split at hm2
   ·rename_i y hmop;have:=oG hm2;subst this;split at hk2
    ·rename_i cl hkop;simp only[Bool.and_eq_true]at hk2;obtain⟨hcal,hargs⟩:=hk2;have hcal':=Eg hcal;split at hargs
     ·rename_i y hay;have:=oG hargs;subst this;have harr:cl.args=#[.tmp d]:=aEk hay;have hosA:os=#[m,kk]:=by grind
      subst hosA;have hd:d<t.size:=by simp_all
      unfold MC at h;split at h
      ·rename_i id off hget;obtain⟨Ov,O1,rv,s1,l1⟩:=s.rd (r:=.s i) (o:=.tmp i) (by simp[bb]) (v:=.ptr id off) (e':=env) (by grind [rd,share]);obtain⟨hxp,hOv⟩:=rv;have rv':RV g w (.ptr id off) (ev t (.tmp i)) zero:=by grind [RV]
       obtain⟨O2,s2,l2⟩:=s.setTmp hd rv' (fun b=>by have:=s.le b;simp_all) (fun b hb=>by simp at hb);have hle2:∀ b,O2 b≤O b:=fun b=>by simp_all
       have hst:∃ o1 st0 v1 hs2,(o1=.normal∨o1=.ret)∧r.code a ⟨put env d (.ptr id off),hs⟩=some (o1,st0)∧r.call f [.ptr id off] st0.hs=some (v1,hs2)∧st1=⟨st0.env,hs2⟩:=by
        grind
       obtain⟨o1,st0,v1,hs2,ho1,hra,hcl,rfl⟩:=hst;refine wpIn_seq (wpIn_region ?_);have hx2:(t.setIfInBounds d (ev t (.tmp i))).getD d undef=ev t (.tmp i):=by simp_all
       have hgo:rest.wpIn (FR none) 0 P (bodyPostM (FR none) 0 P fn (dK P g w O v hs')) ⟨t.setIfInBounds d (ev t (.tmp i)),[{ target:=.fn (.func f) #[],args:=#[ev t (.tmp i)] }]⟩ w:=by
        refine wpIn_mono (hc hra (fu a rest hrest) (by simp[hn]) s2 none _ (fun l hl=>by simp at hl)) fun e a' w' k=>?_
        exact aoV hr hrd h5 ho1 hcl hend hxp (k.mono hle2)
       simp only[List.range,List.range.loop,List.size_toArray,List.length_cons,List.length_nil,wpOpsIn,Nat.zero_add];simp only[List.getElem?_toArray,List.getElem?_cons_zero,List.getElem?_cons_succ,Region.wanted,hmg,hk1b',if_true,Oper.wpIn];refine⟨fun _ _=>trivial,?_⟩;rw[HZ t [] (by simp_all)];simp only[execOp,hmop,Sem.run_pure,Oper.uponIn_value,Act.put,hmd];rw[Oper.semAt_none,AW];have hrun:(execOp (ev (t.setIfInBounds d (ev t (.tmp i)))) kk).run P w=.ok (.defer { target:=.fn (.func f) #[],args:=#[ev t (.tmp i)] }) w:=by
        have h0:ev (t.setIfInBounds d (ev t (.tmp i))) (.tmp d)=ev t (.tmp i):=hx2;have h1:ev (t.setIfInBounds d (ev t (.tmp i))) (.func f)=.func (.func f) #[] #[]:=rfl
        simp_all [execOp,resolve,Deferred.ofValue]
       rw[hrun,Oper.uponIn_defer];simp only[Act.put,hk1a'];exact⟨fun _ _=>trivial,hgo⟩
      simp_all
     simp_all
    simp_all
   simp_all
  simp_all
 simp_all
theorem afw {T:Nat→Option ae}(hT:DL P T) {r:bD}(hc:eK P r) (hl:A7 P r) (hs:xd P r) (hgh:wR P r) (hr:ep P r) (hrd:wD P r) {f:FuncId}{args:List AV}{hs0:HS}{v:AV}{hs':HS}
  (h:nN T r f args hs0=some (v,hs')):∃ fn c,P.funcs[f]?=some fn∧fn.body=some c∧fn.name≠ "runtime.NumGoroutine"∧∀ {g:Gh}{w:World}{xs:List Value}{Oa Oh:Nat→Nat},RVs g w args xs Oa→S P g w ⟨[],hs0⟩ #[] Oh→(∀ b,Oa b+Oh b≤1)→(∀ b,Oa b≠0→b<w.heap.size)→
   c.wpIn (FR none) 0 P (bodyPostM (FR none) 0 P fn (dK P g w (fun b=>Oa b+Oh b) v hs')) ⟨xs.toArray++Array.replicate (fn.ntmps-xs.toArray.size) undef,[]⟩ w:=by
 unfold nN at h;split at h
 ·simp at h
 ·rename_i vf hvf;obtain⟨fn,c,h1,h2,h3,h4,h5,h6⟩:=hT f vf hvf;refine⟨fn,c,h1,h2,h3,fun {g w xs Oa Oh} rv sh hle hhi=>?_⟩;split at h
  ·simp at h
  ·have hxl:=rv.length;have hfin:∀ {o:aZ}{st1:St},(o=.normal∨o=.ret)→bp vf.body r ⟨fX 0 args,hs0⟩=some (o,st1)→zm vf st1=some (v,hs')→
     c.wpIn (FR none) 0 P (bodyPostM (FR none) 0 P fn (dK P g w (fun b=>Oa b+Oh b) v hs')) ⟨xs.toArray++Array.replicate (fn.ntmps-xs.toArray.size) undef,[]⟩ w:=by
    intro o st1 ho hcode hend;have s:=avU rv sh hle hhi (fn.ntmps-xs.toArray.size);have hsz:(xs.toArray++Array.replicate (fn.ntmps-xs.toArray.size) undef).size=fn.ntmps:=by simp_all
    rcases h6 with hm | ⟨m,hb,hcl,h8⟩ | ⟨i,d,f2,a,hb,hlt⟩
    ·exact wpIn_mono (aeI hc hl hs hgh hr hcode hm hsz s none [] (fun l hl=>by simp at hl)) fun e a' w' k=>Jr h5 ho hend k
    ·rw[hb]at hcode;exact wpIn_mono (aoR hcl hcode (by omega) s) fun e a' w' k=>Jr h5 ho hend k
    ·rw[hb]at hcode;exact aoZ hc hr hrd hlt h5 hcode hend hsz s
   grind
theorem aq2 {T:Nat→Option ae}(hT:DL P T) {r:bD}(hc:eK P r) (hl:A7 P r) (hs:xd P r) (hgh:wR P r) (hr:ep P r) (hrd:wD P r) {f:FuncId}{args:List AV}{hs0:HS}{v:AV}{hs':HS}
  (h:nN T r f args hs0=some (v,hs')):apt P f∧∀ {g:Gh}{w:World}{xs:List Value}{Oa Oh:Nat→Nat},RVs g w args xs Oa→S P g w ⟨[],hs0⟩ #[] Oh→(∀ b,Oa b+Oh b≤1)→(∀ b,Oa b≠0→b<w.heap.size)→
   CallsIn (FR none) 0 P f xs.toArray w (dK P g w (fun b=>Oa b+Oh b) v hs'):=by
 obtain⟨fn,c,h1,h2,h3,hk⟩:=afw hT hc hl hs hgh hr hrd h;exact⟨⟨fn,h1,by simp[h2],h3⟩,fun rv sh hle hhi=>callsIn_of_wp_marks (F:=FR none) h1 h2 trivial (hk rv sh hle hhi)⟩
theorem aoW {T:Nat→Option ae}(hT:DL P T) {r:bD}(hc:eK P r) (hl:A7 P r) (hs:xd P r) (hgh:wR P r) (hr:ep P r) (hrd:wD P r) {f:FuncId}{args:List AV}{hs0:HS}{v:AV}{hs':HS}
  (h:nN T r f args hs0=some (v,hs')):∀ {g:Gh}{w:World}{xs:List Value}{Oa Oh:Nat→Nat},RVs g w args xs Oa→S P g w ⟨[],hs0⟩ #[] Oh→(∀ b,Oa b+Oh b≤1)→(∀ b,Oa b≠0→b<w.heap.size)→∀ u:FrameMode,
   CallsDIn (FR none) 0 P f xs.toArray u w fun e u' w'=>u'=u∧dK P g w (fun b=>Oa b+Oh b) v hs' e w':=by
 obtain⟨fn,c,h1,h2,h3,hk⟩:=afw hT hc hl hs hgh hr hrd h;exact fun rv sh hle hhi u=>Iu (F:=FR none) h1 h2 trivial (hk rv sh hle hhi)
theorem ay3 {T:Nat→Option ae}(hT:DL P T):∀ n,eK P (run T n)∧A7 P (run T n)∧xd P (run T n)∧wR P (run T n)∧ep P (run T n)∧wD P (run T n)
 | 0=>⟨fun h=>by simp[run]at h,fun h=>by simp[run]at h,fun h=>by simp[run]at h,fun _ h=>by simp[run]at h,fun h=>by simp[run]at h,fun h=>by simp[run]at h⟩
 | n+1=>by
  obtain⟨hc,hl,hs,hgh,hr,hrd⟩:=ay3 hT n;refine⟨fun {v st o st'} h {c m} hm {g w t O} hn s ro ds hro=>?_,fun {v st o st'} h {c m} hm {g w t O} hn s ro ds hro=>?_,fun {v cur st o st'} h {body c m} h1 h2 {g w t O} hn s ro ds hro=>?_,fun {v st o st'} hv h=>?_,fun {f args hs0 v hs'} h=>?_,fun {f args hs0 v hs'} h=>?_⟩
  ·exact aeI hc hl hs hgh hr h hm hn s ro ds hro
  ·exact arl hc hl h hm hn s ro ds hro
  ·exact an2 hc hs h h1 h2 hn s ro ds hro
  ·exact aom hgh hv h
  ·exact aq2 hT hc hl hs hgh hr hrd h
  ·exact aoW hT hc hl hs hgh hr hrd h
theorem QP {T:Nat→Option ae}(hT:DL P T) {n:Nat}{f:FuncId}{args:List AV}{v:AV}{hs':HS}(h:(run T n).call f args ⟨[],0⟩=some (v,hs')) {g:Gh}{w:World}{xs:List Value}
  (hobj:∀ id,g.obj id=none) (hpm:∀ b o,g.pm b o→b<w.heap.size) (rv:RVs g w args xs zero) :
  Calls P f xs.toArray w (dK P g w zero v hs'):=by
 obtain⟨_,_,_,_,hr,_⟩:=ay3 hT n;obtain⟨_,hk⟩:=hr h;have sh:S P g w ⟨[],⟨[],0⟩⟩ #[] zero:=⟨List.Pairwise.nil,List.Pairwise.nil,⟨zero,zero,fun _=>rfl,fun _=>rfl,fun _=>rfl⟩,fun _=>by simp,fun b hb=>by simp at hb,fun id _=>hobj id,hpm⟩
 grind [CallsIn.calls,Z8]
end
#print axioms QP
inductive Ty where
 | int (k:IntKind)
 | bool
 | str
 | lst (es:List Ty)
mutual
def lB:Ty→D→Prop
 | .int k,.int j n=>j=k∧(Lit.int k n).wf=true
 | .bool,.bool _=>True
 | .str,.str _=>True
 | .lst es,.lst xs=>∀ x∈xs,OkDs es x
 | _,_=>False
def OkDs:List Ty→List D→Prop
 | [],[]=>True
 | t::ts,d::ds=>lB t d∧OkDs ts ds
 | _,_=>False
end
def aiA (P:Program) (f:TypeId→Option (List Ty)):List Field→Nat→Option (List Ty)
 | [],_=>some []
 | fd::r,off=>match Nat.beq fd.offset off,f fd.type with
  | true,some ts=>match Nat.beq (P.cellsOf fd.type) ts.length,aiA P f r (off+ts.length) with
   | true,some us=>some (ts++us)
   | _,_=>none
  | _,_=>none
def wd (P:Program):Nat→TypeId→Option (List Ty)
 | 0,_=>none
 | n+1,t=>match P.underlying t with
  | some .bool=>some [.bool]
  | some (.int k)=>some [.int k]
  | some .string=>some [.str]
  | some (.slice e)=>match wd P n e with
   | some (x::xs)=>match Nat.beq (P.cellsOf e) (x::xs).length with
    | true=>some [.lst (x::xs)]
    | false=>none
   | _=>none
  | some (.struct fs)=>match aiA P (wd P n) fs.toList 0 with
   | some ts=>match Nat.beq (P.cellsOf t) ts.length with
    | true=>some ts
    | false=>none
   | none=>none
  | _=>none
mutual
def dp {H:Type}:DataW H→List D
 | .lit (.int k n)=>[.int k n]
 | .lit (.bool b)=>[.bool b]
 | .lit (.string s)=>[.str s]
 | .nil=>[.lst []]
 | .slice es _=>[.lst (cellsEs es)]
 | .agg ps=>cellsPs ps
 | _=>[]
def cellsEs {H:Type}:List (DataW H)→List (List D)
 | []=>[]
 | d::r=>dp d::cellsEs r
def cellsPs {H:Type}:List (DataW H)→List D
 | []=>[]
 | d::r=>dp d++cellsPs r
end
theorem OkDs.len:∀ {ts:List Ty}{ds:List D},OkDs ts ds→ds.length=ts.length
 | [],[],_=>rfl
 | t::ts,d::ds,h=>by simp[OkDs.len h.2]
 | [],_::_,h=>by simp[OkDs]at h
 | _::_,[],h=>by simp[OkDs]at h
theorem OkDs.append:∀ {ts us:List Ty}{ds es:List D},OkDs ts ds→OkDs us es→OkDs (ts++us) (ds++es)
 | [],us,[],es,_,h=>h
 | t::ts,us,d::ds,es,h,h2=>by
  exact⟨h.1,h.2.append h2⟩
 | [],_,_::_,_,h,_=>by simp[OkDs]at h
 | _::_,_,[],_,h,_=>by simp[OkDs]at h
theorem Sx {α β:Type}{f:α→Option β}:∀ {l:List α}{ys:List β},l.mapM f=some ys→ys.length=l.length∧∀ (i:Nat) (x:α),l[i]?=some x→∃ y,ys[i]?=some y∧f x=some y
 | [],ys,h=>by simp_all
 | a::l,ys,h=>by
  cases ha:f a with
  | none=>simp_all
  | some b =>
   cases hl:l.mapM f with
   | none=>simp_all
   | some bs =>
    obtain⟨h1,h2⟩:=Sx hl
    grind
theorem al9 {H:Type}(ds:List (DataW H)):cellsEs ds=ds.map dp:=by
 induction ds<;>grind [cellsEs]
theorem afL {xs:List (List D)}{m:Nat}(h:∀ e∈xs,e.length=m) {j:Nat}{c:D}(hj:xs.flatten[j]?=some c):∃ i k e,j=i*m+k∧k<m∧xs[i]?=some e∧e[k]?=some c:=by
 induction xs generalizing j with
 | nil=>simp at hj
 | cons x xs ih =>
  have hx:=h x (.head _);rw[List.flatten_cons]at hj;rcases Nat.lt_or_ge j x.length with hlt | hge
  ·rw[List.getElem?_append_left hlt]at hj;exact⟨0,j,x,by simp,by omega,rfl,hj⟩
  ·rw[List.getElem?_append_right hge]at hj;obtain⟨i,k,e,h1,h2,h3,h4⟩:=ih (fun e he=>h e (.tail _ he)) hj;exact⟨i+1,k,e,by grind,h2,by simp_all,h4⟩
section
variable {H:Type}{enc:TypeId×Value→H}{P:Program}{W:World}{sp:Nat→Bool}{held:Bool}
abbrev xp (W:World):Nat→Nat→Prop:=fun b _=>b<W.heap.size
theorem amY {a:Addr}{v:Value}(h:W.cell? a=some v):a.block<W.heap.size∧a.spot=none:=by
 unfold World.cell? at h;split at h<;>simp_all [fq]
theorem Q6 {f:TypeId→Option (List Ty)}{g:TypeId→List Value→Option (DataW H×List MemPlace)}
  (ih:∀ t ts cs x,f t=some ts→g t cs=some x→OkDs ts (dp x.1)∧cs.length=(dp x.1).length∧∀ (j:Nat) (c:D),(dp x.1)[j]?=some c→∃ u,cs[j]?=some u∧RD W (xp W) c u) :
  ∀ {fs:List Field}{off:Nat}{ts:List Ty}{cs:List Value}{xs:List (DataW H×List MemPlace)},aiA P f fs off=some ts→off+ts.length≤cs.length→
   fs.mapM (fun fd=>g fd.type ((cs.drop fd.offset).take (P.cellsOf fd.type)))=some xs→
   OkDs ts (cellsPs (xs.map (·.1)))∧∀ (j:Nat) (c:D),(cellsPs (xs.map (·.1)))[j]?=some c→∃ u,cs[off+j]?=some u∧RD W (xp W) c u
 | [],off,ts,cs,xs,h,hb,hm=>by
  grind [aiA,cellsPs,OkDs]
 | fd::fs,off,ts,cs,xs,h,hb,hm=>by
  simp only[aiA]at h;split at h
  ·rename_i ts1 ho h1;rw[Nat.beq_eq]at ho;split at h
   ·rename_i us hc h2;rw[Nat.beq_eq]at hc;simp only[Option.some.injEq]at h;subst h;simp only[List.length_append]at hb;simp only[List.mapM_cons,Option.bind_eq_bind,Option.pure_def]at hm
    cases hg:g fd.type ((cs.drop fd.offset).take (P.cellsOf fd.type)) with
    | none=>simp_all
    | some x =>
     cases hr:fs.mapM (fun fd=>g fd.type ((cs.drop fd.offset).take (P.cellsOf fd.type))) with
     | none=>simp_all
     | some ys =>
      obtain⟨q1,q2⟩:=Q6 ih h2 (by omega) hr
      grind [cellsPs,OkDs.append]
   simp_all
  simp_all
theorem RW:∀ (fuel n:Nat) (t:TypeId) (ts:List Ty) (cs:List Value) (x:DataW H×List MemPlace),wd P n t=some ts→DataW.trod enc P W 0 sp held fuel t cs=some x→
  OkDs ts (dp x.1)∧cs.length=(dp x.1).length∧∀ (j:Nat) (c:D),(dp x.1)[j]?=some c→∃ u,cs[j]?=some u∧RD W (xp W) c u
 | 0,_,_,_,_,_,_,h=>by simp[DataW.trod]at h
 | _+1,0,_,_,_,_,h,_=>by simp[wd]at h
 | fuel+1,n+1,t,ts,cs,x,hty,h=>by
  have one:∀ {d:D}{v:Value},OkDs ts [d]→RD W (xp W) d v→dp x.1=[d]→cs=[v]→OkDs ts (dp x.1)∧cs.length=(dp x.1).length∧∀ (j:Nat) (c:D),(dp x.1)[j]?=some c→∃ u,cs[j]?=some u∧RD W (xp W) c u:=by
   grind
  simp only[wd]at hty;unfold DataW.trod at h
  cases hu:P.underlying t with
  | none=>simp_all
  | some d =>
   rw[hu]at hty h
   cases d<;>simp only[reduceCtorEq]at hty
   case bool =>
    simp only[Option.some.injEq]at hty;subst hty
    match cs,h with
    | [.bool b],h =>
     simp only[Option.some.injEq]at h;subst h;exact one (d:=.bool b) (by simp[OkDs,lB]) (.bool _) rfl rfl
   case int k =>
    simp only[Option.some.injEq]at hty;subst hty
    match cs,h with
    | [.int k' m],h =>
     simp only at h;split at h
     ·rename_i hk;obtain⟨rfl,hwf⟩:=hk;simp only[Option.some.injEq]at h;subst h;exact one (d:=.int k' m) (by grind [OkDs,lB]) (.int _ _) rfl rfl
     simp_all
   case string =>
    simp only[Option.some.injEq]at hty;subst hty
    match cs,h with
    | [.string s],h =>
     simp only at h;split at h
     ·simp only[Option.some.injEq]at h;subst h;refine one (d:=.str s.data.toList) (by simp[OkDs,lB]) ?_ rfl rfl;have:=RD.str (w:=W) (pm:=xp W) s.data.toList;omega
     simp_all
   case slice e =>
    split at hty
    ·rename_i y ys hte;split at hty
     ·rename_i hce;rw[Nat.beq_eq]at hce;simp only[Option.some.injEq]at hty;subst hty
      match cs,h with
      | [.slice none 0 0],h =>
       simp only[Option.some.injEq]at h;subst h;exact one (d:=.lst []) (by simp[OkDs,lB]) (.nil _ _) rfl rfl
      | [.slice (some a) len cap],h =>
       simp only at h;split at h
       ·rename_i hb;obtain⟨_,hlc,_⟩:=hb;simp only[Option.bind_eq_some_iff,Option.map_eq_some_iff]at h;obtain⟨elems,hel,rest,_,rfl⟩:=h;obtain⟨hlen,hget⟩:=Sx hel;simp only[List.length_range]at hlen;have helem:∀ i,i<len→∃ z,elems[i]?=some z∧∃ cs',W.cells? 0 (a.add (i*P.cellsOf e)) (P.cellsOf e)=some cs'∧OkDs (y::ys) (dp z.1)∧cs'.length=(dp z.1).length∧
          ∀ (j:Nat) (c:D),(dp z.1)[j]?=some c→∃ u,cs'[j]?=some u∧RD W (xp W) c u:=by
         intro i hi;obtain⟨z,hz,hf⟩:=hget i i (by simp[hi]);simp only[Option.bind_eq_some_iff]at hf;obtain⟨cs',hcs,htr⟩:=hf;exact⟨z,hz,cs',hcs,RW fuel n e (y::ys) cs' z hte htr⟩
        have hmem:∀ d∈elems.map (·.1),OkDs (y::ys) (dp d):=by
         grind [List.mem_iff_getElem]
        have hes:cellsEs (elems.map (·.1))=elems.map fun z=>dp z.1:=by simp_all [al9]
        have hlm:∀ e'∈cellsEs (elems.map (·.1)),e'.length=(y::ys).length:=by
         grind [OkDs.len]
        refine one (d:=.lst (cellsEs (elems.map (·.1)))) ?_ ?_ rfl rfl
        ·grind [OkDs,lB]
        ·by_cases h0:len=0
         ·subst h0;have:elems=[]:=List.eq_nil_of_length_eq_zero hlen;subst this;exact .nil _ _
         ·obtain⟨ab,aoff,asp⟩:=a;have hm0:0<(y::ys).length:=by simp
          have hcell:∀ i k,i<len→k<(y::ys).length→∃ z c u,elems[i]?=some z∧(dp z.1)[k]?=some c∧W.cell? ((Addr.add ⟨ab,aoff,asp⟩ (i*P.cellsOf e)).add k)=some u∧RD W (xp W) c u:=by
           intro i k hi hk;obtain⟨z,hz,cs',hcs,hok,hl2,hrd⟩:=helem i hi;have hkl:k<(dp z.1).length:=by grind
           obtain⟨u,hu,hr⟩:=hrd k _ (List.getElem?_eq_getElem hkl);unfold World.cells? at hcs;rw[if_pos (Nat.zero_le _)]at hcs;obtain⟨hcl,hcg⟩:=Sx hcs;obtain⟨v,hv,hw⟩:=hcg k k (by simp_all)
           grind
          obtain⟨_,_,u0,_,_,hu0,_⟩:=hcell 0 0 (by omega) hm0;have hasp:asp=none:=by
           have:=(amY hu0).2
           grind [Addr.add]
          subst hasp;have hll:(cellsEs (elems.map (·.1))).length=len:=by simp_all
          have:=eE.rd (w:=W) (pm:=xp W) (xs:=cellsEs (elems.map (·.1))) (b:=ab) (off:=aoff) (cap:=cap) hm0 (by omega) hlm (fun j c hj=>?_) (fun j _=>(amY hu0).1 |> fun h=>by grind [Addr.add])
          ·simp_all
          ·obtain⟨i,k,e',rfl,hk,hi,hck⟩:=afL hlm hj;have hil:i<len:=by grind
           obtain⟨z,c',u,hz,hc',hcell',hr⟩:=hcell i k hil hk
           grind [gR]
       simp_all
     simp_all
    simp_all
   case struct fs =>
    split at hty
    ·rename_i us hfs;split at hty
     ·rename_i hcl;rw[Nat.beq_eq]at hcl;simp only[Option.some.injEq]at hty;subst hty;have h':(if cs.length=P.cellsOf t then (fs.toList.mapM fun f=>DataW.trod enc P W 0 sp held fuel f.type ((cs.drop f.offset).take (P.cellsOf f.type))).map fun xs=>((.agg (xs.map (·.1)):DataW H),xs.flatMap (·.2)) else none)=some x:=by
       omega
      split at h'
      ·simp only[Option.map_eq_some_iff]at h';obtain⟨xs,hxs,rfl⟩:=h';obtain⟨q1,q2⟩:=Q6 (P:=P) (f:=wd P n) (g:=DataW.trod enc P W 0 sp held fuel) (fun t ts cs x h1 h2=>RW fuel n t ts cs x h1 h2) (cs:=cs) hfs (by omega) hxs
       grind [OkDs.len,dp]
      ·simp at h'
     ·simp at hty
    simp_all
end
open Go.ChangeShapes Go.WideShapes Go.ChangeAt Go.RowKit
def GC (P:Program) (n:Nat):List TypeId→Option (List (Bool×List Ty))
 | []=>some []
 | t::ts=>match wd P n t,GC P n ts with
  | some tys,some r=>some ((uS P t,tys)::r)
  | _,_=>none
def aik (agg:Bool) (cs:List D):AV :=
 match agg with
 | true=>.agg (cs.map .d)
 | false=>match cs with
  | [c]=>.d c
  | _=>.junk
def CC {H:Type}:List (Bool×List Ty)→List (DataW H)→List AV
 | (b,_)::ts,d::ds=>aik b (dp d)::CC ts ds
 | _,_=>[]
def mM {H:Type}:List (Bool×List Ty)→List (DataW H)→Prop
 | [],[]=>True
 | (_,tys)::ts,d::ds=>OkDs tys (dp d)∧mM ts ds
 | _,_=>False
def Gh.all (W:World):Gh where
 obj _:=none
 base _:=0
 esz _:=0
 bsz _:=0
 pm:=xp W
section
variable {H:Type}{enc:TypeId×Value→H}{P:Program}{W:World}{sp:Nat→Bool}
theorem ajY {n:Nat}{base:Nat}:∀ {ts:List TypeId}{vs:List Value}{ds:List (DataW H)}{ps:List MemPlace}{tys:List (Bool×List Ty)},DataW.TrodAll enc P W 0 sp true ts vs ds ps→GC P n ts=some tys→
  (∀ (j:Nat) t v,ts[j]?=some t→vs[j]?=some v→Value.okWide P W .any base t v)→RVs (Gh.all W) W (CC tys ds) vs zero∧mM tys ds
 | [],[],[],_,tys,_,h,_=>by
  grind [GC,CC,RVs,mM]
 | t::ts,v::vs,d::ds,ps,tys,hA,h,hok=>by
  obtain⟨p,q,⟨fuel,htr⟩,hrest,rfl⟩:=hA;simp only[GC]at h;split at h
  ·rename_i ty r h1 h2;simp only[Option.some.injEq]at h;subst h;obtain⟨k1,k2,k3⟩:=RW fuel n t ty v.cells.toList (d,p) h1 htr;obtain⟨q1,q2⟩:=ajY hrest h2 fun j t v h1 h2=>hok (j+1) t v (by simp_all) (by simp_all)
   refine⟨?_,k1,q2⟩;have hv:=hok 0 t v rfl rfl;have hrv:RV (Gh.all W) W (aik (uS P t) (dp d)) v zero:=by
    unfold Value.okWide at hv
    cases ha:uS P t with
    | true =>
     have hagg:∃ cs,v=.agg cs:=by
      grind [uS]
     obtain⟨cs,rfl⟩:=hagg;refine⟨cs,rfl,RVs.ds (g:=Gh.all W) rfl (by grind [Value.cells]) fun j c x hc hx=>?_⟩;obtain⟨u,hu,hr⟩:=k3 j c hc;have:u=x:=by
      grind [Value.cells]
     rw[←this];exact hr
    | false =>
     have hone:v.cells=#[v]:=by
      have:Cell.okWide P W .any base t v:=by
       grind [uS]
      cases v<;>first | rfl | simp_all [Cell.okWide,Cell.ok]
     rw[hone]at k2 k3
     match hcd:dp d,k2 with
     | [c],_ =>
      obtain⟨u,hu,hr⟩:=k3 0 c (by grind);simp at hu;subst hu;simp only[aik,RV];exact⟨hr,fun _=>trivial⟩
   grind [CC,RVs]
  simp_all
 | [],_::_,_,_,_,hA,_,_=>hA.elim
 | [],[],_::_,_,_,hA,_,_=>hA.elim
 | _::_,[],_,_,_,hA,_,_=>hA.elim
 | _::_,_::_,[],_,_,hA,_,_=>hA.elim
theorem aeW {W':World}(hl:laidOutB P=true) (hblk:∀ b,b<W.heap.size→W'.heap[b]?=W.heap[b]?) {sp':Nat→Bool}:∀ {ts:List TypeId}{vs:List Value}{ds:List (DataW H)}{ps:List MemPlace},
  (∀ t∈ts,P.readableRec t=true∧t<P.types.size)→DataW.TrodAll enc P W 0 (fun _=>true) true ts vs ds ps→(∀ p∈ps,sp' p.block=true)→DataW.TrodAll enc P W' 0 sp' true ts vs ds ps
 | [],[],[],_,_,h,_=>h
 | t::ts,v::vs,d::ds,ps,hr,h,hs=>by
  have hlt:=h.lt;obtain⟨p,q,⟨fuel,htr⟩,hrest,rfl⟩:=h;obtain⟨h1,h2⟩:=hr t (.head _);refine⟨p,q,⟨fuel,DataW.trod_stays (kids_book hl h1) (book_sized h1) (fun h=>by cases h) ⟨h2,book_self t⟩ htr (fun x hx=>?_) (fun x hx=>hs x (List.mem_append_left _ hx))⟩,
   aeW hl hblk (fun t ht=>hr t (.tail _ ht)) hrest (fun x hx=>hs x (List.mem_append_right _ hx)),rfl⟩
  have hxl:=hlt x (List.mem_append_left _ hx)
  cases x with
  | cell b o=>exact lS (hblk b hxl) o
  | map b=>exact hblk b hxl
 | [],_::_,_,_,_,h,_=>h.elim
 | [],[],_::_,_,_,h,_=>h.elim
 | _::_,[],_,_,_,h,_=>h.elim
 | _::_,_::_,[],_,_,h,_=>h.elim
theorem ajA {T:Nat→Option ae}(hT:DL P T) {fn:Func}{f:FuncId}{s:ChangeSpec}(hl:laidOutB P=true) (hrec:∀ t∈fn.params.toList,P.readableRec t=true∧t<P.types.size)
  {n:Nat}{tys:List (Bool×List Ty)}(hty:GC P n fn.params.toList=some tys) {tb:TypeId}(hres:fn.resultTypes=#[tb]) (htb:P.underlying tb=some .bool) (hvars:s.vars=[]) {apart:Bool}
  {base:Nat}{args:Array Value}{ds gs:List (DataW H)}{before:List MemPlace}(hval:∀ (j:Nat) t v,fn.params[j]?=some t→args[j]?=some v→Value.okWide P W .any base t v)
  (hW:DataW.Whole enc P fn.params.toList s.vars apart W args.toList ds gs before) (hfn:mM tys ds→s.fn H ds={ results:=[.lit (.bool true)],args:=ds })
  (hrun:mM tys ds→gs=[]→∃ m hs',(run T m).call f (CC tys ds) ⟨[],0⟩=some (.d (.bool true),hs')) :
  Calls P f args W fun e W'=>∃ v,e=.returned v∧s.post enc P fn apart true false false W args v W':=by
 have hW':=hW;obtain⟨p,q,hA,hV,hpq,hfz,hnd⟩:=hW;rw[hvars]at hV;obtain⟨rfl,rfl⟩:=trodVars_none hV;obtain⟨rv,hok⟩:=ajY (n:=n) (base:=base) hA hty fun j t v h1 h2=>hval j t v (by simp_all) (by simp_all)
 obtain⟨m,hs',hcall⟩:=hrun hok rfl;have hc:=QP hT hcall (g:=Gh.all W) (fun _=>rfl) (fun b o h=>h) rv;refine hc.mono fun e W2 hp=>?_
 cases e with
 | panicked _=>exact hp.elim
 | outgrown=>exact hp.elim
 | returned x =>
  obtain⟨g',Or,Oh,r1,_,hx,_,_,_⟩:=hp;have hxv:=ta r1 rfl;subst hxv;have hblk:∀ b,b<W.heap.size→W2.heap[b]?=W.heap[b]?:=fun b hb=>(hx.blk b hb (by simp)).1
  have hsfn:s.fn H (ds++[])={ results:=[.lit (.bool true)],args:=ds }:=by simp_all
  refine⟨_,rfl,post_of_same (pa:=p) (pv:=[]) hW' (fun b sp hd=>?_) (fun sp hsp=>?_) (fun sp _=>?_) (by rw[hpq]) ⟨hx.same.1,hx.same.2.1,fun i hi=>?_⟩ hx.same.2.2 ?_⟩
  ·rw[hres,hsfn];exact trodAll_cons_mk (shut_bool htb _) trodAll_mk0
  ·grind [aeW]
  ·rw[hsfn,hvars];rfl
  ·grind
  ·exact ok_one hres rfl (okWide_bool_mk htb _)
end
variable {P:Nat→Option ae}
attribute [simp ↓] azm axP ayR azp ax2 ayD aya ayS azr azE axZ ayx ayw azw azu axS azv ays Gj awI avq av3 av2 awg
attribute [simp ↓] aqY ap8 asg apB aql att apq azD axI aBj aBr awN avr arD
attribute [simp] delAll Bn
attribute [simp] aDX axX aDF put1 aEj azG
attribute [congr] ite_congr axh avz atj awy avG ask
def IQ (x:Option (List AV×St)):Option (AV×HS) :=
 match x with
 | some ([v],st)=>some (v,st.hs)
 | some (vs,st)=>some (.tup vs,st.hs)
 | none=>none
theorem axx {fn:ae}{st:St}:zm fn st=IQ (cT st fn.results):=(by
 simp only[zm,IQ]
 cases cT st fn.results with
 | none=>rfl
 | some q =>
  obtain⟨vs,s⟩:=q
  cases vs with
  | nil=>rfl
  | cons v r=>cases r<;>rfl)
@[simp] theorem aFA {st:St}:IQ (some ([],st))=some (.tup [],st.hs):=(rfl)
@[simp] theorem aGk {v:AV}{st:St}:IQ (some ([v],st))=some (v,st.hs):=(rfl)
@[simp] theorem aF9 {v w:AV}{r:List AV}{st:St}:IQ (some (v::w::r,st))=some (.tup (v::w::r),st.hs):=(rfl)
def ow (rs:List md) (x:Option (aZ×St)):Option (AV×HS) :=
 match x with
 | some (.normal,st)=>IQ (cT st rs)
 | some (.ret,st)=>IQ (cT st rs)
 | _=>none
@[simp ↓] theorem aFN {rs:List md}{st:St}:ow rs (some (.normal,st))=IQ (cT st rs):=(rfl)
@[simp ↓] theorem aGp {rs:List md}{st:St}:ow rs (some (.ret,st))=IQ (cT st rs):=(rfl)
@[simp ↓] theorem aFO {rs:List md}{c:Prop}[Decidable c] {x y:Option (aZ×St)}:ow rs (if c then x else y)=if c then ow rs x else ow rs y:=by split<;>rfl
@[simp ↓] theorem amx {n:Nat}{rs:List md}{b:VC}{x:Option (aZ×St)}:TD ⟨n,rs,b⟩ x=ow rs x:=by
 simp only[TD,ow];split<;>simp only[axx]
theorem avD {rs:List md}{x y:Option (aZ×St)}(h:x=y):ow rs x=ow rs y:=by rw[h]
attribute [congr] avD
theorem aa {a b:VC}{st:St}(h:a=b):(Dn P).code (.loop a) st=kV P a ((Dn P).code b st):=by rw[←h];exact ars
theorem aq {f:FuncId}{fn:ae}{n:Nat}{rs:List md}{b:VC}{args:List AV}(hf:P f=some fn) (hd:fn=⟨n,rs,b⟩) (hl:args.length=n):aO P f args=mt (ow rs ((Dn P).code b ⟨fX 0 args,⟨[],0⟩⟩)):=by
 subst hd;rw[asU hf hl,amx]
theorem aD {f:FuncId}{fn:ae}{n:Nat}{rs:List md}{b:VC}{args:List AV}{hs:HS}(hf:P f=some fn) (hd:fn=⟨n,rs,b⟩) (hl:args.length=n):(Dn P).call f args hs=ow rs ((Dn P).code b ⟨fX 0 args,hs⟩):=by
 subst hd;rw[aeR hf hl,amx]
@[simp ↓] theorem aHg {α β:Type}{v:α}{f:α→Option β}:bA (some v) f=f v:=(rfl)
@[simp ↓] theorem aHf {α β:Type}{f:α→Option β}:bA none f=none:=(rfl)
@[simp ↓] theorem aG6 {α β:Type}{c:Prop}[Decidable c] {x y:Option α}{f:α→Option β}:bA (if c then x else y) f=if c then bA x f else bA y f:=by split<;>rfl
@[simp ↓] theorem aG3 {α γ β:Type}{v:α}{w:γ}{f:α→γ→Option β}:bP (some (v,w)) f=f v w:=(rfl)
@[simp ↓] theorem aG9 {α γ β:Type}{f:α→γ→Option β}:bP none f=none:=(rfl)
@[simp ↓] theorem aG8 {α γ β:Type}{c:Prop}[Decidable c] {x y:Option (α×γ)}{f:α→γ→Option β}:bP (if c then x else y) f=if c then bP x f else bP y f:=by split<;>rfl
@[simp ↓] theorem aHe {α β:Type}{x:α}{f:α→β}:lA x f=f x:=(rfl)
@[simp ↓] theorem aG4 {α γ β:Type}{x:α}{y:γ}{f:α→γ→β}:lP (x,y) f=f x y:=(rfl)
@[simp ↓] theorem aGv {β:Type}{x:Option β}:bQ true x=x:=(rfl)
@[simp ↓] theorem aG0 {β:Type}{x:Option β}:bQ false x=none:=(rfl)
theorem aBt {α β:Type}{x y:Option α}{f:α→Option β}(h:x=y):bA x f=bA y f:=by rw[h]
theorem aA1 {α γ β:Type}{x y:Option (α×γ)}{f:α→γ→Option β}(h:x=y):bP x f=bP y f:=by rw[h]
theorem aBp {α β:Type}{x y:α}{f:α→β}(h:x=y):lA x f=lA y f:=by rw[h]
theorem aBf {α γ β:Type}{x y:α×γ}{f:α→γ→β}(h:x=y):lP x f=lP y f:=by rw[h]
attribute [congr] aBt aA1 aBp aBf
@[simp ↓] theorem aGN {x:Option AV}:gV (.d (.bool true)) true x=x:=(rfl)
@[simp ↓] theorem aGI {x:Option AV}:gV (.d (.bool false)) false x=x:=(rfl)
@[simp ↓] theorem aGE {x:Option AV}:gV (.d (.bool true)) false x=some (.tup []):=(rfl)
@[simp ↓] theorem aGF {x:Option AV}:gV (.d (.bool false)) true x=some (.tup []):=(rfl)
@[simp ↓] theorem aHb {w:Bool}{x:Option AV}:gV (.tup []) w x=some (.tup []):=(rfl)
@[simp ↓] theorem aGU {hs:HS}{x:Option (AV×HS)}:gH (.d (.bool true)) true hs x=x:=(rfl)
@[simp ↓] theorem aGY {hs:HS}{x:Option (AV×HS)}:gH (.d (.bool false)) false hs x=x:=(rfl)
@[simp ↓] theorem aGr {hs:HS}{x:Option (AV×HS)}:gH (.d (.bool true)) false hs x=some (.tup [],hs):=(rfl)
@[simp ↓] theorem aGt {hs:HS}{x:Option (AV×HS)}:gH (.d (.bool false)) true hs x=some (.tup [],hs):=(rfl)
@[simp ↓] theorem aE6 {a b:AV}:Ni (.d (.bool true)) a b=some a:=(rfl)
@[simp ↓] theorem aEw {a b:AV}:Ni (.d (.bool false)) a b=some b:=(rfl)
@[simp] theorem aFR {x:D}:firm (.d x)=.d x:=(rfl)
@[simp] theorem aEB:firm .nl=.nl:=(rfl)
@[simp] theorem aC6 {p:Bool}{m:Nat}{xs:List (List D)}:firm (.own p m xs)=.own false m xs:=(rfl)
@[simp] theorem aDq {cs:List AV}:firm (.agg cs)=.agg (cs.map kY):=(rfl)
@[simp] theorem aD4 {cs:List AV}:firm (.tup cs)=.tup (cs.map u7):=(rfl)
@[simp] theorem aC1 {a b:Nat}:firm (.ptr a b)=.ptr a b:=(rfl)
@[simp] theorem aCN {a b c:Nat}:firm (.pel a b c)=.pel a b c:=(rfl)
@[simp] theorem aDI {a:List D}{b:Nat}:firm (.pim a b)=.pim a b:=(rfl)
@[simp] theorem aEv {a b c:Nat}:firm (.sl a b c)=.sl a b c:=(rfl)
@[simp] theorem aEZ {f:FuncId}{a b:List AV}:firm (.fn f a b)=.fn f a b:=(rfl)
@[simp] theorem aBw {n:Nat}:firm (.yield n)=.yield n:=(rfl)
theorem nt {op:BinOp}{a b:AV}{x:D}(h:bE op a b=some (.d x)):c8 op a b=some x:=by simp only[c8,h]
theorem wl {op:BinOp}{a b:AV}{c:Prop}[Decidable c] {x y:D}(h:bE op a b=if c then some (.d x) else some (.d y)):c8 op a b=if c then some x else some y:=by
 by_cases hc:c<;>simp[c8,h,hc]
@[simp] theorem aFB {k:IntKind}{a b:Int}:c8 .add (.d (.int k a)) (.d (.int k b))=some (.int k (wr k (a+b))):=nt aw4
@[simp] theorem aGg {k:IntKind}{a b:Int}:c8 .sub (.d (.int k a)) (.d (.int k b))=some (.int k (wr k (a-b))):=nt awT
@[simp] theorem aF4 {k:IntKind}{a b:Int}:c8 .mul (.d (.int k a)) (.d (.int k b))=some (.int k (wr k (a*b))):=nt awP
@[simp] theorem aFL {k:IntKind}{a b:Int}(h:b≠0):c8 .quo (.d (.int k a)) (.d (.int k b))=some (.int k (wr k (a.tdiv b))):=nt (aw0 h)
@[simp] theorem aF6 {k:IntKind}{a b:Int}(h:b≠0):c8 .rem (.d (.int k a)) (.d (.int k b))=some (.int k (a.tmod b)):=nt (awi h)
@[simp] theorem aFm {k:IntKind}{a b:Int}:c8 .eql (.d (.int k a)) (.d (.int k b))=if a=b then some (.bool true) else some (.bool false):=wl avL
@[simp] theorem aFV {k:IntKind}{a b:Int}:c8 .neq (.d (.int k a)) (.d (.int k b))=if a=b then some (.bool false) else some (.bool true):=wl avF
@[simp] theorem aFp {k:IntKind}{a b:Int}:c8 .lss (.d (.int k a)) (.d (.int k b))=if a<b then some (.bool true) else some (.bool false):=wl awp
@[simp] theorem aF3 {k:IntKind}{a b:Int}:c8 .leq (.d (.int k a)) (.d (.int k b))=if a≤b then some (.bool true) else some (.bool false):=wl awQ
@[simp] theorem aFY {k:IntKind}{a b:Int}:c8 .gtr (.d (.int k a)) (.d (.int k b))=if b<a then some (.bool true) else some (.bool false):=wl avm
@[simp] theorem aGl {k:IntKind}{a b:Int}:c8 .geq (.d (.int k a)) (.d (.int k b))=if b≤a then some (.bool true) else some (.bool false):=wl avC
@[simp] theorem oW {k j:IntKind}{a b:Int}(h:0≤b):c8 .shl (.d (.int k a)) (.d (.int j b))=some (.int k (wr k (a*((2 ^ (min b.toNat k.bits):Nat):Int)))):=nt (awA h)
@[simp] theorem gO {k j:IntKind}{a b:Int}(h:0≤b):c8 .shr (.d (.int k a)) (.d (.int j b))=some (.int k (a.fdiv ((2 ^ (min b.toNat k.bits):Nat):Int))):=nt (axk h)
@[simp] theorem aEr {a b:List UInt8}:c8 .eql (.d (.str a)) (.d (.str b))=if a=b then some (.bool true) else some (.bool false):=wl atz
theorem aAi {k:IntKind}{a b:Nat}(h:a<kO k) (h2:b<kO k) (h3:a ||| b<kO k):c8 .or (.d (.int k (a:Int))) (.d (.int k (b:Int)))=some (.int k ((a ||| b:Nat):Int)):=nt (axY h h2 h3)
theorem apQ {k:IntKind}{a b:Nat}(h:a<kO k) (h2:b<kO k):c8 .and (.d (.int k (a:Int))) (.d (.int k (b:Int)))=some (.int k ((a &&& b:Nat):Int)):=nt (avS h h2)
theorem arU {n b:Nat}(h:b≤1):2*n ||| b=2*n+b:=by
 have:=Nat.two_pow_add_eq_or_of_lt (i:=1) (b:=b) (by omega) n;simpa using this.symm
@[simp] theorem aFK {a b:Int}(h:0≤a) (h1:a<4611686018427387904) (h2:a % 2=0) (h3:0≤b) (h4:b≤1):c8 .or (.d (.int .i64 a)) (.d (.int .i64 b))=some (.int .i64 (a+b)):=by
 obtain⟨n,rfl⟩:∃ n:Nat,a=((2*n:Nat):Int):=⟨(a / 2).toNat,by omega⟩
 obtain⟨m,rfl⟩:=Int.eq_ofNat_of_zero_le h3;have hm:m≤1:=by omega
 have ht:kO .i64=9223372036854775808:=rfl;rw[aAi (by omega) (by omega) (by rw[arU hm];omega),arU hm];simp
@[simp] theorem aEK {b:Bool}:unD .not (.d (.bool b))=some (.bool !b):=(rfl)
@[simp] theorem aEO {k:IntKind}{n:Int}:unD .neg (.d (.int k n))=some (.int k (wr k (0-n))):=(rfl)
@[simp] theorem aEt {k j:IntKind}{n:Int}:WG k (.d (.int j n))=some (.int k (wr k n)):=(rfl)
attribute [simp] ajI aAZ ax3 ax7 ayb
attribute [simp] ar9 atV arJ aqK IntKind.bits
@[simp] theorem aE7 {h:ac}{m:Nat}{xs:List (List D)}{k:IntKind}{i:Int}(h0:0≤i):WM h m (.d (.lst xs)) (.d (.int k i))=bA xs[i.toNat]? fun x=>if x.length=m then some (.pim x 0) else none:=by
 simp only[WM,Nv h0,elems]
 cases xs[i.toNat]? with
 | none=>rfl
 | some x =>
  simp only[bA];by_cases hx:x.length=m
  ·simp[hx]
  ·simp[hx,ZO]
@[simp] theorem aFt {h:ac}{m j:Nat}{xs:List (List D)}{k:IntKind}{i:Int}(h0:0≤i):WM h m (.own false j xs) (.d (.int k i))=bA xs[i.toNat]? fun x=>if x.length=m then some (.pim x 0) else none:=by
 simp only[WM,Nv h0,elems]
 cases xs[i.toNat]? with
 | none=>rfl
 | some x =>
  simp only[bA];by_cases hx:x.length=m
  ·simp[hx]
  ·simp[hx,ZO]
attribute [simp] Bu ar4 aqS
@[simp] theorem aEY {h:ac}{n:Option Nat}{cs:List D}{o:Nat}:da h n (.pim cs o)=jO n cs o:=by
 simp only[da,loadAt];cases jO n cs o<;>rfl
@[simp] theorem aCS {cs:List D}{o:Nat}:jO none cs o=(cs[o]?).map .d:=by simp only[jO];cases cs[o]?<;>rfl
@[simp] theorem aDh {cs:List D}{n o:Nat}:jO (some n) cs o=if o+n≤cs.length then some (.agg ((sub cs o n).map .d)) else none:=by
 by_cases h:o+n≤cs.length<;>simp[jO,aaA,h]
@[simp] theorem gq0 {α:Type}{x:α}{r:List α}:(x::r)[0]?=some x:=(rfl)
@[simp] theorem aEf {f:FuncId}{vs:List AV}{h:ac}:ca (Dn P) f vs h=bA (viewArgs h vs) fun ds=>bA (aO P f ds) fun v=>if vs.any nL=false then some v else if gL v=true then some v else some (IR v):=by
 simp only[ca,aO,mt,bA]
 cases viewArgs h vs with
 | none=>rfl
 | some ds =>
  simp only
  cases (Dn P).call f ds ⟨[],0⟩ with
  | none=>rfl
  | some q =>
   obtain⟨v,h2⟩:=q;simp only
   cases eZ h2.heap v with
   | none=>rfl
   | some v =>
    simp only
    cases vs.any nL with
    | false=>rfl
    | true=>simp only;cases gL v<;>rfl
@[simp] theorem aFi {x:D}:share (.d x)=.d x:=(rfl)
@[simp] theorem aC2  : share (.nl)=.nl:=(rfl)
@[simp] theorem aAS {m:Nat}{xs:List (List D)}:share (.own false m xs)=.d (.lst xs):=(rfl)
@[simp] theorem aBK {cs:List AV}:share (.agg cs)=.agg (shareAll cs):=(rfl)
@[simp] theorem aCf {cs:List AV}:share (.tup cs)=.tup (shareAll cs):=(rfl)
@[simp] theorem aBQ {a b:Nat}:share (.ptr a b)=.ptr a b:=(rfl)
@[simp] theorem aBH {a b c:Nat}:share (.pel a b c)=.pel a b c:=(rfl)
@[simp] theorem aCj {cs:List D}{b:Nat}:share (.pim cs b)=.pim cs b:=(rfl)
@[simp] theorem aEn {a b c:Nat}:share (.sl a b c)=.sl a b c:=(rfl)
@[simp] theorem aCW {f:FuncId}{a b:List AV}:share (.fn f a b)=.fn f a b:=(rfl)
@[simp] theorem azP {n:Nat}:share (.yield n)=.yield n:=(rfl)
@[simp] theorem aA7  : shareAll []=[]:=(rfl)
@[simp] theorem aBg {v:AV}{r:List AV}:shareAll (v::r)=share v::shareAll r:=(by rw[kj])
@[simp] theorem aEE {x:D}:kY (.d x)=.d x:=(rfl)
@[simp] theorem aEM {x:D}:u7 (.d x)=.d x:=(rfl)
@[simp] theorem aE4 {x:D}:AV.cells (.d x)=[.d x]:=(rfl)
@[simp] theorem aC4 {x:D}:bM (.d x)=true:=(rfl)
@[simp] theorem aD6 {x:D}:yk (.d x)=bM (.d x):=(rfl)
@[simp] theorem aFS {x:D}:oE (.d x)=false:=(rfl)
@[simp] theorem aEU {x:D}:nL (.d x)=false:=(rfl)
@[simp] theorem aDk {x:D}:jG (.d x)=.d x:=(rfl)
@[simp] theorem aCY {x:D}:kG (.d x)=.d x:=(rfl)
@[simp] theorem aDO {x:D}:lD (.d x)=.d x:=(rfl)
@[simp] theorem aCI  : kY (.nl)=.nl:=(rfl)
@[simp] theorem aDU  : u7 (.nl)=.nl:=(rfl)
@[simp] theorem aCZ  : AV.cells (.nl)=[.nl]:=(rfl)
@[simp] theorem aCo  : bM (.nl)=true:=(rfl)
@[simp] theorem aFg  : oE (.nl)=false:=(rfl)
@[simp] theorem aC5  : nL (.nl)=false:=(rfl)
@[simp] theorem aBN  : eY (.nl)=true:=(rfl)
@[simp] theorem aCu  : iH (.nl)=true:=(rfl)
@[simp] theorem aBI  : jG (.nl)=.nl:=(rfl)
@[simp] theorem aBL  : kG (.nl)=.nl:=(rfl)
@[simp] theorem aBG {p:Bool}{m:Nat}{xs:List (List D)}:kY (.own p m xs)=.own false m xs:=(rfl)
@[simp] theorem aBE {p:Bool}{m:Nat}{xs:List (List D)}:u7 (.own p m xs)=.own false m xs:=(rfl)
@[simp] theorem aB8 {p:Bool}{m:Nat}{xs:List (List D)}:AV.cells (.own p m xs)=[.own p m xs]:=(rfl)
@[simp] theorem aDt {p:Bool}{m:Nat}{xs:List (List D)}:oE (.own p m xs)=false:=(rfl)
@[simp] theorem aBX {p:Bool}{m:Nat}{xs:List (List D)}:nL (.own p m xs)=false:=(rfl)
@[simp] theorem aB9 {cs:List AV}:u7 (.agg cs)=.agg (cs.map kY):=(rfl)
@[simp] theorem aBT {cs:List AV}:AV.cells (.agg cs)=cs:=(rfl)
@[simp] theorem aCA {cs:List AV}:nL (.agg cs)=cs.any oE:=(rfl)
@[simp] theorem aBR {a b:Nat}:AV.cells (.ptr a b)=[.ptr a b]:=(rfl)
@[simp] theorem aBy {a b:Nat}:bM (.ptr a b)=true:=(rfl)
@[simp] theorem aBP {a b:Nat}:U0 (.ptr a b)=some (.ptr a b):=(rfl)
@[simp] theorem aEa {a b c:Nat}:kY (.sl a b c)=.sl a b c:=(rfl)
@[simp] theorem aDA {a b c:Nat}:u7 (.sl a b c)=.sl a b c:=(rfl)
@[simp] theorem aCM {a b c:Nat}:AV.cells (.sl a b c)=[.sl a b c]:=(rfl)
@[simp] theorem aBF {a b c:Nat}:yk (.sl a b c)=bM (.sl a b c):=(rfl)
@[simp] theorem aEJ {a b c:Nat}:oE (.sl a b c)=true:=(rfl)
@[simp] theorem aDo {f:FuncId}{a b:List AV}:AV.cells (.fn f a b)=[.fn f a b]:=(rfl)
@[simp] theorem aCB {xs:List (List D)}:lenOf (.d (.lst xs))=some xs.length:=(rfl)
@[simp] theorem aD0  : lenOf .nl=some 0:=(rfl)
@[simp] theorem aBC {p:Bool}{m:Nat}{xs:List (List D)}:lenOf (.own p m xs)=some xs.length:=(rfl)
@[simp] theorem aEq {a b n:Nat}:lenOf (.sl a b n)=some n:=(rfl)
@[simp] theorem arV {h:ac}{xs:List (List D)}:elems h (.d (.lst xs))=some xs:=(rfl)
@[simp] theorem aB2 {h:ac}{m:Nat}{xs:List (List D)}:elems h (.own false m xs)=some xs:=(rfl)
@[simp] theorem aAQ {o a b:Nat}:gP o (.ptr a b)=some (.ptr a (b+o)):=(rfl)
@[simp] theorem aAh {o b:Nat}{cs:List D}:gP o (.pim cs b)=some (.pim cs (b+o)):=(rfl)
@[simp] theorem aGb {cs:List AV}{i:Nat}:rT true (.tup cs) i=cs[i]?:=(by simp only[rT];cases cs[i]?<;>rfl)
@[simp] theorem aFu {cs:List AV}{i:Nat}:rT false (.tup cs) i=(cs[i]?).map share:=(by simp only[rT];cases cs[i]?<;>rfl)
@[simp] theorem aFv {cs:List AV}{i:Nat}:Hc (.tup cs) i=.tup (cs.set i .junk):=(rfl)
@[simp] theorem aGW {x:D}:xN (.d x)=some x:=(rfl)
@[simp] theorem aFy  : xN .nl=some (.lst []):=(rfl)
@[simp] theorem aFa {m:Nat}{xs:List (List D)}:xN (.own false m xs)=some (.lst xs):=(rfl)
@[simp] theorem aFZ  : ip []=some []:=(rfl)
@[simp] theorem aGo {v:AV}{r:List AV}:ip (v::r)=bA (xN v) fun x=>bA (ip r) fun xs=>some (x::xs):=(by
 simp only[ip]
 cases xN v with
 | none=>rfl
 | some q=>simp only[bA];cases ip r<;>rfl)
@[simp] theorem aB6 {m:Nat}:ft m []=some []:=(rfl)
@[simp] theorem aCn {m:Nat}{v:AV}{r:List AV}:ft m (v::r)=if v.cells.length=m then bA (ip v.cells) fun x=>bA (ft m r) fun xs=>some (x::xs) else none:=(by
 by_cases h:v.cells.length=m
 ·simp only[ft,ZO,h,decide_true,if_true]
  cases ip v.cells with
  | none=>rfl
  | some q=>simp only[bA];cases ft m r<;>rfl
 ·simp only[ft,ZO,h,decide_false,if_false])
@[simp] theorem azR {cs:List AV}:cL cs []=some cs:=(rfl)
@[simp] theorem azT {cs:List AV}{o n:Nat}{v:AV}{r:List (Nat×Nat×AV)}:cL cs ((o,n,v)::r)=if v.cells.length=n∧yk v=true∧o+n≤cs.length then cL (ah cs o v.cells) r else none:=(by
 simp only[cL,ZO,aaA];by_cases h:v.cells.length=n<;>by_cases h2:yk v=true<;>by_cases h3:o+n≤cs.length<;>simp[h,h2,h3])
theorem HM {α:Type}{cs vs:List α}{o:Nat}:ah cs o vs=cs.take o++vs++cs.drop (o+vs.length):=(rfl)
attribute [simp] HM
theorem apz {α:Type}{cs:List α}{o n:Nat}:sub cs o n=(cs.drop o).take n:=(rfl)
attribute [simp] apz
@[simp] theorem aCw {h:ac}{x:D}:viewOne h (.d x)=some (.d x):=(rfl)
@[simp] theorem aAe {h:ac}:viewOne h .nl=some .nl:=(rfl)
@[simp] theorem azM {h:ac}{m:Nat}{xs:List (List D)}:viewOne h (.own false m xs)=some (.d (.lst xs)):=(rfl)
@[simp] theorem aAJ {h:ac}{a b c:Nat}:viewOne h (.sl a b c)=bA (elems h (.sl a b c)) fun xs=>some (.d (.lst xs)):=(by simp only[viewOne];cases elems h (.sl a b c)<;>rfl)
@[simp] theorem aB0 {h:ac}:viewAll h []=some []:=(rfl)
@[simp] theorem aCd {h:ac}{v:AV}{r:List AV}:viewAll h (v::r)=bA (viewOne h v) fun x=>bA (viewAll h r) fun xs=>some (x::xs):=(by
 simp only[viewAll]
 cases viewOne h v with
 | none=>rfl
 | some q=>simp only[bA];cases viewAll h r<;>rfl)
@[simp] theorem aCk {h:ac}{x:D}:viewArg h (.d x)=viewOne h (.d x):=(rfl)
@[simp] theorem aAD {h:ac}  : viewArg h (.nl)=viewOne h (.nl):=(rfl)
@[simp] theorem azO {h:ac}{p:Bool}{m:Nat}{xs:List (List D)}:viewArg h (.own p m xs)=viewOne h (.own p m xs):=(rfl)
@[simp] theorem azL {h:ac}{cs:List AV}:viewArg h (.agg cs)=bA (viewAll h cs) fun xs=>some (.agg xs):=(by simp only[viewArg];cases viewAll h cs<;>rfl)
@[simp] theorem aBu {h:ac}:viewArgs h []=some []:=(rfl)
@[simp] theorem az6 {h:ac}{v:AV}{r:List AV}:viewArgs h (v::r)=bA (viewArg h v) fun x=>bA (viewArgs h r) fun xs=>some (x::xs):=(by
 simp only[viewArgs]
 cases viewArg h v with
 | none=>rfl
 | some q=>simp only[bA];cases viewArgs h r<;>rfl)
@[simp] theorem aDl {h:ac}{x:D}:gk h (.d x)=some (.d x,h):=(rfl)
@[simp] theorem aBM {h:ac}:gk h .nl=some (.nl,h):=(rfl)
@[simp] theorem aAa {h:ac}{p:Bool}{m:Nat}{xs:List (List D)}:gk h (.own p m xs)=some (.own p m xs,h):=(rfl)
@[simp] theorem aDN {h:ac}:lv h []=some ([],h):=(rfl)
@[simp] theorem aDe {h:ac}{v:AV}{r:List AV}:lv h (v::r)=bP (gk h v) fun x h=>bP (lv h r) fun xs h=>some (x::xs,h):=(by simp only[lv];cases gk h v with
 | none=>rfl
 | some q=>simp only[bP];cases lv q.2 r<;>rfl)
@[simp] theorem az0 {h:ac}{cs:List AV}:dQ h (.agg cs)=bP (lv h cs) fun xs h=>some (.agg xs,h):=(by simp only[dQ];cases lv h cs<;>rfl)
@[simp] theorem aC8 {h:ac}{x:D}:dQ h (.d x)=gk h (.d x):=(rfl)
@[simp] theorem aBW {h:ac}  : dQ h (.nl)=gk h (.nl):=(rfl)
@[simp] theorem aAY {h:ac}{p:Bool}{m:Nat}{xs:List (List D)}:dQ h (.own p m xs)=gk h (.own p m xs):=(rfl)
@[simp] theorem aBJ {h:ac}{a b c:Nat}:dQ h (.sl a b c)=gk h (.sl a b c):=(rfl)
@[simp] theorem aCe {h:ac}:lH h []=some ([],h):=(rfl)
@[simp] theorem aB3 {h:ac}{v:AV}{r:List AV}:lH h (v::r)=bP (dQ h v) fun x h=>bP (lH h r) fun xs h=>some (x::xs,h):=(by simp only[lH];cases dQ h v with
 | none=>rfl
 | some q=>simp only[bP];cases lH q.2 r<;>rfl)
@[simp] theorem Xd {h:ac}{cs:List AV}:eZ h (.tup cs)=bP (lH h cs) fun xs _=>some (eM (.tup xs)):=(by simp only[eZ];cases lH h cs<;>rfl)
@[simp] theorem aD9 {h:ac}{x:D}:eZ h (.d x)=bP (dQ h (.d x)) fun x _=>some (eM x):=(by simp only[eZ];cases dQ h (.d x)<;>rfl)
@[simp] theorem azY {h:ac}{p:Bool}{m:Nat}{xs:List (List D)}:eZ h (.own p m xs)=bP (dQ h (.own p m xs)) fun x _=>some (eM x):=(by simp only[eZ];cases dQ h (.own p m xs)<;>rfl)
@[simp] theorem aAd {h:ac}{cs:List AV}:eZ h (.agg cs)=bP (dQ h (.agg cs)) fun x _=>some (eM x):=(by simp only[eZ];cases dQ h (.agg cs)<;>rfl)
@[simp] theorem aB5 {h:ac}{a b c:Nat}:eZ h (.sl a b c)=bP (dQ h (.sl a b c)) fun x _=>some (eM x):=(by simp only[eZ];cases dQ h (.sl a b c)<;>rfl)
@[simp] theorem aBS {v:AV}:eM v=if gL v=true then lD v else v:=(by simp only[eM];cases gL v<;>rfl)
@[simp] theorem aDD {x:D}:eY (.d x)=jY x:=(rfl)
@[simp] theorem aBa {p:Bool}{m:Nat}{xs:List (List D)}:eY (.own p m xs)=xs.all fun e=>e.all jY:=(rfl)
@[simp] theorem aBB {k:IntKind}{n:Int}:jY (.int k n)=true:=(rfl)
@[simp] theorem aAt {b:Bool}:jY (.bool b)=true:=(rfl)
@[simp] theorem aB1 {xs:List (List D)}:jY (.lst xs)=false:=(rfl)
@[simp] theorem aAO {cs:List AV}:iH (.agg cs)=cs.all eY:=(rfl)
@[simp] theorem aDz {x:D}:iH (.d x)=jY x:=(rfl)
@[simp] theorem aBv {cs:List AV}:gL (.agg cs)=cs.all eY:=(rfl)
@[simp] theorem aCJ {x:D}:gL (.d x)=jY x:=(rfl)
@[simp] theorem aA4 {cs:List AV}:gL (.tup cs)=cs.all iH:=(rfl)
@[simp] theorem aAr {p:Bool}{m:Nat}{xs:List (List D)}:jG (.own p m xs)=.own true m xs:=(rfl)
@[simp] theorem aAv {p:Bool}{m:Nat}{xs:List (List D)}:kG (.own p m xs)=.own true m xs:=(rfl)
@[simp] theorem az9 {p:Bool}{m:Nat}{xs:List (List D)}:lD (.own p m xs)=.own true m xs:=(rfl)
@[simp] theorem aAC {cs:List AV}:kG (.agg cs)=.agg (cs.map jG):=(rfl)
@[simp] theorem aAW {cs:List AV}:lD (.agg cs)=.agg (cs.map jG):=(rfl)
@[simp] theorem aBh {cs:List AV}:lD (.tup cs)=.tup (cs.map kG):=(rfl)
@[simp] theorem aEW {i:Nat}:fX i []=[]:=(rfl)
@[simp] theorem aEX {i:Nat}{v:AV}{r:List AV}:fX i (v::r)=(i,v)::fX (i+1) r:=by
 have h:∀ (i:Nat) (r:List AV),put (fX (i+1) r) i v=(i,v)::fX (i+1) r:=fun i r=>by
  have:∃ q,fX (i+1) r=q∧∀ p∈q,Nat.blt i p.1=true:=⟨_,rfl,by
   have aux:∀ (r:List AV) (j:Nat),i<j→∀ p∈fX j r,Nat.blt i p.1=true:=by
    intro r
    induction r with
    | nil=>intro j hj p hp;simp[fX]at hp
    | cons w r ih =>
     intro j hj p hp;simp only[fX]at hp;rcases adm hp with rfl | hp
     ·rw[Nat.blt,Nat.ble_eq];exact hj
     ·exact ih (j+1) (by omega) p hp
   exact aux r (i+1) (by omega)⟩
  obtain⟨q,hq,hp⟩:=this;rw[hq]
  cases q with
  | nil=>rfl
  | cons p q =>
   obtain⟨k,u⟩:=p;have hk:i<k:=by have:=hp _ (.head _);rw[Nat.blt,Nat.ble_eq]at this;exact this
   rw[mf,if_neg (by omega),if_pos (by omega)]
 exact h i r
@[simp] theorem aCc {st:St}:cT st []=some ([],st):=(rfl)
def atv (x:Option AV) (t:Nat) (st:St) (r:List md):Option (List AV×St) :=
 match x with
 | some v=>bP (cT ⟨del st.env t,st.hs⟩ r) fun vs st=>some (v::vs,st)
 | none=>none
@[simp] theorem aCm {t:Nat}{st:St}{r:List md}:cT st (.tmp t::r)=atv (get st.env t) t st r:=(by
 simp only[cT,atv]
 cases get st.env t with
 | none=>rfl
 | some v=>simp only;cases cT ⟨del st.env t,st.hs⟩ r<;>rfl)
@[simp] theorem aGm {v:AV}{t:Nat}{e:ar}{hs:HS}{r:List md}:atv (some v) t ⟨e,hs⟩ r=bP (cT ⟨del e t,hs⟩ r) fun vs st=>some (v::vs,st):=(rfl)
def aui (x:Option AV) (t:Nat) (n:Option Nat) (st:St) (r:List md):Option (List AV×St) :=
 match x with
 | some (.ptr id 0)=>bP (loadAt st.hs.heap n 1 (.ptr id 0)) fun v h=>bP (cT ⟨del st.env t,⟨del h id,st.hs.next⟩⟩ r) fun vs st=>some (v::vs,st)
 | _=>none
@[simp] theorem aCv {t:Nat}{n:Option Nat}{st:St}{r:List md}:cT st (.cell t n::r)=aui (get st.env t) t n st r:=(by
 simp only[cT,aui]
 cases get st.env t with
 | none=>rfl
 | some v =>
  cases v<;>try rfl
  rename_i id off
  cases off with
  | succ k=>rfl
  | zero =>
   simp only
   cases loadAt st.hs.heap n 1 (.ptr id 0) with
   | none=>rfl
   | some q=>simp only[bP];cases cT _ r<;>rfl)
@[simp] theorem aFH {id t:Nat}{n:Option Nat}{e:ar}{hs:HS}{r:List md}:aui (some (.ptr id 0)) t n ⟨e,hs⟩ r=bP (loadAt hs.heap n 1 (.ptr id 0)) fun v h=>bP (cT ⟨del e t,⟨del h id,hs.next⟩⟩ r) fun vs st=>some (v::vs,st):=(rfl)
theorem ard {l:List Int}:((ai l).all fun e=>e.all jY)=true:=by simp[ai]
theorem aqn {l:List Nat}:((af l).all fun e=>e.all jY)=true:=by simp[af]
theorem aok {l:List Bool}:((NL l).all fun e=>e.all jY)=true:=by simp[NL]
attribute [simp] ard aqn aok
attribute [simp] aqF
attribute [simp] aze ayy azc ayu
variable {P:Nat→Option ae}
inductive R (α:Type) where
 | ok (v:α) (n:Nat)
 | er (e:Nat)
open Classical in
def rK {α γ:Type}(p:α→Nat→Prop) (r:R α) (f:α→Nat→γ) (g:Nat→γ):γ :=
 match r with
 | .ok v n=>if p v n then f v n else g 0
 | .er e=>g e
theorem fI {α γ:Type}{p q:α→Nat→Prop}{r:R α}{f f2:α→Nat→γ}{g g2:Nat→γ}(hp:∀ v n,p v n=q v n) (h:∀ v n,q v n→f v n=f2 v n) (k:∀ e,g e=g2 e):rK p r f g=rK q r f2 g2:=by
 have:p=q:=funext fun v=>funext fun n=>hp v n
 subst this
 cases r with
 | ok v n =>
  simp only[rK];split
  ·exact h _ _ ‹_›
  ·exact k 0
 | er e=>exact k e
attribute [congr] fI
theorem qx {α γ δ:Type}{p:α→Nat→Prop}{r:R α}{f:α→Nat→γ}{g:Nat→γ}(k:γ→δ):k (rK p r f g)=rK p r (fun v n=>k (f v n)) fun e=>k (g e):=by
 cases r with
 | ok v n=>simp only[rK];split<;>rfl
 | er e=>rfl
section
variable {α:Type}{p:α→Nat→Prop}{r:R α}
@[simp ↓] theorem axK {f:α→Nat→Option (aZ×St)}{g:Nat→Option (aZ×St)}{b:VC}:rR P (rK p r f g) b=rK p r (fun v n=>rR P (f v n) b) fun e=>rR P (g e) b:=qx fun x=>rR P x b
@[simp ↓] theorem axQ {f:α→Nat→Option (aZ×St)}{g:Nat→Option (aZ×St)}{i:Nat}:qe i (rK p r f g)=rK p r (fun v n=>qe i (f v n)) fun e=>qe i (g e):=qx (qe i)
@[simp ↓] theorem ane {f:α→Nat→Option (aZ×St)}{g:Nat→Option (aZ×St)}{a:VC}:kV P a (rK p r f g)=rK p r (fun v n=>kV P a (f v n)) fun e=>kV P a (g e):=qx (kV P a)
@[simp ↓] theorem aFJ {f:α→Nat→Option St}{g:Nat→Option St}:br (rK p r f g)=rK p r (fun v n=>br (f v n)) fun e=>br (g e):=qx br
@[simp ↓] theorem aFC {f:α→Nat→Option (aZ×St)}{g:Nat→Option (aZ×St)}{rs:List md}:ow rs (rK p r f g)=rK p r (fun v n=>ow rs (f v n)) fun e=>ow rs (g e):=qx (ow rs)
@[simp ↓] theorem aF2 {f:α→Nat→Option (AV×HS)}{g:Nat→Option (AV×HS)}:mt (rK p r f g)=rK p r (fun v n=>mt (f v n)) fun e=>mt (g e):=qx mt
@[simp ↓] theorem aHd {γ β:Type}{f:α→Nat→Option γ}{g:Nat→Option γ}{k:γ→Option β}:bA (rK p r f g) k=rK p r (fun v n=>bA (f v n) k) fun e=>bA (g e) k:=qx fun x=>bA x k
@[simp ↓] theorem aHc {γ δ β:Type}{f:α→Nat→Option (γ×δ)}{g:Nat→Option (γ×δ)}{k:γ→δ→Option β}:bP (rK p r f g) k=rK p r (fun v n=>bP (f v n) k) fun e=>bP (g e) k:=qx fun x=>bP x k
@[simp] theorem fc {γ:Type}{f:α→Nat→γ}{g:Nat→γ}{e:Nat}:rK p (.er e) f g=g e:=(rfl)
theorem cG {γ:Type}{f:α→Nat→γ}{g:Nat→γ}{v:α}{n:Nat}(h:p v n):rK p (.ok v n) f g=f v n:=by simp only[rK,if_pos h]
@[simp] theorem aGs {γ:Type}{f:α→Nat→γ}{g:Nat→γ}{c:Prop}[Decidable c] {x y:R α}:rK p (if c then x else y) f g=if c then rK p x f g else rK p y f g:=by split<;>rfl
end
theorem auF {α:Type}{a b:Prop}[Decidable a] [Decidable b] {x y:α}(h:b↔¬ a):(if a then x else y)=if b then y else x:=by
 by_cases ha:a
 ·rw[if_pos ha,if_neg (fun hb=>h.1 hb ha)]
 ·rw[if_neg ha,if_pos (h.2 ha)]
theorem auv {α:Type}{a b:Prop}[Decidable a] [Decidable b] {x y:α}(h:a↔b):(if a then x else y)=if b then x else y:=by
 by_cases ha:a
 ·rw[if_pos ha,if_pos (h.1 ha)]
 ·rw[if_neg ha,if_neg (fun hb=>ha (h.2 hb))]
def cellsOf:Obj→Option (List AV)
 | .cells cs=>some cs
 | _=>none
def aol:Obj→Option (List (List D))
 | .arr _ xs=>some xs
 | _=>none
@[simp ↓] theorem aCr {cs:List AV}:cellsOf (.cells cs)=some cs:=(rfl)
@[simp ↓] theorem aEs {m:Nat}{xs:List (List D)}:aol (.arr m xs)=some xs:=(rfl)
@[simp] theorem aE5 {h:ac}{id off:Nat}:da h none (.ptr id off)=bA (get h id) fun o=>bA (cellsOf o) fun cs=>bA cs[off]? fun v=>some (share v):=by
 simp only[da,loadAt]
 cases get h id with
 | none=>rfl
 | some o =>
  cases o<;>try rfl
  rename_i cs;simp only[bA,cellsOf]
  cases cs[off]?<;>rfl
@[simp] theorem aDR {h:ac}{id off n:Nat}:da h (some n) (.ptr id off)=bA (get h id) fun o=>bA (cellsOf o) fun cs=>bQ (Nat.ble (off+n) cs.length) (some (.agg (shareAll (sub cs off n)))):=by
 simp only[da,loadAt]
 cases get h id with
 | none=>rfl
 | some o =>
  cases o<;>try rfl
  rename_i cs;simp only[bA,cellsOf]
  cases Nat.ble (off+n) cs.length<;>rfl
@[simp] theorem aAE {h:ac}{id off t:Nat}:loadAt h none (t+1) (.ptr id off)=bA (get h id) fun o=>bA (cellsOf o) fun cs=>bA cs[off]? fun v=>some ((kT (t+1) v).1,put h id (.cells (cs.set off (kT (t+1) v).2))):=by
 simp only[loadAt]
 cases get h id with
 | none=>rfl
 | some o =>
  cases o<;>try rfl
  rename_i cs;simp only[bA,cellsOf]
  cases cs[off]?<;>rfl
@[simp] theorem azU {h:ac}{id off n t:Nat}:loadAt h (some n) (t+1) (.ptr id off)=bA (get h id) fun o=>bA (cellsOf o) fun cs=>bQ (Nat.ble (off+n) cs.length) (some (.agg (cY (t+1) (sub cs off n)).1,put h id (.cells (ah cs off (cY (t+1) (sub cs off n)).2)))):=by
 simp only[loadAt]
 cases get h id with
 | none=>rfl
 | some o =>
  cases o<;>try rfl
@[simp] theorem azX {h:ac}{id off n:Nat}{x:AV}:storeAt h n (.ptr id off) x=bQ (Nat.beq x.cells.length n) (bA (get h id) fun o=>bA (cellsOf o) fun cs=>bQ (Nat.ble (off+n) cs.length && x.cells.all bM) (some (put h id (.cells (ah cs off x.cells))))):=by
 simp only[storeAt]
 cases Nat.beq x.cells.length n with
 | false=>rfl
 | true =>
  simp only[bQ]
  cases get h id with
  | none=>rfl
  | some o =>
   cases o<;>try rfl
@[simp ↓] theorem ZI {β:Type}{a b:Nat}{x:Option β}:bQ (Nat.ble a b) x=if a≤b then x else none:=by
 rw[aaA];by_cases h:a≤b<;>simp[h]
@[simp ↓] theorem amF {β:Type}{a b:Nat}{x:Option β}:bQ (Nat.beq a b) x=if a=b then x else none:=by
 rw[ZO];by_cases h:a=b<;>simp[h]
@[simp ↓] theorem anG {β:Type}{a b:Bool}{x:Option β}:bQ (a && b) x=bQ a (bQ b x):=by
 cases a<;>cases b<;>rfl
attribute [simp] kT cY sub ah bM
def scK (P:Nat→Option ae) (a:VC) (x:Option (aZ×St)):Option (aZ×St) :=
 match x with
 | some (.goto l,st)=>match nM a l with
  | some rest=>(Dn P).code (.inScope a rest) st
  | none=>some (.goto l,st)
 | x=>x
@[simp ↓] theorem aAB {a:VC}{st:St}:(Dn P).code (.scope a) st=(Dn P).code (.inScope a a) st:=by rw[eh];rfl
theorem awe {a c:VC}{st:St}:(Dn P).code (.inScope a c) st=scK P a ((Dn P).code c st):=by
 rw[eh];rfl
@[simp ↓] theorem aGK {a:VC}{st:St}:scK P a (some (.ret,st))=some (.ret,st):=(rfl)
theorem azd {a:VC}{x y:Option (aZ×St)}(h:x=y):scK P a x=scK P a y:=by rw[h]
attribute [congr] azd
theorem wV {f:FuncId}{args:List AV}{v:AV}(n:Nat) (h:mt ((run P n).call f args ⟨[],0⟩)=some v):aO P f args=some v:=by
 cases hx:(run P n).call f args ⟨[],0⟩ with
 | none=>rw[hx]at h;simp[mt]at h
 | some q=>rw[hx]at h;rw[aO,Su hx,h]
theorem BE {α:Type}{f:FuncId}{a:α→List AV}{v:α→AV}(n:Nat) (l:List α) (h:(l.map fun x=>mt ((run P n).call f (a x) ⟨[],0⟩))=l.map fun x=>some (v x)) (x:α) (hx:x∈l):aO P f (a x)=some (v x) :=
 wV n (List.map_inj_left.1 h x hx)
def bj (l:List Nat):List (List D):=l.map fun n=>[.int .i64 (n:Nat)]
@[simp] theorem aDx {l:List Nat}:(bj l).length=l.length:=by simp[bj]
@[simp] theorem xa {l:List Nat}{i:Nat}(h:i<l.length):(bj l)[i]?=some [.int .i64 (nth l i:Nat)]:=by simp[bj,sY h]
@[simp high] theorem azS {p:Bool}{m:Nat}{l:List Nat}:eY (.own p m (bj l))=true:=by simp[eY,bj,jY]
@[simp high] theorem Rp {p:Bool}{m:Nat}{l:List Int}:eY (.own p m (ai l))=true:=by simp[eY,ai,jY]
@[simp high] theorem azJ {p:Bool}{m:Nat}{l:List Int}:iH (.own p m (ai l))=true:=Rp (p:=p) (m:=m)
@[simp high] theorem azV {p:Bool}{m:Nat}{l:List Int}:gL (.own p m (ai l))=true:=Rp (p:=p) (m:=m)
@[simp high] theorem QW {p:Bool}{m:Nat}{l:List Nat}:eY (.own p m (af l))=true:=by simp[eY,af,jY]
@[simp high] theorem azN {p:Bool}{m:Nat}{l:List Nat}:iH (.own p m (af l))=true:=QW (p:=p) (m:=m)
@[simp high] theorem azQ {p:Bool}{m:Nat}{l:List Nat}:gL (.own p m (af l))=true:=QW (p:=p) (m:=m)
@[simp] theorem aB7 {a:List Int}{x:Int}:ai a++[[.int .i64 x]]=ai (a++[x]):=by simp[ai]
@[simp] theorem ajX {a b:List Nat}:af a++af b=af (a++b):=by simp[af]
@[simp] theorem aCs {a:List Nat}{x:Nat}:af a++[[.int .u8 (x:Int)]]=af (a++[x]):=by simp[af]
@[simp] theorem aFs {k:IntKind}{a b:Int}:Fu true [.d (.int k a),.d (.int k b)]=if a<b then some (.d (.int k b)) else some (.d (.int k a)):=by
 have:jH k k=true:=by cases k<;>rfl
 simp only[Fu,xY,CL,this];by_cases h:a<b<;>simp[h]
def iaO (o:Obj) (n id j:Nat):Option AV :=
 match o with
 | .arr m _=>bQ (Nat.beq m n) (some (.pel id j 0))
 | .cells _=>bQ (Nat.beq n 1) (some (.ptr id j))
 | _=>none
@[simp ↓] theorem aGQ {m n id j:Nat}{xs:List (List D)}:iaO (.arr m xs) n id j=bQ (Nat.beq m n) (some (.pel id j 0)):=(rfl)
@[simp ↓] theorem aGG {n id j:Nat}{cs:List AV}:iaO (.cells cs) n id j=bQ (Nat.beq n 1) (some (.ptr id j)):=(rfl)
@[simp] theorem aGM {h:ac}{n id off len:Nat}{k:IntKind}{i:Int}(h0:0≤i) (h1:i.toNat<len):WM h n (.sl id off len) (.d (.int k i))=bA (get h id) fun o=>iaO o n id (off+i.toNat):=by
 have:Nat.ble len i.toNat=false:=by rw[aaA];simp;omega
 simp only[WM,Nv h0,this]
 cases get h id with
 | none=>rfl
 | some o =>
  cases o with
  | cells cs=>simp only[bA,iaO];cases Nat.beq n 1<;>rfl
  | arr m xs=>simp only[bA,iaO];cases Nat.beq m n<;>rfl
  | loop=>rfl
@[simp] theorem aEC {h:ac}{id i off:Nat}{n:Option Nat}:da h n (.pel id i off)=bA (get h id) fun o=>bA (aol o) fun xs=>bA xs[i]? fun x=>jO n x off:=by
 simp only[da,loadAt]
 cases get h id with
 | none=>rfl
 | some o =>
  cases o<;>try rfl
  rename_i m xs;simp only[bA,aol]
  cases xs[i]? with
  | none=>rfl
  | some x=>simp only;cases jO n x off<;>rfl
def stO (o:Obj) (h:ac) (n id i off:Nat) (ds:List D):Option ac :=
 match o with
 | .arr m xs=>bA xs[i]? fun e=>bQ (Nat.ble (off+n) e.length) (some (put h id (.arr m (xs.set i (ah e off ds)))))
 | _=>none
@[simp ↓] theorem aGP {h:ac}{m n id i off:Nat}{ds:List D}{xs:List (List D)}:stO (.arr m xs) h n id i off ds=bA xs[i]? fun e=>bQ (Nat.ble (off+n) e.length) (some (put h id (.arr m (xs.set i (ah e off ds))))):=(rfl)
@[simp] theorem azW {h:ac}{id i off n:Nat}{x:AV}:storeAt h n (.pel id i off) x=bQ (Nat.beq x.cells.length n) (bA (ip x.cells) fun ds=>bA (get h id) fun o=>stO o h n id i off ds):=by
 simp only[storeAt]
 cases Nat.beq x.cells.length n with
 | false=>rfl
 | true =>
  simp only[bQ]
  cases ip x.cells with
  | none=>rfl
  | some ds =>
   simp only[bA]
   cases get h id with
   | none=>rfl
   | some o =>
    cases o<;>try rfl
    rename_i m xs;simp only[stO]
    cases xs[i]? with
    | none=>rfl
    | some e=>simp only[bA];cases Nat.ble (off+n) e.length<;>rfl
@[simp] theorem aqk {l:List Int}{i:Nat}:(ai l).take i=ai (l.take i):=by simp[ai]
@[simp] theorem aqa {l:List Int}{i:Nat}:(ai l).drop i=ai (l.drop i):=by simp[ai]
@[simp] theorem aBD {l:List Nat}{i:Nat}:(bj l).take i=bj (l.take i):=by simp[bj]
@[simp] theorem aiu {l:List Int}{i:Nat}{x:Int}:(ai l).set i [.int .i64 x]=ai (l.set i x):=by simp[ai,List.map_set]
@[simp] theorem aDw {l:List Nat}{i:Nat}{x:Nat}:(bj l).set i [.int .i64 (x:Int)]=bj (l.set i x):=by simp[bj,List.map_set]
def elO (o:Obj):Option (List (List D)) :=
 match o with
 | .arr _ xs=>some xs
 | .cells cs=>bA (ip cs) fun ds=>some (E8 ds)
 | _=>none
@[simp ↓] theorem aGX {m:Nat}{xs:List (List D)}:elO (.arr m xs)=some xs:=(rfl)
@[simp] theorem aDZ {h:ac}{id off len:Nat}:elems h (.sl id off len)=bA (get h id) fun o=>bA (elO o) fun xs=>bQ (Nat.ble (off+len) xs.length) (some (sub xs off len)):=by
 simp only[elems,objElems]
 cases get h id with
 | none=>rfl
 | some o =>
  cases o with
  | cells cs =>
   simp only[bA,elO]
   cases ip cs with
   | none=>rfl
   | some ds=>simp only;cases Nat.ble (off+len) (E8 ds).length<;>rfl
  | arr m xs=>simp only[bA,elO];cases Nat.ble (off+len) xs.length<;>rfl
  | loop=>rfl
attribute [simp] E8
@[simp] theorem aGf {m:Nat}{h:ac}{a b:AV}:aeB m h a b=bA (elems h b) fun ys=>bQ (dC m ys) (ct m h a ys):=by
 simp only[aeB]
 cases elems h b with
 | none=>rfl
 | some ys=>simp only[bA];cases dC m ys<;>rfl
@[simp] theorem amR {m k:Nat}{p:Bool}{h:ac}{xs ys:List (List D)}:ct m h (.own p k xs) ys=bQ (Nat.ble ys.length au) (bQ (Nat.beq k m && Nat.ble (xs.length+ys.length) au) (some (.own false m (xs++ys),h))):=by
 simp only[ct]
 cases Nat.ble ys.length au with
 | false=>rfl
 | true=>simp only[bQ];cases Nat.beq k m && Nat.ble (xs.length+ys.length) au<;>rfl
@[simp] theorem awH {m:Nat}{h:ac}{y:List D}{r:List (List D)}:ct m h .nl (y::r)=bQ (Nat.ble (r.length+1) au) (some (.own true m (y::r),h)):=by
 simp only[ct,List.length_cons]
 cases Nat.ble (r.length+1) au<;>rfl
def aug (o:Obj) (m:Nat) (h:ac) (id off len:Nat) (ys:List (List D)):Option (AV×ac) :=
 match o with
 | .arr k xs=>bQ (Nat.beq k m && Nat.ble (off+len) xs.length && Nat.ble (len+ys.length) au) (some (.own true m (sub xs off len++ys),del h id))
 | _=>none
@[simp ↓] theorem aFG {k m id off len:Nat}{h:ac}{xs ys:List (List D)}:aug (.arr k xs) m h id off len ys=bQ (Nat.beq k m && Nat.ble (off+len) xs.length && Nat.ble (len+ys.length) au) (some (.own true m (sub xs off len++ys),del h id)):=(rfl)
@[simp] theorem aF7 {m id off len:Nat}{h:ac}{ys:List (List D)}:ct m h (.sl id off len) ys=bQ (Nat.ble ys.length au) (bA (get h id) fun o=>aug o m h id off len ys):=by
 simp only[ct]
 cases Nat.ble ys.length au with
 | false=>rfl
 | true =>
  simp only[bQ]
  cases get h id with
  | none=>rfl
  | some o =>
   cases o with
   | arr k xs=>simp only[bA,aug];cases Nat.beq k m && Nat.ble (off+len) xs.length && Nat.ble (len+ys.length) au<;>rfl
   | cells cs=>rfl
   | loop=>rfl
attribute [simp] au
theorem acG {α:Type}{f:α→D}:∀ {l:List α},dC 1 (l.map fun x=>[f x])=true
 | []=>rfl
 | x::r=>by simp only[List.map_cons,dC,List.length_cons,List.length_nil];exact acG
@[simp] theorem asa {l:List Int}:dC 1 (ai l)=true:=acG
@[simp] theorem aEp {l:List Nat}:dC 1 (af l)=true:=acG
@[simp] theorem aGq {m:Nat}:dC m []=true:=(rfl)
@[simp] theorem aGS {m:Nat}{x:List D}{r:List (List D)}:dC m (x::r)=(Nat.beq x.length m && dC m r):=by
 simp only[dC];cases Nat.beq x.length m<;>rfl
mutual
theorem akP:∀ d:D,Ju d d=true
 | .int k n=>by simp[Ju,Rh]
 | .bool b=>by simp[Ju]
 | .str s=>by simp[Ju]
 | .lst xs=>by rw[Ju];exact eqDss_self xs
theorem Lf:∀ l:List D,LE l l=true
 | []=>rfl
 | a::r=>by rw[LE,akP a,Lf r];rfl
theorem eqDss_self:∀ l:List (List D),eqDss l l=true
 | []=>rfl
 | a::r=>by rw[eqDss,Lf a,eqDss_self r];rfl
end
mutual
theorem apO:∀ v:AV,eD v v=true
 | .junk=>by simp[eD]
 | .d x=>by simp[eD,akP]
 | .nl=>by simp[eD]
 | .own p m xs=>by simp[eD,eqDss_self]
 | .gl n=>by simp[eD]
 | .agg a=>by rw[eD];exact eqAVs_self a
 | .tup a=>by rw[eD];exact eqAVs_self a
 | .nilp=>by simp[eD]
 | .ptr a b=>by simp[eD]
 | .pel a b c=>by simp[eD]
 | .pim a b=>by simp[eD,Lf]
 | .sl a b c=>by simp[eD]
 | .fn f a c=>by rw[eD,eqAVs_self a,eqAVs_self c];simp
 | .nilf=>by simp[eD]
 | .yield a=>by simp[eD]
theorem eqAVs_self:∀ l:List AV,eqAVs l l=true
 | []=>by rw[eqAVs]
 | a::r=>by rw[eqAVs,apO a,eqAVs_self r];rfl
end
@[simp] theorem aGy {a:List AV}:eqO (.cells a) (.cells a)=true:=by rw[eqO];exact eqAVs_self a
@[simp] theorem aE9 {h k:ac}:bT [] h k=true:=(rfl)
@[simp] theorem aEG {i:Nat}{r:List Nat}{h k:ac}:bT (i::r) h k=((match get h i with
  | some o=>(match get k i with | some o'=>eqO o o' | none=>false)
  | none=>true) && bT r h k):=(rfl)
@[simp] theorem aFf {h:ac}:bY [] h=[]:=(rfl)
@[simp] theorem aER {i:Nat}{r:List Nat}{h:ac}:bY (i::r) h=match get h i with
  | some o=>put (bY r h) i o
  | none=>bY r h:=(rfl)
attribute [simp] EJ bv idsAll
attribute [simp] bO kP je jv
def orB (a b:Int):Int:=if a=0 then b else 1
theorem YL {a b:Int}(h:0≤a) (h1:a≤1) (h2:0≤b) (h3:b≤1):c8 .or (.d (.int .i64 a)) (.d (.int .i64 b))=some (.int .i64 (orB a b)):=by
 have ha:a=0∨a=1:=by omega
 have hb:b=0∨b=1:=by omega
 rcases ha with rfl | rfl<;>rcases hb with rfl | rfl<;>rfl
@[simp] theorem aFM {a:Int}(h:0≤a) (h1:a≤1):orB a 0=a:=by
 have ha:a=0∨a=1:=by omega
 rcases ha with rfl | rfl<;>rfl
theorem arY {a b:Int}:(orB a b=0)↔a=0∧b=0:=by
 unfold orB;by_cases h:a=0<;>simp[h]
variable {P:Nat→Option ae}
def Dw (l:Nat) (e:ar) (x:Option (AV×HS)):Option (aZ×St) :=
 match x with
 | some (_,hs)=>match get hs.heap l with
  | some (.loop _ _ _ _ false pend)=>match pend with
   | none=>some (.normal,⟨e,⟨del hs.heap l,hs.next⟩⟩)
   | some o=>some (o,⟨e,⟨del hs.heap l,hs.next⟩⟩)
  | _=>none
 | none=>none
def rgF (P:Nat→Option ae) (params:List Nat) (a b:VC) (hs:HS) (x:Option (AV×ar)):Option (aZ×St) :=
 match x with
 | some (.fn g first caps,e)=>Dw hs.next e ((Dn P).call g (first++([.yield hs.next]++caps)) ⟨put hs.heap hs.next (.loop (e.map fun kv=>(kv.1,share kv.2)) params a b false none),hs.next+1⟩)
 | _=>none
theorem ath {f:Rd}{params:List Nat}{a b:VC}{e:ar}{hs:HS}:(Dn P).code (.rangeF f params a b) ⟨e,hs⟩=rgF P params a b hs (rd e f):=by
 rw[eh];simp only[bp,wJ,rgF]
 cases rd e f with
 | none=>rfl
 | some p =>
  obtain⟨v,e1⟩:=p
  cases v<;>rfl
theorem azi {params:List Nat}{a b:VC}{h:ac}{n g:Nat}{first caps:List AV}{e:ar}:rgF P params a b ⟨h,n⟩ (some (.fn g first caps,e))=Dw n e ((Dn P).call g (first++([.yield n]++caps)) ⟨put h n (.loop (e.map fun kv=>(kv.1,share kv.2)) params a b false none),n+1⟩):=rfl
def pdO (o:Obj):Option (Option aZ) :=
 match o with
 | .loop _ _ _ _ false pend=>some pend
 | _=>none
theorem az1 {s:ar}{p:List Nat}{a b:VC}{q:Option aZ}:pdO (.loop s p a b false q)=some q:=rfl
def pdE (e:ar) (hs:HS) (l:Nat) (q:Option aZ):Option (aZ×St):=some (q.getD .normal,⟨e,⟨del hs.heap l,hs.next⟩⟩)
theorem aA5 {e:ar}{h:ac}{n l:Nat}:pdE e ⟨h,n⟩ l none=some (.normal,⟨e,⟨del h l,n⟩⟩):=rfl
theorem aAG {e:ar}{h:ac}{n l:Nat}{o:aZ}:pdE e ⟨h,n⟩ l (some o)=some (o,⟨e,⟨del h l,n⟩⟩):=rfl
theorem aAj {l n:Nat}{e:ar}{v:AV}{h:ac}:Dw l e (some (v,⟨h,n⟩))=bA (get h l) fun o=>bA (pdO o) fun q=>pdE e ⟨h,n⟩ l q:=by
 simp only[Dw]
 cases get h l with
 | none=>rfl
 | some o =>
  cases o with
  | loop s p a b busy pend=>cases busy<;>cases pend<;>rfl
  | cells=>rfl
  | arr=>rfl
theorem aAR {l:Nat}{e:ar}:Dw l e none=none:=rfl
theorem aBq {c:Prop}[Decidable c] {l:Nat}{e:ar}{x y:Option (AV×HS)}:Dw l e (if c then x else y)=if c then Dw l e x else Dw l e y:=by grind
theorem aAM {α:Type}{p:α→Nat→Prop}{r:R α}{l:Nat}{e:ar}{f:α→Nat→Option (AV×HS)}{g:Nat→Option (AV×HS)}:Dw l e (rK p r f g)=rK p r (fun v n=>Dw l e (f v n)) fun x=>Dw l e (g x):=qx (Dw l e)
theorem ayk {l:Nat}{e:ar}{x y:Option (AV×HS)}(h:x=y):Dw l e x=Dw l e y:=by rw[h]
def yB (l:Nat) (x:Option (aZ×St)):Option (AV×HS) :=
 match x with
 | none=>none
 | some (o,st)=>match get st.hs.heap l with
  | some (.loop snap params assign body true none) =>
   match o with
   | .normal=>some (.bool true,⟨put st.hs.heap l (.loop snap params assign body false none),st.hs.next⟩)
   | o=>some (.bool false,⟨put st.hs.heap l (.loop snap params assign body false (some o)),st.hs.next⟩)
  | _=>none
def yA (P:Nat→Option ae) (l:Nat) (body:VC) (x:Option (aZ×St)):Option (AV×HS) :=
 match x with
 | some (.normal,st)=>match get st.hs.heap l with
  | some (.loop snap params assign body2 false none)=>yB l ((Dn P).code body ⟨st.env,⟨put st.hs.heap l (.loop snap params assign body2 true none),st.hs.next⟩⟩)
  | _=>none
 | _=>none
def yO (P:Nat→Option ae) (l:Nat) (args:List AV) (hs:HS) (o:Obj):Option (AV×HS) :=
 match o with
 | .loop snap params assign body false none=>bA (oJ snap params args) fun e=>yA P l body ((Dn P).code assign ⟨e,hs⟩)
 | _=>none
theorem io {l:Nat}{args:List AV}{hs:HS}:bf (Dn P) (.yield l) args hs=bA (get hs.heap l) fun o=>yO P l args hs o:=by
 simp only[bf,nf]
 cases get hs.heap l with
 | none=>rfl
 | some o =>
  cases o with
  | cells=>rfl
  | arr=>rfl
  | loop snap params assign body busy pend =>
   cases busy
   ·cases pend with
    | some q=>rfl
    | none =>
     simp only[bA,yO]
     cases oJ snap params args with
     | none=>rfl
     | some e =>
      cases (Dn P).code assign ⟨e,hs⟩ with
      | none=>rfl
      | some p =>
       obtain⟨o,st⟩:=p
       cases o<;>rfl
   ·rfl
theorem aCX {l:Nat}{args:List AV}{hs:HS}{s:ar}{p:List Nat}{a b:VC}:yO P l args hs (.loop s p a b false none)=bA (oJ s p args) fun e=>yA P l b ((Dn P).code a ⟨e,hs⟩):=rfl
def auE (o:Obj):Option Obj :=
 match o with
 | .loop s p a b false none=>some (.loop s p a b true none)
 | _=>none
theorem axj {s:ar}{p:List Nat}{a b:VC}:auE (.loop s p a b false none)=some (.loop s p a b true none):=rfl
theorem aEc {l:Nat}{b:VC}{e:ar}{h:ac}{n:Nat}:yA P l b (some (.normal,⟨e,⟨h,n⟩⟩))=bA (get h l) fun o=>bA (auE o) fun o=>yB l ((Dn P).code b ⟨e,⟨put h l o,n⟩⟩):=by
 simp only[yA]
 cases get h l with
 | none=>rfl
 | some o =>
  cases o with
  | cells=>rfl
  | arr=>rfl
  | loop s p a b busy pend=>cases busy<;>cases pend<;>rfl
def aij (q:Option aZ) (o:Obj):Option Obj :=
 match o with
 | .loop s p a b true none=>some (.loop s p a b false q)
 | _=>none
theorem axs {q:Option aZ}{s:ar}{p:List Nat}{a b:VC}:aij q (.loop s p a b true none)=some (.loop s p a b false q):=rfl
theorem aDK {l:Nat}{e:ar}{h:ac}{n:Nat}:yB l (some (.normal,⟨e,⟨h,n⟩⟩))=bA (get h l) fun o=>bA (aij none o) fun o=>some (.bool true,⟨put h l o,n⟩):=by
 simp only[yB]
 cases get h l with
 | none=>rfl
 | some o =>
  cases o with
  | cells=>rfl
  | arr=>rfl
  | loop s p a b busy pend=>cases busy<;>cases pend<;>rfl
theorem aD5 {l:Nat}{e:ar}{h:ac}{n:Nat}:yB l (some (.ret,⟨e,⟨h,n⟩⟩))=bA (get h l) fun o=>bA (aij (some .ret) o) fun o=>some (.bool false,⟨put h l o,n⟩):=by
 simp only[yB]
 cases get h l with
 | none=>rfl
 | some o =>
  cases o with
  | cells=>rfl
  | arr=>rfl
  | loop s p a b busy pend=>cases busy<;>cases pend<;>rfl
theorem aDY {l i:Nat}{e:ar}{h:ac}{n:Nat}:yB l (some (.exit i,⟨e,⟨h,n⟩⟩))=bA (get h l) fun o=>bA (aij (some (.exit i)) o) fun o=>some (.bool false,⟨put h l o,n⟩):=by
 simp only[yB]
 cases get h l with
 | none=>rfl
 | some o =>
  cases o with
  | cells=>rfl
  | arr=>rfl
  | loop s p a b busy pend=>cases busy<;>cases pend<;>rfl
theorem aCG {l:Nat}:yB l none=none:=rfl
theorem aDy {c:Prop}[Decidable c] {l:Nat}{x y:Option (aZ×St)}:yB l (if c then x else y)=if c then yB l x else yB l y:=by grind
theorem aDs {α:Type}{p:α→Nat→Prop}{r:R α}{l:Nat}{f:α→Nat→Option (aZ×St)}{g:Nat→Option (aZ×St)}:yB l (rK p r f g)=rK p r (fun v n=>yB l (f v n)) fun x=>yB l (g x):=qx (yB l)
theorem aAx {l:Nat}{x y:Option (aZ×St)}(h:x=y):yB l x=yB l y:=by rw[h]
theorem aBz {l:Nat}{b:VC}{x y:Option (aZ×St)}(h:x=y):yA P l b x=yA P l b y:=by rw[h]
attribute [simp ↓] ath azi az1 aA5 aAG aAj aAR aBq aAM aCX axj aEc axs aDK aD5 aDY aCG aDy aDs io
attribute [congr] ayk aAx aBz
attribute [simp] oJ
variable {P:Nat→Option ae}{l:List VI}{e:ar}{h:ac}{m d s:Nat}{op:j6}{hs:HS}{β:Type}{k:AV→ar→HS→Option β}
abbrev V (d:Nat) (op:j6):VI:=⟨some d,none,op,[]⟩
abbrev N (op:j6):VI:=⟨none,none,op,[]⟩
abbrev W (s d:Nat) (op:j6):VI:=⟨some d,some (s,true),op,[]⟩
abbrev U (s d:Nat) (op:j6):VI:=⟨some d,some (s,false),op,[]⟩
theorem awM {e e2:ar}{hs hs2:HS}(h:e=e2) (h2:hs=hs2):bX P l e hs=bX P l e2 hs2:=by rw[h,h2]
attribute [congr] awM
@[simp ↓ low] theorem aBV {i:VI}:(Dn P).code (.reg false (i::l)) ⟨e,hs⟩=br (bX P (i::l) e hs):=yr rfl
@[simp ↓ low] theorem aCl {i:VI}:(Dn P).code (.reg true (i::l)) ⟨e,hs⟩=br (bX P (i::l) e hs):=yr rfl
@[simp] theorem aFU:bX P [] e hs=some ⟨e,hs⟩:=(rfl)
@[simp] theorem aFn:bX P (⟨some d,none,op,[]⟩::l) e hs=aN P op e hs fun v e hs=>bX P l (put e d (firm v)) hs:=(rfl)
@[simp] theorem aFI:bX P (⟨none,none,op,[]⟩::l) e hs=aN P op e hs fun _ e hs=>bX P l e hs:=(rfl)
@[simp] theorem aFo {t:Nat×Nat}{th:List (Nat×Nat)}:bX P (⟨some d,none,op,t::th⟩::l) e hs=aN P op e hs fun v e hs=>lP (bO (t::th) v hs) fun v hs=>bX P l (put e d (firm v)) hs:=(rfl)
def wK {β:Type}(a b:Bool) (x y z:Option β):Option β :=
 match a with
 | true=>x
 | false=>match b with
  | true=>y
  | false=>z
@[simp ↓] theorem aG1 {b:Bool}{x y z:Option β}:wK true b x y z=x:=(rfl)
@[simp ↓] theorem aG2 {x y z:Option β}:wK false true x y z=y:=(rfl)
theorem aAn {a a2 b b2:Bool}{x y z:Option β}(h:a=a2) (h2:b=b2):wK a b x y z=wK a2 b2 x y z:=by rw[h,h2]
attribute [congr] aAn
@[simp] theorem aFr {w:Bool}:bX P (⟨some d,some (s,w),op,[]⟩::l) e hs=wK (bH op) (yo op)
  (bA (get e s) fun g=>bA (gV g w (aN P op e hs fun v _ _=>some v)) fun v=>bX P l (put e d (firm v)) hs)
  (bA (get e s) fun g=>bP (gH g w hs (aN P op e hs fun v _ hs=>some (v,hs))) fun v hs=>bX P l (put e d (firm v)) hs)
  (bA (bm (Dn P) ⟨some d,some (s,w),op,[]⟩ ⟨e,hs⟩) fun st=>bX P l st.env st.hs):=by
 simp only[bX,cvi,wK]
 cases bH op<;>cases yo op<;>(try rfl)<;>(cases get e s<;>rfl)
@[simp] theorem aGB {i:Nat}:aH (.s i)=true:=(rfl)
@[simp] theorem aGZ {a:AV}:aH (.c a)=true:=(rfl)
@[simp] theorem aGd:ef []=true:=(rfl)
@[simp] theorem aFX {x:Rd}{r:List Rd}:ef (x::r)=(aH x && ef r):=(rfl)
@[simp] theorem aGh {x:Rd}:bH (.mov x)=aH x:=(rfl)
@[simp] theorem aGT {x:Rd}{n:Option Nat}:bH (.ld n 0 x)=aH x:=(rfl)
@[simp] theorem aFE {x:Rd}:bH (.nilck x)=aH x:=(rfl)
@[simp] theorem aF1 {x y:Rd}{o:BinOp}:bH (.bin o x y)=(aH x && aH y):=(rfl)
@[simp] theorem aEz {x y:Rd}{o:Bool}:bH (.binb o x y)=(aH x && aH y):=(rfl)
@[simp] theorem aGO {x:Rd}{o:UnOp}:bH (.un o x)=aH x:=(rfl)
@[simp] theorem aGx {x:Rd}{o:Nat}:bH (.fa o x)=aH x:=(rfl)
@[simp] theorem aGH {x y:Rd}{o:Nat}:bH (.ia o x y)=(aH x && aH y):=(rfl)
@[simp] theorem aEu {x y:Rd}{o n:Nat}:bH (.iarr o n x y)=(aH x && aH y):=(rfl)
@[simp] theorem aFW {x:Rd}:bH (.len x)=aH x:=(rfl)
@[simp] theorem aFh {f:FuncId}{xs:List Rd}:bH (.call f xs)=ef xs:=(rfl)
@[simp] theorem aEV {c x y:Rd}:bH (.pick c x y)=(aH c && aH x && aH y):=(rfl)
@[simp] theorem aFF {x:Rd}:bH (.toStr x)=aH x:=(rfl)
@[simp] theorem aE2 {f:FuncId}{xs ys:List Rd}:bH (.mkfn f xs ys)=(ef xs && ef ys):=(rfl)
@[simp] theorem aEF {z:List D}{x y:Rd}:bH (.mkslice z x y)=(aH x && aH y):=(rfl)
@[simp] theorem aD3 {f:FuncId}{xs:List Rd}:bH (.calli f xs)=false:=(rfl)
@[simp] theorem aEh {x:Rd}{xs:List Rd}:bH (.callv x xs)=false:=(rfl)
@[simp] theorem aD2 {f:FuncId}{xs:List Rd}:yo (.calli f xs)=ef xs:=(rfl)
@[simp] theorem aCH {x:Rd}{xs:List Rd}:yo (.callv x xs)=(aH x && ef xs):=(rfl)
attribute [simp] lI ml
def EE {γ:Type}(c:Prop) [Decidable c] (a b:γ):γ:=if c then a else b
theorem avZ {γ:Type}{c d:Prop}[Decidable c] [i:Decidable d] {a b:γ}(h:c=d):EE c a b=@EE γ d i a b:=by subst h;congr
attribute [congr] avZ
@[simp ↓] theorem aGc {γ:Type}{i:Decidable True}{a b:γ}:@EE γ True i a b=a:=by simp only[EE,if_true]
@[simp ↓] theorem aGj {γ:Type}{i:Decidable False}{a b:γ}:@EE γ False i a b=b:=by simp only[EE,if_false]
@[simp high] theorem aG7 {k i:Nat}{v:AV}{r:ar}:get ((k,v)::r) i=EE (k=i) (some v) (get r i):=axX
@[simp high] theorem aHa {k i:Nat}{v x:AV}{r:ar}:put ((k,v)::r) i x=EE (k=i) ((i,x)::r) (EE (i≤k) ((i,x)::(k,v)::r) ((k,v)::put r i x)):=put1
@[simp high] theorem aHh {k i:Nat}{v:AV}{r:ar}:del ((k,v)::r) i=EE (k=i) (del r i) ((k,v)::del r i):=azG
variable {f:AV→ar→Option β}{x:Rd}
@[simp ↓] theorem aGJ {i:Nat}:aY e (.s i) f=bA (get e i) fun v=>f (share v) e:=by
 simp only[aY,rd,bA];cases get e i<;>rfl
@[simp ↓] theorem aGV {i:Nat}:aY e (.m i) f=bA (get e i) fun v=>f v (del e i):=by
 simp only[aY,rd,bA];cases get e i<;>rfl
@[simp ↓] theorem aGL {a:AV}:aY e (.c a) f=f a e:=(rfl)
@[simp ↓] theorem aFw {f:List AV→ar→Option β}:gz e [] f=f [] e:=(rfl)
@[simp ↓] theorem aFq {r:List Rd}{f:List AV→ar→Option β}:gz e (x::r) f=aY e x fun v e=>gz e r fun vs e=>f (v::vs) e:=(rfl)
@[simp ↓] theorem aFP {f:Option AV→ar→Option β}:iY e none f=f none e:=(rfl)
@[simp ↓] theorem aGi {f:Option AV→ar→Option β}:iY e (some x) f=aY e x fun v e=>f (some v) e:=(rfl)
@[simp ↓] theorem aES:aN P (.mov x) e hs k=aY e x fun v e=>k v e hs:=(rfl)
def G0 (e:ar):Rd→Option AV
 | .c v=>some v
 | .m i=>get e i
 | .s i=>match get e i with
  | some v=>some (share v)
  | none=>none
def pkV {β:Type}(c:AV) (a b:Rd) (x y:Option AV) (e:ar) (hs:HS) (k:AV→ar→HS→Option β):Option β :=
 match x,y with
 | some a,some b=>bA (Ni c a b) fun v=>k v e hs
 | _,_=>bP (gQ (.c c) a b ⟨e,hs⟩) fun v st=>k v st.env st.hs
@[simp ↓] theorem aGw {c v w:AV}{a b:Rd}:pkV c a b (some v) (some w) e hs k=bA (Ni c v w) fun v=>k v e hs:=(rfl)
theorem ayZ {c:AV}{a b:Rd}{x x2 y y2:Option AV}(h:x=x2) (h2:y=y2):pkV c a b x y e hs k=pkV c a b x2 y2 e hs k:=by rw[h,h2]
attribute [congr] ayZ
@[simp] theorem aGR {v:AV}:G0 e (.c v)=some v:=(rfl)
@[simp] theorem aGz {i:Nat}:G0 e (.s i)=bA (get e i) fun v=>some (share v):=by
 simp only[G0,bA];cases get e i<;>rfl
theorem akC {c a b:Rd}(ha:aH a=true) (hb:aH b=true):aN P (.pick c a b) e hs k=aY e c fun c e=>pkV c a b (G0 e a) (G0 e b) e hs k:=by
 simp only[aN,ha,hb,Bool.and_self]
 congr 1
 funext c e;have h1:∀ x,aH x=true→rd e x=(G0 e x).map fun v=>(v,e):=by
  intro x hx
  cases x with
  | c=>rfl
  | m=>cases hx
  | s i=>simp only[rd,G0];cases get e i<;>rfl
 rw[h1 a ha,h1 b hb]
 cases G0 e a<;>cases G0 e b<;>rfl
@[simp ↓] theorem aEA {c:Rd}{i:Nat}{y:AV}:aN P (.pick c (.s i) (.c y)) e hs k=aY e c fun c e=>pkV c (.s i) (.c y) (G0 e (.s i)) (G0 e (.c y)) e hs k:=akC rfl rfl
@[simp ↓] theorem aEI {c:Rd}{i:Nat}{y:AV}:aN P (.pick c (.c y) (.s i)) e hs k=aY e c fun c e=>pkV c (.c y) (.s i) (G0 e (.c y)) (G0 e (.s i)) e hs k:=akC rfl rfl
@[simp ↓] theorem aCh {zs:List AV}:aN P (.alloc zs) e ⟨h,m⟩ k=lA (put h m (.cells zs)) fun h=>k (.ptr m 0) e ⟨h,m+1⟩:=(rfl)
@[simp ↓] theorem aED:aN P (.box x) e ⟨h,m⟩ k=aY e x fun v e=>bQ ((AV.cells v).all bM) (lA (put h m (.cells (AV.cells v))) fun h=>k (.ptr m 0) e ⟨h,m+1⟩):=(rfl)
@[simp ↓] theorem aB4 {zs:List AV}{ps:List (Nat×Nat×Rd)}:aN P (.build zs ps) e hs k=gz e (lI ps) fun vs e=>bA (cL zs (ml ps vs)) fun cs=>k (.agg cs) e hs:=(rfl)
@[simp ↓] theorem aFj {j:Nat}{ps:List Rd}:aN P (.mks j ps) e hs k=gz e ps fun vs e=>bA (ft j vs) fun xs=>k (.own true j xs) e hs:=(rfl)
@[simp ↓] theorem aDp {j:Nat}{ps:List Rd}:aN P (.mksv j ps) e ⟨h,m⟩ k=gz e ps fun vs e=>bQ (DU j vs) (lA (put h m (.cells (vs.flatMap AV.cells))) fun h=>k (.sl m 0 vs.length) e ⟨h,m+1⟩):=(rfl)
@[simp ↓] theorem aFl {n:Option Nat}:aN P (.ld n 0 x) e ⟨h,m⟩ k=aY e x fun p e=>bA (da h n p) fun v=>k v e ⟨h,m⟩:=(rfl)
@[simp ↓] theorem aEN {n:Option Nat}:aN P (.ld n 1 x) e ⟨h,m⟩ k=aY e x fun p e=>bP (loadAt h n 1 p) fun v h=>k v e ⟨h,m⟩:=(rfl)
@[simp ↓] theorem aFb {n:Option Nat}:aN P (.ld n 2 x) e ⟨h,m⟩ k=aY e x fun p e=>bP (loadAt h n 2 p) fun v h=>k v e ⟨h,m⟩:=(rfl)
@[simp ↓] theorem aFx {n:Nat}{y:Rd}:aN P (.st n x y) e ⟨h,m⟩ k=aY e x fun p e=>aY e y fun v e=>bA (storeAt h n p v) fun h=>k .junk e ⟨h,m⟩:=(rfl)
@[simp ↓] theorem aCg:aN P (.nilck x) e hs k=aY e x fun v e=>bA (U0 v) fun v=>k v e hs:=(rfl)
@[simp ↓] theorem aE1 {o:BinOp}{y:Rd}:aN P (.bin o x y) e hs k=aY e x fun a e=>aY e y fun b e=>bA (c8 o a b) fun v=>k (.d v) e hs:=(rfl)
@[simp ↓] theorem aD8 {o:Bool}{y:Rd}:aN P (.binb o x y) e hs k=aY e x fun a e=>aY e y fun b e=>bA (aic o a b) fun v=>k (.d v) e hs:=(rfl)
@[simp ↓] theorem aDv {o:Bool}{ks:List Bool}{y:Rd}:aN P (.bina o ks x y) e hs k=aY e x fun a e=>aY e y fun b e=>bA (WN o ks a b) fun v=>k (.d v) e hs:=(rfl)
@[simp ↓] theorem aFz {o:UnOp}:aN P (.un o x) e hs k=aY e x fun a e=>bA (unD o a) fun v=>k (.d v) e hs:=(rfl)
@[simp ↓] theorem aEd {j:IntKind}:aN P (.conv j x) e hs k=aY e x fun a e=>bA (WG j a) fun v=>k (.d v) e hs:=(rfl)
@[simp ↓] theorem aCy:aN P (.toStr x) e ⟨h,m⟩ k=aY e x fun a e=>bA (Lm h a) fun v=>k (.d v) e ⟨h,m⟩:=(rfl)
@[simp ↓] theorem aD1 {f:FuncId}{a c:List Rd}:aN P (.mkfn f a c) e hs k=gz e a fun a e=>gz e c fun c e=>k (.fn f (shareAll a) (shareAll c)) e hs:=(rfl)
@[simp ↓] theorem azK {z:List D}{y:Rd}:aN P (.mkslice z x y) e hs k=aY e x fun a e=>aY e y fun c e=>bA (Bw z a c) fun v=>k v e hs:=(rfl)
@[simp ↓] theorem aBY {j:Nat}{lo hi mx:Option Rd}:aN P (.slice j x lo hi mx) e ⟨h,m⟩ k=aY e x fun x e=>iY e lo fun lo e=>iY e hi fun hi e=>iY e mx fun mx e=>bA (uB h j x lo hi mx) fun v=>k v e ⟨h,m⟩:=(rfl)
@[simp ↓] theorem aBZ {j:Nat}{lo hi mx:Option Rd}:aN P (.slarr j x lo hi mx) e ⟨h,m⟩ k=aY e x fun x e=>iY e lo fun lo e=>iY e hi fun hi e=>iY e mx fun mx e=>bA (Ml h j x lo hi mx) fun v=>k v e ⟨h,m⟩:=(rfl)
@[simp ↓] theorem aGn {o:Nat}:aN P (.fa o x) e hs k=aY e x fun p e=>bA (gP o p) fun v=>k v e hs:=(rfl)
@[simp ↓] theorem aGe {n:Nat}{y:Rd}:aN P (.ia n x y) e ⟨h,m⟩ k=aY e x fun x e=>aY e y fun i e=>bA (WM h n x i) fun v=>k v e ⟨h,m⟩:=(rfl)
@[simp ↓] theorem aDj {a n:Nat}{y:Rd}:aN P (.iarr a n x y) e hs k=aY e x fun p e=>aY e y fun i e=>bA (Dy a n p i) fun v=>k v e hs:=(rfl)
@[simp ↓] theorem aFT {a n:Nat}{b:Bool}{y:Rd}:aN P (.ix a n b x y) e hs k=aY e x fun x e=>aY e y fun i e=>bA (ixV a n b x i) fun v=>k v e hs:=(rfl)
@[simp ↓] theorem aFc {y:Rd}:aN P (.ixs x y) e hs k=aY e x fun x e=>aY e y fun i e=>bA (aoA x i) fun v=>k (.d v) e hs:=(rfl)
@[simp ↓] theorem aDJ {j i:Nat}:aN P (.ext j true i) e hs k=bA (get e j) fun t=>bA (rT true t i) fun v=>k v (put e j (Hc t i)) hs:=by
 simp only[aN,bA];cases get e j<;>(try rfl)
@[simp ↓] theorem aEl {j i:Nat}:aN P (.ext j false i) e hs k=bA (get e j) fun t=>bA (rT false t i) fun v=>k v e hs:=by
 simp only[aN,bA];cases get e j<;>(try rfl)
@[simp ↓] theorem aEL:aN P (.len x) e hs k=aY e x fun x e=>bA (lenOf x) fun n=>k (.int .i64 (.ofNat n)) e hs:=(rfl)
@[simp ↓] theorem aEQ:aN P (.cap x) e hs k=aY e x fun x e=>bQ (aoG x) (k (.int .i64 (.ofNat 0)) e hs):=(rfl)
@[simp ↓] theorem aET {j:Nat}{y:Rd}:aN P (.app j x y) e ⟨h,m⟩ k=aY e x fun a e=>aY e y fun b e=>bP (aeB j h a b) fun v h=>k v e ⟨h,m⟩:=(rfl)
@[simp ↓] theorem aCT {z:List D}{y:Rd}:aN P (.appz z x y) e ⟨h,m⟩ k=aY e x fun a e=>aY e y fun n e=>bP (Yv z h a n) fun v h=>k v e ⟨h,m⟩:=(rfl)
@[simp ↓] theorem aE3 {j:Nat}{y:Rd}:aN P (.cpy j x y) e ⟨h,m⟩ k=aY e x fun a e=>aY e y fun b e=>bP (aj6 j h a b) fun v h=>k (.d v) e ⟨h,m⟩:=(rfl)
@[simp ↓] theorem aBe {b:Bool}{xs:List Rd}:aN P (.minmax b xs) e hs k=gz e xs fun vs e=>bA (Fu b vs) fun v=>k v e hs:=(rfl)
@[simp ↓] theorem aDL {f:FuncId}{as:List Rd}:aN P (.call f as) e ⟨h,m⟩ k=gz e as fun vs e=>bA (ca (Dn P) f vs h) fun v=>k v e ⟨h,m⟩:=(rfl)
@[simp ↓] theorem aCz {f:FuncId}{as:List Rd}:aN P (.calli f as) e hs k=gz e as fun vs e=>bP ((Dn P).call f vs hs) fun v hs=>k v e hs:=(rfl)
@[simp ↓] theorem aCb {as:List Rd}:aN P (.callv x as) e hs k=aY e x fun f e=>gz e as fun vs e=>bP (bf (Dn P) f vs hs) fun v hs=>k v e hs:=(rfl)
@[simp ↓] theorem aDm {is:List Nat}:aN P (.kill is) e hs k=k (.tup []) (is.foldl del e) hs:=(rfl)
end Go.Vm
end
