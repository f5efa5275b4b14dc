import GoSem.ClaimChange
import Derived.WalkKit
import Derived.ProofKit
import Derived.OpenShut
import Derived.JoinedCond
import Derived.ChangeStays
import Derived.ChangeBook
import Derived.Test.YtlmmdafiomepaaaGreatP4
set_option linter.unusedVariables false
set_option linter.unusedSimpArgs false
noncomputable section
namespace Go.Vm
section
variable {P:Program}{F:Fence}{n:Nat}
theorem wU {fn:Func}{tmps:Array Value}{R:Ending→World→Prop}:∀ (ds:List Deferred) (u:FrameMode) (w:World) (fr:Frame)
  (cs:List Frame),fr.mode=u→fr.defers=ds→fr.tmps=tmps→P.funcs[fr.fn]?=some fn→fr.kind=.deferred→F.fn fr.fn→F.room (cs.length+1+n)→LeavesInM F n P fn tmps R ds u w→
  ∃ e w' fr',R e w'∧ComesIn (Machine.fenced P F) P (lone fr cs w) (lone fr' cs w') e∧fr'.fn=fr.fn∧fr'.kind=.deferred∧fr'.going P w' e:=by
 intro ds
 induction ds with
 | nil =>
  intro u w fr cs hu hd ht hf hk _ _ h
  cases u with
  | run=>exact h.elim
  | returning =>
   obtain⟨v,hr,hR⟩:=h
   exact⟨.returned v,w,fr,hR,StepsIn.refl _,rfl,hk,hu,hd,fn,hf,ht▸hr⟩
  | panicking chain=>exact⟨.panicked chain,w,fr,h,StepsIn.refl _,rfl,hk,hu,hd,fn,hf⟩
 | cons d ds ih =>
  intro u w fr cs hu hd ht hf hk hb hroom h
  obtain⟨hrun,h⟩:=h
  rcases h with ⟨r,w',htar,htake,hrest⟩ | ⟨hn,fv,cap,f,args,htar,hinv,hlead,hFf,hcall⟩
  ·have h1:=step_collected (cs:=cs) (hu▸hrun) hd htar htake
   have i1:(lone fr cs w).fenced P F:=fenced_out hb hroom (hu▸hrun) hd (fun g hg=>by rw[htar]at hg;simp[Target.leads]at hg)
   obtain⟨e',w'',fr',hR',hs',hfn',hk',hl'⟩:=ih u w' { fr with defers:=[]++ds } cs hu rfl ht hf hk hb hroom hrest
   exact⟨e',w'',fr',hR',ComesIn.of_steps (.one i1 h1) hs',hfn',hk',hl'⟩
  ·have h1:=step_defer (cs:=cs) (hu▸hrun) hd htar hinv
   have i1:(lone fr cs w).fenced P F:=fenced_out hb hroom (hu▸hrun) hd hlead
   have hroom':F.room (({ fr with defers:=ds }::cs).length+1+(n-1)):=Fence.room_enter hroom hn
   obtain⟨e,u',w',frX,hR,hsteps,hkX,hfX,hgo⟩:=hcall { fr with defers:=ds } cs hu hroom'
   cases e with
   | outgrown=>exact⟨.outgrown,w',fr,hR,Outgrown.of_steps (.one h1) hsteps,rfl,hk,trivial⟩
   | returned v =>
    have i2:(lone frX ({ { fr with defers:=ds } with mode:=u' }::cs) w').fenced P F:=fenced_going (n:=n-1) (hfX▸hFf) hroom' hgo
    have h2:=step_going_returned (c:={ { fr with defers:=ds } with mode:=u' }) (cs:=cs) hkX hgo
    obtain⟨e',w'',fr',hR',hs',hfn',hk',hl'⟩:=ih (settle u') w' { { { fr with defers:=ds } with mode:=u' } with mode:=settle u' } cs rfl rfl ht hf hk hb hroom hR
    exact⟨e',w'',fr',hR',ComesIn.of_steps (.head i1 h1 (StepsIn.trans hsteps (.one i2 h2))) hs',hfn',hk',hl'⟩
   | panicked chain =>
    have i2:(lone frX ({ { fr with defers:=ds } with mode:=u' }::cs) w').fenced P F:=fenced_going (n:=n-1) (hfX▸hFf) hroom' hgo
    have h2:=step_going_panicked (c:={ { fr with defers:=ds } with mode:=u' }) (cs:=cs) hgo
    obtain⟨e',w'',fr',hR',hs',hfn',hk',hl'⟩:=ih (raised u' chain) w' { { { fr with defers:=ds } with mode:=u' } with mode:=raised u' chain } cs rfl rfl ht hf hk hb hroom hR
    exact⟨e',w'',fr',hR',ComesIn.of_steps (.head i1 h1 (StepsIn.trans hsteps (.one i2 h2))) hs',hfn',hk',hl'⟩
theorem Gg {f:FuncId}{fn:Func}{c:Code}{args:Array Value}{u:FrameMode}{w:World}{R:Ending→World→Prop}
  (hf:P.funcs[f]?=some fn) (hb:fn.body=some c) (hF:F.fn f)
  (h:c.wpIn F n P (bodyPostM F n P fn R) { tmps:=args++Array.replicate (fn.ntmps-args.size) undef,defers:=[] } w) (hro:F.round=none:=by rfl) :
  CallsDIn F n P f args u w fun e u' w'=>u'=u∧R e w':=by
 refine⟨hF,fun c₀ cs hu hr=>?_⟩
 let b:Frame:={ (default:Frame) with fn:=f,kind:=.deferred,roundOf:=none }
 have henter:Frame.enter P f args .deferred =
   b.atR { tmps:=args++Array.replicate (fn.ntmps-args.size) undef,defers:=[] } [.code c]:=by
  simp[Frame.enter,Frame.atR,hf,hb,b]
 have hc:({ c₀ with mode:=u }:Frame)=c₀:=by subst hu;rfl
 obtain⟨e,a',w',hq,harr⟩:=h b [] (c₀::cs) hro.symm hF hr
 rw[←henter]at harr
 cases e with
 | normal =>
  obtain⟨e',w'',fr',hR,hs,hfn,hk,hl⟩:=wU a'.defers .returning w' { b.atR a' [] with mode:=.returning } (c₀::cs) rfl rfl rfl hf rfl hF hr hq
  exact⟨e',u,w'',fr',⟨rfl,hR⟩,(by rw[hc];exact ComesIn.of_steps (StepsIn.trans harr (.one (fenced_calm (fr:=b.atR a' []) hF hr rfl) (stepR_end rfl))) hs),hk,hfn,hl⟩
 | ret =>
  obtain⟨todo,hs₀⟩:=harr.1 rfl
  obtain⟨e',w'',fr',hR,hs,hfn,hk,hl⟩:=wU a'.defers .returning w' { b.atR a' todo with mode:=.returning } (c₀::cs) rfl rfl rfl hf rfl hF hr hq
  exact⟨e',u,w'',fr',⟨rfl,hR⟩,(by rw[hc];exact ComesIn.of_steps hs₀ hs),hk,hfn,hl⟩
 | panic chain =>
  obtain⟨todo,hs₀⟩:=harr
  obtain⟨e',w'',fr',hR,hs,hfn,hk,hl⟩:=wU a'.defers (.panicking chain) w' { b.atR a' todo with mode:=.panicking chain } (c₀::cs) rfl rfl rfl hf rfl hF hr hq
  exact⟨e',u,w'',fr',⟨rfl,hR⟩,(by rw[hc];exact ComesIn.of_steps hs₀ hs),hk,hfn,hl⟩
 | exit id=>exact hq.elim
 | goto l=>exact hq.elim
 | outgrown=>exact⟨.outgrown,u,w',b,⟨rfl,hq⟩,(by rw[hc];exact harr.resolve_left (by simp[b])),rfl,rfl,trivial⟩
end
section
variable {P:Program}{g:Gh}{w:World}{t:Array Value}{O:Nat→Nat}{st st':St}{a:AV}{o:Oper}{r:bn}
def uu (P:Program) (r:bn):Prop :=
 ∀ {f:FuncId}{args:List AV}{hs:HS}{v:AV}{hs':HS},r.call f args hs=some (v,hs')→
  ∀ {g:Gh}{w:World}{xs:List Value}{Oa Oh:Nat→Nat},RVs g w args xs Oa→S P g w ⟨[],hs⟩ #[] Oh→(∀ b,Oa b+Oh b≤1)→(∀ b,Oa b≠0→b<w.heap.size)→∀ u:FrameMode,
   CallsDIn (FR none) 0 P f xs.toArray u w fun e u' w'=>u'=u∧dl P g w (fun b=>Oa b+Oh b) v hs' e w'
theorem NS {ro:Option Nat}{fn:Func}{tmps:Array Value}{R:Ending→World→Prop}{lo:Nat}{es:List Deferred}:∀ {ms:List Deferred}{w:World},ep w O lo ms→S P g w st t O→
  (∀ w',S P g w' st t O→aE g w g w' (fun b=>lo≤b)→LeavesInM (FR ro) 0 P fn tmps R es .returning w')→LeavesInM (FR ro) 0 P fn tmps R (ms++es) .returning w
 | [],w,_,s,h=>h w s (.refl _ _ _)
 | d::ds,w,⟨⟨r,h1,h2,h3,h4,h5⟩,h6⟩,s,h=>by
  refine⟨by simp,.inl ⟨r,setBlk w r (.deferred none),h1,AB h3,?_⟩⟩
  have hx:aE g w g (setBlk w r (.deferred none)) fun x=>x=r:=aE.deferBlk h3
  have hm:ep (setBlk w r (.deferred none)) O lo ds:=by
   clear h
   have:∀ {es:List Deferred},(∀ d'∈es,∀ r',d'.target=.collected r'→r'<r)→ep w O lo es→ep (setBlk w r (.deferred none)) O lo es:=by
    intro es
    induction es with
    | nil=>exact fun _ _=>trivial
    | cons e es ih =>
     rintro hlt ⟨⟨q,k1,k2,k3,k4,k5⟩,k6⟩
     have:=hlt e (.head _) q k1
     exact⟨⟨q,k1,k2,by rw[dE (by omega)];exact k3,k4,k5⟩,ih (fun d' hd'=>hlt d' (.tail _ hd')) k6⟩
   exact this h5 h6
  exact NS hm (s.otherG hx h4) fun w' s' hx'=>h w' s' ((hx.mono (T:=fun b=>lo≤b) fun b _ e=>by rw[e];exact h2).trans hx' fun _ _ h=>h)
end
end Go.Vm
namespace Go.Vm
def ana (P:Program) (vf:af) (f:FuncId):Prop :=
 ∃ fn c,P.funcs[f]?=some fn∧fn.body=some c∧fn.name≠ "runtime.NumGoroutine"∧vf.nparams≤fn.ntmps∧f8 P vf.results fn.results.toList=true∧
  (Mt P fn.ntmps vf.body c∨(∃ m,vf.body=.clone m∧Ff P m c=true∧8≤fn.ntmps)∨∃ i d f a,vf.body=.late i d f a∧K0 P fn.ntmps i d f a c=true)
def yu (P:Program) (T:Nat→Option af):Prop:=∀ f vf,T f=some vf→ana P vf f
def yG (P:Program) (r:bn):Prop :=
 ∀ {v:VC}{st:St}{o:aU}{st':St},r.code (.loop v) st=some (o,st')→∀ {c:Code}{n:Nat},Mt P n v c→∀ {g:Gh}{w:World}{t:Array Value}{O:Nat→Nat},t.size=n→S P g w st t O→
  ∀ (ro:Option Nat) (ds:List Deferred),ub w ro→G6 ro P c (aO P g w t O ds ro o st') ⟨t,ds⟩ w
def t4 (P:Program) (r:bn):Prop :=
 ∀ {v cur:VC}{st:St}{o:aU}{st':St},r.code (.inScope v cur) st=some (o,st')→∀ {body c:Code}{n:Nat},Mt P n v body→Mt P n cur c→∀ {g:Gh}{w:World}{t:Array Value}{O:Nat→Nat},t.size=n→
  S P g w st t O→∀ (ro:Option Nat) (ds:List Deferred),ub w ro→vP ro P body c (aO P g w t O ds ro o st') ⟨t,ds⟩ w
def uO (P:Program) (r:bn):Prop :=
 ∀ {v:VC}{st:St}{o:aU}{st':St},lr v=true→r.code v st=some (o,st')→o=.normal∧∀ {g:Gh}{w:World}{t:Array Value}{O:Nat→Nat},S P g w st t O→∃ g' O',dM P g w t O st' t w g' O'
section
variable {P:Program}{g:Gh}{w:World}{t:Array Value}{O:Nat→Nat}{st st':St}{r:bn}
theorem G6.mono {ro:Option Nat}{c:Code}{Q Q':Exit→Act→World→Prop}{a:Act}(h:G6 ro P c Q a w) (hq:∀ e a w,Q e a w→Q' e a w):G6 ro P c Q' a w :=
 fun b k cs hr=>let ⟨e,a',w',q,x⟩:=h b k cs hr;⟨e,a',w',hq _ _ _ q,x⟩
theorem vP.mono {ro:Option Nat}{body c:Code}{Q Q':Exit→Act→World→Prop}{a:Act}(h:vP ro P body c Q a w) (hq:∀ e a w,Q e a w→Q' e a w):vP ro P body c Q' a w :=
 fun b k cs hr=>let ⟨e,a',w',q,x⟩:=h b k cs hr;⟨e,a',w',hq _ _ _ q,x⟩
theorem dM.mono {O2:Nat→Nat}{t':Array Value}{w':World}{g':Gh}{O':Nat→Nat}(h:dM P g w t O st' t' w' g' O') (hle:∀ b,O b≤O2 b):dM P g w t O2 st' t' w' g' O' :=
 ⟨h.st,h.ext.mono fun b _ hb=>by have:=hle b;omega,fun b hb=>Nat.le_trans (h.old b hb) (hle b),h.size⟩
theorem aO.mono {O2:Nat→Nat}{ds:List Deferred}{ro:Option Nat}{o:aU}{e:Exit}{a':Act}{w':World}(h:aO P g w t O ds ro o st' e a' w') (hle:∀ b,O b≤O2 b):aO P g w t O2 ds ro o st' e a' w':=by
 obtain⟨he,g',O',ms,G,hd,hm,hr⟩:=h
 exact⟨he,g',O',ms,G.mono hle,hd,hm,hr⟩
theorem aO.refl {ds:List Deferred}{ro:Option Nat}(o:aU) (s:S P g w st t O):aO P g w t O ds ro o st (vU o) ⟨t,ds⟩ w :=
 ⟨rfl,g,O,[],dM.refl s,rfl,trivial,fun _=>rfl⟩
theorem aO.ghost {ds:List Deferred}{ro:Option Nat}{o o2:aU}{st2:St}{e:Exit}{a':Act}{w':World}(h:aO P g w t O ds ro o st' e a' w')
  (hg:∀ {g:Gh}{w:World}{t:Array Value}{O:Nat→Nat},S P g w st' t O→∃ g' O',dM P g w t O st2 t w g' O') (ho:vU o=vU o2):aO P g w t O ds ro o2 st2 e a' w':=by
 obtain⟨he,g',O',ms,G,hd,hm,hr⟩:=h
 obtain⟨g2,O2,G2⟩:=hg G.st
 exact⟨he.trans ho,g2,O2,ms,G.trans G2,hd,hm.after G2.ext G2.old,hr⟩
theorem aO.as {ds:List Deferred}{ro:Option Nat}{o o2:aU}{e:Exit}{a':Act}{w':World}(h:aO P g w t O ds ro o st' e a' w'):aO P g w t O ds ro o2 st' (vU o2) a' w':=by
 obtain⟨_,h⟩:=h
 exact⟨rfl,h⟩
theorem uh {ds:List Deferred}{ro:Option Nat}(hro:ub w ro) {o1:aU}{st1:St}{next:Act→World→Prop}{o:aU}{e:Exit}{a1:Act}{w1:World}(h:aO P g w t O ds ro o1 st1 e a1 w1)
  (hn:o1=.normal→∀ (t1:Array Value) (ds1:List Deferred) (g1:Gh) (O1:Nat→Nat),t1.size=t.size→S P g1 w1 st1 t1 O1→ub w1 ro→
   (∀ e a2 w2,aO P g1 w1 t1 O1 ds1 ro o st' e a2 w2→aO P g w t O ds ro o st' e a2 w2)→next ⟨t1,ds1⟩ w1)
  (ho:o1≠.normal→o=o1∧st'=st1):Exit.then next (aO P g w t O ds ro o st') e a1 w1:=by
 have h0:=h
 obtain⟨he,g1,O1,ms,G,hd,hm,hr⟩:=h
 subst he
 by_cases hnm:o1=.normal
 ·subst hnm
  obtain⟨t1,d1⟩:=a1
  simp only at hd
  subst hd
  exact hn rfl t1 _ g1 O1 G.size G.st (hro.ext G.ext) fun e a2 w2 k=>aO.comp G hm hr k
 ·obtain⟨rfl,rfl⟩:=ho hnm
  cases o<;>first | exact absurd rfl hnm | exact h0
theorem Z9 (hc:d8 P r) (hl:yG P r) (hs:t4 P r) (hgh:uO P r) (hr:dO P r) {v:VC}{o:aU}(h:aS v r st=some (o,st')) {c:Code}{n:Nat}(hm:Mt P n v c) (hn:t.size=n)
  (s:S P g w st t O) (ro:Option Nat) (ds:List Deferred) (hro:ub w ro):c.wpIn (FR ro) 0 P (aO P g w t O ds ro o st') ⟨t,ds⟩ w:=by
 cases hm with
 | @ghostL a b c h1 h2 =>
  simp only[aS,GL]at h
  split at h
  ·rename_i st1 ha
   obtain⟨_,hg⟩:=hgh h1 ha
   obtain⟨g1,O1,G⟩:=hg s
   exact wpIn_mono (hc h h2 (by rw[←hn]) G.st ro ds hro) fun e a2 w2 k=>aO.comp (ms1:=[]) G trivial (fun _=>rfl) k
  ·rename_i x hx
   cases hra:r.code a st with
   | none=>rw[hra]at h;simp at h
   | some p =>
    obtain⟨o1,st1⟩:=p
    obtain⟨rfl,_⟩:=hgh h1 hra
    exact absurd hra (by intro h3;exact hx _ h3)
 | @ghostR a b c h1 h2 =>
  simp only[aS,GL]at h
  split at h
  ·rename_i st1 ha
   obtain⟨rfl,hg⟩:=hgh h1 h
   exact wpIn_mono (hc ha h2 hn s ro ds hro) fun e a2 w2 k=>k.ghost hg rfl
  ·rename_i x hx
   exact hc h h2 hn s ro ds hro
 | @seq a b c d h1 h2 =>
  simp only[aS,GL]at h
  split at h
  ·rename_i st1 ha
   refine wpIn_seq (wpIn_mono (hc ha h1 hn s ro ds hro) fun e a1 w1 k=>uh hro k (fun _ t1 ds1 g1 O1 hs1 s1 hro1 hcomp=>?_) (fun hne=>absurd rfl hne))
   exact wpIn_mono (hc h h2 (by rw[hs1,hn]) s1 ro ds1 hro1) hcomp
  ·rename_i x hx
   refine wpIn_seq (wpIn_mono (hc h h1 hn s ro ds hro) fun e a1 w1 k=>uh hro k (fun hnm=>?_) (fun _=>⟨rfl,rfl⟩))
   subst hnm
   exact absurd h (by intro h3;exact hx _ h3)
 | skip =>
  simp only[aS,Option.some.injEq,Prod.mk.injEq]at h
  obtain⟨rfl,rfl⟩:=h
  exact wpIn_skip (aO.refl .normal s)
 | @reg ops id os hops =>
  simp only[aS,K9]at h
  split at h
  ·rename_i st1 hst
   simp only[Option.some.injEq,Prod.mk.injEq]at h
   obtain⟨rfl,rfl⟩:=h
   refine wpIn_region ?_
   have:=Vz (ro:=ro) (Q:=aO P g w t O ds ro .normal st1) hr hc ds (k:=0) rfl hops hn s hst fun w' t' g' O' G=>⟨rfl,g',O',[],G,rfl,trivial,fun _=>rfl⟩
   rw[List.range_eq_range']
   simpa using this
  ·simp at h
 | @draw ops id os hops =>
  simp only[aS,K9]at h
  split at h
  ·rename_i st1 hst
   simp only[Option.some.injEq,Prod.mk.injEq]at h
   obtain⟨rfl,rfl⟩:=h
   exact alJ hr hc ds hops hn s hst fun w' t' g' O' G=>⟨rfl,g',O',[],G,rfl,trivial,fun _=>rfl⟩
  ·simp at h
 | @drawP perm gco nr ops id os hops =>
  simp only[aS,D3,D1]at h
  split at h
  ·rename_i habs
   split at h
   ·rename_i st1 hst
    simp only[Option.some.injEq,Prod.mk.injEq]at h
    obtain⟨rfl,rfl⟩:=h
    exact akI hr hc ds hops hn s habs hst fun w' t' g' O' G=>⟨rfl,g',O',[],G,rfl,trivial,fun _=>rfl⟩
   ·simp at h
  ·simp at h
 | @cond rd o' a b c d h1 h2 h3 =>
  simp only[aS,El]at h
  have step:∀ (tb:Bool) (e:ak) (k:VC) (cd:Code),Vm.rd st.env rd=some (.d (.bool tb),e)→r.code k ⟨e,st.hs⟩=some (o,st')→Mt P n k cd→(if tb then c else d)=cd→
    (Code.cond o' c d).wpIn (FR ro) 0 P (aO P g w t O ds ro o st') ⟨t,ds⟩ w:=by
   intro tb e k cd hrd hk hmk hcd
   obtain⟨Ov,O',rv,s',l⟩:=s.rd h1 hrd
   have hev:=qA rv rfl
   refine wpIn_cond (t:=tb) (by rw[yJ];exact hev) ?_
   rw[hcd]
   exact wpIn_mono (hc hk hmk hn s' ro ds hro) fun e a2 w2 k=>k.mono fun b=>by have:=l b;omega
  split at h
  ·rename_i e hrd
   exact step true e a c hrd h h2 rfl
  ·rename_i e hrd
   exact step false e b d hrd h h3 rfl
  ·simp at h
 | @block bid a c h1 =>
  simp only[aS,D6]at h
  split at h
  ·rename_i j st1 ha
   refine wpIn_block (wpIn_mono (hc ha h1 hn s ro ds hro) fun e a1 w1 k=>?_)
   obtain⟨rfl,_⟩:=id k
   simp only[vU,Exit.inBlock]
   split at h
   ·rename_i hj
    rw[Nat.beq_eq]at hj
    simp only[Option.some.injEq,Prod.mk.injEq]at h
    obtain⟨rfl,rfl⟩:=h
    rw[if_pos hj]
    exact k.as
   ·rename_i hj
    simp only[Option.some.injEq,Prod.mk.injEq]at h
    obtain⟨rfl,rfl⟩:=h
    rw[if_neg (by intro e;subst e;simp at hj)]
    exact k
  ·rename_i x hx
   refine wpIn_block (wpIn_mono (hc h h1 hn s ro ds hro) fun e a1 w1 k=>?_)
   have hne:∀ j,o≠.exit j:=by rintro j rfl;exact absurd h (by intro h3;exact hx _ _ h3)
   obtain⟨rfl,_⟩:=id k
   cases o<;>first | exact k | exact absurd rfl (hne _)
 | @loop a c h1 =>
  simp only[aS,JN]at h
  refine(Sn ?_).2
  split at h
  ·rename_i st1 ha
   refine wpIn_mono (hc ha h1 hn s ro ds hro) fun e a1 w1 k=>uh hro k (fun _ t1 ds1 g1 O1 hs1 s1 hro1 hcomp=>?_) (fun hne=>absurd rfl hne)
   exact(hl h h1 (by rw[hs1,hn]) s1 ro ds1 hro1).mono hcomp
  ·rename_i x hx
   refine wpIn_mono (hc h h1 hn s ro ds hro) fun e a1 w1 k=>uh hro k (fun hnm=>?_) (fun _=>⟨rfl,rfl⟩)
   subst hnm
   exact absurd h (by intro h3;exact hx _ h3)
 | @rangeF rd o' ps qs a b c d h1 h2 h3 h4 h5 =>
  subst hn h2
  exact af2 hr h h1 h3 h4 h5 s ro ds hro
 | exit =>
  simp only[aS,Option.some.injEq,Prod.mk.injEq]at h
  obtain⟨rfl,rfl⟩:=h
  exact wpIn_exit (aO.refl (.exit _) s)
 | @scope a c h1 =>
  simp only[aS,agn]at h
  exact akh (hs h h1 h1 hn s ro ds hro)
 | label =>
  simp only[aS,Option.some.injEq,Prod.mk.injEq]at h
  obtain⟨rfl,rfl⟩:=h
  exact wpIn_label (aO.refl .normal s)
 | goto =>
  simp only[aS,Option.some.injEq,Prod.mk.injEq]at h
  obtain⟨rfl,rfl⟩:=h
  exact wpIn_goto (aO.refl (.goto _) s)
 | ret =>
  simp only[aS,Option.some.injEq,Prod.mk.injEq]at h
  obtain⟨rfl,rfl⟩:=h
  exact wpIn_ret (aO.refl .ret s)
theorem ajw (hc:d8 P r) (hl:yG P r) {v:VC}{o:aU}(h:aS (.loop v) r st=some (o,st')) {c:Code}{n:Nat}(h1:Mt P n v c) (hn:t.size=n)
  (s:S P g w st t O) (ro:Option Nat) (ds:List Deferred) (hro:ub w ro):G6 ro P c (aO P g w t O ds ro o st') ⟨t,ds⟩ w:=by
 simp only[aS,JN]at h
 refine(Sn ?_).1
 split at h
 ·rename_i st1 ha
  refine wpIn_mono (hc ha h1 hn s ro ds hro) fun e a1 w1 k=>uh hro k (fun _ t1 ds1 g1 O1 hs1 s1 hro1 hcomp=>?_) (fun hne=>absurd rfl hne)
  exact(hl h h1 (by rw[hs1,hn]) s1 ro ds1 hro1).mono hcomp
 ·rename_i x hx
  refine wpIn_mono (hc h h1 hn s ro ds hro) fun e a1 w1 k=>uh hro k (fun hnm=>?_) (fun _=>⟨rfl,rfl⟩)
  subst hnm
  exact absurd h (by intro h3;exact hx _ h3)
theorem ahB (hc:d8 P r) (hs:t4 P r) {v cur:VC}{o:aU}(h:aS (.inScope v cur) r st=some (o,st')) {body c:Code}{n:Nat}(h1:Mt P n v body) (h2:Mt P n cur c) (hn:t.size=n)
  (s:S P g w st t O) (ro:Option Nat) (ds:List Deferred) (hro:ub w ro):vP ro P body c (aO P g w t O ds ro o st') ⟨t,ds⟩ w:=by
 simp only[aS,BQ]at h
 refine afk ?_
 split at h
 ·rename_i l st1 ha
  refine wpIn_mono (hc ha h2 hn s ro ds hro) fun e a1 w1 k=>?_
  have k0:=k
  obtain⟨rfl,g1,O1,ms,G,hd,hm,hr⟩:=k
  have hf:=ajy h1 l
  simp only[vU,Exit.scope]
  split at h
  ·rename_i rest hrest
   rw[hrest]at hf
   obtain⟨y,hy,hmy⟩:=hf
   rw[hy]
   obtain⟨t1,d1⟩:=a1
   simp only at hd
   subst hd
   exact(hs h h1 hmy (by rw[G.size,hn]) G.st ro _ (hro.ext G.ext)).mono fun e a2 w2 k=>aO.comp G hm hr k
  ·rename_i hnone
   rw[hnone]at hf
   rw[hf]
   simp only[Option.some.injEq,Prod.mk.injEq]at h
   obtain⟨rfl,rfl⟩:=h
   exact k0
 ·rename_i x hx
  refine wpIn_mono (hc h h2 hn s ro ds hro) fun e a1 w1 k=>?_
  have hne:∀ l,o≠.goto l:=by rintro l rfl;exact absurd h (by intro h3;exact hx _ _ h3)
  obtain⟨rfl,_⟩:=id k
  cases o<;>first | exact k | exact absurd rfl (hne _)
theorem TG {r:bn}:∀ {ops:List VI}{st st':St},ops.all EO=true→fe r ops st=some st'→∀ {g:Gh}{w:World}{t:Array Value}{O:Nat→Nat},S P g w st t O→∃ g' O',dM P g w t O st' t w g' O'
 | [],st,st',_,h,g,w,t,O,s=>by
  simp only[fe,Option.some.injEq]at h;subst h
  exact⟨g,O,dM.refl s⟩
 | i::l,st,st',ha,h,g,w,t,O,s=>by
  simp only[List.all_cons,Bool.and_eq_true]at ha
  simp only[fe]at h
  split at h
  ·rename_i st1 hv
   obtain⟨g1,O1,G1⟩:=ZL s ha.1 hv
   obtain⟨g2,O2,G2⟩:=TG ha.2 h G1.st
   exact⟨g2,O2,G1.trans G2⟩
  ·simp at h
theorem ahU (hg:uO P r) {v:VC}{o:aU}(hv:lr v=true) (h:aS v r st=some (o,st')):o=.normal∧∀ {g:Gh}{w:World}{t:Array Value}{O:Nat→Nat},S P g w st t O→∃ g' O',dM P g w t O st' t w g' O':=by
 cases v<;>simp only[lr,Bool.false_eq_true]at hv
 ·simp only[aS,K9]at h
  split at h
  ·rename_i st1 hst
   simp only[Option.some.injEq,Prod.mk.injEq]at h
   obtain⟨rfl,rfl⟩:=h
   exact⟨rfl,fun s=>TG hv hst s⟩
  ·simp at h
 ·simp only[Bool.and_eq_true]at hv
  simp only[aS,GL]at h
  split at h
  ·rename_i st1 hst
   obtain⟨_,h1⟩:=hg hv.1 hst
   obtain⟨ho,h2⟩:=hg hv.2 h
   refine⟨ho,fun s=>?_⟩
   obtain⟨g1,O1,G1⟩:=h1 s
   obtain⟨g2,O2,G2⟩:=h2 G1.st
   exact⟨g2,O2,G1.trans G2⟩
  ·rename_i x hx
   obtain⟨ho,_⟩:=hg hv.1 h
   subst ho
   exact absurd h (hx _)
end
end Go.Vm
namespace Go.Vm
section
variable {P:Program}
theorem He {fn:Func}{vf:af}(h5:f8 P vf.results fn.results.toList=true) {v:AV}{hs':HS}{o:aU}{st1:St}(ho:o=.normal∨o=.ret) (hend:xr vf st1=some (v,hs')) {g:Gh}{w:World}{t:Array Value}{O:Nat→Nat}
  {e:Exit}{a':Act}{w':World}(k:aO P g w t O [] none o st1 e a' w'):bodyPostM (FR none) 0 P fn (dl P g w O v hs') e a' w':=by
 obtain⟨rfl,g',O',ms,G,hd,hm,_⟩:=k
 rw[List.append_nil]at hd
 have key:LeavesInM (FR none) 0 P fn a'.tmps (dl P g w O v hs') a'.defers .returning w':=by
  rw[hd]
  refine Th hm G.st fun w2 s2 hx2=>?_
  obtain⟨x,Ov,Oh2,hrun,rx,sh2,l2⟩:=ae0 h5 hend s2
  refine⟨x,hrun,g',Ov,Oh2,rx,sh2,G.ext.trans hx2 (fun b hb hq=>absurd hq (by omega)),fun b=>by have:=l2 b;have:=s2.le b;omega,fun b hb=>?_,fun b hb=>s2.hi b (by have:=l2 b;omega)⟩
  have:=l2 b;have:=G.old b hb
  omega
 rcases ho with rfl | rfl
 ·exact key
 ·exact key
theorem ahr {r:bn}(hr:dO P r) (hrd:uu P r) {fn:Func}{vf:af}(h5:f8 P vf.results fn.results.toList=true) {v v1:AV}{hs2 hs':HS}{o:aU}{st1:St}(ho:o=.normal∨o=.ret) {f id off:Nat}
  (hcall:r.call f [.ptr id off] st1.hs=some (v1,hs2)) (hend:xr vf ⟨st1.env,hs2⟩=some (v,hs')) {g:Gh}{w:World}{t:Array Value}{O:Nat→Nat}{x:Value}(hx:∃ b,g.obj id=some b∧x=.pointer (some ⟨b,g.base id+off,none⟩))
  {e:Exit}{a':Act}{w':World}(k:aO P g w t O [{ target:=.fn (.func f) #[],args:=#[x] }] none o st1 e a' w'):bodyPostM (FR none) 0 P fn (dl P g w O v hs') e a' w':=by
 obtain⟨rfl,g',O',ms,G,hd,hm,_⟩:=k
 obtain⟨hf,hk⟩:=hr hcall
 have key:LeavesInM (FR none) 0 P fn a'.tmps (dl P g w O v hs') a'.defers .returning w':=by
  rw[hd]
  refine NS hm G.st fun w2 s2 hx2=>?_
  have hx12:aE g w g' w2 fun b=>O b≠0:=G.ext.trans hx2 (fun b hb hq=>absurd hq (by omega))
  obtain⟨b,hb,hxe⟩:=hx
  obtain⟨k1,k2,_⟩:=hx12.obj id b hb
  have rv:RVs g' w2 [.ptr id off] [x] zero:=by
   simp only[RVs]
   refine⟨x,[],zero,zero,rfl,?_,⟨rfl,fun _=>rfl⟩,fun _=>rfl⟩
   simp only[RV]
   exact⟨⟨b,k1,by rw[hxe,k2]⟩,fun _=>by simp⟩
  obtain⟨Oe,Oh,re,sh,hO⟩:=s2.split
  refine⟨by simp,.inr ⟨by simp[Fence.wide],.func f,#[],f,#[x],rfl,?_,fun _ _=>trivial,(hrd hcall rv sh (fun b=>by have:=s2.le b;have:=hO b;simp;omega) (fun b hb=>by simp at hb) .returning).mono ?_⟩⟩
  ·show (callFunc f (#[x]++#[])).run P w2=_
   simpa using mB hf #[x]
  ·rintro e u' w3 ⟨rfl,hp⟩
   cases e with
   | panicked c=>exact hp.elim
   | outgrown=>exact hp.elim
   | returned y =>
    obtain⟨g3,Oa,O3,A⟩:=xN (v:=v1) (hs:=st1.hs) (t:=a'.tmps) s2.se re (fun b=>by have:=hO b;simp;omega) s2 hp
    obtain⟨x4,Ov,Oh2,hrun,rx,sh2,l2⟩:=ae0 h5 hend A.st
    refine⟨x4,hrun,g3,Ov,Oh2,rx,sh2,hx12.trans A.ext (fun b hb h=>by have:=G.old b hb;omega),fun b=>by have:=l2 b;have:=A.le b;omega,fun b hb=>?_,fun b hb=>A.st.hi b (by have:=l2 b;omega)⟩
    have:=l2 b;have:=G.old b hb;have:=A.old b (Nat.lt_of_lt_of_le hb hx12.size)
    omega
 rcases ho with rfl | rfl
 ·exact key
 ·exact key
theorem ahY {r:bn}(hc:d8 P r) (hr:dO P r) (hrd:uu P r) {n i d f:Nat}{a:VC}{c:Code}(hk:K0 P n i d f a c=true) {fn:Func}{vf:af}(h5:f8 P vf.results fn.results.toList=true) {st st1:St}{o:aU}{v:AV}{hs':HS}
  (h:HZ r i d f a st=some (o,st1)) (hend:xr vf st1=some (v,hs')) {g:Gh}{w:World}{t:Array Value}{O:Nat→Nat}(hn:t.size=n) (s:S P g w st t O) :
  c.wpIn (FR none) 0 P (bodyPostM (FR none) 0 P fn (dl P g w O v hs')) ⟨t,[]⟩ w:=by
 obtain⟨env,hs⟩:=st
 unfold K0 at hk
 split at hk
 ·rename_i rid os rest
  simp only[Bool.and_eq_true]at hk
  obtain⟨⟨hk1,hdn⟩,hrest⟩:=hk
  split at hk1
  ·rename_i m kk hos
   simp only[Bool.and_eq_true]at hk1
   obtain⟨⟨⟨⟨hm1,hm2⟩,hk1a⟩,hk1b⟩,hk2⟩:=hk1
   obtain⟨hmd,hmg⟩:=mJ hm1
   have hk1a':kk.dst=none:=by simpa using hk1a
   have hk1b':kk.guard=none:=by simpa using hk1b
   split at hm2
   ·rename_i y hmop
    have:=kr hm2;subst this
    split at hk2
    ·rename_i cl hkop
     simp only[Bool.and_eq_true]at hk2
     obtain⟨hcal,hargs⟩:=hk2
     have hcal':=Dc hcal
     split at hargs
     ·rename_i y hay
      have:=kr hargs;subst this
      have harr:cl.args=#[.tmp d]:=au8 hay
      have hosA:os=#[m,kk]:=by apply Array.ext';rw[hos]
      subst hosA
      have hd:d<t.size:=by rw[hn];simpa [Nat.blt_eq] using hdn
      unfold HZ at h
      split at h
      ·rename_i id off hget
       obtain⟨Ov,O1,rv,s1,l1⟩:=s.rd (r:=.s i) (o:=.tmp i) (by simp[aQ]) (v:=.ptr id off) (e':=env) (by have hg:=hget;simp only at hg;simp[rd,hg,share])
       simp only[RV]at rv
       obtain⟨hxp,hOv⟩:=rv
       have rv':RV g w (.ptr id off) (ev t (.tmp i)) zero:=by simp only[RV];exact⟨hxp,fun _=>by simp⟩
       obtain⟨O2,s2,l2⟩:=s.setTmp hd rv' (fun b=>by have:=s.le b;simp;omega) (fun b hb=>by simp at hb)
       have hle2:∀ b,O2 b≤O b:=fun b=>by have:=l2 b;simpa using this
       have hst:∃ o1 st0 v1 hs2,(o1=.normal∨o1=.ret)∧r.code a ⟨put env d (.ptr id off),hs⟩=some (o1,st0)∧r.call f [.ptr id off] st0.hs=some (v1,hs2)∧st1=⟨st0.env,hs2⟩:=by
        split at h
        ·rename_i st0 hra
         split at h
         ·rename_i v1 hs2 hcl
          simp only[Option.some.injEq,Prod.mk.injEq]at h
          exact⟨_,st0,v1,hs2,.inl rfl,hra,hcl,h.2.symm⟩
         ·simp at h
        ·rename_i st0 hra
         split at h
         ·rename_i v1 hs2 hcl
          simp only[Option.some.injEq,Prod.mk.injEq]at h
          exact⟨_,st0,v1,hs2,.inr rfl,hra,hcl,h.2.symm⟩
         ·simp at h
        ·simp at h
       obtain⟨o1,st0,v1,hs2,ho1,hra,hcl,rfl⟩:=hst
       refine wpIn_seq (wpIn_region ?_)
       have hx2:(t.setIfInBounds d (ev t (.tmp i))).getD d undef=ev t (.tmp i):=by rw[ft hd];simp
       have hgo:rest.wpIn (FR none) 0 P (bodyPostM (FR none) 0 P fn (dl P g w O v hs')) ⟨t.setIfInBounds d (ev t (.tmp i)),[{ target:=.fn (.func f) #[],args:=#[ev t (.tmp i)] }]⟩ w:=by
        refine wpIn_mono (hc hra (eD a rest hrest) (by simp[hn]) s2 none _ (fun l hl=>by simp at hl)) fun e a' w' k=>?_
        exact ahr hr hrd h5 ho1 hcl hend hxp (k.mono hle2)
       simp only[List.range,List.range.loop,List.size_toArray,List.length_cons,List.length_nil,wpOpsIn,Nat.zero_add]
       simp only[List.getElem?_toArray,List.getElem?_cons_zero,List.getElem?_cons_succ,Region.wanted,hmg,hk1b',if_true,Oper.wpIn]
       refine⟨fun _ _=>trivial,?_⟩
       rw[Gb t [] (by rw[hmop];simp)]
       simp only[execOp,hmop,Sem.run_pure,Oper.uponIn_value,Act.put,hmd]
       rw[Oper.semAt_none,yJ]
       have hrun:(execOp (ev (t.setIfInBounds d (ev t (.tmp i)))) kk).run P w=.ok (.defer { target:=.fn (.func f) #[],args:=#[ev t (.tmp i)] }) w:=by
        have h0:ev (t.setIfInBounds d (ev t (.tmp i))) (.tmp d)=ev t (.tmp i):=hx2
        have h1:ev (t.setIfInBounds d (ev t (.tmp i))) (.func f)=.func (.func f) #[] #[]:=rfl
        simp only[execOp,hkop,resolve,hcal',harr,h1,Deferred.ofValue]
        simp[h0]
       rw[hrun,Oper.uponIn_defer]
       simp only[Act.put,hk1a']
       exact⟨fun _ _=>trivial,hgo⟩
      ·simp at h
     ·simp at hargs
    ·simp at hk2
   ·simp at hm2
  ·simp at hk1
 ·simp at hk
theorem aaq {T:Nat→Option af}(hT:yu P T) {r:bn}(hc:d8 P r) (hl:yG P r) (hs:t4 P r) (hgh:uO P r) (hr:dO P r) (hrd:uu P r) {f:FuncId}{args:List AV}{hs0:HS}{v:AV}{hs':HS}
  (h:mc T r f args hs0=some (v,hs')):∃ fn c,P.funcs[f]?=some fn∧fn.body=some c∧fn.name≠ "runtime.NumGoroutine"∧∀ {g:Gh}{w:World}{xs:List Value}{Oa Oh:Nat→Nat},RVs g w args xs Oa→S P g w ⟨[],hs0⟩ #[] Oh→(∀ b,Oa b+Oh b≤1)→(∀ b,Oa b≠0→b<w.heap.size)→
   c.wpIn (FR none) 0 P (bodyPostM (FR none) 0 P fn (dl P g w (fun b=>Oa b+Oh b) v hs')) ⟨xs.toArray++Array.replicate (fn.ntmps-xs.toArray.size) undef,[]⟩ w:=by
 unfold mc at h
 split at h
 ·simp at h
 ·rename_i vf hvf
  obtain⟨fn,c,h1,h2,h3,h4,h5,h6⟩:=hT f vf hvf
  refine⟨fn,c,h1,h2,h3,fun {g w xs Oa Oh} rv sh hle hhi=>?_⟩
  split at h
  ·simp at h
  ·rename_i hlen
   rw[Nat.beq_eq]at hlen
   have hxl:=rv.length
   have hfin:∀ {o:aU}{st1:St},(o=.normal∨o=.ret)→aS vf.body r ⟨dW 0 args,hs0⟩=some (o,st1)→xr vf st1=some (v,hs')→
     c.wpIn (FR none) 0 P (bodyPostM (FR none) 0 P fn (dl P g w (fun b=>Oa b+Oh b) v hs')) ⟨xs.toArray++Array.replicate (fn.ntmps-xs.toArray.size) undef,[]⟩ w:=by
    intro o st1 ho hcode hend
    have s:=apd rv sh hle hhi (fn.ntmps-xs.toArray.size)
    have hsz:(xs.toArray++Array.replicate (fn.ntmps-xs.toArray.size) undef).size=fn.ntmps:=by simp;omega
    rcases h6 with hm | ⟨m,hb,hcl,h8⟩ | ⟨i,d,f2,a,hb,hlt⟩
    ·exact wpIn_mono (Z9 hc hl hs hgh hr hcode hm hsz s none [] (fun l hl=>by simp at hl)) fun e a' w' k=>He h5 ho hend k
    ·rw[hb]at hcode
     exact wpIn_mono (aip hcl hcode (by rw[hsz];exact h8) s) fun e a' w' k=>He h5 ho hend k
    ·rw[hb]at hcode
     exact ahY hc hr hrd hlt h5 hcode hend hsz s
   split at h
   ·rename_i st1 hcode;exact hfin (.inl rfl) hcode h
   ·rename_i st1 hcode;exact hfin (.inr rfl) hcode h
   ·simp at h
theorem aks {T:Nat→Option af}(hT:yu P T) {r:bn}(hc:d8 P r) (hl:yG P r) (hs:t4 P r) (hgh:uO P r) (hr:dO P r) (hrd:uu P r) {f:FuncId}{args:List AV}{hs0:HS}{v:AV}{hs':HS}
  (h:mc T r f args hs0=some (v,hs')):ahQ P f∧∀ {g:Gh}{w:World}{xs:List Value}{Oa Oh:Nat→Nat},RVs g w args xs Oa→S P g w ⟨[],hs0⟩ #[] Oh→(∀ b,Oa b+Oh b≤1)→(∀ b,Oa b≠0→b<w.heap.size)→
   CallsIn (FR none) 0 P f xs.toArray w (dl P g w (fun b=>Oa b+Oh b) v hs'):=by
 obtain⟨fn,c,h1,h2,h3,hk⟩:=aaq hT hc hl hs hgh hr hrd h
 exact⟨⟨fn,h1,by simp[h2],h3⟩,fun rv sh hle hhi=>callsIn_of_wp_marks (F:=FR none) h1 h2 trivial (hk rv sh hle hhi)⟩
theorem aie {T:Nat→Option af}(hT:yu P T) {r:bn}(hc:d8 P r) (hl:yG P r) (hs:t4 P r) (hgh:uO P r) (hr:dO P r) (hrd:uu P r) {f:FuncId}{args:List AV}{hs0:HS}{v:AV}{hs':HS}
  (h:mc T r f args hs0=some (v,hs')):∀ {g:Gh}{w:World}{xs:List Value}{Oa Oh:Nat→Nat},RVs g w args xs Oa→S P g w ⟨[],hs0⟩ #[] Oh→(∀ b,Oa b+Oh b≤1)→(∀ b,Oa b≠0→b<w.heap.size)→∀ u:FrameMode,
   CallsDIn (FR none) 0 P f xs.toArray u w fun e u' w'=>u'=u∧dl P g w (fun b=>Oa b+Oh b) v hs' e w':=by
 obtain⟨fn,c,h1,h2,h3,hk⟩:=aaq hT hc hl hs hgh hr hrd h
 exact fun rv sh hle hhi u=>Gg (F:=FR none) h1 h2 trivial (hk rv sh hle hhi)
theorem apU {T:Nat→Option af}(hT:yu P T):∀ n,d8 P (run T n)∧yG P (run T n)∧t4 P (run T n)∧uO P (run T n)∧dO P (run T n)∧uu P (run T n)
 | 0=>⟨fun h=>by simp[run]at h,fun h=>by simp[run]at h,fun h=>by simp[run]at h,fun _ h=>by simp[run]at h,fun h=>by simp[run]at h,fun h=>by simp[run]at h⟩
 | n+1=>by
  obtain⟨hc,hl,hs,hgh,hr,hrd⟩:=apU hT n
  refine⟨fun {v st o st'} h {c m} hm {g w t O} hn s ro ds hro=>?_,fun {v st o st'} h {c m} hm {g w t O} hn s ro ds hro=>?_,fun {v cur st o st'} h {body c m} h1 h2 {g w t O} hn s ro ds hro=>?_,fun {v st o st'} hv h=>?_,fun {f args hs0 v hs'} h=>?_,fun {f args hs0 v hs'} h=>?_⟩
  ·exact Z9 hc hl hs hgh hr h hm hn s ro ds hro
  ·exact ajw hc hl h hm hn s ro ds hro
  ·exact ahB hc hs h h1 h2 hn s ro ds hro
  ·exact ahU hgh hv h
  ·exact aks hT hc hl hs hgh hr hrd h
  ·exact aie hT hc hl hs hgh hr hrd h
theorem NL {T:Nat→Option af}(hT:yu P T) {n:Nat}{f:FuncId}{args:List AV}{v:AV}{hs':HS}(h:(run T n).call f args ⟨[],0⟩=some (v,hs')) {g:Gh}{w:World}{xs:List Value}
  (hobj:∀ id,g.obj id=none) (hpm:∀ b o,g.pm b o→b<w.heap.size) (rv:RVs g w args xs zero) :
  Calls P f xs.toArray w (dl P g w zero v hs'):=by
 obtain⟨_,_,_,_,hr,_⟩:=apU hT n
 obtain⟨_,hk⟩:=hr h
 have sh:S P g w ⟨[],⟨[],0⟩⟩ #[] zero:=⟨List.Pairwise.nil,List.Pairwise.nil,⟨zero,zero,fun _=>rfl,fun _=>rfl,fun _=>rfl⟩,fun _=>by simp,fun b hb=>by simp at hb,fun id _=>hobj id,hpm⟩
 have:=hk rv sh (fun b=>by simp) (fun b hb=>by simp at hb)
 exact this.calls fun _=>Xh _ _
end
#print axioms NL
end Go.Vm
namespace Go.Vm
inductive Ty where
 | int (k:IntKind)
 | bool
 | str
 | lst (es:List Ty)
mutual
def ka:Ty→D→Prop
 | .int k,.int j n=>j=k∧(Lit.int k n).wf=true
 | .bool,.bool _=>True
 | .str,.str _=>True
 | .lst es,.lst xs=>∀ x∈xs,OkDs es x
 | _,_=>False
def OkDs:List Ty→List D→Prop
 | [],[]=>True
 | t::ts,d::ds=>ka t d∧OkDs ts ds
 | _,_=>False
end
def adE (P:Program) (f:TypeId→Option (List Ty)):List Field→Nat→Option (List Ty)
 | [],_=>some []
 | fd::r,off=>match Nat.beq fd.offset off,f fd.type with
  | true,some ts=>match Nat.beq (P.cellsOf fd.type) ts.length,adE P f r (off+ts.length) with
   | true,some us=>some (ts++us)
   | _,_=>none
  | _,_=>none
def uq (P:Program):Nat→TypeId→Option (List Ty)
 | 0,_=>none
 | n+1,t=>match P.underlying t with
  | some .bool=>some [.bool]
  | some (.int k)=>some [.int k]
  | some .string=>some [.str]
  | some (.slice e)=>match uq P n e with
   | some (x::xs)=>match Nat.beq (P.cellsOf e) (x::xs).length with
    | true=>some [.lst (x::xs)]
    | false=>none
   | _=>none
  | some (.struct fs)=>match adE P (uq P n) fs.toList 0 with
   | some ts=>match Nat.beq (P.cellsOf t) ts.length with
    | true=>some ts
    | false=>none
   | none=>none
  | _=>none
mutual
def cS {H:Type}:DataW H→List D
 | .lit (.int k n)=>[.int k n]
 | .lit (.bool b)=>[.bool b]
 | .lit (.string s)=>[.str s]
 | .nil=>[.lst []]
 | .slice es _=>[.lst (cellsEs es)]
 | .agg ps=>cellsPs ps
 | _=>[]
def cellsEs {H:Type}:List (DataW H)→List (List D)
 | []=>[]
 | d::r=>cS d::cellsEs r
def cellsPs {H:Type}:List (DataW H)→List D
 | []=>[]
 | d::r=>cS d++cellsPs r
end
theorem OkDs.len:∀ {ts:List Ty}{ds:List D},OkDs ts ds→ds.length=ts.length
 | [],[],_=>rfl
 | t::ts,d::ds,h=>by simp only[OkDs]at h;simp[OkDs.len h.2]
 | [],_::_,h=>by simp[OkDs]at h
 | _::_,[],h=>by simp[OkDs]at h
theorem OkDs.append:∀ {ts us:List Ty}{ds es:List D},OkDs ts ds→OkDs us es→OkDs (ts++us) (ds++es)
 | [],us,[],es,_,h=>h
 | t::ts,us,d::ds,es,h,h2=>by
  simp only[OkDs,List.cons_append]at h⊢
  exact⟨h.1,h.2.append h2⟩
 | [],_,_::_,_,h,_=>by simp[OkDs]at h
 | _::_,_,[],_,h,_=>by simp[OkDs]at h
theorem QT {α β:Type}{f:α→Option β}:∀ {l:List α}{ys:List β},l.mapM f=some ys→ys.length=l.length∧∀ (i:Nat) (x:α),l[i]?=some x→∃ y,ys[i]?=some y∧f x=some y
 | [],ys,h=>by simp at h;subst h;exact⟨rfl,fun i x h=>by simp at h⟩
 | a::l,ys,h=>by
  simp only[List.mapM_cons,Option.bind_eq_bind,Option.pure_def]at h
  cases ha:f a with
  | none=>simp[ha]at h
  | some b =>
   cases hl:l.mapM f with
   | none=>simp[ha,hl]at h
   | some bs =>
    simp[ha,hl]at h
    subst h
    obtain⟨h1,h2⟩:=QT hl
    refine⟨by simp[h1],fun i x hi=>?_⟩
    cases i with
    | zero=>simp at hi;subst hi;exact⟨b,rfl,ha⟩
    | succ i=>simpa using h2 i x (by simpa using hi)
theorem DC {H:Type}(ds:List (DataW H)):cellsEs ds=ds.map cS:=by
 induction ds with
 | nil=>rfl
 | cons d ds ih=>simp[cellsEs,ih]
theorem abI {xs:List (List D)}{m:Nat}(h:∀ e∈xs,e.length=m) {j:Nat}{c:D}(hj:xs.flatten[j]?=some c):∃ i k e,j=i*m+k∧k<m∧xs[i]?=some e∧e[k]?=some c:=by
 induction xs generalizing j with
 | nil=>simp at hj
 | cons x xs ih =>
  have hx:=h x (.head _)
  rw[List.flatten_cons]at hj
  rcases Nat.lt_or_ge j x.length with hlt | hge
  ·rw[List.getElem?_append_left hlt]at hj
   exact⟨0,j,x,by simp,by omega,rfl,hj⟩
  ·rw[List.getElem?_append_right hge]at hj
   obtain⟨i,k,e,h1,h2,h3,h4⟩:=ih (fun e he=>h e (.tail _ he)) hj
   exact⟨i+1,k,e,by rw[Nat.succ_mul];omega,h2,by simpa using h3,h4⟩
section
variable {H:Type}{enc:TypeId×Value→H}{P:Program}{W:World}{sp:Nat→Bool}{held:Bool}
abbrev u9 (W:World):Nat→Nat→Prop:=fun b _=>b<W.heap.size
theorem agz {a:Addr}{v:Value}(h:W.cell? a=some v):a.block<W.heap.size∧a.spot=none:=by
 unfold World.cell? at h
 split at h
 ·rename_i c t fr hb
  split at h
  ·simp at h
  ·rename_i hs
   exact⟨ba hb,by cases hsp:a.spot<;>simp_all⟩
 ·simp at h
theorem Nx {f:TypeId→Option (List Ty)}{g:TypeId→List Value→Option (DataW H×List MemPlace)}
  (ih:∀ t ts cs x,f t=some ts→g t cs=some x→OkDs ts (cS x.1)∧cs.length=(cS x.1).length∧∀ (j:Nat) (c:D),(cS x.1)[j]?=some c→∃ u,cs[j]?=some u∧RD W (u9 W) c u) :
  ∀ {fs:List Field}{off:Nat}{ts:List Ty}{cs:List Value}{xs:List (DataW H×List MemPlace)},adE P f fs off=some ts→off+ts.length≤cs.length→
   fs.mapM (fun fd=>g fd.type ((cs.drop fd.offset).take (P.cellsOf fd.type)))=some xs→
   OkDs ts (cellsPs (xs.map (·.1)))∧∀ (j:Nat) (c:D),(cellsPs (xs.map (·.1)))[j]?=some c→∃ u,cs[off+j]?=some u∧RD W (u9 W) c u
 | [],off,ts,cs,xs,h,hb,hm=>by
  simp only[adE,Option.some.injEq]at h;subst h
  simp at hm;subst hm
  exact⟨by simp[cellsPs,OkDs],fun j c hj=>by simp[cellsPs]at hj⟩
 | fd::fs,off,ts,cs,xs,h,hb,hm=>by
  simp only[adE]at h
  split at h
  ·rename_i ts1 ho h1
   rw[Nat.beq_eq]at ho
   split at h
   ·rename_i us hc h2
    rw[Nat.beq_eq]at hc
    simp only[Option.some.injEq]at h;subst h
    simp only[List.length_append]at hb
    simp only[List.mapM_cons,Option.bind_eq_bind,Option.pure_def]at hm
    cases hg:g fd.type ((cs.drop fd.offset).take (P.cellsOf fd.type)) with
    | none=>simp[hg]at hm
    | some x =>
     cases hr:fs.mapM (fun fd=>g fd.type ((cs.drop fd.offset).take (P.cellsOf fd.type))) with
     | none=>simp[hg,hr]at hm
     | some ys =>
      simp[hg,hr]at hm
      subst hm
      obtain⟨k1,k2,k3⟩:=ih _ _ _ _ h1 hg
      have hl1:=k1.len
      obtain⟨q1,q2⟩:=Nx ih h2 (by omega) hr
      refine⟨by simp only[List.map_cons,cellsPs];exact k1.append q1,fun j c hj=>?_⟩
      simp only[List.map_cons,cellsPs]at hj
      rcases Nat.lt_or_ge j (cS x.1).length with hlt | hge
      ·rw[List.getElem?_append_left hlt]at hj
       obtain⟨u,hu,hrd⟩:=k3 j c hj
       rw[List.getElem?_take]at hu
       split at hu
       ·rw[List.getElem?_drop,ho]at hu;exact⟨u,hu,hrd⟩
       ·simp at hu
      ·rw[List.getElem?_append_right hge]at hj
       obtain⟨u,hu,hrd⟩:=q2 _ c hj
       exact⟨u,by rw[←hu];congr 1;omega,hrd⟩
   ·simp at h
  ·simp at h
theorem Rp:∀ (fuel n:Nat) (t:TypeId) (ts:List Ty) (cs:List Value) (x:DataW H×List MemPlace),uq P n t=some ts→DataW.trod enc P W 0 sp held fuel t cs=some x→
  OkDs ts (cS x.1)∧cs.length=(cS x.1).length∧∀ (j:Nat) (c:D),(cS x.1)[j]?=some c→∃ u,cs[j]?=some u∧RD W (u9 W) c u
 | 0,_,_,_,_,_,_,h=>by simp[DataW.trod]at h
 | _+1,0,_,_,_,_,h,_=>by simp[uq]at h
 | fuel+1,n+1,t,ts,cs,x,hty,h=>by
  have one:∀ {d:D}{v:Value},OkDs ts [d]→RD W (u9 W) d v→cS x.1=[d]→cs=[v]→OkDs ts (cS x.1)∧cs.length=(cS x.1).length∧∀ (j:Nat) (c:D),(cS x.1)[j]?=some c→∃ u,cs[j]?=some u∧RD W (u9 W) c u:=by
   intro d v h1 h2 h3 h4
   rw[h3,h4]
   refine⟨h1,rfl,fun j c hj=>?_⟩
   cases j with
   | zero=>simp at hj;subst hj;exact⟨v,rfl,h2⟩
   | succ j=>simp at hj
  simp only[uq]at hty
  unfold DataW.trod at h
  cases hu:P.underlying t with
  | none=>simp[hu]at hty
  | some d =>
   rw[hu]at hty h
   cases d<;>simp only[reduceCtorEq]at hty
   case bool =>
    simp only[Option.some.injEq]at hty;subst hty
    match cs,h with
    | [.bool b],h =>
     simp only[Option.some.injEq]at h;subst h
     exact one (d:=.bool b) (by simp[OkDs,ka]) (.bool _) rfl rfl
   case int k =>
    simp only[Option.some.injEq]at hty;subst hty
    match cs,h with
    | [.int k' m],h =>
     simp only at h
     split at h
     ·rename_i hk
      obtain⟨rfl,hwf⟩:=hk
      simp only[Option.some.injEq]at h;subst h
      exact one (d:=.int k' m) (by simp only[OkDs,ka];exact⟨⟨trivial,hwf⟩,trivial⟩) (.int _ _) rfl rfl
     ·simp at h
   case string =>
    simp only[Option.some.injEq]at hty;subst hty
    match cs,h with
    | [.string s],h =>
     simp only at h
     split at h
     ·simp only[Option.some.injEq]at h;subst h
      refine one (d:=.str s.data.toList) (by simp[OkDs,ka]) ?_ rfl rfl
      have:=RD.str (w:=W) (pm:=u9 W) s.data.toList
      simpa using this
     ·simp at h
   case slice e =>
    split at hty
    ·rename_i y ys hte
     split at hty
     ·rename_i hce
      rw[Nat.beq_eq]at hce
      simp only[Option.some.injEq]at hty;subst hty
      match cs,h with
      | [.slice none 0 0],h =>
       simp only[Option.some.injEq]at h;subst h
       exact one (d:=.lst []) (by simp[OkDs,ka]) (.nil _ _) rfl rfl
      | [.slice (some a) len cap],h =>
       simp only at h
       split at h
       ·rename_i hb
        obtain⟨_,hlc,_⟩:=hb
        simp only[Option.bind_eq_some_iff,Option.map_eq_some_iff]at h
        obtain⟨elems,hel,rest,_,rfl⟩:=h
        obtain⟨hlen,hget⟩:=QT hel
        simp only[List.length_range]at hlen
        have helem:∀ i,i<len→∃ z,elems[i]?=some z∧∃ cs',W.cells? 0 (a.add (i*P.cellsOf e)) (P.cellsOf e)=some cs'∧OkDs (y::ys) (cS z.1)∧cs'.length=(cS z.1).length∧
          ∀ (j:Nat) (c:D),(cS z.1)[j]?=some c→∃ u,cs'[j]?=some u∧RD W (u9 W) c u:=by
         intro i hi
         obtain⟨z,hz,hf⟩:=hget i i (by simp[hi])
         simp only[Option.bind_eq_some_iff]at hf
         obtain⟨cs',hcs,htr⟩:=hf
         exact⟨z,hz,cs',hcs,Rp fuel n e (y::ys) cs' z hte htr⟩
        have hmem:∀ d∈elems.map (·.1),OkDs (y::ys) (cS d):=by
         intro d hd
         obtain⟨z,hz,rfl⟩:=List.mem_map.1 hd
         obtain⟨i,hi,rfl⟩:=List.mem_iff_getElem.1 hz
         obtain⟨z',hz',_,_,hok,_⟩:=helem i (by omega)
         rw[List.getElem?_eq_getElem hi]at hz'
         simp only[Option.some.injEq]at hz'
         rw[hz'];exact hok
        have hes:cellsEs (elems.map (·.1))=elems.map fun z=>cS z.1:=by rw[DC,List.map_map];rfl
        have hlm:∀ e'∈cellsEs (elems.map (·.1)),e'.length=(y::ys).length:=by
         rw[DC]
         intro e' he'
         obtain⟨d,hd,rfl⟩:=List.mem_map.1 he'
         exact(hmem d hd).len
        refine one (d:=.lst (cellsEs (elems.map (·.1)))) ?_ ?_ rfl rfl
        ·simp only[OkDs,ka,and_true]
         rw[DC]
         intro e' he'
         obtain⟨d,hd,rfl⟩:=List.mem_map.1 he'
         exact hmem d hd
        ·by_cases h0:len=0
         ·subst h0
          have:elems=[]:=List.eq_nil_of_length_eq_zero hlen
          subst this
          exact .nil _ _
         ·obtain⟨ab,aoff,asp⟩:=a
          have hm0:0<(y::ys).length:=by simp
          have hcell:∀ i k,i<len→k<(y::ys).length→∃ z c u,elems[i]?=some z∧(cS z.1)[k]?=some c∧W.cell? ((Addr.add ⟨ab,aoff,asp⟩ (i*P.cellsOf e)).add k)=some u∧RD W (u9 W) c u:=by
           intro i k hi hk
           obtain⟨z,hz,cs',hcs,hok,hl2,hrd⟩:=helem i hi
           have hkl:k<(cS z.1).length:=by rw[hok.len];exact hk
           obtain⟨u,hu,hr⟩:=hrd k _ (List.getElem?_eq_getElem hkl)
           unfold World.cells? at hcs
           rw[if_pos (Nat.zero_le _)]at hcs
           obtain⟨hcl,hcg⟩:=QT hcs
           obtain⟨v,hv,hw⟩:=hcg k k (by rw[List.getElem?_range (by rw[hce];exact hk)])
           rw[hu]at hv
           simp only[Option.some.injEq]at hv
           subst hv
           exact⟨z,_,u,hz,List.getElem?_eq_getElem hkl,hw,hr⟩
          obtain⟨_,_,u0,_,_,hu0,_⟩:=hcell 0 0 (by omega) hm0
          have hasp:asp=none:=by
           have:=(agz hu0).2
           simpa [Addr.add] using this
          subst hasp
          have hll:(cellsEs (elems.map (·.1))).length=len:=by rw[hes];simp[hlen]
          have:=fC.rd (w:=W) (pm:=u9 W) (xs:=cellsEs (elems.map (·.1))) (b:=ab) (off:=aoff) (cap:=cap) hm0 (by omega) hlm (fun j c hj=>?_) (fun j _=>(agz hu0).1 |> fun h=>by simpa [Addr.add] using h)
          ·rw[hll]at this;exact this
          ·obtain⟨i,k,e',rfl,hk,hi,hck⟩:=abI hlm hj
           have hil:i<len:=by have:=eI hi;omega
           obtain⟨z,c',u,hz,hc',hcell',hr⟩:=hcell i k hil hk
           rw[hes,List.getElem?_map,hz]at hi
           simp only[Option.map_some,Option.some.injEq]at hi
           subst hi
           rw[hc']at hck
           simp only[Option.some.injEq]at hck
           subst hck
           rw[eW,eW,hce]at hcell'
           exact⟨u,by rw[←hcell'];congr 2;omega,hr⟩
       ·simp at h
     ·simp at hty
    ·simp at hty
   case struct fs =>
    split at hty
    ·rename_i us hfs
     split at hty
     ·rename_i hcl
      rw[Nat.beq_eq]at hcl
      simp only[Option.some.injEq]at hty;subst hty
      have h':(if cs.length=P.cellsOf t then (fs.toList.mapM fun f=>DataW.trod enc P W 0 sp held fuel f.type ((cs.drop f.offset).take (P.cellsOf f.type))).map fun xs=>((.agg (xs.map (·.1)):DataW H),xs.flatMap (·.2)) else none)=some x:=by
       cases cs with
       | nil=>exact h
       | cons v r=>cases r<;>(try cases v)<;>exact h
      split at h'
      ·rename_i hlen
       simp only[Option.map_eq_some_iff]at h'
       obtain⟨xs,hxs,rfl⟩:=h'
       obtain⟨q1,q2⟩:=Nx (P:=P) (f:=uq P n) (g:=DataW.trod enc P W 0 sp held fuel) (fun t ts cs x h1 h2=>Rp fuel n t ts cs x h1 h2) (cs:=cs) hfs (by omega) hxs
       refine⟨q1,?_,fun j c hj=>?_⟩
       ·have:=q1.len
        simp only[cS];omega
       ·obtain⟨u,hu,hr⟩:=q2 j c hj
        exact⟨u,by rw[←hu,Nat.zero_add],hr⟩
      ·simp at h'
     ·simp at hty
    ·simp at hty
end
end Go.Vm
namespace Go.Vm
open Go.ChangeShapes Go.WideShapes Go.ChangeAt Go.RowKit
def zO (P:Program) (n:Nat):List TypeId→Option (List (Bool×List Ty))
 | []=>some []
 | t::ts=>match uq P n t,zO P n ts with
  | some tys,some r=>some ((si P t,tys)::r)
  | _,_=>none
def KV (agg:Bool) (cs:List D):AV :=
 match agg with
 | true=>.agg (cs.map .d)
 | false=>match cs with
  | [c]=>.d c
  | _=>.junk
def rA {H:Type}:List (Bool×List Ty)→List (DataW H)→List AV
 | (b,_)::ts,d::ds=>KV b (cS d)::rA ts ds
 | _,_=>[]
def gj {H:Type}:List (Bool×List Ty)→List (DataW H)→Prop
 | [],[]=>True
 | (_,tys)::ts,d::ds=>OkDs tys (cS d)∧gj ts ds
 | _,_=>False
def Gh.all (W:World):Gh where
 obj _:=none
 base _:=0
 esz _:=0
 bsz _:=0
 pm:=u9 W
section
variable {H:Type}{enc:TypeId×Value→H}{P:Program}{W:World}{sp:Nat→Bool}
theorem aep {n:Nat}{base:Nat}:∀ {ts:List TypeId}{vs:List Value}{ds:List (DataW H)}{ps:List MemPlace}{tys:List (Bool×List Ty)},DataW.TrodAll enc P W 0 sp true ts vs ds ps→zO P n ts=some tys→
  (∀ (j:Nat) t v,ts[j]?=some t→vs[j]?=some v→Value.okWide P W .any base t v)→RVs (Gh.all W) W (rA tys ds) vs zero∧gj tys ds
 | [],[],[],_,tys,_,h,_=>by
  simp only[zO,Option.some.injEq]at h;subst h
  simp[rA,RVs,gj]
 | t::ts,v::vs,d::ds,ps,tys,hA,h,hok=>by
  obtain⟨p,q,⟨fuel,htr⟩,hrest,rfl⟩:=hA
  simp only[zO]at h
  split at h
  ·rename_i ty r h1 h2
   simp only[Option.some.injEq]at h;subst h
   obtain⟨k1,k2,k3⟩:=Rp fuel n t ty v.cells.toList (d,p) h1 htr
   obtain⟨q1,q2⟩:=aep hrest h2 fun j t v h1 h2=>hok (j+1) t v (by simpa using h1) (by simpa using h2)
   refine⟨?_,k1,q2⟩
   have hv:=hok 0 t v rfl rfl
   have hrv:RV (Gh.all W) W (KV (si P t) (cS d)) v zero:=by
    unfold Value.okWide at hv
    cases ha:si P t with
    | true =>
     have hagg:∃ cs,v=.agg cs:=by
      unfold si at ha
      split at ha
      ·rename_i hu;rw[hu]at hv;obtain⟨cs,e,_⟩:=hv;exact⟨cs,e⟩
      ·rename_i hu;rw[hu]at hv;obtain⟨cs,e,_⟩:=hv;exact⟨cs,e⟩
      ·simp at ha
     obtain⟨cs,rfl⟩:=hagg
     simp only[KV,RV]
     refine⟨cs,rfl,RVs.ds (g:=Gh.all W) rfl (by have:=k2;simpa [Value.cells] using this) fun j c x hc hx=>?_⟩
     obtain⟨u,hu,hr⟩:=k3 j c hc
     have:u=x:=by
      have hu':cs.toList[j]?=some u:=by simpa [Value.cells] using hu
      rw[hu']at hx;simpa using hx
     rw[←this];exact hr
    | false =>
     have hone:v.cells=#[v]:=by
      have:Cell.okWide P W .any base t v:=by
       unfold si at ha
       split at ha
       ·simp at ha
       ·simp at ha
       ·rename_i h1 h2
        split at hv
        ·rename_i fs hu;exact absurd hu (h1 fs)
        ·rename_i k e hu;exact absurd hu (h2 k e)
        ·exact hv
      cases v<;>first | rfl | (exfalso;unfold Cell.okWide at this;split at this<;>simp_all [Cell.ok])
     rw[hone]at k2 k3
     simp only[List.length_cons,List.length_nil]at k2
     match hcd:cS d,k2 with
     | [c],_ =>
      obtain⟨u,hu,hr⟩:=k3 0 c (by rw[hcd];rfl)
      simp at hu;subst hu
      simp only[KV,RV]
      exact⟨hr,fun _=>trivial⟩
   simp only[rA,RVs]
   exact⟨v,vs,zero,zero,rfl,hrv,q1,fun _=>rfl⟩
  ·simp at h
 | [],_::_,_,_,_,hA,_,_=>hA.elim
 | [],[],_::_,_,_,hA,_,_=>hA.elim
 | _::_,[],_,_,_,hA,_,_=>hA.elim
 | _::_,_::_,[],_,_,hA,_,_=>hA.elim
theorem aap {W':World}(hl:laidOutB P=true) (hblk:∀ b,b<W.heap.size→W'.heap[b]?=W.heap[b]?) {sp':Nat→Bool}:∀ {ts:List TypeId}{vs:List Value}{ds:List (DataW H)}{ps:List MemPlace},
  (∀ t∈ts,P.readableRec t=true∧t<P.types.size)→DataW.TrodAll enc P W 0 (fun _=>true) true ts vs ds ps→(∀ p∈ps,sp' p.block=true)→DataW.TrodAll enc P W' 0 sp' true ts vs ds ps
 | [],[],[],_,_,h,_=>h
 | t::ts,v::vs,d::ds,ps,hr,h,hs=>by
  have hlt:=h.lt
  obtain⟨p,q,⟨fuel,htr⟩,hrest,rfl⟩:=h
  obtain⟨h1,h2⟩:=hr t (.head _)
  refine⟨p,q,⟨fuel,DataW.trod_stays (kids_book hl h1) (book_sized h1) (fun h=>by cases h) ⟨h2,book_self t⟩ htr (fun x hx=>?_) (fun x hx=>hs x (List.mem_append_left _ hx))⟩,
   aap hl hblk (fun t ht=>hr t (.tail _ ht)) hrest (fun x hx=>hs x (List.mem_append_right _ hx)),rfl⟩
  have hxl:=hlt x (List.mem_append_left _ hx)
  cases x with
  | cell b o=>exact fU (hblk b hxl) o
  | map b=>exact hblk b hxl
 | [],_::_,_,_,_,h,_=>h.elim
 | [],[],_::_,_,_,h,_=>h.elim
 | _::_,[],_,_,_,h,_=>h.elim
 | _::_,_::_,[],_,_,h,_=>h.elim
theorem H6 {T:Nat→Option af}(hT:yu P T) {fn:Func}{f:FuncId}{s:ChangeSpec}(hl:laidOutB P=true) (hrec:∀ t∈fn.params.toList,P.readableRec t=true∧t<P.types.size)
  {n:Nat}{tys:List (Bool×List Ty)}(hty:zO P n fn.params.toList=some tys) {tb:TypeId}(hres:fn.resultTypes=#[tb]) (htb:P.underlying tb=some .bool) (hvars:s.vars=[]) {apart:Bool}
  {base:Nat}{args:Array Value}{ds gs:List (DataW H)}{before:List MemPlace}(hval:∀ (j:Nat) t v,fn.params[j]?=some t→args[j]?=some v→Value.okWide P W .any base t v)
  (hW:DataW.Whole enc P fn.params.toList s.vars apart W args.toList ds gs before) (hfn:gj tys ds→s.fn H ds={ results:=[.lit (.bool true)],args:=ds })
  (hrun:gj tys ds→gs=[]→∃ m hs',(run T m).call f (rA tys ds) ⟨[],0⟩=some (.d (.bool true),hs')) :
  Calls P f args W fun e W'=>∃ v,e=.returned v∧s.post enc P fn apart true false false W args v W':=by
 have hW':=hW
 obtain⟨p,q,hA,hV,hpq,hfz,hnd⟩:=hW
 rw[hvars]at hV
 obtain⟨rfl,rfl⟩:=trodVars_none hV
 obtain⟨rv,hok⟩:=aep (n:=n) (base:=base) hA hty fun j t v h1 h2=>hval j t v (by rw[←Array.getElem?_toList];exact h1) (by rw[←Array.getElem?_toList];exact h2)
 obtain⟨m,hs',hcall⟩:=hrun hok rfl
 have hc:=NL hT hcall (g:=Gh.all W) (fun _=>rfl) (fun b o h=>h) rv
 have hargs:args.toList.toArray=args:=by simp
 rw[hargs]at hc
 refine hc.mono fun e W2 hp=>?_
 cases e with
 | panicked _=>exact hp.elim
 | outgrown=>exact hp.elim
 | returned x =>
  obtain⟨g',Or,Oh,r1,_,hx,_,_,_⟩:=hp
  have hxv:=qA r1 rfl
  subst hxv
  have hblk:∀ b,b<W.heap.size→W2.heap[b]?=W.heap[b]?:=fun b hb=>(hx.blk b hb (by simp)).1
  have hsfn:s.fn H (ds++[])={ results:=[.lit (.bool true)],args:=ds }:=by rw[List.append_nil];exact hfn hok
  refine⟨_,rfl,post_of_same (pa:=p) (pv:=[]) hW' (fun b sp hd=>?_) (fun sp hsp=>?_) (fun sp _=>?_) (by rw[hpq]) ⟨hx.same.1,hx.same.2.1,fun i hi=>?_⟩ hx.same.2.2 ?_⟩
  ·rw[hres,hsfn]
   exact trodAll_cons_mk (shut_bool htb _) trodAll_mk0
  ·rw[hsfn]
   exact aap hl hblk hrec hA fun x hx=>hsp x (by rw[hpq];simpa using hx)
  ·rw[hsfn,hvars]
   rfl
  ·rw[hblk i hi]
   split<;>simp_all
  ·exact ok_one hres rfl (okWide_bool_mk htb _)
end
end Go.Vm
namespace Go.Vm
set_option maxHeartbeats 2000000
set_option maxRecDepth 100000
theorem tT {t:Ty}:∀ {ds:List D},OkDs [t] ds→∃ d,ds=[d]∧ka t d
 | [],h=>by simp[OkDs]at h
 | [d],h=>⟨d,rfl,by simpa [OkDs] using h⟩
 | _::_::_,h=>by simp[OkDs]at h
theorem kf {t:Ty}{ts:List Ty}:∀ {ds:List D},OkDs (t::ts) ds→∃ d r,ds=d::r∧ka t d∧OkDs ts r
 | [],h=>by simp[OkDs]at h
 | d::r,h=>⟨d,r,rfl,by simpa only[OkDs] using h⟩
theorem ajG {k:IntKind}:∀ {d:D},ka (.int k) d→∃ n,d=.int k n∧(Lit.int k n).wf=true
 | .int j n,h=>by
  simp only[ka]at h
  obtain⟨rfl,h⟩:=h
  exact⟨n,rfl,h⟩
 | .bool _,h=>by simp[ka]at h
 | .str _,h=>by simp[ka]at h
 | .lst _,h=>by simp[ka]at h
theorem lh {d:D}(h:ka (.int .i64) d):∃ n,d=.int .i64 n∧i64 n:=by
 obtain⟨n,e,h⟩:=ajG h
 refine⟨n,e,?_⟩
 simp[Lit.wf,IntKind.min,IntKind.max,IntKind.signed,IntKind.bits]at h
 omega
theorem act {d:D}(h:ka (.int .u8) d):∃ n:Nat,d=.int .u8 n∧n≤255:=by
 obtain⟨n,e,h⟩:=ajG h
 simp[Lit.wf,IntKind.min,IntKind.max,IntKind.signed,IntKind.bits]at h
 refine⟨n.toNat,?_,by omega⟩
 rw[e,Int.toNat_of_nonneg h.1]
theorem Eq:∀ {d:D},ka .bool d→∃ b,d=.bool b
 | .bool b,_=>⟨b,rfl⟩
 | .int _ _,h=>by simp[ka]at h
 | .str _,h=>by simp[ka]at h
 | .lst _,h=>by simp[ka]at h
theorem Aa {es:List Ty}:∀ {d:D},ka (.lst es) d→∃ xs,d=.lst xs∧∀ x∈xs,OkDs es x
 | .lst xs,h=>⟨xs,rfl,by simpa only[ka] using h⟩
 | .int _ _,h=>by simp[ka]at h
 | .str _,h=>by simp[ka]at h
 | .bool _,h=>by simp[ka]at h
theorem qE {α:Type}{es:List Ty}{f:α→List D}{Q:α→Prop}(h1:∀ x,OkDs es x→∃ a,x=f a∧Q a):∀ {xs:List (List D)},(∀ x∈xs,OkDs es x)→∃ l:List α,xs=l.map f∧∀ a∈l,Q a
 | [],_=>⟨[],rfl,by simp⟩
 | x::r,h=>by
  obtain⟨a,rfl,ha⟩:=h1 x (h x (.head _))
  obtain⟨l,rfl,hl⟩:=qE h1 (xs:=r) fun y hy=>h y (.tail _ hy)
  exact⟨a::l,rfl,fun b hb=>(List.mem_cons.1 hb).elim (fun e=>e▸ha) (hl b)⟩
theorem XV {d:D}(h:ka (.lst [.int .i64]) d):∃ ns,d=.lst (aI ns)∧∀ n∈ns,i64 n:=by
 obtain⟨xs,rfl,h⟩:=Aa h
 obtain⟨l,rfl,hl⟩:=qE (f:=fun n=>[.int .i64 n]) (Q:=i64) (fun x hx=>by
  obtain⟨d,rfl,hd⟩:=tT hx
  obtain⟨n,rfl,hn⟩:=lh hd
  exact⟨n,rfl,hn⟩) h
 exact⟨l,rfl,hl⟩
def ang:List Ty:=[.int .i64,.int .i64]
def am7:List Ty:=[.int .i64,.int .i64,.bool,.bool,.lst [.int .i64]]
def ane:List Ty:=[.int .i64,.int .u8,.int .u8,.int .i64,.lst [.int .i64],.lst [.lst ang],.lst [.lst [.int .i64]],.lst [.lst am7],.lst [.int .i64]]
theorem aqs {x:List D}(h:OkDs ang x):∃ s:aC,x=s.cells∧i64 s.book∧i64 s.len:=by
 obtain⟨a,r,rfl,ha,h⟩:=kf h
 obtain⟨b,rfl,hb⟩:=tT h
 obtain⟨n,rfl,hn⟩:=lh ha
 obtain⟨m,rfl,hm⟩:=lh hb
 exact⟨⟨n,m⟩,rfl,hn,hm⟩
theorem aqw {x:List D}(h:OkDs am7 x):∃ f:aV,x=f.cells∧(i64 f.len∧i64 f.order)∧∀ y∈f.coefs,i64 y:=by
 obtain⟨a,r,rfl,ha,h⟩:=kf h
 obtain⟨b,r,rfl,hb,h⟩:=kf h
 obtain⟨c,r,rfl,hc,h⟩:=kf h
 obtain⟨d,r,rfl,hd,h⟩:=kf h
 obtain⟨e,rfl,he⟩:=tT h
 obtain⟨n,rfl,hn⟩:=lh ha
 obtain⟨m,rfl,hm⟩:=lh hb
 obtain⟨p,rfl⟩:=Eq hc
 obtain⟨q,rfl⟩:=Eq hd
 obtain⟨l,rfl,hl⟩:=XV he
 exact⟨⟨n,m,p,q,l⟩,rfl,⟨hn,hm⟩,hl⟩
theorem Zw {α:Type}{es:List Ty}{f:α→List D}{Q:α→Prop}(h1:∀ x,OkDs es x→∃ a,x=f a∧Q a) {d:D}(h:ka (.lst [.lst es]) d):∃ l:List (List α),d=.lst (l.map fun r=>[.lst (r.map f)])∧∀ r∈l,∀ a∈r,Q a:=by
 obtain⟨xs,rfl,h⟩:=Aa h
 obtain⟨l,rfl,hl⟩:=qE (f:=fun r:List α=>[.lst (r.map f)]) (Q:=fun r=>∀ a∈r,Q a) (fun x hx=>by
  obtain⟨d,rfl,hd⟩:=tT hx
  obtain⟨xs,rfl,h⟩:=Aa hd
  obtain⟨r,rfl,hr⟩:=qE h1 h
  exact⟨r,rfl,hr⟩) h
 exact⟨l,rfl,hl⟩
structure aK.Rng (c:aK):Prop where
 gain:i64 c.gain
 seq:c.info.seq≤255
 shape:c.info.shape≤255
 max:i64 c.info.max
 groups:∀ n∈c.info.groups,i64 n
 secI:∀ l∈c.sects,∀ s∈l,i64 s.book∧i64 s.len
 stepI:∀ l∈c.steps,∀ n∈l,i64 n
 fltI:∀ l∈c.tns,∀ f∈l,(i64 f.len∧i64 f.order)∧∀ x∈f.coefs,i64 x
 lineI:∀ n∈c.lines,i64 n
theorem ap1 {x:List D}(h:OkDs ane x):∃ c:aK,x.map .d=c.av∧c.Rng:=by
 obtain⟨a1,r,rfl,h1,h⟩:=kf h
 obtain⟨a2,r,rfl,h2,h⟩:=kf h
 obtain⟨a3,r,rfl,h3,h⟩:=kf h
 obtain⟨a4,r,rfl,h4,h⟩:=kf h
 obtain⟨a5,r,rfl,h5,h⟩:=kf h
 obtain⟨a6,r,rfl,h6,h⟩:=kf h
 obtain⟨a7,r,rfl,h7,h⟩:=kf h
 obtain⟨a8,r,rfl,h8,h⟩:=kf h
 obtain⟨a9,rfl,h9⟩:=tT h
 obtain⟨n1,rfl,g1⟩:=lh h1
 obtain⟨n2,rfl,g2⟩:=act h2
 obtain⟨n3,rfl,g3⟩:=act h3
 obtain⟨n4,rfl,g4⟩:=lh h4
 obtain⟨l5,rfl,g5⟩:=XV h5
 obtain⟨l6,rfl,g6⟩:=Zw (f:=aC.cells) (fun x hx=>aqs hx) h6
 obtain⟨l7,rfl,g7⟩:=Zw (f:=fun n=>[.int .i64 n]) (Q:=i64) (fun x hx=>by
  obtain⟨d,rfl,hd⟩:=tT hx
  obtain⟨n,rfl,hn⟩:=lh hd
  exact⟨n,rfl,hn⟩) h7
 obtain⟨l8,rfl,g8⟩:=Zw (f:=aV.cells) (fun x hx=>aqw hx) h8
 obtain⟨l9,rfl,g9⟩:=XV h9
 exact⟨⟨n1,⟨n2,n3,n4,l5⟩,l6,l7,l8,l9⟩,rfl,g1,g2,g3,g4,g5,g6,g7,g8,g9⟩
theorem aK.Rng.fit {c:aK}(h:c.Rng) (s:acp c):c.Fit where
 gain:=h.gain
 info:=⟨h.seq,h.shape,h.max,by have:=s.groups;omega,h.groups⟩
 sects:=⟨by have:=s.sects.1;omega,fun l hl=>by have:=s.sects.2 l hl;omega⟩
 secI:=h.secI
 steps:=⟨by have:=s.steps.1;omega,fun l hl=>by have:=s.steps.2 l hl;omega⟩
 stepI:=h.stepI
 tns:=⟨by have:=s.tns.1;omega,fun l hl=>⟨by have:=(s.tns.2 l hl).1;omega,fun f hf=>by have:=(s.tns.2 l hl).2 f hf;omega⟩⟩
 fltI:=h.fltI
 lines:=by have:=s.lines;omega
 lineI:=h.lineI
end Go.Vm
namespace Go.Vm
theorem agk {w:AV}{b:Bool}(e:df w=.d (.bool b)):w=.d (.bool b):=by
 unfold df at e
 split at e
 ·cases w<;>simp[f9,gq,iq]at e⊢<;>exact e
 ·exact e
theorem ak7 {h:ac}{v:AV}{b:Bool}(e:d9 h v=some (.d (.bool b))):v=.d (.bool b):=by
 unfold d9 at e
 split at e
 ·split at e
  ·simp only[Option.some.injEq]at e
   exact absurd (agk e) (by simp)
  ·simp at e
 ·split at e
  ·rename_i x q hq
   simp only[Option.some.injEq]at e
   have hx:=agk e
   subst hx
   unfold dB at hq
   split at hq
   ·split at hq<;>simp at hq
   ·unfold eZ at hq
    split at hq
    ·simp only[Option.some.injEq,Prod.mk.injEq]at hq
     exact hq.1
    ·simp at hq
    ·simp at hq
    ·split at hq
     ·split at hq<;>simp at hq
     ·simp at hq
    ·simp at hq
  ·simp at e
theorem Ug {P:Nat→Option af}{f:FuncId}{as:List AV}{b:Bool}(h:aL P f as=some (.d (.bool b))):∃ m hs,(run P m).call f as ⟨[],0⟩=some (.d (.bool b),hs):=by
 unfold aL at h
 cases hc:(Dn P).call f as ⟨[],0⟩ with
 | none=>rw[hc]at h;simp[tF]at h
 | some q =>
  obtain⟨v,hs⟩:=q
  rw[hc]at h
  have:=ak7 h
  subst this
  obtain⟨m,hm⟩:=ua hc
  exact⟨m,hs,hm⟩
end Go.Vm
namespace Go.Vm
set_option maxHeartbeats 2000000
set_option maxRecDepth 100000
theorem ann:∀ {a b:List D},a.map AV.d=b.map AV.d→a=b
 | [],[],_=>rfl
 | [],_::_,h=>by simp at h
 | _::_,[],h=>by simp at h
 | x::a,y::b,h=>by
  simp only[List.map_cons,List.cons.injEq,AV.d.injEq]at h
  rw[h.1,ann h.2]
def GG:List Ty:=[.int .i64,.int .i64,.bool,.int .i64]
def GY:List Ty:=[.lst ane,.bool,.int .i64,.lst [.lst [.bool]],.lst [.int .u8]]
structure cX.Rng (f:cX):Prop where
 chans:∀ c∈f.chans,c.Rng
 mask:i64 f.mask
 fill:∀ n∈f.fill,n≤255
theorem ag5 {d:D}(h:ka (.lst [.int .u8]) d):∃ l:List Nat,d=.lst (ah l)∧∀ n∈l,n≤255:=by
 obtain⟨xs,rfl,h⟩:=Aa h
 obtain⟨l,rfl,hl⟩:=qE (f:=fun n:Nat=>[.int .u8 (n:Int)]) (Q:=fun n=>n≤255) (fun x hx=>by
  obtain⟨d,rfl,hd⟩:=tT hx
  obtain⟨n,rfl,hn⟩:=act hd
  exact⟨n,rfl,hn⟩) h
 exact⟨l,rfl,hl⟩
theorem ajI {x:List D}(h:OkDs GY x):∃ f:cX,x.map .d=f.av∧f.Rng:=by
 obtain⟨a1,r,rfl,h1,h⟩:=kf h
 obtain⟨a2,r,rfl,h2,h⟩:=kf h
 obtain⟨a3,r,rfl,h3,h⟩:=kf h
 obtain⟨a4,r,rfl,h4,h⟩:=kf h
 obtain⟨a5,rfl,h5⟩:=tT h
 obtain⟨xs,rfl,h1⟩:=Aa h1
 obtain⟨l1,rfl,g1⟩:=qE (f:=aK.cells) (Q:=aK.Rng) (fun x hx=>by
  obtain⟨c,e,hc⟩:=ap1 hx
  exact⟨c,ann e,hc⟩) h1
 obtain⟨b2,rfl⟩:=Eq h2
 obtain⟨n3,rfl,g3⟩:=lh h3
 obtain⟨xs,rfl,h4⟩:=Aa h4
 obtain⟨l4,rfl,g4⟩:=qE (f:=fun r:List Bool=>[.lst (iF r)]) (Q:=fun _=>True) (fun x hx=>by
  obtain⟨d,rfl,hd⟩:=tT hx
  obtain⟨ys,rfl,hd⟩:=Aa hd
  obtain⟨l,rfl,_⟩:=qE (f:=fun b:Bool=>[.bool b]) (Q:=fun _=>True) (fun x hx=>by
   obtain⟨d,rfl,hd⟩:=tT hx
   obtain⟨b,rfl⟩:=Eq hd
   exact⟨b,rfl,trivial⟩) hd
  exact⟨l,rfl,trivial⟩) h4
 obtain⟨l5,rfl,g5⟩:=ag5 h5
 exact⟨⟨l1,b2,n3,l4,l5⟩,rfl,g1,g3,g5⟩
theorem cX.Rng.fit {f:cX}(h:f.Rng) (s:Uq f):f.Fit where
 chans:=⟨by have:=s.chans.1;omega,fun c hc=>(h.chans c hc).fit (s.chans.2 c hc)⟩
 mask:=h.mask
 bands:=⟨by have:=s.bands.1;omega,fun l hl=>by have:=s.bands.2 l hl;omega⟩
 fill:=by have:=s.fill;omega
 fillI:=h.fill
theorem ai6 {x:List D}(h:OkDs GG x):∃ (rt n:Int) (cb:Bool) (cz:Int),x.map AV.d=[AV.d (.int .i64 rt),.d (.int .i64 n),.d (.bool cb),.d (.int .i64 cz)]:=by
 obtain⟨a1,r,rfl,h1,h⟩:=kf h
 obtain⟨a2,r,rfl,h2,h⟩:=kf h
 obtain⟨a3,r,rfl,h3,h⟩:=kf h
 obtain⟨a4,rfl,h4⟩:=tT h
 obtain⟨n1,rfl,_⟩:=lh h1
 obtain⟨n2,rfl,_⟩:=lh h2
 obtain⟨b3,rfl⟩:=Eq h3
 obtain⟨n4,rfl,_⟩:=lh h4
 exact⟨n1,n2,b3,n4,rfl⟩
theorem Uy {H:Type}:∀ {ds:List (DataW H)},gj [(true,GG),(true,GY),(false,[.int .u8])] ds→(∃ d1 d2 d3,ds=[d1,d2,d3])∧∃ (rt n:Int) (cb:Bool) (cz:Int) (f:cX) (k:Nat),f.Rng∧k≤255∧rA [(true,GG),(true,GY),(false,[Ty.int .u8])] ds=[ke rt n cb cz,.agg f.av,.d (.int .u8 k)]
 | [d1,d2,d3],h=>by
  simp only[gj,and_true]at h
  obtain⟨h1,h2,h3⟩:=h
  obtain⟨rt,n,cb,cz,e1⟩:=ai6 h1
  obtain⟨f,e2,hf⟩:=ajI h2
  obtain⟨x3,e3,h3⟩:=tT h3
  obtain⟨k,rfl,hk⟩:=act h3
  refine⟨⟨_,_,_,rfl⟩,rt,n,cb,cz,f,k,hf,hk,?_⟩
  simp only[rA,e3,KV,e1,e2]
 | [],h=>by simp[gj]at h
 | [_],h=>by simp[gj]at h
 | [_,_],h=>by simp[gj]at h
 | _::_::_::_::_,h=>by simp[gj]at h
theorem Vd {H:Type}:∀ {ds:List (DataW H)},gj [(true,GG),(true,GY),(false,[.lst [.int .u8]])] ds→(∃ d1 d2 d3,ds=[d1,d2,d3])∧∃ (rt n:Int) (cb:Bool) (cz:Int) (f:cX) (l:List Nat),f.Rng∧(∀ x∈l,x≤255)∧rA [(true,GG),(true,GY),(false,[Ty.lst [.int .u8]])] ds=[ke rt n cb cz,.agg f.av,.d (.lst (ah l))]
 | [d1,d2,d3],h=>by
  simp only[gj,and_true]at h
  obtain⟨h1,h2,h3⟩:=h
  obtain⟨rt,n,cb,cz,e1⟩:=ai6 h1
  obtain⟨f,e2,hf⟩:=ajI h2
  obtain⟨x3,e3,h3⟩:=tT h3
  obtain⟨k,rfl,hk⟩:=ag5 h3
  refine⟨⟨_,_,_,rfl⟩,rt,n,cb,cz,f,k,hf,hk,?_⟩
  simp only[rA,e3,KV,e1,e2]
 | [],h=>by simp[gj]at h
 | [_],h=>by simp[gj]at h
 | [_,_],h=>by simp[gj]at h
 | _::_::_::_::_,h=>by simp[gj]at h
end Go.Vm
namespace Go.Vm
def Uh (P:Program) (vf:af) (f:FuncId):Bool:=am5 P vf f || (match vf.body with
 | .clone m=>Rw P m vf f
 | .late i d k a=>Z6 P i d k a vf f
 | _=>false)
def T.every (p:Nat→af→Bool):T→Bool
 | .leaf=>true
 | .node k v a b=>p k v && a.every p && b.every p
theorem T.look_every {p:Nat→af→Bool}:∀ {t:T}{f:Nat}{vf:af},t.every p=true→t.look f=some vf→p f vf=true
 | .leaf,_,_,_,h=>by simp[T.look]at h
 | .node k v a b,f,vf,he,h=>by
  simp only[T.every,Bool.and_eq_true]at he
  simp only[T.look]at h
  split at h
  ·rename_i hk
   rw[Nat.beq_eq]at hk
   simp only[Option.some.injEq]at h
   subst hk h
   exact he.1.1
  ·split at h
   ·exact T.look_every he.1.2 h
   ·exact T.look_every he.2 h
theorem aeh {P:Program}{vf:af}{f:FuncId}(h:Uh P vf f=true):ana P vf f:=by
 simp only[Uh,Bool.or_eq_true]at h
 rcases h with h | h
 ·unfold am5 at h
  split at h
  ·rename_i fn h1
   split at h
   ·rename_i c h2
    simp only[Bool.and_eq_true,Nat.ble_eq,bne_iff_ne,ne_eq]at h
    obtain⟨⟨⟨k1,k2⟩,k3⟩,k4⟩:=h
    exact⟨fn,c,h1,h2,k4,k2,k3,.inl (eD _ _ k1)⟩
   ·simp at h
  ·simp at h
 ·split at h
  ·rename_i m hb
   unfold Rw at h
   split at h
   ·rename_i fn h1
    split at h
    ·rename_i c h2
     simp only[Bool.and_eq_true,Nat.ble_eq,Nat.beq_eq,bne_iff_ne,ne_eq]at h
     obtain⟨⟨⟨⟨⟨⟨k1,k2⟩,k3⟩,k4⟩,k5⟩,k6⟩,k7⟩:=h
     exact⟨fn,c,h1,h2,k7,by omega,k3,.inr (.inl ⟨m,hb,k6,k5⟩)⟩
    ·simp at h
   ·simp at h
  ·rename_i i d k a hb
   unfold Z6 at h
   split at h
   ·rename_i fn h1
    split at h
    ·rename_i c h2
     simp only[Bool.and_eq_true,Nat.ble_eq,bne_iff_ne,ne_eq]at h
     obtain⟨⟨⟨k1,k2⟩,k3⟩,k4⟩:=h
     exact⟨fn,c,h1,h2,k4,k2,k3,.inr (.inr ⟨i,d,k,a,hb,k1⟩)⟩
    ·simp at h
   ·simp at h
  ·simp at h
theorem am3 {P:Program}{t:T}(h:t.every (fun f v=>Uh P v f)=true):yu P t.look:=fun f vf hv=>aeh (T.look_every (p:=fun f v=>Uh P v f) h hv)
end Go.Vm
end
