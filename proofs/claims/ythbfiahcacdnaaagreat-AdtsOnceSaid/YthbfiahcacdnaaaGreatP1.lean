import Derived.Lib.BytesEntry
import Derived.RangeFuncLeaves
import Derived.Orders
import GoSem.ClaimChange
import Derived.WalkKit
import Derived.ProofKit
import Derived.OpenShut
import Derived.JoinedCond
import Derived.ChangeStays
import Derived.ChangeBook
import Derived.Test.YthbfiahcacdnaaaGreatP0
set_option linter.unusedVariables false
set_option linter.unusedSimpArgs false
set_option linter.defProp false
set_option linter.unusedSectionVars false
noncomputable section
namespace Go.Vm
set_option maxHeartbeats 4000000
set_option maxRecDepth 100000
section
variable {P:Program}{g:Gh}{w:World}{t:F_}{O:Nat->Nat}{st st':St}{a:AV}{o:Oper}
def ar3:(Extern.findNext { (default:Func) with name := "internal/bytealg.IndexByte",origin := "" }).isNone=true:=by kernel_rfl
def asA {fn:Func}(h1:fn.name = "internal/bytealg.IndexByte")(h2:fn.origin = ""):Extern.findNext fn=none:=by
 have h:=ar3;unfold Extern.findNext at h⊢;have e:(List.lookup "internal/bytealg.IndexByte" Extern.allNextRows)=none:=by
  cases e:(List.lookup "internal/bytealg.IndexByte" Extern.allNextRows)<;>simp_all
 have e2:(List.lookup "" Extern.allNextRows)=none:=by
  cases e2:(List.lookup "" Extern.allNextRows)<;>simp_all
 grind
def asN {fn:Func}(h1:fn.name = "internal/bytealg.IndexByte"):Extern.find fn=some Extern.BytealgIndexByte.indexByte:=by
 unfold Extern.find;have e1:(List.lookup "internal/bytealg.IndexByte" Extern.allGenericRows).isNone=true:=by kernel_rfl
 have e2:(List.lookup "internal/bytealg.IndexByte" Extern.allTypedRows).isNone=true:=by kernel_rfl
 have e3:List.lookup "internal/bytealg.IndexByte" Extern.allRows=some Extern.BytealgIndexByte.indexByte:=by kernel_rfl
 grind [Option.isNone_iff_eq_none]
def afK:∀(l:AG_) (c:UInt8) (i:Nat),Kc l c.toNat i=if Lib.indexByte l c == -1 then -1 else Lib.indexByte l c+i
 |[],c,i=>by simp[Kc,Lib.indexByte]
 |b::l,c,i=>by
  have hp:Lib.indexByte l c=-1∨0<=Lib.indexByte l c:=by
   induction l<;>grind [Lib.indexByte]
  simp only[Kc,Lib.indexByte];by_cases h:b=c
  .simp_all
  .have hn:Nat.beq b.toNat c.toNat=false:=by
    grind [Nat.beq_eq,UInt8.toNat_inj]
   rw[afK l c (i+1)]
   grind
theorem aeN (ad:Addr)(cap:Nat)(ns:C_)(cv:Int)(hc:∀j u,(ns.map fun(n:Nat)=>Value.int .u8 (n:Int))[j]?=some u->w.cell? (ad.add j)=some u) :
  (Extern.BytealgIndexByte.indexByte #[.slice (some ad) ns.length cap,.int .u8 cv]).run P w=.ok (.int .i64 (Lib.indexByte (Lib.bytesOf (ns.map fun(n:Nat)=>(n:Int))) cv.toNat.toUInt8)) w:=by
 generalize hxs:ns.map (fun(n:Nat)=>(n:Int))=xs;have hl:=Lib.run_loadBytesX (P:=P) w xs ad .empty (λj x hj=>hc j _ (by
  grind))
 have hs:=Lib.run_indexByteString (P:=P) ⟨(Lib.bytesOf xs).toArray⟩ cv w;have he:(⟨ByteArray.empty.data++(Lib.bytesOf xs).toArray⟩:ByteArray)=⟨(Lib.bytesOf xs).toArray⟩:=by
  simp_all
 change Sem.run P (do
  let b<-Extern.Bytes.bytesOf (.slice (some ad) ns.length cap)
  let c<-Extern.Bytes.asByte (.int .u8 cv)
  match (List.range b.size).find? λi=>b[i]! == c with
  |some i=>pure (goInt i)
  |none=>pure (goInt (-1))) w=_
 change Sem.run P (do
  let b<-Extern.Bytes.bytesOf (.string ⟨(Lib.bytesOf xs).toArray⟩)
  let c<-Extern.Bytes.asByte (.int .u8 cv)
  match (List.range b.size).find? λi=>b[i]! == c with
  |some i=>pure (goInt i)
  |none=>pure (goInt (-1))) w=_ at hs
 grind [Extern.Bytes.bytesOf,Sem.run_bind,Result.andThen]
def avA {x c:Rd}(s:S P g w st t O)(h:ahC x c st=some (a,st'))(hc:bD P (.idxb x c) o.op=true) :
  fE P g w t O st' a ((execOp (ev t) o).run P w):=by
 obtain⟨dst,op,ty,pos,aft,gd⟩:=o;simp only[bD]at hc;split at hc
 .rename_i k;obtain⟨callee,as,ats⟩:=k;simp only[af]at hc;obtain⟨h1,h2⟩:=hc;split at h1
  .rename_i f hf;have hcal:callee=.value (.func f):=by
    unfold AB at hf
    grind
   subst hcal;unfold arp at h1;split at h1
   .rename_i fn hfn;simp only[af,beq_iff_eq]at h1;obtain⟨⟨hn1,hn2⟩,hn3⟩:=h1;obtain⟨x',c',has,hx,hcc⟩:∃x' c',as.toList=[x',c']∧cM x x'=true∧cM c c'=true:=by
     revert h2
     cases as.toList with
     |nil=>grind [dZ]
     |cons x' l=>cases l<;>grind [dZ]
    have has':as=#[x',c']:=Array.ext' has;obtain⟨va,vb,e,Oa,Ob,O',ra,rb,s',l,hk⟩:=Tc s hx hcc h;split at hk
    .rename_i r hr;obtain⟨rfl,rfl⟩:=hk;unfold asU at hr;split at hr
     .rename_i n;split at hr
      .rename_i xs hxs;split at hr
       .rename_i q hq;simp only[ae]at hr;subst hr;unfold indexByte at hq;split at hq
        .rename_i b hb;simp only[ae]at hq;subst hq;obtain⟨ns,rfl,rfl⟩:=Ii hb;have hl1:∀e∈ns.map (fun(n:Nat)=>[D.int .u8 (Int.ofNat n)]),e.length=1:=by
          simp_all
         obtain⟨ad,cap,news,hxv,hels⟩:=AF (st:=⟨e,st.hs⟩) s' hxs hl1 ra;have hcv:=zq rb rfl;have hargs:#[ev t x',ev t c']=#[Value.slice ad (ns.map (fun(n:Nat)=>[D.int .u8 (Int.ofNat n)])).length cap,.int .u8 n]:=u_;have hres:Kc (ns.map Nat.toUInt8) (n.toNat % 256) 0=Lib.indexByte (Lib.bytesOf (ns.map fun(n:Nat)=>(n:Int))) n.toNat.toUInt8:=by
          have h1:n.toNat % 256=(n.toNat.toUInt8).toNat:=s_;rw[h1,afK];have h2:Lib.bytesOf (ns.map fun(n:Nat)=>(n:Int))=ns.map Nat.toUInt8:=by
           simp[Lib.bytesOf]
          grind
         have hrun:(Extern.BytealgIndexByte.indexByte #[ev t x',ev t c']).run P w=.ok (.int .i64 (Kc (ns.map Nat.toUInt8) (n.toNat % 256) 0)) w:=by
          rw[hargs,hres]
          cases ad with
          |none =>
           have h0:=hels.nn rfl;have:ns=[]:=ay u_;subst this;exact Lib.run_indexByteNil w _ _ _
          |some ad =>
           have hnews:news=ns.map fun(n:Nat)=>Value.int .u8 (n:Int):=by
            apply dK;intro j;rcases bH j ns.length with hj|hj
            .have hd:(ns.map (fun(n:Nat)=>[D.int .u8 (Int.ofNat n)])).flatten[j]?=some (D.int .u8 (Int.ofNat ns[j])):=by grind [Yq]
             obtain⟨u,hu,hr⟩:=hels.rd j _ hd
             cases hr
             simp_all
            grind [CY.len]
           grind [aeN,CY.cell]
         refine .flat s (x:=.int .i64 (Kc (ns.map Nat.toUInt8) (n.toNat % 256) 0)) ?_ (by simp only[RV];exact⟨.int _ _,λ_=>trivial⟩) s' λb=>by grind
         simp only[execOp,resolve,aS,ev,Deferred.ofValue,dA,bp,invoke]
         simp_all [run_callFunc_extern,asA,asN]
        simp_all
       simp_all
      simp_all
     simp_all
    simp_all
   simp_all
  simp_all
 simp_all
end
abbrev FR (ro:I_):Fence:={ Fence.wide with round:=ro }
theorem abO (ro:I_)(n:Nat):(FR ro).room n:=λ_ h=>by grind [Fence.wide]
def Pp {ro:I_}{n:Nat}{P:Program}{f:FuncId}{args:F_}{w:World}{R:Ending->World->Prop}(h:CallsIn (FR none) n P f args w R):CallsIn (FR ro) n P f args w R:=h
section
variable {P:Program}{g:Gh}{w:World}{t:F_}{O:Nat->Nat}{st st':St}{a:AV}{o:Oper}
structure Ca (P:Program)(g:Gh)(w:World)(t:F_)(O:Nat->Nat)(st':St)(a:AV)(x:Value)(w':World)(g':Gh)(Oa O':Nat->Nat):Prop where
 val:RV g' w' a x Oa
 st:S P g' w' st' t O'
 ext:bL g w g' w' λb=>O b≠0
 le:∀b,Oa b+O' b<=1
 old:∀b,b<w.heap.size->Oa b+O' b<=O b
 hi:∀b,Oa b≠0->b<w'.heap.size
def OpW (ro:I_)(P:Program)(g:Gh)(w:World)(t:F_)(O:Nat->Nat)(st':St)(a:AV)(o:Oper):Prop :=
 ∀(ds:List Deferred) (next:Act->World->Prop) (Q:Exit->Act->World->Prop),(∀x w' g' Oa O',Ca P g w t O st' a x w' g' Oa O'->next (Act.put ⟨t,ds⟩ o.dst x) w')->
  o.uponIn (FR ro) 0 P ⟨t,ds⟩ next Q ((execOp (ev t) o).run P w)
def fE.opW {ro:I_}(h:fE P g w t O st' a ((execOp (ev t) o).run P w)):OpW ro P g w t O st' a o:=by
 obtain⟨x,w',g',Oa,O',k⟩:=h;intro ds next Q hn;have hx:=hn x w' g' Oa O' ⟨k.val,k.st,k.ext,k.le,k.old,k.hi⟩;rcases k.run with hr|⟨hr,rfl⟩
 .rw[hr];exact hx
 .rw[hr];exact hx
abbrev wh (t:F_)(dst:I_)(x:Value):F_:=(Act.put ⟨t,[]⟩ dst x).tmps
theorem ZR (t:F_)(ds:List Deferred)(dst:I_)(x:Value):Act.put ⟨t,ds⟩ dst x=⟨wh t dst x,ds⟩:=by cases dst<;>rfl
theorem pK (t:F_)(dst:I_)(x:Value):(wh t dst x).size=t.size:=by cases dst<;>simp[wh,Act.put]
structure gI (P:Program)(g:Gh)(w:World)(t:F_)(O:Nat->Nat)(st':St)(t':F_)(w':World)(g':Gh)(O':Nat->Nat):Prop where
 st:S P g' w' st' t' O'
 ext:bL g w g' w' λb=>O b≠0
 old:∀b,b<w.heap.size->O' b<=O b
 size:t'.size=t.size
def gI.refl (s:S P g w st t O):gI P g w t O st t w g O:=⟨s,.refl _ _ _,λ_ _=>ak _,rfl⟩
def gI.trans {t1 t2:F_}{w1 w2:World}{g1 g2:Gh}{O1 O2:Nat->Nat}{st1 st2:St}(h1:gI P g w t O st1 t1 w1 g1 O1)(h2:gI P g1 w1 t1 O1 st2 t2 w2 g2 O2) :
  gI P g w t O st2 t2 w2 g2 O2 where
 st:=h2.st
 ext:=h1.ext.trans h2.ext λb hb h=>by grind [old]
 old b hb:=aM (h2.old b (ba hb h1.ext.size)) (h1.old b hb)
 size:=h2.size.trans h1.size
def aiu {st1:St}{x:Value}{w':World}{g1:Gh}{Oa O1:Nat->Nat}(k:Ca P g w t O st1 a x w' g1 Oa O1){dst:I_}(hd:∀d,dst=some d->d<t.size)(th:S_) :
  ∃g' O',gI P g w t O (cP dst (firm (dS th a st1.hs).1) ⟨st1.env,(dS th a st1.hs).2⟩) (wh t dst x) w' g' O':=by
 obtain⟨g2,Ov2,O2,r2,s2,x2,l2⟩:=Lm (P:=P) (t:=t) th (env:=st1.env) (hs:=st1.hs) k.st k.val k.le k.hi;have hle2:∀b,Ov2 b+O2 b<=1:=λb=>aM (l2 b) (k.le b)
 obtain⟨g3,r3,s3,x3⟩:=aij s2 r2 hle2;have hext:bL g w g3 w' λb=>O b≠0:=(k.ext.trans x2 (λ_ _ h=>h.elim)).trans x3 λb hb h=>by grind [Ca.old]
 cases dst with
 |none=>exact⟨g3,O2,s3,hext,λb hb=>by grind [Ca.old],rfl⟩
 |some d =>
  obtain⟨O4,s4,l4⟩:=s3.setTmp (hd d rfl) r3 hle2 λb hb=>by
   by_cases h:Oa b=0
   .exact k.st.hi b (by grind)
   .exact k.hi b h
  exact⟨g3,O4,s4,hext,λb hb=>by grind [Ca.old],pK _ _ _⟩
def S.split (s:S P g w st t O):∃Oe Oh,kr g w st.env t Oe∧S P g w ⟨[],st.hs⟩ #[] Oh∧∀b,O b=Oe b+Oh b:=by
 obtain⟨Oe,Oh,re,rh,ho⟩:=s.parts;exact⟨Oe,Oh,re,⟨List.Pairwise.nil,s.sh,⟨zero,Oh,λ_=>rfl,rh,λb=>by simp⟩,λb=>by have:=s.le b;grind,λb hb=>s.hi b u_,s.fresh,s.pmlt⟩,ho⟩
theorem S.join {e:aV}{hs:HS}{Oe Oh:Nat->Nat}(he:cU e)(re:kr g w e t Oe)(s:S P g w ⟨[],hs⟩ #[] Oh)(hle:∀b,Oe b+Oh b<=1)(hhi:∀b,Oe b≠0->b<w.heap.size) :
  S P g w ⟨e,hs⟩ t λb=>Oe b+Oh b:=by
 obtain⟨O0,Oh',r0,rh,ho⟩:=s.parts;have h0:∀b,Oh b=Oh' b:=λb=>by have:=ho b;have:O0 b=0:=r0 b;omega
 exact⟨he,s.sh,⟨Oe,Oh',re,rh,λb=>by simp_all⟩,hle,λb hb=>by
  grind [hi],s.fresh,s.pmlt⟩
theorem HV (t:F_)(ds:List Deferred):(⟨t,ds⟩:Act).eval=ev t:=by
 funext x;cases x<;>rfl
theorem Pg {ro:I_}(t:F_)(ds:List Deferred)(h:∀c,o.op≠.defer c):o.semAt ro (⟨t,ds⟩:Act).eval=execOp (ev t) o:=by
 grind [Oper.semAt_eq,HV]
end
section
variable {P:Program}{g:Gh}{w:World}{t:F_}{O:Nat->Nat}{st st':St}{o:Oper}{ops:Array Oper}
theorem arm (s:S P g w st t O){gd:Option (Nat×Bool)}(hg:EV ops gd o.guard=true) :
  (gd=none->Region.wanted o (yielded ops t)=true)∧
  ∀sl want,gd=some (sl,want)->(∀b,get st.env sl=some (B_ b)->Region.wanted o (yielded ops t)=(b == want))∧(get st.env sl=some (.tup [])->Region.wanted o (yielded ops t)=false):=by
 cases gd with
 |none =>
  grind [Region.wanted,EV]
 |some p =>
  obtain⟨sl,want⟩:=p
  cases hog:o.guard with
  |none=>grind [EV]
  |some q =>
   rw[hog]at hg;simp only[EV,af,beq_iff_eq]at hg;obtain⟨rfl,h2⟩:=hg;refine⟨λh=>by simp at h,λsl' want' h=>?_⟩;obtain⟨rfl,rfl⟩:=h;obtain⟨Oe,Oh,re,rh,ho⟩:=s.parts;split at h2
   .split at h2
    .rename_i d hd;rw[aB]at h2;subst h2;refine⟨λb hb=>?_,λhb=>?_⟩
     .obtain⟨O1,⟨hlt,q⟩,_⟩:=RL.get re hb;have hv:t.getD d undef=.bool b:=Bg q rfl
      simp_all [Region.wanted,yielded]
     .obtain⟨O1,⟨hlt,q⟩,_⟩:=RL.get re hb;obtain⟨xs,hv,hxs,_⟩:=q
      simp_all [Region.wanted,yielded]
    simp_all
   simp_all
end
def gG (P:Program)(g:Gh)(w:World)(O:Nat->Nat)(v:AV)(hs':HS):Ending->World->Prop
 |.returned x,w'=>∃g' Or Oh,RV g' w' v x Or∧S P g' w' ⟨[],hs'⟩ #[] Oh∧bL g w g' w' (λb=>O b≠0)∧(∀b,Or b+Oh b<=1)∧(∀b,b<w.heap.size->Or b+Oh b<=O b)∧
   ∀b,Or b≠0->b<w'.heap.size
 |_,_=>False
def aom (P:Program)(f:FuncId):Prop:=∃fn,P.funcs[f]?=some fn∧fn.body.isSome=true∧fn.name≠ "runtime.NumGoroutine"
def iE (P:Program)(r:dC):Prop :=
 ∀{f:FuncId}{args:D_}{hs:HS}{v:AV}{hs':HS},r.call f args hs=some (v,hs')->aom P f∧
  ∀{g:Gh}{w:World}{xs:N_}{Oa Oh:Nat->Nat},RVs g w args xs Oa->S P g w ⟨[],hs⟩ #[] Oh->(∀b,Oa b+Oh b<=1)->(∀b,Oa b≠0->b<w.heap.size)->
   CallsIn (FR none) 0 P f xs.toArray w (gG P g w (λb=>Oa b+Oh b) v hs')
section
variable {P:Program}{g:Gh}{w:World}{t:F_}{O:Nat->Nat}{st st':St}{a:AV}{o:Oper}{r:dC}
def HB {e:aV}{hs hs':HS}{Ov Oe Oh:Nat->Nat}{x:Value}{w':World}{v:AV}(he:cU e)(re:kr g w e t Oe)(hle:∀b,Ov b+(Oe b+Oh b)<=O b)(s0:S P g w st t O)
  (h:gG P g w (λb=>Ov b+Oh b) v hs' (.returned x) w'):∃g' Oa O',Ca P g w t O ⟨e,hs'⟩ v x w' g' Oa O':=by
 obtain⟨g',Or,Oh',h1,h2,h3,h4,h5,h6⟩:=h;have hle1:∀b,Ov b+(Oe b+Oh b)<=1:=λb=>aM (hle b) (s0.le b)
 have re':=kr.ext h3 re λb hb h=>by grind
 have hoe:∀b,¬b<w.heap.size->Oe b=0:=λb hb=>by
  grind [S.hi]
 have hsum:∀b,Or b+(Oe b+Oh' b)<=1:=λb=>by
  grind
 have s':=S.join he re' h2 (λb=>by grind) λb hb=>ba (s0.hi b d_) h3.size
 refine⟨g',Or,_,h1,s',h3.mono λb _ hb=>by grind,hsum,λb hb=>?_,h6⟩
 grind
def Vo {ro:I_}{f:FuncId}{args:F_}{e:aV}{hs hs':HS}{Ov Oe Oh:Nat->Nat}{v:AV}(he:cU e)(re:kr g w e t Oe)(hle:∀b,Ov b+(Oe b+Oh b)<=O b)(s0:S P g w st t O)
  (hrun:(execOp (ev t) o).run P w=.ok (.enter f args) w)(hk:CallsIn (FR none) 0 P f args w (gG P g w (λb=>Ov b+Oh b) v hs')):OpW ro P g w t O ⟨e,hs'⟩ v o:=by
 intro ds next Q hn
 rw[hrun,Oper.uponIn_enter];refine⟨λh=>by grind [Fence.wide],Pp (hk.mono λen w' hp=>?_)⟩
 cases en with
 |returned x =>
  obtain⟨g',Oa,O',k⟩:=HB (hs:=hs) he re hle s0 hp
  grind
 |panicked c=>exact hp.elim
 |outgrown=>exact hp.elim
theorem xd {f:FuncId}(h:aom P f)(args:F_):(callFunc f args).run P w=.ok (.enter f args) w:=by
 obtain⟨fn,h1,h2,h3⟩:=h;have h2':¬fn.body=none:=d_
 simp_all [callFunc]
def K4 {c:Callee}{f:FuncId}(h:(match AB c with|some g=>Nat.beq f g|none=>false)=true):c=.value (.func f):=by
 split at h
 .rename_i g hg;rw[aB]at h;unfold AB at hg
  grind
 simp_all
def ar6 {ro:I_}{f:FuncId}{args:U_}(hr:iE P r)(s:S P g w st t O)(h:EC r f args st=some (a,st'))(hc:bD P (.calli f args) o.op=true) :
  OpW ro P g w t O st' a o:=by
 obtain⟨dst,op,ty,pos,aft,gd⟩:=o;simp only[bD]at hc;split at hc
 .rename_i c;simp only[af]at hc;obtain⟨h1,h2⟩:=hc;obtain⟨callee,as,ats⟩:=c;have:=K4 h1;subst this;unfold EC at h;split at h
  .rename_i vs e hrd;split at h
   .rename_i v hs' hcall;obtain⟨rfl,rfl⟩:=h;obtain⟨Ov,O',rvs,s',l⟩:=s.rdAll h2 hrd;obtain⟨Oe,Oh,re,sh,ho⟩:=s'.split;obtain⟨hfn,hk⟩:=hr hcall;have hle:∀b,Ov b+(Oe b+Oh b)<=O b:=λb=>by simp_all
    have hk:=hk rvs sh (λb=>by have:=hle b;have:=s.le b;omega) (λb hb=>s.hi b d_);refine Vo (hs:=st.hs) s'.se re hle s ?_ hk;simp only[execOp,resolve,aS,ev,Deferred.ofValue,dA,bp,invoke];rw[xd hfn]
    congr 2
    grind
   simp_all
  simp_all
 simp_all
end
section
variable {P:Program}{g:Gh}{w:World}{t:F_}{O:Nat->Nat}{st st':St}{a:AV}{o:Oper}{r:dC}
theorem RD.mono {pm pm':Nat->Nat->Prop}(h:∀b o,pm b o->pm' b o){c:D}{x:Value}(r:RD w pm c x):RD w pm' c x:=by
 induction r with
 |int k n=>exact .int k n
 |bool b=>exact .bool b
 |str s=>exact .str s
 |nil a cap=>exact .nil a cap
 |lst xs b off m cap u hm hcap hl hc hr ih=>exact .lst xs b off m cap u hm hcap hl (λj c hj=>⟨(hc j c hj).1,h _ _ (hc j c hj).2⟩) (λj c hj=>ih j c hj)
def ja.mono {pm pm':Nat->Nat->Prop}(h:∀b o,pm b o->pm' b o){cs:Y_}{b off:Nat}(r:ja w pm cs b off):ja w pm' cs b off:=λj c hj=>by
 obtain⟨u,hu,hr⟩:=r j c hj
 grind [RD.mono]
theorem RD.flat {pm pm':Nat->Nat->Prop}{c:D}{x:Value}(hf:lL c=true)(r:RD w pm c x):RD w pm' c x:=by
 cases r with
 |int k n=>exact .int k n
 |bool b=>exact .bool b
 |str s=>exact .str s
 |nil a cap=>exact .nil a cap
 |lst xs=>simp[lL]at hf
def Gh.view (g:Gh)(w:World)(K:Nat->Prop):Gh where
 obj _:=none
 base _:=0
 esz _:=0
 bsz _:=0
 pm b o:=g.pm b o∨(K b∧b<w.heap.size)
def azt (s:S P g w st t O)(K:Nat->Prop):S P (g.view w K) w ⟨[],⟨[],0⟩⟩ #[] zero :=
 ⟨List.Pairwise.nil,List.Pairwise.nil,⟨zero,zero,λ_=>rfl,λ_=>rfl,λ_=>rfl⟩,λ_=>by simp,λb hb=>by simp at hb,λ_ _=>rfl,λb o h=>h.elim (s.pmlt b o) λh=>h.2⟩
def Vj (s:S P g w st t O){K:Nat->Prop}{v d:AV}{x:Value}{Ov:Nat->Nat}(h:viewOne st.hs.heap v=some d)(hK:vg v=true->∀b,O b≠0->K b)(rv:RV g w v x Ov) :
  RV (g.view w K) w d x zero:=by
 have hm:∀b o,g.pm b o->(g.view w K).pm b o:=λb o h=>.inl h
 cases v<;>simp only[viewOne,reduceCtorEq]at h
 .grind [RV,RD.mono]
 .grind [RV]
 .rename_i p m xs
  cases p
  .have:=RV.share _ _ _ rv
   grind [share,RV,RD.mono]
  simp_all
 .rename_i id off len;split at h
  .rename_i xs hx;simp only[ae]at h;subst h;simp only[elems]at hx;split at hx
   .rename_i zs hzs;split at hx
    .rename_i hb;rw[bj]at hb;simp only[ae]at hx;subst hx;have hsl:(Vm.sub zs off len).length=len:=j6 hb;simp only[RV]at rv⊢;refine⟨?_,λ_=>trivial⟩;rcases rv.1 with ⟨rfl,ad,rfl⟩|⟨b,cap,hob,rfl,hlc,hcap⟩
     .exact .nil _ _
     .obtain⟨Oe,Oh,re,rh,ho⟩:=s.parts;have key:∀(m:Nat),0<m->g.esz id=m->(∀e∈zs,e.length=m)->ja w g.pm zs.flatten b (g.base id)->O b≠0->RD w (g.view w K).pm (.lst (Vm.sub zs off len)) (.slice (some ⟨b,g.base id+off*g.esz id,none⟩) len cap):=by
       intro m hm0 hes hl hc hO;have hsubl:=H5 hl off len;have:=ja.rd (w:=w) (pm:=(g.view w K).pm) (xs:=Vm.sub zs off len) (b:=b) (off:=g.base id+off*g.esz id) (cap:=cap) hm0 o_ hsubl (by
        rw[nK hl,hes];exact(hc.sub _ _).mono hm) (λj _=>.inr ⟨hK rfl b hO,s.hi b hO⟩)
       simp_all
      unfold objElems at hzs;split at hzs
      .rename_i m' ys hg;obtain⟨O1,q,hO1⟩:=RL.get rh hg;rcases q with ⟨rfl,_⟩|⟨b',c,el,g1,g2,g3,g4,g5,g6,g7,g8,g9,g10⟩
       .have h0:len=0:=u_;subst h0;exact .nil _ _
       grind [Ak]
      .rename_i cs hg;split at hzs
       .rename_i ds hds;simp only[ae]at hzs;subst hzs;obtain⟨O1,q,hO1⟩:=RL.get rh hg;obtain⟨b',c,el,O2,g1,g2,g3,g4,g5,g6,g7,g8⟩:=q;obtain⟨h1,h2,h3⟩:=PI hds g6;refine key 1 o_ g3 (aiQ ds) ?_ (by grind [Ak]);rw[Rj,g2];intro j d hj
        grind [gR]
       simp_all
      simp_all
    simp_all
   simp_all
  simp_all
def UY (s:S P g w st t O){K:Nat->Prop}:∀{vs ds:D_}{xs:N_}{Ov:Nat->Nat},viewAll st.hs.heap vs=some ds->(vs.any vg=true->∀b,O b≠0->K b)->RVs g w vs xs Ov->
  RVs (g.view w K) w ds xs zero
 |[],ds,xs,Ov,h,hK,rv=>by
  grind [viewAll,RVs]
 |v::vs,ds,xs,Ov,h,hK,rv=>by
  simp only[viewAll]at h;split at h
  .simp at h
  .rename_i d hd;split at h
   .simp at h
   .rename_i ds' hds;simp only[ae]at h;subst h;obtain⟨x,ys,O1,O2,rfl,r1,r2,hs⟩:=rv;exact⟨x,ys,zero,zero,rfl,Vj s hd (λh=>hK (by simp[h])) r1,UY s hds (λh=>hK u_) r2,λ_=>rfl⟩
def ajk (s:S P g w st t O){K:Nat->Prop}{v d:AV}{x:Value}{Ov:Nat->Nat}(h:viewArg st.hs.heap v=some d)(hK:tz v=true->∀b,O b≠0->K b)(rv:RV g w v x Ov) :
  RV (g.view w K) w d x zero:=by
 cases v<;>simp only[viewArg]at h<;>try exact Vj s h (λhh=>hK hh) rv
 split at h
 .rename_i xs hx;simp only[ae]at h;subst h;obtain⟨ys,e,r⟩:=rv;exact⟨ys,e,UY s hx (λhh=>hK hh) r⟩
 simp_all
def Si (s:S P g w st t O){K:Nat->Prop}:∀{vs ds:D_}{xs:N_}{Ov:Nat->Nat},viewArgs st.hs.heap vs=some ds->(vs.any tz=true->∀b,O b≠0->K b)->RVs g w vs xs Ov->
  RVs (g.view w K) w ds xs zero
 |[],ds,xs,Ov,h,hK,rv=>by
  grind [viewArgs,RVs]
 |v::vs,ds,xs,Ov,h,hK,rv=>by
  simp only[viewArgs]at h;split at h
  .simp at h
  .rename_i d hd;split at h
   .simp at h
   .rename_i ds' hds;simp only[ae]at h;subst h;obtain⟨x,ys,O1,O2,rfl,r1,r2,hs⟩:=rv;exact⟨x,ys,zero,zero,rfl,ajk s hd (λh=>hK (by simp[h])) r1,Si s hds (λh=>hK u_) r2,λ_=>rfl⟩
end
section
variable {P:Program}{g:Gh}{w:World}{t:F_}{O:Nat->Nat}{st st':St}{a:AV}{o:Oper}{r:dC}
def pX:AV->Bool
 |.d _|.nl|.own _ _ _=>true
 |_=>false
def sf:AV->Bool
 |.agg cs=>cs.all pX
 |v=>pX v
def Jx:AV->Bool
 |.tup vs=>vs.all sf
 |v=>sf v
def ZC (P:Program)(g:Gh)(w:World)(O:Nat->Nat)(n:Nat)(x:Value)(Ov:Nat->Nat)(r:AV×am):Prop :=
 ∃Ov' O',RV g w r.1 x Ov'∧S P g w ⟨[],⟨r.2,n⟩⟩ #[] O'∧∀b,Ov' b+O' b<=Ov b+O b
def azm (P:Program)(g:Gh)(w:World)(O:Nat->Nat)(n:Nat)(xs:N_)(Ov:Nat->Nat)(r:D_×am):Prop :=
 ∃Ov' O',RVs g w r.1 xs Ov'∧S P g w ⟨[],⟨r.2,n⟩⟩ #[] O'∧∀b,Ov' b+O' b<=Ov b+O b
def ZQ {h:am}{n:Nat}(s:S P g w ⟨[],⟨h,n⟩⟩ #[] O){v:AV}{x:Value}{Ov:Nat->Nat}{r:AV×am}(hr:jF h v=some r)(rv:RV g w v x Ov) :
  ZC P g w O n x Ov r∧pX r.1=true:=by
 have triv:∀v,RV g w v x Ov->ZC P g w O n x Ov (v,h):=λv rv=>⟨Ov,O,rv,s,λ_=>ak _⟩
 cases v<;>simp only[jF,reduceCtorEq]at hr
 .simp only[ae]at hr;subst hr;exact⟨triv _ rv,rfl⟩
 .simp only[ae]at hr;subst hr;exact⟨triv _ rv,rfl⟩
 .simp only[ae]at hr;subst hr;exact⟨triv _ rv,rfl⟩
 .rename_i id off len;split at hr
  .rename_i m xs hg;split at hr
   .rename_i hb;rw[bj]at hb;simp only[ae]at hr;subst hr;refine⟨?_,rfl⟩;obtain⟨Oe,Oh,re,rh,ho⟩:=s.parts;obtain⟨O1,O2,q,r2,hs⟩:=RL.take rh hg;have hle2:∀b,Oe b+O2 b<=O b:=λb=>by grind
    have s2:S P g w ⟨[],⟨del h id,n⟩⟩ #[] (λb=>Oe b+O2 b) :=
     ⟨s.se,s.sh.del id,⟨Oe,O2,re,r2,λ_=>rfl⟩,λb=>aM (hle2 b) (s.le b),λb hb=>s.hi b d_,s.fresh,s.pmlt⟩
    have hsub:(Vm.sub xs off len).length=len:=j6 hb;have emp:len=0->(∃a,x=.slice a 0 0)->RV g w (.own true m (Vm.sub xs off len)) x zero:=by
     grind [RV,Ds]
    rcases rv with ⟨h0,h⟩|⟨b,cap,hob,rfl,hlc,hcap⟩
    .exact⟨zero,_,emp h0 h,s2,λb=>by simp_all⟩
    .rcases q with ⟨rfl,g1,g2,g3,_⟩|⟨b',c,el,g1,g2,g3,g4,g5,g6,g7,g8,g9,g10⟩
     .have hl0:len=0:=u_;have hc0:cap=0:=by
       grind [Nat.mul_eq_zero]
      subst hl0 hc0;exact⟨zero,_,emp rfl ⟨_,rfl⟩,s2,λb=>by simp_all⟩
     .rw[hob]at g1;simp only[ae]at g1;subst g1;refine⟨one b,_,?_,s2,λy=>?_⟩
      .refine .inr ⟨b,g.base id+off*m,cap,c,el,u_,o_,g3,H5 g7 off len,g4,?_,?_,λo ho=>absurd ho (g9 o),λh=>by simp at h,rfl⟩
       .grind [Nat.add_mul]
       simp_all [nK,ja.sub]
      grind
   simp_all
  simp_all
def Lv {n:Nat}{f:am->AV->AF_}{fs:am->D_->Option (D_×am)}{p:AV->Bool}
  (hf:∀{h:am}{O:Nat->Nat},S P g w ⟨[],⟨h,n⟩⟩ #[] O->∀{v:AV}{x:Value}{Ov:Nat->Nat}{r:AV×am},f h v=some r->RV g w v x Ov->ZC P g w O n x Ov r∧p r.1=true)
  (hnil:∀h,fs h []=some ([],h))(hcons:∀h v vs r,fs h (v::vs)=some r->∃v' h' vs' h'',f h v=some (v',h')∧fs h' vs=some (vs',h'')∧r=(v'::vs',h'')) :
  ∀{vs:D_}{h:am}{O:Nat->Nat},S P g w ⟨[],⟨h,n⟩⟩ #[] O->∀{xs:N_}{Ov:Nat->Nat}{r:D_×am},fs h vs=some r->RVs g w vs xs Ov->azm P g w O n xs Ov r∧r.1.all p=true
 |[],h,O,s,xs,Ov,r,hr,rv=>by
  rw[hnil]at hr;simp only[ae]at hr;subst hr;exact⟨⟨Ov,O,rv,s,λ_=>ak _⟩,rfl⟩
 |v::vs,h,O,s,xs,Ov,r,hr,rv=>by
  obtain⟨v',h',vs',h'',e1,e2,rfl⟩:=hcons _ _ _ _ hr;obtain⟨x,ys,O1,O2,rfl,r1,r2,hs⟩:=rv;obtain⟨⟨Ov1,O3,q1,s1,l1⟩,p1⟩:=hf s e1 r1;obtain⟨⟨Ov2,O4,q2,s2,l2⟩,p2⟩:=Lv hf hnil hcons s1 e2 r2;refine⟨⟨λb=>Ov1 b+Ov2 b,O4,?_,s2,λb=>by grind⟩,u_⟩
  grind [RVs]
def Zz {h:am}{n:Nat}{O:Nat->Nat}(s:S P g w ⟨[],⟨h,n⟩⟩ #[] O){v:AV}{x:Value}{Ov:Nat->Nat}{r:AV×am}(hr:fU h v=some r)(rv:RV g w v x Ov) :
  ZC P g w O n x Ov r∧sf r.1=true:=by
 have base:∀{v:AV},RV g w v x Ov->jF h v=some r->ZC P g w O n x Ov r∧sf r.1=true:=λrv hr=>by
  obtain⟨h1,h2⟩:=ZQ s hr rv;refine⟨h1,?_⟩;obtain⟨v',h'⟩:=r
  cases v'<;>first|exact h2|grind [pX]
 cases v<;>simp only[fU]at hr<;>try exact base rv hr
 split at hr
 .rename_i vs' h' hx;simp only[ae]at hr;subst hr;obtain⟨ys,e,rr⟩:=rv;obtain⟨⟨Ov1,O1,q1,s1,l1⟩,p1⟩:=Lv (f:=jF) (fs:=sO) (p:=pX) ZQ (λ_=>rfl) (λh v vs r hr=>by
   grind [sO]) s hx rr
  exact⟨⟨Ov1,O1,by grind [RV],s1,l1⟩,p1⟩
 simp_all
def anA {h:am}{n:Nat}(s:S P g w ⟨[],⟨h,n⟩⟩ #[] O){v r:AV}{x:Value}{Ov:Nat->Nat}(hr:gS h v=some r)(rv:RV g w v x Ov) :
  ∃u Ov',r=iK u∧RV g w u x Ov'∧(∀b,Ov' b<=Ov b+O b)∧Jx u=true:=by
 have base:∀{v:AV},RV g w v x Ov->(match fU h v with|some (x,_)=>some (iK x)|none=>none)=some r->∃u Ov',r=iK u∧RV g w u x Ov'∧(∀b,Ov' b<=Ov b+O b)∧Jx u=true:=λrv hr=>by
  split at hr
  .rename_i u h' hu;simp only[ae]at hr;obtain⟨⟨Ov',O',q,_,l⟩,p⟩:=Zz s hu rv;refine⟨u,Ov',hr.symm,q,λb=>by grind,?_⟩
   cases u<;>first|exact p|grind [sf,pX]
  simp_all
 cases v<;>simp only[gS]at hr<;>try exact base rv hr
 split at hr
 .rename_i vs' h' hx;simp only[ae]at hr;obtain⟨ys,e,rr⟩:=rv;obtain⟨⟨Ov1,O1,q1,s1,l1⟩,p1⟩:=Lv (f:=fU) (fs:=rH) (p:=sf) Zz (λ_=>rfl) (λh v vs r hr=>by
   grind [rH]) s hx rr
  exact⟨.tup vs',Ov1,hr.symm,by grind [RV],λb=>by grind,p1⟩
 simp_all
theorem PF {g2:Gh}{v:AV}{x:Value}{Ov:Nat->Nat}(hp:pX v=true)(hf:jg v=true)(rv:RV g w v x Ov)(hn:∀b,Ov b≠0->∀o,¬g2.pm b o):RV g2 w (mT v) x Ov:=by
 cases v<;>simp only[pX,ao]at hp
 .grind [RV,mT,RD.flat,jg]
 .grind [RV,mT]
 .simp only[jg]at hf;rcases rv with h|⟨b,off,cap,c,el,rfl,hcap,hm,hl,hb,hsz,hrc,hpm,hpp,rfl⟩
  .exact .inl h
  .refine .inr ⟨b,off,cap,c,el,rfl,hcap,hm,hl,hb,hsz,λj d hj=>?_,λo ho=>absurd ho (hn b s_ o),λh=>by simp at h,rfl⟩;obtain⟨u,hu,hr⟩:=hrc j d hj
   grind [RD.flat]
def GT {g2:Gh}{f:AV->AV}{p q:AV->Bool}(hf:∀{v:AV}{x:Value}{Ov:Nat->Nat},p v=true->q v=true->RV g w v x Ov->(∀b,Ov b≠0->∀o,¬g2.pm b o)->RV g2 w (f v) x Ov) :
  ∀{vs:D_}{xs:N_}{Ov:Nat->Nat},vs.all p=true->vs.all q=true->RVs g w vs xs Ov->(∀b,Ov b≠0->∀o,¬g2.pm b o)->RVs g2 w (vs.map f) xs Ov
 |[],xs,Ov,_,_,rv,_=>by grind [RVs]
 |v::vs,xs,Ov,hp,hq,rv,hn=>by
  simp only[gF,af]at hp hq;obtain⟨x,ys,O1,O2,rfl,r1,r2,hs⟩:=rv;exact⟨x,ys,O1,O2,rfl,hf hp.1 hq.1 r1 (λb hb=>hn b u_),GT hf hp.2 hq.2 r2 (λb hb=>hn b u_),hs⟩
def apg (v:AV):(∃cs,v=.agg cs)∨(pE v=mT v∧sf v=pX v∧kU v=jg v):=by
 cases v<;>first|exact .inl ⟨_,rfl⟩|exact .inr ⟨rfl,rfl,rfl⟩
def aqh (v:AV):(∃cs,v=.tup cs)∨(pW v=pE v∧Jx v=sf v∧jB v=kU v):=by
 cases v<;>first|exact .inl ⟨_,rfl⟩|exact .inr ⟨rfl,rfl,rfl⟩
theorem aac {g2:Gh}{v:AV}{x:Value}{Ov:Nat->Nat}(hp:sf v=true)(hf:kU v=true)(rv:RV g w v x Ov)(hn:∀b,Ov b≠0->∀o,¬g2.pm b o):RV g2 w (pE v) x Ov:=by
 rcases apg v with ⟨cs,rfl⟩|⟨e1,e2,e3⟩
 .obtain⟨xs,e,rr⟩:=rv;exact⟨xs,e,GT PF hp hf rr hn⟩
 grind [PF]
theorem amQ {g2:Gh}{v:AV}{x:Value}{Ov:Nat->Nat}(hp:Jx v=true)(hf:jB v=true)(rv:RV g w v x Ov)(hn:∀b,Ov b≠0->∀o,¬g2.pm b o):RV g2 w (pW v) x Ov:=by
 rcases aqh v with ⟨cs,rfl⟩|⟨e1,e2,e3⟩
 .obtain⟨xs,e,rr⟩:=rv;exact⟨xs,e,GT aac hp hf rr hn⟩
 grind [aac]
def ac6 {g2:Gh}{v:AV}{x:Value}{Ov:Nat->Nat}(hp:pX v=true)(rv:RV g w v x Ov)(hn:∀b,Ov b≠0->∀o,¬g2.pm b o):∃Ov',RV g2 w (Ya v) x Ov'∧∀b,Ov' b<=Ov b:=by
 unfold Ya;split
 .rename_i hf;exact⟨Ov,PF hp hf rv hn,λ_=>ak _⟩
 .split
  .rename_i n hl;refine⟨zero,?_,λ_=>eG _⟩;simp only[RV];refine⟨?_,λ_=>trivial⟩
   cases v with
   |d c =>
    cases c with
    |lst xs =>
     simp only[lenOf,ae]at hl;have rd:=rv.1
     cases rd
     all_goals simp_all
    |_=>simp[lenOf]at hl
   |nl =>
    grind [lenOf,RV]
   |own p m xs =>
    grind [lenOf,RV,Ds]
   |_=>grind [pX]
  .exact⟨zero,by simp[RV,zero],λ_=>eG _⟩
def I2 {g2:Gh}{f:AV->AV}{p:AV->Bool}(hf:∀{v:AV}{x:Value}{Ov:Nat->Nat},p v=true->RV g w v x Ov->(∀b,Ov b≠0->∀o,¬g2.pm b o)->∃Ov',RV g2 w (f v) x Ov'∧∀b,Ov' b<=Ov b) :
  ∀{vs:D_}{xs:N_}{Ov:Nat->Nat},vs.all p=true->RVs g w vs xs Ov->(∀b,Ov b≠0->∀o,¬g2.pm b o)->∃Ov',RVs g2 w (vs.map f) xs Ov'∧∀b,Ov' b<=Ov b
 |[],xs,Ov,_,rv,_=>⟨Ov,by grind [RVs],λ_=>ak _⟩
 |v::vs,xs,Ov,hp,rv,hn=>by
  simp only[gF,af]at hp;obtain⟨x,ys,O1,O2,rfl,r1,r2,hs⟩:=rv;obtain⟨Q1,q1,l1⟩:=hf hp.1 r1 (λb hb=>hn b u_);obtain⟨Q2,q2,l2⟩:=I2 hf hp.2 r2 (λb hb=>hn b u_);exact⟨λb=>Q1 b+Q2 b,⟨x,ys,Q1,Q2,rfl,q1,q2,λ_=>rfl⟩,λb=>by grind⟩
def adH {g2:Gh}{v:AV}{x:Value}{Ov:Nat->Nat}(hp:sf v=true)(rv:RV g w v x Ov)(hn:∀b,Ov b≠0->∀o,¬g2.pm b o):∃Ov',RV g2 w (Og v) x Ov'∧∀b,Ov' b<=Ov b:=by
 have other:Og v=Ya v->sf v=pX v->∃Ov',RV g2 w (Og v) x Ov'∧∀b,Ov' b<=Ov b:=λe1 e2=>by
  rw[e1];rw[e2]at hp;exact ac6 hp rv hn
 cases v with
 |agg cs =>
  simp only[RV,Og]at rv⊢;obtain⟨xs,e,rr⟩:=rv;obtain⟨Ov',q,l⟩:=I2 ac6 hp rr hn
  grind
 |_=>exact other rfl rfl
def apu {g2:Gh}{v:AV}{x:Value}{Ov:Nat->Nat}(hp:Jx v=true)(rv:RV g w v x Ov)(hn:∀b,Ov b≠0->∀o,¬g2.pm b o):∃Ov',RV g2 w (PM v) x Ov'∧∀b,Ov' b<=Ov b:=by
 have other:PM v=Og v->Jx v=sf v->∃Ov',RV g2 w (PM v) x Ov'∧∀b,Ov' b<=Ov b:=λe1 e2=>by
  rw[e1];rw[e2]at hp;exact adH hp rv hn
 cases v with
 |tup cs =>
  simp only[RV,PM]at rv⊢;obtain⟨xs,e,rr⟩:=rv;obtain⟨Ov',q,l⟩:=I2 adH hp rr hn
  grind
 |_=>exact other rfl rfl
theorem YL {g2:Gh}(hpm:g2.pm=g.pm){v:AV}{x:Value}{Ov:Nat->Nat}(hp:pX v=true)(rv:RV g w v x Ov):RV g2 w v x Ov:=by
 cases v<;>simp only[pX,ao]at hp
 all_goals simp_all [RV,Ds]
def Gg {g2:Gh}{p:AV->Bool}(hf:∀{v:AV}{x:Value}{Ov:Nat->Nat},p v=true->RV g w v x Ov->RV g2 w v x Ov) :
  ∀{vs:D_}{xs:N_}{Ov:Nat->Nat},vs.all p=true->RVs g w vs xs Ov->RVs g2 w vs xs Ov
 |[],xs,Ov,_,rv=>by grind [RVs]
 |v::vs,xs,Ov,hp,rv=>by
  simp only[gF,af]at hp;obtain⟨x,ys,O1,O2,rfl,r1,r2,hs⟩:=rv;exact⟨x,ys,O1,O2,rfl,hf hp.1 r1,Gg hf hp.2 r2,hs⟩
theorem Ye {g2:Gh}(hpm:g2.pm=g.pm){v:AV}{x:Value}{Ov:Nat->Nat}(hp:sf v=true)(rv:RV g w v x Ov):RV g2 w v x Ov:=by
 rcases apg v with ⟨cs,rfl⟩|⟨e1,e2,e3⟩
 .obtain⟨xs,e,rr⟩:=rv;exact⟨xs,e,Gg (YL hpm) hp rr⟩
 grind [YL]
theorem aog {g2:Gh}(hpm:g2.pm=g.pm){v:AV}{x:Value}{Ov:Nat->Nat}(hp:Jx v=true)(rv:RV g w v x Ov):RV g2 w v x Ov:=by
 rcases aqh v with ⟨cs,rfl⟩|⟨e1,e2,e3⟩
 .obtain⟨xs,e,rr⟩:=rv;exact⟨xs,e,Gg (Ye hpm) hp rr⟩
 grind [Ye]
end
section
variable {P:Program}{g:Gh}{w:World}{t:F_}{O:Nat->Nat}{st st':St}{a:AV}{o:Oper}{r:dC}
def S.extF (s:S P g w st t O){g2:Gh}{w':World}(h:bL g w g2 w' λ_=>False)(ho:g2.obj=g.obj)(hp:∀b o,g2.pm b o->b<w'.heap.size):S P g2 w' st t O:=by
 obtain⟨Oe,Oh,re,rh,hs⟩:=s.parts;exact⟨s.se,s.sh,⟨Oe,Oh,kr.ext h re s_,rh.imp' λk v O1 _ _ q=>q.ext0 h s_,hs⟩,s.le,
  λb hb=>ba (s.hi b hb) h.size,λid hid=>by rw[ho];grind [fresh],hp⟩
theorem aip (u:AV):jB (pW u)=jB u:=by
 have h1:∀v:AV,jg (mT v)=jg v:=λv=>by cases v<;>rfl
 have h2:∀v:AV,kU (pE v)=kU v:=λv=>by
  cases v<;>try rfl
  grind [pE,kU]
 cases u<;>try rfl
 .rename_i cs;exact h2 (.agg cs)
 grind [pW,jB]
def anH {e:aV}{hs hs0:HS}{O':Nat->Nat}{vs:D_}{v0 v:AV}{x:Value}{w':World}(s':S P g w ⟨e,hs⟩ t O')(hle:∀b,O' b<=O b)
  (hp:gG P (g.view w λb=>vs.any tz=true∧O' b≠0) w zero v0 hs0 (.returned x) w')
  (hres:(match gS hs0.heap v0 with|none=>none|some v=>match vs.any tz with|false=>some v|true=>match jB v with|true=>some v|false=>some (PM v))=some v) :
  ∃g' Oa O1,Ca P g w t O ⟨e,hs⟩ v x w' g' Oa O1:=by
 obtain⟨g1,Or,Oh,h1,h2,h3,h4,h5,h6⟩:=hp;have hz:∀b,b<w.heap.size->Or b+Oh b=0:=λb hb=>by simp_all
 split at hres
 .simp_all
 .rename_i v1 hv1;obtain⟨u,Ov',rfl,ru,lu,pu⟩:=anA h2 hv1 h1;have hcell:∀b o,g.pm b o->w'.cell? ⟨b,o,none⟩=w.cell? ⟨b,o,none⟩:=λb o h=>(h3.pm b o (.inl h)).2
  have hblk:∀b,b<w.heap.size->w'.heap[b]?=w.heap[b]?:=λb hb=>(h3.blk b hb s_).1
  have fin:∀(g2:Gh) (Ow:Nat->Nat),(∀b,Ow b<=Ov' b)->bL g w g2 w' (λ_=>False)->g2.obj=g.obj->(∀b o,g2.pm b o->b<w'.heap.size)->RV g2 w' v x Ow->∃g' Oa O1,Ca P g w t O ⟨e,hs⟩ v x w' g' Oa O1:=by
   intro g2 Ow hle2 hx ho hpl hv;have lu:∀b,Ow b<=Or b+Oh b:=λb=>aM (hle2 b) (lu b)
   refine⟨g2,Ow,O',hv,s'.extF hx ho hpl,hx.mono λ_ _ h=>h.elim,λb=>?_,λb hb=>?_,λb hb=>?_⟩
   .by_cases hb:b<w.heap.size
    .have:=hz b hb;have:=lu b;have:=s'.le b;omega
    grind [S.out]
   all_goals grind [S.hi]
  by_cases hf:jB u=true
  .have hb:iK u=pW u:=by simp[iK,hf]
   have hv:v=pW u:=by
    grind [aip]
   refine fin g Ov' (λ_=>ak _) ⟨λ_ _ h=>⟨h,rfl,rfl,rfl⟩,λb o h=>⟨h,hcell b o h⟩,λb hb _=>⟨hblk b hb,λ_ h=>h⟩,h3.size,h3.lp,h3.same⟩ rfl (λb o h=>ba (s'.pmlt b o h) h3.size) ?_
   grind [amQ,S.pmlt]
  .have hb:iK u=u:=by simp[iK,hf]
   cases hnf:vs.any tz with
   |false =>
    have hold:∀b o,(g.view w λb=>vs.any tz=true∧O' b≠0).pm b o->g.pm b o:=λb o h=>h.elim id λh=>by simp_all
    refine fin { g with pm:=g1.pm } Ov' (λ_=>ak _) ⟨λ_ _ h=>⟨h,rfl,rfl,rfl⟩,λb o h=>⟨(h3.pm b o (.inl h)).1,hcell b o h⟩,λb hb _=>⟨hblk b hb,λo h=>hold b o ((h3.blk b hb s_).2 o h)⟩,h3.size,h3.lp,h3.same⟩ rfl
     (λb o h=>h2.pmlt b o h) ?_
    grind [aog]
   |true =>
    obtain⟨Ow,qv,lw⟩:=apu (g2:=g) pu ru λb hb o hpm=>by
     grind [S.pmlt]
    refine fin g Ow lw ⟨λ_ _ h=>⟨h,rfl,rfl,rfl⟩,λb o h=>⟨h,hcell b o h⟩,λb hb _=>⟨hblk b hb,λ_ h=>h⟩,h3.size,h3.lp,h3.same⟩ rfl (λb o h=>ba (s'.pmlt b o h) h3.size) ?_
    simp_all
def axg {ro:I_}{f:FuncId}{args:U_}(hr:iE P r)(s:S P g w st t O)(h:F5 r f args st=some (a,st'))(hc:bD P (.call f args) o.op=true) :
  OpW ro P g w t O st' a o:=by
 obtain⟨dst,op,ty,pos,aft,gd⟩:=o;simp only[bD]at hc;split at hc
 .rename_i c;simp only[af]at hc;obtain⟨h1,h2⟩:=hc;obtain⟨callee,as,ats⟩:=c;have:=K4 h1;subst this;unfold F5 at h;split at h
  .rename_i vs e hrd;split at h
   .rename_i v hcall;obtain⟨Ov,O',rvs,s',l⟩:=s.rdAll h2 hrd;unfold eJ at hcall;split at hcall
    .simp_all
    .rename_i ds hds;split at hcall
     .simp_all
     .rename_i v0 hs0 hc0;obtain⟨hfn,hk⟩:=hr hc0;have rvc:=Si (st:=⟨e,st.hs⟩) (K:=λb=>vs.any tz=true∧O' b≠0) s' hds (λh b hb=>⟨h,hb⟩) rvs;have hk:=hk rvc (azt s' _) (λb=>by simp) (λb hb=>by simp at hb);intro ds' next Q hn
      have hrun:(execOp (ev t) ⟨dst,.call ⟨.value (.func f),as,ats⟩,ty,pos,aft,gd⟩).run P w=.ok (.enter f (as.toList.map (ev t)).toArray) w:=by
       simp only[execOp,resolve,aS,ev,Deferred.ofValue,dA,bp,invoke];rw[xd hfn]
       congr 2
       grind
      rw[hrun,Oper.uponIn_enter];refine⟨λh=>by grind [Fence.wide],Pp (hk.mono λen w' hp=>?_)⟩
      cases en with
      |returned x =>
       obtain⟨g',Oa,O1,k⟩:=anH (O:=O) (vs:=vs) s' (λb=>by grind) hp hcall
       grind
      |panicked c=>exact hp.elim
      |outgrown=>exact hp.elim
   simp_all
  simp_all
 simp_all
end
abbrev bF:=@List.mem_append
def FC:cG->Exit
 |.normal=>.normal
 |.exit i=>.exit i
 |.goto l=>.goto l
 |.ret=>.ret
def jO (w:World)(O:Nat->Nat)(lo:Nat):List Deferred->Prop
 |[]=>True
 |d::ds=>(∃r,d.target=.collected r∧lo<=r∧w.heap[r]?=some (.deferred (some []))∧O r=0∧∀d'∈ds,∀r',d'.target=.collected r'->r'<r)∧jO w O lo ds
def El (w:World)(ro:I_):Prop:=∀l,ro=some l->∃rc:Go.Loop,w.heap[l]?=some (.loop rc)
def cA (P:Program)(g:Gh)(w:World)(t:F_)(O:Nat->Nat)(ds:List Deferred)(ro:I_)(o:cG)(st':St)(e:Exit)(a':Act)(w':World):Prop :=
 e=FC o∧∃g' O' ms,gI P g w t O st' a'.tmps w' g' O'∧a'.defers=ms++ds∧jO w' O' w.heap.size ms∧(ro.isSome=true->ms=[])
section
variable {P:Program}{g:Gh}{w:World}{t:F_}{O:Nat->Nat}{st st':St}{a:AV}{o:Oper}{r:dC}
def El.ext {ro:I_}(h:El w ro){g g':Gh}{w':World}{T:Nat->Prop}(hx:bL g w g' w' T):El w' ro:=λl hl=>let ⟨rc,hrc⟩:=h l hl;hx.lp l rc hrc
def jO.after {lo:Nat}{g1 g2:Gh}{w1 w2:World}{O1 O2:Nat->Nat}(hx:bL g1 w1 g2 w2 λb=>O1 b≠0)(ho:∀b,b<w1.heap.size->O2 b<=O1 b) :
  ∀{ms:List Deferred},jO w1 O1 lo ms->jO w2 O2 lo ms
 |[],_=>trivial
 |d::ds,⟨⟨r,h1,h2,h3,h4,h5⟩,h6⟩=>by
  exact⟨⟨r,h1,h2,by grind [bL.blk],d_,h5⟩,jO.after hx ho h6⟩
def jO.lt {lo:Nat}:∀{ms:List Deferred},jO w O lo ms->∀d∈ms,∀r,d.target=.collected r->r<w.heap.size
 |[],_,d,hd,_,_=>by simp at hd
 |m::ms,⟨⟨r,h1,h2,h3,h4,h5⟩,h6⟩,d,hd,r',hr=>by
  grind
def jO.append {lo1 lo2:Nat}(hlo:lo1<=lo2){ms1:List Deferred}(h1:jO w O lo1 ms1)(hlt:∀d∈ms1,∀r,d.target=.collected r->r<lo2) :
  ∀{ms2:List Deferred},jO w O lo2 ms2->jO w O lo1 (ms2++ms1)
 |[],_=>h1
 |d::ds,⟨⟨r,k1,k2,k3,k4,k5⟩,k6⟩=>by
  refine⟨⟨r,k1,aM hlo k2,k3,k4,λd' hd' r' hr'=>?_⟩,jO.append hlo h1 hlt k6⟩;rcases bF.1 hd' with h|h<;>grind
def cA.comp {ds ms1:List Deferred}{ro:I_}{st1 st2:St}{t1:F_}{w1:World}{g1:Gh}{O1:Nat->Nat}(G:gI P g w t O st1 t1 w1 g1 O1)(hm:jO w1 O1 w.heap.size ms1)
  (hro:ro.isSome=true->ms1=[]){out:cG}{e:Exit}{a2:Act}{w2:World}(h:cA P g1 w1 t1 O1 (ms1++ds) ro out st2 e a2 w2):cA P g w t O ds ro out st2 e a2 w2:=by
 obtain⟨he,g2,O2,ms2,G2,hd,hm2,hr2⟩:=h;refine⟨he,g2,O2,ms2++ms1,G.trans G2,u_,?_,λh=>by simp_all⟩;exact jO.append G.ext.size (hm.after G2.ext G2.old) (λd hd r hr=>hm.lt d hd r hr) hm2
def jd (P:Program)(r:dC):Prop :=
 ∀{v:VC}{st:St}{o:cG}{st':St},r.code v st=some (o,st')->∀{c:Code}{n:Nat},Mt P n v c->∀{g:Gh}{w:World}{t:F_}{O:Nat->Nat},t.size=n->S P g w st t O->
  ∀(ro:I_) (ds:List Deferred),El w ro->c.wpIn (FR ro) 0 P (cA P g w t O ds ro o st') ⟨t,ds⟩ w
def bL.loopBlk {b:Nat}{rc rc':Go.Loop}(hb:w.heap[b]?=some (.loop rc)):bL g w g (Vm.setBlk w b (.loop rc')) λx=>x=b where
 obj _ _ h:=⟨h,rfl,rfl,rfl⟩
 pm b' o h:=⟨h,by
  grind [World.cell?,eY,ir]⟩
 blk b' _ h:=⟨ir h,λ_ h=>h⟩
 size:=s_
 lp b' r h:=by
  grind [eY,ir]
 same:=⟨rfl,rfl,zV hb (by grind [gE]) (by grind [gE])⟩
def S.storeG {st:St}(s:S P g w st t O){id:Nat}{ob:Obj}(hg:get st.hs.heap id=some ob) :
  ∃O1 Oz:Nat->Nat,jT P g w id ob O1∧(∀b,O1 b+Oz b<=O b)∧∀(w':World) (b:Nat) (ob':Obj) (O1':Nat->Nat),
   1<=O1 b->bL g w g w' (λx=>x=b)->jT P g w' id ob' O1'->(∀x,O1' x+Oz x<=1)->(∀x,O1' x≠0->x<w'.heap.size)->
   S P g w' ⟨st.env,⟨put st.hs.heap id ob',st.hs.next⟩⟩ t (λx=>O1' x+Oz x):=by
 obtain⟨Oe,Oh,re,rh,ho⟩:=s.parts;obtain⟨O1,O2,q,r2,hs⟩:=RL.take rh hg;refine⟨O1,λb=>Oe b+O2 b,q,λb=>by grind,λw' b ob' O1' h1 hx q' hle hhi=>?_⟩;have hone:O b<=1:=s.le b;have hfree:Oe b=0∧O2 b=0:=d_;have re':=kr.ext hx re (λy hy e=>by simp_all);have r2':Cd P g w' (del st.hs.heap id) O2:=r2.imp' λk v Q _ hQ q=>q.ext0 hx (λy hy e=>by grind)
 obtain⟨O3,r3,h3⟩:=RL.put s.sh r2' q';refine⟨s.se,s.sh.put _ _,⟨Oe,O3,re',r3,λx=>by grind⟩,hle,λx hx0=>?_,s.fresh,
  λb o hp=>ba (s.pmlt b o hp) hx.size⟩
 by_cases h:O1' x=0
 .refine ba (s.hi x ?_) hx.size
  grind
 simp_all
def S.setLoop {st:St}(s:S P g w st t O){id:Nat}{snap:aV}{ps:C_}{as bd:VC}{busy:Bool}{pend:BG_}(hg:get st.hs.heap id=some (.loop snap ps as bd busy pend)) :
  ∃b rc,g.obj id=some b∧w.heap[b]?=some (.loop rc)∧rc.state=(if busy then .busy else if pend.isNone then .ready else .done)∧rc.pending=pend.bind mr∧rc.params=ps.toArray∧
   Mt P rc.tmps.size as rc.assign∧Mt P rc.tmps.size bd rc.body∧cU snap∧kr g w snap rc.tmps zero∧(∀p∈ps,p<rc.tmps.size)∧
   ∀(busy':Bool) (pend':BG_) (rc':Go.Loop),rc'={ rc with state:=(if busy' then .busy else if pend'.isNone then .ready else .done),pending:=pend'.bind mr }->
    ∃O',gI P g w t O ⟨st.env,⟨put st.hs.heap id (.loop snap ps as bd busy' pend'),st.hs.next⟩⟩ t (Vm.setBlk w b (.loop rc')) g O':=by
 obtain⟨O1,Oz,q,hsum,hst⟩:=s.storeG hg;obtain⟨b,rc,h1,h2,h3,h4,h5,h6,h7,h8,h9,h10,h11⟩:=q;refine⟨b,rc,h1,h2,h3,h4,h5,h6,h7,h8,h9,h10,λbusy' pend' rc' e=>?_⟩;have hx:bL g w g (Vm.setBlk w b (.loop rc')) λx=>x=b:=bL.loopBlk h2
 have hO1:O1 b=1:=u_;refine⟨_,hst (Vm.setBlk w b (.loop rc')) b (.loop snap ps as bd busy' pend') O1 o_ hx ?_ (λx=>by have:=hsum x;have:=s.le x;omega) (λx hx0=>?_),hx.mono (λx _ e=>by grind),λx _=>hsum x,rfl⟩
 .subst e;exact⟨b,_,h1,eY (jw h2),rfl,rfl,h5,h6,h7,h8,kr.ext hx h9 s_,h10,h11⟩
 grind [wF,K6]
end
section
variable {P:Program}{g:Gh}{w:World}{t:F_}{O:Nat->Nat}{st st':St}{a:AV}{o:Oper}{r:dC}
def Zf:∀{ps:C_}{vs:D_}{e e':aV}{hs:HS}{t:F_}{O:Nat->Nat},wN e ps vs=some e'->S P g w ⟨e,hs⟩ t O->∀{xs:N_}{Ov:Nat->Nat},RVs g w vs xs Ov->
  (∀p∈ps,p<t.size)->(∀b,Ov b+O b<=1)->(∀b,Ov b≠0->b<w.heap.size)->
  ∃O',S P g w ⟨e',hs⟩ ((ps.zip xs).foldl (fun(t:F_) (q:Nat×Value)=>t.setIfInBounds q.1 q.2) t) O'∧(∀b,O' b<=Ov b+O b)∧xs.length=ps.length∧
   ((ps.zip xs).foldl (fun(t:F_) (q:Nat×Value)=>t.setIfInBounds q.1 q.2) t).size=t.size
 |[],[],e,e',hs,t,O,h,s,xs,Ov,rv,hp,hle,hhi=>by
  simp only[wN,ae]at h;obtain⟨rfl,_⟩:=rv;exact⟨O,u_,λb=>by omega,rfl,rfl⟩
 |p::ps,v::vs,e,e',hs,t,O,h,s,xs,Ov,rv,hp,hle,hhi=>by
  simp only[wN]at h;obtain⟨x,ys,O1,O2,rfl,r1,r2,hs2⟩:=rv;obtain⟨O3,s3,l3⟩:=s.setTmp (hp p (.head _)) r1 (λb=>by grind) (λb hb=>hhi b u_);obtain⟨O4,s4,l4,hl,hsz⟩:=Zf h s3 r2 (λq hq=>by simp_all) (λb=>by grind) (λb hb=>hhi b u_);exact⟨O4,u_,λb=>by grind,by simp[hl],u_⟩
 |[],_::_,_,_,_,_,_,h,_,_,_,_,_,_,_=>by simp[wN]at h
 |_::_,[],_,_,_,_,_,h,_,_,_,_,_,_,_=>by simp[wN]at h
def yV {b:Nat}{rc:Go.Loop}(h:w.heap[b]?=some (.loop rc)):(Instr.getLoop b).run P w=.ok rc w:=by
 simp_all [Instr.getLoop,getObj,Sem.run]
def L5 {b:Nat}{rc rc':Go.Loop}(h:w.heap[b]?=some (.loop rc)):(setObj b (.loop rc')).run P w=.ok () (setBlk w b (.loop rc')):=by
 grind [setObj,Sem.run,setBlk]
def aqn (hc:jd P r){l:Nat}{args:D_}{hs hs':HS}{v:AV}(h:uN r l args hs=some (v,hs')){xs:N_}{Oa Oh:Nat->Nat}(rvs:RVs g w args xs Oa)
  (sh:S P g w ⟨[],hs⟩ #[] Oh)(hle:∀b,Oa b+Oh b<=1)(hhi:∀b,Oa b≠0->b<w.heap.size)(ro:I_) :
  ∃b,∃rc:Go.Loop,∃tm,g.obj l=some b∧(Instr.yield b xs.toArray).run P w=.ok (.round b rc.fn tm rc.assign rc.body) w∧
   RoundIn (FR ro) 0 P b rc.fn tm rc.assign rc.body w (gG P g w (λb=>Oa b+Oh b) v hs'):=by
 unfold uN at h;split at h
 .rename_i snap ps as bd hg;split at h
  .simp at h
  .rename_i e hput;split at h
   .rename_i st1 hass;split at h
    .rename_i snap1 ps1 as1 bd1 hg1;split at h
     .simp at h
     .rename_i o st2 hbd;split at h
      .rename_i snap2 ps2 as2 bd2 hg2;obtain⟨b,rc,h1,h2,h3,h4,h5,h6,h7,h8,h9,h10,_⟩:=sh.setLoop (st:=⟨[],hs⟩) hg;have s0:S P g w ⟨snap,hs⟩ rc.tmps λb=>zero b+Oh b:=S.join h8 h9 sh (λb=>by grind) (λb hb=>by simp at hb)
       obtain⟨O1,s1,l1,hlen,hsz⟩:=Zf hput s0 rvs h10 (λb=>by simp_all) hhi;refine⟨b,rc,_,h1,?_,roundIn_of_wpIn (F:=FR ro) (tmps:=(ps.zip xs).foldl (fun(t:F_) (q:Nat×Value)=>t.setIfInBounds q.1 q.2) rc.tmps) trivial ?_⟩
       .simp_all [Instr.yield,yV]
       .refine wpIn_mono (hc hass h6 hsz s1 (some b) [] (λl hl=>by simp_all)) λen a1 w1 hp=>?_
        obtain⟨rfl,g1,O1',ms,G1,hd1,_,hms⟩:=hp;have hms:=hms rfl;subst hms;obtain⟨t1,d1⟩:=a1;subst hd1;obtain⟨b1,rc1,k1,k2,k3,k4,k5,k6,k7,k8,k9,k10,kset⟩:=G1.st.setLoop hg1;have hb1:b1=b:=by have:=(G1.ext.obj l b h1).1;simp_all
        subst hb1;obtain⟨O2,G2⟩:=kset true none { rc1 with state:=.busy } (by simp[k4]);refine⟨setBlk w1 b1 (.loop { rc1 with state:=.busy }),?_,?_⟩
        .simp_all [Instr.beginRound,yV,L5]
        .have hsz1:t1.size=rc.tmps.size:=by rw[G1.size,hsz]
         refine wpIn_mono (hc hbd h7 hsz1 G2.st (some b1) [] (λl hl=>by grind [eY])) λen2 a2 w3 hp2=>?_
         obtain⟨rfl,g2,O3,ms2,G3,_,_,_⟩:=hp2;obtain⟨b2,rc2,m1,m2,m3,m4,m5,m6,m7,m8,m9,m10,mset⟩:=G3.st.setLoop hg2;have hb2:b2=b1:=by have:=(G3.ext.obj l b1 k1).1;simp_all
         subst hb2;have fin:∀(pend:BG_),(v,hs')=(.bool pend.isNone,⟨put st2.hs.heap l (.loop snap2 ps2 as2 bd2 false pend),st2.hs.next⟩)->pend.bind mr=mr o->(pend.bind mr).isNone=pend.isNone->
           ∃(vv:Value) (w':World),(Instr.endRound b2 (mr o)).run P w3=.ok vv w'∧gG P g w (λb=>Oa b+Oh b) v hs' (.returned vv) w':=by
          intro pend hv hpo hpn;obtain⟨rfl,rfl⟩:=hv;obtain⟨O4,G4⟩:=mset false pend { rc2 with state:=(if (mr o).isNone then .ready else .done),pending:=mr o } u_;refine⟨.bool (mr o).isNone,setBlk w3 b2 (.loop { rc2 with state:=(if (mr o).isNone then .ready else .done),pending:=mr o }),?_,?_⟩
          .simp_all [Instr.endRound,yV,L5]
          .have G:=((G1.trans G2).trans G3).trans G4;obtain⟨Oe4,Oh4,re4,sh4,ho4⟩:=G.st.split;refine⟨g2,zero,Oh4,?_,sh4,G.ext.mono (λb _ hb=>by grind),λb=>by have:=G.st.le b;grind,λb hb=>?_,λb hb=>by simp at hb⟩
           all_goals grind [HR,gI.old]
         cases o with
         |normal =>
          simp only[ae]at h;exact fin none h.symm rfl rfl
         |exit i =>
          simp only[ae]at h;exact fin (some (.exit i)) h.symm rfl rfl
         |goto i =>
          simp only[ae]at h;exact fin (some (.goto i)) h.symm rfl rfl
         |ret =>
          simp only[ae]at h;exact fin (some .ret) h.symm rfl rfl
      simp_all
    simp_all
   simp_all
 simp_all
end
section
variable {P:Program}{g:Gh}{w:World}{t:F_}{O:Nat->Nat}{st st':St}{a:AV}{o:Oper}{r:dC}
def atL {ro:I_}{f:Rd}{args:U_}(hr:iE P r)(hcs:jd P r)(s:S P g w st t O)(h:DF r f args st=some (a,st'))(hc:bD P (.callv f args) o.op=true) :
  OpW ro P g w t O st' a o:=by
 obtain⟨dst,op,ty,pos,aft,gd⟩:=o;simp only[bD]at hc;split at hc
 .rename_i c;simp only[af]at hc;obtain⟨h1,h2⟩:=hc;obtain⟨callee,as,ats⟩:=c;simp only at h1 h2;split at h1
  .rename_i fx;unfold DF at h;split at h
   .rename_i fv e1 hf;split at h
    .rename_i vs e hrd;split at h
     .rename_i v hs' hcall;obtain⟨rfl,rfl⟩:=h;obtain⟨Of,O1,rf,s1,l1⟩:=s.rd h1 hf;obtain⟨Ov,O',rvs,s',l⟩:=s1.rdAll (st:=⟨e1,st.hs⟩) h2 hrd;obtain⟨Oe,Oh,re,sh,ho⟩:=s'.split;have hle:∀b,Ov b+(Oe b+Oh b)<=O b:=λb=>by grind
      have hle1:∀b,Ov b+Oh b<=1:=λb=>by have:=hle b;have:=s.le b;omega
      have hhi:∀b,Ov b≠0->b<w.heap.size:=λb hb=>s.hi b (by grind)
      unfold cq at hcall;split at hcall
      .rename_i gf first caps
       obtain⟨hfn,hk⟩:=hr hcall;obtain⟨⟨xs,ys,hev,r1,r2⟩,_⟩:=rf;have hrv:RVs g w (first++(vs++caps)) (xs.toList++(as.toList.map (ev t)++ys.toList)) (λb=>zero b+(Ov b+zero b)):=r1.join (rvs.join r2);have hO:(λb=>zero b+(Ov b+zero b))=Ov:=u_;rw[hO]at hrv;have hk:=hk hrv sh hle1 hhi;refine Vo (hs:=st.hs) s'.se re hle s ?_ hk
       simp_all [execOp,resolve,Deferred.ofValue,invoke,xd]
      .obtain⟨⟨b0,hb0,hev⟩,_⟩:=rf;obtain⟨b,rc,tm,hb,hy,hround⟩:=aqn hcs hcall rvs sh hle1 hhi ro;rw[hb0]at hb;simp only[ae]at hb;subst hb;intro ds next Q hn
       have hrun:(execOp (ev t) ⟨dst,.call ⟨.value fx,as,ats⟩,ty,pos,aft,gd⟩).run P w=.ok (.round b0 rc.fn tm rc.assign rc.body) w:=by
        simp only[execOp,resolve,aS,hev,Deferred.ofValue,dA,bp,invoke];rw[<-hy]
        congr 2
        grind
       rw[hrun,Oper.uponIn_round];refine⟨λh=>by grind [Fence.wide],hround.mono λen w' hp=>?_⟩
       cases en with
       |returned x =>
        obtain⟨g',Oa,O',k⟩:=HB (hs:=st.hs) s'.se re hle s hp
        grind
       |panicked c=>exact hp.elim
       |outgrown=>exact hp.elim
      simp_all
     simp_all
    simp_all
   simp_all
  simp_all
 simp_all
def aho {t:F_}:∀{e:aV}{O:Nat->Nat},kr g w e t O->kr g w (e.map λkv=>(kv.1,share kv.2)) t zero
 |[],_,_=>λ_=>rfl
 |(k,v)::e,O,r=>by
  obtain⟨O1,O2,⟨q1,q2⟩,rr,_⟩:=r;exact⟨zero,zero,⟨q1,RV.share _ _ _ q2⟩,aho rr,λ_=>rfl⟩
def asF {e:aV}(h:cU e):cU (e.map λkv=>(kv.1,share kv.2)):=by
 grind [cU]
def ad4 {ro:I_}(hro:El w ro)(fn:FuncId)(ps:Array Nat)(as bd:Code) :
  ∃(w1:World) (mark:List Deferred) (rc:Go.Loop),(Instr.enterLoop fn t ps as bd ro).run P w=.ok (w1.heap.size,mark) (w1.alloc (.loop rc))∧
   rc.state=.ready∧rc.pending=none∧rc.params=ps∧rc.assign=as∧rc.body=bd∧rc.tmps=t∧
   ((∃l,ro=some l∧w1=w∧mark=[])∨(ro=none∧w1=w.alloc (.deferred (some []))∧mark=[{ target:=.collected w.heap.size,args:=#[] }])):=by
 cases ro with
 |some l =>
  obtain⟨rc0,h0⟩:=hro l rfl;refine⟨w,[],{ state:=.ready,pending:=none,fn,tmps:=t,params:=ps,assign:=as,body:=bd,defers:=rc0.defers },?_,rfl,rfl,rfl,rfl,rfl,rfl,.inl ⟨l,rfl,rfl,rfl⟩⟩
  simp_all [Instr.enterLoop,yV]
 |none =>
  refine⟨w.alloc (.deferred (some [])),_,{ state:=.ready,pending:=none,fn,tmps:=t,params:=ps,assign:=as,body:=bd,defers:=w.heap.size },?_,rfl,rfl,rfl,rfl,rfl,rfl,.inr ⟨rfl,rfl,rfl⟩⟩;simp[Instr.enterLoop]
end
section
variable {P:Program}{g:Gh}{w:World}{t:F_}{O:Nat->Nat}{st st':St}{a:AV}{o:cG}{r:dC}
def S.otherG {w':World}{b:Nat}(s:S P g w st t O)(hx:bL g w g w' λx=>x=b)(hO:O b=0):S P g w' st t O:=by
 obtain⟨Oe,Oh,re,rh,ho⟩:=s.parts;have re':=kr.ext hx re (λy hy e=>by simp_all);have rh':Cd P g w' st.hs.heap Oh:=rh.imp' λk v Q _ hQ q=>q.ext0 hx (λy hy e=>by grind)
 exact⟨s.se,s.sh,⟨Oe,Oh,re',rh',ho⟩,s.le,λb hb=>ba (s.hi b hb) hx.size,s.fresh,λb o h=>ba (s.pmlt b o h) hx.size⟩
def S.endLoop {e:aV}{hs:HS}(s:S P g w ⟨e,hs⟩ t O){id:Nat}{snap:aV}{ps:C_}{as bd:VC}{pend:BG_}(hg:get hs.heap id=some (.loop snap ps as bd false pend)){b:Nat}(hob:g.obj id=some b) :
  ∃w' O',(Instr.endLoop b).run P w=.ok (pend.bind mr) w'∧S P g w' ⟨e,⟨del hs.heap id,hs.next⟩⟩ t O'∧bL g w g w' (λx=>x=b)∧∀x,O' x<=O x:=by
 obtain⟨Oe,Oh,re,rh,ho⟩:=s.parts;obtain⟨O1,O2,q,r2,hs2⟩:=RL.take rh hg;obtain⟨b',rc,h1,h2,h3,h4,h5,h6,h7,h8,h9,h10,h11⟩:=q;rw[hob]at h1;simp only[ae]at h1;subst h1;have hle2:∀x,Oe x+O2 x<=O x:=λx=>by grind
 have s2:S P g w ⟨e,⟨del hs.heap id,hs.next⟩⟩ t (λx=>Oe x+O2 x) :=
  ⟨s.se,s.sh.del id,⟨Oe,O2,re,r2,λ_=>rfl⟩,λx=>aM (hle2 x) (s.le x),λx hx=>s.hi x d_,s.fresh,s.pmlt⟩
 have hx:bL g w g (setBlk w b (.loop { rc with state:=.exhausted })) λx=>x=b:=bL.loopBlk h2
 refine⟨setBlk w b (.loop { rc with state:=.exhausted }),_,?_,s2.otherG hx ?_,hx,hle2⟩
 .have hb:(rc.state == LoopState.busy)=false:=by
   grind
  simp_all [Instr.endLoop,yV,L5]
 .have:=h11 b;rw[Ak]at this;have:=hs2 b;have:=ho b;have:=s.le b;omega
def aj5 (hr:iE P r){f:Rd}{x:Operand}{ps:C_}{as bd:VC}{c d:Code}(h:DN r f ps as bd st=some (o,st'))(hf:cM f x=true)
  (hps:∀p∈ps,p<t.size)(ha:Mt P t.size as c)(hb:Mt P t.size bd d)(s:S P g w st t O)(ro:I_)(ds:List Deferred)(hro:El w ro) :
  (Code.rangeFunc x ps.toArray c d).wpIn (FR ro) 0 P (cA P g w t O ds ro o st') ⟨t,ds⟩ w:=by
 unfold DN at h;split at h
 .rename_i gf first caps e hrd
  split at h
  .rename_i v hs hcall;split at h
   .rename_i snap2 ps2 as2 bd2 pend hget;obtain⟨Of,O1,rf,s1,l1⟩:=s.rd hf hrd;simp only[RV]at rf;obtain⟨⟨xs,ys,hev,r1,r2⟩,_⟩:=rf;have l1':∀b,O1 b<=O b:=λb=>by simp_all
    refine wpIn_rangeFunc λfn hF=>?_
    obtain⟨w1,mark,rc,hen,e1,e2,e3,e4,e5,e6,hmark⟩:=ad4 (P:=P) (t:=t) hro fn ps.toArray c d;have hx1:bL g w g w1 λ_=>False:=by
     rcases hmark with ⟨_,_,rfl,_⟩|⟨_,rfl,_⟩
     .exact .refl _ _ _
     .exact bL.alloc s.pmlt _ _
    have sw1:S P g w1 ⟨e,st.hs⟩ t O1:=s1.extF hx1 rfl λb o h=>ba (s.pmlt b o h) hx1.size
    have hfresh:=sw1.fresh st.hs.next (ak _)
    have hx0:bL g w1 (g.add st.hs.next w1.heap.size 0 0 0) (w1.alloc (.loop rc)) λ_=>False:=(bL.alloc sw1.pmlt _ _).add hfresh _ _ _ _
    obtain⟨Oe1,Oh1,re1,rh1,ho1⟩:=sw1.parts;have hobj:(g.add st.hs.next w1.heap.size 0 0 0).obj st.hs.next=some w1.heap.size:=by simp[Gh.add]
    have hO1out:O1 w1.heap.size=0:=sw1.out (ak _);have hnew:=sw1.new (blk:=.loop rc) (o:=.loop (e.map λkv=>(kv.1,share kv.2)) ps as bd false none) (base:=0) (esz:=0) (bsz:=0) (O1:=one w1.heap.size) (by
     simp only[jT];refine⟨w1.heap.size,rc,hobj,jE _ _,e1,e2,e3,u_,u_,asF sw1.se,?_,u_,λ_=>rfl⟩;rw[e6];exact kr.ext hx0 (aho re1) s_) (λb=>by
      by_cases hb:b=w1.heap.size
      .simp_all
      .have:=sw1.le b;grind [one]) (λb hb=>by grind [wF])
    obtain⟨s2,hx2⟩:=hnew;obtain⟨Oe,Oh,re,sh,ho⟩:=s2.split;obtain⟨hfn,hk⟩:=hr hcall;have hxa:=hx1.trans hx0 λ_ _ h=>h
    have r1':=RVs.ext hxa _ _ _ r1 s_;have r2':=RVs.ext hxa _ _ _ r2 s_;have ry:RVs (g.add st.hs.next w1.heap.size 0 0 0) (w1.alloc (.loop rc)) [.yield st.hs.next] [.func (.yield w1.heap.size) #[] #[]] zero:=by
     simp only[RVs,RV];exact⟨_,[],zero,zero,rfl,⟨⟨w1.heap.size,hobj,rfl⟩,λ_=>rfl⟩,⟨rfl,λ_=>rfl⟩,λ_=>rfl⟩
    have hrv:RVs (g.add st.hs.next w1.heap.size 0 0 0) (w1.alloc (.loop rc)) (first++([.yield st.hs.next]++caps)) (xs.toList++([.func (.yield w1.heap.size) #[] #[]]++ys.toList)) zero:=by
     have:=r1'.join (ry.join r2');omega
    have hle:∀b,zero b+Oh b<=1:=λb=>by have:=s2.le b;grind
    have hk:=hk hrv sh hle (λb hb=>by simp at hb);generalize hargs:(xs.toList++([Value.func (.yield w1.heap.size) #[] #[]]++ys.toList)).toArray=args at hk;refine⟨w1.heap.size,mark,w1.alloc (.loop rc),{ target:=.fn (.func gf) ys,args:=xs++#[.func (.yield w1.heap.size) #[] #[]] },w1.alloc (.loop rc),gf,
     args,w1.alloc (.loop rc),hen,?_,λ_ _=>trivial,?_,λh=>by grind [Fence.wide],Pp (hk.mono λen w3 hp=>?_)⟩
    .have hevx:(⟨t,ds⟩:Act).eval x=.func (.func gf) xs ys:=by simp_all [HV]
     have hconst:∀u:Value,(⟨t,ds⟩:Act).eval (.const u)=u:=λ_=>rfl
     simp_all [resolve,Deferred.ofValue]
    .simp only[invoke];rw[xd hfn,<-hargs]
     congr 2
     grind
    .cases en with
     |panicked _=>exact hp.elim
     |outgrown=>exact hp.elim
     |returned y =>
      obtain⟨g2,Oa,O3,k⟩:=HB (hs:=hs) (Ov:=zero) s2.se re (λb=>by simp_all) s2 hp;have hob2:g2.obj st.hs.next=some w1.heap.size:=(k.ext.obj _ _ hobj).1;obtain⟨w4,O4,hend,s4,hx4,l4⟩:=k.st.endLoop hget hob2;have hlo:w.heap.size<=w1.heap.size:=hx1.size;have G:gI P g w t O ⟨e,⟨del hs.heap st.hs.next,hs.next⟩⟩ t w4 g2 O4:=by
       refine⟨s4,(((hxa.mono (T:=λb=>O b≠0) λ_ _ h=>h.elim).trans k.ext λb hb hq=>?_).trans hx4 λb hb hq=>?_),λb hb=>?_,rfl⟩
       .grind [one]
       .omega
       .have hb2:b<(w1.alloc (.loop rc)).heap.size:=ba hb hxa.size
        grind [one,Ca.old]
      have hM:jO w4 O4 w.heap.size mark∧(ro.isSome=true->mark=[]):=by
       rcases hmark with ⟨_,hl,_,rfl⟩|⟨hn,rfl,rfl⟩
       .exact⟨trivial,λ_=>rfl⟩
       .refine⟨⟨⟨w.heap.size,rfl,ak _,?_,?_,λd hd=>by simp at hd⟩,trivial⟩,λh=>by simp_all⟩
        .have hne:w.heap.size≠(w.alloc (.deferred (some []))).heap.size:=s_;have hlt:w.heap.size<((w.alloc (.deferred (some []))).alloc (.loop rc)).heap.size:=by simp;omega
         have hO1z:O1 w.heap.size=0:=s1.out (ak _);have hoz:one (w.alloc (.deferred (some []))).heap.size w.heap.size=0:=by simp[one]
         rw[(hx4.blk _ (ba hlt k.ext.size) (λh=>hne h)).1,(k.ext.blk _ hlt (λh=>by
          omega)).1,sQ s_,jE]
        .have hlt:w.heap.size<((w.alloc (.deferred (some []))).alloc (.loop rc)).heap.size:=by simp;omega
         have hO1z:O1 w.heap.size=0:=s1.out (ak _);have hoz:one (w.alloc (.deferred (some []))).heap.size w.heap.size=0:=by simp[one]
         grind [Ca.old]
      have post:∀out st'',st''=⟨e,⟨del hs.heap st.hs.next,hs.next⟩⟩->cA P g w t O ds ro out st'' (FC out) { tmps:=t,defers:=mark++ds } w4:=by
       rintro out _ rfl
       exact⟨rfl,g2,O4,mark,G,rfl,hM.1,hM.2⟩
      refine⟨pend.bind mr,w4,hend,?_⟩
      cases pend with
      |none =>
       obtain⟨rfl,rfl⟩:=h;exact post .normal _ rfl
      |some out =>
       simp only[ae,aQ]at h;obtain⟨rfl,rfl⟩:=h
       cases out with
       |normal=>exact post .normal _ rfl
       |exit i=>exact wpIn_exit (post (.exit i) _ rfl)
       |goto i=>exact wpIn_goto (post (.goto i) _ rfl)
       |ret=>exact wpIn_ret (post .ret _ rfl)
   simp_all
  simp_all
 simp_all
end
abbrev qB:=@Option.isNone_iff_eq_none
section
variable {P:Program}{g:Gh}{w:World}{t:F_}{O:Nat->Nat}{st st':St}{a:AV}{o:Oper}{r:dC}
def azd {ro:I_}(hr:iE P r)(hcs:jd P r){v:oi}(s:S P g w st t O)(h:dk v r st=some (a,st'))(hc:bD P v o.op=true):OpW ro P g w t O st' a o:=by
 cases v with
 |mov x=>exact(ayO s h hc).opW
 |pick c x y=>exact(avU s h hc).opW
 |alloc zs=>exact(ar7 s h hc).opW
 |box x=>exact(aAj s h hc).opW
 |build zs ps=>exact(as6 s h hc).opW
 |mks m ps=>exact(ayt s h hc).opW
 |mksv m ps=>exact(avD s h hc).opW
 |ld n k p=>exact(aA8 s h hc).opW
 |st n p x=>exact(aCt s h hc).opW
 |nilck x=>exact(atF s h hc).opW
 |bin op x y=>exact(ayz s h hc).opW
 |binb neg x y=>exact(axW s h hc).opW
 |bina neg ks x y=>exact(axX s h hc).opW
 |un op x=>exact(aBR s h hc).opW
 |conv k x=>exact(awO s h hc).opW
 |toStr x=>exact(arP s h hc).opW
 |mkfn f a c=>exact(av8 s h hc).opW
 |mkslice z l c=>exact(XY s h hc).opW
 |slice m x lo hi mx=>exact(ar5 s h hc).opW
 |slarr n x lo hi mx=>exact(atT s h hc).opW
 |fa off p=>exact(aB7 s h hc).opW
 |fld off n x=>exact(ax4 s h hc).opW
 |ia n x i=>exact(aCh s h hc).opW
 |iarr l n p i=>exact(awX s h hc).opW
 |ix l n ag x i=>exact(aBl s h hc).opW
 |ixs x i=>exact(ayl s h hc).opW
 |idxb x c=>exact(avA s h hc).opW
 |ext j mv i=>exact(ax5 s h hc).opW
 |len x=>exact(azx s h hc).opW
 |cap x=>exact(ayi s h hc).opW
 |app m x y=>exact(azy s h hc).opW
 |appz z x n=>exact(avT s h hc).opW
 |cpy m x y=>exact(ayE s h hc).opW
 |clr z x=>exact(ay5 s h hc).opW
 |minmax b xs=>exact(ape s h hc).opW
 |call f args=>exact axg hr s h hc
 |calli f args=>exact ar6 hr s h hc
 |callv f args=>exact atL hr hcs s h hc
 |bad=>grind [dk,anb]
 |kill is=>simp[bD]at hc
 |free i=>simp[bD]at hc
 |wk i m=>simp[bD]at hc
 |frz i=>simp[bD]at hc
 |frzC i offs=>simp[bD]at hc
def Qg {v:oi}{op:Op}(hb:v≠.bad)(h:bD P v op=true):∀c,op≠.defer c:=by
 rintro c rfl
 cases v<;>first|exact hb rfl|(simp[bD]at h)
def TH {i:VI}{st2:St}(h:gp r i st=some st2):∃v st1,dk i.op r st=some (v,st1)∧st2=cP i.dst (firm (dS i.th v st1.hs).1) ⟨st1.env,(dS i.th v st1.hs).2⟩:=by
 unfold gp at h;split at h
 .rename_i v st1 hv;split at h
  .rename_i hth;simp only[ae]at h;exact⟨v,st1,hv,by rw[hth];exact h.symm⟩
  grind
 simp_all
theorem ag9 (t:F_)(dst:I_)(x:Value):∀k,dst≠some k->(wh t dst x)[k]?=t[k]?:=by
 intro k hk
 cases dst<;>grind [Act.put]
def ald {ro:I_}(hr:iE P r)(hcs:jd P r){n:Nat}{ops:Array Oper}{i:VI}{st2:St}(hn:t.size=n)(s:S P g w st t O)(h:cV r i st=some st2)(hc:C4 P n ops i o=true)
  (ds:List Deferred)(next:Act->World->Prop)(Q:Exit->Act->World->Prop)(hk:∀t' w' g' O',gI P g w t O st2 t' w' g' O'->(∀k,i.dst≠some k->t'[k]?=t[k]?)->next ⟨t',ds⟩ w') :
  if Region.wanted o (yielded ops t) then o.wpIn (FR ro) 0 P ⟨t,ds⟩ w next Q else (∀f,o.about P w (⟨t,ds⟩:Act).eval=some f->(FR ro).fn f)∧next (Act.put ⟨t,ds⟩ o.dst undef) w:=by
 simp only[C4,af]at hc;obtain⟨⟨hdst,hgd⟩,hop⟩:=hc;have hd:i.dst=o.dst∧∀d,i.dst=some d->d<t.size:=by
  grind [Nat.beq_eq,Nat.blt_eq]
 have go:gp r i st=some st2->o.wpIn (FR ro) 0 P ⟨t,ds⟩ w next Q:=by
  intro hg;obtain⟨v,st1,hv,rfl⟩:=TH hg;have hb:i.op≠.bad:=by intro e;simp_all [dk,anb]
  refine⟨λ_ _=>trivial,?_⟩;rw[Pg _ _ (Qg hb hop)];refine azd (ro:=ro) hr hcs s hv hop ds next Q λx w' g' Oa O' k=>?_
  obtain⟨g2,O2,G⟩:=aiu k hd.2 i.th
  grind [ZR,ag9]
 have no:st2=cP i.dst (.tup []) st->(∀f,o.about P w (⟨t,ds⟩:Act).eval=some f->(FR ro).fn f)∧next (Act.put ⟨t,ds⟩ o.dst undef) w:=by
  rintro rfl
  refine⟨λ_ _=>trivial,?_⟩;have ha:Ca P g w t O st (.tup []) undef w g zero O:=⟨by grind [RV,RVs,undef],s,.refl _ _ _,λb=>by have:=s.le b;simp_all,λb _=>by simp,λb hb=>by simp at hb⟩
  obtain⟨g2,O2,G⟩:=aiu ha hd.2 [];rw[ZR,<-hd.1];exact hk _ _ _ _ G (ag9 _ _ _)
 grind [arm,cV]
def are {ro:I_}(hr:iE P r)(hcs:jd P r){n:Nat}{ops:Array Oper}{i:VI}{st2:St}(hn:t.size=n)(s:S P g w st t O)(h:cV r i st=some st2)(hc:C4 P n ops i o=true)
  (ds:List Deferred)(next:Act->World->Prop)(Q:Exit->Act->World->Prop)(hk:∀t' w' g' O',gI P g w t O st2 t' w' g' O'->next ⟨t',ds⟩ w') :
  if Region.wanted o (yielded ops t) then o.wpIn (FR ro) 0 P ⟨t,ds⟩ w next Q else (∀f,o.about P w (⟨t,ds⟩:Act).eval=some f->(FR ro).fn f)∧next (Act.put ⟨t,ds⟩ o.dst undef) w:=ald hr hcs hn s h hc ds next Q λt' w' g' O' G _=>hk t' w' g' O' G
def adl {i:VI}{st2:St}(s:S P g w st t O)(hg:M5 i=true)(h:cV r i st=some st2):∃g' O',gI P g w t O st2 t w g' O':=by
 simp only[M5,af]at hg;obtain⟨⟨⟨h1,h2⟩,h3⟩,h4⟩:=hg;have hd:i.dst=none:=qB.1 h1;have hgd:i.guard=none:=qB.1 h2;have hth:i.th=[]:=u_;unfold cV at h;rw[hgd]at h;obtain⟨v,st1,hv,rfl⟩:=TH h;rw[hd,hth];have fin:Np P g w t O st1->∃g' O',gI P g w t O (cP none (firm (dS [] v st1.hs).1) ⟨st1.env,(dS [] v st1.hs).2⟩) t w g' O':=by
  rintro ⟨g',O',s',hx,hle⟩
  exact⟨g',O',s',hx,λb _=>hle b,rfl⟩
 split at h4
 .rename_i is e;rw[e]at hv;exact fin (awY s hv)
 .rename_i j e;rw[e]at hv;exact fin (awD s hv)
 .rename_i j m e;rw[e]at hv;exact fin (aBj s hv)
 .rename_i j e;rw[e]at hv;exact fin (ayr s hv)
 .rename_i j offs e;rw[e]at hv;exact fin (axn s hv)
 simp_all
def aa0 {ro:I_}(hr:iE P r)(hcs:jd P r){n:Nat}{ops:Array Oper}{Q:Exit->Act->World->Prop}(ds:List Deferred) :
  ∀{l:T_}{os:List Oper}{k:Nat},ops.toList.drop k=os->Jh P n ops l os=true->∀{g:Gh}{w:World}{t:F_}{O:Nat->Nat}{st st':St},t.size=n->S P g w st t O->kB r l st=some st'->
   (∀w' t' g' O',gI P g w t O st' t' w' g' O'->Q .normal ⟨t',ds⟩ w')->wpOpsIn (FR ro) 0 P ops Q (List.range' k os.length) ⟨t,ds⟩ w
 |[],os,k,hos,hc,g,w,t,O,st,st',hn,s,h,hq=>by
  cases os with
  |nil =>
   simp only[kB,ae]at h;subst h;exact hq _ _ _ _ (gI.refl s)
  |cons o os=>simp[Jh]at hc
 |v::l,os,k,hos,hc,g,w,t,O,st,st',hn,s,h,hq=>by
  simp only[kB]at h;split at h
  .rename_i st1 hv;simp only[Jh]at hc;split at hc
   .rename_i hgh;obtain⟨g1,O1,G⟩:=adl s hgh hv;exact aa0 hr hcs ds hos hc o_ G.st h λw' t' g' O' G2=>hq _ _ _ _ (G.trans G2)
   .cases os with
    |nil=>simp at hc
    |cons o os =>
     simp only[af]at hc;obtain⟨hvi,hrest⟩:=hc;have hk:ops[k]?=some o:=by
      have:=aX (λl=>l[0]?) hos
      grind
     have hos':ops.toList.drop (k+1)=os:=by
      have:=aX (λl=>l.drop 1) hos
      grind [List.drop_drop]
     have key:=are (ro:=ro) hr hcs hn s hv hvi ds (wpOpsIn (FR ro) 0 P ops Q (List.range' (k+1) os.length)) Q λt' w' g' O' G =>
      aa0 hr hcs ds hos' hrest (by rw[G.size,hn]) G.st h λw2 t2 g2 O2 G2=>hq _ _ _ _ (G.trans G2)
     grind [List.range'_succ,wpOpsIn]
  simp_all
end
def jS:Obj->Obj->Prop
 |.cells a,.cells b=>shareAll a=shareAll b
 |o,o'=>o=o'
def dy (h h':am):Prop:=∀id o,get h id=some o->∃o',get h' id=some o'∧jS o o'
theorem jS.refl (o:Obj):jS o o:=by cases o<;>simp[jS]
theorem dy.refl (h:am):dy h h:=λ_ o ho=>⟨o,ho,.refl o⟩
theorem dy.arr {h h':am}(H:dy h h'){id m:Nat}{xs:E_}(g:get h id=some (.arr m xs)):get h' id=some (.arr m xs):=by
 obtain⟨o,h1,h2⟩:=H id _ g
 grind [jS]
theorem dy.cells {h h':am}(H:dy h h'){id:Nat}{cs:D_}(g:get h id=some (.cells cs)):∃cs',get h' id=some (.cells cs')∧shareAll cs=shareAll cs':=by
 obtain⟨o,h1,h2⟩:=H id _ g
 cases o<;>simp[jS]at h2
 simp_all
def fm (f:St->L_)(R M:C_):Prop :=
 ∀e hs v st1,f ⟨e,hs⟩=some (v,st1)->st1.hs=hs∧(cU e->cU st1.env)∧(∀k,k∉M->get st1.env k=get e k)∧
  ∀e' hs',(∀k∈R,get e' k=get e k)->dy hs.heap hs'.heap->∃e1',f ⟨e',hs'⟩=some (v,⟨e1',hs'⟩)∧(∀k,k∉M->get e1' k=get e' k)∧∀k∈M,get e1' k=get st1.env k
theorem H6 {α:Type}(l:List (Nat×α))(i k:Nat):get (del l i) k=if k=i then none else get l k:=by
 induction l<;>grind [abF,AS,ov,iU]
theorem fJ {α:Type}(l:List (Nat×α))(i k:Nat)(x:α):get (put l i x) k=if k=i then some x else get l k:=by
 induction l<;>grind [abI,iU,wn]
theorem uX {α:Type}:∀{a b:List (Nat×α)},cU a->cU b->(∀k,get a k=get b k)->a=b
 |[],[],_,_,_=>rfl
 |[],(k,v)::b,_,_,h=>by have:=h k;grind [iU,AS]
 |(k,v)::a,[],_,_,h=>by have:=h k;grind [iU,AS]
 |(k,v)::a,(j,u)::b,ha,hb,h=>by
  have ha':=bW.1 ha;have hb':=bW.1 hb;have none_of:∀{l:List (Nat×α)}{i:Nat},(∀p∈l,He i p.1)->get l i=none:=by
   intro l i hl
   induction l with
   |nil=>rfl
   |cons p l ih =>
    grind [iU]
  have hkj:k=j:=by
   rcases awT k j with hlt|e|hlt
   .have h1:=h k
    grind [iU]
   .exact e
   .have h1:=h j
    grind [iU]
  subst hkj;have hvu:v=u:=by have h1:=h k;grind [iU]
  subst hvu;rw[uX ha'.2 hb'.2 λi=>?_];by_cases e:k=i
  .grind
  .have h1:=h i
   grind [iU]
def Rm {e e1:aV}{x:Rd}{v:AV}(h:rd e x=some (v,e1)):(cU e->cU e1)∧(∀k,get e1 k=if k∈kw x then none else get e k)∧
  ∀e',(∀k∈oj x,get e' k=get e k)->∃e1',rd e' x=some (v,e1')∧∀k,get e1' k=if k∈kw x then none else get e' k:=by
 cases x<;>grind [rd,kw,oj,cU.del,H6]
def J2:∀{rs:U_}{e e1:aV}{vs:D_},rdAll e rs=some (vs,e1)->(cU e->cU e1)∧(∀k,get e1 k=if k∈bx rs then none else get e k)∧
  ∀e',(∀k∈b7 rs,get e' k=get e k)->∃e1',rdAll e' rs=some (vs,e1')∧∀k,get e1' k=if k∈bx rs then none else get e' k
 |[],e,e1,vs,h=>by
  grind [rdAll,bx]
 |x::rs,e,e1,vs,h=>by
  simp only[rdAll]at h;split at h
  .simp at h
  .rename_i v e2 h1;split at h
   .simp at h
   .rename_i us e3 h2;obtain⟨rfl,rfl⟩:=h;obtain⟨s1,g1,l1⟩:=Rm h1;obtain⟨s2,g2,l2⟩:=J2 h2;have hm:∀k,(k∈bx (x::rs))↔(k∈kw x∨k∈bx rs):=λk=>by simp[bx]
    refine⟨λhs=>s2 (s1 hs),λk=>?_,λe' he=>?_⟩
    .grind
    .obtain⟨e2',h1',g1'⟩:=l1 e' λk hk=>he k (by grind [b7])
     obtain⟨e3',h2',g2'⟩:=l2 e2' λk hk=>by
      grind [b7]
     refine⟨e3',by grind [rdAll],λk=>?_⟩
     grind
def fm.rds {f:St->L_}{rs:U_}(F:D_->HS->M_)
  (mono:∀vs hs hs' v,dy hs.heap hs'.heap->F vs hs=some v->F vs hs'=some v)
  (h:∀e hs,f ⟨e,hs⟩=match rdAll e rs with|none=>none|some (vs,e1)=>match F vs hs with|none=>none|some v=>some (v,⟨e1,hs⟩)):fm f (b7 rs) (bx rs):=by
 intro e hs v st1 hf;rw[h]at hf;split at hf
 .simp at hf
 .rename_i vs e1 hr;split at hf
  .simp at hf
  .obtain⟨rfl,rfl⟩:=hf;obtain⟨s1,g1,l1⟩:=J2 hr;refine⟨rfl,s1,λk hk=>by simp_all,λe' hs' he hle=>?_⟩;obtain⟨e1',hr',g1'⟩:=l1 e' he;exact⟨e1',d_,λk hk=>by simp_all,λk hk=>by simp_all⟩
theorem ka:∀(cs:D_),shareAll cs=cs.map share
 |[]=>rfl
 |c::r=>by simp only[pw,ka r,ct]
def arA (v:AV):toD (share v)=toD v:=by
 cases v<;>try rfl
 rename_i p m xs
 cases p<;>rfl
theorem Zx:∀(cs:D_),me (shareAll cs)=me cs
 |[]=>rfl
 |c::r=>by simp only[pw,me,arA,Zx r]
theorem apj {a b:D_}(h:shareAll a=shareAll b){i:Nat}{v:AV}(g:a[i]?=some v):∃u,b[i]?=some u∧share u=share v:=by
 rw[ka,ka]at h;have:=aX (λl=>l[i]?) h
 grind
theorem apK {a b:D_}(h:shareAll a=shareAll b):a.length=b.length:=by
 rw[ka,ka]at h;simpa using aX List.length h
theorem arc {a b:D_}(h:shareAll a=shareAll b)(i n:Nat):shareAll (sub a i n)=shareAll (sub b i n):=by
 grind [ka,sub,List.map_take,List.map_drop]
theorem dy.load {h h':am}(H:dy h h'){n:I_}{p u:AV}{k:am}(hl:loadAt h n 0 p=some (u,k)):∃k',loadAt h' n 0 p=some (u,k'):=by
 cases p<;>simp only[loadAt,reduceCtorEq]at hl⊢
 .split at hl<;>grind [cells,apj,apK,arc]
 all_goals grind [arr]
theorem dy.objElems {h h':am}(H:dy h h'){id:Nat}{xs:E_}(g:objElems h id=some xs):objElems h' id=some xs:=by
 grind [Vm.objElems,arr,cells,Zx]
theorem dy.elems {h h':am}(H:dy h h'){v:AV}{xs:E_}(g:elems h v=some xs):elems h' v=some xs:=by
 unfold Go.Vm.elems at g⊢
 grind [objElems]
theorem dy.viewOne {h h':am}(H:dy h h'){v u:AV}(g:viewOne h v=some u):viewOne h' v=some u:=by
 unfold Go.Vm.viewOne at g⊢
 grind [elems]
theorem dy.viewAll {h h':am}(H:dy h h'):∀{vs us:D_},viewAll h vs=some us->viewAll h' vs=some us
 |[],_,g=>g
 |v::r,us,g=>by
  simp only[Go.Vm.viewAll]at g⊢;split at g
  .simp at g
  .rename_i x hx;split at g
   .simp at g
   .rename_i xs hxs;simp only[H.viewOne hx,H.viewAll hxs];exact g
def dy.viewArg {h h':am}(H:dy h h'){v u:AV}(g:viewArg h v=some u):viewArg h' v=some u:=by
 unfold Go.Vm.viewArg at g⊢
 grind [viewAll,viewOne]
theorem dy.viewArgs {h h':am}(H:dy h h'):∀{vs us:D_},viewArgs h vs=some us->viewArgs h' vs=some us
 |[],_,g=>g
 |v::r,us,g=>by
  simp only[Go.Vm.viewArgs]at g⊢;split at g
  .simp at g
  .rename_i x hx;split at g
   .simp at g
   .rename_i xs hxs;simp only[H.viewArg hx,H.viewArgs hxs];exact g
def dy.call {r:dC}{f:FuncId}{vs:D_}{h h':am}(H:dy h h'){v:AV}(g:eJ r f vs h=some v):eJ r f vs h'=some v:=by
 grind [eJ,viewArgs]
theorem dy.okSl {h h':am}(H:dy h h'){m:Nat}{v:AV}(g:okSl h m v=true):okSl h' m v=true:=by
 unfold Go.Vm.okSl at g⊢
 grind [arr,cells]
abbrev aR:=@List.cons_append
section
variable {r:dC}
def axQ (x:Rd):fm (TN x) (b7 [x]) (bx [x]):=by
 refine fm.rds (λvs _=>match vs with|[v]=>some v|_=>none) (λ_ _ _ _ _ h=>h) λe hs=>?_
 grind [TN,rdAll]
def apX (zs:D_)(ps:AC_):fm (EQ zs ps) (b7 (pr ps)) (bx (pr ps)):=by
 refine fm.rds (λvs _=>match dY zs (tA ps vs) with|some cs=>some (.agg cs)|none=>none) (λ_ _ _ _ _ h=>h) λe hs=>?_
 grind [EQ]
def avO (m:Nat)(ps:U_):fm (OQ m ps) (b7 ps) (bx ps):=by
 refine fm.rds (λvs _=>match jJ m vs with|some xs=>some (.own true m xs)|none=>none) (λ_ _ _ _ _ h=>h) λe hs=>?_
 grind [OQ]
def aBX {h:am}{n:I_}{p v:AV}{h':am}(hl:loadAt h n 0 p=some (v,h')):h'=h:=by
 cases p<;>simp only[loadAt,reduceCtorEq]at hl
 all_goals grind
def ldV (n:I_)(vs:D_)(hs:HS):M_ :=
 match vs with
 |[v]=>(match loadAt hs.heap n 0 v with|some (u,_)=>some u|none=>none)
 |_=>none
def avx {n:I_}(vs:D_)(hs hs':HS)(v:AV)(H:dy hs.heap hs'.heap)(h:ldV n vs hs=some v):ldV n vs hs'=some v:=by
 unfold ldV at h⊢
 grind [dy.load]
def ay6 (n:I_)(p:Rd):fm (EB n 0 p) (b7 [p]) (bx [p]):=by
 refine fm.rds (ldV n) avx λe hs=>?_
 simp only[EB,rdAll]
 cases rd e p with
 |none=>rfl
 |some q =>
  obtain⟨v,e1⟩:=q
  cases hl:loadAt hs.heap n 0 v with
  |none=>simp only[ldV,hl]
  |some q=>have:=aBX hl;simp_all [ldV]
def aqb (x:Rd):fm (HU x) (b7 [x]) (bx [x]):=by
 refine fm.rds (λvs _=>match vs with|[v]=>(match v with|.ptr ..|.pel ..|.pim ..|.fn ..|.yield ..=>some v|_=>none)|_=>none) (λ_ _ _ _ _ h=>h) λe hs=>?_
 grind [HU,rdAll]
def avF (op:BinOp)(x y:Rd):fm (NJ op x y) (b7 [x,y]) (bx [x,y]):=by
 refine fm.rds (λvs _=>match vs with|[a,b]=>dw op a b|_=>none) (λ_ _ _ _ _ h=>h) λe hs=>?_
 grind [NJ,Ui,rdAll]
def atY (neg:Bool)(x y:Rd):fm (Nx neg x y) (b7 [x,y]) (bx [x,y]):=by
 refine fm.rds (λvs _=>match vs with|[a,b]=>(match a,b with|.d (.bool a),.d (.bool b)=>some (.bool (match neg with|true=>!(a == b)|false=>a == b))|_,_=>none)|_=>none) (λ_ _ _ _ _ h=>h) λe hs=>?_
 grind [Nx,rdAll]
def ath (neg:Bool)(ks:V_)(x y:Rd):fm (MD neg ks x y) (b7 [x,y]) (bx [x,y]):=by
 refine fm.rds (λvs _=>match vs with|[a,b]=>(match a,b with|.agg a,.agg b=>(match bv ks a b with|some t=>some (.bool (match neg with|true=>!t|false=>t))|none=>none)|_,_=>none)|_=>none) (λ_ _ _ _ _ h=>h) λe hs=>?_
 simp only[MD,rdAll]
 cases rd e x<;>grind
def ayg (op:UnOp)(x:Rd):fm (abC op x) (b7 [x]) (bx [x]):=by
 refine fm.rds (λvs _=>match vs with|[a]=>abZ op a|_=>none) (λ_ _ _ _ _ h=>h) λe hs=>?_
 grind [abC,rdAll]
def arU (k:IntKind)(x:Rd):fm (If k x) (b7 [x]) (bx [x]):=by
 refine fm.rds (λvs _=>match vs with|[.d (.int _ n)]=>some (.int k (wr k n))|_=>none) (λ_ _ _ _ _ h=>h) λe hs=>?_
 grind [If,rdAll]
def aqN (x:Rd):fm (Ng x) (b7 [x]) (bx [x]):=by
 refine fm.rds (λvs hs=>match vs with|[v]=>(match elems hs.heap v with|some xs=>(match uQ xs with|some s=>some (.d (.str s))|none=>none)|none=>none)|_=>none) (λvs hs hs' v H h=>?_) λe hs=>?_
 all_goals grind [dy.elems,Ng,rdAll]
def ajb (z:Y_)(x y:Rd):fm (md z x y) (b7 [x,y]) (bx [x,y]):=by
 refine fm.rds (λvs _=>match vs with|[n,c]=>(match dW c aU with|some c=>(match dW n c with|some n=>some (.own true z.length (List.replicate n z))|none=>none)|none=>none)|_=>none) (λ_ _ _ _ _ h=>h) λe hs=>?_
 grind [md,rdAll]
def ayY (off:Nat)(p:Rd):fm (aco off p) (b7 [p]) (bx [p]):=by
 refine fm.rds (λvs _=>match vs with|[a]=>iy off a|_=>none) (λ_ _ _ _ _ h=>h) λe hs=>?_
 grind [aco,rdAll]
def aw8 (off:Nat)(n:I_)(x:Rd):fm (OV off n x) (b7 [x]) (bx [x]):=by
 refine fm.rds (λvs _=>match vs with|[.agg cs]=>FU n cs off|_=>none) (λ_ _ _ _ _ h=>h) λe hs=>?_
 grind [OV,rdAll]
def YU (n k:Nat)(o:AE_):M_ :=
 match o with
 |some xs=>match xs[k]? with
  |some x=>match Nat.beq x.length n with
   |true=>some (.pim x 0)
   |false=>none
  |none=>none
 |none=>none
def ahu (n:Nat)(h:am)(k:Nat)(v:AV):M_ :=
 match v with
 |.sl id off len=>match Nat.ble len k with
  |true=>none
  |false=>match get h id with
   |some (.arr m _)=>match Nat.beq m n with
    |true=>some (.pel id (off+k) 0)
    |false=>none
   |some (.cells _)=>match Nat.beq n 1 with
    |true=>some (.ptr id (off+k))
    |false=>none
   |_=>none
 |v=>YU n k (elems h v)
theorem awF {n k:Nat}{h h':am}(H:dy h h'){v u:AV}(g:ahu n h k v=some u):ahu n h' k v=some u:=by
 have other:YU n k (elems h v)=some u->YU n k (elems h' v)=some u:=by
  intro g
  cases hx:elems h v<;>grind [YU,dy.elems]
 cases v<;>simp only[ahu]at g⊢<;>try exact other g
 grind [dy.arr,dy.cells]
def aAb (n:Nat)(x i:Rd):fm (ahm n x i) (b7 [x,i]) (bx [x,i]):=by
 refine fm.rds (λvs hs=>match vs with|[v,i]=>(match qR i with|some k=>ahu n hs.heap k v|none=>none)|_=>none) (λvs hs hs' v H h=>?_) λe hs=>?_
 .grind [awF]
 simp only[ahm,rdAll]
 cases rd e x with
 |none=>rfl
 |some q =>
  obtain⟨a,e1⟩:=q;simp only
  cases rd e1 i<;>grind [YU,ahu]
def ar2 (len n:Nat)(p i:Rd):fm (MM len n p i) (b7 [p,i]) (bx [p,i]):=by
 refine fm.rds (λvs _=>match vs with|[p,i]=>(match qR i with|some i=>(match Nat.ble len i with|true=>none|false=>iy (i*n) p)|none=>none)|_=>none) (λ_ _ _ _ _ h=>h) λe hs=>?_
 simp only[MM,rdAll]
 grind
def aAm (len n:Nat)(ag:Bool)(x i:Rd):fm (Xg len n ag x i) (b7 [x,i]) (bx [x,i]):=by
 refine fm.rds (λvs _=>match vs with|[.agg cs,i]=>(match qR i with|some i=>(match Nat.ble len i with|true=>none|false=>FU (agV ag n) cs (i*n))|none=>none)|_=>none) (λ_ _ _ _ _ h=>h) λe hs=>?_
 simp only[Xg,rdAll]
 cases rd e x with
 |none=>rfl
 |some q =>
  obtain⟨a,e1⟩:=q;simp only
  cases hi:rd e1 i<;>grind
def awf (x i:Rd):fm (Pc x i) (b7 [x,i]) (bx [x,i]):=by
 refine fm.rds (λvs _=>match vs with|[.d (.str s),i]=>(match qR i with|some i=>(match s[i]? with|some b=>some (.int .u8 (.ofNat b.toNat))|none=>none)|none=>none)|_=>none) (λ_ _ _ _ _ h=>h) λe hs=>?_
 grind [Pc,rdAll]
def axi (x:Rd):fm (TG x) (b7 [x]) (bx [x]):=by
 refine fm.rds (λvs _=>match vs with|[a]=>(match lenOf a with|some n=>some (.int .i64 (.ofNat n))|none=>none)|_=>none) (λ_ _ _ _ _ h=>h) λe hs=>?_
 grind [TG,rdAll]
def awN (x:Rd):fm (Pk x) (b7 [x]) (bx [x]):=by
 refine fm.rds (λvs _=>match vs with|[.nl]=>some (.int .i64 (.ofNat 0))|_=>none) (λ_ _ _ _ _ h=>h) λe hs=>?_
 grind [Pk,rdAll]
def aoR (b:Bool)(xs:U_):fm (Ad b xs) (b7 xs) (bx xs):=by
 refine fm.rds (λvs _=>match vs with|.d (.int k n)::vs=>BM b (.d (.int k n)) vs|_=>none) (λ_ _ _ _ _ h=>h) λe hs=>?_
 grind [Ad]
theorem adk (e:aV):∀(a b:U_),rdAll e (a++b)=match rdAll e a with
  |none=>none
  |some (x,e1)=>match rdAll e1 b with
   |none=>none
   |some (y,e2)=>some (x++y,e2)
 |[],b=>by
  grind [rdAll]
 |r::a,b=>by
  simp only[aR,rdAll]
  cases rd e r with
  |none=>rfl
  |some p =>
   obtain⟨v,e1⟩:=p;simp only[adk e1 a b]
   grind
theorem ac1:∀{rs:U_}{e e1:aV}{vs:D_},rdAll e rs=some (vs,e1)->vs.length=rs.length
 |[],e,e1,vs,h=>by grind [rdAll]
 |x::rs,e,e1,vs,h=>by
  simp only[rdAll]at h;split at h
  .simp at h
  .split at h
   .simp at h
   .rename_i h2;obtain⟨rfl,rfl⟩:=h;simp[ac1 h2]
def atf (f:FuncId)(first caps:U_):fm (I8 f first caps) (b7 (first++caps)) (bx (first++caps)):=by
 refine fm.rds (λvs _=>some (.fn f (shareAll (vs.take first.length)) (shareAll (vs.drop first.length)))) (λ_ _ _ _ _ h=>h) λe hs=>?_
 grind [I8,adk,ac1,List.take_left]
def asV (f:FuncId)(args:U_):fm (F5 r f args) (b7 args) (bx args):=by
 refine fm.rds (λvs hs=>eJ r f vs hs.heap) (λvs hs hs' v H h=>H.call h) λe hs=>?_
 grind [F5]
theorem apW {v:oi}{rs:U_}(h:EP v=some rs):fm (dk v r) (b7 rs) (bx rs):=by
 unfold EP at h;split at h<;>simp only[ae,reduceCtorEq]at h<;>subst h
 .exact axQ _
 .exact apX _ _
 .exact avO _ _
 .exact ay6 _ _
 .exact aqb _
 .exact avF _ _ _
 .exact atY _ _ _
 .exact ath _ _ _ _
 .exact ayg _ _
 .exact arU _ _
 .exact aqN _
 .exact ajb _ _ _
 .exact ayY _ _
 .exact aw8 _ _ _
 .exact aAb _ _ _
 .exact ar2 _ _ _ _
 .exact aAm _ _ _ _ _
 .exact awf _ _
 .exact axi _
 .exact awN _
 .exact aoR _ _
 .exact atf _ _ _
 .exact asV _ _
end
abbrev dn:=@List.mem_append_left
section
variable {r:dC}
def RN (e:aV)(o:AB_)(rs:U_):rdAll e (o.toList++rs)=match rdOpt e o with
  |none=>none
  |some (vo,e1)=>match rdAll e1 rs with
   |none=>none
   |some (vs,e2)=>some (vo.toList++vs,e2):=by
 cases o<;>grind [rdOpt,rdAll]
def ab7:AB_->D_->Option (M_×D_)
 |none,vs=>some (none,vs)
 |some _,v::vs=>some (some v,vs)
 |some _,[]=>none
def acs {e e1:aV}{o:AB_}{vo:M_}(h:rdOpt e o=some (vo,e1))(vs:D_):ab7 o (vo.toList++vs)=some (vo,vs):=by
 cases o with
 |none=>obtain⟨rfl,rfl⟩:=h;rfl
 |some x =>
  simp only[rdOpt]at h;split at h
  .obtain⟨rfl,rfl⟩:=h;rfl
  simp_all
def SK (m:Nat)(lo hi mx:AB_)(h:am)(vs:D_):M_ :=
 match vs with
 |[]=>none
 |v::vs=>match ab7 lo vs with
  |none=>none
  |some (l,vs)=>match ab7 hi vs with
   |none=>none
   |some (hh,vs)=>match ab7 mx vs with
    |none=>none
    |some (k,_)=>match okSl h m v with
     |true=>uU m v l hh k
     |false=>none
def ana {m:Nat}{lo hi mx:AB_}{h h':am}(H:dy h h'){vs:D_}{u:AV}(g:SK m lo hi mx h vs=some u):SK m lo hi mx h' vs=some u:=by
 unfold SK at g⊢;split at g
 .simp at g
 .rename_i v vs
  cases h1:ab7 lo vs with
  |none=>simp_all
  |some p =>
   obtain⟨l,vs1⟩:=p;simp only at g⊢
   cases h2:ab7 hi vs1<;>grind [dy.okSl]
def apo (m:Nat)(x:Rd)(lo hi mx:AB_):fm (Mj m x lo hi mx) (b7 (x::(lo.toList++(hi.toList++(mx.toList++[]))))) (bx (x::(lo.toList++(hi.toList++(mx.toList++[]))))):=by
 refine fm.rds (λvs hs=>SK m lo hi mx hs.heap vs) (λvs hs hs' v H h=>ana H h) λe hs=>?_
 simp only[Mj,rdAll]
 cases rd e x with
 |none=>rfl
 |some q =>
  obtain⟨v,e1⟩:=q;simp only;rw[RN]
  cases h1:rdOpt e1 lo with
  |none=>rfl
  |some q =>
   obtain⟨l,e2⟩:=q;simp only;rw[RN]
   cases h2:rdOpt e2 hi with
   |none=>rfl
   |some q =>
    obtain⟨hh,e3⟩:=q;simp only;rw[RN]
    cases h3:rdOpt e3 mx with
    |none=>rfl
    |some q =>
     simp only[rdAll,SK,acs h1,acs h2,acs h3]
     grind
def Pt {x:Rd}{k:Nat}(h:k∈kw x):k∈oj x:=by
 cases x<;>simp_all [kw,oj]
def arN (c a b:Rd):fm (kQ c a b) (b7 [c,a,b]) (bx [c,a,b]):=by
 intro e hs v st1 hf;unfold kQ at hf;have hm:∀k,k∈bx [c,a,b]↔(k∈kw c∨k∈kw a∨k∈kw b):=λk=>by simp[bx]
 have hsl:∀k,k∈b7 [c,a,b]↔(k∈oj c∨k∈oj a∨k∈oj b):=λk=>by simp[b7]
 split at hf
 .rename_i tb e1 h1;obtain⟨s1,g1,l1⟩:=Rm h1;have key:∀x,(x=a∨x=b)->∀u e2,rd e1 x=some (u,e2)->(∀e' e1' e2' hs',rd e' c=some (B_ tb,e1')->rd e1' x=some (u,e2')->kQ c a b ⟨e',hs'⟩=some (u,⟨e2',hs'⟩))->
    (⟨e2,hs⟩:St).hs=hs∧(cU e->cU e2)∧(∀k,k∉bx [c,a,b]->get e2 k=get e k)∧
    ∀e' hs',(∀k∈b7 [c,a,b],get e' k=get e k)->dy hs.heap hs'.heap->∃e1',kQ c a b ⟨e',hs'⟩=some (u,⟨e1',hs'⟩)∧(∀k,k∉bx [c,a,b]->get e1' k=get e' k)∧∀k∈bx [c,a,b],get e1' k=get e2 k:=by
   intro x hx u e2 h2 hback;obtain⟨s2,g2,l2⟩:=Rm h2;have hbs:∀k,k∈oj x->k∈b7 [c,a,b]:=λk hk=>(hsl k).2 (by grind)
   have hms:∀k,k∈bx [c,a,b]->k∈b7 [c,a,b]:=λk hk=>(hsl k).2 (((hm k).1 hk).imp Pt (Or.imp Pt Pt))
   refine⟨rfl,λh=>s2 (s1 h),λk hk=>?_,λe' hs' he _=>?_⟩
   .grind
   .obtain⟨e1',h1',g1'⟩:=l1 e' λk hk=>he k ((hsl k).2 (.inl hk))
    obtain⟨e2',h2',g2'⟩:=l2 e1' λk hk=>by
     simp_all
    refine⟨e2',hback e' e1' e2' hs' h1' h2',λk hk=>?_,λk hk=>?_⟩
    all_goals grind
  cases tb with
  |true =>
   split at hf
   .obtain⟨rfl,rfl⟩:=hf
    grind [kQ]
   simp_all
  |false =>
   split at hf
   .obtain⟨rfl,rfl⟩:=hf
    grind [kQ]
   simp_all
 simp_all
def axY (j:Nat)(mv:Bool)(i:Nat):fm (C0 j mv i) [j] (if mv then [j] else []):=by
 intro e hs v st1 hf;unfold C0 at hf;split at hf
 .split at hf
  .cases mv with
   |true =>
    obtain⟨rfl,rfl⟩:=hf
    simp_all [cU.put,fJ,C0]
   |false =>
    obtain⟨rfl,rfl⟩:=hf
    simp_all [C0]
  simp_all
 simp_all
def atV (m:Nat)(h:am)(vs:D_):M_ :=
 match vs with
 |[b]=>(match Go.Vm.elems h b with
  |some ys=>(match fW m ys with
   |true=>(match Nat.ble ys.length aU with
    |true=>some (match ys with|[]=>.nl|ys=>.own true m ys)
    |false=>none)
   |false=>none)
  |none=>none)
 |_=>none
def arC (m:Nat)(y:Rd):fm (HQ m (.c .nl) y) (b7 [y]) (bx [y]):=by
 refine fm.rds (λvs hs=>atV m hs.heap vs) (λvs hs hs' v H h=>?_) λe hs=>?_
 .unfold atV at h⊢
  grind [dy.elems]
 .have h0:rd e (.c .nl)=some (.nl,e):=rfl;simp only[HQ,rdAll,h0]
  cases rd e y with
  |none=>rfl
  |some q =>
   obtain⟨b,e1⟩:=q;simp only[atV]
   cases Go.Vm.elems hs.heap b with
   |none=>rfl
   |some ys =>
    simp only
    cases fW m ys with
    |false=>rfl
    |true =>
     simp only[dX]
     cases Nat.ble ys.length aU with
     |false=>rfl
     |true=>cases ys<;>rfl
def Xq {v:oi}{R M:C_}(h:Nj v=some (R,M)):fm (dk v r) R M:=by
 have base:(match EP v with|some rs=>some (b7 rs,bx rs)|none=>none)=some (R,M)->fm (dk v r) R M:=by
  grind [apW]
 cases v<;>try exact base h
 .obtain⟨rfl,rfl⟩:=h;exact arN _ _ _
 .obtain⟨rfl,rfl⟩:=h;exact apo _ _ _ _ _
 .obtain⟨rfl,rfl⟩:=h;exact axY _ _ _
 .rename_i m x y
  cases x<;>try exact base h
  rename_i c
  cases c<;>try exact base h
  obtain⟨rfl,rfl⟩:=h;exact arC _ _
def atn (f:St->X_)(R M:C_):Prop :=
 ∀e hs st1,f ⟨e,hs⟩=some st1->st1.hs=hs∧(cU e->cU st1.env)∧(∀k,k∉M->get st1.env k=get e k)∧
  ∀e' hs',(∀k∈R,get e' k=get e k)->dy hs.heap hs'.heap->∃e1',f ⟨e',hs'⟩=some ⟨e1',hs'⟩∧(∀k,k∉M->get e1' k=get e' k)∧∀k∈M,get e1' k=get st1.env k
def Ro {i:VI}{R M:C_}(h:afo i=some (R,M)):atn (cV r i) R M:=by
 unfold afo at h;split at h
 .simp at h
 .rename_i hth;split at h
  .simp at h
  .rename_i R0 M0 hf;simp only[ae,aQ]at h;obtain⟨rfl,rfl⟩:=h;have hl:=Xq (r:=r) hf;have hM:∀k,k∈M0->k∈(match i.dst with|some d=>d::M0|none=>M0):=λk hk=>by grind
   have set:∀(v:AV) (st:St),(cP i.dst v st).hs=st.hs∧(cU st.env->cU (cP i.dst v st).env)∧∀k,get (cP i.dst v st).env k=if i.dst=some k then some v else get st.env k:=by
    grind [cP,cU.put,fJ]
   have hd:∀k,k∉(match i.dst with|some d=>d::M0|none=>M0)->i.dst≠some k∧k∉M0:=λk hk=>by
    grind
   have go:∀e hs st1,gp r i ⟨e,hs⟩=some st1->st1.hs=hs∧(cU e->cU st1.env)∧(∀k,k∉(match i.dst with|some d=>d::M0|none=>M0)->get st1.env k=get e k)∧
     ∀e' hs',(∀k∈R0++M0,get e' k=get e k)->dy hs.heap hs'.heap->∃e1',gp r i ⟨e',hs'⟩=some ⟨e1',hs'⟩∧(∀k,k∉(match i.dst with|some d=>d::M0|none=>M0)->get e1' k=get e' k)∧
      ∀k∈(match i.dst with|some d=>d::M0|none=>M0),get e1' k=get st1.env k:=by
    intro e hs st1 h;unfold gp at h;simp only[hth]at h;split at h
    .rename_i v st0 hv;simp only[ae]at h;subst h;obtain⟨q1,q2,q3,q4⟩:=hl e hs v st0 hv;obtain⟨t1,t2,t3⟩:=set (firm v) st0;refine⟨t1.trans q1,λh=>t2 (q2 h),λk hk=>?_,λe' hs' he hle=>?_⟩
     .simp_all
     .obtain⟨e1',p1,p2,p3⟩:=q4 e' hs' (λk hk=>he k (dn _ hk)) hle;refine⟨(cP i.dst (firm v) ⟨e1',hs'⟩).env,?_,λk hk=>?_,λk hk=>?_⟩
      .unfold gp;simp only[hth,p1,ae]
       cases i.dst<;>rfl
      all_goals grind
    simp_all
   have no:∀e hs,(cP i.dst (.tup []) ⟨e,hs⟩).hs=hs∧(cU e->cU (cP i.dst (.tup []) ⟨e,hs⟩).env)∧(∀k,k∉(match i.dst with|some d=>d::M0|none=>M0)->get (cP i.dst (.tup []) ⟨e,hs⟩).env k=get e k)∧
     ∀e' hs',(∀k∈R0++M0,get e' k=get e k)->(∀k,k∉(match i.dst with|some d=>d::M0|none=>M0)->get (cP i.dst (.tup []) ⟨e',hs'⟩).env k=get e' k)∧
      ∀k∈(match i.dst with|some d=>d::M0|none=>M0),get (cP i.dst (.tup []) ⟨e',hs'⟩).env k=get (cP i.dst (.tup []) ⟨e,hs⟩).env k:=by
    grind
   intro e hs st1 h;unfold cV at h
   cases hg:i.guard with
   |none =>
    rw[hg]at h;obtain⟨q1,q2,q3,q4⟩:=go e hs st1 h;refine⟨q1,q2,q3,λe' hs' he hle=>?_⟩;obtain⟨e1',p1,p2,p3⟩:=q4 e' hs' he hle
    grind [cV]
   |some sw =>
    obtain⟨sl,want⟩:=sw;rw[hg]at h;simp only at h;have hsl:∀e',(∀k∈sl::(R0++M0),get e' k=get e k)->get e' sl=get e sl:=λe' he=>he sl (.head _)
    have hre:∀e',(∀k∈sl::(R0++M0),get e' k=get e k)->∀k∈R0++M0,get e' k=get e k:=λe' he k hk=>he k (.tail _ hk)
    split at h
    .rename_i b hb;split at h
     .obtain⟨q1,q2,q3,q4⟩:=go e hs st1 h;refine⟨q1,q2,q3,λe' hs' he hle=>?_⟩;obtain⟨e1',p1,p2,p3⟩:=q4 e' hs' (hre e' he) hle
      grind [cV]
     .rename_i hbw;simp only[ae]at h;subst h;obtain⟨q1,q2,q3,q4⟩:=no e hs;refine⟨q1,q2,q3,λe' hs' he _=>?_⟩;obtain⟨p2,p3⟩:=q4 e' hs' (hre e' he);refine⟨(cP i.dst (.tup []) ⟨e',hs'⟩).env,?_,p2,p3⟩;unfold cV;rw[hg];simp only[hsl e' he,hb,hbw,ae]
      cases i.dst<;>rfl
    .rename_i hb;simp only[ae]at h;subst h;obtain⟨q1,q2,q3,q4⟩:=no e hs;refine⟨q1,q2,q3,λe' hs' he _=>?_⟩;obtain⟨p2,p3⟩:=q4 e' hs' (hre e' he);refine⟨(cP i.dst (.tup []) ⟨e',hs'⟩).env,?_,p2,p3⟩;unfold cV;rw[hg];simp only[hsl e' he,hb,ae]
     cases i.dst<;>rfl
    grind
def as5 {f1 f2:St->X_}{R1 M1 R2 M2:C_}(h1:atn f1 R1 M1)(h2:atn f2 R2 M2)(d1:∀k∈M1,k∉R2∧k∉M2)(d2:∀k∈M2,k∉R1∧k∉M1){st st1 st2:St}(hs:cU st.env)
  (a:f1 st=some st1)(b:f2 st1=some st2):∃st1',f2 st=some st1'∧f1 st1'=some st2:=by
 obtain⟨e,hs0⟩:=st;obtain⟨e1,hs1⟩:=st1;obtain⟨e2,hs2⟩:=st2;obtain⟨q1,q2,q3,q4⟩:=h1 e hs0 _ a;subst q1;obtain⟨p1,p2,p3,p4⟩:=h2 e1 hs1 _ b;subst p1;obtain⟨e1',k1,k2,k3⟩:=p4 e _ (λk hk=>(q3 k (λhm=>(d1 k hm).1 hk)).symm) (dy.refl _);obtain⟨_,sk1,_,_⟩:=h2 e hs2 _ k1;obtain⟨e2',m1,m2,m3⟩:=q4 e1' _ (λk hk=>k2 k λhm=>(d2 k hm).1 hk) (dy.refl _);obtain⟨_,sm1,_,_⟩:=h1 e1' hs2 _ m1;refine⟨⟨e1',hs2⟩,k1,?_⟩;rw[m1]
 congr 2
 refine uX (sm1 (sk1 hs)) (p2 (q2 hs)) λk=>?_
 by_cases hk1:k∈M1
 all_goals grind
end
abbrev ck:=@List.getElem?_cons_zero
abbrev qu:=@List.append_of_mem
abbrev dg:=@List.pairwise_append
abbrev fA:=@List.mem_append_right
abbrev sP:=@List.reverse_cons
abbrev aK:=@List.nil_append
abbrev dU:=@List.mem_range
theorem tB {k:Nat}{l:C_}:et k l=true↔k∈l:=by
 induction l<;>grind [et,Nat.beq_eq]
theorem jr {a b:C_}(h:rS a b=true):∀k∈a,k∉b:=by
 induction a<;>grind [rS,tB]
section
variable {P:Program}{g:Gh}{w:World}{t:F_}{O:Nat->Nat}{st st':St}{r:dC}
theorem ajR {a b:VI}(h:uV a b=true){st1 st2:St}(hs:cU st.env)(h1:cV r a st=some st1)(h2:cV r b st1=some st2):∃st1',cV r b st=some st1'∧cV r a st1'=some st2:=by
 unfold uV at h;split at h
 .rename_i R1 M1 R2 M2 e1 e2;simp only[af]at h;obtain⟨⟨k1,k2⟩,k3⟩:=h;exact as5 (Ro (r:=r) e1) (Ro (r:=r) e2) (λk hk=>⟨jr k1 k hk,jr k2 k hk⟩) (λk hk=>⟨jr k3 k hk,λh=>jr k2 k h hk⟩) hs h1 h2
 simp_all
def ajP {a b:VI}(h:uV a b=true){st1:St}(hs:cU st.env)(h1:cV r a st=some st1):cU st1.env:=by
 unfold uV at h;split at h
 .rename_i R1 M1 R2 M2 e1 e2;obtain⟨e,hs0⟩:=st;exact(Ro (r:=r) e1 e hs0 st1 h1).2.1 hs
 simp_all
def XF {vs:T_}{i:Nat}{v:VI}(hv:vs[i]?=some v){l2:C_}:∀{l1:C_}{st st':St},(∀j∈l1,∃u,vs[j]?=some u∧uV u v=true)->cU st.env->
  wT r vs (l1++i::l2) st=some st'->wT r vs (i::(l1++l2)) st=some st'
 |[],st,st',_,_,h=>h
 |j::l1,st,st',hj,hs,h=>by
  obtain⟨u,hu,hm⟩:=hj j (.head _);simp only[aR,wT,hu]at h;split at h
  .simp at h
  .rename_i st1 h1;have h2:=XF hv (λk hk=>hj k (.tail _ hk)) (ajP hm hs h1) h
   grind [wT,ajR]
structure aiV (P:Program)(n:Nat)(ops:Array Oper)(vs:T_):Prop where
 len:vs.length=ops.size
 vi:∀(i:Nat) (v:VI) (o:Oper),vs[i]?=some v->ops[i]?=some o->C4 P n ops v o=true
 pair:∀(i j:Nat) (v u:VI) (o:Oper),j<i->vs[i]?=some v->vs[j]?=some u->ops[i]?=some o->No o j=true∨uV u v=true
 edge:∀(i:Nat) (o:Oper),ops[i]?=some o->∀e∈o.after,e.on<i
def Y0 {o:Oper}{v:VI}:∀{us:T_}{k:Nat},Y9 o v k us=true->∀(j:Nat) (u:VI),us[j]?=some u->No o (k+j)=true∨uV u v=true
 |[],k,_,j,u,h=>by simp at h
 |x::us,k,h,j,u,hu=>by
  simp only[Y9,af,cZ]at h
  cases j with
  |zero=>simp_all
  |succ j=>have:=Y0 h.2 j u u_;grind
def Sa {n:Nat}{ops:Array Oper}:∀{vs:T_}{os:List Oper}{prev:T_},tW P n ops prev vs os=true->vs.length=os.length∧
  ∀(i:Nat) (v:VI) (o:Oper),vs[i]?=some v->os[i]?=some o->C4 P n ops v o=true∧(∀(j:Nat) (u:VI),(prev++vs)[j]?=some u->j<prev.length+i->No o j=true∨uV u v=true)∧
   ∀e∈o.after,e.on<prev.length+i
 |[],[],prev,_=>⟨rfl,λi v o h=>by simp at h⟩
 |x::vs,p::os,prev,h=>by
  simp only[tW,af]at h;obtain⟨⟨⟨h1,h2⟩,h3⟩,h4⟩:=h;obtain⟨k1,k2⟩:=Sa h4;refine⟨by simp[k1],λi v o hv ho=>?_⟩
  cases i with
  |zero =>
   simp only[ck,ae]at hv ho;subst hv ho;refine⟨h1,λj u hu hj=>?_,λe he=>?_⟩
   .rw[co o_]at hu;have:=Y0 h2 j u hu
    simp_all
   grind [Nat.blt_eq]
  |succ i =>
   grind
 |[],_::_,_,h=>by grind [tW]
 |_::_,[],_,h=>by grind [tW]
def ayk {n:Nat}{ops:Array Oper}{vs:T_}(h:tW P n ops [] vs ops.toList=true):aiV P n ops vs:=by
 obtain⟨k1,k2⟩:=Sa h;have hl:vs.length=ops.size:=o_;have hget:∀(i:Nat) (o:Oper),ops[i]?=some o->ops.toList[i]?=some o:=λi o h=>by simp_all
 refine⟨hl,λi v o hv ho=>(k2 i v o hv (hget i o ho)).1,λi j v u o hji hv hu ho=>(k2 i v o hv (hget i o ho)).2.1 j u u_ o_,λi o ho e he=>?_⟩;have hi:i<vs.length:=by
  grind
 simp_all
theorem aaq (m:Region.Mode){e:Edge}(h:xr e.ground=true):Region.binds m e=true:=by
 grind [Region.binds,xr]
structure aa4 (n:Nat)(listed:BE_)(rem:C_):Prop where
 srt:rem.Pairwise (·<·)
 lt:∀i∈rem,i<n
 size:listed.size=n
 mem:∀i,i<n->(i∈rem↔listed.getD i true=false)
def apL {ro:I_}(hr:iE P r)(hcs:jd P r){n:Nat}{ops:Array Oper}{vs:T_}(hok:aiV P n ops vs){Q:Exit->Act->World->Prop}(ds:List Deferred)(m:Region.Mode) :
  ∀{fuel:Nat}{rem:C_},rem.length=fuel->∀{tt:Nat}{listed:BE_},aa4 ops.size listed rem->∀{g:Gh}{w:World}{t:F_}{O:Nat->Nat}{st st':St},t.size=n->S P g w st t O->wT r vs rem st=some st'->
   (∀w' t' g' O',gI P g w t O st' t' w' g' O'->Q .normal ⟨t',ds⟩ w')->wpOpsIn (FR ro) 0 P ops Q (Region.linearise.go m ops fuel tt listed []) ⟨t,ds⟩ w
 |0,rem,hf,tt,listed,hleft,g,w,t,O,st,st',hn,s,h,hq=>by
  have:rem=[]:=ay hf;subst this;simp only[wT,ae]at h;subst h;exact hq _ _ _ _ (gI.refl s)
 |fuel+1,rem,hf,tt,listed,hleft,g,w,t,O,st,st',hn,s,h,hq=>by
  unfold Region.linearise.go;simp only;generalize hrs:((List.range ops.size).filter λi=>!listed.getD i true && ((ops[i]?).map (·.after.all λe=>!Region.binds m e ||listed.getD e.on false)).getD false)=rs;have hmem:∀i,i∈rs↔i<ops.size∧listed.getD i true=false∧∃o,ops[i]?=some o∧∀e∈o.after,Region.binds m e=true->listed.getD e.on false=true:=by
   grind [Array.all_eq_true_iff_forall_mem]
  have hne:rs≠[]:=by
   cases rem with
   |nil=>simp at hf
   |cons i rem =>
    have hi:=hleft.lt i (.head _);have:i∈rs:=(hmem i).2 ⟨hi,(hleft.mem i hi).1 (.head _),ops[i],by simp[hi],λe he _=>by
     have hlt:=hok.edge i ops[i] (by simp[hi]) e he;have hen:e.on<ops.size:=o_;have hnot:e.on∉i::rem:=by
      intro hm;rcases aC.1 hm with e1|hm
      .omega
      .have:=(bW.1 hleft.srt).1 _ hm;omega
     grind [aa4.mem,aa4.size]⟩
    grind
  have hlen:0<rs.length:=bN.2 hne;have hlt:=eC tt hlen;rw[bB hlt];simp only;generalize hi:rs[tt % rs.length]=i;have hirs:i∈rs:=d_;obtain⟨hin,hil,o,ho,hedges⟩:=(hmem i).1 hirs;have hirem:i∈rem:=(hleft.mem i hin).2 hil;obtain⟨l1,l2,rfl⟩:=qu hirem;have hvl:i<vs.length:=by grind [aiV.len]
  have hv:vs[i]?=some vs[i]:=s_;have hp:=dg.1 hleft.srt;have hswap:∀j∈l1,∃u,vs[j]?=some u∧uV u vs[i]=true:=by
   intro j hj;have hji:j<i:=hp.2.2 j hj i (.head _);have hjr:j∈l1++i::l2:=dn _ hj;have hjv:vs[j]?=some (vs[j]' o_):=s_;refine⟨_,hjv,(hok.pair i j _ _ o hji hv hjv ho).resolve_left λhe=>?_⟩
   grind [No,Nat.beq_eq,aaq,aa4.mem]
  have h2:=XF hv hswap s.se h;simp only[wT,hv]at h2;split at h2
  .simp at h2
  .rename_i st1 h3;have hleft':aa4 ops.size (listed.setIfInBounds i true) (l1++l2):=by
    refine⟨dg.2 ⟨hp.1,(bW.1 hp.2.1).2,λa ha b hb=>hp.2.2 a ha b (.tail _ hb)⟩,λk hk=>hleft.lt k ?_,by simp[hleft.size],λk hk=>?_⟩
    .rcases bF.1 hk with h|h
     .exact dn _ h
     .exact fA _ (.tail _ h)
    .have hsz:k<listed.size:=by rw[hleft.size];exact hk
     have hold:=hleft.mem k hk;simp only[gy,f9]at hold⊢;by_cases e:i=k
     .subst e;simp only[bn,hsz,Option.getD_some,lO,iff_false];intro hm;rcases bF.1 hm with h|h
      .have:=hp.2.2 i h i (.head _);omega
      .have:=(bW.1 hp.2.1).1 i h;omega
     .simp only[e,bl];rw[<-hold];simp only[bF,aC];constructor
      .rintro (h|h)
       .exact .inl h
       .exact .inr (.inr h)
      .rintro (h|h|h)
       .exact .inl h
       .exact absurd h.symm e
       .exact .inr h
   have hlen':(l1++l2).length=fuel:=by simp at hf⊢;omega
   have hacc:=linearise_go_acc m ops fuel (tt / rs.length) (listed.setIfInBounds i true) [i];rw[hacc];simp only[sP,List.reverse_nil,aK,aR,wpOpsIn,ho];exact are (ro:=ro) hr hcs hn s h3 (hok.vi i _ o hv ho) ds _ Q λt' w' g' O' G =>
    apL hr hcs hok ds m hlen' hleft' (by rw[G.size,hn]) G.st h2 λw2 t2 g2 O2 G2=>hq _ _ _ _ (G.trans G2)
theorem afQ {vs:T_}:∀{l:T_}{k:Nat}{st:St},vs.drop k=l->wT r vs (List.range' k l.length) st=kB r l st
 |[],k,st,_=>by simp[wT,kB]
 |v::l,k,st,h=>by
  have hv:vs[k]?=some v:=by have:=aX (λl=>l[0]?) h;grind
  have h':vs.drop (k+1)=l:=by have:=aX (λl=>l.drop 1) h;grind [List.drop_drop]
  simp only[ar,List.range'_succ,wT,hv,kB]
  cases cV r v st with
  |none=>rfl
  |some st1=>exact afQ h'
def asr {ro:I_}(hr:iE P r)(hcs:jd P r){n:Nat}{ops:Array Oper}{vs:T_}(ds:List Deferred)(h:tW P n ops [] vs ops.toList=true){Q:Exit->Act->World->Prop}{id:Nat}(hn:t.size=n)
  (s:S P g w st t O)(hrun:kB r vs st=some st')(hq:∀w' t' g' O',gI P g w t O st' t' w' g' O'->Q .normal ⟨t',ds⟩ w'):(Code.region id ops true).wpIn (FR ro) 0 P Q ⟨t,ds⟩ w:=by
 have hok:=ayk h;refine wpIn_region_draw λtt=>?_
 have hx:bL g w g w.drew λ_=>False:=bL.drew _ _ _
 have sd:=s.extF hx rfl s.pmlt;have hrun':wT r vs (List.range ops.size) st=some st':=by
  rw[<-hok.len,List.range_eq_range']
  grind [afQ]
 have hleft:aa4 ops.size (Array.replicate ops.size false) (List.range ops.size):=by
  refine⟨List.pairwise_lt_range,λi hi=>dU.1 hi,s_,λi hi=>?_⟩
  simp_all
 have key:∀m tt,wpOpsIn (FR ro) 0 P ops Q (Region.linearise m ops tt) ⟨t,ds⟩ w.drew:=λm tt =>
  apL (ro:=ro) hr hcs hok ds m s_ hleft hn sd hrun' λw' t' g' O' G=>hq _ _ _ _ ⟨G.st,(hx.mono (T:=λb=>O b≠0) λ_ _ h=>h.elim).trans G.ext λ_ _ h=>h,G.old,G.size⟩
 unfold Region.schedule;split<;>simp_all
end
abbrev HK:=HS->(HS->Prop)->(HS->HS)->Prop
def jl (K:HK)(f:St->L_)(R M:C_):Prop :=
 ∀e hs v st1,f ⟨e,hs⟩=some (v,st1)->∃ρ τ,K hs ρ τ∧st1.hs=τ hs∧(cU e->cU st1.env)∧(∀k,k∉M->get st1.env k=get e k)∧
  ∀e' hs',(∀k∈R,get e' k=get e k)->ρ hs'->∃e1',f ⟨e',hs'⟩=some (v,⟨e1',τ hs'⟩)∧(∀k,k∉M->get e1' k=get e' k)∧∀k∈M,get e1' k=get st1.env k
def T6 (K:HK)(f:St->X_)(R M:C_):Prop :=
 ∀e hs st1,f ⟨e,hs⟩=some st1->∃ρ τ,K hs ρ τ∧st1.hs=τ hs∧(cU e->cU st1.env)∧(∀k,k∉M->get st1.env k=get e k)∧
  ∀e' hs',(∀k∈R,get e' k=get e k)->ρ hs'->∃e1',f ⟨e',hs'⟩=some ⟨e1',τ hs'⟩∧(∀k,k∉M->get e1' k=get e' k)∧∀k∈M,get e1' k=get st1.env k
def KQ:HK:=λhs ρ τ=>(∀hs',dy hs.heap hs'.heap->ρ hs')∧∀hs',τ hs'=hs'
def GW (h:am)(id:Nat):Option Obj->am
 |none=>h
 |some o=>put h id o
def KT:HK:=λhs ρ τ=>(∃id o0 o,get hs.heap id=some o0∧(∀hs',get hs'.heap id=some o0->ρ hs')∧(∀hs',τ hs'=⟨GW hs'.heap id o,hs'.next⟩)∧
 ∀o1,o=some o1->jS o0 o1)∨(∀hs',ρ hs')∧∀hs',τ hs'=hs'
def push:HS->List Obj->HS
 |hs,[]=>hs
 |hs,o::os=>push ⟨put hs.heap hs.next o,hs.next+1⟩ os
def KA:HK:=λhs ρ τ=>∃os,(∀hs',dy hs.heap hs'.heap->hs'.next=hs.next->ρ hs')∧∀hs',hs'.next=hs.next->τ hs'=push hs' os
def KP:HK:=λhs ρ τ=>KQ hs ρ τ∨∃id,(∃m xs,get hs.heap id=some (.arr m xs))∧(∀hs',dy hs.heap hs'.heap->ρ hs')∧∀hs',τ hs'=⟨del hs'.heap id,hs'.next⟩
theorem dy.del {h:am}(id:Nat):dy (del h id) h:=by
 intro k o hk;rw[H6]at hk;split at hk
 .simp at hk
 .exact⟨o,hk,by cases o<;>simp[jS]⟩
def agZ (m:Nat)(x y:Rd):jl KP (HQ m x y) (b7 [x,y]) (bx [x,y]):=by
 intro e hs v st1 hf;unfold HQ at hf;split at hf
 .rename_i a e1 hr;split at hf
  .rename_i b e2 hr2;split at hf
   .rename_i ys hy;split at hf
    .split at hf
     .rename_i w h1 ha;simp only[ae,aQ]at hf;obtain⟨rfl,rfl⟩:=hf;have hall:rdAll e [x,y]=some ([a,b],e2):=by grind [rdAll]
      obtain⟨s1,g1,l1⟩:=J2 hall;have back:∀e' hs' h1',(∀k∈b7 [x,y],get e' k=get e k)->dy hs.heap hs'.heap->dX m hs'.heap a ys=some (w,h1')->
        ∃e1',HQ m x y ⟨e',hs'⟩=some (w,⟨e1',⟨h1',hs'.next⟩⟩)∧(∀k,k∉bx [x,y]->get e1' k=get e' k)∧∀k∈bx [x,y],get e1' k=get e2 k:=by
       intro e' hs' h1' he hle happ;obtain⟨e1',hr',g1'⟩:=l1 e' he;refine⟨e1',?_,λk hk=>by simp_all,λk hk=>by simp_all⟩;simp only[rdAll]at hr';split at hr'<;>grind [HQ,dy.elems]
      unfold dX at ha;split at ha
      .simp at ha
      .split at ha
       .obtain⟨rfl,rfl⟩:=ha;exact⟨λhs'=>dy hs.heap hs'.heap,id,.inl ⟨λ_ h=>h,λ_=>rfl⟩,rfl,s1,λk hk=>by simp_all,λe' hs' he hρ=>back e' hs' _ he hρ (by grind [dX])⟩
       .split at ha
        .obtain⟨rfl,rfl⟩:=ha;exact⟨λhs'=>dy hs.heap hs'.heap,id,.inl ⟨λ_ h=>h,λ_=>rfl⟩,rfl,s1,λk hk=>by simp_all,λe' hs' he hρ=>back e' hs' _ he hρ (by grind [dX])⟩
        simp_all
       .rename_i id off len;split at ha
        .rename_i k xs hg;split at ha
         .obtain⟨rfl,rfl⟩:=ha;exact⟨λhs'=>dy hs.heap hs'.heap,λhs'=>⟨Go.Vm.del hs'.heap id,hs'.next⟩,.inr ⟨id,⟨_,_,hg⟩,λ_ h=>h,λ_=>rfl⟩,rfl,s1,λk hk=>by simp_all,λe' hs' he hρ=>back e' hs' _ he hρ (by grind [dX,dy.arr])⟩
         simp_all
        simp_all
       simp_all
     simp_all
    simp_all
   simp_all
  simp_all
 simp_all
theorem jS.symm {a b:Obj}(h:jS a b):jS b a:=by
 cases a<;>cases b<;>simp_all [jS]
def awA {f:St->L_}{R M:C_}(h:fm f R M):jl KQ f R M:=by
 intro e hs v st1 hf;obtain⟨h1,h2,h3,h4⟩:=h e hs v st1 hf;exact⟨λhs'=>dy hs.heap hs'.heap,id,⟨λ_ h=>h,λ_=>rfl⟩,h1,h2,h3,h4⟩
mutual
theorem E7:∀(v:AV),share (share v)=share v
 |.own p m xs=>by cases p<;>rfl
 |.agg cs=>by simp only[share,shareAll_share cs]
 |.tup cs=>by simp only[share,shareAll_share cs]
 |.junk|.d _|.nl|.gl _|.nilp|.ptr _ _|.pel _ _ _|.pim _ _|.sl _ _ _|.fn _ _ _|.nilf|.yield _=>by rfl
theorem shareAll_share:∀(vs:D_),shareAll (shareAll vs)=shareAll vs
 |[]=>rfl
 |v::r=>by simp only[pw,E7 v,shareAll_share r]
end
theorem M6:∀(vs:D_),shareAll (fN 2 vs).2=shareAll vs
 |[]=>rfl
 |v::r=>by
  simp only[fN,pw,M6 r]
  grind [rl,E7]
def aCc {h h1:am}{n:I_}{p v:AV}(hl:loadAt h n 2 p=some (v,h1)) :
  (∃id o0 o,get h id=some o0∧h1=GW h id o∧(∀o1,o=some o1->jS o0 o1)∧∀h',get h' id=some o0->loadAt h' n 2 p=some (v,GW h' id o))∨
   h1=h∧∀h',loadAt h' n 2 p=some (v,h'):=by
 cases p<;>simp only[loadAt,reduceCtorEq]at hl
 .rename_i id off;split at hl
  .rename_i cs hg
   cases n with
   |none =>
    simp only at hl;split at hl
    .simp at hl
    .rename_i u hu;obtain⟨rfl,rfl⟩:=hl;refine .inl ⟨id,_,some (.cells (cs.set off (rl 2 u).2)),hg,rfl,λo1 ho=>?_,λh' he=>?_⟩
     .simp only[ae]at ho;subst ho;simp only[jS,ka,rl];refine dK λi=>?_
      grind [E7]
     .simp only[loadAt,he,hu];rfl
   |some m =>
    simp only at hl;split at hl
    .rename_i hb;obtain⟨rfl,rfl⟩:=hl;refine .inl ⟨id,_,some (.cells (aG cs off (fN 2 (sub cs off m)).2)),hg,rfl,λo1 ho=>?_,λh' he=>?_⟩
     .simp only[jS]
      grind [Nat.le_of_ble_eq_true,M6,ka,List.length_map,sub,aG,List.map_drop,List.take_append_drop]
     .simp only[loadAt,he,hb];rfl
    simp_all
  simp_all
 .rename_i id i off;split at hl
  .rename_i m xs hg;split at hl
   .rename_i x hx;split at hl
    .rename_i u hu;obtain⟨rfl,rfl⟩:=hl;exact .inl ⟨id,_,none,hg,rfl,λo1 ho=>by simp at ho,λh' he=>by simp only[loadAt,he,hx,hu];rfl⟩
    simp_all
   simp_all
  simp_all
 grind [loadAt]
def avQ (n:I_)(p:Rd):jl KT (EB n 2 p) (oj p) (kw p):=by
 intro e hs v st1 hf;unfold EB at hf;split at hf
 .rename_i u e1 hr;split at hf
  .rename_i w h1 hl;obtain⟨rfl,rfl⟩:=hf;obtain⟨s1,g1,l1⟩:=Rm hr;rcases aCc hl with ⟨id,o0,o,k0,k1,k2,k3⟩|⟨k1,k3⟩
   .refine⟨λhs'=>get hs'.heap id=some o0,λhs'=>⟨GW hs'.heap id o,hs'.next⟩,.inl ⟨id,o0,o,k0,λ_ h=>h,λ_=>rfl,k2⟩,by rw[k1],s1,λk hk=>by simp_all,λe' hs' he hρ=>?_⟩;obtain⟨e1',hr',g1'⟩:=l1 e' he
    simp_all [EB]
   .refine⟨λ_=>True,id,.inr ⟨λ_=>trivial,λ_=>rfl⟩,u_,s1,λk hk=>by simp_all,λe' hs' he _=>?_⟩;obtain⟨e1',hr',g1'⟩:=l1 e' he
    simp_all [EB]
  simp_all
 simp_all
section
variable {r:dC}{K:HK}
theorem TC (d:I_)(v:AV)(st:St):(cP d v st).hs=st.hs∧(cU st.env->cU (cP d v st).env)∧∀k,get (cP d v st).env k=if d=some k then some v else get st.env k:=by
 cases hd:d<;>grind [cP,cU.put,fJ]
theorem TS {i:VI}{M0:C_}{k:Nat}(hk:k∉yW i M0):i.dst≠some k∧k∉M0:=by
 grind [yW]
theorem amb {i:VI}{M0:C_}{k:Nat}(hk:k∈yW i M0):i.dst=some k∨k∈M0:=by
 grind [yW]
def tU {i:VI}{R0 M0:C_}{f:St->L_}(hf:∀st,gp r i st=match f st with|some (v,st)=>some (cP i.dst v st)|none=>none)(hl:jl K f R0 M0)(hid:∀hs,K hs (λ_=>True) id) :
  T6 K (cV r i) (P7 i (R0++M0)) (yW i M0):=by
 have go:∀e hs st1,gp r i ⟨e,hs⟩=some st1->∃ρ τ,K hs ρ τ∧st1.hs=τ hs∧(cU e->cU st1.env)∧(∀k,k∉yW i M0->get st1.env k=get e k)∧
   ∀e' hs',(∀k∈R0++M0,get e' k=get e k)->ρ hs'->∃e1',gp r i ⟨e',hs'⟩=some ⟨e1',τ hs'⟩∧(∀k,k∉yW i M0->get e1' k=get e' k)∧∀k∈yW i M0,get e1' k=get st1.env k:=by
  intro e hs st1 h;rw[hf]at h;split at h
  .rename_i v st0 hv;simp only[ae]at h;subst h;obtain⟨ρ,τ,hK,q1,q2,q3,q4⟩:=hl e hs v st0 hv;obtain⟨t1,t2,t3⟩:=TC i.dst v st0;refine⟨ρ,τ,hK,t1.trans q1,λh=>t2 (q2 h),λk hk=>?_,λe' hs' he hρ=>?_⟩
   .grind [TS]
   .obtain⟨e1',p1,p2,p3⟩:=q4 e' hs' (λk hk=>he k (dn _ hk)) hρ;obtain⟨u1,u2,u3⟩:=TC i.dst v ⟨e1',τ hs'⟩;refine⟨(cP i.dst v ⟨e1',τ hs'⟩).env,?_,λk hk=>?_,λk hk=>?_⟩
    .rw[hf,p1]
     cases i.dst<;>rfl
    all_goals grind [TS,amb]
  simp_all
 have no:∀e hs,(cP i.dst (.tup []) ⟨e,hs⟩).hs=hs∧(cU e->cU (cP i.dst (.tup []) ⟨e,hs⟩).env)∧(∀k,k∉yW i M0->get (cP i.dst (.tup []) ⟨e,hs⟩).env k=get e k)∧
   ∀e' hs',(∀k∈R0++M0,get e' k=get e k)->(∀k,k∉yW i M0->get (cP i.dst (.tup []) ⟨e',hs'⟩).env k=get e' k)∧
    ∀k∈yW i M0,get (cP i.dst (.tup []) ⟨e',hs'⟩).env k=get (cP i.dst (.tup []) ⟨e,hs⟩).env k:=by
  intro e hs;obtain⟨t1,t2,t3⟩:=TC i.dst (.tup []) ⟨e,hs⟩;refine⟨t1,t2,λk hk=>?_,λe' hs' he=>?_⟩
  .rw[t3,aa (TS hk).1]
  grind [TC,TS,amb]
 intro e hs st1 h;unfold cV at h
 cases hg:i.guard with
 |none =>
  simp_all [P7,cV]
 |some sw =>
  obtain⟨sl,want⟩:=sw;rw[hg]at h;simp only at h;have hgs:P7 i (R0++M0)=sl::(R0++M0):=by unfold P7;rw[hg]
  rw[hgs];have hsl:∀e',(∀k∈sl::(R0++M0),get e' k=get e k)->get e' sl=get e sl:=λe' he=>he sl (.head _)
  have hre:∀e',(∀k∈sl::(R0++M0),get e' k=get e k)->∀k∈R0++M0,get e' k=get e k:=λe' he k hk=>he k (.tail _ hk)
  split at h
  .rename_i b hb;split at h
   .obtain⟨ρ,τ,hK,q1,q2,q3,q4⟩:=go e hs st1 h;refine⟨ρ,τ,hK,q1,q2,q3,λe' hs' he hρ=>?_⟩;obtain⟨e1',p1,p2,p3⟩:=q4 e' hs' (hre e' he) hρ
    grind [cV]
   .rename_i hbw;simp only[ae]at h;subst h;obtain⟨q1,q2,q3,q4⟩:=no e hs;refine⟨λ_=>True,id,hid hs,q1,q2,q3,λe' hs' he _=>?_⟩;obtain⟨p2,p3⟩:=q4 e' hs' (hre e' he);refine⟨(cP i.dst (.tup []) ⟨e',hs'⟩).env,?_,p2,p3⟩;unfold cV;rw[hg];simp only[hsl e' he,hb,hbw,ae]
    cases i.dst<;>rfl
  .rename_i hb;simp only[ae]at h;subst h;obtain⟨q1,q2,q3,q4⟩:=no e hs;refine⟨λ_=>True,id,hid hs,q1,q2,q3,λe' hs' he _=>?_⟩;obtain⟨p2,p3⟩:=q4 e' hs' (hre e' he);refine⟨(cP i.dst (.tup []) ⟨e',hs'⟩).env,?_,p2,p3⟩;unfold cV;rw[hg];simp only[hsl e' he,hb,ae]
   cases i.dst<;>rfl
  grind
def KQ.id (hs:HS):KQ hs (λ_=>True) _root_.id:=⟨λ_ _=>trivial,λ_=>rfl⟩
def KT.id (hs:HS):KT hs (λ_=>True) _root_.id:=.inr ⟨λ_=>trivial,λ_=>rfl⟩
def KP.id (hs:HS):KP hs (λ_=>True) _root_.id:=.inl (KQ.id hs)
def KA.id (hs:HS):KA hs (λ_=>True) _root_.id:=⟨[],λ_ _ _=>trivial,λ_ _=>rfl⟩
theorem ad1:∀(os:List Obj) (hs:HS),(push hs os).next=hs.next+os.length
 |[],_=>rfl
 |o::os,hs=>by simp only[push,ad1 os,ar];omega
theorem aix:∀(a b:List Obj) (hs:HS),push hs (a++b)=push (push hs a) b
 |[],_,_=>rfl
 |o::a,b,hs=>by simp only[aR,push,aix a b]
def Ry (n:Nat)(v:AV):∃u os,∀hs:HS,hs.next=n->nR hs v=(u,push hs os):=by
 have same:(∀hs,nR hs v=(v,hs))->∃u os,∀hs:HS,hs.next=n->nR hs v=(u,push hs os):=λh=>⟨v,[],λhs _=>h hs⟩
 cases v<;>try exact same λhs=>rfl
 rename_i p m xs
 cases p with
 |false=>exact same λhs=>rfl
 |true =>
  cases hm:Nat.beq m 0 with
  |true=>simp_all [nR]
  |false =>
   refine⟨.sl n 0 xs.length,[.arr m xs],λhs hn=>?_⟩
   grind [nR,push]
def PQ (n o:Nat)(v:AV):∃u os,∀hs:HS,hs.next=n->mz hs o v=(u,push hs os):=by
 have one:(∀hs,mz hs o v=nR hs v)->∃u os,∀hs:HS,hs.next=n->mz hs o v=(u,push hs os):=λh=>by
  simp_all [Ry]
 cases v<;>try exact one λhs=>rfl
 rename_i cs
 cases hc:cs[o]? with
 |none=>exact⟨.agg cs,[],λhs _=>by grind [mz,push]⟩
 |some v =>
  obtain⟨u,os,k⟩:=Ry n v;exact⟨.agg (cs.set o u),os,λhs hn=>by grind [mz]⟩
def aeo (n:Nat)(p:Nat×Nat)(v:AV):∃u os,∀hs:HS,hs.next=n->qy hs p v=(u,push hs os):=by
 have one:(∀hs,qy hs p v=mz hs p.2 v)->∃u os,∀hs:HS,hs.next=n->qy hs p v=(u,push hs os):=λh=>by
  simp_all [PQ]
 cases v<;>try exact one λhs=>rfl
 rename_i cs
 cases hc:cs[p.1]? with
 |none=>exact⟨.tup cs,[],λhs _=>by grind [qy,push]⟩
 |some v =>
  obtain⟨u,os,k⟩:=PQ n p.2 v;exact⟨.tup (cs.set p.1 u),os,λhs hn=>by grind [qy]⟩
def Nk:∀(th:S_) (n:Nat) (v:AV),∃u os,∀hs:HS,hs.next=n->dS th v hs=(u,push hs os)
 |[],n,v=>⟨v,[],λhs _=>rfl⟩
 |p::r,n,v=>by
  obtain⟨u,os,k⟩:=aeo n p v;obtain⟨u2,os2,k2⟩:=Nk r (n+os.length) u;refine⟨u2,os++os2,λhs hn=>?_⟩
  grind [dS,ad1,aix]
end
def C5.K:C5->HK
 |.q=>KQ
 |.t=>KT
 |.a=>KA
 |.p=>KP
section
variable {r:dC}
def An {i:VI}(h:i.th=[])(st:St):gp r i st=match (match dk i.op r st with|some (v,st)=>some (firm v,st)|none=>none) with|some (v,st)=>some (cP i.dst v st)|none=>none:=by
 grind [gp]
theorem jl.firm {K:HK}{f:St->L_}{R M:C_}(h:jl K f R M):jl K (λst=>match f st with|some (v,st)=>some (firm v,st)|none=>none) R M:=by
 intro e hs v st1 hf;simp only at hf;split at hf
 .rename_i u st0 hu;simp only[ae,aQ]at hf;obtain⟨rfl,rfl⟩:=hf;obtain⟨ρ,τ,h1,h2,h3,h4,h5⟩:=h e hs u st0 hu;refine⟨ρ,τ,h1,h2,h3,h4,λe' hs' he hρ=>?_⟩;obtain⟨e1',q1,q2,q3⟩:=h5 e' hs' he hρ
  simp_all
 simp_all
def anC (zs:D_):jl KA (MO zs) [] []:=by
 intro e hs v st1 hf;obtain⟨rfl,rfl⟩:=hf;refine⟨λhs'=>hs'.next=hs.next,λhs'=>push hs' [.cells zs],⟨[.cells zs],λ_ _ h=>h,λ_ _=>rfl⟩,rfl,λh=>h,λ_ _=>rfl,λe' hs' _ hn=>⟨e',?_,λ_ _=>rfl,λk hk=>by simp at hk⟩⟩;simp only[MO,hn];rfl
def asq (x:Rd):jl KA (T5 x) (oj x) (kw x):=by
 intro e hs v st1 hf;unfold T5 at hf;split at hf
 .rename_i u e1 hr;split at hf
  .rename_i hc;obtain⟨rfl,rfl⟩:=hf;obtain⟨s1,g1,l1⟩:=Rm hr;refine⟨λhs'=>hs'.next=hs.next,λhs'=>push hs' [.cells u.cells],⟨[.cells u.cells],λ_ _ h=>h,λ_ _=>rfl⟩,rfl,s1,λk hk=>by simp_all,λe' hs' he hn=>?_⟩;obtain⟨e1',hr',g1'⟩:=l1 e' he;refine⟨e1',?_,λk hk=>by simp_all,λk hk=>by simp_all⟩;unfold T5;simp only[hr',hc,hn];rfl
  simp_all
 simp_all
def amg {i:VI}{p:Nat×Nat}{th:S_}(h:i.th=p::th)(st:St):gp r i st=match (match dk i.op r st with|some (v,st)=>some (firm (dS (p::th) v st.hs).1,(⟨st.env,(dS (p::th) v st.hs).2⟩:St))|none=>none) with|some (v,st)=>some (cP i.dst v st)|none=>none:=by
 grind [gp]
def jl.thaw {f:St->L_}{R M:C_}(h:fm f R M)(th:S_):jl KA (λst=>match f st with|some (v,st)=>some (Go.Vm.firm (dS th v st.hs).1,(⟨st.env,(dS th v st.hs).2⟩:St))|none=>none) R M:=by
 intro e hs v st1 hf;simp only at hf;split at hf
 .rename_i u st0 hu;obtain⟨rfl,rfl⟩:=hf;obtain⟨h1,h2,h3,h4⟩:=h e hs u st0 hu;obtain⟨w,os,hw⟩:=Nk th hs.next u;refine⟨λhs'=>dy hs.heap hs'.heap∧hs'.next=hs.next,λhs'=>push hs' os,⟨os,λ_ a b=>⟨a,b⟩,λ_ _=>rfl⟩,?_,h2,h3,λe' hs' he hρ=>?_⟩
  .simp_all
  .obtain⟨e1',q1,q2,q3⟩:=h4 e' hs' he hρ.1
   simp_all
 simp_all
def oa {i:VI}{k:C5}{R M:C_}(h:jR i=some (k,R,M)):T6 k.K (cV r i) R M:=by
 unfold jR at h;split at h
 .rename_i p th hth;split at h
  .rename_i R0 M0 hf;obtain⟨rfl,rfl,rfl⟩:=h;exact tU (amg hth) (jl.thaw (Xq (r:=r) hf) (p::th)) KA.id
  simp_all
 .rename_i hth;split at h
  .rename_i n p ho;obtain⟨rfl,rfl,rfl⟩:=h;exact tU (An hth) (jl.firm (by rw[ho];exact avQ n p)) KT.id
  .rename_i m x y ho;obtain⟨rfl,rfl,rfl⟩:=h;exact tU (An hth) (jl.firm (by rw[ho];exact agZ m _ y)) KP.id
  .rename_i m x y ho;obtain⟨rfl,rfl,rfl⟩:=h;exact tU (An hth) (jl.firm (by rw[ho];exact agZ m _ y)) KP.id
  .rename_i zs ho;obtain⟨rfl,rfl,rfl⟩:=h;exact tU (An hth) (jl.firm (by rw[ho];exact anC zs)) KA.id
  .rename_i x ho;obtain⟨rfl,rfl,rfl⟩:=h;exact tU (An hth) (jl.firm (by rw[ho];exact asq x)) KA.id
  .split at h
   .rename_i R0 M0 hf;obtain⟨rfl,rfl,rfl⟩:=h;exact tU (An hth) (jl.firm (awA (Xq (r:=r) hf))) KQ.id
   simp_all
structure dr (st:St):Prop where
 se:cU st.env
 sh:cU st.hs.heap
 fr:∀id,st.hs.next<=id->get st.hs.heap id=none
theorem Ot (h:am)(id k:Nat)(o:Option Obj):get (GW h id o) k=match o with|none=>get h k|some o=>if k=id then some o else get h k:=by
 cases o with
 |none=>rfl
 |some o=>exact fJ h id k o
def Xw {h:am}(hs:cU h)(id:Nat)(o:Option Obj):cU (GW h id o):=by
 cases o with
 |none=>exact hs
 |some o=>exact hs.put _ _
theorem Wi:∀(os:List Obj) (hs:HS) (k:Nat),k<hs.next->get (push hs os).heap k=get hs.heap k
 |[],_,_,_=>rfl
 |o::os,hs,k,hk=>by
  rw[push,Wi os _ k d_]
  grind [fJ]
def alB:∀(os:List Obj) (hs:HS),(∀id,hs.next<=id->get hs.heap id=none)->∀id,(push hs os).next<=id->get (push hs os).heap id=none
 |[],_,h=>h
 |o::os,hs,h=>alB os _ λid hid=>by
  grind [fJ]
def aiG:∀(os:List Obj) (hs:HS),cU hs.heap->cU (push hs os).heap
 |[],_,h=>h
 |o::os,hs,h=>aiG os _ (h.put _ _)
def aiT:∀(os:List Obj) (hs:HS) (id:Nat) (o:Option Obj),cU hs.heap->id<hs.next->push ⟨GW hs.heap id o,hs.next⟩ os=⟨GW (push hs os).heap id o,(push hs os).next⟩
 |[],_,_,_,_,_=>rfl
 |p::os,hs,id,o,hsrt,hid=>by
  have e:put (GW hs.heap id o) hs.next p=GW (put hs.heap hs.next p) id o:=by
   refine uX ((Xw hsrt id o).put _ _) (Xw (hsrt.put _ _) id o) λk=>?_
   grind [fJ,Ot]
  simp only[push];rw[e];exact aiT os ⟨put hs.heap hs.next p,hs.next+1⟩ id o (hsrt.put _ _) (by grind)
theorem dy.push {hs:HS}(fr:∀id,hs.next<=id->get hs.heap id=none)(os:List Obj):dy hs.heap (push hs os).heap:=by
 intro id o h
 grind [jS.refl,Wi]
theorem dy.upd {h:am}{id:Nat}{o0:Obj}{o:Option Obj}(g:get h id=some o0)(ho:∀o1,o=some o1->jS o0 o1):dy h (GW h id o)∧dy (GW h id o) h:=by
 constructor
 .intro k x hx
  grind [Ot,jS.refl]
 .intro k x hx
  grind [Ot,jS.refl,jS.symm]
theorem Ir {i:VI}{k:C5}{R M:C_}(h:jR i=some (k,R,M)){st st1:St}(inv:dr st)(hr:cV r i st=some st1):dr st1:=by
 obtain⟨e,hs⟩:=st;obtain⟨ρ,τ,hK,h1,h2,_,_⟩:=oa (r:=r) h e hs st1 hr;refine⟨h2 inv.se,?_,?_⟩
 .rw[h1]
  cases k with
  |q=>rw[hK.2 hs];exact inv.sh
  |t =>
   rcases hK with ⟨id,o0,o,g,_,ht,_⟩|⟨_,ht⟩
   .rw[ht];exact Xw inv.sh _ _
   .rw[ht];exact inv.sh
  |a=>obtain⟨os,_,ht⟩:=hK;rw[ht hs rfl];exact aiG _ _ inv.sh
  |p =>
   rcases hK with hK|⟨id,_,_,ht⟩
   .rw[hK.2 hs];exact inv.sh
   .rw[ht];exact inv.sh.del _
 .rw[h1]
  cases k with
  |q=>rw[hK.2 hs];exact inv.fr
  |t =>
   rcases hK with ⟨id,o0,o,g,_,ht,_⟩|⟨_,ht⟩
   .rw[ht];intro k hk;have:=inv.fr k hk
    grind [Ot]
   .rw[ht];exact inv.fr
  |a=>obtain⟨os,_,ht⟩:=hK;rw[ht hs rfl];exact alB _ _ inv.fr
  |p =>
   rcases hK with hK|⟨id,_,_,ht⟩
   .rw[hK.2 hs];exact inv.fr
   .rw[ht];intro k hk;rw[H6];split
    .rfl
    .exact inv.fr k hk
def aoH {u v:VI}(h:HX u v=true){st st1 st2:St}(inv:dr st)(a:cV r u st=some st1)(b:cV r v st1=some st2):∃st1',cV r v st=some st1'∧cV r u st1'=some st2:=by
 unfold HX at h;split at h
 .rename_i k1 R1 M1 k2 R2 M2 e1 e2;simp only[af]at h;obtain⟨⟨⟨hk,a1⟩,a2⟩,a3⟩:=h;have d1:∀k∈M1,k∉R2∧k∉M2:=λk hk=>⟨jr a1 k hk,jr a2 k hk⟩
  have d2:∀k∈M2,k∉R1∧k∉M1:=λk hk=>⟨jr a3 k hk,λh=>jr a2 k h hk⟩
  have inv1:=Ir e1 inv a;have inv2:=Ir e2 inv1 b;obtain⟨e,hs⟩:=st;obtain⟨ρ1,τ1,K1,q1,q2,q3,q4⟩:=oa (r:=r) e1 e hs _ a;obtain⟨en1,hs1⟩:=st1;subst q1;obtain⟨ρ2,τ2,K2,p1,p2,p3,p4⟩:=oa (r:=r) e2 en1 (τ1 hs) _ b;have key:ρ2 hs∧ρ1 (τ2 hs)∧τ1 (τ2 hs)=τ2 (τ1 hs):=by
   cases k1 with
   |a=>grind [Ba]
   |p =>
    cases k2 with
    |t=>grind [Ba]
    |a=>grind [Ba]
    |p=>grind [Ba]
    |q =>
     have ht:∀x,τ2 x=x:=K2.2;rcases K1 with K1|⟨id,_,hρ,hτ⟩
     .rw[K1.2 hs]at K2;exact⟨K2.1 _ (.refl _),by rw[ht];exact K1.1 _ (.refl _),u_⟩
     .exact⟨K2.1 _ (by grind [dy.del]),by grind [dy.refl],u_⟩
   |q =>
    have ht:∀x,τ1 x=x:=K1.2
    cases k2 with
    |p=>grind [Ba]
    |q =>
     rw[ht hs]at K2;exact⟨K2.1 _ (.refl _),by rw[K2.2];exact K1.1 _ (.refl _),u_⟩
    |t =>
     rw[ht hs]at K2;rcases K2 with ⟨id,o0,o,g,hρ,hτ,hl⟩|⟨hρ,hτ⟩
     .exact⟨hρ _ g,by rw[hτ];exact K1.1 _ (dy.upd g hl).1,u_⟩
     .exact⟨hρ _,by rw[hτ];exact K1.1 _ (.refl _),u_⟩
    |a =>
     rw[ht hs]at K2;obtain⟨os,hρ,hτ⟩:=K2;exact⟨hρ _ (.refl _) rfl,by rw[hτ _ rfl];exact K1.1 _ (dy.push inv.fr os),u_⟩
   |t =>
    cases k2 with
    |t=>grind [Ba]
    |p=>grind [Ba]
    |q =>
     have ht:∀x,τ2 x=x:=K2.2;rcases K1 with ⟨id,o0,o,g,hρ,hτ,hl⟩|⟨hρ,hτ⟩
     .exact⟨K2.1 _ (by grind [dy.upd]),u_,u_⟩
     .exact⟨K2.1 _ (by grind [dy.refl]),hρ _,u_⟩
    |a =>
     obtain⟨os,hρ2,hτ2⟩:=K2;rcases K1 with ⟨id,o0,o,g,hρ,hτ,hl⟩|⟨hρ,hτ⟩
     .have hn:(τ1 hs).next=hs.next:=by rw[hτ]
      have hid:id<hs.next:=by
       rcases bH id hs.next with h1|h1
       .exact h1
       .have:=inv.fr id h1;simp_all
      refine⟨hρ2 _ (by grind [dy.upd]) hn.symm,?_,?_⟩
      .grind [Wi]
      .rw[hτ2 _ hn.symm,hτ2 _ rfl,hτ,hτ];exact(aiT os hs id o inv.sh hid).symm
     grind [dy.refl]
  obtain⟨c1,c2,c3⟩:=key;obtain⟨e1',k1',k2',k3'⟩:=p4 e hs (λk hk=>(q3 k (λhm=>(d1 k hm).1 hk)).symm) c1;obtain⟨e2',m1,m2,m3⟩:=q4 e1' (τ2 hs) (λk hk=>k2' k λhm=>(d2 k hm).1 hk) c2;have invA:=Ir e2 inv k1';have invB:=Ir e1 invA m1;refine⟨⟨e1',τ2 hs⟩,k1',?_⟩;rw[m1,c3]
  congr 2
  refine uX invB.se inv2.se λk=>?_
  by_cases hk1:k∈M1
  all_goals grind
 simp_all
end
mutual
theorem apx:∀(a b:D),PW a b=true->a=b
 |.int k n,b,h=>by
  cases b<;>simp only[PW,ao,af,decide_eq_true_eq]at h
  rw[FI h.1,h.2]
 |.bool x,b,h=>by
  cases b<;>simp only[PW,ao,beq_iff_eq]at h
  rw[h]
 |.str s,b,h=>by
  cases b<;>simp only[PW,ao,beq_iff_eq]at h
  rw[h]
 |.lst xs,b,h=>by
  cases b<;>simp only[PW,ao]at h
  rw[eqDss_eq xs _ h]
theorem aa8:∀(a b:Y_),SA a b=true->a=b
 |[],b,h=>by cases b<;>simp only[SA,ao]at h;rfl
 |x::r,b,h=>by
  cases b<;>simp only[SA,ao,af]at h
  rw[apx x _ h.1,aa8 r _ h.2]
theorem eqDss_eq:∀(a b:E_),eqDss a b=true->a=b
 |[],b,h=>by cases b<;>simp only[eqDss,ao]at h;rfl
 |x::r,b,h=>by
  cases b<;>simp only[eqDss,ao,af]at h
  rw[aa8 x _ h.1,eqDss_eq r _ h.2]
end
mutual
theorem axq:∀(a b:AV),iV a b=true->a=b
 |.junk,b,h=>by cases b<;>simp only[iV,ao]at h;rfl
 |.d x,b,h=>by
  cases b<;>simp only[iV,ao]at h
  rw[apx x _ h]
 |.nl,b,h=>by cases b<;>simp only[iV,ao]at h;rfl
 |.own p m xs,b,h=>by
  cases b<;>simp only[iV,ao,af,beq_iff_eq,aB]at h
  rw[h.1.1,h.1.2,eqDss_eq xs _ h.2]
 |.gl n,b,h=>by
  cases b<;>simp only[iV,ao,aB]at h
  rw[h]
 |.agg cs,b,h=>by
  cases b<;>simp only[iV,ao]at h
  rw[eqAVs_eq cs _ h]
 |.tup cs,b,h=>by
  cases b<;>simp only[iV,ao]at h
  rw[eqAVs_eq cs _ h]
 |.nilp,b,h=>by cases b<;>simp only[iV,ao]at h;rfl
 |.ptr _ _,b,h=>by
  cases b<;>simp only[iV,ao,af,aB]at h
  rw[h.1,h.2]
 |.pel _ _ _,b,h=>by
  cases b<;>simp only[iV,ao,af,aB]at h
  rw[h.1.1,h.1.2,h.2]
 |.pim cs _,b,h=>by
  cases b<;>simp only[iV,ao,af,aB]at h
  rw[aa8 cs _ h.1,h.2]
 |.sl _ _ _,b,h=>by
  cases b<;>simp only[iV,ao,af,aB]at h
  rw[h.1.1,h.1.2,h.2]
 |.fn _ a c,b,h=>by
  cases b<;>simp only[iV,ao,af,aB]at h
  rw[h.1.1,eqAVs_eq a _ h.1.2,eqAVs_eq c _ h.2]
 |.nilf,b,h=>by cases b<;>simp only[iV,ao]at h;rfl
 |.yield _,b,h=>by
  cases b<;>simp only[iV,ao,aB]at h
  rw[h]
theorem eqAVs_eq:∀(a b:D_),eqAVs a b=true->a=b
 |[],b,h=>by cases b<;>simp only[eqAVs,ao]at h;rfl
 |x::r,b,h=>by
  cases b<;>simp only[eqAVs,ao,af]at h
  rw[axq x _ h.1,eqAVs_eq r _ h.2]
end
theorem aAz {a b:Obj}(h:eqO a b=true):a=b:=by
 cases a<;>cases b<;>simp only[eqO,ao,af,aB]at h
 all_goals grind [eqAVs_eq,eqDss_eq]
theorem Sr (h:am)(k:Nat):∀(ids:C_),get (dM ids h) k=if k∈ids then get h k else none
 |[]=>by grind [dM,AS]
 |i::r=>by
  have ih:=Sr h k r
  grind [dM,fJ]
def dy.only (h:am)(ids:C_):dy (dM ids h) h:=by
 intro k o hk
 grind [Sr,jS.refl]
theorem ado:∀{F:C_}{h h':am},dE F h h'=true->∀{k:Nat}{o:Obj},k∈F->get h k=some o->get h' k=some o
 |[],_,_,_,k,o,hm,_=>by simp at hm
 |i::r,h,h',hs,k,o,hm,hk=>by
  simp only[dE,af]at hs;rcases aC.1 hm with e|hm
  .grind [aAz]
  .exact ado hs.2 hm hk
def acU:∀{F:C_}{h h':am}{i:Nat},dE F h h'=true->i∈F->(match get h i with
   |some o=>(match get h' i with|some o'=>eqO o o'|none=>false)
   |none=>true)=true
 |x::F,h,h',i,hs,hi=>by
  simp only[dE,af]at hs;rcases aC.1 hi with e|hi
  .grind
  .exact acU hs.2 hi
theorem adA:∀{F' F:C_}{h h':am},dE F h h'=true->(∀k∈F',k∈F)->dE F' h h'=true
 |[],_,_,_,_,_=>rfl
 |i::r,F,h,h',hs,hsub=>by
  simp only[dE,af];exact⟨acU hs (hsub i (.head _)),adA hs λk hk=>hsub k (.tail _ hk)⟩
def dy.same {F ids:C_}{h h':am}(hs:dE F h h'=true)(hsub:∀k∈ids,k∈F):dy (dM ids h) (dM ids h'):=by
 intro k o hk
 grind [Sr,ado,jS.refl]
section
variable {r:dC}
def agY (f:St->X_)(R M:C_):Prop :=
 ∀e hs st1,f ⟨e,hs⟩=some st1->(cU e->cU st1.env)∧(∀k,k∉M->get st1.env k=get e k)∧
  ∀e',(∀k∈R,get e' k=get e k)->∃e1',f ⟨e',hs⟩=some ⟨e1',st1.hs⟩∧(∀k,k∉M->get e1' k=get e' k)∧∀k∈M,get e1' k=get st1.env k
def T6.w {K:HK}{f:St->X_}{R M:C_}(h:T6 K f R M)(hK:∀hs ρ τ,K hs ρ τ->ρ hs):agY f R M:=by
 intro e hs st1 hf;obtain⟨ρ,τ,k,q1,q2,q3,q4⟩:=h e hs st1 hf;refine⟨q2,q3,λe' he=>?_⟩;rw[q1];exact q4 e' hs he (hK _ _ _ k)
def C5.self (k:C5)(hs:HS)(ρ:HS->Prop)(τ:HS->HS)(h:k.K hs ρ τ):ρ hs:=by
 cases k with
 |q=>exact h.1 _ (.refl _)
 |t =>
  rcases h with ⟨id,o0,o,g,hρ,_⟩|⟨hρ,_⟩<;>simp_all
 |a=>obtain⟨os,hρ,_⟩:=h;grind [dy.refl]
 |p =>
  rcases h with h|⟨id,_,hρ,_⟩
  .exact h.1 _ (.refl _)
  grind [dy.refl]
def KW:HK:=λhs ρ _=>ρ hs
def KW.id (hs:HS):KW hs (λ_=>True) _root_.id:=trivial
def jl.rdsW {f:St->L_}{rs:U_}(F:D_->HS->W_)
  (h:∀e hs,f ⟨e,hs⟩=match rdAll e rs with|none=>none|some (vs,e1)=>match F vs hs with|none=>none|some (v,hs1)=>some (v,⟨e1,hs1⟩)):jl KW f (b7 rs) (bx rs):=by
 intro e hs v st1 hf;rw[h]at hf;split at hf
 .simp at hf
 .rename_i vs e1 hr;split at hf
  .simp at hf
  .rename_i u hs1 hu;obtain⟨rfl,rfl⟩:=hf;obtain⟨s1,g1,l1⟩:=J2 hr;refine⟨λhs'=>hs'=hs,λ_=>hs1,rfl,rfl,s1,λk hk=>by simp_all,λe' hs' he hρ=>?_⟩;obtain⟨e1',hr',g1'⟩:=l1 e' he
   simp_all
def jl.thawW {f:St->L_}{R M:C_}(h:jl KW f R M)(th:S_):jl KW (λst=>match f st with|some (v,st)=>some (Go.Vm.firm (dS th v st.hs).1,(⟨st.env,(dS th v st.hs).2⟩:St))|none=>none) R M:=by
 intro e hs v st1 hf;simp only at hf;split at hf
 .rename_i u st0 hu;obtain⟨rfl,rfl⟩:=hf;obtain⟨ρ,τ,k,h1,h2,h3,h4⟩:=h e hs u st0 hu;refine⟨λhs'=>hs'=hs,λ_=>(dS th u st0.hs).2,rfl,rfl,h2,h3,λe' hs' he hρ=>?_⟩;subst hρ;obtain⟨e1',q1,q2,q3⟩:=h4 e' hs' he k
  simp_all
 simp_all
def aqR {v:oi}{rs:U_}(h:asQ v=some rs):jl KW (dk v r) (b7 rs) (bx rs):=by
 unfold asQ at h;split at h<;>simp only[ae,reduceCtorEq]at h<;>subst h
 .rename_i n t p;refine jl.rdsW (λvs hs=>match vs with|[p]=>(match loadAt hs.heap n t p with|some (v,h)=>some (v,⟨h,hs.next⟩)|none=>none)|_=>none) λe hs=>?_
  grind [dk,EB,rdAll]
 .rename_i n p x;refine jl.rdsW (λvs hs=>match vs with|[p,v]=>(match storeAt hs.heap n p v with|some h=>some (.junk,⟨h,hs.next⟩)|none=>none)|_=>none) λe hs=>?_
  simp only[dk,an3,rdAll]
  grind
 .rename_i m x y;refine jl.rdsW (λvs hs=>match vs with
   |[a,b]=>(match Y6 m (.c a) (.c b) ⟨[],hs⟩ with|some (v,st)=>some (v,st.hs)|none=>none)
   |_=>none) λe hs=>?_
  simp only[dk,Y6,rdAll]
  cases rd e x with
  |none=>rfl
  |some q =>
   obtain⟨a,e1⟩:=q;simp only
   cases rd e1 y with
   |none=>rfl
   |some q =>
    obtain⟨b,e2⟩:=q;simp only[rd]
    cases elems hs.heap b with
    |none=>rfl
    |some ys =>
     simp only;split<;>grind
 .rename_i z x;refine jl.rdsW (λvs hs=>match vs with
   |[a]=>(match TP z (.c a) ⟨[],hs⟩ with|some (v,st)=>some (v,st.hs)|none=>none)
   |_=>none) λe hs=>?_
  simp only[dk,TP,rdAll]
  grind [rd]
 .rename_i f args;refine jl.rdsW (λvs hs=>r.call f vs hs) λe hs=>?_
  grind [dk,EC]
 .refine jl.rdsW (λvs hs=>match vs with|fv::vs=>cq r fv vs hs|[]=>none) λe hs=>?_
  grind [dk,DF,rdAll]
def A8 {i:VI}{R M:C_}(h:ki i=some (R,M)):agY (cV r i) R M:=by
 unfold ki at h;split at h
 .rename_i k R0 M0 hk;obtain⟨rfl,rfl⟩:=h;exact(oa hk).w k.self
 .split at h
  .rename_i rs hrs;obtain⟨rfl,rfl⟩:=h;refine T6.w (K:=KW) ?_ λ_ _ _ h=>h
   cases hth:i.th with
   |nil=>exact tU (An hth) (jl.firm (aqR hrs)) KW.id
   |cons p th=>exact tU (amg hth) (jl.thawW (aqR hrs) (p::th)) KW.id
  simp_all
theorem Rs {i:VI}{k:C5}{R M:C_}(h:jR i=some (k,R,M)){d:Nat}(hd:i.dst=some d):d∈M:=by
 grind [yW,jR]
theorem Fr {i:VI}{R M:C_}(h:ki i=some (R,M)){d:Nat}(hd:i.dst=some d):d∈M:=by
 grind [ki,Rs,yW]
def Wn {e e':aV}:∀{ws:C_},(∀k∈ws,get e' k=get e k)->TR e' ws=TR e ws
 |[],_=>rfl
 |w::ws,h=>by
  simp only[TR,h w (.head _),Wn λk hk=>h k (.tail _ hk)]
def kA {a:Bool}{i:VI}{R M:C_}(h:zR a i=some (R,M))(F:C_):agY (b9 r a F i) R M:=by
 unfold zR at h;split at h
 .rename_i R0 M0 hf
  cases a with
  |false =>
   obtain⟨rfl,rfl⟩:=h;exact A8 hf
  |true =>
   obtain⟨rfl,rfl⟩:=h;have hl:=A8 (r:=r) hf;intro e hs st1 hr;have hids:∀e',(∀k∈R0++Q9 (TF i.op),get e' k=get e k)->nT i e'=nT i e:=λe' he=>Wn λk hk=>he k (fA _ hk)
   have hR0:∀e',(∀k∈R0++Q9 (TF i.op),get e' k=get e k)->∀k∈R0,get e' k=get e k:=λe' he k hk=>he k (dn _ hk)
   simp only[b9,wH]at hr;split at hr
   .split at hr
    .rename_i st2 h2;split at hr
     .simp only[ae]at hr;subst hr;obtain⟨q1,q2,q3⟩:=hl e hs _ h2;refine⟨q1,q2,λe' he=>?_⟩;obtain⟨e1',p1,p2,p3⟩:=q3 e' (hR0 e' he)
      grind [b9,wH]
     simp_all
    simp_all
   .split at hr
    .rename_i st2 h2;split at hr
     .split at hr
      .split at hr
       .simp only[ae]at hr;subst hr;obtain⟨q1,q2,q3⟩:=hl e hs _ h2;refine⟨q1,q2,λe' he=>?_⟩;obtain⟨e1',p1,p2,p3⟩:=q3 e' (hR0 e' he)
        grind [Fr,b9,wH]
       simp_all
      simp_all
     simp_all
    simp_all
   .split at hr
    .rename_i st2 h2;simp only[ae]at hr;subst hr;obtain⟨q1,q2,q3⟩:=hl e _ _ h2;refine⟨q1,q2,λe' he=>?_⟩;obtain⟨e1',p1,p2,p3⟩:=q3 e' (hR0 e' he)
     simp_all [b9,wH]
    simp_all
 simp_all
theorem wP {f1 f2:St->X_}{R1 M1 R2 M2:C_}(h1:agY f1 R1 M1)(h2:agY f2 R2 M2)(d1:∀k∈M1,k∉R2∧k∉M2)(d2:∀k∈M2,k∉R1∧k∉M1){e e1 e2:aV}{hs hs1 hs2 hsB:HS}(hsrt:cU e)
  (a:f1 ⟨e,hs⟩=some ⟨e1,hs1⟩)(b:f2 ⟨e1,hs1⟩=some ⟨e2,hs2⟩)(i:f2 ⟨e1,hs⟩=some ⟨e2,hsB⟩)(ii:f1 ⟨e,hsB⟩=some ⟨e1,hs2⟩) :
  ∃st1',f2 ⟨e,hs⟩=some st1'∧f1 st1'=some ⟨e2,hs2⟩:=by
 obtain⟨s1,g1,_⟩:=h1 e hs _ a;obtain⟨s2,g2,l2⟩:=h2 e1 hs _ i;obtain⟨e',k1,k2,k3⟩:=l2 e λk hk=>(g1 k λhm=>(d1 k hm).1 hk).symm
 obtain⟨s3,g3,l3⟩:=h1 e hsB _ ii;obtain⟨e'',m1,m2,m3⟩:=l3 e' λk hk=>k2 k λhm=>(d2 k hm).1 hk
 refine⟨⟨e',hsB⟩,k1,?_⟩;rw[m1];obtain⟨t1,_,_⟩:=h2 e hs _ k1;obtain⟨t2,_,_⟩:=h1 e' hsB _ m1
 congr 2
 refine uX (t2 (t1 hsrt)) (s2 (s1 hsrt)) λk=>?_
 by_cases hk1:k∈M1
 all_goals grind
def as8 {v:oi}(hv:sOp v=true){e:aV}{hs:HS}{x:AV}{st1:St}(h:dk v r ⟨e,hs⟩=some (x,st1)):st1.hs=hs∧∀hs',dk v r ⟨e,hs'⟩=some (x,⟨st1.env,hs'⟩):=by
 cases v<;>simp only[sOp,ao]at hv
 all_goals
  simp only[dk,TN,kQ,EQ,OQ,HU,NJ,Ui,Nx,MD,abC,If,I8,md,aco,OV,MM,Xg,Pc,C0,TG,Pk,Ad]at h⊢
  repeat' split at h
  all_goals grind
end
abbrev jp:=@Nat.ne_of_beq_eq_false
section
variable {r:dC}
def IJ {l:S_}(h:Ms l=true):l=[]:=by
 grind [Ms]
theorem OS {a:Bool}{F:C_}{i:VI}(h:kS a i=true){e:aV}{hs:HS}{st1:St}(hr:b9 r a F i ⟨e,hs⟩=some st1):st1.hs=hs∧∀hs',b9 r a F i ⟨e,hs'⟩=some ⟨st1.env,hs'⟩:=by
 simp only[kS,af,cO]at h;obtain⟨⟨ha,hth⟩,hop⟩:=h;have hth:=IJ hth;subst ha;simp only[b9]at hr⊢;have go:∀st1,gp r i ⟨e,hs⟩=some st1->st1.hs=hs∧∀hs',gp r i ⟨e,hs'⟩=some ⟨st1.env,hs'⟩:=by
  intro st1 h;unfold gp at h;simp only[hth]at h;split at h
  .rename_i v st0 hv;simp only[ae]at h;subst h;obtain⟨q1,q2⟩:=as8 hop hv;refine⟨by cases i.dst<;>exact q1,λhs'=>?_⟩;unfold gp;simp only[hth,q2 hs']
   cases i.dst<;>rfl
  simp_all
 unfold cV at hr
 cases hg:i.guard with
 |none =>
  grind [cV]
 |some sw =>
  rw[hg]at hr;simp only at hr;split at hr
  .rename_i b hb;split at hr
   .grind [cV]
   .rename_i hbw;simp only[ae]at hr;subst hr;exact⟨by cases i.dst<;>rfl,λhs'=>by unfold cV;rw[hg];simp only[hb,hbw];cases i.dst<;>rfl⟩
  .rename_i hb;simp only[ae]at hr;subst hr;exact⟨by cases i.dst<;>rfl,λhs'=>by unfold cV;rw[hg];simp only[hb];cases i.dst<;>rfl⟩
  simp_all
theorem W8 {i:VI}(h:isQ i=true):∃R M,jR i=some (.q,R,M):=by
 grind [isQ]
theorem Xz {i:VI}(h:isP i=true):∃R M,jR i=some (.p,R,M):=by
 grind [isP]
theorem KM {i:VI}(h:JO i=true):tP i.op=.read:=by
 grind [JO]
def ap9 {i:VI}(h:ahe i=true):tP i.op=.take:=by
 grind [ahe]
theorem adU {i:VI}(h:ZS i=true):tP i.op=.call:=by
 grind [ZS]
theorem Tn {a:Bool}{F:C_}{i:VI}(h:Ws a i=true){e:aV}{hs:HS}{st1:St}(hr:b9 r a F i ⟨e,hs⟩=some st1):st1.hs=hs:=by
 simp only[Ws,af,cZ,cO]at h;obtain⟨hq,hn⟩:=h;obtain⟨R,M,hk⟩:=W8 hq;have plain:cV r i ⟨e,hs⟩=some st1->st1.hs=hs:=λh=>by
  obtain⟨ρ,τ,K,q1,_⟩:=oa hk e hs st1 h;rw[q1];exact K.2 hs
 cases a<;>grind [KM,b9,wH]
def TD {K:HK}{f:St->X_}{R M:C_}(hl:T6 K f R M){e:aV}(hsrt:cU e){hs:HS}{st1:St}(hr:f ⟨e,hs⟩=some st1):∃ρ τ,K hs ρ τ∧st1.hs=τ hs∧∀hs',ρ hs'->f ⟨e,hs'⟩=some ⟨st1.env,τ hs'⟩:=by
 obtain⟨ρ,τ,k,q1,q2,q3,q4⟩:=hl e hs st1 hr;refine⟨ρ,τ,k,q1,λhs' hρ=>?_⟩;obtain⟨e1',p1,p2,p3⟩:=q4 e hs' (λ_ _=>rfl) hρ;obtain⟨_,_,_,_,s2,_,_⟩:=hl e hs' _ p1
 grind [uX]
def aqK {F F':C_}{u:VI}(hq:isQ u=true)(hn:JO u=true){e:aV}(hsrt:cU e){hs:HS}{st1:St}(hr:b9 r true F u ⟨e,hs⟩=some st1) :
  ∀hs',dy (dM (nT u e) hs.heap) (dM (nT u e) hs'.heap)->b9 r true F' u ⟨e,hs'⟩=some ⟨st1.env,hs'⟩:=by
 intro hs' hle;obtain⟨R,M,hk⟩:=W8 hq;have hn:=KM hn;simp only[b9,wH,hn]at hr⊢;split at hr
 .rename_i st2 h2;simp only[ae]at hr;subst hr;obtain⟨ρ,τ,K,q1,q2⟩:=TD (oa hk) hsrt h2;rw[q2 ⟨dM (nT u e) hs'.heap,hs'.next⟩ (K.1 _ hle)]
 simp_all
def apa {F:C_}{v:VI}(hn:ZS v=true){e:aV}{hs:HS}{st1:St}(hr:b9 r true F v ⟨e,hs⟩=some st1):dE F hs.heap st1.hs.heap=true:=by
 grind [adU,b9,wH]
def ahW {a:Bool}{F F':C_}{v:VI}{st st1:St}(hsub:∀k∈F',k∈F)(hr:b9 r a F v st=some st1):b9 r a F' v st=some st1:=by
 cases a<;>grind [b9,wH,adA]
def at9 (a:Bool)(v:VI)(e:aV){F F':C_}(hsub:∀k∈F',k∈F):∀k∈jU a v e F',k∈jU a v e F:=by
 intro k hk;unfold jU at hk⊢
 grind
def aw3 (a:Bool)(v:VI)(e:aV)(F:C_):∀k∈F,k∈jU a v e F:=by
 intro k hk;unfold jU
 grind
theorem Wj {nr:C_}{vs:T_}:∀{l:C_}{F F':C_}{st st':St},(∀k∈F',k∈F)->fH r nr vs l F st=some st'->fH r nr vs l F' st=some st'
 |[],_,_,_,_,_,h=>h
 |i::l,F,F',st,st',hsub,h=>by
  simp only[fH]at h⊢;split at h
  .simp at h
  .split at h
   .simp at h
   .rename_i st1 h1;simp only[ahW hsub h1];exact Wj (at9 _ _ _ hsub) h
theorem al6 {a:Bool}{F:C_}{v:VI}{e:aV}{hs:HS}(hsrt:cU e){R M:C_}(hf:a=false∨tP v.op≠.read∨jR v=some (.q,R,M)){st1:St}(hr:b9 r a F v ⟨e,hs⟩=some st1):cV r v ⟨e,hs⟩=some st1:=by
 cases a with
 |false=>exact hr
 |true =>
  simp only[b9,wH]at hr;split at hr
  .grind
  .grind
  .rename_i hn;split at hr
   .rename_i st2 h;simp only[ae]at hr;subst hr;have hk:=(hf.resolve_left s_).resolve_left (λh=>h hn);obtain⟨ρ,τ,K,q1,q2⟩:=TD (oa hk) hsrt h;have:=q2 hs (K.1 _ (dy.only _ _));rw[K.2 hs]at this;exact this
   simp_all
theorem tL {a b:Bool}{u v:VI}(h:Fp a b u v=true):∃R1 M1 R2 M2,zR a u=some (R1,M1)∧zR b v=some (R2,M2)∧(∀k∈M1,k∉R2∧k∉M2)∧∀k∈M2,k∉R1∧k∉M1:=by
 grind [Fp,jr]
def amx {a:Bool}{v:VI}{R M:C_}(h:zR a v=some (R,M)){e e':aV}(he:∀k∈R,get e' k=get e k)(F:C_):jU a v e' F=jU a v e F:=by
 cases a with
 |false=>rfl
 |true =>
  unfold zR at h;split at h
  .obtain⟨rfl,rfl⟩:=h;have:nT v e'=nT v e:=Wn λk hk=>he k (fA _ hk)
   grind [jU]
  simp_all
def SL (r:dC)(a b:Bool)(u v:VI)(F:C_)(st st1 st2:St):Prop :=
 ∃st1',b9 r b F v st=some st1'∧b9 r a (jU b v st.env F) u st1'=some st2∧∀k∈jU a u st1'.env (jU b v st.env F),k∈jU b v st1.env (jU a u st.env F)
theorem asC {a b:Bool}{u v:VI}{R1 M1 R2 M2:C_}(f1:zR a u=some (R1,M1))(f2:zR b v=some (R2,M2))(d1:∀k∈M1,k∉R2∧k∉M2)(d2:∀k∈M2,k∉R1∧k∉M1){F:C_}{st st1 st2 st1':St}
  (h1:b9 r a F u st=some st1)(k1:b9 r b F v st=some st1')(k2:b9 r a (jU b v st.env F) u st1'=some st2):SL r a b u v F st st1 st2:=by
 refine⟨st1',k1,k2,?_⟩;obtain⟨e,hs⟩:=st;obtain⟨_,g1,_⟩:=kA (r:=r) f1 F e hs _ h1;obtain⟨_,g2,_⟩:=kA (r:=r) f2 F e hs _ k1;rw[amx f1 (e:=e) (e':=st1'.env) (λk hk=>g2 k λhm=>(d2 k hm).1 hk),amx f2 (e:=e) (e':=st1.env) (λk hk=>g1 k λhm=>(d1 k hm).1 hk)];intro k hk
 cases a with
 |false=>exact hk
 |true =>
  cases b<;>grind [jU]
theorem ZI {a b:Bool}{u v:VI}(h:Uj a b u v=true){F:C_}{st st1 st2:St}(hsrt:cU st.env)(h1:b9 r a F u st=some st1)(h2:b9 r b (jU a u st.env F) v st1=some st2):SL r a b u v F st st1 st2:=by
 simp only[Uj,af,cZ]at h;obtain⟨hap,h⟩:=h;obtain⟨R1,M1,R2,M2,f1,f2,d1,d2⟩:=tL hap;have l1:=λF=>kA (r:=r) f1 F
 have l2:=λF=>kA (r:=r) f2 F
 have h2':=ahW (F':=F) (aw3 a u st.env F) h2;have fin:(∃st1',b9 r b F v st=some st1'∧b9 r a F u st1'=some st2)->(∀{s s':St},b9 r a F u s=some s'->b9 r a (jU b v st.env F) u s=some s')->SL r a b u v F st st1 st2:=by
  grind [asC]
 obtain⟨e,hs⟩:=st;obtain⟨e1,hs1⟩:=st1;obtain⟨e2,hs2⟩:=st2;rcases h with ((h|h)|h)|h
 .obtain⟨q1,q2⟩:=OS h h1;subst q1;refine fin (wP (l1 F) (l2 F) d1 d2 hsrt h1 h2' h2' (q2 hs2)) λ{s s'} hs=>?_
  simp only[kS,af,cO]at h;rw[h.1.1]at hs⊢;exact hs
 .obtain⟨q1,q2⟩:=OS h h2';subst q1;refine fin (wP (l1 F) (l2 F) d1 d2 hsrt h1 h2' (q2 hs) h1) λ{s s'} hs=>?_
  simp only[kS,af,cO]at h;rw[h.1.1];exact hs
 .have q1:=Tn h.1 h1;have q2:=Tn h.2 h2'
  grind [wP,Ws,Bool.not_eq_true',KM,b9,wH]
 .simp only[agO,af]at h;obtain⟨⟨⟨⟨rfl,rfl⟩,hq⟩,hn⟩,hc⟩:=h;have q1:=Tn (r:=r) (a:=true) (i:=u) (by grind [Ws]) h1;subst q1;have hnu:=KM hn;have hsame:=apa hc h2;have hle:=dy.same (ids:=nT u e) hsame (λk hk=>by grind [jU]);have hF:jU true v e F=F:=by grind [jU,adU]
  refine fin (wP (l1 F) (l2 F) d1 d2 hsrt h1 h2' h2' (aqK hq hn hsrt h1 hs2 hle)) λ{s s'} hs=>?_
  simp_all
def Lg (m:Bool)(vs:D_)(i:Nat):D_:=match m with|true=>vs.set i .junk|false=>vs
def Wd (m:Bool)(e:aV)(j:Nat)(vs:D_)(i:Nat):aV:=match m with|true=>put e j (.tup (Lg m vs i))|false=>e
def an2 (m:Bool)(x:AV):AV:=match m with|true=>x|false=>share x
def amf {m:Bool}{vs:D_}{i k:Nat}(h:i≠k):(Lg m vs i)[k]?=vs[k]?:=by
 cases m
 .rfl
 .exact List.getElem?_set_ne h
theorem apz {m n:Bool}{vs:D_}{i k:Nat}(h:i≠k):Lg n (Lg m vs i) k=Lg m (Lg n vs k) i:=by
 cases m<;>cases n<;>try rfl
 exact List.set_comm _ _ h
theorem Xr {m:Bool}{e:aV}{j:Nat}{vs:D_}{i:Nat}(hj:get e j=some (.tup vs))(q:Nat):get (Wd m e j vs i) q=if q=j then some (.tup (Lg m vs i)) else get e q:=by
 cases m
 all_goals grind [Wd,Lg,fJ]
theorem I9 {m:Bool}{e:aV}(h:cU e)(j:Nat)(vs:D_)(i:Nat):cU (Wd m e j vs i):=by
 cases m
 .exact h
 .exact h.put _ _
theorem Ne {u:VI}{j:Nat}{m:Bool}{i d:Nat}(ho:u.op=.ext j m i)(hd:u.dst=some d)(hg:u.guard=none)(ht:u.th=[])(e:aV)(hs:HS):cV r u ⟨e,hs⟩ =
  match get e j with
  |some (.tup vs)=>match vs[i]? with
   |some x=>some ⟨put (Wd m e j vs i) d (firm (an2 m x)),hs⟩
   |none=>none
  |_=>none:=by
 unfold cV gp;simp only[hg,ho,dk,C0,hd,ht]
 cases get e j with
 |none=>rfl
 |some w =>
  cases w<;>try rfl
  rename_i vs;simp only
  cases vs[i]? with
  |none=>rfl
  |some x=>cases m<;>rfl
def asn {u v:VI}{j i k d c:Nat}{m n:Bool}(o1:u.op=.ext j m i)(o2:v.op=.ext j n k)(d1:u.dst=some d)(d2:v.dst=some c)(g1:u.guard=none)(g2:v.guard=none)(ht1:u.th=[])(ht2:v.th=[])
  (hik:i≠k)(hdc:d≠c)(hdj:d≠j)(hcj:c≠j){st st1 st2:St}(hsrt:cU st.env)(h1:cV r u st=some st1)(h2:cV r v st1=some st2):∃st1',cV r v st=some st1'∧cV r u st1'=some st2:=by
 obtain⟨e,hs⟩:=st;rw[Ne o1 d1 g1 ht1]at h1;split at h1
 .rename_i vs hj;split at h1
  .rename_i x hx;simp only[ae]at h1;subst h1;rw[Ne o2 d2 g2 ht2]at h2;have hj1:get (put (Wd m e j vs i) d (firm (an2 m x))) j=some (.tup (Lg m vs i)):=by
    grind [fJ,Xr]
   rw[hj1]at h2;simp only[amf hik]at h2;split at h2
   .rename_i y hy;simp only[ae]at h2;subst h2;have hj2:get (put (Wd n e j vs k) c (firm (an2 n y))) j=some (.tup (Lg n vs k)):=by
     grind [fJ,Xr]
    refine⟨⟨put (Wd n e j vs k) c (firm (an2 n y)),hs⟩,by grind [Ne],?_⟩;rw[Ne o1 d1 g1 ht1,hj2];simp only[amf (λh:k=i=>hik h.symm),hx,ae]
    congr 1
    refine uX ((I9 ((I9 hsrt _ _ _).put _ _) _ _ _).put _ _) ((I9 ((I9 hsrt _ _ _).put _ _) _ _ _).put _ _) λq=>?_
    grind [fJ,Xr,apz]
   simp_all
  simp_all
 simp_all
theorem Rf {a b:Bool}{u v:VI}(h:sy a b u v=true){F:C_}{st st1 st2:St}(hsrt:cU st.env)(h1:b9 r a F u st=some st1)(h2:b9 r b (jU a u st.env F) v st1=some st2):SL r a b u v F st st1 st2:=by
 simp only[sy,af,cO]at h;obtain⟨⟨⟨⟨rfl,rfl⟩,ht1⟩,ht2⟩,h⟩:=h;have ht1:=IJ ht1;have ht2:=IJ ht2;split at h
 .rename_i j m i l n k d c o1 o2 d1 d2 g1 g2;simp only[af,cO,aB]at h;obtain⟨⟨⟨⟨rfl,hik⟩,hdc⟩,hdj⟩,hcj⟩:=h;obtain⟨st1',k1,k2⟩:=asn o1 o2 d1 d2 g1 g2 ht1 ht2 (jp hik) (jp hdc) (jp hdj) (jp hcj) hsrt h1 h2;exact⟨st1',k1,k2,λk hk=>hk⟩
 simp_all
def aoQ {a b:Bool}{u v:VI}(h:sy a b u v=true):kS a u=true:=by
 grind [sy,kS,sOp]
end
abbrev kX:=@List.map_set
abbrev uu:=@List.getElem?_set_self
section
variable {r:dC}
theorem af7 {cs:D_}{off:Nat}{w:AV}(h:cs[off]?=some w):jS (.cells cs) (.cells (cs.set off (share w))):=by
 simp only[jS,ka,kX,E7];refine dK λi=>?_
 grind
def ary (w:AV):Prop:=(∃p m xs,w=.own p m xs)∨w=.nl
def apc {w:AV}(h:LC (firm w)=true):ary w:=by
 cases w with
 |own p m xs=>exact .inl ⟨_,_,_,rfl⟩
 |nl=>exact .inr rfl
 |_=>grind [firm,LC]
theorem Mo {a:Bool}{i:VI}(h:CE a i=true):∃p,a=true∧i.op=.ld none 2 p∧i.th=[]:=by
 simp only[CE,af]at h;obtain⟨⟨ha,hn⟩,hth⟩:=h;have hth:=IJ hth;have hn:=ap9 hn;unfold tP at hn
 grind
theorem aug {a:Bool}{i:VI}(h:CE a i=true)(e:aV)(F:C_):jU a i e F=F:=by
 obtain⟨p,rfl,hop,hth⟩:=Mo h
 grind [jU,tP]
theorem axO {id off:Nat}{cs:D_}{w:AV}{h:am}(hg:get h id=some (.cells cs))(hw:cs[off]?=some w):loadAt h none 2 (.ptr id off)=some (w,put h id (.cells (cs.set off (share w)))):=by
 grind [loadAt,rl]
def NY {a:Bool}{F:C_}{u:VI}(h:CE a u=true){e e1:aV}{hs hs1:HS}(hr:b9 r a F u ⟨e,hs⟩=some ⟨e1,hs1⟩):∃id off cs w,get hs.heap id=some (.cells cs)∧cs[off]?=some w∧ary w∧
  hs1=⟨put hs.heap id (.cells (cs.set off (share w))),hs.next⟩∧
   ∀hs' cs',get hs'.heap id=some (.cells cs')->cs'[off]?=some w->b9 r a F u ⟨e,hs'⟩=some ⟨e1,⟨put hs'.heap id (.cells (cs'.set off (share w))),hs'.next⟩⟩:=by
 obtain⟨p,rfl,hop,hth⟩:=Mo h;have hn:tP u.op=.take:=by rw[hop];rfl
 simp only[b9,wH,hn]at hr⊢;split at hr
 .rename_i st1 h1;split at hr
  .rename_i d hd;split at hr
   .rename_i x hx;split at hr
    .rename_i ho;simp only[ae]at hr;subst hr;have go:gp r u ⟨e,hs⟩=some ⟨e1,hs1⟩∧∀hs',cV r u ⟨e,hs'⟩=gp r u ⟨e,hs'⟩:=by
      have dead:∀st1:St,some (cP u.dst (.tup []) ⟨e,hs⟩)=some st1->get st1.env d=some x->False:=by
       grind [cP,fJ,LC]
      unfold cV at h1
      cases hg:u.guard<;>grind [cV]
     obtain⟨hgo,hsame⟩:=go;unfold gp at hgo;simp only[hth,hop,dk,EB]at hgo;split at hgo
     .rename_i v st0 hv;split at hv
      .rename_i pv e0 hp;split at hv
       .rename_i v' h1' hl;simp only[ae,aQ]at hv;obtain⟨rfl,rfl⟩:=hv;rw[hd]at hgo;obtain⟨rfl,rfl⟩:=hgo;simp only[fJ,bn,ae]at hx;subst hx;have hw:=apc ho;have back:∀hs' h2,loadAt hs'.heap none 2 pv=some (v',h2)->(match cV r u ⟨e,hs'⟩ with
          |some st1=>match (some d:I_) with
           |some d=>match get st1.env d with
            |some a=>match LC a with
             |true=>some st1
             |false=>none
            |none=>none
           |none=>none
          |none=>none)=some ⟨put e0 d (firm v'),⟨h2,hs'.next⟩⟩:=by
         simp_all [gp,dk,EB,cP,fJ]
        cases pv<;>simp only[loadAt,reduceCtorEq]at hl
        .split at hl
         .split at hl
          .simp at hl
          .simp only[rl,ae,aQ]at hl
           grind [axO]
         simp_all
        .split at hl
         .split at hl
          .split at hl
           .rename_i u hu;obtain⟨rfl,_⟩:=hl;unfold og at hu;simp only at hu;split at hu
            .simp only[ae]at hu;subst hu;rcases hw with ⟨_,_,_,h⟩|h<;>simp at h
            simp_all
           simp_all
          simp_all
         simp_all
        .split at hl
         .rename_i u hu;obtain⟨rfl,_⟩:=hl;unfold og at hu;simp only at hu;split at hu
          .simp only[ae]at hu;subst hu;rcases hw with ⟨_,_,_,h⟩|h<;>simp at h
          simp_all
         simp_all
       simp_all
      simp_all
     simp_all
    simp_all
   simp_all
  simp_all
 simp_all
theorem Uo {α:Type}{l:List (Nat×α)}(h:cU l)(k:Nat)(a b:α):put (put l k a) k b=put l k b:=by
 grind [uX,cU.put,fJ]
theorem aut {α:Type}{l:List (Nat×α)}(h:cU l){j k:Nat}(hjk:j≠k)(a b:α):put (put l j a) k b=put (put l k b) j a:=by
 grind [uX,cU.put,fJ]
theorem alI {α:Type}{l:List (Nat×α)}(h:cU l){j k:Nat}(hjk:j≠k)(a:α):put (del l k) j a=del (put l j a) k:=by
 grind [uX,cU.put,cU.del,fJ,H6]
theorem axk {a b:Bool}{u v:VI}(hu:CE a u=true)(hv:CE b v=true)(hap:Fp a b u v=true){F:C_}{st st1 st2:St}(inv:dr st)(h1:b9 r a F u st=some st1)(h2:b9 r b F v st1=some st2):∃st1',b9 r b F v st=some st1'∧b9 r a F u st1'=some st2:=by
 obtain⟨R1,M1,R2,M2,f1,f2,d1,d2⟩:=tL hap;have l1:=kA (r:=r) f1 F;have l2:=kA (r:=r) f2 F;obtain⟨e,hs⟩:=st;obtain⟨e1,hs1⟩:=st1;obtain⟨e2,hs2⟩:=st2;have hsh:cU hs.heap:=inv.sh;obtain⟨i1,o1,c1,w1,g1,k1,n1,rfl,b1⟩:=NY hu h1;obtain⟨i2,o2,c2,w2,g2,k2,n2,rfl,b2⟩:=NY hv h2;rw[fJ]at g2;by_cases hi:i2=i1
 .subst hi;rw[ac rfl]at g2;simp only[ae,Obj.cells.injEq]at g2;subst g2;rw[Uo hsh]at h2;by_cases ho:o1=o2
  .subst ho;have hlt:o1<c1.length:=by
    grind
   rw[uu hlt]at k2;simp only[ae]at k2;have hw1:w1=.nl:=by
    rcases n1 with ⟨p,m,xs,rfl⟩|h
    .subst k2
     cases p<;>rcases n2 with ⟨_,_,_,h⟩|h<;>simp[share]at h
    .exact h
   subst hw1;have hw2:w2=.nl:=by rw[<-k2];rfl
   subst hw2;rw[Uo hsh];refine wP l1 l2 d1 d2 inv.se h1 h2 (b2 hs c1 g1 k1) ?_
   grind [fJ]
  .rw[Uo hsh];have k2':c1[o2]?=some w2:=u_;refine wP l1 l2 d1 d2 inv.se h1 h2 (b2 hs c1 g1 k2') ?_
   grind [fJ,Uo,List.set_comm]
 .rw[aa hi]at g2;refine wP l1 l2 d1 d2 inv.se h1 h2 (b2 hs c2 g2 k2) ?_
  grind [fJ,aut]
def aiy {b:Bool}{v:VI}(h:isP v=true)(hb:(!b ||CE b v)=true):b=false:=by
 grind [Mo,isP,jR]
def axr {a:Bool}{u v:VI}(hu:CE a u=true)(hv:isP v=true)(hap:Fp a false u v=true){F:C_}{st st1 st2:St}(inv:dr st)(h1:b9 r a F u st=some st1)(h2:cV r v st1=some st2):∃st1',cV r v st=some st1'∧b9 r a F u st1'=some st2:=by
 obtain⟨R1,M1,R2,M2,f1,f2,d1,d2⟩:=tL hap;have l1:=kA (r:=r) f1 F;have l2:=kA (r:=r) f2 F;obtain⟨e,hs⟩:=st;obtain⟨e1,hs1⟩:=st1;obtain⟨e2,hs2⟩:=st2;have hsh:cU hs.heap:=inv.sh;have s1:cU e1:=(l1 e hs _ h1).1 inv.se;obtain⟨i1,o1,c1,w1,g1,k1,n1,rfl,b1⟩:=NY hu h1;have hle:dy (put hs.heap i1 (.cells (c1.set o1 (share w1)))) hs.heap:=(dy.upd (o:=some (.cells (c1.set o1 (share w1)))) g1 (λo1 ho=>by grind [af7])).2;obtain⟨R,M,hk⟩:=Xz hv;obtain⟨ρ,τ,K,q1,q2⟩:=TD (oa hk) s1 h2;simp only at q1 q2;subst q1;rcases K with K|⟨id,⟨m,xs,ga⟩,hρ,hτ⟩
 .have hi:=q2 hs (K.1 _ hle);rw[K.2]at hi h2⊢;exact wP l1 l2 d1 d2 inv.se h1 h2 hi h1
 .have hi:=q2 hs (hρ _ hle);have hne:i1≠id:=by
   grind [fJ]
  refine wP l1 l2 d1 d2 inv.se h1 h2 hi ?_
  grind [H6,alI]
def axV {b:Bool}{u v:VI}(hu:isP u=true)(hv:CE b v=true)(hap:Fp false b u v=true){F:C_}{st st1 st2:St}(inv:dr st)(h1:cV r u st=some st1)(h2:b9 r b F v st1=some st2):∃st1',b9 r b F v st=some st1'∧cV r u st1'=some st2:=by
 obtain⟨R1,M1,R2,M2,f1,f2,d1,d2⟩:=tL hap;have l1:=kA (r:=r) f1 F;have l2:=kA (r:=r) f2 F;obtain⟨e,hs⟩:=st;obtain⟨e1,hs1⟩:=st1;obtain⟨e2,hs2⟩:=st2;have hsh:cU hs.heap:=inv.sh;obtain⟨R,M,hk⟩:=Xz hu;obtain⟨ρ,τ,K,q1,q2⟩:=TD (oa hk) inv.se h1;subst q1;obtain⟨i2,o2,c2,w2,g2,k2,n2,rfl,b2⟩:=NY hv h2;have hle:∀{h:am},get h i2=some (.cells c2)->dy h (put h i2 (.cells (c2.set o2 (share w2)))):=λg=>(dy.upd (o:=some (.cells (c2.set o2 (share w2)))) g (λo1 ho=>by grind [af7])).1
 rcases K with K|⟨id,_,hρ,hτ⟩
 .simp only[K.2]at g2 h2 h1 q2⊢;exact wP l1 l2 d1 d2 inv.se h1 h2 h2 (q2 _ (K.1 _ (hle g2)))
 .simp only[hτ]at g2 h2 h1 q2⊢;rw[H6]at g2;split at g2
  .simp at g2
  .rename_i hne;refine wP l1 l2 d1 d2 inv.se h1 h2 (b2 hs c2 g2 k2) ?_;have:=q2 ⟨put hs.heap i2 (.cells (c2.set o2 (share w2))),hs.next⟩ (hρ _ (hle g2));rw[alI hsh hne];exact this
def Pj {a:Bool}{u:VI}(h:(!a ||CE a u)=true){F:C_}{st st1:St}(hr:b9 r a F u st=some st1):cV r u st=some st1∧(a=true->∃d x,u.dst=some d∧get st1.env d=some x∧LC x=true):=by
 cases a with
 |false=>exact⟨hr,λh=>by simp at h⟩
 |true =>
  obtain⟨p,_,hop,hth⟩:=Mo h;have hn:tP u.op=.take:=by rw[hop];rfl
  simp only[b9,wH,hn]at hr
  grind
def adJ {a:Bool}{u:VI}(h:(!a ||CE a u)=true){F:C_}{st st1:St}(hr:cV r u st=some st1)(ho:a=true->∃d x,u.dst=some d∧get st1.env d=some x∧LC x=true):b9 r a F u st=some st1:=by
 cases a with
 |false=>exact hr
 |true =>
  obtain⟨p,_,hop,hth⟩:=Mo h;have hn:tP u.op=.take:=by rw[hop];rfl
  grind [b9,wH]
theorem OP {a:Bool}{u:VI}(h:(!a ||CE a u)=true)(e:aV)(F:C_):jU a u e F=F:=by
 cases a with
 |false=>rfl
 |true=>grind [aug]
theorem adF {u v:VI}(h:HX u v=true):∃k1 R1 M1 k2 R2 M2,jR u=some (k1,R1,M1)∧jR v=some (k2,R2,M2)∧(∀k∈M1,k∉M2):=by
 grind [HX,jr]
theorem aoV {a b:Bool}{u v:VI}(h:aae a b u v=true){F:C_}{st st1 st2:St}(inv:dr st)(h1:b9 r a F u st=some st1)(h2:b9 r b (jU a u st.env F) v st1=some st2):SL r a b u v F st st1 st2:=by
 simp only[aae,af]at h;obtain⟨⟨ha,hb⟩,h⟩:=h;rw[OP ha]at h2;have fin:(∃st1',b9 r b F v st=some st1'∧b9 r a F u st1'=some st2)->SL r a b u v F st st1 st2:=by
  intro ⟨st1',k1,k2⟩;refine⟨st1',k1,by grind [OP],?_⟩
  grind [OP]
 simp only[cZ,af]at h;rcases h with h|⟨hap,h⟩
 .obtain⟨p1,o1⟩:=Pj ha h1;obtain⟨p2,o2⟩:=Pj hb h2;obtain⟨st1',q1,q2⟩:=aoH h inv p1 p2;obtain⟨k1,R1,M1,k2,R2,M2,e1,e2,hap⟩:=adF h;obtain⟨en1,hs1⟩:=st1;obtain⟨en1',hs1'⟩:=st1';refine fin ⟨_,adJ hb q1 λhn=>?_,adJ ha q2 λhn=>?_⟩
  .obtain⟨d,x,hd,hx,ho⟩:=o2 hn;refine⟨d,x,hd,?_,ho⟩;obtain⟨_,_,_,_,_,g,_⟩:=oa e1 en1' hs1' _ q2
   grind [Rs]
  .obtain⟨d,x,hd,hx,ho⟩:=o1 hn;refine⟨d,x,hd,?_,ho⟩;obtain⟨_,_,_,_,_,g,_⟩:=oa e2 en1 hs1 _ p2
   grind [Rs]
 .rcases h with (h|h)|h
  .grind [axk]
  .have:=aiy h.2 hb;subst this;exact fin (axr h.1 h.2 hap inv h1 h2)
  .have:=aiy h.1 ha;subst this;exact fin (axV h.1 h.2 hap inv h1 h2)
theorem auu {a:Bool}{i:VI}(h:CE a i=true):∃R M,jR i=some (.t,R,M):=by
 obtain⟨p,_,hop,hth⟩:=Mo h
 simp_all [jR]
theorem aiS {st st1:St}(inv:dr st)(he:cU st1.env)(hh:st1.hs=st.hs):dr st1:=⟨he,by grind [dr.sh],by grind [dr.fr]⟩
def awJ {u:VI}{j:Nat}{m:Bool}{i d:Nat}(ho:u.op=.ext j m i)(hd:u.dst=some d)(hg:u.guard=none)(ht:u.th=[]){st st1:St}(hs:cU st.env)(h1:cV r u st=some st1):cU st1.env:=by
 obtain⟨e,hs0⟩:=st
 grind [Ne,cU.put,I9]
theorem UR {a b:Bool}{u v:VI}(h:sy a b u v=true){F:C_}{st st1:St}(hs:cU st.env)(h1:b9 r a F u st=some st1):cU st1.env:=by
 simp only[sy,af,cO]at h;obtain⟨⟨⟨⟨rfl,rfl⟩,ht1⟩,ht2⟩,h⟩:=h;split at h
 .rename_i j m i l n k d c o1 o2 dd1 dd2 g1 g2;exact awJ o1 dd1 g1 (IJ ht1) hs h1
 simp_all
def aup {a b:Bool}{u v:VI}(h:kH a b u v=true)(hk:kS b v=false){F:C_}{st st1:St}(inv:dr st)(h1:b9 r a F u st=some st1):dr st1:=by
 simp only[kH,cZ]at h;rcases h with (h|h)|h
 .obtain⟨e,hs⟩:=st;simp only[Uj,af,cZ]at h;obtain⟨hap,h⟩:=h;obtain⟨R1,M1,R2,M2,f1,f2,d1,d2⟩:=tL hap;have se:=(kA (r:=r) f1 F e hs _ h1).1 inv.se
  grind [aiS,OS,Tn,agO,Ws]
 .exact aiS inv (UR h inv.se h1) (OS (aoQ h) h1).1
 .simp only[af]at h;obtain⟨_,h⟩:=h;simp only[aae,af]at h;obtain⟨⟨ha,hb⟩,h⟩:=h;obtain⟨p1,_⟩:=Pj ha h1
  grind [adF,Ir,auu,Xz]
def auc {a b:Bool}{u v:VI}(h:kH a b u v=true)(hk:kS b v=true){F:C_}{st st1:St}(hs:cU st.env)(h1:b9 r a F u st=some st1):cU st1.env:=by
 simp only[kH,cZ]at h;rcases h with (h|h)|h
 .obtain⟨e,hs0⟩:=st;simp only[Uj,af]at h;obtain⟨R1,M1,R2,M2,f1,f2,d1,d2⟩:=tL h.1;exact(kA (r:=r) f1 F e hs0 _ h1).1 hs
 all_goals grind [UR]
def ayy {a b:Bool}{u v:VI}(h:kH a b u v=true)(hk:kS b v=true){F:C_}{st st1 st2:St}(hs:cU st.env)(h1:b9 r a F u st=some st1)(h2:b9 r b (jU a u st.env F) v st1=some st2):SL r a b u v F st st1 st2:=by
 grind [kH,ZI,Rf]
def aAc {a b:Bool}{u v:VI}(h:kH a b u v=true){F:C_}{st st1 st2:St}(inv:dr st)(h1:b9 r a F u st=some st1)(h2:b9 r b (jU a u st.env F) v st1=some st2):SL r a b u v F st st1 st2:=by
 grind [kH,ZI,dr.se,Rf,aoV]
end
abbrev vt:=@List.nodup_cons
inductive OL (ops:Array Oper):Nat->Nat->Prop
 |one {i:Nat}{o:Oper}{e:Edge}:ops[i]?=some o->e∈o.after->xr e.ground=true->OL ops i e.on
 |more {i j:Nat}{o:Oper}{e:Edge}:ops[i]?=some o->e∈o.after->xr e.ground=true->OL ops e.on j->OL ops i j
def Ps {k:Nat}:∀{a l:C_},k∈RK a l->k∈a∨k∈l
 |[],l,h=>.inr h
 |x::r,l,h=>by
  simp only[RK]at h;split at h
  .rcases Ps h with h|h<;>simp_all
  .rcases Ps h with h|h<;>grind
def Zu (ops:Array Oper)(tab:P_):Prop:=∀i l,get tab i=some l->∀j∈l,OL ops i j
theorem aaa {ops:Array Oper}{tab:P_}(ht:Zu ops tab){i:Nat}{o:Oper}(ho:ops[i]?=some o):∀{es:List Edge},(∀e∈es,e∈o.after)->∀j,j∈Up tab es->OL ops i j
 |[],_,j,h=>by simp[Up]at h
 |e::r,hes,j,h=>by
  simp only[Up]at h;have hr:=aaa ht ho (es:=r) (λx hx=>hes x (.tail _ hx)) j;split at h
  .rename_i hw;rcases Ps h with h|h
   .rcases aC.1 h with rfl|h
    .exact .one ho (hes e (.head _)) hw
    .split at h
     .rename_i l hl;exact .more ho (hes e (.head _)) hw (ht _ _ hl _ h)
     simp_all
   simp_all
  simp_all
def U2 {ops:Array Oper}:∀{l:C_}{tab:P_},Zu ops tab->Zu ops (IY ops l tab)
 |[],_,ht=>ht
 |i::l,tab,ht=>by
  simp only[IY];refine U2 λk m h j hj=>?_
  rw[iU]at h;split at h
  .grind [aaa]
  .exact ht k m h j hj
def aoG (anc:P_)(nr:C_)(vs:T_)(j i:Nat):Prop :=
 (s9 anc i j=true∨∃u v,vs[j]?=some u∧vs[i]?=some v∧kH (et j nr) (et i nr) u v=true)∨(uj anc vs i=true∧(∀k,k<vs.length->s9 anc k i=true->s9 anc k j=true)∧s9 anc j i=false)
def aag {anc:P_}{i j:Nat}:∀{n:Nat},Zs anc i j n=true->∀k,k<n->s9 anc k i=true->s9 anc k j=true
 |0,_,k,hk,_=>by omega
 |n+1,h,k,hk,hd=>by
  simp only[Zs,af,cZ,cO]at h;by_cases e:k=n
  .simp_all
  .exact aag h.2 k o_ hd
def asy {ops:Array Oper}{anc:P_}(ha:Zu ops anc){k i:Nat}(h:s9 anc k i=true):OL ops k i:=by
 unfold s9 at h;split at h
 .rename_i l hl;exact ha _ _ hl _ (tB.1 h)
 simp_all
structure su (P:Program)(n:Nat)(ops:Array Oper)(nr:C_)(vs:T_)(perm:C_)(anc:P_):Prop where
 len:vs.length=ops.size
 vi:∀(i:Nat) (v:VI) (o:Oper),vs[i]?=some v->ops[i]?=some o->C4 P n ops v o=true
 edge:∀(i:Nat) (o:Oper),ops[i]?=some o->∀e∈o.after,e.on<ops.size∧(txG e.ground=true->e.on<i)
 pair:perm.Pairwise λj i=>aoG anc nr vs j i
 path:∀k i,s9 anc k i=true->OL ops k i
 gco:∃gl:C_,(∀i,i<ops.size->i∈gl)∧gl.Pairwise (λj i=>∀o,ops[j]?=some o->∀e∈o.after,Yl e.ground=true->e.on≠i)∧∀j∈gl,∀o,ops[j]?=some o->∀e∈o.after,Yl e.ground=true->e.on≠j
 nd:perm.Nodup
 lt:∀i∈perm,i<ops.size
 near:∀(i:Nat) (v:VI),et i nr=true->vs[i]?=some v->tP v.op≠.read∨∃R M,jR v=some (.q,R,M)
 all:∀i,i<ops.size->i∈perm
def Vn {P:Program}{n:Nat}{ops:Array Oper}{k:Nat}:∀{vs:T_}{os:List Oper}{b:Nat},HY P n ops k b vs os=true->vs.length=os.length∧
  ∀(i:Nat) (v:VI) (o:Oper),vs[i]?=some v->os[i]?=some o->C4 P n ops v o=true∧∀e∈o.after,e.on<k∧(txG e.ground=true->e.on<b+i)
 |[],[],_,_=>⟨rfl,λi v o h=>by simp at h⟩
 |x::vs,p::os,b,h=>by
  simp only[HY,af]at h;obtain⟨⟨h1,h3⟩,h4⟩:=h;obtain⟨k1,k2⟩:=Vn h4
  grind [Nat.blt_eq]
 |[],_::_,_,h=>by simp[HY]at h
 |_::_,[],_,h=>by simp[HY]at h
def UT {anc:P_}{nr:C_}{vs:T_}{j:Nat}:∀{l:C_},TL anc nr vs j l=true->∀i∈l,aoG anc nr vs j i
 |[],_,i,hi=>by simp at hi
 |x::r,h,i,hi=>by
  simp only[TL,af,cZ]at h;rcases aC.1 hi with rfl|hi
  .rcases h.1 with (h|h)|h
   .exact .inl (.inl h)
   .split at h
    .rename_i u v h1 h2;exact .inl (.inr ⟨u,v,h1,h2,h⟩)
    simp_all
   .simp only[cO]at h;exact .inr ⟨h.1.1,aag h.1.2,h.2⟩
  .exact UT h.2 i hi
def amS {ops:Array Oper}{j:Nat}{l:C_}(h:agA ops j l=true):∀i∈l,∀o,ops[j]?=some o->∀e∈o.after,Yl e.ground=true->e.on≠i:=by
 grind [agA,tB]
def adj {ops:Array Oper}:∀{l:C_},afu ops l=true->l.Pairwise (λj i=>∀o,ops[j]?=some o->∀e∈o.after,Yl e.ground=true->e.on≠i)∧∀j∈l,∀o,ops[j]?=some o->∀e∈o.after,Yl e.ground=true->e.on≠j
 |[],_=>⟨.nil,λi hi=>by simp at hi⟩
 |j::r,h=>by
  simp only[afu,af]at h;obtain⟨h0,h4⟩:=h;obtain⟨k4,k5⟩:=adj h4;have hw:=amS h0
  simp_all
def U3 {ops:Array Oper}{anc:P_}{nr:C_}{vs:T_}:∀{l:C_},Tq ops anc nr vs l=true->l.Pairwise (λj i=>aoG anc nr vs j i)∧
  l.Nodup∧∀i∈l,i<vs.length
 |[],_=>⟨.nil,.nil,λi hi=>by simp at hi⟩
 |j::r,h=>by
  simp only[Tq,af,cO]at h;obtain⟨⟨⟨h1,h2⟩,h3⟩,h4⟩:=h;obtain⟨k1,k2,k3⟩:=U3 h4;refine⟨.cons (UT h1) k1,vt.2 ⟨λhm=>?_,k2⟩,λi hi=>?_⟩
  all_goals grind [tB,Nat.blt_eq]
theorem S7 {l:C_}:∀{n:Nat},XV l n=true->∀i,i<n->i∈l
 |0,_,i,hi=>by omega
 |n+1,h,i,hi=>by
  simp only[XV,af]at h;rcases bH i n with h1|h1
  .exact S7 h.2 i h1
  grind [tB]
def ade {vs:T_}:∀{nr:C_},afv vs nr=true->∀(i:Nat) (v:VI),et i nr=true->vs[i]?=some v->tP v.op≠.read∨∃R M,jR v=some (.q,R,M)
 |[],_,i,v,h,_=>by simp[et]at h
 |j::r,h,i,v,hg,hv=>by
  simp only[afv,af]at h;rcases aC.1 (tB.1 hg) with e|hm
  .grind [JO,W8]
  .exact ade h.2 i v (tB.2 hm) hv
def awL {P:Program}{n:Nat}{ops:Array Oper}{gco nr:C_}{vs:T_}{perm:C_}(h:JP P n ops perm gco nr vs=true):su P n ops nr vs perm (IY ops perm []):=by
 simp only[JP,af]at h;obtain⟨⟨⟨⟨⟨h1,hnr⟩,hga⟩,hg⟩,h2⟩,h3⟩:=h;obtain⟨g1,g2⟩:=adj hg;obtain⟨k1,k2⟩:=Vn h1;have hl:vs.length=ops.size:=o_;have ha:Zu ops (IY ops perm []):=U2 λi l h=>by simp[AS]at h
 obtain⟨q1,q2,q3⟩:=U3 h3;have hget:∀(i:Nat) (o:Oper),ops[i]?=some o->ops.toList[i]?=some o:=λi o h=>by simp_all
 refine⟨hl,λi v o hv ho=>(k2 i v o hv (hget i o ho)).1,λi o ho e he=>?_,q1,λk i h=>asy ha h,⟨gco,λi hi=>S7 hga i o_,g1,g2⟩,q2,λi hi=>by simp_all,ade hnr,λi hi=>?_⟩
 .have hi:i<vs.length:=by
   grind
  have:=(k2 i vs[i] o s_ (hget i o ho)).2 e he
  simp_all
 grind [S7]
abbrev sH:=@List.Sublist.append_left
abbrev uM:=@List.sublist_cons_self
section
variable {P:Program}{r:dC}
theorem agq {g:Gh}{w:World}:∀{l:am}{O:Nat->Nat},Cd P g w l O->∀{id:Nat}{o:Obj},get l id=some o->∃b,g.obj id=some b
 |[],_,_,id,o,h=>by simp[AS]at h
 |(k,v)::l,O,rh,id,o,h=>by
  obtain⟨Q1,Q2,q1,q2,_⟩:=rh;rw[iU]at h;split at h
  .cases v<;>grind [jT]
  .exact agq q2 h
def S.heap_fresh {g:Gh}{w:World}{t:F_}{O:Nat->Nat}{st:St}(s:S P g w st t O){id:Nat}(h:st.hs.next<=id):get st.hs.heap id=none:=by
 obtain⟨Oe,Oh,re,rh,ho⟩:=s.parts
 cases hg:get st.hs.heap id<;>grind [agq,fresh]
def OJ {nr:C_}{i:Nat}{F:C_}{v:VI}{st st1:St}(hn:et i nr=true->tP v.op≠.read∨∃R M,jR v=some (.q,R,M))(hsrt:cU st.env)(h:b9 r (et i nr) F v st=some st1):cV r v st=some st1:=by
 obtain⟨e,hs⟩:=st
 cases hg:et i nr with
 |false=>rw[hg]at h;exact h
 |true =>
  rcases hn hg with h1|⟨R,M,h1⟩
  .exact al6 (R:=[]) (M:=[]) hsrt (.inr (.inl h1)) h
  grind [al6]
theorem Wa {nr:C_}{vs:T_}{i:Nat}{v:VI}(hv:vs[i]?=some v)(hk:kS (et i nr) v=true){l2:C_}:∀{l1:C_}{F:C_}{st st':St},(∀j∈l1,∃u,vs[j]?=some u∧kH (et j nr) (et i nr) u v=true)->cU st.env->
  fH r nr vs (l1++i::l2) F st=some st'->fH r nr vs (i::(l1++l2)) F st=some st'
 |[],F,st,st',_,_,h=>h
 |j::l1,F,st,st',hj,inv,h=>by
  obtain⟨u,hu,hm⟩:=hj j (.head _);simp only[aR,fH,hu]at h;split at h
  .simp at h
  .rename_i st1 h1;have h2:=Wa hv hk (λk hk=>hj k (.tail _ hk)) (auc hm hk inv h1) h;simp only[fH,hv]at h2;split at h2
   .simp at h2
   .rename_i st2 h3;obtain⟨st1',k1,k2,k3⟩:=ayy hm hk inv h1 h3
    grind [fH,Wj]
theorem U6 {nr:C_}{vs:T_}{i:Nat}{v:VI}(hv:vs[i]?=some v)(hk:kS (et i nr) v=false){l2:C_}:∀{l1:C_}{F:C_}{st st':St},(∀j∈l1,∃u,vs[j]?=some u∧kH (et j nr) (et i nr) u v=true)->dr st->
  fH r nr vs (l1++i::l2) F st=some st'->fH r nr vs (i::(l1++l2)) F st=some st'
 |[],F,st,st',_,_,h=>h
 |j::l1,F,st,st',hj,inv,h=>by
  obtain⟨u,hu,hm⟩:=hj j (.head _);simp only[aR,fH,hu]at h;split at h
  .simp at h
  .rename_i st1 h1;have h2:=U6 hv hk (λk hk=>hj k (.tail _ hk)) (aup hm hk inv h1) h;simp only[fH,hv]at h2;split at h2
   .simp at h2
   .rename_i st2 h3;obtain⟨st1',k1,k2,k3⟩:=aAc hm inv h1 h3
    grind [fH,Wj]
def VV {nr:C_}{vs:T_}{i:Nat}{v:VI}(hv:vs[i]?=some v){l2 l1:C_}{F:C_}{st st':St}(hj:∀j∈l1,∃u,vs[j]?=some u∧kH (et j nr) (et i nr) u v=true)(inv:dr st)
  (h:fH r nr vs (l1++i::l2) F st=some st'):fH r nr vs (i::(l1++l2)) F st=some st':=by
 cases hk:kS (et i nr) v<;>grind [Wa,dr.se,U6]
theorem abX {α:Type}:∀{l:List (Nat×α)},cU l->∀{p:Nat×α},p∈l->get l p.1=some p.2
 |[],_,p,hp=>by simp at hp
 |(k,v)::r,hs,p,hp=>by
  rw[iU];rcases aC.1 hp with rfl|hp
  .simp
  .have h1:=(bW.1 hs).1 p hp;have:k≠p.1:=(He.ne h1).symm;rw[aa this];exact abX (bW.1 hs).2 hp
def Y1 {anc:P_}{d:Nat}{l:C_}{i:Nat}:∀{vs:T_}{b:Nat},ZO anc d l i b vs=true->∀k v,vs[k]?=some v->b+k≠i->s9 anc (b+k) i=true∨∃R M,ki v=some (R,M)∧d∉M∧(s9 anc i (b+k)=true∨∀q∈l,q∉M)
 |[],_,_,k,v,h,_=>by simp at h
 |x::r,b,h,k,v,hv,hne=>by
  simp only[ZO,af,cZ]at h
  cases k with
  |zero =>
   grind [Nat.beq_eq,jr,tB]
  |succ k =>
   have:=Y1 h.2 k v hv (by omega)
   grind
theorem HP {v:VI}{d:Nat}(h:iL v=some d):(∃zs,v=⟨some d,none,.alloc zs,[]⟩)∨∃z l c th,v=⟨some d,none,.mkslice z l c,th⟩∧zG l=true∧zG c=true:=by
 obtain⟨dst,gd,op,th⟩:=v
 grind [iL]
theorem zy {v:VI}{d:Nat}(h:iL v=some d):v.dst=some d∧v.guard=none∧v.op≠.bad:=by
 grind [HP]
def xT {anc:P_}{vs:T_}{i:Nat}(h:uj anc vs i=true):∃v d,vs[i]?=some v∧iL v=some d∧(∀k u,vs[k]?=some u->k≠i->s9 anc k i=true∨∃R M,ki u=some (R,M)∧d∉M∧(s9 anc i k=true∨∀q∈zK v,q∉M))∧∀j,s9 anc i j=true->uj anc vs j=false:=by
 unfold uj at h;split at h
 .rename_i v hv;split at h
  .rename_i d hd;simp only[af]at h;refine⟨v,d,hv,hd,λk u hk hne=>by simpa using Y1 h.1 k u hk o_,λj hj=>?_⟩
   grind [s9,tB,uj]
  simp_all
 simp_all
theorem ap1 {v:VI}{k:C5}{R M:C_}(h:jR v=some (k,R,M)):ki v=some (R,M):=by grind [ki]
theorem acG {a b:Bool}{u v:VI}(h:kH a b u v=true)(hne:sy a b u v=false):∃R1 M1 R2 M2,ki u=some (R1,M1)∧ki v=some (R2,M2)∧(∀k∈M1,k∉R2∧k∉M2)∧∀k∈M2,k∉R1:=by
 have sub:∀{a:Bool}{v:VI}{R M:C_},zR a v=some (R,M)->∃R',ki v=some (R',M)∧∀k∈R',k∈R:=λ{a v R M} h=>by
  grind [zR]
 have ap:Fp a b u v=true->∃R1 M1 R2 M2,ki u=some (R1,M1)∧ki v=some (R2,M2)∧(∀k∈M1,k∉R2∧k∉M2)∧∀k∈M2,k∉R1:=λh=>by
  grind [tL]
 grind [kH,Uj,aae,HX,ap1,jr]
theorem XI {a b:Bool}{u v:VI}{d:Nat}(hu:iL u=some d):sy a b u v=false∧sy b a v u=false:=by
 grind [HP,sy]
theorem Yz {v:VI}{d:Nat}(hv:iL v=some d){R M:C_}(h:ki v=some (R,M)):∀q∈zK v,q∈R:=by
 rcases HP hv with ⟨zs,rfl⟩|⟨z,l,c,th,rfl,_,_⟩
 .grind [zK]
 .intro q hq
  cases th with
  |nil =>
   simp only[ki,jR,Nj,EP,ae,aQ]at h;rw[<-h.1];exact dn _ hq
  |cons p th =>
   simp only[ki,jR,Nj,EP,ae,aQ]at h;rw[<-h.1];exact dn _ hq
def aod {a b:Bool}{u v:VI}{d:Nat}(h:kH a b u v=true)(hu:iL u=some d):∃R M,ki v=some (R,M)∧∀q∈d::zK u,q∉M:=by
 grind [acG,XI,Fr,zy,Yz]
def Ym {a b:Bool}{u v:VI}{d:Nat}(h:kH a b u v=true)(hv:iL v=some d):∃R M,ki u=some (R,M)∧∀q∈d::zK v,q∉M:=by
 grind [acG,XI,Fr,zy,Yz]
def ale {e e':aV}{x:Rd}(hs:zG x=true)(h:∀q∈oj x,get e' q=get e q){v:AV}{e1:aV}(hr:rd e x=some (v,e1)):e1=e∧rd e' x=some (v,e'):=by
 cases x with
 |s i =>
  have hi:=h i (by simp[oj]);simp only[rd]at hr⊢;split at hr<;>simp_all
 |m i=>simp[zG]at hs
 |c u =>
  grind [rd]
def ak1 {z:Y_}{l c:Rd}{st st2:St}{a:AV}{st1:St}(hl:zG l=true)(hc:zG c=true)(h:∀q∈b7 [l,c],get st2.env q=get st.env q)(hr:md z l c st=some (a,st1)):st1=st∧md z l c st2=some (a,st2):=by
 unfold md at hr⊢;split at hr
 .rename_i n e hn;obtain⟨rfl,h1⟩:=ale hl (λq hq=>h q (by simp[b7,hq])) hn;split at hr
  .rename_i m e2 hm;obtain⟨rfl,h2⟩:=ale hc (λq hq=>h q (by simp[b7,hq])) hm;split at hr
   .split at hr
    .obtain⟨rfl,rfl⟩:=hr
     simp_all
    simp_all
   simp_all
  simp_all
 simp_all
inductive BG (g:Gh) (w:World) (st:St) (d:Nat):VI->Value->(Nat->Nat)->Prop
 |var {zs:D_}{b:Nat}{c:F_}{el:TypeId}:nW zs c.toList=true->w.heap[b]?=some (.cells c el (0,0))->(∀o,¬g.pm b o)->BG g w st d ⟨some d,none,.alloc zs,[]⟩ (.pointer (some ⟨b,0,none⟩)) (one b)
 |list {z:Y_}{l c:Rd}{th:S_}{a:AV}{x:Value}{A:Nat->Nat}:zG l=true->zG c=true->md z l c st=some (a,st)->RV g w a x A->BG g w st d ⟨some d,none,.mkslice z l c,th⟩ x A
structure anD (g:Gh)(w:World)(t:F_)(O:Nat->Nat)(st:St)(anc:P_)(vs:T_)(i:Nat)(A:Nat->Nat):Prop where
 late:uj anc vs i=true
 hi:∀b,A b≠0->b<w.heap.size
 le:∀b,A b+O b<=1
 it:∃v d x,vs[i]?=some v∧d<t.size∧t[d]?=some x∧BG g w st d v x A
def BG.dst {g:Gh}{w:World}{st:St}{d:Nat}{v:VI}{x:Value}{A:Nat->Nat}(h:BG g w st d v x A):iL v=some d:=by
 cases h<;>grind [iL]
def BG.keep {g g':Gh}{w w':World}{st st':St}{d:Nat}{v:VI}{x:Value}{A:Nat->Nat}{T:Nat->Prop}(h:BG g w st d v x A)(hx:bL g w g' w' T)(hA:∀b,A b≠0->b<w.heap.size∧¬T b)
  (he:∀q∈zK v,get st'.env q=get st.env q):BG g' w' st' d v x A:=by
 cases h with
 |var h1 h2 h3 =>
  rename_i zs b c el;have hb:=hA b s_;obtain⟨b1,b2⟩:=hx.blk b hb.1 hb.2;exact .var h1 (b1.trans h2) λo ho=>h3 o (b2 o ho)
 |list h1 h2 h3 h4=>exact .list h1 h2 (ak1 h1 h2 he h3).2 (RV.ext hx _ _ _ h4 λb hb=>(hA b hb).2)
def S.adopt {g:Gh}{w:World}{t:F_}{O:Nat->Nat}{st:St}{zs:D_}{d b:Nat}{c:F_}{el:_}(s:S P g w st t O)(hb:b<w.heap.size)(h0:O b=0)(hp:∀o,¬g.pm b o)(hz:nW zs c.toList=true)
  (hh:w.heap[b]?=some (.cells c el (0,0)))(hd:d<t.size)(ht:t[d]?=some (.pointer (some ⟨b,0,none⟩))) :
  ∃g' O',S P g' w ⟨put st.env d (.ptr st.hs.next 0),⟨put st.hs.heap st.hs.next (.cells zs),st.hs.next+1⟩⟩ t O'∧bL g w g' w (λ_=>False)∧(∀x,x≠b->O' x<=O x)∧g'.pm=g.pm:=by
 have hn:=s.fresh st.hs.next (ak _)
 have hx:bL g w (g.add st.hs.next b 0 1 zs.length) w (λ_=>False):=(bL.refl g w _).add hn _ _ _ _;have hfr:=s.heap_fresh (ak st.hs.next);obtain⟨Oe,Oh,re,rh,ho⟩:=s.parts;have re':=kr.ext hx re s_;have rh':Cd P (g.add st.hs.next b 0 1 zs.length) w st.hs.heap Oh:=rh.imp' λk v O1 _ _ q=>q.ext hx s_ (by simp)
 have hk:∀p∈st.hs.heap,p.1≠st.hs.next:=by
  intro p hp e
  grind [abX,sh]
 have r:jT P (g.add st.hs.next b 0 1 zs.length) w st.hs.next (.cells zs) (λx=>zero x+one b x):=by
  exact⟨b,c,el,zero,by simp[Gh.add],by simp[Gh.add],by simp[Gh.add],by simp[Gh.add],hh,RVs.consts hz,λo ho=>hp o ho,λ_=>rfl⟩
 rw[<-rL hk]at rh';obtain⟨O3,r3,h3⟩:=RL.put s.sh rh' r;have hle:∀x,one b x+O x<=1:=λx=>by
  by_cases e:x=b
  .simp_all
  .have:=s.le x;grind [one]
 have s1:S P (g.add st.hs.next b 0 1 zs.length) w ⟨st.env,⟨put st.hs.heap st.hs.next (.cells zs),st.hs.next+1⟩⟩ t (λx=>one b x+O x):=by
  refine⟨s.se,s.sh.put _ _,⟨Oe,O3,re',r3,λx=>?_⟩,hle,λx hxx=>?_,λi hi=>?_,s.pmlt⟩
  .grind
  .by_cases e:x=b
   .omega
   .exact s.hi x (by grind [one])
  grind [Gh.add,fresh]
 have rv:RV (g.add st.hs.next b 0 1 zs.length) w (.ptr st.hs.next 0) (.pointer (some ⟨b,0,none⟩)) zero:=by
  simp_all [RV,Gh.add]
 obtain⟨O4,s4,l4⟩:=s1.setTmp hd rv (λx=>by simp_all) (λx hx=>by simp at hx);have htt:t.setIfInBounds d (.pointer (some ⟨b,0,none⟩))=t:=by
  grind
 rw[htt]at s4;exact⟨_,O4,s4,hx,λx hne=>by
  grind [one],rfl⟩
def S.setOther {g:Gh}{w:World}{t:F_}{O:Nat->Nat}{st:St}(s:S P g w st t O){d:Nat}(hd:get st.env d=none)(x:Value):S P g w st (t.setIfInBounds d x) O:=by
 obtain⟨Oe,Oh,re,rh,ho⟩:=s.parts;refine⟨s.se,s.sh,⟨Oe,Oh,re.imp' λk v O1 hm _ q=>?_,rh,ho⟩,s.le,s.hi,s.fresh,s.pmlt⟩;have hk:d≠k:=by
  rintro rfl
  have:=abX s.se hm
  simp_all
 refine⟨u_,?_⟩;have:(t.setIfInBounds d x).getD k undef=t.getD k undef:=by
  simp_all
 grind
def BG.make {g:Gh}{w:World}{t:F_}{O:Nat->Nat}{st st1:St}{d:Nat}{v:VI}{x:Value}{A:Nat->Nat}(h:BG g w st d v x A)(s:S P g w st t O)(hle:∀b,A b+O b<=1)(hhi:∀b,A b≠0->b<w.heap.size)(hd:d<t.size)(ht:t[d]?=some x)
  (hr:cV r v st=some st1):∃g' O',S P g' w st1 t O'∧bL g w g' w (λb=>A b≠0∨O b≠0)∧(∀b,O' b<=A b+O b):=by
 cases h with
 |var h1 h2 h3 =>
  rename_i zs b c el;have h9:st1=⟨put st.env d (.ptr st.hs.next 0),⟨put st.hs.heap st.hs.next (.cells zs),st.hs.next+1⟩⟩:=by
   grind [cV,gp,dk,MO,Jm,cP,firm]
  have hob:O b=0:=by have:=hle b;simp at this;omega
  obtain⟨g',O',s',x',l',_⟩:=s.adopt (hhi b s_) hob h3 h1 h2 hd ht;rw[<-h9]at s';refine⟨g',O',s',x'.mono λ_ _ h=>h.elim,λq=>?_⟩;by_cases e:q=b
  .have:=s'.le q;simp_all
  grind
 |list h1 h2 h3 h4 =>
  rename_i z l c th a;obtain⟨v',st2,hv,rfl⟩:=TH hr;simp only[dk]at hv;rw[h3]at hv;obtain⟨rfl,rfl⟩:=hv;obtain⟨g2,Ov2,O2,r2,s2,x2,l2⟩:=Lm (P:=P) (t:=t) th (env:=st.env) (hs:=st.hs) s h4 hle hhi;have hle2:∀b,Ov2 b+O2 b<=1:=λb=>aM (l2 b) (hle b)
  obtain⟨g3,r3,s3,x3⟩:=aij s2 r2 hle2;obtain⟨O4,s4,l4⟩:=s3.setTmp hd r3 hle2 λb hb=>by
   grind [S.hi]
  have htt:t.setIfInBounds d x=t:=by
   grind
  rw[htt]at s4;exact⟨g3,O4,s4,(x2.mono (T:=λb=>A b≠0∨O b≠0) λ_ _ h=>h.elim).trans x3 λb _ hb=>by grind,λb=>by grind⟩
structure auv (ops:Array Oper)(nr:C_)(vs:T_)(anc:P_)(m:Region.Mode)(listed:BE_)(rem:C_)(pd:Nat->BC_):Prop where
 pair:rem.Pairwise λj i=>aoG anc nr vs j i
 nd:rem.Nodup
 lt:∀i∈rem,i<ops.size
 size:listed.size=ops.size
 mem:∀i,i<ops.size->(i∈rem↔(listed.getD i true=false∨(pd i).isSome=true))
 pdl:∀i b,pd i=some b->i<ops.size∧listed.getD i false=true
 closed:∀i o,listed.getD i false=true->ops[i]?=some o->∀e∈o.after,Region.binds m e=true->listed.getD e.on false=true
structure Cf (P:Program)(r:dC)(n:Nat)(ops:Array Oper)(nr:C_)(vs:T_)(anc:P_)(m:Region.Mode)(listed:BE_)(g0:Gh)(w0:World)(t0:F_)(O0:Nat->Nat)(st':St)
  (rem:C_)(pd:Nat->BC_)(F:C_)(g:Gh)(w:World)(t:F_)(O:Nat->Nat)(st:St):Prop where
 left:auv ops nr vs anc m listed rem pd
 n:t.size=n
 s:S P g w st t O
 abs:∀i∈rem,∀v d,vs[i]?=some v->iL v=some d->uj anc vs i=true->get st.env d=none
 pend:∀i A,pd i=some A->anD g w t O st anc vs i A
 disj:∀i j A B,i≠j->pd i=some A->pd j=some B->∀b,A b+B b<=1
 base:gI P g0 w0 t0 O0 st t w g O
 old:∀i A,pd i=some A->∀b,b<w0.heap.size->A b+O b<=O0 b
 le0:∀b,O0 b<=1
 run:fH r nr vs rem F st=some st'
def Zr:∀{l:C_},l≠[]->∃i∈l,∀j∈l,i<=j
 |[],h=>absurd rfl h
 |[x],_=>⟨x,.head _,λj hj=>by simp_all⟩
 |x::y::r,_=>by
  obtain⟨i,hi,hm⟩:=Zr (l:=y::r) (by simp)
  grind
def uT {ops:Array Oper}{m:Region.Mode}{listed:BE_}(hc:∀i o,listed.getD i false=true->ops[i]?=some o->∀e∈o.after,Region.binds m e=true->listed.getD e.on false=true){i j:Nat}
  (hp:OL ops i j):(∀o,ops[i]?=some o->∀e∈o.after,Region.binds m e=true->listed.getD e.on false=true)->listed.getD j false=true:=by
 induction hp<;>grind [aaq]
def atp {P:Program}{n:Nat}{ops:Array Oper}{nr:C_}{vs:T_}{perm:C_}{anc:P_}(hok:su P n ops nr vs perm anc){m:Region.Mode}{listed:BE_}(hsz:listed.size=ops.size){un:C_}
  (hun:∀i,i∈un↔i<ops.size∧listed.getD i true=false)(hrem:un≠[]) :
  ((List.range ops.size).filter λi=>!listed.getD i true && ((ops[i]?).map (·.after.all λe=>!Region.binds m e ||listed.getD e.on false)).getD false)≠[]∧
  ∀i,i∈((List.range ops.size).filter λi=>!listed.getD i true && ((ops[i]?).map (·.after.all λe=>!Region.binds m e ||listed.getD e.on false)).getD false)↔
   i<ops.size∧listed.getD i true=false∧∃o,ops[i]?=some o∧∀e∈o.after,Region.binds m e=true->listed.getD e.on false=true:=by
 have hmu:∀i,i<ops.size->(i∈un↔listed.getD i true=false):=λi hi=>⟨λh=>((hun i).1 h).2,λh=>(hun i).2 ⟨hi,h⟩⟩
 have hlt0:∀i,i∈un->i<ops.size:=λi h=>((hun i).1 h).1
 generalize hrs:((List.range ops.size).filter λi=>!listed.getD i true && ((ops[i]?).map (·.after.all λe=>!Region.binds m e ||listed.getD e.on false)).getD false)=rs;have hmem:∀i,i∈rs↔i<ops.size∧listed.getD i true=false∧∃o,ops[i]?=some o∧∀e∈o.after,Region.binds m e=true->listed.getD e.on false=true:=by
  grind [Array.all_eq_true_iff_forall_mem]
 have hlist:∀k,k<ops.size->k∉un->listed.getD k false=true:=λk hen hnot=>by
  simp_all
 have ready:∀i∈un,(∀e∈(ops[i]?).toList.flatMap (λo=>o.after.toList),Region.binds m e=true->e.on∉un)->i∈rs:=λi hi he=>by
  have hin:=hlt0 i hi;refine(hmem i).2 ⟨hin,(hmu i hin).1 hi,ops[i],by simp[hin],λe hem hb=>?_⟩;have hen:=(hok.edge i ops[i] (by simp[hin]) e hem).1
  simp_all
 have hne:rs≠[]:=by
  by_cases hm:m=.gc
  .obtain⟨gl,ga,gt,gs⟩:=hok.gco;have hl:gl.filter (λi=>decide (i∈un))≠[]:=by
    obtain⟨i,hi⟩:=List.exists_mem_of_ne_nil un hrem;exact List.ne_nil_of_mem (List.mem_filter.2 ⟨ga i (hlt0 i hi),d_⟩)
   cases hc:gl.filter (λi=>decide (i∈un)) with
   |nil=>simp_all
   |cons i rest =>
    have hmm0:∀k,k∈i::rest↔k∈gl∧k∈un:=λk=>by grind
    have him:=(hmm0 i).1 (.head _);have hpw:(i::rest).Pairwise (λj i=>∀o,ops[j]?=some o->∀e∈o.after,Yl e.ground=true->e.on≠i):=d_;have:i∈rs:=ready i him.2 λe he hb hmm=>by
     have hg:Yl e.ground=true:=by
      unfold Region.binds at hb
      grind [Yl]
     grind [List.pairwise_cons]
    grind
  .obtain⟨i,hir,hmin⟩:=Zr hrem;have hi:=hlt0 i hir;have:i∈rs:=ready i hir λe he hb hmm=>by
    simp[hi]at he;have hg:txG e.ground=true:=by
     unfold Region.binds at hb
     grind [txG]
    have h1:=(hok.edge i ops[i] (by simp[hi]) e he).2 hg
    grind
   grind
 simp_all
def Wk {listed:BE_}{i:Nat}(hi:i<listed.size)(k:Nat)(b:Bool):(listed.setIfInBounds i true).getD k b=if i=k then true else listed.getD k b:=by
 simp only[gy,f9]
 grind
theorem Fi {listed:BE_}{i:Nat}(hi:i<listed.size):listed.getD i true=listed.getD i false:=by
 simp_all
variable {n:Nat}{ops:Array Oper}{nr:C_}{vs:T_}{perm:C_}{anc:P_}{m:Region.Mode}{listed:BE_}{g0:Gh}{w0:World}{t0:F_}{O0:Nat->Nat}{st':St}
def Cf.flush (hok:su P n ops nr vs perm anc){l1 l2:C_}{j:Nat}{A:Nat->Nat}{pd:Nat->BC_}{F:C_}{g:Gh}{w:World}{t:F_}{O:Nat->Nat}{st:St}
  (c:Cf P r n ops nr vs anc m listed g0 w0 t0 O0 st' (l1++j::l2) pd F g w t O st)(hj:pd j=some A)(hp:∀x∈l1,∃u v,vs[x]?=some u∧vs[j]?=some v∧kH (et x nr) (et j nr) u v=true) :
  ∃F' g' O' st1,Cf P r n ops nr vs anc m listed g0 w0 t0 O0 st' (l1++l2) (λi=>if i=j then none else pd i) F' g' w t O' st1:=by
 have pj:=c.pend j A hj;obtain⟨v,d,x,h1,h4,h5,hk⟩:=pj.it;have hdst:=hk.dst;have hjn:=(c.left.pdl j A hj).1;have inv:dr st:=⟨c.s.se,c.s.sh,λid hid=>c.s.heap_fresh hid⟩
 have hsw:∀x∈l1,∃u,vs[x]?=some u∧kH (et x nr) (et j nr) u v=true:=λx hx=>by
  simp_all
 have h6:=VV h1 hsw inv c.run;simp only[fH,h1]at h6;split at h6
 .simp at h6
 .rename_i st1 h7;have h8:cV r v st=some st1:=OJ (λhw=>hok.near j _ hw h1) c.s.se h7;obtain⟨g',O',s',x',l'⟩:=hk.make c.s pj.le pj.hi h4 h5 h8;have hsub:(l1++l2).Sublist (l1++j::l2):=sH (uM j l2) l1;have hnd:=c.left.nd;have hjl:j∉l1++l2:=λhm=>by
   grind
  have hfoot:∀i,i∈l1++l2->uj anc vs i=true->∀u q,vs[i]?=some u->iL u=some q->∀k∈q::zK u,get st1.env k=get st.env k:=λi hi hl u q hu hq k hkm=>by
   have hij:i≠j:=λe=>hjl (e▸hi)
   obtain⟨u2,q2,k1,k2,k3,k4⟩:=xT hl;obtain⟨R,M,f1,f0,f2⟩:=(k3 j v h1 (λe=>hij e.symm)).resolve_left (λhdj=>by
    obtain⟨_,_,_,_,_,hno⟩:=xT pj.late
    simp_all)
   obtain⟨e1,hs1'⟩:=st;refine(A8 f1 e1 hs1' st1 h8).2.1 k ?_
   grind [anD.late]
  have hmem:∀i B,i≠j->pd i=some B->i∈l1++l2:=λi B e hi=>by
   have:=(c.left.mem i (c.left.pdl i B hi).1).2 (.inr u_)
   simp_all
  refine⟨_,g',O',st1,⟨⟨c.left.pair.sublist hsub,hnd.sublist hsub,λk hk=>c.left.lt k (hsub.subset hk),c.left.size,λk hk=>?_,λi b' hi=>?_,c.left.closed⟩,c.n,s',λi hi u q hu hq hl=>?_,λi B hi=>?_,λi k B C hik hi hk=>?_,?_,λi B hi b hb=>?_,c.le0,h6⟩⟩
  .have hold:=c.left.mem k hk;by_cases e:k=j
   .subst e;have hl:=(c.left.pdl k A hj).2
    grind
   simp_all
  .by_cases e:i=j
   .simp_all
   .simp only[e,bl]at hi;exact c.left.pdl i b' hi
  .rw[hfoot i hi hl u q hu hq q (.head _)]
   grind [abs]
  .by_cases e:i=j
   .simp_all
   .simp only[e,bl]at hi;have p:=c.pend i B hi;obtain⟨u,q,y,k1,k2,k3,k4⟩:=p.it;have hd:=c.disj i j B A e hi hj;exact⟨p.late,p.hi,λb=>by have:=l' b;have:=p.le b;have:=hd b;have:=pj.le b;omega,u,q,y,k1,k2,k3,
     k4.keep x' (λb hb=>⟨p.hi b hb,λh=>by have:=hd b;have:=p.le b;omega⟩) λk hkm=>hfoot i (hmem i B e hi) p.late u q k1 k4.dst k (.tail _ hkm)⟩
  .by_cases e:i=j
   .simp_all
   .by_cases e2:k=j
    .simp_all
    .simp only[e,e2,bl]at hi hk;exact c.disj i k B C hik hi hk
  .refine⟨s',c.base.ext.trans x' λb hb h=>?_,λb hb=>?_,c.base.size⟩
   .have:=c.old j A hj b hb;omega
   .exact aM (l' b) (c.old j A hj b hb)
  .by_cases e:i=j
   .simp_all
   .simp only[e,bl]at hi;have q1:=c.old i B hi b hb;have q2:=c.old j A hj b hb;have q3:=c.disj i j B A e hi hj b
    grind
def Cf.flush_all (hok:su P n ops nr vs perm anc):∀{rem:C_}{pd:Nat->BC_}{F:C_}{g:Gh}{w:World}{t:F_}{O:Nat->Nat}{st:St},
  Cf P r n ops nr vs anc m listed g0 w0 t0 O0 st' rem pd F g w t O st->(∀i∈rem,(pd i).isSome=true)->∃g' O',gI P g0 w0 t0 O0 st' t w g' O'
 |[],pd,F,g,w,t,O,st,c,_=>by
  have h:=c.run;simp only[fH,ae]at h;subst h;exact⟨g,O,c.base⟩
 |j::rem,pd,F,g,w,t,O,st,c,hall=>by
  obtain⟨b,hb⟩:=iM.1 (hall j (.head _));obtain⟨F',g',O',st1,c'⟩:=Cf.flush (l1:=[]) hok c hb (λx hx=>by simp at hx);have hnd:=c.left.nd;exact Cf.flush_all hok c' λi hi=>by
   grind
def Cf.flush_for (hok:su P n ops nr vs perm anc){i:Nat}(hil:listed.getD i true=false)(hnl:uj anc vs i=false){o:Oper}(ho:ops[i]?=some o)(hready:∀e∈o.after,Region.binds m e=true->listed.getD e.on false=true) :
  ∀{k:Nat}{l1 l2:C_},l1.length=k->∀{pd:Nat->BC_}{F:C_}{g:Gh}{w:World}{t:F_}{O:Nat->Nat}{st:St},
  Cf P r n ops nr vs anc m listed g0 w0 t0 O0 st' (l1++i::l2) pd F g w t O st->
  ∃l1' pd' F' g' O' st1,Cf P r n ops nr vs anc m listed g0 w0 t0 O0 st' (l1'++i::l2) pd' F' g' w t O' st1∧(∀j∈l1',∃u v,vs[j]?=some u∧vs[i]?=some v∧kH (et j nr) (et i nr) u v=true)∧(l1'.filter λq=>!listed.getD q true)=(l1.filter λq=>!listed.getD q true):=by
 intro k
 induction k with
 |zero =>
  grind
 |succ k ih =>
  intro l1 l2 hk pd F g w t O st c;have hpw:=dg.1 c.left.pair;have hin:i<ops.size:=c.left.lt i s_;have hlist:∀a q,a<ops.size->OL ops a q->listed.getD a false=true∨a=i->listed.getD q false=true:=λa q ha hpa hla=>by
   refine uT c.left.closed hpa λo' ho'=>?_
   rcases hla with h|h
   .exact c.left.closed a o' h ho'
   simp_all
  by_cases hex:∃j∈l1,s9 anc i j=true
  .
   obtain⟨la,j,lb,hl1,hdj,hfirst⟩:∃la j lb,l1=la++j::lb∧s9 anc i j=true∧∀x∈la,s9 anc i x=false:=by
    clear ih hk c hpw
    induction l1 with
    |nil=>simp_all
    |cons x l1 ihl =>
     by_cases hx:s9 anc i x=true
     .exact⟨[],x,l1,rfl,hx,λy hy=>by simp at hy⟩
     .obtain⟨la,j,lb,h1,h2,h3⟩:=ihl (by
       simp_all)
      grind
   subst hl1;have hjm:j∈(la++j::lb)++i::l2:=s_;have hjn:=c.left.lt j hjm;have hjl:=hlist i j hin (hok.path i j hdj) (.inr rfl);have hjp:∃b,pd j=some b:=by
    rcases (c.left.mem j hjn).1 hjm with h|h<;>grind [Option.isSome_iff_exists]
   obtain⟨b,hb⟩:=hjp;have hlate:=(c.pend j b hb).late;obtain⟨_,_,_,_,_,hnoanc⟩:=xT hlate;have hpj:=dg.1 hpw.1;have hpass:∀x∈la,∃u v,vs[x]?=some u∧vs[j]?=some v∧kH (et x nr) (et j nr) u v=true:=λx hx=>by
    have hxm:x∈(la++j::lb)++i::l2:=by simp[hx]
    have hxn:=c.left.lt x hxm;rcases hpj.2.2 x hx j (.head _) with (h|h)|h
    .
     have hxl:=hlist j x hjn (hok.path j x h) (.inl hjl);rcases (c.left.mem x hxn).1 hxm with h2|h2
     .grind
     .obtain⟨b2,hb2⟩:=iM.1 h2;have:=(c.pend x b2 hb2).late
      simp_all
    all_goals grind [su.len]
   have c0:Cf P r n ops nr vs anc m listed g0 w0 t0 O0 st' (la++j::(lb++i::l2)) pd F g w t O st:=u_;obtain⟨F',g',O',st1,c'⟩:=Cf.flush hok c0 hb hpass
   grind
  .refine⟨l1,pd,F,g,O,st,c,λj hj=>?_,rfl⟩;rcases hpw.2.2 j hj i (.head _) with (h|h)|h<;>grind
def ah1 (hok:su P n ops nr vs perm anc){i:Nat}{v:VI}{d:Nat}(hv:vs[i]?=some v)(hd:iL v=some d):∀{l1 l2 F:C_}{st:St},cU st.env->(∀k∈l1,∀u,vs[k]?=some u->∃R M,ki u=some (R,M)∧∀q∈d::zK v,q∉M)->
  fH r nr vs (l1++i::l2) F st=some st'->∃st1 st2,cV r v st1=some st2∧∀q∈d::zK v,get st1.env q=get st.env q
 |[],l2,F,st,hsrt,_,h=>by
  simp only[aK,fH,hv]at h;split at h
  .simp at h
  .rename_i st1 h1;exact⟨st,st1,OJ (λhw=>hok.near i _ hw hv) hsrt h1,λ_ _=>rfl⟩
 |k::l1,l2,F,st,hsrt,hl,h=>by
  simp only[aR,fH]at h;split at h
  .simp at h
  .rename_i u hu;split at h
   .simp at h
   .rename_i st1 h1;have h2:cV r u st=some st1:=OJ (λhw=>hok.near k _ hw hu) hsrt h1;obtain⟨R,M,f1,f2⟩:=hl k (.head _) u hu;obtain⟨e1,hs1⟩:=st;obtain⟨k1,k2,_⟩:=A8 f1 e1 hs1 st1 h2;obtain⟨sa,sb,q1,q2⟩:=ah1 hok hv hd (k1 hsrt) (λk hk=>hl k (.tail _ hk)) h
    grind
def anw {g:Gh}{w:World}{t:F_}{O:Nat->Nat}{zs:D_}{o:Oper}(s:S P g w st' t O)(hc:bD P (.alloc zs) o.op=true) :
  ∃(c:F_) (el:_),nW zs c.toList=true∧(execOp (ev t) o).run P w=.ok (.value (.pointer (some ⟨w.heap.size,0,none⟩))) (w.alloc (.cells c el))∧bL g w g (w.alloc (.cells c el)) (λ_=>False):=by
 obtain⟨dst,op,ty,pos,aft,gd⟩:=o;simp only[bD]at hc;split at hc
 .rename_i e;split at hc
  .split at hc
   .rename_i z hz;exact⟨z.cells,e,hc,by simp_all [execOp,Instr.alloc,zeroValue,typeInfo,newVar,newRow],bL.alloc s.pmlt _ _ (by grind [gE])⟩
   simp_all
  simp_all
 simp_all
def aqx {ro:I_}{g:Gh}{w:World}{t:F_}{O:Nat->Nat}{st:St}{v:VI}{d:Nat}{o:Oper}(s:S P g w st t O)(hd:iL v=some d)(hc:bD P v.op o.op=true)
  (hmk:∀z l c th,v=⟨some d,none,.mkslice z l c,th⟩->zG l=true->zG c=true->∃a,md z l c st=some (a,st))(ds:List Deferred)(next:Act->World->Prop)(Q:Exit->Act->World->Prop)
  (hn:∀w1 x g1 O1 A,S P g1 w1 st t O1->bL g w g1 w1 (λb=>O b≠0)->(∀b,b<w.heap.size->A b+O1 b<=O b)->(∀b,A b+O1 b<=1)->(∀b,A b≠0->b<w1.heap.size)->BG g1 w1 st d v x A->next (Act.put ⟨t,ds⟩ o.dst x) w1) :
  o.uponIn (FR ro) 0 P ⟨t,ds⟩ next Q ((execOp (ev t) o).run P w):=by
 rcases HP hd with ⟨zs,rfl⟩|⟨z,l,c,th,rfl,hl,hc2⟩
 .obtain⟨cc,el,hz,hrun,hx⟩:=anw s hc;rw[hrun];have hobn:O w.heap.size=0:=by
   by_cases h:O w.heap.size=0
   .exact h
   .have:=s.hi _ h;omega
  refine hn _ _ g O (one w.heap.size) (s.extF hx rfl λb o' hp=>by have:=s.pmlt b o' hp;grind [World.size_alloc]) (hx.mono λ_ _ h=>h.elim) (λb hb=>?_) (λb=>?_) (λb hb=>?_) (.var hz (jE _ _) λo' hp=>?_)
  .grind [one]
  .by_cases e:b=w.heap.size
   .simp_all
   .have:=s.le b;grind [one]
  .grind [wF,World.size_alloc]
  .have:=s.pmlt _ o' hp;omega
 .obtain⟨a,ha⟩:=hmk z l c th rfl hl hc2;exact(XY s ha hc).opW ds next Q λx w' g' Oa O' k=>hn _ _ g' O' Oa k.st k.ext k.old k.le k.hi (.list hl hc2 ha k.val)
def axS {ro:I_}(hr:iE P r)(hcs:jd P r)(hok:su P n ops nr vs perm anc){Q:Exit->Act->World->Prop}(ds:List Deferred)
  (hq:∀w' t' g' O',gI P g0 w0 t0 O0 st' t' w' g' O'->Q .normal ⟨t',ds⟩ w') :
  ∀{fuel:Nat}{listed:BE_}{tt:Nat}{rem:C_}{pd:Nat->BC_}{F:C_}{g:Gh}{w:World}{t:F_}{O:Nat->Nat}{st:St},
   Cf P r n ops nr vs anc m listed g0 w0 t0 O0 st' rem pd F g w t O st->(rem.filter λi=>!listed.getD i true).length=fuel->wpOpsIn (FR ro) 0 P ops Q (Region.linearise.go m ops fuel tt listed []) ⟨t,ds⟩ w:=by
 intro fuel
 induction fuel with
 |zero =>
  intro listed tt rem pd F g w t O st c hf;have hnil:=ay hf;have hall:∀i∈rem,(pd i).isSome=true:=λi hi=>by
   have hin:=c.left.lt i hi;rcases (c.left.mem i hin).1 hi with h|h<;>simp_all
  obtain⟨g',O',G⟩:=Cf.flush_all hok c hall;exact hq _ _ _ _ G
 |succ fuel ih =>
  intro listed tt rem pd F g w t O st c hf;unfold Region.linearise.go;simp only;have hun:∀i,i∈(rem.filter λi=>!listed.getD i true)↔i<ops.size∧listed.getD i true=false:=λi=>by
   rw[List.mem_filter,cO];exact⟨λh=>⟨c.left.lt i h.1,h.2⟩,λh=>⟨(c.left.mem i h.1).2 (.inl h.2),h.2⟩⟩
  obtain⟨hne,hmem⟩:=atp (m:=m) hok c.left.size hun d_;generalize hrs:((List.range ops.size).filter λi=>!listed.getD i true && ((ops[i]?).map (·.after.all λe=>!Region.binds m e ||listed.getD e.on false)).getD false)=rs at hne hmem;have hlen:0<rs.length:=bN.2 hne;have hlt:=eC tt hlen;rw[bB hlt];simp only;generalize hi:rs[tt % rs.length]=i;have hirs:i∈rs:=d_;obtain⟨hin,hil,o,ho,hready⟩:=(hmem i).1 hirs;have hirem:i∈rem:=(c.left.mem i hin).2 (.inl hil);have hsz:i<listed.size:=d_;have hvl:i<vs.length:=by grind [su.len]
  have hv:vs[i]?=some vs[i]:=s_;have hacc:=linearise_go_acc m ops fuel (tt / rs.length) (listed.setIfInBounds i true) [i];rw[hacc];simp only[sP,List.reverse_nil,aK,aR,wpOpsIn,ho];have hclosed:∀k o',(listed.setIfInBounds i true).getD k false=true->ops[k]?=some o'->∀e∈o'.after,Region.binds m e=true->(listed.setIfInBounds i true).getD e.on false=true:=by
   intro k o' hk ho' e he hb;rw[Wk hsz]at hk⊢;split
   .rfl
   .by_cases e1:i=k
    .simp_all
    .rw[aa e1]at hk;exact c.left.closed k o' hk ho' e he hb
  have hcount:∀{l1 l2:C_},rem=l1++i::l2->∀{l1':C_},(l1'.filter λi=>!listed.getD i true)=(l1.filter λi=>!listed.getD i true)->i∉l1'->i∉l2->((l1'++l2).filter λq=>!(listed.setIfInBounds i true).getD q true).length=fuel:=by
   intro l1 l2 hrem l1' hl1 hn1 hn2;have h1:∀l:C_,i∉l->(l.filter λq=>!(listed.setIfInBounds i true).getD q true)=l.filter λq=>!listed.getD q true:=λl hl=>List.filter_congr λq hq=>by
    rw[Wk hsz,aa (λe=>hl u_)]
   grind
  cases hl:uj anc vs i with
  |true =>
   obtain⟨v,d,hvi,hdv,hfree,hnoanc⟩:=xT hl;have hchk:=hok.vi i _ o hvi ho;simp only[C4,af]at hchk;obtain⟨⟨hdst,hgd⟩,hop⟩:=hchk;obtain⟨hd1,hd2,hd3⟩:=zy hdv;have hgn:o.guard=none:=by
    grind [EV]
   have hod:o.dst=some d∧d<n:=by
    rw[hd1]at hdst;split at hdst<;>grind [Nat.beq_eq,Nat.blt_eq]
   have hw:Region.wanted o (yielded ops t)=true:=by grind [Region.wanted]
   rw[ac hw];refine⟨λ_ _=>trivial,?_⟩;rw[Pg _ _ (Qg hd3 hop)];have habs:=c.abs i hirem v d hvi hdv hl;obtain⟨l1,l2,hrem⟩:=qu hirem;have hapl:∀k∈l1,∀u,vs[k]?=some u->∃R M,ki u=some (R,M)∧∀q∈d::zK v,q∉M:=λk hk u hu=>by
    have hkm:k∈rem:=u_;have hkn:=c.left.lt k hkm;have hne:k≠i:=λe=>by
     have hnd:=c.left.nd
     grind
    have hpr:=c.left.pair;rw[hrem]at hpr;have hnk:s9 anc i k=true->False:=λh=>by
     have hkl:=uT c.left.closed (hok.path i k h) λo' ho'=>by
      simp_all
     rcases (c.left.mem k hkn).1 hkm with h2|h2
     .grind [Fi]
     .obtain⟨b2,hb2⟩:=iM.1 h2;have:=(c.pend k b2 hb2).late
      simp_all
    rcases (dg.1 hpr).2.2 k hk i (.head _) with (h|⟨u',v',a1,a2,a3⟩)|h
    .simp_all
    .rw[hu]at a1;rw[hvi]at a2;simp only[ae]at a1 a2;subst a1 a2;exact Ym a3 hdv
    .obtain⟨R,M,f1,f2,f3⟩:=(hfree k u hu hne).resolve_left (λhd=>by simp_all)
     grind
   have hrun0:=c.run;rw[hrem]at hrun0;obtain⟨sa,sb,hsa,hsq⟩:=ah1 hok hvi hdv c.s.se hapl hrun0;refine aqx (ro:=ro) c.s hdv hop (λz l c' th e hl1 hl2=>?_) ds _ Q λw1 x g1 O1 A hs1 hx1 hold1 hle1 hhi1 hpk=>?_
   .subst e;simp only[cV]at hsa;obtain⟨v',st2,hv',_⟩:=TH hsa;simp only[dk]at hv';exact⟨v',(ak1 hl1 hl2 (λq hq=>(hsq q (List.mem_cons_of_mem _ hq)).symm) hv').2⟩
   .rw[ZR,hod.1];have hdn:d<t.size:=by grind [Cf.n]
    have hs2:=hs1.setOther habs x;have ht1:wh t (some d) x=t.setIfInBounds d x:=by grind [Act.put]
    rw[ht1];have hgt:∀q,q≠d->(t.setIfInBounds d x)[q]?=t[q]?:=λq hqd=>by
     grind
    have hwle:w0.heap.size<=w.heap.size:=c.base.ext.size;have hO1:∀b,b<w.heap.size->O1 b<=O b:=λb hb=>by grind
    have hO1':∀b,O1 b<=1:=λb=>by grind
    refine ih (rem:=rem) (pd:=λq=>if q=i then some A else pd q) (F:=F) (g:=g1) (O:=O1) (st:=st) ⟨⟨c.left.pair,c.left.nd,c.left.lt,by simp[c.left.size],λk hk=>?_,λk b hk=>?_,hclosed⟩,by simp[c.n],hs2,c.abs,λk B hk=>?_,λk q B C hkq hk hq'=>?_,?_,λk B hk b hb=>?_,c.le0,c.run⟩ ?_
    .rw[Wk hsz];by_cases e:i=k
     .simp_all
     .have e':¬k=i:=λh=>e h.symm
      simp only[e,e',bl];exact c.left.mem k hk
    .rw[Wk hsz];by_cases e:k=i
     .simp_all
     .simp only[e,bl]at hk;have:=c.left.pdl k b hk
      simp_all
    .by_cases e:k=i
     .subst e;simp only[bn,ae]at hk;subst hk;refine⟨hl,hhi1,hle1,v,d,x,hvi,by simp[hdn],?_,hpk⟩
      simp_all
     .simp only[e,bl]at hk;have q:=c.pend k B hk;obtain⟨u,d',y,h1,h4,h5,h6⟩:=q.it;have hdd:d'≠d:=by
       obtain⟨R,M,f1,f2,_⟩:=(hfree k _ h1 e).resolve_left (λhdk=>by
        obtain⟨_,_,_,_,_,hno⟩:=xT q.late
        simp_all)
       intro h;exact f2 (h▸Fr f1 (zy h6.dst).1)
      exact⟨q.late,λb hb=>ba (q.hi b hb) hx1.size,λb=>by
       by_cases hb:b<w.heap.size
       .have:=q.le b;grind
       grind [anD.hi],u,d',y,h1,u_,(hgt d' hdd).trans h5,
       h6.keep hx1 (λb hb=>⟨q.hi b hb,λh=>by have:=q.le b;omega⟩) λ_ _=>rfl⟩
    .have key:∀k B,k≠i->pd k=some B->∀b,A b+B b<=1:=λk B e hk b=>by
      have q:=c.pend k B hk;by_cases hb:b<w.heap.size
      .have:=q.le b;grind
      grind [anD.hi]
     intro b;by_cases e:k=i
     .have e2:q≠i:=λh=>hkq (e.trans h.symm)
      simp only[e,e2,bn,bl,ae]at hk hq';subst hk;exact key q C e2 hq' b
     .by_cases e2:q=i
      .simp only[e,e2,bn,bl,ae]at hk hq';subst hq';have:=key k B e hk b;omega
      .simp only[e,e2,bl]at hk hq';exact c.disj k q B C hkq hk hq' b
    .exact⟨hs2,c.base.ext.trans hx1 λb hb h=>by have:=c.base.old b hb;omega,λb hb=>aM (hO1 b o_) (c.base.old b hb),by simp[c.base.size]⟩
    .by_cases e:k=i
     .simp only[e,bn,ae]at hk;subst hk;have:=hold1 b o_;have:=c.base.old b hb;omega
     .simp only[e,bl]at hk;have:=c.old k B hk b hb;grind
    .have hnd:=c.left.nd;rw[hrem]at hnd;have hnd':=List.nodup_append.1 hnd;have hn1:i∉l1:=λh=>hnd'.2.2 i h i (.head _) rfl
     have hn2:i∉l2:=(vt.1 hnd'.2.1).1;have:=hcount hrem rfl hn1 hn2;rw[hrem,List.filter_append,List.filter_cons_of_neg (by rw[Wk hsz,ac rfl];simp),<-List.filter_append];exact this
  |false =>
   obtain⟨l1,l2,hrem⟩:=qu hirem;rw[hrem]at c;obtain⟨l1',pd',F',g',O',st1,c1,hpass,hfl⟩:=Cf.flush_for hok hil hl ho hready rfl c;have hsw:∀j∈l1',∃u,vs[j]?=some u∧kH (et j nr) (et i nr) u vs[i]=true:=λj hj=>by
    simp_all
   have inv:dr st1:=⟨c1.s.se,c1.s.sh,λid hid=>c1.s.heap_fresh hid⟩
   have h2:=VV hv hsw inv c1.run;simp only[fH,hv]at h2;split at h2
   .simp at h2
   .rename_i st2 h3N;have h3:cV r vs[i] st1=some st2:=OJ (λhw=>hok.near i _ hw hv) c1.s.se h3N;have hnd:=c1.left.nd;have hnd':=List.nodup_append.1 hnd;have hn1:i∉l1':=λh=>hnd'.2.2 i h i (.head _) rfl
    have hn2:i∉l2:=(vt.1 hnd'.2.1).1;have hsub:(l1'++l2).Sublist (l1'++i::l2):=sH (uM i l2) l1';have hpdi:pd' i=none:=by
     cases h:pd' i with
     |none=>rfl
     |some b =>
      have:=(c1.left.pdl i b h).2;rw[<-Fi hsz,hil]at this;simp at this
    have hapart:∀k∈l1'++l2,uj anc vs k=true->∀u d,vs[k]?=some u->iL u=some d->∃R M,ki vs[i]=some (R,M)∧d∉M∧(listed.getD k false=true->∀q∈zK u,q∉M):=λk hk hlk u0 d hvk hdk=>by
     have hki:i≠k:=λe=>by rw[e,hlk]at hl;simp at hl
     obtain⟨u2,d2,k1,kd,k2,_⟩:=xT hlk;rw[hvk]at k1;simp only[ae]at k1;subst k1;rw[hdk]at kd;simp only[ae]at kd;subst kd;rcases k2 i _ hv hki with hd|hd
     .rcases bF.1 hk with hk1|hk1
      .obtain⟨u,v,a1,a2,a3⟩:=hpass k hk1;rw[hvk]at a1;rw[hv]at a2;simp only[ae]at a1 a2;subst a1 a2;obtain⟨R,M,f1,f2⟩:=aod a3 hdk;exact⟨R,M,f1,f2 _ (.head _),λ_ q hq=>f2 q (.tail _ hq)⟩
      .have hkm:k∈l1'++i::l2:=by simp[hk1]
       have hkn:=c1.left.lt k hkm;have hkl:listed.getD k false=true:=uT c1.left.closed (hok.path i k hd) λo' ho'=>by
        rw[ho]at ho';simp only[ae]at ho';subst ho';exact hready
       have hif:listed.getD i false=false:=by rw[<-Fi hsz];exact hil
       have hpw:=(bW.1 (dg.1 c1.left.pair).2.1).1 k hk1;rcases hpw with (h|⟨u,v,a1,a2,a3⟩)|h
       .have:=uT c1.left.closed (hok.path k i h) λo' ho'=>c1.left.closed k o' hkl ho'
        rw[hif]at this;simp at this
       .rw[hvk]at a2;rw[hv]at a1;simp only[ae]at a1 a2;subst a1 a2;obtain⟨R,M,f1,f2⟩:=Ym a3 hdk;exact⟨R,M,f1,f2 _ (.head _),λ_ q hq=>f2 q (.tail _ hq)⟩
       .have hii:=h.2.1 i hvl hd;have:=uT c1.left.closed (hok.path i i hii) λo' ho'=>by
         rw[ho]at ho';simp only[ae]at ho';subst ho';exact hready
        rw[hif]at this;simp at this
     .obtain⟨R,M,f1,f2,f3⟩:=hd;refine⟨R,M,f1,f2,λhkl=>f3.resolve_left λhki=>?_⟩;have hif:listed.getD i false=false:=by rw[<-Fi hsz];exact hil
      have:=uT c1.left.closed (hok.path k i hki) λo' ho'=>c1.left.closed k o' hkl ho'
      rw[hif]at this;simp at this
    refine ald (ro:=ro) hr hcs c1.n c1.s h3 (hok.vi i _ o hv ho) ds _ Q λt' w' g2 O2 G hT=>?_
    refine ih (rem:=l1'++l2) (pd:=pd') ⟨⟨c1.left.pair.sublist hsub,hnd.sublist hsub,λk hk=>c1.left.lt k (hsub.subset hk),by simp[c1.left.size],λk hk=>?_,λk b hk=>?_,hclosed⟩,by rw[G.size,c1.n],G.st,λk hk u d hvk hdk hlk=>?_,λk B hk=>?_,c1.disj,c1.base.trans G,λk B hk b hb=>?_,c1.le0,h2⟩ ?_
    .have hold:=c1.left.mem k hk;rw[Wk hsz];by_cases e:i=k
     .subst e;simp only[bn,lO,hpdi,Option.isSome_none,ao,or_self,iff_false];intro hm;rcases bF.1 hm with h|h
      .exact hn1 h
      .exact hn2 h
     .simp only[e,bl];rw[<-hold];simp only[bF,aC];constructor
      .rintro (h|h)
       .exact .inl h
       .exact .inr (.inr h)
      .rintro (h|h|h)
       .exact .inl h
       .exact absurd h.symm e
       .exact .inr h
    .have:=c1.left.pdl k b hk;refine⟨this.1,?_⟩;rw[Wk hsz];split
     .rfl
     .exact this.2
    .have h0:=c1.abs k (hsub.subset hk) u d hvk hdk hlk;obtain⟨R,M,f1,f2,_⟩:=hapart k hk hlk u d hvk hdk;obtain⟨e1,hs1'⟩:=st1;have:=(A8 f1 e1 hs1' st2 h3).2.1 d f2;rw[this];exact h0
    .have hki:i≠k:=λe=>by rw[<-e,hpdi]at hk;simp at hk
     have hkm:k∈l1'++i::l2:=(c1.left.mem k (c1.left.pdl k B hk).1).2 (.inr (by rw[hk];rfl));have hkm':k∈l1'++l2:=by
      rcases bF.1 hkm with h|h
      .exact dn _ h
      .rcases aC.1 h with h|h
       .exact absurd h.symm hki
       .exact fA _ h
     have q:=c1.pend k B hk;obtain⟨u,d,y,h1,h4,h5,h6⟩:=q.it;obtain⟨R,M,f1,f0,f2⟩:=hapart k hkm' q.late u d h1 h6.dst;have f2:=f2 (c1.left.pdl k B hk).2;have hdd:vs[i].dst≠some d:=λe=>f0 (Fr f1 e)
     refine⟨q.late,λb hb=>ba (q.hi b hb) G.ext.size,λb=>?_,u,d,y,h1,by rw[G.size];exact h4,(hT d hdd).trans h5,h6.keep G.ext (λb hb=>⟨q.hi b hb,λh=>by have:=q.le b;omega⟩) λp hp=>?_⟩
     .by_cases hb:b<w.heap.size
      .have:=q.le b;have:=G.old b hb;omega
      .have:B b=0:=by
        by_cases h:B b=0
        .exact h
        .exact absurd (q.hi b h) hb
       have:=G.st.le b;omega
     .obtain⟨e1,hs1'⟩:=st1;exact(A8 f1 e1 hs1' st2 h3).2.1 p (f2 p hp)
    .have:=c1.old k B hk b hb;have:=G.old b (ba hb c1.base.ext.size);omega
    .
     exact hcount hrem hfl hn1 hn2
def U1 {e:aV}:∀{vs:T_},sv e vs=true->∀(i:Nat) (v:VI) (d:Nat),vs[i]?=some v->iL v=some d->get e d=none
 |[],_,i,v,d,h,_=>by simp at h
 |u::r,hl,i,v,d,h,hd=>by
  simp only[sv,af]at hl
  cases i with
  |zero =>
   grind
  |succ i =>
   exact U1 hl.2 i v d h hd
def aqB {g:Gh}{w:World}{t:F_}{O:Nat->Nat}{st st':St}{ro:I_}(hr:iE P r)(hcs:jd P r){n:Nat}{ops:Array Oper}{gco nr:C_}{vs:T_}{perm:C_}(ds:List Deferred)(h:JP P n ops perm gco nr vs=true){Q:Exit->Act->World->Prop}{id:Nat}(hn:t.size=n)
  (s:S P g w st t O)(habs:sv st.env vs=true)(hrun:fH r nr vs perm [] st=some st')(hq:∀w' t' g' O',gI P g w t O st' t' w' g' O'->Q .normal ⟨t',ds⟩ w'):(Code.region id ops true).wpIn (FR ro) 0 P Q ⟨t,ds⟩ w:=by
 have hok:=awL h;refine wpIn_region_draw λtt=>?_
 have hx:bL g w g w.drew λ_=>False:=bL.drew _ _ _
 have sd:=s.extF hx rfl s.pmlt;have hleft:∀m,auv ops nr vs (IY ops perm []) m (Array.replicate ops.size false) perm (λ_=>none):=λm=>by
  refine⟨hok.pair,hok.nd,hok.lt,s_,λi hi=>?_,λi b hi=>by simp at hi,λi o hi=>?_⟩
  .have:=hok.all i hi
   simp_all
  .simp[Array.getD]at hi
 have hlen:(perm.filter λi=>!(Array.replicate ops.size false).getD i true).length=ops.size:=by
  have h0:(perm.filter λi=>!(Array.replicate ops.size false).getD i true)=perm:=List.filter_eq_self.2 λi hi=>by
   have:=hok.lt i hi
   simp_all
  have h1:perm.Perm (List.range ops.size):=by
   grind [su.nd,List.nodup_range,su.all]
  rw[h0,h1.length_eq];simp
 have key:∀m tt,wpOpsIn (FR ro) 0 P ops Q (Region.linearise m ops tt) ⟨t,ds⟩ w.drew:=λm tt =>
  axS (ro:=ro) (m:=m) hr hcs hok ds (g0:=g) (w0:=w.drew) (t0:=t) (O0:=O) (st':=st') (λw' t' g' O' G=>hq _ _ _ _ ⟨G.st,(hx.mono (T:=λb=>O b≠0) λ_ _ h=>h.elim).trans G.ext λ_ _ h=>h,G.old,G.size⟩)
   ⟨hleft m,hn,sd,λi hi v d hv hd _=>U1 habs i v d hv hd,λi b hi=>by simp at hi,λi j A B _ hi=>by simp at hi,gI.refl sd,λi b hi=>by simp at hi,sd.le,hrun⟩ hlen
 unfold Region.schedule;split<;>simp_all
end
abbrev qM:=@StepsIn.trans
def NG (ro:I_)(P:Program)(c:Code)(Q:Exit->Act->World->Prop)(a:Act)(w:World):Prop :=
 ∀(b:Frame) (k:List Item) (cs:List Frame),b.roundOf=ro->∃e a' w',Q e a' w'∧ArrivesIn (Machine.fenced P (FR ro)) P (lone (b.atR a (.inLoop c::k)) cs w) b k cs e a' w'
def FW (ro:I_)(P:Program)(body cur:Code)(Q:Exit->Act->World->Prop)(a:Act)(w:World):Prop :=
 ∀(b:Frame) (k:List Item) (cs:List Frame),b.roundOf=ro->∃e a' w',Q e a' w'∧ArrivesIn (Machine.fenced P (FR ro)) P (lone (b.atR a (.code cur::.inScope body::k)) cs w) b k cs e a' w'
section
variable {P:Program}{ro:I_}{Q:Exit->Act->World->Prop}{a:Act}{w:World}
def Kj {ro:I_}(m:Machine):Machine.fenced P (FR ro) m:=fenced_wide P m
def YW {c:Code}(h:c.wpIn (FR ro) 0 P (Exit.then (NG ro P c Q) Q) a w):NG ro P c Q a w∧(Code.loop c).wpIn (FR ro) 0 P Q a w:=by
 have key:∀(b:Frame) (k:List Item) (cs:List Frame),b.roundOf=ro->∃e a' w',Q e a' w'∧ArrivesIn (Machine.fenced P (FR ro)) P (lone (b.atR a (.code c::.inLoop c::k)) cs w) b k cs e a' w':=by
  intro b k cs hro;obtain⟨e,a₁,w₁,hq,harr⟩:=h b (.inLoop c::k) cs hro trivial (abO _ _)
  cases e with
  |normal =>
   obtain⟨e₂,a₂,w₂,hq₂,harr₂⟩:=hq b k cs hro;exact⟨e₂,a₂,w₂,hq₂,.of_steps harr harr₂⟩
  |exit id=>exact⟨_,a₁,w₁,hq,.pass (x:=.inLoop c) rfl (λ_ _=>.inl s_) harr⟩
  |goto l=>exact⟨_,a₁,w₁,hq,.pass (x:=.inLoop c) rfl (λ_ _=>.inl s_) harr⟩
  |ret=>exact⟨_,a₁,w₁,hq,.pass (x:=.inLoop c) rfl (λ_ _=>.inl s_) harr⟩
  |panic ch=>exact⟨_,a₁,w₁,hq,.pass (x:=.inLoop c) rfl (λ_ _=>.inl s_) harr⟩
  |outgrown=>exact⟨_,a₁,w₁,hq,.pass (x:=.inLoop c) rfl (λ_ _=>.inl s_) harr⟩
 refine⟨λb k cs hro=>?_,λb k cs hro _ _=>?_⟩
 .obtain⟨e,a',w',hq,harr⟩:=key b k cs hro;exact⟨e,a',w',hq,.of_steps (.one (Kj _) stepR_inLoop) harr⟩
 .obtain⟨e,a',w',hq,harr⟩:=key b k cs hro;exact⟨e,a',w',hq,.of_steps (.one (Kj _) stepR_loop) harr⟩
def Exit.scope (ro:I_)(P:Program)(body:Code)(Q:Exit->Act->World->Prop):Exit->Act->World->Prop
 |.goto l,a,w=>match findLabel body l with
  |some rest=>FW ro P body rest Q a w
  |none=>Q (.goto l) a w
 |e,a,w=>Q e a w
def akC {body cur:Code}(h:cur.wpIn (FR ro) 0 P (Exit.scope ro P body Q) a w):FW ro P body cur Q a w:=by
 intro b k cs hro;obtain⟨e,a₁,w₁,hq,harr⟩:=h b (.inScope body::k) cs hro trivial (abO _ _)
 cases e with
 |normal=>exact⟨.normal,a₁,w₁,hq,qM harr (.one (Kj _) (step_lone_go (by simp[stepG,stepG.exec,Frame.atR])))⟩
 |exit id =>
  have hx:exitTo id (.inScope body::k)=exitTo id k:=by simp[exitTo]
  exact⟨_,a₁,w₁,hq,λk' hk=>harr.1 k' u_,λhr hk=>harr.2 hr u_⟩
 |goto l =>
  have hx:gotoIn l (.inScope body::k)=match findLabel body l with|some rest=>some (.code rest::.inScope body::k)|none=>gotoIn l k:=by
   grind [gotoIn]
  simp only[Exit.scope]at hq
  cases hf:findLabel body l with
  |some rest =>
   rw[hf]at hq hx;obtain⟨e₂,a₂,w₂,hq₂,harr₂⟩:=hq b k cs hro;exact⟨e₂,a₂,w₂,hq₂,.of_steps (harr.1 _ hx) harr₂⟩
  |none =>
   rw[hf]at hq hx;exact⟨_,a₁,w₁,hq,λk' hk=>harr.1 k' u_,λhr hk=>harr.2 hr u_⟩
 |ret=>exact⟨_,a₁,w₁,hq,harr⟩
 |panic ch=>exact⟨_,a₁,w₁,hq,harr⟩
 |outgrown=>exact⟨_,a₁,w₁,hq,harr⟩
def arF {body:Code}(h:FW ro P body body Q a w):(Code.scope body).wpIn (FR ro) 0 P Q a w:=by
 intro b k cs hro _ _;obtain⟨e,a',w',hq,harr⟩:=h b k cs hro;exact⟨e,a',w',hq,.of_steps (.one (Kj _) (step_lone_go (by simp[stepG,stepG.exec,Frame.atR]))) harr⟩
end
def ap4 {P:Program}{n:Nat}{v:VC}{c:Code}(h:Mt P n v c)(l:Nat) :
  match vG v l with
  |some x=>∃y,findLabel c l=some y∧Mt P n x y
  |none=>findLabel c l=none:=by
 have hgh:∀{a:VC},wj a=true->vG a l=none:=by
  intro a
  induction a<;>grind [wj,vG]
 induction h with
 |ghostL h1 h2 ih=>grind [vG]
 |@ghostR a b c h1 h2 ih =>
  simp only[vG,hgh h1]
  cases hf:vG a l with
  |none=>simp_all
  |some x =>
   simp only[hf]at ih⊢;obtain⟨y,hy,hm⟩:=ih;exact⟨y,hy,.ghostR h1 hm⟩
 |@seq a b c d h1 h2 ih1 ih2 =>
  simp only[vG]
  cases hf:vG a l with
  |some x =>
   simp only[hf]at ih1⊢;obtain⟨y,hy,hm⟩:=ih1;exact⟨.seq y d,by grind [findLabel],.seq hm h2⟩
  |none =>
   grind [findLabel]
 |@label k =>
  simp only[vG,findLabel];by_cases e:k=l
  .subst e;simp[Mt.skip]
  grind [Nat.beq_eq]
 |_=>grind [vG,findLabel]
section
variable {P:Program}{g:Gh}{w:World}{t:F_}{O:Nat->Nat}{st st':St}{a:AV}{o:Oper}{r:dC}
def aiH:∀{vs:D_}{i:Nat},∀p∈kp i vs,i<=p.1
 |[],_,p,hp=>by simp[kp]at hp
 |v::vs,i,p,hp=>by
  rcases abu hp with rfl|hp
  .omega
  .have:=aiH p hp;omega
def SR:∀(vs:D_) (i:Nat),cU (kp i vs)
 |[],_=>List.Pairwise.nil
 |v::vs,i=>(SR vs (i+1)).put _ _
def anp {t:F_}{i:Nat}{x:Value}(h:t[i]?=some x):i<t.size:=by
 grind
def acT {t:F_}:∀{vs:D_}{xs:N_}{i:Nat}{Ov:Nat->Nat},RVs g w vs xs Ov->(∀(j:Nat) (x:Value),xs[j]?=some x->t[i+j]?=some x)->kr g w (kp i vs) t Ov
 |[],xs,i,Ov,rv,_=>by exact rv.2
 |v::vs,xs,i,Ov,rv,ht=>by
  obtain⟨x,ys,O1,O2,rfl,r1,r2,hs⟩:=rv;have h0:t[i]?=some x:=ht 0 x rfl;have rr:=acT (t:=t) (i:=i+1) r2 λj y hj=>by have:=ht (j+1) y u_;grind
  rw[<-rL (l:=kp (i+1) vs) (i:=i) λp hp=>by have:=aiH p hp;omega]at rr;obtain⟨O,ro,ho⟩:=RL.put (SR vs (i+1)) rr (i:=i) (x:=v) (O1:=O1) ⟨anp h0,u_⟩;have e:O=Ov:=funext λb=>by simp_all
  exact e▸ro
def axl {args:D_}{hs:HS}{xs:N_}{Oa Oh:Nat->Nat}(rv:RVs g w args xs Oa)(sh:S P g w ⟨[],hs⟩ #[] Oh)(hle:∀b,Oa b+Oh b<=1)(hhi:∀b,Oa b≠0->b<w.heap.size)(n:Nat) :
  S P g w ⟨kp 0 args,hs⟩ (xs.toArray++Array.replicate n undef) λb=>Oa b+Oh b:=by
 refine S.join (SR _ _) (acT rv λj x hj=>?_) sh hle hhi
 grind
def bL.deferBlk {b:Nat}{ds ds':Option (List Deferred)}(hb:w.heap[b]?=some (.deferred ds)):bL g w g (Vm.setBlk w b (.deferred ds')) λx=>x=b where
 obj _ _ h:=⟨h,rfl,rfl,rfl⟩
 pm b' o h:=⟨h,by
  grind [World.cell?,eY,ir]⟩
 blk b' _ h:=⟨ir h,λ_ h=>h⟩
 size:=s_
 lp b' r h:=⟨r,by grind [ir]⟩
 same:=⟨rfl,rfl,zV hb (by grind [gE]) (by grind [gE])⟩
def I5 {b:Nat}(h:w.heap[b]?=some (.deferred (some []))):(Instr.takeDeferred b).run P w=.ok [] (setBlk w b (.deferred none)):=by
 simp_all [Instr.takeDeferred,getObj,setObj,Sem.run,setBlk]
def aap {ro:I_}{fn:Func}{tmps:F_}{R:Ending->World->Prop}{lo:Nat}:∀{ms:List Deferred}{w:World},jO w O lo ms->S P g w st t O->
  (∀w',S P g w' st t O->bL g w g w' (λb=>lo<=b)->∃v,(results fn tmps).run P w'=.ok v w'∧R (.returned v) w')->LeavesInM (FR ro) 0 P fn tmps R ms .returning w
 |[],w,_,s,h=>h w s (.refl _ _ _)
 |d::ds,w,⟨⟨r,h1,h2,h3,h4,h5⟩,h6⟩,s,h=>by
  refine⟨s_,.inl ⟨r,setBlk w r (.deferred none),h1,I5 h3,?_⟩⟩;have hx:bL g w g (setBlk w r (.deferred none)) λx=>x=r:=bL.deferBlk h3
  have hm:jO (setBlk w r (.deferred none)) O lo ds:=by
   have:∀{es:List Deferred},(∀d'∈es,∀r',d'.target=.collected r'->r'<r)->jO w O lo es->jO (setBlk w r (.deferred none)) O lo es:=by
    intro es
    induction es with
    |nil=>exact λ_ _=>trivial
    |cons e es ih =>
     rintro hlt ⟨⟨q,k1,k2,k3,k4,k5⟩,k6⟩
     have:=hlt e (.head _) q k1;exact⟨⟨q,k1,k2,by grind [ir],k4,k5⟩,ih (λd' hd'=>hlt d' (.tail _ hd')) k6⟩
   grind
  exact aap hm (s.otherG hx h4) λw' s' hx'=>h w' s' ((hx.mono (T:=λb=>lo<=b) λb _ e=>by omega).trans hx' λ_ _ h=>h)
def YG (t:F_):ResultVar->Sem Value
 |.tmp i=>pure (t.getD i undef)
 |.cell i ty=>do loadVar ty (<-asAddr (t.getD i undef))
def YN (fn:Func)(t:F_):results fn t=(do let vs<-fn.results.mapM (YG t);pure (if h:vs.size=1 then vs[0] else .tuple vs)):=by
 congr 1
def ahk {α:Type}{f:α->Sem Value}{l:Array α}{xs:N_}(h:(l.toList.mapM f).run P w=.ok xs w):(l.mapM f).run P w=.ok xs.toArray w:=by
 simp_all [Array.mapM_eq_mapM_toList]
def E8:∀{vr:BA_}{fr:List ResultVar},mb P vr fr=true->∀{st st':St}{O:Nat->Nat}{vs:D_},fL st vr=some (vs,st')->S P g w st t O->
  ∃xs:N_,∃Ov O',(fr.mapM (YG t)).run P w=.ok xs w∧RVs g w vs xs Ov∧S P g w st' t O'∧(∀b,Ov b+O' b<=O b)∧
   xs.length=fr.length
 |[],[],_,st,st',O,vs,h,s=>by
  obtain⟨rfl,rfl⟩:=h;exact⟨[],zero,O,s_,by simp[RVs],s,λb=>by simp,rfl⟩
 |.tmp i::vr,.tmp j::fr,hc,st,st',O,vs,h,s=>by
  simp only[mb,af,aB]at hc;obtain⟨rfl,hc⟩:=hc;simp only[fL]at h;split at h
  .rename_i v hv;split at h
   .rename_i us st1 hr;obtain⟨rfl,rfl⟩:=h;obtain⟨O1,O2,_,rv,s2,l2⟩:=s.pull hv;obtain⟨xs,O3,O4,hrun,rvs,s4,l4,hlen⟩:=E8 hc hr s2;refine⟨t.getD i undef::xs,λb=>O1 b+O3 b,O4,?_,?_,s4,λb=>by grind,u_⟩
    .simp_all [YG]
    grind [RVs]
   simp_all
  simp_all
 |.cell i n::vr,.cell j ty::fr,hc,st,st',O,vs,h,s=>by
  simp only[mb,af,aB]at hc;obtain⟨⟨rfl,hty⟩,hc⟩:=hc;simp only[fL]at h;split at h
  .rename_i id hv;split at h
   .rename_i v h' hl;split at h
    .rename_i us st1 hr;obtain⟨rfl,rfl⟩:=h;obtain⟨O0,O00,_,rp,_,_⟩:=s.pull hv;obtain⟨⟨b,hob,hp⟩,_⟩:=rp;obtain⟨x,O1,O2,hrun1,rv,s2,l2⟩:=Yt hty s hob hl;obtain⟨O5,s5,l5⟩:=s2.delEnv i;obtain⟨O6,s6,l6⟩:=s5.delHeap id;obtain⟨xs,O3,O4,hrun,rvs,s4,l4,hlen⟩:=E8 hc hr s6;refine⟨x::xs,λb=>O1 b+O3 b,O4,?_,?_,s4,λb=>by grind,u_⟩
     .simp_all [YG,asAddr]
     grind [RVs]
    simp_all
   simp_all
  simp_all
 |[],_::_,hc,_,_,_,_,_,_=>by simp[mb]at hc
 |_::_,[],hc,_,_,_,_,_,_=>by simp[mb]at hc
 |.tmp _::_,.cell _ _::_,hc,_,_,_,_,_,_=>by simp[mb]at hc
 |.cell _ _::_,.tmp _::_,hc,_,_,_,_,_,_=>by simp[mb]at hc
def air {vf:aj}{fn:Func}(hc:mb P vf.results fn.results.toList=true){v:AV}{hs':HS}(h:Gb vf st=some (v,hs'))(s:S P g w st t O) :
  ∃x Ov Oh,(results fn t).run P w=.ok x w∧RV g w v x Ov∧S P g w ⟨[],hs'⟩ #[] Oh∧∀b,Ov b+Oh b<=O b:=by
 unfold Gb at h;split at h
 .rename_i v1 st1 hr;obtain⟨rfl,rfl⟩:=h;obtain⟨xs,Ov,O',hrun,rvs,s',l,hlen⟩:=E8 hc hr s;obtain⟨x,ys,O1,O2,rfl,rv,⟨rfl,_⟩,hs2⟩:=rvs;obtain⟨Oe,Oh,_,sh,ho⟩:=s'.split;refine⟨x,O1,Oh,?_,rv,sh,λb=>by grind⟩
  simp_all [YN,ahk]
 .rename_i vs st1 hne hr;obtain⟨rfl,rfl⟩:=h;obtain⟨xs,Ov,O',hrun,rvs,s',l,hlen⟩:=E8 hc hr s;obtain⟨Oe,Oh,_,sh,ho⟩:=s'.split;refine⟨.tuple xs.toArray,Ov,Oh,?_,by grind [RV],sh,λb=>by grind⟩;have hl1:xs.length≠1:=by
   intro h1;have h2:=rvs.length;rw[h1]at h2
   match vs,h2 with
   |[v],_=>grind
  simp_all [YN,ahk]
 simp_all
end
section
variable {P:Program}{g:Gh}{w:World}{t:F_}{O:Nat->Nat}{st st':St}{a:AV}{o:Oper}{r:dC}
def qj {ro:I_}{ops:Array Oper}{Q:Exit->Act->World->Prop}{i:Nat}{rest:C_}{ds:List Deferred}{v:Value}{w':World}(h:ops[i]?=some o)(hg:o.guard=none)
  (hd:∀c,o.op≠.defer c)(hrun:(execOp (ev t) o).run P w=.ok (.value v) w')(hk:wpOpsIn (FR ro) 0 P ops Q rest ⟨wh t o.dst v,ds⟩ w'):wpOpsIn (FR ro) 0 P ops Q (i::rest) ⟨t,ds⟩ w:=by
 simp only[wpOpsIn,h];rw[ac (by grind [Region.wanted])];refine⟨λ_ _=>trivial,?_⟩
 grind [Pg,Oper.uponIn_value,ZR]
theorem Az {d:Nat}(h:LY o d=true):o.dst=some d∧o.guard=none:=by
 grind [LY,Nat.beq_eq,Option.isNone_iff_eq_none]
theorem XK {x:Operand}(h:Z1 x=true):x=.const (.slice none 0 0):=by
 grind [Z1]
theorem wV {i:Nat}{x:Operand}(h:Fe i x=true):x=.tmp i:=by
 unfold Fe at h;grind [Nat.beq_eq]
def aFf {α:Type}{r:Array α}{x:α}(h:r.toList=[x]):r=#[x]:=by
 grind
def aao {d:Nat}{r:Array Oper}(h:Yr d r.toList=true):∃o,r=#[o]∧o.dst=some d∧o.guard=none∧o.op=.assign (.const (.slice none 0 0)):=by
 unfold Yr at h
 grind [Az,XK]
def anm {m:Nat}{r:Array Oper}(h:af9 P m r.toList=true):∃a b T u,r=#[a,b]∧a.dst=some 3∧a.guard=none∧a.op=.move (.tmp 0)∧b.dst=some 4∧b.guard=none∧
  b.op=.binOp .eql T (.tmp 3) (.const (.slice none 0 0)) u∧iO P T m=true:=by
 unfold af9 at h
 grind [Az,wV,XK]
def anI {m:Nat}{r:Array Oper}(h:ahZ P m r.toList=true):∃a b c d T ats e',r=#[a,b,c,d]∧a.dst=some 5∧a.guard=none∧a.op=.buildSlice T 0 #[]∧iO P T m=true∧
  b.dst=some 6∧b.guard=none∧b.op=.move (.tmp 0)∧c.dst=some 7∧c.guard=none∧c.op=.call ⟨.builtin .append,#[.tmp 5,.tmp 6],ats⟩∧ats=#[sU ⟨.builtin .append,#[.tmp 5,.tmp 6],ats⟩,ats.getD 1 0]∧
  iO P (sU ⟨.builtin .append,#[.tmp 5,.tmp 6],ats⟩) m=true∧mE P (sU ⟨.builtin .append,#[.tmp 5,.tmp 6],ats⟩) m=true∧P.underlying (ats.getD 1 0)=some (.slice e')∧
  d.dst=some 2∧d.guard=none∧d.op=.assign (.tmp 7):=by
 unfold ahZ at h;split at h
 .rename_i a b c d e;simp only[af]at h;obtain⟨⟨⟨⟨⟨⟨⟨h1,h2⟩,h3⟩,h4⟩,h5⟩,h6⟩,h7⟩,h8⟩:=h;obtain⟨k1,k2⟩:=Az h1;obtain⟨k3,k4⟩:=Az h3;obtain⟨k5,k6⟩:=Az h5;obtain⟨k7,k8⟩:=Az h7;split at h2
  .rename_i T ps hops;simp only[af]at h2;split at h4
   .split at h6
    .rename_i k hk;obtain⟨callee,args,ats⟩:=k;simp only[af]at h6;obtain⟨⟨⟨⟨⟨q1,q2⟩,q3⟩,q4⟩,q5⟩,q6⟩:=h6;have:=qh q1;subst this;split at q6
     .simp only[af]at q6;have e1:=wV q6.1;have e2:=wV q6.2;have:args=#[.tmp 5,.tmp 6]:=d_;subst this;split at q5
      .rename_i e' he';split at h8
       .exact⟨a,b,c,d,T,ats,e',d_,k1,k2,u_,h2.1,k3,k4,by grind [wV],k5,k6,hk,Kb q2,q3,q4,he',k7,k8,by grind [wV]⟩
       simp_all
      simp_all
     simp_all
    simp_all
   simp_all
  simp_all
 simp_all
theorem qt {i j:Nat}{v:Value}(h:j<t.size):(t.setIfInBounds i v).getD j undef=if i=j then v else t.getD j undef:=by
 simp only[gy,f9]
 grind
def aoz {m:Nat}{c:Code}(hc:Pi P m c=true){out:cG}(h:MN m st=some (out,st'))(ht:8<=t.size)(s:S P g w st t O) :
  c.wpIn (FR none) 0 P (cA P g w t O [] none out st') ⟨t,[]⟩ w:=by
 unfold Pi at hc;split at hc
 .rename_i i0 r0 i1 r1 i2 r2 i3 r3;simp only[af]at hc;obtain⟨⟨⟨c0,c1⟩,c2⟩,c3⟩:=hc;obtain⟨o0,rfl,d0,gd0,p0⟩:=aao c0;obtain⟨o1,o2,T,u,rfl,d1,gd1,p1,d2,gd2,p2,hT⟩:=anm c1;obtain⟨o3,rfl,d3,gd3,p3⟩:=aao c2;obtain⟨o4,o5,o6,o7,T4,ats,e',rfl,d4,gd4,p4,hT4,d5,gd5,p5,d6,gd6,p6,hats,hT6,hz6,hu1,d7,gd7,p7⟩:=anI c3;unfold MN at h;split at h
  .rename_i v hv;split at h
   .rename_i xs hxs;split at h
    .rename_i hb;simp only[af,bj]at hb;obtain⟨hok,hmost⟩:=hb;simp only[ae,aQ]at h;obtain⟨rfl,rfl⟩:=h;have hl:=LR hok;obtain⟨Ov,O1,h0t,rv,s1,l1⟩:=s.pull hv;obtain⟨ad,cap,news0,hx,hels0⟩:=AF s hxs hl rv;obtain⟨Oe,Oh,_,sh,ho⟩:=s.split;generalize hX:t.getD 0 undef=X at *;obtain⟨el,hu,hsz,hm,hby⟩:=iq hT;have fin:∀(t':F_) (w':World) (g':Gh) (Or O':Nat->Nat),t'.size=t.size->RV g' w' (.own true m xs) (t'.getD 2 undef) Or->S P g' w' ⟨[],st.hs⟩ #[] O'->bL g w g' w' (λb=>O b≠0)->
       (∀b,Or b+O' b<=1)->(∀b,b<w.heap.size->Or b+O' b<=O b)->(∀b,Or b≠0->b<w'.heap.size)->cA P g w t O [] none .ret ⟨[(2,.own true m xs)],st.hs⟩ .ret ⟨t',[]⟩ w':=by
      intro t' w' g' Or O' hsz' rv' s' hx' hle hold hhi;refine⟨rfl,g',λb=>Or b+O' b,[],⟨S.join (by simp[cU]) ⟨Or,zero,⟨d_,rv'⟩,λ_=>rfl,λb=>by simp⟩ s' hle hhi,hx',hold,hsz'⟩,rfl,trivial,λ_=>rfl⟩
     have nodef:∀{op:Op}{op':Op},op=op'->(∀c,op'≠.defer c)->∀c,op≠.defer c:=λe h c e2=>h c (e▸e2)
     refine wpIn_seq (wpIn_region ?_);show wpOpsIn _ _ _ _ _ [0] _ _;refine qj (o:=o0) (v:=.slice none 0 0) (w':=w) rfl gd0 (nodef p0 s_) (by simp[execOp,p0,ev]) ?_;refine wpIn_seq (wpIn_seq (wpIn_region ?_));show wpOpsIn _ _ _ _ _ [0,1] _ _;have hev0:ev (wh t (some 2) (.slice none 0 0)) (.tmp 0)=X:=by
      show(t.setIfInBounds 2 _).getD 0 undef=X
      grind [qt]
     rw[d0];refine qj (o:=o1) (v:=X) (w':=w) rfl gd1 (nodef p1 s_) (by simp[execOp,p1,hev0]) ?_;rw[d1];generalize ht2:wh (wh t (some 2) (.slice none 0 0)) (some 3) X=t2;have hs2:t2.size=t.size:=by grind [pK]
     have hev3:ev t2 (.tmp 3)=X:=by
      rw[<-ht2];show((wh t (some 2) (.slice none 0 0)).setIfInBounds 3 X).getD 3 undef=X
      grind [qt,pK]
     have heq:(Op.equal T X (.slice none 0 0)).run P w=.ok ad.isNone w:=by
      show(Op.equalIn (9999+1) T X (.slice none 0 0)).run P w=_;rw[hx];unfold Op.equalIn;rw[aS,aY hu]
      cases ad<;>simp
     have hguard:(eqGuard .eql T (.tmp 3) (.const (.slice none 0 0)) X (.slice none 0 0)).run P w=.ok () w:=by
      rw[hx];unfold eqGuard;simp
     refine qj (o:=o2) (v:=.bool ad.isNone) (w':=w) rfl gd2 (nodef p2 s_) ?_ ?_
     .simp only[execOp,p2,hev3];have hc:ev t2 (.const (.slice none 0 0))=.slice none 0 0:=rfl;rw[hc,aS,aS,hguard];have hbin:(binOp .eql T X (.slice none 0 0)).run P w=.ok (.bool ad.isNone) w:=by
       rw[hx];rw[hx]at heq;show((do pure (.bool (<-Op.equal T (.slice ad xs.length cap) (.slice none 0 0))):Sem Value)).run P w=_;rw[aS,heq];rfl
      grind [Result.andThen_ok,Sem.run_pure]
     .rw[d2];generalize ht3:wh t2 (some 4) (.bool ad.isNone)=t3;have hs3:t3.size=t.size:=by grind [pK]
      have hev4:ev t3 (.tmp 4)=.bool ad.isNone:=by
       rw[<-ht3];show(t2.setIfInBounds 4 _).getD 4 undef=_
       grind [qt]
      have hev03:ev t3 (.tmp 0)=X:=by
       rw[<-ht3,<-ht2];show(((t.setIfInBounds 2 _).setIfInBounds 3 _).setIfInBounds 4 _).getD 0 undef=X
       grind [qt]
      show(Code.cond (.tmp 4) (.seq (.region i2 #[o3] false) .ret) .skip).wpIn (FR none) 0 P _ ⟨t3,[]⟩ w
      cases had:ad with
      |none =>
       refine wpIn_cond_true (by rw[HV,hev4,had];rfl) (wpIn_seq (wpIn_region ?_));show wpOpsIn _ _ _ _ _ [0] _ _;refine qj (o:=o3) (v:=.slice none 0 0) (w':=w) rfl gd3 (nodef p3 s_) (by simp[execOp,p3,ev]) (wpIn_ret ?_);rw[d3];have hnil:xs=[]:=ay (hels0.nn had);refine fin _ w g zero Oh (by rw[pK,hs3]) ?_ sh (.refl _ _ _) (λb=>by have:=ho b;have:=s.le b;grind) (λb _=>by grind) (λb hb=>by simp at hb);have:(wh t3 (some 2) (.slice none 0 0)).getD 2 undef=.slice none 0 0:=by
        show(t3.setIfInBounds 2 _).getD 2 undef=_
        grind [qt]
       grind [RV,Ds]
      |some ad' =>
       refine wpIn_cond_false (by rw[HV,hev4,had];rfl) (wpIn_skip ?_);refine wpIn_seq (wpIn_region ?_);show wpOpsIn _ _ _ _ _ [0,1,2,3] _ _;obtain⟨el4,hu4,hsz4,hm4,hby4⟩:=iq hT4;have hbuild:(Instr.buildSlice T4 0 #[]).run P w=.ok (.slice (some ⟨w.heap.size,0,none⟩) 0 0) (w.alloc (.cells #[] el4)):=by
        have hr:∀f:Nat->Value,(Array.range (0*m)).map f=#[]:=by
         grind
        simp only[Instr.buildSlice,aY hu4,eQ hsz4,aS,bp,mg,Instr.fill,Nat.zero_mul,bn,dA];have hr0:∀f:Nat->Value,(Array.range 0).map f=#[]:=by
         grind
        simp[newRow,hr0]
       refine qj (o:=o4) (v:=.slice (some ⟨w.heap.size,0,none⟩) 0 0) (w':=w.alloc (.cells #[] el4)) rfl gd4 (nodef p4 s_) (by simp[execOp,p4,hbuild]) ?_;rw[d4];generalize ht5:wh t3 (some 5) (.slice (some ⟨w.heap.size,0,none⟩) 0 0)=t5;have hs5:t5.size=t.size:=by grind [pK]
       have hev05:ev t5 (.tmp 0)=X:=by
        rw[<-ht5];show(t3.setIfInBounds 5 _).getD 0 undef=X;rw[qt o_,aa o_];exact hev03
       refine qj (o:=o5) (v:=X) (w':=w.alloc (.cells #[] el4)) rfl gd5 (nodef p5 s_) (by simp[execOp,p5,hev05]) ?_;rw[d5];generalize ht6:wh t5 (some 6) X=t6;have hs6:t6.size=t.size:=by grind [pK]
       have hev66:ev t6 (.tmp 6)=X:=by
        rw[<-ht6];show(t5.setIfInBounds 6 _).getD 6 undef=X
        grind [qt]
       have hev65:ev t6 (.tmp 5)=.slice (some ⟨w.heap.size,0,none⟩) 0 0:=by
        rw[<-ht6,<-ht5];show((t3.setIfInBounds 5 _).setIfInBounds 6 _).getD 5 undef=_
        grind [qt]
       have hx1:bL g w g (w.alloc (.cells #[] el4)) λ_=>False:=bL.alloc s.pmlt _ _
       have hpl:∀b o,g.pm b o->b<(w.alloc (.cells #[] el4)).heap.size:=λb o h=>ba (s.pmlt b o h) hx1.size
       have sx:=s.extF hx1 rfl hpl;have shx:=sh.extF hx1 rfl hpl;have rvx:=RV.ext hx1 _ _ _ rv s_;obtain⟨ad2,cap2,news,hxx,hels⟩:=AF sx hxs hl rvx;rw[hx,had]at hxx;simp only[Value.slice.injEq,true_and]at hxx;obtain⟨rfl,rfl⟩:=hxx;obtain⟨el6,hu6,hsz6,hm6,hby6⟩:=iq hT6;obtain⟨el6',i6,zv,hu6',hi,hz,hzs⟩:=qN hz6;rw[hu6]at hu6';simp only[ae,ip]at hu6';subst hu6';rw[K3 hi]at hby6;generalize sU ⟨.builtin .append,#[.tmp 5,.tmp 6],ats⟩=T0 at *;generalize ats.getD 1 0=T1 at *;have hsrc:Z9 P (w.alloc (.cells #[] el4)) T1 X el6 m xs.length news:=by
        refine⟨hels.len,hels.one,.inl ⟨⟨e',hu1⟩,⟨ad,cap,hx⟩,λw1 hw=>?_⟩⟩;have:=hels.first (P:=P) (len:=xs.length) (cap:=cap) (ak _) hw
        rw[<-hels.len,tO,<-had,<-hx]at this;exact this
       have hmost':xs.length<=4294967296:=hmost;have hApp:tx P g (w.alloc (.cells #[] el4)) #[] Oh zero ⟨[],st.hs⟩ (.own true m xs) ((Builtin.append_ #[T0,T1] o6.type #[.slice (some ⟨w.heap.size,0,none⟩) 0 0,X]).run P (w.alloc (.cells #[] el4))):=by
        by_cases hxs0:xs.length=0
        .have hnil:news=[]:=ay (by grind [CY.len]);have hxn:xs=[]:=ay hxs0;have hrun:=Cq (P:=P) (w:=w.alloc (.cells #[] el4)) (ty:=o6.type) hu6 hi (Pd hsz6 hi) hm6 hby6 hmost' hsrc (base:=some ⟨w.heap.size,0,none⟩) (sLen:=0) (sCap:=0) o_;refine⟨.slice (some ⟨w.heap.size,0,none⟩) 0 0,w.alloc (.cells #[] el4),g,zero,Oh,?_,?_,shx,.refl _ _ _,λb=>by have:=shx.le b;simp_all,λb _=>by simp,λb hb=>by simp at hb⟩
         .simp_all [storeCells]
         simp_all [RV,Ds]
        .have:=XB (Oa:=zero) (xs:=[]) (base:=some ⟨w.heap.size,0,none⟩) (sCap:=0) (olds:=[]) (ty:=o6.type) shx hu6 hi hz hzs (Pd hsz6 hi) hm6 hby6 hsrc hels.rd (λe he=>by simp at he) hl (by simp)
          (λj d h=>by simp at h) (λw1 _=>vd m _ 0 0 w1) u_ (by omega)
         simp_all
       obtain⟨vv,w2,g2,Or,O2,k1,k2,k3,k4,k5,k6,k7⟩:=hApp;refine qj (o:=o6) (v:=vv) (w':=w2) rfl gd6 (nodef p6 s_) ?_ ?_
       .simp_all [execOp,resolve,invoke,builtin]
       .rw[d6];generalize ht7:wh t6 (some 7) vv=t7;have hs7:t7.size=t.size:=by grind [pK]
        have hev77:ev t7 (.tmp 7)=vv:=by
         rw[<-ht7];show(t6.setIfInBounds 7 _).getD 7 undef=vv
         grind [qt]
        refine qj (o:=o7) (v:=vv) (w':=w2) rfl gd7 (nodef p7 s_) (by simp_all [execOp]) (wpIn_ret ?_);have hle1:w.heap.size<=(w.alloc (.cells #[] el4)).heap.size:=hx1.size;refine fin _ w2 g2 Or O2 (by rw[pK,hs7]) ?_ k3 (((hx1.mono (T:=λb=>O b≠0) λ_ _ h=>h.elim)).trans k4 λb hb hq=>?_) k5 (λb hb=>?_) k7
        .have:(wh t7 (some 2) vv).getD 2 undef=vv:=by
          show(t7.setIfInBounds 2 _).getD 2 undef=_
          grind [qt]
         simp_all
        all_goals grind
    grind
   grind
  grind
 simp_all
end
abbrev np:=@ComesIn.of_steps
section
variable {P:Program}{F:Fence}{n:Nat}
def Ge {fn:Func}{tmps:F_}{R:Ending->World->Prop}:∀(ds:List Deferred) (u:FrameMode) (w:World) (fr:Frame)
  (cs:List Frame),fr.mode=u->fr.defers=ds->fr.tmps=tmps->P.funcs[fr.fn]?=some fn->fr.kind=.deferred->F.fn fr.fn->F.room (cs.length+1+n)->LeavesInM F n P fn tmps R ds u w->
  ∃e w' fr',R e w'∧ComesIn (Machine.fenced P F) P (lone fr cs w) (lone fr' cs w') e∧fr'.fn=fr.fn∧fr'.kind=.deferred∧fr'.going P w' e:=by
 intro ds
 induction ds with
 |nil =>
  intro u w fr cs hu hd ht hf hk _ _ h
  cases u with
  |run=>exact h.elim
  |returning =>
   obtain⟨v,hr,hR⟩:=h;exact⟨.returned v,w,fr,hR,StepsIn.refl _,rfl,hk,hu,hd,fn,hf,ht▸hr⟩
  |panicking chain=>exact⟨.panicked chain,w,fr,h,StepsIn.refl _,rfl,hk,hu,hd,fn,hf⟩
 |cons d ds ih =>
  intro u w fr cs hu hd ht hf hk hb hroom h;obtain⟨hrun,h⟩:=h;rcases h with ⟨r,w',htar,htake,hrest⟩|⟨hn,fv,cap,f,args,htar,hinv,hlead,hFf,hcall⟩
  .have h1:=step_collected (cs:=cs) (hu▸hrun) hd htar htake;have i1:(lone fr cs w).fenced P F:=fenced_out hb hroom (hu▸hrun) hd (λg hg=>by grind [Target.leads]);obtain⟨e',w'',fr',hR',hs',hfn',hk',hl'⟩:=ih u w' { fr with defers:=[]++ds } cs hu rfl ht hf hk hb hroom hrest;exact⟨e',w'',fr',hR',np (.one i1 h1) hs',hfn',hk',hl'⟩
  .have h1:=step_defer (cs:=cs) (hu▸hrun) hd htar hinv;have i1:(lone fr cs w).fenced P F:=fenced_out hb hroom (hu▸hrun) hd hlead;have hroom':F.room (({ fr with defers:=ds }::cs).length+1+(n-1)):=Fence.room_enter hroom hn;obtain⟨e,u',w',frX,hR,hsteps,hkX,hfX,hgo⟩:=hcall { fr with defers:=ds } cs hu hroom'
   cases e with
   |outgrown=>exact⟨.outgrown,w',fr,hR,Outgrown.of_steps (.one h1) hsteps,rfl,hk,trivial⟩
   |returned v =>
    have i2:(lone frX ({ { fr with defers:=ds } with mode:=u' }::cs) w').fenced P F:=fenced_going (n:=n-1) (hfX▸hFf) hroom' hgo;have h2:=step_going_returned (c:={ { fr with defers:=ds } with mode:=u' }) (cs:=cs) hkX hgo;obtain⟨e',w'',fr',hR',hs',hfn',hk',hl'⟩:=ih (settle u') w' { { { fr with defers:=ds } with mode:=u' } with mode:=settle u' } cs rfl rfl ht hf hk hb hroom hR;exact⟨e',w'',fr',hR',np (.head i1 h1 (qM hsteps (.one i2 h2))) hs',hfn',hk',hl'⟩
   |panicked chain =>
    have i2:(lone frX ({ { fr with defers:=ds } with mode:=u' }::cs) w').fenced P F:=fenced_going (n:=n-1) (hfX▸hFf) hroom' hgo;have h2:=step_going_panicked (c:={ { fr with defers:=ds } with mode:=u' }) (cs:=cs) hgo;obtain⟨e',w'',fr',hR',hs',hfn',hk',hl'⟩:=ih (raised u' chain) w' { { { fr with defers:=ds } with mode:=u' } with mode:=raised u' chain } cs rfl rfl ht hf hk hb hroom hR;exact⟨e',w'',fr',hR',np (.head i1 h1 (qM hsteps (.one i2 h2))) hs',hfn',hk',hl'⟩
def PL {f:FuncId}{fn:Func}{c:Code}{args:F_}{u:FrameMode}{w:World}{R:Ending->World->Prop}
  (hf:P.funcs[f]?=some fn)(hb:fn.body=some c)(hF:F.fn f)
  (h:c.wpIn F n P (bodyPostM F n P fn R) { tmps:=args++Array.replicate (fn.ntmps-args.size) undef,defers:=[] } w)(hro:F.round=none:=by rfl) :
  CallsDIn F n P f args u w λe u' w'=>u'=u∧R e w':=by
 refine⟨hF,λc₀ cs hu hr=>?_⟩
 let b:Frame:={ (default:Frame) with fn:=f,kind:=.deferred,roundOf:=none }
 have henter:Frame.enter P f args .deferred =
   b.atR { tmps:=args++Array.replicate (fn.ntmps-args.size) undef,defers:=[] } [.code c]:=by
  grind [Frame.enter,Frame.atR]
 have hc:({ c₀ with mode:=u }:Frame)=c₀:=by subst hu;rfl
 obtain⟨e,a',w',hq,harr⟩:=h b [] (c₀::cs) hro.symm hF hr;rw[<-henter]at harr
 cases e with
 |normal =>
  obtain⟨e',w'',fr',hR,hs,hfn,hk,hl⟩:=Ge a'.defers .returning w' { b.atR a' [] with mode:=.returning } (c₀::cs) rfl rfl rfl hf rfl hF hr hq;exact⟨e',u,w'',fr',⟨rfl,hR⟩,(by rw[hc];exact np (qM harr (.one (fenced_calm (fr:=b.atR a' []) hF hr rfl) (stepR_end rfl))) hs),hk,hfn,hl⟩
 |ret =>
  obtain⟨todo,hs₀⟩:=harr.1 rfl;obtain⟨e',w'',fr',hR,hs,hfn,hk,hl⟩:=Ge a'.defers .returning w' { b.atR a' todo with mode:=.returning } (c₀::cs) rfl rfl rfl hf rfl hF hr hq;exact⟨e',u,w'',fr',⟨rfl,hR⟩,(by grind [ComesIn.of_steps]),hk,hfn,hl⟩
 |panic chain =>
  obtain⟨todo,hs₀⟩:=harr;obtain⟨e',w'',fr',hR,hs,hfn,hk,hl⟩:=Ge a'.defers (.panicking chain) w' { b.atR a' todo with mode:=.panicking chain } (c₀::cs) rfl rfl rfl hf rfl hF hr hq;exact⟨e',u,w'',fr',⟨rfl,hR⟩,(by grind [ComesIn.of_steps]),hk,hfn,hl⟩
 |exit id=>exact hq.elim
 |goto l=>exact hq.elim
 |outgrown=>exact⟨.outgrown,u,w',b,⟨rfl,hq⟩,(by exact harr.resolve_left (by simp[b])),rfl,rfl,trivial⟩
end
section
variable {P:Program}{g:Gh}{w:World}{t:F_}{O:Nat->Nat}{st st':St}{a:AV}{o:Oper}{r:dC}
def D8 (P:Program)(r:dC):Prop :=
 ∀{f:FuncId}{args:D_}{hs:HS}{v:AV}{hs':HS},r.call f args hs=some (v,hs')->
  ∀{g:Gh}{w:World}{xs:N_}{Oa Oh:Nat->Nat},RVs g w args xs Oa->S P g w ⟨[],hs⟩ #[] Oh->(∀b,Oa b+Oh b<=1)->(∀b,Oa b≠0->b<w.heap.size)->∀u:FrameMode,
   CallsDIn (FR none) 0 P f xs.toArray u w λe u' w'=>u'=u∧gG P g w (λb=>Oa b+Oh b) v hs' e w'
def UZ {ro:I_}{fn:Func}{tmps:F_}{R:Ending->World->Prop}{lo:Nat}{es:List Deferred}:∀{ms:List Deferred}{w:World},jO w O lo ms->S P g w st t O->
  (∀w',S P g w' st t O->bL g w g w' (λb=>lo<=b)->LeavesInM (FR ro) 0 P fn tmps R es .returning w')->LeavesInM (FR ro) 0 P fn tmps R (ms++es) .returning w
 |[],w,_,s,h=>h w s (.refl _ _ _)
 |d::ds,w,⟨⟨r,h1,h2,h3,h4,h5⟩,h6⟩,s,h=>by
  refine⟨s_,.inl ⟨r,setBlk w r (.deferred none),h1,I5 h3,?_⟩⟩;have hx:bL g w g (setBlk w r (.deferred none)) λx=>x=r:=bL.deferBlk h3
  have hm:jO (setBlk w r (.deferred none)) O lo ds:=by
   have:∀{es:List Deferred},(∀d'∈es,∀r',d'.target=.collected r'->r'<r)->jO w O lo es->jO (setBlk w r (.deferred none)) O lo es:=by
    intro es
    induction es with
    |nil=>exact λ_ _=>trivial
    |cons e es ih =>
     rintro hlt ⟨⟨q,k1,k2,k3,k4,k5⟩,k6⟩
     have:=hlt e (.head _) q k1;exact⟨⟨q,k1,k2,by grind [ir],k4,k5⟩,ih (λd' hd'=>hlt d' (.tail _ hd')) k6⟩
   grind
  exact UZ hm (s.otherG hx h4) λw' s' hx'=>h w' s' ((hx.mono (T:=λb=>lo<=b) λb _ e=>by omega).trans hx' λ_ _ h=>h)
end
def avn (P:Program)(vf:aj)(f:FuncId):Prop :=
 ∃fn c,P.funcs[f]?=some fn∧fn.body=some c∧fn.name≠ "runtime.NumGoroutine"∧vf.nparams<=fn.ntmps∧mb P vf.results fn.results.toList=true∧
  (Mt P fn.ntmps vf.body c∨(∃m,vf.body=.clone m∧Pi P m c=true∧8<=fn.ntmps)∨∃i d f a,vf.body=.late i d f a∧TA P fn.ntmps i d f a c=true)
def Ka (P:Program)(T:Nat->Z_):Prop:=∀f vf,T f=some vf->avn P vf f
def HZ (P:Program)(r:dC):Prop :=
 ∀{v:VC}{st:St}{o:cG}{st':St},r.code (.loop v) st=some (o,st')->∀{c:Code}{n:Nat},Mt P n v c->∀{g:Gh}{w:World}{t:F_}{O:Nat->Nat},t.size=n->S P g w st t O->
  ∀(ro:I_) (ds:List Deferred),El w ro->NG ro P c (cA P g w t O ds ro o st') ⟨t,ds⟩ w
def ET (P:Program)(r:dC):Prop :=
 ∀{v cur:VC}{st:St}{o:cG}{st':St},r.code (.inScope v cur) st=some (o,st')->∀{body c:Code}{n:Nat},Mt P n v body->Mt P n cur c->∀{g:Gh}{w:World}{t:F_}{O:Nat->Nat},t.size=n->
  S P g w st t O->∀(ro:I_) (ds:List Deferred),El w ro->FW ro P body c (cA P g w t O ds ro o st') ⟨t,ds⟩ w
def Ek (P:Program)(r:dC):Prop :=
 ∀{v:VC}{st:St}{o:cG}{st':St},wj v=true->r.code v st=some (o,st')->o=.normal∧∀{g:Gh}{w:World}{t:F_}{O:Nat->Nat},S P g w st t O->∃g' O',gI P g w t O st' t w g' O'
section
variable {P:Program}{g:Gh}{w:World}{t:F_}{O:Nat->Nat}{st st':St}{r:dC}
def NG.mono {ro:I_}{c:Code}{Q Q':Exit->Act->World->Prop}{a:Act}(h:NG ro P c Q a w)(hq:∀e a w,Q e a w->Q' e a w):NG ro P c Q' a w :=
 λb k cs hr=>let ⟨e,a',w',q,x⟩:=h b k cs hr;⟨e,a',w',hq _ _ _ q,x⟩
def FW.mono {ro:I_}{body c:Code}{Q Q':Exit->Act->World->Prop}{a:Act}(h:FW ro P body c Q a w)(hq:∀e a w,Q e a w->Q' e a w):FW ro P body c Q' a w :=
 λb k cs hr=>let ⟨e,a',w',q,x⟩:=h b k cs hr;⟨e,a',w',hq _ _ _ q,x⟩
def gI.mono {O2:Nat->Nat}{t':F_}{w':World}{g':Gh}{O':Nat->Nat}(h:gI P g w t O st' t' w' g' O')(hle:∀b,O b<=O2 b):gI P g w t O2 st' t' w' g' O' :=
 ⟨h.st,h.ext.mono λb _ hb=>by grind,λb hb=>aM (h.old b hb) (hle b),h.size⟩
def cA.mono {O2:Nat->Nat}{ds:List Deferred}{ro:I_}{o:cG}{e:Exit}{a':Act}{w':World}(h:cA P g w t O ds ro o st' e a' w')(hle:∀b,O b<=O2 b):cA P g w t O2 ds ro o st' e a' w':=by
 obtain⟨he,g',O',ms,G,hd,hm,hr⟩:=h;exact⟨he,g',O',ms,G.mono hle,hd,hm,hr⟩
def cA.refl {ds:List Deferred}{ro:I_}(o:cG)(s:S P g w st t O):cA P g w t O ds ro o st (FC o) ⟨t,ds⟩ w :=
 ⟨rfl,g,O,[],gI.refl s,rfl,trivial,λ_=>rfl⟩
def cA.ghost {ds:List Deferred}{ro:I_}{o o2:cG}{st2:St}{e:Exit}{a':Act}{w':World}(h:cA P g w t O ds ro o st' e a' w')
  (hg:∀{g:Gh}{w:World}{t:F_}{O:Nat->Nat},S P g w st' t O->∃g' O',gI P g w t O st2 t w g' O')(ho:FC o=FC o2):cA P g w t O ds ro o2 st2 e a' w':=by
 obtain⟨he,g',O',ms,G,hd,hm,hr⟩:=h;obtain⟨g2,O2,G2⟩:=hg G.st;exact⟨he.trans ho,g2,O2,ms,G.trans G2,hd,hm.after G2.ext G2.old,hr⟩
theorem cA.as {ds:List Deferred}{ro:I_}{o o2:cG}{e:Exit}{a':Act}{w':World}(h:cA P g w t O ds ro o st' e a' w'):cA P g w t O ds ro o2 st' (FC o2) a' w':=by
 obtain⟨_,h⟩:=h;exact⟨rfl,h⟩
def DE {ds:List Deferred}{ro:I_}(hro:El w ro){o1:cG}{st1:St}{next:Act->World->Prop}{o:cG}{e:Exit}{a1:Act}{w1:World}(h:cA P g w t O ds ro o1 st1 e a1 w1)
  (hn:o1=.normal->∀(t1:F_) (ds1:List Deferred) (g1:Gh) (O1:Nat->Nat),t1.size=t.size->S P g1 w1 st1 t1 O1->El w1 ro->
   (∀e a2 w2,cA P g1 w1 t1 O1 ds1 ro o st' e a2 w2->cA P g w t O ds ro o st' e a2 w2)->next ⟨t1,ds1⟩ w1)
  (ho:o1≠.normal->o=o1∧st'=st1):Exit.then next (cA P g w t O ds ro o st') e a1 w1:=by
 have h0:=h;obtain⟨he,g1,O1,ms,G,hd,hm,hr⟩:=h;subst he;by_cases hnm:o1=.normal
 .subst hnm;obtain⟨t1,d1⟩:=a1;subst hd;exact hn rfl t1 _ g1 O1 G.size G.st (hro.ext G.ext) λe a2 w2 k=>cA.comp G hm hr k
 .obtain⟨rfl,rfl⟩:=ho hnm
  cases o<;>first|exact absurd rfl hnm|exact h0
def adR (hc:jd P r)(hl:HZ P r)(hs:ET P r)(hgh:Ek P r)(hr:iE P r){v:VC}{o:cG}(h:da v r st=some (o,st')){c:Code}{n:Nat}(hm:Mt P n v c)(hn:t.size=n)
  (s:S P g w st t O)(ro:I_)(ds:List Deferred)(hro:El w ro):c.wpIn (FR ro) 0 P (cA P g w t O ds ro o st') ⟨t,ds⟩ w:=by
 cases hm with
 |@ghostL a b c h1 h2 =>
  simp only[da,NW]at h;split at h
  .rename_i st1 ha;obtain⟨_,hg⟩:=hgh h1 ha;obtain⟨g1,O1,G⟩:=hg s;exact wpIn_mono (hc h h2 o_ G.st ro ds hro) λe a2 w2 k=>cA.comp (ms1:=[]) G trivial (λ_=>rfl) k
  .rename_i x hx
   cases hra:r.code a st with
   |none=>simp_all
   |some p =>
    obtain⟨o1,st1⟩:=p;obtain⟨rfl,_⟩:=hgh h1 hra
    simp_all
 |@ghostR a b c h1 h2 =>
  simp only[da,NW]at h;split at h
  .rename_i st1 ha;obtain⟨rfl,hg⟩:=hgh h1 h;exact wpIn_mono (hc ha h2 hn s ro ds hro) λe a2 w2 k=>k.ghost hg rfl
  .rename_i x hx;exact hc h h2 hn s ro ds hro
 |@seq a b c d h1 h2 =>
  simp only[da,NW]at h;split at h
  .rename_i st1 ha;refine wpIn_seq (wpIn_mono (hc ha h1 hn s ro ds hro) λe a1 w1 k=>DE hro k (λ_ t1 ds1 g1 O1 hs1 s1 hro1 hcomp=>?_) (λhne=>absurd rfl hne));exact wpIn_mono (hc h h2 o_ s1 ro ds1 hro1) hcomp
  .rename_i x hx;refine wpIn_seq (wpIn_mono (hc h h1 hn s ro ds hro) λe a1 w1 k=>DE hro k (λhnm=>?_) (λ_=>⟨rfl,rfl⟩))
   simp_all
 |skip =>
  simp only[da,ae,aQ]at h;obtain⟨rfl,rfl⟩:=h;exact wpIn_skip (cA.refl .normal s)
 |@reg ops id os hops =>
  simp only[da,Uf]at h;split at h
  .rename_i st1 hst;simp only[ae,aQ]at h;obtain⟨rfl,rfl⟩:=h;refine wpIn_region ?_;have:=aa0 (ro:=ro) (Q:=cA P g w t O ds ro .normal st1) hr hc ds (k:=0) rfl hops hn s hst λw' t' g' O' G=>⟨rfl,g',O',[],G,rfl,trivial,λ_=>rfl⟩
   grind [List.range_eq_range']
  simp_all
 |@draw ops id os hops =>
  simp only[da,Uf]at h;split at h
  .rename_i st1 hst;simp only[ae,aQ]at h;obtain⟨rfl,rfl⟩:=h;exact asr hr hc ds hops hn s hst λw' t' g' O' G=>⟨rfl,g',O',[],G,rfl,trivial,λ_=>rfl⟩
  simp_all
 |@drawP perm gco nr ops id os hops =>
  simp only[da,Mu,Nf]at h;split at h
  .rename_i habs;split at h
   .rename_i st1 hst;simp only[ae,aQ]at h;obtain⟨rfl,rfl⟩:=h;exact aqB hr hc ds hops hn s habs hst λw' t' g' O' G=>⟨rfl,g',O',[],G,rfl,trivial,λ_=>rfl⟩
   simp_all
  simp_all
 |@cond rd o' a b c d h1 h2 h3 =>
  simp only[da,MK]at h;have step:∀(tb:Bool) (e:aV) (k:VC) (cd:Code),Vm.rd st.env rd=some (B_ tb,e)->r.code k ⟨e,st.hs⟩=some (o,st')->Mt P n k cd->(if tb then c else d)=cd->
    (Code.cond o' c d).wpIn (FR ro) 0 P (cA P g w t O ds ro o st') ⟨t,ds⟩ w:=by
   intro tb e k cd hrd hk hmk hcd;obtain⟨Ov,O',rv,s',l⟩:=s.rd h1 hrd;have hev:=Bg rv rfl;refine wpIn_cond (t:=tb) (by simp_all [HV]) ?_;rw[hcd];exact wpIn_mono (hc hk hmk hn s' ro ds hro) λe a2 w2 k=>k.mono λb=>by grind
  grind
 |@block bid a c h1 =>
  simp only[da,Ni]at h;split at h
  .rename_i j st1 ha;refine wpIn_block (wpIn_mono (hc ha h1 hn s ro ds hro) λe a1 w1 k=>?_);obtain⟨rfl,_⟩:=id k
   grind [FC,Exit.inBlock,Nat.beq_eq,cA.as]
  .rename_i x hx;refine wpIn_block (wpIn_mono (hc h h1 hn s ro ds hro) λe a1 w1 k=>?_);have hne:∀j,o≠.exit j:=u_;obtain⟨rfl,_⟩:=id k
   cases o<;>first|exact k|simp_all
 |@loop a c h1 =>
  simp only[da,Sq]at h;refine(YW ?_).2;split at h
  .rename_i st1 ha;refine wpIn_mono (hc ha h1 hn s ro ds hro) λe a1 w1 k=>DE hro k (λ_ t1 ds1 g1 O1 hs1 s1 hro1 hcomp=>?_) (λhne=>absurd rfl hne)
   exact(hl h h1 o_ s1 ro ds1 hro1).mono hcomp
  .rename_i x hx;refine wpIn_mono (hc h h1 hn s ro ds hro) λe a1 w1 k=>DE hro k (λhnm=>?_) (λ_=>⟨rfl,rfl⟩)
   simp_all
 |@rangeF rd o' ps qs a b c d h1 h2 h3 h4 h5 =>
  subst hn h2;exact aj5 hr h h1 h3 h4 h5 s ro ds hro
 |exit =>
  simp only[da,ae,aQ]at h;obtain⟨rfl,rfl⟩:=h;exact wpIn_exit (cA.refl (.exit _) s)
 |@scope a c h1 =>
  exact arF (hs h h1 h1 hn s ro ds hro)
 |label =>
  obtain⟨rfl,rfl⟩:=h;exact wpIn_label (cA.refl .normal s)
 |goto =>
  obtain⟨rfl,rfl⟩:=h;exact wpIn_goto (cA.refl (.goto _) s)
 |ret =>
  obtain⟨rfl,rfl⟩:=h;exact wpIn_ret (cA.refl .ret s)
def aqk (hc:jd P r)(hl:HZ P r){v:VC}{o:cG}(h:da (.loop v) r st=some (o,st')){c:Code}{n:Nat}(h1:Mt P n v c)(hn:t.size=n)
  (s:S P g w st t O)(ro:I_)(ds:List Deferred)(hro:El w ro):NG ro P c (cA P g w t O ds ro o st') ⟨t,ds⟩ w:=by
 simp only[da,Sq]at h;refine(YW ?_).1;split at h
 .rename_i st1 ha;refine wpIn_mono (hc ha h1 hn s ro ds hro) λe a1 w1 k=>DE hro k (λ_ t1 ds1 g1 O1 hs1 s1 hro1 hcomp=>?_) (λhne=>absurd rfl hne)
  exact(hl h h1 o_ s1 ro ds1 hro1).mono hcomp
 .refine wpIn_mono (hc h h1 hn s ro ds hro) λe a1 w1 k=>DE hro k (λhnm=>?_) (λ_=>⟨rfl,rfl⟩)
  simp_all
def aoj (hc:jd P r)(hs:ET P r){v cur:VC}{o:cG}(h:da (.inScope v cur) r st=some (o,st')){body c:Code}{n:Nat}(h1:Mt P n v body)(h2:Mt P n cur c)(hn:t.size=n)
  (s:S P g w st t O)(ro:I_)(ds:List Deferred)(hro:El w ro):FW ro P body c (cA P g w t O ds ro o st') ⟨t,ds⟩ w:=by
 simp only[da,Kv]at h;refine akC ?_;split at h
 .rename_i l st1 ha;refine wpIn_mono (hc ha h2 hn s ro ds hro) λe a1 w1 k=>?_
  have k0:=k;obtain⟨rfl,g1,O1,ms,G,hd,hm,hr⟩:=k;have hf:=ap4 h1 l;simp only[FC,Exit.scope];split at h
  .rename_i rest hrest;rw[hrest]at hf;obtain⟨y,hy,hmy⟩:=hf;rw[hy];obtain⟨t1,d1⟩:=a1;subst hd;exact(hs h h1 hmy (by rw[G.size,hn]) G.st ro _ (hro.ext G.ext)).mono λe a2 w2 k=>cA.comp G hm hr k
  .rename_i hnone;rw[hnone]at hf;rw[hf];obtain⟨rfl,rfl⟩:=h;exact k0
 .refine wpIn_mono (hc h h2 hn s ro ds hro) λe a1 w1 k=>?_
  obtain⟨rfl,_⟩:=id k
  cases o<;>first|exact k|simp_all
theorem YA {r:dC}:∀{ops:T_}{st st':St},ops.all M5=true->kB r ops st=some st'->∀{g:Gh}{w:World}{t:F_}{O:Nat->Nat},S P g w st t O->∃g' O',gI P g w t O st' t w g' O'
 |[],st,st',_,h,g,w,t,O,s=>by
  simp only[kB,ae]at h;subst h;exact⟨g,O,gI.refl s⟩
 |i::l,st,st',ha,h,g,w,t,O,s=>by
  simp only[gF,af]at ha;simp only[kB]at h;split at h
  .rename_i st1 hv;obtain⟨g1,O1,G1⟩:=adl s ha.1 hv;obtain⟨g2,O2,G2⟩:=YA ha.2 h G1.st;exact⟨g2,O2,G1.trans G2⟩
  simp_all
def anX (hg:Ek P r){v:VC}{o:cG}(hv:wj v=true)(h:da v r st=some (o,st')):o=.normal∧∀{g:Gh}{w:World}{t:F_}{O:Nat->Nat},S P g w st t O->∃g' O',gI P g w t O st' t w g' O':=by
 cases v<;>simp only[wj,ao]at hv
 .grind [da,Uf,YA]
 .simp only[af]at hv;simp only[da,NW]at h;split at h
  .rename_i st1 hst;obtain⟨_,h1⟩:=hg hv.1 hst;obtain⟨ho,h2⟩:=hg hv.2 h;refine⟨ho,λs=>?_⟩;obtain⟨g1,O1,G1⟩:=h1 s;obtain⟨g2,O2,G2⟩:=h2 G1.st;exact⟨g2,O2,G1.trans G2⟩
  .obtain⟨ho,_⟩:=hg hv.1 h
   simp_all
end
abbrev bh:=@List.append_nil
abbrev bf:=@List.length_nil
abbrev tc:=@List.getElem?_cons_succ
section
variable {P:Program}
def Qp {fn:Func}{vf:aj}(h5:mb P vf.results fn.results.toList=true){v:AV}{hs':HS}{o:cG}{st1:St}(ho:o=.normal∨o=.ret)(hend:Gb vf st1=some (v,hs')){g:Gh}{w:World}{t:F_}{O:Nat->Nat}
  {e:Exit}{a':Act}{w':World}(k:cA P g w t O [] none o st1 e a' w'):bodyPostM (FR none) 0 P fn (gG P g w O v hs') e a' w':=by
 obtain⟨rfl,g',O',ms,G,hd,hm,_⟩:=k;rw[bh]at hd;have key:LeavesInM (FR none) 0 P fn a'.tmps (gG P g w O v hs') a'.defers .returning w':=by
  rw[hd];refine aap hm G.st λw2 s2 hx2=>?_
  obtain⟨x,Ov,Oh2,hrun,rx,sh2,l2⟩:=air h5 hend s2;refine⟨x,hrun,g',Ov,Oh2,rx,sh2,G.ext.trans hx2 (λb hb hq=>absurd hq o_),λb=>by have:=l2 b;have:=s2.le b;omega,λb hb=>?_,λb hb=>s2.hi b d_⟩
  grind [gI.old]
 rcases ho with rfl|rfl
 .exact key
 .exact key
def amO {r:dC}(hr:iE P r)(hrd:D8 P r){fn:Func}{vf:aj}(h5:mb P vf.results fn.results.toList=true){v v1:AV}{hs2 hs':HS}{o:cG}{st1:St}(ho:o=.normal∨o=.ret){f id off:Nat}
  (hcall:r.call f [.ptr id off] st1.hs=some (v1,hs2))(hend:Gb vf ⟨st1.env,hs2⟩=some (v,hs')){g:Gh}{w:World}{t:F_}{O:Nat->Nat}{x:Value}(hx:∃b,g.obj id=some b∧x=.pointer (some ⟨b,g.base id+off,none⟩))
  {e:Exit}{a':Act}{w':World}(k:cA P g w t O [{ target:=.fn (.func f) #[],args:=#[x] }] none o st1 e a' w'):bodyPostM (FR none) 0 P fn (gG P g w O v hs') e a' w':=by
 obtain⟨rfl,g',O',ms,G,hd,hm,_⟩:=k;obtain⟨hf,hk⟩:=hr hcall;have key:LeavesInM (FR none) 0 P fn a'.tmps (gG P g w O v hs') a'.defers .returning w':=by
  rw[hd];refine UZ hm G.st λw2 s2 hx2=>?_
  have hx12:bL g w g' w2 λb=>O b≠0:=G.ext.trans hx2 (λb hb hq=>absurd hq o_)
  obtain⟨b,hb,hxe⟩:=hx;obtain⟨k1,k2,_⟩:=hx12.obj id b hb;have rv:RVs g' w2 [.ptr id off] [x] zero:=by
   refine⟨x,[],zero,zero,rfl,?_,⟨rfl,λ_=>rfl⟩,λ_=>rfl⟩
   grind [RV]
  obtain⟨Oe,Oh,re,sh,hO⟩:=s2.split;refine⟨s_,.inr ⟨by simp[Fence.wide],.func f,#[],f,#[x],rfl,?_,λ_ _=>trivial,(hrd hcall rv sh (λb=>by have:=s2.le b;grind) (λb hb=>by simp at hb) .returning).mono ?_⟩⟩
  .show(callFunc f (#[x]++#[])).run P w2=_
   grind [xd]
  .rintro e u' w3 ⟨rfl,hp⟩
   cases e with
   |panicked c=>exact hp.elim
   |outgrown=>exact hp.elim
   |returned y =>
    obtain⟨g3,Oa,O3,A⟩:=HB (v:=v1) (hs:=st1.hs) (t:=a'.tmps) s2.se re (λb=>by simp_all) s2 hp;obtain⟨x4,Ov,Oh2,hrun,rx,sh2,l2⟩:=air h5 hend A.st;refine⟨x4,hrun,g3,Ov,Oh2,rx,sh2,hx12.trans A.ext (λb hb h=>by grind [gI.old]),λb=>by have:=l2 b;have:=A.le b;omega,λb hb=>?_,λb hb=>A.st.hi b d_⟩;have:=l2 b;have:=G.old b hb;have:=A.old b (ba hb hx12.size);omega
 rcases ho with rfl|rfl
 .exact key
 .exact key
def ane {r:dC}(hc:jd P r)(hr:iE P r)(hrd:D8 P r){n i d f:Nat}{a:VC}{c:Code}(hk:TA P n i d f a c=true){fn:Func}{vf:aj}(h5:mb P vf.results fn.results.toList=true){st st1:St}{o:cG}{v:AV}{hs':HS}
  (h:RC r i d f a st=some (o,st1))(hend:Gb vf st1=some (v,hs')){g:Gh}{w:World}{t:F_}{O:Nat->Nat}(hn:t.size=n)(s:S P g w st t O) :
  c.wpIn (FR none) 0 P (bodyPostM (FR none) 0 P fn (gG P g w O v hs')) ⟨t,[]⟩ w:=by
 obtain⟨env,hs⟩:=st;unfold TA at hk;split at hk
 .rename_i rid os rest;simp only[af]at hk;obtain⟨⟨hk1,hdn⟩,hrest⟩:=hk;split at hk1
  .rename_i m kk hos;simp only[af]at hk1;obtain⟨⟨⟨⟨hm1,hm2⟩,hk1a⟩,hk1b⟩,hk2⟩:=hk1;obtain⟨hmd,hmg⟩:=Az hm1;have hk1a':kk.dst=none:=u_;have hk1b':kk.guard=none:=u_;split at hm2
   .rename_i y hmop;have:=wV hm2;subst this;split at hk2
    .rename_i cl hkop;simp only[af]at hk2;obtain⟨hcal,hargs⟩:=hk2;have hcal':=K4 hcal;split at hargs
     .rename_i y hay;have:=wV hargs;subst this;have harr:cl.args=#[.tmp d]:=aFf hay;have hosA:os=#[m,kk]:=d_;subst hosA;have hd:d<t.size:=u_;unfold RC at h;split at h
      .rename_i id off hget;obtain⟨Ov,O1,rv,s1,l1⟩:=s.rd (r:=.s i) (o:=.tmp i) (by simp[cM]) (v:=.ptr id off) (e':=env) (by grind [rd,share]);obtain⟨hxp,hOv⟩:=rv;have rv':RV g w (.ptr id off) (ev t (.tmp i)) zero:=by grind [RV]
       obtain⟨O2,s2,l2⟩:=s.setTmp hd rv' (λb=>by have:=s.le b;simp_all) (λb hb=>by simp at hb);have hle2:∀b,O2 b<=O b:=λb=>by simp_all
       have hst:∃o1 st0 v1 hs2,(o1=.normal∨o1=.ret)∧r.code a ⟨put env d (.ptr id off),hs⟩=some (o1,st0)∧r.call f [.ptr id off] st0.hs=some (v1,hs2)∧st1=⟨st0.env,hs2⟩:=by
        grind
       obtain⟨o1,st0,v1,hs2,ho1,hra,hcl,rfl⟩:=hst;refine wpIn_seq (wpIn_region ?_);have hx2:(t.setIfInBounds d (ev t (.tmp i))).getD d undef=ev t (.tmp i):=u_;have hgo:rest.wpIn (FR none) 0 P (bodyPostM (FR none) 0 P fn (gG P g w O v hs')) ⟨t.setIfInBounds d (ev t (.tmp i)),[{ target:=.fn (.func f) #[],args:=#[ev t (.tmp i)] }]⟩ w:=by
        refine wpIn_mono (hc hra (jC a rest hrest) (by simp[hn]) s2 none _ (λl hl=>by simp at hl)) λe a' w' k=>?_
        exact amO hr hrd h5 ho1 hcl hend hxp (k.mono hle2)
       simp only[List.range,List.range.loop,List.size_toArray,ar,bf,wpOpsIn,bC];simp only[List.getElem?_toArray,ck,tc,Region.wanted,hmg,hk1b',bn,Oper.wpIn];refine⟨λ_ _=>trivial,?_⟩;rw[Pg t [] u_];simp only[execOp,hmop,dA,Oper.uponIn_value,Act.put,hmd];rw[Oper.semAt_none,HV];have hrun:(execOp (ev (t.setIfInBounds d (ev t (.tmp i)))) kk).run P w=.ok (.defer { target:=.fn (.func f) #[],args:=#[ev t (.tmp i)] }) w:=by
        have h0:ev (t.setIfInBounds d (ev t (.tmp i))) (.tmp d)=ev t (.tmp i):=hx2;have h1:ev (t.setIfInBounds d (ev t (.tmp i))) (.func f)=.func (.func f) #[] #[]:=rfl
        simp_all [execOp,resolve,Deferred.ofValue]
       rw[hrun,Oper.uponIn_defer];simp only[Act.put,hk1a'];exact⟨λ_ _=>trivial,hgo⟩
      simp_all
     simp_all
    simp_all
   simp_all
  simp_all
 simp_all
def acY {T:Nat->Z_}(hT:Ka P T){r:dC}(hc:jd P r)(hl:HZ P r)(hs:ET P r)(hgh:Ek P r)(hr:iE P r)(hrd:D8 P r){f:FuncId}{args:D_}{hs0:HS}{v:AV}{hs':HS}
  (h:vY T r f args hs0=some (v,hs')):∃fn c,P.funcs[f]?=some fn∧fn.body=some c∧fn.name≠ "runtime.NumGoroutine"∧∀{g:Gh}{w:World}{xs:N_}{Oa Oh:Nat->Nat},RVs g w args xs Oa->S P g w ⟨[],hs0⟩ #[] Oh->(∀b,Oa b+Oh b<=1)->(∀b,Oa b≠0->b<w.heap.size)->
   c.wpIn (FR none) 0 P (bodyPostM (FR none) 0 P fn (gG P g w (λb=>Oa b+Oh b) v hs')) ⟨xs.toArray++Array.replicate (fn.ntmps-xs.toArray.size) undef,[]⟩ w:=by
 unfold vY at h;split at h
 .simp at h
 .rename_i vf hvf;obtain⟨fn,c,h1,h2,h3,h4,h5,h6⟩:=hT f vf hvf;refine⟨fn,c,h1,h2,h3,λ{g w xs Oa Oh} rv sh hle hhi=>?_⟩;split at h
  .simp at h
  .have hxl:=rv.length;have hfin:∀{o:cG}{st1:St},(o=.normal∨o=.ret)->da vf.body r ⟨kp 0 args,hs0⟩=some (o,st1)->Gb vf st1=some (v,hs')->
     c.wpIn (FR none) 0 P (bodyPostM (FR none) 0 P fn (gG P g w (λb=>Oa b+Oh b) v hs')) ⟨xs.toArray++Array.replicate (fn.ntmps-xs.toArray.size) undef,[]⟩ w:=by
    intro o st1 ho hcode hend;have s:=axl rv sh hle hhi (fn.ntmps-xs.toArray.size);have hsz:(xs.toArray++Array.replicate (fn.ntmps-xs.toArray.size) undef).size=fn.ntmps:=u_;rcases h6 with hm|⟨m,hb,hcl,h8⟩|⟨i,d,f2,a,hb,hlt⟩
    .exact wpIn_mono (adR hc hl hs hgh hr hcode hm hsz s none [] (λl hl=>by simp at hl)) λe a' w' k=>Qp h5 ho hend k
    .rw[hb]at hcode;exact wpIn_mono (aoz hcl hcode o_ s) λe a' w' k=>Qp h5 ho hend k
    .rw[hb]at hcode;exact ane hc hr hrd hlt h5 hcode hend hsz s
   grind
def aq6 {T:Nat->Z_}(hT:Ka P T){r:dC}(hc:jd P r)(hl:HZ P r)(hs:ET P r)(hgh:Ek P r)(hr:iE P r)(hrd:D8 P r){f:FuncId}{args:D_}{hs0:HS}{v:AV}{hs':HS}
  (h:vY T r f args hs0=some (v,hs')):aom P f∧∀{g:Gh}{w:World}{xs:N_}{Oa Oh:Nat->Nat},RVs g w args xs Oa->S P g w ⟨[],hs0⟩ #[] Oh->(∀b,Oa b+Oh b<=1)->(∀b,Oa b≠0->b<w.heap.size)->
   CallsIn (FR none) 0 P f xs.toArray w (gG P g w (λb=>Oa b+Oh b) v hs'):=by
 obtain⟨fn,c,h1,h2,h3,hk⟩:=acY hT hc hl hs hgh hr hrd h;exact⟨⟨fn,h1,by simp[h2],h3⟩,λrv sh hle hhi=>callsIn_of_wp_marks (F:=FR none) h1 h2 trivial (hk rv sh hle hhi)⟩
def anF {T:Nat->Z_}(hT:Ka P T){r:dC}(hc:jd P r)(hl:HZ P r)(hs:ET P r)(hgh:Ek P r)(hr:iE P r)(hrd:D8 P r){f:FuncId}{args:D_}{hs0:HS}{v:AV}{hs':HS}
  (h:vY T r f args hs0=some (v,hs')):∀{g:Gh}{w:World}{xs:N_}{Oa Oh:Nat->Nat},RVs g w args xs Oa->S P g w ⟨[],hs0⟩ #[] Oh->(∀b,Oa b+Oh b<=1)->(∀b,Oa b≠0->b<w.heap.size)->∀u:FrameMode,
   CallsDIn (FR none) 0 P f xs.toArray u w λe u' w'=>u'=u∧gG P g w (λb=>Oa b+Oh b) v hs' e w':=by
 obtain⟨fn,c,h1,h2,h3,hk⟩:=acY hT hc hl hs hgh hr hrd h;exact λrv sh hle hhi u=>PL (F:=FR none) h1 h2 trivial (hk rv sh hle hhi)
def ayT {T:Nat->Z_}(hT:Ka P T):∀n,jd P (run T n)∧HZ P (run T n)∧ET P (run T n)∧Ek P (run T n)∧iE P (run T n)∧D8 P (run T n)
 |0=>⟨λh=>by simp[run]at h,λh=>by simp[run]at h,λh=>by simp[run]at h,λ_ h=>by simp[run]at h,λh=>by simp[run]at h,λh=>by simp[run]at h⟩
 |n+1=>by
  obtain⟨hc,hl,hs,hgh,hr,hrd⟩:=ayT hT n;refine⟨λ{v st o st'} h {c m} hm {g w t O} hn s ro ds hro=>?_,λ{v st o st'} h {c m} hm {g w t O} hn s ro ds hro=>?_,λ{v cur st o st'} h {body c m} h1 h2 {g w t O} hn s ro ds hro=>?_,λ{v st o st'} hv h=>?_,λ{f args hs0 v hs'} h=>?_,λ{f args hs0 v hs'} h=>?_⟩
  .exact adR hc hl hs hgh hr h hm hn s ro ds hro
  .exact aqk hc hl h hm hn s ro ds hro
  .exact aoj hc hs h h1 h2 hn s ro ds hro
  .exact anX hgh hv h
  .exact aq6 hT hc hl hs hgh hr hrd h
  .exact anF hT hc hl hs hgh hr hrd h
def U9 {T:Nat->Z_}(hT:Ka P T){n:Nat}{f:FuncId}{args:D_}{v:AV}{hs':HS}(h:(run T n).call f args ⟨[],0⟩=some (v,hs')){g:Gh}{w:World}{xs:N_}
  (hobj:∀id,g.obj id=none)(hpm:∀b o,g.pm b o->b<w.heap.size)(rv:RVs g w args xs zero) :
  Calls P f xs.toArray w (gG P g w zero v hs'):=by
 obtain⟨_,_,_,_,hr,_⟩:=ayT hT n;obtain⟨_,hk⟩:=hr h;have sh:S P g w ⟨[],⟨[],0⟩⟩ #[] zero:=⟨List.Pairwise.nil,List.Pairwise.nil,⟨zero,zero,λ_=>rfl,λ_=>rfl,λ_=>rfl⟩,λ_=>by simp,λb hb=>by simp at hb,λid _=>hobj id,hpm⟩
 grind [CallsIn.calls,abO]
end
#print axioms U9
abbrev dt:=@List.flatten_cons
abbrev ta:=@Option.bind_eq_some_iff
abbrev uo:=@Option.map_eq_some_iff
abbrev rX:=@List.length_range
inductive Ty where
 |int (k:IntKind)
 |bool
 |str
 |lst (es:List Ty)
mutual
def BJ:Ty->D->Prop
 |.int k,.int j n=>j=k∧(Lit.int k n).wf=true
 |.bool,.bool _=>True
 |.str,.str _=>True
 |.lst es,.lst xs=>∀x∈xs,OkDs es x
 |_,_=>False
def OkDs:List Ty->Y_->Prop
 |[],[]=>True
 |t::ts,d::ds=>BJ t d∧OkDs ts ds
 |_,_=>False
end
def aig (P:Program)(f:TypeId->Option (List Ty)):List Field->Nat->Option (List Ty)
 |[],_=>some []
 |fd::r,off=>match Nat.beq fd.offset off,f fd.type with
  |true,some ts=>match Nat.beq (P.cellsOf fd.type) ts.length,aig P f r (off+ts.length) with
   |true,some us=>some (ts++us)
   |_,_=>none
  |_,_=>none
def Ed (P:Program):Nat->TypeId->Option (List Ty)
 |0,_=>none
 |n+1,t=>match P.underlying t with
  |some .bool=>some [.bool]
  |some (.int k)=>some [.int k]
  |some .string=>some [.str]
  |some (.slice e)=>match Ed P n e with
   |some (x::xs)=>match Nat.beq (P.cellsOf e) (x::xs).length with
    |true=>some [.lst (x::xs)]
    |false=>none
   |_=>none
  |some (.struct fs)=>match aig P (Ed P n) fs.toList 0 with
   |some ts=>match Nat.beq (P.cellsOf t) ts.length with
    |true=>some ts
    |false=>none
   |none=>none
  |_=>none
mutual
def gk {H:Type}:DataW H->Y_
 |.lit (.int k n)=>[.int k n]
 |.lit (.bool b)=>[.bool b]
 |.lit (.string s)=>[.str s]
 |.nil=>[.lst []]
 |.slice es _=>[.lst (cellsEs es)]
 |.agg ps=>cellsPs ps
 |_=>[]
def cellsEs {H:Type}:List (DataW H)->E_
 |[]=>[]
 |d::r=>gk d::cellsEs r
def cellsPs {H:Type}:List (DataW H)->Y_
 |[]=>[]
 |d::r=>gk d++cellsPs r
end
theorem OkDs.len:∀{ts:List Ty}{ds:Y_},OkDs ts ds->ds.length=ts.length
 |[],[],_=>rfl
 |t::ts,d::ds,h=>by simp[OkDs.len h.2]
 |[],_::_,h=>by simp[OkDs]at h
 |_::_,[],h=>by simp[OkDs]at h
theorem OkDs.append:∀{ts us:List Ty}{ds es:Y_},OkDs ts ds->OkDs us es->OkDs (ts++us) (ds++es)
 |[],us,[],es,_,h=>h
 |t::ts,us,d::ds,es,h,h2=>by
  exact⟨h.1,h.2.append h2⟩
 |[],_,_::_,_,h,_=>by simp[OkDs]at h
 |_::_,_,[],_,h,_=>by simp[OkDs]at h
def W3 {α β:Type}{f:α->Option β}:∀{l:List α}{ys:List β},l.mapM f=some ys->ys.length=l.length∧∀(i:Nat) (x:α),l[i]?=some x->∃y,ys[i]?=some y∧f x=some y
 |[],ys,h=>by simp_all
 |a::l,ys,h=>by
  cases ha:f a with
  |none=>simp_all
  |some b =>
   cases hl:l.mapM f with
   |none=>simp_all
   |some bs =>
    obtain⟨h1,h2⟩:=W3 hl
    grind
def ajZ {H:Type}(ds:List (DataW H)):cellsEs ds=ds.map gk:=by
 induction ds<;>grind [cellsEs]
def ad5 {xs:E_}{m:Nat}(h:∀e∈xs,e.length=m){j:Nat}{c:D}(hj:xs.flatten[j]?=some c):∃i k e,j=i*m+k∧k<m∧xs[i]?=some e∧e[k]?=some c:=by
 induction xs generalizing j with
 |nil=>simp at hj
 |cons x xs ih =>
  have hx:=h x (.head _);rw[dt]at hj;rcases bH j x.length with hlt|hge
  .rw[co hlt]at hj;exact⟨0,j,x,s_,o_,rfl,hj⟩
  .rw[ca hge]at hj;obtain⟨i,k,e,h1,h2,h3,h4⟩:=ih (λe he=>h e (.tail _ he)) hj;exact⟨i+1,k,e,d_,h2,u_,h4⟩
section
variable {H:Type}{enc:TypeId×Value->H}{P:Program}{W:World}{sp:Nat->Bool}{held:Bool}
abbrev Fl (W:World):Nat->Nat->Prop:=λb _=>b<W.heap.size
def alM {a:Addr}{v:Value}(h:W.cell? a=some v):a.block<W.heap.size∧a.spot=none:=by
 unfold World.cell? at h;split at h<;>simp_all [jw]
def VT {f:TypeId->Option (List Ty)}{g:TypeId->N_->Option (DataW H×List MemPlace)}
  (ih:∀t ts cs x,f t=some ts->g t cs=some x->OkDs ts (gk x.1)∧cs.length=(gk x.1).length∧∀(j:Nat) (c:D),(gk x.1)[j]?=some c->∃u,cs[j]?=some u∧RD W (Fl W) c u) :
  ∀{fs:List Field}{off:Nat}{ts:List Ty}{cs:N_}{xs:List (DataW H×List MemPlace)},aig P f fs off=some ts->off+ts.length<=cs.length->
   fs.mapM (λfd=>g fd.type ((cs.drop fd.offset).take (P.cellsOf fd.type)))=some xs->
   OkDs ts (cellsPs (xs.map (·.1)))∧∀(j:Nat) (c:D),(cellsPs (xs.map (·.1)))[j]?=some c->∃u,cs[off+j]?=some u∧RD W (Fl W) c u
 |[],off,ts,cs,xs,h,hb,hm=>by
  grind [aig,cellsPs,OkDs]
 |fd::fs,off,ts,cs,xs,h,hb,hm=>by
  simp only[aig]at h;split at h
  .rename_i ts1 ho h1;rw[aB]at ho;split at h
   .rename_i us hc h2;rw[aB]at hc;simp only[ae]at h;subst h;simp only[al]at hb;simp only[List.mapM_cons,Option.bind_eq_bind,Option.pure_def]at hm
    cases hg:g fd.type ((cs.drop fd.offset).take (P.cellsOf fd.type)) with
    |none=>simp_all
    |some x =>
     cases hr:fs.mapM (λfd=>g fd.type ((cs.drop fd.offset).take (P.cellsOf fd.type))) with
     |none=>simp_all
     |some ys =>
      obtain⟨q1,q2⟩:=VT ih h2 o_ hr
      grind [cellsPs,OkDs.append]
   simp_all
  simp_all
def Xu:∀(fuel n:Nat) (t:TypeId) (ts:List Ty) (cs:N_) (x:DataW H×List MemPlace),Ed P n t=some ts->DataW.trod enc P W 0 sp held fuel t cs=some x->
  OkDs ts (gk x.1)∧cs.length=(gk x.1).length∧∀(j:Nat) (c:D),(gk x.1)[j]?=some c->∃u,cs[j]?=some u∧RD W (Fl W) c u
 |0,_,_,_,_,_,_,h=>by simp[DataW.trod]at h
 |_+1,0,_,_,_,_,h,_=>by simp[Ed]at h
 |fuel+1,n+1,t,ts,cs,x,hty,h=>by
  have one:∀{d:D}{v:Value},OkDs ts [d]->RD W (Fl W) d v->gk x.1=[d]->cs=[v]->OkDs ts (gk x.1)∧cs.length=(gk x.1).length∧∀(j:Nat) (c:D),(gk x.1)[j]?=some c->∃u,cs[j]?=some u∧RD W (Fl W) c u:=by
   grind
  simp only[Ed]at hty;unfold DataW.trod at h
  cases hu:P.underlying t with
  |none=>simp_all
  |some d =>
   rw[hu]at hty h
   cases d<;>simp only[reduceCtorEq]at hty
   case bool =>
    simp only[ae]at hty;subst hty
    match cs,h with
    |[.bool b],h =>
     simp only[ae]at h;subst h;exact one (d:=.bool b) (by simp[OkDs,BJ]) (.bool _) rfl rfl
   case int k =>
    simp only[ae]at hty;subst hty
    match cs,h with
    |[.int k' m],h =>
     simp only at h;split at h
     .rename_i hk;obtain⟨rfl,hwf⟩:=hk;simp only[ae]at h;subst h;exact one (d:=.int k' m) (by grind [OkDs,BJ]) (.int _ _) rfl rfl
     simp_all
   case string =>
    simp only[ae]at hty;subst hty
    match cs,h with
    |[.string s],h =>
     simp only at h;split at h
     .simp only[ae]at h;subst h;refine one (d:=.str s.data.toList) (by simp[OkDs,BJ]) ?_ rfl rfl;have:=RD.str (w:=W) (pm:=Fl W) s.data.toList;omega
     simp_all
   case slice e =>
    split at hty
    .rename_i y ys hte;split at hty
     .rename_i hce;rw[aB]at hce;simp only[ae]at hty;subst hty
      match cs,h with
      |[.slice none 0 0],h =>
       simp only[ae]at h;subst h;exact one (d:=.lst []) (by simp[OkDs,BJ]) (.nil _ _) rfl rfl
      |[.slice (some a) len cap],h =>
       simp only at h;split at h
       .rename_i hb;obtain⟨_,hlc,_⟩:=hb;simp only[ta,uo]at h;obtain⟨elems,hel,rest,_,rfl⟩:=h;obtain⟨hlen,hget⟩:=W3 hel;simp only[rX]at hlen;have helem:∀i,i<len->∃z,elems[i]?=some z∧∃cs',W.cells? 0 (a.add (i*P.cellsOf e)) (P.cellsOf e)=some cs'∧OkDs (y::ys) (gk z.1)∧cs'.length=(gk z.1).length∧
          ∀(j:Nat) (c:D),(gk z.1)[j]?=some c->∃u,cs'[j]?=some u∧RD W (Fl W) c u:=by
         intro i hi;obtain⟨z,hz,hf⟩:=hget i i (by simp[hi]);simp only[ta]at hf;obtain⟨cs',hcs,htr⟩:=hf;exact⟨z,hz,cs',hcs,Xu fuel n e (y::ys) cs' z hte htr⟩
        have hmem:∀d∈elems.map (·.1),OkDs (y::ys) (gk d):=by
         grind [List.mem_iff_getElem]
        have hes:cellsEs (elems.map (·.1))=elems.map λz=>gk z.1:=by simp_all [ajZ]
        have hlm:∀e'∈cellsEs (elems.map (·.1)),e'.length=(y::ys).length:=by
         grind [OkDs.len]
        refine one (d:=.lst (cellsEs (elems.map (·.1)))) ?_ ?_ rfl rfl
        .grind [OkDs,BJ]
        .by_cases h0:len=0
         .subst h0;have:elems=[]:=ay hlen;subst this;exact .nil _ _
         .obtain⟨ab,aoff,asp⟩:=a;have hm0:0<(y::ys).length:=s_;have hcell:∀i k,i<len->k<(y::ys).length->∃z c u,elems[i]?=some z∧(gk z.1)[k]?=some c∧W.cell? ((Addr.add ⟨ab,aoff,asp⟩ (i*P.cellsOf e)).add k)=some u∧RD W (Fl W) c u:=by
           intro i k hi hk;obtain⟨z,hz,cs',hcs,hok,hl2,hrd⟩:=helem i hi;have hkl:k<(gk z.1).length:=d_;obtain⟨u,hu,hr⟩:=hrd k _ (bB hkl);unfold World.cells? at hcs;rw[ac (eG _)]at hcs;obtain⟨hcl,hcg⟩:=W3 hcs;obtain⟨v,hv,hw⟩:=hcg k k (by simp_all)
           grind
          obtain⟨_,_,u0,_,_,hu0,_⟩:=hcell 0 0 o_ hm0;have hasp:asp=none:=by
           have:=(alM hu0).2
           grind [Addr.add]
          subst hasp;have hll:(cellsEs (elems.map (·.1))).length=len:=u_;have:=ja.rd (w:=W) (pm:=Fl W) (xs:=cellsEs (elems.map (·.1))) (b:=ab) (off:=aoff) (cap:=cap) hm0 o_ hlm (λj c hj=>?_) (λj _=>(alM hu0).1 |> λh=>by grind [Addr.add])
          .simp_all
          .obtain⟨i,k,e',rfl,hk,hi,hck⟩:=ad5 hlm hj;have hil:i<len:=d_;obtain⟨z,c',u,hz,hc',hcell',hr⟩:=hcell i k hil hk
           grind [lE]
       simp_all
     simp_all
    simp_all
   case struct fs =>
    split at hty
    .rename_i us hfs;split at hty
     .rename_i hcl;rw[aB]at hcl;simp only[ae]at hty;subst hty;have h':(if cs.length=P.cellsOf t then (fs.toList.mapM λf=>DataW.trod enc P W 0 sp held fuel f.type ((cs.drop f.offset).take (P.cellsOf f.type))).map λxs=>((.agg (xs.map (·.1)):DataW H),xs.flatMap (·.2)) else none)=some x:=by
       omega
      split at h'
      .simp only[uo]at h';obtain⟨xs,hxs,rfl⟩:=h';obtain⟨q1,q2⟩:=VT (P:=P) (f:=Ed P n) (g:=DataW.trod enc P W 0 sp held fuel) (λt ts cs x h1 h2=>Xu fuel n t ts cs x h1 h2) (cs:=cs) hfs o_ hxs
       grind [OkDs.len,gk]
      .simp at h'
     .simp at hty
    simp_all
end
open Go.ChangeShapes Go.WideShapes Go.ChangeAt Go.RowKit
def MA (P:Program)(n:Nat):List TypeId->Option (List (Bool×List Ty))
 |[]=>some []
 |t::ts=>match Ed P n t,MA P n ts with
  |some tys,some r=>some ((Cz P t,tys)::r)
  |_,_=>none
def afs (agg:Bool)(cs:Y_):AV :=
 match agg with
 |true=>.agg (cs.map .d)
 |false=>match cs with
  |[c]=>.d c
  |_=>.junk
def IG {H:Type}:List (Bool×List Ty)->List (DataW H)->D_
 |(b,_)::ts,d::ds=>afs b (gk d)::IG ts ds
 |_,_=>[]
def CP {H:Type}:List (Bool×List Ty)->List (DataW H)->Prop
 |[],[]=>True
 |(_,tys)::ts,d::ds=>OkDs tys (gk d)∧CP ts ds
 |_,_=>False
def Gh.all (W:World):Gh where
 obj _:=none
 base _:=0
 esz _:=0
 bsz _:=0
 pm:=Fl W
section
variable {H:Type}{enc:TypeId×Value->H}{P:Program}{W:World}{sp:Nat->Bool}
def ag3 {n:Nat}{base:Nat}:∀{ts:List TypeId}{vs:N_}{ds:List (DataW H)}{ps:List MemPlace}{tys:List (Bool×List Ty)},DataW.TrodAll enc P W 0 sp true ts vs ds ps->MA P n ts=some tys->
  (∀(j:Nat) t v,ts[j]?=some t->vs[j]?=some v->Value.okWide P W .any base t v)->RVs (Gh.all W) W (IG tys ds) vs zero∧CP tys ds
 |[],[],[],_,tys,_,h,_=>by
  grind [MA,IG,RVs,CP]
 |t::ts,v::vs,d::ds,ps,tys,hA,h,hok=>by
  obtain⟨p,q,⟨fuel,htr⟩,hrest,rfl⟩:=hA;simp only[MA]at h;split at h
  .rename_i ty r h1 h2;simp only[ae]at h;subst h;obtain⟨k1,k2,k3⟩:=Xu fuel n t ty v.cells.toList (d,p) h1 htr;obtain⟨q1,q2⟩:=ag3 hrest h2 λj t v h1 h2=>hok (j+1) t v u_ (by simp_all)
   refine⟨?_,k1,q2⟩;have hv:=hok 0 t v rfl rfl;have hrv:RV (Gh.all W) W (afs (Cz P t) (gk d)) v zero:=by
    unfold Value.okWide at hv
    cases ha:Cz P t with
    |true =>
     have hagg:∃cs,v=.agg cs:=by
      grind [Cz]
     obtain⟨cs,rfl⟩:=hagg;refine⟨cs,rfl,RVs.ds (g:=Gh.all W) rfl (by grind [Value.cells]) λj c x hc hx=>?_⟩;obtain⟨u,hu,hr⟩:=k3 j c hc;have:u=x:=by
      grind [Value.cells]
     rw[<-this];exact hr
    |false =>
     have hone:v.cells=#[v]:=by
      have:Cell.okWide P W .any base t v:=by
       grind [Cz]
      cases v<;>first|rfl|simp_all [Cell.okWide,Cell.ok]
     rw[hone]at k2 k3
     match hcd:gk d,k2 with
     |[c],_ =>
      obtain⟨u,hu,hr⟩:=k3 0 c d_;simp at hu;subst hu;simp only[afs,RV];exact⟨hr,λ_=>trivial⟩
   grind [IG,RVs]
  simp_all
 |[],_::_,_,_,_,hA,_,_=>hA.elim
 |[],[],_::_,_,_,hA,_,_=>hA.elim
 |_::_,[],_,_,_,hA,_,_=>hA.elim
 |_::_,_::_,[],_,_,hA,_,_=>hA.elim
theorem ac8 {W':World}(hl:laidOutB P=true)(hblk:∀b,b<W.heap.size->W'.heap[b]?=W.heap[b]?){sp':Nat->Bool}:∀{ts:List TypeId}{vs:N_}{ds:List (DataW H)}{ps:List MemPlace},
  (∀t∈ts,P.readableRec t=true∧t<P.types.size)->DataW.TrodAll enc P W 0 (λ_=>true) true ts vs ds ps->(∀p∈ps,sp' p.block=true)->DataW.TrodAll enc P W' 0 sp' true ts vs ds ps
 |[],[],[],_,_,h,_=>h
 |t::ts,v::vs,d::ds,ps,hr,h,hs=>by
  have hlt:=h.lt;obtain⟨p,q,⟨fuel,htr⟩,hrest,rfl⟩:=h;obtain⟨h1,h2⟩:=hr t (.head _);refine⟨p,q,⟨fuel,DataW.trod_stays (kids_book hl h1) (book_sized h1) (λh=>by cases h) ⟨h2,book_self t⟩ htr (λx hx=>?_) (λx hx=>hs x (dn _ hx))⟩,
   ac8 hl hblk (λt ht=>hr t (.tail _ ht)) hrest (λx hx=>hs x (fA _ hx)),rfl⟩
  have hxl:=hlt x (dn _ hx)
  cases x with
  |cell b o=>exact sk (hblk b hxl) o
  |map b=>exact hblk b hxl
 |[],_::_,_,_,_,h,_=>h.elim
 |[],[],_::_,_,_,h,_=>h.elim
 |_::_,[],_,_,_,h,_=>h.elim
 |_::_,_::_,[],_,_,h,_=>h.elim
def afO {T:Nat->Z_}(hT:Ka P T){fn:Func}{f:FuncId}{s:ChangeSpec}(hl:laidOutB P=true)(hrec:∀t∈fn.params.toList,P.readableRec t=true∧t<P.types.size)
  {n:Nat}{tys:List (Bool×List Ty)}(hty:MA P n fn.params.toList=some tys){tb:TypeId}(hres:fn.resultTypes=#[tb])(htb:P.underlying tb=some .bool)(hvars:s.vars=[]){apart:Bool}
  {base:Nat}{args:F_}{ds gs:List (DataW H)}{before:List MemPlace}(hval:∀(j:Nat) t v,fn.params[j]?=some t->args[j]?=some v->Value.okWide P W .any base t v)
  (hW:DataW.Whole enc P fn.params.toList s.vars apart W args.toList ds gs before)(hfn:CP tys ds->s.fn H ds={ results:=[.lit (.bool true)],args:=ds })
  (hrun:CP tys ds->gs=[]->∃m hs',(run T m).call f (IG tys ds) ⟨[],0⟩=some (B_ true,hs')) :
  Calls P f args W λe W'=>∃v,e=.returned v∧s.post enc P fn apart true false false W args v W':=by
 have hW':=hW;obtain⟨p,q,hA,hV,hpq,hfz,hnd⟩:=hW;rw[hvars]at hV;obtain⟨rfl,rfl⟩:=trodVars_none hV;obtain⟨rv,hok⟩:=ag3 (n:=n) (base:=base) hA hty λj t v h1 h2=>hval j t v u_ (by simp_all)
 obtain⟨m,hs',hcall⟩:=hrun hok rfl;have hc:=U9 hT hcall (g:=Gh.all W) (λ_=>rfl) (λb o h=>h) rv;refine hc.mono λe W2 hp=>?_
 cases e with
 |panicked _=>exact hp.elim
 |outgrown=>exact hp.elim
 |returned x =>
  obtain⟨g',Or,Oh,r1,_,hx,_,_,_⟩:=hp;have hxv:=Bg r1 rfl;subst hxv;have hblk:∀b,b<W.heap.size->W2.heap[b]?=W.heap[b]?:=λb hb=>(hx.blk b hb s_).1
  have hsfn:s.fn H (ds++[])={ results:=[.lit (.bool true)],args:=ds }:=u_;refine⟨_,rfl,post_of_same (pa:=p) (pv:=[]) hW' (λb sp hd=>?_) (λsp hsp=>?_) (λsp _=>?_) (by rw[hpq]) ⟨hx.same.1,hx.same.2.1,λi hi=>?_⟩ hx.same.2.2 ?_⟩
  .rw[hres,hsfn];exact trodAll_cons_mk (shut_bool htb _) trodAll_mk0
  .grind [ac8]
  .rw[hsfn,hvars];rfl
  .grind
  .exact ok_one hres rfl (okWide_bool_mk htb _)
end
def Yo (P:Program)(vf:aj)(f:FuncId):Bool:=avt P vf f ||(match vf.body with
 |.clone m=>XG P m vf f
 |.late i d k a=>adT P i d k a vf f
 |_=>false)
def T.every (p:Nat->aj->Bool):T->Bool
 |.leaf=>true
 |.node k v a b=>p k v && a.every p && b.every p
def T.look_every {p:Nat->aj->Bool}:∀{t:T}{f:Nat}{vf:aj},t.every p=true->t.look f=some vf->p f vf=true
 |.leaf,_,_,_,h=>by simp[T.look]at h
 |.node k v a b,f,vf,he,h=>by
  simp only[T.every,af]at he;simp only[T.look]at h;split at h
  .simp_all
  .split at h
   .exact T.look_every he.1.2 h
   .exact T.look_every he.2 h
def af6 {P:Program}{vf:aj}{f:FuncId}(h:Yo P vf f=true):avn P vf f:=by
 simp only[Yo,cZ]at h;rcases h with h|h
 .unfold avt at h;split at h
  .rename_i fn h1;split at h
   .rename_i c h2;simp only[af,bj,bne_iff_ne,ne_eq]at h;obtain⟨⟨⟨k1,k2⟩,k3⟩,k4⟩:=h;exact⟨fn,c,h1,h2,k4,k2,k3,.inl (jC _ _ k1)⟩
   simp_all
  simp_all
 .split at h
  .rename_i m hb;unfold XG at h;split at h
   .rename_i fn h1;split at h
    .rename_i c h2;simp only[af,bj,aB,bne_iff_ne,ne_eq]at h;obtain⟨⟨⟨⟨⟨⟨k1,k2⟩,k3⟩,k4⟩,k5⟩,k6⟩,k7⟩:=h;exact⟨fn,c,h1,h2,k7,o_,k3,.inr (.inl ⟨m,hb,k6,k5⟩)⟩
    simp_all
   simp_all
  .rename_i i d k a hb;unfold adT at h;split at h
   .rename_i fn h1;split at h
    .rename_i c h2;simp only[af,bj,bne_iff_ne,ne_eq]at h;obtain⟨⟨⟨k1,k2⟩,k3⟩,k4⟩:=h;exact⟨fn,c,h1,h2,k4,k2,k3,.inr (.inr ⟨i,d,k,a,hb,k1⟩)⟩
    simp_all
   simp_all
  simp_all
def aCB {P:Program}{t:T}(h:t.every (λf v=>Yo P v f)=true):Ka P t.look:=λf vf hv=>af6 (T.look_every (p:=λf v=>Yo P v f) h hv)
def Ev (P:Nat->Z_)(c:VC)(st:St)(o:cG)(st':St):Prop:=∃N,∀n,(run P (N+n)).code c st=some (o,st')
variable {P:Nat->Z_}
def aiA {n:Int}(h:-9223372036854775808<=n)(h2:n<=9223372036854775807):wr .i64 n=n:=by
 simp only[wr,ot,decide_eq_true h,decide_eq_true h2,Bool.and_self]
instance:Nonempty dC:=⟨⟨λ_ _=>none,λ_ _ _=>none⟩⟩
def WP (P:Nat->Z_)(c:VC)(st:St)(Q:cG->St->Prop):Prop:=∃o st',Ev P c st o st'∧Q o st'
theorem acN {r:dC}{vs:T_}:∀{l:C_}{st:St},(l.all λi=>decide (i<vs.length))=true->wT r vs l st=kB r (l.filterMap λi=>vs[i]?) st
 |[],_,_=>rfl
 |i::l,st,h=>by
  simp only[gF,af,decide_eq_true_eq]at h;have hi:vs[i]?=some (vs[i]'h.1):=bB h.1;simp only[wT,hi,List.filterMap_cons,kB]
  cases cV r (vs[i]'h.1) st with
  |none=>rfl
  |some st1=>exact acN h.2
def ail {r:dC}{vs:T_}:∀{l F:C_}{st:St},fH r [] vs l F st=wT r vs l st
 |[],_,_=>rfl
 |i::l,F,st=>by
  simp only[fH,wT,b9,et]
  cases vs[i]? with
  |none=>rfl
  |some v =>
   simp only
   cases cV r v st with
   |none=>rfl
   |some st1=>exact ail
def WP.mono {c:VC}{st:St}{Q R:cG->St->Prop}(h:WP P c st Q)(hq:∀o s,Q o s->R o s):WP P c st R:=by
 obtain⟨o,s,h,k⟩:=h;exact⟨o,s,h,hq o s k⟩
end Go.Vm
end
