import Derived.Lib.BytesEntry
import Derived.RangeFuncLeaves
import Derived.Orders
import GoSem.ClaimChange
import Derived.WalkKit
import Derived.ProofKit
import Derived.OpenShut
import Derived.JoinedCond
import Derived.ChangeStays
import Derived.ChangeBook
import Derived.Test.YtpidphkolofkfaaGreatP0
set_option linter.unusedVariables false
set_option linter.unusedSimpArgs false
set_option linter.defProp false
noncomputable section
namespace Go.Vm
set_option maxHeartbeats 4000000
set_option maxRecDepth 100000
section
variable {P:Program}{g:Gh}{w:World}{t:F_}{O:Nat->Nat}{st st':St}{a:AV}{o:Oper}
def arx:(Extern.findNext { (default:Func) with name := "internal/bytealg.IndexByte",origin := "" }).isNone=true:=by kernel_rfl
def arf {fn:Func}(h1:fn.name = "internal/bytealg.IndexByte") (h2:fn.origin = ""):Extern.findNext fn=none:=by
 have h:=arx;unfold Extern.findNext at h⊢;have e:(List.lookup "internal/bytealg.IndexByte" Extern.allNextRows)=none:=by
  cases e:(List.lookup "internal/bytealg.IndexByte" Extern.allNextRows)<;>simp_all
 have e2:(List.lookup "" Extern.allNextRows)=none:=by
  cases e2:(List.lookup "" Extern.allNextRows)<;>simp_all
 grind
def aq5 {fn:Func}(h1:fn.name = "internal/bytealg.IndexByte"):Extern.find fn=some Extern.BytealgIndexByte.indexByte:=by
 unfold Extern.find;have e1:(List.lookup "internal/bytealg.IndexByte" Extern.allGenericRows).isNone=true:=by kernel_rfl
 have e2:(List.lookup "internal/bytealg.IndexByte" Extern.allTypedRows).isNone=true:=by kernel_rfl
 have e3:List.lookup "internal/bytealg.IndexByte" Extern.allRows=some Extern.BytealgIndexByte.indexByte:=by kernel_rfl
 grind [Option.isNone_iff_eq_none]
def ae6:∀ (l:BC_) (c:UInt8) (i:Nat),JE l c.toNat i=if Lib.indexByte l c == -1 then -1 else Lib.indexByte l c+i
 | [],c,i=>by simp[JE,Lib.indexByte]
 | b::l,c,i=>by
  have hp:Lib.indexByte l c=-1∨0<=Lib.indexByte l c:=by
   induction l<;>grind [Lib.indexByte]
  simp only[JE,Lib.indexByte];by_cases h:b=c
  .simp_all
  .have hn:Nat.beq b.toNat c.toNat=false:=by
    grind [Nat.beq_eq,UInt8.toNat_inj]
   rw[ae6 l c (i+1)]
   grind
theorem ad9 (ad:Addr) (cap:Nat) (ns:C_) (cv:Int) (hc:∀ j u,(ns.map fun(n:Nat)=>Value.int .u8 (n:Int))[j]?=some u->w.cell? (ad.add j)=some u) :
  (Extern.BytealgIndexByte.indexByte #[.slice (some ad) ns.length cap,.int .u8 cv]).run P w=.ok (.int .i64 (Lib.indexByte (Lib.bytesOf (ns.map fun(n:Nat)=>(n:Int))) cv.toNat.toUInt8)) w:=by
 generalize hxs:ns.map (fun(n:Nat)=>(n:Int))=xs;have hl:=Lib.run_loadBytesX (P:=P) w xs ad .empty (fun j x hj=>hc j _ (by
  grind))
 have hs:=Lib.run_indexByteString (P:=P) ⟨(Lib.bytesOf xs).toArray⟩ cv w;have he:(⟨ByteArray.empty.data++(Lib.bytesOf xs).toArray⟩:ByteArray)=⟨(Lib.bytesOf xs).toArray⟩:=by
  simp_all
 change Sem.run P (do
  let b<-Extern.Bytes.bytesOf (.slice (some ad) ns.length cap)
  let c<-Extern.Bytes.asByte (.int .u8 cv)
  match (List.range b.size).find? fun i=>b[i]! == c with
  | some i=>pure (goInt i)
  | none=>pure (goInt (-1))) w=_
 change Sem.run P (do
  let b<-Extern.Bytes.bytesOf (.string ⟨(Lib.bytesOf xs).toArray⟩)
  let c<-Extern.Bytes.asByte (.int .u8 cv)
  match (List.range b.size).find? fun i=>b[i]! == c with
  | some i=>pure (goInt i)
  | none=>pure (goInt (-1))) w=_ at hs
 grind [Extern.Bytes.bytesOf,Sem.run_bind,Result.andThen]
def auo {x c:Rd}(s:S P g w st t O) (h:ahL x c st=some (a,st')) (hc:bF P (.idxb x c) o.op=true) :
  ft P g w t O st' a ((execOp (ev t) o).run P w):=by
 obtain⟨dst,op,ty,pos,aft,gd⟩:=o;simp only[bF]at hc;split at hc
 .rename_i k;obtain⟨callee,as,ats⟩:=k;simp only[af]at hc;obtain⟨h1,h2⟩:=hc;split at h1
  .rename_i f hf;have hcal:callee=.value (.func f):=by
    unfold As at hf
    grind
   subst hcal;unfold apN at h1;split at h1
   .rename_i fn hfn;simp only[af,beq_iff_eq]at h1;obtain⟨⟨hn1,hn2⟩,hn3⟩:=h1;obtain⟨x',c',has,hx,hcc⟩:∃ x' c',as.toList=[x',c']∧cA x x'=true∧cA c c'=true:=by
     revert h2
     cases as.toList with
     | nil=>grind [d8]
     | cons x' l=>cases l<;>grind [d8]
    have has':as=#[x',c']:=Array.ext' has;obtain⟨va,vb,e,Oa,Ob,O',ra,rb,s',l,hk⟩:=QB s hx hcc h;split at hk
    .rename_i r hr;obtain⟨rfl,rfl⟩:=hk;unfold ars at hr;split at hr
     .rename_i n;split at hr
      .rename_i xs hxs;split at hr
       .rename_i q hq;simp only[ae]at hr;subst hr;unfold indexByte at hq;split at hq
        .rename_i b hb;simp only[ae]at hq;subst hq;obtain⟨ns,rfl,rfl⟩:=I9 hb;have hl1:∀ e∈ns.map (fun(n:Nat)=>[D.int .u8 (Int.ofNat n)]),e.length=1:=by
          simp_all
         obtain⟨ad,cap,news,hxv,hels⟩:=AO (st:=⟨e,st.hs⟩) s' hxs hl1 ra;have hcv:=yY rb rfl;have hargs:#[ev t x',ev t c']=#[Value.slice ad (ns.map (fun(n:Nat)=>[D.int .u8 (Int.ofNat n)])).length cap,.int .u8 n]:=u_;have hres:JE (ns.map Nat.toUInt8) (n.toNat % 256) 0=Lib.indexByte (Lib.bytesOf (ns.map fun(n:Nat)=>(n:Int))) n.toNat.toUInt8:=by
          have h1:n.toNat % 256=(n.toNat.toUInt8).toNat:=s_;rw[h1,ae6];have h2:Lib.bytesOf (ns.map fun(n:Nat)=>(n:Int))=ns.map Nat.toUInt8:=by
           simp[Lib.bytesOf]
          grind
         have hrun:(Extern.BytealgIndexByte.indexByte #[ev t x',ev t c']).run P w=.ok (.int .i64 (JE (ns.map Nat.toUInt8) (n.toNat % 256) 0)) w:=by
          rw[hargs,hres]
          cases ad with
          | none =>
           have h0:=hels.nn rfl;have:ns=[]:=ax u_;subst this;exact Lib.run_indexByteNil w _ _ _
          | some ad =>
           have hnews:news=ns.map fun(n:Nat)=>Value.int .u8 (n:Int):=by
            apply dF;intro j;rcases bB j ns.length with hj | hj
            .have hd:(ns.map (fun(n:Nat)=>[D.int .u8 (Int.ofNat n)])).flatten[j]?=some (D.int .u8 (Int.ofNat ns[j])):=by grind [W9]
             obtain⟨u,hu,hr⟩:=hels.rd j _ hd
             cases hr
             simp_all
            grind [CO.len]
           grind [ad9,CO.cell]
         refine .flat s (x:=.int .i64 (JE (ns.map Nat.toUInt8) (n.toNat % 256) 0)) ?_ (by simp only[RV];exact⟨.int _ _,fun _=>trivial⟩) s' fun b=>by grind
         simp only[execOp,resolve,aR,ev,Deferred.ofValue,dx,bp,invoke]
         simp_all [run_callFunc_extern,arf,aq5]
        simp_all
       simp_all
      simp_all
     simp_all
    simp_all
   simp_all
  simp_all
 simp_all
end
abbrev FR (ro:I_):Fence:={ Fence.wide with round:=ro }
theorem aaJ (ro:I_) (n:Nat):(FR ro).room n:=fun _ h=>by grind [Fence.wide]
def Nn {ro:I_}{n:Nat}{P:Program}{f:FuncId}{args:F_}{w:World}{R:Ending->World->Prop}(h:CallsIn (FR none) n P f args w R):CallsIn (FR ro) n P f args w R:=h
section
variable {P:Program}{g:Gh}{w:World}{t:F_}{O:Nat->Nat}{st st':St}{a:AV}{o:Oper}
structure CH (P:Program) (g:Gh) (w:World) (t:F_) (O:Nat->Nat) (st':St) (a:AV) (x:Value) (w':World) (g':Gh) (Oa O':Nat->Nat):Prop where
 val:RV g' w' a x Oa
 st:S P g' w' st' t O'
 ext:bI g w g' w' fun b=>O b≠0
 le:∀ b,Oa b+O' b<=1
 old:∀ b,b<w.heap.size->Oa b+O' b<=O b
 hi:∀ b,Oa b≠0->b<w'.heap.size
def OpW (ro:I_) (P:Program) (g:Gh) (w:World) (t:F_) (O:Nat->Nat) (st':St) (a:AV) (o:Oper):Prop :=
 ∀ (ds:List Deferred) (next:Act->World->Prop) (Q:Exit->Act->World->Prop),(∀ x w' g' Oa O',CH P g w t O st' a x w' g' Oa O'->next (Act.put ⟨t,ds⟩ o.dst x) w')->
  o.uponIn (FR ro) 0 P ⟨t,ds⟩ next Q ((execOp (ev t) o).run P w)
def ft.opW {ro:I_}(h:ft P g w t O st' a ((execOp (ev t) o).run P w)):OpW ro P g w t O st' a o:=by
 obtain⟨x,w',g',Oa,O',k⟩:=h;intro ds next Q hn;have hx:=hn x w' g' Oa O' ⟨k.val,k.st,k.ext,k.le,k.old,k.hi⟩;rcases k.run with hr | ⟨hr,rfl⟩
 .rw[hr];exact hx
 .rw[hr];exact hx
abbrev wG (t:F_) (dst:I_) (x:Value):F_:=(Act.put ⟨t,[]⟩ dst x).tmps
theorem Zj (t:F_) (ds:List Deferred) (dst:I_) (x:Value):Act.put ⟨t,ds⟩ dst x=⟨wG t dst x,ds⟩:=by cases dst<;>rfl
theorem pX (t:F_) (dst:I_) (x:Value):(wG t dst x).size=t.size:=by cases dst<;>simp[wG,Act.put]
structure gG (P:Program) (g:Gh) (w:World) (t:F_) (O:Nat->Nat) (st':St) (t':F_) (w':World) (g':Gh) (O':Nat->Nat):Prop where
 st:S P g' w' st' t' O'
 ext:bI g w g' w' fun b=>O b≠0
 old:∀ b,b<w.heap.size->O' b<=O b
 size:t'.size=t.size
def gG.refl (s:S P g w st t O):gG P g w t O st t w g O:=⟨s,.refl _ _ _,fun _ _=>ai _,rfl⟩
def gG.trans {t1 t2:F_}{w1 w2:World}{g1 g2:Gh}{O1 O2:Nat->Nat}{st1 st2:St}(h1:gG P g w t O st1 t1 w1 g1 O1) (h2:gG P g1 w1 t1 O1 st2 t2 w2 g2 O2) :
  gG P g w t O st2 t2 w2 g2 O2 where
 st:=h2.st
 ext:=h1.ext.trans h2.ext fun b hb h=>by grind [old]
 old b hb:=aM (h2.old b (aZ hb h1.ext.size)) (h1.old b hb)
 size:=h2.size.trans h1.size
def afM {st1:St}{x:Value}{w':World}{g1:Gh}{Oa O1:Nat->Nat}(k:CH P g w t O st1 a x w' g1 Oa O1) {dst:I_}(hd:∀ d,dst=some d->d<t.size) (th:R_) :
  ∃ g' O',gG P g w t O (cJ dst (firm (dQ th a st1.hs).1) ⟨st1.env,(dQ th a st1.hs).2⟩) (wG t dst x) w' g' O':=by
 obtain⟨g2,Ov2,O2,r2,s2,x2,l2⟩:=Lw (P:=P) (t:=t) th (env:=st1.env) (hs:=st1.hs) k.st k.val k.le k.hi;have hle2:∀ b,Ov2 b+O2 b<=1:=fun b=>aM (l2 b) (k.le b)
 obtain⟨g3,r3,s3,x3⟩:=ag3 s2 r2 hle2;have hext:bI g w g3 w' fun b=>O b≠0:=(k.ext.trans x2 (fun _ _ h=>h.elim)).trans x3 fun b hb h=>by grind [CH.old]
 cases dst with
 | none=>exact⟨g3,O2,s3,hext,fun b hb=>by grind [CH.old],rfl⟩
 | some d =>
  obtain⟨O4,s4,l4⟩:=s3.setTmp (hd d rfl) r3 hle2 fun b hb=>by
   by_cases h:Oa b=0
   .exact k.st.hi b (by grind)
   .exact k.hi b h
  exact⟨g3,O4,s4,hext,fun b hb=>by grind [CH.old],pX _ _ _⟩
def S.split (s:S P g w st t O):∃ Oe Oh,kx g w st.env t Oe∧S P g w ⟨[],st.hs⟩ #[] Oh∧∀ b,O b=Oe b+Oh b:=by
 obtain⟨Oe,Oh,re,rh,ho⟩:=s.parts;exact⟨Oe,Oh,re,⟨List.Pairwise.nil,s.sh,⟨zero,Oh,fun _=>rfl,rh,fun b=>by simp⟩,fun b=>by have:=s.le b;grind,fun b hb=>s.hi b u_,s.fresh,s.pmlt⟩,ho⟩
theorem S.join {e:aV}{hs:HS}{Oe Oh:Nat->Nat}(he:cO e) (re:kx g w e t Oe) (s:S P g w ⟨[],hs⟩ #[] Oh) (hle:∀ b,Oe b+Oh b<=1) (hhi:∀ b,Oe b≠0->b<w.heap.size) :
  S P g w ⟨e,hs⟩ t fun b=>Oe b+Oh b:=by
 obtain⟨O0,Oh',r0,rh,ho⟩:=s.parts;have h0:∀ b,Oh b=Oh' b:=fun b=>by have:=ho b;have:O0 b=0:=r0 b;omega
 exact⟨he,s.sh,⟨Oe,Oh',re,rh,fun b=>by simp_all⟩,hle,fun b hb=>by
  grind [hi],s.fresh,s.pmlt⟩
theorem Hs (t:F_) (ds:List Deferred):(⟨t,ds⟩:Act).eval=ev t:=by
 funext x;cases x<;>rfl
theorem M8 {ro:I_}(t:F_) (ds:List Deferred) (h:∀ c,o.op≠.defer c):o.semAt ro (⟨t,ds⟩:Act).eval=execOp (ev t) o:=by
 grind [Oper.semAt_eq,Hs]
end
section
variable {P:Program}{g:Gh}{w:World}{t:F_}{O:Nat->Nat}{st st':St}{o:Oper}{ops:Array Oper}
theorem anP (s:S P g w st t O) {gd:Option (Nat×Bool)}(hg:Ew ops gd o.guard=true) :
  (gd=none->Region.wanted o (yielded ops t)=true)∧
  ∀ sl want,gd=some (sl,want)->(∀ b,get st.env sl=some (B_ b)->Region.wanted o (yielded ops t)=(b == want))∧(get st.env sl=some (.tup [])->Region.wanted o (yielded ops t)=false):=by
 cases gd with
 | none =>
  grind [Region.wanted,Ew]
 | some p =>
  obtain⟨sl,want⟩:=p
  cases hog:o.guard with
  | none=>grind [Ew]
  | some q =>
   rw[hog]at hg;simp only[Ew,af,beq_iff_eq]at hg;obtain⟨rfl,h2⟩:=hg;refine⟨fun h=>by simp at h,fun sl' want' h=>?_⟩;obtain⟨rfl,rfl⟩:=h;obtain⟨Oe,Oh,re,rh,ho⟩:=s.parts;split at h2
   .split at h2
    .rename_i d hd;rw[aC]at h2;subst h2;refine⟨fun b hb=>?_,fun hb=>?_⟩
     .obtain⟨O1,⟨hlt,q⟩,_⟩:=RL.get re hb;have hv:t.getD d undef=.bool b:=AH q rfl
      simp_all [Region.wanted,yielded]
     .obtain⟨O1,⟨hlt,q⟩,_⟩:=RL.get re hb;obtain⟨xs,hv,hxs,_⟩:=q
      simp_all [Region.wanted,yielded]
    simp_all
   simp_all
end
def gF (P:Program) (g:Gh) (w:World) (O:Nat->Nat) (v:AV) (hs':HS):Ending->World->Prop
 | .returned x,w'=>∃ g' Or Oh,RV g' w' v x Or∧S P g' w' ⟨[],hs'⟩ #[] Oh∧bI g w g' w' (fun b=>O b≠0)∧(∀ b,Or b+Oh b<=1)∧(∀ b,b<w.heap.size->Or b+Oh b<=O b)∧
   ∀ b,Or b≠0->b<w'.heap.size
 | _,_=>False
def alo (P:Program) (f:FuncId):Prop:=∃ fn,P.funcs[f]?=some fn∧fn.body.isSome=true∧fn.name≠ "runtime.NumGoroutine"
def iL (P:Program) (r:dz):Prop :=
 ∀ {f:FuncId}{args:D_}{hs:HS}{v:AV}{hs':HS},r.call f args hs=some (v,hs')->alo P f∧
  ∀ {g:Gh}{w:World}{xs:O_}{Oa Oh:Nat->Nat},RVs g w args xs Oa->S P g w ⟨[],hs⟩ #[] Oh->(∀ b,Oa b+Oh b<=1)->(∀ b,Oa b≠0->b<w.heap.size)->
   CallsIn (FR none) 0 P f xs.toArray w (gF P g w (fun b=>Oa b+Oh b) v hs')
section
variable {P:Program}{g:Gh}{w:World}{t:F_}{O:Nat->Nat}{st st':St}{a:AV}{o:Oper}{r:dz}
def Ho {e:aV}{hs hs':HS}{Ov Oe Oh:Nat->Nat}{x:Value}{w':World}{v:AV}(he:cO e) (re:kx g w e t Oe) (hle:∀ b,Ov b+(Oe b+Oh b)<=O b) (s0:S P g w st t O)
  (h:gF P g w (fun b=>Ov b+Oh b) v hs' (.returned x) w'):∃ g' Oa O',CH P g w t O ⟨e,hs'⟩ v x w' g' Oa O':=by
 obtain⟨g',Or,Oh',h1,h2,h3,h4,h5,h6⟩:=h;have hle1:∀ b,Ov b+(Oe b+Oh b)<=1:=fun b=>aM (hle b) (s0.le b)
 have re':=kx.ext h3 re fun b hb h=>by grind
 have hoe:∀ b,¬ b<w.heap.size->Oe b=0:=fun b hb=>by
  grind [S.hi]
 have hsum:∀ b,Or b+(Oe b+Oh' b)<=1:=fun b=>by
  grind
 have s':=S.join he re' h2 (fun b=>by grind) fun b hb=>aZ (s0.hi b d_) h3.size
 refine⟨g',Or,_,h1,s',h3.mono fun b _ hb=>by grind,hsum,fun b hb=>?_,h6⟩
 grind
def UF {ro:I_}{f:FuncId}{args:F_}{e:aV}{hs hs':HS}{Ov Oe Oh:Nat->Nat}{v:AV}(he:cO e) (re:kx g w e t Oe) (hle:∀ b,Ov b+(Oe b+Oh b)<=O b) (s0:S P g w st t O)
  (hrun:(execOp (ev t) o).run P w=.ok (.enter f args) w) (hk:CallsIn (FR none) 0 P f args w (gF P g w (fun b=>Ov b+Oh b) v hs')):OpW ro P g w t O ⟨e,hs'⟩ v o:=by
 intro ds next Q hn
 rw[hrun,Oper.uponIn_enter];refine⟨fun h=>by grind [Fence.wide],Nn (hk.mono fun en w' hp=>?_)⟩
 cases en with
 | returned x =>
  obtain⟨g',Oa,O',k⟩:=Ho (hs:=hs) he re hle s0 hp
  grind
 | panicked c=>exact hp.elim
 | outgrown=>exact hp.elim
theorem w9 {f:FuncId}(h:alo P f) (args:F_):(callFunc f args).run P w=.ok (.enter f args) w:=by
 obtain⟨fn,h1,h2,h3⟩:=h;have h2':¬ fn.body=none:=d_
 simp_all [callFunc]
def Lh {c:Callee}{f:FuncId}(h:(match As c with | some g=>Nat.beq f g | none=>false)=true):c=.value (.func f):=by
 split at h
 .rename_i g hg;rw[aC]at h;unfold As at hg
  grind
 simp_all
def aqU {ro:I_}{f:FuncId}{args:V_}(hr:iL P r) (s:S P g w st t O) (h:DK r f args st=some (a,st')) (hc:bF P (.calli f args) o.op=true) :
  OpW ro P g w t O st' a o:=by
 obtain⟨dst,op,ty,pos,aft,gd⟩:=o;simp only[bF]at hc;split at hc
 .rename_i c;simp only[af]at hc;obtain⟨h1,h2⟩:=hc;obtain⟨callee,as,ats⟩:=c;have:=Lh h1;subst this;unfold DK at h;split at h
  .rename_i vs e hrd;split at h
   .rename_i v hs' hcall;obtain⟨rfl,rfl⟩:=h;obtain⟨Ov,O',rvs,s',l⟩:=s.rdAll h2 hrd;obtain⟨Oe,Oh,re,sh,ho⟩:=s'.split;obtain⟨hfn,hk⟩:=hr hcall;have hle:∀ b,Ov b+(Oe b+Oh b)<=O b:=fun b=>by simp_all
    have hk:=hk rvs sh (fun b=>by have:=hle b;have:=s.le b;omega) (fun b hb=>s.hi b d_);refine UF (hs:=st.hs) s'.se re hle s ?_ hk;simp only[execOp,resolve,aR,ev,Deferred.ofValue,dx,bp,invoke];rw[w9 hfn]
    congr 2
    grind
   simp_all
  simp_all
 simp_all
end
section
variable {P:Program}{g:Gh}{w:World}{t:F_}{O:Nat->Nat}{st st':St}{a:AV}{o:Oper}{r:dz}
theorem RD.mono {pm pm':Nat->Nat->Prop}(h:∀ b o,pm b o->pm' b o) {c:D}{x:Value}(r:RD w pm c x):RD w pm' c x:=by
 induction r with
 | int k n=>exact .int k n
 | bool b=>exact .bool b
 | str s=>exact .str s
 | nil a cap=>exact .nil a cap
 | lst xs b off m cap u hm hcap hl hc hr ih=>exact .lst xs b off m cap u hm hcap hl (fun j c hj=>⟨(hc j c hj).1,h _ _ (hc j c hj).2⟩) (fun j c hj=>ih j c hj)
def iZ.mono {pm pm':Nat->Nat->Prop}(h:∀ b o,pm b o->pm' b o) {cs:W_}{b off:Nat}(r:iZ w pm cs b off):iZ w pm' cs b off:=fun j c hj=>by
 obtain⟨u,hu,hr⟩:=r j c hj
 grind [RD.mono]
theorem RD.flat {pm pm':Nat->Nat->Prop}{c:D}{x:Value}(hf:lR c=true) (r:RD w pm c x):RD w pm' c x:=by
 cases r with
 | int k n=>exact .int k n
 | bool b=>exact .bool b
 | str s=>exact .str s
 | nil a cap=>exact .nil a cap
 | lst xs=>simp[lR]at hf
def Gh.view (g:Gh) (w:World) (K:Nat->Prop):Gh where
 obj _:=none
 base _:=0
 esz _:=0
 bsz _:=0
 pm b o:=g.pm b o∨(K b∧b<w.heap.size)
def ay0 (s:S P g w st t O) (K:Nat->Prop):S P (g.view w K) w ⟨[],⟨[],0⟩⟩ #[] zero :=
 ⟨List.Pairwise.nil,List.Pairwise.nil,⟨zero,zero,fun _=>rfl,fun _=>rfl,fun _=>rfl⟩,fun _=>by simp,fun b hb=>by simp at hb,fun _ _=>rfl,fun b o h=>h.elim (s.pmlt b o) fun h=>h.2⟩
def Ug (s:S P g w st t O) {K:Nat->Prop}{v d:AV}{x:Value}{Ov:Nat->Nat}(h:viewOne st.hs.heap v=some d) (hK:vw v=true->∀ b,O b≠0->K b) (rv:RV g w v x Ov) :
  RV (g.view w K) w d x zero:=by
 have hm:∀ b o,g.pm b o->(g.view w K).pm b o:=fun b o h=>.inl h
 cases v<;>simp only[viewOne,reduceCtorEq]at h
 .grind [RV,RD.mono]
 .grind [RV]
 .rename_i p m xs
  cases p
  .have:=RV.share _ _ _ rv
   grind [share,RV,RD.mono]
  simp_all
 .rename_i id off len;split at h
  .rename_i xs hx;simp only[ae]at h;subst h;simp only[elems]at hx;split at hx
   .rename_i zs hzs;split at hx
    .rename_i hb;rw[bj]at hb;simp only[ae]at hx;subst hx;have hsl:(Vm.sub zs off len).length=len:=j6 hb;simp only[RV]at rv⊢;refine⟨?_,fun _=>trivial⟩;rcases rv.1 with ⟨rfl,ad,rfl⟩ | ⟨b,cap,hob,rfl,hlc,hcap⟩
     .exact .nil _ _
     .obtain⟨Oe,Oh,re,rh,ho⟩:=s.parts;have key:∀ (m:Nat),0<m->g.esz id=m->(∀ e∈zs,e.length=m)->iZ w g.pm zs.flatten b (g.base id)->O b≠0->RD w (g.view w K).pm (.lst (Vm.sub zs off len)) (.slice (some ⟨b,g.base id+off*g.esz id,none⟩) len cap):=by
       intro m hm0 hes hl hc hO;have hsubl:=HB hl off len;have:=iZ.rd (w:=w) (pm:=(g.view w K).pm) (xs:=Vm.sub zs off len) (b:=b) (off:=g.base id+off*g.esz id) (cap:=cap) hm0 o_ hsubl (by
        rw[nK hl,hes];exact(hc.sub _ _).mono hm) (fun j _=>.inr ⟨hK rfl b hO,s.hi b hO⟩)
       simp_all
      unfold objElems at hzs;split at hzs
      .rename_i m' ys hg;obtain⟨O1,q,hO1⟩:=RL.get rh hg;rcases q with ⟨rfl,_⟩ | ⟨b',c,el,g1,g2,g3,g4,g5,g6,g7,g8,g9,g10⟩
       .have h0:len=0:=u_;subst h0;exact .nil _ _
       grind [Ar]
      .rename_i cs hg;split at hzs
       .rename_i ds hds;simp only[ae]at hzs;subst hzs;obtain⟨O1,q,hO1⟩:=RL.get rh hg;obtain⟨b',c,el,O2,g1,g2,g3,g4,g5,g6,g7,g8⟩:=q;obtain⟨h1,h2,h3⟩:=N7 hds g6;refine key 1 o_ g3 (ags ds) ?_ (by grind [Ar]);rw[Q0,g2];intro j d hj
        grind [gK]
       simp_all
      simp_all
    simp_all
   simp_all
  simp_all
def Ua (s:S P g w st t O) {K:Nat->Prop}:∀ {vs ds:D_}{xs:O_}{Ov:Nat->Nat},viewAll st.hs.heap vs=some ds->(vs.any vw=true->∀ b,O b≠0->K b)->RVs g w vs xs Ov->
  RVs (g.view w K) w ds xs zero
 | [],ds,xs,Ov,h,hK,rv=>by
  grind [viewAll,RVs]
 | v::vs,ds,xs,Ov,h,hK,rv=>by
  simp only[viewAll]at h;split at h
  .simp at h
  .rename_i d hd;split at h
   .simp at h
   .rename_i ds' hds;simp only[ae]at h;subst h;obtain⟨x,ys,O1,O2,rfl,r1,r2,hs⟩:=rv;exact⟨x,ys,zero,zero,rfl,Ug s hd (fun h=>hK (by simp[h])) r1,Ua s hds (fun h=>hK u_) r2,fun _=>rfl⟩
def air (s:S P g w st t O) {K:Nat->Prop}{v d:AV}{x:Value}{Ov:Nat->Nat}(h:viewArg st.hs.heap v=some d) (hK:tB v=true->∀ b,O b≠0->K b) (rv:RV g w v x Ov) :
  RV (g.view w K) w d x zero:=by
 cases v<;>simp only[viewArg]at h<;>try exact Ug s h (fun hh=>hK hh) rv
 split at h
 .rename_i xs hx;simp only[ae]at h;subst h;obtain⟨ys,e,r⟩:=rv;exact⟨ys,e,Ua s hx (fun hh=>hK hh) r⟩
 simp_all
def RZ (s:S P g w st t O) {K:Nat->Prop}:∀ {vs ds:D_}{xs:O_}{Ov:Nat->Nat},viewArgs st.hs.heap vs=some ds->(vs.any tB=true->∀ b,O b≠0->K b)->RVs g w vs xs Ov->
  RVs (g.view w K) w ds xs zero
 | [],ds,xs,Ov,h,hK,rv=>by
  grind [viewArgs,RVs]
 | v::vs,ds,xs,Ov,h,hK,rv=>by
  simp only[viewArgs]at h;split at h
  .simp at h
  .rename_i d hd;split at h
   .simp at h
   .rename_i ds' hds;simp only[ae]at h;subst h;obtain⟨x,ys,O1,O2,rfl,r1,r2,hs⟩:=rv;exact⟨x,ys,zero,zero,rfl,air s hd (fun h=>hK (by simp[h])) r1,RZ s hds (fun h=>hK u_) r2,fun _=>rfl⟩
end
section
variable {P:Program}{g:Gh}{w:World}{t:F_}{O:Nat->Nat}{st st':St}{a:AV}{o:Oper}{r:dz}
def qb:AV->Bool
 | .d _ | .nl | .own _ _ _=>true
 | _=>false
def rL:AV->Bool
 | .agg cs=>cs.all qb
 | v=>qb v
def II:AV->Bool
 | .tup vs=>vs.all rL
 | v=>rL v
def XK (P:Program) (g:Gh) (w:World) (O:Nat->Nat) (n:Nat) (x:Value) (Ov:Nat->Nat) (r:AV×ak):Prop :=
 ∃ Ov' O',RV g w r.1 x Ov'∧S P g w ⟨[],⟨r.2,n⟩⟩ #[] O'∧∀ b,Ov' b+O' b<=Ov b+O b
def ayn (P:Program) (g:Gh) (w:World) (O:Nat->Nat) (n:Nat) (xs:O_) (Ov:Nat->Nat) (r:D_×ak):Prop :=
 ∃ Ov' O',RVs g w r.1 xs Ov'∧S P g w ⟨[],⟨r.2,n⟩⟩ #[] O'∧∀ b,Ov' b+O' b<=Ov b+O b
def XM {h:ak}{n:Nat}(s:S P g w ⟨[],⟨h,n⟩⟩ #[] O) {v:AV}{x:Value}{Ov:Nat->Nat}{r:AV×ak}(hr:kt h v=some r) (rv:RV g w v x Ov) :
  XK P g w O n x Ov r∧qb r.1=true:=by
 have triv:∀ v,RV g w v x Ov->XK P g w O n x Ov (v,h):=fun v rv=>⟨Ov,O,rv,s,fun _=>ai _⟩
 cases v<;>simp only[kt,reduceCtorEq]at hr
 .simp only[ae]at hr;subst hr;exact⟨triv _ rv,rfl⟩
 .simp only[ae]at hr;subst hr;exact⟨triv _ rv,rfl⟩
 .simp only[ae]at hr;subst hr;exact⟨triv _ rv,rfl⟩
 .rename_i id off len;split at hr
  .rename_i m xs hg;split at hr
   .rename_i hb;rw[bj]at hb;simp only[ae]at hr;subst hr;refine⟨?_,rfl⟩;obtain⟨Oe,Oh,re,rh,ho⟩:=s.parts;obtain⟨O1,O2,q,r2,hs⟩:=RL.take rh hg;have hle2:∀ b,Oe b+O2 b<=O b:=fun b=>by grind
    have s2:S P g w ⟨[],⟨del h id,n⟩⟩ #[] (fun b=>Oe b+O2 b) :=
     ⟨s.se,s.sh.del id,⟨Oe,O2,re,r2,fun _=>rfl⟩,fun b=>aM (hle2 b) (s.le b),fun b hb=>s.hi b d_,s.fresh,s.pmlt⟩
    have hsub:(Vm.sub xs off len).length=len:=j6 hb;have emp:len=0->(∃ a,x=.slice a 0 0)->RV g w (.own true m (Vm.sub xs off len)) x zero:=by
     grind [RV,Dc]
    rcases rv with ⟨h0,h⟩ | ⟨b,cap,hob,rfl,hlc,hcap⟩
    .exact⟨zero,_,emp h0 h,s2,fun b=>by simp_all⟩
    .rcases q with ⟨rfl,g1,g2,g3,_⟩ | ⟨b',c,el,g1,g2,g3,g4,g5,g6,g7,g8,g9,g10⟩
     .have hl0:len=0:=u_;have hc0:cap=0:=by
       grind [Nat.mul_eq_zero]
      subst hl0 hc0;exact⟨zero,_,emp rfl ⟨_,rfl⟩,s2,fun b=>by simp_all⟩
     .rw[hob]at g1;simp only[ae]at g1;subst g1;refine⟨one b,_,?_,s2,fun y=>?_⟩
      .refine .inr ⟨b,g.base id+off*m,cap,c,el,u_,o_,g3,HB g7 off len,g4,?_,?_,fun o ho=>absurd ho (g9 o),fun h=>by simp at h,rfl⟩
       .grind [Nat.add_mul]
       simp_all [nK,iZ.sub]
      grind
   simp_all
  simp_all
def Lf {n:Nat}{f:ak->AV->AF_}{fs:ak->D_->Option (D_×ak)}{p:AV->Bool}
  (hf:∀ {h:ak}{O:Nat->Nat},S P g w ⟨[],⟨h,n⟩⟩ #[] O->∀ {v:AV}{x:Value}{Ov:Nat->Nat}{r:AV×ak},f h v=some r->RV g w v x Ov->XK P g w O n x Ov r∧p r.1=true)
  (hnil:∀ h,fs h []=some ([],h)) (hcons:∀ h v vs r,fs h (v::vs)=some r->∃ v' h' vs' h'',f h v=some (v',h')∧fs h' vs=some (vs',h'')∧r=(v'::vs',h'')) :
  ∀ {vs:D_}{h:ak}{O:Nat->Nat},S P g w ⟨[],⟨h,n⟩⟩ #[] O->∀ {xs:O_}{Ov:Nat->Nat}{r:D_×ak},fs h vs=some r->RVs g w vs xs Ov->ayn P g w O n xs Ov r∧r.1.all p=true
 | [],h,O,s,xs,Ov,r,hr,rv=>by
  rw[hnil]at hr;simp only[ae]at hr;subst hr;exact⟨⟨Ov,O,rv,s,fun _=>ai _⟩,rfl⟩
 | v::vs,h,O,s,xs,Ov,r,hr,rv=>by
  obtain⟨v',h',vs',h'',e1,e2,rfl⟩:=hcons _ _ _ _ hr;obtain⟨x,ys,O1,O2,rfl,r1,r2,hs⟩:=rv;obtain⟨⟨Ov1,O3,q1,s1,l1⟩,p1⟩:=hf s e1 r1;obtain⟨⟨Ov2,O4,q2,s2,l2⟩,p2⟩:=Lf hf hnil hcons s1 e2 r2;refine⟨⟨fun b=>Ov1 b+Ov2 b,O4,?_,s2,fun b=>by grind⟩,u_⟩
  grind [RVs]
def XV {h:ak}{n:Nat}{O:Nat->Nat}(s:S P g w ⟨[],⟨h,n⟩⟩ #[] O) {v:AV}{x:Value}{Ov:Nat->Nat}{r:AV×ak}(hr:fQ h v=some r) (rv:RV g w v x Ov) :
  XK P g w O n x Ov r∧rL r.1=true:=by
 have base:∀ {v:AV},RV g w v x Ov->kt h v=some r->XK P g w O n x Ov r∧rL r.1=true:=fun rv hr=>by
  obtain⟨h1,h2⟩:=XM s hr rv;refine⟨h1,?_⟩;obtain⟨v',h'⟩:=r
  cases v'<;>first | exact h2 | grind [qb]
 cases v<;>simp only[fQ]at hr<;>try exact base rv hr
 split at hr
 .rename_i vs' h' hx;simp only[ae]at hr;subst hr;obtain⟨ys,e,rr⟩:=rv;obtain⟨⟨Ov1,O1,q1,s1,l1⟩,p1⟩:=Lf (f:=kt) (fs:=sD) (p:=qb) XM (fun _=>rfl) (fun h v vs r hr=>by
   grind [sD]) s hx rr
  exact⟨⟨Ov1,O1,by grind [RV],s1,l1⟩,p1⟩
 simp_all
def alf {h:ak}{n:Nat}(s:S P g w ⟨[],⟨h,n⟩⟩ #[] O) {v r:AV}{x:Value}{Ov:Nat->Nat}(hr:gQ h v=some r) (rv:RV g w v x Ov) :
  ∃ u Ov',r=iP u∧RV g w u x Ov'∧(∀ b,Ov' b<=Ov b+O b)∧II u=true:=by
 have base:∀ {v:AV},RV g w v x Ov->(match fQ h v with | some (x,_)=>some (iP x) | none=>none)=some r->∃ u Ov',r=iP u∧RV g w u x Ov'∧(∀ b,Ov' b<=Ov b+O b)∧II u=true:=fun rv hr=>by
  split at hr
  .rename_i u h' hu;simp only[ae]at hr;obtain⟨⟨Ov',O',q,_,l⟩,p⟩:=XV s hu rv;refine⟨u,Ov',hr.symm,q,fun b=>by grind,?_⟩
   cases u<;>first | exact p | grind [rL,qb]
  simp_all
 cases v<;>simp only[gQ]at hr<;>try exact base rv hr
 split at hr
 .rename_i vs' h' hx;simp only[ae]at hr;obtain⟨ys,e,rr⟩:=rv;obtain⟨⟨Ov1,O1,q1,s1,l1⟩,p1⟩:=Lf (f:=fQ) (fs:=sW) (p:=rL) XV (fun _=>rfl) (fun h v vs r hr=>by
   grind [sW]) s hx rr
  exact⟨.tup vs',Ov1,hr.symm,by grind [RV],fun b=>by grind,p1⟩
 simp_all
theorem NG {g2:Gh}{v:AV}{x:Value}{Ov:Nat->Nat}(hp:qb v=true) (hf:ji v=true) (rv:RV g w v x Ov) (hn:∀ b,Ov b≠0->∀ o,¬ g2.pm b o):RV g2 w (om v) x Ov:=by
 cases v<;>simp only[qb,ao]at hp
 .grind [RV,om,RD.flat,ji]
 .grind [RV,om]
 .simp only[ji]at hf;rcases rv with h | ⟨b,off,cap,c,el,rfl,hcap,hm,hl,hb,hsz,hrc,hpm,hpp,rfl⟩
  .exact .inl h
  .refine .inr ⟨b,off,cap,c,el,rfl,hcap,hm,hl,hb,hsz,fun j d hj=>?_,fun o ho=>absurd ho (hn b s_ o),fun h=>by simp at h,rfl⟩;obtain⟨u,hu,hr⟩:=hrc j d hj
   grind [RD.flat]
def Gt {g2:Gh}{f:AV->AV}{p q:AV->Bool}(hf:∀ {v:AV}{x:Value}{Ov:Nat->Nat},p v=true->q v=true->RV g w v x Ov->(∀ b,Ov b≠0->∀ o,¬ g2.pm b o)->RV g2 w (f v) x Ov) :
  ∀ {vs:D_}{xs:O_}{Ov:Nat->Nat},vs.all p=true->vs.all q=true->RVs g w vs xs Ov->(∀ b,Ov b≠0->∀ o,¬ g2.pm b o)->RVs g2 w (vs.map f) xs Ov
 | [],xs,Ov,_,_,rv,_=>by grind [RVs]
 | v::vs,xs,Ov,hp,hq,rv,hn=>by
  simp only[gC,af]at hp hq;obtain⟨x,ys,O1,O2,rfl,r1,r2,hs⟩:=rv;exact⟨x,ys,O1,O2,rfl,hf hp.1 hq.1 r1 (fun b hb=>hn b u_),Gt hf hp.2 hq.2 r2 (fun b hb=>hn b u_),hs⟩
def anV (v:AV):(∃ cs,v=.agg cs)∨(pR v=om v∧rL v=qb v∧kZ v=ji v):=by
 cases v<;>first | exact .inl ⟨_,rfl⟩ | exact .inr ⟨rfl,rfl,rfl⟩
def aof (v:AV):(∃ cs,v=.tup cs)∨(qh v=pR v∧II v=rL v∧jH v=kZ v):=by
 cases v<;>first | exact .inl ⟨_,rfl⟩ | exact .inr ⟨rfl,rfl,rfl⟩
theorem YX {g2:Gh}{v:AV}{x:Value}{Ov:Nat->Nat}(hp:rL v=true) (hf:kZ v=true) (rv:RV g w v x Ov) (hn:∀ b,Ov b≠0->∀ o,¬ g2.pm b o):RV g2 w (pR v) x Ov:=by
 rcases anV v with ⟨cs,rfl⟩ | ⟨e1,e2,e3⟩
 .obtain⟨xs,e,rr⟩:=rv;exact⟨xs,e,Gt NG hp hf rr hn⟩
 grind [NG]
theorem ana {g2:Gh}{v:AV}{x:Value}{Ov:Nat->Nat}(hp:II v=true) (hf:jH v=true) (rv:RV g w v x Ov) (hn:∀ b,Ov b≠0->∀ o,¬ g2.pm b o):RV g2 w (qh v) x Ov:=by
 rcases aof v with ⟨cs,rfl⟩ | ⟨e1,e2,e3⟩
 .obtain⟨xs,e,rr⟩:=rv;exact⟨xs,e,Gt YX hp hf rr hn⟩
 grind [YX]
def ab7 {g2:Gh}{v:AV}{x:Value}{Ov:Nat->Nat}(hp:qb v=true) (rv:RV g w v x Ov) (hn:∀ b,Ov b≠0->∀ o,¬ g2.pm b o):∃ Ov',RV g2 w (YM v) x Ov'∧∀ b,Ov' b<=Ov b:=by
 unfold YM;split
 .rename_i hf;exact⟨Ov,NG hp hf rv hn,fun _=>ai _⟩
 .split
  .rename_i n hl;refine⟨zero,?_,fun _=>dl _⟩;simp only[RV];refine⟨?_,fun _=>trivial⟩
   cases v with
   | d c =>
    cases c with
    | lst xs =>
     simp only[lenOf,ae]at hl;have rd:=rv.1
     cases rd
     all_goals simp_all
    | _=>simp[lenOf]at hl
   | nl =>
    grind [lenOf,RV]
   | own p m xs =>
    grind [lenOf,RV,Dc]
   | _=>grind [qb]
  .exact⟨zero,by simp[RV,zero],fun _=>dl _⟩
def IA {g2:Gh}{f:AV->AV}{p:AV->Bool}(hf:∀ {v:AV}{x:Value}{Ov:Nat->Nat},p v=true->RV g w v x Ov->(∀ b,Ov b≠0->∀ o,¬ g2.pm b o)->∃ Ov',RV g2 w (f v) x Ov'∧∀ b,Ov' b<=Ov b) :
  ∀ {vs:D_}{xs:O_}{Ov:Nat->Nat},vs.all p=true->RVs g w vs xs Ov->(∀ b,Ov b≠0->∀ o,¬ g2.pm b o)->∃ Ov',RVs g2 w (vs.map f) xs Ov'∧∀ b,Ov' b<=Ov b
 | [],xs,Ov,_,rv,_=>⟨Ov,by grind [RVs],fun _=>ai _⟩
 | v::vs,xs,Ov,hp,rv,hn=>by
  simp only[gC,af]at hp;obtain⟨x,ys,O1,O2,rfl,r1,r2,hs⟩:=rv;obtain⟨Q1,q1,l1⟩:=hf hp.1 r1 (fun b hb=>hn b u_);obtain⟨Q2,q2,l2⟩:=IA hf hp.2 r2 (fun b hb=>hn b u_);exact⟨fun b=>Q1 b+Q2 b,⟨x,ys,Q1,Q2,rfl,q1,q2,fun _=>rfl⟩,fun b=>by grind⟩
def acL {g2:Gh}{v:AV}{x:Value}{Ov:Nat->Nat}(hp:rL v=true) (rv:RV g w v x Ov) (hn:∀ b,Ov b≠0->∀ o,¬ g2.pm b o):∃ Ov',RV g2 w (O7 v) x Ov'∧∀ b,Ov' b<=Ov b:=by
 have other:O7 v=YM v->rL v=qb v->∃ Ov',RV g2 w (O7 v) x Ov'∧∀ b,Ov' b<=Ov b:=fun e1 e2=>by
  rw[e1];rw[e2]at hp;exact ab7 hp rv hn
 cases v with
 | agg cs =>
  simp only[RV,O7]at rv⊢;obtain⟨xs,e,rr⟩:=rv;obtain⟨Ov',q,l⟩:=IA ab7 hp rr hn
  grind
 | _=>exact other rfl rfl
def apt {g2:Gh}{v:AV}{x:Value}{Ov:Nat->Nat}(hp:II v=true) (rv:RV g w v x Ov) (hn:∀ b,Ov b≠0->∀ o,¬ g2.pm b o):∃ Ov',RV g2 w (Og v) x Ov'∧∀ b,Ov' b<=Ov b:=by
 have other:Og v=O7 v->II v=rL v->∃ Ov',RV g2 w (Og v) x Ov'∧∀ b,Ov' b<=Ov b:=fun e1 e2=>by
  rw[e1];rw[e2]at hp;exact acL hp rv hn
 cases v with
 | tup cs =>
  simp only[RV,Og]at rv⊢;obtain⟨xs,e,rr⟩:=rv;obtain⟨Ov',q,l⟩:=IA acL hp rr hn
  grind
 | _=>exact other rfl rfl
theorem Zb {g2:Gh}(hpm:g2.pm=g.pm) {v:AV}{x:Value}{Ov:Nat->Nat}(hp:qb v=true) (rv:RV g w v x Ov):RV g2 w v x Ov:=by
 cases v<;>simp only[qb,ao]at hp
 all_goals simp_all [RV,Dc]
def FE {g2:Gh}{p:AV->Bool}(hf:∀ {v:AV}{x:Value}{Ov:Nat->Nat},p v=true->RV g w v x Ov->RV g2 w v x Ov) :
  ∀ {vs:D_}{xs:O_}{Ov:Nat->Nat},vs.all p=true->RVs g w vs xs Ov->RVs g2 w vs xs Ov
 | [],xs,Ov,_,rv=>by grind [RVs]
 | v::vs,xs,Ov,hp,rv=>by
  simp only[gC,af]at hp;obtain⟨x,ys,O1,O2,rfl,r1,r2,hs⟩:=rv;exact⟨x,ys,O1,O2,rfl,hf hp.1 r1,FE hf hp.2 r2,hs⟩
theorem Xd {g2:Gh}(hpm:g2.pm=g.pm) {v:AV}{x:Value}{Ov:Nat->Nat}(hp:rL v=true) (rv:RV g w v x Ov):RV g2 w v x Ov:=by
 rcases anV v with ⟨cs,rfl⟩ | ⟨e1,e2,e3⟩
 .obtain⟨xs,e,rr⟩:=rv;exact⟨xs,e,FE (Zb hpm) hp rr⟩
 grind [Zb]
theorem alt {g2:Gh}(hpm:g2.pm=g.pm) {v:AV}{x:Value}{Ov:Nat->Nat}(hp:II v=true) (rv:RV g w v x Ov):RV g2 w v x Ov:=by
 rcases aof v with ⟨cs,rfl⟩ | ⟨e1,e2,e3⟩
 .obtain⟨xs,e,rr⟩:=rv;exact⟨xs,e,FE (Xd hpm) hp rr⟩
 grind [Xd]
end
section
variable {P:Program}{g:Gh}{w:World}{t:F_}{O:Nat->Nat}{st st':St}{a:AV}{o:Oper}{r:dz}
def S.extF (s:S P g w st t O) {g2:Gh}{w':World}(h:bI g w g2 w' fun _=>False) (ho:g2.obj=g.obj) (hp:∀ b o,g2.pm b o->b<w'.heap.size):S P g2 w' st t O:=by
 obtain⟨Oe,Oh,re,rh,hs⟩:=s.parts;exact⟨s.se,s.sh,⟨Oe,Oh,kx.ext h re s_,rh.imp' fun k v O1 _ _ q=>q.ext0 h s_,hs⟩,s.le,
  fun b hb=>aZ (s.hi b hb) h.size,fun id hid=>by rw[ho];grind [fresh],hp⟩
theorem agb (u:AV):jH (qh u)=jH u:=by
 have h1:∀ v:AV,ji (om v)=ji v:=fun v=>by cases v<;>rfl
 have h2:∀ v:AV,kZ (pR v)=kZ v:=fun v=>by
  cases v<;>try rfl
  grind [pR,kZ]
 cases u<;>try rfl
 .rename_i cs;exact h2 (.agg cs)
 grind [qh,jH]
def alA {e:aV}{hs hs0:HS}{O':Nat->Nat}{vs:D_}{v0 v:AV}{x:Value}{w':World}(s':S P g w ⟨e,hs⟩ t O') (hle:∀ b,O' b<=O b)
  (hp:gF P (g.view w fun b=>vs.any tB=true∧O' b≠0) w zero v0 hs0 (.returned x) w')
  (hres:(match gQ hs0.heap v0 with | none=>none | some v=>match vs.any tB with | false=>some v | true=>match jH v with | true=>some v | false=>some (Og v))=some v) :
  ∃ g' Oa O1,CH P g w t O ⟨e,hs⟩ v x w' g' Oa O1:=by
 obtain⟨g1,Or,Oh,h1,h2,h3,h4,h5,h6⟩:=hp;have hz:∀ b,b<w.heap.size->Or b+Oh b=0:=fun b hb=>by simp_all
 split at hres
 .simp_all
 .rename_i v1 hv1;obtain⟨u,Ov',rfl,ru,lu,pu⟩:=alf h2 hv1 h1;have hcell:∀ b o,g.pm b o->w'.cell? ⟨b,o,none⟩=w.cell? ⟨b,o,none⟩:=fun b o h=>(h3.pm b o (.inl h)).2
  have hblk:∀ b,b<w.heap.size->w'.heap[b]?=w.heap[b]?:=fun b hb=>(h3.blk b hb s_).1
  have fin:∀ (g2:Gh) (Ow:Nat->Nat),(∀ b,Ow b<=Ov' b)->bI g w g2 w' (fun _=>False)->g2.obj=g.obj->(∀ b o,g2.pm b o->b<w'.heap.size)->RV g2 w' v x Ow->∃ g' Oa O1,CH P g w t O ⟨e,hs⟩ v x w' g' Oa O1:=by
   intro g2 Ow hle2 hx ho hpl hv;have lu:∀ b,Ow b<=Or b+Oh b:=fun b=>aM (hle2 b) (lu b)
   refine⟨g2,Ow,O',hv,s'.extF hx ho hpl,hx.mono fun _ _ h=>h.elim,fun b=>?_,fun b hb=>?_,fun b hb=>?_⟩
   .by_cases hb:b<w.heap.size
    .have:=hz b hb;have:=lu b;have:=s'.le b;omega
    grind [S.out]
   all_goals grind [S.hi]
  by_cases hf:jH u=true
  .have hb:iP u=qh u:=by simp[iP,hf]
   have hv:v=qh u:=by
    grind [agb]
   refine fin g Ov' (fun _=>ai _) ⟨fun _ _ h=>⟨h,rfl,rfl,rfl⟩,fun b o h=>⟨h,hcell b o h⟩,fun b hb _=>⟨hblk b hb,fun _ h=>h⟩,h3.size,h3.lp,h3.same⟩ rfl (fun b o h=>aZ (s'.pmlt b o h) h3.size) ?_
   grind [ana,S.pmlt]
  .have hb:iP u=u:=by simp[iP,hf]
   cases hnf:vs.any tB with
   | false =>
    have hold:∀ b o,(g.view w fun b=>vs.any tB=true∧O' b≠0).pm b o->g.pm b o:=fun b o h=>h.elim id fun h=>by simp_all
    refine fin { g with pm:=g1.pm } Ov' (fun _=>ai _) ⟨fun _ _ h=>⟨h,rfl,rfl,rfl⟩,fun b o h=>⟨(h3.pm b o (.inl h)).1,hcell b o h⟩,fun b hb _=>⟨hblk b hb,fun o h=>hold b o ((h3.blk b hb s_).2 o h)⟩,h3.size,h3.lp,h3.same⟩ rfl
     (fun b o h=>h2.pmlt b o h) ?_
    grind [alt]
   | true =>
    obtain⟨Ow,qv,lw⟩:=apt (g2:=g) pu ru fun b hb o hpm=>by
     grind [S.pmlt]
    refine fin g Ow lw ⟨fun _ _ h=>⟨h,rfl,rfl,rfl⟩,fun b o h=>⟨h,hcell b o h⟩,fun b hb _=>⟨hblk b hb,fun _ h=>h⟩,h3.size,h3.lp,h3.same⟩ rfl (fun b o h=>aZ (s'.pmlt b o h) h3.size) ?_
    simp_all
def aur {ro:I_}{f:FuncId}{args:V_}(hr:iL P r) (s:S P g w st t O) (h:Fh r f args st=some (a,st')) (hc:bF P (.call f args) o.op=true) :
  OpW ro P g w t O st' a o:=by
 obtain⟨dst,op,ty,pos,aft,gd⟩:=o;simp only[bF]at hc;split at hc
 .rename_i c;simp only[af]at hc;obtain⟨h1,h2⟩:=hc;obtain⟨callee,as,ats⟩:=c;have:=Lh h1;subst this;unfold Fh at h;split at h
  .rename_i vs e hrd;split at h
   .rename_i v hcall;obtain⟨Ov,O',rvs,s',l⟩:=s.rdAll h2 hrd;unfold eD at hcall;split at hcall
    .simp_all
    .rename_i ds hds;split at hcall
     .simp_all
     .rename_i v0 hs0 hc0;obtain⟨hfn,hk⟩:=hr hc0;have rvc:=RZ (st:=⟨e,st.hs⟩) (K:=fun b=>vs.any tB=true∧O' b≠0) s' hds (fun h b hb=>⟨h,hb⟩) rvs;have hk:=hk rvc (ay0 s' _) (fun b=>by simp) (fun b hb=>by simp at hb);intro ds' next Q hn
      have hrun:(execOp (ev t) ⟨dst,.call ⟨.value (.func f),as,ats⟩,ty,pos,aft,gd⟩).run P w=.ok (.enter f (as.toList.map (ev t)).toArray) w:=by
       simp only[execOp,resolve,aR,ev,Deferred.ofValue,dx,bp,invoke];rw[w9 hfn]
       congr 2
       grind
      rw[hrun,Oper.uponIn_enter];refine⟨fun h=>by grind [Fence.wide],Nn (hk.mono fun en w' hp=>?_)⟩
      cases en with
      | returned x =>
       obtain⟨g',Oa,O1,k⟩:=alA (O:=O) (vs:=vs) s' (fun b=>by grind) hp hcall
       grind
      | panicked c=>exact hp.elim
      | outgrown=>exact hp.elim
   simp_all
  simp_all
 simp_all
end
abbrev be:=@List.mem_append
def Fk:ct->Exit
 | .normal=>.normal
 | .exit i=>.exit i
 | .goto l=>.goto l
 | .ret=>.ret
def jR (w:World) (O:Nat->Nat) (lo:Nat):List Deferred->Prop
 | []=>True
 | d::ds=>(∃ r,d.target=.collected r∧lo<=r∧w.heap[r]?=some (.deferred (some []))∧O r=0∧∀ d'∈ds,∀ r',d'.target=.collected r'->r'<r)∧jR w O lo ds
def Ec (w:World) (ro:I_):Prop:=∀ l,ro=some l->∃ rc:Go.Loop,w.heap[l]?=some (.loop rc)
def co (P:Program) (g:Gh) (w:World) (t:F_) (O:Nat->Nat) (ds:List Deferred) (ro:I_) (o:ct) (st':St) (e:Exit) (a':Act) (w':World):Prop :=
 e=Fk o∧∃ g' O' ms,gG P g w t O st' a'.tmps w' g' O'∧a'.defers=ms++ds∧jR w' O' w.heap.size ms∧(ro.isSome=true->ms=[])
section
variable {P:Program}{g:Gh}{w:World}{t:F_}{O:Nat->Nat}{st st':St}{a:AV}{o:Oper}{r:dz}
def Ec.ext {ro:I_}(h:Ec w ro) {g g':Gh}{w':World}{T:Nat->Prop}(hx:bI g w g' w' T):Ec w' ro:=fun l hl=>let ⟨rc,hrc⟩:=h l hl;hx.lp l rc hrc
def jR.after {lo:Nat}{g1 g2:Gh}{w1 w2:World}{O1 O2:Nat->Nat}(hx:bI g1 w1 g2 w2 fun b=>O1 b≠0) (ho:∀ b,b<w1.heap.size->O2 b<=O1 b) :
  ∀ {ms:List Deferred},jR w1 O1 lo ms->jR w2 O2 lo ms
 | [],_=>trivial
 | d::ds,⟨⟨r,h1,h2,h3,h4,h5⟩,h6⟩=>by
  exact⟨⟨r,h1,h2,by grind [bI.blk],d_,h5⟩,jR.after hx ho h6⟩
def jR.lt {lo:Nat}:∀ {ms:List Deferred},jR w O lo ms->∀ d∈ms,∀ r,d.target=.collected r->r<w.heap.size
 | [],_,d,hd,_,_=>by simp at hd
 | m::ms,⟨⟨r,h1,h2,h3,h4,h5⟩,h6⟩,d,hd,r',hr=>by
  grind
def jR.append {lo1 lo2:Nat}(hlo:lo1<=lo2) {ms1:List Deferred}(h1:jR w O lo1 ms1) (hlt:∀ d∈ms1,∀ r,d.target=.collected r->r<lo2) :
  ∀ {ms2:List Deferred},jR w O lo2 ms2->jR w O lo1 (ms2++ms1)
 | [],_=>h1
 | d::ds,⟨⟨r,k1,k2,k3,k4,k5⟩,k6⟩=>by
  refine⟨⟨r,k1,aM hlo k2,k3,k4,fun d' hd' r' hr'=>?_⟩,jR.append hlo h1 hlt k6⟩;rcases be.1 hd' with h | h<;>grind
def co.comp {ds ms1:List Deferred}{ro:I_}{st1 st2:St}{t1:F_}{w1:World}{g1:Gh}{O1:Nat->Nat}(G:gG P g w t O st1 t1 w1 g1 O1) (hm:jR w1 O1 w.heap.size ms1)
  (hro:ro.isSome=true->ms1=[]) {out:ct}{e:Exit}{a2:Act}{w2:World}(h:co P g1 w1 t1 O1 (ms1++ds) ro out st2 e a2 w2):co P g w t O ds ro out st2 e a2 w2:=by
 obtain⟨he,g2,O2,ms2,G2,hd,hm2,hr2⟩:=h;refine⟨he,g2,O2,ms2++ms1,G.trans G2,u_,?_,fun h=>by simp_all⟩;exact jR.append G.ext.size (hm.after G2.ext G2.old) (fun d hd r hr=>hm.lt d hd r hr) hm2
def jf (P:Program) (r:dz):Prop :=
 ∀ {v:VC}{st:St}{o:ct}{st':St},r.code v st=some (o,st')->∀ {c:Code}{n:Nat},Mt P n v c->∀ {g:Gh}{w:World}{t:F_}{O:Nat->Nat},t.size=n->S P g w st t O->
  ∀ (ro:I_) (ds:List Deferred),Ec w ro->c.wpIn (FR ro) 0 P (co P g w t O ds ro o st') ⟨t,ds⟩ w
def bI.loopBlk {b:Nat}{rc rc':Go.Loop}(hb:w.heap[b]?=some (.loop rc)):bI g w g (Vm.setBlk w b (.loop rc')) fun x=>x=b where
 obj _ _ h:=⟨h,rfl,rfl,rfl⟩
 pm b' o h:=⟨h,by
  grind [World.cell?,eQ,iA]⟩
 blk b' _ h:=⟨iA h,fun _ h=>h⟩
 size:=s_
 lp b' r h:=by
  grind [eQ,iA]
 same:=⟨rfl,rfl,zT hb (by grind [gB]) (by grind [gB])⟩
def S.storeG {st:St}(s:S P g w st t O) {id:Nat}{ob:Obj}(hg:get st.hs.heap id=some ob) :
  ∃ O1 Oz:Nat->Nat,jW P g w id ob O1∧(∀ b,O1 b+Oz b<=O b)∧∀ (w':World) (b:Nat) (ob':Obj) (O1':Nat->Nat),
   1<=O1 b->bI g w g w' (fun x=>x=b)->jW P g w' id ob' O1'->(∀ x,O1' x+Oz x<=1)->(∀ x,O1' x≠0->x<w'.heap.size)->
   S P g w' ⟨st.env,⟨put st.hs.heap id ob',st.hs.next⟩⟩ t (fun x=>O1' x+Oz x):=by
 obtain⟨Oe,Oh,re,rh,ho⟩:=s.parts;obtain⟨O1,O2,q,r2,hs⟩:=RL.take rh hg;refine⟨O1,fun b=>Oe b+O2 b,q,fun b=>by grind,fun w' b ob' O1' h1 hx q' hle hhi=>?_⟩;have hone:O b<=1:=s.le b;have hfree:Oe b=0∧O2 b=0:=d_;have re':=kx.ext hx re (fun y hy e=>by simp_all);have r2':Bt P g w' (del st.hs.heap id) O2:=r2.imp' fun k v Q _ hQ q=>q.ext0 hx (fun y hy e=>by grind)
 obtain⟨O3,r3,h3⟩:=RL.put s.sh r2' q';refine⟨s.se,s.sh.put _ _,⟨Oe,O3,re',r3,fun x=>by grind⟩,hle,fun x hx0=>?_,s.fresh,
  fun b o hp=>aZ (s.pmlt b o hp) hx.size⟩
 by_cases h:O1' x=0
 .refine aZ (s.hi x ?_) hx.size
  grind
 simp_all
def S.setLoop {st:St}(s:S P g w st t O) {id:Nat}{snap:aV}{ps:C_}{as bd:VC}{busy:Bool}{pend:BH_}(hg:get st.hs.heap id=some (.loop snap ps as bd busy pend)) :
  ∃ b rc,g.obj id=some b∧w.heap[b]?=some (.loop rc)∧rc.state=(if busy then .busy else if pend.isNone then .ready else .done)∧rc.pending=pend.bind mF∧rc.params=ps.toArray∧
   Mt P rc.tmps.size as rc.assign∧Mt P rc.tmps.size bd rc.body∧cO snap∧kx g w snap rc.tmps zero∧(∀ p∈ps,p<rc.tmps.size)∧
   ∀ (busy':Bool) (pend':BH_) (rc':Go.Loop),rc'={ rc with state:=(if busy' then .busy else if pend'.isNone then .ready else .done),pending:=pend'.bind mF }->
    ∃ O',gG P g w t O ⟨st.env,⟨put st.hs.heap id (.loop snap ps as bd busy' pend'),st.hs.next⟩⟩ t (Vm.setBlk w b (.loop rc')) g O':=by
 obtain⟨O1,Oz,q,hsum,hst⟩:=s.storeG hg;obtain⟨b,rc,h1,h2,h3,h4,h5,h6,h7,h8,h9,h10,h11⟩:=q;refine⟨b,rc,h1,h2,h3,h4,h5,h6,h7,h8,h9,h10,fun busy' pend' rc' e=>?_⟩;have hx:bI g w g (Vm.setBlk w b (.loop rc')) fun x=>x=b:=bI.loopBlk h2
 have hO1:O1 b=1:=u_;refine⟨_,hst (Vm.setBlk w b (.loop rc')) b (.loop snap ps as bd busy' pend') O1 o_ hx ?_ (fun x=>by have:=hsum x;have:=s.le x;omega) (fun x hx0=>?_),hx.mono (fun x _ e=>by grind),fun x _=>hsum x,rfl⟩
 .subst e;exact⟨b,_,h1,eQ (jy h2),rfl,rfl,h5,h6,h7,h8,kx.ext hx h9 s_,h10,h11⟩
 grind [w6,KD]
end
section
variable {P:Program}{g:Gh}{w:World}{t:F_}{O:Nat->Nat}{st st':St}{a:AV}{o:Oper}{r:dz}
def XO:∀ {ps:C_}{vs:D_}{e e':aV}{hs:HS}{t:F_}{O:Nat->Nat},wu e ps vs=some e'->S P g w ⟨e,hs⟩ t O->∀ {xs:O_}{Ov:Nat->Nat},RVs g w vs xs Ov->
  (∀ p∈ps,p<t.size)->(∀ b,Ov b+O b<=1)->(∀ b,Ov b≠0->b<w.heap.size)->
  ∃ O',S P g w ⟨e',hs⟩ ((ps.zip xs).foldl (fun(t:F_) (q:Nat×Value)=>t.setIfInBounds q.1 q.2) t) O'∧(∀ b,O' b<=Ov b+O b)∧xs.length=ps.length∧
   ((ps.zip xs).foldl (fun(t:F_) (q:Nat×Value)=>t.setIfInBounds q.1 q.2) t).size=t.size
 | [],[],e,e',hs,t,O,h,s,xs,Ov,rv,hp,hle,hhi=>by
  simp only[wu,ae]at h;obtain⟨rfl,_⟩:=rv;exact⟨O,u_,fun b=>by omega,rfl,rfl⟩
 | p::ps,v::vs,e,e',hs,t,O,h,s,xs,Ov,rv,hp,hle,hhi=>by
  simp only[wu]at h;obtain⟨x,ys,O1,O2,rfl,r1,r2,hs2⟩:=rv;obtain⟨O3,s3,l3⟩:=s.setTmp (hp p (.head _)) r1 (fun b=>by grind) (fun b hb=>hhi b u_);obtain⟨O4,s4,l4,hl,hsz⟩:=XO h s3 r2 (fun q hq=>by simp_all) (fun b=>by grind) (fun b hb=>hhi b u_);exact⟨O4,u_,fun b=>by grind,by simp[hl],u_⟩
 | [],_::_,_,_,_,_,_,h,_,_,_,_,_,_,_=>by simp[wu]at h
 | _::_,[],_,_,_,_,_,h,_,_,_,_,_,_,_=>by simp[wu]at h
def yT {b:Nat}{rc:Go.Loop}(h:w.heap[b]?=some (.loop rc)):(Instr.getLoop b).run P w=.ok rc w:=by
 simp_all [Instr.getLoop,getObj,Sem.run]
def K4 {b:Nat}{rc rc':Go.Loop}(h:w.heap[b]?=some (.loop rc)):(setObj b (.loop rc')).run P w=.ok () (setBlk w b (.loop rc')):=by
 grind [setObj,Sem.run,setBlk]
def aov (hc:jf P r) {l:Nat}{args:D_}{hs hs':HS}{v:AV}(h:uZ r l args hs=some (v,hs')) {xs:O_}{Oa Oh:Nat->Nat}(rvs:RVs g w args xs Oa)
  (sh:S P g w ⟨[],hs⟩ #[] Oh) (hle:∀ b,Oa b+Oh b<=1) (hhi:∀ b,Oa b≠0->b<w.heap.size) (ro:I_) :
  ∃ b,∃ rc:Go.Loop,∃ tm,g.obj l=some b∧(Instr.yield b xs.toArray).run P w=.ok (.round b rc.fn tm rc.assign rc.body) w∧
   RoundIn (FR ro) 0 P b rc.fn tm rc.assign rc.body w (gF P g w (fun b=>Oa b+Oh b) v hs'):=by
 unfold uZ at h;split at h
 .rename_i snap ps as bd hg;split at h
  .simp at h
  .rename_i e hput;split at h
   .rename_i st1 hass;split at h
    .rename_i snap1 ps1 as1 bd1 hg1;split at h
     .simp at h
     .rename_i o st2 hbd;split at h
      .rename_i snap2 ps2 as2 bd2 hg2;obtain⟨b,rc,h1,h2,h3,h4,h5,h6,h7,h8,h9,h10,_⟩:=sh.setLoop (st:=⟨[],hs⟩) hg;have s0:S P g w ⟨snap,hs⟩ rc.tmps fun b=>zero b+Oh b:=S.join h8 h9 sh (fun b=>by grind) (fun b hb=>by simp at hb)
       obtain⟨O1,s1,l1,hlen,hsz⟩:=XO hput s0 rvs h10 (fun b=>by simp_all) hhi;refine⟨b,rc,_,h1,?_,roundIn_of_wpIn (F:=FR ro) (tmps:=(ps.zip xs).foldl (fun(t:F_) (q:Nat×Value)=>t.setIfInBounds q.1 q.2) rc.tmps) trivial ?_⟩
       .simp_all [Instr.yield,yT]
       .refine wpIn_mono (hc hass h6 hsz s1 (some b) [] (fun l hl=>by simp_all)) fun en a1 w1 hp=>?_
        obtain⟨rfl,g1,O1',ms,G1,hd1,_,hms⟩:=hp;have hms:=hms rfl;subst hms;obtain⟨t1,d1⟩:=a1;subst hd1;obtain⟨b1,rc1,k1,k2,k3,k4,k5,k6,k7,k8,k9,k10,kset⟩:=G1.st.setLoop hg1;have hb1:b1=b:=by have:=(G1.ext.obj l b h1).1;simp_all
        subst hb1;obtain⟨O2,G2⟩:=kset true none { rc1 with state:=.busy } (by simp[k4]);refine⟨setBlk w1 b1 (.loop { rc1 with state:=.busy }),?_,?_⟩
        .simp_all [Instr.beginRound,yT,K4]
        .have hsz1:t1.size=rc.tmps.size:=by rw[G1.size,hsz]
         refine wpIn_mono (hc hbd h7 hsz1 G2.st (some b1) [] (fun l hl=>by grind [eQ])) fun en2 a2 w3 hp2=>?_
         obtain⟨rfl,g2,O3,ms2,G3,_,_,_⟩:=hp2;obtain⟨b2,rc2,m1,m2,m3,m4,m5,m6,m7,m8,m9,m10,mset⟩:=G3.st.setLoop hg2;have hb2:b2=b1:=by have:=(G3.ext.obj l b1 k1).1;simp_all
         subst hb2;have fin:∀ (pend:BH_),(v,hs')=(.bool pend.isNone,⟨put st2.hs.heap l (.loop snap2 ps2 as2 bd2 false pend),st2.hs.next⟩)->pend.bind mF=mF o->(pend.bind mF).isNone=pend.isNone->
           ∃ (vv:Value) (w':World),(Instr.endRound b2 (mF o)).run P w3=.ok vv w'∧gF P g w (fun b=>Oa b+Oh b) v hs' (.returned vv) w':=by
          intro pend hv hpo hpn;obtain⟨rfl,rfl⟩:=hv;obtain⟨O4,G4⟩:=mset false pend { rc2 with state:=(if (mF o).isNone then .ready else .done),pending:=mF o } u_;refine⟨.bool (mF o).isNone,setBlk w3 b2 (.loop { rc2 with state:=(if (mF o).isNone then .ready else .done),pending:=mF o }),?_,?_⟩
          .simp_all [Instr.endRound,yT,K4]
          .have G:=((G1.trans G2).trans G3).trans G4;obtain⟨Oe4,Oh4,re4,sh4,ho4⟩:=G.st.split;refine⟨g2,zero,Oh4,?_,sh4,G.ext.mono (fun b _ hb=>by grind),fun b=>by have:=G.st.le b;grind,fun b hb=>?_,fun b hb=>by simp at hb⟩
           all_goals grind [Hq,gG.old]
         cases o with
         | normal =>
          simp only[ae]at h;exact fin none h.symm rfl rfl
         | exit i =>
          simp only[ae]at h;exact fin (some (.exit i)) h.symm rfl rfl
         | goto i =>
          simp only[ae]at h;exact fin (some (.goto i)) h.symm rfl rfl
         | ret =>
          simp only[ae]at h;exact fin (some .ret) h.symm rfl rfl
      simp_all
    simp_all
   simp_all
 simp_all
end
section
variable {P:Program}{g:Gh}{w:World}{t:F_}{O:Nat->Nat}{st st':St}{a:AV}{o:Oper}{r:dz}
def art {ro:I_}{f:Rd}{args:V_}(hr:iL P r) (hcs:jf P r) (s:S P g w st t O) (h:DH r f args st=some (a,st')) (hc:bF P (.callv f args) o.op=true) :
  OpW ro P g w t O st' a o:=by
 obtain⟨dst,op,ty,pos,aft,gd⟩:=o;simp only[bF]at hc;split at hc
 .rename_i c;simp only[af]at hc;obtain⟨h1,h2⟩:=hc;obtain⟨callee,as,ats⟩:=c;simp only at h1 h2;split at h1
  .rename_i fx;unfold DH at h;split at h
   .rename_i fv e1 hf;split at h
    .rename_i vs e hrd;split at h
     .rename_i v hs' hcall;obtain⟨rfl,rfl⟩:=h;obtain⟨Of,O1,rf,s1,l1⟩:=s.rd h1 hf;obtain⟨Ov,O',rvs,s',l⟩:=s1.rdAll (st:=⟨e1,st.hs⟩) h2 hrd;obtain⟨Oe,Oh,re,sh,ho⟩:=s'.split;have hle:∀ b,Ov b+(Oe b+Oh b)<=O b:=fun b=>by grind
      have hle1:∀ b,Ov b+Oh b<=1:=fun b=>by have:=hle b;have:=s.le b;omega
      have hhi:∀ b,Ov b≠0->b<w.heap.size:=fun b hb=>s.hi b (by grind)
      unfold cf at hcall;split at hcall
      .rename_i gf first caps
       obtain⟨hfn,hk⟩:=hr hcall;obtain⟨⟨xs,ys,hev,r1,r2⟩,_⟩:=rf;have hrv:RVs g w (first++(vs++caps)) (xs.toList++(as.toList.map (ev t)++ys.toList)) (fun b=>zero b+(Ov b+zero b)):=r1.join (rvs.join r2);have hO:(fun b=>zero b+(Ov b+zero b))=Ov:=u_;rw[hO]at hrv;have hk:=hk hrv sh hle1 hhi;refine UF (hs:=st.hs) s'.se re hle s ?_ hk
       simp_all [execOp,resolve,Deferred.ofValue,invoke,w9]
      .obtain⟨⟨b0,hb0,hev⟩,_⟩:=rf;obtain⟨b,rc,tm,hb,hy,hround⟩:=aov hcs hcall rvs sh hle1 hhi ro;rw[hb0]at hb;simp only[ae]at hb;subst hb;intro ds next Q hn
       have hrun:(execOp (ev t) ⟨dst,.call ⟨.value fx,as,ats⟩,ty,pos,aft,gd⟩).run P w=.ok (.round b0 rc.fn tm rc.assign rc.body) w:=by
        simp only[execOp,resolve,aR,hev,Deferred.ofValue,dx,bp,invoke];rw[<-hy]
        congr 2
        grind
       rw[hrun,Oper.uponIn_round];refine⟨fun h=>by grind [Fence.wide],hround.mono fun en w' hp=>?_⟩
       cases en with
       | returned x =>
        obtain⟨g',Oa,O',k⟩:=Ho (hs:=st.hs) s'.se re hle s hp
        grind
       | panicked c=>exact hp.elim
       | outgrown=>exact hp.elim
      simp_all
     simp_all
    simp_all
   simp_all
  simp_all
 simp_all
def aeJ {t:F_}:∀ {e:aV}{O:Nat->Nat},kx g w e t O->kx g w (e.map fun kv=>(kv.1,share kv.2)) t zero
 | [],_,_=>fun _=>rfl
 | (k,v)::e,O,r=>by
  obtain⟨O1,O2,⟨q1,q2⟩,rr,_⟩:=r;exact⟨zero,zero,⟨q1,RV.share _ _ _ q2⟩,aeJ rr,fun _=>rfl⟩
def ase {e:aV}(h:cO e):cO (e.map fun kv=>(kv.1,share kv.2)):=by
 grind [cO]
def adI {ro:I_}(hro:Ec w ro) (fn:FuncId) (ps:Array Nat) (as bd:Code) :
  ∃ (w1:World) (mark:List Deferred) (rc:Go.Loop),(Instr.enterLoop fn t ps as bd ro).run P w=.ok (w1.heap.size,mark) (w1.alloc (.loop rc))∧
   rc.state=.ready∧rc.pending=none∧rc.params=ps∧rc.assign=as∧rc.body=bd∧rc.tmps=t∧
   ((∃ l,ro=some l∧w1=w∧mark=[])∨(ro=none∧w1=w.alloc (.deferred (some []))∧mark=[{ target:=.collected w.heap.size,args:=#[] }])):=by
 cases ro with
 | some l =>
  obtain⟨rc0,h0⟩:=hro l rfl;refine⟨w,[],{ state:=.ready,pending:=none,fn,tmps:=t,params:=ps,assign:=as,body:=bd,defers:=rc0.defers },?_,rfl,rfl,rfl,rfl,rfl,rfl,.inl ⟨l,rfl,rfl,rfl⟩⟩
  simp_all [Instr.enterLoop,yT]
 | none =>
  refine⟨w.alloc (.deferred (some [])),_,{ state:=.ready,pending:=none,fn,tmps:=t,params:=ps,assign:=as,body:=bd,defers:=w.heap.size },?_,rfl,rfl,rfl,rfl,rfl,rfl,.inr ⟨rfl,rfl,rfl⟩⟩;simp[Instr.enterLoop]
end
section
variable {P:Program}{g:Gh}{w:World}{t:F_}{O:Nat->Nat}{st st':St}{a:AV}{o:ct}{r:dz}
def S.otherG {w':World}{b:Nat}(s:S P g w st t O) (hx:bI g w g w' fun x=>x=b) (hO:O b=0):S P g w' st t O:=by
 obtain⟨Oe,Oh,re,rh,ho⟩:=s.parts;have re':=kx.ext hx re (fun y hy e=>by simp_all);have rh':Bt P g w' st.hs.heap Oh:=rh.imp' fun k v Q _ hQ q=>q.ext0 hx (fun y hy e=>by grind)
 exact⟨s.se,s.sh,⟨Oe,Oh,re',rh',ho⟩,s.le,fun b hb=>aZ (s.hi b hb) hx.size,s.fresh,fun b o h=>aZ (s.pmlt b o h) hx.size⟩
def S.endLoop {e:aV}{hs:HS}(s:S P g w ⟨e,hs⟩ t O) {id:Nat}{snap:aV}{ps:C_}{as bd:VC}{pend:BH_}(hg:get hs.heap id=some (.loop snap ps as bd false pend)) {b:Nat}(hob:g.obj id=some b) :
  ∃ w' O',(Instr.endLoop b).run P w=.ok (pend.bind mF) w'∧S P g w' ⟨e,⟨del hs.heap id,hs.next⟩⟩ t O'∧bI g w g w' (fun x=>x=b)∧∀ x,O' x<=O x:=by
 obtain⟨Oe,Oh,re,rh,ho⟩:=s.parts;obtain⟨O1,O2,q,r2,hs2⟩:=RL.take rh hg;obtain⟨b',rc,h1,h2,h3,h4,h5,h6,h7,h8,h9,h10,h11⟩:=q;rw[hob]at h1;simp only[ae]at h1;subst h1;have hle2:∀ x,Oe x+O2 x<=O x:=fun x=>by grind
 have s2:S P g w ⟨e,⟨del hs.heap id,hs.next⟩⟩ t (fun x=>Oe x+O2 x) :=
  ⟨s.se,s.sh.del id,⟨Oe,O2,re,r2,fun _=>rfl⟩,fun x=>aM (hle2 x) (s.le x),fun x hx=>s.hi x d_,s.fresh,s.pmlt⟩
 have hx:bI g w g (setBlk w b (.loop { rc with state:=.exhausted })) fun x=>x=b:=bI.loopBlk h2
 refine⟨setBlk w b (.loop { rc with state:=.exhausted }),_,?_,s2.otherG hx ?_,hx,hle2⟩
 .have hb:(rc.state == LoopState.busy)=false:=by
   grind
  simp_all [Instr.endLoop,yT,K4]
 .have:=h11 b;rw[Ar]at this;have:=hs2 b;have:=ho b;have:=s.le b;omega
def ahZ (hr:iL P r) {f:Rd}{x:Operand}{ps:C_}{as bd:VC}{c d:Code}(h:Dx r f ps as bd st=some (o,st')) (hf:cA f x=true)
  (hps:∀ p∈ps,p<t.size) (ha:Mt P t.size as c) (hb:Mt P t.size bd d) (s:S P g w st t O) (ro:I_) (ds:List Deferred) (hro:Ec w ro) :
  (Code.rangeFunc x ps.toArray c d).wpIn (FR ro) 0 P (co P g w t O ds ro o st') ⟨t,ds⟩ w:=by
 unfold Dx at h;split at h
 .rename_i gf first caps e hrd
  split at h
  .rename_i v hs hcall;split at h
   .rename_i snap2 ps2 as2 bd2 pend hget;obtain⟨Of,O1,rf,s1,l1⟩:=s.rd hf hrd;simp only[RV]at rf;obtain⟨⟨xs,ys,hev,r1,r2⟩,_⟩:=rf;have l1':∀ b,O1 b<=O b:=fun b=>by simp_all
    refine wpIn_rangeFunc fun fn hF=>?_
    obtain⟨w1,mark,rc,hen,e1,e2,e3,e4,e5,e6,hmark⟩:=adI (P:=P) (t:=t) hro fn ps.toArray c d;have hx1:bI g w g w1 fun _=>False:=by
     rcases hmark with ⟨_,_,rfl,_⟩ | ⟨_,rfl,_⟩
     .exact .refl _ _ _
     .exact bI.alloc s.pmlt _ _
    have sw1:S P g w1 ⟨e,st.hs⟩ t O1:=s1.extF hx1 rfl fun b o h=>aZ (s.pmlt b o h) hx1.size
    have hfresh:=sw1.fresh st.hs.next (ai _)
    have hx0:bI g w1 (g.add st.hs.next w1.heap.size 0 0 0) (w1.alloc (.loop rc)) fun _=>False:=(bI.alloc sw1.pmlt _ _).add hfresh _ _ _ _
    obtain⟨Oe1,Oh1,re1,rh1,ho1⟩:=sw1.parts;have hobj:(g.add st.hs.next w1.heap.size 0 0 0).obj st.hs.next=some w1.heap.size:=by simp[Gh.add]
    have hO1out:O1 w1.heap.size=0:=sw1.out (ai _);have hnew:=sw1.new (blk:=.loop rc) (o:=.loop (e.map fun kv=>(kv.1,share kv.2)) ps as bd false none) (base:=0) (esz:=0) (bsz:=0) (O1:=one w1.heap.size) (by
     simp only[jW];refine⟨w1.heap.size,rc,hobj,jM _ _,e1,e2,e3,u_,u_,ase sw1.se,?_,u_,fun _=>rfl⟩;rw[e6];exact kx.ext hx0 (aeJ re1) s_) (fun b=>by
      by_cases hb:b=w1.heap.size
      .simp_all
      .have:=sw1.le b;grind [one]) (fun b hb=>by grind [w6])
    obtain⟨s2,hx2⟩:=hnew;obtain⟨Oe,Oh,re,sh,ho⟩:=s2.split;obtain⟨hfn,hk⟩:=hr hcall;have hxa:=hx1.trans hx0 fun _ _ h=>h
    have r1':=RVs.ext hxa _ _ _ r1 s_;have r2':=RVs.ext hxa _ _ _ r2 s_;have ry:RVs (g.add st.hs.next w1.heap.size 0 0 0) (w1.alloc (.loop rc)) [.yield st.hs.next] [.func (.yield w1.heap.size) #[] #[]] zero:=by
     simp only[RVs,RV];exact⟨_,[],zero,zero,rfl,⟨⟨w1.heap.size,hobj,rfl⟩,fun _=>rfl⟩,⟨rfl,fun _=>rfl⟩,fun _=>rfl⟩
    have hrv:RVs (g.add st.hs.next w1.heap.size 0 0 0) (w1.alloc (.loop rc)) (first++([.yield st.hs.next]++caps)) (xs.toList++([.func (.yield w1.heap.size) #[] #[]]++ys.toList)) zero:=by
     have:=r1'.join (ry.join r2');omega
    have hle:∀ b,zero b+Oh b<=1:=fun b=>by have:=s2.le b;grind
    have hk:=hk hrv sh hle (fun b hb=>by simp at hb);generalize hargs:(xs.toList++([Value.func (.yield w1.heap.size) #[] #[]]++ys.toList)).toArray=args at hk;refine⟨w1.heap.size,mark,w1.alloc (.loop rc),{ target:=.fn (.func gf) ys,args:=xs++#[.func (.yield w1.heap.size) #[] #[]] },w1.alloc (.loop rc),gf,
     args,w1.alloc (.loop rc),hen,?_,fun _ _=>trivial,?_,fun h=>by grind [Fence.wide],Nn (hk.mono fun en w3 hp=>?_)⟩
    .have hevx:(⟨t,ds⟩:Act).eval x=.func (.func gf) xs ys:=by simp_all [Hs]
     have hconst:∀ u:Value,(⟨t,ds⟩:Act).eval (.const u)=u:=fun _=>rfl
     simp_all [resolve,Deferred.ofValue]
    .simp only[invoke];rw[w9 hfn,<-hargs]
     congr 2
     grind
    .cases en with
     | panicked _=>exact hp.elim
     | outgrown=>exact hp.elim
     | returned y =>
      obtain⟨g2,Oa,O3,k⟩:=Ho (hs:=hs) (Ov:=zero) s2.se re (fun b=>by simp_all) s2 hp;have hob2:g2.obj st.hs.next=some w1.heap.size:=(k.ext.obj _ _ hobj).1;obtain⟨w4,O4,hend,s4,hx4,l4⟩:=k.st.endLoop hget hob2;have hlo:w.heap.size<=w1.heap.size:=hx1.size;have G:gG P g w t O ⟨e,⟨del hs.heap st.hs.next,hs.next⟩⟩ t w4 g2 O4:=by
       refine⟨s4,(((hxa.mono (T:=fun b=>O b≠0) fun _ _ h=>h.elim).trans k.ext fun b hb hq=>?_).trans hx4 fun b hb hq=>?_),fun b hb=>?_,rfl⟩
       .grind [one]
       .omega
       .have hb2:b<(w1.alloc (.loop rc)).heap.size:=aZ hb hxa.size
        grind [one,CH.old]
      have hM:jR w4 O4 w.heap.size mark∧(ro.isSome=true->mark=[]):=by
       rcases hmark with ⟨_,hl,_,rfl⟩ | ⟨hn,rfl,rfl⟩
       .exact⟨trivial,fun _=>rfl⟩
       .refine⟨⟨⟨w.heap.size,rfl,ai _,?_,?_,fun d hd=>by simp at hd⟩,trivial⟩,fun h=>by simp_all⟩
        .have hne:w.heap.size≠(w.alloc (.deferred (some []))).heap.size:=s_;have hlt:w.heap.size<((w.alloc (.deferred (some []))).alloc (.loop rc)).heap.size:=by simp;omega
         have hO1z:O1 w.heap.size=0:=s1.out (ai _);have hoz:one (w.alloc (.deferred (some []))).heap.size w.heap.size=0:=by simp[one]
         rw[(hx4.blk _ (aZ hlt k.ext.size) (fun h=>hne h)).1,(k.ext.blk _ hlt (fun h=>by
          omega)).1,rT s_,jM]
        .have hlt:w.heap.size<((w.alloc (.deferred (some []))).alloc (.loop rc)).heap.size:=by simp;omega
         have hO1z:O1 w.heap.size=0:=s1.out (ai _);have hoz:one (w.alloc (.deferred (some []))).heap.size w.heap.size=0:=by simp[one]
         grind [CH.old]
      have post:∀ out st'',st''=⟨e,⟨del hs.heap st.hs.next,hs.next⟩⟩->co P g w t O ds ro out st'' (Fk out) { tmps:=t,defers:=mark++ds } w4:=by
       rintro out _ rfl
       exact⟨rfl,g2,O4,mark,G,rfl,hM.1,hM.2⟩
      refine⟨pend.bind mF,w4,hend,?_⟩
      cases pend with
      | none =>
       obtain⟨rfl,rfl⟩:=h;exact post .normal _ rfl
      | some out =>
       simp only[ae,aP]at h;obtain⟨rfl,rfl⟩:=h
       cases out with
       | normal=>exact post .normal _ rfl
       | exit i=>exact wpIn_exit (post (.exit i) _ rfl)
       | goto i=>exact wpIn_goto (post (.goto i) _ rfl)
       | ret=>exact wpIn_ret (post .ret _ rfl)
   simp_all
  simp_all
 simp_all
end
abbrev qE:=@Option.isNone_iff_eq_none
section
variable {P:Program}{g:Gh}{w:World}{t:F_}{O:Nat->Nat}{st st':St}{a:AV}{o:Oper}{r:dz}
def ayy {ro:I_}(hr:iL P r) (hcs:jf P r) {v:n9}(s:S P g w st t O) (h:db v r st=some (a,st')) (hc:bF P v o.op=true):OpW ro P g w t O st' a o:=by
 cases v with
 | mov x=>exact(ayt s h hc).opW
 | pick c x y=>exact(awB s h hc).opW
 | alloc zs=>exact(arU s h hc).opW
 | box x=>exact(ayw s h hc).opW
 | build zs ps=>exact(aq6 s h hc).opW
 | mks m ps=>exact(ayG s h hc).opW
 | mksv m ps=>exact(avE s h hc).opW
 | ld n k p=>exact(aBd s h hc).opW
 | st n p x=>exact(azV s h hc).opW
 | nilck x=>exact(ar5 s h hc).opW
 | bin op x y=>exact(awZ s h hc).opW
 | binb neg x y=>exact(av6 s h hc).opW
 | bina neg ks x y=>exact(avi s h hc).opW
 | un op x=>exact(aAF s h hc).opW
 | conv k x=>exact(auv s h hc).opW
 | toStr x=>exact(ari s h hc).opW
 | mkfn f a c=>exact(awm s h hc).opW
 | mkslice z l c=>exact(Zk s h hc).opW
 | slice m x lo hi mx=>exact(asV s h hc).opW
 | slarr n x lo hi mx=>exact(arA s h hc).opW
 | fa off p=>exact(aAZ s h hc).opW
 | fld off n x=>exact(axn s h hc).opW
 | ia n x i=>exact(aAd s h hc).opW
 | iarr l n p i=>exact(aum s h hc).opW
 | ix l n ag x i=>exact(aAj s h hc).opW
 | ixs x i=>exact(ayN s h hc).opW
 | idxb x c=>exact(auo s h hc).opW
 | ext j mv i=>exact(ayB s h hc).opW
 | len x=>exact(ayc s h hc).opW
 | cap x=>exact(axu s h hc).opW
 | app m x y=>exact(aw9 s h hc).opW
 | appz z x n=>exact(awG s h hc).opW
 | cpy m x y=>exact(ayr s h hc).opW
 | clr z x=>exact(axF s h hc).opW
 | minmax b xs=>exact(aog s h hc).opW
 | call f args=>exact aur hr s h hc
 | calli f args=>exact aqU hr s h hc
 | callv f args=>exact art hr hcs s h hc
 | bad=>grind [db,amQ]
 | kill is=>simp[bF]at hc
 | free i=>simp[bF]at hc
 | wk i m=>simp[bF]at hc
 | frz i=>simp[bF]at hc
 | frzC i offs=>simp[bF]at hc
def P3 {v:n9}{op:Op}(hb:v≠.bad) (h:bF P v op=true):∀ c,op≠.defer c:=by
 rintro c rfl
 cases v<;>first | exact hb rfl | (simp[bF]at h)
def Tb {i:VI}{st2:St}(h:gj r i st=some st2):∃ v st1,db i.op r st=some (v,st1)∧st2=cJ i.dst (firm (dQ i.th v st1.hs).1) ⟨st1.env,(dQ i.th v st1.hs).2⟩:=by
 unfold gj at h;split at h
 .rename_i v st1 hv;split at h
  .rename_i hth;simp only[ae]at h;exact⟨v,st1,hv,by rw[hth];exact h.symm⟩
  grind
 simp_all
theorem agr (t:F_) (dst:I_) (x:Value):∀ k,dst≠some k->(wG t dst x)[k]?=t[k]?:=by
 intro k hk
 cases dst<;>grind [Act.put]
def alb {ro:I_}(hr:iL P r) (hcs:jf P r) {n:Nat}{ops:Array Oper}{i:VI}{st2:St}(hn:t.size=n) (s:S P g w st t O) (h:cU r i st=some st2) (hc:CP P n ops i o=true)
  (ds:List Deferred) (next:Act->World->Prop) (Q:Exit->Act->World->Prop) (hk:∀ t' w' g' O',gG P g w t O st2 t' w' g' O'->(∀ k,i.dst≠some k->t'[k]?=t[k]?)->next ⟨t',ds⟩ w') :
  if Region.wanted o (yielded ops t) then o.wpIn (FR ro) 0 P ⟨t,ds⟩ w next Q else (∀ f,o.about P w (⟨t,ds⟩:Act).eval=some f->(FR ro).fn f)∧next (Act.put ⟨t,ds⟩ o.dst undef) w:=by
 simp only[CP,af]at hc;obtain⟨⟨hdst,hgd⟩,hop⟩:=hc;have hd:i.dst=o.dst∧∀ d,i.dst=some d->d<t.size:=by
  grind [Nat.beq_eq,Nat.blt_eq]
 have go:gj r i st=some st2->o.wpIn (FR ro) 0 P ⟨t,ds⟩ w next Q:=by
  intro hg;obtain⟨v,st1,hv,rfl⟩:=Tb hg;have hb:i.op≠.bad:=by intro e;simp_all [db,amQ]
  refine⟨fun _ _=>trivial,?_⟩;rw[M8 _ _ (P3 hb hop)];refine ayy (ro:=ro) hr hcs s hv hop ds next Q fun x w' g' Oa O' k=>?_
  obtain⟨g2,O2,G⟩:=afM k hd.2 i.th
  grind [Zj,agr]
 have no:st2=cJ i.dst (.tup []) st->(∀ f,o.about P w (⟨t,ds⟩:Act).eval=some f->(FR ro).fn f)∧next (Act.put ⟨t,ds⟩ o.dst undef) w:=by
  rintro rfl
  refine⟨fun _ _=>trivial,?_⟩;have ha:CH P g w t O st (.tup []) undef w g zero O:=⟨by grind [RV,RVs,undef],s,.refl _ _ _,fun b=>by have:=s.le b;simp_all,fun b _=>by simp,fun b hb=>by simp at hb⟩
  obtain⟨g2,O2,G⟩:=afM ha hd.2 [];rw[Zj,<-hd.1];exact hk _ _ _ _ G (agr _ _ _)
 grind [anP,cU]
def apl {ro:I_}(hr:iL P r) (hcs:jf P r) {n:Nat}{ops:Array Oper}{i:VI}{st2:St}(hn:t.size=n) (s:S P g w st t O) (h:cU r i st=some st2) (hc:CP P n ops i o=true)
  (ds:List Deferred) (next:Act->World->Prop) (Q:Exit->Act->World->Prop) (hk:∀ t' w' g' O',gG P g w t O st2 t' w' g' O'->next ⟨t',ds⟩ w') :
  if Region.wanted o (yielded ops t) then o.wpIn (FR ro) 0 P ⟨t,ds⟩ w next Q else (∀ f,o.about P w (⟨t,ds⟩:Act).eval=some f->(FR ro).fn f)∧next (Act.put ⟨t,ds⟩ o.dst undef) w:=alb hr hcs hn s h hc ds next Q fun t' w' g' O' G _=>hk t' w' g' O' G
def acl {i:VI}{st2:St}(s:S P g w st t O) (hg:LM i=true) (h:cU r i st=some st2):∃ g' O',gG P g w t O st2 t w g' O':=by
 simp only[LM,af]at hg;obtain⟨⟨⟨h1,h2⟩,h3⟩,h4⟩:=hg;have hd:i.dst=none:=qE.1 h1;have hgd:i.guard=none:=qE.1 h2;have hth:i.th=[]:=u_;unfold cU at h;rw[hgd]at h;obtain⟨v,st1,hv,rfl⟩:=Tb h;rw[hd,hth];have fin:LZ P g w t O st1->∃ g' O',gG P g w t O (cJ none (firm (dQ [] v st1.hs).1) ⟨st1.env,(dQ [] v st1.hs).2⟩) t w g' O':=by
  rintro ⟨g',O',s',hx,hle⟩
  exact⟨g',O',s',hx,fun b _=>hle b,rfl⟩
 split at h4
 .rename_i is e;rw[e]at hv;exact fin (awo s hv)
 .rename_i j e;rw[e]at hv;exact fin (avD s hv)
 .rename_i j m e;rw[e]at hv;exact fin (aAX s hv)
 .rename_i j e;rw[e]at hv;exact fin (axS s hv)
 .rename_i j offs e;rw[e]at hv;exact fin (awn s hv)
 simp_all
def aaF {ro:I_}(hr:iL P r) (hcs:jf P r) {n:Nat}{ops:Array Oper}{Q:Exit->Act->World->Prop}(ds:List Deferred) :
  ∀ {l:T_}{os:List Oper}{k:Nat},ops.toList.drop k=os->H0 P n ops l os=true->∀ {g:Gh}{w:World}{t:F_}{O:Nat->Nat}{st st':St},t.size=n->S P g w st t O->kL r l st=some st'->
   (∀ w' t' g' O',gG P g w t O st' t' w' g' O'->Q .normal ⟨t',ds⟩ w')->wpOpsIn (FR ro) 0 P ops Q (List.range' k os.length) ⟨t,ds⟩ w
 | [],os,k,hos,hc,g,w,t,O,st,st',hn,s,h,hq=>by
  cases os with
  | nil =>
   simp only[kL,ae]at h;subst h;exact hq _ _ _ _ (gG.refl s)
  | cons o os=>simp[H0]at hc
 | v::l,os,k,hos,hc,g,w,t,O,st,st',hn,s,h,hq=>by
  simp only[kL]at h;split at h
  .rename_i st1 hv;simp only[H0]at hc;split at hc
   .rename_i hgh;obtain⟨g1,O1,G⟩:=acl s hgh hv;exact aaF hr hcs ds hos hc o_ G.st h fun w' t' g' O' G2=>hq _ _ _ _ (G.trans G2)
   .cases os with
    | nil=>simp at hc
    | cons o os =>
     simp only[af]at hc;obtain⟨hvi,hrest⟩:=hc;have hk:ops[k]?=some o:=by
      have:=bl (fun l=>l[0]?) hos
      grind
     have hos':ops.toList.drop (k+1)=os:=by
      have:=bl (fun l=>l.drop 1) hos
      grind [List.drop_drop]
     have key:=apl (ro:=ro) hr hcs hn s hv hvi ds (wpOpsIn (FR ro) 0 P ops Q (List.range' (k+1) os.length)) Q fun t' w' g' O' G =>
      aaF hr hcs ds hos' hrest (by rw[G.size,hn]) G.st h fun w2 t2 g2 O2 G2=>hq _ _ _ _ (G.trans G2)
     grind [List.range'_succ,wpOpsIn]
  simp_all
end
def jT:Obj->Obj->Prop
 | .cells a,.cells b=>shareAll a=shareAll b
 | o,o'=>o=o'
def dw (h h':ak):Prop:=∀ id o,get h id=some o->∃ o',get h' id=some o'∧jT o o'
theorem jT.refl (o:Obj):jT o o:=by cases o<;>simp[jT]
theorem dw.refl (h:ak):dw h h:=fun _ o ho=>⟨o,ho,.refl o⟩
theorem dw.arr {h h':ak}(H:dw h h') {id m:Nat}{xs:E_}(g:get h id=some (.arr m xs)):get h' id=some (.arr m xs):=by
 obtain⟨o,h1,h2⟩:=H id _ g
 grind [jT]
theorem dw.cells {h h':ak}(H:dw h h') {id:Nat}{cs:D_}(g:get h id=some (.cells cs)):∃ cs',get h' id=some (.cells cs')∧shareAll cs=shareAll cs':=by
 obtain⟨o,h1,h2⟩:=H id _ g
 cases o<;>simp[jT]at h2
 simp_all
def fe (f:St->L_) (R M:C_):Prop :=
 ∀ e hs v st1,f ⟨e,hs⟩=some (v,st1)->st1.hs=hs∧(cO e->cO st1.env)∧(∀ k,k∉M->get st1.env k=get e k)∧
  ∀ e' hs',(∀ k∈R,get e' k=get e k)->dw hs.heap hs'.heap->∃ e1',f ⟨e',hs'⟩=some (v,⟨e1',hs'⟩)∧(∀ k,k∉M->get e1' k=get e' k)∧∀ k∈M,get e1' k=get st1.env k
theorem HE {α:Type}(l:List (Nat×α)) (i k:Nat):get (del l i) k=if k=i then none else get l k:=by
 induction l<;>grind [aaj,AM,oh,iW]
theorem fD {α:Type}(l:List (Nat×α)) (i k:Nat) (x:α):get (put l i x) k=if k=i then some x else get l k:=by
 induction l<;>grind [aaW,iW,wU]
theorem uY {α:Type}:∀ {a b:List (Nat×α)},cO a->cO b->(∀ k,get a k=get b k)->a=b
 | [],[],_,_,_=>rfl
 | [],(k,v)::b,_,_,h=>by have:=h k;grind [iW,AM]
 | (k,v)::a,[],_,_,h=>by have:=h k;grind [iW,AM]
 | (k,v)::a,(j,u)::b,ha,hb,h=>by
  have ha':=bR.1 ha;have hb':=bR.1 hb;have none_of:∀ {l:List (Nat×α)}{i:Nat},(∀ p∈l,GN i p.1)->get l i=none:=by
   intro l i hl
   induction l with
   | nil=>rfl
   | cons p l ih =>
    grind [iW]
  have hkj:k=j:=by
   rcases avW k j with hlt | e | hlt
   .have h1:=h k
    grind [iW]
   .exact e
   .have h1:=h j
    grind [iW]
  subst hkj;have hvu:v=u:=by have h1:=h k;grind [iW]
  subst hvu;rw[uY ha'.2 hb'.2 fun i=>?_];by_cases e:k=i
  .grind
  .have h1:=h i
   grind [iW]
def Q6 {e e1:aV}{x:Rd}{v:AV}(h:rd e x=some (v,e1)):(cO e->cO e1)∧(∀ k,get e1 k=if k∈kB x then none else get e k)∧
  ∀ e',(∀ k∈og x,get e' k=get e k)->∃ e1',rd e' x=some (v,e1')∧∀ k,get e1' k=if k∈kB x then none else get e' k:=by
 cases x<;>grind [rd,kB,og,cO.del,HE]
def Kc:∀ {rs:V_}{e e1:aV}{vs:D_},rdAll e rs=some (vs,e1)->(cO e->cO e1)∧(∀ k,get e1 k=if k∈bC rs then none else get e k)∧
  ∀ e',(∀ k∈bV rs,get e' k=get e k)->∃ e1',rdAll e' rs=some (vs,e1')∧∀ k,get e1' k=if k∈bC rs then none else get e' k
 | [],e,e1,vs,h=>by
  grind [rdAll,bC]
 | x::rs,e,e1,vs,h=>by
  simp only[rdAll]at h;split at h
  .simp at h
  .rename_i v e2 h1;split at h
   .simp at h
   .rename_i us e3 h2;obtain⟨rfl,rfl⟩:=h;obtain⟨s1,g1,l1⟩:=Q6 h1;obtain⟨s2,g2,l2⟩:=Kc h2;have hm:∀ k,(k∈bC (x::rs))↔(k∈kB x∨k∈bC rs):=fun k=>by simp[bC]
    refine⟨fun hs=>s2 (s1 hs),fun k=>?_,fun e' he=>?_⟩
    .grind
    .obtain⟨e2',h1',g1'⟩:=l1 e' fun k hk=>he k (by grind [bV])
     obtain⟨e3',h2',g2'⟩:=l2 e2' fun k hk=>by
      grind [bV]
     refine⟨e3',by grind [rdAll],fun k=>?_⟩
     grind
def fe.rds {f:St->L_}{rs:V_}(F:D_->HS->M_)
  (mono:∀ vs hs hs' v,dw hs.heap hs'.heap->F vs hs=some v->F vs hs'=some v)
  (h:∀ e hs,f ⟨e,hs⟩=match rdAll e rs with | none=>none | some (vs,e1)=>match F vs hs with | none=>none | some v=>some (v,⟨e1,hs⟩)):fe f (bV rs) (bC rs):=by
 intro e hs v st1 hf;rw[h]at hf;split at hf
 .simp at hf
 .rename_i vs e1 hr;split at hf
  .simp at hf
  .obtain⟨rfl,rfl⟩:=hf;obtain⟨s1,g1,l1⟩:=Kc hr;refine⟨rfl,s1,fun k hk=>by simp_all,fun e' hs' he hle=>?_⟩;obtain⟨e1',hr',g1'⟩:=l1 e' he;exact⟨e1',d_,fun k hk=>by simp_all,fun k hk=>by simp_all⟩
theorem j7:∀ (cs:D_),shareAll cs=cs.map share
 | []=>rfl
 | c::r=>by simp only[pD,j7 r,bZ]
def aoS (v:AV):Fp (share v)=Fp v:=by
 cases v<;>try rfl
 rename_i p m xs
 cases p<;>rfl
theorem Yw:∀ (cs:D_),lZ (shareAll cs)=lZ cs
 | []=>rfl
 | c::r=>by simp only[pD,lZ,aoS,Yw r]
theorem apx {a b:D_}(h:shareAll a=shareAll b) {i:Nat}{v:AV}(g:a[i]?=some v):∃ u,b[i]?=some u∧share u=share v:=by
 rw[j7,j7]at h;have:=bl (fun l=>l[i]?) h
 grind
theorem apI {a b:D_}(h:shareAll a=shareAll b):a.length=b.length:=by
 rw[j7,j7]at h;simpa using bl List.length h
theorem an4 {a b:D_}(h:shareAll a=shareAll b) (i n:Nat):shareAll (sub a i n)=shareAll (sub b i n):=by
 grind [j7,sub,List.map_take,List.map_drop]
theorem dw.load {h h':ak}(H:dw h h') {n:I_}{p u:AV}{k:ak}(hl:loadAt h n 0 p=some (u,k)):∃ k',loadAt h' n 0 p=some (u,k'):=by
 cases p<;>simp only[loadAt,reduceCtorEq]at hl⊢
 .split at hl<;>grind [cells,apx,apI,an4]
 all_goals grind [arr]
theorem dw.objElems {h h':ak}(H:dw h h') {id:Nat}{xs:E_}(g:objElems h id=some xs):objElems h' id=some xs:=by
 grind [Vm.objElems,arr,cells,Yw]
theorem dw.elems {h h':ak}(H:dw h h') {v:AV}{xs:E_}(g:elems h v=some xs):elems h' v=some xs:=by
 unfold Go.Vm.elems at g⊢
 grind [objElems]
theorem dw.viewOne {h h':ak}(H:dw h h') {v u:AV}(g:viewOne h v=some u):viewOne h' v=some u:=by
 unfold Go.Vm.viewOne at g⊢
 grind [elems]
theorem dw.viewAll {h h':ak}(H:dw h h'):∀ {vs us:D_},viewAll h vs=some us->viewAll h' vs=some us
 | [],_,g=>g
 | v::r,us,g=>by
  simp only[Go.Vm.viewAll]at g⊢;split at g
  .simp at g
  .rename_i x hx;split at g
   .simp at g
   .rename_i xs hxs;simp only[H.viewOne hx,H.viewAll hxs];exact g
def dw.viewArg {h h':ak}(H:dw h h') {v u:AV}(g:viewArg h v=some u):viewArg h' v=some u:=by
 unfold Go.Vm.viewArg at g⊢
 grind [viewAll,viewOne]
theorem dw.viewArgs {h h':ak}(H:dw h h'):∀ {vs us:D_},viewArgs h vs=some us->viewArgs h' vs=some us
 | [],_,g=>g
 | v::r,us,g=>by
  simp only[Go.Vm.viewArgs]at g⊢;split at g
  .simp at g
  .rename_i x hx;split at g
   .simp at g
   .rename_i xs hxs;simp only[H.viewArg hx,H.viewArgs hxs];exact g
def dw.call {r:dz}{f:FuncId}{vs:D_}{h h':ak}(H:dw h h') {v:AV}(g:eD r f vs h=some v):eD r f vs h'=some v:=by
 grind [eD,viewArgs]
theorem dw.okSl {h h':ak}(H:dw h h') {m:Nat}{v:AV}(g:okSl h m v=true):okSl h' m v=true:=by
 unfold Go.Vm.okSl at g⊢
 grind [arr,cells]
abbrev aQ:=@List.cons_append
section
variable {r:dz}
def auY (x:Rd):fe (Tt x) (bV [x]) (bC [x]):=by
 refine fe.rds (fun vs _=>match vs with | [v]=>some v | _=>none) (fun _ _ _ _ _ h=>h) fun e hs=>?_
 grind [Tt,rdAll]
def anG (zs:D_) (ps:AC_):fe (Ex zs ps) (bV (sJ ps)) (bC (sJ ps)):=by
 refine fe.rds (fun vs _=>match dZ zs (uf ps vs) with | some cs=>some (.agg cs) | none=>none) (fun _ _ _ _ _ h=>h) fun e hs=>?_
 grind [Ex]
def aut (m:Nat) (ps:V_):fe (Nx m ps) (bV ps) (bC ps):=by
 refine fe.rds (fun vs _=>match jL m vs with | some xs=>some (.own true m xs) | none=>none) (fun _ _ _ _ _ h=>h) fun e hs=>?_
 grind [Nx]
def azF {h:ak}{n:I_}{p v:AV}{h':ak}(hl:loadAt h n 0 p=some (v,h')):h'=h:=by
 cases p<;>simp only[loadAt,reduceCtorEq]at hl
 all_goals grind
def ldV (n:I_) (vs:D_) (hs:HS):M_ :=
 match vs with
 | [v]=>(match loadAt hs.heap n 0 v with | some (u,_)=>some u | none=>none)
 | _=>none
def auR {n:I_}(vs:D_) (hs hs':HS) (v:AV) (H:dw hs.heap hs'.heap) (h:ldV n vs hs=some v):ldV n vs hs'=some v:=by
 unfold ldV at h⊢
 grind [dw.load]
def ayo (n:I_) (p:Rd):fe (D5 n 0 p) (bV [p]) (bC [p]):=by
 refine fe.rds (ldV n) auR fun e hs=>?_
 simp only[D5,rdAll]
 cases rd e p with
 | none=>rfl
 | some q =>
  obtain⟨v,e1⟩:=q
  cases hl:loadAt hs.heap n 0 v with
  | none=>simp only[ldV,hl]
  | some q=>have:=azF hl;simp_all [ldV]
def anX (x:Rd):fe (Hu x) (bV [x]) (bC [x]):=by
 refine fe.rds (fun vs _=>match vs with | [v]=>(match v with | .ptr .. | .pel .. | .pim .. | .fn .. | .yield ..=>some v | _=>none) | _=>none) (fun _ _ _ _ _ h=>h) fun e hs=>?_
 grind [Hu,rdAll]
def aww (op:BinOp) (x y:Rd):fe (Pb op x y) (bV [x,y]) (bC [x,y]):=by
 refine fe.rds (fun vs _=>match vs with | [a,b]=>dA op a b | _=>none) (fun _ _ _ _ _ h=>h) fun e hs=>?_
 grind [Pb,Th,rdAll]
def arq (neg:Bool) (x y:Rd):fe (LI neg x y) (bV [x,y]) (bC [x,y]):=by
 refine fe.rds (fun vs _=>match vs with | [a,b]=>(match a,b with | .d (.bool a),.d (.bool b)=>some (.bool (match neg with | true=>!(a == b) | false=>a == b)) | _,_=>none) | _=>none) (fun _ _ _ _ _ h=>h) fun e hs=>?_
 grind [LI,rdAll]
def asl (neg:Bool) (ks:U_) (x y:Rd):fe (Mo neg ks x y) (bV [x,y]) (bC [x,y]):=by
 refine fe.rds (fun vs _=>match vs with | [a,b]=>(match a,b with | .agg a,.agg b=>(match bx ks a b with | some t=>some (.bool (match neg with | true=>!t | false=>t)) | none=>none) | _,_=>none) | _=>none) (fun _ _ _ _ _ h=>h) fun e hs=>?_
 simp only[Mo,rdAll]
 cases rd e x<;>grind
def ayM (op:UnOp) (x:Rd):fe (ZP op x) (bV [x]) (bC [x]):=by
 refine fe.rds (fun vs _=>match vs with | [a]=>aad op a | _=>none) (fun _ _ _ _ _ h=>h) fun e hs=>?_
 grind [ZP,rdAll]
def asJ (k:IntKind) (x:Rd):fe (I3 k x) (bV [x]) (bC [x]):=by
 refine fe.rds (fun vs _=>match vs with | [.d (.int _ n)]=>some (.int k (wr k n)) | _=>none) (fun _ _ _ _ _ h=>h) fun e hs=>?_
 grind [I3,rdAll]
def aoM (x:Rd):fe (LH x) (bV [x]) (bC [x]):=by
 refine fe.rds (fun vs hs=>match vs with | [v]=>(match elems hs.heap v with | some xs=>(match uR xs with | some s=>some (.d (.str s)) | none=>none) | none=>none) | _=>none) (fun vs hs hs' v H h=>?_) fun e hs=>?_
 all_goals grind [dw.elems,LH,rdAll]
def aix (z:W_) (x y:Rd):fe (ml z x y) (bV [x,y]) (bC [x,y]):=by
 refine fe.rds (fun vs _=>match vs with | [n,c]=>(match ef c aW with | some c=>(match ef n c with | some n=>some (.own true z.length (List.replicate n z)) | none=>none) | none=>none) | _=>none) (fun _ _ _ _ _ h=>h) fun e hs=>?_
 grind [ml,rdAll]
def axy (off:Nat) (p:Rd):fe (abe off p) (bV [p]) (bC [p]):=by
 refine fe.rds (fun vs _=>match vs with | [a]=>ir off a | _=>none) (fun _ _ _ _ _ h=>h) fun e hs=>?_
 grind [abe,rdAll]
def ava (off:Nat) (n:I_) (x:Rd):fe (Ne off n x) (bV [x]) (bC [x]):=by
 refine fe.rds (fun vs _=>match vs with | [.agg cs]=>E5 n cs off | _=>none) (fun _ _ _ _ _ h=>h) fun e hs=>?_
 grind [Ne,rdAll]
def Yf (n k:Nat) (o:AE_):M_ :=
 match o with
 | some xs=>match xs[k]? with
  | some x=>match Nat.beq x.length n with
   | true=>some (.pim x 0)
   | false=>none
  | none=>none
 | none=>none
def ahs (n:Nat) (h:ak) (k:Nat) (v:AV):M_ :=
 match v with
 | .sl id off len=>match Nat.ble len k with
  | true=>none
  | false=>match get h id with
   | some (.arr m _)=>match Nat.beq m n with
    | true=>some (.pel id (off+k) 0)
    | false=>none
   | some (.cells _)=>match Nat.beq n 1 with
    | true=>some (.ptr id (off+k))
    | false=>none
   | _=>none
 | v=>Yf n k (elems h v)
theorem auB {n k:Nat}{h h':ak}(H:dw h h') {v u:AV}(g:ahs n h k v=some u):ahs n h' k v=some u:=by
 have other:Yf n k (elems h v)=some u->Yf n k (elems h' v)=some u:=by
  intro g
  cases hx:elems h v<;>grind [Yf,dw.elems]
 cases v<;>simp only[ahs]at g⊢<;>try exact other g
 grind [dw.arr,dw.cells]
def aze (n:Nat) (x i:Rd):fe (afN n x i) (bV [x,i]) (bC [x,i]):=by
 refine fe.rds (fun vs hs=>match vs with | [v,i]=>(match qV i with | some k=>ahs n hs.heap k v | none=>none) | _=>none) (fun vs hs hs' v H h=>?_) fun e hs=>?_
 .grind [auB]
 simp only[afN,rdAll]
 cases rd e x with
 | none=>rfl
 | some q =>
  obtain⟨a,e1⟩:=q;simp only
  cases rd e1 i<;>grind [Yf,ahs]
def arb (len n:Nat) (p i:Rd):fe (Mg len n p i) (bV [p,i]) (bC [p,i]):=by
 refine fe.rds (fun vs _=>match vs with | [p,i]=>(match qV i with | some i=>(match Nat.ble len i with | true=>none | false=>ir (i*n) p) | none=>none) | _=>none) (fun _ _ _ _ _ h=>h) fun e hs=>?_
 simp only[Mg,rdAll]
 grind
def axV (len n:Nat) (ag:Bool) (x i:Rd):fe (Vz len n ag x i) (bV [x,i]) (bC [x,i]):=by
 refine fe.rds (fun vs _=>match vs with | [.agg cs,i]=>(match qV i with | some i=>(match Nat.ble len i with | true=>none | false=>E5 (ahN ag n) cs (i*n)) | none=>none) | _=>none) (fun _ _ _ _ _ h=>h) fun e hs=>?_
 simp only[Vz,rdAll]
 cases rd e x with
 | none=>rfl
 | some q =>
  obtain⟨a,e1⟩:=q;simp only
  cases hi:rd e1 i<;>grind
def avC (x i:Rd):fe (NO x i) (bV [x,i]) (bC [x,i]):=by
 refine fe.rds (fun vs _=>match vs with | [.d (.str s),i]=>(match qV i with | some i=>(match s[i]? with | some b=>some (.int .u8 (.ofNat b.toNat)) | none=>none) | none=>none) | _=>none) (fun _ _ _ _ _ h=>h) fun e hs=>?_
 grind [NO,rdAll]
def avw (x:Rd):fe (Tj x) (bV [x]) (bC [x]):=by
 refine fe.rds (fun vs _=>match vs with | [a]=>(match lenOf a with | some n=>some (.int .i64 (.ofNat n)) | none=>none) | _=>none) (fun _ _ _ _ _ h=>h) fun e hs=>?_
 grind [Tj,rdAll]
def awe (x:Rd):fe (Nr x) (bV [x]) (bC [x]):=by
 refine fe.rds (fun vs _=>match vs with | [.nl]=>some (.int .i64 (.ofNat 0)) | _=>none) (fun _ _ _ _ _ h=>h) fun e hs=>?_
 grind [Nr,rdAll]
def ang (b:Bool) (xs:V_):fe (Az b xs) (bV xs) (bC xs):=by
 refine fe.rds (fun vs _=>match vs with | .d (.int k n)::vs=>CW b (.d (.int k n)) vs | _=>none) (fun _ _ _ _ _ h=>h) fun e hs=>?_
 grind [Az]
theorem acg (e:aV):∀ (a b:V_),rdAll e (a++b)=match rdAll e a with
  | none=>none
  | some (x,e1)=>match rdAll e1 b with
   | none=>none
   | some (y,e2)=>some (x++y,e2)
 | [],b=>by
  grind [rdAll]
 | r::a,b=>by
  simp only[aQ,rdAll]
  cases rd e r with
  | none=>rfl
  | some p =>
   obtain⟨v,e1⟩:=p;simp only[acg e1 a b]
   grind
theorem abD:∀ {rs:V_}{e e1:aV}{vs:D_},rdAll e rs=some (vs,e1)->vs.length=rs.length
 | [],e,e1,vs,h=>by grind [rdAll]
 | x::rs,e,e1,vs,h=>by
  simp only[rdAll]at h;split at h
  .simp at h
  .split at h
   .simp at h
   .rename_i h2;obtain⟨rfl,rfl⟩:=h;simp[abD h2]
def asK (f:FuncId) (first caps:V_):fe (Ip f first caps) (bV (first++caps)) (bC (first++caps)):=by
 refine fe.rds (fun vs _=>some (.fn f (shareAll (vs.take first.length)) (shareAll (vs.drop first.length)))) (fun _ _ _ _ _ h=>h) fun e hs=>?_
 grind [Ip,acg,abD,List.take_left]
def arF (f:FuncId) (args:V_):fe (Fh r f args) (bV args) (bC args):=by
 refine fe.rds (fun vs hs=>eD r f vs hs.heap) (fun vs hs hs' v H h=>H.call h) fun e hs=>?_
 grind [Fh]
theorem ao6 {v:n9}{rs:V_}(h:DQ v=some rs):fe (db v r) (bV rs) (bC rs):=by
 unfold DQ at h;split at h<;>simp only[ae,reduceCtorEq]at h<;>subst h
 .exact auY _
 .exact anG _ _
 .exact aut _ _
 .exact ayo _ _
 .exact anX _
 .exact aww _ _ _
 .exact arq _ _ _
 .exact asl _ _ _ _
 .exact ayM _ _
 .exact asJ _ _
 .exact aoM _
 .exact aix _ _ _
 .exact axy _ _
 .exact ava _ _ _
 .exact aze _ _ _
 .exact arb _ _ _ _
 .exact axV _ _ _ _ _
 .exact avC _ _
 .exact avw _
 .exact awe _
 .exact ang _ _
 .exact asK _ _ _
 .exact arF _ _
end
abbrev df:=@List.mem_append_left
section
variable {r:dz}
def QD (e:aV) (o:AB_) (rs:V_):rdAll e (o.toList++rs)=match rdOpt e o with
  | none=>none
  | some (vo,e1)=>match rdAll e1 rs with
   | none=>none
   | some (vs,e2)=>some (vo.toList++vs,e2):=by
 cases o<;>grind [rdOpt,rdAll]
def aaI:AB_->D_->Option (M_×D_)
 | none,vs=>some (none,vs)
 | some _,v::vs=>some (some v,vs)
 | some _,[]=>none
def aau {e e1:aV}{o:AB_}{vo:M_}(h:rdOpt e o=some (vo,e1)) (vs:D_):aaI o (vo.toList++vs)=some (vo,vs):=by
 cases o with
 | none=>obtain⟨rfl,rfl⟩:=h;rfl
 | some x =>
  simp only[rdOpt]at h;split at h
  .obtain⟨rfl,rfl⟩:=h;rfl
  simp_all
def RY (m:Nat) (lo hi mx:AB_) (h:ak) (vs:D_):M_ :=
 match vs with
 | []=>none
 | v::vs=>match aaI lo vs with
  | none=>none
  | some (l,vs)=>match aaI hi vs with
   | none=>none
   | some (hh,vs)=>match aaI mx vs with
    | none=>none
    | some (k,_)=>match okSl h m v with
     | true=>xB m v l hh k
     | false=>none
def alQ {m:Nat}{lo hi mx:AB_}{h h':ak}(H:dw h h') {vs:D_}{u:AV}(g:RY m lo hi mx h vs=some u):RY m lo hi mx h' vs=some u:=by
 unfold RY at g⊢;split at g
 .simp at g
 .rename_i v vs
  cases h1:aaI lo vs with
  | none=>simp_all
  | some p =>
   obtain⟨l,vs1⟩:=p;simp only at g⊢
   cases h2:aaI hi vs1<;>grind [dw.okSl]
def aoB (m:Nat) (x:Rd) (lo hi mx:AB_):fe (Mi m x lo hi mx) (bV (x::(lo.toList++(hi.toList++(mx.toList++[]))))) (bC (x::(lo.toList++(hi.toList++(mx.toList++[]))))):=by
 refine fe.rds (fun vs hs=>RY m lo hi mx hs.heap vs) (fun vs hs hs' v H h=>alQ H h) fun e hs=>?_
 simp only[Mi,rdAll]
 cases rd e x with
 | none=>rfl
 | some q =>
  obtain⟨v,e1⟩:=q;simp only;rw[QD]
  cases h1:rdOpt e1 lo with
  | none=>rfl
  | some q =>
   obtain⟨l,e2⟩:=q;simp only;rw[QD]
   cases h2:rdOpt e2 hi with
   | none=>rfl
   | some q =>
    obtain⟨hh,e3⟩:=q;simp only;rw[QD]
    cases h3:rdOpt e3 mx with
    | none=>rfl
    | some q =>
     simp only[rdAll,RY,aau h1,aau h2,aau h3]
     grind
def Nm {x:Rd}{k:Nat}(h:k∈kB x):k∈og x:=by
 cases x<;>simp_all [kB,og]
def arI (c a b:Rd):fe (li c a b) (bV [c,a,b]) (bC [c,a,b]):=by
 intro e hs v st1 hf;unfold li at hf;have hm:∀ k,k∈bC [c,a,b]↔(k∈kB c∨k∈kB a∨k∈kB b):=fun k=>by simp[bC]
 have hsl:∀ k,k∈bV [c,a,b]↔(k∈og c∨k∈og a∨k∈og b):=fun k=>by simp[bV]
 split at hf
 .rename_i tb e1 h1;obtain⟨s1,g1,l1⟩:=Q6 h1;have key:∀ x,(x=a∨x=b)->∀ u e2,rd e1 x=some (u,e2)->(∀ e' e1' e2' hs',rd e' c=some (B_ tb,e1')->rd e1' x=some (u,e2')->li c a b ⟨e',hs'⟩=some (u,⟨e2',hs'⟩))->
    (⟨e2,hs⟩:St).hs=hs∧(cO e->cO e2)∧(∀ k,k∉bC [c,a,b]->get e2 k=get e k)∧
    ∀ e' hs',(∀ k∈bV [c,a,b],get e' k=get e k)->dw hs.heap hs'.heap->∃ e1',li c a b ⟨e',hs'⟩=some (u,⟨e1',hs'⟩)∧(∀ k,k∉bC [c,a,b]->get e1' k=get e' k)∧∀ k∈bC [c,a,b],get e1' k=get e2 k:=by
   intro x hx u e2 h2 hback;obtain⟨s2,g2,l2⟩:=Q6 h2;have hbs:∀ k,k∈og x->k∈bV [c,a,b]:=fun k hk=>(hsl k).2 (by grind)
   have hms:∀ k,k∈bC [c,a,b]->k∈bV [c,a,b]:=fun k hk=>(hsl k).2 (((hm k).1 hk).imp Nm (Or.imp Nm Nm))
   refine⟨rfl,fun h=>s2 (s1 h),fun k hk=>?_,fun e' hs' he _=>?_⟩
   .grind
   .obtain⟨e1',h1',g1'⟩:=l1 e' fun k hk=>he k ((hsl k).2 (.inl hk))
    obtain⟨e2',h2',g2'⟩:=l2 e1' fun k hk=>by
     simp_all
    refine⟨e2',hback e' e1' e2' hs' h1' h2',fun k hk=>?_,fun k hk=>?_⟩
    all_goals grind
  cases tb with
  | true =>
   split at hf
   .obtain⟨rfl,rfl⟩:=hf
    grind [li]
   simp_all
  | false =>
   split at hf
   .obtain⟨rfl,rfl⟩:=hf
    grind [li]
   simp_all
 simp_all
def aud (j:Nat) (mv:Bool) (i:Nat):fe (BO j mv i) [j] (if mv then [j] else []):=by
 intro e hs v st1 hf;unfold BO at hf;split at hf
 .split at hf
  .cases mv with
   | true =>
    obtain⟨rfl,rfl⟩:=hf
    simp_all [cO.put,fD,BO]
   | false =>
    obtain⟨rfl,rfl⟩:=hf
    simp_all [BO]
  simp_all
 simp_all
def asM (m:Nat) (h:ak) (vs:D_):M_ :=
 match vs with
 | [b]=>(match Go.Vm.elems h b with
  | some ys=>(match fT m ys with
   | true=>(match Nat.ble ys.length aW with
    | true=>some (match ys with | []=>.nl | ys=>.own true m ys)
    | false=>none)
   | false=>none)
  | none=>none)
 | _=>none
def apH (m:Nat) (y:Rd):fe (Hn m (.c .nl) y) (bV [y]) (bC [y]):=by
 refine fe.rds (fun vs hs=>asM m hs.heap vs) (fun vs hs hs' v H h=>?_) fun e hs=>?_
 .unfold asM at h⊢
  grind [dw.elems]
 .have h0:rd e (.c .nl)=some (.nl,e):=rfl;simp only[Hn,rdAll,h0]
  cases rd e y with
  | none=>rfl
  | some q =>
   obtain⟨b,e1⟩:=q;simp only[asM]
   cases Go.Vm.elems hs.heap b with
   | none=>rfl
   | some ys =>
    simp only
    cases fT m ys with
    | false=>rfl
    | true =>
     simp only[eC]
     cases Nat.ble ys.length aW with
     | false=>rfl
     | true=>cases ys<;>rfl
def Vi {v:n9}{R M:C_}(h:Mz v=some (R,M)):fe (db v r) R M:=by
 have base:(match DQ v with | some rs=>some (bV rs,bC rs) | none=>none)=some (R,M)->fe (db v r) R M:=by
  grind [ao6]
 cases v<;>try exact base h
 .obtain⟨rfl,rfl⟩:=h;exact arI _ _ _
 .obtain⟨rfl,rfl⟩:=h;exact aoB _ _ _ _ _
 .obtain⟨rfl,rfl⟩:=h;exact aud _ _ _
 .rename_i m x y
  cases x<;>try exact base h
  rename_i c
  cases c<;>try exact base h
  obtain⟨rfl,rfl⟩:=h;exact apH _ _
def arz (f:St->Z_) (R M:C_):Prop :=
 ∀ e hs st1,f ⟨e,hs⟩=some st1->st1.hs=hs∧(cO e->cO st1.env)∧(∀ k,k∉M->get st1.env k=get e k)∧
  ∀ e' hs',(∀ k∈R,get e' k=get e k)->dw hs.heap hs'.heap->∃ e1',f ⟨e',hs'⟩=some ⟨e1',hs'⟩∧(∀ k,k∉M->get e1' k=get e' k)∧∀ k∈M,get e1' k=get st1.env k
def RT {i:VI}{R M:C_}(h:aej i=some (R,M)):arz (cU r i) R M:=by
 unfold aej at h;split at h
 .simp at h
 .rename_i hth;split at h
  .simp at h
  .rename_i R0 M0 hf;simp only[ae,aP]at h;obtain⟨rfl,rfl⟩:=h;have hl:=Vi (r:=r) hf;have hM:∀ k,k∈M0->k∈(match i.dst with | some d=>d::M0 | none=>M0):=fun k hk=>by grind
   have set:∀ (v:AV) (st:St),(cJ i.dst v st).hs=st.hs∧(cO st.env->cO (cJ i.dst v st).env)∧∀ k,get (cJ i.dst v st).env k=if i.dst=some k then some v else get st.env k:=by
    grind [cJ,cO.put,fD]
   have hd:∀ k,k∉(match i.dst with | some d=>d::M0 | none=>M0)->i.dst≠some k∧k∉M0:=fun k hk=>by
    grind
   have go:∀ e hs st1,gj r i ⟨e,hs⟩=some st1->st1.hs=hs∧(cO e->cO st1.env)∧(∀ k,k∉(match i.dst with | some d=>d::M0 | none=>M0)->get st1.env k=get e k)∧
     ∀ e' hs',(∀ k∈R0++M0,get e' k=get e k)->dw hs.heap hs'.heap->∃ e1',gj r i ⟨e',hs'⟩=some ⟨e1',hs'⟩∧(∀ k,k∉(match i.dst with | some d=>d::M0 | none=>M0)->get e1' k=get e' k)∧
      ∀ k∈(match i.dst with | some d=>d::M0 | none=>M0),get e1' k=get st1.env k:=by
    intro e hs st1 h;unfold gj at h;simp only[hth]at h;split at h
    .rename_i v st0 hv;simp only[ae]at h;subst h;obtain⟨q1,q2,q3,q4⟩:=hl e hs v st0 hv;obtain⟨t1,t2,t3⟩:=set (firm v) st0;refine⟨t1.trans q1,fun h=>t2 (q2 h),fun k hk=>?_,fun e' hs' he hle=>?_⟩
     .simp_all
     .obtain⟨e1',p1,p2,p3⟩:=q4 e' hs' (fun k hk=>he k (df _ hk)) hle;refine⟨(cJ i.dst (firm v) ⟨e1',hs'⟩).env,?_,fun k hk=>?_,fun k hk=>?_⟩
      .unfold gj;simp only[hth,p1,ae]
       cases i.dst<;>rfl
      all_goals grind
    simp_all
   have no:∀ e hs,(cJ i.dst (.tup []) ⟨e,hs⟩).hs=hs∧(cO e->cO (cJ i.dst (.tup []) ⟨e,hs⟩).env)∧(∀ k,k∉(match i.dst with | some d=>d::M0 | none=>M0)->get (cJ i.dst (.tup []) ⟨e,hs⟩).env k=get e k)∧
     ∀ e' hs',(∀ k∈R0++M0,get e' k=get e k)->(∀ k,k∉(match i.dst with | some d=>d::M0 | none=>M0)->get (cJ i.dst (.tup []) ⟨e',hs'⟩).env k=get e' k)∧
      ∀ k∈(match i.dst with | some d=>d::M0 | none=>M0),get (cJ i.dst (.tup []) ⟨e',hs'⟩).env k=get (cJ i.dst (.tup []) ⟨e,hs⟩).env k:=by
    grind
   intro e hs st1 h;unfold cU at h
   cases hg:i.guard with
   | none =>
    rw[hg]at h;obtain⟨q1,q2,q3,q4⟩:=go e hs st1 h;refine⟨q1,q2,q3,fun e' hs' he hle=>?_⟩;obtain⟨e1',p1,p2,p3⟩:=q4 e' hs' he hle
    grind [cU]
   | some sw =>
    obtain⟨sl,want⟩:=sw;rw[hg]at h;simp only at h;have hsl:∀ e',(∀ k∈sl::(R0++M0),get e' k=get e k)->get e' sl=get e sl:=fun e' he=>he sl (.head _)
    have hre:∀ e',(∀ k∈sl::(R0++M0),get e' k=get e k)->∀ k∈R0++M0,get e' k=get e k:=fun e' he k hk=>he k (.tail _ hk)
    split at h
    .rename_i b hb;split at h
     .obtain⟨q1,q2,q3,q4⟩:=go e hs st1 h;refine⟨q1,q2,q3,fun e' hs' he hle=>?_⟩;obtain⟨e1',p1,p2,p3⟩:=q4 e' hs' (hre e' he) hle
      grind [cU]
     .rename_i hbw;simp only[ae]at h;subst h;obtain⟨q1,q2,q3,q4⟩:=no e hs;refine⟨q1,q2,q3,fun e' hs' he _=>?_⟩;obtain⟨p2,p3⟩:=q4 e' hs' (hre e' he);refine⟨(cJ i.dst (.tup []) ⟨e',hs'⟩).env,?_,p2,p3⟩;unfold cU;rw[hg];simp only[hsl e' he,hb,hbw,ae]
      cases i.dst<;>rfl
    .rename_i hb;simp only[ae]at h;subst h;obtain⟨q1,q2,q3,q4⟩:=no e hs;refine⟨q1,q2,q3,fun e' hs' he _=>?_⟩;obtain⟨p2,p3⟩:=q4 e' hs' (hre e' he);refine⟨(cJ i.dst (.tup []) ⟨e',hs'⟩).env,?_,p2,p3⟩;unfold cU;rw[hg];simp only[hsl e' he,hb,ae]
     cases i.dst<;>rfl
    grind
def aqC {f1 f2:St->Z_}{R1 M1 R2 M2:C_}(h1:arz f1 R1 M1) (h2:arz f2 R2 M2) (d1:∀ k∈M1,k∉R2∧k∉M2) (d2:∀ k∈M2,k∉R1∧k∉M1) {st st1 st2:St}(hs:cO st.env)
  (a:f1 st=some st1) (b:f2 st1=some st2):∃ st1',f2 st=some st1'∧f1 st1'=some st2:=by
 obtain⟨e,hs0⟩:=st;obtain⟨e1,hs1⟩:=st1;obtain⟨e2,hs2⟩:=st2;obtain⟨q1,q2,q3,q4⟩:=h1 e hs0 _ a;subst q1;obtain⟨p1,p2,p3,p4⟩:=h2 e1 hs1 _ b;subst p1;obtain⟨e1',k1,k2,k3⟩:=p4 e _ (fun k hk=>(q3 k (fun hm=>(d1 k hm).1 hk)).symm) (dw.refl _);obtain⟨_,sk1,_,_⟩:=h2 e hs2 _ k1;obtain⟨e2',m1,m2,m3⟩:=q4 e1' _ (fun k hk=>k2 k fun hm=>(d2 k hm).1 hk) (dw.refl _);obtain⟨_,sm1,_,_⟩:=h1 e1' hs2 _ m1;refine⟨⟨e1',hs2⟩,k1,?_⟩;rw[m1]
 congr 2
 refine uY (sm1 (sk1 hs)) (p2 (q2 hs)) fun k=>?_
 by_cases hk1:k∈M1
 all_goals grind
end
abbrev b7:=@List.getElem?_cons_zero
abbrev qr:=@List.append_of_mem
abbrev dg:=@List.pairwise_append
abbrev gL:=@List.mem_append_right
abbrev sv:=@List.reverse_cons
abbrev aO:=@List.nil_append
abbrev dR:=@List.mem_range
theorem tO {k:Nat}{l:C_}:et k l=true↔k∈l:=by
 induction l<;>grind [et,Nat.beq_eq]
theorem jp {a b:C_}(h:rM a b=true):∀ k∈a,k∉b:=by
 induction a<;>grind [rM,tO]
section
variable {P:Program}{g:Gh}{w:World}{t:F_}{O:Nat->Nat}{st st':St}{r:dz}
theorem aif {a b:VI}(h:u5 a b=true) {st1 st2:St}(hs:cO st.env) (h1:cU r a st=some st1) (h2:cU r b st1=some st2):∃ st1',cU r b st=some st1'∧cU r a st1'=some st2:=by
 unfold u5 at h;split at h
 .rename_i R1 M1 R2 M2 e1 e2;simp only[af]at h;obtain⟨⟨k1,k2⟩,k3⟩:=h;exact aqC (RT (r:=r) e1) (RT (r:=r) e2) (fun k hk=>⟨jp k1 k hk,jp k2 k hk⟩) (fun k hk=>⟨jp k3 k hk,fun h=>jp k2 k h hk⟩) hs h1 h2
 simp_all
def aiB {a b:VI}(h:u5 a b=true) {st1:St}(hs:cO st.env) (h1:cU r a st=some st1):cO st1.env:=by
 unfold u5 at h;split at h
 .rename_i R1 M1 R2 M2 e1 e2;obtain⟨e,hs0⟩:=st;exact(RT (r:=r) e1 e hs0 st1 h1).2.1 hs
 simp_all
def Xj {vs:T_}{i:Nat}{v:VI}(hv:vs[i]?=some v) {l2:C_}:∀ {l1:C_}{st st':St},(∀ j∈l1,∃ u,vs[j]?=some u∧u5 u v=true)->cO st.env->
  wX r vs (l1++i::l2) st=some st'->wX r vs (i::(l1++l2)) st=some st'
 | [],st,st',_,_,h=>h
 | j::l1,st,st',hj,hs,h=>by
  obtain⟨u,hu,hm⟩:=hj j (.head _);simp only[aQ,wX,hu]at h;split at h
  .simp at h
  .rename_i st1 h1;have h2:=Xj hv (fun k hk=>hj k (.tail _ hk)) (aiB hm hs h1) h
   grind [wX,aif]
structure afD (P:Program) (n:Nat) (ops:Array Oper) (vs:T_):Prop where
 len:vs.length=ops.size
 vi:∀ (i:Nat) (v:VI) (o:Oper),vs[i]?=some v->ops[i]?=some o->CP P n ops v o=true
 pair:∀ (i j:Nat) (v u:VI) (o:Oper),j<i->vs[i]?=some v->vs[j]?=some u->ops[i]?=some o->LC o j=true∨u5 u v=true
 edge:∀ (i:Nat) (o:Oper),ops[i]?=some o->∀ e∈o.after,e.on<i
def Zn {o:Oper}{v:VI}:∀ {us:T_}{k:Nat},Zw o v k us=true->∀ (j:Nat) (u:VI),us[j]?=some u->LC o (k+j)=true∨u5 u v=true
 | [],k,_,j,u,h=>by simp at h
 | x::us,k,h,j,u,hu=>by
  simp only[Zw,af,cV]at h
  cases j with
  | zero=>simp_all
  | succ j=>have:=Zn h.2 j u u_;grind
def QL {n:Nat}{ops:Array Oper}:∀ {vs:T_}{os:List Oper}{prev:T_},tE P n ops prev vs os=true->vs.length=os.length∧
  ∀ (i:Nat) (v:VI) (o:Oper),vs[i]?=some v->os[i]?=some o->CP P n ops v o=true∧(∀ (j:Nat) (u:VI),(prev++vs)[j]?=some u->j<prev.length+i->LC o j=true∨u5 u v=true)∧
   ∀ e∈o.after,e.on<prev.length+i
 | [],[],prev,_=>⟨rfl,fun i v o h=>by simp at h⟩
 | x::vs,p::os,prev,h=>by
  simp only[tE,af]at h;obtain⟨⟨⟨h1,h2⟩,h3⟩,h4⟩:=h;obtain⟨k1,k2⟩:=QL h4;refine⟨by simp[k1],fun i v o hv ho=>?_⟩
  cases i with
  | zero =>
   simp only[b7,ae]at hv ho;subst hv ho;refine⟨h1,fun j u hu hj=>?_,fun e he=>?_⟩
   .rw[b9 o_]at hu;have:=Zn h2 j u hu
    simp_all
   grind [Nat.blt_eq]
  | succ i =>
   grind
 | [],_::_,_,h=>by grind [tE]
 | _::_,[],_,h=>by grind [tE]
def ayT {n:Nat}{ops:Array Oper}{vs:T_}(h:tE P n ops [] vs ops.toList=true):afD P n ops vs:=by
 obtain⟨k1,k2⟩:=QL h;have hl:vs.length=ops.size:=o_;have hget:∀ (i:Nat) (o:Oper),ops[i]?=some o->ops.toList[i]?=some o:=fun i o h=>by simp_all
 refine⟨hl,fun i v o hv ho=>(k2 i v o hv (hget i o ho)).1,fun i j v u o hji hv hu ho=>(k2 i v o hv (hget i o ho)).2.1 j u u_ o_,fun i o ho e he=>?_⟩;have hi:i<vs.length:=by
  grind
 simp_all
theorem Yq (m:Region.Mode) {e:Edge}(h:xL e.ground=true):Region.binds m e=true:=by
 grind [Region.binds,xL]
structure aaq (n:Nat) (listed:BE_) (rem:C_):Prop where
 srt:rem.Pairwise (·<·)
 lt:∀ i∈rem,i<n
 size:listed.size=n
 mem:∀ i,i<n->(i∈rem↔listed.getD i true=false)
def aqr {ro:I_}(hr:iL P r) (hcs:jf P r) {n:Nat}{ops:Array Oper}{vs:T_}(hok:afD P n ops vs) {Q:Exit->Act->World->Prop}(ds:List Deferred) (m:Region.Mode) :
  ∀ {fuel:Nat}{rem:C_},rem.length=fuel->∀ {tt:Nat}{listed:BE_},aaq ops.size listed rem->∀ {g:Gh}{w:World}{t:F_}{O:Nat->Nat}{st st':St},t.size=n->S P g w st t O->wX r vs rem st=some st'->
   (∀ w' t' g' O',gG P g w t O st' t' w' g' O'->Q .normal ⟨t',ds⟩ w')->wpOpsIn (FR ro) 0 P ops Q (Region.linearise.go m ops fuel tt listed []) ⟨t,ds⟩ w
 | 0,rem,hf,tt,listed,hleft,g,w,t,O,st,st',hn,s,h,hq=>by
  have:rem=[]:=ax hf;subst this;simp only[wX,ae]at h;subst h;exact hq _ _ _ _ (gG.refl s)
 | fuel+1,rem,hf,tt,listed,hleft,g,w,t,O,st,st',hn,s,h,hq=>by
  unfold Region.linearise.go;simp only;generalize hrs:((List.range ops.size).filter fun i=>!listed.getD i true && ((ops[i]?).map (·.after.all fun e=>!Region.binds m e || listed.getD e.on false)).getD false)=rs;have hmem:∀ i,i∈rs↔i<ops.size∧listed.getD i true=false∧∃ o,ops[i]?=some o∧∀ e∈o.after,Region.binds m e=true->listed.getD e.on false=true:=by
   grind [Array.all_eq_true_iff_forall_mem]
  have hne:rs≠[]:=by
   cases rem with
   | nil=>simp at hf
   | cons i rem =>
    have hi:=hleft.lt i (.head _);have:i∈rs:=(hmem i).2 ⟨hi,(hleft.mem i hi).1 (.head _),ops[i],by simp[hi],fun e he _=>by
     have hlt:=hok.edge i ops[i] (by simp[hi]) e he;have hen:e.on<ops.size:=o_;have hnot:e.on∉i::rem:=by
      intro hm;rcases az.1 hm with e1 | hm
      .omega
      .have:=(bR.1 hleft.srt).1 _ hm;omega
     grind [aaq.mem,aaq.size]⟩
    grind
  have hlen:0<rs.length:=bJ.2 hne;have hlt:=dW tt hlen;rw[bE hlt];simp only;generalize hi:rs[tt % rs.length]=i;have hirs:i∈rs:=d_;obtain⟨hin,hil,o,ho,hedges⟩:=(hmem i).1 hirs;have hirem:i∈rem:=(hleft.mem i hin).2 hil;obtain⟨l1,l2,rfl⟩:=qr hirem;have hvl:i<vs.length:=by grind [afD.len]
  have hv:vs[i]?=some vs[i]:=s_;have hp:=dg.1 hleft.srt;have hswap:∀ j∈l1,∃ u,vs[j]?=some u∧u5 u vs[i]=true:=by
   intro j hj;have hji:j<i:=hp.2.2 j hj i (.head _);have hjr:j∈l1++i::l2:=df _ hj;have hjv:vs[j]?=some (vs[j]' o_):=s_;refine⟨_,hjv,(hok.pair i j _ _ o hji hv hjv ho).resolve_left fun he=>?_⟩
   grind [LC,Nat.beq_eq,Yq,aaq.mem]
  have h2:=Xj hv hswap s.se h;simp only[wX,hv]at h2;split at h2
  .simp at h2
  .rename_i st1 h3;have hleft':aaq ops.size (listed.setIfInBounds i true) (l1++l2):=by
    refine⟨dg.2 ⟨hp.1,(bR.1 hp.2.1).2,fun a ha b hb=>hp.2.2 a ha b (.tail _ hb)⟩,fun k hk=>hleft.lt k ?_,by simp[hleft.size],fun k hk=>?_⟩
    .rcases be.1 hk with h | h
     .exact df _ h
     .exact gL _ (.tail _ h)
    .have hsz:k<listed.size:=by rw[hleft.size];exact hk
     have hold:=hleft.mem k hk;simp only[gn,fX]at hold⊢;by_cases e:i=k
     .subst e;simp only[bf,hsz,Option.getD_some,lU,iff_false];intro hm;rcases be.1 hm with h | h
      .have:=hp.2.2 i h i (.head _);omega
      .have:=(bR.1 hp.2.1).1 i h;omega
     .simp only[e,bh];rw[<-hold];simp only[be,az];constructor
      .rintro (h | h)
       .exact .inl h
       .exact .inr (.inr h)
      .rintro (h | h | h)
       .exact .inl h
       .exact absurd h.symm e
       .exact .inr h
   have hlen':(l1++l2).length=fuel:=by simp at hf⊢;omega
   have hacc:=linearise_go_acc m ops fuel (tt / rs.length) (listed.setIfInBounds i true) [i];rw[hacc];simp only[sv,List.reverse_nil,aO,aQ,wpOpsIn,ho];exact apl (ro:=ro) hr hcs hn s h3 (hok.vi i _ o hv ho) ds _ Q fun t' w' g' O' G =>
    aqr hr hcs hok ds m hlen' hleft' (by rw[G.size,hn]) G.st h2 fun w2 t2 g2 O2 G2=>hq _ _ _ _ (G.trans G2)
theorem aeN {vs:T_}:∀ {l:T_}{k:Nat}{st:St},vs.drop k=l->wX r vs (List.range' k l.length) st=kL r l st
 | [],k,st,_=>by simp[wX,kL]
 | v::l,k,st,h=>by
  have hv:vs[k]?=some v:=by have:=bl (fun l=>l[0]?) h;grind
  have h':vs.drop (k+1)=l:=by have:=bl (fun l=>l.drop 1) h;grind [List.drop_drop]
  simp only[aq,List.range'_succ,wX,hv,kL]
  cases cU r v st with
  | none=>rfl
  | some st1=>exact aeN h'
def asm {ro:I_}(hr:iL P r) (hcs:jf P r) {n:Nat}{ops:Array Oper}{vs:T_}(ds:List Deferred) (h:tE P n ops [] vs ops.toList=true) {Q:Exit->Act->World->Prop}{id:Nat}(hn:t.size=n)
  (s:S P g w st t O) (hrun:kL r vs st=some st') (hq:∀ w' t' g' O',gG P g w t O st' t' w' g' O'->Q .normal ⟨t',ds⟩ w'):(Code.region id ops true).wpIn (FR ro) 0 P Q ⟨t,ds⟩ w:=by
 have hok:=ayT h;refine wpIn_region_draw fun tt=>?_
 have hx:bI g w g w.drew fun _=>False:=bI.drew _ _ _
 have sd:=s.extF hx rfl s.pmlt;have hrun':wX r vs (List.range ops.size) st=some st':=by
  rw[<-hok.len,List.range_eq_range']
  grind [aeN]
 have hleft:aaq ops.size (Array.replicate ops.size false) (List.range ops.size):=by
  refine⟨List.pairwise_lt_range,fun i hi=>dR.1 hi,s_,fun i hi=>?_⟩
  simp_all
 have key:∀ m tt,wpOpsIn (FR ro) 0 P ops Q (Region.linearise m ops tt) ⟨t,ds⟩ w.drew:=fun m tt =>
  aqr (ro:=ro) hr hcs hok ds m s_ hleft hn sd hrun' fun w' t' g' O' G=>hq _ _ _ _ ⟨G.st,(hx.mono (T:=fun b=>O b≠0) fun _ _ h=>h.elim).trans G.ext fun _ _ h=>h,G.old,G.size⟩
 unfold Region.schedule;split<;>simp_all
end
abbrev HK:=HS->(HS->Prop)->(HS->HS)->Prop
def jn (K:HK) (f:St->L_) (R M:C_):Prop :=
 ∀ e hs v st1,f ⟨e,hs⟩=some (v,st1)->∃ ρ τ,K hs ρ τ∧st1.hs=τ hs∧(cO e->cO st1.env)∧(∀ k,k∉M->get st1.env k=get e k)∧
  ∀ e' hs',(∀ k∈R,get e' k=get e k)->ρ hs'->∃ e1',f ⟨e',hs'⟩=some (v,⟨e1',τ hs'⟩)∧(∀ k,k∉M->get e1' k=get e' k)∧∀ k∈M,get e1' k=get st1.env k
def Tg (K:HK) (f:St->Z_) (R M:C_):Prop :=
 ∀ e hs st1,f ⟨e,hs⟩=some st1->∃ ρ τ,K hs ρ τ∧st1.hs=τ hs∧(cO e->cO st1.env)∧(∀ k,k∉M->get st1.env k=get e k)∧
  ∀ e' hs',(∀ k∈R,get e' k=get e k)->ρ hs'->∃ e1',f ⟨e',hs'⟩=some ⟨e1',τ hs'⟩∧(∀ k,k∉M->get e1' k=get e' k)∧∀ k∈M,get e1' k=get st1.env k
def KQ:HK:=fun hs ρ τ=>(∀ hs',dw hs.heap hs'.heap->ρ hs')∧∀ hs',τ hs'=hs'
def Gp (h:ak) (id:Nat):Option Obj->ak
 | none=>h
 | some o=>put h id o
def KT:HK:=fun hs ρ τ=>(∃ id o0 o,get hs.heap id=some o0∧(∀ hs',get hs'.heap id=some o0->ρ hs')∧(∀ hs',τ hs'=⟨Gp hs'.heap id o,hs'.next⟩)∧
 ∀ o1,o=some o1->jT o0 o1)∨(∀ hs',ρ hs')∧∀ hs',τ hs'=hs'
def push:HS->List Obj->HS
 | hs,[]=>hs
 | hs,o::os=>push ⟨put hs.heap hs.next o,hs.next+1⟩ os
def KA:HK:=fun hs ρ τ=>∃ os,(∀ hs',dw hs.heap hs'.heap->hs'.next=hs.next->ρ hs')∧∀ hs',hs'.next=hs.next->τ hs'=push hs' os
def KP:HK:=fun hs ρ τ=>KQ hs ρ τ∨∃ id,(∃ m xs,get hs.heap id=some (.arr m xs))∧(∀ hs',dw hs.heap hs'.heap->ρ hs')∧∀ hs',τ hs'=⟨del hs'.heap id,hs'.next⟩
theorem dw.del {h:ak}(id:Nat):dw (del h id) h:=by
 intro k o hk;rw[HE]at hk;split at hk
 .simp at hk
 .exact⟨o,hk,by cases o<;>simp[jT]⟩
def afS (m:Nat) (x y:Rd):jn KP (Hn m x y) (bV [x,y]) (bC [x,y]):=by
 intro e hs v st1 hf;unfold Hn at hf;split at hf
 .rename_i a e1 hr;split at hf
  .rename_i b e2 hr2;split at hf
   .rename_i ys hy;split at hf
    .split at hf
     .rename_i w h1 ha;simp only[ae,aP]at hf;obtain⟨rfl,rfl⟩:=hf;have hall:rdAll e [x,y]=some ([a,b],e2):=by grind [rdAll]
      obtain⟨s1,g1,l1⟩:=Kc hall;have back:∀ e' hs' h1',(∀ k∈bV [x,y],get e' k=get e k)->dw hs.heap hs'.heap->eC m hs'.heap a ys=some (w,h1')->
        ∃ e1',Hn m x y ⟨e',hs'⟩=some (w,⟨e1',⟨h1',hs'.next⟩⟩)∧(∀ k,k∉bC [x,y]->get e1' k=get e' k)∧∀ k∈bC [x,y],get e1' k=get e2 k:=by
       intro e' hs' h1' he hle happ;obtain⟨e1',hr',g1'⟩:=l1 e' he;refine⟨e1',?_,fun k hk=>by simp_all,fun k hk=>by simp_all⟩;simp only[rdAll]at hr';split at hr'<;>grind [Hn,dw.elems]
      unfold eC at ha;split at ha
      .simp at ha
      .split at ha
       .obtain⟨rfl,rfl⟩:=ha;exact⟨fun hs'=>dw hs.heap hs'.heap,id,.inl ⟨fun _ h=>h,fun _=>rfl⟩,rfl,s1,fun k hk=>by simp_all,fun e' hs' he hρ=>back e' hs' _ he hρ (by grind [eC])⟩
       .split at ha
        .obtain⟨rfl,rfl⟩:=ha;exact⟨fun hs'=>dw hs.heap hs'.heap,id,.inl ⟨fun _ h=>h,fun _=>rfl⟩,rfl,s1,fun k hk=>by simp_all,fun e' hs' he hρ=>back e' hs' _ he hρ (by grind [eC])⟩
        simp_all
       .rename_i id off len;split at ha
        .rename_i k xs hg;split at ha
         .obtain⟨rfl,rfl⟩:=ha;exact⟨fun hs'=>dw hs.heap hs'.heap,fun hs'=>⟨Go.Vm.del hs'.heap id,hs'.next⟩,.inr ⟨id,⟨_,_,hg⟩,fun _ h=>h,fun _=>rfl⟩,rfl,s1,fun k hk=>by simp_all,fun e' hs' he hρ=>back e' hs' _ he hρ (by grind [eC,dw.arr])⟩
         simp_all
        simp_all
       simp_all
     simp_all
    simp_all
   simp_all
  simp_all
 simp_all
theorem jT.symm {a b:Obj}(h:jT a b):jT b a:=by
 cases a<;>cases b<;>simp_all [jT]
def avf {f:St->L_}{R M:C_}(h:fe f R M):jn KQ f R M:=by
 intro e hs v st1 hf;obtain⟨h1,h2,h3,h4⟩:=h e hs v st1 hf;exact⟨fun hs'=>dw hs.heap hs'.heap,id,⟨fun _ h=>h,fun _=>rfl⟩,h1,h2,h3,h4⟩
mutual
theorem EL:∀ (v:AV),share (share v)=share v
 | .own p m xs=>by cases p<;>rfl
 | .agg cs=>by simp only[share,shareAll_share cs]
 | .tup cs=>by simp only[share,shareAll_share cs]
 | .junk | .d _ | .nl | .gl _ | .nilp | .ptr _ _ | .pel _ _ _ | .pim _ _ | .sl _ _ _ | .fn _ _ _ | .nilf | .yield _=>by rfl
theorem shareAll_share:∀ (vs:D_),shareAll (shareAll vs)=shareAll vs
 | []=>rfl
 | v::r=>by simp only[pD,EL v,shareAll_share r]
end
theorem LX:∀ (vs:D_),shareAll (fI 2 vs).2=shareAll vs
 | []=>rfl
 | v::r=>by
  simp only[fI,pD,LX r]
  grind [qU,EL]
def azG {h h1:ak}{n:I_}{p v:AV}(hl:loadAt h n 2 p=some (v,h1)) :
  (∃ id o0 o,get h id=some o0∧h1=Gp h id o∧(∀ o1,o=some o1->jT o0 o1)∧∀ h',get h' id=some o0->loadAt h' n 2 p=some (v,Gp h' id o))∨
   h1=h∧∀ h',loadAt h' n 2 p=some (v,h'):=by
 cases p<;>simp only[loadAt,reduceCtorEq]at hl
 .rename_i id off;split at hl
  .rename_i cs hg
   cases n with
   | none =>
    simp only at hl;split at hl
    .simp at hl
    .rename_i u hu;obtain⟨rfl,rfl⟩:=hl;refine .inl ⟨id,_,some (.cells (cs.set off (qU 2 u).2)),hg,rfl,fun o1 ho=>?_,fun h' he=>?_⟩
     .simp only[ae]at ho;subst ho;simp only[jT,j7,qU];refine dF fun i=>?_
      grind [EL]
     .simp only[loadAt,he,hu];rfl
   | some m =>
    simp only at hl;split at hl
    .rename_i hb;obtain⟨rfl,rfl⟩:=hl;refine .inl ⟨id,_,some (.cells (aG cs off (fI 2 (sub cs off m)).2)),hg,rfl,fun o1 ho=>?_,fun h' he=>?_⟩
     .simp only[jT]
      grind [Nat.le_of_ble_eq_true,LX,j7,List.length_map,sub,aG,List.map_drop,List.take_append_drop]
     .simp only[loadAt,he,hb];rfl
    simp_all
  simp_all
 .rename_i id i off;split at hl
  .rename_i m xs hg;split at hl
   .rename_i x hx;split at hl
    .rename_i u hu;obtain⟨rfl,rfl⟩:=hl;exact .inl ⟨id,_,none,hg,rfl,fun o1 ho=>by simp at ho,fun h' he=>by simp only[loadAt,he,hx,hu];rfl⟩
    simp_all
   simp_all
  simp_all
 grind [loadAt]
def awC (n:I_) (p:Rd):jn KT (D5 n 2 p) (og p) (kB p):=by
 intro e hs v st1 hf;unfold D5 at hf;split at hf
 .rename_i u e1 hr;split at hf
  .rename_i w h1 hl;obtain⟨rfl,rfl⟩:=hf;obtain⟨s1,g1,l1⟩:=Q6 hr;rcases azG hl with ⟨id,o0,o,k0,k1,k2,k3⟩ | ⟨k1,k3⟩
   .refine⟨fun hs'=>get hs'.heap id=some o0,fun hs'=>⟨Gp hs'.heap id o,hs'.next⟩,.inl ⟨id,o0,o,k0,fun _ h=>h,fun _=>rfl,k2⟩,by rw[k1],s1,fun k hk=>by simp_all,fun e' hs' he hρ=>?_⟩;obtain⟨e1',hr',g1'⟩:=l1 e' he
    simp_all [D5]
   .refine⟨fun _=>True,id,.inr ⟨fun _=>trivial,fun _=>rfl⟩,u_,s1,fun k hk=>by simp_all,fun e' hs' he _=>?_⟩;obtain⟨e1',hr',g1'⟩:=l1 e' he
    simp_all [D5]
  simp_all
 simp_all
section
variable {r:dz}{K:HK}
theorem Tq (d:I_) (v:AV) (st:St):(cJ d v st).hs=st.hs∧(cO st.env->cO (cJ d v st).env)∧∀ k,get (cJ d v st).env k=if d=some k then some v else get st.env k:=by
 cases hd:d<;>grind [cJ,cO.put,fD]
theorem Tv {i:VI}{M0:C_}{k:Nat}(hk:k∉yM i M0):i.dst≠some k∧k∉M0:=by
 grind [yM]
theorem ajZ {i:VI}{M0:C_}{k:Nat}(hk:k∈yM i M0):i.dst=some k∨k∈M0:=by
 grind [yM]
def t4 {i:VI}{R0 M0:C_}{f:St->L_}(hf:∀ st,gj r i st=match f st with | some (v,st)=>some (cJ i.dst v st) | none=>none) (hl:jn K f R0 M0) (hid:∀ hs,K hs (fun _=>True) id) :
  Tg K (cU r i) (Pz i (R0++M0)) (yM i M0):=by
 have go:∀ e hs st1,gj r i ⟨e,hs⟩=some st1->∃ ρ τ,K hs ρ τ∧st1.hs=τ hs∧(cO e->cO st1.env)∧(∀ k,k∉yM i M0->get st1.env k=get e k)∧
   ∀ e' hs',(∀ k∈R0++M0,get e' k=get e k)->ρ hs'->∃ e1',gj r i ⟨e',hs'⟩=some ⟨e1',τ hs'⟩∧(∀ k,k∉yM i M0->get e1' k=get e' k)∧∀ k∈yM i M0,get e1' k=get st1.env k:=by
  intro e hs st1 h;rw[hf]at h;split at h
  .rename_i v st0 hv;simp only[ae]at h;subst h;obtain⟨ρ,τ,hK,q1,q2,q3,q4⟩:=hl e hs v st0 hv;obtain⟨t1,t2,t3⟩:=Tq i.dst v st0;refine⟨ρ,τ,hK,t1.trans q1,fun h=>t2 (q2 h),fun k hk=>?_,fun e' hs' he hρ=>?_⟩
   .grind [Tv]
   .obtain⟨e1',p1,p2,p3⟩:=q4 e' hs' (fun k hk=>he k (df _ hk)) hρ;obtain⟨u1,u2,u3⟩:=Tq i.dst v ⟨e1',τ hs'⟩;refine⟨(cJ i.dst v ⟨e1',τ hs'⟩).env,?_,fun k hk=>?_,fun k hk=>?_⟩
    .rw[hf,p1]
     cases i.dst<;>rfl
    all_goals grind [Tv,ajZ]
  simp_all
 have no:∀ e hs,(cJ i.dst (.tup []) ⟨e,hs⟩).hs=hs∧(cO e->cO (cJ i.dst (.tup []) ⟨e,hs⟩).env)∧(∀ k,k∉yM i M0->get (cJ i.dst (.tup []) ⟨e,hs⟩).env k=get e k)∧
   ∀ e' hs',(∀ k∈R0++M0,get e' k=get e k)->(∀ k,k∉yM i M0->get (cJ i.dst (.tup []) ⟨e',hs'⟩).env k=get e' k)∧
    ∀ k∈yM i M0,get (cJ i.dst (.tup []) ⟨e',hs'⟩).env k=get (cJ i.dst (.tup []) ⟨e,hs⟩).env k:=by
  intro e hs;obtain⟨t1,t2,t3⟩:=Tq i.dst (.tup []) ⟨e,hs⟩;refine⟨t1,t2,fun k hk=>?_,fun e' hs' he=>?_⟩
  .rw[t3,aa (Tv hk).1]
  grind [Tq,Tv,ajZ]
 intro e hs st1 h;unfold cU at h
 cases hg:i.guard with
 | none =>
  simp_all [Pz,cU]
 | some sw =>
  obtain⟨sl,want⟩:=sw;rw[hg]at h;simp only at h;have hgs:Pz i (R0++M0)=sl::(R0++M0):=by unfold Pz;rw[hg]
  rw[hgs];have hsl:∀ e',(∀ k∈sl::(R0++M0),get e' k=get e k)->get e' sl=get e sl:=fun e' he=>he sl (.head _)
  have hre:∀ e',(∀ k∈sl::(R0++M0),get e' k=get e k)->∀ k∈R0++M0,get e' k=get e k:=fun e' he k hk=>he k (.tail _ hk)
  split at h
  .rename_i b hb;split at h
   .obtain⟨ρ,τ,hK,q1,q2,q3,q4⟩:=go e hs st1 h;refine⟨ρ,τ,hK,q1,q2,q3,fun e' hs' he hρ=>?_⟩;obtain⟨e1',p1,p2,p3⟩:=q4 e' hs' (hre e' he) hρ
    grind [cU]
   .rename_i hbw;simp only[ae]at h;subst h;obtain⟨q1,q2,q3,q4⟩:=no e hs;refine⟨fun _=>True,id,hid hs,q1,q2,q3,fun e' hs' he _=>?_⟩;obtain⟨p2,p3⟩:=q4 e' hs' (hre e' he);refine⟨(cJ i.dst (.tup []) ⟨e',hs'⟩).env,?_,p2,p3⟩;unfold cU;rw[hg];simp only[hsl e' he,hb,hbw,ae]
    cases i.dst<;>rfl
  .rename_i hb;simp only[ae]at h;subst h;obtain⟨q1,q2,q3,q4⟩:=no e hs;refine⟨fun _=>True,id,hid hs,q1,q2,q3,fun e' hs' he _=>?_⟩;obtain⟨p2,p3⟩:=q4 e' hs' (hre e' he);refine⟨(cJ i.dst (.tup []) ⟨e',hs'⟩).env,?_,p2,p3⟩;unfold cU;rw[hg];simp only[hsl e' he,hb,ae]
   cases i.dst<;>rfl
  grind
def KQ.id (hs:HS):KQ hs (fun _=>True) _root_.id:=⟨fun _ _=>trivial,fun _=>rfl⟩
def KT.id (hs:HS):KT hs (fun _=>True) _root_.id:=.inr ⟨fun _=>trivial,fun _=>rfl⟩
def KP.id (hs:HS):KP hs (fun _=>True) _root_.id:=.inl (KQ.id hs)
def KA.id (hs:HS):KA hs (fun _=>True) _root_.id:=⟨[],fun _ _ _=>trivial,fun _ _=>rfl⟩
theorem acG:∀ (os:List Obj) (hs:HS),(push hs os).next=hs.next+os.length
 | [],_=>rfl
 | o::os,hs=>by simp only[push,acG os,aq];omega
theorem agT:∀ (a b:List Obj) (hs:HS),push hs (a++b)=push (push hs a) b
 | [],_,_=>rfl
 | o::a,b,hs=>by simp only[aQ,push,agT a b]
def Sp (n:Nat) (v:AV):∃ u os,∀ hs:HS,hs.next=n->nU hs v=(u,push hs os):=by
 have same:(∀ hs,nU hs v=(v,hs))->∃ u os,∀ hs:HS,hs.next=n->nU hs v=(u,push hs os):=fun h=>⟨v,[],fun hs _=>h hs⟩
 cases v<;>try exact same fun hs=>rfl
 rename_i p m xs
 cases p with
 | false=>exact same fun hs=>rfl
 | true =>
  cases hm:Nat.beq m 0 with
  | true=>simp_all [nU]
  | false =>
   refine⟨.sl n 0 xs.length,[.arr m xs],fun hs hn=>?_⟩
   grind [nU,push]
def PA (n o:Nat) (v:AV):∃ u os,∀ hs:HS,hs.next=n->mN hs o v=(u,push hs os):=by
 have one:(∀ hs,mN hs o v=nU hs v)->∃ u os,∀ hs:HS,hs.next=n->mN hs o v=(u,push hs os):=fun h=>by
  simp_all [Sp]
 cases v<;>try exact one fun hs=>rfl
 rename_i cs
 cases hc:cs[o]? with
 | none=>exact⟨.agg cs,[],fun hs _=>by grind [mN,push]⟩
 | some v =>
  obtain⟨u,os,k⟩:=Sp n v;exact⟨.agg (cs.set o u),os,fun hs hn=>by grind [mN]⟩
def ad7 (n:Nat) (p:Nat×Nat) (v:AV):∃ u os,∀ hs:HS,hs.next=n->qx hs p v=(u,push hs os):=by
 have one:(∀ hs,qx hs p v=mN hs p.2 v)->∃ u os,∀ hs:HS,hs.next=n->qx hs p v=(u,push hs os):=fun h=>by
  simp_all [PA]
 cases v<;>try exact one fun hs=>rfl
 rename_i cs
 cases hc:cs[p.1]? with
 | none=>exact⟨.tup cs,[],fun hs _=>by grind [qx,push]⟩
 | some v =>
  obtain⟨u,os,k⟩:=PA n p.2 v;exact⟨.tup (cs.set p.1 u),os,fun hs hn=>by grind [qx]⟩
def ML:∀ (th:R_) (n:Nat) (v:AV),∃ u os,∀ hs:HS,hs.next=n->dQ th v hs=(u,push hs os)
 | [],n,v=>⟨v,[],fun hs _=>rfl⟩
 | p::r,n,v=>by
  obtain⟨u,os,k⟩:=ad7 n p v;obtain⟨u2,os2,k2⟩:=ML r (n+os.length) u;refine⟨u2,os++os2,fun hs hn=>?_⟩
  grind [dQ,acG,agT]
end
def Ck.K:Ck->HK
 | .q=>KQ
 | .t=>KT
 | .a=>KA
 | .p=>KP
section
variable {r:dz}
def Ag {i:VI}(h:i.th=[]) (st:St):gj r i st=match (match db i.op r st with | some (v,st)=>some (firm v,st) | none=>none) with | some (v,st)=>some (cJ i.dst v st) | none=>none:=by
 grind [gj]
theorem jn.firm {K:HK}{f:St->L_}{R M:C_}(h:jn K f R M):jn K (fun st=>match f st with | some (v,st)=>some (firm v,st) | none=>none) R M:=by
 intro e hs v st1 hf;simp only at hf;split at hf
 .rename_i u st0 hu;simp only[ae,aP]at hf;obtain⟨rfl,rfl⟩:=hf;obtain⟨ρ,τ,h1,h2,h3,h4,h5⟩:=h e hs u st0 hu;refine⟨ρ,τ,h1,h2,h3,h4,fun e' hs' he hρ=>?_⟩;obtain⟨e1',q1,q2,q3⟩:=h5 e' hs' he hρ
  simp_all
 simp_all
def aml (zs:D_):jn KA (MI zs) [] []:=by
 intro e hs v st1 hf;obtain⟨rfl,rfl⟩:=hf;refine⟨fun hs'=>hs'.next=hs.next,fun hs'=>push hs' [.cells zs],⟨[.cells zs],fun _ _ h=>h,fun _ _=>rfl⟩,rfl,fun h=>h,fun _ _=>rfl,fun e' hs' _ hn=>⟨e',?_,fun _ _=>rfl,fun k hk=>by simp at hk⟩⟩;simp only[MI,hn];rfl
def asW (x:Rd):jn KA (SP x) (og x) (kB x):=by
 intro e hs v st1 hf;unfold SP at hf;split at hf
 .rename_i u e1 hr;split at hf
  .rename_i hc;obtain⟨rfl,rfl⟩:=hf;obtain⟨s1,g1,l1⟩:=Q6 hr;refine⟨fun hs'=>hs'.next=hs.next,fun hs'=>push hs' [.cells u.cells],⟨[.cells u.cells],fun _ _ h=>h,fun _ _=>rfl⟩,rfl,s1,fun k hk=>by simp_all,fun e' hs' he hn=>?_⟩;obtain⟨e1',hr',g1'⟩:=l1 e' he;refine⟨e1',?_,fun k hk=>by simp_all,fun k hk=>by simp_all⟩;unfold SP;simp only[hr',hc,hn];rfl
  simp_all
 simp_all
def ajP {i:VI}{p:Nat×Nat}{th:R_}(h:i.th=p::th) (st:St):gj r i st=match (match db i.op r st with | some (v,st)=>some (firm (dQ (p::th) v st.hs).1,(⟨st.env,(dQ (p::th) v st.hs).2⟩:St)) | none=>none) with | some (v,st)=>some (cJ i.dst v st) | none=>none:=by
 grind [gj]
def jn.thaw {f:St->L_}{R M:C_}(h:fe f R M) (th:R_):jn KA (fun st=>match f st with | some (v,st)=>some (Go.Vm.firm (dQ th v st.hs).1,(⟨st.env,(dQ th v st.hs).2⟩:St)) | none=>none) R M:=by
 intro e hs v st1 hf;simp only at hf;split at hf
 .rename_i u st0 hu;obtain⟨rfl,rfl⟩:=hf;obtain⟨h1,h2,h3,h4⟩:=h e hs u st0 hu;obtain⟨w,os,hw⟩:=ML th hs.next u;refine⟨fun hs'=>dw hs.heap hs'.heap∧hs'.next=hs.next,fun hs'=>push hs' os,⟨os,fun _ a b=>⟨a,b⟩,fun _ _=>rfl⟩,?_,h2,h3,fun e' hs' he hρ=>?_⟩
  .simp_all
  .obtain⟨e1',q1,q2,q3⟩:=h4 e' hs' he hρ.1
   simp_all
 simp_all
def oD {i:VI}{k:Ck}{R M:C_}(h:jP i=some (k,R,M)):Tg k.K (cU r i) R M:=by
 unfold jP at h;split at h
 .rename_i p th hth;split at h
  .rename_i R0 M0 hf;obtain⟨rfl,rfl,rfl⟩:=h;exact t4 (ajP hth) (jn.thaw (Vi (r:=r) hf) (p::th)) KA.id
  simp_all
 .rename_i hth;split at h
  .rename_i n p ho;obtain⟨rfl,rfl,rfl⟩:=h;exact t4 (Ag hth) (jn.firm (by rw[ho];exact awC n p)) KT.id
  .rename_i m x y ho;obtain⟨rfl,rfl,rfl⟩:=h;exact t4 (Ag hth) (jn.firm (by rw[ho];exact afS m _ y)) KP.id
  .rename_i m x y ho;obtain⟨rfl,rfl,rfl⟩:=h;exact t4 (Ag hth) (jn.firm (by rw[ho];exact afS m _ y)) KP.id
  .rename_i zs ho;obtain⟨rfl,rfl,rfl⟩:=h;exact t4 (Ag hth) (jn.firm (by rw[ho];exact aml zs)) KA.id
  .rename_i x ho;obtain⟨rfl,rfl,rfl⟩:=h;exact t4 (Ag hth) (jn.firm (by rw[ho];exact asW x)) KA.id
  .split at h
   .rename_i R0 M0 hf;obtain⟨rfl,rfl,rfl⟩:=h;exact t4 (Ag hth) (jn.firm (avf (Vi (r:=r) hf))) KQ.id
   simp_all
structure dk (st:St):Prop where
 se:cO st.env
 sh:cO st.hs.heap
 fr:∀ id,st.hs.next<=id->get st.hs.heap id=none
theorem Np (h:ak) (id k:Nat) (o:Option Obj):get (Gp h id o) k=match o with | none=>get h k | some o=>if k=id then some o else get h k:=by
 cases o with
 | none=>rfl
 | some o=>exact fD h id k o
def Wh {h:ak}(hs:cO h) (id:Nat) (o:Option Obj):cO (Gp h id o):=by
 cases o with
 | none=>exact hs
 | some o=>exact hs.put _ _
theorem Wc:∀ (os:List Obj) (hs:HS) (k:Nat),k<hs.next->get (push hs os).heap k=get hs.heap k
 | [],_,_,_=>rfl
 | o::os,hs,k,hk=>by
  rw[push,Wc os _ k d_]
  grind [fD]
def akA:∀ (os:List Obj) (hs:HS),(∀ id,hs.next<=id->get hs.heap id=none)->∀ id,(push hs os).next<=id->get (push hs os).heap id=none
 | [],_,h=>h
 | o::os,hs,h=>akA os _ fun id hid=>by
  grind [fD]
def afH:∀ (os:List Obj) (hs:HS),cO hs.heap->cO (push hs os).heap
 | [],_,h=>h
 | o::os,hs,h=>afH os _ (h.put _ _)
def afr:∀ (os:List Obj) (hs:HS) (id:Nat) (o:Option Obj),cO hs.heap->id<hs.next->push ⟨Gp hs.heap id o,hs.next⟩ os=⟨Gp (push hs os).heap id o,(push hs os).next⟩
 | [],_,_,_,_,_=>rfl
 | p::os,hs,id,o,hsrt,hid=>by
  have e:put (Gp hs.heap id o) hs.next p=Gp (put hs.heap hs.next p) id o:=by
   refine uY ((Wh hsrt id o).put _ _) (Wh (hsrt.put _ _) id o) fun k=>?_
   grind [fD,Np]
  simp only[push];rw[e];exact afr os ⟨put hs.heap hs.next p,hs.next+1⟩ id o (hsrt.put _ _) (by grind)
theorem dw.push {hs:HS}(fr:∀ id,hs.next<=id->get hs.heap id=none) (os:List Obj):dw hs.heap (push hs os).heap:=by
 intro id o h
 grind [jT.refl,Wc]
theorem dw.upd {h:ak}{id:Nat}{o0:Obj}{o:Option Obj}(g:get h id=some o0) (ho:∀ o1,o=some o1->jT o0 o1):dw h (Gp h id o)∧dw (Gp h id o) h:=by
 constructor
 .intro k x hx
  grind [Np,jT.refl]
 .intro k x hx
  grind [Np,jT.refl,jT.symm]
theorem Iy {i:VI}{k:Ck}{R M:C_}(h:jP i=some (k,R,M)) {st st1:St}(inv:dk st) (hr:cU r i st=some st1):dk st1:=by
 obtain⟨e,hs⟩:=st;obtain⟨ρ,τ,hK,h1,h2,_,_⟩:=oD (r:=r) h e hs st1 hr;refine⟨h2 inv.se,?_,?_⟩
 .rw[h1]
  cases k with
  | q=>rw[hK.2 hs];exact inv.sh
  | t =>
   rcases hK with ⟨id,o0,o,g,_,ht,_⟩ | ⟨_,ht⟩
   .rw[ht];exact Wh inv.sh _ _
   .rw[ht];exact inv.sh
  | a=>obtain⟨os,_,ht⟩:=hK;rw[ht hs rfl];exact afH _ _ inv.sh
  | p =>
   rcases hK with hK | ⟨id,_,_,ht⟩
   .rw[hK.2 hs];exact inv.sh
   .rw[ht];exact inv.sh.del _
 .rw[h1]
  cases k with
  | q=>rw[hK.2 hs];exact inv.fr
  | t =>
   rcases hK with ⟨id,o0,o,g,_,ht,_⟩ | ⟨_,ht⟩
   .rw[ht];intro k hk;have:=inv.fr k hk
    grind [Np]
   .rw[ht];exact inv.fr
  | a=>obtain⟨os,_,ht⟩:=hK;rw[ht hs rfl];exact akA _ _ inv.fr
  | p =>
   rcases hK with hK | ⟨id,_,_,ht⟩
   .rw[hK.2 hs];exact inv.fr
   .rw[ht];intro k hk;rw[HE];split
    .rfl
    .exact inv.fr k hk
def al7 {u v:VI}(h:Hy u v=true) {st st1 st2:St}(inv:dk st) (a:cU r u st=some st1) (b:cU r v st1=some st2):∃ st1',cU r v st=some st1'∧cU r u st1'=some st2:=by
 unfold Hy at h;split at h
 .rename_i k1 R1 M1 k2 R2 M2 e1 e2;simp only[af]at h;obtain⟨⟨⟨hk,a1⟩,a2⟩,a3⟩:=h;have d1:∀ k∈M1,k∉R2∧k∉M2:=fun k hk=>⟨jp a1 k hk,jp a2 k hk⟩
  have d2:∀ k∈M2,k∉R1∧k∉M1:=fun k hk=>⟨jp a3 k hk,fun h=>jp a2 k h hk⟩
  have inv1:=Iy e1 inv a;have inv2:=Iy e2 inv1 b;obtain⟨e,hs⟩:=st;obtain⟨ρ1,τ1,K1,q1,q2,q3,q4⟩:=oD (r:=r) e1 e hs _ a;obtain⟨en1,hs1⟩:=st1;subst q1;obtain⟨ρ2,τ2,K2,p1,p2,p3,p4⟩:=oD (r:=r) e2 en1 (τ1 hs) _ b;have key:ρ2 hs∧ρ1 (τ2 hs)∧τ1 (τ2 hs)=τ2 (τ1 hs):=by
   cases k1 with
   | a=>grind [AL]
   | p =>
    cases k2 with
    | t=>grind [AL]
    | a=>grind [AL]
    | p=>grind [AL]
    | q =>
     have ht:∀ x,τ2 x=x:=K2.2;rcases K1 with K1 | ⟨id,_,hρ,hτ⟩
     .rw[K1.2 hs]at K2;exact⟨K2.1 _ (.refl _),by rw[ht];exact K1.1 _ (.refl _),u_⟩
     .exact⟨K2.1 _ (by grind [dw.del]),by grind [dw.refl],u_⟩
   | q =>
    have ht:∀ x,τ1 x=x:=K1.2
    cases k2 with
    | p=>grind [AL]
    | q =>
     rw[ht hs]at K2;exact⟨K2.1 _ (.refl _),by rw[K2.2];exact K1.1 _ (.refl _),u_⟩
    | t =>
     rw[ht hs]at K2;rcases K2 with ⟨id,o0,o,g,hρ,hτ,hl⟩ | ⟨hρ,hτ⟩
     .exact⟨hρ _ g,by rw[hτ];exact K1.1 _ (dw.upd g hl).1,u_⟩
     .exact⟨hρ _,by rw[hτ];exact K1.1 _ (.refl _),u_⟩
    | a =>
     rw[ht hs]at K2;obtain⟨os,hρ,hτ⟩:=K2;exact⟨hρ _ (.refl _) rfl,by rw[hτ _ rfl];exact K1.1 _ (dw.push inv.fr os),u_⟩
   | t =>
    cases k2 with
    | t=>grind [AL]
    | p=>grind [AL]
    | q =>
     have ht:∀ x,τ2 x=x:=K2.2;rcases K1 with ⟨id,o0,o,g,hρ,hτ,hl⟩ | ⟨hρ,hτ⟩
     .exact⟨K2.1 _ (by grind [dw.upd]),u_,u_⟩
     .exact⟨K2.1 _ (by grind [dw.refl]),hρ _,u_⟩
    | a =>
     obtain⟨os,hρ2,hτ2⟩:=K2;rcases K1 with ⟨id,o0,o,g,hρ,hτ,hl⟩ | ⟨hρ,hτ⟩
     .have hn:(τ1 hs).next=hs.next:=by rw[hτ]
      have hid:id<hs.next:=by
       rcases bB id hs.next with h1 | h1
       .exact h1
       .have:=inv.fr id h1;simp_all
      refine⟨hρ2 _ (by grind [dw.upd]) hn.symm,?_,?_⟩
      .grind [Wc]
      .rw[hτ2 _ hn.symm,hτ2 _ rfl,hτ,hτ];exact(afr os hs id o inv.sh hid).symm
     grind [dw.refl]
  obtain⟨c1,c2,c3⟩:=key;obtain⟨e1',k1',k2',k3'⟩:=p4 e hs (fun k hk=>(q3 k (fun hm=>(d1 k hm).1 hk)).symm) c1;obtain⟨e2',m1,m2,m3⟩:=q4 e1' (τ2 hs) (fun k hk=>k2' k fun hm=>(d2 k hm).1 hk) c2;have invA:=Iy e2 inv k1';have invB:=Iy e1 invA m1;refine⟨⟨e1',τ2 hs⟩,k1',?_⟩;rw[m1,c3]
  congr 2
  refine uY invB.se inv2.se fun k=>?_
  by_cases hk1:k∈M1
  all_goals grind
 simp_all
end
mutual
theorem aoN:∀ (a b:D),PK a b=true->a=b
 | .int k n,b,h=>by
  cases b<;>simp only[PK,ao,af,decide_eq_true_eq]at h
  rw[E1 h.1,h.2]
 | .bool x,b,h=>by
  cases b<;>simp only[PK,ao,beq_iff_eq]at h
  rw[h]
 | .str s,b,h=>by
  cases b<;>simp only[PK,ao,beq_iff_eq]at h
  rw[h]
 | .lst xs,b,h=>by
  cases b<;>simp only[PK,ao]at h
  rw[eqDss_eq xs _ h]
theorem ZK:∀ (a b:W_),Qz a b=true->a=b
 | [],b,h=>by cases b<;>simp only[Qz,ao]at h;rfl
 | x::r,b,h=>by
  cases b<;>simp only[Qz,ao,af]at h
  rw[aoN x _ h.1,ZK r _ h.2]
theorem eqDss_eq:∀ (a b:E_),eqDss a b=true->a=b
 | [],b,h=>by cases b<;>simp only[eqDss,ao]at h;rfl
 | x::r,b,h=>by
  cases b<;>simp only[eqDss,ao,af]at h
  rw[ZK x _ h.1,eqDss_eq r _ h.2]
end
mutual
theorem avk:∀ (a b:AV),iX a b=true->a=b
 | .junk,b,h=>by cases b<;>simp only[iX,ao]at h;rfl
 | .d x,b,h=>by
  cases b<;>simp only[iX,ao]at h
  rw[aoN x _ h]
 | .nl,b,h=>by cases b<;>simp only[iX,ao]at h;rfl
 | .own p m xs,b,h=>by
  cases b<;>simp only[iX,ao,af,beq_iff_eq,aC]at h
  rw[h.1.1,h.1.2,eqDss_eq xs _ h.2]
 | .gl n,b,h=>by
  cases b<;>simp only[iX,ao,aC]at h
  rw[h]
 | .agg cs,b,h=>by
  cases b<;>simp only[iX,ao]at h
  rw[eqAVs_eq cs _ h]
 | .tup cs,b,h=>by
  cases b<;>simp only[iX,ao]at h
  rw[eqAVs_eq cs _ h]
 | .nilp,b,h=>by cases b<;>simp only[iX,ao]at h;rfl
 | .ptr _ _,b,h=>by
  cases b<;>simp only[iX,ao,af,aC]at h
  rw[h.1,h.2]
 | .pel _ _ _,b,h=>by
  cases b<;>simp only[iX,ao,af,aC]at h
  rw[h.1.1,h.1.2,h.2]
 | .pim cs _,b,h=>by
  cases b<;>simp only[iX,ao,af,aC]at h
  rw[ZK cs _ h.1,h.2]
 | .sl _ _ _,b,h=>by
  cases b<;>simp only[iX,ao,af,aC]at h
  rw[h.1.1,h.1.2,h.2]
 | .fn _ a c,b,h=>by
  cases b<;>simp only[iX,ao,af,aC]at h
  rw[h.1.1,eqAVs_eq a _ h.1.2,eqAVs_eq c _ h.2]
 | .nilf,b,h=>by cases b<;>simp only[iX,ao]at h;rfl
 | .yield _,b,h=>by
  cases b<;>simp only[iX,ao,aC]at h
  rw[h]
theorem eqAVs_eq:∀ (a b:D_),eqAVs a b=true->a=b
 | [],b,h=>by cases b<;>simp only[eqAVs,ao]at h;rfl
 | x::r,b,h=>by
  cases b<;>simp only[eqAVs,ao,af]at h
  rw[avk x _ h.1,eqAVs_eq r _ h.2]
end
theorem axD {a b:Obj}(h:eqO a b=true):a=b:=by
 cases a<;>cases b<;>simp only[eqO,ao,af,aC]at h
 all_goals grind [eqAVs_eq,eqDss_eq]
theorem RW (h:ak) (k:Nat):∀ (ids:C_),get (dK ids h) k=if k∈ids then get h k else none
 | []=>by grind [dK,AM]
 | i::r=>by
  have ih:=RW h k r
  grind [dK,fD]
def dw.only (h:ak) (ids:C_):dw (dK ids h) h:=by
 intro k o hk
 grind [RW,jT.refl]
theorem acK:∀ {F:C_}{h h':ak},dI F h h'=true->∀ {k:Nat}{o:Obj},k∈F->get h k=some o->get h' k=some o
 | [],_,_,_,k,o,hm,_=>by simp at hm
 | i::r,h,h',hs,k,o,hm,hk=>by
  simp only[dI,af]at hs;rcases az.1 hm with e | hm
  .grind [axD]
  .exact acK hs.2 hm hk
def aco:∀ {F:C_}{h h':ak}{i:Nat},dI F h h'=true->i∈F->(match get h i with
   | some o=>(match get h' i with | some o'=>eqO o o' | none=>false)
   | none=>true)=true
 | x::F,h,h',i,hs,hi=>by
  simp only[dI,af]at hs;rcases az.1 hi with e | hi
  .grind
  .exact aco hs.2 hi
theorem acI:∀ {F' F:C_}{h h':ak},dI F h h'=true->(∀ k∈F',k∈F)->dI F' h h'=true
 | [],_,_,_,_,_=>rfl
 | i::r,F,h,h',hs,hsub=>by
  simp only[dI,af];exact⟨aco hs (hsub i (.head _)),acI hs fun k hk=>hsub k (.tail _ hk)⟩
def dw.same {F ids:C_}{h h':ak}(hs:dI F h h'=true) (hsub:∀ k∈ids,k∈F):dw (dK ids h) (dK ids h'):=by
 intro k o hk
 grind [RW,acK,jT.refl]
section
variable {r:dz}
def aeM (f:St->Z_) (R M:C_):Prop :=
 ∀ e hs st1,f ⟨e,hs⟩=some st1->(cO e->cO st1.env)∧(∀ k,k∉M->get st1.env k=get e k)∧
  ∀ e',(∀ k∈R,get e' k=get e k)->∃ e1',f ⟨e',hs⟩=some ⟨e1',st1.hs⟩∧(∀ k,k∉M->get e1' k=get e' k)∧∀ k∈M,get e1' k=get st1.env k
def Tg.w {K:HK}{f:St->Z_}{R M:C_}(h:Tg K f R M) (hK:∀ hs ρ τ,K hs ρ τ->ρ hs):aeM f R M:=by
 intro e hs st1 hf;obtain⟨ρ,τ,k,q1,q2,q3,q4⟩:=h e hs st1 hf;refine⟨q2,q3,fun e' he=>?_⟩;rw[q1];exact q4 e' hs he (hK _ _ _ k)
def Ck.self (k:Ck) (hs:HS) (ρ:HS->Prop) (τ:HS->HS) (h:k.K hs ρ τ):ρ hs:=by
 cases k with
 | q=>exact h.1 _ (.refl _)
 | t =>
  rcases h with ⟨id,o0,o,g,hρ,_⟩ | ⟨hρ,_⟩<;>simp_all
 | a=>obtain⟨os,hρ,_⟩:=h;grind [dw.refl]
 | p =>
  rcases h with h | ⟨id,_,hρ,_⟩
  .exact h.1 _ (.refl _)
  grind [dw.refl]
def KW:HK:=fun hs ρ _=>ρ hs
def KW.id (hs:HS):KW hs (fun _=>True) _root_.id:=trivial
def jn.rdsW {f:St->L_}{rs:V_}(F:D_->HS->X_)
  (h:∀ e hs,f ⟨e,hs⟩=match rdAll e rs with | none=>none | some (vs,e1)=>match F vs hs with | none=>none | some (v,hs1)=>some (v,⟨e1,hs1⟩)):jn KW f (bV rs) (bC rs):=by
 intro e hs v st1 hf;rw[h]at hf;split at hf
 .simp at hf
 .rename_i vs e1 hr;split at hf
  .simp at hf
  .rename_i u hs1 hu;obtain⟨rfl,rfl⟩:=hf;obtain⟨s1,g1,l1⟩:=Kc hr;refine⟨fun hs'=>hs'=hs,fun _=>hs1,rfl,rfl,s1,fun k hk=>by simp_all,fun e' hs' he hρ=>?_⟩;obtain⟨e1',hr',g1'⟩:=l1 e' he
   simp_all
def jn.thawW {f:St->L_}{R M:C_}(h:jn KW f R M) (th:R_):jn KW (fun st=>match f st with | some (v,st)=>some (Go.Vm.firm (dQ th v st.hs).1,(⟨st.env,(dQ th v st.hs).2⟩:St)) | none=>none) R M:=by
 intro e hs v st1 hf;simp only at hf;split at hf
 .rename_i u st0 hu;obtain⟨rfl,rfl⟩:=hf;obtain⟨ρ,τ,k,h1,h2,h3,h4⟩:=h e hs u st0 hu;refine⟨fun hs'=>hs'=hs,fun _=>(dQ th u st0.hs).2,rfl,rfl,h2,h3,fun e' hs' he hρ=>?_⟩;subst hρ;obtain⟨e1',q1,q2,q3⟩:=h4 e' hs' he k
  simp_all
 simp_all
def apj {v:n9}{rs:V_}(h:aqQ v=some rs):jn KW (db v r) (bV rs) (bC rs):=by
 unfold aqQ at h;split at h<;>simp only[ae,reduceCtorEq]at h<;>subst h
 .rename_i n t p;refine jn.rdsW (fun vs hs=>match vs with | [p]=>(match loadAt hs.heap n t p with | some (v,h)=>some (v,⟨h,hs.next⟩) | none=>none) | _=>none) fun e hs=>?_
  grind [db,D5,rdAll]
 .rename_i n p x;refine jn.rdsW (fun vs hs=>match vs with | [p,v]=>(match storeAt hs.heap n p v with | some h=>some (.junk,⟨h,hs.next⟩) | none=>none) | _=>none) fun e hs=>?_
  simp only[db,anf,rdAll]
  grind
 .rename_i m x y;refine jn.rdsW (fun vs hs=>match vs with
   | [a,b]=>(match YP m (.c a) (.c b) ⟨[],hs⟩ with | some (v,st)=>some (v,st.hs) | none=>none)
   | _=>none) fun e hs=>?_
  simp only[db,YP,rdAll]
  cases rd e x with
  | none=>rfl
  | some q =>
   obtain⟨a,e1⟩:=q;simp only
   cases rd e1 y with
   | none=>rfl
   | some q =>
    obtain⟨b,e2⟩:=q;simp only[rd]
    cases elems hs.heap b with
    | none=>rfl
    | some ys =>
     simp only;split<;>grind
 .rename_i z x;refine jn.rdsW (fun vs hs=>match vs with
   | [a]=>(match Tf z (.c a) ⟨[],hs⟩ with | some (v,st)=>some (v,st.hs) | none=>none)
   | _=>none) fun e hs=>?_
  simp only[db,Tf,rdAll]
  grind [rd]
 .rename_i f args;refine jn.rdsW (fun vs hs=>r.call f vs hs) fun e hs=>?_
  grind [db,DK]
 .refine jn.rdsW (fun vs hs=>match vs with | fv::vs=>cf r fv vs hs | []=>none) fun e hs=>?_
  grind [db,DH,rdAll]
def AK {i:VI}{R M:C_}(h:ka i=some (R,M)):aeM (cU r i) R M:=by
 unfold ka at h;split at h
 .rename_i k R0 M0 hk;obtain⟨rfl,rfl⟩:=h;exact(oD hk).w k.self
 .split at h
  .rename_i rs hrs;obtain⟨rfl,rfl⟩:=h;refine Tg.w (K:=KW) ?_ fun _ _ _ h=>h
   cases hth:i.th with
   | nil=>exact t4 (Ag hth) (jn.firm (apj hrs)) KW.id
   | cons p th=>exact t4 (ajP hth) (jn.thawW (apj hrs) (p::th)) KW.id
  simp_all
theorem Rh {i:VI}{k:Ck}{R M:C_}(h:jP i=some (k,R,M)) {d:Nat}(hd:i.dst=some d):d∈M:=by
 grind [yM,jP]
theorem Fm {i:VI}{R M:C_}(h:ka i=some (R,M)) {d:Nat}(hd:i.dst=some d):d∈M:=by
 grind [ka,Rh,yM]
def Wj {e e':aV}:∀ {ws:C_},(∀ k∈ws,get e' k=get e k)->Te e' ws=Te e ws
 | [],_=>rfl
 | w::ws,h=>by
  simp only[Te,h w (.head _),Wj fun k hk=>h k (.tail _ hk)]
def kG {a:Bool}{i:VI}{R M:C_}(h:zK a i=some (R,M)) (F:C_):aeM (bX r a F i) R M:=by
 unfold zK at h;split at h
 .rename_i R0 M0 hf
  cases a with
  | false =>
   obtain⟨rfl,rfl⟩:=h;exact AK hf
  | true =>
   obtain⟨rfl,rfl⟩:=h;have hl:=AK (r:=r) hf;intro e hs st1 hr;have hids:∀ e',(∀ k∈R0++QE (Ta i.op),get e' k=get e k)->nW i e'=nW i e:=fun e' he=>Wj fun k hk=>he k (gL _ hk)
   have hR0:∀ e',(∀ k∈R0++QE (Ta i.op),get e' k=get e k)->∀ k∈R0,get e' k=get e k:=fun e' he k hk=>he k (df _ hk)
   simp only[bX,wj]at hr;split at hr
   .split at hr
    .rename_i st2 h2;split at hr
     .simp only[ae]at hr;subst hr;obtain⟨q1,q2,q3⟩:=hl e hs _ h2;refine⟨q1,q2,fun e' he=>?_⟩;obtain⟨e1',p1,p2,p3⟩:=q3 e' (hR0 e' he)
      grind [bX,wj]
     simp_all
    simp_all
   .split at hr
    .rename_i st2 h2;split at hr
     .split at hr
      .split at hr
       .simp only[ae]at hr;subst hr;obtain⟨q1,q2,q3⟩:=hl e hs _ h2;refine⟨q1,q2,fun e' he=>?_⟩;obtain⟨e1',p1,p2,p3⟩:=q3 e' (hR0 e' he)
        grind [Fm,bX,wj]
       simp_all
      simp_all
     simp_all
    simp_all
   .split at hr
    .rename_i st2 h2;simp only[ae]at hr;subst hr;obtain⟨q1,q2,q3⟩:=hl e _ _ h2;refine⟨q1,q2,fun e' he=>?_⟩;obtain⟨e1',p1,p2,p3⟩:=q3 e' (hR0 e' he)
     simp_all [bX,wj]
    simp_all
 simp_all
theorem wM {f1 f2:St->Z_}{R1 M1 R2 M2:C_}(h1:aeM f1 R1 M1) (h2:aeM f2 R2 M2) (d1:∀ k∈M1,k∉R2∧k∉M2) (d2:∀ k∈M2,k∉R1∧k∉M1) {e e1 e2:aV}{hs hs1 hs2 hsB:HS}(hsrt:cO e)
  (a:f1 ⟨e,hs⟩=some ⟨e1,hs1⟩) (b:f2 ⟨e1,hs1⟩=some ⟨e2,hs2⟩) (i:f2 ⟨e1,hs⟩=some ⟨e2,hsB⟩) (ii:f1 ⟨e,hsB⟩=some ⟨e1,hs2⟩) :
  ∃ st1',f2 ⟨e,hs⟩=some st1'∧f1 st1'=some ⟨e2,hs2⟩:=by
 obtain⟨s1,g1,_⟩:=h1 e hs _ a;obtain⟨s2,g2,l2⟩:=h2 e1 hs _ i;obtain⟨e',k1,k2,k3⟩:=l2 e fun k hk=>(g1 k fun hm=>(d1 k hm).1 hk).symm
 obtain⟨s3,g3,l3⟩:=h1 e hsB _ ii;obtain⟨e'',m1,m2,m3⟩:=l3 e' fun k hk=>k2 k fun hm=>(d2 k hm).1 hk
 refine⟨⟨e',hsB⟩,k1,?_⟩;rw[m1];obtain⟨t1,_,_⟩:=h2 e hs _ k1;obtain⟨t2,_,_⟩:=h1 e' hsB _ m1
 congr 2
 refine uY (t2 (t1 hsrt)) (s2 (s1 hsrt)) fun k=>?_
 by_cases hk1:k∈M1
 all_goals grind
def aqw {v:n9}(hv:sOp v=true) {e:aV}{hs:HS}{x:AV}{st1:St}(h:db v r ⟨e,hs⟩=some (x,st1)):st1.hs=hs∧∀ hs',db v r ⟨e,hs'⟩=some (x,⟨st1.env,hs'⟩):=by
 cases v<;>simp only[sOp,ao]at hv
 all_goals
  simp only[db,Tt,li,Ex,Nx,Hu,Pb,Th,LI,Mo,ZP,I3,Ip,ml,abe,Ne,Mg,Vz,NO,BO,Tj,Nr,Az]at h⊢
  repeat' split at h
  all_goals grind
end
abbrev jt:=@Nat.ne_of_beq_eq_false
section
variable {r:dz}
def IY {l:R_}(h:Mh l=true):l=[]:=by
 grind [Mh]
theorem Ni {a:Bool}{F:C_}{i:VI}(h:kS a i=true) {e:aV}{hs:HS}{st1:St}(hr:bX r a F i ⟨e,hs⟩=some st1):st1.hs=hs∧∀ hs',bX r a F i ⟨e,hs'⟩=some ⟨st1.env,hs'⟩:=by
 simp only[kS,af,cB]at h;obtain⟨⟨ha,hth⟩,hop⟩:=h;have hth:=IY hth;subst ha;simp only[bX]at hr⊢;have go:∀ st1,gj r i ⟨e,hs⟩=some st1->st1.hs=hs∧∀ hs',gj r i ⟨e,hs'⟩=some ⟨st1.env,hs'⟩:=by
  intro st1 h;unfold gj at h;simp only[hth]at h;split at h
  .rename_i v st0 hv;simp only[ae]at h;subst h;obtain⟨q1,q2⟩:=aqw hop hv;refine⟨by cases i.dst<;>exact q1,fun hs'=>?_⟩;unfold gj;simp only[hth,q2 hs']
   cases i.dst<;>rfl
  simp_all
 unfold cU at hr
 cases hg:i.guard with
 | none =>
  grind [cU]
 | some sw =>
  rw[hg]at hr;simp only at hr;split at hr
  .rename_i b hb;split at hr
   .grind [cU]
   .rename_i hbw;simp only[ae]at hr;subst hr;exact⟨by cases i.dst<;>rfl,fun hs'=>by unfold cU;rw[hg];simp only[hb,hbw];cases i.dst<;>rfl⟩
  .rename_i hb;simp only[ae]at hr;subst hr;exact⟨by cases i.dst<;>rfl,fun hs'=>by unfold cU;rw[hg];simp only[hb];cases i.dst<;>rfl⟩
  simp_all
theorem Vp {i:VI}(h:isQ i=true):∃ R M,jP i=some (.q,R,M):=by
 grind [isQ]
theorem Wx {i:VI}(h:isP i=true):∃ R M,jP i=some (.p,R,M):=by
 grind [isP]
theorem JZ {i:VI}(h:HX i=true):tF i.op=.read:=by
 grind [HX]
def apA {i:VI}(h:ag0 i=true):tF i.op=.take:=by
 grind [ag0]
theorem acC {i:VI}(h:WK i=true):tF i.op=.call:=by
 grind [WK]
theorem SQ {a:Bool}{F:C_}{i:VI}(h:Vx a i=true) {e:aV}{hs:HS}{st1:St}(hr:bX r a F i ⟨e,hs⟩=some st1):st1.hs=hs:=by
 simp only[Vx,af,cV,cB]at h;obtain⟨hq,hn⟩:=h;obtain⟨R,M,hk⟩:=Vp hq;have plain:cU r i ⟨e,hs⟩=some st1->st1.hs=hs:=fun h=>by
  obtain⟨ρ,τ,K,q1,_⟩:=oD hk e hs st1 h;rw[q1];exact K.2 hs
 cases a<;>grind [JZ,bX,wj]
def Tu {K:HK}{f:St->Z_}{R M:C_}(hl:Tg K f R M) {e:aV}(hsrt:cO e) {hs:HS}{st1:St}(hr:f ⟨e,hs⟩=some st1):∃ ρ τ,K hs ρ τ∧st1.hs=τ hs∧∀ hs',ρ hs'->f ⟨e,hs'⟩=some ⟨st1.env,τ hs'⟩:=by
 obtain⟨ρ,τ,k,q1,q2,q3,q4⟩:=hl e hs st1 hr;refine⟨ρ,τ,k,q1,fun hs' hρ=>?_⟩;obtain⟨e1',p1,p2,p3⟩:=q4 e hs' (fun _ _=>rfl) hρ;obtain⟨_,_,_,_,s2,_,_⟩:=hl e hs' _ p1
 grind [uY]
def ap9 {F F':C_}{u:VI}(hq:isQ u=true) (hn:HX u=true) {e:aV}(hsrt:cO e) {hs:HS}{st1:St}(hr:bX r true F u ⟨e,hs⟩=some st1) :
  ∀ hs',dw (dK (nW u e) hs.heap) (dK (nW u e) hs'.heap)->bX r true F' u ⟨e,hs'⟩=some ⟨st1.env,hs'⟩:=by
 intro hs' hle;obtain⟨R,M,hk⟩:=Vp hq;have hn:=JZ hn;simp only[bX,wj,hn]at hr⊢;split at hr
 .rename_i st2 h2;simp only[ae]at hr;subst hr;obtain⟨ρ,τ,K,q1,q2⟩:=Tu (oD hk) hsrt h2;rw[q2 ⟨dK (nW u e) hs'.heap,hs'.next⟩ (K.1 _ hle)]
 simp_all
def aqn {F:C_}{v:VI}(hn:WK v=true) {e:aV}{hs:HS}{st1:St}(hr:bX r true F v ⟨e,hs⟩=some st1):dI F hs.heap st1.hs.heap=true:=by
 grind [acC,bX,wj]
def aeD {a:Bool}{F F':C_}{v:VI}{st st1:St}(hsub:∀ k∈F',k∈F) (hr:bX r a F v st=some st1):bX r a F' v st=some st1:=by
 cases a<;>grind [bX,wj,acI]
def asD (a:Bool) (v:VI) (e:aV) {F F':C_}(hsub:∀ k∈F',k∈F):∀ k∈jU a v e F',k∈jU a v e F:=by
 intro k hk;unfold jU at hk⊢
 grind
def av8 (a:Bool) (v:VI) (e:aV) (F:C_):∀ k∈F,k∈jU a v e F:=by
 intro k hk;unfold jU
 grind
theorem VL {nr:C_}{vs:T_}:∀ {l:C_}{F F':C_}{st st':St},(∀ k∈F',k∈F)->fE r nr vs l F st=some st'->fE r nr vs l F' st=some st'
 | [],_,_,_,_,_,h=>h
 | i::l,F,F',st,st',hsub,h=>by
  simp only[fE]at h⊢;split at h
  .simp at h
  .split at h
   .simp at h
   .rename_i st1 h1;simp only[aeD hsub h1];exact VL (asD _ _ _ hsub) h
theorem akZ {a:Bool}{F:C_}{v:VI}{e:aV}{hs:HS}(hsrt:cO e) {R M:C_}(hf:a=false∨tF v.op≠.read∨jP v=some (.q,R,M)) {st1:St}(hr:bX r a F v ⟨e,hs⟩=some st1):cU r v ⟨e,hs⟩=some st1:=by
 cases a with
 | false=>exact hr
 | true =>
  simp only[bX,wj]at hr;split at hr
  .grind
  .grind
  .rename_i hn;split at hr
   .rename_i st2 h;simp only[ae]at hr;subst hr;have hk:=(hf.resolve_left s_).resolve_left (fun h=>h hn);obtain⟨ρ,τ,K,q1,q2⟩:=Tu (oD hk) hsrt h;have:=q2 hs (K.1 _ (dw.only _ _));rw[K.2 hs]at this;exact this
   simp_all
theorem t8 {a b:Bool}{u v:VI}(h:Fy a b u v=true):∃ R1 M1 R2 M2,zK a u=some (R1,M1)∧zK b v=some (R2,M2)∧(∀ k∈M1,k∉R2∧k∉M2)∧∀ k∈M2,k∉R1∧k∉M1:=by
 grind [Fy,jp]
def ak4 {a:Bool}{v:VI}{R M:C_}(h:zK a v=some (R,M)) {e e':aV}(he:∀ k∈R,get e' k=get e k) (F:C_):jU a v e' F=jU a v e F:=by
 cases a with
 | false=>rfl
 | true =>
  unfold zK at h;split at h
  .obtain⟨rfl,rfl⟩:=h;have:nW v e'=nW v e:=Wj fun k hk=>he k (gL _ hk)
   grind [jU]
  simp_all
def Rr (r:dz) (a b:Bool) (u v:VI) (F:C_) (st st1 st2:St):Prop :=
 ∃ st1',bX r b F v st=some st1'∧bX r a (jU b v st.env F) u st1'=some st2∧∀ k∈jU a u st1'.env (jU b v st.env F),k∈jU b v st1.env (jU a u st.env F)
theorem arL {a b:Bool}{u v:VI}{R1 M1 R2 M2:C_}(f1:zK a u=some (R1,M1)) (f2:zK b v=some (R2,M2)) (d1:∀ k∈M1,k∉R2∧k∉M2) (d2:∀ k∈M2,k∉R1∧k∉M1) {F:C_}{st st1 st2 st1':St}
  (h1:bX r a F u st=some st1) (k1:bX r b F v st=some st1') (k2:bX r a (jU b v st.env F) u st1'=some st2):Rr r a b u v F st st1 st2:=by
 refine⟨st1',k1,k2,?_⟩;obtain⟨e,hs⟩:=st;obtain⟨_,g1,_⟩:=kG (r:=r) f1 F e hs _ h1;obtain⟨_,g2,_⟩:=kG (r:=r) f2 F e hs _ k1;rw[ak4 f1 (e:=e) (e':=st1'.env) (fun k hk=>g2 k fun hm=>(d2 k hm).1 hk),ak4 f2 (e:=e) (e':=st1.env) (fun k hk=>g1 k fun hm=>(d1 k hm).1 hk)];intro k hk
 cases a with
 | false=>exact hk
 | true =>
  cases b<;>grind [jU]
theorem XB {a b:Bool}{u v:VI}(h:TE a b u v=true) {F:C_}{st st1 st2:St}(hsrt:cO st.env) (h1:bX r a F u st=some st1) (h2:bX r b (jU a u st.env F) v st1=some st2):Rr r a b u v F st st1 st2:=by
 simp only[TE,af,cV]at h;obtain⟨hap,h⟩:=h;obtain⟨R1,M1,R2,M2,f1,f2,d1,d2⟩:=t8 hap;have l1:=fun F=>kG (r:=r) f1 F
 have l2:=fun F=>kG (r:=r) f2 F
 have h2':=aeD (F':=F) (av8 a u st.env F) h2;have fin:(∃ st1',bX r b F v st=some st1'∧bX r a F u st1'=some st2)->(∀ {s s':St},bX r a F u s=some s'->bX r a (jU b v st.env F) u s=some s')->Rr r a b u v F st st1 st2:=by
  grind [arL]
 obtain⟨e,hs⟩:=st;obtain⟨e1,hs1⟩:=st1;obtain⟨e2,hs2⟩:=st2;rcases h with ((h | h) | h) | h
 .obtain⟨q1,q2⟩:=Ni h h1;subst q1;refine fin (wM (l1 F) (l2 F) d1 d2 hsrt h1 h2' h2' (q2 hs2)) fun {s s'} hs=>?_
  simp only[kS,af,cB]at h;rw[h.1.1]at hs⊢;exact hs
 .obtain⟨q1,q2⟩:=Ni h h2';subst q1;refine fin (wM (l1 F) (l2 F) d1 d2 hsrt h1 h2' (q2 hs) h1) fun {s s'} hs=>?_
  simp only[kS,af,cB]at h;rw[h.1.1];exact hs
 .have q1:=SQ h.1 h1;have q2:=SQ h.2 h2'
  grind [wM,Vx,Bool.not_eq_true',JZ,bX,wj]
 .simp only[ag2,af]at h;obtain⟨⟨⟨⟨rfl,rfl⟩,hq⟩,hn⟩,hc⟩:=h;have q1:=SQ (r:=r) (a:=true) (i:=u) (by grind [Vx]) h1;subst q1;have hnu:=JZ hn;have hsame:=aqn hc h2;have hle:=dw.same (ids:=nW u e) hsame (fun k hk=>by grind [jU]);have hF:jU true v e F=F:=by grind [jU,acC]
  refine fin (wM (l1 F) (l2 F) d1 d2 hsrt h1 h2' h2' (ap9 hq hn hsrt h1 hs2 hle)) fun {s s'} hs=>?_
  simp_all
def Ks (m:Bool) (vs:D_) (i:Nat):D_:=match m with | true=>vs.set i .junk | false=>vs
def Wz (m:Bool) (e:aV) (j:Nat) (vs:D_) (i:Nat):aV:=match m with | true=>put e j (.tup (Ks m vs i)) | false=>e
def alg (m:Bool) (x:AV):AV:=match m with | true=>x | false=>share x
def ak8 {m:Bool}{vs:D_}{i k:Nat}(h:i≠k):(Ks m vs i)[k]?=vs[k]?:=by
 cases m
 .rfl
 .exact List.getElem?_set_ne h
theorem anI {m n:Bool}{vs:D_}{i k:Nat}(h:i≠k):Ks n (Ks m vs i) k=Ks m (Ks n vs k) i:=by
 cases m<;>cases n<;>try rfl
 exact List.set_comm _ _ h
theorem VR {m:Bool}{e:aV}{j:Nat}{vs:D_}{i:Nat}(hj:get e j=some (.tup vs)) (q:Nat):get (Wz m e j vs i) q=if q=j then some (.tup (Ks m vs i)) else get e q:=by
 cases m
 all_goals grind [Wz,Ks,fD]
theorem Jd {m:Bool}{e:aV}(h:cO e) (j:Nat) (vs:D_) (i:Nat):cO (Wz m e j vs i):=by
 cases m
 .exact h
 .exact h.put _ _
theorem Mu {u:VI}{j:Nat}{m:Bool}{i d:Nat}(ho:u.op=.ext j m i) (hd:u.dst=some d) (hg:u.guard=none) (ht:u.th=[]) (e:aV) (hs:HS):cU r u ⟨e,hs⟩ =
  match get e j with
  | some (.tup vs)=>match vs[i]? with
   | some x=>some ⟨put (Wz m e j vs i) d (firm (alg m x)),hs⟩
   | none=>none
  | _=>none:=by
 unfold cU gj;simp only[hg,ho,db,BO,hd,ht]
 cases get e j with
 | none=>rfl
 | some w =>
  cases w<;>try rfl
  rename_i vs;simp only
  cases vs[i]? with
  | none=>rfl
  | some x=>cases m<;>rfl
def aqR {u v:VI}{j i k d c:Nat}{m n:Bool}(o1:u.op=.ext j m i) (o2:v.op=.ext j n k) (d1:u.dst=some d) (d2:v.dst=some c) (g1:u.guard=none) (g2:v.guard=none) (ht1:u.th=[]) (ht2:v.th=[])
  (hik:i≠k) (hdc:d≠c) (hdj:d≠j) (hcj:c≠j) {st st1 st2:St}(hsrt:cO st.env) (h1:cU r u st=some st1) (h2:cU r v st1=some st2):∃ st1',cU r v st=some st1'∧cU r u st1'=some st2:=by
 obtain⟨e,hs⟩:=st;rw[Mu o1 d1 g1 ht1]at h1;split at h1
 .rename_i vs hj;split at h1
  .rename_i x hx;simp only[ae]at h1;subst h1;rw[Mu o2 d2 g2 ht2]at h2;have hj1:get (put (Wz m e j vs i) d (firm (alg m x))) j=some (.tup (Ks m vs i)):=by
    grind [fD,VR]
   rw[hj1]at h2;simp only[ak8 hik]at h2;split at h2
   .rename_i y hy;simp only[ae]at h2;subst h2;have hj2:get (put (Wz n e j vs k) c (firm (alg n y))) j=some (.tup (Ks n vs k)):=by
     grind [fD,VR]
    refine⟨⟨put (Wz n e j vs k) c (firm (alg n y)),hs⟩,by grind [Mu],?_⟩;rw[Mu o1 d1 g1 ht1,hj2];simp only[ak8 (fun h:k=i=>hik h.symm),hx,ae]
    congr 1
    refine uY ((Jd ((Jd hsrt _ _ _).put _ _) _ _ _).put _ _) ((Jd ((Jd hsrt _ _ _).put _ _) _ _ _).put _ _) fun q=>?_
    grind [fD,VR,anI]
   simp_all
  simp_all
 simp_all
theorem QC {a b:Bool}{u v:VI}(h:rS a b u v=true) {F:C_}{st st1 st2:St}(hsrt:cO st.env) (h1:bX r a F u st=some st1) (h2:bX r b (jU a u st.env F) v st1=some st2):Rr r a b u v F st st1 st2:=by
 simp only[rS,af,cB]at h;obtain⟨⟨⟨⟨rfl,rfl⟩,ht1⟩,ht2⟩,h⟩:=h;have ht1:=IY ht1;have ht2:=IY ht2;split at h
 .rename_i j m i l n k d c o1 o2 d1 d2 g1 g2;simp only[af,cB,aC]at h;obtain⟨⟨⟨⟨rfl,hik⟩,hdc⟩,hdj⟩,hcj⟩:=h;obtain⟨st1',k1,k2⟩:=aqR o1 o2 d1 d2 g1 g2 ht1 ht2 (jt hik) (jt hdc) (jt hdj) (jt hcj) hsrt h1 h2;exact⟨st1',k1,k2,fun k hk=>hk⟩
 simp_all
def al2 {a b:Bool}{u v:VI}(h:rS a b u v=true):kS a u=true:=by
 grind [rS,kS,sOp]
end
abbrev lL:=@List.map_set
abbrev uv:=@List.getElem?_set_self
section
variable {r:dz}
theorem aeY {cs:D_}{off:Nat}{w:AV}(h:cs[off]?=some w):jT (.cells cs) (.cells (cs.set off (share w))):=by
 simp only[jT,j7,lL,EL];refine dF fun i=>?_
 grind
def aox (w:AV):Prop:=(∃ p m xs,w=.own p m xs)∨w=.nl
def aor {w:AV}(h:Kx (firm w)=true):aox w:=by
 cases w with
 | own p m xs=>exact .inl ⟨_,_,_,rfl⟩
 | nl=>exact .inr rfl
 | _=>grind [firm,Kx]
theorem Mc {a:Bool}{i:VI}(h:Cj a i=true):∃ p,a=true∧i.op=.ld none 2 p∧i.th=[]:=by
 simp only[Cj,af]at h;obtain⟨⟨ha,hn⟩,hth⟩:=h;have hth:=IY hth;have hn:=apA hn;unfold tF at hn
 grind
theorem asL {a:Bool}{i:VI}(h:Cj a i=true) (e:aV) (F:C_):jU a i e F=F:=by
 obtain⟨p,rfl,hop,hth⟩:=Mc h
 grind [jU,tF]
theorem avI {id off:Nat}{cs:D_}{w:AV}{h:ak}(hg:get h id=some (.cells cs)) (hw:cs[off]?=some w):loadAt h none 2 (.ptr id off)=some (w,put h id (.cells (cs.set off (share w)))):=by
 grind [loadAt,qU]
def Ot {a:Bool}{F:C_}{u:VI}(h:Cj a u=true) {e e1:aV}{hs hs1:HS}(hr:bX r a F u ⟨e,hs⟩=some ⟨e1,hs1⟩):∃ id off cs w,get hs.heap id=some (.cells cs)∧cs[off]?=some w∧aox w∧
  hs1=⟨put hs.heap id (.cells (cs.set off (share w))),hs.next⟩∧
   ∀ hs' cs',get hs'.heap id=some (.cells cs')->cs'[off]?=some w->bX r a F u ⟨e,hs'⟩=some ⟨e1,⟨put hs'.heap id (.cells (cs'.set off (share w))),hs'.next⟩⟩:=by
 obtain⟨p,rfl,hop,hth⟩:=Mc h;have hn:tF u.op=.take:=by rw[hop];rfl
 simp only[bX,wj,hn]at hr⊢;split at hr
 .rename_i st1 h1;split at hr
  .rename_i d hd;split at hr
   .rename_i x hx;split at hr
    .rename_i ho;simp only[ae]at hr;subst hr;have go:gj r u ⟨e,hs⟩=some ⟨e1,hs1⟩∧∀ hs',cU r u ⟨e,hs'⟩=gj r u ⟨e,hs'⟩:=by
      have dead:∀ st1:St,some (cJ u.dst (.tup []) ⟨e,hs⟩)=some st1->get st1.env d=some x->False:=by
       grind [cJ,fD,Kx]
      unfold cU at h1
      cases hg:u.guard<;>grind [cU]
     obtain⟨hgo,hsame⟩:=go;unfold gj at hgo;simp only[hth,hop,db,D5]at hgo;split at hgo
     .rename_i v st0 hv;split at hv
      .rename_i pv e0 hp;split at hv
       .rename_i v' h1' hl;simp only[ae,aP]at hv;obtain⟨rfl,rfl⟩:=hv;rw[hd]at hgo;obtain⟨rfl,rfl⟩:=hgo;simp only[fD,bf,ae]at hx;subst hx;have hw:=aor ho;have back:∀ hs' h2,loadAt hs'.heap none 2 pv=some (v',h2)->(match cU r u ⟨e,hs'⟩ with
          | some st1=>match (some d:I_) with
           | some d=>match get st1.env d with
            | some a=>match Kx a with
             | true=>some st1
             | false=>none
            | none=>none
           | none=>none
          | none=>none)=some ⟨put e0 d (firm v'),⟨h2,hs'.next⟩⟩:=by
         simp_all [gj,db,D5,cJ,fD]
        cases pv<;>simp only[loadAt,reduceCtorEq]at hl
        .split at hl
         .split at hl
          .simp at hl
          .simp only[qU,ae,aP]at hl
           grind [avI]
         simp_all
        .split at hl
         .split at hl
          .split at hl
           .rename_i u hu;obtain⟨rfl,_⟩:=hl;unfold oq at hu;simp only at hu;split at hu
            .simp only[ae]at hu;subst hu;rcases hw with ⟨_,_,_,h⟩ | h<;>simp at h
            simp_all
           simp_all
          simp_all
         simp_all
        .split at hl
         .rename_i u hu;obtain⟨rfl,_⟩:=hl;unfold oq at hu;simp only at hu;split at hu
          .simp only[ae]at hu;subst hu;rcases hw with ⟨_,_,_,h⟩ | h<;>simp at h
          simp_all
         simp_all
       simp_all
      simp_all
     simp_all
    simp_all
   simp_all
  simp_all
 simp_all
theorem SF {α:Type}{l:List (Nat×α)}(h:cO l) (k:Nat) (a b:α):put (put l k a) k b=put l k b:=by
 grind [uY,cO.put,fD]
theorem asz {α:Type}{l:List (Nat×α)}(h:cO l) {j k:Nat}(hjk:j≠k) (a b:α):put (put l j a) k b=put (put l k b) j a:=by
 grind [uY,cO.put,fD]
theorem akj {α:Type}{l:List (Nat×α)}(h:cO l) {j k:Nat}(hjk:j≠k) (a:α):put (del l k) j a=del (put l j a) k:=by
 grind [uY,cO.put,cO.del,fD,HE]
theorem auP {a b:Bool}{u v:VI}(hu:Cj a u=true) (hv:Cj b v=true) (hap:Fy a b u v=true) {F:C_}{st st1 st2:St}(inv:dk st) (h1:bX r a F u st=some st1) (h2:bX r b F v st1=some st2):∃ st1',bX r b F v st=some st1'∧bX r a F u st1'=some st2:=by
 obtain⟨R1,M1,R2,M2,f1,f2,d1,d2⟩:=t8 hap;have l1:=kG (r:=r) f1 F;have l2:=kG (r:=r) f2 F;obtain⟨e,hs⟩:=st;obtain⟨e1,hs1⟩:=st1;obtain⟨e2,hs2⟩:=st2;have hsh:cO hs.heap:=inv.sh;obtain⟨i1,o1,c1,w1,g1,k1,n1,rfl,b1⟩:=Ot hu h1;obtain⟨i2,o2,c2,w2,g2,k2,n2,rfl,b2⟩:=Ot hv h2;rw[fD]at g2;by_cases hi:i2=i1
 .subst hi;rw[ac rfl]at g2;simp only[ae,Obj.cells.injEq]at g2;subst g2;rw[SF hsh]at h2;by_cases ho:o1=o2
  .subst ho;have hlt:o1<c1.length:=by
    grind
   rw[uv hlt]at k2;simp only[ae]at k2;have hw1:w1=.nl:=by
    rcases n1 with ⟨p,m,xs,rfl⟩ | h
    .subst k2
     cases p<;>rcases n2 with ⟨_,_,_,h⟩ | h<;>simp[share]at h
    .exact h
   subst hw1;have hw2:w2=.nl:=by rw[<-k2];rfl
   subst hw2;rw[SF hsh];refine wM l1 l2 d1 d2 inv.se h1 h2 (b2 hs c1 g1 k1) ?_
   grind [fD]
  .rw[SF hsh];have k2':c1[o2]?=some w2:=u_;refine wM l1 l2 d1 d2 inv.se h1 h2 (b2 hs c1 g1 k2') ?_
   grind [fD,SF,List.set_comm]
 .rw[aa hi]at g2;refine wM l1 l2 d1 d2 inv.se h1 h2 (b2 hs c2 g2 k2) ?_
  grind [fD,asz]
def afg {b:Bool}{v:VI}(h:isP v=true) (hb:(!b || Cj b v)=true):b=false:=by
 grind [Mc,isP,jP]
def auu {a:Bool}{u v:VI}(hu:Cj a u=true) (hv:isP v=true) (hap:Fy a false u v=true) {F:C_}{st st1 st2:St}(inv:dk st) (h1:bX r a F u st=some st1) (h2:cU r v st1=some st2):∃ st1',cU r v st=some st1'∧bX r a F u st1'=some st2:=by
 obtain⟨R1,M1,R2,M2,f1,f2,d1,d2⟩:=t8 hap;have l1:=kG (r:=r) f1 F;have l2:=kG (r:=r) f2 F;obtain⟨e,hs⟩:=st;obtain⟨e1,hs1⟩:=st1;obtain⟨e2,hs2⟩:=st2;have hsh:cO hs.heap:=inv.sh;have s1:cO e1:=(l1 e hs _ h1).1 inv.se;obtain⟨i1,o1,c1,w1,g1,k1,n1,rfl,b1⟩:=Ot hu h1;have hle:dw (put hs.heap i1 (.cells (c1.set o1 (share w1)))) hs.heap:=(dw.upd (o:=some (.cells (c1.set o1 (share w1)))) g1 (fun o1 ho=>by grind [aeY])).2;obtain⟨R,M,hk⟩:=Wx hv;obtain⟨ρ,τ,K,q1,q2⟩:=Tu (oD hk) s1 h2;simp only at q1 q2;subst q1;rcases K with K | ⟨id,⟨m,xs,ga⟩,hρ,hτ⟩
 .have hi:=q2 hs (K.1 _ hle);rw[K.2]at hi h2⊢;exact wM l1 l2 d1 d2 inv.se h1 h2 hi h1
 .have hi:=q2 hs (hρ _ hle);have hne:i1≠id:=by
   grind [fD]
  refine wM l1 l2 d1 d2 inv.se h1 h2 hi ?_
  grind [HE,akj]
def aws {b:Bool}{u v:VI}(hu:isP u=true) (hv:Cj b v=true) (hap:Fy false b u v=true) {F:C_}{st st1 st2:St}(inv:dk st) (h1:cU r u st=some st1) (h2:bX r b F v st1=some st2):∃ st1',bX r b F v st=some st1'∧cU r u st1'=some st2:=by
 obtain⟨R1,M1,R2,M2,f1,f2,d1,d2⟩:=t8 hap;have l1:=kG (r:=r) f1 F;have l2:=kG (r:=r) f2 F;obtain⟨e,hs⟩:=st;obtain⟨e1,hs1⟩:=st1;obtain⟨e2,hs2⟩:=st2;have hsh:cO hs.heap:=inv.sh;obtain⟨R,M,hk⟩:=Wx hu;obtain⟨ρ,τ,K,q1,q2⟩:=Tu (oD hk) inv.se h1;subst q1;obtain⟨i2,o2,c2,w2,g2,k2,n2,rfl,b2⟩:=Ot hv h2;have hle:∀ {h:ak},get h i2=some (.cells c2)->dw h (put h i2 (.cells (c2.set o2 (share w2)))):=fun g=>(dw.upd (o:=some (.cells (c2.set o2 (share w2)))) g (fun o1 ho=>by grind [aeY])).1
 rcases K with K | ⟨id,_,hρ,hτ⟩
 .simp only[K.2]at g2 h2 h1 q2⊢;exact wM l1 l2 d1 d2 inv.se h1 h2 h2 (q2 _ (K.1 _ (hle g2)))
 .simp only[hτ]at g2 h2 h1 q2⊢;rw[HE]at g2;split at g2
  .simp at g2
  .rename_i hne;refine wM l1 l2 d1 d2 inv.se h1 h2 (b2 hs c2 g2 k2) ?_;have:=q2 ⟨put hs.heap i2 (.cells (c2.set o2 (share w2))),hs.next⟩ (hρ _ (hle g2));rw[akj hsh hne];exact this
def Nv {a:Bool}{u:VI}(h:(!a || Cj a u)=true) {F:C_}{st st1:St}(hr:bX r a F u st=some st1):cU r u st=some st1∧(a=true->∃ d x,u.dst=some d∧get st1.env d=some x∧Kx x=true):=by
 cases a with
 | false=>exact⟨hr,fun h=>by simp at h⟩
 | true =>
  obtain⟨p,_,hop,hth⟩:=Mc h;have hn:tF u.op=.take:=by rw[hop];rfl
  simp only[bX,wj,hn]at hr
  grind
def acJ {a:Bool}{u:VI}(h:(!a || Cj a u)=true) {F:C_}{st st1:St}(hr:cU r u st=some st1) (ho:a=true->∃ d x,u.dst=some d∧get st1.env d=some x∧Kx x=true):bX r a F u st=some st1:=by
 cases a with
 | false=>exact hr
 | true =>
  obtain⟨p,_,hop,hth⟩:=Mc h;have hn:tF u.op=.take:=by rw[hop];rfl
  grind [bX,wj]
theorem ON {a:Bool}{u:VI}(h:(!a || Cj a u)=true) (e:aV) (F:C_):jU a u e F=F:=by
 cases a with
 | false=>rfl
 | true=>grind [asL]
theorem acm {u v:VI}(h:Hy u v=true):∃ k1 R1 M1 k2 R2 M2,jP u=some (k1,R1,M1)∧jP v=some (k2,R2,M2)∧(∀ k∈M1,k∉M2):=by
 grind [Hy,jp]
theorem alR {a b:Bool}{u v:VI}(h:W3 a b u v=true) {F:C_}{st st1 st2:St}(inv:dk st) (h1:bX r a F u st=some st1) (h2:bX r b (jU a u st.env F) v st1=some st2):Rr r a b u v F st st1 st2:=by
 simp only[W3,af]at h;obtain⟨⟨ha,hb⟩,h⟩:=h;rw[ON ha]at h2;have fin:(∃ st1',bX r b F v st=some st1'∧bX r a F u st1'=some st2)->Rr r a b u v F st st1 st2:=by
  intro ⟨st1',k1,k2⟩;refine⟨st1',k1,by grind [ON],?_⟩
  grind [ON]
 simp only[cV,af]at h;rcases h with h | ⟨hap,h⟩
 .obtain⟨p1,o1⟩:=Nv ha h1;obtain⟨p2,o2⟩:=Nv hb h2;obtain⟨st1',q1,q2⟩:=al7 h inv p1 p2;obtain⟨k1,R1,M1,k2,R2,M2,e1,e2,hap⟩:=acm h;obtain⟨en1,hs1⟩:=st1;obtain⟨en1',hs1'⟩:=st1';refine fin ⟨_,acJ hb q1 fun hn=>?_,acJ ha q2 fun hn=>?_⟩
  .obtain⟨d,x,hd,hx,ho⟩:=o2 hn;refine⟨d,x,hd,?_,ho⟩;obtain⟨_,_,_,_,_,g,_⟩:=oD e1 en1' hs1' _ q2
   grind [Rh]
  .obtain⟨d,x,hd,hx,ho⟩:=o1 hn;refine⟨d,x,hd,?_,ho⟩;obtain⟨_,_,_,_,_,g,_⟩:=oD e2 en1 hs1 _ p2
   grind [Rh]
 .rcases h with (h | h) | h
  .grind [auP]
  .have:=afg h.2 hb;subst this;exact fin (auu h.1 h.2 hap inv h1 h2)
  .have:=afg h.1 ha;subst this;exact fin (aws h.1 h.2 hap inv h1 h2)
theorem asN {a:Bool}{i:VI}(h:Cj a i=true):∃ R M,jP i=some (.t,R,M):=by
 obtain⟨p,_,hop,hth⟩:=Mc h
 simp_all [jP]
theorem agz {st st1:St}(inv:dk st) (he:cO st1.env) (hh:st1.hs=st.hs):dk st1:=⟨he,by grind [dk.sh],by grind [dk.fr]⟩
def avt {u:VI}{j:Nat}{m:Bool}{i d:Nat}(ho:u.op=.ext j m i) (hd:u.dst=some d) (hg:u.guard=none) (ht:u.th=[]) {st st1:St}(hs:cO st.env) (h1:cU r u st=some st1):cO st1.env:=by
 obtain⟨e,hs0⟩:=st
 grind [Mu,cO.put,Jd]
theorem U9 {a b:Bool}{u v:VI}(h:rS a b u v=true) {F:C_}{st st1:St}(hs:cO st.env) (h1:bX r a F u st=some st1):cO st1.env:=by
 simp only[rS,af,cB]at h;obtain⟨⟨⟨⟨rfl,rfl⟩,ht1⟩,ht2⟩,h⟩:=h;split at h
 .rename_i j m i l n k d c o1 o2 dd1 dd2 g1 g2;exact avt o1 dd1 g1 (IY ht1) hs h1
 simp_all
def asc {a b:Bool}{u v:VI}(h:kR a b u v=true) (hk:kS b v=false) {F:C_}{st st1:St}(inv:dk st) (h1:bX r a F u st=some st1):dk st1:=by
 simp only[kR,cV]at h;rcases h with (h | h) | h
 .obtain⟨e,hs⟩:=st;simp only[TE,af,cV]at h;obtain⟨hap,h⟩:=h;obtain⟨R1,M1,R2,M2,f1,f2,d1,d2⟩:=t8 hap;have se:=(kG (r:=r) f1 F e hs _ h1).1 inv.se
  grind [agz,Ni,SQ,ag2,Vx]
 .exact agz inv (U9 h inv.se h1) (Ni (al2 h) h1).1
 .simp only[af]at h;obtain⟨_,h⟩:=h;simp only[W3,af]at h;obtain⟨⟨ha,hb⟩,h⟩:=h;obtain⟨p1,_⟩:=Nv ha h1
  grind [acm,Iy,asN,Wx]
def as6 {a b:Bool}{u v:VI}(h:kR a b u v=true) (hk:kS b v=true) {F:C_}{st st1:St}(hs:cO st.env) (h1:bX r a F u st=some st1):cO st1.env:=by
 simp only[kR,cV]at h;rcases h with (h | h) | h
 .obtain⟨e,hs0⟩:=st;simp only[TE,af]at h;obtain⟨R1,M1,R2,M2,f1,f2,d1,d2⟩:=t8 h.1;exact(kG (r:=r) f1 F e hs0 _ h1).1 hs
 all_goals grind [U9]
def ayP {a b:Bool}{u v:VI}(h:kR a b u v=true) (hk:kS b v=true) {F:C_}{st st1 st2:St}(hs:cO st.env) (h1:bX r a F u st=some st1) (h2:bX r b (jU a u st.env F) v st1=some st2):Rr r a b u v F st st1 st2:=by
 grind [kR,XB,QC]
def ayA {a b:Bool}{u v:VI}(h:kR a b u v=true) {F:C_}{st st1 st2:St}(inv:dk st) (h1:bX r a F u st=some st1) (h2:bX r b (jU a u st.env F) v st1=some st2):Rr r a b u v F st st1 st2:=by
 grind [kR,XB,dk.se,QC,alR]
end
abbrev vg:=@List.nodup_cons
inductive Pa (ops:Array Oper):Nat->Nat->Prop
 | one {i:Nat}{o:Oper}{e:Edge}:ops[i]?=some o->e∈o.after->xL e.ground=true->Pa ops i e.on
 | more {i j:Nat}{o:Oper}{e:Edge}:ops[i]?=some o->e∈o.after->xL e.ground=true->Pa ops e.on j->Pa ops i j
def OU {k:Nat}:∀ {a l:C_},k∈Sx a l->k∈a∨k∈l
 | [],l,h=>.inr h
 | x::r,l,h=>by
  simp only[Sx]at h;split at h
  .rcases OU h with h | h<;>simp_all
  .rcases OU h with h | h<;>grind
def WR (ops:Array Oper) (tab:Q_):Prop:=∀ i l,get tab i=some l->∀ j∈l,Pa ops i j
theorem Xf {ops:Array Oper}{tab:Q_}(ht:WR ops tab) {i:Nat}{o:Oper}(ho:ops[i]?=some o):∀ {es:List Edge},(∀ e∈es,e∈o.after)->∀ j,j∈To tab es->Pa ops i j
 | [],_,j,h=>by simp[To]at h
 | e::r,hes,j,h=>by
  simp only[To]at h;have hr:=Xf ht ho (es:=r) (fun x hx=>hes x (.tail _ hx)) j;split at h
  .rename_i hw;rcases OU h with h | h
   .rcases az.1 h with rfl | h
    .exact .one ho (hes e (.head _)) hw
    .split at h
     .rename_i l hl;exact .more ho (hes e (.head _)) hw (ht _ _ hl _ h)
     simp_all
   simp_all
  simp_all
def Up {ops:Array Oper}:∀ {l:C_}{tab:Q_},WR ops tab->WR ops (H6 ops l tab)
 | [],_,ht=>ht
 | i::l,tab,ht=>by
  simp only[H6];refine Up fun k m h j hj=>?_
  rw[iW]at h;split at h
  .grind [Xf]
  .exact ht k m h j hj
def anv (anc:Q_) (nr:C_) (vs:T_) (j i:Nat):Prop :=
 (te anc i j=true∨∃ u v,vs[j]?=some u∧vs[i]?=some v∧kR (et j nr) (et i nr) u v=true)∨(uQ anc vs i=true∧(∀ k,k<vs.length->te anc k i=true->te anc k j=true)∧te anc j i=false)
def WO {anc:Q_}{i j:Nat}:∀ {n:Nat},Xk anc i j n=true->∀ k,k<n->te anc k i=true->te anc k j=true
 | 0,_,k,hk,_=>by omega
 | n+1,h,k,hk,hd=>by
  simp only[Xk,af,cV,cB]at h;by_cases e:k=n
  .simp_all
  .exact WO h.2 k o_ hd
def asF {ops:Array Oper}{anc:Q_}(ha:WR ops anc) {k i:Nat}(h:te anc k i=true):Pa ops k i:=by
 unfold te at h;split at h
 .rename_i l hl;exact ha _ _ hl _ (tO.1 h)
 simp_all
structure sq (P:Program) (n:Nat) (ops:Array Oper) (nr:C_) (vs:T_) (perm:C_) (anc:Q_):Prop where
 len:vs.length=ops.size
 vi:∀ (i:Nat) (v:VI) (o:Oper),vs[i]?=some v->ops[i]?=some o->CP P n ops v o=true
 edge:∀ (i:Nat) (o:Oper),ops[i]?=some o->∀ e∈o.after,e.on<ops.size∧(txG e.ground=true->e.on<i)
 pair:perm.Pairwise fun j i=>anv anc nr vs j i
 path:∀ k i,te anc k i=true->Pa ops k i
 gco:∃ gl:C_,(∀ i,i<ops.size->i∈gl)∧gl.Pairwise (fun j i=>∀ o,ops[j]?=some o->∀ e∈o.after,Y9 e.ground=true->e.on≠i)∧∀ j∈gl,∀ o,ops[j]?=some o->∀ e∈o.after,Y9 e.ground=true->e.on≠j
 nd:perm.Nodup
 lt:∀ i∈perm,i<ops.size
 near:∀ (i:Nat) (v:VI),et i nr=true->vs[i]?=some v->tF v.op≠.read∨∃ R M,jP v=some (.q,R,M)
 all:∀ i,i<ops.size->i∈perm
def UL {P:Program}{n:Nat}{ops:Array Oper}{k:Nat}:∀ {vs:T_}{os:List Oper}{b:Nat},HD P n ops k b vs os=true->vs.length=os.length∧
  ∀ (i:Nat) (v:VI) (o:Oper),vs[i]?=some v->os[i]?=some o->CP P n ops v o=true∧∀ e∈o.after,e.on<k∧(txG e.ground=true->e.on<b+i)
 | [],[],_,_=>⟨rfl,fun i v o h=>by simp at h⟩
 | x::vs,p::os,b,h=>by
  simp only[HD,af]at h;obtain⟨⟨h1,h3⟩,h4⟩:=h;obtain⟨k1,k2⟩:=UL h4
  grind [Nat.blt_eq]
 | [],_::_,_,h=>by simp[HD]at h
 | _::_,[],_,h=>by simp[HD]at h
def T8 {anc:Q_}{nr:C_}{vs:T_}{j:Nat}:∀ {l:C_},TC anc nr vs j l=true->∀ i∈l,anv anc nr vs j i
 | [],_,i,hi=>by simp at hi
 | x::r,h,i,hi=>by
  simp only[TC,af,cV]at h;rcases az.1 hi with rfl | hi
  .rcases h.1 with (h | h) | h
   .exact .inl (.inl h)
   .split at h
    .rename_i u v h1 h2;exact .inl (.inr ⟨u,v,h1,h2,h⟩)
    simp_all
   .simp only[cB]at h;exact .inr ⟨h.1.1,WO h.1.2,h.2⟩
  .exact T8 h.2 i hi
def amY {ops:Array Oper}{j:Nat}{l:C_}(h:ae3 ops j l=true):∀ i∈l,∀ o,ops[j]?=some o->∀ e∈o.after,Y9 e.ground=true->e.on≠i:=by
 grind [ae3,tO]
def acb {ops:Array Oper}:∀ {l:C_},aee ops l=true->l.Pairwise (fun j i=>∀ o,ops[j]?=some o->∀ e∈o.after,Y9 e.ground=true->e.on≠i)∧∀ j∈l,∀ o,ops[j]?=some o->∀ e∈o.after,Y9 e.ground=true->e.on≠j
 | [],_=>⟨.nil,fun i hi=>by simp at hi⟩
 | j::r,h=>by
  simp only[aee,af]at h;obtain⟨h0,h4⟩:=h;obtain⟨k4,k5⟩:=acb h4;have hw:=amY h0
  simp_all
def UI {ops:Array Oper}{anc:Q_}{nr:C_}{vs:T_}:∀ {l:C_},Sy ops anc nr vs l=true->l.Pairwise (fun j i=>anv anc nr vs j i)∧
  l.Nodup∧∀ i∈l,i<vs.length
 | [],_=>⟨.nil,.nil,fun i hi=>by simp at hi⟩
 | j::r,h=>by
  simp only[Sy,af,cB]at h;obtain⟨⟨⟨h1,h2⟩,h3⟩,h4⟩:=h;obtain⟨k1,k2,k3⟩:=UI h4;refine⟨.cons (T8 h1) k1,vg.2 ⟨fun hm=>?_,k2⟩,fun i hi=>?_⟩
  all_goals grind [tO,Nat.blt_eq]
theorem QM {l:C_}:∀ {n:Nat},Zh l n=true->∀ i,i<n->i∈l
 | 0,_,i,hi=>by omega
 | n+1,h,i,hi=>by
  simp only[Zh,af]at h;rcases bB i n with h1 | h1
  .exact QM h.2 i h1
  grind [tO]
def aca {vs:T_}:∀ {nr:C_},aef vs nr=true->∀ (i:Nat) (v:VI),et i nr=true->vs[i]?=some v->tF v.op≠.read∨∃ R M,jP v=some (.q,R,M)
 | [],_,i,v,h,_=>by simp[et]at h
 | j::r,h,i,v,hg,hv=>by
  simp only[aef,af]at h;rcases az.1 (tO.1 hg) with e | hm
  .grind [HX,Vp]
  .exact aca h.2 i v (tO.2 hm) hv
def avS {P:Program}{n:Nat}{ops:Array Oper}{gco nr:C_}{vs:T_}{perm:C_}(h:HL P n ops perm gco nr vs=true):sq P n ops nr vs perm (H6 ops perm []):=by
 simp only[HL,af]at h;obtain⟨⟨⟨⟨⟨h1,hnr⟩,hga⟩,hg⟩,h2⟩,h3⟩:=h;obtain⟨g1,g2⟩:=acb hg;obtain⟨k1,k2⟩:=UL h1;have hl:vs.length=ops.size:=o_;have ha:WR ops (H6 ops perm []):=Up fun i l h=>by simp[AM]at h
 obtain⟨q1,q2,q3⟩:=UI h3;have hget:∀ (i:Nat) (o:Oper),ops[i]?=some o->ops.toList[i]?=some o:=fun i o h=>by simp_all
 refine⟨hl,fun i v o hv ho=>(k2 i v o hv (hget i o ho)).1,fun i o ho e he=>?_,q1,fun k i h=>asF ha h,⟨gco,fun i hi=>QM hga i o_,g1,g2⟩,q2,fun i hi=>by simp_all,aca hnr,fun i hi=>?_⟩
 .have hi:i<vs.length:=by
   grind
  have:=(k2 i vs[i] o s_ (hget i o ho)).2 e he
  simp_all
 grind [QM]
abbrev sT:=@List.Sublist.append_left
abbrev uu:=@List.sublist_cons_self
section
variable {P:Program}{r:dz}
theorem ahI {g:Gh}{w:World}:∀ {l:ak}{O:Nat->Nat},Bt P g w l O->∀ {id:Nat}{o:Obj},get l id=some o->∃ b,g.obj id=some b
 | [],_,_,id,o,h=>by simp[AM]at h
 | (k,v)::l,O,rh,id,o,h=>by
  obtain⟨Q1,Q2,q1,q2,_⟩:=rh;rw[iW]at h;split at h
  .cases v<;>grind [jW]
  .exact ahI q2 h
def S.heap_fresh {g:Gh}{w:World}{t:F_}{O:Nat->Nat}{st:St}(s:S P g w st t O) {id:Nat}(h:st.hs.next<=id):get st.hs.heap id=none:=by
 obtain⟨Oe,Oh,re,rh,ho⟩:=s.parts
 cases hg:get st.hs.heap id<;>grind [ahI,fresh]
def No {nr:C_}{i:Nat}{F:C_}{v:VI}{st st1:St}(hn:et i nr=true->tF v.op≠.read∨∃ R M,jP v=some (.q,R,M)) (hsrt:cO st.env) (h:bX r (et i nr) F v st=some st1):cU r v st=some st1:=by
 obtain⟨e,hs⟩:=st
 cases hg:et i nr with
 | false=>rw[hg]at h;exact h
 | true =>
  rcases hn hg with h1 | ⟨R,M,h1⟩
  .exact akZ (R:=[]) (M:=[]) hsrt (.inr (.inl h1)) h
  grind [akZ]
theorem U0 {nr:C_}{vs:T_}{i:Nat}{v:VI}(hv:vs[i]?=some v) (hk:kS (et i nr) v=true) {l2:C_}:∀ {l1:C_}{F:C_}{st st':St},(∀ j∈l1,∃ u,vs[j]?=some u∧kR (et j nr) (et i nr) u v=true)->cO st.env->
  fE r nr vs (l1++i::l2) F st=some st'->fE r nr vs (i::(l1++l2)) F st=some st'
 | [],F,st,st',_,_,h=>h
 | j::l1,F,st,st',hj,inv,h=>by
  obtain⟨u,hu,hm⟩:=hj j (.head _);simp only[aQ,fE,hu]at h;split at h
  .simp at h
  .rename_i st1 h1;have h2:=U0 hv hk (fun k hk=>hj k (.tail _ hk)) (as6 hm hk inv h1) h;simp only[fE,hv]at h2;split at h2
   .simp at h2
   .rename_i st2 h3;obtain⟨st1',k1,k2,k3⟩:=ayP hm hk inv h1 h3
    grind [fE,VL]
theorem Ut {nr:C_}{vs:T_}{i:Nat}{v:VI}(hv:vs[i]?=some v) (hk:kS (et i nr) v=false) {l2:C_}:∀ {l1:C_}{F:C_}{st st':St},(∀ j∈l1,∃ u,vs[j]?=some u∧kR (et j nr) (et i nr) u v=true)->dk st->
  fE r nr vs (l1++i::l2) F st=some st'->fE r nr vs (i::(l1++l2)) F st=some st'
 | [],F,st,st',_,_,h=>h
 | j::l1,F,st,st',hj,inv,h=>by
  obtain⟨u,hu,hm⟩:=hj j (.head _);simp only[aQ,fE,hu]at h;split at h
  .simp at h
  .rename_i st1 h1;have h2:=Ut hv hk (fun k hk=>hj k (.tail _ hk)) (asc hm hk inv h1) h;simp only[fE,hv]at h2;split at h2
   .simp at h2
   .rename_i st2 h3;obtain⟨st1',k1,k2,k3⟩:=ayA hm inv h1 h3
    grind [fE,VL]
def U1 {nr:C_}{vs:T_}{i:Nat}{v:VI}(hv:vs[i]?=some v) {l2 l1:C_}{F:C_}{st st':St}(hj:∀ j∈l1,∃ u,vs[j]?=some u∧kR (et j nr) (et i nr) u v=true) (inv:dk st)
  (h:fE r nr vs (l1++i::l2) F st=some st'):fE r nr vs (i::(l1++l2)) F st=some st':=by
 cases hk:kS (et i nr) v<;>grind [U0,dk.se,Ut]
theorem aak {α:Type}:∀ {l:List (Nat×α)},cO l->∀ {p:Nat×α},p∈l->get l p.1=some p.2
 | [],_,p,hp=>by simp at hp
 | (k,v)::r,hs,p,hp=>by
  rw[iW];rcases az.1 hp with rfl | hp
  .simp
  .have h1:=(bR.1 hs).1 p hp;have:k≠p.1:=(GN.ne h1).symm;rw[aa this];exact aak (bR.1 hs).2 hp
def WV {anc:Q_}{d:Nat}{l:C_}{i:Nat}:∀ {vs:T_}{b:Nat},Xn anc d l i b vs=true->∀ k v,vs[k]?=some v->b+k≠i->te anc (b+k) i=true∨∃ R M,ka v=some (R,M)∧d∉M∧(te anc i (b+k)=true∨∀ q∈l,q∉M)
 | [],_,_,k,v,h,_=>by simp at h
 | x::r,b,h,k,v,hv,hne=>by
  simp only[Xn,af,cV]at h
  cases k with
  | zero =>
   grind [Nat.beq_eq,jp,tO]
  | succ k =>
   have:=WV h.2 k v hv (by omega)
   grind
theorem Hc {v:VI}{d:Nat}(h:iG v=some d):(∃ zs,v=⟨some d,none,.alloc zs,[]⟩)∨∃ z l c th,v=⟨some d,none,.mkslice z l c,th⟩∧zC l=true∧zC c=true:=by
 obtain⟨dst,gd,op,th⟩:=v
 grind [iG]
theorem zy {v:VI}{d:Nat}(h:iG v=some d):v.dst=some d∧v.guard=none∧v.op≠.bad:=by
 grind [Hc]
def xT {anc:Q_}{vs:T_}{i:Nat}(h:uQ anc vs i=true):∃ v d,vs[i]?=some v∧iG v=some d∧(∀ k u,vs[k]?=some u->k≠i->te anc k i=true∨∃ R M,ka u=some (R,M)∧d∉M∧(te anc i k=true∨∀ q∈zD v,q∉M))∧∀ j,te anc i j=true->uQ anc vs j=false:=by
 unfold uQ at h;split at h
 .rename_i v hv;split at h
  .rename_i d hd;simp only[af]at h;refine⟨v,d,hv,hd,fun k u hk hne=>by simpa using WV h.1 k u hk o_,fun j hj=>?_⟩
   grind [te,tO,uQ]
  simp_all
 simp_all
theorem aqf {v:VI}{k:Ck}{R M:C_}(h:jP v=some (k,R,M)):ka v=some (R,M):=by grind [ka]
theorem ace {a b:Bool}{u v:VI}(h:kR a b u v=true) (hne:rS a b u v=false):∃ R1 M1 R2 M2,ka u=some (R1,M1)∧ka v=some (R2,M2)∧(∀ k∈M1,k∉R2∧k∉M2)∧∀ k∈M2,k∉R1:=by
 have sub:∀ {a:Bool}{v:VI}{R M:C_},zK a v=some (R,M)->∃ R',ka v=some (R',M)∧∀ k∈R',k∈R:=fun {a v R M} h=>by
  grind [zK]
 have ap:Fy a b u v=true->∃ R1 M1 R2 M2,ka u=some (R1,M1)∧ka v=some (R2,M2)∧(∀ k∈M1,k∉R2∧k∉M2)∧∀ k∈M2,k∉R1:=fun h=>by
  grind [t8]
 grind [kR,TE,W3,Hy,aqf,jp]
theorem X5 {a b:Bool}{u v:VI}{d:Nat}(hu:iG u=some d):rS a b u v=false∧rS b a v u=false:=by
 grind [Hc,rS]
theorem Xh {v:VI}{d:Nat}(hv:iG v=some d) {R M:C_}(h:ka v=some (R,M)):∀ q∈zD v,q∈R:=by
 rcases Hc hv with ⟨zs,rfl⟩ | ⟨z,l,c,th,rfl,_,_⟩
 .grind [zD]
 .intro q hq
  cases th with
  | nil =>
   simp only[ka,jP,Mz,DQ,ae,aP]at h;rw[<-h.1];exact df _ hq
  | cons p th =>
   simp only[ka,jP,Mz,DQ,ae,aP]at h;rw[<-h.1];exact df _ hq
def alV {a b:Bool}{u v:VI}{d:Nat}(h:kR a b u v=true) (hu:iG u=some d):∃ R M,ka v=some (R,M)∧∀ q∈d::zD u,q∉M:=by
 grind [ace,X5,Fm,zy,Xh]
def YY {a b:Bool}{u v:VI}{d:Nat}(h:kR a b u v=true) (hv:iG v=some d):∃ R M,ka u=some (R,M)∧∀ q∈d::zD v,q∉M:=by
 grind [ace,X5,Fm,zy,Xh]
def akg {e e':aV}{x:Rd}(hs:zC x=true) (h:∀ q∈og x,get e' q=get e q) {v:AV}{e1:aV}(hr:rd e x=some (v,e1)):e1=e∧rd e' x=some (v,e'):=by
 cases x with
 | s i =>
  have hi:=h i (by simp[og]);simp only[rd]at hr⊢;split at hr<;>simp_all
 | m i=>simp[zC]at hs
 | c u =>
  grind [rd]
def aj5 {z:W_}{l c:Rd}{st st2:St}{a:AV}{st1:St}(hl:zC l=true) (hc:zC c=true) (h:∀ q∈bV [l,c],get st2.env q=get st.env q) (hr:ml z l c st=some (a,st1)):st1=st∧ml z l c st2=some (a,st2):=by
 unfold ml at hr⊢;split at hr
 .rename_i n e hn;obtain⟨rfl,h1⟩:=akg hl (fun q hq=>h q (by simp[bV,hq])) hn;split at hr
  .rename_i m e2 hm;obtain⟨rfl,h2⟩:=akg hc (fun q hq=>h q (by simp[bV,hq])) hm;split at hr
   .split at hr
    .obtain⟨rfl,rfl⟩:=hr
     simp_all
    simp_all
   simp_all
  simp_all
 simp_all
inductive Cr (g:Gh) (w:World) (st:St) (d:Nat):VI->Value->(Nat->Nat)->Prop
 | var {zs:D_}{b:Nat}{c:F_}{el:TypeId}:oj zs c.toList=true->w.heap[b]?=some (.cells c el (0,0))->(∀ o,¬ g.pm b o)->Cr g w st d ⟨some d,none,.alloc zs,[]⟩ (.pointer (some ⟨b,0,none⟩)) (one b)
 | list {z:W_}{l c:Rd}{th:R_}{a:AV}{x:Value}{A:Nat->Nat}:zC l=true->zC c=true->ml z l c st=some (a,st)->RV g w a x A->Cr g w st d ⟨some d,none,.mkslice z l c,th⟩ x A
structure alM (g:Gh) (w:World) (t:F_) (O:Nat->Nat) (st:St) (anc:Q_) (vs:T_) (i:Nat) (A:Nat->Nat):Prop where
 late:uQ anc vs i=true
 hi:∀ b,A b≠0->b<w.heap.size
 le:∀ b,A b+O b<=1
 it:∃ v d x,vs[i]?=some v∧d<t.size∧t[d]?=some x∧Cr g w st d v x A
def Cr.dst {g:Gh}{w:World}{st:St}{d:Nat}{v:VI}{x:Value}{A:Nat->Nat}(h:Cr g w st d v x A):iG v=some d:=by
 cases h<;>grind [iG]
def Cr.keep {g g':Gh}{w w':World}{st st':St}{d:Nat}{v:VI}{x:Value}{A:Nat->Nat}{T:Nat->Prop}(h:Cr g w st d v x A) (hx:bI g w g' w' T) (hA:∀ b,A b≠0->b<w.heap.size∧¬ T b)
  (he:∀ q∈zD v,get st'.env q=get st.env q):Cr g' w' st' d v x A:=by
 cases h with
 | var h1 h2 h3 =>
  rename_i zs b c el;have hb:=hA b s_;obtain⟨b1,b2⟩:=hx.blk b hb.1 hb.2;exact .var h1 (b1.trans h2) fun o ho=>h3 o (b2 o ho)
 | list h1 h2 h3 h4=>exact .list h1 h2 (aj5 h1 h2 he h3).2 (RV.ext hx _ _ _ h4 fun b hb=>(hA b hb).2)
def S.adopt {g:Gh}{w:World}{t:F_}{O:Nat->Nat}{st:St}{zs:D_}{d b:Nat}{c:F_}{el:_}(s:S P g w st t O) (hb:b<w.heap.size) (h0:O b=0) (hp:∀ o,¬ g.pm b o) (hz:oj zs c.toList=true)
  (hh:w.heap[b]?=some (.cells c el (0,0))) (hd:d<t.size) (ht:t[d]?=some (.pointer (some ⟨b,0,none⟩))) :
  ∃ g' O',S P g' w ⟨put st.env d (.ptr st.hs.next 0),⟨put st.hs.heap st.hs.next (.cells zs),st.hs.next+1⟩⟩ t O'∧bI g w g' w (fun _=>False)∧(∀ x,x≠b->O' x<=O x)∧g'.pm=g.pm:=by
 have hn:=s.fresh st.hs.next (ai _)
 have hx:bI g w (g.add st.hs.next b 0 1 zs.length) w (fun _=>False):=(bI.refl g w _).add hn _ _ _ _;have hfr:=s.heap_fresh (ai st.hs.next);obtain⟨Oe,Oh,re,rh,ho⟩:=s.parts;have re':=kx.ext hx re s_;have rh':Bt P (g.add st.hs.next b 0 1 zs.length) w st.hs.heap Oh:=rh.imp' fun k v O1 _ _ q=>q.ext hx s_ (by simp)
 have hk:∀ p∈st.hs.heap,p.1≠st.hs.next:=by
  intro p hp e
  grind [aak,sh]
 have r:jW P (g.add st.hs.next b 0 1 zs.length) w st.hs.next (.cells zs) (fun x=>zero x+one b x):=by
  exact⟨b,c,el,zero,by simp[Gh.add],by simp[Gh.add],by simp[Gh.add],by simp[Gh.add],hh,RVs.consts hz,fun o ho=>hp o ho,fun _=>rfl⟩
 rw[<-rO hk]at rh';obtain⟨O3,r3,h3⟩:=RL.put s.sh rh' r;have hle:∀ x,one b x+O x<=1:=fun x=>by
  by_cases e:x=b
  .simp_all
  .have:=s.le x;grind [one]
 have s1:S P (g.add st.hs.next b 0 1 zs.length) w ⟨st.env,⟨put st.hs.heap st.hs.next (.cells zs),st.hs.next+1⟩⟩ t (fun x=>one b x+O x):=by
  refine⟨s.se,s.sh.put _ _,⟨Oe,O3,re',r3,fun x=>?_⟩,hle,fun x hxx=>?_,fun i hi=>?_,s.pmlt⟩
  .grind
  .by_cases e:x=b
   .omega
   .exact s.hi x (by grind [one])
  grind [Gh.add,fresh]
 have rv:RV (g.add st.hs.next b 0 1 zs.length) w (.ptr st.hs.next 0) (.pointer (some ⟨b,0,none⟩)) zero:=by
  simp_all [RV,Gh.add]
 obtain⟨O4,s4,l4⟩:=s1.setTmp hd rv (fun x=>by simp_all) (fun x hx=>by simp at hx);have htt:t.setIfInBounds d (.pointer (some ⟨b,0,none⟩))=t:=by
  grind
 rw[htt]at s4;exact⟨_,O4,s4,hx,fun x hne=>by
  grind [one],rfl⟩
def S.setOther {g:Gh}{w:World}{t:F_}{O:Nat->Nat}{st:St}(s:S P g w st t O) {d:Nat}(hd:get st.env d=none) (x:Value):S P g w st (t.setIfInBounds d x) O:=by
 obtain⟨Oe,Oh,re,rh,ho⟩:=s.parts;refine⟨s.se,s.sh,⟨Oe,Oh,re.imp' fun k v O1 hm _ q=>?_,rh,ho⟩,s.le,s.hi,s.fresh,s.pmlt⟩;have hk:d≠k:=by
  rintro rfl
  have:=aak s.se hm
  simp_all
 refine⟨u_,?_⟩;have:(t.setIfInBounds d x).getD k undef=t.getD k undef:=by
  simp_all
 grind
def Cr.make {g:Gh}{w:World}{t:F_}{O:Nat->Nat}{st st1:St}{d:Nat}{v:VI}{x:Value}{A:Nat->Nat}(h:Cr g w st d v x A) (s:S P g w st t O) (hle:∀ b,A b+O b<=1) (hhi:∀ b,A b≠0->b<w.heap.size) (hd:d<t.size) (ht:t[d]?=some x)
  (hr:cU r v st=some st1):∃ g' O',S P g' w st1 t O'∧bI g w g' w (fun b=>A b≠0∨O b≠0)∧(∀ b,O' b<=A b+O b):=by
 cases h with
 | var h1 h2 h3 =>
  rename_i zs b c el;have h9:st1=⟨put st.env d (.ptr st.hs.next 0),⟨put st.hs.heap st.hs.next (.cells zs),st.hs.next+1⟩⟩:=by
   grind [cU,gj,db,MI,HI,cJ,firm]
  have hob:O b=0:=by have:=hle b;simp at this;omega
  obtain⟨g',O',s',x',l',_⟩:=s.adopt (hhi b s_) hob h3 h1 h2 hd ht;rw[<-h9]at s';refine⟨g',O',s',x'.mono fun _ _ h=>h.elim,fun q=>?_⟩;by_cases e:q=b
  .have:=s'.le q;simp_all
  grind
 | list h1 h2 h3 h4 =>
  rename_i z l c th a;obtain⟨v',st2,hv,rfl⟩:=Tb hr;simp only[db]at hv;rw[h3]at hv;obtain⟨rfl,rfl⟩:=hv;obtain⟨g2,Ov2,O2,r2,s2,x2,l2⟩:=Lw (P:=P) (t:=t) th (env:=st.env) (hs:=st.hs) s h4 hle hhi;have hle2:∀ b,Ov2 b+O2 b<=1:=fun b=>aM (l2 b) (hle b)
  obtain⟨g3,r3,s3,x3⟩:=ag3 s2 r2 hle2;obtain⟨O4,s4,l4⟩:=s3.setTmp hd r3 hle2 fun b hb=>by
   grind [S.hi]
  have htt:t.setIfInBounds d x=t:=by
   grind
  rw[htt]at s4;exact⟨g3,O4,s4,(x2.mono (T:=fun b=>A b≠0∨O b≠0) fun _ _ h=>h.elim).trans x3 fun b _ hb=>by grind,fun b=>by grind⟩
structure atD (ops:Array Oper) (nr:C_) (vs:T_) (anc:Q_) (m:Region.Mode) (listed:BE_) (rem:C_) (pd:Nat->BB_):Prop where
 pair:rem.Pairwise fun j i=>anv anc nr vs j i
 nd:rem.Nodup
 lt:∀ i∈rem,i<ops.size
 size:listed.size=ops.size
 mem:∀ i,i<ops.size->(i∈rem↔(listed.getD i true=false∨(pd i).isSome=true))
 pdl:∀ i b,pd i=some b->i<ops.size∧listed.getD i false=true
 closed:∀ i o,listed.getD i false=true->ops[i]?=some o->∀ e∈o.after,Region.binds m e=true->listed.getD e.on false=true
structure Cf (P:Program) (r:dz) (n:Nat) (ops:Array Oper) (nr:C_) (vs:T_) (anc:Q_) (m:Region.Mode) (listed:BE_) (g0:Gh) (w0:World) (t0:F_) (O0:Nat->Nat) (st':St)
  (rem:C_) (pd:Nat->BB_) (F:C_) (g:Gh) (w:World) (t:F_) (O:Nat->Nat) (st:St):Prop where
 left:atD ops nr vs anc m listed rem pd
 n:t.size=n
 s:S P g w st t O
 abs:∀ i∈rem,∀ v d,vs[i]?=some v->iG v=some d->uQ anc vs i=true->get st.env d=none
 pend:∀ i A,pd i=some A->alM g w t O st anc vs i A
 disj:∀ i j A B,i≠j->pd i=some A->pd j=some B->∀ b,A b+B b<=1
 base:gG P g0 w0 t0 O0 st t w g O
 old:∀ i A,pd i=some A->∀ b,b<w0.heap.size->A b+O b<=O0 b
 le0:∀ b,O0 b<=1
 run:fE r nr vs rem F st=some st'
def YK:∀ {l:C_},l≠[]->∃ i∈l,∀ j∈l,i<=j
 | [],h=>absurd rfl h
 | [x],_=>⟨x,.head _,fun j hj=>by simp_all⟩
 | x::y::r,_=>by
  obtain⟨i,hi,hm⟩:=YK (l:=y::r) (by simp)
  grind
def uW {ops:Array Oper}{m:Region.Mode}{listed:BE_}(hc:∀ i o,listed.getD i false=true->ops[i]?=some o->∀ e∈o.after,Region.binds m e=true->listed.getD e.on false=true) {i j:Nat}
  (hp:Pa ops i j):(∀ o,ops[i]?=some o->∀ e∈o.after,Region.binds m e=true->listed.getD e.on false=true)->listed.getD j false=true:=by
 induction hp<;>grind [Yq]
def aqO {P:Program}{n:Nat}{ops:Array Oper}{nr:C_}{vs:T_}{perm:C_}{anc:Q_}(hok:sq P n ops nr vs perm anc) {m:Region.Mode}{listed:BE_}(hsz:listed.size=ops.size) {un:C_}
  (hun:∀ i,i∈un↔i<ops.size∧listed.getD i true=false) (hrem:un≠[]) :
  ((List.range ops.size).filter fun i=>!listed.getD i true && ((ops[i]?).map (·.after.all fun e=>!Region.binds m e || listed.getD e.on false)).getD false)≠[]∧
  ∀ i,i∈((List.range ops.size).filter fun i=>!listed.getD i true && ((ops[i]?).map (·.after.all fun e=>!Region.binds m e || listed.getD e.on false)).getD false)↔
   i<ops.size∧listed.getD i true=false∧∃ o,ops[i]?=some o∧∀ e∈o.after,Region.binds m e=true->listed.getD e.on false=true:=by
 have hmu:∀ i,i<ops.size->(i∈un↔listed.getD i true=false):=fun i hi=>⟨fun h=>((hun i).1 h).2,fun h=>(hun i).2 ⟨hi,h⟩⟩
 have hlt0:∀ i,i∈un->i<ops.size:=fun i h=>((hun i).1 h).1
 generalize hrs:((List.range ops.size).filter fun i=>!listed.getD i true && ((ops[i]?).map (·.after.all fun e=>!Region.binds m e || listed.getD e.on false)).getD false)=rs;have hmem:∀ i,i∈rs↔i<ops.size∧listed.getD i true=false∧∃ o,ops[i]?=some o∧∀ e∈o.after,Region.binds m e=true->listed.getD e.on false=true:=by
  grind [Array.all_eq_true_iff_forall_mem]
 have hlist:∀ k,k<ops.size->k∉un->listed.getD k false=true:=fun k hen hnot=>by
  simp_all
 have ready:∀ i∈un,(∀ e∈(ops[i]?).toList.flatMap (fun o=>o.after.toList),Region.binds m e=true->e.on∉un)->i∈rs:=fun i hi he=>by
  have hin:=hlt0 i hi;refine(hmem i).2 ⟨hin,(hmu i hin).1 hi,ops[i],by simp[hin],fun e hem hb=>?_⟩;have hen:=(hok.edge i ops[i] (by simp[hin]) e hem).1
  simp_all
 have hne:rs≠[]:=by
  by_cases hm:m=.gc
  .obtain⟨gl,ga,gt,gs⟩:=hok.gco;have hl:gl.filter (fun i=>decide (i∈un))≠[]:=by
    obtain⟨i,hi⟩:=List.exists_mem_of_ne_nil un hrem;exact List.ne_nil_of_mem (List.mem_filter.2 ⟨ga i (hlt0 i hi),d_⟩)
   cases hc:gl.filter (fun i=>decide (i∈un)) with
   | nil=>simp_all
   | cons i rest =>
    have hmm0:∀ k,k∈i::rest↔k∈gl∧k∈un:=fun k=>by grind
    have him:=(hmm0 i).1 (.head _);have hpw:(i::rest).Pairwise (fun j i=>∀ o,ops[j]?=some o->∀ e∈o.after,Y9 e.ground=true->e.on≠i):=d_;have:i∈rs:=ready i him.2 fun e he hb hmm=>by
     have hg:Y9 e.ground=true:=by
      unfold Region.binds at hb
      grind [Y9]
     grind [List.pairwise_cons]
    grind
  .obtain⟨i,hir,hmin⟩:=YK hrem;have hi:=hlt0 i hir;have:i∈rs:=ready i hir fun e he hb hmm=>by
    simp[hi]at he;have hg:txG e.ground=true:=by
     unfold Region.binds at hb
     grind [txG]
    have h1:=(hok.edge i ops[i] (by simp[hi]) e he).2 hg
    grind
   grind
 simp_all
def Ww {listed:BE_}{i:Nat}(hi:i<listed.size) (k:Nat) (b:Bool):(listed.setIfInBounds i true).getD k b=if i=k then true else listed.getD k b:=by
 simp only[gn,fX]
 grind
theorem EO {listed:BE_}{i:Nat}(hi:i<listed.size):listed.getD i true=listed.getD i false:=by
 simp_all
variable {n:Nat}{ops:Array Oper}{nr:C_}{vs:T_}{perm:C_}{anc:Q_}{m:Region.Mode}{listed:BE_}{g0:Gh}{w0:World}{t0:F_}{O0:Nat->Nat}{st':St}
def Cf.flush (hok:sq P n ops nr vs perm anc) {l1 l2:C_}{j:Nat}{A:Nat->Nat}{pd:Nat->BB_}{F:C_}{g:Gh}{w:World}{t:F_}{O:Nat->Nat}{st:St}
  (c:Cf P r n ops nr vs anc m listed g0 w0 t0 O0 st' (l1++j::l2) pd F g w t O st) (hj:pd j=some A) (hp:∀ x∈l1,∃ u v,vs[x]?=some u∧vs[j]?=some v∧kR (et x nr) (et j nr) u v=true) :
  ∃ F' g' O' st1,Cf P r n ops nr vs anc m listed g0 w0 t0 O0 st' (l1++l2) (fun i=>if i=j then none else pd i) F' g' w t O' st1:=by
 have pj:=c.pend j A hj;obtain⟨v,d,x,h1,h4,h5,hk⟩:=pj.it;have hdst:=hk.dst;have hjn:=(c.left.pdl j A hj).1;have inv:dk st:=⟨c.s.se,c.s.sh,fun id hid=>c.s.heap_fresh hid⟩
 have hsw:∀ x∈l1,∃ u,vs[x]?=some u∧kR (et x nr) (et j nr) u v=true:=fun x hx=>by
  simp_all
 have h6:=U1 h1 hsw inv c.run;simp only[fE,h1]at h6;split at h6
 .simp at h6
 .rename_i st1 h7;have h8:cU r v st=some st1:=No (fun hw=>hok.near j _ hw h1) c.s.se h7;obtain⟨g',O',s',x',l'⟩:=hk.make c.s pj.le pj.hi h4 h5 h8;have hsub:(l1++l2).Sublist (l1++j::l2):=sT (uu j l2) l1;have hnd:=c.left.nd;have hjl:j∉l1++l2:=fun hm=>by
   grind
  have hfoot:∀ i,i∈l1++l2->uQ anc vs i=true->∀ u q,vs[i]?=some u->iG u=some q->∀ k∈q::zD u,get st1.env k=get st.env k:=fun i hi hl u q hu hq k hkm=>by
   have hij:i≠j:=fun e=>hjl (e▸hi)
   obtain⟨u2,q2,k1,k2,k3,k4⟩:=xT hl;obtain⟨R,M,f1,f0,f2⟩:=(k3 j v h1 (fun e=>hij e.symm)).resolve_left (fun hdj=>by
    obtain⟨_,_,_,_,_,hno⟩:=xT pj.late
    simp_all)
   obtain⟨e1,hs1'⟩:=st;refine(AK f1 e1 hs1' st1 h8).2.1 k ?_
   grind [alM.late]
  have hmem:∀ i B,i≠j->pd i=some B->i∈l1++l2:=fun i B e hi=>by
   have:=(c.left.mem i (c.left.pdl i B hi).1).2 (.inr u_)
   simp_all
  refine⟨_,g',O',st1,⟨⟨c.left.pair.sublist hsub,hnd.sublist hsub,fun k hk=>c.left.lt k (hsub.subset hk),c.left.size,fun k hk=>?_,fun i b' hi=>?_,c.left.closed⟩,c.n,s',fun i hi u q hu hq hl=>?_,fun i B hi=>?_,fun i k B C hik hi hk=>?_,?_,fun i B hi b hb=>?_,c.le0,h6⟩⟩
  .have hold:=c.left.mem k hk;by_cases e:k=j
   .subst e;have hl:=(c.left.pdl k A hj).2
    grind
   simp_all
  .by_cases e:i=j
   .simp_all
   .simp only[e,bh]at hi;exact c.left.pdl i b' hi
  .rw[hfoot i hi hl u q hu hq q (.head _)]
   grind [abs]
  .by_cases e:i=j
   .simp_all
   .simp only[e,bh]at hi;have p:=c.pend i B hi;obtain⟨u,q,y,k1,k2,k3,k4⟩:=p.it;have hd:=c.disj i j B A e hi hj;exact⟨p.late,p.hi,fun b=>by have:=l' b;have:=p.le b;have:=hd b;have:=pj.le b;omega,u,q,y,k1,k2,k3,
     k4.keep x' (fun b hb=>⟨p.hi b hb,fun h=>by have:=hd b;have:=p.le b;omega⟩) fun k hkm=>hfoot i (hmem i B e hi) p.late u q k1 k4.dst k (.tail _ hkm)⟩
  .by_cases e:i=j
   .simp_all
   .by_cases e2:k=j
    .simp_all
    .simp only[e,e2,bh]at hi hk;exact c.disj i k B C hik hi hk
  .refine⟨s',c.base.ext.trans x' fun b hb h=>?_,fun b hb=>?_,c.base.size⟩
   .have:=c.old j A hj b hb;omega
   .exact aM (l' b) (c.old j A hj b hb)
  .by_cases e:i=j
   .simp_all
   .simp only[e,bh]at hi;have q1:=c.old i B hi b hb;have q2:=c.old j A hj b hb;have q3:=c.disj i j B A e hi hj b
    grind
def Cf.flush_all (hok:sq P n ops nr vs perm anc):∀ {rem:C_}{pd:Nat->BB_}{F:C_}{g:Gh}{w:World}{t:F_}{O:Nat->Nat}{st:St},
  Cf P r n ops nr vs anc m listed g0 w0 t0 O0 st' rem pd F g w t O st->(∀ i∈rem,(pd i).isSome=true)->∃ g' O',gG P g0 w0 t0 O0 st' t w g' O'
 | [],pd,F,g,w,t,O,st,c,_=>by
  have h:=c.run;simp only[fE,ae]at h;subst h;exact⟨g,O,c.base⟩
 | j::rem,pd,F,g,w,t,O,st,c,hall=>by
  obtain⟨b,hb⟩:=iM.1 (hall j (.head _));obtain⟨F',g',O',st1,c'⟩:=Cf.flush (l1:=[]) hok c hb (fun x hx=>by simp at hx);have hnd:=c.left.nd;exact Cf.flush_all hok c' fun i hi=>by
   grind
def Cf.flush_for (hok:sq P n ops nr vs perm anc) {i:Nat}(hil:listed.getD i true=false) (hnl:uQ anc vs i=false) {o:Oper}(ho:ops[i]?=some o) (hready:∀ e∈o.after,Region.binds m e=true->listed.getD e.on false=true) :
  ∀ {k:Nat}{l1 l2:C_},l1.length=k->∀ {pd:Nat->BB_}{F:C_}{g:Gh}{w:World}{t:F_}{O:Nat->Nat}{st:St},
  Cf P r n ops nr vs anc m listed g0 w0 t0 O0 st' (l1++i::l2) pd F g w t O st->
  ∃ l1' pd' F' g' O' st1,Cf P r n ops nr vs anc m listed g0 w0 t0 O0 st' (l1'++i::l2) pd' F' g' w t O' st1∧(∀ j∈l1',∃ u v,vs[j]?=some u∧vs[i]?=some v∧kR (et j nr) (et i nr) u v=true)∧(l1'.filter fun q=>!listed.getD q true)=(l1.filter fun q=>!listed.getD q true):=by
 intro k
 induction k with
 | zero =>
  grind
 | succ k ih =>
  intro l1 l2 hk pd F g w t O st c;have hpw:=dg.1 c.left.pair;have hin:i<ops.size:=c.left.lt i s_;have hlist:∀ a q,a<ops.size->Pa ops a q->listed.getD a false=true∨a=i->listed.getD q false=true:=fun a q ha hpa hla=>by
   refine uW c.left.closed hpa fun o' ho'=>?_
   rcases hla with h | h
   .exact c.left.closed a o' h ho'
   simp_all
  by_cases hex:∃ j∈l1,te anc i j=true
  .
   obtain⟨la,j,lb,hl1,hdj,hfirst⟩:∃ la j lb,l1=la++j::lb∧te anc i j=true∧∀ x∈la,te anc i x=false:=by
    clear ih hk c hpw
    induction l1 with
    | nil=>simp_all
    | cons x l1 ihl =>
     by_cases hx:te anc i x=true
     .exact⟨[],x,l1,rfl,hx,fun y hy=>by simp at hy⟩
     .obtain⟨la,j,lb,h1,h2,h3⟩:=ihl (by
       simp_all)
      grind
   subst hl1;have hjm:j∈(la++j::lb)++i::l2:=s_;have hjn:=c.left.lt j hjm;have hjl:=hlist i j hin (hok.path i j hdj) (.inr rfl);have hjp:∃ b,pd j=some b:=by
    rcases (c.left.mem j hjn).1 hjm with h | h<;>grind [Option.isSome_iff_exists]
   obtain⟨b,hb⟩:=hjp;have hlate:=(c.pend j b hb).late;obtain⟨_,_,_,_,_,hnoanc⟩:=xT hlate;have hpj:=dg.1 hpw.1;have hpass:∀ x∈la,∃ u v,vs[x]?=some u∧vs[j]?=some v∧kR (et x nr) (et j nr) u v=true:=fun x hx=>by
    have hxm:x∈(la++j::lb)++i::l2:=by simp[hx]
    have hxn:=c.left.lt x hxm;rcases hpj.2.2 x hx j (.head _) with (h | h) | h
    .
     have hxl:=hlist j x hjn (hok.path j x h) (.inl hjl);rcases (c.left.mem x hxn).1 hxm with h2 | h2
     .grind
     .obtain⟨b2,hb2⟩:=iM.1 h2;have:=(c.pend x b2 hb2).late
      simp_all
    all_goals grind [sq.len]
   have c0:Cf P r n ops nr vs anc m listed g0 w0 t0 O0 st' (la++j::(lb++i::l2)) pd F g w t O st:=u_;obtain⟨F',g',O',st1,c'⟩:=Cf.flush hok c0 hb hpass
   grind
  .refine⟨l1,pd,F,g,O,st,c,fun j hj=>?_,rfl⟩;rcases hpw.2.2 j hj i (.head _) with (h | h) | h<;>grind
def ahH (hok:sq P n ops nr vs perm anc) {i:Nat}{v:VI}{d:Nat}(hv:vs[i]?=some v) (hd:iG v=some d):∀ {l1 l2 F:C_}{st:St},cO st.env->(∀ k∈l1,∀ u,vs[k]?=some u->∃ R M,ka u=some (R,M)∧∀ q∈d::zD v,q∉M)->
  fE r nr vs (l1++i::l2) F st=some st'->∃ st1 st2,cU r v st1=some st2∧∀ q∈d::zD v,get st1.env q=get st.env q
 | [],l2,F,st,hsrt,_,h=>by
  simp only[aO,fE,hv]at h;split at h
  .simp at h
  .rename_i st1 h1;exact⟨st,st1,No (fun hw=>hok.near i _ hw hv) hsrt h1,fun _ _=>rfl⟩
 | k::l1,l2,F,st,hsrt,hl,h=>by
  simp only[aQ,fE]at h;split at h
  .simp at h
  .rename_i u hu;split at h
   .simp at h
   .rename_i st1 h1;have h2:cU r u st=some st1:=No (fun hw=>hok.near k _ hw hu) hsrt h1;obtain⟨R,M,f1,f2⟩:=hl k (.head _) u hu;obtain⟨e1,hs1⟩:=st;obtain⟨k1,k2,_⟩:=AK f1 e1 hs1 st1 h2;obtain⟨sa,sb,q1,q2⟩:=ahH hok hv hd (k1 hsrt) (fun k hk=>hl k (.tail _ hk)) h
    grind
def amG {g:Gh}{w:World}{t:F_}{O:Nat->Nat}{zs:D_}{o:Oper}(s:S P g w st' t O) (hc:bF P (.alloc zs) o.op=true) :
  ∃ (c:F_) (el:_),oj zs c.toList=true∧(execOp (ev t) o).run P w=.ok (.value (.pointer (some ⟨w.heap.size,0,none⟩))) (w.alloc (.cells c el))∧bI g w g (w.alloc (.cells c el)) (fun _=>False):=by
 obtain⟨dst,op,ty,pos,aft,gd⟩:=o;simp only[bF]at hc;split at hc
 .rename_i e;split at hc
  .split at hc
   .rename_i z hz;exact⟨z.cells,e,hc,by simp_all [execOp,Instr.alloc,zeroValue,typeInfo,newVar,newRow],bI.alloc s.pmlt _ _ (by grind [gB])⟩
   simp_all
  simp_all
 simp_all
def aoY {ro:I_}{g:Gh}{w:World}{t:F_}{O:Nat->Nat}{st:St}{v:VI}{d:Nat}{o:Oper}(s:S P g w st t O) (hd:iG v=some d) (hc:bF P v.op o.op=true)
  (hmk:∀ z l c th,v=⟨some d,none,.mkslice z l c,th⟩->zC l=true->zC c=true->∃ a,ml z l c st=some (a,st)) (ds:List Deferred) (next:Act->World->Prop) (Q:Exit->Act->World->Prop)
  (hn:∀ w1 x g1 O1 A,S P g1 w1 st t O1->bI g w g1 w1 (fun b=>O b≠0)->(∀ b,b<w.heap.size->A b+O1 b<=O b)->(∀ b,A b+O1 b<=1)->(∀ b,A b≠0->b<w1.heap.size)->Cr g1 w1 st d v x A->next (Act.put ⟨t,ds⟩ o.dst x) w1) :
  o.uponIn (FR ro) 0 P ⟨t,ds⟩ next Q ((execOp (ev t) o).run P w):=by
 rcases Hc hd with ⟨zs,rfl⟩ | ⟨z,l,c,th,rfl,hl,hc2⟩
 .obtain⟨cc,el,hz,hrun,hx⟩:=amG s hc;rw[hrun];have hobn:O w.heap.size=0:=by
   by_cases h:O w.heap.size=0
   .exact h
   .have:=s.hi _ h;omega
  refine hn _ _ g O (one w.heap.size) (s.extF hx rfl fun b o' hp=>by have:=s.pmlt b o' hp;grind [World.size_alloc]) (hx.mono fun _ _ h=>h.elim) (fun b hb=>?_) (fun b=>?_) (fun b hb=>?_) (.var hz (jM _ _) fun o' hp=>?_)
  .grind [one]
  .by_cases e:b=w.heap.size
   .simp_all
   .have:=s.le b;grind [one]
  .grind [w6,World.size_alloc]
  .have:=s.pmlt _ o' hp;omega
 .obtain⟨a,ha⟩:=hmk z l c th rfl hl hc2;exact(Zk s ha hc).opW ds next Q fun x w' g' Oa O' k=>hn _ _ g' O' Oa k.st k.ext k.old k.le k.hi (.list hl hc2 ha k.val)
def av0 {ro:I_}(hr:iL P r) (hcs:jf P r) (hok:sq P n ops nr vs perm anc) {Q:Exit->Act->World->Prop}(ds:List Deferred)
  (hq:∀ w' t' g' O',gG P g0 w0 t0 O0 st' t' w' g' O'->Q .normal ⟨t',ds⟩ w') :
  ∀ {fuel:Nat}{listed:BE_}{tt:Nat}{rem:C_}{pd:Nat->BB_}{F:C_}{g:Gh}{w:World}{t:F_}{O:Nat->Nat}{st:St},
   Cf P r n ops nr vs anc m listed g0 w0 t0 O0 st' rem pd F g w t O st->(rem.filter fun i=>!listed.getD i true).length=fuel->wpOpsIn (FR ro) 0 P ops Q (Region.linearise.go m ops fuel tt listed []) ⟨t,ds⟩ w:=by
 intro fuel
 induction fuel with
 | zero =>
  intro listed tt rem pd F g w t O st c hf;have hnil:=ax hf;have hall:∀ i∈rem,(pd i).isSome=true:=fun i hi=>by
   have hin:=c.left.lt i hi;rcases (c.left.mem i hin).1 hi with h | h<;>simp_all
  obtain⟨g',O',G⟩:=Cf.flush_all hok c hall;exact hq _ _ _ _ G
 | succ fuel ih =>
  intro listed tt rem pd F g w t O st c hf;unfold Region.linearise.go;simp only;have hun:∀ i,i∈(rem.filter fun i=>!listed.getD i true)↔i<ops.size∧listed.getD i true=false:=fun i=>by
   rw[List.mem_filter,cB];exact⟨fun h=>⟨c.left.lt i h.1,h.2⟩,fun h=>⟨(c.left.mem i h.1).2 (.inl h.2),h.2⟩⟩
  obtain⟨hne,hmem⟩:=aqO (m:=m) hok c.left.size hun d_;generalize hrs:((List.range ops.size).filter fun i=>!listed.getD i true && ((ops[i]?).map (·.after.all fun e=>!Region.binds m e || listed.getD e.on false)).getD false)=rs at hne hmem;have hlen:0<rs.length:=bJ.2 hne;have hlt:=dW tt hlen;rw[bE hlt];simp only;generalize hi:rs[tt % rs.length]=i;have hirs:i∈rs:=d_;obtain⟨hin,hil,o,ho,hready⟩:=(hmem i).1 hirs;have hirem:i∈rem:=(c.left.mem i hin).2 (.inl hil);have hsz:i<listed.size:=d_;have hvl:i<vs.length:=by grind [sq.len]
  have hv:vs[i]?=some vs[i]:=s_;have hacc:=linearise_go_acc m ops fuel (tt / rs.length) (listed.setIfInBounds i true) [i];rw[hacc];simp only[sv,List.reverse_nil,aO,aQ,wpOpsIn,ho];have hclosed:∀ k o',(listed.setIfInBounds i true).getD k false=true->ops[k]?=some o'->∀ e∈o'.after,Region.binds m e=true->(listed.setIfInBounds i true).getD e.on false=true:=by
   intro k o' hk ho' e he hb;rw[Ww hsz]at hk⊢;split
   .rfl
   .by_cases e1:i=k
    .simp_all
    .rw[aa e1]at hk;exact c.left.closed k o' hk ho' e he hb
  have hcount:∀ {l1 l2:C_},rem=l1++i::l2->∀ {l1':C_},(l1'.filter fun i=>!listed.getD i true)=(l1.filter fun i=>!listed.getD i true)->i∉l1'->i∉l2->((l1'++l2).filter fun q=>!(listed.setIfInBounds i true).getD q true).length=fuel:=by
   intro l1 l2 hrem l1' hl1 hn1 hn2;have h1:∀ l:C_,i∉l->(l.filter fun q=>!(listed.setIfInBounds i true).getD q true)=l.filter fun q=>!listed.getD q true:=fun l hl=>List.filter_congr fun q hq=>by
    rw[Ww hsz,aa (fun e=>hl u_)]
   grind
  cases hl:uQ anc vs i with
  | true =>
   obtain⟨v,d,hvi,hdv,hfree,hnoanc⟩:=xT hl;have hchk:=hok.vi i _ o hvi ho;simp only[CP,af]at hchk;obtain⟨⟨hdst,hgd⟩,hop⟩:=hchk;obtain⟨hd1,hd2,hd3⟩:=zy hdv;have hgn:o.guard=none:=by
    grind [Ew]
   have hod:o.dst=some d∧d<n:=by
    rw[hd1]at hdst;split at hdst<;>grind [Nat.beq_eq,Nat.blt_eq]
   have hw:Region.wanted o (yielded ops t)=true:=by grind [Region.wanted]
   rw[ac hw];refine⟨fun _ _=>trivial,?_⟩;rw[M8 _ _ (P3 hd3 hop)];have habs:=c.abs i hirem v d hvi hdv hl;obtain⟨l1,l2,hrem⟩:=qr hirem;have hapl:∀ k∈l1,∀ u,vs[k]?=some u->∃ R M,ka u=some (R,M)∧∀ q∈d::zD v,q∉M:=fun k hk u hu=>by
    have hkm:k∈rem:=u_;have hkn:=c.left.lt k hkm;have hne:k≠i:=fun e=>by
     have hnd:=c.left.nd
     grind
    have hpr:=c.left.pair;rw[hrem]at hpr;have hnk:te anc i k=true->False:=fun h=>by
     have hkl:=uW c.left.closed (hok.path i k h) fun o' ho'=>by
      simp_all
     rcases (c.left.mem k hkn).1 hkm with h2 | h2
     .grind [EO]
     .obtain⟨b2,hb2⟩:=iM.1 h2;have:=(c.pend k b2 hb2).late
      simp_all
    rcases (dg.1 hpr).2.2 k hk i (.head _) with (h | ⟨u',v',a1,a2,a3⟩) | h
    .simp_all
    .rw[hu]at a1;rw[hvi]at a2;simp only[ae]at a1 a2;subst a1 a2;exact YY a3 hdv
    .obtain⟨R,M,f1,f2,f3⟩:=(hfree k u hu hne).resolve_left (fun hd=>by simp_all)
     grind
   have hrun0:=c.run;rw[hrem]at hrun0;obtain⟨sa,sb,hsa,hsq⟩:=ahH hok hvi hdv c.s.se hapl hrun0;refine aoY (ro:=ro) c.s hdv hop (fun z l c' th e hl1 hl2=>?_) ds _ Q fun w1 x g1 O1 A hs1 hx1 hold1 hle1 hhi1 hpk=>?_
   .subst e;simp only[cU]at hsa;obtain⟨v',st2,hv',_⟩:=Tb hsa;simp only[db]at hv';exact⟨v',(aj5 hl1 hl2 (fun q hq=>(hsq q (List.mem_cons_of_mem _ hq)).symm) hv').2⟩
   .rw[Zj,hod.1];have hdn:d<t.size:=by grind [Cf.n]
    have hs2:=hs1.setOther habs x;have ht1:wG t (some d) x=t.setIfInBounds d x:=by grind [Act.put]
    rw[ht1];have hgt:∀ q,q≠d->(t.setIfInBounds d x)[q]?=t[q]?:=fun q hqd=>by
     grind
    have hwle:w0.heap.size<=w.heap.size:=c.base.ext.size;have hO1:∀ b,b<w.heap.size->O1 b<=O b:=fun b hb=>by grind
    have hO1':∀ b,O1 b<=1:=fun b=>by grind
    refine ih (rem:=rem) (pd:=fun q=>if q=i then some A else pd q) (F:=F) (g:=g1) (O:=O1) (st:=st) ⟨⟨c.left.pair,c.left.nd,c.left.lt,by simp[c.left.size],fun k hk=>?_,fun k b hk=>?_,hclosed⟩,by simp[c.n],hs2,c.abs,fun k B hk=>?_,fun k q B C hkq hk hq'=>?_,?_,fun k B hk b hb=>?_,c.le0,c.run⟩ ?_
    .rw[Ww hsz];by_cases e:i=k
     .simp_all
     .have e':¬ k=i:=fun h=>e h.symm
      simp only[e,e',bh];exact c.left.mem k hk
    .rw[Ww hsz];by_cases e:k=i
     .simp_all
     .simp only[e,bh]at hk;have:=c.left.pdl k b hk
      simp_all
    .by_cases e:k=i
     .subst e;simp only[bf,ae]at hk;subst hk;refine⟨hl,hhi1,hle1,v,d,x,hvi,by simp[hdn],?_,hpk⟩
      simp_all
     .simp only[e,bh]at hk;have q:=c.pend k B hk;obtain⟨u,d',y,h1,h4,h5,h6⟩:=q.it;have hdd:d'≠d:=by
       obtain⟨R,M,f1,f2,_⟩:=(hfree k _ h1 e).resolve_left (fun hdk=>by
        obtain⟨_,_,_,_,_,hno⟩:=xT q.late
        simp_all)
       intro h;exact f2 (h▸Fm f1 (zy h6.dst).1)
      exact⟨q.late,fun b hb=>aZ (q.hi b hb) hx1.size,fun b=>by
       by_cases hb:b<w.heap.size
       .have:=q.le b;grind
       grind [alM.hi],u,d',y,h1,u_,(hgt d' hdd).trans h5,
       h6.keep hx1 (fun b hb=>⟨q.hi b hb,fun h=>by have:=q.le b;omega⟩) fun _ _=>rfl⟩
    .have key:∀ k B,k≠i->pd k=some B->∀ b,A b+B b<=1:=fun k B e hk b=>by
      have q:=c.pend k B hk;by_cases hb:b<w.heap.size
      .have:=q.le b;grind
      grind [alM.hi]
     intro b;by_cases e:k=i
     .have e2:q≠i:=fun h=>hkq (e.trans h.symm)
      simp only[e,e2,bf,bh,ae]at hk hq';subst hk;exact key q C e2 hq' b
     .by_cases e2:q=i
      .simp only[e,e2,bf,bh,ae]at hk hq';subst hq';have:=key k B e hk b;omega
      .simp only[e,e2,bh]at hk hq';exact c.disj k q B C hkq hk hq' b
    .exact⟨hs2,c.base.ext.trans hx1 fun b hb h=>by have:=c.base.old b hb;omega,fun b hb=>aM (hO1 b o_) (c.base.old b hb),by simp[c.base.size]⟩
    .by_cases e:k=i
     .simp only[e,bf,ae]at hk;subst hk;have:=hold1 b o_;have:=c.base.old b hb;omega
     .simp only[e,bh]at hk;have:=c.old k B hk b hb;grind
    .have hnd:=c.left.nd;rw[hrem]at hnd;have hnd':=List.nodup_append.1 hnd;have hn1:i∉l1:=fun h=>hnd'.2.2 i h i (.head _) rfl
     have hn2:i∉l2:=(vg.1 hnd'.2.1).1;have:=hcount hrem rfl hn1 hn2;rw[hrem,List.filter_append,List.filter_cons_of_neg (by rw[Ww hsz,ac rfl];simp),<-List.filter_append];exact this
  | false =>
   obtain⟨l1,l2,hrem⟩:=qr hirem;rw[hrem]at c;obtain⟨l1',pd',F',g',O',st1,c1,hpass,hfl⟩:=Cf.flush_for hok hil hl ho hready rfl c;have hsw:∀ j∈l1',∃ u,vs[j]?=some u∧kR (et j nr) (et i nr) u vs[i]=true:=fun j hj=>by
    simp_all
   have inv:dk st1:=⟨c1.s.se,c1.s.sh,fun id hid=>c1.s.heap_fresh hid⟩
   have h2:=U1 hv hsw inv c1.run;simp only[fE,hv]at h2;split at h2
   .simp at h2
   .rename_i st2 h3N;have h3:cU r vs[i] st1=some st2:=No (fun hw=>hok.near i _ hw hv) c1.s.se h3N;have hnd:=c1.left.nd;have hnd':=List.nodup_append.1 hnd;have hn1:i∉l1':=fun h=>hnd'.2.2 i h i (.head _) rfl
    have hn2:i∉l2:=(vg.1 hnd'.2.1).1;have hsub:(l1'++l2).Sublist (l1'++i::l2):=sT (uu i l2) l1';have hpdi:pd' i=none:=by
     cases h:pd' i with
     | none=>rfl
     | some b =>
      have:=(c1.left.pdl i b h).2;rw[<-EO hsz,hil]at this;simp at this
    have hapart:∀ k∈l1'++l2,uQ anc vs k=true->∀ u d,vs[k]?=some u->iG u=some d->∃ R M,ka vs[i]=some (R,M)∧d∉M∧(listed.getD k false=true->∀ q∈zD u,q∉M):=fun k hk hlk u0 d hvk hdk=>by
     have hki:i≠k:=fun e=>by rw[e,hlk]at hl;simp at hl
     obtain⟨u2,d2,k1,kd,k2,_⟩:=xT hlk;rw[hvk]at k1;simp only[ae]at k1;subst k1;rw[hdk]at kd;simp only[ae]at kd;subst kd;rcases k2 i _ hv hki with hd | hd
     .rcases be.1 hk with hk1 | hk1
      .obtain⟨u,v,a1,a2,a3⟩:=hpass k hk1;rw[hvk]at a1;rw[hv]at a2;simp only[ae]at a1 a2;subst a1 a2;obtain⟨R,M,f1,f2⟩:=alV a3 hdk;exact⟨R,M,f1,f2 _ (.head _),fun _ q hq=>f2 q (.tail _ hq)⟩
      .have hkm:k∈l1'++i::l2:=by simp[hk1]
       have hkn:=c1.left.lt k hkm;have hkl:listed.getD k false=true:=uW c1.left.closed (hok.path i k hd) fun o' ho'=>by
        rw[ho]at ho';simp only[ae]at ho';subst ho';exact hready
       have hif:listed.getD i false=false:=by rw[<-EO hsz];exact hil
       have hpw:=(bR.1 (dg.1 c1.left.pair).2.1).1 k hk1;rcases hpw with (h | ⟨u,v,a1,a2,a3⟩) | h
       .have:=uW c1.left.closed (hok.path k i h) fun o' ho'=>c1.left.closed k o' hkl ho'
        rw[hif]at this;simp at this
       .rw[hvk]at a2;rw[hv]at a1;simp only[ae]at a1 a2;subst a1 a2;obtain⟨R,M,f1,f2⟩:=YY a3 hdk;exact⟨R,M,f1,f2 _ (.head _),fun _ q hq=>f2 q (.tail _ hq)⟩
       .have hii:=h.2.1 i hvl hd;have:=uW c1.left.closed (hok.path i i hii) fun o' ho'=>by
         rw[ho]at ho';simp only[ae]at ho';subst ho';exact hready
        rw[hif]at this;simp at this
     .obtain⟨R,M,f1,f2,f3⟩:=hd;refine⟨R,M,f1,f2,fun hkl=>f3.resolve_left fun hki=>?_⟩;have hif:listed.getD i false=false:=by rw[<-EO hsz];exact hil
      have:=uW c1.left.closed (hok.path k i hki) fun o' ho'=>c1.left.closed k o' hkl ho'
      rw[hif]at this;simp at this
    refine alb (ro:=ro) hr hcs c1.n c1.s h3 (hok.vi i _ o hv ho) ds _ Q fun t' w' g2 O2 G hT=>?_
    refine ih (rem:=l1'++l2) (pd:=pd') ⟨⟨c1.left.pair.sublist hsub,hnd.sublist hsub,fun k hk=>c1.left.lt k (hsub.subset hk),by simp[c1.left.size],fun k hk=>?_,fun k b hk=>?_,hclosed⟩,by rw[G.size,c1.n],G.st,fun k hk u d hvk hdk hlk=>?_,fun k B hk=>?_,c1.disj,c1.base.trans G,fun k B hk b hb=>?_,c1.le0,h2⟩ ?_
    .have hold:=c1.left.mem k hk;rw[Ww hsz];by_cases e:i=k
     .subst e;simp only[bf,lU,hpdi,Option.isSome_none,ao,or_self,iff_false];intro hm;rcases be.1 hm with h | h
      .exact hn1 h
      .exact hn2 h
     .simp only[e,bh];rw[<-hold];simp only[be,az];constructor
      .rintro (h | h)
       .exact .inl h
       .exact .inr (.inr h)
      .rintro (h | h | h)
       .exact .inl h
       .exact absurd h.symm e
       .exact .inr h
    .have:=c1.left.pdl k b hk;refine⟨this.1,?_⟩;rw[Ww hsz];split
     .rfl
     .exact this.2
    .have h0:=c1.abs k (hsub.subset hk) u d hvk hdk hlk;obtain⟨R,M,f1,f2,_⟩:=hapart k hk hlk u d hvk hdk;obtain⟨e1,hs1'⟩:=st1;have:=(AK f1 e1 hs1' st2 h3).2.1 d f2;rw[this];exact h0
    .have hki:i≠k:=fun e=>by rw[<-e,hpdi]at hk;simp at hk
     have hkm:k∈l1'++i::l2:=(c1.left.mem k (c1.left.pdl k B hk).1).2 (.inr (by rw[hk];rfl));have hkm':k∈l1'++l2:=by
      rcases be.1 hkm with h | h
      .exact df _ h
      .rcases az.1 h with h | h
       .exact absurd h.symm hki
       .exact gL _ h
     have q:=c1.pend k B hk;obtain⟨u,d,y,h1,h4,h5,h6⟩:=q.it;obtain⟨R,M,f1,f0,f2⟩:=hapart k hkm' q.late u d h1 h6.dst;have f2:=f2 (c1.left.pdl k B hk).2;have hdd:vs[i].dst≠some d:=fun e=>f0 (Fm f1 e)
     refine⟨q.late,fun b hb=>aZ (q.hi b hb) G.ext.size,fun b=>?_,u,d,y,h1,by rw[G.size];exact h4,(hT d hdd).trans h5,h6.keep G.ext (fun b hb=>⟨q.hi b hb,fun h=>by have:=q.le b;omega⟩) fun p hp=>?_⟩
     .by_cases hb:b<w.heap.size
      .have:=q.le b;have:=G.old b hb;omega
      .have:B b=0:=by
        by_cases h:B b=0
        .exact h
        .exact absurd (q.hi b h) hb
       have:=G.st.le b;omega
     .obtain⟨e1,hs1'⟩:=st1;exact(AK f1 e1 hs1' st2 h3).2.1 p (f2 p hp)
    .have:=c1.old k B hk b hb;have:=G.old b (aZ hb c1.base.ext.size);omega
    .
     exact hcount hrem hfl hn1 hn2
def Uf {e:aV}:∀ {vs:T_},rW e vs=true->∀ (i:Nat) (v:VI) (d:Nat),vs[i]?=some v->iG v=some d->get e d=none
 | [],_,i,v,d,h,_=>by simp at h
 | u::r,hl,i,v,d,h,hd=>by
  simp only[rW,af]at hl
  cases i with
  | zero =>
   grind
  | succ i =>
   exact Uf hl.2 i v d h hd
def aoC {g:Gh}{w:World}{t:F_}{O:Nat->Nat}{st st':St}{ro:I_}(hr:iL P r) (hcs:jf P r) {n:Nat}{ops:Array Oper}{gco nr:C_}{vs:T_}{perm:C_}(ds:List Deferred) (h:HL P n ops perm gco nr vs=true) {Q:Exit->Act->World->Prop}{id:Nat}(hn:t.size=n)
  (s:S P g w st t O) (habs:rW st.env vs=true) (hrun:fE r nr vs perm [] st=some st') (hq:∀ w' t' g' O',gG P g w t O st' t' w' g' O'->Q .normal ⟨t',ds⟩ w'):(Code.region id ops true).wpIn (FR ro) 0 P Q ⟨t,ds⟩ w:=by
 have hok:=avS h;refine wpIn_region_draw fun tt=>?_
 have hx:bI g w g w.drew fun _=>False:=bI.drew _ _ _
 have sd:=s.extF hx rfl s.pmlt;have hleft:∀ m,atD ops nr vs (H6 ops perm []) m (Array.replicate ops.size false) perm (fun _=>none):=fun m=>by
  refine⟨hok.pair,hok.nd,hok.lt,s_,fun i hi=>?_,fun i b hi=>by simp at hi,fun i o hi=>?_⟩
  .have:=hok.all i hi
   simp_all
  .simp[Array.getD]at hi
 have hlen:(perm.filter fun i=>!(Array.replicate ops.size false).getD i true).length=ops.size:=by
  have h0:(perm.filter fun i=>!(Array.replicate ops.size false).getD i true)=perm:=List.filter_eq_self.2 fun i hi=>by
   have:=hok.lt i hi
   simp_all
  have h1:perm.Perm (List.range ops.size):=by
   grind [sq.nd,List.nodup_range,sq.all]
  rw[h0,h1.length_eq];simp
 have key:∀ m tt,wpOpsIn (FR ro) 0 P ops Q (Region.linearise m ops tt) ⟨t,ds⟩ w.drew:=fun m tt =>
  av0 (ro:=ro) (m:=m) hr hcs hok ds (g0:=g) (w0:=w.drew) (t0:=t) (O0:=O) (st':=st') (fun w' t' g' O' G=>hq _ _ _ _ ⟨G.st,(hx.mono (T:=fun b=>O b≠0) fun _ _ h=>h.elim).trans G.ext fun _ _ h=>h,G.old,G.size⟩)
   ⟨hleft m,hn,sd,fun i hi v d hv hd _=>Uf habs i v d hv hd,fun i b hi=>by simp at hi,fun i j A B _ hi=>by simp at hi,gG.refl sd,fun i b hi=>by simp at hi,sd.le,hrun⟩ hlen
 unfold Region.schedule;split<;>simp_all
end
abbrev q7:=@StepsIn.trans
def OF (ro:I_) (P:Program) (c:Code) (Q:Exit->Act->World->Prop) (a:Act) (w:World):Prop :=
 ∀ (b:Frame) (k:List Item) (cs:List Frame),b.roundOf=ro->∃ e a' w',Q e a' w'∧ArrivesIn (Machine.fenced P (FR ro)) P (lone (b.atR a (.inLoop c::k)) cs w) b k cs e a' w'
def Fw (ro:I_) (P:Program) (body cur:Code) (Q:Exit->Act->World->Prop) (a:Act) (w:World):Prop :=
 ∀ (b:Frame) (k:List Item) (cs:List Frame),b.roundOf=ro->∃ e a' w',Q e a' w'∧ArrivesIn (Machine.fenced P (FR ro)) P (lone (b.atR a (.code cur::.inScope body::k)) cs w) b k cs e a' w'
section
variable {P:Program}{ro:I_}{Q:Exit->Act->World->Prop}{a:Act}{w:World}
def JO {ro:I_}(m:Machine):Machine.fenced P (FR ro) m:=fenced_wide P m
def Zy {c:Code}(h:c.wpIn (FR ro) 0 P (Exit.then (OF ro P c Q) Q) a w):OF ro P c Q a w∧(Code.loop c).wpIn (FR ro) 0 P Q a w:=by
 have key:∀ (b:Frame) (k:List Item) (cs:List Frame),b.roundOf=ro->∃ e a' w',Q e a' w'∧ArrivesIn (Machine.fenced P (FR ro)) P (lone (b.atR a (.code c::.inLoop c::k)) cs w) b k cs e a' w':=by
  intro b k cs hro;obtain⟨e,a₁,w₁,hq,harr⟩:=h b (.inLoop c::k) cs hro trivial (aaJ _ _)
  cases e with
  | normal =>
   obtain⟨e₂,a₂,w₂,hq₂,harr₂⟩:=hq b k cs hro;exact⟨e₂,a₂,w₂,hq₂,.of_steps harr harr₂⟩
  | exit id=>exact⟨_,a₁,w₁,hq,.pass (x:=.inLoop c) rfl (fun _ _=>.inl s_) harr⟩
  | goto l=>exact⟨_,a₁,w₁,hq,.pass (x:=.inLoop c) rfl (fun _ _=>.inl s_) harr⟩
  | ret=>exact⟨_,a₁,w₁,hq,.pass (x:=.inLoop c) rfl (fun _ _=>.inl s_) harr⟩
  | panic ch=>exact⟨_,a₁,w₁,hq,.pass (x:=.inLoop c) rfl (fun _ _=>.inl s_) harr⟩
  | outgrown=>exact⟨_,a₁,w₁,hq,.pass (x:=.inLoop c) rfl (fun _ _=>.inl s_) harr⟩
 refine⟨fun b k cs hro=>?_,fun b k cs hro _ _=>?_⟩
 .obtain⟨e,a',w',hq,harr⟩:=key b k cs hro;exact⟨e,a',w',hq,.of_steps (.one (JO _) stepR_inLoop) harr⟩
 .obtain⟨e,a',w',hq,harr⟩:=key b k cs hro;exact⟨e,a',w',hq,.of_steps (.one (JO _) stepR_loop) harr⟩
def Exit.scope (ro:I_) (P:Program) (body:Code) (Q:Exit->Act->World->Prop):Exit->Act->World->Prop
 | .goto l,a,w=>match findLabel body l with
  | some rest=>Fw ro P body rest Q a w
  | none=>Q (.goto l) a w
 | e,a,w=>Q e a w
def aiq {body cur:Code}(h:cur.wpIn (FR ro) 0 P (Exit.scope ro P body Q) a w):Fw ro P body cur Q a w:=by
 intro b k cs hro;obtain⟨e,a₁,w₁,hq,harr⟩:=h b (.inScope body::k) cs hro trivial (aaJ _ _)
 cases e with
 | normal=>exact⟨.normal,a₁,w₁,hq,q7 harr (.one (JO _) (step_lone_go (by simp[stepG,stepG.exec,Frame.atR])))⟩
 | exit id =>
  have hx:exitTo id (.inScope body::k)=exitTo id k:=by simp[exitTo]
  exact⟨_,a₁,w₁,hq,fun k' hk=>harr.1 k' u_,fun hr hk=>harr.2 hr u_⟩
 | goto l =>
  have hx:gotoIn l (.inScope body::k)=match findLabel body l with | some rest=>some (.code rest::.inScope body::k) | none=>gotoIn l k:=by
   grind [gotoIn]
  simp only[Exit.scope]at hq
  cases hf:findLabel body l with
  | some rest =>
   rw[hf]at hq hx;obtain⟨e₂,a₂,w₂,hq₂,harr₂⟩:=hq b k cs hro;exact⟨e₂,a₂,w₂,hq₂,.of_steps (harr.1 _ hx) harr₂⟩
  | none =>
   rw[hf]at hq hx;exact⟨_,a₁,w₁,hq,fun k' hk=>harr.1 k' u_,fun hr hk=>harr.2 hr u_⟩
 | ret=>exact⟨_,a₁,w₁,hq,harr⟩
 | panic ch=>exact⟨_,a₁,w₁,hq,harr⟩
 | outgrown=>exact⟨_,a₁,w₁,hq,harr⟩
def apn {body:Code}(h:Fw ro P body body Q a w):(Code.scope body).wpIn (FR ro) 0 P Q a w:=by
 intro b k cs hro _ _;obtain⟨e,a',w',hq,harr⟩:=h b k cs hro;exact⟨e,a',w',hq,.of_steps (.one (JO _) (step_lone_go (by simp[stepG,stepG.exec,Frame.atR]))) harr⟩
end
def anY {P:Program}{n:Nat}{v:VC}{c:Code}(h:Mt P n v c) (l:Nat) :
  match v7 v l with
  | some x=>∃ y,findLabel c l=some y∧Mt P n x y
  | none=>findLabel c l=none:=by
 have hgh:∀ {a:VC},wV a=true->v7 a l=none:=by
  intro a
  induction a<;>grind [wV,v7]
 induction h with
 | ghostL h1 h2 ih=>grind [v7]
 | @ghostR a b c h1 h2 ih =>
  simp only[v7,hgh h1]
  cases hf:v7 a l with
  | none=>simp_all
  | some x =>
   simp only[hf]at ih⊢;obtain⟨y,hy,hm⟩:=ih;exact⟨y,hy,.ghostR h1 hm⟩
 | @seq a b c d h1 h2 ih1 ih2 =>
  simp only[v7]
  cases hf:v7 a l with
  | some x =>
   simp only[hf]at ih1⊢;obtain⟨y,hy,hm⟩:=ih1;exact⟨.seq y d,by grind [findLabel],.seq hm h2⟩
  | none =>
   grind [findLabel]
 | @label k =>
  simp only[v7,findLabel];by_cases e:k=l
  .subst e;simp[Mt.skip]
  grind [Nat.beq_eq]
 | _=>grind [v7,findLabel]
section
variable {P:Program}{g:Gh}{w:World}{t:F_}{O:Nat->Nat}{st st':St}{a:AV}{o:Oper}{r:dz}
def ahy:∀ {vs:D_}{i:Nat},∀ p∈ku i vs,i<=p.1
 | [],_,p,hp=>by simp[ku]at hp
 | v::vs,i,p,hp=>by
  rcases aa8 hp with rfl | hp
  .omega
  .have:=ahy p hp;omega
def Sk:∀ (vs:D_) (i:Nat),cO (ku i vs)
 | [],_=>List.Pairwise.nil
 | v::vs,i=>(Sk vs (i+1)).put _ _
def amL {t:F_}{i:Nat}{x:Value}(h:t[i]?=some x):i<t.size:=by
 grind
def ab0 {t:F_}:∀ {vs:D_}{xs:O_}{i:Nat}{Ov:Nat->Nat},RVs g w vs xs Ov->(∀ (j:Nat) (x:Value),xs[j]?=some x->t[i+j]?=some x)->kx g w (ku i vs) t Ov
 | [],xs,i,Ov,rv,_=>by exact rv.2
 | v::vs,xs,i,Ov,rv,ht=>by
  obtain⟨x,ys,O1,O2,rfl,r1,r2,hs⟩:=rv;have h0:t[i]?=some x:=ht 0 x rfl;have rr:=ab0 (t:=t) (i:=i+1) r2 fun j y hj=>by have:=ht (j+1) y u_;grind
  rw[<-rO (l:=ku (i+1) vs) (i:=i) fun p hp=>by have:=ahy p hp;omega]at rr;obtain⟨O,ro,ho⟩:=RL.put (Sk vs (i+1)) rr (i:=i) (x:=v) (O1:=O1) ⟨amL h0,u_⟩;have e:O=Ov:=funext fun b=>by simp_all
  exact e▸ro
def av1 {args:D_}{hs:HS}{xs:O_}{Oa Oh:Nat->Nat}(rv:RVs g w args xs Oa) (sh:S P g w ⟨[],hs⟩ #[] Oh) (hle:∀ b,Oa b+Oh b<=1) (hhi:∀ b,Oa b≠0->b<w.heap.size) (n:Nat) :
  S P g w ⟨ku 0 args,hs⟩ (xs.toArray++Array.replicate n undef) fun b=>Oa b+Oh b:=by
 refine S.join (Sk _ _) (ab0 rv fun j x hj=>?_) sh hle hhi
 grind
def bI.deferBlk {b:Nat}{ds ds':Option (List Deferred)}(hb:w.heap[b]?=some (.deferred ds)):bI g w g (Vm.setBlk w b (.deferred ds')) fun x=>x=b where
 obj _ _ h:=⟨h,rfl,rfl,rfl⟩
 pm b' o h:=⟨h,by
  grind [World.cell?,eQ,iA]⟩
 blk b' _ h:=⟨iA h,fun _ h=>h⟩
 size:=s_
 lp b' r h:=⟨r,by grind [iA]⟩
 same:=⟨rfl,rfl,zT hb (by grind [gB]) (by grind [gB])⟩
def IC {b:Nat}(h:w.heap[b]?=some (.deferred (some []))):(Instr.takeDeferred b).run P w=.ok [] (setBlk w b (.deferred none)):=by
 simp_all [Instr.takeDeferred,getObj,setObj,Sem.run,setBlk]
def Zp {ro:I_}{fn:Func}{tmps:F_}{R:Ending->World->Prop}{lo:Nat}:∀ {ms:List Deferred}{w:World},jR w O lo ms->S P g w st t O->
  (∀ w',S P g w' st t O->bI g w g w' (fun b=>lo<=b)->∃ v,(results fn tmps).run P w'=.ok v w'∧R (.returned v) w')->LeavesInM (FR ro) 0 P fn tmps R ms .returning w
 | [],w,_,s,h=>h w s (.refl _ _ _)
 | d::ds,w,⟨⟨r,h1,h2,h3,h4,h5⟩,h6⟩,s,h=>by
  refine⟨s_,.inl ⟨r,setBlk w r (.deferred none),h1,IC h3,?_⟩⟩;have hx:bI g w g (setBlk w r (.deferred none)) fun x=>x=r:=bI.deferBlk h3
  have hm:jR (setBlk w r (.deferred none)) O lo ds:=by
   have:∀ {es:List Deferred},(∀ d'∈es,∀ r',d'.target=.collected r'->r'<r)->jR w O lo es->jR (setBlk w r (.deferred none)) O lo es:=by
    intro es
    induction es with
    | nil=>exact fun _ _=>trivial
    | cons e es ih =>
     rintro hlt ⟨⟨q,k1,k2,k3,k4,k5⟩,k6⟩
     have:=hlt e (.head _) q k1;exact⟨⟨q,k1,k2,by grind [iA],k4,k5⟩,ih (fun d' hd'=>hlt d' (.tail _ hd')) k6⟩
   grind
  exact Zp hm (s.otherG hx h4) fun w' s' hx'=>h w' s' ((hx.mono (T:=fun b=>lo<=b) fun b _ e=>by omega).trans hx' fun _ _ h=>h)
def YS (t:F_):ResultVar->Sem Value
 | .tmp i=>pure (t.getD i undef)
 | .cell i ty=>do loadVar ty (<-asAddr (t.getD i undef))
def Yr (fn:Func) (t:F_):results fn t=(do let vs<-fn.results.mapM (YS t);pure (if h:vs.size=1 then vs[0] else .tuple vs)):=by
 congr 1
def afW {α:Type}{f:α->Sem Value}{l:Array α}{xs:O_}(h:(l.toList.mapM f).run P w=.ok xs w):(l.mapM f).run P w=.ok xs.toArray w:=by
 simp_all [Array.mapM_eq_mapM_toList]
def EW:∀ {vr:BA_}{fr:List ResultVar},me P vr fr=true->∀ {st st':St}{O:Nat->Nat}{vs:D_},fJ st vr=some (vs,st')->S P g w st t O->
  ∃ xs:O_,∃ Ov O',(fr.mapM (YS t)).run P w=.ok xs w∧RVs g w vs xs Ov∧S P g w st' t O'∧(∀ b,Ov b+O' b<=O b)∧
   xs.length=fr.length
 | [],[],_,st,st',O,vs,h,s=>by
  obtain⟨rfl,rfl⟩:=h;exact⟨[],zero,O,s_,by simp[RVs],s,fun b=>by simp,rfl⟩
 | .tmp i::vr,.tmp j::fr,hc,st,st',O,vs,h,s=>by
  simp only[me,af,aC]at hc;obtain⟨rfl,hc⟩:=hc;simp only[fJ]at h;split at h
  .rename_i v hv;split at h
   .rename_i us st1 hr;obtain⟨rfl,rfl⟩:=h;obtain⟨O1,O2,_,rv,s2,l2⟩:=s.pull hv;obtain⟨xs,O3,O4,hrun,rvs,s4,l4,hlen⟩:=EW hc hr s2;refine⟨t.getD i undef::xs,fun b=>O1 b+O3 b,O4,?_,?_,s4,fun b=>by grind,u_⟩
    .simp_all [YS]
    grind [RVs]
   simp_all
  simp_all
 | .cell i n::vr,.cell j ty::fr,hc,st,st',O,vs,h,s=>by
  simp only[me,af,aC]at hc;obtain⟨⟨rfl,hty⟩,hc⟩:=hc;simp only[fJ]at h;split at h
  .rename_i id hv;split at h
   .rename_i v h' hl;split at h
    .rename_i us st1 hr;obtain⟨rfl,rfl⟩:=h;obtain⟨O0,O00,_,rp,_,_⟩:=s.pull hv;obtain⟨⟨b,hob,hp⟩,_⟩:=rp;obtain⟨x,O1,O2,hrun1,rv,s2,l2⟩:=X8 hty s hob hl;obtain⟨O5,s5,l5⟩:=s2.delEnv i;obtain⟨O6,s6,l6⟩:=s5.delHeap id;obtain⟨xs,O3,O4,hrun,rvs,s4,l4,hlen⟩:=EW hc hr s6;refine⟨x::xs,fun b=>O1 b+O3 b,O4,?_,?_,s4,fun b=>by grind,u_⟩
     .simp_all [YS,asAddr]
     grind [RVs]
    simp_all
   simp_all
  simp_all
 | [],_::_,hc,_,_,_,_,_,_=>by simp[me]at hc
 | _::_,[],hc,_,_,_,_,_,_=>by simp[me]at hc
 | .tmp _::_,.cell _ _::_,hc,_,_,_,_,_,_=>by simp[me]at hc
 | .cell _ _::_,.tmp _::_,hc,_,_,_,_,_,_=>by simp[me]at hc
def afO {vf:aj}{fn:Func}(hc:me P vf.results fn.results.toList=true) {v:AV}{hs':HS}(h:Gu vf st=some (v,hs')) (s:S P g w st t O) :
  ∃ x Ov Oh,(results fn t).run P w=.ok x w∧RV g w v x Ov∧S P g w ⟨[],hs'⟩ #[] Oh∧∀ b,Ov b+Oh b<=O b:=by
 unfold Gu at h;split at h
 .rename_i v1 st1 hr;obtain⟨rfl,rfl⟩:=h;obtain⟨xs,Ov,O',hrun,rvs,s',l,hlen⟩:=EW hc hr s;obtain⟨x,ys,O1,O2,rfl,rv,⟨rfl,_⟩,hs2⟩:=rvs;obtain⟨Oe,Oh,_,sh,ho⟩:=s'.split;refine⟨x,O1,Oh,?_,rv,sh,fun b=>by grind⟩
  simp_all [Yr,afW]
 .rename_i vs st1 hne hr;obtain⟨rfl,rfl⟩:=h;obtain⟨xs,Ov,O',hrun,rvs,s',l,hlen⟩:=EW hc hr s;obtain⟨Oe,Oh,_,sh,ho⟩:=s'.split;refine⟨.tuple xs.toArray,Ov,Oh,?_,by grind [RV],sh,fun b=>by grind⟩;have hl1:xs.length≠1:=by
   intro h1;have h2:=rvs.length;rw[h1]at h2
   match vs,h2 with
   | [v],_=>grind
  simp_all [Yr,afW]
 simp_all
end
section
variable {P:Program}{g:Gh}{w:World}{t:F_}{O:Nat->Nat}{st st':St}{a:AV}{o:Oper}{r:dz}
def qa {ro:I_}{ops:Array Oper}{Q:Exit->Act->World->Prop}{i:Nat}{rest:C_}{ds:List Deferred}{v:Value}{w':World}(h:ops[i]?=some o) (hg:o.guard=none)
  (hd:∀ c,o.op≠.defer c) (hrun:(execOp (ev t) o).run P w=.ok (.value v) w') (hk:wpOpsIn (FR ro) 0 P ops Q rest ⟨wG t o.dst v,ds⟩ w'):wpOpsIn (FR ro) 0 P ops Q (i::rest) ⟨t,ds⟩ w:=by
 simp only[wpOpsIn,h];rw[ac (by grind [Region.wanted])];refine⟨fun _ _=>trivial,?_⟩
 grind [M8,Oper.uponIn_value,Zj]
theorem Ap {d:Nat}(h:K8 o d=true):o.dst=some d∧o.guard=none:=by
 grind [K8,Nat.beq_eq,Option.isNone_iff_eq_none]
theorem WM {x:Operand}(h:Zs x=true):x=.const (.slice none 0 0):=by
 grind [Zs]
theorem wW {i:Nat}{x:Operand}(h:EK i x=true):x=.tmp i:=by
 unfold EK at h;grind [Nat.beq_eq]
def aDD {α:Type}{r:Array α}{x:α}(h:r.toList=[x]):r=#[x]:=by
 grind
def WS {d:Nat}{r:Array Oper}(h:Xl d r.toList=true):∃ o,r=#[o]∧o.dst=some d∧o.guard=none∧o.op=.assign (.const (.slice none 0 0)):=by
 unfold Xl at h
 grind [Ap,WM]
def ama {m:Nat}{r:Array Oper}(h:afs P m r.toList=true):∃ a b T u,r=#[a,b]∧a.dst=some 3∧a.guard=none∧a.op=.move (.tmp 0)∧b.dst=some 4∧b.guard=none∧
  b.op=.binOp .eql T (.tmp 3) (.const (.slice none 0 0)) u∧iS P T m=true:=by
 unfold afs at h
 grind [Ap,wW,WM]
def amN {m:Nat}{r:Array Oper}(h:agj P m r.toList=true):∃ a b c d T ats e',r=#[a,b,c,d]∧a.dst=some 5∧a.guard=none∧a.op=.buildSlice T 0 #[]∧iS P T m=true∧
  b.dst=some 6∧b.guard=none∧b.op=.move (.tmp 0)∧c.dst=some 7∧c.guard=none∧c.op=.call ⟨.builtin .append,#[.tmp 5,.tmp 6],ats⟩∧ats=#[s9 ⟨.builtin .append,#[.tmp 5,.tmp 6],ats⟩,ats.getD 1 0]∧
  iS P (s9 ⟨.builtin .append,#[.tmp 5,.tmp 6],ats⟩) m=true∧mQ P (s9 ⟨.builtin .append,#[.tmp 5,.tmp 6],ats⟩) m=true∧P.underlying (ats.getD 1 0)=some (.slice e')∧
  d.dst=some 2∧d.guard=none∧d.op=.assign (.tmp 7):=by
 unfold agj at h;split at h
 .rename_i a b c d e;simp only[af]at h;obtain⟨⟨⟨⟨⟨⟨⟨h1,h2⟩,h3⟩,h4⟩,h5⟩,h6⟩,h7⟩,h8⟩:=h;obtain⟨k1,k2⟩:=Ap h1;obtain⟨k3,k4⟩:=Ap h3;obtain⟨k5,k6⟩:=Ap h5;obtain⟨k7,k8⟩:=Ap h7;split at h2
  .rename_i T ps hops;simp only[af]at h2;split at h4
   .split at h6
    .rename_i k hk;obtain⟨callee,args,ats⟩:=k;simp only[af]at h6;obtain⟨⟨⟨⟨⟨q1,q2⟩,q3⟩,q4⟩,q5⟩,q6⟩:=h6;have:=pK q1;subst this;split at q6
     .simp only[af]at q6;have e1:=wW q6.1;have e2:=wW q6.2;have:args=#[.tmp 5,.tmp 6]:=d_;subst this;split at q5
      .rename_i e' he';split at h8
       .exact⟨a,b,c,d,T,ats,e',d_,k1,k2,u_,h2.1,k3,k4,by grind [wW],k5,k6,hk,JA q2,q3,q4,he',k7,k8,by grind [wW]⟩
       simp_all
      simp_all
     simp_all
    simp_all
   simp_all
  simp_all
 simp_all
theorem qw {i j:Nat}{v:Value}(h:j<t.size):(t.setIfInBounds i v).getD j undef=if i=j then v else t.getD j undef:=by
 simp only[gn,fX]
 grind
def alz {m:Nat}{c:Code}(hc:NV P m c=true) {out:ct}(h:MT m st=some (out,st')) (ht:8<=t.size) (s:S P g w st t O) :
  c.wpIn (FR none) 0 P (co P g w t O [] none out st') ⟨t,[]⟩ w:=by
 unfold NV at hc;split at hc
 .rename_i i0 r0 i1 r1 i2 r2 i3 r3;simp only[af]at hc;obtain⟨⟨⟨c0,c1⟩,c2⟩,c3⟩:=hc;obtain⟨o0,rfl,d0,gd0,p0⟩:=WS c0;obtain⟨o1,o2,T,u,rfl,d1,gd1,p1,d2,gd2,p2,hT⟩:=ama c1;obtain⟨o3,rfl,d3,gd3,p3⟩:=WS c2;obtain⟨o4,o5,o6,o7,T4,ats,e',rfl,d4,gd4,p4,hT4,d5,gd5,p5,d6,gd6,p6,hats,hT6,hz6,hu1,d7,gd7,p7⟩:=amN c3;unfold MT at h;split at h
  .rename_i v hv;split at h
   .rename_i xs hxs;split at h
    .rename_i hb;simp only[af,bj]at hb;obtain⟨hok,hmost⟩:=hb;simp only[ae,aP]at h;obtain⟨rfl,rfl⟩:=h;have hl:=KI hok;obtain⟨Ov,O1,h0t,rv,s1,l1⟩:=s.pull hv;obtain⟨ad,cap,news0,hx,hels0⟩:=AO s hxs hl rv;obtain⟨Oe,Oh,_,sh,ho⟩:=s.split;generalize hX:t.getD 0 undef=X at *;obtain⟨el,hu,hsz,hm,hby⟩:=iw hT;have fin:∀ (t':F_) (w':World) (g':Gh) (Or O':Nat->Nat),t'.size=t.size->RV g' w' (.own true m xs) (t'.getD 2 undef) Or->S P g' w' ⟨[],st.hs⟩ #[] O'->bI g w g' w' (fun b=>O b≠0)->
       (∀ b,Or b+O' b<=1)->(∀ b,b<w.heap.size->Or b+O' b<=O b)->(∀ b,Or b≠0->b<w'.heap.size)->co P g w t O [] none .ret ⟨[(2,.own true m xs)],st.hs⟩ .ret ⟨t',[]⟩ w':=by
      intro t' w' g' Or O' hsz' rv' s' hx' hle hold hhi;refine⟨rfl,g',fun b=>Or b+O' b,[],⟨S.join (by simp[cO]) ⟨Or,zero,⟨d_,rv'⟩,fun _=>rfl,fun b=>by simp⟩ s' hle hhi,hx',hold,hsz'⟩,rfl,trivial,fun _=>rfl⟩
     have nodef:∀ {op:Op}{op':Op},op=op'->(∀ c,op'≠.defer c)->∀ c,op≠.defer c:=fun e h c e2=>h c (e▸e2)
     refine wpIn_seq (wpIn_region ?_);show wpOpsIn _ _ _ _ _ [0] _ _;refine qa (o:=o0) (v:=.slice none 0 0) (w':=w) rfl gd0 (nodef p0 s_) (by simp[execOp,p0,ev]) ?_;refine wpIn_seq (wpIn_seq (wpIn_region ?_));show wpOpsIn _ _ _ _ _ [0,1] _ _;have hev0:ev (wG t (some 2) (.slice none 0 0)) (.tmp 0)=X:=by
      show (t.setIfInBounds 2 _).getD 0 undef=X
      grind [qw]
     rw[d0];refine qa (o:=o1) (v:=X) (w':=w) rfl gd1 (nodef p1 s_) (by simp[execOp,p1,hev0]) ?_;rw[d1];generalize ht2:wG (wG t (some 2) (.slice none 0 0)) (some 3) X=t2;have hs2:t2.size=t.size:=by grind [pX]
     have hev3:ev t2 (.tmp 3)=X:=by
      rw[<-ht2];show ((wG t (some 2) (.slice none 0 0)).setIfInBounds 3 X).getD 3 undef=X
      grind [qw,pX]
     have heq:(Op.equal T X (.slice none 0 0)).run P w=.ok ad.isNone w:=by
      show (Op.equalIn (9999+1) T X (.slice none 0 0)).run P w=_;rw[hx];unfold Op.equalIn;rw[aR,aY hu]
      cases ad<;>simp
     have hguard:(eqGuard .eql T (.tmp 3) (.const (.slice none 0 0)) X (.slice none 0 0)).run P w=.ok () w:=by
      rw[hx];unfold eqGuard;simp
     refine qa (o:=o2) (v:=.bool ad.isNone) (w':=w) rfl gd2 (nodef p2 s_) ?_ ?_
     .simp only[execOp,p2,hev3];have hc:ev t2 (.const (.slice none 0 0))=.slice none 0 0:=rfl;rw[hc,aR,aR,hguard];have hbin:(binOp .eql T X (.slice none 0 0)).run P w=.ok (.bool ad.isNone) w:=by
       rw[hx];rw[hx]at heq;show ((do pure (.bool (<-Op.equal T (.slice ad xs.length cap) (.slice none 0 0))):Sem Value)).run P w=_;rw[aR,heq];rfl
      grind [Result.andThen_ok,Sem.run_pure]
     .rw[d2];generalize ht3:wG t2 (some 4) (.bool ad.isNone)=t3;have hs3:t3.size=t.size:=by grind [pX]
      have hev4:ev t3 (.tmp 4)=.bool ad.isNone:=by
       rw[<-ht3];show (t2.setIfInBounds 4 _).getD 4 undef=_
       grind [qw]
      have hev03:ev t3 (.tmp 0)=X:=by
       rw[<-ht3,<-ht2];show (((t.setIfInBounds 2 _).setIfInBounds 3 _).setIfInBounds 4 _).getD 0 undef=X
       grind [qw]
      show (Code.cond (.tmp 4) (.seq (.region i2 #[o3] false) .ret) .skip).wpIn (FR none) 0 P _ ⟨t3,[]⟩ w
      cases had:ad with
      | none =>
       refine wpIn_cond_true (by rw[Hs,hev4,had];rfl) (wpIn_seq (wpIn_region ?_));show wpOpsIn _ _ _ _ _ [0] _ _;refine qa (o:=o3) (v:=.slice none 0 0) (w':=w) rfl gd3 (nodef p3 s_) (by simp[execOp,p3,ev]) (wpIn_ret ?_);rw[d3];have hnil:xs=[]:=ax (hels0.nn had);refine fin _ w g zero Oh (by rw[pX,hs3]) ?_ sh (.refl _ _ _) (fun b=>by have:=ho b;have:=s.le b;grind) (fun b _=>by grind) (fun b hb=>by simp at hb);have:(wG t3 (some 2) (.slice none 0 0)).getD 2 undef=.slice none 0 0:=by
        show (t3.setIfInBounds 2 _).getD 2 undef=_
        grind [qw]
       grind [RV,Dc]
      | some ad' =>
       refine wpIn_cond_false (by rw[Hs,hev4,had];rfl) (wpIn_skip ?_);refine wpIn_seq (wpIn_region ?_);show wpOpsIn _ _ _ _ _ [0,1,2,3] _ _;obtain⟨el4,hu4,hsz4,hm4,hby4⟩:=iw hT4;have hbuild:(Instr.buildSlice T4 0 #[]).run P w=.ok (.slice (some ⟨w.heap.size,0,none⟩) 0 0) (w.alloc (.cells #[] el4)):=by
        have hr:∀ f:Nat->Value,(Array.range (0*m)).map f=#[]:=by
         grind
        simp only[Instr.buildSlice,aY hu4,eJ hsz4,aR,bp,mp,Instr.fill,Nat.zero_mul,bf,dx];have hr0:∀ f:Nat->Value,(Array.range 0).map f=#[]:=by
         grind
        simp[newRow,hr0]
       refine qa (o:=o4) (v:=.slice (some ⟨w.heap.size,0,none⟩) 0 0) (w':=w.alloc (.cells #[] el4)) rfl gd4 (nodef p4 s_) (by simp[execOp,p4,hbuild]) ?_;rw[d4];generalize ht5:wG t3 (some 5) (.slice (some ⟨w.heap.size,0,none⟩) 0 0)=t5;have hs5:t5.size=t.size:=by grind [pX]
       have hev05:ev t5 (.tmp 0)=X:=by
        rw[<-ht5];show (t3.setIfInBounds 5 _).getD 0 undef=X;rw[qw o_,aa o_];exact hev03
       refine qa (o:=o5) (v:=X) (w':=w.alloc (.cells #[] el4)) rfl gd5 (nodef p5 s_) (by simp[execOp,p5,hev05]) ?_;rw[d5];generalize ht6:wG t5 (some 6) X=t6;have hs6:t6.size=t.size:=by grind [pX]
       have hev66:ev t6 (.tmp 6)=X:=by
        rw[<-ht6];show (t5.setIfInBounds 6 _).getD 6 undef=X
        grind [qw]
       have hev65:ev t6 (.tmp 5)=.slice (some ⟨w.heap.size,0,none⟩) 0 0:=by
        rw[<-ht6,<-ht5];show ((t3.setIfInBounds 5 _).setIfInBounds 6 _).getD 5 undef=_
        grind [qw]
       have hx1:bI g w g (w.alloc (.cells #[] el4)) fun _=>False:=bI.alloc s.pmlt _ _
       have hpl:∀ b o,g.pm b o->b<(w.alloc (.cells #[] el4)).heap.size:=fun b o h=>aZ (s.pmlt b o h) hx1.size
       have sx:=s.extF hx1 rfl hpl;have shx:=sh.extF hx1 rfl hpl;have rvx:=RV.ext hx1 _ _ _ rv s_;obtain⟨ad2,cap2,news,hxx,hels⟩:=AO sx hxs hl rvx;rw[hx,had]at hxx;simp only[Value.slice.injEq,true_and]at hxx;obtain⟨rfl,rfl⟩:=hxx;obtain⟨el6,hu6,hsz6,hm6,hby6⟩:=iw hT6;obtain⟨el6',i6,zv,hu6',hi,hz,hzs⟩:=rB hz6;rw[hu6]at hu6';simp only[ae,ic]at hu6';subst hu6';rw[Lu hi]at hby6;generalize s9 ⟨.builtin .append,#[.tmp 5,.tmp 6],ats⟩=T0 at *;generalize ats.getD 1 0=T1 at *;have hsrc:Yx P (w.alloc (.cells #[] el4)) T1 X el6 m xs.length news:=by
        refine⟨hels.len,hels.one,.inl ⟨⟨e',hu1⟩,⟨ad,cap,hx⟩,fun w1 hw=>?_⟩⟩;have:=hels.first (P:=P) (len:=xs.length) (cap:=cap) (ai _) hw
        rw[<-hels.len,uh,<-had,<-hx]at this;exact this
       have hmost':xs.length<=4294967296:=hmost;have hApp:ud P g (w.alloc (.cells #[] el4)) #[] Oh zero ⟨[],st.hs⟩ (.own true m xs) ((Builtin.append_ #[T0,T1] o6.type #[.slice (some ⟨w.heap.size,0,none⟩) 0 0,X]).run P (w.alloc (.cells #[] el4))):=by
        by_cases hxs0:xs.length=0
        .have hnil:news=[]:=ax (by grind [CO.len]);have hxn:xs=[]:=ax hxs0;have hrun:=B8 (P:=P) (w:=w.alloc (.cells #[] el4)) (ty:=o6.type) hu6 hi (NB hsz6 hi) hm6 hby6 hmost' hsrc (base:=some ⟨w.heap.size,0,none⟩) (sLen:=0) (sCap:=0) o_;refine⟨.slice (some ⟨w.heap.size,0,none⟩) 0 0,w.alloc (.cells #[] el4),g,zero,Oh,?_,?_,shx,.refl _ _ _,fun b=>by have:=shx.le b;simp_all,fun b _=>by simp,fun b hb=>by simp at hb⟩
         .simp_all [storeCells]
         simp_all [RV,Dc]
        .have:=VQ (Oa:=zero) (xs:=[]) (base:=some ⟨w.heap.size,0,none⟩) (sCap:=0) (olds:=[]) (ty:=o6.type) shx hu6 hi hz hzs (NB hsz6 hi) hm6 hby6 hsrc hels.rd (fun e he=>by simp at he) hl (by simp)
          (fun j d h=>by simp at h) (fun w1 _=>vD m _ 0 0 w1) u_ (by omega)
         simp_all
       obtain⟨vv,w2,g2,Or,O2,k1,k2,k3,k4,k5,k6,k7⟩:=hApp;refine qa (o:=o6) (v:=vv) (w':=w2) rfl gd6 (nodef p6 s_) ?_ ?_
       .simp_all [execOp,resolve,invoke,builtin]
       .rw[d6];generalize ht7:wG t6 (some 7) vv=t7;have hs7:t7.size=t.size:=by grind [pX]
        have hev77:ev t7 (.tmp 7)=vv:=by
         rw[<-ht7];show (t6.setIfInBounds 7 _).getD 7 undef=vv
         grind [qw]
        refine qa (o:=o7) (v:=vv) (w':=w2) rfl gd7 (nodef p7 s_) (by simp_all [execOp]) (wpIn_ret ?_);have hle1:w.heap.size<=(w.alloc (.cells #[] el4)).heap.size:=hx1.size;refine fin _ w2 g2 Or O2 (by rw[pX,hs7]) ?_ k3 (((hx1.mono (T:=fun b=>O b≠0) fun _ _ h=>h.elim)).trans k4 fun b hb hq=>?_) k5 (fun b hb=>?_) k7
        .have:(wG t7 (some 2) vv).getD 2 undef=vv:=by
          show (t7.setIfInBounds 2 _).getD 2 undef=_
          grind [qw]
         simp_all
        all_goals grind
    grind
   grind
  grind
 simp_all
end
abbrev nv:=@ComesIn.of_steps
section
variable {P:Program}{F:Fence}{n:Nat}
def Gd {fn:Func}{tmps:F_}{R:Ending->World->Prop}:∀ (ds:List Deferred) (u:FrameMode) (w:World) (fr:Frame)
  (cs:List Frame),fr.mode=u->fr.defers=ds->fr.tmps=tmps->P.funcs[fr.fn]?=some fn->fr.kind=.deferred->F.fn fr.fn->F.room (cs.length+1+n)->LeavesInM F n P fn tmps R ds u w->
  ∃ e w' fr',R e w'∧ComesIn (Machine.fenced P F) P (lone fr cs w) (lone fr' cs w') e∧fr'.fn=fr.fn∧fr'.kind=.deferred∧fr'.going P w' e:=by
 intro ds
 induction ds with
 | nil =>
  intro u w fr cs hu hd ht hf hk _ _ h
  cases u with
  | run=>exact h.elim
  | returning =>
   obtain⟨v,hr,hR⟩:=h;exact⟨.returned v,w,fr,hR,StepsIn.refl _,rfl,hk,hu,hd,fn,hf,ht▸hr⟩
  | panicking chain=>exact⟨.panicked chain,w,fr,h,StepsIn.refl _,rfl,hk,hu,hd,fn,hf⟩
 | cons d ds ih =>
  intro u w fr cs hu hd ht hf hk hb hroom h;obtain⟨hrun,h⟩:=h;rcases h with ⟨r,w',htar,htake,hrest⟩ | ⟨hn,fv,cap,f,args,htar,hinv,hlead,hFf,hcall⟩
  .have h1:=step_collected (cs:=cs) (hu▸hrun) hd htar htake;have i1:(lone fr cs w).fenced P F:=fenced_out hb hroom (hu▸hrun) hd (fun g hg=>by grind [Target.leads]);obtain⟨e',w'',fr',hR',hs',hfn',hk',hl'⟩:=ih u w' { fr with defers:=[]++ds } cs hu rfl ht hf hk hb hroom hrest;exact⟨e',w'',fr',hR',nv (.one i1 h1) hs',hfn',hk',hl'⟩
  .have h1:=step_defer (cs:=cs) (hu▸hrun) hd htar hinv;have i1:(lone fr cs w).fenced P F:=fenced_out hb hroom (hu▸hrun) hd hlead;have hroom':F.room (({ fr with defers:=ds }::cs).length+1+(n-1)):=Fence.room_enter hroom hn;obtain⟨e,u',w',frX,hR,hsteps,hkX,hfX,hgo⟩:=hcall { fr with defers:=ds } cs hu hroom'
   cases e with
   | outgrown=>exact⟨.outgrown,w',fr,hR,Outgrown.of_steps (.one h1) hsteps,rfl,hk,trivial⟩
   | returned v =>
    have i2:(lone frX ({ { fr with defers:=ds } with mode:=u' }::cs) w').fenced P F:=fenced_going (n:=n-1) (hfX▸hFf) hroom' hgo;have h2:=step_going_returned (c:={ { fr with defers:=ds } with mode:=u' }) (cs:=cs) hkX hgo;obtain⟨e',w'',fr',hR',hs',hfn',hk',hl'⟩:=ih (settle u') w' { { { fr with defers:=ds } with mode:=u' } with mode:=settle u' } cs rfl rfl ht hf hk hb hroom hR;exact⟨e',w'',fr',hR',nv (.head i1 h1 (q7 hsteps (.one i2 h2))) hs',hfn',hk',hl'⟩
   | panicked chain =>
    have i2:(lone frX ({ { fr with defers:=ds } with mode:=u' }::cs) w').fenced P F:=fenced_going (n:=n-1) (hfX▸hFf) hroom' hgo;have h2:=step_going_panicked (c:={ { fr with defers:=ds } with mode:=u' }) (cs:=cs) hgo;obtain⟨e',w'',fr',hR',hs',hfn',hk',hl'⟩:=ih (raised u' chain) w' { { { fr with defers:=ds } with mode:=u' } with mode:=raised u' chain } cs rfl rfl ht hf hk hb hroom hR;exact⟨e',w'',fr',hR',nv (.head i1 h1 (q7 hsteps (.one i2 h2))) hs',hfn',hk',hl'⟩
def Ok {f:FuncId}{fn:Func}{c:Code}{args:F_}{u:FrameMode}{w:World}{R:Ending->World->Prop}
  (hf:P.funcs[f]?=some fn) (hb:fn.body=some c) (hF:F.fn f)
  (h:c.wpIn F n P (bodyPostM F n P fn R) { tmps:=args++Array.replicate (fn.ntmps-args.size) undef,defers:=[] } w) (hro:F.round=none:=by rfl) :
  CallsDIn F n P f args u w fun e u' w'=>u'=u∧R e w':=by
 refine⟨hF,fun c₀ cs hu hr=>?_⟩
 let b:Frame:={ (default:Frame) with fn:=f,kind:=.deferred,roundOf:=none }
 have henter:Frame.enter P f args .deferred =
   b.atR { tmps:=args++Array.replicate (fn.ntmps-args.size) undef,defers:=[] } [.code c]:=by
  grind [Frame.enter,Frame.atR]
 have hc:({ c₀ with mode:=u }:Frame)=c₀:=by subst hu;rfl
 obtain⟨e,a',w',hq,harr⟩:=h b [] (c₀::cs) hro.symm hF hr;rw[<-henter]at harr
 cases e with
 | normal =>
  obtain⟨e',w'',fr',hR,hs,hfn,hk,hl⟩:=Gd a'.defers .returning w' { b.atR a' [] with mode:=.returning } (c₀::cs) rfl rfl rfl hf rfl hF hr hq;exact⟨e',u,w'',fr',⟨rfl,hR⟩,(by rw[hc];exact nv (q7 harr (.one (fenced_calm (fr:=b.atR a' []) hF hr rfl) (stepR_end rfl))) hs),hk,hfn,hl⟩
 | ret =>
  obtain⟨todo,hs₀⟩:=harr.1 rfl;obtain⟨e',w'',fr',hR,hs,hfn,hk,hl⟩:=Gd a'.defers .returning w' { b.atR a' todo with mode:=.returning } (c₀::cs) rfl rfl rfl hf rfl hF hr hq;exact⟨e',u,w'',fr',⟨rfl,hR⟩,(by grind [ComesIn.of_steps]),hk,hfn,hl⟩
 | panic chain =>
  obtain⟨todo,hs₀⟩:=harr;obtain⟨e',w'',fr',hR,hs,hfn,hk,hl⟩:=Gd a'.defers (.panicking chain) w' { b.atR a' todo with mode:=.panicking chain } (c₀::cs) rfl rfl rfl hf rfl hF hr hq;exact⟨e',u,w'',fr',⟨rfl,hR⟩,(by grind [ComesIn.of_steps]),hk,hfn,hl⟩
 | exit id=>exact hq.elim
 | goto l=>exact hq.elim
 | outgrown=>exact⟨.outgrown,u,w',b,⟨rfl,hq⟩,(by exact harr.resolve_left (by simp[b])),rfl,rfl,trivial⟩
end
section
variable {P:Program}{g:Gh}{w:World}{t:F_}{O:Nat->Nat}{st st':St}{a:AV}{o:Oper}{r:dz}
def DR (P:Program) (r:dz):Prop :=
 ∀ {f:FuncId}{args:D_}{hs:HS}{v:AV}{hs':HS},r.call f args hs=some (v,hs')->
  ∀ {g:Gh}{w:World}{xs:O_}{Oa Oh:Nat->Nat},RVs g w args xs Oa->S P g w ⟨[],hs⟩ #[] Oh->(∀ b,Oa b+Oh b<=1)->(∀ b,Oa b≠0->b<w.heap.size)->∀ u:FrameMode,
   CallsDIn (FR none) 0 P f xs.toArray u w fun e u' w'=>u'=u∧gF P g w (fun b=>Oa b+Oh b) v hs' e w'
def UC {ro:I_}{fn:Func}{tmps:F_}{R:Ending->World->Prop}{lo:Nat}{es:List Deferred}:∀ {ms:List Deferred}{w:World},jR w O lo ms->S P g w st t O->
  (∀ w',S P g w' st t O->bI g w g w' (fun b=>lo<=b)->LeavesInM (FR ro) 0 P fn tmps R es .returning w')->LeavesInM (FR ro) 0 P fn tmps R (ms++es) .returning w
 | [],w,_,s,h=>h w s (.refl _ _ _)
 | d::ds,w,⟨⟨r,h1,h2,h3,h4,h5⟩,h6⟩,s,h=>by
  refine⟨s_,.inl ⟨r,setBlk w r (.deferred none),h1,IC h3,?_⟩⟩;have hx:bI g w g (setBlk w r (.deferred none)) fun x=>x=r:=bI.deferBlk h3
  have hm:jR (setBlk w r (.deferred none)) O lo ds:=by
   have:∀ {es:List Deferred},(∀ d'∈es,∀ r',d'.target=.collected r'->r'<r)->jR w O lo es->jR (setBlk w r (.deferred none)) O lo es:=by
    intro es
    induction es with
    | nil=>exact fun _ _=>trivial
    | cons e es ih =>
     rintro hlt ⟨⟨q,k1,k2,k3,k4,k5⟩,k6⟩
     have:=hlt e (.head _) q k1;exact⟨⟨q,k1,k2,by grind [iA],k4,k5⟩,ih (fun d' hd'=>hlt d' (.tail _ hd')) k6⟩
   grind
  exact UC hm (s.otherG hx h4) fun w' s' hx'=>h w' s' ((hx.mono (T:=fun b=>lo<=b) fun b _ e=>by omega).trans hx' fun _ _ h=>h)
end
def atF (P:Program) (vf:aj) (f:FuncId):Prop :=
 ∃ fn c,P.funcs[f]?=some fn∧fn.body=some c∧fn.name≠ "runtime.NumGoroutine"∧vf.nparams<=fn.ntmps∧me P vf.results fn.results.toList=true∧
  (Mt P fn.ntmps vf.body c∨(∃ m,vf.body=.clone m∧NV P m c=true∧8<=fn.ntmps)∨∃ i d f a,vf.body=.late i d f a∧SJ P fn.ntmps i d f a c=true)
def Kd (P:Program) (T:Nat->Y_):Prop:=∀ f vf,T f=some vf->atF P vf f
def Hx (P:Program) (r:dz):Prop :=
 ∀ {v:VC}{st:St}{o:ct}{st':St},r.code (.loop v) st=some (o,st')->∀ {c:Code}{n:Nat},Mt P n v c->∀ {g:Gh}{w:World}{t:F_}{O:Nat->Nat},t.size=n->S P g w st t O->
  ∀ (ro:I_) (ds:List Deferred),Ec w ro->OF ro P c (co P g w t O ds ro o st') ⟨t,ds⟩ w
def DY (P:Program) (r:dz):Prop :=
 ∀ {v cur:VC}{st:St}{o:ct}{st':St},r.code (.inScope v cur) st=some (o,st')->∀ {body c:Code}{n:Nat},Mt P n v body->Mt P n cur c->∀ {g:Gh}{w:World}{t:F_}{O:Nat->Nat},t.size=n->
  S P g w st t O->∀ (ro:I_) (ds:List Deferred),Ec w ro->Fw ro P body c (co P g w t O ds ro o st') ⟨t,ds⟩ w
def Dz (P:Program) (r:dz):Prop :=
 ∀ {v:VC}{st:St}{o:ct}{st':St},wV v=true->r.code v st=some (o,st')->o=.normal∧∀ {g:Gh}{w:World}{t:F_}{O:Nat->Nat},S P g w st t O->∃ g' O',gG P g w t O st' t w g' O'
section
variable {P:Program}{g:Gh}{w:World}{t:F_}{O:Nat->Nat}{st st':St}{r:dz}
def OF.mono {ro:I_}{c:Code}{Q Q':Exit->Act->World->Prop}{a:Act}(h:OF ro P c Q a w) (hq:∀ e a w,Q e a w->Q' e a w):OF ro P c Q' a w :=
 fun b k cs hr=>let ⟨e,a',w',q,x⟩:=h b k cs hr;⟨e,a',w',hq _ _ _ q,x⟩
def Fw.mono {ro:I_}{body c:Code}{Q Q':Exit->Act->World->Prop}{a:Act}(h:Fw ro P body c Q a w) (hq:∀ e a w,Q e a w->Q' e a w):Fw ro P body c Q' a w :=
 fun b k cs hr=>let ⟨e,a',w',q,x⟩:=h b k cs hr;⟨e,a',w',hq _ _ _ q,x⟩
def gG.mono {O2:Nat->Nat}{t':F_}{w':World}{g':Gh}{O':Nat->Nat}(h:gG P g w t O st' t' w' g' O') (hle:∀ b,O b<=O2 b):gG P g w t O2 st' t' w' g' O' :=
 ⟨h.st,h.ext.mono fun b _ hb=>by grind,fun b hb=>aM (h.old b hb) (hle b),h.size⟩
def co.mono {O2:Nat->Nat}{ds:List Deferred}{ro:I_}{o:ct}{e:Exit}{a':Act}{w':World}(h:co P g w t O ds ro o st' e a' w') (hle:∀ b,O b<=O2 b):co P g w t O2 ds ro o st' e a' w':=by
 obtain⟨he,g',O',ms,G,hd,hm,hr⟩:=h;exact⟨he,g',O',ms,G.mono hle,hd,hm,hr⟩
def co.refl {ds:List Deferred}{ro:I_}(o:ct) (s:S P g w st t O):co P g w t O ds ro o st (Fk o) ⟨t,ds⟩ w :=
 ⟨rfl,g,O,[],gG.refl s,rfl,trivial,fun _=>rfl⟩
def co.ghost {ds:List Deferred}{ro:I_}{o o2:ct}{st2:St}{e:Exit}{a':Act}{w':World}(h:co P g w t O ds ro o st' e a' w')
  (hg:∀ {g:Gh}{w:World}{t:F_}{O:Nat->Nat},S P g w st' t O->∃ g' O',gG P g w t O st2 t w g' O') (ho:Fk o=Fk o2):co P g w t O ds ro o2 st2 e a' w':=by
 obtain⟨he,g',O',ms,G,hd,hm,hr⟩:=h;obtain⟨g2,O2,G2⟩:=hg G.st;exact⟨he.trans ho,g2,O2,ms,G.trans G2,hd,hm.after G2.ext G2.old,hr⟩
theorem co.as {ds:List Deferred}{ro:I_}{o o2:ct}{e:Exit}{a':Act}{w':World}(h:co P g w t O ds ro o st' e a' w'):co P g w t O ds ro o2 st' (Fk o2) a' w':=by
 obtain⟨_,h⟩:=h;exact⟨rfl,h⟩
def D7 {ds:List Deferred}{ro:I_}(hro:Ec w ro) {o1:ct}{st1:St}{next:Act->World->Prop}{o:ct}{e:Exit}{a1:Act}{w1:World}(h:co P g w t O ds ro o1 st1 e a1 w1)
  (hn:o1=.normal->∀ (t1:F_) (ds1:List Deferred) (g1:Gh) (O1:Nat->Nat),t1.size=t.size->S P g1 w1 st1 t1 O1->Ec w1 ro->
   (∀ e a2 w2,co P g1 w1 t1 O1 ds1 ro o st' e a2 w2->co P g w t O ds ro o st' e a2 w2)->next ⟨t1,ds1⟩ w1)
  (ho:o1≠.normal->o=o1∧st'=st1):Exit.then next (co P g w t O ds ro o st') e a1 w1:=by
 have h0:=h;obtain⟨he,g1,O1,ms,G,hd,hm,hr⟩:=h;subst he;by_cases hnm:o1=.normal
 .subst hnm;obtain⟨t1,d1⟩:=a1;subst hd;exact hn rfl t1 _ g1 O1 G.size G.st (hro.ext G.ext) fun e a2 w2 k=>co.comp G hm hr k
 .obtain⟨rfl,rfl⟩:=ho hnm
  cases o<;>first | exact absurd rfl hnm | exact h0
def abH (hc:jf P r) (hl:Hx P r) (hs:DY P r) (hgh:Dz P r) (hr:iL P r) {v:VC}{o:ct}(h:cW v r st=some (o,st')) {c:Code}{n:Nat}(hm:Mt P n v c) (hn:t.size=n)
  (s:S P g w st t O) (ro:I_) (ds:List Deferred) (hro:Ec w ro):c.wpIn (FR ro) 0 P (co P g w t O ds ro o st') ⟨t,ds⟩ w:=by
 cases hm with
 | @ghostL a b c h1 h2 =>
  simp only[cW,Na]at h;split at h
  .rename_i st1 ha;obtain⟨_,hg⟩:=hgh h1 ha;obtain⟨g1,O1,G⟩:=hg s;exact wpIn_mono (hc h h2 o_ G.st ro ds hro) fun e a2 w2 k=>co.comp (ms1:=[]) G trivial (fun _=>rfl) k
  .rename_i x hx
   cases hra:r.code a st with
   | none=>simp_all
   | some p =>
    obtain⟨o1,st1⟩:=p;obtain⟨rfl,_⟩:=hgh h1 hra
    simp_all
 | @ghostR a b c h1 h2 =>
  simp only[cW,Na]at h;split at h
  .rename_i st1 ha;obtain⟨rfl,hg⟩:=hgh h1 h;exact wpIn_mono (hc ha h2 hn s ro ds hro) fun e a2 w2 k=>k.ghost hg rfl
  .rename_i x hx;exact hc h h2 hn s ro ds hro
 | @seq a b c d h1 h2 =>
  simp only[cW,Na]at h;split at h
  .rename_i st1 ha;refine wpIn_seq (wpIn_mono (hc ha h1 hn s ro ds hro) fun e a1 w1 k=>D7 hro k (fun _ t1 ds1 g1 O1 hs1 s1 hro1 hcomp=>?_) (fun hne=>absurd rfl hne));exact wpIn_mono (hc h h2 o_ s1 ro ds1 hro1) hcomp
  .rename_i x hx;refine wpIn_seq (wpIn_mono (hc h h1 hn s ro ds hro) fun e a1 w1 k=>D7 hro k (fun hnm=>?_) (fun _=>⟨rfl,rfl⟩))
   simp_all
 | skip =>
  simp only[cW,ae,aP]at h;obtain⟨rfl,rfl⟩:=h;exact wpIn_skip (co.refl .normal s)
 | @reg ops id os hops =>
  simp only[cW,S5]at h;split at h
  .rename_i st1 hst;simp only[ae,aP]at h;obtain⟨rfl,rfl⟩:=h;refine wpIn_region ?_;have:=aaF (ro:=ro) (Q:=co P g w t O ds ro .normal st1) hr hc ds (k:=0) rfl hops hn s hst fun w' t' g' O' G=>⟨rfl,g',O',[],G,rfl,trivial,fun _=>rfl⟩
   grind [List.range_eq_range']
  simp_all
 | @draw ops id os hops =>
  simp only[cW,S5]at h;split at h
  .rename_i st1 hst;simp only[ae,aP]at h;obtain⟨rfl,rfl⟩:=h;exact asm hr hc ds hops hn s hst fun w' t' g' O' G=>⟨rfl,g',O',[],G,rfl,trivial,fun _=>rfl⟩
  simp_all
 | @drawP perm gco nr ops id os hops =>
  simp only[cW,LE,Mv]at h;split at h
  .rename_i habs;split at h
   .rename_i st1 hst;simp only[ae,aP]at h;obtain⟨rfl,rfl⟩:=h;exact aoC hr hc ds hops hn s habs hst fun w' t' g' O' G=>⟨rfl,g',O',[],G,rfl,trivial,fun _=>rfl⟩
   simp_all
  simp_all
 | @cond rd o' a b c d h1 h2 h3 =>
  simp only[cW,LG]at h;have step:∀ (tb:Bool) (e:aV) (k:VC) (cd:Code),Vm.rd st.env rd=some (B_ tb,e)->r.code k ⟨e,st.hs⟩=some (o,st')->Mt P n k cd->(if tb then c else d)=cd->
    (Code.cond o' c d).wpIn (FR ro) 0 P (co P g w t O ds ro o st') ⟨t,ds⟩ w:=by
   intro tb e k cd hrd hk hmk hcd;obtain⟨Ov,O',rv,s',l⟩:=s.rd h1 hrd;have hev:=AH rv rfl;refine wpIn_cond (t:=tb) (by simp_all [Hs]) ?_;rw[hcd];exact wpIn_mono (hc hk hmk hn s' ro ds hro) fun e a2 w2 k=>k.mono fun b=>by grind
  grind
 | @block bid a c h1 =>
  simp only[cW,MP]at h;split at h
  .rename_i j st1 ha;refine wpIn_block (wpIn_mono (hc ha h1 hn s ro ds hro) fun e a1 w1 k=>?_);obtain⟨rfl,_⟩:=id k
   grind [Fk,Exit.inBlock,Nat.beq_eq,co.as]
  .rename_i x hx;refine wpIn_block (wpIn_mono (hc h h1 hn s ro ds hro) fun e a1 w1 k=>?_);have hne:∀ j,o≠.exit j:=u_;obtain⟨rfl,_⟩:=id k
   cases o<;>first | exact k | simp_all
 | @loop a c h1 =>
  simp only[cW,Ql]at h;refine(Zy ?_).2;split at h
  .rename_i st1 ha;refine wpIn_mono (hc ha h1 hn s ro ds hro) fun e a1 w1 k=>D7 hro k (fun _ t1 ds1 g1 O1 hs1 s1 hro1 hcomp=>?_) (fun hne=>absurd rfl hne)
   exact(hl h h1 o_ s1 ro ds1 hro1).mono hcomp
  .rename_i x hx;refine wpIn_mono (hc h h1 hn s ro ds hro) fun e a1 w1 k=>D7 hro k (fun hnm=>?_) (fun _=>⟨rfl,rfl⟩)
   simp_all
 | @rangeF rd o' ps qs a b c d h1 h2 h3 h4 h5 =>
  subst hn h2;exact ahZ hr h h1 h3 h4 h5 s ro ds hro
 | exit =>
  simp only[cW,ae,aP]at h;obtain⟨rfl,rfl⟩:=h;exact wpIn_exit (co.refl (.exit _) s)
 | @scope a c h1 =>
  exact apn (hs h h1 h1 hn s ro ds hro)
 | label =>
  obtain⟨rfl,rfl⟩:=h;exact wpIn_label (co.refl .normal s)
 | goto =>
  obtain⟨rfl,rfl⟩:=h;exact wpIn_goto (co.refl (.goto _) s)
 | ret =>
  obtain⟨rfl,rfl⟩:=h;exact wpIn_ret (co.refl .ret s)
def apz (hc:jf P r) (hl:Hx P r) {v:VC}{o:ct}(h:cW (.loop v) r st=some (o,st')) {c:Code}{n:Nat}(h1:Mt P n v c) (hn:t.size=n)
  (s:S P g w st t O) (ro:I_) (ds:List Deferred) (hro:Ec w ro):OF ro P c (co P g w t O ds ro o st') ⟨t,ds⟩ w:=by
 simp only[cW,Ql]at h;refine(Zy ?_).1;split at h
 .rename_i st1 ha;refine wpIn_mono (hc ha h1 hn s ro ds hro) fun e a1 w1 k=>D7 hro k (fun _ t1 ds1 g1 O1 hs1 s1 hro1 hcomp=>?_) (fun hne=>absurd rfl hne)
  exact(hl h h1 o_ s1 ro ds1 hro1).mono hcomp
 .refine wpIn_mono (hc h h1 hn s ro ds hro) fun e a1 w1 k=>D7 hro k (fun hnm=>?_) (fun _=>⟨rfl,rfl⟩)
  simp_all
def amF (hc:jf P r) (hs:DY P r) {v cur:VC}{o:ct}(h:cW (.inScope v cur) r st=some (o,st')) {body c:Code}{n:Nat}(h1:Mt P n v body) (h2:Mt P n cur c) (hn:t.size=n)
  (s:S P g w st t O) (ro:I_) (ds:List Deferred) (hro:Ec w ro):Fw ro P body c (co P g w t O ds ro o st') ⟨t,ds⟩ w:=by
 simp only[cW,Ki]at h;refine aiq ?_;split at h
 .rename_i l st1 ha;refine wpIn_mono (hc ha h2 hn s ro ds hro) fun e a1 w1 k=>?_
  have k0:=k;obtain⟨rfl,g1,O1,ms,G,hd,hm,hr⟩:=k;have hf:=anY h1 l;simp only[Fk,Exit.scope];split at h
  .rename_i rest hrest;rw[hrest]at hf;obtain⟨y,hy,hmy⟩:=hf;rw[hy];obtain⟨t1,d1⟩:=a1;subst hd;exact(hs h h1 hmy (by rw[G.size,hn]) G.st ro _ (hro.ext G.ext)).mono fun e a2 w2 k=>co.comp G hm hr k
  .rename_i hnone;rw[hnone]at hf;rw[hf];obtain⟨rfl,rfl⟩:=h;exact k0
 .refine wpIn_mono (hc h h2 hn s ro ds hro) fun e a1 w1 k=>?_
  obtain⟨rfl,_⟩:=id k
  cases o<;>first | exact k | simp_all
theorem X9 {r:dz}:∀ {ops:T_}{st st':St},ops.all LM=true->kL r ops st=some st'->∀ {g:Gh}{w:World}{t:F_}{O:Nat->Nat},S P g w st t O->∃ g' O',gG P g w t O st' t w g' O'
 | [],st,st',_,h,g,w,t,O,s=>by
  simp only[kL,ae]at h;subst h;exact⟨g,O,gG.refl s⟩
 | i::l,st,st',ha,h,g,w,t,O,s=>by
  simp only[gC,af]at ha;simp only[kL]at h;split at h
  .rename_i st1 hv;obtain⟨g1,O1,G1⟩:=acl s ha.1 hv;obtain⟨g2,O2,G2⟩:=X9 ha.2 h G1.st;exact⟨g2,O2,G1.trans G2⟩
  simp_all
def amC (hg:Dz P r) {v:VC}{o:ct}(hv:wV v=true) (h:cW v r st=some (o,st')):o=.normal∧∀ {g:Gh}{w:World}{t:F_}{O:Nat->Nat},S P g w st t O->∃ g' O',gG P g w t O st' t w g' O':=by
 cases v<;>simp only[wV,ao]at hv
 .grind [cW,S5,X9]
 .simp only[af]at hv;simp only[cW,Na]at h;split at h
  .rename_i st1 hst;obtain⟨_,h1⟩:=hg hv.1 hst;obtain⟨ho,h2⟩:=hg hv.2 h;refine⟨ho,fun s=>?_⟩;obtain⟨g1,O1,G1⟩:=h1 s;obtain⟨g2,O2,G2⟩:=h2 G1.st;exact⟨g2,O2,G1.trans G2⟩
  .obtain⟨ho,_⟩:=hg hv.1 h
   simp_all
end
abbrev bg:=@List.append_nil
abbrev bu:=@List.length_nil
abbrev mb:=@List.getElem?_cons_succ
section
variable {P:Program}
def PH {fn:Func}{vf:aj}(h5:me P vf.results fn.results.toList=true) {v:AV}{hs':HS}{o:ct}{st1:St}(ho:o=.normal∨o=.ret) (hend:Gu vf st1=some (v,hs')) {g:Gh}{w:World}{t:F_}{O:Nat->Nat}
  {e:Exit}{a':Act}{w':World}(k:co P g w t O [] none o st1 e a' w'):bodyPostM (FR none) 0 P fn (gF P g w O v hs') e a' w':=by
 obtain⟨rfl,g',O',ms,G,hd,hm,_⟩:=k;rw[bg]at hd;have key:LeavesInM (FR none) 0 P fn a'.tmps (gF P g w O v hs') a'.defers .returning w':=by
  rw[hd];refine Zp hm G.st fun w2 s2 hx2=>?_
  obtain⟨x,Ov,Oh2,hrun,rx,sh2,l2⟩:=afO h5 hend s2;refine⟨x,hrun,g',Ov,Oh2,rx,sh2,G.ext.trans hx2 (fun b hb hq=>absurd hq o_),fun b=>by have:=l2 b;have:=s2.le b;omega,fun b hb=>?_,fun b hb=>s2.hi b d_⟩
  grind [gG.old]
 rcases ho with rfl | rfl
 .exact key
 .exact key
def alB {r:dz}(hr:iL P r) (hrd:DR P r) {fn:Func}{vf:aj}(h5:me P vf.results fn.results.toList=true) {v v1:AV}{hs2 hs':HS}{o:ct}{st1:St}(ho:o=.normal∨o=.ret) {f id off:Nat}
  (hcall:r.call f [.ptr id off] st1.hs=some (v1,hs2)) (hend:Gu vf ⟨st1.env,hs2⟩=some (v,hs')) {g:Gh}{w:World}{t:F_}{O:Nat->Nat}{x:Value}(hx:∃ b,g.obj id=some b∧x=.pointer (some ⟨b,g.base id+off,none⟩))
  {e:Exit}{a':Act}{w':World}(k:co P g w t O [{ target:=.fn (.func f) #[],args:=#[x] }] none o st1 e a' w'):bodyPostM (FR none) 0 P fn (gF P g w O v hs') e a' w':=by
 obtain⟨rfl,g',O',ms,G,hd,hm,_⟩:=k;obtain⟨hf,hk⟩:=hr hcall;have key:LeavesInM (FR none) 0 P fn a'.tmps (gF P g w O v hs') a'.defers .returning w':=by
  rw[hd];refine UC hm G.st fun w2 s2 hx2=>?_
  have hx12:bI g w g' w2 fun b=>O b≠0:=G.ext.trans hx2 (fun b hb hq=>absurd hq o_)
  obtain⟨b,hb,hxe⟩:=hx;obtain⟨k1,k2,_⟩:=hx12.obj id b hb;have rv:RVs g' w2 [.ptr id off] [x] zero:=by
   refine⟨x,[],zero,zero,rfl,?_,⟨rfl,fun _=>rfl⟩,fun _=>rfl⟩
   grind [RV]
  obtain⟨Oe,Oh,re,sh,hO⟩:=s2.split;refine⟨s_,.inr ⟨by simp[Fence.wide],.func f,#[],f,#[x],rfl,?_,fun _ _=>trivial,(hrd hcall rv sh (fun b=>by have:=s2.le b;grind) (fun b hb=>by simp at hb) .returning).mono ?_⟩⟩
  .show (callFunc f (#[x]++#[])).run P w2=_
   grind [w9]
  .rintro e u' w3 ⟨rfl,hp⟩
   cases e with
   | panicked c=>exact hp.elim
   | outgrown=>exact hp.elim
   | returned y =>
    obtain⟨g3,Oa,O3,A⟩:=Ho (v:=v1) (hs:=st1.hs) (t:=a'.tmps) s2.se re (fun b=>by simp_all) s2 hp;obtain⟨x4,Ov,Oh2,hrun,rx,sh2,l2⟩:=afO h5 hend A.st;refine⟨x4,hrun,g3,Ov,Oh2,rx,sh2,hx12.trans A.ext (fun b hb h=>by grind [gG.old]),fun b=>by have:=l2 b;have:=A.le b;omega,fun b hb=>?_,fun b hb=>A.st.hi b d_⟩;have:=l2 b;have:=G.old b hb;have:=A.old b (aZ hb hx12.size);omega
 rcases ho with rfl | rfl
 .exact key
 .exact key
def amS {r:dz}(hc:jf P r) (hr:iL P r) (hrd:DR P r) {n i d f:Nat}{a:VC}{c:Code}(hk:SJ P n i d f a c=true) {fn:Func}{vf:aj}(h5:me P vf.results fn.results.toList=true) {st st1:St}{o:ct}{v:AV}{hs':HS}
  (h:QA r i d f a st=some (o,st1)) (hend:Gu vf st1=some (v,hs')) {g:Gh}{w:World}{t:F_}{O:Nat->Nat}(hn:t.size=n) (s:S P g w st t O) :
  c.wpIn (FR none) 0 P (bodyPostM (FR none) 0 P fn (gF P g w O v hs')) ⟨t,[]⟩ w:=by
 obtain⟨env,hs⟩:=st;unfold SJ at hk;split at hk
 .rename_i rid os rest;simp only[af]at hk;obtain⟨⟨hk1,hdn⟩,hrest⟩:=hk;split at hk1
  .rename_i m kk hos;simp only[af]at hk1;obtain⟨⟨⟨⟨hm1,hm2⟩,hk1a⟩,hk1b⟩,hk2⟩:=hk1;obtain⟨hmd,hmg⟩:=Ap hm1;have hk1a':kk.dst=none:=u_;have hk1b':kk.guard=none:=u_;split at hm2
   .rename_i y hmop;have:=wW hm2;subst this;split at hk2
    .rename_i cl hkop;simp only[af]at hk2;obtain⟨hcal,hargs⟩:=hk2;have hcal':=Lh hcal;split at hargs
     .rename_i y hay;have:=wW hargs;subst this;have harr:cl.args=#[.tmp d]:=aDD hay;have hosA:os=#[m,kk]:=d_;subst hosA;have hd:d<t.size:=u_;unfold QA at h;split at h
      .rename_i id off hget;obtain⟨Ov,O1,rv,s1,l1⟩:=s.rd (r:=.s i) (o:=.tmp i) (by simp[cA]) (v:=.ptr id off) (e':=env) (by grind [rd,share]);obtain⟨hxp,hOv⟩:=rv;have rv':RV g w (.ptr id off) (ev t (.tmp i)) zero:=by grind [RV]
       obtain⟨O2,s2,l2⟩:=s.setTmp hd rv' (fun b=>by have:=s.le b;simp_all) (fun b hb=>by simp at hb);have hle2:∀ b,O2 b<=O b:=fun b=>by simp_all
       have hst:∃ o1 st0 v1 hs2,(o1=.normal∨o1=.ret)∧r.code a ⟨put env d (.ptr id off),hs⟩=some (o1,st0)∧r.call f [.ptr id off] st0.hs=some (v1,hs2)∧st1=⟨st0.env,hs2⟩:=by
        grind
       obtain⟨o1,st0,v1,hs2,ho1,hra,hcl,rfl⟩:=hst;refine wpIn_seq (wpIn_region ?_);have hx2:(t.setIfInBounds d (ev t (.tmp i))).getD d undef=ev t (.tmp i):=u_;have hgo:rest.wpIn (FR none) 0 P (bodyPostM (FR none) 0 P fn (gF P g w O v hs')) ⟨t.setIfInBounds d (ev t (.tmp i)),[{ target:=.fn (.func f) #[],args:=#[ev t (.tmp i)] }]⟩ w:=by
        refine wpIn_mono (hc hra (jD a rest hrest) (by simp[hn]) s2 none _ (fun l hl=>by simp at hl)) fun e a' w' k=>?_
        exact alB hr hrd h5 ho1 hcl hend hxp (k.mono hle2)
       simp only[List.range,List.range.loop,List.size_toArray,aq,bu,wpOpsIn,bz];simp only[List.getElem?_toArray,b7,mb,Region.wanted,hmg,hk1b',bf,Oper.wpIn];refine⟨fun _ _=>trivial,?_⟩;rw[M8 t [] u_];simp only[execOp,hmop,dx,Oper.uponIn_value,Act.put,hmd];rw[Oper.semAt_none,Hs];have hrun:(execOp (ev (t.setIfInBounds d (ev t (.tmp i)))) kk).run P w=.ok (.defer { target:=.fn (.func f) #[],args:=#[ev t (.tmp i)] }) w:=by
        have h0:ev (t.setIfInBounds d (ev t (.tmp i))) (.tmp d)=ev t (.tmp i):=hx2;have h1:ev (t.setIfInBounds d (ev t (.tmp i))) (.func f)=.func (.func f) #[] #[]:=rfl
        simp_all [execOp,resolve,Deferred.ofValue]
       rw[hrun,Oper.uponIn_defer];simp only[Act.put,hk1a'];exact⟨fun _ _=>trivial,hgo⟩
      simp_all
     simp_all
    simp_all
   simp_all
  simp_all
 simp_all
def abI {T:Nat->Y_}(hT:Kd P T) {r:dz}(hc:jf P r) (hl:Hx P r) (hs:DY P r) (hgh:Dz P r) (hr:iL P r) (hrd:DR P r) {f:FuncId}{args:D_}{hs0:HS}{v:AV}{hs':HS}
  (h:vL T r f args hs0=some (v,hs')):∃ fn c,P.funcs[f]?=some fn∧fn.body=some c∧fn.name≠ "runtime.NumGoroutine"∧∀ {g:Gh}{w:World}{xs:O_}{Oa Oh:Nat->Nat},RVs g w args xs Oa->S P g w ⟨[],hs0⟩ #[] Oh->(∀ b,Oa b+Oh b<=1)->(∀ b,Oa b≠0->b<w.heap.size)->
   c.wpIn (FR none) 0 P (bodyPostM (FR none) 0 P fn (gF P g w (fun b=>Oa b+Oh b) v hs')) ⟨xs.toArray++Array.replicate (fn.ntmps-xs.toArray.size) undef,[]⟩ w:=by
 unfold vL at h;split at h
 .simp at h
 .rename_i vf hvf;obtain⟨fn,c,h1,h2,h3,h4,h5,h6⟩:=hT f vf hvf;refine⟨fn,c,h1,h2,h3,fun {g w xs Oa Oh} rv sh hle hhi=>?_⟩;split at h
  .simp at h
  .have hxl:=rv.length;have hfin:∀ {o:ct}{st1:St},(o=.normal∨o=.ret)->cW vf.body r ⟨ku 0 args,hs0⟩=some (o,st1)->Gu vf st1=some (v,hs')->
     c.wpIn (FR none) 0 P (bodyPostM (FR none) 0 P fn (gF P g w (fun b=>Oa b+Oh b) v hs')) ⟨xs.toArray++Array.replicate (fn.ntmps-xs.toArray.size) undef,[]⟩ w:=by
    intro o st1 ho hcode hend;have s:=av1 rv sh hle hhi (fn.ntmps-xs.toArray.size);have hsz:(xs.toArray++Array.replicate (fn.ntmps-xs.toArray.size) undef).size=fn.ntmps:=u_;rcases h6 with hm | ⟨m,hb,hcl,h8⟩ | ⟨i,d,f2,a,hb,hlt⟩
    .exact wpIn_mono (abH hc hl hs hgh hr hcode hm hsz s none [] (fun l hl=>by simp at hl)) fun e a' w' k=>PH h5 ho hend k
    .rw[hb]at hcode;exact wpIn_mono (alz hcl hcode o_ s) fun e a' w' k=>PH h5 ho hend k
    .rw[hb]at hcode;exact amS hc hr hrd hlt h5 hcode hend hsz s
   grind
def aoL {T:Nat->Y_}(hT:Kd P T) {r:dz}(hc:jf P r) (hl:Hx P r) (hs:DY P r) (hgh:Dz P r) (hr:iL P r) (hrd:DR P r) {f:FuncId}{args:D_}{hs0:HS}{v:AV}{hs':HS}
  (h:vL T r f args hs0=some (v,hs')):alo P f∧∀ {g:Gh}{w:World}{xs:O_}{Oa Oh:Nat->Nat},RVs g w args xs Oa->S P g w ⟨[],hs0⟩ #[] Oh->(∀ b,Oa b+Oh b<=1)->(∀ b,Oa b≠0->b<w.heap.size)->
   CallsIn (FR none) 0 P f xs.toArray w (gF P g w (fun b=>Oa b+Oh b) v hs'):=by
 obtain⟨fn,c,h1,h2,h3,hk⟩:=abI hT hc hl hs hgh hr hrd h;exact⟨⟨fn,h1,by simp[h2],h3⟩,fun rv sh hle hhi=>callsIn_of_wp_marks (F:=FR none) h1 h2 trivial (hk rv sh hle hhi)⟩
def alI {T:Nat->Y_}(hT:Kd P T) {r:dz}(hc:jf P r) (hl:Hx P r) (hs:DY P r) (hgh:Dz P r) (hr:iL P r) (hrd:DR P r) {f:FuncId}{args:D_}{hs0:HS}{v:AV}{hs':HS}
  (h:vL T r f args hs0=some (v,hs')):∀ {g:Gh}{w:World}{xs:O_}{Oa Oh:Nat->Nat},RVs g w args xs Oa->S P g w ⟨[],hs0⟩ #[] Oh->(∀ b,Oa b+Oh b<=1)->(∀ b,Oa b≠0->b<w.heap.size)->∀ u:FrameMode,
   CallsDIn (FR none) 0 P f xs.toArray u w fun e u' w'=>u'=u∧gF P g w (fun b=>Oa b+Oh b) v hs' e w':=by
 obtain⟨fn,c,h1,h2,h3,hk⟩:=abI hT hc hl hs hgh hr hrd h;exact fun rv sh hle hhi u=>Ok (F:=FR none) h1 h2 trivial (hk rv sh hle hhi)
def awV {T:Nat->Y_}(hT:Kd P T):∀ n,jf P (run T n)∧Hx P (run T n)∧DY P (run T n)∧Dz P (run T n)∧iL P (run T n)∧DR P (run T n)
 | 0=>⟨fun h=>by simp[run]at h,fun h=>by simp[run]at h,fun h=>by simp[run]at h,fun _ h=>by simp[run]at h,fun h=>by simp[run]at h,fun h=>by simp[run]at h⟩
 | n+1=>by
  obtain⟨hc,hl,hs,hgh,hr,hrd⟩:=awV hT n;refine⟨fun {v st o st'} h {c m} hm {g w t O} hn s ro ds hro=>?_,fun {v st o st'} h {c m} hm {g w t O} hn s ro ds hro=>?_,fun {v cur st o st'} h {body c m} h1 h2 {g w t O} hn s ro ds hro=>?_,fun {v st o st'} hv h=>?_,fun {f args hs0 v hs'} h=>?_,fun {f args hs0 v hs'} h=>?_⟩
  .exact abH hc hl hs hgh hr h hm hn s ro ds hro
  .exact apz hc hl h hm hn s ro ds hro
  .exact amF hc hs h h1 h2 hn s ro ds hro
  .exact amC hgh hv h
  .exact aoL hT hc hl hs hgh hr hrd h
  .exact alI hT hc hl hs hgh hr hrd h
def Uz {T:Nat->Y_}(hT:Kd P T) {n:Nat}{f:FuncId}{args:D_}{v:AV}{hs':HS}(h:(run T n).call f args ⟨[],0⟩=some (v,hs')) {g:Gh}{w:World}{xs:O_}
  (hobj:∀ id,g.obj id=none) (hpm:∀ b o,g.pm b o->b<w.heap.size) (rv:RVs g w args xs zero) :
  Calls P f xs.toArray w (gF P g w zero v hs'):=by
 obtain⟨_,_,_,_,hr,_⟩:=awV hT n;obtain⟨_,hk⟩:=hr h;have sh:S P g w ⟨[],⟨[],0⟩⟩ #[] zero:=⟨List.Pairwise.nil,List.Pairwise.nil,⟨zero,zero,fun _=>rfl,fun _=>rfl,fun _=>rfl⟩,fun _=>by simp,fun b hb=>by simp at hb,fun id _=>hobj id,hpm⟩
 grind [CallsIn.calls,aaJ]
end
#print axioms Uz
abbrev dq:=@List.flatten_cons
abbrev sY:=@Option.bind_eq_some_iff
abbrev ut:=@Option.map_eq_some_iff
abbrev rV:=@List.length_range
inductive Ty where
 | int (k:IntKind)
 | bool
 | str
 | lst (es:List Ty)
abbrev BG_:=List Ty
mutual
def rZ:Ty->D->Prop
 | .int k,.int j n=>j=k∧(Lit.int k n).wf=true
 | .bool,.bool _=>True
 | .str,.str _=>True
 | .lst es,.lst xs=>∀ x∈xs,OkDs es x
 | _,_=>False
def OkDs:BG_->W_->Prop
 | [],[]=>True
 | t::ts,d::ds=>rZ t d∧OkDs ts ds
 | _,_=>False
end
def aeP (P:Program) (f:TypeId->Option BG_):List Field->Nat->Option BG_
 | [],_=>some []
 | fd::r,off=>match Nat.beq fd.offset off,f fd.type with
  | true,some ts=>match Nat.beq (P.cellsOf fd.type) ts.length,aeP P f r (off+ts.length) with
   | true,some us=>some (ts++us)
   | _,_=>none
  | _,_=>none
def D0 (P:Program):Nat->TypeId->Option BG_
 | 0,_=>none
 | n+1,t=>match P.underlying t with
  | some .bool=>some [.bool]
  | some (.int k)=>some [.int k]
  | some .string=>some [.str]
  | some (.slice e)=>match D0 P n e with
   | some (x::xs)=>match Nat.beq (P.cellsOf e) (x::xs).length with
    | true=>some [.lst (x::xs)]
    | false=>none
   | _=>none
  | some (.struct fs)=>match aeP P (D0 P n) fs.toList 0 with
   | some ts=>match Nat.beq (P.cellsOf t) ts.length with
    | true=>some ts
    | false=>none
   | none=>none
  | _=>none
mutual
def ge {H:Type}:DataW H->W_
 | .lit (.int k n)=>[.int k n]
 | .lit (.bool b)=>[.bool b]
 | .lit (.string s)=>[.str s]
 | .nil=>[.lst []]
 | .slice es _=>[.lst (cellsEs es)]
 | .agg ps=>cellsPs ps
 | _=>[]
def cellsEs {H:Type}:List (DataW H)->E_
 | []=>[]
 | d::r=>ge d::cellsEs r
def cellsPs {H:Type}:List (DataW H)->W_
 | []=>[]
 | d::r=>ge d++cellsPs r
end
theorem OkDs.len:∀ {ts:BG_}{ds:W_},OkDs ts ds->ds.length=ts.length
 | [],[],_=>rfl
 | t::ts,d::ds,h=>by simp[OkDs.len h.2]
 | [],_::_,h=>by simp[OkDs]at h
 | _::_,[],h=>by simp[OkDs]at h
theorem OkDs.append:∀ {ts us:BG_}{ds es:W_},OkDs ts ds->OkDs us es->OkDs (ts++us) (ds++es)
 | [],us,[],es,_,h=>h
 | t::ts,us,d::ds,es,h,h2=>by
  exact⟨h.1,h.2.append h2⟩
 | [],_,_::_,_,h,_=>by simp[OkDs]at h
 | _::_,_,[],_,h,_=>by simp[OkDs]at h
def V3 {α β:Type}{f:α->Option β}:∀ {l:List α}{ys:List β},l.mapM f=some ys->ys.length=l.length∧∀ (i:Nat) (x:α),l[i]?=some x->∃ y,ys[i]?=some y∧f x=some y
 | [],ys,h=>by simp_all
 | a::l,ys,h=>by
  cases ha:f a with
  | none=>simp_all
  | some b =>
   cases hl:l.mapM f with
   | none=>simp_all
   | some bs =>
    obtain⟨h1,h2⟩:=V3 hl
    grind
def aiN {H:Type}(ds:List (DataW H)):cellsEs ds=ds.map ge:=by
 induction ds<;>grind [cellsEs]
def adb {xs:E_}{m:Nat}(h:∀ e∈xs,e.length=m) {j:Nat}{c:D}(hj:xs.flatten[j]?=some c):∃ i k e,j=i*m+k∧k<m∧xs[i]?=some e∧e[k]?=some c:=by
 induction xs generalizing j with
 | nil=>simp at hj
 | cons x xs ih =>
  have hx:=h x (.head _);rw[dq]at hj;rcases bB j x.length with hlt | hge
  .rw[b9 hlt]at hj;exact⟨0,j,x,s_,o_,rfl,hj⟩
  .rw[cw hge]at hj;obtain⟨i,k,e,h1,h2,h3,h4⟩:=ih (fun e he=>h e (.tail _ he)) hj;exact⟨i+1,k,e,d_,h2,u_,h4⟩
section
variable {H:Type}{enc:TypeId×Value->H}{P:Program}{W:World}{sp:Nat->Bool}{held:Bool}
abbrev EU (W:World):Nat->Nat->Prop:=fun b _=>b<W.heap.size
def akE {a:Addr}{v:Value}(h:W.cell? a=some v):a.block<W.heap.size∧a.spot=none:=by
 unfold World.cell? at h;split at h<;>simp_all [jy]
def Uk {f:TypeId->Option BG_}{g:TypeId->O_->Option (DataW H×List MemPlace)}
  (ih:∀ t ts cs x,f t=some ts->g t cs=some x->OkDs ts (ge x.1)∧cs.length=(ge x.1).length∧∀ (j:Nat) (c:D),(ge x.1)[j]?=some c->∃ u,cs[j]?=some u∧RD W (EU W) c u) :
  ∀ {fs:List Field}{off:Nat}{ts:BG_}{cs:O_}{xs:List (DataW H×List MemPlace)},aeP P f fs off=some ts->off+ts.length<=cs.length->
   fs.mapM (fun fd=>g fd.type ((cs.drop fd.offset).take (P.cellsOf fd.type)))=some xs->
   OkDs ts (cellsPs (xs.map (·.1)))∧∀ (j:Nat) (c:D),(cellsPs (xs.map (·.1)))[j]?=some c->∃ u,cs[off+j]?=some u∧RD W (EU W) c u
 | [],off,ts,cs,xs,h,hb,hm=>by
  grind [aeP,cellsPs,OkDs]
 | fd::fs,off,ts,cs,xs,h,hb,hm=>by
  simp only[aeP]at h;split at h
  .rename_i ts1 ho h1;rw[aC]at ho;split at h
   .rename_i us hc h2;rw[aC]at hc;simp only[ae]at h;subst h;simp only[al]at hb;simp only[List.mapM_cons,Option.bind_eq_bind,Option.pure_def]at hm
    cases hg:g fd.type ((cs.drop fd.offset).take (P.cellsOf fd.type)) with
    | none=>simp_all
    | some x =>
     cases hr:fs.mapM (fun fd=>g fd.type ((cs.drop fd.offset).take (P.cellsOf fd.type))) with
     | none=>simp_all
     | some ys =>
      obtain⟨q1,q2⟩:=Uk ih h2 o_ hr
      grind [cellsPs,OkDs.append]
   simp_all
  simp_all
def VJ:∀ (fuel n:Nat) (t:TypeId) (ts:BG_) (cs:O_) (x:DataW H×List MemPlace),D0 P n t=some ts->DataW.trod enc P W 0 sp held fuel t cs=some x->
  OkDs ts (ge x.1)∧cs.length=(ge x.1).length∧∀ (j:Nat) (c:D),(ge x.1)[j]?=some c->∃ u,cs[j]?=some u∧RD W (EU W) c u
 | 0,_,_,_,_,_,_,h=>by simp[DataW.trod]at h
 | _+1,0,_,_,_,_,h,_=>by simp[D0]at h
 | fuel+1,n+1,t,ts,cs,x,hty,h=>by
  have one:∀ {d:D}{v:Value},OkDs ts [d]->RD W (EU W) d v->ge x.1=[d]->cs=[v]->OkDs ts (ge x.1)∧cs.length=(ge x.1).length∧∀ (j:Nat) (c:D),(ge x.1)[j]?=some c->∃ u,cs[j]?=some u∧RD W (EU W) c u:=by
   grind
  simp only[D0]at hty;unfold DataW.trod at h
  cases hu:P.underlying t with
  | none=>simp_all
  | some d =>
   rw[hu]at hty h
   cases d<;>simp only[reduceCtorEq]at hty
   case bool =>
    simp only[ae]at hty;subst hty
    match cs,h with
    | [.bool b],h =>
     simp only[ae]at h;subst h;exact one (d:=.bool b) (by simp[OkDs,rZ]) (.bool _) rfl rfl
   case int k =>
    simp only[ae]at hty;subst hty
    match cs,h with
    | [.int k' m],h =>
     simp only at h;split at h
     .rename_i hk;obtain⟨rfl,hwf⟩:=hk;simp only[ae]at h;subst h;exact one (d:=.int k' m) (by grind [OkDs,rZ]) (.int _ _) rfl rfl
     simp_all
   case string =>
    simp only[ae]at hty;subst hty
    match cs,h with
    | [.string s],h =>
     simp only at h;split at h
     .simp only[ae]at h;subst h;refine one (d:=.str s.data.toList) (by simp[OkDs,rZ]) ?_ rfl rfl;have:=RD.str (w:=W) (pm:=EU W) s.data.toList;omega
     simp_all
   case slice e =>
    split at hty
    .rename_i y ys hte;split at hty
     .rename_i hce;rw[aC]at hce;simp only[ae]at hty;subst hty
      match cs,h with
      | [.slice none 0 0],h =>
       simp only[ae]at h;subst h;exact one (d:=.lst []) (by simp[OkDs,rZ]) (.nil _ _) rfl rfl
      | [.slice (some a) len cap],h =>
       simp only at h;split at h
       .rename_i hb;obtain⟨_,hlc,_⟩:=hb;simp only[sY,ut]at h;obtain⟨elems,hel,rest,_,rfl⟩:=h;obtain⟨hlen,hget⟩:=V3 hel;simp only[rV]at hlen;have helem:∀ i,i<len->∃ z,elems[i]?=some z∧∃ cs',W.cells? 0 (a.add (i*P.cellsOf e)) (P.cellsOf e)=some cs'∧OkDs (y::ys) (ge z.1)∧cs'.length=(ge z.1).length∧
          ∀ (j:Nat) (c:D),(ge z.1)[j]?=some c->∃ u,cs'[j]?=some u∧RD W (EU W) c u:=by
         intro i hi;obtain⟨z,hz,hf⟩:=hget i i (by simp[hi]);simp only[sY]at hf;obtain⟨cs',hcs,htr⟩:=hf;exact⟨z,hz,cs',hcs,VJ fuel n e (y::ys) cs' z hte htr⟩
        have hmem:∀ d∈elems.map (·.1),OkDs (y::ys) (ge d):=by
         grind [List.mem_iff_getElem]
        have hes:cellsEs (elems.map (·.1))=elems.map fun z=>ge z.1:=by simp_all [aiN]
        have hlm:∀ e'∈cellsEs (elems.map (·.1)),e'.length=(y::ys).length:=by
         grind [OkDs.len]
        refine one (d:=.lst (cellsEs (elems.map (·.1)))) ?_ ?_ rfl rfl
        .grind [OkDs,rZ]
        .by_cases h0:len=0
         .subst h0;have:elems=[]:=ax hlen;subst this;exact .nil _ _
         .obtain⟨ab,aoff,asp⟩:=a;have hm0:0<(y::ys).length:=s_;have hcell:∀ i k,i<len->k<(y::ys).length->∃ z c u,elems[i]?=some z∧(ge z.1)[k]?=some c∧W.cell? ((Addr.add ⟨ab,aoff,asp⟩ (i*P.cellsOf e)).add k)=some u∧RD W (EU W) c u:=by
           intro i k hi hk;obtain⟨z,hz,cs',hcs,hok,hl2,hrd⟩:=helem i hi;have hkl:k<(ge z.1).length:=d_;obtain⟨u,hu,hr⟩:=hrd k _ (bE hkl);unfold World.cells? at hcs;rw[ac (dl _)]at hcs;obtain⟨hcl,hcg⟩:=V3 hcs;obtain⟨v,hv,hw⟩:=hcg k k (by simp_all)
           grind
          obtain⟨_,_,u0,_,_,hu0,_⟩:=hcell 0 0 o_ hm0;have hasp:asp=none:=by
           have:=(akE hu0).2
           grind [Addr.add]
          subst hasp;have hll:(cellsEs (elems.map (·.1))).length=len:=u_;have:=iZ.rd (w:=W) (pm:=EU W) (xs:=cellsEs (elems.map (·.1))) (b:=ab) (off:=aoff) (cap:=cap) hm0 o_ hlm (fun j c hj=>?_) (fun j _=>(akE hu0).1 |> fun h=>by grind [Addr.add])
          .simp_all
          .obtain⟨i,k,e',rfl,hk,hi,hck⟩:=adb hlm hj;have hil:i<len:=d_;obtain⟨z,c',u,hz,hc',hcell',hr⟩:=hcell i k hil hk
           grind [lK]
       simp_all
     simp_all
    simp_all
   case struct fs =>
    split at hty
    .rename_i us hfs;split at hty
     .rename_i hcl;rw[aC]at hcl;simp only[ae]at hty;subst hty;have h':(if cs.length=P.cellsOf t then (fs.toList.mapM fun f=>DataW.trod enc P W 0 sp held fuel f.type ((cs.drop f.offset).take (P.cellsOf f.type))).map fun xs=>((.agg (xs.map (·.1)):DataW H),xs.flatMap (·.2)) else none)=some x:=by
       omega
      split at h'
      .simp only[ut]at h';obtain⟨xs,hxs,rfl⟩:=h';obtain⟨q1,q2⟩:=Uk (P:=P) (f:=D0 P n) (g:=DataW.trod enc P W 0 sp held fuel) (fun t ts cs x h1 h2=>VJ fuel n t ts cs x h1 h2) (cs:=cs) hfs o_ hxs
       grind [OkDs.len,ge]
      .simp at h'
     .simp at hty
    simp_all
end
open Go.ChangeShapes Go.WideShapes Go.ChangeAt Go.RowKit
def LV (P:Program) (n:Nat):List TypeId->Option (List (Bool×BG_))
 | []=>some []
 | t::ts=>match D0 P n t,LV P n ts with
  | some tys,some r=>some ((CM P t,tys)::r)
  | _,_=>none
def aek (agg:Bool) (cs:W_):AV :=
 match agg with
 | true=>.agg (cs.map .d)
 | false=>match cs with
  | [c]=>.d c
  | _=>.junk
def H8 {H:Type}:List (Bool×BG_)->List (DataW H)->D_
 | (b,_)::ts,d::ds=>aek b (ge d)::H8 ts ds
 | _,_=>[]
def yN {H:Type}:List (Bool×BG_)->List (DataW H)->Prop
 | [],[]=>True
 | (_,tys)::ts,d::ds=>OkDs tys (ge d)∧yN ts ds
 | _,_=>False
def Gh.all (W:World):Gh where
 obj _:=none
 base _:=0
 esz _:=0
 bsz _:=0
 pm:=EU W
section
variable {H:Type}{enc:TypeId×Value->H}{P:Program}{W:World}{sp:Nat->Bool}
def ag6 {n:Nat}{base:Nat}:∀ {ts:List TypeId}{vs:O_}{ds:List (DataW H)}{ps:List MemPlace}{tys:List (Bool×BG_)},DataW.TrodAll enc P W 0 sp true ts vs ds ps->LV P n ts=some tys->
  (∀ (j:Nat) t v,ts[j]?=some t->vs[j]?=some v->Value.okWide P W .any base t v)->RVs (Gh.all W) W (H8 tys ds) vs zero∧yN tys ds
 | [],[],[],_,tys,_,h,_=>by
  grind [LV,H8,RVs,yN]
 | t::ts,v::vs,d::ds,ps,tys,hA,h,hok=>by
  obtain⟨p,q,⟨fuel,htr⟩,hrest,rfl⟩:=hA;simp only[LV]at h;split at h
  .rename_i ty r h1 h2;simp only[ae]at h;subst h;obtain⟨k1,k2,k3⟩:=VJ fuel n t ty v.cells.toList (d,p) h1 htr;obtain⟨q1,q2⟩:=ag6 hrest h2 fun j t v h1 h2=>hok (j+1) t v u_ (by simp_all)
   refine⟨?_,k1,q2⟩;have hv:=hok 0 t v rfl rfl;have hrv:RV (Gh.all W) W (aek (CM P t) (ge d)) v zero:=by
    unfold Value.okWide at hv
    cases ha:CM P t with
    | true =>
     have hagg:∃ cs,v=.agg cs:=by
      grind [CM]
     obtain⟨cs,rfl⟩:=hagg;refine⟨cs,rfl,RVs.ds (g:=Gh.all W) rfl (by grind [Value.cells]) fun j c x hc hx=>?_⟩;obtain⟨u,hu,hr⟩:=k3 j c hc;have:u=x:=by
      grind [Value.cells]
     rw[<-this];exact hr
    | false =>
     have hone:v.cells=#[v]:=by
      have:Cell.okWide P W .any base t v:=by
       grind [CM]
      cases v<;>first | rfl | simp_all [Cell.okWide,Cell.ok]
     rw[hone]at k2 k3
     match hcd:ge d,k2 with
     | [c],_ =>
      obtain⟨u,hu,hr⟩:=k3 0 c d_;simp at hu;subst hu;simp only[aek,RV];exact⟨hr,fun _=>trivial⟩
   grind [H8,RVs]
  simp_all
 | [],_::_,_,_,_,hA,_,_=>hA.elim
 | [],[],_::_,_,_,hA,_,_=>hA.elim
 | _::_,[],_,_,_,hA,_,_=>hA.elim
 | _::_,_::_,[],_,_,hA,_,_=>hA.elim
theorem acf {W':World}(hl:laidOutB P=true) (hblk:∀ b,b<W.heap.size->W'.heap[b]?=W.heap[b]?) {sp':Nat->Bool}:∀ {ts:List TypeId}{vs:O_}{ds:List (DataW H)}{ps:List MemPlace},
  (∀ t∈ts,P.readableRec t=true∧t<P.types.size)->DataW.TrodAll enc P W 0 (fun _=>true) true ts vs ds ps->(∀ p∈ps,sp' p.block=true)->DataW.TrodAll enc P W' 0 sp' true ts vs ds ps
 | [],[],[],_,_,h,_=>h
 | t::ts,v::vs,d::ds,ps,hr,h,hs=>by
  have hlt:=h.lt;obtain⟨p,q,⟨fuel,htr⟩,hrest,rfl⟩:=h;obtain⟨h1,h2⟩:=hr t (.head _);refine⟨p,q,⟨fuel,DataW.trod_stays (kids_book hl h1) (book_sized h1) (fun h=>by cases h) ⟨h2,book_self t⟩ htr (fun x hx=>?_) (fun x hx=>hs x (df _ hx))⟩,
   acf hl hblk (fun t ht=>hr t (.tail _ ht)) hrest (fun x hx=>hs x (gL _ hx)),rfl⟩
  have hxl:=hlt x (df _ hx)
  cases x with
  | cell b o=>exact rF (hblk b hxl) o
  | map b=>exact hblk b hxl
 | [],_::_,_,_,_,h,_=>h.elim
 | [],[],_::_,_,_,h,_=>h.elim
 | _::_,[],_,_,_,h,_=>h.elim
 | _::_,_::_,[],_,_,h,_=>h.elim
def agR {T:Nat->Y_}(hT:Kd P T) {fn:Func}{f:FuncId}{s:ChangeSpec}(hl:laidOutB P=true) (hrec:∀ t∈fn.params.toList,P.readableRec t=true∧t<P.types.size)
  {n:Nat}{tys:List (Bool×BG_)}(hty:LV P n fn.params.toList=some tys) {tb:TypeId}(hres:fn.resultTypes=#[tb]) (htb:P.underlying tb=some .bool) (hvars:s.vars=[]) {apart:Bool}
  {base:Nat}{args:F_}{ds gs:List (DataW H)}{before:List MemPlace}(hval:∀ (j:Nat) t v,fn.params[j]?=some t->args[j]?=some v->Value.okWide P W .any base t v)
  (hW:DataW.Whole enc P fn.params.toList s.vars apart W args.toList ds gs before) (hfn:yN tys ds->s.fn H ds={ results:=[.lit (.bool true)],args:=ds })
  (hrun:yN tys ds->gs=[]->∃ m hs',(run T m).call f (H8 tys ds) ⟨[],0⟩=some (B_ true,hs')) :
  Calls P f args W fun e W'=>∃ v,e=.returned v∧s.post enc P fn apart true false false W args v W':=by
 have hW':=hW;obtain⟨p,q,hA,hV,hpq,hfz,hnd⟩:=hW;rw[hvars]at hV;obtain⟨rfl,rfl⟩:=trodVars_none hV;obtain⟨rv,hok⟩:=ag6 (n:=n) (base:=base) hA hty fun j t v h1 h2=>hval j t v u_ (by simp_all)
 obtain⟨m,hs',hcall⟩:=hrun hok rfl;have hc:=Uz hT hcall (g:=Gh.all W) (fun _=>rfl) (fun b o h=>h) rv;refine hc.mono fun e W2 hp=>?_
 cases e with
 | panicked _=>exact hp.elim
 | outgrown=>exact hp.elim
 | returned x =>
  obtain⟨g',Or,Oh,r1,_,hx,_,_,_⟩:=hp;have hxv:=AH r1 rfl;subst hxv;have hblk:∀ b,b<W.heap.size->W2.heap[b]?=W.heap[b]?:=fun b hb=>(hx.blk b hb s_).1
  have hsfn:s.fn H (ds++[])={ results:=[.lit (.bool true)],args:=ds }:=u_;refine⟨_,rfl,post_of_same (pa:=p) (pv:=[]) hW' (fun b sp hd=>?_) (fun sp hsp=>?_) (fun sp _=>?_) (by rw[hpq]) ⟨hx.same.1,hx.same.2.1,fun i hi=>?_⟩ hx.same.2.2 ?_⟩
  .rw[hres,hsfn];exact trodAll_cons_mk (shut_bool htb _) trodAll_mk0
  .grind [acf]
  .rw[hsfn,hvars];rfl
  .grind
  .exact ok_one hres rfl (okWide_bool_mk htb _)
end
def W1 (P:Program) (vf:aj) (f:FuncId):Bool:=at3 P vf f || (match vf.body with
 | .clone m=>Za P m vf f
 | .late i d k a=>acF P i d k a vf f
 | _=>false)
def T.every (p:Nat->aj->Bool):T->Bool
 | .leaf=>true
 | .node k v a b=>p k v && a.every p && b.every p
def T.look_every {p:Nat->aj->Bool}:∀ {t:T}{f:Nat}{vf:aj},t.every p=true->t.look f=some vf->p f vf=true
 | .leaf,_,_,_,h=>by simp[T.look]at h
 | .node k v a b,f,vf,he,h=>by
  simp only[T.every,af]at he;simp only[T.look]at h;split at h
  .simp_all
  .split at h
   .exact T.look_every he.1.2 h
   .exact T.look_every he.2 h
def agG {P:Program}{vf:aj}{f:FuncId}(h:W1 P vf f=true):atF P vf f:=by
 simp only[W1,cV]at h;rcases h with h | h
 .unfold at3 at h;split at h
  .rename_i fn h1;split at h
   .rename_i c h2;simp only[af,bj,bne_iff_ne,ne_eq]at h;obtain⟨⟨⟨k1,k2⟩,k3⟩,k4⟩:=h;exact⟨fn,c,h1,h2,k4,k2,k3,.inl (jD _ _ k1)⟩
   simp_all
  simp_all
 .split at h
  .rename_i m hb;unfold Za at h;split at h
   .rename_i fn h1;split at h
    .rename_i c h2;simp only[af,bj,aC,bne_iff_ne,ne_eq]at h;obtain⟨⟨⟨⟨⟨⟨k1,k2⟩,k3⟩,k4⟩,k5⟩,k6⟩,k7⟩:=h;exact⟨fn,c,h1,h2,k7,o_,k3,.inr (.inl ⟨m,hb,k6,k5⟩)⟩
    simp_all
   simp_all
  .rename_i i d k a hb;unfold acF at h;split at h
   .rename_i fn h1;split at h
    .rename_i c h2;simp only[af,bj,bne_iff_ne,ne_eq]at h;obtain⟨⟨⟨k1,k2⟩,k3⟩,k4⟩:=h;exact⟨fn,c,h1,h2,k4,k2,k3,.inr (.inr ⟨i,d,k,a,hb,k1⟩)⟩
    simp_all
   simp_all
  simp_all
def azR {P:Program}{t:T}(h:t.every (fun f v=>W1 P v f)=true):Kd P t.look:=fun f vf hv=>agG (T.look_every (p:=fun f v=>W1 P v f) h hv)
def Ev (P:Nat->Y_) (c:VC) (st:St) (o:ct) (st':St):Prop:=∃ N,∀ n,(run P (N+n)).code c st=some (o,st')
variable {P:Nat->Y_}
def ahG {n:Int}(h:-9223372036854775808<=n) (h2:n<=9223372036854775807):wr .i64 n=n:=by
 simp only[wr,oA,decide_eq_true h,decide_eq_true h2,Bool.and_self]
instance:Nonempty dz:=⟨⟨fun _ _=>none,fun _ _ _=>none⟩⟩
def WP (P:Nat->Y_) (c:VC) (st:St) (Q:ct->St->Prop):Prop:=∃ o st',Ev P c st o st'∧Q o st'
theorem acD {r:dz}{vs:T_}:∀ {l:C_}{st:St},(l.all fun i=>decide (i<vs.length))=true->wX r vs l st=kL r (l.filterMap fun i=>vs[i]?) st
 | [],_,_=>rfl
 | i::l,st,h=>by
  simp only[gC,af,decide_eq_true_eq]at h;have hi:vs[i]?=some (vs[i]'h.1):=bE h.1;simp only[wX,hi,List.filterMap_cons,kL]
  cases cU r (vs[i]'h.1) st with
  | none=>rfl
  | some st1=>exact acD h.2
def aeV {r:dz}{vs:T_}:∀ {l F:C_}{st:St},fE r [] vs l F st=wX r vs l st
 | [],_,_=>rfl
 | i::l,F,st=>by
  simp only[fE,wX,bX,et]
  cases vs[i]? with
  | none=>rfl
  | some v =>
   simp only
   cases cU r v st with
   | none=>rfl
   | some st1=>exact aeV
def WP.mono {c:VC}{st:St}{Q R:ct->St->Prop}(h:WP P c st Q) (hq:∀ o s,Q o s->R o s):WP P c st R:=by
 obtain⟨o,s,h,k⟩:=h;exact⟨o,s,h,hq o s k⟩
end Go.Vm
end
