import Derived.Lib.BytesEntry
import Derived.RangeFuncLeaves
import Derived.Orders
import GoSem.ClaimChange
import Derived.WalkKit
import Derived.ProofKit
import Derived.OpenShut
import Derived.JoinedCond
import Derived.ChangeStays
import Derived.ChangeBook
import Derived.Test.YtflkikefecmmmaaGreatP0
set_option linter.unusedVariables false
set_option linter.unusedSimpArgs false
set_option linter.defProp false
set_option linter.unusedSectionVars false
noncomputable section
namespace Go.Vm
set_option maxHeartbeats 4000000
set_option maxRecDepth 100000
section
variable {P:Program}{g:Gh}{w:World}{t:F_}{O:Nat->Nat}{st st':St}{a:AV}{o:Oper}
def atW:(Extern.findNext { (default:Func) with name := "internal/bytealg.IndexByte",origin := "" }).isNone=true:=by kernel_rfl
def auZ {fn:Func}(h1:fn.name = "internal/bytealg.IndexByte")(h2:fn.origin = ""):Extern.findNext fn=none:=by
 have h:=atW;unfold Extern.findNext at h⊢;have e:(List.lookup "internal/bytealg.IndexByte" Extern.allNextRows)=none:=by
  cases e:(List.lookup "internal/bytealg.IndexByte" Extern.allNextRows)<;>simp_all
 have e2:(List.lookup "" Extern.allNextRows)=none:=by
  cases e2:(List.lookup "" Extern.allNextRows)<;>simp_all
 grind
def au1 {fn:Func}(h1:fn.name = "internal/bytealg.IndexByte"):Extern.find fn=some Extern.BytealgIndexByte.indexByte:=by
 unfold Extern.find;have e1:(List.lookup "internal/bytealg.IndexByte" Extern.allGenericRows).isNone=true:=by kernel_rfl
 have e2:(List.lookup "internal/bytealg.IndexByte" Extern.allTypedRows).isNone=true:=by kernel_rfl
 have e3:List.lookup "internal/bytealg.IndexByte" Extern.allRows=some Extern.BytealgIndexByte.indexByte:=by kernel_rfl
 grind [Option.isNone_iff_eq_none]
def aiL:∀(l:BC_) (c:UInt8) (i:Nat),Kj l c.toNat i=if Lib.indexByte l c == -1 then -1 else Lib.indexByte l c+i
 |[],c,i=>by simp[Kj,Lib.indexByte]
 |b::l,c,i=>by
  have hp:Lib.indexByte l c=-1∨0<=Lib.indexByte l c:=by
   induction l<;>grind [Lib.indexByte]
  simp only[Kj,Lib.indexByte];by_cases h:b=c
  .simp_all
  .have hn:Nat.beq b.toNat c.toNat=false:=by
    grind [Nat.beq_eq,UInt8.toNat_inj]
   rw[aiL l c (i+1)]
   grind
theorem afP (ad:Addr)(cap:Nat)(ns:C_)(cv:Int)(hc:∀j u,(ns.map fun(n:Nat)=>Value.int .u8 (n:Int))[j]?=some u->w.cell? (ad.add j)=some u) :
  (Extern.BytealgIndexByte.indexByte #[.slice (some ad) ns.length cap,.int .u8 cv]).run P w=.ok (.int .i64 (Lib.indexByte (Lib.bytesOf (ns.map fun(n:Nat)=>(n:Int))) cv.toNat.toUInt8)) w:=by
 generalize hxs:ns.map (fun(n:Nat)=>(n:Int))=xs;have hl:=Lib.run_loadBytesX (P:=P) w xs ad .empty (λj x hj=>hc j _ (by
  grind))
 have hs:=Lib.run_indexByteString (P:=P) ⟨(Lib.bytesOf xs).toArray⟩ cv w;have he:(⟨ByteArray.empty.data++(Lib.bytesOf xs).toArray⟩:ByteArray)=⟨(Lib.bytesOf xs).toArray⟩:=by
  simp_all
 change Sem.run P (do
  let b<-Extern.Bytes.bytesOf (.slice (some ad) ns.length cap)
  let c<-Extern.Bytes.asByte (.int .u8 cv)
  match (List.range b.size).find? λi=>b[i]! == c with
  |some i=>pure (goInt i)
  |none=>pure (goInt (-1))) w=_
 change Sem.run P (do
  let b<-Extern.Bytes.bytesOf (.string ⟨(Lib.bytesOf xs).toArray⟩)
  let c<-Extern.Bytes.asByte (.int .u8 cv)
  match (List.range b.size).find? λi=>b[i]! == c with
  |some i=>pure (goInt i)
  |none=>pure (goInt (-1))) w=_ at hs
 grind [Extern.Bytes.bytesOf,Sem.run_bind,Result.andThen]
def awX {x c:Rd}(s:S P g w st t O)(h:agT x c st=some (a,st'))(hc:bG P (.idxb x c) o.op=true) :
  fS P g w t O st' a ((execOp (ev t) o).run P w):=by
 obtain⟨dst,op,ty,pos,aft,gd⟩:=o;simp only[bG]at hc;split at hc
 .rename_i k;obtain⟨callee,as,ats⟩:=k;simp only[af]at hc;obtain⟨h1,h2⟩:=hc;split at h1
  .rename_i f hf;have hcal:callee=.value (.func f):=by
    unfold AJ at hf
    grind
   subst hcal;unfold asx at h1;split at h1
   .rename_i fn hfn;simp only[af,beq_iff_eq]at h1;obtain⟨⟨hn1,hn2⟩,hn3⟩:=h1;obtain⟨x',c',has,hx,hcc⟩:∃x' c',as.toList=[x',c']∧cR x x'=true∧cR c c'=true:=by
     revert h2
     cases as.toList with
     |nil=>grind [eU]
     |cons x' l=>cases l<;>grind [eU]
    have has':as=#[x',c']:=Array.ext' has;obtain⟨va,vb,e,Oa,Ob,O',ra,rb,s',l,hk⟩:=Rr s hx hcc h;split at hk
    .rename_i r hr;obtain⟨rfl,rfl⟩:=hk;unfold atI at hr;split at hr
     .rename_i n;split at hr
      .rename_i xs hxs;split at hr
       .rename_i q hq;simp only[ae]at hr;subst hr;unfold indexByte at hq;split at hq
        .rename_i b hb;simp only[ae]at hq;subst hq;obtain⟨ns,rfl,rfl⟩:=IZ hb;have hl1:∀e∈ns.map (fun(n:Nat)=>[D.int .u8 (Int.ofNat n)]),e.length=1:=by
          simp_all
         obtain⟨ad,cap,news,hxv,hels⟩:=BM (st:=⟨e,st.hs⟩) s' hxs hl1 ra;have hcv:=zH rb rfl;have hargs:#[ev t x',ev t c']=#[Value.slice ad (ns.map (fun(n:Nat)=>[D.int .u8 (Int.ofNat n)])).length cap,.int .u8 n]:=u_;have hres:Kj (ns.map Nat.toUInt8) (n.toNat % 256) 0=Lib.indexByte (Lib.bytesOf (ns.map fun(n:Nat)=>(n:Int))) n.toNat.toUInt8:=by
          have h1:n.toNat % 256=(n.toNat.toUInt8).toNat:=s_;rw[h1,aiL];have h2:Lib.bytesOf (ns.map fun(n:Nat)=>(n:Int))=ns.map Nat.toUInt8:=by
           simp[Lib.bytesOf]
          grind
         have hrun:(Extern.BytealgIndexByte.indexByte #[ev t x',ev t c']).run P w=.ok (.int .i64 (Kj (ns.map Nat.toUInt8) (n.toNat % 256) 0)) w:=by
          rw[hargs,hres]
          cases ad with
          |none =>
           have h0:=hels.nn rfl;have:ns=[]:=aB u_;subst this;exact Lib.run_indexByteNil w _ _ _
          |some ad =>
           have hnews:news=ns.map fun(n:Nat)=>Value.int .u8 (n:Int):=by
            apply dW;intro j;rcases bD j ns.length with hj|hj
            .have hd:(ns.map (fun(n:Nat)=>[D.int .u8 (Int.ofNat n)])).flatten[j]?=some (D.int .u8 (Int.ofNat ns[j])):=by grind [Y2]
             obtain⟨u,hu,hr⟩:=hels.rd j _ hd
             cases hr
             simp_all
            grind [CF.len]
           grind [afP,CF.cell]
         refine .flat s (x:=.int .i64 (Kj (ns.map Nat.toUInt8) (n.toNat % 256) 0)) ?_ (by simp only[RV];exact⟨.int _ _,λ_=>trivial⟩) s' λb=>by grind
         simp only[execOp,resolve,aT,ev,Deferred.ofValue,dO,bw,invoke]
         simp_all [run_callFunc_extern,auZ,au1]
        simp_all
       simp_all
      simp_all
     simp_all
    simp_all
   simp_all
  simp_all
 simp_all
end
abbrev FR (ro:I_):Fence:={ Fence.wide with round:=ro }
theorem ach (ro:I_)(n:Nat):(FR ro).room n:=λ_ h=>by grind [Fence.wide]
def OB {ro:I_}{n:Nat}{P:Program}{f:FuncId}{args:F_}{w:World}{R:Ending->World->Prop}(h:CallsIn (FR none) n P f args w R):CallsIn (FR ro) n P f args w R:=h
section
variable {P:Program}{g:Gh}{w:World}{t:F_}{O:Nat->Nat}{st st':St}{a:AV}{o:Oper}
structure CV (P:Program)(g:Gh)(w:World)(t:F_)(O:Nat->Nat)(st':St)(a:AV)(x:Value)(w':World)(g':Gh)(Oa O':Nat->Nat):Prop where
 val:RV g' w' a x Oa
 st:S P g' w' st' t O'
 ext:bQ g w g' w' λb=>O b≠0
 le:∀b,Oa b+O' b<=1
 old:∀b,b<w.heap.size->Oa b+O' b<=O b
 hi:∀b,Oa b≠0->b<w'.heap.size
def OpW (ro:I_)(P:Program)(g:Gh)(w:World)(t:F_)(O:Nat->Nat)(st':St)(a:AV)(o:Oper):Prop :=
 ∀(ds:List Deferred) (next:Act->World->Prop) (Q:Exit->Act->World->Prop),(∀x w' g' Oa O',CV P g w t O st' a x w' g' Oa O'->next (Act.put ⟨t,ds⟩ o.dst x) w')->
  o.uponIn (FR ro) 0 P ⟨t,ds⟩ next Q ((execOp (ev t) o).run P w)
def fS.opW {ro:I_}(h:fS P g w t O st' a ((execOp (ev t) o).run P w)):OpW ro P g w t O st' a o:=by
 obtain⟨x,w',g',Oa,O',k⟩:=h;intro ds next Q hn;have hx:=hn x w' g' Oa O' ⟨k.val,k.st,k.ext,k.le,k.old,k.hi⟩;rcases k.run with hr|⟨hr,rfl⟩
 .rw[hr];exact hx
 .rw[hr];exact hx
abbrev xJ (t:F_)(dst:I_)(x:Value):F_:=(Act.put ⟨t,[]⟩ dst x).tmps
theorem ZW (t:F_)(ds:List Deferred)(dst:I_)(x:Value):Act.put ⟨t,ds⟩ dst x=⟨xJ t dst x,ds⟩:=by cases dst<;>rfl
theorem qK (t:F_)(dst:I_)(x:Value):(xJ t dst x).size=t.size:=by cases dst<;>simp[xJ,Act.put]
structure ip (P:Program)(g:Gh)(w:World)(t:F_)(O:Nat->Nat)(st':St)(t':F_)(w':World)(g':Gh)(O':Nat->Nat):Prop where
 st:S P g' w' st' t' O'
 ext:bQ g w g' w' λb=>O b≠0
 old:∀b,b<w.heap.size->O' b<=O b
 size:t'.size=t.size
def ip.refl (s:S P g w st t O):ip P g w t O st t w g O:=⟨s,.refl _ _ _,λ_ _=>ak _,rfl⟩
def ip.trans {t1 t2:F_}{w1 w2:World}{g1 g2:Gh}{O1 O2:Nat->Nat}{st1 st2:St}(h1:ip P g w t O st1 t1 w1 g1 O1)(h2:ip P g1 w1 t1 O1 st2 t2 w2 g2 O2) :
  ip P g w t O st2 t2 w2 g2 O2 where
 st:=h2.st
 ext:=h1.ext.trans h2.ext λb hb h=>by grind [old]
 old b hb:=aM (h2.old b (bc hb h1.ext.size)) (h1.old b hb)
 size:=h2.size.trans h1.size
def ag7 {st1:St}{x:Value}{w':World}{g1:Gh}{Oa O1:Nat->Nat}(k:CV P g w t O st1 a x w' g1 Oa O1){dst:I_}(hd:∀d,dst=some d->d<t.size)(th:R_) :
  ∃g' O',ip P g w t O (cT dst (firm (eC th a st1.hs).1) ⟨st1.env,(eC th a st1.hs).2⟩) (xJ t dst x) w' g' O':=by
 obtain⟨g2,Ov2,O2,r2,s2,x2,l2⟩:=Lh (P:=P) (t:=t) th (env:=st1.env) (hs:=st1.hs) k.st k.val k.le k.hi;have hle2:∀b,Ov2 b+O2 b<=1:=λb=>aM (l2 b) (k.le b)
 obtain⟨g3,r3,s3,x3⟩:=ahQ s2 r2 hle2;have hext:bQ g w g3 w' λb=>O b≠0:=(k.ext.trans x2 (λ_ _ h=>h.elim)).trans x3 λb hb h=>by grind [CV.old]
 cases dst with
 |none=>exact⟨g3,O2,s3,hext,λb hb=>by grind [CV.old],rfl⟩
 |some d =>
  obtain⟨O4,s4,l4⟩:=s3.setTmp (hd d rfl) r3 hle2 λb hb=>by
   by_cases h:Oa b=0
   .exact k.st.hi b (by grind)
   .exact k.hi b h
  exact⟨g3,O4,s4,hext,λb hb=>by grind [CV.old],qK _ _ _⟩
def S.split (s:S P g w st t O):∃Oe Oh,kY g w st.env t Oe∧S P g w ⟨[],st.hs⟩ #[] Oh∧∀b,O b=Oe b+Oh b:=by
 obtain⟨Oe,Oh,re,rh,ho⟩:=s.parts;exact⟨Oe,Oh,re,⟨List.Pairwise.nil,s.sh,⟨zero,Oh,λ_=>rfl,rh,λb=>by simp⟩,λb=>by have:=s.le b;grind,λb hb=>s.hi b u_,s.fresh,s.pmlt⟩,ho⟩
theorem S.join {e:aZ}{hs:HS}{Oe Oh:Nat->Nat}(he:cX e)(re:kY g w e t Oe)(s:S P g w ⟨[],hs⟩ #[] Oh)(hle:∀b,Oe b+Oh b<=1)(hhi:∀b,Oe b≠0->b<w.heap.size) :
  S P g w ⟨e,hs⟩ t λb=>Oe b+Oh b:=by
 obtain⟨O0,Oh',r0,rh,ho⟩:=s.parts;have h0:∀b,Oh b=Oh' b:=λb=>by have:=ho b;have:O0 b=0:=r0 b;omega
 exact⟨he,s.sh,⟨Oe,Oh',re,rh,λb=>by simp_all⟩,hle,λb hb=>by
  grind [hi],s.fresh,s.pmlt⟩
theorem Id (t:F_)(ds:List Deferred):(⟨t,ds⟩:Act).eval=ev t:=by
 funext x;cases x<;>rfl
theorem OX {ro:I_}(t:F_)(ds:List Deferred)(h:∀c,o.op≠.defer c):o.semAt ro (⟨t,ds⟩:Act).eval=execOp (ev t) o:=by
 grind [Oper.semAt_eq,Id]
end
section
variable {P:Program}{g:Gh}{w:World}{t:F_}{O:Nat->Nat}{st st':St}{o:Oper}{ops:Array Oper}
theorem asD (s:S P g w st t O){gd:Option (Nat×Bool)}(hg:E8 ops gd o.guard=true) :
  (gd=none->Region.wanted o (yielded ops t)=true)∧
  ∀sl want,gd=some (sl,want)->(∀b,get st.env sl=some (B_ b)->Region.wanted o (yielded ops t)=(b == want))∧(get st.env sl=some (.tup [])->Region.wanted o (yielded ops t)=false):=by
 cases gd with
 |none =>
  grind [Region.wanted,E8]
 |some p =>
  obtain⟨sl,want⟩:=p
  cases hog:o.guard with
  |none=>grind [E8]
  |some q =>
   rw[hog]at hg;simp only[E8,af,beq_iff_eq]at hg;obtain⟨rfl,h2⟩:=hg;refine⟨λh=>by simp at h,λsl' want' h=>?_⟩;obtain⟨rfl,rfl⟩:=h;obtain⟨Oe,Oh,re,rh,ho⟩:=s.parts;split at h2
   .split at h2
    .rename_i d hd;rw[aD]at h2;subst h2;refine⟨λb hb=>?_,λhb=>?_⟩
     .obtain⟨O1,⟨hlt,q⟩,_⟩:=RL.get re hb;have hv:t.getD d undef=.bool b:=Bw q rfl
      simp_all [Region.wanted,yielded]
     .obtain⟨O1,⟨hlt,q⟩,_⟩:=RL.get re hb;obtain⟨xs,hv,hxs,_⟩:=q
      simp_all [Region.wanted,yielded]
    simp_all
   simp_all
end
def im (P:Program)(g:Gh)(w:World)(O:Nat->Nat)(v:AV)(hs':HS):Ending->World->Prop
 |.returned x,w'=>∃g' Or Oh,RV g' w' v x Or∧S P g' w' ⟨[],hs'⟩ #[] Oh∧bQ g w g' w' (λb=>O b≠0)∧(∀b,Or b+Oh b<=1)∧(∀b,b<w.heap.size->Or b+Oh b<=O b)∧
   ∀b,Or b≠0->b<w'.heap.size
 |_,_=>False
def aoO (P:Program)(f:FuncId):Prop:=∃fn,P.funcs[f]?=some fn∧fn.body.isSome=true∧fn.name≠ "runtime.NumGoroutine"
def jp (P:Program)(r:dQ):Prop :=
 ∀{f:FuncId}{args:D_}{hs:HS}{v:AV}{hs':HS},r.call f args hs=some (v,hs')->aoO P f∧
  ∀{g:Gh}{w:World}{xs:N_}{Oa Oh:Nat->Nat},RVs g w args xs Oa->S P g w ⟨[],hs⟩ #[] Oh->(∀b,Oa b+Oh b<=1)->(∀b,Oa b≠0->b<w.heap.size)->
   CallsIn (FR none) 0 P f xs.toArray w (im P g w (λb=>Oa b+Oh b) v hs')
section
variable {P:Program}{g:Gh}{w:World}{t:F_}{O:Nat->Nat}{st st':St}{a:AV}{o:Oper}{r:dQ}
def HU {e:aZ}{hs hs':HS}{Ov Oe Oh:Nat->Nat}{x:Value}{w':World}{v:AV}(he:cX e)(re:kY g w e t Oe)(hle:∀b,Ov b+(Oe b+Oh b)<=O b)(s0:S P g w st t O)
  (h:im P g w (λb=>Ov b+Oh b) v hs' (.returned x) w'):∃g' Oa O',CV P g w t O ⟨e,hs'⟩ v x w' g' Oa O':=by
 obtain⟨g',Or,Oh',h1,h2,h3,h4,h5,h6⟩:=h;have hle1:∀b,Ov b+(Oe b+Oh b)<=1:=λb=>aM (hle b) (s0.le b)
 have re':=kY.ext h3 re λb hb h=>by grind
 have hoe:∀b,¬b<w.heap.size->Oe b=0:=λb hb=>by
  grind [S.hi]
 have hsum:∀b,Or b+(Oe b+Oh' b)<=1:=λb=>by
  grind
 have s':=S.join he re' h2 (λb=>by grind) λb hb=>bc (s0.hi b d_) h3.size
 refine⟨g',Or,_,h1,s',h3.mono λb _ hb=>by grind,hsum,λb hb=>?_,h6⟩
 grind
def VM {ro:I_}{f:FuncId}{args:F_}{e:aZ}{hs hs':HS}{Ov Oe Oh:Nat->Nat}{v:AV}(he:cX e)(re:kY g w e t Oe)(hle:∀b,Ov b+(Oe b+Oh b)<=O b)(s0:S P g w st t O)
  (hrun:(execOp (ev t) o).run P w=.ok (.enter f args) w)(hk:CallsIn (FR none) 0 P f args w (im P g w (λb=>Ov b+Oh b) v hs')):OpW ro P g w t O ⟨e,hs'⟩ v o:=by
 intro ds next Q hn
 rw[hrun,Oper.uponIn_enter];refine⟨λh=>by grind [Fence.wide],OB (hk.mono λen w' hp=>?_)⟩
 cases en with
 |returned x =>
  obtain⟨g',Oa,O',k⟩:=HU (hs:=hs) he re hle s0 hp
  grind
 |panicked c=>exact hp.elim
 |outgrown=>exact hp.elim
theorem xt {f:FuncId}(h:aoO P f)(args:F_):(callFunc f args).run P w=.ok (.enter f args) w:=by
 obtain⟨fn,h1,h2,h3⟩:=h;have h2':¬fn.body=none:=d_
 simp_all [callFunc]
def Li {c:Callee}{f:FuncId}(h:(match AJ c with|some g=>Nat.beq f g|none=>false)=true):c=.value (.func f):=by
 split at h
 .rename_i g hg;rw[aD]at h;unfold AJ at hg
  grind
 simp_all
def at0 {ro:I_}{f:FuncId}{args:U_}(hr:jp P r)(s:S P g w st t O)(h:D0 r f args st=some (a,st'))(hc:bG P (.calli f args) o.op=true) :
  OpW ro P g w t O st' a o:=by
 obtain⟨dst,op,ty,pos,aft,gd⟩:=o;simp only[bG]at hc;split at hc
 .rename_i c;simp only[af]at hc;obtain⟨h1,h2⟩:=hc;obtain⟨callee,as,ats⟩:=c;have:=Li h1;subst this;unfold D0 at h;split at h
  .rename_i vs e hrd;split at h
   .rename_i v hs' hcall;obtain⟨rfl,rfl⟩:=h;obtain⟨Ov,O',rvs,s',l⟩:=s.rdAll h2 hrd;obtain⟨Oe,Oh,re,sh,ho⟩:=s'.split;obtain⟨hfn,hk⟩:=hr hcall;have hle:∀b,Ov b+(Oe b+Oh b)<=O b:=λb=>by simp_all
    have hk:=hk rvs sh (λb=>by have:=hle b;have:=s.le b;omega) (λb hb=>s.hi b d_);refine VM (hs:=st.hs) s'.se re hle s ?_ hk;simp only[execOp,resolve,aT,ev,Deferred.ofValue,dO,bw,invoke];rw[xt hfn]
    congr 2
    grind
   simp_all
  simp_all
 simp_all
end
section
variable {P:Program}{g:Gh}{w:World}{t:F_}{O:Nat->Nat}{st st':St}{a:AV}{o:Oper}{r:dQ}
theorem RD.mono {pm pm':Nat->Nat->Prop}(h:∀b o,pm b o->pm' b o){c:D}{x:Value}(r:RD w pm c x):RD w pm' c x:=by
 induction r with
 |int k n=>exact .int k n
 |bool b=>exact .bool b
 |str s=>exact .str s
 |nil a cap=>exact .nil a cap
 |lst xs b off m cap u hm hcap hl hc hr ih=>exact .lst xs b off m cap u hm hcap hl (λj c hj=>⟨(hc j c hj).1,h _ _ (hc j c hj).2⟩) (λj c hj=>ih j c hj)
def jw.mono {pm pm':Nat->Nat->Prop}(h:∀b o,pm b o->pm' b o){cs:W_}{b off:Nat}(r:jw w pm cs b off):jw w pm' cs b off:=λj c hj=>by
 obtain⟨u,hu,hr⟩:=r j c hj
 grind [RD.mono]
theorem RD.flat {pm pm':Nat->Nat->Prop}{c:D}{x:Value}(hf:mA c=true)(r:RD w pm c x):RD w pm' c x:=by
 cases r with
 |int k n=>exact .int k n
 |bool b=>exact .bool b
 |str s=>exact .str s
 |nil a cap=>exact .nil a cap
 |lst xs=>simp[mA]at hf
def Gh.view (g:Gh)(w:World)(K:Nat->Prop):Gh where
 obj _:=none
 base _:=0
 esz _:=0
 bsz _:=0
 pm b o:=g.pm b o∨(K b∧b<w.heap.size)
def aAn (s:S P g w st t O)(K:Nat->Prop):S P (g.view w K) w ⟨[],⟨[],0⟩⟩ #[] zero :=
 ⟨List.Pairwise.nil,List.Pairwise.nil,⟨zero,zero,λ_=>rfl,λ_=>rfl,λ_=>rfl⟩,λ_=>by simp,λb hb=>by simp at hb,λ_ _=>rfl,λb o h=>h.elim (s.pmlt b o) λh=>h.2⟩
def VF (s:S P g w st t O){K:Nat->Prop}{v d:AV}{x:Value}{Ov:Nat->Nat}(h:viewOne st.hs.heap v=some d)(hK:ud v=true->∀b,O b≠0->K b)(rv:RV g w v x Ov) :
  RV (g.view w K) w d x zero:=by
 have hm:∀b o,g.pm b o->(g.view w K).pm b o:=λb o h=>.inl h
 cases v<;>simp only[viewOne,reduceCtorEq]at h
 .grind [RV,RD.mono]
 .grind [RV]
 .rename_i p m xs
  cases p
  .have:=RV.share _ _ _ rv
   grind [share,RV,RD.mono]
  simp_all
 .rename_i id off len;split at h
  .rename_i xs hx;simp only[ae]at h;subst h;simp only[elems]at hx;split at hx
   .rename_i zs hzs;split at hx
    .rename_i hb;rw[bp]at hb;simp only[ae]at hx;subst hx;have hsl:(Vm.sub zs off len).length=len:=kE hb;simp only[RV]at rv⊢;refine⟨?_,λ_=>trivial⟩;rcases rv.1 with ⟨rfl,ad,rfl⟩|⟨b,cap,hob,rfl,hlc,hcap⟩
     .exact .nil _ _
     .obtain⟨Oe,Oh,re,rh,ho⟩:=s.parts;have key:∀(m:Nat),0<m->g.esz id=m->(∀e∈zs,e.length=m)->jw w g.pm zs.flatten b (g.base id)->O b≠0->RD w (g.view w K).pm (.lst (Vm.sub zs off len)) (.slice (some ⟨b,g.base id+off*g.esz id,none⟩) len cap):=by
       intro m hm0 hes hl hc hO;have hsubl:=Il hl off len;have:=jw.rd (w:=w) (pm:=(g.view w K).pm) (xs:=Vm.sub zs off len) (b:=b) (off:=g.base id+off*g.esz id) (cap:=cap) hm0 o_ hsubl (by
        rw[oL hl,hes];exact(hc.sub _ _).mono hm) (λj _=>.inr ⟨hK rfl b hO,s.hi b hO⟩)
       simp_all
      unfold objElems at hzs;split at hzs
      .rename_i m' ys hg;obtain⟨O1,q,hO1⟩:=RL.get rh hg;rcases q with ⟨rfl,_⟩|⟨b',c,el,g1,g2,g3,g4,g5,g6,g7,g8,g9,g10⟩
       .have h0:len=0:=u_;subst h0;exact .nil _ _
       grind [AT]
      .rename_i cs hg;split at hzs
       .rename_i ds hds;simp only[ae]at hzs;subst hzs;obtain⟨O1,q,hO1⟩:=RL.get rh hg;obtain⟨b',c,el,O2,g1,g2,g3,g4,g5,g6,g7,g8⟩:=q;obtain⟨h1,h2,h3⟩:=OU hds g6;refine key 1 o_ g3 (aiz ds) ?_ (by grind [AT]);rw[SU,g2];intro j d hj
        grind [iw]
       simp_all
      simp_all
    simp_all
   simp_all
  simp_all
def VQ (s:S P g w st t O){K:Nat->Prop}:∀{vs ds:D_}{xs:N_}{Ov:Nat->Nat},viewAll st.hs.heap vs=some ds->(vs.any ud=true->∀b,O b≠0->K b)->RVs g w vs xs Ov->
  RVs (g.view w K) w ds xs zero
 |[],ds,xs,Ov,h,hK,rv=>by
  grind [viewAll,RVs]
 |v::vs,ds,xs,Ov,h,hK,rv=>by
  simp only[viewAll]at h;split at h
  .simp at h
  .rename_i d hd;split at h
   .simp at h
   .rename_i ds' hds;simp only[ae]at h;subst h;obtain⟨x,ys,O1,O2,rfl,r1,r2,hs⟩:=rv;exact⟨x,ys,zero,zero,rfl,VF s hd (λh=>hK (by simp[h])) r1,VQ s hds (λh=>hK u_) r2,λ_=>rfl⟩
def aly (s:S P g w st t O){K:Nat->Prop}{v d:AV}{x:Value}{Ov:Nat->Nat}(h:viewArg st.hs.heap v=some d)(hK:rE v=true->∀b,O b≠0->K b)(rv:RV g w v x Ov) :
  RV (g.view w K) w d x zero:=by
 cases v<;>simp only[viewArg]at h<;>try exact VF s h (λhh=>hK hh) rv
 split at h
 .rename_i xs hx;simp only[ae]at h;subst h;obtain⟨ys,e,r⟩:=rv;exact⟨ys,e,VQ s hx (λhh=>hK hh) r⟩
 simp_all
def S5 (s:S P g w st t O){K:Nat->Prop}:∀{vs ds:D_}{xs:N_}{Ov:Nat->Nat},viewArgs st.hs.heap vs=some ds->(vs.any rE=true->∀b,O b≠0->K b)->RVs g w vs xs Ov->
  RVs (g.view w K) w ds xs zero
 |[],ds,xs,Ov,h,hK,rv=>by
  grind [viewArgs,RVs]
 |v::vs,ds,xs,Ov,h,hK,rv=>by
  simp only[viewArgs]at h;split at h
  .simp at h
  .rename_i d hd;split at h
   .simp at h
   .rename_i ds' hds;simp only[ae]at h;subst h;obtain⟨x,ys,O1,O2,rfl,r1,r2,hs⟩:=rv;exact⟨x,ys,zero,zero,rfl,aly s hd (λh=>hK (by simp[h])) r1,S5 s hds (λh=>hK u_) r2,λ_=>rfl⟩
end
section
variable {P:Program}{g:Gh}{w:World}{t:F_}{O:Nat->Nat}{st st':St}{a:AV}{o:Oper}{r:dQ}
def qO:AV->Bool
 |.d _|.nl|.own _ _ _=>true
 |_=>false
def so:AV->Bool
 |.agg cs=>cs.all qO
 |v=>qO v
def Ju:AV->Bool
 |.tup vs=>vs.all so
 |v=>so v
def Zl (P:Program)(g:Gh)(w:World)(O:Nat->Nat)(n:Nat)(x:Value)(Ov:Nat->Nat)(r:AV×am):Prop :=
 ∃Ov' O',RV g w r.1 x Ov'∧S P g w ⟨[],⟨r.2,n⟩⟩ #[] O'∧∀b,Ov' b+O' b<=Ov b+O b
def azz (P:Program)(g:Gh)(w:World)(O:Nat->Nat)(n:Nat)(xs:N_)(Ov:Nat->Nat)(r:D_×am):Prop :=
 ∃Ov' O',RVs g w r.1 xs Ov'∧S P g w ⟨[],⟨r.2,n⟩⟩ #[] O'∧∀b,Ov' b+O' b<=Ov b+O b
def aaA {h:am}{n:Nat}(s:S P g w ⟨[],⟨h,n⟩⟩ #[] O){v:AV}{x:Value}{Ov:Nat->Nat}{r:AV×am}(hr:kj h v=some r)(rv:RV g w v x Ov) :
  Zl P g w O n x Ov r∧qO r.1=true:=by
 have triv:∀v,RV g w v x Ov->Zl P g w O n x Ov (v,h):=λv rv=>⟨Ov,O,rv,s,λ_=>ak _⟩
 cases v<;>simp only[kj,reduceCtorEq]at hr
 .simp only[ae]at hr;subst hr;exact⟨triv _ rv,rfl⟩
 .simp only[ae]at hr;subst hr;exact⟨triv _ rv,rfl⟩
 .simp only[ae]at hr;subst hr;exact⟨triv _ rv,rfl⟩
 .rename_i id off len;split at hr
  .rename_i m xs hg;split at hr
   .rename_i hb;rw[bp]at hb;simp only[ae]at hr;subst hr;refine⟨?_,rfl⟩;obtain⟨Oe,Oh,re,rh,ho⟩:=s.parts;obtain⟨O1,O2,q,r2,hs⟩:=RL.take rh hg;have hle2:∀b,Oe b+O2 b<=O b:=λb=>by grind
    have s2:S P g w ⟨[],⟨del h id,n⟩⟩ #[] (λb=>Oe b+O2 b) :=
     ⟨s.se,s.sh.del id,⟨Oe,O2,re,r2,λ_=>rfl⟩,λb=>aM (hle2 b) (s.le b),λb hb=>s.hi b d_,s.fresh,s.pmlt⟩
    have hsub:(Vm.sub xs off len).length=len:=kE hb;have emp:len=0->(∃a,x=.slice a 0 0)->RV g w (.own true m (Vm.sub xs off len)) x zero:=by
     grind [RV,DJ]
    rcases rv with ⟨h0,h⟩|⟨b,cap,hob,rfl,hlc,hcap⟩
    .exact⟨zero,_,emp h0 h,s2,λb=>by simp_all⟩
    .rcases q with ⟨rfl,g1,g2,g3,_⟩|⟨b',c,el,g1,g2,g3,g4,g5,g6,g7,g8,g9,g10⟩
     .have hl0:len=0:=u_;have hc0:cap=0:=by
       grind [Nat.mul_eq_zero]
      subst hl0 hc0;exact⟨zero,_,emp rfl ⟨_,rfl⟩,s2,λb=>by simp_all⟩
     .rw[hob]at g1;simp only[ae]at g1;subst g1;refine⟨one b,_,?_,s2,λy=>?_⟩
      .refine .inr ⟨b,g.base id+off*m,cap,c,el,u_,o_,g3,Il g7 off len,g4,?_,?_,λo ho=>absurd ho (g9 o),λh=>by simp at h,rfl⟩
       .grind [Nat.add_mul]
       simp_all [oL,jw.sub]
      grind
   simp_all
  simp_all
def LU {n:Nat}{f:am->AV->AF_}{fs:am->D_->Option (D_×am)}{p:AV->Bool}
  (hf:∀{h:am}{O:Nat->Nat},S P g w ⟨[],⟨h,n⟩⟩ #[] O->∀{v:AV}{x:Value}{Ov:Nat->Nat}{r:AV×am},f h v=some r->RV g w v x Ov->Zl P g w O n x Ov r∧p r.1=true)
  (hnil:∀h,fs h []=some ([],h))(hcons:∀h v vs r,fs h (v::vs)=some r->∃v' h' vs' h'',f h v=some (v',h')∧fs h' vs=some (vs',h'')∧r=(v'::vs',h'')) :
  ∀{vs:D_}{h:am}{O:Nat->Nat},S P g w ⟨[],⟨h,n⟩⟩ #[] O->∀{xs:N_}{Ov:Nat->Nat}{r:D_×am},fs h vs=some r->RVs g w vs xs Ov->azz P g w O n xs Ov r∧r.1.all p=true
 |[],h,O,s,xs,Ov,r,hr,rv=>by
  rw[hnil]at hr;simp only[ae]at hr;subst hr;exact⟨⟨Ov,O,rv,s,λ_=>ak _⟩,rfl⟩
 |v::vs,h,O,s,xs,Ov,r,hr,rv=>by
  obtain⟨v',h',vs',h'',e1,e2,rfl⟩:=hcons _ _ _ _ hr;obtain⟨x,ys,O1,O2,rfl,r1,r2,hs⟩:=rv;obtain⟨⟨Ov1,O3,q1,s1,l1⟩,p1⟩:=hf s e1 r1;obtain⟨⟨Ov2,O4,q2,s2,l2⟩,p2⟩:=LU hf hnil hcons s1 e2 r2;refine⟨⟨λb=>Ov1 b+Ov2 b,O4,?_,s2,λb=>by grind⟩,u_⟩
  grind [RVs]
def aaK {h:am}{n:Nat}{O:Nat->Nat}(s:S P g w ⟨[],⟨h,n⟩⟩ #[] O){v:AV}{x:Value}{Ov:Nat->Nat}{r:AV×am}(hr:gz h v=some r)(rv:RV g w v x Ov) :
  Zl P g w O n x Ov r∧so r.1=true:=by
 have base:∀{v:AV},RV g w v x Ov->kj h v=some r->Zl P g w O n x Ov r∧so r.1=true:=λrv hr=>by
  obtain⟨h1,h2⟩:=aaA s hr rv;refine⟨h1,?_⟩;obtain⟨v',h'⟩:=r
  cases v'<;>first|exact h2|grind [qO]
 cases v<;>simp only[gz]at hr<;>try exact base rv hr
 split at hr
 .rename_i vs' h' hx;simp only[ae]at hr;subst hr;obtain⟨ys,e,rr⟩:=rv;obtain⟨⟨Ov1,O1,q1,s1,l1⟩,p1⟩:=LU (f:=kj) (fs:=sv) (p:=qO) aaA (λ_=>rfl) (λh v vs r hr=>by
   grind [sv]) s hx rr
  exact⟨⟨Ov1,O1,by grind [RV],s1,l1⟩,p1⟩
 simp_all
def anB {h:am}{n:Nat}(s:S P g w ⟨[],⟨h,n⟩⟩ #[] O){v r:AV}{x:Value}{Ov:Nat->Nat}(hr:iu h v=some r)(rv:RV g w v x Ov) :
  ∃u Ov',r=ji u∧RV g w u x Ov'∧(∀b,Ov' b<=Ov b+O b)∧Ju u=true:=by
 have base:∀{v:AV},RV g w v x Ov->(match gz h v with|some (x,_)=>some (ji x)|none=>none)=some r->∃u Ov',r=ji u∧RV g w u x Ov'∧(∀b,Ov' b<=Ov b+O b)∧Ju u=true:=λrv hr=>by
  split at hr
  .rename_i u h' hu;simp only[ae]at hr;obtain⟨⟨Ov',O',q,_,l⟩,p⟩:=aaK s hu rv;refine⟨u,Ov',hr.symm,q,λb=>by grind,?_⟩
   cases u<;>first|exact p|grind [so,qO]
  simp_all
 cases v<;>simp only[iu]at hr<;>try exact base rv hr
 split at hr
 .rename_i vs' h' hx;simp only[ae]at hr;obtain⟨ys,e,rr⟩:=rv;obtain⟨⟨Ov1,O1,q1,s1,l1⟩,p1⟩:=LU (f:=gz) (fs:=sS) (p:=so) aaK (λ_=>rfl) (λh v vs r hr=>by
   grind [sS]) s hx rr
  exact⟨.tup vs',Ov1,hr.symm,by grind [RV],λb=>by grind,p1⟩
 simp_all
theorem PX {g2:Gh}{v:AV}{x:Value}{Ov:Nat->Nat}(hp:qO v=true)(hf:jG v=true)(rv:RV g w v x Ov)(hn:∀b,Ov b≠0->∀o,¬g2.pm b o):RV g2 w (nS v) x Ov:=by
 cases v<;>simp only[qO,ao]at hp
 .grind [RV,nS,RD.flat,jG]
 .grind [RV,nS]
 .simp only[jG]at hf;rcases rv with h|⟨b,off,cap,c,el,rfl,hcap,hm,hl,hb,hsz,hrc,hpm,hpp,rfl⟩
  .exact .inl h
  .refine .inr ⟨b,off,cap,c,el,rfl,hcap,hm,hl,hb,hsz,λj d hj=>?_,λo ho=>absurd ho (hn b s_ o),λh=>by simp at h,rfl⟩;obtain⟨u,hu,hr⟩:=hrc j d hj
   grind [RD.flat]
def GE {g2:Gh}{f:AV->AV}{p q:AV->Bool}(hf:∀{v:AV}{x:Value}{Ov:Nat->Nat},p v=true->q v=true->RV g w v x Ov->(∀b,Ov b≠0->∀o,¬g2.pm b o)->RV g2 w (f v) x Ov) :
  ∀{vs:D_}{xs:N_}{Ov:Nat->Nat},vs.all p=true->vs.all q=true->RVs g w vs xs Ov->(∀b,Ov b≠0->∀o,¬g2.pm b o)->RVs g2 w (vs.map f) xs Ov
 |[],xs,Ov,_,_,rv,_=>by grind [RVs]
 |v::vs,xs,Ov,hp,hq,rv,hn=>by
  simp only[ij,af]at hp hq;obtain⟨x,ys,O1,O2,rfl,r1,r2,hs⟩:=rv;exact⟨x,ys,O1,O2,rfl,hf hp.1 hq.1 r1 (λb hb=>hn b u_),GE hf hp.2 hq.2 r2 (λb hb=>hn b u_),hs⟩
def arE (v:AV):(∃cs,v=.agg cs)∨(qo v=nS v∧so v=qO v∧lR v=jG v):=by
 cases v<;>first|exact .inl ⟨_,rfl⟩|exact .inr ⟨rfl,rfl,rfl⟩
def ari (v:AV):(∃cs,v=.tup cs)∨(qr v=qo v∧Ju v=so v∧kb v=lR v):=by
 cases v<;>first|exact .inl ⟨_,rfl⟩|exact .inr ⟨rfl,rfl,rfl⟩
theorem Y6 {g2:Gh}{v:AV}{x:Value}{Ov:Nat->Nat}(hp:so v=true)(hf:lR v=true)(rv:RV g w v x Ov)(hn:∀b,Ov b≠0->∀o,¬g2.pm b o):RV g2 w (qo v) x Ov:=by
 rcases arE v with ⟨cs,rfl⟩|⟨e1,e2,e3⟩
 .obtain⟨xs,e,rr⟩:=rv;exact⟨xs,e,GE PX hp hf rr hn⟩
 grind [PX]
theorem anh {g2:Gh}{v:AV}{x:Value}{Ov:Nat->Nat}(hp:Ju v=true)(hf:kb v=true)(rv:RV g w v x Ov)(hn:∀b,Ov b≠0->∀o,¬g2.pm b o):RV g2 w (qr v) x Ov:=by
 rcases ari v with ⟨cs,rfl⟩|⟨e1,e2,e3⟩
 .obtain⟨xs,e,rr⟩:=rv;exact⟨xs,e,GE Y6 hp hf rr hn⟩
 grind [Y6]
def ads {g2:Gh}{v:AV}{x:Value}{Ov:Nat->Nat}(hp:qO v=true)(rv:RV g w v x Ov)(hn:∀b,Ov b≠0->∀o,¬g2.pm b o):∃Ov',RV g2 w (FC v) x Ov'∧∀b,Ov' b<=Ov b:=by
 unfold FC;split
 .rename_i hf;exact⟨Ov,PX hp hf rv hn,λ_=>ak _⟩
 .split
  .rename_i n hl;refine⟨zero,?_,λ_=>dD _⟩;simp only[RV];refine⟨?_,λ_=>trivial⟩
   cases v with
   |d c =>
    cases c with
    |lst xs =>
     simp only[lenOf,ae]at hl;have rd:=rv.1
     cases rd
     all_goals simp_all
    |_=>simp[lenOf]at hl
   |nl =>
    grind [lenOf,RV]
   |own p m xs =>
    grind [lenOf,RV,DJ]
   |_=>grind [qO]
  .exact⟨zero,by simp[RV,zero],λ_=>dD _⟩
def Ka {g2:Gh}{f:AV->AV}{p:AV->Bool}(hf:∀{v:AV}{x:Value}{Ov:Nat->Nat},p v=true->RV g w v x Ov->(∀b,Ov b≠0->∀o,¬g2.pm b o)->∃Ov',RV g2 w (f v) x Ov'∧∀b,Ov' b<=Ov b) :
  ∀{vs:D_}{xs:N_}{Ov:Nat->Nat},vs.all p=true->RVs g w vs xs Ov->(∀b,Ov b≠0->∀o,¬g2.pm b o)->∃Ov',RVs g2 w (vs.map f) xs Ov'∧∀b,Ov' b<=Ov b
 |[],xs,Ov,_,rv,_=>⟨Ov,by grind [RVs],λ_=>ak _⟩
 |v::vs,xs,Ov,hp,rv,hn=>by
  simp only[ij,af]at hp;obtain⟨x,ys,O1,O2,rfl,r1,r2,hs⟩:=rv;obtain⟨Q1,q1,l1⟩:=hf hp.1 r1 (λb hb=>hn b u_);obtain⟨Q2,q2,l2⟩:=Ka hf hp.2 r2 (λb hb=>hn b u_);exact⟨λb=>Q1 b+Q2 b,⟨x,ys,Q1,Q2,rfl,q1,q2,λ_=>rfl⟩,λb=>by grind⟩
def aeh {g2:Gh}{v:AV}{x:Value}{Ov:Nat->Nat}(hp:so v=true)(rv:RV g w v x Ov)(hn:∀b,Ov b≠0->∀o,¬g2.pm b o):∃Ov',RV g2 w (H7 v) x Ov'∧∀b,Ov' b<=Ov b:=by
 have other:H7 v=FC v->so v=qO v->∃Ov',RV g2 w (H7 v) x Ov'∧∀b,Ov' b<=Ov b:=λe1 e2=>by
  rw[e1];rw[e2]at hp;exact ads hp rv hn
 cases v with
 |agg cs =>
  simp only[RV,H7]at rv⊢;obtain⟨xs,e,rr⟩:=rv;obtain⟨Ov',q,l⟩:=Ka ads hp rr hn
  grind
 |_=>exact other rfl rfl
def aqt {g2:Gh}{v:AV}{x:Value}{Ov:Nat->Nat}(hp:Ju v=true)(rv:RV g w v x Ov)(hn:∀b,Ov b≠0->∀o,¬g2.pm b o):∃Ov',RV g2 w (Cg v) x Ov'∧∀b,Ov' b<=Ov b:=by
 have other:Cg v=H7 v->Ju v=so v->∃Ov',RV g2 w (Cg v) x Ov'∧∀b,Ov' b<=Ov b:=λe1 e2=>by
  rw[e1];rw[e2]at hp;exact aeh hp rv hn
 cases v with
 |tup cs =>
  simp only[RV,Cg]at rv⊢;obtain⟨xs,e,rr⟩:=rv;obtain⟨Ov',q,l⟩:=Ka aeh hp rr hn
  grind
 |_=>exact other rfl rfl
theorem Zb {g2:Gh}(hpm:g2.pm=g.pm){v:AV}{x:Value}{Ov:Nat->Nat}(hp:qO v=true)(rv:RV g w v x Ov):RV g2 w v x Ov:=by
 cases v<;>simp only[qO,ao]at hp
 all_goals simp_all [RV,DJ]
def GJ {g2:Gh}{p:AV->Bool}(hf:∀{v:AV}{x:Value}{Ov:Nat->Nat},p v=true->RV g w v x Ov->RV g2 w v x Ov) :
  ∀{vs:D_}{xs:N_}{Ov:Nat->Nat},vs.all p=true->RVs g w vs xs Ov->RVs g2 w vs xs Ov
 |[],xs,Ov,_,rv=>by grind [RVs]
 |v::vs,xs,Ov,hp,rv=>by
  simp only[ij,af]at hp;obtain⟨x,ys,O1,O2,rfl,r1,r2,hs⟩:=rv;exact⟨x,ys,O1,O2,rfl,hf hp.1 r1,GJ hf hp.2 r2,hs⟩
theorem Y5 {g2:Gh}(hpm:g2.pm=g.pm){v:AV}{x:Value}{Ov:Nat->Nat}(hp:so v=true)(rv:RV g w v x Ov):RV g2 w v x Ov:=by
 rcases arE v with ⟨cs,rfl⟩|⟨e1,e2,e3⟩
 .obtain⟨xs,e,rr⟩:=rv;exact⟨xs,e,GJ (Zb hpm) hp rr⟩
 grind [Zb]
theorem anH {g2:Gh}(hpm:g2.pm=g.pm){v:AV}{x:Value}{Ov:Nat->Nat}(hp:Ju v=true)(rv:RV g w v x Ov):RV g2 w v x Ov:=by
 rcases ari v with ⟨cs,rfl⟩|⟨e1,e2,e3⟩
 .obtain⟨xs,e,rr⟩:=rv;exact⟨xs,e,GJ (Y5 hpm) hp rr⟩
 grind [Y5]
end
section
variable {P:Program}{g:Gh}{w:World}{t:F_}{O:Nat->Nat}{st st':St}{a:AV}{o:Oper}{r:dQ}
def S.extF (s:S P g w st t O){g2:Gh}{w':World}(h:bQ g w g2 w' λ_=>False)(ho:g2.obj=g.obj)(hp:∀b o,g2.pm b o->b<w'.heap.size):S P g2 w' st t O:=by
 obtain⟨Oe,Oh,re,rh,hs⟩:=s.parts;exact⟨s.se,s.sh,⟨Oe,Oh,kY.ext h re s_,rh.imp' λk v O1 _ _ q=>q.ext0 h s_,hs⟩,s.le,
  λb hb=>bc (s.hi b hb) h.size,λid hid=>by rw[ho];grind [fresh],hp⟩
theorem ai1 (u:AV):kb (qr u)=kb u:=by
 have h1:∀v:AV,jG (nS v)=jG v:=λv=>by cases v<;>rfl
 have h2:∀v:AV,lR (qo v)=lR v:=λv=>by
  cases v<;>try rfl
  grind [qo,lR]
 cases u<;>try rfl
 .rename_i cs;exact h2 (.agg cs)
 grind [qr,kb]
def apk {e:aZ}{hs hs0:HS}{O':Nat->Nat}{vs:D_}{v0 v:AV}{x:Value}{w':World}(s':S P g w ⟨e,hs⟩ t O')(hle:∀b,O' b<=O b)
  (hp:im P (g.view w λb=>vs.any rE=true∧O' b≠0) w zero v0 hs0 (.returned x) w')
  (hres:(match iu hs0.heap v0 with|none=>none|some v=>match vs.any rE with|false=>some v|true=>match kb v with|true=>some v|false=>some (Cg v))=some v) :
  ∃g' Oa O1,CV P g w t O ⟨e,hs⟩ v x w' g' Oa O1:=by
 obtain⟨g1,Or,Oh,h1,h2,h3,h4,h5,h6⟩:=hp;have hz:∀b,b<w.heap.size->Or b+Oh b=0:=λb hb=>by simp_all
 split at hres
 .simp_all
 .rename_i v1 hv1;obtain⟨u,Ov',rfl,ru,lu,pu⟩:=anB h2 hv1 h1;have hcell:∀b o,g.pm b o->w'.cell? ⟨b,o,none⟩=w.cell? ⟨b,o,none⟩:=λb o h=>(h3.pm b o (.inl h)).2
  have hblk:∀b,b<w.heap.size->w'.heap[b]?=w.heap[b]?:=λb hb=>(h3.blk b hb s_).1
  have fin:∀(g2:Gh) (Ow:Nat->Nat),(∀b,Ow b<=Ov' b)->bQ g w g2 w' (λ_=>False)->g2.obj=g.obj->(∀b o,g2.pm b o->b<w'.heap.size)->RV g2 w' v x Ow->∃g' Oa O1,CV P g w t O ⟨e,hs⟩ v x w' g' Oa O1:=by
   intro g2 Ow hle2 hx ho hpl hv;have lu:∀b,Ow b<=Or b+Oh b:=λb=>aM (hle2 b) (lu b)
   refine⟨g2,Ow,O',hv,s'.extF hx ho hpl,hx.mono λ_ _ h=>h.elim,λb=>?_,λb hb=>?_,λb hb=>?_⟩
   .by_cases hb:b<w.heap.size
    .have:=hz b hb;have:=lu b;have:=s'.le b;omega
    grind [S.out]
   all_goals grind [S.hi]
  by_cases hf:kb u=true
  .have hb:ji u=qr u:=by simp[ji,hf]
   have hv:v=qr u:=by
    grind [ai1]
   refine fin g Ov' (λ_=>ak _) ⟨λ_ _ h=>⟨h,rfl,rfl,rfl⟩,λb o h=>⟨h,hcell b o h⟩,λb hb _=>⟨hblk b hb,λ_ h=>h⟩,h3.size,h3.lp,h3.same⟩ rfl (λb o h=>bc (s'.pmlt b o h) h3.size) ?_
   grind [anh,S.pmlt]
  .have hb:ji u=u:=by simp[ji,hf]
   cases hnf:vs.any rE with
   |false =>
    have hold:∀b o,(g.view w λb=>vs.any rE=true∧O' b≠0).pm b o->g.pm b o:=λb o h=>h.elim id λh=>by simp_all
    refine fin { g with pm:=g1.pm } Ov' (λ_=>ak _) ⟨λ_ _ h=>⟨h,rfl,rfl,rfl⟩,λb o h=>⟨(h3.pm b o (.inl h)).1,hcell b o h⟩,λb hb _=>⟨hblk b hb,λo h=>hold b o ((h3.blk b hb s_).2 o h)⟩,h3.size,h3.lp,h3.same⟩ rfl
     (λb o h=>h2.pmlt b o h) ?_
    grind [anH]
   |true =>
    obtain⟨Ow,qv,lw⟩:=aqt (g2:=g) pu ru λb hb o hpm=>by
     grind [S.pmlt]
    refine fin g Ow lw ⟨λ_ _ h=>⟨h,rfl,rfl,rfl⟩,λb o h=>⟨h,hcell b o h⟩,λb hb _=>⟨hblk b hb,λ_ h=>h⟩,h3.size,h3.lp,h3.same⟩ rfl (λb o h=>bc (s'.pmlt b o h) h3.size) ?_
    simp_all
def ayz {ro:I_}{f:FuncId}{args:U_}(hr:jp P r)(s:S P g w st t O)(h:F3 r f args st=some (a,st'))(hc:bG P (.call f args) o.op=true) :
  OpW ro P g w t O st' a o:=by
 obtain⟨dst,op,ty,pos,aft,gd⟩:=o;simp only[bG]at hc;split at hc
 .rename_i c;simp only[af]at hc;obtain⟨h1,h2⟩:=hc;obtain⟨callee,as,ats⟩:=c;have:=Li h1;subst this;unfold F3 at h;split at h
  .rename_i vs e hrd;split at h
   .rename_i v hcall;obtain⟨Ov,O',rvs,s',l⟩:=s.rdAll h2 hrd;unfold fw at hcall;split at hcall
    .simp_all
    .rename_i ds hds;split at hcall
     .simp_all
     .rename_i v0 hs0 hc0;obtain⟨hfn,hk⟩:=hr hc0;have rvc:=S5 (st:=⟨e,st.hs⟩) (K:=λb=>vs.any rE=true∧O' b≠0) s' hds (λh b hb=>⟨h,hb⟩) rvs;have hk:=hk rvc (aAn s' _) (λb=>by simp) (λb hb=>by simp at hb);intro ds' next Q hn
      have hrun:(execOp (ev t) ⟨dst,.call ⟨.value (.func f),as,ats⟩,ty,pos,aft,gd⟩).run P w=.ok (.enter f (as.toList.map (ev t)).toArray) w:=by
       simp only[execOp,resolve,aT,ev,Deferred.ofValue,dO,bw,invoke];rw[xt hfn]
       congr 2
       grind
      rw[hrun,Oper.uponIn_enter];refine⟨λh=>by grind [Fence.wide],OB (hk.mono λen w' hp=>?_)⟩
      cases en with
      |returned x =>
       obtain⟨g',Oa,O1,k⟩:=apk (O:=O) (vs:=vs) s' (λb=>by grind) hp hcall
       grind
      |panicked c=>exact hp.elim
      |outgrown=>exact hp.elim
   simp_all
  simp_all
 simp_all
end
abbrev aW:=@List.mem_append
def F5:cJ->Exit
 |.normal=>.normal
 |.exit i=>.exit i
 |.goto l=>.goto l
 |.ret=>.ret
def ko (w:World)(O:Nat->Nat)(lo:Nat):List Deferred->Prop
 |[]=>True
 |d::ds=>(∃r,d.target=.collected r∧lo<=r∧w.heap[r]?=some (.deferred (some []))∧O r=0∧∀d'∈ds,∀r',d'.target=.collected r'->r'<r)∧ko w O lo ds
def Eh (w:World)(ro:I_):Prop:=∀l,ro=some l->∃rc:Go.Loop,w.heap[l]?=some (.loop rc)
def cD (P:Program)(g:Gh)(w:World)(t:F_)(O:Nat->Nat)(ds:List Deferred)(ro:I_)(o:cJ)(st':St)(e:Exit)(a':Act)(w':World):Prop :=
 e=F5 o∧∃g' O' ms,ip P g w t O st' a'.tmps w' g' O'∧a'.defers=ms++ds∧ko w' O' w.heap.size ms∧(ro.isSome=true->ms=[])
section
variable {P:Program}{g:Gh}{w:World}{t:F_}{O:Nat->Nat}{st st':St}{a:AV}{o:Oper}{r:dQ}
def Eh.ext {ro:I_}(h:Eh w ro){g g':Gh}{w':World}{T:Nat->Prop}(hx:bQ g w g' w' T):Eh w' ro:=λl hl=>let ⟨rc,hrc⟩:=h l hl;hx.lp l rc hrc
def ko.after {lo:Nat}{g1 g2:Gh}{w1 w2:World}{O1 O2:Nat->Nat}(hx:bQ g1 w1 g2 w2 λb=>O1 b≠0)(ho:∀b,b<w1.heap.size->O2 b<=O1 b) :
  ∀{ms:List Deferred},ko w1 O1 lo ms->ko w2 O2 lo ms
 |[],_=>trivial
 |d::ds,⟨⟨r,h1,h2,h3,h4,h5⟩,h6⟩=>by
  exact⟨⟨r,h1,h2,by grind [bQ.blk],d_,h5⟩,ko.after hx ho h6⟩
def ko.lt {lo:Nat}:∀{ms:List Deferred},ko w O lo ms->∀d∈ms,∀r,d.target=.collected r->r<w.heap.size
 |[],_,d,hd,_,_=>by simp at hd
 |m::ms,⟨⟨r,h1,h2,h3,h4,h5⟩,h6⟩,d,hd,r',hr=>by
  grind
def ko.append {lo1 lo2:Nat}(hlo:lo1<=lo2){ms1:List Deferred}(h1:ko w O lo1 ms1)(hlt:∀d∈ms1,∀r,d.target=.collected r->r<lo2) :
  ∀{ms2:List Deferred},ko w O lo2 ms2->ko w O lo1 (ms2++ms1)
 |[],_=>h1
 |d::ds,⟨⟨r,k1,k2,k3,k4,k5⟩,k6⟩=>by
  refine⟨⟨r,k1,aM hlo k2,k3,k4,λd' hd' r' hr'=>?_⟩,ko.append hlo h1 hlt k6⟩;rcases aW.1 hd' with h|h<;>grind
def cD.comp {ds ms1:List Deferred}{ro:I_}{st1 st2:St}{t1:F_}{w1:World}{g1:Gh}{O1:Nat->Nat}(G:ip P g w t O st1 t1 w1 g1 O1)(hm:ko w1 O1 w.heap.size ms1)
  (hro:ro.isSome=true->ms1=[]){out:cJ}{e:Exit}{a2:Act}{w2:World}(h:cD P g1 w1 t1 O1 (ms1++ds) ro out st2 e a2 w2):cD P g w t O ds ro out st2 e a2 w2:=by
 obtain⟨he,g2,O2,ms2,G2,hd,hm2,hr2⟩:=h;refine⟨he,g2,O2,ms2++ms1,G.trans G2,u_,?_,λh=>by simp_all⟩;exact ko.append G.ext.size (hm.after G2.ext G2.old) (λd hd r hr=>hm.lt d hd r hr) hm2
def jF (P:Program)(r:dQ):Prop :=
 ∀{v:VC}{st:St}{o:cJ}{st':St},r.code v st=some (o,st')->∀{c:Code}{n:Nat},Mt P n v c->∀{g:Gh}{w:World}{t:F_}{O:Nat->Nat},t.size=n->S P g w st t O->
  ∀(ro:I_) (ds:List Deferred),Eh w ro->c.wpIn (FR ro) 0 P (cD P g w t O ds ro o st') ⟨t,ds⟩ w
def bQ.loopBlk {b:Nat}{rc rc':Go.Loop}(hb:w.heap[b]?=some (.loop rc)):bQ g w g (Vm.setBlk w b (.loop rc')) λx=>x=b where
 obj _ _ h:=⟨h,rfl,rfl,rfl⟩
 pm b' o h:=⟨h,by
  grind [World.cell?,fE,iN]⟩
 blk b' _ h:=⟨iN h,λ_ h=>h⟩
 size:=s_
 lp b' r h:=by
  grind [fE,iN]
 same:=⟨rfl,rfl,Aw hb (by grind [ie]) (by grind [ie])⟩
def S.storeG {st:St}(s:S P g w st t O){id:Nat}{ob:Obj}(hg:get st.hs.heap id=some ob) :
  ∃O1 Oz:Nat->Nat,kA P g w id ob O1∧(∀b,O1 b+Oz b<=O b)∧∀(w':World) (b:Nat) (ob':Obj) (O1':Nat->Nat),
   1<=O1 b->bQ g w g w' (λx=>x=b)->kA P g w' id ob' O1'->(∀x,O1' x+Oz x<=1)->(∀x,O1' x≠0->x<w'.heap.size)->
   S P g w' ⟨st.env,⟨put st.hs.heap id ob',st.hs.next⟩⟩ t (λx=>O1' x+Oz x):=by
 obtain⟨Oe,Oh,re,rh,ho⟩:=s.parts;obtain⟨O1,O2,q,r2,hs⟩:=RL.take rh hg;refine⟨O1,λb=>Oe b+O2 b,q,λb=>by grind,λw' b ob' O1' h1 hx q' hle hhi=>?_⟩;have hone:O b<=1:=s.le b;have hfree:Oe b=0∧O2 b=0:=d_;have re':=kY.ext hx re (λy hy e=>by simp_all);have r2':CY P g w' (del st.hs.heap id) O2:=r2.imp' λk v Q _ hQ q=>q.ext0 hx (λy hy e=>by grind)
 obtain⟨O3,r3,h3⟩:=RL.put s.sh r2' q';refine⟨s.se,s.sh.put _ _,⟨Oe,O3,re',r3,λx=>by grind⟩,hle,λx hx0=>?_,s.fresh,
  λb o hp=>bc (s.pmlt b o hp) hx.size⟩
 by_cases h:O1' x=0
 .refine bc (s.hi x ?_) hx.size
  grind
 simp_all
def S.setLoop {st:St}(s:S P g w st t O){id:Nat}{snap:aZ}{ps:C_}{as bd:VC}{busy:Bool}{pend:BH_}(hg:get st.hs.heap id=some (.loop snap ps as bd busy pend)) :
  ∃b rc,g.obj id=some b∧w.heap[b]?=some (.loop rc)∧rc.state=(if busy then .busy else if pend.isNone then .ready else .done)∧rc.pending=pend.bind ng∧rc.params=ps.toArray∧
   Mt P rc.tmps.size as rc.assign∧Mt P rc.tmps.size bd rc.body∧cX snap∧kY g w snap rc.tmps zero∧(∀p∈ps,p<rc.tmps.size)∧
   ∀(busy':Bool) (pend':BH_) (rc':Go.Loop),rc'={ rc with state:=(if busy' then .busy else if pend'.isNone then .ready else .done),pending:=pend'.bind ng }->
    ∃O',ip P g w t O ⟨st.env,⟨put st.hs.heap id (.loop snap ps as bd busy' pend'),st.hs.next⟩⟩ t (Vm.setBlk w b (.loop rc')) g O':=by
 obtain⟨O1,Oz,q,hsum,hst⟩:=s.storeG hg;obtain⟨b,rc,h1,h2,h3,h4,h5,h6,h7,h8,h9,h10,h11⟩:=q;refine⟨b,rc,h1,h2,h3,h4,h5,h6,h7,h8,h9,h10,λbusy' pend' rc' e=>?_⟩;have hx:bQ g w g (Vm.setBlk w b (.loop rc')) λx=>x=b:=bQ.loopBlk h2
 have hO1:O1 b=1:=u_;refine⟨_,hst (Vm.setBlk w b (.loop rc')) b (.loop snap ps as bd busy' pend') O1 o_ hx ?_ (λx=>by have:=hsum x;have:=s.le x;omega) (λx hx0=>?_),hx.mono (λx _ e=>by grind),λx _=>hsum x,rfl⟩
 .subst e;exact⟨b,_,h1,fE (jV h2),rfl,rfl,h5,h6,h7,h8,kY.ext hx h9 s_,h10,h11⟩
 grind [wV,L9]
end
section
variable {P:Program}{g:Gh}{w:World}{t:F_}{O:Nat->Nat}{st st':St}{a:AV}{o:Oper}{r:dQ}
def aaW:∀{ps:C_}{vs:D_}{e e':aZ}{hs:HS}{t:F_}{O:Nat->Nat},xe e ps vs=some e'->S P g w ⟨e,hs⟩ t O->∀{xs:N_}{Ov:Nat->Nat},RVs g w vs xs Ov->
  (∀p∈ps,p<t.size)->(∀b,Ov b+O b<=1)->(∀b,Ov b≠0->b<w.heap.size)->
  ∃O',S P g w ⟨e',hs⟩ ((ps.zip xs).foldl (fun(t:F_) (q:Nat×Value)=>t.setIfInBounds q.1 q.2) t) O'∧(∀b,O' b<=Ov b+O b)∧xs.length=ps.length∧
   ((ps.zip xs).foldl (fun(t:F_) (q:Nat×Value)=>t.setIfInBounds q.1 q.2) t).size=t.size
 |[],[],e,e',hs,t,O,h,s,xs,Ov,rv,hp,hle,hhi=>by
  simp only[xe,ae]at h;obtain⟨rfl,_⟩:=rv;exact⟨O,u_,λb=>by omega,rfl,rfl⟩
 |p::ps,v::vs,e,e',hs,t,O,h,s,xs,Ov,rv,hp,hle,hhi=>by
  simp only[xe]at h;obtain⟨x,ys,O1,O2,rfl,r1,r2,hs2⟩:=rv;obtain⟨O3,s3,l3⟩:=s.setTmp (hp p (.head _)) r1 (λb=>by grind) (λb hb=>hhi b u_);obtain⟨O4,s4,l4,hl,hsz⟩:=aaW h s3 r2 (λq hq=>by simp_all) (λb=>by grind) (λb hb=>hhi b u_);exact⟨O4,u_,λb=>by grind,by simp[hl],u_⟩
 |[],_::_,_,_,_,_,_,h,_,_,_,_,_,_,_=>by simp[xe]at h
 |_::_,[],_,_,_,_,_,h,_,_,_,_,_,_,_=>by simp[xe]at h
def zU {b:Nat}{rc:Go.Loop}(h:w.heap[b]?=some (.loop rc)):(Instr.getLoop b).run P w=.ok rc w:=by
 simp_all [Instr.getLoop,getObj,Sem.run]
def LY {b:Nat}{rc rc':Go.Loop}(h:w.heap[b]?=some (.loop rc)):(setObj b (.loop rc')).run P w=.ok () (setBlk w b (.loop rc')):=by
 grind [setObj,Sem.run,setBlk]
def arp (hc:jF P r){l:Nat}{args:D_}{hs hs':HS}{v:AV}(h:vF r l args hs=some (v,hs')){xs:N_}{Oa Oh:Nat->Nat}(rvs:RVs g w args xs Oa)
  (sh:S P g w ⟨[],hs⟩ #[] Oh)(hle:∀b,Oa b+Oh b<=1)(hhi:∀b,Oa b≠0->b<w.heap.size)(ro:I_) :
  ∃b,∃rc:Go.Loop,∃tm,g.obj l=some b∧(Instr.yield b xs.toArray).run P w=.ok (.round b rc.fn tm rc.assign rc.body) w∧
   RoundIn (FR ro) 0 P b rc.fn tm rc.assign rc.body w (im P g w (λb=>Oa b+Oh b) v hs'):=by
 unfold vF at h;split at h
 .rename_i snap ps as bd hg;split at h
  .simp at h
  .rename_i e hput;split at h
   .rename_i st1 hass;split at h
    .rename_i snap1 ps1 as1 bd1 hg1;split at h
     .simp at h
     .rename_i o st2 hbd;split at h
      .rename_i snap2 ps2 as2 bd2 hg2;obtain⟨b,rc,h1,h2,h3,h4,h5,h6,h7,h8,h9,h10,_⟩:=sh.setLoop (st:=⟨[],hs⟩) hg;have s0:S P g w ⟨snap,hs⟩ rc.tmps λb=>zero b+Oh b:=S.join h8 h9 sh (λb=>by grind) (λb hb=>by simp at hb)
       obtain⟨O1,s1,l1,hlen,hsz⟩:=aaW hput s0 rvs h10 (λb=>by simp_all) hhi;refine⟨b,rc,_,h1,?_,roundIn_of_wpIn (F:=FR ro) (tmps:=(ps.zip xs).foldl (fun(t:F_) (q:Nat×Value)=>t.setIfInBounds q.1 q.2) rc.tmps) trivial ?_⟩
       .simp_all [Instr.yield,zU]
       .refine wpIn_mono (hc hass h6 hsz s1 (some b) [] (λl hl=>by simp_all)) λen a1 w1 hp=>?_
        obtain⟨rfl,g1,O1',ms,G1,hd1,_,hms⟩:=hp;have hms:=hms rfl;subst hms;obtain⟨t1,d1⟩:=a1;subst hd1;obtain⟨b1,rc1,k1,k2,k3,k4,k5,k6,k7,k8,k9,k10,kset⟩:=G1.st.setLoop hg1;have hb1:b1=b:=by have:=(G1.ext.obj l b h1).1;simp_all
        subst hb1;obtain⟨O2,G2⟩:=kset true none { rc1 with state:=.busy } (by simp[k4]);refine⟨setBlk w1 b1 (.loop { rc1 with state:=.busy }),?_,?_⟩
        .simp_all [Instr.beginRound,zU,LY]
        .have hsz1:t1.size=rc.tmps.size:=by rw[G1.size,hsz]
         refine wpIn_mono (hc hbd h7 hsz1 G2.st (some b1) [] (λl hl=>by grind [fE])) λen2 a2 w3 hp2=>?_
         obtain⟨rfl,g2,O3,ms2,G3,_,_,_⟩:=hp2;obtain⟨b2,rc2,m1,m2,m3,m4,m5,m6,m7,m8,m9,m10,mset⟩:=G3.st.setLoop hg2;have hb2:b2=b1:=by have:=(G3.ext.obj l b1 k1).1;simp_all
         subst hb2;have fin:∀(pend:BH_),(v,hs')=(.bool pend.isNone,⟨put st2.hs.heap l (.loop snap2 ps2 as2 bd2 false pend),st2.hs.next⟩)->pend.bind ng=ng o->(pend.bind ng).isNone=pend.isNone->
           ∃(vv:Value) (w':World),(Instr.endRound b2 (ng o)).run P w3=.ok vv w'∧im P g w (λb=>Oa b+Oh b) v hs' (.returned vv) w':=by
          intro pend hv hpo hpn;obtain⟨rfl,rfl⟩:=hv;obtain⟨O4,G4⟩:=mset false pend { rc2 with state:=(if (ng o).isNone then .ready else .done),pending:=ng o } u_;refine⟨.bool (ng o).isNone,setBlk w3 b2 (.loop { rc2 with state:=(if (ng o).isNone then .ready else .done),pending:=ng o }),?_,?_⟩
          .simp_all [Instr.endRound,zU,LY]
          .have G:=((G1.trans G2).trans G3).trans G4;obtain⟨Oe4,Oh4,re4,sh4,ho4⟩:=G.st.split;refine⟨g2,zero,Oh4,?_,sh4,G.ext.mono (λb _ hb=>by grind),λb=>by have:=G.st.le b;grind,λb hb=>?_,λb hb=>by simp at hb⟩
           all_goals grind [H8,ip.old]
         cases o with
         |normal =>
          simp only[ae]at h;exact fin none h.symm rfl rfl
         |exit i =>
          simp only[ae]at h;exact fin (some (.exit i)) h.symm rfl rfl
         |goto i =>
          simp only[ae]at h;exact fin (some (.goto i)) h.symm rfl rfl
         |ret =>
          simp only[ae]at h;exact fin (some .ret) h.symm rfl rfl
      simp_all
    simp_all
   simp_all
 simp_all
end
section
variable {P:Program}{g:Gh}{w:World}{t:F_}{O:Nat->Nat}{st st':St}{a:AV}{o:Oper}{r:dQ}
def asX {ro:I_}{f:Rd}{args:U_}(hr:jp P r)(hcs:jF P r)(s:S P g w st t O)(h:EH r f args st=some (a,st'))(hc:bG P (.callv f args) o.op=true) :
  OpW ro P g w t O st' a o:=by
 obtain⟨dst,op,ty,pos,aft,gd⟩:=o;simp only[bG]at hc;split at hc
 .rename_i c;simp only[af]at hc;obtain⟨h1,h2⟩:=hc;obtain⟨callee,as,ats⟩:=c;simp only at h1 h2;split at h1
  .rename_i fx;unfold EH at h;split at h
   .rename_i fv e1 hf;split at h
    .rename_i vs e hrd;split at h
     .rename_i v hs' hcall;obtain⟨rfl,rfl⟩:=h;obtain⟨Of,O1,rf,s1,l1⟩:=s.rd h1 hf;obtain⟨Ov,O',rvs,s',l⟩:=s1.rdAll (st:=⟨e1,st.hs⟩) h2 hrd;obtain⟨Oe,Oh,re,sh,ho⟩:=s'.split;have hle:∀b,Ov b+(Oe b+Oh b)<=O b:=λb=>by grind
      have hle1:∀b,Ov b+Oh b<=1:=λb=>by have:=hle b;have:=s.le b;omega
      have hhi:∀b,Ov b≠0->b<w.heap.size:=λb hb=>s.hi b (by grind)
      unfold cA at hcall;split at hcall
      .rename_i gf first caps
       obtain⟨hfn,hk⟩:=hr hcall;obtain⟨⟨xs,ys,hev,r1,r2⟩,_⟩:=rf;have hrv:RVs g w (first++(vs++caps)) (xs.toList++(as.toList.map (ev t)++ys.toList)) (λb=>zero b+(Ov b+zero b)):=r1.join (rvs.join r2);have hO:(λb=>zero b+(Ov b+zero b))=Ov:=u_;rw[hO]at hrv;have hk:=hk hrv sh hle1 hhi;refine VM (hs:=st.hs) s'.se re hle s ?_ hk
       simp_all [execOp,resolve,Deferred.ofValue,invoke,xt]
      .obtain⟨⟨b0,hb0,hev⟩,_⟩:=rf;obtain⟨b,rc,tm,hb,hy,hround⟩:=arp hcs hcall rvs sh hle1 hhi ro;rw[hb0]at hb;simp only[ae]at hb;subst hb;intro ds next Q hn
       have hrun:(execOp (ev t) ⟨dst,.call ⟨.value fx,as,ats⟩,ty,pos,aft,gd⟩).run P w=.ok (.round b0 rc.fn tm rc.assign rc.body) w:=by
        simp only[execOp,resolve,aT,hev,Deferred.ofValue,dO,bw,invoke];rw[<-hy]
        congr 2
        grind
       rw[hrun,Oper.uponIn_round];refine⟨λh=>by grind [Fence.wide],hround.mono λen w' hp=>?_⟩
       cases en with
       |returned x =>
        obtain⟨g',Oa,O',k⟩:=HU (hs:=st.hs) s'.se re hle s hp
        grind
       |panicked c=>exact hp.elim
       |outgrown=>exact hp.elim
      simp_all
     simp_all
    simp_all
   simp_all
  simp_all
 simp_all
def ahN {t:F_}:∀{e:aZ}{O:Nat->Nat},kY g w e t O->kY g w (e.map λkv=>(kv.1,share kv.2)) t zero
 |[],_,_=>λ_=>rfl
 |(k,v)::e,O,r=>by
  obtain⟨O1,O2,⟨q1,q2⟩,rr,_⟩:=r;exact⟨zero,zero,⟨q1,RV.share _ _ _ q2⟩,ahN rr,λ_=>rfl⟩
def avq {e:aZ}(h:cX e):cX (e.map λkv=>(kv.1,share kv.2)):=by
 grind [cX]
def aeO {ro:I_}(hro:Eh w ro)(fn:FuncId)(ps:Array Nat)(as bd:Code) :
  ∃(w1:World) (mark:List Deferred) (rc:Go.Loop),(Instr.enterLoop fn t ps as bd ro).run P w=.ok (w1.heap.size,mark) (w1.alloc (.loop rc))∧
   rc.state=.ready∧rc.pending=none∧rc.params=ps∧rc.assign=as∧rc.body=bd∧rc.tmps=t∧
   ((∃l,ro=some l∧w1=w∧mark=[])∨(ro=none∧w1=w.alloc (.deferred (some []))∧mark=[{ target:=.collected w.heap.size,args:=#[] }])):=by
 cases ro with
 |some l =>
  obtain⟨rc0,h0⟩:=hro l rfl;refine⟨w,[],{ state:=.ready,pending:=none,fn,tmps:=t,params:=ps,assign:=as,body:=bd,defers:=rc0.defers },?_,rfl,rfl,rfl,rfl,rfl,rfl,.inl ⟨l,rfl,rfl,rfl⟩⟩
  simp_all [Instr.enterLoop,zU]
 |none =>
  refine⟨w.alloc (.deferred (some [])),_,{ state:=.ready,pending:=none,fn,tmps:=t,params:=ps,assign:=as,body:=bd,defers:=w.heap.size },?_,rfl,rfl,rfl,rfl,rfl,rfl,.inr ⟨rfl,rfl,rfl⟩⟩;simp[Instr.enterLoop]
end
section
variable {P:Program}{g:Gh}{w:World}{t:F_}{O:Nat->Nat}{st st':St}{a:AV}{o:cJ}{r:dQ}
def S.otherG {w':World}{b:Nat}(s:S P g w st t O)(hx:bQ g w g w' λx=>x=b)(hO:O b=0):S P g w' st t O:=by
 obtain⟨Oe,Oh,re,rh,ho⟩:=s.parts;have re':=kY.ext hx re (λy hy e=>by simp_all);have rh':CY P g w' st.hs.heap Oh:=rh.imp' λk v Q _ hQ q=>q.ext0 hx (λy hy e=>by grind)
 exact⟨s.se,s.sh,⟨Oe,Oh,re',rh',ho⟩,s.le,λb hb=>bc (s.hi b hb) hx.size,s.fresh,λb o h=>bc (s.pmlt b o h) hx.size⟩
def S.endLoop {e:aZ}{hs:HS}(s:S P g w ⟨e,hs⟩ t O){id:Nat}{snap:aZ}{ps:C_}{as bd:VC}{pend:BH_}(hg:get hs.heap id=some (.loop snap ps as bd false pend)){b:Nat}(hob:g.obj id=some b) :
  ∃w' O',(Instr.endLoop b).run P w=.ok (pend.bind ng) w'∧S P g w' ⟨e,⟨del hs.heap id,hs.next⟩⟩ t O'∧bQ g w g w' (λx=>x=b)∧∀x,O' x<=O x:=by
 obtain⟨Oe,Oh,re,rh,ho⟩:=s.parts;obtain⟨O1,O2,q,r2,hs2⟩:=RL.take rh hg;obtain⟨b',rc,h1,h2,h3,h4,h5,h6,h7,h8,h9,h10,h11⟩:=q;rw[hob]at h1;simp only[ae]at h1;subst h1;have hle2:∀x,Oe x+O2 x<=O x:=λx=>by grind
 have s2:S P g w ⟨e,⟨del hs.heap id,hs.next⟩⟩ t (λx=>Oe x+O2 x) :=
  ⟨s.se,s.sh.del id,⟨Oe,O2,re,r2,λ_=>rfl⟩,λx=>aM (hle2 x) (s.le x),λx hx=>s.hi x d_,s.fresh,s.pmlt⟩
 have hx:bQ g w g (setBlk w b (.loop { rc with state:=.exhausted })) λx=>x=b:=bQ.loopBlk h2
 refine⟨setBlk w b (.loop { rc with state:=.exhausted }),_,?_,s2.otherG hx ?_,hx,hle2⟩
 .have hb:(rc.state == LoopState.busy)=false:=by
   grind
  simp_all [Instr.endLoop,zU,LY]
 .have:=h11 b;rw[AT]at this;have:=hs2 b;have:=ho b;have:=s.le b;omega
def aka (hr:jp P r){f:Rd}{x:Operand}{ps:C_}{as bd:VC}{c d:Code}(h:EX r f ps as bd st=some (o,st'))(hf:cR f x=true)
  (hps:∀p∈ps,p<t.size)(ha:Mt P t.size as c)(hb:Mt P t.size bd d)(s:S P g w st t O)(ro:I_)(ds:List Deferred)(hro:Eh w ro) :
  (Code.rangeFunc x ps.toArray c d).wpIn (FR ro) 0 P (cD P g w t O ds ro o st') ⟨t,ds⟩ w:=by
 unfold EX at h;split at h
 .rename_i gf first caps e hrd
  split at h
  .rename_i v hs hcall;split at h
   .rename_i snap2 ps2 as2 bd2 pend hget;obtain⟨Of,O1,rf,s1,l1⟩:=s.rd hf hrd;simp only[RV]at rf;obtain⟨⟨xs,ys,hev,r1,r2⟩,_⟩:=rf;have l1':∀b,O1 b<=O b:=λb=>by simp_all
    refine wpIn_rangeFunc λfn hF=>?_
    obtain⟨w1,mark,rc,hen,e1,e2,e3,e4,e5,e6,hmark⟩:=aeO (P:=P) (t:=t) hro fn ps.toArray c d;have hx1:bQ g w g w1 λ_=>False:=by
     rcases hmark with ⟨_,_,rfl,_⟩|⟨_,rfl,_⟩
     .exact .refl _ _ _
     .exact bQ.alloc s.pmlt _ _
    have sw1:S P g w1 ⟨e,st.hs⟩ t O1:=s1.extF hx1 rfl λb o h=>bc (s.pmlt b o h) hx1.size
    have hfresh:=sw1.fresh st.hs.next (ak _)
    have hx0:bQ g w1 (g.add st.hs.next w1.heap.size 0 0 0) (w1.alloc (.loop rc)) λ_=>False:=(bQ.alloc sw1.pmlt _ _).add hfresh _ _ _ _
    obtain⟨Oe1,Oh1,re1,rh1,ho1⟩:=sw1.parts;have hobj:(g.add st.hs.next w1.heap.size 0 0 0).obj st.hs.next=some w1.heap.size:=by simp[Gh.add]
    have hO1out:O1 w1.heap.size=0:=sw1.out (ak _);have hnew:=sw1.new (blk:=.loop rc) (o:=.loop (e.map λkv=>(kv.1,share kv.2)) ps as bd false none) (base:=0) (esz:=0) (bsz:=0) (O1:=one w1.heap.size) (by
     simp only[kA];refine⟨w1.heap.size,rc,hobj,ke _ _,e1,e2,e3,u_,u_,avq sw1.se,?_,u_,λ_=>rfl⟩;rw[e6];exact kY.ext hx0 (ahN re1) s_) (λb=>by
      by_cases hb:b=w1.heap.size
      .simp_all
      .have:=sw1.le b;grind [one]) (λb hb=>by grind [wV])
    obtain⟨s2,hx2⟩:=hnew;obtain⟨Oe,Oh,re,sh,ho⟩:=s2.split;obtain⟨hfn,hk⟩:=hr hcall;have hxa:=hx1.trans hx0 λ_ _ h=>h
    have r1':=RVs.ext hxa _ _ _ r1 s_;have r2':=RVs.ext hxa _ _ _ r2 s_;have ry:RVs (g.add st.hs.next w1.heap.size 0 0 0) (w1.alloc (.loop rc)) [.yield st.hs.next] [.func (.yield w1.heap.size) #[] #[]] zero:=by
     simp only[RVs,RV];exact⟨_,[],zero,zero,rfl,⟨⟨w1.heap.size,hobj,rfl⟩,λ_=>rfl⟩,⟨rfl,λ_=>rfl⟩,λ_=>rfl⟩
    have hrv:RVs (g.add st.hs.next w1.heap.size 0 0 0) (w1.alloc (.loop rc)) (first++([.yield st.hs.next]++caps)) (xs.toList++([.func (.yield w1.heap.size) #[] #[]]++ys.toList)) zero:=by
     have:=r1'.join (ry.join r2');omega
    have hle:∀b,zero b+Oh b<=1:=λb=>by have:=s2.le b;grind
    have hk:=hk hrv sh hle (λb hb=>by simp at hb);generalize hargs:(xs.toList++([Value.func (.yield w1.heap.size) #[] #[]]++ys.toList)).toArray=args at hk;refine⟨w1.heap.size,mark,w1.alloc (.loop rc),{ target:=.fn (.func gf) ys,args:=xs++#[.func (.yield w1.heap.size) #[] #[]] },w1.alloc (.loop rc),gf,
     args,w1.alloc (.loop rc),hen,?_,λ_ _=>trivial,?_,λh=>by grind [Fence.wide],OB (hk.mono λen w3 hp=>?_)⟩
    .have hevx:(⟨t,ds⟩:Act).eval x=.func (.func gf) xs ys:=by simp_all [Id]
     have hconst:∀u:Value,(⟨t,ds⟩:Act).eval (.const u)=u:=λ_=>rfl
     simp_all [resolve,Deferred.ofValue]
    .simp only[invoke];rw[xt hfn,<-hargs]
     congr 2
     grind
    .cases en with
     |panicked _=>exact hp.elim
     |outgrown=>exact hp.elim
     |returned y =>
      obtain⟨g2,Oa,O3,k⟩:=HU (hs:=hs) (Ov:=zero) s2.se re (λb=>by simp_all) s2 hp;have hob2:g2.obj st.hs.next=some w1.heap.size:=(k.ext.obj _ _ hobj).1;obtain⟨w4,O4,hend,s4,hx4,l4⟩:=k.st.endLoop hget hob2;have hlo:w.heap.size<=w1.heap.size:=hx1.size;have G:ip P g w t O ⟨e,⟨del hs.heap st.hs.next,hs.next⟩⟩ t w4 g2 O4:=by
       refine⟨s4,(((hxa.mono (T:=λb=>O b≠0) λ_ _ h=>h.elim).trans k.ext λb hb hq=>?_).trans hx4 λb hb hq=>?_),λb hb=>?_,rfl⟩
       .grind [one]
       .omega
       .have hb2:b<(w1.alloc (.loop rc)).heap.size:=bc hb hxa.size
        grind [one,CV.old]
      have hM:ko w4 O4 w.heap.size mark∧(ro.isSome=true->mark=[]):=by
       rcases hmark with ⟨_,hl,_,rfl⟩|⟨hn,rfl,rfl⟩
       .exact⟨trivial,λ_=>rfl⟩
       .refine⟨⟨⟨w.heap.size,rfl,ak _,?_,?_,λd hd=>by simp at hd⟩,trivial⟩,λh=>by simp_all⟩
        .have hne:w.heap.size≠(w.alloc (.deferred (some []))).heap.size:=s_;have hlt:w.heap.size<((w.alloc (.deferred (some []))).alloc (.loop rc)).heap.size:=by simp;omega
         have hO1z:O1 w.heap.size=0:=s1.out (ak _);have hoz:one (w.alloc (.deferred (some []))).heap.size w.heap.size=0:=by simp[one]
         rw[(hx4.blk _ (bc hlt k.ext.size) (λh=>hne h)).1,(k.ext.blk _ hlt (λh=>by
          omega)).1,ta s_,ke]
        .have hlt:w.heap.size<((w.alloc (.deferred (some []))).alloc (.loop rc)).heap.size:=by simp;omega
         have hO1z:O1 w.heap.size=0:=s1.out (ak _);have hoz:one (w.alloc (.deferred (some []))).heap.size w.heap.size=0:=by simp[one]
         grind [CV.old]
      have post:∀out st'',st''=⟨e,⟨del hs.heap st.hs.next,hs.next⟩⟩->cD P g w t O ds ro out st'' (F5 out) { tmps:=t,defers:=mark++ds } w4:=by
       rintro out _ rfl
       exact⟨rfl,g2,O4,mark,G,rfl,hM.1,hM.2⟩
      refine⟨pend.bind ng,w4,hend,?_⟩
      cases pend with
      |none =>
       obtain⟨rfl,rfl⟩:=h;exact post .normal _ rfl
      |some out =>
       simp only[ae,aR]at h;obtain⟨rfl,rfl⟩:=h
       cases out with
       |normal=>exact post .normal _ rfl
       |exit i=>exact wpIn_exit (post (.exit i) _ rfl)
       |goto i=>exact wpIn_goto (post (.goto i) _ rfl)
       |ret=>exact wpIn_ret (post .ret _ rfl)
   simp_all
  simp_all
 simp_all
end
abbrev rq:=@Option.isNone_iff_eq_none
section
variable {P:Program}{g:Gh}{w:World}{t:F_}{O:Nat->Nat}{st st':St}{a:AV}{o:Oper}{r:dQ}
def azG {ro:I_}(hr:jp P r)(hcs:jF P r){v:pk}(s:S P g w st t O)(h:dn v r st=some (a,st'))(hc:bG P v o.op=true):OpW ro P g w t O st' a o:=by
 cases v with
 |mov x=>exact(azC s h hc).opW
 |pick c x y=>exact(axy s h hc).opW
 |alloc zs=>exact(auz s h hc).opW
 |box x=>exact(az0 s h hc).opW
 |build zs ps=>exact(avf s h hc).opW
 |mks m ps=>exact(aBk s h hc).opW
 |mksv m ps=>exact(axA s h hc).opW
 |ld n k p=>exact(aCK s h hc).opW
 |st n p x=>exact(aDO s h hc).opW
 |nilck x=>exact(atP s h hc).opW
 |bin op x y=>exact(aBg s h hc).opW
 |binb neg x y=>exact(ayu s h hc).opW
 |bina neg ks x y=>exact(axw s h hc).opW
 |un op x=>exact(aC9 s h hc).opW
 |conv k x=>exact(awT s h hc).opW
 |toStr x=>exact(aut s h hc).opW
 |mkfn f a c=>exact(axD s h hc).opW
 |mkslice z l c=>exact(ZT s h hc).opW
 |slice m x lo hi mx=>exact(ato s h hc).opW
 |slarr n x lo hi mx=>exact(asK s h hc).opW
 |fa off p=>exact(aCw s h hc).opW
 |fld off n x=>exact(azR s h hc).opW
 |ia n x i=>exact(aDy s h hc).opW
 |iarr l n p i=>exact(axn s h hc).opW
 |ix l n ag x i=>exact(aCk s h hc).opW
 |ixs x i=>exact(aBH s h hc).opW
 |idxb x c=>exact(awX s h hc).opW
 |ext j mv i=>exact(aAz s h hc).opW
 |len x=>exact(aAU s h hc).opW
 |cap x=>exact(azv s h hc).opW
 |app m x y=>exact(azm s h hc).opW
 |appz z x n=>exact(axz s h hc).opW
 |cpy m x y=>exact(az1 s h hc).opW
 |clr z x=>exact(aAX s h hc).opW
 |minmax b xs=>exact(aqi s h hc).opW
 |call f args=>exact ayz hr s h hc
 |calli f args=>exact at0 hr s h hc
 |callv f args=>exact asX hr hcs s h hc
 |bad=>grind [dn,anS]
 |kill is=>simp[bG]at hc
 |free i=>simp[bG]at hc
 |wk i m=>simp[bG]at hc
 |frz i=>simp[bG]at hc
 |frzC i offs=>simp[bG]at hc
def QV {v:pk}{op:Op}(hb:v≠.bad)(h:bG P v op=true):∀c,op≠.defer c:=by
 rintro c rfl
 cases v<;>first|exact hb rfl|(simp[bG]at h)
def TR {i:VI}{st2:St}(h:gL r i st=some st2):∃v st1,dn i.op r st=some (v,st1)∧st2=cT i.dst (firm (eC i.th v st1.hs).1) ⟨st1.env,(eC i.th v st1.hs).2⟩:=by
 unfold gL at h;split at h
 .rename_i v st1 hv;split at h
  .rename_i hth;simp only[ae]at h;exact⟨v,st1,hv,by rw[hth];exact h.symm⟩
  grind
 simp_all
theorem aiZ (t:F_)(dst:I_)(x:Value):∀k,dst≠some k->(xJ t dst x)[k]?=t[k]?:=by
 intro k hk
 cases dst<;>grind [Act.put]
def ana {ro:I_}(hr:jp P r)(hcs:jF P r){n:Nat}{ops:Array Oper}{i:VI}{st2:St}(hn:t.size=n)(s:S P g w st t O)(h:cZ r i st=some st2)(hc:Cz P n ops i o=true)
  (ds:List Deferred)(next:Act->World->Prop)(Q:Exit->Act->World->Prop)(hk:∀t' w' g' O',ip P g w t O st2 t' w' g' O'->(∀k,i.dst≠some k->t'[k]?=t[k]?)->next ⟨t',ds⟩ w') :
  if Region.wanted o (yielded ops t) then o.wpIn (FR ro) 0 P ⟨t,ds⟩ w next Q else (∀f,o.about P w (⟨t,ds⟩:Act).eval=some f->(FR ro).fn f)∧next (Act.put ⟨t,ds⟩ o.dst undef) w:=by
 simp only[Cz,af]at hc;obtain⟨⟨hdst,hgd⟩,hop⟩:=hc;have hd:i.dst=o.dst∧∀d,i.dst=some d->d<t.size:=by
  grind [Nat.beq_eq,Nat.blt_eq]
 have go:gL r i st=some st2->o.wpIn (FR ro) 0 P ⟨t,ds⟩ w next Q:=by
  intro hg;obtain⟨v,st1,hv,rfl⟩:=TR hg;have hb:i.op≠.bad:=by intro e;simp_all [dn,anS]
  refine⟨λ_ _=>trivial,?_⟩;rw[OX _ _ (QV hb hop)];refine azG (ro:=ro) hr hcs s hv hop ds next Q λx w' g' Oa O' k=>?_
  obtain⟨g2,O2,G⟩:=ag7 k hd.2 i.th
  grind [ZW,aiZ]
 have no:st2=cT i.dst (.tup []) st->(∀f,o.about P w (⟨t,ds⟩:Act).eval=some f->(FR ro).fn f)∧next (Act.put ⟨t,ds⟩ o.dst undef) w:=by
  rintro rfl
  refine⟨λ_ _=>trivial,?_⟩;have ha:CV P g w t O st (.tup []) undef w g zero O:=⟨by grind [RV,RVs,undef],s,.refl _ _ _,λb=>by have:=s.le b;simp_all,λb _=>by simp,λb hb=>by simp at hb⟩
  obtain⟨g2,O2,G⟩:=ag7 ha hd.2 [];rw[ZW,<-hd.1];exact hk _ _ _ _ G (aiZ _ _ _)
 grind [asD,cZ]
def aqv {ro:I_}(hr:jp P r)(hcs:jF P r){n:Nat}{ops:Array Oper}{i:VI}{st2:St}(hn:t.size=n)(s:S P g w st t O)(h:cZ r i st=some st2)(hc:Cz P n ops i o=true)
  (ds:List Deferred)(next:Act->World->Prop)(Q:Exit->Act->World->Prop)(hk:∀t' w' g' O',ip P g w t O st2 t' w' g' O'->next ⟨t',ds⟩ w') :
  if Region.wanted o (yielded ops t) then o.wpIn (FR ro) 0 P ⟨t,ds⟩ w next Q else (∀f,o.about P w (⟨t,ds⟩:Act).eval=some f->(FR ro).fn f)∧next (Act.put ⟨t,ds⟩ o.dst undef) w:=ana hr hcs hn s h hc ds next Q λt' w' g' O' G _=>hk t' w' g' O' G
def adv {i:VI}{st2:St}(s:S P g w st t O)(hg:M3 i=true)(h:cZ r i st=some st2):∃g' O',ip P g w t O st2 t w g' O':=by
 simp only[M3,af]at hg;obtain⟨⟨⟨h1,h2⟩,h3⟩,h4⟩:=hg;have hd:i.dst=none:=rq.1 h1;have hgd:i.guard=none:=rq.1 h2;have hth:i.th=[]:=u_;unfold cZ at h;rw[hgd]at h;obtain⟨v,st1,hv,rfl⟩:=TR h;rw[hd,hth];have fin:M4 P g w t O st1->∃g' O',ip P g w t O (cT none (firm (eC [] v st1.hs).1) ⟨st1.env,(eC [] v st1.hs).2⟩) t w g' O':=by
  rintro ⟨g',O',s',hx,hle⟩
  exact⟨g',O',s',hx,λb _=>hle b,rfl⟩
 split at h4
 .rename_i is e;rw[e]at hv;exact fin (ayl s hv)
 .rename_i j e;rw[e]at hv;exact fin (ayi s hv)
 .rename_i j m e;rw[e]at hv;exact fin (aC8 s hv)
 .rename_i j e;rw[e]at hv;exact fin (aA5 s hv)
 .rename_i j offs e;rw[e]at hv;exact fin (ayk s hv)
 simp_all
def abG {ro:I_}(hr:jp P r)(hcs:jF P r){n:Nat}{ops:Array Oper}{Q:Exit->Act->World->Prop}(ds:List Deferred) :
  ∀{l:S_}{os:List Oper}{k:Nat},ops.toList.drop k=os->JP P n ops l os=true->∀{g:Gh}{w:World}{t:F_}{O:Nat->Nat}{st st':St},t.size=n->S P g w st t O->lx r l st=some st'->
   (∀w' t' g' O',ip P g w t O st' t' w' g' O'->Q .normal ⟨t',ds⟩ w')->wpOpsIn (FR ro) 0 P ops Q (List.range' k os.length) ⟨t,ds⟩ w
 |[],os,k,hos,hc,g,w,t,O,st,st',hn,s,h,hq=>by
  cases os with
  |nil =>
   simp only[lx,ae]at h;subst h;exact hq _ _ _ _ (ip.refl s)
  |cons o os=>simp[JP]at hc
 |v::l,os,k,hos,hc,g,w,t,O,st,st',hn,s,h,hq=>by
  simp only[lx]at h;split at h
  .rename_i st1 hv;simp only[JP]at hc;split at hc
   .rename_i hgh;obtain⟨g1,O1,G⟩:=adv s hgh hv;exact abG hr hcs ds hos hc o_ G.st h λw' t' g' O' G2=>hq _ _ _ _ (G.trans G2)
   .cases os with
    |nil=>simp at hc
    |cons o os =>
     simp only[af]at hc;obtain⟨hvi,hrest⟩:=hc;have hk:ops[k]?=some o:=by
      have:=aP (λl=>l[0]?) hos
      grind
     have hos':ops.toList.drop (k+1)=os:=by
      have:=aP (λl=>l.drop 1) hos
      grind [List.drop_drop]
     have key:=aqv (ro:=ro) hr hcs hn s hv hvi ds (wpOpsIn (FR ro) 0 P ops Q (List.range' (k+1) os.length)) Q λt' w' g' O' G =>
      abG hr hcs ds hos' hrest (by rw[G.size,hn]) G.st h λw2 t2 g2 O2 G2=>hq _ _ _ _ (G.trans G2)
     grind [List.range'_succ,wpOpsIn]
  simp_all
end
def km:Obj->Obj->Prop
 |.cells a,.cells b=>shareAll a=shareAll b
 |o,o'=>o=o'
def dJ (h h':am):Prop:=∀id o,get h id=some o->∃o',get h' id=some o'∧km o o'
theorem km.refl (o:Obj):km o o:=by cases o<;>simp[km]
theorem dJ.refl (h:am):dJ h h:=λ_ o ho=>⟨o,ho,.refl o⟩
theorem dJ.arr {h h':am}(H:dJ h h'){id m:Nat}{xs:E_}(g:get h id=some (.arr m xs)):get h' id=some (.arr m xs):=by
 obtain⟨o,h1,h2⟩:=H id _ g
 grind [km]
theorem dJ.cells {h h':am}(H:dJ h h'){id:Nat}{cs:D_}(g:get h id=some (.cells cs)):∃cs',get h' id=some (.cells cs')∧shareAll cs=shareAll cs':=by
 obtain⟨o,h1,h2⟩:=H id _ g
 cases o<;>simp[km]at h2
 simp_all
def fO (f:St->L_)(R M:C_):Prop :=
 ∀e hs v st1,f ⟨e,hs⟩=some (v,st1)->st1.hs=hs∧(cX e->cX st1.env)∧(∀k,k∉M->get st1.env k=get e k)∧
  ∀e' hs',(∀k∈R,get e' k=get e k)->dJ hs.heap hs'.heap->∃e1',f ⟨e',hs'⟩=some (v,⟨e1',hs'⟩)∧(∀k,k∉M->get e1' k=get e' k)∧∀k∈M,get e1' k=get st1.env k
theorem In {α:Type}(l:List (Nat×α))(i k:Nat):get (del l i) k=if k=i then none else get l k:=by
 induction l<;>grind [abq,Bj,pc,ju]
theorem gk {α:Type}(l:List (Nat×α))(i k:Nat)(x:α):get (put l i x) k=if k=i then some x else get l k:=by
 induction l<;>grind [abi,ju,xE]
theorem vu {α:Type}:∀{a b:List (Nat×α)},cX a->cX b->(∀k,get a k=get b k)->a=b
 |[],[],_,_,_=>rfl
 |[],(k,v)::b,_,_,h=>by have:=h k;grind [ju,Bj]
 |(k,v)::a,[],_,_,h=>by have:=h k;grind [ju,Bj]
 |(k,v)::a,(j,u)::b,ha,hb,h=>by
  have ha':=bZ.1 ha;have hb':=bZ.1 hb;have none_of:∀{l:List (Nat×α)}{i:Nat},(∀p∈l,HJ i p.1)->get l i=none:=by
   intro l i hl
   induction l with
   |nil=>rfl
   |cons p l ih =>
    grind [ju]
  have hkj:k=j:=by
   rcases aye k j with hlt|e|hlt
   .have h1:=h k
    grind [ju]
   .exact e
   .have h1:=h j
    grind [ju]
  subst hkj;have hvu:v=u:=by have h1:=h k;grind [ju]
  subst hvu;rw[vu ha'.2 hb'.2 λi=>?_];by_cases e:k=i
  .grind
  .have h1:=h i
   grind [ju]
def Sq {e e1:aZ}{x:Rd}{v:AV}(h:rd e x=some (v,e1)):(cX e->cX e1)∧(∀k,get e1 k=if k∈lg x then none else get e k)∧
  ∀e',(∀k∈oU x,get e' k=get e k)->∃e1',rd e' x=some (v,e1')∧∀k,get e1' k=if k∈lg x then none else get e' k:=by
 cases x<;>grind [rd,lg,oU,cX.del,In]
def KU:∀{rs:U_}{e e1:aZ}{vs:D_},rdAll e rs=some (vs,e1)->(cX e->cX e1)∧(∀k,get e1 k=if k∈bF rs then none else get e k)∧
  ∀e',(∀k∈cm rs,get e' k=get e k)->∃e1',rdAll e' rs=some (vs,e1')∧∀k,get e1' k=if k∈bF rs then none else get e' k
 |[],e,e1,vs,h=>by
  grind [rdAll,bF]
 |x::rs,e,e1,vs,h=>by
  simp only[rdAll]at h;split at h
  .simp at h
  .rename_i v e2 h1;split at h
   .simp at h
   .rename_i us e3 h2;obtain⟨rfl,rfl⟩:=h;obtain⟨s1,g1,l1⟩:=Sq h1;obtain⟨s2,g2,l2⟩:=KU h2;have hm:∀k,(k∈bF (x::rs))↔(k∈lg x∨k∈bF rs):=λk=>by simp[bF]
    refine⟨λhs=>s2 (s1 hs),λk=>?_,λe' he=>?_⟩
    .grind
    .obtain⟨e2',h1',g1'⟩:=l1 e' λk hk=>he k (by grind [cm])
     obtain⟨e3',h2',g2'⟩:=l2 e2' λk hk=>by
      grind [cm]
     refine⟨e3',by grind [rdAll],λk=>?_⟩
     grind
def fO.rds {f:St->L_}{rs:U_}(F:D_->HS->M_)
  (mono:∀vs hs hs' v,dJ hs.heap hs'.heap->F vs hs=some v->F vs hs'=some v)
  (h:∀e hs,f ⟨e,hs⟩=match rdAll e rs with|none=>none|some (vs,e1)=>match F vs hs with|none=>none|some v=>some (v,⟨e1,hs⟩)):fO f (cm rs) (bF rs):=by
 intro e hs v st1 hf;rw[h]at hf;split at hf
 .simp at hf
 .rename_i vs e1 hr;split at hf
  .simp at hf
  .obtain⟨rfl,rfl⟩:=hf;obtain⟨s1,g1,l1⟩:=KU hr;refine⟨rfl,s1,λk hk=>by simp_all,λe' hs' he hle=>?_⟩;obtain⟨e1',hr',g1'⟩:=l1 e' he;exact⟨e1',d_,λk hk=>by simp_all,λk hk=>by simp_all⟩
theorem kH:∀(cs:D_),shareAll cs=cs.map share
 |[]=>rfl
 |c::r=>by simp only[qi,kH r,bL]
def apV (v:AV):toD (share v)=toD v:=by
 cases v<;>try rfl
 rename_i p m xs
 cases p<;>rfl
theorem Zp:∀(cs:D_),mO (shareAll cs)=mO cs
 |[]=>rfl
 |c::r=>by simp only[qi,mO,apV,Zp r]
theorem arz {a b:D_}(h:shareAll a=shareAll b){i:Nat}{v:AV}(g:a[i]?=some v):∃u,b[i]?=some u∧share u=share v:=by
 rw[kH,kH]at h;have:=aP (λl=>l[i]?) h
 grind
theorem asd {a b:D_}(h:shareAll a=shareAll b):a.length=b.length:=by
 rw[kH,kH]at h;simpa using aP List.length h
theorem asy {a b:D_}(h:shareAll a=shareAll b)(i n:Nat):shareAll (sub a i n)=shareAll (sub b i n):=by
 grind [kH,sub,List.map_take,List.map_drop]
theorem dJ.load {h h':am}(H:dJ h h'){n:I_}{p u:AV}{k:am}(hl:loadAt h n 0 p=some (u,k)):∃k',loadAt h' n 0 p=some (u,k'):=by
 cases p<;>simp only[loadAt,reduceCtorEq]at hl⊢
 .split at hl<;>grind [cells,arz,asd,asy]
 all_goals grind [arr]
theorem dJ.objElems {h h':am}(H:dJ h h'){id:Nat}{xs:E_}(g:objElems h id=some xs):objElems h' id=some xs:=by
 grind [Vm.objElems,arr,cells,Zp]
theorem dJ.elems {h h':am}(H:dJ h h'){v:AV}{xs:E_}(g:elems h v=some xs):elems h' v=some xs:=by
 unfold Go.Vm.elems at g⊢
 grind [objElems]
theorem dJ.viewOne {h h':am}(H:dJ h h'){v u:AV}(g:viewOne h v=some u):viewOne h' v=some u:=by
 unfold Go.Vm.viewOne at g⊢
 grind [elems]
theorem dJ.viewAll {h h':am}(H:dJ h h'):∀{vs us:D_},viewAll h vs=some us->viewAll h' vs=some us
 |[],_,g=>g
 |v::r,us,g=>by
  simp only[Go.Vm.viewAll]at g⊢;split at g
  .simp at g
  .rename_i x hx;split at g
   .simp at g
   .rename_i xs hxs;simp only[H.viewOne hx,H.viewAll hxs];exact g
def dJ.viewArg {h h':am}(H:dJ h h'){v u:AV}(g:viewArg h v=some u):viewArg h' v=some u:=by
 unfold Go.Vm.viewArg at g⊢
 grind [viewAll,viewOne]
theorem dJ.viewArgs {h h':am}(H:dJ h h'):∀{vs us:D_},viewArgs h vs=some us->viewArgs h' vs=some us
 |[],_,g=>g
 |v::r,us,g=>by
  simp only[Go.Vm.viewArgs]at g⊢;split at g
  .simp at g
  .rename_i x hx;split at g
   .simp at g
   .rename_i xs hxs;simp only[H.viewArg hx,H.viewArgs hxs];exact g
def dJ.call {r:dQ}{f:FuncId}{vs:D_}{h h':am}(H:dJ h h'){v:AV}(g:fw r f vs h=some v):fw r f vs h'=some v:=by
 grind [fw,viewArgs]
theorem dJ.okSl {h h':am}(H:dJ h h'){m:Nat}{v:AV}(g:okSl h m v=true):okSl h' m v=true:=by
 unfold Go.Vm.okSl at g⊢
 grind [arr,cells]
abbrev aS:=@List.cons_append
section
variable {r:dQ}
def ay5 (x:Rd):fO (Ui x) (cm [x]) (bF [x]):=by
 refine fO.rds (λvs _=>match vs with|[v]=>some v|_=>none) (λ_ _ _ _ _ h=>h) λe hs=>?_
 grind [Ui,rdAll]
def asA (zs:D_)(ps:AC_):fO (Ex zs ps) (cm (qh ps)) (bF (qh ps)):=by
 refine fO.rds (λvs _=>match eQ zs (uB ps vs) with|some cs=>some (.agg cs)|none=>none) (λ_ _ _ _ _ h=>h) λe hs=>?_
 grind [Ex]
def ayB (m:Nat)(ps:U_):fO (P5 m ps) (cm ps) (bF ps):=by
 refine fO.rds (λvs _=>match j8 m vs with|some xs=>some (.own true m xs)|none=>none) (λ_ _ _ _ _ h=>h) λe hs=>?_
 grind [P5]
def aDH {h:am}{n:I_}{p v:AV}{h':am}(hl:loadAt h n 0 p=some (v,h')):h'=h:=by
 cases p<;>simp only[loadAt,reduceCtorEq]at hl
 all_goals grind
def ldV (n:I_)(vs:D_)(hs:HS):M_ :=
 match vs with
 |[v]=>(match loadAt hs.heap n 0 v with|some (u,_)=>some u|none=>none)
 |_=>none
def axf {n:I_}(vs:D_)(hs hs':HS)(v:AV)(H:dJ hs.heap hs'.heap)(h:ldV n vs hs=some v):ldV n vs hs'=some v:=by
 unfold ldV at h⊢
 grind [dJ.load]
def azT (n:I_)(p:Rd):fO (Fa n 0 p) (cm [p]) (bF [p]):=by
 refine fO.rds (ldV n) axf λe hs=>?_
 simp only[Fa,rdAll]
 cases rd e p with
 |none=>rfl
 |some q =>
  obtain⟨v,e1⟩:=q
  cases hl:loadAt hs.heap n 0 v with
  |none=>simp only[ldV,hl]
  |some q=>have:=aDH hl;simp_all [ldV]
def aqU (x:Rd):fO (Ia x) (cm [x]) (bF [x]):=by
 refine fO.rds (λvs _=>match vs with|[v]=>(match v with|.ptr ..|.pel ..|.pim ..|.fn ..|.yield ..=>some v|_=>none)|_=>none) (λ_ _ _ _ _ h=>h) λe hs=>?_
 grind [Ia,rdAll]
def awC (op:BinOp)(x y:Rd):fO (NX op x y) (cm [x,y]) (bF [x,y]):=by
 refine fO.rds (λvs _=>match vs with|[a,b]=>dL op a b|_=>none) (λ_ _ _ _ _ h=>h) λe hs=>?_
 grind [NX,Tx,rdAll]
def avk (neg:Bool)(x y:Rd):fO (MD neg x y) (cm [x,y]) (bF [x,y]):=by
 refine fO.rds (λvs _=>match vs with|[a,b]=>(match a,b with|.d (.bool a),.d (.bool b)=>some (.bool (match neg with|true=>!(a == b)|false=>a == b))|_,_=>none)|_=>none) (λ_ _ _ _ _ h=>h) λe hs=>?_
 grind [MD,rdAll]
def aug (neg:Bool)(ks:V_)(x y:Rd):fO (Nj neg ks x y) (cm [x,y]) (bF [x,y]):=by
 refine fO.rds (λvs _=>match vs with|[a,b]=>(match a,b with|.agg a,.agg b=>(match bE ks a b with|some t=>some (.bool (match neg with|true=>!t|false=>t))|none=>none)|_,_=>none)|_=>none) (λ_ _ _ _ _ h=>h) λe hs=>?_
 simp only[Nj,rdAll]
 cases rd e x<;>grind
def azI (op:UnOp)(x:Rd):fO (abY op x) (cm [x]) (bF [x]):=by
 refine fO.rds (λvs _=>match vs with|[a]=>acb op a|_=>none) (λ_ _ _ _ _ h=>h) λe hs=>?_
 grind [abY,rdAll]
def auA (k:IntKind)(x:Rd):fO (Iu k x) (cm [x]) (bF [x]):=by
 refine fO.rds (λvs _=>match vs with|[.d (.int _ n)]=>some (.int k (wr k n))|_=>none) (λ_ _ _ _ _ h=>h) λe hs=>?_
 grind [Iu,rdAll]
def aqO (x:Rd):fO (Ni x) (cm [x]) (bF [x]):=by
 refine fO.rds (λvs hs=>match vs with|[v]=>(match elems hs.heap v with|some xs=>(match vA xs with|some s=>some (.d (.str s))|none=>none)|none=>none)|_=>none) (λvs hs hs' v H h=>?_) λe hs=>?_
 all_goals grind [dJ.elems,Ni,rdAll]
def akt (z:W_)(x y:Rd):fO (mM z x y) (cm [x,y]) (bF [x,y]):=by
 refine fO.rds (λvs _=>match vs with|[n,c]=>(match eK c aY with|some c=>(match eK n c with|some n=>some (.own true z.length (List.replicate n z))|none=>none)|none=>none)|_=>none) (λ_ _ _ _ _ h=>h) λe hs=>?_
 grind [mM,rdAll]
def aAa (off:Nat)(p:Rd):fO (abz off p) (cm [p]) (bF [p]):=by
 refine fO.rds (λvs _=>match vs with|[a]=>iQ off a|_=>none) (λ_ _ _ _ _ h=>h) λe hs=>?_
 grind [abz,rdAll]
def ayA (off:Nat)(n:I_)(x:Rd):fO (PW off n x) (cm [x]) (bF [x]):=by
 refine fO.rds (λvs _=>match vs with|[.agg cs]=>FV n cs off|_=>none) (λ_ _ _ _ _ h=>h) λe hs=>?_
 grind [PW,rdAll]
def Z9 (n k:Nat)(o:AE_):M_ :=
 match o with
 |some xs=>match xs[k]? with
  |some x=>match Nat.beq x.length n with
   |true=>some (.pim x 0)
   |false=>none
  |none=>none
 |none=>none
def ago (n:Nat)(h:am)(k:Nat)(v:AV):M_ :=
 match v with
 |.sl id off len=>match Nat.ble len k with
  |true=>none
  |false=>match get h id with
   |some (.arr m _)=>match Nat.beq m n with
    |true=>some (.pel id (off+k) 0)
    |false=>none
   |some (.cells _)=>match Nat.beq n 1 with
    |true=>some (.ptr id (off+k))
    |false=>none
   |_=>none
 |v=>Z9 n k (elems h v)
theorem ayW {n k:Nat}{h h':am}(H:dJ h h'){v u:AV}(g:ago n h k v=some u):ago n h' k v=some u:=by
 have other:Z9 n k (elems h v)=some u->Z9 n k (elems h' v)=some u:=by
  intro g
  cases hx:elems h v<;>grind [Z9,dJ.elems]
 cases v<;>simp only[ago]at g⊢<;>try exact other g
 grind [dJ.arr,dJ.cells]
def aAV (n:Nat)(x i:Rd):fO (agK n x i) (cm [x,i]) (bF [x,i]):=by
 refine fO.rds (λvs hs=>match vs with|[v,i]=>(match r7 i with|some k=>ago n hs.heap k v|none=>none)|_=>none) (λvs hs hs' v H h=>?_) λe hs=>?_
 .grind [ayW]
 simp only[agK,rdAll]
 cases rd e x with
 |none=>rfl
 |some q =>
  obtain⟨a,e1⟩:=q;simp only
  cases rd e1 i<;>grind [Z9,ago]
def auc (len n:Nat)(p i:Rd):fO (M7 len n p i) (cm [p,i]) (bF [p,i]):=by
 refine fO.rds (λvs _=>match vs with|[p,i]=>(match r7 i with|some i=>(match Nat.ble len i with|true=>none|false=>iQ (i*n) p)|none=>none)|_=>none) (λ_ _ _ _ _ h=>h) λe hs=>?_
 simp only[M7,rdAll]
 grind
def aAr (len n:Nat)(ag:Bool)(x i:Rd):fO (WC len n ag x i) (cm [x,i]) (bF [x,i]):=by
 refine fO.rds (λvs _=>match vs with|[.agg cs,i]=>(match r7 i with|some i=>(match Nat.ble len i with|true=>none|false=>FV (aiQ ag n) cs (i*n))|none=>none)|_=>none) (λ_ _ _ _ _ h=>h) λe hs=>?_
 simp only[WC,rdAll]
 cases rd e x with
 |none=>rfl
 |some q =>
  obtain⟨a,e1⟩:=q;simp only
  cases hi:rd e1 i<;>grind
def aw3 (x i:Rd):fO (Pa x i) (cm [x,i]) (bF [x,i]):=by
 refine fO.rds (λvs _=>match vs with|[.d (.str s),i]=>(match r7 i with|some i=>(match s[i]? with|some b=>some (.int .u8 (.ofNat b.toNat))|none=>none)|none=>none)|_=>none) (λ_ _ _ _ _ h=>h) λe hs=>?_
 grind [Pa,rdAll]
def axI (x:Rd):fO (Uh x) (cm [x]) (bF [x]):=by
 refine fO.rds (λvs _=>match vs with|[a]=>(match lenOf a with|some n=>some (.int .i64 (.ofNat n))|none=>none)|_=>none) (λ_ _ _ _ _ h=>h) λe hs=>?_
 grind [Uh,rdAll]
def awU (x:Rd):fO (Pn x) (cm [x]) (bF [x]):=by
 refine fO.rds (λvs _=>match vs with|[.nl]=>some (.int .i64 (.ofNat 0))|_=>none) (λ_ _ _ _ _ h=>h) λe hs=>?_
 grind [Pn,rdAll]
def anq (b:Bool)(xs:U_):fO (AS b xs) (cm xs) (bF xs):=by
 refine fO.rds (λvs _=>match vs with|.d (.int k n)::vs=>BY b (.d (.int k n)) vs|_=>none) (λ_ _ _ _ _ h=>h) λe hs=>?_
 grind [AS]
theorem ad0 (e:aZ):∀(a b:U_),rdAll e (a++b)=match rdAll e a with
  |none=>none
  |some (x,e1)=>match rdAll e1 b with
   |none=>none
   |some (y,e2)=>some (x++y,e2)
 |[],b=>by
  grind [rdAll]
 |r::a,b=>by
  simp only[aS,rdAll]
  cases rd e r with
  |none=>rfl
  |some p =>
   obtain⟨v,e1⟩:=p;simp only[ad0 e1 a b]
   grind
theorem aen:∀{rs:U_}{e e1:aZ}{vs:D_},rdAll e rs=some (vs,e1)->vs.length=rs.length
 |[],e,e1,vs,h=>by grind [rdAll]
 |x::rs,e,e1,vs,h=>by
  simp only[rdAll]at h;split at h
  .simp at h
  .split at h
   .simp at h
   .rename_i h2;obtain⟨rfl,rfl⟩:=h;simp[aen h2]
def asY (f:FuncId)(first caps:U_):fO (Ir f first caps) (cm (first++caps)) (bF (first++caps)):=by
 refine fO.rds (λvs _=>some (.fn f (shareAll (vs.take first.length)) (shareAll (vs.drop first.length)))) (λ_ _ _ _ _ h=>h) λe hs=>?_
 grind [Ir,ad0,aen,List.take_left]
def as9 (f:FuncId)(args:U_):fO (F3 r f args) (cm args) (bF args):=by
 refine fO.rds (λvs hs=>fw r f vs hs.heap) (λvs hs hs' v H h=>H.call h) λe hs=>?_
 grind [F3]
theorem asz {v:pk}{rs:U_}(h:Fd v=some rs):fO (dn v r) (cm rs) (bF rs):=by
 unfold Fd at h;split at h<;>simp only[ae,reduceCtorEq]at h<;>subst h
 .exact ay5 _
 .exact asA _ _
 .exact ayB _ _
 .exact azT _ _
 .exact aqU _
 .exact awC _ _ _
 .exact avk _ _ _
 .exact aug _ _ _ _
 .exact azI _ _
 .exact auA _ _
 .exact aqO _
 .exact akt _ _ _
 .exact aAa _ _
 .exact ayA _ _ _
 .exact aAV _ _ _
 .exact auc _ _ _ _
 .exact aAr _ _ _ _ _
 .exact aw3 _ _
 .exact axI _
 .exact awU _
 .exact anq _ _
 .exact asY _ _ _
 .exact as9 _ _
end
abbrev dp:=@List.mem_append_left
section
variable {r:dQ}
def SX (e:aZ)(o:AB_)(rs:U_):rdAll e (o.toList++rs)=match rdOpt e o with
  |none=>none
  |some (vo,e1)=>match rdAll e1 rs with
   |none=>none
   |some (vs,e2)=>some (vo.toList++vs,e2):=by
 cases o<;>grind [rdOpt,rdAll]
def ab8:AB_->D_->Option (M_×D_)
 |none,vs=>some (none,vs)
 |some _,v::vs=>some (some v,vs)
 |some _,[]=>none
def abC {e e1:aZ}{o:AB_}{vo:M_}(h:rdOpt e o=some (vo,e1))(vs:D_):ab8 o (vo.toList++vs)=some (vo,vs):=by
 cases o with
 |none=>obtain⟨rfl,rfl⟩:=h;rfl
 |some x =>
  simp only[rdOpt]at h;split at h
  .obtain⟨rfl,rfl⟩:=h;rfl
  simp_all
def RC (m:Nat)(lo hi mx:AB_)(h:am)(vs:D_):M_ :=
 match vs with
 |[]=>none
 |v::vs=>match ab8 lo vs with
  |none=>none
  |some (l,vs)=>match ab8 hi vs with
   |none=>none
   |some (hh,vs)=>match ab8 mx vs with
    |none=>none
    |some (k,_)=>match okSl h m v with
     |true=>vt m v l hh k
     |false=>none
def ank {m:Nat}{lo hi mx:AB_}{h h':am}(H:dJ h h'){vs:D_}{u:AV}(g:RC m lo hi mx h vs=some u):RC m lo hi mx h' vs=some u:=by
 unfold RC at g⊢;split at g
 .simp at g
 .rename_i v vs
  cases h1:ab8 lo vs with
  |none=>simp_all
  |some p =>
   obtain⟨l,vs1⟩:=p;simp only at g⊢
   cases h2:ab8 hi vs1<;>grind [dJ.okSl]
def arG (m:Nat)(x:Rd)(lo hi mx:AB_):fO (Nk m x lo hi mx) (cm (x::(lo.toList++(hi.toList++(mx.toList++[]))))) (bF (x::(lo.toList++(hi.toList++(mx.toList++[]))))):=by
 refine fO.rds (λvs hs=>RC m lo hi mx hs.heap vs) (λvs hs hs' v H h=>ank H h) λe hs=>?_
 simp only[Nk,rdAll]
 cases rd e x with
 |none=>rfl
 |some q =>
  obtain⟨v,e1⟩:=q;simp only;rw[SX]
  cases h1:rdOpt e1 lo with
  |none=>rfl
  |some q =>
   obtain⟨l,e2⟩:=q;simp only;rw[SX]
   cases h2:rdOpt e2 hi with
   |none=>rfl
   |some q =>
    obtain⟨hh,e3⟩:=q;simp only;rw[SX]
    cases h3:rdOpt e3 mx with
    |none=>rfl
    |some q =>
     simp only[rdAll,RC,abC h1,abC h2,abC h3]
     grind
def Pg {x:Rd}{k:Nat}(h:k∈lg x):k∈oU x:=by
 cases x<;>simp_all [lg,oU]
def auP (c a b:Rd):fO (lM c a b) (cm [c,a,b]) (bF [c,a,b]):=by
 intro e hs v st1 hf;unfold lM at hf;have hm:∀k,k∈bF [c,a,b]↔(k∈lg c∨k∈lg a∨k∈lg b):=λk=>by simp[bF]
 have hsl:∀k,k∈cm [c,a,b]↔(k∈oU c∨k∈oU a∨k∈oU b):=λk=>by simp[cm]
 split at hf
 .rename_i tb e1 h1;obtain⟨s1,g1,l1⟩:=Sq h1;have key:∀x,(x=a∨x=b)->∀u e2,rd e1 x=some (u,e2)->(∀e' e1' e2' hs',rd e' c=some (B_ tb,e1')->rd e1' x=some (u,e2')->lM c a b ⟨e',hs'⟩=some (u,⟨e2',hs'⟩))->
    (⟨e2,hs⟩:St).hs=hs∧(cX e->cX e2)∧(∀k,k∉bF [c,a,b]->get e2 k=get e k)∧
    ∀e' hs',(∀k∈cm [c,a,b],get e' k=get e k)->dJ hs.heap hs'.heap->∃e1',lM c a b ⟨e',hs'⟩=some (u,⟨e1',hs'⟩)∧(∀k,k∉bF [c,a,b]->get e1' k=get e' k)∧∀k∈bF [c,a,b],get e1' k=get e2 k:=by
   intro x hx u e2 h2 hback;obtain⟨s2,g2,l2⟩:=Sq h2;have hbs:∀k,k∈oU x->k∈cm [c,a,b]:=λk hk=>(hsl k).2 (by grind)
   have hms:∀k,k∈bF [c,a,b]->k∈cm [c,a,b]:=λk hk=>(hsl k).2 (((hm k).1 hk).imp Pg (Or.imp Pg Pg))
   refine⟨rfl,λh=>s2 (s1 h),λk hk=>?_,λe' hs' he _=>?_⟩
   .grind
   .obtain⟨e1',h1',g1'⟩:=l1 e' λk hk=>he k ((hsl k).2 (.inl hk))
    obtain⟨e2',h2',g2'⟩:=l2 e1' λk hk=>by
     simp_all
    refine⟨e2',hback e' e1' e2' hs' h1' h2',λk hk=>?_,λk hk=>?_⟩
    all_goals grind
  cases tb with
  |true =>
   split at hf
   .obtain⟨rfl,rfl⟩:=hf
    grind [lM]
   simp_all
  |false =>
   split at hf
   .obtain⟨rfl,rfl⟩:=hf
    grind [lM]
   simp_all
 simp_all
def ayC (j:Nat)(mv:Bool)(i:Nat):fO (CP j mv i) [j] (if mv then [j] else []):=by
 intro e hs v st1 hf;unfold CP at hf;split at hf
 .split at hf
  .cases mv with
   |true =>
    obtain⟨rfl,rfl⟩:=hf
    simp_all [cX.put,gk,CP]
   |false =>
    obtain⟨rfl,rfl⟩:=hf
    simp_all [CP]
  simp_all
 simp_all
def aun (m:Nat)(h:am)(vs:D_):M_ :=
 match vs with
 |[b]=>(match Go.Vm.elems h b with
  |some ys=>(match gB m ys with
   |true=>(match Nat.ble ys.length aY with
    |true=>some (match ys with|[]=>.nl|ys=>.own true m ys)
    |false=>none)
   |false=>none)
  |none=>none)
 |_=>none
def aqT (m:Nat)(y:Rd):fO (H6 m (.c .nl) y) (cm [y]) (bF [y]):=by
 refine fO.rds (λvs hs=>aun m hs.heap vs) (λvs hs hs' v H h=>?_) λe hs=>?_
 .unfold aun at h⊢
  grind [dJ.elems]
 .have h0:rd e (.c .nl)=some (.nl,e):=rfl;simp only[H6,rdAll,h0]
  cases rd e y with
  |none=>rfl
  |some q =>
   obtain⟨b,e1⟩:=q;simp only[aun]
   cases Go.Vm.elems hs.heap b with
   |none=>rfl
   |some ys =>
    simp only
    cases gB m ys with
    |false=>rfl
    |true =>
     simp only[eM]
     cases Nat.ble ys.length aY with
     |false=>rfl
     |true=>cases ys<;>rfl
def W7 {v:pk}{R M:C_}(h:MA v=some (R,M)):fO (dn v r) R M:=by
 have base:(match Fd v with|some rs=>some (cm rs,bF rs)|none=>none)=some (R,M)->fO (dn v r) R M:=by
  grind [asz]
 cases v<;>try exact base h
 .obtain⟨rfl,rfl⟩:=h;exact auP _ _ _
 .obtain⟨rfl,rfl⟩:=h;exact arG _ _ _ _ _
 .obtain⟨rfl,rfl⟩:=h;exact ayC _ _ _
 .rename_i m x y
  cases x<;>try exact base h
  rename_i c
  cases c<;>try exact base h
  obtain⟨rfl,rfl⟩:=h;exact aqT _ _
def atF (f:St->Y_)(R M:C_):Prop :=
 ∀e hs st1,f ⟨e,hs⟩=some st1->st1.hs=hs∧(cX e->cX st1.env)∧(∀k,k∉M->get st1.env k=get e k)∧
  ∀e' hs',(∀k∈R,get e' k=get e k)->dJ hs.heap hs'.heap->∃e1',f ⟨e',hs'⟩=some ⟨e1',hs'⟩∧(∀k,k∉M->get e1' k=get e' k)∧∀k∈M,get e1' k=get st1.env k
def SB {i:VI}{R M:C_}(h:afV i=some (R,M)):atF (cZ r i) R M:=by
 unfold afV at h;split at h
 .simp at h
 .rename_i hth;split at h
  .simp at h
  .rename_i R0 M0 hf;simp only[ae,aR]at h;obtain⟨rfl,rfl⟩:=h;have hl:=W7 (r:=r) hf;have hM:∀k,k∈M0->k∈(match i.dst with|some d=>d::M0|none=>M0):=λk hk=>by grind
   have set:∀(v:AV) (st:St),(cT i.dst v st).hs=st.hs∧(cX st.env->cX (cT i.dst v st).env)∧∀k,get (cT i.dst v st).env k=if i.dst=some k then some v else get st.env k:=by
    grind [cT,cX.put,gk]
   have hd:∀k,k∉(match i.dst with|some d=>d::M0|none=>M0)->i.dst≠some k∧k∉M0:=λk hk=>by
    grind
   have go:∀e hs st1,gL r i ⟨e,hs⟩=some st1->st1.hs=hs∧(cX e->cX st1.env)∧(∀k,k∉(match i.dst with|some d=>d::M0|none=>M0)->get st1.env k=get e k)∧
     ∀e' hs',(∀k∈R0++M0,get e' k=get e k)->dJ hs.heap hs'.heap->∃e1',gL r i ⟨e',hs'⟩=some ⟨e1',hs'⟩∧(∀k,k∉(match i.dst with|some d=>d::M0|none=>M0)->get e1' k=get e' k)∧
      ∀k∈(match i.dst with|some d=>d::M0|none=>M0),get e1' k=get st1.env k:=by
    intro e hs st1 h;unfold gL at h;simp only[hth]at h;split at h
    .rename_i v st0 hv;simp only[ae]at h;subst h;obtain⟨q1,q2,q3,q4⟩:=hl e hs v st0 hv;obtain⟨t1,t2,t3⟩:=set (firm v) st0;refine⟨t1.trans q1,λh=>t2 (q2 h),λk hk=>?_,λe' hs' he hle=>?_⟩
     .simp_all
     .obtain⟨e1',p1,p2,p3⟩:=q4 e' hs' (λk hk=>he k (dp _ hk)) hle;refine⟨(cT i.dst (firm v) ⟨e1',hs'⟩).env,?_,λk hk=>?_,λk hk=>?_⟩
      .unfold gL;simp only[hth,p1,ae]
       cases i.dst<;>rfl
      all_goals grind
    simp_all
   have no:∀e hs,(cT i.dst (.tup []) ⟨e,hs⟩).hs=hs∧(cX e->cX (cT i.dst (.tup []) ⟨e,hs⟩).env)∧(∀k,k∉(match i.dst with|some d=>d::M0|none=>M0)->get (cT i.dst (.tup []) ⟨e,hs⟩).env k=get e k)∧
     ∀e' hs',(∀k∈R0++M0,get e' k=get e k)->(∀k,k∉(match i.dst with|some d=>d::M0|none=>M0)->get (cT i.dst (.tup []) ⟨e',hs'⟩).env k=get e' k)∧
      ∀k∈(match i.dst with|some d=>d::M0|none=>M0),get (cT i.dst (.tup []) ⟨e',hs'⟩).env k=get (cT i.dst (.tup []) ⟨e,hs⟩).env k:=by
    grind
   intro e hs st1 h;unfold cZ at h
   cases hg:i.guard with
   |none =>
    rw[hg]at h;obtain⟨q1,q2,q3,q4⟩:=go e hs st1 h;refine⟨q1,q2,q3,λe' hs' he hle=>?_⟩;obtain⟨e1',p1,p2,p3⟩:=q4 e' hs' he hle
    grind [cZ]
   |some sw =>
    obtain⟨sl,want⟩:=sw;rw[hg]at h;simp only at h;have hsl:∀e',(∀k∈sl::(R0++M0),get e' k=get e k)->get e' sl=get e sl:=λe' he=>he sl (.head _)
    have hre:∀e',(∀k∈sl::(R0++M0),get e' k=get e k)->∀k∈R0++M0,get e' k=get e k:=λe' he k hk=>he k (.tail _ hk)
    split at h
    .rename_i b hb;split at h
     .obtain⟨q1,q2,q3,q4⟩:=go e hs st1 h;refine⟨q1,q2,q3,λe' hs' he hle=>?_⟩;obtain⟨e1',p1,p2,p3⟩:=q4 e' hs' (hre e' he) hle
      grind [cZ]
     .rename_i hbw;simp only[ae]at h;subst h;obtain⟨q1,q2,q3,q4⟩:=no e hs;refine⟨q1,q2,q3,λe' hs' he _=>?_⟩;obtain⟨p2,p3⟩:=q4 e' hs' (hre e' he);refine⟨(cT i.dst (.tup []) ⟨e',hs'⟩).env,?_,p2,p3⟩;unfold cZ;rw[hg];simp only[hsl e' he,hb,hbw,ae]
      cases i.dst<;>rfl
    .rename_i hb;simp only[ae]at h;subst h;obtain⟨q1,q2,q3,q4⟩:=no e hs;refine⟨q1,q2,q3,λe' hs' he _=>?_⟩;obtain⟨p2,p3⟩:=q4 e' hs' (hre e' he);refine⟨(cT i.dst (.tup []) ⟨e',hs'⟩).env,?_,p2,p3⟩;unfold cZ;rw[hg];simp only[hsl e' he,hb,ae]
     cases i.dst<;>rfl
    grind
def au8 {f1 f2:St->Y_}{R1 M1 R2 M2:C_}(h1:atF f1 R1 M1)(h2:atF f2 R2 M2)(d1:∀k∈M1,k∉R2∧k∉M2)(d2:∀k∈M2,k∉R1∧k∉M1){st st1 st2:St}(hs:cX st.env)
  (a:f1 st=some st1)(b:f2 st1=some st2):∃st1',f2 st=some st1'∧f1 st1'=some st2:=by
 obtain⟨e,hs0⟩:=st;obtain⟨e1,hs1⟩:=st1;obtain⟨e2,hs2⟩:=st2;obtain⟨q1,q2,q3,q4⟩:=h1 e hs0 _ a;subst q1;obtain⟨p1,p2,p3,p4⟩:=h2 e1 hs1 _ b;subst p1;obtain⟨e1',k1,k2,k3⟩:=p4 e _ (λk hk=>(q3 k (λhm=>(d1 k hm).1 hk)).symm) (dJ.refl _);obtain⟨_,sk1,_,_⟩:=h2 e hs2 _ k1;obtain⟨e2',m1,m2,m3⟩:=q4 e1' _ (λk hk=>k2 k λhm=>(d2 k hm).1 hk) (dJ.refl _);obtain⟨_,sm1,_,_⟩:=h1 e1' hs2 _ m1;refine⟨⟨e1',hs2⟩,k1,?_⟩;rw[m1]
 congr 2
 refine vu (sm1 (sk1 hs)) (p2 (q2 hs)) λk=>?_
 by_cases hk1:k∈M1
 all_goals grind
end
abbrev ca:=@List.getElem?_cons_zero
abbrev qY:=@List.append_of_mem
abbrev dq:=@List.pairwise_append
abbrev iq:=@List.mem_append_right
abbrev sn:=@List.reverse_cons
abbrev aK:=@List.nil_append
abbrev et:=@List.mem_range
theorem uo {k:Nat}{l:C_}:fo k l=true↔k∈l:=by
 induction l<;>grind [fo,Nat.beq_eq]
theorem jS {a b:C_}(h:tG a b=true):∀k∈a,k∉b:=by
 induction a<;>grind [tG,uo]
section
variable {P:Program}{g:Gh}{w:World}{t:F_}{O:Nat->Nat}{st st':St}{r:dQ}
theorem ak8 {a b:VI}(h:vE a b=true){st1 st2:St}(hs:cX st.env)(h1:cZ r a st=some st1)(h2:cZ r b st1=some st2):∃st1',cZ r b st=some st1'∧cZ r a st1'=some st2:=by
 unfold vE at h;split at h
 .rename_i R1 M1 R2 M2 e1 e2;simp only[af]at h;obtain⟨⟨k1,k2⟩,k3⟩:=h;exact au8 (SB (r:=r) e1) (SB (r:=r) e2) (λk hk=>⟨jS k1 k hk,jS k2 k hk⟩) (λk hk=>⟨jS k3 k hk,λh=>jS k2 k h hk⟩) hs h1 h2
 simp_all
def akB {a b:VI}(h:vE a b=true){st1:St}(hs:cX st.env)(h1:cZ r a st=some st1):cX st1.env:=by
 unfold vE at h;split at h
 .rename_i R1 M1 R2 M2 e1 e2;obtain⟨e,hs0⟩:=st;exact(SB (r:=r) e1 e hs0 st1 h1).2.1 hs
 simp_all
def aaU {vs:S_}{i:Nat}{v:VI}(hv:vs[i]?=some v){l2:C_}:∀{l1:C_}{st st':St},(∀j∈l1,∃u,vs[j]?=some u∧vE u v=true)->cX st.env->
  wU r vs (l1++i::l2) st=some st'->wU r vs (i::(l1++l2)) st=some st'
 |[],st,st',_,_,h=>h
 |j::l1,st,st',hj,hs,h=>by
  obtain⟨u,hu,hm⟩:=hj j (.head _);simp only[aS,wU,hu]at h;split at h
  .simp at h
  .rename_i st1 h1;have h2:=aaU hv (λk hk=>hj k (.tail _ hk)) (akB hm hs h1) h
   grind [wU,ak8]
structure ahd (P:Program)(n:Nat)(ops:Array Oper)(vs:S_):Prop where
 len:vs.length=ops.size
 vi:∀(i:Nat) (v:VI) (o:Oper),vs[i]?=some v->ops[i]?=some o->Cz P n ops v o=true
 pair:∀(i j:Nat) (v u:VI) (o:Oper),j<i->vs[i]?=some v->vs[j]?=some u->ops[i]?=some o->Np o j=true∨vE u v=true
 edge:∀(i:Nat) (o:Oper),ops[i]?=some o->∀e∈o.after,e.on<i
def aav {o:Oper}{v:VI}:∀{us:S_}{k:Nat},Zz o v k us=true->∀(j:Nat) (u:VI),us[j]?=some u->Np o (k+j)=true∨vE u v=true
 |[],k,_,j,u,h=>by simp at h
 |x::us,k,h,j,u,hu=>by
  simp only[Zz,af,dc]at h
  cases j with
  |zero=>simp_all
  |succ j=>have:=aav h.2 j u u_;grind
def R9 {n:Nat}{ops:Array Oper}:∀{vs:S_}{os:List Oper}{prev:S_},tU P n ops prev vs os=true->vs.length=os.length∧
  ∀(i:Nat) (v:VI) (o:Oper),vs[i]?=some v->os[i]?=some o->Cz P n ops v o=true∧(∀(j:Nat) (u:VI),(prev++vs)[j]?=some u->j<prev.length+i->Np o j=true∨vE u v=true)∧
   ∀e∈o.after,e.on<prev.length+i
 |[],[],prev,_=>⟨rfl,λi v o h=>by simp at h⟩
 |x::vs,p::os,prev,h=>by
  simp only[tU,af]at h;obtain⟨⟨⟨h1,h2⟩,h3⟩,h4⟩:=h;obtain⟨k1,k2⟩:=R9 h4;refine⟨by simp[k1],λi v o hv ho=>?_⟩
  cases i with
  |zero =>
   simp only[ca,ae]at hv ho;subst hv ho;refine⟨h1,λj u hu hj=>?_,λe he=>?_⟩
   .rw[bU o_]at hu;have:=aav h2 j u hu
    simp_all
   grind [Nat.blt_eq]
  |succ i =>
   grind
 |[],_::_,_,h=>by grind [tU]
 |_::_,[],_,h=>by grind [tU]
def azn {n:Nat}{ops:Array Oper}{vs:S_}(h:tU P n ops [] vs ops.toList=true):ahd P n ops vs:=by
 obtain⟨k1,k2⟩:=R9 h;have hl:vs.length=ops.size:=o_;have hget:∀(i:Nat) (o:Oper),ops[i]?=some o->ops.toList[i]?=some o:=λi o h=>by simp_all
 refine⟨hl,λi v o hv ho=>(k2 i v o hv (hget i o ho)).1,λi j v u o hji hv hu ho=>(k2 i v o hv (hget i o ho)).2.1 j u u_ o_,λi o ho e he=>?_⟩;have hi:i<vs.length:=by
  grind
 simp_all
theorem Yq (m:Region.Mode){e:Edge}(h:ya e.ground=true):Region.binds m e=true:=by
 grind [Region.binds,ya]
structure acM (n:Nat)(listed:BE_)(rem:C_):Prop where
 srt:rem.Pairwise (·<·)
 lt:∀i∈rem,i<n
 size:listed.size=n
 mem:∀i,i<n->(i∈rem↔listed.getD i true=false)
def asi {ro:I_}(hr:jp P r)(hcs:jF P r){n:Nat}{ops:Array Oper}{vs:S_}(hok:ahd P n ops vs){Q:Exit->Act->World->Prop}(ds:List Deferred)(m:Region.Mode) :
  ∀{fuel:Nat}{rem:C_},rem.length=fuel->∀{tt:Nat}{listed:BE_},acM ops.size listed rem->∀{g:Gh}{w:World}{t:F_}{O:Nat->Nat}{st st':St},t.size=n->S P g w st t O->wU r vs rem st=some st'->
   (∀w' t' g' O',ip P g w t O st' t' w' g' O'->Q .normal ⟨t',ds⟩ w')->wpOpsIn (FR ro) 0 P ops Q (Region.linearise.go m ops fuel tt listed []) ⟨t,ds⟩ w
 |0,rem,hf,tt,listed,hleft,g,w,t,O,st,st',hn,s,h,hq=>by
  have:rem=[]:=aB hf;subst this;simp only[wU,ae]at h;subst h;exact hq _ _ _ _ (ip.refl s)
 |fuel+1,rem,hf,tt,listed,hleft,g,w,t,O,st,st',hn,s,h,hq=>by
  unfold Region.linearise.go;simp only;generalize hrs:((List.range ops.size).filter λi=>!listed.getD i true && ((ops[i]?).map (·.after.all λe=>!Region.binds m e ||listed.getD e.on false)).getD false)=rs;have hmem:∀i,i∈rs↔i<ops.size∧listed.getD i true=false∧∃o,ops[i]?=some o∧∀e∈o.after,Region.binds m e=true->listed.getD e.on false=true:=by
   grind [Array.all_eq_true_iff_forall_mem]
  have hne:rs≠[]:=by
   cases rem with
   |nil=>simp at hf
   |cons i rem =>
    have hi:=hleft.lt i (.head _);have:i∈rs:=(hmem i).2 ⟨hi,(hleft.mem i hi).1 (.head _),ops[i],by simp[hi],λe he _=>by
     have hlt:=hok.edge i ops[i] (by simp[hi]) e he;have hen:e.on<ops.size:=o_;have hnot:e.on∉i::rem:=by
      intro hm;rcases ay.1 hm with e1|hm
      .omega
      .have:=(bZ.1 hleft.srt).1 _ hm;omega
     grind [acM.mem,acM.size]⟩
    grind
  have hlen:0<rs.length:=bS.2 hne;have hlt:=dl tt hlen;rw[bC hlt];simp only;generalize hi:rs[tt % rs.length]=i;have hirs:i∈rs:=d_;obtain⟨hin,hil,o,ho,hedges⟩:=(hmem i).1 hirs;have hirem:i∈rem:=(hleft.mem i hin).2 hil;obtain⟨l1,l2,rfl⟩:=qY hirem;have hvl:i<vs.length:=by grind [ahd.len]
  have hv:vs[i]?=some vs[i]:=s_;have hp:=dq.1 hleft.srt;have hswap:∀j∈l1,∃u,vs[j]?=some u∧vE u vs[i]=true:=by
   intro j hj;have hji:j<i:=hp.2.2 j hj i (.head _);have hjr:j∈l1++i::l2:=dp _ hj;have hjv:vs[j]?=some (vs[j]' o_):=s_;refine⟨_,hjv,(hok.pair i j _ _ o hji hv hjv ho).resolve_left λhe=>?_⟩
   grind [Np,Nat.beq_eq,Yq,acM.mem]
  have h2:=aaU hv hswap s.se h;simp only[wU,hv]at h2;split at h2
  .simp at h2
  .rename_i st1 h3;have hleft':acM ops.size (listed.setIfInBounds i true) (l1++l2):=by
    refine⟨dq.2 ⟨hp.1,(bZ.1 hp.2.1).2,λa ha b hb=>hp.2.2 a ha b (.tail _ hb)⟩,λk hk=>hleft.lt k ?_,by simp[hleft.size],λk hk=>?_⟩
    .rcases aW.1 hk with h|h
     .exact dp _ h
     .exact iq _ (.tail _ h)
    .have hsz:k<listed.size:=by rw[hleft.size];exact hk
     have hold:=hleft.mem k hk;simp only[gY,gD]at hold⊢;by_cases e:i=k
     .subst e;simp only[bj,hsz,Option.getD_some,my,iff_false];intro hm;rcases aW.1 hm with h|h
      .have:=hp.2.2 i h i (.head _);omega
      .have:=(bZ.1 hp.2.1).1 i h;omega
     .simp only[e,bm];rw[<-hold];simp only[aW,ay];constructor
      .rintro (h|h)
       .exact .inl h
       .exact .inr (.inr h)
      .rintro (h|h|h)
       .exact .inl h
       .exact absurd h.symm e
       .exact .inr h
   have hlen':(l1++l2).length=fuel:=by simp at hf⊢;omega
   have hacc:=linearise_go_acc m ops fuel (tt / rs.length) (listed.setIfInBounds i true) [i];rw[hacc];simp only[sn,List.reverse_nil,aK,aS,wpOpsIn,ho];exact aqv (ro:=ro) hr hcs hn s h3 (hok.vi i _ o hv ho) ds _ Q λt' w' g' O' G =>
    asi hr hcs hok ds m hlen' hleft' (by rw[G.size,hn]) G.st h2 λw2 t2 g2 O2 G2=>hq _ _ _ _ (G.trans G2)
theorem ah4 {vs:S_}:∀{l:S_}{k:Nat}{st:St},vs.drop k=l->wU r vs (List.range' k l.length) st=lx r l st
 |[],k,st,_=>by simp[wU,lx]
 |v::l,k,st,h=>by
  have hv:vs[k]?=some v:=by have:=aP (λl=>l[0]?) h;grind
  have h':vs.drop (k+1)=l:=by have:=aP (λl=>l.drop 1) h;grind [List.drop_drop]
  simp only[aq,List.range'_succ,wU,hv,lx]
  cases cZ r v st with
  |none=>rfl
  |some st1=>exact ah4 h'
def asJ {ro:I_}(hr:jp P r)(hcs:jF P r){n:Nat}{ops:Array Oper}{vs:S_}(ds:List Deferred)(h:tU P n ops [] vs ops.toList=true){Q:Exit->Act->World->Prop}{id:Nat}(hn:t.size=n)
  (s:S P g w st t O)(hrun:lx r vs st=some st')(hq:∀w' t' g' O',ip P g w t O st' t' w' g' O'->Q .normal ⟨t',ds⟩ w'):(Code.region id ops true).wpIn (FR ro) 0 P Q ⟨t,ds⟩ w:=by
 have hok:=azn h;refine wpIn_region_draw λtt=>?_
 have hx:bQ g w g w.drew λ_=>False:=bQ.drew _ _ _
 have sd:=s.extF hx rfl s.pmlt;have hrun':wU r vs (List.range ops.size) st=some st':=by
  rw[<-hok.len,List.range_eq_range']
  grind [ah4]
 have hleft:acM ops.size (Array.replicate ops.size false) (List.range ops.size):=by
  refine⟨List.pairwise_lt_range,λi hi=>et.1 hi,s_,λi hi=>?_⟩
  simp_all
 have key:∀m tt,wpOpsIn (FR ro) 0 P ops Q (Region.linearise m ops tt) ⟨t,ds⟩ w.drew:=λm tt =>
  asi (ro:=ro) hr hcs hok ds m s_ hleft hn sd hrun' λw' t' g' O' G=>hq _ _ _ _ ⟨G.st,(hx.mono (T:=λb=>O b≠0) λ_ _ h=>h.elim).trans G.ext λ_ _ h=>h,G.old,G.size⟩
 unfold Region.schedule;split<;>simp_all
end
abbrev HK:=HS->(HS->Prop)->(HS->HS)->Prop
def jI (K:HK)(f:St->L_)(R M:C_):Prop :=
 ∀e hs v st1,f ⟨e,hs⟩=some (v,st1)->∃ρ τ,K hs ρ τ∧st1.hs=τ hs∧(cX e->cX st1.env)∧(∀k,k∉M->get st1.env k=get e k)∧
  ∀e' hs',(∀k∈R,get e' k=get e k)->ρ hs'->∃e1',f ⟨e',hs'⟩=some (v,⟨e1',τ hs'⟩)∧(∀k,k∉M->get e1' k=get e' k)∧∀k∈M,get e1' k=get st1.env k
def Uk (K:HK)(f:St->Y_)(R M:C_):Prop :=
 ∀e hs st1,f ⟨e,hs⟩=some st1->∃ρ τ,K hs ρ τ∧st1.hs=τ hs∧(cX e->cX st1.env)∧(∀k,k∉M->get st1.env k=get e k)∧
  ∀e' hs',(∀k∈R,get e' k=get e k)->ρ hs'->∃e1',f ⟨e',hs'⟩=some ⟨e1',τ hs'⟩∧(∀k,k∉M->get e1' k=get e' k)∧∀k∈M,get e1' k=get st1.env k
def KQ:HK:=λhs ρ τ=>(∀hs',dJ hs.heap hs'.heap->ρ hs')∧∀hs',τ hs'=hs'
def Hh (h:am)(id:Nat):Option Obj->am
 |none=>h
 |some o=>put h id o
def KT:HK:=λhs ρ τ=>(∃id o0 o,get hs.heap id=some o0∧(∀hs',get hs'.heap id=some o0->ρ hs')∧(∀hs',τ hs'=⟨Hh hs'.heap id o,hs'.next⟩)∧
 ∀o1,o=some o1->km o0 o1)∨(∀hs',ρ hs')∧∀hs',τ hs'=hs'
def push:HS->List Obj->HS
 |hs,[]=>hs
 |hs,o::os=>push ⟨put hs.heap hs.next o,hs.next+1⟩ os
def KA:HK:=λhs ρ τ=>∃os,(∀hs',dJ hs.heap hs'.heap->hs'.next=hs.next->ρ hs')∧∀hs',hs'.next=hs.next->τ hs'=push hs' os
def KP:HK:=λhs ρ τ=>KQ hs ρ τ∨∃id,(∃m xs,get hs.heap id=some (.arr m xs))∧(∀hs',dJ hs.heap hs'.heap->ρ hs')∧∀hs',τ hs'=⟨del hs'.heap id,hs'.next⟩
theorem dJ.del {h:am}(id:Nat):dJ (del h id) h:=by
 intro k o hk;rw[In]at hk;split at hk
 .simp at hk
 .exact⟨o,hk,by cases o<;>simp[km]⟩
def ahT (m:Nat)(x y:Rd):jI KP (H6 m x y) (cm [x,y]) (bF [x,y]):=by
 intro e hs v st1 hf;unfold H6 at hf;split at hf
 .rename_i a e1 hr;split at hf
  .rename_i b e2 hr2;split at hf
   .rename_i ys hy;split at hf
    .split at hf
     .rename_i w h1 ha;simp only[ae,aR]at hf;obtain⟨rfl,rfl⟩:=hf;have hall:rdAll e [x,y]=some ([a,b],e2):=by grind [rdAll]
      obtain⟨s1,g1,l1⟩:=KU hall;have back:∀e' hs' h1',(∀k∈cm [x,y],get e' k=get e k)->dJ hs.heap hs'.heap->eM m hs'.heap a ys=some (w,h1')->
        ∃e1',H6 m x y ⟨e',hs'⟩=some (w,⟨e1',⟨h1',hs'.next⟩⟩)∧(∀k,k∉bF [x,y]->get e1' k=get e' k)∧∀k∈bF [x,y],get e1' k=get e2 k:=by
       intro e' hs' h1' he hle happ;obtain⟨e1',hr',g1'⟩:=l1 e' he;refine⟨e1',?_,λk hk=>by simp_all,λk hk=>by simp_all⟩;simp only[rdAll]at hr';split at hr'<;>grind [H6,dJ.elems]
      unfold eM at ha;split at ha
      .simp at ha
      .split at ha
       .obtain⟨rfl,rfl⟩:=ha;exact⟨λhs'=>dJ hs.heap hs'.heap,id,.inl ⟨λ_ h=>h,λ_=>rfl⟩,rfl,s1,λk hk=>by simp_all,λe' hs' he hρ=>back e' hs' _ he hρ (by grind [eM])⟩
       .split at ha
        .obtain⟨rfl,rfl⟩:=ha;exact⟨λhs'=>dJ hs.heap hs'.heap,id,.inl ⟨λ_ h=>h,λ_=>rfl⟩,rfl,s1,λk hk=>by simp_all,λe' hs' he hρ=>back e' hs' _ he hρ (by grind [eM])⟩
        simp_all
       .rename_i id off len;split at ha
        .rename_i k xs hg;split at ha
         .obtain⟨rfl,rfl⟩:=ha;exact⟨λhs'=>dJ hs.heap hs'.heap,λhs'=>⟨Go.Vm.del hs'.heap id,hs'.next⟩,.inr ⟨id,⟨_,_,hg⟩,λ_ h=>h,λ_=>rfl⟩,rfl,s1,λk hk=>by simp_all,λe' hs' he hρ=>back e' hs' _ he hρ (by grind [eM,dJ.arr])⟩
         simp_all
        simp_all
       simp_all
     simp_all
    simp_all
   simp_all
  simp_all
 simp_all
theorem km.symm {a b:Obj}(h:km a b):km b a:=by
 cases a<;>cases b<;>simp_all [km]
def ay4 {f:St->L_}{R M:C_}(h:fO f R M):jI KQ f R M:=by
 intro e hs v st1 hf;obtain⟨h1,h2,h3,h4⟩:=h e hs v st1 hf;exact⟨λhs'=>dJ hs.heap hs'.heap,id,⟨λ_ h=>h,λ_=>rfl⟩,h1,h2,h3,h4⟩
mutual
theorem FB:∀(v:AV),share (share v)=share v
 |.own p m xs=>by cases p<;>rfl
 |.agg cs=>by simp only[share,shareAll_share cs]
 |.tup cs=>by simp only[share,shareAll_share cs]
 |.junk|.d _|.nl|.gl _|.nilp|.ptr _ _|.pel _ _ _|.pim _ _|.sl _ _ _|.fn _ _ _|.nilf|.yield _=>by rfl
theorem shareAll_share:∀(vs:D_),shareAll (shareAll vs)=shareAll vs
 |[]=>rfl
 |v::r=>by simp only[qi,FB v,shareAll_share r]
end
theorem Mx:∀(vs:D_),shareAll (fY 2 vs).2=shareAll vs
 |[]=>rfl
 |v::r=>by
  simp only[fY,qi,Mx r]
  grind [sc,FB]
def aDr {h h1:am}{n:I_}{p v:AV}(hl:loadAt h n 2 p=some (v,h1)) :
  (∃id o0 o,get h id=some o0∧h1=Hh h id o∧(∀o1,o=some o1->km o0 o1)∧∀h',get h' id=some o0->loadAt h' n 2 p=some (v,Hh h' id o))∨
   h1=h∧∀h',loadAt h' n 2 p=some (v,h'):=by
 cases p<;>simp only[loadAt,reduceCtorEq]at hl
 .rename_i id off;split at hl
  .rename_i cs hg
   cases n with
   |none =>
    simp only at hl;split at hl
    .simp at hl
    .rename_i u hu;obtain⟨rfl,rfl⟩:=hl;refine .inl ⟨id,_,some (.cells (cs.set off (sc 2 u).2)),hg,rfl,λo1 ho=>?_,λh' he=>?_⟩
     .simp only[ae]at ho;subst ho;simp only[km,kH,sc];refine dW λi=>?_
      grind [FB]
     .simp only[loadAt,he,hu];rfl
   |some m =>
    simp only at hl;split at hl
    .rename_i hb;obtain⟨rfl,rfl⟩:=hl;refine .inl ⟨id,_,some (.cells (aH cs off (fY 2 (sub cs off m)).2)),hg,rfl,λo1 ho=>?_,λh' he=>?_⟩
     .simp only[km]
      grind [Nat.le_of_ble_eq_true,Mx,kH,List.length_map,sub,aH,List.map_drop,List.take_append_drop]
     .simp only[loadAt,he,hb];rfl
    simp_all
  simp_all
 .rename_i id i off;split at hl
  .rename_i m xs hg;split at hl
   .rename_i x hx;split at hl
    .rename_i u hu;obtain⟨rfl,rfl⟩:=hl;exact .inl ⟨id,_,none,hg,rfl,λo1 ho=>by simp at ho,λh' he=>by simp only[loadAt,he,hx,hu];rfl⟩
    simp_all
   simp_all
  simp_all
 grind [loadAt]
def axW (n:I_)(p:Rd):jI KT (Fa n 2 p) (oU p) (lg p):=by
 intro e hs v st1 hf;unfold Fa at hf;split at hf
 .rename_i u e1 hr;split at hf
  .rename_i w h1 hl;obtain⟨rfl,rfl⟩:=hf;obtain⟨s1,g1,l1⟩:=Sq hr;rcases aDr hl with ⟨id,o0,o,k0,k1,k2,k3⟩|⟨k1,k3⟩
   .refine⟨λhs'=>get hs'.heap id=some o0,λhs'=>⟨Hh hs'.heap id o,hs'.next⟩,.inl ⟨id,o0,o,k0,λ_ h=>h,λ_=>rfl,k2⟩,by rw[k1],s1,λk hk=>by simp_all,λe' hs' he hρ=>?_⟩;obtain⟨e1',hr',g1'⟩:=l1 e' he
    simp_all [Fa]
   .refine⟨λ_=>True,id,.inr ⟨λ_=>trivial,λ_=>rfl⟩,u_,s1,λk hk=>by simp_all,λe' hs' he _=>?_⟩;obtain⟨e1',hr',g1'⟩:=l1 e' he
    simp_all [Fa]
  simp_all
 simp_all
section
variable {r:dQ}{K:HK}
theorem UA (d:I_)(v:AV)(st:St):(cT d v st).hs=st.hs∧(cX st.env->cX (cT d v st).env)∧∀k,get (cT d v st).env k=if d=some k then some v else get st.env k:=by
 cases hd:d<;>grind [cT,cX.put,gk]
theorem TP {i:VI}{M0:C_}{k:Nat}(hk:k∉zp i M0):i.dst≠some k∧k∉M0:=by
 grind [zp]
theorem amx {i:VI}{M0:C_}{k:Nat}(hk:k∈zp i M0):i.dst=some k∨k∈M0:=by
 grind [zp]
def tT {i:VI}{R0 M0:C_}{f:St->L_}(hf:∀st,gL r i st=match f st with|some (v,st)=>some (cT i.dst v st)|none=>none)(hl:jI K f R0 M0)(hid:∀hs,K hs (λ_=>True) id) :
  Uk K (cZ r i) (P7 i (R0++M0)) (zp i M0):=by
 have go:∀e hs st1,gL r i ⟨e,hs⟩=some st1->∃ρ τ,K hs ρ τ∧st1.hs=τ hs∧(cX e->cX st1.env)∧(∀k,k∉zp i M0->get st1.env k=get e k)∧
   ∀e' hs',(∀k∈R0++M0,get e' k=get e k)->ρ hs'->∃e1',gL r i ⟨e',hs'⟩=some ⟨e1',τ hs'⟩∧(∀k,k∉zp i M0->get e1' k=get e' k)∧∀k∈zp i M0,get e1' k=get st1.env k:=by
  intro e hs st1 h;rw[hf]at h;split at h
  .rename_i v st0 hv;simp only[ae]at h;subst h;obtain⟨ρ,τ,hK,q1,q2,q3,q4⟩:=hl e hs v st0 hv;obtain⟨t1,t2,t3⟩:=UA i.dst v st0;refine⟨ρ,τ,hK,t1.trans q1,λh=>t2 (q2 h),λk hk=>?_,λe' hs' he hρ=>?_⟩
   .grind [TP]
   .obtain⟨e1',p1,p2,p3⟩:=q4 e' hs' (λk hk=>he k (dp _ hk)) hρ;obtain⟨u1,u2,u3⟩:=UA i.dst v ⟨e1',τ hs'⟩;refine⟨(cT i.dst v ⟨e1',τ hs'⟩).env,?_,λk hk=>?_,λk hk=>?_⟩
    .rw[hf,p1]
     cases i.dst<;>rfl
    all_goals grind [TP,amx]
  simp_all
 have no:∀e hs,(cT i.dst (.tup []) ⟨e,hs⟩).hs=hs∧(cX e->cX (cT i.dst (.tup []) ⟨e,hs⟩).env)∧(∀k,k∉zp i M0->get (cT i.dst (.tup []) ⟨e,hs⟩).env k=get e k)∧
   ∀e' hs',(∀k∈R0++M0,get e' k=get e k)->(∀k,k∉zp i M0->get (cT i.dst (.tup []) ⟨e',hs'⟩).env k=get e' k)∧
    ∀k∈zp i M0,get (cT i.dst (.tup []) ⟨e',hs'⟩).env k=get (cT i.dst (.tup []) ⟨e,hs⟩).env k:=by
  intro e hs;obtain⟨t1,t2,t3⟩:=UA i.dst (.tup []) ⟨e,hs⟩;refine⟨t1,t2,λk hk=>?_,λe' hs' he=>?_⟩
  .rw[t3,aa (TP hk).1]
  grind [UA,TP,amx]
 intro e hs st1 h;unfold cZ at h
 cases hg:i.guard with
 |none =>
  simp_all [P7,cZ]
 |some sw =>
  obtain⟨sl,want⟩:=sw;rw[hg]at h;simp only at h;have hgs:P7 i (R0++M0)=sl::(R0++M0):=by unfold P7;rw[hg]
  rw[hgs];have hsl:∀e',(∀k∈sl::(R0++M0),get e' k=get e k)->get e' sl=get e sl:=λe' he=>he sl (.head _)
  have hre:∀e',(∀k∈sl::(R0++M0),get e' k=get e k)->∀k∈R0++M0,get e' k=get e k:=λe' he k hk=>he k (.tail _ hk)
  split at h
  .rename_i b hb;split at h
   .obtain⟨ρ,τ,hK,q1,q2,q3,q4⟩:=go e hs st1 h;refine⟨ρ,τ,hK,q1,q2,q3,λe' hs' he hρ=>?_⟩;obtain⟨e1',p1,p2,p3⟩:=q4 e' hs' (hre e' he) hρ
    grind [cZ]
   .rename_i hbw;simp only[ae]at h;subst h;obtain⟨q1,q2,q3,q4⟩:=no e hs;refine⟨λ_=>True,id,hid hs,q1,q2,q3,λe' hs' he _=>?_⟩;obtain⟨p2,p3⟩:=q4 e' hs' (hre e' he);refine⟨(cT i.dst (.tup []) ⟨e',hs'⟩).env,?_,p2,p3⟩;unfold cZ;rw[hg];simp only[hsl e' he,hb,hbw,ae]
    cases i.dst<;>rfl
  .rename_i hb;simp only[ae]at h;subst h;obtain⟨q1,q2,q3,q4⟩:=no e hs;refine⟨λ_=>True,id,hid hs,q1,q2,q3,λe' hs' he _=>?_⟩;obtain⟨p2,p3⟩:=q4 e' hs' (hre e' he);refine⟨(cT i.dst (.tup []) ⟨e',hs'⟩).env,?_,p2,p3⟩;unfold cZ;rw[hg];simp only[hsl e' he,hb,ae]
   cases i.dst<;>rfl
  grind
def KQ.id (hs:HS):KQ hs (λ_=>True) _root_.id:=⟨λ_ _=>trivial,λ_=>rfl⟩
def KT.id (hs:HS):KT hs (λ_=>True) _root_.id:=.inr ⟨λ_=>trivial,λ_=>rfl⟩
def KP.id (hs:HS):KP hs (λ_=>True) _root_.id:=.inl (KQ.id hs)
def KA.id (hs:HS):KA hs (λ_=>True) _root_.id:=⟨[],λ_ _ _=>trivial,λ_ _=>rfl⟩
theorem adj:∀(os:List Obj) (hs:HS),(push hs os).next=hs.next+os.length
 |[],_=>rfl
 |o::os,hs=>by simp only[push,adj os,aq];omega
theorem aiU:∀(a b:List Obj) (hs:HS),push hs (a++b)=push (push hs a) b
 |[],_,_=>rfl
 |o::a,b,hs=>by simp only[aS,push,aiU a b]
def Ry (n:Nat)(v:AV):∃u os,∀hs:HS,hs.next=n->oP hs v=(u,push hs os):=by
 have same:(∀hs,oP hs v=(v,hs))->∃u os,∀hs:HS,hs.next=n->oP hs v=(u,push hs os):=λh=>⟨v,[],λhs _=>h hs⟩
 cases v<;>try exact same λhs=>rfl
 rename_i p m xs
 cases p with
 |false=>exact same λhs=>rfl
 |true =>
  cases hm:Nat.beq m 0 with
  |true=>simp_all [oP]
  |false =>
   refine⟨.sl n 0 xs.length,[.arr m xs],λhs hn=>?_⟩
   grind [oP,push]
def P9 (n o:Nat)(v:AV):∃u os,∀hs:HS,hs.next=n->nA hs o v=(u,push hs os):=by
 have one:(∀hs,nA hs o v=oP hs v)->∃u os,∀hs:HS,hs.next=n->nA hs o v=(u,push hs os):=λh=>by
  simp_all [Ry]
 cases v<;>try exact one λhs=>rfl
 rename_i cs
 cases hc:cs[o]? with
 |none=>exact⟨.agg cs,[],λhs _=>by grind [nA,push]⟩
 |some v =>
  obtain⟨u,os,k⟩:=Ry n v;exact⟨.agg (cs.set o u),os,λhs hn=>by grind [nA]⟩
def afj (n:Nat)(p:Nat×Nat)(v:AV):∃u os,∀hs:HS,hs.next=n->qT hs p v=(u,push hs os):=by
 have one:(∀hs,qT hs p v=nA hs p.2 v)->∃u os,∀hs:HS,hs.next=n->qT hs p v=(u,push hs os):=λh=>by
  simp_all [P9]
 cases v<;>try exact one λhs=>rfl
 rename_i cs
 cases hc:cs[p.1]? with
 |none=>exact⟨.tup cs,[],λhs _=>by grind [qT,push]⟩
 |some v =>
  obtain⟨u,os,k⟩:=P9 n p.2 v;exact⟨.tup (cs.set p.1 u),os,λhs hn=>by grind [qT]⟩
def NH:∀(th:R_) (n:Nat) (v:AV),∃u os,∀hs:HS,hs.next=n->eC th v hs=(u,push hs os)
 |[],n,v=>⟨v,[],λhs _=>rfl⟩
 |p::r,n,v=>by
  obtain⟨u,os,k⟩:=afj n p v;obtain⟨u2,os2,k2⟩:=NH r (n+os.length) u;refine⟨u2,os++os2,λhs hn=>?_⟩
  grind [eC,adj,aiU]
end
def Cr.K:Cr->HK
 |.q=>KQ
 |.t=>KT
 |.a=>KA
 |.p=>KP
section
variable {r:dQ}
def Az {i:VI}(h:i.th=[])(st:St):gL r i st=match (match dn i.op r st with|some (v,st)=>some (firm v,st)|none=>none) with|some (v,st)=>some (cT i.dst v st)|none=>none:=by
 grind [gL]
theorem jI.firm {K:HK}{f:St->L_}{R M:C_}(h:jI K f R M):jI K (λst=>match f st with|some (v,st)=>some (firm v,st)|none=>none) R M:=by
 intro e hs v st1 hf;simp only at hf;split at hf
 .rename_i u st0 hu;simp only[ae,aR]at hf;obtain⟨rfl,rfl⟩:=hf;obtain⟨ρ,τ,h1,h2,h3,h4,h5⟩:=h e hs u st0 hu;refine⟨ρ,τ,h1,h2,h3,h4,λe' hs' he hρ=>?_⟩;obtain⟨e1',q1,q2,q3⟩:=h5 e' hs' he hρ
  simp_all
 simp_all
def anG (zs:D_):jI KA (Nx zs) [] []:=by
 intro e hs v st1 hf;obtain⟨rfl,rfl⟩:=hf;refine⟨λhs'=>hs'.next=hs.next,λhs'=>push hs' [.cells zs],⟨[.cells zs],λ_ _ h=>h,λ_ _=>rfl⟩,rfl,λh=>h,λ_ _=>rfl,λe' hs' _ hn=>⟨e',?_,λ_ _=>rfl,λk hk=>by simp at hk⟩⟩;simp only[Nx,hn];rfl
def aur (x:Rd):jI KA (TK x) (oU x) (lg x):=by
 intro e hs v st1 hf;unfold TK at hf;split at hf
 .rename_i u e1 hr;split at hf
  .rename_i hc;obtain⟨rfl,rfl⟩:=hf;obtain⟨s1,g1,l1⟩:=Sq hr;refine⟨λhs'=>hs'.next=hs.next,λhs'=>push hs' [.cells u.cells],⟨[.cells u.cells],λ_ _ h=>h,λ_ _=>rfl⟩,rfl,s1,λk hk=>by simp_all,λe' hs' he hn=>?_⟩;obtain⟨e1',hr',g1'⟩:=l1 e' he;refine⟨e1',?_,λk hk=>by simp_all,λk hk=>by simp_all⟩;unfold TK;simp only[hr',hc,hn];rfl
  simp_all
 simp_all
def amV {i:VI}{p:Nat×Nat}{th:R_}(h:i.th=p::th)(st:St):gL r i st=match (match dn i.op r st with|some (v,st)=>some (firm (eC (p::th) v st.hs).1,(⟨st.env,(eC (p::th) v st.hs).2⟩:St))|none=>none) with|some (v,st)=>some (cT i.dst v st)|none=>none:=by
 grind [gL]
def jI.thaw {f:St->L_}{R M:C_}(h:fO f R M)(th:R_):jI KA (λst=>match f st with|some (v,st)=>some (Go.Vm.firm (eC th v st.hs).1,(⟨st.env,(eC th v st.hs).2⟩:St))|none=>none) R M:=by
 intro e hs v st1 hf;simp only at hf;split at hf
 .rename_i u st0 hu;obtain⟨rfl,rfl⟩:=hf;obtain⟨h1,h2,h3,h4⟩:=h e hs u st0 hu;obtain⟨w,os,hw⟩:=NH th hs.next u;refine⟨λhs'=>dJ hs.heap hs'.heap∧hs'.next=hs.next,λhs'=>push hs' os,⟨os,λ_ a b=>⟨a,b⟩,λ_ _=>rfl⟩,?_,h2,h3,λe' hs' he hρ=>?_⟩
  .simp_all
  .obtain⟨e1',q1,q2,q3⟩:=h4 e' hs' he hρ.1
   simp_all
 simp_all
def oR {i:VI}{k:Cr}{R M:C_}(h:kp i=some (k,R,M)):Uk k.K (cZ r i) R M:=by
 unfold kp at h;split at h
 .rename_i p th hth;split at h
  .rename_i R0 M0 hf;obtain⟨rfl,rfl,rfl⟩:=h;exact tT (amV hth) (jI.thaw (W7 (r:=r) hf) (p::th)) KA.id
  simp_all
 .rename_i hth;split at h
  .rename_i n p ho;obtain⟨rfl,rfl,rfl⟩:=h;exact tT (Az hth) (jI.firm (by rw[ho];exact axW n p)) KT.id
  .rename_i m x y ho;obtain⟨rfl,rfl,rfl⟩:=h;exact tT (Az hth) (jI.firm (by rw[ho];exact ahT m _ y)) KP.id
  .rename_i m x y ho;obtain⟨rfl,rfl,rfl⟩:=h;exact tT (Az hth) (jI.firm (by rw[ho];exact ahT m _ y)) KP.id
  .rename_i zs ho;obtain⟨rfl,rfl,rfl⟩:=h;exact tT (Az hth) (jI.firm (by rw[ho];exact anG zs)) KA.id
  .rename_i x ho;obtain⟨rfl,rfl,rfl⟩:=h;exact tT (Az hth) (jI.firm (by rw[ho];exact aur x)) KA.id
  .split at h
   .rename_i R0 M0 hf;obtain⟨rfl,rfl,rfl⟩:=h;exact tT (Az hth) (jI.firm (ay4 (W7 (r:=r) hf))) KQ.id
   simp_all
structure dE (st:St):Prop where
 se:cX st.env
 sh:cX st.hs.heap
 fr:∀id,st.hs.next<=id->get st.hs.heap id=none
theorem Pp (h:am)(id k:Nat)(o:Option Obj):get (Hh h id o) k=match o with|none=>get h k|some o=>if k=id then some o else get h k:=by
 cases o with
 |none=>rfl
 |some o=>exact gk h id k o
def WX {h:am}(hs:cX h)(id:Nat)(o:Option Obj):cX (Hh h id o):=by
 cases o with
 |none=>exact hs
 |some o=>exact hs.put _ _
theorem XG:∀(os:List Obj) (hs:HS) (k:Nat),k<hs.next->get (push hs os).heap k=get hs.heap k
 |[],_,_,_=>rfl
 |o::os,hs,k,hk=>by
  rw[push,XG os _ k d_]
  grind [gk]
def amB:∀(os:List Obj) (hs:HS),(∀id,hs.next<=id->get hs.heap id=none)->∀id,(push hs os).next<=id->get (push hs os).heap id=none
 |[],_,h=>h
 |o::os,hs,h=>amB os _ λid hid=>by
  grind [gk]
def air:∀(os:List Obj) (hs:HS),cX hs.heap->cX (push hs os).heap
 |[],_,h=>h
 |o::os,hs,h=>air os _ (h.put _ _)
def aiT:∀(os:List Obj) (hs:HS) (id:Nat) (o:Option Obj),cX hs.heap->id<hs.next->push ⟨Hh hs.heap id o,hs.next⟩ os=⟨Hh (push hs os).heap id o,(push hs os).next⟩
 |[],_,_,_,_,_=>rfl
 |p::os,hs,id,o,hsrt,hid=>by
  have e:put (Hh hs.heap id o) hs.next p=Hh (put hs.heap hs.next p) id o:=by
   refine vu ((WX hsrt id o).put _ _) (WX (hsrt.put _ _) id o) λk=>?_
   grind [gk,Pp]
  simp only[push];rw[e];exact aiT os ⟨put hs.heap hs.next p,hs.next+1⟩ id o (hsrt.put _ _) (by grind)
theorem dJ.push {hs:HS}(fr:∀id,hs.next<=id->get hs.heap id=none)(os:List Obj):dJ hs.heap (push hs os).heap:=by
 intro id o h
 grind [km.refl,XG]
theorem dJ.upd {h:am}{id:Nat}{o0:Obj}{o:Option Obj}(g:get h id=some o0)(ho:∀o1,o=some o1->km o0 o1):dJ h (Hh h id o)∧dJ (Hh h id o) h:=by
 constructor
 .intro k x hx
  grind [Pp,km.refl]
 .intro k x hx
  grind [Pp,km.refl,km.symm]
theorem Ix {i:VI}{k:Cr}{R M:C_}(h:kp i=some (k,R,M)){st st1:St}(inv:dE st)(hr:cZ r i st=some st1):dE st1:=by
 obtain⟨e,hs⟩:=st;obtain⟨ρ,τ,hK,h1,h2,_,_⟩:=oR (r:=r) h e hs st1 hr;refine⟨h2 inv.se,?_,?_⟩
 .rw[h1]
  cases k with
  |q=>rw[hK.2 hs];exact inv.sh
  |t =>
   rcases hK with ⟨id,o0,o,g,_,ht,_⟩|⟨_,ht⟩
   .rw[ht];exact WX inv.sh _ _
   .rw[ht];exact inv.sh
  |a=>obtain⟨os,_,ht⟩:=hK;rw[ht hs rfl];exact air _ _ inv.sh
  |p =>
   rcases hK with hK|⟨id,_,_,ht⟩
   .rw[hK.2 hs];exact inv.sh
   .rw[ht];exact inv.sh.del _
 .rw[h1]
  cases k with
  |q=>rw[hK.2 hs];exact inv.fr
  |t =>
   rcases hK with ⟨id,o0,o,g,_,ht,_⟩|⟨_,ht⟩
   .rw[ht];intro k hk;have:=inv.fr k hk
    grind [Pp]
   .rw[ht];exact inv.fr
  |a=>obtain⟨os,_,ht⟩:=hK;rw[ht hs rfl];exact amB _ _ inv.fr
  |p =>
   rcases hK with hK|⟨id,_,_,ht⟩
   .rw[hK.2 hs];exact inv.fr
   .rw[ht];intro k hk;rw[In];split
    .rfl
    .exact inv.fr k hk
def apy {u v:VI}(h:Ic u v=true){st st1 st2:St}(inv:dE st)(a:cZ r u st=some st1)(b:cZ r v st1=some st2):∃st1',cZ r v st=some st1'∧cZ r u st1'=some st2:=by
 unfold Ic at h;split at h
 .rename_i k1 R1 M1 k2 R2 M2 e1 e2;simp only[af]at h;obtain⟨⟨⟨hk,a1⟩,a2⟩,a3⟩:=h;have d1:∀k∈M1,k∉R2∧k∉M2:=λk hk=>⟨jS a1 k hk,jS a2 k hk⟩
  have d2:∀k∈M2,k∉R1∧k∉M1:=λk hk=>⟨jS a3 k hk,λh=>jS a2 k h hk⟩
  have inv1:=Ix e1 inv a;have inv2:=Ix e2 inv1 b;obtain⟨e,hs⟩:=st;obtain⟨ρ1,τ1,K1,q1,q2,q3,q4⟩:=oR (r:=r) e1 e hs _ a;obtain⟨en1,hs1⟩:=st1;subst q1;obtain⟨ρ2,τ2,K2,p1,p2,p3,p4⟩:=oR (r:=r) e2 en1 (τ1 hs) _ b;have key:ρ2 hs∧ρ1 (τ2 hs)∧τ1 (τ2 hs)=τ2 (τ1 hs):=by
   cases k1 with
   |a=>grind [By]
   |p =>
    cases k2 with
    |t=>grind [By]
    |a=>grind [By]
    |p=>grind [By]
    |q =>
     have ht:∀x,τ2 x=x:=K2.2;rcases K1 with K1|⟨id,_,hρ,hτ⟩
     .rw[K1.2 hs]at K2;exact⟨K2.1 _ (.refl _),by rw[ht];exact K1.1 _ (.refl _),u_⟩
     .exact⟨K2.1 _ (by grind [dJ.del]),by grind [dJ.refl],u_⟩
   |q =>
    have ht:∀x,τ1 x=x:=K1.2
    cases k2 with
    |p=>grind [By]
    |q =>
     rw[ht hs]at K2;exact⟨K2.1 _ (.refl _),by rw[K2.2];exact K1.1 _ (.refl _),u_⟩
    |t =>
     rw[ht hs]at K2;rcases K2 with ⟨id,o0,o,g,hρ,hτ,hl⟩|⟨hρ,hτ⟩
     .exact⟨hρ _ g,by rw[hτ];exact K1.1 _ (dJ.upd g hl).1,u_⟩
     .exact⟨hρ _,by rw[hτ];exact K1.1 _ (.refl _),u_⟩
    |a =>
     rw[ht hs]at K2;obtain⟨os,hρ,hτ⟩:=K2;exact⟨hρ _ (.refl _) rfl,by rw[hτ _ rfl];exact K1.1 _ (dJ.push inv.fr os),u_⟩
   |t =>
    cases k2 with
    |t=>grind [By]
    |p=>grind [By]
    |q =>
     have ht:∀x,τ2 x=x:=K2.2;rcases K1 with ⟨id,o0,o,g,hρ,hτ,hl⟩|⟨hρ,hτ⟩
     .exact⟨K2.1 _ (by grind [dJ.upd]),u_,u_⟩
     .exact⟨K2.1 _ (by grind [dJ.refl]),hρ _,u_⟩
    |a =>
     obtain⟨os,hρ2,hτ2⟩:=K2;rcases K1 with ⟨id,o0,o,g,hρ,hτ,hl⟩|⟨hρ,hτ⟩
     .have hn:(τ1 hs).next=hs.next:=by rw[hτ]
      have hid:id<hs.next:=by
       rcases bD id hs.next with h1|h1
       .exact h1
       .have:=inv.fr id h1;simp_all
      refine⟨hρ2 _ (by grind [dJ.upd]) hn.symm,?_,?_⟩
      .grind [XG]
      .rw[hτ2 _ hn.symm,hτ2 _ rfl,hτ,hτ];exact(aiT os hs id o inv.sh hid).symm
     grind [dJ.refl]
  obtain⟨c1,c2,c3⟩:=key;obtain⟨e1',k1',k2',k3'⟩:=p4 e hs (λk hk=>(q3 k (λhm=>(d1 k hm).1 hk)).symm) c1;obtain⟨e2',m1,m2,m3⟩:=q4 e1' (τ2 hs) (λk hk=>k2' k λhm=>(d2 k hm).1 hk) c2;have invA:=Ix e2 inv k1';have invB:=Ix e1 invA m1;refine⟨⟨e1',τ2 hs⟩,k1',?_⟩;rw[m1,c3]
  congr 2
  refine vu invB.se inv2.se λk=>?_
  by_cases hk1:k∈M1
  all_goals grind
 simp_all
end
mutual
theorem asn:∀(a b:D),Qr a b=true->a=b
 |.int k n,b,h=>by
  cases b<;>simp only[Qr,ao,af,decide_eq_true_eq]at h
  rw[FE h.1,h.2]
 |.bool x,b,h=>by
  cases b<;>simp only[Qr,ao,beq_iff_eq]at h
  rw[h]
 |.str s,b,h=>by
  cases b<;>simp only[Qr,ao,beq_iff_eq]at h
  rw[h]
 |.lst xs,b,h=>by
  cases b<;>simp only[Qr,ao]at h
  rw[eqDss_eq xs _ h]
theorem ab3:∀(a b:W_),Tm a b=true->a=b
 |[],b,h=>by cases b<;>simp only[Tm,ao]at h;rfl
 |x::r,b,h=>by
  cases b<;>simp only[Tm,ao,af]at h
  rw[asn x _ h.1,ab3 r _ h.2]
theorem eqDss_eq:∀(a b:E_),eqDss a b=true->a=b
 |[],b,h=>by cases b<;>simp only[eqDss,ao]at h;rfl
 |x::r,b,h=>by
  cases b<;>simp only[eqDss,ao,af]at h
  rw[ab3 x _ h.1,eqDss_eq r _ h.2]
end
mutual
theorem ax4:∀(a b:AV),jt a b=true->a=b
 |.junk,b,h=>by cases b<;>simp only[jt,ao]at h;rfl
 |.d x,b,h=>by
  cases b<;>simp only[jt,ao]at h
  rw[asn x _ h]
 |.nl,b,h=>by cases b<;>simp only[jt,ao]at h;rfl
 |.own p m xs,b,h=>by
  cases b<;>simp only[jt,ao,af,beq_iff_eq,aD]at h
  rw[h.1.1,h.1.2,eqDss_eq xs _ h.2]
 |.gl n,b,h=>by
  cases b<;>simp only[jt,ao,aD]at h
  rw[h]
 |.agg cs,b,h=>by
  cases b<;>simp only[jt,ao]at h
  rw[eqAVs_eq cs _ h]
 |.tup cs,b,h=>by
  cases b<;>simp only[jt,ao]at h
  rw[eqAVs_eq cs _ h]
 |.nilp,b,h=>by cases b<;>simp only[jt,ao]at h;rfl
 |.ptr _ _,b,h=>by
  cases b<;>simp only[jt,ao,af,aD]at h
  rw[h.1,h.2]
 |.pel _ _ _,b,h=>by
  cases b<;>simp only[jt,ao,af,aD]at h
  rw[h.1.1,h.1.2,h.2]
 |.pim cs _,b,h=>by
  cases b<;>simp only[jt,ao,af,aD]at h
  rw[ab3 cs _ h.1,h.2]
 |.sl _ _ _,b,h=>by
  cases b<;>simp only[jt,ao,af,aD]at h
  rw[h.1.1,h.1.2,h.2]
 |.fn _ a c,b,h=>by
  cases b<;>simp only[jt,ao,af,aD]at h
  rw[h.1.1,eqAVs_eq a _ h.1.2,eqAVs_eq c _ h.2]
 |.nilf,b,h=>by cases b<;>simp only[jt,ao]at h;rfl
 |.yield _,b,h=>by
  cases b<;>simp only[jt,ao,aD]at h
  rw[h]
theorem eqAVs_eq:∀(a b:D_),eqAVs a b=true->a=b
 |[],b,h=>by cases b<;>simp only[eqAVs,ao]at h;rfl
 |x::r,b,h=>by
  cases b<;>simp only[eqAVs,ao,af]at h
  rw[ax4 x _ h.1,eqAVs_eq r _ h.2]
end
theorem aAZ {a b:Obj}(h:eqO a b=true):a=b:=by
 cases a<;>cases b<;>simp only[eqO,ao,af,aD]at h
 all_goals grind [eqAVs_eq,eqDss_eq]
theorem R6 (h:am)(k:Nat):∀(ids:C_),get (ed ids h) k=if k∈ids then get h k else none
 |[]=>by grind [ed,Bj]
 |i::r=>by
  have ih:=R6 h k r
  grind [ed,gk]
def dJ.only (h:am)(ids:C_):dJ (ed ids h) h:=by
 intro k o hk
 grind [R6,km.refl]
theorem adA:∀{F:C_}{h h':am},dR F h h'=true->∀{k:Nat}{o:Obj},k∈F->get h k=some o->get h' k=some o
 |[],_,_,_,k,o,hm,_=>by simp at hm
 |i::r,h,h',hs,k,o,hm,hk=>by
  simp only[dR,af]at hs;rcases ay.1 hm with e|hm
  .grind [aAZ]
  .exact adA hs.2 hm hk
def adn:∀{F:C_}{h h':am}{i:Nat},dR F h h'=true->i∈F->(match get h i with
   |some o=>(match get h' i with|some o'=>eqO o o'|none=>false)
   |none=>true)=true
 |x::F,h,h',i,hs,hi=>by
  simp only[dR,af]at hs;rcases ay.1 hi with e|hi
  .grind
  .exact adn hs.2 hi
theorem adJ:∀{F' F:C_}{h h':am},dR F h h'=true->(∀k∈F',k∈F)->dR F' h h'=true
 |[],_,_,_,_,_=>rfl
 |i::r,F,h,h',hs,hsub=>by
  simp only[dR,af];exact⟨adn hs (hsub i (.head _)),adJ hs λk hk=>hsub k (.tail _ hk)⟩
def dJ.same {F ids:C_}{h h':am}(hs:dR F h h'=true)(hsub:∀k∈ids,k∈F):dJ (ed ids h) (ed ids h'):=by
 intro k o hk
 grind [R6,adA,km.refl]
section
variable {r:dQ}
def ajw (f:St->Y_)(R M:C_):Prop :=
 ∀e hs st1,f ⟨e,hs⟩=some st1->(cX e->cX st1.env)∧(∀k,k∉M->get st1.env k=get e k)∧
  ∀e',(∀k∈R,get e' k=get e k)->∃e1',f ⟨e',hs⟩=some ⟨e1',st1.hs⟩∧(∀k,k∉M->get e1' k=get e' k)∧∀k∈M,get e1' k=get st1.env k
def Uk.w {K:HK}{f:St->Y_}{R M:C_}(h:Uk K f R M)(hK:∀hs ρ τ,K hs ρ τ->ρ hs):ajw f R M:=by
 intro e hs st1 hf;obtain⟨ρ,τ,k,q1,q2,q3,q4⟩:=h e hs st1 hf;refine⟨q2,q3,λe' he=>?_⟩;rw[q1];exact q4 e' hs he (hK _ _ _ k)
def Cr.self (k:Cr)(hs:HS)(ρ:HS->Prop)(τ:HS->HS)(h:k.K hs ρ τ):ρ hs:=by
 cases k with
 |q=>exact h.1 _ (.refl _)
 |t =>
  rcases h with ⟨id,o0,o,g,hρ,_⟩|⟨hρ,_⟩<;>simp_all
 |a=>obtain⟨os,hρ,_⟩:=h;grind [dJ.refl]
 |p =>
  rcases h with h|⟨id,_,hρ,_⟩
  .exact h.1 _ (.refl _)
  grind [dJ.refl]
def KW:HK:=λhs ρ _=>ρ hs
def KW.id (hs:HS):KW hs (λ_=>True) _root_.id:=trivial
def jI.rdsW {f:St->L_}{rs:U_}(F:D_->HS->X_)
  (h:∀e hs,f ⟨e,hs⟩=match rdAll e rs with|none=>none|some (vs,e1)=>match F vs hs with|none=>none|some (v,hs1)=>some (v,⟨e1,hs1⟩)):jI KW f (cm rs) (bF rs):=by
 intro e hs v st1 hf;rw[h]at hf;split at hf
 .simp at hf
 .rename_i vs e1 hr;split at hf
  .simp at hf
  .rename_i u hs1 hu;obtain⟨rfl,rfl⟩:=hf;obtain⟨s1,g1,l1⟩:=KU hr;refine⟨λhs'=>hs'=hs,λ_=>hs1,rfl,rfl,s1,λk hk=>by simp_all,λe' hs' he hρ=>?_⟩;obtain⟨e1',hr',g1'⟩:=l1 e' he
   simp_all
def jI.thawW {f:St->L_}{R M:C_}(h:jI KW f R M)(th:R_):jI KW (λst=>match f st with|some (v,st)=>some (Go.Vm.firm (eC th v st.hs).1,(⟨st.env,(eC th v st.hs).2⟩:St))|none=>none) R M:=by
 intro e hs v st1 hf;simp only at hf;split at hf
 .rename_i u st0 hu;obtain⟨rfl,rfl⟩:=hf;obtain⟨ρ,τ,k,h1,h2,h3,h4⟩:=h e hs u st0 hu;refine⟨λhs'=>hs'=hs,λ_=>(eC th u st0.hs).2,rfl,rfl,h2,h3,λe' hs' he hρ=>?_⟩;subst hρ;obtain⟨e1',q1,q2,q3⟩:=h4 e' hs' he k
  simp_all
 simp_all
def arI {v:pk}{rs:U_}(h:auu v=some rs):jI KW (dn v r) (cm rs) (bF rs):=by
 unfold auu at h;split at h<;>simp only[ae,reduceCtorEq]at h<;>subst h
 .rename_i n t p;refine jI.rdsW (λvs hs=>match vs with|[p]=>(match loadAt hs.heap n t p with|some (v,h)=>some (v,⟨h,hs.next⟩)|none=>none)|_=>none) λe hs=>?_
  grind [dn,Fa,rdAll]
 .rename_i n p x;refine jI.rdsW (λvs hs=>match vs with|[p,v]=>(match storeAt hs.heap n p v with|some h=>some (.junk,⟨h,hs.next⟩)|none=>none)|_=>none) λe hs=>?_
  simp only[dn,anu,rdAll]
  grind
 .rename_i m x y;refine jI.rdsW (λvs hs=>match vs with
   |[a,b]=>(match Ym m (.c a) (.c b) ⟨[],hs⟩ with|some (v,st)=>some (v,st.hs)|none=>none)
   |_=>none) λe hs=>?_
  simp only[dn,Ym,rdAll]
  cases rd e x with
  |none=>rfl
  |some q =>
   obtain⟨a,e1⟩:=q;simp only
   cases rd e1 y with
   |none=>rfl
   |some q =>
    obtain⟨b,e2⟩:=q;simp only[rd]
    cases elems hs.heap b with
    |none=>rfl
    |some ys =>
     simp only;split<;>grind
 .rename_i z x;refine jI.rdsW (λvs hs=>match vs with
   |[a]=>(match T3 z (.c a) ⟨[],hs⟩ with|some (v,st)=>some (v,st.hs)|none=>none)
   |_=>none) λe hs=>?_
  simp only[dn,T3,rdAll]
  grind [rd]
 .rename_i f args;refine jI.rdsW (λvs hs=>r.call f vs hs) λe hs=>?_
  grind [dn,D0]
 .refine jI.rdsW (λvs hs=>match vs with|fv::vs=>cA r fv vs hs|[]=>none) λe hs=>?_
  grind [dn,EH,rdAll]
def BJ {i:VI}{R M:C_}(h:kD i=some (R,M)):ajw (cZ r i) R M:=by
 unfold kD at h;split at h
 .rename_i k R0 M0 hk;obtain⟨rfl,rfl⟩:=h;exact(oR hk).w k.self
 .split at h
  .rename_i rs hrs;obtain⟨rfl,rfl⟩:=h;refine Uk.w (K:=KW) ?_ λ_ _ _ h=>h
   cases hth:i.th with
   |nil=>exact tT (Az hth) (jI.firm (arI hrs)) KW.id
   |cons p th=>exact tT (amV hth) (jI.thawW (arI hrs) (p::th)) KW.id
  simp_all
theorem SF {i:VI}{k:Cr}{R M:C_}(h:kp i=some (k,R,M)){d:Nat}(hd:i.dst=some d):d∈M:=by
 grind [zp,kp]
theorem Gc {i:VI}{R M:C_}(h:kD i=some (R,M)){d:Nat}(hd:i.dst=some d):d∈M:=by
 grind [kD,SF,zp]
def WD {e e':aZ}:∀{ws:C_},(∀k∈ws,get e' k=get e k)->UC e' ws=UC e ws
 |[],_=>rfl
 |w::ws,h=>by
  simp only[UC,h w (.head _),WD λk hk=>h k (.tail _ hk)]
def lk {a:Bool}{i:VI}{R M:C_}(h:Ad a i=some (R,M))(F:C_):ajw (cu r a F i) R M:=by
 unfold Ad at h;split at h
 .rename_i R0 M0 hf
  cases a with
  |false =>
   obtain⟨rfl,rfl⟩:=h;exact BJ hf
  |true =>
   obtain⟨rfl,rfl⟩:=h;have hl:=BJ (r:=r) hf;intro e hs st1 hr;have hids:∀e',(∀k∈R0++RT (Ua i.op),get e' k=get e k)->oN i e'=oN i e:=λe' he=>WD λk hk=>he k (iq _ hk)
   have hR0:∀e',(∀k∈R0++RT (Ua i.op),get e' k=get e k)->∀k∈R0,get e' k=get e k:=λe' he k hk=>he k (dp _ hk)
   simp only[cu,xf]at hr;split at hr
   .split at hr
    .rename_i st2 h2;split at hr
     .simp only[ae]at hr;subst hr;obtain⟨q1,q2,q3⟩:=hl e hs _ h2;refine⟨q1,q2,λe' he=>?_⟩;obtain⟨e1',p1,p2,p3⟩:=q3 e' (hR0 e' he)
      grind [cu,xf]
     simp_all
    simp_all
   .split at hr
    .rename_i st2 h2;split at hr
     .split at hr
      .split at hr
       .simp only[ae]at hr;subst hr;obtain⟨q1,q2,q3⟩:=hl e hs _ h2;refine⟨q1,q2,λe' he=>?_⟩;obtain⟨e1',p1,p2,p3⟩:=q3 e' (hR0 e' he)
        grind [Gc,cu,xf]
       simp_all
      simp_all
     simp_all
    simp_all
   .split at hr
    .rename_i st2 h2;simp only[ae]at hr;subst hr;obtain⟨q1,q2,q3⟩:=hl e _ _ h2;refine⟨q1,q2,λe' he=>?_⟩;obtain⟨e1',p1,p2,p3⟩:=q3 e' (hR0 e' he)
     simp_all [cu,xf]
    simp_all
 simp_all
theorem xa {f1 f2:St->Y_}{R1 M1 R2 M2:C_}(h1:ajw f1 R1 M1)(h2:ajw f2 R2 M2)(d1:∀k∈M1,k∉R2∧k∉M2)(d2:∀k∈M2,k∉R1∧k∉M1){e e1 e2:aZ}{hs hs1 hs2 hsB:HS}(hsrt:cX e)
  (a:f1 ⟨e,hs⟩=some ⟨e1,hs1⟩)(b:f2 ⟨e1,hs1⟩=some ⟨e2,hs2⟩)(i:f2 ⟨e1,hs⟩=some ⟨e2,hsB⟩)(ii:f1 ⟨e,hsB⟩=some ⟨e1,hs2⟩) :
  ∃st1',f2 ⟨e,hs⟩=some st1'∧f1 st1'=some ⟨e2,hs2⟩:=by
 obtain⟨s1,g1,_⟩:=h1 e hs _ a;obtain⟨s2,g2,l2⟩:=h2 e1 hs _ i;obtain⟨e',k1,k2,k3⟩:=l2 e λk hk=>(g1 k λhm=>(d1 k hm).1 hk).symm
 obtain⟨s3,g3,l3⟩:=h1 e hsB _ ii;obtain⟨e'',m1,m2,m3⟩:=l3 e' λk hk=>k2 k λhm=>(d2 k hm).1 hk
 refine⟨⟨e',hsB⟩,k1,?_⟩;rw[m1];obtain⟨t1,_,_⟩:=h2 e hs _ k1;obtain⟨t2,_,_⟩:=h1 e' hsB _ m1
 congr 2
 refine vu (t2 (t1 hsrt)) (s2 (s1 hsrt)) λk=>?_
 by_cases hk1:k∈M1
 all_goals grind
def avm {v:pk}(hv:sOp v=true){e:aZ}{hs:HS}{x:AV}{st1:St}(h:dn v r ⟨e,hs⟩=some (x,st1)):st1.hs=hs∧∀hs',dn v r ⟨e,hs'⟩=some (x,⟨st1.env,hs'⟩):=by
 cases v<;>simp only[sOp,ao]at hv
 all_goals
  simp only[dn,Ui,lM,Ex,P5,Ia,NX,Tx,MD,Nj,abY,Iu,Ir,mM,abz,PW,M7,WC,Pa,CP,Uh,Pn,AS]at h⊢
  repeat' split at h
  all_goals grind
end
abbrev jQ:=@Nat.ne_of_beq_eq_false
section
variable {r:dQ}
def IG {l:R_}(h:MO l=true):l=[]:=by
 grind [MO]
theorem Ol {a:Bool}{F:C_}{i:VI}(h:kS a i=true){e:aZ}{hs:HS}{st1:St}(hr:cu r a F i ⟨e,hs⟩=some st1):st1.hs=hs∧∀hs',cu r a F i ⟨e,hs'⟩=some ⟨st1.env,hs'⟩:=by
 simp only[kS,af,cS]at h;obtain⟨⟨ha,hth⟩,hop⟩:=h;have hth:=IG hth;subst ha;simp only[cu]at hr⊢;have go:∀st1,gL r i ⟨e,hs⟩=some st1->st1.hs=hs∧∀hs',gL r i ⟨e,hs'⟩=some ⟨st1.env,hs'⟩:=by
  intro st1 h;unfold gL at h;simp only[hth]at h;split at h
  .rename_i v st0 hv;simp only[ae]at h;subst h;obtain⟨q1,q2⟩:=avm hop hv;refine⟨by cases i.dst<;>exact q1,λhs'=>?_⟩;unfold gL;simp only[hth,q2 hs']
   cases i.dst<;>rfl
  simp_all
 unfold cZ at hr
 cases hg:i.guard with
 |none =>
  grind [cZ]
 |some sw =>
  rw[hg]at hr;simp only at hr;split at hr
  .rename_i b hb;split at hr
   .grind [cZ]
   .rename_i hbw;simp only[ae]at hr;subst hr;exact⟨by cases i.dst<;>rfl,λhs'=>by unfold cZ;rw[hg];simp only[hb,hbw];cases i.dst<;>rfl⟩
  .rename_i hb;simp only[ae]at hr;subst hr;exact⟨by cases i.dst<;>rfl,λhs'=>by unfold cZ;rw[hg];simp only[hb];cases i.dst<;>rfl⟩
  simp_all
theorem XA {i:VI}(h:isQ i=true):∃R M,kp i=some (.q,R,M):=by
 grind [isQ]
theorem XL {i:VI}(h:isP i=true):∃R M,kp i=some (.p,R,M):=by
 grind [isP]
theorem Km {i:VI}(h:IS i=true):ua i.op=.read:=by
 grind [IS]
def aqd {i:VI}(h:aht i=true):ua i.op=.take:=by
 grind [aht]
theorem adk {i:VI}(h:YJ i=true):ua i.op=.call:=by
 grind [YJ]
theorem TZ {a:Bool}{F:C_}{i:VI}(h:WH a i=true){e:aZ}{hs:HS}{st1:St}(hr:cu r a F i ⟨e,hs⟩=some st1):st1.hs=hs:=by
 simp only[WH,af,dc,cS]at h;obtain⟨hq,hn⟩:=h;obtain⟨R,M,hk⟩:=XA hq;have plain:cZ r i ⟨e,hs⟩=some st1->st1.hs=hs:=λh=>by
  obtain⟨ρ,τ,K,q1,_⟩:=oR hk e hs st1 h;rw[q1];exact K.2 hs
 cases a<;>grind [Km,cu,xf]
def TY {K:HK}{f:St->Y_}{R M:C_}(hl:Uk K f R M){e:aZ}(hsrt:cX e){hs:HS}{st1:St}(hr:f ⟨e,hs⟩=some st1):∃ρ τ,K hs ρ τ∧st1.hs=τ hs∧∀hs',ρ hs'->f ⟨e,hs'⟩=some ⟨st1.env,τ hs'⟩:=by
 obtain⟨ρ,τ,k,q1,q2,q3,q4⟩:=hl e hs st1 hr;refine⟨ρ,τ,k,q1,λhs' hρ=>?_⟩;obtain⟨e1',p1,p2,p3⟩:=q4 e hs' (λ_ _=>rfl) hρ;obtain⟨_,_,_,_,s2,_,_⟩:=hl e hs' _ p1
 grind [vu]
def arn {F F':C_}{u:VI}(hq:isQ u=true)(hn:IS u=true){e:aZ}(hsrt:cX e){hs:HS}{st1:St}(hr:cu r true F u ⟨e,hs⟩=some st1) :
  ∀hs',dJ (ed (oN u e) hs.heap) (ed (oN u e) hs'.heap)->cu r true F' u ⟨e,hs'⟩=some ⟨st1.env,hs'⟩:=by
 intro hs' hle;obtain⟨R,M,hk⟩:=XA hq;have hn:=Km hn;simp only[cu,xf,hn]at hr⊢;split at hr
 .rename_i st2 h2;simp only[ae]at hr;subst hr;obtain⟨ρ,τ,K,q1,q2⟩:=TY (oR hk) hsrt h2;rw[q2 ⟨ed (oN u e) hs'.heap,hs'.next⟩ (K.1 _ hle)]
 simp_all
def ap6 {F:C_}{v:VI}(hn:YJ v=true){e:aZ}{hs:HS}{st1:St}(hr:cu r true F v ⟨e,hs⟩=some st1):dR F hs.heap st1.hs.heap=true:=by
 grind [adk,cu,xf]
def aju {a:Bool}{F F':C_}{v:VI}{st st1:St}(hsub:∀k∈F',k∈F)(hr:cu r a F v st=some st1):cu r a F' v st=some st1:=by
 cases a<;>grind [cu,xf,adJ]
def au6 (a:Bool)(v:VI)(e:aZ){F F':C_}(hsub:∀k∈F',k∈F):∀k∈ku a v e F',k∈ku a v e F:=by
 intro k hk;unfold ku at hk⊢
 grind
def ay8 (a:Bool)(v:VI)(e:aZ)(F:C_):∀k∈F,k∈ku a v e F:=by
 intro k hk;unfold ku
 grind
theorem W9 {nr:C_}{vs:S_}:∀{l:C_}{F F':C_}{st st':St},(∀k∈F',k∈F)->f9 r nr vs l F st=some st'->f9 r nr vs l F' st=some st'
 |[],_,_,_,_,_,h=>h
 |i::l,F,F',st,st',hsub,h=>by
  simp only[f9]at h⊢;split at h
  .simp at h
  .split at h
   .simp at h
   .rename_i st1 h1;simp only[aju hsub h1];exact W9 (au6 _ _ _ hsub) h
theorem amS {a:Bool}{F:C_}{v:VI}{e:aZ}{hs:HS}(hsrt:cX e){R M:C_}(hf:a=false∨ua v.op≠.read∨kp v=some (.q,R,M)){st1:St}(hr:cu r a F v ⟨e,hs⟩=some st1):cZ r v ⟨e,hs⟩=some st1:=by
 cases a with
 |false=>exact hr
 |true =>
  simp only[cu,xf]at hr;split at hr
  .grind
  .grind
  .rename_i hn;split at hr
   .rename_i st2 h;simp only[ae]at hr;subst hr;have hk:=(hf.resolve_left s_).resolve_left (λh=>h hn);obtain⟨ρ,τ,K,q1,q2⟩:=TY (oR hk) hsrt h;have:=q2 hs (K.1 _ (dJ.only _ _));rw[K.2 hs]at this;exact this
   simp_all
theorem um {a b:Bool}{u v:VI}(h:FI a b u v=true):∃R1 M1 R2 M2,Ad a u=some (R1,M1)∧Ad b v=some (R2,M2)∧(∀k∈M1,k∉R2∧k∉M2)∧∀k∈M2,k∉R1∧k∉M1:=by
 grind [FI,jS]
def alT {a:Bool}{v:VI}{R M:C_}(h:Ad a v=some (R,M)){e e':aZ}(he:∀k∈R,get e' k=get e k)(F:C_):ku a v e' F=ku a v e F:=by
 cases a with
 |false=>rfl
 |true =>
  unfold Ad at h;split at h
  .obtain⟨rfl,rfl⟩:=h;have:oN v e'=oN v e:=WD λk hk=>he k (iq _ hk)
   grind [ku]
  simp_all
def Rm (r:dQ)(a b:Bool)(u v:VI)(F:C_)(st st1 st2:St):Prop :=
 ∃st1',cu r b F v st=some st1'∧cu r a (ku b v st.env F) u st1'=some st2∧∀k∈ku a u st1'.env (ku b v st.env F),k∈ku b v st1.env (ku a u st.env F)
theorem as4 {a b:Bool}{u v:VI}{R1 M1 R2 M2:C_}(f1:Ad a u=some (R1,M1))(f2:Ad b v=some (R2,M2))(d1:∀k∈M1,k∉R2∧k∉M2)(d2:∀k∈M2,k∉R1∧k∉M1){F:C_}{st st1 st2 st1':St}
  (h1:cu r a F u st=some st1)(k1:cu r b F v st=some st1')(k2:cu r a (ku b v st.env F) u st1'=some st2):Rm r a b u v F st st1 st2:=by
 refine⟨st1',k1,k2,?_⟩;obtain⟨e,hs⟩:=st;obtain⟨_,g1,_⟩:=lk (r:=r) f1 F e hs _ h1;obtain⟨_,g2,_⟩:=lk (r:=r) f2 F e hs _ k1;rw[alT f1 (e:=e) (e':=st1'.env) (λk hk=>g2 k λhm=>(d2 k hm).1 hk),alT f2 (e:=e) (e':=st1.env) (λk hk=>g1 k λhm=>(d1 k hm).1 hk)];intro k hk
 cases a with
 |false=>exact hk
 |true =>
  cases b<;>grind [ku]
theorem YV {a b:Bool}{u v:VI}(h:UH a b u v=true){F:C_}{st st1 st2:St}(hsrt:cX st.env)(h1:cu r a F u st=some st1)(h2:cu r b (ku a u st.env F) v st1=some st2):Rm r a b u v F st st1 st2:=by
 simp only[UH,af,dc]at h;obtain⟨hap,h⟩:=h;obtain⟨R1,M1,R2,M2,f1,f2,d1,d2⟩:=um hap;have l1:=λF=>lk (r:=r) f1 F
 have l2:=λF=>lk (r:=r) f2 F
 have h2':=aju (F':=F) (ay8 a u st.env F) h2;have fin:(∃st1',cu r b F v st=some st1'∧cu r a F u st1'=some st2)->(∀{s s':St},cu r a F u s=some s'->cu r a (ku b v st.env F) u s=some s')->Rm r a b u v F st st1 st2:=by
  grind [as4]
 obtain⟨e,hs⟩:=st;obtain⟨e1,hs1⟩:=st1;obtain⟨e2,hs2⟩:=st2;rcases h with ((h|h)|h)|h
 .obtain⟨q1,q2⟩:=Ol h h1;subst q1;refine fin (xa (l1 F) (l2 F) d1 d2 hsrt h1 h2' h2' (q2 hs2)) λ{s s'} hs=>?_
  simp only[kS,af,cS]at h;rw[h.1.1]at hs⊢;exact hs
 .obtain⟨q1,q2⟩:=Ol h h2';subst q1;refine fin (xa (l1 F) (l2 F) d1 d2 hsrt h1 h2' (q2 hs) h1) λ{s s'} hs=>?_
  simp only[kS,af,cS]at h;rw[h.1.1];exact hs
 .have q1:=TZ h.1 h1;have q2:=TZ h.2 h2'
  grind [xa,WH,Bool.not_eq_true',Km,cu,xf]
 .simp only[ahn,af]at h;obtain⟨⟨⟨⟨rfl,rfl⟩,hq⟩,hn⟩,hc⟩:=h;have q1:=TZ (r:=r) (a:=true) (i:=u) (by grind [WH]) h1;subst q1;have hnu:=Km hn;have hsame:=ap6 hc h2;have hle:=dJ.same (ids:=oN u e) hsame (λk hk=>by grind [ku]);have hF:ku true v e F=F:=by grind [ku,adk]
  refine fin (xa (l1 F) (l2 F) d1 d2 hsrt h1 h2' h2' (arn hq hn hsrt h1 hs2 hle)) λ{s s'} hs=>?_
  simp_all
def Lz (m:Bool)(vs:D_)(i:Nat):D_:=match m with|true=>vs.set i .junk|false=>vs
def WL (m:Bool)(e:aZ)(j:Nat)(vs:D_)(i:Nat):aZ:=match m with|true=>put e j (.tup (Lz m vs i))|false=>e
def apb (m:Bool)(x:AV):AV:=match m with|true=>x|false=>share x
def al8 {m:Bool}{vs:D_}{i k:Nat}(h:i≠k):(Lz m vs i)[k]?=vs[k]?:=by
 cases m
 .rfl
 .exact List.getElem?_set_ne h
theorem aqf {m n:Bool}{vs:D_}{i k:Nat}(h:i≠k):Lz n (Lz m vs i) k=Lz m (Lz n vs k) i:=by
 cases m<;>cases n<;>try rfl
 exact List.set_comm _ _ h
theorem Xk {m:Bool}{e:aZ}{j:Nat}{vs:D_}{i:Nat}(hj:get e j=some (.tup vs))(q:Nat):get (WL m e j vs i) q=if q=j then some (.tup (Lz m vs i)) else get e q:=by
 cases m
 all_goals grind [WL,Lz,gk]
theorem J0 {m:Bool}{e:aZ}(h:cX e)(j:Nat)(vs:D_)(i:Nat):cX (WL m e j vs i):=by
 cases m
 .exact h
 .exact h.put _ _
theorem MZ {u:VI}{j:Nat}{m:Bool}{i d:Nat}(ho:u.op=.ext j m i)(hd:u.dst=some d)(hg:u.guard=none)(ht:u.th=[])(e:aZ)(hs:HS):cZ r u ⟨e,hs⟩ =
  match get e j with
  |some (.tup vs)=>match vs[i]? with
   |some x=>some ⟨put (WL m e j vs i) d (firm (apb m x)),hs⟩
   |none=>none
  |_=>none:=by
 unfold cZ gL;simp only[hg,ho,dn,CP,hd,ht]
 cases get e j with
 |none=>rfl
 |some w =>
  cases w<;>try rfl
  rename_i vs;simp only
  cases vs[i]? with
  |none=>rfl
  |some x=>cases m<;>rfl
def auN {u v:VI}{j i k d c:Nat}{m n:Bool}(o1:u.op=.ext j m i)(o2:v.op=.ext j n k)(d1:u.dst=some d)(d2:v.dst=some c)(g1:u.guard=none)(g2:v.guard=none)(ht1:u.th=[])(ht2:v.th=[])
  (hik:i≠k)(hdc:d≠c)(hdj:d≠j)(hcj:c≠j){st st1 st2:St}(hsrt:cX st.env)(h1:cZ r u st=some st1)(h2:cZ r v st1=some st2):∃st1',cZ r v st=some st1'∧cZ r u st1'=some st2:=by
 obtain⟨e,hs⟩:=st;rw[MZ o1 d1 g1 ht1]at h1;split at h1
 .rename_i vs hj;split at h1
  .rename_i x hx;simp only[ae]at h1;subst h1;rw[MZ o2 d2 g2 ht2]at h2;have hj1:get (put (WL m e j vs i) d (firm (apb m x))) j=some (.tup (Lz m vs i)):=by
    grind [gk,Xk]
   rw[hj1]at h2;simp only[al8 hik]at h2;split at h2
   .rename_i y hy;simp only[ae]at h2;subst h2;have hj2:get (put (WL n e j vs k) c (firm (apb n y))) j=some (.tup (Lz n vs k)):=by
     grind [gk,Xk]
    refine⟨⟨put (WL n e j vs k) c (firm (apb n y)),hs⟩,by grind [MZ],?_⟩;rw[MZ o1 d1 g1 ht1,hj2];simp only[al8 (λh:k=i=>hik h.symm),hx,ae]
    congr 1
    refine vu ((J0 ((J0 hsrt _ _ _).put _ _) _ _ _).put _ _) ((J0 ((J0 hsrt _ _ _).put _ _) _ _ _).put _ _) λq=>?_
    grind [gk,Xk,aqf]
   simp_all
  simp_all
 simp_all
theorem Ri {a b:Bool}{u v:VI}(h:tp a b u v=true){F:C_}{st st1 st2:St}(hsrt:cX st.env)(h1:cu r a F u st=some st1)(h2:cu r b (ku a u st.env F) v st1=some st2):Rm r a b u v F st st1 st2:=by
 simp only[tp,af,cS]at h;obtain⟨⟨⟨⟨rfl,rfl⟩,ht1⟩,ht2⟩,h⟩:=h;have ht1:=IG ht1;have ht2:=IG ht2;split at h
 .rename_i j m i l n k d c o1 o2 d1 d2 g1 g2;simp only[af,cS,aD]at h;obtain⟨⟨⟨⟨rfl,hik⟩,hdc⟩,hdj⟩,hcj⟩:=h;obtain⟨st1',k1,k2⟩:=auN o1 o2 d1 d2 g1 g2 ht1 ht2 (jQ hik) (jQ hdc) (jQ hdj) (jQ hcj) hsrt h1 h2;exact⟨st1',k1,k2,λk hk=>hk⟩
 simp_all
def aos {a b:Bool}{u v:VI}(h:tp a b u v=true):kS a u=true:=by
 grind [tp,kS,sOp]
end
abbrev jU:=@List.map_set
abbrev uX:=@List.getElem?_set_self
section
variable {r:dQ}
theorem agO {cs:D_}{off:Nat}{w:AV}(h:cs[off]?=some w):km (.cells cs) (.cells (cs.set off (share w))):=by
 simp only[km,kH,jU,FB];refine dW λi=>?_
 grind
def aql (w:AV):Prop:=(∃p m xs,w=.own p m xs)∨w=.nl
def aq3 {w:AV}(h:Lg (firm w)=true):aql w:=by
 cases w with
 |own p m xs=>exact .inl ⟨_,_,_,rfl⟩
 |nl=>exact .inr rfl
 |_=>grind [firm,Lg]
theorem NU {a:Bool}{i:VI}(h:C5 a i=true):∃p,a=true∧i.op=.ld none 2 p∧i.th=[]:=by
 simp only[C5,af]at h;obtain⟨⟨ha,hn⟩,hth⟩:=h;have hth:=IG hth;have hn:=aqd hn;unfold ua at hn
 grind
theorem atO {a:Bool}{i:VI}(h:C5 a i=true)(e:aZ)(F:C_):ku a i e F=F:=by
 obtain⟨p,rfl,hop,hth⟩:=NU h
 grind [ku,ua]
theorem ayF {id off:Nat}{cs:D_}{w:AV}{h:am}(hg:get h id=some (.cells cs))(hw:cs[off]?=some w):loadAt h none 2 (.ptr id off)=some (w,put h id (.cells (cs.set off (share w)))):=by
 grind [loadAt,sc]
def O7 {a:Bool}{F:C_}{u:VI}(h:C5 a u=true){e e1:aZ}{hs hs1:HS}(hr:cu r a F u ⟨e,hs⟩=some ⟨e1,hs1⟩):∃id off cs w,get hs.heap id=some (.cells cs)∧cs[off]?=some w∧aql w∧
  hs1=⟨put hs.heap id (.cells (cs.set off (share w))),hs.next⟩∧
   ∀hs' cs',get hs'.heap id=some (.cells cs')->cs'[off]?=some w->cu r a F u ⟨e,hs'⟩=some ⟨e1,⟨put hs'.heap id (.cells (cs'.set off (share w))),hs'.next⟩⟩:=by
 obtain⟨p,rfl,hop,hth⟩:=NU h;have hn:ua u.op=.take:=by rw[hop];rfl
 simp only[cu,xf,hn]at hr⊢;split at hr
 .rename_i st1 h1;split at hr
  .rename_i d hd;split at hr
   .rename_i x hx;split at hr
    .rename_i ho;simp only[ae]at hr;subst hr;have go:gL r u ⟨e,hs⟩=some ⟨e1,hs1⟩∧∀hs',cZ r u ⟨e,hs'⟩=gL r u ⟨e,hs'⟩:=by
      have dead:∀st1:St,some (cT u.dst (.tup []) ⟨e,hs⟩)=some st1->get st1.env d=some x->False:=by
       grind [cT,gk,Lg]
      unfold cZ at h1
      cases hg:u.guard<;>grind [cZ]
     obtain⟨hgo,hsame⟩:=go;unfold gL at hgo;simp only[hth,hop,dn,Fa]at hgo;split at hgo
     .rename_i v st0 hv;split at hv
      .rename_i pv e0 hp;split at hv
       .rename_i v' h1' hl;simp only[ae,aR]at hv;obtain⟨rfl,rfl⟩:=hv;rw[hd]at hgo;obtain⟨rfl,rfl⟩:=hgo;simp only[gk,bj,ae]at hx;subst hx;have hw:=aq3 ho;have back:∀hs' h2,loadAt hs'.heap none 2 pv=some (v',h2)->(match cZ r u ⟨e,hs'⟩ with
          |some st1=>match (some d:I_) with
           |some d=>match get st1.env d with
            |some a=>match Lg a with
             |true=>some st1
             |false=>none
            |none=>none
           |none=>none
          |none=>none)=some ⟨put e0 d (firm v'),⟨h2,hs'.next⟩⟩:=by
         simp_all [gL,dn,Fa,cT,gk]
        cases pv<;>simp only[loadAt,reduceCtorEq]at hl
        .split at hl
         .split at hl
          .simp at hl
          .simp only[sc,ae,aR]at hl
           grind [ayF]
         simp_all
        .split at hl
         .split at hl
          .split at hl
           .rename_i u hu;obtain⟨rfl,_⟩:=hl;unfold oS at hu;simp only at hu;split at hu
            .simp only[ae]at hu;subst hu;rcases hw with ⟨_,_,_,h⟩|h<;>simp at h
            simp_all
           simp_all
          simp_all
         simp_all
        .split at hl
         .rename_i u hu;obtain⟨rfl,_⟩:=hl;unfold oS at hu;simp only at hu;split at hu
          .simp only[ae]at hu;subst hu;rcases hw with ⟨_,_,_,h⟩|h<;>simp at h
          simp_all
         simp_all
       simp_all
      simp_all
     simp_all
    simp_all
   simp_all
  simp_all
 simp_all
theorem TV {α:Type}{l:List (Nat×α)}(h:cX l)(k:Nat)(a b:α):put (put l k a) k b=put l k b:=by
 grind [vu,cX.put,gk]
theorem avg {α:Type}{l:List (Nat×α)}(h:cX l){j k:Nat}(hjk:j≠k)(a b:α):put (put l j a) k b=put (put l k b) j a:=by
 grind [vu,cX.put,gk]
theorem alR {α:Type}{l:List (Nat×α)}(h:cX l){j k:Nat}(hjk:j≠k)(a:α):put (del l k) j a=del (put l j a) k:=by
 grind [vu,cX.put,cX.del,gk,In]
theorem ayT {a b:Bool}{u v:VI}(hu:C5 a u=true)(hv:C5 b v=true)(hap:FI a b u v=true){F:C_}{st st1 st2:St}(inv:dE st)(h1:cu r a F u st=some st1)(h2:cu r b F v st1=some st2):∃st1',cu r b F v st=some st1'∧cu r a F u st1'=some st2:=by
 obtain⟨R1,M1,R2,M2,f1,f2,d1,d2⟩:=um hap;have l1:=lk (r:=r) f1 F;have l2:=lk (r:=r) f2 F;obtain⟨e,hs⟩:=st;obtain⟨e1,hs1⟩:=st1;obtain⟨e2,hs2⟩:=st2;have hsh:cX hs.heap:=inv.sh;obtain⟨i1,o1,c1,w1,g1,k1,n1,rfl,b1⟩:=O7 hu h1;obtain⟨i2,o2,c2,w2,g2,k2,n2,rfl,b2⟩:=O7 hv h2;rw[gk]at g2;by_cases hi:i2=i1
 .subst hi;rw[ac rfl]at g2;simp only[ae,Obj.cells.injEq]at g2;subst g2;rw[TV hsh]at h2;by_cases ho:o1=o2
  .subst ho;have hlt:o1<c1.length:=by
    grind
   rw[uX hlt]at k2;simp only[ae]at k2;have hw1:w1=.nl:=by
    rcases n1 with ⟨p,m,xs,rfl⟩|h
    .subst k2
     cases p<;>rcases n2 with ⟨_,_,_,h⟩|h<;>simp[share]at h
    .exact h
   subst hw1;have hw2:w2=.nl:=by rw[<-k2];rfl
   subst hw2;rw[TV hsh];refine xa l1 l2 d1 d2 inv.se h1 h2 (b2 hs c1 g1 k1) ?_
   grind [gk]
  .rw[TV hsh];have k2':c1[o2]?=some w2:=u_;refine xa l1 l2 d1 d2 inv.se h1 h2 (b2 hs c1 g1 k2') ?_
   grind [gk,TV,List.set_comm]
 .rw[aa hi]at g2;refine xa l1 l2 d1 d2 inv.se h1 h2 (b2 hs c2 g2 k2) ?_
  grind [gk,avg]
def agq {b:Bool}{v:VI}(h:isP v=true)(hb:(!b ||C5 b v)=true):b=false:=by
 grind [NU,isP,kp]
def axC {a:Bool}{u v:VI}(hu:C5 a u=true)(hv:isP v=true)(hap:FI a false u v=true){F:C_}{st st1 st2:St}(inv:dE st)(h1:cu r a F u st=some st1)(h2:cZ r v st1=some st2):∃st1',cZ r v st=some st1'∧cu r a F u st1'=some st2:=by
 obtain⟨R1,M1,R2,M2,f1,f2,d1,d2⟩:=um hap;have l1:=lk (r:=r) f1 F;have l2:=lk (r:=r) f2 F;obtain⟨e,hs⟩:=st;obtain⟨e1,hs1⟩:=st1;obtain⟨e2,hs2⟩:=st2;have hsh:cX hs.heap:=inv.sh;have s1:cX e1:=(l1 e hs _ h1).1 inv.se;obtain⟨i1,o1,c1,w1,g1,k1,n1,rfl,b1⟩:=O7 hu h1;have hle:dJ (put hs.heap i1 (.cells (c1.set o1 (share w1)))) hs.heap:=(dJ.upd (o:=some (.cells (c1.set o1 (share w1)))) g1 (λo1 ho=>by grind [agO])).2;obtain⟨R,M,hk⟩:=XL hv;obtain⟨ρ,τ,K,q1,q2⟩:=TY (oR hk) s1 h2;simp only at q1 q2;subst q1;rcases K with K|⟨id,⟨m,xs,ga⟩,hρ,hτ⟩
 .have hi:=q2 hs (K.1 _ hle);rw[K.2]at hi h2⊢;exact xa l1 l2 d1 d2 inv.se h1 h2 hi h1
 .have hi:=q2 hs (hρ _ hle);have hne:i1≠id:=by
   grind [gk]
  refine xa l1 l2 d1 d2 inv.se h1 h2 hi ?_
  grind [In,alR]
def ayR {b:Bool}{u v:VI}(hu:isP u=true)(hv:C5 b v=true)(hap:FI false b u v=true){F:C_}{st st1 st2:St}(inv:dE st)(h1:cZ r u st=some st1)(h2:cu r b F v st1=some st2):∃st1',cu r b F v st=some st1'∧cZ r u st1'=some st2:=by
 obtain⟨R1,M1,R2,M2,f1,f2,d1,d2⟩:=um hap;have l1:=lk (r:=r) f1 F;have l2:=lk (r:=r) f2 F;obtain⟨e,hs⟩:=st;obtain⟨e1,hs1⟩:=st1;obtain⟨e2,hs2⟩:=st2;have hsh:cX hs.heap:=inv.sh;obtain⟨R,M,hk⟩:=XL hu;obtain⟨ρ,τ,K,q1,q2⟩:=TY (oR hk) inv.se h1;subst q1;obtain⟨i2,o2,c2,w2,g2,k2,n2,rfl,b2⟩:=O7 hv h2;have hle:∀{h:am},get h i2=some (.cells c2)->dJ h (put h i2 (.cells (c2.set o2 (share w2)))):=λg=>(dJ.upd (o:=some (.cells (c2.set o2 (share w2)))) g (λo1 ho=>by grind [agO])).1
 rcases K with K|⟨id,_,hρ,hτ⟩
 .simp only[K.2]at g2 h2 h1 q2⊢;exact xa l1 l2 d1 d2 inv.se h1 h2 h2 (q2 _ (K.1 _ (hle g2)))
 .simp only[hτ]at g2 h2 h1 q2⊢;rw[In]at g2;split at g2
  .simp at g2
  .rename_i hne;refine xa l1 l2 d1 d2 inv.se h1 h2 (b2 hs c2 g2 k2) ?_;have:=q2 ⟨put hs.heap i2 (.cells (c2.set o2 (share w2))),hs.next⟩ (hρ _ (hle g2));rw[alR hsh hne];exact this
def OG {a:Bool}{u:VI}(h:(!a ||C5 a u)=true){F:C_}{st st1:St}(hr:cu r a F u st=some st1):cZ r u st=some st1∧(a=true->∃d x,u.dst=some d∧get st1.env d=some x∧Lg x=true):=by
 cases a with
 |false=>exact⟨hr,λh=>by simp at h⟩
 |true =>
  obtain⟨p,_,hop,hth⟩:=NU h;have hn:ua u.op=.take:=by rw[hop];rfl
  simp only[cu,xf,hn]at hr
  grind
def adR {a:Bool}{u:VI}(h:(!a ||C5 a u)=true){F:C_}{st st1:St}(hr:cZ r u st=some st1)(ho:a=true->∃d x,u.dst=some d∧get st1.env d=some x∧Lg x=true):cu r a F u st=some st1:=by
 cases a with
 |false=>exact hr
 |true =>
  obtain⟨p,_,hop,hth⟩:=NU h;have hn:ua u.op=.take:=by rw[hop];rfl
  grind [cu,xf]
theorem PC {a:Bool}{u:VI}(h:(!a ||C5 a u)=true)(e:aZ)(F:C_):ku a u e F=F:=by
 cases a with
 |false=>rfl
 |true=>grind [atO]
theorem adc {u v:VI}(h:Ic u v=true):∃k1 R1 M1 k2 R2 M2,kp u=some (k1,R1,M1)∧kp v=some (k2,R2,M2)∧(∀k∈M1,k∉M2):=by
 grind [Ic,jS]
theorem apB {a b:Bool}{u v:VI}(h:aau a b u v=true){F:C_}{st st1 st2:St}(inv:dE st)(h1:cu r a F u st=some st1)(h2:cu r b (ku a u st.env F) v st1=some st2):Rm r a b u v F st st1 st2:=by
 simp only[aau,af]at h;obtain⟨⟨ha,hb⟩,h⟩:=h;rw[PC ha]at h2;have fin:(∃st1',cu r b F v st=some st1'∧cu r a F u st1'=some st2)->Rm r a b u v F st st1 st2:=by
  intro ⟨st1',k1,k2⟩;refine⟨st1',k1,by grind [PC],?_⟩
  grind [PC]
 simp only[dc,af]at h;rcases h with h|⟨hap,h⟩
 .obtain⟨p1,o1⟩:=OG ha h1;obtain⟨p2,o2⟩:=OG hb h2;obtain⟨st1',q1,q2⟩:=apy h inv p1 p2;obtain⟨k1,R1,M1,k2,R2,M2,e1,e2,hap⟩:=adc h;obtain⟨en1,hs1⟩:=st1;obtain⟨en1',hs1'⟩:=st1';refine fin ⟨_,adR hb q1 λhn=>?_,adR ha q2 λhn=>?_⟩
  .obtain⟨d,x,hd,hx,ho⟩:=o2 hn;refine⟨d,x,hd,?_,ho⟩;obtain⟨_,_,_,_,_,g,_⟩:=oR e1 en1' hs1' _ q2
   grind [SF]
  .obtain⟨d,x,hd,hx,ho⟩:=o1 hn;refine⟨d,x,hd,?_,ho⟩;obtain⟨_,_,_,_,_,g,_⟩:=oR e2 en1 hs1 _ p2
   grind [SF]
 .rcases h with (h|h)|h
  .grind [ayT]
  .have:=agq h.2 hb;subst this;exact fin (axC h.1 h.2 hap inv h1 h2)
  .have:=agq h.1 ha;subst this;exact fin (ayR h.1 h.2 hap inv h1 h2)
theorem avi {a:Bool}{i:VI}(h:C5 a i=true):∃R M,kp i=some (.t,R,M):=by
 obtain⟨p,_,hop,hth⟩:=NU h
 simp_all [kp]
theorem aiY {st st1:St}(inv:dE st)(he:cX st1.env)(hh:st1.hs=st.hs):dE st1:=⟨he,by grind [dE.sh],by grind [dE.fr]⟩
def awR {u:VI}{j:Nat}{m:Bool}{i d:Nat}(ho:u.op=.ext j m i)(hd:u.dst=some d)(hg:u.guard=none)(ht:u.th=[]){st st1:St}(hs:cX st.env)(h1:cZ r u st=some st1):cX st1.env:=by
 obtain⟨e,hs0⟩:=st
 grind [MZ,cX.put,J0]
theorem Wt {a b:Bool}{u v:VI}(h:tp a b u v=true){F:C_}{st st1:St}(hs:cX st.env)(h1:cu r a F u st=some st1):cX st1.env:=by
 simp only[tp,af,cS]at h;obtain⟨⟨⟨⟨rfl,rfl⟩,ht1⟩,ht2⟩,h⟩:=h;split at h
 .rename_i j m i l n k d c o1 o2 dd1 dd2 g1 g2;exact awR o1 dd1 g1 (IG ht1) hs h1
 simp_all
def au5 {a b:Bool}{u v:VI}(h:lI a b u v=true)(hk:kS b v=false){F:C_}{st st1:St}(inv:dE st)(h1:cu r a F u st=some st1):dE st1:=by
 simp only[lI,dc]at h;rcases h with (h|h)|h
 .obtain⟨e,hs⟩:=st;simp only[UH,af,dc]at h;obtain⟨hap,h⟩:=h;obtain⟨R1,M1,R2,M2,f1,f2,d1,d2⟩:=um hap;have se:=(lk (r:=r) f1 F e hs _ h1).1 inv.se
  grind [aiY,Ol,TZ,ahn,WH]
 .exact aiY inv (Wt h inv.se h1) (Ol (aos h) h1).1
 .simp only[af]at h;obtain⟨_,h⟩:=h;simp only[aau,af]at h;obtain⟨⟨ha,hb⟩,h⟩:=h;obtain⟨p1,_⟩:=OG ha h1
  grind [adc,Ix,avi,XL]
def aus {a b:Bool}{u v:VI}(h:lI a b u v=true)(hk:kS b v=true){F:C_}{st st1:St}(hs:cX st.env)(h1:cu r a F u st=some st1):cX st1.env:=by
 simp only[lI,dc]at h;rcases h with (h|h)|h
 .obtain⟨e,hs0⟩:=st;simp only[UH,af]at h;obtain⟨R1,M1,R2,M2,f1,f2,d1,d2⟩:=um h.1;exact(lk (r:=r) f1 F e hs0 _ h1).1 hs
 all_goals grind [Wt]
def aA8 {a b:Bool}{u v:VI}(h:lI a b u v=true)(hk:kS b v=true){F:C_}{st st1 st2:St}(hs:cX st.env)(h1:cu r a F u st=some st1)(h2:cu r b (ku a u st.env F) v st1=some st2):Rm r a b u v F st st1 st2:=by
 grind [lI,YV,Ri]
def aBc {a b:Bool}{u v:VI}(h:lI a b u v=true){F:C_}{st st1 st2:St}(inv:dE st)(h1:cu r a F u st=some st1)(h2:cu r b (ku a u st.env F) v st1=some st2):Rm r a b u v F st st1 st2:=by
 grind [lI,YV,dE.se,Ri,apB]
end
abbrev vX:=@List.nodup_cons
inductive Pr (ops:Array Oper):Nat->Nat->Prop
 |one {i:Nat}{o:Oper}{e:Edge}:ops[i]?=some o->e∈o.after->ya e.ground=true->Pr ops i e.on
 |more {i j:Nat}{o:Oper}{e:Edge}:ops[i]?=some o->e∈o.after->ya e.ground=true->Pr ops e.on j->Pr ops i j
def PF {k:Nat}:∀{a l:C_},k∈Su a l->k∈a∨k∈l
 |[],l,h=>.inr h
 |x::r,l,h=>by
  simp only[Su]at h;split at h
  .rcases PF h with h|h<;>simp_all
  .rcases PF h with h|h<;>grind
def YF (ops:Array Oper)(tab:P_):Prop:=∀i l,get tab i=some l->∀j∈l,Pr ops i j
theorem aaY {ops:Array Oper}{tab:P_}(ht:YF ops tab){i:Nat}{o:Oper}(ho:ops[i]?=some o):∀{es:List Edge},(∀e∈es,e∈o.after)->∀j,j∈TN tab es->Pr ops i j
 |[],_,j,h=>by simp[TN]at h
 |e::r,hes,j,h=>by
  simp only[TN]at h;have hr:=aaY ht ho (es:=r) (λx hx=>hes x (.tail _ hx)) j;split at h
  .rename_i hw;rcases PF h with h|h
   .rcases ay.1 h with rfl|h
    .exact .one ho (hes e (.head _)) hw
    .split at h
     .rename_i l hl;exact .more ho (hes e (.head _)) hw (ht _ _ hl _ h)
     simp_all
   simp_all
  simp_all
def Wj {ops:Array Oper}:∀{l:C_}{tab:P_},YF ops tab->YF ops (IN ops l tab)
 |[],_,ht=>ht
 |i::l,tab,ht=>by
  simp only[IN];refine Wj λk m h j hj=>?_
  rw[ju]at h;split at h
  .grind [aaY]
  .exact ht k m h j hj
def anV (anc:P_)(nr:C_)(vs:S_)(j i:Nat):Prop :=
 (tL anc i j=true∨∃u v,vs[j]?=some u∧vs[i]?=some v∧lI (fo j nr) (fo i nr) u v=true)∨(u4 anc vs i=true∧(∀k,k<vs.length->tL anc k i=true->tL anc k j=true)∧tL anc j i=false)
def Yk {anc:P_}{i j:Nat}:∀{n:Nat},YM anc i j n=true->∀k,k<n->tL anc k i=true->tL anc k j=true
 |0,_,k,hk,_=>by omega
 |n+1,h,k,hk,hd=>by
  simp only[YM,af,dc,cS]at h;by_cases e:k=n
  .simp_all
  .exact Yk h.2 k o_ hd
def auH {ops:Array Oper}{anc:P_}(ha:YF ops anc){k i:Nat}(h:tL anc k i=true):Pr ops k i:=by
 unfold tL at h;split at h
 .rename_i l hl;exact ha _ _ hl _ (uo.1 h)
 simp_all
structure te (P:Program)(n:Nat)(ops:Array Oper)(nr:C_)(vs:S_)(perm:C_)(anc:P_):Prop where
 len:vs.length=ops.size
 vi:∀(i:Nat) (v:VI) (o:Oper),vs[i]?=some v->ops[i]?=some o->Cz P n ops v o=true
 edge:∀(i:Nat) (o:Oper),ops[i]?=some o->∀e∈o.after,e.on<ops.size∧(txG e.ground=true->e.on<i)
 pair:perm.Pairwise λj i=>anV anc nr vs j i
 path:∀k i,tL anc k i=true->Pr ops k i
 gco:∃gl:C_,(∀i,i<ops.size->i∈gl)∧gl.Pairwise (λj i=>∀o,ops[j]?=some o->∀e∈o.after,Zw e.ground=true->e.on≠i)∧∀j∈gl,∀o,ops[j]?=some o->∀e∈o.after,Zw e.ground=true->e.on≠j
 nd:perm.Nodup
 lt:∀i∈perm,i<ops.size
 near:∀(i:Nat) (v:VI),fo i nr=true->vs[i]?=some v->ua v.op≠.read∨∃R M,kp v=some (.q,R,M)
 all:∀i,i<ops.size->i∈perm
def Wf {P:Program}{n:Nat}{ops:Array Oper}{k:Nat}:∀{vs:S_}{os:List Oper}{b:Nat},If P n ops k b vs os=true->vs.length=os.length∧
  ∀(i:Nat) (v:VI) (o:Oper),vs[i]?=some v->os[i]?=some o->Cz P n ops v o=true∧∀e∈o.after,e.on<k∧(txG e.ground=true->e.on<b+i)
 |[],[],_,_=>⟨rfl,λi v o h=>by simp at h⟩
 |x::vs,p::os,b,h=>by
  simp only[If,af]at h;obtain⟨⟨h1,h3⟩,h4⟩:=h;obtain⟨k1,k2⟩:=Wf h4
  grind [Nat.blt_eq]
 |[],_::_,_,h=>by simp[If]at h
 |_::_,[],_,h=>by simp[If]at h
def Vb {anc:P_}{nr:C_}{vs:S_}{j:Nat}:∀{l:C_},TL anc nr vs j l=true->∀i∈l,anV anc nr vs j i
 |[],_,i,hi=>by simp at hi
 |x::r,h,i,hi=>by
  simp only[TL,af,dc]at h;rcases ay.1 hi with rfl|hi
  .rcases h.1 with (h|h)|h
   .exact .inl (.inl h)
   .split at h
    .rename_i u v h1 h2;exact .inl (.inr ⟨u,v,h1,h2,h⟩)
    simp_all
   .simp only[cS]at h;exact .inr ⟨h.1.1,Yk h.1.2,h.2⟩
  .exact Vb h.2 i hi
def ao9 {ops:Array Oper}{j:Nat}{l:C_}(h:ajb ops j l=true):∀i∈l,∀o,ops[j]?=some o->∀e∈o.after,Zw e.ground=true->e.on≠i:=by
 grind [ajb,uo]
def adV {ops:Array Oper}:∀{l:C_},af4 ops l=true->l.Pairwise (λj i=>∀o,ops[j]?=some o->∀e∈o.after,Zw e.ground=true->e.on≠i)∧∀j∈l,∀o,ops[j]?=some o->∀e∈o.after,Zw e.ground=true->e.on≠j
 |[],_=>⟨.nil,λi hi=>by simp at hi⟩
 |j::r,h=>by
  simp only[af4,af]at h;obtain⟨h0,h4⟩:=h;obtain⟨k4,k5⟩:=adV h4;have hw:=ao9 h0
  simp_all
def VO {ops:Array Oper}{anc:P_}{nr:C_}{vs:S_}:∀{l:C_},UE ops anc nr vs l=true->l.Pairwise (λj i=>anV anc nr vs j i)∧
  l.Nodup∧∀i∈l,i<vs.length
 |[],_=>⟨.nil,.nil,λi hi=>by simp at hi⟩
 |j::r,h=>by
  simp only[UE,af,cS]at h;obtain⟨⟨⟨h1,h2⟩,h3⟩,h4⟩:=h;obtain⟨k1,k2,k3⟩:=VO h4;refine⟨.cons (Vb h1) k1,vX.2 ⟨λhm=>?_,k2⟩,λi hi=>?_⟩
  all_goals grind [uo,Nat.blt_eq]
theorem S4 {l:C_}:∀{n:Nat},Zy l n=true->∀i,i<n->i∈l
 |0,_,i,hi=>by omega
 |n+1,h,i,hi=>by
  simp only[Zy,af]at h;rcases bD i n with h1|h1
  .exact S4 h.2 i h1
  grind [uo]
def adP {vs:S_}:∀{nr:C_},agc vs nr=true->∀(i:Nat) (v:VI),fo i nr=true->vs[i]?=some v->ua v.op≠.read∨∃R M,kp v=some (.q,R,M)
 |[],_,i,v,h,_=>by simp[fo]at h
 |j::r,h,i,v,hg,hv=>by
  simp only[agc,af]at h;rcases ay.1 (uo.1 hg) with e|hm
  .grind [IS,XA]
  .exact adP h.2 i v (uo.2 hm) hv
def ayb {P:Program}{n:Nat}{ops:Array Oper}{gco nr:C_}{vs:S_}{perm:C_}(h:JM P n ops perm gco nr vs=true):te P n ops nr vs perm (IN ops perm []):=by
 simp only[JM,af]at h;obtain⟨⟨⟨⟨⟨h1,hnr⟩,hga⟩,hg⟩,h2⟩,h3⟩:=h;obtain⟨g1,g2⟩:=adV hg;obtain⟨k1,k2⟩:=Wf h1;have hl:vs.length=ops.size:=o_;have ha:YF ops (IN ops perm []):=Wj λi l h=>by simp[Bj]at h
 obtain⟨q1,q2,q3⟩:=VO h3;have hget:∀(i:Nat) (o:Oper),ops[i]?=some o->ops.toList[i]?=some o:=λi o h=>by simp_all
 refine⟨hl,λi v o hv ho=>(k2 i v o hv (hget i o ho)).1,λi o ho e he=>?_,q1,λk i h=>auH ha h,⟨gco,λi hi=>S4 hga i o_,g1,g2⟩,q2,λi hi=>by simp_all,adP hnr,λi hi=>?_⟩
 .have hi:i<vs.length:=by
   grind
  have:=(k2 i vs[i] o s_ (hget i o ho)).2 e he
  simp_all
 grind [S4]
abbrev sk:=@List.Sublist.append_left
abbrev uR:=@List.sublist_cons_self
section
variable {P:Program}{r:dQ}
theorem ajl {g:Gh}{w:World}:∀{l:am}{O:Nat->Nat},CY P g w l O->∀{id:Nat}{o:Obj},get l id=some o->∃b,g.obj id=some b
 |[],_,_,id,o,h=>by simp[Bj]at h
 |(k,v)::l,O,rh,id,o,h=>by
  obtain⟨Q1,Q2,q1,q2,_⟩:=rh;rw[ju]at h;split at h
  .cases v<;>grind [kA]
  .exact ajl q2 h
def S.heap_fresh {g:Gh}{w:World}{t:F_}{O:Nat->Nat}{st:St}(s:S P g w st t O){id:Nat}(h:st.hs.next<=id):get st.hs.heap id=none:=by
 obtain⟨Oe,Oh,re,rh,ho⟩:=s.parts
 cases hg:get st.hs.heap id<;>grind [ajl,fresh]
def OR {nr:C_}{i:Nat}{F:C_}{v:VI}{st st1:St}(hn:fo i nr=true->ua v.op≠.read∨∃R M,kp v=some (.q,R,M))(hsrt:cX st.env)(h:cu r (fo i nr) F v st=some st1):cZ r v st=some st1:=by
 obtain⟨e,hs⟩:=st
 cases hg:fo i nr with
 |false=>rw[hg]at h;exact h
 |true =>
  rcases hn hg with h1|⟨R,M,h1⟩
  .exact amS (R:=[]) (M:=[]) hsrt (.inr (.inl h1)) h
  grind [amS]
theorem V7 {nr:C_}{vs:S_}{i:Nat}{v:VI}(hv:vs[i]?=some v)(hk:kS (fo i nr) v=true){l2:C_}:∀{l1:C_}{F:C_}{st st':St},(∀j∈l1,∃u,vs[j]?=some u∧lI (fo j nr) (fo i nr) u v=true)->cX st.env->
  f9 r nr vs (l1++i::l2) F st=some st'->f9 r nr vs (i::(l1++l2)) F st=some st'
 |[],F,st,st',_,_,h=>h
 |j::l1,F,st,st',hj,inv,h=>by
  obtain⟨u,hu,hm⟩:=hj j (.head _);simp only[aS,f9,hu]at h;split at h
  .simp at h
  .rename_i st1 h1;have h2:=V7 hv hk (λk hk=>hj k (.tail _ hk)) (aus hm hk inv h1) h;simp only[f9,hv]at h2;split at h2
   .simp at h2
   .rename_i st2 h3;obtain⟨st1',k1,k2,k3⟩:=aA8 hm hk inv h1 h3
    grind [f9,W9]
theorem Vs {nr:C_}{vs:S_}{i:Nat}{v:VI}(hv:vs[i]?=some v)(hk:kS (fo i nr) v=false){l2:C_}:∀{l1:C_}{F:C_}{st st':St},(∀j∈l1,∃u,vs[j]?=some u∧lI (fo j nr) (fo i nr) u v=true)->dE st->
  f9 r nr vs (l1++i::l2) F st=some st'->f9 r nr vs (i::(l1++l2)) F st=some st'
 |[],F,st,st',_,_,h=>h
 |j::l1,F,st,st',hj,inv,h=>by
  obtain⟨u,hu,hm⟩:=hj j (.head _);simp only[aS,f9,hu]at h;split at h
  .simp at h
  .rename_i st1 h1;have h2:=Vs hv hk (λk hk=>hj k (.tail _ hk)) (au5 hm hk inv h1) h;simp only[f9,hv]at h2;split at h2
   .simp at h2
   .rename_i st2 h3;obtain⟨st1',k1,k2,k3⟩:=aBc hm inv h1 h3
    grind [f9,W9]
def V3 {nr:C_}{vs:S_}{i:Nat}{v:VI}(hv:vs[i]?=some v){l2 l1:C_}{F:C_}{st st':St}(hj:∀j∈l1,∃u,vs[j]?=some u∧lI (fo j nr) (fo i nr) u v=true)(inv:dE st)
  (h:f9 r nr vs (l1++i::l2) F st=some st'):f9 r nr vs (i::(l1++l2)) F st=some st':=by
 cases hk:kS (fo i nr) v<;>grind [V7,dE.se,Vs]
theorem abP {α:Type}:∀{l:List (Nat×α)},cX l->∀{p:Nat×α},p∈l->get l p.1=some p.2
 |[],_,p,hp=>by simp at hp
 |(k,v)::r,hs,p,hp=>by
  rw[ju];rcases ay.1 hp with rfl|hp
  .simp
  .have h1:=(bZ.1 hs).1 p hp;have:k≠p.1:=(HJ.ne h1).symm;rw[aa this];exact abP (bZ.1 hs).2 hp
def aaN {anc:P_}{d:Nat}{l:C_}{i:Nat}:∀{vs:S_}{b:Nat},ZZ anc d l i b vs=true->∀k v,vs[k]?=some v->b+k≠i->tL anc (b+k) i=true∨∃R M,kD v=some (R,M)∧d∉M∧(tL anc i (b+k)=true∨∀q∈l,q∉M)
 |[],_,_,k,v,h,_=>by simp at h
 |x::r,b,h,k,v,hv,hne=>by
  simp only[ZZ,af,dc]at h
  cases k with
  |zero =>
   grind [Nat.beq_eq,jS,uo]
  |succ k =>
   have:=aaN h.2 k v hv (by omega)
   grind
theorem HW {v:VI}{d:Nat}(h:jo v=some d):(∃zs,v=⟨some d,none,.alloc zs,[]⟩)∨∃z l c th,v=⟨some d,none,.mkslice z l c,th⟩∧zX l=true∧zX c=true:=by
 obtain⟨dst,gd,op,th⟩:=v
 grind [jo]
theorem As {v:VI}{d:Nat}(h:jo v=some d):v.dst=some d∧v.guard=none∧v.op≠.bad:=by
 grind [HW]
def xS {anc:P_}{vs:S_}{i:Nat}(h:u4 anc vs i=true):∃v d,vs[i]?=some v∧jo v=some d∧(∀k u,vs[k]?=some u->k≠i->tL anc k i=true∨∃R M,kD u=some (R,M)∧d∉M∧(tL anc i k=true∨∀q∈z7 v,q∉M))∧∀j,tL anc i j=true->u4 anc vs j=false:=by
 unfold u4 at h;split at h
 .rename_i v hv;split at h
  .rename_i d hd;simp only[af]at h;refine⟨v,d,hv,hd,λk u hk hne=>by simpa using aaN h.1 k u hk o_,λj hj=>?_⟩
   grind [tL,uo,u4]
  simp_all
 simp_all
theorem ar3 {v:VI}{k:Cr}{R M:C_}(h:kp v=some (k,R,M)):kD v=some (R,M):=by grind [kD]
theorem ad6 {a b:Bool}{u v:VI}(h:lI a b u v=true)(hne:tp a b u v=false):∃R1 M1 R2 M2,kD u=some (R1,M1)∧kD v=some (R2,M2)∧(∀k∈M1,k∉R2∧k∉M2)∧∀k∈M2,k∉R1:=by
 have sub:∀{a:Bool}{v:VI}{R M:C_},Ad a v=some (R,M)->∃R',kD v=some (R',M)∧∀k∈R',k∈R:=λ{a v R M} h=>by
  grind [Ad]
 have ap:FI a b u v=true->∃R1 M1 R2 M2,kD u=some (R1,M1)∧kD v=some (R2,M2)∧(∀k∈M1,k∉R2∧k∉M2)∧∀k∈M2,k∉R1:=λh=>by
  grind [um]
 grind [lI,UH,aau,Ic,ar3,jS]
theorem ZI {a b:Bool}{u v:VI}{d:Nat}(hu:jo u=some d):tp a b u v=false∧tp b a v u=false:=by
 grind [HW,tp]
theorem Yr {v:VI}{d:Nat}(hv:jo v=some d){R M:C_}(h:kD v=some (R,M)):∀q∈z7 v,q∈R:=by
 rcases HW hv with ⟨zs,rfl⟩|⟨z,l,c,th,rfl,_,_⟩
 .grind [z7]
 .intro q hq
  cases th with
  |nil =>
   simp only[kD,kp,MA,Fd,ae,aR]at h;rw[<-h.1];exact dp _ hq
  |cons p th =>
   simp only[kD,kp,MA,Fd,ae,aR]at h;rw[<-h.1];exact dp _ hq
def anN {a b:Bool}{u v:VI}{d:Nat}(h:lI a b u v=true)(hu:jo u=some d):∃R M,kD v=some (R,M)∧∀q∈d::z7 u,q∉M:=by
 grind [ad6,ZI,Gc,As,Yr]
def YQ {a b:Bool}{u v:VI}{d:Nat}(h:lI a b u v=true)(hv:jo v=some d):∃R M,kD u=some (R,M)∧∀q∈d::z7 v,q∉M:=by
 grind [ad6,ZI,Gc,As,Yr]
def am9 {e e':aZ}{x:Rd}(hs:zX x=true)(h:∀q∈oU x,get e' q=get e q){v:AV}{e1:aZ}(hr:rd e x=some (v,e1)):e1=e∧rd e' x=some (v,e'):=by
 cases x with
 |s i =>
  have hi:=h i (by simp[oU]);simp only[rd]at hr⊢;split at hr<;>simp_all
 |m i=>simp[zX]at hs
 |c u =>
  grind [rd]
def amW {z:W_}{l c:Rd}{st st2:St}{a:AV}{st1:St}(hl:zX l=true)(hc:zX c=true)(h:∀q∈cm [l,c],get st2.env q=get st.env q)(hr:mM z l c st=some (a,st1)):st1=st∧mM z l c st2=some (a,st2):=by
 unfold mM at hr⊢;split at hr
 .rename_i n e hn;obtain⟨rfl,h1⟩:=am9 hl (λq hq=>h q (by simp[cm,hq])) hn;split at hr
  .rename_i m e2 hm;obtain⟨rfl,h2⟩:=am9 hc (λq hq=>h q (by simp[cm,hq])) hm;split at hr
   .split at hr
    .obtain⟨rfl,rfl⟩:=hr
     simp_all
    simp_all
   simp_all
  simp_all
 simp_all
inductive Dv (g:Gh) (w:World) (st:St) (d:Nat):VI->Value->(Nat->Nat)->Prop
 |var {zs:D_}{b:Nat}{c:F_}{el:TypeId}:pi zs c.toList=true->w.heap[b]?=some (.cells c el (0,0))->(∀o,¬g.pm b o)->Dv g w st d ⟨some d,none,.alloc zs,[]⟩ (.pointer (some ⟨b,0,none⟩)) (one b)
 |list {z:W_}{l c:Rd}{th:R_}{a:AV}{x:Value}{A:Nat->Nat}:zX l=true->zX c=true->mM z l c st=some (a,st)->RV g w a x A->Dv g w st d ⟨some d,none,.mkslice z l c,th⟩ x A
structure aoY (g:Gh)(w:World)(t:F_)(O:Nat->Nat)(st:St)(anc:P_)(vs:S_)(i:Nat)(A:Nat->Nat):Prop where
 late:u4 anc vs i=true
 hi:∀b,A b≠0->b<w.heap.size
 le:∀b,A b+O b<=1
 it:∃v d x,vs[i]?=some v∧d<t.size∧t[d]?=some x∧Dv g w st d v x A
def Dv.dst {g:Gh}{w:World}{st:St}{d:Nat}{v:VI}{x:Value}{A:Nat->Nat}(h:Dv g w st d v x A):jo v=some d:=by
 cases h<;>grind [jo]
def Dv.keep {g g':Gh}{w w':World}{st st':St}{d:Nat}{v:VI}{x:Value}{A:Nat->Nat}{T:Nat->Prop}(h:Dv g w st d v x A)(hx:bQ g w g' w' T)(hA:∀b,A b≠0->b<w.heap.size∧¬T b)
  (he:∀q∈z7 v,get st'.env q=get st.env q):Dv g' w' st' d v x A:=by
 cases h with
 |var h1 h2 h3 =>
  rename_i zs b c el;have hb:=hA b s_;obtain⟨b1,b2⟩:=hx.blk b hb.1 hb.2;exact .var h1 (b1.trans h2) λo ho=>h3 o (b2 o ho)
 |list h1 h2 h3 h4=>exact .list h1 h2 (amW h1 h2 he h3).2 (RV.ext hx _ _ _ h4 λb hb=>(hA b hb).2)
def S.adopt {g:Gh}{w:World}{t:F_}{O:Nat->Nat}{st:St}{zs:D_}{d b:Nat}{c:F_}{el:_}(s:S P g w st t O)(hb:b<w.heap.size)(h0:O b=0)(hp:∀o,¬g.pm b o)(hz:pi zs c.toList=true)
  (hh:w.heap[b]?=some (.cells c el (0,0)))(hd:d<t.size)(ht:t[d]?=some (.pointer (some ⟨b,0,none⟩))) :
  ∃g' O',S P g' w ⟨put st.env d (.ptr st.hs.next 0),⟨put st.hs.heap st.hs.next (.cells zs),st.hs.next+1⟩⟩ t O'∧bQ g w g' w (λ_=>False)∧(∀x,x≠b->O' x<=O x)∧g'.pm=g.pm:=by
 have hn:=s.fresh st.hs.next (ak _)
 have hx:bQ g w (g.add st.hs.next b 0 1 zs.length) w (λ_=>False):=(bQ.refl g w _).add hn _ _ _ _;have hfr:=s.heap_fresh (ak st.hs.next);obtain⟨Oe,Oh,re,rh,ho⟩:=s.parts;have re':=kY.ext hx re s_;have rh':CY P (g.add st.hs.next b 0 1 zs.length) w st.hs.heap Oh:=rh.imp' λk v O1 _ _ q=>q.ext hx s_ (by simp)
 have hk:∀p∈st.hs.heap,p.1≠st.hs.next:=by
  intro p hp e
  grind [abP,sh]
 have r:kA P (g.add st.hs.next b 0 1 zs.length) w st.hs.next (.cells zs) (λx=>zero x+one b x):=by
  exact⟨b,c,el,zero,by simp[Gh.add],by simp[Gh.add],by simp[Gh.add],by simp[Gh.add],hh,RVs.consts hz,λo ho=>hp o ho,λ_=>rfl⟩
 rw[<-tA hk]at rh';obtain⟨O3,r3,h3⟩:=RL.put s.sh rh' r;have hle:∀x,one b x+O x<=1:=λx=>by
  by_cases e:x=b
  .simp_all
  .have:=s.le x;grind [one]
 have s1:S P (g.add st.hs.next b 0 1 zs.length) w ⟨st.env,⟨put st.hs.heap st.hs.next (.cells zs),st.hs.next+1⟩⟩ t (λx=>one b x+O x):=by
  refine⟨s.se,s.sh.put _ _,⟨Oe,O3,re',r3,λx=>?_⟩,hle,λx hxx=>?_,λi hi=>?_,s.pmlt⟩
  .grind
  .by_cases e:x=b
   .omega
   .exact s.hi x (by grind [one])
  grind [Gh.add,fresh]
 have rv:RV (g.add st.hs.next b 0 1 zs.length) w (.ptr st.hs.next 0) (.pointer (some ⟨b,0,none⟩)) zero:=by
  simp_all [RV,Gh.add]
 obtain⟨O4,s4,l4⟩:=s1.setTmp hd rv (λx=>by simp_all) (λx hx=>by simp at hx);have htt:t.setIfInBounds d (.pointer (some ⟨b,0,none⟩))=t:=by
  grind
 rw[htt]at s4;exact⟨_,O4,s4,hx,λx hne=>by
  grind [one],rfl⟩
def S.setOther {g:Gh}{w:World}{t:F_}{O:Nat->Nat}{st:St}(s:S P g w st t O){d:Nat}(hd:get st.env d=none)(x:Value):S P g w st (t.setIfInBounds d x) O:=by
 obtain⟨Oe,Oh,re,rh,ho⟩:=s.parts;refine⟨s.se,s.sh,⟨Oe,Oh,re.imp' λk v O1 hm _ q=>?_,rh,ho⟩,s.le,s.hi,s.fresh,s.pmlt⟩;have hk:d≠k:=by
  rintro rfl
  have:=abP s.se hm
  simp_all
 refine⟨u_,?_⟩;have:(t.setIfInBounds d x).getD k undef=t.getD k undef:=by
  simp_all
 grind
def Dv.make {g:Gh}{w:World}{t:F_}{O:Nat->Nat}{st st1:St}{d:Nat}{v:VI}{x:Value}{A:Nat->Nat}(h:Dv g w st d v x A)(s:S P g w st t O)(hle:∀b,A b+O b<=1)(hhi:∀b,A b≠0->b<w.heap.size)(hd:d<t.size)(ht:t[d]?=some x)
  (hr:cZ r v st=some st1):∃g' O',S P g' w st1 t O'∧bQ g w g' w (λb=>A b≠0∨O b≠0)∧(∀b,O' b<=A b+O b):=by
 cases h with
 |var h1 h2 h3 =>
  rename_i zs b c el;have h9:st1=⟨put st.env d (.ptr st.hs.next 0),⟨put st.hs.heap st.hs.next (.cells zs),st.hs.next+1⟩⟩:=by
   grind [cZ,gL,dn,Nx,I3,cT,firm]
  have hob:O b=0:=by have:=hle b;simp at this;omega
  obtain⟨g',O',s',x',l',_⟩:=s.adopt (hhi b s_) hob h3 h1 h2 hd ht;rw[<-h9]at s';refine⟨g',O',s',x'.mono λ_ _ h=>h.elim,λq=>?_⟩;by_cases e:q=b
  .have:=s'.le q;simp_all
  grind
 |list h1 h2 h3 h4 =>
  rename_i z l c th a;obtain⟨v',st2,hv,rfl⟩:=TR hr;simp only[dn]at hv;rw[h3]at hv;obtain⟨rfl,rfl⟩:=hv;obtain⟨g2,Ov2,O2,r2,s2,x2,l2⟩:=Lh (P:=P) (t:=t) th (env:=st.env) (hs:=st.hs) s h4 hle hhi;have hle2:∀b,Ov2 b+O2 b<=1:=λb=>aM (l2 b) (hle b)
  obtain⟨g3,r3,s3,x3⟩:=ahQ s2 r2 hle2;obtain⟨O4,s4,l4⟩:=s3.setTmp hd r3 hle2 λb hb=>by
   grind [S.hi]
  have htt:t.setIfInBounds d x=t:=by
   grind
  rw[htt]at s4;exact⟨g3,O4,s4,(x2.mono (T:=λb=>A b≠0∨O b≠0) λ_ _ h=>h.elim).trans x3 λb _ hb=>by grind,λb=>by grind⟩
structure awm (ops:Array Oper)(nr:C_)(vs:S_)(anc:P_)(m:Region.Mode)(listed:BE_)(rem:C_)(pd:Nat->BB_):Prop where
 pair:rem.Pairwise λj i=>anV anc nr vs j i
 nd:rem.Nodup
 lt:∀i∈rem,i<ops.size
 size:listed.size=ops.size
 mem:∀i,i<ops.size->(i∈rem↔(listed.getD i true=false∨(pd i).isSome=true))
 pdl:∀i b,pd i=some b->i<ops.size∧listed.getD i false=true
 closed:∀i o,listed.getD i false=true->ops[i]?=some o->∀e∈o.after,Region.binds m e=true->listed.getD e.on false=true
structure Cf (P:Program)(r:dQ)(n:Nat)(ops:Array Oper)(nr:C_)(vs:S_)(anc:P_)(m:Region.Mode)(listed:BE_)(g0:Gh)(w0:World)(t0:F_)(O0:Nat->Nat)(st':St)
  (rem:C_)(pd:Nat->BB_)(F:C_)(g:Gh)(w:World)(t:F_)(O:Nat->Nat)(st:St):Prop where
 left:awm ops nr vs anc m listed rem pd
 n:t.size=n
 s:S P g w st t O
 abs:∀i∈rem,∀v d,vs[i]?=some v->jo v=some d->u4 anc vs i=true->get st.env d=none
 pend:∀i A,pd i=some A->aoY g w t O st anc vs i A
 disj:∀i j A B,i≠j->pd i=some A->pd j=some B->∀b,A b+B b<=1
 base:ip P g0 w0 t0 O0 st t w g O
 old:∀i A,pd i=some A->∀b,b<w0.heap.size->A b+O b<=O0 b
 le0:∀b,O0 b<=1
 run:f9 r nr vs rem F st=some st'
def Y1:∀{l:C_},l≠[]->∃i∈l,∀j∈l,i<=j
 |[],h=>absurd rfl h
 |[x],_=>⟨x,.head _,λj hj=>by simp_all⟩
 |x::y::r,_=>by
  obtain⟨i,hi,hm⟩:=Y1 (l:=y::r) (by simp)
  grind
def vD {ops:Array Oper}{m:Region.Mode}{listed:BE_}(hc:∀i o,listed.getD i false=true->ops[i]?=some o->∀e∈o.after,Region.binds m e=true->listed.getD e.on false=true){i j:Nat}
  (hp:Pr ops i j):(∀o,ops[i]?=some o->∀e∈o.after,Region.binds m e=true->listed.getD e.on false=true)->listed.getD j false=true:=by
 induction hp<;>grind [Yq]
def aua {P:Program}{n:Nat}{ops:Array Oper}{nr:C_}{vs:S_}{perm:C_}{anc:P_}(hok:te P n ops nr vs perm anc){m:Region.Mode}{listed:BE_}(hsz:listed.size=ops.size){un:C_}
  (hun:∀i,i∈un↔i<ops.size∧listed.getD i true=false)(hrem:un≠[]) :
  ((List.range ops.size).filter λi=>!listed.getD i true && ((ops[i]?).map (·.after.all λe=>!Region.binds m e ||listed.getD e.on false)).getD false)≠[]∧
  ∀i,i∈((List.range ops.size).filter λi=>!listed.getD i true && ((ops[i]?).map (·.after.all λe=>!Region.binds m e ||listed.getD e.on false)).getD false)↔
   i<ops.size∧listed.getD i true=false∧∃o,ops[i]?=some o∧∀e∈o.after,Region.binds m e=true->listed.getD e.on false=true:=by
 have hmu:∀i,i<ops.size->(i∈un↔listed.getD i true=false):=λi hi=>⟨λh=>((hun i).1 h).2,λh=>(hun i).2 ⟨hi,h⟩⟩
 have hlt0:∀i,i∈un->i<ops.size:=λi h=>((hun i).1 h).1
 generalize hrs:((List.range ops.size).filter λi=>!listed.getD i true && ((ops[i]?).map (·.after.all λe=>!Region.binds m e ||listed.getD e.on false)).getD false)=rs;have hmem:∀i,i∈rs↔i<ops.size∧listed.getD i true=false∧∃o,ops[i]?=some o∧∀e∈o.after,Region.binds m e=true->listed.getD e.on false=true:=by
  grind [Array.all_eq_true_iff_forall_mem]
 have hlist:∀k,k<ops.size->k∉un->listed.getD k false=true:=λk hen hnot=>by
  simp_all
 have ready:∀i∈un,(∀e∈(ops[i]?).toList.flatMap (λo=>o.after.toList),Region.binds m e=true->e.on∉un)->i∈rs:=λi hi he=>by
  have hin:=hlt0 i hi;refine(hmem i).2 ⟨hin,(hmu i hin).1 hi,ops[i],by simp[hin],λe hem hb=>?_⟩;have hen:=(hok.edge i ops[i] (by simp[hin]) e hem).1
  simp_all
 have hne:rs≠[]:=by
  by_cases hm:m=.gc
  .obtain⟨gl,ga,gt,gs⟩:=hok.gco;have hl:gl.filter (λi=>decide (i∈un))≠[]:=by
    obtain⟨i,hi⟩:=List.exists_mem_of_ne_nil un hrem;exact List.ne_nil_of_mem (List.mem_filter.2 ⟨ga i (hlt0 i hi),d_⟩)
   cases hc:gl.filter (λi=>decide (i∈un)) with
   |nil=>simp_all
   |cons i rest =>
    have hmm0:∀k,k∈i::rest↔k∈gl∧k∈un:=λk=>by grind
    have him:=(hmm0 i).1 (.head _);have hpw:(i::rest).Pairwise (λj i=>∀o,ops[j]?=some o->∀e∈o.after,Zw e.ground=true->e.on≠i):=d_;have:i∈rs:=ready i him.2 λe he hb hmm=>by
     have hg:Zw e.ground=true:=by
      unfold Region.binds at hb
      grind [Zw]
     grind [List.pairwise_cons]
    grind
  .obtain⟨i,hir,hmin⟩:=Y1 hrem;have hi:=hlt0 i hir;have:i∈rs:=ready i hir λe he hb hmm=>by
    simp[hi]at he;have hg:txG e.ground=true:=by
     unfold Region.binds at hb
     grind [txG]
    have h1:=(hok.edge i ops[i] (by simp[hi]) e he).2 hg
    grind
   grind
 simp_all
def WY {listed:BE_}{i:Nat}(hi:i<listed.size)(k:Nat)(b:Bool):(listed.setIfInBounds i true).getD k b=if i=k then true else listed.getD k b:=by
 simp only[gY,gD]
 grind
theorem Fs {listed:BE_}{i:Nat}(hi:i<listed.size):listed.getD i true=listed.getD i false:=by
 simp_all
variable {n:Nat}{ops:Array Oper}{nr:C_}{vs:S_}{perm:C_}{anc:P_}{m:Region.Mode}{listed:BE_}{g0:Gh}{w0:World}{t0:F_}{O0:Nat->Nat}{st':St}
def Cf.flush (hok:te P n ops nr vs perm anc){l1 l2:C_}{j:Nat}{A:Nat->Nat}{pd:Nat->BB_}{F:C_}{g:Gh}{w:World}{t:F_}{O:Nat->Nat}{st:St}
  (c:Cf P r n ops nr vs anc m listed g0 w0 t0 O0 st' (l1++j::l2) pd F g w t O st)(hj:pd j=some A)(hp:∀x∈l1,∃u v,vs[x]?=some u∧vs[j]?=some v∧lI (fo x nr) (fo j nr) u v=true) :
  ∃F' g' O' st1,Cf P r n ops nr vs anc m listed g0 w0 t0 O0 st' (l1++l2) (λi=>if i=j then none else pd i) F' g' w t O' st1:=by
 have pj:=c.pend j A hj;obtain⟨v,d,x,h1,h4,h5,hk⟩:=pj.it;have hdst:=hk.dst;have hjn:=(c.left.pdl j A hj).1;have inv:dE st:=⟨c.s.se,c.s.sh,λid hid=>c.s.heap_fresh hid⟩
 have hsw:∀x∈l1,∃u,vs[x]?=some u∧lI (fo x nr) (fo j nr) u v=true:=λx hx=>by
  simp_all
 have h6:=V3 h1 hsw inv c.run;simp only[f9,h1]at h6;split at h6
 .simp at h6
 .rename_i st1 h7;have h8:cZ r v st=some st1:=OR (λhw=>hok.near j _ hw h1) c.s.se h7;obtain⟨g',O',s',x',l'⟩:=hk.make c.s pj.le pj.hi h4 h5 h8;have hsub:(l1++l2).Sublist (l1++j::l2):=sk (uR j l2) l1;have hnd:=c.left.nd;have hjl:j∉l1++l2:=λhm=>by
   grind
  have hfoot:∀i,i∈l1++l2->u4 anc vs i=true->∀u q,vs[i]?=some u->jo u=some q->∀k∈q::z7 u,get st1.env k=get st.env k:=λi hi hl u q hu hq k hkm=>by
   have hij:i≠j:=λe=>hjl (e▸hi)
   obtain⟨u2,q2,k1,k2,k3,k4⟩:=xS hl;obtain⟨R,M,f1,f0,f2⟩:=(k3 j v h1 (λe=>hij e.symm)).resolve_left (λhdj=>by
    obtain⟨_,_,_,_,_,hno⟩:=xS pj.late
    simp_all)
   obtain⟨e1,hs1'⟩:=st;refine(BJ f1 e1 hs1' st1 h8).2.1 k ?_
   grind [aoY.late]
  have hmem:∀i B,i≠j->pd i=some B->i∈l1++l2:=λi B e hi=>by
   have:=(c.left.mem i (c.left.pdl i B hi).1).2 (.inr u_)
   simp_all
  refine⟨_,g',O',st1,⟨⟨c.left.pair.sublist hsub,hnd.sublist hsub,λk hk=>c.left.lt k (hsub.subset hk),c.left.size,λk hk=>?_,λi b' hi=>?_,c.left.closed⟩,c.n,s',λi hi u q hu hq hl=>?_,λi B hi=>?_,λi k B C hik hi hk=>?_,?_,λi B hi b hb=>?_,c.le0,h6⟩⟩
  .have hold:=c.left.mem k hk;by_cases e:k=j
   .subst e;have hl:=(c.left.pdl k A hj).2
    grind
   simp_all
  .by_cases e:i=j
   .simp_all
   .simp only[e,bm]at hi;exact c.left.pdl i b' hi
  .rw[hfoot i hi hl u q hu hq q (.head _)]
   grind [abs]
  .by_cases e:i=j
   .simp_all
   .simp only[e,bm]at hi;have p:=c.pend i B hi;obtain⟨u,q,y,k1,k2,k3,k4⟩:=p.it;have hd:=c.disj i j B A e hi hj;exact⟨p.late,p.hi,λb=>by have:=l' b;have:=p.le b;have:=hd b;have:=pj.le b;omega,u,q,y,k1,k2,k3,
     k4.keep x' (λb hb=>⟨p.hi b hb,λh=>by have:=hd b;have:=p.le b;omega⟩) λk hkm=>hfoot i (hmem i B e hi) p.late u q k1 k4.dst k (.tail _ hkm)⟩
  .by_cases e:i=j
   .simp_all
   .by_cases e2:k=j
    .simp_all
    .simp only[e,e2,bm]at hi hk;exact c.disj i k B C hik hi hk
  .refine⟨s',c.base.ext.trans x' λb hb h=>?_,λb hb=>?_,c.base.size⟩
   .have:=c.old j A hj b hb;omega
   .exact aM (l' b) (c.old j A hj b hb)
  .by_cases e:i=j
   .simp_all
   .simp only[e,bm]at hi;have q1:=c.old i B hi b hb;have q2:=c.old j A hj b hb;have q3:=c.disj i j B A e hi hj b
    grind
def Cf.flush_all (hok:te P n ops nr vs perm anc):∀{rem:C_}{pd:Nat->BB_}{F:C_}{g:Gh}{w:World}{t:F_}{O:Nat->Nat}{st:St},
  Cf P r n ops nr vs anc m listed g0 w0 t0 O0 st' rem pd F g w t O st->(∀i∈rem,(pd i).isSome=true)->∃g' O',ip P g0 w0 t0 O0 st' t w g' O'
 |[],pd,F,g,w,t,O,st,c,_=>by
  have h:=c.run;simp only[f9,ae]at h;subst h;exact⟨g,O,c.base⟩
 |j::rem,pd,F,g,w,t,O,st,c,hall=>by
  obtain⟨b,hb⟩:=jn.1 (hall j (.head _));obtain⟨F',g',O',st1,c'⟩:=Cf.flush (l1:=[]) hok c hb (λx hx=>by simp at hx);have hnd:=c.left.nd;exact Cf.flush_all hok c' λi hi=>by
   grind
def Cf.flush_for (hok:te P n ops nr vs perm anc){i:Nat}(hil:listed.getD i true=false)(hnl:u4 anc vs i=false){o:Oper}(ho:ops[i]?=some o)(hready:∀e∈o.after,Region.binds m e=true->listed.getD e.on false=true) :
  ∀{k:Nat}{l1 l2:C_},l1.length=k->∀{pd:Nat->BB_}{F:C_}{g:Gh}{w:World}{t:F_}{O:Nat->Nat}{st:St},
  Cf P r n ops nr vs anc m listed g0 w0 t0 O0 st' (l1++i::l2) pd F g w t O st->
  ∃l1' pd' F' g' O' st1,Cf P r n ops nr vs anc m listed g0 w0 t0 O0 st' (l1'++i::l2) pd' F' g' w t O' st1∧(∀j∈l1',∃u v,vs[j]?=some u∧vs[i]?=some v∧lI (fo j nr) (fo i nr) u v=true)∧(l1'.filter λq=>!listed.getD q true)=(l1.filter λq=>!listed.getD q true):=by
 intro k
 induction k with
 |zero =>
  grind
 |succ k ih =>
  intro l1 l2 hk pd F g w t O st c;have hpw:=dq.1 c.left.pair;have hin:i<ops.size:=c.left.lt i s_;have hlist:∀a q,a<ops.size->Pr ops a q->listed.getD a false=true∨a=i->listed.getD q false=true:=λa q ha hpa hla=>by
   refine vD c.left.closed hpa λo' ho'=>?_
   rcases hla with h|h
   .exact c.left.closed a o' h ho'
   simp_all
  by_cases hex:∃j∈l1,tL anc i j=true
  .
   obtain⟨la,j,lb,hl1,hdj,hfirst⟩:∃la j lb,l1=la++j::lb∧tL anc i j=true∧∀x∈la,tL anc i x=false:=by
    clear ih hk c hpw
    induction l1 with
    |nil=>simp_all
    |cons x l1 ihl =>
     by_cases hx:tL anc i x=true
     .exact⟨[],x,l1,rfl,hx,λy hy=>by simp at hy⟩
     .obtain⟨la,j,lb,h1,h2,h3⟩:=ihl (by
       simp_all)
      grind
   subst hl1;have hjm:j∈(la++j::lb)++i::l2:=s_;have hjn:=c.left.lt j hjm;have hjl:=hlist i j hin (hok.path i j hdj) (.inr rfl);have hjp:∃b,pd j=some b:=by
    rcases (c.left.mem j hjn).1 hjm with h|h<;>grind [Option.isSome_iff_exists]
   obtain⟨b,hb⟩:=hjp;have hlate:=(c.pend j b hb).late;obtain⟨_,_,_,_,_,hnoanc⟩:=xS hlate;have hpj:=dq.1 hpw.1;have hpass:∀x∈la,∃u v,vs[x]?=some u∧vs[j]?=some v∧lI (fo x nr) (fo j nr) u v=true:=λx hx=>by
    have hxm:x∈(la++j::lb)++i::l2:=by simp[hx]
    have hxn:=c.left.lt x hxm;rcases hpj.2.2 x hx j (.head _) with (h|h)|h
    .
     have hxl:=hlist j x hjn (hok.path j x h) (.inl hjl);rcases (c.left.mem x hxn).1 hxm with h2|h2
     .grind
     .obtain⟨b2,hb2⟩:=jn.1 h2;have:=(c.pend x b2 hb2).late
      simp_all
    all_goals grind [te.len]
   have c0:Cf P r n ops nr vs anc m listed g0 w0 t0 O0 st' (la++j::(lb++i::l2)) pd F g w t O st:=u_;obtain⟨F',g',O',st1,c'⟩:=Cf.flush hok c0 hb hpass
   grind
  .refine⟨l1,pd,F,g,O,st,c,λj hj=>?_,rfl⟩;rcases hpw.2.2 j hj i (.head _) with (h|h)|h<;>grind
def ajA (hok:te P n ops nr vs perm anc){i:Nat}{v:VI}{d:Nat}(hv:vs[i]?=some v)(hd:jo v=some d):∀{l1 l2 F:C_}{st:St},cX st.env->(∀k∈l1,∀u,vs[k]?=some u->∃R M,kD u=some (R,M)∧∀q∈d::z7 v,q∉M)->
  f9 r nr vs (l1++i::l2) F st=some st'->∃st1 st2,cZ r v st1=some st2∧∀q∈d::z7 v,get st1.env q=get st.env q
 |[],l2,F,st,hsrt,_,h=>by
  simp only[aK,f9,hv]at h;split at h
  .simp at h
  .rename_i st1 h1;exact⟨st,st1,OR (λhw=>hok.near i _ hw hv) hsrt h1,λ_ _=>rfl⟩
 |k::l1,l2,F,st,hsrt,hl,h=>by
  simp only[aS,f9]at h;split at h
  .simp at h
  .rename_i u hu;split at h
   .simp at h
   .rename_i st1 h1;have h2:cZ r u st=some st1:=OR (λhw=>hok.near k _ hw hu) hsrt h1;obtain⟨R,M,f1,f2⟩:=hl k (.head _) u hu;obtain⟨e1,hs1⟩:=st;obtain⟨k1,k2,_⟩:=BJ f1 e1 hs1 st1 h2;obtain⟨sa,sb,q1,q2⟩:=ajA hok hv hd (k1 hsrt) (λk hk=>hl k (.tail _ hk)) h
    grind
def anX {g:Gh}{w:World}{t:F_}{O:Nat->Nat}{zs:D_}{o:Oper}(s:S P g w st' t O)(hc:bG P (.alloc zs) o.op=true) :
  ∃(c:F_) (el:_),pi zs c.toList=true∧(execOp (ev t) o).run P w=.ok (.value (.pointer (some ⟨w.heap.size,0,none⟩))) (w.alloc (.cells c el))∧bQ g w g (w.alloc (.cells c el)) (λ_=>False):=by
 obtain⟨dst,op,ty,pos,aft,gd⟩:=o;simp only[bG]at hc;split at hc
 .rename_i e;split at hc
  .split at hc
   .rename_i z hz;exact⟨z.cells,e,hc,by simp_all [execOp,Instr.alloc,zeroValue,typeInfo,newVar,newRow],bQ.alloc s.pmlt _ _ (by grind [ie])⟩
   simp_all
  simp_all
 simp_all
def ass {ro:I_}{g:Gh}{w:World}{t:F_}{O:Nat->Nat}{st:St}{v:VI}{d:Nat}{o:Oper}(s:S P g w st t O)(hd:jo v=some d)(hc:bG P v.op o.op=true)
  (hmk:∀z l c th,v=⟨some d,none,.mkslice z l c,th⟩->zX l=true->zX c=true->∃a,mM z l c st=some (a,st))(ds:List Deferred)(next:Act->World->Prop)(Q:Exit->Act->World->Prop)
  (hn:∀w1 x g1 O1 A,S P g1 w1 st t O1->bQ g w g1 w1 (λb=>O b≠0)->(∀b,b<w.heap.size->A b+O1 b<=O b)->(∀b,A b+O1 b<=1)->(∀b,A b≠0->b<w1.heap.size)->Dv g1 w1 st d v x A->next (Act.put ⟨t,ds⟩ o.dst x) w1) :
  o.uponIn (FR ro) 0 P ⟨t,ds⟩ next Q ((execOp (ev t) o).run P w):=by
 rcases HW hd with ⟨zs,rfl⟩|⟨z,l,c,th,rfl,hl,hc2⟩
 .obtain⟨cc,el,hz,hrun,hx⟩:=anX s hc;rw[hrun];have hobn:O w.heap.size=0:=by
   by_cases h:O w.heap.size=0
   .exact h
   .have:=s.hi _ h;omega
  refine hn _ _ g O (one w.heap.size) (s.extF hx rfl λb o' hp=>by have:=s.pmlt b o' hp;grind [World.size_alloc]) (hx.mono λ_ _ h=>h.elim) (λb hb=>?_) (λb=>?_) (λb hb=>?_) (.var hz (ke _ _) λo' hp=>?_)
  .grind [one]
  .by_cases e:b=w.heap.size
   .simp_all
   .have:=s.le b;grind [one]
  .grind [wV,World.size_alloc]
  .have:=s.pmlt _ o' hp;omega
 .obtain⟨a,ha⟩:=hmk z l c th rfl hl hc2;exact(ZT s ha hc).opW ds next Q λx w' g' Oa O' k=>hn _ _ g' O' Oa k.st k.ext k.old k.le k.hi (.list hl hc2 ha k.val)
def axk {ro:I_}(hr:jp P r)(hcs:jF P r)(hok:te P n ops nr vs perm anc){Q:Exit->Act->World->Prop}(ds:List Deferred)
  (hq:∀w' t' g' O',ip P g0 w0 t0 O0 st' t' w' g' O'->Q .normal ⟨t',ds⟩ w') :
  ∀{fuel:Nat}{listed:BE_}{tt:Nat}{rem:C_}{pd:Nat->BB_}{F:C_}{g:Gh}{w:World}{t:F_}{O:Nat->Nat}{st:St},
   Cf P r n ops nr vs anc m listed g0 w0 t0 O0 st' rem pd F g w t O st->(rem.filter λi=>!listed.getD i true).length=fuel->wpOpsIn (FR ro) 0 P ops Q (Region.linearise.go m ops fuel tt listed []) ⟨t,ds⟩ w:=by
 intro fuel
 induction fuel with
 |zero =>
  intro listed tt rem pd F g w t O st c hf;have hnil:=aB hf;have hall:∀i∈rem,(pd i).isSome=true:=λi hi=>by
   have hin:=c.left.lt i hi;rcases (c.left.mem i hin).1 hi with h|h<;>simp_all
  obtain⟨g',O',G⟩:=Cf.flush_all hok c hall;exact hq _ _ _ _ G
 |succ fuel ih =>
  intro listed tt rem pd F g w t O st c hf;unfold Region.linearise.go;simp only;have hun:∀i,i∈(rem.filter λi=>!listed.getD i true)↔i<ops.size∧listed.getD i true=false:=λi=>by
   rw[List.mem_filter,cS];exact⟨λh=>⟨c.left.lt i h.1,h.2⟩,λh=>⟨(c.left.mem i h.1).2 (.inl h.2),h.2⟩⟩
  obtain⟨hne,hmem⟩:=aua (m:=m) hok c.left.size hun d_;generalize hrs:((List.range ops.size).filter λi=>!listed.getD i true && ((ops[i]?).map (·.after.all λe=>!Region.binds m e ||listed.getD e.on false)).getD false)=rs at hne hmem;have hlen:0<rs.length:=bS.2 hne;have hlt:=dl tt hlen;rw[bC hlt];simp only;generalize hi:rs[tt % rs.length]=i;have hirs:i∈rs:=d_;obtain⟨hin,hil,o,ho,hready⟩:=(hmem i).1 hirs;have hirem:i∈rem:=(c.left.mem i hin).2 (.inl hil);have hsz:i<listed.size:=d_;have hvl:i<vs.length:=by grind [te.len]
  have hv:vs[i]?=some vs[i]:=s_;have hacc:=linearise_go_acc m ops fuel (tt / rs.length) (listed.setIfInBounds i true) [i];rw[hacc];simp only[sn,List.reverse_nil,aK,aS,wpOpsIn,ho];have hclosed:∀k o',(listed.setIfInBounds i true).getD k false=true->ops[k]?=some o'->∀e∈o'.after,Region.binds m e=true->(listed.setIfInBounds i true).getD e.on false=true:=by
   intro k o' hk ho' e he hb;rw[WY hsz]at hk⊢;split
   .rfl
   .by_cases e1:i=k
    .simp_all
    .rw[aa e1]at hk;exact c.left.closed k o' hk ho' e he hb
  have hcount:∀{l1 l2:C_},rem=l1++i::l2->∀{l1':C_},(l1'.filter λi=>!listed.getD i true)=(l1.filter λi=>!listed.getD i true)->i∉l1'->i∉l2->((l1'++l2).filter λq=>!(listed.setIfInBounds i true).getD q true).length=fuel:=by
   intro l1 l2 hrem l1' hl1 hn1 hn2;have h1:∀l:C_,i∉l->(l.filter λq=>!(listed.setIfInBounds i true).getD q true)=l.filter λq=>!listed.getD q true:=λl hl=>List.filter_congr λq hq=>by
    rw[WY hsz,aa (λe=>hl u_)]
   grind
  cases hl:u4 anc vs i with
  |true =>
   obtain⟨v,d,hvi,hdv,hfree,hnoanc⟩:=xS hl;have hchk:=hok.vi i _ o hvi ho;simp only[Cz,af]at hchk;obtain⟨⟨hdst,hgd⟩,hop⟩:=hchk;obtain⟨hd1,hd2,hd3⟩:=As hdv;have hgn:o.guard=none:=by
    grind [E8]
   have hod:o.dst=some d∧d<n:=by
    rw[hd1]at hdst;split at hdst<;>grind [Nat.beq_eq,Nat.blt_eq]
   have hw:Region.wanted o (yielded ops t)=true:=by grind [Region.wanted]
   rw[ac hw];refine⟨λ_ _=>trivial,?_⟩;rw[OX _ _ (QV hd3 hop)];have habs:=c.abs i hirem v d hvi hdv hl;obtain⟨l1,l2,hrem⟩:=qY hirem;have hapl:∀k∈l1,∀u,vs[k]?=some u->∃R M,kD u=some (R,M)∧∀q∈d::z7 v,q∉M:=λk hk u hu=>by
    have hkm:k∈rem:=u_;have hkn:=c.left.lt k hkm;have hne:k≠i:=λe=>by
     have hnd:=c.left.nd
     grind
    have hpr:=c.left.pair;rw[hrem]at hpr;have hnk:tL anc i k=true->False:=λh=>by
     have hkl:=vD c.left.closed (hok.path i k h) λo' ho'=>by
      simp_all
     rcases (c.left.mem k hkn).1 hkm with h2|h2
     .grind [Fs]
     .obtain⟨b2,hb2⟩:=jn.1 h2;have:=(c.pend k b2 hb2).late
      simp_all
    rcases (dq.1 hpr).2.2 k hk i (.head _) with (h|⟨u',v',a1,a2,a3⟩)|h
    .simp_all
    .rw[hu]at a1;rw[hvi]at a2;simp only[ae]at a1 a2;subst a1 a2;exact YQ a3 hdv
    .obtain⟨R,M,f1,f2,f3⟩:=(hfree k u hu hne).resolve_left (λhd=>by simp_all)
     grind
   have hrun0:=c.run;rw[hrem]at hrun0;obtain⟨sa,sb,hsa,hsq⟩:=ajA hok hvi hdv c.s.se hapl hrun0;refine ass (ro:=ro) c.s hdv hop (λz l c' th e hl1 hl2=>?_) ds _ Q λw1 x g1 O1 A hs1 hx1 hold1 hle1 hhi1 hpk=>?_
   .subst e;simp only[cZ]at hsa;obtain⟨v',st2,hv',_⟩:=TR hsa;simp only[dn]at hv';exact⟨v',(amW hl1 hl2 (λq hq=>(hsq q (List.mem_cons_of_mem _ hq)).symm) hv').2⟩
   .rw[ZW,hod.1];have hdn:d<t.size:=by grind [Cf.n]
    have hs2:=hs1.setOther habs x;have ht1:xJ t (some d) x=t.setIfInBounds d x:=by grind [Act.put]
    rw[ht1];have hgt:∀q,q≠d->(t.setIfInBounds d x)[q]?=t[q]?:=λq hqd=>by
     grind
    have hwle:w0.heap.size<=w.heap.size:=c.base.ext.size;have hO1:∀b,b<w.heap.size->O1 b<=O b:=λb hb=>by grind
    have hO1':∀b,O1 b<=1:=λb=>by grind
    refine ih (rem:=rem) (pd:=λq=>if q=i then some A else pd q) (F:=F) (g:=g1) (O:=O1) (st:=st) ⟨⟨c.left.pair,c.left.nd,c.left.lt,by simp[c.left.size],λk hk=>?_,λk b hk=>?_,hclosed⟩,by simp[c.n],hs2,c.abs,λk B hk=>?_,λk q B C hkq hk hq'=>?_,?_,λk B hk b hb=>?_,c.le0,c.run⟩ ?_
    .rw[WY hsz];by_cases e:i=k
     .simp_all
     .have e':¬k=i:=λh=>e h.symm
      simp only[e,e',bm];exact c.left.mem k hk
    .rw[WY hsz];by_cases e:k=i
     .simp_all
     .simp only[e,bm]at hk;have:=c.left.pdl k b hk
      simp_all
    .by_cases e:k=i
     .subst e;simp only[bj,ae]at hk;subst hk;refine⟨hl,hhi1,hle1,v,d,x,hvi,by simp[hdn],?_,hpk⟩
      simp_all
     .simp only[e,bm]at hk;have q:=c.pend k B hk;obtain⟨u,d',y,h1,h4,h5,h6⟩:=q.it;have hdd:d'≠d:=by
       obtain⟨R,M,f1,f2,_⟩:=(hfree k _ h1 e).resolve_left (λhdk=>by
        obtain⟨_,_,_,_,_,hno⟩:=xS q.late
        simp_all)
       intro h;exact f2 (h▸Gc f1 (As h6.dst).1)
      exact⟨q.late,λb hb=>bc (q.hi b hb) hx1.size,λb=>by
       by_cases hb:b<w.heap.size
       .have:=q.le b;grind
       grind [aoY.hi],u,d',y,h1,u_,(hgt d' hdd).trans h5,
       h6.keep hx1 (λb hb=>⟨q.hi b hb,λh=>by have:=q.le b;omega⟩) λ_ _=>rfl⟩
    .have key:∀k B,k≠i->pd k=some B->∀b,A b+B b<=1:=λk B e hk b=>by
      have q:=c.pend k B hk;by_cases hb:b<w.heap.size
      .have:=q.le b;grind
      grind [aoY.hi]
     intro b;by_cases e:k=i
     .have e2:q≠i:=λh=>hkq (e.trans h.symm)
      simp only[e,e2,bj,bm,ae]at hk hq';subst hk;exact key q C e2 hq' b
     .by_cases e2:q=i
      .simp only[e,e2,bj,bm,ae]at hk hq';subst hq';have:=key k B e hk b;omega
      .simp only[e,e2,bm]at hk hq';exact c.disj k q B C hkq hk hq' b
    .exact⟨hs2,c.base.ext.trans hx1 λb hb h=>by have:=c.base.old b hb;omega,λb hb=>aM (hO1 b o_) (c.base.old b hb),by simp[c.base.size]⟩
    .by_cases e:k=i
     .simp only[e,bj,ae]at hk;subst hk;have:=hold1 b o_;have:=c.base.old b hb;omega
     .simp only[e,bm]at hk;have:=c.old k B hk b hb;grind
    .have hnd:=c.left.nd;rw[hrem]at hnd;have hnd':=List.nodup_append.1 hnd;have hn1:i∉l1:=λh=>hnd'.2.2 i h i (.head _) rfl
     have hn2:i∉l2:=(vX.1 hnd'.2.1).1;have:=hcount hrem rfl hn1 hn2;rw[hrem,List.filter_append,List.filter_cons_of_neg (by rw[WY hsz,ac rfl];simp),<-List.filter_append];exact this
  |false =>
   obtain⟨l1,l2,hrem⟩:=qY hirem;rw[hrem]at c;obtain⟨l1',pd',F',g',O',st1,c1,hpass,hfl⟩:=Cf.flush_for hok hil hl ho hready rfl c;have hsw:∀j∈l1',∃u,vs[j]?=some u∧lI (fo j nr) (fo i nr) u vs[i]=true:=λj hj=>by
    simp_all
   have inv:dE st1:=⟨c1.s.se,c1.s.sh,λid hid=>c1.s.heap_fresh hid⟩
   have h2:=V3 hv hsw inv c1.run;simp only[f9,hv]at h2;split at h2
   .simp at h2
   .rename_i st2 h3N;have h3:cZ r vs[i] st1=some st2:=OR (λhw=>hok.near i _ hw hv) c1.s.se h3N;have hnd:=c1.left.nd;have hnd':=List.nodup_append.1 hnd;have hn1:i∉l1':=λh=>hnd'.2.2 i h i (.head _) rfl
    have hn2:i∉l2:=(vX.1 hnd'.2.1).1;have hsub:(l1'++l2).Sublist (l1'++i::l2):=sk (uR i l2) l1';have hpdi:pd' i=none:=by
     cases h:pd' i with
     |none=>rfl
     |some b =>
      have:=(c1.left.pdl i b h).2;rw[<-Fs hsz,hil]at this;simp at this
    have hapart:∀k∈l1'++l2,u4 anc vs k=true->∀u d,vs[k]?=some u->jo u=some d->∃R M,kD vs[i]=some (R,M)∧d∉M∧(listed.getD k false=true->∀q∈z7 u,q∉M):=λk hk hlk u0 d hvk hdk=>by
     have hki:i≠k:=λe=>by rw[e,hlk]at hl;simp at hl
     obtain⟨u2,d2,k1,kd,k2,_⟩:=xS hlk;rw[hvk]at k1;simp only[ae]at k1;subst k1;rw[hdk]at kd;simp only[ae]at kd;subst kd;rcases k2 i _ hv hki with hd|hd
     .rcases aW.1 hk with hk1|hk1
      .obtain⟨u,v,a1,a2,a3⟩:=hpass k hk1;rw[hvk]at a1;rw[hv]at a2;simp only[ae]at a1 a2;subst a1 a2;obtain⟨R,M,f1,f2⟩:=anN a3 hdk;exact⟨R,M,f1,f2 _ (.head _),λ_ q hq=>f2 q (.tail _ hq)⟩
      .have hkm:k∈l1'++i::l2:=by simp[hk1]
       have hkn:=c1.left.lt k hkm;have hkl:listed.getD k false=true:=vD c1.left.closed (hok.path i k hd) λo' ho'=>by
        rw[ho]at ho';simp only[ae]at ho';subst ho';exact hready
       have hif:listed.getD i false=false:=by rw[<-Fs hsz];exact hil
       have hpw:=(bZ.1 (dq.1 c1.left.pair).2.1).1 k hk1;rcases hpw with (h|⟨u,v,a1,a2,a3⟩)|h
       .have:=vD c1.left.closed (hok.path k i h) λo' ho'=>c1.left.closed k o' hkl ho'
        rw[hif]at this;simp at this
       .rw[hvk]at a2;rw[hv]at a1;simp only[ae]at a1 a2;subst a1 a2;obtain⟨R,M,f1,f2⟩:=YQ a3 hdk;exact⟨R,M,f1,f2 _ (.head _),λ_ q hq=>f2 q (.tail _ hq)⟩
       .have hii:=h.2.1 i hvl hd;have:=vD c1.left.closed (hok.path i i hii) λo' ho'=>by
         rw[ho]at ho';simp only[ae]at ho';subst ho';exact hready
        rw[hif]at this;simp at this
     .obtain⟨R,M,f1,f2,f3⟩:=hd;refine⟨R,M,f1,f2,λhkl=>f3.resolve_left λhki=>?_⟩;have hif:listed.getD i false=false:=by rw[<-Fs hsz];exact hil
      have:=vD c1.left.closed (hok.path k i hki) λo' ho'=>c1.left.closed k o' hkl ho'
      rw[hif]at this;simp at this
    refine ana (ro:=ro) hr hcs c1.n c1.s h3 (hok.vi i _ o hv ho) ds _ Q λt' w' g2 O2 G hT=>?_
    refine ih (rem:=l1'++l2) (pd:=pd') ⟨⟨c1.left.pair.sublist hsub,hnd.sublist hsub,λk hk=>c1.left.lt k (hsub.subset hk),by simp[c1.left.size],λk hk=>?_,λk b hk=>?_,hclosed⟩,by rw[G.size,c1.n],G.st,λk hk u d hvk hdk hlk=>?_,λk B hk=>?_,c1.disj,c1.base.trans G,λk B hk b hb=>?_,c1.le0,h2⟩ ?_
    .have hold:=c1.left.mem k hk;rw[WY hsz];by_cases e:i=k
     .subst e;simp only[bj,my,hpdi,Option.isSome_none,ao,or_self,iff_false];intro hm;rcases aW.1 hm with h|h
      .exact hn1 h
      .exact hn2 h
     .simp only[e,bm];rw[<-hold];simp only[aW,ay];constructor
      .rintro (h|h)
       .exact .inl h
       .exact .inr (.inr h)
      .rintro (h|h|h)
       .exact .inl h
       .exact absurd h.symm e
       .exact .inr h
    .have:=c1.left.pdl k b hk;refine⟨this.1,?_⟩;rw[WY hsz];split
     .rfl
     .exact this.2
    .have h0:=c1.abs k (hsub.subset hk) u d hvk hdk hlk;obtain⟨R,M,f1,f2,_⟩:=hapart k hk hlk u d hvk hdk;obtain⟨e1,hs1'⟩:=st1;have:=(BJ f1 e1 hs1' st2 h3).2.1 d f2;rw[this];exact h0
    .have hki:i≠k:=λe=>by rw[<-e,hpdi]at hk;simp at hk
     have hkm:k∈l1'++i::l2:=(c1.left.mem k (c1.left.pdl k B hk).1).2 (.inr (by rw[hk];rfl));have hkm':k∈l1'++l2:=by
      rcases aW.1 hkm with h|h
      .exact dp _ h
      .rcases ay.1 h with h|h
       .exact absurd h.symm hki
       .exact iq _ h
     have q:=c1.pend k B hk;obtain⟨u,d,y,h1,h4,h5,h6⟩:=q.it;obtain⟨R,M,f1,f0,f2⟩:=hapart k hkm' q.late u d h1 h6.dst;have f2:=f2 (c1.left.pdl k B hk).2;have hdd:vs[i].dst≠some d:=λe=>f0 (Gc f1 e)
     refine⟨q.late,λb hb=>bc (q.hi b hb) G.ext.size,λb=>?_,u,d,y,h1,by rw[G.size];exact h4,(hT d hdd).trans h5,h6.keep G.ext (λb hb=>⟨q.hi b hb,λh=>by have:=q.le b;omega⟩) λp hp=>?_⟩
     .by_cases hb:b<w.heap.size
      .have:=q.le b;have:=G.old b hb;omega
      .have:B b=0:=by
        by_cases h:B b=0
        .exact h
        .exact absurd (q.hi b h) hb
       have:=G.st.le b;omega
     .obtain⟨e1,hs1'⟩:=st1;exact(BJ f1 e1 hs1' st2 h3).2.1 p (f2 p hp)
    .have:=c1.old k B hk b hb;have:=G.old b (bc hb c1.base.ext.size);omega
    .
     exact hcount hrem hfl hn1 hn2
def VP {e:aZ}:∀{vs:S_},tE e vs=true->∀(i:Nat) (v:VI) (d:Nat),vs[i]?=some v->jo v=some d->get e d=none
 |[],_,i,v,d,h,_=>by simp at h
 |u::r,hl,i,v,d,h,hd=>by
  simp only[tE,af]at hl
  cases i with
  |zero =>
   grind
  |succ i =>
   exact VP hl.2 i v d h hd
def ap1 {g:Gh}{w:World}{t:F_}{O:Nat->Nat}{st st':St}{ro:I_}(hr:jp P r)(hcs:jF P r){n:Nat}{ops:Array Oper}{gco nr:C_}{vs:S_}{perm:C_}(ds:List Deferred)(h:JM P n ops perm gco nr vs=true){Q:Exit->Act->World->Prop}{id:Nat}(hn:t.size=n)
  (s:S P g w st t O)(habs:tE st.env vs=true)(hrun:f9 r nr vs perm [] st=some st')(hq:∀w' t' g' O',ip P g w t O st' t' w' g' O'->Q .normal ⟨t',ds⟩ w'):(Code.region id ops true).wpIn (FR ro) 0 P Q ⟨t,ds⟩ w:=by
 have hok:=ayb h;refine wpIn_region_draw λtt=>?_
 have hx:bQ g w g w.drew λ_=>False:=bQ.drew _ _ _
 have sd:=s.extF hx rfl s.pmlt;have hleft:∀m,awm ops nr vs (IN ops perm []) m (Array.replicate ops.size false) perm (λ_=>none):=λm=>by
  refine⟨hok.pair,hok.nd,hok.lt,s_,λi hi=>?_,λi b hi=>by simp at hi,λi o hi=>?_⟩
  .have:=hok.all i hi
   simp_all
  .simp[Array.getD]at hi
 have hlen:(perm.filter λi=>!(Array.replicate ops.size false).getD i true).length=ops.size:=by
  have h0:(perm.filter λi=>!(Array.replicate ops.size false).getD i true)=perm:=List.filter_eq_self.2 λi hi=>by
   have:=hok.lt i hi
   simp_all
  have h1:perm.Perm (List.range ops.size):=by
   grind [te.nd,List.nodup_range,te.all]
  rw[h0,h1.length_eq];simp
 have key:∀m tt,wpOpsIn (FR ro) 0 P ops Q (Region.linearise m ops tt) ⟨t,ds⟩ w.drew:=λm tt =>
  axk (ro:=ro) (m:=m) hr hcs hok ds (g0:=g) (w0:=w.drew) (t0:=t) (O0:=O) (st':=st') (λw' t' g' O' G=>hq _ _ _ _ ⟨G.st,(hx.mono (T:=λb=>O b≠0) λ_ _ h=>h.elim).trans G.ext λ_ _ h=>h,G.old,G.size⟩)
   ⟨hleft m,hn,sd,λi hi v d hv hd _=>VP habs i v d hv hd,λi b hi=>by simp at hi,λi j A B _ hi=>by simp at hi,ip.refl sd,λi b hi=>by simp at hi,sd.le,hrun⟩ hlen
 unfold Region.schedule;split<;>simp_all
end
abbrev rU:=@StepsIn.trans
def NZ (ro:I_)(P:Program)(c:Code)(Q:Exit->Act->World->Prop)(a:Act)(w:World):Prop :=
 ∀(b:Frame) (k:List Item) (cs:List Frame),b.roundOf=ro->∃e a' w',Q e a' w'∧ArrivesIn (Machine.fenced P (FR ro)) P (lone (b.atR a (.inLoop c::k)) cs w) b k cs e a' w'
def Gf (ro:I_)(P:Program)(body cur:Code)(Q:Exit->Act->World->Prop)(a:Act)(w:World):Prop :=
 ∀(b:Frame) (k:List Item) (cs:List Frame),b.roundOf=ro->∃e a' w',Q e a' w'∧ArrivesIn (Machine.fenced P (FR ro)) P (lone (b.atR a (.code cur::.inScope body::k)) cs w) b k cs e a' w'
section
variable {P:Program}{ro:I_}{Q:Exit->Act->World->Prop}{a:Act}{w:World}
def KL {ro:I_}(m:Machine):Machine.fenced P (FR ro) m:=fenced_wide P m
def aaa {c:Code}(h:c.wpIn (FR ro) 0 P (Exit.then (NZ ro P c Q) Q) a w):NZ ro P c Q a w∧(Code.loop c).wpIn (FR ro) 0 P Q a w:=by
 have key:∀(b:Frame) (k:List Item) (cs:List Frame),b.roundOf=ro->∃e a' w',Q e a' w'∧ArrivesIn (Machine.fenced P (FR ro)) P (lone (b.atR a (.code c::.inLoop c::k)) cs w) b k cs e a' w':=by
  intro b k cs hro;obtain⟨e,a₁,w₁,hq,harr⟩:=h b (.inLoop c::k) cs hro trivial (ach _ _)
  cases e with
  |normal =>
   obtain⟨e₂,a₂,w₂,hq₂,harr₂⟩:=hq b k cs hro;exact⟨e₂,a₂,w₂,hq₂,.of_steps harr harr₂⟩
  |exit id=>exact⟨_,a₁,w₁,hq,.pass (x:=.inLoop c) rfl (λ_ _=>.inl s_) harr⟩
  |goto l=>exact⟨_,a₁,w₁,hq,.pass (x:=.inLoop c) rfl (λ_ _=>.inl s_) harr⟩
  |ret=>exact⟨_,a₁,w₁,hq,.pass (x:=.inLoop c) rfl (λ_ _=>.inl s_) harr⟩
  |panic ch=>exact⟨_,a₁,w₁,hq,.pass (x:=.inLoop c) rfl (λ_ _=>.inl s_) harr⟩
  |outgrown=>exact⟨_,a₁,w₁,hq,.pass (x:=.inLoop c) rfl (λ_ _=>.inl s_) harr⟩
 refine⟨λb k cs hro=>?_,λb k cs hro _ _=>?_⟩
 .obtain⟨e,a',w',hq,harr⟩:=key b k cs hro;exact⟨e,a',w',hq,.of_steps (.one (KL _) stepR_inLoop) harr⟩
 .obtain⟨e,a',w',hq,harr⟩:=key b k cs hro;exact⟨e,a',w',hq,.of_steps (.one (KL _) stepR_loop) harr⟩
def Exit.scope (ro:I_)(P:Program)(body:Code)(Q:Exit->Act->World->Prop):Exit->Act->World->Prop
 |.goto l,a,w=>match findLabel body l with
  |some rest=>Gf ro P body rest Q a w
  |none=>Q (.goto l) a w
 |e,a,w=>Q e a w
def alA {body cur:Code}(h:cur.wpIn (FR ro) 0 P (Exit.scope ro P body Q) a w):Gf ro P body cur Q a w:=by
 intro b k cs hro;obtain⟨e,a₁,w₁,hq,harr⟩:=h b (.inScope body::k) cs hro trivial (ach _ _)
 cases e with
 |normal=>exact⟨.normal,a₁,w₁,hq,rU harr (.one (KL _) (step_lone_go (by simp[stepG,stepG.exec,Frame.atR])))⟩
 |exit id =>
  have hx:exitTo id (.inScope body::k)=exitTo id k:=by simp[exitTo]
  exact⟨_,a₁,w₁,hq,λk' hk=>harr.1 k' u_,λhr hk=>harr.2 hr u_⟩
 |goto l =>
  have hx:gotoIn l (.inScope body::k)=match findLabel body l with|some rest=>some (.code rest::.inScope body::k)|none=>gotoIn l k:=by
   grind [gotoIn]
  simp only[Exit.scope]at hq
  cases hf:findLabel body l with
  |some rest =>
   rw[hf]at hq hx;obtain⟨e₂,a₂,w₂,hq₂,harr₂⟩:=hq b k cs hro;exact⟨e₂,a₂,w₂,hq₂,.of_steps (harr.1 _ hx) harr₂⟩
  |none =>
   rw[hf]at hq hx;exact⟨_,a₁,w₁,hq,λk' hk=>harr.1 k' u_,λhr hk=>harr.2 hr u_⟩
 |ret=>exact⟨_,a₁,w₁,hq,harr⟩
 |panic ch=>exact⟨_,a₁,w₁,hq,harr⟩
 |outgrown=>exact⟨_,a₁,w₁,hq,harr⟩
def arw {body:Code}(h:Gf ro P body body Q a w):(Code.scope body).wpIn (FR ro) 0 P Q a w:=by
 intro b k cs hro _ _;obtain⟨e,a',w',hq,harr⟩:=h b k cs hro;exact⟨e,a',w',hq,.of_steps (.one (KL _) (step_lone_go (by simp[stepG,stepG.exec,Frame.atR]))) harr⟩
end
def arJ {P:Program}{n:Nat}{v:VC}{c:Code}(h:Mt P n v c)(l:Nat) :
  match wb v l with
  |some x=>∃y,findLabel c l=some y∧Mt P n x y
  |none=>findLabel c l=none:=by
 have hgh:∀{a:VC},xk a=true->wb a l=none:=by
  intro a
  induction a<;>grind [xk,wb]
 induction h with
 |ghostL h1 h2 ih=>grind [wb]
 |@ghostR a b c h1 h2 ih =>
  simp only[wb,hgh h1]
  cases hf:wb a l with
  |none=>simp_all
  |some x =>
   simp only[hf]at ih⊢;obtain⟨y,hy,hm⟩:=ih;exact⟨y,hy,.ghostR h1 hm⟩
 |@seq a b c d h1 h2 ih1 ih2 =>
  simp only[wb]
  cases hf:wb a l with
  |some x =>
   simp only[hf]at ih1⊢;obtain⟨y,hy,hm⟩:=ih1;exact⟨.seq y d,by grind [findLabel],.seq hm h2⟩
  |none =>
   grind [findLabel]
 |@label k =>
  simp only[wb,findLabel];by_cases e:k=l
  .subst e;simp[Mt.skip]
  grind [Nat.beq_eq]
 |_=>grind [wb,findLabel]
section
variable {P:Program}{g:Gh}{w:World}{t:F_}{O:Nat->Nat}{st st':St}{a:AV}{o:Oper}{r:dQ}
def agf:∀{vs:D_}{i:Nat},∀p∈kM i vs,i<=p.1
 |[],_,p,hp=>by simp[kM]at hp
 |v::vs,i,p,hp=>by
  rcases abK hp with rfl|hp
  .omega
  .have:=agf p hp;omega
def RZ:∀(vs:D_) (i:Nat),cX (kM i vs)
 |[],_=>List.Pairwise.nil
 |v::vs,i=>(RZ vs (i+1)).put _ _
def aoV {t:F_}{i:Nat}{x:Value}(h:t[i]?=some x):i<t.size:=by
 grind
def aew {t:F_}:∀{vs:D_}{xs:N_}{i:Nat}{Ov:Nat->Nat},RVs g w vs xs Ov->(∀(j:Nat) (x:Value),xs[j]?=some x->t[i+j]?=some x)->kY g w (kM i vs) t Ov
 |[],xs,i,Ov,rv,_=>by exact rv.2
 |v::vs,xs,i,Ov,rv,ht=>by
  obtain⟨x,ys,O1,O2,rfl,r1,r2,hs⟩:=rv;have h0:t[i]?=some x:=ht 0 x rfl;have rr:=aew (t:=t) (i:=i+1) r2 λj y hj=>by have:=ht (j+1) y u_;grind
  rw[<-tA (l:=kM (i+1) vs) (i:=i) λp hp=>by have:=agf p hp;omega]at rr;obtain⟨O,ro,ho⟩:=RL.put (RZ vs (i+1)) rr (i:=i) (x:=v) (O1:=O1) ⟨aoV h0,u_⟩;have e:O=Ov:=funext λb=>by simp_all
  exact e▸ro
def ayG {args:D_}{hs:HS}{xs:N_}{Oa Oh:Nat->Nat}(rv:RVs g w args xs Oa)(sh:S P g w ⟨[],hs⟩ #[] Oh)(hle:∀b,Oa b+Oh b<=1)(hhi:∀b,Oa b≠0->b<w.heap.size)(n:Nat) :
  S P g w ⟨kM 0 args,hs⟩ (xs.toArray++Array.replicate n undef) λb=>Oa b+Oh b:=by
 refine S.join (RZ _ _) (aew rv λj x hj=>?_) sh hle hhi
 grind
def bQ.deferBlk {b:Nat}{ds ds':Option (List Deferred)}(hb:w.heap[b]?=some (.deferred ds)):bQ g w g (Vm.setBlk w b (.deferred ds')) λx=>x=b where
 obj _ _ h:=⟨h,rfl,rfl,rfl⟩
 pm b' o h:=⟨h,by
  grind [World.cell?,fE,iN]⟩
 blk b' _ h:=⟨iN h,λ_ h=>h⟩
 size:=s_
 lp b' r h:=⟨r,by grind [iN]⟩
 same:=⟨rfl,rfl,Aw hb (by grind [ie]) (by grind [ie])⟩
def JI {b:Nat}(h:w.heap[b]?=some (.deferred (some []))):(Instr.takeDeferred b).run P w=.ok [] (setBlk w b (.deferred none)):=by
 simp_all [Instr.takeDeferred,getObj,setObj,Sem.run,setBlk]
def aap {ro:I_}{fn:Func}{tmps:F_}{R:Ending->World->Prop}{lo:Nat}:∀{ms:List Deferred}{w:World},ko w O lo ms->S P g w st t O->
  (∀w',S P g w' st t O->bQ g w g w' (λb=>lo<=b)->∃v,(results fn tmps).run P w'=.ok v w'∧R (.returned v) w')->LeavesInM (FR ro) 0 P fn tmps R ms .returning w
 |[],w,_,s,h=>h w s (.refl _ _ _)
 |d::ds,w,⟨⟨r,h1,h2,h3,h4,h5⟩,h6⟩,s,h=>by
  refine⟨s_,.inl ⟨r,setBlk w r (.deferred none),h1,JI h3,?_⟩⟩;have hx:bQ g w g (setBlk w r (.deferred none)) λx=>x=r:=bQ.deferBlk h3
  have hm:ko (setBlk w r (.deferred none)) O lo ds:=by
   have:∀{es:List Deferred},(∀d'∈es,∀r',d'.target=.collected r'->r'<r)->ko w O lo es->ko (setBlk w r (.deferred none)) O lo es:=by
    intro es
    induction es with
    |nil=>exact λ_ _=>trivial
    |cons e es ih =>
     rintro hlt ⟨⟨q,k1,k2,k3,k4,k5⟩,k6⟩
     have:=hlt e (.head _) q k1;exact⟨⟨q,k1,k2,by grind [iN],k4,k5⟩,ih (λd' hd'=>hlt d' (.tail _ hd')) k6⟩
   grind
  exact aap hm (s.otherG hx h4) λw' s' hx'=>h w' s' ((hx.mono (T:=λb=>lo<=b) λb _ e=>by omega).trans hx' λ_ _ h=>h)
def Zs (t:F_):ResultVar->Sem Value
 |.tmp i=>pure (t.getD i undef)
 |.cell i ty=>do loadVar ty (<-asAddr (t.getD i undef))
def Zx (fn:Func)(t:F_):results fn t=(do let vs<-fn.results.mapM (Zs t);pure (if h:vs.size=1 then vs[0] else .tuple vs)):=by
 congr 1
def ait {α:Type}{f:α->Sem Value}{l:Array α}{xs:N_}(h:(l.toList.mapM f).run P w=.ok xs w):(l.mapM f).run P w=.ok xs.toArray w:=by
 simp_all [Array.mapM_eq_mapM_toList]
def Fq:∀{vr:AH_}{fr:List ResultVar},mE P vr fr=true->∀{st st':St}{O:Nat->Nat}{vs:D_},gg st vr=some (vs,st')->S P g w st t O->
  ∃xs:N_,∃Ov O',(fr.mapM (Zs t)).run P w=.ok xs w∧RVs g w vs xs Ov∧S P g w st' t O'∧(∀b,Ov b+O' b<=O b)∧
   xs.length=fr.length
 |[],[],_,st,st',O,vs,h,s=>by
  obtain⟨rfl,rfl⟩:=h;exact⟨[],zero,O,s_,by simp[RVs],s,λb=>by simp,rfl⟩
 |.tmp i::vr,.tmp j::fr,hc,st,st',O,vs,h,s=>by
  simp only[mE,af,aD]at hc;obtain⟨rfl,hc⟩:=hc;simp only[gg]at h;split at h
  .rename_i v hv;split at h
   .rename_i us st1 hr;obtain⟨rfl,rfl⟩:=h;obtain⟨O1,O2,_,rv,s2,l2⟩:=s.pull hv;obtain⟨xs,O3,O4,hrun,rvs,s4,l4,hlen⟩:=Fq hc hr s2;refine⟨t.getD i undef::xs,λb=>O1 b+O3 b,O4,?_,?_,s4,λb=>by grind,u_⟩
    .simp_all [Zs]
    grind [RVs]
   simp_all
  simp_all
 |.cell i n::vr,.cell j ty::fr,hc,st,st',O,vs,h,s=>by
  simp only[mE,af,aD]at hc;obtain⟨⟨rfl,hty⟩,hc⟩:=hc;simp only[gg]at h;split at h
  .rename_i id hv;split at h
   .rename_i v h' hl;split at h
    .rename_i us st1 hr;obtain⟨rfl,rfl⟩:=h;obtain⟨O0,O00,_,rp,_,_⟩:=s.pull hv;obtain⟨⟨b,hob,hp⟩,_⟩:=rp;obtain⟨x,O1,O2,hrun1,rv,s2,l2⟩:=Ys hty s hob hl;obtain⟨O5,s5,l5⟩:=s2.delEnv i;obtain⟨O6,s6,l6⟩:=s5.delHeap id;obtain⟨xs,O3,O4,hrun,rvs,s4,l4,hlen⟩:=Fq hc hr s6;refine⟨x::xs,λb=>O1 b+O3 b,O4,?_,?_,s4,λb=>by grind,u_⟩
     .simp_all [Zs,asAddr]
     grind [RVs]
    simp_all
   simp_all
  simp_all
 |[],_::_,hc,_,_,_,_,_,_=>by simp[mE]at hc
 |_::_,[],hc,_,_,_,_,_,_=>by simp[mE]at hc
 |.tmp _::_,.cell _ _::_,hc,_,_,_,_,_,_=>by simp[mE]at hc
 |.cell _ _::_,.tmp _::_,hc,_,_,_,_,_,_=>by simp[mE]at hc
def agV {vf:al}{fn:Func}(hc:mE P vf.results fn.results.toList=true){v:AV}{hs':HS}(h:Hm vf st=some (v,hs'))(s:S P g w st t O) :
  ∃x Ov Oh,(results fn t).run P w=.ok x w∧RV g w v x Ov∧S P g w ⟨[],hs'⟩ #[] Oh∧∀b,Ov b+Oh b<=O b:=by
 unfold Hm at h;split at h
 .rename_i v1 st1 hr;obtain⟨rfl,rfl⟩:=h;obtain⟨xs,Ov,O',hrun,rvs,s',l,hlen⟩:=Fq hc hr s;obtain⟨x,ys,O1,O2,rfl,rv,⟨rfl,_⟩,hs2⟩:=rvs;obtain⟨Oe,Oh,_,sh,ho⟩:=s'.split;refine⟨x,O1,Oh,?_,rv,sh,λb=>by grind⟩
  simp_all [Zx,ait]
 .rename_i vs st1 hne hr;obtain⟨rfl,rfl⟩:=h;obtain⟨xs,Ov,O',hrun,rvs,s',l,hlen⟩:=Fq hc hr s;obtain⟨Oe,Oh,_,sh,ho⟩:=s'.split;refine⟨.tuple xs.toArray,Ov,Oh,?_,by grind [RV],sh,λb=>by grind⟩;have hl1:xs.length≠1:=by
   intro h1;have h2:=rvs.length;rw[h1]at h2
   match vs,h2 with
   |[v],_=>grind
  simp_all [Zx,ait]
 simp_all
end
section
variable {P:Program}{g:Gh}{w:World}{t:F_}{O:Nat->Nat}{st st':St}{a:AV}{o:Oper}{r:dQ}
def qw {ro:I_}{ops:Array Oper}{Q:Exit->Act->World->Prop}{i:Nat}{rest:C_}{ds:List Deferred}{v:Value}{w':World}(h:ops[i]?=some o)(hg:o.guard=none)
  (hd:∀c,o.op≠.defer c)(hrun:(execOp (ev t) o).run P w=.ok (.value v) w')(hk:wpOpsIn (FR ro) 0 P ops Q rest ⟨xJ t o.dst v,ds⟩ w'):wpOpsIn (FR ro) 0 P ops Q (i::rest) ⟨t,ds⟩ w:=by
 simp only[wpOpsIn,h];rw[ac (by grind [Region.wanted])];refine⟨λ_ _=>trivial,?_⟩
 grind [OX,Oper.uponIn_value,ZW]
theorem AR {d:Nat}(h:Md o d=true):o.dst=some d∧o.guard=none:=by
 grind [Md,Nat.beq_eq,Option.isNone_iff_eq_none]
theorem aas {x:Operand}(h:aaF x=true):x=.const (.slice none 0 0):=by
 grind [aaF]
theorem wT {i:Nat}{x:Operand}(h:Fu i x=true):x=.tmp i:=by
 unfold Fu at h;grind [Nat.beq_eq]
def aG5 {α:Type}{r:Array α}{x:α}(h:r.toList=[x]):r=#[x]:=by
 grind
def Yo {d:Nat}{r:Array Oper}(h:YZ d r.toList=true):∃o,r=#[o]∧o.dst=some d∧o.guard=none∧o.op=.assign (.const (.slice none 0 0)):=by
 unfold YZ at h
 grind [AR,aas]
def apn {m:Nat}{r:Array Oper}(h:agx P m r.toList=true):∃a b T u,r=#[a,b]∧a.dst=some 3∧a.guard=none∧a.op=.move (.tmp 0)∧b.dst=some 4∧b.guard=none∧
  b.op=.binOp .eql T (.tmp 3) (.const (.slice none 0 0)) u∧jm P T m=true:=by
 unfold agx at h
 grind [AR,wT,aas]
def ani {m:Nat}{r:Array Oper}(h:aiv P m r.toList=true):∃a b c d T ats e',r=#[a,b,c,d]∧a.dst=some 5∧a.guard=none∧a.op=.buildSlice T 0 #[]∧jm P T m=true∧
  b.dst=some 6∧b.guard=none∧b.op=.move (.tmp 0)∧c.dst=some 7∧c.guard=none∧c.op=.call ⟨.builtin .append,#[.tmp 5,.tmp 6],ats⟩∧ats=#[tI ⟨.builtin .append,#[.tmp 5,.tmp 6],ats⟩,ats.getD 1 0]∧
  jm P (tI ⟨.builtin .append,#[.tmp 5,.tmp 6],ats⟩) m=true∧nC P (tI ⟨.builtin .append,#[.tmp 5,.tmp 6],ats⟩) m=true∧P.underlying (ats.getD 1 0)=some (.slice e')∧
  d.dst=some 2∧d.guard=none∧d.op=.assign (.tmp 7):=by
 unfold aiv at h;split at h
 .rename_i a b c d e;simp only[af]at h;obtain⟨⟨⟨⟨⟨⟨⟨h1,h2⟩,h3⟩,h4⟩,h5⟩,h6⟩,h7⟩,h8⟩:=h;obtain⟨k1,k2⟩:=AR h1;obtain⟨k3,k4⟩:=AR h3;obtain⟨k5,k6⟩:=AR h5;obtain⟨k7,k8⟩:=AR h7;split at h2
  .rename_i T ps hops;simp only[af]at h2;split at h4
   .split at h6
    .rename_i k hk;obtain⟨callee,args,ats⟩:=k;simp only[af]at h6;obtain⟨⟨⟨⟨⟨q1,q2⟩,q3⟩,q4⟩,q5⟩,q6⟩:=h6;have:=qu q1;subst this;split at q6
     .simp only[af]at q6;have e1:=wT q6.1;have e2:=wT q6.2;have:args=#[.tmp 5,.tmp 6]:=d_;subst this;split at q5
      .rename_i e' he';split at h8
       .exact⟨a,b,c,d,T,ats,e',d_,k1,k2,u_,h2.1,k3,k4,by grind [wT],k5,k6,hk,Kl q2,q3,q4,he',k7,k8,by grind [wT]⟩
       simp_all
      simp_all
     simp_all
    simp_all
   simp_all
  simp_all
 simp_all
theorem qZ {i j:Nat}{v:Value}(h:j<t.size):(t.setIfInBounds i v).getD j undef=if i=j then v else t.getD j undef:=by
 simp only[gY,gD]
 grind
def aoR {m:Nat}{c:Code}(hc:OK P m c=true){out:cJ}(h:Nf m st=some (out,st'))(ht:8<=t.size)(s:S P g w st t O) :
  c.wpIn (FR none) 0 P (cD P g w t O [] none out st') ⟨t,[]⟩ w:=by
 unfold OK at hc;split at hc
 .rename_i i0 r0 i1 r1 i2 r2 i3 r3;simp only[af]at hc;obtain⟨⟨⟨c0,c1⟩,c2⟩,c3⟩:=hc;obtain⟨o0,rfl,d0,gd0,p0⟩:=Yo c0;obtain⟨o1,o2,T,u,rfl,d1,gd1,p1,d2,gd2,p2,hT⟩:=apn c1;obtain⟨o3,rfl,d3,gd3,p3⟩:=Yo c2;obtain⟨o4,o5,o6,o7,T4,ats,e',rfl,d4,gd4,p4,hT4,d5,gd5,p5,d6,gd6,p6,hats,hT6,hz6,hu1,d7,gd7,p7⟩:=ani c3;unfold Nf at h;split at h
  .rename_i v hv;split at h
   .rename_i xs hxs;split at h
    .rename_i hb;simp only[af,bp]at hb;obtain⟨hok,hmost⟩:=hb;simp only[ae,aR]at h;obtain⟨rfl,rfl⟩:=h;have hl:=Mh hok;obtain⟨Ov,O1,h0t,rv,s1,l1⟩:=s.pull hv;obtain⟨ad,cap,news0,hx,hels0⟩:=BM s hxs hl rv;obtain⟨Oe,Oh,_,sh,ho⟩:=s.split;generalize hX:t.getD 0 undef=X at *;obtain⟨el,hu,hsz,hm,hby⟩:=jb hT;have fin:∀(t':F_) (w':World) (g':Gh) (Or O':Nat->Nat),t'.size=t.size->RV g' w' (.own true m xs) (t'.getD 2 undef) Or->S P g' w' ⟨[],st.hs⟩ #[] O'->bQ g w g' w' (λb=>O b≠0)->
       (∀b,Or b+O' b<=1)->(∀b,b<w.heap.size->Or b+O' b<=O b)->(∀b,Or b≠0->b<w'.heap.size)->cD P g w t O [] none .ret ⟨[(2,.own true m xs)],st.hs⟩ .ret ⟨t',[]⟩ w':=by
      intro t' w' g' Or O' hsz' rv' s' hx' hle hold hhi;refine⟨rfl,g',λb=>Or b+O' b,[],⟨S.join (by simp[cX]) ⟨Or,zero,⟨d_,rv'⟩,λ_=>rfl,λb=>by simp⟩ s' hle hhi,hx',hold,hsz'⟩,rfl,trivial,λ_=>rfl⟩
     have nodef:∀{op:Op}{op':Op},op=op'->(∀c,op'≠.defer c)->∀c,op≠.defer c:=λe h c e2=>h c (e▸e2)
     refine wpIn_seq (wpIn_region ?_);show wpOpsIn _ _ _ _ _ [0] _ _;refine qw (o:=o0) (v:=.slice none 0 0) (w':=w) rfl gd0 (nodef p0 s_) (by simp[execOp,p0,ev]) ?_;refine wpIn_seq (wpIn_seq (wpIn_region ?_));show wpOpsIn _ _ _ _ _ [0,1] _ _;have hev0:ev (xJ t (some 2) (.slice none 0 0)) (.tmp 0)=X:=by
      show(t.setIfInBounds 2 _).getD 0 undef=X
      grind [qZ]
     rw[d0];refine qw (o:=o1) (v:=X) (w':=w) rfl gd1 (nodef p1 s_) (by simp[execOp,p1,hev0]) ?_;rw[d1];generalize ht2:xJ (xJ t (some 2) (.slice none 0 0)) (some 3) X=t2;have hs2:t2.size=t.size:=by grind [qK]
     have hev3:ev t2 (.tmp 3)=X:=by
      rw[<-ht2];show((xJ t (some 2) (.slice none 0 0)).setIfInBounds 3 X).getD 3 undef=X
      grind [qZ,qK]
     have heq:(Op.equal T X (.slice none 0 0)).run P w=.ok ad.isNone w:=by
      show(Op.equalIn (9999+1) T X (.slice none 0 0)).run P w=_;rw[hx];unfold Op.equalIn;rw[aT,bf hu]
      cases ad<;>simp
     have hguard:(eqGuard .eql T (.tmp 3) (.const (.slice none 0 0)) X (.slice none 0 0)).run P w=.ok () w:=by
      rw[hx];unfold eqGuard;simp
     refine qw (o:=o2) (v:=.bool ad.isNone) (w':=w) rfl gd2 (nodef p2 s_) ?_ ?_
     .simp only[execOp,p2,hev3];have hc:ev t2 (.const (.slice none 0 0))=.slice none 0 0:=rfl;rw[hc,aT,aT,hguard];have hbin:(binOp .eql T X (.slice none 0 0)).run P w=.ok (.bool ad.isNone) w:=by
       rw[hx];rw[hx]at heq;show((do pure (.bool (<-Op.equal T (.slice ad xs.length cap) (.slice none 0 0))):Sem Value)).run P w=_;rw[aT,heq];rfl
      grind [Result.andThen_ok,Sem.run_pure]
     .rw[d2];generalize ht3:xJ t2 (some 4) (.bool ad.isNone)=t3;have hs3:t3.size=t.size:=by grind [qK]
      have hev4:ev t3 (.tmp 4)=.bool ad.isNone:=by
       rw[<-ht3];show(t2.setIfInBounds 4 _).getD 4 undef=_
       grind [qZ]
      have hev03:ev t3 (.tmp 0)=X:=by
       rw[<-ht3,<-ht2];show(((t.setIfInBounds 2 _).setIfInBounds 3 _).setIfInBounds 4 _).getD 0 undef=X
       grind [qZ]
      show(Code.cond (.tmp 4) (.seq (.region i2 #[o3] false) .ret) .skip).wpIn (FR none) 0 P _ ⟨t3,[]⟩ w
      cases had:ad with
      |none =>
       refine wpIn_cond_true (by rw[Id,hev4,had];rfl) (wpIn_seq (wpIn_region ?_));show wpOpsIn _ _ _ _ _ [0] _ _;refine qw (o:=o3) (v:=.slice none 0 0) (w':=w) rfl gd3 (nodef p3 s_) (by simp[execOp,p3,ev]) (wpIn_ret ?_);rw[d3];have hnil:xs=[]:=aB (hels0.nn had);refine fin _ w g zero Oh (by rw[qK,hs3]) ?_ sh (.refl _ _ _) (λb=>by have:=ho b;have:=s.le b;grind) (λb _=>by grind) (λb hb=>by simp at hb);have:(xJ t3 (some 2) (.slice none 0 0)).getD 2 undef=.slice none 0 0:=by
        show(t3.setIfInBounds 2 _).getD 2 undef=_
        grind [qZ]
       grind [RV,DJ]
      |some ad' =>
       refine wpIn_cond_false (by rw[Id,hev4,had];rfl) (wpIn_skip ?_);refine wpIn_seq (wpIn_region ?_);show wpOpsIn _ _ _ _ _ [0,1,2,3] _ _;obtain⟨el4,hu4,hsz4,hm4,hby4⟩:=jb hT4;have hbuild:(Instr.buildSlice T4 0 #[]).run P w=.ok (.slice (some ⟨w.heap.size,0,none⟩) 0 0) (w.alloc (.cells #[] el4)):=by
        have hr:∀f:Nat->Value,(Array.range (0*m)).map f=#[]:=by
         grind
        simp only[Instr.buildSlice,bf hu4,fA hsz4,aT,bw,nj,Instr.fill,Nat.zero_mul,bj,dO];have hr0:∀f:Nat->Value,(Array.range 0).map f=#[]:=by
         grind
        simp[newRow,hr0]
       refine qw (o:=o4) (v:=.slice (some ⟨w.heap.size,0,none⟩) 0 0) (w':=w.alloc (.cells #[] el4)) rfl gd4 (nodef p4 s_) (by simp[execOp,p4,hbuild]) ?_;rw[d4];generalize ht5:xJ t3 (some 5) (.slice (some ⟨w.heap.size,0,none⟩) 0 0)=t5;have hs5:t5.size=t.size:=by grind [qK]
       have hev05:ev t5 (.tmp 0)=X:=by
        rw[<-ht5];show(t3.setIfInBounds 5 _).getD 0 undef=X;rw[qZ o_,aa o_];exact hev03
       refine qw (o:=o5) (v:=X) (w':=w.alloc (.cells #[] el4)) rfl gd5 (nodef p5 s_) (by simp[execOp,p5,hev05]) ?_;rw[d5];generalize ht6:xJ t5 (some 6) X=t6;have hs6:t6.size=t.size:=by grind [qK]
       have hev66:ev t6 (.tmp 6)=X:=by
        rw[<-ht6];show(t5.setIfInBounds 6 _).getD 6 undef=X
        grind [qZ]
       have hev65:ev t6 (.tmp 5)=.slice (some ⟨w.heap.size,0,none⟩) 0 0:=by
        rw[<-ht6,<-ht5];show((t3.setIfInBounds 5 _).setIfInBounds 6 _).getD 5 undef=_
        grind [qZ]
       have hx1:bQ g w g (w.alloc (.cells #[] el4)) λ_=>False:=bQ.alloc s.pmlt _ _
       have hpl:∀b o,g.pm b o->b<(w.alloc (.cells #[] el4)).heap.size:=λb o h=>bc (s.pmlt b o h) hx1.size
       have sx:=s.extF hx1 rfl hpl;have shx:=sh.extF hx1 rfl hpl;have rvx:=RV.ext hx1 _ _ _ rv s_;obtain⟨ad2,cap2,news,hxx,hels⟩:=BM sx hxs hl rvx;rw[hx,had]at hxx;simp only[Value.slice.injEq,true_and]at hxx;obtain⟨rfl,rfl⟩:=hxx;obtain⟨el6,hu6,hsz6,hm6,hby6⟩:=jb hT6;obtain⟨el6',i6,zv,hu6',hi,hz,hzs⟩:=rX hz6;rw[hu6]at hu6';simp only[ae,iL]at hu6';subst hu6';rw[Lx hi]at hby6;generalize tI ⟨.builtin .append,#[.tmp 5,.tmp 6],ats⟩=T0 at *;generalize ats.getD 1 0=T1 at *;have hsrc:X7 P (w.alloc (.cells #[] el4)) T1 X el6 m xs.length news:=by
        refine⟨hels.len,hels.one,.inl ⟨⟨e',hu1⟩,⟨ad,cap,hx⟩,λw1 hw=>?_⟩⟩;have:=hels.first (P:=P) (len:=xs.length) (cap:=cap) (ak _) hw
        rw[<-hels.len,uq,<-had,<-hx]at this;exact this
       have hmost':xs.length<=4294967296:=hmost;have hApp:uf P g (w.alloc (.cells #[] el4)) #[] Oh zero ⟨[],st.hs⟩ (.own true m xs) ((Builtin.append_ #[T0,T1] o6.type #[.slice (some ⟨w.heap.size,0,none⟩) 0 0,X]).run P (w.alloc (.cells #[] el4))):=by
        by_cases hxs0:xs.length=0
        .have hnil:news=[]:=aB (by grind [CF.len]);have hxn:xs=[]:=aB hxs0;have hrun:=CO (P:=P) (w:=w.alloc (.cells #[] el4)) (ty:=o6.type) hu6 hi (Pl hsz6 hi) hm6 hby6 hmost' hsrc (base:=some ⟨w.heap.size,0,none⟩) (sLen:=0) (sCap:=0) o_;refine⟨.slice (some ⟨w.heap.size,0,none⟩) 0 0,w.alloc (.cells #[] el4),g,zero,Oh,?_,?_,shx,.refl _ _ _,λb=>by have:=shx.le b;simp_all,λb _=>by simp,λb hb=>by simp at hb⟩
         .simp_all [storeCells]
         simp_all [RV,DJ]
        .have:=XK (Oa:=zero) (xs:=[]) (base:=some ⟨w.heap.size,0,none⟩) (sCap:=0) (olds:=[]) (ty:=o6.type) shx hu6 hi hz hzs (Pl hsz6 hi) hm6 hby6 hsrc hels.rd (λe he=>by simp at he) hl (by simp)
          (λj d h=>by simp at h) (λw1 _=>vQ m _ 0 0 w1) u_ (by omega)
         simp_all
       obtain⟨vv,w2,g2,Or,O2,k1,k2,k3,k4,k5,k6,k7⟩:=hApp;refine qw (o:=o6) (v:=vv) (w':=w2) rfl gd6 (nodef p6 s_) ?_ ?_
       .simp_all [execOp,resolve,invoke,builtin]
       .rw[d6];generalize ht7:xJ t6 (some 7) vv=t7;have hs7:t7.size=t.size:=by grind [qK]
        have hev77:ev t7 (.tmp 7)=vv:=by
         rw[<-ht7];show(t6.setIfInBounds 7 _).getD 7 undef=vv
         grind [qZ]
        refine qw (o:=o7) (v:=vv) (w':=w2) rfl gd7 (nodef p7 s_) (by simp_all [execOp]) (wpIn_ret ?_);have hle1:w.heap.size<=(w.alloc (.cells #[] el4)).heap.size:=hx1.size;refine fin _ w2 g2 Or O2 (by rw[qK,hs7]) ?_ k3 (((hx1.mono (T:=λb=>O b≠0) λ_ _ h=>h.elim)).trans k4 λb hb hq=>?_) k5 (λb hb=>?_) k7
        .have:(xJ t7 (some 2) vv).getD 2 undef=vv:=by
          show(t7.setIfInBounds 2 _).getD 2 undef=_
          grind [qZ]
         simp_all
        all_goals grind
    grind
   grind
  grind
 simp_all
end
abbrev oe:=@ComesIn.of_steps
section
variable {P:Program}{F:Fence}{n:Nat}
def He {fn:Func}{tmps:F_}{R:Ending->World->Prop}:∀(ds:List Deferred) (u:FrameMode) (w:World) (fr:Frame)
  (cs:List Frame),fr.mode=u->fr.defers=ds->fr.tmps=tmps->P.funcs[fr.fn]?=some fn->fr.kind=.deferred->F.fn fr.fn->F.room (cs.length+1+n)->LeavesInM F n P fn tmps R ds u w->
  ∃e w' fr',R e w'∧ComesIn (Machine.fenced P F) P (lone fr cs w) (lone fr' cs w') e∧fr'.fn=fr.fn∧fr'.kind=.deferred∧fr'.going P w' e:=by
 intro ds
 induction ds with
 |nil =>
  intro u w fr cs hu hd ht hf hk _ _ h
  cases u with
  |run=>exact h.elim
  |returning =>
   obtain⟨v,hr,hR⟩:=h;exact⟨.returned v,w,fr,hR,StepsIn.refl _,rfl,hk,hu,hd,fn,hf,ht▸hr⟩
  |panicking chain=>exact⟨.panicked chain,w,fr,h,StepsIn.refl _,rfl,hk,hu,hd,fn,hf⟩
 |cons d ds ih =>
  intro u w fr cs hu hd ht hf hk hb hroom h;obtain⟨hrun,h⟩:=h;rcases h with ⟨r,w',htar,htake,hrest⟩|⟨hn,fv,cap,f,args,htar,hinv,hlead,hFf,hcall⟩
  .have h1:=step_collected (cs:=cs) (hu▸hrun) hd htar htake;have i1:(lone fr cs w).fenced P F:=fenced_out hb hroom (hu▸hrun) hd (λg hg=>by grind [Target.leads]);obtain⟨e',w'',fr',hR',hs',hfn',hk',hl'⟩:=ih u w' { fr with defers:=[]++ds } cs hu rfl ht hf hk hb hroom hrest;exact⟨e',w'',fr',hR',oe (.one i1 h1) hs',hfn',hk',hl'⟩
  .have h1:=step_defer (cs:=cs) (hu▸hrun) hd htar hinv;have i1:(lone fr cs w).fenced P F:=fenced_out hb hroom (hu▸hrun) hd hlead;have hroom':F.room (({ fr with defers:=ds }::cs).length+1+(n-1)):=Fence.room_enter hroom hn;obtain⟨e,u',w',frX,hR,hsteps,hkX,hfX,hgo⟩:=hcall { fr with defers:=ds } cs hu hroom'
   cases e with
   |outgrown=>exact⟨.outgrown,w',fr,hR,Outgrown.of_steps (.one h1) hsteps,rfl,hk,trivial⟩
   |returned v =>
    have i2:(lone frX ({ { fr with defers:=ds } with mode:=u' }::cs) w').fenced P F:=fenced_going (n:=n-1) (hfX▸hFf) hroom' hgo;have h2:=step_going_returned (c:={ { fr with defers:=ds } with mode:=u' }) (cs:=cs) hkX hgo;obtain⟨e',w'',fr',hR',hs',hfn',hk',hl'⟩:=ih (settle u') w' { { { fr with defers:=ds } with mode:=u' } with mode:=settle u' } cs rfl rfl ht hf hk hb hroom hR;exact⟨e',w'',fr',hR',oe (.head i1 h1 (rU hsteps (.one i2 h2))) hs',hfn',hk',hl'⟩
   |panicked chain =>
    have i2:(lone frX ({ { fr with defers:=ds } with mode:=u' }::cs) w').fenced P F:=fenced_going (n:=n-1) (hfX▸hFf) hroom' hgo;have h2:=step_going_panicked (c:={ { fr with defers:=ds } with mode:=u' }) (cs:=cs) hgo;obtain⟨e',w'',fr',hR',hs',hfn',hk',hl'⟩:=ih (raised u' chain) w' { { { fr with defers:=ds } with mode:=u' } with mode:=raised u' chain } cs rfl rfl ht hf hk hb hroom hR;exact⟨e',w'',fr',hR',oe (.head i1 h1 (rU hsteps (.one i2 h2))) hs',hfn',hk',hl'⟩
def Ph {f:FuncId}{fn:Func}{c:Code}{args:F_}{u:FrameMode}{w:World}{R:Ending->World->Prop}
  (hf:P.funcs[f]?=some fn)(hb:fn.body=some c)(hF:F.fn f)
  (h:c.wpIn F n P (bodyPostM F n P fn R) { tmps:=args++Array.replicate (fn.ntmps-args.size) undef,defers:=[] } w)(hro:F.round=none:=by rfl) :
  CallsDIn F n P f args u w λe u' w'=>u'=u∧R e w':=by
 refine⟨hF,λc₀ cs hu hr=>?_⟩
 let b:Frame:={ (default:Frame) with fn:=f,kind:=.deferred,roundOf:=none }
 have henter:Frame.enter P f args .deferred =
   b.atR { tmps:=args++Array.replicate (fn.ntmps-args.size) undef,defers:=[] } [.code c]:=by
  grind [Frame.enter,Frame.atR]
 have hc:({ c₀ with mode:=u }:Frame)=c₀:=by subst hu;rfl
 obtain⟨e,a',w',hq,harr⟩:=h b [] (c₀::cs) hro.symm hF hr;rw[<-henter]at harr
 cases e with
 |normal =>
  obtain⟨e',w'',fr',hR,hs,hfn,hk,hl⟩:=He a'.defers .returning w' { b.atR a' [] with mode:=.returning } (c₀::cs) rfl rfl rfl hf rfl hF hr hq;exact⟨e',u,w'',fr',⟨rfl,hR⟩,(by rw[hc];exact oe (rU harr (.one (fenced_calm (fr:=b.atR a' []) hF hr rfl) (stepR_end rfl))) hs),hk,hfn,hl⟩
 |ret =>
  obtain⟨todo,hs₀⟩:=harr.1 rfl;obtain⟨e',w'',fr',hR,hs,hfn,hk,hl⟩:=He a'.defers .returning w' { b.atR a' todo with mode:=.returning } (c₀::cs) rfl rfl rfl hf rfl hF hr hq;exact⟨e',u,w'',fr',⟨rfl,hR⟩,(by grind [ComesIn.of_steps]),hk,hfn,hl⟩
 |panic chain =>
  obtain⟨todo,hs₀⟩:=harr;obtain⟨e',w'',fr',hR,hs,hfn,hk,hl⟩:=He a'.defers (.panicking chain) w' { b.atR a' todo with mode:=.panicking chain } (c₀::cs) rfl rfl rfl hf rfl hF hr hq;exact⟨e',u,w'',fr',⟨rfl,hR⟩,(by grind [ComesIn.of_steps]),hk,hfn,hl⟩
 |exit id=>exact hq.elim
 |goto l=>exact hq.elim
 |outgrown=>exact⟨.outgrown,u,w',b,⟨rfl,hq⟩,(by exact harr.resolve_left (by simp[b])),rfl,rfl,trivial⟩
end
section
variable {P:Program}{g:Gh}{w:World}{t:F_}{O:Nat->Nat}{st st':St}{a:AV}{o:Oper}{r:dQ}
def EI (P:Program)(r:dQ):Prop :=
 ∀{f:FuncId}{args:D_}{hs:HS}{v:AV}{hs':HS},r.call f args hs=some (v,hs')->
  ∀{g:Gh}{w:World}{xs:N_}{Oa Oh:Nat->Nat},RVs g w args xs Oa->S P g w ⟨[],hs⟩ #[] Oh->(∀b,Oa b+Oh b<=1)->(∀b,Oa b≠0->b<w.heap.size)->∀u:FrameMode,
   CallsDIn (FR none) 0 P f xs.toArray u w λe u' w'=>u'=u∧im P g w (λb=>Oa b+Oh b) v hs' e w'
def Wg {ro:I_}{fn:Func}{tmps:F_}{R:Ending->World->Prop}{lo:Nat}{es:List Deferred}:∀{ms:List Deferred}{w:World},ko w O lo ms->S P g w st t O->
  (∀w',S P g w' st t O->bQ g w g w' (λb=>lo<=b)->LeavesInM (FR ro) 0 P fn tmps R es .returning w')->LeavesInM (FR ro) 0 P fn tmps R (ms++es) .returning w
 |[],w,_,s,h=>h w s (.refl _ _ _)
 |d::ds,w,⟨⟨r,h1,h2,h3,h4,h5⟩,h6⟩,s,h=>by
  refine⟨s_,.inl ⟨r,setBlk w r (.deferred none),h1,JI h3,?_⟩⟩;have hx:bQ g w g (setBlk w r (.deferred none)) λx=>x=r:=bQ.deferBlk h3
  have hm:ko (setBlk w r (.deferred none)) O lo ds:=by
   have:∀{es:List Deferred},(∀d'∈es,∀r',d'.target=.collected r'->r'<r)->ko w O lo es->ko (setBlk w r (.deferred none)) O lo es:=by
    intro es
    induction es with
    |nil=>exact λ_ _=>trivial
    |cons e es ih =>
     rintro hlt ⟨⟨q,k1,k2,k3,k4,k5⟩,k6⟩
     have:=hlt e (.head _) q k1;exact⟨⟨q,k1,k2,by grind [iN],k4,k5⟩,ih (λd' hd'=>hlt d' (.tail _ hd')) k6⟩
   grind
  exact Wg hm (s.otherG hx h4) λw' s' hx'=>h w' s' ((hx.mono (T:=λb=>lo<=b) λb _ e=>by omega).trans hx' λ_ _ h=>h)
end
def avy (P:Program)(vf:al)(f:FuncId):Prop :=
 ∃fn c,P.funcs[f]?=some fn∧fn.body=some c∧fn.name≠ "runtime.NumGoroutine"∧vf.nparams<=fn.ntmps∧mE P vf.results fn.results.toList=true∧
  (Mt P fn.ntmps vf.body c∨(∃m,vf.body=.clone m∧OK P m c=true∧8<=fn.ntmps)∨∃i d f a,vf.body=.late i d f a∧TH P fn.ntmps i d f a c=true)
def Kt (P:Program)(T:Nat->Z_):Prop:=∀f vf,T f=some vf->avy P vf f
def Ip (P:Program)(r:dQ):Prop :=
 ∀{v:VC}{st:St}{o:cJ}{st':St},r.code (.loop v) st=some (o,st')->∀{c:Code}{n:Nat},Mt P n v c->∀{g:Gh}{w:World}{t:F_}{O:Nat->Nat},t.size=n->S P g w st t O->
  ∀(ro:I_) (ds:List Deferred),Eh w ro->NZ ro P c (cD P g w t O ds ro o st') ⟨t,ds⟩ w
def EC (P:Program)(r:dQ):Prop :=
 ∀{v cur:VC}{st:St}{o:cJ}{st':St},r.code (.inScope v cur) st=some (o,st')->∀{body c:Code}{n:Nat},Mt P n v body->Mt P n cur c->∀{g:Gh}{w:World}{t:F_}{O:Nat->Nat},t.size=n->
  S P g w st t O->∀(ro:I_) (ds:List Deferred),Eh w ro->Gf ro P body c (cD P g w t O ds ro o st') ⟨t,ds⟩ w
def D8 (P:Program)(r:dQ):Prop :=
 ∀{v:VC}{st:St}{o:cJ}{st':St},xk v=true->r.code v st=some (o,st')->o=.normal∧∀{g:Gh}{w:World}{t:F_}{O:Nat->Nat},S P g w st t O->∃g' O',ip P g w t O st' t w g' O'
section
variable {P:Program}{g:Gh}{w:World}{t:F_}{O:Nat->Nat}{st st':St}{r:dQ}
def NZ.mono {ro:I_}{c:Code}{Q Q':Exit->Act->World->Prop}{a:Act}(h:NZ ro P c Q a w)(hq:∀e a w,Q e a w->Q' e a w):NZ ro P c Q' a w :=
 λb k cs hr=>let ⟨e,a',w',q,x⟩:=h b k cs hr;⟨e,a',w',hq _ _ _ q,x⟩
def Gf.mono {ro:I_}{body c:Code}{Q Q':Exit->Act->World->Prop}{a:Act}(h:Gf ro P body c Q a w)(hq:∀e a w,Q e a w->Q' e a w):Gf ro P body c Q' a w :=
 λb k cs hr=>let ⟨e,a',w',q,x⟩:=h b k cs hr;⟨e,a',w',hq _ _ _ q,x⟩
def ip.mono {O2:Nat->Nat}{t':F_}{w':World}{g':Gh}{O':Nat->Nat}(h:ip P g w t O st' t' w' g' O')(hle:∀b,O b<=O2 b):ip P g w t O2 st' t' w' g' O' :=
 ⟨h.st,h.ext.mono λb _ hb=>by grind,λb hb=>aM (h.old b hb) (hle b),h.size⟩
def cD.mono {O2:Nat->Nat}{ds:List Deferred}{ro:I_}{o:cJ}{e:Exit}{a':Act}{w':World}(h:cD P g w t O ds ro o st' e a' w')(hle:∀b,O b<=O2 b):cD P g w t O2 ds ro o st' e a' w':=by
 obtain⟨he,g',O',ms,G,hd,hm,hr⟩:=h;exact⟨he,g',O',ms,G.mono hle,hd,hm,hr⟩
def cD.refl {ds:List Deferred}{ro:I_}(o:cJ)(s:S P g w st t O):cD P g w t O ds ro o st (F5 o) ⟨t,ds⟩ w :=
 ⟨rfl,g,O,[],ip.refl s,rfl,trivial,λ_=>rfl⟩
def cD.ghost {ds:List Deferred}{ro:I_}{o o2:cJ}{st2:St}{e:Exit}{a':Act}{w':World}(h:cD P g w t O ds ro o st' e a' w')
  (hg:∀{g:Gh}{w:World}{t:F_}{O:Nat->Nat},S P g w st' t O->∃g' O',ip P g w t O st2 t w g' O')(ho:F5 o=F5 o2):cD P g w t O ds ro o2 st2 e a' w':=by
 obtain⟨he,g',O',ms,G,hd,hm,hr⟩:=h;obtain⟨g2,O2,G2⟩:=hg G.st;exact⟨he.trans ho,g2,O2,ms,G.trans G2,hd,hm.after G2.ext G2.old,hr⟩
theorem cD.as {ds:List Deferred}{ro:I_}{o o2:cJ}{e:Exit}{a':Act}{w':World}(h:cD P g w t O ds ro o st' e a' w'):cD P g w t O ds ro o2 st' (F5 o2) a' w':=by
 obtain⟨_,h⟩:=h;exact⟨rfl,h⟩
def ER {ds:List Deferred}{ro:I_}(hro:Eh w ro){o1:cJ}{st1:St}{next:Act->World->Prop}{o:cJ}{e:Exit}{a1:Act}{w1:World}(h:cD P g w t O ds ro o1 st1 e a1 w1)
  (hn:o1=.normal->∀(t1:F_) (ds1:List Deferred) (g1:Gh) (O1:Nat->Nat),t1.size=t.size->S P g1 w1 st1 t1 O1->Eh w1 ro->
   (∀e a2 w2,cD P g1 w1 t1 O1 ds1 ro o st' e a2 w2->cD P g w t O ds ro o st' e a2 w2)->next ⟨t1,ds1⟩ w1)
  (ho:o1≠.normal->o=o1∧st'=st1):Exit.then next (cD P g w t O ds ro o st') e a1 w1:=by
 have h0:=h;obtain⟨he,g1,O1,ms,G,hd,hm,hr⟩:=h;subst he;by_cases hnm:o1=.normal
 .subst hnm;obtain⟨t1,d1⟩:=a1;subst hd;exact hn rfl t1 _ g1 O1 G.size G.st (hro.ext G.ext) λe a2 w2 k=>cD.comp G hm hr k
 .obtain⟨rfl,rfl⟩:=ho hnm
  cases o<;>first|exact absurd rfl hnm|exact h0
def ad3 (hc:jF P r)(hl:Ip P r)(hs:EC P r)(hgh:D8 P r)(hr:jp P r){v:VC}{o:cJ}(h:df v r st=some (o,st')){c:Code}{n:Nat}(hm:Mt P n v c)(hn:t.size=n)
  (s:S P g w st t O)(ro:I_)(ds:List Deferred)(hro:Eh w ro):c.wpIn (FR ro) 0 P (cD P g w t O ds ro o st') ⟨t,ds⟩ w:=by
 cases hm with
 |@ghostL a b c h1 h2 =>
  simp only[df,N6]at h;split at h
  .rename_i st1 ha;obtain⟨_,hg⟩:=hgh h1 ha;obtain⟨g1,O1,G⟩:=hg s;exact wpIn_mono (hc h h2 o_ G.st ro ds hro) λe a2 w2 k=>cD.comp (ms1:=[]) G trivial (λ_=>rfl) k
  .rename_i x hx
   cases hra:r.code a st with
   |none=>simp_all
   |some p =>
    obtain⟨o1,st1⟩:=p;obtain⟨rfl,_⟩:=hgh h1 hra
    simp_all
 |@ghostR a b c h1 h2 =>
  simp only[df,N6]at h;split at h
  .rename_i st1 ha;obtain⟨rfl,hg⟩:=hgh h1 h;exact wpIn_mono (hc ha h2 hn s ro ds hro) λe a2 w2 k=>k.ghost hg rfl
  .rename_i x hx;exact hc h h2 hn s ro ds hro
 |@seq a b c d h1 h2 =>
  simp only[df,N6]at h;split at h
  .rename_i st1 ha;refine wpIn_seq (wpIn_mono (hc ha h1 hn s ro ds hro) λe a1 w1 k=>ER hro k (λ_ t1 ds1 g1 O1 hs1 s1 hro1 hcomp=>?_) (λhne=>absurd rfl hne));exact wpIn_mono (hc h h2 o_ s1 ro ds1 hro1) hcomp
  .rename_i x hx;refine wpIn_seq (wpIn_mono (hc h h1 hn s ro ds hro) λe a1 w1 k=>ER hro k (λhnm=>?_) (λ_=>⟨rfl,rfl⟩))
   simp_all
 |skip =>
  simp only[df,ae,aR]at h;obtain⟨rfl,rfl⟩:=h;exact wpIn_skip (cD.refl .normal s)
 |@reg ops id os hops =>
  simp only[df,Tz]at h;split at h
  .rename_i st1 hst;simp only[ae,aR]at h;obtain⟨rfl,rfl⟩:=h;refine wpIn_region ?_;have:=abG (ro:=ro) (Q:=cD P g w t O ds ro .normal st1) hr hc ds (k:=0) rfl hops hn s hst λw' t' g' O' G=>⟨rfl,g',O',[],G,rfl,trivial,λ_=>rfl⟩
   grind [List.range_eq_range']
  simp_all
 |@draw ops id os hops =>
  simp only[df,Tz]at h;split at h
  .rename_i st1 hst;simp only[ae,aR]at h;obtain⟨rfl,rfl⟩:=h;exact asJ hr hc ds hops hn s hst λw' t' g' O' G=>⟨rfl,g',O',[],G,rfl,trivial,λ_=>rfl⟩
  simp_all
 |@drawP perm gco nr ops id os hops =>
  simp only[df,NA,NJ]at h;split at h
  .rename_i habs;split at h
   .rename_i st1 hst;simp only[ae,aR]at h;obtain⟨rfl,rfl⟩:=h;exact ap1 hr hc ds hops hn s habs hst λw' t' g' O' G=>⟨rfl,g',O',[],G,rfl,trivial,λ_=>rfl⟩
   simp_all
  simp_all
 |@cond rd o' a b c d h1 h2 h3 =>
  simp only[df,Nr]at h;have step:∀(tb:Bool) (e:aZ) (k:VC) (cd:Code),Vm.rd st.env rd=some (B_ tb,e)->r.code k ⟨e,st.hs⟩=some (o,st')->Mt P n k cd->(if tb then c else d)=cd->
    (Code.cond o' c d).wpIn (FR ro) 0 P (cD P g w t O ds ro o st') ⟨t,ds⟩ w:=by
   intro tb e k cd hrd hk hmk hcd;obtain⟨Ov,O',rv,s',l⟩:=s.rd h1 hrd;have hev:=Bw rv rfl;refine wpIn_cond (t:=tb) (by simp_all [Id]) ?_;rw[hcd];exact wpIn_mono (hc hk hmk hn s' ro ds hro) λe a2 w2 k=>k.mono λb=>by grind
  grind
 |@block bid a c h1 =>
  simp only[df,NP]at h;split at h
  .rename_i j st1 ha;refine wpIn_block (wpIn_mono (hc ha h1 hn s ro ds hro) λe a1 w1 k=>?_);obtain⟨rfl,_⟩:=id k
   grind [F5,Exit.inBlock,Nat.beq_eq,cD.as]
  .rename_i x hx;refine wpIn_block (wpIn_mono (hc h h1 hn s ro ds hro) λe a1 w1 k=>?_);have hne:∀j,o≠.exit j:=u_;obtain⟨rfl,_⟩:=id k
   cases o<;>first|exact k|simp_all
 |@loop a c h1 =>
  simp only[df,Sz]at h;refine(aaa ?_).2;split at h
  .rename_i st1 ha;refine wpIn_mono (hc ha h1 hn s ro ds hro) λe a1 w1 k=>ER hro k (λ_ t1 ds1 g1 O1 hs1 s1 hro1 hcomp=>?_) (λhne=>absurd rfl hne)
   exact(hl h h1 o_ s1 ro ds1 hro1).mono hcomp
  .rename_i x hx;refine wpIn_mono (hc h h1 hn s ro ds hro) λe a1 w1 k=>ER hro k (λhnm=>?_) (λ_=>⟨rfl,rfl⟩)
   simp_all
 |@rangeF rd o' ps qs a b c d h1 h2 h3 h4 h5 =>
  subst hn h2;exact aka hr h h1 h3 h4 h5 s ro ds hro
 |exit =>
  simp only[df,ae,aR]at h;obtain⟨rfl,rfl⟩:=h;exact wpIn_exit (cD.refl (.exit _) s)
 |@scope a c h1 =>
  exact arw (hs h h1 h1 hn s ro ds hro)
 |label =>
  obtain⟨rfl,rfl⟩:=h;exact wpIn_label (cD.refl .normal s)
 |goto =>
  obtain⟨rfl,rfl⟩:=h;exact wpIn_goto (cD.refl (.goto _) s)
 |ret =>
  obtain⟨rfl,rfl⟩:=h;exact wpIn_ret (cD.refl .ret s)
def arL (hc:jF P r)(hl:Ip P r){v:VC}{o:cJ}(h:df (.loop v) r st=some (o,st')){c:Code}{n:Nat}(h1:Mt P n v c)(hn:t.size=n)
  (s:S P g w st t O)(ro:I_)(ds:List Deferred)(hro:Eh w ro):NZ ro P c (cD P g w t O ds ro o st') ⟨t,ds⟩ w:=by
 simp only[df,Sz]at h;refine(aaa ?_).1;split at h
 .rename_i st1 ha;refine wpIn_mono (hc ha h1 hn s ro ds hro) λe a1 w1 k=>ER hro k (λ_ t1 ds1 g1 O1 hs1 s1 hro1 hcomp=>?_) (λhne=>absurd rfl hne)
  exact(hl h h1 o_ s1 ro ds1 hro1).mono hcomp
 .refine wpIn_mono (hc h h1 hn s ro ds hro) λe a1 w1 k=>ER hro k (λhnm=>?_) (λ_=>⟨rfl,rfl⟩)
  simp_all
def aoP (hc:jF P r)(hs:EC P r){v cur:VC}{o:cJ}(h:df (.inScope v cur) r st=some (o,st')){body c:Code}{n:Nat}(h1:Mt P n v body)(h2:Mt P n cur c)(hn:t.size=n)
  (s:S P g w st t O)(ro:I_)(ds:List Deferred)(hro:Eh w ro):Gf ro P body c (cD P g w t O ds ro o st') ⟨t,ds⟩ w:=by
 simp only[df,K5]at h;refine alA ?_;split at h
 .rename_i l st1 ha;refine wpIn_mono (hc ha h2 hn s ro ds hro) λe a1 w1 k=>?_
  have k0:=k;obtain⟨rfl,g1,O1,ms,G,hd,hm,hr⟩:=k;have hf:=arJ h1 l;simp only[F5,Exit.scope];split at h
  .rename_i rest hrest;rw[hrest]at hf;obtain⟨y,hy,hmy⟩:=hf;rw[hy];obtain⟨t1,d1⟩:=a1;subst hd;exact(hs h h1 hmy (by rw[G.size,hn]) G.st ro _ (hro.ext G.ext)).mono λe a2 w2 k=>cD.comp G hm hr k
  .rename_i hnone;rw[hnone]at hf;rw[hf];obtain⟨rfl,rfl⟩:=h;exact k0
 .refine wpIn_mono (hc h h2 hn s ro ds hro) λe a1 w1 k=>?_
  obtain⟨rfl,_⟩:=id k
  cases o<;>first|exact k|simp_all
theorem Yc {r:dQ}:∀{ops:S_}{st st':St},ops.all M3=true->lx r ops st=some st'->∀{g:Gh}{w:World}{t:F_}{O:Nat->Nat},S P g w st t O->∃g' O',ip P g w t O st' t w g' O'
 |[],st,st',_,h,g,w,t,O,s=>by
  simp only[lx,ae]at h;subst h;exact⟨g,O,ip.refl s⟩
 |i::l,st,st',ha,h,g,w,t,O,s=>by
  simp only[ij,af]at ha;simp only[lx]at h;split at h
  .rename_i st1 hv;obtain⟨g1,O1,G1⟩:=adv s ha.1 hv;obtain⟨g2,O2,G2⟩:=Yc ha.2 h G1.st;exact⟨g2,O2,G1.trans G2⟩
  simp_all
def aon (hg:D8 P r){v:VC}{o:cJ}(hv:xk v=true)(h:df v r st=some (o,st')):o=.normal∧∀{g:Gh}{w:World}{t:F_}{O:Nat->Nat},S P g w st t O->∃g' O',ip P g w t O st' t w g' O':=by
 cases v<;>simp only[xk,ao]at hv
 .grind [df,Tz,Yc]
 .simp only[af]at hv;simp only[df,N6]at h;split at h
  .rename_i st1 hst;obtain⟨_,h1⟩:=hg hv.1 hst;obtain⟨ho,h2⟩:=hg hv.2 h;refine⟨ho,λs=>?_⟩;obtain⟨g1,O1,G1⟩:=h1 s;obtain⟨g2,O2,G2⟩:=h2 G1.st;exact⟨g2,O2,G1.trans G2⟩
  .obtain⟨ho,_⟩:=hg hv.1 h
   simp_all
end
abbrev bh:=@List.append_nil
abbrev bt:=@List.length_nil
abbrev mP:=@List.getElem?_cons_succ
section
variable {P:Program}
def Ql {fn:Func}{vf:al}(h5:mE P vf.results fn.results.toList=true){v:AV}{hs':HS}{o:cJ}{st1:St}(ho:o=.normal∨o=.ret)(hend:Hm vf st1=some (v,hs')){g:Gh}{w:World}{t:F_}{O:Nat->Nat}
  {e:Exit}{a':Act}{w':World}(k:cD P g w t O [] none o st1 e a' w'):bodyPostM (FR none) 0 P fn (im P g w O v hs') e a' w':=by
 obtain⟨rfl,g',O',ms,G,hd,hm,_⟩:=k;rw[bh]at hd;have key:LeavesInM (FR none) 0 P fn a'.tmps (im P g w O v hs') a'.defers .returning w':=by
  rw[hd];refine aap hm G.st λw2 s2 hx2=>?_
  obtain⟨x,Ov,Oh2,hrun,rx,sh2,l2⟩:=agV h5 hend s2;refine⟨x,hrun,g',Ov,Oh2,rx,sh2,G.ext.trans hx2 (λb hb hq=>absurd hq o_),λb=>by have:=l2 b;have:=s2.le b;omega,λb hb=>?_,λb hb=>s2.hi b d_⟩
  grind [ip.old]
 rcases ho with rfl|rfl
 .exact key
 .exact key
def aot {r:dQ}(hr:jp P r)(hrd:EI P r){fn:Func}{vf:al}(h5:mE P vf.results fn.results.toList=true){v v1:AV}{hs2 hs':HS}{o:cJ}{st1:St}(ho:o=.normal∨o=.ret){f id off:Nat}
  (hcall:r.call f [.ptr id off] st1.hs=some (v1,hs2))(hend:Hm vf ⟨st1.env,hs2⟩=some (v,hs')){g:Gh}{w:World}{t:F_}{O:Nat->Nat}{x:Value}(hx:∃b,g.obj id=some b∧x=.pointer (some ⟨b,g.base id+off,none⟩))
  {e:Exit}{a':Act}{w':World}(k:cD P g w t O [{ target:=.fn (.func f) #[],args:=#[x] }] none o st1 e a' w'):bodyPostM (FR none) 0 P fn (im P g w O v hs') e a' w':=by
 obtain⟨rfl,g',O',ms,G,hd,hm,_⟩:=k;obtain⟨hf,hk⟩:=hr hcall;have key:LeavesInM (FR none) 0 P fn a'.tmps (im P g w O v hs') a'.defers .returning w':=by
  rw[hd];refine Wg hm G.st λw2 s2 hx2=>?_
  have hx12:bQ g w g' w2 λb=>O b≠0:=G.ext.trans hx2 (λb hb hq=>absurd hq o_)
  obtain⟨b,hb,hxe⟩:=hx;obtain⟨k1,k2,_⟩:=hx12.obj id b hb;have rv:RVs g' w2 [.ptr id off] [x] zero:=by
   refine⟨x,[],zero,zero,rfl,?_,⟨rfl,λ_=>rfl⟩,λ_=>rfl⟩
   grind [RV]
  obtain⟨Oe,Oh,re,sh,hO⟩:=s2.split;refine⟨s_,.inr ⟨by simp[Fence.wide],.func f,#[],f,#[x],rfl,?_,λ_ _=>trivial,(hrd hcall rv sh (λb=>by have:=s2.le b;grind) (λb hb=>by simp at hb) .returning).mono ?_⟩⟩
  .show(callFunc f (#[x]++#[])).run P w2=_
   grind [xt]
  .rintro e u' w3 ⟨rfl,hp⟩
   cases e with
   |panicked c=>exact hp.elim
   |outgrown=>exact hp.elim
   |returned y =>
    obtain⟨g3,Oa,O3,A⟩:=HU (v:=v1) (hs:=st1.hs) (t:=a'.tmps) s2.se re (λb=>by simp_all) s2 hp;obtain⟨x4,Ov,Oh2,hrun,rx,sh2,l2⟩:=agV h5 hend A.st;refine⟨x4,hrun,g3,Ov,Oh2,rx,sh2,hx12.trans A.ext (λb hb h=>by grind [ip.old]),λb=>by have:=l2 b;have:=A.le b;omega,λb hb=>?_,λb hb=>A.st.hi b d_⟩;have:=l2 b;have:=G.old b hb;have:=A.old b (bc hb hx12.size);omega
 rcases ho with rfl|rfl
 .exact key
 .exact key
def anp {r:dQ}(hc:jF P r)(hr:jp P r)(hrd:EI P r){n i d f:Nat}{a:VC}{c:Code}(hk:TH P n i d f a c=true){fn:Func}{vf:al}(h5:mE P vf.results fn.results.toList=true){st st1:St}{o:cJ}{v:AV}{hs':HS}
  (h:Tf r i d f a st=some (o,st1))(hend:Hm vf st1=some (v,hs')){g:Gh}{w:World}{t:F_}{O:Nat->Nat}(hn:t.size=n)(s:S P g w st t O) :
  c.wpIn (FR none) 0 P (bodyPostM (FR none) 0 P fn (im P g w O v hs')) ⟨t,[]⟩ w:=by
 obtain⟨env,hs⟩:=st;unfold TH at hk;split at hk
 .rename_i rid os rest;simp only[af]at hk;obtain⟨⟨hk1,hdn⟩,hrest⟩:=hk;split at hk1
  .rename_i m kk hos;simp only[af]at hk1;obtain⟨⟨⟨⟨hm1,hm2⟩,hk1a⟩,hk1b⟩,hk2⟩:=hk1;obtain⟨hmd,hmg⟩:=AR hm1;have hk1a':kk.dst=none:=u_;have hk1b':kk.guard=none:=u_;split at hm2
   .rename_i y hmop;have:=wT hm2;subst this;split at hk2
    .rename_i cl hkop;simp only[af]at hk2;obtain⟨hcal,hargs⟩:=hk2;have hcal':=Li hcal;split at hargs
     .rename_i y hay;have:=wT hargs;subst this;have harr:cl.args=#[.tmp d]:=aG5 hay;have hosA:os=#[m,kk]:=d_;subst hosA;have hd:d<t.size:=u_;unfold Tf at h;split at h
      .rename_i id off hget;obtain⟨Ov,O1,rv,s1,l1⟩:=s.rd (r:=.s i) (o:=.tmp i) (by simp[cR]) (v:=.ptr id off) (e':=env) (by grind [rd,share]);obtain⟨hxp,hOv⟩:=rv;have rv':RV g w (.ptr id off) (ev t (.tmp i)) zero:=by grind [RV]
       obtain⟨O2,s2,l2⟩:=s.setTmp hd rv' (λb=>by have:=s.le b;simp_all) (λb hb=>by simp at hb);have hle2:∀b,O2 b<=O b:=λb=>by simp_all
       have hst:∃o1 st0 v1 hs2,(o1=.normal∨o1=.ret)∧r.code a ⟨put env d (.ptr id off),hs⟩=some (o1,st0)∧r.call f [.ptr id off] st0.hs=some (v1,hs2)∧st1=⟨st0.env,hs2⟩:=by
        grind
       obtain⟨o1,st0,v1,hs2,ho1,hra,hcl,rfl⟩:=hst;refine wpIn_seq (wpIn_region ?_);have hx2:(t.setIfInBounds d (ev t (.tmp i))).getD d undef=ev t (.tmp i):=u_;have hgo:rest.wpIn (FR none) 0 P (bodyPostM (FR none) 0 P fn (im P g w O v hs')) ⟨t.setIfInBounds d (ev t (.tmp i)),[{ target:=.fn (.func f) #[],args:=#[ev t (.tmp i)] }]⟩ w:=by
        refine wpIn_mono (hc hra (kf a rest hrest) (by simp[hn]) s2 none _ (λl hl=>by simp at hl)) λe a' w' k=>?_
        exact aot hr hrd h5 ho1 hcl hend hxp (k.mono hle2)
       simp only[List.range,List.range.loop,List.size_toArray,aq,bt,wpOpsIn,bn];simp only[List.getElem?_toArray,ca,mP,Region.wanted,hmg,hk1b',bj,Oper.wpIn];refine⟨λ_ _=>trivial,?_⟩;rw[OX t [] u_];simp only[execOp,hmop,dO,Oper.uponIn_value,Act.put,hmd];rw[Oper.semAt_none,Id];have hrun:(execOp (ev (t.setIfInBounds d (ev t (.tmp i)))) kk).run P w=.ok (.defer { target:=.fn (.func f) #[],args:=#[ev t (.tmp i)] }) w:=by
        have h0:ev (t.setIfInBounds d (ev t (.tmp i))) (.tmp d)=ev t (.tmp i):=hx2;have h1:ev (t.setIfInBounds d (ev t (.tmp i))) (.func f)=.func (.func f) #[] #[]:=rfl
        simp_all [execOp,resolve,Deferred.ofValue]
       rw[hrun,Oper.uponIn_defer];simp only[Act.put,hk1a'];exact⟨λ_ _=>trivial,hgo⟩
      simp_all
     simp_all
    simp_all
   simp_all
  simp_all
 simp_all
def adK {T:Nat->Z_}(hT:Kt P T){r:dQ}(hc:jF P r)(hl:Ip P r)(hs:EC P r)(hgh:D8 P r)(hr:jp P r)(hrd:EI P r){f:FuncId}{args:D_}{hs0:HS}{v:AV}{hs':HS}
  (h:wD T r f args hs0=some (v,hs')):∃fn c,P.funcs[f]?=some fn∧fn.body=some c∧fn.name≠ "runtime.NumGoroutine"∧∀{g:Gh}{w:World}{xs:N_}{Oa Oh:Nat->Nat},RVs g w args xs Oa->S P g w ⟨[],hs0⟩ #[] Oh->(∀b,Oa b+Oh b<=1)->(∀b,Oa b≠0->b<w.heap.size)->
   c.wpIn (FR none) 0 P (bodyPostM (FR none) 0 P fn (im P g w (λb=>Oa b+Oh b) v hs')) ⟨xs.toArray++Array.replicate (fn.ntmps-xs.toArray.size) undef,[]⟩ w:=by
 unfold wD at h;split at h
 .simp at h
 .rename_i vf hvf;obtain⟨fn,c,h1,h2,h3,h4,h5,h6⟩:=hT f vf hvf;refine⟨fn,c,h1,h2,h3,λ{g w xs Oa Oh} rv sh hle hhi=>?_⟩;split at h
  .simp at h
  .have hxl:=rv.length;have hfin:∀{o:cJ}{st1:St},(o=.normal∨o=.ret)->df vf.body r ⟨kM 0 args,hs0⟩=some (o,st1)->Hm vf st1=some (v,hs')->
     c.wpIn (FR none) 0 P (bodyPostM (FR none) 0 P fn (im P g w (λb=>Oa b+Oh b) v hs')) ⟨xs.toArray++Array.replicate (fn.ntmps-xs.toArray.size) undef,[]⟩ w:=by
    intro o st1 ho hcode hend;have s:=ayG rv sh hle hhi (fn.ntmps-xs.toArray.size);have hsz:(xs.toArray++Array.replicate (fn.ntmps-xs.toArray.size) undef).size=fn.ntmps:=u_;rcases h6 with hm|⟨m,hb,hcl,h8⟩|⟨i,d,f2,a,hb,hlt⟩
    .exact wpIn_mono (ad3 hc hl hs hgh hr hcode hm hsz s none [] (λl hl=>by simp at hl)) λe a' w' k=>Ql h5 ho hend k
    .rw[hb]at hcode;exact wpIn_mono (aoR hcl hcode o_ s) λe a' w' k=>Ql h5 ho hend k
    .rw[hb]at hcode;exact anp hc hr hrd hlt h5 hcode hend hsz s
   grind
def aqZ {T:Nat->Z_}(hT:Kt P T){r:dQ}(hc:jF P r)(hl:Ip P r)(hs:EC P r)(hgh:D8 P r)(hr:jp P r)(hrd:EI P r){f:FuncId}{args:D_}{hs0:HS}{v:AV}{hs':HS}
  (h:wD T r f args hs0=some (v,hs')):aoO P f∧∀{g:Gh}{w:World}{xs:N_}{Oa Oh:Nat->Nat},RVs g w args xs Oa->S P g w ⟨[],hs0⟩ #[] Oh->(∀b,Oa b+Oh b<=1)->(∀b,Oa b≠0->b<w.heap.size)->
   CallsIn (FR none) 0 P f xs.toArray w (im P g w (λb=>Oa b+Oh b) v hs'):=by
 obtain⟨fn,c,h1,h2,h3,hk⟩:=adK hT hc hl hs hgh hr hrd h;exact⟨⟨fn,h1,by simp[h2],h3⟩,λrv sh hle hhi=>callsIn_of_wp_marks (F:=FR none) h1 h2 trivial (hk rv sh hle hhi)⟩
def anr {T:Nat->Z_}(hT:Kt P T){r:dQ}(hc:jF P r)(hl:Ip P r)(hs:EC P r)(hgh:D8 P r)(hr:jp P r)(hrd:EI P r){f:FuncId}{args:D_}{hs0:HS}{v:AV}{hs':HS}
  (h:wD T r f args hs0=some (v,hs')):∀{g:Gh}{w:World}{xs:N_}{Oa Oh:Nat->Nat},RVs g w args xs Oa->S P g w ⟨[],hs0⟩ #[] Oh->(∀b,Oa b+Oh b<=1)->(∀b,Oa b≠0->b<w.heap.size)->∀u:FrameMode,
   CallsDIn (FR none) 0 P f xs.toArray u w λe u' w'=>u'=u∧im P g w (λb=>Oa b+Oh b) v hs' e w':=by
 obtain⟨fn,c,h1,h2,h3,hk⟩:=adK hT hc hl hs hgh hr hrd h;exact λrv sh hle hhi u=>Ph (F:=FR none) h1 h2 trivial (hk rv sh hle hhi)
def aAh {T:Nat->Z_}(hT:Kt P T):∀n,jF P (run T n)∧Ip P (run T n)∧EC P (run T n)∧D8 P (run T n)∧jp P (run T n)∧EI P (run T n)
 |0=>⟨λh=>by simp[run]at h,λh=>by simp[run]at h,λh=>by simp[run]at h,λ_ h=>by simp[run]at h,λh=>by simp[run]at h,λh=>by simp[run]at h⟩
 |n+1=>by
  obtain⟨hc,hl,hs,hgh,hr,hrd⟩:=aAh hT n;refine⟨λ{v st o st'} h {c m} hm {g w t O} hn s ro ds hro=>?_,λ{v st o st'} h {c m} hm {g w t O} hn s ro ds hro=>?_,λ{v cur st o st'} h {body c m} h1 h2 {g w t O} hn s ro ds hro=>?_,λ{v st o st'} hv h=>?_,λ{f args hs0 v hs'} h=>?_,λ{f args hs0 v hs'} h=>?_⟩
  .exact ad3 hc hl hs hgh hr h hm hn s ro ds hro
  .exact arL hc hl h hm hn s ro ds hro
  .exact aoP hc hs h h1 h2 hn s ro ds hro
  .exact aon hgh hv h
  .exact aqZ hT hc hl hs hgh hr hrd h
  .exact anr hT hc hl hs hgh hr hrd h
def VW {T:Nat->Z_}(hT:Kt P T){n:Nat}{f:FuncId}{args:D_}{v:AV}{hs':HS}(h:(run T n).call f args ⟨[],0⟩=some (v,hs')){g:Gh}{w:World}{xs:N_}
  (hobj:∀id,g.obj id=none)(hpm:∀b o,g.pm b o->b<w.heap.size)(rv:RVs g w args xs zero) :
  Calls P f xs.toArray w (im P g w zero v hs'):=by
 obtain⟨_,_,_,_,hr,_⟩:=aAh hT n;obtain⟨_,hk⟩:=hr h;have sh:S P g w ⟨[],⟨[],0⟩⟩ #[] zero:=⟨List.Pairwise.nil,List.Pairwise.nil,⟨zero,zero,λ_=>rfl,λ_=>rfl,λ_=>rfl⟩,λ_=>by simp,λb hb=>by simp at hb,λid _=>hobj id,hpm⟩
 grind [CallsIn.calls,ach]
end
#print axioms VW
abbrev dG:=@List.flatten_cons
abbrev tK:=@Option.bind_eq_some_iff
abbrev uS:=@Option.map_eq_some_iff
abbrev sH:=@List.length_range
inductive Ty where
 |int (k:IntKind)
 |bool
 |str
 |lst (es:List Ty)
abbrev BG_:=List Ty
mutual
def rg:Ty->D->Prop
 |.int k,.int j n=>j=k∧(Lit.int k n).wf=true
 |.bool,.bool _=>True
 |.str,.str _=>True
 |.lst es,.lst xs=>∀x∈xs,OkDs es x
 |_,_=>False
def OkDs:BG_->W_->Prop
 |[],[]=>True
 |t::ts,d::ds=>rg t d∧OkDs ts ds
 |_,_=>False
end
def ahY (P:Program)(f:TypeId->Option BG_):List Field->Nat->Option BG_
 |[],_=>some []
 |fd::r,off=>match Nat.beq fd.offset off,f fd.type with
  |true,some ts=>match Nat.beq (P.cellsOf fd.type) ts.length,ahY P f r (off+ts.length) with
   |true,some us=>some (ts++us)
   |_,_=>none
  |_,_=>none
def E1 (P:Program):Nat->TypeId->Option BG_
 |0,_=>none
 |n+1,t=>match P.underlying t with
  |some .bool=>some [.bool]
  |some (.int k)=>some [.int k]
  |some .string=>some [.str]
  |some (.slice e)=>match E1 P n e with
   |some (x::xs)=>match Nat.beq (P.cellsOf e) (x::xs).length with
    |true=>some [.lst (x::xs)]
    |false=>none
   |_=>none
  |some (.struct fs)=>match ahY P (E1 P n) fs.toList 0 with
   |some ts=>match Nat.beq (P.cellsOf t) ts.length with
    |true=>some ts
    |false=>none
   |none=>none
  |_=>none
mutual
def gP {H:Type}:DataW H->W_
 |.lit (.int k n)=>[.int k n]
 |.lit (.bool b)=>[.bool b]
 |.lit (.string s)=>[.str s]
 |.nil=>[.lst []]
 |.slice es _=>[.lst (cellsEs es)]
 |.agg ps=>cellsPs ps
 |_=>[]
def cellsEs {H:Type}:List (DataW H)->E_
 |[]=>[]
 |d::r=>gP d::cellsEs r
def cellsPs {H:Type}:List (DataW H)->W_
 |[]=>[]
 |d::r=>gP d++cellsPs r
end
theorem OkDs.len:∀{ts:BG_}{ds:W_},OkDs ts ds->ds.length=ts.length
 |[],[],_=>rfl
 |t::ts,d::ds,h=>by simp[OkDs.len h.2]
 |[],_::_,h=>by simp[OkDs]at h
 |_::_,[],h=>by simp[OkDs]at h
theorem OkDs.append:∀{ts us:BG_}{ds es:W_},OkDs ts ds->OkDs us es->OkDs (ts++us) (ds++es)
 |[],us,[],es,_,h=>h
 |t::ts,us,d::ds,es,h,h2=>by
  exact⟨h.1,h.2.append h2⟩
 |[],_,_::_,_,h,_=>by simp[OkDs]at h
 |_::_,_,[],_,h,_=>by simp[OkDs]at h
def WB {α β:Type}{f:α->Option β}:∀{l:List α}{ys:List β},l.mapM f=some ys->ys.length=l.length∧∀(i:Nat) (x:α),l[i]?=some x->∃y,ys[i]?=some y∧f x=some y
 |[],ys,h=>by simp_all
 |a::l,ys,h=>by
  cases ha:f a with
  |none=>simp_all
  |some b =>
   cases hl:l.mapM f with
   |none=>simp_all
   |some bs =>
    obtain⟨h1,h2⟩:=WB hl
    grind
def akX {H:Type}(ds:List (DataW H)):cellsEs ds=ds.map gP:=by
 induction ds<;>grind [cellsEs]
def afi {xs:E_}{m:Nat}(h:∀e∈xs,e.length=m){j:Nat}{c:D}(hj:xs.flatten[j]?=some c):∃i k e,j=i*m+k∧k<m∧xs[i]?=some e∧e[k]?=some c:=by
 induction xs generalizing j with
 |nil=>simp at hj
 |cons x xs ih =>
  have hx:=h x (.head _);rw[dG]at hj;rcases bD j x.length with hlt|hge
  .rw[bU hlt]at hj;exact⟨0,j,x,s_,o_,rfl,hj⟩
  .rw[bg hge]at hj;obtain⟨i,k,e,h1,h2,h3,h4⟩:=ih (λe he=>h e (.tail _ he)) hj;exact⟨i+1,k,e,d_,h2,u_,h4⟩
section
variable {H:Type}{enc:TypeId×Value->H}{P:Program}{W:World}{sp:Nat->Bool}{held:Bool}
abbrev FD (W:World):Nat->Nat->Prop:=λb _=>b<W.heap.size
def amt {a:Addr}{v:Value}(h:W.cell? a=some v):a.block<W.heap.size∧a.spot=none:=by
 unfold World.cell? at h;split at h<;>simp_all [jV]
def VE {f:TypeId->Option BG_}{g:TypeId->N_->Option (DataW H×List MemPlace)}
  (ih:∀t ts cs x,f t=some ts->g t cs=some x->OkDs ts (gP x.1)∧cs.length=(gP x.1).length∧∀(j:Nat) (c:D),(gP x.1)[j]?=some c->∃u,cs[j]?=some u∧RD W (FD W) c u) :
  ∀{fs:List Field}{off:Nat}{ts:BG_}{cs:N_}{xs:List (DataW H×List MemPlace)},ahY P f fs off=some ts->off+ts.length<=cs.length->
   fs.mapM (λfd=>g fd.type ((cs.drop fd.offset).take (P.cellsOf fd.type)))=some xs->
   OkDs ts (cellsPs (xs.map (·.1)))∧∀(j:Nat) (c:D),(cellsPs (xs.map (·.1)))[j]?=some c->∃u,cs[off+j]?=some u∧RD W (FD W) c u
 |[],off,ts,cs,xs,h,hb,hm=>by
  grind [ahY,cellsPs,OkDs]
 |fd::fs,off,ts,cs,xs,h,hb,hm=>by
  simp only[ahY]at h;split at h
  .rename_i ts1 ho h1;rw[aD]at ho;split at h
   .rename_i us hc h2;rw[aD]at hc;simp only[ae]at h;subst h;simp only[aj]at hb;simp only[List.mapM_cons,Option.bind_eq_bind,Option.pure_def]at hm
    cases hg:g fd.type ((cs.drop fd.offset).take (P.cellsOf fd.type)) with
    |none=>simp_all
    |some x =>
     cases hr:fs.mapM (λfd=>g fd.type ((cs.drop fd.offset).take (P.cellsOf fd.type))) with
     |none=>simp_all
     |some ys =>
      obtain⟨q1,q2⟩:=VE ih h2 o_ hr
      grind [cellsPs,OkDs.append]
   simp_all
  simp_all
def Xt:∀(fuel n:Nat) (t:TypeId) (ts:BG_) (cs:N_) (x:DataW H×List MemPlace),E1 P n t=some ts->DataW.trod enc P W 0 sp held fuel t cs=some x->
  OkDs ts (gP x.1)∧cs.length=(gP x.1).length∧∀(j:Nat) (c:D),(gP x.1)[j]?=some c->∃u,cs[j]?=some u∧RD W (FD W) c u
 |0,_,_,_,_,_,_,h=>by simp[DataW.trod]at h
 |_+1,0,_,_,_,_,h,_=>by simp[E1]at h
 |fuel+1,n+1,t,ts,cs,x,hty,h=>by
  have one:∀{d:D}{v:Value},OkDs ts [d]->RD W (FD W) d v->gP x.1=[d]->cs=[v]->OkDs ts (gP x.1)∧cs.length=(gP x.1).length∧∀(j:Nat) (c:D),(gP x.1)[j]?=some c->∃u,cs[j]?=some u∧RD W (FD W) c u:=by
   grind
  simp only[E1]at hty;unfold DataW.trod at h
  cases hu:P.underlying t with
  |none=>simp_all
  |some d =>
   rw[hu]at hty h
   cases d<;>simp only[reduceCtorEq]at hty
   case bool =>
    simp only[ae]at hty;subst hty
    match cs,h with
    |[.bool b],h =>
     simp only[ae]at h;subst h;exact one (d:=.bool b) (by simp[OkDs,rg]) (.bool _) rfl rfl
   case int k =>
    simp only[ae]at hty;subst hty
    match cs,h with
    |[.int k' m],h =>
     simp only at h;split at h
     .rename_i hk;obtain⟨rfl,hwf⟩:=hk;simp only[ae]at h;subst h;exact one (d:=.int k' m) (by grind [OkDs,rg]) (.int _ _) rfl rfl
     simp_all
   case string =>
    simp only[ae]at hty;subst hty
    match cs,h with
    |[.string s],h =>
     simp only at h;split at h
     .simp only[ae]at h;subst h;refine one (d:=.str s.data.toList) (by simp[OkDs,rg]) ?_ rfl rfl;have:=RD.str (w:=W) (pm:=FD W) s.data.toList;omega
     simp_all
   case slice e =>
    split at hty
    .rename_i y ys hte;split at hty
     .rename_i hce;rw[aD]at hce;simp only[ae]at hty;subst hty
      match cs,h with
      |[.slice none 0 0],h =>
       simp only[ae]at h;subst h;exact one (d:=.lst []) (by simp[OkDs,rg]) (.nil _ _) rfl rfl
      |[.slice (some a) len cap],h =>
       simp only at h;split at h
       .rename_i hb;obtain⟨_,hlc,_⟩:=hb;simp only[tK,uS]at h;obtain⟨elems,hel,rest,_,rfl⟩:=h;obtain⟨hlen,hget⟩:=WB hel;simp only[sH]at hlen;have helem:∀i,i<len->∃z,elems[i]?=some z∧∃cs',W.cells? 0 (a.add (i*P.cellsOf e)) (P.cellsOf e)=some cs'∧OkDs (y::ys) (gP z.1)∧cs'.length=(gP z.1).length∧
          ∀(j:Nat) (c:D),(gP z.1)[j]?=some c->∃u,cs'[j]?=some u∧RD W (FD W) c u:=by
         intro i hi;obtain⟨z,hz,hf⟩:=hget i i (by simp[hi]);simp only[tK]at hf;obtain⟨cs',hcs,htr⟩:=hf;exact⟨z,hz,cs',hcs,Xt fuel n e (y::ys) cs' z hte htr⟩
        have hmem:∀d∈elems.map (·.1),OkDs (y::ys) (gP d):=by
         grind [List.mem_iff_getElem]
        have hes:cellsEs (elems.map (·.1))=elems.map λz=>gP z.1:=by simp_all [akX]
        have hlm:∀e'∈cellsEs (elems.map (·.1)),e'.length=(y::ys).length:=by
         grind [OkDs.len]
        refine one (d:=.lst (cellsEs (elems.map (·.1)))) ?_ ?_ rfl rfl
        .grind [OkDs,rg]
        .by_cases h0:len=0
         .subst h0;have:elems=[]:=aB hlen;subst this;exact .nil _ _
         .obtain⟨ab,aoff,asp⟩:=a;have hm0:0<(y::ys).length:=s_;have hcell:∀i k,i<len->k<(y::ys).length->∃z c u,elems[i]?=some z∧(gP z.1)[k]?=some c∧W.cell? ((Addr.add ⟨ab,aoff,asp⟩ (i*P.cellsOf e)).add k)=some u∧RD W (FD W) c u:=by
           intro i k hi hk;obtain⟨z,hz,cs',hcs,hok,hl2,hrd⟩:=helem i hi;have hkl:k<(gP z.1).length:=d_;obtain⟨u,hu,hr⟩:=hrd k _ (bC hkl);unfold World.cells? at hcs;rw[ac (dD _)]at hcs;obtain⟨hcl,hcg⟩:=WB hcs;obtain⟨v,hv,hw⟩:=hcg k k (by simp_all)
           grind
          obtain⟨_,_,u0,_,_,hu0,_⟩:=hcell 0 0 o_ hm0;have hasp:asp=none:=by
           have:=(amt hu0).2
           grind [Addr.add]
          subst hasp;have hll:(cellsEs (elems.map (·.1))).length=len:=u_;have:=jw.rd (w:=W) (pm:=FD W) (xs:=cellsEs (elems.map (·.1))) (b:=ab) (off:=aoff) (cap:=cap) hm0 o_ hlm (λj c hj=>?_) (λj _=>(amt hu0).1 |> λh=>by grind [Addr.add])
          .simp_all
          .obtain⟨i,k,e',rfl,hk,hi,hck⟩:=afi hlm hj;have hil:i<len:=d_;obtain⟨z,c',u,hz,hc',hcell',hr⟩:=hcell i k hil hk
           grind [me]
       simp_all
     simp_all
    simp_all
   case struct fs =>
    split at hty
    .rename_i us hfs;split at hty
     .rename_i hcl;rw[aD]at hcl;simp only[ae]at hty;subst hty;have h':(if cs.length=P.cellsOf t then (fs.toList.mapM λf=>DataW.trod enc P W 0 sp held fuel f.type ((cs.drop f.offset).take (P.cellsOf f.type))).map λxs=>((.agg (xs.map (·.1)):DataW H),xs.flatMap (·.2)) else none)=some x:=by
       omega
      split at h'
      .simp only[uS]at h';obtain⟨xs,hxs,rfl⟩:=h';obtain⟨q1,q2⟩:=VE (P:=P) (f:=E1 P n) (g:=DataW.trod enc P W 0 sp held fuel) (λt ts cs x h1 h2=>Xt fuel n t ts cs x h1 h2) (cs:=cs) hfs o_ hxs
       grind [OkDs.len,gP]
      .simp at h'
     .simp at hty
    simp_all
end
open Go.ChangeShapes Go.WideShapes Go.ChangeAt Go.RowKit
def Na (P:Program)(n:Nat):List TypeId->Option (List (Bool×BG_))
 |[]=>some []
 |t::ts=>match E1 P n t,Na P n ts with
  |some tys,some r=>some ((Du P t,tys)::r)
  |_,_=>none
def afY (agg:Bool)(cs:W_):AV :=
 match agg with
 |true=>.agg (cs.map .d)
 |false=>match cs with
  |[c]=>.d c
  |_=>.junk
def I6 {H:Type}:List (Bool×BG_)->List (DataW H)->D_
 |(b,_)::ts,d::ds=>afY b (gP d)::I6 ts ds
 |_,_=>[]
def qM {H:Type}:List (Bool×BG_)->List (DataW H)->Prop
 |[],[]=>True
 |(_,tys)::ts,d::ds=>OkDs tys (gP d)∧qM ts ds
 |_,_=>False
def Gh.all (W:World):Gh where
 obj _:=none
 base _:=0
 esz _:=0
 bsz _:=0
 pm:=FD W
section
variable {H:Type}{enc:TypeId×Value->H}{P:Program}{W:World}{sp:Nat->Bool}
def aiW {n:Nat}{base:Nat}:∀{ts:List TypeId}{vs:N_}{ds:List (DataW H)}{ps:List MemPlace}{tys:List (Bool×BG_)},DataW.TrodAll enc P W 0 sp true ts vs ds ps->Na P n ts=some tys->
  (∀(j:Nat) t v,ts[j]?=some t->vs[j]?=some v->Value.okWide P W .any base t v)->RVs (Gh.all W) W (I6 tys ds) vs zero∧qM tys ds
 |[],[],[],_,tys,_,h,_=>by
  grind [Na,I6,RVs,qM]
 |t::ts,v::vs,d::ds,ps,tys,hA,h,hok=>by
  obtain⟨p,q,⟨fuel,htr⟩,hrest,rfl⟩:=hA;simp only[Na]at h;split at h
  .rename_i ty r h1 h2;simp only[ae]at h;subst h;obtain⟨k1,k2,k3⟩:=Xt fuel n t ty v.cells.toList (d,p) h1 htr;obtain⟨q1,q2⟩:=aiW hrest h2 λj t v h1 h2=>hok (j+1) t v u_ (by simp_all)
   refine⟨?_,k1,q2⟩;have hv:=hok 0 t v rfl rfl;have hrv:RV (Gh.all W) W (afY (Du P t) (gP d)) v zero:=by
    unfold Value.okWide at hv
    cases ha:Du P t with
    |true =>
     have hagg:∃cs,v=.agg cs:=by
      grind [Du]
     obtain⟨cs,rfl⟩:=hagg;refine⟨cs,rfl,RVs.ds (g:=Gh.all W) rfl (by grind [Value.cells]) λj c x hc hx=>?_⟩;obtain⟨u,hu,hr⟩:=k3 j c hc;have:u=x:=by
      grind [Value.cells]
     rw[<-this];exact hr
    |false =>
     have hone:v.cells=#[v]:=by
      have:Cell.okWide P W .any base t v:=by
       grind [Du]
      cases v<;>first|rfl|simp_all [Cell.okWide,Cell.ok]
     rw[hone]at k2 k3
     match hcd:gP d,k2 with
     |[c],_ =>
      obtain⟨u,hu,hr⟩:=k3 0 c d_;simp at hu;subst hu;simp only[afY,RV];exact⟨hr,λ_=>trivial⟩
   grind [I6,RVs]
  simp_all
 |[],_::_,_,_,_,hA,_,_=>hA.elim
 |[],[],_::_,_,_,hA,_,_=>hA.elim
 |_::_,[],_,_,_,hA,_,_=>hA.elim
 |_::_,_::_,[],_,_,hA,_,_=>hA.elim
theorem adZ {W':World}(hl:laidOutB P=true)(hblk:∀b,b<W.heap.size->W'.heap[b]?=W.heap[b]?){sp':Nat->Bool}:∀{ts:List TypeId}{vs:N_}{ds:List (DataW H)}{ps:List MemPlace},
  (∀t∈ts,P.readableRec t=true∧t<P.types.size)->DataW.TrodAll enc P W 0 (λ_=>true) true ts vs ds ps->(∀p∈ps,sp' p.block=true)->DataW.TrodAll enc P W' 0 sp' true ts vs ds ps
 |[],[],[],_,_,h,_=>h
 |t::ts,v::vs,d::ds,ps,hr,h,hs=>by
  have hlt:=h.lt;obtain⟨p,q,⟨fuel,htr⟩,hrest,rfl⟩:=h;obtain⟨h1,h2⟩:=hr t (.head _);refine⟨p,q,⟨fuel,DataW.trod_stays (kids_book hl h1) (book_sized h1) (λh=>by cases h) ⟨h2,book_self t⟩ htr (λx hx=>?_) (λx hx=>hs x (dp _ hx))⟩,
   adZ hl hblk (λt ht=>hr t (.tail _ ht)) hrest (λx hx=>hs x (iq _ hx)),rfl⟩
  have hxl:=hlt x (dp _ hx)
  cases x with
  |cell b o=>exact tx (hblk b hxl) o
  |map b=>exact hblk b hxl
 |[],_::_,_,_,_,h,_=>h.elim
 |[],[],_::_,_,_,h,_=>h.elim
 |_::_,[],_,_,_,h,_=>h.elim
 |_::_,_::_,[],_,_,h,_=>h.elim
def aiw {T:Nat->Z_}(hT:Kt P T){fn:Func}{f:FuncId}{s:ChangeSpec}(hl:laidOutB P=true)(hrec:∀t∈fn.params.toList,P.readableRec t=true∧t<P.types.size)
  {n:Nat}{tys:List (Bool×BG_)}(hty:Na P n fn.params.toList=some tys){tb:TypeId}(hres:fn.resultTypes=#[tb])(htb:P.underlying tb=some .bool)(hvars:s.vars=[]){apart:Bool}
  {base:Nat}{args:F_}{ds gs:List (DataW H)}{before:List MemPlace}(hval:∀(j:Nat) t v,fn.params[j]?=some t->args[j]?=some v->Value.okWide P W .any base t v)
  (hW:DataW.Whole enc P fn.params.toList s.vars apart W args.toList ds gs before)(hfn:qM tys ds->s.fn H ds={ results:=[.lit (.bool true)],args:=ds })
  (hrun:qM tys ds->gs=[]->∃m hs',(run T m).call f (I6 tys ds) ⟨[],0⟩=some (B_ true,hs')) :
  Calls P f args W λe W'=>∃v,e=.returned v∧s.post enc P fn apart true false false W args v W':=by
 have hW':=hW;obtain⟨p,q,hA,hV,hpq,hfz,hnd⟩:=hW;rw[hvars]at hV;obtain⟨rfl,rfl⟩:=trodVars_none hV;obtain⟨rv,hok⟩:=aiW (n:=n) (base:=base) hA hty λj t v h1 h2=>hval j t v u_ (by simp_all)
 obtain⟨m,hs',hcall⟩:=hrun hok rfl;have hc:=VW hT hcall (g:=Gh.all W) (λ_=>rfl) (λb o h=>h) rv;refine hc.mono λe W2 hp=>?_
 cases e with
 |panicked _=>exact hp.elim
 |outgrown=>exact hp.elim
 |returned x =>
  obtain⟨g',Or,Oh,r1,_,hx,_,_,_⟩:=hp;have hxv:=Bw r1 rfl;subst hxv;have hblk:∀b,b<W.heap.size->W2.heap[b]?=W.heap[b]?:=λb hb=>(hx.blk b hb s_).1
  have hsfn:s.fn H (ds++[])={ results:=[.lit (.bool true)],args:=ds }:=u_;refine⟨_,rfl,post_of_same (pa:=p) (pv:=[]) hW' (λb sp hd=>?_) (λsp hsp=>?_) (λsp _=>?_) (by rw[hpq]) ⟨hx.same.1,hx.same.2.1,λi hi=>?_⟩ hx.same.2.2 ?_⟩
  .rw[hres,hsfn];exact trodAll_cons_mk (shut_bool htb _) trodAll_mk0
  .grind [adZ]
  .rw[hsfn,hvars];rfl
  .grind
  .exact ok_one hres rfl (okWide_bool_mk htb _)
end
def Y7 (P:Program)(vf:al)(f:FuncId):Bool:=av9 P vf f ||(match vf.body with
 |.clone m=>ZU P m vf f
 |.late i d k a=>adu P i d k a vf f
 |_=>false)
def T.every (p:Nat->al->Bool):T->Bool
 |.leaf=>true
 |.node k v a b=>p k v && a.every p && b.every p
def T.look_every {p:Nat->al->Bool}:∀{t:T}{f:Nat}{vf:al},t.every p=true->t.look f=some vf->p f vf=true
 |.leaf,_,_,_,h=>by simp[T.look]at h
 |.node k v a b,f,vf,he,h=>by
  simp only[T.every,af]at he;simp only[T.look]at h;split at h
  .simp_all
  .split at h
   .exact T.look_every he.1.2 h
   .exact T.look_every he.2 h
def aiI {P:Program}{vf:al}{f:FuncId}(h:Y7 P vf f=true):avy P vf f:=by
 simp only[Y7,dc]at h;rcases h with h|h
 .unfold av9 at h;split at h
  .rename_i fn h1;split at h
   .rename_i c h2;simp only[af,bp,bne_iff_ne,ne_eq]at h;obtain⟨⟨⟨k1,k2⟩,k3⟩,k4⟩:=h;exact⟨fn,c,h1,h2,k4,k2,k3,.inl (kf _ _ k1)⟩
   simp_all
  simp_all
 .split at h
  .rename_i m hb;unfold ZU at h;split at h
   .rename_i fn h1;split at h
    .rename_i c h2;simp only[af,bp,aD,bne_iff_ne,ne_eq]at h;obtain⟨⟨⟨⟨⟨⟨k1,k2⟩,k3⟩,k4⟩,k5⟩,k6⟩,k7⟩:=h;exact⟨fn,c,h1,h2,k7,o_,k3,.inr (.inl ⟨m,hb,k6,k5⟩)⟩
    simp_all
   simp_all
  .rename_i i d k a hb;unfold adu at h;split at h
   .rename_i fn h1;split at h
    .rename_i c h2;simp only[af,bp,bne_iff_ne,ne_eq]at h;obtain⟨⟨⟨k1,k2⟩,k3⟩,k4⟩:=h;exact⟨fn,c,h1,h2,k4,k2,k3,.inr (.inr ⟨i,d,k,a,hb,k1⟩)⟩
    simp_all
   simp_all
  simp_all
def aCo {P:Program}{t:T}(h:t.every (λf v=>Y7 P v f)=true):Kt P t.look:=λf vf hv=>aiI (T.look_every (p:=λf v=>Y7 P v f) h hv)
def Ev (P:Nat->Z_)(c:VC)(st:St)(o:cJ)(st':St):Prop:=∃N,∀n,(run P (N+n)).code c st=some (o,st')
variable {P:Nat->Z_}
def ah2 {n:Int}(h:-9223372036854775808<=n)(h2:n<=9223372036854775807):wr .i64 n=n:=by
 simp only[wr,oW,dT_ h,dT_ h2,Bool.and_self]
instance:Nonempty dQ:=⟨⟨λ_ _=>none,λ_ _ _=>none⟩⟩
def WP (P:Nat->Z_)(c:VC)(st:St)(Q:cJ->St->Prop):Prop:=∃o st',Ev P c st o st'∧Q o st'
theorem aeg {r:dQ}{vs:S_}:∀{l:C_}{st:St},(l.all λi=>decide (i<vs.length))=true->wU r vs l st=lx r (l.filterMap λi=>vs[i]?) st
 |[],_,_=>rfl
 |i::l,st,h=>by
  simp only[ij,af,decide_eq_true_eq]at h;have hi:vs[i]?=some (vs[i]'h.1):=bC h.1;simp only[wU,hi,List.filterMap_cons,lx]
  cases cZ r (vs[i]'h.1) st with
  |none=>rfl
  |some st1=>exact aeg h.2
def aiK {r:dQ}{vs:S_}:∀{l F:C_}{st:St},f9 r [] vs l F st=wU r vs l st
 |[],_,_=>rfl
 |i::l,F,st=>by
  simp only[f9,wU,cu,fo]
  cases vs[i]? with
  |none=>rfl
  |some v =>
   simp only
   cases cZ r v st with
   |none=>rfl
   |some st1=>exact aiK
def WP.mono {c:VC}{st:St}{Q R:cJ->St->Prop}(h:WP P c st Q)(hq:∀o s,Q o s->R o s):WP P c st R:=by
 obtain⟨o,s,h,k⟩:=h;exact⟨o,s,h,hq o s k⟩
end Go.Vm
end
