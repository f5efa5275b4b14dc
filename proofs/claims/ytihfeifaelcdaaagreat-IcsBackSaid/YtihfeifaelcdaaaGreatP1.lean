import Derived.Lib.BytesEntry
import Derived.RangeFuncLeaves
import Derived.Orders
import Derived.Test.YtihfeifaelcdaaaGreatP0
set_option linter.unusedVariables false
set_option linter.unusedSimpArgs false
noncomputable section
namespace Go.Vm
set_option maxRecDepth 100000
section
variable {P:Program}{g:Gh}{w:World}{t:Array Value}{O:Nat→Nat}{st st':St}{a:AV}{o:Oper}
theorem RVs.flat:∀ {vs:List AV}{xs:List Value}{O1:Nat→Nat},RVs g w vs xs O1→(vs.all fun v=>Nat.beq v.cells.length 1 && v.cells.all bM)=true→
  RVs g w (vs.flatMap AV.cells) (xs.flatMap fun x=>x.cells.toList) O1∧∀ x∈xs,x.cells.toList.length=1
 | [],xs,O1,r,_=>by
  grind [RVs]
 | v::vs,xs,O1,r,h=>by
  obtain⟨x,s,P1,P2,rfl,rv,rvs,hs⟩:=r;simp only[List.all_cons,Bool.and_eq_true,Nat.beq_eq]at h;obtain⟨h1,h2⟩:=rvs.flat (by grind);have rc:=rv.cells h.1.2;refine⟨?_,fun y hy=>?_⟩
  ·have hO:O1=fun b=>P1 b+P2 b:=funext hs
   grind [join]
  grind [length]
theorem avb:∀ {ps:List Rd}{parts:List (Nat×Operand)}{k:Nat},di k ps parts=true→∀ {cs:Array Value},(∀ p∈parts,(ev t p.2).cells.toList.length=1)→k+parts.length≤cs.size→
  ∃ xs':Array Value,Instr.fill (fun i=>some (i*1,1)) cs (parts.map fun p=>(p.1,ev t p.2))=some xs'∧xs'.size=cs.size∧(∀ j,j<k→xs'.toList[j]?=cs.toList[j]?)∧
   ∀ j,j<parts.length→xs'.toList[k+j]?=(parts.flatMap fun p=>(ev t p.2).cells.toList)[j]?
 | [],[],k,_,cs,_,hb=>⟨cs,by simp[Instr.fill],rfl,fun _ _=>rfl,fun j hj=>by simp at hj⟩
 | r::ps,(i,x)::parts,k,hc,cs,h1,hb=>by
  simp only[di,Bool.and_eq_true,Nat.beq_eq]at hc;obtain⟨⟨rfl,h2⟩,h3⟩:=hc;have hb:i+(parts.length+1)≤cs.size:=hb;have hx:(ev t x).cells.toList.length=1:=h1 _ (.head _);obtain⟨xs1,e1,e2⟩:=Kz (place:=fun i=>some (i*1,1)) (rest:=parts.map fun p=>(p.1,ev t p.2)) (i:=i) rfl (v:=ev t x) (by omega) (xs:=cs) (by omega);have hsz1:xs1.size=cs.size:=by
   grind [BV]
  obtain⟨xs',q1,q2,q3,q4⟩:=avb h3 (cs:=xs1) (fun p hp=>h1 p (.tail _ hp)) (by omega)
  grind [fS]
 | [],_::_,_,hc,_,_,_=>by grind [di]
 | _::_,[],_,hc,_,_,_=>by grind [di]
theorem akc {α β:Type}{f:α→List β}:∀ {l:List α},(∀ x∈l,(f x).length=1)→(l.flatMap f).length=l.length
 | [],_=>rfl
 | x::l,h=>by
  rw[List.flatMap_cons,List.length_append,h x (.head _),akc fun y hy=>h y (.tail _ hy),List.length_cons];omega
theorem avR {m:Nat}{ps:List Rd}(s:S P g w st t O) (h:XR m ps st=some (a,st')) (hc:aB P (.mksv m ps) o.op=true) :
  cK P g w t O st' a ((execOp (ev t) o).run P w):=by
 obtain⟨dst,op,ty,pos,aft,gd⟩:=o;simp only[aB]at hc;split at hc
 ·rename_i T len parts;simp only[Bool.and_eq_true,Nat.beq_eq,Nat.ble_eq,Nat.blt_eq]at hc;obtain⟨⟨⟨⟨⟨⟨rfl,h1⟩,h2⟩,h3⟩,h4⟩,h0⟩,h5⟩:=hc;subst h3;obtain⟨el,hu,hsz,hm,hby⟩:=d9 h1;obtain⟨el',i,zv,hu',hi,hz,hzs⟩:=kU h2;rw[hu]at hu';simp only[Option.some.injEq,TypeDesc.slice.injEq]at hu';subst hu';obtain⟨hrds,hpl⟩:=wQ h5;unfold XR at h;split at h
  ·rename_i vs e hr;split at h
   ·rename_i hall;simp only[Option.some.injEq,Prod.mk.injEq]at h;obtain⟨rfl,rfl⟩:=h;obtain⟨Ov,O',rvs,s',l⟩:=s.rdAll hrds hr;rw[List.map_map]at rvs;have hvl:=rvs.length;simp only[List.length_map]at hvl;obtain⟨rf,hone⟩:=rvs.flat hall;have hplt:parts.toList.length=ps.length:=hpl;generalize hcs:(Array.range (ps.length*1)).map (fun j=>(if ps.length*1=0 then (#[]:Array Value) else zv.cells)[j % (if ps.length*1=0 then (#[]:Array Value) else zv.cells).size]!)=cs;have hcsz:cs.size=ps.length:=by grind
    have hone':∀ p∈parts.toList,(ev t p.2).cells.toList.length=1:=fun p hp=>hone _ (List.mem_map.2 ⟨p,hp,rfl⟩)
    obtain⟨xs',q1,q2,q3,q4⟩:=avb (t:=t) (k:=0) h5 (cs:=cs) hone' (by omega);have hfl:=akc (f:=fun p:Nat×Operand=>(ev t p.2).cells.toList) hone';have hxs:xs'.toList=parts.toList.flatMap fun p=>(ev t p.2).cells.toList:=by
     refine List.ext_getElem? fun j=>?_
     grind
    have rvx:RVs g w (vs.flatMap AV.cells) xs'.toList Ov:=by
     grind [List.flatMap_map]
    have hcl:(vs.flatMap AV.cells).length=vs.length:=by grind [RVs.length]
    have hn:=s'.fresh st.hs.next (Nat.le_refl _)
    have hO:∀ b,w.heap.size≤b→O b=0:=by
     intro b hb;by_cases h:O b=0
     ·exact h
     ·have:=s.hi b h;omega
    have hx0:aI g w (g.add st.hs.next w.heap.size 0 1 (vs.flatMap AV.cells).length) (w.alloc (.cells xs' el)) (fun _=>False):=(aI.alloc s.pmlt _ _).add hn _ _ _ _;have r:fO P (g.add st.hs.next w.heap.size 0 1 (vs.flatMap AV.cells).length) (w.alloc (.cells xs' el)) st.hs.next (.cells (vs.flatMap AV.cells)) (fun x=>Ov x+one w.heap.size x):=by
     refine⟨w.heap.size,xs',el,Ov,by simp[Gh.add],by simp[Gh.add],by simp[Gh.add],by simp[Gh.add],fC _ _,RVs.ext hx0 _ _ _ rvx (by simp),fun o ho=>?_,fun _=>rfl⟩;have:=s.pmlt _ o ho;omega
    have key:∀ b,Ov b+one w.heap.size b+O' b≤1:=by
     intro b;by_cases hb:b=w.heap.size
     ·have:=l w.heap.size;simp_all
     ·have:=s.le b;grind [one]
    obtain⟨s2,hx⟩:=s'.new r (fun b=>key b) (fun b hb=>by
     grind [oR])
    refine⟨.slice (some ⟨w.heap.size,0,none⟩) ps.length ps.length,_,_,zero,_,.inl ?_,?_,s2,hx.mono fun b _ hb=>by grind,fun b=>by simp_all,fun b hb=>?_,by simp⟩
    ·have hbig:¬ (ps.length*1 > 2 ^ 24):=by omega
     have hne:¬ (ps.length*1=0):=by omega
     have hzv:=mT (P:=P) (w:=w) hi hz;simp only[execOp,Instr.buildSlice,Sem.run_bind,aw hu,Result.andThen_ok,cj hsz,hne,if_false,Sem.run_pure,Sem.run_ite,hbig,hzv]
     simp_all [newRow]
    ·simp_all [RV,Gh.add]
    grind [one]
   simp_all
  simp_all
 simp_all
theorem asO {n:Nat}{x:Rd}{lo hi mx:Option Rd}(s:S P g w st t O) (h:Nu n x lo hi mx st=some (a,st')) (hc:aB P (.slarr n x lo hi mx) o.op=true) :
  cK P g w t O st' a ((execOp (ev t) o).run P w):=by
 obtain⟨dst,op,ty,pos,aft,gd⟩:=o;simp only[aB]at hc;split at hc
 ·rename_i ty' y l' h' k';simp only[Bool.and_eq_true]at hc;obtain⟨⟨⟨⟨h1,h2⟩,h3⟩,h4⟩,h5⟩:=hc;have hty:∃ el,P.underlying ty'=some (.array n el)∧oq P el 1=true:=by
   grind [Ng,Nat.beq_eq]
  obtain⟨el,hu,hsz⟩:=hty;unfold Nu at h;split at h
  ·rename_i id off e1 r1;obtain⟨Ov,O1,rv,s1,l1⟩:=s.rd h2 r1;split at h
   ·rename_i vl e2 r2;obtain⟨O2,q2,s2,l2⟩:=s1.rdOpt h3 r2;split at h
    ·rename_i vh e3 r3;obtain⟨O3,q3,s3,l3⟩:=s2.rdOpt h4 r3;split at h
     ·rename_i vm e4 r4;obtain⟨O4,q4,s4,l4⟩:=s3.rdOpt h5 r4;split at h
      ·rename_i r hr;simp only[Option.some.injEq,Prod.mk.injEq]at h;obtain⟨rfl,rfl⟩:=h;have hle:∀ b,Ov b+O4 b≤O b:=fun b=>by grind
       unfold NU at hr;split at hr
       ·rename_i cs hg;split at hr
        ·rename_i hle2;split at hr
         ·rename_i l hh mm hb;simp only[Option.some.injEq]at hr;subst hr;have hb1:=Nat.le_of_ble_eq_true hle2;obtain⟨Oe,Oh,re,rh,ho⟩:=s.parts;obtain⟨Oq,q,_⟩:=RL.get rh hg;obtain⟨b,c,el2,O5,hob,hbase,hesz,hbsz,_⟩:=q;obtain⟨⟨b',hob',hx⟩,_⟩:=rv;rw[hob]at hob';simp only[Option.some.injEq]at hob';subst hob';obtain⟨m',e1,g1,g2,g3,g4⟩:=YK (P:=P) (w:=w) (b:=false) q2 q3 q4 (Nat.le_refl n) hb;refine .pure s (x:=.slice (some (if m'=l then ⟨b,g.base id+off,none⟩ else (⟨b,g.base id+off,none⟩:Addr).add (l*1))) (hh-l) (m'-l)) (Oa:=zero) ?_ ?_ s4 fun x=>by simp_all
          ·simp only[execOp,Sem.run_bind,Instr.sliceAt,aw hu,Result.andThen_ok,hx,Instr.sureAddr,Sem.run_pure,e1,cj hsz]
          ·simp only[RV];refine⟨?_,fun _=>trivial⟩;by_cases hml:m'=l
           ·simp_all
           ·refine .inr ⟨b,m'-l,hob,?_,by omega,?_⟩
            all_goals grind [gR]
         simp_all
        simp_all
       simp_all
      simp_all
     simp_all
    simp_all
   simp_all
  simp_all
 simp_all
end
section
variable {P:Program}{g:Gh}{w:World}{t:Array Value}{O:Nat→Nat}{st st':St}{a:AV}{o:Oper}
theorem atW:(Extern.findNext { (default:Func) with name := "internal/bytealg.IndexByte",origin := "" }).isNone=true:=by kernel_rfl
theorem asP {fn:Func}(h1:fn.name = "internal/bytealg.IndexByte") (h2:fn.origin = ""):Extern.findNext fn=none:=by
 have h:=atW;unfold Extern.findNext at h⊢;have e:(List.lookup "internal/bytealg.IndexByte" Extern.allNextRows)=none:=by
  cases e:(List.lookup "internal/bytealg.IndexByte" Extern.allNextRows)<;>simp_all
 have e2:(List.lookup "" Extern.allNextRows)=none:=by
  cases e2:(List.lookup "" Extern.allNextRows)<;>simp_all
 grind
theorem asT {fn:Func}(h1:fn.name = "internal/bytealg.IndexByte"):Extern.find fn=some Extern.BytealgIndexByte.indexByte:=by
 unfold Extern.find;have e1:(List.lookup "internal/bytealg.IndexByte" Extern.allGenericRows).isNone=true:=by kernel_rfl
 have e2:(List.lookup "internal/bytealg.IndexByte" Extern.allTypedRows).isNone=true:=by kernel_rfl
 have e3:List.lookup "internal/bytealg.IndexByte" Extern.allRows=some Extern.BytealgIndexByte.indexByte:=by kernel_rfl
 grind [Option.isNone_iff_eq_none]
theorem ajQ:∀ (l:List UInt8) (c:UInt8) (i:Nat),D1 l c.toNat i=if Lib.indexByte l c == -1 then -1 else Lib.indexByte l c+i
 | [],c,i=>by simp[D1,Lib.indexByte]
 | b::l,c,i=>by
  have hp:Lib.indexByte l c=-1∨0≤Lib.indexByte l c:=by
   induction l<;>grind [Lib.indexByte]
  simp only[D1,Lib.indexByte];by_cases h:b=c
  ·simp_all
  ·have hn:Nat.beq b.toNat c.toNat=false:=by
    grind [Nat.beq_eq,UInt8.toNat_inj]
   rw[ajQ l c (i+1)]
   grind
theorem ahx (ad:Addr) (cap:Nat) (ns:List Nat) (cv:Int) (hc:∀ j u,(ns.map fun(n:Nat)=>Value.int .u8 (n:Int))[j]?=some u→w.cell? (ad.add j)=some u) :
  (Extern.BytealgIndexByte.indexByte #[.slice (some ad) ns.length cap,.int .u8 cv]).run P w=.ok (.int .i64 (Lib.indexByte (Lib.bytesOf (ns.map fun(n:Nat)=>(n:Int))) cv.toNat.toUInt8)) w:=by
 generalize hxs:ns.map (fun(n:Nat)=>(n:Int))=xs;have hl:=Lib.run_loadBytesX (P:=P) w xs ad .empty (fun j x hj=>hc j _ (by
  grind))
 have hs:=Lib.run_indexByteString (P:=P) ⟨(Lib.bytesOf xs).toArray⟩ cv w;have he:(⟨ByteArray.empty.data++(Lib.bytesOf xs).toArray⟩:ByteArray)=⟨(Lib.bytesOf xs).toArray⟩:=by
  simp_all
 change Sem.run P (do
  let b←Extern.Bytes.bytesOf (.slice (some ad) ns.length cap)
  let c←Extern.Bytes.asByte (.int .u8 cv)
  match (List.range b.size).find? fun i=>b[i]! == c with
  | some i=>pure (goInt i)
  | none=>pure (goInt (-1))) w=_
 change Sem.run P (do
  let b←Extern.Bytes.bytesOf (.string ⟨(Lib.bytesOf xs).toArray⟩)
  let c←Extern.Bytes.asByte (.int .u8 cv)
  match (List.range b.size).find? fun i=>b[i]! == c with
  | some i=>pure (goInt i)
  | none=>pure (goInt (-1))) w=_ at hs
 grind [Extern.Bytes.bytesOf,Sem.run_bind,Result.andThen]
theorem avj {x c:Rd}(s:S P g w st t O) (h:aiQ x c st=some (a,st')) (hc:aB P (.idxb x c) o.op=true) :
  cK P g w t O st' a ((execOp (ev t) o).run P w):=by
 obtain⟨dst,op,ty,pos,aft,gd⟩:=o;simp only[aB]at hc;split at hc
 ·rename_i k;obtain⟨callee,as,ats⟩:=k;simp only[Bool.and_eq_true]at hc;obtain⟨h1,h2⟩:=hc;split at h1
  ·rename_i f hf;have hcal:callee=.value (.func f):=by
    unfold rJ at hf
    grind
   subst hcal;unfold aqR at h1;split at h1
   ·rename_i fn hfn;simp only[Bool.and_eq_true,beq_iff_eq]at h1;obtain⟨⟨hn1,hn2⟩,hn3⟩:=h1;obtain⟨x',c',has,hx,hcc⟩:∃ x' c',as.toList=[x',c']∧bb x x'=true∧bb c c'=true:=by
     revert h2
     cases as.toList with
     | nil=>grind [bV]
     | cons x' l=>cases l<;>grind [bV]
    have has':as=#[x',c']:=Array.ext' has;obtain⟨va,vb,e,Oa,Ob,O',ra,rb,s',l,hk⟩:=Mw s hx hcc h;split at hk
    ·rename_i r hr;obtain⟨rfl,rfl⟩:=hk;unfold ase at hr;split at hr
     ·rename_i n;split at hr
      ·rename_i xs hxs;split at hr
       ·rename_i q hq;simp only[Option.some.injEq]at hr;subst hr;unfold indexByte at hq;split at hq
        ·rename_i b hb;simp only[Option.some.injEq]at hq;subst hq;obtain⟨ns,rfl,rfl⟩:=Bf hb;have hl1:∀ e∈ns.map (fun(n:Nat)=>[D.int .u8 (Int.ofNat n)]),e.length=1:=by
          simp_all
         obtain⟨ad,cap,news,hxv,hels⟩:=tf (st:=⟨e,st.hs⟩) s' hxs hl1 ra;have hcv:=qz rb rfl;have hargs:#[ev t x',ev t c']=#[Value.slice ad (ns.map (fun(n:Nat)=>[D.int .u8 (Int.ofNat n)])).length cap,.int .u8 n]:=by simp_all
         have hres:D1 (ns.map Nat.toUInt8) (n.toNat % 256) 0=Lib.indexByte (Lib.bytesOf (ns.map fun(n:Nat)=>(n:Int))) n.toNat.toUInt8:=by
          have h1:n.toNat % 256=(n.toNat.toUInt8).toNat:=by simp
          rw[h1,ajQ];have h2:Lib.bytesOf (ns.map fun(n:Nat)=>(n:Int))=ns.map Nat.toUInt8:=by
           simp[Lib.bytesOf]
          grind
         have hrun:(Extern.BytealgIndexByte.indexByte #[ev t x',ev t c']).run P w=.ok (.int .i64 (D1 (ns.map Nat.toUInt8) (n.toNat % 256) 0)) w:=by
          rw[hargs,hres]
          cases ad with
          | none =>
           have h0:=hels.nn rfl;have:ns=[]:=List.eq_nil_of_length_eq_zero (by simp_all);subst this;exact Lib.run_indexByteNil w _ _ _
          | some ad =>
           have hnews:news=ns.map fun(n:Nat)=>Value.int .u8 (n:Int):=by
            apply List.ext_getElem?;intro j;rcases Nat.lt_or_ge j ns.length with hj | hj
            ·have hd:(ns.map (fun(n:Nat)=>[D.int .u8 (Int.ofNat n)])).flatten[j]?=some (D.int .u8 (Int.ofNat ns[j])):=by grind [Wy]
             obtain⟨u,hu,hr⟩:=hels.rd j _ hd
             cases hr
             simp_all
            grind [uQ.len]
           grind [ahx,uQ.cell]
         refine .flat s (x:=.int .i64 (D1 (ns.map Nat.toUInt8) (n.toNat % 256) 0)) ?_ (by simp only[RV];exact⟨.int _ _,fun _=>trivial⟩) s' fun b=>by grind
         simp only[execOp,resolve,Sem.run_bind,ev,Deferred.ofValue,Sem.run_pure,Result.andThen_ok,invoke]
         simp_all [run_callFunc_extern,asP,asT]
        simp_all
       simp_all
      simp_all
     simp_all
    simp_all
   simp_all
  simp_all
 simp_all
end
abbrev FR (ro:Option Nat):Fence:={ Fence.wide with round:=ro }
theorem Z8 (ro:Option Nat) (n:Nat):(FR ro).room n:=fun _ h=>by grind [Fence.wide]
theorem Jk {ro:Option Nat}{n:Nat}{P:Program}{f:FuncId}{args:Array Value}{w:World}{R:Ending→World→Prop}(h:CallsIn (FR none) n P f args w R):CallsIn (FR ro) n P f args w R:=h
section
variable {P:Program}{g:Gh}{w:World}{t:Array Value}{O:Nat→Nat}{st st':St}{a:AV}{o:Oper}
structure ux (P:Program) (g:Gh) (w:World) (t:Array Value) (O:Nat→Nat) (st':St) (a:AV) (x:Value) (w':World) (g':Gh) (Oa O':Nat→Nat):Prop where
 val:RV g' w' a x Oa
 st:S P g' w' st' t O'
 ext:aI g w g' w' fun b=>O b≠0
 le:∀ b,Oa b+O' b≤1
 old:∀ b,b<w.heap.size→Oa b+O' b≤O b
 hi:∀ b,Oa b≠0→b<w'.heap.size
def OpW (ro:Option Nat) (P:Program) (g:Gh) (w:World) (t:Array Value) (O:Nat→Nat) (st':St) (a:AV) (o:Oper):Prop :=
 ∀ (ds:List Deferred) (next:Act→World→Prop) (Q:Exit→Act→World→Prop),(∀ x w' g' Oa O',ux P g w t O st' a x w' g' Oa O'→next (Act.put ⟨t,ds⟩ o.dst x) w')→
  o.uponIn (FR ro) 0 P ⟨t,ds⟩ next Q ((execOp (ev t) o).run P w)
theorem cK.opW {ro:Option Nat}(h:cK P g w t O st' a ((execOp (ev t) o).run P w)):OpW ro P g w t O st' a o:=by
 obtain⟨x,w',g',Oa,O',k⟩:=h;intro ds next Q hn
 have hx:=hn x w' g' Oa O' ⟨k.val,k.st,k.ext,k.le,k.old,k.hi⟩;rcases k.run with hr | ⟨hr,rfl⟩
 ·rw[hr];exact hx
 ·rw[hr];exact hx
abbrev oD (t:Array Value) (dst:Option Nat) (x:Value):Array Value:=(Act.put ⟨t,[]⟩ dst x).tmps
theorem Wq (t:Array Value) (ds:List Deferred) (dst:Option Nat) (x:Value):Act.put ⟨t,ds⟩ dst x=⟨oD t dst x,ds⟩:=by cases dst<;>rfl
theorem ky (t:Array Value) (dst:Option Nat) (x:Value):(oD t dst x).size=t.size:=by cases dst<;>simp[oD,Act.put]
structure dJ (P:Program) (g:Gh) (w:World) (t:Array Value) (O:Nat→Nat) (st':St) (t':Array Value) (w':World) (g':Gh) (O':Nat→Nat):Prop where
 st:S P g' w' st' t' O'
 ext:aI g w g' w' fun b=>O b≠0
 old:∀ b,b<w.heap.size→O' b≤O b
 size:t'.size=t.size
theorem dJ.refl (s:S P g w st t O):dJ P g w t O st t w g O:=⟨s,.refl _ _ _,fun _ _=>Nat.le_refl _,rfl⟩
theorem dJ.trans {t1 t2:Array Value}{w1 w2:World}{g1 g2:Gh}{O1 O2:Nat→Nat}{st1 st2:St}(h1:dJ P g w t O st1 t1 w1 g1 O1) (h2:dJ P g1 w1 t1 O1 st2 t2 w2 g2 O2) :
  dJ P g w t O st2 t2 w2 g2 O2 where
 st:=h2.st
 ext:=h1.ext.trans h2.ext fun b hb h=>by grind [old]
 old b hb:=Nat.le_trans (h2.old b (Nat.lt_of_lt_of_le hb h1.ext.size)) (h1.old b hb)
 size:=h2.size.trans h1.size
theorem aiU {st1:St}{x:Value}{w':World}{g1:Gh}{Oa O1:Nat→Nat}(k:ux P g w t O st1 a x w' g1 Oa O1) {dst:Option Nat}(hd:∀ d,dst=some d→d<t.size) (th:List (Nat×Nat)) :
  ∃ g' O',dJ P g w t O (bc dst (firm (bO th a st1.hs).1) ⟨st1.env,(bO th a st1.hs).2⟩) (oD t dst x) w' g' O':=by
 obtain⟨g2,Ov2,O2,r2,s2,x2,l2⟩:=ER (P:=P) (t:=t) th (env:=st1.env) (hs:=st1.hs) k.st k.val k.le k.hi;have hle2:∀ b,Ov2 b+O2 b≤1:=fun b=>Nat.le_trans (l2 b) (k.le b)
 obtain⟨g3,r3,s3,x3⟩:=ajq s2 r2 hle2;have hext:aI g w g3 w' fun b=>O b≠0:=(k.ext.trans x2 (fun _ _ h=>h.elim)).trans x3 fun b hb h=>by grind [ux.old]
 cases dst with
 | none=>exact⟨g3,O2,s3,hext,fun b hb=>by grind [ux.old],rfl⟩
 | some d =>
  obtain⟨O4,s4,l4⟩:=s3.setTmp (hd d rfl) r3 hle2 fun b hb=>by
   by_cases h:Oa b=0
   ·exact k.st.hi b (by grind)
   ·exact k.hi b h
  exact⟨g3,O4,s4,hext,fun b hb=>by grind [ux.old],ky _ _ _⟩
theorem S.split (s:S P g w st t O):∃ Oe Oh,fW g w st.env t Oe∧S P g w ⟨[],st.hs⟩ #[] Oh∧∀ b,O b=Oe b+Oh b:=by
 obtain⟨Oe,Oh,re,rh,ho⟩:=s.parts;exact⟨Oe,Oh,re,⟨List.Pairwise.nil,s.sh,⟨zero,Oh,fun _=>rfl,rh,fun b=>by simp⟩,fun b=>by have:=s.le b;grind,fun b hb=>s.hi b (by simp_all),s.fresh,s.pmlt⟩,ho⟩
theorem S.join {e:ar}{hs:HS}{Oe Oh:Nat→Nat}(he:bg e) (re:fW g w e t Oe) (s:S P g w ⟨[],hs⟩ #[] Oh) (hle:∀ b,Oe b+Oh b≤1) (hhi:∀ b,Oe b≠0→b<w.heap.size) :
  S P g w ⟨e,hs⟩ t fun b=>Oe b+Oh b:=by
 obtain⟨O0,Oh',r0,rh,ho⟩:=s.parts;have h0:∀ b,Oh b=Oh' b:=fun b=>by have:=ho b;have:O0 b=0:=r0 b;omega
 exact⟨he,s.sh,⟨Oe,Oh',re,rh,fun b=>by simp_all⟩,hle,fun b hb=>by
  grind [hi],s.fresh,s.pmlt⟩
theorem AW (t:Array Value) (ds:List Deferred):(⟨t,ds⟩:Act).eval=ev t:=by
 funext x;cases x<;>rfl
theorem HZ {ro:Option Nat}(t:Array Value) (ds:List Deferred) (h:∀ c,o.op≠.defer c):o.semAt ro (⟨t,ds⟩:Act).eval=execOp (ev t) o:=by
 grind [Oper.semAt_eq,AW]
end
section
variable {P:Program}{g:Gh}{w:World}{t:Array Value}{O:Nat→Nat}{st st':St}{o:Oper}{ops:Array Oper}
theorem arL (s:S P g w st t O) {gd:Option (Nat×Bool)}(hg:wp ops gd o.guard=true) :
  (gd=none→Region.wanted o (yielded ops t)=true)∧
  ∀ sl want,gd=some (sl,want)→(∀ b,get st.env sl=some (.d (.bool b))→Region.wanted o (yielded ops t)=(b == want))∧(get st.env sl=some (.tup [])→Region.wanted o (yielded ops t)=false):=by
 cases gd with
 | none =>
  grind [Region.wanted,wp]
 | some p =>
  obtain⟨sl,want⟩:=p
  cases hog:o.guard with
  | none=>grind [wp]
  | some q =>
   rw[hog]at hg;simp only[wp,Bool.and_eq_true,beq_iff_eq]at hg;obtain⟨rfl,h2⟩:=hg;refine⟨fun h=>by simp at h,fun sl' want' h=>?_⟩;obtain⟨rfl,rfl⟩:=h;obtain⟨Oe,Oh,re,rh,ho⟩:=s.parts;split at h2
   ·split at h2
    ·rename_i d hd;rw[Nat.beq_eq]at h2;subst h2;refine⟨fun b hb=>?_,fun hb=>?_⟩
     ·obtain⟨O1,⟨hlt,q⟩,_⟩:=RL.get re hb;have hv:t.getD d undef=.bool b:=ta q rfl
      simp_all [Region.wanted,yielded]
     ·obtain⟨O1,⟨hlt,q⟩,_⟩:=RL.get re hb;obtain⟨xs,hv,hxs,_⟩:=q
      simp_all [Region.wanted,yielded]
    simp_all
   simp_all
end
def dK (P:Program) (g:Gh) (w:World) (O:Nat→Nat) (v:AV) (hs':HS):Ending→World→Prop
 | .returned x,w'=>∃ g' Or Oh,RV g' w' v x Or∧S P g' w' ⟨[],hs'⟩ #[] Oh∧aI g w g' w' (fun b=>O b≠0)∧(∀ b,Or b+Oh b≤1)∧(∀ b,b<w.heap.size→Or b+Oh b≤O b)∧
   ∀ b,Or b≠0→b<w'.heap.size
 | _,_=>False
def apt (P:Program) (f:FuncId):Prop:=∃ fn,P.funcs[f]?=some fn∧fn.body.isSome=true∧fn.name≠ "runtime.NumGoroutine"
def ep (P:Program) (r:bD):Prop :=
 ∀ {f:FuncId}{args:List AV}{hs:HS}{v:AV}{hs':HS},r.call f args hs=some (v,hs')→apt P f∧
  ∀ {g:Gh}{w:World}{xs:List Value}{Oa Oh:Nat→Nat},RVs g w args xs Oa→S P g w ⟨[],hs⟩ #[] Oh→(∀ b,Oa b+Oh b≤1)→(∀ b,Oa b≠0→b<w.heap.size)→
   CallsIn (FR none) 0 P f xs.toArray w (dK P g w (fun b=>Oa b+Oh b) v hs')
section
variable {P:Program}{g:Gh}{w:World}{t:Array Value}{O:Nat→Nat}{st st':St}{a:AV}{o:Oper}{r:bD}
theorem Au {e:ar}{hs hs':HS}{Ov Oe Oh:Nat→Nat}{x:Value}{w':World}{v:AV}(he:bg e) (re:fW g w e t Oe) (hle:∀ b,Ov b+(Oe b+Oh b)≤O b) (s0:S P g w st t O)
  (h:dK P g w (fun b=>Ov b+Oh b) v hs' (.returned x) w'):∃ g' Oa O',ux P g w t O ⟨e,hs'⟩ v x w' g' Oa O':=by
 obtain⟨g',Or,Oh',h1,h2,h3,h4,h5,h6⟩:=h;have hle1:∀ b,Ov b+(Oe b+Oh b)≤1:=fun b=>Nat.le_trans (hle b) (s0.le b)
 have re':=fW.ext h3 re fun b hb h=>by grind
 have hoe:∀ b,¬ b<w.heap.size→Oe b=0:=fun b hb=>by
  grind [S.hi]
 have hsum:∀ b,Or b+(Oe b+Oh' b)≤1:=fun b=>by
  grind
 have s':=S.join he re' h2 (fun b=>by grind) fun b hb=>Nat.lt_of_lt_of_le (s0.hi b (by grind)) h3.size
 refine⟨g',Or,_,h1,s',h3.mono fun b _ hb=>by grind,hsum,fun b hb=>?_,h6⟩
 grind
theorem QZ {ro:Option Nat}{f:FuncId}{args:Array Value}{e:ar}{hs hs':HS}{Ov Oe Oh:Nat→Nat}{v:AV}(he:bg e) (re:fW g w e t Oe) (hle:∀ b,Ov b+(Oe b+Oh b)≤O b) (s0:S P g w st t O)
  (hrun:(execOp (ev t) o).run P w=.ok (.enter f args) w) (hk:CallsIn (FR none) 0 P f args w (dK P g w (fun b=>Ov b+Oh b) v hs')):OpW ro P g w t O ⟨e,hs'⟩ v o:=by
 intro ds next Q hn
 rw[hrun,Oper.uponIn_enter];refine⟨fun h=>by grind [Fence.wide],Jk (hk.mono fun en w' hp=>?_)⟩
 cases en with
 | returned x =>
  obtain⟨g',Oa,O',k⟩:=Au (hs:=hs) he re hle s0 hp
  grind
 | panicked c=>exact hp.elim
 | outgrown=>exact hp.elim
theorem oV {f:FuncId}(h:apt P f) (args:Array Value):(callFunc f args).run P w=.ok (.enter f args) w:=by
 obtain⟨fn,h1,h2,h3⟩:=h;have h2':¬ fn.body=none:=by grind
 simp_all [callFunc]
theorem Eg {c:Callee}{f:FuncId}(h:(match rJ c with | some g=>Nat.beq f g | none=>false)=true):c=.value (.func f):=by
 split at h
 ·rename_i g hg;rw[Nat.beq_eq]at h;unfold rJ at hg
  grind
 simp_all
theorem aua {ro:Option Nat}{f:FuncId}{args:List Rd}(hr:ep P r) (s:S P g w st t O) (h:xh r f args st=some (a,st')) (hc:aB P (.calli f args) o.op=true) :
  OpW ro P g w t O st' a o:=by
 obtain⟨dst,op,ty,pos,aft,gd⟩:=o;simp only[aB]at hc;split at hc
 ·rename_i c;simp only[Bool.and_eq_true]at hc;obtain⟨h1,h2⟩:=hc;obtain⟨callee,as,ats⟩:=c;have:=Eg h1;subst this;unfold xh at h;split at h
  ·rename_i vs e hrd;split at h
   ·rename_i v hs' hcall;obtain⟨rfl,rfl⟩:=h;obtain⟨Ov,O',rvs,s',l⟩:=s.rdAll h2 hrd;obtain⟨Oe,Oh,re,sh,ho⟩:=s'.split;obtain⟨hfn,hk⟩:=hr hcall;have hle:∀ b,Ov b+(Oe b+Oh b)≤O b:=fun b=>by simp_all
    have hk:=hk rvs sh (fun b=>by have:=hle b;have:=s.le b;omega) (fun b hb=>s.hi b (by grind));refine QZ (hs:=st.hs) s'.se re hle s ?_ hk;simp only[execOp,resolve,Sem.run_bind,ev,Deferred.ofValue,Sem.run_pure,Result.andThen_ok,invoke];rw[oV hfn]
    congr 2
    grind
   simp_all
  simp_all
 simp_all
end
section
variable {P:Program}{g:Gh}{w:World}{t:Array Value}{O:Nat→Nat}{st st':St}{a:AV}{o:Oper}{r:bD}
theorem RD.mono {pm pm':Nat→Nat→Prop}(h:∀ b o,pm b o→pm' b o) {c:D}{x:Value}(r:RD w pm c x):RD w pm' c x:=by
 induction r with
 | int k n=>exact .int k n
 | bool b=>exact .bool b
 | str s=>exact .str s
 | nil a cap=>exact .nil a cap
 | lst xs b off m cap u hm hcap hl hc hr ih=>exact .lst xs b off m cap u hm hcap hl (fun j c hj=>⟨(hc j c hj).1,h _ _ (hc j c hj).2⟩) (fun j c hj=>ih j c hj)
theorem eE.mono {pm pm':Nat→Nat→Prop}(h:∀ b o,pm b o→pm' b o) {cs:List D}{b off:Nat}(r:eE w pm cs b off):eE w pm' cs b off:=fun j c hj=>by
 obtain⟨u,hu,hr⟩:=r j c hj
 grind [RD.mono]
theorem RD.flat {pm pm':Nat→Nat→Prop}{c:D}{x:Value}(hf:jY c=true) (r:RD w pm c x):RD w pm' c x:=by
 cases r with
 | int k n=>exact .int k n
 | bool b=>exact .bool b
 | str s=>exact .str s
 | nil a cap=>exact .nil a cap
 | lst xs=>simp[jY]at hf
def Gh.view (g:Gh) (w:World) (K:Nat→Prop):Gh where
 obj _:=none
 base _:=0
 esz _:=0
 bsz _:=0
 pm b o:=g.pm b o∨(K b∧b<w.heap.size)
theorem ayn (s:S P g w st t O) (K:Nat→Prop):S P (g.view w K) w ⟨[],⟨[],0⟩⟩ #[] zero :=
 ⟨List.Pairwise.nil,List.Pairwise.nil,⟨zero,zero,fun _=>rfl,fun _=>rfl,fun _=>rfl⟩,fun _=>by simp,fun b hb=>by simp at hb,fun _ _=>rfl,fun b o h=>h.elim (s.pmlt b o) fun h=>h.2⟩
theorem Rk (s:S P g w st t O) {K:Nat→Prop}{v d:AV}{x:Value}{Ov:Nat→Nat}(h:viewOne st.hs.heap v=some d) (hK:oE v=true→∀ b,O b≠0→K b) (rv:RV g w v x Ov) :
  RV (g.view w K) w d x zero:=by
 have hm:∀ b o,g.pm b o→(g.view w K).pm b o:=fun b o h=>.inl h
 cases v<;>simp only[viewOne,reduceCtorEq]at h
 ·grind [RV,RD.mono]
 ·grind [RV]
 ·rename_i p m xs
  cases p
  ·have:=RV.share _ _ _ rv
   grind [share,RV,RD.mono]
  simp_all
 ·rename_i id off len;split at h
  ·rename_i xs hx;simp only[Option.some.injEq]at h;subst h;simp only[elems]at hx;split at hx
   ·rename_i zs hzs;split at hx
    ·rename_i hb;rw[Nat.ble_eq]at hb;simp only[Option.some.injEq]at hx;subst hx;have hsl:(Vm.sub zs off len).length=len:=fU hb;simp only[RV]at rv⊢;refine⟨?_,fun _=>trivial⟩;rcases rv.1 with ⟨rfl,ad,rfl⟩ | ⟨b,cap,hob,rfl,hlc,hcap⟩
     ·exact .nil _ _
     ·obtain⟨Oe,Oh,re,rh,ho⟩:=s.parts;have key:∀ (m:Nat),0<m→g.esz id=m→(∀ e∈zs,e.length=m)→eE w g.pm zs.flatten b (g.base id)→O b≠0→RD w (g.view w K).pm (.lst (Vm.sub zs off len)) (.slice (some ⟨b,g.base id+off*g.esz id,none⟩) len cap):=by
       intro m hm0 hes hl hc hO;have hsubl:=AP hl off len;have:=eE.rd (w:=w) (pm:=(g.view w K).pm) (xs:=Vm.sub zs off len) (b:=b) (off:=g.base id+off*g.esz id) (cap:=cap) hm0 (by omega) hsubl (by
        rw[jt hl,hes];exact(hc.sub _ _).mono hm) (fun j _=>.inr ⟨hK rfl b hO,s.hi b hO⟩)
       simp_all
      unfold objElems at hzs;split at hzs
      ·rename_i m' ys hg;obtain⟨O1,q,hO1⟩:=RL.get rh hg;rcases q with ⟨rfl,_⟩ | ⟨b',c,el,g1,g2,g3,g4,g5,g6,g7,g8,g9,g10⟩
       ·have h0:len=0:=by simp_all
        subst h0;exact .nil _ _
       grind [sD]
      ·rename_i cs hg;split at hzs
       ·rename_i ds hds;simp only[Option.some.injEq]at hzs;subst hzs;obtain⟨O1,q,hO1⟩:=RL.get rh hg;obtain⟨b',c,el,O2,g1,g2,g3,g4,g5,g6,g7,g8⟩:=q;obtain⟨h1,h2,h3⟩:=IK hds g6;refine key 1 (by omega) g3 (ais ds) ?_ (by grind [sD]);rw[KR,g2];intro j d hj
        grind [dM]
       simp_all
      simp_all
    simp_all
   simp_all
  simp_all
theorem Ra (s:S P g w st t O) {K:Nat→Prop}:∀ {vs ds:List AV}{xs:List Value}{Ov:Nat→Nat},viewAll st.hs.heap vs=some ds→(vs.any oE=true→∀ b,O b≠0→K b)→RVs g w vs xs Ov→
  RVs (g.view w K) w ds xs zero
 | [],ds,xs,Ov,h,hK,rv=>by
  grind [viewAll,RVs]
 | v::vs,ds,xs,Ov,h,hK,rv=>by
  simp only[viewAll]at h;split at h
  ·simp at h
  ·rename_i d hd;split at h
   ·simp at h
   ·rename_i ds' hds;simp only[Option.some.injEq]at h;subst h;obtain⟨x,ys,O1,O2,rfl,r1,r2,hs⟩:=rv;exact⟨x,ys,zero,zero,rfl,Rk s hd (fun h=>hK (by simp[h])) r1,Ra s hds (fun h=>hK (by simp_all)) r2,fun _=>rfl⟩
theorem alt (s:S P g w st t O) {K:Nat→Prop}{v d:AV}{x:Value}{Ov:Nat→Nat}(h:viewArg st.hs.heap v=some d) (hK:nL v=true→∀ b,O b≠0→K b) (rv:RV g w v x Ov) :
  RV (g.view w K) w d x zero:=by
 cases v<;>simp only[viewArg]at h<;>try exact Rk s h (fun hh=>hK hh) rv
 split at h
 ·rename_i xs hx;simp only[Option.some.injEq]at h;subst h;obtain⟨ys,e,r⟩:=rv;exact⟨ys,e,Ra s hx (fun hh=>hK hh) r⟩
 simp_all
theorem Kh (s:S P g w st t O) {K:Nat→Prop}:∀ {vs ds:List AV}{xs:List Value}{Ov:Nat→Nat},viewArgs st.hs.heap vs=some ds→(vs.any nL=true→∀ b,O b≠0→K b)→RVs g w vs xs Ov→
  RVs (g.view w K) w ds xs zero
 | [],ds,xs,Ov,h,hK,rv=>by
  grind [viewArgs,RVs]
 | v::vs,ds,xs,Ov,h,hK,rv=>by
  simp only[viewArgs]at h;split at h
  ·simp at h
  ·rename_i d hd;split at h
   ·simp at h
   ·rename_i ds' hds;simp only[Option.some.injEq]at h;subst h;obtain⟨x,ys,O1,O2,rfl,r1,r2,hs⟩:=rv;exact⟨x,ys,zero,zero,rfl,alt s hd (fun h=>hK (by simp[h])) r1,Kh s hds (fun h=>hK (by simp_all)) r2,fun _=>rfl⟩
end
section
variable {P:Program}{g:Gh}{w:World}{t:Array Value}{O:Nat→Nat}{st st':St}{a:AV}{o:Oper}{r:bD}
def kr:AV→Bool
 | .d _ | .nl | .own _ _ _=>true
 | _=>false
def lx:AV→Bool
 | .agg cs=>cs.all kr
 | v=>kr v
def Cs:AV→Bool
 | .tup vs=>vs.all lx
 | v=>lx v
def YM (P:Program) (g:Gh) (w:World) (O:Nat→Nat) (n:Nat) (x:Value) (Ov:Nat→Nat) (r:AV×ac):Prop :=
 ∃ Ov' O',RV g w r.1 x Ov'∧S P g w ⟨[],⟨r.2,n⟩⟩ #[] O'∧∀ b,Ov' b+O' b≤Ov b+O b
def axR (P:Program) (g:Gh) (w:World) (O:Nat→Nat) (n:Nat) (xs:List Value) (Ov:Nat→Nat) (r:List AV×ac):Prop :=
 ∃ Ov' O',RVs g w r.1 xs Ov'∧S P g w ⟨[],⟨r.2,n⟩⟩ #[] O'∧∀ b,Ov' b+O' b≤Ov b+O b
theorem YO {h:ac}{n:Nat}(s:S P g w ⟨[],⟨h,n⟩⟩ #[] O) {v:AV}{x:Value}{Ov:Nat→Nat}{r:AV×ac}(hr:gk h v=some r) (rv:RV g w v x Ov) :
  YM P g w O n x Ov r∧kr r.1=true:=by
 have triv:∀ v,RV g w v x Ov→YM P g w O n x Ov (v,h):=fun v rv=>⟨Ov,O,rv,s,fun _=>Nat.le_refl _⟩
 cases v<;>simp only[gk,reduceCtorEq]at hr
 ·simp only[Option.some.injEq]at hr;subst hr;exact⟨triv _ rv,rfl⟩
 ·simp only[Option.some.injEq]at hr;subst hr;exact⟨triv _ rv,rfl⟩
 ·simp only[Option.some.injEq]at hr;subst hr;exact⟨triv _ rv,rfl⟩
 ·rename_i id off len;split at hr
  ·rename_i m xs hg;split at hr
   ·rename_i hb;rw[Nat.ble_eq]at hb;simp only[Option.some.injEq]at hr;subst hr;refine⟨?_,rfl⟩;obtain⟨Oe,Oh,re,rh,ho⟩:=s.parts;obtain⟨O1,O2,q,r2,hs⟩:=RL.take rh hg;have hle2:∀ b,Oe b+O2 b≤O b:=fun b=>by grind
    have s2:S P g w ⟨[],⟨del h id,n⟩⟩ #[] (fun b=>Oe b+O2 b) :=
     ⟨s.se,s.sh.del id,⟨Oe,O2,re,r2,fun _=>rfl⟩,fun b=>Nat.le_trans (hle2 b) (s.le b),fun b hb=>s.hi b (by grind),s.fresh,s.pmlt⟩
    have hsub:(Vm.sub xs off len).length=len:=fU hb;have emp:len=0→(∃ a,x=.slice a 0 0)→RV g w (.own true m (Vm.sub xs off len)) x zero:=by
     grind [RV,vZ]
    rcases rv with ⟨h0,h⟩ | ⟨b,cap,hob,rfl,hlc,hcap⟩
    ·exact⟨zero,_,emp h0 h,s2,fun b=>by simp_all⟩
    ·rcases q with ⟨rfl,g1,g2,g3,_⟩ | ⟨b',c,el,g1,g2,g3,g4,g5,g6,g7,g8,g9,g10⟩
     ·have hl0:len=0:=by simp_all
      have hc0:cap=0:=by
       grind [Nat.mul_eq_zero]
      subst hl0 hc0;exact⟨zero,_,emp rfl ⟨_,rfl⟩,s2,fun b=>by simp_all⟩
     ·rw[hob]at g1;simp only[Option.some.injEq]at g1;subst g1;refine⟨one b,_,?_,s2,fun y=>?_⟩
      ·refine .inr ⟨b,g.base id+off*m,cap,c,el,by simp_all,by omega,g3,AP g7 off len,g4,?_,?_,fun o ho=>absurd ho (g9 o),fun h=>by simp at h,rfl⟩
       ·grind [Nat.add_mul]
       simp_all [jt,eE.sub]
      grind
   simp_all
  simp_all
theorem EK {n:Nat}{f:ac→AV→Option (AV×ac)}{fs:ac→List AV→Option (List AV×ac)}{p:AV→Bool}
  (hf:∀ {h:ac}{O:Nat→Nat},S P g w ⟨[],⟨h,n⟩⟩ #[] O→∀ {v:AV}{x:Value}{Ov:Nat→Nat}{r:AV×ac},f h v=some r→RV g w v x Ov→YM P g w O n x Ov r∧p r.1=true)
  (hnil:∀ h,fs h []=some ([],h)) (hcons:∀ h v vs r,fs h (v::vs)=some r→∃ v' h' vs' h'',f h v=some (v',h')∧fs h' vs=some (vs',h'')∧r=(v'::vs',h'')) :
  ∀ {vs:List AV}{h:ac}{O:Nat→Nat},S P g w ⟨[],⟨h,n⟩⟩ #[] O→∀ {xs:List Value}{Ov:Nat→Nat}{r:List AV×ac},fs h vs=some r→RVs g w vs xs Ov→axR P g w O n xs Ov r∧r.1.all p=true
 | [],h,O,s,xs,Ov,r,hr,rv=>by
  rw[hnil]at hr;simp only[Option.some.injEq]at hr;subst hr;exact⟨⟨Ov,O,rv,s,fun _=>Nat.le_refl _⟩,rfl⟩
 | v::vs,h,O,s,xs,Ov,r,hr,rv=>by
  obtain⟨v',h',vs',h'',e1,e2,rfl⟩:=hcons _ _ _ _ hr;obtain⟨x,ys,O1,O2,rfl,r1,r2,hs⟩:=rv;obtain⟨⟨Ov1,O3,q1,s1,l1⟩,p1⟩:=hf s e1 r1;obtain⟨⟨Ov2,O4,q2,s2,l2⟩,p2⟩:=EK hf hnil hcons s1 e2 r2;refine⟨⟨fun b=>Ov1 b+Ov2 b,O4,?_,s2,fun b=>by grind⟩,by simp_all⟩
  grind [RVs]
theorem VR {h:ac}{n:Nat}{O:Nat→Nat}(s:S P g w ⟨[],⟨h,n⟩⟩ #[] O) {v:AV}{x:Value}{Ov:Nat→Nat}{r:AV×ac}(hr:dQ h v=some r) (rv:RV g w v x Ov) :
  YM P g w O n x Ov r∧lx r.1=true:=by
 have base:∀ {v:AV},RV g w v x Ov→gk h v=some r→YM P g w O n x Ov r∧lx r.1=true:=fun rv hr=>by
  obtain⟨h1,h2⟩:=YO s hr rv;refine⟨h1,?_⟩;obtain⟨v',h'⟩:=r
  cases v'<;>first | exact h2 | grind [kr]
 cases v<;>simp only[dQ]at hr<;>try exact base rv hr
 split at hr
 ·rename_i vs' h' hx;simp only[Option.some.injEq]at hr;subst hr;obtain⟨ys,e,rr⟩:=rv;obtain⟨⟨Ov1,O1,q1,s1,l1⟩,p1⟩:=EK (f:=gk) (fs:=lv) (p:=kr) YO (fun _=>rfl) (fun h v vs r hr=>by
   grind [lv]) s hx rr
  exact⟨⟨Ov1,O1,by grind [RV],s1,l1⟩,p1⟩
 simp_all
theorem aos {h:ac}{n:Nat}(s:S P g w ⟨[],⟨h,n⟩⟩ #[] O) {v r:AV}{x:Value}{Ov:Nat→Nat}(hr:eZ h v=some r) (rv:RV g w v x Ov) :
  ∃ u Ov',r=eM u∧RV g w u x Ov'∧(∀ b,Ov' b≤Ov b+O b)∧Cs u=true:=by
 have base:∀ {v:AV},RV g w v x Ov→(match dQ h v with | some (x,_)=>some (eM x) | none=>none)=some r→∃ u Ov',r=eM u∧RV g w u x Ov'∧(∀ b,Ov' b≤Ov b+O b)∧Cs u=true:=fun rv hr=>by
  split at hr
  ·rename_i u h' hu;simp only[Option.some.injEq]at hr;obtain⟨⟨Ov',O',q,_,l⟩,p⟩:=VR s hu rv;refine⟨u,Ov',hr.symm,q,fun b=>by grind,?_⟩
   cases u<;>first | exact p | grind [lx,kr]
  simp_all
 cases v<;>simp only[eZ]at hr<;>try exact base rv hr
 split at hr
 ·rename_i vs' h' hx;simp only[Option.some.injEq]at hr;obtain⟨ys,e,rr⟩:=rv;obtain⟨⟨Ov1,O1,q1,s1,l1⟩,p1⟩:=EK (f:=dQ) (fs:=lH) (p:=lx) VR (fun _=>rfl) (fun h v vs r hr=>by
   grind [lH]) s hx rr
  exact⟨.tup vs',Ov1,hr.symm,by grind [RV],fun b=>by grind,p1⟩
 simp_all
theorem H8 {g2:Gh}{v:AV}{x:Value}{Ov:Nat→Nat}(hp:kr v=true) (hf:eY v=true) (rv:RV g w v x Ov) (hn:∀ b,Ov b≠0→∀ o,¬ g2.pm b o):RV g2 w (jG v) x Ov:=by
 cases v<;>simp only[kr,Bool.false_eq_true]at hp
 ·grind [RV,jG,RD.flat,eY]
 ·grind [RV,jG]
 ·simp only[eY]at hf;rcases rv with h | ⟨b,off,cap,c,el,rfl,hcap,hm,hl,hb,hsz,hrc,hpm,hpp,rfl⟩
  ·exact .inl h
  ·refine .inr ⟨b,off,cap,c,el,rfl,hcap,hm,hl,hb,hsz,fun j d hj=>?_,fun o ho=>absurd ho (hn b (by simp) o),fun h=>by simp at h,rfl⟩;obtain⟨u,hu,hr⟩:=hrc j d hj
   grind [RD.flat]
theorem yV {g2:Gh}{f:AV→AV}{p q:AV→Bool}(hf:∀ {v:AV}{x:Value}{Ov:Nat→Nat},p v=true→q v=true→RV g w v x Ov→(∀ b,Ov b≠0→∀ o,¬ g2.pm b o)→RV g2 w (f v) x Ov) :
  ∀ {vs:List AV}{xs:List Value}{Ov:Nat→Nat},vs.all p=true→vs.all q=true→RVs g w vs xs Ov→(∀ b,Ov b≠0→∀ o,¬ g2.pm b o)→RVs g2 w (vs.map f) xs Ov
 | [],xs,Ov,_,_,rv,_=>by grind [RVs]
 | v::vs,xs,Ov,hp,hq,rv,hn=>by
  simp only[List.all_cons,Bool.and_eq_true]at hp hq;obtain⟨x,ys,O1,O2,rfl,r1,r2,hs⟩:=rv;exact⟨x,ys,O1,O2,rfl,hf hp.1 hq.1 r1 (fun b hb=>hn b (by simp_all)),yV hf hp.2 hq.2 r2 (fun b hb=>hn b (by simp_all)),hs⟩
theorem ap3 (v:AV):(∃ cs,v=.agg cs)∨(kG v=jG v∧lx v=kr v∧iH v=eY v):=by
 cases v<;>first | exact .inl ⟨_,rfl⟩ | exact .inr ⟨rfl,rfl,rfl⟩
theorem aqx (v:AV):(∃ cs,v=.tup cs)∨(lD v=kG v∧Cs v=lx v∧gL v=iH v):=by
 cases v<;>first | exact .inl ⟨_,rfl⟩ | exact .inr ⟨rfl,rfl,rfl⟩
theorem Vc {g2:Gh}{v:AV}{x:Value}{Ov:Nat→Nat}(hp:lx v=true) (hf:iH v=true) (rv:RV g w v x Ov) (hn:∀ b,Ov b≠0→∀ o,¬ g2.pm b o):RV g2 w (kG v) x Ov:=by
 rcases ap3 v with ⟨cs,rfl⟩ | ⟨e1,e2,e3⟩
 ·obtain⟨xs,e,rr⟩:=rv;exact⟨xs,e,yV H8 hp hf rr hn⟩
 grind [H8]
theorem an1 {g2:Gh}{v:AV}{x:Value}{Ov:Nat→Nat}(hp:Cs v=true) (hf:gL v=true) (rv:RV g w v x Ov) (hn:∀ b,Ov b≠0→∀ o,¬ g2.pm b o):RV g2 w (lD v) x Ov:=by
 rcases aqx v with ⟨cs,rfl⟩ | ⟨e1,e2,e3⟩
 ·obtain⟨xs,e,rr⟩:=rv;exact⟨xs,e,yV Vc hp hf rr hn⟩
 grind [Vc]
theorem afx {g2:Gh}{v:AV}{x:Value}{Ov:Nat→Nat}(hp:kr v=true) (rv:RV g w v x Ov) (hn:∀ b,Ov b≠0→∀ o,¬ g2.pm b o):∃ Ov',RV g2 w (Xj v) x Ov'∧∀ b,Ov' b≤Ov b:=by
 unfold Xj;split
 ·rename_i hf;exact⟨Ov,H8 hp hf rv hn,fun _=>Nat.le_refl _⟩
 ·split
  ·rename_i n hl;refine⟨zero,?_,fun _=>Nat.zero_le _⟩;simp only[RV];refine⟨?_,fun _=>trivial⟩
   cases v with
   | d c =>
    cases c with
    | lst xs =>
     simp only[lenOf,Option.some.injEq]at hl;have rd:=rv.1
     cases rd
     all_goals simp_all
    | _=>simp[lenOf]at hl
   | nl =>
    grind [lenOf,RV]
   | own p m xs =>
    grind [lenOf,RV,vZ]
   | _=>grind [kr]
  ·exact⟨zero,by simp[RV,zero],fun _=>Nat.zero_le _⟩
theorem Cd {g2:Gh}{f:AV→AV}{p:AV→Bool}(hf:∀ {v:AV}{x:Value}{Ov:Nat→Nat},p v=true→RV g w v x Ov→(∀ b,Ov b≠0→∀ o,¬ g2.pm b o)→∃ Ov',RV g2 w (f v) x Ov'∧∀ b,Ov' b≤Ov b) :
  ∀ {vs:List AV}{xs:List Value}{Ov:Nat→Nat},vs.all p=true→RVs g w vs xs Ov→(∀ b,Ov b≠0→∀ o,¬ g2.pm b o)→∃ Ov',RVs g2 w (vs.map f) xs Ov'∧∀ b,Ov' b≤Ov b
 | [],xs,Ov,_,rv,_=>⟨Ov,by grind [RVs],fun _=>Nat.le_refl _⟩
 | v::vs,xs,Ov,hp,rv,hn=>by
  simp only[List.all_cons,Bool.and_eq_true]at hp;obtain⟨x,ys,O1,O2,rfl,r1,r2,hs⟩:=rv;obtain⟨Q1,q1,l1⟩:=hf hp.1 r1 (fun b hb=>hn b (by simp_all));obtain⟨Q2,q2,l2⟩:=Cd hf hp.2 r2 (fun b hb=>hn b (by simp_all));exact⟨fun b=>Q1 b+Q2 b,⟨x,ys,Q1,Q2,rfl,q1,q2,fun _=>rfl⟩,fun b=>by grind⟩
theorem aeV {g2:Gh}{v:AV}{x:Value}{Ov:Nat→Nat}(hp:lx v=true) (rv:RV g w v x Ov) (hn:∀ b,Ov b≠0→∀ o,¬ g2.pm b o):∃ Ov',RV g2 w (Hx v) x Ov'∧∀ b,Ov' b≤Ov b:=by
 have other:Hx v=Xj v→lx v=kr v→∃ Ov',RV g2 w (Hx v) x Ov'∧∀ b,Ov' b≤Ov b:=fun e1 e2=>by
  rw[e1];rw[e2]at hp;exact afx hp rv hn
 cases v with
 | agg cs =>
  simp only[RV,Hx]at rv⊢;obtain⟨xs,e,rr⟩:=rv;obtain⟨Ov',q,l⟩:=Cd afx hp rr hn
  grind
 | _=>exact other rfl rfl
theorem apK {g2:Gh}{v:AV}{x:Value}{Ov:Nat→Nat}(hp:Cs v=true) (rv:RV g w v x Ov) (hn:∀ b,Ov b≠0→∀ o,¬ g2.pm b o):∃ Ov',RV g2 w (IR v) x Ov'∧∀ b,Ov' b≤Ov b:=by
 have other:IR v=Hx v→Cs v=lx v→∃ Ov',RV g2 w (IR v) x Ov'∧∀ b,Ov' b≤Ov b:=fun e1 e2=>by
  rw[e1];rw[e2]at hp;exact aeV hp rv hn
 cases v with
 | tup cs =>
  simp only[RV,IR]at rv⊢;obtain⟨xs,e,rr⟩:=rv;obtain⟨Ov',q,l⟩:=Cd aeV hp rr hn
  grind
 | _=>exact other rfl rfl
theorem Wv {g2:Gh}(hpm:g2.pm=g.pm) {v:AV}{x:Value}{Ov:Nat→Nat}(hp:kr v=true) (rv:RV g w v x Ov):RV g2 w v x Ov:=by
 cases v<;>simp only[kr,Bool.false_eq_true]at hp
 all_goals simp_all [RV,vZ]
theorem yD {g2:Gh}{p:AV→Bool}(hf:∀ {v:AV}{x:Value}{Ov:Nat→Nat},p v=true→RV g w v x Ov→RV g2 w v x Ov) :
  ∀ {vs:List AV}{xs:List Value}{Ov:Nat→Nat},vs.all p=true→RVs g w vs xs Ov→RVs g2 w vs xs Ov
 | [],xs,Ov,_,rv=>by grind [RVs]
 | v::vs,xs,Ov,hp,rv=>by
  simp only[List.all_cons,Bool.and_eq_true]at hp;obtain⟨x,ys,O1,O2,rfl,r1,r2,hs⟩:=rv;exact⟨x,ys,O1,O2,rfl,hf hp.1 r1,yD hf hp.2 r2,hs⟩
theorem W7 {g2:Gh}(hpm:g2.pm=g.pm) {v:AV}{x:Value}{Ov:Nat→Nat}(hp:lx v=true) (rv:RV g w v x Ov):RV g2 w v x Ov:=by
 rcases ap3 v with ⟨cs,rfl⟩ | ⟨e1,e2,e3⟩
 ·obtain⟨xs,e,rr⟩:=rv;exact⟨xs,e,yD (Wv hpm) hp rr⟩
 grind [Wv]
theorem apy {g2:Gh}(hpm:g2.pm=g.pm) {v:AV}{x:Value}{Ov:Nat→Nat}(hp:Cs v=true) (rv:RV g w v x Ov):RV g2 w v x Ov:=by
 rcases aqx v with ⟨cs,rfl⟩ | ⟨e1,e2,e3⟩
 ·obtain⟨xs,e,rr⟩:=rv;exact⟨xs,e,yD (W7 hpm) hp rr⟩
 grind [W7]
end
section
variable {P:Program}{g:Gh}{w:World}{t:Array Value}{O:Nat→Nat}{st st':St}{a:AV}{o:Oper}{r:bD}
theorem S.extF (s:S P g w st t O) {g2:Gh}{w':World}(h:aI g w g2 w' fun _=>False) (ho:g2.obj=g.obj) (hp:∀ b o,g2.pm b o→b<w'.heap.size):S P g2 w' st t O:=by
 obtain⟨Oe,Oh,re,rh,hs⟩:=s.parts;exact⟨s.se,s.sh,⟨Oe,Oh,fW.ext h re (by simp),rh.imp' fun k v O1 _ _ q=>q.ext0 h (by simp),hs⟩,s.le,
  fun b hb=>Nat.lt_of_lt_of_le (s.hi b hb) h.size,fun id hid=>by rw[ho];grind [fresh],hp⟩
theorem aiX (u:AV):gL (lD u)=gL u:=by
 have h1:∀ v:AV,eY (jG v)=eY v:=fun v=>by cases v<;>rfl
 have h2:∀ v:AV,iH (kG v)=iH v:=fun v=>by
  cases v<;>try rfl
  grind [kG,iH]
 cases u<;>try rfl
 ·rename_i cs;exact h2 (.agg cs)
 grind [lD,gL]
theorem aof {e:ar}{hs hs0:HS}{O':Nat→Nat}{vs:List AV}{v0 v:AV}{x:Value}{w':World}(s':S P g w ⟨e,hs⟩ t O') (hle:∀ b,O' b≤O b)
  (hp:dK P (g.view w fun b=>vs.any nL=true∧O' b≠0) w zero v0 hs0 (.returned x) w')
  (hres:(match eZ hs0.heap v0 with | none=>none | some v=>match vs.any nL with | false=>some v | true=>match gL v with | true=>some v | false=>some (IR v))=some v) :
  ∃ g' Oa O1,ux P g w t O ⟨e,hs⟩ v x w' g' Oa O1:=by
 obtain⟨g1,Or,Oh,h1,h2,h3,h4,h5,h6⟩:=hp;have hz:∀ b,b<w.heap.size→Or b+Oh b=0:=fun b hb=>by simp_all
 split at hres
 ·simp_all
 ·rename_i v1 hv1;obtain⟨u,Ov',rfl,ru,lu,pu⟩:=aos h2 hv1 h1;have hcell:∀ b o,g.pm b o→w'.cell? ⟨b,o,none⟩=w.cell? ⟨b,o,none⟩:=fun b o h=>(h3.pm b o (.inl h)).2
  have hblk:∀ b,b<w.heap.size→w'.heap[b]?=w.heap[b]?:=fun b hb=>(h3.blk b hb (by simp)).1
  have fin:∀ (g2:Gh) (Ow:Nat→Nat),(∀ b,Ow b≤Ov' b)→aI g w g2 w' (fun _=>False)→g2.obj=g.obj→(∀ b o,g2.pm b o→b<w'.heap.size)→RV g2 w' v x Ow→∃ g' Oa O1,ux P g w t O ⟨e,hs⟩ v x w' g' Oa O1:=by
   intro g2 Ow hle2 hx ho hpl hv;have lu:∀ b,Ow b≤Or b+Oh b:=fun b=>Nat.le_trans (hle2 b) (lu b)
   refine⟨g2,Ow,O',hv,s'.extF hx ho hpl,hx.mono fun _ _ h=>h.elim,fun b=>?_,fun b hb=>?_,fun b hb=>?_⟩
   ·by_cases hb:b<w.heap.size
    ·have:=hz b hb;have:=lu b;have:=s'.le b;omega
    grind [S.out]
   all_goals grind [S.hi]
  by_cases hf:gL u=true
  ·have hb:eM u=lD u:=by simp[eM,hf]
   have hv:v=lD u:=by
    grind [aiX]
   refine fin g Ov' (fun _=>Nat.le_refl _) ⟨fun _ _ h=>⟨h,rfl,rfl,rfl⟩,fun b o h=>⟨h,hcell b o h⟩,fun b hb _=>⟨hblk b hb,fun _ h=>h⟩,h3.size,h3.lp,h3.same⟩ rfl (fun b o h=>Nat.lt_of_lt_of_le (s'.pmlt b o h) h3.size) ?_
   grind [an1,S.pmlt]
  ·have hb:eM u=u:=by simp[eM,hf]
   cases hnf:vs.any nL with
   | false =>
    have hold:∀ b o,(g.view w fun b=>vs.any nL=true∧O' b≠0).pm b o→g.pm b o:=fun b o h=>h.elim id fun h=>by simp_all
    refine fin { g with pm:=g1.pm } Ov' (fun _=>Nat.le_refl _) ⟨fun _ _ h=>⟨h,rfl,rfl,rfl⟩,fun b o h=>⟨(h3.pm b o (.inl h)).1,hcell b o h⟩,fun b hb _=>⟨hblk b hb,fun o h=>hold b o ((h3.blk b hb (by simp)).2 o h)⟩,h3.size,h3.lp,h3.same⟩ rfl
     (fun b o h=>h2.pmlt b o h) ?_
    grind [apy]
   | true =>
    obtain⟨Ow,qv,lw⟩:=apK (g2:=g) pu ru fun b hb o hpm=>by
     grind [S.pmlt]
    refine fin g Ow lw ⟨fun _ _ h=>⟨h,rfl,rfl,rfl⟩,fun b o h=>⟨h,hcell b o h⟩,fun b hb _=>⟨hblk b hb,fun _ h=>h⟩,h3.size,h3.lp,h3.same⟩ rfl (fun b o h=>Nat.lt_of_lt_of_le (s'.pmlt b o h) h3.size) ?_
    simp_all
theorem avB {ro:Option Nat}{f:FuncId}{args:List Rd}(hr:ep P r) (s:S P g w st t O) (h:xS r f args st=some (a,st')) (hc:aB P (.call f args) o.op=true) :
  OpW ro P g w t O st' a o:=by
 obtain⟨dst,op,ty,pos,aft,gd⟩:=o;simp only[aB]at hc;split at hc
 ·rename_i c;simp only[Bool.and_eq_true]at hc;obtain⟨h1,h2⟩:=hc;obtain⟨callee,as,ats⟩:=c;have:=Eg h1;subst this;unfold xS at h;split at h
  ·rename_i vs e hrd;split at h
   ·rename_i v hcall;obtain⟨Ov,O',rvs,s',l⟩:=s.rdAll h2 hrd;unfold ca at hcall;split at hcall
    ·simp_all
    ·rename_i ds hds;split at hcall
     ·simp_all
     ·rename_i v0 hs0 hc0;obtain⟨hfn,hk⟩:=hr hc0;have rvc:=Kh (st:=⟨e,st.hs⟩) (K:=fun b=>vs.any nL=true∧O' b≠0) s' hds (fun h b hb=>⟨h,hb⟩) rvs;have hk:=hk rvc (ayn s' _) (fun b=>by simp) (fun b hb=>by simp at hb);intro ds' next Q hn
      have hrun:(execOp (ev t) ⟨dst,.call ⟨.value (.func f),as,ats⟩,ty,pos,aft,gd⟩).run P w=.ok (.enter f (as.toList.map (ev t)).toArray) w:=by
       simp only[execOp,resolve,Sem.run_bind,ev,Deferred.ofValue,Sem.run_pure,Result.andThen_ok,invoke];rw[oV hfn]
       congr 2
       grind
      rw[hrun,Oper.uponIn_enter];refine⟨fun h=>by grind [Fence.wide],Jk (hk.mono fun en w' hp=>?_)⟩
      cases en with
      | returned x =>
       obtain⟨g',Oa,O1,k⟩:=aof (O:=O) (vs:=vs) s' (fun b=>by grind) hp hcall
       grind
      | panicked c=>exact hp.elim
      | outgrown=>exact hp.elim
   simp_all
  simp_all
 simp_all
end
def xU:aZ→Exit
 | .normal=>.normal
 | .exit i=>.exit i
 | .goto l=>.goto l
 | .ret=>.ret
def fJ (w:World) (O:Nat→Nat) (lo:Nat):List Deferred→Prop
 | []=>True
 | d::ds=>(∃ r,d.target=.collected r∧lo≤r∧w.heap[r]?=some (.deferred (some []))∧O r=0∧∀ d'∈ds,∀ r',d'.target=.collected r'→r'<r)∧fJ w O lo ds
def xj (w:World) (ro:Option Nat):Prop:=∀ l,ro=some l→∃ rc:Go.Loop,w.heap[l]?=some (.loop rc)
def aX (P:Program) (g:Gh) (w:World) (t:Array Value) (O:Nat→Nat) (ds:List Deferred) (ro:Option Nat) (o:aZ) (st':St) (e:Exit) (a':Act) (w':World):Prop :=
 e=xU o∧∃ g' O' ms,dJ P g w t O st' a'.tmps w' g' O'∧a'.defers=ms++ds∧fJ w' O' w.heap.size ms∧(ro.isSome=true→ms=[])
section
variable {P:Program}{g:Gh}{w:World}{t:Array Value}{O:Nat→Nat}{st st':St}{a:AV}{o:Oper}{r:bD}
theorem xj.ext {ro:Option Nat}(h:xj w ro) {g g':Gh}{w':World}{T:Nat→Prop}(hx:aI g w g' w' T):xj w' ro:=fun l hl=>let ⟨rc,hrc⟩:=h l hl;hx.lp l rc hrc
theorem fJ.after {lo:Nat}{g1 g2:Gh}{w1 w2:World}{O1 O2:Nat→Nat}(hx:aI g1 w1 g2 w2 fun b=>O1 b≠0) (ho:∀ b,b<w1.heap.size→O2 b≤O1 b) :
  ∀ {ms:List Deferred},fJ w1 O1 lo ms→fJ w2 O2 lo ms
 | [],_=>trivial
 | d::ds,⟨⟨r,h1,h2,h3,h4,h5⟩,h6⟩=>by
  exact⟨⟨r,h1,h2,by grind [aI.blk],by grind,h5⟩,fJ.after hx ho h6⟩
theorem fJ.lt {lo:Nat}:∀ {ms:List Deferred},fJ w O lo ms→∀ d∈ms,∀ r,d.target=.collected r→r<w.heap.size
 | [],_,d,hd,_,_=>by simp at hd
 | m::ms,⟨⟨r,h1,h2,h3,h4,h5⟩,h6⟩,d,hd,r',hr=>by
  grind
theorem fJ.append {lo1 lo2:Nat}(hlo:lo1≤lo2) {ms1:List Deferred}(h1:fJ w O lo1 ms1) (hlt:∀ d∈ms1,∀ r,d.target=.collected r→r<lo2) :
  ∀ {ms2:List Deferred},fJ w O lo2 ms2→fJ w O lo1 (ms2++ms1)
 | [],_=>h1
 | d::ds,⟨⟨r,k1,k2,k3,k4,k5⟩,k6⟩=>by
  refine⟨⟨r,k1,Nat.le_trans hlo k2,k3,k4,fun d' hd' r' hr'=>?_⟩,fJ.append hlo h1 hlt k6⟩;rcases List.mem_append.1 hd' with h | h<;>grind
theorem aX.comp {ds ms1:List Deferred}{ro:Option Nat}{st1 st2:St}{t1:Array Value}{w1:World}{g1:Gh}{O1:Nat→Nat}(G:dJ P g w t O st1 t1 w1 g1 O1) (hm:fJ w1 O1 w.heap.size ms1)
  (hro:ro.isSome=true→ms1=[]) {out:aZ}{e:Exit}{a2:Act}{w2:World}(h:aX P g1 w1 t1 O1 (ms1++ds) ro out st2 e a2 w2):aX P g w t O ds ro out st2 e a2 w2:=by
 obtain⟨he,g2,O2,ms2,G2,hd,hm2,hr2⟩:=h;refine⟨he,g2,O2,ms2++ms1,G.trans G2,by simp_all,?_,fun h=>by simp_all⟩;exact fJ.append G.ext.size (hm.after G2.ext G2.old) (fun d hd r hr=>hm.lt d hd r hr) hm2
def eK (P:Program) (r:bD):Prop :=
 ∀ {v:VC}{st:St}{o:aZ}{st':St},r.code v st=some (o,st')→∀ {c:Code}{n:Nat},Mt P n v c→∀ {g:Gh}{w:World}{t:Array Value}{O:Nat→Nat},t.size=n→S P g w st t O→
  ∀ (ro:Option Nat) (ds:List Deferred),xj w ro→c.wpIn (FR ro) 0 P (aX P g w t O ds ro o st') ⟨t,ds⟩ w
theorem aI.loopBlk {b:Nat}{rc rc':Go.Loop}(hb:w.heap[b]?=some (.loop rc)):aI g w g (Vm.setBlk w b (.loop rc')) fun x=>x=b where
 obj _ _ h:=⟨h,rfl,rfl,rfl⟩
 pm b' o h:=⟨h,by
  grind [World.cell?,cm,dZ]⟩
 blk b' _ h:=⟨dZ h,fun _ h=>h⟩
 size:=by simp
 lp b' r h:=by
  grind [cm,dZ]
 same:=⟨rfl,rfl,qX hb (by grind [dD]) (by grind [dD])⟩
theorem S.storeG {st:St}(s:S P g w st t O) {id:Nat}{ob:Obj}(hg:get st.hs.heap id=some ob) :
  ∃ O1 Oz:Nat→Nat,fO P g w id ob O1∧(∀ b,O1 b+Oz b≤O b)∧∀ (w':World) (b:Nat) (ob':Obj) (O1':Nat→Nat),
   1≤O1 b→aI g w g w' (fun x=>x=b)→fO P g w' id ob' O1'→(∀ x,O1' x+Oz x≤1)→(∀ x,O1' x≠0→x<w'.heap.size)→
   S P g w' ⟨st.env,⟨put st.hs.heap id ob',st.hs.next⟩⟩ t (fun x=>O1' x+Oz x):=by
 obtain⟨Oe,Oh,re,rh,ho⟩:=s.parts;obtain⟨O1,O2,q,r2,hs⟩:=RL.take rh hg;refine⟨O1,fun b=>Oe b+O2 b,q,fun b=>by grind,fun w' b ob' O1' h1 hx q' hle hhi=>?_⟩;have hone:O b≤1:=s.le b;have hfree:Oe b=0∧O2 b=0:=by grind
 have re':=fW.ext hx re (fun y hy e=>by simp_all);have r2':uX P g w' (del st.hs.heap id) O2:=r2.imp' fun k v Q _ hQ q=>q.ext0 hx (fun y hy e=>by grind)
 obtain⟨O3,r3,h3⟩:=RL.put s.sh r2' q';refine⟨s.se,s.sh.put _ _,⟨Oe,O3,re',r3,fun x=>by grind⟩,hle,fun x hx0=>?_,s.fresh,
  fun b o hp=>Nat.lt_of_lt_of_le (s.pmlt b o hp) hx.size⟩
 by_cases h:O1' x=0
 ·refine Nat.lt_of_lt_of_le (s.hi x ?_) hx.size
  grind
 simp_all
theorem S.setLoop {st:St}(s:S P g w st t O) {id:Nat}{snap:ar}{ps:List Nat}{as bd:VC}{busy:Bool}{pend:Option aZ}(hg:get st.hs.heap id=some (.loop snap ps as bd busy pend)) :
  ∃ b rc,g.obj id=some b∧w.heap[b]?=some (.loop rc)∧rc.state=(if busy then .busy else if pend.isNone then .ready else .done)∧rc.pending=pend.bind iS∧rc.params=ps.toArray∧
   Mt P rc.tmps.size as rc.assign∧Mt P rc.tmps.size bd rc.body∧bg snap∧fW g w snap rc.tmps zero∧(∀ p∈ps,p<rc.tmps.size)∧
   ∀ (busy':Bool) (pend':Option aZ) (rc':Go.Loop),rc'={ rc with state:=(if busy' then .busy else if pend'.isNone then .ready else .done),pending:=pend'.bind iS }→
    ∃ O',dJ P g w t O ⟨st.env,⟨put st.hs.heap id (.loop snap ps as bd busy' pend'),st.hs.next⟩⟩ t (Vm.setBlk w b (.loop rc')) g O':=by
 obtain⟨O1,Oz,q,hsum,hst⟩:=s.storeG hg;obtain⟨b,rc,h1,h2,h3,h4,h5,h6,h7,h8,h9,h10,h11⟩:=q;refine⟨b,rc,h1,h2,h3,h4,h5,h6,h7,h8,h9,h10,fun busy' pend' rc' e=>?_⟩;have hx:aI g w g (Vm.setBlk w b (.loop rc')) fun x=>x=b:=aI.loopBlk h2
 have hO1:O1 b=1:=by simp_all
 refine⟨_,hst (Vm.setBlk w b (.loop rc')) b (.loop snap ps as bd busy' pend') O1 (by omega) hx ?_ (fun x=>by have:=hsum x;have:=s.le x;omega) (fun x hx0=>?_),hx.mono (fun x _ e=>by grind),fun x _=>hsum x,rfl⟩
 ·subst e;exact⟨b,_,h1,cm (fq h2),rfl,rfl,h5,h6,h7,h8,fW.ext hx h9 (by simp),h10,h11⟩
 grind [oR,Fi]
end
section
variable {P:Program}{g:Gh}{w:World}{t:Array Value}{O:Nat→Nat}{st st':St}{a:AV}{o:Oper}{r:bD}
theorem YS:∀ {ps:List Nat}{vs:List AV}{e e':ar}{hs:HS}{t:Array Value}{O:Nat→Nat},oJ e ps vs=some e'→S P g w ⟨e,hs⟩ t O→∀ {xs:List Value}{Ov:Nat→Nat},RVs g w vs xs Ov→
  (∀ p∈ps,p<t.size)→(∀ b,Ov b+O b≤1)→(∀ b,Ov b≠0→b<w.heap.size)→
  ∃ O',S P g w ⟨e',hs⟩ ((ps.zip xs).foldl (fun(t:Array Value) (q:Nat×Value)=>t.setIfInBounds q.1 q.2) t) O'∧(∀ b,O' b≤Ov b+O b)∧xs.length=ps.length∧
   ((ps.zip xs).foldl (fun(t:Array Value) (q:Nat×Value)=>t.setIfInBounds q.1 q.2) t).size=t.size
 | [],[],e,e',hs,t,O,h,s,xs,Ov,rv,hp,hle,hhi=>by
  simp only[oJ,Option.some.injEq]at h;obtain⟨rfl,_⟩:=rv;exact⟨O,by simp_all,fun b=>by omega,rfl,rfl⟩
 | p::ps,v::vs,e,e',hs,t,O,h,s,xs,Ov,rv,hp,hle,hhi=>by
  simp only[oJ]at h;obtain⟨x,ys,O1,O2,rfl,r1,r2,hs2⟩:=rv;obtain⟨O3,s3,l3⟩:=s.setTmp (hp p (.head _)) r1 (fun b=>by grind) (fun b hb=>hhi b (by simp_all));obtain⟨O4,s4,l4,hl,hsz⟩:=YS h s3 r2 (fun q hq=>by simp_all) (fun b=>by grind) (fun b hb=>hhi b (by simp_all));exact⟨O4,by simp_all,fun b=>by grind,by simp[hl],by simp_all⟩
 | [],_::_,_,_,_,_,_,h,_,_,_,_,_,_,_=>by simp[oJ]at h
 | _::_,[],_,_,_,_,_,h,_,_,_,_,_,_,_=>by simp[oJ]at h
theorem qq {b:Nat}{rc:Go.Loop}(h:w.heap[b]?=some (.loop rc)):(Instr.getLoop b).run P w=.ok rc w:=by
 simp_all [Instr.getLoop,getObj,Sem.run]
theorem EY {b:Nat}{rc rc':Go.Loop}(h:w.heap[b]?=some (.loop rc)):(setObj b (.loop rc')).run P w=.ok () (setBlk w b (.loop rc')):=by
 grind [setObj,Sem.run,setBlk]
theorem arE (hc:eK P r) {l:Nat}{args:List AV}{hs hs':HS}{v:AV}(h:nf r l args hs=some (v,hs')) {xs:List Value}{Oa Oh:Nat→Nat}(rvs:RVs g w args xs Oa)
  (sh:S P g w ⟨[],hs⟩ #[] Oh) (hle:∀ b,Oa b+Oh b≤1) (hhi:∀ b,Oa b≠0→b<w.heap.size) (ro:Option Nat) :
  ∃ b,∃ rc:Go.Loop,∃ tm,g.obj l=some b∧(Instr.yield b xs.toArray).run P w=.ok (.round b rc.fn tm rc.assign rc.body) w∧
   RoundIn (FR ro) 0 P b rc.fn tm rc.assign rc.body w (dK P g w (fun b=>Oa b+Oh b) v hs'):=by
 unfold nf at h;split at h
 ·rename_i snap ps as bd hg;split at h
  ·simp at h
  ·rename_i e hput;split at h
   ·rename_i st1 hass;split at h
    ·rename_i snap1 ps1 as1 bd1 hg1;split at h
     ·simp at h
     ·rename_i o st2 hbd;split at h
      ·rename_i snap2 ps2 as2 bd2 hg2;obtain⟨b,rc,h1,h2,h3,h4,h5,h6,h7,h8,h9,h10,_⟩:=sh.setLoop (st:=⟨[],hs⟩) hg;have s0:S P g w ⟨snap,hs⟩ rc.tmps fun b=>zero b+Oh b:=S.join h8 h9 sh (fun b=>by grind) (fun b hb=>by simp at hb)
       obtain⟨O1,s1,l1,hlen,hsz⟩:=YS hput s0 rvs h10 (fun b=>by simp_all) hhi;refine⟨b,rc,_,h1,?_,roundIn_of_wpIn (F:=FR ro) (tmps:=(ps.zip xs).foldl (fun(t:Array Value) (q:Nat×Value)=>t.setIfInBounds q.1 q.2) rc.tmps) trivial ?_⟩
       ·simp_all [Instr.yield,qq]
       ·refine wpIn_mono (hc hass h6 hsz s1 (some b) [] (fun l hl=>by simp_all)) fun en a1 w1 hp=>?_
        obtain⟨rfl,g1,O1',ms,G1,hd1,_,hms⟩:=hp;have hms:=hms rfl;subst hms;obtain⟨t1,d1⟩:=a1;subst hd1;obtain⟨b1,rc1,k1,k2,k3,k4,k5,k6,k7,k8,k9,k10,kset⟩:=G1.st.setLoop hg1;have hb1:b1=b:=by have:=(G1.ext.obj l b h1).1;simp_all
        subst hb1;obtain⟨O2,G2⟩:=kset true none { rc1 with state:=.busy } (by simp[k4]);refine⟨setBlk w1 b1 (.loop { rc1 with state:=.busy }),?_,?_⟩
        ·simp_all [Instr.beginRound,qq,EY]
        ·have hsz1:t1.size=rc.tmps.size:=by rw[G1.size,hsz]
         refine wpIn_mono (hc hbd h7 hsz1 G2.st (some b1) [] (fun l hl=>by grind [cm])) fun en2 a2 w3 hp2=>?_
         obtain⟨rfl,g2,O3,ms2,G3,_,_,_⟩:=hp2;obtain⟨b2,rc2,m1,m2,m3,m4,m5,m6,m7,m8,m9,m10,mset⟩:=G3.st.setLoop hg2;have hb2:b2=b1:=by have:=(G3.ext.obj l b1 k1).1;simp_all
         subst hb2;have fin:∀ (pend:Option aZ),(v,hs')=(.bool pend.isNone,⟨put st2.hs.heap l (.loop snap2 ps2 as2 bd2 false pend),st2.hs.next⟩)→pend.bind iS=iS o→(pend.bind iS).isNone=pend.isNone→
           ∃ (vv:Value) (w':World),(Instr.endRound b2 (iS o)).run P w3=.ok vv w'∧dK P g w (fun b=>Oa b+Oh b) v hs' (.returned vv) w':=by
          intro pend hv hpo hpn;obtain⟨rfl,rfl⟩:=hv;obtain⟨O4,G4⟩:=mset false pend { rc2 with state:=(if (iS o).isNone then .ready else .done),pending:=iS o } (by simp_all);refine⟨.bool (iS o).isNone,setBlk w3 b2 (.loop { rc2 with state:=(if (iS o).isNone then .ready else .done),pending:=iS o }),?_,?_⟩
          ·simp_all [Instr.endRound,qq,EY]
          ·have G:=((G1.trans G2).trans G3).trans G4;obtain⟨Oe4,Oh4,re4,sh4,ho4⟩:=G.st.split;refine⟨g2,zero,Oh4,?_,sh4,G.ext.mono (fun b _ hb=>by grind),fun b=>by have:=G.st.le b;grind,fun b hb=>?_,fun b hb=>by simp at hb⟩
           all_goals grind [AZ,dJ.old]
         cases o with
         | normal =>
          simp only[Option.some.injEq]at h;exact fin none h.symm rfl rfl
         | exit i =>
          simp only[Option.some.injEq]at h;exact fin (some (.exit i)) h.symm rfl rfl
         | goto i =>
          simp only[Option.some.injEq]at h;exact fin (some (.goto i)) h.symm rfl rfl
         | ret =>
          simp only[Option.some.injEq]at h;exact fin (some .ret) h.symm rfl rfl
      simp_all
    simp_all
   simp_all
 simp_all
end
section
variable {P:Program}{g:Gh}{w:World}{t:Array Value}{O:Nat→Nat}{st st':St}{a:AV}{o:Oper}{r:bD}
theorem asB {ro:Option Nat}{f:Rd}{args:List Rd}(hr:ep P r) (hcs:eK P r) (s:S P g w st t O) (h:xc r f args st=some (a,st')) (hc:aB P (.callv f args) o.op=true) :
  OpW ro P g w t O st' a o:=by
 obtain⟨dst,op,ty,pos,aft,gd⟩:=o;simp only[aB]at hc;split at hc
 ·rename_i c;simp only[Bool.and_eq_true]at hc;obtain⟨h1,h2⟩:=hc;obtain⟨callee,as,ats⟩:=c;simp only at h1 h2;split at h1
  ·rename_i fx;unfold xc at h;split at h
   ·rename_i fv e1 hf;split at h
    ·rename_i vs e hrd;split at h
     ·rename_i v hs' hcall;obtain⟨rfl,rfl⟩:=h;obtain⟨Of,O1,rf,s1,l1⟩:=s.rd h1 hf;obtain⟨Ov,O',rvs,s',l⟩:=s1.rdAll (st:=⟨e1,st.hs⟩) h2 hrd;obtain⟨Oe,Oh,re,sh,ho⟩:=s'.split;have hle:∀ b,Ov b+(Oe b+Oh b)≤O b:=fun b=>by grind
      have hle1:∀ b,Ov b+Oh b≤1:=fun b=>by have:=hle b;have:=s.le b;omega
      have hhi:∀ b,Ov b≠0→b<w.heap.size:=fun b hb=>s.hi b (by grind)
      unfold bf at hcall;split at hcall
      ·rename_i gf first caps
       obtain⟨hfn,hk⟩:=hr hcall;obtain⟨⟨xs,ys,hev,r1,r2⟩,_⟩:=rf;have hrv:RVs g w (first++(vs++caps)) (xs.toList++(as.toList.map (ev t)++ys.toList)) (fun b=>zero b+(Ov b+zero b)):=r1.join (rvs.join r2);have hO:(fun b=>zero b+(Ov b+zero b))=Ov:=by simp_all
       rw[hO]at hrv;have hk:=hk hrv sh hle1 hhi;refine QZ (hs:=st.hs) s'.se re hle s ?_ hk
       simp_all [execOp,resolve,Deferred.ofValue,invoke,oV]
      ·obtain⟨⟨b0,hb0,hev⟩,_⟩:=rf;obtain⟨b,rc,tm,hb,hy,hround⟩:=arE hcs hcall rvs sh hle1 hhi ro;rw[hb0]at hb;simp only[Option.some.injEq]at hb;subst hb;intro ds next Q hn
       have hrun:(execOp (ev t) ⟨dst,.call ⟨.value fx,as,ats⟩,ty,pos,aft,gd⟩).run P w=.ok (.round b0 rc.fn tm rc.assign rc.body) w:=by
        simp only[execOp,resolve,Sem.run_bind,hev,Deferred.ofValue,Sem.run_pure,Result.andThen_ok,invoke];rw[←hy]
        congr 2
        grind
       rw[hrun,Oper.uponIn_round];refine⟨fun h=>by grind [Fence.wide],hround.mono fun en w' hp=>?_⟩
       cases en with
       | returned x =>
        obtain⟨g',Oa,O',k⟩:=Au (hs:=st.hs) s'.se re hle s hp
        grind
       | panicked c=>exact hp.elim
       | outgrown=>exact hp.elim
      simp_all
     simp_all
    simp_all
   simp_all
  simp_all
 simp_all
theorem ajs {t:Array Value}:∀ {e:ar}{O:Nat→Nat},fW g w e t O→fW g w (e.map fun kv=>(kv.1,share kv.2)) t zero
 | [],_,_=>fun _=>rfl
 | (k,v)::e,O,r=>by
  obtain⟨O1,O2,⟨q1,q2⟩,rr,_⟩:=r;exact⟨zero,zero,⟨q1,RV.share _ _ _ q2⟩,ajs rr,fun _=>rfl⟩
theorem atr {e:ar}(h:bg e):bg (e.map fun kv=>(kv.1,share kv.2)):=by
 grind [bg]
theorem af6 {ro:Option Nat}(hro:xj w ro) (fn:FuncId) (ps:Array Nat) (as bd:Code) :
  ∃ (w1:World) (mark:List Deferred) (rc:Go.Loop),(Instr.enterLoop fn t ps as bd ro).run P w=.ok (w1.heap.size,mark) (w1.alloc (.loop rc))∧
   rc.state=.ready∧rc.pending=none∧rc.params=ps∧rc.assign=as∧rc.body=bd∧rc.tmps=t∧
   ((∃ l,ro=some l∧w1=w∧mark=[])∨(ro=none∧w1=w.alloc (.deferred (some []))∧mark=[{ target:=.collected w.heap.size,args:=#[] }])):=by
 cases ro with
 | some l =>
  obtain⟨rc0,h0⟩:=hro l rfl;refine⟨w,[],{ state:=.ready,pending:=none,fn,tmps:=t,params:=ps,assign:=as,body:=bd,defers:=rc0.defers },?_,rfl,rfl,rfl,rfl,rfl,rfl,.inl ⟨l,rfl,rfl,rfl⟩⟩
  simp_all [Instr.enterLoop,qq]
 | none =>
  refine⟨w.alloc (.deferred (some [])),_,{ state:=.ready,pending:=none,fn,tmps:=t,params:=ps,assign:=as,body:=bd,defers:=w.heap.size },?_,rfl,rfl,rfl,rfl,rfl,rfl,.inr ⟨rfl,rfl,rfl⟩⟩;simp[Instr.enterLoop]
end
section
variable {P:Program}{g:Gh}{w:World}{t:Array Value}{O:Nat→Nat}{st st':St}{a:AV}{o:aZ}{r:bD}
theorem S.otherG {w':World}{b:Nat}(s:S P g w st t O) (hx:aI g w g w' fun x=>x=b) (hO:O b=0):S P g w' st t O:=by
 obtain⟨Oe,Oh,re,rh,ho⟩:=s.parts;have re':=fW.ext hx re (fun y hy e=>by simp_all);have rh':uX P g w' st.hs.heap Oh:=rh.imp' fun k v Q _ hQ q=>q.ext0 hx (fun y hy e=>by grind)
 exact⟨s.se,s.sh,⟨Oe,Oh,re',rh',ho⟩,s.le,fun b hb=>Nat.lt_of_lt_of_le (s.hi b hb) hx.size,s.fresh,fun b o h=>Nat.lt_of_lt_of_le (s.pmlt b o h) hx.size⟩
theorem S.endLoop {e:ar}{hs:HS}(s:S P g w ⟨e,hs⟩ t O) {id:Nat}{snap:ar}{ps:List Nat}{as bd:VC}{pend:Option aZ}(hg:get hs.heap id=some (.loop snap ps as bd false pend)) {b:Nat}(hob:g.obj id=some b) :
  ∃ w' O',(Instr.endLoop b).run P w=.ok (pend.bind iS) w'∧S P g w' ⟨e,⟨del hs.heap id,hs.next⟩⟩ t O'∧aI g w g w' (fun x=>x=b)∧∀ x,O' x≤O x:=by
 obtain⟨Oe,Oh,re,rh,ho⟩:=s.parts;obtain⟨O1,O2,q,r2,hs2⟩:=RL.take rh hg;obtain⟨b',rc,h1,h2,h3,h4,h5,h6,h7,h8,h9,h10,h11⟩:=q;rw[hob]at h1;simp only[Option.some.injEq]at h1;subst h1;have hle2:∀ x,Oe x+O2 x≤O x:=fun x=>by grind
 have s2:S P g w ⟨e,⟨del hs.heap id,hs.next⟩⟩ t (fun x=>Oe x+O2 x) :=
  ⟨s.se,s.sh.del id,⟨Oe,O2,re,r2,fun _=>rfl⟩,fun x=>Nat.le_trans (hle2 x) (s.le x),fun x hx=>s.hi x (by grind),s.fresh,s.pmlt⟩
 have hx:aI g w g (setBlk w b (.loop { rc with state:=.exhausted })) fun x=>x=b:=aI.loopBlk h2
 refine⟨setBlk w b (.loop { rc with state:=.exhausted }),_,?_,s2.otherG hx ?_,hx,hle2⟩
 ·have hb:(rc.state == LoopState.busy)=false:=by
   grind
  simp_all [Instr.endLoop,qq,EY]
 ·have:=h11 b;rw[sD]at this;have:=hs2 b;have:=ho b;have:=s.le b;omega
theorem aly (hr:ep P r) {f:Rd}{x:Operand}{ps:List Nat}{as bd:VC}{c d:Code}(h:wJ r f ps as bd st=some (o,st')) (hf:bb f x=true)
  (hps:∀ p∈ps,p<t.size) (ha:Mt P t.size as c) (hb:Mt P t.size bd d) (s:S P g w st t O) (ro:Option Nat) (ds:List Deferred) (hro:xj w ro) :
  (Code.rangeFunc x ps.toArray c d).wpIn (FR ro) 0 P (aX P g w t O ds ro o st') ⟨t,ds⟩ w:=by
 unfold wJ at h;split at h
 ·rename_i gf first caps e hrd
  split at h
  ·rename_i v hs hcall;split at h
   ·rename_i snap2 ps2 as2 bd2 pend hget;obtain⟨Of,O1,rf,s1,l1⟩:=s.rd hf hrd;simp only[RV]at rf;obtain⟨⟨xs,ys,hev,r1,r2⟩,_⟩:=rf;have l1':∀ b,O1 b≤O b:=fun b=>by simp_all
    refine wpIn_rangeFunc fun fn hF=>?_
    obtain⟨w1,mark,rc,hen,e1,e2,e3,e4,e5,e6,hmark⟩:=af6 (P:=P) (t:=t) hro fn ps.toArray c d;have hx1:aI g w g w1 fun _=>False:=by
     rcases hmark with ⟨_,_,rfl,_⟩ | ⟨_,rfl,_⟩
     ·exact .refl _ _ _
     ·exact aI.alloc s.pmlt _ _
    have sw1:S P g w1 ⟨e,st.hs⟩ t O1:=s1.extF hx1 rfl fun b o h=>Nat.lt_of_lt_of_le (s.pmlt b o h) hx1.size
    have hfresh:=sw1.fresh st.hs.next (Nat.le_refl _)
    have hx0:aI g w1 (g.add st.hs.next w1.heap.size 0 0 0) (w1.alloc (.loop rc)) fun _=>False:=(aI.alloc sw1.pmlt _ _).add hfresh _ _ _ _
    obtain⟨Oe1,Oh1,re1,rh1,ho1⟩:=sw1.parts;have hobj:(g.add st.hs.next w1.heap.size 0 0 0).obj st.hs.next=some w1.heap.size:=by simp[Gh.add]
    have hO1out:O1 w1.heap.size=0:=sw1.out (Nat.le_refl _);have hnew:=sw1.new (blk:=.loop rc) (o:=.loop (e.map fun kv=>(kv.1,share kv.2)) ps as bd false none) (base:=0) (esz:=0) (bsz:=0) (O1:=one w1.heap.size) (by
     simp only[fO];refine⟨w1.heap.size,rc,hobj,fC _ _,e1,e2,e3,by simp_all,by simp_all,atr sw1.se,?_,by simp_all,fun _=>rfl⟩;rw[e6];exact fW.ext hx0 (ajs re1) (by simp)) (fun b=>by
      by_cases hb:b=w1.heap.size
      ·simp_all
      ·have:=sw1.le b;grind [one]) (fun b hb=>by grind [oR])
    obtain⟨s2,hx2⟩:=hnew;obtain⟨Oe,Oh,re,sh,ho⟩:=s2.split;obtain⟨hfn,hk⟩:=hr hcall;have hxa:=hx1.trans hx0 fun _ _ h=>h
    have r1':=RVs.ext hxa _ _ _ r1 (by simp);have r2':=RVs.ext hxa _ _ _ r2 (by simp);have ry:RVs (g.add st.hs.next w1.heap.size 0 0 0) (w1.alloc (.loop rc)) [.yield st.hs.next] [.func (.yield w1.heap.size) #[] #[]] zero:=by
     simp only[RVs,RV];exact⟨_,[],zero,zero,rfl,⟨⟨w1.heap.size,hobj,rfl⟩,fun _=>rfl⟩,⟨rfl,fun _=>rfl⟩,fun _=>rfl⟩
    have hrv:RVs (g.add st.hs.next w1.heap.size 0 0 0) (w1.alloc (.loop rc)) (first++([.yield st.hs.next]++caps)) (xs.toList++([.func (.yield w1.heap.size) #[] #[]]++ys.toList)) zero:=by
     have:=r1'.join (ry.join r2');omega
    have hle:∀ b,zero b+Oh b≤1:=fun b=>by have:=s2.le b;grind
    have hk:=hk hrv sh hle (fun b hb=>by simp at hb);generalize hargs:(xs.toList++([Value.func (.yield w1.heap.size) #[] #[]]++ys.toList)).toArray=args at hk;refine⟨w1.heap.size,mark,w1.alloc (.loop rc),{ target:=.fn (.func gf) ys,args:=xs++#[.func (.yield w1.heap.size) #[] #[]] },w1.alloc (.loop rc),gf,
     args,w1.alloc (.loop rc),hen,?_,fun _ _=>trivial,?_,fun h=>by grind [Fence.wide],Jk (hk.mono fun en w3 hp=>?_)⟩
    ·have hevx:(⟨t,ds⟩:Act).eval x=.func (.func gf) xs ys:=by simp_all [AW]
     have hconst:∀ u:Value,(⟨t,ds⟩:Act).eval (.const u)=u:=fun _=>rfl
     simp_all [resolve,Deferred.ofValue]
    ·simp only[invoke];rw[oV hfn,←hargs]
     congr 2
     grind
    ·cases en with
     | panicked _=>exact hp.elim
     | outgrown=>exact hp.elim
     | returned y =>
      obtain⟨g2,Oa,O3,k⟩:=Au (hs:=hs) (Ov:=zero) s2.se re (fun b=>by simp_all) s2 hp;have hob2:g2.obj st.hs.next=some w1.heap.size:=(k.ext.obj _ _ hobj).1
      obtain⟨w4,O4,hend,s4,hx4,l4⟩:=k.st.endLoop hget hob2;have hlo:w.heap.size≤w1.heap.size:=hx1.size;have G:dJ P g w t O ⟨e,⟨del hs.heap st.hs.next,hs.next⟩⟩ t w4 g2 O4:=by
       refine⟨s4,(((hxa.mono (T:=fun b=>O b≠0) fun _ _ h=>h.elim).trans k.ext fun b hb hq=>?_).trans hx4 fun b hb hq=>?_),fun b hb=>?_,rfl⟩
       ·grind [one]
       ·omega
       ·have hb2:b<(w1.alloc (.loop rc)).heap.size:=Nat.lt_of_lt_of_le hb hxa.size
        grind [one,ux.old]
      have hM:fJ w4 O4 w.heap.size mark∧(ro.isSome=true→mark=[]):=by
       rcases hmark with ⟨_,hl,_,rfl⟩ | ⟨hn,rfl,rfl⟩
       ·exact⟨trivial,fun _=>rfl⟩
       ·refine⟨⟨⟨w.heap.size,rfl,Nat.le_refl _,?_,?_,fun d hd=>by simp at hd⟩,trivial⟩,fun h=>by simp_all⟩
        ·have hne:w.heap.size≠(w.alloc (.deferred (some []))).heap.size:=by simp
         have hlt:w.heap.size<((w.alloc (.deferred (some []))).alloc (.loop rc)).heap.size:=by simp;omega
         have hO1z:O1 w.heap.size=0:=s1.out (Nat.le_refl _);have hoz:one (w.alloc (.deferred (some []))).heap.size w.heap.size=0:=by simp[one]
         rw[(hx4.blk _ (Nat.lt_of_lt_of_le hlt k.ext.size) (fun h=>hne h)).1,(k.ext.blk _ hlt (fun h=>by
          omega)).1,lL (by simp),fC]
        ·have hlt:w.heap.size<((w.alloc (.deferred (some []))).alloc (.loop rc)).heap.size:=by simp;omega
         have hO1z:O1 w.heap.size=0:=s1.out (Nat.le_refl _);have hoz:one (w.alloc (.deferred (some []))).heap.size w.heap.size=0:=by simp[one]
         grind [ux.old]
      have post:∀ out st'',st''=⟨e,⟨del hs.heap st.hs.next,hs.next⟩⟩→aX P g w t O ds ro out st'' (xU out) { tmps:=t,defers:=mark++ds } w4:=by
       rintro out _ rfl
       exact⟨rfl,g2,O4,mark,G,rfl,hM.1,hM.2⟩
      refine⟨pend.bind iS,w4,hend,?_⟩
      cases pend with
      | none =>
       obtain⟨rfl,rfl⟩:=h;exact post .normal _ rfl
      | some out =>
       simp only[Option.some.injEq,Prod.mk.injEq]at h;obtain⟨rfl,rfl⟩:=h
       cases out with
       | normal=>exact post .normal _ rfl
       | exit i=>exact wpIn_exit (post (.exit i) _ rfl)
       | goto i=>exact wpIn_goto (post (.goto i) _ rfl)
       | ret=>exact wpIn_ret (post .ret _ rfl)
   simp_all
  simp_all
 simp_all
end
section
variable {P:Program}{g:Gh}{w:World}{t:Array Value}{O:Nat→Nat}{st st':St}{a:AV}{o:Oper}{r:bD}
theorem ayz {ro:Option Nat}(hr:ep P r) (hcs:eK P r) {v:j6}(s:S P g w st t O) (h:bt v r st=some (a,st')) (hc:aB P v o.op=true):OpW ro P g w t O st' a o:=by
 cases v with
 | mov x=>exact(azb s h hc).opW
 | pick c x y=>exact(avV s h hc).opW
 | alloc zs=>exact(asE s h hc).opW
 | box x=>exact(axU s h hc).opW
 | build zs ps=>exact(auf s h hc).opW
 | mks m ps=>exact(axE s h hc).opW
 | mksv m ps=>exact(avR s h hc).opW
 | ld n k p=>exact(az2 s h hc).opW
 | st n p x=>exact(aAf s h hc).opW
 | nilck x=>exact(at3 s h hc).opW
 | bin op x y=>exact(axA s h hc).opW
 | binb neg x y=>exact(avo s h hc).opW
 | bina neg ks x y=>exact(awn s h hc).opW
 | un op x=>exact(aA9 s h hc).opW
 | conv k x=>exact(awx s h hc).opW
 | toStr x=>exact(atF s h hc).opW
 | mkfn f a c=>exact(axo s h hc).opW
 | mkslice z l c=>exact(VQ s h hc).opW
 | slice m x lo hi mx=>exact(asK s h hc).opW
 | slarr n x lo hi mx=>exact(asO s h hc).opW
 | fa off p=>exact(aAX s h hc).opW
 | fld off n x=>exact(aza s h hc).opW
 | ia n x i=>exact(aAc s h hc).opW
 | iarr l n p i=>exact(avi s h hc).opW
 | ix l n ag x i=>exact(aAm s h hc).opW
 | ixs x i=>exact(ayV s h hc).opW
 | idxb x c=>exact(avj s h hc).opW
 | ext j mv i=>exact(axJ s h hc).opW
 | len x=>exact(ay4 s h hc).opW
 | cap x=>exact(ayJ s h hc).opW
 | app m x y=>exact(ax0 s h hc).opW
 | appz z x n=>exact(aw5 s h hc).opW
 | cpy m x y=>exact(ayG s h hc).opW
 | clr z x=>exact(ayE s h hc).opW
 | minmax b xs=>exact(arK s h hc).opW
 | call f args=>exact avB hr s h hc
 | calli f args=>exact aua hr s h hc
 | callv f args=>exact asB hr hcs s h hc
 | bad=>grind [bt,aoY]
 | kill is=>simp[aB]at hc
 | free i=>simp[aB]at hc
 | wk i m=>simp[aB]at hc
 | frz i=>simp[aB]at hc
 | frzC i offs=>simp[aB]at hc
theorem Js {v:j6}{op:Op}(hb:v≠.bad) (h:aB P v op=true):∀ c,op≠.defer c:=by
 rintro c rfl
 cases v<;>first | exact hb rfl | (simp[aB]at h)
theorem Nz {i:VI}{st2:St}(h:dl r i st=some st2):∃ v st1,bt i.op r st=some (v,st1)∧st2=bc i.dst (firm (bO i.th v st1.hs).1) ⟨st1.env,(bO i.th v st1.hs).2⟩:=by
 unfold dl at h;split at h
 ·rename_i v st1 hv;split at h
  ·rename_i hth;simp only[Option.some.injEq]at h;exact⟨v,st1,hv,by rw[hth];exact h.symm⟩
  grind
 simp_all
theorem ajN (t:Array Value) (dst:Option Nat) (x:Value):∀ k,dst≠some k→(oD t dst x)[k]?=t[k]?:=by
 intro k hk
 cases dst<;>grind [Act.put]
theorem am3 {ro:Option Nat}(hr:ep P r) (hcs:eK P r) {n:Nat}{ops:Array Oper}{i:VI}{st2:St}(hn:t.size=n) (s:S P g w st t O) (h:bm r i st=some st2) (hc:uE P n ops i o=true)
  (ds:List Deferred) (next:Act→World→Prop) (Q:Exit→Act→World→Prop) (hk:∀ t' w' g' O',dJ P g w t O st2 t' w' g' O'→(∀ k,i.dst≠some k→t'[k]?=t[k]?)→next ⟨t',ds⟩ w') :
  if Region.wanted o (yielded ops t) then o.wpIn (FR ro) 0 P ⟨t,ds⟩ w next Q else (∀ f,o.about P w (⟨t,ds⟩:Act).eval=some f→(FR ro).fn f)∧next (Act.put ⟨t,ds⟩ o.dst undef) w:=by
 simp only[uE,Bool.and_eq_true]at hc;obtain⟨⟨hdst,hgd⟩,hop⟩:=hc;have hd:i.dst=o.dst∧∀ d,i.dst=some d→d<t.size:=by
  grind [Nat.beq_eq,Nat.blt_eq]
 have go:dl r i st=some st2→o.wpIn (FR ro) 0 P ⟨t,ds⟩ w next Q:=by
  intro hg;obtain⟨v,st1,hv,rfl⟩:=Nz hg;have hb:i.op≠.bad:=by intro e;simp_all [bt,aoY]
  refine⟨fun _ _=>trivial,?_⟩;rw[HZ _ _ (Js hb hop)];refine ayz (ro:=ro) hr hcs s hv hop ds next Q fun x w' g' Oa O' k=>?_
  obtain⟨g2,O2,G⟩:=aiU k hd.2 i.th
  grind [Wq,ajN]
 have no:st2=bc i.dst (.tup []) st→(∀ f,o.about P w (⟨t,ds⟩:Act).eval=some f→(FR ro).fn f)∧next (Act.put ⟨t,ds⟩ o.dst undef) w:=by
  rintro rfl
  refine⟨fun _ _=>trivial,?_⟩;have ha:ux P g w t O st (.tup []) undef w g zero O:=⟨by grind [RV,RVs,undef],s,.refl _ _ _,fun b=>by have:=s.le b;simp_all,fun b _=>by simp,fun b hb=>by simp at hb⟩
  obtain⟨g2,O2,G⟩:=aiU ha hd.2 [];rw[Wq,←hd.1];exact hk _ _ _ _ G (ajN _ _ _)
 grind [arL,bm]
theorem arw {ro:Option Nat}(hr:ep P r) (hcs:eK P r) {n:Nat}{ops:Array Oper}{i:VI}{st2:St}(hn:t.size=n) (s:S P g w st t O) (h:bm r i st=some st2) (hc:uE P n ops i o=true)
  (ds:List Deferred) (next:Act→World→Prop) (Q:Exit→Act→World→Prop) (hk:∀ t' w' g' O',dJ P g w t O st2 t' w' g' O'→next ⟨t',ds⟩ w') :
  if Region.wanted o (yielded ops t) then o.wpIn (FR ro) 0 P ⟨t,ds⟩ w next Q else (∀ f,o.about P w (⟨t,ds⟩:Act).eval=some f→(FR ro).fn f)∧next (Act.put ⟨t,ds⟩ o.dst undef) w:=am3 hr hcs hn s h hc ds next Q fun t' w' g' O' G _=>hk t' w' g' O' G
theorem afp {i:VI}{st2:St}(s:S P g w st t O) (hg:G9 i=true) (h:bm r i st=some st2):∃ g' O',dJ P g w t O st2 t w g' O':=by
 simp only[G9,Bool.and_eq_true]at hg;obtain⟨⟨⟨h1,h2⟩,h3⟩,h4⟩:=hg;have hd:i.dst=none:=Option.isNone_iff_eq_none.1 h1;have hgd:i.guard=none:=Option.isNone_iff_eq_none.1 h2;have hth:i.th=[]:=by simp_all
 unfold bm at h;rw[hgd]at h;obtain⟨v,st1,hv,rfl⟩:=Nz h;rw[hd,hth];have fin:GQ P g w t O st1→∃ g' O',dJ P g w t O (bc none (firm (bO [] v st1.hs).1) ⟨st1.env,(bO [] v st1.hs).2⟩) t w g' O':=by
  rintro ⟨g',O',s',hx,hle⟩
  exact⟨g',O',s',hx,fun b _=>hle b,rfl⟩
 split at h4
 ·rename_i is e;rw[e]at hv;exact fin (awY s hv)
 ·rename_i j e;rw[e]at hv;exact fin (awW s hv)
 ·rename_i j m e;rw[e]at hv;exact fin (az7 s hv)
 ·rename_i j e;rw[e]at hv;exact fin (ayp s hv)
 ·rename_i j offs e;rw[e]at hv;exact fin (avc s hv)
 simp_all
theorem aaT {ro:Option Nat}(hr:ep P r) (hcs:eK P r) {n:Nat}{ops:Array Oper}{Q:Exit→Act→World→Prop}(ds:List Deferred) :
  ∀ {l:List VI}{os:List Oper}{k:Nat},ops.toList.drop k=os→By P n ops l os=true→∀ {g:Gh}{w:World}{t:Array Value}{O:Nat→Nat}{st st':St},t.size=n→S P g w st t O→gB r l st=some st'→
   (∀ w' t' g' O',dJ P g w t O st' t' w' g' O'→Q .normal ⟨t',ds⟩ w')→wpOpsIn (FR ro) 0 P ops Q (List.range' k os.length) ⟨t,ds⟩ w
 | [],os,k,hos,hc,g,w,t,O,st,st',hn,s,h,hq=>by
  cases os with
  | nil =>
   simp only[gB,Option.some.injEq]at h;subst h;exact hq _ _ _ _ (dJ.refl s)
  | cons o os=>simp[By]at hc
 | v::l,os,k,hos,hc,g,w,t,O,st,st',hn,s,h,hq=>by
  simp only[gB]at h;split at h
  ·rename_i st1 hv;simp only[By]at hc;split at hc
   ·rename_i hgh;obtain⟨g1,O1,G⟩:=afp s hgh hv;exact aaT hr hcs ds hos hc (by omega) G.st h fun w' t' g' O' G2=>hq _ _ _ _ (G.trans G2)
   ·cases os with
    | nil=>simp at hc
    | cons o os =>
     simp only[Bool.and_eq_true]at hc;obtain⟨hvi,hrest⟩:=hc;have hk:ops[k]?=some o:=by
      have:=congrArg (fun l=>l[0]?) hos
      grind
     have hos':ops.toList.drop (k+1)=os:=by
      have:=congrArg (fun l=>l.drop 1) hos
      grind [List.drop_drop]
     have key:=arw (ro:=ro) hr hcs hn s hv hvi ds (wpOpsIn (FR ro) 0 P ops Q (List.range' (k+1) os.length)) Q fun t' w' g' O' G =>
      aaT hr hcs ds hos' hrest (by rw[G.size,hn]) G.st h fun w2 t2 g2 O2 G2=>hq _ _ _ _ (G.trans G2)
     grind [List.range'_succ,wpOpsIn]
  simp_all
end
def fK:Obj→Obj→Prop
 | .cells a,.cells b=>shareAll a=shareAll b
 | o,o'=>o=o'
def bB (h h':ac):Prop:=∀ id o,get h id=some o→∃ o',get h' id=some o'∧fK o o'
theorem fK.refl (o:Obj):fK o o:=by cases o<;>simp[fK]
theorem bB.refl (h:ac):bB h h:=fun _ o ho=>⟨o,ho,.refl o⟩
theorem bB.arr {h h':ac}(H:bB h h') {id m:Nat}{xs:List (List D)}(g:get h id=some (.arr m xs)):get h' id=some (.arr m xs):=by
 obtain⟨o,h1,h2⟩:=H id _ g
 grind [fK]
theorem bB.cells {h h':ac}(H:bB h h') {id:Nat}{cs:List AV}(g:get h id=some (.cells cs)):∃ cs',get h' id=some (.cells cs')∧shareAll cs=shareAll cs':=by
 obtain⟨o,h1,h2⟩:=H id _ g
 cases o<;>simp[fK]at h2
 simp_all
def cx (f:St→Option (AV×St)) (R M:List Nat):Prop :=
 ∀ e hs v st1,f ⟨e,hs⟩=some (v,st1)→st1.hs=hs∧(bg e→bg st1.env)∧(∀ k,k∉M→get st1.env k=get e k)∧
  ∀ e' hs',(∀ k∈R,get e' k=get e k)→bB hs.heap hs'.heap→∃ e1',f ⟨e',hs'⟩=some (v,⟨e1',hs'⟩)∧(∀ k,k∉M→get e1' k=get e' k)∧∀ k∈M,get e1' k=get st1.env k
theorem AX {α:Type}(l:List (Nat×α)) (i k:Nat):get (del l i) k=if k=i then none else get l k:=by
 induction l<;>grind [aaK,tj,iW,dH]
theorem cU {α:Type}(l:List (Nat×α)) (i k:Nat) (x:α):get (put l i x) k=if k=i then some x else get l k:=by
 induction l<;>grind [Z1,dH,mf]
theorem np {α:Type}:∀ {a b:List (Nat×α)},bg a→bg b→(∀ k,get a k=get b k)→a=b
 | [],[],_,_,_=>rfl
 | [],(k,v)::b,_,_,h=>by have:=h k;grind [dH,tj]
 | (k,v)::a,[],_,_,h=>by have:=h k;grind [dH,tj]
 | (k,v)::a,(j,u)::b,ha,hb,h=>by
  have ha':=List.pairwise_cons.1 ha;have hb':=List.pairwise_cons.1 hb;have none_of:∀ {l:List (Nat×α)}{i:Nat},(∀ p∈l,Ag i p.1)→get l i=none:=by
   intro l i hl
   induction l with
   | nil=>rfl
   | cons p l ih =>
    grind [dH]
  have hkj:k=j:=by
   rcases avQ k j with hlt | e | hlt
   ·have h1:=h k
    grind [dH]
   ·exact e
   ·have h1:=h j
    grind [dH]
  subst hkj;have hvu:v=u:=by have h1:=h k;grind [dH]
  subst hvu;rw[np ha'.2 hb'.2 fun i=>?_];by_cases e:k=i
  ·grind
  ·have h1:=h i
   grind [dH]
theorem Mm {e e1:ar}{x:Rd}{v:AV}(h:rd e x=some (v,e1)):(bg e→bg e1)∧(∀ k,get e1 k=if k∈gq x then none else get e k)∧
  ∀ e',(∀ k∈jN x,get e' k=get e k)→∃ e1',rd e' x=some (v,e1')∧∀ k,get e1' k=if k∈gq x then none else get e' k:=by
 cases x<;>grind [rd,gq,jN,bg.del,AX]
theorem DJ:∀ {rs:List Rd}{e e1:ar}{vs:List AV},rdAll e rs=some (vs,e1)→(bg e→bg e1)∧(∀ k,get e1 k=if k∈aA rs then none else get e k)∧
  ∀ e',(∀ k∈aS rs,get e' k=get e k)→∃ e1',rdAll e' rs=some (vs,e1')∧∀ k,get e1' k=if k∈aA rs then none else get e' k
 | [],e,e1,vs,h=>by
  grind [rdAll,aA]
 | x::rs,e,e1,vs,h=>by
  simp only[rdAll]at h;split at h
  ·simp at h
  ·rename_i v e2 h1;split at h
   ·simp at h
   ·rename_i us e3 h2;obtain⟨rfl,rfl⟩:=h;obtain⟨s1,g1,l1⟩:=Mm h1;obtain⟨s2,g2,l2⟩:=DJ h2;have hm:∀ k,(k∈aA (x::rs))↔(k∈gq x∨k∈aA rs):=fun k=>by simp[aA]
    refine⟨fun hs=>s2 (s1 hs),fun k=>?_,fun e' he=>?_⟩
    ·grind
    ·obtain⟨e2',h1',g1'⟩:=l1 e' fun k hk=>he k (by grind [aS])
     obtain⟨e3',h2',g2'⟩:=l2 e2' fun k hk=>by
      grind [aS]
     refine⟨e3',by grind [rdAll],fun k=>?_⟩
     grind
theorem cx.rds {f:St→Option (AV×St)}{rs:List Rd}(F:List AV→HS→Option AV)
  (mono:∀ vs hs hs' v,bB hs.heap hs'.heap→F vs hs=some v→F vs hs'=some v)
  (h:∀ e hs,f ⟨e,hs⟩=match rdAll e rs with | none=>none | some (vs,e1)=>match F vs hs with | none=>none | some v=>some (v,⟨e1,hs⟩)):cx f (aS rs) (aA rs):=by
 intro e hs v st1 hf;rw[h]at hf;split at hf
 ·simp at hf
 ·rename_i vs e1 hr;split at hf
  ·simp at hf
  ·obtain⟨rfl,rfl⟩:=hf;obtain⟨s1,g1,l1⟩:=DJ hr;refine⟨rfl,s1,fun k hk=>by simp_all,fun e' hs' he hle=>?_⟩;obtain⟨e1',hr',g1'⟩:=l1 e' he;exact⟨e1',by grind,fun k hk=>by simp_all,fun k hk=>by simp_all⟩
theorem gg:∀ (cs:List AV),shareAll cs=cs.map share
 | []=>rfl
 | c::r=>by simp only[kj,gg r,List.map_cons]
theorem apR (v:AV):xN (share v)=xN v:=by
 cases v<;>try rfl
 rename_i p m xs
 cases p<;>rfl
theorem XD:∀ (cs:List AV),ip (shareAll cs)=ip cs
 | []=>rfl
 | c::r=>by simp only[kj,ip,apR,XD r]
theorem aqo {a b:List AV}(h:shareAll a=shareAll b) {i:Nat}{v:AV}(g:a[i]?=some v):∃ u,b[i]?=some u∧share u=share v:=by
 rw[gg,gg]at h;have:=congrArg (fun l=>l[i]?) h
 grind
theorem arP {a b:List AV}(h:shareAll a=shareAll b):a.length=b.length:=by
 rw[gg,gg]at h;simpa using congrArg List.length h
theorem aqz {a b:List AV}(h:shareAll a=shareAll b) (i n:Nat):shareAll (sub a i n)=shareAll (sub b i n):=by
 grind [gg,sub,List.map_take,List.map_drop]
theorem bB.load {h h':ac}(H:bB h h') {n:Option Nat}{p u:AV}{k:ac}(hl:loadAt h n 0 p=some (u,k)):∃ k',loadAt h' n 0 p=some (u,k'):=by
 cases p<;>simp only[loadAt,reduceCtorEq]at hl⊢
 ·split at hl<;>grind [cells,aqo,arP,aqz]
 all_goals grind [arr]
theorem bB.objElems {h h':ac}(H:bB h h') {id:Nat}{xs:List (List D)}(g:objElems h id=some xs):objElems h' id=some xs:=by
 grind [Vm.objElems,arr,cells,XD]
theorem bB.elems {h h':ac}(H:bB h h') {v:AV}{xs:List (List D)}(g:elems h v=some xs):elems h' v=some xs:=by
 unfold Go.Vm.elems at g⊢
 grind [objElems]
theorem bB.viewOne {h h':ac}(H:bB h h') {v u:AV}(g:viewOne h v=some u):viewOne h' v=some u:=by
 unfold Go.Vm.viewOne at g⊢
 grind [elems]
theorem bB.viewAll {h h':ac}(H:bB h h'):∀ {vs us:List AV},viewAll h vs=some us→viewAll h' vs=some us
 | [],_,g=>g
 | v::r,us,g=>by
  simp only[Go.Vm.viewAll]at g⊢;split at g
  ·simp at g
  ·rename_i x hx;split at g
   ·simp at g
   ·rename_i xs hxs;simp only[H.viewOne hx,H.viewAll hxs];exact g
theorem bB.viewArg {h h':ac}(H:bB h h') {v u:AV}(g:viewArg h v=some u):viewArg h' v=some u:=by
 unfold Go.Vm.viewArg at g⊢
 grind [viewAll,viewOne]
theorem bB.viewArgs {h h':ac}(H:bB h h'):∀ {vs us:List AV},viewArgs h vs=some us→viewArgs h' vs=some us
 | [],_,g=>g
 | v::r,us,g=>by
  simp only[Go.Vm.viewArgs]at g⊢;split at g
  ·simp at g
  ·rename_i x hx;split at g
   ·simp at g
   ·rename_i xs hxs;simp only[H.viewArg hx,H.viewArgs hxs];exact g
theorem bB.call {r:bD}{f:FuncId}{vs:List AV}{h h':ac}(H:bB h h') {v:AV}(g:ca r f vs h=some v):ca r f vs h'=some v:=by
 grind [ca,viewArgs]
theorem bB.okSl {h h':ac}(H:bB h h') {m:Nat}{v:AV}(g:okSl h m v=true):okSl h' m v=true:=by
 unfold Go.Vm.okSl at g⊢
 grind [arr,cells]
section
variable {r:bD}
theorem axl (x:Rd):cx (Nf x) (aS [x]) (aA [x]):=by
 refine cx.rds (fun vs _=>match vs with | [v]=>some v | _=>none) (fun _ _ _ _ _ h=>h) fun e hs=>?_
 grind [Nf,rdAll]
theorem arG (zs:List AV) (ps:List (Nat×Nat×Rd)):cx (ww zs ps) (aS (lI ps)) (aA (lI ps)):=by
 refine cx.rds (fun vs _=>match cL zs (ml ps vs) with | some cs=>some (.agg cs) | none=>none) (fun _ _ _ _ _ h=>h) fun e hs=>?_
 grind [ww]
theorem avl (m:Nat) (ps:List Rd):cx (Ji m ps) (aS ps) (aA ps):=by
 refine cx.rds (fun vs _=>match ft m vs with | some xs=>some (.own true m xs) | none=>none) (fun _ _ _ _ _ h=>h) fun e hs=>?_
 grind [Ji]
theorem aAF {h:ac}{n:Option Nat}{p v:AV}{h':ac}(hl:loadAt h n 0 p=some (v,h')):h'=h:=by
 cases p<;>simp only[loadAt,reduceCtorEq]at hl
 all_goals grind
def ldV (n:Option Nat) (vs:List AV) (hs:HS):Option AV :=
 match vs with
 | [v]=>(match loadAt hs.heap n 0 v with | some (u,_)=>some u | none=>none)
 | _=>none
theorem avK {n:Option Nat}(vs:List AV) (hs hs':HS) (v:AV) (H:bB hs.heap hs'.heap) (h:ldV n vs hs=some v):ldV n vs hs'=some v:=by
 unfold ldV at h⊢
 grind [bB.load]
theorem ay1 (n:Option Nat) (p:Rd):cx (wz n 0 p) (aS [p]) (aA [p]):=by
 refine cx.rds (ldV n) avK fun e hs=>?_
 simp only[wz,rdAll]
 cases rd e p with
 | none=>rfl
 | some q =>
  obtain⟨v,e1⟩:=q
  cases hl:loadAt hs.heap n 0 v with
  | none=>simp only[ldV,hl]
  | some q=>have:=aAF hl;simp_all [ldV]
theorem aqL (x:Rd):cx (AR x) (aS [x]) (aA [x]):=by
 refine cx.rds (fun vs _=>match vs with | [v]=>(match v with | .ptr .. | .pel .. | .pim .. | .fn .. | .yield ..=>some v | _=>none) | _=>none) (fun _ _ _ _ _ h=>h) fun e hs=>?_
 grind [AR,rdAll]
theorem axc (op:BinOp) (x y:Rd):cx (Hj op x y) (aS [x,y]) (aA [x,y]):=by
 refine cx.rds (fun vs _=>match vs with | [a,b]=>bE op a b | _=>none) (fun _ _ _ _ _ h=>h) fun e hs=>?_
 grind [Hj,NG,rdAll]
theorem at6 (neg:Bool) (x y:Rd):cx (FI neg x y) (aS [x,y]) (aA [x,y]):=by
 refine cx.rds (fun vs _=>match vs with | [a,b]=>(match a,b with | .d (.bool a),.d (.bool b)=>some (.bool (match neg with | true=>!(a == b) | false=>a == b)) | _,_=>none) | _=>none) (fun _ _ _ _ _ h=>h) fun e hs=>?_
 grind [FI,rdAll]
theorem asd (neg:Bool) (ks:List Bool) (x y:Rd):cx (FW neg ks x y) (aS [x,y]) (aA [x,y]):=by
 refine cx.rds (fun vs _=>match vs with | [a,b]=>(match a,b with | .agg a,.agg b=>(match az ks a b with | some t=>some (.bool (match neg with | true=>!t | false=>t)) | none=>none) | _,_=>none) | _=>none) (fun _ _ _ _ _ h=>h) fun e hs=>?_
 simp only[FW,rdAll]
 cases rd e x<;>grind
theorem azl (op:UnOp) (x:Rd):cx (aci op x) (aS [x]) (aA [x]):=by
 refine cx.rds (fun vs _=>match vs with | [a]=>acW op a | _=>none) (fun _ _ _ _ _ h=>h) fun e hs=>?_
 grind [aci,rdAll]
theorem asr (k:IntKind) (x:Rd):cx (Bs k x) (aS [x]) (aA [x]):=by
 refine cx.rds (fun vs _=>match vs with | [.d (.int _ n)]=>some (.int k (wr k n)) | _=>none) (fun _ _ _ _ _ h=>h) fun e hs=>?_
 grind [Bs,rdAll]
theorem arH (x:Rd):cx (G6 x) (aS [x]) (aA [x]):=by
 refine cx.rds (fun vs hs=>match vs with | [v]=>(match elems hs.heap v with | some xs=>(match ng xs with | some s=>some (.d (.str s)) | none=>none) | none=>none) | _=>none) (fun vs hs hs' v H h=>?_) fun e hs=>?_
 all_goals grind [bB.elems,G6,rdAll]
theorem alG (z:List D) (x y:Rd):cx (iu z x y) (aS [x,y]) (aA [x,y]):=by
 refine cx.rds (fun vs _=>match vs with | [n,c]=>(match df c au with | some c=>(match df n c with | some n=>some (.own true z.length (List.replicate n z)) | none=>none) | none=>none) | _=>none) (fun _ _ _ _ _ h=>h) fun e hs=>?_
 grind [iu,rdAll]
theorem ayt (off:Nat) (p:Rd):cx (aew off p) (aS [p]) (aA [p]):=by
 refine cx.rds (fun vs _=>match vs with | [a]=>gP off a | _=>none) (fun _ _ _ _ _ h=>h) fun e hs=>?_
 grind [aew,rdAll]
theorem aw8 (off:Nat) (n:Option Nat) (x:Rd):cx (Jo off n x) (aS [x]) (aA [x]):=by
 refine cx.rds (fun vs _=>match vs with | [.agg cs]=>yh n cs off | _=>none) (fun _ _ _ _ _ h=>h) fun e hs=>?_
 grind [Jo,rdAll]
def YQ (n k:Nat) (o:Option (List (List D))):Option AV :=
 match o with
 | some xs=>match xs[k]? with
  | some x=>match Nat.beq x.length n with
   | true=>some (.pim x 0)
   | false=>none
  | none=>none
 | none=>none
def akt (n:Nat) (h:ac) (k:Nat) (v:AV):Option AV :=
 match v with
 | .sl id off len=>match Nat.ble len k with
  | true=>none
  | false=>match get h id with
   | some (.arr m _)=>match Nat.beq m n with
    | true=>some (.pel id (off+k) 0)
    | false=>none
   | some (.cells _)=>match Nat.beq n 1 with
    | true=>some (.ptr id (off+k))
    | false=>none
   | _=>none
 | v=>YQ n k (elems h v)
theorem av6 {n k:Nat}{h h':ac}(H:bB h h') {v u:AV}(g:akt n h k v=some u):akt n h' k v=some u:=by
 have other:YQ n k (elems h v)=some u→YQ n k (elems h' v)=some u:=by
  intro g
  cases hx:elems h v<;>grind [YQ,bB.elems]
 cases v<;>simp only[akt]at g⊢<;>try exact other g
 grind [bB.arr,bB.cells]
theorem ay0 (n:Nat) (x i:Rd):cx (ajd n x i) (aS [x,i]) (aA [x,i]):=by
 refine cx.rds (fun vs hs=>match vs with | [v,i]=>(match kX i with | some k=>akt n hs.heap k v | none=>none) | _=>none) (fun vs hs hs' v H h=>?_) fun e hs=>?_
 ·grind [av6]
 simp only[ajd,rdAll]
 cases rd e x with
 | none=>rfl
 | some q =>
  obtain⟨a,e1⟩:=q;simp only
  cases rd e1 i<;>grind [YQ,akt]
theorem asJ (len n:Nat) (p i:Rd):cx (Gy len n p i) (aS [p,i]) (aA [p,i]):=by
 refine cx.rds (fun vs _=>match vs with | [p,i]=>(match kX i with | some i=>(match Nat.ble len i with | true=>none | false=>gP (i*n) p) | none=>none) | _=>none) (fun _ _ _ _ _ h=>h) fun e hs=>?_
 simp only[Gy,rdAll]
 grind
theorem azH (len n:Nat) (ag:Bool) (x i:Rd):cx (Sh len n ag x i) (aS [x,i]) (aA [x,i]):=by
 refine cx.rds (fun vs _=>match vs with | [.agg cs,i]=>(match kX i with | some i=>(match Nat.ble len i with | true=>none | false=>yh (ajt ag n) cs (i*n)) | none=>none) | _=>none) (fun _ _ _ _ _ h=>h) fun e hs=>?_
 simp only[Sh,rdAll]
 cases rd e x with
 | none=>rfl
 | some q =>
  obtain⟨a,e1⟩:=q;simp only
  cases hi:rd e1 i<;>grind
theorem axg (x i:Rd):cx (Il x i) (aS [x,i]) (aA [x,i]):=by
 refine cx.rds (fun vs _=>match vs with | [.d (.str s),i]=>(match kX i with | some i=>(match s[i]? with | some b=>some (.int .u8 (.ofNat b.toNat)) | none=>none) | none=>none) | _=>none) (fun _ _ _ _ _ h=>h) fun e hs=>?_
 grind [Il,rdAll]
theorem av8 (x:Rd):cx (NX x) (aS [x]) (aA [x]):=by
 refine cx.rds (fun vs _=>match vs with | [a]=>(match lenOf a with | some n=>some (.int .i64 (.ofNat n)) | none=>none) | _=>none) (fun _ _ _ _ _ h=>h) fun e hs=>?_
 grind [NX,rdAll]
theorem awv (x:Rd):cx (Iw x) (aS [x]) (aA [x]):=by
 refine cx.rds (fun vs _=>match vs with | [.nl]=>some (.int .i64 (.ofNat 0)) | _=>none) (fun _ _ _ _ _ h=>h) fun e hs=>?_
 grind [Iw,rdAll]
theorem aoq (b:Bool) (xs:List Rd):cx (rV b xs) (aS xs) (aA xs):=by
 refine cx.rds (fun vs _=>match vs with | .d (.int k n)::vs=>xY b (.d (.int k n)) vs | _=>none) (fun _ _ _ _ _ h=>h) fun e hs=>?_
 grind [rV]
theorem ae6 (e:ar):∀ (a b:List Rd),rdAll e (a++b)=match rdAll e a with
  | none=>none
  | some (x,e1)=>match rdAll e1 b with
   | none=>none
   | some (y,e2)=>some (x++y,e2)
 | [],b=>by
  grind [rdAll]
 | r::a,b=>by
  simp only[List.cons_append,rdAll]
  cases rd e r with
  | none=>rfl
  | some p =>
   obtain⟨v,e1⟩:=p;simp only[ae6 e1 a b]
   grind
theorem afr:∀ {rs:List Rd}{e e1:ar}{vs:List AV},rdAll e rs=some (vs,e1)→vs.length=rs.length
 | [],e,e1,vs,h=>by grind [rdAll]
 | x::rs,e,e1,vs,h=>by
  simp only[rdAll]at h;split at h
  ·simp at h
  ·split at h
   ·simp at h
   ·rename_i h2;obtain⟨rfl,rfl⟩:=h;simp[afr h2]
theorem as7 (f:FuncId) (first caps:List Rd):cx (Cy f first caps) (aS (first++caps)) (aA (first++caps)):=by
 refine cx.rds (fun vs _=>some (.fn f (shareAll (vs.take first.length)) (shareAll (vs.drop first.length)))) (fun _ _ _ _ _ h=>h) fun e hs=>?_
 grind [Cy,ae6,afr,List.take_left]
theorem asn (f:FuncId) (args:List Rd):cx (xS r f args) (aS args) (aA args):=by
 refine cx.rds (fun vs hs=>ca r f vs hs.heap) (fun vs hs hs' v H h=>H.call h) fun e hs=>?_
 grind [xS]
theorem aqJ {v:j6}{rs:List Rd}(h:wH v=some rs):cx (bt v r) (aS rs) (aA rs):=by
 unfold wH at h;split at h<;>simp only[Option.some.injEq,reduceCtorEq]at h<;>subst h
 ·exact axl _
 ·exact arG _ _
 ·exact avl _ _
 ·exact ay1 _ _
 ·exact aqL _
 ·exact axc _ _ _
 ·exact at6 _ _ _
 ·exact asd _ _ _ _
 ·exact azl _ _
 ·exact asr _ _
 ·exact arH _
 ·exact alG _ _ _
 ·exact ayt _ _
 ·exact aw8 _ _ _
 ·exact ay0 _ _ _
 ·exact asJ _ _ _ _
 ·exact azH _ _ _ _ _
 ·exact axg _ _
 ·exact av8 _
 ·exact awv _
 ·exact aoq _ _
 ·exact as7 _ _ _
 ·exact asn _ _
end
section
variable {r:bD}
theorem K6 (e:ar) (o:Option Rd) (rs:List Rd):rdAll e (o.toList++rs)=match rdOpt e o with
  | none=>none
  | some (vo,e1)=>match rdAll e1 rs with
   | none=>none
   | some (vs,e2)=>some (vo.toList++vs,e2):=by
 cases o<;>grind [rdOpt,rdAll]
def aag:Option Rd→List AV→Option (Option AV×List AV)
 | none,vs=>some (none,vs)
 | some _,v::vs=>some (some v,vs)
 | some _,[]=>none
theorem aa2 {e e1:ar}{o:Option Rd}{vo:Option AV}(h:rdOpt e o=some (vo,e1)) (vs:List AV):aag o (vo.toList++vs)=some (vo,vs):=by
 cases o with
 | none=>obtain⟨rfl,rfl⟩:=h;rfl
 | some x =>
  simp only[rdOpt]at h;split at h
  ·obtain⟨rfl,rfl⟩:=h;rfl
  simp_all
def Lk (m:Nat) (lo hi mx:Option Rd) (h:ac) (vs:List AV):Option AV :=
 match vs with
 | []=>none
 | v::vs=>match aag lo vs with
  | none=>none
  | some (l,vs)=>match aag hi vs with
   | none=>none
   | some (hh,vs)=>match aag mx vs with
    | none=>none
    | some (k,_)=>match okSl h m v with
     | true=>w6 m v l hh k
     | false=>none
theorem aoH {m:Nat}{lo hi mx:Option Rd}{h h':ac}(H:bB h h') {vs:List AV}{u:AV}(g:Lk m lo hi mx h vs=some u):Lk m lo hi mx h' vs=some u:=by
 unfold Lk at g⊢;split at g
 ·simp at g
 ·rename_i v vs
  cases h1:aag lo vs with
  | none=>simp_all
  | some p =>
   obtain⟨l,vs1⟩:=p;simp only at g⊢
   cases h2:aag hi vs1<;>grind [bB.okSl]
theorem aq6 (m:Nat) (x:Rd) (lo hi mx:Option Rd):cx (FT m x lo hi mx) (aS (x::(lo.toList++(hi.toList++(mx.toList++[]))))) (aA (x::(lo.toList++(hi.toList++(mx.toList++[]))))):=by
 refine cx.rds (fun vs hs=>Lk m lo hi mx hs.heap vs) (fun vs hs hs' v H h=>aoH H h) fun e hs=>?_
 simp only[FT,rdAll]
 cases rd e x with
 | none=>rfl
 | some q =>
  obtain⟨v,e1⟩:=q;simp only;rw[K6]
  cases h1:rdOpt e1 lo with
  | none=>rfl
  | some q =>
   obtain⟨l,e2⟩:=q;simp only;rw[K6]
   cases h2:rdOpt e2 hi with
   | none=>rfl
   | some q =>
    obtain⟨hh,e3⟩:=q;simp only;rw[K6]
    cases h3:rdOpt e3 mx with
    | none=>rfl
    | some q =>
     simp only[rdAll,Lk,aa2 h1,aa2 h2,aa2 h3]
     grind
theorem H4 {x:Rd}{k:Nat}(h:k∈gq x):k∈jN x:=by
 cases x<;>simp_all [gq,jN]
theorem atP (c a b:Rd):cx (gQ c a b) (aS [c,a,b]) (aA [c,a,b]):=by
 intro e hs v st1 hf;unfold gQ at hf;have hm:∀ k,k∈aA [c,a,b]↔(k∈gq c∨k∈gq a∨k∈gq b):=fun k=>by simp[aA]
 have hsl:∀ k,k∈aS [c,a,b]↔(k∈jN c∨k∈jN a∨k∈jN b):=fun k=>by simp[aS]
 split at hf
 ·rename_i tb e1 h1;obtain⟨s1,g1,l1⟩:=Mm h1;have key:∀ x,(x=a∨x=b)→∀ u e2,rd e1 x=some (u,e2)→(∀ e' e1' e2' hs',rd e' c=some (.d (.bool tb),e1')→rd e1' x=some (u,e2')→gQ c a b ⟨e',hs'⟩=some (u,⟨e2',hs'⟩))→
    (⟨e2,hs⟩:St).hs=hs∧(bg e→bg e2)∧(∀ k,k∉aA [c,a,b]→get e2 k=get e k)∧
    ∀ e' hs',(∀ k∈aS [c,a,b],get e' k=get e k)→bB hs.heap hs'.heap→∃ e1',gQ c a b ⟨e',hs'⟩=some (u,⟨e1',hs'⟩)∧(∀ k,k∉aA [c,a,b]→get e1' k=get e' k)∧∀ k∈aA [c,a,b],get e1' k=get e2 k:=by
   intro x hx u e2 h2 hback;obtain⟨s2,g2,l2⟩:=Mm h2;have hbs:∀ k,k∈jN x→k∈aS [c,a,b]:=fun k hk=>(hsl k).2 (by grind)
   have hms:∀ k,k∈aA [c,a,b]→k∈aS [c,a,b]:=fun k hk=>(hsl k).2 (((hm k).1 hk).imp H4 (Or.imp H4 H4))
   refine⟨rfl,fun h=>s2 (s1 h),fun k hk=>?_,fun e' hs' he _=>?_⟩
   ·grind
   ·obtain⟨e1',h1',g1'⟩:=l1 e' fun k hk=>he k ((hsl k).2 (.inl hk))
    obtain⟨e2',h2',g2'⟩:=l2 e1' fun k hk=>by
     simp_all
    refine⟨e2',hback e' e1' e2' hs' h1' h2',fun k hk=>?_,fun k hk=>?_⟩
    all_goals grind
  cases tb with
  | true =>
   split at hf
   ·obtain⟨rfl,rfl⟩:=hf
    grind [gQ]
   simp_all
  | false =>
   split at hf
   ·obtain⟨rfl,rfl⟩:=hf
    grind [gQ]
   simp_all
 simp_all
theorem awS (j:Nat) (mv:Bool) (i:Nat):cx (tU j mv i) [j] (if mv then [j] else []):=by
 intro e hs v st1 hf;unfold tU at hf;split at hf
 ·split at hf
  ·cases mv with
   | true =>
    obtain⟨rfl,rfl⟩:=hf
    simp_all [bg.put,cU,tU]
   | false =>
    obtain⟨rfl,rfl⟩:=hf
    simp_all [tU]
  simp_all
 simp_all
def as5 (m:Nat) (h:ac) (vs:List AV):Option AV :=
 match vs with
 | [b]=>(match Go.Vm.elems h b with
  | some ys=>(match dC m ys with
   | true=>(match Nat.ble ys.length au with
    | true=>some (match ys with | []=>.nl | ys=>.own true m ys)
    | false=>none)
   | false=>none)
  | none=>none)
 | _=>none
theorem aqp (m:Nat) (y:Rd):cx (Aq m (.c .nl) y) (aS [y]) (aA [y]):=by
 refine cx.rds (fun vs hs=>as5 m hs.heap vs) (fun vs hs hs' v H h=>?_) fun e hs=>?_
 ·unfold as5 at h⊢
  grind [bB.elems]
 ·have h0:rd e (.c .nl)=some (.nl,e):=rfl;simp only[Aq,rdAll,h0]
  cases rd e y with
  | none=>rfl
  | some q =>
   obtain⟨b,e1⟩:=q;simp only[as5]
   cases Go.Vm.elems hs.heap b with
   | none=>rfl
   | some ys =>
    simp only
    cases dC m ys with
    | false=>rfl
    | true =>
     simp only[ct]
     cases Nat.ble ys.length au with
     | false=>rfl
     | true=>cases ys<;>rfl
theorem UI {v:j6}{R M:List Nat}(h:Ha v=some (R,M)):cx (bt v r) R M:=by
 have base:(match wH v with | some rs=>some (aS rs,aA rs) | none=>none)=some (R,M)→cx (bt v r) R M:=by
  grind [aqJ]
 cases v<;>try exact base h
 ·obtain⟨rfl,rfl⟩:=h;exact atP _ _ _
 ·obtain⟨rfl,rfl⟩:=h;exact aq6 _ _ _ _ _
 ·obtain⟨rfl,rfl⟩:=h;exact awS _ _ _
 ·rename_i m x y
  cases x<;>try exact base h
  rename_i c
  cases c<;>try exact base h
  obtain⟨rfl,rfl⟩:=h;exact aqp _ _
def atm (f:St→Option St) (R M:List Nat):Prop :=
 ∀ e hs st1,f ⟨e,hs⟩=some st1→st1.hs=hs∧(bg e→bg st1.env)∧(∀ k,k∉M→get st1.env k=get e k)∧
  ∀ e' hs',(∀ k∈R,get e' k=get e k)→bB hs.heap hs'.heap→∃ e1',f ⟨e',hs'⟩=some ⟨e1',hs'⟩∧(∀ k,k∉M→get e1' k=get e' k)∧∀ k∈M,get e1' k=get st1.env k
theorem LV {i:VI}{R M:List Nat}(h:ah5 i=some (R,M)):atm (bm r i) R M:=by
 unfold ah5 at h;split at h
 ·simp at h
 ·rename_i hth;split at h
  ·simp at h
  ·rename_i R0 M0 hf;simp only[Option.some.injEq,Prod.mk.injEq]at h;obtain⟨rfl,rfl⟩:=h;have hl:=UI (r:=r) hf;have hM:∀ k,k∈M0→k∈(match i.dst with | some d=>d::M0 | none=>M0):=fun k hk=>by grind
   have set:∀ (v:AV) (st:St),(bc i.dst v st).hs=st.hs∧(bg st.env→bg (bc i.dst v st).env)∧∀ k,get (bc i.dst v st).env k=if i.dst=some k then some v else get st.env k:=by
    grind [bc,bg.put,cU]
   have hd:∀ k,k∉(match i.dst with | some d=>d::M0 | none=>M0)→i.dst≠some k∧k∉M0:=fun k hk=>by
    grind
   have go:∀ e hs st1,dl r i ⟨e,hs⟩=some st1→st1.hs=hs∧(bg e→bg st1.env)∧(∀ k,k∉(match i.dst with | some d=>d::M0 | none=>M0)→get st1.env k=get e k)∧
     ∀ e' hs',(∀ k∈R0++M0,get e' k=get e k)→bB hs.heap hs'.heap→∃ e1',dl r i ⟨e',hs'⟩=some ⟨e1',hs'⟩∧(∀ k,k∉(match i.dst with | some d=>d::M0 | none=>M0)→get e1' k=get e' k)∧
      ∀ k∈(match i.dst with | some d=>d::M0 | none=>M0),get e1' k=get st1.env k:=by
    intro e hs st1 h;unfold dl at h;simp only[hth]at h;split at h
    ·rename_i v st0 hv;simp only[Option.some.injEq]at h;subst h;obtain⟨q1,q2,q3,q4⟩:=hl e hs v st0 hv;obtain⟨t1,t2,t3⟩:=set (firm v) st0;refine⟨t1.trans q1,fun h=>t2 (q2 h),fun k hk=>?_,fun e' hs' he hle=>?_⟩
     ·simp_all
     ·obtain⟨e1',p1,p2,p3⟩:=q4 e' hs' (fun k hk=>he k (List.mem_append_left _ hk)) hle;refine⟨(bc i.dst (firm v) ⟨e1',hs'⟩).env,?_,fun k hk=>?_,fun k hk=>?_⟩
      ·unfold dl;simp only[hth,p1,Option.some.injEq]
       cases i.dst<;>rfl
      all_goals grind
    simp_all
   have no:∀ e hs,(bc i.dst (.tup []) ⟨e,hs⟩).hs=hs∧(bg e→bg (bc i.dst (.tup []) ⟨e,hs⟩).env)∧(∀ k,k∉(match i.dst with | some d=>d::M0 | none=>M0)→get (bc i.dst (.tup []) ⟨e,hs⟩).env k=get e k)∧
     ∀ e' hs',(∀ k∈R0++M0,get e' k=get e k)→(∀ k,k∉(match i.dst with | some d=>d::M0 | none=>M0)→get (bc i.dst (.tup []) ⟨e',hs'⟩).env k=get e' k)∧
      ∀ k∈(match i.dst with | some d=>d::M0 | none=>M0),get (bc i.dst (.tup []) ⟨e',hs'⟩).env k=get (bc i.dst (.tup []) ⟨e,hs⟩).env k:=by
    grind
   intro e hs st1 h;unfold bm at h
   cases hg:i.guard with
   | none =>
    rw[hg]at h;obtain⟨q1,q2,q3,q4⟩:=go e hs st1 h;refine⟨q1,q2,q3,fun e' hs' he hle=>?_⟩;obtain⟨e1',p1,p2,p3⟩:=q4 e' hs' he hle
    grind [bm]
   | some sw =>
    obtain⟨sl,want⟩:=sw;rw[hg]at h;simp only at h;have hsl:∀ e',(∀ k∈sl::(R0++M0),get e' k=get e k)→get e' sl=get e sl:=fun e' he=>he sl (.head _)
    have hre:∀ e',(∀ k∈sl::(R0++M0),get e' k=get e k)→∀ k∈R0++M0,get e' k=get e k:=fun e' he k hk=>he k (.tail _ hk)
    split at h
    ·rename_i b hb;split at h
     ·obtain⟨q1,q2,q3,q4⟩:=go e hs st1 h;refine⟨q1,q2,q3,fun e' hs' he hle=>?_⟩;obtain⟨e1',p1,p2,p3⟩:=q4 e' hs' (hre e' he) hle
      grind [bm]
     ·rename_i hbw;simp only[Option.some.injEq]at h;subst h;obtain⟨q1,q2,q3,q4⟩:=no e hs;refine⟨q1,q2,q3,fun e' hs' he _=>?_⟩;obtain⟨p2,p3⟩:=q4 e' hs' (hre e' he);refine⟨(bc i.dst (.tup []) ⟨e',hs'⟩).env,?_,p2,p3⟩;unfold bm;rw[hg];simp only[hsl e' he,hb,hbw,Option.some.injEq]
      cases i.dst<;>rfl
    ·rename_i hb;simp only[Option.some.injEq]at h;subst h;obtain⟨q1,q2,q3,q4⟩:=no e hs;refine⟨q1,q2,q3,fun e' hs' he _=>?_⟩;obtain⟨p2,p3⟩:=q4 e' hs' (hre e' he);refine⟨(bc i.dst (.tup []) ⟨e',hs'⟩).env,?_,p2,p3⟩;unfold bm;rw[hg];simp only[hsl e' he,hb,Option.some.injEq]
     cases i.dst<;>rfl
    grind
theorem as6 {f1 f2:St→Option St}{R1 M1 R2 M2:List Nat}(h1:atm f1 R1 M1) (h2:atm f2 R2 M2) (d1:∀ k∈M1,k∉R2∧k∉M2) (d2:∀ k∈M2,k∉R1∧k∉M1) {st st1 st2:St}(hs:bg st.env)
  (a:f1 st=some st1) (b:f2 st1=some st2):∃ st1',f2 st=some st1'∧f1 st1'=some st2:=by
 obtain⟨e,hs0⟩:=st;obtain⟨e1,hs1⟩:=st1;obtain⟨e2,hs2⟩:=st2;obtain⟨q1,q2,q3,q4⟩:=h1 e hs0 _ a;subst q1;obtain⟨p1,p2,p3,p4⟩:=h2 e1 hs1 _ b;subst p1;obtain⟨e1',k1,k2,k3⟩:=p4 e _ (fun k hk=>(q3 k (fun hm=>(d1 k hm).1 hk)).symm) (bB.refl _);obtain⟨_,sk1,_,_⟩:=h2 e hs2 _ k1;obtain⟨e2',m1,m2,m3⟩:=q4 e1' _ (fun k hk=>k2 k fun hm=>(d2 k hm).1 hk) (bB.refl _);obtain⟨_,sm1,_,_⟩:=h1 e1' hs2 _ m1;refine⟨⟨e1',hs2⟩,k1,?_⟩;rw[m1]
 congr 2
 refine np (sm1 (sk1 hs)) (p2 (q2 hs)) fun k=>?_
 by_cases hk1:k∈M1
 all_goals grind
end
theorem mE {k:Nat}{l:List Nat}:b8 k l=true↔k∈l:=by
 induction l<;>grind [b8,Nat.beq_eq]
theorem fh {a b:List Nat}(h:lJ a b=true):∀ k∈a,k∉b:=by
 induction a<;>grind [lJ,mE]
section
variable {P:Program}{g:Gh}{w:World}{t:Array Value}{O:Nat→Nat}{st st':St}{r:bD}
theorem alO {a b:VI}(h:nc a b=true) {st1 st2:St}(hs:bg st.env) (h1:bm r a st=some st1) (h2:bm r b st1=some st2):∃ st1',bm r b st=some st1'∧bm r a st1'=some st2:=by
 unfold nc at h;split at h
 ·rename_i R1 M1 R2 M2 e1 e2;simp only[Bool.and_eq_true]at h;obtain⟨⟨k1,k2⟩,k3⟩:=h;exact as6 (LV (r:=r) e1) (LV (r:=r) e2) (fun k hk=>⟨fh k1 k hk,fh k2 k hk⟩) (fun k hk=>⟨fh k3 k hk,fun h=>fh k2 k h hk⟩) hs h1 h2
 simp_all
theorem al2 {a b:VI}(h:nc a b=true) {st1:St}(hs:bg st.env) (h1:bm r a st=some st1):bg st1.env:=by
 unfold nc at h;split at h
 ·rename_i R1 M1 R2 M2 e1 e2;obtain⟨e,hs0⟩:=st;exact(LV (r:=r) e1 e hs0 st1 h1).2.1 hs
 simp_all
theorem U6 {vs:List VI}{i:Nat}{v:VI}(hv:vs[i]?=some v) {l2:List Nat}:∀ {l1:List Nat}{st st':St},(∀ j∈l1,∃ u,vs[j]?=some u∧nc u v=true)→bg st.env→
  ot r vs (l1++i::l2) st=some st'→ot r vs (i::(l1++l2)) st=some st'
 | [],st,st',_,_,h=>h
 | j::l1,st,st',hj,hs,h=>by
  obtain⟨u,hu,hm⟩:=hj j (.head _);simp only[List.cons_append,ot,hu]at h;split at h
  ·simp at h
  ·rename_i st1 h1;have h2:=U6 hv (fun k hk=>hj k (.tail _ hk)) (al2 hm hs h1) h
   grind [ot,alO]
structure aki (P:Program) (n:Nat) (ops:Array Oper) (vs:List VI):Prop where
 len:vs.length=ops.size
 vi:∀ (i:Nat) (v:VI) (o:Oper),vs[i]?=some v→ops[i]?=some o→uE P n ops v o=true
 pair:∀ (i j:Nat) (v u:VI) (o:Oper),j<i→vs[i]?=some v→vs[j]?=some u→ops[i]?=some o→GL o j=true∨nc u v=true
 edge:∀ (i:Nat) (o:Oper),ops[i]?=some o→∀ e∈o.after,e.on<i
theorem W1 {o:Oper}{v:VI}:∀ {us:List VI}{k:Nat},YG o v k us=true→∀ (j:Nat) (u:VI),us[j]?=some u→GL o (k+j)=true∨nc u v=true
 | [],k,_,j,u,h=>by simp at h
 | x::us,k,h,j,u,hu=>by
  simp only[YG,Bool.and_eq_true,Bool.or_eq_true]at h
  cases j with
  | zero=>simp_all
  | succ j=>have:=W1 h.2 j u (by simp_all);grind
theorem Lr {n:Nat}{ops:Array Oper}:∀ {vs:List VI}{os:List Oper}{prev:List VI},mp P n ops prev vs os=true→vs.length=os.length∧
  ∀ (i:Nat) (v:VI) (o:Oper),vs[i]?=some v→os[i]?=some o→uE P n ops v o=true∧(∀ (j:Nat) (u:VI),(prev++vs)[j]?=some u→j<prev.length+i→GL o j=true∨nc u v=true)∧
   ∀ e∈o.after,e.on<prev.length+i
 | [],[],prev,_=>⟨rfl,fun i v o h=>by simp at h⟩
 | x::vs,p::os,prev,h=>by
  simp only[mp,Bool.and_eq_true]at h;obtain⟨⟨⟨h1,h2⟩,h3⟩,h4⟩:=h;obtain⟨k1,k2⟩:=Lr h4;refine⟨by simp[k1],fun i v o hv ho=>?_⟩
  cases i with
  | zero =>
   simp only[List.getElem?_cons_zero,Option.some.injEq]at hv ho;subst hv ho;refine⟨h1,fun j u hu hj=>?_,fun e he=>?_⟩
   ·rw[List.getElem?_append_left (by omega)]at hu;have:=W1 h2 j u hu
    simp_all
   grind [Nat.blt_eq]
  | succ i =>
   grind
 | [],_::_,_,h=>by grind [mp]
 | _::_,[],_,h=>by grind [mp]
theorem ax6 {n:Nat}{ops:Array Oper}{vs:List VI}(h:mp P n ops [] vs ops.toList=true):aki P n ops vs:=by
 obtain⟨k1,k2⟩:=Lr h;have hl:vs.length=ops.size:=by omega
 have hget:∀ (i:Nat) (o:Oper),ops[i]?=some o→ops.toList[i]?=some o:=fun i o h=>by simp_all
 refine⟨hl,fun i v o hv ho=>(k2 i v o hv (hget i o ho)).1,fun i j v u o hji hv hu ho=>(k2 i v o hv (hget i o ho)).2.1 j u (by simp_all) (by omega),fun i o ho e he=>?_⟩;have hi:i<vs.length:=by
  grind
 simp_all
theorem Wn (m:Region.Mode) {e:Edge}(h:pX e.ground=true):Region.binds m e=true:=by
 grind [Region.binds,pX]
structure ZS (n:Nat) (listed:Array Bool) (rem:List Nat):Prop where
 srt:rem.Pairwise (·<·)
 lt:∀ i∈rem,i<n
 size:listed.size=n
 mem:∀ i,i<n→(i∈rem↔listed.getD i true=false)
theorem ari {ro:Option Nat}(hr:ep P r) (hcs:eK P r) {n:Nat}{ops:Array Oper}{vs:List VI}(hok:aki P n ops vs) {Q:Exit→Act→World→Prop}(ds:List Deferred) (m:Region.Mode) :
  ∀ {fuel:Nat}{rem:List Nat},rem.length=fuel→∀ {tt:Nat}{listed:Array Bool},ZS ops.size listed rem→∀ {g:Gh}{w:World}{t:Array Value}{O:Nat→Nat}{st st':St},t.size=n→S P g w st t O→ot r vs rem st=some st'→
   (∀ w' t' g' O',dJ P g w t O st' t' w' g' O'→Q .normal ⟨t',ds⟩ w')→wpOpsIn (FR ro) 0 P ops Q (Region.linearise.go m ops fuel tt listed []) ⟨t,ds⟩ w
 | 0,rem,hf,tt,listed,hleft,g,w,t,O,st,st',hn,s,h,hq=>by
  have:rem=[]:=List.eq_nil_of_length_eq_zero hf;subst this;simp only[ot,Option.some.injEq]at h;subst h;exact hq _ _ _ _ (dJ.refl s)
 | fuel+1,rem,hf,tt,listed,hleft,g,w,t,O,st,st',hn,s,h,hq=>by
  unfold Region.linearise.go;simp only;generalize hrs:((List.range ops.size).filter fun i=>!listed.getD i true && ((ops[i]?).map (·.after.all fun e=>!Region.binds m e || listed.getD e.on false)).getD false)=rs;have hmem:∀ i,i∈rs↔i<ops.size∧listed.getD i true=false∧∃ o,ops[i]?=some o∧∀ e∈o.after,Region.binds m e=true→listed.getD e.on false=true:=by
   grind [Array.all_eq_true_iff_forall_mem]
  have hne:rs≠[]:=by
   cases rem with
   | nil=>simp at hf
   | cons i rem =>
    have hi:=hleft.lt i (.head _);have:i∈rs:=(hmem i).2 ⟨hi,(hleft.mem i hi).1 (.head _),ops[i],by simp[hi],fun e he _=>by
     have hlt:=hok.edge i ops[i] (by simp[hi]) e he;have hen:e.on<ops.size:=by omega
     have hnot:e.on∉i::rem:=by
      intro hm;rcases List.mem_cons.1 hm with e1 | hm
      ·omega
      ·have:=(List.pairwise_cons.1 hleft.srt).1 _ hm;omega
     grind [ZS.mem,ZS.size]⟩
    grind
  have hlen:0<rs.length:=List.length_pos_iff.2 hne;have hlt:=Nat.mod_lt tt hlen;rw[List.getElem?_eq_getElem hlt];simp only;generalize hi:rs[tt % rs.length]=i;have hirs:i∈rs:=by grind
  obtain⟨hin,hil,o,ho,hedges⟩:=(hmem i).1 hirs;have hirem:i∈rem:=(hleft.mem i hin).2 hil;obtain⟨l1,l2,rfl⟩:=List.append_of_mem hirem;have hvl:i<vs.length:=by grind [aki.len]
  have hv:vs[i]?=some vs[i]:=by simp
  have hp:=List.pairwise_append.1 hleft.srt;have hswap:∀ j∈l1,∃ u,vs[j]?=some u∧nc u vs[i]=true:=by
   intro j hj;have hji:j<i:=hp.2.2 j hj i (.head _);have hjr:j∈l1++i::l2:=List.mem_append_left _ hj;have hjv:vs[j]?=some (vs[j]'(by omega)):=by simp
   refine⟨_,hjv,(hok.pair i j _ _ o hji hv hjv ho).resolve_left fun he=>?_⟩
   grind [GL,Nat.beq_eq,Wn,ZS.mem]
  have h2:=U6 hv hswap s.se h;simp only[ot,hv]at h2;split at h2
  ·simp at h2
  ·rename_i st1 h3;have hleft':ZS ops.size (listed.setIfInBounds i true) (l1++l2):=by
    refine⟨List.pairwise_append.2 ⟨hp.1,(List.pairwise_cons.1 hp.2.1).2,fun a ha b hb=>hp.2.2 a ha b (.tail _ hb)⟩,fun k hk=>hleft.lt k ?_,by simp[hleft.size],fun k hk=>?_⟩
    ·rcases List.mem_append.1 hk with h | h
     ·exact List.mem_append_left _ h
     ·exact List.mem_append_right _ (.tail _ h)
    ·have hsz:k<listed.size:=by rw[hleft.size];exact hk
     have hold:=hleft.mem k hk;simp only[Array.getD_eq_getD_getElem?,Array.getElem?_setIfInBounds]at hold⊢;by_cases e:i=k
     ·subst e;simp only[if_true,hsz,Option.getD_some,Bool.true_eq_false,iff_false];intro hm;rcases List.mem_append.1 hm with h | h
      ·have:=hp.2.2 i h i (.head _);omega
      ·have:=(List.pairwise_cons.1 hp.2.1).1 i h;omega
     ·simp only[e,if_false];rw[←hold];simp only[List.mem_append,List.mem_cons];constructor
      ·rintro (h | h)
       ·exact .inl h
       ·exact .inr (.inr h)
      ·rintro (h | h | h)
       ·exact .inl h
       ·exact absurd h.symm e
       ·exact .inr h
   have hlen':(l1++l2).length=fuel:=by simp at hf⊢;omega
   have hacc:=linearise_go_acc m ops fuel (tt / rs.length) (listed.setIfInBounds i true) [i];rw[hacc];simp only[List.reverse_cons,List.reverse_nil,List.nil_append,List.cons_append,wpOpsIn,ho];exact arw (ro:=ro) hr hcs hn s h3 (hok.vi i _ o hv ho) ds _ Q fun t' w' g' O' G =>
    ari hr hcs hok ds m hlen' hleft' (by rw[G.size,hn]) G.st h2 fun w2 t2 g2 O2 G2=>hq _ _ _ _ (G.trans G2)
theorem aio {vs:List VI}:∀ {l:List VI}{k:Nat}{st:St},vs.drop k=l→ot r vs (List.range' k l.length) st=gB r l st
 | [],k,st,_=>by simp[ot,gB]
 | v::l,k,st,h=>by
  have hv:vs[k]?=some v:=by have:=congrArg (fun l=>l[0]?) h;grind
  have h':vs.drop (k+1)=l:=by have:=congrArg (fun l=>l.drop 1) h;grind [List.drop_drop]
  simp only[List.length_cons,List.range'_succ,ot,hv,gB]
  cases bm r v st with
  | none=>rfl
  | some st1=>exact aio h'
theorem aum {ro:Option Nat}(hr:ep P r) (hcs:eK P r) {n:Nat}{ops:Array Oper}{vs:List VI}(ds:List Deferred) (h:mp P n ops [] vs ops.toList=true) {Q:Exit→Act→World→Prop}{id:Nat}(hn:t.size=n)
  (s:S P g w st t O) (hrun:gB r vs st=some st') (hq:∀ w' t' g' O',dJ P g w t O st' t' w' g' O'→Q .normal ⟨t',ds⟩ w'):(Code.region id ops true).wpIn (FR ro) 0 P Q ⟨t,ds⟩ w:=by
 have hok:=ax6 h;refine wpIn_region_draw fun tt=>?_
 have hx:aI g w g w.drew fun _=>False:=aI.drew _ _ _
 have sd:=s.extF hx rfl s.pmlt;have hrun':ot r vs (List.range ops.size) st=some st':=by
  rw[←hok.len,List.range_eq_range']
  grind [aio]
 have hleft:ZS ops.size (Array.replicate ops.size false) (List.range ops.size):=by
  refine⟨List.pairwise_lt_range,fun i hi=>List.mem_range.1 hi,by simp,fun i hi=>?_⟩
  simp_all
 have key:∀ m tt,wpOpsIn (FR ro) 0 P ops Q (Region.linearise m ops tt) ⟨t,ds⟩ w.drew:=fun m tt =>
  ari (ro:=ro) hr hcs hok ds m (by simp) hleft hn sd hrun' fun w' t' g' O' G=>hq _ _ _ _ ⟨G.st,(hx.mono (T:=fun b=>O b≠0) fun _ _ h=>h.elim).trans G.ext fun _ _ h=>h,G.old,G.size⟩
 unfold Region.schedule;split<;>simp_all
end
abbrev HK:=HS→(HS→Prop)→(HS→HS)→Prop
def eU (K:HK) (f:St→Option (AV×St)) (R M:List Nat):Prop :=
 ∀ e hs v st1,f ⟨e,hs⟩=some (v,st1)→∃ ρ τ,K hs ρ τ∧st1.hs=τ hs∧(bg e→bg st1.env)∧(∀ k,k∉M→get st1.env k=get e k)∧
  ∀ e' hs',(∀ k∈R,get e' k=get e k)→ρ hs'→∃ e1',f ⟨e',hs'⟩=some (v,⟨e1',τ hs'⟩)∧(∀ k,k∉M→get e1' k=get e' k)∧∀ k∈M,get e1' k=get st1.env k
def NB (K:HK) (f:St→Option St) (R M:List Nat):Prop :=
 ∀ e hs st1,f ⟨e,hs⟩=some st1→∃ ρ τ,K hs ρ τ∧st1.hs=τ hs∧(bg e→bg st1.env)∧(∀ k,k∉M→get st1.env k=get e k)∧
  ∀ e' hs',(∀ k∈R,get e' k=get e k)→ρ hs'→∃ e1',f ⟨e',hs'⟩=some ⟨e1',τ hs'⟩∧(∀ k,k∉M→get e1' k=get e' k)∧∀ k∈M,get e1' k=get st1.env k
def KQ:HK:=fun hs ρ τ=>(∀ hs',bB hs.heap hs'.heap→ρ hs')∧∀ hs',τ hs'=hs'
def yN (h:ac) (id:Nat):Option Obj→ac
 | none=>h
 | some o=>put h id o
def KT:HK:=fun hs ρ τ=>(∃ id o0 o,get hs.heap id=some o0∧(∀ hs',get hs'.heap id=some o0→ρ hs')∧(∀ hs',τ hs'=⟨yN hs'.heap id o,hs'.next⟩)∧
 ∀ o1,o=some o1→fK o0 o1)∨(∀ hs',ρ hs')∧∀ hs',τ hs'=hs'
def push:HS→List Obj→HS
 | hs,[]=>hs
 | hs,o::os=>push ⟨put hs.heap hs.next o,hs.next+1⟩ os
def KA:HK:=fun hs ρ τ=>∃ os,(∀ hs',bB hs.heap hs'.heap→hs'.next=hs.next→ρ hs')∧∀ hs',hs'.next=hs.next→τ hs'=push hs' os
def KP:HK:=fun hs ρ τ=>KQ hs ρ τ∨∃ id,(∃ m xs,get hs.heap id=some (.arr m xs))∧(∀ hs',bB hs.heap hs'.heap→ρ hs')∧∀ hs',τ hs'=⟨del hs'.heap id,hs'.next⟩
theorem bB.del {h:ac}(id:Nat):bB (del h id) h:=by
 intro k o hk;rw[AX]at hk;split at hk
 ·simp at hk
 ·exact⟨o,hk,by cases o<;>simp[fK]⟩
theorem ajb (m:Nat) (x y:Rd):eU KP (Aq m x y) (aS [x,y]) (aA [x,y]):=by
 intro e hs v st1 hf;unfold Aq at hf;split at hf
 ·rename_i a e1 hr;split at hf
  ·rename_i b e2 hr2;split at hf
   ·rename_i ys hy;split at hf
    ·split at hf
     ·rename_i w h1 ha;simp only[Option.some.injEq,Prod.mk.injEq]at hf;obtain⟨rfl,rfl⟩:=hf;have hall:rdAll e [x,y]=some ([a,b],e2):=by grind [rdAll]
      obtain⟨s1,g1,l1⟩:=DJ hall;have back:∀ e' hs' h1',(∀ k∈aS [x,y],get e' k=get e k)→bB hs.heap hs'.heap→ct m hs'.heap a ys=some (w,h1')→
        ∃ e1',Aq m x y ⟨e',hs'⟩=some (w,⟨e1',⟨h1',hs'.next⟩⟩)∧(∀ k,k∉aA [x,y]→get e1' k=get e' k)∧∀ k∈aA [x,y],get e1' k=get e2 k:=by
       intro e' hs' h1' he hle happ;obtain⟨e1',hr',g1'⟩:=l1 e' he;refine⟨e1',?_,fun k hk=>by simp_all,fun k hk=>by simp_all⟩;simp only[rdAll]at hr';split at hr'<;>grind [Aq,bB.elems]
      unfold ct at ha;split at ha
      ·simp at ha
      ·split at ha
       ·obtain⟨rfl,rfl⟩:=ha;exact⟨fun hs'=>bB hs.heap hs'.heap,id,.inl ⟨fun _ h=>h,fun _=>rfl⟩,rfl,s1,fun k hk=>by simp_all,fun e' hs' he hρ=>back e' hs' _ he hρ (by grind [ct])⟩
       ·split at ha
        ·obtain⟨rfl,rfl⟩:=ha;exact⟨fun hs'=>bB hs.heap hs'.heap,id,.inl ⟨fun _ h=>h,fun _=>rfl⟩,rfl,s1,fun k hk=>by simp_all,fun e' hs' he hρ=>back e' hs' _ he hρ (by grind [ct])⟩
        simp_all
       ·rename_i id off len;split at ha
        ·rename_i k xs hg;split at ha
         ·obtain⟨rfl,rfl⟩:=ha;exact⟨fun hs'=>bB hs.heap hs'.heap,fun hs'=>⟨Go.Vm.del hs'.heap id,hs'.next⟩,.inr ⟨id,⟨_,_,hg⟩,fun _ h=>h,fun _=>rfl⟩,rfl,s1,fun k hk=>by simp_all,fun e' hs' he hρ=>back e' hs' _ he hρ (by grind [ct,bB.arr])⟩
         simp_all
        simp_all
       simp_all
     simp_all
    simp_all
   simp_all
  simp_all
 simp_all
theorem fK.symm {a b:Obj}(h:fK a b):fK b a:=by
 cases a<;>cases b<;>simp_all [fK]
theorem avW {f:St→Option (AV×St)}{R M:List Nat}(h:cx f R M):eU KQ f R M:=by
 intro e hs v st1 hf;obtain⟨h1,h2,h3,h4⟩:=h e hs v st1 hf;exact⟨fun hs'=>bB hs.heap hs'.heap,id,⟨fun _ h=>h,fun _=>rfl⟩,h1,h2,h3,h4⟩
mutual
theorem xu:∀ (v:AV),share (share v)=share v
 | .own p m xs=>by cases p<;>rfl
 | .agg cs=>by simp only[share,shareAll_share cs]
 | .tup cs=>by simp only[share,shareAll_share cs]
 | .junk | .d _ | .nl | .gl _ | .nilp | .ptr _ _ | .pel _ _ _ | .pim _ _ | .sl _ _ _ | .fn _ _ _ | .nilf | .yield _=>by rfl
theorem shareAll_share:∀ (vs:List AV),shareAll (shareAll vs)=shareAll vs
 | []=>rfl
 | v::r=>by simp only[kj,xu v,shareAll_share r]
end
theorem FE:∀ (vs:List AV),shareAll (cY 2 vs).2=shareAll vs
 | []=>rfl
 | v::r=>by
  simp only[cY,kj,FE r]
  grind [kT,xu]
theorem az5 {h h1:ac}{n:Option Nat}{p v:AV}(hl:loadAt h n 2 p=some (v,h1)) :
  (∃ id o0 o,get h id=some o0∧h1=yN h id o∧(∀ o1,o=some o1→fK o0 o1)∧∀ h',get h' id=some o0→loadAt h' n 2 p=some (v,yN h' id o))∨
   h1=h∧∀ h',loadAt h' n 2 p=some (v,h'):=by
 cases p<;>simp only[loadAt,reduceCtorEq]at hl
 ·rename_i id off;split at hl
  ·rename_i cs hg
   cases n with
   | none =>
    simp only at hl;split at hl
    ·simp at hl
    ·rename_i u hu;obtain⟨rfl,rfl⟩:=hl;refine .inl ⟨id,_,some (.cells (cs.set off (kT 2 u).2)),hg,rfl,fun o1 ho=>?_,fun h' he=>?_⟩
     ·simp only[Option.some.injEq]at ho;subst ho;simp only[fK,gg,kT];refine List.ext_getElem? fun i=>?_
      grind [xu]
     ·simp only[loadAt,he,hu];rfl
   | some m =>
    simp only at hl;split at hl
    ·rename_i hb;obtain⟨rfl,rfl⟩:=hl;refine .inl ⟨id,_,some (.cells (ah cs off (cY 2 (sub cs off m)).2)),hg,rfl,fun o1 ho=>?_,fun h' he=>?_⟩
     ·simp only[fK]
      grind [Nat.le_of_ble_eq_true,FE,gg,List.length_map,sub,ah,List.map_drop,List.take_append_drop]
     ·simp only[loadAt,he,hb];rfl
    simp_all
  simp_all
 ·rename_i id i off;split at hl
  ·rename_i m xs hg;split at hl
   ·rename_i x hx;split at hl
    ·rename_i u hu;obtain⟨rfl,rfl⟩:=hl;exact .inl ⟨id,_,none,hg,rfl,fun o1 ho=>by simp at ho,fun h' he=>by simp only[loadAt,he,hx,hu];rfl⟩
    simp_all
   simp_all
  simp_all
 grind [loadAt]
theorem avf (n:Option Nat) (p:Rd):eU KT (wz n 2 p) (jN p) (gq p):=by
 intro e hs v st1 hf;unfold wz at hf;split at hf
 ·rename_i u e1 hr;split at hf
  ·rename_i w h1 hl;obtain⟨rfl,rfl⟩:=hf;obtain⟨s1,g1,l1⟩:=Mm hr;rcases az5 hl with ⟨id,o0,o,k0,k1,k2,k3⟩ | ⟨k1,k3⟩
   ·refine⟨fun hs'=>get hs'.heap id=some o0,fun hs'=>⟨yN hs'.heap id o,hs'.next⟩,.inl ⟨id,o0,o,k0,fun _ h=>h,fun _=>rfl,k2⟩,by rw[k1],s1,fun k hk=>by simp_all,fun e' hs' he hρ=>?_⟩;obtain⟨e1',hr',g1'⟩:=l1 e' he
    simp_all [wz]
   ·refine⟨fun _=>True,id,.inr ⟨fun _=>trivial,fun _=>rfl⟩,by simp_all,s1,fun k hk=>by simp_all,fun e' hs' he _=>?_⟩;obtain⟨e1',hr',g1'⟩:=l1 e' he
    simp_all [wz]
  simp_all
 simp_all
section
variable {r:bD}{K:HK}
theorem N4 (d:Option Nat) (v:AV) (st:St):(bc d v st).hs=st.hs∧(bg st.env→bg (bc d v st).env)∧∀ k,get (bc d v st).env k=if d=some k then some v else get st.env k:=by
 cases hd:d<;>grind [bc,bg.put,cU]
theorem Nr {i:VI}{M0:List Nat}{k:Nat}(hk:k∉qr i M0):i.dst≠some k∧k∉M0:=by
 grind [qr]
theorem anm {i:VI}{M0:List Nat}{k:Nat}(hk:k∈qr i M0):i.dst=some k∨k∈M0:=by
 grind [qr]
theorem my {i:VI}{R0 M0:List Nat}{f:St→Option (AV×St)}(hf:∀ st,dl r i st=match f st with | some (v,st)=>some (bc i.dst v st) | none=>none) (hl:eU K f R0 M0) (hid:∀ hs,K hs (fun _=>True) id) :
  NB K (bm r i) (JI i (R0++M0)) (qr i M0):=by
 have go:∀ e hs st1,dl r i ⟨e,hs⟩=some st1→∃ ρ τ,K hs ρ τ∧st1.hs=τ hs∧(bg e→bg st1.env)∧(∀ k,k∉qr i M0→get st1.env k=get e k)∧
   ∀ e' hs',(∀ k∈R0++M0,get e' k=get e k)→ρ hs'→∃ e1',dl r i ⟨e',hs'⟩=some ⟨e1',τ hs'⟩∧(∀ k,k∉qr i M0→get e1' k=get e' k)∧∀ k∈qr i M0,get e1' k=get st1.env k:=by
  intro e hs st1 h;rw[hf]at h;split at h
  ·rename_i v st0 hv;simp only[Option.some.injEq]at h;subst h;obtain⟨ρ,τ,hK,q1,q2,q3,q4⟩:=hl e hs v st0 hv;obtain⟨t1,t2,t3⟩:=N4 i.dst v st0;refine⟨ρ,τ,hK,t1.trans q1,fun h=>t2 (q2 h),fun k hk=>?_,fun e' hs' he hρ=>?_⟩
   ·grind [Nr]
   ·obtain⟨e1',p1,p2,p3⟩:=q4 e' hs' (fun k hk=>he k (List.mem_append_left _ hk)) hρ;obtain⟨u1,u2,u3⟩:=N4 i.dst v ⟨e1',τ hs'⟩;refine⟨(bc i.dst v ⟨e1',τ hs'⟩).env,?_,fun k hk=>?_,fun k hk=>?_⟩
    ·rw[hf,p1]
     cases i.dst<;>rfl
    all_goals grind [Nr,anm]
  simp_all
 have no:∀ e hs,(bc i.dst (.tup []) ⟨e,hs⟩).hs=hs∧(bg e→bg (bc i.dst (.tup []) ⟨e,hs⟩).env)∧(∀ k,k∉qr i M0→get (bc i.dst (.tup []) ⟨e,hs⟩).env k=get e k)∧
   ∀ e' hs',(∀ k∈R0++M0,get e' k=get e k)→(∀ k,k∉qr i M0→get (bc i.dst (.tup []) ⟨e',hs'⟩).env k=get e' k)∧
    ∀ k∈qr i M0,get (bc i.dst (.tup []) ⟨e',hs'⟩).env k=get (bc i.dst (.tup []) ⟨e,hs⟩).env k:=by
  intro e hs;obtain⟨t1,t2,t3⟩:=N4 i.dst (.tup []) ⟨e,hs⟩;refine⟨t1,t2,fun k hk=>?_,fun e' hs' he=>?_⟩
  ·rw[t3,if_neg (Nr hk).1]
  grind [N4,Nr,anm]
 intro e hs st1 h;unfold bm at h
 cases hg:i.guard with
 | none =>
  simp_all [JI,bm]
 | some sw =>
  obtain⟨sl,want⟩:=sw;rw[hg]at h;simp only at h;have hgs:JI i (R0++M0)=sl::(R0++M0):=by unfold JI;rw[hg]
  rw[hgs];have hsl:∀ e',(∀ k∈sl::(R0++M0),get e' k=get e k)→get e' sl=get e sl:=fun e' he=>he sl (.head _)
  have hre:∀ e',(∀ k∈sl::(R0++M0),get e' k=get e k)→∀ k∈R0++M0,get e' k=get e k:=fun e' he k hk=>he k (.tail _ hk)
  split at h
  ·rename_i b hb;split at h
   ·obtain⟨ρ,τ,hK,q1,q2,q3,q4⟩:=go e hs st1 h;refine⟨ρ,τ,hK,q1,q2,q3,fun e' hs' he hρ=>?_⟩;obtain⟨e1',p1,p2,p3⟩:=q4 e' hs' (hre e' he) hρ
    grind [bm]
   ·rename_i hbw;simp only[Option.some.injEq]at h;subst h;obtain⟨q1,q2,q3,q4⟩:=no e hs;refine⟨fun _=>True,id,hid hs,q1,q2,q3,fun e' hs' he _=>?_⟩;obtain⟨p2,p3⟩:=q4 e' hs' (hre e' he);refine⟨(bc i.dst (.tup []) ⟨e',hs'⟩).env,?_,p2,p3⟩;unfold bm;rw[hg];simp only[hsl e' he,hb,hbw,Option.some.injEq]
    cases i.dst<;>rfl
  ·rename_i hb;simp only[Option.some.injEq]at h;subst h;obtain⟨q1,q2,q3,q4⟩:=no e hs;refine⟨fun _=>True,id,hid hs,q1,q2,q3,fun e' hs' he _=>?_⟩;obtain⟨p2,p3⟩:=q4 e' hs' (hre e' he);refine⟨(bc i.dst (.tup []) ⟨e',hs'⟩).env,?_,p2,p3⟩;unfold bm;rw[hg];simp only[hsl e' he,hb,Option.some.injEq]
   cases i.dst<;>rfl
  grind
theorem KQ.id (hs:HS):KQ hs (fun _=>True) _root_.id:=⟨fun _ _=>trivial,fun _=>rfl⟩
theorem KT.id (hs:HS):KT hs (fun _=>True) _root_.id:=.inr ⟨fun _=>trivial,fun _=>rfl⟩
theorem KP.id (hs:HS):KP hs (fun _=>True) _root_.id:=.inl (KQ.id hs)
theorem KA.id (hs:HS):KA hs (fun _=>True) _root_.id:=⟨[],fun _ _ _=>trivial,fun _ _=>rfl⟩
theorem afz:∀ (os:List Obj) (hs:HS),(push hs os).next=hs.next+os.length
 | [],_=>rfl
 | o::os,hs=>by simp only[push,afz os,List.length_cons];omega
theorem aiC:∀ (a b:List Obj) (hs:HS),push hs (a++b)=push (push hs a) b
 | [],_,_=>rfl
 | o::a,b,hs=>by simp only[List.cons_append,push,aiC a b]
theorem Mn (n:Nat) (v:AV):∃ u os,∀ hs:HS,hs.next=n→jv hs v=(u,push hs os):=by
 have same:(∀ hs,jv hs v=(v,hs))→∃ u os,∀ hs:HS,hs.next=n→jv hs v=(u,push hs os):=fun h=>⟨v,[],fun hs _=>h hs⟩
 cases v<;>try exact same fun hs=>rfl
 rename_i p m xs
 cases p with
 | false=>exact same fun hs=>rfl
 | true =>
  cases hm:Nat.beq m 0 with
  | true=>simp_all [jv]
  | false =>
   refine⟨.sl n 0 xs.length,[.arr m xs],fun hs hn=>?_⟩
   grind [jv,push]
theorem Jv (n o:Nat) (v:AV):∃ u os,∀ hs:HS,hs.next=n→je hs o v=(u,push hs os):=by
 have one:(∀ hs,je hs o v=jv hs v)→∃ u os,∀ hs:HS,hs.next=n→je hs o v=(u,push hs os):=fun h=>by
  simp_all [Mn]
 cases v<;>try exact one fun hs=>rfl
 rename_i cs
 cases hc:cs[o]? with
 | none=>exact⟨.agg cs,[],fun hs _=>by grind [je,push]⟩
 | some v =>
  obtain⟨u,os,k⟩:=Mn n v;exact⟨.agg (cs.set o u),os,fun hs hn=>by grind [je]⟩
theorem ahF (n:Nat) (p:Nat×Nat) (v:AV):∃ u os,∀ hs:HS,hs.next=n→kP hs p v=(u,push hs os):=by
 have one:(∀ hs,kP hs p v=je hs p.2 v)→∃ u os,∀ hs:HS,hs.next=n→kP hs p v=(u,push hs os):=fun h=>by
  simp_all [Jv]
 cases v<;>try exact one fun hs=>rfl
 rename_i cs
 cases hc:cs[p.1]? with
 | none=>exact⟨.tup cs,[],fun hs _=>by grind [kP,push]⟩
 | some v =>
  obtain⟨u,os,k⟩:=Jv n p.2 v;exact⟨.tup (cs.set p.1 u),os,fun hs hn=>by grind [kP]⟩
theorem Gv:∀ (th:List (Nat×Nat)) (n:Nat) (v:AV),∃ u os,∀ hs:HS,hs.next=n→bO th v hs=(u,push hs os)
 | [],n,v=>⟨v,[],fun hs _=>rfl⟩
 | p::r,n,v=>by
  obtain⟨u,os,k⟩:=ahF n p v;obtain⟨u2,os2,k2⟩:=Gv r (n+os.length) u;refine⟨u2,os++os2,fun hs hn=>?_⟩
  grind [bO,afz,aiC]
end
def t9.K:t9→HK
 | .q=>KQ
 | .t=>KT
 | .a=>KA
 | .p=>KP
section
variable {r:bD}
theorem rS {i:VI}(h:i.th=[]) (st:St):dl r i st=match (match bt i.op r st with | some (v,st)=>some (firm v,st) | none=>none) with | some (v,st)=>some (bc i.dst v st) | none=>none:=by
 grind [dl]
theorem eU.firm {K:HK}{f:St→Option (AV×St)}{R M:List Nat}(h:eU K f R M):eU K (fun st=>match f st with | some (v,st)=>some (firm v,st) | none=>none) R M:=by
 intro e hs v st1 hf;simp only at hf;split at hf
 ·rename_i u st0 hu;simp only[Option.some.injEq,Prod.mk.injEq]at hf;obtain⟨rfl,rfl⟩:=hf;obtain⟨ρ,τ,h1,h2,h3,h4,h5⟩:=h e hs u st0 hu;refine⟨ρ,τ,h1,h2,h3,h4,fun e' hs' he hρ=>?_⟩;obtain⟨e1',q1,q2,q3⟩:=h5 e' hs' he hρ
  simp_all
 simp_all
theorem apa (zs:List AV):eU KA (F7 zs) [] []:=by
 intro e hs v st1 hf;obtain⟨rfl,rfl⟩:=hf;refine⟨fun hs'=>hs'.next=hs.next,fun hs'=>push hs' [.cells zs],⟨[.cells zs],fun _ _ h=>h,fun _ _=>rfl⟩,rfl,fun h=>h,fun _ _=>rfl,fun e' hs' _ hn=>⟨e',?_,fun _ _=>rfl,fun k hk=>by simp at hk⟩⟩;simp only[F7,hn];rfl
theorem asx (x:Rd):eU KA (Nm x) (jN x) (gq x):=by
 intro e hs v st1 hf;unfold Nm at hf;split at hf
 ·rename_i u e1 hr;split at hf
  ·rename_i hc;obtain⟨rfl,rfl⟩:=hf;obtain⟨s1,g1,l1⟩:=Mm hr;refine⟨fun hs'=>hs'.next=hs.next,fun hs'=>push hs' [.cells u.cells],⟨[.cells u.cells],fun _ _ h=>h,fun _ _=>rfl⟩,rfl,s1,fun k hk=>by simp_all,fun e' hs' he hn=>?_⟩;obtain⟨e1',hr',g1'⟩:=l1 e' he;refine⟨e1',?_,fun k hk=>by simp_all,fun k hk=>by simp_all⟩;unfold Nm;simp only[hr',hc,hn];rfl
  simp_all
 simp_all
theorem amQ {i:VI}{p:Nat×Nat}{th:List (Nat×Nat)}(h:i.th=p::th) (st:St):dl r i st=match (match bt i.op r st with | some (v,st)=>some (firm (bO (p::th) v st.hs).1,(⟨st.env,(bO (p::th) v st.hs).2⟩:St)) | none=>none) with | some (v,st)=>some (bc i.dst v st) | none=>none:=by
 grind [dl]
theorem eU.thaw {f:St→Option (AV×St)}{R M:List Nat}(h:cx f R M) (th:List (Nat×Nat)):eU KA (fun st=>match f st with | some (v,st)=>some (Go.Vm.firm (bO th v st.hs).1,(⟨st.env,(bO th v st.hs).2⟩:St)) | none=>none) R M:=by
 intro e hs v st1 hf;simp only at hf;split at hf
 ·rename_i u st0 hu;obtain⟨rfl,rfl⟩:=hf;obtain⟨h1,h2,h3,h4⟩:=h e hs u st0 hu;obtain⟨w,os,hw⟩:=Gv th hs.next u;refine⟨fun hs'=>bB hs.heap hs'.heap∧hs'.next=hs.next,fun hs'=>push hs' os,⟨os,fun _ a b=>⟨a,b⟩,fun _ _=>rfl⟩,?_,h2,h3,fun e' hs' he hρ=>?_⟩
  ·simp_all
  ·obtain⟨e1',q1,q2,q3⟩:=h4 e' hs' he hρ.1
   simp_all
 simp_all
theorem jK {i:VI}{k:t9}{R M:List Nat}(h:fH i=some (k,R,M)):NB k.K (bm r i) R M:=by
 unfold fH at h;split at h
 ·rename_i p th hth;split at h
  ·rename_i R0 M0 hf;obtain⟨rfl,rfl,rfl⟩:=h;exact my (amQ hth) (eU.thaw (UI (r:=r) hf) (p::th)) KA.id
  simp_all
 ·rename_i hth;split at h
  ·rename_i n p ho;obtain⟨rfl,rfl,rfl⟩:=h;exact my (rS hth) (eU.firm (by rw[ho];exact avf n p)) KT.id
  ·rename_i m x y ho;obtain⟨rfl,rfl,rfl⟩:=h;exact my (rS hth) (eU.firm (by rw[ho];exact ajb m _ y)) KP.id
  ·rename_i m x y ho;obtain⟨rfl,rfl,rfl⟩:=h;exact my (rS hth) (eU.firm (by rw[ho];exact ajb m _ y)) KP.id
  ·rename_i zs ho;obtain⟨rfl,rfl,rfl⟩:=h;exact my (rS hth) (eU.firm (by rw[ho];exact apa zs)) KA.id
  ·rename_i x ho;obtain⟨rfl,rfl,rfl⟩:=h;exact my (rS hth) (eU.firm (by rw[ho];exact asx x)) KA.id
  ·split at h
   ·rename_i R0 M0 hf;obtain⟨rfl,rfl,rfl⟩:=h;exact my (rS hth) (eU.firm (avW (UI (r:=r) hf))) KQ.id
   simp_all
structure bw (st:St):Prop where
 se:bg st.env
 sh:bg st.hs.heap
 fr:∀ id,st.hs.next≤id→get st.hs.heap id=none
theorem Hf (h:ac) (id k:Nat) (o:Option Obj):get (yN h id o) k=match o with | none=>get h k | some o=>if k=id then some o else get h k:=by
 cases o with
 | none=>rfl
 | some o=>exact cU h id k o
theorem S8 {h:ac}(hs:bg h) (id:Nat) (o:Option Obj):bg (yN h id o):=by
 cases o with
 | none=>exact hs
 | some o=>exact hs.put _ _
theorem R6:∀ (os:List Obj) (hs:HS) (k:Nat),k<hs.next→get (push hs os).heap k=get hs.heap k
 | [],_,_,_=>rfl
 | o::os,hs,k,hk=>by
  rw[push,R6 os _ k (by grind)]
  grind [cU]
theorem anl:∀ (os:List Obj) (hs:HS),(∀ id,hs.next≤id→get hs.heap id=none)→∀ id,(push hs os).next≤id→get (push hs os).heap id=none
 | [],_,h=>h
 | o::os,hs,h=>anl os _ fun id hid=>by
  grind [cU]
theorem ake:∀ (os:List Obj) (hs:HS),bg hs.heap→bg (push hs os).heap
 | [],_,h=>h
 | o::os,hs,h=>ake os _ (h.put _ _)
theorem ajw:∀ (os:List Obj) (hs:HS) (id:Nat) (o:Option Obj),bg hs.heap→id<hs.next→push ⟨yN hs.heap id o,hs.next⟩ os=⟨yN (push hs os).heap id o,(push hs os).next⟩
 | [],_,_,_,_,_=>rfl
 | p::os,hs,id,o,hsrt,hid=>by
  have e:put (yN hs.heap id o) hs.next p=yN (put hs.heap hs.next p) id o:=by
   refine np ((S8 hsrt id o).put _ _) (S8 (hsrt.put _ _) id o) fun k=>?_
   grind [cU,Hf]
  simp only[push];rw[e];exact ajw os ⟨put hs.heap hs.next p,hs.next+1⟩ id o (hsrt.put _ _) (by grind)
theorem bB.push {hs:HS}(fr:∀ id,hs.next≤id→get hs.heap id=none) (os:List Obj):bB hs.heap (push hs os).heap:=by
 intro id o h
 grind [fK.refl,R6]
theorem bB.upd {h:ac}{id:Nat}{o0:Obj}{o:Option Obj}(g:get h id=some o0) (ho:∀ o1,o=some o1→fK o0 o1):bB h (yN h id o)∧bB (yN h id o) h:=by
 constructor
 ·intro k x hx
  grind [Hf,fK.refl]
 ·intro k x hx
  grind [Hf,fK.refl,fK.symm]
theorem Cl {i:VI}{k:t9}{R M:List Nat}(h:fH i=some (k,R,M)) {st st1:St}(inv:bw st) (hr:bm r i st=some st1):bw st1:=by
 obtain⟨e,hs⟩:=st;obtain⟨ρ,τ,hK,h1,h2,_,_⟩:=jK (r:=r) h e hs st1 hr;refine⟨h2 inv.se,?_,?_⟩
 ·rw[h1]
  cases k with
  | q=>rw[hK.2 hs];exact inv.sh
  | t =>
   rcases hK with ⟨id,o0,o,g,_,ht,_⟩ | ⟨_,ht⟩
   ·rw[ht];exact S8 inv.sh _ _
   ·rw[ht];exact inv.sh
  | a=>obtain⟨os,_,ht⟩:=hK;rw[ht hs rfl];exact ake _ _ inv.sh
  | p =>
   rcases hK with hK | ⟨id,_,_,ht⟩
   ·rw[hK.2 hs];exact inv.sh
   ·rw[ht];exact inv.sh.del _
 ·rw[h1]
  cases k with
  | q=>rw[hK.2 hs];exact inv.fr
  | t =>
   rcases hK with ⟨id,o0,o,g,_,ht,_⟩ | ⟨_,ht⟩
   ·rw[ht];intro k hk;have:=inv.fr k hk
    grind [Hf]
   ·rw[ht];exact inv.fr
  | a=>obtain⟨os,_,ht⟩:=hK;rw[ht hs rfl];exact anl _ _ inv.fr
  | p =>
   rcases hK with hK | ⟨id,_,_,ht⟩
   ·rw[hK.2 hs];exact inv.fr
   ·rw[ht];intro k hk;rw[AX];split
    ·rfl
    ·exact inv.fr k hk
theorem an0 {u v:VI}(h:AS u v=true) {st st1 st2:St}(inv:bw st) (a:bm r u st=some st1) (b:bm r v st1=some st2):∃ st1',bm r v st=some st1'∧bm r u st1'=some st2:=by
 unfold AS at h;split at h
 ·rename_i k1 R1 M1 k2 R2 M2 e1 e2;simp only[Bool.and_eq_true]at h;obtain⟨⟨⟨hk,a1⟩,a2⟩,a3⟩:=h;have d1:∀ k∈M1,k∉R2∧k∉M2:=fun k hk=>⟨fh a1 k hk,fh a2 k hk⟩
  have d2:∀ k∈M2,k∉R1∧k∉M1:=fun k hk=>⟨fh a3 k hk,fun h=>fh a2 k h hk⟩
  have inv1:=Cl e1 inv a;have inv2:=Cl e2 inv1 b;obtain⟨e,hs⟩:=st;obtain⟨ρ1,τ1,K1,q1,q2,q3,q4⟩:=jK (r:=r) e1 e hs _ a;obtain⟨en1,hs1⟩:=st1;subst q1;obtain⟨ρ2,τ2,K2,p1,p2,p3,p4⟩:=jK (r:=r) e2 en1 (τ1 hs) _ b;have key:ρ2 hs∧ρ1 (τ2 hs)∧τ1 (τ2 hs)=τ2 (τ1 hs):=by
   cases k1 with
   | a=>grind [sQ]
   | p =>
    cases k2 with
    | t=>grind [sQ]
    | a=>grind [sQ]
    | p=>grind [sQ]
    | q =>
     have ht:∀ x,τ2 x=x:=K2.2;rcases K1 with K1 | ⟨id,_,hρ,hτ⟩
     ·rw[K1.2 hs]at K2;exact⟨K2.1 _ (.refl _),by rw[ht];exact K1.1 _ (.refl _),by simp_all⟩
     ·exact⟨K2.1 _ (by grind [bB.del]),by grind [bB.refl],by simp_all⟩
   | q =>
    have ht:∀ x,τ1 x=x:=K1.2
    cases k2 with
    | p=>grind [sQ]
    | q =>
     rw[ht hs]at K2;exact⟨K2.1 _ (.refl _),by rw[K2.2];exact K1.1 _ (.refl _),by simp_all⟩
    | t =>
     rw[ht hs]at K2;rcases K2 with ⟨id,o0,o,g,hρ,hτ,hl⟩ | ⟨hρ,hτ⟩
     ·exact⟨hρ _ g,by rw[hτ];exact K1.1 _ (bB.upd g hl).1,by simp_all⟩
     ·exact⟨hρ _,by rw[hτ];exact K1.1 _ (.refl _),by simp_all⟩
    | a =>
     rw[ht hs]at K2;obtain⟨os,hρ,hτ⟩:=K2;exact⟨hρ _ (.refl _) rfl,by rw[hτ _ rfl];exact K1.1 _ (bB.push inv.fr os),by simp_all⟩
   | t =>
    cases k2 with
    | t=>grind [sQ]
    | p=>grind [sQ]
    | q =>
     have ht:∀ x,τ2 x=x:=K2.2;rcases K1 with ⟨id,o0,o,g,hρ,hτ,hl⟩ | ⟨hρ,hτ⟩
     ·exact⟨K2.1 _ (by grind [bB.upd]),by simp_all,by simp_all⟩
     ·exact⟨K2.1 _ (by grind [bB.refl]),hρ _,by simp_all⟩
    | a =>
     obtain⟨os,hρ2,hτ2⟩:=K2;rcases K1 with ⟨id,o0,o,g,hρ,hτ,hl⟩ | ⟨hρ,hτ⟩
     ·have hn:(τ1 hs).next=hs.next:=by rw[hτ]
      have hid:id<hs.next:=by
       rcases Nat.lt_or_ge id hs.next with h1 | h1
       ·exact h1
       ·have:=inv.fr id h1;simp_all
      refine⟨hρ2 _ (by grind [bB.upd]) hn.symm,?_,?_⟩
      ·grind [R6]
      ·rw[hτ2 _ hn.symm,hτ2 _ rfl,hτ,hτ];exact(ajw os hs id o inv.sh hid).symm
     grind [bB.refl]
  obtain⟨c1,c2,c3⟩:=key;obtain⟨e1',k1',k2',k3'⟩:=p4 e hs (fun k hk=>(q3 k (fun hm=>(d1 k hm).1 hk)).symm) c1;obtain⟨e2',m1,m2,m3⟩:=q4 e1' (τ2 hs) (fun k hk=>k2' k fun hm=>(d2 k hm).1 hk) c2;have invA:=Cl e2 inv k1';have invB:=Cl e1 invA m1;refine⟨⟨e1',τ2 hs⟩,k1',?_⟩;rw[m1,c3]
  congr 2
  refine np invB.se inv2.se fun k=>?_
  by_cases hk1:k∈M1
  all_goals grind
 simp_all
end
mutual
theorem aqd:∀ (a b:D),Ju a b=true→a=b
 | .int k n,b,h=>by
  cases b<;>simp only[Ju,Bool.false_eq_true,Bool.and_eq_true,decide_eq_true_eq]at h
  rw[xK h.1,h.2]
 | .bool x,b,h=>by
  cases b<;>simp only[Ju,Bool.false_eq_true,beq_iff_eq]at h
  rw[h]
 | .str s,b,h=>by
  cases b<;>simp only[Ju,Bool.false_eq_true,beq_iff_eq]at h
  rw[h]
 | .lst xs,b,h=>by
  cases b<;>simp only[Ju,Bool.false_eq_true]at h
  rw[eqDss_eq xs _ h]
theorem adw:∀ (a b:List D),LE a b=true→a=b
 | [],b,h=>by cases b<;>simp only[LE,Bool.false_eq_true]at h;rfl
 | x::r,b,h=>by
  cases b<;>simp only[LE,Bool.false_eq_true,Bool.and_eq_true]at h
  rw[aqd x _ h.1,adw r _ h.2]
theorem eqDss_eq:∀ (a b:List (List D)),eqDss a b=true→a=b
 | [],b,h=>by cases b<;>simp only[eqDss,Bool.false_eq_true]at h;rfl
 | x::r,b,h=>by
  cases b<;>simp only[eqDss,Bool.false_eq_true,Bool.and_eq_true]at h
  rw[adw x _ h.1,eqDss_eq r _ h.2]
end
mutual
theorem awC:∀ (a b:AV),eD a b=true→a=b
 | .junk,b,h=>by cases b<;>simp only[eD,Bool.false_eq_true]at h;rfl
 | .d x,b,h=>by
  cases b<;>simp only[eD,Bool.false_eq_true]at h
  rw[aqd x _ h]
 | .nl,b,h=>by cases b<;>simp only[eD,Bool.false_eq_true]at h;rfl
 | .own p m xs,b,h=>by
  cases b<;>simp only[eD,Bool.false_eq_true,Bool.and_eq_true,beq_iff_eq,Nat.beq_eq]at h
  rw[h.1.1,h.1.2,eqDss_eq xs _ h.2]
 | .gl n,b,h=>by
  cases b<;>simp only[eD,Bool.false_eq_true,Nat.beq_eq]at h
  rw[h]
 | .agg cs,b,h=>by
  cases b<;>simp only[eD,Bool.false_eq_true]at h
  rw[eqAVs_eq cs _ h]
 | .tup cs,b,h=>by
  cases b<;>simp only[eD,Bool.false_eq_true]at h
  rw[eqAVs_eq cs _ h]
 | .nilp,b,h=>by cases b<;>simp only[eD,Bool.false_eq_true]at h;rfl
 | .ptr _ _,b,h=>by
  cases b<;>simp only[eD,Bool.false_eq_true,Bool.and_eq_true,Nat.beq_eq]at h
  rw[h.1,h.2]
 | .pel _ _ _,b,h=>by
  cases b<;>simp only[eD,Bool.false_eq_true,Bool.and_eq_true,Nat.beq_eq]at h
  rw[h.1.1,h.1.2,h.2]
 | .pim cs _,b,h=>by
  cases b<;>simp only[eD,Bool.false_eq_true,Bool.and_eq_true,Nat.beq_eq]at h
  rw[adw cs _ h.1,h.2]
 | .sl _ _ _,b,h=>by
  cases b<;>simp only[eD,Bool.false_eq_true,Bool.and_eq_true,Nat.beq_eq]at h
  rw[h.1.1,h.1.2,h.2]
 | .fn _ a c,b,h=>by
  cases b<;>simp only[eD,Bool.false_eq_true,Bool.and_eq_true,Nat.beq_eq]at h
  rw[h.1.1,eqAVs_eq a _ h.1.2,eqAVs_eq c _ h.2]
 | .nilf,b,h=>by cases b<;>simp only[eD,Bool.false_eq_true]at h;rfl
 | .yield _,b,h=>by
  cases b<;>simp only[eD,Bool.false_eq_true,Nat.beq_eq]at h
  rw[h]
theorem eqAVs_eq:∀ (a b:List AV),eqAVs a b=true→a=b
 | [],b,h=>by cases b<;>simp only[eqAVs,Bool.false_eq_true]at h;rfl
 | x::r,b,h=>by
  cases b<;>simp only[eqAVs,Bool.false_eq_true,Bool.and_eq_true]at h
  rw[awC x _ h.1,eqAVs_eq r _ h.2]
end
theorem axH {a b:Obj}(h:eqO a b=true):a=b:=by
 cases a<;>cases b<;>simp only[eqO,Bool.false_eq_true,Bool.and_eq_true,Nat.beq_eq]at h
 all_goals grind [eqAVs_eq,eqDss_eq]
theorem K4 (h:ac) (k:Nat):∀ (ids:List Nat),get (bY ids h) k=if k∈ids then get h k else none
 | []=>by grind [bY,tj]
 | i::r=>by
  have ih:=K4 h k r
  grind [bY,cU]
theorem bB.only (h:ac) (ids:List Nat):bB (bY ids h) h:=by
 intro k o hk
 grind [K4,fK.refl]
theorem afb:∀ {F:List Nat}{h h':ac},bT F h h'=true→∀ {k:Nat}{o:Obj},k∈F→get h k=some o→get h' k=some o
 | [],_,_,_,k,o,hm,_=>by simp at hm
 | i::r,h,h',hs,k,o,hm,hk=>by
  simp only[bT,Bool.and_eq_true]at hs;rcases List.mem_cons.1 hm with e | hm
  ·grind [axH]
  ·exact afb hs.2 hm hk
theorem afv:∀ {F:List Nat}{h h':ac}{i:Nat},bT F h h'=true→i∈F→(match get h i with
   | some o=>(match get h' i with | some o'=>eqO o o' | none=>false)
   | none=>true)=true
 | x::F,h,h',i,hs,hi=>by
  simp only[bT,Bool.and_eq_true]at hs;rcases List.mem_cons.1 hi with e | hi
  ·grind
  ·exact afv hs.2 hi
theorem afe:∀ {F' F:List Nat}{h h':ac},bT F h h'=true→(∀ k∈F',k∈F)→bT F' h h'=true
 | [],_,_,_,_,_=>rfl
 | i::r,F,h,h',hs,hsub=>by
  simp only[bT,Bool.and_eq_true];exact⟨afv hs (hsub i (.head _)),afe hs fun k hk=>hsub k (.tail _ hk)⟩
theorem bB.same {F ids:List Nat}{h h':ac}(hs:bT F h h'=true) (hsub:∀ k∈ids,k∈F):bB (bY ids h) (bY ids h'):=by
 intro k o hk
 grind [K4,afb,fK.refl]
section
variable {r:bD}
def akJ (f:St→Option St) (R M:List Nat):Prop :=
 ∀ e hs st1,f ⟨e,hs⟩=some st1→(bg e→bg st1.env)∧(∀ k,k∉M→get st1.env k=get e k)∧
  ∀ e',(∀ k∈R,get e' k=get e k)→∃ e1',f ⟨e',hs⟩=some ⟨e1',st1.hs⟩∧(∀ k,k∉M→get e1' k=get e' k)∧∀ k∈M,get e1' k=get st1.env k
theorem NB.w {K:HK}{f:St→Option St}{R M:List Nat}(h:NB K f R M) (hK:∀ hs ρ τ,K hs ρ τ→ρ hs):akJ f R M:=by
 intro e hs st1 hf;obtain⟨ρ,τ,k,q1,q2,q3,q4⟩:=h e hs st1 hf;refine⟨q2,q3,fun e' he=>?_⟩;rw[q1];exact q4 e' hs he (hK _ _ _ k)
theorem t9.self (k:t9) (hs:HS) (ρ:HS→Prop) (τ:HS→HS) (h:k.K hs ρ τ):ρ hs:=by
 cases k with
 | q=>exact h.1 _ (.refl _)
 | t =>
  rcases h with ⟨id,o0,o,g,hρ,_⟩ | ⟨hρ,_⟩<;>simp_all
 | a=>obtain⟨os,hρ,_⟩:=h;grind [bB.refl]
 | p =>
  rcases h with h | ⟨id,_,hρ,_⟩
  ·exact h.1 _ (.refl _)
  grind [bB.refl]
def KW:HK:=fun hs ρ _=>ρ hs
theorem KW.id (hs:HS):KW hs (fun _=>True) _root_.id:=trivial
theorem eU.rdsW {f:St→Option (AV×St)}{rs:List Rd}(F:List AV→HS→Option (AV×HS))
  (h:∀ e hs,f ⟨e,hs⟩=match rdAll e rs with | none=>none | some (vs,e1)=>match F vs hs with | none=>none | some (v,hs1)=>some (v,⟨e1,hs1⟩)):eU KW f (aS rs) (aA rs):=by
 intro e hs v st1 hf;rw[h]at hf;split at hf
 ·simp at hf
 ·rename_i vs e1 hr;split at hf
  ·simp at hf
  ·rename_i u hs1 hu;obtain⟨rfl,rfl⟩:=hf;obtain⟨s1,g1,l1⟩:=DJ hr;refine⟨fun hs'=>hs'=hs,fun _=>hs1,rfl,rfl,s1,fun k hk=>by simp_all,fun e' hs' he hρ=>?_⟩;obtain⟨e1',hr',g1'⟩:=l1 e' he
   simp_all
theorem eU.thawW {f:St→Option (AV×St)}{R M:List Nat}(h:eU KW f R M) (th:List (Nat×Nat)):eU KW (fun st=>match f st with | some (v,st)=>some (Go.Vm.firm (bO th v st.hs).1,(⟨st.env,(bO th v st.hs).2⟩:St)) | none=>none) R M:=by
 intro e hs v st1 hf;simp only at hf;split at hf
 ·rename_i u st0 hu;obtain⟨rfl,rfl⟩:=hf;obtain⟨ρ,τ,k,h1,h2,h3,h4⟩:=h e hs u st0 hu;refine⟨fun hs'=>hs'=hs,fun _=>(bO th u st0.hs).2,rfl,rfl,h2,h3,fun e' hs' he hρ=>?_⟩;subst hρ;obtain⟨e1',q1,q2,q3⟩:=h4 e' hs' he k
  simp_all
 simp_all
theorem aq1 {v:j6}{rs:List Rd}(h:atI v=some rs):eU KW (bt v r) (aS rs) (aA rs):=by
 unfold atI at h;split at h<;>simp only[Option.some.injEq,reduceCtorEq]at h<;>subst h
 ·rename_i n t p;refine eU.rdsW (fun vs hs=>match vs with | [p]=>(match loadAt hs.heap n t p with | some (v,h)=>some (v,⟨h,hs.next⟩) | none=>none) | _=>none) fun e hs=>?_
  grind [bt,wz,rdAll]
 ·rename_i n p x;refine eU.rdsW (fun vs hs=>match vs with | [p,v]=>(match storeAt hs.heap n p v with | some h=>some (.junk,⟨h,hs.next⟩) | none=>none) | _=>none) fun e hs=>?_
  simp only[bt,ape,rdAll]
  grind
 ·rename_i m x y;refine eU.rdsW (fun vs hs=>match vs with
   | [a,b]=>(match Yi m (.c a) (.c b) ⟨[],hs⟩ with | some (v,st)=>some (v,st.hs) | none=>none)
   | _=>none) fun e hs=>?_
  simp only[bt,Yi,rdAll]
  cases rd e x with
  | none=>rfl
  | some q =>
   obtain⟨a,e1⟩:=q;simp only
   cases rd e1 y with
   | none=>rfl
   | some q =>
    obtain⟨b,e2⟩:=q;simp only[rd]
    cases elems hs.heap b with
    | none=>rfl
    | some ys =>
     simp only;split<;>grind
 ·rename_i z x;refine eU.rdsW (fun vs hs=>match vs with
   | [a]=>(match Nl z (.c a) ⟨[],hs⟩ with | some (v,st)=>some (v,st.hs) | none=>none)
   | _=>none) fun e hs=>?_
  simp only[bt,Nl,rdAll]
  grind [rd]
 ·rename_i f args;refine eU.rdsW (fun vs hs=>r.call f vs hs) fun e hs=>?_
  grind [bt,xh]
 ·refine eU.rdsW (fun vs hs=>match vs with | fv::vs=>bf r fv vs hs | []=>none) fun e hs=>?_
  grind [bt,xc,rdAll]
theorem sM {i:VI}{R M:List Nat}(h:gh i=some (R,M)):akJ (bm r i) R M:=by
 unfold gh at h;split at h
 ·rename_i k R0 M0 hk;obtain⟨rfl,rfl⟩:=h;exact(jK hk).w k.self
 ·split at h
  ·rename_i rs hrs;obtain⟨rfl,rfl⟩:=h;refine NB.w (K:=KW) ?_ fun _ _ _ h=>h
   cases hth:i.th with
   | nil=>exact my (rS hth) (eU.firm (aq1 hrs)) KW.id
   | cons p th=>exact my (amQ hth) (eU.thawW (aq1 hrs) (p::th)) KW.id
  simp_all
theorem KD {i:VI}{k:t9}{R M:List Nat}(h:fH i=some (k,R,M)) {d:Nat}(hd:i.dst=some d):d∈M:=by
 grind [qr,fH]
theorem yu {i:VI}{R M:List Nat}(h:gh i=some (R,M)) {d:Nat}(hd:i.dst=some d):d∈M:=by
 grind [gh,KD,qr]
theorem Uz {e e':ar}:∀ {ws:List Nat},(∀ k∈ws,get e' k=get e k)→NC e' ws=NC e ws
 | [],_=>rfl
 | w::ws,h=>by
  simp only[NC,h w (.head _),Uz fun k hk=>h k (.tail _ hk)]
theorem gu {a:Bool}{i:VI}{R M:List Nat}(h:qG a i=some (R,M)) (F:List Nat):akJ (aV r a F i) R M:=by
 unfold qG at h;split at h
 ·rename_i R0 M0 hf
  cases a with
  | false =>
   obtain⟨rfl,rfl⟩:=h;exact sM hf
  | true =>
   obtain⟨rfl,rfl⟩:=h;have hl:=sM (r:=r) hf;intro e hs st1 hr;have hids:∀ e',(∀ k∈R0++Mi (Ne i.op),get e' k=get e k)→ju i e'=ju i e:=fun e' he=>Uz fun k hk=>he k (List.mem_append_right _ hk)
   have hR0:∀ e',(∀ k∈R0++Mi (Ne i.op),get e' k=get e k)→∀ k∈R0,get e' k=get e k:=fun e' he k hk=>he k (List.mem_append_left _ hk)
   simp only[aV,oh]at hr;split at hr
   ·split at hr
    ·rename_i st2 h2;split at hr
     ·simp only[Option.some.injEq]at hr;subst hr;obtain⟨q1,q2,q3⟩:=hl e hs _ h2;refine⟨q1,q2,fun e' he=>?_⟩;obtain⟨e1',p1,p2,p3⟩:=q3 e' (hR0 e' he)
      grind [aV,oh]
     simp_all
    simp_all
   ·split at hr
    ·rename_i st2 h2;split at hr
     ·split at hr
      ·split at hr
       ·simp only[Option.some.injEq]at hr;subst hr;obtain⟨q1,q2,q3⟩:=hl e hs _ h2;refine⟨q1,q2,fun e' he=>?_⟩;obtain⟨e1',p1,p2,p3⟩:=q3 e' (hR0 e' he)
        grind [yu,aV,oh]
       simp_all
      simp_all
     simp_all
    simp_all
   ·split at hr
    ·rename_i st2 h2;simp only[Option.some.injEq]at hr;subst hr;obtain⟨q1,q2,q3⟩:=hl e _ _ h2;refine⟨q1,q2,fun e' he=>?_⟩;obtain⟨e1',p1,p2,p3⟩:=q3 e' (hR0 e' he)
     simp_all [aV,oh]
    simp_all
 simp_all
theorem oe {f1 f2:St→Option St}{R1 M1 R2 M2:List Nat}(h1:akJ f1 R1 M1) (h2:akJ f2 R2 M2) (d1:∀ k∈M1,k∉R2∧k∉M2) (d2:∀ k∈M2,k∉R1∧k∉M1) {e e1 e2:ar}{hs hs1 hs2 hsB:HS}(hsrt:bg e)
  (a:f1 ⟨e,hs⟩=some ⟨e1,hs1⟩) (b:f2 ⟨e1,hs1⟩=some ⟨e2,hs2⟩) (i:f2 ⟨e1,hs⟩=some ⟨e2,hsB⟩) (ii:f1 ⟨e,hsB⟩=some ⟨e1,hs2⟩) :
  ∃ st1',f2 ⟨e,hs⟩=some st1'∧f1 st1'=some ⟨e2,hs2⟩:=by
 obtain⟨s1,g1,_⟩:=h1 e hs _ a;obtain⟨s2,g2,l2⟩:=h2 e1 hs _ i;obtain⟨e',k1,k2,k3⟩:=l2 e fun k hk=>(g1 k fun hm=>(d1 k hm).1 hk).symm
 obtain⟨s3,g3,l3⟩:=h1 e hsB _ ii;obtain⟨e'',m1,m2,m3⟩:=l3 e' fun k hk=>k2 k fun hm=>(d2 k hm).1 hk
 refine⟨⟨e',hsB⟩,k1,?_⟩;rw[m1];obtain⟨t1,_,_⟩:=h2 e hs _ k1;obtain⟨t2,_,_⟩:=h1 e' hsB _ m1
 congr 2
 refine np (t2 (t1 hsrt)) (s2 (s1 hsrt)) fun k=>?_
 by_cases hk1:k∈M1
 all_goals grind
theorem atf {v:j6}(hv:sOp v=true) {e:ar}{hs:HS}{x:AV}{st1:St}(h:bt v r ⟨e,hs⟩=some (x,st1)):st1.hs=hs∧∀ hs',bt v r ⟨e,hs'⟩=some (x,⟨st1.env,hs'⟩):=by
 cases v<;>simp only[sOp,Bool.false_eq_true]at hv
 all_goals
  simp only[bt,Nf,gQ,ww,Ji,AR,Hj,NG,FI,FW,aci,Bs,Cy,iu,aew,Jo,Gy,Sh,Il,tU,NX,Iw,rV]at h⊢
  repeat' split at h
  all_goals grind
end
structure oB (r q:bD):Prop where
 code:∀ c st x,r.code c st=some x→q.code c st=some x
 call:∀ f a h x,r.call f a h=some x→q.call f a h=some x
section
variable {r q:bD}
theorem afS (le:oB r q) {f:FuncId}{vs:List AV}{h:ac}{x:AV}(e:ca r f vs h=some x):ca q f vs h=some x:=by
 unfold ca at e⊢
 cases hd:viewArgs h vs with
 | none=>rw[hd]at e;simp at e
 | some ds =>
  rw[hd]at e;simp only at e⊢
  cases hc:r.call f ds ⟨[],0⟩ with
  | none=>rw[hc]at e;simp at e
  | some p =>
   obtain⟨v,hs⟩:=p;rw[hc]at e;rw[le.call _ _ _ _ hc];exact e
theorem ajy (le:oB r q) {l:Nat}{vs:List AV}{hs:HS}{x:AV×HS}(e:nf r l vs hs=some x):nf q l vs hs=some x:=by
 unfold nf at e⊢;split at e
 ·rename_i snap params assign body hg;split at e
  ·simp at e
  ·rename_i e1 he1
   try simp only[he1]
   split at e
   ·rename_i st1 hc;simp only[le.code _ _ _ hc];split at e
    ·rename_i snap2 params2 assign2 body2 hg2;split at e
     ·simp at e
     ·rename_i o st2 hc2;simp only[le.code _ _ _ hc2];exact e
    ·simp at e
   ·simp at e
 ·simp at e
theorem ai9 (le:oB r q) {f:AV}{vs:List AV}{hs:HS}{x:AV×HS}(e:bf r f vs hs=some x):bf q f vs hs=some x:=by
 cases f<;>simp only[bf,reduceCtorEq]at e⊢
 ·exact le.call _ _ _ _ e
 ·exact ajy le e
theorem atS (le:oB r q) {o:j6}{st:St}{x:AV×St}(e:bt o r st=some x):bt o q st=some x:=by
 cases o<;>try exact e
 ·rename_i f args;simp only[bt,xS]at e⊢
  cases hr:rdAll st.env args with
  | none=>rw[hr]at e;simp at e
  | some p =>
   obtain⟨vs,e1⟩:=p;rw[hr]at e;simp only at e⊢
   cases hc:ca r f vs st.hs.heap with
   | none=>rw[hc]at e;simp at e
   | some v=>rw[hc]at e;rw[afS le hc];exact e
 ·rename_i f args;simp only[bt,xh]at e⊢
  cases hr:rdAll st.env args with
  | none=>rw[hr]at e;simp at e
  | some p =>
   obtain⟨vs,e1⟩:=p;rw[hr]at e;simp only at e⊢
   cases hc:r.call f vs st.hs with
   | none=>rw[hc]at e;simp at e
   | some v=>rw[hc]at e;rw[le.call _ _ _ _ hc];exact e
 ·rename_i f args;simp only[bt,xc]at e⊢
  cases hf:rd st.env f with
  | none=>rw[hf]at e;simp at e
  | some p =>
   obtain⟨fv,e0⟩:=p;rw[hf]at e;simp only at e⊢
   cases hr:rdAll e0 args with
   | none=>rw[hr]at e;simp at e
   | some p =>
    obtain⟨vs,e1⟩:=p;rw[hr]at e;simp only at e⊢
    cases hc:bf r fv vs st.hs with
    | none=>rw[hc]at e;simp at e
    | some v=>rw[hc]at e;rw[ai9 le hc];exact e
theorem w7 (le:oB r q) {i:VI}{st x:St}(e:bm r i st=some x):bm q i st=some x:=by
 have go:∀ x,dl r i st=some x→dl q i st=some x:=fun x e=>by
  unfold dl at e⊢
  cases ho:bt i.op r st with
  | none=>rw[ho]at e;simp at e
  | some p=>rw[ho]at e;rw[atS le ho];exact e
 unfold bm at e⊢;split at e
 ·exact go _ e
 ·split at e
  ·split at e
   ·simp_all
   ·simp_all
  ·exact e
  ·simp at e
theorem LG (le:oB r q):∀ {l:List VI}{st x:St},gB r l st=some x→gB q l st=some x
 | [],_,_,e=>e
 | i::l,st,x,e=>by
  simp only[gB]at e⊢
  cases hv:bm r i st with
  | none=>rw[hv]at e;simp at e
  | some st1=>rw[hv]at e;rw[w7 le hv];exact LG le e
theorem atM (le:oB r q) {F:List Nat}{i:VI}{st x:St}(e:oh r F i st=some x):oh q F i st=some x:=by
 unfold oh at e⊢;split at e
 ·cases hv:bm r i st with
  | none=>rw[hv]at e;simp at e
  | some st1=>rw[hv]at e;rw[w7 le hv];exact e
 ·cases hv:bm r i st with
  | none=>rw[hv]at e;simp at e
  | some st1=>rw[hv]at e;rw[w7 le hv];exact e
 ·cases hv:bm r i ⟨st.env,⟨bY (ju i st.env) st.hs.heap,st.hs.next⟩⟩ with
  | none=>rw[hv]at e;simp at e
  | some st1=>rw[hv]at e;rw[w7 le hv];exact e
theorem YF (le:oB r q) {a:Bool}{F:List Nat}{i:VI}{st x:St}(e:aV r a F i st=some x):aV q a F i st=some x:=by
 cases a
 ·exact w7 le e
 ·exact atM le e
theorem LT (le:oB r q) {nr:List Nat}{vs:List VI}:∀ {l F:List Nat}{st x:St},cS r nr vs l F st=some x→cS q nr vs l F st=some x
 | [],_,_,_,e=>e
 | i::l,F,st,x,e=>by
  simp only[cS]at e⊢
  cases hi:vs[i]? with
  | none=>rw[hi]at e;simp at e
  | some v =>
   rw[hi]at e;simp only at e⊢
   cases hv:aV r (b8 i nr) F v st with
   | none=>rw[hv]at e;simp at e
   | some st1=>rw[hv]at e;rw[YF le hv];exact LT le e
theorem HV (le:oB r q) {c:VC}{st:St}{x:aZ×St}(e:bp c r st=some x):bp c q st=some x:=by
 cases c<;>try exact e
 ·rename_i d ops;simp only[bp,NT]at e⊢
  cases hv:gB r ops st with
  | none=>rw[hv]at e;simp at e
  | some st1=>rw[hv]at e;rw[LG le hv];exact e
 ·rename_i perm gco nr ops;simp only[bp,GB,Fr]at e⊢
  cases ha:nj st.env ops with
  | false=>rw[ha]at e;simp at e
  | true =>
  rw[ha]at e;simp only at e⊢
  cases hv:cS r nr ops perm [] st with
  | none=>rw[hv]at e;simp at e
  | some st1=>rw[hv]at e;rw[LT le hv];exact e
 ·rename_i a b;simp only[bp,IV]at e⊢
  cases hv:r.code a st with
  | none=>rw[hv]at e;simp at e
  | some p =>
   obtain⟨o,st1⟩:=p;rw[hv]at e;rw[le.code _ _ _ hv]
   cases o<;>simp only at e⊢
   ·exact le.code _ _ _ e
   all_goals exact e
 ·rename_i cr a b;simp only[bp,FD]at e⊢;split at e
  ·exact le.code _ _ _ e
  ·exact le.code _ _ _ e
  ·simp at e
 ·rename_i id a;simp only[bp,FZ]at e⊢
  cases hv:r.code a st with
  | none=>rw[hv]at e;simp at e
  | some p=>rw[hv]at e;rw[le.code _ _ _ hv];exact e
 ·rename_i a;simp only[bp,Lq]at e⊢
  cases hv:r.code a st with
  | none=>rw[hv]at e;simp at e
  | some p =>
   obtain⟨o,st1⟩:=p;rw[hv]at e;rw[le.code _ _ _ hv]
   cases o<;>simp only at e⊢
   ·exact le.code _ _ _ e
   all_goals exact e
 ·rename_i f params assign body;simp only[bp,wJ]at e⊢;split at e
  ·rename_i g first caps e1 h1
   split at e
   ·rename_i v hs hc;rw[le.call _ _ _ _ hc];exact e
   ·simp at e
  ·simp at e
 ·exact le.code _ _ _ e
 ·rename_i a cur;simp only[bp,D5]at e⊢
  cases hv:r.code cur st with
  | none=>rw[hv]at e;simp at e
  | some p =>
   obtain⟨o,st1⟩:=p;rw[hv]at e;rw[le.code _ _ _ hv]
   cases o<;>simp only at e⊢
   ·exact e
   ·exact e
   ·split at e
    ·exact le.code _ _ _ e
    ·exact e
   ·exact e
 ·rename_i i d f a;simp only[bp,MC]at e⊢
  cases hg:get st.env i with
  | none=>rw[hg]at e;simp at e
  | some p =>
   rw[hg]at e
   cases p<;>simp only at e⊢<;>try exact absurd e (by simp)
   rename_i id off
   cases hv:r.code a ⟨put st.env d (.ptr id off),st.hs⟩ with
   | none=>rw[hv]at e;simp at e
   | some p =>
    obtain⟨o,st1⟩:=p;rw[hv]at e;rw[le.code _ _ _ hv]
    cases o<;>simp only at e⊢<;>try exact absurd e (by simp)
    all_goals
     cases hc:r.call f [.ptr id off] st1.hs with
     | none=>rw[hc]at e;simp at e
     | some q=>rw[hc]at e;rw[le.call _ _ _ _ hc];exact e
theorem Vv (le:oB r q) {P:Nat→Option ae}{f:FuncId}{a:List AV}{h:HS}{x:AV×HS}(e:nN P r f a h=some x):nN P q f a h=some x:=by
 unfold nN at e⊢;split at e
 ·simp at e
 ·rename_i fn hf;split at e
  ·simp at e
  ·rename_i hn
   cases hv:bp fn.body r ⟨fX 0 a,h⟩ with
   | none=>rw[hv]at e;simp at e
   | some p=>rw[hv]at e;simp only[hn,HV le hv];exact e
end
variable {P:Nat→Option ae}
def lim {α:Type}(f:Nat→Option α):Option α :=
 open Classical in if h:∃ x,∃ n,f n=some x then some (Classical.choose h) else none
theorem akT {α:Type}{f:Nat→Option α}(mono:∀ n m x,f n=some x→f (n+m)=some x) {n:Nat}{x:α}(h:f n=some x):lim f=some x:=by
 have he:∃ x,∃ n,f n=some x:=⟨x,n,h⟩
 unfold lim;obtain⟨m,hm⟩:=Classical.choose_spec he;have h2:=mono m n _ hm
 grind
theorem aka {α:Type}{f:Nat→Option α}{x:α}(h:lim f=some x):∃ n,f n=some x:=by
 unfold lim at h;split at h<;>grind
variable {P:Nat→Option ae}
theorem oB.rfl' {r:bD}:oB r r:=⟨fun _ _ _ h=>h,fun _ _ _ _ h=>h⟩
theorem oB.trans' {r q s:bD}(h:oB r q) (k:oB q s):oB r s:=⟨fun c st x e=>k.code c st x (h.code c st x e),fun f a hs x e=>k.call f a hs x (h.call f a hs x e)⟩
theorem Zy:∀ n:Nat,oB (run P n) (run P (n+1))
 | 0=>⟨fun _ _ _ h=>by simp[run]at h,fun _ _ _ _ h=>by simp[run]at h⟩
 | n+1=>⟨fun c st x h=>HV (Zy n) h,fun f a hs x h=>Vv (Zy n) h⟩
theorem K5 (n:Nat):∀ m:Nat,oB (run P n) (run P (n+m))
 | 0=>oB.rfl'
 | m+1=>(K5 n m).trans' (Zy (n+m))
def Dn (P:Nat→Option ae):bD:=⟨fun c st=>lim fun n=>(run P n).code c st,fun f a h=>lim fun n=>(run P n).call f a h⟩
theorem alb {c:VC}{st:St}{x:aZ×St}{n:Nat}(h:(run P n).code c st=some x):(Dn P).code c st=some x :=
 akT (fun n m x h=>(K5 n m).code _ _ _ h) h
theorem Su {f:FuncId}{a:List AV}{hs:HS}{x:AV×HS}{n:Nat}(h:(run P n).call f a hs=some x):(Dn P).call f a hs=some x :=
 akT (fun n m x h=>(K5 n m).call _ _ _ _ h) h
theorem amz (n:Nat):oB (run P n) (Dn P):=⟨fun _ _ _ h=>alb h,fun _ _ _ _ h=>Su h⟩
theorem GD {n m:Nat}{c:VC}{st:St}{x:aZ×St}(h:(run P n).code c st=some x) (le:n≤m):(run P m).code c st=some x:=by
 grind [oB.code,K5,Nat.add_sub_cancel']
theorem up {n m:Nat}(le:n≤m):oB (run P n) (run P m):=by
 grind [K5,Nat.add_sub_cancel']
theorem pD {c:VC}{st:St}{x:aZ×St}(h:(Dn P).code c st=some x):∃ n,(run P n).code c st=some x:=aka h
theorem wx {f:FuncId}{a:List AV}{hs:HS}{x:AV×HS}(h:(Dn P).call f a hs=some x):∃ n,(run P n).call f a hs=some x:=aka h
theorem alY {f:FuncId}{vs:List AV}{h:ac}{x:AV}(e:ca (Dn P) f vs h=some x):∃ n,ca (run P n) f vs h=some x:=by
 grind [ca,wx]
theorem apb {l:Nat}{vs:List AV}{hs:HS}{x:AV×HS}(e:nf (Dn P) l vs hs=some x):∃ n,nf (run P n) l vs hs=some x:=by
 unfold nf at e⊢;split at e
 ·split at e
  ·simp at e
  ·split at e<;>grind [pD,GD]
 simp_all
theorem apx {f:AV}{vs:List AV}{hs:HS}{x:AV×HS}(e:bf (Dn P) f vs hs=some x):∃ n,bf (run P n) f vs hs=some x:=by
 cases f<;>simp only[bf,reduceCtorEq]at e⊢
 all_goals grind [wx,apb]
theorem ayc {o:j6}{st:St}{x:AV×St}(e:bt o (Dn P) st=some x):∃ n,bt o (run P n) st=some x:=by
 cases o<;>try exact⟨0,e⟩
 ·rename_i f args;simp only[bt,xS]at e⊢
  cases hr:rdAll st.env args<;>grind [alY]
 ·rename_i f args;simp only[bt,xh]at e⊢
  cases hr:rdAll st.env args<;>grind [wx]
 ·rename_i f args;simp only[bt,xc]at e⊢
  cases hf:rd st.env f with
  | none=>simp_all
  | some p =>
   obtain⟨fv,e0⟩:=p;simp only at e⊢
   cases hr:rdAll e0 args<;>grind [apx]
theorem aiK {i:VI}{st x:St}(e:bm (Dn P) i st=some x):∃ n,bm (run P n) i st=some x:=by
 have go:∀ x,dl (Dn P) i st=some x→∃ n,dl (run P n) i st=some x:=fun x e=>by
  grind [dl,ayc]
 unfold bm at e⊢;split at e
 ·simp_all
 ·split at e
  ·split at e<;>simp_all
  all_goals simp_all
theorem anU:∀ {l:List VI}{st x:St},gB (Dn P) l st=some x→∃ n,gB (run P n) l st=some x
 | [],_,_,e=>⟨0,e⟩
 | i::l,st,x,e=>by
  simp only[gB]at e⊢
  cases hv:bm (Dn P) i st with
  | none=>simp_all
  | some st1 =>
   rw[hv]at e;obtain⟨n1,h1⟩:=aiK hv;obtain⟨n2,h2⟩:=anU e;refine⟨n1+n2,?_⟩;rw[w7 (up (Nat.le_add_right n1 n2)) h1];exact LG (up (Nat.le_add_left n2 n1)) h2
theorem axT {F:List Nat}{i:VI}{st x:St}(e:oh (Dn P) F i st=some x):∃ n,oh (run P n) F i st=some x:=by
 grind [oh,aiK]
theorem aun {a:Bool}{F:List Nat}{i:VI}{st x:St}(e:aV (Dn P) a F i st=some x):∃ n,aV (run P n) a F i st=some x:=by
 cases a
 ·exact aiK e
 ·exact axT e
theorem anu {nr:List Nat}{vs:List VI}:∀ {l F:List Nat}{st x:St},cS (Dn P) nr vs l F st=some x→∃ n,cS (run P n) nr vs l F st=some x
 | [],_,_,_,e=>⟨0,e⟩
 | i::l,F,st,x,e=>by
  simp only[cS]at e⊢
  cases hi:vs[i]? with
  | none=>simp_all
  | some v =>
   rw[hi]at e;simp only at e⊢
   cases hv:aV (Dn P) (b8 i nr) F v st with
   | none=>simp_all
   | some st1 =>
    rw[hv]at e;obtain⟨n1,h1⟩:=aun hv;obtain⟨n2,h2⟩:=anu e;refine⟨n1+n2,?_⟩;rw[YF (up (Nat.le_add_right n1 n2)) h1];exact LT (up (Nat.le_add_left n2 n1)) h2
theorem ajF {c:VC}{st:St}{x:aZ×St}(e:bp c (Dn P) st=some x):∃ n,bp c (run P n) st=some x:=by
 cases c<;>try exact⟨0,e⟩
 ·grind [bp,NT,anU]
 ·rename_i perm gco nr ops;simp only[bp,GB,Fr]at e⊢
  cases ha:nj st.env ops<;>grind [anu]
 ·rename_i a b;simp only[bp,IV]at e⊢
  grind [pD,GD]
 ·rename_i cr a b;simp only[bp,FD]at e⊢;split at e<;>grind [pD]
 ·grind [bp,FZ,pD]
 ·rename_i a;simp only[bp,Lq]at e⊢
  grind [pD,GD]
 ·rename_i f params assign body;simp only[bp,wJ]at e⊢;split at e<;>grind [wx]
 ·exact pD e
 ·rename_i a cur;simp only[bp,D5]at e⊢
  grind [pD,GD]
 ·rename_i i d f a;simp only[bp,MC]at e⊢
  cases hg:get st.env i with
  | none=>simp_all
  | some p =>
   rw[hg]at e
   cases p<;>simp only at e⊢<;>try exact absurd e (by simp)
   rename_i id off
   cases hv:(Dn P).code a ⟨put st.env d (.ptr id off),st.hs⟩ with
   | none=>simp_all
   | some p =>
    obtain⟨o,st1⟩:=p;obtain⟨n1,h1⟩:=pD hv;rw[hv]at e
    cases o<;>simp only at e⊢<;>try exact absurd e (by simp)
    all_goals
     cases hc:(Dn P).call f [.ptr id off] st1.hs with
     | none=>simp_all
     | some q =>
      obtain⟨n2,h2⟩:=wx hc;rw[hc]at e;refine⟨n1+n2,?_⟩;rw[GD h1 (Nat.le_add_right n1 n2)];simp only[(up (Nat.le_add_left n2 n1)).call _ _ _ _ h2];exact e
theorem atn {f:FuncId}{a:List AV}{h:HS}{x:AV×HS}(e:nN P (Dn P) f a h=some x):∃ n,nN P (run P n) f a h=some x:=by
 unfold nN at e⊢;split at e
 ·simp at e
 ·split at e<;>grind [ajF]
theorem eh (c:VC) (st:St):(Dn P).code c st=bp c (Dn P) st:=by
 cases h:bp c (Dn P) st with
 | some x =>
  obtain⟨n,hn⟩:=ajF h;exact alb (n:=n+1) hn
 | none =>
  cases k:(Dn P).code c st with
  | none=>rfl
  | some x =>
   obtain⟨n,hn⟩:=pD k
   cases n<;>grind [run,HV,amz]
theorem awL (f:FuncId) (a:List AV) (hs:HS):(Dn P).call f a hs=nN P (Dn P) f a hs:=by
 cases h:nN P (Dn P) f a hs with
 | some x =>
  obtain⟨n,hn⟩:=atn h;exact Su (n:=n+1) hn
 | none =>
  cases k:(Dn P).call f a hs with
  | none=>rfl
  | some x =>
   obtain⟨n,hn⟩:=wx k
   cases n<;>grind [run,Vv,amz]
variable {P:Nat→Option ae}
def rR (P:Nat→Option ae) (x:Option (aZ×St)) (b:VC):Option (aZ×St) :=
 match x with
 | some (.normal,st)=>(Dn P).code b st
 | x=>x
def qe (id:Nat) (x:Option (aZ×St)):Option (aZ×St) :=
 match x with
 | some (.exit j,st)=>if j=id then some (.normal,st) else some (.exit j,st)
 | x=>x
def br (x:Option St):Option (aZ×St) :=
 match x with
 | some st=>some (.normal,st)
 | none=>none
def kV (P:Nat→Option ae) (a:VC) (x:Option (aZ×St)):Option (aZ×St) :=
 match x with
 | some (.normal,st)=>(Dn P).code (.loop a) st
 | x=>x
def TD (fn:ae) (x:Option (aZ×St)):Option (AV×HS) :=
 match x with
 | some (.normal,st)=>zm fn st
 | some (.ret,st)=>zm fn st
 | _=>none
def mt (x:Option (AV×HS)):Option AV :=
 match x with
 | some (v,hs)=>eZ hs.heap v
 | none=>none
theorem azm {st:St}{b:VC}:rR P (some (.normal,st)) b=(Dn P).code b st:=(rfl)
theorem axP {st:St}{b:VC}:rR P (some (.ret,st)) b=some (.ret,st):=(rfl)
theorem ayR {st:St}{b:VC}{j:Nat}:rR P (some (.exit j,st)) b=some (.exit j,st):=(rfl)
theorem azp {st:St}{b:VC}{j:Nat}:rR P (some (.goto j,st)) b=some (.goto j,st):=(rfl)
theorem ax2 {b:VC}:rR P none b=none:=(rfl)
theorem ayD {c:Prop}[Decidable c] {x y:Option (aZ×St)}{b:VC}:rR P (if c then x else y) b=if c then rR P x b else rR P y b:=by grind
theorem aya {st:St}{i:Nat}:qe i (some (.normal,st))=some (.normal,st):=(rfl)
theorem ayS {st:St}{i:Nat}:qe i (some (.ret,st))=some (.ret,st):=(rfl)
theorem azr {st:St}{i j:Nat}:qe i (some (.exit j,st))=if j=i then some (.normal,st) else some (.exit j,st):=(rfl)
theorem azE {st:St}{i j:Nat}:qe i (some (.goto j,st))=some (.goto j,st):=(rfl)
theorem axZ {i:Nat}:qe i none=none:=(rfl)
theorem ayx {c:Prop}[Decidable c] {x y:Option (aZ×St)}{i:Nat}:qe i (if c then x else y)=if c then qe i x else qe i y:=by grind
theorem Gj {st:St}{a:VC}:kV P a (some (.normal,st))=(Dn P).code (.loop a) st:=(rfl)
theorem awI {st:St}{a:VC}:kV P a (some (.ret,st))=some (.ret,st):=(rfl)
theorem avq {st:St}{a:VC}{j:Nat}:kV P a (some (.exit j,st))=some (.exit j,st):=(rfl)
theorem av3 {st:St}{a:VC}{j:Nat}:kV P a (some (.goto j,st))=some (.goto j,st):=(rfl)
theorem av2 {a:VC}:kV P a none=none:=(rfl)
theorem awg {c:Prop}[Decidable c] {x y:Option (aZ×St)}{a:VC}:kV P a (if c then x else y)=if c then kV P a x else kV P a y:=by grind
theorem ayw {st:St}:br (some st)=some (.normal,st):=(rfl)
theorem azw:br none=none:=(rfl)
theorem azu {c:Prop}[Decidable c] {x y:Option St}:br (if c then x else y)=if c then br x else br y:=by grind
theorem axS {v:AV}{hs:HS}:mt (some (v,hs))=eZ hs.heap v:=(rfl)
theorem azv:mt none=none:=(rfl)
theorem ays {c:Prop}[Decidable c] {x y:Option (AV×HS)}:mt (if c then x else y)=if c then mt x else mt y:=by grind
theorem aqY {st:St}:(Dn P).code .skip st=some (.normal,st):=by rw[eh];rfl
theorem ap8 {st:St}{i:Nat}:(Dn P).code (.exit i) st=some (.exit i,st):=by rw[eh];rfl
theorem asg {st:St}:(Dn P).code .ret st=some (.ret,st):=by rw[eh];rfl
theorem apB {st:St}{i:Nat}:(Dn P).code (.label i) st=some (.normal,st):=by rw[eh];rfl
theorem aql {st:St}{i:Nat}:(Dn P).code (.goto i) st=some (.goto i,st):=by rw[eh];rfl
theorem att {st:St}{a b:VC}:(Dn P).code (.seq a b) st=rR P ((Dn P).code a st) b:=by rw[eh];rfl
theorem apq {st:St}{i:Nat}{a:VC}:(Dn P).code (.block i a) st=qe i ((Dn P).code a st):=by
 grind [eh,bp,FZ,qe,Nat.eq_of_beq_eq_true,Nat.ne_of_beq_eq_false]
theorem ars {st:St}{a:VC}:(Dn P).code (.loop a) st=kV P a ((Dn P).code a st):=by rw[eh];rfl
theorem T8 {st:St}{d:Bool}{ops:List VI}:(Dn P).code (.reg d ops) st=br (gB (Dn P) ops st):=by rw[eh];rfl
theorem aqH {st:St}{perm gco:List Nat}{ops:List VI}(ha:nj st.env ops=true):(Dn P).code (.regP perm gco [] ops) st=br (ot (Dn P) ops perm st):=by
 rw[eh];simp only[bp,GB,Fr,ak9,ha];rfl
theorem aoD {e:ar}{hs:HS}{a b:VC}{t:Bool}:(Dn P).code (.cond (.c (.d (.bool t))) a b) ⟨e,hs⟩=if t=true then (Dn P).code a ⟨e,hs⟩ else (Dn P).code b ⟨e,hs⟩:=by
 grind [eh,bp,FD,rd]
def Nn (P:Nat→Option ae) (v:Option AV) (a b:VC) (st:St):Option (aZ×St) :=
 match v with
 | some (.d (.bool true))=>(Dn P).code a st
 | some (.d (.bool false))=>(Dn P).code b st
 | _=>none
theorem arD {e:ar}{hs:HS}{i:Nat}{a b:VC}:(Dn P).code (.cond (.m i) a b) ⟨e,hs⟩=Nn P (get e i) a b ⟨del e i,hs⟩:=by
 rw[eh];simp only[bp,FD,rd,Nn]
 grind
theorem awN {a b:VC}{st:St}:Nn P (some (.d (.bool true))) a b st=(Dn P).code a st:=(rfl)
theorem avr {a b:VC}{st:St}:Nn P (some (.d (.bool false))) a b st=(Dn P).code b st:=(rfl)
def aG5 (P:Nat→Option ae) (v:Option AV) (w:Bool) (d:Option Nat) (op:j6) (th:List (Nat×Nat)) (st:St):Option St :=
 match v with
 | some (.d (.bool b))=>match b == w with
  | true=>bm (Dn P) ⟨d,none,op,th⟩ st
  | false=>some (bc d (.tup []) st)
 | some (.tup [])=>some (bc d (.tup []) st)
 | _=>none
theorem aDX {α:Type}{i:Nat}:get ([]:List (Nat×α)) i=none:=(rfl)
theorem axX {α:Type}{k i:Nat}{v:α}{r:List (Nat×α)}:get ((k,v)::r) i=if k=i then some v else get r i:=dH ..
theorem aDF {α:Type}{i:Nat}{x:α}:put [] i x=[(i,x)]:=(rfl)
theorem put1 {α:Type}{k i:Nat}{v x:α}{r:List (Nat×α)}:put ((k,v)::r) i x=if k=i then (i,x)::r else if i≤k then (i,x)::(k,v)::r else (k,v)::put r i x:=mf ..
theorem aEj {α:Type}{i:Nat}:del ([]:List (Nat×α)) i=[]:=(rfl)
theorem azG {α:Type}{k i:Nat}{v:α}{r:List (Nat×α)}:del ((k,v)::r) i=if k=i then del r i else (k,v)::del r i:=iW ..
theorem Rh {k:IntKind}:jH k k=true:=by cases k<;>rfl
theorem iJ {op:BinOp}{k:IntKind}{a b:Int}(h1:op≠.shl) (h2:op≠.shr):bE op (.d (.int k a)) (.d (.int k b))=match fG op k a b with | some x=>some (.d x) | none=>none:=by
 grind [bE,nR,Rh]
theorem aw4 {k:IntKind}{a b:Int}:bE .add (.d (.int k a)) (.d (.int k b))=some (.d (.int k (wr k (a+b)))):=by rw[iJ (by simp) (by simp)];rfl
theorem awT {k:IntKind}{a b:Int}:bE .sub (.d (.int k a)) (.d (.int k b))=some (.d (.int k (wr k (a-b)))):=by rw[iJ (by simp) (by simp)];rfl
theorem awP {k:IntKind}{a b:Int}:bE .mul (.d (.int k a)) (.d (.int k b))=some (.d (.int k (wr k (a*b)))):=by rw[iJ (by simp) (by simp)];rfl
theorem aw0 {k:IntKind}{a b:Int}(h:b≠0):bE .quo (.d (.int k a)) (.d (.int k b))=some (.d (.int k (wr k (a.tdiv b)))):=by grind [iJ,fG]
theorem awi {k:IntKind}{a b:Int}(h:b≠0):bE .rem (.d (.int k a)) (.d (.int k b))=some (.d (.int k (a.tmod b))):=by grind [iJ,fG]
theorem avL {k:IntKind}{a b:Int}:bE .eql (.d (.int k a)) (.d (.int k b))=if a=b then some (.d (.bool true)) else some (.d (.bool false)):=by grind [iJ,fG]
theorem avF {k:IntKind}{a b:Int}:bE .neq (.d (.int k a)) (.d (.int k b))=if a=b then some (.d (.bool false)) else some (.d (.bool true)):=by grind [iJ,fG]
theorem awp {k:IntKind}{a b:Int}:bE .lss (.d (.int k a)) (.d (.int k b))=if a<b then some (.d (.bool true)) else some (.d (.bool false)):=by grind [iJ,fG]
theorem awQ {k:IntKind}{a b:Int}:bE .leq (.d (.int k a)) (.d (.int k b))=if a≤b then some (.d (.bool true)) else some (.d (.bool false)):=by grind [iJ,fG]
theorem avm {k:IntKind}{a b:Int}:bE .gtr (.d (.int k a)) (.d (.int k b))=if b<a then some (.d (.bool true)) else some (.d (.bool false)):=by grind [iJ,fG]
theorem avC {k:IntKind}{a b:Int}:bE .geq (.d (.int k a)) (.d (.int k b))=if b≤a then some (.d (.bool true)) else some (.d (.bool false)):=by grind [iJ,fG]
theorem awA {k j:IntKind}{a b:Int}(h:0≤b):bE .shl (.d (.int k a)) (.d (.int j b))=some (.d (.int k (wr k (a*((2 ^ (min b.toNat k.bits):Nat):Int))))):=by
 grind [bE,nR,AQ]
theorem axk {k j:IntKind}{a b:Int}(h:0≤b):bE .shr (.d (.int k a)) (.d (.int j b))=some (.d (.int k (a.fdiv ((2 ^ (min b.toNat k.bits):Nat):Int)))):=by
 grind [bE,nR,AQ]
theorem atz {a b:List UInt8}:bE .eql (.d (.str a)) (.d (.str b))=if a=b then some (.d (.bool true)) else some (.d (.bool false)):=by
 grind [bE]
theorem aAZ {n:Int}(h:0≤n) (h2:n≤255):wr .u8 n=n:=by
 grind [wr,jW]
theorem ax3 {n:Int}(h:0≤n) (h2:n≤65535):wr .u16 n=n:=by
 grind [wr,jW]
theorem ax7 {n:Int}(h:0≤n) (h2:n≤4294967295):wr .u32 n=n:=by
 grind [wr,jW]
theorem ayb {n:Int}(h:0≤n) (h2:n≤18446744073709551615):wr .u64 n=n:=by
 grind [wr,jW]
theorem Nh {k:IntKind}{i:Int}{t:Nat}(h:0≤i) (h2:i≤t):df (.d (.int k i)) t=some i.toNat:=by
 obtain⟨n,rfl⟩:=Int.eq_ofNat_of_zero_le h;have:Nat.ble n t=true:=Nat.ble_eq_true_of_le (by omega);show (match Nat.ble n t with | true=>some n | false=>none)=_
 grind
theorem Nv {k:IntKind}{i:Int}(h:0≤i):kX (.d (.int k i))=some i.toNat:=by
 obtain⟨n,rfl⟩:=Int.eq_ofNat_of_zero_le h;rfl
def kO (k:IntKind):Nat:=if k.signed then 2 ^ (k.bits-1) else 2 ^ k.bits
theorem avH (k:IntKind):kO k≤2 ^ k.bits:=by cases k<;>decide
theorem an8 {k:IntKind}{n:Nat}(h:n<kO k):k.wrap (n:Int)=n:=by
 cases k<;>simp only[kO,IntKind.wrap,IntKind.signed,IntKind.bits]at h⊢<;>simp at h⊢<;>omega
theorem Er {k:IntKind}{n:Nat}(h:n<kO k):(BitVec.ofInt k.bits (n:Int)).toNat=n:=by
 grind [avH]
theorem axY {k:IntKind}{a b:Nat}(h:a<kO k) (h2:b<kO k) (h3:a ||| b<kO k):bE .or (.d (.int k (a:Int))) (.d (.int k (b:Int)))=some (.d (.int k ((a ||| b:Nat):Int))):=by
 grind [iJ,fG,BS,Er,an8]
theorem avM {a b t:Nat}(h:a<t):a &&& b<t:=by grind [Nat.and_le_left]
theorem avS {k:IntKind}{a b:Nat}(h:a<kO k) (h2:b<kO k):bE .and (.d (.int k (a:Int))) (.d (.int k (b:Int)))=some (.d (.int k ((a &&& b:Nat):Int))):=by
 grind [iJ,fG,BS,Er,an8,avM]
def aO (P:Nat→Option ae) (f:FuncId) (ds:List AV):Option AV:=mt ((Dn P).call f ds ⟨[],0⟩)
theorem aeR {f:FuncId}{fn:ae}{args:List AV}{hs:HS}(hf:P f=some fn) (hl:args.length=fn.nparams):(Dn P).call f args hs=TD fn ((Dn P).code fn.body ⟨fX 0 args,hs⟩):=by
 grind [awL,Nat.beq_refl,nN,TD,eh]
theorem asU {f:FuncId}{fn:ae}{args:List AV}(hf:P f=some fn) (hl:args.length=fn.nparams):aO P f args=mt (TD fn ((Dn P).code fn.body ⟨fX 0 args,⟨[],0⟩⟩)):=by
 grind [aO,aeR]
theorem aqF {g:FuncId}{first caps args:List AV}{hs:HS}:bf (Dn P) (.fn g first caps) args hs=(Dn P).call g (first++(args++caps)) hs:=(rfl)
theorem aze {α:Type}{a b:Prop}[Decidable a] [Decidable b] {x y:α}:(if a then (if b then x else y) else y)=if a∧b then x else y:=by
 grind
theorem ayy {α:Type}{a b:Prop}[Decidable a] [Decidable b] {x y:α}:(if a then x else (if b then x else y))=if a∨b then x else y:=by
 grind
theorem azc {α:Type}{a b:Prop}[Decidable a] [Decidable b] {x y:α}:(if a then (if b then y else x) else y)=if a∧¬ b then x else y:=by
 grind
theorem ayu {α:Type}{a b:Prop}[Decidable a] [Decidable b] {x y:α}:(if a then x else (if b then y else x))=if a∨¬ b then x else y:=by
 grind
def nth {α:Type}[Inhabited α] (l:List α) (i:Nat):α:=l.getD i default
theorem aj3 {α:Type}[Inhabited α] {l:List α}{i:Nat}(h:i<l.length):nth l i=l[i]:=by simp[nth,h]
theorem sY {α:Type}[Inhabited α] {l:List α}{i:Nat}(h:i<l.length):l[i]?=some (nth l i):=by simp[nth,h]
theorem kR {α:Type}[Inhabited α] {l:List α}{i:Nat}(h:i<l.length):l.drop i=nth l i::l.drop (i+1):=by grind [List.drop_eq_getElem_cons,aj3]
theorem gn {α:Type}[Inhabited α] {l:List α}{i:Nat}(h:i<l.length):nth l i∈l:=by grind [aj3]
abbrev I (n:Int):D:=.int .i64 n
abbrev Y (n:Int):D:=.int .u8 n
def ai (l:List Int):List (List D):=l.map fun(n:Int)=>[D.int .i64 n]
def af (l:List Nat):List (List D):=l.map fun(n:Nat)=>[D.int .u8 (n:Int)]
def NL (l:List Bool):List (List D):=l.map fun(n:Bool)=>[D.bool n]
theorem ar9 {l:List Int}:(ai l).length=l.length:=by simp[ai]
theorem atV {l:List Nat}:(af l).length=l.length:=by simp[af]
theorem arJ {l:List Bool}:(NL l).length=l.length:=by simp[NL]
theorem Bu {l:List Int}{i:Nat}(h:i<l.length):(ai l)[i]?=some [.int .i64 (nth l i)]:=by grind [ai,sY]
theorem ar4 {l:List Nat}{i:Nat}(h:i<l.length):(af l)[i]?=some [.int .u8 (nth l i:Nat)]:=by grind [af,sY]
theorem aqS {l:List Bool}{i:Nat}(h:i<l.length):(NL l)[i]?=some [.bool (nth l i)]:=by grind [NL,sY]
theorem aqK {a b:Nat}:((a:Int)+(b:Int)).toNat=a+b:=by omega
theorem ZO {a b:Nat}:Nat.beq a b=decide (a=b):=by
 grind [Nat.eq_of_beq_eq_true,Nat.ne_of_beq_eq_false]
theorem aaA {a b:Nat}:Nat.ble a b=decide (a≤b):=by
 grind [Nat.le_of_ble_eq_true,Nat.ble_eq_true_of_le]
theorem axh {x y:Option (aZ×St)}{b:VC}(h:x=y):rR P x b=rR P y b:=by rw[h]
theorem avz {x y:Option (aZ×St)}{b:Nat}(h:x=y):qe b x=qe b y:=by rw[h]
theorem atj {x y:Option (aZ×St)}{b:VC}(h:x=y):kV P b x=kV P b y:=by rw[h]
theorem awy {x y:Option (aZ×St)}{b:ae}(h:x=y):TD b x=TD b y:=by rw[h]
theorem avG {r:bD}{c:VC}{x y:St}(h:x=y):r.code c x=r.code c y:=by rw[h]
theorem ask {v w:Option AV}{a b:VC}{x y:St}(h:v=w) (k:x=y):Nn P v a b x=Nn P w a b y:=by rw[h,k]
variable {P:Nat→Option ae}
def bA {α β:Type}(x:Option α) (f:α→Option β):Option β :=
 match x with
 | some v=>f v
 | none=>none
def bP {α γ β:Type}(x:Option (α×γ)) (f:α→γ→Option β):Option β :=
 match x with
 | some (v,w)=>f v w
 | none=>none
def lA {α β:Type}(x:α) (f:α→β):β:=f x
def lP {α γ β:Type}(x:α×γ) (f:α→γ→β):β:=f x.1 x.2
def bQ {β:Type}(c:Bool) (x:Option β):Option β :=
 match c with
 | true=>x
 | false=>none
def gV (g:AV) (w:Bool) (x:Option AV):Option AV :=
 match g with
 | .d (.bool b)=>if b=w then x else some (.tup [])
 | .tup []=>some (.tup [])
 | _=>none
def gH (g:AV) (w:Bool) (hs:HS) (x:Option (AV×HS)):Option (AV×HS) :=
 match g with
 | .d (.bool b)=>if b=w then x else some (.tup [],hs)
 | .tup []=>some (.tup [],hs)
 | _=>none
def Ni (c a b:AV):Option AV :=
 match c with
 | .d (.bool true)=>some a
 | .d (.bool false)=>some b
 | _=>none
def aic (neg:Bool) (a b:AV):Option D :=
 match a,b with
 | .d (.bool a),.d (.bool b)=>some (.bool (match neg with | true=>!(a == b) | false=>a == b))
 | _,_=>none
def WN (neg:Bool) (ks:List Bool) (a b:AV):Option D :=
 match a,b with
 | .agg a,.agg b=>match az ks a b with
  | some t=>some (.bool (match neg with | true=>!t | false=>t))
  | none=>none
 | _,_=>none
def c8 (op:BinOp) (a b:AV):Option D :=
 match bE op a b with
 | some (.d x)=>some x
 | _=>none
def unD (op:UnOp) (a:AV):Option D :=
 match acW op a with
 | some (.d x)=>some x
 | _=>none
def WG (k:IntKind) (a:AV):Option D :=
 match a with
 | .d (.int _ n)=>some (.int k (wr k n))
 | _=>none
def Lm (h:ac) (a:AV):Option D :=
 match elems h a with
 | some xs=>match ng xs with
  | some s=>some (.str s)
  | none=>none
 | none=>none
def Bw (z:List D) (l c:AV):Option AV :=
 match df c au with
 | some c=>match df l c with
  | some n=>some (.own true z.length (List.replicate n z))
  | none=>none
 | none=>none
def uB (h:ac) (m:Nat) (x:AV) (lo hi mx:Option AV):Option AV :=
 match okSl h m x with
 | true=>w6 m x lo hi mx
 | false=>none
def Ml (hp:ac) (n:Nat) (x:AV) (lo hi mx:Option AV):Option AV :=
 match x with
 | .ptr id off=>NU hp n id off lo hi mx
 | _=>none
def azj (off:Nat) (n:Option Nat) (x:AV):Option AV :=
 match x with
 | .agg cs=>yh n cs off
 | _=>none
def WM (hp:ac) (n:Nat) (x i:AV):Option AV :=
 match kX i with
 | some i=>match x with
  | .sl id off len=>match Nat.ble len i with
   | true=>none
   | false=>match get hp id with
    | some (.arr m _)=>match Nat.beq m n with
     | true=>some (.pel id (off+i) 0)
     | false=>none
    | some (.cells _)=>match Nat.beq n 1 with
     | true=>some (.ptr id (off+i))
     | false=>none
    | _=>none
  | v=>match elems hp v with
   | some xs=>match xs[i]? with
    | some x=>match Nat.beq x.length n with
     | true=>some (.pim x 0)
     | false=>none
    | none=>none
   | none=>none
 | none=>none
def Dy (len n:Nat) (p i:AV):Option AV :=
 match kX i with
 | some i=>match Nat.ble len i with
  | true=>none
  | false=>gP (i*n) p
 | none=>none
def ixV (len n:Nat) (agg:Bool) (x i:AV):Option AV :=
 match x with
 | .agg cs=>match kX i with
  | some i=>match Nat.ble len i with
   | true=>none
   | false=>yh (ajt agg n) cs (i*n)
  | none=>none
 | _=>none
def aoA (x i:AV):Option D :=
 match x with
 | .d (.str s)=>match kX i with
  | some i=>match s[i]? with
   | some b=>some (.int .u8 (.ofNat b.toNat))
   | none=>none
  | none=>none
 | _=>none
def rT (mv:Bool) (t:AV) (i:Nat):Option AV :=
 match t with
 | .tup vs=>match vs[i]? with
  | some v=>match mv with
   | true=>some v
   | false=>some (share v)
  | none=>none
 | _=>none
def Hc (t:AV) (i:Nat):AV :=
 match t with
 | .tup vs=>.tup (vs.set i .junk)
 | v=>v
def aoG (x:AV):Bool :=
 match x with
 | .nl=>true
 | _=>false
def aeB (m:Nat) (h:ac) (a b:AV):Option (AV×ac) :=
 match elems h b with
 | some ys=>match dC m ys with
  | true=>ct m h a ys
  | false=>none
 | none=>none
def Yv (z:List D) (h:ac) (a n:AV):Option (AV×ac) :=
 match df n au with
 | some n=>ct z.length h a (List.replicate n z)
 | none=>none
def aj6 (m:Nat) (hp:ac) (a b:AV):Option (D×ac) :=
 match elems hp b with
 | some ys=>match a with
  | .sl id off len=>match get hp id with
   | some (.arr k xs)=>match dC m ys && Nat.beq k m && Nat.ble (off+len) xs.length with
    | true=>some (.int .i64 (.ofNat (min len ys.length)),put hp id (.arr k (ah xs off (ys.take len))))
    | false=>none
   | _=>none
  | _=>match lenOf a with
   | some 0=>some (.int .i64 (.ofNat 0),hp)
   | _=>none
 | none=>none
def ayM (z:List D) (hp:ac) (x:AV):Option ac :=
 match x with
 | .sl id off len=>match get hp id with
  | some (.arr k xs)=>match Nat.beq k z.length && Nat.ble (off+len) xs.length with
   | true=>some (put hp id (.arr k (ah xs off (List.replicate len z))))
   | false=>none
  | _=>none
 | _=>none
def Fu (isMax:Bool) (vs:List AV):Option AV :=
 match vs with
 | .d (.int k n)::vs=>xY isMax (.d (.int k n)) vs
 | _=>none
def U0 (v:AV):Option AV :=
 match v with
 | .ptr .. | .pel .. | .pim .. | .fn .. | .yield ..=>some v
 | _=>none
def da (h:ac) (n:Option Nat) (p:AV):Option AV :=
 match loadAt h n 0 p with
 | some (v,_)=>some v
 | none=>none
def DU (m:Nat) (vs:List AV):Bool:=vs.all fun v=>Nat.beq v.cells.length m && v.cells.all bM
def aY {β:Type}(e:ar) (x:Rd) (k:AV→ar→Option β):Option β :=
 match rd e x with
 | some (v,e)=>k v e
 | none=>none
def gz {β:Type}:ar→List Rd→(List AV→ar→Option β)→Option β
 | e,[],k=>k [] e
 | e,x::r,k=>match rd e x with
  | some (v,e)=>gz e r fun vs e=>k (v::vs) e
  | none=>none
def iY {β:Type}(e:ar) (x:Option Rd) (k:Option AV→ar→Option β):Option β :=
 match x with
 | none=>k none e
 | some x=>match rd e x with
  | some (v,e)=>k (some v) e
  | none=>none
def aH:Rd→Bool
 | .m _=>false
 | _=>true
def aN {β:Type}(P:Nat→Option ae) (op:j6) (e:ar) (hs:HS) (k:AV→ar→HS→Option β):Option β :=
 match op with
 | .mov x=>aY e x fun v e=>k v e hs
 | .pick c a b=>aY e c fun c e=>match aH a && aH b,rd e a,rd e b with
  | true,some (a,_),some (b,_)=>bA (Ni c a b) fun v=>k v e hs
  | _,_,_=>bP (gQ (.c c) a b ⟨e,hs⟩) fun v st=>k v st.env st.hs
 | .alloc zs=>lA (put hs.heap hs.next (.cells zs)) fun h=>k (.ptr hs.next 0) e ⟨h,hs.next+1⟩
 | .box x=>aY e x fun v e=>bQ (v.cells.all bM) (lA (put hs.heap hs.next (.cells v.cells)) fun h=>k (.ptr hs.next 0) e ⟨h,hs.next+1⟩)
 | .build zs ps=>gz e (lI ps) fun vs e=>bA (cL zs (ml ps vs)) fun cs=>k (.agg cs) e hs
 | .mks m ps=>gz e ps fun vs e=>bA (ft m vs) fun xs=>k (.own true m xs) e hs
 | .mksv m ps=>gz e ps fun vs e=>bQ (DU m vs) (lA (put hs.heap hs.next (.cells (vs.flatMap AV.cells))) fun h=>k (.sl hs.next 0 vs.length) e ⟨h,hs.next+1⟩)
 | .ld n 0 p=>aY e p fun p e=>bA (da hs.heap n p) fun v=>k v e hs
 | .ld n (t+1) p=>aY e p fun p e=>bP (loadAt hs.heap n (t+1) p) fun v h=>k v e ⟨h,hs.next⟩
 | .st n p x=>aY e p fun p e=>aY e x fun x e=>bA (storeAt hs.heap n p x) fun h=>k .junk e ⟨h,hs.next⟩
 | .nilck x=>aY e x fun v e=>bA (U0 v) fun v=>k v e hs
 | .bin op x y=>aY e x fun a e=>aY e y fun b e=>bA (c8 op a b) fun v=>k (.d v) e hs
 | .binb neg x y=>aY e x fun a e=>aY e y fun b e=>bA (aic neg a b) fun v=>k (.d v) e hs
 | .bina neg ks x y=>aY e x fun a e=>aY e y fun b e=>bA (WN neg ks a b) fun v=>k (.d v) e hs
 | .un op x=>aY e x fun a e=>bA (unD op a) fun v=>k (.d v) e hs
 | .conv j x=>aY e x fun a e=>bA (WG j a) fun v=>k (.d v) e hs
 | .toStr x=>aY e x fun a e=>bA (Lm hs.heap a) fun v=>k (.d v) e hs
 | .mkfn f a c=>gz e a fun a e=>gz e c fun c e=>k (.fn f (shareAll a) (shareAll c)) e hs
 | .mkslice z l c=>aY e l fun l e=>aY e c fun c e=>bA (Bw z l c) fun v=>k v e hs
 | .slice m x lo hi mx=>aY e x fun x e=>iY e lo fun lo e=>iY e hi fun hi e=>iY e mx fun mx e=>bA (uB hs.heap m x lo hi mx) fun v=>k v e hs
 | .slarr n x lo hi mx=>aY e x fun x e=>iY e lo fun lo e=>iY e hi fun hi e=>iY e mx fun mx e=>bA (Ml hs.heap n x lo hi mx) fun v=>k v e hs
 | .fa off p=>aY e p fun p e=>bA (gP off p) fun v=>k v e hs
 | .fld off n x=>aY e x fun x e=>bA (azj off n x) fun v=>k v e hs
 | .ia n x i=>aY e x fun x e=>aY e i fun i e=>bA (WM hs.heap n x i) fun v=>k v e hs
 | .iarr l n p i=>aY e p fun p e=>aY e i fun i e=>bA (Dy l n p i) fun v=>k v e hs
 | .ix l n a x i=>aY e x fun x e=>aY e i fun i e=>bA (ixV l n a x i) fun v=>k v e hs
 | .ixs x i=>aY e x fun x e=>aY e i fun i e=>bA (aoA x i) fun v=>k (.d v) e hs
 | .ext j true i=>match get e j with
  | some t=>bA (rT true t i) fun v=>k v (put e j (Hc t i)) hs
  | none=>none
 | .ext j false i=>match get e j with
  | some t=>bA (rT false t i) fun v=>k v e hs
  | none=>none
 | .len x=>aY e x fun x e=>bA (lenOf x) fun n=>k (.int .i64 (.ofNat n)) e hs
 | .cap x=>aY e x fun x e=>bQ (aoG x) (k (.int .i64 (.ofNat 0)) e hs)
 | .app m x y=>aY e x fun a e=>aY e y fun b e=>bP (aeB m hs.heap a b) fun v h=>k v e ⟨h,hs.next⟩
 | .appz z x n=>aY e x fun a e=>aY e n fun n e=>bP (Yv z hs.heap a n) fun v h=>k v e ⟨h,hs.next⟩
 | .cpy m x y=>aY e x fun a e=>aY e y fun b e=>bP (aj6 m hs.heap a b) fun v h=>k (.d v) e ⟨h,hs.next⟩
 | .clr z x=>aY e x fun x e=>bA (ayM z hs.heap x) fun h=>k (.tup []) e ⟨h,hs.next⟩
 | .minmax b xs=>gz e xs fun vs e=>bA (Fu b vs) fun v=>k v e hs
 | .call f args=>gz e args fun vs e=>bA (ca (Dn P) f vs hs.heap) fun v=>k v e hs
 | .calli f args=>gz e args fun vs e=>bP ((Dn P).call f vs hs) fun v hs=>k v e hs
 | .callv f args=>aY e f fun f e=>gz e args fun vs e=>bP (bf (Dn P) f vs hs) fun v hs=>k v e hs
 | .kill is=>k (.tup []) (is.foldl del e) hs
 | .idxb x c=>aY e x fun x e=>aY e c fun c e=>bA (ase hs.heap x c) fun v=>k v e hs
 | op=>bP (bt op (Dn P) ⟨e,hs⟩) fun v st=>k v st.env st.hs
def ef:List Rd→Bool
 | []=>true
 | x::r=>aH x && ef r
def Vr:Option Rd→Bool
 | none=>true
 | some x=>aH x
def bH:j6→Bool
 | .mov x=>aH x
 | .ld _ 0 p=>aH p
 | .nilck x=>aH x
 | .bin _ x y=>aH x && aH y
 | .binb _ x y=>aH x && aH y
 | .un _ x=>aH x
 | .conv _ x=>aH x
 | .fa _ p=>aH p
 | .fld _ _ x=>aH x
 | .ia _ x i=>aH x && aH i
 | .iarr _ _ p i=>aH p && aH i
 | .ix _ _ _ x i=>aH x && aH i
 | .ixs x i=>aH x && aH i
 | .ext _ mv _=>!mv
 | .len x=>aH x
 | .call _ args=>ef args
 | .pick c a b=>aH c && aH a && aH b
 | .build _ ps=>ef (lI ps)
 | .toStr x=>aH x
 | .mkfn _ a c=>ef a && ef c
 | .mkslice _ l c=>aH l && aH c
 | .minmax _ xs=>ef xs
 | .slice _ x a b c=>aH x && (Vr a && (Vr b && Vr c))
 | _=>false
def yo:j6→Bool
 | .calli _ args=>ef args
 | .callv f args=>aH f && ef args
 | _=>false
def cvi (P:Nat→Option ae) (i:VI) (e:ar) (hs:HS) (k:ar→HS→Option St):Option St :=
 match i.guard with
 | none=>match i.th with
  | []=>match i.dst with
   | some d=>aN P i.op e hs fun v e hs=>k (put e d (firm v)) hs
   | none=>aN P i.op e hs fun _ e hs=>k e hs
  | th=>match i.dst with
   | some d=>aN P i.op e hs fun v e hs=>lP (bO th v hs) fun v hs=>k (put e d (firm v)) hs
   | none=>aN P i.op e hs fun v e hs=>lP (bO th v hs) fun _ hs=>k e hs
 | some (s,w)=>match bH i.op,i.th,i.dst with
  | true,[],some d=>match get e s with
   | some g=>bA (gV g w (aN P i.op e hs fun v _ _=>some v)) fun v=>k (put e d (firm v)) hs
   | none=>none
  | _,_,_=>match yo i.op,i.th,i.dst with
   | true,[],some d=>match get e s with
    | some g=>bP (gH g w hs (aN P i.op e hs fun v _ hs=>some (v,hs))) fun v hs=>k (put e d (firm v)) hs
    | none=>none
   | _,_,_=>bA (bm (Dn P) i ⟨e,hs⟩) fun st=>k st.env st.hs
def bX (P:Nat→Option ae):List VI→ar→HS→Option St
 | [],e,hs=>some ⟨e,hs⟩
 | i::l,e,hs=>cvi P i e hs fun e hs=>bX P l e hs
theorem aw7 {op:BinOp}{a b v:AV}(h:bE op a b=some v):∃ x,v=.d x:=by
 unfold bE at h
 grind
theorem ax1 {op:UnOp}{a v:AV}(h:acW op a=some v):∃ x,v=.d x:=by
 unfold acW at h
 grind
theorem co {β:Type}{e:ar}{x:Rd}{k:AV→ar→Option β}:aY e x k=match rd e x with | some (v,e)=>k v e | none=>none:=rfl
theorem jw {β:Type}:∀ {l:List Rd}{e:ar}{k:List AV→ar→Option β},gz e l k=match rdAll e l with | some (vs,e)=>k vs e | none=>none
 | [],_,_=>rfl
 | x::r,e,k=>by
  simp only[gz,rdAll]
  cases rd e x with
  | none=>rfl
  | some p =>
   simp only;rw[jw]
   grind
theorem am4 {β:Type}{e:ar}{x:Option Rd}{k:Option AV→ar→Option β}:iY e x k=match rdOpt e x with | some (v,e)=>k v e | none=>none:=by
 cases x<;>grind [iY,rdOpt]
theorem at7 {h h':ac}{n:Option Nat}{p v:AV}(k:loadAt h n 0 p=some (v,h')):h'=h:=by
 unfold loadAt at k
 grind
def dn {β:Type}(x:Option (AV×St)) (k:AV→ar→HS→Option β):Option β :=
 match x with
 | some (v,st)=>k v st.env st.hs
 | none=>none
theorem me {e e1:ar}{x:Rd}{v:AV}(hs:aH x=true) (h:rd e x=some (v,e1)):e1=e:=by
 cases x<;>grind [rd,aH]
theorem I0 {a b:Rd}{st:St}:gQ (.c (.d (.bool true))) a b st=match rd st.env a with | some (v,e)=>some (v,⟨e,st.hs⟩) | none=>none:=rfl
theorem IX {a b:Rd}{st:St}:gQ (.c (.d (.bool false))) a b st=match rd st.env b with | some (v,e)=>some (v,⟨e,st.hs⟩) | none=>none:=rfl
theorem GF {β:Type}{op:j6}{e:ar}{hs:HS}{k:AV→ar→HS→Option β}:aN P op e hs k=dn (bt op (Dn P) ⟨e,hs⟩) k:=by
 cases op with
 | mov x=>grind [aN,bt,Nf,co,dn]
 | pick c a b =>
  simp only[aN,bt,co]
  cases hc:rd e c with
  | none=>grind [gQ,dn]
  | some q =>
   obtain⟨v,e1⟩:=q;have h0:gQ c a b ⟨e,hs⟩=gQ (.c v) a b ⟨e1,hs⟩:=by
    unfold gQ;simp only;rw[hc];rfl
   rw[h0];simp only;split
   ·rename_i va _ vb _ hst hra hrb;simp only[Bool.and_eq_true]at hst;have ea:=me hst.1 hra;have eb:=me hst.2 hrb;subst ea;subst eb;simp only[dn]
    cases v with
    | d x=>cases x with
     | bool t =>
      cases t
      all_goals grind [IX,Ni,bA,I0]
     | _=>rfl
    | _=>rfl
   ·simp only[bP,dn]
    grind
 | ld n t p =>
  cases t with
  | zero =>
   simp only[aN,bt,wz,co,dn]
   cases rd e p with
   | none=>rfl
   | some q =>
    obtain⟨v,e1⟩:=q;simp only[da,bA]
    cases hl:loadAt hs.heap n 0 v with
    | none=>rfl
    | some r=>obtain⟨v2,h2⟩:=r;simp only[at7 hl]
  | succ t =>
   grind [aN,bt,wz,co,dn,bP]
 | alloc zs=>rfl
 | box x =>
  grind [aN,bt,Nm,co,dn,bQ,lA,CX]
 | build zs ps =>
  grind [aN,bt,ww,jw,dn,bA]
 | mks m ps =>
  grind [aN,bt,Ji,jw,dn,bA]
 | mksv m ps =>
  grind [aN,bt,XR,jw,dn,bQ,lA,CX,DU]
 | st n p x =>
  simp only[aN,bt,ape,co,dn]
  grind [bA]
 | nilck x =>
  grind [aN,bt,AR,co,dn,bA,U0]
 | bin op x y =>
  simp only[aN,bt,Hj,NG,co,dn]
  grind [bA,c8,aw7]
 | binb neg x y =>
  simp only[aN,bt,FI,co,dn]
  grind [bA,aic]
 | bina neg ks x y =>
  simp only[aN,bt,FW,co,dn]
  cases rd e x<;>grind [bA,WN]
 | un op x =>
  grind [aN,bt,aci,co,dn,bA,unD,ax1]
 | conv j x =>
  simp only[aN,bt,Bs,co,dn]
  cases rd e x with
  | none=>rfl
  | some q =>
   obtain⟨v,e1⟩:=q;simp only[bA,WG]
   grind
 | toStr x =>
  simp only[aN,bt,G6,co,dn]
  grind [bA,Lm]
 | mkfn f a c =>
  grind [aN,bt,Cy,jw,dn]
 | mkslice z l c =>
  simp only[aN,bt,iu,co,dn]
  cases rd e l<;>grind [bA,Bw]
 | slice m x lo hi mx =>
  simp only[aN,bt,FT,co,am4,dn]
  cases rd e x<;>grind [bA,uB]
 | slarr n x lo hi mx =>
  simp only[aN,bt,Nu,co,am4,dn]
  cases rd e x with
  | none=>rfl
  | some q =>
   obtain⟨v,e1⟩:=q;simp only
   cases v<;>grind [bA,Ml]
 | fa off p =>
  grind [aN,bt,aew,co,dn,bA]
 | fld off n x =>
  simp only[aN,bt,Jo,co,dn]
  cases rd e x with
  | none=>rfl
  | some q =>
   obtain⟨v,e1⟩:=q;simp only[bA,azj]
   grind
 | ia n x i =>
  simp only[aN,bt,ajd,co,dn]
  cases rd e x with
  | none=>rfl
  | some q =>
   obtain⟨v,e1⟩:=q;simp only
   cases rd e1 i with
   | none=>rfl
   | some q =>
    obtain⟨w,e2⟩:=q;simp only[bA,WM]
    cases kX w with
    | none=>rfl
    | some j =>
     simp only
     cases v<;>grind
 | iarr l n p i =>
  simp only[aN,bt,Gy,co,dn]
  cases rd e p<;>grind [bA,Dy]
 | ix l n a x i =>
  simp only[aN,bt,Sh,co,dn]
  cases rd e x with
  | none=>rfl
  | some q =>
   obtain⟨v,e1⟩:=q;simp only
   cases hi:rd e1 i with
   | none=>grind
   | some q =>
    obtain⟨w,e2⟩:=q;simp only[bA,ixV]
    grind
 | ixs x i =>
  simp only[aN,bt,Il,co,dn]
  cases rd e x with
  | none=>rfl
  | some q =>
   obtain⟨v,e1⟩:=q;simp only
   cases hi:rd e1 i with
   | none=>grind
   | some q =>
    obtain⟨w,e2⟩:=q;simp only[bA,aoA]
    grind
 | ext j mv i =>
  cases mv with
  | true =>
   simp only[aN,bt,tU,dn]
   cases get e j with
   | none=>rfl
   | some t =>
    simp only[bA,rT,Hc]
    grind
  | false =>
   simp only[aN,bt,tU,dn]
   cases get e j with
   | none=>rfl
   | some t =>
    simp only[bA,rT]
    grind
 | len x =>
  grind [aN,bt,NX,co,dn,bA]
 | cap x =>
  simp only[aN,bt,Iw,co,dn]
  cases rd e x with
  | none=>rfl
  | some q =>
   obtain⟨v,e1⟩:=q;simp only[bQ,aoG]
   grind
 | app m x y =>
  simp only[aN,bt,Aq,co,dn]
  cases rd e x<;>grind [bP,aeB]
 | appz z x n =>
  simp only[aN,bt,akw,co,dn]
  grind [bP,Yv]
 | cpy m x y =>
  simp only[aN,bt,Yi,co,dn]
  cases rd e x with
  | none=>rfl
  | some q =>
   obtain⟨v,e1⟩:=q;simp only
   cases rd e1 y with
   | none=>rfl
   | some q =>
    obtain⟨w,e2⟩:=q;simp only[bP,aj6]
    cases elems hs.heap w with
    | none=>rfl
    | some ys =>
     simp only
     cases v with
     | sl id off len =>
      grind
     | _ =>
      simp only;generalize lenOf _=n
      cases n with
      | none=>rfl
      | some n=>cases n<;>rfl
 | clr z x =>
  simp only[aN,bt,Nl,co,dn]
  cases rd e x with
  | none=>rfl
  | some q =>
   simp only[bA,ayM]
   grind
 | minmax b xs =>
  simp only[aN,bt,rV,jw,dn]
  cases rdAll e xs with
  | none=>rfl
  | some q =>
   simp only[bA,Fu]
   grind
 | call f args =>
  grind [aN,bt,xS,jw,dn,bA]
 | calli f args =>
  grind [aN,bt,xh,jw,dn,bP]
 | callv f args =>
  simp only[aN,bt,xc,co,jw,dn]
  grind [bP]
 | kill is=>rfl
 | idxb x c =>
  simp only[aN,bt,aiQ,co,dn]
  grind [bA]
 | _ =>
  simp only[aN,bP,dn]
  grind
theorem Jw:∀ {l:List Rd}{e e1:ar}{vs:List AV},ef l=true→rdAll e l=some (vs,e1)→e1=e
 | [],e,e1,vs,_,h=>by grind [rdAll]
 | x::r,e,e1,vs,hs,h=>by
  simp only[ef,Bool.and_eq_true]at hs;simp only[rdAll]at h;split at h
  ·simp at h
  ·rename_i v e2 h1;split at h
   ·simp at h
   ·rename_i vs2 e3 h2;have a1:=me hs.1 h1;have a2:=Jw hs.2 h2
    simp_all
theorem gv {β:Type}{e:ar}{x:Rd}{k:AV→ar→Option β}(h:aH x=true):aY e x k=aY e x fun v _=>k v e:=by
 grind [aY,me]
theorem pO {β:Type}{e:ar}{l:List Rd}{k:List AV→ar→Option β}(h:ef l=true):gz e l k=gz e l fun v _=>k v e:=by
 grind [jw,Jw]
theorem IJ {β:Type}{e:ar}{x:Option Rd}{k:Option AV→ar→Option β}(h:Vr x=true):iY e x k=iY e x fun v _=>k v e:=by
 cases x with
 | none=>rfl
 | some x=>exact gv (k:=fun v e=>k (some v) e) h
theorem ij {α β γ:Type}{x:Option α}{f:α→Option β}{g:β→Option γ}:bA (bA x f) g=bA x fun v=>bA (f v) g:=by
 cases x<;>rfl
theorem dk {β γ:Type}{e:ar}{x:Rd}{k:AV→ar→Option β}{g:β→Option γ}:bA (aY e x k) g=aY e x fun v e=>bA (k v e) g:=by
 simp only[aY];cases rd e x<;>rfl
theorem Dv {β γ:Type}{e:ar}{x:List Rd}{k:List AV→ar→Option β}{g:β→Option γ}:bA (gz e x k) g=gz e x fun v e=>bA (k v e) g:=by
 simp only[jw];cases rdAll e x<;>rfl
theorem cW {α β:Type}{v:α}{f:α→Option β}:bA (some v) f=f v:=rfl
theorem K0 {β:Type}{e:ar}{x y:Rd}{k:AV→AV→ar→Option β}(h:aH x=true) (h2:aH y=true):(aY e x fun a e=>aY e y fun b e=>k a b e)=aY e x fun a _=>aY e y fun b _=>k a b e:=by
 grind [aY,me]
theorem HU {β:Type}{e:ar}{x y:Rd}{k:AV→AV→Option β}(h:aH x=true) (h2:aH y=true):(aY e x fun a e=>aY e y fun b _=>k a b)=aY e x fun a _=>aY e y fun b _=>k a b:=K0 (k:=fun a b _=>k a b) h h2
theorem aqv {β:Type}{op:j6}{e:ar}{hs:HS}{k:AV→ar→HS→Option β}(h:bH op=true):aN P op e hs k=bA (aN P op e hs fun v _ _=>some v) fun v=>k v e hs:=by
 cases op with
 | mov x =>
  grind [bH,aN,dk,cW,gv]
 | ld n t p =>
  cases t<;>simp_all [bH,aN,dk,ij,cW,gv]
 | nilck x =>
  grind [bH,aN,dk,ij,cW,gv]
 | un op x =>
  grind [bH,aN,dk,ij,cW,gv]
 | conv op x =>
  grind [bH,aN,dk,ij,cW,gv]
 | fa off p =>
  grind [bH,aN,dk,ij,cW,gv]
 | fld off n p =>
  grind [bH,aN,dk,ij,cW,gv]
 | len x =>
  grind [bH,aN,dk,ij,cW,gv]
 | bin op x y =>
  simp only[bH,Bool.and_eq_true]at h;simp only[aN,dk,ij,cW];exact(K0 h.1 h.2).trans (HU h.1 h.2).symm
 | binb op x y =>
  simp only[bH,Bool.and_eq_true]at h;simp only[aN,dk,ij,cW];exact(K0 h.1 h.2).trans (HU h.1 h.2).symm
 | ia n x y =>
  simp only[bH,Bool.and_eq_true]at h;simp only[aN,dk,ij,cW];exact(K0 h.1 h.2).trans (HU h.1 h.2).symm
 | iarr l n x y =>
  simp only[bH,Bool.and_eq_true]at h;simp only[aN,dk,ij,cW];exact(K0 h.1 h.2).trans (HU h.1 h.2).symm
 | ix l n a x y =>
  simp only[bH,Bool.and_eq_true]at h;simp only[aN,dk,ij,cW];exact(K0 h.1 h.2).trans (HU h.1 h.2).symm
 | ixs x y =>
  simp only[bH,Bool.and_eq_true]at h;simp only[aN,dk,ij,cW];exact(K0 h.1 h.2).trans (HU h.1 h.2).symm
 | ext j mv i =>
  cases mv with
  | true=>simp[bH]at h
  | false =>
   simp only[aN]
   cases get e j with
   | none=>rfl
   | some t=>grind [ij,cW]
 | call f args =>
  grind [bH,aN,Dv,ij,cW,pO]
 | build zs ps =>
  grind [bH,aN,Dv,ij,cW,pO]
 | slice m x lo hi mx =>
  simp only[bH,Bool.and_eq_true]at h;obtain⟨h0,h1,h2,h3⟩:=h;have bd:∀ {γ:Type}{x:Option Rd}{e:ar}{k:Option AV→ar→Option AV}{g:AV→Option γ},bA (iY e x k) g=iY e x fun v e=>bA (k v e) g:=by
   intro γ x e k g
   cases x with
   | none=>rfl
   | some x=>exact dk
  simp only[aN,dk,bd,ij,cW];rw[gv h0,gv (k:=fun v e_1=>iY e_1 lo fun v_1 e_1=>iY e_1 hi fun v_2 e_1=>iY e_1 mx fun v_3 _=>bA (uB hs.heap m v v_1 v_2 v_3) fun v=>k v e hs) h0]
  congr 1
  funext v _;rw[IJ h1,IJ (k:=fun v_1 e_1=>iY e_1 hi fun v_2 e_1=>iY e_1 mx fun v_3 _=>bA (uB hs.heap m v v_1 v_2 v_3) fun v=>k v e hs) h1]
  grind [IJ]
 | minmax b ps =>
  grind [bH,aN,Dv,ij,cW,pO]
 | toStr x =>
  grind [bH,aN,dk,ij,cW,gv]
 | mkslice z x y =>
  simp only[bH,Bool.and_eq_true]at h;simp only[aN,dk,ij,cW];exact(K0 h.1 h.2).trans (HU h.1 h.2).symm
 | mkfn f a c =>
  simp_all [bH,aN,Dv,cW,pO]
 | pick c a b =>
  simp only[bH,Bool.and_eq_true]at h;simp only[aN,dk];have h2:(aH a && aH b)=true:=by simp_all
  simp only[aY]
  cases hc:rd e c with
  | none=>rfl
  | some q =>
   obtain⟨v,e1⟩:=q;have:=me h.1.1 hc;subst this;simp only[h2]
   cases ha:rd e1 a with
   | none =>
    cases hb:rd e1 b with
    | none =>
     cases v<;>try rfl
     rename_i d;cases d<;>try rfl
     rename_i t;cases t<;>simp only[I0,IX,ha,hb,bP,bA]
    | some q =>
     have:=me h.2 hb;subst this
     cases v<;>try rfl
     rename_i d;cases d<;>try rfl
     rename_i t;cases t<;>simp only[I0,IX,ha,hb,bP,bA]
   | some q =>
    obtain⟨va,ea⟩:=q;have:=me h.1.2 ha;subst this
    cases hb:rd ea b with
    | none =>
     cases v<;>try rfl
     rename_i d;cases d<;>try rfl
     rename_i t;cases t<;>simp only[I0,IX,ha,hb,bP,bA]
    | some q=>grind [ij,cW]
 | _=>simp[bH]at h
theorem au0 {α β γ δ ε:Type}{x:Option (α×β)}{f:α→β→Option (γ×δ)}{g:γ→δ→Option ε}:bP (bP x f) g=bP x fun v w=>bP (f v w) g:=by
 cases x<;>rfl
theorem apc {β:Type}{op:j6}{e:ar}{hs:HS}{k:AV→ar→HS→Option β}(h:yo op=true):aN P op e hs k=bP (aN P op e hs fun v _ hs=>some (v,hs)) fun v hs=>k v e hs:=by
 cases op with
 | calli f args =>
  simp only[aN];rw[pO h];simp only[jw]
  cases rdAll e args with
  | none=>rfl
  | some q=>simp only[au0];rfl
 | callv f args =>
  simp only[yo,Bool.and_eq_true]at h;simp only[aN];simp only[pO h.2];simp only[aY]
  cases hf:rd e f with
  | none=>rfl
  | some q =>
   obtain⟨v,e1⟩:=q;have:=me h.1 hf;subst this;simp only[jw]
   cases rdAll e1 args with
   | none=>rfl
   | some q=>simp only[au0];rfl
 | _=>simp[yo]at h
theorem afk:firm (.tup [])=.tup []:=rfl
theorem MW {i:VI}{e:ar}{hs:HS}{k:ar→HS→Option St}:cvi P i e hs k=bA (bm (Dn P) i ⟨e,hs⟩) fun st=>k st.env st.hs:=by
 obtain⟨dst,guard,op,th⟩:=i;unfold cvi
 cases guard with
 | none =>
  simp only[bm,dl]
  cases th with
  | nil =>
   cases dst with
   | none =>
    simp only[GF,dn,bc]
    cases bt op (Dn P) ⟨e,hs⟩<;>rfl
   | some d =>
    simp only[GF,dn,bc]
    cases bt op (Dn P) ⟨e,hs⟩<;>rfl
  | cons p r =>
   cases dst with
   | none =>
    simp only[GF,dn,bc,lP]
    cases bt op (Dn P) ⟨e,hs⟩<;>rfl
   | some d =>
    simp only[GF,dn,bc,lP]
    cases bt op (Dn P) ⟨e,hs⟩<;>rfl
 | some g =>
  obtain⟨s,w⟩:=g;simp only;split
  ·rename_i d hst;have he:∀ {k:AV→ar→HS→Option St},dn (bt op (Dn P) ⟨e,hs⟩) k=bA (aN P op e hs fun v _ _=>some v) fun v=>k v e hs:=by
    intro k;rw[←GF,aqv hst]
   have hv:∀ {k:ar→HS→Option St},bA (dl (Dn P) ⟨some d,some (s,w),op,[]⟩ ⟨e,hs⟩) (fun st=>k st.env st.hs)=bA (aN P op e hs fun v _ _=>some v) fun v=>k (put e d (firm v)) hs:=by
    intro k;rw[←he (k:=fun v e hs=>k (put e d (firm v)) hs)];simp only[dl,dn,bc]
    cases bt op (Dn P) ⟨e,hs⟩<;>rfl
   simp only[bm]
   cases get e s with
   | none=>rfl
   | some g =>
    cases g with
    | d x=>cases x with
     | bool b =>
      simp only[gV]
      cases hb:(b == w)<;>simp_all [bA,afk,bc]
     | _=>rfl
    | tup vs=>cases vs<;>rfl
    | _=>rfl
  ·split
   ·rename_i d hst _;have he:∀ {k:AV→ar→HS→Option St},dn (bt op (Dn P) ⟨e,hs⟩) k=bP (aN P op e hs fun v _ hs=>some (v,hs)) fun v hs=>k v e hs:=by
     intro k;rw[←GF,apc hst]
    have hv:∀ {k:ar→HS→Option St},bA (dl (Dn P) ⟨some d,some (s,w),op,[]⟩ ⟨e,hs⟩) (fun st=>k st.env st.hs)=bP (aN P op e hs fun v _ hs=>some (v,hs)) fun v hs=>k (put e d (firm v)) hs:=by
     intro k;rw[←he (k:=fun v e hs=>k (put e d (firm v)) hs)];simp only[dl,dn,bc]
     cases bt op (Dn P) ⟨e,hs⟩<;>rfl
    simp only[bm]
    cases get e s with
    | none=>rfl
    | some g =>
     cases g with
     | d x=>cases x with
      | bool b =>
       simp only[gH]
       cases hb:(b == w)<;>simp_all [bA,bP,afk,bc]
      | _=>rfl
     | tup vs=>cases vs<;>rfl
     | _=>rfl
   ·rfl
theorem aae:∀ {l:List VI}{e:ar}{hs:HS},gB (Dn P) l ⟨e,hs⟩=bX P l e hs
 | [],_,_=>rfl
 | i::l,e,hs=>by
  simp only[gB,bX,MW,bA]
  cases bm (Dn P) i ⟨e,hs⟩ with
  | none=>rfl
  | some st=>exact aae
theorem yr {d:Bool}{ops:List VI}{e:ar}{hs:HS}{x:Option St}(h:bX P ops e hs=x):(Dn P).code (.reg d ops) ⟨e,hs⟩=br x:=by
 grind [T8,aae]
theorem bl {perm gco:List Nat}{ops:List VI}{e:ar}{hs:HS}{x:Option St}(ha:nj e ops=true) (hb:(perm.all fun i=>decide (i<ops.length))=true) (h:bX P (perm.filterMap fun i=>ops[i]?) e hs=x):(Dn P).code (.regP perm gco [] ops) ⟨e,hs⟩=br x:=by
 grind [aqH,ae3,aae]
def azI (e:ar) (d:Option Nat):Bool :=
 match d with
 | some d=>match get e d with
  | some a=>EJ a
  | none=>false
 | none=>false
def atE (P:Nat→Option ae) (F:List Nat) (v:VI) (e:ar) (hs:HS) (k:ar→HS→Option St):Option St :=
 match mG v.op with
 | .call=>cvi P v e hs fun e2 s2=>bQ (bT F hs.heap s2.heap) (k e2 s2)
 | .take=>cvi P v e hs fun e2 s2=>bQ (azI e2 v.dst) (k e2 s2)
 | .read=>cvi P v e ⟨bY (ju v e) hs.heap,hs.next⟩ fun e2 _=>k e2 hs
def Wo (P:Nat→Option ae):List (Bool×VI)→List Nat→ar→HS→Option St
 | [],_,e,hs=>some ⟨e,hs⟩
 | (a,v)::l,F,e,hs=>match a with
  | false=>cvi P v e hs fun e2 s2=>Wo P l F e2 s2
  | true=>atE P F v e hs fun e2 s2=>Wo P l (fM true v e F) e2 s2
theorem avt {F:List Nat}{v:VI}{e:ar}{hs:HS}{k:ar→HS→Option St}:atE P F v e hs k=bA (oh (Dn P) F v ⟨e,hs⟩) fun st=>k st.env st.hs:=by
 unfold atE oh
 cases mG v.op with
 | call =>
  simp only[MW]
  cases bm (Dn P) v ⟨e,hs⟩ with
  | none=>rfl
  | some st =>
   simp only[bA]
   cases bT F hs.heap st.hs.heap<;>rfl
 | take =>
  simp only[MW]
  cases bm (Dn P) v ⟨e,hs⟩ with
  | none=>rfl
  | some st =>
   simp only[bA,azI]
   cases v.dst with
   | none=>rfl
   | some d =>
    simp only
    cases get st.env d with
    | none=>rfl
    | some a=>simp only;cases EJ a<;>rfl
 | read =>
  simp only[MW]
  cases bm (Dn P) v ⟨e,⟨bY (ju v e) hs.heap,hs.next⟩⟩<;>rfl
def aid (nr:List Nat) (ops:List VI) (i:Nat):Option (Bool×VI) :=
 match ops[i]? with
 | some v=>some (b8 i nr,v)
 | none=>none
theorem Ud {nr:List Nat}{ops:List VI}:∀ {l:List Nat}{F:List Nat}{e:ar}{hs:HS},(l.all fun i=>decide (i<ops.length))=true→cS (Dn P) nr ops l F ⟨e,hs⟩=Wo P (l.filterMap (aid nr ops)) F e hs
 | [],_,_,_,_=>rfl
 | i::l,F,e,hs,hb=>by
  simp only[List.all_cons,Bool.and_eq_true,decide_eq_true_eq]at hb;have h1:ops[i]?=some ops[i]:=List.getElem?_eq_getElem hb.1;have h2:aid nr ops i=some (b8 i nr,ops[i]):=by grind [aid]
  simp only[cS,h1,List.filterMap_cons,h2,Wo,aV]
  cases b8 i nr with
  | false =>
   simp only[MW,fM]
   cases bm (Dn P) ops[i] ⟨e,hs⟩ with
   | none=>rfl
   | some st=>exact Ud hb.2
  | true =>
   simp only[avt]
   cases oh (Dn P) F ops[i] ⟨e,hs⟩ with
   | none=>rfl
   | some st=>exact Ud hb.2
theorem cM {perm gco nr:List Nat}{ops:List VI}{e:ar}{hs:HS}{x:Option St}(ha:nj e ops=true) (hb:(perm.all fun i=>decide (i<ops.length))=true) (h:Wo P (perm.filterMap (aid nr ops)) [] e hs=x):(Dn P).code (.regP perm gco nr ops) ⟨e,hs⟩=br x:=by
 rw[eh,←h,←Ud hb];simp only[bp,GB,Fr,ha]
 cases cS (Dn P) nr ops perm [] ⟨e,hs⟩<;>rfl
abbrev F (i:Nat):VC:=.reg false [⟨none,none,.free i,[]⟩]
def frK (e:ar) (hs:HS) (i:Nat):Option AV→Option (aZ×St)
 | some (.ptr id _)=>some (.normal,⟨del e i,⟨del hs.heap id,hs.next⟩⟩)
 | some (.fn _ _ caps)=>some (.normal,⟨del e i,⟨delAll hs.heap (Bn caps),hs.next⟩⟩)
 | _=>some (.normal,⟨e,hs⟩)
theorem aBj {e:ar}{h:ac}{n i id o:Nat}:frK e ⟨h,n⟩ i (some (.ptr id o))=some (.normal,⟨del e i,⟨del h id,n⟩⟩):=rfl
theorem aBr {e:ar}{h:ac}{n i f:Nat}{a c:List AV}:frK e ⟨h,n⟩ i (some (.fn f a c))=some (.normal,⟨del e i,⟨delAll h (Bn c),n⟩⟩):=rfl
theorem axI {i:Nat}{e:ar}{hs:HS}:(Dn P).code (F i) ⟨e,hs⟩=frK e hs i (get e i):=by
 rw[T8];simp only[gB,bm,dl,bt,Yl]
 cases get e i with
 | none=>rfl
 | some v=>cases v<;>rfl
abbrev K (l:List Nat):VC:=.reg false [⟨none,none,.kill l,[]⟩]
theorem azD {is:List Nat}{e:ar}{hs:HS}:(Dn P).code (K is) ⟨e,hs⟩=some (.normal,⟨is.foldl del e,hs⟩):=by rw[T8];rfl
section
variable {r:bD}
theorem CN {l:List (Nat×Nat)}(h:FV l=true):l=[]:=by
 grind [FV]
theorem IP {a:Bool}{F:List Nat}{i:VI}(h:kS a i=true) {e:ar}{hs:HS}{st1:St}(hr:aV r a F i ⟨e,hs⟩=some st1):st1.hs=hs∧∀ hs',aV r a F i ⟨e,hs'⟩=some ⟨st1.env,hs'⟩:=by
 simp only[kS,Bool.and_eq_true,Bool.not_eq_true']at h;obtain⟨⟨ha,hth⟩,hop⟩:=h;have hth:=CN hth;subst ha;simp only[aV]at hr⊢;have go:∀ st1,dl r i ⟨e,hs⟩=some st1→st1.hs=hs∧∀ hs',dl r i ⟨e,hs'⟩=some ⟨st1.env,hs'⟩:=by
  intro st1 h;unfold dl at h;simp only[hth]at h;split at h
  ·rename_i v st0 hv;simp only[Option.some.injEq]at h;subst h;obtain⟨q1,q2⟩:=atf hop hv;refine⟨by cases i.dst<;>exact q1,fun hs'=>?_⟩;unfold dl;simp only[hth,q2 hs']
   cases i.dst<;>rfl
  simp_all
 unfold bm at hr
 cases hg:i.guard with
 | none =>
  grind [bm]
 | some sw =>
  rw[hg]at hr;simp only at hr;split at hr
  ·rename_i b hb;split at hr
   ·grind [bm]
   ·rename_i hbw;simp only[Option.some.injEq]at hr;subst hr;exact⟨by cases i.dst<;>rfl,fun hs'=>by unfold bm;rw[hg];simp only[hb,hbw];cases i.dst<;>rfl⟩
  ·rename_i hb;simp only[Option.some.injEq]at hr;subst hr;exact⟨by cases i.dst<;>rfl,fun hs'=>by unfold bm;rw[hg];simp only[hb];cases i.dst<;>rfl⟩
  simp_all
theorem Sc {i:VI}(h:isQ i=true):∃ R M,fH i=some (.q,R,M):=by
 grind [isQ]
theorem Ux {i:VI}(h:isP i=true):∃ R M,fH i=some (.p,R,M):=by
 grind [isP]
theorem Dt {i:VI}(h:BW i=true):mG i.op=.read:=by
 grind [BW]
theorem arc {i:VI}(h:ai3 i=true):mG i.op=.take:=by
 grind [ai3]
theorem afB {i:VI}(h:WU i=true):mG i.op=.call:=by
 grind [WU]
theorem Nt {a:Bool}{F:List Nat}{i:VI}(h:SQ a i=true) {e:ar}{hs:HS}{st1:St}(hr:aV r a F i ⟨e,hs⟩=some st1):st1.hs=hs:=by
 simp only[SQ,Bool.and_eq_true,Bool.or_eq_true,Bool.not_eq_true']at h;obtain⟨hq,hn⟩:=h;obtain⟨R,M,hk⟩:=Sc hq;have plain:bm r i ⟨e,hs⟩=some st1→st1.hs=hs:=fun h=>by
  obtain⟨ρ,τ,K,q1,_⟩:=jK hk e hs st1 h;rw[q1];exact K.2 hs
 cases a<;>grind [Dt,aV,oh]
theorem Nx {K:HK}{f:St→Option St}{R M:List Nat}(hl:NB K f R M) {e:ar}(hsrt:bg e) {hs:HS}{st1:St}(hr:f ⟨e,hs⟩=some st1):∃ ρ τ,K hs ρ τ∧st1.hs=τ hs∧∀ hs',ρ hs'→f ⟨e,hs'⟩=some ⟨st1.env,τ hs'⟩:=by
 obtain⟨ρ,τ,k,q1,q2,q3,q4⟩:=hl e hs st1 hr;refine⟨ρ,τ,k,q1,fun hs' hρ=>?_⟩;obtain⟨e1',p1,p2,p3⟩:=q4 e hs' (fun _ _=>rfl) hρ;obtain⟨_,_,_,_,s2,_,_⟩:=hl e hs' _ p1
 grind [np]
theorem aqe {F F':List Nat}{u:VI}(hq:isQ u=true) (hn:BW u=true) {e:ar}(hsrt:bg e) {hs:HS}{st1:St}(hr:aV r true F u ⟨e,hs⟩=some st1) :
  ∀ hs',bB (bY (ju u e) hs.heap) (bY (ju u e) hs'.heap)→aV r true F' u ⟨e,hs'⟩=some ⟨st1.env,hs'⟩:=by
 intro hs' hle;obtain⟨R,M,hk⟩:=Sc hq;have hn:=Dt hn;simp only[aV,oh,hn]at hr⊢;split at hr
 ·rename_i st2 h2;simp only[Option.some.injEq]at hr;subst hr;obtain⟨ρ,τ,K,q1,q2⟩:=Nx (jK hk) hsrt h2;rw[q2 ⟨bY (ju u e) hs'.heap,hs'.next⟩ (K.1 _ hle)]
 simp_all
theorem aqg {F:List Nat}{v:VI}(hn:WU v=true) {e:ar}{hs:HS}{st1:St}(hr:aV r true F v ⟨e,hs⟩=some st1):bT F hs.heap st1.hs.heap=true:=by
 grind [afB,aV,oh]
theorem ajO {a:Bool}{F F':List Nat}{v:VI}{st st1:St}(hsub:∀ k∈F',k∈F) (hr:aV r a F v st=some st1):aV r a F' v st=some st1:=by
 cases a<;>grind [aV,oh,afe]
theorem asI (a:Bool) (v:VI) (e:ar) {F F':List Nat}(hsub:∀ k∈F',k∈F):∀ k∈fM a v e F',k∈fM a v e F:=by
 intro k hk;unfold fM at hk⊢
 grind
theorem axa (a:Bool) (v:VI) (e:ar) (F:List Nat):∀ k∈F,k∈fM a v e F:=by
 intro k hk;unfold fM
 grind
theorem UM {nr:List Nat}{vs:List VI}:∀ {l:List Nat}{F F':List Nat}{st st':St},(∀ k∈F',k∈F)→cS r nr vs l F st=some st'→cS r nr vs l F' st=some st'
 | [],_,_,_,_,_,h=>h
 | i::l,F,F',st,st',hsub,h=>by
  simp only[cS]at h⊢;split at h
  ·simp at h
  ·split at h
   ·simp at h
   ·rename_i st1 h1;simp only[ajO hsub h1];exact UM (asI _ _ _ hsub) h
theorem anS {a:Bool}{F:List Nat}{v:VI}{e:ar}{hs:HS}(hsrt:bg e) {R M:List Nat}(hf:a=false∨mG v.op≠.read∨fH v=some (.q,R,M)) {st1:St}(hr:aV r a F v ⟨e,hs⟩=some st1):bm r v ⟨e,hs⟩=some st1:=by
 cases a with
 | false=>exact hr
 | true =>
  simp only[aV,oh]at hr;split at hr
  ·grind
  ·grind
  ·rename_i hn;split at hr
   ·rename_i st2 h;simp only[Option.some.injEq]at hr;subst hr;have hk:=(hf.resolve_left (by simp)).resolve_left (fun h=>h hn);obtain⟨ρ,τ,K,q1,q2⟩:=Nx (jK hk) hsrt h;have:=q2 hs (K.1 _ (bB.only _ _));rw[K.2 hs]at this;exact this
   simp_all
theorem mo {a b:Bool}{u v:VI}(h:yf a b u v=true):∃ R1 M1 R2 M2,qG a u=some (R1,M1)∧qG b v=some (R2,M2)∧(∀ k∈M1,k∉R2∧k∉M2)∧∀ k∈M2,k∉R1∧k∉M1:=by
 grind [yf,fh]
theorem amA {a:Bool}{v:VI}{R M:List Nat}(h:qG a v=some (R,M)) {e e':ar}(he:∀ k∈R,get e' k=get e k) (F:List Nat):fM a v e' F=fM a v e F:=by
 cases a with
 | false=>rfl
 | true =>
  unfold qG at h;split at h
  ·obtain⟨rfl,rfl⟩:=h;have:ju v e'=ju v e:=Uz fun k hk=>he k (List.mem_append_right _ hk)
   grind [fM]
  simp_all
def Mg (r:bD) (a b:Bool) (u v:VI) (F:List Nat) (st st1 st2:St):Prop :=
 ∃ st1',aV r b F v st=some st1'∧aV r a (fM b v st.env F) u st1'=some st2∧∀ k∈fM a u st1'.env (fM b v st.env F),k∈fM b v st1.env (fM a u st.env F)
theorem at5 {a b:Bool}{u v:VI}{R1 M1 R2 M2:List Nat}(f1:qG a u=some (R1,M1)) (f2:qG b v=some (R2,M2)) (d1:∀ k∈M1,k∉R2∧k∉M2) (d2:∀ k∈M2,k∉R1∧k∉M1) {F:List Nat}{st st1 st2 st1':St}
  (h1:aV r a F u st=some st1) (k1:aV r b F v st=some st1') (k2:aV r a (fM b v st.env F) u st1'=some st2):Mg r a b u v F st st1 st2:=by
 refine⟨st1',k1,k2,?_⟩;obtain⟨e,hs⟩:=st;obtain⟨_,g1,_⟩:=gu (r:=r) f1 F e hs _ h1;obtain⟨_,g2,_⟩:=gu (r:=r) f2 F e hs _ k1;rw[amA f1 (e:=e) (e':=st1'.env) (fun k hk=>g2 k fun hm=>(d2 k hm).1 hk),amA f2 (e:=e) (e':=st1.env) (fun k hk=>g1 k fun hm=>(d1 k hm).1 hk)];intro k hk
 cases a with
 | false=>exact hk
 | true =>
  cases b<;>grind [fM]
theorem YB {a b:Bool}{u v:VI}(h:NP a b u v=true) {F:List Nat}{st st1 st2:St}(hsrt:bg st.env) (h1:aV r a F u st=some st1) (h2:aV r b (fM a u st.env F) v st1=some st2):Mg r a b u v F st st1 st2:=by
 simp only[NP,Bool.and_eq_true,Bool.or_eq_true]at h;obtain⟨hap,h⟩:=h;obtain⟨R1,M1,R2,M2,f1,f2,d1,d2⟩:=mo hap;have l1:=fun F=>gu (r:=r) f1 F
 have l2:=fun F=>gu (r:=r) f2 F
 have h2':=ajO (F':=F) (axa a u st.env F) h2;have fin:(∃ st1',aV r b F v st=some st1'∧aV r a F u st1'=some st2)→(∀ {s s':St},aV r a F u s=some s'→aV r a (fM b v st.env F) u s=some s')→Mg r a b u v F st st1 st2:=by
  grind [at5]
 obtain⟨e,hs⟩:=st;obtain⟨e1,hs1⟩:=st1;obtain⟨e2,hs2⟩:=st2;rcases h with ((h | h) | h) | h
 ·obtain⟨q1,q2⟩:=IP h h1;subst q1;refine fin (oe (l1 F) (l2 F) d1 d2 hsrt h1 h2' h2' (q2 hs2)) fun {s s'} hs=>?_
  simp only[kS,Bool.and_eq_true,Bool.not_eq_true']at h;rw[h.1.1]at hs⊢;exact hs
 ·obtain⟨q1,q2⟩:=IP h h2';subst q1;refine fin (oe (l1 F) (l2 F) d1 d2 hsrt h1 h2' (q2 hs) h1) fun {s s'} hs=>?_
  simp only[kS,Bool.and_eq_true,Bool.not_eq_true']at h;rw[h.1.1];exact hs
 ·have q1:=Nt h.1 h1;have q2:=Nt h.2 h2'
  grind [oe,SQ,Bool.not_eq_true',Dt,aV,oh]
 ·simp only[ajp,Bool.and_eq_true]at h;obtain⟨⟨⟨⟨rfl,rfl⟩,hq⟩,hn⟩,hc⟩:=h;have q1:=Nt (r:=r) (a:=true) (i:=u) (by grind [SQ]) h1;subst q1;have hnu:=Dt hn;have hsame:=aqg hc h2;have hle:=bB.same (ids:=ju u e) hsame (fun k hk=>by grind [fM]);have hF:fM true v e F=F:=by grind [fM,afB]
  refine fin (oe (l1 F) (l2 F) d1 d2 hsrt h1 h2' h2' (aqe hq hn hsrt h1 hs2 hle)) fun {s s'} hs=>?_
  simp_all
def Ec (m:Bool) (vs:List AV) (i:Nat):List AV:=match m with | true=>vs.set i .junk | false=>vs
def UD (m:Bool) (e:ar) (j:Nat) (vs:List AV) (i:Nat):ar:=match m with | true=>put e j (.tup (Ec m vs i)) | false=>e
def apf (m:Bool) (x:AV):AV:=match m with | true=>x | false=>share x
theorem amO {m:Bool}{vs:List AV}{i k:Nat}(h:i≠k):(Ec m vs i)[k]?=vs[k]?:=by
 cases m
 ·rfl
 ·exact List.getElem?_set_ne h
theorem aqs {m n:Bool}{vs:List AV}{i k:Nat}(h:i≠k):Ec n (Ec m vs i) k=Ec m (Ec n vs k) i:=by
 cases m<;>cases n<;>try rfl
 exact List.set_comm _ _ h
theorem Sj {m:Bool}{e:ar}{j:Nat}{vs:List AV}{i:Nat}(hj:get e j=some (.tup vs)) (q:Nat):get (UD m e j vs i) q=if q=j then some (.tup (Ec m vs i)) else get e q:=by
 cases m
 all_goals grind [UD,Ec,cU]
theorem BP {m:Bool}{e:ar}(h:bg e) (j:Nat) (vs:List AV) (i:Nat):bg (UD m e j vs i):=by
 cases m
 ·exact h
 ·exact h.put _ _
theorem Gq {u:VI}{j:Nat}{m:Bool}{i d:Nat}(ho:u.op=.ext j m i) (hd:u.dst=some d) (hg:u.guard=none) (ht:u.th=[]) (e:ar) (hs:HS):bm r u ⟨e,hs⟩ =
  match get e j with
  | some (.tup vs)=>match vs[i]? with
   | some x=>some ⟨put (UD m e j vs i) d (firm (apf m x)),hs⟩
   | none=>none
  | _=>none:=by
 unfold bm dl;simp only[hg,ho,bt,tU,hd,ht]
 cases get e j with
 | none=>rfl
 | some w =>
  cases w<;>try rfl
  rename_i vs;simp only
  cases vs[i]? with
  | none=>rfl
  | some x=>cases m<;>rfl
theorem aso {u v:VI}{j i k d c:Nat}{m n:Bool}(o1:u.op=.ext j m i) (o2:v.op=.ext j n k) (d1:u.dst=some d) (d2:v.dst=some c) (g1:u.guard=none) (g2:v.guard=none) (ht1:u.th=[]) (ht2:v.th=[])
  (hik:i≠k) (hdc:d≠c) (hdj:d≠j) (hcj:c≠j) {st st1 st2:St}(hsrt:bg st.env) (h1:bm r u st=some st1) (h2:bm r v st1=some st2):∃ st1',bm r v st=some st1'∧bm r u st1'=some st2:=by
 obtain⟨e,hs⟩:=st;rw[Gq o1 d1 g1 ht1]at h1;split at h1
 ·rename_i vs hj;split at h1
  ·rename_i x hx;simp only[Option.some.injEq]at h1;subst h1;rw[Gq o2 d2 g2 ht2]at h2;have hj1:get (put (UD m e j vs i) d (firm (apf m x))) j=some (.tup (Ec m vs i)):=by
    grind [cU,Sj]
   rw[hj1]at h2;simp only[amO hik]at h2;split at h2
   ·rename_i y hy;simp only[Option.some.injEq]at h2;subst h2;have hj2:get (put (UD n e j vs k) c (firm (apf n y))) j=some (.tup (Ec n vs k)):=by
     grind [cU,Sj]
    refine⟨⟨put (UD n e j vs k) c (firm (apf n y)),hs⟩,by grind [Gq],?_⟩;rw[Gq o1 d1 g1 ht1,hj2];simp only[amO (fun h:k=i=>hik h.symm),hx,Option.some.injEq]
    congr 1
    refine np ((BP ((BP hsrt _ _ _).put _ _) _ _ _).put _ _) ((BP ((BP hsrt _ _ _).put _ _) _ _ _).put _ _) fun q=>?_
    grind [cU,Sj,aqs]
   simp_all
  simp_all
 simp_all
theorem MO {a b:Bool}{u v:VI}(h:ln a b u v=true) {F:List Nat}{st st1 st2:St}(hsrt:bg st.env) (h1:aV r a F u st=some st1) (h2:aV r b (fM a u st.env F) v st1=some st2):Mg r a b u v F st st1 st2:=by
 simp only[ln,Bool.and_eq_true,Bool.not_eq_true']at h;obtain⟨⟨⟨⟨rfl,rfl⟩,ht1⟩,ht2⟩,h⟩:=h;have ht1:=CN ht1;have ht2:=CN ht2;split at h
 ·rename_i j m i l n k d c o1 o2 d1 d2 g1 g2;simp only[Bool.and_eq_true,Bool.not_eq_true',Nat.beq_eq]at h;obtain⟨⟨⟨⟨rfl,hik⟩,hdc⟩,hdj⟩,hcj⟩:=h;obtain⟨st1',k1,k2⟩:=aso o1 o2 d1 d2 g1 g2 ht1 ht2 (Nat.ne_of_beq_eq_false hik) (Nat.ne_of_beq_eq_false hdc) (Nat.ne_of_beq_eq_false hdj) (Nat.ne_of_beq_eq_false hcj) hsrt h1 h2;exact⟨st1',k1,k2,fun k hk=>hk⟩
 simp_all
theorem apA {a b:Bool}{u v:VI}(h:ln a b u v=true):kS a u=true:=by
 grind [ln,kS,sOp]
end
section
variable {r:bD}
theorem ajf {cs:List AV}{off:Nat}{w:AV}(h:cs[off]?=some w):fK (.cells cs) (.cells (cs.set off (share w))):=by
 simp only[fK,gg,List.map_set,xu];refine List.ext_getElem? fun i=>?_
 grind
def arO (w:AV):Prop:=(∃ p m xs,w=.own p m xs)∨w=.nl
theorem arx {w:AV}(h:EJ (firm w)=true):arO w:=by
 cases w with
 | own p m xs=>exact .inl ⟨_,_,_,rfl⟩
 | nl=>exact .inr rfl
 | _=>grind [firm,EJ]
theorem FU {a:Bool}{i:VI}(h:ub a i=true):∃ p,a=true∧i.op=.ld none 2 p∧i.th=[]:=by
 simp only[ub,Bool.and_eq_true]at h;obtain⟨⟨ha,hn⟩,hth⟩:=h;have hth:=CN hth;have hn:=arc hn;unfold mG at hn
 grind
theorem atN {a:Bool}{i:VI}(h:ub a i=true) (e:ar) (F:List Nat):fM a i e F=F:=by
 obtain⟨p,rfl,hop,hth⟩:=FU h
 grind [fM,mG]
theorem avN {id off:Nat}{cs:List AV}{w:AV}{h:ac}(hg:get h id=some (.cells cs)) (hw:cs[off]?=some w):loadAt h none 2 (.ptr id off)=some (w,put h id (.cells (cs.set off (share w)))):=by
 grind [loadAt,kT]
theorem Hs {a:Bool}{F:List Nat}{u:VI}(h:ub a u=true) {e e1:ar}{hs hs1:HS}(hr:aV r a F u ⟨e,hs⟩=some ⟨e1,hs1⟩):∃ id off cs w,get hs.heap id=some (.cells cs)∧cs[off]?=some w∧arO w∧
  hs1=⟨put hs.heap id (.cells (cs.set off (share w))),hs.next⟩∧
   ∀ hs' cs',get hs'.heap id=some (.cells cs')→cs'[off]?=some w→aV r a F u ⟨e,hs'⟩=some ⟨e1,⟨put hs'.heap id (.cells (cs'.set off (share w))),hs'.next⟩⟩:=by
 obtain⟨p,rfl,hop,hth⟩:=FU h;have hn:mG u.op=.take:=by rw[hop];rfl
 simp only[aV,oh,hn]at hr⊢;split at hr
 ·rename_i st1 h1;split at hr
  ·rename_i d hd;split at hr
   ·rename_i x hx;split at hr
    ·rename_i ho;simp only[Option.some.injEq]at hr;subst hr;have go:dl r u ⟨e,hs⟩=some ⟨e1,hs1⟩∧∀ hs',bm r u ⟨e,hs'⟩=dl r u ⟨e,hs'⟩:=by
      have dead:∀ st1:St,some (bc u.dst (.tup []) ⟨e,hs⟩)=some st1→get st1.env d=some x→False:=by
       grind [bc,cU,EJ]
      unfold bm at h1
      cases hg:u.guard<;>grind [bm]
     obtain⟨hgo,hsame⟩:=go;unfold dl at hgo;simp only[hth,hop,bt,wz]at hgo;split at hgo
     ·rename_i v st0 hv;split at hv
      ·rename_i pv e0 hp;split at hv
       ·rename_i v' h1' hl;simp only[Option.some.injEq,Prod.mk.injEq]at hv;obtain⟨rfl,rfl⟩:=hv;rw[hd]at hgo;obtain⟨rfl,rfl⟩:=hgo;simp only[cU,if_true,Option.some.injEq]at hx;subst hx;have hw:=arx ho;have back:∀ hs' h2,loadAt hs'.heap none 2 pv=some (v',h2)→(match bm r u ⟨e,hs'⟩ with
          | some st1=>match (some d:Option Nat) with
           | some d=>match get st1.env d with
            | some a=>match EJ a with
             | true=>some st1
             | false=>none
            | none=>none
           | none=>none
          | none=>none)=some ⟨put e0 d (firm v'),⟨h2,hs'.next⟩⟩:=by
         simp_all [dl,bt,wz,bc,cU]
        cases pv<;>simp only[loadAt,reduceCtorEq]at hl
        ·split at hl
         ·split at hl
          ·simp at hl
          ·simp only[kT,Option.some.injEq,Prod.mk.injEq]at hl
           grind [avN]
         simp_all
        ·split at hl
         ·split at hl
          ·split at hl
           ·rename_i u hu;obtain⟨rfl,_⟩:=hl;unfold jO at hu;simp only at hu;split at hu
            ·simp only[Option.some.injEq]at hu;subst hu;rcases hw with ⟨_,_,_,h⟩ | h<;>simp at h
            simp_all
           simp_all
          simp_all
         simp_all
        ·split at hl
         ·rename_i u hu;obtain⟨rfl,_⟩:=hl;unfold jO at hu;simp only at hu;split at hu
          ·simp only[Option.some.injEq]at hu;subst hu;rcases hw with ⟨_,_,_,h⟩ | h<;>simp at h
          simp_all
         simp_all
       simp_all
      simp_all
     simp_all
    simp_all
   simp_all
  simp_all
 simp_all
theorem ND {α:Type}{l:List (Nat×α)}(h:bg l) (k:Nat) (a b:α):put (put l k a) k b=put l k b:=by
 grind [np,bg.put,cU]
theorem ar2 {α:Type}{l:List (Nat×α)}(h:bg l) {j k:Nat}(hjk:j≠k) (a b:α):put (put l j a) k b=put (put l k b) j a:=by
 grind [np,bg.put,cU]
theorem anV {α:Type}{l:List (Nat×α)}(h:bg l) {j k:Nat}(hjk:j≠k) (a:α):put (del l k) j a=del (put l j a) k:=by
 grind [np,bg.put,bg.del,cU,AX]
theorem axn {a b:Bool}{u v:VI}(hu:ub a u=true) (hv:ub b v=true) (hap:yf a b u v=true) {F:List Nat}{st st1 st2:St}(inv:bw st) (h1:aV r a F u st=some st1) (h2:aV r b F v st1=some st2):∃ st1',aV r b F v st=some st1'∧aV r a F u st1'=some st2:=by
 obtain⟨R1,M1,R2,M2,f1,f2,d1,d2⟩:=mo hap;have l1:=gu (r:=r) f1 F;have l2:=gu (r:=r) f2 F;obtain⟨e,hs⟩:=st;obtain⟨e1,hs1⟩:=st1;obtain⟨e2,hs2⟩:=st2;have hsh:bg hs.heap:=inv.sh;obtain⟨i1,o1,c1,w1,g1,k1,n1,rfl,b1⟩:=Hs hu h1;obtain⟨i2,o2,c2,w2,g2,k2,n2,rfl,b2⟩:=Hs hv h2;rw[cU]at g2;by_cases hi:i2=i1
 ·subst hi;rw[if_pos rfl]at g2;simp only[Option.some.injEq,Obj.cells.injEq]at g2;subst g2;rw[ND hsh]at h2;by_cases ho:o1=o2
  ·subst ho;have hlt:o1<c1.length:=by
    grind
   rw[List.getElem?_set_self hlt]at k2;simp only[Option.some.injEq]at k2;have hw1:w1=.nl:=by
    rcases n1 with ⟨p,m,xs,rfl⟩ | h
    ·subst k2
     cases p<;>rcases n2 with ⟨_,_,_,h⟩ | h<;>simp[share]at h
    ·exact h
   subst hw1;have hw2:w2=.nl:=by rw[←k2];rfl
   subst hw2;rw[ND hsh];refine oe l1 l2 d1 d2 inv.se h1 h2 (b2 hs c1 g1 k1) ?_
   grind [cU]
  ·rw[ND hsh];have k2':c1[o2]?=some w2:=by simp_all
   refine oe l1 l2 d1 d2 inv.se h1 h2 (b2 hs c1 g1 k2') ?_
   grind [cU,ND,List.set_comm]
 ·rw[if_neg hi]at g2;refine oe l1 l2 d1 d2 inv.se h1 h2 (b2 hs c2 g2 k2) ?_
  grind [cU,ar2]
theorem akl {b:Bool}{v:VI}(h:isP v=true) (hb:(!b || ub b v)=true):b=false:=by
 grind [FU,isP,fH]
theorem aw2 {a:Bool}{u v:VI}(hu:ub a u=true) (hv:isP v=true) (hap:yf a false u v=true) {F:List Nat}{st st1 st2:St}(inv:bw st) (h1:aV r a F u st=some st1) (h2:bm r v st1=some st2):∃ st1',bm r v st=some st1'∧aV r a F u st1'=some st2:=by
 obtain⟨R1,M1,R2,M2,f1,f2,d1,d2⟩:=mo hap;have l1:=gu (r:=r) f1 F;have l2:=gu (r:=r) f2 F;obtain⟨e,hs⟩:=st;obtain⟨e1,hs1⟩:=st1;obtain⟨e2,hs2⟩:=st2;have hsh:bg hs.heap:=inv.sh;have s1:bg e1:=(l1 e hs _ h1).1 inv.se;obtain⟨i1,o1,c1,w1,g1,k1,n1,rfl,b1⟩:=Hs hu h1;have hle:bB (put hs.heap i1 (.cells (c1.set o1 (share w1)))) hs.heap:=(bB.upd (o:=some (.cells (c1.set o1 (share w1)))) g1 (fun o1 ho=>by grind [ajf])).2;obtain⟨R,M,hk⟩:=Ux hv;obtain⟨ρ,τ,K,q1,q2⟩:=Nx (jK hk) s1 h2;simp only at q1 q2;subst q1;rcases K with K | ⟨id,⟨m,xs,ga⟩,hρ,hτ⟩
 ·have hi:=q2 hs (K.1 _ hle);rw[K.2]at hi h2⊢;exact oe l1 l2 d1 d2 inv.se h1 h2 hi h1
 ·have hi:=q2 hs (hρ _ hle);have hne:i1≠id:=by
   grind [cU]
  refine oe l1 l2 d1 d2 inv.se h1 h2 hi ?_
  grind [AX,anV]
theorem awB {b:Bool}{u v:VI}(hu:isP u=true) (hv:ub b v=true) (hap:yf false b u v=true) {F:List Nat}{st st1 st2:St}(inv:bw st) (h1:bm r u st=some st1) (h2:aV r b F v st1=some st2):∃ st1',aV r b F v st=some st1'∧bm r u st1'=some st2:=by
 obtain⟨R1,M1,R2,M2,f1,f2,d1,d2⟩:=mo hap;have l1:=gu (r:=r) f1 F;have l2:=gu (r:=r) f2 F;obtain⟨e,hs⟩:=st;obtain⟨e1,hs1⟩:=st1;obtain⟨e2,hs2⟩:=st2;have hsh:bg hs.heap:=inv.sh;obtain⟨R,M,hk⟩:=Ux hu;obtain⟨ρ,τ,K,q1,q2⟩:=Nx (jK hk) inv.se h1;subst q1;obtain⟨i2,o2,c2,w2,g2,k2,n2,rfl,b2⟩:=Hs hv h2;have hle:∀ {h:ac},get h i2=some (.cells c2)→bB h (put h i2 (.cells (c2.set o2 (share w2)))):=fun g=>(bB.upd (o:=some (.cells (c2.set o2 (share w2)))) g (fun o1 ho=>by grind [ajf])).1
 rcases K with K | ⟨id,_,hρ,hτ⟩
 ·simp only[K.2]at g2 h2 h1 q2⊢;exact oe l1 l2 d1 d2 inv.se h1 h2 h2 (q2 _ (K.1 _ (hle g2)))
 ·simp only[hτ]at g2 h2 h1 q2⊢;rw[AX]at g2;split at g2
  ·simp at g2
  ·rename_i hne;refine oe l1 l2 d1 d2 inv.se h1 h2 (b2 hs c2 g2 k2) ?_;have:=q2 ⟨put hs.heap i2 (.cells (c2.set o2 (share w2))),hs.next⟩ (hρ _ (hle g2));rw[anV hsh hne];exact this
theorem I7 {a:Bool}{u:VI}(h:(!a || ub a u)=true) {F:List Nat}{st st1:St}(hr:aV r a F u st=some st1):bm r u st=some st1∧(a=true→∃ d x,u.dst=some d∧get st1.env d=some x∧EJ x=true):=by
 cases a with
 | false=>exact⟨hr,fun h=>by simp at h⟩
 | true =>
  obtain⟨p,_,hop,hth⟩:=FU h;have hn:mG u.op=.take:=by rw[hop];rfl
  simp only[aV,oh,hn]at hr
  grind
theorem afn {a:Bool}{u:VI}(h:(!a || ub a u)=true) {F:List Nat}{st st1:St}(hr:bm r u st=some st1) (ho:a=true→∃ d x,u.dst=some d∧get st1.env d=some x∧EJ x=true):aV r a F u st=some st1:=by
 cases a with
 | false=>exact hr
 | true =>
  obtain⟨p,_,hop,hth⟩:=FU h;have hn:mG u.op=.take:=by rw[hop];rfl
  grind [aV,oh]
theorem Jn {a:Bool}{u:VI}(h:(!a || ub a u)=true) (e:ar) (F:List Nat):fM a u e F=F:=by
 cases a with
 | false=>rfl
 | true=>grind [atN]
theorem afl {u v:VI}(h:AS u v=true):∃ k1 R1 M1 k2 R2 M2,fH u=some (k1,R1,M1)∧fH v=some (k2,R2,M2)∧(∀ k∈M1,k∉M2):=by
 grind [AS,fh]
theorem apD {a b:Bool}{u v:VI}(h:Wz a b u v=true) {F:List Nat}{st st1 st2:St}(inv:bw st) (h1:aV r a F u st=some st1) (h2:aV r b (fM a u st.env F) v st1=some st2):Mg r a b u v F st st1 st2:=by
 simp only[Wz,Bool.and_eq_true]at h;obtain⟨⟨ha,hb⟩,h⟩:=h;rw[Jn ha]at h2;have fin:(∃ st1',aV r b F v st=some st1'∧aV r a F u st1'=some st2)→Mg r a b u v F st st1 st2:=by
  intro ⟨st1',k1,k2⟩;refine⟨st1',k1,by grind [Jn],?_⟩
  grind [Jn]
 simp only[Bool.or_eq_true,Bool.and_eq_true]at h;rcases h with h | ⟨hap,h⟩
 ·obtain⟨p1,o1⟩:=I7 ha h1;obtain⟨p2,o2⟩:=I7 hb h2;obtain⟨st1',q1,q2⟩:=an0 h inv p1 p2;obtain⟨k1,R1,M1,k2,R2,M2,e1,e2,hap⟩:=afl h;obtain⟨en1,hs1⟩:=st1;obtain⟨en1',hs1'⟩:=st1';refine fin ⟨_,afn hb q1 fun hn=>?_,afn ha q2 fun hn=>?_⟩
  ·obtain⟨d,x,hd,hx,ho⟩:=o2 hn;refine⟨d,x,hd,?_,ho⟩;obtain⟨_,_,_,_,_,g,_⟩:=jK e1 en1' hs1' _ q2
   grind [KD]
  ·obtain⟨d,x,hd,hx,ho⟩:=o1 hn;refine⟨d,x,hd,?_,ho⟩;obtain⟨_,_,_,_,_,g,_⟩:=jK e2 en1 hs1 _ p2
   grind [KD]
 ·rcases h with (h | h) | h
  ·grind [axn]
  ·have:=akl h.2 hb;subst this;exact fin (aw2 h.1 h.2 hap inv h1 h2)
  ·have:=akl h.1 ha;subst this;exact fin (awB h.1 h.2 hap inv h1 h2)
theorem atJ {a:Bool}{i:VI}(h:ub a i=true):∃ R M,fH i=some (.t,R,M):=by
 obtain⟨p,_,hop,hth⟩:=FU h
 simp_all [fH]
theorem ajx {st st1:St}(inv:bw st) (he:bg st1.env) (hh:st1.hs=st.hs):bw st1:=⟨he,by grind [bw.sh],by grind [bw.fr]⟩
theorem avv {u:VI}{j:Nat}{m:Bool}{i d:Nat}(ho:u.op=.ext j m i) (hd:u.dst=some d) (hg:u.guard=none) (ht:u.th=[]) {st st1:St}(hs:bg st.env) (h1:bm r u st=some st1):bg st1.env:=by
 obtain⟨e,hs0⟩:=st
 grind [Gq,bg.put,BP]
theorem QS {a b:Bool}{u v:VI}(h:ln a b u v=true) {F:List Nat}{st st1:St}(hs:bg st.env) (h1:aV r a F u st=some st1):bg st1.env:=by
 simp only[ln,Bool.and_eq_true,Bool.not_eq_true']at h;obtain⟨⟨⟨⟨rfl,rfl⟩,ht1⟩,ht2⟩,h⟩:=h;split at h
 ·rename_i j m i l n k d c o1 o2 dd1 dd2 g1 g2;exact avv o1 dd1 g1 (CN ht1) hs h1
 simp_all
theorem atA {a b:Bool}{u v:VI}(h:gF a b u v=true) (hk:kS b v=false) {F:List Nat}{st st1:St}(inv:bw st) (h1:aV r a F u st=some st1):bw st1:=by
 simp only[gF,Bool.or_eq_true]at h;rcases h with (h | h) | h
 ·obtain⟨e,hs⟩:=st;simp only[NP,Bool.and_eq_true,Bool.or_eq_true]at h;obtain⟨hap,h⟩:=h;obtain⟨R1,M1,R2,M2,f1,f2,d1,d2⟩:=mo hap;have se:=(gu (r:=r) f1 F e hs _ h1).1 inv.se
  grind [ajx,IP,Nt,ajp,SQ]
 ·exact ajx inv (QS h inv.se h1) (IP (apA h) h1).1
 ·simp only[Bool.and_eq_true]at h;obtain⟨_,h⟩:=h;simp only[Wz,Bool.and_eq_true]at h;obtain⟨⟨ha,hb⟩,h⟩:=h;obtain⟨p1,_⟩:=I7 ha h1
  grind [afl,Cl,atJ,Ux]
theorem aud {a b:Bool}{u v:VI}(h:gF a b u v=true) (hk:kS b v=true) {F:List Nat}{st st1:St}(hs:bg st.env) (h1:aV r a F u st=some st1):bg st1.env:=by
 simp only[gF,Bool.or_eq_true]at h;rcases h with (h | h) | h
 ·obtain⟨e,hs0⟩:=st;simp only[NP,Bool.and_eq_true]at h;obtain⟨R1,M1,R2,M2,f1,f2,d1,d2⟩:=mo h.1;exact(gu (r:=r) f1 F e hs0 _ h1).1 hs
 all_goals grind [QS]
theorem ayW {a b:Bool}{u v:VI}(h:gF a b u v=true) (hk:kS b v=true) {F:List Nat}{st st1 st2:St}(hs:bg st.env) (h1:aV r a F u st=some st1) (h2:aV r b (fM a u st.env F) v st1=some st2):Mg r a b u v F st st1 st2:=by
 grind [gF,YB,MO]
theorem azq {a b:Bool}{u v:VI}(h:gF a b u v=true) {F:List Nat}{st st1 st2:St}(inv:bw st) (h1:aV r a F u st=some st1) (h2:aV r b (fM a u st.env F) v st1=some st2):Mg r a b u v F st st1 st2:=by
 grind [gF,YB,bw.se,MO,apD]
end
inductive I1 (ops:Array Oper):Nat→Nat→Prop
 | one {i:Nat}{o:Oper}{e:Edge}:ops[i]?=some o→e∈o.after→pX e.ground=true→I1 ops i e.on
 | more {i j:Nat}{o:Oper}{e:Edge}:ops[i]?=some o→e∈o.after→pX e.ground=true→I1 ops e.on j→I1 ops i j
theorem H6 {k:Nat}:∀ {a l:List Nat},k∈Mo a l→k∈a∨k∈l
 | [],l,h=>.inr h
 | x::r,l,h=>by
  simp only[Mo]at h;split at h
  ·rcases H6 h with h | h<;>simp_all
  ·rcases H6 h with h | h<;>grind
def YI (ops:Array Oper) (tab:List (Nat×List Nat)):Prop:=∀ i l,get tab i=some l→∀ j∈l,I1 ops i j
theorem VX {ops:Array Oper}{tab:List (Nat×List Nat)}(ht:YI ops tab) {i:Nat}{o:Oper}(ho:ops[i]?=some o):∀ {es:List Edge},(∀ e∈es,e∈o.after)→∀ j,j∈NJ tab es→I1 ops i j
 | [],_,j,h=>by simp[NJ]at h
 | e::r,hes,j,h=>by
  simp only[NJ]at h;have hr:=VX ht ho (es:=r) (fun x hx=>hes x (.tail _ hx)) j;split at h
  ·rename_i hw;rcases H6 h with h | h
   ·rcases List.mem_cons.1 h with rfl | h
    ·exact .one ho (hes e (.head _)) hw
    ·split at h
     ·rename_i l hl;exact .more ho (hes e (.head _)) hw (ht _ _ hl _ h)
     simp_all
   simp_all
  simp_all
theorem Q3 {ops:Array Oper}:∀ {l:List Nat}{tab:List (Nat×List Nat)},YI ops tab→YI ops (BU ops l tab)
 | [],_,ht=>ht
 | i::l,tab,ht=>by
  simp only[BU];refine Q3 fun k m h j hj=>?_
  rw[dH]at h;split at h
  ·grind [VX]
  ·exact ht k m h j hj
def ao8 (anc:List (Nat×List Nat)) (nr:List Nat) (vs:List VI) (j i:Nat):Prop :=
 (lU anc i j=true∨∃ u v,vs[j]?=some u∧vs[i]?=some v∧gF (b8 j nr) (b8 i nr) u v=true)∨(mV anc vs i=true∧(∀ k,k<vs.length→lU anc k i=true→lU anc k j=true)∧lU anc j i=false)
theorem WI {anc:List (Nat×List Nat)}{i j:Nat}:∀ {n:Nat},WA anc i j n=true→∀ k,k<n→lU anc k i=true→lU anc k j=true
 | 0,_,k,hk,_=>by omega
 | n+1,h,k,hk,hd=>by
  simp only[WA,Bool.and_eq_true,Bool.or_eq_true,Bool.not_eq_true']at h;by_cases e:k=n
  ·simp_all
  ·exact WI h.2 k (by omega) hd
theorem asQ {ops:Array Oper}{anc:List (Nat×List Nat)}(ha:YI ops anc) {k i:Nat}(h:lU anc k i=true):I1 ops k i:=by
 unfold lU at h;split at h
 ·rename_i l hl;exact ha _ _ hl _ (mE.1 h)
 simp_all
structure lF (P:Program) (n:Nat) (ops:Array Oper) (nr:List Nat) (vs:List VI) (perm:List Nat) (anc:List (Nat×List Nat)):Prop where
 len:vs.length=ops.size
 vi:∀ (i:Nat) (v:VI) (o:Oper),vs[i]?=some v→ops[i]?=some o→uE P n ops v o=true
 edge:∀ (i:Nat) (o:Oper),ops[i]?=some o→∀ e∈o.after,e.on<ops.size∧(txG e.ground=true→e.on<i)
 pair:perm.Pairwise fun j i=>ao8 anc nr vs j i
 path:∀ k i,lU anc k i=true→I1 ops k i
 gco:∃ gl:List Nat,(∀ i,i<ops.size→i∈gl)∧gl.Pairwise (fun j i=>∀ o,ops[j]?=some o→∀ e∈o.after,VF e.ground=true→e.on≠i)∧∀ j∈gl,∀ o,ops[j]?=some o→∀ e∈o.after,VF e.ground=true→e.on≠j
 nd:perm.Nodup
 lt:∀ i∈perm,i<ops.size
 near:∀ (i:Nat) (v:VI),b8 i nr=true→vs[i]?=some v→mG v.op≠.read∨∃ R M,fH v=some (.q,R,M)
 all:∀ i,i<ops.size→i∈perm
theorem Rl {P:Program}{n:Nat}{ops:Array Oper}{k:Nat}:∀ {vs:List VI}{os:List Oper}{b:Nat},AT P n ops k b vs os=true→vs.length=os.length∧
  ∀ (i:Nat) (v:VI) (o:Oper),vs[i]?=some v→os[i]?=some o→uE P n ops v o=true∧∀ e∈o.after,e.on<k∧(txG e.ground=true→e.on<b+i)
 | [],[],_,_=>⟨rfl,fun i v o h=>by simp at h⟩
 | x::vs,p::os,b,h=>by
  simp only[AT,Bool.and_eq_true]at h;obtain⟨⟨h1,h3⟩,h4⟩:=h;obtain⟨k1,k2⟩:=Rl h4
  grind [Nat.blt_eq]
 | [],_::_,_,h=>by simp[AT]at h
 | _::_,[],_,h=>by simp[AT]at h
theorem Re {anc:List (Nat×List Nat)}{nr:List Nat}{vs:List VI}{j:Nat}:∀ {l:List Nat},NE anc nr vs j l=true→∀ i∈l,ao8 anc nr vs j i
 | [],_,i,hi=>by simp at hi
 | x::r,h,i,hi=>by
  simp only[NE,Bool.and_eq_true,Bool.or_eq_true]at h;rcases List.mem_cons.1 hi with rfl | hi
  ·rcases h.1 with (h | h) | h
   ·exact .inl (.inl h)
   ·split at h
    ·rename_i u v h1 h2;exact .inl (.inr ⟨u,v,h1,h2,h⟩)
    simp_all
   ·simp only[Bool.not_eq_true']at h;exact .inr ⟨h.1.1,WI h.1.2,h.2⟩
  ·exact Re h.2 i hi
theorem aor {ops:Array Oper}{j:Nat}{l:List Nat}(h:aj8 ops j l=true):∀ i∈l,∀ o,ops[j]?=some o→∀ e∈o.after,VF e.ground=true→e.on≠i:=by
 grind [aj8,mE]
theorem aeT {ops:Array Oper}:∀ {l:List Nat},ah8 ops l=true→l.Pairwise (fun j i=>∀ o,ops[j]?=some o→∀ e∈o.after,VF e.ground=true→e.on≠i)∧∀ j∈l,∀ o,ops[j]?=some o→∀ e∈o.after,VF e.ground=true→e.on≠j
 | [],_=>⟨.nil,fun i hi=>by simp at hi⟩
 | j::r,h=>by
  simp only[ah8,Bool.and_eq_true]at h;obtain⟨h0,h4⟩:=h;obtain⟨k4,k5⟩:=aeT h4;have hw:=aor h0
  simp_all
theorem Ru {ops:Array Oper}{anc:List (Nat×List Nat)}{nr:List Nat}{vs:List VI}:∀ {l:List Nat},NQ ops anc nr vs l=true→l.Pairwise (fun j i=>ao8 anc nr vs j i)∧
  l.Nodup∧∀ i∈l,i<vs.length
 | [],_=>⟨.nil,.nil,fun i hi=>by simp at hi⟩
 | j::r,h=>by
  simp only[NQ,Bool.and_eq_true,Bool.not_eq_true']at h;obtain⟨⟨⟨h1,h2⟩,h3⟩,h4⟩:=h;obtain⟨k1,k2,k3⟩:=Ru h4;refine⟨.cons (Re h1) k1,List.nodup_cons.2 ⟨fun hm=>?_,k2⟩,fun i hi=>?_⟩
  all_goals grind [mE,Nat.blt_eq]
theorem ML {l:List Nat}:∀ {n:Nat},U2 l n=true→∀ i,i<n→i∈l
 | 0,_,i,hi=>by omega
 | n+1,h,i,hi=>by
  simp only[U2,Bool.and_eq_true]at h;rcases Nat.lt_or_ge i n with h1 | h1
  ·exact ML h.2 i h1
  grind [mE]
theorem afj {vs:List VI}:∀ {nr:List Nat},aig vs nr=true→∀ (i:Nat) (v:VI),b8 i nr=true→vs[i]?=some v→mG v.op≠.read∨∃ R M,fH v=some (.q,R,M)
 | [],_,i,v,h,_=>by simp[b8]at h
 | j::r,h,i,v,hg,hv=>by
  simp only[aig,Bool.and_eq_true]at h;rcases List.mem_cons.1 (mE.1 hg) with e | hm
  ·grind [BW,Sc]
  ·exact afj h.2 i v (mE.2 hm) hv
theorem awr {P:Program}{n:Nat}{ops:Array Oper}{gco nr:List Nat}{vs:List VI}{perm:List Nat}(h:B0 P n ops perm gco nr vs=true):lF P n ops nr vs perm (BU ops perm []):=by
 simp only[B0,Bool.and_eq_true]at h;obtain⟨⟨⟨⟨⟨h1,hnr⟩,hga⟩,hg⟩,h2⟩,h3⟩:=h;obtain⟨g1,g2⟩:=aeT hg;obtain⟨k1,k2⟩:=Rl h1;have hl:vs.length=ops.size:=by omega
 have ha:YI ops (BU ops perm []):=Q3 fun i l h=>by simp[tj]at h
 obtain⟨q1,q2,q3⟩:=Ru h3;have hget:∀ (i:Nat) (o:Oper),ops[i]?=some o→ops.toList[i]?=some o:=fun i o h=>by simp_all
 refine⟨hl,fun i v o hv ho=>(k2 i v o hv (hget i o ho)).1,fun i o ho e he=>?_,q1,fun k i h=>asQ ha h,⟨gco,fun i hi=>ML hga i (by omega),g1,g2⟩,q2,fun i hi=>by simp_all,afj hnr,fun i hi=>?_⟩
 ·have hi:i<vs.length:=by
   grind
  have:=(k2 i vs[i] o (by simp) (hget i o ho)).2 e he
  simp_all
 grind [ML]
section
variable {P:Program}{r:bD}
theorem aiS {g:Gh}{w:World}:∀ {l:ac}{O:Nat→Nat},uX P g w l O→∀ {id:Nat}{o:Obj},get l id=some o→∃ b,g.obj id=some b
 | [],_,_,id,o,h=>by simp[tj]at h
 | (k,v)::l,O,rh,id,o,h=>by
  obtain⟨Q1,Q2,q1,q2,_⟩:=rh;rw[dH]at h;split at h
  ·cases v<;>grind [fO]
  ·exact aiS q2 h
theorem S.heap_fresh {g:Gh}{w:World}{t:Array Value}{O:Nat→Nat}{st:St}(s:S P g w st t O) {id:Nat}(h:st.hs.next≤id):get st.hs.heap id=none:=by
 obtain⟨Oe,Oh,re,rh,ho⟩:=s.parts
 cases hg:get st.hs.heap id<;>grind [aiS,fresh]
theorem HQ {nr:List Nat}{i:Nat}{F:List Nat}{v:VI}{st st1:St}(hn:b8 i nr=true→mG v.op≠.read∨∃ R M,fH v=some (.q,R,M)) (hsrt:bg st.env) (h:aV r (b8 i nr) F v st=some st1):bm r v st=some st1:=by
 obtain⟨e,hs⟩:=st
 cases hg:b8 i nr with
 | false=>rw[hg]at h;exact h
 | true =>
  rcases hn hg with h1 | ⟨R,M,h1⟩
  ·exact anS (R:=[]) (M:=[]) hsrt (.inr (.inl h1)) h
  grind [anS]
theorem Rv {nr:List Nat}{vs:List VI}{i:Nat}{v:VI}(hv:vs[i]?=some v) (hk:kS (b8 i nr) v=true) {l2:List Nat}:∀ {l1:List Nat}{F:List Nat}{st st':St},(∀ j∈l1,∃ u,vs[j]?=some u∧gF (b8 j nr) (b8 i nr) u v=true)→bg st.env→
  cS r nr vs (l1++i::l2) F st=some st'→cS r nr vs (i::(l1++l2)) F st=some st'
 | [],F,st,st',_,_,h=>h
 | j::l1,F,st,st',hj,inv,h=>by
  obtain⟨u,hu,hm⟩:=hj j (.head _);simp only[List.cons_append,cS,hu]at h;split at h
  ·simp at h
  ·rename_i st1 h1;have h2:=Rv hv hk (fun k hk=>hj k (.tail _ hk)) (aud hm hk inv h1) h;simp only[cS,hv]at h2;split at h2
   ·simp at h2
   ·rename_i st2 h3;obtain⟨st1',k1,k2,k3⟩:=ayW hm hk inv h1 h3
    grind [cS,UM]
theorem Rq {nr:List Nat}{vs:List VI}{i:Nat}{v:VI}(hv:vs[i]?=some v) (hk:kS (b8 i nr) v=false) {l2:List Nat}:∀ {l1:List Nat}{F:List Nat}{st st':St},(∀ j∈l1,∃ u,vs[j]?=some u∧gF (b8 j nr) (b8 i nr) u v=true)→bw st→
  cS r nr vs (l1++i::l2) F st=some st'→cS r nr vs (i::(l1++l2)) F st=some st'
 | [],F,st,st',_,_,h=>h
 | j::l1,F,st,st',hj,inv,h=>by
  obtain⟨u,hu,hm⟩:=hj j (.head _);simp only[List.cons_append,cS,hu]at h;split at h
  ·simp at h
  ·rename_i st1 h1;have h2:=Rq hv hk (fun k hk=>hj k (.tail _ hk)) (atA hm hk inv h1) h;simp only[cS,hv]at h2;split at h2
   ·simp at h2
   ·rename_i st2 h3;obtain⟨st1',k1,k2,k3⟩:=azq hm inv h1 h3
    grind [cS,UM]
theorem Rb {nr:List Nat}{vs:List VI}{i:Nat}{v:VI}(hv:vs[i]?=some v) {l2 l1:List Nat}{F:List Nat}{st st':St}(hj:∀ j∈l1,∃ u,vs[j]?=some u∧gF (b8 j nr) (b8 i nr) u v=true) (inv:bw st)
  (h:cS r nr vs (l1++i::l2) F st=some st'):cS r nr vs (i::(l1++l2)) F st=some st':=by
 cases hk:kS (b8 i nr) v<;>grind [Rv,bw.se,Rq]
theorem aaB {α:Type}:∀ {l:List (Nat×α)},bg l→∀ {p:Nat×α},p∈l→get l p.1=some p.2
 | [],_,p,hp=>by simp at hp
 | (k,v)::r,hs,p,hp=>by
  rw[dH];rcases List.mem_cons.1 hp with rfl | hp
  ·simp
  ·have h1:=(List.pairwise_cons.1 hs).1 p hp;have:k≠p.1:=(Ag.ne h1).symm;rw[if_neg this];exact aaB (List.pairwise_cons.1 hs).2 hp
theorem Xb {anc:List (Nat×List Nat)}{d:Nat}{l:List Nat}{i:Nat}:∀ {vs:List VI}{b:Nat},Ys anc d l i b vs=true→∀ k v,vs[k]?=some v→b+k≠i→lU anc (b+k) i=true∨∃ R M,gh v=some (R,M)∧d∉M∧(lU anc i (b+k)=true∨∀ q∈l,q∉M)
 | [],_,_,k,v,h,_=>by simp at h
 | x::r,b,h,k,v,hv,hne=>by
  simp only[Ys,Bool.and_eq_true,Bool.or_eq_true]at h
  cases k with
  | zero =>
   grind [Nat.beq_eq,fh,mE]
  | succ k =>
   have:=Xb h.2 k v hv (by omega)
   grind
theorem AE {v:VI}{d:Nat}(h:et v=some d):(∃ zs,v=⟨some d,none,.alloc zs,[]⟩)∨∃ z l c th,v=⟨some d,none,.mkslice z l c,th⟩∧qJ l=true∧qJ c=true:=by
 obtain⟨dst,gd,op,th⟩:=v
 grind [et]
theorem qO {v:VI}{d:Nat}(h:et v=some d):v.dst=some d∧v.guard=none∧v.op≠.bad:=by
 grind [AE]
theorem pQ {anc:List (Nat×List Nat)}{vs:List VI}{i:Nat}(h:mV anc vs i=true):∃ v d,vs[i]?=some v∧et v=some d∧(∀ k u,vs[k]?=some u→k≠i→lU anc k i=true∨∃ R M,gh u=some (R,M)∧d∉M∧(lU anc i k=true∨∀ q∈qS v,q∉M))∧∀ j,lU anc i j=true→mV anc vs j=false:=by
 unfold mV at h;split at h
 ·rename_i v hv;split at h
  ·rename_i d hd;simp only[Bool.and_eq_true]at h;refine⟨v,d,hv,hd,fun k u hk hne=>by simpa using Xb h.1 k u hk (by omega),fun j hj=>?_⟩
   grind [lU,mE,mV]
  simp_all
 simp_all
theorem ap1 {v:VI}{k:t9}{R M:List Nat}(h:fH v=some (k,R,M)):gh v=some (R,M):=by grind [gh]
theorem afC {a b:Bool}{u v:VI}(h:gF a b u v=true) (hne:ln a b u v=false):∃ R1 M1 R2 M2,gh u=some (R1,M1)∧gh v=some (R2,M2)∧(∀ k∈M1,k∉R2∧k∉M2)∧∀ k∈M2,k∉R1:=by
 have sub:∀ {a:Bool}{v:VI}{R M:List Nat},qG a v=some (R,M)→∃ R',gh v=some (R',M)∧∀ k∈R',k∈R:=fun {a v R M} h=>by
  grind [qG]
 have ap:yf a b u v=true→∃ R1 M1 R2 M2,gh u=some (R1,M1)∧gh v=some (R2,M2)∧(∀ k∈M1,k∉R2∧k∉M2)∧∀ k∈M2,k∉R1:=fun h=>by
  grind [mo]
 grind [gF,NP,Wz,AS,ap1,fh]
theorem U3 {a b:Bool}{u v:VI}{d:Nat}(hu:et u=some d):ln a b u v=false∧ln b a v u=false:=by
 grind [AE,ln]
theorem V6 {v:VI}{d:Nat}(hv:et v=some d) {R M:List Nat}(h:gh v=some (R,M)):∀ q∈qS v,q∈R:=by
 rcases AE hv with ⟨zs,rfl⟩ | ⟨z,l,c,th,rfl,_,_⟩
 ·grind [qS]
 ·intro q hq
  cases th with
  | nil =>
   simp only[gh,fH,Ha,wH,Option.some.injEq,Prod.mk.injEq]at h;rw[←h.1];exact List.mem_append_left _ hq
  | cons p th =>
   simp only[gh,fH,Ha,wH,Option.some.injEq,Prod.mk.injEq]at h;rw[←h.1];exact List.mem_append_left _ hq
theorem aps {a b:Bool}{u v:VI}{d:Nat}(h:gF a b u v=true) (hu:et u=some d):∃ R M,gh v=some (R,M)∧∀ q∈d::qS u,q∉M:=by
 grind [afC,U3,yu,qO,V6]
theorem Xq {a b:Bool}{u v:VI}{d:Nat}(h:gF a b u v=true) (hv:et v=some d):∃ R M,gh u=some (R,M)∧∀ q∈d::qS v,q∉M:=by
 grind [afC,U3,yu,qO,V6]
theorem amU {e e':ar}{x:Rd}(hs:qJ x=true) (h:∀ q∈jN x,get e' q=get e q) {v:AV}{e1:ar}(hr:rd e x=some (v,e1)):e1=e∧rd e' x=some (v,e'):=by
 cases x with
 | s i =>
  have hi:=h i (by simp[jN]);simp only[rd]at hr⊢;split at hr<;>simp_all
 | m i=>simp[qJ]at hs
 | c u =>
  grind [rd]
theorem ann {z:List D}{l c:Rd}{st st2:St}{a:AV}{st1:St}(hl:qJ l=true) (hc:qJ c=true) (h:∀ q∈aS [l,c],get st2.env q=get st.env q) (hr:iu z l c st=some (a,st1)):st1=st∧iu z l c st2=some (a,st2):=by
 unfold iu at hr⊢;split at hr
 ·rename_i n e hn;obtain⟨rfl,h1⟩:=amU hl (fun q hq=>h q (by simp[aS,hq])) hn;split at hr
  ·rename_i m e2 hm;obtain⟨rfl,h2⟩:=amU hc (fun q hq=>h q (by simp[aS,hq])) hm;split at hr
   ·split at hr
    ·obtain⟨rfl,rfl⟩:=hr
     simp_all
    simp_all
   simp_all
  simp_all
 simp_all
inductive uN (g:Gh) (w:World) (st:St) (d:Nat):VI→Value→(Nat→Nat)→Prop
 | var {zs:List AV}{b:Nat}{c:Array Value}{el:TypeId}:jR zs c.toList=true→w.heap[b]?=some (.cells c el (0,0))→(∀ o,¬ g.pm b o)→uN g w st d ⟨some d,none,.alloc zs,[]⟩ (.pointer (some ⟨b,0,none⟩)) (one b)
 | list {z:List D}{l c:Rd}{th:List (Nat×Nat)}{a:AV}{x:Value}{A:Nat→Nat}:qJ l=true→qJ c=true→iu z l c st=some (a,st)→RV g w a x A→uN g w st d ⟨some d,none,.mkslice z l c,th⟩ x A
structure aoc (g:Gh) (w:World) (t:Array Value) (O:Nat→Nat) (st:St) (anc:List (Nat×List Nat)) (vs:List VI) (i:Nat) (A:Nat→Nat):Prop where
 late:mV anc vs i=true
 hi:∀ b,A b≠0→b<w.heap.size
 le:∀ b,A b+O b≤1
 it:∃ v d x,vs[i]?=some v∧d<t.size∧t[d]?=some x∧uN g w st d v x A
theorem uN.dst {g:Gh}{w:World}{st:St}{d:Nat}{v:VI}{x:Value}{A:Nat→Nat}(h:uN g w st d v x A):et v=some d:=by
 cases h<;>grind [et]
theorem uN.keep {g g':Gh}{w w':World}{st st':St}{d:Nat}{v:VI}{x:Value}{A:Nat→Nat}{T:Nat→Prop}(h:uN g w st d v x A) (hx:aI g w g' w' T) (hA:∀ b,A b≠0→b<w.heap.size∧¬ T b)
  (he:∀ q∈qS v,get st'.env q=get st.env q):uN g' w' st' d v x A:=by
 cases h with
 | var h1 h2 h3 =>
  rename_i zs b c el;have hb:=hA b (by simp);obtain⟨b1,b2⟩:=hx.blk b hb.1 hb.2;exact .var h1 (b1.trans h2) fun o ho=>h3 o (b2 o ho)
 | list h1 h2 h3 h4=>exact .list h1 h2 (ann h1 h2 he h3).2 (RV.ext hx _ _ _ h4 fun b hb=>(hA b hb).2)
theorem S.adopt {g:Gh}{w:World}{t:Array Value}{O:Nat→Nat}{st:St}{zs:List AV}{d b:Nat}{c:Array Value}{el:_}(s:S P g w st t O) (hb:b<w.heap.size) (h0:O b=0) (hp:∀ o,¬ g.pm b o) (hz:jR zs c.toList=true)
  (hh:w.heap[b]?=some (.cells c el (0,0))) (hd:d<t.size) (ht:t[d]?=some (.pointer (some ⟨b,0,none⟩))) :
  ∃ g' O',S P g' w ⟨put st.env d (.ptr st.hs.next 0),⟨put st.hs.heap st.hs.next (.cells zs),st.hs.next+1⟩⟩ t O'∧aI g w g' w (fun _=>False)∧(∀ x,x≠b→O' x≤O x)∧g'.pm=g.pm:=by
 have hn:=s.fresh st.hs.next (Nat.le_refl _)
 have hx:aI g w (g.add st.hs.next b 0 1 zs.length) w (fun _=>False):=(aI.refl g w _).add hn _ _ _ _;have hfr:=s.heap_fresh (Nat.le_refl st.hs.next);obtain⟨Oe,Oh,re,rh,ho⟩:=s.parts;have re':=fW.ext hx re (by simp);have rh':uX P (g.add st.hs.next b 0 1 zs.length) w st.hs.heap Oh:=rh.imp' fun k v O1 _ _ q=>q.ext hx (by simp) (by simp)
 have hk:∀ p∈st.hs.heap,p.1≠st.hs.next:=by
  intro p hp e
  grind [aaB,sh]
 have r:fO P (g.add st.hs.next b 0 1 zs.length) w st.hs.next (.cells zs) (fun x=>zero x+one b x):=by
  exact⟨b,c,el,zero,by simp[Gh.add],by simp[Gh.add],by simp[Gh.add],by simp[Gh.add],hh,RVs.consts hz,fun o ho=>hp o ho,fun _=>rfl⟩
 rw[←lh hk]at rh';obtain⟨O3,r3,h3⟩:=RL.put s.sh rh' r;have hle:∀ x,one b x+O x≤1:=fun x=>by
  by_cases e:x=b
  ·simp_all
  ·have:=s.le x;grind [one]
 have s1:S P (g.add st.hs.next b 0 1 zs.length) w ⟨st.env,⟨put st.hs.heap st.hs.next (.cells zs),st.hs.next+1⟩⟩ t (fun x=>one b x+O x):=by
  refine⟨s.se,s.sh.put _ _,⟨Oe,O3,re',r3,fun x=>?_⟩,hle,fun x hxx=>?_,fun i hi=>?_,s.pmlt⟩
  ·grind
  ·by_cases e:x=b
   ·omega
   ·exact s.hi x (by grind [one])
  grind [Gh.add,fresh]
 have rv:RV (g.add st.hs.next b 0 1 zs.length) w (.ptr st.hs.next 0) (.pointer (some ⟨b,0,none⟩)) zero:=by
  simp_all [RV,Gh.add]
 obtain⟨O4,s4,l4⟩:=s1.setTmp hd rv (fun x=>by simp_all) (fun x hx=>by simp at hx);have htt:t.setIfInBounds d (.pointer (some ⟨b,0,none⟩))=t:=by
  grind
 rw[htt]at s4;exact⟨_,O4,s4,hx,fun x hne=>by
  grind [one],rfl⟩
theorem S.setOther {g:Gh}{w:World}{t:Array Value}{O:Nat→Nat}{st:St}(s:S P g w st t O) {d:Nat}(hd:get st.env d=none) (x:Value):S P g w st (t.setIfInBounds d x) O:=by
 obtain⟨Oe,Oh,re,rh,ho⟩:=s.parts;refine⟨s.se,s.sh,⟨Oe,Oh,re.imp' fun k v O1 hm _ q=>?_,rh,ho⟩,s.le,s.hi,s.fresh,s.pmlt⟩;have hk:d≠k:=by
  rintro rfl
  have:=aaB s.se hm
  simp_all
 refine⟨by simp_all,?_⟩;have:(t.setIfInBounds d x).getD k undef=t.getD k undef:=by
  simp_all
 grind
theorem uN.make {g:Gh}{w:World}{t:Array Value}{O:Nat→Nat}{st st1:St}{d:Nat}{v:VI}{x:Value}{A:Nat→Nat}(h:uN g w st d v x A) (s:S P g w st t O) (hle:∀ b,A b+O b≤1) (hhi:∀ b,A b≠0→b<w.heap.size) (hd:d<t.size) (ht:t[d]?=some x)
  (hr:bm r v st=some st1):∃ g' O',S P g' w st1 t O'∧aI g w g' w (fun b=>A b≠0∨O b≠0)∧(∀ b,O' b≤A b+O b):=by
 cases h with
 | var h1 h2 h3 =>
  rename_i zs b c el;have h9:st1=⟨put st.env d (.ptr st.hs.next 0),⟨put st.hs.heap st.hs.next (.cells zs),st.hs.next+1⟩⟩:=by
   grind [bm,dl,bt,F7,CX,bc,firm]
  have hob:O b=0:=by have:=hle b;simp at this;omega
  obtain⟨g',O',s',x',l',_⟩:=s.adopt (hhi b (by simp)) hob h3 h1 h2 hd ht;rw[←h9]at s';refine⟨g',O',s',x'.mono fun _ _ h=>h.elim,fun q=>?_⟩;by_cases e:q=b
  ·have:=s'.le q;simp_all
  grind
 | list h1 h2 h3 h4 =>
  rename_i z l c th a;obtain⟨v',st2,hv,rfl⟩:=Nz hr;simp only[bt]at hv;rw[h3]at hv;obtain⟨rfl,rfl⟩:=hv;obtain⟨g2,Ov2,O2,r2,s2,x2,l2⟩:=ER (P:=P) (t:=t) th (env:=st.env) (hs:=st.hs) s h4 hle hhi;have hle2:∀ b,Ov2 b+O2 b≤1:=fun b=>Nat.le_trans (l2 b) (hle b)
  obtain⟨g3,r3,s3,x3⟩:=ajq s2 r2 hle2;obtain⟨O4,s4,l4⟩:=s3.setTmp hd r3 hle2 fun b hb=>by
   grind [S.hi]
  have htt:t.setIfInBounds d x=t:=by
   grind
  rw[htt]at s4;exact⟨g3,O4,s4,(x2.mono (T:=fun b=>A b≠0∨O b≠0) fun _ _ h=>h.elim).trans x3 fun b _ hb=>by grind,fun b=>by grind⟩
structure au8 (ops:Array Oper) (nr:List Nat) (vs:List VI) (anc:List (Nat×List Nat)) (m:Region.Mode) (listed:Array Bool) (rem:List Nat) (pd:Nat→Option (Nat→Nat)):Prop where
 pair:rem.Pairwise fun j i=>ao8 anc nr vs j i
 nd:rem.Nodup
 lt:∀ i∈rem,i<ops.size
 size:listed.size=ops.size
 mem:∀ i,i<ops.size→(i∈rem↔(listed.getD i true=false∨(pd i).isSome=true))
 pdl:∀ i b,pd i=some b→i<ops.size∧listed.getD i false=true
 closed:∀ i o,listed.getD i false=true→ops[i]?=some o→∀ e∈o.after,Region.binds m e=true→listed.getD e.on false=true
structure Cf (P:Program) (r:bD) (n:Nat) (ops:Array Oper) (nr:List Nat) (vs:List VI) (anc:List (Nat×List Nat)) (m:Region.Mode) (listed:Array Bool) (g0:Gh) (w0:World) (t0:Array Value) (O0:Nat→Nat) (st':St)
  (rem:List Nat) (pd:Nat→Option (Nat→Nat)) (F:List Nat) (g:Gh) (w:World) (t:Array Value) (O:Nat→Nat) (st:St):Prop where
 left:au8 ops nr vs anc m listed rem pd
 n:t.size=n
 s:S P g w st t O
 abs:∀ i∈rem,∀ v d,vs[i]?=some v→et v=some d→mV anc vs i=true→get st.env d=none
 pend:∀ i A,pd i=some A→aoc g w t O st anc vs i A
 disj:∀ i j A B,i≠j→pd i=some A→pd j=some B→∀ b,A b+B b≤1
 base:dJ P g0 w0 t0 O0 st t w g O
 old:∀ i A,pd i=some A→∀ b,b<w0.heap.size→A b+O b≤O0 b
 le0:∀ b,O0 b≤1
 run:cS r nr vs rem F st=some st'
theorem XO:∀ {l:List Nat},l≠[]→∃ i∈l,∀ j∈l,i≤j
 | [],h=>absurd rfl h
 | [x],_=>⟨x,.head _,fun j hj=>by simp_all⟩
 | x::y::r,_=>by
  obtain⟨i,hi,hm⟩:=XO (l:=y::r) (by simp)
  grind
theorem nk {ops:Array Oper}{m:Region.Mode}{listed:Array Bool}(hc:∀ i o,listed.getD i false=true→ops[i]?=some o→∀ e∈o.after,Region.binds m e=true→listed.getD e.on false=true) {i j:Nat}
  (hp:I1 ops i j):(∀ o,ops[i]?=some o→∀ e∈o.after,Region.binds m e=true→listed.getD e.on false=true)→listed.getD j false=true:=by
 induction hp<;>grind [Wn]
theorem ar8 {P:Program}{n:Nat}{ops:Array Oper}{nr:List Nat}{vs:List VI}{perm:List Nat}{anc:List (Nat×List Nat)}(hok:lF P n ops nr vs perm anc) {m:Region.Mode}{listed:Array Bool}(hsz:listed.size=ops.size) {un:List Nat}
  (hun:∀ i,i∈un↔i<ops.size∧listed.getD i true=false) (hrem:un≠[]) :
  ((List.range ops.size).filter fun i=>!listed.getD i true && ((ops[i]?).map (·.after.all fun e=>!Region.binds m e || listed.getD e.on false)).getD false)≠[]∧
  ∀ i,i∈((List.range ops.size).filter fun i=>!listed.getD i true && ((ops[i]?).map (·.after.all fun e=>!Region.binds m e || listed.getD e.on false)).getD false)↔
   i<ops.size∧listed.getD i true=false∧∃ o,ops[i]?=some o∧∀ e∈o.after,Region.binds m e=true→listed.getD e.on false=true:=by
 have hmu:∀ i,i<ops.size→(i∈un↔listed.getD i true=false):=fun i hi=>⟨fun h=>((hun i).1 h).2,fun h=>(hun i).2 ⟨hi,h⟩⟩
 have hlt0:∀ i,i∈un→i<ops.size:=fun i h=>((hun i).1 h).1
 generalize hrs:((List.range ops.size).filter fun i=>!listed.getD i true && ((ops[i]?).map (·.after.all fun e=>!Region.binds m e || listed.getD e.on false)).getD false)=rs;have hmem:∀ i,i∈rs↔i<ops.size∧listed.getD i true=false∧∃ o,ops[i]?=some o∧∀ e∈o.after,Region.binds m e=true→listed.getD e.on false=true:=by
  grind [Array.all_eq_true_iff_forall_mem]
 have hlist:∀ k,k<ops.size→k∉un→listed.getD k false=true:=fun k hen hnot=>by
  simp_all
 have ready:∀ i∈un,(∀ e∈(ops[i]?).toList.flatMap (fun o=>o.after.toList),Region.binds m e=true→e.on∉un)→i∈rs:=fun i hi he=>by
  have hin:=hlt0 i hi;refine(hmem i).2 ⟨hin,(hmu i hin).1 hi,ops[i],by simp[hin],fun e hem hb=>?_⟩;have hen:=(hok.edge i ops[i] (by simp[hin]) e hem).1
  simp_all
 have hne:rs≠[]:=by
  by_cases hm:m=.gc
  ·obtain⟨gl,ga,gt,gs⟩:=hok.gco;have hl:gl.filter (fun i=>decide (i∈un))≠[]:=by
    obtain⟨i,hi⟩:=List.exists_mem_of_ne_nil un hrem;exact List.ne_nil_of_mem (List.mem_filter.2 ⟨ga i (hlt0 i hi),by grind⟩)
   cases hc:gl.filter (fun i=>decide (i∈un)) with
   | nil=>simp_all
   | cons i rest =>
    have hmm0:∀ k,k∈i::rest↔k∈gl∧k∈un:=fun k=>by grind
    have him:=(hmm0 i).1 (.head _);have hpw:(i::rest).Pairwise (fun j i=>∀ o,ops[j]?=some o→∀ e∈o.after,VF e.ground=true→e.on≠i):=by grind
    have:i∈rs:=ready i him.2 fun e he hb hmm=>by
     have hg:VF e.ground=true:=by
      unfold Region.binds at hb
      grind [VF]
     grind [List.pairwise_cons]
    grind
  ·obtain⟨i,hir,hmin⟩:=XO hrem;have hi:=hlt0 i hir;have:i∈rs:=ready i hir fun e he hb hmm=>by
    simp[hi]at he;have hg:txG e.ground=true:=by
     unfold Region.binds at hb
     grind [txG]
    have h1:=(hok.edge i ops[i] (by simp[hi]) e he).2 hg
    grind
   grind
 simp_all
theorem SR {listed:Array Bool}{i:Nat}(hi:i<listed.size) (k:Nat) (b:Bool):(listed.setIfInBounds i true).getD k b=if i=k then true else listed.getD k b:=by
 simp only[Array.getD_eq_getD_getElem?,Array.getElem?_setIfInBounds]
 grind
theorem xD {listed:Array Bool}{i:Nat}(hi:i<listed.size):listed.getD i true=listed.getD i false:=by
 simp_all
variable {n:Nat}{ops:Array Oper}{nr:List Nat}{vs:List VI}{perm:List Nat}{anc:List (Nat×List Nat)}{m:Region.Mode}{listed:Array Bool}{g0:Gh}{w0:World}{t0:Array Value}{O0:Nat→Nat}{st':St}
theorem Cf.flush (hok:lF P n ops nr vs perm anc) {l1 l2:List Nat}{j:Nat}{A:Nat→Nat}{pd:Nat→Option (Nat→Nat)}{F:List Nat}{g:Gh}{w:World}{t:Array Value}{O:Nat→Nat}{st:St}
  (c:Cf P r n ops nr vs anc m listed g0 w0 t0 O0 st' (l1++j::l2) pd F g w t O st) (hj:pd j=some A) (hp:∀ x∈l1,∃ u v,vs[x]?=some u∧vs[j]?=some v∧gF (b8 x nr) (b8 j nr) u v=true) :
  ∃ F' g' O' st1,Cf P r n ops nr vs anc m listed g0 w0 t0 O0 st' (l1++l2) (fun i=>if i=j then none else pd i) F' g' w t O' st1:=by
 have pj:=c.pend j A hj;obtain⟨v,d,x,h1,h4,h5,hk⟩:=pj.it;have hdst:=hk.dst;have hjn:=(c.left.pdl j A hj).1;have inv:bw st:=⟨c.s.se,c.s.sh,fun id hid=>c.s.heap_fresh hid⟩
 have hsw:∀ x∈l1,∃ u,vs[x]?=some u∧gF (b8 x nr) (b8 j nr) u v=true:=fun x hx=>by
  simp_all
 have h6:=Rb h1 hsw inv c.run;simp only[cS,h1]at h6;split at h6
 ·simp at h6
 ·rename_i st1 h7;have h8:bm r v st=some st1:=HQ (fun hw=>hok.near j _ hw h1) c.s.se h7;obtain⟨g',O',s',x',l'⟩:=hk.make c.s pj.le pj.hi h4 h5 h8;have hsub:(l1++l2).Sublist (l1++j::l2):=List.Sublist.append_left (List.sublist_cons_self j l2) l1;have hnd:=c.left.nd;have hjl:j∉l1++l2:=fun hm=>by
   grind
  have hfoot:∀ i,i∈l1++l2→mV anc vs i=true→∀ u q,vs[i]?=some u→et u=some q→∀ k∈q::qS u,get st1.env k=get st.env k:=fun i hi hl u q hu hq k hkm=>by
   have hij:i≠j:=fun e=>hjl (e▸hi)
   obtain⟨u2,q2,k1,k2,k3,k4⟩:=pQ hl;obtain⟨R,M,f1,f0,f2⟩:=(k3 j v h1 (fun e=>hij e.symm)).resolve_left (fun hdj=>by
    obtain⟨_,_,_,_,_,hno⟩:=pQ pj.late
    simp_all)
   obtain⟨e1,hs1'⟩:=st;refine(sM f1 e1 hs1' st1 h8).2.1 k ?_
   grind [aoc.late]
  have hmem:∀ i B,i≠j→pd i=some B→i∈l1++l2:=fun i B e hi=>by
   have:=(c.left.mem i (c.left.pdl i B hi).1).2 (.inr (by simp_all))
   simp_all
  refine⟨_,g',O',st1,⟨⟨c.left.pair.sublist hsub,hnd.sublist hsub,fun k hk=>c.left.lt k (hsub.subset hk),c.left.size,fun k hk=>?_,fun i b' hi=>?_,c.left.closed⟩,c.n,s',fun i hi u q hu hq hl=>?_,fun i B hi=>?_,fun i k B C hik hi hk=>?_,?_,fun i B hi b hb=>?_,c.le0,h6⟩⟩
  ·have hold:=c.left.mem k hk;by_cases e:k=j
   ·subst e;have hl:=(c.left.pdl k A hj).2
    grind
   simp_all
  ·by_cases e:i=j
   ·simp_all
   ·simp only[e,if_false]at hi;exact c.left.pdl i b' hi
  ·rw[hfoot i hi hl u q hu hq q (.head _)]
   grind [abs]
  ·by_cases e:i=j
   ·simp_all
   ·simp only[e,if_false]at hi;have p:=c.pend i B hi;obtain⟨u,q,y,k1,k2,k3,k4⟩:=p.it;have hd:=c.disj i j B A e hi hj;exact⟨p.late,p.hi,fun b=>by have:=l' b;have:=p.le b;have:=hd b;have:=pj.le b;omega,u,q,y,k1,k2,k3,
     k4.keep x' (fun b hb=>⟨p.hi b hb,fun h=>by have:=hd b;have:=p.le b;omega⟩) fun k hkm=>hfoot i (hmem i B e hi) p.late u q k1 k4.dst k (.tail _ hkm)⟩
  ·by_cases e:i=j
   ·simp_all
   ·by_cases e2:k=j
    ·simp_all
    ·simp only[e,e2,if_false]at hi hk;exact c.disj i k B C hik hi hk
  ·refine⟨s',c.base.ext.trans x' fun b hb h=>?_,fun b hb=>?_,c.base.size⟩
   ·have:=c.old j A hj b hb;omega
   ·exact Nat.le_trans (l' b) (c.old j A hj b hb)
  ·by_cases e:i=j
   ·simp_all
   ·simp only[e,if_false]at hi;have q1:=c.old i B hi b hb;have q2:=c.old j A hj b hb;have q3:=c.disj i j B A e hi hj b
    grind
theorem Cf.flush_all (hok:lF P n ops nr vs perm anc):∀ {rem:List Nat}{pd:Nat→Option (Nat→Nat)}{F:List Nat}{g:Gh}{w:World}{t:Array Value}{O:Nat→Nat}{st:St},
  Cf P r n ops nr vs anc m listed g0 w0 t0 O0 st' rem pd F g w t O st→(∀ i∈rem,(pd i).isSome=true)→∃ g' O',dJ P g0 w0 t0 O0 st' t w g' O'
 | [],pd,F,g,w,t,O,st,c,_=>by
  have h:=c.run;simp only[cS,Option.some.injEq]at h;subst h;exact⟨g,O,c.base⟩
 | j::rem,pd,F,g,w,t,O,st,c,hall=>by
  obtain⟨b,hb⟩:=Option.isSome_iff_exists.1 (hall j (.head _));obtain⟨F',g',O',st1,c'⟩:=Cf.flush (l1:=[]) hok c hb (fun x hx=>by simp at hx);have hnd:=c.left.nd;exact Cf.flush_all hok c' fun i hi=>by
   grind
theorem Cf.flush_for (hok:lF P n ops nr vs perm anc) {i:Nat}(hil:listed.getD i true=false) (hnl:mV anc vs i=false) {o:Oper}(ho:ops[i]?=some o) (hready:∀ e∈o.after,Region.binds m e=true→listed.getD e.on false=true) :
  ∀ {k:Nat}{l1 l2:List Nat},l1.length=k→∀ {pd:Nat→Option (Nat→Nat)}{F:List Nat}{g:Gh}{w:World}{t:Array Value}{O:Nat→Nat}{st:St},
  Cf P r n ops nr vs anc m listed g0 w0 t0 O0 st' (l1++i::l2) pd F g w t O st→
  ∃ l1' pd' F' g' O' st1,Cf P r n ops nr vs anc m listed g0 w0 t0 O0 st' (l1'++i::l2) pd' F' g' w t O' st1∧(∀ j∈l1',∃ u v,vs[j]?=some u∧vs[i]?=some v∧gF (b8 j nr) (b8 i nr) u v=true)∧(l1'.filter fun q=>!listed.getD q true)=(l1.filter fun q=>!listed.getD q true):=by
 intro k
 induction k with
 | zero =>
  grind
 | succ k ih =>
  intro l1 l2 hk pd F g w t O st c;have hpw:=List.pairwise_append.1 c.left.pair;have hin:i<ops.size:=c.left.lt i (by simp);have hlist:∀ a q,a<ops.size→I1 ops a q→listed.getD a false=true∨a=i→listed.getD q false=true:=fun a q ha hpa hla=>by
   refine nk c.left.closed hpa fun o' ho'=>?_
   rcases hla with h | h
   ·exact c.left.closed a o' h ho'
   simp_all
  by_cases hex:∃ j∈l1,lU anc i j=true
  ·
   obtain⟨la,j,lb,hl1,hdj,hfirst⟩:∃ la j lb,l1=la++j::lb∧lU anc i j=true∧∀ x∈la,lU anc i x=false:=by
    clear ih hk c hpw
    induction l1 with
    | nil=>simp_all
    | cons x l1 ihl =>
     by_cases hx:lU anc i x=true
     ·exact⟨[],x,l1,rfl,hx,fun y hy=>by simp at hy⟩
     ·obtain⟨la,j,lb,h1,h2,h3⟩:=ihl (by
       simp_all)
      grind
   subst hl1;have hjm:j∈(la++j::lb)++i::l2:=by simp
   have hjn:=c.left.lt j hjm;have hjl:=hlist i j hin (hok.path i j hdj) (.inr rfl);have hjp:∃ b,pd j=some b:=by
    rcases (c.left.mem j hjn).1 hjm with h | h<;>grind [Option.isSome_iff_exists]
   obtain⟨b,hb⟩:=hjp;have hlate:=(c.pend j b hb).late;obtain⟨_,_,_,_,_,hnoanc⟩:=pQ hlate;have hpj:=List.pairwise_append.1 hpw.1;have hpass:∀ x∈la,∃ u v,vs[x]?=some u∧vs[j]?=some v∧gF (b8 x nr) (b8 j nr) u v=true:=fun x hx=>by
    have hxm:x∈(la++j::lb)++i::l2:=by simp[hx]
    have hxn:=c.left.lt x hxm;rcases hpj.2.2 x hx j (.head _) with (h | h) | h
    ·
     have hxl:=hlist j x hjn (hok.path j x h) (.inl hjl);rcases (c.left.mem x hxn).1 hxm with h2 | h2
     ·grind
     ·obtain⟨b2,hb2⟩:=Option.isSome_iff_exists.1 h2;have:=(c.pend x b2 hb2).late
      simp_all
    all_goals grind [lF.len]
   have c0:Cf P r n ops nr vs anc m listed g0 w0 t0 O0 st' (la++j::(lb++i::l2)) pd F g w t O st:=by simp_all
   obtain⟨F',g',O',st1,c'⟩:=Cf.flush hok c0 hb hpass
   grind
  ·refine⟨l1,pd,F,g,O,st,c,fun j hj=>?_,rfl⟩;rcases hpw.2.2 j hj i (.head _) with (h | h) | h<;>grind
theorem akH (hok:lF P n ops nr vs perm anc) {i:Nat}{v:VI}{d:Nat}(hv:vs[i]?=some v) (hd:et v=some d):∀ {l1 l2 F:List Nat}{st:St},bg st.env→(∀ k∈l1,∀ u,vs[k]?=some u→∃ R M,gh u=some (R,M)∧∀ q∈d::qS v,q∉M)→
  cS r nr vs (l1++i::l2) F st=some st'→∃ st1 st2,bm r v st1=some st2∧∀ q∈d::qS v,get st1.env q=get st.env q
 | [],l2,F,st,hsrt,_,h=>by
  simp only[List.nil_append,cS,hv]at h;split at h
  ·simp at h
  ·rename_i st1 h1;exact⟨st,st1,HQ (fun hw=>hok.near i _ hw hv) hsrt h1,fun _ _=>rfl⟩
 | k::l1,l2,F,st,hsrt,hl,h=>by
  simp only[List.cons_append,cS]at h;split at h
  ·simp at h
  ·rename_i u hu;split at h
   ·simp at h
   ·rename_i st1 h1;have h2:bm r u st=some st1:=HQ (fun hw=>hok.near k _ hw hu) hsrt h1;obtain⟨R,M,f1,f2⟩:=hl k (.head _) u hu;obtain⟨e1,hs1⟩:=st;obtain⟨k1,k2,_⟩:=sM f1 e1 hs1 st1 h2;obtain⟨sa,sb,q1,q2⟩:=akH hok hv hd (k1 hsrt) (fun k hk=>hl k (.tail _ hk)) h
    grind
theorem ao6 {g:Gh}{w:World}{t:Array Value}{O:Nat→Nat}{zs:List AV}{o:Oper}(s:S P g w st' t O) (hc:aB P (.alloc zs) o.op=true) :
  ∃ (c:Array Value) (el:_),jR zs c.toList=true∧(execOp (ev t) o).run P w=.ok (.value (.pointer (some ⟨w.heap.size,0,none⟩))) (w.alloc (.cells c el))∧aI g w g (w.alloc (.cells c el)) (fun _=>False):=by
 obtain⟨dst,op,ty,pos,aft,gd⟩:=o;simp only[aB]at hc;split at hc
 ·rename_i e;split at hc
  ·split at hc
   ·rename_i z hz;exact⟨z.cells,e,hc,by simp_all [execOp,Instr.alloc,zeroValue,typeInfo,newVar,newRow],aI.alloc s.pmlt _ _ (by grind [dD])⟩
   simp_all
  simp_all
 simp_all
theorem arf {ro:Option Nat}{g:Gh}{w:World}{t:Array Value}{O:Nat→Nat}{st:St}{v:VI}{d:Nat}{o:Oper}(s:S P g w st t O) (hd:et v=some d) (hc:aB P v.op o.op=true)
  (hmk:∀ z l c th,v=⟨some d,none,.mkslice z l c,th⟩→qJ l=true→qJ c=true→∃ a,iu z l c st=some (a,st)) (ds:List Deferred) (next:Act→World→Prop) (Q:Exit→Act→World→Prop)
  (hn:∀ w1 x g1 O1 A,S P g1 w1 st t O1→aI g w g1 w1 (fun b=>O b≠0)→(∀ b,b<w.heap.size→A b+O1 b≤O b)→(∀ b,A b+O1 b≤1)→(∀ b,A b≠0→b<w1.heap.size)→uN g1 w1 st d v x A→next (Act.put ⟨t,ds⟩ o.dst x) w1) :
  o.uponIn (FR ro) 0 P ⟨t,ds⟩ next Q ((execOp (ev t) o).run P w):=by
 rcases AE hd with ⟨zs,rfl⟩ | ⟨z,l,c,th,rfl,hl,hc2⟩
 ·obtain⟨cc,el,hz,hrun,hx⟩:=ao6 s hc;rw[hrun];have hobn:O w.heap.size=0:=by
   by_cases h:O w.heap.size=0
   ·exact h
   ·have:=s.hi _ h;omega
  refine hn _ _ g O (one w.heap.size) (s.extF hx rfl fun b o' hp=>by have:=s.pmlt b o' hp;grind [World.size_alloc]) (hx.mono fun _ _ h=>h.elim) (fun b hb=>?_) (fun b=>?_) (fun b hb=>?_) (.var hz (fC _ _) fun o' hp=>?_)
  ·grind [one]
  ·by_cases e:b=w.heap.size
   ·simp_all
   ·have:=s.le b;grind [one]
  ·grind [oR,World.size_alloc]
  ·have:=s.pmlt _ o' hp;omega
 ·obtain⟨a,ha⟩:=hmk z l c th rfl hl hc2;exact(VQ s ha hc).opW ds next Q fun x w' g' Oa O' k=>hn _ _ g' O' Oa k.st k.ext k.old k.le k.hi (.list hl hc2 ha k.val)
theorem avn {ro:Option Nat}(hr:ep P r) (hcs:eK P r) (hok:lF P n ops nr vs perm anc) {Q:Exit→Act→World→Prop}(ds:List Deferred)
  (hq:∀ w' t' g' O',dJ P g0 w0 t0 O0 st' t' w' g' O'→Q .normal ⟨t',ds⟩ w') :
  ∀ {fuel:Nat}{listed:Array Bool}{tt:Nat}{rem:List Nat}{pd:Nat→Option (Nat→Nat)}{F:List Nat}{g:Gh}{w:World}{t:Array Value}{O:Nat→Nat}{st:St},
   Cf P r n ops nr vs anc m listed g0 w0 t0 O0 st' rem pd F g w t O st→(rem.filter fun i=>!listed.getD i true).length=fuel→wpOpsIn (FR ro) 0 P ops Q (Region.linearise.go m ops fuel tt listed []) ⟨t,ds⟩ w:=by
 intro fuel
 induction fuel with
 | zero =>
  intro listed tt rem pd F g w t O st c hf;have hnil:=List.eq_nil_of_length_eq_zero hf;have hall:∀ i∈rem,(pd i).isSome=true:=fun i hi=>by
   have hin:=c.left.lt i hi;rcases (c.left.mem i hin).1 hi with h | h<;>simp_all
  obtain⟨g',O',G⟩:=Cf.flush_all hok c hall;exact hq _ _ _ _ G
 | succ fuel ih =>
  intro listed tt rem pd F g w t O st c hf;unfold Region.linearise.go;simp only;have hun:∀ i,i∈(rem.filter fun i=>!listed.getD i true)↔i<ops.size∧listed.getD i true=false:=fun i=>by
   rw[List.mem_filter,Bool.not_eq_true'];exact⟨fun h=>⟨c.left.lt i h.1,h.2⟩,fun h=>⟨(c.left.mem i h.1).2 (.inl h.2),h.2⟩⟩
  obtain⟨hne,hmem⟩:=ar8 (m:=m) hok c.left.size hun (by grind);generalize hrs:((List.range ops.size).filter fun i=>!listed.getD i true && ((ops[i]?).map (·.after.all fun e=>!Region.binds m e || listed.getD e.on false)).getD false)=rs at hne hmem;have hlen:0<rs.length:=List.length_pos_iff.2 hne;have hlt:=Nat.mod_lt tt hlen;rw[List.getElem?_eq_getElem hlt];simp only;generalize hi:rs[tt % rs.length]=i;have hirs:i∈rs:=by grind
  obtain⟨hin,hil,o,ho,hready⟩:=(hmem i).1 hirs;have hirem:i∈rem:=(c.left.mem i hin).2 (.inl hil);have hsz:i<listed.size:=by grind
  have hvl:i<vs.length:=by grind [lF.len]
  have hv:vs[i]?=some vs[i]:=by simp
  have hacc:=linearise_go_acc m ops fuel (tt / rs.length) (listed.setIfInBounds i true) [i];rw[hacc];simp only[List.reverse_cons,List.reverse_nil,List.nil_append,List.cons_append,wpOpsIn,ho];have hclosed:∀ k o',(listed.setIfInBounds i true).getD k false=true→ops[k]?=some o'→∀ e∈o'.after,Region.binds m e=true→(listed.setIfInBounds i true).getD e.on false=true:=by
   intro k o' hk ho' e he hb;rw[SR hsz]at hk⊢;split
   ·rfl
   ·by_cases e1:i=k
    ·simp_all
    ·rw[if_neg e1]at hk;exact c.left.closed k o' hk ho' e he hb
  have hcount:∀ {l1 l2:List Nat},rem=l1++i::l2→∀ {l1':List Nat},(l1'.filter fun i=>!listed.getD i true)=(l1.filter fun i=>!listed.getD i true)→i∉l1'→i∉l2→((l1'++l2).filter fun q=>!(listed.setIfInBounds i true).getD q true).length=fuel:=by
   intro l1 l2 hrem l1' hl1 hn1 hn2;have h1:∀ l:List Nat,i∉l→(l.filter fun q=>!(listed.setIfInBounds i true).getD q true)=l.filter fun q=>!listed.getD q true:=fun l hl=>List.filter_congr fun q hq=>by
    rw[SR hsz,if_neg (fun e=>hl (by simp_all))]
   grind
  cases hl:mV anc vs i with
  | true =>
   obtain⟨v,d,hvi,hdv,hfree,hnoanc⟩:=pQ hl;have hchk:=hok.vi i _ o hvi ho;simp only[uE,Bool.and_eq_true]at hchk;obtain⟨⟨hdst,hgd⟩,hop⟩:=hchk;obtain⟨hd1,hd2,hd3⟩:=qO hdv;have hgn:o.guard=none:=by
    grind [wp]
   have hod:o.dst=some d∧d<n:=by
    rw[hd1]at hdst;split at hdst<;>grind [Nat.beq_eq,Nat.blt_eq]
   have hw:Region.wanted o (yielded ops t)=true:=by grind [Region.wanted]
   rw[if_pos hw];refine⟨fun _ _=>trivial,?_⟩;rw[HZ _ _ (Js hd3 hop)];have habs:=c.abs i hirem v d hvi hdv hl;obtain⟨l1,l2,hrem⟩:=List.append_of_mem hirem;have hapl:∀ k∈l1,∀ u,vs[k]?=some u→∃ R M,gh u=some (R,M)∧∀ q∈d::qS v,q∉M:=fun k hk u hu=>by
    have hkm:k∈rem:=by simp_all
    have hkn:=c.left.lt k hkm;have hne:k≠i:=fun e=>by
     have hnd:=c.left.nd
     grind
    have hpr:=c.left.pair;rw[hrem]at hpr;have hnk:lU anc i k=true→False:=fun h=>by
     have hkl:=nk c.left.closed (hok.path i k h) fun o' ho'=>by
      simp_all
     rcases (c.left.mem k hkn).1 hkm with h2 | h2
     ·grind [xD]
     ·obtain⟨b2,hb2⟩:=Option.isSome_iff_exists.1 h2;have:=(c.pend k b2 hb2).late
      simp_all
    rcases (List.pairwise_append.1 hpr).2.2 k hk i (.head _) with (h | ⟨u',v',a1,a2,a3⟩) | h
    ·simp_all
    ·rw[hu]at a1;rw[hvi]at a2;simp only[Option.some.injEq]at a1 a2;subst a1 a2;exact Xq a3 hdv
    ·obtain⟨R,M,f1,f2,f3⟩:=(hfree k u hu hne).resolve_left (fun hd=>by simp_all)
     grind
   have hrun0:=c.run;rw[hrem]at hrun0;obtain⟨sa,sb,hsa,hsq⟩:=akH hok hvi hdv c.s.se hapl hrun0;refine arf (ro:=ro) c.s hdv hop (fun z l c' th e hl1 hl2=>?_) ds _ Q fun w1 x g1 O1 A hs1 hx1 hold1 hle1 hhi1 hpk=>?_
   ·subst e;simp only[bm]at hsa;obtain⟨v',st2,hv',_⟩:=Nz hsa;simp only[bt]at hv';exact⟨v',(ann hl1 hl2 (fun q hq=>(hsq q (List.mem_cons_of_mem _ hq)).symm) hv').2⟩
   ·rw[Wq,hod.1];have hdn:d<t.size:=by grind [Cf.n]
    have hs2:=hs1.setOther habs x;have ht1:oD t (some d) x=t.setIfInBounds d x:=by grind [Act.put]
    rw[ht1];have hgt:∀ q,q≠d→(t.setIfInBounds d x)[q]?=t[q]?:=fun q hqd=>by
     grind
    have hwle:w0.heap.size≤w.heap.size:=c.base.ext.size;have hO1:∀ b,b<w.heap.size→O1 b≤O b:=fun b hb=>by grind
    have hO1':∀ b,O1 b≤1:=fun b=>by grind
    refine ih (rem:=rem) (pd:=fun q=>if q=i then some A else pd q) (F:=F) (g:=g1) (O:=O1) (st:=st) ⟨⟨c.left.pair,c.left.nd,c.left.lt,by simp[c.left.size],fun k hk=>?_,fun k b hk=>?_,hclosed⟩,by simp[c.n],hs2,c.abs,fun k B hk=>?_,fun k q B C hkq hk hq'=>?_,?_,fun k B hk b hb=>?_,c.le0,c.run⟩ ?_
    ·rw[SR hsz];by_cases e:i=k
     ·simp_all
     ·have e':¬ k=i:=fun h=>e h.symm
      simp only[e,e',if_false];exact c.left.mem k hk
    ·rw[SR hsz];by_cases e:k=i
     ·simp_all
     ·simp only[e,if_false]at hk;have:=c.left.pdl k b hk
      simp_all
    ·by_cases e:k=i
     ·subst e;simp only[if_true,Option.some.injEq]at hk;subst hk;refine⟨hl,hhi1,hle1,v,d,x,hvi,by simp[hdn],?_,hpk⟩
      simp_all
     ·simp only[e,if_false]at hk;have q:=c.pend k B hk;obtain⟨u,d',y,h1,h4,h5,h6⟩:=q.it;have hdd:d'≠d:=by
       obtain⟨R,M,f1,f2,_⟩:=(hfree k _ h1 e).resolve_left (fun hdk=>by
        obtain⟨_,_,_,_,_,hno⟩:=pQ q.late
        simp_all)
       intro h;exact f2 (h▸yu f1 (qO h6.dst).1)
      exact⟨q.late,fun b hb=>Nat.lt_of_lt_of_le (q.hi b hb) hx1.size,fun b=>by
       by_cases hb:b<w.heap.size
       ·have:=q.le b;grind
       grind [aoc.hi],u,d',y,h1,by simp_all,(hgt d' hdd).trans h5,
       h6.keep hx1 (fun b hb=>⟨q.hi b hb,fun h=>by have:=q.le b;omega⟩) fun _ _=>rfl⟩
    ·have key:∀ k B,k≠i→pd k=some B→∀ b,A b+B b≤1:=fun k B e hk b=>by
      have q:=c.pend k B hk;by_cases hb:b<w.heap.size
      ·have:=q.le b;grind
      grind [aoc.hi]
     intro b;by_cases e:k=i
     ·have e2:q≠i:=fun h=>hkq (e.trans h.symm)
      simp only[e,e2,if_true,if_false,Option.some.injEq]at hk hq';subst hk;exact key q C e2 hq' b
     ·by_cases e2:q=i
      ·simp only[e,e2,if_true,if_false,Option.some.injEq]at hk hq';subst hq';have:=key k B e hk b;omega
      ·simp only[e,e2,if_false]at hk hq';exact c.disj k q B C hkq hk hq' b
    ·exact⟨hs2,c.base.ext.trans hx1 fun b hb h=>by have:=c.base.old b hb;omega,fun b hb=>Nat.le_trans (hO1 b (by omega)) (c.base.old b hb),by simp[c.base.size]⟩
    ·by_cases e:k=i
     ·simp only[e,if_true,Option.some.injEq]at hk;subst hk;have:=hold1 b (by omega);have:=c.base.old b hb;omega
     ·simp only[e,if_false]at hk;have:=c.old k B hk b hb;grind
    ·have hnd:=c.left.nd;rw[hrem]at hnd;have hnd':=List.nodup_append.1 hnd;have hn1:i∉l1:=fun h=>hnd'.2.2 i h i (.head _) rfl
     have hn2:i∉l2:=(List.nodup_cons.1 hnd'.2.1).1;have:=hcount hrem rfl hn1 hn2;rw[hrem,List.filter_append,List.filter_cons_of_neg (by rw[SR hsz,if_pos rfl];simp),←List.filter_append];exact this
  | false =>
   obtain⟨l1,l2,hrem⟩:=List.append_of_mem hirem;rw[hrem]at c;obtain⟨l1',pd',F',g',O',st1,c1,hpass,hfl⟩:=Cf.flush_for hok hil hl ho hready rfl c;have hsw:∀ j∈l1',∃ u,vs[j]?=some u∧gF (b8 j nr) (b8 i nr) u vs[i]=true:=fun j hj=>by
    simp_all
   have inv:bw st1:=⟨c1.s.se,c1.s.sh,fun id hid=>c1.s.heap_fresh hid⟩
   have h2:=Rb hv hsw inv c1.run;simp only[cS,hv]at h2;split at h2
   ·simp at h2
   ·rename_i st2 h3N;have h3:bm r vs[i] st1=some st2:=HQ (fun hw=>hok.near i _ hw hv) c1.s.se h3N;have hnd:=c1.left.nd;have hnd':=List.nodup_append.1 hnd;have hn1:i∉l1':=fun h=>hnd'.2.2 i h i (.head _) rfl
    have hn2:i∉l2:=(List.nodup_cons.1 hnd'.2.1).1;have hsub:(l1'++l2).Sublist (l1'++i::l2):=List.Sublist.append_left (List.sublist_cons_self i l2) l1';have hpdi:pd' i=none:=by
     cases h:pd' i with
     | none=>rfl
     | some b =>
      have:=(c1.left.pdl i b h).2;rw[←xD hsz,hil]at this;simp at this
    have hapart:∀ k∈l1'++l2,mV anc vs k=true→∀ u d,vs[k]?=some u→et u=some d→∃ R M,gh vs[i]=some (R,M)∧d∉M∧(listed.getD k false=true→∀ q∈qS u,q∉M):=fun k hk hlk u0 d hvk hdk=>by
     have hki:i≠k:=fun e=>by rw[e,hlk]at hl;simp at hl
     obtain⟨u2,d2,k1,kd,k2,_⟩:=pQ hlk;rw[hvk]at k1;simp only[Option.some.injEq]at k1;subst k1;rw[hdk]at kd;simp only[Option.some.injEq]at kd;subst kd;rcases k2 i _ hv hki with hd | hd
     ·rcases List.mem_append.1 hk with hk1 | hk1
      ·obtain⟨u,v,a1,a2,a3⟩:=hpass k hk1;rw[hvk]at a1;rw[hv]at a2;simp only[Option.some.injEq]at a1 a2;subst a1 a2;obtain⟨R,M,f1,f2⟩:=aps a3 hdk;exact⟨R,M,f1,f2 _ (.head _),fun _ q hq=>f2 q (.tail _ hq)⟩
      ·have hkm:k∈l1'++i::l2:=by simp[hk1]
       have hkn:=c1.left.lt k hkm;have hkl:listed.getD k false=true:=nk c1.left.closed (hok.path i k hd) fun o' ho'=>by
        rw[ho]at ho';simp only[Option.some.injEq]at ho';subst ho';exact hready
       have hif:listed.getD i false=false:=by rw[←xD hsz];exact hil
       have hpw:=(List.pairwise_cons.1 (List.pairwise_append.1 c1.left.pair).2.1).1 k hk1;rcases hpw with (h | ⟨u,v,a1,a2,a3⟩) | h
       ·have:=nk c1.left.closed (hok.path k i h) fun o' ho'=>c1.left.closed k o' hkl ho'
        rw[hif]at this;simp at this
       ·rw[hvk]at a2;rw[hv]at a1;simp only[Option.some.injEq]at a1 a2;subst a1 a2;obtain⟨R,M,f1,f2⟩:=Xq a3 hdk;exact⟨R,M,f1,f2 _ (.head _),fun _ q hq=>f2 q (.tail _ hq)⟩
       ·have hii:=h.2.1 i hvl hd;have:=nk c1.left.closed (hok.path i i hii) fun o' ho'=>by
         rw[ho]at ho';simp only[Option.some.injEq]at ho';subst ho';exact hready
        rw[hif]at this;simp at this
     ·obtain⟨R,M,f1,f2,f3⟩:=hd;refine⟨R,M,f1,f2,fun hkl=>f3.resolve_left fun hki=>?_⟩;have hif:listed.getD i false=false:=by rw[←xD hsz];exact hil
      have:=nk c1.left.closed (hok.path k i hki) fun o' ho'=>c1.left.closed k o' hkl ho'
      rw[hif]at this;simp at this
    refine am3 (ro:=ro) hr hcs c1.n c1.s h3 (hok.vi i _ o hv ho) ds _ Q fun t' w' g2 O2 G hT=>?_
    refine ih (rem:=l1'++l2) (pd:=pd') ⟨⟨c1.left.pair.sublist hsub,hnd.sublist hsub,fun k hk=>c1.left.lt k (hsub.subset hk),by simp[c1.left.size],fun k hk=>?_,fun k b hk=>?_,hclosed⟩,by rw[G.size,c1.n],G.st,fun k hk u d hvk hdk hlk=>?_,fun k B hk=>?_,c1.disj,c1.base.trans G,fun k B hk b hb=>?_,c1.le0,h2⟩ ?_
    ·have hold:=c1.left.mem k hk;rw[SR hsz];by_cases e:i=k
     ·subst e;simp only[if_true,Bool.true_eq_false,hpdi,Option.isSome_none,Bool.false_eq_true,or_self,iff_false];intro hm;rcases List.mem_append.1 hm with h | h
      ·exact hn1 h
      ·exact hn2 h
     ·simp only[e,if_false];rw[←hold];simp only[List.mem_append,List.mem_cons];constructor
      ·rintro (h | h)
       ·exact .inl h
       ·exact .inr (.inr h)
      ·rintro (h | h | h)
       ·exact .inl h
       ·exact absurd h.symm e
       ·exact .inr h
    ·have:=c1.left.pdl k b hk;refine⟨this.1,?_⟩;rw[SR hsz];split
     ·rfl
     ·exact this.2
    ·have h0:=c1.abs k (hsub.subset hk) u d hvk hdk hlk;obtain⟨R,M,f1,f2,_⟩:=hapart k hk hlk u d hvk hdk;obtain⟨e1,hs1'⟩:=st1;have:=(sM f1 e1 hs1' st2 h3).2.1 d f2;rw[this];exact h0
    ·have hki:i≠k:=fun e=>by rw[←e,hpdi]at hk;simp at hk
     have hkm:k∈l1'++i::l2:=(c1.left.mem k (c1.left.pdl k B hk).1).2 (.inr (by rw[hk];rfl));have hkm':k∈l1'++l2:=by
      rcases List.mem_append.1 hkm with h | h
      ·exact List.mem_append_left _ h
      ·rcases List.mem_cons.1 h with h | h
       ·exact absurd h.symm hki
       ·exact List.mem_append_right _ h
     have q:=c1.pend k B hk;obtain⟨u,d,y,h1,h4,h5,h6⟩:=q.it;obtain⟨R,M,f1,f0,f2⟩:=hapart k hkm' q.late u d h1 h6.dst;have f2:=f2 (c1.left.pdl k B hk).2;have hdd:vs[i].dst≠some d:=fun e=>f0 (yu f1 e)
     refine⟨q.late,fun b hb=>Nat.lt_of_lt_of_le (q.hi b hb) G.ext.size,fun b=>?_,u,d,y,h1,by rw[G.size];exact h4,(hT d hdd).trans h5,h6.keep G.ext (fun b hb=>⟨q.hi b hb,fun h=>by have:=q.le b;omega⟩) fun p hp=>?_⟩
     ·by_cases hb:b<w.heap.size
      ·have:=q.le b;have:=G.old b hb;omega
      ·have:B b=0:=by
        by_cases h:B b=0
        ·exact h
        ·exact absurd (q.hi b h) hb
       have:=G.st.le b;omega
     ·obtain⟨e1,hs1'⟩:=st1;exact(sM f1 e1 hs1' st2 h3).2.1 p (f2 p hp)
    ·have:=c1.old k B hk b hb;have:=G.old b (Nat.lt_of_lt_of_le hb c1.base.ext.size);omega
    ·
     exact hcount hrem hfl hn1 hn2
theorem QY {e:ar}:∀ {vs:List VI},nj e vs=true→∀ (i:Nat) (v:VI) (d:Nat),vs[i]?=some v→et v=some d→get e d=none
 | [],_,i,v,d,h,_=>by simp at h
 | u::r,hl,i,v,d,h,hd=>by
  simp only[nj,Bool.and_eq_true]at hl
  cases i with
  | zero =>
   grind
  | succ i =>
   exact QY hl.2 i v d h hd
theorem aqB {g:Gh}{w:World}{t:Array Value}{O:Nat→Nat}{st st':St}{ro:Option Nat}(hr:ep P r) (hcs:eK P r) {n:Nat}{ops:Array Oper}{gco nr:List Nat}{vs:List VI}{perm:List Nat}(ds:List Deferred) (h:B0 P n ops perm gco nr vs=true) {Q:Exit→Act→World→Prop}{id:Nat}(hn:t.size=n)
  (s:S P g w st t O) (habs:nj st.env vs=true) (hrun:cS r nr vs perm [] st=some st') (hq:∀ w' t' g' O',dJ P g w t O st' t' w' g' O'→Q .normal ⟨t',ds⟩ w'):(Code.region id ops true).wpIn (FR ro) 0 P Q ⟨t,ds⟩ w:=by
 have hok:=awr h;refine wpIn_region_draw fun tt=>?_
 have hx:aI g w g w.drew fun _=>False:=aI.drew _ _ _
 have sd:=s.extF hx rfl s.pmlt;have hleft:∀ m,au8 ops nr vs (BU ops perm []) m (Array.replicate ops.size false) perm (fun _=>none):=fun m=>by
  refine⟨hok.pair,hok.nd,hok.lt,by simp,fun i hi=>?_,fun i b hi=>by simp at hi,fun i o hi=>?_⟩
  ·have:=hok.all i hi
   simp_all
  ·simp[Array.getD]at hi
 have hlen:(perm.filter fun i=>!(Array.replicate ops.size false).getD i true).length=ops.size:=by
  have h0:(perm.filter fun i=>!(Array.replicate ops.size false).getD i true)=perm:=List.filter_eq_self.2 fun i hi=>by
   have:=hok.lt i hi
   simp_all
  have h1:perm.Perm (List.range ops.size):=by
   grind [lF.nd,List.nodup_range,lF.all]
  rw[h0,h1.length_eq];simp
 have key:∀ m tt,wpOpsIn (FR ro) 0 P ops Q (Region.linearise m ops tt) ⟨t,ds⟩ w.drew:=fun m tt =>
  avn (ro:=ro) (m:=m) hr hcs hok ds (g0:=g) (w0:=w.drew) (t0:=t) (O0:=O) (st':=st') (fun w' t' g' O' G=>hq _ _ _ _ ⟨G.st,(hx.mono (T:=fun b=>O b≠0) fun _ _ h=>h.elim).trans G.ext fun _ _ h=>h,G.old,G.size⟩)
   ⟨hleft m,hn,sd,fun i hi v d hv hd _=>QY habs i v d hv hd,fun i b hi=>by simp at hi,fun i j A B _ hi=>by simp at hi,dJ.refl sd,fun i b hi=>by simp at hi,sd.le,hrun⟩ hlen
 unfold Region.schedule;split<;>simp_all
end
def I9 (ro:Option Nat) (P:Program) (c:Code) (Q:Exit→Act→World→Prop) (a:Act) (w:World):Prop :=
 ∀ (b:Frame) (k:List Item) (cs:List Frame),b.roundOf=ro→∃ e a' w',Q e a' w'∧ArrivesIn (Machine.fenced P (FR ro)) P (lone (b.atR a (.inLoop c::k)) cs w) b k cs e a' w'
def xW (ro:Option Nat) (P:Program) (body cur:Code) (Q:Exit→Act→World→Prop) (a:Act) (w:World):Prop :=
 ∀ (b:Frame) (k:List Item) (cs:List Frame),b.roundOf=ro→∃ e a' w',Q e a' w'∧ArrivesIn (Machine.fenced P (FR ro)) P (lone (b.atR a (.code cur::.inScope body::k)) cs w) b k cs e a' w'
section
variable {P:Program}{ro:Option Nat}{Q:Exit→Act→World→Prop}{a:Act}{w:World}
theorem DY {ro:Option Nat}(m:Machine):Machine.fenced P (FR ro) m:=fenced_wide P m
theorem YP {c:Code}(h:c.wpIn (FR ro) 0 P (Exit.then (I9 ro P c Q) Q) a w):I9 ro P c Q a w∧(Code.loop c).wpIn (FR ro) 0 P Q a w:=by
 have key:∀ (b:Frame) (k:List Item) (cs:List Frame),b.roundOf=ro→∃ e a' w',Q e a' w'∧ArrivesIn (Machine.fenced P (FR ro)) P (lone (b.atR a (.code c::.inLoop c::k)) cs w) b k cs e a' w':=by
  intro b k cs hro;obtain⟨e,a₁,w₁,hq,harr⟩:=h b (.inLoop c::k) cs hro trivial (Z8 _ _)
  cases e with
  | normal =>
   obtain⟨e₂,a₂,w₂,hq₂,harr₂⟩:=hq b k cs hro;exact⟨e₂,a₂,w₂,hq₂,.of_steps harr harr₂⟩
  | exit id=>exact⟨_,a₁,w₁,hq,.pass (x:=.inLoop c) rfl (fun _ _=>.inl (by simp)) harr⟩
  | goto l=>exact⟨_,a₁,w₁,hq,.pass (x:=.inLoop c) rfl (fun _ _=>.inl (by simp)) harr⟩
  | ret=>exact⟨_,a₁,w₁,hq,.pass (x:=.inLoop c) rfl (fun _ _=>.inl (by simp)) harr⟩
  | panic ch=>exact⟨_,a₁,w₁,hq,.pass (x:=.inLoop c) rfl (fun _ _=>.inl (by simp)) harr⟩
  | outgrown=>exact⟨_,a₁,w₁,hq,.pass (x:=.inLoop c) rfl (fun _ _=>.inl (by simp)) harr⟩
 refine⟨fun b k cs hro=>?_,fun b k cs hro _ _=>?_⟩
 ·obtain⟨e,a',w',hq,harr⟩:=key b k cs hro;exact⟨e,a',w',hq,.of_steps (.one (DY _) stepR_inLoop) harr⟩
 ·obtain⟨e,a',w',hq,harr⟩:=key b k cs hro;exact⟨e,a',w',hq,.of_steps (.one (DY _) stepR_loop) harr⟩
def Exit.scope (ro:Option Nat) (P:Program) (body:Code) (Q:Exit→Act→World→Prop):Exit→Act→World→Prop
 | .goto l,a,w=>match findLabel body l with
  | some rest=>xW ro P body rest Q a w
  | none=>Q (.goto l) a w
 | e,a,w=>Q e a w
theorem alA {body cur:Code}(h:cur.wpIn (FR ro) 0 P (Exit.scope ro P body Q) a w):xW ro P body cur Q a w:=by
 intro b k cs hro;obtain⟨e,a₁,w₁,hq,harr⟩:=h b (.inScope body::k) cs hro trivial (Z8 _ _)
 cases e with
 | normal=>exact⟨.normal,a₁,w₁,hq,StepsIn.trans harr (.one (DY _) (step_lone_go (by simp[stepG,stepG.exec,Frame.atR])))⟩
 | exit id =>
  have hx:exitTo id (.inScope body::k)=exitTo id k:=by simp[exitTo]
  exact⟨_,a₁,w₁,hq,fun k' hk=>harr.1 k' (by simp_all),fun hr hk=>harr.2 hr (by simp_all)⟩
 | goto l =>
  have hx:gotoIn l (.inScope body::k)=match findLabel body l with | some rest=>some (.code rest::.inScope body::k) | none=>gotoIn l k:=by
   grind [gotoIn]
  simp only[Exit.scope]at hq
  cases hf:findLabel body l with
  | some rest =>
   rw[hf]at hq hx;obtain⟨e₂,a₂,w₂,hq₂,harr₂⟩:=hq b k cs hro;exact⟨e₂,a₂,w₂,hq₂,.of_steps (harr.1 _ hx) harr₂⟩
  | none =>
   rw[hf]at hq hx;exact⟨_,a₁,w₁,hq,fun k' hk=>harr.1 k' (by simp_all),fun hr hk=>harr.2 hr (by simp_all)⟩
 | ret=>exact⟨_,a₁,w₁,hq,harr⟩
 | panic ch=>exact⟨_,a₁,w₁,hq,harr⟩
 | outgrown=>exact⟨_,a₁,w₁,hq,harr⟩
theorem ap9 {body:Code}(h:xW ro P body body Q a w):(Code.scope body).wpIn (FR ro) 0 P Q a w:=by
 intro b k cs hro _ _;obtain⟨e,a',w',hq,harr⟩:=h b k cs hro;exact⟨e,a',w',hq,.of_steps (.one (DY _) (step_lone_go (by simp[stepG,stepG.exec,Frame.atR]))) harr⟩
end
theorem arC {P:Program}{n:Nat}{v:VC}{c:Code}(h:Mt P n v c) (l:Nat) :
  match nM v l with
  | some x=>∃ y,findLabel c l=some y∧Mt P n x y
  | none=>findLabel c l=none:=by
 have hgh:∀ {a:VC},ov a=true→nM a l=none:=by
  intro a
  induction a<;>grind [ov,nM]
 induction h with
 | ghostL h1 h2 ih=>grind [nM]
 | @ghostR a b c h1 h2 ih =>
  simp only[nM,hgh h1]
  cases hf:nM a l with
  | none=>simp_all
  | some x =>
   simp only[hf]at ih⊢;obtain⟨y,hy,hm⟩:=ih;exact⟨y,hy,.ghostR h1 hm⟩
 | @seq a b c d h1 h2 ih1 ih2 =>
  simp only[nM]
  cases hf:nM a l with
  | some x =>
   simp only[hf]at ih1⊢;obtain⟨y,hy,hm⟩:=ih1;exact⟨.seq y d,by grind [findLabel],.seq hm h2⟩
  | none =>
   grind [findLabel]
 | @label k =>
  simp only[nM,findLabel];by_cases e:k=l
  ·subst e;simp[Mt.skip]
  grind [Nat.beq_eq]
 | _=>grind [nM,findLabel]
end Go.Vm
end
