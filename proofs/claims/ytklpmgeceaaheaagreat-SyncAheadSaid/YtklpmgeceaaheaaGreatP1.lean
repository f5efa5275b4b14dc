import Derived.Lib.BytesEntry
import Derived.RangeFuncLeaves
import Derived.Orders
import GoSem.ClaimChange
import Derived.Test.YtklpmgeceaaheaaGreatP0
set_option linter.unusedVariables false
set_option linter.unusedSimpArgs false
set_option linter.defProp false
noncomputable section
namespace Go.Vm
set_option maxRecDepth 100000
section
variable {P:Program}{g:Gh}{w:World}{t:Array Value}{O:Nat→Nat}{st st':St}{a:AV}{o:Oper}
theorem RVs.flat:∀ {vs:List AV}{xs:List Value}{O1:Nat→Nat},RVs g w vs xs O1→(vs.all fun v=>Nat.beq v.cells.length 1 && v.cells.all aV)=true→
  RVs g w (vs.flatMap AV.cells) (xs.flatMap fun x=>x.cells.toList) O1∧∀ x∈xs,x.cells.toList.length=1
 | [],xs,O1,r,_=>by
  grind [RVs]
 | v::vs,xs,O1,r,h=>by
  obtain⟨x,s,P1,P2,rfl,rv,rvs,hs⟩:=r;simp only[List.all_cons,Bool.and_eq_true,Nat.beq_eq]at h;obtain⟨h1,h2⟩:=rvs.flat (by grind);have rc:=rv.cells h.1.2;refine⟨?_,fun y hy=>?_⟩
  ·have hO:O1=fun b=>P1 b+P2 b:=funext hs
   grind [join]
  grind [length]
theorem ala:∀ {ps:List Rd}{parts:List (Nat×Operand)}{k:Nat},c8 k ps parts=true→∀ {cs:Array Value},(∀ p∈parts,(ev t p.2).cells.toList.length=1)→k+parts.length≤cs.size→
  ∃ xs':Array Value,Instr.fill (fun i=>some (i*1,1)) cs (parts.map fun p=>(p.1,ev t p.2))=some xs'∧xs'.size=cs.size∧(∀ j,j<k→xs'.toList[j]?=cs.toList[j]?)∧
   ∀ j,j<parts.length→xs'.toList[k+j]?=(parts.flatMap fun p=>(ev t p.2).cells.toList)[j]?
 | [],[],k,_,cs,_,hb=>⟨cs,by simp[Instr.fill],rfl,fun _ _=>rfl,fun j hj=>by simp at hj⟩
 | r::ps,(i,x)::parts,k,hc,cs,h1,hb=>by
  simp only[c8,Bool.and_eq_true,Nat.beq_eq]at hc;obtain⟨⟨rfl,h2⟩,h3⟩:=hc;have hb:i+(parts.length+1)≤cs.size:=hb;have hx:(ev t x).cells.toList.length=1:=h1 _ (.head _);obtain⟨xs1,e1,e2⟩:=IQ (place:=fun i=>some (i*1,1)) (rest:=parts.map fun p=>(p.1,ev t p.2)) (i:=i) rfl (v:=ev t x) (by omega) (xs:=cs) (by omega);have hsz1:xs1.size=cs.size:=by
   grind [AY]
  obtain⟨xs',q1,q2,q3,q4⟩:=ala h3 (cs:=xs1) (fun p hp=>h1 p (.tail _ hp)) (by omega)
  grind [fU]
 | [],_::_,_,hc,_,_,_=>by grind [c8]
 | _::_,[],_,hc,_,_,_=>by grind [c8]
theorem Yq {α β:Type}{f:α→List β}:∀ {l:List α},(∀ x∈l,(f x).length=1)→(l.flatMap f).length=l.length
 | [],_=>rfl
 | x::l,h=>by
  rw[List.flatMap_cons,List.length_append,h x (.head _),Yq fun y hy=>h y (.tail _ hy),List.length_cons];omega
theorem aox {m:Nat}{ps:List Rd}(s:S P g w st t O) (h:QN m ps st=some (a,st')) (hc:aE P (.mksv m ps) o.op=true) :
  cO P g w t O st' a ((execOp (ev t) o).run P w):=by
 obtain⟨dst,op,ty,pos,aft,gd⟩:=o;simp only[aE]at hc;split at hc
 ·rename_i T len parts;simp only[Bool.and_eq_true,Nat.beq_eq,Nat.ble_eq,Nat.blt_eq]at hc;obtain⟨⟨⟨⟨⟨⟨rfl,h1⟩,h2⟩,h3⟩,h4⟩,h0⟩,h5⟩:=hc;subst h3;obtain⟨el,hu,hsz,hm,hby⟩:=dR h1;obtain⟨el',i,zv,hu',hi,hz,hzs⟩:=lG h2;rw[hu]at hu';simp only[Option.some.injEq,TypeDesc.slice.injEq]at hu';subst hu';obtain⟨hrds,hpl⟩:=wl h5;unfold QN at h;split at h
  ·rename_i vs e hr;split at h
   ·rename_i hall;simp only[Option.some.injEq,Prod.mk.injEq]at h;obtain⟨rfl,rfl⟩:=h;obtain⟨Ov,O',rvs,s',l⟩:=s.rdAll hrds hr;rw[List.map_map]at rvs;have hvl:=rvs.length;simp only[List.length_map]at hvl;obtain⟨rf,hone⟩:=rvs.flat hall;have hplt:parts.toList.length=ps.length:=hpl;generalize hcs:(Array.range (ps.length*1)).map (fun j=>(if ps.length*1=0 then (#[]:Array Value) else zv.cells)[j % (if ps.length*1=0 then (#[]:Array Value) else zv.cells).size]!)=cs;have hcsz:cs.size=ps.length:=by grind
    have hone':∀ p∈parts.toList,(ev t p.2).cells.toList.length=1:=fun p hp=>hone _ (List.mem_map.2 ⟨p,hp,rfl⟩)
    obtain⟨xs',q1,q2,q3,q4⟩:=ala (t:=t) (k:=0) h5 (cs:=cs) hone' (by omega);have hfl:=Yq (f:=fun p:Nat×Operand=>(ev t p.2).cells.toList) hone';have hxs:xs'.toList=parts.toList.flatMap fun p=>(ev t p.2).cells.toList:=by
     refine List.ext_getElem? fun j=>?_
     grind
    have rvx:RVs g w (vs.flatMap AV.cells) xs'.toList Ov:=by
     grind [List.flatMap_map]
    have hcl:(vs.flatMap AV.cells).length=vs.length:=by grind [RVs.length]
    have hn:=s'.fresh st.hs.next (Nat.le_refl _)
    have hO:∀ b,w.heap.size≤b→O b=0:=by
     intro b hb;by_cases h:O b=0
     ·exact h
     ·have:=s.hi b h;omega
    have hx0:aI g w (g.add st.hs.next w.heap.size 0 1 (vs.flatMap AV.cells).length) (w.alloc (.cells xs' el)) (fun _=>False):=(aI.alloc s.pmlt _ _).add hn _ _ _ _;have r:fK P (g.add st.hs.next w.heap.size 0 1 (vs.flatMap AV.cells).length) (w.alloc (.cells xs' el)) st.hs.next (.cells (vs.flatMap AV.cells)) (fun x=>Ov x+one w.heap.size x):=by
     refine⟨w.heap.size,xs',el,Ov,by simp[Gh.add],by simp[Gh.add],by simp[Gh.add],by simp[Gh.add],fy _ _,RVs.ext hx0 _ _ _ rvx (by simp),fun o ho=>?_,fun _=>rfl⟩;have:=s.pmlt _ o ho;omega
    have key:∀ b,Ov b+one w.heap.size b+O' b≤1:=by
     intro b;by_cases hb:b=w.heap.size
     ·have:=l w.heap.size;simp_all
     ·have:=s.le b;grind [one]
    obtain⟨s2,hx⟩:=s'.new r (fun b=>key b) (fun b hb=>by
     grind [pW])
    refine⟨.slice (some ⟨w.heap.size,0,none⟩) ps.length ps.length,_,_,zero,_,.inl ?_,?_,s2,hx.mono fun b _ hb=>by grind,fun b=>by simp_all,fun b hb=>?_,by simp⟩
    ·have hbig:¬ (ps.length*1 > 2 ^ 24):=by omega
     have hne:¬ (ps.length*1=0):=by omega
     have hzv:=nV (P:=P) (w:=w) hi hz;simp only[execOp,Instr.buildSlice,Sem.run_bind,ar hu,Result.andThen_ok,cm hsz,hne,if_false,Sem.run_pure,Sem.run_ite,hbig,hzv]
     simp_all [newRow]
    ·simp_all [RV,Gh.add]
    grind [one]
   simp_all
  simp_all
 simp_all
theorem ai3 {n:Nat}{x:Rd}{lo hi mx:Option Rd}(s:S P g w st t O) (h:Kb n x lo hi mx st=some (a,st')) (hc:aE P (.slarr n x lo hi mx) o.op=true) :
  cO P g w t O st' a ((execOp (ev t) o).run P w):=by
 obtain⟨dst,op,ty,pos,aft,gd⟩:=o;simp only[aE]at hc;split at hc
 ·rename_i ty' y l' h' k';simp only[Bool.and_eq_true]at hc;obtain⟨⟨⟨⟨h1,h2⟩,h3⟩,h4⟩,h5⟩:=hc;have hty:∃ el,P.underlying ty'=some (.array n el)∧pX P el 1=true:=by
   grind [Kf,Nat.beq_eq]
  obtain⟨el,hu,hsz⟩:=hty;unfold Kb at h;split at h
  ·rename_i id off e1 r1;obtain⟨Ov,O1,rv,s1,l1⟩:=s.rd h2 r1;split at h
   ·rename_i vl e2 r2;obtain⟨O2,q2,s2,l2⟩:=s1.rdOpt h3 r2;split at h
    ·rename_i vh e3 r3;obtain⟨O3,q3,s3,l3⟩:=s2.rdOpt h4 r3;split at h
     ·rename_i vm e4 r4;obtain⟨O4,q4,s4,l4⟩:=s3.rdOpt h5 r4;split at h
      ·rename_i r hr;simp only[Option.some.injEq,Prod.mk.injEq]at h;obtain⟨rfl,rfl⟩:=h;have hle:∀ b,Ov b+O4 b≤O b:=fun b=>by grind
       unfold J8 at hr;split at hr
       ·rename_i cs hg;split at hr
        ·rename_i hle2;split at hr
         ·rename_i l hh mm hb;simp only[Option.some.injEq]at hr;subst hr;have hb1:=Nat.le_of_ble_eq_true hle2;obtain⟨Oe,Oh,re,rh,ho⟩:=s.parts;obtain⟨Oq,q,_⟩:=RL.get rh hg;obtain⟨b,c,el2,O5,hob,hbase,hesz,hbsz,_⟩:=q;obtain⟨⟨b',hob',hx⟩,_⟩:=rv;rw[hob]at hob';simp only[Option.some.injEq]at hob';subst hob';obtain⟨m',e1,g1,g2,g3,g4⟩:=Pk (P:=P) (w:=w) (b:=false) q2 q3 q4 (Nat.le_refl n) hb;refine .pure s (x:=.slice (some (if m'=l then ⟨b,g.base id+off,none⟩ else (⟨b,g.base id+off,none⟩:Addr).add (l*1))) (hh-l) (m'-l)) (Oa:=zero) ?_ ?_ s4 fun x=>by simp_all
          ·simp only[execOp,Sem.run_bind,Instr.sliceAt,ar hu,Result.andThen_ok,hx,Instr.sureAddr,Sem.run_pure,e1,cm hsz]
          ·simp only[RV];refine⟨?_,fun _=>trivial⟩;by_cases hml:m'=l
           ·simp_all
           ·refine .inr ⟨b,m'-l,hob,?_,by omega,?_⟩
            all_goals grind [gU]
         simp_all
        simp_all
       simp_all
      simp_all
     simp_all
    simp_all
   simp_all
  simp_all
 simp_all
end
section
variable {P:Program}{g:Gh}{w:World}{t:Array Value}{O:Nat→Nat}{st st':St}{a:AV}{o:Oper}
theorem ai0:(Extern.findNext { (default:Func) with name := "internal/bytealg.IndexByte",origin := "" }).isNone=true:=by kernel_rfl
theorem akC {fn:Func}(h1:fn.name = "internal/bytealg.IndexByte") (h2:fn.origin = ""):Extern.findNext fn=none:=by
 have h:=ai0;unfold Extern.findNext at h⊢;have e:(List.lookup "internal/bytealg.IndexByte" Extern.allNextRows)=none:=by
  cases e:(List.lookup "internal/bytealg.IndexByte" Extern.allNextRows)<;>simp_all
 have e2:(List.lookup "" Extern.allNextRows)=none:=by
  cases e2:(List.lookup "" Extern.allNextRows)<;>simp_all
 grind
theorem ajR {fn:Func}(h1:fn.name = "internal/bytealg.IndexByte"):Extern.find fn=some Extern.BytealgIndexByte.indexByte:=by
 unfold Extern.find;have e1:(List.lookup "internal/bytealg.IndexByte" Extern.allGenericRows).isNone=true:=by kernel_rfl
 have e2:(List.lookup "internal/bytealg.IndexByte" Extern.allTypedRows).isNone=true:=by kernel_rfl
 have e3:List.lookup "internal/bytealg.IndexByte" Extern.allRows=some Extern.BytealgIndexByte.indexByte:=by kernel_rfl
 grind [Option.isNone_iff_eq_none]
theorem YG:∀ (l:List UInt8) (c:UInt8) (i:Nat),xF l c.toNat i=if Lib.indexByte l c == -1 then -1 else Lib.indexByte l c+i
 | [],c,i=>by simp[xF,Lib.indexByte]
 | b::l,c,i=>by
  have hp:Lib.indexByte l c=-1∨0≤Lib.indexByte l c:=by
   induction l<;>grind [Lib.indexByte]
  simp only[xF,Lib.indexByte];by_cases h:b=c
  ·simp_all
  ·have hn:Nat.beq b.toNat c.toNat=false:=by
    grind [Nat.beq_eq,UInt8.toNat_inj]
   rw[YG l c (i+1)]
   grind
theorem Vl (ad:Addr) (cap:Nat) (ns:List Nat) (cv:Int) (hc:∀ j u,(ns.map fun(n:Nat)=>Value.int .u8 (n:Int))[j]?=some u→w.cell? (ad.add j)=some u) :
  (Extern.BytealgIndexByte.indexByte #[.slice (some ad) ns.length cap,.int .u8 cv]).run P w=.ok (.int .i64 (Lib.indexByte (Lib.bytesOf (ns.map fun(n:Nat)=>(n:Int))) cv.toNat.toUInt8)) w:=by
 generalize hxs:ns.map (fun(n:Nat)=>(n:Int))=xs;have hl:=Lib.run_loadBytesX (P:=P) w xs ad .empty (fun j x hj=>hc j _ (by
  grind))
 have hs:=Lib.run_indexByteString (P:=P) ⟨(Lib.bytesOf xs).toArray⟩ cv w;have he:(⟨ByteArray.empty.data++(Lib.bytesOf xs).toArray⟩:ByteArray)=⟨(Lib.bytesOf xs).toArray⟩:=by
  simp_all
 change Sem.run P (do
  let b←Extern.Bytes.bytesOf (.slice (some ad) ns.length cap)
  let c←Extern.Bytes.asByte (.int .u8 cv)
  match (List.range b.size).find? fun i=>b[i]! == c with
  | some i=>pure (goInt i)
  | none=>pure (goInt (-1))) w=_
 change Sem.run P (do
  let b←Extern.Bytes.bytesOf (.string ⟨(Lib.bytesOf xs).toArray⟩)
  let c←Extern.Bytes.asByte (.int .u8 cv)
  match (List.range b.size).find? fun i=>b[i]! == c with
  | some i=>pure (goInt i)
  | none=>pure (goInt (-1))) w=_ at hs
 grind [Extern.Bytes.bytesOf,Sem.run_bind,Result.andThen]
theorem an1 {x c:Rd}(s:S P g w st t O) (h:XL x c st=some (a,st')) (hc:aE P (.idxb x c) o.op=true) :
  cO P g w t O st' a ((execOp (ev t) o).run P w):=by
 obtain⟨dst,op,ty,pos,aft,gd⟩:=o;simp only[aE]at hc;split at hc
 ·rename_i k;obtain⟨callee,as,ats⟩:=k;simp only[Bool.and_eq_true]at hc;obtain⟨h1,h2⟩:=hc;split at h1
  ·rename_i f hf;have hcal:callee=.value (.func f):=by
    unfold tC at hf
    grind
   subst hcal;unfold agi at h1;split at h1
   ·rename_i fn hfn;simp only[Bool.and_eq_true,beq_iff_eq]at h1;obtain⟨⟨hn1,hn2⟩,hn3⟩:=h1;obtain⟨x',c',has,hx,hcc⟩:∃ x' c',as.toList=[x',c']∧be x x'=true∧be c c'=true:=by
     revert h2
     cases as.toList with
     | nil=>grind [b6]
     | cons x' l=>cases l<;>grind [b6]
    have has':as=#[x',c']:=Array.ext' has;obtain⟨va,vb,e,Oa,Ob,O',ra,rb,s',l,hk⟩:=JE s hx hcc h;split at hk
    ·rename_i r hr;obtain⟨rfl,rfl⟩:=hk;unfold Tk at hr;split at hr
     ·rename_i n;split at hr
      ·rename_i xs hxs;split at hr
       ·rename_i q hq;simp only[Option.some.injEq]at hr;subst hr;unfold indexByte at hq;split at hq
        ·rename_i b hb;simp only[Option.some.injEq]at hq;subst hq;obtain⟨ns,rfl,rfl⟩:=BH hb;have hl1:∀ e∈ns.map (fun(n:Nat)=>[D.int .u8 (Int.ofNat n)]),e.length=1:=by
          simp_all
         obtain⟨ad,cap,news,hxv,hels⟩:=t9 (st:=⟨e,st.hs⟩) s' hxs hl1 ra;have hcv:=r5 rb rfl;have hargs:#[ev t x',ev t c']=#[Value.slice ad (ns.map (fun(n:Nat)=>[D.int .u8 (Int.ofNat n)])).length cap,.int .u8 n]:=by simp_all
         have hres:xF (ns.map Nat.toUInt8) (n.toNat % 256) 0=Lib.indexByte (Lib.bytesOf (ns.map fun(n:Nat)=>(n:Int))) n.toNat.toUInt8:=by
          have h1:n.toNat % 256=(n.toNat.toUInt8).toNat:=by simp
          rw[h1,YG];have h2:Lib.bytesOf (ns.map fun(n:Nat)=>(n:Int))=ns.map Nat.toUInt8:=by
           simp[Lib.bytesOf]
          grind
         have hrun:(Extern.BytealgIndexByte.indexByte #[ev t x',ev t c']).run P w=.ok (.int .i64 (xF (ns.map Nat.toUInt8) (n.toNat % 256) 0)) w:=by
          rw[hargs,hres]
          cases ad with
          | none =>
           have h0:=hels.nn rfl;have:ns=[]:=List.eq_nil_of_length_eq_zero (by simp_all);subst this;exact Lib.run_indexByteNil w _ _ _
          | some ad =>
           have hnews:news=ns.map fun(n:Nat)=>Value.int .u8 (n:Int):=by
            apply List.ext_getElem?;intro j;rcases Nat.lt_or_ge j ns.length with hj | hj
            ·have hd:(ns.map (fun(n:Nat)=>[D.int .u8 (Int.ofNat n)])).flatten[j]?=some (D.int .u8 (Int.ofNat ns[j])):=by grind [RT]
             obtain⟨u,hu,hr⟩:=hels.rd j _ hd
             cases hr
             simp_all
            grind [uI.len]
           grind [Vl,uI.cell]
         refine .flat s (x:=.int .i64 (xF (ns.map Nat.toUInt8) (n.toNat % 256) 0)) ?_ (by simp only[RV];exact⟨.int _ _,fun _=>trivial⟩) s' fun b=>by grind
         simp only[execOp,resolve,Sem.run_bind,ev,Deferred.ofValue,Sem.run_pure,Result.andThen_ok,invoke]
         simp_all [run_callFunc_extern,akC,ajR]
        simp_all
       simp_all
      simp_all
     simp_all
    simp_all
   simp_all
  simp_all
 simp_all
end
abbrev FR (ro:Option Nat):Fence:={ Fence.wide with round:=ro }
theorem Tb (ro:Option Nat) (n:Nat):(FR ro).room n:=fun _ h=>by grind [Fence.wide]
theorem GJ {ro:Option Nat}{n:Nat}{P:Program}{f:FuncId}{args:Array Value}{w:World}{R:Ending→World→Prop}(h:CallsIn (FR none) n P f args w R):CallsIn (FR ro) n P f args w R:=h
section
variable {P:Program}{g:Gh}{w:World}{t:Array Value}{O:Nat→Nat}{st st':St}{a:AV}{o:Oper}
structure vQ (P:Program) (g:Gh) (w:World) (t:Array Value) (O:Nat→Nat) (st':St) (a:AV) (x:Value) (w':World) (g':Gh) (Oa O':Nat→Nat):Prop where
 val:RV g' w' a x Oa
 st:S P g' w' st' t O'
 ext:aI g w g' w' fun b=>O b≠0
 le:∀ b,Oa b+O' b≤1
 old:∀ b,b<w.heap.size→Oa b+O' b≤O b
 hi:∀ b,Oa b≠0→b<w'.heap.size
def OpW (ro:Option Nat) (P:Program) (g:Gh) (w:World) (t:Array Value) (O:Nat→Nat) (st':St) (a:AV) (o:Oper):Prop :=
 ∀ (ds:List Deferred) (next:Act→World→Prop) (Q:Exit→Act→World→Prop),(∀ x w' g' Oa O',vQ P g w t O st' a x w' g' Oa O'→next (Act.put ⟨t,ds⟩ o.dst x) w')→
  o.uponIn (FR ro) 0 P ⟨t,ds⟩ next Q ((execOp (ev t) o).run P w)
theorem cO.opW {ro:Option Nat}(h:cO P g w t O st' a ((execOp (ev t) o).run P w)):OpW ro P g w t O st' a o:=by
 obtain⟨x,w',g',Oa,O',k⟩:=h;intro ds next Q hn
 have hx:=hn x w' g' Oa O' ⟨k.val,k.st,k.ext,k.le,k.old,k.hi⟩;rcases k.run with hr | ⟨hr,rfl⟩
 ·rw[hr];exact hx
 ·rw[hr];exact hx
abbrev pD (t:Array Value) (dst:Option Nat) (x:Value):Array Value:=(Act.put ⟨t,[]⟩ dst x).tmps
theorem Rn (t:Array Value) (ds:List Deferred) (dst:Option Nat) (x:Value):Act.put ⟨t,ds⟩ dst x=⟨pD t dst x,ds⟩:=by cases dst<;>rfl
theorem kH (t:Array Value) (dst:Option Nat) (x:Value):(pD t dst x).size=t.size:=by cases dst<;>simp[pD,Act.put]
structure dB (P:Program) (g:Gh) (w:World) (t:Array Value) (O:Nat→Nat) (st':St) (t':Array Value) (w':World) (g':Gh) (O':Nat→Nat):Prop where
 st:S P g' w' st' t' O'
 ext:aI g w g' w' fun b=>O b≠0
 old:∀ b,b<w.heap.size→O' b≤O b
 size:t'.size=t.size
theorem dB.refl (s:S P g w st t O):dB P g w t O st t w g O:=⟨s,.refl _ _ _,fun _ _=>Nat.le_refl _,rfl⟩
theorem dB.trans {t1 t2:Array Value}{w1 w2:World}{g1 g2:Gh}{O1 O2:Nat→Nat}{st1 st2:St}(h1:dB P g w t O st1 t1 w1 g1 O1) (h2:dB P g1 w1 t1 O1 st2 t2 w2 g2 O2) :
  dB P g w t O st2 t2 w2 g2 O2 where
 st:=h2.st
 ext:=h1.ext.trans h2.ext fun b hb h=>by grind [old]
 old b hb:=Nat.le_trans (h2.old b (Nat.lt_of_lt_of_le hb h1.ext.size)) (h1.old b hb)
 size:=h2.size.trans h1.size
theorem ZB {st1:St}{x:Value}{w':World}{g1:Gh}{Oa O1:Nat→Nat}(k:vQ P g w t O st1 a x w' g1 Oa O1) {dst:Option Nat}(hd:∀ d,dst=some d→d<t.size) (th:List (Nat×Nat)) :
  ∃ g' O',dB P g w t O (bf dst (firm (bS th a st1.hs).1) ⟨st1.env,(bS th a st1.hs).2⟩) (pD t dst x) w' g' O':=by
 obtain⟨g2,Ov2,O2,r2,s2,x2,l2⟩:=D8 (P:=P) (t:=t) th (env:=st1.env) (hs:=st1.hs) k.st k.val k.le k.hi;have hle2:∀ b,Ov2 b+O2 b≤1:=fun b=>Nat.le_trans (l2 b) (k.le b)
 obtain⟨g3,r3,s3,x3⟩:=XF s2 r2 hle2;have hext:aI g w g3 w' fun b=>O b≠0:=(k.ext.trans x2 (fun _ _ h=>h.elim)).trans x3 fun b hb h=>by grind [vQ.old]
 cases dst with
 | none=>exact⟨g3,O2,s3,hext,fun b hb=>by grind [vQ.old],rfl⟩
 | some d =>
  obtain⟨O4,s4,l4⟩:=s3.setTmp (hd d rfl) r3 hle2 fun b hb=>by
   by_cases h:Oa b=0
   ·exact k.st.hi b (by grind)
   ·exact k.hi b h
  exact⟨g3,O4,s4,hext,fun b hb=>by grind [vQ.old],kH _ _ _⟩
theorem S.split (s:S P g w st t O):∃ Oe Oh,gg g w st.env t Oe∧S P g w ⟨[],st.hs⟩ #[] Oh∧∀ b,O b=Oe b+Oh b:=by
 obtain⟨Oe,Oh,re,rh,ho⟩:=s.parts;exact⟨Oe,Oh,re,⟨List.Pairwise.nil,s.sh,⟨zero,Oh,fun _=>rfl,rh,fun b=>by simp⟩,fun b=>by have:=s.le b;grind,fun b hb=>s.hi b (by simp_all),s.fresh,s.pmlt⟩,ho⟩
theorem S.join {e:aq}{hs:HS}{Oe Oh:Nat→Nat}(he:bj e) (re:gg g w e t Oe) (s:S P g w ⟨[],hs⟩ #[] Oh) (hle:∀ b,Oe b+Oh b≤1) (hhi:∀ b,Oe b≠0→b<w.heap.size) :
  S P g w ⟨e,hs⟩ t fun b=>Oe b+Oh b:=by
 obtain⟨O0,Oh',r0,rh,ho⟩:=s.parts;have h0:∀ b,Oh b=Oh' b:=fun b=>by have:=ho b;have:O0 b=0:=r0 b;omega
 exact⟨he,s.sh,⟨Oe,Oh',re,rh,fun b=>by simp_all⟩,hle,fun b hb=>by
  grind [hi],s.fresh,s.pmlt⟩
theorem AC (t:Array Value) (ds:List Deferred):(⟨t,ds⟩:Act).eval=ev t:=by
 funext x;cases x<;>rfl
theorem FI {ro:Option Nat}(t:Array Value) (ds:List Deferred) (h:∀ c,o.op≠.defer c):o.semAt ro (⟨t,ds⟩:Act).eval=execOp (ev t) o:=by
 grind [Oper.semAt_eq,AC]
end
section
variable {P:Program}{g:Gh}{w:World}{t:Array Value}{O:Nat→Nat}{st st':St}{o:Oper}{ops:Array Oper}
theorem ahc (s:S P g w st t O) {gd:Option (Nat×Bool)}(hg:wX ops gd o.guard=true) :
  (gd=none→Region.wanted o (yielded ops t)=true)∧
  ∀ sl want,gd=some (sl,want)→(∀ b,get st.env sl=some (.d (.bool b))→Region.wanted o (yielded ops t)=(b == want))∧(get st.env sl=some (.tup [])→Region.wanted o (yielded ops t)=false):=by
 cases gd with
 | none =>
  grind [Region.wanted,wX]
 | some p =>
  obtain⟨sl,want⟩:=p
  cases hog:o.guard with
  | none=>grind [wX]
  | some q =>
   rw[hog]at hg;simp only[wX,Bool.and_eq_true,beq_iff_eq]at hg;obtain⟨rfl,h2⟩:=hg;refine⟨fun h=>by simp at h,fun sl' want' h=>?_⟩;obtain⟨rfl,rfl⟩:=h;obtain⟨Oe,Oh,re,rh,ho⟩:=s.parts;split at h2
   ·split at h2
    ·rename_i d hd;rw[Nat.beq_eq]at h2;subst h2;refine⟨fun b hb=>?_,fun hb=>?_⟩
     ·obtain⟨O1,⟨hlt,q⟩,_⟩:=RL.get re hb;have hv:t.getD d undef=.bool b:=tG q rfl
      simp_all [Region.wanted,yielded]
     ·obtain⟨O1,⟨hlt,q⟩,_⟩:=RL.get re hb;obtain⟨xs,hv,hxs,_⟩:=q
      simp_all [Region.wanted,yielded]
    simp_all
   simp_all
end
def dA (P:Program) (g:Gh) (w:World) (O:Nat→Nat) (v:AV) (hs':HS):Ending→World→Prop
 | .returned x,w'=>∃ g' Or Oh,RV g' w' v x Or∧S P g' w' ⟨[],hs'⟩ #[] Oh∧aI g w g' w' (fun b=>O b≠0)∧(∀ b,Or b+Oh b≤1)∧(∀ b,b<w.heap.size→Or b+Oh b≤O b)∧
   ∀ b,Or b≠0→b<w'.heap.size
 | _,_=>False
def afR (P:Program) (f:FuncId):Prop:=∃ fn,P.funcs[f]?=some fn∧fn.body.isSome=true∧fn.name≠ "runtime.NumGoroutine"
def d8 (P:Program) (r:bI):Prop :=
 ∀ {f:FuncId}{args:List AV}{hs:HS}{v:AV}{hs':HS},r.call f args hs=some (v,hs')→afR P f∧
  ∀ {g:Gh}{w:World}{xs:List Value}{Oa Oh:Nat→Nat},RVs g w args xs Oa→S P g w ⟨[],hs⟩ #[] Oh→(∀ b,Oa b+Oh b≤1)→(∀ b,Oa b≠0→b<w.heap.size)→
   CallsIn (FR none) 0 P f xs.toArray w (dA P g w (fun b=>Oa b+Oh b) v hs')
section
variable {P:Program}{g:Gh}{w:World}{t:Array Value}{O:Nat→Nat}{st st':St}{a:AV}{o:Oper}{r:bI}
theorem Al {e:aq}{hs hs':HS}{Ov Oe Oh:Nat→Nat}{x:Value}{w':World}{v:AV}(he:bj e) (re:gg g w e t Oe) (hle:∀ b,Ov b+(Oe b+Oh b)≤O b) (s0:S P g w st t O)
  (h:dA P g w (fun b=>Ov b+Oh b) v hs' (.returned x) w'):∃ g' Oa O',vQ P g w t O ⟨e,hs'⟩ v x w' g' Oa O':=by
 obtain⟨g',Or,Oh',h1,h2,h3,h4,h5,h6⟩:=h;have hle1:∀ b,Ov b+(Oe b+Oh b)≤1:=fun b=>Nat.le_trans (hle b) (s0.le b)
 have re':=gg.ext h3 re fun b hb h=>by grind
 have hoe:∀ b,¬ b<w.heap.size→Oe b=0:=fun b hb=>by
  grind [S.hi]
 have hsum:∀ b,Or b+(Oe b+Oh' b)≤1:=fun b=>by
  grind
 have s':=S.join he re' h2 (fun b=>by grind) fun b hb=>Nat.lt_of_lt_of_le (s0.hi b (by grind)) h3.size
 refine⟨g',Or,_,h1,s',h3.mono fun b _ hb=>by grind,hsum,fun b hb=>?_,h6⟩
 grind
theorem Mq {ro:Option Nat}{f:FuncId}{args:Array Value}{e:aq}{hs hs':HS}{Ov Oe Oh:Nat→Nat}{v:AV}(he:bj e) (re:gg g w e t Oe) (hle:∀ b,Ov b+(Oe b+Oh b)≤O b) (s0:S P g w st t O)
  (hrun:(execOp (ev t) o).run P w=.ok (.enter f args) w) (hk:CallsIn (FR none) 0 P f args w (dA P g w (fun b=>Ov b+Oh b) v hs')):OpW ro P g w t O ⟨e,hs'⟩ v o:=by
 intro ds next Q hn
 rw[hrun,Oper.uponIn_enter];refine⟨fun h=>by grind [Fence.wide],GJ (hk.mono fun en w' hp=>?_)⟩
 cases en with
 | returned x =>
  obtain⟨g',Oa,O',k⟩:=Al (hs:=hs) he re hle s0 hp
  grind
 | panicked c=>exact hp.elim
 | outgrown=>exact hp.elim
theorem pQ {f:FuncId}(h:afR P f) (args:Array Value):(callFunc f args).run P w=.ok (.enter f args) w:=by
 obtain⟨fn,h1,h2,h3⟩:=h;have h2':¬ fn.body=none:=by grind
 simp_all [callFunc]
theorem Dp {c:Callee}{f:FuncId}(h:(match tC c with | some g=>Nat.beq f g | none=>false)=true):c=.value (.func f):=by
 split at h
 ·rename_i g hg;rw[Nat.beq_eq]at h;unfold tC at hg
  grind
 simp_all
theorem ajz {ro:Option Nat}{f:FuncId}{args:List Rd}(hr:d8 P r) (s:S P g w st t O) (h:wP r f args st=some (a,st')) (hc:aE P (.calli f args) o.op=true) :
  OpW ro P g w t O st' a o:=by
 obtain⟨dst,op,ty,pos,aft,gd⟩:=o;simp only[aE]at hc;split at hc
 ·rename_i c;simp only[Bool.and_eq_true]at hc;obtain⟨h1,h2⟩:=hc;obtain⟨callee,as,ats⟩:=c;have:=Dp h1;subst this;unfold wP at h;split at h
  ·rename_i vs e hrd;split at h
   ·rename_i v hs' hcall;obtain⟨rfl,rfl⟩:=h;obtain⟨Ov,O',rvs,s',l⟩:=s.rdAll h2 hrd;obtain⟨Oe,Oh,re,sh,ho⟩:=s'.split;obtain⟨hfn,hk⟩:=hr hcall;have hle:∀ b,Ov b+(Oe b+Oh b)≤O b:=fun b=>by simp_all
    have hk:=hk rvs sh (fun b=>by have:=hle b;have:=s.le b;omega) (fun b hb=>s.hi b (by grind));refine Mq (hs:=st.hs) s'.se re hle s ?_ hk;simp only[execOp,resolve,Sem.run_bind,ev,Deferred.ofValue,Sem.run_pure,Result.andThen_ok,invoke];rw[pQ hfn]
    congr 2
    grind
   simp_all
  simp_all
 simp_all
end
section
variable {P:Program}{g:Gh}{w:World}{t:Array Value}{O:Nat→Nat}{st st':St}{a:AV}{o:Oper}{r:bI}
theorem RD.mono {pm pm':Nat→Nat→Prop}(h:∀ b o,pm b o→pm' b o) {c:D}{x:Value}(r:RD w pm c x):RD w pm' c x:=by
 induction r with
 | int k n=>exact .int k n
 | bool b=>exact .bool b
 | str s=>exact .str s
 | nil a cap=>exact .nil a cap
 | lst xs b off m cap u hm hcap hl hc hr ih=>exact .lst xs b off m cap u hm hcap hl (fun j c hj=>⟨(hc j c hj).1,h _ _ (hc j c hj).2⟩) (fun j c hj=>ih j c hj)
theorem eu.mono {pm pm':Nat→Nat→Prop}(h:∀ b o,pm b o→pm' b o) {cs:List D}{b off:Nat}(r:eu w pm cs b off):eu w pm' cs b off:=fun j c hj=>by
 obtain⟨u,hu,hr⟩:=r j c hj
 grind [RD.mono]
theorem RD.flat {pm pm':Nat→Nat→Prop}{c:D}{x:Value}(hf:gD c=true) (r:RD w pm c x):RD w pm' c x:=by
 cases r with
 | int k n=>exact .int k n
 | bool b=>exact .bool b
 | str s=>exact .str s
 | nil a cap=>exact .nil a cap
 | lst xs=>simp[gD]at hf
def Gh.view (g:Gh) (w:World) (K:Nat→Prop):Gh where
 obj _:=none
 base _:=0
 esz _:=0
 bsz _:=0
 pm b o:=g.pm b o∨(K b∧b<w.heap.size)
theorem aq5 (s:S P g w st t O) (K:Nat→Prop):S P (g.view w K) w ⟨[],⟨[],0⟩⟩ #[] zero :=
 ⟨List.Pairwise.nil,List.Pairwise.nil,⟨zero,zero,fun _=>rfl,fun _=>rfl,fun _=>rfl⟩,fun _=>by simp,fun b hb=>by simp at hb,fun _ _=>rfl,fun b o h=>h.elim (s.pmlt b o) fun h=>h.2⟩
theorem MQ (s:S P g w st t O) {K:Nat→Prop}{v d:AV}{x:Value}{Ov:Nat→Nat}(h:viewOne st.hs.heap v=some d) (hK:oA v=true→∀ b,O b≠0→K b) (rv:RV g w v x Ov) :
  RV (g.view w K) w d x zero:=by
 have hm:∀ b o,g.pm b o→(g.view w K).pm b o:=fun b o h=>.inl h
 cases v<;>simp only[viewOne,reduceCtorEq]at h
 ·grind [RV,RD.mono]
 ·grind [RV]
 ·rename_i p m xs
  cases p
  ·have:=RV.share _ _ _ rv
   grind [share,RV,RD.mono]
  simp_all
 ·rename_i id off len;split at h
  ·rename_i xs hx;simp only[Option.some.injEq]at h;subst h;simp only[elems]at hx;split at hx
   ·rename_i zs hzs;split at hx
    ·rename_i hb;rw[Nat.ble_eq]at hb;simp only[Option.some.injEq]at hx;subst hx;have hsl:(Vm.sub zs off len).length=len:=fN hb;simp only[RV]at rv⊢;refine⟨?_,fun _=>trivial⟩;rcases rv.1 with ⟨rfl,ad,rfl⟩ | ⟨b,cap,hob,rfl,hlc,hcap⟩
     ·exact .nil _ _
     ·obtain⟨Oe,Oh,re,rh,ho⟩:=s.parts;have key:∀ (m:Nat),0<m→g.esz id=m→(∀ e∈zs,e.length=m)→eu w g.pm zs.flatten b (g.base id)→O b≠0→RD w (g.view w K).pm (.lst (Vm.sub zs off len)) (.slice (some ⟨b,g.base id+off*g.esz id,none⟩) len cap):=by
       intro m hm0 hes hl hc hO;have hsubl:=AK hl off len;have:=eu.rd (w:=w) (pm:=(g.view w K).pm) (xs:=Vm.sub zs off len) (b:=b) (off:=g.base id+off*g.esz id) (cap:=cap) hm0 (by omega) hsubl (by
        rw[jF hl,hes];exact(hc.sub _ _).mono hm) (fun j _=>.inr ⟨hK rfl b hO,s.hi b hO⟩)
       simp_all
      unfold objElems at hzs;split at hzs
      ·rename_i m' ys hg;obtain⟨O1,q,hO1⟩:=RL.get rh hg;rcases q with ⟨rfl,_⟩ | ⟨b',c,el,g1,g2,g3,g4,g5,g6,g7,g8,g9,g10⟩
       ·have h0:len=0:=by simp_all
        subst h0;exact .nil _ _
       grind [tq]
      ·rename_i cs hg;split at hzs
       ·rename_i ds hds;simp only[Option.some.injEq]at hzs;subst hzs;obtain⟨O1,q,hO1⟩:=RL.get rh hg;obtain⟨b',c,el,O2,g1,g2,g3,g4,g5,g6,g7,g8⟩:=q;obtain⟨h1,h2,h3⟩:=GZ hds g6;refine key 1 (by omega) g3 (ZD ds) ?_ (by grind [tq]);rw[JQ,g2];intro j d hj
        grind [dI]
       simp_all
      simp_all
    simp_all
   simp_all
  simp_all
theorem MC (s:S P g w st t O) {K:Nat→Prop}:∀ {vs ds:List AV}{xs:List Value}{Ov:Nat→Nat},viewAll st.hs.heap vs=some ds→(vs.any oA=true→∀ b,O b≠0→K b)→RVs g w vs xs Ov→
  RVs (g.view w K) w ds xs zero
 | [],ds,xs,Ov,h,hK,rv=>by
  grind [viewAll,RVs]
 | v::vs,ds,xs,Ov,h,hK,rv=>by
  simp only[viewAll]at h;split at h
  ·simp at h
  ·rename_i d hd;split at h
   ·simp at h
   ·rename_i ds' hds;simp only[Option.some.injEq]at h;subst h;obtain⟨x,ys,O1,O2,rfl,r1,r2,hs⟩:=rv;exact⟨x,ys,zero,zero,rfl,MQ s hd (fun h=>hK (by simp[h])) r1,MC s hds (fun h=>hK (by simp_all)) r2,fun _=>rfl⟩
theorem aa8 (s:S P g w st t O) {K:Nat→Prop}{v d:AV}{x:Value}{Ov:Nat→Nat}(h:viewArg st.hs.heap v=some d) (hK:lM v=true→∀ b,O b≠0→K b) (rv:RV g w v x Ov) :
  RV (g.view w K) w d x zero:=by
 cases v<;>simp only[viewArg]at h<;>try exact MQ s h (fun hh=>hK hh) rv
 split at h
 ·rename_i xs hx;simp only[Option.some.injEq]at h;subst h;obtain⟨ys,e,r⟩:=rv;exact⟨ys,e,MC s hx (fun hh=>hK hh) r⟩
 simp_all
theorem I9 (s:S P g w st t O) {K:Nat→Prop}:∀ {vs ds:List AV}{xs:List Value}{Ov:Nat→Nat},viewArgs st.hs.heap vs=some ds→(vs.any lM=true→∀ b,O b≠0→K b)→RVs g w vs xs Ov→
  RVs (g.view w K) w ds xs zero
 | [],ds,xs,Ov,h,hK,rv=>by
  grind [viewArgs,RVs]
 | v::vs,ds,xs,Ov,h,hK,rv=>by
  simp only[viewArgs]at h;split at h
  ·simp at h
  ·rename_i d hd;split at h
   ·simp at h
   ·rename_i ds' hds;simp only[Option.some.injEq]at h;subst h;obtain⟨x,ys,O1,O2,rfl,r1,r2,hs⟩:=rv;exact⟨x,ys,zero,zero,rfl,aa8 s hd (fun h=>hK (by simp[h])) r1,I9 s hds (fun h=>hK (by simp_all)) r2,fun _=>rfl⟩
end
section
variable {P:Program}{g:Gh}{w:World}{t:Array Value}{O:Nat→Nat}{st st':St}{a:AV}{o:Oper}{r:bI}
def kQ:AV→Bool
 | .d _ | .nl | .own _ _ _=>true
 | _=>false
def l9:AV→Bool
 | .agg cs=>cs.all kQ
 | v=>kQ v
def Bs:AV→Bool
 | .tup vs=>vs.all l9
 | v=>l9 v
def Qb (P:Program) (g:Gh) (w:World) (O:Nat→Nat) (n:Nat) (x:Value) (Ov:Nat→Nat) (r:AV×af):Prop :=
 ∃ Ov' O',RV g w r.1 x Ov'∧S P g w ⟨[],⟨r.2,n⟩⟩ #[] O'∧∀ b,Ov' b+O' b≤Ov b+O b
def apz (P:Program) (g:Gh) (w:World) (O:Nat→Nat) (n:Nat) (xs:List Value) (Ov:Nat→Nat) (r:List AV×af):Prop :=
 ∃ Ov' O',RVs g w r.1 xs Ov'∧S P g w ⟨[],⟨r.2,n⟩⟩ #[] O'∧∀ b,Ov' b+O' b≤Ov b+O b
theorem Qu {h:af}{n:Nat}(s:S P g w ⟨[],⟨h,n⟩⟩ #[] O) {v:AV}{x:Value}{Ov:Nat→Nat}{r:AV×af}(hr:fD h v=some r) (rv:RV g w v x Ov) :
  Qb P g w O n x Ov r∧kQ r.1=true:=by
 have triv:∀ v,RV g w v x Ov→Qb P g w O n x Ov (v,h):=fun v rv=>⟨Ov,O,rv,s,fun _=>Nat.le_refl _⟩
 cases v<;>simp only[fD,reduceCtorEq]at hr
 ·simp only[Option.some.injEq]at hr;subst hr;exact⟨triv _ rv,rfl⟩
 ·simp only[Option.some.injEq]at hr;subst hr;exact⟨triv _ rv,rfl⟩
 ·simp only[Option.some.injEq]at hr;subst hr;exact⟨triv _ rv,rfl⟩
 ·rename_i id off len;split at hr
  ·rename_i m xs hg;split at hr
   ·rename_i hb;rw[Nat.ble_eq]at hb;simp only[Option.some.injEq]at hr;subst hr;refine⟨?_,rfl⟩;obtain⟨Oe,Oh,re,rh,ho⟩:=s.parts;obtain⟨O1,O2,q,r2,hs⟩:=RL.take rh hg;have hle2:∀ b,Oe b+O2 b≤O b:=fun b=>by grind
    have s2:S P g w ⟨[],⟨del h id,n⟩⟩ #[] (fun b=>Oe b+O2 b) :=
     ⟨s.se,s.sh.del id,⟨Oe,O2,re,r2,fun _=>rfl⟩,fun b=>Nat.le_trans (hle2 b) (s.le b),fun b hb=>s.hi b (by grind),s.fresh,s.pmlt⟩
    have hsub:(Vm.sub xs off len).length=len:=fN hb;have emp:len=0→(∃ a,x=.slice a 0 0)→RV g w (.own true m (Vm.sub xs off len)) x zero:=by
     grind [RV,wb]
    rcases rv with ⟨h0,h⟩ | ⟨b,cap,hob,rfl,hlc,hcap⟩
    ·exact⟨zero,_,emp h0 h,s2,fun b=>by simp_all⟩
    ·rcases q with ⟨rfl,g1,g2,g3,_⟩ | ⟨b',c,el,g1,g2,g3,g4,g5,g6,g7,g8,g9,g10⟩
     ·have hl0:len=0:=by simp_all
      have hc0:cap=0:=by
       grind [Nat.mul_eq_zero]
      subst hl0 hc0;exact⟨zero,_,emp rfl ⟨_,rfl⟩,s2,fun b=>by simp_all⟩
     ·rw[hob]at g1;simp only[Option.some.injEq]at g1;subst g1;refine⟨one b,_,?_,s2,fun y=>?_⟩
      ·refine .inr ⟨b,g.base id+off*m,cap,c,el,by simp_all,by omega,g3,AK g7 off len,g4,?_,?_,fun o ho=>absurd ho (g9 o),fun h=>by simp at h,rfl⟩
       ·grind [Nat.add_mul]
       simp_all [jF,eu.sub]
      grind
   simp_all
  simp_all
theorem D6 {n:Nat}{f:af→AV→Option (AV×af)}{fs:af→List AV→Option (List AV×af)}{p:AV→Bool}
  (hf:∀ {h:af}{O:Nat→Nat},S P g w ⟨[],⟨h,n⟩⟩ #[] O→∀ {v:AV}{x:Value}{Ov:Nat→Nat}{r:AV×af},f h v=some r→RV g w v x Ov→Qb P g w O n x Ov r∧p r.1=true)
  (hnil:∀ h,fs h []=some ([],h)) (hcons:∀ h v vs r,fs h (v::vs)=some r→∃ v' h' vs' h'',f h v=some (v',h')∧fs h' vs=some (vs',h'')∧r=(v'::vs',h'')) :
  ∀ {vs:List AV}{h:af}{O:Nat→Nat},S P g w ⟨[],⟨h,n⟩⟩ #[] O→∀ {xs:List Value}{Ov:Nat→Nat}{r:List AV×af},fs h vs=some r→RVs g w vs xs Ov→apz P g w O n xs Ov r∧r.1.all p=true
 | [],h,O,s,xs,Ov,r,hr,rv=>by
  rw[hnil]at hr;simp only[Option.some.injEq]at hr;subst hr;exact⟨⟨Ov,O,rv,s,fun _=>Nat.le_refl _⟩,rfl⟩
 | v::vs,h,O,s,xs,Ov,r,hr,rv=>by
  obtain⟨v',h',vs',h'',e1,e2,rfl⟩:=hcons _ _ _ _ hr;obtain⟨x,ys,O1,O2,rfl,r1,r2,hs⟩:=rv;obtain⟨⟨Ov1,O3,q1,s1,l1⟩,p1⟩:=hf s e1 r1;obtain⟨⟨Ov2,O4,q2,s2,l2⟩,p2⟩:=D6 hf hnil hcons s1 e2 r2;refine⟨⟨fun b=>Ov1 b+Ov2 b,O4,?_,s2,fun b=>by grind⟩,by simp_all⟩
  grind [RVs]
theorem Rh {h:af}{n:Nat}{O:Nat→Nat}(s:S P g w ⟨[],⟨h,n⟩⟩ #[] O) {v:AV}{x:Value}{Ov:Nat→Nat}{r:AV×af}(hr:c5 h v=some r) (rv:RV g w v x Ov) :
  Qb P g w O n x Ov r∧l9 r.1=true:=by
 have base:∀ {v:AV},RV g w v x Ov→fD h v=some r→Qb P g w O n x Ov r∧l9 r.1=true:=fun rv hr=>by
  obtain⟨h1,h2⟩:=Qu s hr rv;refine⟨h1,?_⟩;obtain⟨v',h'⟩:=r
  cases v'<;>first | exact h2 | grind [kQ]
 cases v<;>simp only[c5]at hr<;>try exact base rv hr
 split at hr
 ·rename_i vs' h' hx;simp only[Option.some.injEq]at hr;subst hr;obtain⟨ys,e,rr⟩:=rv;obtain⟨⟨Ov1,O1,q1,s1,l1⟩,p1⟩:=D6 (f:=fD) (fs:=mh) (p:=kQ) Qu (fun _=>rfl) (fun h v vs r hr=>by
   grind [mh]) s hx rr
  exact⟨⟨Ov1,O1,by grind [RV],s1,l1⟩,p1⟩
 simp_all
theorem ad3 {h:af}{n:Nat}(s:S P g w ⟨[],⟨h,n⟩⟩ #[] O) {v r:AV}{x:Value}{Ov:Nat→Nat}(hr:dF h v=some r) (rv:RV g w v x Ov) :
  ∃ u Ov',r=ed u∧RV g w u x Ov'∧(∀ b,Ov' b≤Ov b+O b)∧Bs u=true:=by
 have base:∀ {v:AV},RV g w v x Ov→(match c5 h v with | some (x,_)=>some (ed x) | none=>none)=some r→∃ u Ov',r=ed u∧RV g w u x Ov'∧(∀ b,Ov' b≤Ov b+O b)∧Bs u=true:=fun rv hr=>by
  split at hr
  ·rename_i u h' hu;simp only[Option.some.injEq]at hr;obtain⟨⟨Ov',O',q,_,l⟩,p⟩:=Rh s hu rv;refine⟨u,Ov',hr.symm,q,fun b=>by grind,?_⟩
   cases u<;>first | exact p | grind [l9,kQ]
  simp_all
 cases v<;>simp only[dF]at hr<;>try exact base rv hr
 split at hr
 ·rename_i vs' h' hx;simp only[Option.some.injEq]at hr;obtain⟨ys,e,rr⟩:=rv;obtain⟨⟨Ov1,O1,q1,s1,l1⟩,p1⟩:=D6 (f:=c5) (fs:=mg) (p:=l9) Rh (fun _=>rfl) (fun h v vs r hr=>by
   grind [mg]) s hx rr
  exact⟨.tup vs',Ov1,hr.symm,by grind [RV],fun b=>by grind,p1⟩
 simp_all
theorem FD {g2:Gh}{v:AV}{x:Value}{Ov:Nat→Nat}(hp:kQ v=true) (hf:eK v=true) (rv:RV g w v x Ov) (hn:∀ b,Ov b≠0→∀ o,¬ g2.pm b o):RV g2 w (ji v) x Ov:=by
 cases v<;>simp only[kQ,Bool.false_eq_true]at hp
 ·grind [RV,ji,RD.flat,eK]
 ·grind [RV,ji]
 ·simp only[eK]at hf;rcases rv with h | ⟨b,off,cap,c,el,rfl,hcap,hm,hl,hb,hsz,hrc,hpm,hpp,rfl⟩
  ·exact .inl h
  ·refine .inr ⟨b,off,cap,c,el,rfl,hcap,hm,hl,hb,hsz,fun j d hj=>?_,fun o ho=>absurd ho (hn b (by simp) o),fun h=>by simp at h,rfl⟩;obtain⟨u,hu,hr⟩:=hrc j d hj
   grind [RD.flat]
theorem zD {g2:Gh}{f:AV→AV}{p q:AV→Bool}(hf:∀ {v:AV}{x:Value}{Ov:Nat→Nat},p v=true→q v=true→RV g w v x Ov→(∀ b,Ov b≠0→∀ o,¬ g2.pm b o)→RV g2 w (f v) x Ov) :
  ∀ {vs:List AV}{xs:List Value}{Ov:Nat→Nat},vs.all p=true→vs.all q=true→RVs g w vs xs Ov→(∀ b,Ov b≠0→∀ o,¬ g2.pm b o)→RVs g2 w (vs.map f) xs Ov
 | [],xs,Ov,_,_,rv,_=>by grind [RVs]
 | v::vs,xs,Ov,hp,hq,rv,hn=>by
  simp only[List.all_cons,Bool.and_eq_true]at hp hq;obtain⟨x,ys,O1,O2,rfl,r1,r2,hs⟩:=rv;exact⟨x,ys,O1,O2,rfl,hf hp.1 hq.1 r1 (fun b hb=>hn b (by simp_all)),zD hf hp.2 hq.2 r2 (fun b hb=>hn b (by simp_all)),hs⟩
theorem ag1 (v:AV):(∃ cs,v=.agg cs)∨(kM v=ji v∧l9 v=kQ v∧gK v=eK v):=by
 cases v<;>first | exact .inl ⟨_,rfl⟩ | exact .inr ⟨rfl,rfl,rfl⟩
theorem agE (v:AV):(∃ cs,v=.tup cs)∨(kX v=kM v∧Bs v=l9 v∧fp v=gK v):=by
 cases v<;>first | exact .inl ⟨_,rfl⟩ | exact .inr ⟨rfl,rfl,rfl⟩
theorem QY {g2:Gh}{v:AV}{x:Value}{Ov:Nat→Nat}(hp:l9 v=true) (hf:gK v=true) (rv:RV g w v x Ov) (hn:∀ b,Ov b≠0→∀ o,¬ g2.pm b o):RV g2 w (kM v) x Ov:=by
 rcases ag1 v with ⟨cs,rfl⟩ | ⟨e1,e2,e3⟩
 ·obtain⟨xs,e,rr⟩:=rv;exact⟨xs,e,zD FD hp hf rr hn⟩
 grind [FD]
theorem adv {g2:Gh}{v:AV}{x:Value}{Ov:Nat→Nat}(hp:Bs v=true) (hf:fp v=true) (rv:RV g w v x Ov) (hn:∀ b,Ov b≠0→∀ o,¬ g2.pm b o):RV g2 w (kX v) x Ov:=by
 rcases agE v with ⟨cs,rfl⟩ | ⟨e1,e2,e3⟩
 ·obtain⟨xs,e,rr⟩:=rv;exact⟨xs,e,zD QY hp hf rr hn⟩
 grind [QY]
theorem UK {g2:Gh}{v:AV}{x:Value}{Ov:Nat→Nat}(hp:kQ v=true) (rv:RV g w v x Ov) (hn:∀ b,Ov b≠0→∀ o,¬ g2.pm b o):∃ Ov',RV g2 w (OS v) x Ov'∧∀ b,Ov' b≤Ov b:=by
 unfold OS;split
 ·rename_i hf;exact⟨Ov,FD hp hf rv hn,fun _=>Nat.le_refl _⟩
 ·split
  ·rename_i n hl;refine⟨zero,?_,fun _=>Nat.zero_le _⟩;simp only[RV];refine⟨?_,fun _=>trivial⟩
   cases v with
   | d c =>
    cases c with
    | lst xs =>
     simp only[lenOf,Option.some.injEq]at hl;have rd:=rv.1
     cases rd
     all_goals simp_all
    | _=>simp[lenOf]at hl
   | nl =>
    grind [lenOf,RV]
   | own p m xs =>
    grind [lenOf,RV,wb]
   | _=>grind [kQ]
  ·exact⟨zero,by simp[RV,zero],fun _=>Nat.zero_le _⟩
theorem Ck {g2:Gh}{f:AV→AV}{p:AV→Bool}(hf:∀ {v:AV}{x:Value}{Ov:Nat→Nat},p v=true→RV g w v x Ov→(∀ b,Ov b≠0→∀ o,¬ g2.pm b o)→∃ Ov',RV g2 w (f v) x Ov'∧∀ b,Ov' b≤Ov b) :
  ∀ {vs:List AV}{xs:List Value}{Ov:Nat→Nat},vs.all p=true→RVs g w vs xs Ov→(∀ b,Ov b≠0→∀ o,¬ g2.pm b o)→∃ Ov',RVs g2 w (vs.map f) xs Ov'∧∀ b,Ov' b≤Ov b
 | [],xs,Ov,_,rv,_=>⟨Ov,by grind [RVs],fun _=>Nat.le_refl _⟩
 | v::vs,xs,Ov,hp,rv,hn=>by
  simp only[List.all_cons,Bool.and_eq_true]at hp;obtain⟨x,ys,O1,O2,rfl,r1,r2,hs⟩:=rv;obtain⟨Q1,q1,l1⟩:=hf hp.1 r1 (fun b hb=>hn b (by simp_all));obtain⟨Q2,q2,l2⟩:=Ck hf hp.2 r2 (fun b hb=>hn b (by simp_all));exact⟨fun b=>Q1 b+Q2 b,⟨x,ys,Q1,Q2,rfl,q1,q2,fun _=>rfl⟩,fun b=>by grind⟩
theorem Um {g2:Gh}{v:AV}{x:Value}{Ov:Nat→Nat}(hp:l9 v=true) (rv:RV g w v x Ov) (hn:∀ b,Ov b≠0→∀ o,¬ g2.pm b o):∃ Ov',RV g2 w (GL v) x Ov'∧∀ b,Ov' b≤Ov b:=by
 have other:GL v=OS v→l9 v=kQ v→∃ Ov',RV g2 w (GL v) x Ov'∧∀ b,Ov' b≤Ov b:=fun e1 e2=>by
  rw[e1];rw[e2]at hp;exact UK hp rv hn
 cases v with
 | agg cs =>
  simp only[RV,GL]at rv⊢;obtain⟨xs,e,rr⟩:=rv;obtain⟨Ov',q,l⟩:=Ck UK hp rr hn
  grind
 | _=>exact other rfl rfl
theorem af9 {g2:Gh}{v:AV}{x:Value}{Ov:Nat→Nat}(hp:Bs v=true) (rv:RV g w v x Ov) (hn:∀ b,Ov b≠0→∀ o,¬ g2.pm b o):∃ Ov',RV g2 w (Gy v) x Ov'∧∀ b,Ov' b≤Ov b:=by
 have other:Gy v=GL v→Bs v=l9 v→∃ Ov',RV g2 w (Gy v) x Ov'∧∀ b,Ov' b≤Ov b:=fun e1 e2=>by
  rw[e1];rw[e2]at hp;exact Um hp rv hn
 cases v with
 | tup cs =>
  simp only[RV,Gy]at rv⊢;obtain⟨xs,e,rr⟩:=rv;obtain⟨Ov',q,l⟩:=Ck Um hp rr hn
  grind
 | _=>exact other rfl rfl
theorem PK {g2:Gh}(hpm:g2.pm=g.pm) {v:AV}{x:Value}{Ov:Nat→Nat}(hp:kQ v=true) (rv:RV g w v x Ov):RV g2 w v x Ov:=by
 cases v<;>simp only[kQ,Bool.false_eq_true]at hp
 all_goals simp_all [RV,wb]
theorem zm {g2:Gh}{p:AV→Bool}(hf:∀ {v:AV}{x:Value}{Ov:Nat→Nat},p v=true→RV g w v x Ov→RV g2 w v x Ov) :
  ∀ {vs:List AV}{xs:List Value}{Ov:Nat→Nat},vs.all p=true→RVs g w vs xs Ov→RVs g2 w vs xs Ov
 | [],xs,Ov,_,rv=>by grind [RVs]
 | v::vs,xs,Ov,hp,rv=>by
  simp only[List.all_cons,Bool.and_eq_true]at hp;obtain⟨x,ys,O1,O2,rfl,r1,r2,hs⟩:=rv;exact⟨x,ys,O1,O2,rfl,hf hp.1 r1,zm hf hp.2 r2,hs⟩
theorem QB {g2:Gh}(hpm:g2.pm=g.pm) {v:AV}{x:Value}{Ov:Nat→Nat}(hp:l9 v=true) (rv:RV g w v x Ov):RV g2 w v x Ov:=by
 rcases ag1 v with ⟨cs,rfl⟩ | ⟨e1,e2,e3⟩
 ·obtain⟨xs,e,rr⟩:=rv;exact⟨xs,e,zm (PK hpm) hp rr⟩
 grind [PK]
theorem adH {g2:Gh}(hpm:g2.pm=g.pm) {v:AV}{x:Value}{Ov:Nat→Nat}(hp:Bs v=true) (rv:RV g w v x Ov):RV g2 w v x Ov:=by
 rcases agE v with ⟨cs,rfl⟩ | ⟨e1,e2,e3⟩
 ·obtain⟨xs,e,rr⟩:=rv;exact⟨xs,e,zm (QB hpm) hp rr⟩
 grind [QB]
end
section
variable {P:Program}{g:Gh}{w:World}{t:Array Value}{O:Nat→Nat}{st st':St}{a:AV}{o:Oper}{r:bI}
theorem S.extF (s:S P g w st t O) {g2:Gh}{w':World}(h:aI g w g2 w' fun _=>False) (ho:g2.obj=g.obj) (hp:∀ b o,g2.pm b o→b<w'.heap.size):S P g2 w' st t O:=by
 obtain⟨Oe,Oh,re,rh,hs⟩:=s.parts;exact⟨s.se,s.sh,⟨Oe,Oh,gg.ext h re (by simp),rh.imp' fun k v O1 _ _ q=>q.ext0 h (by simp),hs⟩,s.le,
  fun b hb=>Nat.lt_of_lt_of_le (s.hi b hb) h.size,fun id hid=>by rw[ho];grind [fresh],hp⟩
theorem Zf (u:AV):fp (kX u)=fp u:=by
 have h1:∀ v:AV,eK (ji v)=eK v:=fun v=>by cases v<;>rfl
 have h2:∀ v:AV,gK (kM v)=gK v:=fun v=>by
  cases v<;>try rfl
  grind [kM,gK]
 cases u<;>try rfl
 ·rename_i cs;exact h2 (.agg cs)
 grind [kX,fp]
theorem adU {e:aq}{hs hs0:HS}{O':Nat→Nat}{vs:List AV}{v0 v:AV}{x:Value}{w':World}(s':S P g w ⟨e,hs⟩ t O') (hle:∀ b,O' b≤O b)
  (hp:dA P (g.view w fun b=>vs.any lM=true∧O' b≠0) w zero v0 hs0 (.returned x) w')
  (hres:(match dF hs0.heap v0 with | none=>none | some v=>match vs.any lM with | false=>some v | true=>match fp v with | true=>some v | false=>some (Gy v))=some v) :
  ∃ g' Oa O1,vQ P g w t O ⟨e,hs⟩ v x w' g' Oa O1:=by
 obtain⟨g1,Or,Oh,h1,h2,h3,h4,h5,h6⟩:=hp;have hz:∀ b,b<w.heap.size→Or b+Oh b=0:=fun b hb=>by simp_all
 split at hres
 ·simp_all
 ·rename_i v1 hv1;obtain⟨u,Ov',rfl,ru,lu,pu⟩:=ad3 h2 hv1 h1;have hcell:∀ b o,g.pm b o→w'.cell? ⟨b,o,none⟩=w.cell? ⟨b,o,none⟩:=fun b o h=>(h3.pm b o (.inl h)).2
  have hblk:∀ b,b<w.heap.size→w'.heap[b]?=w.heap[b]?:=fun b hb=>(h3.blk b hb (by simp)).1
  have fin:∀ (g2:Gh) (Ow:Nat→Nat),(∀ b,Ow b≤Ov' b)→aI g w g2 w' (fun _=>False)→g2.obj=g.obj→(∀ b o,g2.pm b o→b<w'.heap.size)→RV g2 w' v x Ow→∃ g' Oa O1,vQ P g w t O ⟨e,hs⟩ v x w' g' Oa O1:=by
   intro g2 Ow hle2 hx ho hpl hv;have lu:∀ b,Ow b≤Or b+Oh b:=fun b=>Nat.le_trans (hle2 b) (lu b)
   refine⟨g2,Ow,O',hv,s'.extF hx ho hpl,hx.mono fun _ _ h=>h.elim,fun b=>?_,fun b hb=>?_,fun b hb=>?_⟩
   ·by_cases hb:b<w.heap.size
    ·have:=hz b hb;have:=lu b;have:=s'.le b;omega
    grind [S.out]
   all_goals grind [S.hi]
  by_cases hf:fp u=true
  ·have hb:ed u=kX u:=by simp[ed,hf]
   have hv:v=kX u:=by
    grind [Zf]
   refine fin g Ov' (fun _=>Nat.le_refl _) ⟨fun _ _ h=>⟨h,rfl,rfl,rfl⟩,fun b o h=>⟨h,hcell b o h⟩,fun b hb _=>⟨hblk b hb,fun _ h=>h⟩,h3.size,h3.lp,h3.same⟩ rfl (fun b o h=>Nat.lt_of_lt_of_le (s'.pmlt b o h) h3.size) ?_
   grind [adv,S.pmlt]
  ·have hb:ed u=u:=by simp[ed,hf]
   cases hnf:vs.any lM with
   | false =>
    have hold:∀ b o,(g.view w fun b=>vs.any lM=true∧O' b≠0).pm b o→g.pm b o:=fun b o h=>h.elim id fun h=>by simp_all
    refine fin { g with pm:=g1.pm } Ov' (fun _=>Nat.le_refl _) ⟨fun _ _ h=>⟨h,rfl,rfl,rfl⟩,fun b o h=>⟨(h3.pm b o (.inl h)).1,hcell b o h⟩,fun b hb _=>⟨hblk b hb,fun o h=>hold b o ((h3.blk b hb (by simp)).2 o h)⟩,h3.size,h3.lp,h3.same⟩ rfl
     (fun b o h=>h2.pmlt b o h) ?_
    grind [adH]
   | true =>
    obtain⟨Ow,qv,lw⟩:=af9 (g2:=g) pu ru fun b hb o hpm=>by
     grind [S.pmlt]
    refine fin g Ow lw ⟨fun _ _ h=>⟨h,rfl,rfl,rfl⟩,fun b o h=>⟨h,hcell b o h⟩,fun b hb _=>⟨hblk b hb,fun _ h=>h⟩,h3.size,h3.lp,h3.same⟩ rfl (fun b o h=>Nat.lt_of_lt_of_le (s'.pmlt b o h) h3.size) ?_
    simp_all
theorem aom {ro:Option Nat}{f:FuncId}{args:List Rd}(hr:d8 P r) (s:S P g w st t O) (h:yj r f args st=some (a,st')) (hc:aE P (.call f args) o.op=true) :
  OpW ro P g w t O st' a o:=by
 obtain⟨dst,op,ty,pos,aft,gd⟩:=o;simp only[aE]at hc;split at hc
 ·rename_i c;simp only[Bool.and_eq_true]at hc;obtain⟨h1,h2⟩:=hc;obtain⟨callee,as,ats⟩:=c;have:=Dp h1;subst this;unfold yj at h;split at h
  ·rename_i vs e hrd;split at h
   ·rename_i v hcall;obtain⟨Ov,O',rvs,s',l⟩:=s.rdAll h2 hrd;unfold cy at hcall;split at hcall
    ·simp_all
    ·rename_i ds hds;split at hcall
     ·simp_all
     ·rename_i v0 hs0 hc0;obtain⟨hfn,hk⟩:=hr hc0;have rvc:=I9 (st:=⟨e,st.hs⟩) (K:=fun b=>vs.any lM=true∧O' b≠0) s' hds (fun h b hb=>⟨h,hb⟩) rvs;have hk:=hk rvc (aq5 s' _) (fun b=>by simp) (fun b hb=>by simp at hb);intro ds' next Q hn
      have hrun:(execOp (ev t) ⟨dst,.call ⟨.value (.func f),as,ats⟩,ty,pos,aft,gd⟩).run P w=.ok (.enter f (as.toList.map (ev t)).toArray) w:=by
       simp only[execOp,resolve,Sem.run_bind,ev,Deferred.ofValue,Sem.run_pure,Result.andThen_ok,invoke];rw[pQ hfn]
       congr 2
       grind
      rw[hrun,Oper.uponIn_enter];refine⟨fun h=>by grind [Fence.wide],GJ (hk.mono fun en w' hp=>?_)⟩
      cases en with
      | returned x =>
       obtain⟨g',Oa,O1,k⟩:=adU (O:=O) (vs:=vs) s' (fun b=>by grind) hp hcall
       grind
      | panicked c=>exact hp.elim
      | outgrown=>exact hp.elim
   simp_all
  simp_all
 simp_all
end
def yH:aY→Exit
 | .normal=>.normal
 | .exit i=>.exit i
 | .goto l=>.goto l
 | .ret=>.ret
def fI (w:World) (O:Nat→Nat) (lo:Nat):List Deferred→Prop
 | []=>True
 | d::ds=>(∃ r,d.target=.collected r∧lo≤r∧w.heap[r]?=some (.deferred (some []))∧O r=0∧∀ d'∈ds,∀ r',d'.target=.collected r'→r'<r)∧fI w O lo ds
def xf (w:World) (ro:Option Nat):Prop:=∀ l,ro=some l→∃ rc:Go.Loop,w.heap[l]?=some (.loop rc)
def aW (P:Program) (g:Gh) (w:World) (t:Array Value) (O:Nat→Nat) (ds:List Deferred) (ro:Option Nat) (o:aY) (st':St) (e:Exit) (a':Act) (w':World):Prop :=
 e=yH o∧∃ g' O' ms,dB P g w t O st' a'.tmps w' g' O'∧a'.defers=ms++ds∧fI w' O' w.heap.size ms∧(ro.isSome=true→ms=[])
section
variable {P:Program}{g:Gh}{w:World}{t:Array Value}{O:Nat→Nat}{st st':St}{a:AV}{o:Oper}{r:bI}
theorem xf.ext {ro:Option Nat}(h:xf w ro) {g g':Gh}{w':World}{T:Nat→Prop}(hx:aI g w g' w' T):xf w' ro:=fun l hl=>let ⟨rc,hrc⟩:=h l hl;hx.lp l rc hrc
theorem fI.after {lo:Nat}{g1 g2:Gh}{w1 w2:World}{O1 O2:Nat→Nat}(hx:aI g1 w1 g2 w2 fun b=>O1 b≠0) (ho:∀ b,b<w1.heap.size→O2 b≤O1 b) :
  ∀ {ms:List Deferred},fI w1 O1 lo ms→fI w2 O2 lo ms
 | [],_=>trivial
 | d::ds,⟨⟨r,h1,h2,h3,h4,h5⟩,h6⟩=>by
  exact⟨⟨r,h1,h2,by grind [aI.blk],by grind,h5⟩,fI.after hx ho h6⟩
theorem fI.lt {lo:Nat}:∀ {ms:List Deferred},fI w O lo ms→∀ d∈ms,∀ r,d.target=.collected r→r<w.heap.size
 | [],_,d,hd,_,_=>by simp at hd
 | m::ms,⟨⟨r,h1,h2,h3,h4,h5⟩,h6⟩,d,hd,r',hr=>by
  grind
theorem fI.append {lo1 lo2:Nat}(hlo:lo1≤lo2) {ms1:List Deferred}(h1:fI w O lo1 ms1) (hlt:∀ d∈ms1,∀ r,d.target=.collected r→r<lo2) :
  ∀ {ms2:List Deferred},fI w O lo2 ms2→fI w O lo1 (ms2++ms1)
 | [],_=>h1
 | d::ds,⟨⟨r,k1,k2,k3,k4,k5⟩,k6⟩=>by
  refine⟨⟨r,k1,Nat.le_trans hlo k2,k3,k4,fun d' hd' r' hr'=>?_⟩,fI.append hlo h1 hlt k6⟩;rcases List.mem_append.1 hd' with h | h<;>grind
theorem aW.comp {ds ms1:List Deferred}{ro:Option Nat}{st1 st2:St}{t1:Array Value}{w1:World}{g1:Gh}{O1:Nat→Nat}(G:dB P g w t O st1 t1 w1 g1 O1) (hm:fI w1 O1 w.heap.size ms1)
  (hro:ro.isSome=true→ms1=[]) {out:aY}{e:Exit}{a2:Act}{w2:World}(h:aW P g1 w1 t1 O1 (ms1++ds) ro out st2 e a2 w2):aW P g w t O ds ro out st2 e a2 w2:=by
 obtain⟨he,g2,O2,ms2,G2,hd,hm2,hr2⟩:=h;refine⟨he,g2,O2,ms2++ms1,G.trans G2,by simp_all,?_,fun h=>by simp_all⟩;exact fI.append G.ext.size (hm.after G2.ext G2.old) (fun d hd r hr=>hm.lt d hd r hr) hm2
def eG (P:Program) (r:bI):Prop :=
 ∀ {v:VC}{st:St}{o:aY}{st':St},r.code v st=some (o,st')→∀ {c:Code}{n:Nat},Mt P n v c→∀ {g:Gh}{w:World}{t:Array Value}{O:Nat→Nat},t.size=n→S P g w st t O→
  ∀ (ro:Option Nat) (ds:List Deferred),xf w ro→c.wpIn (FR ro) 0 P (aW P g w t O ds ro o st') ⟨t,ds⟩ w
theorem aI.loopBlk {b:Nat}{rc rc':Go.Loop}(hb:w.heap[b]?=some (.loop rc)):aI g w g (Vm.setBlk w b (.loop rc')) fun x=>x=b where
 obj _ _ h:=⟨h,rfl,rfl,rfl⟩
 pm b' o h:=⟨h,by
  grind [World.cell?,cq,dT]⟩
 blk b' _ h:=⟨dT h,fun _ h=>h⟩
 size:=by simp
 lp b' r h:=by
  grind [cq,dT]
 same:=⟨rfl,rfl,sr hb (by grind [dx]) (by grind [dx])⟩
theorem S.storeG {st:St}(s:S P g w st t O) {id:Nat}{ob:Obj}(hg:get st.hs.heap id=some ob) :
  ∃ O1 Oz:Nat→Nat,fK P g w id ob O1∧(∀ b,O1 b+Oz b≤O b)∧∀ (w':World) (b:Nat) (ob':Obj) (O1':Nat→Nat),
   1≤O1 b→aI g w g w' (fun x=>x=b)→fK P g w' id ob' O1'→(∀ x,O1' x+Oz x≤1)→(∀ x,O1' x≠0→x<w'.heap.size)→
   S P g w' ⟨st.env,⟨put st.hs.heap id ob',st.hs.next⟩⟩ t (fun x=>O1' x+Oz x):=by
 obtain⟨Oe,Oh,re,rh,ho⟩:=s.parts;obtain⟨O1,O2,q,r2,hs⟩:=RL.take rh hg;refine⟨O1,fun b=>Oe b+O2 b,q,fun b=>by grind,fun w' b ob' O1' h1 hx q' hle hhi=>?_⟩;have hone:O b≤1:=s.le b;have hfree:Oe b=0∧O2 b=0:=by grind
 have re':=gg.ext hx re (fun y hy e=>by simp_all);have r2':uO P g w' (del st.hs.heap id) O2:=r2.imp' fun k v Q _ hQ q=>q.ext0 hx (fun y hy e=>by grind)
 obtain⟨O3,r3,h3⟩:=RL.put s.sh r2' q';refine⟨s.se,s.sh.put _ _,⟨Oe,O3,re',r3,fun x=>by grind⟩,hle,fun x hx0=>?_,s.fresh,
  fun b o hp=>Nat.lt_of_lt_of_le (s.pmlt b o hp) hx.size⟩
 by_cases h:O1' x=0
 ·refine Nat.lt_of_lt_of_le (s.hi x ?_) hx.size
  grind
 simp_all
theorem S.setLoop {st:St}(s:S P g w st t O) {id:Nat}{snap:aq}{ps:List Nat}{as bd:VC}{busy:Bool}{pend:Option aY}(hg:get st.hs.heap id=some (.loop snap ps as bd busy pend)) :
  ∃ b rc,g.obj id=some b∧w.heap[b]?=some (.loop rc)∧rc.state=(if busy then .busy else if pend.isNone then .ready else .done)∧rc.pending=pend.bind iP∧rc.params=ps.toArray∧
   Mt P rc.tmps.size as rc.assign∧Mt P rc.tmps.size bd rc.body∧bj snap∧gg g w snap rc.tmps zero∧(∀ p∈ps,p<rc.tmps.size)∧
   ∀ (busy':Bool) (pend':Option aY) (rc':Go.Loop),rc'={ rc with state:=(if busy' then .busy else if pend'.isNone then .ready else .done),pending:=pend'.bind iP }→
    ∃ O',dB P g w t O ⟨st.env,⟨put st.hs.heap id (.loop snap ps as bd busy' pend'),st.hs.next⟩⟩ t (Vm.setBlk w b (.loop rc')) g O':=by
 obtain⟨O1,Oz,q,hsum,hst⟩:=s.storeG hg;obtain⟨b,rc,h1,h2,h3,h4,h5,h6,h7,h8,h9,h10,h11⟩:=q;refine⟨b,rc,h1,h2,h3,h4,h5,h6,h7,h8,h9,h10,fun busy' pend' rc' e=>?_⟩;have hx:aI g w g (Vm.setBlk w b (.loop rc')) fun x=>x=b:=aI.loopBlk h2
 have hO1:O1 b=1:=by simp_all
 refine⟨_,hst (Vm.setBlk w b (.loop rc')) b (.loop snap ps as bd busy' pend') O1 (by omega) hx ?_ (fun x=>by have:=hsum x;have:=s.le x;omega) (fun x hx0=>?_),hx.mono (fun x _ e=>by grind),fun x _=>hsum x,rfl⟩
 ·subst e;exact⟨b,_,h1,cq (fj h2),rfl,rfl,h5,h6,h7,h8,gg.ext hx h9 (by simp),h10,h11⟩
 grind [pW,Dz]
end
section
variable {P:Program}{g:Gh}{w:World}{t:Array Value}{O:Nat→Nat}{st st':St}{a:AV}{o:Oper}{r:bI}
theorem RZ:∀ {ps:List Nat}{vs:List AV}{e e':aq}{hs:HS}{t:Array Value}{O:Nat→Nat},po e ps vs=some e'→S P g w ⟨e,hs⟩ t O→∀ {xs:List Value}{Ov:Nat→Nat},RVs g w vs xs Ov→
  (∀ p∈ps,p<t.size)→(∀ b,Ov b+O b≤1)→(∀ b,Ov b≠0→b<w.heap.size)→
  ∃ O',S P g w ⟨e',hs⟩ ((ps.zip xs).foldl (fun(t:Array Value) (q:Nat×Value)=>t.setIfInBounds q.1 q.2) t) O'∧(∀ b,O' b≤Ov b+O b)∧xs.length=ps.length∧
   ((ps.zip xs).foldl (fun(t:Array Value) (q:Nat×Value)=>t.setIfInBounds q.1 q.2) t).size=t.size
 | [],[],e,e',hs,t,O,h,s,xs,Ov,rv,hp,hle,hhi=>by
  simp only[po,Option.some.injEq]at h;obtain⟨rfl,_⟩:=rv;exact⟨O,by simp_all,fun b=>by omega,rfl,rfl⟩
 | p::ps,v::vs,e,e',hs,t,O,h,s,xs,Ov,rv,hp,hle,hhi=>by
  simp only[po]at h;obtain⟨x,ys,O1,O2,rfl,r1,r2,hs2⟩:=rv;obtain⟨O3,s3,l3⟩:=s.setTmp (hp p (.head _)) r1 (fun b=>by grind) (fun b hb=>hhi b (by simp_all));obtain⟨O4,s4,l4,hl,hsz⟩:=RZ h s3 r2 (fun q hq=>by simp_all) (fun b=>by grind) (fun b hb=>hhi b (by simp_all));exact⟨O4,by simp_all,fun b=>by grind,by simp[hl],by simp_all⟩
 | [],_::_,_,_,_,_,_,h,_,_,_,_,_,_,_=>by simp[po]at h
 | _::_,[],_,_,_,_,_,h,_,_,_,_,_,_,_=>by simp[po]at h
theorem rT {b:Nat}{rc:Go.Loop}(h:w.heap[b]?=some (.loop rc)):(Instr.getLoop b).run P w=.ok rc w:=by
 simp_all [Instr.getLoop,getObj,Sem.run]
theorem Ea {b:Nat}{rc rc':Go.Loop}(h:w.heap[b]?=some (.loop rc)):(setObj b (.loop rc')).run P w=.ok () (setBlk w b (.loop rc')):=by
 grind [setObj,Sem.run,setBlk]
theorem ahG (hc:eG P r) {l:Nat}{args:List AV}{hs hs':HS}{v:AV}(h:oh r l args hs=some (v,hs')) {xs:List Value}{Oa Oh:Nat→Nat}(rvs:RVs g w args xs Oa)
  (sh:S P g w ⟨[],hs⟩ #[] Oh) (hle:∀ b,Oa b+Oh b≤1) (hhi:∀ b,Oa b≠0→b<w.heap.size) (ro:Option Nat) :
  ∃ b,∃ rc:Go.Loop,∃ tm,g.obj l=some b∧(Instr.yield b xs.toArray).run P w=.ok (.round b rc.fn tm rc.assign rc.body) w∧
   RoundIn (FR ro) 0 P b rc.fn tm rc.assign rc.body w (dA P g w (fun b=>Oa b+Oh b) v hs'):=by
 unfold oh at h;split at h
 ·rename_i snap ps as bd hg;split at h
  ·simp at h
  ·rename_i e hput;split at h
   ·rename_i st1 hass;split at h
    ·rename_i snap1 ps1 as1 bd1 hg1;split at h
     ·simp at h
     ·rename_i o st2 hbd;split at h
      ·rename_i snap2 ps2 as2 bd2 hg2;obtain⟨b,rc,h1,h2,h3,h4,h5,h6,h7,h8,h9,h10,_⟩:=sh.setLoop (st:=⟨[],hs⟩) hg;have s0:S P g w ⟨snap,hs⟩ rc.tmps fun b=>zero b+Oh b:=S.join h8 h9 sh (fun b=>by grind) (fun b hb=>by simp at hb)
       obtain⟨O1,s1,l1,hlen,hsz⟩:=RZ hput s0 rvs h10 (fun b=>by simp_all) hhi;refine⟨b,rc,_,h1,?_,roundIn_of_wpIn (F:=FR ro) (tmps:=(ps.zip xs).foldl (fun(t:Array Value) (q:Nat×Value)=>t.setIfInBounds q.1 q.2) rc.tmps) trivial ?_⟩
       ·simp_all [Instr.yield,rT]
       ·refine wpIn_mono (hc hass h6 hsz s1 (some b) [] (fun l hl=>by simp_all)) fun en a1 w1 hp=>?_
        obtain⟨rfl,g1,O1',ms,G1,hd1,_,hms⟩:=hp;have hms:=hms rfl;subst hms;obtain⟨t1,d1⟩:=a1;subst hd1;obtain⟨b1,rc1,k1,k2,k3,k4,k5,k6,k7,k8,k9,k10,kset⟩:=G1.st.setLoop hg1;have hb1:b1=b:=by have:=(G1.ext.obj l b h1).1;simp_all
        subst hb1;obtain⟨O2,G2⟩:=kset true none { rc1 with state:=.busy } (by simp[k4]);refine⟨setBlk w1 b1 (.loop { rc1 with state:=.busy }),?_,?_⟩
        ·simp_all [Instr.beginRound,rT,Ea]
        ·have hsz1:t1.size=rc.tmps.size:=by rw[G1.size,hsz]
         refine wpIn_mono (hc hbd h7 hsz1 G2.st (some b1) [] (fun l hl=>by grind [cq])) fun en2 a2 w3 hp2=>?_
         obtain⟨rfl,g2,O3,ms2,G3,_,_,_⟩:=hp2;obtain⟨b2,rc2,m1,m2,m3,m4,m5,m6,m7,m8,m9,m10,mset⟩:=G3.st.setLoop hg2;have hb2:b2=b1:=by have:=(G3.ext.obj l b1 k1).1;simp_all
         subst hb2;have fin:∀ (pend:Option aY),(v,hs')=(.bool pend.isNone,⟨put st2.hs.heap l (.loop snap2 ps2 as2 bd2 false pend),st2.hs.next⟩)→pend.bind iP=iP o→(pend.bind iP).isNone=pend.isNone→
           ∃ (vv:Value) (w':World),(Instr.endRound b2 (iP o)).run P w3=.ok vv w'∧dA P g w (fun b=>Oa b+Oh b) v hs' (.returned vv) w':=by
          intro pend hv hpo hpn;obtain⟨rfl,rfl⟩:=hv;obtain⟨O4,G4⟩:=mset false pend { rc2 with state:=(if (iP o).isNone then .ready else .done),pending:=iP o } (by simp_all);refine⟨.bool (iP o).isNone,setBlk w3 b2 (.loop { rc2 with state:=(if (iP o).isNone then .ready else .done),pending:=iP o }),?_,?_⟩
          ·simp_all [Instr.endRound,rT,Ea]
          ·have G:=((G1.trans G2).trans G3).trans G4;obtain⟨Oe4,Oh4,re4,sh4,ho4⟩:=G.st.split;refine⟨g2,zero,Oh4,?_,sh4,G.ext.mono (fun b _ hb=>by grind),fun b=>by have:=G.st.le b;grind,fun b hb=>?_,fun b hb=>by simp at hb⟩
           all_goals grind [AJ,dB.old]
         cases o with
         | normal =>
          simp only[Option.some.injEq]at h;exact fin none h.symm rfl rfl
         | exit i =>
          simp only[Option.some.injEq]at h;exact fin (some (.exit i)) h.symm rfl rfl
         | goto i =>
          simp only[Option.some.injEq]at h;exact fin (some (.goto i)) h.symm rfl rfl
         | ret =>
          simp only[Option.some.injEq]at h;exact fin (some .ret) h.symm rfl rfl
      simp_all
    simp_all
   simp_all
 simp_all
end
section
variable {P:Program}{g:Gh}{w:World}{t:Array Value}{O:Nat→Nat}{st st':St}{a:AV}{o:Oper}{r:bI}
theorem aku {ro:Option Nat}{f:Rd}{args:List Rd}(hr:d8 P r) (hcs:eG P r) (s:S P g w st t O) (h:w9 r f args st=some (a,st')) (hc:aE P (.callv f args) o.op=true) :
  OpW ro P g w t O st' a o:=by
 obtain⟨dst,op,ty,pos,aft,gd⟩:=o;simp only[aE]at hc;split at hc
 ·rename_i c;simp only[Bool.and_eq_true]at hc;obtain⟨h1,h2⟩:=hc;obtain⟨callee,as,ats⟩:=c;simp only at h1 h2;split at h1
  ·rename_i fx;unfold w9 at h;split at h
   ·rename_i fv e1 hf;split at h
    ·rename_i vs e hrd;split at h
     ·rename_i v hs' hcall;obtain⟨rfl,rfl⟩:=h;obtain⟨Of,O1,rf,s1,l1⟩:=s.rd h1 hf;obtain⟨Ov,O',rvs,s',l⟩:=s1.rdAll (st:=⟨e1,st.hs⟩) h2 hrd;obtain⟨Oe,Oh,re,sh,ho⟩:=s'.split;have hle:∀ b,Ov b+(Oe b+Oh b)≤O b:=fun b=>by grind
      have hle1:∀ b,Ov b+Oh b≤1:=fun b=>by have:=hle b;have:=s.le b;omega
      have hhi:∀ b,Ov b≠0→b<w.heap.size:=fun b hb=>s.hi b (by grind)
      unfold bD at hcall;split at hcall
      ·rename_i gf first caps
       obtain⟨hfn,hk⟩:=hr hcall;obtain⟨⟨xs,ys,hev,r1,r2⟩,_⟩:=rf;have hrv:RVs g w (first++(vs++caps)) (xs.toList++(as.toList.map (ev t)++ys.toList)) (fun b=>zero b+(Ov b+zero b)):=r1.join (rvs.join r2);have hO:(fun b=>zero b+(Ov b+zero b))=Ov:=by simp_all
       rw[hO]at hrv;have hk:=hk hrv sh hle1 hhi;refine Mq (hs:=st.hs) s'.se re hle s ?_ hk
       simp_all [execOp,resolve,Deferred.ofValue,invoke,pQ]
      ·obtain⟨⟨b0,hb0,hev⟩,_⟩:=rf;obtain⟨b,rc,tm,hb,hy,hround⟩:=ahG hcs hcall rvs sh hle1 hhi ro;rw[hb0]at hb;simp only[Option.some.injEq]at hb;subst hb;intro ds next Q hn
       have hrun:(execOp (ev t) ⟨dst,.call ⟨.value fx,as,ats⟩,ty,pos,aft,gd⟩).run P w=.ok (.round b0 rc.fn tm rc.assign rc.body) w:=by
        simp only[execOp,resolve,Sem.run_bind,hev,Deferred.ofValue,Sem.run_pure,Result.andThen_ok,invoke];rw[←hy]
        congr 2
        grind
       rw[hrun,Oper.uponIn_round];refine⟨fun h=>by grind [Fence.wide],hround.mono fun en w' hp=>?_⟩
       cases en with
       | returned x =>
        obtain⟨g',Oa,O',k⟩:=Al (hs:=st.hs) s'.se re hle s hp
        grind
       | panicked c=>exact hp.elim
       | outgrown=>exact hp.elim
      simp_all
     simp_all
    simp_all
   simp_all
  simp_all
 simp_all
theorem ZQ {t:Array Value}:∀ {e:aq}{O:Nat→Nat},gg g w e t O→gg g w (e.map fun kv=>(kv.1,share kv.2)) t zero
 | [],_,_=>fun _=>rfl
 | (k,v)::e,O,r=>by
  obtain⟨O1,O2,⟨q1,q2⟩,rr,_⟩:=r;exact⟨zero,zero,⟨q1,RV.share _ _ _ q2⟩,ZQ rr,fun _=>rfl⟩
theorem akV {e:aq}(h:bj e):bj (e.map fun kv=>(kv.1,share kv.2)):=by
 grind [bj]
theorem VJ {ro:Option Nat}(hro:xf w ro) (fn:FuncId) (ps:Array Nat) (as bd:Code) :
  ∃ (w1:World) (mark:List Deferred) (rc:Go.Loop),(Instr.enterLoop fn t ps as bd ro).run P w=.ok (w1.heap.size,mark) (w1.alloc (.loop rc))∧
   rc.state=.ready∧rc.pending=none∧rc.params=ps∧rc.assign=as∧rc.body=bd∧rc.tmps=t∧
   ((∃ l,ro=some l∧w1=w∧mark=[])∨(ro=none∧w1=w.alloc (.deferred (some []))∧mark=[{ target:=.collected w.heap.size,args:=#[] }])):=by
 cases ro with
 | some l =>
  obtain⟨rc0,h0⟩:=hro l rfl;refine⟨w,[],{ state:=.ready,pending:=none,fn,tmps:=t,params:=ps,assign:=as,body:=bd,defers:=rc0.defers },?_,rfl,rfl,rfl,rfl,rfl,rfl,.inl ⟨l,rfl,rfl,rfl⟩⟩
  simp_all [Instr.enterLoop,rT]
 | none =>
  refine⟨w.alloc (.deferred (some [])),_,{ state:=.ready,pending:=none,fn,tmps:=t,params:=ps,assign:=as,body:=bd,defers:=w.heap.size },?_,rfl,rfl,rfl,rfl,rfl,rfl,.inr ⟨rfl,rfl,rfl⟩⟩;simp[Instr.enterLoop]
end
section
variable {P:Program}{g:Gh}{w:World}{t:Array Value}{O:Nat→Nat}{st st':St}{a:AV}{o:aY}{r:bI}
theorem S.otherG {w':World}{b:Nat}(s:S P g w st t O) (hx:aI g w g w' fun x=>x=b) (hO:O b=0):S P g w' st t O:=by
 obtain⟨Oe,Oh,re,rh,ho⟩:=s.parts;have re':=gg.ext hx re (fun y hy e=>by simp_all);have rh':uO P g w' st.hs.heap Oh:=rh.imp' fun k v Q _ hQ q=>q.ext0 hx (fun y hy e=>by grind)
 exact⟨s.se,s.sh,⟨Oe,Oh,re',rh',ho⟩,s.le,fun b hb=>Nat.lt_of_lt_of_le (s.hi b hb) hx.size,s.fresh,fun b o h=>Nat.lt_of_lt_of_le (s.pmlt b o h) hx.size⟩
theorem S.endLoop {e:aq}{hs:HS}(s:S P g w ⟨e,hs⟩ t O) {id:Nat}{snap:aq}{ps:List Nat}{as bd:VC}{pend:Option aY}(hg:get hs.heap id=some (.loop snap ps as bd false pend)) {b:Nat}(hob:g.obj id=some b) :
  ∃ w' O',(Instr.endLoop b).run P w=.ok (pend.bind iP) w'∧S P g w' ⟨e,⟨del hs.heap id,hs.next⟩⟩ t O'∧aI g w g w' (fun x=>x=b)∧∀ x,O' x≤O x:=by
 obtain⟨Oe,Oh,re,rh,ho⟩:=s.parts;obtain⟨O1,O2,q,r2,hs2⟩:=RL.take rh hg;obtain⟨b',rc,h1,h2,h3,h4,h5,h6,h7,h8,h9,h10,h11⟩:=q;rw[hob]at h1;simp only[Option.some.injEq]at h1;subst h1;have hle2:∀ x,Oe x+O2 x≤O x:=fun x=>by grind
 have s2:S P g w ⟨e,⟨del hs.heap id,hs.next⟩⟩ t (fun x=>Oe x+O2 x) :=
  ⟨s.se,s.sh.del id,⟨Oe,O2,re,r2,fun _=>rfl⟩,fun x=>Nat.le_trans (hle2 x) (s.le x),fun x hx=>s.hi x (by grind),s.fresh,s.pmlt⟩
 have hx:aI g w g (setBlk w b (.loop { rc with state:=.exhausted })) fun x=>x=b:=aI.loopBlk h2
 refine⟨setBlk w b (.loop { rc with state:=.exhausted }),_,?_,s2.otherG hx ?_,hx,hle2⟩
 ·have hb:(rc.state == LoopState.busy)=false:=by
   grind
  simp_all [Instr.endLoop,rT,Ea]
 ·have:=h11 b;rw[tq]at this;have:=hs2 b;have:=ho b;have:=s.le b;omega
theorem aaw (hr:d8 P r) {f:Rd}{x:Operand}{ps:List Nat}{as bd:VC}{c d:Code}(h:xE r f ps as bd st=some (o,st')) (hf:be f x=true)
  (hps:∀ p∈ps,p<t.size) (ha:Mt P t.size as c) (hb:Mt P t.size bd d) (s:S P g w st t O) (ro:Option Nat) (ds:List Deferred) (hro:xf w ro) :
  (Code.rangeFunc x ps.toArray c d).wpIn (FR ro) 0 P (aW P g w t O ds ro o st') ⟨t,ds⟩ w:=by
 unfold xE at h;split at h
 ·rename_i gf first caps e hrd
  split at h
  ·rename_i v hs hcall;split at h
   ·rename_i snap2 ps2 as2 bd2 pend hget;obtain⟨Of,O1,rf,s1,l1⟩:=s.rd hf hrd;simp only[RV]at rf;obtain⟨⟨xs,ys,hev,r1,r2⟩,_⟩:=rf;have l1':∀ b,O1 b≤O b:=fun b=>by simp_all
    refine wpIn_rangeFunc fun fn hF=>?_
    obtain⟨w1,mark,rc,hen,e1,e2,e3,e4,e5,e6,hmark⟩:=VJ (P:=P) (t:=t) hro fn ps.toArray c d;have hx1:aI g w g w1 fun _=>False:=by
     rcases hmark with ⟨_,_,rfl,_⟩ | ⟨_,rfl,_⟩
     ·exact .refl _ _ _
     ·exact aI.alloc s.pmlt _ _
    have sw1:S P g w1 ⟨e,st.hs⟩ t O1:=s1.extF hx1 rfl fun b o h=>Nat.lt_of_lt_of_le (s.pmlt b o h) hx1.size
    have hfresh:=sw1.fresh st.hs.next (Nat.le_refl _)
    have hx0:aI g w1 (g.add st.hs.next w1.heap.size 0 0 0) (w1.alloc (.loop rc)) fun _=>False:=(aI.alloc sw1.pmlt _ _).add hfresh _ _ _ _
    obtain⟨Oe1,Oh1,re1,rh1,ho1⟩:=sw1.parts;have hobj:(g.add st.hs.next w1.heap.size 0 0 0).obj st.hs.next=some w1.heap.size:=by simp[Gh.add]
    have hO1out:O1 w1.heap.size=0:=sw1.out (Nat.le_refl _);have hnew:=sw1.new (blk:=.loop rc) (o:=.loop (e.map fun kv=>(kv.1,share kv.2)) ps as bd false none) (base:=0) (esz:=0) (bsz:=0) (O1:=one w1.heap.size) (by
     simp only[fK];refine⟨w1.heap.size,rc,hobj,fy _ _,e1,e2,e3,by simp_all,by simp_all,akV sw1.se,?_,by simp_all,fun _=>rfl⟩;rw[e6];exact gg.ext hx0 (ZQ re1) (by simp)) (fun b=>by
      by_cases hb:b=w1.heap.size
      ·simp_all
      ·have:=sw1.le b;grind [one]) (fun b hb=>by grind [pW])
    obtain⟨s2,hx2⟩:=hnew;obtain⟨Oe,Oh,re,sh,ho⟩:=s2.split;obtain⟨hfn,hk⟩:=hr hcall;have hxa:=hx1.trans hx0 fun _ _ h=>h
    have r1':=RVs.ext hxa _ _ _ r1 (by simp);have r2':=RVs.ext hxa _ _ _ r2 (by simp);have ry:RVs (g.add st.hs.next w1.heap.size 0 0 0) (w1.alloc (.loop rc)) [.yield st.hs.next] [.func (.yield w1.heap.size) #[] #[]] zero:=by
     simp only[RVs,RV];exact⟨_,[],zero,zero,rfl,⟨⟨w1.heap.size,hobj,rfl⟩,fun _=>rfl⟩,⟨rfl,fun _=>rfl⟩,fun _=>rfl⟩
    have hrv:RVs (g.add st.hs.next w1.heap.size 0 0 0) (w1.alloc (.loop rc)) (first++([.yield st.hs.next]++caps)) (xs.toList++([.func (.yield w1.heap.size) #[] #[]]++ys.toList)) zero:=by
     have:=r1'.join (ry.join r2');omega
    have hle:∀ b,zero b+Oh b≤1:=fun b=>by have:=s2.le b;grind
    have hk:=hk hrv sh hle (fun b hb=>by simp at hb);generalize hargs:(xs.toList++([Value.func (.yield w1.heap.size) #[] #[]]++ys.toList)).toArray=args at hk;refine⟨w1.heap.size,mark,w1.alloc (.loop rc),{ target:=.fn (.func gf) ys,args:=xs++#[.func (.yield w1.heap.size) #[] #[]] },w1.alloc (.loop rc),gf,
     args,w1.alloc (.loop rc),hen,?_,fun _ _=>trivial,?_,fun h=>by grind [Fence.wide],GJ (hk.mono fun en w3 hp=>?_)⟩
    ·have hevx:(⟨t,ds⟩:Act).eval x=.func (.func gf) xs ys:=by simp_all [AC]
     have hconst:∀ u:Value,(⟨t,ds⟩:Act).eval (.const u)=u:=fun _=>rfl
     simp_all [resolve,Deferred.ofValue]
    ·simp only[invoke];rw[pQ hfn,←hargs]
     congr 2
     grind
    ·cases en with
     | panicked _=>exact hp.elim
     | outgrown=>exact hp.elim
     | returned y =>
      obtain⟨g2,Oa,O3,k⟩:=Al (hs:=hs) (Ov:=zero) s2.se re (fun b=>by simp_all) s2 hp;have hob2:g2.obj st.hs.next=some w1.heap.size:=(k.ext.obj _ _ hobj).1
      obtain⟨w4,O4,hend,s4,hx4,l4⟩:=k.st.endLoop hget hob2;have hlo:w.heap.size≤w1.heap.size:=hx1.size;have G:dB P g w t O ⟨e,⟨del hs.heap st.hs.next,hs.next⟩⟩ t w4 g2 O4:=by
       refine⟨s4,(((hxa.mono (T:=fun b=>O b≠0) fun _ _ h=>h.elim).trans k.ext fun b hb hq=>?_).trans hx4 fun b hb hq=>?_),fun b hb=>?_,rfl⟩
       ·grind [one]
       ·omega
       ·have hb2:b<(w1.alloc (.loop rc)).heap.size:=Nat.lt_of_lt_of_le hb hxa.size
        grind [one,vQ.old]
      have hM:fI w4 O4 w.heap.size mark∧(ro.isSome=true→mark=[]):=by
       rcases hmark with ⟨_,hl,_,rfl⟩ | ⟨hn,rfl,rfl⟩
       ·exact⟨trivial,fun _=>rfl⟩
       ·refine⟨⟨⟨w.heap.size,rfl,Nat.le_refl _,?_,?_,fun d hd=>by simp at hd⟩,trivial⟩,fun h=>by simp_all⟩
        ·have hne:w.heap.size≠(w.alloc (.deferred (some []))).heap.size:=by simp
         have hlt:w.heap.size<((w.alloc (.deferred (some []))).alloc (.loop rc)).heap.size:=by simp;omega
         have hO1z:O1 w.heap.size=0:=s1.out (Nat.le_refl _);have hoz:one (w.alloc (.deferred (some []))).heap.size w.heap.size=0:=by simp[one]
         rw[(hx4.blk _ (Nat.lt_of_lt_of_le hlt k.ext.size) (fun h=>hne h)).1,(k.ext.blk _ hlt (fun h=>by
          omega)).1,mB (by simp),fy]
        ·have hlt:w.heap.size<((w.alloc (.deferred (some []))).alloc (.loop rc)).heap.size:=by simp;omega
         have hO1z:O1 w.heap.size=0:=s1.out (Nat.le_refl _);have hoz:one (w.alloc (.deferred (some []))).heap.size w.heap.size=0:=by simp[one]
         grind [vQ.old]
      have post:∀ out st'',st''=⟨e,⟨del hs.heap st.hs.next,hs.next⟩⟩→aW P g w t O ds ro out st'' (yH out) { tmps:=t,defers:=mark++ds } w4:=by
       rintro out _ rfl
       exact⟨rfl,g2,O4,mark,G,rfl,hM.1,hM.2⟩
      refine⟨pend.bind iP,w4,hend,?_⟩
      cases pend with
      | none =>
       obtain⟨rfl,rfl⟩:=h;exact post .normal _ rfl
      | some out =>
       simp only[Option.some.injEq,Prod.mk.injEq]at h;obtain⟨rfl,rfl⟩:=h
       cases out with
       | normal=>exact post .normal _ rfl
       | exit i=>exact wpIn_exit (post (.exit i) _ rfl)
       | goto i=>exact wpIn_goto (post (.goto i) _ rfl)
       | ret=>exact wpIn_ret (post .ret _ rfl)
   simp_all
  simp_all
 simp_all
end
section
variable {P:Program}{g:Gh}{w:World}{t:Array Value}{O:Nat→Nat}{st st':St}{a:AV}{o:Oper}{r:bI}
theorem aqi {ro:Option Nat}(hr:d8 P r) (hcs:eG P r) {v:jN}(s:S P g w st t O) (h:bw v r st=some (a,st')) (hc:aE P v o.op=true):OpW ro P g w t O st' a o:=by
 cases v with
 | mov x=>exact(aqO s h hc).opW
 | pick c x y=>exact(aow s h hc).opW
 | alloc zs=>exact(aiV s h hc).opW
 | box x=>exact(arc s h hc).opW
 | build zs ps=>exact(ak4 s h hc).opW
 | mks m ps=>exact(aqq s h hc).opW
 | mksv m ps=>exact(aox s h hc).opW
 | ld n k p=>exact(as5 s h hc).opW
 | st n p x=>exact(asQ s h hc).opW
 | nilck x=>exact(ak7 s h hc).opW
 | bin op x y=>exact(aqk s h hc).opW
 | binb neg x y=>exact(am8 s h hc).opW
 | bina neg ks x y=>exact(amI s h hc).opW
 | un op x=>exact(arZ s h hc).opW
 | conv k x=>exact(aov s h hc).opW
 | toStr x=>exact(ai7 s h hc).opW
 | mkfn f a c=>exact(anM s h hc).opW
 | mkslice z l c=>exact(PT s h hc).opW
 | slice m x lo hi mx=>exact(aj4 s h hc).opW
 | slarr n x lo hi mx=>exact(ai3 s h hc).opW
 | fa off p=>exact(ato s h hc).opW
 | fld off n x=>exact(apW s h hc).opW
 | ia n x i=>exact(aty s h hc).opW
 | iarr l n p i=>exact(aoD s h hc).opW
 | ix l n ag x i=>exact(asf s h hc).opW
 | ixs x i=>exact(aqL s h hc).opW
 | idxb x c=>exact(an1 s h hc).opW
 | ext j mv i=>exact(aoY s h hc).opW
 | len x=>exact(arn s h hc).opW
 | cap x=>exact(are s h hc).opW
 | app m x y=>exact(apL s h hc).opW
 | appz z x n=>exact(amh s h hc).opW
 | cpy m x y=>exact(apA s h hc).opW
 | clr z x=>exact(aqI s h hc).opW
 | minmax b xs=>exact(agD s h hc).opW
 | call f args=>exact aom hr s h hc
 | calli f args=>exact ajz hr s h hc
 | callv f args=>exact aku hr hcs s h hc
 | bad=>grind [bw,ad7]
 | kill is=>simp[aE]at hc
 | free i=>simp[aE]at hc
 | wk i m=>simp[aE]at hc
 | frz i=>simp[aE]at hc
 | frzC i offs=>simp[aE]at hc
theorem Hk {v:jN}{op:Op}(hb:v≠.bad) (h:aE P v op=true):∀ c,op≠.defer c:=by
 rintro c rfl
 cases v<;>first | exact hb rfl | (simp[aE]at h)
theorem J0 {i:VI}{st2:St}(h:df r i st=some st2):∃ v st1,bw i.op r st=some (v,st1)∧st2=bf i.dst (firm (bS i.th v st1.hs).1) ⟨st1.env,(bS i.th v st1.hs).2⟩:=by
 unfold df at h;split at h
 ·rename_i v st1 hv;split at h
  ·rename_i hth;simp only[Option.some.injEq]at h;exact⟨v,st1,hv,by rw[hth];exact h.symm⟩
  grind
 simp_all
theorem YB (t:Array Value) (dst:Option Nat) (x:Value):∀ k,dst≠some k→(pD t dst x)[k]?=t[k]?:=by
 intro k hk
 cases dst<;>grind [Act.put]
theorem act {ro:Option Nat}(hr:d8 P r) (hcs:eG P r) {n:Nat}{ops:Array Oper}{i:VI}{st2:St}(hn:t.size=n) (s:S P g w st t O) (h:bl r i st=some st2) (hc:uh P n ops i o=true)
  (ds:List Deferred) (next:Act→World→Prop) (Q:Exit→Act→World→Prop) (hk:∀ t' w' g' O',dB P g w t O st2 t' w' g' O'→(∀ k,i.dst≠some k→t'[k]?=t[k]?)→next ⟨t',ds⟩ w') :
  if Region.wanted o (yielded ops t) then o.wpIn (FR ro) 0 P ⟨t,ds⟩ w next Q else (∀ f,o.about P w (⟨t,ds⟩:Act).eval=some f→(FR ro).fn f)∧next (Act.put ⟨t,ds⟩ o.dst undef) w:=by
 simp only[uh,Bool.and_eq_true]at hc;obtain⟨⟨hdst,hgd⟩,hop⟩:=hc;have hd:i.dst=o.dst∧∀ d,i.dst=some d→d<t.size:=by
  grind [Nat.beq_eq,Nat.blt_eq]
 have go:df r i st=some st2→o.wpIn (FR ro) 0 P ⟨t,ds⟩ w next Q:=by
  intro hg;obtain⟨v,st1,hv,rfl⟩:=J0 hg;have hb:i.op≠.bad:=by intro e;simp_all [bw,ad7]
  refine⟨fun _ _=>trivial,?_⟩;rw[FI _ _ (Hk hb hop)];refine aqi (ro:=ro) hr hcs s hv hop ds next Q fun x w' g' Oa O' k=>?_
  obtain⟨g2,O2,G⟩:=ZB k hd.2 i.th
  grind [Rn,YB]
 have no:st2=bf i.dst (.tup []) st→(∀ f,o.about P w (⟨t,ds⟩:Act).eval=some f→(FR ro).fn f)∧next (Act.put ⟨t,ds⟩ o.dst undef) w:=by
  rintro rfl
  refine⟨fun _ _=>trivial,?_⟩;have ha:vQ P g w t O st (.tup []) undef w g zero O:=⟨by grind [RV,RVs,undef],s,.refl _ _ _,fun b=>by have:=s.le b;simp_all,fun b _=>by simp,fun b hb=>by simp at hb⟩
  obtain⟨g2,O2,G⟩:=ZB ha hd.2 [];rw[Rn,←hd.1];exact hk _ _ _ _ G (YB _ _ _)
 grind [ahc,bl]
theorem ait {ro:Option Nat}(hr:d8 P r) (hcs:eG P r) {n:Nat}{ops:Array Oper}{i:VI}{st2:St}(hn:t.size=n) (s:S P g w st t O) (h:bl r i st=some st2) (hc:uh P n ops i o=true)
  (ds:List Deferred) (next:Act→World→Prop) (Q:Exit→Act→World→Prop) (hk:∀ t' w' g' O',dB P g w t O st2 t' w' g' O'→next ⟨t',ds⟩ w') :
  if Region.wanted o (yielded ops t) then o.wpIn (FR ro) 0 P ⟨t,ds⟩ w next Q else (∀ f,o.about P w (⟨t,ds⟩:Act).eval=some f→(FR ro).fn f)∧next (Act.put ⟨t,ds⟩ o.dst undef) w:=act hr hcs hn s h hc ds next Q fun t' w' g' O' G _=>hk t' w' g' O' G
theorem U3 {i:VI}{st2:St}(s:S P g w st t O) (hg:E4 i=true) (h:bl r i st=some st2):∃ g' O',dB P g w t O st2 t w g' O':=by
 simp only[E4,Bool.and_eq_true]at hg;obtain⟨⟨⟨h1,h2⟩,h3⟩,h4⟩:=hg;have hd:i.dst=none:=Option.isNone_iff_eq_none.1 h1;have hgd:i.guard=none:=Option.isNone_iff_eq_none.1 h2;have hth:i.th=[]:=by simp_all
 unfold bl at h;rw[hgd]at h;obtain⟨v,st1,hv,rfl⟩:=J0 h;rw[hd,hth];have fin:Ep P g w t O st1→∃ g' O',dB P g w t O (bf none (firm (bS [] v st1.hs).1) ⟨st1.env,(bS [] v st1.hs).2⟩) t w g' O':=by
  rintro ⟨g',O',s',hx,hle⟩
  exact⟨g',O',s',hx,fun b _=>hle b,rfl⟩
 split at h4
 ·rename_i is e;rw[e]at hv;exact fin (aoz s hv)
 ·rename_i j e;rw[e]at hv;exact fin (anO s hv)
 ·rename_i j m e;rw[e]at hv;exact fin (atn s hv)
 ·rename_i j e;rw[e]at hv;exact fin (ao9 s hv)
 ·rename_i j offs e;rw[e]at hv;exact fin (amR s hv)
 simp_all
theorem TJ {ro:Option Nat}(hr:d8 P r) (hcs:eG P r) {n:Nat}{ops:Array Oper}{Q:Exit→Act→World→Prop}(ds:List Deferred) :
  ∀ {l:List VI}{os:List Oper}{k:Nat},ops.toList.drop k=os→Cb P n ops l os=true→∀ {g:Gh}{w:World}{t:Array Value}{O:Nat→Nat}{st st':St},t.size=n→S P g w st t O→gz r l st=some st'→
   (∀ w' t' g' O',dB P g w t O st' t' w' g' O'→Q .normal ⟨t',ds⟩ w')→wpOpsIn (FR ro) 0 P ops Q (List.range' k os.length) ⟨t,ds⟩ w
 | [],os,k,hos,hc,g,w,t,O,st,st',hn,s,h,hq=>by
  cases os with
  | nil =>
   simp only[gz,Option.some.injEq]at h;subst h;exact hq _ _ _ _ (dB.refl s)
  | cons o os=>simp[Cb]at hc
 | v::l,os,k,hos,hc,g,w,t,O,st,st',hn,s,h,hq=>by
  simp only[gz]at h;split at h
  ·rename_i st1 hv;simp only[Cb]at hc;split at hc
   ·rename_i hgh;obtain⟨g1,O1,G⟩:=U3 s hgh hv;exact TJ hr hcs ds hos hc (by omega) G.st h fun w' t' g' O' G2=>hq _ _ _ _ (G.trans G2)
   ·cases os with
    | nil=>simp at hc
    | cons o os =>
     simp only[Bool.and_eq_true]at hc;obtain⟨hvi,hrest⟩:=hc;have hk:ops[k]?=some o:=by
      have:=congrArg (fun l=>l[0]?) hos
      grind
     have hos':ops.toList.drop (k+1)=os:=by
      have:=congrArg (fun l=>l.drop 1) hos
      grind [List.drop_drop]
     have key:=ait (ro:=ro) hr hcs hn s hv hvi ds (wpOpsIn (FR ro) 0 P ops Q (List.range' (k+1) os.length)) Q fun t' w' g' O' G =>
      TJ hr hcs ds hos' hrest (by rw[G.size,hn]) G.st h fun w2 t2 g2 O2 G2=>hq _ _ _ _ (G.trans G2)
     grind [List.range'_succ,wpOpsIn]
  simp_all
end
def FQ (ro:Option Nat) (P:Program) (c:Code) (Q:Exit→Act→World→Prop) (a:Act) (w:World):Prop :=
 ∀ (b:Frame) (k:List Item) (cs:List Frame),b.roundOf=ro→∃ e a' w',Q e a' w'∧ArrivesIn (Machine.fenced P (FR ro)) P (lone (b.atR a (.inLoop c::k)) cs w) b k cs e a' w'
def yf (ro:Option Nat) (P:Program) (body cur:Code) (Q:Exit→Act→World→Prop) (a:Act) (w:World):Prop :=
 ∀ (b:Frame) (k:List Item) (cs:List Frame),b.roundOf=ro→∃ e a' w',Q e a' w'∧ArrivesIn (Machine.fenced P (FR ro)) P (lone (b.atR a (.code cur::.inScope body::k)) cs w) b k cs e a' w'
section
variable {P:Program}{ro:Option Nat}{Q:Exit→Act→World→Prop}{a:Act}{w:World}
theorem CD {ro:Option Nat}(m:Machine):Machine.fenced P (FR ro) m:=fenced_wide P m
theorem QR {c:Code}(h:c.wpIn (FR ro) 0 P (Exit.then (FQ ro P c Q) Q) a w):FQ ro P c Q a w∧(Code.loop c).wpIn (FR ro) 0 P Q a w:=by
 have key:∀ (b:Frame) (k:List Item) (cs:List Frame),b.roundOf=ro→∃ e a' w',Q e a' w'∧ArrivesIn (Machine.fenced P (FR ro)) P (lone (b.atR a (.code c::.inLoop c::k)) cs w) b k cs e a' w':=by
  intro b k cs hro;obtain⟨e,a₁,w₁,hq,harr⟩:=h b (.inLoop c::k) cs hro trivial (Tb _ _)
  cases e with
  | normal =>
   obtain⟨e₂,a₂,w₂,hq₂,harr₂⟩:=hq b k cs hro;exact⟨e₂,a₂,w₂,hq₂,.of_steps harr harr₂⟩
  | exit id=>exact⟨_,a₁,w₁,hq,.pass (x:=.inLoop c) rfl (fun _ _=>.inl (by simp)) harr⟩
  | goto l=>exact⟨_,a₁,w₁,hq,.pass (x:=.inLoop c) rfl (fun _ _=>.inl (by simp)) harr⟩
  | ret=>exact⟨_,a₁,w₁,hq,.pass (x:=.inLoop c) rfl (fun _ _=>.inl (by simp)) harr⟩
  | panic ch=>exact⟨_,a₁,w₁,hq,.pass (x:=.inLoop c) rfl (fun _ _=>.inl (by simp)) harr⟩
  | outgrown=>exact⟨_,a₁,w₁,hq,.pass (x:=.inLoop c) rfl (fun _ _=>.inl (by simp)) harr⟩
 refine⟨fun b k cs hro=>?_,fun b k cs hro _ _=>?_⟩
 ·obtain⟨e,a',w',hq,harr⟩:=key b k cs hro;exact⟨e,a',w',hq,.of_steps (.one (CD _) stepR_inLoop) harr⟩
 ·obtain⟨e,a',w',hq,harr⟩:=key b k cs hro;exact⟨e,a',w',hq,.of_steps (.one (CD _) stepR_loop) harr⟩
def Exit.scope (ro:Option Nat) (P:Program) (body:Code) (Q:Exit→Act→World→Prop):Exit→Act→World→Prop
 | .goto l,a,w=>match findLabel body l with
  | some rest=>yf ro P body rest Q a w
  | none=>Q (.goto l) a w
 | e,a,w=>Q e a w
theorem aby {body cur:Code}(h:cur.wpIn (FR ro) 0 P (Exit.scope ro P body Q) a w):yf ro P body cur Q a w:=by
 intro b k cs hro;obtain⟨e,a₁,w₁,hq,harr⟩:=h b (.inScope body::k) cs hro trivial (Tb _ _)
 cases e with
 | normal=>exact⟨.normal,a₁,w₁,hq,StepsIn.trans harr (.one (CD _) (step_lone_go (by simp[stepG,stepG.exec,Frame.atR])))⟩
 | exit id =>
  have hx:exitTo id (.inScope body::k)=exitTo id k:=by simp[exitTo]
  exact⟨_,a₁,w₁,hq,fun k' hk=>harr.1 k' (by simp_all),fun hr hk=>harr.2 hr (by simp_all)⟩
 | goto l =>
  have hx:gotoIn l (.inScope body::k)=match findLabel body l with | some rest=>some (.code rest::.inScope body::k) | none=>gotoIn l k:=by
   grind [gotoIn]
  simp only[Exit.scope]at hq
  cases hf:findLabel body l with
  | some rest =>
   rw[hf]at hq hx;obtain⟨e₂,a₂,w₂,hq₂,harr₂⟩:=hq b k cs hro;exact⟨e₂,a₂,w₂,hq₂,.of_steps (harr.1 _ hx) harr₂⟩
  | none =>
   rw[hf]at hq hx;exact⟨_,a₁,w₁,hq,fun k' hk=>harr.1 k' (by simp_all),fun hr hk=>harr.2 hr (by simp_all)⟩
 | ret=>exact⟨_,a₁,w₁,hq,harr⟩
 | panic ch=>exact⟨_,a₁,w₁,hq,harr⟩
 | outgrown=>exact⟨_,a₁,w₁,hq,harr⟩
theorem ahy {body:Code}(h:yf ro P body body Q a w):(Code.scope body).wpIn (FR ro) 0 P Q a w:=by
 intro b k cs hro _ _;obtain⟨e,a',w',hq,harr⟩:=h b k cs hro;exact⟨e,a',w',hq,.of_steps (.one (CD _) (step_lone_go (by simp[stepG,stepG.exec,Frame.atR]))) harr⟩
end
theorem ahg {P:Program}{n:Nat}{v:VC}{c:Code}(h:Mt P n v c) (l:Nat) :
  match oP v l with
  | some x=>∃ y,findLabel c l=some y∧Mt P n x y
  | none=>findLabel c l=none:=by
 have hgh:∀ {a:VC},pi a=true→oP a l=none:=by
  intro a
  induction a<;>grind [pi,oP]
 induction h with
 | ghostL h1 h2 ih=>grind [oP]
 | @ghostR a b c h1 h2 ih =>
  simp only[oP,hgh h1]
  cases hf:oP a l with
  | none=>simp_all
  | some x =>
   simp only[hf]at ih⊢;obtain⟨y,hy,hm⟩:=ih;exact⟨y,hy,.ghostR h1 hm⟩
 | @seq a b c d h1 h2 ih1 ih2 =>
  simp only[oP]
  cases hf:oP a l with
  | some x =>
   simp only[hf]at ih1⊢;obtain⟨y,hy,hm⟩:=ih1;exact⟨.seq y d,by grind [findLabel],.seq hm h2⟩
  | none =>
   grind [findLabel]
 | @label k =>
  simp only[oP,findLabel];by_cases e:k=l
  ·subst e;simp[Mt.skip]
  grind [Nat.beq_eq]
 | _=>grind [oP,findLabel]
section
variable {P:Program}{g:Gh}{w:World}{t:Array Value}{O:Nat→Nat}{st st':St}{a:AV}{o:Oper}{r:bI}
theorem aac:∀ {vs:List AV}{i:Nat},∀ p∈fT i vs,i≤p.1
 | [],_,p,hp=>by simp[fT]at hp
 | v::vs,i,p,hp=>by
  rcases Sx hp with rfl | hp
  ·omega
  ·have:=aac p hp;omega
theorem IV:∀ (vs:List AV) (i:Nat),bj (fT i vs)
 | [],_=>List.Pairwise.nil
 | v::vs,i=>(IV vs (i+1)).put _ _
theorem aeg {t:Array Value}{i:Nat}{x:Value}(h:t[i]?=some x):i<t.size:=by
 grind
theorem Vk {t:Array Value}:∀ {vs:List AV}{xs:List Value}{i:Nat}{Ov:Nat→Nat},RVs g w vs xs Ov→(∀ (j:Nat) (x:Value),xs[j]?=some x→t[i+j]?=some x)→gg g w (fT i vs) t Ov
 | [],xs,i,Ov,rv,_=>by exact rv.2
 | v::vs,xs,i,Ov,rv,ht=>by
  obtain⟨x,ys,O1,O2,rfl,r1,r2,hs⟩:=rv;have h0:t[i]?=some x:=ht 0 x rfl;have rr:=Vk (t:=t) (i:=i+1) r2 fun j y hj=>by have:=ht (j+1) y (by simp_all);grind
  rw[←mt (l:=fT (i+1) vs) (i:=i) fun p hp=>by have:=aac p hp;omega]at rr;obtain⟨O,ro,ho⟩:=RL.put (IV vs (i+1)) rr (i:=i) (x:=v) (O1:=O1) ⟨aeg h0,by simp_all⟩;have e:O=Ov:=funext fun b=>by simp_all
  exact e▸ro
theorem am1 {args:List AV}{hs:HS}{xs:List Value}{Oa Oh:Nat→Nat}(rv:RVs g w args xs Oa) (sh:S P g w ⟨[],hs⟩ #[] Oh) (hle:∀ b,Oa b+Oh b≤1) (hhi:∀ b,Oa b≠0→b<w.heap.size) (n:Nat) :
  S P g w ⟨fT 0 args,hs⟩ (xs.toArray++Array.replicate n undef) fun b=>Oa b+Oh b:=by
 refine S.join (IV _ _) (Vk rv fun j x hj=>?_) sh hle hhi
 grind
theorem aI.deferBlk {b:Nat}{ds ds':Option (List Deferred)}(hb:w.heap[b]?=some (.deferred ds)):aI g w g (Vm.setBlk w b (.deferred ds')) fun x=>x=b where
 obj _ _ h:=⟨h,rfl,rfl,rfl⟩
 pm b' o h:=⟨h,by
  grind [World.cell?,cq,dT]⟩
 blk b' _ h:=⟨dT h,fun _ h=>h⟩
 size:=by simp
 lp b' r h:=⟨r,by grind [dT]⟩
 same:=⟨rfl,rfl,sr hb (by grind [dx]) (by grind [dx])⟩
theorem Bv {b:Nat}(h:w.heap[b]?=some (.deferred (some []))):(Instr.takeDeferred b).run P w=.ok [] (setBlk w b (.deferred none)):=by
 simp_all [Instr.takeDeferred,getObj,setObj,Sem.run,setBlk]
theorem Qh {ro:Option Nat}{fn:Func}{tmps:Array Value}{R:Ending→World→Prop}{lo:Nat}:∀ {ms:List Deferred}{w:World},fI w O lo ms→S P g w st t O→
  (∀ w',S P g w' st t O→aI g w g w' (fun b=>lo≤b)→∃ v,(results fn tmps).run P w'=.ok v w'∧R (.returned v) w')→LeavesInM (FR ro) 0 P fn tmps R ms .returning w
 | [],w,_,s,h=>h w s (.refl _ _ _)
 | d::ds,w,⟨⟨r,h1,h2,h3,h4,h5⟩,h6⟩,s,h=>by
  refine⟨by simp,.inl ⟨r,setBlk w r (.deferred none),h1,Bv h3,?_⟩⟩;have hx:aI g w g (setBlk w r (.deferred none)) fun x=>x=r:=aI.deferBlk h3
  have hm:fI (setBlk w r (.deferred none)) O lo ds:=by
   have:∀ {es:List Deferred},(∀ d'∈es,∀ r',d'.target=.collected r'→r'<r)→fI w O lo es→fI (setBlk w r (.deferred none)) O lo es:=by
    intro es
    induction es with
    | nil=>exact fun _ _=>trivial
    | cons e es ih =>
     rintro hlt ⟨⟨q,k1,k2,k3,k4,k5⟩,k6⟩
     have:=hlt e (.head _) q k1;exact⟨⟨q,k1,k2,by grind [dT],k4,k5⟩,ih (fun d' hd'=>hlt d' (.tail _ hd')) k6⟩
   grind
  exact Qh hm (s.otherG hx h4) fun w' s' hx'=>h w' s' ((hx.mono (T:=fun b=>lo≤b) fun b _ e=>by omega).trans hx' fun _ _ h=>h)
def PD (t:Array Value):ResultVar→Sem Value
 | .tmp i=>pure (t.getD i undef)
 | .cell i ty=>do loadVar ty (←asAddr (t.getD i undef))
theorem Q7 (fn:Func) (t:Array Value):results fn t=(do let vs←fn.results.mapM (PD t);pure (if h:vs.size=1 then vs[0] else .tuple vs)):=by
 congr 1
theorem WW {α:Type}{f:α→Sem Value}{l:Array α}{xs:List Value}(h:(l.toList.mapM f).run P w=.ok xs w):(l.mapM f).run P w=.ok xs.toArray w:=by
 simp_all [Array.mapM_eq_mapM_toList]
theorem xL:∀ {vr:List mr}{fr:List ResultVar},iA P vr fr=true→∀ {st st':St}{O:Nat→Nat}{vs:List AV},cV st vr=some (vs,st')→S P g w st t O→
  ∃ xs:List Value,∃ Ov O',(fr.mapM (PD t)).run P w=.ok xs w∧RVs g w vs xs Ov∧S P g w st' t O'∧(∀ b,Ov b+O' b≤O b)∧
   xs.length=fr.length
 | [],[],_,st,st',O,vs,h,s=>by
  obtain⟨rfl,rfl⟩:=h;exact⟨[],zero,O,by simp,by simp[RVs],s,fun b=>by simp,rfl⟩
 | .tmp i::vr,.tmp j::fr,hc,st,st',O,vs,h,s=>by
  simp only[iA,Bool.and_eq_true,Nat.beq_eq]at hc;obtain⟨rfl,hc⟩:=hc;simp only[cV]at h;split at h
  ·rename_i v hv;split at h
   ·rename_i us st1 hr;obtain⟨rfl,rfl⟩:=h;obtain⟨O1,O2,_,rv,s2,l2⟩:=s.pull hv;obtain⟨xs,O3,O4,hrun,rvs,s4,l4,hlen⟩:=xL hc hr s2;refine⟨t.getD i undef::xs,fun b=>O1 b+O3 b,O4,?_,?_,s4,fun b=>by grind,by simp_all⟩
    ·simp_all [PD]
    grind [RVs]
   simp_all
  simp_all
 | .cell i n::vr,.cell j ty::fr,hc,st,st',O,vs,h,s=>by
  simp only[iA,Bool.and_eq_true,Nat.beq_eq]at hc;obtain⟨⟨rfl,hty⟩,hc⟩:=hc;simp only[cV]at h;split at h
  ·rename_i id hv;split at h
   ·rename_i v h' hl;split at h
    ·rename_i us st1 hr;obtain⟨rfl,rfl⟩:=h;obtain⟨O0,O00,_,rp,_,_⟩:=s.pull hv;obtain⟨⟨b,hob,hp⟩,_⟩:=rp;obtain⟨x,O1,O2,hrun1,rv,s2,l2⟩:=Qa hty s hob hl;obtain⟨O5,s5,l5⟩:=s2.delEnv i;obtain⟨O6,s6,l6⟩:=s5.delHeap id;obtain⟨xs,O3,O4,hrun,rvs,s4,l4,hlen⟩:=xL hc hr s6;refine⟨x::xs,fun b=>O1 b+O3 b,O4,?_,?_,s4,fun b=>by grind,by simp_all⟩
     ·simp_all [PD,asAddr]
     grind [RVs]
    simp_all
   simp_all
  simp_all
 | [],_::_,hc,_,_,_,_,_,_=>by simp[iA]at hc
 | _::_,[],hc,_,_,_,_,_,_=>by simp[iA]at hc
 | .tmp _::_,.cell _ _::_,hc,_,_,_,_,_,_=>by simp[iA]at hc
 | .cell _ _::_,.tmp _::_,hc,_,_,_,_,_,_=>by simp[iA]at hc
theorem Y0 {vf:aa}{fn:Func}(hc:iA P vf.results fn.results.toList=true) {v:AV}{hs':HS}(h:zw vf st=some (v,hs')) (s:S P g w st t O) :
  ∃ x Ov Oh,(results fn t).run P w=.ok x w∧RV g w v x Ov∧S P g w ⟨[],hs'⟩ #[] Oh∧∀ b,Ov b+Oh b≤O b:=by
 unfold zw at h;split at h
 ·rename_i v1 st1 hr;obtain⟨rfl,rfl⟩:=h;obtain⟨xs,Ov,O',hrun,rvs,s',l,hlen⟩:=xL hc hr s;obtain⟨x,ys,O1,O2,rfl,rv,⟨rfl,_⟩,hs2⟩:=rvs;obtain⟨Oe,Oh,_,sh,ho⟩:=s'.split;refine⟨x,O1,Oh,?_,rv,sh,fun b=>by grind⟩
  simp_all [Q7,WW]
 ·rename_i vs st1 hne hr;obtain⟨rfl,rfl⟩:=h;obtain⟨xs,Ov,O',hrun,rvs,s',l,hlen⟩:=xL hc hr s;obtain⟨Oe,Oh,_,sh,ho⟩:=s'.split;refine⟨.tuple xs.toArray,Ov,Oh,?_,by grind [RV],sh,fun b=>by grind⟩;have hl1:xs.length≠1:=by
   intro h1;have h2:=rvs.length;rw[h1]at h2
   match vs,h2 with
   | [v],_=>grind
  simp_all [Q7,WW]
 simp_all
end
section
variable {P:Program}{g:Gh}{w:World}{t:Array Value}{O:Nat→Nat}{st st':St}{a:AV}{o:Oper}{r:bI}
theorem kV {ro:Option Nat}{ops:Array Oper}{Q:Exit→Act→World→Prop}{i:Nat}{rest:List Nat}{ds:List Deferred}{v:Value}{w':World}(h:ops[i]?=some o) (hg:o.guard=none)
  (hd:∀ c,o.op≠.defer c) (hrun:(execOp (ev t) o).run P w=.ok (.value v) w') (hk:wpOpsIn (FR ro) 0 P ops Q rest ⟨pD t o.dst v,ds⟩ w'):wpOpsIn (FR ro) 0 P ops Q (i::rest) ⟨t,ds⟩ w:=by
 simp only[wpOpsIn,h];rw[if_pos (by grind [Region.wanted])];refine⟨fun _ _=>trivial,?_⟩
 grind [FI,Oper.uponIn_value,Rn]
theorem tj {d:Nat}(h:DA o d=true):o.dst=some d∧o.guard=none:=by
 grind [DA,Nat.beq_eq,Option.isNone_iff_eq_none]
theorem P9 {x:Operand}(h:Ph x=true):x=.const (.slice none 0 0):=by
 grind [Ph]
theorem pC {i:Nat}{x:Operand}(h:xS i x=true):x=.tmp i:=by
 unfold xS at h;grind [Nat.beq_eq]
theorem avO {α:Type}{r:Array α}{x:α}(h:r.toList=[x]):r=#[x]:=by
 grind
theorem QU {d:Nat}{r:Array Oper}(h:Pb d r.toList=true):∃ o,r=#[o]∧o.dst=some d∧o.guard=none∧o.op=.assign (.const (.slice none 0 0)):=by
 unfold Pb at h
 grind [tj,P9]
theorem aeN {m:Nat}{r:Array Oper}(h:ZI P m r.toList=true):∃ a b T u,r=#[a,b]∧a.dst=some 3∧a.guard=none∧a.op=.move (.tmp 0)∧b.dst=some 4∧b.guard=none∧
  b.op=.binOp .eql T (.tmp 3) (.const (.slice none 0 0)) u∧dW P T m=true:=by
 unfold ZI at h
 grind [tj,pC,P9]
theorem ae4 {m:Nat}{r:Array Oper}(h:Z6 P m r.toList=true):∃ a b c d T ats e',r=#[a,b,c,d]∧a.dst=some 5∧a.guard=none∧a.op=.buildSlice T 0 #[]∧dW P T m=true∧
  b.dst=some 6∧b.guard=none∧b.op=.move (.tmp 0)∧c.dst=some 7∧c.guard=none∧c.op=.call ⟨.builtin .append,#[.tmp 5,.tmp 6],ats⟩∧ats=#[mE ⟨.builtin .append,#[.tmp 5,.tmp 6],ats⟩,ats.getD 1 0]∧
  dW P (mE ⟨.builtin .append,#[.tmp 5,.tmp 6],ats⟩) m=true∧ja P (mE ⟨.builtin .append,#[.tmp 5,.tmp 6],ats⟩) m=true∧P.underlying (ats.getD 1 0)=some (.slice e')∧
  d.dst=some 2∧d.guard=none∧d.op=.assign (.tmp 7):=by
 unfold Z6 at h;split at h
 ·rename_i a b c d e;simp only[Bool.and_eq_true]at h;obtain⟨⟨⟨⟨⟨⟨⟨h1,h2⟩,h3⟩,h4⟩,h5⟩,h6⟩,h7⟩,h8⟩:=h;obtain⟨k1,k2⟩:=tj h1;obtain⟨k3,k4⟩:=tj h3;obtain⟨k5,k6⟩:=tj h5;obtain⟨k7,k8⟩:=tj h7;split at h2
  ·rename_i T ps hops;simp only[Bool.and_eq_true]at h2;split at h4
   ·split at h6
    ·rename_i k hk;obtain⟨callee,args,ats⟩:=k;simp only[Bool.and_eq_true]at h6;obtain⟨⟨⟨⟨⟨q1,q2⟩,q3⟩,q4⟩,q5⟩,q6⟩:=h6;have:=kI q1;subst this;split at q6
     ·simp only[Bool.and_eq_true]at q6;have e1:=pC q6.1;have e2:=pC q6.2;have:args=#[.tmp 5,.tmp 6]:=by grind
      subst this;split at q5
      ·rename_i e' he';split at h8
       ·exact⟨a,b,c,d,T,ats,e',by grind,k1,k2,by simp_all,h2.1,k3,k4,by grind [pC],k5,k6,hk,CI q2,q3,q4,he',k7,k8,by grind [pC]⟩
       simp_all
      simp_all
     simp_all
    simp_all
   simp_all
  simp_all
 simp_all
theorem lj {i j:Nat}{v:Value}(h:j<t.size):(t.setIfInBounds i v).getD j undef=if i=j then v else t.getD j undef:=by
 simp only[Array.getD_eq_getD_getElem?,Array.getElem?_setIfInBounds]
 grind
theorem afC {m:Nat}{c:Code}(hc:Hb P m c=true) {out:aY}(h:ET m st=some (out,st')) (ht:8≤t.size) (s:S P g w st t O) :
  c.wpIn (FR none) 0 P (aW P g w t O [] none out st') ⟨t,[]⟩ w:=by
 unfold Hb at hc;split at hc
 ·rename_i i0 r0 i1 r1 i2 r2 i3 r3;simp only[Bool.and_eq_true]at hc;obtain⟨⟨⟨c0,c1⟩,c2⟩,c3⟩:=hc;obtain⟨o0,rfl,d0,gd0,p0⟩:=QU c0;obtain⟨o1,o2,T,u,rfl,d1,gd1,p1,d2,gd2,p2,hT⟩:=aeN c1;obtain⟨o3,rfl,d3,gd3,p3⟩:=QU c2;obtain⟨o4,o5,o6,o7,T4,ats,e',rfl,d4,gd4,p4,hT4,d5,gd5,p5,d6,gd6,p6,hats,hT6,hz6,hu1,d7,gd7,p7⟩:=ae4 c3;unfold ET at h;split at h
  ·rename_i v hv;split at h
   ·rename_i xs hxs;split at h
    ·rename_i hb;simp only[Bool.and_eq_true,Nat.ble_eq]at hb;obtain⟨hok,hmost⟩:=hb;simp only[Option.some.injEq,Prod.mk.injEq]at h;obtain⟨rfl,rfl⟩:=h;have hl:=DL hok;obtain⟨Ov,O1,h0t,rv,s1,l1⟩:=s.pull hv;obtain⟨ad,cap,news0,hx,hels0⟩:=t9 s hxs hl rv;obtain⟨Oe,Oh,_,sh,ho⟩:=s.split;generalize hX:t.getD 0 undef=X at *;obtain⟨el,hu,hsz,hm,hby⟩:=dR hT;have fin:∀ (t':Array Value) (w':World) (g':Gh) (Or O':Nat→Nat),t'.size=t.size→RV g' w' (.own true m xs) (t'.getD 2 undef) Or→S P g' w' ⟨[],st.hs⟩ #[] O'→aI g w g' w' (fun b=>O b≠0)→
       (∀ b,Or b+O' b≤1)→(∀ b,b<w.heap.size→Or b+O' b≤O b)→(∀ b,Or b≠0→b<w'.heap.size)→aW P g w t O [] none .ret ⟨[(2,.own true m xs)],st.hs⟩ .ret ⟨t',[]⟩ w':=by
      intro t' w' g' Or O' hsz' rv' s' hx' hle hold hhi;refine⟨rfl,g',fun b=>Or b+O' b,[],⟨S.join (by simp[bj]) ⟨Or,zero,⟨by grind,rv'⟩,fun _=>rfl,fun b=>by simp⟩ s' hle hhi,hx',hold,hsz'⟩,rfl,trivial,fun _=>rfl⟩
     have nodef:∀ {op:Op}{op':Op},op=op'→(∀ c,op'≠.defer c)→∀ c,op≠.defer c:=fun e h c e2=>h c (e▸e2)
     refine wpIn_seq (wpIn_region ?_);show wpOpsIn _ _ _ _ _ [0] _ _;refine kV (o:=o0) (v:=.slice none 0 0) (w':=w) rfl gd0 (nodef p0 (by simp)) (by simp[execOp,p0,ev]) ?_;refine wpIn_seq (wpIn_seq (wpIn_region ?_));show wpOpsIn _ _ _ _ _ [0,1] _ _;have hev0:ev (pD t (some 2) (.slice none 0 0)) (.tmp 0)=X:=by
      show (t.setIfInBounds 2 _).getD 0 undef=X
      grind [lj]
     rw[d0];refine kV (o:=o1) (v:=X) (w':=w) rfl gd1 (nodef p1 (by simp)) (by simp[execOp,p1,hev0]) ?_;rw[d1];generalize ht2:pD (pD t (some 2) (.slice none 0 0)) (some 3) X=t2;have hs2:t2.size=t.size:=by grind [kH]
     have hev3:ev t2 (.tmp 3)=X:=by
      rw[←ht2];show ((pD t (some 2) (.slice none 0 0)).setIfInBounds 3 X).getD 3 undef=X
      grind [lj,kH]
     have heq:(Op.equal T X (.slice none 0 0)).run P w=.ok ad.isNone w:=by
      show (Op.equalIn (9999+1) T X (.slice none 0 0)).run P w=_;rw[hx];unfold Op.equalIn;rw[Sem.run_bind,ar hu]
      cases ad<;>simp
     have hguard:(eqGuard .eql T (.tmp 3) (.const (.slice none 0 0)) X (.slice none 0 0)).run P w=.ok () w:=by
      rw[hx];unfold eqGuard;simp
     refine kV (o:=o2) (v:=.bool ad.isNone) (w':=w) rfl gd2 (nodef p2 (by simp)) ?_ ?_
     ·simp only[execOp,p2,hev3];have hc:ev t2 (.const (.slice none 0 0))=.slice none 0 0:=rfl;rw[hc,Sem.run_bind,Sem.run_bind,hguard];have hbin:(binOp .eql T X (.slice none 0 0)).run P w=.ok (.bool ad.isNone) w:=by
       rw[hx];rw[hx]at heq;show ((do pure (.bool (←Op.equal T (.slice ad xs.length cap) (.slice none 0 0))):Sem Value)).run P w=_;rw[Sem.run_bind,heq];rfl
      grind [Result.andThen_ok,Sem.run_pure]
     ·rw[d2];generalize ht3:pD t2 (some 4) (.bool ad.isNone)=t3;have hs3:t3.size=t.size:=by grind [kH]
      have hev4:ev t3 (.tmp 4)=.bool ad.isNone:=by
       rw[←ht3];show (t2.setIfInBounds 4 _).getD 4 undef=_
       grind [lj]
      have hev03:ev t3 (.tmp 0)=X:=by
       rw[←ht3,←ht2];show (((t.setIfInBounds 2 _).setIfInBounds 3 _).setIfInBounds 4 _).getD 0 undef=X
       grind [lj]
      show (Code.cond (.tmp 4) (.seq (.region i2 #[o3] false) .ret) .skip).wpIn (FR none) 0 P _ ⟨t3,[]⟩ w
      cases had:ad with
      | none =>
       refine wpIn_cond_true (by rw[AC,hev4,had];rfl) (wpIn_seq (wpIn_region ?_));show wpOpsIn _ _ _ _ _ [0] _ _;refine kV (o:=o3) (v:=.slice none 0 0) (w':=w) rfl gd3 (nodef p3 (by simp)) (by simp[execOp,p3,ev]) (wpIn_ret ?_);rw[d3];have hnil:xs=[]:=List.eq_nil_of_length_eq_zero (hels0.nn had);refine fin _ w g zero Oh (by rw[kH,hs3]) ?_ sh (.refl _ _ _) (fun b=>by have:=ho b;have:=s.le b;grind) (fun b _=>by grind) (fun b hb=>by simp at hb);have:(pD t3 (some 2) (.slice none 0 0)).getD 2 undef=.slice none 0 0:=by
        show (t3.setIfInBounds 2 _).getD 2 undef=_
        grind [lj]
       grind [RV,wb]
      | some ad' =>
       refine wpIn_cond_false (by rw[AC,hev4,had];rfl) (wpIn_skip ?_);refine wpIn_seq (wpIn_region ?_);show wpOpsIn _ _ _ _ _ [0,1,2,3] _ _;obtain⟨el4,hu4,hsz4,hm4,hby4⟩:=dR hT4;have hbuild:(Instr.buildSlice T4 0 #[]).run P w=.ok (.slice (some ⟨w.heap.size,0,none⟩) 0 0) (w.alloc (.cells #[] el4)):=by
        have hr:∀ f:Nat→Value,(Array.range (0*m)).map f=#[]:=by
         grind
        simp only[Instr.buildSlice,ar hu4,cm hsz4,Sem.run_bind,Result.andThen_ok,Sem.run_ite,Instr.fill,Nat.zero_mul,if_true,Sem.run_pure];have hr0:∀ f:Nat→Value,(Array.range 0).map f=#[]:=by
         grind
        simp[newRow,hr0]
       refine kV (o:=o4) (v:=.slice (some ⟨w.heap.size,0,none⟩) 0 0) (w':=w.alloc (.cells #[] el4)) rfl gd4 (nodef p4 (by simp)) (by simp[execOp,p4,hbuild]) ?_;rw[d4];generalize ht5:pD t3 (some 5) (.slice (some ⟨w.heap.size,0,none⟩) 0 0)=t5;have hs5:t5.size=t.size:=by grind [kH]
       have hev05:ev t5 (.tmp 0)=X:=by
        rw[←ht5];show (t3.setIfInBounds 5 _).getD 0 undef=X;rw[lj (by omega),if_neg (by omega)];exact hev03
       refine kV (o:=o5) (v:=X) (w':=w.alloc (.cells #[] el4)) rfl gd5 (nodef p5 (by simp)) (by simp[execOp,p5,hev05]) ?_;rw[d5];generalize ht6:pD t5 (some 6) X=t6;have hs6:t6.size=t.size:=by grind [kH]
       have hev66:ev t6 (.tmp 6)=X:=by
        rw[←ht6];show (t5.setIfInBounds 6 _).getD 6 undef=X
        grind [lj]
       have hev65:ev t6 (.tmp 5)=.slice (some ⟨w.heap.size,0,none⟩) 0 0:=by
        rw[←ht6,←ht5];show ((t3.setIfInBounds 5 _).setIfInBounds 6 _).getD 5 undef=_
        grind [lj]
       have hx1:aI g w g (w.alloc (.cells #[] el4)) fun _=>False:=aI.alloc s.pmlt _ _
       have hpl:∀ b o,g.pm b o→b<(w.alloc (.cells #[] el4)).heap.size:=fun b o h=>Nat.lt_of_lt_of_le (s.pmlt b o h) hx1.size
       have sx:=s.extF hx1 rfl hpl;have shx:=sh.extF hx1 rfl hpl;have rvx:=RV.ext hx1 _ _ _ rv (by simp);obtain⟨ad2,cap2,news,hxx,hels⟩:=t9 sx hxs hl rvx;rw[hx,had]at hxx;simp only[Value.slice.injEq,true_and]at hxx;obtain⟨rfl,rfl⟩:=hxx;obtain⟨el6,hu6,hsz6,hm6,hby6⟩:=dR hT6;obtain⟨el6',i6,zv,hu6',hi,hz,hzs⟩:=lG hz6;rw[hu6]at hu6';simp only[Option.some.injEq,TypeDesc.slice.injEq]at hu6';subst hu6';rw[DD hi]at hby6;generalize mE ⟨.builtin .append,#[.tmp 5,.tmp 6],ats⟩=T0 at *;generalize ats.getD 1 0=T1 at *;have hsrc:Rb P (w.alloc (.cells #[] el4)) T1 X el6 m xs.length news:=by
        refine⟨hels.len,hels.one,.inl ⟨⟨e',hu1⟩,⟨ad,cap,hx⟩,fun w1 hw=>?_⟩⟩;have:=hels.first (P:=P) (len:=xs.length) (cap:=cap) (Nat.le_refl _) hw
        rw[←hels.len,List.take_length,←had,←hx]at this;exact this
       have hmost':xs.length≤4294967296:=hmost;have hApp:nz P g (w.alloc (.cells #[] el4)) #[] Oh zero ⟨[],st.hs⟩ (.own true m xs) ((Builtin.append_ #[T0,T1] o6.type #[.slice (some ⟨w.heap.size,0,none⟩) 0 0,X]).run P (w.alloc (.cells #[] el4))):=by
        by_cases hxs0:xs.length=0
        ·have hnil:news=[]:=List.eq_nil_of_length_eq_zero (by grind [uI.len]);have hxn:xs=[]:=List.eq_nil_of_length_eq_zero hxs0;have hrun:=vS (P:=P) (w:=w.alloc (.cells #[] el4)) (ty:=o6.type) hu6 hi (Gq hsz6 hi) hm6 hby6 hmost' hsrc (base:=some ⟨w.heap.size,0,none⟩) (sLen:=0) (sCap:=0) (by omega);refine⟨.slice (some ⟨w.heap.size,0,none⟩) 0 0,w.alloc (.cells #[] el4),g,zero,Oh,?_,?_,shx,.refl _ _ _,fun b=>by have:=shx.le b;simp_all,fun b _=>by simp,fun b hb=>by simp at hb⟩
         ·simp_all [storeCells]
         simp_all [RV,wb]
        ·have:=NF (Oa:=zero) (xs:=[]) (base:=some ⟨w.heap.size,0,none⟩) (sCap:=0) (olds:=[]) (ty:=o6.type) shx hu6 hi hz hzs (Gq hsz6 hi) hm6 hby6 hsrc hels.rd (fun e he=>by simp at he) hl (by simp)
          (fun j d h=>by simp at h) (fun w1 _=>oD m _ 0 0 w1) (by simp_all) (by omega)
         simp_all
       obtain⟨vv,w2,g2,Or,O2,k1,k2,k3,k4,k5,k6,k7⟩:=hApp;refine kV (o:=o6) (v:=vv) (w':=w2) rfl gd6 (nodef p6 (by simp)) ?_ ?_
       ·simp_all [execOp,resolve,invoke,builtin]
       ·rw[d6];generalize ht7:pD t6 (some 7) vv=t7;have hs7:t7.size=t.size:=by grind [kH]
        have hev77:ev t7 (.tmp 7)=vv:=by
         rw[←ht7];show (t6.setIfInBounds 7 _).getD 7 undef=vv
         grind [lj]
        refine kV (o:=o7) (v:=vv) (w':=w2) rfl gd7 (nodef p7 (by simp)) (by simp_all [execOp]) (wpIn_ret ?_);have hle1:w.heap.size≤(w.alloc (.cells #[] el4)).heap.size:=hx1.size;refine fin _ w2 g2 Or O2 (by rw[kH,hs7]) ?_ k3 (((hx1.mono (T:=fun b=>O b≠0) fun _ _ h=>h.elim)).trans k4 fun b hb hq=>?_) k5 (fun b hb=>?_) k7
        ·have:(pD t7 (some 2) vv).getD 2 undef=vv:=by
          show (t7.setIfInBounds 2 _).getD 2 undef=_
          grind [lj]
         simp_all
        all_goals grind
    grind
   grind
  grind
 simp_all
end
def fE:Obj→Obj→Prop
 | .cells a,.cells b=>shareAll a=shareAll b
 | o,o'=>o=o'
def bE (h h':af):Prop:=∀ id o,get h id=some o→∃ o',get h' id=some o'∧fE o o'
theorem fE.refl (o:Obj):fE o o:=by cases o<;>simp[fE]
theorem bE.refl (h:af):bE h h:=fun _ o ho=>⟨o,ho,.refl o⟩
theorem bE.arr {h h':af}(H:bE h h') {id m:Nat}{xs:List (List D)}(g:get h id=some (.arr m xs)):get h' id=some (.arr m xs):=by
 obtain⟨o,h1,h2⟩:=H id _ g
 grind [fE]
theorem bE.cells {h h':af}(H:bE h h') {id:Nat}{cs:List AV}(g:get h id=some (.cells cs)):∃ cs',get h' id=some (.cells cs')∧shareAll cs=shareAll cs':=by
 obtain⟨o,h1,h2⟩:=H id _ g
 cases o<;>simp[fE]at h2
 simp_all
def cI (f:St→Option (AV×St)) (R M:List Nat):Prop :=
 ∀ e hs v st1,f ⟨e,hs⟩=some (v,st1)→st1.hs=hs∧(bj e→bj st1.env)∧(∀ k,k∉M→get st1.env k=get e k)∧
  ∀ e' hs',(∀ k∈R,get e' k=get e k)→bE hs.heap hs'.heap→∃ e1',f ⟨e',hs'⟩=some (v,⟨e1',hs'⟩)∧(∀ k,k∉M→get e1' k=get e' k)∧∀ k∈M,get e1' k=get st1.env k
theorem Az {α:Type}(l:List (Nat×α)) (i k:Nat):get (del l i) k=if k=i then none else get l k:=by
 induction l<;>grind [TQ,tH,jf,dC]
theorem cR {α:Type}(l:List (Nat×α)) (i k:Nat) (x:α):get (put l i x) k=if k=i then some x else get l k:=by
 induction l<;>grind [Tw,dC,nk]
theorem oj {α:Type}:∀ {a b:List (Nat×α)},bj a→bj b→(∀ k,get a k=get b k)→a=b
 | [],[],_,_,_=>rfl
 | [],(k,v)::b,_,_,h=>by have:=h k;grind [dC,tH]
 | (k,v)::a,[],_,_,h=>by have:=h k;grind [dC,tH]
 | (k,v)::a,(j,u)::b,ha,hb,h=>by
  have ha':=List.pairwise_cons.1 ha;have hb':=List.pairwise_cons.1 hb;have none_of:∀ {l:List (Nat×α)}{i:Nat},(∀ p∈l,zQ i p.1)→get l i=none:=by
   intro l i hl
   induction l with
   | nil=>rfl
   | cons p l ih =>
    grind [dC]
  have hkj:k=j:=by
   rcases anJ k j with hlt | e | hlt
   ·have h1:=h k
    grind [dC]
   ·exact e
   ·have h1:=h j
    grind [dC]
  subst hkj;have hvu:v=u:=by have h1:=h k;grind [dC]
  subst hvu;rw[oj ha'.2 hb'.2 fun i=>?_];by_cases e:k=i
  ·grind
  ·have h1:=h i
   grind [dC]
theorem IW {e e1:aq}{x:Rd}{v:AV}(h:rd e x=some (v,e1)):(bj e→bj e1)∧(∀ k,get e1 k=if k∈gj x then none else get e k)∧
  ∀ e',(∀ k∈jP x,get e' k=get e k)→∃ e1',rd e' x=some (v,e1')∧∀ k,get e1' k=if k∈gj x then none else get e' k:=by
 cases x<;>grind [rd,gj,jP,bj.del,Az]
theorem Dc:∀ {rs:List Rd}{e e1:aq}{vs:List AV},rdAll e rs=some (vs,e1)→(bj e→bj e1)∧(∀ k,get e1 k=if k∈aC rs then none else get e k)∧
  ∀ e',(∀ k∈aO rs,get e' k=get e k)→∃ e1',rdAll e' rs=some (vs,e1')∧∀ k,get e1' k=if k∈aC rs then none else get e' k
 | [],e,e1,vs,h=>by
  grind [rdAll,aC]
 | x::rs,e,e1,vs,h=>by
  simp only[rdAll]at h;split at h
  ·simp at h
  ·rename_i v e2 h1;split at h
   ·simp at h
   ·rename_i us e3 h2;obtain⟨rfl,rfl⟩:=h;obtain⟨s1,g1,l1⟩:=IW h1;obtain⟨s2,g2,l2⟩:=Dc h2;have hm:∀ k,(k∈aC (x::rs))↔(k∈gj x∨k∈aC rs):=fun k=>by simp[aC]
    refine⟨fun hs=>s2 (s1 hs),fun k=>?_,fun e' he=>?_⟩
    ·grind
    ·obtain⟨e2',h1',g1'⟩:=l1 e' fun k hk=>he k (by grind [aO])
     obtain⟨e3',h2',g2'⟩:=l2 e2' fun k hk=>by
      grind [aO]
     refine⟨e3',by grind [rdAll],fun k=>?_⟩
     grind
theorem cI.rds {f:St→Option (AV×St)}{rs:List Rd}(F:List AV→HS→Option AV)
  (mono:∀ vs hs hs' v,bE hs.heap hs'.heap→F vs hs=some v→F vs hs'=some v)
  (h:∀ e hs,f ⟨e,hs⟩=match rdAll e rs with | none=>none | some (vs,e1)=>match F vs hs with | none=>none | some v=>some (v,⟨e1,hs⟩)):cI f (aO rs) (aC rs):=by
 intro e hs v st1 hf;rw[h]at hf;split at hf
 ·simp at hf
 ·rename_i vs e1 hr;split at hf
  ·simp at hf
  ·obtain⟨rfl,rfl⟩:=hf;obtain⟨s1,g1,l1⟩:=Dc hr;refine⟨rfl,s1,fun k hk=>by simp_all,fun e' hs' he hle=>?_⟩;obtain⟨e1',hr',g1'⟩:=l1 e' he;exact⟨e1',by grind,fun k hk=>by simp_all,fun k hk=>by simp_all⟩
theorem fS:∀ (cs:List AV),shareAll cs=cs.map share
 | []=>rfl
 | c::r=>by simp only[kE,fS r,List.map_cons]
theorem agc (v:AV):toD (share v)=toD v:=by
 cases v<;>try rfl
 rename_i p m xs
 cases p<;>rfl
theorem RA:∀ (cs:List AV),iy (shareAll cs)=iy cs
 | []=>rfl
 | c::r=>by simp only[kE,iy,agc,RA r]
theorem ah9 {a b:List AV}(h:shareAll a=shareAll b) {i:Nat}{v:AV}(g:a[i]?=some v):∃ u,b[i]?=some u∧share u=share v:=by
 rw[fS,fS]at h;have:=congrArg (fun l=>l[i]?) h
 grind
theorem ag2 {a b:List AV}(h:shareAll a=shareAll b):a.length=b.length:=by
 rw[fS,fS]at h;simpa using congrArg List.length h
theorem ah0 {a b:List AV}(h:shareAll a=shareAll b) (i n:Nat):shareAll (sub a i n)=shareAll (sub b i n):=by
 grind [fS,sub,List.map_take,List.map_drop]
theorem bE.load {h h':af}(H:bE h h') {n:Option Nat}{p u:AV}{k:af}(hl:loadAt h n 0 p=some (u,k)):∃ k',loadAt h' n 0 p=some (u,k'):=by
 cases p<;>simp only[loadAt,reduceCtorEq]at hl⊢
 ·split at hl<;>grind [cells,ah9,ag2,ah0]
 all_goals grind [arr]
theorem bE.objElems {h h':af}(H:bE h h') {id:Nat}{xs:List (List D)}(g:objElems h id=some xs):objElems h' id=some xs:=by
 grind [Vm.objElems,arr,cells,RA]
theorem bE.elems {h h':af}(H:bE h h') {v:AV}{xs:List (List D)}(g:elems h v=some xs):elems h' v=some xs:=by
 unfold Go.Vm.elems at g⊢
 grind [objElems]
theorem bE.viewOne {h h':af}(H:bE h h') {v u:AV}(g:viewOne h v=some u):viewOne h' v=some u:=by
 unfold Go.Vm.viewOne at g⊢
 grind [elems]
theorem bE.viewAll {h h':af}(H:bE h h'):∀ {vs us:List AV},viewAll h vs=some us→viewAll h' vs=some us
 | [],_,g=>g
 | v::r,us,g=>by
  simp only[Go.Vm.viewAll]at g⊢;split at g
  ·simp at g
  ·rename_i x hx;split at g
   ·simp at g
   ·rename_i xs hxs;simp only[H.viewOne hx,H.viewAll hxs];exact g
theorem bE.viewArg {h h':af}(H:bE h h') {v u:AV}(g:viewArg h v=some u):viewArg h' v=some u:=by
 unfold Go.Vm.viewArg at g⊢
 grind [viewAll,viewOne]
theorem bE.viewArgs {h h':af}(H:bE h h'):∀ {vs us:List AV},viewArgs h vs=some us→viewArgs h' vs=some us
 | [],_,g=>g
 | v::r,us,g=>by
  simp only[Go.Vm.viewArgs]at g⊢;split at g
  ·simp at g
  ·rename_i x hx;split at g
   ·simp at g
   ·rename_i xs hxs;simp only[H.viewArg hx,H.viewArgs hxs];exact g
theorem bE.call {r:bI}{f:FuncId}{vs:List AV}{h h':af}(H:bE h h') {v:AV}(g:cy r f vs h=some v):cy r f vs h'=some v:=by
 grind [cy,viewArgs]
theorem bE.okSl {h h':af}(H:bE h h') {m:Nat}{v:AV}(g:okSl h m v=true):okSl h' m v=true:=by
 unfold Go.Vm.okSl at g⊢
 grind [arr,cells]
section
variable {r:bI}
theorem amL (x:Rd):cI (KM x) (aO [x]) (aC [x]):=by
 refine cI.rds (fun vs _=>match vs with | [v]=>some v | _=>none) (fun _ _ _ _ _ h=>h) fun e hs=>?_
 grind [KM,rdAll]
theorem ahU (zs:List AV) (ps:List (Nat×Nat×Rd)):cI (wy zs ps) (aO (mw ps)) (aC (mw ps)):=by
 refine cI.rds (fun vs _=>match bW zs (nc ps vs) with | some cs=>some (.agg cs) | none=>none) (fun _ _ _ _ _ h=>h) fun e hs=>?_
 grind [wy]
theorem amx (m:Nat) (ps:List Rd):cI (Gd m ps) (aO ps) (aC ps):=by
 refine cI.rds (fun vs _=>match fw m vs with | some xs=>some (.own true m xs) | none=>none) (fun _ _ _ _ _ h=>h) fun e hs=>?_
 grind [Gd]
theorem atr {h:af}{n:Option Nat}{p v:AV}{h':af}(hl:loadAt h n 0 p=some (v,h')):h'=h:=by
 cases p<;>simp only[loadAt,reduceCtorEq]at hl
 all_goals grind
def ldV (n:Option Nat) (vs:List AV) (hs:HS):Option AV :=
 match vs with
 | [v]=>(match loadAt hs.heap n 0 v with | some (u,_)=>some u | none=>none)
 | _=>none
theorem amT {n:Option Nat}(vs:List AV) (hs hs':HS) (v:AV) (H:bE hs.heap hs'.heap) (h:ldV n vs hs=some v):ldV n vs hs'=some v:=by
 unfold ldV at h⊢
 grind [bE.load]
theorem aqT (n:Option Nat) (p:Rd):cI (xz n 0 p) (aO [p]) (aC [p]):=by
 refine cI.rds (ldV n) amT fun e hs=>?_
 simp only[xz,rdAll]
 cases rd e p with
 | none=>rfl
 | some q =>
  obtain⟨v,e1⟩:=q
  cases hl:loadAt hs.heap n 0 v with
  | none=>simp only[ldV,hl]
  | some q=>have:=atr hl;simp_all [ldV]
theorem afX (x:Rd):cI (AB x) (aO [x]) (aC [x]):=by
 refine cI.rds (fun vs _=>match vs with | [v]=>(match v with | .ptr .. | .pel .. | .pim .. | .fn .. | .yield ..=>some v | _=>none) | _=>none) (fun _ _ _ _ _ h=>h) fun e hs=>?_
 grind [AB,rdAll]
theorem aoH (op:BinOp) (x y:Rd):cI (Fl op x y) (aO [x,y]) (aC [x,y]):=by
 refine cI.rds (fun vs _=>match vs with | [a,b]=>bH op a b | _=>none) (fun _ _ _ _ _ h=>h) fun e hs=>?_
 grind [Fl,Ki,rdAll]
theorem ajJ (neg:Bool) (x y:Rd):cI (Ei neg x y) (aO [x,y]) (aC [x,y]):=by
 refine cI.rds (fun vs _=>match vs with | [a,b]=>(match a,b with | .d (.bool a),.d (.bool b)=>some (.bool (match neg with | true=>!(a == b) | false=>a == b)) | _,_=>none) | _=>none) (fun _ _ _ _ _ h=>h) fun e hs=>?_
 grind [Ei,rdAll]
theorem ajw (neg:Bool) (ks:List Bool) (x y:Rd):cI (EY neg ks x y) (aO [x,y]) (aC [x,y]):=by
 refine cI.rds (fun vs _=>match vs with | [a,b]=>(match a,b with | .agg a,.agg b=>(match aB ks a b with | some t=>some (.bool (match neg with | true=>!t | false=>t)) | none=>none) | _,_=>none) | _=>none) (fun _ _ _ _ _ h=>h) fun e hs=>?_
 simp only[EY,rdAll]
 cases rd e x<;>grind
theorem aqH (op:UnOp) (x:Rd):cI (Uc op x) (aO [x]) (aC [x]):=by
 refine cI.rds (fun vs _=>match vs with | [a]=>S7 op a | _=>none) (fun _ _ _ _ _ h=>h) fun e hs=>?_
 grind [Uc,rdAll]
theorem ajX (k:IntKind) (x:Rd):cI (Cs k x) (aO [x]) (aC [x]):=by
 refine cI.rds (fun vs _=>match vs with | [.d (.int _ n)]=>some (.int k (wr k n)) | _=>none) (fun _ _ _ _ _ h=>h) fun e hs=>?_
 grind [Cs,rdAll]
theorem ahb (x:Rd):cI (Ee x) (aO [x]) (aC [x]):=by
 refine cI.rds (fun vs hs=>match vs with | [v]=>(match elems hs.heap v with | some xs=>(match ov xs with | some s=>some (.d (.str s)) | none=>none) | none=>none) | _=>none) (fun vs hs hs' v H h=>?_) fun e hs=>?_
 all_goals grind [bE.elems,Ee,rdAll]
theorem aal (z:List D) (x y:Rd):cI (iF z x y) (aO [x,y]) (aC [x,y]):=by
 refine cI.rds (fun vs _=>match vs with | [n,c]=>(match cB c aP with | some c=>(match cB n c with | some n=>some (.own true z.length (List.replicate n z)) | none=>none) | none=>none) | _=>none) (fun _ _ _ _ _ h=>h) fun e hs=>?_
 grind [iF,rdAll]
theorem arf (off:Nat) (p:Rd):cI (Sp off p) (aO [p]) (aC [p]):=by
 refine cI.rds (fun vs _=>match vs with | [a]=>fZ off a | _=>none) (fun _ _ _ _ _ h=>h) fun e hs=>?_
 grind [Sp,rdAll]
theorem an4 (off:Nat) (n:Option Nat) (x:Rd):cI (GU off n x) (aO [x]) (aC [x]):=by
 refine cI.rds (fun vs _=>match vs with | [.agg cs]=>yD n cs off | _=>none) (fun _ _ _ _ _ h=>h) fun e hs=>?_
 grind [GU,rdAll]
def Pl (n k:Nat) (o:Option (List (List D))):Option AV :=
 match o with
 | some xs=>match xs[k]? with
  | some x=>match Nat.beq x.length n with
   | true=>some (.pim x 0)
   | false=>none
  | none=>none
 | none=>none
def Yb (n:Nat) (h:af) (k:Nat) (v:AV):Option AV :=
 match v with
 | .sl id off len=>match Nat.ble len k with
  | true=>none
  | false=>match get h id with
   | some (.arr m _)=>match Nat.beq m n with
    | true=>some (.pel id (off+k) 0)
    | false=>none
   | some (.cells _)=>match Nat.beq n 1 with
    | true=>some (.ptr id (off+k))
    | false=>none
   | _=>none
 | v=>Pl n k (elems h v)
theorem aoA {n k:Nat}{h h':af}(H:bE h h') {v u:AV}(g:Yb n h k v=some u):Yb n h' k v=some u:=by
 have other:Pl n k (elems h v)=some u→Pl n k (elems h' v)=some u:=by
  intro g
  cases hx:elems h v<;>grind [Pl,bE.elems]
 cases v<;>simp only[Yb]at g⊢<;>try exact other g
 grind [bE.arr,bE.cells]
theorem ao8 (n:Nat) (x i:Rd):cI (Yx n x i) (aO [x,i]) (aC [x,i]):=by
 refine cI.rds (fun vs hs=>match vs with | [v,i]=>(match lR i with | some k=>Yb n hs.heap k v | none=>none) | _=>none) (fun vs hs hs' v H h=>?_) fun e hs=>?_
 ·grind [aoA]
 simp only[Yx,rdAll]
 cases rd e x with
 | none=>rfl
 | some q =>
  obtain⟨a,e1⟩:=q;simp only
  cases rd e1 i<;>grind [Pl,Yb]
theorem akf (len n:Nat) (p i:Rd):cI (EO len n p i) (aO [p,i]) (aC [p,i]):=by
 refine cI.rds (fun vs _=>match vs with | [p,i]=>(match lR i with | some i=>(match Nat.ble len i with | true=>none | false=>fZ (i*n) p) | none=>none) | _=>none) (fun _ _ _ _ _ h=>h) fun e hs=>?_
 simp only[EO,rdAll]
 grind
theorem aq0 (len n:Nat) (ag:Bool) (x i:Rd):cI (Nm len n ag x i) (aO [x,i]) (aC [x,i]):=by
 refine cI.rds (fun vs _=>match vs with | [.agg cs,i]=>(match lR i with | some i=>(match Nat.ble len i with | true=>none | false=>yD (W5 ag n) cs (i*n)) | none=>none) | _=>none) (fun _ _ _ _ _ h=>h) fun e hs=>?_
 simp only[Nm,rdAll]
 cases rd e x with
 | none=>rfl
 | some q =>
  obtain⟨a,e1⟩:=q;simp only
  cases hi:rd e1 i<;>grind
theorem aon (x i:Rd):cI (Fy x i) (aO [x,i]) (aC [x,i]):=by
 refine cI.rds (fun vs _=>match vs with | [.d (.str s),i]=>(match lR i with | some i=>(match s[i]? with | some b=>some (.int .u8 (.ofNat b.toNat)) | none=>none) | none=>none) | _=>none) (fun _ _ _ _ _ h=>h) fun e hs=>?_
 grind [Fy,rdAll]
theorem amS (x:Rd):cI (J7 x) (aO [x]) (aC [x]):=by
 refine cI.rds (fun vs _=>match vs with | [a]=>(match lenOf a with | some n=>some (.int .i64 (.ofNat n)) | none=>none) | _=>none) (fun _ _ _ _ _ h=>h) fun e hs=>?_
 grind [J7,rdAll]
theorem amZ (x:Rd):cI (G5 x) (aO [x]) (aC [x]):=by
 refine cI.rds (fun vs _=>match vs with | [.nl]=>some (.int .i64 (.ofNat 0)) | _=>none) (fun _ _ _ _ _ h=>h) fun e hs=>?_
 grind [G5,rdAll]
theorem aeJ (b:Bool) (xs:List Rd):cI (tD b xs) (aO xs) (aC xs):=by
 refine cI.rds (fun vs _=>match vs with | .d (.int k n)::vs=>yn b (.d (.int k n)) vs | _=>none) (fun _ _ _ _ _ h=>h) fun e hs=>?_
 grind [tD]
theorem Up (e:aq):∀ (a b:List Rd),rdAll e (a++b)=match rdAll e a with
  | none=>none
  | some (x,e1)=>match rdAll e1 b with
   | none=>none
   | some (y,e2)=>some (x++y,e2)
 | [],b=>by
  grind [rdAll]
 | r::a,b=>by
  simp only[List.cons_append,rdAll]
  cases rd e r with
  | none=>rfl
  | some p =>
   obtain⟨v,e1⟩:=p;simp only[Up e1 a b]
   grind
theorem UJ:∀ {rs:List Rd}{e e1:aq}{vs:List AV},rdAll e rs=some (vs,e1)→vs.length=rs.length
 | [],e,e1,vs,h=>by grind [rdAll]
 | x::rs,e,e1,vs,h=>by
  simp only[rdAll]at h;split at h
  ·simp at h
  ·split at h
   ·simp at h
   ·rename_i h2;obtain⟨rfl,rfl⟩:=h;simp[UJ h2]
theorem ajI (f:FuncId) (first caps:List Rd):cI (Cj f first caps) (aO (first++caps)) (aC (first++caps)):=by
 refine cI.rds (fun vs _=>some (.fn f (shareAll (vs.take first.length)) (shareAll (vs.drop first.length)))) (fun _ _ _ _ _ h=>h) fun e hs=>?_
 grind [Cj,Up,UJ,List.take_left]
theorem ai6 (f:FuncId) (args:List Rd):cI (yj r f args) (aO args) (aC args):=by
 refine cI.rds (fun vs hs=>cy r f vs hs.heap) (fun vs hs hs' v H h=>H.call h) fun e hs=>?_
 grind [yj]
theorem ahr {v:jN}{rs:List Rd}(h:wV v=some rs):cI (bw v r) (aO rs) (aC rs):=by
 unfold wV at h;split at h<;>simp only[Option.some.injEq,reduceCtorEq]at h<;>subst h
 ·exact amL _
 ·exact ahU _ _
 ·exact amx _ _
 ·exact aqT _ _
 ·exact afX _
 ·exact aoH _ _ _
 ·exact ajJ _ _ _
 ·exact ajw _ _ _ _
 ·exact aqH _ _
 ·exact ajX _ _
 ·exact ahb _
 ·exact aal _ _ _
 ·exact arf _ _
 ·exact an4 _ _ _
 ·exact ao8 _ _ _
 ·exact akf _ _ _ _
 ·exact aq0 _ _ _ _ _
 ·exact aon _ _
 ·exact amS _
 ·exact amZ _
 ·exact aeJ _ _
 ·exact ajI _ _ _
 ·exact ai6 _ _
end
section
variable {r:bI}
theorem Iy (e:aq) (o:Option Rd) (rs:List Rd):rdAll e (o.toList++rs)=match rdOpt e o with
  | none=>none
  | some (vo,e1)=>match rdAll e1 rs with
   | none=>none
   | some (vs,e2)=>some (vo.toList++vs,e2):=by
 cases o<;>grind [rdOpt,rdAll]
def TY:Option Rd→List AV→Option (Option AV×List AV)
 | none,vs=>some (none,vs)
 | some _,v::vs=>some (some v,vs)
 | some _,[]=>none
theorem SM {e e1:aq}{o:Option Rd}{vo:Option AV}(h:rdOpt e o=some (vo,e1)) (vs:List AV):TY o (vo.toList++vs)=some (vo,vs):=by
 cases o with
 | none=>obtain⟨rfl,rfl⟩:=h;rfl
 | some x =>
  simp only[rdOpt]at h;split at h
  ·obtain⟨rfl,rfl⟩:=h;rfl
  simp_all
def JL (m:Nat) (lo hi mx:Option Rd) (h:af) (vs:List AV):Option AV :=
 match vs with
 | []=>none
 | v::vs=>match TY lo vs with
  | none=>none
  | some (l,vs)=>match TY hi vs with
   | none=>none
   | some (hh,vs)=>match TY mx vs with
    | none=>none
    | some (k,_)=>match okSl h m v with
     | true=>qq m v l hh k
     | false=>none
theorem adD {m:Nat}{lo hi mx:Option Rd}{h h':af}(H:bE h h') {vs:List AV}{u:AV}(g:JL m lo hi mx h vs=some u):JL m lo hi mx h' vs=some u:=by
 unfold JL at g⊢;split at g
 ·simp at g
 ·rename_i v vs
  cases h1:TY lo vs with
  | none=>simp_all
  | some p =>
   obtain⟨l,vs1⟩:=p;simp only at g⊢
   cases h2:TY hi vs1<;>grind [bE.okSl]
theorem agV (m:Nat) (x:Rd) (lo hi mx:Option Rd):cI (Fd m x lo hi mx) (aO (x::(lo.toList++(hi.toList++(mx.toList++[]))))) (aC (x::(lo.toList++(hi.toList++(mx.toList++[]))))):=by
 refine cI.rds (fun vs hs=>JL m lo hi mx hs.heap vs) (fun vs hs hs' v H h=>adD H h) fun e hs=>?_
 simp only[Fd,rdAll]
 cases rd e x with
 | none=>rfl
 | some q =>
  obtain⟨v,e1⟩:=q;simp only;rw[Iy]
  cases h1:rdOpt e1 lo with
  | none=>rfl
  | some q =>
   obtain⟨l,e2⟩:=q;simp only;rw[Iy]
   cases h2:rdOpt e2 hi with
   | none=>rfl
   | some q =>
    obtain⟨hh,e3⟩:=q;simp only;rw[Iy]
    cases h3:rdOpt e3 mx with
    | none=>rfl
    | some q =>
     simp only[rdAll,JL,SM h1,SM h2,SM h3]
     grind
theorem Ha {x:Rd}{k:Nat}(h:k∈gj x):k∈jP x:=by
 cases x<;>simp_all [gj,jP]
theorem aiK (c a b:Rd):cI (gM c a b) (aO [c,a,b]) (aC [c,a,b]):=by
 intro e hs v st1 hf;unfold gM at hf;have hm:∀ k,k∈aC [c,a,b]↔(k∈gj c∨k∈gj a∨k∈gj b):=fun k=>by simp[aC]
 have hsl:∀ k,k∈aO [c,a,b]↔(k∈jP c∨k∈jP a∨k∈jP b):=fun k=>by simp[aO]
 split at hf
 ·rename_i tb e1 h1;obtain⟨s1,g1,l1⟩:=IW h1;have key:∀ x,(x=a∨x=b)→∀ u e2,rd e1 x=some (u,e2)→(∀ e' e1' e2' hs',rd e' c=some (.d (.bool tb),e1')→rd e1' x=some (u,e2')→gM c a b ⟨e',hs'⟩=some (u,⟨e2',hs'⟩))→
    (⟨e2,hs⟩:St).hs=hs∧(bj e→bj e2)∧(∀ k,k∉aC [c,a,b]→get e2 k=get e k)∧
    ∀ e' hs',(∀ k∈aO [c,a,b],get e' k=get e k)→bE hs.heap hs'.heap→∃ e1',gM c a b ⟨e',hs'⟩=some (u,⟨e1',hs'⟩)∧(∀ k,k∉aC [c,a,b]→get e1' k=get e' k)∧∀ k∈aC [c,a,b],get e1' k=get e2 k:=by
   intro x hx u e2 h2 hback;obtain⟨s2,g2,l2⟩:=IW h2;have hbs:∀ k,k∈jP x→k∈aO [c,a,b]:=fun k hk=>(hsl k).2 (by grind)
   have hms:∀ k,k∈aC [c,a,b]→k∈aO [c,a,b]:=fun k hk=>(hsl k).2 (((hm k).1 hk).imp Ha (Or.imp Ha Ha))
   refine⟨rfl,fun h=>s2 (s1 h),fun k hk=>?_,fun e' hs' he _=>?_⟩
   ·grind
   ·obtain⟨e1',h1',g1'⟩:=l1 e' fun k hk=>he k ((hsl k).2 (.inl hk))
    obtain⟨e2',h2',g2'⟩:=l2 e1' fun k hk=>by
     simp_all
    refine⟨e2',hback e' e1' e2' hs' h1' h2',fun k hk=>?_,fun k hk=>?_⟩
    all_goals grind
  cases tb with
  | true =>
   split at hf
   ·obtain⟨rfl,rfl⟩:=hf
    grind [gM]
   simp_all
  | false =>
   split at hf
   ·obtain⟨rfl,rfl⟩:=hf
    grind [gM]
   simp_all
 simp_all
theorem aoG (j:Nat) (mv:Bool) (i:Nat):cI (uF j mv i) [j] (if mv then [j] else []):=by
 intro e hs v st1 hf;unfold uF at hf;split at hf
 ·split at hf
  ·cases mv with
   | true =>
    obtain⟨rfl,rfl⟩:=hf
    simp_all [bj.put,cR,uF]
   | false =>
    obtain⟨rfl,rfl⟩:=hf
    simp_all [uF]
  simp_all
 simp_all
def ajd (m:Nat) (h:af) (vs:List AV):Option AV :=
 match vs with
 | [b]=>(match Go.Vm.elems h b with
  | some ys=>(match dt m ys with
   | true=>(match Nat.ble ys.length aP with
    | true=>some (match ys with | []=>.nl | ys=>.own true m ys)
    | false=>none)
   | false=>none)
  | none=>none)
 | _=>none
theorem ahn (m:Nat) (y:Rd):cI (Ag m (.c .nl) y) (aO [y]) (aC [y]):=by
 refine cI.rds (fun vs hs=>ajd m hs.heap vs) (fun vs hs hs' v H h=>?_) fun e hs=>?_
 ·unfold ajd at h⊢
  grind [bE.elems]
 ·have h0:rd e (.c .nl)=some (.nl,e):=rfl;simp only[Ag,rdAll,h0]
  cases rd e y with
  | none=>rfl
  | some q =>
   obtain⟨b,e1⟩:=q;simp only[ajd]
   cases Go.Vm.elems hs.heap b with
   | none=>rfl
   | some ys =>
    simp only
    cases dt m ys with
    | false=>rfl
    | true =>
     simp only[cA]
     cases Nat.ble ys.length aP with
     | false=>rfl
     | true=>cases ys<;>rfl
theorem NQ {v:jN}{R M:List Nat}(h:Eg v=some (R,M)):cI (bw v r) R M:=by
 have base:(match wV v with | some rs=>some (aO rs,aC rs) | none=>none)=some (R,M)→cI (bw v r) R M:=by
  grind [ahr]
 cases v<;>try exact base h
 ·obtain⟨rfl,rfl⟩:=h;exact aiK _ _ _
 ·obtain⟨rfl,rfl⟩:=h;exact agV _ _ _ _ _
 ·obtain⟨rfl,rfl⟩:=h;exact aoG _ _ _
 ·rename_i m x y
  cases x<;>try exact base h
  rename_i c
  cases c<;>try exact base h
  obtain⟨rfl,rfl⟩:=h;exact ahn _ _
def ajT (f:St→Option St) (R M:List Nat):Prop :=
 ∀ e hs st1,f ⟨e,hs⟩=some st1→st1.hs=hs∧(bj e→bj st1.env)∧(∀ k,k∉M→get st1.env k=get e k)∧
  ∀ e' hs',(∀ k∈R,get e' k=get e k)→bE hs.heap hs'.heap→∃ e1',f ⟨e',hs'⟩=some ⟨e1',hs'⟩∧(∀ k,k∉M→get e1' k=get e' k)∧∀ k∈M,get e1' k=get st1.env k
theorem JT {i:VI}{R M:List Nat}(h:WN i=some (R,M)):ajT (bl r i) R M:=by
 unfold WN at h;split at h
 ·simp at h
 ·rename_i hth;split at h
  ·simp at h
  ·rename_i R0 M0 hf;simp only[Option.some.injEq,Prod.mk.injEq]at h;obtain⟨rfl,rfl⟩:=h;have hl:=NQ (r:=r) hf;have hM:∀ k,k∈M0→k∈(match i.dst with | some d=>d::M0 | none=>M0):=fun k hk=>by grind
   have set:∀ (v:AV) (st:St),(bf i.dst v st).hs=st.hs∧(bj st.env→bj (bf i.dst v st).env)∧∀ k,get (bf i.dst v st).env k=if i.dst=some k then some v else get st.env k:=by
    grind [bf,bj.put,cR]
   have hd:∀ k,k∉(match i.dst with | some d=>d::M0 | none=>M0)→i.dst≠some k∧k∉M0:=fun k hk=>by
    grind
   have go:∀ e hs st1,df r i ⟨e,hs⟩=some st1→st1.hs=hs∧(bj e→bj st1.env)∧(∀ k,k∉(match i.dst with | some d=>d::M0 | none=>M0)→get st1.env k=get e k)∧
     ∀ e' hs',(∀ k∈R0++M0,get e' k=get e k)→bE hs.heap hs'.heap→∃ e1',df r i ⟨e',hs'⟩=some ⟨e1',hs'⟩∧(∀ k,k∉(match i.dst with | some d=>d::M0 | none=>M0)→get e1' k=get e' k)∧
      ∀ k∈(match i.dst with | some d=>d::M0 | none=>M0),get e1' k=get st1.env k:=by
    intro e hs st1 h;unfold df at h;simp only[hth]at h;split at h
    ·rename_i v st0 hv;simp only[Option.some.injEq]at h;subst h;obtain⟨q1,q2,q3,q4⟩:=hl e hs v st0 hv;obtain⟨t1,t2,t3⟩:=set (firm v) st0;refine⟨t1.trans q1,fun h=>t2 (q2 h),fun k hk=>?_,fun e' hs' he hle=>?_⟩
     ·simp_all
     ·obtain⟨e1',p1,p2,p3⟩:=q4 e' hs' (fun k hk=>he k (List.mem_append_left _ hk)) hle;refine⟨(bf i.dst (firm v) ⟨e1',hs'⟩).env,?_,fun k hk=>?_,fun k hk=>?_⟩
      ·unfold df;simp only[hth,p1,Option.some.injEq]
       cases i.dst<;>rfl
      all_goals grind
    simp_all
   have no:∀ e hs,(bf i.dst (.tup []) ⟨e,hs⟩).hs=hs∧(bj e→bj (bf i.dst (.tup []) ⟨e,hs⟩).env)∧(∀ k,k∉(match i.dst with | some d=>d::M0 | none=>M0)→get (bf i.dst (.tup []) ⟨e,hs⟩).env k=get e k)∧
     ∀ e' hs',(∀ k∈R0++M0,get e' k=get e k)→(∀ k,k∉(match i.dst with | some d=>d::M0 | none=>M0)→get (bf i.dst (.tup []) ⟨e',hs'⟩).env k=get e' k)∧
      ∀ k∈(match i.dst with | some d=>d::M0 | none=>M0),get (bf i.dst (.tup []) ⟨e',hs'⟩).env k=get (bf i.dst (.tup []) ⟨e,hs⟩).env k:=by
    grind
   intro e hs st1 h;unfold bl at h
   cases hg:i.guard with
   | none =>
    rw[hg]at h;obtain⟨q1,q2,q3,q4⟩:=go e hs st1 h;refine⟨q1,q2,q3,fun e' hs' he hle=>?_⟩;obtain⟨e1',p1,p2,p3⟩:=q4 e' hs' he hle
    grind [bl]
   | some sw =>
    obtain⟨sl,want⟩:=sw;rw[hg]at h;simp only at h;have hsl:∀ e',(∀ k∈sl::(R0++M0),get e' k=get e k)→get e' sl=get e sl:=fun e' he=>he sl (.head _)
    have hre:∀ e',(∀ k∈sl::(R0++M0),get e' k=get e k)→∀ k∈R0++M0,get e' k=get e k:=fun e' he k hk=>he k (.tail _ hk)
    split at h
    ·rename_i b hb;split at h
     ·obtain⟨q1,q2,q3,q4⟩:=go e hs st1 h;refine⟨q1,q2,q3,fun e' hs' he hle=>?_⟩;obtain⟨e1',p1,p2,p3⟩:=q4 e' hs' (hre e' he) hle
      grind [bl]
     ·rename_i hbw;simp only[Option.some.injEq]at h;subst h;obtain⟨q1,q2,q3,q4⟩:=no e hs;refine⟨q1,q2,q3,fun e' hs' he _=>?_⟩;obtain⟨p2,p3⟩:=q4 e' hs' (hre e' he);refine⟨(bf i.dst (.tup []) ⟨e',hs'⟩).env,?_,p2,p3⟩;unfold bl;rw[hg];simp only[hsl e' he,hb,hbw,Option.some.injEq]
      cases i.dst<;>rfl
    ·rename_i hb;simp only[Option.some.injEq]at h;subst h;obtain⟨q1,q2,q3,q4⟩:=no e hs;refine⟨q1,q2,q3,fun e' hs' he _=>?_⟩;obtain⟨p2,p3⟩:=q4 e' hs' (hre e' he);refine⟨(bf i.dst (.tup []) ⟨e',hs'⟩).env,?_,p2,p3⟩;unfold bl;rw[hg];simp only[hsl e' he,hb,Option.some.injEq]
     cases i.dst<;>rfl
    grind
theorem aiJ {f1 f2:St→Option St}{R1 M1 R2 M2:List Nat}(h1:ajT f1 R1 M1) (h2:ajT f2 R2 M2) (d1:∀ k∈M1,k∉R2∧k∉M2) (d2:∀ k∈M2,k∉R1∧k∉M1) {st st1 st2:St}(hs:bj st.env)
  (a:f1 st=some st1) (b:f2 st1=some st2):∃ st1',f2 st=some st1'∧f1 st1'=some st2:=by
 obtain⟨e,hs0⟩:=st;obtain⟨e1,hs1⟩:=st1;obtain⟨e2,hs2⟩:=st2;obtain⟨q1,q2,q3,q4⟩:=h1 e hs0 _ a;subst q1;obtain⟨p1,p2,p3,p4⟩:=h2 e1 hs1 _ b;subst p1;obtain⟨e1',k1,k2,k3⟩:=p4 e _ (fun k hk=>(q3 k (fun hm=>(d1 k hm).1 hk)).symm) (bE.refl _);obtain⟨_,sk1,_,_⟩:=h2 e hs2 _ k1;obtain⟨e2',m1,m2,m3⟩:=q4 e1' _ (fun k hk=>k2 k fun hm=>(d2 k hm).1 hk) (bE.refl _);obtain⟨_,sm1,_,_⟩:=h1 e1' hs2 _ m1;refine⟨⟨e1',hs2⟩,k1,?_⟩;rw[m1]
 congr 2
 refine oj (sm1 (sk1 hs)) (p2 (q2 hs)) fun k=>?_
 by_cases hk1:k∈M1
 all_goals grind
end
theorem nu {k:Nat}{l:List Nat}:ca k l=true↔k∈l:=by
 induction l<;>grind [ca,Nat.beq_eq]
theorem eV {a b:List Nat}(h:mu a b=true):∀ k∈a,k∉b:=by
 induction a<;>grind [mu,nu]
section
variable {P:Program}{g:Gh}{w:World}{t:Array Value}{O:Nat→Nat}{st st':St}{r:bI}
theorem aa4 {a b:VI}(h:oe a b=true) {st1 st2:St}(hs:bj st.env) (h1:bl r a st=some st1) (h2:bl r b st1=some st2):∃ st1',bl r b st=some st1'∧bl r a st1'=some st2:=by
 unfold oe at h;split at h
 ·rename_i R1 M1 R2 M2 e1 e2;simp only[Bool.and_eq_true]at h;obtain⟨⟨k1,k2⟩,k3⟩:=h;exact aiJ (JT (r:=r) e1) (JT (r:=r) e2) (fun k hk=>⟨eV k1 k hk,eV k2 k hk⟩) (fun k hk=>⟨eV k3 k hk,fun h=>eV k2 k h hk⟩) hs h1 h2
 simp_all
theorem aav {a b:VI}(h:oe a b=true) {st1:St}(hs:bj st.env) (h1:bl r a st=some st1):bj st1.env:=by
 unfold oe at h;split at h
 ·rename_i R1 M1 R2 M2 e1 e2;obtain⟨e,hs0⟩:=st;exact(JT (r:=r) e1 e hs0 st1 h1).2.1 hs
 simp_all
theorem OT {vs:List VI}{i:Nat}{v:VI}(hv:vs[i]?=some v) {l2:List Nat}:∀ {l1:List Nat}{st st':St},(∀ j∈l1,∃ u,vs[j]?=some u∧oe u v=true)→bj st.env→
  pB r vs (l1++i::l2) st=some st'→pB r vs (i::(l1++l2)) st=some st'
 | [],st,st',_,_,h=>h
 | j::l1,st,st',hj,hs,h=>by
  obtain⟨u,hu,hm⟩:=hj j (.head _);simp only[List.cons_append,pB,hu]at h;split at h
  ·simp at h
  ·rename_i st1 h1;have h2:=OT hv (fun k hk=>hj k (.tail _ hk)) (aav hm hs h1) h
   grind [pB,aa4]
structure Yf (P:Program) (n:Nat) (ops:Array Oper) (vs:List VI):Prop where
 len:vs.length=ops.size
 vi:∀ (i:Nat) (v:VI) (o:Oper),vs[i]?=some v→ops[i]?=some o→uh P n ops v o=true
 pair:∀ (i j:Nat) (v u:VI) (o:Oper),j<i→vs[i]?=some v→vs[j]?=some u→ops[i]?=some o→EE o j=true∨oe u v=true
 edge:∀ (i:Nat) (o:Oper),ops[i]?=some o→∀ e∈o.after,e.on<i
theorem RJ {o:Oper}{v:VI}:∀ {us:List VI}{k:Nat},R3 o v k us=true→∀ (j:Nat) (u:VI),us[j]?=some u→EE o (k+j)=true∨oe u v=true
 | [],k,_,j,u,h=>by simp at h
 | x::us,k,h,j,u,hu=>by
  simp only[R3,Bool.and_eq_true,Bool.or_eq_true]at h
  cases j with
  | zero=>simp_all
  | succ j=>have:=RJ h.2 j u (by simp_all);grind
theorem IG {n:Nat}{ops:Array Oper}:∀ {vs:List VI}{os:List Oper}{prev:List VI},nt P n ops prev vs os=true→vs.length=os.length∧
  ∀ (i:Nat) (v:VI) (o:Oper),vs[i]?=some v→os[i]?=some o→uh P n ops v o=true∧(∀ (j:Nat) (u:VI),(prev++vs)[j]?=some u→j<prev.length+i→EE o j=true∨oe u v=true)∧
   ∀ e∈o.after,e.on<prev.length+i
 | [],[],prev,_=>⟨rfl,fun i v o h=>by simp at h⟩
 | x::vs,p::os,prev,h=>by
  simp only[nt,Bool.and_eq_true]at h;obtain⟨⟨⟨h1,h2⟩,h3⟩,h4⟩:=h;obtain⟨k1,k2⟩:=IG h4;refine⟨by simp[k1],fun i v o hv ho=>?_⟩
  cases i with
  | zero =>
   simp only[List.getElem?_cons_zero,Option.some.injEq]at hv ho;subst hv ho;refine⟨h1,fun j u hu hj=>?_,fun e he=>?_⟩
   ·rw[List.getElem?_append_left (by omega)]at hu;have:=RJ h2 j u hu
    simp_all
   grind [Nat.blt_eq]
  | succ i =>
   grind
 | [],_::_,_,h=>by grind [nt]
 | _::_,[],_,h=>by grind [nt]
theorem aq6 {n:Nat}{ops:Array Oper}{vs:List VI}(h:nt P n ops [] vs ops.toList=true):Yf P n ops vs:=by
 obtain⟨k1,k2⟩:=IG h;have hl:vs.length=ops.size:=by omega
 have hget:∀ (i:Nat) (o:Oper),ops[i]?=some o→ops.toList[i]?=some o:=fun i o h=>by simp_all
 refine⟨hl,fun i v o hv ho=>(k2 i v o hv (hget i o ho)).1,fun i j v u o hji hv hu ho=>(k2 i v o hv (hget i o ho)).2.1 j u (by simp_all) (by omega),fun i o ho e he=>?_⟩;have hi:i<vs.length:=by
  grind
 simp_all
theorem RC (m:Region.Mode) {e:Edge}(h:qG e.ground=true):Region.binds m e=true:=by
 grind [Region.binds,qG]
structure TN (n:Nat) (listed:Array Bool) (rem:List Nat):Prop where
 srt:rem.Pairwise (·<·)
 lt:∀ i∈rem,i<n
 size:listed.size=n
 mem:∀ i,i<n→(i∈rem↔listed.getD i true=false)
theorem ahs {ro:Option Nat}(hr:d8 P r) (hcs:eG P r) {n:Nat}{ops:Array Oper}{vs:List VI}(hok:Yf P n ops vs) {Q:Exit→Act→World→Prop}(ds:List Deferred) (m:Region.Mode) :
  ∀ {fuel:Nat}{rem:List Nat},rem.length=fuel→∀ {tt:Nat}{listed:Array Bool},TN ops.size listed rem→∀ {g:Gh}{w:World}{t:Array Value}{O:Nat→Nat}{st st':St},t.size=n→S P g w st t O→pB r vs rem st=some st'→
   (∀ w' t' g' O',dB P g w t O st' t' w' g' O'→Q .normal ⟨t',ds⟩ w')→wpOpsIn (FR ro) 0 P ops Q (Region.linearise.go m ops fuel tt listed []) ⟨t,ds⟩ w
 | 0,rem,hf,tt,listed,hleft,g,w,t,O,st,st',hn,s,h,hq=>by
  have:rem=[]:=List.eq_nil_of_length_eq_zero hf;subst this;simp only[pB,Option.some.injEq]at h;subst h;exact hq _ _ _ _ (dB.refl s)
 | fuel+1,rem,hf,tt,listed,hleft,g,w,t,O,st,st',hn,s,h,hq=>by
  unfold Region.linearise.go;simp only;generalize hrs:((List.range ops.size).filter fun i=>!listed.getD i true && ((ops[i]?).map (·.after.all fun e=>!Region.binds m e || listed.getD e.on false)).getD false)=rs;have hmem:∀ i,i∈rs↔i<ops.size∧listed.getD i true=false∧∃ o,ops[i]?=some o∧∀ e∈o.after,Region.binds m e=true→listed.getD e.on false=true:=by
   grind [Array.all_eq_true_iff_forall_mem]
  have hne:rs≠[]:=by
   cases rem with
   | nil=>simp at hf
   | cons i rem =>
    have hi:=hleft.lt i (.head _);have:i∈rs:=(hmem i).2 ⟨hi,(hleft.mem i hi).1 (.head _),ops[i],by simp[hi],fun e he _=>by
     have hlt:=hok.edge i ops[i] (by simp[hi]) e he;have hen:e.on<ops.size:=by omega
     have hnot:e.on∉i::rem:=by
      intro hm;rcases List.mem_cons.1 hm with e1 | hm
      ·omega
      ·have:=(List.pairwise_cons.1 hleft.srt).1 _ hm;omega
     grind [TN.mem,TN.size]⟩
    grind
  have hlen:0<rs.length:=List.length_pos_iff.2 hne;have hlt:=Nat.mod_lt tt hlen;rw[List.getElem?_eq_getElem hlt];simp only;generalize hi:rs[tt % rs.length]=i;have hirs:i∈rs:=by grind
  obtain⟨hin,hil,o,ho,hedges⟩:=(hmem i).1 hirs;have hirem:i∈rem:=(hleft.mem i hin).2 hil;obtain⟨l1,l2,rfl⟩:=List.append_of_mem hirem;have hvl:i<vs.length:=by grind [Yf.len]
  have hv:vs[i]?=some vs[i]:=by simp
  have hp:=List.pairwise_append.1 hleft.srt;have hswap:∀ j∈l1,∃ u,vs[j]?=some u∧oe u vs[i]=true:=by
   intro j hj;have hji:j<i:=hp.2.2 j hj i (.head _);have hjr:j∈l1++i::l2:=List.mem_append_left _ hj;have hjv:vs[j]?=some (vs[j]'(by omega)):=by simp
   refine⟨_,hjv,(hok.pair i j _ _ o hji hv hjv ho).resolve_left fun he=>?_⟩
   grind [EE,Nat.beq_eq,RC,TN.mem]
  have h2:=OT hv hswap s.se h;simp only[pB,hv]at h2;split at h2
  ·simp at h2
  ·rename_i st1 h3;have hleft':TN ops.size (listed.setIfInBounds i true) (l1++l2):=by
    refine⟨List.pairwise_append.2 ⟨hp.1,(List.pairwise_cons.1 hp.2.1).2,fun a ha b hb=>hp.2.2 a ha b (.tail _ hb)⟩,fun k hk=>hleft.lt k ?_,by simp[hleft.size],fun k hk=>?_⟩
    ·rcases List.mem_append.1 hk with h | h
     ·exact List.mem_append_left _ h
     ·exact List.mem_append_right _ (.tail _ h)
    ·have hsz:k<listed.size:=by rw[hleft.size];exact hk
     have hold:=hleft.mem k hk;simp only[Array.getD_eq_getD_getElem?,Array.getElem?_setIfInBounds]at hold⊢;by_cases e:i=k
     ·subst e;simp only[if_true,hsz,Option.getD_some,Bool.true_eq_false,iff_false];intro hm;rcases List.mem_append.1 hm with h | h
      ·have:=hp.2.2 i h i (.head _);omega
      ·have:=(List.pairwise_cons.1 hp.2.1).1 i h;omega
     ·simp only[e,if_false];rw[←hold];simp only[List.mem_append,List.mem_cons];constructor
      ·rintro (h | h)
       ·exact .inl h
       ·exact .inr (.inr h)
      ·rintro (h | h | h)
       ·exact .inl h
       ·exact absurd h.symm e
       ·exact .inr h
   have hlen':(l1++l2).length=fuel:=by simp at hf⊢;omega
   have hacc:=linearise_go_acc m ops fuel (tt / rs.length) (listed.setIfInBounds i true) [i];rw[hacc];simp only[List.reverse_cons,List.reverse_nil,List.nil_append,List.cons_append,wpOpsIn,ho];exact ait (ro:=ro) hr hcs hn s h3 (hok.vi i _ o hv ho) ds _ Q fun t' w' g' O' G =>
    ahs hr hcs hok ds m hlen' hleft' (by rw[G.size,hn]) G.st h2 fun w2 t2 g2 O2 G2=>hq _ _ _ _ (G.trans G2)
theorem WY {vs:List VI}:∀ {l:List VI}{k:Nat}{st:St},vs.drop k=l→pB r vs (List.range' k l.length) st=gz r l st
 | [],k,st,_=>by simp[pB,gz]
 | v::l,k,st,h=>by
  have hv:vs[k]?=some v:=by have:=congrArg (fun l=>l[0]?) h;grind
  have h':vs.drop (k+1)=l:=by have:=congrArg (fun l=>l.drop 1) h;grind [List.drop_drop]
  simp only[List.length_cons,List.range'_succ,pB,hv,gz]
  cases bl r v st with
  | none=>rfl
  | some st1=>exact WY h'
theorem ajE {ro:Option Nat}(hr:d8 P r) (hcs:eG P r) {n:Nat}{ops:Array Oper}{vs:List VI}(ds:List Deferred) (h:nt P n ops [] vs ops.toList=true) {Q:Exit→Act→World→Prop}{id:Nat}(hn:t.size=n)
  (s:S P g w st t O) (hrun:gz r vs st=some st') (hq:∀ w' t' g' O',dB P g w t O st' t' w' g' O'→Q .normal ⟨t',ds⟩ w'):(Code.region id ops true).wpIn (FR ro) 0 P Q ⟨t,ds⟩ w:=by
 have hok:=aq6 h;refine wpIn_region_draw fun tt=>?_
 have hx:aI g w g w.drew fun _=>False:=aI.drew _ _ _
 have sd:=s.extF hx rfl s.pmlt;have hrun':pB r vs (List.range ops.size) st=some st':=by
  rw[←hok.len,List.range_eq_range']
  grind [WY]
 have hleft:TN ops.size (Array.replicate ops.size false) (List.range ops.size):=by
  refine⟨List.pairwise_lt_range,fun i hi=>List.mem_range.1 hi,by simp,fun i hi=>?_⟩
  simp_all
 have key:∀ m tt,wpOpsIn (FR ro) 0 P ops Q (Region.linearise m ops tt) ⟨t,ds⟩ w.drew:=fun m tt =>
  ahs (ro:=ro) hr hcs hok ds m (by simp) hleft hn sd hrun' fun w' t' g' O' G=>hq _ _ _ _ ⟨G.st,(hx.mono (T:=fun b=>O b≠0) fun _ _ h=>h.elim).trans G.ext fun _ _ h=>h,G.old,G.size⟩
 unfold Region.schedule;split<;>simp_all
end
abbrev HK:=HS→(HS→Prop)→(HS→HS)→Prop
def eI (K:HK) (f:St→Option (AV×St)) (R M:List Nat):Prop :=
 ∀ e hs v st1,f ⟨e,hs⟩=some (v,st1)→∃ ρ τ,K hs ρ τ∧st1.hs=τ hs∧(bj e→bj st1.env)∧(∀ k,k∉M→get st1.env k=get e k)∧
  ∀ e' hs',(∀ k∈R,get e' k=get e k)→ρ hs'→∃ e1',f ⟨e',hs'⟩=some (v,⟨e1',τ hs'⟩)∧(∀ k,k∉M→get e1' k=get e' k)∧∀ k∈M,get e1' k=get st1.env k
def KK (K:HK) (f:St→Option St) (R M:List Nat):Prop :=
 ∀ e hs st1,f ⟨e,hs⟩=some st1→∃ ρ τ,K hs ρ τ∧st1.hs=τ hs∧(bj e→bj st1.env)∧(∀ k,k∉M→get st1.env k=get e k)∧
  ∀ e' hs',(∀ k∈R,get e' k=get e k)→ρ hs'→∃ e1',f ⟨e',hs'⟩=some ⟨e1',τ hs'⟩∧(∀ k,k∉M→get e1' k=get e' k)∧∀ k∈M,get e1' k=get st1.env k
def KQ:HK:=fun hs ρ τ=>(∀ hs',bE hs.heap hs'.heap→ρ hs')∧∀ hs',τ hs'=hs'
def zp (h:af) (id:Nat):Option Obj→af
 | none=>h
 | some o=>put h id o
def KT:HK:=fun hs ρ τ=>(∃ id o0 o,get hs.heap id=some o0∧(∀ hs',get hs'.heap id=some o0→ρ hs')∧(∀ hs',τ hs'=⟨zp hs'.heap id o,hs'.next⟩)∧
 ∀ o1,o=some o1→fE o0 o1)∨(∀ hs',ρ hs')∧∀ hs',τ hs'=hs'
def push:HS→List Obj→HS
 | hs,[]=>hs
 | hs,o::os=>push ⟨put hs.heap hs.next o,hs.next+1⟩ os
def KA:HK:=fun hs ρ τ=>∃ os,(∀ hs',bE hs.heap hs'.heap→hs'.next=hs.next→ρ hs')∧∀ hs',hs'.next=hs.next→τ hs'=push hs' os
def KP:HK:=fun hs ρ τ=>KQ hs ρ τ∨∃ id,(∃ m xs,get hs.heap id=some (.arr m xs))∧(∀ hs',bE hs.heap hs'.heap→ρ hs')∧∀ hs',τ hs'=⟨del hs'.heap id,hs'.next⟩
theorem bE.del {h:af}(id:Nat):bE (del h id) h:=by
 intro k o hk;rw[Az]at hk;split at hk
 ·simp at hk
 ·exact⟨o,hk,by cases o<;>simp[fE]⟩
theorem Y7 (m:Nat) (x y:Rd):eI KP (Ag m x y) (aO [x,y]) (aC [x,y]):=by
 intro e hs v st1 hf;unfold Ag at hf;split at hf
 ·rename_i a e1 hr;split at hf
  ·rename_i b e2 hr2;split at hf
   ·rename_i ys hy;split at hf
    ·split at hf
     ·rename_i w h1 ha;simp only[Option.some.injEq,Prod.mk.injEq]at hf;obtain⟨rfl,rfl⟩:=hf;have hall:rdAll e [x,y]=some ([a,b],e2):=by grind [rdAll]
      obtain⟨s1,g1,l1⟩:=Dc hall;have back:∀ e' hs' h1',(∀ k∈aO [x,y],get e' k=get e k)→bE hs.heap hs'.heap→cA m hs'.heap a ys=some (w,h1')→
        ∃ e1',Ag m x y ⟨e',hs'⟩=some (w,⟨e1',⟨h1',hs'.next⟩⟩)∧(∀ k,k∉aC [x,y]→get e1' k=get e' k)∧∀ k∈aC [x,y],get e1' k=get e2 k:=by
       intro e' hs' h1' he hle happ;obtain⟨e1',hr',g1'⟩:=l1 e' he;refine⟨e1',?_,fun k hk=>by simp_all,fun k hk=>by simp_all⟩;simp only[rdAll]at hr';split at hr'<;>grind [Ag,bE.elems]
      unfold cA at ha;split at ha
      ·simp at ha
      ·split at ha
       ·obtain⟨rfl,rfl⟩:=ha;exact⟨fun hs'=>bE hs.heap hs'.heap,id,.inl ⟨fun _ h=>h,fun _=>rfl⟩,rfl,s1,fun k hk=>by simp_all,fun e' hs' he hρ=>back e' hs' _ he hρ (by grind [cA])⟩
       ·split at ha
        ·obtain⟨rfl,rfl⟩:=ha;exact⟨fun hs'=>bE hs.heap hs'.heap,id,.inl ⟨fun _ h=>h,fun _=>rfl⟩,rfl,s1,fun k hk=>by simp_all,fun e' hs' he hρ=>back e' hs' _ he hρ (by grind [cA])⟩
        simp_all
       ·rename_i id off len;split at ha
        ·rename_i k xs hg;split at ha
         ·obtain⟨rfl,rfl⟩:=ha;exact⟨fun hs'=>bE hs.heap hs'.heap,fun hs'=>⟨Go.Vm.del hs'.heap id,hs'.next⟩,.inr ⟨id,⟨_,_,hg⟩,fun _ h=>h,fun _=>rfl⟩,rfl,s1,fun k hk=>by simp_all,fun e' hs' he hρ=>back e' hs' _ he hρ (by grind [cA,bE.arr])⟩
         simp_all
        simp_all
       simp_all
     simp_all
    simp_all
   simp_all
  simp_all
 simp_all
theorem fE.symm {a b:Obj}(h:fE a b):fE b a:=by
 cases a<;>cases b<;>simp_all [fE]
theorem anP {f:St→Option (AV×St)}{R M:List Nat}(h:cI f R M):eI KQ f R M:=by
 intro e hs v st1 hf;obtain⟨h1,h2,h3,h4⟩:=h e hs v st1 hf;exact⟨fun hs'=>bE hs.heap hs'.heap,id,⟨fun _ h=>h,fun _=>rfl⟩,h1,h2,h3,h4⟩
mutual
theorem xM:∀ (v:AV),share (share v)=share v
 | .own p m xs=>by cases p<;>rfl
 | .agg cs=>by simp only[share,shareAll_share cs]
 | .tup cs=>by simp only[share,shareAll_share cs]
 | .junk | .d _ | .nl | .gl _ | .nilp | .ptr _ _ | .pel _ _ _ | .pim _ _ | .sl _ _ _ | .fn _ _ _ | .nilf | .yield _=>by rfl
theorem shareAll_share:∀ (vs:List AV),shareAll (shareAll vs)=shareAll vs
 | []=>rfl
 | v::r=>by simp only[kE,xM v,shareAll_share r]
end
theorem EH:∀ (vs:List AV),shareAll (cW 2 vs).2=shareAll vs
 | []=>rfl
 | v::r=>by
  simp only[cW,kE,EH r]
  grind [lH,xM]
theorem asJ {h h1:af}{n:Option Nat}{p v:AV}(hl:loadAt h n 2 p=some (v,h1)) :
  (∃ id o0 o,get h id=some o0∧h1=zp h id o∧(∀ o1,o=some o1→fE o0 o1)∧∀ h',get h' id=some o0→loadAt h' n 2 p=some (v,zp h' id o))∨
   h1=h∧∀ h',loadAt h' n 2 p=some (v,h'):=by
 cases p<;>simp only[loadAt,reduceCtorEq]at hl
 ·rename_i id off;split at hl
  ·rename_i cs hg
   cases n with
   | none =>
    simp only at hl;split at hl
    ·simp at hl
    ·rename_i u hu;obtain⟨rfl,rfl⟩:=hl;refine .inl ⟨id,_,some (.cells (cs.set off (lH 2 u).2)),hg,rfl,fun o1 ho=>?_,fun h' he=>?_⟩
     ·simp only[Option.some.injEq]at ho;subst ho;simp only[fE,fS,lH];refine List.ext_getElem? fun i=>?_
      grind [xM]
     ·simp only[loadAt,he,hu];rfl
   | some m =>
    simp only at hl;split at hl
    ·rename_i hb;obtain⟨rfl,rfl⟩:=hl;refine .inl ⟨id,_,some (.cells (ai cs off (cW 2 (sub cs off m)).2)),hg,rfl,fun o1 ho=>?_,fun h' he=>?_⟩
     ·simp only[fE]
      grind [Nat.le_of_ble_eq_true,EH,fS,List.length_map,sub,ai,List.map_drop,List.take_append_drop]
     ·simp only[loadAt,he,hb];rfl
    simp_all
  simp_all
 ·rename_i id i off;split at hl
  ·rename_i m xs hg;split at hl
   ·rename_i x hx;split at hl
    ·rename_i u hu;obtain⟨rfl,rfl⟩:=hl;exact .inl ⟨id,_,none,hg,rfl,fun o1 ho=>by simp at ho,fun h' he=>by simp only[loadAt,he,hx,hu];rfl⟩
    simp_all
   simp_all
  simp_all
 grind [loadAt]
theorem anC (n:Option Nat) (p:Rd):eI KT (xz n 2 p) (jP p) (gj p):=by
 intro e hs v st1 hf;unfold xz at hf;split at hf
 ·rename_i u e1 hr;split at hf
  ·rename_i w h1 hl;obtain⟨rfl,rfl⟩:=hf;obtain⟨s1,g1,l1⟩:=IW hr;rcases asJ hl with ⟨id,o0,o,k0,k1,k2,k3⟩ | ⟨k1,k3⟩
   ·refine⟨fun hs'=>get hs'.heap id=some o0,fun hs'=>⟨zp hs'.heap id o,hs'.next⟩,.inl ⟨id,o0,o,k0,fun _ h=>h,fun _=>rfl,k2⟩,by rw[k1],s1,fun k hk=>by simp_all,fun e' hs' he hρ=>?_⟩;obtain⟨e1',hr',g1'⟩:=l1 e' he
    simp_all [xz]
   ·refine⟨fun _=>True,id,.inr ⟨fun _=>trivial,fun _=>rfl⟩,by simp_all,s1,fun k hk=>by simp_all,fun e' hs' he _=>?_⟩;obtain⟨e1',hr',g1'⟩:=l1 e' he
    simp_all [xz]
  simp_all
 simp_all
section
variable {r:bI}{K:HK}
theorem KB (d:Option Nat) (v:AV) (st:St):(bf d v st).hs=st.hs∧(bj st.env→bj (bf d v st).env)∧∀ k,get (bf d v st).env k=if d=some k then some v else get st.env k:=by
 cases hd:d<;>grind [bf,bj.put,cR]
theorem Kq {i:VI}{M0:List Nat}{k:Nat}(hk:k∉rZ i M0):i.dst≠some k∧k∉M0:=by
 grind [rZ]
theorem acG {i:VI}{M0:List Nat}{k:Nat}(hk:k∈rZ i M0):i.dst=some k∨k∈M0:=by
 grind [rZ]
theorem mW {i:VI}{R0 M0:List Nat}{f:St→Option (AV×St)}(hf:∀ st,df r i st=match f st with | some (v,st)=>some (bf i.dst v st) | none=>none) (hl:eI K f R0 M0) (hid:∀ hs,K hs (fun _=>True) id) :
  KK K (bl r i) (HI i (R0++M0)) (rZ i M0):=by
 have go:∀ e hs st1,df r i ⟨e,hs⟩=some st1→∃ ρ τ,K hs ρ τ∧st1.hs=τ hs∧(bj e→bj st1.env)∧(∀ k,k∉rZ i M0→get st1.env k=get e k)∧
   ∀ e' hs',(∀ k∈R0++M0,get e' k=get e k)→ρ hs'→∃ e1',df r i ⟨e',hs'⟩=some ⟨e1',τ hs'⟩∧(∀ k,k∉rZ i M0→get e1' k=get e' k)∧∀ k∈rZ i M0,get e1' k=get st1.env k:=by
  intro e hs st1 h;rw[hf]at h;split at h
  ·rename_i v st0 hv;simp only[Option.some.injEq]at h;subst h;obtain⟨ρ,τ,hK,q1,q2,q3,q4⟩:=hl e hs v st0 hv;obtain⟨t1,t2,t3⟩:=KB i.dst v st0;refine⟨ρ,τ,hK,t1.trans q1,fun h=>t2 (q2 h),fun k hk=>?_,fun e' hs' he hρ=>?_⟩
   ·grind [Kq]
   ·obtain⟨e1',p1,p2,p3⟩:=q4 e' hs' (fun k hk=>he k (List.mem_append_left _ hk)) hρ;obtain⟨u1,u2,u3⟩:=KB i.dst v ⟨e1',τ hs'⟩;refine⟨(bf i.dst v ⟨e1',τ hs'⟩).env,?_,fun k hk=>?_,fun k hk=>?_⟩
    ·rw[hf,p1]
     cases i.dst<;>rfl
    all_goals grind [Kq,acG]
  simp_all
 have no:∀ e hs,(bf i.dst (.tup []) ⟨e,hs⟩).hs=hs∧(bj e→bj (bf i.dst (.tup []) ⟨e,hs⟩).env)∧(∀ k,k∉rZ i M0→get (bf i.dst (.tup []) ⟨e,hs⟩).env k=get e k)∧
   ∀ e' hs',(∀ k∈R0++M0,get e' k=get e k)→(∀ k,k∉rZ i M0→get (bf i.dst (.tup []) ⟨e',hs'⟩).env k=get e' k)∧
    ∀ k∈rZ i M0,get (bf i.dst (.tup []) ⟨e',hs'⟩).env k=get (bf i.dst (.tup []) ⟨e,hs⟩).env k:=by
  intro e hs;obtain⟨t1,t2,t3⟩:=KB i.dst (.tup []) ⟨e,hs⟩;refine⟨t1,t2,fun k hk=>?_,fun e' hs' he=>?_⟩
  ·rw[t3,if_neg (Kq hk).1]
  grind [KB,Kq,acG]
 intro e hs st1 h;unfold bl at h
 cases hg:i.guard with
 | none =>
  simp_all [HI,bl]
 | some sw =>
  obtain⟨sl,want⟩:=sw;rw[hg]at h;simp only at h;have hgs:HI i (R0++M0)=sl::(R0++M0):=by unfold HI;rw[hg]
  rw[hgs];have hsl:∀ e',(∀ k∈sl::(R0++M0),get e' k=get e k)→get e' sl=get e sl:=fun e' he=>he sl (.head _)
  have hre:∀ e',(∀ k∈sl::(R0++M0),get e' k=get e k)→∀ k∈R0++M0,get e' k=get e k:=fun e' he k hk=>he k (.tail _ hk)
  split at h
  ·rename_i b hb;split at h
   ·obtain⟨ρ,τ,hK,q1,q2,q3,q4⟩:=go e hs st1 h;refine⟨ρ,τ,hK,q1,q2,q3,fun e' hs' he hρ=>?_⟩;obtain⟨e1',p1,p2,p3⟩:=q4 e' hs' (hre e' he) hρ
    grind [bl]
   ·rename_i hbw;simp only[Option.some.injEq]at h;subst h;obtain⟨q1,q2,q3,q4⟩:=no e hs;refine⟨fun _=>True,id,hid hs,q1,q2,q3,fun e' hs' he _=>?_⟩;obtain⟨p2,p3⟩:=q4 e' hs' (hre e' he);refine⟨(bf i.dst (.tup []) ⟨e',hs'⟩).env,?_,p2,p3⟩;unfold bl;rw[hg];simp only[hsl e' he,hb,hbw,Option.some.injEq]
    cases i.dst<;>rfl
  ·rename_i hb;simp only[Option.some.injEq]at h;subst h;obtain⟨q1,q2,q3,q4⟩:=no e hs;refine⟨fun _=>True,id,hid hs,q1,q2,q3,fun e' hs' he _=>?_⟩;obtain⟨p2,p3⟩:=q4 e' hs' (hre e' he);refine⟨(bf i.dst (.tup []) ⟨e',hs'⟩).env,?_,p2,p3⟩;unfold bl;rw[hg];simp only[hsl e' he,hb,Option.some.injEq]
   cases i.dst<;>rfl
  grind
theorem KQ.id (hs:HS):KQ hs (fun _=>True) _root_.id:=⟨fun _ _=>trivial,fun _=>rfl⟩
theorem KT.id (hs:HS):KT hs (fun _=>True) _root_.id:=.inr ⟨fun _=>trivial,fun _=>rfl⟩
theorem KP.id (hs:HS):KP hs (fun _=>True) _root_.id:=.inl (KQ.id hs)
theorem KA.id (hs:HS):KA hs (fun _=>True) _root_.id:=⟨[],fun _ _ _=>trivial,fun _ _=>rfl⟩
theorem Uu:∀ (os:List Obj) (hs:HS),(push hs os).next=hs.next+os.length
 | [],_=>rfl
 | o::os,hs=>by simp only[push,Uu os,List.length_cons];omega
theorem YI:∀ (a b:List Obj) (hs:HS),push hs (a++b)=push (push hs a) b
 | [],_,_=>rfl
 | o::a,b,hs=>by simp only[List.cons_append,push,YI a b]
theorem Im (n:Nat) (v:AV):∃ u os,∀ hs:HS,hs.next=n→jH hs v=(u,push hs os):=by
 have same:(∀ hs,jH hs v=(v,hs))→∃ u os,∀ hs:HS,hs.next=n→jH hs v=(u,push hs os):=fun h=>⟨v,[],fun hs _=>h hs⟩
 cases v<;>try exact same fun hs=>rfl
 rename_i p m xs
 cases p with
 | false=>exact same fun hs=>rfl
 | true =>
  cases hm:Nat.beq m 0 with
  | true=>simp_all [jH]
  | false =>
   refine⟨.sl n 0 xs.length,[.arr m xs],fun hs hn=>?_⟩
   grind [jH,push]
theorem Hl (n o:Nat) (v:AV):∃ u os,∀ hs:HS,hs.next=n→jd hs o v=(u,push hs os):=by
 have one:(∀ hs,jd hs o v=jH hs v)→∃ u os,∀ hs:HS,hs.next=n→jd hs o v=(u,push hs os):=fun h=>by
  simp_all [Im]
 cases v<;>try exact one fun hs=>rfl
 rename_i cs
 cases hc:cs[o]? with
 | none=>exact⟨.agg cs,[],fun hs _=>by grind [jd,push]⟩
 | some v =>
  obtain⟨u,os,k⟩:=Im n v;exact⟨.agg (cs.set o u),os,fun hs hn=>by grind [jd]⟩
theorem VA (n:Nat) (p:Nat×Nat) (v:AV):∃ u os,∀ hs:HS,hs.next=n→ll hs p v=(u,push hs os):=by
 have one:(∀ hs,ll hs p v=jd hs p.2 v)→∃ u os,∀ hs:HS,hs.next=n→ll hs p v=(u,push hs os):=fun h=>by
  simp_all [Hl]
 cases v<;>try exact one fun hs=>rfl
 rename_i cs
 cases hc:cs[p.1]? with
 | none=>exact⟨.tup cs,[],fun hs _=>by grind [ll,push]⟩
 | some v =>
  obtain⟨u,os,k⟩:=Hl n p.2 v;exact⟨.tup (cs.set p.1 u),os,fun hs hn=>by grind [ll]⟩
theorem Fi:∀ (th:List (Nat×Nat)) (n:Nat) (v:AV),∃ u os,∀ hs:HS,hs.next=n→bS th v hs=(u,push hs os)
 | [],n,v=>⟨v,[],fun hs _=>rfl⟩
 | p::r,n,v=>by
  obtain⟨u,os,k⟩:=VA n p v;obtain⟨u2,os2,k2⟩:=Fi r (n+os.length) u;refine⟨u2,os++os2,fun hs hn=>?_⟩
  grind [bS,Uu,YI]
end
def uD.K:uD→HK
 | .q=>KQ
 | .t=>KT
 | .a=>KA
 | .p=>KP
section
variable {r:bI}
theorem tv {i:VI}(h:i.th=[]) (st:St):df r i st=match (match bw i.op r st with | some (v,st)=>some (firm v,st) | none=>none) with | some (v,st)=>some (bf i.dst v st) | none=>none:=by
 grind [df]
theorem eI.firm {K:HK}{f:St→Option (AV×St)}{R M:List Nat}(h:eI K f R M):eI K (fun st=>match f st with | some (v,st)=>some (firm v,st) | none=>none) R M:=by
 intro e hs v st1 hf;simp only at hf;split at hf
 ·rename_i u st0 hu;simp only[Option.some.injEq,Prod.mk.injEq]at hf;obtain⟨rfl,rfl⟩:=hf;obtain⟨ρ,τ,h1,h2,h3,h4,h5⟩:=h e hs u st0 hu;refine⟨ρ,τ,h1,h2,h3,h4,fun e' hs' he hρ=>?_⟩;obtain⟨e1',q1,q2,q3⟩:=h5 e' hs' he hρ
  simp_all
 simp_all
theorem aeA (zs:List AV):eI KA (Ey zs) [] []:=by
 intro e hs v st1 hf;obtain⟨rfl,rfl⟩:=hf;refine⟨fun hs'=>hs'.next=hs.next,fun hs'=>push hs' [.cells zs],⟨[.cells zs],fun _ _ h=>h,fun _ _=>rfl⟩,rfl,fun h=>h,fun _ _=>rfl,fun e' hs' _ hn=>⟨e',?_,fun _ _=>rfl,fun k hk=>by simp at hk⟩⟩;simp only[Ey,hn];rfl
theorem akq (x:Rd):eI KA (Kw x) (jP x) (gj x):=by
 intro e hs v st1 hf;unfold Kw at hf;split at hf
 ·rename_i u e1 hr;split at hf
  ·rename_i hc;obtain⟨rfl,rfl⟩:=hf;obtain⟨s1,g1,l1⟩:=IW hr;refine⟨fun hs'=>hs'.next=hs.next,fun hs'=>push hs' [.cells u.cells],⟨[.cells u.cells],fun _ _ h=>h,fun _ _=>rfl⟩,rfl,s1,fun k hk=>by simp_all,fun e' hs' he hn=>?_⟩;obtain⟨e1',hr',g1'⟩:=l1 e' he;refine⟨e1',?_,fun k hk=>by simp_all,fun k hk=>by simp_all⟩;unfold Kw;simp only[hr',hc,hn];rfl
  simp_all
 simp_all
theorem adf {i:VI}{p:Nat×Nat}{th:List (Nat×Nat)}(h:i.th=p::th) (st:St):df r i st=match (match bw i.op r st with | some (v,st)=>some (firm (bS (p::th) v st.hs).1,(⟨st.env,(bS (p::th) v st.hs).2⟩:St)) | none=>none) with | some (v,st)=>some (bf i.dst v st) | none=>none:=by
 grind [df]
theorem eI.thaw {f:St→Option (AV×St)}{R M:List Nat}(h:cI f R M) (th:List (Nat×Nat)):eI KA (fun st=>match f st with | some (v,st)=>some (Go.Vm.firm (bS th v st.hs).1,(⟨st.env,(bS th v st.hs).2⟩:St)) | none=>none) R M:=by
 intro e hs v st1 hf;simp only at hf;split at hf
 ·rename_i u st0 hu;obtain⟨rfl,rfl⟩:=hf;obtain⟨h1,h2,h3,h4⟩:=h e hs u st0 hu;obtain⟨w,os,hw⟩:=Fi th hs.next u;refine⟨fun hs'=>bE hs.heap hs'.heap∧hs'.next=hs.next,fun hs'=>push hs' os,⟨os,fun _ a b=>⟨a,b⟩,fun _ _=>rfl⟩,?_,h2,h3,fun e' hs' he hρ=>?_⟩
  ·simp_all
  ·obtain⟨e1',q1,q2,q3⟩:=h4 e' hs' he hρ.1
   simp_all
 simp_all
theorem jO {i:VI}{k:uD}{R M:List Nat}(h:fG i=some (k,R,M)):KK k.K (bl r i) R M:=by
 unfold fG at h;split at h
 ·rename_i p th hth;split at h
  ·rename_i R0 M0 hf;obtain⟨rfl,rfl,rfl⟩:=h;exact mW (adf hth) (eI.thaw (NQ (r:=r) hf) (p::th)) KA.id
  simp_all
 ·rename_i hth;split at h
  ·rename_i n p ho;obtain⟨rfl,rfl,rfl⟩:=h;exact mW (tv hth) (eI.firm (by rw[ho];exact anC n p)) KT.id
  ·rename_i m x y ho;obtain⟨rfl,rfl,rfl⟩:=h;exact mW (tv hth) (eI.firm (by rw[ho];exact Y7 m _ y)) KP.id
  ·rename_i m x y ho;obtain⟨rfl,rfl,rfl⟩:=h;exact mW (tv hth) (eI.firm (by rw[ho];exact Y7 m _ y)) KP.id
  ·rename_i zs ho;obtain⟨rfl,rfl,rfl⟩:=h;exact mW (tv hth) (eI.firm (by rw[ho];exact aeA zs)) KA.id
  ·rename_i x ho;obtain⟨rfl,rfl,rfl⟩:=h;exact mW (tv hth) (eI.firm (by rw[ho];exact akq x)) KA.id
  ·split at h
   ·rename_i R0 M0 hf;obtain⟨rfl,rfl,rfl⟩:=h;exact mW (tv hth) (eI.firm (anP (NQ (r:=r) hf))) KQ.id
   simp_all
structure bX (st:St):Prop where
 se:bj st.env
 sh:bj st.hs.heap
 fr:∀ id,st.hs.next≤id→get st.hs.heap id=none
theorem FM (h:af) (id k:Nat) (o:Option Obj):get (zp h id o) k=match o with | none=>get h k | some o=>if k=id then some o else get h k:=by
 cases o with
 | none=>rfl
 | some o=>exact cR h id k o
theorem Oy {h:af}(hs:bj h) (id:Nat) (o:Option Obj):bj (zp h id o):=by
 cases o with
 | none=>exact hs
 | some o=>exact hs.put _ _
theorem Nq:∀ (os:List Obj) (hs:HS) (k:Nat),k<hs.next→get (push hs os).heap k=get hs.heap k
 | [],_,_,_=>rfl
 | o::os,hs,k,hk=>by
  rw[push,Nq os _ k (by grind)]
  grind [cR]
theorem acg:∀ (os:List Obj) (hs:HS),(∀ id,hs.next≤id→get hs.heap id=none)→∀ id,(push hs os).next≤id→get (push hs os).heap id=none
 | [],_,h=>h
 | o::os,hs,h=>acg os _ fun id hid=>by
  grind [cR]
theorem XJ:∀ (os:List Obj) (hs:HS),bj hs.heap→bj (push hs os).heap
 | [],_,h=>h
 | o::os,hs,h=>XJ os _ (h.put _ _)
theorem Zl:∀ (os:List Obj) (hs:HS) (id:Nat) (o:Option Obj),bj hs.heap→id<hs.next→push ⟨zp hs.heap id o,hs.next⟩ os=⟨zp (push hs os).heap id o,(push hs os).next⟩
 | [],_,_,_,_,_=>rfl
 | p::os,hs,id,o,hsrt,hid=>by
  have e:put (zp hs.heap id o) hs.next p=zp (put hs.heap hs.next p) id o:=by
   refine oj ((Oy hsrt id o).put _ _) (Oy (hsrt.put _ _) id o) fun k=>?_
   grind [cR,FM]
  simp only[push];rw[e];exact Zl os ⟨put hs.heap hs.next p,hs.next+1⟩ id o (hsrt.put _ _) (by grind)
theorem bE.push {hs:HS}(fr:∀ id,hs.next≤id→get hs.heap id=none) (os:List Obj):bE hs.heap (push hs os).heap:=by
 intro id o h
 grind [fE.refl,Nq]
theorem bE.upd {h:af}{id:Nat}{o0:Obj}{o:Option Obj}(g:get h id=some o0) (ho:∀ o1,o=some o1→fE o0 o1):bE h (zp h id o)∧bE (zp h id o) h:=by
 constructor
 ·intro k x hx
  grind [FM,fE.refl]
 ·intro k x hx
  grind [FM,fE.refl,fE.symm]
theorem BR {i:VI}{k:uD}{R M:List Nat}(h:fG i=some (k,R,M)) {st st1:St}(inv:bX st) (hr:bl r i st=some st1):bX st1:=by
 obtain⟨e,hs⟩:=st;obtain⟨ρ,τ,hK,h1,h2,_,_⟩:=jO (r:=r) h e hs st1 hr;refine⟨h2 inv.se,?_,?_⟩
 ·rw[h1]
  cases k with
  | q=>rw[hK.2 hs];exact inv.sh
  | t =>
   rcases hK with ⟨id,o0,o,g,_,ht,_⟩ | ⟨_,ht⟩
   ·rw[ht];exact Oy inv.sh _ _
   ·rw[ht];exact inv.sh
  | a=>obtain⟨os,_,ht⟩:=hK;rw[ht hs rfl];exact XJ _ _ inv.sh
  | p =>
   rcases hK with hK | ⟨id,_,_,ht⟩
   ·rw[hK.2 hs];exact inv.sh
   ·rw[ht];exact inv.sh.del _
 ·rw[h1]
  cases k with
  | q=>rw[hK.2 hs];exact inv.fr
  | t =>
   rcases hK with ⟨id,o0,o,g,_,ht,_⟩ | ⟨_,ht⟩
   ·rw[ht];intro k hk;have:=inv.fr k hk
    grind [FM]
   ·rw[ht];exact inv.fr
  | a=>obtain⟨os,_,ht⟩:=hK;rw[ht hs rfl];exact acg _ _ inv.fr
  | p =>
   rcases hK with hK | ⟨id,_,_,ht⟩
   ·rw[hK.2 hs];exact inv.fr
   ·rw[ht];intro k hk;rw[Az];split
    ·rfl
    ·exact inv.fr k hk
theorem ad1 {u v:VI}(h:AH u v=true) {st st1 st2:St}(inv:bX st) (a:bl r u st=some st1) (b:bl r v st1=some st2):∃ st1',bl r v st=some st1'∧bl r u st1'=some st2:=by
 unfold AH at h;split at h
 ·rename_i k1 R1 M1 k2 R2 M2 e1 e2;simp only[Bool.and_eq_true]at h;obtain⟨⟨⟨hk,a1⟩,a2⟩,a3⟩:=h;have d1:∀ k∈M1,k∉R2∧k∉M2:=fun k hk=>⟨eV a1 k hk,eV a2 k hk⟩
  have d2:∀ k∈M2,k∉R1∧k∉M1:=fun k hk=>⟨eV a3 k hk,fun h=>eV a2 k h hk⟩
  have inv1:=BR e1 inv a;have inv2:=BR e2 inv1 b;obtain⟨e,hs⟩:=st;obtain⟨ρ1,τ1,K1,q1,q2,q3,q4⟩:=jO (r:=r) e1 e hs _ a;obtain⟨en1,hs1⟩:=st1;subst q1;obtain⟨ρ2,τ2,K2,p1,p2,p3,p4⟩:=jO (r:=r) e2 en1 (τ1 hs) _ b;have key:ρ2 hs∧ρ1 (τ2 hs)∧τ1 (τ2 hs)=τ2 (τ1 hs):=by
   cases k1 with
   | a=>grind [tS]
   | p =>
    cases k2 with
    | t=>grind [tS]
    | a=>grind [tS]
    | p=>grind [tS]
    | q =>
     have ht:∀ x,τ2 x=x:=K2.2;rcases K1 with K1 | ⟨id,_,hρ,hτ⟩
     ·rw[K1.2 hs]at K2;exact⟨K2.1 _ (.refl _),by rw[ht];exact K1.1 _ (.refl _),by simp_all⟩
     ·exact⟨K2.1 _ (by grind [bE.del]),by grind [bE.refl],by simp_all⟩
   | q =>
    have ht:∀ x,τ1 x=x:=K1.2
    cases k2 with
    | p=>grind [tS]
    | q =>
     rw[ht hs]at K2;exact⟨K2.1 _ (.refl _),by rw[K2.2];exact K1.1 _ (.refl _),by simp_all⟩
    | t =>
     rw[ht hs]at K2;rcases K2 with ⟨id,o0,o,g,hρ,hτ,hl⟩ | ⟨hρ,hτ⟩
     ·exact⟨hρ _ g,by rw[hτ];exact K1.1 _ (bE.upd g hl).1,by simp_all⟩
     ·exact⟨hρ _,by rw[hτ];exact K1.1 _ (.refl _),by simp_all⟩
    | a =>
     rw[ht hs]at K2;obtain⟨os,hρ,hτ⟩:=K2;exact⟨hρ _ (.refl _) rfl,by rw[hτ _ rfl];exact K1.1 _ (bE.push inv.fr os),by simp_all⟩
   | t =>
    cases k2 with
    | t=>grind [tS]
    | p=>grind [tS]
    | q =>
     have ht:∀ x,τ2 x=x:=K2.2;rcases K1 with ⟨id,o0,o,g,hρ,hτ,hl⟩ | ⟨hρ,hτ⟩
     ·exact⟨K2.1 _ (by grind [bE.upd]),by simp_all,by simp_all⟩
     ·exact⟨K2.1 _ (by grind [bE.refl]),hρ _,by simp_all⟩
    | a =>
     obtain⟨os,hρ2,hτ2⟩:=K2;rcases K1 with ⟨id,o0,o,g,hρ,hτ,hl⟩ | ⟨hρ,hτ⟩
     ·have hn:(τ1 hs).next=hs.next:=by rw[hτ]
      have hid:id<hs.next:=by
       rcases Nat.lt_or_ge id hs.next with h1 | h1
       ·exact h1
       ·have:=inv.fr id h1;simp_all
      refine⟨hρ2 _ (by grind [bE.upd]) hn.symm,?_,?_⟩
      ·grind [Nq]
      ·rw[hτ2 _ hn.symm,hτ2 _ rfl,hτ,hτ];exact(Zl os hs id o inv.sh hid).symm
     grind [bE.refl]
  obtain⟨c1,c2,c3⟩:=key;obtain⟨e1',k1',k2',k3'⟩:=p4 e hs (fun k hk=>(q3 k (fun hm=>(d1 k hm).1 hk)).symm) c1;obtain⟨e2',m1,m2,m3⟩:=q4 e1' (τ2 hs) (fun k hk=>k2' k fun hm=>(d2 k hm).1 hk) c2;have invA:=BR e2 inv k1';have invB:=BR e1 invA m1;refine⟨⟨e1',τ2 hs⟩,k1',?_⟩;rw[m1,c3]
  congr 2
  refine oj invB.se inv2.se fun k=>?_
  by_cases hk1:k∈M1
  all_goals grind
 simp_all
end
mutual
theorem af0:∀ (a b:D),Hn a b=true→a=b
 | .int k n,b,h=>by
  cases b<;>simp only[Hn,Bool.false_eq_true,Bool.and_eq_true,decide_eq_true_eq]at h
  rw[yF h.1,h.2]
 | .bool x,b,h=>by
  cases b<;>simp only[Hn,Bool.false_eq_true,beq_iff_eq]at h
  rw[h]
 | .str s,b,h=>by
  cases b<;>simp only[Hn,Bool.false_eq_true,beq_iff_eq]at h
  rw[h]
 | .lst xs,b,h=>by
  cases b<;>simp only[Hn,Bool.false_eq_true]at h
  rw[eqDss_eq xs _ h]
theorem Sc:∀ (a b:List D),In a b=true→a=b
 | [],b,h=>by cases b<;>simp only[In,Bool.false_eq_true]at h;rfl
 | x::r,b,h=>by
  cases b<;>simp only[In,Bool.false_eq_true,Bool.and_eq_true]at h
  rw[af0 x _ h.1,Sc r _ h.2]
theorem eqDss_eq:∀ (a b:List (List D)),eqDss a b=true→a=b
 | [],b,h=>by cases b<;>simp only[eqDss,Bool.false_eq_true]at h;rfl
 | x::r,b,h=>by
  cases b<;>simp only[eqDss,Bool.false_eq_true,Bool.and_eq_true]at h
  rw[Sc x _ h.1,eqDss_eq r _ h.2]
end
mutual
theorem anW:∀ (a b:AV),ek a b=true→a=b
 | .junk,b,h=>by cases b<;>simp only[ek,Bool.false_eq_true]at h;rfl
 | .d x,b,h=>by
  cases b<;>simp only[ek,Bool.false_eq_true]at h
  rw[af0 x _ h]
 | .nl,b,h=>by cases b<;>simp only[ek,Bool.false_eq_true]at h;rfl
 | .own p m xs,b,h=>by
  cases b<;>simp only[ek,Bool.false_eq_true,Bool.and_eq_true,beq_iff_eq,Nat.beq_eq]at h
  rw[h.1.1,h.1.2,eqDss_eq xs _ h.2]
 | .gl n,b,h=>by
  cases b<;>simp only[ek,Bool.false_eq_true,Nat.beq_eq]at h
  rw[h]
 | .agg cs,b,h=>by
  cases b<;>simp only[ek,Bool.false_eq_true]at h
  rw[eqAVs_eq cs _ h]
 | .tup cs,b,h=>by
  cases b<;>simp only[ek,Bool.false_eq_true]at h
  rw[eqAVs_eq cs _ h]
 | .nilp,b,h=>by cases b<;>simp only[ek,Bool.false_eq_true]at h;rfl
 | .ptr _ _,b,h=>by
  cases b<;>simp only[ek,Bool.false_eq_true,Bool.and_eq_true,Nat.beq_eq]at h
  rw[h.1,h.2]
 | .pel _ _ _,b,h=>by
  cases b<;>simp only[ek,Bool.false_eq_true,Bool.and_eq_true,Nat.beq_eq]at h
  rw[h.1.1,h.1.2,h.2]
 | .pim cs _,b,h=>by
  cases b<;>simp only[ek,Bool.false_eq_true,Bool.and_eq_true,Nat.beq_eq]at h
  rw[Sc cs _ h.1,h.2]
 | .sl _ _ _,b,h=>by
  cases b<;>simp only[ek,Bool.false_eq_true,Bool.and_eq_true,Nat.beq_eq]at h
  rw[h.1.1,h.1.2,h.2]
 | .fn _ a c,b,h=>by
  cases b<;>simp only[ek,Bool.false_eq_true,Bool.and_eq_true,Nat.beq_eq]at h
  rw[h.1.1,eqAVs_eq a _ h.1.2,eqAVs_eq c _ h.2]
 | .nilf,b,h=>by cases b<;>simp only[ek,Bool.false_eq_true]at h;rfl
 | .yield _,b,h=>by
  cases b<;>simp only[ek,Bool.false_eq_true,Nat.beq_eq]at h
  rw[h]
theorem eqAVs_eq:∀ (a b:List AV),eqAVs a b=true→a=b
 | [],b,h=>by cases b<;>simp only[eqAVs,Bool.false_eq_true]at h;rfl
 | x::r,b,h=>by
  cases b<;>simp only[eqAVs,Bool.false_eq_true,Bool.and_eq_true]at h
  rw[anW x _ h.1,eqAVs_eq r _ h.2]
end
theorem aps {a b:Obj}(h:Zn a b=true):a=b:=by
 cases a<;>cases b<;>simp only[Zn,Bool.false_eq_true,Bool.and_eq_true,Nat.beq_eq]at h
 all_goals grind [eqAVs_eq,eqDss_eq]
theorem If (h:af) (k:Nat):∀ (ids:List Nat),get (bU ids h) k=if k∈ids then get h k else none
 | []=>by grind [bU,tH]
 | i::r=>by
  have ih:=If h k r
  grind [bU,cR]
theorem bE.only (h:af) (ids:List Nat):bE (bU ids h) h:=by
 intro k o hk
 grind [If,fE.refl]
theorem UT:∀ {F:List Nat}{h h':af},bL F h h'=true→∀ {k:Nat}{o:Obj},k∈F→get h k=some o→get h' k=some o
 | [],_,_,_,k,o,hm,_=>by simp at hm
 | i::r,h,h',hs,k,o,hm,hk=>by
  simp only[bL,Bool.and_eq_true]at hs;rcases List.mem_cons.1 hm with e | hm
  ·grind [aps]
  ·exact UT hs.2 hm hk
theorem UV:∀ {F:List Nat}{h h':af}{i:Nat},bL F h h'=true→i∈F→(match get h i with
   | some o=>(match get h' i with | some o'=>Zn o o' | none=>false)
   | none=>true)=true
 | x::F,h,h',i,hs,hi=>by
  simp only[bL,Bool.and_eq_true]at hs;rcases List.mem_cons.1 hi with e | hi
  ·grind
  ·exact UV hs.2 hi
theorem UL:∀ {F' F:List Nat}{h h':af},bL F h h'=true→(∀ k∈F',k∈F)→bL F' h h'=true
 | [],_,_,_,_,_=>rfl
 | i::r,F,h,h',hs,hsub=>by
  simp only[bL,Bool.and_eq_true];exact⟨UV hs (hsub i (.head _)),UL hs fun k hk=>hsub k (.tail _ hk)⟩
theorem bE.same {F ids:List Nat}{h h':af}(hs:bL F h h'=true) (hsub:∀ k∈ids,k∈F):bE (bU ids h) (bU ids h'):=by
 intro k o hk
 grind [If,UT,fE.refl]
section
variable {r:bI}
def Yr (f:St→Option St) (R M:List Nat):Prop :=
 ∀ e hs st1,f ⟨e,hs⟩=some st1→(bj e→bj st1.env)∧(∀ k,k∉M→get st1.env k=get e k)∧
  ∀ e',(∀ k∈R,get e' k=get e k)→∃ e1',f ⟨e',hs⟩=some ⟨e1',st1.hs⟩∧(∀ k,k∉M→get e1' k=get e' k)∧∀ k∈M,get e1' k=get st1.env k
theorem KK.w {K:HK}{f:St→Option St}{R M:List Nat}(h:KK K f R M) (hK:∀ hs ρ τ,K hs ρ τ→ρ hs):Yr f R M:=by
 intro e hs st1 hf;obtain⟨ρ,τ,k,q1,q2,q3,q4⟩:=h e hs st1 hf;refine⟨q2,q3,fun e' he=>?_⟩;rw[q1];exact q4 e' hs he (hK _ _ _ k)
theorem uD.self (k:uD) (hs:HS) (ρ:HS→Prop) (τ:HS→HS) (h:k.K hs ρ τ):ρ hs:=by
 cases k with
 | q=>exact h.1 _ (.refl _)
 | t =>
  rcases h with ⟨id,o0,o,g,hρ,_⟩ | ⟨hρ,_⟩<;>simp_all
 | a=>obtain⟨os,hρ,_⟩:=h;grind [bE.refl]
 | p =>
  rcases h with h | ⟨id,_,hρ,_⟩
  ·exact h.1 _ (.refl _)
  grind [bE.refl]
def KW:HK:=fun hs ρ _=>ρ hs
theorem KW.id (hs:HS):KW hs (fun _=>True) _root_.id:=trivial
theorem eI.rdsW {f:St→Option (AV×St)}{rs:List Rd}(F:List AV→HS→Option (AV×HS))
  (h:∀ e hs,f ⟨e,hs⟩=match rdAll e rs with | none=>none | some (vs,e1)=>match F vs hs with | none=>none | some (v,hs1)=>some (v,⟨e1,hs1⟩)):eI KW f (aO rs) (aC rs):=by
 intro e hs v st1 hf;rw[h]at hf;split at hf
 ·simp at hf
 ·rename_i vs e1 hr;split at hf
  ·simp at hf
  ·rename_i u hs1 hu;obtain⟨rfl,rfl⟩:=hf;obtain⟨s1,g1,l1⟩:=Dc hr;refine⟨fun hs'=>hs'=hs,fun _=>hs1,rfl,rfl,s1,fun k hk=>by simp_all,fun e' hs' he hρ=>?_⟩;obtain⟨e1',hr',g1'⟩:=l1 e' he
   simp_all
theorem eI.thawW {f:St→Option (AV×St)}{R M:List Nat}(h:eI KW f R M) (th:List (Nat×Nat)):eI KW (fun st=>match f st with | some (v,st)=>some (Go.Vm.firm (bS th v st.hs).1,(⟨st.env,(bS th v st.hs).2⟩:St)) | none=>none) R M:=by
 intro e hs v st1 hf;simp only at hf;split at hf
 ·rename_i u st0 hu;obtain⟨rfl,rfl⟩:=hf;obtain⟨ρ,τ,k,h1,h2,h3,h4⟩:=h e hs u st0 hu;refine⟨fun hs'=>hs'=hs,fun _=>(bS th u st0.hs).2,rfl,rfl,h2,h3,fun e' hs' he hρ=>?_⟩;subst hρ;obtain⟨e1',q1,q2,q3⟩:=h4 e' hs' he k
  simp_all
 simp_all
theorem agy {v:jN}{rs:List Rd}(h:ajL v=some rs):eI KW (bw v r) (aO rs) (aC rs):=by
 unfold ajL at h;split at h<;>simp only[Option.some.injEq,reduceCtorEq]at h<;>subst h
 ·rename_i n t p;refine eI.rdsW (fun vs hs=>match vs with | [p]=>(match loadAt hs.heap n t p with | some (v,h)=>some (v,⟨h,hs.next⟩) | none=>none) | _=>none) fun e hs=>?_
  grind [bw,xz,rdAll]
 ·rename_i n p x;refine eI.rdsW (fun vs hs=>match vs with | [p,v]=>(match storeAt hs.heap n p v with | some h=>some (.junk,⟨h,hs.next⟩) | none=>none) | _=>none) fun e hs=>?_
  simp only[bw,aen,rdAll]
  grind
 ·rename_i m x y;refine eI.rdsW (fun vs hs=>match vs with
   | [a,b]=>(match QS m (.c a) (.c b) ⟨[],hs⟩ with | some (v,st)=>some (v,st.hs) | none=>none)
   | _=>none) fun e hs=>?_
  simp only[bw,QS,rdAll]
  cases rd e x with
  | none=>rfl
  | some q =>
   obtain⟨a,e1⟩:=q;simp only
   cases rd e1 y with
   | none=>rfl
   | some q =>
    obtain⟨b,e2⟩:=q;simp only[rd]
    cases elems hs.heap b with
    | none=>rfl
    | some ys =>
     simp only;split<;>grind
 ·rename_i z x;refine eI.rdsW (fun vs hs=>match vs with
   | [a]=>(match Kn z (.c a) ⟨[],hs⟩ with | some (v,st)=>some (v,st.hs) | none=>none)
   | _=>none) fun e hs=>?_
  simp only[bw,Kn,rdAll]
  grind [rd]
 ·rename_i f args;refine eI.rdsW (fun vs hs=>r.call f vs hs) fun e hs=>?_
  grind [bw,wP]
 ·refine eI.rdsW (fun vs hs=>match vs with | fv::vs=>bD r fv vs hs | []=>none) fun e hs=>?_
  grind [bw,w9,rdAll]
theorem tM {i:VI}{R M:List Nat}(h:fO i=some (R,M)):Yr (bl r i) R M:=by
 unfold fO at h;split at h
 ·rename_i k R0 M0 hk;obtain⟨rfl,rfl⟩:=h;exact(jO hk).w k.self
 ·split at h
  ·rename_i rs hrs;obtain⟨rfl,rfl⟩:=h;refine KK.w (K:=KW) ?_ fun _ _ _ h=>h
   cases hth:i.th with
   | nil=>exact mW (tv hth) (eI.firm (agy hrs)) KW.id
   | cons p th=>exact mW (adf hth) (eI.thawW (agy hrs) (p::th)) KW.id
  simp_all
theorem Iw {i:VI}{k:uD}{R M:List Nat}(h:fG i=some (k,R,M)) {d:Nat}(hd:i.dst=some d):d∈M:=by
 grind [rZ,fG]
theorem yw {i:VI}{R M:List Nat}(h:fO i=some (R,M)) {d:Nat}(hd:i.dst=some d):d∈M:=by
 grind [fO,Iw,rZ]
theorem Ol {e e':aq}:∀ {ws:List Nat},(∀ k∈ws,get e' k=get e k)→KV e' ws=KV e ws
 | [],_=>rfl
 | w::ws,h=>by
  simp only[KV,h w (.head _),Ol fun k hk=>h k (.tail _ hk)]
theorem gq {a:Bool}{i:VI}{R M:List Nat}(h:sZ a i=some (R,M)) (F:List Nat):Yr (aQ r a F i) R M:=by
 unfold sZ at h;split at h
 ·rename_i R0 M0 hf
  cases a with
  | false =>
   obtain⟨rfl,rfl⟩:=h;exact tM hf
  | true =>
   obtain⟨rfl,rfl⟩:=h;have hl:=tM (r:=r) hf;intro e hs st1 hr;have hids:∀ e',(∀ k∈R0++Jb (Kg i.op),get e' k=get e k)→jL i e'=jL i e:=fun e' he=>Ol fun k hk=>he k (List.mem_append_right _ hk)
   have hR0:∀ e',(∀ k∈R0++Jb (Kg i.op),get e' k=get e k)→∀ k∈R0,get e' k=get e k:=fun e' he k hk=>he k (List.mem_append_left _ hk)
   simp only[aQ,pK]at hr;split at hr
   ·split at hr
    ·rename_i st2 h2;split at hr
     ·simp only[Option.some.injEq]at hr;subst hr;obtain⟨q1,q2,q3⟩:=hl e hs _ h2;refine⟨q1,q2,fun e' he=>?_⟩;obtain⟨e1',p1,p2,p3⟩:=q3 e' (hR0 e' he)
      grind [aQ,pK]
     simp_all
    simp_all
   ·split at hr
    ·rename_i st2 h2;split at hr
     ·split at hr
      ·split at hr
       ·simp only[Option.some.injEq]at hr;subst hr;obtain⟨q1,q2,q3⟩:=hl e hs _ h2;refine⟨q1,q2,fun e' he=>?_⟩;obtain⟨e1',p1,p2,p3⟩:=q3 e' (hR0 e' he)
        grind [yw,aQ,pK]
       simp_all
      simp_all
     simp_all
    simp_all
   ·split at hr
    ·rename_i st2 h2;simp only[Option.some.injEq]at hr;subst hr;obtain⟨q1,q2,q3⟩:=hl e _ _ h2;refine⟨q1,q2,fun e' he=>?_⟩;obtain⟨e1',p1,p2,p3⟩:=q3 e' (hR0 e' he)
     simp_all [aQ,pK]
    simp_all
 simp_all
theorem oZ {f1 f2:St→Option St}{R1 M1 R2 M2:List Nat}(h1:Yr f1 R1 M1) (h2:Yr f2 R2 M2) (d1:∀ k∈M1,k∉R2∧k∉M2) (d2:∀ k∈M2,k∉R1∧k∉M1) {e e1 e2:aq}{hs hs1 hs2 hsB:HS}(hsrt:bj e)
  (a:f1 ⟨e,hs⟩=some ⟨e1,hs1⟩) (b:f2 ⟨e1,hs1⟩=some ⟨e2,hs2⟩) (i:f2 ⟨e1,hs⟩=some ⟨e2,hsB⟩) (ii:f1 ⟨e,hsB⟩=some ⟨e1,hs2⟩) :
  ∃ st1',f2 ⟨e,hs⟩=some st1'∧f1 st1'=some ⟨e2,hs2⟩:=by
 obtain⟨s1,g1,_⟩:=h1 e hs _ a;obtain⟨s2,g2,l2⟩:=h2 e1 hs _ i;obtain⟨e',k1,k2,k3⟩:=l2 e fun k hk=>(g1 k fun hm=>(d1 k hm).1 hk).symm
 obtain⟨s3,g3,l3⟩:=h1 e hsB _ ii;obtain⟨e'',m1,m2,m3⟩:=l3 e' fun k hk=>k2 k fun hm=>(d2 k hm).1 hk
 refine⟨⟨e',hsB⟩,k1,?_⟩;rw[m1];obtain⟨t1,_,_⟩:=h2 e hs _ k1;obtain⟨t2,_,_⟩:=h1 e' hsB _ m1
 congr 2
 refine oj (t2 (t1 hsrt)) (s2 (s1 hsrt)) fun k=>?_
 by_cases hk1:k∈M1
 all_goals grind
theorem ajg {v:jN}(hv:sOp v=true) {e:aq}{hs:HS}{x:AV}{st1:St}(h:bw v r ⟨e,hs⟩=some (x,st1)):st1.hs=hs∧∀ hs',bw v r ⟨e,hs'⟩=some (x,⟨st1.env,hs'⟩):=by
 cases v<;>simp only[sOp,Bool.false_eq_true]at hv
 all_goals
  simp only[bw,KM,gM,wy,Gd,AB,Fl,Ki,Ei,EY,Uc,Cs,Cj,iF,Sp,GU,EO,Nm,Fy,uF,J7,G5,tD]at h⊢
  repeat' split at h
  all_goals grind
end
section
variable {r:bI}
theorem AZ {l:List (Nat×Nat)}(h:Ff l=true):l=[]:=by
 grind [Ff]
theorem GR {a:Bool}{F:List Nat}{i:VI}(h:kS a i=true) {e:aq}{hs:HS}{st1:St}(hr:aQ r a F i ⟨e,hs⟩=some st1):st1.hs=hs∧∀ hs',aQ r a F i ⟨e,hs'⟩=some ⟨st1.env,hs'⟩:=by
 simp only[kS,Bool.and_eq_true,Bool.not_eq_true']at h;obtain⟨⟨ha,hth⟩,hop⟩:=h;have hth:=AZ hth;subst ha;simp only[aQ]at hr⊢;have go:∀ st1,df r i ⟨e,hs⟩=some st1→st1.hs=hs∧∀ hs',df r i ⟨e,hs'⟩=some ⟨st1.env,hs'⟩:=by
  intro st1 h;unfold df at h;simp only[hth]at h;split at h
  ·rename_i v st0 hv;simp only[Option.some.injEq]at h;subst h;obtain⟨q1,q2⟩:=ajg hop hv;refine⟨by cases i.dst<;>exact q1,fun hs'=>?_⟩;unfold df;simp only[hth,q2 hs']
   cases i.dst<;>rfl
  simp_all
 unfold bl at hr
 cases hg:i.guard with
 | none =>
  grind [bl]
 | some sw =>
  rw[hg]at hr;simp only at hr;split at hr
  ·rename_i b hb;split at hr
   ·grind [bl]
   ·rename_i hbw;simp only[Option.some.injEq]at hr;subst hr;exact⟨by cases i.dst<;>rfl,fun hs'=>by unfold bl;rw[hg];simp only[hb,hbw];cases i.dst<;>rfl⟩
  ·rename_i hb;simp only[Option.some.injEq]at hr;subst hr;exact⟨by cases i.dst<;>rfl,fun hs'=>by unfold bl;rw[hg];simp only[hb];cases i.dst<;>rfl⟩
  simp_all
theorem OI {i:VI}(h:isQ i=true):∃ R M,fG i=some (.q,R,M):=by
 grind [isQ]
theorem Nw {i:VI}(h:Vb i=true):∃ R M,fG i=some (.p,R,M):=by
 grind [Vb]
theorem C1 {i:VI}(h:BJ i=true):nB i.op=.read:=by
 grind [BJ]
theorem agL {i:VI}(h:XM i=true):nB i.op=.take:=by
 grind [XM]
theorem Uj {i:VI}(h:PE i=true):nB i.op=.call:=by
 grind [PE]
theorem KR {a:Bool}{F:List Nat}{i:VI}(h:M4 a i=true) {e:aq}{hs:HS}{st1:St}(hr:aQ r a F i ⟨e,hs⟩=some st1):st1.hs=hs:=by
 simp only[M4,Bool.and_eq_true,Bool.or_eq_true,Bool.not_eq_true']at h;obtain⟨hq,hn⟩:=h;obtain⟨R,M,hk⟩:=OI hq;have plain:bl r i ⟨e,hs⟩=some st1→st1.hs=hs:=fun h=>by
  obtain⟨ρ,τ,K,q1,_⟩:=jO hk e hs st1 h;rw[q1];exact K.2 hs
 cases a<;>grind [C1,aQ,pK]
theorem Ko {K:HK}{f:St→Option St}{R M:List Nat}(hl:KK K f R M) {e:aq}(hsrt:bj e) {hs:HS}{st1:St}(hr:f ⟨e,hs⟩=some st1):∃ ρ τ,K hs ρ τ∧st1.hs=τ hs∧∀ hs',ρ hs'→f ⟨e,hs'⟩=some ⟨st1.env,τ hs'⟩:=by
 obtain⟨ρ,τ,k,q1,q2,q3,q4⟩:=hl e hs st1 hr;refine⟨ρ,τ,k,q1,fun hs' hρ=>?_⟩;obtain⟨e1',p1,p2,p3⟩:=q4 e hs' (fun _ _=>rfl) hρ;obtain⟨_,_,_,_,s2,_,_⟩:=hl e hs' _ p1
 grind [oj]
theorem aip {F F':List Nat}{u:VI}(hq:isQ u=true) (hn:BJ u=true) {e:aq}(hsrt:bj e) {hs:HS}{st1:St}(hr:aQ r true F u ⟨e,hs⟩=some st1) :
  ∀ hs',bE (bU (jL u e) hs.heap) (bU (jL u e) hs'.heap)→aQ r true F' u ⟨e,hs'⟩=some ⟨st1.env,hs'⟩:=by
 intro hs' hle;obtain⟨R,M,hk⟩:=OI hq;have hn:=C1 hn;simp only[aQ,pK,hn]at hr⊢;split at hr
 ·rename_i st2 h2;simp only[Option.some.injEq]at hr;subst hr;obtain⟨ρ,τ,K,q1,q2⟩:=Ko (jO hk) hsrt h2;rw[q2 ⟨bU (jL u e) hs'.heap,hs'.next⟩ (K.1 _ hle)]
 simp_all
theorem agY {F:List Nat}{v:VI}(hn:PE v=true) {e:aq}{hs:HS}{st1:St}(hr:aQ r true F v ⟨e,hs⟩=some st1):bL F hs.heap st1.hs.heap=true:=by
 grind [Uj,aQ,pK]
theorem XC {a:Bool}{F F':List Nat}{v:VI}{st st1:St}(hsub:∀ k∈F',k∈F) (hr:aQ r a F v st=some st1):aQ r a F' v st=some st1:=by
 cases a<;>grind [aQ,pK,UL]
theorem ajo (a:Bool) (v:VI) (e:aq) {F F':List Nat}(hsub:∀ k∈F',k∈F):∀ k∈fM a v e F',k∈fM a v e F:=by
 intro k hk;unfold fM at hk⊢
 grind
theorem aoe (a:Bool) (v:VI) (e:aq) (F:List Nat):∀ k∈F,k∈fM a v e F:=by
 intro k hk;unfold fM
 grind
theorem Ny {nr:List Nat}{vs:List VI}:∀ {l:List Nat}{F F':List Nat}{st st':St},(∀ k∈F',k∈F)→cX r nr vs l F st=some st'→cX r nr vs l F' st=some st'
 | [],_,_,_,_,_,h=>h
 | i::l,F,F',st,st',hsub,h=>by
  simp only[cX]at h⊢;split at h
  ·simp at h
  ·split at h
   ·simp at h
   ·rename_i st1 h1;simp only[XC hsub h1];exact Ny (ajo _ _ _ hsub) h
theorem abZ {a:Bool}{F:List Nat}{v:VI}{e:aq}{hs:HS}(hsrt:bj e) {R M:List Nat}(hf:a=false∨nB v.op≠.read∨fG v=some (.q,R,M)) {st1:St}(hr:aQ r a F v ⟨e,hs⟩=some st1):bl r v ⟨e,hs⟩=some st1:=by
 cases a with
 | false=>exact hr
 | true =>
  simp only[aQ,pK]at hr;split at hr
  ·grind
  ·grind
  ·rename_i hn;split at hr
   ·rename_i st2 h;simp only[Option.some.injEq]at hr;subst hr;have hk:=(hf.resolve_left (by simp)).resolve_left (fun h=>h hn);obtain⟨ρ,τ,K,q1,q2⟩:=Ko (jO hk) hsrt h;have:=q2 hs (K.1 _ (bE.only _ _));rw[K.2 hs]at this;exact this
   simp_all
theorem mS {a b:Bool}{u v:VI}(h:yC a b u v=true):∃ R1 M1 R2 M2,sZ a u=some (R1,M1)∧sZ b v=some (R2,M2)∧(∀ k∈M1,k∉R2∧k∉M2)∧∀ k∈M2,k∉R1∧k∉M1:=by
 grind [yC,eV]
theorem acX {a:Bool}{v:VI}{R M:List Nat}(h:sZ a v=some (R,M)) {e e':aq}(he:∀ k∈R,get e' k=get e k) (F:List Nat):fM a v e' F=fM a v e F:=by
 cases a with
 | false=>rfl
 | true =>
  unfold sZ at h;split at h
  ·obtain⟨rfl,rfl⟩:=h;have:jL v e'=jL v e:=Ol fun k hk=>he k (List.mem_append_right _ hk)
   grind [fM]
  simp_all
def JP (r:bI) (a b:Bool) (u v:VI) (F:List Nat) (st st1 st2:St):Prop :=
 ∃ st1',aQ r b F v st=some st1'∧aQ r a (fM b v st.env F) u st1'=some st2∧∀ k∈fM a u st1'.env (fM b v st.env F),k∈fM b v st1.env (fM a u st.env F)
theorem aj7 {a b:Bool}{u v:VI}{R1 M1 R2 M2:List Nat}(f1:sZ a u=some (R1,M1)) (f2:sZ b v=some (R2,M2)) (d1:∀ k∈M1,k∉R2∧k∉M2) (d2:∀ k∈M2,k∉R1∧k∉M1) {F:List Nat}{st st1 st2 st1':St}
  (h1:aQ r a F u st=some st1) (k1:aQ r b F v st=some st1') (k2:aQ r a (fM b v st.env F) u st1'=some st2):JP r a b u v F st st1 st2:=by
 refine⟨st1',k1,k2,?_⟩;obtain⟨e,hs⟩:=st;obtain⟨_,g1,_⟩:=gq (r:=r) f1 F e hs _ h1;obtain⟨_,g2,_⟩:=gq (r:=r) f2 F e hs _ k1;rw[acX f1 (e:=e) (e':=st1'.env) (fun k hk=>g2 k fun hm=>(d2 k hm).1 hk),acX f2 (e:=e) (e':=st1.env) (fun k hk=>g1 k fun hm=>(d1 k hm).1 hk)];intro k hk
 cases a with
 | false=>exact hk
 | true =>
  cases b<;>grind [fM]
theorem Rr {a b:Bool}{u v:VI}(h:KF a b u v=true) {F:List Nat}{st st1 st2:St}(hsrt:bj st.env) (h1:aQ r a F u st=some st1) (h2:aQ r b (fM a u st.env F) v st1=some st2):JP r a b u v F st st1 st2:=by
 simp only[KF,Bool.and_eq_true,Bool.or_eq_true]at h;obtain⟨hap,h⟩:=h;obtain⟨R1,M1,R2,M2,f1,f2,d1,d2⟩:=mS hap;have l1:=fun F=>gq (r:=r) f1 F
 have l2:=fun F=>gq (r:=r) f2 F
 have h2':=XC (F':=F) (aoe a u st.env F) h2;have fin:(∃ st1',aQ r b F v st=some st1'∧aQ r a F u st1'=some st2)→(∀ {s s':St},aQ r a F u s=some s'→aQ r a (fM b v st.env F) u s=some s')→JP r a b u v F st st1 st2:=by
  grind [aj7]
 obtain⟨e,hs⟩:=st;obtain⟨e1,hs1⟩:=st1;obtain⟨e2,hs2⟩:=st2;rcases h with ((h | h) | h) | h
 ·obtain⟨q1,q2⟩:=GR h h1;subst q1;refine fin (oZ (l1 F) (l2 F) d1 d2 hsrt h1 h2' h2' (q2 hs2)) fun {s s'} hs=>?_
  simp only[kS,Bool.and_eq_true,Bool.not_eq_true']at h;rw[h.1.1]at hs⊢;exact hs
 ·obtain⟨q1,q2⟩:=GR h h2';subst q1;refine fin (oZ (l1 F) (l2 F) d1 d2 hsrt h1 h2' (q2 hs) h1) fun {s s'} hs=>?_
  simp only[kS,Bool.and_eq_true,Bool.not_eq_true']at h;rw[h.1.1];exact hs
 ·have q1:=KR h.1 h1;have q2:=KR h.2 h2'
  grind [oZ,M4,Bool.not_eq_true',C1,aQ,pK]
 ·simp only[Yw,Bool.and_eq_true]at h;obtain⟨⟨⟨⟨rfl,rfl⟩,hq⟩,hn⟩,hc⟩:=h;have q1:=KR (r:=r) (a:=true) (i:=u) (by grind [M4]) h1;subst q1;have hnu:=C1 hn;have hsame:=agY hc h2;have hle:=bE.same (ids:=jL u e) hsame (fun k hk=>by grind [fM]);have hF:fM true v e F=F:=by grind [fM,Uj]
  refine fin (oZ (l1 F) (l2 F) d1 d2 hsrt h1 h2' h2' (aip hq hn hsrt h1 hs2 hle)) fun {s s'} hs=>?_
  simp_all
def D7 (m:Bool) (vs:List AV) (i:Nat):List AV:=match m with | true=>vs.set i .junk | false=>vs
def OQ (m:Bool) (e:aq) (j:Nat) (vs:List AV) (i:Nat):aq:=match m with | true=>put e j (.tup (D7 m vs i)) | false=>e
def afi (m:Bool) (x:AV):AV:=match m with | true=>x | false=>share x
theorem acq {m:Bool}{vs:List AV}{i k:Nat}(h:i≠k):(D7 m vs i)[k]?=vs[k]?:=by
 cases m
 ·rfl
 ·exact List.getElem?_set_ne h
theorem agZ {m n:Bool}{vs:List AV}{i k:Nat}(h:i≠k):D7 n (D7 m vs i) k=D7 m (D7 n vs k) i:=by
 cases m<;>cases n<;>try rfl
 exact List.set_comm _ _ h
theorem NL {m:Bool}{e:aq}{j:Nat}{vs:List AV}{i:Nat}(hj:get e j=some (.tup vs)) (q:Nat):get (OQ m e j vs i) q=if q=j then some (.tup (D7 m vs i)) else get e q:=by
 cases m
 all_goals grind [OQ,D7,cR]
theorem B9 {m:Bool}{e:aq}(h:bj e) (j:Nat) (vs:List AV) (i:Nat):bj (OQ m e j vs i):=by
 cases m
 ·exact h
 ·exact h.put _ _
theorem E5 {u:VI}{j:Nat}{m:Bool}{i d:Nat}(ho:u.op=.ext j m i) (hd:u.dst=some d) (hg:u.guard=none) (ht:u.th=[]) (e:aq) (hs:HS):bl r u ⟨e,hs⟩ =
  match get e j with
  | some (.tup vs)=>match vs[i]? with
   | some x=>some ⟨put (OQ m e j vs i) d (firm (afi m x)),hs⟩
   | none=>none
  | _=>none:=by
 unfold bl df;simp only[hg,ho,bw,uF,hd,ht]
 cases get e j with
 | none=>rfl
 | some w =>
  cases w<;>try rfl
  rename_i vs;simp only
  cases vs[i]? with
  | none=>rfl
  | some x=>cases m<;>rfl
theorem ajU {u v:VI}{j i k d c:Nat}{m n:Bool}(o1:u.op=.ext j m i) (o2:v.op=.ext j n k) (d1:u.dst=some d) (d2:v.dst=some c) (g1:u.guard=none) (g2:v.guard=none) (ht1:u.th=[]) (ht2:v.th=[])
  (hik:i≠k) (hdc:d≠c) (hdj:d≠j) (hcj:c≠j) {st st1 st2:St}(hsrt:bj st.env) (h1:bl r u st=some st1) (h2:bl r v st1=some st2):∃ st1',bl r v st=some st1'∧bl r u st1'=some st2:=by
 obtain⟨e,hs⟩:=st;rw[E5 o1 d1 g1 ht1]at h1;split at h1
 ·rename_i vs hj;split at h1
  ·rename_i x hx;simp only[Option.some.injEq]at h1;subst h1;rw[E5 o2 d2 g2 ht2]at h2;have hj1:get (put (OQ m e j vs i) d (firm (afi m x))) j=some (.tup (D7 m vs i)):=by
    grind [cR,NL]
   rw[hj1]at h2;simp only[acq hik]at h2;split at h2
   ·rename_i y hy;simp only[Option.some.injEq]at h2;subst h2;have hj2:get (put (OQ n e j vs k) c (firm (afi n y))) j=some (.tup (D7 n vs k)):=by
     grind [cR,NL]
    refine⟨⟨put (OQ n e j vs k) c (firm (afi n y)),hs⟩,by grind [E5],?_⟩;rw[E5 o1 d1 g1 ht1,hj2];simp only[acq (fun h:k=i=>hik h.symm),hx,Option.some.injEq]
    congr 1
    refine oj ((B9 ((B9 hsrt _ _ _).put _ _) _ _ _).put _ _) ((B9 ((B9 hsrt _ _ _).put _ _) _ _ _).put _ _) fun q=>?_
    grind [cR,NL,agZ]
   simp_all
  simp_all
 simp_all
theorem Jg {a b:Bool}{u v:VI}(h:lZ a b u v=true) {F:List Nat}{st st1 st2:St}(hsrt:bj st.env) (h1:aQ r a F u st=some st1) (h2:aQ r b (fM a u st.env F) v st1=some st2):JP r a b u v F st st1 st2:=by
 simp only[lZ,Bool.and_eq_true,Bool.not_eq_true']at h;obtain⟨⟨⟨⟨rfl,rfl⟩,ht1⟩,ht2⟩,h⟩:=h;have ht1:=AZ ht1;have ht2:=AZ ht2;split at h
 ·rename_i j m i l n k d c o1 o2 d1 d2 g1 g2;simp only[Bool.and_eq_true,Bool.not_eq_true',Nat.beq_eq]at h;obtain⟨⟨⟨⟨rfl,hik⟩,hdc⟩,hdj⟩,hcj⟩:=h;obtain⟨st1',k1,k2⟩:=ajU o1 o2 d1 d2 g1 g2 ht1 ht2 (Nat.ne_of_beq_eq_false hik) (Nat.ne_of_beq_eq_false hdc) (Nat.ne_of_beq_eq_false hdj) (Nat.ne_of_beq_eq_false hcj) hsrt h1 h2;exact⟨st1',k1,k2,fun k hk=>hk⟩
 simp_all
theorem adK {a b:Bool}{u v:VI}(h:lZ a b u v=true):kS a u=true:=by
 grind [lZ,kS,sOp]
end
section
variable {r:bI}
theorem Xw {cs:List AV}{off:Nat}{w:AV}(h:cs[off]?=some w):fE (.cells cs) (.cells (cs.set off (share w))):=by
 simp only[fE,fS,List.map_set,xM];refine List.ext_getElem? fun i=>?_
 grind
def ahl (w:AV):Prop:=(∃ p m xs,w=.own p m xs)∨w=.nl
theorem ahY {w:AV}(h:Dy (firm w)=true):ahl w:=by
 cases w with
 | own p m xs=>exact .inl ⟨_,_,_,rfl⟩
 | nl=>exact .inr rfl
 | _=>grind [firm,Dy]
theorem EC {a:Bool}{i:VI}(h:um a i=true):∃ p,a=true∧i.op=.ld none 2 p∧i.th=[]:=by
 simp only[um,Bool.and_eq_true]at h;obtain⟨⟨ha,hn⟩,hth⟩:=h;have hth:=AZ hth;have hn:=agL hn;unfold nB at hn
 grind
theorem akc {a:Bool}{i:VI}(h:um a i=true) (e:aq) (F:List Nat):fM a i e F=F:=by
 obtain⟨p,rfl,hop,hth⟩:=EC h
 grind [fM,nB]
theorem aoE {id off:Nat}{cs:List AV}{w:AV}{h:af}(hg:get h id=some (.cells cs)) (hw:cs[off]?=some w):loadAt h none 2 (.ptr id off)=some (w,put h id (.cells (cs.set off (share w)))):=by
 grind [loadAt,lH]
theorem F4 {a:Bool}{F:List Nat}{u:VI}(h:um a u=true) {e e1:aq}{hs hs1:HS}(hr:aQ r a F u ⟨e,hs⟩=some ⟨e1,hs1⟩):∃ id off cs w,get hs.heap id=some (.cells cs)∧cs[off]?=some w∧ahl w∧
  hs1=⟨put hs.heap id (.cells (cs.set off (share w))),hs.next⟩∧
   ∀ hs' cs',get hs'.heap id=some (.cells cs')→cs'[off]?=some w→aQ r a F u ⟨e,hs'⟩=some ⟨e1,⟨put hs'.heap id (.cells (cs'.set off (share w))),hs'.next⟩⟩:=by
 obtain⟨p,rfl,hop,hth⟩:=EC h;have hn:nB u.op=.take:=by rw[hop];rfl
 simp only[aQ,pK,hn]at hr⊢;split at hr
 ·rename_i st1 h1;split at hr
  ·rename_i d hd;split at hr
   ·rename_i x hx;split at hr
    ·rename_i ho;simp only[Option.some.injEq]at hr;subst hr;have go:df r u ⟨e,hs⟩=some ⟨e1,hs1⟩∧∀ hs',bl r u ⟨e,hs'⟩=df r u ⟨e,hs'⟩:=by
      have dead:∀ st1:St,some (bf u.dst (.tup []) ⟨e,hs⟩)=some st1→get st1.env d=some x→False:=by
       grind [bf,cR,Dy]
      unfold bl at h1
      cases hg:u.guard<;>grind [bl]
     obtain⟨hgo,hsame⟩:=go;unfold df at hgo;simp only[hth,hop,bw,xz]at hgo;split at hgo
     ·rename_i v st0 hv;split at hv
      ·rename_i pv e0 hp;split at hv
       ·rename_i v' h1' hl;simp only[Option.some.injEq,Prod.mk.injEq]at hv;obtain⟨rfl,rfl⟩:=hv;rw[hd]at hgo;obtain⟨rfl,rfl⟩:=hgo;simp only[cR,if_true,Option.some.injEq]at hx;subst hx;have hw:=ahY ho;have back:∀ hs' h2,loadAt hs'.heap none 2 pv=some (v',h2)→(match bl r u ⟨e,hs'⟩ with
          | some st1=>match (some d:Option Nat) with
           | some d=>match get st1.env d with
            | some a=>match Dy a with
             | true=>some st1
             | false=>none
            | none=>none
           | none=>none
          | none=>none)=some ⟨put e0 d (firm v'),⟨h2,hs'.next⟩⟩:=by
         simp_all [df,bw,xz,bf,cR]
        cases pv<;>simp only[loadAt,reduceCtorEq]at hl
        ·split at hl
         ·split at hl
          ·simp at hl
          ·simp only[lH,Option.some.injEq,Prod.mk.injEq]at hl
           grind [aoE]
         simp_all
        ·split at hl
         ·split at hl
          ·split at hl
           ·rename_i u hu;obtain⟨rfl,_⟩:=hl;unfold jY at hu;simp only at hu;split at hu
            ·simp only[Option.some.injEq]at hu;subst hu;rcases hw with ⟨_,_,_,h⟩ | h<;>simp at h
            simp_all
           simp_all
          simp_all
         simp_all
        ·split at hl
         ·rename_i u hu;obtain⟨rfl,_⟩:=hl;unfold jY at hu;simp only at hu;split at hu
          ·simp only[Option.some.injEq]at hu;subst hu;rcases hw with ⟨_,_,_,h⟩ | h<;>simp at h
          simp_all
         simp_all
       simp_all
      simp_all
     simp_all
    simp_all
   simp_all
  simp_all
 simp_all
theorem K0 {α:Type}{l:List (Nat×α)}(h:bj l) (k:Nat) (a b:α):put (put l k a) k b=put l k b:=by
 grind [oj,bj.put,cR]
theorem aiN {α:Type}{l:List (Nat×α)}(h:bj l) {j k:Nat}(hjk:j≠k) (a b:α):put (put l j a) k b=put (put l k b) j a:=by
 grind [oj,bj.put,cR]
theorem ab0 {α:Type}{l:List (Nat×α)}(h:bj l) {j k:Nat}(hjk:j≠k) (a:α):put (del l k) j a=del (put l j a) k:=by
 grind [oj,bj.put,bj.del,cR,Az]
theorem amy {a b:Bool}{u v:VI}(hu:um a u=true) (hv:um b v=true) (hap:yC a b u v=true) {F:List Nat}{st st1 st2:St}(inv:bX st) (h1:aQ r a F u st=some st1) (h2:aQ r b F v st1=some st2):∃ st1',aQ r b F v st=some st1'∧aQ r a F u st1'=some st2:=by
 obtain⟨R1,M1,R2,M2,f1,f2,d1,d2⟩:=mS hap;have l1:=gq (r:=r) f1 F;have l2:=gq (r:=r) f2 F;obtain⟨e,hs⟩:=st;obtain⟨e1,hs1⟩:=st1;obtain⟨e2,hs2⟩:=st2;have hsh:bj hs.heap:=inv.sh;obtain⟨i1,o1,c1,w1,g1,k1,n1,rfl,b1⟩:=F4 hu h1;obtain⟨i2,o2,c2,w2,g2,k2,n2,rfl,b2⟩:=F4 hv h2;rw[cR]at g2;by_cases hi:i2=i1
 ·subst hi;rw[if_pos rfl]at g2;simp only[Option.some.injEq,Obj.cells.injEq]at g2;subst g2;rw[K0 hsh]at h2;by_cases ho:o1=o2
  ·subst ho;have hlt:o1<c1.length:=by
    grind
   rw[List.getElem?_set_self hlt]at k2;simp only[Option.some.injEq]at k2;have hw1:w1=.nl:=by
    rcases n1 with ⟨p,m,xs,rfl⟩ | h
    ·subst k2
     cases p<;>rcases n2 with ⟨_,_,_,h⟩ | h<;>simp[share]at h
    ·exact h
   subst hw1;have hw2:w2=.nl:=by rw[←k2];rfl
   subst hw2;rw[K0 hsh];refine oZ l1 l2 d1 d2 inv.se h1 h2 (b2 hs c1 g1 k1) ?_
   grind [cR]
  ·rw[K0 hsh];have k2':c1[o2]?=some w2:=by simp_all
   refine oZ l1 l2 d1 d2 inv.se h1 h2 (b2 hs c1 g1 k2') ?_
   grind [cR,K0,List.set_comm]
 ·rw[if_neg hi]at g2;refine oZ l1 l2 d1 d2 inv.se h1 h2 (b2 hs c2 g2 k2) ?_
  grind [cR,aiN]
theorem XO {b:Bool}{v:VI}(h:Vb v=true) (hb:(!b || um b v)=true):b=false:=by
 grind [EC,Vb,fG]
theorem amD {a:Bool}{u v:VI}(hu:um a u=true) (hv:Vb v=true) (hap:yC a false u v=true) {F:List Nat}{st st1 st2:St}(inv:bX st) (h1:aQ r a F u st=some st1) (h2:bl r v st1=some st2):∃ st1',bl r v st=some st1'∧aQ r a F u st1'=some st2:=by
 obtain⟨R1,M1,R2,M2,f1,f2,d1,d2⟩:=mS hap;have l1:=gq (r:=r) f1 F;have l2:=gq (r:=r) f2 F;obtain⟨e,hs⟩:=st;obtain⟨e1,hs1⟩:=st1;obtain⟨e2,hs2⟩:=st2;have hsh:bj hs.heap:=inv.sh;have s1:bj e1:=(l1 e hs _ h1).1 inv.se;obtain⟨i1,o1,c1,w1,g1,k1,n1,rfl,b1⟩:=F4 hu h1;have hle:bE (put hs.heap i1 (.cells (c1.set o1 (share w1)))) hs.heap:=(bE.upd (o:=some (.cells (c1.set o1 (share w1)))) g1 (fun o1 ho=>by grind [Xw])).2;obtain⟨R,M,hk⟩:=Nw hv;obtain⟨ρ,τ,K,q1,q2⟩:=Ko (jO hk) s1 h2;simp only at q1 q2;subst q1;rcases K with K | ⟨id,⟨m,xs,ga⟩,hρ,hτ⟩
 ·have hi:=q2 hs (K.1 _ hle);rw[K.2]at hi h2⊢;exact oZ l1 l2 d1 d2 inv.se h1 h2 hi h1
 ·have hi:=q2 hs (hρ _ hle);have hne:i1≠id:=by
   grind [cR]
  refine oZ l1 l2 d1 d2 inv.se h1 h2 hi ?_
  grind [Az,ab0]
theorem anS {b:Bool}{u v:VI}(hu:Vb u=true) (hv:um b v=true) (hap:yC false b u v=true) {F:List Nat}{st st1 st2:St}(inv:bX st) (h1:bl r u st=some st1) (h2:aQ r b F v st1=some st2):∃ st1',aQ r b F v st=some st1'∧bl r u st1'=some st2:=by
 obtain⟨R1,M1,R2,M2,f1,f2,d1,d2⟩:=mS hap;have l1:=gq (r:=r) f1 F;have l2:=gq (r:=r) f2 F;obtain⟨e,hs⟩:=st;obtain⟨e1,hs1⟩:=st1;obtain⟨e2,hs2⟩:=st2;have hsh:bj hs.heap:=inv.sh;obtain⟨R,M,hk⟩:=Nw hu;obtain⟨ρ,τ,K,q1,q2⟩:=Ko (jO hk) inv.se h1;subst q1;obtain⟨i2,o2,c2,w2,g2,k2,n2,rfl,b2⟩:=F4 hv h2;have hle:∀ {h:af},get h i2=some (.cells c2)→bE h (put h i2 (.cells (c2.set o2 (share w2)))):=fun g=>(bE.upd (o:=some (.cells (c2.set o2 (share w2)))) g (fun o1 ho=>by grind [Xw])).1
 rcases K with K | ⟨id,_,hρ,hτ⟩
 ·simp only[K.2]at g2 h2 h1 q2⊢;exact oZ l1 l2 d1 d2 inv.se h1 h2 h2 (q2 _ (K.1 _ (hle g2)))
 ·simp only[hτ]at g2 h2 h1 q2⊢;rw[Az]at g2;split at g2
  ·simp at g2
  ·rename_i hne;refine oZ l1 l2 d1 d2 inv.se h1 h2 (b2 hs c2 g2 k2) ?_;have:=q2 ⟨put hs.heap i2 (.cells (c2.set o2 (share w2))),hs.next⟩ (hρ _ (hle g2));rw[ab0 hsh hne];exact this
theorem G9 {a:Bool}{u:VI}(h:(!a || um a u)=true) {F:List Nat}{st st1:St}(hr:aQ r a F u st=some st1):bl r u st=some st1∧(a=true→∃ d x,u.dst=some d∧get st1.env d=some x∧Dy x=true):=by
 cases a with
 | false=>exact⟨hr,fun h=>by simp at h⟩
 | true =>
  obtain⟨p,_,hop,hth⟩:=EC h;have hn:nB u.op=.take:=by rw[hop];rfl
  simp only[aQ,pK,hn]at hr
  grind
theorem UN {a:Bool}{u:VI}(h:(!a || um a u)=true) {F:List Nat}{st st1:St}(hr:bl r u st=some st1) (ho:a=true→∃ d x,u.dst=some d∧get st1.env d=some x∧Dy x=true):aQ r a F u st=some st1:=by
 cases a with
 | false=>exact hr
 | true =>
  obtain⟨p,_,hop,hth⟩:=EC h;have hn:nB u.op=.take:=by rw[hop];rfl
  grind [aQ,pK]
theorem Gw {a:Bool}{u:VI}(h:(!a || um a u)=true) (e:aq) (F:List Nat):fM a u e F=F:=by
 cases a with
 | false=>rfl
 | true=>grind [akc]
theorem UE {u v:VI}(h:AH u v=true):∃ k1 R1 M1 k2 R2 M2,fG u=some (k1,R1,M1)∧fG v=some (k2,R2,M2)∧(∀ k∈M1,k∉M2):=by
 grind [AH,eV]
theorem afl {a b:Bool}{u v:VI}(h:RG a b u v=true) {F:List Nat}{st st1 st2:St}(inv:bX st) (h1:aQ r a F u st=some st1) (h2:aQ r b (fM a u st.env F) v st1=some st2):JP r a b u v F st st1 st2:=by
 simp only[RG,Bool.and_eq_true]at h;obtain⟨⟨ha,hb⟩,h⟩:=h;rw[Gw ha]at h2;have fin:(∃ st1',aQ r b F v st=some st1'∧aQ r a F u st1'=some st2)→JP r a b u v F st st1 st2:=by
  intro ⟨st1',k1,k2⟩;refine⟨st1',k1,by grind [Gw],?_⟩
  grind [Gw]
 simp only[Bool.or_eq_true,Bool.and_eq_true]at h;rcases h with h | ⟨hap,h⟩
 ·obtain⟨p1,o1⟩:=G9 ha h1;obtain⟨p2,o2⟩:=G9 hb h2;obtain⟨st1',q1,q2⟩:=ad1 h inv p1 p2;obtain⟨k1,R1,M1,k2,R2,M2,e1,e2,hap⟩:=UE h;obtain⟨en1,hs1⟩:=st1;obtain⟨en1',hs1'⟩:=st1';refine fin ⟨_,UN hb q1 fun hn=>?_,UN ha q2 fun hn=>?_⟩
  ·obtain⟨d,x,hd,hx,ho⟩:=o2 hn;refine⟨d,x,hd,?_,ho⟩;obtain⟨_,_,_,_,_,g,_⟩:=jO e1 en1' hs1' _ q2
   grind [Iw]
  ·obtain⟨d,x,hd,hx,ho⟩:=o1 hn;refine⟨d,x,hd,?_,ho⟩;obtain⟨_,_,_,_,_,g,_⟩:=jO e2 en1 hs1 _ p2
   grind [Iw]
 ·rcases h with (h | h) | h
  ·grind [amy]
  ·have:=XO h.2 hb;subst this;exact fin (amD h.1 h.2 hap inv h1 h2)
  ·have:=XO h.1 ha;subst this;exact fin (anS h.1 h.2 hap inv h1 h2)
theorem akr {a:Bool}{i:VI}(h:um a i=true):∃ R M,fG i=some (.t,R,M):=by
 obtain⟨p,_,hop,hth⟩:=EC h
 simp_all [fG]
theorem X9 {st st1:St}(inv:bX st) (he:bj st1.env) (hh:st1.hs=st.hs):bX st1:=⟨he,by grind [bX.sh],by grind [bX.fr]⟩
theorem anR {u:VI}{j:Nat}{m:Bool}{i d:Nat}(ho:u.op=.ext j m i) (hd:u.dst=some d) (hg:u.guard=none) (ht:u.th=[]) {st st1:St}(hs:bj st.env) (h1:bl r u st=some st1):bj st1.env:=by
 obtain⟨e,hs0⟩:=st
 grind [E5,bj.put,B9]
theorem LY {a b:Bool}{u v:VI}(h:lZ a b u v=true) {F:List Nat}{st st1:St}(hs:bj st.env) (h1:aQ r a F u st=some st1):bj st1.env:=by
 simp only[lZ,Bool.and_eq_true,Bool.not_eq_true']at h;obtain⟨⟨⟨⟨rfl,rfl⟩,ht1⟩,ht2⟩,h⟩:=h;split at h
 ·rename_i j m i l n k d c o1 o2 dd1 dd2 g1 g2;exact anR o1 dd1 g1 (AZ ht1) hs h1
 simp_all
theorem aiG {a b:Bool}{u v:VI}(h:gC a b u v=true) (hk:kS b v=false) {F:List Nat}{st st1:St}(inv:bX st) (h1:aQ r a F u st=some st1):bX st1:=by
 simp only[gC,Bool.or_eq_true]at h;rcases h with (h | h) | h
 ·obtain⟨e,hs⟩:=st;simp only[KF,Bool.and_eq_true,Bool.or_eq_true]at h;obtain⟨hap,h⟩:=h;obtain⟨R1,M1,R2,M2,f1,f2,d1,d2⟩:=mS hap;have se:=(gq (r:=r) f1 F e hs _ h1).1 inv.se
  grind [X9,GR,KR,Yw,M4]
 ·exact X9 inv (LY h inv.se h1) (GR (adK h) h1).1
 ·simp only[Bool.and_eq_true]at h;obtain⟨_,h⟩:=h;simp only[RG,Bool.and_eq_true]at h;obtain⟨⟨ha,hb⟩,h⟩:=h;obtain⟨p1,_⟩:=G9 ha h1
  grind [UE,BR,akr,Nw]
theorem aj0 {a b:Bool}{u v:VI}(h:gC a b u v=true) (hk:kS b v=true) {F:List Nat}{st st1:St}(hs:bj st.env) (h1:aQ r a F u st=some st1):bj st1.env:=by
 simp only[gC,Bool.or_eq_true]at h;rcases h with (h | h) | h
 ·obtain⟨e,hs0⟩:=st;simp only[KF,Bool.and_eq_true]at h;obtain⟨R1,M1,R2,M2,f1,f2,d1,d2⟩:=mS h.1;exact(gq (r:=r) f1 F e hs0 _ h1).1 hs
 all_goals grind [LY]
theorem aoT {a b:Bool}{u v:VI}(h:gC a b u v=true) (hk:kS b v=true) {F:List Nat}{st st1 st2:St}(hs:bj st.env) (h1:aQ r a F u st=some st1) (h2:aQ r b (fM a u st.env F) v st1=some st2):JP r a b u v F st st1 st2:=by
 grind [gC,Rr,Jg]
theorem aqV {a b:Bool}{u v:VI}(h:gC a b u v=true) {F:List Nat}{st st1 st2:St}(inv:bX st) (h1:aQ r a F u st=some st1) (h2:aQ r b (fM a u st.env F) v st1=some st2):JP r a b u v F st st1 st2:=by
 grind [gC,Rr,bX.se,Jg,afl]
end
inductive G8 (ops:Array Oper):Nat→Nat→Prop
 | one {i:Nat}{o:Oper}{e:Edge}:ops[i]?=some o→e∈o.after→qG e.ground=true→G8 ops i e.on
 | more {i j:Nat}{o:Oper}{e:Edge}:ops[i]?=some o→e∈o.after→qG e.ground=true→G8 ops e.on j→G8 ops i j
theorem FH {k:Nat}:∀ {a l:List Nat},k∈I8 a l→k∈a∨k∈l
 | [],l,h=>.inr h
 | x::r,l,h=>by
  simp only[I8]at h;split at h
  ·rcases FH h with h | h<;>simp_all
  ·rcases FH h with h | h<;>grind
def Sa (ops:Array Oper) (tab:List (Nat×List Nat)):Prop:=∀ i l,get tab i=some l→∀ j∈l,G8 ops i j
theorem PQ {ops:Array Oper}{tab:List (Nat×List Nat)}(ht:Sa ops tab) {i:Nat}{o:Oper}(ho:ops[i]?=some o):∀ {es:List Edge},(∀ e∈es,e∈o.after)→∀ j,j∈Kc tab es→G8 ops i j
 | [],_,j,h=>by simp[Kc]at h
 | e::r,hes,j,h=>by
  simp only[Kc]at h;have hr:=PQ ht ho (es:=r) (fun x hx=>hes x (.tail _ hx)) j;split at h
  ·rename_i hw;rcases FH h with h | h
   ·rcases List.mem_cons.1 h with rfl | h
    ·exact .one ho (hes e (.head _)) hw
    ·split at h
     ·rename_i l hl;exact .more ho (hes e (.head _)) hw (ht _ _ hl _ h)
     simp_all
   simp_all
  simp_all
theorem MS {ops:Array Oper}:∀ {l:List Nat}{tab:List (Nat×List Nat)},Sa ops tab→Sa ops (BG ops l tab)
 | [],_,ht=>ht
 | i::l,tab,ht=>by
  simp only[BG];refine MS fun k m h j hj=>?_
  rw[dC]at h;split at h
  ·grind [PQ]
  ·exact ht k m h j hj
def aeS (anc:List (Nat×List Nat)) (nr:List Nat) (vs:List VI) (j i:Nat):Prop :=
 (mL anc i j=true∨∃ u v,vs[j]?=some u∧vs[i]?=some v∧gC (ca j nr) (ca i nr) u v=true)∨(nS anc vs i=true∧(∀ k,k<vs.length→mL anc k i=true→mL anc k j=true)∧mL anc j i=false)
theorem PM {anc:List (Nat×List Nat)}{i j:Nat}:∀ {n:Nat},QO anc i j n=true→∀ k,k<n→mL anc k i=true→mL anc k j=true
 | 0,_,k,hk,_=>by omega
 | n+1,h,k,hk,hd=>by
  simp only[QO,Bool.and_eq_true,Bool.or_eq_true,Bool.not_eq_true']at h;by_cases e:k=n
  ·simp_all
  ·exact PM h.2 k (by omega) hd
theorem aji {ops:Array Oper}{anc:List (Nat×List Nat)}(ha:Sa ops anc) {k i:Nat}(h:mL anc k i=true):G8 ops k i:=by
 unfold mL at h;split at h
 ·rename_i l hl;exact ha _ _ hl _ (nu.1 h)
 simp_all
structure mC (P:Program) (n:Nat) (ops:Array Oper) (nr:List Nat) (vs:List VI) (perm:List Nat) (anc:List (Nat×List Nat)):Prop where
 len:vs.length=ops.size
 vi:∀ (i:Nat) (v:VI) (o:Oper),vs[i]?=some v→ops[i]?=some o→uh P n ops v o=true
 edge:∀ (i:Nat) (o:Oper),ops[i]?=some o→∀ e∈o.after,e.on<ops.size∧(txG e.ground=true→e.on<i)
 pair:perm.Pairwise fun j i=>aeS anc nr vs j i
 path:∀ k i,mL anc k i=true→G8 ops k i
 gco:∃ gl:List Nat,(∀ i,i<ops.size→i∈gl)∧gl.Pairwise (fun j i=>∀ o,ops[j]?=some o→∀ e∈o.after,P7 e.ground=true→e.on≠i)∧∀ j∈gl,∀ o,ops[j]?=some o→∀ e∈o.after,P7 e.ground=true→e.on≠j
 nd:perm.Nodup
 lt:∀ i∈perm,i<ops.size
 near:∀ (i:Nat) (v:VI),ca i nr=true→vs[i]?=some v→nB v.op≠.read∨∃ R M,fG v=some (.q,R,M)
 all:∀ i,i<ops.size→i∈perm
theorem MO {P:Program}{n:Nat}{ops:Array Oper}{k:Nat}:∀ {vs:List VI}{os:List Oper}{b:Nat},AA P n ops k b vs os=true→vs.length=os.length∧
  ∀ (i:Nat) (v:VI) (o:Oper),vs[i]?=some v→os[i]?=some o→uh P n ops v o=true∧∀ e∈o.after,e.on<k∧(txG e.ground=true→e.on<b+i)
 | [],[],_,_=>⟨rfl,fun i v o h=>by simp at h⟩
 | x::vs,p::os,b,h=>by
  simp only[AA,Bool.and_eq_true]at h;obtain⟨⟨h1,h3⟩,h4⟩:=h;obtain⟨k1,k2⟩:=MO h4
  grind [Nat.blt_eq]
 | [],_::_,_,h=>by simp[AA]at h
 | _::_,[],_,h=>by simp[AA]at h
theorem Mz {anc:List (Nat×List Nat)}{nr:List Nat}{vs:List VI}{j:Nat}:∀ {l:List Nat},KS anc nr vs j l=true→∀ i∈l,aeS anc nr vs j i
 | [],_,i,hi=>by simp at hi
 | x::r,h,i,hi=>by
  simp only[KS,Bool.and_eq_true,Bool.or_eq_true]at h;rcases List.mem_cons.1 hi with rfl | hi
  ·rcases h.1 with (h | h) | h
   ·exact .inl (.inl h)
   ·split at h
    ·rename_i u v h1 h2;exact .inl (.inr ⟨u,v,h1,h2,h⟩)
    simp_all
   ·simp only[Bool.not_eq_true']at h;exact .inr ⟨h.1.1,PM h.1.2,h.2⟩
  ·exact Mz h.2 i hi
theorem aeG {ops:Array Oper}{j:Nat}{l:List Nat}(h:YU ops j l=true):∀ i∈l,∀ o,ops[j]?=some o→∀ e∈o.after,P7 e.ground=true→e.on≠i:=by
 grind [YU,nu]
theorem Vc {ops:Array Oper}:∀ {l:List Nat},WA ops l=true→l.Pairwise (fun j i=>∀ o,ops[j]?=some o→∀ e∈o.after,P7 e.ground=true→e.on≠i)∧∀ j∈l,∀ o,ops[j]?=some o→∀ e∈o.after,P7 e.ground=true→e.on≠j
 | [],_=>⟨.nil,fun i hi=>by simp at hi⟩
 | j::r,h=>by
  simp only[WA,Bool.and_eq_true]at h;obtain⟨h0,h4⟩:=h;obtain⟨k4,k5⟩:=Vc h4;have hw:=aeG h0
  simp_all
theorem LP {ops:Array Oper}{anc:List (Nat×List Nat)}{nr:List Nat}{vs:List VI}:∀ {l:List Nat},Ka ops anc nr vs l=true→l.Pairwise (fun j i=>aeS anc nr vs j i)∧
  l.Nodup∧∀ i∈l,i<vs.length
 | [],_=>⟨.nil,.nil,fun i hi=>by simp at hi⟩
 | j::r,h=>by
  simp only[Ka,Bool.and_eq_true,Bool.not_eq_true']at h;obtain⟨⟨⟨h1,h2⟩,h3⟩,h4⟩:=h;obtain⟨k1,k2,k3⟩:=LP h4;refine⟨.cons (Mz h1) k1,List.nodup_cons.2 ⟨fun hm=>?_,k2⟩,fun i hi=>?_⟩
  all_goals grind [nu,Nat.blt_eq]
theorem Il {l:List Nat}:∀ {n:Nat},Rt l n=true→∀ i,i<n→i∈l
 | 0,_,i,hi=>by omega
 | n+1,h,i,hi=>by
  simp only[Rt,Bool.and_eq_true]at h;rcases Nat.lt_or_ge i n with h1 | h1
  ·exact Il h.2 i h1
  grind [nu]
theorem Vi {vs:List VI}:∀ {nr:List Nat},WD vs nr=true→∀ (i:Nat) (v:VI),ca i nr=true→vs[i]?=some v→nB v.op≠.read∨∃ R M,fG v=some (.q,R,M)
 | [],_,i,v,h,_=>by simp[ca]at h
 | j::r,h,i,v,hg,hv=>by
  simp only[WD,Bool.and_eq_true]at h;rcases List.mem_cons.1 (nu.1 hg) with e | hm
  ·grind [BJ,OI]
  ·exact Vi h.2 i v (nu.2 hm) hv
theorem anv {P:Program}{n:Nat}{ops:Array Oper}{gco nr:List Nat}{vs:List VI}{perm:List Nat}(h:Bx P n ops perm gco nr vs=true):mC P n ops nr vs perm (BG ops perm []):=by
 simp only[Bx,Bool.and_eq_true]at h;obtain⟨⟨⟨⟨⟨h1,hnr⟩,hga⟩,hg⟩,h2⟩,h3⟩:=h;obtain⟨g1,g2⟩:=Vc hg;obtain⟨k1,k2⟩:=MO h1;have hl:vs.length=ops.size:=by omega
 have ha:Sa ops (BG ops perm []):=MS fun i l h=>by simp[tH]at h
 obtain⟨q1,q2,q3⟩:=LP h3;have hget:∀ (i:Nat) (o:Oper),ops[i]?=some o→ops.toList[i]?=some o:=fun i o h=>by simp_all
 refine⟨hl,fun i v o hv ho=>(k2 i v o hv (hget i o ho)).1,fun i o ho e he=>?_,q1,fun k i h=>aji ha h,⟨gco,fun i hi=>Il hga i (by omega),g1,g2⟩,q2,fun i hi=>by simp_all,Vi hnr,fun i hi=>?_⟩
 ·have hi:i<vs.length:=by
   grind
  have:=(k2 i vs[i] o (by simp) (hget i o ho)).2 e he
  simp_all
 grind [Il]
section
variable {P:Program}{r:bI}
theorem XI {g:Gh}{w:World}:∀ {l:af}{O:Nat→Nat},uO P g w l O→∀ {id:Nat}{o:Obj},get l id=some o→∃ b,g.obj id=some b
 | [],_,_,id,o,h=>by simp[tH]at h
 | (k,v)::l,O,rh,id,o,h=>by
  obtain⟨Q1,Q2,q1,q2,_⟩:=rh;rw[dC]at h;split at h
  ·cases v<;>grind [fK]
  ·exact XI q2 h
theorem S.heap_fresh {g:Gh}{w:World}{t:Array Value}{O:Nat→Nat}{st:St}(s:S P g w st t O) {id:Nat}(h:st.hs.next≤id):get st.hs.heap id=none:=by
 obtain⟨Oe,Oh,re,rh,ho⟩:=s.parts
 cases hg:get st.hs.heap id<;>grind [XI,fresh]
theorem GF {nr:List Nat}{i:Nat}{F:List Nat}{v:VI}{st st1:St}(hn:ca i nr=true→nB v.op≠.read∨∃ R M,fG v=some (.q,R,M)) (hsrt:bj st.env) (h:aQ r (ca i nr) F v st=some st1):bl r v st=some st1:=by
 obtain⟨e,hs⟩:=st
 cases hg:ca i nr with
 | false=>rw[hg]at h;exact h
 | true =>
  rcases hn hg with h1 | ⟨R,M,h1⟩
  ·exact abZ (R:=[]) (M:=[]) hsrt (.inr (.inl h1)) h
  grind [abZ]
theorem LT {nr:List Nat}{vs:List VI}{i:Nat}{v:VI}(hv:vs[i]?=some v) (hk:kS (ca i nr) v=true) {l2:List Nat}:∀ {l1:List Nat}{F:List Nat}{st st':St},(∀ j∈l1,∃ u,vs[j]?=some u∧gC (ca j nr) (ca i nr) u v=true)→bj st.env→
  cX r nr vs (l1++i::l2) F st=some st'→cX r nr vs (i::(l1++l2)) F st=some st'
 | [],F,st,st',_,_,h=>h
 | j::l1,F,st,st',hj,inv,h=>by
  obtain⟨u,hu,hm⟩:=hj j (.head _);simp only[List.cons_append,cX,hu]at h;split at h
  ·simp at h
  ·rename_i st1 h1;have h2:=LT hv hk (fun k hk=>hj k (.tail _ hk)) (aj0 hm hk inv h1) h;simp only[cX,hv]at h2;split at h2
   ·simp at h2
   ·rename_i st2 h3;obtain⟨st1',k1,k2,k3⟩:=aoT hm hk inv h1 h3
    grind [cX,Ny]
theorem L8 {nr:List Nat}{vs:List VI}{i:Nat}{v:VI}(hv:vs[i]?=some v) (hk:kS (ca i nr) v=false) {l2:List Nat}:∀ {l1:List Nat}{F:List Nat}{st st':St},(∀ j∈l1,∃ u,vs[j]?=some u∧gC (ca j nr) (ca i nr) u v=true)→bX st→
  cX r nr vs (l1++i::l2) F st=some st'→cX r nr vs (i::(l1++l2)) F st=some st'
 | [],F,st,st',_,_,h=>h
 | j::l1,F,st,st',hj,inv,h=>by
  obtain⟨u,hu,hm⟩:=hj j (.head _);simp only[List.cons_append,cX,hu]at h;split at h
  ·simp at h
  ·rename_i st1 h1;have h2:=L8 hv hk (fun k hk=>hj k (.tail _ hk)) (aiG hm hk inv h1) h;simp only[cX,hv]at h2;split at h2
   ·simp at h2
   ·rename_i st2 h3;obtain⟨st1',k1,k2,k3⟩:=aqV hm inv h1 h3
    grind [cX,Ny]
theorem Mg {nr:List Nat}{vs:List VI}{i:Nat}{v:VI}(hv:vs[i]?=some v) {l2 l1:List Nat}{F:List Nat}{st st':St}(hj:∀ j∈l1,∃ u,vs[j]?=some u∧gC (ca j nr) (ca i nr) u v=true) (inv:bX st)
  (h:cX r nr vs (l1++i::l2) F st=some st'):cX r nr vs (i::(l1++l2)) F st=some st':=by
 cases hk:kS (ca i nr) v<;>grind [LT,bX.se,L8]
theorem SR {α:Type}:∀ {l:List (Nat×α)},bj l→∀ {p:Nat×α},p∈l→get l p.1=some p.2
 | [],_,p,hp=>by simp at hp
 | (k,v)::r,hs,p,hp=>by
  rw[dC];rcases List.mem_cons.1 hp with rfl | hp
  ·simp
  ·have h1:=(List.pairwise_cons.1 hs).1 p hp;have:k≠p.1:=(zQ.ne h1).symm;rw[if_neg this];exact SR (List.pairwise_cons.1 hs).2 hp
theorem Pj {anc:List (Nat×List Nat)}{d:Nat}{l:List Nat}{i:Nat}:∀ {vs:List VI}{b:Nat},QK anc d l i b vs=true→∀ k v,vs[k]?=some v→b+k≠i→mL anc (b+k) i=true∨∃ R M,fO v=some (R,M)∧d∉M∧(mL anc i (b+k)=true∨∀ q∈l,q∉M)
 | [],_,_,k,v,h,_=>by simp at h
 | x::r,b,h,k,v,hv,hne=>by
  simp only[QK,Bool.and_eq_true,Bool.or_eq_true]at h
  cases k with
  | zero =>
   grind [Nat.beq_eq,eV,nu]
  | succ k =>
   have:=Pj h.2 k v hv (by omega)
   grind
theorem Aq {v:VI}{d:Nat}(h:dZ v=some d):(∃ zs,v=⟨some d,none,.alloc zs,[]⟩)∨∃ z l c th,v=⟨some d,none,.mkslice z l c,th⟩∧sS l=true∧sS c=true:=by
 obtain⟨dst,gd,op,th⟩:=v
 grind [dZ]
theorem sQ {v:VI}{d:Nat}(h:dZ v=some d):v.dst=some d∧v.guard=none∧v.op≠.bad:=by
 grind [Aq]
theorem qk {anc:List (Nat×List Nat)}{vs:List VI}{i:Nat}(h:nS anc vs i=true):∃ v d,vs[i]?=some v∧dZ v=some d∧(∀ k u,vs[k]?=some u→k≠i→mL anc k i=true∨∃ R M,fO u=some (R,M)∧d∉M∧(mL anc i k=true∨∀ q∈sO v,q∉M))∧∀ j,mL anc i j=true→nS anc vs j=false:=by
 unfold nS at h;split at h
 ·rename_i v hv;split at h
  ·rename_i d hd;simp only[Bool.and_eq_true]at h;refine⟨v,d,hv,hd,fun k u hk hne=>by simpa using Pj h.1 k u hk (by omega),fun j hj=>?_⟩
   grind [mL,nu,nS]
  simp_all
 simp_all
theorem ail {v:VI}{k:uD}{R M:List Nat}(h:fG v=some (k,R,M)):fO v=some (R,M):=by grind [fO]
theorem UD {a b:Bool}{u v:VI}(h:gC a b u v=true) (hne:lZ a b u v=false):∃ R1 M1 R2 M2,fO u=some (R1,M1)∧fO v=some (R2,M2)∧(∀ k∈M1,k∉R2∧k∉M2)∧∀ k∈M2,k∉R1:=by
 have sub:∀ {a:Bool}{v:VI}{R M:List Nat},sZ a v=some (R,M)→∃ R',fO v=some (R',M)∧∀ k∈R',k∈R:=fun {a v R M} h=>by
  grind [sZ]
 have ap:yC a b u v=true→∃ R1 M1 R2 M2,fO u=some (R1,M1)∧fO v=some (R2,M2)∧(∀ k∈M1,k∉R2∧k∉M2)∧∀ k∈M2,k∉R1:=fun h=>by
  grind [mS]
 grind [gC,KF,RG,AH,ail,eV]
theorem QE {a b:Bool}{u v:VI}{d:Nat}(hu:dZ u=some d):lZ a b u v=false∧lZ b a v u=false:=by
 grind [Aq,lZ]
theorem PW {v:VI}{d:Nat}(hv:dZ v=some d) {R M:List Nat}(h:fO v=some (R,M)):∀ q∈sO v,q∈R:=by
 rcases Aq hv with ⟨zs,rfl⟩ | ⟨z,l,c,th,rfl,_,_⟩
 ·grind [sO]
 ·intro q hq
  cases th with
  | nil =>
   simp only[fO,fG,Eg,wV,Option.some.injEq,Prod.mk.injEq]at h;rw[←h.1];exact List.mem_append_left _ hq
  | cons p th =>
   simp only[fO,fG,Eg,wV,Option.some.injEq,Prod.mk.injEq]at h;rw[←h.1];exact List.mem_append_left _ hq
theorem aeB {a b:Bool}{u v:VI}{d:Nat}(h:gC a b u v=true) (hu:dZ u=some d):∃ R M,fO v=some (R,M)∧∀ q∈d::sO u,q∉M:=by
 grind [UD,QE,yw,sQ,PW]
theorem PO {a b:Bool}{u v:VI}{d:Nat}(h:gC a b u v=true) (hv:dZ v=some d):∃ R M,fO u=some (R,M)∧∀ q∈d::sO v,q∉M:=by
 grind [UD,QE,yw,sQ,PW]
theorem acd {e e':aq}{x:Rd}(hs:sS x=true) (h:∀ q∈jP x,get e' q=get e q) {v:AV}{e1:aq}(hr:rd e x=some (v,e1)):e1=e∧rd e' x=some (v,e'):=by
 cases x with
 | s i =>
  have hi:=h i (by simp[jP]);simp only[rd]at hr⊢;split at hr<;>simp_all
 | m i=>simp[sS]at hs
 | c u =>
  grind [rd]
theorem acj {z:List D}{l c:Rd}{st st2:St}{a:AV}{st1:St}(hl:sS l=true) (hc:sS c=true) (h:∀ q∈aO [l,c],get st2.env q=get st.env q) (hr:iF z l c st=some (a,st1)):st1=st∧iF z l c st2=some (a,st2):=by
 unfold iF at hr⊢;split at hr
 ·rename_i n e hn;obtain⟨rfl,h1⟩:=acd hl (fun q hq=>h q (by simp[aO,hq])) hn;split at hr
  ·rename_i m e2 hm;obtain⟨rfl,h2⟩:=acd hc (fun q hq=>h q (by simp[aO,hq])) hm;split at hr
   ·split at hr
    ·obtain⟨rfl,rfl⟩:=hr
     simp_all
    simp_all
   simp_all
  simp_all
 simp_all
inductive vK (g:Gh) (w:World) (st:St) (d:Nat):VI→Value→(Nat→Nat)→Prop
 | var {zs:List AV}{b:Nat}{c:Array Value}{el:TypeId}:jT zs c.toList=true→w.heap[b]?=some (.cells c el (0,0))→(∀ o,¬ g.pm b o)→vK g w st d ⟨some d,none,.alloc zs,[]⟩ (.pointer (some ⟨b,0,none⟩)) (one b)
 | list {z:List D}{l c:Rd}{th:List (Nat×Nat)}{a:AV}{x:Value}{A:Nat→Nat}:sS l=true→sS c=true→iF z l c st=some (a,st)→RV g w a x A→vK g w st d ⟨some d,none,.mkslice z l c,th⟩ x A
structure adq (g:Gh) (w:World) (t:Array Value) (O:Nat→Nat) (st:St) (anc:List (Nat×List Nat)) (vs:List VI) (i:Nat) (A:Nat→Nat):Prop where
 late:nS anc vs i=true
 hi:∀ b,A b≠0→b<w.heap.size
 le:∀ b,A b+O b≤1
 it:∃ v d x,vs[i]?=some v∧d<t.size∧t[d]?=some x∧vK g w st d v x A
theorem vK.dst {g:Gh}{w:World}{st:St}{d:Nat}{v:VI}{x:Value}{A:Nat→Nat}(h:vK g w st d v x A):dZ v=some d:=by
 cases h<;>grind [dZ]
theorem vK.keep {g g':Gh}{w w':World}{st st':St}{d:Nat}{v:VI}{x:Value}{A:Nat→Nat}{T:Nat→Prop}(h:vK g w st d v x A) (hx:aI g w g' w' T) (hA:∀ b,A b≠0→b<w.heap.size∧¬ T b)
  (he:∀ q∈sO v,get st'.env q=get st.env q):vK g' w' st' d v x A:=by
 cases h with
 | var h1 h2 h3 =>
  rename_i zs b c el;have hb:=hA b (by simp);obtain⟨b1,b2⟩:=hx.blk b hb.1 hb.2;exact .var h1 (b1.trans h2) fun o ho=>h3 o (b2 o ho)
 | list h1 h2 h3 h4=>exact .list h1 h2 (acj h1 h2 he h3).2 (RV.ext hx _ _ _ h4 fun b hb=>(hA b hb).2)
theorem S.adopt {g:Gh}{w:World}{t:Array Value}{O:Nat→Nat}{st:St}{zs:List AV}{d b:Nat}{c:Array Value}{el:_}(s:S P g w st t O) (hb:b<w.heap.size) (h0:O b=0) (hp:∀ o,¬ g.pm b o) (hz:jT zs c.toList=true)
  (hh:w.heap[b]?=some (.cells c el (0,0))) (hd:d<t.size) (ht:t[d]?=some (.pointer (some ⟨b,0,none⟩))) :
  ∃ g' O',S P g' w ⟨put st.env d (.ptr st.hs.next 0),⟨put st.hs.heap st.hs.next (.cells zs),st.hs.next+1⟩⟩ t O'∧aI g w g' w (fun _=>False)∧(∀ x,x≠b→O' x≤O x)∧g'.pm=g.pm:=by
 have hn:=s.fresh st.hs.next (Nat.le_refl _)
 have hx:aI g w (g.add st.hs.next b 0 1 zs.length) w (fun _=>False):=(aI.refl g w _).add hn _ _ _ _;have hfr:=s.heap_fresh (Nat.le_refl st.hs.next);obtain⟨Oe,Oh,re,rh,ho⟩:=s.parts;have re':=gg.ext hx re (by simp);have rh':uO P (g.add st.hs.next b 0 1 zs.length) w st.hs.heap Oh:=rh.imp' fun k v O1 _ _ q=>q.ext hx (by simp) (by simp)
 have hk:∀ p∈st.hs.heap,p.1≠st.hs.next:=by
  intro p hp e
  grind [SR,sh]
 have r:fK P (g.add st.hs.next b 0 1 zs.length) w st.hs.next (.cells zs) (fun x=>zero x+one b x):=by
  exact⟨b,c,el,zero,by simp[Gh.add],by simp[Gh.add],by simp[Gh.add],by simp[Gh.add],hh,RVs.consts hz,fun o ho=>hp o ho,fun _=>rfl⟩
 rw[←mt hk]at rh';obtain⟨O3,r3,h3⟩:=RL.put s.sh rh' r;have hle:∀ x,one b x+O x≤1:=fun x=>by
  by_cases e:x=b
  ·simp_all
  ·have:=s.le x;grind [one]
 have s1:S P (g.add st.hs.next b 0 1 zs.length) w ⟨st.env,⟨put st.hs.heap st.hs.next (.cells zs),st.hs.next+1⟩⟩ t (fun x=>one b x+O x):=by
  refine⟨s.se,s.sh.put _ _,⟨Oe,O3,re',r3,fun x=>?_⟩,hle,fun x hxx=>?_,fun i hi=>?_,s.pmlt⟩
  ·grind
  ·by_cases e:x=b
   ·omega
   ·exact s.hi x (by grind [one])
  grind [Gh.add,fresh]
 have rv:RV (g.add st.hs.next b 0 1 zs.length) w (.ptr st.hs.next 0) (.pointer (some ⟨b,0,none⟩)) zero:=by
  simp_all [RV,Gh.add]
 obtain⟨O4,s4,l4⟩:=s1.setTmp hd rv (fun x=>by simp_all) (fun x hx=>by simp at hx);have htt:t.setIfInBounds d (.pointer (some ⟨b,0,none⟩))=t:=by
  grind
 rw[htt]at s4;exact⟨_,O4,s4,hx,fun x hne=>by
  grind [one],rfl⟩
theorem S.setOther {g:Gh}{w:World}{t:Array Value}{O:Nat→Nat}{st:St}(s:S P g w st t O) {d:Nat}(hd:get st.env d=none) (x:Value):S P g w st (t.setIfInBounds d x) O:=by
 obtain⟨Oe,Oh,re,rh,ho⟩:=s.parts;refine⟨s.se,s.sh,⟨Oe,Oh,re.imp' fun k v O1 hm _ q=>?_,rh,ho⟩,s.le,s.hi,s.fresh,s.pmlt⟩;have hk:d≠k:=by
  rintro rfl
  have:=SR s.se hm
  simp_all
 refine⟨by simp_all,?_⟩;have:(t.setIfInBounds d x).getD k undef=t.getD k undef:=by
  simp_all
 grind
theorem vK.make {g:Gh}{w:World}{t:Array Value}{O:Nat→Nat}{st st1:St}{d:Nat}{v:VI}{x:Value}{A:Nat→Nat}(h:vK g w st d v x A) (s:S P g w st t O) (hle:∀ b,A b+O b≤1) (hhi:∀ b,A b≠0→b<w.heap.size) (hd:d<t.size) (ht:t[d]?=some x)
  (hr:bl r v st=some st1):∃ g' O',S P g' w st1 t O'∧aI g w g' w (fun b=>A b≠0∨O b≠0)∧(∀ b,O' b≤A b+O b):=by
 cases h with
 | var h1 h2 h3 =>
  rename_i zs b c el;have h9:st1=⟨put st.env d (.ptr st.hs.next 0),⟨put st.hs.heap st.hs.next (.cells zs),st.hs.next+1⟩⟩:=by
   grind [bl,df,bw,Ey,AP,bf,firm]
  have hob:O b=0:=by have:=hle b;simp at this;omega
  obtain⟨g',O',s',x',l',_⟩:=s.adopt (hhi b (by simp)) hob h3 h1 h2 hd ht;rw[←h9]at s';refine⟨g',O',s',x'.mono fun _ _ h=>h.elim,fun q=>?_⟩;by_cases e:q=b
  ·have:=s'.le q;simp_all
  grind
 | list h1 h2 h3 h4 =>
  rename_i z l c th a;obtain⟨v',st2,hv,rfl⟩:=J0 hr;simp only[bw]at hv;rw[h3]at hv;obtain⟨rfl,rfl⟩:=hv;obtain⟨g2,Ov2,O2,r2,s2,x2,l2⟩:=D8 (P:=P) (t:=t) th (env:=st.env) (hs:=st.hs) s h4 hle hhi;have hle2:∀ b,Ov2 b+O2 b≤1:=fun b=>Nat.le_trans (l2 b) (hle b)
  obtain⟨g3,r3,s3,x3⟩:=XF s2 r2 hle2;obtain⟨O4,s4,l4⟩:=s3.setTmp hd r3 hle2 fun b hb=>by
   grind [S.hi]
  have htt:t.setIfInBounds d x=t:=by
   grind
  rw[htt]at s4;exact⟨g3,O4,s4,(x2.mono (T:=fun b=>A b≠0∨O b≠0) fun _ _ h=>h.elim).trans x3 fun b _ hb=>by grind,fun b=>by grind⟩
structure al0 (ops:Array Oper) (nr:List Nat) (vs:List VI) (anc:List (Nat×List Nat)) (m:Region.Mode) (listed:Array Bool) (rem:List Nat) (pd:Nat→Option (Nat→Nat)):Prop where
 pair:rem.Pairwise fun j i=>aeS anc nr vs j i
 nd:rem.Nodup
 lt:∀ i∈rem,i<ops.size
 size:listed.size=ops.size
 mem:∀ i,i<ops.size→(i∈rem↔(listed.getD i true=false∨(pd i).isSome=true))
 pdl:∀ i b,pd i=some b→i<ops.size∧listed.getD i false=true
 closed:∀ i o,listed.getD i false=true→ops[i]?=some o→∀ e∈o.after,Region.binds m e=true→listed.getD e.on false=true
structure Cf (P:Program) (r:bI) (n:Nat) (ops:Array Oper) (nr:List Nat) (vs:List VI) (anc:List (Nat×List Nat)) (m:Region.Mode) (listed:Array Bool) (g0:Gh) (w0:World) (t0:Array Value) (O0:Nat→Nat) (st':St)
  (rem:List Nat) (pd:Nat→Option (Nat→Nat)) (F:List Nat) (g:Gh) (w:World) (t:Array Value) (O:Nat→Nat) (st:St):Prop where
 left:al0 ops nr vs anc m listed rem pd
 n:t.size=n
 s:S P g w st t O
 abs:∀ i∈rem,∀ v d,vs[i]?=some v→dZ v=some d→nS anc vs i=true→get st.env d=none
 pend:∀ i A,pd i=some A→adq g w t O st anc vs i A
 disj:∀ i j A B,i≠j→pd i=some A→pd j=some B→∀ b,A b+B b≤1
 base:dB P g0 w0 t0 O0 st t w g O
 old:∀ i A,pd i=some A→∀ b,b<w0.heap.size→A b+O b≤O0 b
 le0:∀ b,O0 b≤1
 run:cX r nr vs rem F st=some st'
theorem Pw:∀ {l:List Nat},l≠[]→∃ i∈l,∀ j∈l,i≤j
 | [],h=>absurd rfl h
 | [x],_=>⟨x,.head _,fun j hj=>by simp_all⟩
 | x::y::r,_=>by
  obtain⟨i,hi,hm⟩:=Pw (l:=y::r) (by simp)
  grind
theorem ot {ops:Array Oper}{m:Region.Mode}{listed:Array Bool}(hc:∀ i o,listed.getD i false=true→ops[i]?=some o→∀ e∈o.after,Region.binds m e=true→listed.getD e.on false=true) {i j:Nat}
  (hp:G8 ops i j):(∀ o,ops[i]?=some o→∀ e∈o.after,Region.binds m e=true→listed.getD e.on false=true)→listed.getD j false=true:=by
 induction hp<;>grind [RC]
theorem akt {P:Program}{n:Nat}{ops:Array Oper}{nr:List Nat}{vs:List VI}{perm:List Nat}{anc:List (Nat×List Nat)}(hok:mC P n ops nr vs perm anc) {m:Region.Mode}{listed:Array Bool}(hsz:listed.size=ops.size) {un:List Nat}
  (hun:∀ i,i∈un↔i<ops.size∧listed.getD i true=false) (hrem:un≠[]) :
  ((List.range ops.size).filter fun i=>!listed.getD i true && ((ops[i]?).map (·.after.all fun e=>!Region.binds m e || listed.getD e.on false)).getD false)≠[]∧
  ∀ i,i∈((List.range ops.size).filter fun i=>!listed.getD i true && ((ops[i]?).map (·.after.all fun e=>!Region.binds m e || listed.getD e.on false)).getD false)↔
   i<ops.size∧listed.getD i true=false∧∃ o,ops[i]?=some o∧∀ e∈o.after,Region.binds m e=true→listed.getD e.on false=true:=by
 have hmu:∀ i,i<ops.size→(i∈un↔listed.getD i true=false):=fun i hi=>⟨fun h=>((hun i).1 h).2,fun h=>(hun i).2 ⟨hi,h⟩⟩
 have hlt0:∀ i,i∈un→i<ops.size:=fun i h=>((hun i).1 h).1
 generalize hrs:((List.range ops.size).filter fun i=>!listed.getD i true && ((ops[i]?).map (·.after.all fun e=>!Region.binds m e || listed.getD e.on false)).getD false)=rs;have hmem:∀ i,i∈rs↔i<ops.size∧listed.getD i true=false∧∃ o,ops[i]?=some o∧∀ e∈o.after,Region.binds m e=true→listed.getD e.on false=true:=by
  grind [Array.all_eq_true_iff_forall_mem]
 have hlist:∀ k,k<ops.size→k∉un→listed.getD k false=true:=fun k hen hnot=>by
  simp_all
 have ready:∀ i∈un,(∀ e∈(ops[i]?).toList.flatMap (fun o=>o.after.toList),Region.binds m e=true→e.on∉un)→i∈rs:=fun i hi he=>by
  have hin:=hlt0 i hi;refine(hmem i).2 ⟨hin,(hmu i hin).1 hi,ops[i],by simp[hin],fun e hem hb=>?_⟩;have hen:=(hok.edge i ops[i] (by simp[hin]) e hem).1
  simp_all
 have hne:rs≠[]:=by
  by_cases hm:m=.gc
  ·obtain⟨gl,ga,gt,gs⟩:=hok.gco;have hl:gl.filter (fun i=>decide (i∈un))≠[]:=by
    obtain⟨i,hi⟩:=List.exists_mem_of_ne_nil un hrem;exact List.ne_nil_of_mem (List.mem_filter.2 ⟨ga i (hlt0 i hi),by grind⟩)
   cases hc:gl.filter (fun i=>decide (i∈un)) with
   | nil=>simp_all
   | cons i rest =>
    have hmm0:∀ k,k∈i::rest↔k∈gl∧k∈un:=fun k=>by grind
    have him:=(hmm0 i).1 (.head _);have hpw:(i::rest).Pairwise (fun j i=>∀ o,ops[j]?=some o→∀ e∈o.after,P7 e.ground=true→e.on≠i):=by grind
    have:i∈rs:=ready i him.2 fun e he hb hmm=>by
     have hg:P7 e.ground=true:=by
      unfold Region.binds at hb
      grind [P7]
     grind [List.pairwise_cons]
    grind
  ·obtain⟨i,hir,hmin⟩:=Pw hrem;have hi:=hlt0 i hir;have:i∈rs:=ready i hir fun e he hb hmm=>by
    simp[hi]at he;have hg:txG e.ground=true:=by
     unfold Region.binds at hb
     grind [txG]
    have h1:=(hok.edge i ops[i] (by simp[hi]) e he).2 hg
    grind
   grind
 simp_all
theorem Nd {listed:Array Bool}{i:Nat}(hi:i<listed.size) (k:Nat) (b:Bool):(listed.setIfInBounds i true).getD k b=if i=k then true else listed.getD k b:=by
 simp only[Array.getD_eq_getD_getElem?,Array.getElem?_setIfInBounds]
 grind
theorem xH {listed:Array Bool}{i:Nat}(hi:i<listed.size):listed.getD i true=listed.getD i false:=by
 simp_all
variable {n:Nat}{ops:Array Oper}{nr:List Nat}{vs:List VI}{perm:List Nat}{anc:List (Nat×List Nat)}{m:Region.Mode}{listed:Array Bool}{g0:Gh}{w0:World}{t0:Array Value}{O0:Nat→Nat}{st':St}
theorem Cf.flush (hok:mC P n ops nr vs perm anc) {l1 l2:List Nat}{j:Nat}{A:Nat→Nat}{pd:Nat→Option (Nat→Nat)}{F:List Nat}{g:Gh}{w:World}{t:Array Value}{O:Nat→Nat}{st:St}
  (c:Cf P r n ops nr vs anc m listed g0 w0 t0 O0 st' (l1++j::l2) pd F g w t O st) (hj:pd j=some A) (hp:∀ x∈l1,∃ u v,vs[x]?=some u∧vs[j]?=some v∧gC (ca x nr) (ca j nr) u v=true) :
  ∃ F' g' O' st1,Cf P r n ops nr vs anc m listed g0 w0 t0 O0 st' (l1++l2) (fun i=>if i=j then none else pd i) F' g' w t O' st1:=by
 have pj:=c.pend j A hj;obtain⟨v,d,x,h1,h4,h5,hk⟩:=pj.it;have hdst:=hk.dst;have hjn:=(c.left.pdl j A hj).1;have inv:bX st:=⟨c.s.se,c.s.sh,fun id hid=>c.s.heap_fresh hid⟩
 have hsw:∀ x∈l1,∃ u,vs[x]?=some u∧gC (ca x nr) (ca j nr) u v=true:=fun x hx=>by
  simp_all
 have h6:=Mg h1 hsw inv c.run;simp only[cX,h1]at h6;split at h6
 ·simp at h6
 ·rename_i st1 h7;have h8:bl r v st=some st1:=GF (fun hw=>hok.near j _ hw h1) c.s.se h7;obtain⟨g',O',s',x',l'⟩:=hk.make c.s pj.le pj.hi h4 h5 h8;have hsub:(l1++l2).Sublist (l1++j::l2):=List.Sublist.append_left (List.sublist_cons_self j l2) l1;have hnd:=c.left.nd;have hjl:j∉l1++l2:=fun hm=>by
   grind
  have hfoot:∀ i,i∈l1++l2→nS anc vs i=true→∀ u q,vs[i]?=some u→dZ u=some q→∀ k∈q::sO u,get st1.env k=get st.env k:=fun i hi hl u q hu hq k hkm=>by
   have hij:i≠j:=fun e=>hjl (e▸hi)
   obtain⟨u2,q2,k1,k2,k3,k4⟩:=qk hl;obtain⟨R,M,f1,f0,f2⟩:=(k3 j v h1 (fun e=>hij e.symm)).resolve_left (fun hdj=>by
    obtain⟨_,_,_,_,_,hno⟩:=qk pj.late
    simp_all)
   obtain⟨e1,hs1'⟩:=st;refine(tM f1 e1 hs1' st1 h8).2.1 k ?_
   grind [adq.late]
  have hmem:∀ i B,i≠j→pd i=some B→i∈l1++l2:=fun i B e hi=>by
   have:=(c.left.mem i (c.left.pdl i B hi).1).2 (.inr (by simp_all))
   simp_all
  refine⟨_,g',O',st1,⟨⟨c.left.pair.sublist hsub,hnd.sublist hsub,fun k hk=>c.left.lt k (hsub.subset hk),c.left.size,fun k hk=>?_,fun i b' hi=>?_,c.left.closed⟩,c.n,s',fun i hi u q hu hq hl=>?_,fun i B hi=>?_,fun i k B C hik hi hk=>?_,?_,fun i B hi b hb=>?_,c.le0,h6⟩⟩
  ·have hold:=c.left.mem k hk;by_cases e:k=j
   ·subst e;have hl:=(c.left.pdl k A hj).2
    grind
   simp_all
  ·by_cases e:i=j
   ·simp_all
   ·simp only[e,if_false]at hi;exact c.left.pdl i b' hi
  ·rw[hfoot i hi hl u q hu hq q (.head _)]
   grind [abs]
  ·by_cases e:i=j
   ·simp_all
   ·simp only[e,if_false]at hi;have p:=c.pend i B hi;obtain⟨u,q,y,k1,k2,k3,k4⟩:=p.it;have hd:=c.disj i j B A e hi hj;exact⟨p.late,p.hi,fun b=>by have:=l' b;have:=p.le b;have:=hd b;have:=pj.le b;omega,u,q,y,k1,k2,k3,
     k4.keep x' (fun b hb=>⟨p.hi b hb,fun h=>by have:=hd b;have:=p.le b;omega⟩) fun k hkm=>hfoot i (hmem i B e hi) p.late u q k1 k4.dst k (.tail _ hkm)⟩
  ·by_cases e:i=j
   ·simp_all
   ·by_cases e2:k=j
    ·simp_all
    ·simp only[e,e2,if_false]at hi hk;exact c.disj i k B C hik hi hk
  ·refine⟨s',c.base.ext.trans x' fun b hb h=>?_,fun b hb=>?_,c.base.size⟩
   ·have:=c.old j A hj b hb;omega
   ·exact Nat.le_trans (l' b) (c.old j A hj b hb)
  ·by_cases e:i=j
   ·simp_all
   ·simp only[e,if_false]at hi;have q1:=c.old i B hi b hb;have q2:=c.old j A hj b hb;have q3:=c.disj i j B A e hi hj b
    grind
theorem Cf.flush_all (hok:mC P n ops nr vs perm anc):∀ {rem:List Nat}{pd:Nat→Option (Nat→Nat)}{F:List Nat}{g:Gh}{w:World}{t:Array Value}{O:Nat→Nat}{st:St},
  Cf P r n ops nr vs anc m listed g0 w0 t0 O0 st' rem pd F g w t O st→(∀ i∈rem,(pd i).isSome=true)→∃ g' O',dB P g0 w0 t0 O0 st' t w g' O'
 | [],pd,F,g,w,t,O,st,c,_=>by
  have h:=c.run;simp only[cX,Option.some.injEq]at h;subst h;exact⟨g,O,c.base⟩
 | j::rem,pd,F,g,w,t,O,st,c,hall=>by
  obtain⟨b,hb⟩:=Option.isSome_iff_exists.1 (hall j (.head _));obtain⟨F',g',O',st1,c'⟩:=Cf.flush (l1:=[]) hok c hb (fun x hx=>by simp at hx);have hnd:=c.left.nd;exact Cf.flush_all hok c' fun i hi=>by
   grind
theorem Cf.flush_for (hok:mC P n ops nr vs perm anc) {i:Nat}(hil:listed.getD i true=false) (hnl:nS anc vs i=false) {o:Oper}(ho:ops[i]?=some o) (hready:∀ e∈o.after,Region.binds m e=true→listed.getD e.on false=true) :
  ∀ {k:Nat}{l1 l2:List Nat},l1.length=k→∀ {pd:Nat→Option (Nat→Nat)}{F:List Nat}{g:Gh}{w:World}{t:Array Value}{O:Nat→Nat}{st:St},
  Cf P r n ops nr vs anc m listed g0 w0 t0 O0 st' (l1++i::l2) pd F g w t O st→
  ∃ l1' pd' F' g' O' st1,Cf P r n ops nr vs anc m listed g0 w0 t0 O0 st' (l1'++i::l2) pd' F' g' w t O' st1∧(∀ j∈l1',∃ u v,vs[j]?=some u∧vs[i]?=some v∧gC (ca j nr) (ca i nr) u v=true)∧(l1'.filter fun q=>!listed.getD q true)=(l1.filter fun q=>!listed.getD q true):=by
 intro k
 induction k with
 | zero =>
  grind
 | succ k ih =>
  intro l1 l2 hk pd F g w t O st c;have hpw:=List.pairwise_append.1 c.left.pair;have hin:i<ops.size:=c.left.lt i (by simp);have hlist:∀ a q,a<ops.size→G8 ops a q→listed.getD a false=true∨a=i→listed.getD q false=true:=fun a q ha hpa hla=>by
   refine ot c.left.closed hpa fun o' ho'=>?_
   rcases hla with h | h
   ·exact c.left.closed a o' h ho'
   simp_all
  by_cases hex:∃ j∈l1,mL anc i j=true
  ·
   obtain⟨la,j,lb,hl1,hdj,hfirst⟩:∃ la j lb,l1=la++j::lb∧mL anc i j=true∧∀ x∈la,mL anc i x=false:=by
    clear ih hk c hpw
    induction l1 with
    | nil=>simp_all
    | cons x l1 ihl =>
     by_cases hx:mL anc i x=true
     ·exact⟨[],x,l1,rfl,hx,fun y hy=>by simp at hy⟩
     ·obtain⟨la,j,lb,h1,h2,h3⟩:=ihl (by
       simp_all)
      grind
   subst hl1;have hjm:j∈(la++j::lb)++i::l2:=by simp
   have hjn:=c.left.lt j hjm;have hjl:=hlist i j hin (hok.path i j hdj) (.inr rfl);have hjp:∃ b,pd j=some b:=by
    rcases (c.left.mem j hjn).1 hjm with h | h<;>grind [Option.isSome_iff_exists]
   obtain⟨b,hb⟩:=hjp;have hlate:=(c.pend j b hb).late;obtain⟨_,_,_,_,_,hnoanc⟩:=qk hlate;have hpj:=List.pairwise_append.1 hpw.1;have hpass:∀ x∈la,∃ u v,vs[x]?=some u∧vs[j]?=some v∧gC (ca x nr) (ca j nr) u v=true:=fun x hx=>by
    have hxm:x∈(la++j::lb)++i::l2:=by simp[hx]
    have hxn:=c.left.lt x hxm;rcases hpj.2.2 x hx j (.head _) with (h | h) | h
    ·
     have hxl:=hlist j x hjn (hok.path j x h) (.inl hjl);rcases (c.left.mem x hxn).1 hxm with h2 | h2
     ·grind
     ·obtain⟨b2,hb2⟩:=Option.isSome_iff_exists.1 h2;have:=(c.pend x b2 hb2).late
      simp_all
    all_goals grind [mC.len]
   have c0:Cf P r n ops nr vs anc m listed g0 w0 t0 O0 st' (la++j::(lb++i::l2)) pd F g w t O st:=by simp_all
   obtain⟨F',g',O',st1,c'⟩:=Cf.flush hok c0 hb hpass
   grind
  ·refine⟨l1,pd,F,g,O,st,c,fun j hj=>?_,rfl⟩;rcases hpw.2.2 j hj i (.head _) with (h | h) | h<;>grind
theorem Y6 (hok:mC P n ops nr vs perm anc) {i:Nat}{v:VI}{d:Nat}(hv:vs[i]?=some v) (hd:dZ v=some d):∀ {l1 l2 F:List Nat}{st:St},bj st.env→(∀ k∈l1,∀ u,vs[k]?=some u→∃ R M,fO u=some (R,M)∧∀ q∈d::sO v,q∉M)→
  cX r nr vs (l1++i::l2) F st=some st'→∃ st1 st2,bl r v st1=some st2∧∀ q∈d::sO v,get st1.env q=get st.env q
 | [],l2,F,st,hsrt,_,h=>by
  simp only[List.nil_append,cX,hv]at h;split at h
  ·simp at h
  ·rename_i st1 h1;exact⟨st,st1,GF (fun hw=>hok.near i _ hw hv) hsrt h1,fun _ _=>rfl⟩
 | k::l1,l2,F,st,hsrt,hl,h=>by
  simp only[List.cons_append,cX]at h;split at h
  ·simp at h
  ·rename_i u hu;split at h
   ·simp at h
   ·rename_i st1 h1;have h2:bl r u st=some st1:=GF (fun hw=>hok.near k _ hw hu) hsrt h1;obtain⟨R,M,f1,f2⟩:=hl k (.head _) u hu;obtain⟨e1,hs1⟩:=st;obtain⟨k1,k2,_⟩:=tM f1 e1 hs1 st1 h2;obtain⟨sa,sb,q1,q2⟩:=Y6 hok hv hd (k1 hsrt) (fun k hk=>hl k (.tail _ hk)) h
    grind
theorem afK {g:Gh}{w:World}{t:Array Value}{O:Nat→Nat}{zs:List AV}{o:Oper}(s:S P g w st' t O) (hc:aE P (.alloc zs) o.op=true) :
  ∃ (c:Array Value) (el:_),jT zs c.toList=true∧(execOp (ev t) o).run P w=.ok (.value (.pointer (some ⟨w.heap.size,0,none⟩))) (w.alloc (.cells c el))∧aI g w g (w.alloc (.cells c el)) (fun _=>False):=by
 obtain⟨dst,op,ty,pos,aft,gd⟩:=o;simp only[aE]at hc;split at hc
 ·rename_i e;split at hc
  ·split at hc
   ·rename_i z hz;exact⟨z.cells,e,hc,by simp_all [execOp,Instr.alloc,zeroValue,typeInfo,newVar,newRow],aI.alloc s.pmlt _ _ (by grind [dx])⟩
   simp_all
  simp_all
 simp_all
theorem agk {ro:Option Nat}{g:Gh}{w:World}{t:Array Value}{O:Nat→Nat}{st:St}{v:VI}{d:Nat}{o:Oper}(s:S P g w st t O) (hd:dZ v=some d) (hc:aE P v.op o.op=true)
  (hmk:∀ z l c th,v=⟨some d,none,.mkslice z l c,th⟩→sS l=true→sS c=true→∃ a,iF z l c st=some (a,st)) (ds:List Deferred) (next:Act→World→Prop) (Q:Exit→Act→World→Prop)
  (hn:∀ w1 x g1 O1 A,S P g1 w1 st t O1→aI g w g1 w1 (fun b=>O b≠0)→(∀ b,b<w.heap.size→A b+O1 b≤O b)→(∀ b,A b+O1 b≤1)→(∀ b,A b≠0→b<w1.heap.size)→vK g1 w1 st d v x A→next (Act.put ⟨t,ds⟩ o.dst x) w1) :
  o.uponIn (FR ro) 0 P ⟨t,ds⟩ next Q ((execOp (ev t) o).run P w):=by
 rcases Aq hd with ⟨zs,rfl⟩ | ⟨z,l,c,th,rfl,hl,hc2⟩
 ·obtain⟨cc,el,hz,hrun,hx⟩:=afK s hc;rw[hrun];have hobn:O w.heap.size=0:=by
   by_cases h:O w.heap.size=0
   ·exact h
   ·have:=s.hi _ h;omega
  refine hn _ _ g O (one w.heap.size) (s.extF hx rfl fun b o' hp=>by have:=s.pmlt b o' hp;grind [World.size_alloc]) (hx.mono fun _ _ h=>h.elim) (fun b hb=>?_) (fun b=>?_) (fun b hb=>?_) (.var hz (fy _ _) fun o' hp=>?_)
  ·grind [one]
  ·by_cases e:b=w.heap.size
   ·simp_all
   ·have:=s.le b;grind [one]
  ·grind [pW,World.size_alloc]
  ·have:=s.pmlt _ o' hp;omega
 ·obtain⟨a,ha⟩:=hmk z l c th rfl hl hc2;exact(PT s ha hc).opW ds next Q fun x w' g' Oa O' k=>hn _ _ g' O' Oa k.st k.ext k.old k.le k.hi (.list hl hc2 ha k.val)
theorem anD {ro:Option Nat}(hr:d8 P r) (hcs:eG P r) (hok:mC P n ops nr vs perm anc) {Q:Exit→Act→World→Prop}(ds:List Deferred)
  (hq:∀ w' t' g' O',dB P g0 w0 t0 O0 st' t' w' g' O'→Q .normal ⟨t',ds⟩ w') :
  ∀ {fuel:Nat}{listed:Array Bool}{tt:Nat}{rem:List Nat}{pd:Nat→Option (Nat→Nat)}{F:List Nat}{g:Gh}{w:World}{t:Array Value}{O:Nat→Nat}{st:St},
   Cf P r n ops nr vs anc m listed g0 w0 t0 O0 st' rem pd F g w t O st→(rem.filter fun i=>!listed.getD i true).length=fuel→wpOpsIn (FR ro) 0 P ops Q (Region.linearise.go m ops fuel tt listed []) ⟨t,ds⟩ w:=by
 intro fuel
 induction fuel with
 | zero =>
  intro listed tt rem pd F g w t O st c hf;have hnil:=List.eq_nil_of_length_eq_zero hf;have hall:∀ i∈rem,(pd i).isSome=true:=fun i hi=>by
   have hin:=c.left.lt i hi;rcases (c.left.mem i hin).1 hi with h | h<;>simp_all
  obtain⟨g',O',G⟩:=Cf.flush_all hok c hall;exact hq _ _ _ _ G
 | succ fuel ih =>
  intro listed tt rem pd F g w t O st c hf;unfold Region.linearise.go;simp only;have hun:∀ i,i∈(rem.filter fun i=>!listed.getD i true)↔i<ops.size∧listed.getD i true=false:=fun i=>by
   rw[List.mem_filter,Bool.not_eq_true'];exact⟨fun h=>⟨c.left.lt i h.1,h.2⟩,fun h=>⟨(c.left.mem i h.1).2 (.inl h.2),h.2⟩⟩
  obtain⟨hne,hmem⟩:=akt (m:=m) hok c.left.size hun (by grind);generalize hrs:((List.range ops.size).filter fun i=>!listed.getD i true && ((ops[i]?).map (·.after.all fun e=>!Region.binds m e || listed.getD e.on false)).getD false)=rs at hne hmem;have hlen:0<rs.length:=List.length_pos_iff.2 hne;have hlt:=Nat.mod_lt tt hlen;rw[List.getElem?_eq_getElem hlt];simp only;generalize hi:rs[tt % rs.length]=i;have hirs:i∈rs:=by grind
  obtain⟨hin,hil,o,ho,hready⟩:=(hmem i).1 hirs;have hirem:i∈rem:=(c.left.mem i hin).2 (.inl hil);have hsz:i<listed.size:=by grind
  have hvl:i<vs.length:=by grind [mC.len]
  have hv:vs[i]?=some vs[i]:=by simp
  have hacc:=linearise_go_acc m ops fuel (tt / rs.length) (listed.setIfInBounds i true) [i];rw[hacc];simp only[List.reverse_cons,List.reverse_nil,List.nil_append,List.cons_append,wpOpsIn,ho];have hclosed:∀ k o',(listed.setIfInBounds i true).getD k false=true→ops[k]?=some o'→∀ e∈o'.after,Region.binds m e=true→(listed.setIfInBounds i true).getD e.on false=true:=by
   intro k o' hk ho' e he hb;rw[Nd hsz]at hk⊢;split
   ·rfl
   ·by_cases e1:i=k
    ·simp_all
    ·rw[if_neg e1]at hk;exact c.left.closed k o' hk ho' e he hb
  have hcount:∀ {l1 l2:List Nat},rem=l1++i::l2→∀ {l1':List Nat},(l1'.filter fun i=>!listed.getD i true)=(l1.filter fun i=>!listed.getD i true)→i∉l1'→i∉l2→((l1'++l2).filter fun q=>!(listed.setIfInBounds i true).getD q true).length=fuel:=by
   intro l1 l2 hrem l1' hl1 hn1 hn2;have h1:∀ l:List Nat,i∉l→(l.filter fun q=>!(listed.setIfInBounds i true).getD q true)=l.filter fun q=>!listed.getD q true:=fun l hl=>List.filter_congr fun q hq=>by
    rw[Nd hsz,if_neg (fun e=>hl (by simp_all))]
   grind
  cases hl:nS anc vs i with
  | true =>
   obtain⟨v,d,hvi,hdv,hfree,hnoanc⟩:=qk hl;have hchk:=hok.vi i _ o hvi ho;simp only[uh,Bool.and_eq_true]at hchk;obtain⟨⟨hdst,hgd⟩,hop⟩:=hchk;obtain⟨hd1,hd2,hd3⟩:=sQ hdv;have hgn:o.guard=none:=by
    grind [wX]
   have hod:o.dst=some d∧d<n:=by
    rw[hd1]at hdst;split at hdst<;>grind [Nat.beq_eq,Nat.blt_eq]
   have hw:Region.wanted o (yielded ops t)=true:=by grind [Region.wanted]
   rw[if_pos hw];refine⟨fun _ _=>trivial,?_⟩;rw[FI _ _ (Hk hd3 hop)];have habs:=c.abs i hirem v d hvi hdv hl;obtain⟨l1,l2,hrem⟩:=List.append_of_mem hirem;have hapl:∀ k∈l1,∀ u,vs[k]?=some u→∃ R M,fO u=some (R,M)∧∀ q∈d::sO v,q∉M:=fun k hk u hu=>by
    have hkm:k∈rem:=by simp_all
    have hkn:=c.left.lt k hkm;have hne:k≠i:=fun e=>by
     have hnd:=c.left.nd
     grind
    have hpr:=c.left.pair;rw[hrem]at hpr;have hnk:mL anc i k=true→False:=fun h=>by
     have hkl:=ot c.left.closed (hok.path i k h) fun o' ho'=>by
      simp_all
     rcases (c.left.mem k hkn).1 hkm with h2 | h2
     ·grind [xH]
     ·obtain⟨b2,hb2⟩:=Option.isSome_iff_exists.1 h2;have:=(c.pend k b2 hb2).late
      simp_all
    rcases (List.pairwise_append.1 hpr).2.2 k hk i (.head _) with (h | ⟨u',v',a1,a2,a3⟩) | h
    ·simp_all
    ·rw[hu]at a1;rw[hvi]at a2;simp only[Option.some.injEq]at a1 a2;subst a1 a2;exact PO a3 hdv
    ·obtain⟨R,M,f1,f2,f3⟩:=(hfree k u hu hne).resolve_left (fun hd=>by simp_all)
     grind
   have hrun0:=c.run;rw[hrem]at hrun0;obtain⟨sa,sb,hsa,hsq⟩:=Y6 hok hvi hdv c.s.se hapl hrun0;refine agk (ro:=ro) c.s hdv hop (fun z l c' th e hl1 hl2=>?_) ds _ Q fun w1 x g1 O1 A hs1 hx1 hold1 hle1 hhi1 hpk=>?_
   ·subst e;simp only[bl]at hsa;obtain⟨v',st2,hv',_⟩:=J0 hsa;simp only[bw]at hv';exact⟨v',(acj hl1 hl2 (fun q hq=>(hsq q (List.mem_cons_of_mem _ hq)).symm) hv').2⟩
   ·rw[Rn,hod.1];have hdn:d<t.size:=by grind [Cf.n]
    have hs2:=hs1.setOther habs x;have ht1:pD t (some d) x=t.setIfInBounds d x:=by grind [Act.put]
    rw[ht1];have hgt:∀ q,q≠d→(t.setIfInBounds d x)[q]?=t[q]?:=fun q hqd=>by
     grind
    have hwle:w0.heap.size≤w.heap.size:=c.base.ext.size;have hO1:∀ b,b<w.heap.size→O1 b≤O b:=fun b hb=>by grind
    have hO1':∀ b,O1 b≤1:=fun b=>by grind
    refine ih (rem:=rem) (pd:=fun q=>if q=i then some A else pd q) (F:=F) (g:=g1) (O:=O1) (st:=st) ⟨⟨c.left.pair,c.left.nd,c.left.lt,by simp[c.left.size],fun k hk=>?_,fun k b hk=>?_,hclosed⟩,by simp[c.n],hs2,c.abs,fun k B hk=>?_,fun k q B C hkq hk hq'=>?_,?_,fun k B hk b hb=>?_,c.le0,c.run⟩ ?_
    ·rw[Nd hsz];by_cases e:i=k
     ·simp_all
     ·have e':¬ k=i:=fun h=>e h.symm
      simp only[e,e',if_false];exact c.left.mem k hk
    ·rw[Nd hsz];by_cases e:k=i
     ·simp_all
     ·simp only[e,if_false]at hk;have:=c.left.pdl k b hk
      simp_all
    ·by_cases e:k=i
     ·subst e;simp only[if_true,Option.some.injEq]at hk;subst hk;refine⟨hl,hhi1,hle1,v,d,x,hvi,by simp[hdn],?_,hpk⟩
      simp_all
     ·simp only[e,if_false]at hk;have q:=c.pend k B hk;obtain⟨u,d',y,h1,h4,h5,h6⟩:=q.it;have hdd:d'≠d:=by
       obtain⟨R,M,f1,f2,_⟩:=(hfree k _ h1 e).resolve_left (fun hdk=>by
        obtain⟨_,_,_,_,_,hno⟩:=qk q.late
        simp_all)
       intro h;exact f2 (h▸yw f1 (sQ h6.dst).1)
      exact⟨q.late,fun b hb=>Nat.lt_of_lt_of_le (q.hi b hb) hx1.size,fun b=>by
       by_cases hb:b<w.heap.size
       ·have:=q.le b;grind
       grind [adq.hi],u,d',y,h1,by simp_all,(hgt d' hdd).trans h5,
       h6.keep hx1 (fun b hb=>⟨q.hi b hb,fun h=>by have:=q.le b;omega⟩) fun _ _=>rfl⟩
    ·have key:∀ k B,k≠i→pd k=some B→∀ b,A b+B b≤1:=fun k B e hk b=>by
      have q:=c.pend k B hk;by_cases hb:b<w.heap.size
      ·have:=q.le b;grind
      grind [adq.hi]
     intro b;by_cases e:k=i
     ·have e2:q≠i:=fun h=>hkq (e.trans h.symm)
      simp only[e,e2,if_true,if_false,Option.some.injEq]at hk hq';subst hk;exact key q C e2 hq' b
     ·by_cases e2:q=i
      ·simp only[e,e2,if_true,if_false,Option.some.injEq]at hk hq';subst hq';have:=key k B e hk b;omega
      ·simp only[e,e2,if_false]at hk hq';exact c.disj k q B C hkq hk hq' b
    ·exact⟨hs2,c.base.ext.trans hx1 fun b hb h=>by have:=c.base.old b hb;omega,fun b hb=>Nat.le_trans (hO1 b (by omega)) (c.base.old b hb),by simp[c.base.size]⟩
    ·by_cases e:k=i
     ·simp only[e,if_true,Option.some.injEq]at hk;subst hk;have:=hold1 b (by omega);have:=c.base.old b hb;omega
     ·simp only[e,if_false]at hk;have:=c.old k B hk b hb;grind
    ·have hnd:=c.left.nd;rw[hrem]at hnd;have hnd':=List.nodup_append.1 hnd;have hn1:i∉l1:=fun h=>hnd'.2.2 i h i (.head _) rfl
     have hn2:i∉l2:=(List.nodup_cons.1 hnd'.2.1).1;have:=hcount hrem rfl hn1 hn2;rw[hrem,List.filter_append,List.filter_cons_of_neg (by rw[Nd hsz,if_pos rfl];simp),←List.filter_append];exact this
  | false =>
   obtain⟨l1,l2,hrem⟩:=List.append_of_mem hirem;rw[hrem]at c;obtain⟨l1',pd',F',g',O',st1,c1,hpass,hfl⟩:=Cf.flush_for hok hil hl ho hready rfl c;have hsw:∀ j∈l1',∃ u,vs[j]?=some u∧gC (ca j nr) (ca i nr) u vs[i]=true:=fun j hj=>by
    simp_all
   have inv:bX st1:=⟨c1.s.se,c1.s.sh,fun id hid=>c1.s.heap_fresh hid⟩
   have h2:=Mg hv hsw inv c1.run;simp only[cX,hv]at h2;split at h2
   ·simp at h2
   ·rename_i st2 h3N;have h3:bl r vs[i] st1=some st2:=GF (fun hw=>hok.near i _ hw hv) c1.s.se h3N;have hnd:=c1.left.nd;have hnd':=List.nodup_append.1 hnd;have hn1:i∉l1':=fun h=>hnd'.2.2 i h i (.head _) rfl
    have hn2:i∉l2:=(List.nodup_cons.1 hnd'.2.1).1;have hsub:(l1'++l2).Sublist (l1'++i::l2):=List.Sublist.append_left (List.sublist_cons_self i l2) l1';have hpdi:pd' i=none:=by
     cases h:pd' i with
     | none=>rfl
     | some b =>
      have:=(c1.left.pdl i b h).2;rw[←xH hsz,hil]at this;simp at this
    have hapart:∀ k∈l1'++l2,nS anc vs k=true→∀ u d,vs[k]?=some u→dZ u=some d→∃ R M,fO vs[i]=some (R,M)∧d∉M∧(listed.getD k false=true→∀ q∈sO u,q∉M):=fun k hk hlk u0 d hvk hdk=>by
     have hki:i≠k:=fun e=>by rw[e,hlk]at hl;simp at hl
     obtain⟨u2,d2,k1,kd,k2,_⟩:=qk hlk;rw[hvk]at k1;simp only[Option.some.injEq]at k1;subst k1;rw[hdk]at kd;simp only[Option.some.injEq]at kd;subst kd;rcases k2 i _ hv hki with hd | hd
     ·rcases List.mem_append.1 hk with hk1 | hk1
      ·obtain⟨u,v,a1,a2,a3⟩:=hpass k hk1;rw[hvk]at a1;rw[hv]at a2;simp only[Option.some.injEq]at a1 a2;subst a1 a2;obtain⟨R,M,f1,f2⟩:=aeB a3 hdk;exact⟨R,M,f1,f2 _ (.head _),fun _ q hq=>f2 q (.tail _ hq)⟩
      ·have hkm:k∈l1'++i::l2:=by simp[hk1]
       have hkn:=c1.left.lt k hkm;have hkl:listed.getD k false=true:=ot c1.left.closed (hok.path i k hd) fun o' ho'=>by
        rw[ho]at ho';simp only[Option.some.injEq]at ho';subst ho';exact hready
       have hif:listed.getD i false=false:=by rw[←xH hsz];exact hil
       have hpw:=(List.pairwise_cons.1 (List.pairwise_append.1 c1.left.pair).2.1).1 k hk1;rcases hpw with (h | ⟨u,v,a1,a2,a3⟩) | h
       ·have:=ot c1.left.closed (hok.path k i h) fun o' ho'=>c1.left.closed k o' hkl ho'
        rw[hif]at this;simp at this
       ·rw[hvk]at a2;rw[hv]at a1;simp only[Option.some.injEq]at a1 a2;subst a1 a2;obtain⟨R,M,f1,f2⟩:=PO a3 hdk;exact⟨R,M,f1,f2 _ (.head _),fun _ q hq=>f2 q (.tail _ hq)⟩
       ·have hii:=h.2.1 i hvl hd;have:=ot c1.left.closed (hok.path i i hii) fun o' ho'=>by
         rw[ho]at ho';simp only[Option.some.injEq]at ho';subst ho';exact hready
        rw[hif]at this;simp at this
     ·obtain⟨R,M,f1,f2,f3⟩:=hd;refine⟨R,M,f1,f2,fun hkl=>f3.resolve_left fun hki=>?_⟩;have hif:listed.getD i false=false:=by rw[←xH hsz];exact hil
      have:=ot c1.left.closed (hok.path k i hki) fun o' ho'=>c1.left.closed k o' hkl ho'
      rw[hif]at this;simp at this
    refine act (ro:=ro) hr hcs c1.n c1.s h3 (hok.vi i _ o hv ho) ds _ Q fun t' w' g2 O2 G hT=>?_
    refine ih (rem:=l1'++l2) (pd:=pd') ⟨⟨c1.left.pair.sublist hsub,hnd.sublist hsub,fun k hk=>c1.left.lt k (hsub.subset hk),by simp[c1.left.size],fun k hk=>?_,fun k b hk=>?_,hclosed⟩,by rw[G.size,c1.n],G.st,fun k hk u d hvk hdk hlk=>?_,fun k B hk=>?_,c1.disj,c1.base.trans G,fun k B hk b hb=>?_,c1.le0,h2⟩ ?_
    ·have hold:=c1.left.mem k hk;rw[Nd hsz];by_cases e:i=k
     ·subst e;simp only[if_true,Bool.true_eq_false,hpdi,Option.isSome_none,Bool.false_eq_true,or_self,iff_false];intro hm;rcases List.mem_append.1 hm with h | h
      ·exact hn1 h
      ·exact hn2 h
     ·simp only[e,if_false];rw[←hold];simp only[List.mem_append,List.mem_cons];constructor
      ·rintro (h | h)
       ·exact .inl h
       ·exact .inr (.inr h)
      ·rintro (h | h | h)
       ·exact .inl h
       ·exact absurd h.symm e
       ·exact .inr h
    ·have:=c1.left.pdl k b hk;refine⟨this.1,?_⟩;rw[Nd hsz];split
     ·rfl
     ·exact this.2
    ·have h0:=c1.abs k (hsub.subset hk) u d hvk hdk hlk;obtain⟨R,M,f1,f2,_⟩:=hapart k hk hlk u d hvk hdk;obtain⟨e1,hs1'⟩:=st1;have:=(tM f1 e1 hs1' st2 h3).2.1 d f2;rw[this];exact h0
    ·have hki:i≠k:=fun e=>by rw[←e,hpdi]at hk;simp at hk
     have hkm:k∈l1'++i::l2:=(c1.left.mem k (c1.left.pdl k B hk).1).2 (.inr (by rw[hk];rfl));have hkm':k∈l1'++l2:=by
      rcases List.mem_append.1 hkm with h | h
      ·exact List.mem_append_left _ h
      ·rcases List.mem_cons.1 h with h | h
       ·exact absurd h.symm hki
       ·exact List.mem_append_right _ h
     have q:=c1.pend k B hk;obtain⟨u,d,y,h1,h4,h5,h6⟩:=q.it;obtain⟨R,M,f1,f0,f2⟩:=hapart k hkm' q.late u d h1 h6.dst;have f2:=f2 (c1.left.pdl k B hk).2;have hdd:vs[i].dst≠some d:=fun e=>f0 (yw f1 e)
     refine⟨q.late,fun b hb=>Nat.lt_of_lt_of_le (q.hi b hb) G.ext.size,fun b=>?_,u,d,y,h1,by rw[G.size];exact h4,(hT d hdd).trans h5,h6.keep G.ext (fun b hb=>⟨q.hi b hb,fun h=>by have:=q.le b;omega⟩) fun p hp=>?_⟩
     ·by_cases hb:b<w.heap.size
      ·have:=q.le b;have:=G.old b hb;omega
      ·have:B b=0:=by
        by_cases h:B b=0
        ·exact h
        ·exact absurd (q.hi b h) hb
       have:=G.st.le b;omega
     ·obtain⟨e1,hs1'⟩:=st1;exact(tM f1 e1 hs1' st2 h3).2.1 p (f2 p hp)
    ·have:=c1.old k B hk b hb;have:=G.old b (Nat.lt_of_lt_of_le hb c1.base.ext.size);omega
    ·
     exact hcount hrem hfl hn1 hn2
theorem L4 {e:aq}:∀ {vs:List VI},og e vs=true→∀ (i:Nat) (v:VI) (d:Nat),vs[i]?=some v→dZ v=some d→get e d=none
 | [],_,i,v,d,h,_=>by simp at h
 | u::r,hl,i,v,d,h,hd=>by
  simp only[og,Bool.and_eq_true]at hl
  cases i with
  | zero =>
   grind
  | succ i =>
   exact L4 hl.2 i v d h hd
theorem ahR {g:Gh}{w:World}{t:Array Value}{O:Nat→Nat}{st st':St}{ro:Option Nat}(hr:d8 P r) (hcs:eG P r) {n:Nat}{ops:Array Oper}{gco nr:List Nat}{vs:List VI}{perm:List Nat}(ds:List Deferred) (h:Bx P n ops perm gco nr vs=true) {Q:Exit→Act→World→Prop}{id:Nat}(hn:t.size=n)
  (s:S P g w st t O) (habs:og st.env vs=true) (hrun:cX r nr vs perm [] st=some st') (hq:∀ w' t' g' O',dB P g w t O st' t' w' g' O'→Q .normal ⟨t',ds⟩ w'):(Code.region id ops true).wpIn (FR ro) 0 P Q ⟨t,ds⟩ w:=by
 have hok:=anv h;refine wpIn_region_draw fun tt=>?_
 have hx:aI g w g w.drew fun _=>False:=aI.drew _ _ _
 have sd:=s.extF hx rfl s.pmlt;have hleft:∀ m,al0 ops nr vs (BG ops perm []) m (Array.replicate ops.size false) perm (fun _=>none):=fun m=>by
  refine⟨hok.pair,hok.nd,hok.lt,by simp,fun i hi=>?_,fun i b hi=>by simp at hi,fun i o hi=>?_⟩
  ·have:=hok.all i hi
   simp_all
  ·simp[Array.getD]at hi
 have hlen:(perm.filter fun i=>!(Array.replicate ops.size false).getD i true).length=ops.size:=by
  have h0:(perm.filter fun i=>!(Array.replicate ops.size false).getD i true)=perm:=List.filter_eq_self.2 fun i hi=>by
   have:=hok.lt i hi
   simp_all
  have h1:perm.Perm (List.range ops.size):=by
   grind [mC.nd,List.nodup_range,mC.all]
  rw[h0,h1.length_eq];simp
 have key:∀ m tt,wpOpsIn (FR ro) 0 P ops Q (Region.linearise m ops tt) ⟨t,ds⟩ w.drew:=fun m tt =>
  anD (ro:=ro) (m:=m) hr hcs hok ds (g0:=g) (w0:=w.drew) (t0:=t) (O0:=O) (st':=st') (fun w' t' g' O' G=>hq _ _ _ _ ⟨G.st,(hx.mono (T:=fun b=>O b≠0) fun _ _ h=>h.elim).trans G.ext fun _ _ h=>h,G.old,G.size⟩)
   ⟨hleft m,hn,sd,fun i hi v d hv hd _=>L4 habs i v d hv hd,fun i b hi=>by simp at hi,fun i j A B _ hi=>by simp at hi,dB.refl sd,fun i b hi=>by simp at hi,sd.le,hrun⟩ hlen
 unfold Region.schedule;split<;>simp_all
end
section
variable {P:Program}{F:Fence}{n:Nat}
theorem yI {fn:Func}{tmps:Array Value}{R:Ending→World→Prop}:∀ (ds:List Deferred) (u:FrameMode) (w:World) (fr:Frame)
  (cs:List Frame),fr.mode=u→fr.defers=ds→fr.tmps=tmps→P.funcs[fr.fn]?=some fn→fr.kind=.deferred→F.fn fr.fn→F.room (cs.length+1+n)→LeavesInM F n P fn tmps R ds u w→
  ∃ e w' fr',R e w'∧ComesIn (Machine.fenced P F) P (lone fr cs w) (lone fr' cs w') e∧fr'.fn=fr.fn∧fr'.kind=.deferred∧fr'.going P w' e:=by
 intro ds
 induction ds with
 | nil =>
  intro u w fr cs hu hd ht hf hk _ _ h
  cases u with
  | run=>exact h.elim
  | returning =>
   obtain⟨v,hr,hR⟩:=h;exact⟨.returned v,w,fr,hR,StepsIn.refl _,rfl,hk,hu,hd,fn,hf,ht▸hr⟩
  | panicking chain=>exact⟨.panicked chain,w,fr,h,StepsIn.refl _,rfl,hk,hu,hd,fn,hf⟩
 | cons d ds ih =>
  intro u w fr cs hu hd ht hf hk hb hroom h;obtain⟨hrun,h⟩:=h;rcases h with ⟨r,w',htar,htake,hrest⟩ | ⟨hn,fv,cap,f,args,htar,hinv,hlead,hFf,hcall⟩
  ·have h1:=step_collected (cs:=cs) (hu▸hrun) hd htar htake;have i1:(lone fr cs w).fenced P F:=fenced_out hb hroom (hu▸hrun) hd (fun g hg=>by grind [Target.leads]);obtain⟨e',w'',fr',hR',hs',hfn',hk',hl'⟩:=ih u w' { fr with defers:=[]++ds } cs hu rfl ht hf hk hb hroom hrest;exact⟨e',w'',fr',hR',ComesIn.of_steps (.one i1 h1) hs',hfn',hk',hl'⟩
  ·have h1:=step_defer (cs:=cs) (hu▸hrun) hd htar hinv;have i1:(lone fr cs w).fenced P F:=fenced_out hb hroom (hu▸hrun) hd hlead;have hroom':F.room (({ fr with defers:=ds }::cs).length+1+(n-1)):=Fence.room_enter hroom hn;obtain⟨e,u',w',frX,hR,hsteps,hkX,hfX,hgo⟩:=hcall { fr with defers:=ds } cs hu hroom'
   cases e with
   | outgrown=>exact⟨.outgrown,w',fr,hR,Outgrown.of_steps (.one h1) hsteps,rfl,hk,trivial⟩
   | returned v =>
    have i2:(lone frX ({ { fr with defers:=ds } with mode:=u' }::cs) w').fenced P F:=fenced_going (n:=n-1) (hfX▸hFf) hroom' hgo;have h2:=step_going_returned (c:={ { fr with defers:=ds } with mode:=u' }) (cs:=cs) hkX hgo;obtain⟨e',w'',fr',hR',hs',hfn',hk',hl'⟩:=ih (settle u') w' { { { fr with defers:=ds } with mode:=u' } with mode:=settle u' } cs rfl rfl ht hf hk hb hroom hR;exact⟨e',w'',fr',hR',ComesIn.of_steps (.head i1 h1 (StepsIn.trans hsteps (.one i2 h2))) hs',hfn',hk',hl'⟩
   | panicked chain =>
    have i2:(lone frX ({ { fr with defers:=ds } with mode:=u' }::cs) w').fenced P F:=fenced_going (n:=n-1) (hfX▸hFf) hroom' hgo;have h2:=step_going_panicked (c:={ { fr with defers:=ds } with mode:=u' }) (cs:=cs) hgo;obtain⟨e',w'',fr',hR',hs',hfn',hk',hl'⟩:=ih (raised u' chain) w' { { { fr with defers:=ds } with mode:=u' } with mode:=raised u' chain } cs rfl rfl ht hf hk hb hroom hR;exact⟨e',w'',fr',hR',ComesIn.of_steps (.head i1 h1 (StepsIn.trans hsteps (.one i2 h2))) hs',hfn',hk',hl'⟩
theorem Fv {f:FuncId}{fn:Func}{c:Code}{args:Array Value}{u:FrameMode}{w:World}{R:Ending→World→Prop}
  (hf:P.funcs[f]?=some fn) (hb:fn.body=some c) (hF:F.fn f)
  (h:c.wpIn F n P (bodyPostM F n P fn R) { tmps:=args++Array.replicate (fn.ntmps-args.size) undef,defers:=[] } w) (hro:F.round=none:=by rfl) :
  CallsDIn F n P f args u w fun e u' w'=>u'=u∧R e w':=by
 refine⟨hF,fun c₀ cs hu hr=>?_⟩
 let b:Frame:={ (default:Frame) with fn:=f,kind:=.deferred,roundOf:=none }
 have henter:Frame.enter P f args .deferred =
   b.atR { tmps:=args++Array.replicate (fn.ntmps-args.size) undef,defers:=[] } [.code c]:=by
  grind [Frame.enter,Frame.atR]
 have hc:({ c₀ with mode:=u }:Frame)=c₀:=by subst hu;rfl
 obtain⟨e,a',w',hq,harr⟩:=h b [] (c₀::cs) hro.symm hF hr;rw[←henter]at harr
 cases e with
 | normal =>
  obtain⟨e',w'',fr',hR,hs,hfn,hk,hl⟩:=yI a'.defers .returning w' { b.atR a' [] with mode:=.returning } (c₀::cs) rfl rfl rfl hf rfl hF hr hq;exact⟨e',u,w'',fr',⟨rfl,hR⟩,(by rw[hc];exact ComesIn.of_steps (StepsIn.trans harr (.one (fenced_calm (fr:=b.atR a' []) hF hr rfl) (stepR_end rfl))) hs),hk,hfn,hl⟩
 | ret =>
  obtain⟨todo,hs₀⟩:=harr.1 rfl;obtain⟨e',w'',fr',hR,hs,hfn,hk,hl⟩:=yI a'.defers .returning w' { b.atR a' todo with mode:=.returning } (c₀::cs) rfl rfl rfl hf rfl hF hr hq;exact⟨e',u,w'',fr',⟨rfl,hR⟩,(by grind [ComesIn.of_steps]),hk,hfn,hl⟩
 | panic chain =>
  obtain⟨todo,hs₀⟩:=harr;obtain⟨e',w'',fr',hR,hs,hfn,hk,hl⟩:=yI a'.defers (.panicking chain) w' { b.atR a' todo with mode:=.panicking chain } (c₀::cs) rfl rfl rfl hf rfl hF hr hq;exact⟨e',u,w'',fr',⟨rfl,hR⟩,(by grind [ComesIn.of_steps]),hk,hfn,hl⟩
 | exit id=>exact hq.elim
 | goto l=>exact hq.elim
 | outgrown=>exact⟨.outgrown,u,w',b,⟨rfl,hq⟩,(by exact harr.resolve_left (by simp[b])),rfl,rfl,trivial⟩
end
section
variable {P:Program}{g:Gh}{w:World}{t:Array Value}{O:Nat→Nat}{st st':St}{a:AV}{o:Oper}{r:bI}
def wE (P:Program) (r:bI):Prop :=
 ∀ {f:FuncId}{args:List AV}{hs:HS}{v:AV}{hs':HS},r.call f args hs=some (v,hs')→
  ∀ {g:Gh}{w:World}{xs:List Value}{Oa Oh:Nat→Nat},RVs g w args xs Oa→S P g w ⟨[],hs⟩ #[] Oh→(∀ b,Oa b+Oh b≤1)→(∀ b,Oa b≠0→b<w.heap.size)→∀ u:FrameMode,
   CallsDIn (FR none) 0 P f xs.toArray u w fun e u' w'=>u'=u∧dA P g w (fun b=>Oa b+Oh b) v hs' e w'
theorem MU {ro:Option Nat}{fn:Func}{tmps:Array Value}{R:Ending→World→Prop}{lo:Nat}{es:List Deferred}:∀ {ms:List Deferred}{w:World},fI w O lo ms→S P g w st t O→
  (∀ w',S P g w' st t O→aI g w g w' (fun b=>lo≤b)→LeavesInM (FR ro) 0 P fn tmps R es .returning w')→LeavesInM (FR ro) 0 P fn tmps R (ms++es) .returning w
 | [],w,_,s,h=>h w s (.refl _ _ _)
 | d::ds,w,⟨⟨r,h1,h2,h3,h4,h5⟩,h6⟩,s,h=>by
  refine⟨by simp,.inl ⟨r,setBlk w r (.deferred none),h1,Bv h3,?_⟩⟩;have hx:aI g w g (setBlk w r (.deferred none)) fun x=>x=r:=aI.deferBlk h3
  have hm:fI (setBlk w r (.deferred none)) O lo ds:=by
   have:∀ {es:List Deferred},(∀ d'∈es,∀ r',d'.target=.collected r'→r'<r)→fI w O lo es→fI (setBlk w r (.deferred none)) O lo es:=by
    intro es
    induction es with
    | nil=>exact fun _ _=>trivial
    | cons e es ih =>
     rintro hlt ⟨⟨q,k1,k2,k3,k4,k5⟩,k6⟩
     have:=hlt e (.head _) q k1;exact⟨⟨q,k1,k2,by grind [dT],k4,k5⟩,ih (fun d' hd'=>hlt d' (.tail _ hd')) k6⟩
   grind
  exact MU hm (s.otherG hx h4) fun w' s' hx'=>h w' s' ((hx.mono (T:=fun b=>lo≤b) fun b _ e=>by omega).trans hx' fun _ _ h=>h)
end
def alQ (P:Program) (vf:aa) (f:FuncId):Prop :=
 ∃ fn c,P.funcs[f]?=some fn∧fn.body=some c∧fn.name≠ "runtime.NumGoroutine"∧vf.nparams≤fn.ntmps∧iA P vf.results fn.results.toList=true∧
  (Mt P fn.ntmps vf.body c∨(∃ m,vf.body=.clone m∧Hb P m c=true∧8≤fn.ntmps)∨∃ i d f a,vf.body=.late i d f a∧KU P fn.ntmps i d f a c=true)
def xK (P:Program) (T:Nat→Option aa):Prop:=∀ f vf,T f=some vf→alQ P vf f
def AF (P:Program) (r:bI):Prop :=
 ∀ {v:VC}{st:St}{o:aY}{st':St},r.code (.loop v) st=some (o,st')→∀ {c:Code}{n:Nat},Mt P n v c→∀ {g:Gh}{w:World}{t:Array Value}{O:Nat→Nat},t.size=n→S P g w st t O→
  ∀ (ro:Option Nat) (ds:List Deferred),xf w ro→FQ ro P c (aW P g w t O ds ro o st') ⟨t,ds⟩ w
def xa (P:Program) (r:bI):Prop :=
 ∀ {v cur:VC}{st:St}{o:aY}{st':St},r.code (.inScope v cur) st=some (o,st')→∀ {body c:Code}{n:Nat},Mt P n v body→Mt P n cur c→∀ {g:Gh}{w:World}{t:Array Value}{O:Nat→Nat},t.size=n→
  S P g w st t O→∀ (ro:Option Nat) (ds:List Deferred),xf w ro→yf ro P body c (aW P g w t O ds ro o st') ⟨t,ds⟩ w
def w6 (P:Program) (r:bI):Prop :=
 ∀ {v:VC}{st:St}{o:aY}{st':St},pi v=true→r.code v st=some (o,st')→o=.normal∧∀ {g:Gh}{w:World}{t:Array Value}{O:Nat→Nat},S P g w st t O→∃ g' O',dB P g w t O st' t w g' O'
section
variable {P:Program}{g:Gh}{w:World}{t:Array Value}{O:Nat→Nat}{st st':St}{r:bI}
theorem FQ.mono {ro:Option Nat}{c:Code}{Q Q':Exit→Act→World→Prop}{a:Act}(h:FQ ro P c Q a w) (hq:∀ e a w,Q e a w→Q' e a w):FQ ro P c Q' a w :=
 fun b k cs hr=>let ⟨e,a',w',q,x⟩:=h b k cs hr;⟨e,a',w',hq _ _ _ q,x⟩
theorem yf.mono {ro:Option Nat}{body c:Code}{Q Q':Exit→Act→World→Prop}{a:Act}(h:yf ro P body c Q a w) (hq:∀ e a w,Q e a w→Q' e a w):yf ro P body c Q' a w :=
 fun b k cs hr=>let ⟨e,a',w',q,x⟩:=h b k cs hr;⟨e,a',w',hq _ _ _ q,x⟩
theorem dB.mono {O2:Nat→Nat}{t':Array Value}{w':World}{g':Gh}{O':Nat→Nat}(h:dB P g w t O st' t' w' g' O') (hle:∀ b,O b≤O2 b):dB P g w t O2 st' t' w' g' O' :=
 ⟨h.st,h.ext.mono fun b _ hb=>by grind,fun b hb=>Nat.le_trans (h.old b hb) (hle b),h.size⟩
theorem aW.mono {O2:Nat→Nat}{ds:List Deferred}{ro:Option Nat}{o:aY}{e:Exit}{a':Act}{w':World}(h:aW P g w t O ds ro o st' e a' w') (hle:∀ b,O b≤O2 b):aW P g w t O2 ds ro o st' e a' w':=by
 obtain⟨he,g',O',ms,G,hd,hm,hr⟩:=h;exact⟨he,g',O',ms,G.mono hle,hd,hm,hr⟩
theorem aW.refl {ds:List Deferred}{ro:Option Nat}(o:aY) (s:S P g w st t O):aW P g w t O ds ro o st (yH o) ⟨t,ds⟩ w :=
 ⟨rfl,g,O,[],dB.refl s,rfl,trivial,fun _=>rfl⟩
theorem aW.ghost {ds:List Deferred}{ro:Option Nat}{o o2:aY}{st2:St}{e:Exit}{a':Act}{w':World}(h:aW P g w t O ds ro o st' e a' w')
  (hg:∀ {g:Gh}{w:World}{t:Array Value}{O:Nat→Nat},S P g w st' t O→∃ g' O',dB P g w t O st2 t w g' O') (ho:yH o=yH o2):aW P g w t O ds ro o2 st2 e a' w':=by
 obtain⟨he,g',O',ms,G,hd,hm,hr⟩:=h;obtain⟨g2,O2,G2⟩:=hg G.st;exact⟨he.trans ho,g2,O2,ms,G.trans G2,hd,hm.after G2.ext G2.old,hr⟩
theorem aW.as {ds:List Deferred}{ro:Option Nat}{o o2:aY}{e:Exit}{a':Act}{w':World}(h:aW P g w t O ds ro o st' e a' w'):aW P g w t O ds ro o2 st' (yH o2) a' w':=by
 obtain⟨_,h⟩:=h;exact⟨rfl,h⟩
theorem xe {ds:List Deferred}{ro:Option Nat}(hro:xf w ro) {o1:aY}{st1:St}{next:Act→World→Prop}{o:aY}{e:Exit}{a1:Act}{w1:World}(h:aW P g w t O ds ro o1 st1 e a1 w1)
  (hn:o1=.normal→∀ (t1:Array Value) (ds1:List Deferred) (g1:Gh) (O1:Nat→Nat),t1.size=t.size→S P g1 w1 st1 t1 O1→xf w1 ro→
   (∀ e a2 w2,aW P g1 w1 t1 O1 ds1 ro o st' e a2 w2→aW P g w t O ds ro o st' e a2 w2)→next ⟨t1,ds1⟩ w1)
  (ho:o1≠.normal→o=o1∧st'=st1):Exit.then next (aW P g w t O ds ro o st') e a1 w1:=by
 have h0:=h;obtain⟨he,g1,O1,ms,G,hd,hm,hr⟩:=h;subst he;by_cases hnm:o1=.normal
 ·subst hnm;obtain⟨t1,d1⟩:=a1;subst hd;exact hn rfl t1 _ g1 O1 G.size G.st (hro.ext G.ext) fun e a2 w2 k=>aW.comp G hm hr k
 ·obtain⟨rfl,rfl⟩:=ho hnm
  cases o<;>first | exact absurd rfl hnm | exact h0
theorem U7 (hc:eG P r) (hl:AF P r) (hs:xa P r) (hgh:w6 P r) (hr:d8 P r) {v:VC}{o:aY}(h:br v r st=some (o,st')) {c:Code}{n:Nat}(hm:Mt P n v c) (hn:t.size=n)
  (s:S P g w st t O) (ro:Option Nat) (ds:List Deferred) (hro:xf w ro):c.wpIn (FR ro) 0 P (aW P g w t O ds ro o st') ⟨t,ds⟩ w:=by
 cases hm with
 | @ghostL a b c h1 h2 =>
  simp only[br,Gv]at h;split at h
  ·rename_i st1 ha;obtain⟨_,hg⟩:=hgh h1 ha;obtain⟨g1,O1,G⟩:=hg s;exact wpIn_mono (hc h h2 (by omega) G.st ro ds hro) fun e a2 w2 k=>aW.comp (ms1:=[]) G trivial (fun _=>rfl) k
  ·rename_i x hx
   cases hra:r.code a st with
   | none=>simp_all
   | some p =>
    obtain⟨o1,st1⟩:=p;obtain⟨rfl,_⟩:=hgh h1 hra
    simp_all
 | @ghostR a b c h1 h2 =>
  simp only[br,Gv]at h;split at h
  ·rename_i st1 ha;obtain⟨rfl,hg⟩:=hgh h1 h;exact wpIn_mono (hc ha h2 hn s ro ds hro) fun e a2 w2 k=>k.ghost hg rfl
  ·rename_i x hx;exact hc h h2 hn s ro ds hro
 | @seq a b c d h1 h2 =>
  simp only[br,Gv]at h;split at h
  ·rename_i st1 ha;refine wpIn_seq (wpIn_mono (hc ha h1 hn s ro ds hro) fun e a1 w1 k=>xe hro k (fun _ t1 ds1 g1 O1 hs1 s1 hro1 hcomp=>?_) (fun hne=>absurd rfl hne));exact wpIn_mono (hc h h2 (by omega) s1 ro ds1 hro1) hcomp
  ·rename_i x hx;refine wpIn_seq (wpIn_mono (hc h h1 hn s ro ds hro) fun e a1 w1 k=>xe hro k (fun hnm=>?_) (fun _=>⟨rfl,rfl⟩))
   simp_all
 | skip =>
  simp only[br,Option.some.injEq,Prod.mk.injEq]at h;obtain⟨rfl,rfl⟩:=h;exact wpIn_skip (aW.refl .normal s)
 | @reg ops id os hops =>
  simp only[br,Kh]at h;split at h
  ·rename_i st1 hst;simp only[Option.some.injEq,Prod.mk.injEq]at h;obtain⟨rfl,rfl⟩:=h;refine wpIn_region ?_;have:=TJ (ro:=ro) (Q:=aW P g w t O ds ro .normal st1) hr hc ds (k:=0) rfl hops hn s hst fun w' t' g' O' G=>⟨rfl,g',O',[],G,rfl,trivial,fun _=>rfl⟩
   grind [List.range_eq_range']
  simp_all
 | @draw ops id os hops =>
  simp only[br,Kh]at h;split at h
  ·rename_i st1 hst;simp only[Option.some.injEq,Prod.mk.injEq]at h;obtain⟨rfl,rfl⟩:=h;exact ajE hr hc ds hops hn s hst fun w' t' g' O' G=>⟨rfl,g',O',[],G,rfl,trivial,fun _=>rfl⟩
  simp_all
 | @drawP perm gco nr ops id os hops =>
  simp only[br,EV,E3]at h;split at h
  ·rename_i habs;split at h
   ·rename_i st1 hst;simp only[Option.some.injEq,Prod.mk.injEq]at h;obtain⟨rfl,rfl⟩:=h;exact ahR hr hc ds hops hn s habs hst fun w' t' g' O' G=>⟨rfl,g',O',[],G,rfl,trivial,fun _=>rfl⟩
   simp_all
  simp_all
 | @cond rd o' a b c d h1 h2 h3 =>
  simp only[br,IC]at h;have step:∀ (tb:Bool) (e:aq) (k:VC) (cd:Code),Vm.rd st.env rd=some (.d (.bool tb),e)→r.code k ⟨e,st.hs⟩=some (o,st')→Mt P n k cd→(if tb then c else d)=cd→
    (Code.cond o' c d).wpIn (FR ro) 0 P (aW P g w t O ds ro o st') ⟨t,ds⟩ w:=by
   intro tb e k cd hrd hk hmk hcd;obtain⟨Ov,O',rv,s',l⟩:=s.rd h1 hrd;have hev:=tG rv rfl;refine wpIn_cond (t:=tb) (by simp_all [AC]) ?_;rw[hcd];exact wpIn_mono (hc hk hmk hn s' ro ds hro) fun e a2 w2 k=>k.mono fun b=>by grind
  grind
 | @block bid a c h1 =>
  simp only[br,Eq]at h;split at h
  ·rename_i j st1 ha;refine wpIn_block (wpIn_mono (hc ha h1 hn s ro ds hro) fun e a1 w1 k=>?_);obtain⟨rfl,_⟩:=id k
   grind [yH,Exit.inBlock,Nat.beq_eq,aW.as]
  ·rename_i x hx;refine wpIn_block (wpIn_mono (hc h h1 hn s ro ds hro) fun e a1 w1 k=>?_);have hne:∀ j,o≠.exit j:=by simp_all
   obtain⟨rfl,_⟩:=id k
   cases o<;>first | exact k | simp_all
 | @loop a c h1 =>
  simp only[br,JF]at h;refine(QR ?_).2;split at h
  ·rename_i st1 ha;refine wpIn_mono (hc ha h1 hn s ro ds hro) fun e a1 w1 k=>xe hro k (fun _ t1 ds1 g1 O1 hs1 s1 hro1 hcomp=>?_) (fun hne=>absurd rfl hne)
   exact(hl h h1 (by omega) s1 ro ds1 hro1).mono hcomp
  ·rename_i x hx;refine wpIn_mono (hc h h1 hn s ro ds hro) fun e a1 w1 k=>xe hro k (fun hnm=>?_) (fun _=>⟨rfl,rfl⟩)
   simp_all
 | @rangeF rd o' ps qs a b c d h1 h2 h3 h4 h5 =>
  subst hn h2;exact aaw hr h h1 h3 h4 h5 s ro ds hro
 | exit =>
  simp only[br,Option.some.injEq,Prod.mk.injEq]at h;obtain⟨rfl,rfl⟩:=h;exact wpIn_exit (aW.refl (.exit _) s)
 | @scope a c h1 =>
  exact ahy (hs h h1 h1 hn s ro ds hro)
 | label =>
  obtain⟨rfl,rfl⟩:=h;exact wpIn_label (aW.refl .normal s)
 | goto =>
  obtain⟨rfl,rfl⟩:=h;exact wpIn_goto (aW.refl (.goto _) s)
 | ret =>
  obtain⟨rfl,rfl⟩:=h;exact wpIn_ret (aW.refl .ret s)
theorem ahM (hc:eG P r) (hl:AF P r) {v:VC}{o:aY}(h:br (.loop v) r st=some (o,st')) {c:Code}{n:Nat}(h1:Mt P n v c) (hn:t.size=n)
  (s:S P g w st t O) (ro:Option Nat) (ds:List Deferred) (hro:xf w ro):FQ ro P c (aW P g w t O ds ro o st') ⟨t,ds⟩ w:=by
 simp only[br,JF]at h;refine(QR ?_).1;split at h
 ·rename_i st1 ha;refine wpIn_mono (hc ha h1 hn s ro ds hro) fun e a1 w1 k=>xe hro k (fun _ t1 ds1 g1 O1 hs1 s1 hro1 hcomp=>?_) (fun hne=>absurd rfl hne)
  exact(hl h h1 (by omega) s1 ro ds1 hro1).mono hcomp
 ·refine wpIn_mono (hc h h1 hn s ro ds hro) fun e a1 w1 k=>xe hro k (fun hnm=>?_) (fun _=>⟨rfl,rfl⟩)
  simp_all
theorem adz (hc:eG P r) (hs:xa P r) {v cur:VC}{o:aY}(h:br (.inScope v cur) r st=some (o,st')) {body c:Code}{n:Nat}(h1:Mt P n v body) (h2:Mt P n cur c) (hn:t.size=n)
  (s:S P g w st t O) (ro:Option Nat) (ds:List Deferred) (hro:xf w ro):yf ro P body c (aW P g w t O ds ro o st') ⟨t,ds⟩ w:=by
 simp only[br,C5]at h;refine aby ?_;split at h
 ·rename_i l st1 ha;refine wpIn_mono (hc ha h2 hn s ro ds hro) fun e a1 w1 k=>?_
  have k0:=k;obtain⟨rfl,g1,O1,ms,G,hd,hm,hr⟩:=k;have hf:=ahg h1 l;simp only[yH,Exit.scope];split at h
  ·rename_i rest hrest;rw[hrest]at hf;obtain⟨y,hy,hmy⟩:=hf;rw[hy];obtain⟨t1,d1⟩:=a1;subst hd;exact(hs h h1 hmy (by rw[G.size,hn]) G.st ro _ (hro.ext G.ext)).mono fun e a2 w2 k=>aW.comp G hm hr k
  ·rename_i hnone;rw[hnone]at hf;rw[hf];obtain⟨rfl,rfl⟩:=h;exact k0
 ·refine wpIn_mono (hc h h2 hn s ro ds hro) fun e a1 w1 k=>?_
  obtain⟨rfl,_⟩:=id k
  cases o<;>first | exact k | simp_all
theorem RY {r:bI}:∀ {ops:List VI}{st st':St},ops.all E4=true→gz r ops st=some st'→∀ {g:Gh}{w:World}{t:Array Value}{O:Nat→Nat},S P g w st t O→∃ g' O',dB P g w t O st' t w g' O'
 | [],st,st',_,h,g,w,t,O,s=>by
  simp only[gz,Option.some.injEq]at h;subst h;exact⟨g,O,dB.refl s⟩
 | i::l,st,st',ha,h,g,w,t,O,s=>by
  simp only[List.all_cons,Bool.and_eq_true]at ha;simp only[gz]at h;split at h
  ·rename_i st1 hv;obtain⟨g1,O1,G1⟩:=U3 s ha.1 hv;obtain⟨g2,O2,G2⟩:=RY ha.2 h G1.st;exact⟨g2,O2,G1.trans G2⟩
  simp_all
theorem aeM (hg:w6 P r) {v:VC}{o:aY}(hv:pi v=true) (h:br v r st=some (o,st')):o=.normal∧∀ {g:Gh}{w:World}{t:Array Value}{O:Nat→Nat},S P g w st t O→∃ g' O',dB P g w t O st' t w g' O':=by
 cases v<;>simp only[pi,Bool.false_eq_true]at hv
 ·grind [br,Kh,RY]
 ·simp only[Bool.and_eq_true]at hv;simp only[br,Gv]at h;split at h
  ·rename_i st1 hst;obtain⟨_,h1⟩:=hg hv.1 hst;obtain⟨ho,h2⟩:=hg hv.2 h;refine⟨ho,fun s=>?_⟩;obtain⟨g1,O1,G1⟩:=h1 s;obtain⟨g2,O2,G2⟩:=h2 G1.st;exact⟨g2,O2,G1.trans G2⟩
  ·obtain⟨ho,_⟩:=hg hv.1 h
   simp_all
end
section
variable {P:Program}
theorem Hu {fn:Func}{vf:aa}(h5:iA P vf.results fn.results.toList=true) {v:AV}{hs':HS}{o:aY}{st1:St}(ho:o=.normal∨o=.ret) (hend:zw vf st1=some (v,hs')) {g:Gh}{w:World}{t:Array Value}{O:Nat→Nat}
  {e:Exit}{a':Act}{w':World}(k:aW P g w t O [] none o st1 e a' w'):bodyPostM (FR none) 0 P fn (dA P g w O v hs') e a' w':=by
 obtain⟨rfl,g',O',ms,G,hd,hm,_⟩:=k;rw[List.append_nil]at hd;have key:LeavesInM (FR none) 0 P fn a'.tmps (dA P g w O v hs') a'.defers .returning w':=by
  rw[hd];refine Qh hm G.st fun w2 s2 hx2=>?_
  obtain⟨x,Ov,Oh2,hrun,rx,sh2,l2⟩:=Y0 h5 hend s2;refine⟨x,hrun,g',Ov,Oh2,rx,sh2,G.ext.trans hx2 (fun b hb hq=>absurd hq (by omega)),fun b=>by have:=l2 b;have:=s2.le b;omega,fun b hb=>?_,fun b hb=>s2.hi b (by grind)⟩
  grind [dB.old]
 rcases ho with rfl | rfl
 ·exact key
 ·exact key
theorem afH {r:bI}(hr:d8 P r) (hrd:wE P r) {fn:Func}{vf:aa}(h5:iA P vf.results fn.results.toList=true) {v v1:AV}{hs2 hs':HS}{o:aY}{st1:St}(ho:o=.normal∨o=.ret) {f id off:Nat}
  (hcall:r.call f [.ptr id off] st1.hs=some (v1,hs2)) (hend:zw vf ⟨st1.env,hs2⟩=some (v,hs')) {g:Gh}{w:World}{t:Array Value}{O:Nat→Nat}{x:Value}(hx:∃ b,g.obj id=some b∧x=.pointer (some ⟨b,g.base id+off,none⟩))
  {e:Exit}{a':Act}{w':World}(k:aW P g w t O [{ target:=.fn (.func f) #[],args:=#[x] }] none o st1 e a' w'):bodyPostM (FR none) 0 P fn (dA P g w O v hs') e a' w':=by
 obtain⟨rfl,g',O',ms,G,hd,hm,_⟩:=k;obtain⟨hf,hk⟩:=hr hcall;have key:LeavesInM (FR none) 0 P fn a'.tmps (dA P g w O v hs') a'.defers .returning w':=by
  rw[hd];refine MU hm G.st fun w2 s2 hx2=>?_
  have hx12:aI g w g' w2 fun b=>O b≠0:=G.ext.trans hx2 (fun b hb hq=>absurd hq (by omega))
  obtain⟨b,hb,hxe⟩:=hx;obtain⟨k1,k2,_⟩:=hx12.obj id b hb;have rv:RVs g' w2 [.ptr id off] [x] zero:=by
   refine⟨x,[],zero,zero,rfl,?_,⟨rfl,fun _=>rfl⟩,fun _=>rfl⟩
   grind [RV]
  obtain⟨Oe,Oh,re,sh,hO⟩:=s2.split;refine⟨by simp,.inr ⟨by simp[Fence.wide],.func f,#[],f,#[x],rfl,?_,fun _ _=>trivial,(hrd hcall rv sh (fun b=>by have:=s2.le b;grind) (fun b hb=>by simp at hb) .returning).mono ?_⟩⟩
  ·show (callFunc f (#[x]++#[])).run P w2=_
   grind [pQ]
  ·rintro e u' w3 ⟨rfl,hp⟩
   cases e with
   | panicked c=>exact hp.elim
   | outgrown=>exact hp.elim
   | returned y =>
    obtain⟨g3,Oa,O3,A⟩:=Al (v:=v1) (hs:=st1.hs) (t:=a'.tmps) s2.se re (fun b=>by simp_all) s2 hp;obtain⟨x4,Ov,Oh2,hrun,rx,sh2,l2⟩:=Y0 h5 hend A.st;refine⟨x4,hrun,g3,Ov,Oh2,rx,sh2,hx12.trans A.ext (fun b hb h=>by grind [dB.old]),fun b=>by have:=l2 b;have:=A.le b;omega,fun b hb=>?_,fun b hb=>A.st.hi b (by grind)⟩;have:=l2 b;have:=G.old b hb;have:=A.old b (Nat.lt_of_lt_of_le hb hx12.size);omega
 rcases ho with rfl | rfl
 ·exact key
 ·exact key
theorem afQ {r:bI}(hc:eG P r) (hr:d8 P r) (hrd:wE P r) {n i d f:Nat}{a:VC}{c:Code}(hk:KU P n i d f a c=true) {fn:Func}{vf:aa}(h5:iA P vf.results fn.results.toList=true) {st st1:St}{o:aY}{v:AV}{hs':HS}
  (h:I5 r i d f a st=some (o,st1)) (hend:zw vf st1=some (v,hs')) {g:Gh}{w:World}{t:Array Value}{O:Nat→Nat}(hn:t.size=n) (s:S P g w st t O) :
  c.wpIn (FR none) 0 P (bodyPostM (FR none) 0 P fn (dA P g w O v hs')) ⟨t,[]⟩ w:=by
 obtain⟨env,hs⟩:=st;unfold KU at hk;split at hk
 ·rename_i rid os rest;simp only[Bool.and_eq_true]at hk;obtain⟨⟨hk1,hdn⟩,hrest⟩:=hk;split at hk1
  ·rename_i m kk hos;simp only[Bool.and_eq_true]at hk1;obtain⟨⟨⟨⟨hm1,hm2⟩,hk1a⟩,hk1b⟩,hk2⟩:=hk1;obtain⟨hmd,hmg⟩:=tj hm1;have hk1a':kk.dst=none:=by simp_all
   have hk1b':kk.guard=none:=by simp_all
   split at hm2
   ·rename_i y hmop;have:=pC hm2;subst this;split at hk2
    ·rename_i cl hkop;simp only[Bool.and_eq_true]at hk2;obtain⟨hcal,hargs⟩:=hk2;have hcal':=Dp hcal;split at hargs
     ·rename_i y hay;have:=pC hargs;subst this;have harr:cl.args=#[.tmp d]:=avO hay;have hosA:os=#[m,kk]:=by grind
      subst hosA;have hd:d<t.size:=by simp_all
      unfold I5 at h;split at h
      ·rename_i id off hget;obtain⟨Ov,O1,rv,s1,l1⟩:=s.rd (r:=.s i) (o:=.tmp i) (by simp[be]) (v:=.ptr id off) (e':=env) (by grind [rd,share]);obtain⟨hxp,hOv⟩:=rv;have rv':RV g w (.ptr id off) (ev t (.tmp i)) zero:=by grind [RV]
       obtain⟨O2,s2,l2⟩:=s.setTmp hd rv' (fun b=>by have:=s.le b;simp_all) (fun b hb=>by simp at hb);have hle2:∀ b,O2 b≤O b:=fun b=>by simp_all
       have hst:∃ o1 st0 v1 hs2,(o1=.normal∨o1=.ret)∧r.code a ⟨put env d (.ptr id off),hs⟩=some (o1,st0)∧r.call f [.ptr id off] st0.hs=some (v1,hs2)∧st1=⟨st0.env,hs2⟩:=by
        grind
       obtain⟨o1,st0,v1,hs2,ho1,hra,hcl,rfl⟩:=hst;refine wpIn_seq (wpIn_region ?_);have hx2:(t.setIfInBounds d (ev t (.tmp i))).getD d undef=ev t (.tmp i):=by simp_all
       have hgo:rest.wpIn (FR none) 0 P (bodyPostM (FR none) 0 P fn (dA P g w O v hs')) ⟨t.setIfInBounds d (ev t (.tmp i)),[{ target:=.fn (.func f) #[],args:=#[ev t (.tmp i)] }]⟩ w:=by
        refine wpIn_mono (hc hra (fA a rest hrest) (by simp[hn]) s2 none _ (fun l hl=>by simp at hl)) fun e a' w' k=>?_
        exact afH hr hrd h5 ho1 hcl hend hxp (k.mono hle2)
       simp only[List.range,List.range.loop,List.size_toArray,List.length_cons,List.length_nil,wpOpsIn,Nat.zero_add];simp only[List.getElem?_toArray,List.getElem?_cons_zero,List.getElem?_cons_succ,Region.wanted,hmg,hk1b',if_true,Oper.wpIn];refine⟨fun _ _=>trivial,?_⟩;rw[FI t [] (by simp_all)];simp only[execOp,hmop,Sem.run_pure,Oper.uponIn_value,Act.put,hmd];rw[Oper.semAt_none,AC];have hrun:(execOp (ev (t.setIfInBounds d (ev t (.tmp i)))) kk).run P w=.ok (.defer { target:=.fn (.func f) #[],args:=#[ev t (.tmp i)] }) w:=by
        have h0:ev (t.setIfInBounds d (ev t (.tmp i))) (.tmp d)=ev t (.tmp i):=hx2;have h1:ev (t.setIfInBounds d (ev t (.tmp i))) (.func f)=.func (.func f) #[] #[]:=rfl
        simp_all [execOp,resolve,Deferred.ofValue]
       rw[hrun,Oper.uponIn_defer];simp only[Act.put,hk1a'];exact⟨fun _ _=>trivial,hgo⟩
      simp_all
     simp_all
    simp_all
   simp_all
  simp_all
 simp_all
theorem Uo {T:Nat→Option aa}(hT:xK P T) {r:bI}(hc:eG P r) (hl:AF P r) (hs:xa P r) (hgh:w6 P r) (hr:d8 P r) (hrd:wE P r) {f:FuncId}{args:List AV}{hs0:HS}{v:AV}{hs':HS}
  (h:oJ T r f args hs0=some (v,hs')):∃ fn c,P.funcs[f]?=some fn∧fn.body=some c∧fn.name≠ "runtime.NumGoroutine"∧∀ {g:Gh}{w:World}{xs:List Value}{Oa Oh:Nat→Nat},RVs g w args xs Oa→S P g w ⟨[],hs0⟩ #[] Oh→(∀ b,Oa b+Oh b≤1)→(∀ b,Oa b≠0→b<w.heap.size)→
   c.wpIn (FR none) 0 P (bodyPostM (FR none) 0 P fn (dA P g w (fun b=>Oa b+Oh b) v hs')) ⟨xs.toArray++Array.replicate (fn.ntmps-xs.toArray.size) undef,[]⟩ w:=by
 unfold oJ at h;split at h
 ·simp at h
 ·rename_i vf hvf;obtain⟨fn,c,h1,h2,h3,h4,h5,h6⟩:=hT f vf hvf;refine⟨fn,c,h1,h2,h3,fun {g w xs Oa Oh} rv sh hle hhi=>?_⟩;split at h
  ·simp at h
  ·have hxl:=rv.length;have hfin:∀ {o:aY}{st1:St},(o=.normal∨o=.ret)→br vf.body r ⟨fT 0 args,hs0⟩=some (o,st1)→zw vf st1=some (v,hs')→
     c.wpIn (FR none) 0 P (bodyPostM (FR none) 0 P fn (dA P g w (fun b=>Oa b+Oh b) v hs')) ⟨xs.toArray++Array.replicate (fn.ntmps-xs.toArray.size) undef,[]⟩ w:=by
    intro o st1 ho hcode hend;have s:=am1 rv sh hle hhi (fn.ntmps-xs.toArray.size);have hsz:(xs.toArray++Array.replicate (fn.ntmps-xs.toArray.size) undef).size=fn.ntmps:=by simp_all
    rcases h6 with hm | ⟨m,hb,hcl,h8⟩ | ⟨i,d,f2,a,hb,hlt⟩
    ·exact wpIn_mono (U7 hc hl hs hgh hr hcode hm hsz s none [] (fun l hl=>by simp at hl)) fun e a' w' k=>Hu h5 ho hend k
    ·rw[hb]at hcode;exact wpIn_mono (afC hcl hcode (by omega) s) fun e a' w' k=>Hu h5 ho hend k
    ·rw[hb]at hcode;exact afQ hc hr hrd hlt h5 hcode hend hsz s
   grind
theorem ahV {T:Nat→Option aa}(hT:xK P T) {r:bI}(hc:eG P r) (hl:AF P r) (hs:xa P r) (hgh:w6 P r) (hr:d8 P r) (hrd:wE P r) {f:FuncId}{args:List AV}{hs0:HS}{v:AV}{hs':HS}
  (h:oJ T r f args hs0=some (v,hs')):afR P f∧∀ {g:Gh}{w:World}{xs:List Value}{Oa Oh:Nat→Nat},RVs g w args xs Oa→S P g w ⟨[],hs0⟩ #[] Oh→(∀ b,Oa b+Oh b≤1)→(∀ b,Oa b≠0→b<w.heap.size)→
   CallsIn (FR none) 0 P f xs.toArray w (dA P g w (fun b=>Oa b+Oh b) v hs'):=by
 obtain⟨fn,c,h1,h2,h3,hk⟩:=Uo hT hc hl hs hgh hr hrd h;exact⟨⟨fn,h1,by simp[h2],h3⟩,fun rv sh hle hhi=>callsIn_of_wp_marks (F:=FR none) h1 h2 trivial (hk rv sh hle hhi)⟩
theorem afP {T:Nat→Option aa}(hT:xK P T) {r:bI}(hc:eG P r) (hl:AF P r) (hs:xa P r) (hgh:w6 P r) (hr:d8 P r) (hrd:wE P r) {f:FuncId}{args:List AV}{hs0:HS}{v:AV}{hs':HS}
  (h:oJ T r f args hs0=some (v,hs')):∀ {g:Gh}{w:World}{xs:List Value}{Oa Oh:Nat→Nat},RVs g w args xs Oa→S P g w ⟨[],hs0⟩ #[] Oh→(∀ b,Oa b+Oh b≤1)→(∀ b,Oa b≠0→b<w.heap.size)→∀ u:FrameMode,
   CallsDIn (FR none) 0 P f xs.toArray u w fun e u' w'=>u'=u∧dA P g w (fun b=>Oa b+Oh b) v hs' e w':=by
 obtain⟨fn,c,h1,h2,h3,hk⟩:=Uo hT hc hl hs hgh hr hrd h;exact fun rv sh hle hhi u=>Fv (F:=FR none) h1 h2 trivial (hk rv sh hle hhi)
theorem aqG {T:Nat→Option aa}(hT:xK P T):∀ n,eG P (run T n)∧AF P (run T n)∧xa P (run T n)∧w6 P (run T n)∧d8 P (run T n)∧wE P (run T n)
 | 0=>⟨fun h=>by simp[run]at h,fun h=>by simp[run]at h,fun h=>by simp[run]at h,fun _ h=>by simp[run]at h,fun h=>by simp[run]at h,fun h=>by simp[run]at h⟩
 | n+1=>by
  obtain⟨hc,hl,hs,hgh,hr,hrd⟩:=aqG hT n;refine⟨fun {v st o st'} h {c m} hm {g w t O} hn s ro ds hro=>?_,fun {v st o st'} h {c m} hm {g w t O} hn s ro ds hro=>?_,fun {v cur st o st'} h {body c m} h1 h2 {g w t O} hn s ro ds hro=>?_,fun {v st o st'} hv h=>?_,fun {f args hs0 v hs'} h=>?_,fun {f args hs0 v hs'} h=>?_⟩
  ·exact U7 hc hl hs hgh hr h hm hn s ro ds hro
  ·exact ahM hc hl h hm hn s ro ds hro
  ·exact adz hc hs h h1 h2 hn s ro ds hro
  ·exact aeM hgh hv h
  ·exact ahV hT hc hl hs hgh hr hrd h
  ·exact afP hT hc hl hs hgh hr hrd h
theorem Mi {T:Nat→Option aa}(hT:xK P T) {n:Nat}{f:FuncId}{args:List AV}{v:AV}{hs':HS}(h:(run T n).call f args ⟨[],0⟩=some (v,hs')) {g:Gh}{w:World}{xs:List Value}
  (hobj:∀ id,g.obj id=none) (hpm:∀ b o,g.pm b o→b<w.heap.size) (rv:RVs g w args xs zero) :
  Calls P f xs.toArray w (dA P g w zero v hs'):=by
 obtain⟨_,_,_,_,hr,_⟩:=aqG hT n;obtain⟨_,hk⟩:=hr h;have sh:S P g w ⟨[],⟨[],0⟩⟩ #[] zero:=⟨List.Pairwise.nil,List.Pairwise.nil,⟨zero,zero,fun _=>rfl,fun _=>rfl,fun _=>rfl⟩,fun _=>by simp,fun b hb=>by simp at hb,fun id _=>hobj id,hpm⟩
 grind [CallsIn.calls,Tb]
end
#print axioms Mi
inductive Ty where
 | int (k:IntKind)
 | bool
 | str
 | lst (es:List Ty)
mutual
def nP:Ty→D→Prop
 | .int k,.int j n=>j=k∧(Lit.int k n).wf=true
 | .bool,.bool _=>True
 | .str,.str _=>True
 | .lst es,.lst xs=>∀ x∈xs,OkDs es x
 | _,_=>False
def OkDs:List Ty→List D→Prop
 | [],[]=>True
 | t::ts,d::ds=>nP t d∧OkDs ts ds
 | _,_=>False
end
def YX (P:Program) (f:TypeId→Option (List Ty)):List Field→Nat→Option (List Ty)
 | [],_=>some []
 | fd::r,off=>match Nat.beq fd.offset off,f fd.type with
  | true,some ts=>match Nat.beq (P.cellsOf fd.type) ts.length,YX P f r (off+ts.length) with
   | true,some us=>some (ts++us)
   | _,_=>none
  | _,_=>none
def xq (P:Program):Nat→TypeId→Option (List Ty)
 | 0,_=>none
 | n+1,t=>match P.underlying t with
  | some .bool=>some [.bool]
  | some (.int k)=>some [.int k]
  | some .string=>some [.str]
  | some (.slice e)=>match xq P n e with
   | some (x::xs)=>match Nat.beq (P.cellsOf e) (x::xs).length with
    | true=>some [.lst (x::xs)]
    | false=>none
   | _=>none
  | some (.struct fs)=>match YX P (xq P n) fs.toList 0 with
   | some ts=>match Nat.beq (P.cellsOf t) ts.length with
    | true=>some ts
    | false=>none
   | none=>none
  | _=>none
mutual
def dh {H:Type}:DataW H→List D
 | .lit (.int k n)=>[.int k n]
 | .lit (.bool b)=>[.bool b]
 | .lit (.string s)=>[.str s]
 | .nil=>[.lst []]
 | .slice es _=>[.lst (cellsEs es)]
 | .agg ps=>cellsPs ps
 | _=>[]
def cellsEs {H:Type}:List (DataW H)→List (List D)
 | []=>[]
 | d::r=>dh d::cellsEs r
def cellsPs {H:Type}:List (DataW H)→List D
 | []=>[]
 | d::r=>dh d++cellsPs r
end
theorem OkDs.len:∀ {ts:List Ty}{ds:List D},OkDs ts ds→ds.length=ts.length
 | [],[],_=>rfl
 | t::ts,d::ds,h=>by simp[OkDs.len h.2]
 | [],_::_,h=>by simp[OkDs]at h
 | _::_,[],h=>by simp[OkDs]at h
theorem OkDs.append:∀ {ts us:List Ty}{ds es:List D},OkDs ts ds→OkDs us es→OkDs (ts++us) (ds++es)
 | [],us,[],es,_,h=>h
 | t::ts,us,d::ds,es,h,h2=>by
  exact⟨h.1,h.2.append h2⟩
 | [],_,_::_,_,h,_=>by simp[OkDs]at h
 | _::_,_,[],_,h,_=>by simp[OkDs]at h
theorem Nx {α β:Type}{f:α→Option β}:∀ {l:List α}{ys:List β},l.mapM f=some ys→ys.length=l.length∧∀ (i:Nat) (x:α),l[i]?=some x→∃ y,ys[i]?=some y∧f x=some y
 | [],ys,h=>by simp_all
 | a::l,ys,h=>by
  cases ha:f a with
  | none=>simp_all
  | some b =>
   cases hl:l.mapM f with
   | none=>simp_all
   | some bs =>
    obtain⟨h1,h2⟩:=Nx hl
    grind
theorem aau {H:Type}(ds:List (DataW H)):cellsEs ds=ds.map dh:=by
 induction ds<;>grind [cellsEs]
theorem VE {xs:List (List D)}{m:Nat}(h:∀ e∈xs,e.length=m) {j:Nat}{c:D}(hj:xs.flatten[j]?=some c):∃ i k e,j=i*m+k∧k<m∧xs[i]?=some e∧e[k]?=some c:=by
 induction xs generalizing j with
 | nil=>simp at hj
 | cons x xs ih =>
  have hx:=h x (.head _);rw[List.flatten_cons]at hj;rcases Nat.lt_or_ge j x.length with hlt | hge
  ·rw[List.getElem?_append_left hlt]at hj;exact⟨0,j,x,by simp,by omega,rfl,hj⟩
  ·rw[List.getElem?_append_right hge]at hj;obtain⟨i,k,e,h1,h2,h3,h4⟩:=ih (fun e he=>h e (.tail _ he)) hj;exact⟨i+1,k,e,by grind,h2,by simp_all,h4⟩
section
variable {H:Type}{enc:TypeId×Value→H}{P:Program}{W:World}{sp:Nat→Bool}{held:Bool}
abbrev xQ (W:World):Nat→Nat→Prop:=fun b _=>b<W.heap.size
theorem ac3 {a:Addr}{v:Value}(h:W.cell? a=some v):a.block<W.heap.size∧a.spot=none:=by
 unfold World.cell? at h;split at h<;>simp_all [fj]
theorem L9 {f:TypeId→Option (List Ty)}{g:TypeId→List Value→Option (DataW H×List MemPlace)}
  (ih:∀ t ts cs x,f t=some ts→g t cs=some x→OkDs ts (dh x.1)∧cs.length=(dh x.1).length∧∀ (j:Nat) (c:D),(dh x.1)[j]?=some c→∃ u,cs[j]?=some u∧RD W (xQ W) c u) :
  ∀ {fs:List Field}{off:Nat}{ts:List Ty}{cs:List Value}{xs:List (DataW H×List MemPlace)},YX P f fs off=some ts→off+ts.length≤cs.length→
   fs.mapM (fun fd=>g fd.type ((cs.drop fd.offset).take (P.cellsOf fd.type)))=some xs→
   OkDs ts (cellsPs (xs.map (·.1)))∧∀ (j:Nat) (c:D),(cellsPs (xs.map (·.1)))[j]?=some c→∃ u,cs[off+j]?=some u∧RD W (xQ W) c u
 | [],off,ts,cs,xs,h,hb,hm=>by
  grind [YX,cellsPs,OkDs]
 | fd::fs,off,ts,cs,xs,h,hb,hm=>by
  simp only[YX]at h;split at h
  ·rename_i ts1 ho h1;rw[Nat.beq_eq]at ho;split at h
   ·rename_i us hc h2;rw[Nat.beq_eq]at hc;simp only[Option.some.injEq]at h;subst h;simp only[List.length_append]at hb;simp only[List.mapM_cons,Option.bind_eq_bind,Option.pure_def]at hm
    cases hg:g fd.type ((cs.drop fd.offset).take (P.cellsOf fd.type)) with
    | none=>simp_all
    | some x =>
     cases hr:fs.mapM (fun fd=>g fd.type ((cs.drop fd.offset).take (P.cellsOf fd.type))) with
     | none=>simp_all
     | some ys =>
      obtain⟨q1,q2⟩:=L9 ih h2 (by omega) hr
      grind [cellsPs,OkDs.append]
   simp_all
  simp_all
theorem Nl:∀ (fuel n:Nat) (t:TypeId) (ts:List Ty) (cs:List Value) (x:DataW H×List MemPlace),xq P n t=some ts→DataW.trod enc P W 0 sp held fuel t cs=some x→
  OkDs ts (dh x.1)∧cs.length=(dh x.1).length∧∀ (j:Nat) (c:D),(dh x.1)[j]?=some c→∃ u,cs[j]?=some u∧RD W (xQ W) c u
 | 0,_,_,_,_,_,_,h=>by simp[DataW.trod]at h
 | _+1,0,_,_,_,_,h,_=>by simp[xq]at h
 | fuel+1,n+1,t,ts,cs,x,hty,h=>by
  have one:∀ {d:D}{v:Value},OkDs ts [d]→RD W (xQ W) d v→dh x.1=[d]→cs=[v]→OkDs ts (dh x.1)∧cs.length=(dh x.1).length∧∀ (j:Nat) (c:D),(dh x.1)[j]?=some c→∃ u,cs[j]?=some u∧RD W (xQ W) c u:=by
   grind
  simp only[xq]at hty;unfold DataW.trod at h
  cases hu:P.underlying t with
  | none=>simp_all
  | some d =>
   rw[hu]at hty h
   cases d<;>simp only[reduceCtorEq]at hty
   case bool =>
    simp only[Option.some.injEq]at hty;subst hty
    match cs,h with
    | [.bool b],h =>
     simp only[Option.some.injEq]at h;subst h;exact one (d:=.bool b) (by simp[OkDs,nP]) (.bool _) rfl rfl
   case int k =>
    simp only[Option.some.injEq]at hty;subst hty
    match cs,h with
    | [.int k' m],h =>
     simp only at h;split at h
     ·rename_i hk;obtain⟨rfl,hwf⟩:=hk;simp only[Option.some.injEq]at h;subst h;exact one (d:=.int k' m) (by grind [OkDs,nP]) (.int _ _) rfl rfl
     simp_all
   case string =>
    simp only[Option.some.injEq]at hty;subst hty
    match cs,h with
    | [.string s],h =>
     simp only at h;split at h
     ·simp only[Option.some.injEq]at h;subst h;refine one (d:=.str s.data.toList) (by simp[OkDs,nP]) ?_ rfl rfl;have:=RD.str (w:=W) (pm:=xQ W) s.data.toList;omega
     simp_all
   case slice e =>
    split at hty
    ·rename_i y ys hte;split at hty
     ·rename_i hce;rw[Nat.beq_eq]at hce;simp only[Option.some.injEq]at hty;subst hty
      match cs,h with
      | [.slice none 0 0],h =>
       simp only[Option.some.injEq]at h;subst h;exact one (d:=.lst []) (by simp[OkDs,nP]) (.nil _ _) rfl rfl
      | [.slice (some a) len cap],h =>
       simp only at h;split at h
       ·rename_i hb;obtain⟨_,hlc,_⟩:=hb;simp only[Option.bind_eq_some_iff,Option.map_eq_some_iff]at h;obtain⟨elems,hel,rest,_,rfl⟩:=h;obtain⟨hlen,hget⟩:=Nx hel;simp only[List.length_range]at hlen;have helem:∀ i,i<len→∃ z,elems[i]?=some z∧∃ cs',W.cells? 0 (a.add (i*P.cellsOf e)) (P.cellsOf e)=some cs'∧OkDs (y::ys) (dh z.1)∧cs'.length=(dh z.1).length∧
          ∀ (j:Nat) (c:D),(dh z.1)[j]?=some c→∃ u,cs'[j]?=some u∧RD W (xQ W) c u:=by
         intro i hi;obtain⟨z,hz,hf⟩:=hget i i (by simp[hi]);simp only[Option.bind_eq_some_iff]at hf;obtain⟨cs',hcs,htr⟩:=hf;exact⟨z,hz,cs',hcs,Nl fuel n e (y::ys) cs' z hte htr⟩
        have hmem:∀ d∈elems.map (·.1),OkDs (y::ys) (dh d):=by
         grind [List.mem_iff_getElem]
        have hes:cellsEs (elems.map (·.1))=elems.map fun z=>dh z.1:=by simp_all [aau]
        have hlm:∀ e'∈cellsEs (elems.map (·.1)),e'.length=(y::ys).length:=by
         grind [OkDs.len]
        refine one (d:=.lst (cellsEs (elems.map (·.1)))) ?_ ?_ rfl rfl
        ·grind [OkDs,nP]
        ·by_cases h0:len=0
         ·subst h0;have:elems=[]:=List.eq_nil_of_length_eq_zero hlen;subst this;exact .nil _ _
         ·obtain⟨ab,aoff,asp⟩:=a;have hm0:0<(y::ys).length:=by simp
          have hcell:∀ i k,i<len→k<(y::ys).length→∃ z c u,elems[i]?=some z∧(dh z.1)[k]?=some c∧W.cell? ((Addr.add ⟨ab,aoff,asp⟩ (i*P.cellsOf e)).add k)=some u∧RD W (xQ W) c u:=by
           intro i k hi hk;obtain⟨z,hz,cs',hcs,hok,hl2,hrd⟩:=helem i hi;have hkl:k<(dh z.1).length:=by grind
           obtain⟨u,hu,hr⟩:=hrd k _ (List.getElem?_eq_getElem hkl);unfold World.cells? at hcs;rw[if_pos (Nat.zero_le _)]at hcs;obtain⟨hcl,hcg⟩:=Nx hcs;obtain⟨v,hv,hw⟩:=hcg k k (by simp_all)
           grind
          obtain⟨_,_,u0,_,_,hu0,_⟩:=hcell 0 0 (by omega) hm0;have hasp:asp=none:=by
           have:=(ac3 hu0).2
           grind [Addr.add]
          subst hasp;have hll:(cellsEs (elems.map (·.1))).length=len:=by simp_all
          have:=eu.rd (w:=W) (pm:=xQ W) (xs:=cellsEs (elems.map (·.1))) (b:=ab) (off:=aoff) (cap:=cap) hm0 (by omega) hlm (fun j c hj=>?_) (fun j _=>(ac3 hu0).1 |> fun h=>by grind [Addr.add])
          ·simp_all
          ·obtain⟨i,k,e',rfl,hk,hi,hck⟩:=VE hlm hj;have hil:i<len:=by grind
           obtain⟨z,c',u,hz,hc',hcell',hr⟩:=hcell i k hil hk
           grind [gU]
       simp_all
     simp_all
    simp_all
   case struct fs =>
    split at hty
    ·rename_i us hfs;split at hty
     ·rename_i hcl;rw[Nat.beq_eq]at hcl;simp only[Option.some.injEq]at hty;subst hty;have h':(if cs.length=P.cellsOf t then (fs.toList.mapM fun f=>DataW.trod enc P W 0 sp held fuel f.type ((cs.drop f.offset).take (P.cellsOf f.type))).map fun xs=>((.agg (xs.map (·.1)):DataW H),xs.flatMap (·.2)) else none)=some x:=by
       omega
      split at h'
      ·simp only[Option.map_eq_some_iff]at h';obtain⟨xs,hxs,rfl⟩:=h';obtain⟨q1,q2⟩:=L9 (P:=P) (f:=xq P n) (g:=DataW.trod enc P W 0 sp held fuel) (fun t ts cs x h1 h2=>Nl fuel n t ts cs x h1 h2) (cs:=cs) hfs (by omega) hxs
       grind [OkDs.len,dh]
      ·simp at h'
     ·simp at hty
    simp_all
end
end Go.Vm
end
