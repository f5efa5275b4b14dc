import Derived.Lib.BytesEntry
import Derived.RangeFuncLeaves
import Derived.Orders
import Derived.Test.YtihfeifaelcdaaaGreatP0
set_option linter.unusedVariables false
set_option linter.unusedSimpArgs false
noncomputable section
namespace Go.Vm
set_option maxRecDepth 100000
section
variable {P:Program}{g:Gh}{w:World}{t:Array Value}{O:Nat→Nat}{st st':St}{a:AV}{o:Oper}
theorem RVs.flat:∀ {vs:List AV}{xs:List Value}{O1:Nat→Nat},RVs g w vs xs O1→(vs.all fun v=>Nat.beq v.cells.length 1 && v.cells.all bJ)=true→
  RVs g w (vs.flatMap AV.cells) (xs.flatMap fun x=>x.cells.toList) O1∧∀ x∈xs,x.cells.toList.length=1
 | [],xs,O1,r,_=>by
  grind [RVs]
 | v::vs,xs,O1,r,h=>by
  obtain⟨x,s,P1,P2,rfl,rv,rvs,hs⟩:=r;simp only[List.all_cons,Bool.and_eq_true,Nat.beq_eq]at h;obtain⟨h1,h2⟩:=rvs.flat (by grind);have rc:=rv.cells h.1.2;refine⟨?_,fun y hy=>?_⟩
  ·have hO:O1=fun b=>P1 b+P2 b:=funext hs
   grind [join]
  grind [length]
theorem auT:∀ {ps:List Rd}{parts:List (Nat×Operand)}{k:Nat},db k ps parts=true→∀ {cs:Array Value},(∀ p∈parts,(ev t p.2).cells.toList.length=1)→k+parts.length≤cs.size→
  ∃ xs':Array Value,Instr.fill (fun i=>some (i*1,1)) cs (parts.map fun p=>(p.1,ev t p.2))=some xs'∧xs'.size=cs.size∧(∀ j,j<k→xs'.toList[j]?=cs.toList[j]?)∧
   ∀ j,j<parts.length→xs'.toList[k+j]?=(parts.flatMap fun p=>(ev t p.2).cells.toList)[j]?
 | [],[],k,_,cs,_,hb=>⟨cs,by simp[Instr.fill],rfl,fun _ _=>rfl,fun j hj=>by simp at hj⟩
 | r::ps,(i,x)::parts,k,hc,cs,h1,hb=>by
  simp only[db,Bool.and_eq_true,Nat.beq_eq]at hc;obtain⟨⟨rfl,h2⟩,h3⟩:=hc;have hb:i+(parts.length+1)≤cs.size:=hb;have hx:(ev t x).cells.toList.length=1:=h1 _ (.head _);obtain⟨xs1,e1,e2⟩:=Kx (place:=fun i=>some (i*1,1)) (rest:=parts.map fun p=>(p.1,ev t p.2)) (i:=i) rfl (v:=ev t x) (by omega) (xs:=cs) (by omega);have hsz1:xs1.size=cs.size:=by
   grind [CG]
  obtain⟨xs',q1,q2,q3,q4⟩:=auT h3 (cs:=xs1) (fun p hp=>h1 p (.tail _ hp)) (by omega)
  grind [fQ]
 | [],_::_,_,hc,_,_,_=>by grind [db]
 | _::_,[],_,hc,_,_,_=>by grind [db]
theorem ai3 {α β:Type}{f:α→List β}:∀ {l:List α},(∀ x∈l,(f x).length=1)→(l.flatMap f).length=l.length
 | [],_=>rfl
 | x::l,h=>by
  rw[List.flatMap_cons,List.length_append,h x (.head _),ai3 fun y hy=>h y (.tail _ hy),List.length_cons];omega
theorem awd {m:Nat}{ps:List Rd}(s:S P g w st t O) (h:Zr m ps st=some (a,st')) (hc:aC P (.mksv m ps) o.op=true) :
  cH P g w t O st' a ((execOp (ev t) o).run P w):=by
 obtain⟨dst,op,ty,pos,aft,gd⟩:=o;simp only[aC]at hc;split at hc
 ·rename_i T len parts;simp only[Bool.and_eq_true,Nat.beq_eq,Nat.ble_eq,Nat.blt_eq]at hc;obtain⟨⟨⟨⟨⟨⟨rfl,h1⟩,h2⟩,h3⟩,h4⟩,h0⟩,h5⟩:=hc;subst h3;obtain⟨el,hu,hsz,hm,hby⟩:=dM h1;obtain⟨el',i,zv,hu',hi,hz,hzs⟩:=kE h2;rw[hu]at hu';simp only[Option.some.injEq,TypeDesc.slice.injEq]at hu';subst hu';obtain⟨hrds,hpl⟩:=wN h5;unfold Zr at h;split at h
  ·rename_i vs e hr;split at h
   ·rename_i hall;simp only[Option.some.injEq,Prod.mk.injEq]at h;obtain⟨rfl,rfl⟩:=h;obtain⟨Ov,O',rvs,s',l⟩:=s.rdAll hrds hr;rw[List.map_map]at rvs;have hvl:=rvs.length;simp only[List.length_map]at hvl;obtain⟨rf,hone⟩:=rvs.flat hall;have hplt:parts.toList.length=ps.length:=hpl;generalize hcs:(Array.range (ps.length*1)).map (fun j=>(if ps.length*1=0 then (#[]:Array Value) else zv.cells)[j % (if ps.length*1=0 then (#[]:Array Value) else zv.cells).size]!)=cs;have hcsz:cs.size=ps.length:=by grind
    have hone':∀ p∈parts.toList,(ev t p.2).cells.toList.length=1:=fun p hp=>hone _ (List.mem_map.2 ⟨p,hp,rfl⟩)
    obtain⟨xs',q1,q2,q3,q4⟩:=auT (t:=t) (k:=0) h5 (cs:=cs) hone' (by omega);have hfl:=ai3 (f:=fun p:Nat×Operand=>(ev t p.2).cells.toList) hone';have hxs:xs'.toList=parts.toList.flatMap fun p=>(ev t p.2).cells.toList:=by
     refine List.ext_getElem? fun j=>?_
     grind
    have rvx:RVs g w (vs.flatMap AV.cells) xs'.toList Ov:=by
     grind [List.flatMap_map]
    have hcl:(vs.flatMap AV.cells).length=vs.length:=by grind [RVs.length]
    have hn:=s'.fresh st.hs.next (Nat.le_refl _)
    have hO:∀ b,w.heap.size≤b→O b=0:=by
     intro b hb;by_cases h:O b=0
     ·exact h
     ·have:=s.hi b h;omega
    have hx0:aH g w (g.add st.hs.next w.heap.size 0 1 (vs.flatMap AV.cells).length) (w.alloc (.cells xs' el)) (fun _=>False):=(aH.alloc s.pmlt _ _).add hn _ _ _ _;have r:fE P (g.add st.hs.next w.heap.size 0 1 (vs.flatMap AV.cells).length) (w.alloc (.cells xs' el)) st.hs.next (.cells (vs.flatMap AV.cells)) (fun x=>Ov x+one w.heap.size x):=by
     refine⟨w.heap.size,xs',el,Ov,by simp[Gh.add],by simp[Gh.add],by simp[Gh.add],by simp[Gh.add],fo _ _,RVs.ext hx0 _ _ _ rvx (by simp),fun o ho=>?_,fun _=>rfl⟩;have:=s.pmlt _ o ho;omega
    have key:∀ b,Ov b+one w.heap.size b+O' b≤1:=by
     intro b;by_cases hb:b=w.heap.size
     ·have:=l w.heap.size;simp_all
     ·have:=s.le b;grind [one]
    obtain⟨s2,hx⟩:=s'.new r (fun b=>key b) (fun b hb=>by
     grind [oE])
    refine⟨.slice (some ⟨w.heap.size,0,none⟩) ps.length ps.length,_,_,zero,_,.inl ?_,?_,s2,hx.mono fun b _ hb=>by grind,fun b=>by simp_all,fun b hb=>?_,by simp⟩
    ·have hbig:¬ (ps.length*1 > 2 ^ 24):=by omega
     have hne:¬ (ps.length*1=0):=by omega
     have hzv:=mA (P:=P) (w:=w) hi hz;simp only[execOp,Instr.buildSlice,Sem.run_bind,ar hu,Result.andThen_ok,b7 hsz,hne,if_false,Sem.run_pure,Sem.run_ite,hbig,hzv]
     simp_all [newRow]
    ·simp_all [RV,Gh.add]
    grind [one]
   simp_all
  simp_all
 simp_all
theorem asY {n:Nat}{x:Rd}{lo hi mx:Option Rd}(s:S P g w st t O) (h:Nq n x lo hi mx st=some (a,st')) (hc:aC P (.slarr n x lo hi mx) o.op=true) :
  cH P g w t O st' a ((execOp (ev t) o).run P w):=by
 obtain⟨dst,op,ty,pos,aft,gd⟩:=o;simp only[aC]at hc;split at hc
 ·rename_i ty' y l' h' k';simp only[Bool.and_eq_true]at hc;obtain⟨⟨⟨⟨h1,h2⟩,h3⟩,h4⟩,h5⟩:=hc;have hty:∃ el,P.underlying ty'=some (.array n el)∧oz P el 1=true:=by
   grind [Ng,Nat.beq_eq]
  obtain⟨el,hu,hsz⟩:=hty;unfold Nq at h;split at h
  ·rename_i id off e1 r1;obtain⟨Ov,O1,rv,s1,l1⟩:=s.rd h2 r1;split at h
   ·rename_i vl e2 r2;obtain⟨O2,q2,s2,l2⟩:=s1.rdOpt h3 r2;split at h
    ·rename_i vh e3 r3;obtain⟨O3,q3,s3,l3⟩:=s2.rdOpt h4 r3;split at h
     ·rename_i vm e4 r4;obtain⟨O4,q4,s4,l4⟩:=s3.rdOpt h5 r4;split at h
      ·rename_i r hr;simp only[Option.some.injEq,Prod.mk.injEq]at h;obtain⟨rfl,rfl⟩:=h;have hle:∀ b,Ov b+O4 b≤O b:=fun b=>by grind
       unfold N4 at hr;split at hr
       ·rename_i cs hg;split at hr
        ·rename_i hle2;split at hr
         ·rename_i l hh mm hb;simp only[Option.some.injEq]at hr;subst hr;have hb1:=Nat.le_of_ble_eq_true hle2;obtain⟨Oe,Oh,re,rh,ho⟩:=s.parts;obtain⟨Oq,q,_⟩:=RL.get rh hg;obtain⟨b,c,el2,O5,hob,hbase,hesz,hbsz,_⟩:=q;obtain⟨⟨b',hob',hx⟩,_⟩:=rv;rw[hob]at hob';simp only[Option.some.injEq]at hob';subst hob';obtain⟨m',e1,g1,g2,g3,g4⟩:=YQ (P:=P) (w:=w) (b:=false) q2 q3 q4 (Nat.le_refl n) hb;refine .pure s (x:=.slice (some (if m'=l then ⟨b,g.base id+off,none⟩ else (⟨b,g.base id+off,none⟩:Addr).add (l*1))) (hh-l) (m'-l)) (Oa:=zero) ?_ ?_ s4 fun x=>by simp_all
          ·simp only[execOp,Sem.run_bind,Instr.sliceAt,ar hu,Result.andThen_ok,hx,Instr.sureAddr,Sem.run_pure,e1,b7 hsz]
          ·simp only[RV];refine⟨?_,fun _=>trivial⟩;by_cases hml:m'=l
           ·simp_all
           ·refine .inr ⟨b,m'-l,hob,?_,by omega,?_⟩
            all_goals grind [gB]
         simp_all
        simp_all
       simp_all
      simp_all
     simp_all
    simp_all
   simp_all
  simp_all
 simp_all
end
section
variable {P:Program}{g:Gh}{w:World}{t:Array Value}{O:Nat→Nat}{st st':St}{a:AV}{o:Oper}
theorem atV:(Extern.findNext { (default:Func) with name := "internal/bytealg.IndexByte",origin := "" }).isNone=true:=by kernel_rfl
theorem atf {fn:Func}(h1:fn.name = "internal/bytealg.IndexByte") (h2:fn.origin = ""):Extern.findNext fn=none:=by
 have h:=atV;unfold Extern.findNext at h⊢;have e:(List.lookup "internal/bytealg.IndexByte" Extern.allNextRows)=none:=by
  cases e:(List.lookup "internal/bytealg.IndexByte" Extern.allNextRows)<;>simp_all
 have e2:(List.lookup "" Extern.allNextRows)=none:=by
  cases e2:(List.lookup "" Extern.allNextRows)<;>simp_all
 grind
theorem asW {fn:Func}(h1:fn.name = "internal/bytealg.IndexByte"):Extern.find fn=some Extern.BytealgIndexByte.indexByte:=by
 unfold Extern.find;have e1:(List.lookup "internal/bytealg.IndexByte" Extern.allGenericRows).isNone=true:=by kernel_rfl
 have e2:(List.lookup "internal/bytealg.IndexByte" Extern.allTypedRows).isNone=true:=by kernel_rfl
 have e3:List.lookup "internal/bytealg.IndexByte" Extern.allRows=some Extern.BytealgIndexByte.indexByte:=by kernel_rfl
 grind [Option.isNone_iff_eq_none]
theorem akW:∀ (l:List UInt8) (c:UInt8) (i:Nat),DI l c.toNat i=if Lib.indexByte l c == -1 then -1 else Lib.indexByte l c+i
 | [],c,i=>by simp[DI,Lib.indexByte]
 | b::l,c,i=>by
  have hp:Lib.indexByte l c=-1∨0≤Lib.indexByte l c:=by
   induction l<;>grind [Lib.indexByte]
  simp only[DI,Lib.indexByte];by_cases h:b=c
  ·simp_all
  ·have hn:Nat.beq b.toNat c.toNat=false:=by
    grind [Nat.beq_eq,UInt8.toNat_inj]
   rw[akW l c (i+1)]
   grind
theorem af9 (ad:Addr) (cap:Nat) (ns:List Nat) (cv:Int) (hc:∀ j u,(ns.map fun(n:Nat)=>Value.int .u8 (n:Int))[j]?=some u→w.cell? (ad.add j)=some u) :
  (Extern.BytealgIndexByte.indexByte #[.slice (some ad) ns.length cap,.int .u8 cv]).run P w=.ok (.int .i64 (Lib.indexByte (Lib.bytesOf (ns.map fun(n:Nat)=>(n:Int))) cv.toNat.toUInt8)) w:=by
 generalize hxs:ns.map (fun(n:Nat)=>(n:Int))=xs;have hl:=Lib.run_loadBytesX (P:=P) w xs ad .empty (fun j x hj=>hc j _ (by
  grind))
 have hs:=Lib.run_indexByteString (P:=P) ⟨(Lib.bytesOf xs).toArray⟩ cv w;have he:(⟨ByteArray.empty.data++(Lib.bytesOf xs).toArray⟩:ByteArray)=⟨(Lib.bytesOf xs).toArray⟩:=by
  simp_all
 change Sem.run P (do
  let b←Extern.Bytes.bytesOf (.slice (some ad) ns.length cap)
  let c←Extern.Bytes.asByte (.int .u8 cv)
  match (List.range b.size).find? fun i=>b[i]! == c with
  | some i=>pure (goInt i)
  | none=>pure (goInt (-1))) w=_
 change Sem.run P (do
  let b←Extern.Bytes.bytesOf (.string ⟨(Lib.bytesOf xs).toArray⟩)
  let c←Extern.Bytes.asByte (.int .u8 cv)
  match (List.range b.size).find? fun i=>b[i]! == c with
  | some i=>pure (goInt i)
  | none=>pure (goInt (-1))) w=_ at hs
 grind [Extern.Bytes.bytesOf,Sem.run_bind,Result.andThen]
theorem au5 {x c:Rd}(s:S P g w st t O) (h:alc x c st=some (a,st')) (hc:aC P (.idxb x c) o.op=true) :
  cH P g w t O st' a ((execOp (ev t) o).run P w):=by
 obtain⟨dst,op,ty,pos,aft,gd⟩:=o;simp only[aC]at hc;split at hc
 ·rename_i k;obtain⟨callee,as,ats⟩:=k;simp only[Bool.and_eq_true]at hc;obtain⟨h1,h2⟩:=hc;split at h1
  ·rename_i f hf;have hcal:callee=.value (.func f):=by
    unfold rq at hf
    grind
   subst hcal;unfold arR at h1;split at h1
   ·rename_i fn hfn;simp only[Bool.and_eq_true,beq_iff_eq]at h1;obtain⟨⟨hn1,hn2⟩,hn3⟩:=h1;obtain⟨x',c',has,hx,hcc⟩:∃ x' c',as.toList=[x',c']∧aZ x x'=true∧aZ c c'=true:=by
     revert h2
     cases as.toList with
     | nil=>grind [bR]
     | cons x' l=>cases l<;>grind [bR]
    have has':as=#[x',c']:=Array.ext' has;obtain⟨va,vb,e,Oa,Ob,O',ra,rb,s',l,hk⟩:=ME s hx hcc h;split at hk
    ·rename_i r hr;obtain⟨rfl,rfl⟩:=hk;unfold asm at hr;split at hr
     ·rename_i n;split at hr
      ·rename_i xs hxs;split at hr
       ·rename_i q hq;simp only[Option.some.injEq]at hr;subst hr;unfold indexByte at hq;split at hq
        ·rename_i b hb;simp only[Option.some.injEq]at hq;subst hq;obtain⟨ns,rfl,rfl⟩:=B8 hb;have hl1:∀ e∈ns.map (fun(n:Nat)=>[D.int .u8 (Int.ofNat n)]),e.length=1:=by
          simp_all
         obtain⟨ad,cap,news,hxv,hels⟩:=sy (st:=⟨e,st.hs⟩) s' hxs hl1 ra;have hcv:=qc rb rfl;have hargs:#[ev t x',ev t c']=#[Value.slice ad (ns.map (fun(n:Nat)=>[D.int .u8 (Int.ofNat n)])).length cap,.int .u8 n]:=by simp_all
         have hres:DI (ns.map Nat.toUInt8) (n.toNat % 256) 0=Lib.indexByte (Lib.bytesOf (ns.map fun(n:Nat)=>(n:Int))) n.toNat.toUInt8:=by
          have h1:n.toNat % 256=(n.toNat.toUInt8).toNat:=by simp
          rw[h1,akW];have h2:Lib.bytesOf (ns.map fun(n:Nat)=>(n:Int))=ns.map Nat.toUInt8:=by
           simp[Lib.bytesOf]
          grind
         have hrun:(Extern.BytealgIndexByte.indexByte #[ev t x',ev t c']).run P w=.ok (.int .i64 (DI (ns.map Nat.toUInt8) (n.toNat % 256) 0)) w:=by
          rw[hargs,hres]
          cases ad with
          | none =>
           have h0:=hels.nn rfl;have:ns=[]:=List.eq_nil_of_length_eq_zero (by simp_all);subst this;exact Lib.run_indexByteNil w _ _ _
          | some ad =>
           have hnews:news=ns.map fun(n:Nat)=>Value.int .u8 (n:Int):=by
            apply List.ext_getElem?;intro j;rcases Nat.lt_or_ge j ns.length with hj | hj
            ·have hd:(ns.map (fun(n:Nat)=>[D.int .u8 (Int.ofNat n)])).flatten[j]?=some (D.int .u8 (Int.ofNat ns[j])):=by grind [Yv]
             obtain⟨u,hu,hr⟩:=hels.rd j _ hd
             cases hr
             simp_all
            grind [tA.len]
           grind [af9,tA.cell]
         refine .flat s (x:=.int .i64 (DI (ns.map Nat.toUInt8) (n.toNat % 256) 0)) ?_ (by simp only[RV];exact⟨.int _ _,fun _=>trivial⟩) s' fun b=>by grind
         simp only[execOp,resolve,Sem.run_bind,ev,Deferred.ofValue,Sem.run_pure,Result.andThen_ok,invoke]
         simp_all [run_callFunc_extern,atf,asW]
        simp_all
       simp_all
      simp_all
     simp_all
    simp_all
   simp_all
  simp_all
 simp_all
end
abbrev FR (ro:Option Nat):Fence:={ Fence.wide with round:=ro }
theorem acq (ro:Option Nat) (n:Nat):(FR ro).room n:=fun _ h=>by grind [Fence.wide]
theorem HU {ro:Option Nat}{n:Nat}{P:Program}{f:FuncId}{args:Array Value}{w:World}{R:Ending→World→Prop}(h:CallsIn (FR none) n P f args w R):CallsIn (FR ro) n P f args w R:=h
section
variable {P:Program}{g:Gh}{w:World}{t:Array Value}{O:Nat→Nat}{st st':St}{a:AV}{o:Oper}
structure tw (P:Program) (g:Gh) (w:World) (t:Array Value) (O:Nat→Nat) (st':St) (a:AV) (x:Value) (w':World) (g':Gh) (Oa O':Nat→Nat):Prop where
 val:RV g' w' a x Oa
 st:S P g' w' st' t O'
 ext:aH g w g' w' fun b=>O b≠0
 le:∀ b,Oa b+O' b≤1
 old:∀ b,b<w.heap.size→Oa b+O' b≤O b
 hi:∀ b,Oa b≠0→b<w'.heap.size
def OpW (ro:Option Nat) (P:Program) (g:Gh) (w:World) (t:Array Value) (O:Nat→Nat) (st':St) (a:AV) (o:Oper):Prop :=
 ∀ (ds:List Deferred) (next:Act→World→Prop) (Q:Exit→Act→World→Prop),(∀ x w' g' Oa O',tw P g w t O st' a x w' g' Oa O'→next (Act.put ⟨t,ds⟩ o.dst x) w')→
  o.uponIn (FR ro) 0 P ⟨t,ds⟩ next Q ((execOp (ev t) o).run P w)
theorem cH.opW {ro:Option Nat}(h:cH P g w t O st' a ((execOp (ev t) o).run P w)):OpW ro P g w t O st' a o:=by
 obtain⟨x,w',g',Oa,O',k⟩:=h;intro ds next Q hn
 have hx:=hn x w' g' Oa O' ⟨k.val,k.st,k.ext,k.le,k.old,k.hi⟩;rcases k.run with hr | ⟨hr,rfl⟩
 ·rw[hr];exact hx
 ·rw[hr];exact hx
abbrev om (t:Array Value) (dst:Option Nat) (x:Value):Array Value:=(Act.put ⟨t,[]⟩ dst x).tmps
theorem Y5 (t:Array Value) (ds:List Deferred) (dst:Option Nat) (x:Value):Act.put ⟨t,ds⟩ dst x=⟨om t dst x,ds⟩:=by cases dst<;>rfl
theorem j8 (t:Array Value) (dst:Option Nat) (x:Value):(om t dst x).size=t.size:=by cases dst<;>simp[om,Act.put]
structure dB (P:Program) (g:Gh) (w:World) (t:Array Value) (O:Nat→Nat) (st':St) (t':Array Value) (w':World) (g':Gh) (O':Nat→Nat):Prop where
 st:S P g' w' st' t' O'
 ext:aH g w g' w' fun b=>O b≠0
 old:∀ b,b<w.heap.size→O' b≤O b
 size:t'.size=t.size
theorem dB.refl (s:S P g w st t O):dB P g w t O st t w g O:=⟨s,.refl _ _ _,fun _ _=>Nat.le_refl _,rfl⟩
theorem dB.trans {t1 t2:Array Value}{w1 w2:World}{g1 g2:Gh}{O1 O2:Nat→Nat}{st1 st2:St}(h1:dB P g w t O st1 t1 w1 g1 O1) (h2:dB P g1 w1 t1 O1 st2 t2 w2 g2 O2) :
  dB P g w t O st2 t2 w2 g2 O2 where
 st:=h2.st
 ext:=h1.ext.trans h2.ext fun b hb h=>by grind [old]
 old b hb:=Nat.le_trans (h2.old b (Nat.lt_of_lt_of_le hb h1.ext.size)) (h1.old b hb)
 size:=h2.size.trans h1.size
theorem aix {st1:St}{x:Value}{w':World}{g1:Gh}{Oa O1:Nat→Nat}(k:tw P g w t O st1 a x w' g1 Oa O1) {dst:Option Nat}(hd:∀ d,dst=some d→d<t.size) (th:List (Nat×Nat)) :
  ∃ g' O',dB P g w t O (ba dst (firm (bK th a st1.hs).1) ⟨st1.env,(bK th a st1.hs).2⟩) (om t dst x) w' g' O':=by
 obtain⟨g2,Ov2,O2,r2,s2,x2,l2⟩:=Ey (P:=P) (t:=t) th (env:=st1.env) (hs:=st1.hs) k.st k.val k.le k.hi;have hle2:∀ b,Ov2 b+O2 b≤1:=fun b=>Nat.le_trans (l2 b) (k.le b)
 obtain⟨g3,r3,s3,x3⟩:=akl s2 r2 hle2;have hext:aH g w g3 w' fun b=>O b≠0:=(k.ext.trans x2 (fun _ _ h=>h.elim)).trans x3 fun b hb h=>by grind [tw.old]
 cases dst with
 | none=>exact⟨g3,O2,s3,hext,fun b hb=>by grind [tw.old],rfl⟩
 | some d =>
  obtain⟨O4,s4,l4⟩:=s3.setTmp (hd d rfl) r3 hle2 fun b hb=>by
   by_cases h:Oa b=0
   ·exact k.st.hi b (by grind)
   ·exact k.hi b h
  exact⟨g3,O4,s4,hext,fun b hb=>by grind [tw.old],j8 _ _ _⟩
theorem S.split (s:S P g w st t O):∃ Oe Oh,fP g w st.env t Oe∧S P g w ⟨[],st.hs⟩ #[] Oh∧∀ b,O b=Oe b+Oh b:=by
 obtain⟨Oe,Oh,re,rh,ho⟩:=s.parts;exact⟨Oe,Oh,re,⟨List.Pairwise.nil,s.sh,⟨zero,Oh,fun _=>rfl,rh,fun b=>by simp⟩,fun b=>by have:=s.le b;grind,fun b hb=>s.hi b (by simp_all),s.fresh,s.pmlt⟩,ho⟩
theorem S.join {e:ao}{hs:HS}{Oe Oh:Nat→Nat}(he:be e) (re:fP g w e t Oe) (s:S P g w ⟨[],hs⟩ #[] Oh) (hle:∀ b,Oe b+Oh b≤1) (hhi:∀ b,Oe b≠0→b<w.heap.size) :
  S P g w ⟨e,hs⟩ t fun b=>Oe b+Oh b:=by
 obtain⟨O0,Oh',r0,rh,ho⟩:=s.parts;have h0:∀ b,Oh b=Oh' b:=fun b=>by have:=ho b;have:O0 b=0:=r0 b;omega
 exact⟨he,s.sh,⟨Oe,Oh',re,rh,fun b=>by simp_all⟩,hle,fun b hb=>by
  grind [hi],s.fresh,s.pmlt⟩
theorem AG (t:Array Value) (ds:List Deferred):(⟨t,ds⟩:Act).eval=ev t:=by
 funext x;cases x<;>rfl
theorem IQ {ro:Option Nat}(t:Array Value) (ds:List Deferred) (h:∀ c,o.op≠.defer c):o.semAt ro (⟨t,ds⟩:Act).eval=execOp (ev t) o:=by
 grind [Oper.semAt_eq,AG]
end
section
variable {P:Program}{g:Gh}{w:World}{t:Array Value}{O:Nat→Nat}{st st':St}{o:Oper}{ops:Array Oper}
theorem aqy (s:S P g w st t O) {gd:Option (Nat×Bool)}(hg:wn ops gd o.guard=true) :
  (gd=none→Region.wanted o (yielded ops t)=true)∧
  ∀ sl want,gd=some (sl,want)→(∀ b,get st.env sl=some (.d (.bool b))→Region.wanted o (yielded ops t)=(b == want))∧(get st.env sl=some (.tup [])→Region.wanted o (yielded ops t)=false):=by
 cases gd with
 | none =>
  grind [Region.wanted,wn]
 | some p =>
  obtain⟨sl,want⟩:=p
  cases hog:o.guard with
  | none=>grind [wn]
  | some q =>
   rw[hog]at hg;simp only[wn,Bool.and_eq_true,beq_iff_eq]at hg;obtain⟨rfl,h2⟩:=hg;refine⟨fun h=>by simp at h,fun sl' want' h=>?_⟩;obtain⟨rfl,rfl⟩:=h;obtain⟨Oe,Oh,re,rh,ho⟩:=s.parts;split at h2
   ·split at h2
    ·rename_i d hd;rw[Nat.beq_eq]at h2;subst h2;refine⟨fun b hb=>?_,fun hb=>?_⟩
     ·obtain⟨O1,⟨hlt,q⟩,_⟩:=RL.get re hb;have hv:t.getD d undef=.bool b:=su q rfl
      simp_all [Region.wanted,yielded]
     ·obtain⟨O1,⟨hlt,q⟩,_⟩:=RL.get re hb;obtain⟨xs,hv,hxs,_⟩:=q
      simp_all [Region.wanted,yielded]
    simp_all
   simp_all
end
def dC (P:Program) (g:Gh) (w:World) (O:Nat→Nat) (v:AV) (hs':HS):Ending→World→Prop
 | .returned x,w'=>∃ g' Or Oh,RV g' w' v x Or∧S P g' w' ⟨[],hs'⟩ #[] Oh∧aH g w g' w' (fun b=>O b≠0)∧(∀ b,Or b+Oh b≤1)∧(∀ b,b<w.heap.size→Or b+Oh b≤O b)∧
   ∀ b,Or b≠0→b<w'.heap.size
 | _,_=>False
def aoA (P:Program) (f:FuncId):Prop:=∃ fn,P.funcs[f]?=some fn∧fn.body.isSome=true∧fn.name≠ "runtime.NumGoroutine"
def dW (P:Program) (r:bC):Prop :=
 ∀ {f:FuncId}{args:List AV}{hs:HS}{v:AV}{hs':HS},r.call f args hs=some (v,hs')→aoA P f∧
  ∀ {g:Gh}{w:World}{xs:List Value}{Oa Oh:Nat→Nat},RVs g w args xs Oa→S P g w ⟨[],hs⟩ #[] Oh→(∀ b,Oa b+Oh b≤1)→(∀ b,Oa b≠0→b<w.heap.size)→
   CallsIn (FR none) 0 P f xs.toArray w (dC P g w (fun b=>Oa b+Oh b) v hs')
section
variable {P:Program}{g:Gh}{w:World}{t:Array Value}{O:Nat→Nat}{st st':St}{a:AV}{o:Oper}{r:bC}
theorem zY {e:ao}{hs hs':HS}{Ov Oe Oh:Nat→Nat}{x:Value}{w':World}{v:AV}(he:be e) (re:fP g w e t Oe) (hle:∀ b,Ov b+(Oe b+Oh b)≤O b) (s0:S P g w st t O)
  (h:dC P g w (fun b=>Ov b+Oh b) v hs' (.returned x) w'):∃ g' Oa O',tw P g w t O ⟨e,hs'⟩ v x w' g' Oa O':=by
 obtain⟨g',Or,Oh',h1,h2,h3,h4,h5,h6⟩:=h;have hle1:∀ b,Ov b+(Oe b+Oh b)≤1:=fun b=>Nat.le_trans (hle b) (s0.le b)
 have re':=fP.ext h3 re fun b hb h=>by grind
 have hoe:∀ b,¬ b<w.heap.size→Oe b=0:=fun b hb=>by
  grind [S.hi]
 have hsum:∀ b,Or b+(Oe b+Oh' b)≤1:=fun b=>by
  grind
 have s':=S.join he re' h2 (fun b=>by grind) fun b hb=>Nat.lt_of_lt_of_le (s0.hi b (by grind)) h3.size
 refine⟨g',Or,_,h1,s',h3.mono fun b _ hb=>by grind,hsum,fun b hb=>?_,h6⟩
 grind
theorem Rj {ro:Option Nat}{f:FuncId}{args:Array Value}{e:ao}{hs hs':HS}{Ov Oe Oh:Nat→Nat}{v:AV}(he:be e) (re:fP g w e t Oe) (hle:∀ b,Ov b+(Oe b+Oh b)≤O b) (s0:S P g w st t O)
  (hrun:(execOp (ev t) o).run P w=.ok (.enter f args) w) (hk:CallsIn (FR none) 0 P f args w (dC P g w (fun b=>Ov b+Oh b) v hs')):OpW ro P g w t O ⟨e,hs'⟩ v o:=by
 intro ds next Q hn
 rw[hrun,Oper.uponIn_enter];refine⟨fun h=>by grind [Fence.wide],HU (hk.mono fun en w' hp=>?_)⟩
 cases en with
 | returned x =>
  obtain⟨g',Oa,O',k⟩:=zY (hs:=hs) he re hle s0 hp
  grind
 | panicked c=>exact hp.elim
 | outgrown=>exact hp.elim
theorem oq {f:FuncId}(h:aoA P f) (args:Array Value):(callFunc f args).run P w=.ok (.enter f args) w:=by
 obtain⟨fn,h1,h2,h3⟩:=h;have h2':¬ fn.body=none:=by grind
 simp_all [callFunc]
theorem Fo {c:Callee}{f:FuncId}(h:(match rq c with | some g=>Nat.beq f g | none=>false)=true):c=.value (.func f):=by
 split at h
 ·rename_i g hg;rw[Nat.beq_eq]at h;unfold rq at hg
  grind
 simp_all
theorem ar2 {ro:Option Nat}{f:FuncId}{args:List Rd}(hr:dW P r) (s:S P g w st t O) (h:vZ r f args st=some (a,st')) (hc:aC P (.calli f args) o.op=true) :
  OpW ro P g w t O st' a o:=by
 obtain⟨dst,op,ty,pos,aft,gd⟩:=o;simp only[aC]at hc;split at hc
 ·rename_i c;simp only[Bool.and_eq_true]at hc;obtain⟨h1,h2⟩:=hc;obtain⟨callee,as,ats⟩:=c;have:=Fo h1;subst this;unfold vZ at h;split at h
  ·rename_i vs e hrd;split at h
   ·rename_i v hs' hcall;obtain⟨rfl,rfl⟩:=h;obtain⟨Ov,O',rvs,s',l⟩:=s.rdAll h2 hrd;obtain⟨Oe,Oh,re,sh,ho⟩:=s'.split;obtain⟨hfn,hk⟩:=hr hcall;have hle:∀ b,Ov b+(Oe b+Oh b)≤O b:=fun b=>by simp_all
    have hk:=hk rvs sh (fun b=>by have:=hle b;have:=s.le b;omega) (fun b hb=>s.hi b (by grind));refine Rj (hs:=st.hs) s'.se re hle s ?_ hk;simp only[execOp,resolve,Sem.run_bind,ev,Deferred.ofValue,Sem.run_pure,Result.andThen_ok,invoke];rw[oq hfn]
    congr 2
    grind
   simp_all
  simp_all
 simp_all
end
section
variable {P:Program}{g:Gh}{w:World}{t:Array Value}{O:Nat→Nat}{st st':St}{a:AV}{o:Oper}{r:bC}
theorem RD.mono {pm pm':Nat→Nat→Prop}(h:∀ b o,pm b o→pm' b o) {c:D}{x:Value}(r:RD w pm c x):RD w pm' c x:=by
 induction r with
 | int k n=>exact .int k n
 | bool b=>exact .bool b
 | str s=>exact .str s
 | nil a cap=>exact .nil a cap
 | lst xs b off m cap u hm hcap hl hc hr ih=>exact .lst xs b off m cap u hm hcap hl (fun j c hj=>⟨(hc j c hj).1,h _ _ (hc j c hj).2⟩) (fun j c hj=>ih j c hj)
theorem ej.mono {pm pm':Nat→Nat→Prop}(h:∀ b o,pm b o→pm' b o) {cs:List D}{b off:Nat}(r:ej w pm cs b off):ej w pm' cs b off:=fun j c hj=>by
 obtain⟨u,hu,hr⟩:=r j c hj
 grind [RD.mono]
theorem RD.flat {pm pm':Nat→Nat→Prop}{c:D}{x:Value}(hf:jK c=true) (r:RD w pm c x):RD w pm' c x:=by
 cases r with
 | int k n=>exact .int k n
 | bool b=>exact .bool b
 | str s=>exact .str s
 | nil a cap=>exact .nil a cap
 | lst xs=>simp[jK]at hf
def Gh.view (g:Gh) (w:World) (K:Nat→Prop):Gh where
 obj _:=none
 base _:=0
 esz _:=0
 bsz _:=0
 pm b o:=g.pm b o∨(K b∧b<w.heap.size)
theorem ayO (s:S P g w st t O) (K:Nat→Prop):S P (g.view w K) w ⟨[],⟨[],0⟩⟩ #[] zero :=
 ⟨List.Pairwise.nil,List.Pairwise.nil,⟨zero,zero,fun _=>rfl,fun _=>rfl,fun _=>rfl⟩,fun _=>by simp,fun b hb=>by simp at hb,fun _ _=>rfl,fun b o h=>h.elim (s.pmlt b o) fun h=>h.2⟩
theorem Rc (s:S P g w st t O) {K:Nat→Prop}{v d:AV}{x:Value}{Ov:Nat→Nat}(h:viewOne st.hs.heap v=some d) (hK:oc v=true→∀ b,O b≠0→K b) (rv:RV g w v x Ov) :
  RV (g.view w K) w d x zero:=by
 have hm:∀ b o,g.pm b o→(g.view w K).pm b o:=fun b o h=>.inl h
 cases v<;>simp only[viewOne,reduceCtorEq]at h
 ·grind [RV,RD.mono]
 ·grind [RV]
 ·rename_i p m xs
  cases p
  ·have:=RV.share _ _ _ rv
   grind [share,RV,RD.mono]
  simp_all
 ·rename_i id off len;split at h
  ·rename_i xs hx;simp only[Option.some.injEq]at h;subst h;simp only[elems]at hx;split at hx
   ·rename_i zs hzs;split at hx
    ·rename_i hb;rw[Nat.ble_eq]at hb;simp only[Option.some.injEq]at hx;subst hx;have hsl:(Vm.sub zs off len).length=len:=fN hb;simp only[RV]at rv⊢;refine⟨?_,fun _=>trivial⟩;rcases rv.1 with ⟨rfl,ad,rfl⟩ | ⟨b,cap,hob,rfl,hlc,hcap⟩
     ·exact .nil _ _
     ·obtain⟨Oe,Oh,re,rh,ho⟩:=s.parts;have key:∀ (m:Nat),0<m→g.esz id=m→(∀ e∈zs,e.length=m)→ej w g.pm zs.flatten b (g.base id)→O b≠0→RD w (g.view w K).pm (.lst (Vm.sub zs off len)) (.slice (some ⟨b,g.base id+off*g.esz id,none⟩) len cap):=by
       intro m hm0 hes hl hc hO;have hsubl:=AE hl off len;have:=ej.rd (w:=w) (pm:=(g.view w K).pm) (xs:=Vm.sub zs off len) (b:=b) (off:=g.base id+off*g.esz id) (cap:=cap) hm0 (by omega) hsubl (by
        rw[jc hl,hes];exact(hc.sub _ _).mono hm) (fun j _=>.inr ⟨hK rfl b hO,s.hi b hO⟩)
       simp_all
      unfold objElems at hzs;split at hzs
      ·rename_i m' ys hg;obtain⟨O1,q,hO1⟩:=RL.get rh hg;rcases q with ⟨rfl,_⟩ | ⟨b',c,el,g1,g2,g3,g4,g5,g6,g7,g8,g9,g10⟩
       ·have h0:len=0:=by simp_all
        subst h0;exact .nil _ _
       grind [rC]
      ·rename_i cs hg;split at hzs
       ·rename_i ds hds;simp only[Option.some.injEq]at hzs;subst hzs;obtain⟨O1,q,hO1⟩:=RL.get rh hg;obtain⟨b',c,el,O2,g1,g2,g3,g4,g5,g6,g7,g8⟩:=q;obtain⟨h1,h2,h3⟩:=Iy hds g6;refine key 1 (by omega) g3 (ajo ds) ?_ (by grind [rC]);rw[Mi,g2];intro j d hj
        grind [dF]
       simp_all
      simp_all
    simp_all
   simp_all
  simp_all
theorem Rr (s:S P g w st t O) {K:Nat→Prop}:∀ {vs ds:List AV}{xs:List Value}{Ov:Nat→Nat},viewAll st.hs.heap vs=some ds→(vs.any oc=true→∀ b,O b≠0→K b)→RVs g w vs xs Ov→
  RVs (g.view w K) w ds xs zero
 | [],ds,xs,Ov,h,hK,rv=>by
  grind [viewAll,RVs]
 | v::vs,ds,xs,Ov,h,hK,rv=>by
  simp only[viewAll]at h;split at h
  ·simp at h
  ·rename_i d hd;split at h
   ·simp at h
   ·rename_i ds' hds;simp only[Option.some.injEq]at h;subst h;obtain⟨x,ys,O1,O2,rfl,r1,r2,hs⟩:=rv;exact⟨x,ys,zero,zero,rfl,Rc s hd (fun h=>hK (by simp[h])) r1,Rr s hds (fun h=>hK (by simp_all)) r2,fun _=>rfl⟩
theorem amq (s:S P g w st t O) {K:Nat→Prop}{v d:AV}{x:Value}{Ov:Nat→Nat}(h:viewArg st.hs.heap v=some d) (hK:nz v=true→∀ b,O b≠0→K b) (rv:RV g w v x Ov) :
  RV (g.view w K) w d x zero:=by
 cases v<;>simp only[viewArg]at h<;>try exact Rc s h (fun hh=>hK hh) rv
 split at h
 ·rename_i xs hx;simp only[Option.some.injEq]at h;subst h;obtain⟨ys,e,r⟩:=rv;exact⟨ys,e,Rr s hx (fun hh=>hK hh) r⟩
 simp_all
theorem LW (s:S P g w st t O) {K:Nat→Prop}:∀ {vs ds:List AV}{xs:List Value}{Ov:Nat→Nat},viewArgs st.hs.heap vs=some ds→(vs.any nz=true→∀ b,O b≠0→K b)→RVs g w vs xs Ov→
  RVs (g.view w K) w ds xs zero
 | [],ds,xs,Ov,h,hK,rv=>by
  grind [viewArgs,RVs]
 | v::vs,ds,xs,Ov,h,hK,rv=>by
  simp only[viewArgs]at h;split at h
  ·simp at h
  ·rename_i d hd;split at h
   ·simp at h
   ·rename_i ds' hds;simp only[Option.some.injEq]at h;subst h;obtain⟨x,ys,O1,O2,rfl,r1,r2,hs⟩:=rv;exact⟨x,ys,zero,zero,rfl,amq s hd (fun h=>hK (by simp[h])) r1,LW s hds (fun h=>hK (by simp_all)) r2,fun _=>rfl⟩
end
section
variable {P:Program}{g:Gh}{w:World}{t:Array Value}{O:Nat→Nat}{st st':St}{a:AV}{o:Oper}{r:bC}
def kb:AV→Bool
 | .d _ | .nl | .own _ _ _=>true
 | _=>false
def lB:AV→Bool
 | .agg cs=>cs.all kb
 | v=>kb v
def AR:AV→Bool
 | .tup vs=>vs.all lB
 | v=>lB v
def YW (P:Program) (g:Gh) (w:World) (O:Nat→Nat) (n:Nat) (x:Value) (Ov:Nat→Nat) (r:AV×ac):Prop :=
 ∃ Ov' O',RV g w r.1 x Ov'∧S P g w ⟨[],⟨r.2,n⟩⟩ #[] O'∧∀ b,Ov' b+O' b≤Ov b+O b
def azw (P:Program) (g:Gh) (w:World) (O:Nat→Nat) (n:Nat) (xs:List Value) (Ov:Nat→Nat) (r:List AV×ac):Prop :=
 ∃ Ov' O',RVs g w r.1 xs Ov'∧S P g w ⟨[],⟨r.2,n⟩⟩ #[] O'∧∀ b,Ov' b+O' b≤Ov b+O b
theorem WD {h:ac}{n:Nat}(s:S P g w ⟨[],⟨h,n⟩⟩ #[] O) {v:AV}{x:Value}{Ov:Nat→Nat}{r:AV×ac}(hr:fR h v=some r) (rv:RV g w v x Ov) :
  YW P g w O n x Ov r∧kb r.1=true:=by
 have triv:∀ v,RV g w v x Ov→YW P g w O n x Ov (v,h):=fun v rv=>⟨Ov,O,rv,s,fun _=>Nat.le_refl _⟩
 cases v<;>simp only[fR,reduceCtorEq]at hr
 ·simp only[Option.some.injEq]at hr;subst hr;exact⟨triv _ rv,rfl⟩
 ·simp only[Option.some.injEq]at hr;subst hr;exact⟨triv _ rv,rfl⟩
 ·simp only[Option.some.injEq]at hr;subst hr;exact⟨triv _ rv,rfl⟩
 ·rename_i id off len;split at hr
  ·rename_i m xs hg;split at hr
   ·rename_i hb;rw[Nat.ble_eq]at hb;simp only[Option.some.injEq]at hr;subst hr;refine⟨?_,rfl⟩;obtain⟨Oe,Oh,re,rh,ho⟩:=s.parts;obtain⟨O1,O2,q,r2,hs⟩:=RL.take rh hg;have hle2:∀ b,Oe b+O2 b≤O b:=fun b=>by grind
    have s2:S P g w ⟨[],⟨del h id,n⟩⟩ #[] (fun b=>Oe b+O2 b) :=
     ⟨s.se,s.sh.del id,⟨Oe,O2,re,r2,fun _=>rfl⟩,fun b=>Nat.le_trans (hle2 b) (s.le b),fun b hb=>s.hi b (by grind),s.fresh,s.pmlt⟩
    have hsub:(Vm.sub xs off len).length=len:=fN hb;have emp:len=0→(∃ a,x=.slice a 0 0)→RV g w (.own true m (Vm.sub xs off len)) x zero:=by
     grind [RV,vI]
    rcases rv with ⟨h0,h⟩ | ⟨b,cap,hob,rfl,hlc,hcap⟩
    ·exact⟨zero,_,emp h0 h,s2,fun b=>by simp_all⟩
    ·rcases q with ⟨rfl,g1,g2,g3,_⟩ | ⟨b',c,el,g1,g2,g3,g4,g5,g6,g7,g8,g9,g10⟩
     ·have hl0:len=0:=by simp_all
      have hc0:cap=0:=by
       grind [Nat.mul_eq_zero]
      subst hl0 hc0;exact⟨zero,_,emp rfl ⟨_,rfl⟩,s2,fun b=>by simp_all⟩
     ·rw[hob]at g1;simp only[Option.some.injEq]at g1;subst g1;refine⟨one b,_,?_,s2,fun y=>?_⟩
      ·refine .inr ⟨b,g.base id+off*m,cap,c,el,by simp_all,by omega,g3,AE g7 off len,g4,?_,?_,fun o ho=>absurd ho (g9 o),fun h=>by simp at h,rfl⟩
       ·grind [Nat.add_mul]
       simp_all [jc,ej.sub]
      grind
   simp_all
  simp_all
theorem EG {n:Nat}{f:ac→AV→Option (AV×ac)}{fs:ac→List AV→Option (List AV×ac)}{p:AV→Bool}
  (hf:∀ {h:ac}{O:Nat→Nat},S P g w ⟨[],⟨h,n⟩⟩ #[] O→∀ {v:AV}{x:Value}{Ov:Nat→Nat}{r:AV×ac},f h v=some r→RV g w v x Ov→YW P g w O n x Ov r∧p r.1=true)
  (hnil:∀ h,fs h []=some ([],h)) (hcons:∀ h v vs r,fs h (v::vs)=some r→∃ v' h' vs' h'',f h v=some (v',h')∧fs h' vs=some (vs',h'')∧r=(v'::vs',h'')) :
  ∀ {vs:List AV}{h:ac}{O:Nat→Nat},S P g w ⟨[],⟨h,n⟩⟩ #[] O→∀ {xs:List Value}{Ov:Nat→Nat}{r:List AV×ac},fs h vs=some r→RVs g w vs xs Ov→azw P g w O n xs Ov r∧r.1.all p=true
 | [],h,O,s,xs,Ov,r,hr,rv=>by
  rw[hnil]at hr;simp only[Option.some.injEq]at hr;subst hr;exact⟨⟨Ov,O,rv,s,fun _=>Nat.le_refl _⟩,rfl⟩
 | v::vs,h,O,s,xs,Ov,r,hr,rv=>by
  obtain⟨v',h',vs',h'',e1,e2,rfl⟩:=hcons _ _ _ _ hr;obtain⟨x,ys,O1,O2,rfl,r1,r2,hs⟩:=rv;obtain⟨⟨Ov1,O3,q1,s1,l1⟩,p1⟩:=hf s e1 r1;obtain⟨⟨Ov2,O4,q2,s2,l2⟩,p2⟩:=EG hf hnil hcons s1 e2 r2;refine⟨⟨fun b=>Ov1 b+Ov2 b,O4,?_,s2,fun b=>by grind⟩,by simp_all⟩
  grind [RVs]
theorem Wr {h:ac}{n:Nat}{O:Nat→Nat}(s:S P g w ⟨[],⟨h,n⟩⟩ #[] O) {v:AV}{x:Value}{Ov:Nat→Nat}{r:AV×ac}(hr:dE h v=some r) (rv:RV g w v x Ov) :
  YW P g w O n x Ov r∧lB r.1=true:=by
 have base:∀ {v:AV},RV g w v x Ov→fR h v=some r→YW P g w O n x Ov r∧lB r.1=true:=fun rv hr=>by
  obtain⟨h1,h2⟩:=WD s hr rv;refine⟨h1,?_⟩;obtain⟨v',h'⟩:=r
  cases v'<;>first | exact h2 | grind [kb]
 cases v<;>simp only[dE]at hr<;>try exact base rv hr
 split at hr
 ·rename_i vs' h' hx;simp only[Option.some.injEq]at hr;subst hr;obtain⟨ys,e,rr⟩:=rv;obtain⟨⟨Ov1,O1,q1,s1,l1⟩,p1⟩:=EG (f:=fR) (fs:=lC) (p:=kb) WD (fun _=>rfl) (fun h v vs r hr=>by
   grind [lC]) s hx rr
  exact⟨⟨Ov1,O1,by grind [RV],s1,l1⟩,p1⟩
 simp_all
theorem ao2 {h:ac}{n:Nat}(s:S P g w ⟨[],⟨h,n⟩⟩ #[] O) {v r:AV}{x:Value}{Ov:Nat→Nat}(hr:eE h v=some r) (rv:RV g w v x Ov) :
  ∃ u Ov',r=eu u∧RV g w u x Ov'∧(∀ b,Ov' b≤Ov b+O b)∧AR u=true:=by
 have base:∀ {v:AV},RV g w v x Ov→(match dE h v with | some (x,_)=>some (eu x) | none=>none)=some r→∃ u Ov',r=eu u∧RV g w u x Ov'∧(∀ b,Ov' b≤Ov b+O b)∧AR u=true:=fun rv hr=>by
  split at hr
  ·rename_i u h' hu;simp only[Option.some.injEq]at hr;obtain⟨⟨Ov',O',q,_,l⟩,p⟩:=Wr s hu rv;refine⟨u,Ov',hr.symm,q,fun b=>by grind,?_⟩
   cases u<;>first | exact p | grind [lB,kb]
  simp_all
 cases v<;>simp only[eE]at hr<;>try exact base rv hr
 split at hr
 ·rename_i vs' h' hx;simp only[Option.some.injEq]at hr;obtain⟨ys,e,rr⟩:=rv;obtain⟨⟨Ov1,O1,q1,s1,l1⟩,p1⟩:=EG (f:=dE) (fs:=lk) (p:=lB) Wr (fun _=>rfl) (fun h v vs r hr=>by
   grind [lk]) s hx rr
  exact⟨.tup vs',Ov1,hr.symm,by grind [RV],fun b=>by grind,p1⟩
 simp_all
theorem H7 {g2:Gh}{v:AV}{x:Value}{Ov:Nat→Nat}(hp:kb v=true) (hf:ez v=true) (rv:RV g w v x Ov) (hn:∀ b,Ov b≠0→∀ o,¬ g2.pm b o):RV g2 w (jv v) x Ov:=by
 cases v<;>simp only[kb,Bool.false_eq_true]at hp
 ·grind [RV,jv,RD.flat,ez]
 ·grind [RV,jv]
 ·simp only[ez]at hf;rcases rv with h | ⟨b,off,cap,c,el,rfl,hcap,hm,hl,hb,hsz,hrc,hpm,hpp,rfl⟩
  ·exact .inl h
  ·refine .inr ⟨b,off,cap,c,el,rfl,hcap,hm,hl,hb,hsz,fun j d hj=>?_,fun o ho=>absurd ho (hn b (by simp) o),fun h=>by simp at h,rfl⟩;obtain⟨u,hu,hr⟩:=hrc j d hj
   grind [RD.flat]
theorem yQ {g2:Gh}{f:AV→AV}{p q:AV→Bool}(hf:∀ {v:AV}{x:Value}{Ov:Nat→Nat},p v=true→q v=true→RV g w v x Ov→(∀ b,Ov b≠0→∀ o,¬ g2.pm b o)→RV g2 w (f v) x Ov) :
  ∀ {vs:List AV}{xs:List Value}{Ov:Nat→Nat},vs.all p=true→vs.all q=true→RVs g w vs xs Ov→(∀ b,Ov b≠0→∀ o,¬ g2.pm b o)→RVs g2 w (vs.map f) xs Ov
 | [],xs,Ov,_,_,rv,_=>by grind [RVs]
 | v::vs,xs,Ov,hp,hq,rv,hn=>by
  simp only[List.all_cons,Bool.and_eq_true]at hp hq;obtain⟨x,ys,O1,O2,rfl,r1,r2,hs⟩:=rv;exact⟨x,ys,O1,O2,rfl,hf hp.1 hq.1 r1 (fun b hb=>hn b (by simp_all)),yQ hf hp.2 hq.2 r2 (fun b hb=>hn b (by simp_all)),hs⟩
theorem aqK (v:AV):(∃ cs,v=.agg cs)∨(km v=jv v∧lB v=kb v∧ij v=ez v):=by
 cases v<;>first | exact .inl ⟨_,rfl⟩ | exact .inr ⟨rfl,rfl,rfl⟩
theorem aro (v:AV):(∃ cs,v=.tup cs)∨(kP v=km v∧AR v=lB v∧gz v=ij v):=by
 cases v<;>first | exact .inl ⟨_,rfl⟩ | exact .inr ⟨rfl,rfl,rfl⟩
theorem Yj {g2:Gh}{v:AV}{x:Value}{Ov:Nat→Nat}(hp:lB v=true) (hf:ij v=true) (rv:RV g w v x Ov) (hn:∀ b,Ov b≠0→∀ o,¬ g2.pm b o):RV g2 w (km v) x Ov:=by
 rcases aqK v with ⟨cs,rfl⟩ | ⟨e1,e2,e3⟩
 ·obtain⟨xs,e,rr⟩:=rv;exact⟨xs,e,yQ H7 hp hf rr hn⟩
 grind [H7]
theorem apu {g2:Gh}{v:AV}{x:Value}{Ov:Nat→Nat}(hp:AR v=true) (hf:gz v=true) (rv:RV g w v x Ov) (hn:∀ b,Ov b≠0→∀ o,¬ g2.pm b o):RV g2 w (kP v) x Ov:=by
 rcases aro v with ⟨cs,rfl⟩ | ⟨e1,e2,e3⟩
 ·obtain⟨xs,e,rr⟩:=rv;exact⟨xs,e,yQ Yj hp hf rr hn⟩
 grind [Yj]
theorem aeH {g2:Gh}{v:AV}{x:Value}{Ov:Nat→Nat}(hp:kb v=true) (rv:RV g w v x Ov) (hn:∀ b,Ov b≠0→∀ o,¬ g2.pm b o):∃ Ov',RV g2 w (Xe v) x Ov'∧∀ b,Ov' b≤Ov b:=by
 unfold Xe;split
 ·rename_i hf;exact⟨Ov,H7 hp hf rv hn,fun _=>Nat.le_refl _⟩
 ·split
  ·rename_i n hl;refine⟨zero,?_,fun _=>Nat.zero_le _⟩;simp only[RV];refine⟨?_,fun _=>trivial⟩
   cases v with
   | d c =>
    cases c with
    | lst xs =>
     simp only[lenOf,Option.some.injEq]at hl;have rd:=rv.1
     cases rd
     all_goals simp_all
    | _=>simp[lenOf]at hl
   | nl =>
    grind [lenOf,RV]
   | own p m xs =>
    grind [lenOf,RV,vI]
   | _=>grind [kb]
  ·exact⟨zero,by simp[RV,zero],fun _=>Nat.zero_le _⟩
theorem A8 {g2:Gh}{f:AV→AV}{p:AV→Bool}(hf:∀ {v:AV}{x:Value}{Ov:Nat→Nat},p v=true→RV g w v x Ov→(∀ b,Ov b≠0→∀ o,¬ g2.pm b o)→∃ Ov',RV g2 w (f v) x Ov'∧∀ b,Ov' b≤Ov b) :
  ∀ {vs:List AV}{xs:List Value}{Ov:Nat→Nat},vs.all p=true→RVs g w vs xs Ov→(∀ b,Ov b≠0→∀ o,¬ g2.pm b o)→∃ Ov',RVs g2 w (vs.map f) xs Ov'∧∀ b,Ov' b≤Ov b
 | [],xs,Ov,_,rv,_=>⟨Ov,by grind [RVs],fun _=>Nat.le_refl _⟩
 | v::vs,xs,Ov,hp,rv,hn=>by
  simp only[List.all_cons,Bool.and_eq_true]at hp;obtain⟨x,ys,O1,O2,rfl,r1,r2,hs⟩:=rv;obtain⟨Q1,q1,l1⟩:=hf hp.1 r1 (fun b hb=>hn b (by simp_all));obtain⟨Q2,q2,l2⟩:=A8 hf hp.2 r2 (fun b hb=>hn b (by simp_all));exact⟨fun b=>Q1 b+Q2 b,⟨x,ys,Q1,Q2,rfl,q1,q2,fun _=>rfl⟩,fun b=>by grind⟩
theorem aeV {g2:Gh}{v:AV}{x:Value}{Ov:Nat→Nat}(hp:lB v=true) (rv:RV g w v x Ov) (hn:∀ b,Ov b≠0→∀ o,¬ g2.pm b o):∃ Ov',RV g2 w (IR v) x Ov'∧∀ b,Ov' b≤Ov b:=by
 have other:IR v=Xe v→lB v=kb v→∃ Ov',RV g2 w (IR v) x Ov'∧∀ b,Ov' b≤Ov b:=fun e1 e2=>by
  rw[e1];rw[e2]at hp;exact aeH hp rv hn
 cases v with
 | agg cs =>
  simp only[RV,IR]at rv⊢;obtain⟨xs,e,rr⟩:=rv;obtain⟨Ov',q,l⟩:=A8 aeH hp rr hn
  grind
 | _=>exact other rfl rfl
theorem aqn {g2:Gh}{v:AV}{x:Value}{Ov:Nat→Nat}(hp:AR v=true) (rv:RV g w v x Ov) (hn:∀ b,Ov b≠0→∀ o,¬ g2.pm b o):∃ Ov',RV g2 w (IL v) x Ov'∧∀ b,Ov' b≤Ov b:=by
 have other:IL v=IR v→AR v=lB v→∃ Ov',RV g2 w (IL v) x Ov'∧∀ b,Ov' b≤Ov b:=fun e1 e2=>by
  rw[e1];rw[e2]at hp;exact aeV hp rv hn
 cases v with
 | tup cs =>
  simp only[RV,IL]at rv⊢;obtain⟨xs,e,rr⟩:=rv;obtain⟨Ov',q,l⟩:=A8 aeV hp rr hn
  grind
 | _=>exact other rfl rfl
theorem XZ {g2:Gh}(hpm:g2.pm=g.pm) {v:AV}{x:Value}{Ov:Nat→Nat}(hp:kb v=true) (rv:RV g w v x Ov):RV g2 w v x Ov:=by
 cases v<;>simp only[kb,Bool.false_eq_true]at hp
 all_goals simp_all [RV,vI]
theorem yU {g2:Gh}{p:AV→Bool}(hf:∀ {v:AV}{x:Value}{Ov:Nat→Nat},p v=true→RV g w v x Ov→RV g2 w v x Ov) :
  ∀ {vs:List AV}{xs:List Value}{Ov:Nat→Nat},vs.all p=true→RVs g w vs xs Ov→RVs g2 w vs xs Ov
 | [],xs,Ov,_,rv=>by grind [RVs]
 | v::vs,xs,Ov,hp,rv=>by
  simp only[List.all_cons,Bool.and_eq_true]at hp;obtain⟨x,ys,O1,O2,rfl,r1,r2,hs⟩:=rv;exact⟨x,ys,O1,O2,rfl,hf hp.1 r1,yU hf hp.2 r2,hs⟩
theorem VR {g2:Gh}(hpm:g2.pm=g.pm) {v:AV}{x:Value}{Ov:Nat→Nat}(hp:lB v=true) (rv:RV g w v x Ov):RV g2 w v x Ov:=by
 rcases aqK v with ⟨cs,rfl⟩ | ⟨e1,e2,e3⟩
 ·obtain⟨xs,e,rr⟩:=rv;exact⟨xs,e,yU (XZ hpm) hp rr⟩
 grind [XZ]
theorem aox {g2:Gh}(hpm:g2.pm=g.pm) {v:AV}{x:Value}{Ov:Nat→Nat}(hp:AR v=true) (rv:RV g w v x Ov):RV g2 w v x Ov:=by
 rcases aro v with ⟨cs,rfl⟩ | ⟨e1,e2,e3⟩
 ·obtain⟨xs,e,rr⟩:=rv;exact⟨xs,e,yU (VR hpm) hp rr⟩
 grind [VR]
end
section
variable {P:Program}{g:Gh}{w:World}{t:Array Value}{O:Nat→Nat}{st st':St}{a:AV}{o:Oper}{r:bC}
theorem S.extF (s:S P g w st t O) {g2:Gh}{w':World}(h:aH g w g2 w' fun _=>False) (ho:g2.obj=g.obj) (hp:∀ b o,g2.pm b o→b<w'.heap.size):S P g2 w' st t O:=by
 obtain⟨Oe,Oh,re,rh,hs⟩:=s.parts;exact⟨s.se,s.sh,⟨Oe,Oh,fP.ext h re (by simp),rh.imp' fun k v O1 _ _ q=>q.ext0 h (by simp),hs⟩,s.le,
  fun b hb=>Nat.lt_of_lt_of_le (s.hi b hb) h.size,fun id hid=>by rw[ho];grind [fresh],hp⟩
theorem akB (u:AV):gz (kP u)=gz u:=by
 have h1:∀ v:AV,ez (jv v)=ez v:=fun v=>by cases v<;>rfl
 have h2:∀ v:AV,ij (km v)=ij v:=fun v=>by
  cases v<;>try rfl
  grind [km,ij]
 cases u<;>try rfl
 ·rename_i cs;exact h2 (.agg cs)
 grind [kP,gz]
theorem an7 {e:ao}{hs hs0:HS}{O':Nat→Nat}{vs:List AV}{v0 v:AV}{x:Value}{w':World}(s':S P g w ⟨e,hs⟩ t O') (hle:∀ b,O' b≤O b)
  (hp:dC P (g.view w fun b=>vs.any nz=true∧O' b≠0) w zero v0 hs0 (.returned x) w')
  (hres:(match eE hs0.heap v0 with | none=>none | some v=>match vs.any nz with | false=>some v | true=>match gz v with | true=>some v | false=>some (IL v))=some v) :
  ∃ g' Oa O1,tw P g w t O ⟨e,hs⟩ v x w' g' Oa O1:=by
 obtain⟨g1,Or,Oh,h1,h2,h3,h4,h5,h6⟩:=hp;have hz:∀ b,b<w.heap.size→Or b+Oh b=0:=fun b hb=>by simp_all
 split at hres
 ·simp_all
 ·rename_i v1 hv1;obtain⟨u,Ov',rfl,ru,lu,pu⟩:=ao2 h2 hv1 h1;have hcell:∀ b o,g.pm b o→w'.cell? ⟨b,o,none⟩=w.cell? ⟨b,o,none⟩:=fun b o h=>(h3.pm b o (.inl h)).2
  have hblk:∀ b,b<w.heap.size→w'.heap[b]?=w.heap[b]?:=fun b hb=>(h3.blk b hb (by simp)).1
  have fin:∀ (g2:Gh) (Ow:Nat→Nat),(∀ b,Ow b≤Ov' b)→aH g w g2 w' (fun _=>False)→g2.obj=g.obj→(∀ b o,g2.pm b o→b<w'.heap.size)→RV g2 w' v x Ow→∃ g' Oa O1,tw P g w t O ⟨e,hs⟩ v x w' g' Oa O1:=by
   intro g2 Ow hle2 hx ho hpl hv;have lu:∀ b,Ow b≤Or b+Oh b:=fun b=>Nat.le_trans (hle2 b) (lu b)
   refine⟨g2,Ow,O',hv,s'.extF hx ho hpl,hx.mono fun _ _ h=>h.elim,fun b=>?_,fun b hb=>?_,fun b hb=>?_⟩
   ·by_cases hb:b<w.heap.size
    ·have:=hz b hb;have:=lu b;have:=s'.le b;omega
    grind [S.out]
   all_goals grind [S.hi]
  by_cases hf:gz u=true
  ·have hb:eu u=kP u:=by simp[eu,hf]
   have hv:v=kP u:=by
    grind [akB]
   refine fin g Ov' (fun _=>Nat.le_refl _) ⟨fun _ _ h=>⟨h,rfl,rfl,rfl⟩,fun b o h=>⟨h,hcell b o h⟩,fun b hb _=>⟨hblk b hb,fun _ h=>h⟩,h3.size,h3.lp,h3.same⟩ rfl (fun b o h=>Nat.lt_of_lt_of_le (s'.pmlt b o h) h3.size) ?_
   grind [apu,S.pmlt]
  ·have hb:eu u=u:=by simp[eu,hf]
   cases hnf:vs.any nz with
   | false =>
    have hold:∀ b o,(g.view w fun b=>vs.any nz=true∧O' b≠0).pm b o→g.pm b o:=fun b o h=>h.elim id fun h=>by simp_all
    refine fin { g with pm:=g1.pm } Ov' (fun _=>Nat.le_refl _) ⟨fun _ _ h=>⟨h,rfl,rfl,rfl⟩,fun b o h=>⟨(h3.pm b o (.inl h)).1,hcell b o h⟩,fun b hb _=>⟨hblk b hb,fun o h=>hold b o ((h3.blk b hb (by simp)).2 o h)⟩,h3.size,h3.lp,h3.same⟩ rfl
     (fun b o h=>h2.pmlt b o h) ?_
    grind [aox]
   | true =>
    obtain⟨Ow,qv,lw⟩:=aqn (g2:=g) pu ru fun b hb o hpm=>by
     grind [S.pmlt]
    refine fin g Ow lw ⟨fun _ _ h=>⟨h,rfl,rfl,rfl⟩,fun b o h=>⟨h,hcell b o h⟩,fun b hb _=>⟨hblk b hb,fun _ h=>h⟩,h3.size,h3.lp,h3.same⟩ rfl (fun b o h=>Nat.lt_of_lt_of_le (s'.pmlt b o h) h3.size) ?_
    simp_all
theorem avI {ro:Option Nat}{f:FuncId}{args:List Rd}(hr:dW P r) (s:S P g w st t O) (h:xH r f args st=some (a,st')) (hc:aC P (.call f args) o.op=true) :
  OpW ro P g w t O st' a o:=by
 obtain⟨dst,op,ty,pos,aft,gd⟩:=o;simp only[aC]at hc;split at hc
 ·rename_i c;simp only[Bool.and_eq_true]at hc;obtain⟨h1,h2⟩:=hc;obtain⟨callee,as,ats⟩:=c;have:=Fo h1;subst this;unfold xH at h;split at h
  ·rename_i vs e hrd;split at h
   ·rename_i v hcall;obtain⟨Ov,O',rvs,s',l⟩:=s.rdAll h2 hrd;unfold bZ at hcall;split at hcall
    ·simp_all
    ·rename_i ds hds;split at hcall
     ·simp_all
     ·rename_i v0 hs0 hc0;obtain⟨hfn,hk⟩:=hr hc0;have rvc:=LW (st:=⟨e,st.hs⟩) (K:=fun b=>vs.any nz=true∧O' b≠0) s' hds (fun h b hb=>⟨h,hb⟩) rvs;have hk:=hk rvc (ayO s' _) (fun b=>by simp) (fun b hb=>by simp at hb);intro ds' next Q hn
      have hrun:(execOp (ev t) ⟨dst,.call ⟨.value (.func f),as,ats⟩,ty,pos,aft,gd⟩).run P w=.ok (.enter f (as.toList.map (ev t)).toArray) w:=by
       simp only[execOp,resolve,Sem.run_bind,ev,Deferred.ofValue,Sem.run_pure,Result.andThen_ok,invoke];rw[oq hfn]
       congr 2
       grind
      rw[hrun,Oper.uponIn_enter];refine⟨fun h=>by grind [Fence.wide],HU (hk.mono fun en w' hp=>?_)⟩
      cases en with
      | returned x =>
       obtain⟨g',Oa,O1,k⟩:=an7 (O:=O) (vs:=vs) s' (fun b=>by grind) hp hcall
       grind
      | panicked c=>exact hp.elim
      | outgrown=>exact hp.elim
   simp_all
  simp_all
 simp_all
end
def xK:aX→Exit
 | .normal=>.normal
 | .exit i=>.exit i
 | .goto l=>.goto l
 | .ret=>.ret
def fy (w:World) (O:Nat→Nat) (lo:Nat):List Deferred→Prop
 | []=>True
 | d::ds=>(∃ r,d.target=.collected r∧lo≤r∧w.heap[r]?=some (.deferred (some []))∧O r=0∧∀ d'∈ds,∀ r',d'.target=.collected r'→r'<r)∧fy w O lo ds
def wP (w:World) (ro:Option Nat):Prop:=∀ l,ro=some l→∃ rc:Go.Loop,w.heap[l]?=some (.loop rc)
def aU (P:Program) (g:Gh) (w:World) (t:Array Value) (O:Nat→Nat) (ds:List Deferred) (ro:Option Nat) (o:aX) (st':St) (e:Exit) (a':Act) (w':World):Prop :=
 e=xK o∧∃ g' O' ms,dB P g w t O st' a'.tmps w' g' O'∧a'.defers=ms++ds∧fy w' O' w.heap.size ms∧(ro.isSome=true→ms=[])
section
variable {P:Program}{g:Gh}{w:World}{t:Array Value}{O:Nat→Nat}{st st':St}{a:AV}{o:Oper}{r:bC}
theorem wP.ext {ro:Option Nat}(h:wP w ro) {g g':Gh}{w':World}{T:Nat→Prop}(hx:aH g w g' w' T):wP w' ro:=fun l hl=>let ⟨rc,hrc⟩:=h l hl;hx.lp l rc hrc
theorem fy.after {lo:Nat}{g1 g2:Gh}{w1 w2:World}{O1 O2:Nat→Nat}(hx:aH g1 w1 g2 w2 fun b=>O1 b≠0) (ho:∀ b,b<w1.heap.size→O2 b≤O1 b) :
  ∀ {ms:List Deferred},fy w1 O1 lo ms→fy w2 O2 lo ms
 | [],_=>trivial
 | d::ds,⟨⟨r,h1,h2,h3,h4,h5⟩,h6⟩=>by
  exact⟨⟨r,h1,h2,by grind [aH.blk],by grind,h5⟩,fy.after hx ho h6⟩
theorem fy.lt {lo:Nat}:∀ {ms:List Deferred},fy w O lo ms→∀ d∈ms,∀ r,d.target=.collected r→r<w.heap.size
 | [],_,d,hd,_,_=>by simp at hd
 | m::ms,⟨⟨r,h1,h2,h3,h4,h5⟩,h6⟩,d,hd,r',hr=>by
  grind
theorem fy.append {lo1 lo2:Nat}(hlo:lo1≤lo2) {ms1:List Deferred}(h1:fy w O lo1 ms1) (hlt:∀ d∈ms1,∀ r,d.target=.collected r→r<lo2) :
  ∀ {ms2:List Deferred},fy w O lo2 ms2→fy w O lo1 (ms2++ms1)
 | [],_=>h1
 | d::ds,⟨⟨r,k1,k2,k3,k4,k5⟩,k6⟩=>by
  refine⟨⟨r,k1,Nat.le_trans hlo k2,k3,k4,fun d' hd' r' hr'=>?_⟩,fy.append hlo h1 hlt k6⟩;rcases List.mem_append.1 hd' with h | h<;>grind
theorem aU.comp {ds ms1:List Deferred}{ro:Option Nat}{st1 st2:St}{t1:Array Value}{w1:World}{g1:Gh}{O1:Nat→Nat}(G:dB P g w t O st1 t1 w1 g1 O1) (hm:fy w1 O1 w.heap.size ms1)
  (hro:ro.isSome=true→ms1=[]) {out:aX}{e:Exit}{a2:Act}{w2:World}(h:aU P g1 w1 t1 O1 (ms1++ds) ro out st2 e a2 w2):aU P g w t O ds ro out st2 e a2 w2:=by
 obtain⟨he,g2,O2,ms2,G2,hd,hm2,hr2⟩:=h;refine⟨he,g2,O2,ms2++ms1,G.trans G2,by simp_all,?_,fun h=>by simp_all⟩;exact fy.append G.ext.size (hm.after G2.ext G2.old) (fun d hd r hr=>hm.lt d hd r hr) hm2
def et (P:Program) (r:bC):Prop :=
 ∀ {v:VC}{st:St}{o:aX}{st':St},r.code v st=some (o,st')→∀ {c:Code}{n:Nat},Mt P n v c→∀ {g:Gh}{w:World}{t:Array Value}{O:Nat→Nat},t.size=n→S P g w st t O→
  ∀ (ro:Option Nat) (ds:List Deferred),wP w ro→c.wpIn (FR ro) 0 P (aU P g w t O ds ro o st') ⟨t,ds⟩ w
theorem aH.loopBlk {b:Nat}{rc rc':Go.Loop}(hb:w.heap[b]?=some (.loop rc)):aH g w g (Vm.setBlk w b (.loop rc')) fun x=>x=b where
 obj _ _ h:=⟨h,rfl,rfl,rfl⟩
 pm b' o h:=⟨h,by
  grind [World.cell?,b9,dP]⟩
 blk b' _ h:=⟨dP h,fun _ h=>h⟩
 size:=by simp
 lp b' r h:=by
  grind [b9,dP]
 same:=⟨rfl,rfl,qo hb (by grind [dx]) (by grind [dx])⟩
theorem S.storeG {st:St}(s:S P g w st t O) {id:Nat}{ob:Obj}(hg:get st.hs.heap id=some ob) :
  ∃ O1 Oz:Nat→Nat,fE P g w id ob O1∧(∀ b,O1 b+Oz b≤O b)∧∀ (w':World) (b:Nat) (ob':Obj) (O1':Nat→Nat),
   1≤O1 b→aH g w g w' (fun x=>x=b)→fE P g w' id ob' O1'→(∀ x,O1' x+Oz x≤1)→(∀ x,O1' x≠0→x<w'.heap.size)→
   S P g w' ⟨st.env,⟨put st.hs.heap id ob',st.hs.next⟩⟩ t (fun x=>O1' x+Oz x):=by
 obtain⟨Oe,Oh,re,rh,ho⟩:=s.parts;obtain⟨O1,O2,q,r2,hs⟩:=RL.take rh hg;refine⟨O1,fun b=>Oe b+O2 b,q,fun b=>by grind,fun w' b ob' O1' h1 hx q' hle hhi=>?_⟩;have hone:O b≤1:=s.le b;have hfree:Oe b=0∧O2 b=0:=by grind
 have re':=fP.ext hx re (fun y hy e=>by simp_all);have r2':ut P g w' (del st.hs.heap id) O2:=r2.imp' fun k v Q _ hQ q=>q.ext0 hx (fun y hy e=>by grind)
 obtain⟨O3,r3,h3⟩:=RL.put s.sh r2' q';refine⟨s.se,s.sh.put _ _,⟨Oe,O3,re',r3,fun x=>by grind⟩,hle,fun x hx0=>?_,s.fresh,
  fun b o hp=>Nat.lt_of_lt_of_le (s.pmlt b o hp) hx.size⟩
 by_cases h:O1' x=0
 ·refine Nat.lt_of_lt_of_le (s.hi x ?_) hx.size
  grind
 simp_all
theorem S.setLoop {st:St}(s:S P g w st t O) {id:Nat}{snap:ao}{ps:List Nat}{as bd:VC}{busy:Bool}{pend:Option aX}(hg:get st.hs.heap id=some (.loop snap ps as bd busy pend)) :
  ∃ b rc,g.obj id=some b∧w.heap[b]?=some (.loop rc)∧rc.state=(if busy then .busy else if pend.isNone then .ready else .done)∧rc.pending=pend.bind ip∧rc.params=ps.toArray∧
   Mt P rc.tmps.size as rc.assign∧Mt P rc.tmps.size bd rc.body∧be snap∧fP g w snap rc.tmps zero∧(∀ p∈ps,p<rc.tmps.size)∧
   ∀ (busy':Bool) (pend':Option aX) (rc':Go.Loop),rc'={ rc with state:=(if busy' then .busy else if pend'.isNone then .ready else .done),pending:=pend'.bind ip }→
    ∃ O',dB P g w t O ⟨st.env,⟨put st.hs.heap id (.loop snap ps as bd busy' pend'),st.hs.next⟩⟩ t (Vm.setBlk w b (.loop rc')) g O':=by
 obtain⟨O1,Oz,q,hsum,hst⟩:=s.storeG hg;obtain⟨b,rc,h1,h2,h3,h4,h5,h6,h7,h8,h9,h10,h11⟩:=q;refine⟨b,rc,h1,h2,h3,h4,h5,h6,h7,h8,h9,h10,fun busy' pend' rc' e=>?_⟩;have hx:aH g w g (Vm.setBlk w b (.loop rc')) fun x=>x=b:=aH.loopBlk h2
 have hO1:O1 b=1:=by simp_all
 refine⟨_,hst (Vm.setBlk w b (.loop rc')) b (.loop snap ps as bd busy' pend') O1 (by omega) hx ?_ (fun x=>by have:=hsum x;have:=s.le x;omega) (fun x hx0=>?_),hx.mono (fun x _ e=>by grind),fun x _=>hsum x,rfl⟩
 ·subst e;exact⟨b,_,h1,b9 (fb h2),rfl,rfl,h5,h6,h7,h8,fP.ext hx h9 (by simp),h10,h11⟩
 grind [oE,Ea]
end
section
variable {P:Program}{g:Gh}{w:World}{t:Array Value}{O:Nat→Nat}{st st':St}{a:AV}{o:Oper}{r:bC}
theorem WO:∀ {ps:List Nat}{vs:List AV}{e e':ao}{hs:HS}{t:Array Value}{O:Nat→Nat},nK e ps vs=some e'→S P g w ⟨e,hs⟩ t O→∀ {xs:List Value}{Ov:Nat→Nat},RVs g w vs xs Ov→
  (∀ p∈ps,p<t.size)→(∀ b,Ov b+O b≤1)→(∀ b,Ov b≠0→b<w.heap.size)→
  ∃ O',S P g w ⟨e',hs⟩ ((ps.zip xs).foldl (fun(t:Array Value) (q:Nat×Value)=>t.setIfInBounds q.1 q.2) t) O'∧(∀ b,O' b≤Ov b+O b)∧xs.length=ps.length∧
   ((ps.zip xs).foldl (fun(t:Array Value) (q:Nat×Value)=>t.setIfInBounds q.1 q.2) t).size=t.size
 | [],[],e,e',hs,t,O,h,s,xs,Ov,rv,hp,hle,hhi=>by
  simp only[nK,Option.some.injEq]at h;obtain⟨rfl,_⟩:=rv;exact⟨O,by simp_all,fun b=>by omega,rfl,rfl⟩
 | p::ps,v::vs,e,e',hs,t,O,h,s,xs,Ov,rv,hp,hle,hhi=>by
  simp only[nK]at h;obtain⟨x,ys,O1,O2,rfl,r1,r2,hs2⟩:=rv;obtain⟨O3,s3,l3⟩:=s.setTmp (hp p (.head _)) r1 (fun b=>by grind) (fun b hb=>hhi b (by simp_all));obtain⟨O4,s4,l4,hl,hsz⟩:=WO h s3 r2 (fun q hq=>by simp_all) (fun b=>by grind) (fun b hb=>hhi b (by simp_all));exact⟨O4,by simp_all,fun b=>by grind,by simp[hl],by simp_all⟩
 | [],_::_,_,_,_,_,_,h,_,_,_,_,_,_,_=>by simp[nK]at h
 | _::_,[],_,_,_,_,_,h,_,_,_,_,_,_,_=>by simp[nK]at h
theorem pQ {b:Nat}{rc:Go.Loop}(h:w.heap[b]?=some (.loop rc)):(Instr.getLoop b).run P w=.ok rc w:=by
 simp_all [Instr.getLoop,getObj,Sem.run]
theorem E8 {b:Nat}{rc rc':Go.Loop}(h:w.heap[b]?=some (.loop rc)):(setObj b (.loop rc')).run P w=.ok () (setBlk w b (.loop rc')):=by
 grind [setObj,Sem.run,setBlk]
theorem arh (hc:et P r) {l:Nat}{args:List AV}{hs hs':HS}{v:AV}(h:mP r l args hs=some (v,hs')) {xs:List Value}{Oa Oh:Nat→Nat}(rvs:RVs g w args xs Oa)
  (sh:S P g w ⟨[],hs⟩ #[] Oh) (hle:∀ b,Oa b+Oh b≤1) (hhi:∀ b,Oa b≠0→b<w.heap.size) (ro:Option Nat) :
  ∃ b,∃ rc:Go.Loop,∃ tm,g.obj l=some b∧(Instr.yield b xs.toArray).run P w=.ok (.round b rc.fn tm rc.assign rc.body) w∧
   RoundIn (FR ro) 0 P b rc.fn tm rc.assign rc.body w (dC P g w (fun b=>Oa b+Oh b) v hs'):=by
 unfold mP at h;split at h
 ·rename_i snap ps as bd hg;split at h
  ·simp at h
  ·rename_i e hput;split at h
   ·rename_i st1 hass;split at h
    ·rename_i snap1 ps1 as1 bd1 hg1;split at h
     ·simp at h
     ·rename_i o st2 hbd;split at h
      ·rename_i snap2 ps2 as2 bd2 hg2;obtain⟨b,rc,h1,h2,h3,h4,h5,h6,h7,h8,h9,h10,_⟩:=sh.setLoop (st:=⟨[],hs⟩) hg;have s0:S P g w ⟨snap,hs⟩ rc.tmps fun b=>zero b+Oh b:=S.join h8 h9 sh (fun b=>by grind) (fun b hb=>by simp at hb)
       obtain⟨O1,s1,l1,hlen,hsz⟩:=WO hput s0 rvs h10 (fun b=>by simp_all) hhi;refine⟨b,rc,_,h1,?_,roundIn_of_wpIn (F:=FR ro) (tmps:=(ps.zip xs).foldl (fun(t:Array Value) (q:Nat×Value)=>t.setIfInBounds q.1 q.2) rc.tmps) trivial ?_⟩
       ·simp_all [Instr.yield,pQ]
       ·refine wpIn_mono (hc hass h6 hsz s1 (some b) [] (fun l hl=>by simp_all)) fun en a1 w1 hp=>?_
        obtain⟨rfl,g1,O1',ms,G1,hd1,_,hms⟩:=hp;have hms:=hms rfl;subst hms;obtain⟨t1,d1⟩:=a1;subst hd1;obtain⟨b1,rc1,k1,k2,k3,k4,k5,k6,k7,k8,k9,k10,kset⟩:=G1.st.setLoop hg1;have hb1:b1=b:=by have:=(G1.ext.obj l b h1).1;simp_all
        subst hb1;obtain⟨O2,G2⟩:=kset true none { rc1 with state:=.busy } (by simp[k4]);refine⟨setBlk w1 b1 (.loop { rc1 with state:=.busy }),?_,?_⟩
        ·simp_all [Instr.beginRound,pQ,E8]
        ·have hsz1:t1.size=rc.tmps.size:=by rw[G1.size,hsz]
         refine wpIn_mono (hc hbd h7 hsz1 G2.st (some b1) [] (fun l hl=>by grind [b9])) fun en2 a2 w3 hp2=>?_
         obtain⟨rfl,g2,O3,ms2,G3,_,_,_⟩:=hp2;obtain⟨b2,rc2,m1,m2,m3,m4,m5,m6,m7,m8,m9,m10,mset⟩:=G3.st.setLoop hg2;have hb2:b2=b1:=by have:=(G3.ext.obj l b1 k1).1;simp_all
         subst hb2;have fin:∀ (pend:Option aX),(v,hs')=(.bool pend.isNone,⟨put st2.hs.heap l (.loop snap2 ps2 as2 bd2 false pend),st2.hs.next⟩)→pend.bind ip=ip o→(pend.bind ip).isNone=pend.isNone→
           ∃ (vv:Value) (w':World),(Instr.endRound b2 (ip o)).run P w3=.ok vv w'∧dC P g w (fun b=>Oa b+Oh b) v hs' (.returned vv) w':=by
          intro pend hv hpo hpn;obtain⟨rfl,rfl⟩:=hv;obtain⟨O4,G4⟩:=mset false pend { rc2 with state:=(if (ip o).isNone then .ready else .done),pending:=ip o } (by simp_all);refine⟨.bool (ip o).isNone,setBlk w3 b2 (.loop { rc2 with state:=(if (ip o).isNone then .ready else .done),pending:=ip o }),?_,?_⟩
          ·simp_all [Instr.endRound,pQ,E8]
          ·have G:=((G1.trans G2).trans G3).trans G4;obtain⟨Oe4,Oh4,re4,sh4,ho4⟩:=G.st.split;refine⟨g2,zero,Oh4,?_,sh4,G.ext.mono (fun b _ hb=>by grind),fun b=>by have:=G.st.le b;grind,fun b hb=>?_,fun b hb=>by simp at hb⟩
           all_goals grind [AD,dB.old]
         cases o with
         | normal =>
          simp only[Option.some.injEq]at h;exact fin none h.symm rfl rfl
         | exit i =>
          simp only[Option.some.injEq]at h;exact fin (some (.exit i)) h.symm rfl rfl
         | goto i =>
          simp only[Option.some.injEq]at h;exact fin (some (.goto i)) h.symm rfl rfl
         | ret =>
          simp only[Option.some.injEq]at h;exact fin (some .ret) h.symm rfl rfl
      simp_all
    simp_all
   simp_all
 simp_all
end
section
variable {P:Program}{g:Gh}{w:World}{t:Array Value}{O:Nat→Nat}{st st':St}{a:AV}{o:Oper}{r:bC}
theorem at3 {ro:Option Nat}{f:Rd}{args:List Rd}(hr:dW P r) (hcs:et P r) (s:S P g w st t O) (h:wG r f args st=some (a,st')) (hc:aC P (.callv f args) o.op=true) :
  OpW ro P g w t O st' a o:=by
 obtain⟨dst,op,ty,pos,aft,gd⟩:=o;simp only[aC]at hc;split at hc
 ·rename_i c;simp only[Bool.and_eq_true]at hc;obtain⟨h1,h2⟩:=hc;obtain⟨callee,as,ats⟩:=c;simp only at h1 h2;split at h1
  ·rename_i fx;unfold wG at h;split at h
   ·rename_i fv e1 hf;split at h
    ·rename_i vs e hrd;split at h
     ·rename_i v hs' hcall;obtain⟨rfl,rfl⟩:=h;obtain⟨Of,O1,rf,s1,l1⟩:=s.rd h1 hf;obtain⟨Ov,O',rvs,s',l⟩:=s1.rdAll (st:=⟨e1,st.hs⟩) h2 hrd;obtain⟨Oe,Oh,re,sh,ho⟩:=s'.split;have hle:∀ b,Ov b+(Oe b+Oh b)≤O b:=fun b=>by grind
      have hle1:∀ b,Ov b+Oh b≤1:=fun b=>by have:=hle b;have:=s.le b;omega
      have hhi:∀ b,Ov b≠0→b<w.heap.size:=fun b hb=>s.hi b (by grind)
      unfold bc at hcall;split at hcall
      ·rename_i gf first caps
       obtain⟨hfn,hk⟩:=hr hcall;obtain⟨⟨xs,ys,hev,r1,r2⟩,_⟩:=rf;have hrv:RVs g w (first++(vs++caps)) (xs.toList++(as.toList.map (ev t)++ys.toList)) (fun b=>zero b+(Ov b+zero b)):=r1.join (rvs.join r2);have hO:(fun b=>zero b+(Ov b+zero b))=Ov:=by simp_all
       rw[hO]at hrv;have hk:=hk hrv sh hle1 hhi;refine Rj (hs:=st.hs) s'.se re hle s ?_ hk
       simp_all [execOp,resolve,Deferred.ofValue,invoke,oq]
      ·obtain⟨⟨b0,hb0,hev⟩,_⟩:=rf;obtain⟨b,rc,tm,hb,hy,hround⟩:=arh hcs hcall rvs sh hle1 hhi ro;rw[hb0]at hb;simp only[Option.some.injEq]at hb;subst hb;intro ds next Q hn
       have hrun:(execOp (ev t) ⟨dst,.call ⟨.value fx,as,ats⟩,ty,pos,aft,gd⟩).run P w=.ok (.round b0 rc.fn tm rc.assign rc.body) w:=by
        simp only[execOp,resolve,Sem.run_bind,hev,Deferred.ofValue,Sem.run_pure,Result.andThen_ok,invoke];rw[←hy]
        congr 2
        grind
       rw[hrun,Oper.uponIn_round];refine⟨fun h=>by grind [Fence.wide],hround.mono fun en w' hp=>?_⟩
       cases en with
       | returned x =>
        obtain⟨g',Oa,O',k⟩:=zY (hs:=st.hs) s'.se re hle s hp
        grind
       | panicked c=>exact hp.elim
       | outgrown=>exact hp.elim
      simp_all
     simp_all
    simp_all
   simp_all
  simp_all
 simp_all
theorem aiT {t:Array Value}:∀ {e:ao}{O:Nat→Nat},fP g w e t O→fP g w (e.map fun kv=>(kv.1,share kv.2)) t zero
 | [],_,_=>fun _=>rfl
 | (k,v)::e,O,r=>by
  obtain⟨O1,O2,⟨q1,q2⟩,rr,_⟩:=r;exact⟨zero,zero,⟨q1,RV.share _ _ _ q2⟩,aiT rr,fun _=>rfl⟩
theorem atP {e:ao}(h:be e):be (e.map fun kv=>(kv.1,share kv.2)):=by
 grind [be]
theorem afN {ro:Option Nat}(hro:wP w ro) (fn:FuncId) (ps:Array Nat) (as bd:Code) :
  ∃ (w1:World) (mark:List Deferred) (rc:Go.Loop),(Instr.enterLoop fn t ps as bd ro).run P w=.ok (w1.heap.size,mark) (w1.alloc (.loop rc))∧
   rc.state=.ready∧rc.pending=none∧rc.params=ps∧rc.assign=as∧rc.body=bd∧rc.tmps=t∧
   ((∃ l,ro=some l∧w1=w∧mark=[])∨(ro=none∧w1=w.alloc (.deferred (some []))∧mark=[{ target:=.collected w.heap.size,args:=#[] }])):=by
 cases ro with
 | some l =>
  obtain⟨rc0,h0⟩:=hro l rfl;refine⟨w,[],{ state:=.ready,pending:=none,fn,tmps:=t,params:=ps,assign:=as,body:=bd,defers:=rc0.defers },?_,rfl,rfl,rfl,rfl,rfl,rfl,.inl ⟨l,rfl,rfl,rfl⟩⟩
  simp_all [Instr.enterLoop,pQ]
 | none =>
  refine⟨w.alloc (.deferred (some [])),_,{ state:=.ready,pending:=none,fn,tmps:=t,params:=ps,assign:=as,body:=bd,defers:=w.heap.size },?_,rfl,rfl,rfl,rfl,rfl,rfl,.inr ⟨rfl,rfl,rfl⟩⟩;simp[Instr.enterLoop]
end
section
variable {P:Program}{g:Gh}{w:World}{t:Array Value}{O:Nat→Nat}{st st':St}{a:AV}{o:aX}{r:bC}
theorem S.otherG {w':World}{b:Nat}(s:S P g w st t O) (hx:aH g w g w' fun x=>x=b) (hO:O b=0):S P g w' st t O:=by
 obtain⟨Oe,Oh,re,rh,ho⟩:=s.parts;have re':=fP.ext hx re (fun y hy e=>by simp_all);have rh':ut P g w' st.hs.heap Oh:=rh.imp' fun k v Q _ hQ q=>q.ext0 hx (fun y hy e=>by grind)
 exact⟨s.se,s.sh,⟨Oe,Oh,re',rh',ho⟩,s.le,fun b hb=>Nat.lt_of_lt_of_le (s.hi b hb) hx.size,s.fresh,fun b o h=>Nat.lt_of_lt_of_le (s.pmlt b o h) hx.size⟩
theorem S.endLoop {e:ao}{hs:HS}(s:S P g w ⟨e,hs⟩ t O) {id:Nat}{snap:ao}{ps:List Nat}{as bd:VC}{pend:Option aX}(hg:get hs.heap id=some (.loop snap ps as bd false pend)) {b:Nat}(hob:g.obj id=some b) :
  ∃ w' O',(Instr.endLoop b).run P w=.ok (pend.bind ip) w'∧S P g w' ⟨e,⟨del hs.heap id,hs.next⟩⟩ t O'∧aH g w g w' (fun x=>x=b)∧∀ x,O' x≤O x:=by
 obtain⟨Oe,Oh,re,rh,ho⟩:=s.parts;obtain⟨O1,O2,q,r2,hs2⟩:=RL.take rh hg;obtain⟨b',rc,h1,h2,h3,h4,h5,h6,h7,h8,h9,h10,h11⟩:=q;rw[hob]at h1;simp only[Option.some.injEq]at h1;subst h1;have hle2:∀ x,Oe x+O2 x≤O x:=fun x=>by grind
 have s2:S P g w ⟨e,⟨del hs.heap id,hs.next⟩⟩ t (fun x=>Oe x+O2 x) :=
  ⟨s.se,s.sh.del id,⟨Oe,O2,re,r2,fun _=>rfl⟩,fun x=>Nat.le_trans (hle2 x) (s.le x),fun x hx=>s.hi x (by grind),s.fresh,s.pmlt⟩
 have hx:aH g w g (setBlk w b (.loop { rc with state:=.exhausted })) fun x=>x=b:=aH.loopBlk h2
 refine⟨setBlk w b (.loop { rc with state:=.exhausted }),_,?_,s2.otherG hx ?_,hx,hle2⟩
 ·have hb:(rc.state == LoopState.busy)=false:=by
   grind
  simp_all [Instr.endLoop,pQ,E8]
 ·have:=h11 b;rw[rC]at this;have:=hs2 b;have:=ho b;have:=s.le b;omega
theorem alk (hr:dW P r) {f:Rd}{x:Operand}{ps:List Nat}{as bd:VC}{c d:Code}(h:vK r f ps as bd st=some (o,st')) (hf:aZ f x=true)
  (hps:∀ p∈ps,p<t.size) (ha:Mt P t.size as c) (hb:Mt P t.size bd d) (s:S P g w st t O) (ro:Option Nat) (ds:List Deferred) (hro:wP w ro) :
  (Code.rangeFunc x ps.toArray c d).wpIn (FR ro) 0 P (aU P g w t O ds ro o st') ⟨t,ds⟩ w:=by
 unfold vK at h;split at h
 ·rename_i gf first caps e hrd
  split at h
  ·rename_i v hs hcall;split at h
   ·rename_i snap2 ps2 as2 bd2 pend hget;obtain⟨Of,O1,rf,s1,l1⟩:=s.rd hf hrd;simp only[RV]at rf;obtain⟨⟨xs,ys,hev,r1,r2⟩,_⟩:=rf;have l1':∀ b,O1 b≤O b:=fun b=>by simp_all
    refine wpIn_rangeFunc fun fn hF=>?_
    obtain⟨w1,mark,rc,hen,e1,e2,e3,e4,e5,e6,hmark⟩:=afN (P:=P) (t:=t) hro fn ps.toArray c d;have hx1:aH g w g w1 fun _=>False:=by
     rcases hmark with ⟨_,_,rfl,_⟩ | ⟨_,rfl,_⟩
     ·exact .refl _ _ _
     ·exact aH.alloc s.pmlt _ _
    have sw1:S P g w1 ⟨e,st.hs⟩ t O1:=s1.extF hx1 rfl fun b o h=>Nat.lt_of_lt_of_le (s.pmlt b o h) hx1.size
    have hfresh:=sw1.fresh st.hs.next (Nat.le_refl _)
    have hx0:aH g w1 (g.add st.hs.next w1.heap.size 0 0 0) (w1.alloc (.loop rc)) fun _=>False:=(aH.alloc sw1.pmlt _ _).add hfresh _ _ _ _
    obtain⟨Oe1,Oh1,re1,rh1,ho1⟩:=sw1.parts;have hobj:(g.add st.hs.next w1.heap.size 0 0 0).obj st.hs.next=some w1.heap.size:=by simp[Gh.add]
    have hO1out:O1 w1.heap.size=0:=sw1.out (Nat.le_refl _);have hnew:=sw1.new (blk:=.loop rc) (o:=.loop (e.map fun kv=>(kv.1,share kv.2)) ps as bd false none) (base:=0) (esz:=0) (bsz:=0) (O1:=one w1.heap.size) (by
     simp only[fE];refine⟨w1.heap.size,rc,hobj,fo _ _,e1,e2,e3,by simp_all,by simp_all,atP sw1.se,?_,by simp_all,fun _=>rfl⟩;rw[e6];exact fP.ext hx0 (aiT re1) (by simp)) (fun b=>by
      by_cases hb:b=w1.heap.size
      ·simp_all
      ·have:=sw1.le b;grind [one]) (fun b hb=>by grind [oE])
    obtain⟨s2,hx2⟩:=hnew;obtain⟨Oe,Oh,re,sh,ho⟩:=s2.split;obtain⟨hfn,hk⟩:=hr hcall;have hxa:=hx1.trans hx0 fun _ _ h=>h
    have r1':=RVs.ext hxa _ _ _ r1 (by simp);have r2':=RVs.ext hxa _ _ _ r2 (by simp);have ry:RVs (g.add st.hs.next w1.heap.size 0 0 0) (w1.alloc (.loop rc)) [.yield st.hs.next] [.func (.yield w1.heap.size) #[] #[]] zero:=by
     simp only[RVs,RV];exact⟨_,[],zero,zero,rfl,⟨⟨w1.heap.size,hobj,rfl⟩,fun _=>rfl⟩,⟨rfl,fun _=>rfl⟩,fun _=>rfl⟩
    have hrv:RVs (g.add st.hs.next w1.heap.size 0 0 0) (w1.alloc (.loop rc)) (first++([.yield st.hs.next]++caps)) (xs.toList++([.func (.yield w1.heap.size) #[] #[]]++ys.toList)) zero:=by
     have:=r1'.join (ry.join r2');omega
    have hle:∀ b,zero b+Oh b≤1:=fun b=>by have:=s2.le b;grind
    have hk:=hk hrv sh hle (fun b hb=>by simp at hb);generalize hargs:(xs.toList++([Value.func (.yield w1.heap.size) #[] #[]]++ys.toList)).toArray=args at hk;refine⟨w1.heap.size,mark,w1.alloc (.loop rc),{ target:=.fn (.func gf) ys,args:=xs++#[.func (.yield w1.heap.size) #[] #[]] },w1.alloc (.loop rc),gf,
     args,w1.alloc (.loop rc),hen,?_,fun _ _=>trivial,?_,fun h=>by grind [Fence.wide],HU (hk.mono fun en w3 hp=>?_)⟩
    ·have hevx:(⟨t,ds⟩:Act).eval x=.func (.func gf) xs ys:=by simp_all [AG]
     have hconst:∀ u:Value,(⟨t,ds⟩:Act).eval (.const u)=u:=fun _=>rfl
     simp_all [resolve,Deferred.ofValue]
    ·simp only[invoke];rw[oq hfn,←hargs]
     congr 2
     grind
    ·cases en with
     | panicked _=>exact hp.elim
     | outgrown=>exact hp.elim
     | returned y =>
      obtain⟨g2,Oa,O3,k⟩:=zY (hs:=hs) (Ov:=zero) s2.se re (fun b=>by simp_all) s2 hp;have hob2:g2.obj st.hs.next=some w1.heap.size:=(k.ext.obj _ _ hobj).1
      obtain⟨w4,O4,hend,s4,hx4,l4⟩:=k.st.endLoop hget hob2;have hlo:w.heap.size≤w1.heap.size:=hx1.size;have G:dB P g w t O ⟨e,⟨del hs.heap st.hs.next,hs.next⟩⟩ t w4 g2 O4:=by
       refine⟨s4,(((hxa.mono (T:=fun b=>O b≠0) fun _ _ h=>h.elim).trans k.ext fun b hb hq=>?_).trans hx4 fun b hb hq=>?_),fun b hb=>?_,rfl⟩
       ·grind [one]
       ·omega
       ·have hb2:b<(w1.alloc (.loop rc)).heap.size:=Nat.lt_of_lt_of_le hb hxa.size
        grind [one,tw.old]
      have hM:fy w4 O4 w.heap.size mark∧(ro.isSome=true→mark=[]):=by
       rcases hmark with ⟨_,hl,_,rfl⟩ | ⟨hn,rfl,rfl⟩
       ·exact⟨trivial,fun _=>rfl⟩
       ·refine⟨⟨⟨w.heap.size,rfl,Nat.le_refl _,?_,?_,fun d hd=>by simp at hd⟩,trivial⟩,fun h=>by simp_all⟩
        ·have hne:w.heap.size≠(w.alloc (.deferred (some []))).heap.size:=by simp
         have hlt:w.heap.size<((w.alloc (.deferred (some []))).alloc (.loop rc)).heap.size:=by simp;omega
         have hO1z:O1 w.heap.size=0:=s1.out (Nat.le_refl _);have hoz:one (w.alloc (.deferred (some []))).heap.size w.heap.size=0:=by simp[one]
         rw[(hx4.blk _ (Nat.lt_of_lt_of_le hlt k.ext.size) (fun h=>hne h)).1,(k.ext.blk _ hlt (fun h=>by
          omega)).1,kQ (by simp),fo]
        ·have hlt:w.heap.size<((w.alloc (.deferred (some []))).alloc (.loop rc)).heap.size:=by simp;omega
         have hO1z:O1 w.heap.size=0:=s1.out (Nat.le_refl _);have hoz:one (w.alloc (.deferred (some []))).heap.size w.heap.size=0:=by simp[one]
         grind [tw.old]
      have post:∀ out st'',st''=⟨e,⟨del hs.heap st.hs.next,hs.next⟩⟩→aU P g w t O ds ro out st'' (xK out) { tmps:=t,defers:=mark++ds } w4:=by
       rintro out _ rfl
       exact⟨rfl,g2,O4,mark,G,rfl,hM.1,hM.2⟩
      refine⟨pend.bind ip,w4,hend,?_⟩
      cases pend with
      | none =>
       obtain⟨rfl,rfl⟩:=h;exact post .normal _ rfl
      | some out =>
       simp only[Option.some.injEq,Prod.mk.injEq]at h;obtain⟨rfl,rfl⟩:=h
       cases out with
       | normal=>exact post .normal _ rfl
       | exit i=>exact wpIn_exit (post (.exit i) _ rfl)
       | goto i=>exact wpIn_goto (post (.goto i) _ rfl)
       | ret=>exact wpIn_ret (post .ret _ rfl)
   simp_all
  simp_all
 simp_all
end
section
variable {P:Program}{g:Gh}{w:World}{t:Array Value}{O:Nat→Nat}{st st':St}{a:AV}{o:Oper}{r:bC}
theorem ay8 {ro:Option Nat}(hr:dW P r) (hcs:et P r) {v:jR}(s:S P g w st t O) (h:br v r st=some (a,st')) (hc:aC P v o.op=true):OpW ro P g w t O st' a o:=by
 cases v with
 | mov x=>exact(axW s h hc).opW
 | pick c x y=>exact(awJ s h hc).opW
 | alloc zs=>exact(atn s h hc).opW
 | box x=>exact(ayg s h hc).opW
 | build zs ps=>exact(atM s h hc).opW
 | mks m ps=>exact(ayR s h hc).opW
 | mksv m ps=>exact(awd s h hc).opW
 | ld n k p=>exact(aBc s h hc).opW
 | st n p x=>exact(aBk s h hc).opW
 | nilck x=>exact(ar5 s h hc).opW
 | bin op x y=>exact(azi s h hc).opW
 | binb neg x y=>exact(av0 s h hc).opW
 | bina neg ks x y=>exact(aw3 s h hc).opW
 | un op x=>exact(aAO s h hc).opW
 | conv k x=>exact(awt s h hc).opW
 | toStr x=>exact(atL s h hc).opW
 | mkfn f a c=>exact(aw6 s h hc).opW
 | mkslice z l c=>exact(YF s h hc).opW
 | slice m x lo hi mx=>exact(asQ s h hc).opW
 | slarr n x lo hi mx=>exact(asY s h hc).opW
 | fa off p=>exact(aAj s h hc).opW
 | fld off n x=>exact(azt s h hc).opW
 | ia n x i=>exact(aBn s h hc).opW
 | iarr l n p i=>exact(av7 s h hc).opW
 | ix l n ag x i=>exact(aAA s h hc).opW
 | ixs x i=>exact(axD s h hc).opW
 | idxb x c=>exact(au5 s h hc).opW
 | ext j mv i=>exact(aze s h hc).opW
 | len x=>exact(aye s h hc).opW
 | cap x=>exact(ayW s h hc).opW
 | app m x y=>exact(ayG s h hc).opW
 | appz z x n=>exact(axi s h hc).opW
 | cpy m x y=>exact(axK s h hc).opW
 | clr z x=>exact(azc s h hc).opW
 | minmax b xs=>exact(art s h hc).opW
 | call f args=>exact avI hr s h hc
 | calli f args=>exact ar2 hr s h hc
 | callv f args=>exact at3 hr hcs s h hc
 | bad=>grind [br,aoW]
 | kill is=>simp[aC]at hc
 | free i=>simp[aC]at hc
 | wk i m=>simp[aC]at hc
 | frz i=>simp[aC]at hc
 | frzC i offs=>simp[aC]at hc
theorem JH {v:jR}{op:Op}(hb:v≠.bad) (h:aC P v op=true):∀ c,op≠.defer c:=by
 rintro c rfl
 cases v<;>first | exact hb rfl | (simp[aC]at h)
theorem N8 {i:VI}{st2:St}(h:de r i st=some st2):∃ v st1,br i.op r st=some (v,st1)∧st2=ba i.dst (firm (bK i.th v st1.hs).1) ⟨st1.env,(bK i.th v st1.hs).2⟩:=by
 unfold de at h;split at h
 ·rename_i v st1 hv;split at h
  ·rename_i hth;simp only[Option.some.injEq]at h;exact⟨v,st1,hv,by rw[hth];exact h.symm⟩
  grind
 simp_all
theorem ai7 (t:Array Value) (dst:Option Nat) (x:Value):∀ k,dst≠some k→(om t dst x)[k]?=t[k]?:=by
 intro k hk
 cases dst<;>grind [Act.put]
theorem am4 {ro:Option Nat}(hr:dW P r) (hcs:et P r) {n:Nat}{ops:Array Oper}{i:VI}{st2:St}(hn:t.size=n) (s:S P g w st t O) (h:bh r i st=some st2) (hc:tH P n ops i o=true)
  (ds:List Deferred) (next:Act→World→Prop) (Q:Exit→Act→World→Prop) (hk:∀ t' w' g' O',dB P g w t O st2 t' w' g' O'→(∀ k,i.dst≠some k→t'[k]?=t[k]?)→next ⟨t',ds⟩ w') :
  if Region.wanted o (yielded ops t) then o.wpIn (FR ro) 0 P ⟨t,ds⟩ w next Q else (∀ f,o.about P w (⟨t,ds⟩:Act).eval=some f→(FR ro).fn f)∧next (Act.put ⟨t,ds⟩ o.dst undef) w:=by
 simp only[tH,Bool.and_eq_true]at hc;obtain⟨⟨hdst,hgd⟩,hop⟩:=hc;have hd:i.dst=o.dst∧∀ d,i.dst=some d→d<t.size:=by
  grind [Nat.beq_eq,Nat.blt_eq]
 have go:de r i st=some st2→o.wpIn (FR ro) 0 P ⟨t,ds⟩ w next Q:=by
  intro hg;obtain⟨v,st1,hv,rfl⟩:=N8 hg;have hb:i.op≠.bad:=by intro e;simp_all [br,aoW]
  refine⟨fun _ _=>trivial,?_⟩;rw[IQ _ _ (JH hb hop)];refine ay8 (ro:=ro) hr hcs s hv hop ds next Q fun x w' g' Oa O' k=>?_
  obtain⟨g2,O2,G⟩:=aix k hd.2 i.th
  grind [Y5,ai7]
 have no:st2=ba i.dst (.tup []) st→(∀ f,o.about P w (⟨t,ds⟩:Act).eval=some f→(FR ro).fn f)∧next (Act.put ⟨t,ds⟩ o.dst undef) w:=by
  rintro rfl
  refine⟨fun _ _=>trivial,?_⟩;have ha:tw P g w t O st (.tup []) undef w g zero O:=⟨by grind [RV,RVs,undef],s,.refl _ _ _,fun b=>by have:=s.le b;simp_all,fun b _=>by simp,fun b hb=>by simp at hb⟩
  obtain⟨g2,O2,G⟩:=aix ha hd.2 [];rw[Y5,←hd.1];exact hk _ _ _ _ G (ai7 _ _ _)
 grind [aqy,bh]
theorem aqa {ro:Option Nat}(hr:dW P r) (hcs:et P r) {n:Nat}{ops:Array Oper}{i:VI}{st2:St}(hn:t.size=n) (s:S P g w st t O) (h:bh r i st=some st2) (hc:tH P n ops i o=true)
  (ds:List Deferred) (next:Act→World→Prop) (Q:Exit→Act→World→Prop) (hk:∀ t' w' g' O',dB P g w t O st2 t' w' g' O'→next ⟨t',ds⟩ w') :
  if Region.wanted o (yielded ops t) then o.wpIn (FR ro) 0 P ⟨t,ds⟩ w next Q else (∀ f,o.about P w (⟨t,ds⟩:Act).eval=some f→(FR ro).fn f)∧next (Act.put ⟨t,ds⟩ o.dst undef) w:=am4 hr hcs hn s h hc ds next Q fun t' w' g' O' G _=>hk t' w' g' O' G
theorem ae6 {i:VI}{st2:St}(s:S P g w st t O) (hg:GF i=true) (h:bh r i st=some st2):∃ g' O',dB P g w t O st2 t w g' O':=by
 simp only[GF,Bool.and_eq_true]at hg;obtain⟨⟨⟨h1,h2⟩,h3⟩,h4⟩:=hg;have hd:i.dst=none:=Option.isNone_iff_eq_none.1 h1;have hgd:i.guard=none:=Option.isNone_iff_eq_none.1 h2;have hth:i.th=[]:=by simp_all
 unfold bh at h;rw[hgd]at h;obtain⟨v,st1,hv,rfl⟩:=N8 h;rw[hd,hth];have fin:Gd P g w t O st1→∃ g' O',dB P g w t O (ba none (firm (bK [] v st1.hs).1) ⟨st1.env,(bK [] v st1.hs).2⟩) t w g' O':=by
  rintro ⟨g',O',s',hx,hle⟩
  exact⟨g',O',s',hx,fun b _=>hle b,rfl⟩
 split at h4
 ·rename_i is e;rw[e]at hv;exact fin (awi s hv)
 ·rename_i j e;rw[e]at hv;exact fin (awl s hv)
 ·rename_i j m e;rw[e]at hv;exact fin (aAy s hv)
 ·rename_i j e;rw[e]at hv;exact fin (ax8 s hv)
 ·rename_i j offs e;rw[e]at hv;exact fin (awZ s hv)
 simp_all
theorem aaW {ro:Option Nat}(hr:dW P r) (hcs:et P r) {n:Nat}{ops:Array Oper}{Q:Exit→Act→World→Prop}(ds:List Deferred) :
  ∀ {l:List VI}{os:List Oper}{k:Nat},ops.toList.drop k=os→BO P n ops l os=true→∀ {g:Gh}{w:World}{t:Array Value}{O:Nat→Nat}{st st':St},t.size=n→S P g w st t O→gh r l st=some st'→
   (∀ w' t' g' O',dB P g w t O st' t' w' g' O'→Q .normal ⟨t',ds⟩ w')→wpOpsIn (FR ro) 0 P ops Q (List.range' k os.length) ⟨t,ds⟩ w
 | [],os,k,hos,hc,g,w,t,O,st,st',hn,s,h,hq=>by
  cases os with
  | nil =>
   simp only[gh,Option.some.injEq]at h;subst h;exact hq _ _ _ _ (dB.refl s)
  | cons o os=>simp[BO]at hc
 | v::l,os,k,hos,hc,g,w,t,O,st,st',hn,s,h,hq=>by
  simp only[gh]at h;split at h
  ·rename_i st1 hv;simp only[BO]at hc;split at hc
   ·rename_i hgh;obtain⟨g1,O1,G⟩:=ae6 s hgh hv;exact aaW hr hcs ds hos hc (by omega) G.st h fun w' t' g' O' G2=>hq _ _ _ _ (G.trans G2)
   ·cases os with
    | nil=>simp at hc
    | cons o os =>
     simp only[Bool.and_eq_true]at hc;obtain⟨hvi,hrest⟩:=hc;have hk:ops[k]?=some o:=by
      have:=congrArg (fun l=>l[0]?) hos
      grind
     have hos':ops.toList.drop (k+1)=os:=by
      have:=congrArg (fun l=>l.drop 1) hos
      grind [List.drop_drop]
     have key:=aqa (ro:=ro) hr hcs hn s hv hvi ds (wpOpsIn (FR ro) 0 P ops Q (List.range' (k+1) os.length)) Q fun t' w' g' O' G =>
      aaW hr hcs ds hos' hrest (by rw[G.size,hn]) G.st h fun w2 t2 g2 O2 G2=>hq _ _ _ _ (G.trans G2)
     grind [List.range'_succ,wpOpsIn]
  simp_all
end
def fw:Obj→Obj→Prop
 | .cells a,.cells b=>shareAll a=shareAll b
 | o,o'=>o=o'
def bx (h h':ac):Prop:=∀ id o,get h id=some o→∃ o',get h' id=some o'∧fw o o'
theorem fw.refl (o:Obj):fw o o:=by cases o<;>simp[fw]
theorem bx.refl (h:ac):bx h h:=fun _ o ho=>⟨o,ho,.refl o⟩
theorem bx.arr {h h':ac}(H:bx h h') {id m:Nat}{xs:List (List D)}(g:get h id=some (.arr m xs)):get h' id=some (.arr m xs):=by
 obtain⟨o,h1,h2⟩:=H id _ g
 grind [fw]
theorem bx.cells {h h':ac}(H:bx h h') {id:Nat}{cs:List AV}(g:get h id=some (.cells cs)):∃ cs',get h' id=some (.cells cs')∧shareAll cs=shareAll cs':=by
 obtain⟨o,h1,h2⟩:=H id _ g
 cases o<;>simp[fw]at h2
 simp_all
def cw (f:St→Option (AV×St)) (R M:List Nat):Prop :=
 ∀ e hs v st1,f ⟨e,hs⟩=some (v,st1)→st1.hs=hs∧(be e→be st1.env)∧(∀ k,k∉M→get st1.env k=get e k)∧
  ∀ e' hs',(∀ k∈R,get e' k=get e k)→bx hs.heap hs'.heap→∃ e1',f ⟨e',hs'⟩=some (v,⟨e1',hs'⟩)∧(∀ k,k∉M→get e1' k=get e' k)∧∀ k∈M,get e1' k=get st1.env k
theorem AA {α:Type}(l:List (Nat×α)) (i k:Nat):get (del l i) k=if k=i then none else get l k:=by
 induction l<;>grind [aej,sk,iN,dD]
theorem cO {α:Type}(l:List (Nat×α)) (i k:Nat) (x:α):get (put l i x) k=if k=i then some x else get l k:=by
 induction l<;>grind [adq,dD,md]
theorem mD {α:Type}:∀ {a b:List (Nat×α)},be a→be b→(∀ k,get a k=get b k)→a=b
 | [],[],_,_,_=>rfl
 | [],(k,v)::b,_,_,h=>by have:=h k;grind [dD,sk]
 | (k,v)::a,[],_,_,h=>by have:=h k;grind [dD,sk]
 | (k,v)::a,(j,u)::b,ha,hb,h=>by
  have ha':=List.pairwise_cons.1 ha;have hb':=List.pairwise_cons.1 hb;have none_of:∀ {l:List (Nat×α)}{i:Nat},(∀ p∈l,zV i p.1)→get l i=none:=by
   intro l i hl
   induction l with
   | nil=>rfl
   | cons p l ih =>
    grind [dD]
  have hkj:k=j:=by
   rcases awY k j with hlt | e | hlt
   ·have h1:=h k
    grind [dD]
   ·exact e
   ·have h1:=h j
    grind [dD]
  subst hkj;have hvu:v=u:=by have h1:=h k;grind [dD]
  subst hvu;rw[mD ha'.2 hb'.2 fun i=>?_];by_cases e:k=i
  ·grind
  ·have h1:=h i
   grind [dD]
theorem Kr {e e1:ao}{x:Rd}{v:AV}(h:rd e x=some (v,e1)):(be e→be e1)∧(∀ k,get e1 k=if k∈f9 x then none else get e k)∧
  ∀ e',(∀ k∈jt x,get e' k=get e k)→∃ e1',rd e' x=some (v,e1')∧∀ k,get e1' k=if k∈f9 x then none else get e' k:=by
 cases x<;>grind [rd,f9,jt,be.del,AA]
theorem DZ:∀ {rs:List Rd}{e e1:ao}{vs:List AV},rdAll e rs=some (vs,e1)→(be e→be e1)∧(∀ k,get e1 k=if k∈aB rs then none else get e k)∧
  ∀ e',(∀ k∈aP rs,get e' k=get e k)→∃ e1',rdAll e' rs=some (vs,e1')∧∀ k,get e1' k=if k∈aB rs then none else get e' k
 | [],e,e1,vs,h=>by
  grind [rdAll,aB]
 | x::rs,e,e1,vs,h=>by
  simp only[rdAll]at h;split at h
  ·simp at h
  ·rename_i v e2 h1;split at h
   ·simp at h
   ·rename_i us e3 h2;obtain⟨rfl,rfl⟩:=h;obtain⟨s1,g1,l1⟩:=Kr h1;obtain⟨s2,g2,l2⟩:=DZ h2;have hm:∀ k,(k∈aB (x::rs))↔(k∈f9 x∨k∈aB rs):=fun k=>by simp[aB]
    refine⟨fun hs=>s2 (s1 hs),fun k=>?_,fun e' he=>?_⟩
    ·grind
    ·obtain⟨e2',h1',g1'⟩:=l1 e' fun k hk=>he k (by grind [aP])
     obtain⟨e3',h2',g2'⟩:=l2 e2' fun k hk=>by
      grind [aP]
     refine⟨e3',by grind [rdAll],fun k=>?_⟩
     grind
theorem cw.rds {f:St→Option (AV×St)}{rs:List Rd}(F:List AV→HS→Option AV)
  (mono:∀ vs hs hs' v,bx hs.heap hs'.heap→F vs hs=some v→F vs hs'=some v)
  (h:∀ e hs,f ⟨e,hs⟩=match rdAll e rs with | none=>none | some (vs,e1)=>match F vs hs with | none=>none | some v=>some (v,⟨e1,hs⟩)):cw f (aP rs) (aB rs):=by
 intro e hs v st1 hf;rw[h]at hf;split at hf
 ·simp at hf
 ·rename_i vs e1 hr;split at hf
  ·simp at hf
  ·obtain⟨rfl,rfl⟩:=hf;obtain⟨s1,g1,l1⟩:=DZ hr;refine⟨rfl,s1,fun k hk=>by simp_all,fun e' hs' he hle=>?_⟩;obtain⟨e1',hr',g1'⟩:=l1 e' he;exact⟨e1',by grind,fun k hk=>by simp_all,fun k hk=>by simp_all⟩
theorem fJ:∀ (cs:List AV),shareAll cs=cs.map share
 | []=>rfl
 | c::r=>by simp only[jV,fJ r,List.map_cons]
theorem aqx (v:AV):xx (share v)=xx v:=by
 cases v<;>try rfl
 rename_i p m xs
 cases p<;>rfl
theorem X6:∀ (cs:List AV),ie (shareAll cs)=ie cs
 | []=>rfl
 | c::r=>by simp only[jV,ie,aqx,X6 r]
theorem aqE {a b:List AV}(h:shareAll a=shareAll b) {i:Nat}{v:AV}(g:a[i]?=some v):∃ u,b[i]?=some u∧share u=share v:=by
 rw[fJ,fJ]at h;have:=congrArg (fun l=>l[i]?) h
 grind
theorem arU {a b:List AV}(h:shareAll a=shareAll b):a.length=b.length:=by
 rw[fJ,fJ]at h;simpa using congrArg List.length h
theorem aqs {a b:List AV}(h:shareAll a=shareAll b) (i n:Nat):shareAll (sub a i n)=shareAll (sub b i n):=by
 grind [fJ,sub,List.map_take,List.map_drop]
theorem bx.load {h h':ac}(H:bx h h') {n:Option Nat}{p u:AV}{k:ac}(hl:loadAt h n 0 p=some (u,k)):∃ k',loadAt h' n 0 p=some (u,k'):=by
 cases p<;>simp only[loadAt,reduceCtorEq]at hl⊢
 ·split at hl<;>grind [cells,aqE,arU,aqs]
 all_goals grind [arr]
theorem bx.objElems {h h':ac}(H:bx h h') {id:Nat}{xs:List (List D)}(g:objElems h id=some xs):objElems h' id=some xs:=by
 grind [Vm.objElems,arr,cells,X6]
theorem bx.elems {h h':ac}(H:bx h h') {v:AV}{xs:List (List D)}(g:elems h v=some xs):elems h' v=some xs:=by
 unfold Go.Vm.elems at g⊢
 grind [objElems]
theorem bx.viewOne {h h':ac}(H:bx h h') {v u:AV}(g:viewOne h v=some u):viewOne h' v=some u:=by
 unfold Go.Vm.viewOne at g⊢
 grind [elems]
theorem bx.viewAll {h h':ac}(H:bx h h'):∀ {vs us:List AV},viewAll h vs=some us→viewAll h' vs=some us
 | [],_,g=>g
 | v::r,us,g=>by
  simp only[Go.Vm.viewAll]at g⊢;split at g
  ·simp at g
  ·rename_i x hx;split at g
   ·simp at g
   ·rename_i xs hxs;simp only[H.viewOne hx,H.viewAll hxs];exact g
theorem bx.viewArg {h h':ac}(H:bx h h') {v u:AV}(g:viewArg h v=some u):viewArg h' v=some u:=by
 unfold Go.Vm.viewArg at g⊢
 grind [viewAll,viewOne]
theorem bx.viewArgs {h h':ac}(H:bx h h'):∀ {vs us:List AV},viewArgs h vs=some us→viewArgs h' vs=some us
 | [],_,g=>g
 | v::r,us,g=>by
  simp only[Go.Vm.viewArgs]at g⊢;split at g
  ·simp at g
  ·rename_i x hx;split at g
   ·simp at g
   ·rename_i xs hxs;simp only[H.viewArg hx,H.viewArgs hxs];exact g
theorem bx.call {r:bC}{f:FuncId}{vs:List AV}{h h':ac}(H:bx h h') {v:AV}(g:bZ r f vs h=some v):bZ r f vs h'=some v:=by
 grind [bZ,viewArgs]
theorem bx.okSl {h h':ac}(H:bx h h') {m:Nat}{v:AV}(g:okSl h m v=true):okSl h' m v=true:=by
 unfold Go.Vm.okSl at g⊢
 grind [arr,cells]
section
variable {r:bC}
theorem avg (x:Rd):cw (Nt x) (aP [x]) (aB [x]):=by
 refine cw.rds (fun vs _=>match vs with | [v]=>some v | _=>none) (fun _ _ _ _ _ h=>h) fun e hs=>?_
 grind [Nt,rdAll]
theorem apJ (zs:List AV) (ps:List (Nat×Nat×Rd)):cw (vR zs ps) (aP (jZ ps)) (aB (jZ ps)):=by
 refine cw.rds (fun vs _=>match ck zs (mf ps vs) with | some cs=>some (.agg cs) | none=>none) (fun _ _ _ _ _ h=>h) fun e hs=>?_
 grind [vR]
theorem avw (m:Nat) (ps:List Rd):cw (I8 m ps) (aP ps) (aB ps):=by
 refine cw.rds (fun vs _=>match ft m vs with | some xs=>some (.own true m xs) | none=>none) (fun _ _ _ _ _ h=>h) fun e hs=>?_
 grind [I8]
theorem aAa {h:ac}{n:Option Nat}{p v:AV}{h':ac}(hl:loadAt h n 0 p=some (v,h')):h'=h:=by
 cases p<;>simp only[loadAt,reduceCtorEq]at hl
 all_goals grind
def ldV (n:Option Nat) (vs:List AV) (hs:HS):Option AV :=
 match vs with
 | [v]=>(match loadAt hs.heap n 0 v with | some (u,_)=>some u | none=>none)
 | _=>none
theorem awn {n:Option Nat}(vs:List AV) (hs hs':HS) (v:AV) (H:bx hs.heap hs'.heap) (h:ldV n vs hs=some v):ldV n vs hs'=some v:=by
 unfold ldV at h⊢
 grind [bx.load]
theorem ax1 (n:Option Nat) (p:Rd):cw (wI n 0 p) (aP [p]) (aB [p]):=by
 refine cw.rds (ldV n) awn fun e hs=>?_
 simp only[wI,rdAll]
 cases rd e p with
 | none=>rfl
 | some q =>
  obtain⟨v,e1⟩:=q
  cases hl:loadAt hs.heap n 0 v with
  | none=>simp only[ldV,hl]
  | some q=>have:=aAa hl;simp_all [ldV]
theorem arK (x:Rd):cw (AJ x) (aP [x]) (aB [x]):=by
 refine cw.rds (fun vs _=>match vs with | [v]=>(match v with | .ptr .. | .pel .. | .pim .. | .fn .. | .yield ..=>some v | _=>none) | _=>none) (fun _ _ _ _ _ h=>h) fun e hs=>?_
 grind [AJ,rdAll]
theorem avl (op:BinOp) (x y:Rd):cw (I3 op x y) (aP [x,y]) (aB [x,y]):=by
 refine cw.rds (fun vs _=>match vs with | [a,b]=>bE op a b | _=>none) (fun _ _ _ _ _ h=>h) fun e hs=>?_
 grind [I3,Nk,rdAll]
theorem atF (neg:Bool) (x y:Rd):cw (GI neg x y) (aP [x,y]) (aB [x,y]):=by
 refine cw.rds (fun vs _=>match vs with | [a,b]=>(match a,b with | .d (.bool a),.d (.bool b)=>some (.bool (match neg with | true=>!(a == b) | false=>a == b)) | _,_=>none) | _=>none) (fun _ _ _ _ _ h=>h) fun e hs=>?_
 grind [GI,rdAll]
theorem atB (neg:Bool) (ks:List Bool) (x y:Rd):cw (Gy neg ks x y) (aP [x,y]) (aB [x,y]):=by
 refine cw.rds (fun vs _=>match vs with | [a,b]=>(match a,b with | .agg a,.agg b=>(match aA ks a b with | some t=>some (.bool (match neg with | true=>!t | false=>t)) | none=>none) | _,_=>none) | _=>none) (fun _ _ _ _ _ h=>h) fun e hs=>?_
 simp only[Gy,rdAll]
 cases rd e x<;>grind
theorem ayq (op:UnOp) (x:Rd):cw (ZU op x) (aP [x]) (aB [x]):=by
 refine cw.rds (fun vs _=>match vs with | [a]=>aaz op a | _=>none) (fun _ _ _ _ _ h=>h) fun e hs=>?_
 grind [ZU,rdAll]
theorem ass (k:IntKind) (x:Rd):cw (Bw k x) (aP [x]) (aB [x]):=by
 refine cw.rds (fun vs _=>match vs with | [.d (.int _ n)]=>some (.int k (wr k n)) | _=>none) (fun _ _ _ _ _ h=>h) fun e hs=>?_
 grind [Bw,rdAll]
theorem aqR (x:Rd):cw (GU x) (aP [x]) (aB [x]):=by
 refine cw.rds (fun vs hs=>match vs with | [v]=>(match elems hs.heap v with | some xs=>(match mN xs with | some s=>some (.d (.str s)) | none=>none) | none=>none) | _=>none) (fun vs hs hs' v H h=>?_) fun e hs=>?_
 all_goals grind [bx.elems,GU,rdAll]
theorem alM (z:List D) (x y:Rd):cw (ig z x y) (aP [x,y]) (aB [x,y]):=by
 refine cw.rds (fun vs _=>match vs with | [n,c]=>(match cD c aq with | some c=>(match cD n c with | some n=>some (.own true z.length (List.replicate n z)) | none=>none) | none=>none) | _=>none) (fun _ _ _ _ _ h=>h) fun e hs=>?_
 grind [ig,rdAll]
theorem axY (off:Nat) (p:Rd):cw (aeb off p) (aP [p]) (aB [p]):=by
 refine cw.rds (fun vs _=>match vs with | [a]=>gy off a | _=>none) (fun _ _ _ _ _ h=>h) fun e hs=>?_
 grind [aeb,rdAll]
theorem avo (off:Nat) (n:Option Nat) (x:Rd):cw (Jb off n x) (aP [x]) (aB [x]):=by
 refine cw.rds (fun vs _=>match vs with | [.agg cs]=>xP n cs off | _=>none) (fun _ _ _ _ _ h=>h) fun e hs=>?_
 grind [Jb,rdAll]
def Wz (n k:Nat) (o:Option (List (List D))):Option AV :=
 match o with
 | some xs=>match xs[k]? with
  | some x=>match Nat.beq x.length n with
   | true=>some (.pim x 0)
   | false=>none
  | none=>none
 | none=>none
def aio (n:Nat) (h:ac) (k:Nat) (v:AV):Option AV :=
 match v with
 | .sl id off len=>match Nat.ble len k with
  | true=>none
  | false=>match get h id with
   | some (.arr m _)=>match Nat.beq m n with
    | true=>some (.pel id (off+k) 0)
    | false=>none
   | some (.cells _)=>match Nat.beq n 1 with
    | true=>some (.ptr id (off+k))
    | false=>none
   | _=>none
 | v=>Wz n k (elems h v)
theorem au9 {n k:Nat}{h h':ac}(H:bx h h') {v u:AV}(g:aio n h k v=some u):aio n h' k v=some u:=by
 have other:Wz n k (elems h v)=some u→Wz n k (elems h' v)=some u:=by
  intro g
  cases hx:elems h v<;>grind [Wz,bx.elems]
 cases v<;>simp only[aio]at g⊢<;>try exact other g
 grind [bx.arr,bx.cells]
theorem axB (n:Nat) (x i:Rd):cw (ajz n x i) (aP [x,i]) (aB [x,i]):=by
 refine cw.rds (fun vs hs=>match vs with | [v,i]=>(match kK i with | some k=>aio n hs.heap k v | none=>none) | _=>none) (fun vs hs hs' v H h=>?_) fun e hs=>?_
 ·grind [au9]
 simp only[ajz,rdAll]
 cases rd e x with
 | none=>rfl
 | some q =>
  obtain⟨a,e1⟩:=q;simp only
  cases rd e1 i<;>grind [Wz,aio]
theorem ato (len n:Nat) (p i:Rd):cw (FY len n p i) (aP [p,i]) (aB [p,i]):=by
 refine cw.rds (fun vs _=>match vs with | [p,i]=>(match kK i with | some i=>(match Nat.ble len i with | true=>none | false=>gy (i*n) p) | none=>none) | _=>none) (fun _ _ _ _ _ h=>h) fun e hs=>?_
 simp only[FY,rdAll]
 grind
theorem ay7 (len n:Nat) (ag:Bool) (x i:Rd):cw (SX len n ag x i) (aP [x,i]) (aB [x,i]):=by
 refine cw.rds (fun vs _=>match vs with | [.agg cs,i]=>(match kK i with | some i=>(match Nat.ble len i with | true=>none | false=>xP (ajZ ag n) cs (i*n)) | none=>none) | _=>none) (fun _ _ _ _ _ h=>h) fun e hs=>?_
 simp only[SX,rdAll]
 cases rd e x with
 | none=>rfl
 | some q =>
  obtain⟨a,e1⟩:=q;simp only
  cases hi:rd e1 i<;>grind
theorem avM (x i:Rd):cw (Hf x i) (aP [x,i]) (aB [x,i]):=by
 refine cw.rds (fun vs _=>match vs with | [.d (.str s),i]=>(match kK i with | some i=>(match s[i]? with | some b=>some (.int .u8 (.ofNat b.toNat)) | none=>none) | none=>none) | _=>none) (fun _ _ _ _ _ h=>h) fun e hs=>?_
 grind [Hf,rdAll]
theorem awM (x:Rd):cw (NC x) (aP [x]) (aB [x]):=by
 refine cw.rds (fun vs _=>match vs with | [a]=>(match lenOf a with | some n=>some (.int .i64 (.ofNat n)) | none=>none) | _=>none) (fun _ _ _ _ _ h=>h) fun e hs=>?_
 grind [NC,rdAll]
theorem avc (x:Rd):cw (Hx x) (aP [x]) (aB [x]):=by
 refine cw.rds (fun vs _=>match vs with | [.nl]=>some (.int .i64 (.ofNat 0)) | _=>none) (fun _ _ _ _ _ h=>h) fun e hs=>?_
 grind [Hx,rdAll]
theorem apg (b:Bool) (xs:List Rd):cw (qK b xs) (aP xs) (aB xs):=by
 refine cw.rds (fun vs _=>match vs with | .d (.int k n)::vs=>xJ b (.d (.int k n)) vs | _=>none) (fun _ _ _ _ _ h=>h) fun e hs=>?_
 grind [qK]
theorem afh (e:ao):∀ (a b:List Rd),rdAll e (a++b)=match rdAll e a with
  | none=>none
  | some (x,e1)=>match rdAll e1 b with
   | none=>none
   | some (y,e2)=>some (x++y,e2)
 | [],b=>by
  grind [rdAll]
 | r::a,b=>by
  simp only[List.cons_append,rdAll]
  cases rd e r with
  | none=>rfl
  | some p =>
   obtain⟨v,e1⟩:=p;simp only[afh e1 a b]
   grind
theorem aeY:∀ {rs:List Rd}{e e1:ao}{vs:List AV},rdAll e rs=some (vs,e1)→vs.length=rs.length
 | [],e,e1,vs,h=>by grind [rdAll]
 | x::rs,e,e1,vs,h=>by
  simp only[rdAll]at h;split at h
  ·simp at h
  ·split at h
   ·simp at h
   ·rename_i h2;obtain⟨rfl,rfl⟩:=h;simp[aeY h2]
theorem asa (f:FuncId) (first caps:List Rd):cw (Cd f first caps) (aP (first++caps)) (aB (first++caps)):=by
 refine cw.rds (fun vs _=>some (.fn f (shareAll (vs.take first.length)) (shareAll (vs.drop first.length)))) (fun _ _ _ _ _ h=>h) fun e hs=>?_
 grind [Cd,afh,aeY,List.take_left]
theorem as7 (f:FuncId) (args:List Rd):cw (xH r f args) (aP args) (aB args):=by
 refine cw.rds (fun vs hs=>bZ r f vs hs.heap) (fun vs hs hs' v H h=>H.call h) fun e hs=>?_
 grind [xH]
theorem aqF {v:jR}{rs:List Rd}(h:vP v=some rs):cw (br v r) (aP rs) (aB rs):=by
 unfold vP at h;split at h<;>simp only[Option.some.injEq,reduceCtorEq]at h<;>subst h
 ·exact avg _
 ·exact apJ _ _
 ·exact avw _ _
 ·exact ax1 _ _
 ·exact arK _
 ·exact avl _ _ _
 ·exact atF _ _ _
 ·exact atB _ _ _ _
 ·exact ayq _ _
 ·exact ass _ _
 ·exact aqR _
 ·exact alM _ _ _
 ·exact axY _ _
 ·exact avo _ _ _
 ·exact axB _ _ _
 ·exact ato _ _ _ _
 ·exact ay7 _ _ _ _ _
 ·exact avM _ _
 ·exact awM _
 ·exact avc _
 ·exact apg _ _
 ·exact asa _ _ _
 ·exact as7 _ _
end
section
variable {r:bC}
theorem Kw (e:ao) (o:Option Rd) (rs:List Rd):rdAll e (o.toList++rs)=match rdOpt e o with
  | none=>none
  | some (vo,e1)=>match rdAll e1 rs with
   | none=>none
   | some (vs,e2)=>some (vo.toList++vs,e2):=by
 cases o<;>grind [rdOpt,rdAll]
def adV:Option Rd→List AV→Option (Option AV×List AV)
 | none,vs=>some (none,vs)
 | some _,v::vs=>some (some v,vs)
 | some _,[]=>none
theorem acb {e e1:ao}{o:Option Rd}{vo:Option AV}(h:rdOpt e o=some (vo,e1)) (vs:List AV):adV o (vo.toList++vs)=some (vo,vs):=by
 cases o with
 | none=>obtain⟨rfl,rfl⟩:=h;rfl
 | some x =>
  simp only[rdOpt]at h;split at h
  ·obtain⟨rfl,rfl⟩:=h;rfl
  simp_all
def Mp (m:Nat) (lo hi mx:Option Rd) (h:ac) (vs:List AV):Option AV :=
 match vs with
 | []=>none
 | v::vs=>match adV lo vs with
  | none=>none
  | some (l,vs)=>match adV hi vs with
   | none=>none
   | some (hh,vs)=>match adV mx vs with
    | none=>none
    | some (k,_)=>match okSl h m v with
     | true=>r5 m v l hh k
     | false=>none
theorem aon {m:Nat}{lo hi mx:Option Rd}{h h':ac}(H:bx h h') {vs:List AV}{u:AV}(g:Mp m lo hi mx h vs=some u):Mp m lo hi mx h' vs=some u:=by
 unfold Mp at g⊢;split at g
 ·simp at g
 ·rename_i v vs
  cases h1:adV lo vs with
  | none=>simp_all
  | some p =>
   obtain⟨l,vs1⟩:=p;simp only at g⊢
   cases h2:adV hi vs1<;>grind [bx.okSl]
theorem are (m:Nat) (x:Rd) (lo hi mx:Option Rd):cw (FH m x lo hi mx) (aP (x::(lo.toList++(hi.toList++(mx.toList++[]))))) (aB (x::(lo.toList++(hi.toList++(mx.toList++[]))))):=by
 refine cw.rds (fun vs hs=>Mp m lo hi mx hs.heap vs) (fun vs hs hs' v H h=>aon H h) fun e hs=>?_
 simp only[FH,rdAll]
 cases rd e x with
 | none=>rfl
 | some q =>
  obtain⟨v,e1⟩:=q;simp only;rw[Kw]
  cases h1:rdOpt e1 lo with
  | none=>rfl
  | some q =>
   obtain⟨l,e2⟩:=q;simp only;rw[Kw]
   cases h2:rdOpt e2 hi with
   | none=>rfl
   | some q =>
    obtain⟨hh,e3⟩:=q;simp only;rw[Kw]
    cases h3:rdOpt e3 mx with
    | none=>rfl
    | some q =>
     simp only[rdAll,Mp,acb h1,acb h2,acb h3]
     grind
theorem HF {x:Rd}{k:Nat}(h:k∈f9 x):k∈jt x:=by
 cases x<;>simp_all [f9,jt]
theorem ar9 (c a b:Rd):cw (gx c a b) (aP [c,a,b]) (aB [c,a,b]):=by
 intro e hs v st1 hf;unfold gx at hf;have hm:∀ k,k∈aB [c,a,b]↔(k∈f9 c∨k∈f9 a∨k∈f9 b):=fun k=>by simp[aB]
 have hsl:∀ k,k∈aP [c,a,b]↔(k∈jt c∨k∈jt a∨k∈jt b):=fun k=>by simp[aP]
 split at hf
 ·rename_i tb e1 h1;obtain⟨s1,g1,l1⟩:=Kr h1;have key:∀ x,(x=a∨x=b)→∀ u e2,rd e1 x=some (u,e2)→(∀ e' e1' e2' hs',rd e' c=some (.d (.bool tb),e1')→rd e1' x=some (u,e2')→gx c a b ⟨e',hs'⟩=some (u,⟨e2',hs'⟩))→
    (⟨e2,hs⟩:St).hs=hs∧(be e→be e2)∧(∀ k,k∉aB [c,a,b]→get e2 k=get e k)∧
    ∀ e' hs',(∀ k∈aP [c,a,b],get e' k=get e k)→bx hs.heap hs'.heap→∃ e1',gx c a b ⟨e',hs'⟩=some (u,⟨e1',hs'⟩)∧(∀ k,k∉aB [c,a,b]→get e1' k=get e' k)∧∀ k∈aB [c,a,b],get e1' k=get e2 k:=by
   intro x hx u e2 h2 hback;obtain⟨s2,g2,l2⟩:=Kr h2;have hbs:∀ k,k∈jt x→k∈aP [c,a,b]:=fun k hk=>(hsl k).2 (by grind)
   have hms:∀ k,k∈aB [c,a,b]→k∈aP [c,a,b]:=fun k hk=>(hsl k).2 (((hm k).1 hk).imp HF (Or.imp HF HF))
   refine⟨rfl,fun h=>s2 (s1 h),fun k hk=>?_,fun e' hs' he _=>?_⟩
   ·grind
   ·obtain⟨e1',h1',g1'⟩:=l1 e' fun k hk=>he k ((hsl k).2 (.inl hk))
    obtain⟨e2',h2',g2'⟩:=l2 e1' fun k hk=>by
     simp_all
    refine⟨e2',hback e' e1' e2' hs' h1' h2',fun k hk=>?_,fun k hk=>?_⟩
    all_goals grind
  cases tb with
  | true =>
   split at hf
   ·obtain⟨rfl,rfl⟩:=hf
    grind [gx]
   simp_all
  | false =>
   split at hf
   ·obtain⟨rfl,rfl⟩:=hf
    grind [gx]
   simp_all
 simp_all
theorem awv (j:Nat) (mv:Bool) (i:Nat):cw (ua j mv i) [j] (if mv then [j] else []):=by
 intro e hs v st1 hf;unfold ua at hf;split at hf
 ·split at hf
  ·cases mv with
   | true =>
    obtain⟨rfl,rfl⟩:=hf
    simp_all [be.put,cO,ua]
   | false =>
    obtain⟨rfl,rfl⟩:=hf
    simp_all [ua]
  simp_all
 simp_all
def as4 (m:Nat) (h:ac) (vs:List AV):Option AV :=
 match vs with
 | [b]=>(match Go.Vm.elems h b with
  | some ys=>(match dt m ys with
   | true=>(match Nat.ble ys.length aq with
    | true=>some (match ys with | []=>.nl | ys=>.own true m ys)
    | false=>none)
   | false=>none)
  | none=>none)
 | _=>none
theorem apK (m:Nat) (y:Rd):cw (z6 m (.c .nl) y) (aP [y]) (aB [y]):=by
 refine cw.rds (fun vs hs=>as4 m hs.heap vs) (fun vs hs hs' v H h=>?_) fun e hs=>?_
 ·unfold as4 at h⊢
  grind [bx.elems]
 ·have h0:rd e (.c .nl)=some (.nl,e):=rfl;simp only[z6,rdAll,h0]
  cases rd e y with
  | none=>rfl
  | some q =>
   obtain⟨b,e1⟩:=q;simp only[as4]
   cases Go.Vm.elems hs.heap b with
   | none=>rfl
   | some ys =>
    simp only
    cases dt m ys with
    | false=>rfl
    | true =>
     simp only[cf]
     cases Nat.ble ys.length aq with
     | false=>rfl
     | true=>cases ys<;>rfl
theorem Ta {v:jR}{R M:List Nat}(h:GM v=some (R,M)):cw (br v r) R M:=by
 have base:(match vP v with | some rs=>some (aP rs,aB rs) | none=>none)=some (R,M)→cw (br v r) R M:=by
  grind [aqF]
 cases v<;>try exact base h
 ·obtain⟨rfl,rfl⟩:=h;exact ar9 _ _ _
 ·obtain⟨rfl,rfl⟩:=h;exact are _ _ _ _ _
 ·obtain⟨rfl,rfl⟩:=h;exact awv _ _ _
 ·rename_i m x y
  cases x<;>try exact base h
  rename_i c
  cases c<;>try exact base h
  obtain⟨rfl,rfl⟩:=h;exact apK _ _
def ar7 (f:St→Option St) (R M:List Nat):Prop :=
 ∀ e hs st1,f ⟨e,hs⟩=some st1→st1.hs=hs∧(be e→be st1.env)∧(∀ k,k∉M→get st1.env k=get e k)∧
  ∀ e' hs',(∀ k∈R,get e' k=get e k)→bx hs.heap hs'.heap→∃ e1',f ⟨e',hs'⟩=some ⟨e1',hs'⟩∧(∀ k,k∉M→get e1' k=get e' k)∧∀ k∈M,get e1' k=get st1.env k
theorem KC {i:VI}{R M:List Nat}(h:aik i=some (R,M)):ar7 (bh r i) R M:=by
 unfold aik at h;split at h
 ·simp at h
 ·rename_i hth;split at h
  ·simp at h
  ·rename_i R0 M0 hf;simp only[Option.some.injEq,Prod.mk.injEq]at h;obtain⟨rfl,rfl⟩:=h;have hl:=Ta (r:=r) hf;have hM:∀ k,k∈M0→k∈(match i.dst with | some d=>d::M0 | none=>M0):=fun k hk=>by grind
   have set:∀ (v:AV) (st:St),(ba i.dst v st).hs=st.hs∧(be st.env→be (ba i.dst v st).env)∧∀ k,get (ba i.dst v st).env k=if i.dst=some k then some v else get st.env k:=by
    grind [ba,be.put,cO]
   have hd:∀ k,k∉(match i.dst with | some d=>d::M0 | none=>M0)→i.dst≠some k∧k∉M0:=fun k hk=>by
    grind
   have go:∀ e hs st1,de r i ⟨e,hs⟩=some st1→st1.hs=hs∧(be e→be st1.env)∧(∀ k,k∉(match i.dst with | some d=>d::M0 | none=>M0)→get st1.env k=get e k)∧
     ∀ e' hs',(∀ k∈R0++M0,get e' k=get e k)→bx hs.heap hs'.heap→∃ e1',de r i ⟨e',hs'⟩=some ⟨e1',hs'⟩∧(∀ k,k∉(match i.dst with | some d=>d::M0 | none=>M0)→get e1' k=get e' k)∧
      ∀ k∈(match i.dst with | some d=>d::M0 | none=>M0),get e1' k=get st1.env k:=by
    intro e hs st1 h;unfold de at h;simp only[hth]at h;split at h
    ·rename_i v st0 hv;simp only[Option.some.injEq]at h;subst h;obtain⟨q1,q2,q3,q4⟩:=hl e hs v st0 hv;obtain⟨t1,t2,t3⟩:=set (firm v) st0;refine⟨t1.trans q1,fun h=>t2 (q2 h),fun k hk=>?_,fun e' hs' he hle=>?_⟩
     ·simp_all
     ·obtain⟨e1',p1,p2,p3⟩:=q4 e' hs' (fun k hk=>he k (List.mem_append_left _ hk)) hle;refine⟨(ba i.dst (firm v) ⟨e1',hs'⟩).env,?_,fun k hk=>?_,fun k hk=>?_⟩
      ·unfold de;simp only[hth,p1,Option.some.injEq]
       cases i.dst<;>rfl
      all_goals grind
    simp_all
   have no:∀ e hs,(ba i.dst (.tup []) ⟨e,hs⟩).hs=hs∧(be e→be (ba i.dst (.tup []) ⟨e,hs⟩).env)∧(∀ k,k∉(match i.dst with | some d=>d::M0 | none=>M0)→get (ba i.dst (.tup []) ⟨e,hs⟩).env k=get e k)∧
     ∀ e' hs',(∀ k∈R0++M0,get e' k=get e k)→(∀ k,k∉(match i.dst with | some d=>d::M0 | none=>M0)→get (ba i.dst (.tup []) ⟨e',hs'⟩).env k=get e' k)∧
      ∀ k∈(match i.dst with | some d=>d::M0 | none=>M0),get (ba i.dst (.tup []) ⟨e',hs'⟩).env k=get (ba i.dst (.tup []) ⟨e,hs⟩).env k:=by
    grind
   intro e hs st1 h;unfold bh at h
   cases hg:i.guard with
   | none =>
    rw[hg]at h;obtain⟨q1,q2,q3,q4⟩:=go e hs st1 h;refine⟨q1,q2,q3,fun e' hs' he hle=>?_⟩;obtain⟨e1',p1,p2,p3⟩:=q4 e' hs' he hle
    grind [bh]
   | some sw =>
    obtain⟨sl,want⟩:=sw;rw[hg]at h;simp only at h;have hsl:∀ e',(∀ k∈sl::(R0++M0),get e' k=get e k)→get e' sl=get e sl:=fun e' he=>he sl (.head _)
    have hre:∀ e',(∀ k∈sl::(R0++M0),get e' k=get e k)→∀ k∈R0++M0,get e' k=get e k:=fun e' he k hk=>he k (.tail _ hk)
    split at h
    ·rename_i b hb;split at h
     ·obtain⟨q1,q2,q3,q4⟩:=go e hs st1 h;refine⟨q1,q2,q3,fun e' hs' he hle=>?_⟩;obtain⟨e1',p1,p2,p3⟩:=q4 e' hs' (hre e' he) hle
      grind [bh]
     ·rename_i hbw;simp only[Option.some.injEq]at h;subst h;obtain⟨q1,q2,q3,q4⟩:=no e hs;refine⟨q1,q2,q3,fun e' hs' he _=>?_⟩;obtain⟨p2,p3⟩:=q4 e' hs' (hre e' he);refine⟨(ba i.dst (.tup []) ⟨e',hs'⟩).env,?_,p2,p3⟩;unfold bh;rw[hg];simp only[hsl e' he,hb,hbw,Option.some.injEq]
      cases i.dst<;>rfl
    ·rename_i hb;simp only[Option.some.injEq]at h;subst h;obtain⟨q1,q2,q3,q4⟩:=no e hs;refine⟨q1,q2,q3,fun e' hs' he _=>?_⟩;obtain⟨p2,p3⟩:=q4 e' hs' (hre e' he);refine⟨(ba i.dst (.tup []) ⟨e',hs'⟩).env,?_,p2,p3⟩;unfold bh;rw[hg];simp only[hsl e' he,hb,Option.some.injEq]
     cases i.dst<;>rfl
    grind
theorem atu {f1 f2:St→Option St}{R1 M1 R2 M2:List Nat}(h1:ar7 f1 R1 M1) (h2:ar7 f2 R2 M2) (d1:∀ k∈M1,k∉R2∧k∉M2) (d2:∀ k∈M2,k∉R1∧k∉M1) {st st1 st2:St}(hs:be st.env)
  (a:f1 st=some st1) (b:f2 st1=some st2):∃ st1',f2 st=some st1'∧f1 st1'=some st2:=by
 obtain⟨e,hs0⟩:=st;obtain⟨e1,hs1⟩:=st1;obtain⟨e2,hs2⟩:=st2;obtain⟨q1,q2,q3,q4⟩:=h1 e hs0 _ a;subst q1;obtain⟨p1,p2,p3,p4⟩:=h2 e1 hs1 _ b;subst p1;obtain⟨e1',k1,k2,k3⟩:=p4 e _ (fun k hk=>(q3 k (fun hm=>(d1 k hm).1 hk)).symm) (bx.refl _);obtain⟨_,sk1,_,_⟩:=h2 e hs2 _ k1;obtain⟨e2',m1,m2,m3⟩:=q4 e1' _ (fun k hk=>k2 k fun hm=>(d2 k hm).1 hk) (bx.refl _);obtain⟨_,sm1,_,_⟩:=h1 e1' hs2 _ m1;refine⟨⟨e1',hs2⟩,k1,?_⟩;rw[m1]
 congr 2
 refine mD (sm1 (sk1 hs)) (p2 (q2 hs)) fun k=>?_
 by_cases hk1:k∈M1
 all_goals grind
end
theorem ma {k:Nat}{l:List Nat}:bW k l=true↔k∈l:=by
 induction l<;>grind [bW,Nat.beq_eq]
theorem eM {a b:List Nat}(h:kZ a b=true):∀ k∈a,k∉b:=by
 induction a<;>grind [kZ,ma]
section
variable {P:Program}{g:Gh}{w:World}{t:Array Value}{O:Nat→Nat}{st st':St}{r:bC}
theorem alT {a b:VI}(h:mM a b=true) {st1 st2:St}(hs:be st.env) (h1:bh r a st=some st1) (h2:bh r b st1=some st2):∃ st1',bh r b st=some st1'∧bh r a st1'=some st2:=by
 unfold mM at h;split at h
 ·rename_i R1 M1 R2 M2 e1 e2;simp only[Bool.and_eq_true]at h;obtain⟨⟨k1,k2⟩,k3⟩:=h;exact atu (KC (r:=r) e1) (KC (r:=r) e2) (fun k hk=>⟨eM k1 k hk,eM k2 k hk⟩) (fun k hk=>⟨eM k3 k hk,fun h=>eM k2 k h hk⟩) hs h1 h2
 simp_all
theorem amj {a b:VI}(h:mM a b=true) {st1:St}(hs:be st.env) (h1:bh r a st=some st1):be st1.env:=by
 unfold mM at h;split at h
 ·rename_i R1 M1 R2 M2 e1 e2;obtain⟨e,hs0⟩:=st;exact(KC (r:=r) e1 e hs0 st1 h1).2.1 hs
 simp_all
theorem Y8 {vs:List VI}{i:Nat}{v:VI}(hv:vs[i]?=some v) {l2:List Nat}:∀ {l1:List Nat}{st st':St},(∀ j∈l1,∃ u,vs[j]?=some u∧mM u v=true)→be st.env→
  nF r vs (l1++i::l2) st=some st'→nF r vs (i::(l1++l2)) st=some st'
 | [],st,st',_,_,h=>h
 | j::l1,st,st',hj,hs,h=>by
  obtain⟨u,hu,hm⟩:=hj j (.head _);simp only[List.cons_append,nF,hu]at h;split at h
  ·simp at h
  ·rename_i st1 h1;have h2:=Y8 hv (fun k hk=>hj k (.tail _ hk)) (amj hm hs h1) h
   grind [nF,alT]
structure aiQ (P:Program) (n:Nat) (ops:Array Oper) (vs:List VI):Prop where
 len:vs.length=ops.size
 vi:∀ (i:Nat) (v:VI) (o:Oper),vs[i]?=some v→ops[i]?=some o→tH P n ops v o=true
 pair:∀ (i j:Nat) (v u:VI) (o:Oper),j<i→vs[i]?=some v→vs[j]?=some u→ops[i]?=some o→GP o j=true∨mM u v=true
 edge:∀ (i:Nat) (o:Oper),ops[i]?=some o→∀ e∈o.after,e.on<i
theorem VG {o:Oper}{v:VI}:∀ {us:List VI}{k:Nat},Yh o v k us=true→∀ (j:Nat) (u:VI),us[j]?=some u→GP o (k+j)=true∨mM u v=true
 | [],k,_,j,u,h=>by simp at h
 | x::us,k,h,j,u,hu=>by
  simp only[Yh,Bool.and_eq_true,Bool.or_eq_true]at h
  cases j with
  | zero=>simp_all
  | succ j=>have:=VG h.2 j u (by simp_all);grind
theorem LI {n:Nat}{ops:Array Oper}:∀ {vs:List VI}{os:List Oper}{prev:List VI},lY P n ops prev vs os=true→vs.length=os.length∧
  ∀ (i:Nat) (v:VI) (o:Oper),vs[i]?=some v→os[i]?=some o→tH P n ops v o=true∧(∀ (j:Nat) (u:VI),(prev++vs)[j]?=some u→j<prev.length+i→GP o j=true∨mM u v=true)∧
   ∀ e∈o.after,e.on<prev.length+i
 | [],[],prev,_=>⟨rfl,fun i v o h=>by simp at h⟩
 | x::vs,p::os,prev,h=>by
  simp only[lY,Bool.and_eq_true]at h;obtain⟨⟨⟨h1,h2⟩,h3⟩,h4⟩:=h;obtain⟨k1,k2⟩:=LI h4;refine⟨by simp[k1],fun i v o hv ho=>?_⟩
  cases i with
  | zero =>
   simp only[List.getElem?_cons_zero,Option.some.injEq]at hv ho;subst hv ho;refine⟨h1,fun j u hu hj=>?_,fun e he=>?_⟩
   ·rw[List.getElem?_append_left (by omega)]at hu;have:=VG h2 j u hu
    simp_all
   grind [Nat.blt_eq]
  | succ i =>
   grind
 | [],_::_,_,h=>by grind [lY]
 | _::_,[],_,h=>by grind [lY]
theorem axr {n:Nat}{ops:Array Oper}{vs:List VI}(h:lY P n ops [] vs ops.toList=true):aiQ P n ops vs:=by
 obtain⟨k1,k2⟩:=LI h;have hl:vs.length=ops.size:=by omega
 have hget:∀ (i:Nat) (o:Oper),ops[i]?=some o→ops.toList[i]?=some o:=fun i o h=>by simp_all
 refine⟨hl,fun i v o hv ho=>(k2 i v o hv (hget i o ho)).1,fun i j v u o hji hv hu ho=>(k2 i v o hv (hget i o ho)).2.1 j u (by simp_all) (by omega),fun i o ho e he=>?_⟩;have hi:i<vs.length:=by
  grind
 simp_all
theorem VL (m:Region.Mode) {e:Edge}(h:oF e.ground=true):Region.binds m e=true:=by
 grind [Region.binds,oF]
structure abM (n:Nat) (listed:Array Bool) (rem:List Nat):Prop where
 srt:rem.Pairwise (·<·)
 lt:∀ i∈rem,i<n
 size:listed.size=n
 mem:∀ i,i<n→(i∈rem↔listed.getD i true=false)
theorem aqG {ro:Option Nat}(hr:dW P r) (hcs:et P r) {n:Nat}{ops:Array Oper}{vs:List VI}(hok:aiQ P n ops vs) {Q:Exit→Act→World→Prop}(ds:List Deferred) (m:Region.Mode) :
  ∀ {fuel:Nat}{rem:List Nat},rem.length=fuel→∀ {tt:Nat}{listed:Array Bool},abM ops.size listed rem→∀ {g:Gh}{w:World}{t:Array Value}{O:Nat→Nat}{st st':St},t.size=n→S P g w st t O→nF r vs rem st=some st'→
   (∀ w' t' g' O',dB P g w t O st' t' w' g' O'→Q .normal ⟨t',ds⟩ w')→wpOpsIn (FR ro) 0 P ops Q (Region.linearise.go m ops fuel tt listed []) ⟨t,ds⟩ w
 | 0,rem,hf,tt,listed,hleft,g,w,t,O,st,st',hn,s,h,hq=>by
  have:rem=[]:=List.eq_nil_of_length_eq_zero hf;subst this;simp only[nF,Option.some.injEq]at h;subst h;exact hq _ _ _ _ (dB.refl s)
 | fuel+1,rem,hf,tt,listed,hleft,g,w,t,O,st,st',hn,s,h,hq=>by
  unfold Region.linearise.go;simp only;generalize hrs:((List.range ops.size).filter fun i=>!listed.getD i true && ((ops[i]?).map (·.after.all fun e=>!Region.binds m e || listed.getD e.on false)).getD false)=rs;have hmem:∀ i,i∈rs↔i<ops.size∧listed.getD i true=false∧∃ o,ops[i]?=some o∧∀ e∈o.after,Region.binds m e=true→listed.getD e.on false=true:=by
   grind [Array.all_eq_true_iff_forall_mem]
  have hne:rs≠[]:=by
   cases rem with
   | nil=>simp at hf
   | cons i rem =>
    have hi:=hleft.lt i (.head _);have:i∈rs:=(hmem i).2 ⟨hi,(hleft.mem i hi).1 (.head _),ops[i],by simp[hi],fun e he _=>by
     have hlt:=hok.edge i ops[i] (by simp[hi]) e he;have hen:e.on<ops.size:=by omega
     have hnot:e.on∉i::rem:=by
      intro hm;rcases List.mem_cons.1 hm with e1 | hm
      ·omega
      ·have:=(List.pairwise_cons.1 hleft.srt).1 _ hm;omega
     grind [abM.mem,abM.size]⟩
    grind
  have hlen:0<rs.length:=List.length_pos_iff.2 hne;have hlt:=Nat.mod_lt tt hlen;rw[List.getElem?_eq_getElem hlt];simp only;generalize hi:rs[tt % rs.length]=i;have hirs:i∈rs:=by grind
  obtain⟨hin,hil,o,ho,hedges⟩:=(hmem i).1 hirs;have hirem:i∈rem:=(hleft.mem i hin).2 hil;obtain⟨l1,l2,rfl⟩:=List.append_of_mem hirem;have hvl:i<vs.length:=by grind [aiQ.len]
  have hv:vs[i]?=some vs[i]:=by simp
  have hp:=List.pairwise_append.1 hleft.srt;have hswap:∀ j∈l1,∃ u,vs[j]?=some u∧mM u vs[i]=true:=by
   intro j hj;have hji:j<i:=hp.2.2 j hj i (.head _);have hjr:j∈l1++i::l2:=List.mem_append_left _ hj;have hjv:vs[j]?=some (vs[j]'(by omega)):=by simp
   refine⟨_,hjv,(hok.pair i j _ _ o hji hv hjv ho).resolve_left fun he=>?_⟩
   grind [GP,Nat.beq_eq,VL,abM.mem]
  have h2:=Y8 hv hswap s.se h;simp only[nF,hv]at h2;split at h2
  ·simp at h2
  ·rename_i st1 h3;have hleft':abM ops.size (listed.setIfInBounds i true) (l1++l2):=by
    refine⟨List.pairwise_append.2 ⟨hp.1,(List.pairwise_cons.1 hp.2.1).2,fun a ha b hb=>hp.2.2 a ha b (.tail _ hb)⟩,fun k hk=>hleft.lt k ?_,by simp[hleft.size],fun k hk=>?_⟩
    ·rcases List.mem_append.1 hk with h | h
     ·exact List.mem_append_left _ h
     ·exact List.mem_append_right _ (.tail _ h)
    ·have hsz:k<listed.size:=by rw[hleft.size];exact hk
     have hold:=hleft.mem k hk;simp only[Array.getD_eq_getD_getElem?,Array.getElem?_setIfInBounds]at hold⊢;by_cases e:i=k
     ·subst e;simp only[if_true,hsz,Option.getD_some,Bool.true_eq_false,iff_false];intro hm;rcases List.mem_append.1 hm with h | h
      ·have:=hp.2.2 i h i (.head _);omega
      ·have:=(List.pairwise_cons.1 hp.2.1).1 i h;omega
     ·simp only[e,if_false];rw[←hold];simp only[List.mem_append,List.mem_cons];constructor
      ·rintro (h | h)
       ·exact .inl h
       ·exact .inr (.inr h)
      ·rintro (h | h | h)
       ·exact .inl h
       ·exact absurd h.symm e
       ·exact .inr h
   have hlen':(l1++l2).length=fuel:=by simp at hf⊢;omega
   have hacc:=linearise_go_acc m ops fuel (tt / rs.length) (listed.setIfInBounds i true) [i];rw[hacc];simp only[List.reverse_cons,List.reverse_nil,List.nil_append,List.cons_append,wpOpsIn,ho];exact aqa (ro:=ro) hr hcs hn s h3 (hok.vi i _ o hv ho) ds _ Q fun t' w' g' O' G =>
    aqG hr hcs hok ds m hlen' hleft' (by rw[G.size,hn]) G.st h2 fun w2 t2 g2 O2 G2=>hq _ _ _ _ (G.trans G2)
theorem ak1 {vs:List VI}:∀ {l:List VI}{k:Nat}{st:St},vs.drop k=l→nF r vs (List.range' k l.length) st=gh r l st
 | [],k,st,_=>by simp[nF,gh]
 | v::l,k,st,h=>by
  have hv:vs[k]?=some v:=by have:=congrArg (fun l=>l[0]?) h;grind
  have h':vs.drop (k+1)=l:=by have:=congrArg (fun l=>l.drop 1) h;grind [List.drop_drop]
  simp only[List.length_cons,List.range'_succ,nF,hv,gh]
  cases bh r v st with
  | none=>rfl
  | some st1=>exact ak1 h'
theorem asz {ro:Option Nat}(hr:dW P r) (hcs:et P r) {n:Nat}{ops:Array Oper}{vs:List VI}(ds:List Deferred) (h:lY P n ops [] vs ops.toList=true) {Q:Exit→Act→World→Prop}{id:Nat}(hn:t.size=n)
  (s:S P g w st t O) (hrun:gh r vs st=some st') (hq:∀ w' t' g' O',dB P g w t O st' t' w' g' O'→Q .normal ⟨t',ds⟩ w'):(Code.region id ops true).wpIn (FR ro) 0 P Q ⟨t,ds⟩ w:=by
 have hok:=axr h;refine wpIn_region_draw fun tt=>?_
 have hx:aH g w g w.drew fun _=>False:=aH.drew _ _ _
 have sd:=s.extF hx rfl s.pmlt;have hrun':nF r vs (List.range ops.size) st=some st':=by
  rw[←hok.len,List.range_eq_range']
  grind [ak1]
 have hleft:abM ops.size (Array.replicate ops.size false) (List.range ops.size):=by
  refine⟨List.pairwise_lt_range,fun i hi=>List.mem_range.1 hi,by simp,fun i hi=>?_⟩
  simp_all
 have key:∀ m tt,wpOpsIn (FR ro) 0 P ops Q (Region.linearise m ops tt) ⟨t,ds⟩ w.drew:=fun m tt =>
  aqG (ro:=ro) hr hcs hok ds m (by simp) hleft hn sd hrun' fun w' t' g' O' G=>hq _ _ _ _ ⟨G.st,(hx.mono (T:=fun b=>O b≠0) fun _ _ h=>h.elim).trans G.ext fun _ _ h=>h,G.old,G.size⟩
 unfold Region.schedule;split<;>simp_all
end
abbrev HK:=HS→(HS→Prop)→(HS→HS)→Prop
def eG (K:HK) (f:St→Option (AV×St)) (R M:List Nat):Prop :=
 ∀ e hs v st1,f ⟨e,hs⟩=some (v,st1)→∃ ρ τ,K hs ρ τ∧st1.hs=τ hs∧(be e→be st1.env)∧(∀ k,k∉M→get st1.env k=get e k)∧
  ∀ e' hs',(∀ k∈R,get e' k=get e k)→ρ hs'→∃ e1',f ⟨e',hs'⟩=some (v,⟨e1',τ hs'⟩)∧(∀ k,k∉M→get e1' k=get e' k)∧∀ k∈M,get e1' k=get st1.env k
def NQ (K:HK) (f:St→Option St) (R M:List Nat):Prop :=
 ∀ e hs st1,f ⟨e,hs⟩=some st1→∃ ρ τ,K hs ρ τ∧st1.hs=τ hs∧(be e→be st1.env)∧(∀ k,k∉M→get st1.env k=get e k)∧
  ∀ e' hs',(∀ k∈R,get e' k=get e k)→ρ hs'→∃ e1',f ⟨e',hs'⟩=some ⟨e1',τ hs'⟩∧(∀ k,k∉M→get e1' k=get e' k)∧∀ k∈M,get e1' k=get st1.env k
def KQ:HK:=fun hs ρ τ=>(∀ hs',bx hs.heap hs'.heap→ρ hs')∧∀ hs',τ hs'=hs'
def zg (h:ac) (id:Nat):Option Obj→ac
 | none=>h
 | some o=>put h id o
def KT:HK:=fun hs ρ τ=>(∃ id o0 o,get hs.heap id=some o0∧(∀ hs',get hs'.heap id=some o0→ρ hs')∧(∀ hs',τ hs'=⟨zg hs'.heap id o,hs'.next⟩)∧
 ∀ o1,o=some o1→fw o0 o1)∨(∀ hs',ρ hs')∧∀ hs',τ hs'=hs'
def push:HS→List Obj→HS
 | hs,[]=>hs
 | hs,o::os=>push ⟨put hs.heap hs.next o,hs.next+1⟩ os
def KA:HK:=fun hs ρ τ=>∃ os,(∀ hs',bx hs.heap hs'.heap→hs'.next=hs.next→ρ hs')∧∀ hs',hs'.next=hs.next→τ hs'=push hs' os
def KP:HK:=fun hs ρ τ=>KQ hs ρ τ∨∃ id,(∃ m xs,get hs.heap id=some (.arr m xs))∧(∀ hs',bx hs.heap hs'.heap→ρ hs')∧∀ hs',τ hs'=⟨del hs'.heap id,hs'.next⟩
theorem bx.del {h:ac}(id:Nat):bx (del h id) h:=by
 intro k o hk;rw[AA]at hk;split at hk
 ·simp at hk
 ·exact⟨o,hk,by cases o<;>simp[fw]⟩
theorem aka (m:Nat) (x y:Rd):eG KP (z6 m x y) (aP [x,y]) (aB [x,y]):=by
 intro e hs v st1 hf;unfold z6 at hf;split at hf
 ·rename_i a e1 hr;split at hf
  ·rename_i b e2 hr2;split at hf
   ·rename_i ys hy;split at hf
    ·split at hf
     ·rename_i w h1 ha;simp only[Option.some.injEq,Prod.mk.injEq]at hf;obtain⟨rfl,rfl⟩:=hf;have hall:rdAll e [x,y]=some ([a,b],e2):=by grind [rdAll]
      obtain⟨s1,g1,l1⟩:=DZ hall;have back:∀ e' hs' h1',(∀ k∈aP [x,y],get e' k=get e k)→bx hs.heap hs'.heap→cf m hs'.heap a ys=some (w,h1')→
        ∃ e1',z6 m x y ⟨e',hs'⟩=some (w,⟨e1',⟨h1',hs'.next⟩⟩)∧(∀ k,k∉aB [x,y]→get e1' k=get e' k)∧∀ k∈aB [x,y],get e1' k=get e2 k:=by
       intro e' hs' h1' he hle happ;obtain⟨e1',hr',g1'⟩:=l1 e' he;refine⟨e1',?_,fun k hk=>by simp_all,fun k hk=>by simp_all⟩;simp only[rdAll]at hr';split at hr'<;>grind [z6,bx.elems]
      unfold cf at ha;split at ha
      ·simp at ha
      ·split at ha
       ·obtain⟨rfl,rfl⟩:=ha;exact⟨fun hs'=>bx hs.heap hs'.heap,id,.inl ⟨fun _ h=>h,fun _=>rfl⟩,rfl,s1,fun k hk=>by simp_all,fun e' hs' he hρ=>back e' hs' _ he hρ (by grind [cf])⟩
       ·split at ha
        ·obtain⟨rfl,rfl⟩:=ha;exact⟨fun hs'=>bx hs.heap hs'.heap,id,.inl ⟨fun _ h=>h,fun _=>rfl⟩,rfl,s1,fun k hk=>by simp_all,fun e' hs' he hρ=>back e' hs' _ he hρ (by grind [cf])⟩
        simp_all
       ·rename_i id off len;split at ha
        ·rename_i k xs hg;split at ha
         ·obtain⟨rfl,rfl⟩:=ha;exact⟨fun hs'=>bx hs.heap hs'.heap,fun hs'=>⟨Go.Vm.del hs'.heap id,hs'.next⟩,.inr ⟨id,⟨_,_,hg⟩,fun _ h=>h,fun _=>rfl⟩,rfl,s1,fun k hk=>by simp_all,fun e' hs' he hρ=>back e' hs' _ he hρ (by grind [cf,bx.arr])⟩
         simp_all
        simp_all
       simp_all
     simp_all
    simp_all
   simp_all
  simp_all
 simp_all
theorem fw.symm {a b:Obj}(h:fw a b):fw b a:=by
 cases a<;>cases b<;>simp_all [fw]
theorem awb {f:St→Option (AV×St)}{R M:List Nat}(h:cw f R M):eG KQ f R M:=by
 intro e hs v st1 hf;obtain⟨h1,h2,h3,h4⟩:=h e hs v st1 hf;exact⟨fun hs'=>bx hs.heap hs'.heap,id,⟨fun _ h=>h,fun _=>rfl⟩,h1,h2,h3,h4⟩
mutual
theorem w7:∀ (v:AV),share (share v)=share v
 | .own p m xs=>by cases p<;>rfl
 | .agg cs=>by simp only[share,shareAll_share cs]
 | .tup cs=>by simp only[share,shareAll_share cs]
 | .junk | .d _ | .nl | .gl _ | .nilp | .ptr _ _ | .pel _ _ _ | .pim _ _ | .sl _ _ _ | .fn _ _ _ | .nilf | .yield _=>by rfl
theorem shareAll_share:∀ (vs:List AV),shareAll (shareAll vs)=shareAll vs
 | []=>rfl
 | v::r=>by simp only[jV,w7 v,shareAll_share r]
end
theorem GA:∀ (vs:List AV),shareAll (cU 2 vs).2=shareAll vs
 | []=>rfl
 | v::r=>by
  simp only[cU,jV,GA r]
  grind [kH,w7]
theorem aAl {h h1:ac}{n:Option Nat}{p v:AV}(hl:loadAt h n 2 p=some (v,h1)) :
  (∃ id o0 o,get h id=some o0∧h1=zg h id o∧(∀ o1,o=some o1→fw o0 o1)∧∀ h',get h' id=some o0→loadAt h' n 2 p=some (v,zg h' id o))∨
   h1=h∧∀ h',loadAt h' n 2 p=some (v,h'):=by
 cases p<;>simp only[loadAt,reduceCtorEq]at hl
 ·rename_i id off;split at hl
  ·rename_i cs hg
   cases n with
   | none =>
    simp only at hl;split at hl
    ·simp at hl
    ·rename_i u hu;obtain⟨rfl,rfl⟩:=hl;refine .inl ⟨id,_,some (.cells (cs.set off (kH 2 u).2)),hg,rfl,fun o1 ho=>?_,fun h' he=>?_⟩
     ·simp only[Option.some.injEq]at ho;subst ho;simp only[fw,fJ,kH];refine List.ext_getElem? fun i=>?_
      grind [w7]
     ·simp only[loadAt,he,hu];rfl
   | some m =>
    simp only at hl;split at hl
    ·rename_i hb;obtain⟨rfl,rfl⟩:=hl;refine .inl ⟨id,_,some (.cells (ah cs off (cU 2 (sub cs off m)).2)),hg,rfl,fun o1 ho=>?_,fun h' he=>?_⟩
     ·simp only[fw]
      grind [Nat.le_of_ble_eq_true,GA,fJ,List.length_map,sub,ah,List.map_drop,List.take_append_drop]
     ·simp only[loadAt,he,hb];rfl
    simp_all
  simp_all
 ·rename_i id i off;split at hl
  ·rename_i m xs hg;split at hl
   ·rename_i x hx;split at hl
    ·rename_i u hu;obtain⟨rfl,rfl⟩:=hl;exact .inl ⟨id,_,none,hg,rfl,fun o1 ho=>by simp at ho,fun h' he=>by simp only[loadAt,he,hx,hu];rfl⟩
    simp_all
   simp_all
  simp_all
 grind [loadAt]
theorem avK (n:Option Nat) (p:Rd):eG KT (wI n 2 p) (jt p) (f9 p):=by
 intro e hs v st1 hf;unfold wI at hf;split at hf
 ·rename_i u e1 hr;split at hf
  ·rename_i w h1 hl;obtain⟨rfl,rfl⟩:=hf;obtain⟨s1,g1,l1⟩:=Kr hr;rcases aAl hl with ⟨id,o0,o,k0,k1,k2,k3⟩ | ⟨k1,k3⟩
   ·refine⟨fun hs'=>get hs'.heap id=some o0,fun hs'=>⟨zg hs'.heap id o,hs'.next⟩,.inl ⟨id,o0,o,k0,fun _ h=>h,fun _=>rfl,k2⟩,by rw[k1],s1,fun k hk=>by simp_all,fun e' hs' he hρ=>?_⟩;obtain⟨e1',hr',g1'⟩:=l1 e' he
    simp_all [wI]
   ·refine⟨fun _=>True,id,.inr ⟨fun _=>trivial,fun _=>rfl⟩,by simp_all,s1,fun k hk=>by simp_all,fun e' hs' he _=>?_⟩;obtain⟨e1',hr',g1'⟩:=l1 e' he
    simp_all [wI]
  simp_all
 simp_all
section
variable {r:bC}{K:HK}
theorem NB (d:Option Nat) (v:AV) (st:St):(ba d v st).hs=st.hs∧(be st.env→be (ba d v st).env)∧∀ k,get (ba d v st).env k=if d=some k then some v else get st.env k:=by
 cases hd:d<;>grind [ba,be.put,cO]
theorem NE {i:VI}{M0:List Nat}{k:Nat}(hk:k∉qa i M0):i.dst≠some k∧k∉M0:=by
 grind [qa]
theorem anC {i:VI}{M0:List Nat}{k:Nat}(hk:k∈qa i M0):i.dst=some k∨k∈M0:=by
 grind [qa]
theorem lX {i:VI}{R0 M0:List Nat}{f:St→Option (AV×St)}(hf:∀ st,de r i st=match f st with | some (v,st)=>some (ba i.dst v st) | none=>none) (hl:eG K f R0 M0) (hid:∀ hs,K hs (fun _=>True) id) :
  NQ K (bh r i) (JA i (R0++M0)) (qa i M0):=by
 have go:∀ e hs st1,de r i ⟨e,hs⟩=some st1→∃ ρ τ,K hs ρ τ∧st1.hs=τ hs∧(be e→be st1.env)∧(∀ k,k∉qa i M0→get st1.env k=get e k)∧
   ∀ e' hs',(∀ k∈R0++M0,get e' k=get e k)→ρ hs'→∃ e1',de r i ⟨e',hs'⟩=some ⟨e1',τ hs'⟩∧(∀ k,k∉qa i M0→get e1' k=get e' k)∧∀ k∈qa i M0,get e1' k=get st1.env k:=by
  intro e hs st1 h;rw[hf]at h;split at h
  ·rename_i v st0 hv;simp only[Option.some.injEq]at h;subst h;obtain⟨ρ,τ,hK,q1,q2,q3,q4⟩:=hl e hs v st0 hv;obtain⟨t1,t2,t3⟩:=NB i.dst v st0;refine⟨ρ,τ,hK,t1.trans q1,fun h=>t2 (q2 h),fun k hk=>?_,fun e' hs' he hρ=>?_⟩
   ·grind [NE]
   ·obtain⟨e1',p1,p2,p3⟩:=q4 e' hs' (fun k hk=>he k (List.mem_append_left _ hk)) hρ;obtain⟨u1,u2,u3⟩:=NB i.dst v ⟨e1',τ hs'⟩;refine⟨(ba i.dst v ⟨e1',τ hs'⟩).env,?_,fun k hk=>?_,fun k hk=>?_⟩
    ·rw[hf,p1]
     cases i.dst<;>rfl
    all_goals grind [NE,anC]
  simp_all
 have no:∀ e hs,(ba i.dst (.tup []) ⟨e,hs⟩).hs=hs∧(be e→be (ba i.dst (.tup []) ⟨e,hs⟩).env)∧(∀ k,k∉qa i M0→get (ba i.dst (.tup []) ⟨e,hs⟩).env k=get e k)∧
   ∀ e' hs',(∀ k∈R0++M0,get e' k=get e k)→(∀ k,k∉qa i M0→get (ba i.dst (.tup []) ⟨e',hs'⟩).env k=get e' k)∧
    ∀ k∈qa i M0,get (ba i.dst (.tup []) ⟨e',hs'⟩).env k=get (ba i.dst (.tup []) ⟨e,hs⟩).env k:=by
  intro e hs;obtain⟨t1,t2,t3⟩:=NB i.dst (.tup []) ⟨e,hs⟩;refine⟨t1,t2,fun k hk=>?_,fun e' hs' he=>?_⟩
  ·rw[t3,if_neg (NE hk).1]
  grind [NB,NE,anC]
 intro e hs st1 h;unfold bh at h
 cases hg:i.guard with
 | none =>
  simp_all [JA,bh]
 | some sw =>
  obtain⟨sl,want⟩:=sw;rw[hg]at h;simp only at h;have hgs:JA i (R0++M0)=sl::(R0++M0):=by unfold JA;rw[hg]
  rw[hgs];have hsl:∀ e',(∀ k∈sl::(R0++M0),get e' k=get e k)→get e' sl=get e sl:=fun e' he=>he sl (.head _)
  have hre:∀ e',(∀ k∈sl::(R0++M0),get e' k=get e k)→∀ k∈R0++M0,get e' k=get e k:=fun e' he k hk=>he k (.tail _ hk)
  split at h
  ·rename_i b hb;split at h
   ·obtain⟨ρ,τ,hK,q1,q2,q3,q4⟩:=go e hs st1 h;refine⟨ρ,τ,hK,q1,q2,q3,fun e' hs' he hρ=>?_⟩;obtain⟨e1',p1,p2,p3⟩:=q4 e' hs' (hre e' he) hρ
    grind [bh]
   ·rename_i hbw;simp only[Option.some.injEq]at h;subst h;obtain⟨q1,q2,q3,q4⟩:=no e hs;refine⟨fun _=>True,id,hid hs,q1,q2,q3,fun e' hs' he _=>?_⟩;obtain⟨p2,p3⟩:=q4 e' hs' (hre e' he);refine⟨(ba i.dst (.tup []) ⟨e',hs'⟩).env,?_,p2,p3⟩;unfold bh;rw[hg];simp only[hsl e' he,hb,hbw,Option.some.injEq]
    cases i.dst<;>rfl
  ·rename_i hb;simp only[Option.some.injEq]at h;subst h;obtain⟨q1,q2,q3,q4⟩:=no e hs;refine⟨fun _=>True,id,hid hs,q1,q2,q3,fun e' hs' he _=>?_⟩;obtain⟨p2,p3⟩:=q4 e' hs' (hre e' he);refine⟨(ba i.dst (.tup []) ⟨e',hs'⟩).env,?_,p2,p3⟩;unfold bh;rw[hg];simp only[hsl e' he,hb,Option.some.injEq]
   cases i.dst<;>rfl
  grind
theorem KQ.id (hs:HS):KQ hs (fun _=>True) _root_.id:=⟨fun _ _=>trivial,fun _=>rfl⟩
theorem KT.id (hs:HS):KT hs (fun _=>True) _root_.id:=.inr ⟨fun _=>trivial,fun _=>rfl⟩
theorem KP.id (hs:HS):KP hs (fun _=>True) _root_.id:=.inl (KQ.id hs)
theorem KA.id (hs:HS):KA hs (fun _=>True) _root_.id:=⟨[],fun _ _ _=>trivial,fun _ _=>rfl⟩
theorem afj:∀ (os:List Obj) (hs:HS),(push hs os).next=hs.next+os.length
 | [],_=>rfl
 | o::os,hs=>by simp only[push,afj os,List.length_cons];omega
theorem ajW:∀ (a b:List Obj) (hs:HS),push hs (a++b)=push (push hs a) b
 | [],_,_=>rfl
 | o::a,b,hs=>by simp only[List.cons_append,push,ajW a b]
theorem MF (n:Nat) (v:AV):∃ u os,∀ hs:HS,hs.next=n→ji hs v=(u,push hs os):=by
 have same:(∀ hs,ji hs v=(v,hs))→∃ u os,∀ hs:HS,hs.next=n→ji hs v=(u,push hs os):=fun h=>⟨v,[],fun hs _=>h hs⟩
 cases v<;>try exact same fun hs=>rfl
 rename_i p m xs
 cases p with
 | false=>exact same fun hs=>rfl
 | true =>
  cases hm:Nat.beq m 0 with
  | true=>simp_all [ji]
  | false =>
   refine⟨.sl n 0 xs.length,[.arr m xs],fun hs hn=>?_⟩
   grind [ji,push]
theorem Jv (n o:Nat) (v:AV):∃ u os,∀ hs:HS,hs.next=n→iH hs o v=(u,push hs os):=by
 have one:(∀ hs,iH hs o v=ji hs v)→∃ u os,∀ hs:HS,hs.next=n→iH hs o v=(u,push hs os):=fun h=>by
  simp_all [MF]
 cases v<;>try exact one fun hs=>rfl
 rename_i cs
 cases hc:cs[o]? with
 | none=>exact⟨.agg cs,[],fun hs _=>by grind [iH,push]⟩
 | some v =>
  obtain⟨u,os,k⟩:=MF n v;exact⟨.agg (cs.set o u),os,fun hs hn=>by grind [iH]⟩
theorem ahj (n:Nat) (p:Nat×Nat) (v:AV):∃ u os,∀ hs:HS,hs.next=n→kz hs p v=(u,push hs os):=by
 have one:(∀ hs,kz hs p v=iH hs p.2 v)→∃ u os,∀ hs:HS,hs.next=n→kz hs p v=(u,push hs os):=fun h=>by
  simp_all [Jv]
 cases v<;>try exact one fun hs=>rfl
 rename_i cs
 cases hc:cs[p.1]? with
 | none=>exact⟨.tup cs,[],fun hs _=>by grind [kz,push]⟩
 | some v =>
  obtain⟨u,os,k⟩:=Jv n p.2 v;exact⟨.tup (cs.set p.1 u),os,fun hs hn=>by grind [kz]⟩
theorem FC:∀ (th:List (Nat×Nat)) (n:Nat) (v:AV),∃ u os,∀ hs:HS,hs.next=n→bK th v hs=(u,push hs os)
 | [],n,v=>⟨v,[],fun hs _=>rfl⟩
 | p::r,n,v=>by
  obtain⟨u,os,k⟩:=ahj n p v;obtain⟨u2,os2,k2⟩:=FC r (n+os.length) u;refine⟨u2,os++os2,fun hs hn=>?_⟩
  grind [bK,afj,ajW]
end
def tB.K:tB→HK
 | .q=>KQ
 | .t=>KT
 | .a=>KA
 | .p=>KP
section
variable {r:bC}
theorem rJ {i:VI}(h:i.th=[]) (st:St):de r i st=match (match br i.op r st with | some (v,st)=>some (firm v,st) | none=>none) with | some (v,st)=>some (ba i.dst v st) | none=>none:=by
 grind [de]
theorem eG.firm {K:HK}{f:St→Option (AV×St)}{R M:List Nat}(h:eG K f R M):eG K (fun st=>match f st with | some (v,st)=>some (firm v,st) | none=>none) R M:=by
 intro e hs v st1 hf;simp only at hf;split at hf
 ·rename_i u st0 hu;simp only[Option.some.injEq,Prod.mk.injEq]at hf;obtain⟨rfl,rfl⟩:=hf;obtain⟨ρ,τ,h1,h2,h3,h4,h5⟩:=h e hs u st0 hu;refine⟨ρ,τ,h1,h2,h3,h4,fun e' hs' he hρ=>?_⟩;obtain⟨e1',q1,q2,q3⟩:=h5 e' hs' he hρ
  simp_all
 simp_all
theorem aoN (zs:List AV):eG KA (GE zs) [] []:=by
 intro e hs v st1 hf;obtain⟨rfl,rfl⟩:=hf;refine⟨fun hs'=>hs'.next=hs.next,fun hs'=>push hs' [.cells zs],⟨[.cells zs],fun _ _ h=>h,fun _ _=>rfl⟩,rfl,fun h=>h,fun _ _=>rfl,fun e' hs' _ hn=>⟨e',?_,fun _ _=>rfl,fun k hk=>by simp at hk⟩⟩;simp only[GE,hn];rfl
theorem ata (x:Rd):eG KA (NF x) (jt x) (f9 x):=by
 intro e hs v st1 hf;unfold NF at hf;split at hf
 ·rename_i u e1 hr;split at hf
  ·rename_i hc;obtain⟨rfl,rfl⟩:=hf;obtain⟨s1,g1,l1⟩:=Kr hr;refine⟨fun hs'=>hs'.next=hs.next,fun hs'=>push hs' [.cells u.cells],⟨[.cells u.cells],fun _ _ h=>h,fun _ _=>rfl⟩,rfl,s1,fun k hk=>by simp_all,fun e' hs' he hn=>?_⟩;obtain⟨e1',hr',g1'⟩:=l1 e' he;refine⟨e1',?_,fun k hk=>by simp_all,fun k hk=>by simp_all⟩;unfold NF;simp only[hr',hc,hn];rfl
  simp_all
 simp_all
theorem am6 {i:VI}{p:Nat×Nat}{th:List (Nat×Nat)}(h:i.th=p::th) (st:St):de r i st=match (match br i.op r st with | some (v,st)=>some (firm (bK (p::th) v st.hs).1,(⟨st.env,(bK (p::th) v st.hs).2⟩:St)) | none=>none) with | some (v,st)=>some (ba i.dst v st) | none=>none:=by
 grind [de]
theorem eG.thaw {f:St→Option (AV×St)}{R M:List Nat}(h:cw f R M) (th:List (Nat×Nat)):eG KA (fun st=>match f st with | some (v,st)=>some (Go.Vm.firm (bK th v st.hs).1,(⟨st.env,(bK th v st.hs).2⟩:St)) | none=>none) R M:=by
 intro e hs v st1 hf;simp only at hf;split at hf
 ·rename_i u st0 hu;obtain⟨rfl,rfl⟩:=hf;obtain⟨h1,h2,h3,h4⟩:=h e hs u st0 hu;obtain⟨w,os,hw⟩:=FC th hs.next u;refine⟨fun hs'=>bx hs.heap hs'.heap∧hs'.next=hs.next,fun hs'=>push hs' os,⟨os,fun _ a b=>⟨a,b⟩,fun _ _=>rfl⟩,?_,h2,h3,fun e' hs' he hρ=>?_⟩
  ·simp_all
  ·obtain⟨e1',q1,q2,q3⟩:=h4 e' hs' he hρ.1
   simp_all
 simp_all
theorem js {i:VI}{k:tB}{R M:List Nat}(h:fu i=some (k,R,M)):NQ k.K (bh r i) R M:=by
 unfold fu at h;split at h
 ·rename_i p th hth;split at h
  ·rename_i R0 M0 hf;obtain⟨rfl,rfl,rfl⟩:=h;exact lX (am6 hth) (eG.thaw (Ta (r:=r) hf) (p::th)) KA.id
  simp_all
 ·rename_i hth;split at h
  ·rename_i n p ho;obtain⟨rfl,rfl,rfl⟩:=h;exact lX (rJ hth) (eG.firm (by rw[ho];exact avK n p)) KT.id
  ·rename_i m x y ho;obtain⟨rfl,rfl,rfl⟩:=h;exact lX (rJ hth) (eG.firm (by rw[ho];exact aka m _ y)) KP.id
  ·rename_i m x y ho;obtain⟨rfl,rfl,rfl⟩:=h;exact lX (rJ hth) (eG.firm (by rw[ho];exact aka m _ y)) KP.id
  ·rename_i zs ho;obtain⟨rfl,rfl,rfl⟩:=h;exact lX (rJ hth) (eG.firm (by rw[ho];exact aoN zs)) KA.id
  ·rename_i x ho;obtain⟨rfl,rfl,rfl⟩:=h;exact lX (rJ hth) (eG.firm (by rw[ho];exact ata x)) KA.id
  ·split at h
   ·rename_i R0 M0 hf;obtain⟨rfl,rfl,rfl⟩:=h;exact lX (rJ hth) (eG.firm (awb (Ta (r:=r) hf))) KQ.id
   simp_all
structure bw (st:St):Prop where
 se:be st.env
 sh:be st.hs.heap
 fr:∀ id,st.hs.next≤id→get st.hs.heap id=none
theorem HM (h:ac) (id k:Nat) (o:Option Obj):get (zg h id o) k=match o with | none=>get h k | some o=>if k=id then some o else get h k:=by
 cases o with
 | none=>rfl
 | some o=>exact cO h id k o
theorem R9 {h:ac}(hs:be h) (id:Nat) (o:Option Obj):be (zg h id o):=by
 cases o with
 | none=>exact hs
 | some o=>exact hs.put _ _
theorem Th:∀ (os:List Obj) (hs:HS) (k:Nat),k<hs.next→get (push hs os).heap k=get hs.heap k
 | [],_,_,_=>rfl
 | o::os,hs,k,hk=>by
  rw[push,Th os _ k (by grind)]
  grind [cO]
theorem anH:∀ (os:List Obj) (hs:HS),(∀ id,hs.next≤id→get hs.heap id=none)→∀ id,(push hs os).next≤id→get (push hs os).heap id=none
 | [],_,h=>h
 | o::os,hs,h=>anH os _ fun id hid=>by
  grind [cO]
theorem ajQ:∀ (os:List Obj) (hs:HS),be hs.heap→be (push hs os).heap
 | [],_,h=>h
 | o::os,hs,h=>ajQ os _ (h.put _ _)
theorem alf:∀ (os:List Obj) (hs:HS) (id:Nat) (o:Option Obj),be hs.heap→id<hs.next→push ⟨zg hs.heap id o,hs.next⟩ os=⟨zg (push hs os).heap id o,(push hs os).next⟩
 | [],_,_,_,_,_=>rfl
 | p::os,hs,id,o,hsrt,hid=>by
  have e:put (zg hs.heap id o) hs.next p=zg (put hs.heap hs.next p) id o:=by
   refine mD ((R9 hsrt id o).put _ _) (R9 (hsrt.put _ _) id o) fun k=>?_
   grind [cO,HM]
  simp only[push];rw[e];exact alf os ⟨put hs.heap hs.next p,hs.next+1⟩ id o (hsrt.put _ _) (by grind)
theorem bx.push {hs:HS}(fr:∀ id,hs.next≤id→get hs.heap id=none) (os:List Obj):bx hs.heap (push hs os).heap:=by
 intro id o h
 grind [fw.refl,Th]
theorem bx.upd {h:ac}{id:Nat}{o0:Obj}{o:Option Obj}(g:get h id=some o0) (ho:∀ o1,o=some o1→fw o0 o1):bx h (zg h id o)∧bx (zg h id o) h:=by
 constructor
 ·intro k x hx
  grind [HM,fw.refl]
 ·intro k x hx
  grind [HM,fw.refl,fw.symm]
theorem Cs {i:VI}{k:tB}{R M:List Nat}(h:fu i=some (k,R,M)) {st st1:St}(inv:bw st) (hr:bh r i st=some st1):bw st1:=by
 obtain⟨e,hs⟩:=st;obtain⟨ρ,τ,hK,h1,h2,_,_⟩:=js (r:=r) h e hs st1 hr;refine⟨h2 inv.se,?_,?_⟩
 ·rw[h1]
  cases k with
  | q=>rw[hK.2 hs];exact inv.sh
  | t =>
   rcases hK with ⟨id,o0,o,g,_,ht,_⟩ | ⟨_,ht⟩
   ·rw[ht];exact R9 inv.sh _ _
   ·rw[ht];exact inv.sh
  | a=>obtain⟨os,_,ht⟩:=hK;rw[ht hs rfl];exact ajQ _ _ inv.sh
  | p =>
   rcases hK with hK | ⟨id,_,_,ht⟩
   ·rw[hK.2 hs];exact inv.sh
   ·rw[ht];exact inv.sh.del _
 ·rw[h1]
  cases k with
  | q=>rw[hK.2 hs];exact inv.fr
  | t =>
   rcases hK with ⟨id,o0,o,g,_,ht,_⟩ | ⟨_,ht⟩
   ·rw[ht];intro k hk;have:=inv.fr k hk
    grind [HM]
   ·rw[ht];exact inv.fr
  | a=>obtain⟨os,_,ht⟩:=hK;rw[ht hs rfl];exact anH _ _ inv.fr
  | p =>
   rcases hK with hK | ⟨id,_,_,ht⟩
   ·rw[hK.2 hs];exact inv.fr
   ·rw[ht];intro k hk;rw[AA];split
    ·rfl
    ·exact inv.fr k hk
theorem aoI {u v:VI}(h:AB u v=true) {st st1 st2:St}(inv:bw st) (a:bh r u st=some st1) (b:bh r v st1=some st2):∃ st1',bh r v st=some st1'∧bh r u st1'=some st2:=by
 unfold AB at h;split at h
 ·rename_i k1 R1 M1 k2 R2 M2 e1 e2;simp only[Bool.and_eq_true]at h;obtain⟨⟨⟨hk,a1⟩,a2⟩,a3⟩:=h;have d1:∀ k∈M1,k∉R2∧k∉M2:=fun k hk=>⟨eM a1 k hk,eM a2 k hk⟩
  have d2:∀ k∈M2,k∉R1∧k∉M1:=fun k hk=>⟨eM a3 k hk,fun h=>eM a2 k h hk⟩
  have inv1:=Cs e1 inv a;have inv2:=Cs e2 inv1 b;obtain⟨e,hs⟩:=st;obtain⟨ρ1,τ1,K1,q1,q2,q3,q4⟩:=js (r:=r) e1 e hs _ a;obtain⟨en1,hs1⟩:=st1;subst q1;obtain⟨ρ2,τ2,K2,p1,p2,p3,p4⟩:=js (r:=r) e2 en1 (τ1 hs) _ b;have key:ρ2 hs∧ρ1 (τ2 hs)∧τ1 (τ2 hs)=τ2 (τ1 hs):=by
   cases k1 with
   | a=>grind [sc]
   | p =>
    cases k2 with
    | t=>grind [sc]
    | a=>grind [sc]
    | p=>grind [sc]
    | q =>
     have ht:∀ x,τ2 x=x:=K2.2;rcases K1 with K1 | ⟨id,_,hρ,hτ⟩
     ·rw[K1.2 hs]at K2;exact⟨K2.1 _ (.refl _),by rw[ht];exact K1.1 _ (.refl _),by simp_all⟩
     ·exact⟨K2.1 _ (by grind [bx.del]),by grind [bx.refl],by simp_all⟩
   | q =>
    have ht:∀ x,τ1 x=x:=K1.2
    cases k2 with
    | p=>grind [sc]
    | q =>
     rw[ht hs]at K2;exact⟨K2.1 _ (.refl _),by rw[K2.2];exact K1.1 _ (.refl _),by simp_all⟩
    | t =>
     rw[ht hs]at K2;rcases K2 with ⟨id,o0,o,g,hρ,hτ,hl⟩ | ⟨hρ,hτ⟩
     ·exact⟨hρ _ g,by rw[hτ];exact K1.1 _ (bx.upd g hl).1,by simp_all⟩
     ·exact⟨hρ _,by rw[hτ];exact K1.1 _ (.refl _),by simp_all⟩
    | a =>
     rw[ht hs]at K2;obtain⟨os,hρ,hτ⟩:=K2;exact⟨hρ _ (.refl _) rfl,by rw[hτ _ rfl];exact K1.1 _ (bx.push inv.fr os),by simp_all⟩
   | t =>
    cases k2 with
    | t=>grind [sc]
    | p=>grind [sc]
    | q =>
     have ht:∀ x,τ2 x=x:=K2.2;rcases K1 with ⟨id,o0,o,g,hρ,hτ,hl⟩ | ⟨hρ,hτ⟩
     ·exact⟨K2.1 _ (by grind [bx.upd]),by simp_all,by simp_all⟩
     ·exact⟨K2.1 _ (by grind [bx.refl]),hρ _,by simp_all⟩
    | a =>
     obtain⟨os,hρ2,hτ2⟩:=K2;rcases K1 with ⟨id,o0,o,g,hρ,hτ,hl⟩ | ⟨hρ,hτ⟩
     ·have hn:(τ1 hs).next=hs.next:=by rw[hτ]
      have hid:id<hs.next:=by
       rcases Nat.lt_or_ge id hs.next with h1 | h1
       ·exact h1
       ·have:=inv.fr id h1;simp_all
      refine⟨hρ2 _ (by grind [bx.upd]) hn.symm,?_,?_⟩
      ·grind [Th]
      ·rw[hτ2 _ hn.symm,hτ2 _ rfl,hτ,hτ];exact(alf os hs id o inv.sh hid).symm
     grind [bx.refl]
  obtain⟨c1,c2,c3⟩:=key;obtain⟨e1',k1',k2',k3'⟩:=p4 e hs (fun k hk=>(q3 k (fun hm=>(d1 k hm).1 hk)).symm) c1;obtain⟨e2',m1,m2,m3⟩:=q4 e1' (τ2 hs) (fun k hk=>k2' k fun hm=>(d2 k hm).1 hk) c2;have invA:=Cs e2 inv k1';have invB:=Cs e1 invA m1;refine⟨⟨e1',τ2 hs⟩,k1',?_⟩;rw[m1,c3]
  congr 2
  refine mD invB.se inv2.se fun k=>?_
  by_cases hk1:k∈M1
  all_goals grind
 simp_all
end
mutual
theorem arQ:∀ (a b:D),JJ a b=true→a=b
 | .int k n,b,h=>by
  cases b<;>simp only[JJ,Bool.false_eq_true,Bool.and_eq_true,decide_eq_true_eq]at h
  rw[xM h.1,h.2]
 | .bool x,b,h=>by
  cases b<;>simp only[JJ,Bool.false_eq_true,beq_iff_eq]at h
  rw[h]
 | .str s,b,h=>by
  cases b<;>simp only[JJ,Bool.false_eq_true,beq_iff_eq]at h
  rw[h]
 | .lst xs,b,h=>by
  cases b<;>simp only[JJ,Bool.false_eq_true]at h
  rw[eqDss_eq xs _ h]
theorem ac1:∀ (a b:List D),M6 a b=true→a=b
 | [],b,h=>by cases b<;>simp only[M6,Bool.false_eq_true]at h;rfl
 | x::r,b,h=>by
  cases b<;>simp only[M6,Bool.false_eq_true,Bool.and_eq_true]at h
  rw[arQ x _ h.1,ac1 r _ h.2]
theorem eqDss_eq:∀ (a b:List (List D)),eqDss a b=true→a=b
 | [],b,h=>by cases b<;>simp only[eqDss,Bool.false_eq_true]at h;rfl
 | x::r,b,h=>by
  cases b<;>simp only[eqDss,Bool.false_eq_true,Bool.and_eq_true]at h
  rw[ac1 x _ h.1,eqDss_eq r _ h.2]
end
mutual
theorem awj:∀ (a b:AV),ee a b=true→a=b
 | .junk,b,h=>by cases b<;>simp only[ee,Bool.false_eq_true]at h;rfl
 | .d x,b,h=>by
  cases b<;>simp only[ee,Bool.false_eq_true]at h
  rw[arQ x _ h]
 | .nl,b,h=>by cases b<;>simp only[ee,Bool.false_eq_true]at h;rfl
 | .own p m xs,b,h=>by
  cases b<;>simp only[ee,Bool.false_eq_true,Bool.and_eq_true,beq_iff_eq,Nat.beq_eq]at h
  rw[h.1.1,h.1.2,eqDss_eq xs _ h.2]
 | .gl n,b,h=>by
  cases b<;>simp only[ee,Bool.false_eq_true,Nat.beq_eq]at h
  rw[h]
 | .agg cs,b,h=>by
  cases b<;>simp only[ee,Bool.false_eq_true]at h
  rw[eqAVs_eq cs _ h]
 | .tup cs,b,h=>by
  cases b<;>simp only[ee,Bool.false_eq_true]at h
  rw[eqAVs_eq cs _ h]
 | .nilp,b,h=>by cases b<;>simp only[ee,Bool.false_eq_true]at h;rfl
 | .ptr _ _,b,h=>by
  cases b<;>simp only[ee,Bool.false_eq_true,Bool.and_eq_true,Nat.beq_eq]at h
  rw[h.1,h.2]
 | .pel _ _ _,b,h=>by
  cases b<;>simp only[ee,Bool.false_eq_true,Bool.and_eq_true,Nat.beq_eq]at h
  rw[h.1.1,h.1.2,h.2]
 | .pim cs _,b,h=>by
  cases b<;>simp only[ee,Bool.false_eq_true,Bool.and_eq_true,Nat.beq_eq]at h
  rw[ac1 cs _ h.1,h.2]
 | .sl _ _ _,b,h=>by
  cases b<;>simp only[ee,Bool.false_eq_true,Bool.and_eq_true,Nat.beq_eq]at h
  rw[h.1.1,h.1.2,h.2]
 | .fn _ a c,b,h=>by
  cases b<;>simp only[ee,Bool.false_eq_true,Bool.and_eq_true,Nat.beq_eq]at h
  rw[h.1.1,eqAVs_eq a _ h.1.2,eqAVs_eq c _ h.2]
 | .nilf,b,h=>by cases b<;>simp only[ee,Bool.false_eq_true]at h;rfl
 | .yield _,b,h=>by
  cases b<;>simp only[ee,Bool.false_eq_true,Nat.beq_eq]at h
  rw[h]
theorem eqAVs_eq:∀ (a b:List AV),eqAVs a b=true→a=b
 | [],b,h=>by cases b<;>simp only[eqAVs,Bool.false_eq_true]at h;rfl
 | x::r,b,h=>by
  cases b<;>simp only[eqAVs,Bool.false_eq_true,Bool.and_eq_true]at h
  rw[awj x _ h.1,eqAVs_eq r _ h.2]
end
theorem ax5 {a b:Obj}(h:eqO a b=true):a=b:=by
 cases a<;>cases b<;>simp only[eqO,Bool.false_eq_true,Bool.and_eq_true,Nat.beq_eq]at h
 all_goals grind [eqAVs_eq,eqDss_eq]
theorem Mv (h:ac) (k:Nat):∀ (ids:List Nat),get (bO ids h) k=if k∈ids then get h k else none
 | []=>by grind [bO,sk]
 | i::r=>by
  have ih:=Mv h k r
  grind [bO,cO]
theorem bx.only (h:ac) (ids:List Nat):bx (bO ids h) h:=by
 intro k o hk
 grind [Mv,fw.refl]
theorem ae5:∀ {F:List Nat}{h h':ac},bM F h h'=true→∀ {k:Nat}{o:Obj},k∈F→get h k=some o→get h' k=some o
 | [],_,_,_,k,o,hm,_=>by simp at hm
 | i::r,h,h',hs,k,o,hm,hk=>by
  simp only[bM,Bool.and_eq_true]at hs;rcases List.mem_cons.1 hm with e | hm
  ·grind [ax5]
  ·exact ae5 hs.2 hm hk
theorem aeP:∀ {F:List Nat}{h h':ac}{i:Nat},bM F h h'=true→i∈F→(match get h i with
   | some o=>(match get h' i with | some o'=>eqO o o' | none=>false)
   | none=>true)=true
 | x::F,h,h',i,hs,hi=>by
  simp only[bM,Bool.and_eq_true]at hs;rcases List.mem_cons.1 hi with e | hi
  ·grind
  ·exact aeP hs.2 hi
theorem aeL:∀ {F' F:List Nat}{h h':ac},bM F h h'=true→(∀ k∈F',k∈F)→bM F' h h'=true
 | [],_,_,_,_,_=>rfl
 | i::r,F,h,h',hs,hsub=>by
  simp only[bM,Bool.and_eq_true];exact⟨aeP hs (hsub i (.head _)),aeL hs fun k hk=>hsub k (.tail _ hk)⟩
theorem bx.same {F ids:List Nat}{h h':ac}(hs:bM F h h'=true) (hsub:∀ k∈ids,k∈F):bx (bO ids h) (bO ids h'):=by
 intro k o hk
 grind [Mv,ae5,fw.refl]
section
variable {r:bC}
def aiL (f:St→Option St) (R M:List Nat):Prop :=
 ∀ e hs st1,f ⟨e,hs⟩=some st1→(be e→be st1.env)∧(∀ k,k∉M→get st1.env k=get e k)∧
  ∀ e',(∀ k∈R,get e' k=get e k)→∃ e1',f ⟨e',hs⟩=some ⟨e1',st1.hs⟩∧(∀ k,k∉M→get e1' k=get e' k)∧∀ k∈M,get e1' k=get st1.env k
theorem NQ.w {K:HK}{f:St→Option St}{R M:List Nat}(h:NQ K f R M) (hK:∀ hs ρ τ,K hs ρ τ→ρ hs):aiL f R M:=by
 intro e hs st1 hf;obtain⟨ρ,τ,k,q1,q2,q3,q4⟩:=h e hs st1 hf;refine⟨q2,q3,fun e' he=>?_⟩;rw[q1];exact q4 e' hs he (hK _ _ _ k)
theorem tB.self (k:tB) (hs:HS) (ρ:HS→Prop) (τ:HS→HS) (h:k.K hs ρ τ):ρ hs:=by
 cases k with
 | q=>exact h.1 _ (.refl _)
 | t =>
  rcases h with ⟨id,o0,o,g,hρ,_⟩ | ⟨hρ,_⟩<;>simp_all
 | a=>obtain⟨os,hρ,_⟩:=h;grind [bx.refl]
 | p =>
  rcases h with h | ⟨id,_,hρ,_⟩
  ·exact h.1 _ (.refl _)
  grind [bx.refl]
def KW:HK:=fun hs ρ _=>ρ hs
theorem KW.id (hs:HS):KW hs (fun _=>True) _root_.id:=trivial
theorem eG.rdsW {f:St→Option (AV×St)}{rs:List Rd}(F:List AV→HS→Option (AV×HS))
  (h:∀ e hs,f ⟨e,hs⟩=match rdAll e rs with | none=>none | some (vs,e1)=>match F vs hs with | none=>none | some (v,hs1)=>some (v,⟨e1,hs1⟩)):eG KW f (aP rs) (aB rs):=by
 intro e hs v st1 hf;rw[h]at hf;split at hf
 ·simp at hf
 ·rename_i vs e1 hr;split at hf
  ·simp at hf
  ·rename_i u hs1 hu;obtain⟨rfl,rfl⟩:=hf;obtain⟨s1,g1,l1⟩:=DZ hr;refine⟨fun hs'=>hs'=hs,fun _=>hs1,rfl,rfl,s1,fun k hk=>by simp_all,fun e' hs' he hρ=>?_⟩;obtain⟨e1',hr',g1'⟩:=l1 e' he
   simp_all
theorem eG.thawW {f:St→Option (AV×St)}{R M:List Nat}(h:eG KW f R M) (th:List (Nat×Nat)):eG KW (fun st=>match f st with | some (v,st)=>some (Go.Vm.firm (bK th v st.hs).1,(⟨st.env,(bK th v st.hs).2⟩:St)) | none=>none) R M:=by
 intro e hs v st1 hf;simp only at hf;split at hf
 ·rename_i u st0 hu;obtain⟨rfl,rfl⟩:=hf;obtain⟨ρ,τ,k,h1,h2,h3,h4⟩:=h e hs u st0 hu;refine⟨fun hs'=>hs'=hs,fun _=>(bK th u st0.hs).2,rfl,rfl,h2,h3,fun e' hs' he hρ=>?_⟩;subst hρ;obtain⟨e1',q1,q2,q3⟩:=h4 e' hs' he k
  simp_all
 simp_all
theorem arN {v:jR}{rs:List Rd}(h:asP v=some rs):eG KW (br v r) (aP rs) (aB rs):=by
 unfold asP at h;split at h<;>simp only[Option.some.injEq,reduceCtorEq]at h<;>subst h
 ·rename_i n t p;refine eG.rdsW (fun vs hs=>match vs with | [p]=>(match loadAt hs.heap n t p with | some (v,h)=>some (v,⟨h,hs.next⟩) | none=>none) | _=>none) fun e hs=>?_
  grind [br,wI,rdAll]
 ·rename_i n p x;refine eG.rdsW (fun vs hs=>match vs with | [p,v]=>(match storeAt hs.heap n p v with | some h=>some (.junk,⟨h,hs.next⟩) | none=>none) | _=>none) fun e hs=>?_
  simp only[br,apa,rdAll]
  grind
 ·rename_i m x y;refine eG.rdsW (fun vs hs=>match vs with
   | [a,b]=>(match Y0 m (.c a) (.c b) ⟨[],hs⟩ with | some (v,st)=>some (v,st.hs) | none=>none)
   | _=>none) fun e hs=>?_
  simp only[br,Y0,rdAll]
  cases rd e x with
  | none=>rfl
  | some q =>
   obtain⟨a,e1⟩:=q;simp only
   cases rd e1 y with
   | none=>rfl
   | some q =>
    obtain⟨b,e2⟩:=q;simp only[rd]
    cases elems hs.heap b with
    | none=>rfl
    | some ys =>
     simp only;split<;>grind
 ·rename_i z x;refine eG.rdsW (fun vs hs=>match vs with
   | [a]=>(match Nu z (.c a) ⟨[],hs⟩ with | some (v,st)=>some (v,st.hs) | none=>none)
   | _=>none) fun e hs=>?_
  simp only[br,Nu,rdAll]
  grind [rd]
 ·rename_i f args;refine eG.rdsW (fun vs hs=>r.call f vs hs) fun e hs=>?_
  grind [br,vZ]
 ·refine eG.rdsW (fun vs hs=>match vs with | fv::vs=>bc r fv vs hs | []=>none) fun e hs=>?_
  grind [br,wG,rdAll]
theorem sE {i:VI}{R M:List Nat}(h:fH i=some (R,M)):aiL (bh r i) R M:=by
 unfold fH at h;split at h
 ·rename_i k R0 M0 hk;obtain⟨rfl,rfl⟩:=h;exact(js hk).w k.self
 ·split at h
  ·rename_i rs hrs;obtain⟨rfl,rfl⟩:=h;refine NQ.w (K:=KW) ?_ fun _ _ _ h=>h
   cases hth:i.th with
   | nil=>exact lX (rJ hth) (eG.firm (arN hrs)) KW.id
   | cons p th=>exact lX (am6 hth) (eG.thawW (arN hrs) (p::th)) KW.id
  simp_all
theorem KL {i:VI}{k:tB}{R M:List Nat}(h:fu i=some (k,R,M)) {d:Nat}(hd:i.dst=some d):d∈M:=by
 grind [qa,fu]
theorem xE {i:VI}{R M:List Nat}(h:fH i=some (R,M)) {d:Nat}(hd:i.dst=some d):d∈M:=by
 grind [fH,KL,qa]
theorem Tu {e e':ao}:∀ {ws:List Nat},(∀ k∈ws,get e' k=get e k)→NS e' ws=NS e ws
 | [],_=>rfl
 | w::ws,h=>by
  simp only[NS,h w (.head _),Tu fun k hk=>h k (.tail _ hk)]
theorem ge {a:Bool}{i:VI}{R M:List Nat}(h:qn a i=some (R,M)) (F:List Nat):aiL (aR r a F i) R M:=by
 unfold qn at h;split at h
 ·rename_i R0 M0 hf
  cases a with
  | false =>
   obtain⟨rfl,rfl⟩:=h;exact sE hf
  | true =>
   obtain⟨rfl,rfl⟩:=h;have hl:=sE (r:=r) hf;intro e hs st1 hr;have hids:∀ e',(∀ k∈R0++M4 (NV i.op),get e' k=get e k)→jm i e'=jm i e:=fun e' he=>Tu fun k hk=>he k (List.mem_append_right _ hk)
   have hR0:∀ e',(∀ k∈R0++M4 (NV i.op),get e' k=get e k)→∀ k∈R0,get e' k=get e k:=fun e' he k hk=>he k (List.mem_append_left _ hk)
   simp only[aR,oh]at hr;split at hr
   ·split at hr
    ·rename_i st2 h2;split at hr
     ·simp only[Option.some.injEq]at hr;subst hr;obtain⟨q1,q2,q3⟩:=hl e hs _ h2;refine⟨q1,q2,fun e' he=>?_⟩;obtain⟨e1',p1,p2,p3⟩:=q3 e' (hR0 e' he)
      grind [aR,oh]
     simp_all
    simp_all
   ·split at hr
    ·rename_i st2 h2;split at hr
     ·split at hr
      ·split at hr
       ·simp only[Option.some.injEq]at hr;subst hr;obtain⟨q1,q2,q3⟩:=hl e hs _ h2;refine⟨q1,q2,fun e' he=>?_⟩;obtain⟨e1',p1,p2,p3⟩:=q3 e' (hR0 e' he)
        grind [xE,aR,oh]
       simp_all
      simp_all
     simp_all
    simp_all
   ·split at hr
    ·rename_i st2 h2;simp only[Option.some.injEq]at hr;subst hr;obtain⟨q1,q2,q3⟩:=hl e _ _ h2;refine⟨q1,q2,fun e' he=>?_⟩;obtain⟨e1',p1,p2,p3⟩:=q3 e' (hR0 e' he)
     simp_all [aR,oh]
    simp_all
 simp_all
theorem oj {f1 f2:St→Option St}{R1 M1 R2 M2:List Nat}(h1:aiL f1 R1 M1) (h2:aiL f2 R2 M2) (d1:∀ k∈M1,k∉R2∧k∉M2) (d2:∀ k∈M2,k∉R1∧k∉M1) {e e1 e2:ao}{hs hs1 hs2 hsB:HS}(hsrt:be e)
  (a:f1 ⟨e,hs⟩=some ⟨e1,hs1⟩) (b:f2 ⟨e1,hs1⟩=some ⟨e2,hs2⟩) (i:f2 ⟨e1,hs⟩=some ⟨e2,hsB⟩) (ii:f1 ⟨e,hsB⟩=some ⟨e1,hs2⟩) :
  ∃ st1',f2 ⟨e,hs⟩=some st1'∧f1 st1'=some ⟨e2,hs2⟩:=by
 obtain⟨s1,g1,_⟩:=h1 e hs _ a;obtain⟨s2,g2,l2⟩:=h2 e1 hs _ i;obtain⟨e',k1,k2,k3⟩:=l2 e fun k hk=>(g1 k fun hm=>(d1 k hm).1 hk).symm
 obtain⟨s3,g3,l3⟩:=h1 e hsB _ ii;obtain⟨e'',m1,m2,m3⟩:=l3 e' fun k hk=>k2 k fun hm=>(d2 k hm).1 hk
 refine⟨⟨e',hsB⟩,k1,?_⟩;rw[m1];obtain⟨t1,_,_⟩:=h2 e hs _ k1;obtain⟨t2,_,_⟩:=h1 e' hsB _ m1
 congr 2
 refine mD (t2 (t1 hsrt)) (s2 (s1 hsrt)) fun k=>?_
 by_cases hk1:k∈M1
 all_goals grind
theorem auh {v:jR}(hv:sOp v=true) {e:ao}{hs:HS}{x:AV}{st1:St}(h:br v r ⟨e,hs⟩=some (x,st1)):st1.hs=hs∧∀ hs',br v r ⟨e,hs'⟩=some (x,⟨st1.env,hs'⟩):=by
 cases v<;>simp only[sOp,Bool.false_eq_true]at hv
 all_goals
  simp only[br,Nt,gx,vR,I8,AJ,I3,Nk,GI,Gy,ZU,Bw,Cd,ig,aeb,Jb,FY,SX,Hf,ua,NC,Hx,qK]at h⊢
  repeat' split at h
  all_goals grind
end
structure n9 (r q:bC):Prop where
 code:∀ c st x,r.code c st=some x→q.code c st=some x
 call:∀ f a h x,r.call f a h=some x→q.call f a h=some x
section
variable {r q:bC}
theorem ahp (le:n9 r q) {f:FuncId}{vs:List AV}{h:ac}{x:AV}(e:bZ r f vs h=some x):bZ q f vs h=some x:=by
 unfold bZ at e⊢
 cases hd:viewArgs h vs with
 | none=>rw[hd]at e;simp at e
 | some ds =>
  rw[hd]at e;simp only at e⊢
  cases hc:r.call f ds ⟨[],0⟩ with
  | none=>rw[hc]at e;simp at e
  | some p =>
   obtain⟨v,hs⟩:=p;rw[hc]at e;rw[le.call _ _ _ _ hc];exact e
theorem ak8 (le:n9 r q) {l:Nat}{vs:List AV}{hs:HS}{x:AV×HS}(e:mP r l vs hs=some x):mP q l vs hs=some x:=by
 unfold mP at e⊢;split at e
 ·rename_i snap params assign body hg;split at e
  ·simp at e
  ·rename_i e1 he1
   try simp only[he1]
   split at e
   ·rename_i st1 hc;simp only[le.code _ _ _ hc];split at e
    ·rename_i snap2 params2 assign2 body2 hg2;split at e
     ·simp at e
     ·rename_i o st2 hc2;simp only[le.code _ _ _ hc2];exact e
    ·simp at e
   ·simp at e
 ·simp at e
theorem ala (le:n9 r q) {f:AV}{vs:List AV}{hs:HS}{x:AV×HS}(e:bc r f vs hs=some x):bc q f vs hs=some x:=by
 cases f<;>simp only[bc,reduceCtorEq]at e⊢
 ·exact le.call _ _ _ _ e
 ·exact ak8 le e
theorem ati (le:n9 r q) {o:jR}{st:St}{x:AV×St}(e:br o r st=some x):br o q st=some x:=by
 cases o<;>try exact e
 ·rename_i f args;simp only[br,xH]at e⊢
  cases hr:rdAll st.env args with
  | none=>rw[hr]at e;simp at e
  | some p =>
   obtain⟨vs,e1⟩:=p;rw[hr]at e;simp only at e⊢
   cases hc:bZ r f vs st.hs.heap with
   | none=>rw[hc]at e;simp at e
   | some v=>rw[hc]at e;rw[ahp le hc];exact e
 ·rename_i f args;simp only[br,vZ]at e⊢
  cases hr:rdAll st.env args with
  | none=>rw[hr]at e;simp at e
  | some p =>
   obtain⟨vs,e1⟩:=p;rw[hr]at e;simp only at e⊢
   cases hc:r.call f vs st.hs with
   | none=>rw[hc]at e;simp at e
   | some v=>rw[hc]at e;rw[le.call _ _ _ _ hc];exact e
 ·rename_i f args;simp only[br,wG]at e⊢
  cases hf:rd st.env f with
  | none=>rw[hf]at e;simp at e
  | some p =>
   obtain⟨fv,e0⟩:=p;rw[hf]at e;simp only at e⊢
   cases hr:rdAll e0 args with
   | none=>rw[hr]at e;simp at e
   | some p =>
    obtain⟨vs,e1⟩:=p;rw[hr]at e;simp only at e⊢
    cases hc:bc r fv vs st.hs with
    | none=>rw[hc]at e;simp at e
    | some v=>rw[hc]at e;rw[ala le hc];exact e
theorem vU (le:n9 r q) {i:VI}{st x:St}(e:bh r i st=some x):bh q i st=some x:=by
 have go:∀ x,de r i st=some x→de q i st=some x:=fun x e=>by
  unfold de at e⊢
  cases ho:br i.op r st with
  | none=>rw[ho]at e;simp at e
  | some p=>rw[ho]at e;rw[ati le ho];exact e
 unfold bh at e⊢;split at e
 ·exact go _ e
 ·split at e
  ·split at e
   ·simp_all
   ·simp_all
  ·exact e
  ·simp at e
theorem Nb (le:n9 r q):∀ {l:List VI}{st x:St},gh r l st=some x→gh q l st=some x
 | [],_,_,e=>e
 | i::l,st,x,e=>by
  simp only[gh]at e⊢
  cases hv:bh r i st with
  | none=>rw[hv]at e;simp at e
  | some st1=>rw[hv]at e;rw[vU le hv];exact Nb le e
theorem atH (le:n9 r q) {F:List Nat}{i:VI}{st x:St}(e:oh r F i st=some x):oh q F i st=some x:=by
 unfold oh at e⊢;split at e
 ·cases hv:bh r i st with
  | none=>rw[hv]at e;simp at e
  | some st1=>rw[hv]at e;rw[vU le hv];exact e
 ·cases hv:bh r i st with
  | none=>rw[hv]at e;simp at e
  | some st1=>rw[hv]at e;rw[vU le hv];exact e
 ·cases hv:bh r i ⟨st.env,⟨bO (jm i st.env) st.hs.heap,st.hs.next⟩⟩ with
  | none=>rw[hv]at e;simp at e
  | some st1=>rw[hv]at e;rw[vU le hv];exact e
theorem Xc (le:n9 r q) {a:Bool}{F:List Nat}{i:VI}{st x:St}(e:aR r a F i st=some x):aR q a F i st=some x:=by
 cases a
 ·exact vU le e
 ·exact atH le e
theorem Lg (le:n9 r q) {nr:List Nat}{vs:List VI}:∀ {l F:List Nat}{st x:St},cM r nr vs l F st=some x→cM q nr vs l F st=some x
 | [],_,_,_,e=>e
 | i::l,F,st,x,e=>by
  simp only[cM]at e⊢
  cases hi:vs[i]? with
  | none=>rw[hi]at e;simp at e
  | some v =>
   rw[hi]at e;simp only at e⊢
   cases hv:aR r (bW i nr) F v st with
   | none=>rw[hv]at e;simp at e
   | some st1=>rw[hv]at e;rw[Xc le hv];exact Lg le e
theorem IN (le:n9 r q) {c:VC}{st:St}{x:aX×St}(e:bj c r st=some x):bj c q st=some x:=by
 cases c<;>try exact e
 ·rename_i d ops;simp only[bj,N5]at e⊢
  cases hv:gh r ops st with
  | none=>rw[hv]at e;simp at e
  | some st1=>rw[hv]at e;rw[Nb le hv];exact e
 ·rename_i perm gco nr ops;simp only[bj,Fw,Gn]at e⊢
  cases ha:mS st.env ops with
  | false=>rw[ha]at e;simp at e
  | true =>
  rw[ha]at e;simp only at e⊢
  cases hv:cM r nr ops perm [] st with
  | none=>rw[hv]at e;simp at e
  | some st1=>rw[hv]at e;rw[Lg le hv];exact e
 ·rename_i a b;simp only[bj,IS]at e⊢
  cases hv:r.code a st with
  | none=>rw[hv]at e;simp at e
  | some p =>
   obtain⟨o,st1⟩:=p;rw[hv]at e;rw[le.code _ _ _ hv]
   cases o<;>simp only at e⊢
   ·exact le.code _ _ _ e
   all_goals exact e
 ·rename_i cr a b;simp only[bj,Fr]at e⊢;split at e
  ·exact le.code _ _ _ e
  ·exact le.code _ _ _ e
  ·simp at e
 ·rename_i id a;simp only[bj,Hb]at e⊢
  cases hv:r.code a st with
  | none=>rw[hv]at e;simp at e
  | some p=>rw[hv]at e;rw[le.code _ _ _ hv];exact e
 ·rename_i a;simp only[bj,M7]at e⊢
  cases hv:r.code a st with
  | none=>rw[hv]at e;simp at e
  | some p =>
   obtain⟨o,st1⟩:=p;rw[hv]at e;rw[le.code _ _ _ hv]
   cases o<;>simp only at e⊢
   ·exact le.code _ _ _ e
   all_goals exact e
 ·rename_i f params assign body;simp only[bj,vK]at e⊢;split at e
  ·rename_i g first caps e1 h1
   split at e
   ·rename_i v hs hc;rw[le.call _ _ _ _ hc];exact e
   ·simp at e
  ·simp at e
 ·exact le.code _ _ _ e
 ·rename_i a cur;simp only[bj,DW]at e⊢
  cases hv:r.code cur st with
  | none=>rw[hv]at e;simp at e
  | some p =>
   obtain⟨o,st1⟩:=p;rw[hv]at e;rw[le.code _ _ _ hv]
   cases o<;>simp only at e⊢
   ·exact e
   ·exact e
   ·split at e
    ·exact le.code _ _ _ e
    ·exact e
   ·exact e
 ·rename_i i d f a;simp only[bj,Mg]at e⊢
  cases hg:get st.env i with
  | none=>rw[hg]at e;simp at e
  | some p =>
   rw[hg]at e
   cases p<;>simp only at e⊢<;>try exact absurd e (by simp)
   rename_i id off
   cases hv:r.code a ⟨put st.env d (.ptr id off),st.hs⟩ with
   | none=>rw[hv]at e;simp at e
   | some p =>
    obtain⟨o,st1⟩:=p;rw[hv]at e;rw[le.code _ _ _ hv]
    cases o<;>simp only at e⊢<;>try exact absurd e (by simp)
    all_goals
     cases hc:r.call f [.ptr id off] st1.hs with
     | none=>rw[hc]at e;simp at e
     | some q=>rw[hc]at e;rw[le.call _ _ _ _ hc];exact e
theorem Xl (le:n9 r q) {P:Nat→Option ae}{f:FuncId}{a:List AV}{h:HS}{x:AV×HS}(e:nh P r f a h=some x):nh P q f a h=some x:=by
 unfold nh at e⊢;split at e
 ·simp at e
 ·rename_i fn hf;split at e
  ·simp at e
  ·rename_i hn
   cases hv:bj fn.body r ⟨fX 0 a,h⟩ with
   | none=>rw[hv]at e;simp at e
   | some p=>rw[hv]at e;simp only[hn,IN le hv];exact e
end
variable {P:Nat→Option ae}
def lim {α:Type}(f:Nat→Option α):Option α :=
 open Classical in if h:∃ x,∃ n,f n=some x then some (Classical.choose h) else none
theorem akQ {α:Type}{f:Nat→Option α}(mono:∀ n m x,f n=some x→f (n+m)=some x) {n:Nat}{x:α}(h:f n=some x):lim f=some x:=by
 have he:∃ x,∃ n,f n=some x:=⟨x,n,h⟩
 unfold lim;obtain⟨m,hm⟩:=Classical.choose_spec he;have h2:=mono m n _ hm
 grind
theorem aku {α:Type}{f:Nat→Option α}{x:α}(h:lim f=some x):∃ n,f n=some x:=by
 unfold lim at h;split at h<;>grind
variable {P:Nat→Option ae}
theorem n9.rfl' {r:bC}:n9 r r:=⟨fun _ _ _ h=>h,fun _ _ _ _ h=>h⟩
theorem n9.trans' {r q s:bC}(h:n9 r q) (k:n9 q s):n9 r s:=⟨fun c st x e=>k.code c st x (h.code c st x e),fun f a hs x e=>k.call f a hs x (h.call f a hs x e)⟩
theorem aef:∀ n:Nat,n9 (run P n) (run P (n+1))
 | 0=>⟨fun _ _ _ h=>by simp[run]at h,fun _ _ _ _ h=>by simp[run]at h⟩
 | n+1=>⟨fun c st x h=>IN (aef n) h,fun f a hs x h=>Xl (aef n) h⟩
theorem Mk (n:Nat):∀ m:Nat,n9 (run P n) (run P (n+m))
 | 0=>n9.rfl'
 | m+1=>(Mk n m).trans' (aef (n+m))
def Dn (P:Nat→Option ae):bC:=⟨fun c st=>lim fun n=>(run P n).code c st,fun f a h=>lim fun n=>(run P n).call f a h⟩
theorem ajL {c:VC}{st:St}{x:aX×St}{n:Nat}(h:(run P n).code c st=some x):(Dn P).code c st=some x :=
 akQ (fun n m x h=>(Mk n m).code _ _ _ h) h
theorem Sy {f:FuncId}{a:List AV}{hs:HS}{x:AV×HS}{n:Nat}(h:(run P n).call f a hs=some x):(Dn P).call f a hs=some x :=
 akQ (fun n m x h=>(Mk n m).call _ _ _ _ h) h
theorem anQ (n:Nat):n9 (run P n) (Dn P):=⟨fun _ _ _ h=>ajL h,fun _ _ _ _ h=>Sy h⟩
theorem Gu {n m:Nat}{c:VC}{st:St}{x:aX×St}(h:(run P n).code c st=some x) (le:n≤m):(run P m).code c st=some x:=by
 grind [n9.code,Mk,Nat.add_sub_cancel']
theorem up {n m:Nat}(le:n≤m):n9 (run P n) (run P m):=by
 grind [Mk,Nat.add_sub_cancel']
theorem pf {c:VC}{st:St}{x:aX×St}(h:(Dn P).code c st=some x):∃ n,(run P n).code c st=some x:=aku h
theorem wm {f:FuncId}{a:List AV}{hs:HS}{x:AV×HS}(h:(Dn P).call f a hs=some x):∃ n,(run P n).call f a hs=some x:=aku h
theorem amf {f:FuncId}{vs:List AV}{h:ac}{x:AV}(e:bZ (Dn P) f vs h=some x):∃ n,bZ (run P n) f vs h=some x:=by
 grind [bZ,wm]
theorem apm {l:Nat}{vs:List AV}{hs:HS}{x:AV×HS}(e:mP (Dn P) l vs hs=some x):∃ n,mP (run P n) l vs hs=some x:=by
 unfold mP at e⊢;split at e
 ·split at e
  ·simp at e
  ·split at e<;>grind [pf,Gu]
 simp_all
theorem apb {f:AV}{vs:List AV}{hs:HS}{x:AV×HS}(e:bc (Dn P) f vs hs=some x):∃ n,bc (run P n) f vs hs=some x:=by
 cases f<;>simp only[bc,reduceCtorEq]at e⊢
 all_goals grind [wm,apm]
theorem ayS {o:jR}{st:St}{x:AV×St}(e:br o (Dn P) st=some x):∃ n,br o (run P n) st=some x:=by
 cases o<;>try exact⟨0,e⟩
 ·rename_i f args;simp only[br,xH]at e⊢
  cases hr:rdAll st.env args<;>grind [amf]
 ·rename_i f args;simp only[br,vZ]at e⊢
  cases hr:rdAll st.env args<;>grind [wm]
 ·rename_i f args;simp only[br,wG]at e⊢
  cases hf:rd st.env f with
  | none=>simp_all
  | some p =>
   obtain⟨fv,e0⟩:=p;simp only at e⊢
   cases hr:rdAll e0 args<;>grind [apb]
theorem aiI {i:VI}{st x:St}(e:bh (Dn P) i st=some x):∃ n,bh (run P n) i st=some x:=by
 have go:∀ x,de (Dn P) i st=some x→∃ n,de (run P n) i st=some x:=fun x e=>by
  grind [de,ayS]
 unfold bh at e⊢;split at e
 ·simp_all
 ·split at e
  ·split at e<;>simp_all
  all_goals simp_all
theorem amP:∀ {l:List VI}{st x:St},gh (Dn P) l st=some x→∃ n,gh (run P n) l st=some x
 | [],_,_,e=>⟨0,e⟩
 | i::l,st,x,e=>by
  simp only[gh]at e⊢
  cases hv:bh (Dn P) i st with
  | none=>simp_all
  | some st1 =>
   rw[hv]at e;obtain⟨n1,h1⟩:=aiI hv;obtain⟨n2,h2⟩:=amP e;refine⟨n1+n2,?_⟩;rw[vU (up (Nat.le_add_right n1 n2)) h1];exact Nb (up (Nat.le_add_left n2 n1)) h2
theorem azp {F:List Nat}{i:VI}{st x:St}(e:oh (Dn P) F i st=some x):∃ n,oh (run P n) F i st=some x:=by
 grind [oh,aiI]
theorem as5 {a:Bool}{F:List Nat}{i:VI}{st x:St}(e:aR (Dn P) a F i st=some x):∃ n,aR (run P n) a F i st=some x:=by
 cases a
 ·exact aiI e
 ·exact azp e
theorem amC {nr:List Nat}{vs:List VI}:∀ {l F:List Nat}{st x:St},cM (Dn P) nr vs l F st=some x→∃ n,cM (run P n) nr vs l F st=some x
 | [],_,_,_,e=>⟨0,e⟩
 | i::l,F,st,x,e=>by
  simp only[cM]at e⊢
  cases hi:vs[i]? with
  | none=>simp_all
  | some v =>
   rw[hi]at e;simp only at e⊢
   cases hv:aR (Dn P) (bW i nr) F v st with
   | none=>simp_all
   | some st1 =>
    rw[hv]at e;obtain⟨n1,h1⟩:=as5 hv;obtain⟨n2,h2⟩:=amC e;refine⟨n1+n2,?_⟩;rw[Xc (up (Nat.le_add_right n1 n2)) h1];exact Lg (up (Nat.le_add_left n2 n1)) h2
theorem ai1 {c:VC}{st:St}{x:aX×St}(e:bj c (Dn P) st=some x):∃ n,bj c (run P n) st=some x:=by
 cases c<;>try exact⟨0,e⟩
 ·grind [bj,N5,amP]
 ·rename_i perm gco nr ops;simp only[bj,Fw,Gn]at e⊢
  cases ha:mS st.env ops<;>grind [amC]
 ·rename_i a b;simp only[bj,IS]at e⊢
  grind [pf,Gu]
 ·rename_i cr a b;simp only[bj,Fr]at e⊢;split at e<;>grind [pf]
 ·grind [bj,Hb,pf]
 ·rename_i a;simp only[bj,M7]at e⊢
  grind [pf,Gu]
 ·rename_i f params assign body;simp only[bj,vK]at e⊢;split at e<;>grind [wm]
 ·exact pf e
 ·rename_i a cur;simp only[bj,DW]at e⊢
  grind [pf,Gu]
 ·rename_i i d f a;simp only[bj,Mg]at e⊢
  cases hg:get st.env i with
  | none=>simp_all
  | some p =>
   rw[hg]at e
   cases p<;>simp only at e⊢<;>try exact absurd e (by simp)
   rename_i id off
   cases hv:(Dn P).code a ⟨put st.env d (.ptr id off),st.hs⟩ with
   | none=>simp_all
   | some p =>
    obtain⟨o,st1⟩:=p;obtain⟨n1,h1⟩:=pf hv;rw[hv]at e
    cases o<;>simp only at e⊢<;>try exact absurd e (by simp)
    all_goals
     cases hc:(Dn P).call f [.ptr id off] st1.hs with
     | none=>simp_all
     | some q =>
      obtain⟨n2,h2⟩:=wm hc;rw[hc]at e;refine⟨n1+n2,?_⟩;rw[Gu h1 (Nat.le_add_right n1 n2)];simp only[(up (Nat.le_add_left n2 n1)).call _ _ _ _ h2];exact e
theorem atG {f:FuncId}{a:List AV}{h:HS}{x:AV×HS}(e:nh P (Dn P) f a h=some x):∃ n,nh P (run P n) f a h=some x:=by
 unfold nh at e⊢;split at e
 ·simp at e
 ·split at e<;>grind [ai1]
theorem dZ (c:VC) (st:St):(Dn P).code c st=bj c (Dn P) st:=by
 cases h:bj c (Dn P) st with
 | some x =>
  obtain⟨n,hn⟩:=ai1 h;exact ajL (n:=n+1) hn
 | none =>
  cases k:(Dn P).code c st with
  | none=>rfl
  | some x =>
   obtain⟨n,hn⟩:=pf k
   cases n<;>grind [run,IN,anQ]
theorem avL (f:FuncId) (a:List AV) (hs:HS):(Dn P).call f a hs=nh P (Dn P) f a hs:=by
 cases h:nh P (Dn P) f a hs with
 | some x =>
  obtain⟨n,hn⟩:=atG h;exact Sy (n:=n+1) hn
 | none =>
  cases k:(Dn P).call f a hs with
  | none=>rfl
  | some x =>
   obtain⟨n,hn⟩:=wm k
   cases n<;>grind [run,Xl,anQ]
variable {P:Nat→Option ae}
def rl (P:Nat→Option ae) (x:Option (aX×St)) (b:VC):Option (aX×St) :=
 match x with
 | some (.normal,st)=>(Dn P).code b st
 | x=>x
def pE (id:Nat) (x:Option (aX×St)):Option (aX×St) :=
 match x with
 | some (.exit j,st)=>if j=id then some (.normal,st) else some (.exit j,st)
 | x=>x
def bp (x:Option St):Option (aX×St) :=
 match x with
 | some st=>some (.normal,st)
 | none=>none
def kF (P:Nat→Option ae) (a:VC) (x:Option (aX×St)):Option (aX×St) :=
 match x with
 | some (.normal,st)=>(Dn P).code (.loop a) st
 | x=>x
def Uk (fn:ae) (x:Option (aX×St)):Option (AV×HS) :=
 match x with
 | some (.normal,st)=>zo fn st
 | some (.ret,st)=>zo fn st
 | _=>none
def lU (x:Option (AV×HS)):Option AV :=
 match x with
 | some (v,hs)=>eE hs.heap v
 | none=>none
theorem axC {st:St}{b:VC}:rl P (some (.normal,st)) b=(Dn P).code b st:=(rfl)
theorem axS {st:St}{b:VC}:rl P (some (.ret,st)) b=some (.ret,st):=(rfl)
theorem axv {st:St}{b:VC}{j:Nat}:rl P (some (.exit j,st)) b=some (.exit j,st):=(rfl)
theorem ayY {st:St}{b:VC}{j:Nat}:rl P (some (.goto j,st)) b=some (.goto j,st):=(rfl)
theorem ax6 {b:VC}:rl P none b=none:=(rfl)
theorem aya {c:Prop}[Decidable c] {x y:Option (aX×St)}{b:VC}:rl P (if c then x else y) b=if c then rl P x b else rl P y b:=by grind
theorem aym {st:St}{i:Nat}:pE i (some (.normal,st))=some (.normal,st):=(rfl)
theorem ay2 {st:St}{i:Nat}:pE i (some (.ret,st))=some (.ret,st):=(rfl)
theorem axR {st:St}{i j:Nat}:pE i (some (.exit j,st))=if j=i then some (.normal,st) else some (.exit j,st):=(rfl)
theorem ayk {st:St}{i j:Nat}:pE i (some (.goto j,st))=some (.goto j,st):=(rfl)
theorem ayr {i:Nat}:pE i none=none:=(rfl)
theorem axN {c:Prop}[Decidable c] {x y:Option (aX×St)}{i:Nat}:pE i (if c then x else y)=if c then pE i x else pE i y:=by grind
theorem Gg {st:St}{a:VC}:kF P a (some (.normal,st))=(Dn P).code (.loop a) st:=(rfl)
theorem awf {st:St}{a:VC}:kF P a (some (.ret,st))=some (.ret,st):=(rfl)
theorem aw1 {st:St}{a:VC}{j:Nat}:kF P a (some (.exit j,st))=some (.exit j,st):=(rfl)
theorem avv {st:St}{a:VC}{j:Nat}:kF P a (some (.goto j,st))=some (.goto j,st):=(rfl)
theorem awA {a:VC}:kF P a none=none:=(rfl)
theorem av6 {c:Prop}[Decidable c] {x y:Option (aX×St)}{a:VC}:kF P a (if c then x else y)=if c then kF P a x else kF P a y:=by grind
theorem axQ {st:St}:bp (some st)=some (.normal,st):=(rfl)
theorem azh:bp none=none:=(rfl)
theorem ayx {c:Prop}[Decidable c] {x y:Option St}:bp (if c then x else y)=if c then bp x else bp y:=by grind
theorem ayE {v:AV}{hs:HS}:lU (some (v,hs))=eE hs.heap v:=(rfl)
theorem axP:lU none=none:=(rfl)
theorem axz {c:Prop}[Decidable c] {x y:Option (AV×HS)}:lU (if c then x else y)=if c then lU x else lU y:=by grind
theorem arC {st:St}:(Dn P).code .skip st=some (.normal,st):=by rw[dZ];rfl
theorem arF {st:St}{i:Nat}:(Dn P).code (.exit i) st=some (.exit i,st):=by rw[dZ];rfl
theorem atE {st:St}:(Dn P).code .ret st=some (.ret,st):=by rw[dZ];rfl
theorem apw {st:St}{i:Nat}:(Dn P).code (.label i) st=some (.normal,st):=by rw[dZ];rfl
theorem arW {st:St}{i:Nat}:(Dn P).code (.goto i) st=some (.goto i,st):=by rw[dZ];rfl
theorem atj {st:St}{a b:VC}:(Dn P).code (.seq a b) st=rl P ((Dn P).code a st) b:=by rw[dZ];rfl
theorem aoU {st:St}{i:Nat}{a:VC}:(Dn P).code (.block i a) st=pE i ((Dn P).code a st):=by
 grind [dZ,bj,Hb,pE,Nat.eq_of_beq_eq_true,Nat.ne_of_beq_eq_false]
theorem apS {st:St}{a:VC}:(Dn P).code (.loop a) st=kF P a ((Dn P).code a st):=by rw[dZ];rfl
theorem SO {st:St}{d:Bool}{ops:List VI}:(Dn P).code (.reg d ops) st=bp (gh (Dn P) ops st):=by rw[dZ];rfl
theorem arL {st:St}{perm gco:List Nat}{ops:List VI}(ha:mS st.env ops=true):(Dn P).code (.regP perm gco [] ops) st=bp (nF (Dn P) ops perm st):=by
 rw[dZ];simp only[bj,Fw,Gn,ait,ha];rfl
theorem ao0 {e:ao}{hs:HS}{a b:VC}{t:Bool}:(Dn P).code (.cond (.c (.d (.bool t))) a b) ⟨e,hs⟩=if t=true then (Dn P).code a ⟨e,hs⟩ else (Dn P).code b ⟨e,hs⟩:=by
 grind [dZ,bj,Fr,rd]
def NX (P:Nat→Option ae) (v:Option AV) (a b:VC) (st:St):Option (aX×St) :=
 match v with
 | some (.d (.bool true))=>(Dn P).code a st
 | some (.d (.bool false))=>(Dn P).code b st
 | _=>none
theorem arB {e:ao}{hs:HS}{i:Nat}{a b:VC}:(Dn P).code (.cond (.m i) a b) ⟨e,hs⟩=NX P (get e i) a b ⟨del e i,hs⟩:=by
 rw[dZ];simp only[bj,Fr,rd,NX]
 grind
theorem aw5 {a b:VC}{st:St}:NX P (some (.d (.bool true))) a b st=(Dn P).code a st:=(rfl)
theorem avU {a b:VC}{st:St}:NX P (some (.d (.bool false))) a b st=(Dn P).code b st:=(rfl)
def aG0 (P:Nat→Option ae) (v:Option AV) (w:Bool) (d:Option Nat) (op:jR) (th:List (Nat×Nat)) (st:St):Option St :=
 match v with
 | some (.d (.bool b))=>match b == w with
  | true=>bh (Dn P) ⟨d,none,op,th⟩ st
  | false=>some (ba d (.tup []) st)
 | some (.tup [])=>some (ba d (.tup []) st)
 | _=>none
theorem aDM {α:Type}{i:Nat}:get ([]:List (Nat×α)) i=none:=(rfl)
theorem azo {α:Type}{k i:Nat}{v:α}{r:List (Nat×α)}:get ((k,v)::r) i=if k=i then some v else get r i:=dD ..
theorem aCH {α:Type}{i:Nat}{x:α}:put [] i x=[(i,x)]:=(rfl)
theorem put1 {α:Type}{k i:Nat}{v x:α}{r:List (Nat×α)}:put ((k,v)::r) i x=if k=i then (i,x)::r else if i≤k then (i,x)::(k,v)::r else (k,v)::put r i x:=md ..
theorem aCw {α:Type}{i:Nat}:del ([]:List (Nat×α)) i=[]:=(rfl)
theorem axn {α:Type}{k i:Nat}{v:α}{r:List (Nat×α)}:del ((k,v)::r) i=if k=i then del r i else (k,v)::del r i:=iN ..
theorem QS {k:IntKind}:kh k k=true:=by cases k<;>rfl
theorem iB {op:BinOp}{k:IntKind}{a b:Int}(h1:op≠.shl) (h2:op≠.shr):bE op (.d (.int k a)) (.d (.int k b))=match fB op k a b with | some x=>some (.d x) | none=>none:=by
 grind [bE,ng,QS]
theorem avk {k:IntKind}{a b:Int}:bE .add (.d (.int k a)) (.d (.int k b))=some (.d (.int k (wr k (a+b)))):=by rw[iB (by simp) (by simp)];rfl
theorem avx {k:IntKind}{a b:Int}:bE .sub (.d (.int k a)) (.d (.int k b))=some (.d (.int k (wr k (a-b)))):=by rw[iB (by simp) (by simp)];rfl
theorem avs {k:IntKind}{a b:Int}:bE .mul (.d (.int k a)) (.d (.int k b))=some (.d (.int k (wr k (a*b)))):=by rw[iB (by simp) (by simp)];rfl
theorem avO {k:IntKind}{a b:Int}(h:b≠0):bE .quo (.d (.int k a)) (.d (.int k b))=some (.d (.int k (wr k (a.tdiv b)))):=by grind [iB,fB]
theorem awr {k:IntKind}{a b:Int}(h:b≠0):bE .rem (.d (.int k a)) (.d (.int k b))=some (.d (.int k (a.tmod b))):=by grind [iB,fB]
theorem avE {k:IntKind}{a b:Int}:bE .eql (.d (.int k a)) (.d (.int k b))=if a=b then some (.d (.bool true)) else some (.d (.bool false)):=by grind [iB,fB]
theorem avD {k:IntKind}{a b:Int}:bE .neq (.d (.int k a)) (.d (.int k b))=if a=b then some (.d (.bool false)) else some (.d (.bool true)):=by grind [iB,fB]
theorem awQ {k:IntKind}{a b:Int}:bE .lss (.d (.int k a)) (.d (.int k b))=if a<b then some (.d (.bool true)) else some (.d (.bool false)):=by grind [iB,fB]
theorem awT {k:IntKind}{a b:Int}:bE .leq (.d (.int k a)) (.d (.int k b))=if a≤b then some (.d (.bool true)) else some (.d (.bool false)):=by grind [iB,fB]
theorem avC {k:IntKind}{a b:Int}:bE .gtr (.d (.int k a)) (.d (.int k b))=if b<a then some (.d (.bool true)) else some (.d (.bool false)):=by grind [iB,fB]
theorem awL {k:IntKind}{a b:Int}:bE .geq (.d (.int k a)) (.d (.int k b))=if b≤a then some (.d (.bool true)) else some (.d (.bool false)):=by grind [iB,fB]
theorem awI {k j:IntKind}{a b:Int}(h:0≤b):bE .shl (.d (.int k a)) (.d (.int j b))=some (.d (.int k (wr k (a*((2 ^ (min b.toNat k.bits):Nat):Int))))):=by
 grind [bE,ng,AF]
theorem ava {k j:IntKind}{a b:Int}(h:0≤b):bE .shr (.d (.int k a)) (.d (.int j b))=some (.d (.int k (a.fdiv ((2 ^ (min b.toNat k.bits):Nat):Int)))):=by
 grind [bE,ng,AF]
theorem asL {a b:List UInt8}:bE .eql (.d (.str a)) (.d (.str b))=if a=b then some (.d (.bool true)) else some (.d (.bool false)):=by
 grind [bE]
theorem aA6 {n:Int}(h:0≤n) (h2:n≤255):wr .u8 n=n:=by
 grind [wr,jp]
theorem ayV {n:Int}(h:0≤n) (h2:n≤65535):wr .u16 n=n:=by
 grind [wr,jp]
theorem ay0 {n:Int}(h:0≤n) (h2:n≤4294967295):wr .u32 n=n:=by
 grind [wr,jp]
theorem ayN {n:Int}(h:0≤n) (h2:n≤18446744073709551615):wr .u64 n=n:=by
 grind [wr,jp]
theorem DP {k:IntKind}{i:Int}{t:Nat}(h:0≤i) (h2:i≤t):cD (.d (.int k i)) t=some i.toNat:=by
 obtain⟨n,rfl⟩:=Int.eq_ofNat_of_zero_le h;have:Nat.ble n t=true:=Nat.ble_eq_true_of_le (by omega);show (match Nat.ble n t with | true=>some n | false=>none)=_
 grind
theorem NL {k:IntKind}{i:Int}(h:0≤i):kK (.d (.int k i))=some i.toNat:=by
 obtain⟨n,rfl⟩:=Int.eq_ofNat_of_zero_le h;rfl
def kB (k:IntKind):Nat:=if k.signed then 2 ^ (k.bits-1) else 2 ^ k.bits
theorem av8 (k:IntKind):kB k≤2 ^ k.bits:=by cases k<;>decide
theorem aog {k:IntKind}{n:Nat}(h:n<kB k):k.wrap (n:Int)=n:=by
 cases k<;>simp only[kB,IntKind.wrap,IntKind.signed,IntKind.bits]at h⊢<;>simp at h⊢<;>omega
theorem E3 {k:IntKind}{n:Nat}(h:n<kB k):(BitVec.ofInt k.bits (n:Int)).toNat=n:=by
 grind [av8]
theorem axM {k:IntKind}{a b:Nat}(h:a<kB k) (h2:b<kB k) (h3:a ||| b<kB k):bE .or (.d (.int k (a:Int))) (.d (.int k (b:Int)))=some (.d (.int k ((a ||| b:Nat):Int))):=by
 grind [iB,fB,Cc,E3,aog]
theorem avt {a b t:Nat}(h:a<t):a &&& b<t:=by grind [Nat.and_le_left]
theorem awW {k:IntKind}{a b:Nat}(h:a<kB k) (h2:b<kB k):bE .and (.d (.int k (a:Int))) (.d (.int k (b:Int)))=some (.d (.int k ((a &&& b:Nat):Int))):=by
 grind [iB,fB,Cc,E3,aog,avt]
def aM (P:Nat→Option ae) (f:FuncId) (ds:List AV):Option AV:=lU ((Dn P).call f ds ⟨[],0⟩)
theorem afc {f:FuncId}{fn:ae}{args:List AV}{hs:HS}(hf:P f=some fn) (hl:args.length=fn.nparams):(Dn P).call f args hs=Uk fn ((Dn P).code fn.body ⟨fX 0 args,hs⟩):=by
 grind [avL,Nat.beq_refl,nh,Uk,dZ]
theorem aty {f:FuncId}{fn:ae}{args:List AV}(hf:P f=some fn) (hl:args.length=fn.nparams):aM P f args=lU (Uk fn ((Dn P).code fn.body ⟨fX 0 args,⟨[],0⟩⟩)):=by
 grind [aM,afc]
theorem aql {g:FuncId}{first caps args:List AV}{hs:HS}:bc (Dn P) (.fn g first caps) args hs=(Dn P).call g (first++(args++caps)) hs:=(rfl)
theorem azg {α:Type}{a b:Prop}[Decidable a] [Decidable b] {x y:α}:(if a then (if b then x else y) else y)=if a∧b then x else y:=by
 grind
theorem ayD {α:Type}{a b:Prop}[Decidable a] [Decidable b] {x y:α}:(if a then x else (if b then x else y))=if a∨b then x else y:=by
 grind
theorem ayI {α:Type}{a b:Prop}[Decidable a] [Decidable b] {x y:α}:(if a then (if b then y else x) else y)=if a∧¬ b then x else y:=by
 grind
theorem ayd {α:Type}{a b:Prop}[Decidable a] [Decidable b] {x y:α}:(if a then x else (if b then y else x))=if a∨¬ b then x else y:=by
 grind
def nth {α:Type}[Inhabited α] (l:List α) (i:Nat):α:=l.getD i default
theorem ajv {α:Type}[Inhabited α] {l:List α}{i:Nat}(h:i<l.length):nth l i=l[i]:=by simp[nth,h]
theorem sD {α:Type}[Inhabited α] {l:List α}{i:Nat}(h:i<l.length):l[i]?=some (nth l i):=by simp[nth,h]
theorem kA {α:Type}[Inhabited α] {l:List α}{i:Nat}(h:i<l.length):l.drop i=nth l i::l.drop (i+1):=by grind [List.drop_eq_getElem_cons,ajv]
theorem fk {α:Type}[Inhabited α] {l:List α}{i:Nat}(h:i<l.length):nth l i∈l:=by grind [ajv]
abbrev I (n:Int):D:=.int .i64 n
abbrev Y (n:Int):D:=.int .u8 n
def ai (l:List Int):List (List D):=l.map fun(n:Int)=>[D.int .i64 n]
def af (l:List Nat):List (List D):=l.map fun(n:Nat)=>[D.int .u8 (n:Int)]
def NM (l:List Bool):List (List D):=l.map fun(n:Bool)=>[D.bool n]
theorem asT {l:List Int}:(ai l).length=l.length:=by simp[ai]
theorem atI {l:List Nat}:(af l).length=l.length:=by simp[af]
theorem arx {l:List Bool}:(NM l).length=l.length:=by simp[NM]
theorem BT {l:List Int}{i:Nat}(h:i<l.length):(ai l)[i]?=some [.int .i64 (nth l i)]:=by grind [ai,sD]
theorem atZ {l:List Nat}{i:Nat}(h:i<l.length):(af l)[i]?=some [.int .u8 (nth l i:Nat)]:=by grind [af,sD]
theorem aq6 {l:List Bool}{i:Nat}(h:i<l.length):(NM l)[i]?=some [.bool (nth l i)]:=by grind [NM,sD]
theorem aq9 {a b:Nat}:((a:Int)+(b:Int)).toNat=a+b:=by omega
theorem abr {a b:Nat}:Nat.beq a b=decide (a=b):=by
 grind [Nat.eq_of_beq_eq_true,Nat.ne_of_beq_eq_false]
theorem Z8 {a b:Nat}:Nat.ble a b=decide (a≤b):=by
 grind [Nat.le_of_ble_eq_true,Nat.ble_eq_true_of_le]
theorem axj {x y:Option (aX×St)}{b:VC}(h:x=y):rl P x b=rl P y b:=by rw[h]
theorem awD {x y:Option (aX×St)}{b:Nat}(h:x=y):pE b x=pE b y:=by rw[h]
theorem atb {x y:Option (aX×St)}{b:VC}(h:x=y):kF P b x=kF P b y:=by rw[h]
theorem axh {x y:Option (aX×St)}{b:ae}(h:x=y):Uk b x=Uk b y:=by rw[h]
theorem aw8 {r:bC}{c:VC}{x y:St}(h:x=y):r.code c x=r.code c y:=by rw[h]
theorem ar0 {v w:Option AV}{a b:VC}{x y:St}(h:v=w) (k:x=y):NX P v a b x=NX P w a b y:=by rw[h,k]
variable {P:Nat→Option ae}
def bA {α β:Type}(x:Option α) (f:α→Option β):Option β :=
 match x with
 | some v=>f v
 | none=>none
def bP {α γ β:Type}(x:Option (α×γ)) (f:α→γ→Option β):Option β :=
 match x with
 | some (v,w)=>f v w
 | none=>none
def lA {α β:Type}(x:α) (f:α→β):β:=f x
def lP {α γ β:Type}(x:α×γ) (f:α→γ→β):β:=f x.1 x.2
def bI {β:Type}(c:Bool) (x:Option β):Option β :=
 match c with
 | true=>x
 | false=>none
def gV (g:AV) (w:Bool) (x:Option AV):Option AV :=
 match g with
 | .d (.bool b)=>if b=w then x else some (.tup [])
 | .tup []=>some (.tup [])
 | _=>none
def gH (g:AV) (w:Bool) (hs:HS) (x:Option (AV×HS)):Option (AV×HS) :=
 match g with
 | .d (.bool b)=>if b=w then x else some (.tup [],hs)
 | .tup []=>some (.tup [],hs)
 | _=>none
def N2 (c a b:AV):Option AV :=
 match c with
 | .d (.bool true)=>some a
 | .d (.bool false)=>some b
 | _=>none
def ah2 (neg:Bool) (a b:AV):Option D :=
 match a,b with
 | .d (.bool a),.d (.bool b)=>some (.bool (match neg with | true=>!(a == b) | false=>a == b))
 | _,_=>none
def auJ (neg:Bool) (ks:List Bool) (a b:AV):Option D :=
 match a,b with
 | .agg a,.agg b=>match aA ks a b with
  | some t=>some (.bool (match neg with | true=>!t | false=>t))
  | none=>none
 | _,_=>none
def cZ (op:BinOp) (a b:AV):Option D :=
 match bE op a b with
 | some (.d x)=>some x
 | _=>none
def unD (op:UnOp) (a:AV):Option D :=
 match aaz op a with
 | some (.d x)=>some x
 | _=>none
def Xk (k:IntKind) (a:AV):Option D :=
 match a with
 | .d (.int _ n)=>some (.int k (wr k n))
 | _=>none
def L9 (h:ac) (a:AV):Option D :=
 match elems h a with
 | some xs=>match mN xs with
  | some s=>some (.str s)
  | none=>none
 | none=>none
def BA (z:List D) (l c:AV):Option AV :=
 match cD c aq with
 | some c=>match cD l c with
  | some n=>some (.own true z.length (List.replicate n z))
  | none=>none
 | none=>none
def pw (h:ac) (m:Nat) (x:AV) (lo hi mx:Option AV):Option AV :=
 match okSl h m x with
 | true=>r5 m x lo hi mx
 | false=>none
def Nc (hp:ac) (n:Nat) (x:AV) (lo hi mx:Option AV):Option AV :=
 match x with
 | .ptr id off=>N4 hp n id off lo hi mx
 | _=>none
def ays (off:Nat) (n:Option Nat) (x:AV):Option AV :=
 match x with
 | .agg cs=>xP n cs off
 | _=>none
def X4 (hp:ac) (n:Nat) (x i:AV):Option AV :=
 match kK i with
 | some i=>match x with
  | .sl id off len=>match Nat.ble len i with
   | true=>none
   | false=>match get hp id with
    | some (.arr m _)=>match Nat.beq m n with
     | true=>some (.pel id (off+i) 0)
     | false=>none
    | some (.cells _)=>match Nat.beq n 1 with
     | true=>some (.ptr id (off+i))
     | false=>none
    | _=>none
  | v=>match elems hp v with
   | some xs=>match xs[i]? with
    | some x=>match Nat.beq x.length n with
     | true=>some (.pim x 0)
     | false=>none
    | none=>none
   | none=>none
 | none=>none
def DS (len n:Nat) (p i:AV):Option AV :=
 match kK i with
 | some i=>match Nat.ble len i with
  | true=>none
  | false=>gy (i*n) p
 | none=>none
def ixV (len n:Nat) (agg:Bool) (x i:AV):Option AV :=
 match x with
 | .agg cs=>match kK i with
  | some i=>match Nat.ble len i with
   | true=>none
   | false=>xP (ajZ agg n) cs (i*n)
  | none=>none
 | _=>none
def aol (x i:AV):Option D :=
 match x with
 | .d (.str s)=>match kK i with
  | some i=>match s[i]? with
   | some b=>some (.int .u8 (.ofNat b.toNat))
   | none=>none
  | none=>none
 | _=>none
def rL (mv:Bool) (t:AV) (i:Nat):Option AV :=
 match t with
 | .tup vs=>match vs[i]? with
  | some v=>match mv with
   | true=>some v
   | false=>some (share v)
  | none=>none
 | _=>none
def HY (t:AV) (i:Nat):AV :=
 match t with
 | .tup vs=>.tup (vs.set i .junk)
 | v=>v
def aoj (x:AV):Bool :=
 match x with
 | .nl=>true
 | _=>false
def acs (m:Nat) (h:ac) (a b:AV):Option (AV×ac) :=
 match elems h b with
 | some ys=>match dt m ys with
  | true=>cf m h a ys
  | false=>none
 | none=>none
def WV (z:List D) (h:ac) (a n:AV):Option (AV×ac) :=
 match cD n aq with
 | some n=>cf z.length h a (List.replicate n z)
 | none=>none
def aiz (m:Nat) (hp:ac) (a b:AV):Option (D×ac) :=
 match elems hp b with
 | some ys=>match a with
  | .sl id off len=>match get hp id with
   | some (.arr k xs)=>match dt m ys && Nat.beq k m && Nat.ble (off+len) xs.length with
    | true=>some (.int .i64 (.ofNat (min len ys.length)),put hp id (.arr k (ah xs off (ys.take len))))
    | false=>none
   | _=>none
  | _=>match lenOf a with
   | some 0=>some (.int .i64 (.ofNat 0),hp)
   | _=>none
 | none=>none
def azq (z:List D) (hp:ac) (x:AV):Option ac :=
 match x with
 | .sl id off len=>match get hp id with
  | some (.arr k xs)=>match Nat.beq k z.length && Nat.ble (off+len) xs.length with
   | true=>some (put hp id (.arr k (ah xs off (List.replicate len z))))
   | false=>none
  | _=>none
 | _=>none
def FV (isMax:Bool) (vs:List AV):Option AV :=
 match vs with
 | .d (.int k n)::vs=>xJ isMax (.d (.int k n)) vs
 | _=>none
def Wy (v:AV):Option AV :=
 match v with
 | .ptr .. | .pel .. | .pim .. | .fn .. | .yield ..=>some v
 | _=>none
def cP (h:ac) (n:Option Nat) (p:AV):Option AV :=
 match loadAt h n 0 p with
 | some (v,_)=>some v
 | none=>none
def DX (m:Nat) (vs:List AV):Bool:=vs.all fun v=>Nat.beq v.cells.length m && v.cells.all bJ
def aY {β:Type}(e:ao) (x:Rd) (k:AV→ao→Option β):Option β :=
 match rd e x with
 | some (v,e)=>k v e
 | none=>none
def gn {β:Type}:ao→List Rd→(List AV→ao→Option β)→Option β
 | e,[],k=>k [] e
 | e,x::r,k=>match rd e x with
  | some (v,e)=>gn e r fun vs e=>k (v::vs) e
  | none=>none
def iP {β:Type}(e:ao) (x:Option Rd) (k:Option AV→ao→Option β):Option β :=
 match x with
 | none=>k none e
 | some x=>match rd e x with
  | some (v,e)=>k (some v) e
  | none=>none
def aE:Rd→Bool
 | .m _=>false
 | _=>true
def aN {β:Type}(P:Nat→Option ae) (op:jR) (e:ao) (hs:HS) (k:AV→ao→HS→Option β):Option β :=
 match op with
 | .mov x=>aY e x fun v e=>k v e hs
 | .pick c a b=>aY e c fun c e=>match aE a && aE b,rd e a,rd e b with
  | true,some (a,_),some (b,_)=>bA (N2 c a b) fun v=>k v e hs
  | _,_,_=>bP (gx (.c c) a b ⟨e,hs⟩) fun v st=>k v st.env st.hs
 | .alloc zs=>lA (put hs.heap hs.next (.cells zs)) fun h=>k (.ptr hs.next 0) e ⟨h,hs.next+1⟩
 | .box x=>aY e x fun v e=>bI (v.cells.all bJ) (lA (put hs.heap hs.next (.cells v.cells)) fun h=>k (.ptr hs.next 0) e ⟨h,hs.next+1⟩)
 | .build zs ps=>gn e (jZ ps) fun vs e=>bA (ck zs (mf ps vs)) fun cs=>k (.agg cs) e hs
 | .mks m ps=>gn e ps fun vs e=>bA (ft m vs) fun xs=>k (.own true m xs) e hs
 | .mksv m ps=>gn e ps fun vs e=>bI (DX m vs) (lA (put hs.heap hs.next (.cells (vs.flatMap AV.cells))) fun h=>k (.sl hs.next 0 vs.length) e ⟨h,hs.next+1⟩)
 | .ld n 0 p=>aY e p fun p e=>bA (cP hs.heap n p) fun v=>k v e hs
 | .ld n (t+1) p=>aY e p fun p e=>bP (loadAt hs.heap n (t+1) p) fun v h=>k v e ⟨h,hs.next⟩
 | .st n p x=>aY e p fun p e=>aY e x fun x e=>bA (storeAt hs.heap n p x) fun h=>k .junk e ⟨h,hs.next⟩
 | .nilck x=>aY e x fun v e=>bA (Wy v) fun v=>k v e hs
 | .bin op x y=>aY e x fun a e=>aY e y fun b e=>bA (cZ op a b) fun v=>k (.d v) e hs
 | .binb neg x y=>aY e x fun a e=>aY e y fun b e=>bA (ah2 neg a b) fun v=>k (.d v) e hs
 | .bina neg ks x y=>aY e x fun a e=>aY e y fun b e=>bA (auJ neg ks a b) fun v=>k (.d v) e hs
 | .un op x=>aY e x fun a e=>bA (unD op a) fun v=>k (.d v) e hs
 | .conv j x=>aY e x fun a e=>bA (Xk j a) fun v=>k (.d v) e hs
 | .toStr x=>aY e x fun a e=>bA (L9 hs.heap a) fun v=>k (.d v) e hs
 | .mkfn f a c=>gn e a fun a e=>gn e c fun c e=>k (.fn f (shareAll a) (shareAll c)) e hs
 | .mkslice z l c=>aY e l fun l e=>aY e c fun c e=>bA (BA z l c) fun v=>k v e hs
 | .slice m x lo hi mx=>aY e x fun x e=>iP e lo fun lo e=>iP e hi fun hi e=>iP e mx fun mx e=>bA (pw hs.heap m x lo hi mx) fun v=>k v e hs
 | .slarr n x lo hi mx=>aY e x fun x e=>iP e lo fun lo e=>iP e hi fun hi e=>iP e mx fun mx e=>bA (Nc hs.heap n x lo hi mx) fun v=>k v e hs
 | .fa off p=>aY e p fun p e=>bA (gy off p) fun v=>k v e hs
 | .fld off n x=>aY e x fun x e=>bA (ays off n x) fun v=>k v e hs
 | .ia n x i=>aY e x fun x e=>aY e i fun i e=>bA (X4 hs.heap n x i) fun v=>k v e hs
 | .iarr l n p i=>aY e p fun p e=>aY e i fun i e=>bA (DS l n p i) fun v=>k v e hs
 | .ix l n a x i=>aY e x fun x e=>aY e i fun i e=>bA (ixV l n a x i) fun v=>k v e hs
 | .ixs x i=>aY e x fun x e=>aY e i fun i e=>bA (aol x i) fun v=>k (.d v) e hs
 | .ext j true i=>match get e j with
  | some t=>bA (rL true t i) fun v=>k v (put e j (HY t i)) hs
  | none=>none
 | .ext j false i=>match get e j with
  | some t=>bA (rL false t i) fun v=>k v e hs
  | none=>none
 | .len x=>aY e x fun x e=>bA (lenOf x) fun n=>k (.int .i64 (.ofNat n)) e hs
 | .cap x=>aY e x fun x e=>bI (aoj x) (k (.int .i64 (.ofNat 0)) e hs)
 | .app m x y=>aY e x fun a e=>aY e y fun b e=>bP (acs m hs.heap a b) fun v h=>k v e ⟨h,hs.next⟩
 | .appz z x n=>aY e x fun a e=>aY e n fun n e=>bP (WV z hs.heap a n) fun v h=>k v e ⟨h,hs.next⟩
 | .cpy m x y=>aY e x fun a e=>aY e y fun b e=>bP (aiz m hs.heap a b) fun v h=>k (.d v) e ⟨h,hs.next⟩
 | .clr z x=>aY e x fun x e=>bA (azq z hs.heap x) fun h=>k (.tup []) e ⟨h,hs.next⟩
 | .minmax b xs=>gn e xs fun vs e=>bA (FV b vs) fun v=>k v e hs
 | .call f args=>gn e args fun vs e=>bA (bZ (Dn P) f vs hs.heap) fun v=>k v e hs
 | .calli f args=>gn e args fun vs e=>bP ((Dn P).call f vs hs) fun v hs=>k v e hs
 | .callv f args=>aY e f fun f e=>gn e args fun vs e=>bP (bc (Dn P) f vs hs) fun v hs=>k v e hs
 | .kill is=>k (.tup []) (is.foldl del e) hs
 | .idxb x c=>aY e x fun x e=>aY e c fun c e=>bA (asm hs.heap x c) fun v=>k v e hs
 | op=>bP (br op (Dn P) ⟨e,hs⟩) fun v st=>k v st.env st.hs
def dI:List Rd→Bool
 | []=>true
 | x::r=>aE x && dI r
def tL:Option Rd→Bool
 | none=>true
 | some x=>aE x
def bB:jR→Bool
 | .mov x=>aE x
 | .ld _ 0 p=>aE p
 | .nilck x=>aE x
 | .bin _ x y=>aE x && aE y
 | .binb _ x y=>aE x && aE y
 | .un _ x=>aE x
 | .conv _ x=>aE x
 | .fa _ p=>aE p
 | .fld _ _ x=>aE x
 | .ia _ x i=>aE x && aE i
 | .iarr _ _ p i=>aE p && aE i
 | .ix _ _ _ x i=>aE x && aE i
 | .ixs x i=>aE x && aE i
 | .ext _ mv _=>!mv
 | .len x=>aE x
 | .call _ args=>dI args
 | .pick c a b=>aE c && aE a && aE b
 | .build _ ps=>dI (jZ ps)
 | .toStr x=>aE x
 | .mkfn _ a c=>dI a && dI c
 | .mkslice _ l c=>aE l && aE c
 | .minmax _ xs=>dI xs
 | .slice _ x a b c=>aE x && (tL a && (tL b && tL c))
 | _=>false
def xy:jR→Bool
 | .calli _ args=>dI args
 | .callv f args=>aE f && dI args
 | _=>false
def cvi (P:Nat→Option ae) (i:VI) (e:ao) (hs:HS) (k:ao→HS→Option St):Option St :=
 match i.guard with
 | none=>match i.th with
  | []=>match i.dst with
   | some d=>aN P i.op e hs fun v e hs=>k (put e d (firm v)) hs
   | none=>aN P i.op e hs fun _ e hs=>k e hs
  | th=>match i.dst with
   | some d=>aN P i.op e hs fun v e hs=>lP (bK th v hs) fun v hs=>k (put e d (firm v)) hs
   | none=>aN P i.op e hs fun v e hs=>lP (bK th v hs) fun _ hs=>k e hs
 | some (s,w)=>match bB i.op,i.th,i.dst with
  | true,[],some d=>match get e s with
   | some g=>bA (gV g w (aN P i.op e hs fun v _ _=>some v)) fun v=>k (put e d (firm v)) hs
   | none=>none
  | _,_,_=>match xy i.op,i.th,i.dst with
   | true,[],some d=>match get e s with
    | some g=>bP (gH g w hs (aN P i.op e hs fun v _ hs=>some (v,hs))) fun v hs=>k (put e d (firm v)) hs
    | none=>none
   | _,_,_=>bA (bh (Dn P) i ⟨e,hs⟩) fun st=>k st.env st.hs
def bU (P:Nat→Option ae):List VI→ao→HS→Option St
 | [],e,hs=>some ⟨e,hs⟩
 | i::l,e,hs=>cvi P i e hs fun e hs=>bU P l e hs
theorem awe {op:BinOp}{a b v:AV}(h:bE op a b=some v):∃ x,v=.d x:=by
 unfold bE at h
 grind
theorem axX {op:UnOp}{a v:AV}(h:aaz op a=some v):∃ x,v=.d x:=by
 unfold aaz at h
 grind
theorem ca {β:Type}{e:ao}{x:Rd}{k:AV→ao→Option β}:aY e x k=match rd e x with | some (v,e)=>k v e | none=>none:=rfl
theorem jl {β:Type}:∀ {l:List Rd}{e:ao}{k:List AV→ao→Option β},gn e l k=match rdAll e l with | some (vs,e)=>k vs e | none=>none
 | [],_,_=>rfl
 | x::r,e,k=>by
  simp only[gn,rdAll]
  cases rd e x with
  | none=>rfl
  | some p =>
   simp only;rw[jl]
   grind
theorem amT {β:Type}{e:ao}{x:Option Rd}{k:Option AV→ao→Option β}:iP e x k=match rdOpt e x with | some (v,e)=>k v e | none=>none:=by
 cases x<;>grind [iP,rdOpt]
theorem atk {h h':ac}{n:Option Nat}{p v:AV}(k:loadAt h n 0 p=some (v,h')):h'=h:=by
 unfold loadAt at k
 grind
def dg {β:Type}(x:Option (AV×St)) (k:AV→ao→HS→Option β):Option β :=
 match x with
 | some (v,st)=>k v st.env st.hs
 | none=>none
theorem lW {e e1:ao}{x:Rd}{v:AV}(hs:aE x=true) (h:rd e x=some (v,e1)):e1=e:=by
 cases x<;>grind [rd,aE]
theorem Hj {a b:Rd}{st:St}:gx (.c (.d (.bool true))) a b st=match rd st.env a with | some (v,e)=>some (v,⟨e,st.hs⟩) | none=>none:=rfl
theorem Jq {a b:Rd}{st:St}:gx (.c (.d (.bool false))) a b st=match rd st.env b with | some (v,e)=>some (v,⟨e,st.hs⟩) | none=>none:=rfl
theorem F4 {β:Type}{op:jR}{e:ao}{hs:HS}{k:AV→ao→HS→Option β}:aN P op e hs k=dg (br op (Dn P) ⟨e,hs⟩) k:=by
 cases op with
 | mov x=>grind [aN,br,Nt,ca,dg]
 | pick c a b =>
  simp only[aN,br,ca]
  cases hc:rd e c with
  | none=>grind [gx,dg]
  | some q =>
   obtain⟨v,e1⟩:=q;have h0:gx c a b ⟨e,hs⟩=gx (.c v) a b ⟨e1,hs⟩:=by
    unfold gx;simp only;rw[hc];rfl
   rw[h0];simp only;split
   ·rename_i va _ vb _ hst hra hrb;simp only[Bool.and_eq_true]at hst;have ea:=lW hst.1 hra;have eb:=lW hst.2 hrb;subst ea;subst eb;simp only[dg]
    cases v with
    | d x=>cases x with
     | bool t =>
      cases t
      all_goals grind [Jq,N2,bA,Hj]
     | _=>rfl
    | _=>rfl
   ·simp only[bP,dg]
    grind
 | ld n t p =>
  cases t with
  | zero =>
   simp only[aN,br,wI,ca,dg]
   cases rd e p with
   | none=>rfl
   | some q =>
    obtain⟨v,e1⟩:=q;simp only[cP,bA]
    cases hl:loadAt hs.heap n 0 v with
    | none=>rfl
    | some r=>obtain⟨v2,h2⟩:=r;simp only[atk hl]
  | succ t =>
   grind [aN,br,wI,ca,dg,bP]
 | alloc zs=>rfl
 | box x =>
  grind [aN,br,NF,ca,dg,bI,lA,BP]
 | build zs ps =>
  grind [aN,br,vR,jl,dg,bA]
 | mks m ps =>
  grind [aN,br,I8,jl,dg,bA]
 | mksv m ps =>
  grind [aN,br,Zr,jl,dg,bI,lA,BP,DX]
 | st n p x =>
  simp only[aN,br,apa,ca,dg]
  grind [bA]
 | nilck x =>
  grind [aN,br,AJ,ca,dg,bA,Wy]
 | bin op x y =>
  simp only[aN,br,I3,Nk,ca,dg]
  grind [bA,cZ,awe]
 | binb neg x y =>
  simp only[aN,br,GI,ca,dg]
  grind [bA,ah2]
 | bina neg ks x y =>
  simp only[aN,br,Gy,ca,dg]
  cases rd e x<;>grind [bA,auJ]
 | un op x =>
  grind [aN,br,ZU,ca,dg,bA,unD,axX]
 | conv j x =>
  simp only[aN,br,Bw,ca,dg]
  cases rd e x with
  | none=>rfl
  | some q =>
   obtain⟨v,e1⟩:=q;simp only[bA,Xk]
   grind
 | toStr x =>
  simp only[aN,br,GU,ca,dg]
  grind [bA,L9]
 | mkfn f a c =>
  grind [aN,br,Cd,jl,dg]
 | mkslice z l c =>
  simp only[aN,br,ig,ca,dg]
  cases rd e l<;>grind [bA,BA]
 | slice m x lo hi mx =>
  simp only[aN,br,FH,ca,amT,dg]
  cases rd e x<;>grind [bA,pw]
 | slarr n x lo hi mx =>
  simp only[aN,br,Nq,ca,amT,dg]
  cases rd e x with
  | none=>rfl
  | some q =>
   obtain⟨v,e1⟩:=q;simp only
   cases v<;>grind [bA,Nc]
 | fa off p =>
  grind [aN,br,aeb,ca,dg,bA]
 | fld off n x =>
  simp only[aN,br,Jb,ca,dg]
  cases rd e x with
  | none=>rfl
  | some q =>
   obtain⟨v,e1⟩:=q;simp only[bA,ays]
   grind
 | ia n x i =>
  simp only[aN,br,ajz,ca,dg]
  cases rd e x with
  | none=>rfl
  | some q =>
   obtain⟨v,e1⟩:=q;simp only
   cases rd e1 i with
   | none=>rfl
   | some q =>
    obtain⟨w,e2⟩:=q;simp only[bA,X4]
    cases kK w with
    | none=>rfl
    | some j =>
     simp only
     cases v<;>grind
 | iarr l n p i =>
  simp only[aN,br,FY,ca,dg]
  cases rd e p<;>grind [bA,DS]
 | ix l n a x i =>
  simp only[aN,br,SX,ca,dg]
  cases rd e x with
  | none=>rfl
  | some q =>
   obtain⟨v,e1⟩:=q;simp only
   cases hi:rd e1 i with
   | none=>grind
   | some q =>
    obtain⟨w,e2⟩:=q;simp only[bA,ixV]
    grind
 | ixs x i =>
  simp only[aN,br,Hf,ca,dg]
  cases rd e x with
  | none=>rfl
  | some q =>
   obtain⟨v,e1⟩:=q;simp only
   cases hi:rd e1 i with
   | none=>grind
   | some q =>
    obtain⟨w,e2⟩:=q;simp only[bA,aol]
    grind
 | ext j mv i =>
  cases mv with
  | true =>
   simp only[aN,br,ua,dg]
   cases get e j with
   | none=>rfl
   | some t =>
    simp only[bA,rL,HY]
    grind
  | false =>
   simp only[aN,br,ua,dg]
   cases get e j with
   | none=>rfl
   | some t =>
    simp only[bA,rL]
    grind
 | len x =>
  grind [aN,br,NC,ca,dg,bA]
 | cap x =>
  simp only[aN,br,Hx,ca,dg]
  cases rd e x with
  | none=>rfl
  | some q =>
   obtain⟨v,e1⟩:=q;simp only[bI,aoj]
   grind
 | app m x y =>
  simp only[aN,br,z6,ca,dg]
  cases rd e x<;>grind [bP,acs]
 | appz z x n =>
  simp only[aN,br,ajs,ca,dg]
  grind [bP,WV]
 | cpy m x y =>
  simp only[aN,br,Y0,ca,dg]
  cases rd e x with
  | none=>rfl
  | some q =>
   obtain⟨v,e1⟩:=q;simp only
   cases rd e1 y with
   | none=>rfl
   | some q =>
    obtain⟨w,e2⟩:=q;simp only[bP,aiz]
    cases elems hs.heap w with
    | none=>rfl
    | some ys =>
     simp only
     cases v with
     | sl id off len =>
      grind
     | _ =>
      simp only;generalize lenOf _=n
      cases n with
      | none=>rfl
      | some n=>cases n<;>rfl
 | clr z x =>
  simp only[aN,br,Nu,ca,dg]
  cases rd e x with
  | none=>rfl
  | some q =>
   simp only[bA,azq]
   grind
 | minmax b xs =>
  simp only[aN,br,qK,jl,dg]
  cases rdAll e xs with
  | none=>rfl
  | some q =>
   simp only[bA,FV]
   grind
 | call f args =>
  grind [aN,br,xH,jl,dg,bA]
 | calli f args =>
  grind [aN,br,vZ,jl,dg,bP]
 | callv f args =>
  simp only[aN,br,wG,ca,jl,dg]
  grind [bP]
 | kill is=>rfl
 | idxb x c =>
  simp only[aN,br,alc,ca,dg]
  grind [bA]
 | _ =>
  simp only[aN,bP,dg]
  grind
theorem JE:∀ {l:List Rd}{e e1:ao}{vs:List AV},dI l=true→rdAll e l=some (vs,e1)→e1=e
 | [],e,e1,vs,_,h=>by grind [rdAll]
 | x::r,e,e1,vs,hs,h=>by
  simp only[dI,Bool.and_eq_true]at hs;simp only[rdAll]at h;split at h
  ·simp at h
  ·rename_i v e2 h1;split at h
   ·simp at h
   ·rename_i vs2 e3 h2;have a1:=lW hs.1 h1;have a2:=JE hs.2 h2
    simp_all
theorem gb {β:Type}{e:ao}{x:Rd}{k:AV→ao→Option β}(h:aE x=true):aY e x k=aY e x fun v _=>k v e:=by
 grind [aY,lW]
theorem oI {β:Type}{e:ao}{l:List Rd}{k:List AV→ao→Option β}(h:dI l=true):gn e l k=gn e l fun v _=>k v e:=by
 grind [jl,JE]
theorem H1 {β:Type}{e:ao}{x:Option Rd}{k:Option AV→ao→Option β}(h:tL x=true):iP e x k=iP e x fun v _=>k v e:=by
 cases x with
 | none=>rfl
 | some x=>exact gb (k:=fun v e=>k (some v) e) h
theorem gK {α β γ:Type}{x:Option α}{f:α→Option β}{g:β→Option γ}:bA (bA x f) g=bA x fun v=>bA (f v) g:=by
 cases x<;>rfl
theorem da {β γ:Type}{e:ao}{x:Rd}{k:AV→ao→Option β}{g:β→Option γ}:bA (aY e x k) g=aY e x fun v e=>bA (k v e) g:=by
 simp only[aY];cases rd e x<;>rfl
theorem Ds {β γ:Type}{e:ao}{x:List Rd}{k:List AV→ao→Option β}{g:β→Option γ}:bA (gn e x k) g=gn e x fun v e=>bA (k v e) g:=by
 simp only[jl];cases rdAll e x<;>rfl
theorem cT {α β:Type}{v:α}{f:α→Option β}:bA (some v) f=f v:=rfl
theorem Le {β:Type}{e:ao}{x y:Rd}{k:AV→AV→ao→Option β}(h:aE x=true) (h2:aE y=true):(aY e x fun a e=>aY e y fun b e=>k a b e)=aY e x fun a _=>aY e y fun b _=>k a b e:=by
 grind [aY,lW]
theorem HH {β:Type}{e:ao}{x y:Rd}{k:AV→AV→Option β}(h:aE x=true) (h2:aE y=true):(aY e x fun a e=>aY e y fun b _=>k a b)=aY e x fun a _=>aY e y fun b _=>k a b:=Le (k:=fun a b _=>k a b) h h2
theorem aqu {β:Type}{op:jR}{e:ao}{hs:HS}{k:AV→ao→HS→Option β}(h:bB op=true):aN P op e hs k=bA (aN P op e hs fun v _ _=>some v) fun v=>k v e hs:=by
 cases op with
 | mov x =>
  grind [bB,aN,da,cT,gb]
 | ld n t p =>
  cases t<;>simp_all [bB,aN,da,gK,cT,gb]
 | nilck x =>
  grind [bB,aN,da,gK,cT,gb]
 | un op x =>
  grind [bB,aN,da,gK,cT,gb]
 | conv op x =>
  grind [bB,aN,da,gK,cT,gb]
 | fa off p =>
  grind [bB,aN,da,gK,cT,gb]
 | fld off n p =>
  grind [bB,aN,da,gK,cT,gb]
 | len x =>
  grind [bB,aN,da,gK,cT,gb]
 | bin op x y =>
  simp only[bB,Bool.and_eq_true]at h;simp only[aN,da,gK,cT];exact(Le h.1 h.2).trans (HH h.1 h.2).symm
 | binb op x y =>
  simp only[bB,Bool.and_eq_true]at h;simp only[aN,da,gK,cT];exact(Le h.1 h.2).trans (HH h.1 h.2).symm
 | ia n x y =>
  simp only[bB,Bool.and_eq_true]at h;simp only[aN,da,gK,cT];exact(Le h.1 h.2).trans (HH h.1 h.2).symm
 | iarr l n x y =>
  simp only[bB,Bool.and_eq_true]at h;simp only[aN,da,gK,cT];exact(Le h.1 h.2).trans (HH h.1 h.2).symm
 | ix l n a x y =>
  simp only[bB,Bool.and_eq_true]at h;simp only[aN,da,gK,cT];exact(Le h.1 h.2).trans (HH h.1 h.2).symm
 | ixs x y =>
  simp only[bB,Bool.and_eq_true]at h;simp only[aN,da,gK,cT];exact(Le h.1 h.2).trans (HH h.1 h.2).symm
 | ext j mv i =>
  cases mv with
  | true=>simp[bB]at h
  | false =>
   simp only[aN]
   cases get e j with
   | none=>rfl
   | some t=>grind [gK,cT]
 | call f args =>
  grind [bB,aN,Ds,gK,cT,oI]
 | build zs ps =>
  grind [bB,aN,Ds,gK,cT,oI]
 | slice m x lo hi mx =>
  simp only[bB,Bool.and_eq_true]at h;obtain⟨h0,h1,h2,h3⟩:=h;have bd:∀ {γ:Type}{x:Option Rd}{e:ao}{k:Option AV→ao→Option AV}{g:AV→Option γ},bA (iP e x k) g=iP e x fun v e=>bA (k v e) g:=by
   intro γ x e k g
   cases x with
   | none=>rfl
   | some x=>exact da
  simp only[aN,da,bd,gK,cT];rw[gb h0,gb (k:=fun v e_1=>iP e_1 lo fun v_1 e_1=>iP e_1 hi fun v_2 e_1=>iP e_1 mx fun v_3 _=>bA (pw hs.heap m v v_1 v_2 v_3) fun v=>k v e hs) h0]
  congr 1
  funext v _;rw[H1 h1,H1 (k:=fun v_1 e_1=>iP e_1 hi fun v_2 e_1=>iP e_1 mx fun v_3 _=>bA (pw hs.heap m v v_1 v_2 v_3) fun v=>k v e hs) h1]
  grind [H1]
 | minmax b ps =>
  grind [bB,aN,Ds,gK,cT,oI]
 | toStr x =>
  grind [bB,aN,da,gK,cT,gb]
 | mkslice z x y =>
  simp only[bB,Bool.and_eq_true]at h;simp only[aN,da,gK,cT];exact(Le h.1 h.2).trans (HH h.1 h.2).symm
 | mkfn f a c =>
  simp_all [bB,aN,Ds,cT,oI]
 | pick c a b =>
  simp only[bB,Bool.and_eq_true]at h;simp only[aN,da];have h2:(aE a && aE b)=true:=by simp_all
  simp only[aY]
  cases hc:rd e c with
  | none=>rfl
  | some q =>
   obtain⟨v,e1⟩:=q;have:=lW h.1.1 hc;subst this;simp only[h2]
   cases ha:rd e1 a with
   | none =>
    cases hb:rd e1 b with
    | none =>
     cases v<;>try rfl
     rename_i d;cases d<;>try rfl
     rename_i t;cases t<;>simp only[Hj,Jq,ha,hb,bP,bA]
    | some q =>
     have:=lW h.2 hb;subst this
     cases v<;>try rfl
     rename_i d;cases d<;>try rfl
     rename_i t;cases t<;>simp only[Hj,Jq,ha,hb,bP,bA]
   | some q =>
    obtain⟨va,ea⟩:=q;have:=lW h.1.2 ha;subst this
    cases hb:rd ea b with
    | none =>
     cases v<;>try rfl
     rename_i d;cases d<;>try rfl
     rename_i t;cases t<;>simp only[Hj,Jq,ha,hb,bP,bA]
    | some q=>grind [gK,cT]
 | _=>simp[bB]at h
theorem auH {α β γ δ ε:Type}{x:Option (α×β)}{f:α→β→Option (γ×δ)}{g:γ→δ→Option ε}:bP (bP x f) g=bP x fun v w=>bP (f v w) g:=by
 cases x<;>rfl
theorem aoh {β:Type}{op:jR}{e:ao}{hs:HS}{k:AV→ao→HS→Option β}(h:xy op=true):aN P op e hs k=bP (aN P op e hs fun v _ hs=>some (v,hs)) fun v hs=>k v e hs:=by
 cases op with
 | calli f args =>
  simp only[aN];rw[oI h];simp only[jl]
  cases rdAll e args with
  | none=>rfl
  | some q=>simp only[auH];rfl
 | callv f args =>
  simp only[xy,Bool.and_eq_true]at h;simp only[aN];simp only[oI h.2];simp only[aY]
  cases hf:rd e f with
  | none=>rfl
  | some q =>
   obtain⟨v,e1⟩:=q;have:=lW h.1 hf;subst this;simp only[jl]
   cases rdAll e1 args with
   | none=>rfl
   | some q=>simp only[auH];rfl
 | _=>simp[xy]at h
theorem aeU:firm (.tup [])=.tup []:=rfl
theorem MZ {i:VI}{e:ao}{hs:HS}{k:ao→HS→Option St}:cvi P i e hs k=bA (bh (Dn P) i ⟨e,hs⟩) fun st=>k st.env st.hs:=by
 obtain⟨dst,guard,op,th⟩:=i;unfold cvi
 cases guard with
 | none =>
  simp only[bh,de]
  cases th with
  | nil =>
   cases dst with
   | none =>
    simp only[F4,dg,ba]
    cases br op (Dn P) ⟨e,hs⟩<;>rfl
   | some d =>
    simp only[F4,dg,ba]
    cases br op (Dn P) ⟨e,hs⟩<;>rfl
  | cons p r =>
   cases dst with
   | none =>
    simp only[F4,dg,ba,lP]
    cases br op (Dn P) ⟨e,hs⟩<;>rfl
   | some d =>
    simp only[F4,dg,ba,lP]
    cases br op (Dn P) ⟨e,hs⟩<;>rfl
 | some g =>
  obtain⟨s,w⟩:=g;simp only;split
  ·rename_i d hst;have he:∀ {k:AV→ao→HS→Option St},dg (br op (Dn P) ⟨e,hs⟩) k=bA (aN P op e hs fun v _ _=>some v) fun v=>k v e hs:=by
    intro k;rw[←F4,aqu hst]
   have hv:∀ {k:ao→HS→Option St},bA (de (Dn P) ⟨some d,some (s,w),op,[]⟩ ⟨e,hs⟩) (fun st=>k st.env st.hs)=bA (aN P op e hs fun v _ _=>some v) fun v=>k (put e d (firm v)) hs:=by
    intro k;rw[←he (k:=fun v e hs=>k (put e d (firm v)) hs)];simp only[de,dg,ba]
    cases br op (Dn P) ⟨e,hs⟩<;>rfl
   simp only[bh]
   cases get e s with
   | none=>rfl
   | some g =>
    cases g with
    | d x=>cases x with
     | bool b =>
      simp only[gV]
      cases hb:(b == w)<;>simp_all [bA,aeU,ba]
     | _=>rfl
    | tup vs=>cases vs<;>rfl
    | _=>rfl
  ·split
   ·rename_i d hst _;have he:∀ {k:AV→ao→HS→Option St},dg (br op (Dn P) ⟨e,hs⟩) k=bP (aN P op e hs fun v _ hs=>some (v,hs)) fun v hs=>k v e hs:=by
     intro k;rw[←F4,aoh hst]
    have hv:∀ {k:ao→HS→Option St},bA (de (Dn P) ⟨some d,some (s,w),op,[]⟩ ⟨e,hs⟩) (fun st=>k st.env st.hs)=bP (aN P op e hs fun v _ hs=>some (v,hs)) fun v hs=>k (put e d (firm v)) hs:=by
     intro k;rw[←he (k:=fun v e hs=>k (put e d (firm v)) hs)];simp only[de,dg,ba]
     cases br op (Dn P) ⟨e,hs⟩<;>rfl
    simp only[bh]
    cases get e s with
    | none=>rfl
    | some g =>
     cases g with
     | d x=>cases x with
      | bool b =>
       simp only[gH]
       cases hb:(b == w)<;>simp_all [bA,bP,aeU,ba]
      | _=>rfl
     | tup vs=>cases vs<;>rfl
     | _=>rfl
   ·rfl
theorem acJ:∀ {l:List VI}{e:ao}{hs:HS},gh (Dn P) l ⟨e,hs⟩=bU P l e hs
 | [],_,_=>rfl
 | i::l,e,hs=>by
  simp only[gh,bU,MZ,bA]
  cases bh (Dn P) i ⟨e,hs⟩ with
  | none=>rfl
  | some st=>exact acJ
theorem xZ {d:Bool}{ops:List VI}{e:ao}{hs:HS}{x:Option St}(h:bU P ops e hs=x):(Dn P).code (.reg d ops) ⟨e,hs⟩=bp x:=by
 grind [SO,acJ]
theorem bl {perm gco:List Nat}{ops:List VI}{e:ao}{hs:HS}{x:Option St}(ha:mS e ops=true) (hb:(perm.all fun i=>decide (i<ops.length))=true) (h:bU P (perm.filterMap fun i=>ops[i]?) e hs=x):(Dn P).code (.regP perm gco [] ops) ⟨e,hs⟩=bp x:=by
 grind [arL,aeM,acJ]
def axJ (e:ao) (d:Option Nat):Bool :=
 match d with
 | some d=>match get e d with
  | some a=>Er a
  | none=>false
 | none=>false
def asK (P:Nat→Option ae) (F:List Nat) (v:VI) (e:ao) (hs:HS) (k:ao→HS→Option St):Option St :=
 match mi v.op with
 | .call=>cvi P v e hs fun e2 s2=>bI (bM F hs.heap s2.heap) (k e2 s2)
 | .take=>cvi P v e hs fun e2 s2=>bI (axJ e2 v.dst) (k e2 s2)
 | .read=>cvi P v e ⟨bO (jm v e) hs.heap,hs.next⟩ fun e2 _=>k e2 hs
def VN (P:Nat→Option ae):List (Bool×VI)→List Nat→ao→HS→Option St
 | [],_,e,hs=>some ⟨e,hs⟩
 | (a,v)::l,F,e,hs=>match a with
  | false=>cvi P v e hs fun e2 s2=>VN P l F e2 s2
  | true=>asK P F v e hs fun e2 s2=>VN P l (fC true v e F) e2 s2
theorem aw0 {F:List Nat}{v:VI}{e:ao}{hs:HS}{k:ao→HS→Option St}:asK P F v e hs k=bA (oh (Dn P) F v ⟨e,hs⟩) fun st=>k st.env st.hs:=by
 unfold asK oh
 cases mi v.op with
 | call =>
  simp only[MZ]
  cases bh (Dn P) v ⟨e,hs⟩ with
  | none=>rfl
  | some st =>
   simp only[bA]
   cases bM F hs.heap st.hs.heap<;>rfl
 | take =>
  simp only[MZ]
  cases bh (Dn P) v ⟨e,hs⟩ with
  | none=>rfl
  | some st =>
   simp only[bA,axJ]
   cases v.dst with
   | none=>rfl
   | some d =>
    simp only
    cases get st.env d with
    | none=>rfl
    | some a=>simp only;cases Er a<;>rfl
 | read =>
  simp only[MZ]
  cases bh (Dn P) v ⟨e,⟨bO (jm v e) hs.heap,hs.next⟩⟩<;>rfl
def ah8 (nr:List Nat) (ops:List VI) (i:Nat):Option (Bool×VI) :=
 match ops[i]? with
 | some v=>some (bW i nr,v)
 | none=>none
theorem Ss {nr:List Nat}{ops:List VI}:∀ {l:List Nat}{F:List Nat}{e:ao}{hs:HS},(l.all fun i=>decide (i<ops.length))=true→cM (Dn P) nr ops l F ⟨e,hs⟩=VN P (l.filterMap (ah8 nr ops)) F e hs
 | [],_,_,_,_=>rfl
 | i::l,F,e,hs,hb=>by
  simp only[List.all_cons,Bool.and_eq_true,decide_eq_true_eq]at hb;have h1:ops[i]?=some ops[i]:=List.getElem?_eq_getElem hb.1;have h2:ah8 nr ops i=some (bW i nr,ops[i]):=by grind [ah8]
  simp only[cM,h1,List.filterMap_cons,h2,VN,aR]
  cases bW i nr with
  | false =>
   simp only[MZ,fC]
   cases bh (Dn P) ops[i] ⟨e,hs⟩ with
   | none=>rfl
   | some st=>exact Ss hb.2
  | true =>
   simp only[aw0]
   cases oh (Dn P) F ops[i] ⟨e,hs⟩ with
   | none=>rfl
   | some st=>exact Ss hb.2
theorem cx {perm gco nr:List Nat}{ops:List VI}{e:ao}{hs:HS}{x:Option St}(ha:mS e ops=true) (hb:(perm.all fun i=>decide (i<ops.length))=true) (h:VN P (perm.filterMap (ah8 nr ops)) [] e hs=x):(Dn P).code (.regP perm gco nr ops) ⟨e,hs⟩=bp x:=by
 rw[dZ,←h,←Ss hb];simp only[bj,Fw,Gn,ha]
 cases cM (Dn P) nr ops perm [] ⟨e,hs⟩<;>rfl
abbrev F (i:Nat):VC:=.reg false [⟨none,none,.free i,[]⟩]
def frK (e:ao) (hs:HS) (i:Nat):Option AV→Option (aX×St)
 | some (.ptr id _)=>some (.normal,⟨del e i,⟨del hs.heap id,hs.next⟩⟩)
 | some (.fn _ _ caps)=>some (.normal,⟨del e i,⟨delAll hs.heap (Cr caps),hs.next⟩⟩)
 | _=>some (.normal,⟨e,hs⟩)
theorem azS {e:ao}{h:ac}{n i id o:Nat}:frK e ⟨h,n⟩ i (some (.ptr id o))=some (.normal,⟨del e i,⟨del h id,n⟩⟩):=rfl
theorem aAW {e:ao}{h:ac}{n i f:Nat}{a c:List AV}:frK e ⟨h,n⟩ i (some (.fn f a c))=some (.normal,⟨del e i,⟨delAll h (Cr c),n⟩⟩):=rfl
theorem azx {i:Nat}{e:ao}{hs:HS}:(Dn P).code (F i) ⟨e,hs⟩=frK e hs i (get e i):=by
 rw[SO];simp only[gh,bh,de,br,Vt]
 cases get e i with
 | none=>rfl
 | some v=>cases v<;>rfl
abbrev K (l:List Nat):VC:=.reg false [⟨none,none,.kill l,[]⟩]
theorem azf {is:List Nat}{e:ao}{hs:HS}:(Dn P).code (K is) ⟨e,hs⟩=some (.normal,⟨is.foldl del e,hs⟩):=by rw[SO];rfl
section
variable {r:bC}
theorem Bt {l:List (Nat×Nat)}(h:GC l=true):l=[]:=by
 grind [GC]
theorem HQ {a:Bool}{F:List Nat}{i:VI}(h:kS a i=true) {e:ao}{hs:HS}{st1:St}(hr:aR r a F i ⟨e,hs⟩=some st1):st1.hs=hs∧∀ hs',aR r a F i ⟨e,hs'⟩=some ⟨st1.env,hs'⟩:=by
 simp only[kS,Bool.and_eq_true,Bool.not_eq_true']at h;obtain⟨⟨ha,hth⟩,hop⟩:=h;have hth:=Bt hth;subst ha;simp only[aR]at hr⊢;have go:∀ st1,de r i ⟨e,hs⟩=some st1→st1.hs=hs∧∀ hs',de r i ⟨e,hs'⟩=some ⟨st1.env,hs'⟩:=by
  intro st1 h;unfold de at h;simp only[hth]at h;split at h
  ·rename_i v st0 hv;simp only[Option.some.injEq]at h;subst h;obtain⟨q1,q2⟩:=auh hop hv;refine⟨by cases i.dst<;>exact q1,fun hs'=>?_⟩;unfold de;simp only[hth,q2 hs']
   cases i.dst<;>rfl
  simp_all
 unfold bh at hr
 cases hg:i.guard with
 | none =>
  grind [bh]
 | some sw =>
  rw[hg]at hr;simp only at hr;split at hr
  ·rename_i b hb;split at hr
   ·grind [bh]
   ·rename_i hbw;simp only[Option.some.injEq]at hr;subst hr;exact⟨by cases i.dst<;>rfl,fun hs'=>by unfold bh;rw[hg];simp only[hb,hbw];cases i.dst<;>rfl⟩
  ·rename_i hb;simp only[Option.some.injEq]at hr;subst hr;exact⟨by cases i.dst<;>rfl,fun hs'=>by unfold bh;rw[hg];simp only[hb];cases i.dst<;>rfl⟩
  simp_all
theorem TB {i:VI}(h:isQ i=true):∃ R M,fu i=some (.q,R,M):=by
 grind [isQ]
theorem Sd {i:VI}(h:isP i=true):∃ R M,fu i=some (.p,R,M):=by
 grind [isP]
theorem Dq {i:VI}(h:BQ i=true):mi i.op=.read:=by
 grind [BQ]
theorem apY {i:VI}(h:aju i=true):mi i.op=.take:=by
 grind [aju]
theorem aey {i:VI}(h:Yw i=true):mi i.op=.call:=by
 grind [Yw]
theorem Nz {a:Bool}{F:List Nat}{i:VI}(h:Tr a i=true) {e:ao}{hs:HS}{st1:St}(hr:aR r a F i ⟨e,hs⟩=some st1):st1.hs=hs:=by
 simp only[Tr,Bool.and_eq_true,Bool.or_eq_true,Bool.not_eq_true']at h;obtain⟨hq,hn⟩:=h;obtain⟨R,M,hk⟩:=TB hq;have plain:bh r i ⟨e,hs⟩=some st1→st1.hs=hs:=fun h=>by
  obtain⟨ρ,τ,K,q1,_⟩:=js hk e hs st1 h;rw[q1];exact K.2 hs
 cases a<;>grind [Dq,aR,oh]
theorem N1 {K:HK}{f:St→Option St}{R M:List Nat}(hl:NQ K f R M) {e:ao}(hsrt:be e) {hs:HS}{st1:St}(hr:f ⟨e,hs⟩=some st1):∃ ρ τ,K hs ρ τ∧st1.hs=τ hs∧∀ hs',ρ hs'→f ⟨e,hs'⟩=some ⟨st1.env,τ hs'⟩:=by
 obtain⟨ρ,τ,k,q1,q2,q3,q4⟩:=hl e hs st1 hr;refine⟨ρ,τ,k,q1,fun hs' hρ=>?_⟩;obtain⟨e1',p1,p2,p3⟩:=q4 e hs' (fun _ _=>rfl) hρ;obtain⟨_,_,_,_,s2,_,_⟩:=hl e hs' _ p1
 grind [mD]
theorem ap5 {F F':List Nat}{u:VI}(hq:isQ u=true) (hn:BQ u=true) {e:ao}(hsrt:be e) {hs:HS}{st1:St}(hr:aR r true F u ⟨e,hs⟩=some st1) :
  ∀ hs',bx (bO (jm u e) hs.heap) (bO (jm u e) hs'.heap)→aR r true F' u ⟨e,hs'⟩=some ⟨st1.env,hs'⟩:=by
 intro hs' hle;obtain⟨R,M,hk⟩:=TB hq;have hn:=Dq hn;simp only[aR,oh,hn]at hr⊢;split at hr
 ·rename_i st2 h2;simp only[Option.some.injEq]at hr;subst hr;obtain⟨ρ,τ,K,q1,q2⟩:=N1 (js hk) hsrt h2;rw[q2 ⟨bO (jm u e) hs'.heap,hs'.next⟩ (K.1 _ hle)]
 simp_all
theorem ap6 {F:List Nat}{v:VI}(hn:Yw v=true) {e:ao}{hs:HS}{st1:St}(hr:aR r true F v ⟨e,hs⟩=some st1):bM F hs.heap st1.hs.heap=true:=by
 grind [aey,aR,oh]
theorem aiX {a:Bool}{F F':List Nat}{v:VI}{st st1:St}(hsub:∀ k∈F',k∈F) (hr:aR r a F v st=some st1):aR r a F' v st=some st1:=by
 cases a<;>grind [aR,oh,aeL]
theorem ar3 (a:Bool) (v:VI) (e:ao) {F F':List Nat}(hsub:∀ k∈F',k∈F):∀ k∈fC a v e F',k∈fC a v e F:=by
 intro k hk;unfold fC at hk⊢
 grind
theorem awa (a:Bool) (v:VI) (e:ao) (F:List Nat):∀ k∈F,k∈fC a v e F:=by
 intro k hk;unfold fC
 grind
theorem R4 {nr:List Nat}{vs:List VI}:∀ {l:List Nat}{F F':List Nat}{st st':St},(∀ k∈F',k∈F)→cM r nr vs l F st=some st'→cM r nr vs l F' st=some st'
 | [],_,_,_,_,_,h=>h
 | i::l,F,F',st,st',hsub,h=>by
  simp only[cM]at h⊢;split at h
  ·simp at h
  ·split at h
   ·simp at h
   ·rename_i st1 h1;simp only[aiX hsub h1];exact R4 (ar3 _ _ _ hsub) h
theorem am3 {a:Bool}{F:List Nat}{v:VI}{e:ao}{hs:HS}(hsrt:be e) {R M:List Nat}(hf:a=false∨mi v.op≠.read∨fu v=some (.q,R,M)) {st1:St}(hr:aR r a F v ⟨e,hs⟩=some st1):bh r v ⟨e,hs⟩=some st1:=by
 cases a with
 | false=>exact hr
 | true =>
  simp only[aR,oh]at hr;split at hr
  ·grind
  ·grind
  ·rename_i hn;split at hr
   ·rename_i st2 h;simp only[Option.some.injEq]at hr;subst hr;have hk:=(hf.resolve_left (by simp)).resolve_left (fun h=>h hn);obtain⟨ρ,τ,K,q1,q2⟩:=N1 (js hk) hsrt h;have:=q2 hs (K.1 _ (bx.only _ _));rw[K.2 hs]at this;exact this
   simp_all
theorem lT {a b:Bool}{u v:VI}(h:xC a b u v=true):∃ R1 M1 R2 M2,qn a u=some (R1,M1)∧qn b v=some (R2,M2)∧(∀ k∈M1,k∉R2∧k∉M2)∧∀ k∈M2,k∉R1∧k∉M1:=by
 grind [xC,eM]
theorem ank {a:Bool}{v:VI}{R M:List Nat}(h:qn a v=some (R,M)) {e e':ao}(he:∀ k∈R,get e' k=get e k) (F:List Nat):fC a v e' F=fC a v e F:=by
 cases a with
 | false=>rfl
 | true =>
  unfold qn at h;split at h
  ·obtain⟨rfl,rfl⟩:=h;have:jm v e'=jm v e:=Tu fun k hk=>he k (List.mem_append_right _ hk)
   grind [fC]
  simp_all
def KE (r:bC) (a b:Bool) (u v:VI) (F:List Nat) (st st1 st2:St):Prop :=
 ∃ st1',aR r b F v st=some st1'∧aR r a (fC b v st.env F) u st1'=some st2∧∀ k∈fC a u st1'.env (fC b v st.env F),k∈fC b v st1.env (fC a u st.env F)
theorem at4 {a b:Bool}{u v:VI}{R1 M1 R2 M2:List Nat}(f1:qn a u=some (R1,M1)) (f2:qn b v=some (R2,M2)) (d1:∀ k∈M1,k∉R2∧k∉M2) (d2:∀ k∈M2,k∉R1∧k∉M1) {F:List Nat}{st st1 st2 st1':St}
  (h1:aR r a F u st=some st1) (k1:aR r b F v st=some st1') (k2:aR r a (fC b v st.env F) u st1'=some st2):KE r a b u v F st st1 st2:=by
 refine⟨st1',k1,k2,?_⟩;obtain⟨e,hs⟩:=st;obtain⟨_,g1,_⟩:=ge (r:=r) f1 F e hs _ h1;obtain⟨_,g2,_⟩:=ge (r:=r) f2 F e hs _ k1;rw[ank f1 (e:=e) (e':=st1'.env) (fun k hk=>g2 k fun hm=>(d2 k hm).1 hk),ank f2 (e:=e) (e':=st1.env) (fun k hk=>g1 k fun hm=>(d1 k hm).1 hk)];intro k hk
 cases a with
 | false=>exact hk
 | true =>
  cases b<;>grind [fC]
theorem VA {a b:Bool}{u v:VI}(h:Np a b u v=true) {F:List Nat}{st st1 st2:St}(hsrt:be st.env) (h1:aR r a F u st=some st1) (h2:aR r b (fC a u st.env F) v st1=some st2):KE r a b u v F st st1 st2:=by
 simp only[Np,Bool.and_eq_true,Bool.or_eq_true]at h;obtain⟨hap,h⟩:=h;obtain⟨R1,M1,R2,M2,f1,f2,d1,d2⟩:=lT hap;have l1:=fun F=>ge (r:=r) f1 F
 have l2:=fun F=>ge (r:=r) f2 F
 have h2':=aiX (F':=F) (awa a u st.env F) h2;have fin:(∃ st1',aR r b F v st=some st1'∧aR r a F u st1'=some st2)→(∀ {s s':St},aR r a F u s=some s'→aR r a (fC b v st.env F) u s=some s')→KE r a b u v F st st1 st2:=by
  grind [at4]
 obtain⟨e,hs⟩:=st;obtain⟨e1,hs1⟩:=st1;obtain⟨e2,hs2⟩:=st2;rcases h with ((h | h) | h) | h
 ·obtain⟨q1,q2⟩:=HQ h h1;subst q1;refine fin (oj (l1 F) (l2 F) d1 d2 hsrt h1 h2' h2' (q2 hs2)) fun {s s'} hs=>?_
  simp only[kS,Bool.and_eq_true,Bool.not_eq_true']at h;rw[h.1.1]at hs⊢;exact hs
 ·obtain⟨q1,q2⟩:=HQ h h2';subst q1;refine fin (oj (l1 F) (l2 F) d1 d2 hsrt h1 h2' (q2 hs) h1) fun {s s'} hs=>?_
  simp only[kS,Bool.and_eq_true,Bool.not_eq_true']at h;rw[h.1.1];exact hs
 ·have q1:=Nz h.1 h1;have q2:=Nz h.2 h2'
  grind [oj,Tr,Bool.not_eq_true',Dq,aR,oh]
 ·simp only[ajt,Bool.and_eq_true]at h;obtain⟨⟨⟨⟨rfl,rfl⟩,hq⟩,hn⟩,hc⟩:=h;have q1:=Nz (r:=r) (a:=true) (i:=u) (by grind [Tr]) h1;subst q1;have hnu:=Dq hn;have hsame:=ap6 hc h2;have hle:=bx.same (ids:=jm u e) hsame (fun k hk=>by grind [fC]);have hF:fC true v e F=F:=by grind [fC,aey]
  refine fin (oj (l1 F) (l2 F) d1 d2 hsrt h1 h2' h2' (ap5 hq hn hsrt h1 hs2 hle)) fun {s s'} hs=>?_
  simp_all
def EV (m:Bool) (vs:List AV) (i:Nat):List AV:=match m with | true=>vs.set i .junk | false=>vs
def Sj (m:Bool) (e:ao) (j:Nat) (vs:List AV) (i:Nat):ao:=match m with | true=>put e j (.tup (EV m vs i)) | false=>e
def aoy (m:Bool) (x:AV):AV:=match m with | true=>x | false=>share x
theorem amO {m:Bool}{vs:List AV}{i k:Nat}(h:i≠k):(EV m vs i)[k]?=vs[k]?:=by
 cases m
 ·rfl
 ·exact List.getElem?_set_ne h
theorem aq2 {m n:Bool}{vs:List AV}{i k:Nat}(h:i≠k):EV n (EV m vs i) k=EV m (EV n vs k) i:=by
 cases m<;>cases n<;>try rfl
 exact List.set_comm _ _ h
theorem Uf {m:Bool}{e:ao}{j:Nat}{vs:List AV}{i:Nat}(hj:get e j=some (.tup vs)) (q:Nat):get (Sj m e j vs i) q=if q=j then some (.tup (EV m vs i)) else get e q:=by
 cases m
 all_goals grind [Sj,EV,cO]
theorem A9 {m:Bool}{e:ao}(h:be e) (j:Nat) (vs:List AV) (i:Nat):be (Sj m e j vs i):=by
 cases m
 ·exact h
 ·exact h.put _ _
theorem Gv {u:VI}{j:Nat}{m:Bool}{i d:Nat}(ho:u.op=.ext j m i) (hd:u.dst=some d) (hg:u.guard=none) (ht:u.th=[]) (e:ao) (hs:HS):bh r u ⟨e,hs⟩ =
  match get e j with
  | some (.tup vs)=>match vs[i]? with
   | some x=>some ⟨put (Sj m e j vs i) d (firm (aoy m x)),hs⟩
   | none=>none
  | _=>none:=by
 unfold bh de;simp only[hg,ho,br,ua,hd,ht]
 cases get e j with
 | none=>rfl
 | some w =>
  cases w<;>try rfl
  rename_i vs;simp only
  cases vs[i]? with
  | none=>rfl
  | some x=>cases m<;>rfl
theorem asx {u v:VI}{j i k d c:Nat}{m n:Bool}(o1:u.op=.ext j m i) (o2:v.op=.ext j n k) (d1:u.dst=some d) (d2:v.dst=some c) (g1:u.guard=none) (g2:v.guard=none) (ht1:u.th=[]) (ht2:v.th=[])
  (hik:i≠k) (hdc:d≠c) (hdj:d≠j) (hcj:c≠j) {st st1 st2:St}(hsrt:be st.env) (h1:bh r u st=some st1) (h2:bh r v st1=some st2):∃ st1',bh r v st=some st1'∧bh r u st1'=some st2:=by
 obtain⟨e,hs⟩:=st;rw[Gv o1 d1 g1 ht1]at h1;split at h1
 ·rename_i vs hj;split at h1
  ·rename_i x hx;simp only[Option.some.injEq]at h1;subst h1;rw[Gv o2 d2 g2 ht2]at h2;have hj1:get (put (Sj m e j vs i) d (firm (aoy m x))) j=some (.tup (EV m vs i)):=by
    grind [cO,Uf]
   rw[hj1]at h2;simp only[amO hik]at h2;split at h2
   ·rename_i y hy;simp only[Option.some.injEq]at h2;subst h2;have hj2:get (put (Sj n e j vs k) c (firm (aoy n y))) j=some (.tup (EV n vs k)):=by
     grind [cO,Uf]
    refine⟨⟨put (Sj n e j vs k) c (firm (aoy n y)),hs⟩,by grind [Gv],?_⟩;rw[Gv o1 d1 g1 ht1,hj2];simp only[amO (fun h:k=i=>hik h.symm),hx,Option.some.injEq]
    congr 1
    refine mD ((A9 ((A9 hsrt _ _ _).put _ _) _ _ _).put _ _) ((A9 ((A9 hsrt _ _ _).put _ _) _ _ _).put _ _) fun q=>?_
    grind [cO,Uf,aq2]
   simp_all
  simp_all
 simp_all
theorem Ln {a b:Bool}{u v:VI}(h:lg a b u v=true) {F:List Nat}{st st1 st2:St}(hsrt:be st.env) (h1:aR r a F u st=some st1) (h2:aR r b (fC a u st.env F) v st1=some st2):KE r a b u v F st st1 st2:=by
 simp only[lg,Bool.and_eq_true,Bool.not_eq_true']at h;obtain⟨⟨⟨⟨rfl,rfl⟩,ht1⟩,ht2⟩,h⟩:=h;have ht1:=Bt ht1;have ht2:=Bt ht2;split at h
 ·rename_i j m i l n k d c o1 o2 d1 d2 g1 g2;simp only[Bool.and_eq_true,Bool.not_eq_true',Nat.beq_eq]at h;obtain⟨⟨⟨⟨rfl,hik⟩,hdc⟩,hdj⟩,hcj⟩:=h;obtain⟨st1',k1,k2⟩:=asx o1 o2 d1 d2 g1 g2 ht1 ht2 (Nat.ne_of_beq_eq_false hik) (Nat.ne_of_beq_eq_false hdc) (Nat.ne_of_beq_eq_false hdj) (Nat.ne_of_beq_eq_false hcj) hsrt h1 h2;exact⟨st1',k1,k2,fun k hk=>hk⟩
 simp_all
theorem aoq {a b:Bool}{u v:VI}(h:lg a b u v=true):kS a u=true:=by
 grind [lg,kS,sOp]
end
section
variable {r:bC}
theorem ak5 {cs:List AV}{off:Nat}{w:AV}(h:cs[off]?=some w):fw (.cells cs) (.cells (cs.set off (share w))):=by
 simp only[fw,fJ,List.map_set,w7];refine List.ext_getElem? fun i=>?_
 grind
def arj (w:AV):Prop:=(∃ p m xs,w=.own p m xs)∨w=.nl
theorem aqX {w:AV}(h:Er (firm w)=true):arj w:=by
 cases w with
 | own p m xs=>exact .inl ⟨_,_,_,rfl⟩
 | nl=>exact .inr rfl
 | _=>grind [firm,Er]
theorem Gx {a:Bool}{i:VI}(h:ue a i=true):∃ p,a=true∧i.op=.ld none 2 p∧i.th=[]:=by
 simp only[ue,Bool.and_eq_true]at h;obtain⟨⟨ha,hn⟩,hth⟩:=h;have hth:=Bt hth;have hn:=apY hn;unfold mi at hn
 grind
theorem auf {a:Bool}{i:VI}(h:ue a i=true) (e:ao) (F:List Nat):fC a i e F=F:=by
 obtain⟨p,rfl,hop,hth⟩:=Gx h
 grind [fC,mi]
theorem awV {id off:Nat}{cs:List AV}{w:AV}{h:ac}(hg:get h id=some (.cells cs)) (hw:cs[off]?=some w):loadAt h none 2 (.ptr id off)=some (w,put h id (.cells (cs.set off (share w)))):=by
 grind [loadAt,kH]
theorem Ib {a:Bool}{F:List Nat}{u:VI}(h:ue a u=true) {e e1:ao}{hs hs1:HS}(hr:aR r a F u ⟨e,hs⟩=some ⟨e1,hs1⟩):∃ id off cs w,get hs.heap id=some (.cells cs)∧cs[off]?=some w∧arj w∧
  hs1=⟨put hs.heap id (.cells (cs.set off (share w))),hs.next⟩∧
   ∀ hs' cs',get hs'.heap id=some (.cells cs')→cs'[off]?=some w→aR r a F u ⟨e,hs'⟩=some ⟨e1,⟨put hs'.heap id (.cells (cs'.set off (share w))),hs'.next⟩⟩:=by
 obtain⟨p,rfl,hop,hth⟩:=Gx h;have hn:mi u.op=.take:=by rw[hop];rfl
 simp only[aR,oh,hn]at hr⊢;split at hr
 ·rename_i st1 h1;split at hr
  ·rename_i d hd;split at hr
   ·rename_i x hx;split at hr
    ·rename_i ho;simp only[Option.some.injEq]at hr;subst hr;have go:de r u ⟨e,hs⟩=some ⟨e1,hs1⟩∧∀ hs',bh r u ⟨e,hs'⟩=de r u ⟨e,hs'⟩:=by
      have dead:∀ st1:St,some (ba u.dst (.tup []) ⟨e,hs⟩)=some st1→get st1.env d=some x→False:=by
       grind [ba,cO,Er]
      unfold bh at h1
      cases hg:u.guard<;>grind [bh]
     obtain⟨hgo,hsame⟩:=go;unfold de at hgo;simp only[hth,hop,br,wI]at hgo;split at hgo
     ·rename_i v st0 hv;split at hv
      ·rename_i pv e0 hp;split at hv
       ·rename_i v' h1' hl;simp only[Option.some.injEq,Prod.mk.injEq]at hv;obtain⟨rfl,rfl⟩:=hv;rw[hd]at hgo;obtain⟨rfl,rfl⟩:=hgo;simp only[cO,if_true,Option.some.injEq]at hx;subst hx;have hw:=aqX ho;have back:∀ hs' h2,loadAt hs'.heap none 2 pv=some (v',h2)→(match bh r u ⟨e,hs'⟩ with
          | some st1=>match (some d:Option Nat) with
           | some d=>match get st1.env d with
            | some a=>match Er a with
             | true=>some st1
             | false=>none
            | none=>none
           | none=>none
          | none=>none)=some ⟨put e0 d (firm v'),⟨h2,hs'.next⟩⟩:=by
         simp_all [de,br,wI,ba,cO]
        cases pv<;>simp only[loadAt,reduceCtorEq]at hl
        ·split at hl
         ·split at hl
          ·simp at hl
          ·simp only[kH,Option.some.injEq,Prod.mk.injEq]at hl
           grind [awV]
         simp_all
        ·split at hl
         ·split at hl
          ·split at hl
           ·rename_i u hu;obtain⟨rfl,_⟩:=hl;unfold jo at hu;simp only at hu;split at hu
            ·simp only[Option.some.injEq]at hu;subst hu;rcases hw with ⟨_,_,_,h⟩ | h<;>simp at h
            simp_all
           simp_all
          simp_all
         simp_all
        ·split at hl
         ·rename_i u hu;obtain⟨rfl,_⟩:=hl;unfold jo at hu;simp only at hu;split at hu
          ·simp only[Option.some.injEq]at hu;subst hu;rcases hw with ⟨_,_,_,h⟩ | h<;>simp at h
          simp_all
         simp_all
       simp_all
      simp_all
     simp_all
    simp_all
   simp_all
  simp_all
 simp_all
theorem Nx {α:Type}{l:List (Nat×α)}(h:be l) (k:Nat) (a b:α):put (put l k a) k b=put l k b:=by
 grind [mD,be.put,cO]
theorem asD {α:Type}{l:List (Nat×α)}(h:be l) {j k:Nat}(hjk:j≠k) (a b:α):put (put l j a) k b=put (put l k b) j a:=by
 grind [mD,be.put,cO]
theorem anP {α:Type}{l:List (Nat×α)}(h:be l) {j k:Nat}(hjk:j≠k) (a:α):put (del l k) j a=del (put l j a) k:=by
 grind [mD,be.put,be.del,cO,AA]
theorem avP {a b:Bool}{u v:VI}(hu:ue a u=true) (hv:ue b v=true) (hap:xC a b u v=true) {F:List Nat}{st st1 st2:St}(inv:bw st) (h1:aR r a F u st=some st1) (h2:aR r b F v st1=some st2):∃ st1',aR r b F v st=some st1'∧aR r a F u st1'=some st2:=by
 obtain⟨R1,M1,R2,M2,f1,f2,d1,d2⟩:=lT hap;have l1:=ge (r:=r) f1 F;have l2:=ge (r:=r) f2 F;obtain⟨e,hs⟩:=st;obtain⟨e1,hs1⟩:=st1;obtain⟨e2,hs2⟩:=st2;have hsh:be hs.heap:=inv.sh;obtain⟨i1,o1,c1,w1,g1,k1,n1,rfl,b1⟩:=Ib hu h1;obtain⟨i2,o2,c2,w2,g2,k2,n2,rfl,b2⟩:=Ib hv h2;rw[cO]at g2;by_cases hi:i2=i1
 ·subst hi;rw[if_pos rfl]at g2;simp only[Option.some.injEq,Obj.cells.injEq]at g2;subst g2;rw[Nx hsh]at h2;by_cases ho:o1=o2
  ·subst ho;have hlt:o1<c1.length:=by
    grind
   rw[List.getElem?_set_self hlt]at k2;simp only[Option.some.injEq]at k2;have hw1:w1=.nl:=by
    rcases n1 with ⟨p,m,xs,rfl⟩ | h
    ·subst k2
     cases p<;>rcases n2 with ⟨_,_,_,h⟩ | h<;>simp[share]at h
    ·exact h
   subst hw1;have hw2:w2=.nl:=by rw[←k2];rfl
   subst hw2;rw[Nx hsh];refine oj l1 l2 d1 d2 inv.se h1 h2 (b2 hs c1 g1 k1) ?_
   grind [cO]
  ·rw[Nx hsh];have k2':c1[o2]?=some w2:=by simp_all
   refine oj l1 l2 d1 d2 inv.se h1 h2 (b2 hs c1 g1 k2') ?_
   grind [cO,Nx,List.set_comm]
 ·rw[if_neg hi]at g2;refine oj l1 l2 d1 d2 inv.se h1 h2 (b2 hs c2 g2 k2) ?_
  grind [cO,asD]
theorem ajX {b:Bool}{v:VI}(h:isP v=true) (hb:(!b || ue b v)=true):b=false:=by
 grind [Gx,isP,fu]
theorem awU {a:Bool}{u v:VI}(hu:ue a u=true) (hv:isP v=true) (hap:xC a false u v=true) {F:List Nat}{st st1 st2:St}(inv:bw st) (h1:aR r a F u st=some st1) (h2:bh r v st1=some st2):∃ st1',bh r v st=some st1'∧aR r a F u st1'=some st2:=by
 obtain⟨R1,M1,R2,M2,f1,f2,d1,d2⟩:=lT hap;have l1:=ge (r:=r) f1 F;have l2:=ge (r:=r) f2 F;obtain⟨e,hs⟩:=st;obtain⟨e1,hs1⟩:=st1;obtain⟨e2,hs2⟩:=st2;have hsh:be hs.heap:=inv.sh;have s1:be e1:=(l1 e hs _ h1).1 inv.se;obtain⟨i1,o1,c1,w1,g1,k1,n1,rfl,b1⟩:=Ib hu h1;have hle:bx (put hs.heap i1 (.cells (c1.set o1 (share w1)))) hs.heap:=(bx.upd (o:=some (.cells (c1.set o1 (share w1)))) g1 (fun o1 ho=>by grind [ak5])).2;obtain⟨R,M,hk⟩:=Sd hv;obtain⟨ρ,τ,K,q1,q2⟩:=N1 (js hk) s1 h2;simp only at q1 q2;subst q1;rcases K with K | ⟨id,⟨m,xs,ga⟩,hρ,hτ⟩
 ·have hi:=q2 hs (K.1 _ hle);rw[K.2]at hi h2⊢;exact oj l1 l2 d1 d2 inv.se h1 h2 hi h1
 ·have hi:=q2 hs (hρ _ hle);have hne:i1≠id:=by
   grind [cO]
  refine oj l1 l2 d1 d2 inv.se h1 h2 hi ?_
  grind [AA,anP]
theorem awE {b:Bool}{u v:VI}(hu:isP u=true) (hv:ue b v=true) (hap:xC false b u v=true) {F:List Nat}{st st1 st2:St}(inv:bw st) (h1:bh r u st=some st1) (h2:aR r b F v st1=some st2):∃ st1',aR r b F v st=some st1'∧bh r u st1'=some st2:=by
 obtain⟨R1,M1,R2,M2,f1,f2,d1,d2⟩:=lT hap;have l1:=ge (r:=r) f1 F;have l2:=ge (r:=r) f2 F;obtain⟨e,hs⟩:=st;obtain⟨e1,hs1⟩:=st1;obtain⟨e2,hs2⟩:=st2;have hsh:be hs.heap:=inv.sh;obtain⟨R,M,hk⟩:=Sd hu;obtain⟨ρ,τ,K,q1,q2⟩:=N1 (js hk) inv.se h1;subst q1;obtain⟨i2,o2,c2,w2,g2,k2,n2,rfl,b2⟩:=Ib hv h2;have hle:∀ {h:ac},get h i2=some (.cells c2)→bx h (put h i2 (.cells (c2.set o2 (share w2)))):=fun g=>(bx.upd (o:=some (.cells (c2.set o2 (share w2)))) g (fun o1 ho=>by grind [ak5])).1
 rcases K with K | ⟨id,_,hρ,hτ⟩
 ·simp only[K.2]at g2 h2 h1 q2⊢;exact oj l1 l2 d1 d2 inv.se h1 h2 h2 (q2 _ (K.1 _ (hle g2)))
 ·simp only[hτ]at g2 h2 h1 q2⊢;rw[AA]at g2;split at g2
  ·simp at g2
  ·rename_i hne;refine oj l1 l2 d1 d2 inv.se h1 h2 (b2 hs c2 g2 k2) ?_;have:=q2 ⟨put hs.heap i2 (.cells (c2.set o2 (share w2))),hs.next⟩ (hρ _ (hle g2));rw[anP hsh hne];exact this
theorem HD {a:Bool}{u:VI}(h:(!a || ue a u)=true) {F:List Nat}{st st1:St}(hr:aR r a F u st=some st1):bh r u st=some st1∧(a=true→∃ d x,u.dst=some d∧get st1.env d=some x∧Er x=true):=by
 cases a with
 | false=>exact⟨hr,fun h=>by simp at h⟩
 | true =>
  obtain⟨p,_,hop,hth⟩:=Gx h;have hn:mi u.op=.take:=by rw[hop];rfl
  simp only[aR,oh,hn]at hr
  grind
theorem aeE {a:Bool}{u:VI}(h:(!a || ue a u)=true) {F:List Nat}{st st1:St}(hr:bh r u st=some st1) (ho:a=true→∃ d x,u.dst=some d∧get st1.env d=some x∧Er x=true):aR r a F u st=some st1:=by
 cases a with
 | false=>exact hr
 | true =>
  obtain⟨p,_,hop,hth⟩:=Gx h;have hn:mi u.op=.take:=by rw[hop];rfl
  grind [aR,oh]
theorem Ie {a:Bool}{u:VI}(h:(!a || ue a u)=true) (e:ao) (F:List Nat):fC a u e F=F:=by
 cases a with
 | false=>rfl
 | true=>grind [auf]
theorem afb {u v:VI}(h:AB u v=true):∃ k1 R1 M1 k2 R2 M2,fu u=some (k1,R1,M1)∧fu v=some (k2,R2,M2)∧(∀ k∈M1,k∉M2):=by
 grind [AB,eM]
theorem apj {a b:Bool}{u v:VI}(h:VW a b u v=true) {F:List Nat}{st st1 st2:St}(inv:bw st) (h1:aR r a F u st=some st1) (h2:aR r b (fC a u st.env F) v st1=some st2):KE r a b u v F st st1 st2:=by
 simp only[VW,Bool.and_eq_true]at h;obtain⟨⟨ha,hb⟩,h⟩:=h;rw[Ie ha]at h2;have fin:(∃ st1',aR r b F v st=some st1'∧aR r a F u st1'=some st2)→KE r a b u v F st st1 st2:=by
  intro ⟨st1',k1,k2⟩;refine⟨st1',k1,by grind [Ie],?_⟩
  grind [Ie]
 simp only[Bool.or_eq_true,Bool.and_eq_true]at h;rcases h with h | ⟨hap,h⟩
 ·obtain⟨p1,o1⟩:=HD ha h1;obtain⟨p2,o2⟩:=HD hb h2;obtain⟨st1',q1,q2⟩:=aoI h inv p1 p2;obtain⟨k1,R1,M1,k2,R2,M2,e1,e2,hap⟩:=afb h;obtain⟨en1,hs1⟩:=st1;obtain⟨en1',hs1'⟩:=st1';refine fin ⟨_,aeE hb q1 fun hn=>?_,aeE ha q2 fun hn=>?_⟩
  ·obtain⟨d,x,hd,hx,ho⟩:=o2 hn;refine⟨d,x,hd,?_,ho⟩;obtain⟨_,_,_,_,_,g,_⟩:=js e1 en1' hs1' _ q2
   grind [KL]
  ·obtain⟨d,x,hd,hx,ho⟩:=o1 hn;refine⟨d,x,hd,?_,ho⟩;obtain⟨_,_,_,_,_,g,_⟩:=js e2 en1 hs1 _ p2
   grind [KL]
 ·rcases h with (h | h) | h
  ·grind [avP]
  ·have:=ajX h.2 hb;subst this;exact fin (awU h.1 h.2 hap inv h1 h2)
  ·have:=ajX h.1 ha;subst this;exact fin (awE h.1 h.2 hap inv h1 h2)
theorem aua {a:Bool}{i:VI}(h:ue a i=true):∃ R M,fu i=some (.t,R,M):=by
 obtain⟨p,_,hop,hth⟩:=Gx h
 simp_all [fu]
theorem aiA {st st1:St}(inv:bw st) (he:be st1.env) (hh:st1.hs=st.hs):bw st1:=⟨he,by grind [bw.sh],by grind [bw.fr]⟩
theorem awz {u:VI}{j:Nat}{m:Bool}{i d:Nat}(ho:u.op=.ext j m i) (hd:u.dst=some d) (hg:u.guard=none) (ht:u.th=[]) {st st1:St}(hs:be st.env) (h1:bh r u st=some st1):be st1.env:=by
 obtain⟨e,hs0⟩:=st
 grind [Gv,be.put,A9]
theorem RA {a b:Bool}{u v:VI}(h:lg a b u v=true) {F:List Nat}{st st1:St}(hs:be st.env) (h1:aR r a F u st=some st1):be st1.env:=by
 simp only[lg,Bool.and_eq_true,Bool.not_eq_true']at h;obtain⟨⟨⟨⟨rfl,rfl⟩,ht1⟩,ht2⟩,h⟩:=h;split at h
 ·rename_i j m i l n k d c o1 o2 dd1 dd2 g1 g2;exact awz o1 dd1 g1 (Bt ht1) hs h1
 simp_all
theorem at8 {a b:Bool}{u v:VI}(h:gq a b u v=true) (hk:kS b v=false) {F:List Nat}{st st1:St}(inv:bw st) (h1:aR r a F u st=some st1):bw st1:=by
 simp only[gq,Bool.or_eq_true]at h;rcases h with (h | h) | h
 ·obtain⟨e,hs⟩:=st;simp only[Np,Bool.and_eq_true,Bool.or_eq_true]at h;obtain⟨hap,h⟩:=h;obtain⟨R1,M1,R2,M2,f1,f2,d1,d2⟩:=lT hap;have se:=(ge (r:=r) f1 F e hs _ h1).1 inv.se
  grind [aiA,HQ,Nz,ajt,Tr]
 ·exact aiA inv (RA h inv.se h1) (HQ (aoq h) h1).1
 ·simp only[Bool.and_eq_true]at h;obtain⟨_,h⟩:=h;simp only[VW,Bool.and_eq_true]at h;obtain⟨⟨ha,hb⟩,h⟩:=h;obtain⟨p1,_⟩:=HD ha h1
  grind [afb,Cs,aua,Sd]
theorem atd {a b:Bool}{u v:VI}(h:gq a b u v=true) (hk:kS b v=true) {F:List Nat}{st st1:St}(hs:be st.env) (h1:aR r a F u st=some st1):be st1.env:=by
 simp only[gq,Bool.or_eq_true]at h;rcases h with (h | h) | h
 ·obtain⟨e,hs0⟩:=st;simp only[Np,Bool.and_eq_true]at h;obtain⟨R1,M1,R2,M2,f1,f2,d1,d2⟩:=lT h.1;exact(ge (r:=r) f1 F e hs0 _ h1).1 hs
 all_goals grind [RA]
theorem ayH {a b:Bool}{u v:VI}(h:gq a b u v=true) (hk:kS b v=true) {F:List Nat}{st st1 st2:St}(hs:be st.env) (h1:aR r a F u st=some st1) (h2:aR r b (fC a u st.env F) v st1=some st2):KE r a b u v F st st1 st2:=by
 grind [gq,VA,Ln]
theorem ayJ {a b:Bool}{u v:VI}(h:gq a b u v=true) {F:List Nat}{st st1 st2:St}(inv:bw st) (h1:aR r a F u st=some st1) (h2:aR r b (fC a u st.env F) v st1=some st2):KE r a b u v F st st1 st2:=by
 grind [gq,VA,bw.se,Ln,apj]
end
inductive I5 (ops:Array Oper):Nat→Nat→Prop
 | one {i:Nat}{o:Oper}{e:Edge}:ops[i]?=some o→e∈o.after→oF e.ground=true→I5 ops i e.on
 | more {i j:Nat}{o:Oper}{e:Edge}:ops[i]?=some o→e∈o.after→oF e.ground=true→I5 ops e.on j→I5 ops i j
theorem Iu {k:Nat}:∀ {a l:List Nat},k∈LA a l→k∈a∨k∈l
 | [],l,h=>.inr h
 | x::r,l,h=>by
  simp only[LA]at h;split at h
  ·rcases Iu h with h | h<;>simp_all
  ·rcases Iu h with h | h<;>grind
def WW (ops:Array Oper) (tab:List (Nat×List Nat)):Prop:=∀ i l,get tab i=some l→∀ j∈l,I5 ops i j
theorem Vw {ops:Array Oper}{tab:List (Nat×List Nat)}(ht:WW ops tab) {i:Nat}{o:Oper}(ho:ops[i]?=some o):∀ {es:List Edge},(∀ e∈es,e∈o.after)→∀ j,j∈NO tab es→I5 ops i j
 | [],_,j,h=>by simp[NO]at h
 | e::r,hes,j,h=>by
  simp only[NO]at h;have hr:=Vw ht ho (es:=r) (fun x hx=>hes x (.tail _ hx)) j;split at h
  ·rename_i hw;rcases Iu h with h | h
   ·rcases List.mem_cons.1 h with rfl | h
    ·exact .one ho (hes e (.head _)) hw
    ·split at h
     ·rename_i l hl;exact .more ho (hes e (.head _)) hw (ht _ _ hl _ h)
     simp_all
   simp_all
  simp_all
theorem Rv {ops:Array Oper}:∀ {l:List Nat}{tab:List (Nat×List Nat)},WW ops tab→WW ops (Bp ops l tab)
 | [],_,ht=>ht
 | i::l,tab,ht=>by
  simp only[Bp];refine Rv fun k m h j hj=>?_
  rw[dD]at h;split at h
  ·grind [Vw]
  ·exact ht k m h j hj
def aor (anc:List (Nat×List Nat)) (nr:List Nat) (vs:List VI) (j i:Nat):Prop :=
 (lM anc i j=true∨∃ u v,vs[j]?=some u∧vs[i]?=some v∧gq (bW j nr) (bW i nr) u v=true)∨(mo anc vs i=true∧(∀ k,k<vs.length→lM anc k i=true→lM anc k j=true)∧lM anc j i=false)
theorem V9 {anc:List (Nat×List Nat)}{i j:Nat}:∀ {n:Nat},V5 anc i j n=true→∀ k,k<n→lM anc k i=true→lM anc k j=true
 | 0,_,k,hk,_=>by omega
 | n+1,h,k,hk,hd=>by
  simp only[V5,Bool.and_eq_true,Bool.or_eq_true,Bool.not_eq_true']at h;by_cases e:k=n
  ·simp_all
  ·exact V9 h.2 k (by omega) hd
theorem atC {ops:Array Oper}{anc:List (Nat×List Nat)}(ha:WW ops anc) {k i:Nat}(h:lM anc k i=true):I5 ops k i:=by
 unfold lM at h;split at h
 ·rename_i l hl;exact ha _ _ hl _ (ma.1 h)
 simp_all
structure lj (P:Program) (n:Nat) (ops:Array Oper) (nr:List Nat) (vs:List VI) (perm:List Nat) (anc:List (Nat×List Nat)):Prop where
 len:vs.length=ops.size
 vi:∀ (i:Nat) (v:VI) (o:Oper),vs[i]?=some v→ops[i]?=some o→tH P n ops v o=true
 edge:∀ (i:Nat) (o:Oper),ops[i]?=some o→∀ e∈o.after,e.on<ops.size∧(txG e.ground=true→e.on<i)
 pair:perm.Pairwise fun j i=>aor anc nr vs j i
 path:∀ k i,lM anc k i=true→I5 ops k i
 gco:∃ gl:List Nat,(∀ i,i<ops.size→i∈gl)∧gl.Pairwise (fun j i=>∀ o,ops[j]?=some o→∀ e∈o.after,Wk e.ground=true→e.on≠i)∧∀ j∈gl,∀ o,ops[j]?=some o→∀ e∈o.after,Wk e.ground=true→e.on≠j
 nd:perm.Nodup
 lt:∀ i∈perm,i<ops.size
 near:∀ (i:Nat) (v:VI),bW i nr=true→vs[i]?=some v→mi v.op≠.read∨∃ R M,fu v=some (.q,R,M)
 all:∀ i,i<ops.size→i∈perm
theorem Q6 {P:Program}{n:Nat}{ops:Array Oper}{k:Nat}:∀ {vs:List VI}{os:List Oper}{b:Nat},AL P n ops k b vs os=true→vs.length=os.length∧
  ∀ (i:Nat) (v:VI) (o:Oper),vs[i]?=some v→os[i]?=some o→tH P n ops v o=true∧∀ e∈o.after,e.on<k∧(txG e.ground=true→e.on<b+i)
 | [],[],_,_=>⟨rfl,fun i v o h=>by simp at h⟩
 | x::vs,p::os,b,h=>by
  simp only[AL,Bool.and_eq_true]at h;obtain⟨⟨h1,h3⟩,h4⟩:=h;obtain⟨k1,k2⟩:=Q6 h4
  grind [Nat.blt_eq]
 | [],_::_,_,h=>by simp[AL]at h
 | _::_,[],_,h=>by simp[AL]at h
theorem Rs {anc:List (Nat×List Nat)}{nr:List Nat}{vs:List VI}{j:Nat}:∀ {l:List Nat},Nl anc nr vs j l=true→∀ i∈l,aor anc nr vs j i
 | [],_,i,hi=>by simp at hi
 | x::r,h,i,hi=>by
  simp only[Nl,Bool.and_eq_true,Bool.or_eq_true]at h;rcases List.mem_cons.1 hi with rfl | hi
  ·rcases h.1 with (h | h) | h
   ·exact .inl (.inl h)
   ·split at h
    ·rename_i u v h1 h2;exact .inl (.inr ⟨u,v,h1,h2,h⟩)
    simp_all
   ·simp only[Bool.not_eq_true']at h;exact .inr ⟨h.1.1,V9 h.1.2,h.2⟩
  ·exact Rs h.2 i hi
theorem an5 {ops:Array Oper}{j:Nat}{l:List Nat}(h:ajJ ops j l=true):∀ i∈l,∀ o,ops[j]?=some o→∀ e∈o.after,Wk e.ground=true→e.on≠i:=by
 grind [ajJ,ma]
theorem ae9 {ops:Array Oper}:∀ {l:List Nat},aid ops l=true→l.Pairwise (fun j i=>∀ o,ops[j]?=some o→∀ e∈o.after,Wk e.ground=true→e.on≠i)∧∀ j∈l,∀ o,ops[j]?=some o→∀ e∈o.after,Wk e.ground=true→e.on≠j
 | [],_=>⟨.nil,fun i hi=>by simp at hi⟩
 | j::r,h=>by
  simp only[aid,Bool.and_eq_true]at h;obtain⟨h0,h4⟩:=h;obtain⟨k4,k5⟩:=ae9 h4;have hw:=an5 h0
  simp_all
theorem Rw {ops:Array Oper}{anc:List (Nat×List Nat)}{nr:List Nat}{vs:List VI}:∀ {l:List Nat},NN ops anc nr vs l=true→l.Pairwise (fun j i=>aor anc nr vs j i)∧
  l.Nodup∧∀ i∈l,i<vs.length
 | [],_=>⟨.nil,.nil,fun i hi=>by simp at hi⟩
 | j::r,h=>by
  simp only[NN,Bool.and_eq_true,Bool.not_eq_true']at h;obtain⟨⟨⟨h1,h2⟩,h3⟩,h4⟩:=h;obtain⟨k1,k2,k3⟩:=Rw h4;refine⟨.cons (Rs h1) k1,List.nodup_cons.2 ⟨fun hm=>?_,k2⟩,fun i hi=>?_⟩
  all_goals grind [ma,Nat.blt_eq]
theorem K4 {l:List Nat}:∀ {n:Nat},XX l n=true→∀ i,i<n→i∈l
 | 0,_,i,hi=>by omega
 | n+1,h,i,hi=>by
  simp only[XX,Bool.and_eq_true]at h;rcases Nat.lt_or_ge i n with h1 | h1
  ·exact K4 h.2 i h1
  grind [ma]
theorem afw {vs:List VI}:∀ {nr:List Nat},aib vs nr=true→∀ (i:Nat) (v:VI),bW i nr=true→vs[i]?=some v→mi v.op≠.read∨∃ R M,fu v=some (.q,R,M)
 | [],_,i,v,h,_=>by simp[bW]at h
 | j::r,h,i,v,hg,hv=>by
  simp only[aib,Bool.and_eq_true]at h;rcases List.mem_cons.1 (ma.1 hg) with e | hm
  ·grind [BQ,TB]
  ·exact afw h.2 i v (ma.2 hm) hv
theorem awG {P:Program}{n:Nat}{ops:Array Oper}{gco nr:List Nat}{vs:List VI}{perm:List Nat}(h:CT P n ops perm gco nr vs=true):lj P n ops nr vs perm (Bp ops perm []):=by
 simp only[CT,Bool.and_eq_true]at h;obtain⟨⟨⟨⟨⟨h1,hnr⟩,hga⟩,hg⟩,h2⟩,h3⟩:=h;obtain⟨g1,g2⟩:=ae9 hg;obtain⟨k1,k2⟩:=Q6 h1;have hl:vs.length=ops.size:=by omega
 have ha:WW ops (Bp ops perm []):=Rv fun i l h=>by simp[sk]at h
 obtain⟨q1,q2,q3⟩:=Rw h3;have hget:∀ (i:Nat) (o:Oper),ops[i]?=some o→ops.toList[i]?=some o:=fun i o h=>by simp_all
 refine⟨hl,fun i v o hv ho=>(k2 i v o hv (hget i o ho)).1,fun i o ho e he=>?_,q1,fun k i h=>atC ha h,⟨gco,fun i hi=>K4 hga i (by omega),g1,g2⟩,q2,fun i hi=>by simp_all,afw hnr,fun i hi=>?_⟩
 ·have hi:i<vs.length:=by
   grind
  have:=(k2 i vs[i] o (by simp) (hget i o ho)).2 e he
  simp_all
 grind [K4]
section
variable {P:Program}{r:bC}
theorem ajP {g:Gh}{w:World}:∀ {l:ac}{O:Nat→Nat},ut P g w l O→∀ {id:Nat}{o:Obj},get l id=some o→∃ b,g.obj id=some b
 | [],_,_,id,o,h=>by simp[sk]at h
 | (k,v)::l,O,rh,id,o,h=>by
  obtain⟨Q1,Q2,q1,q2,_⟩:=rh;rw[dD]at h;split at h
  ·cases v<;>grind [fE]
  ·exact ajP q2 h
theorem S.heap_fresh {g:Gh}{w:World}{t:Array Value}{O:Nat→Nat}{st:St}(s:S P g w st t O) {id:Nat}(h:st.hs.next≤id):get st.hs.heap id=none:=by
 obtain⟨Oe,Oh,re,rh,ho⟩:=s.parts
 cases hg:get st.hs.heap id<;>grind [ajP,fresh]
theorem H5 {nr:List Nat}{i:Nat}{F:List Nat}{v:VI}{st st1:St}(hn:bW i nr=true→mi v.op≠.read∨∃ R M,fu v=some (.q,R,M)) (hsrt:be st.env) (h:aR r (bW i nr) F v st=some st1):bh r v st=some st1:=by
 obtain⟨e,hs⟩:=st
 cases hg:bW i nr with
 | false=>rw[hg]at h;exact h
 | true =>
  rcases hn hg with h1 | ⟨R,M,h1⟩
  ·exact am3 (R:=[]) (M:=[]) hsrt (.inr (.inl h1)) h
  grind [am3]
theorem Q3 {nr:List Nat}{vs:List VI}{i:Nat}{v:VI}(hv:vs[i]?=some v) (hk:kS (bW i nr) v=true) {l2:List Nat}:∀ {l1:List Nat}{F:List Nat}{st st':St},(∀ j∈l1,∃ u,vs[j]?=some u∧gq (bW j nr) (bW i nr) u v=true)→be st.env→
  cM r nr vs (l1++i::l2) F st=some st'→cM r nr vs (i::(l1++l2)) F st=some st'
 | [],F,st,st',_,_,h=>h
 | j::l1,F,st,st',hj,inv,h=>by
  obtain⟨u,hu,hm⟩:=hj j (.head _);simp only[List.cons_append,cM,hu]at h;split at h
  ·simp at h
  ·rename_i st1 h1;have h2:=Q3 hv hk (fun k hk=>hj k (.tail _ hk)) (atd hm hk inv h1) h;simp only[cM,hv]at h2;split at h2
   ·simp at h2
   ·rename_i st2 h3;obtain⟨st1',k1,k2,k3⟩:=ayH hm hk inv h1 h3
    grind [cM,R4]
theorem Rp {nr:List Nat}{vs:List VI}{i:Nat}{v:VI}(hv:vs[i]?=some v) (hk:kS (bW i nr) v=false) {l2:List Nat}:∀ {l1:List Nat}{F:List Nat}{st st':St},(∀ j∈l1,∃ u,vs[j]?=some u∧gq (bW j nr) (bW i nr) u v=true)→bw st→
  cM r nr vs (l1++i::l2) F st=some st'→cM r nr vs (i::(l1++l2)) F st=some st'
 | [],F,st,st',_,_,h=>h
 | j::l1,F,st,st',hj,inv,h=>by
  obtain⟨u,hu,hm⟩:=hj j (.head _);simp only[List.cons_append,cM,hu]at h;split at h
  ·simp at h
  ·rename_i st1 h1;have h2:=Rp hv hk (fun k hk=>hj k (.tail _ hk)) (at8 hm hk inv h1) h;simp only[cM,hv]at h2;split at h2
   ·simp at h2
   ·rename_i st2 h3;obtain⟨st1',k1,k2,k3⟩:=ayJ hm inv h1 h3
    grind [cM,R4]
theorem Q7 {nr:List Nat}{vs:List VI}{i:Nat}{v:VI}(hv:vs[i]?=some v) {l2 l1:List Nat}{F:List Nat}{st st':St}(hj:∀ j∈l1,∃ u,vs[j]?=some u∧gq (bW j nr) (bW i nr) u v=true) (inv:bw st)
  (h:cM r nr vs (l1++i::l2) F st=some st'):cM r nr vs (i::(l1++l2)) F st=some st':=by
 cases hk:kS (bW i nr) v<;>grind [Q3,bw.se,Rp]
theorem abR {α:Type}:∀ {l:List (Nat×α)},be l→∀ {p:Nat×α},p∈l→get l p.1=some p.2
 | [],_,p,hp=>by simp at hp
 | (k,v)::r,hs,p,hp=>by
  rw[dD];rcases List.mem_cons.1 hp with rfl | hp
  ·simp
  ·have h1:=(List.pairwise_cons.1 hs).1 p hp;have:k≠p.1:=(zV.ne h1).symm;rw[if_neg this];exact abR (List.pairwise_cons.1 hs).2 hp
theorem YC {anc:List (Nat×List Nat)}{d:Nat}{l:List Nat}{i:Nat}:∀ {vs:List VI}{b:Nat},Xf anc d l i b vs=true→∀ k v,vs[k]?=some v→b+k≠i→lM anc (b+k) i=true∨∃ R M,fH v=some (R,M)∧d∉M∧(lM anc i (b+k)=true∨∀ q∈l,q∉M)
 | [],_,_,k,v,h,_=>by simp at h
 | x::r,b,h,k,v,hv,hne=>by
  simp only[Xf,Bool.and_eq_true,Bool.or_eq_true]at h
  cases k with
  | zero =>
   grind [Nat.beq_eq,eM,ma]
  | succ k =>
   have:=YC h.2 k v hv (by omega)
   grind
theorem Ad {v:VI}{d:Nat}(h:dV v=some d):(∃ zs,v=⟨some d,none,.alloc zs,[]⟩)∨∃ z l c th,v=⟨some d,none,.mkslice z l c,th⟩∧qp l=true∧qp c=true:=by
 obtain⟨dst,gd,op,th⟩:=v
 grind [dV]
theorem qw {v:VI}{d:Nat}(h:dV v=some d):v.dst=some d∧v.guard=none∧v.op≠.bad:=by
 grind [Ad]
theorem oP {anc:List (Nat×List Nat)}{vs:List VI}{i:Nat}(h:mo anc vs i=true):∃ v d,vs[i]?=some v∧dV v=some d∧(∀ k u,vs[k]?=some u→k≠i→lM anc k i=true∨∃ R M,fH u=some (R,M)∧d∉M∧(lM anc i k=true∨∀ q∈qi v,q∉M))∧∀ j,lM anc i j=true→mo anc vs j=false:=by
 unfold mo at h;split at h
 ·rename_i v hv;split at h
  ·rename_i d hd;simp only[Bool.and_eq_true]at h;refine⟨v,d,hv,hd,fun k u hk hne=>by simpa using YC h.1 k u hk (by omega),fun j hj=>?_⟩
   grind [lM,ma,mo]
  simp_all
 simp_all
theorem apR {v:VI}{k:tB}{R M:List Nat}(h:fu v=some (k,R,M)):fH v=some (R,M):=by grind [fH]
theorem ae7 {a b:Bool}{u v:VI}(h:gq a b u v=true) (hne:lg a b u v=false):∃ R1 M1 R2 M2,fH u=some (R1,M1)∧fH v=some (R2,M2)∧(∀ k∈M1,k∉R2∧k∉M2)∧∀ k∈M2,k∉R1:=by
 have sub:∀ {a:Bool}{v:VI}{R M:List Nat},qn a v=some (R,M)→∃ R',fH v=some (R',M)∧∀ k∈R',k∈R:=fun {a v R M} h=>by
  grind [qn]
 have ap:xC a b u v=true→∃ R1 M1 R2 M2,fH u=some (R1,M1)∧fH v=some (R2,M2)∧(∀ k∈M1,k∉R2∧k∉M2)∧∀ k∈M2,k∉R1:=fun h=>by
  grind [lT]
 grind [gq,Np,VW,AB,apR,eM]
theorem Wt {a b:Bool}{u v:VI}{d:Nat}(hu:dV u=some d):lg a b u v=false∧lg b a v u=false:=by
 grind [Ad,lg]
theorem VS {v:VI}{d:Nat}(hv:dV v=some d) {R M:List Nat}(h:fH v=some (R,M)):∀ q∈qi v,q∈R:=by
 rcases Ad hv with ⟨zs,rfl⟩ | ⟨z,l,c,th,rfl,_,_⟩
 ·grind [qi]
 ·intro q hq
  cases th with
  | nil =>
   simp only[fH,fu,GM,vP,Option.some.injEq,Prod.mk.injEq]at h;rw[←h.1];exact List.mem_append_left _ hq
  | cons p th =>
   simp only[fH,fu,GM,vP,Option.some.injEq,Prod.mk.injEq]at h;rw[←h.1];exact List.mem_append_left _ hq
theorem aop {a b:Bool}{u v:VI}{d:Nat}(h:gq a b u v=true) (hu:dV u=some d):∃ R M,fH v=some (R,M)∧∀ q∈d::qi u,q∉M:=by
 grind [ae7,Wt,xE,qw,VS]
theorem Zc {a b:Bool}{u v:VI}{d:Nat}(h:gq a b u v=true) (hv:dV v=some d):∃ R M,fH u=some (R,M)∧∀ q∈d::qi v,q∉M:=by
 grind [ae7,Wt,xE,qw,VS]
theorem amZ {e e':ao}{x:Rd}(hs:qp x=true) (h:∀ q∈jt x,get e' q=get e q) {v:AV}{e1:ao}(hr:rd e x=some (v,e1)):e1=e∧rd e' x=some (v,e'):=by
 cases x with
 | s i =>
  have hi:=h i (by simp[jt]);simp only[rd]at hr⊢;split at hr<;>simp_all
 | m i=>simp[qp]at hs
 | c u =>
  grind [rd]
theorem anm {z:List D}{l c:Rd}{st st2:St}{a:AV}{st1:St}(hl:qp l=true) (hc:qp c=true) (h:∀ q∈aP [l,c],get st2.env q=get st.env q) (hr:ig z l c st=some (a,st1)):st1=st∧ig z l c st2=some (a,st2):=by
 unfold ig at hr⊢;split at hr
 ·rename_i n e hn;obtain⟨rfl,h1⟩:=amZ hl (fun q hq=>h q (by simp[aP,hq])) hn;split at hr
  ·rename_i m e2 hm;obtain⟨rfl,h2⟩:=amZ hc (fun q hq=>h q (by simp[aP,hq])) hm;split at hr
   ·split at hr
    ·obtain⟨rfl,rfl⟩:=hr
     simp_all
    simp_all
   simp_all
  simp_all
 simp_all
inductive tY (g:Gh) (w:World) (st:St) (d:Nat):VI→Value→(Nat→Nat)→Prop
 | var {zs:List AV}{b:Nat}{c:Array Value}{el:TypeId}:jy zs c.toList=true→w.heap[b]?=some (.cells c el (0,0))→(∀ o,¬ g.pm b o)→tY g w st d ⟨some d,none,.alloc zs,[]⟩ (.pointer (some ⟨b,0,none⟩)) (one b)
 | list {z:List D}{l c:Rd}{th:List (Nat×Nat)}{a:AV}{x:Value}{A:Nat→Nat}:qp l=true→qp c=true→ig z l c st=some (a,st)→RV g w a x A→tY g w st d ⟨some d,none,.mkslice z l c,th⟩ x A
structure apc (g:Gh) (w:World) (t:Array Value) (O:Nat→Nat) (st:St) (anc:List (Nat×List Nat)) (vs:List VI) (i:Nat) (A:Nat→Nat):Prop where
 late:mo anc vs i=true
 hi:∀ b,A b≠0→b<w.heap.size
 le:∀ b,A b+O b≤1
 it:∃ v d x,vs[i]?=some v∧d<t.size∧t[d]?=some x∧tY g w st d v x A
theorem tY.dst {g:Gh}{w:World}{st:St}{d:Nat}{v:VI}{x:Value}{A:Nat→Nat}(h:tY g w st d v x A):dV v=some d:=by
 cases h<;>grind [dV]
theorem tY.keep {g g':Gh}{w w':World}{st st':St}{d:Nat}{v:VI}{x:Value}{A:Nat→Nat}{T:Nat→Prop}(h:tY g w st d v x A) (hx:aH g w g' w' T) (hA:∀ b,A b≠0→b<w.heap.size∧¬ T b)
  (he:∀ q∈qi v,get st'.env q=get st.env q):tY g' w' st' d v x A:=by
 cases h with
 | var h1 h2 h3 =>
  rename_i zs b c el;have hb:=hA b (by simp);obtain⟨b1,b2⟩:=hx.blk b hb.1 hb.2;exact .var h1 (b1.trans h2) fun o ho=>h3 o (b2 o ho)
 | list h1 h2 h3 h4=>exact .list h1 h2 (anm h1 h2 he h3).2 (RV.ext hx _ _ _ h4 fun b hb=>(hA b hb).2)
theorem S.adopt {g:Gh}{w:World}{t:Array Value}{O:Nat→Nat}{st:St}{zs:List AV}{d b:Nat}{c:Array Value}{el:_}(s:S P g w st t O) (hb:b<w.heap.size) (h0:O b=0) (hp:∀ o,¬ g.pm b o) (hz:jy zs c.toList=true)
  (hh:w.heap[b]?=some (.cells c el (0,0))) (hd:d<t.size) (ht:t[d]?=some (.pointer (some ⟨b,0,none⟩))) :
  ∃ g' O',S P g' w ⟨put st.env d (.ptr st.hs.next 0),⟨put st.hs.heap st.hs.next (.cells zs),st.hs.next+1⟩⟩ t O'∧aH g w g' w (fun _=>False)∧(∀ x,x≠b→O' x≤O x)∧g'.pm=g.pm:=by
 have hn:=s.fresh st.hs.next (Nat.le_refl _)
 have hx:aH g w (g.add st.hs.next b 0 1 zs.length) w (fun _=>False):=(aH.refl g w _).add hn _ _ _ _;have hfr:=s.heap_fresh (Nat.le_refl st.hs.next);obtain⟨Oe,Oh,re,rh,ho⟩:=s.parts;have re':=fP.ext hx re (by simp);have rh':ut P (g.add st.hs.next b 0 1 zs.length) w st.hs.heap Oh:=rh.imp' fun k v O1 _ _ q=>q.ext hx (by simp) (by simp)
 have hk:∀ p∈st.hs.heap,p.1≠st.hs.next:=by
  intro p hp e
  grind [abR,sh]
 have r:fE P (g.add st.hs.next b 0 1 zs.length) w st.hs.next (.cells zs) (fun x=>zero x+one b x):=by
  exact⟨b,c,el,zero,by simp[Gh.add],by simp[Gh.add],by simp[Gh.add],by simp[Gh.add],hh,RVs.consts hz,fun o ho=>hp o ho,fun _=>rfl⟩
 rw[←lc hk]at rh';obtain⟨O3,r3,h3⟩:=RL.put s.sh rh' r;have hle:∀ x,one b x+O x≤1:=fun x=>by
  by_cases e:x=b
  ·simp_all
  ·have:=s.le x;grind [one]
 have s1:S P (g.add st.hs.next b 0 1 zs.length) w ⟨st.env,⟨put st.hs.heap st.hs.next (.cells zs),st.hs.next+1⟩⟩ t (fun x=>one b x+O x):=by
  refine⟨s.se,s.sh.put _ _,⟨Oe,O3,re',r3,fun x=>?_⟩,hle,fun x hxx=>?_,fun i hi=>?_,s.pmlt⟩
  ·grind
  ·by_cases e:x=b
   ·omega
   ·exact s.hi x (by grind [one])
  grind [Gh.add,fresh]
 have rv:RV (g.add st.hs.next b 0 1 zs.length) w (.ptr st.hs.next 0) (.pointer (some ⟨b,0,none⟩)) zero:=by
  simp_all [RV,Gh.add]
 obtain⟨O4,s4,l4⟩:=s1.setTmp hd rv (fun x=>by simp_all) (fun x hx=>by simp at hx);have htt:t.setIfInBounds d (.pointer (some ⟨b,0,none⟩))=t:=by
  grind
 rw[htt]at s4;exact⟨_,O4,s4,hx,fun x hne=>by
  grind [one],rfl⟩
theorem S.setOther {g:Gh}{w:World}{t:Array Value}{O:Nat→Nat}{st:St}(s:S P g w st t O) {d:Nat}(hd:get st.env d=none) (x:Value):S P g w st (t.setIfInBounds d x) O:=by
 obtain⟨Oe,Oh,re,rh,ho⟩:=s.parts;refine⟨s.se,s.sh,⟨Oe,Oh,re.imp' fun k v O1 hm _ q=>?_,rh,ho⟩,s.le,s.hi,s.fresh,s.pmlt⟩;have hk:d≠k:=by
  rintro rfl
  have:=abR s.se hm
  simp_all
 refine⟨by simp_all,?_⟩;have:(t.setIfInBounds d x).getD k undef=t.getD k undef:=by
  simp_all
 grind
theorem tY.make {g:Gh}{w:World}{t:Array Value}{O:Nat→Nat}{st st1:St}{d:Nat}{v:VI}{x:Value}{A:Nat→Nat}(h:tY g w st d v x A) (s:S P g w st t O) (hle:∀ b,A b+O b≤1) (hhi:∀ b,A b≠0→b<w.heap.size) (hd:d<t.size) (ht:t[d]?=some x)
  (hr:bh r v st=some st1):∃ g' O',S P g' w st1 t O'∧aH g w g' w (fun b=>A b≠0∨O b≠0)∧(∀ b,O' b≤A b+O b):=by
 cases h with
 | var h1 h2 h3 =>
  rename_i zs b c el;have h9:st1=⟨put st.env d (.ptr st.hs.next 0),⟨put st.hs.heap st.hs.next (.cells zs),st.hs.next+1⟩⟩:=by
   grind [bh,de,br,GE,BP,ba,firm]
  have hob:O b=0:=by have:=hle b;simp at this;omega
  obtain⟨g',O',s',x',l',_⟩:=s.adopt (hhi b (by simp)) hob h3 h1 h2 hd ht;rw[←h9]at s';refine⟨g',O',s',x'.mono fun _ _ h=>h.elim,fun q=>?_⟩;by_cases e:q=b
  ·have:=s'.le q;simp_all
  grind
 | list h1 h2 h3 h4 =>
  rename_i z l c th a;obtain⟨v',st2,hv,rfl⟩:=N8 hr;simp only[br]at hv;rw[h3]at hv;obtain⟨rfl,rfl⟩:=hv;obtain⟨g2,Ov2,O2,r2,s2,x2,l2⟩:=Ey (P:=P) (t:=t) th (env:=st.env) (hs:=st.hs) s h4 hle hhi;have hle2:∀ b,Ov2 b+O2 b≤1:=fun b=>Nat.le_trans (l2 b) (hle b)
  obtain⟨g3,r3,s3,x3⟩:=akl s2 r2 hle2;obtain⟨O4,s4,l4⟩:=s3.setTmp hd r3 hle2 fun b hb=>by
   grind [S.hi]
  have htt:t.setIfInBounds d x=t:=by
   grind
  rw[htt]at s4;exact⟨g3,O4,s4,(x2.mono (T:=fun b=>A b≠0∨O b≠0) fun _ _ h=>h.elim).trans x3 fun b _ hb=>by grind,fun b=>by grind⟩
structure au4 (ops:Array Oper) (nr:List Nat) (vs:List VI) (anc:List (Nat×List Nat)) (m:Region.Mode) (listed:Array Bool) (rem:List Nat) (pd:Nat→Option (Nat→Nat)):Prop where
 pair:rem.Pairwise fun j i=>aor anc nr vs j i
 nd:rem.Nodup
 lt:∀ i∈rem,i<ops.size
 size:listed.size=ops.size
 mem:∀ i,i<ops.size→(i∈rem↔(listed.getD i true=false∨(pd i).isSome=true))
 pdl:∀ i b,pd i=some b→i<ops.size∧listed.getD i false=true
 closed:∀ i o,listed.getD i false=true→ops[i]?=some o→∀ e∈o.after,Region.binds m e=true→listed.getD e.on false=true
structure Cf (P:Program) (r:bC) (n:Nat) (ops:Array Oper) (nr:List Nat) (vs:List VI) (anc:List (Nat×List Nat)) (m:Region.Mode) (listed:Array Bool) (g0:Gh) (w0:World) (t0:Array Value) (O0:Nat→Nat) (st':St)
  (rem:List Nat) (pd:Nat→Option (Nat→Nat)) (F:List Nat) (g:Gh) (w:World) (t:Array Value) (O:Nat→Nat) (st:St):Prop where
 left:au4 ops nr vs anc m listed rem pd
 n:t.size=n
 s:S P g w st t O
 abs:∀ i∈rem,∀ v d,vs[i]?=some v→dV v=some d→mo anc vs i=true→get st.env d=none
 pend:∀ i A,pd i=some A→apc g w t O st anc vs i A
 disj:∀ i j A B,i≠j→pd i=some A→pd j=some B→∀ b,A b+B b≤1
 base:dB P g0 w0 t0 O0 st t w g O
 old:∀ i A,pd i=some A→∀ b,b<w0.heap.size→A b+O b≤O0 b
 le0:∀ b,O0 b≤1
 run:cM r nr vs rem F st=some st'
theorem VH:∀ {l:List Nat},l≠[]→∃ i∈l,∀ j∈l,i≤j
 | [],h=>absurd rfl h
 | [x],_=>⟨x,.head _,fun j hj=>by simp_all⟩
 | x::y::r,_=>by
  obtain⟨i,hi,hm⟩:=VH (l:=y::r) (by simp)
  grind
theorem mL {ops:Array Oper}{m:Region.Mode}{listed:Array Bool}(hc:∀ i o,listed.getD i false=true→ops[i]?=some o→∀ e∈o.after,Region.binds m e=true→listed.getD e.on false=true) {i j:Nat}
  (hp:I5 ops i j):(∀ o,ops[i]?=some o→∀ e∈o.after,Region.binds m e=true→listed.getD e.on false=true)→listed.getD j false=true:=by
 induction hp<;>grind [VL]
theorem asV {P:Program}{n:Nat}{ops:Array Oper}{nr:List Nat}{vs:List VI}{perm:List Nat}{anc:List (Nat×List Nat)}(hok:lj P n ops nr vs perm anc) {m:Region.Mode}{listed:Array Bool}(hsz:listed.size=ops.size) {un:List Nat}
  (hun:∀ i,i∈un↔i<ops.size∧listed.getD i true=false) (hrem:un≠[]) :
  ((List.range ops.size).filter fun i=>!listed.getD i true && ((ops[i]?).map (·.after.all fun e=>!Region.binds m e || listed.getD e.on false)).getD false)≠[]∧
  ∀ i,i∈((List.range ops.size).filter fun i=>!listed.getD i true && ((ops[i]?).map (·.after.all fun e=>!Region.binds m e || listed.getD e.on false)).getD false)↔
   i<ops.size∧listed.getD i true=false∧∃ o,ops[i]?=some o∧∀ e∈o.after,Region.binds m e=true→listed.getD e.on false=true:=by
 have hmu:∀ i,i<ops.size→(i∈un↔listed.getD i true=false):=fun i hi=>⟨fun h=>((hun i).1 h).2,fun h=>(hun i).2 ⟨hi,h⟩⟩
 have hlt0:∀ i,i∈un→i<ops.size:=fun i h=>((hun i).1 h).1
 generalize hrs:((List.range ops.size).filter fun i=>!listed.getD i true && ((ops[i]?).map (·.after.all fun e=>!Region.binds m e || listed.getD e.on false)).getD false)=rs;have hmem:∀ i,i∈rs↔i<ops.size∧listed.getD i true=false∧∃ o,ops[i]?=some o∧∀ e∈o.after,Region.binds m e=true→listed.getD e.on false=true:=by
  grind [Array.all_eq_true_iff_forall_mem]
 have hlist:∀ k,k<ops.size→k∉un→listed.getD k false=true:=fun k hen hnot=>by
  simp_all
 have ready:∀ i∈un,(∀ e∈(ops[i]?).toList.flatMap (fun o=>o.after.toList),Region.binds m e=true→e.on∉un)→i∈rs:=fun i hi he=>by
  have hin:=hlt0 i hi;refine(hmem i).2 ⟨hin,(hmu i hin).1 hi,ops[i],by simp[hin],fun e hem hb=>?_⟩;have hen:=(hok.edge i ops[i] (by simp[hin]) e hem).1
  simp_all
 have hne:rs≠[]:=by
  by_cases hm:m=.gc
  ·obtain⟨gl,ga,gt,gs⟩:=hok.gco;have hl:gl.filter (fun i=>decide (i∈un))≠[]:=by
    obtain⟨i,hi⟩:=List.exists_mem_of_ne_nil un hrem;exact List.ne_nil_of_mem (List.mem_filter.2 ⟨ga i (hlt0 i hi),by grind⟩)
   cases hc:gl.filter (fun i=>decide (i∈un)) with
   | nil=>simp_all
   | cons i rest =>
    have hmm0:∀ k,k∈i::rest↔k∈gl∧k∈un:=fun k=>by grind
    have him:=(hmm0 i).1 (.head _);have hpw:(i::rest).Pairwise (fun j i=>∀ o,ops[j]?=some o→∀ e∈o.after,Wk e.ground=true→e.on≠i):=by grind
    have:i∈rs:=ready i him.2 fun e he hb hmm=>by
     have hg:Wk e.ground=true:=by
      unfold Region.binds at hb
      grind [Wk]
     grind [List.pairwise_cons]
    grind
  ·obtain⟨i,hir,hmin⟩:=VH hrem;have hi:=hlt0 i hir;have:i∈rs:=ready i hir fun e he hb hmm=>by
    simp[hi]at he;have hg:txG e.ground=true:=by
     unfold Region.binds at hb
     grind [txG]
    have h1:=(hok.edge i ops[i] (by simp[hi]) e he).2 hg
    grind
   grind
 simp_all
theorem T3 {listed:Array Bool}{i:Nat}(hi:i<listed.size) (k:Nat) (b:Bool):(listed.setIfInBounds i true).getD k b=if i=k then true else listed.getD k b:=by
 simp only[Array.getD_eq_getD_getElem?,Array.getElem?_setIfInBounds]
 grind
theorem w8 {listed:Array Bool}{i:Nat}(hi:i<listed.size):listed.getD i true=listed.getD i false:=by
 simp_all
variable {n:Nat}{ops:Array Oper}{nr:List Nat}{vs:List VI}{perm:List Nat}{anc:List (Nat×List Nat)}{m:Region.Mode}{listed:Array Bool}{g0:Gh}{w0:World}{t0:Array Value}{O0:Nat→Nat}{st':St}
theorem Cf.flush (hok:lj P n ops nr vs perm anc) {l1 l2:List Nat}{j:Nat}{A:Nat→Nat}{pd:Nat→Option (Nat→Nat)}{F:List Nat}{g:Gh}{w:World}{t:Array Value}{O:Nat→Nat}{st:St}
  (c:Cf P r n ops nr vs anc m listed g0 w0 t0 O0 st' (l1++j::l2) pd F g w t O st) (hj:pd j=some A) (hp:∀ x∈l1,∃ u v,vs[x]?=some u∧vs[j]?=some v∧gq (bW x nr) (bW j nr) u v=true) :
  ∃ F' g' O' st1,Cf P r n ops nr vs anc m listed g0 w0 t0 O0 st' (l1++l2) (fun i=>if i=j then none else pd i) F' g' w t O' st1:=by
 have pj:=c.pend j A hj;obtain⟨v,d,x,h1,h4,h5,hk⟩:=pj.it;have hdst:=hk.dst;have hjn:=(c.left.pdl j A hj).1;have inv:bw st:=⟨c.s.se,c.s.sh,fun id hid=>c.s.heap_fresh hid⟩
 have hsw:∀ x∈l1,∃ u,vs[x]?=some u∧gq (bW x nr) (bW j nr) u v=true:=fun x hx=>by
  simp_all
 have h6:=Q7 h1 hsw inv c.run;simp only[cM,h1]at h6;split at h6
 ·simp at h6
 ·rename_i st1 h7;have h8:bh r v st=some st1:=H5 (fun hw=>hok.near j _ hw h1) c.s.se h7;obtain⟨g',O',s',x',l'⟩:=hk.make c.s pj.le pj.hi h4 h5 h8;have hsub:(l1++l2).Sublist (l1++j::l2):=List.Sublist.append_left (List.sublist_cons_self j l2) l1;have hnd:=c.left.nd;have hjl:j∉l1++l2:=fun hm=>by
   grind
  have hfoot:∀ i,i∈l1++l2→mo anc vs i=true→∀ u q,vs[i]?=some u→dV u=some q→∀ k∈q::qi u,get st1.env k=get st.env k:=fun i hi hl u q hu hq k hkm=>by
   have hij:i≠j:=fun e=>hjl (e▸hi)
   obtain⟨u2,q2,k1,k2,k3,k4⟩:=oP hl;obtain⟨R,M,f1,f0,f2⟩:=(k3 j v h1 (fun e=>hij e.symm)).resolve_left (fun hdj=>by
    obtain⟨_,_,_,_,_,hno⟩:=oP pj.late
    simp_all)
   obtain⟨e1,hs1'⟩:=st;refine(sE f1 e1 hs1' st1 h8).2.1 k ?_
   grind [apc.late]
  have hmem:∀ i B,i≠j→pd i=some B→i∈l1++l2:=fun i B e hi=>by
   have:=(c.left.mem i (c.left.pdl i B hi).1).2 (.inr (by simp_all))
   simp_all
  refine⟨_,g',O',st1,⟨⟨c.left.pair.sublist hsub,hnd.sublist hsub,fun k hk=>c.left.lt k (hsub.subset hk),c.left.size,fun k hk=>?_,fun i b' hi=>?_,c.left.closed⟩,c.n,s',fun i hi u q hu hq hl=>?_,fun i B hi=>?_,fun i k B C hik hi hk=>?_,?_,fun i B hi b hb=>?_,c.le0,h6⟩⟩
  ·have hold:=c.left.mem k hk;by_cases e:k=j
   ·subst e;have hl:=(c.left.pdl k A hj).2
    grind
   simp_all
  ·by_cases e:i=j
   ·simp_all
   ·simp only[e,if_false]at hi;exact c.left.pdl i b' hi
  ·rw[hfoot i hi hl u q hu hq q (.head _)]
   grind [abs]
  ·by_cases e:i=j
   ·simp_all
   ·simp only[e,if_false]at hi;have p:=c.pend i B hi;obtain⟨u,q,y,k1,k2,k3,k4⟩:=p.it;have hd:=c.disj i j B A e hi hj;exact⟨p.late,p.hi,fun b=>by have:=l' b;have:=p.le b;have:=hd b;have:=pj.le b;omega,u,q,y,k1,k2,k3,
     k4.keep x' (fun b hb=>⟨p.hi b hb,fun h=>by have:=hd b;have:=p.le b;omega⟩) fun k hkm=>hfoot i (hmem i B e hi) p.late u q k1 k4.dst k (.tail _ hkm)⟩
  ·by_cases e:i=j
   ·simp_all
   ·by_cases e2:k=j
    ·simp_all
    ·simp only[e,e2,if_false]at hi hk;exact c.disj i k B C hik hi hk
  ·refine⟨s',c.base.ext.trans x' fun b hb h=>?_,fun b hb=>?_,c.base.size⟩
   ·have:=c.old j A hj b hb;omega
   ·exact Nat.le_trans (l' b) (c.old j A hj b hb)
  ·by_cases e:i=j
   ·simp_all
   ·simp only[e,if_false]at hi;have q1:=c.old i B hi b hb;have q2:=c.old j A hj b hb;have q3:=c.disj i j B A e hi hj b
    grind
theorem Cf.flush_all (hok:lj P n ops nr vs perm anc):∀ {rem:List Nat}{pd:Nat→Option (Nat→Nat)}{F:List Nat}{g:Gh}{w:World}{t:Array Value}{O:Nat→Nat}{st:St},
  Cf P r n ops nr vs anc m listed g0 w0 t0 O0 st' rem pd F g w t O st→(∀ i∈rem,(pd i).isSome=true)→∃ g' O',dB P g0 w0 t0 O0 st' t w g' O'
 | [],pd,F,g,w,t,O,st,c,_=>by
  have h:=c.run;simp only[cM,Option.some.injEq]at h;subst h;exact⟨g,O,c.base⟩
 | j::rem,pd,F,g,w,t,O,st,c,hall=>by
  obtain⟨b,hb⟩:=Option.isSome_iff_exists.1 (hall j (.head _));obtain⟨F',g',O',st1,c'⟩:=Cf.flush (l1:=[]) hok c hb (fun x hx=>by simp at hx);have hnd:=c.left.nd;exact Cf.flush_all hok c' fun i hi=>by
   grind
theorem Cf.flush_for (hok:lj P n ops nr vs perm anc) {i:Nat}(hil:listed.getD i true=false) (hnl:mo anc vs i=false) {o:Oper}(ho:ops[i]?=some o) (hready:∀ e∈o.after,Region.binds m e=true→listed.getD e.on false=true) :
  ∀ {k:Nat}{l1 l2:List Nat},l1.length=k→∀ {pd:Nat→Option (Nat→Nat)}{F:List Nat}{g:Gh}{w:World}{t:Array Value}{O:Nat→Nat}{st:St},
  Cf P r n ops nr vs anc m listed g0 w0 t0 O0 st' (l1++i::l2) pd F g w t O st→
  ∃ l1' pd' F' g' O' st1,Cf P r n ops nr vs anc m listed g0 w0 t0 O0 st' (l1'++i::l2) pd' F' g' w t O' st1∧(∀ j∈l1',∃ u v,vs[j]?=some u∧vs[i]?=some v∧gq (bW j nr) (bW i nr) u v=true)∧(l1'.filter fun q=>!listed.getD q true)=(l1.filter fun q=>!listed.getD q true):=by
 intro k
 induction k with
 | zero =>
  grind
 | succ k ih =>
  intro l1 l2 hk pd F g w t O st c;have hpw:=List.pairwise_append.1 c.left.pair;have hin:i<ops.size:=c.left.lt i (by simp);have hlist:∀ a q,a<ops.size→I5 ops a q→listed.getD a false=true∨a=i→listed.getD q false=true:=fun a q ha hpa hla=>by
   refine mL c.left.closed hpa fun o' ho'=>?_
   rcases hla with h | h
   ·exact c.left.closed a o' h ho'
   simp_all
  by_cases hex:∃ j∈l1,lM anc i j=true
  ·
   obtain⟨la,j,lb,hl1,hdj,hfirst⟩:∃ la j lb,l1=la++j::lb∧lM anc i j=true∧∀ x∈la,lM anc i x=false:=by
    clear ih hk c hpw
    induction l1 with
    | nil=>simp_all
    | cons x l1 ihl =>
     by_cases hx:lM anc i x=true
     ·exact⟨[],x,l1,rfl,hx,fun y hy=>by simp at hy⟩
     ·obtain⟨la,j,lb,h1,h2,h3⟩:=ihl (by
       simp_all)
      grind
   subst hl1;have hjm:j∈(la++j::lb)++i::l2:=by simp
   have hjn:=c.left.lt j hjm;have hjl:=hlist i j hin (hok.path i j hdj) (.inr rfl);have hjp:∃ b,pd j=some b:=by
    rcases (c.left.mem j hjn).1 hjm with h | h<;>grind [Option.isSome_iff_exists]
   obtain⟨b,hb⟩:=hjp;have hlate:=(c.pend j b hb).late;obtain⟨_,_,_,_,_,hnoanc⟩:=oP hlate;have hpj:=List.pairwise_append.1 hpw.1;have hpass:∀ x∈la,∃ u v,vs[x]?=some u∧vs[j]?=some v∧gq (bW x nr) (bW j nr) u v=true:=fun x hx=>by
    have hxm:x∈(la++j::lb)++i::l2:=by simp[hx]
    have hxn:=c.left.lt x hxm;rcases hpj.2.2 x hx j (.head _) with (h | h) | h
    ·
     have hxl:=hlist j x hjn (hok.path j x h) (.inl hjl);rcases (c.left.mem x hxn).1 hxm with h2 | h2
     ·grind
     ·obtain⟨b2,hb2⟩:=Option.isSome_iff_exists.1 h2;have:=(c.pend x b2 hb2).late
      simp_all
    all_goals grind [lj.len]
   have c0:Cf P r n ops nr vs anc m listed g0 w0 t0 O0 st' (la++j::(lb++i::l2)) pd F g w t O st:=by simp_all
   obtain⟨F',g',O',st1,c'⟩:=Cf.flush hok c0 hb hpass
   grind
  ·refine⟨l1,pd,F,g,O,st,c,fun j hj=>?_,rfl⟩;rcases hpw.2.2 j hj i (.head _) with (h | h) | h<;>grind
theorem akO (hok:lj P n ops nr vs perm anc) {i:Nat}{v:VI}{d:Nat}(hv:vs[i]?=some v) (hd:dV v=some d):∀ {l1 l2 F:List Nat}{st:St},be st.env→(∀ k∈l1,∀ u,vs[k]?=some u→∃ R M,fH u=some (R,M)∧∀ q∈d::qi v,q∉M)→
  cM r nr vs (l1++i::l2) F st=some st'→∃ st1 st2,bh r v st1=some st2∧∀ q∈d::qi v,get st1.env q=get st.env q
 | [],l2,F,st,hsrt,_,h=>by
  simp only[List.nil_append,cM,hv]at h;split at h
  ·simp at h
  ·rename_i st1 h1;exact⟨st,st1,H5 (fun hw=>hok.near i _ hw hv) hsrt h1,fun _ _=>rfl⟩
 | k::l1,l2,F,st,hsrt,hl,h=>by
  simp only[List.cons_append,cM]at h;split at h
  ·simp at h
  ·rename_i u hu;split at h
   ·simp at h
   ·rename_i st1 h1;have h2:bh r u st=some st1:=H5 (fun hw=>hok.near k _ hw hu) hsrt h1;obtain⟨R,M,f1,f2⟩:=hl k (.head _) u hu;obtain⟨e1,hs1⟩:=st;obtain⟨k1,k2,_⟩:=sE f1 e1 hs1 st1 h2;obtain⟨sa,sb,q1,q2⟩:=akO hok hv hd (k1 hsrt) (fun k hk=>hl k (.tail _ hk)) h
    grind
theorem anV {g:Gh}{w:World}{t:Array Value}{O:Nat→Nat}{zs:List AV}{o:Oper}(s:S P g w st' t O) (hc:aC P (.alloc zs) o.op=true) :
  ∃ (c:Array Value) (el:_),jy zs c.toList=true∧(execOp (ev t) o).run P w=.ok (.value (.pointer (some ⟨w.heap.size,0,none⟩))) (w.alloc (.cells c el))∧aH g w g (w.alloc (.cells c el)) (fun _=>False):=by
 obtain⟨dst,op,ty,pos,aft,gd⟩:=o;simp only[aC]at hc;split at hc
 ·rename_i e;split at hc
  ·split at hc
   ·rename_i z hz;exact⟨z.cells,e,hc,by simp_all [execOp,Instr.alloc,zeroValue,typeInfo,newVar,newRow],aH.alloc s.pmlt _ _ (by grind [dx])⟩
   simp_all
  simp_all
 simp_all
theorem aqL {ro:Option Nat}{g:Gh}{w:World}{t:Array Value}{O:Nat→Nat}{st:St}{v:VI}{d:Nat}{o:Oper}(s:S P g w st t O) (hd:dV v=some d) (hc:aC P v.op o.op=true)
  (hmk:∀ z l c th,v=⟨some d,none,.mkslice z l c,th⟩→qp l=true→qp c=true→∃ a,ig z l c st=some (a,st)) (ds:List Deferred) (next:Act→World→Prop) (Q:Exit→Act→World→Prop)
  (hn:∀ w1 x g1 O1 A,S P g1 w1 st t O1→aH g w g1 w1 (fun b=>O b≠0)→(∀ b,b<w.heap.size→A b+O1 b≤O b)→(∀ b,A b+O1 b≤1)→(∀ b,A b≠0→b<w1.heap.size)→tY g1 w1 st d v x A→next (Act.put ⟨t,ds⟩ o.dst x) w1) :
  o.uponIn (FR ro) 0 P ⟨t,ds⟩ next Q ((execOp (ev t) o).run P w):=by
 rcases Ad hd with ⟨zs,rfl⟩ | ⟨z,l,c,th,rfl,hl,hc2⟩
 ·obtain⟨cc,el,hz,hrun,hx⟩:=anV s hc;rw[hrun];have hobn:O w.heap.size=0:=by
   by_cases h:O w.heap.size=0
   ·exact h
   ·have:=s.hi _ h;omega
  refine hn _ _ g O (one w.heap.size) (s.extF hx rfl fun b o' hp=>by have:=s.pmlt b o' hp;grind [World.size_alloc]) (hx.mono fun _ _ h=>h.elim) (fun b hb=>?_) (fun b=>?_) (fun b hb=>?_) (.var hz (fo _ _) fun o' hp=>?_)
  ·grind [one]
  ·by_cases e:b=w.heap.size
   ·simp_all
   ·have:=s.le b;grind [one]
  ·grind [oE,World.size_alloc]
  ·have:=s.pmlt _ o' hp;omega
 ·obtain⟨a,ha⟩:=hmk z l c th rfl hl hc2;exact(YF s ha hc).opW ds next Q fun x w' g' Oa O' k=>hn _ _ g' O' Oa k.st k.ext k.old k.le k.hi (.list hl hc2 ha k.val)
theorem aw7 {ro:Option Nat}(hr:dW P r) (hcs:et P r) (hok:lj P n ops nr vs perm anc) {Q:Exit→Act→World→Prop}(ds:List Deferred)
  (hq:∀ w' t' g' O',dB P g0 w0 t0 O0 st' t' w' g' O'→Q .normal ⟨t',ds⟩ w') :
  ∀ {fuel:Nat}{listed:Array Bool}{tt:Nat}{rem:List Nat}{pd:Nat→Option (Nat→Nat)}{F:List Nat}{g:Gh}{w:World}{t:Array Value}{O:Nat→Nat}{st:St},
   Cf P r n ops nr vs anc m listed g0 w0 t0 O0 st' rem pd F g w t O st→(rem.filter fun i=>!listed.getD i true).length=fuel→wpOpsIn (FR ro) 0 P ops Q (Region.linearise.go m ops fuel tt listed []) ⟨t,ds⟩ w:=by
 intro fuel
 induction fuel with
 | zero =>
  intro listed tt rem pd F g w t O st c hf;have hnil:=List.eq_nil_of_length_eq_zero hf;have hall:∀ i∈rem,(pd i).isSome=true:=fun i hi=>by
   have hin:=c.left.lt i hi;rcases (c.left.mem i hin).1 hi with h | h<;>simp_all
  obtain⟨g',O',G⟩:=Cf.flush_all hok c hall;exact hq _ _ _ _ G
 | succ fuel ih =>
  intro listed tt rem pd F g w t O st c hf;unfold Region.linearise.go;simp only;have hun:∀ i,i∈(rem.filter fun i=>!listed.getD i true)↔i<ops.size∧listed.getD i true=false:=fun i=>by
   rw[List.mem_filter,Bool.not_eq_true'];exact⟨fun h=>⟨c.left.lt i h.1,h.2⟩,fun h=>⟨(c.left.mem i h.1).2 (.inl h.2),h.2⟩⟩
  obtain⟨hne,hmem⟩:=asV (m:=m) hok c.left.size hun (by grind);generalize hrs:((List.range ops.size).filter fun i=>!listed.getD i true && ((ops[i]?).map (·.after.all fun e=>!Region.binds m e || listed.getD e.on false)).getD false)=rs at hne hmem;have hlen:0<rs.length:=List.length_pos_iff.2 hne;have hlt:=Nat.mod_lt tt hlen;rw[List.getElem?_eq_getElem hlt];simp only;generalize hi:rs[tt % rs.length]=i;have hirs:i∈rs:=by grind
  obtain⟨hin,hil,o,ho,hready⟩:=(hmem i).1 hirs;have hirem:i∈rem:=(c.left.mem i hin).2 (.inl hil);have hsz:i<listed.size:=by grind
  have hvl:i<vs.length:=by grind [lj.len]
  have hv:vs[i]?=some vs[i]:=by simp
  have hacc:=linearise_go_acc m ops fuel (tt / rs.length) (listed.setIfInBounds i true) [i];rw[hacc];simp only[List.reverse_cons,List.reverse_nil,List.nil_append,List.cons_append,wpOpsIn,ho];have hclosed:∀ k o',(listed.setIfInBounds i true).getD k false=true→ops[k]?=some o'→∀ e∈o'.after,Region.binds m e=true→(listed.setIfInBounds i true).getD e.on false=true:=by
   intro k o' hk ho' e he hb;rw[T3 hsz]at hk⊢;split
   ·rfl
   ·by_cases e1:i=k
    ·simp_all
    ·rw[if_neg e1]at hk;exact c.left.closed k o' hk ho' e he hb
  have hcount:∀ {l1 l2:List Nat},rem=l1++i::l2→∀ {l1':List Nat},(l1'.filter fun i=>!listed.getD i true)=(l1.filter fun i=>!listed.getD i true)→i∉l1'→i∉l2→((l1'++l2).filter fun q=>!(listed.setIfInBounds i true).getD q true).length=fuel:=by
   intro l1 l2 hrem l1' hl1 hn1 hn2;have h1:∀ l:List Nat,i∉l→(l.filter fun q=>!(listed.setIfInBounds i true).getD q true)=l.filter fun q=>!listed.getD q true:=fun l hl=>List.filter_congr fun q hq=>by
    rw[T3 hsz,if_neg (fun e=>hl (by simp_all))]
   grind
  cases hl:mo anc vs i with
  | true =>
   obtain⟨v,d,hvi,hdv,hfree,hnoanc⟩:=oP hl;have hchk:=hok.vi i _ o hvi ho;simp only[tH,Bool.and_eq_true]at hchk;obtain⟨⟨hdst,hgd⟩,hop⟩:=hchk;obtain⟨hd1,hd2,hd3⟩:=qw hdv;have hgn:o.guard=none:=by
    grind [wn]
   have hod:o.dst=some d∧d<n:=by
    rw[hd1]at hdst;split at hdst<;>grind [Nat.beq_eq,Nat.blt_eq]
   have hw:Region.wanted o (yielded ops t)=true:=by grind [Region.wanted]
   rw[if_pos hw];refine⟨fun _ _=>trivial,?_⟩;rw[IQ _ _ (JH hd3 hop)];have habs:=c.abs i hirem v d hvi hdv hl;obtain⟨l1,l2,hrem⟩:=List.append_of_mem hirem;have hapl:∀ k∈l1,∀ u,vs[k]?=some u→∃ R M,fH u=some (R,M)∧∀ q∈d::qi v,q∉M:=fun k hk u hu=>by
    have hkm:k∈rem:=by simp_all
    have hkn:=c.left.lt k hkm;have hne:k≠i:=fun e=>by
     have hnd:=c.left.nd
     grind
    have hpr:=c.left.pair;rw[hrem]at hpr;have hnk:lM anc i k=true→False:=fun h=>by
     have hkl:=mL c.left.closed (hok.path i k h) fun o' ho'=>by
      simp_all
     rcases (c.left.mem k hkn).1 hkm with h2 | h2
     ·grind [w8]
     ·obtain⟨b2,hb2⟩:=Option.isSome_iff_exists.1 h2;have:=(c.pend k b2 hb2).late
      simp_all
    rcases (List.pairwise_append.1 hpr).2.2 k hk i (.head _) with (h | ⟨u',v',a1,a2,a3⟩) | h
    ·simp_all
    ·rw[hu]at a1;rw[hvi]at a2;simp only[Option.some.injEq]at a1 a2;subst a1 a2;exact Zc a3 hdv
    ·obtain⟨R,M,f1,f2,f3⟩:=(hfree k u hu hne).resolve_left (fun hd=>by simp_all)
     grind
   have hrun0:=c.run;rw[hrem]at hrun0;obtain⟨sa,sb,hsa,hsq⟩:=akO hok hvi hdv c.s.se hapl hrun0;refine aqL (ro:=ro) c.s hdv hop (fun z l c' th e hl1 hl2=>?_) ds _ Q fun w1 x g1 O1 A hs1 hx1 hold1 hle1 hhi1 hpk=>?_
   ·subst e;simp only[bh]at hsa;obtain⟨v',st2,hv',_⟩:=N8 hsa;simp only[br]at hv';exact⟨v',(anm hl1 hl2 (fun q hq=>(hsq q (List.mem_cons_of_mem _ hq)).symm) hv').2⟩
   ·rw[Y5,hod.1];have hdn:d<t.size:=by grind [Cf.n]
    have hs2:=hs1.setOther habs x;have ht1:om t (some d) x=t.setIfInBounds d x:=by grind [Act.put]
    rw[ht1];have hgt:∀ q,q≠d→(t.setIfInBounds d x)[q]?=t[q]?:=fun q hqd=>by
     grind
    have hwle:w0.heap.size≤w.heap.size:=c.base.ext.size;have hO1:∀ b,b<w.heap.size→O1 b≤O b:=fun b hb=>by grind
    have hO1':∀ b,O1 b≤1:=fun b=>by grind
    refine ih (rem:=rem) (pd:=fun q=>if q=i then some A else pd q) (F:=F) (g:=g1) (O:=O1) (st:=st) ⟨⟨c.left.pair,c.left.nd,c.left.lt,by simp[c.left.size],fun k hk=>?_,fun k b hk=>?_,hclosed⟩,by simp[c.n],hs2,c.abs,fun k B hk=>?_,fun k q B C hkq hk hq'=>?_,?_,fun k B hk b hb=>?_,c.le0,c.run⟩ ?_
    ·rw[T3 hsz];by_cases e:i=k
     ·simp_all
     ·have e':¬ k=i:=fun h=>e h.symm
      simp only[e,e',if_false];exact c.left.mem k hk
    ·rw[T3 hsz];by_cases e:k=i
     ·simp_all
     ·simp only[e,if_false]at hk;have:=c.left.pdl k b hk
      simp_all
    ·by_cases e:k=i
     ·subst e;simp only[if_true,Option.some.injEq]at hk;subst hk;refine⟨hl,hhi1,hle1,v,d,x,hvi,by simp[hdn],?_,hpk⟩
      simp_all
     ·simp only[e,if_false]at hk;have q:=c.pend k B hk;obtain⟨u,d',y,h1,h4,h5,h6⟩:=q.it;have hdd:d'≠d:=by
       obtain⟨R,M,f1,f2,_⟩:=(hfree k _ h1 e).resolve_left (fun hdk=>by
        obtain⟨_,_,_,_,_,hno⟩:=oP q.late
        simp_all)
       intro h;exact f2 (h▸xE f1 (qw h6.dst).1)
      exact⟨q.late,fun b hb=>Nat.lt_of_lt_of_le (q.hi b hb) hx1.size,fun b=>by
       by_cases hb:b<w.heap.size
       ·have:=q.le b;grind
       grind [apc.hi],u,d',y,h1,by simp_all,(hgt d' hdd).trans h5,
       h6.keep hx1 (fun b hb=>⟨q.hi b hb,fun h=>by have:=q.le b;omega⟩) fun _ _=>rfl⟩
    ·have key:∀ k B,k≠i→pd k=some B→∀ b,A b+B b≤1:=fun k B e hk b=>by
      have q:=c.pend k B hk;by_cases hb:b<w.heap.size
      ·have:=q.le b;grind
      grind [apc.hi]
     intro b;by_cases e:k=i
     ·have e2:q≠i:=fun h=>hkq (e.trans h.symm)
      simp only[e,e2,if_true,if_false,Option.some.injEq]at hk hq';subst hk;exact key q C e2 hq' b
     ·by_cases e2:q=i
      ·simp only[e,e2,if_true,if_false,Option.some.injEq]at hk hq';subst hq';have:=key k B e hk b;omega
      ·simp only[e,e2,if_false]at hk hq';exact c.disj k q B C hkq hk hq' b
    ·exact⟨hs2,c.base.ext.trans hx1 fun b hb h=>by have:=c.base.old b hb;omega,fun b hb=>Nat.le_trans (hO1 b (by omega)) (c.base.old b hb),by simp[c.base.size]⟩
    ·by_cases e:k=i
     ·simp only[e,if_true,Option.some.injEq]at hk;subst hk;have:=hold1 b (by omega);have:=c.base.old b hb;omega
     ·simp only[e,if_false]at hk;have:=c.old k B hk b hb;grind
    ·have hnd:=c.left.nd;rw[hrem]at hnd;have hnd':=List.nodup_append.1 hnd;have hn1:i∉l1:=fun h=>hnd'.2.2 i h i (.head _) rfl
     have hn2:i∉l2:=(List.nodup_cons.1 hnd'.2.1).1;have:=hcount hrem rfl hn1 hn2;rw[hrem,List.filter_append,List.filter_cons_of_neg (by rw[T3 hsz,if_pos rfl];simp),←List.filter_append];exact this
  | false =>
   obtain⟨l1,l2,hrem⟩:=List.append_of_mem hirem;rw[hrem]at c;obtain⟨l1',pd',F',g',O',st1,c1,hpass,hfl⟩:=Cf.flush_for hok hil hl ho hready rfl c;have hsw:∀ j∈l1',∃ u,vs[j]?=some u∧gq (bW j nr) (bW i nr) u vs[i]=true:=fun j hj=>by
    simp_all
   have inv:bw st1:=⟨c1.s.se,c1.s.sh,fun id hid=>c1.s.heap_fresh hid⟩
   have h2:=Q7 hv hsw inv c1.run;simp only[cM,hv]at h2;split at h2
   ·simp at h2
   ·rename_i st2 h3N;have h3:bh r vs[i] st1=some st2:=H5 (fun hw=>hok.near i _ hw hv) c1.s.se h3N;have hnd:=c1.left.nd;have hnd':=List.nodup_append.1 hnd;have hn1:i∉l1':=fun h=>hnd'.2.2 i h i (.head _) rfl
    have hn2:i∉l2:=(List.nodup_cons.1 hnd'.2.1).1;have hsub:(l1'++l2).Sublist (l1'++i::l2):=List.Sublist.append_left (List.sublist_cons_self i l2) l1';have hpdi:pd' i=none:=by
     cases h:pd' i with
     | none=>rfl
     | some b =>
      have:=(c1.left.pdl i b h).2;rw[←w8 hsz,hil]at this;simp at this
    have hapart:∀ k∈l1'++l2,mo anc vs k=true→∀ u d,vs[k]?=some u→dV u=some d→∃ R M,fH vs[i]=some (R,M)∧d∉M∧(listed.getD k false=true→∀ q∈qi u,q∉M):=fun k hk hlk u0 d hvk hdk=>by
     have hki:i≠k:=fun e=>by rw[e,hlk]at hl;simp at hl
     obtain⟨u2,d2,k1,kd,k2,_⟩:=oP hlk;rw[hvk]at k1;simp only[Option.some.injEq]at k1;subst k1;rw[hdk]at kd;simp only[Option.some.injEq]at kd;subst kd;rcases k2 i _ hv hki with hd | hd
     ·rcases List.mem_append.1 hk with hk1 | hk1
      ·obtain⟨u,v,a1,a2,a3⟩:=hpass k hk1;rw[hvk]at a1;rw[hv]at a2;simp only[Option.some.injEq]at a1 a2;subst a1 a2;obtain⟨R,M,f1,f2⟩:=aop a3 hdk;exact⟨R,M,f1,f2 _ (.head _),fun _ q hq=>f2 q (.tail _ hq)⟩
      ·have hkm:k∈l1'++i::l2:=by simp[hk1]
       have hkn:=c1.left.lt k hkm;have hkl:listed.getD k false=true:=mL c1.left.closed (hok.path i k hd) fun o' ho'=>by
        rw[ho]at ho';simp only[Option.some.injEq]at ho';subst ho';exact hready
       have hif:listed.getD i false=false:=by rw[←w8 hsz];exact hil
       have hpw:=(List.pairwise_cons.1 (List.pairwise_append.1 c1.left.pair).2.1).1 k hk1;rcases hpw with (h | ⟨u,v,a1,a2,a3⟩) | h
       ·have:=mL c1.left.closed (hok.path k i h) fun o' ho'=>c1.left.closed k o' hkl ho'
        rw[hif]at this;simp at this
       ·rw[hvk]at a2;rw[hv]at a1;simp only[Option.some.injEq]at a1 a2;subst a1 a2;obtain⟨R,M,f1,f2⟩:=Zc a3 hdk;exact⟨R,M,f1,f2 _ (.head _),fun _ q hq=>f2 q (.tail _ hq)⟩
       ·have hii:=h.2.1 i hvl hd;have:=mL c1.left.closed (hok.path i i hii) fun o' ho'=>by
         rw[ho]at ho';simp only[Option.some.injEq]at ho';subst ho';exact hready
        rw[hif]at this;simp at this
     ·obtain⟨R,M,f1,f2,f3⟩:=hd;refine⟨R,M,f1,f2,fun hkl=>f3.resolve_left fun hki=>?_⟩;have hif:listed.getD i false=false:=by rw[←w8 hsz];exact hil
      have:=mL c1.left.closed (hok.path k i hki) fun o' ho'=>c1.left.closed k o' hkl ho'
      rw[hif]at this;simp at this
    refine am4 (ro:=ro) hr hcs c1.n c1.s h3 (hok.vi i _ o hv ho) ds _ Q fun t' w' g2 O2 G hT=>?_
    refine ih (rem:=l1'++l2) (pd:=pd') ⟨⟨c1.left.pair.sublist hsub,hnd.sublist hsub,fun k hk=>c1.left.lt k (hsub.subset hk),by simp[c1.left.size],fun k hk=>?_,fun k b hk=>?_,hclosed⟩,by rw[G.size,c1.n],G.st,fun k hk u d hvk hdk hlk=>?_,fun k B hk=>?_,c1.disj,c1.base.trans G,fun k B hk b hb=>?_,c1.le0,h2⟩ ?_
    ·have hold:=c1.left.mem k hk;rw[T3 hsz];by_cases e:i=k
     ·subst e;simp only[if_true,Bool.true_eq_false,hpdi,Option.isSome_none,Bool.false_eq_true,or_self,iff_false];intro hm;rcases List.mem_append.1 hm with h | h
      ·exact hn1 h
      ·exact hn2 h
     ·simp only[e,if_false];rw[←hold];simp only[List.mem_append,List.mem_cons];constructor
      ·rintro (h | h)
       ·exact .inl h
       ·exact .inr (.inr h)
      ·rintro (h | h | h)
       ·exact .inl h
       ·exact absurd h.symm e
       ·exact .inr h
    ·have:=c1.left.pdl k b hk;refine⟨this.1,?_⟩;rw[T3 hsz];split
     ·rfl
     ·exact this.2
    ·have h0:=c1.abs k (hsub.subset hk) u d hvk hdk hlk;obtain⟨R,M,f1,f2,_⟩:=hapart k hk hlk u d hvk hdk;obtain⟨e1,hs1'⟩:=st1;have:=(sE f1 e1 hs1' st2 h3).2.1 d f2;rw[this];exact h0
    ·have hki:i≠k:=fun e=>by rw[←e,hpdi]at hk;simp at hk
     have hkm:k∈l1'++i::l2:=(c1.left.mem k (c1.left.pdl k B hk).1).2 (.inr (by rw[hk];rfl));have hkm':k∈l1'++l2:=by
      rcases List.mem_append.1 hkm with h | h
      ·exact List.mem_append_left _ h
      ·rcases List.mem_cons.1 h with h | h
       ·exact absurd h.symm hki
       ·exact List.mem_append_right _ h
     have q:=c1.pend k B hk;obtain⟨u,d,y,h1,h4,h5,h6⟩:=q.it;obtain⟨R,M,f1,f0,f2⟩:=hapart k hkm' q.late u d h1 h6.dst;have f2:=f2 (c1.left.pdl k B hk).2;have hdd:vs[i].dst≠some d:=fun e=>f0 (xE f1 e)
     refine⟨q.late,fun b hb=>Nat.lt_of_lt_of_le (q.hi b hb) G.ext.size,fun b=>?_,u,d,y,h1,by rw[G.size];exact h4,(hT d hdd).trans h5,h6.keep G.ext (fun b hb=>⟨q.hi b hb,fun h=>by have:=q.le b;omega⟩) fun p hp=>?_⟩
     ·by_cases hb:b<w.heap.size
      ·have:=q.le b;have:=G.old b hb;omega
      ·have:B b=0:=by
        by_cases h:B b=0
        ·exact h
        ·exact absurd (q.hi b h) hb
       have:=G.st.le b;omega
     ·obtain⟨e1,hs1'⟩:=st1;exact(sE f1 e1 hs1' st2 h3).2.1 p (f2 p hp)
    ·have:=c1.old k B hk b hb;have:=G.old b (Nat.lt_of_lt_of_le hb c1.base.ext.size);omega
    ·
     exact hcount hrem hfl hn1 hn2
theorem Rx {e:ao}:∀ {vs:List VI},mS e vs=true→∀ (i:Nat) (v:VI) (d:Nat),vs[i]?=some v→dV v=some d→get e d=none
 | [],_,i,v,d,h,_=>by simp at h
 | u::r,hl,i,v,d,h,hd=>by
  simp only[mS,Bool.and_eq_true]at hl
  cases i with
  | zero =>
   grind
  | succ i =>
   exact Rx hl.2 i v d h hd
theorem ap4 {g:Gh}{w:World}{t:Array Value}{O:Nat→Nat}{st st':St}{ro:Option Nat}(hr:dW P r) (hcs:et P r) {n:Nat}{ops:Array Oper}{gco nr:List Nat}{vs:List VI}{perm:List Nat}(ds:List Deferred) (h:CT P n ops perm gco nr vs=true) {Q:Exit→Act→World→Prop}{id:Nat}(hn:t.size=n)
  (s:S P g w st t O) (habs:mS st.env vs=true) (hrun:cM r nr vs perm [] st=some st') (hq:∀ w' t' g' O',dB P g w t O st' t' w' g' O'→Q .normal ⟨t',ds⟩ w'):(Code.region id ops true).wpIn (FR ro) 0 P Q ⟨t,ds⟩ w:=by
 have hok:=awG h;refine wpIn_region_draw fun tt=>?_
 have hx:aH g w g w.drew fun _=>False:=aH.drew _ _ _
 have sd:=s.extF hx rfl s.pmlt;have hleft:∀ m,au4 ops nr vs (Bp ops perm []) m (Array.replicate ops.size false) perm (fun _=>none):=fun m=>by
  refine⟨hok.pair,hok.nd,hok.lt,by simp,fun i hi=>?_,fun i b hi=>by simp at hi,fun i o hi=>?_⟩
  ·have:=hok.all i hi
   simp_all
  ·simp[Array.getD]at hi
 have hlen:(perm.filter fun i=>!(Array.replicate ops.size false).getD i true).length=ops.size:=by
  have h0:(perm.filter fun i=>!(Array.replicate ops.size false).getD i true)=perm:=List.filter_eq_self.2 fun i hi=>by
   have:=hok.lt i hi
   simp_all
  have h1:perm.Perm (List.range ops.size):=by
   grind [lj.nd,List.nodup_range,lj.all]
  rw[h0,h1.length_eq];simp
 have key:∀ m tt,wpOpsIn (FR ro) 0 P ops Q (Region.linearise m ops tt) ⟨t,ds⟩ w.drew:=fun m tt =>
  aw7 (ro:=ro) (m:=m) hr hcs hok ds (g0:=g) (w0:=w.drew) (t0:=t) (O0:=O) (st':=st') (fun w' t' g' O' G=>hq _ _ _ _ ⟨G.st,(hx.mono (T:=fun b=>O b≠0) fun _ _ h=>h.elim).trans G.ext fun _ _ h=>h,G.old,G.size⟩)
   ⟨hleft m,hn,sd,fun i hi v d hv hd _=>Rx habs i v d hv hd,fun i b hi=>by simp at hi,fun i j A B _ hi=>by simp at hi,dB.refl sd,fun i b hi=>by simp at hi,sd.le,hrun⟩ hlen
 unfold Region.schedule;split<;>simp_all
end
def H4 (ro:Option Nat) (P:Program) (c:Code) (Q:Exit→Act→World→Prop) (a:Act) (w:World):Prop :=
 ∀ (b:Frame) (k:List Item) (cs:List Frame),b.roundOf=ro→∃ e a' w',Q e a' w'∧ArrivesIn (Machine.fenced P (FR ro)) P (lone (b.atR a (.inLoop c::k)) cs w) b k cs e a' w'
def xT (ro:Option Nat) (P:Program) (body cur:Code) (Q:Exit→Act→World→Prop) (a:Act) (w:World):Prop :=
 ∀ (b:Frame) (k:List Item) (cs:List Frame),b.roundOf=ro→∃ e a' w',Q e a' w'∧ArrivesIn (Machine.fenced P (FR ro)) P (lone (b.atR a (.code cur::.inScope body::k)) cs w) b k cs e a' w'
section
variable {P:Program}{ro:Option Nat}{Q:Exit→Act→World→Prop}{a:Act}{w:World}
theorem DA {ro:Option Nat}(m:Machine):Machine.fenced P (FR ro) m:=fenced_wide P m
theorem Y7 {c:Code}(h:c.wpIn (FR ro) 0 P (Exit.then (H4 ro P c Q) Q) a w):H4 ro P c Q a w∧(Code.loop c).wpIn (FR ro) 0 P Q a w:=by
 have key:∀ (b:Frame) (k:List Item) (cs:List Frame),b.roundOf=ro→∃ e a' w',Q e a' w'∧ArrivesIn (Machine.fenced P (FR ro)) P (lone (b.atR a (.code c::.inLoop c::k)) cs w) b k cs e a' w':=by
  intro b k cs hro;obtain⟨e,a₁,w₁,hq,harr⟩:=h b (.inLoop c::k) cs hro trivial (acq _ _)
  cases e with
  | normal =>
   obtain⟨e₂,a₂,w₂,hq₂,harr₂⟩:=hq b k cs hro;exact⟨e₂,a₂,w₂,hq₂,.of_steps harr harr₂⟩
  | exit id=>exact⟨_,a₁,w₁,hq,.pass (x:=.inLoop c) rfl (fun _ _=>.inl (by simp)) harr⟩
  | goto l=>exact⟨_,a₁,w₁,hq,.pass (x:=.inLoop c) rfl (fun _ _=>.inl (by simp)) harr⟩
  | ret=>exact⟨_,a₁,w₁,hq,.pass (x:=.inLoop c) rfl (fun _ _=>.inl (by simp)) harr⟩
  | panic ch=>exact⟨_,a₁,w₁,hq,.pass (x:=.inLoop c) rfl (fun _ _=>.inl (by simp)) harr⟩
  | outgrown=>exact⟨_,a₁,w₁,hq,.pass (x:=.inLoop c) rfl (fun _ _=>.inl (by simp)) harr⟩
 refine⟨fun b k cs hro=>?_,fun b k cs hro _ _=>?_⟩
 ·obtain⟨e,a',w',hq,harr⟩:=key b k cs hro;exact⟨e,a',w',hq,.of_steps (.one (DA _) stepR_inLoop) harr⟩
 ·obtain⟨e,a',w',hq,harr⟩:=key b k cs hro;exact⟨e,a',w',hq,.of_steps (.one (DA _) stepR_loop) harr⟩
def Exit.scope (ro:Option Nat) (P:Program) (body:Code) (Q:Exit→Act→World→Prop):Exit→Act→World→Prop
 | .goto l,a,w=>match findLabel body l with
  | some rest=>xT ro P body rest Q a w
  | none=>Q (.goto l) a w
 | e,a,w=>Q e a w
theorem als {body cur:Code}(h:cur.wpIn (FR ro) 0 P (Exit.scope ro P body Q) a w):xT ro P body cur Q a w:=by
 intro b k cs hro;obtain⟨e,a₁,w₁,hq,harr⟩:=h b (.inScope body::k) cs hro trivial (acq _ _)
 cases e with
 | normal=>exact⟨.normal,a₁,w₁,hq,StepsIn.trans harr (.one (DA _) (step_lone_go (by simp[stepG,stepG.exec,Frame.atR])))⟩
 | exit id =>
  have hx:exitTo id (.inScope body::k)=exitTo id k:=by simp[exitTo]
  exact⟨_,a₁,w₁,hq,fun k' hk=>harr.1 k' (by simp_all),fun hr hk=>harr.2 hr (by simp_all)⟩
 | goto l =>
  have hx:gotoIn l (.inScope body::k)=match findLabel body l with | some rest=>some (.code rest::.inScope body::k) | none=>gotoIn l k:=by
   grind [gotoIn]
  simp only[Exit.scope]at hq
  cases hf:findLabel body l with
  | some rest =>
   rw[hf]at hq hx;obtain⟨e₂,a₂,w₂,hq₂,harr₂⟩:=hq b k cs hro;exact⟨e₂,a₂,w₂,hq₂,.of_steps (harr.1 _ hx) harr₂⟩
  | none =>
   rw[hf]at hq hx;exact⟨_,a₁,w₁,hq,fun k' hk=>harr.1 k' (by simp_all),fun hr hk=>harr.2 hr (by simp_all)⟩
 | ret=>exact⟨_,a₁,w₁,hq,harr⟩
 | panic ch=>exact⟨_,a₁,w₁,hq,harr⟩
 | outgrown=>exact⟨_,a₁,w₁,hq,harr⟩
theorem arz {body:Code}(h:xT ro P body body Q a w):(Code.scope body).wpIn (FR ro) 0 P Q a w:=by
 intro b k cs hro _ _;obtain⟨e,a',w',hq,harr⟩:=h b k cs hro;exact⟨e,a',w',hq,.of_steps (.one (DA _) (step_lone_go (by simp[stepG,stepG.exec,Frame.atR]))) harr⟩
end
theorem aq0 {P:Program}{n:Nat}{v:VC}{c:Code}(h:Mt P n v c) (l:Nat) :
  match nq v l with
  | some x=>∃ y,findLabel c l=some y∧Mt P n x y
  | none=>findLabel c l=none:=by
 have hgh:∀ {a:VC},oi a=true→nq a l=none:=by
  intro a
  induction a<;>grind [oi,nq]
 induction h with
 | ghostL h1 h2 ih=>grind [nq]
 | @ghostR a b c h1 h2 ih =>
  simp only[nq,hgh h1]
  cases hf:nq a l with
  | none=>simp_all
  | some x =>
   simp only[hf]at ih⊢;obtain⟨y,hy,hm⟩:=ih;exact⟨y,hy,.ghostR h1 hm⟩
 | @seq a b c d h1 h2 ih1 ih2 =>
  simp only[nq]
  cases hf:nq a l with
  | some x =>
   simp only[hf]at ih1⊢;obtain⟨y,hy,hm⟩:=ih1;exact⟨.seq y d,by grind [findLabel],.seq hm h2⟩
  | none =>
   grind [findLabel]
 | @label k =>
  simp only[nq,findLabel];by_cases e:k=l
  ·subst e;simp[Mt.skip]
  grind [Nat.beq_eq]
 | _=>grind [nq,findLabel]
end Go.Vm
end
