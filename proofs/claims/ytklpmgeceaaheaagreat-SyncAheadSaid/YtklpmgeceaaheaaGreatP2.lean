import Derived.WalkKit
import Derived.ProofKit
import Derived.OpenShut
import Derived.JoinedCond
import Derived.ChangeStays
import Derived.ChangeBook
import Derived.Test.YtklpmgeceaaheaaGreatP1
set_option linter.unusedVariables false
set_option linter.unusedSimpArgs false
set_option linter.defProp false
noncomputable section
namespace Go.Vm
set_option maxRecDepth 100000
open Go.ChangeShapes Go.WideShapes Go.ChangeAt Go.RowKit
def yq (P:Program) (n:Nat):List TypeId→Option (List (Bool×List Ty))
 | []=>some []
 | t::ts=>match xq P n t,yq P n ts with
  | some tys,some r=>some ((u5 P t,tys)::r)
  | _,_=>none
def Ku (agg:Bool) (cs:List D):AV :=
 match agg with
 | true=>.agg (cs.map .d)
 | false=>match cs with
  | [c]=>.d c
  | _=>.junk
def pV {H:Type}:List (Bool×List Ty)→List (DataW H)→List AV
 | (b,_)::ts,d::ds=>Ku b (dh d)::pV ts ds
 | _,_=>[]
def eg {H:Type}:List (Bool×List Ty)→List (DataW H)→Prop
 | [],[]=>True
 | (_,tys)::ts,d::ds=>OkDs tys (dh d)∧eg ts ds
 | _,_=>False
def Gh.all (W:World):Gh where
 obj _:=none
 base _:=0
 esz _:=0
 bsz _:=0
 pm:=xQ W
section
variable {H:Type}{enc:TypeId×Value→H}{P:Program}{W:World}{sp:Nat→Bool}
theorem XB {n:Nat}{base:Nat}:∀ {ts:List TypeId}{vs:List Value}{ds:List (DataW H)}{ps:List MemPlace}{tys:List (Bool×List Ty)},DataW.TrodAll enc P W 0 sp true ts vs ds ps→yq P n ts=some tys→
  (∀ (j:Nat) t v,ts[j]?=some t→vs[j]?=some v→Value.okWide P W .any base t v)→RVs (Gh.all W) W (pV tys ds) vs zero∧eg tys ds
 | [],[],[],_,tys,_,h,_=>by
  grind [yq,pV,RVs,eg]
 | t::ts,v::vs,d::ds,ps,tys,hA,h,hok=>by
  obtain⟨p,q,⟨fuel,htr⟩,hrest,rfl⟩:=hA;simp only[yq]at h;split at h
  ·rename_i ty r h1 h2;simp only[Option.some.injEq]at h;subst h;obtain⟨k1,k2,k3⟩:=Nl fuel n t ty v.cells.toList (d,p) h1 htr;obtain⟨q1,q2⟩:=XB hrest h2 fun j t v h1 h2=>hok (j+1) t v (by simp_all) (by simp_all)
   refine⟨?_,k1,q2⟩;have hv:=hok 0 t v rfl rfl;have hrv:RV (Gh.all W) W (Ku (u5 P t) (dh d)) v zero:=by
    unfold Value.okWide at hv
    cases ha:u5 P t with
    | true =>
     have hagg:∃ cs,v=.agg cs:=by
      grind [u5]
     obtain⟨cs,rfl⟩:=hagg;refine⟨cs,rfl,RVs.ds (g:=Gh.all W) rfl (by grind [Value.cells]) fun j c x hc hx=>?_⟩;obtain⟨u,hu,hr⟩:=k3 j c hc;have:u=x:=by
      grind [Value.cells]
     rw[←this];exact hr
    | false =>
     have hone:v.cells=#[v]:=by
      have:Cell.okWide P W .any base t v:=by
       grind [u5]
      cases v<;>first | rfl | simp_all [Cell.okWide,Cell.ok]
     rw[hone]at k2 k3
     match hcd:dh d,k2 with
     | [c],_ =>
      obtain⟨u,hu,hr⟩:=k3 0 c (by grind);simp at hu;subst hu;simp only[Ku,RV];exact⟨hr,fun _=>trivial⟩
   grind [pV,RVs]
  simp_all
 | [],_::_,_,_,_,hA,_,_=>hA.elim
 | [],[],_::_,_,_,hA,_,_=>hA.elim
 | _::_,[],_,_,_,hA,_,_=>hA.elim
 | _::_,_::_,[],_,_,hA,_,_=>hA.elim
theorem Un {W':World}(hl:laidOutB P=true) (hblk:∀ b,b<W.heap.size→W'.heap[b]?=W.heap[b]?) {sp':Nat→Bool}:∀ {ts:List TypeId}{vs:List Value}{ds:List (DataW H)}{ps:List MemPlace},
  (∀ t∈ts,P.readableRec t=true∧t<P.types.size)→DataW.TrodAll enc P W 0 (fun _=>true) true ts vs ds ps→(∀ p∈ps,sp' p.block=true)→DataW.TrodAll enc P W' 0 sp' true ts vs ds ps
 | [],[],[],_,_,h,_=>h
 | t::ts,v::vs,d::ds,ps,hr,h,hs=>by
  have hlt:=h.lt;obtain⟨p,q,⟨fuel,htr⟩,hrest,rfl⟩:=h;obtain⟨h1,h2⟩:=hr t (.head _);refine⟨p,q,⟨fuel,DataW.trod_stays (kids_book hl h1) (book_sized h1) (fun h=>by cases h) ⟨h2,book_self t⟩ htr (fun x hx=>?_) (fun x hx=>hs x (List.mem_append_left _ hx))⟩,
   Un hl hblk (fun t ht=>hr t (.tail _ ht)) hrest (fun x hx=>hs x (List.mem_append_right _ hx)),rfl⟩
  have hxl:=hlt x (List.mem_append_left _ hx)
  cases x with
  | cell b o=>exact mo (hblk b hxl) o
  | map b=>exact hblk b hxl
 | [],_::_,_,_,_,h,_=>h.elim
 | [],[],_::_,_,_,h,_=>h.elim
 | _::_,[],_,_,_,h,_=>h.elim
 | _::_,_::_,[],_,_,h,_=>h.elim
theorem Bc {T:Nat→Option aa}(hT:xK P T) {fn:Func}{f:FuncId}{s:ChangeSpec}(hl:laidOutB P=true) (hrec:∀ t∈fn.params.toList,P.readableRec t=true∧t<P.types.size)
  {n:Nat}{tys:List (Bool×List Ty)}(hty:yq P n fn.params.toList=some tys) {tb:TypeId}(hres:fn.resultTypes=#[tb]) (htb:P.underlying tb=some .bool) (hvars:s.vars=[]) {apart:Bool}
  {base:Nat}{args:Array Value}{ds gs:List (DataW H)}{before:List MemPlace}(hval:∀ (j:Nat) t v,fn.params[j]?=some t→args[j]?=some v→Value.okWide P W .any base t v)
  (hW:DataW.Whole enc P fn.params.toList s.vars apart W args.toList ds gs before) (hfn:eg tys ds→s.fn H ds={ results:=[.lit (.bool true)],args:=ds })
  (hrun:eg tys ds→gs=[]→∃ m hs',(run T m).call f (pV tys ds) ⟨[],0⟩=some (.d (.bool true),hs')) :
  Calls P f args W fun e W'=>∃ v,e=.returned v∧s.post enc P fn apart true false false W args v W':=by
 have hW':=hW;obtain⟨p,q,hA,hV,hpq,hfz,hnd⟩:=hW;rw[hvars]at hV;obtain⟨rfl,rfl⟩:=trodVars_none hV;obtain⟨rv,hok⟩:=XB (n:=n) (base:=base) hA hty fun j t v h1 h2=>hval j t v (by simp_all) (by simp_all)
 obtain⟨m,hs',hcall⟩:=hrun hok rfl;have hc:=Mi hT hcall (g:=Gh.all W) (fun _=>rfl) (fun b o h=>h) rv;refine hc.mono fun e W2 hp=>?_
 cases e with
 | panicked _=>exact hp.elim
 | outgrown=>exact hp.elim
 | returned x =>
  obtain⟨g',Or,Oh,r1,_,hx,_,_,_⟩:=hp;have hxv:=tG r1 rfl;subst hxv;have hblk:∀ b,b<W.heap.size→W2.heap[b]?=W.heap[b]?:=fun b hb=>(hx.blk b hb (by simp)).1
  have hsfn:s.fn H (ds++[])={ results:=[.lit (.bool true)],args:=ds }:=by simp_all
  refine⟨_,rfl,post_of_same (pa:=p) (pv:=[]) hW' (fun b sp hd=>?_) (fun sp hsp=>?_) (fun sp _=>?_) (by rw[hpq]) ⟨hx.same.1,hx.same.2.1,fun i hi=>?_⟩ hx.same.2.2 ?_⟩
  ·rw[hres,hsfn];exact trodAll_cons_mk (shut_bool htb _) trodAll_mk0
  ·grind [Un]
  ·rw[hsfn,hvars];rfl
  ·grind
  ·exact ok_one hres rfl (okWide_bool_mk htb _)
end
def PC (P:Program) (vf:aa) (f:FuncId):Bool:=alb P vf f || (match vf.body with
 | .clone m=>Pp P m vf f
 | .late i d k a=>Uw P i d k a vf f
 | _=>false)
def T.every (p:Nat→aa→Bool):T→Bool
 | .leaf=>true
 | .node k v a b=>p k v && a.every p && b.every p
theorem T.look_every {p:Nat→aa→Bool}:∀ {t:T}{f:Nat}{vf:aa},t.every p=true→t.look f=some vf→p f vf=true
 | .leaf,_,_,_,h=>by simp[T.look]at h
 | .node k v a b,f,vf,he,h=>by
  simp only[T.every,Bool.and_eq_true]at he;simp only[T.look]at h;split at h
  ·simp_all
  ·split at h
   ·exact T.look_every he.1.2 h
   ·exact T.look_every he.2 h
theorem Xu {P:Program}{vf:aa}{f:FuncId}(h:PC P vf f=true):alQ P vf f:=by
 simp only[PC,Bool.or_eq_true]at h;rcases h with h | h
 ·unfold alb at h;split at h
  ·rename_i fn h1;split at h
   ·rename_i c h2;simp only[Bool.and_eq_true,Nat.ble_eq,bne_iff_ne,ne_eq]at h;obtain⟨⟨⟨k1,k2⟩,k3⟩,k4⟩:=h;exact⟨fn,c,h1,h2,k4,k2,k3,.inl (fA _ _ k1)⟩
   simp_all
  simp_all
 ·split at h
  ·rename_i m hb;unfold Pp at h;split at h
   ·rename_i fn h1;split at h
    ·rename_i c h2;simp only[Bool.and_eq_true,Nat.ble_eq,Nat.beq_eq,bne_iff_ne,ne_eq]at h;obtain⟨⟨⟨⟨⟨⟨k1,k2⟩,k3⟩,k4⟩,k5⟩,k6⟩,k7⟩:=h;exact⟨fn,c,h1,h2,k7,by omega,k3,.inr (.inl ⟨m,hb,k6,k5⟩)⟩
    simp_all
   simp_all
  ·rename_i i d k a hb;unfold Uw at h;split at h
   ·rename_i fn h1;split at h
    ·rename_i c h2;simp only[Bool.and_eq_true,Nat.ble_eq,bne_iff_ne,ne_eq]at h;obtain⟨⟨⟨k1,k2⟩,k3⟩,k4⟩:=h;exact⟨fn,c,h1,h2,k4,k2,k3,.inr (.inr ⟨i,d,k,a,hb,k1⟩)⟩
    simp_all
   simp_all
  simp_all
theorem afd {P:Program}{t:T}(h:t.every (fun f v=>PC P v f)=true):xK P t.look:=fun f vf hv=>Xu (T.look_every (p:=fun f v=>PC P v f) h hv)
def Ev (P:Nat→Option aa) (c:VC) (st:St) (o:aY) (st':St):Prop:=∃ N,∀ n,(run P (N+n)).code c st=some (o,st')
variable {P:Nat→Option aa}
theorem Z9 {n:Int}(h:-9223372036854775808≤n) (h2:n≤9223372036854775807):wr .i64 n=n:=by
 simp only[wr,kK,decide_eq_true h,decide_eq_true h2,Bool.and_self]
instance:Nonempty bI:=⟨⟨fun _ _=>none,fun _ _ _=>none⟩⟩
def WP (P:Nat→Option aa) (c:VC) (st:St) (Q:aY→St→Prop):Prop:=∃ o st',Ev P c st o st'∧Q o st'
theorem U8 {r:bI}{vs:List VI}:∀ {l:List Nat}{st:St},(l.all fun i=>decide (i<vs.length))=true→pB r vs l st=gz r (l.filterMap fun i=>vs[i]?) st
 | [],_,_=>rfl
 | i::l,st,h=>by
  simp only[List.all_cons,Bool.and_eq_true,decide_eq_true_eq]at h;have hi:vs[i]?=some (vs[i]'h.1):=List.getElem?_eq_getElem h.1;simp only[pB,hi,List.filterMap_cons,gz]
  cases bl r (vs[i]'h.1) st with
  | none=>rfl
  | some st1=>exact U8 h.2
theorem Xk {r:bI}{vs:List VI}:∀ {l F:List Nat}{st:St},cX r [] vs l F st=pB r vs l st
 | [],_,_=>rfl
 | i::l,F,st=>by
  simp only[cX,pB,aQ,ca]
  cases vs[i]? with
  | none=>rfl
  | some v =>
   simp only
   cases bl r v st with
   | none=>rfl
   | some st1=>exact Xk
theorem WP.mono {c:VC}{st:St}{Q R:aY→St→Prop}(h:WP P c st Q) (hq:∀ o s,Q o s→R o s):WP P c st R:=by
 obtain⟨o,s,h,k⟩:=h;exact⟨o,s,h,hq o s k⟩
structure ph (r q:bI):Prop where
 code:∀ c st x,r.code c st=some x→q.code c st=some x
 call:∀ f a h x,r.call f a h=some x→q.call f a h=some x
section
variable {r q:bI}
theorem Vy (le:ph r q) {f:FuncId}{vs:List AV}{h:af}{x:AV}(e:cy r f vs h=some x):cy q f vs h=some x:=by
 unfold cy at e⊢
 cases hd:viewArgs h vs with
 | none=>rw[hd]at e;simp at e
 | some ds =>
  rw[hd]at e;simp only at e⊢
  cases hc:r.call f ds ⟨[],0⟩ with
  | none=>rw[hc]at e;simp at e
  | some p =>
   obtain⟨v,hs⟩:=p;rw[hc]at e;rw[le.call _ _ _ _ hc];exact e
theorem ZU (le:ph r q) {l:Nat}{vs:List AV}{hs:HS}{x:AV×HS}(e:oh r l vs hs=some x):oh q l vs hs=some x:=by
 unfold oh at e⊢;split at e
 ·rename_i snap params assign body hg;split at e
  ·simp at e
  ·rename_i e1 he1
   try simp only[he1]
   split at e
   ·rename_i st1 hc;simp only[le.code _ _ _ hc];split at e
    ·rename_i snap2 params2 assign2 body2 hg2;split at e
     ·simp at e
     ·rename_i o st2 hc2;simp only[le.code _ _ _ hc2];exact e
    ·simp at e
   ·simp at e
 ·simp at e
theorem XD (le:ph r q) {f:AV}{vs:List AV}{hs:HS}{x:AV×HS}(e:bD r f vs hs=some x):bD q f vs hs=some x:=by
 cases f<;>simp only[bD,reduceCtorEq]at e⊢
 ·exact le.call _ _ _ _ e
 ·exact ZU le e
theorem aiH (le:ph r q) {o:jN}{st:St}{x:AV×St}(e:bw o r st=some x):bw o q st=some x:=by
 cases o<;>try exact e
 ·rename_i f args;simp only[bw,yj]at e⊢
  cases hr:rdAll st.env args with
  | none=>rw[hr]at e;simp at e
  | some p =>
   obtain⟨vs,e1⟩:=p;rw[hr]at e;simp only at e⊢
   cases hc:cy r f vs st.hs.heap with
   | none=>rw[hc]at e;simp at e
   | some v=>rw[hc]at e;rw[Vy le hc];exact e
 ·rename_i f args;simp only[bw,wP]at e⊢
  cases hr:rdAll st.env args with
  | none=>rw[hr]at e;simp at e
  | some p =>
   obtain⟨vs,e1⟩:=p;rw[hr]at e;simp only at e⊢
   cases hc:r.call f vs st.hs with
   | none=>rw[hc]at e;simp at e
   | some v=>rw[hc]at e;rw[le.call _ _ _ _ hc];exact e
 ·rename_i f args;simp only[bw,w9]at e⊢
  cases hf:rd st.env f with
  | none=>rw[hf]at e;simp at e
  | some p =>
   obtain⟨fv,e0⟩:=p;rw[hf]at e;simp only at e⊢
   cases hr:rdAll e0 args with
   | none=>rw[hr]at e;simp at e
   | some p =>
    obtain⟨vs,e1⟩:=p;rw[hr]at e;simp only at e⊢
    cases hc:bD r fv vs st.hs with
    | none=>rw[hc]at e;simp at e
    | some v=>rw[hc]at e;rw[XD le hc];exact e
theorem wJ (le:ph r q) {i:VI}{st x:St}(e:bl r i st=some x):bl q i st=some x:=by
 have go:∀ x,df r i st=some x→df q i st=some x:=fun x e=>by
  unfold df at e⊢
  cases ho:bw i.op r st with
  | none=>rw[ho]at e;simp at e
  | some p=>rw[ho]at e;rw[aiH le ho];exact e
 unfold bl at e⊢;split at e
 ·exact go _ e
 ·split at e
  ·split at e
   ·simp_all
   ·simp_all
  ·exact e
  ·simp at e
theorem Ij (le:ph r q):∀ {l:List VI}{st x:St},gz r l st=some x→gz q l st=some x
 | [],_,_,e=>e
 | i::l,st,x,e=>by
  simp only[gz]at e⊢
  cases hv:bl r i st with
  | none=>rw[hv]at e;simp at e
  | some st1=>rw[hv]at e;rw[wJ le hv];exact Ij le e
theorem aj8 (le:ph r q) {F:List Nat}{i:VI}{st x:St}(e:pK r F i st=some x):pK q F i st=some x:=by
 unfold pK at e⊢;split at e
 ·cases hv:bl r i st with
  | none=>rw[hv]at e;simp at e
  | some st1=>rw[hv]at e;rw[wJ le hv];exact e
 ·cases hv:bl r i st with
  | none=>rw[hv]at e;simp at e
  | some st1=>rw[hv]at e;rw[wJ le hv];exact e
 ·cases hv:bl r i ⟨st.env,⟨bU (jL i st.env) st.hs.heap,st.hs.next⟩⟩ with
  | none=>rw[hv]at e;simp at e
  | some st1=>rw[hv]at e;rw[wJ le hv];exact e
theorem Ro (le:ph r q) {a:Bool}{F:List Nat}{i:VI}{st x:St}(e:aQ r a F i st=some x):aQ q a F i st=some x:=by
 cases a
 ·exact wJ le e
 ·exact aj8 le e
theorem Jo (le:ph r q) {nr:List Nat}{vs:List VI}:∀ {l F:List Nat}{st x:St},cX r nr vs l F st=some x→cX q nr vs l F st=some x
 | [],_,_,_,e=>e
 | i::l,F,st,x,e=>by
  simp only[cX]at e⊢
  cases hi:vs[i]? with
  | none=>rw[hi]at e;simp at e
  | some v =>
   rw[hi]at e;simp only at e⊢
   cases hv:aQ r (ca i nr) F v st with
   | none=>rw[hv]at e;simp at e
   | some st1=>rw[hv]at e;rw[Ro le hv];exact Jo le e
theorem FL (le:ph r q) {c:VC}{st:St}{x:aY×St}(e:br c r st=some x):br c q st=some x:=by
 cases c<;>try exact e
 ·rename_i d ops;simp only[br,Kh]at e⊢
  cases hv:gz r ops st with
  | none=>rw[hv]at e;simp at e
  | some st1=>rw[hv]at e;rw[Ij le hv];exact e
 ·rename_i perm gco nr ops;simp only[br,EV,E3]at e⊢
  cases ha:og st.env ops with
  | false=>rw[ha]at e;simp at e
  | true =>
  rw[ha]at e;simp only at e⊢
  cases hv:cX r nr ops perm [] st with
  | none=>rw[hv]at e;simp at e
  | some st1=>rw[hv]at e;rw[Jo le hv];exact e
 ·rename_i a b;simp only[br,Gv]at e⊢
  cases hv:r.code a st with
  | none=>rw[hv]at e;simp at e
  | some p =>
   obtain⟨o,st1⟩:=p;rw[hv]at e;rw[le.code _ _ _ hv]
   cases o<;>simp only at e⊢
   ·exact le.code _ _ _ e
   all_goals exact e
 ·rename_i cr a b;simp only[br,IC]at e⊢;split at e
  ·exact le.code _ _ _ e
  ·exact le.code _ _ _ e
  ·simp at e
 ·rename_i id a;simp only[br,Eq]at e⊢
  cases hv:r.code a st with
  | none=>rw[hv]at e;simp at e
  | some p=>rw[hv]at e;rw[le.code _ _ _ hv];exact e
 ·rename_i a;simp only[br,JF]at e⊢
  cases hv:r.code a st with
  | none=>rw[hv]at e;simp at e
  | some p =>
   obtain⟨o,st1⟩:=p;rw[hv]at e;rw[le.code _ _ _ hv]
   cases o<;>simp only at e⊢
   ·exact le.code _ _ _ e
   all_goals exact e
 ·rename_i f params assign body;simp only[br,xE]at e⊢;split at e
  ·rename_i g first caps e1 h1
   split at e
   ·rename_i v hs hc;rw[le.call _ _ _ _ hc];exact e
   ·simp at e
  ·simp at e
 ·exact le.code _ _ _ e
 ·rename_i a cur;simp only[br,C5]at e⊢
  cases hv:r.code cur st with
  | none=>rw[hv]at e;simp at e
  | some p =>
   obtain⟨o,st1⟩:=p;rw[hv]at e;rw[le.code _ _ _ hv]
   cases o<;>simp only at e⊢
   ·exact e
   ·exact e
   ·split at e
    ·exact le.code _ _ _ e
    ·exact e
   ·exact e
 ·rename_i i d f a;simp only[br,I5]at e⊢
  cases hg:get st.env i with
  | none=>rw[hg]at e;simp at e
  | some p =>
   rw[hg]at e
   cases p<;>simp only at e⊢<;>try exact absurd e (by simp)
   rename_i id off
   cases hv:r.code a ⟨put st.env d (.ptr id off),st.hs⟩ with
   | none=>rw[hv]at e;simp at e
   | some p =>
    obtain⟨o,st1⟩:=p;rw[hv]at e;rw[le.code _ _ _ hv]
    cases o<;>simp only at e⊢<;>try exact absurd e (by simp)
    all_goals
     cases hc:r.call f [.ptr id off] st1.hs with
     | none=>rw[hc]at e;simp at e
     | some q=>rw[hc]at e;rw[le.call _ _ _ _ hc];exact e
theorem R8 (le:ph r q) {P:Nat→Option aa}{f:FuncId}{a:List AV}{h:HS}{x:AV×HS}(e:oJ P r f a h=some x):oJ P q f a h=some x:=by
 unfold oJ at e⊢;split at e
 ·simp at e
 ·rename_i fn hf;split at e
  ·simp at e
  ·rename_i hn
   cases hv:br fn.body r ⟨fT 0 a,h⟩ with
   | none=>rw[hv]at e;simp at e
   | some p=>rw[hv]at e;simp only[hn,FL le hv];exact e
end
variable {P:Nat→Option aa}
def lim {α:Type}(f:Nat→Option α):Option α :=
 open Classical in if h:∃ x,∃ n,f n=some x then some (Classical.choose h) else none
theorem Y1 {α:Type}{f:Nat→Option α}(mono:∀ n m x,f n=some x→f (n+m)=some x) {n:Nat}{x:α}(h:f n=some x):lim f=some x:=by
 have he:∃ x,∃ n,f n=some x:=⟨x,n,h⟩
 unfold lim;obtain⟨m,hm⟩:=Classical.choose_spec he;have h2:=mono m n _ hm
 grind
theorem ZV {α:Type}{f:Nat→Option α}{x:α}(h:lim f=some x):∃ n,f n=some x:=by
 unfold lim at h;split at h<;>grind
variable {P:Nat→Option aa}
theorem ph.rfl' {r:bI}:ph r r:=⟨fun _ _ _ h=>h,fun _ _ _ _ h=>h⟩
theorem ph.trans' {r q s:bI}(h:ph r q) (k:ph q s):ph r s:=⟨fun c st x e=>k.code c st x (h.code c st x e),fun f a hs x e=>k.call f a hs x (h.call f a hs x e)⟩
theorem SW:∀ n:Nat,ph (run P n) (run P (n+1))
 | 0=>⟨fun _ _ _ h=>by simp[run]at h,fun _ _ _ _ h=>by simp[run]at h⟩
 | n+1=>⟨fun c st x h=>FL (SW n) h,fun f a hs x h=>R8 (SW n) h⟩
theorem Jc (n:Nat):∀ m:Nat,ph (run P n) (run P (n+m))
 | 0=>ph.rfl'
 | m+1=>(Jc n m).trans' (SW (n+m))
def Dn (P:Nat→Option aa):bI:=⟨fun c st=>lim fun n=>(run P n).code c st,fun f a h=>lim fun n=>(run P n).call f a h⟩
theorem ZH {c:VC}{st:St}{x:aY×St}{n:Nat}(h:(run P n).code c st=some x):(Dn P).code c st=some x :=
 Y1 (fun n m x h=>(Jc n m).code _ _ _ h) h
theorem OP {f:FuncId}{a:List AV}{hs:HS}{x:AV×HS}{n:Nat}(h:(run P n).call f a hs=some x):(Dn P).call f a hs=some x :=
 Y1 (fun n m x h=>(Jc n m).call _ _ _ _ h) h
theorem abT (n:Nat):ph (run P n) (Dn P):=⟨fun _ _ _ h=>ZH h,fun _ _ _ _ h=>OP h⟩
theorem E9 {n m:Nat}{c:VC}{st:St}{x:aY×St}(h:(run P n).code c st=some x) (le:n≤m):(run P m).code c st=some x:=by
 grind [ph.code,Jc,Nat.add_sub_cancel']
theorem up {n m:Nat}(le:n≤m):ph (run P n) (run P m):=by
 grind [Jc,Nat.add_sub_cancel']
theorem qg {c:VC}{st:St}{x:aY×St}(h:(Dn P).code c st=some x):∃ n,(run P n).code c st=some x:=ZV h
theorem wp {f:FuncId}{a:List AV}{hs:HS}{x:AV×HS}(h:(Dn P).call f a hs=some x):∃ n,(run P n).call f a hs=some x:=ZV h
theorem aap {f:FuncId}{vs:List AV}{h:af}{x:AV}(e:cy (Dn P) f vs h=some x):∃ n,cy (run P n) f vs h=some x:=by
 grind [cy,wp]
theorem afn {l:Nat}{vs:List AV}{hs:HS}{x:AV×HS}(e:oh (Dn P) l vs hs=some x):∃ n,oh (run P n) l vs hs=some x:=by
 unfold oh at e⊢;split at e
 ·split at e
  ·simp at e
  ·split at e<;>grind [qg,E9]
 simp_all
theorem afA {f:AV}{vs:List AV}{hs:HS}{x:AV×HS}(e:bD (Dn P) f vs hs=some x):∃ n,bD (run P n) f vs hs=some x:=by
 cases f<;>simp only[bD,reduceCtorEq]at e⊢
 all_goals grind [wp,afn]
theorem apM {o:jN}{st:St}{x:AV×St}(e:bw o (Dn P) st=some x):∃ n,bw o (run P n) st=some x:=by
 cases o<;>try exact⟨0,e⟩
 ·rename_i f args;simp only[bw,yj]at e⊢
  cases hr:rdAll st.env args<;>grind [aap]
 ·rename_i f args;simp only[bw,wP]at e⊢
  cases hr:rdAll st.env args<;>grind [wp]
 ·rename_i f args;simp only[bw,w9]at e⊢
  cases hf:rd st.env f with
  | none=>simp_all
  | some p =>
   obtain⟨fv,e0⟩:=p;simp only at e⊢
   cases hr:rdAll e0 args<;>grind [afA]
theorem XW {i:VI}{st x:St}(e:bl (Dn P) i st=some x):∃ n,bl (run P n) i st=some x:=by
 have go:∀ x,df (Dn P) i st=some x→∃ n,df (run P n) i st=some x:=fun x e=>by
  grind [df,apM]
 unfold bl at e⊢;split at e
 ·simp_all
 ·split at e
  ·split at e<;>simp_all
  all_goals simp_all
theorem ac1:∀ {l:List VI}{st x:St},gz (Dn P) l st=some x→∃ n,gz (run P n) l st=some x
 | [],_,_,e=>⟨0,e⟩
 | i::l,st,x,e=>by
  simp only[gz]at e⊢
  cases hv:bl (Dn P) i st with
  | none=>simp_all
  | some st1 =>
   rw[hv]at e;obtain⟨n1,h1⟩:=XW hv;obtain⟨n2,h2⟩:=ac1 e;refine⟨n1+n2,?_⟩;rw[wJ (up (Nat.le_add_right n1 n2)) h1];exact Ij (up (Nat.le_add_left n2 n1)) h2
theorem apV {F:List Nat}{i:VI}{st x:St}(e:pK (Dn P) F i st=some x):∃ n,pK (run P n) F i st=some x:=by
 grind [pK,XW]
theorem akw {a:Bool}{F:List Nat}{i:VI}{st x:St}(e:aQ (Dn P) a F i st=some x):∃ n,aQ (run P n) a F i st=some x:=by
 cases a
 ·exact XW e
 ·exact apV e
theorem ac6 {nr:List Nat}{vs:List VI}:∀ {l F:List Nat}{st x:St},cX (Dn P) nr vs l F st=some x→∃ n,cX (run P n) nr vs l F st=some x
 | [],_,_,_,e=>⟨0,e⟩
 | i::l,F,st,x,e=>by
  simp only[cX]at e⊢
  cases hi:vs[i]? with
  | none=>simp_all
  | some v =>
   rw[hi]at e;simp only at e⊢
   cases hv:aQ (Dn P) (ca i nr) F v st with
   | none=>simp_all
   | some st1 =>
    rw[hv]at e;obtain⟨n1,h1⟩:=akw hv;obtain⟨n2,h2⟩:=ac6 e;refine⟨n1+n2,?_⟩;rw[Ro (up (Nat.le_add_right n1 n2)) h1];exact Jo (up (Nat.le_add_left n2 n1)) h2
theorem Zh {c:VC}{st:St}{x:aY×St}(e:br c (Dn P) st=some x):∃ n,br c (run P n) st=some x:=by
 cases c<;>try exact⟨0,e⟩
 ·grind [br,Kh,ac1]
 ·rename_i perm gco nr ops;simp only[br,EV,E3]at e⊢
  cases ha:og st.env ops<;>grind [ac6]
 ·rename_i a b;simp only[br,Gv]at e⊢
  grind [qg,E9]
 ·rename_i cr a b;simp only[br,IC]at e⊢;split at e<;>grind [qg]
 ·grind [br,Eq,qg]
 ·rename_i a;simp only[br,JF]at e⊢
  grind [qg,E9]
 ·rename_i f params assign body;simp only[br,xE]at e⊢;split at e<;>grind [wp]
 ·exact qg e
 ·rename_i a cur;simp only[br,C5]at e⊢
  grind [qg,E9]
 ·rename_i i d f a;simp only[br,I5]at e⊢
  cases hg:get st.env i with
  | none=>simp_all
  | some p =>
   rw[hg]at e
   cases p<;>simp only at e⊢<;>try exact absurd e (by simp)
   rename_i id off
   cases hv:(Dn P).code a ⟨put st.env d (.ptr id off),st.hs⟩ with
   | none=>simp_all
   | some p =>
    obtain⟨o,st1⟩:=p;obtain⟨n1,h1⟩:=qg hv;rw[hv]at e
    cases o<;>simp only at e⊢<;>try exact absurd e (by simp)
    all_goals
     cases hc:(Dn P).call f [.ptr id off] st1.hs with
     | none=>simp_all
     | some q =>
      obtain⟨n2,h2⟩:=wp hc;rw[hc]at e;refine⟨n1+n2,?_⟩;rw[E9 h1 (Nat.le_add_right n1 n2)];simp only[(up (Nat.le_add_left n2 n1)).call _ _ _ _ h2];exact e
theorem ajS {f:FuncId}{a:List AV}{h:HS}{x:AV×HS}(e:oJ P (Dn P) f a h=some x):∃ n,oJ P (run P n) f a h=some x:=by
 unfold oJ at e⊢;split at e
 ·simp at e
 ·split at e<;>grind [Zh]
theorem eD (c:VC) (st:St):(Dn P).code c st=br c (Dn P) st:=by
 cases h:br c (Dn P) st with
 | some x =>
  obtain⟨n,hn⟩:=Zh h;exact ZH (n:=n+1) hn
 | none =>
  cases k:(Dn P).code c st with
  | none=>rfl
  | some x =>
   obtain⟨n,hn⟩:=qg k
   cases n<;>grind [run,FL,abT]
theorem amB (f:FuncId) (a:List AV) (hs:HS):(Dn P).call f a hs=oJ P (Dn P) f a hs:=by
 cases h:oJ P (Dn P) f a hs with
 | some x =>
  obtain⟨n,hn⟩:=ajS h;exact OP (n:=n+1) hn
 | none =>
  cases k:(Dn P).call f a hs with
  | none=>rfl
  | some x =>
   obtain⟨n,hn⟩:=wp k
   cases n<;>grind [run,R8,abT]
variable {P:Nat→Option aa}
def te (P:Nat→Option aa) (x:Option (aY×St)) (b:VC):Option (aY×St) :=
 match x with
 | some (.normal,st)=>(Dn P).code b st
 | x=>x
def rG (id:Nat) (x:Option (aY×St)):Option (aY×St) :=
 match x with
 | some (.exit j,st)=>if j=id then some (.normal,st) else some (.exit j,st)
 | x=>x
def bu (x:Option St):Option (aY×St) :=
 match x with
 | some st=>some (.normal,st)
 | none=>none
def lJ (P:Nat→Option aa) (a:VC) (x:Option (aY×St)):Option (aY×St) :=
 match x with
 | some (.normal,st)=>(Dn P).code (.loop a) st
 | x=>x
def NC (fn:aa) (x:Option (aY×St)):Option (AV×HS) :=
 match x with
 | some (.normal,st)=>zw fn st
 | some (.ret,st)=>zw fn st
 | _=>none
def nC (x:Option (AV×HS)):Option AV :=
 match x with
 | some (v,hs)=>dF hs.heap v
 | none=>none
theorem ark {st:St}{b:VC}:te P (some (.normal,st)) b=(Dn P).code b st:=(rfl)
theorem aq9 {st:St}{b:VC}:te P (some (.ret,st)) b=some (.ret,st):=(rfl)
theorem apO {st:St}{b:VC}{j:Nat}:te P (some (.exit j,st)) b=some (.exit j,st):=(rfl)
theorem aqs {st:St}{b:VC}{j:Nat}:te P (some (.goto j,st)) b=some (.goto j,st):=(rfl)
theorem apX {b:VC}:te P none b=none:=(rfl)
theorem ap6 {c:Prop}[Decidable c] {x y:Option (aY×St)}{b:VC}:te P (if c then x else y) b=if c then te P x b else te P y b:=by grind
theorem aoX {st:St}{i:Nat}:rG i (some (.normal,st))=some (.normal,st):=(rfl)
theorem aqp {st:St}{i:Nat}:rG i (some (.ret,st))=some (.ret,st):=(rfl)
theorem apn {st:St}{i j:Nat}:rG i (some (.exit j,st))=if j=i then some (.normal,st) else some (.exit j,st):=(rfl)
theorem ao7 {st:St}{i j:Nat}:rG i (some (.goto j,st))=some (.goto j,st):=(rfl)
theorem apw {i:Nat}:rG i none=none:=(rfl)
theorem aqm {c:Prop}[Decidable c] {x y:Option (aY×St)}{i:Nat}:rG i (if c then x else y)=if c then rG i x else rG i y:=by grind
theorem Uh {st:St}{a:VC}:lJ P a (some (.normal,st))=(Dn P).code (.loop a) st:=(rfl)
theorem anT {st:St}{a:VC}:lJ P a (some (.ret,st))=some (.ret,st):=(rfl)
theorem amG {st:St}{a:VC}{j:Nat}:lJ P a (some (.exit j,st))=some (.exit j,st):=(rfl)
theorem an7 {st:St}{a:VC}{j:Nat}:lJ P a (some (.goto j,st))=some (.goto j,st):=(rfl)
theorem ams {a:VC}:lJ P a none=none:=(rfl)
theorem am0 {c:Prop}[Decidable c] {x y:Option (aY×St)}{a:VC}:lJ P a (if c then x else y)=if c then lJ P a x else lJ P a y:=by grind
theorem apI {st:St}:bu (some st)=some (.normal,st):=(rfl)
theorem apr:bu none=none:=(rfl)
theorem apl {c:Prop}[Decidable c] {x y:Option St}:bu (if c then x else y)=if c then bu x else bu y:=by grind
theorem apE {v:AV}{hs:HS}:nC (some (v,hs))=dF hs.heap v:=(rfl)
theorem ao2:nC none=none:=(rfl)
theorem apy {c:Prop}[Decidable c] {x y:Option (AV×HS)}:nC (if c then x else y)=if c then nC x else nC y:=by grind
theorem ahW {st:St}:(Dn P).code .skip st=some (.normal,st):=by rw[eD];rfl
theorem ag4 {st:St}{i:Nat}:(Dn P).code (.exit i) st=some (.exit i,st):=by rw[eD];rfl
theorem ai8 {st:St}:(Dn P).code .ret st=some (.ret,st):=by rw[eD];rfl
theorem aey {st:St}{i:Nat}:(Dn P).code (.label i) st=some (.normal,st):=by rw[eD];rfl
theorem ahD {st:St}{i:Nat}:(Dn P).code (.goto i) st=some (.goto i,st):=by rw[eD];rfl
theorem aj1 {st:St}{a b:VC}:(Dn P).code (.seq a b) st=te P ((Dn P).code a st) b:=by rw[eD];rfl
theorem aez {st:St}{i:Nat}{a:VC}:(Dn P).code (.block i a) st=rG i ((Dn P).code a st):=by
 grind [eD,br,Eq,rG,Nat.eq_of_beq_eq_true,Nat.ne_of_beq_eq_false]
theorem ah6 {st:St}{a:VC}:(Dn P).code (.loop a) st=lJ P a ((Dn P).code a st):=by rw[eD];rfl
theorem Nr {st:St}{d:Bool}{ops:List VI}:(Dn P).code (.reg d ops) st=bu (gz (Dn P) ops st):=by rw[eD];rfl
theorem aih {st:St}{perm gco:List Nat}{ops:List VI}(ha:og st.env ops=true):(Dn P).code (.regP perm gco [] ops) st=bu (pB (Dn P) ops perm st):=by
 rw[eD];simp only[br,EV,E3,Xk,ha];rfl
def KI (P:Nat→Option aa) (v:Option AV) (a b:VC) (st:St):Option (aY×St) :=
 match v with
 | some (.d (.bool true))=>(Dn P).code a st
 | some (.d (.bool false))=>(Dn P).code b st
 | _=>none
theorem ahp {e:aq}{hs:HS}{i:Nat}{a b:VC}:(Dn P).code (.cond (.m i) a b) ⟨e,hs⟩=KI P (get e i) a b ⟨del e i,hs⟩:=by
 rw[eD];simp only[br,IC,rd,KI]
 grind
theorem aoj {a b:VC}{st:St}:KI P (some (.d (.bool true))) a b st=(Dn P).code a st:=(rfl)
theorem an0 {a b:VC}{st:St}:KI P (some (.d (.bool false))) a b st=(Dn P).code b st:=(rfl)
def azt (P:Nat→Option aa) (v:Option AV) (w:Bool) (d:Option Nat) (op:jN) (th:List (Nat×Nat)) (st:St):Option St :=
 match v with
 | some (.d (.bool b))=>match b == w with
  | true=>bl (Dn P) ⟨d,none,op,th⟩ st
  | false=>some (bf d (.tup []) st)
 | some (.tup [])=>some (bf d (.tup []) st)
 | _=>none
theorem avH {α:Type}{i:Nat}:get ([]:List (Nat×α)) i=none:=(rfl)
theorem ap7 {α:Type}{k i:Nat}{v:α}{r:List (Nat×α)}:get ((k,v)::r) i=if k=i then some v else get r i:=dC ..
theorem auQ {α:Type}{i:Nat}{x:α}:put [] i x=[(i,x)]:=(rfl)
theorem put1 {α:Type}{k i:Nat}{v x:α}{r:List (Nat×α)}:put ((k,v)::r) i x=if k=i then (i,x)::r else if i≤k then (i,x)::(k,v)::r else (k,v)::put r i x:=nk ..
theorem awc {α:Type}{i:Nat}:del ([]:List (Nat×α)) i=[]:=(rfl)
theorem aqN {α:Type}{k i:Nat}{v:α}{r:List (Nat×α)}:del ((k,v)::r) i=if k=i then del r i else (k,v)::del r i:=jf ..
theorem ME {k:IntKind}:jS k k=true:=by cases k<;>rfl
theorem iQ {op:BinOp}{k:IntKind}{a b:Int}(h1:op≠.shl) (h2:op≠.shr):bH op (.d (.int k a)) (.d (.int k b))=match fH op k a b with | some x=>some (.d x) | none=>none:=by
 grind [bH,oO,ME]
theorem amO {k:IntKind}{a b:Int}:bH .add (.d (.int k a)) (.d (.int k b))=some (.d (.int k (wr k (a+b)))):=by rw[iQ (by simp) (by simp)];rfl
theorem anI {k:IntKind}{a b:Int}:bH .sub (.d (.int k a)) (.d (.int k b))=some (.d (.int k (wr k (a-b)))):=by rw[iQ (by simp) (by simp)];rfl
theorem anK {k:IntKind}{a b:Int}:bH .mul (.d (.int k a)) (.d (.int k b))=some (.d (.int k (wr k (a*b)))):=by rw[iQ (by simp) (by simp)];rfl
theorem an8 {k:IntKind}{a b:Int}(h:b≠0):bH .quo (.d (.int k a)) (.d (.int k b))=some (.d (.int k (wr k (a.tdiv b)))):=by grind [iQ,fH]
theorem aoB {k:IntKind}{a b:Int}(h:b≠0):bH .rem (.d (.int k a)) (.d (.int k b))=some (.d (.int k (a.tmod b))):=by grind [iQ,fH]
theorem am4 {k:IntKind}{a b:Int}:bH .eql (.d (.int k a)) (.d (.int k b))=if a=b then some (.d (.bool true)) else some (.d (.bool false)):=by grind [iQ,fH]
theorem aoa {k:IntKind}{a b:Int}:bH .neq (.d (.int k a)) (.d (.int k b))=if a=b then some (.d (.bool false)) else some (.d (.bool true)):=by grind [iQ,fH]
theorem anU {k:IntKind}{a b:Int}:bH .lss (.d (.int k a)) (.d (.int k b))=if a<b then some (.d (.bool true)) else some (.d (.bool false)):=by grind [iQ,fH]
theorem amp {k:IntKind}{a b:Int}:bH .leq (.d (.int k a)) (.d (.int k b))=if a≤b then some (.d (.bool true)) else some (.d (.bool false)):=by grind [iQ,fH]
theorem aor {k:IntKind}{a b:Int}:bH .gtr (.d (.int k a)) (.d (.int k b))=if b<a then some (.d (.bool true)) else some (.d (.bool false)):=by grind [iQ,fH]
theorem an3 {k:IntKind}{a b:Int}:bH .geq (.d (.int k a)) (.d (.int k b))=if b≤a then some (.d (.bool true)) else some (.d (.bool false)):=by grind [iQ,fH]
theorem an9 {k j:IntKind}{a b:Int}(h:0≤b):bH .shl (.d (.int k a)) (.d (.int j b))=some (.d (.int k (wr k (a*((2 ^ (min b.toNat k.bits):Nat):Int))))):=by
 grind [bH,oO,AI]
theorem an6 {k j:IntKind}{a b:Int}(h:0≤b):bH .shr (.d (.int k a)) (.d (.int j b))=some (.d (.int k (a.fdiv ((2 ^ (min b.toNat k.bits):Nat):Int)))):=by
 grind [bH,oO,AI]
theorem ajW {a b:List UInt8}:bH .neq (.d (.str a)) (.d (.str b))=if a=b then some (.d (.bool false)) else some (.d (.bool true)):=by
 grind [bH]
theorem as4 {n:Int}(h:0≤n) (h2:n≤255):wr .u8 n=n:=by
 grind [wr,kK]
theorem aq7 {n:Int}(h:0≤n) (h2:n≤65535):wr .u16 n=n:=by
 grind [wr,kK]
theorem aq2 {n:Int}(h:0≤n) (h2:n≤4294967295):wr .u32 n=n:=by
 grind [wr,kK]
theorem apu {n:Int}(h:0≤n) (h2:n≤18446744073709551615):wr .u64 n=n:=by
 grind [wr,kK]
theorem An {k:IntKind}{i:Int}{t:Nat}(h:0≤i) (h2:i≤t):cB (.d (.int k i)) t=some i.toNat:=by
 obtain⟨n,rfl⟩:=Int.eq_ofNat_of_zero_le h;have:Nat.ble n t=true:=Nat.ble_eq_true_of_le (by omega);show (match Nat.ble n t with | true=>some n | false=>none)=_
 grind
theorem KX {k:IntKind}{i:Int}(h:0≤i):lR (.d (.int k i))=some i.toNat:=by
 obtain⟨n,rfl⟩:=Int.eq_ofNat_of_zero_le h;rfl
def jw (k:IntKind):Nat:=if k.signed then 2 ^ (k.bits-1) else 2 ^ k.bits
theorem ann (k:IntKind):jw k≤2 ^ k.bits:=by cases k<;>decide
theorem adO {k:IntKind}{n:Nat}(h:n<jw k):k.wrap (n:Int)=n:=by
 cases k<;>simp only[jw,IntKind.wrap,IntKind.signed,IntKind.bits]at h⊢<;>simp at h⊢<;>omega
theorem Dr {k:IntKind}{n:Nat}(h:n<jw k):(BitVec.ofInt k.bits (n:Int)).toNat=n:=by
 grind [ann]
theorem apo {k:IntKind}{a b:Nat}(h:a<jw k) (h2:b<jw k) (h3:a ||| b<jw k):bH .or (.d (.int k (a:Int))) (.d (.int k (b:Int)))=some (.d (.int k ((a ||| b:Nat):Int))):=by
 grind [iQ,fH,BZ,Dr,adO]
theorem amE {a b t:Nat}(h:a<t):a &&& b<t:=by grind [Nat.and_le_left]
theorem anF {k:IntKind}{a b:Nat}(h:a<jw k) (h2:b<jw k):bH .and (.d (.int k (a:Int))) (.d (.int k (b:Int)))=some (.d (.int k ((a &&& b:Nat):Int))):=by
 grind [iQ,fH,BZ,Dr,adO,amE]
theorem amg {k:IntKind}{a b:Nat}(h:a<jw k) (h2:b<jw k) (h3:a ^^^ b<jw k):bH .xor (.d (.int k (a:Int))) (.d (.int k (b:Int)))=some (.d (.int k ((a ^^^ b:Nat):Int))):=by
 grind [iQ,fH,BZ,Dr,adO]
def aS (P:Nat→Option aa) (f:FuncId) (ds:List AV):Option AV:=nC ((Dn P).call f ds ⟨[],0⟩)
theorem Ve {f:FuncId}{fn:aa}{args:List AV}{hs:HS}(hf:P f=some fn) (hl:args.length=fn.nparams):(Dn P).call f args hs=NC fn ((Dn P).code fn.body ⟨fT 0 args,hs⟩):=by
 grind [amB,Nat.beq_refl,oJ,NC,eD]
theorem akz {f:FuncId}{fn:aa}{args:List AV}(hf:P f=some fn) (hl:args.length=fn.nparams):aS P f args=nC (NC fn ((Dn P).code fn.body ⟨fT 0 args,⟨[],0⟩⟩)):=by
 grind [aS,Ve]
theorem aiq {g:FuncId}{first caps args:List AV}{hs:HS}:bD (Dn P) (.fn g first caps) args hs=(Dn P).call g (first++(args++caps)) hs:=(rfl)
theorem aqz {α:Type}{a b:Prop}[Decidable a] [Decidable b] {x y:α}:(if a then (if b then x else y) else y)=if a∧b then x else y:=by
 grind
theorem ape {α:Type}{a b:Prop}[Decidable a] [Decidable b] {x y:α}:(if a then x else (if b then x else y))=if a∨b then x else y:=by
 grind
theorem ap0 {α:Type}{a b:Prop}[Decidable a] [Decidable b] {x y:α}:(if a then (if b then y else x) else y)=if a∧¬ b then x else y:=by
 grind
theorem apF {α:Type}{a b:Prop}[Decidable a] [Decidable b] {x y:α}:(if a then x else (if b then y else x))=if a∨¬ b then x else y:=by
 grind
def nth {α:Type}[Inhabited α] (l:List α) (i:Nat):α:=l.getD i default
theorem YS {α:Type}[Inhabited α] {l:List α}{i:Nat}(h:i<l.length):nth l i=l[i]:=by simp[nth,h]
theorem xn {α:Type}[Inhabited α] {l:List α}{i:Nat}(h:i<l.length):l[i]?=some (nth l i):=by simp[nth,h]
theorem tg {α:Type}[Inhabited α] {l:List α}{i:Nat}(h:i<l.length):l.drop i=nth l i::l.drop (i+1):=by grind [List.drop_eq_getElem_cons,YS]
theorem ig {α:Type}[Inhabited α] {l:List α}{i:Nat}(h:i<l.length):nth l i∈l:=by grind [YS]
abbrev I (n:Int):D:=.int .i64 n
abbrev Y (n:Int):D:=.int .u8 n
def am (l:List Int):List (List D):=l.map fun(n:Int)=>[D.int .i64 n]
def ae (l:List Nat):List (List D):=l.map fun(n:Nat)=>[D.int .u8 (n:Int)]
def J4 (l:List Bool):List (List D):=l.map fun(n:Bool)=>[D.bool n]
theorem aky {l:List Int}:(am l).length=l.length:=by simp[am]
theorem akh {l:List Nat}:(ae l).length=l.length:=by simp[ae]
theorem agu {l:List Bool}:(J4 l).length=l.length:=by simp[J4]
theorem Bn {l:List Int}{i:Nat}(h:i<l.length):(am l)[i]?=some [.int .i64 (nth l i)]:=by grind [am,xn]
theorem akH {l:List Nat}{i:Nat}(h:i<l.length):(ae l)[i]?=some [.int .u8 (nth l i:Nat)]:=by grind [ae,xn]
theorem aiu {l:List Bool}{i:Nat}(h:i<l.length):(J4 l)[i]?=some [.bool (nth l i)]:=by grind [J4,xn]
theorem agC {a b:Nat}:((a:Int)+(b:Int)).toNat=a+b:=by omega
theorem S6 {a b:Nat}:Nat.beq a b=decide (a=b):=by
 grind [Nat.eq_of_beq_eq_true,Nat.ne_of_beq_eq_false]
theorem Ub {a b:Nat}:Nat.ble a b=decide (a≤b):=by
 grind [Nat.le_of_ble_eq_true,Nat.ble_eq_true_of_le]
theorem amj {x y:Option (aY×St)}{b:VC}(h:x=y):te P x b=te P y b:=by rw[h]
theorem anl {x y:Option (aY×St)}{b:Nat}(h:x=y):rG b x=rG b y:=by rw[h]
theorem ajV {x y:Option (aY×St)}{b:VC}(h:x=y):lJ P b x=lJ P b y:=by rw[h]
theorem am5 {x y:Option (aY×St)}{b:aa}(h:x=y):NC b x=NC b y:=by rw[h]
theorem aob {r:bI}{c:VC}{x y:St}(h:x=y):r.code c x=r.code c y:=by rw[h]
theorem akR {v w:Option AV}{a b:VC}{x y:St}(h:v=w) (k:x=y):KI P v a b x=KI P w a b y:=by rw[h,k]
variable {P:Nat→Option aa}
def bA {α β:Type}(x:Option α) (f:α→Option β):Option β :=
 match x with
 | some v=>f v
 | none=>none
def bP {α γ β:Type}(x:Option (α×γ)) (f:α→γ→Option β):Option β :=
 match x with
 | some (v,w)=>f v w
 | none=>none
def lA {α β:Type}(x:α) (f:α→β):β:=f x
def lP {α γ β:Type}(x:α×γ) (f:α→γ→β):β:=f x.1 x.2
def bN {β:Type}(c:Bool) (x:Option β):Option β :=
 match c with
 | true=>x
 | false=>none
def gV (g:AV) (w:Bool) (x:Option AV):Option AV :=
 match g with
 | .d (.bool b)=>if b=w then x else some (.tup [])
 | .tup []=>some (.tup [])
 | _=>none
def gH (g:AV) (w:Bool) (hs:HS) (x:Option (AV×HS)):Option (AV×HS) :=
 match g with
 | .d (.bool b)=>if b=w then x else some (.tup [],hs)
 | .tup []=>some (.tup [],hs)
 | _=>none
def J3 (c a b:AV):Option AV :=
 match c with
 | .d (.bool true)=>some a
 | .d (.bool false)=>some b
 | _=>none
def WO (neg:Bool) (a b:AV):Option D :=
 match a,b with
 | .d (.bool a),.d (.bool b)=>some (.bool (match neg with | true=>!(a == b) | false=>a == b))
 | _,_=>none
def PH (neg:Bool) (ks:List Bool) (a b:AV):Option D :=
 match a,b with
 | .agg a,.agg b=>match aB ks a b with
  | some t=>some (.bool (match neg with | true=>!t | false=>t))
  | none=>none
 | _,_=>none
def da (op:BinOp) (a b:AV):Option D :=
 match bH op a b with
 | some (.d x)=>some x
 | _=>none
def unD (op:UnOp) (a:AV):Option D :=
 match S7 op a with
 | some (.d x)=>some x
 | _=>none
def Wy (k:IntKind) (a:AV):Option D :=
 match a with
 | .d (.int _ n)=>some (.int k (wr k n))
 | _=>none
def EX (h:af) (a:AV):Option D :=
 match elems h a with
 | some xs=>match ov xs with
  | some s=>some (.str s)
  | none=>none
 | none=>none
def ya (z:List D) (l c:AV):Option AV :=
 match cB c aP with
 | some c=>match cB l c with
  | some n=>some (.own true z.length (List.replicate n z))
  | none=>none
 | none=>none
def gX (h:af) (m:Nat) (x:AV) (lo hi mx:Option AV):Option AV :=
 match okSl h m x with
 | true=>qq m x lo hi mx
 | false=>none
def I1 (hp:af) (n:Nat) (x:AV) (lo hi mx:Option AV):Option AV :=
 match x with
 | .ptr id off=>J8 hp n id off lo hi mx
 | _=>none
def aqZ (off:Nat) (n:Option Nat) (x:AV):Option AV :=
 match x with
 | .agg cs=>yD n cs off
 | _=>none
def Rc (hp:af) (n:Nat) (x i:AV):Option AV :=
 match lR i with
 | some i=>match x with
  | .sl id off len=>match Nat.ble len i with
   | true=>none
   | false=>match get hp id with
    | some (.arr m _)=>match Nat.beq m n with
     | true=>some (.pel id (off+i) 0)
     | false=>none
    | some (.cells _)=>match Nat.beq n 1 with
     | true=>some (.ptr id (off+i))
     | false=>none
    | _=>none
  | v=>match elems hp v with
   | some xs=>match xs[i]? with
    | some x=>match Nat.beq x.length n with
     | true=>some (.pim x 0)
     | false=>none
    | none=>none
   | none=>none
 | none=>none
def Dh (len n:Nat) (p i:AV):Option AV :=
 match lR i with
 | some i=>match Nat.ble len i with
  | true=>none
  | false=>fZ (i*n) p
 | none=>none
def ixV (len n:Nat) (agg:Bool) (x i:AV):Option AV :=
 match x with
 | .agg cs=>match lR i with
  | some i=>match Nat.ble len i with
   | true=>none
   | false=>yD (W5 agg n) cs (i*n)
  | none=>none
 | _=>none
def ap1 (x i:AV):Option D :=
 match x with
 | .d (.str s)=>match lR i with
  | some i=>match s[i]? with
   | some b=>some (.int .u8 (.ofNat b.toNat))
   | none=>none
  | none=>none
 | _=>none
def wR (mv:Bool) (t:AV) (i:Nat):Option AV :=
 match t with
 | .tup vs=>match vs[i]? with
  | some v=>match mv with
   | true=>some v
   | false=>some (share v)
  | none=>none
 | _=>none
def Nu (t:AV) (i:Nat):AV :=
 match t with
 | .tup vs=>.tup (vs.set i .junk)
 | v=>v
def arh (x:AV):Bool :=
 match x with
 | .nl=>true
 | _=>false
def SF (m:Nat) (h:af) (a b:AV):Option (AV×af) :=
 match elems h b with
 | some ys=>match dt m ys with
  | true=>cA m h a ys
  | false=>none
 | none=>none
def alx (z:List D) (h:af) (a n:AV):Option (AV×af) :=
 match cB n aP with
 | some n=>cA z.length h a (List.replicate n z)
 | none=>none
def X4 (m:Nat) (hp:af) (a b:AV):Option (D×af) :=
 match elems hp b with
 | some ys=>match a with
  | .sl id off len=>match get hp id with
   | some (.arr k xs)=>match dt m ys && Nat.beq k m && Nat.ble (off+len) xs.length with
    | true=>some (.int .i64 (.ofNat (min len ys.length)),put hp id (.arr k (ai xs off (ys.take len))))
    | false=>none
   | _=>none
  | _=>match lenOf a with
   | some 0=>some (.int .i64 (.ofNat 0),hp)
   | _=>none
 | none=>none
def aq3 (z:List D) (hp:af) (x:AV):Option af :=
 match x with
 | .sl id off len=>match get hp id with
  | some (.arr k xs)=>match Nat.beq k z.length && Nat.ble (off+len) xs.length with
   | true=>some (put hp id (.arr k (ai xs off (List.replicate len z))))
   | false=>none
  | _=>none
 | _=>none
def EQ (isMax:Bool) (vs:List AV):Option AV :=
 match vs with
 | .d (.int k n)::vs=>yn isMax (.d (.int k n)) vs
 | _=>none
def yp (v:AV):Option AV :=
 match v with
 | .ptr .. | .pel .. | .pim .. | .fn .. | .yield ..=>some v
 | _=>none
def cP (h:af) (n:Option Nat) (p:AV):Option AV :=
 match loadAt h n 0 p with
 | some (v,_)=>some v
 | none=>none
def Ke (m:Nat) (vs:List AV):Bool:=vs.all fun v=>Nat.beq v.cells.length m && v.cells.all aV
def aZ {β:Type}(e:aq) (x:Rd) (k:AV→aq→Option β):Option β :=
 match rd e x with
 | some (v,e)=>k v e
 | none=>none
def gx {β:Type}:aq→List Rd→(List AV→aq→Option β)→Option β
 | e,[],k=>k [] e
 | e,x::r,k=>match rd e x with
  | some (v,e)=>gx e r fun vs e=>k (v::vs) e
  | none=>none
def je {β:Type}(e:aq) (x:Option Rd) (k:Option AV→aq→Option β):Option β :=
 match x with
 | none=>k none e
 | some x=>match rd e x with
  | some (v,e)=>k (some v) e
  | none=>none
def aH:Rd→Bool
 | .m _=>false
 | _=>true
def aK {β:Type}(P:Nat→Option aa) (op:jN) (e:aq) (hs:HS) (k:AV→aq→HS→Option β):Option β :=
 match op with
 | .mov x=>aZ e x fun v e=>k v e hs
 | .pick c a b=>aZ e c fun c e=>match aH a && aH b,rd e a,rd e b with
  | true,some (a,_),some (b,_)=>bA (J3 c a b) fun v=>k v e hs
  | _,_,_=>bP (gM (.c c) a b ⟨e,hs⟩) fun v st=>k v st.env st.hs
 | .alloc zs=>lA (put hs.heap hs.next (.cells zs)) fun h=>k (.ptr hs.next 0) e ⟨h,hs.next+1⟩
 | .box x=>aZ e x fun v e=>bN (v.cells.all aV) (lA (put hs.heap hs.next (.cells v.cells)) fun h=>k (.ptr hs.next 0) e ⟨h,hs.next+1⟩)
 | .build zs ps=>gx e (mw ps) fun vs e=>bA (bW zs (nc ps vs)) fun cs=>k (.agg cs) e hs
 | .mks m ps=>gx e ps fun vs e=>bA (fw m vs) fun xs=>k (.own true m xs) e hs
 | .mksv m ps=>gx e ps fun vs e=>bN (Ke m vs) (lA (put hs.heap hs.next (.cells (vs.flatMap AV.cells))) fun h=>k (.sl hs.next 0 vs.length) e ⟨h,hs.next+1⟩)
 | .ld n 0 p=>aZ e p fun p e=>bA (cP hs.heap n p) fun v=>k v e hs
 | .ld n (t+1) p=>aZ e p fun p e=>bP (loadAt hs.heap n (t+1) p) fun v h=>k v e ⟨h,hs.next⟩
 | .st n p x=>aZ e p fun p e=>aZ e x fun x e=>bA (storeAt hs.heap n p x) fun h=>k .junk e ⟨h,hs.next⟩
 | .nilck x=>aZ e x fun v e=>bA (yp v) fun v=>k v e hs
 | .bin op x y=>aZ e x fun a e=>aZ e y fun b e=>bA (da op a b) fun v=>k (.d v) e hs
 | .binb neg x y=>aZ e x fun a e=>aZ e y fun b e=>bA (WO neg a b) fun v=>k (.d v) e hs
 | .bina neg ks x y=>aZ e x fun a e=>aZ e y fun b e=>bA (PH neg ks a b) fun v=>k (.d v) e hs
 | .un op x=>aZ e x fun a e=>bA (unD op a) fun v=>k (.d v) e hs
 | .conv j x=>aZ e x fun a e=>bA (Wy j a) fun v=>k (.d v) e hs
 | .toStr x=>aZ e x fun a e=>bA (EX hs.heap a) fun v=>k (.d v) e hs
 | .mkfn f a c=>gx e a fun a e=>gx e c fun c e=>k (.fn f (shareAll a) (shareAll c)) e hs
 | .mkslice z l c=>aZ e l fun l e=>aZ e c fun c e=>bA (ya z l c) fun v=>k v e hs
 | .slice m x lo hi mx=>aZ e x fun x e=>je e lo fun lo e=>je e hi fun hi e=>je e mx fun mx e=>bA (gX hs.heap m x lo hi mx) fun v=>k v e hs
 | .slarr n x lo hi mx=>aZ e x fun x e=>je e lo fun lo e=>je e hi fun hi e=>je e mx fun mx e=>bA (I1 hs.heap n x lo hi mx) fun v=>k v e hs
 | .fa off p=>aZ e p fun p e=>bA (fZ off p) fun v=>k v e hs
 | .fld off n x=>aZ e x fun x e=>bA (aqZ off n x) fun v=>k v e hs
 | .ia n x i=>aZ e x fun x e=>aZ e i fun i e=>bA (Rc hs.heap n x i) fun v=>k v e hs
 | .iarr l n p i=>aZ e p fun p e=>aZ e i fun i e=>bA (Dh l n p i) fun v=>k v e hs
 | .ix l n a x i=>aZ e x fun x e=>aZ e i fun i e=>bA (ixV l n a x i) fun v=>k v e hs
 | .ixs x i=>aZ e x fun x e=>aZ e i fun i e=>bA (ap1 x i) fun v=>k (.d v) e hs
 | .ext j true i=>match get e j with
  | some t=>bA (wR true t i) fun v=>k v (put e j (Nu t i)) hs
  | none=>none
 | .ext j false i=>match get e j with
  | some t=>bA (wR false t i) fun v=>k v e hs
  | none=>none
 | .len x=>aZ e x fun x e=>bA (lenOf x) fun n=>k (.int .i64 (.ofNat n)) e hs
 | .cap x=>aZ e x fun x e=>bN (arh x) (k (.int .i64 (.ofNat 0)) e hs)
 | .app m x y=>aZ e x fun a e=>aZ e y fun b e=>bP (SF m hs.heap a b) fun v h=>k v e ⟨h,hs.next⟩
 | .appz z x n=>aZ e x fun a e=>aZ e n fun n e=>bP (alx z hs.heap a n) fun v h=>k v e ⟨h,hs.next⟩
 | .cpy m x y=>aZ e x fun a e=>aZ e y fun b e=>bP (X4 m hs.heap a b) fun v h=>k (.d v) e ⟨h,hs.next⟩
 | .clr z x=>aZ e x fun x e=>bA (aq3 z hs.heap x) fun h=>k (.tup []) e ⟨h,hs.next⟩
 | .minmax b xs=>gx e xs fun vs e=>bA (EQ b vs) fun v=>k v e hs
 | .call f args=>gx e args fun vs e=>bA (cy (Dn P) f vs hs.heap) fun v=>k v e hs
 | .calli f args=>gx e args fun vs e=>bP ((Dn P).call f vs hs) fun v hs=>k v e hs
 | .callv f args=>aZ e f fun f e=>gx e args fun vs e=>bP (bD (Dn P) f vs hs) fun v hs=>k v e hs
 | .kill is=>k (.tup []) (is.foldl del e) hs
 | .idxb x c=>aZ e x fun x e=>aZ e c fun c e=>bA (Tk hs.heap x c) fun v=>k v e hs
 | op=>bP (bw op (Dn P) ⟨e,hs⟩) fun v st=>k v st.env st.hs
def fq:List Rd→Bool
 | []=>true
 | x::r=>aH x && fq r
def vG:Option Rd→Bool
 | none=>true
 | some x=>aH x
def bK:jN→Bool
 | .mov x=>aH x
 | .ld _ 0 p=>aH p
 | .nilck x=>aH x
 | .bin _ x y=>aH x && aH y
 | .binb _ x y=>aH x && aH y
 | .un _ x=>aH x
 | .conv _ x=>aH x
 | .fa _ p=>aH p
 | .fld _ _ x=>aH x
 | .ia _ x i=>aH x && aH i
 | .iarr _ _ p i=>aH p && aH i
 | .ix _ _ _ x i=>aH x && aH i
 | .ixs x i=>aH x && aH i
 | .ext _ mv _=>!mv
 | .len x=>aH x
 | .call _ args=>fq args
 | .pick c a b=>aH c && aH a && aH b
 | .build _ ps=>fq (mw ps)
 | .toStr x=>aH x
 | .mkfn _ a c=>fq a && fq c
 | .mkslice _ l c=>aH l && aH c
 | .minmax _ xs=>fq xs
 | .slice _ x a b c=>aH x && (vG a && (vG b && vG c))
 | _=>false
def uj:jN→Bool
 | .calli _ args=>fq args
 | .callv f args=>aH f && fq args
 | _=>false
def Qn (P:Nat→Option aa) (i:VI) (e:aq) (hs:HS) (k:aq→HS→Option St):Option St :=
 match i.guard with
 | none=>match i.th with
  | []=>match i.dst with
   | some d=>aK P i.op e hs fun v e hs=>k (put e d (firm v)) hs
   | none=>aK P i.op e hs fun _ e hs=>k e hs
  | th=>match i.dst with
   | some d=>aK P i.op e hs fun v e hs=>lP (bS th v hs) fun v hs=>k (put e d (firm v)) hs
   | none=>aK P i.op e hs fun v e hs=>lP (bS th v hs) fun _ hs=>k e hs
 | some (s,w)=>match bK i.op,i.th,i.dst with
  | true,[],some d=>match get e s with
   | some g=>bA (gV g w (aK P i.op e hs fun v _ _=>some v)) fun v=>k (put e d (firm v)) hs
   | none=>none
  | _,_,_=>match uj i.op,i.th,i.dst with
   | true,[],some d=>match get e s with
    | some g=>bP (gH g w hs (aK P i.op e hs fun v _ hs=>some (v,hs))) fun v hs=>k (put e d (firm v)) hs
    | none=>none
   | _,_,_=>bA (bl (Dn P) i ⟨e,hs⟩) fun st=>k st.env st.hs
def cx (P:Nat→Option aa):List VI→aq→HS→Option St
 | [],e,hs=>some ⟨e,hs⟩
 | i::l,e,hs=>Qn P i e hs fun e hs=>cx P l e hs
theorem amU {op:BinOp}{a b v:AV}(h:bH op a b=some v):∃ x,v=.d x:=by
 unfold bH at h
 grind
theorem apC {op:UnOp}{a v:AV}(h:S7 op a=some v):∃ x,v=.d x:=by
 unfold S7 at h
 grind
theorem cu {β:Type}{e:aq}{x:Rd}{k:AV→aq→Option β}:aZ e x k=match rd e x with | some (v,e)=>k v e | none=>none:=rfl
theorem jI {β:Type}:∀ {l:List Rd}{e:aq}{k:List AV→aq→Option β},gx e l k=match rdAll e l with | some (vs,e)=>k vs e | none=>none
 | [],_,_=>rfl
 | x::r,e,k=>by
  simp only[gx,rdAll]
  cases rd e x with
  | none=>rfl
  | some p =>
   simp only;rw[jI]
   grind
theorem acO {β:Type}{e:aq}{x:Option Rd}{k:Option AV→aq→Option β}:je e x k=match rdOpt e x with | some (v,e)=>k v e | none=>none:=by
 cases x<;>grind [je,rdOpt]
theorem ajx {h h':af}{n:Option Nat}{p v:AV}(k:loadAt h n 0 p=some (v,h')):h'=h:=by
 unfold loadAt at k
 grind
def de {β:Type}(x:Option (AV×St)) (k:AV→aq→HS→Option β):Option β :=
 match x with
 | some (v,st)=>k v st.env st.hs
 | none=>none
theorem mX {e e1:aq}{x:Rd}{v:AV}(hs:aH x=true) (h:rd e x=some (v,e1)):e1=e:=by
 cases x<;>grind [rd,aH]
theorem Gi {a b:Rd}{st:St}:gM (.c (.d (.bool true))) a b st=match rd st.env a with | some (v,e)=>some (v,⟨e,st.hs⟩) | none=>none:=rfl
theorem Fx {a b:Rd}{st:St}:gM (.c (.d (.bool false))) a b st=match rd st.env b with | some (v,e)=>some (v,⟨e,st.hs⟩) | none=>none:=rfl
theorem AN {β:Type}{op:jN}{e:aq}{hs:HS}{k:AV→aq→HS→Option β}:aK P op e hs k=de (bw op (Dn P) ⟨e,hs⟩) k:=by
 cases op with
 | mov x=>grind [aK,bw,KM,cu,de]
 | pick c a b =>
  simp only[aK,bw,cu]
  cases hc:rd e c with
  | none=>grind [gM,de]
  | some q =>
   obtain⟨v,e1⟩:=q;have h0:gM c a b ⟨e,hs⟩=gM (.c v) a b ⟨e1,hs⟩:=by
    unfold gM;simp only;rw[hc];rfl
   rw[h0];simp only;split
   ·rename_i va _ vb _ hst hra hrb;simp only[Bool.and_eq_true]at hst;have ea:=mX hst.1 hra;have eb:=mX hst.2 hrb;subst ea;subst eb;simp only[de]
    cases v with
    | d x=>cases x with
     | bool t =>
      cases t
      all_goals grind [Fx,J3,bA,Gi]
     | _=>rfl
    | _=>rfl
   ·simp only[bP,de]
    grind
 | ld n t p =>
  cases t with
  | zero =>
   simp only[aK,bw,xz,cu,de]
   cases rd e p with
   | none=>rfl
   | some q =>
    obtain⟨v,e1⟩:=q;simp only[cP,bA]
    cases hl:loadAt hs.heap n 0 v with
    | none=>rfl
    | some r=>obtain⟨v2,h2⟩:=r;simp only[ajx hl]
  | succ t =>
   grind [aK,bw,xz,cu,de,bP]
 | alloc zs=>rfl
 | box x =>
  grind [aK,bw,Kw,cu,de,bN,lA,AP]
 | build zs ps =>
  grind [aK,bw,wy,jI,de,bA]
 | mks m ps =>
  grind [aK,bw,Gd,jI,de,bA]
 | mksv m ps =>
  grind [aK,bw,QN,jI,de,bN,lA,AP,Ke]
 | st n p x =>
  simp only[aK,bw,aen,cu,de]
  grind [bA]
 | nilck x =>
  grind [aK,bw,AB,cu,de,bA,yp]
 | bin op x y =>
  simp only[aK,bw,Fl,Ki,cu,de]
  grind [bA,da,amU]
 | binb neg x y =>
  simp only[aK,bw,Ei,cu,de]
  grind [bA,WO]
 | bina neg ks x y =>
  simp only[aK,bw,EY,cu,de]
  cases rd e x<;>grind [bA,PH]
 | un op x =>
  grind [aK,bw,Uc,cu,de,bA,unD,apC]
 | conv j x =>
  simp only[aK,bw,Cs,cu,de]
  cases rd e x with
  | none=>rfl
  | some q =>
   obtain⟨v,e1⟩:=q;simp only[bA,Wy]
   grind
 | toStr x =>
  simp only[aK,bw,Ee,cu,de]
  grind [bA,EX]
 | mkfn f a c =>
  grind [aK,bw,Cj,jI,de]
 | mkslice z l c =>
  simp only[aK,bw,iF,cu,de]
  cases rd e l<;>grind [bA,ya]
 | slice m x lo hi mx =>
  simp only[aK,bw,Fd,cu,acO,de]
  cases rd e x<;>grind [bA,gX]
 | slarr n x lo hi mx =>
  simp only[aK,bw,Kb,cu,acO,de]
  cases rd e x with
  | none=>rfl
  | some q =>
   obtain⟨v,e1⟩:=q;simp only
   cases v<;>grind [bA,I1]
 | fa off p =>
  grind [aK,bw,Sp,cu,de,bA]
 | fld off n x =>
  simp only[aK,bw,GU,cu,de]
  cases rd e x with
  | none=>rfl
  | some q =>
   obtain⟨v,e1⟩:=q;simp only[bA,aqZ]
   grind
 | ia n x i =>
  simp only[aK,bw,Yx,cu,de]
  cases rd e x with
  | none=>rfl
  | some q =>
   obtain⟨v,e1⟩:=q;simp only
   cases rd e1 i with
   | none=>rfl
   | some q =>
    obtain⟨w,e2⟩:=q;simp only[bA,Rc]
    cases lR w with
    | none=>rfl
    | some j =>
     simp only
     cases v<;>grind
 | iarr l n p i =>
  simp only[aK,bw,EO,cu,de]
  cases rd e p<;>grind [bA,Dh]
 | ix l n a x i =>
  simp only[aK,bw,Nm,cu,de]
  cases rd e x with
  | none=>rfl
  | some q =>
   obtain⟨v,e1⟩:=q;simp only
   cases hi:rd e1 i with
   | none=>grind
   | some q =>
    obtain⟨w,e2⟩:=q;simp only[bA,ixV]
    grind
 | ixs x i =>
  simp only[aK,bw,Fy,cu,de]
  cases rd e x with
  | none=>rfl
  | some q =>
   obtain⟨v,e1⟩:=q;simp only
   cases hi:rd e1 i with
   | none=>grind
   | some q =>
    obtain⟨w,e2⟩:=q;simp only[bA,ap1]
    grind
 | ext j mv i =>
  cases mv with
  | true =>
   simp only[aK,bw,uF,de]
   cases get e j with
   | none=>rfl
   | some t =>
    simp only[bA,wR,Nu]
    grind
  | false =>
   simp only[aK,bw,uF,de]
   cases get e j with
   | none=>rfl
   | some t =>
    simp only[bA,wR]
    grind
 | len x =>
  grind [aK,bw,J7,cu,de,bA]
 | cap x =>
  simp only[aK,bw,G5,cu,de]
  cases rd e x with
  | none=>rfl
  | some q =>
   obtain⟨v,e1⟩:=q;simp only[bN,arh]
   grind
 | app m x y =>
  simp only[aK,bw,Ag,cu,de]
  cases rd e x<;>grind [bP,SF]
 | appz z x n =>
  simp only[aK,bw,W8,cu,de]
  grind [bP,alx]
 | cpy m x y =>
  simp only[aK,bw,QS,cu,de]
  cases rd e x with
  | none=>rfl
  | some q =>
   obtain⟨v,e1⟩:=q;simp only
   cases rd e1 y with
   | none=>rfl
   | some q =>
    obtain⟨w,e2⟩:=q;simp only[bP,X4]
    cases elems hs.heap w with
    | none=>rfl
    | some ys =>
     simp only
     cases v with
     | sl id off len =>
      grind
     | _ =>
      simp only;generalize lenOf _=n
      cases n with
      | none=>rfl
      | some n=>cases n<;>rfl
 | clr z x =>
  simp only[aK,bw,Kn,cu,de]
  cases rd e x with
  | none=>rfl
  | some q =>
   simp only[bA,aq3]
   grind
 | minmax b xs =>
  simp only[aK,bw,tD,jI,de]
  cases rdAll e xs with
  | none=>rfl
  | some q =>
   simp only[bA,EQ]
   grind
 | call f args =>
  grind [aK,bw,yj,jI,de,bA]
 | calli f args =>
  grind [aK,bw,wP,jI,de,bP]
 | callv f args =>
  simp only[aK,bw,w9,cu,jI,de]
  grind [bP]
 | kill is=>rfl
 | idxb x c =>
  simp only[aK,bw,XL,cu,de]
  grind [bA]
 | _ =>
  simp only[aK,bP,de]
  grind
theorem HD:∀ {l:List Rd}{e e1:aq}{vs:List AV},fq l=true→rdAll e l=some (vs,e1)→e1=e
 | [],e,e1,vs,_,h=>by grind [rdAll]
 | x::r,e,e1,vs,hs,h=>by
  simp only[fq,Bool.and_eq_true]at hs;simp only[rdAll]at h;split at h
  ·simp at h
  ·rename_i v e2 h1;split at h
   ·simp at h
   ·rename_i vs2 e3 h2;have a1:=mX hs.1 h1;have a2:=HD hs.2 h2
    simp_all
theorem gm {β:Type}{e:aq}{x:Rd}{k:AV→aq→Option β}(h:aH x=true):aZ e x k=aZ e x fun v _=>k v e:=by
 grind [aZ,mX]
theorem qr {β:Type}{e:aq}{l:List Rd}{k:List AV→aq→Option β}(h:fq l=true):gx e l k=gx e l fun v _=>k v e:=by
 grind [jI,HD]
theorem GN {β:Type}{e:aq}{x:Option Rd}{k:Option AV→aq→Option β}(h:vG x=true):je e x k=je e x fun v _=>k v e:=by
 cases x with
 | none=>rfl
 | some x=>exact gm (k:=fun v e=>k (some v) e) h
theorem il {α β γ:Type}{x:Option α}{f:α→Option β}{g:β→Option γ}:bA (bA x f) g=bA x fun v=>bA (f v) g:=by
 cases x<;>rfl
theorem c9 {β γ:Type}{e:aq}{x:Rd}{k:AV→aq→Option β}{g:β→Option γ}:bA (aZ e x k) g=aZ e x fun v e=>bA (k v e) g:=by
 simp only[aZ];cases rd e x<;>rfl
theorem CB {β γ:Type}{e:aq}{x:List Rd}{k:List AV→aq→Option β}{g:β→Option γ}:bA (gx e x k) g=gx e x fun v e=>bA (k v e) g:=by
 simp only[jI];cases rdAll e x<;>rfl
theorem cT {α β:Type}{v:α}{f:α→Option β}:bA (some v) f=f v:=rfl
theorem Iu {β:Type}{e:aq}{x y:Rd}{k:AV→AV→aq→Option β}(h:aH x=true) (h2:aH y=true):(aZ e x fun a e=>aZ e y fun b e=>k a b e)=aZ e x fun a _=>aZ e y fun b _=>k a b e:=by
 grind [aZ,mX]
theorem FA {β:Type}{e:aq}{x y:Rd}{k:AV→AV→Option β}(h:aH x=true) (h2:aH y=true):(aZ e x fun a e=>aZ e y fun b _=>k a b)=aZ e x fun a _=>aZ e y fun b _=>k a b:=Iu (k:=fun a b _=>k a b) h h2
theorem af4 {β:Type}{op:jN}{e:aq}{hs:HS}{k:AV→aq→HS→Option β}(h:bK op=true):aK P op e hs k=bA (aK P op e hs fun v _ _=>some v) fun v=>k v e hs:=by
 cases op with
 | mov x =>
  grind [bK,aK,c9,cT,gm]
 | ld n t p =>
  cases t<;>simp_all [bK,aK,c9,il,cT,gm]
 | nilck x =>
  grind [bK,aK,c9,il,cT,gm]
 | un op x =>
  grind [bK,aK,c9,il,cT,gm]
 | conv op x =>
  grind [bK,aK,c9,il,cT,gm]
 | fa off p =>
  grind [bK,aK,c9,il,cT,gm]
 | fld off n p =>
  grind [bK,aK,c9,il,cT,gm]
 | len x =>
  grind [bK,aK,c9,il,cT,gm]
 | bin op x y =>
  simp only[bK,Bool.and_eq_true]at h;simp only[aK,c9,il,cT];exact(Iu h.1 h.2).trans (FA h.1 h.2).symm
 | binb op x y =>
  simp only[bK,Bool.and_eq_true]at h;simp only[aK,c9,il,cT];exact(Iu h.1 h.2).trans (FA h.1 h.2).symm
 | ia n x y =>
  simp only[bK,Bool.and_eq_true]at h;simp only[aK,c9,il,cT];exact(Iu h.1 h.2).trans (FA h.1 h.2).symm
 | iarr l n x y =>
  simp only[bK,Bool.and_eq_true]at h;simp only[aK,c9,il,cT];exact(Iu h.1 h.2).trans (FA h.1 h.2).symm
 | ix l n a x y =>
  simp only[bK,Bool.and_eq_true]at h;simp only[aK,c9,il,cT];exact(Iu h.1 h.2).trans (FA h.1 h.2).symm
 | ixs x y =>
  simp only[bK,Bool.and_eq_true]at h;simp only[aK,c9,il,cT];exact(Iu h.1 h.2).trans (FA h.1 h.2).symm
 | ext j mv i =>
  cases mv with
  | true=>simp[bK]at h
  | false =>
   simp only[aK]
   cases get e j with
   | none=>rfl
   | some t=>grind [il,cT]
 | call f args =>
  grind [bK,aK,CB,il,cT,qr]
 | build zs ps =>
  grind [bK,aK,CB,il,cT,qr]
 | slice m x lo hi mx =>
  simp only[bK,Bool.and_eq_true]at h;obtain⟨h0,h1,h2,h3⟩:=h;have bd:∀ {γ:Type}{x:Option Rd}{e:aq}{k:Option AV→aq→Option AV}{g:AV→Option γ},bA (je e x k) g=je e x fun v e=>bA (k v e) g:=by
   intro γ x e k g
   cases x with
   | none=>rfl
   | some x=>exact c9
  simp only[aK,c9,bd,il,cT];rw[gm h0,gm (k:=fun v e_1=>je e_1 lo fun v_1 e_1=>je e_1 hi fun v_2 e_1=>je e_1 mx fun v_3 _=>bA (gX hs.heap m v v_1 v_2 v_3) fun v=>k v e hs) h0]
  congr 1
  funext v _;rw[GN h1,GN (k:=fun v_1 e_1=>je e_1 hi fun v_2 e_1=>je e_1 mx fun v_3 _=>bA (gX hs.heap m v v_1 v_2 v_3) fun v=>k v e hs) h1]
  grind [GN]
 | minmax b ps =>
  grind [bK,aK,CB,il,cT,qr]
 | toStr x =>
  grind [bK,aK,c9,il,cT,gm]
 | mkslice z x y =>
  simp only[bK,Bool.and_eq_true]at h;simp only[aK,c9,il,cT];exact(Iu h.1 h.2).trans (FA h.1 h.2).symm
 | mkfn f a c =>
  simp_all [bK,aK,CB,cT,qr]
 | pick c a b =>
  simp only[bK,Bool.and_eq_true]at h;simp only[aK,c9];have h2:(aH a && aH b)=true:=by simp_all
  simp only[aZ]
  cases hc:rd e c with
  | none=>rfl
  | some q =>
   obtain⟨v,e1⟩:=q;have:=mX h.1.1 hc;subst this;simp only[h2]
   cases ha:rd e1 a with
   | none =>
    cases hb:rd e1 b with
    | none =>
     cases v<;>try rfl
     rename_i d;cases d<;>try rfl
     rename_i t;cases t<;>simp only[Gi,Fx,ha,hb,bP,bA]
    | some q =>
     have:=mX h.2 hb;subst this
     cases v<;>try rfl
     rename_i d;cases d<;>try rfl
     rename_i t;cases t<;>simp only[Gi,Fx,ha,hb,bP,bA]
   | some q =>
    obtain⟨va,ea⟩:=q;have:=mX h.1.2 ha;subst this
    cases hb:rd ea b with
    | none =>
     cases v<;>try rfl
     rename_i d;cases d<;>try rfl
     rename_i t;cases t<;>simp only[Gi,Fx,ha,hb,bP,bA]
    | some q=>grind [il,cT]
 | _=>simp[bK]at h
theorem amd {α β γ δ ε:Type}{x:Option (α×β)}{f:α→β→Option (γ×δ)}{g:γ→δ→Option ε}:bP (bP x f) g=bP x fun v w=>bP (f v w) g:=by
 cases x<;>rfl
theorem aeP {β:Type}{op:jN}{e:aq}{hs:HS}{k:AV→aq→HS→Option β}(h:uj op=true):aK P op e hs k=bP (aK P op e hs fun v _ hs=>some (v,hs)) fun v hs=>k v e hs:=by
 cases op with
 | calli f args =>
  simp only[aK];rw[qr h];simp only[jI]
  cases rdAll e args with
  | none=>rfl
  | some q=>simp only[amd];rfl
 | callv f args =>
  simp only[uj,Bool.and_eq_true]at h;simp only[aK];simp only[qr h.2];simp only[aZ]
  cases hf:rd e f with
  | none=>rfl
  | some q =>
   obtain⟨v,e1⟩:=q;have:=mX h.1 hf;subst this;simp only[jI]
   cases rdAll e1 args with
   | none=>rfl
   | some q=>simp only[amd];rfl
 | _=>simp[uj]at h
theorem Ux:firm (.tup [])=.tup []:=rfl
theorem Et {i:VI}{e:aq}{hs:HS}{k:aq→HS→Option St}:Qn P i e hs k=bA (bl (Dn P) i ⟨e,hs⟩) fun st=>k st.env st.hs:=by
 obtain⟨dst,guard,op,th⟩:=i;unfold Qn
 cases guard with
 | none =>
  simp only[bl,df]
  cases th with
  | nil =>
   cases dst with
   | none =>
    simp only[AN,de,bf]
    cases bw op (Dn P) ⟨e,hs⟩<;>rfl
   | some d =>
    simp only[AN,de,bf]
    cases bw op (Dn P) ⟨e,hs⟩<;>rfl
  | cons p r =>
   cases dst with
   | none =>
    simp only[AN,de,bf,lP]
    cases bw op (Dn P) ⟨e,hs⟩<;>rfl
   | some d =>
    simp only[AN,de,bf,lP]
    cases bw op (Dn P) ⟨e,hs⟩<;>rfl
 | some g =>
  obtain⟨s,w⟩:=g;simp only;split
  ·rename_i d hst;have he:∀ {k:AV→aq→HS→Option St},de (bw op (Dn P) ⟨e,hs⟩) k=bA (aK P op e hs fun v _ _=>some v) fun v=>k v e hs:=by
    intro k;rw[←AN,af4 hst]
   have hv:∀ {k:aq→HS→Option St},bA (df (Dn P) ⟨some d,some (s,w),op,[]⟩ ⟨e,hs⟩) (fun st=>k st.env st.hs)=bA (aK P op e hs fun v _ _=>some v) fun v=>k (put e d (firm v)) hs:=by
    intro k;rw[←he (k:=fun v e hs=>k (put e d (firm v)) hs)];simp only[df,de,bf]
    cases bw op (Dn P) ⟨e,hs⟩<;>rfl
   simp only[bl]
   cases get e s with
   | none=>rfl
   | some g =>
    cases g with
    | d x=>cases x with
     | bool b =>
      simp only[gV]
      cases hb:(b == w)<;>simp_all [bA,Ux,bf]
     | _=>rfl
    | tup vs=>cases vs<;>rfl
    | _=>rfl
  ·split
   ·rename_i d hst _;have he:∀ {k:AV→aq→HS→Option St},de (bw op (Dn P) ⟨e,hs⟩) k=bP (aK P op e hs fun v _ hs=>some (v,hs)) fun v hs=>k v e hs:=by
     intro k;rw[←AN,aeP hst]
    have hv:∀ {k:aq→HS→Option St},bA (df (Dn P) ⟨some d,some (s,w),op,[]⟩ ⟨e,hs⟩) (fun st=>k st.env st.hs)=bP (aK P op e hs fun v _ hs=>some (v,hs)) fun v hs=>k (put e d (firm v)) hs:=by
     intro k;rw[←he (k:=fun v e hs=>k (put e d (firm v)) hs)];simp only[df,de,bf]
     cases bw op (Dn P) ⟨e,hs⟩<;>rfl
    simp only[bl]
    cases get e s with
    | none=>rfl
    | some g =>
     cases g with
     | d x=>cases x with
      | bool b =>
       simp only[gH]
       cases hb:(b == w)<;>simp_all [bA,bP,Ux,bf]
      | _=>rfl
     | tup vs=>cases vs<;>rfl
     | _=>rfl
   ·rfl
theorem Tq:∀ {l:List VI}{e:aq}{hs:HS},gz (Dn P) l ⟨e,hs⟩=cx P l e hs
 | [],_,_=>rfl
 | i::l,e,hs=>by
  simp only[gz,cx,Et,bA]
  cases bl (Dn P) i ⟨e,hs⟩ with
  | none=>rfl
  | some st=>exact Tq
theorem yx {d:Bool}{ops:List VI}{e:aq}{hs:HS}{x:Option St}(h:cx P ops e hs=x):(Dn P).code (.reg d ops) ⟨e,hs⟩=bu x:=by
 grind [Nr,Tq]
theorem bC {perm gco:List Nat}{ops:List VI}{e:aq}{hs:HS}{x:Option St}(ha:og e ops=true) (hb:(perm.all fun i=>decide (i<ops.length))=true) (h:cx P (perm.filterMap fun i=>ops[i]?) e hs=x):(Dn P).code (.regP perm gco [] ops) ⟨e,hs⟩=bu x:=by
 grind [aih,U8,Tq]
def apc (e:aq) (d:Option Nat):Bool :=
 match d with
 | some d=>match get e d with
  | some a=>Dy a
  | none=>false
 | none=>false
def aj5 (P:Nat→Option aa) (F:List Nat) (v:VI) (e:aq) (hs:HS) (k:aq→HS→Option St):Option St :=
 match nB v.op with
 | .call=>Qn P v e hs fun e2 s2=>bN (bL F hs.heap s2.heap) (k e2 s2)
 | .take=>Qn P v e hs fun e2 s2=>bN (apc e2 v.dst) (k e2 s2)
 | .read=>Qn P v e ⟨bU (jL v e) hs.heap,hs.next⟩ fun e2 _=>k e2 hs
def Pq (P:Nat→Option aa):List (Bool×VI)→List Nat→aq→HS→Option St
 | [],_,e,hs=>some ⟨e,hs⟩
 | (a,v)::l,F,e,hs=>match a with
  | false=>Qn P v e hs fun e2 s2=>Pq P l F e2 s2
  | true=>aj5 P F v e hs fun e2 s2=>Pq P l (fM true v e F) e2 s2
theorem anz {F:List Nat}{v:VI}{e:aq}{hs:HS}{k:aq→HS→Option St}:aj5 P F v e hs k=bA (pK (Dn P) F v ⟨e,hs⟩) fun st=>k st.env st.hs:=by
 unfold aj5 pK
 cases nB v.op with
 | call =>
  simp only[Et]
  cases bl (Dn P) v ⟨e,hs⟩ with
  | none=>rfl
  | some st =>
   simp only[bA]
   cases bL F hs.heap st.hs.heap<;>rfl
 | take =>
  simp only[Et]
  cases bl (Dn P) v ⟨e,hs⟩ with
  | none=>rfl
  | some st =>
   simp only[bA,apc]
   cases v.dst with
   | none=>rfl
   | some d =>
    simp only
    cases get st.env d with
    | none=>rfl
    | some a=>simp only;cases Dy a<;>rfl
 | read =>
  simp only[Et]
  cases bl (Dn P) v ⟨e,⟨bU (jL v e) hs.heap,hs.next⟩⟩<;>rfl
def WC (nr:List Nat) (ops:List VI) (i:Nat):Option (Bool×VI) :=
 match ops[i]? with
 | some v=>some (ca i nr,v)
 | none=>none
theorem NG {nr:List Nat}{ops:List VI}:∀ {l:List Nat}{F:List Nat}{e:aq}{hs:HS},(l.all fun i=>decide (i<ops.length))=true→cX (Dn P) nr ops l F ⟨e,hs⟩=Pq P (l.filterMap (WC nr ops)) F e hs
 | [],_,_,_,_=>rfl
 | i::l,F,e,hs,hb=>by
  simp only[List.all_cons,Bool.and_eq_true,decide_eq_true_eq]at hb;have h1:ops[i]?=some ops[i]:=List.getElem?_eq_getElem hb.1;have h2:WC nr ops i=some (ca i nr,ops[i]):=by grind [WC]
  simp only[cX,h1,List.filterMap_cons,h2,Pq,aQ]
  cases ca i nr with
  | false =>
   simp only[Et,fM]
   cases bl (Dn P) ops[i] ⟨e,hs⟩ with
   | none=>rfl
   | some st=>exact NG hb.2
  | true =>
   simp only[anz]
   cases pK (Dn P) F ops[i] ⟨e,hs⟩ with
   | none=>rfl
   | some st=>exact NG hb.2
theorem bQ {perm gco nr:List Nat}{ops:List VI}{e:aq}{hs:HS}{x:Option St}(ha:og e ops=true) (hb:(perm.all fun i=>decide (i<ops.length))=true) (h:Pq P (perm.filterMap (WC nr ops)) [] e hs=x):(Dn P).code (.regP perm gco nr ops) ⟨e,hs⟩=bu x:=by
 rw[eD,←h,←NG hb];simp only[br,EV,E3,ha]
 cases cX (Dn P) nr ops perm [] ⟨e,hs⟩<;>rfl
abbrev F (i:Nat):VC:=.reg false [⟨none,none,.free i,[]⟩]
def frK (e:aq) (hs:HS) (i:Nat):Option AV→Option (aY×St)
 | some (.ptr id _)=>some (.normal,⟨del e i,⟨del hs.heap id,hs.next⟩⟩)
 | some (.fn _ _ caps)=>some (.normal,⟨del e i,⟨delAll hs.heap (Cr caps),hs.next⟩⟩)
 | _=>some (.normal,⟨e,hs⟩)
theorem atz {e:aq}{h:af}{n i id o:Nat}:frK e ⟨h,n⟩ i (some (.ptr id o))=some (.normal,⟨del e i,⟨del h id,n⟩⟩):=rfl
theorem as3 {e:aq}{h:af}{n i f:Nat}{a c:List AV}:frK e ⟨h,n⟩ i (some (.fn f a c))=some (.normal,⟨del e i,⟨delAll h (Cr c),n⟩⟩):=rfl
theorem apb {i:Nat}{e:aq}{hs:HS}:(Dn P).code (F i) ⟨e,hs⟩=frK e hs i (get e i):=by
 rw[Nr];simp only[gz,bl,df,bw,OX]
 cases get e i with
 | none=>rfl
 | some v=>cases v<;>rfl
abbrev K (l:List Nat):VC:=.reg false [⟨none,none,.kill l,[]⟩]
theorem arl {is:List Nat}{e:aq}{hs:HS}:(Dn P).code (K is) ⟨e,hs⟩=some (.normal,⟨is.foldl del e,hs⟩):=by rw[Nr];rfl
variable {P:Nat→Option aa}
attribute [simp ↓] ark aq9 apO aqs apX ap6 aoX aqp apn ao7 apw aqm apI apr apl apE ao2 apy Uh anT amG an7 ams am0
attribute [simp ↓] ahW ag4 ai8 aey ahD aj1 aez arl apb atz as3 aoj an0 ahp
attribute [simp] delAll Cr
attribute [simp] avH ap7 auQ put1 awc aqN
attribute [congr] ite_congr amj anl ajV am5 aob akR
def Gg (x:Option (List AV×St)):Option (AV×HS) :=
 match x with
 | some ([v],st)=>some (v,st.hs)
 | some (vs,st)=>some (.tup vs,st.hs)
 | none=>none
theorem apK {fn:aa}{st:St}:zw fn st=Gg (cV st fn.results):=(by
 simp only[zw,Gg]
 cases cV st fn.results with
 | none=>rfl
 | some q =>
  obtain⟨vs,s⟩:=q
  cases vs with
  | nil=>rfl
  | cons v r=>cases r<;>rfl)
@[simp] theorem ayn {st:St}:Gg (some ([],st))=some (.tup [],st.hs):=(rfl)
@[simp] theorem ayg {v:AV}{st:St}:Gg (some ([v],st))=some (v,st.hs):=(rfl)
@[simp] theorem axy {v w:AV}{r:List AV}{st:St}:Gg (some (v::w::r,st))=some (.tup (v::w::r),st.hs):=(rfl)
def pO (rs:List mr) (x:Option (aY×St)):Option (AV×HS) :=
 match x with
 | some (.normal,st)=>Gg (cV st rs)
 | some (.ret,st)=>Gg (cV st rs)
 | _=>none
@[simp ↓] theorem axI {rs:List mr}{st:St}:pO rs (some (.normal,st))=Gg (cV st rs):=(rfl)
@[simp ↓] theorem axw {rs:List mr}{st:St}:pO rs (some (.ret,st))=Gg (cV st rs):=(rfl)
@[simp ↓] theorem ayj {rs:List mr}{c:Prop}[Decidable c] {x y:Option (aY×St)}:pO rs (if c then x else y)=if c then pO rs x else pO rs y:=by split<;>rfl
@[simp ↓] theorem ab8 {n:Nat}{rs:List mr}{b:VC}{x:Option (aY×St)}:NC ⟨n,rs,b⟩ x=pO rs x:=by
 simp only[NC,pO];split<;>simp only[apK]
theorem anj {rs:List mr}{x y:Option (aY×St)}(h:x=y):pO rs x=pO rs y:=by rw[h]
attribute [congr] anj
theorem ac {a b:VC}{st:St}(h:a=b):(Dn P).code (.loop a) st=lJ P a ((Dn P).code b st):=by rw[←h];exact ah6
theorem ao {f:FuncId}{fn:aa}{n:Nat}{rs:List mr}{b:VC}{args:List AV}(hf:P f=some fn) (hd:fn=⟨n,rs,b⟩) (hl:args.length=n):aS P f args=nC (pO rs ((Dn P).code b ⟨fT 0 args,⟨[],0⟩⟩)):=by
 subst hd;rw[akz hf hl,ab8]
theorem aN {f:FuncId}{fn:aa}{n:Nat}{rs:List mr}{b:VC}{args:List AV}{hs:HS}(hf:P f=some fn) (hd:fn=⟨n,rs,b⟩) (hl:args.length=n):(Dn P).call f args hs=pO rs ((Dn P).code b ⟨fT 0 args,hs⟩):=by
 subst hd;rw[Ve hf hl,ab8]
@[simp ↓] theorem azo {α β:Type}{v:α}{f:α→Option β}:bA (some v) f=f v:=(rfl)
@[simp ↓] theorem azp {α β:Type}{f:α→Option β}:bA none f=none:=(rfl)
@[simp ↓] theorem azf {α β:Type}{c:Prop}[Decidable c] {x y:Option α}{f:α→Option β}:bA (if c then x else y) f=if c then bA x f else bA y f:=by split<;>rfl
@[simp ↓] theorem azq {α γ β:Type}{v:α}{w:γ}{f:α→γ→Option β}:bP (some (v,w)) f=f v w:=(rfl)
@[simp ↓] theorem aze {α γ β:Type}{f:α→γ→Option β}:bP none f=none:=(rfl)
@[simp ↓] theorem azi {α γ β:Type}{c:Prop}[Decidable c] {x y:Option (α×γ)}{f:α→γ→Option β}:bP (if c then x else y) f=if c then bP x f else bP y f:=by split<;>rfl
@[simp ↓] theorem azc {α β:Type}{x:α}{f:α→β}:lA x f=f x:=(rfl)
@[simp ↓] theorem azm {α γ β:Type}{x:α}{y:γ}{f:α→γ→β}:lP (x,y) f=f x y:=(rfl)
@[simp ↓] theorem ayE {β:Type}{x:Option β}:bN true x=x:=(rfl)
@[simp ↓] theorem ayX {β:Type}{x:Option β}:bN false x=none:=(rfl)
theorem asR {α β:Type}{x y:Option α}{f:α→Option β}(h:x=y):bA x f=bA y f:=by rw[h]
theorem ati {α γ β:Type}{x y:Option (α×γ)}{f:α→γ→Option β}(h:x=y):bP x f=bP y f:=by rw[h]
theorem asX {α β:Type}{x y:α}{f:α→β}(h:x=y):lA x f=lA y f:=by rw[h]
theorem asA {α γ β:Type}{x y:α×γ}{f:α→γ→β}(h:x=y):lP x f=lP y f:=by rw[h]
attribute [congr] asR ati asX asA
@[simp ↓] theorem ayR {x:Option AV}:gV (.d (.bool true)) true x=x:=(rfl)
@[simp ↓] theorem ayC {x:Option AV}:gV (.d (.bool false)) false x=x:=(rfl)
@[simp ↓] theorem ayP {x:Option AV}:gV (.d (.bool true)) false x=some (.tup []):=(rfl)
@[simp ↓] theorem ayT {x:Option AV}:gV (.d (.bool false)) true x=some (.tup []):=(rfl)
@[simp ↓] theorem azk {w:Bool}{x:Option AV}:gV (.tup []) w x=some (.tup []):=(rfl)
@[simp ↓] theorem ayO {hs:HS}{x:Option (AV×HS)}:gH (.d (.bool true)) true hs x=x:=(rfl)
@[simp ↓] theorem aza {hs:HS}{x:Option (AV×HS)}:gH (.d (.bool false)) true hs x=some (.tup [],hs):=(rfl)
@[simp ↓] theorem awY {a b:AV}:J3 (.d (.bool true)) a b=some a:=(rfl)
@[simp ↓] theorem awx {a b:AV}:J3 (.d (.bool false)) a b=some b:=(rfl)
@[simp] theorem ayb {x:D}:firm (.d x)=.d x:=(rfl)
@[simp] theorem aw3:firm .nl=.nl:=(rfl)
@[simp] theorem avK {p:Bool}{m:Nat}{xs:List (List D)}:firm (.own p m xs)=.own false m xs:=(rfl)
@[simp] theorem auY {cs:List AV}:firm (.agg cs)=.agg (cs.map kU):=(rfl)
@[simp] theorem avV {cs:List AV}:firm (.tup cs)=.tup (cs.map oS):=(rfl)
@[simp] theorem avq {a b:Nat}:firm (.ptr a b)=.ptr a b:=(rfl)
@[simp] theorem avs {a b c:Nat}:firm (.pel a b c)=.pel a b c:=(rfl)
@[simp] theorem av8 {a:List D}{b:Nat}:firm (.pim a b)=.pim a b:=(rfl)
@[simp] theorem awI {a b c:Nat}:firm (.sl a b c)=.sl a b c:=(rfl)
@[simp] theorem axl {f:FuncId}{a b:List AV}:firm (.fn f a b)=.fn f a b:=(rfl)
@[simp] theorem asv {n:Nat}:firm (.yield n)=.yield n:=(rfl)
theorem ou {op:BinOp}{a b:AV}{x:D}(h:bH op a b=some (.d x)):da op a b=some x:=by simp only[da,h]
theorem xb {op:BinOp}{a b:AV}{c:Prop}[Decidable c] {x y:D}(h:bH op a b=if c then some (.d x) else some (.d y)):da op a b=if c then some x else some y:=by
 by_cases hc:c<;>simp[da,h,hc]
@[simp] theorem ax4 {k:IntKind}{a b:Int}:da .add (.d (.int k a)) (.d (.int k b))=some (.int k (wr k (a+b))):=ou amO
@[simp] theorem aya {k:IntKind}{a b:Int}:da .sub (.d (.int k a)) (.d (.int k b))=some (.int k (wr k (a-b))):=ou anI
@[simp] theorem ayy {k:IntKind}{a b:Int}:da .mul (.d (.int k a)) (.d (.int k b))=some (.int k (wr k (a*b))):=ou anK
@[simp] theorem axR {k:IntKind}{a b:Int}(h:b≠0):da .quo (.d (.int k a)) (.d (.int k b))=some (.int k (wr k (a.tdiv b))):=ou (an8 h)
@[simp] theorem axU {k:IntKind}{a b:Int}(h:b≠0):da .rem (.d (.int k a)) (.d (.int k b))=some (.int k (a.tmod b)):=ou (aoB h)
@[simp] theorem axG {k:IntKind}{a b:Int}:da .eql (.d (.int k a)) (.d (.int k b))=if a=b then some (.bool true) else some (.bool false):=xb am4
@[simp] theorem axp {k:IntKind}{a b:Int}:da .neq (.d (.int k a)) (.d (.int k b))=if a=b then some (.bool false) else some (.bool true):=xb aoa
@[simp] theorem ax6 {k:IntKind}{a b:Int}:da .lss (.d (.int k a)) (.d (.int k b))=if a<b then some (.bool true) else some (.bool false):=xb anU
@[simp] theorem axK {k:IntKind}{a b:Int}:da .leq (.d (.int k a)) (.d (.int k b))=if a≤b then some (.bool true) else some (.bool false):=xb amp
@[simp] theorem ayx {k:IntKind}{a b:Int}:da .gtr (.d (.int k a)) (.d (.int k b))=if b<a then some (.bool true) else some (.bool false):=xb aor
@[simp] theorem ayq {k:IntKind}{a b:Int}:da .geq (.d (.int k a)) (.d (.int k b))=if b≤a then some (.bool true) else some (.bool false):=xb an3
@[simp] theorem Bo {k j:IntKind}{a b:Int}(h:0≤b):da .shl (.d (.int k a)) (.d (.int j b))=some (.int k (wr k (a*((2 ^ (min b.toNat k.bits):Nat):Int)))):=ou (an9 h)
@[simp] theorem En {k j:IntKind}{a b:Int}(h:0≤b):da .shr (.d (.int k a)) (.d (.int j b))=some (.int k (a.fdiv ((2 ^ (min b.toNat k.bits):Nat):Int))):=ou (an6 h)
@[simp] theorem awG {a b:List UInt8}:da .neq (.d (.str a)) (.d (.str b))=if a=b then some (.bool false) else some (.bool true):=xb ajW
theorem alg {k:IntKind}{a b:Nat}(h:a<jw k) (h2:b<jw k) (h3:a ||| b<jw k):da .or (.d (.int k (a:Int))) (.d (.int k (b:Int)))=some (.int k ((a ||| b:Nat):Int)):=ou (apo h h2 h3)
theorem aqK {k:IntKind}{a b:Nat}(h:a<jw k) (h2:b<jw k):da .and (.d (.int k (a:Int))) (.d (.int k (b:Int)))=some (.int k ((a &&& b:Nat):Int)):=ou (anF h h2)
theorem aqM {k:IntKind}{a b:Nat}(h:a<jw k) (h2:b<jw k) (h3:a ^^^ b<jw k):da .xor (.d (.int k (a:Int))) (.d (.int k (b:Int)))=some (.int k ((a ^^^ b:Nat):Int)):=ou (amg h h2 h3)
theorem age {n b:Nat}(h:b≤1):2*n ||| b=2*n+b:=by
 have:=Nat.two_pow_add_eq_or_of_lt (i:=1) (b:=b) (by omega) n;simpa using this.symm
@[simp] theorem axN {a b:Int}(h:0≤a) (h1:a<4611686018427387904) (h2:a % 2=0) (h3:0≤b) (h4:b≤1):da .or (.d (.int .i64 a)) (.d (.int .i64 b))=some (.int .i64 (a+b)):=by
 obtain⟨n,rfl⟩:∃ n:Nat,a=((2*n:Nat):Int):=⟨(a / 2).toNat,by omega⟩
 obtain⟨m,rfl⟩:=Int.eq_ofNat_of_zero_le h3;have hm:m≤1:=by omega
 have ht:jw .i64=9223372036854775808:=rfl;rw[alg (by omega) (by omega) (by rw[age hm];omega),age hm];simp
@[simp] theorem axh {b:Bool}:unD .not (.d (.bool b))=some (.bool !b):=(rfl)
@[simp] theorem awZ {k:IntKind}{n:Int}:unD .neg (.d (.int k n))=some (.int k (wr k (0-n))):=(rfl)
@[simp] theorem aw1 {k j:IntKind}{n:Int}:Wy k (.d (.int j n))=some (.int k (wr k n)):=(rfl)
attribute [simp] Z9 as4 aq7 aq2 apu
attribute [simp] aky akh agu agC IntKind.bits
@[simp] theorem awE {h:af}{m:Nat}{xs:List (List D)}{k:IntKind}{i:Int}(h0:0≤i):Rc h m (.d (.lst xs)) (.d (.int k i))=bA xs[i.toNat]? fun x=>if x.length=m then some (.pim x 0) else none:=by
 simp only[Rc,KX h0,elems]
 cases xs[i.toNat]? with
 | none=>rfl
 | some x =>
  simp only[bA];by_cases hx:x.length=m
  ·simp[hx]
  ·simp[hx,S6]
@[simp] theorem axt {h:af}{m j:Nat}{xs:List (List D)}{k:IntKind}{i:Int}(h0:0≤i):Rc h m (.own false j xs) (.d (.int k i))=bA xs[i.toNat]? fun x=>if x.length=m then some (.pim x 0) else none:=by
 simp only[Rc,KX h0,elems]
 cases xs[i.toNat]? with
 | none=>rfl
 | some x =>
  simp only[bA];by_cases hx:x.length=m
  ·simp[hx]
  ·simp[hx,S6]
attribute [simp] Bn akH aiu
@[simp] theorem axa {h:af}{n:Option Nat}{cs:List D}{o:Nat}:cP h n (.pim cs o)=jY n cs o:=by
 simp only[cP,loadAt];cases jY n cs o<;>rfl
@[simp] theorem avM {cs:List D}{o:Nat}:jY none cs o=(cs[o]?).map .d:=by simp only[jY];cases cs[o]?<;>rfl
@[simp] theorem ava {cs:List D}{n o:Nat}:jY (some n) cs o=if o+n≤cs.length then some (.agg ((sub cs o n).map .d)) else none:=by
 by_cases h:o+n≤cs.length<;>simp[jY,Ub,h]
@[simp] theorem gq0 {α:Type}{x:α}{r:List α}:(x::r)[0]?=some x:=(rfl)
@[simp] theorem av9 {f:FuncId}{vs:List AV}{h:af}:cy (Dn P) f vs h=bA (viewArgs h vs) fun ds=>bA (aS P f ds) fun v=>if vs.any lM=false then some v else if fp v=true then some v else some (Gy v):=by
 simp only[cy,aS,nC,bA]
 cases viewArgs h vs with
 | none=>rfl
 | some ds =>
  simp only
  cases (Dn P).call f ds ⟨[],0⟩ with
  | none=>rfl
  | some q =>
   obtain⟨v,h2⟩:=q;simp only
   cases dF h2.heap v with
   | none=>rfl
   | some v =>
    simp only
    cases vs.any lM with
    | false=>rfl
    | true=>simp only;cases fp v<;>rfl
@[simp] theorem aw8 {x:D}:share (.d x)=.d x:=(rfl)
@[simp] theorem awh  : share (.nl)=.nl:=(rfl)
@[simp] theorem asc {m:Nat}{xs:List (List D)}:share (.own false m xs)=.d (.lst xs):=(rfl)
@[simp] theorem aul {cs:List AV}:share (.agg cs)=.agg (shareAll cs):=(rfl)
@[simp] theorem auw {cs:List AV}:share (.tup cs)=.tup (shareAll cs):=(rfl)
@[simp] theorem aud {a b:Nat}:share (.ptr a b)=.ptr a b:=(rfl)
@[simp] theorem auL {a b c:Nat}:share (.pel a b c)=.pel a b c:=(rfl)
@[simp] theorem auk {cs:List D}{b:Nat}:share (.pim cs b)=.pim cs b:=(rfl)
@[simp] theorem av6 {a b c:Nat}:share (.sl a b c)=.sl a b c:=(rfl)
@[simp] theorem ave {f:FuncId}{a b:List AV}:share (.fn f a b)=.fn f a b:=(rfl)
@[simp] theorem arA {n:Nat}:share (.yield n)=.yield n:=(rfl)
@[simp] theorem atb  : shareAll []=[]:=(rfl)
@[simp] theorem asz {v:AV}{r:List AV}:shareAll (v::r)=share v::shareAll r:=(by rw[kE])
@[simp] theorem axi {x:D}:kU (.d x)=.d x:=(rfl)
@[simp] theorem awW {x:D}:oS (.d x)=.d x:=(rfl)
@[simp] theorem awz {x:D}:AV.cells (.d x)=[.d x]:=(rfl)
@[simp] theorem avg {x:D}:aV (.d x)=true:=(rfl)
@[simp] theorem awp {x:D}:vR (.d x)=aV (.d x):=(rfl)
@[simp] theorem ax1 {x:D}:oA (.d x)=false:=(rfl)
@[simp] theorem axm {x:D}:lM (.d x)=false:=(rfl)
@[simp] theorem avE {x:D}:ji (.d x)=.d x:=(rfl)
@[simp] theorem avv {x:D}:kM (.d x)=.d x:=(rfl)
@[simp] theorem awm {x:D}:kX (.d x)=.d x:=(rfl)
@[simp] theorem av4  : kU (.nl)=.nl:=(rfl)
@[simp] theorem avL  : oS (.nl)=.nl:=(rfl)
@[simp] theorem avd  : AV.cells (.nl)=[.nl]:=(rfl)
@[simp] theorem auD  : aV (.nl)=true:=(rfl)
@[simp] theorem awM  : oA (.nl)=false:=(rfl)
@[simp] theorem auV  : lM (.nl)=false:=(rfl)
@[simp] theorem atV  : eK (.nl)=true:=(rfl)
@[simp] theorem atK  : gK (.nl)=true:=(rfl)
@[simp] theorem atW  : fp (.nl)=true:=(rfl)
@[simp] theorem at5  : ji (.nl)=.nl:=(rfl)
@[simp] theorem auG  : kM (.nl)=.nl:=(rfl)
@[simp] theorem aub  : kX (.nl)=.nl:=(rfl)
@[simp] theorem aun {p:Bool}{m:Nat}{xs:List (List D)}:kU (.own p m xs)=.own false m xs:=(rfl)
@[simp] theorem at1 {p:Bool}{m:Nat}{xs:List (List D)}:oS (.own p m xs)=.own false m xs:=(rfl)
@[simp] theorem aur {p:Bool}{m:Nat}{xs:List (List D)}:AV.cells (.own p m xs)=[.own p m xs]:=(rfl)
@[simp] theorem as6 {p:Bool}{m:Nat}{xs:List (List D)}:aV (.own p m xs)=!p:=(rfl)
@[simp] theorem auW {p:Bool}{m:Nat}{xs:List (List D)}:oA (.own p m xs)=false:=(rfl)
@[simp] theorem atB {p:Bool}{m:Nat}{xs:List (List D)}:lM (.own p m xs)=false:=(rfl)
@[simp] theorem aui {cs:List AV}:oS (.agg cs)=.agg (cs.map kU):=(rfl)
@[simp] theorem auH {cs:List AV}:AV.cells (.agg cs)=cs:=(rfl)
@[simp] theorem asi {cs:List AV}:vR (.agg cs)=true:=(rfl)
@[simp] theorem atS {cs:List AV}:lM (.agg cs)=cs.any oA:=(rfl)
@[simp] theorem aup {cs:List AV}:AV.cells (.tup cs)=[.tup cs]:=(rfl)
@[simp] theorem auu {a b:Nat}:AV.cells (.ptr a b)=[.ptr a b]:=(rfl)
@[simp] theorem asZ {a b:Nat}:aV (.ptr a b)=true:=(rfl)
@[simp] theorem atO {a b:Nat}:yp (.ptr a b)=some (.ptr a b):=(rfl)
@[simp] theorem awo {a b c:Nat}:kU (.sl a b c)=.sl a b c:=(rfl)
@[simp] theorem au9 {a b c:Nat}:oS (.sl a b c)=.sl a b c:=(rfl)
@[simp] theorem awk {a b c:Nat}:AV.cells (.sl a b c)=[.sl a b c]:=(rfl)
@[simp] theorem auA {a b c:Nat}:vR (.sl a b c)=aV (.sl a b c):=(rfl)
@[simp] theorem awV {a b c:Nat}:oA (.sl a b c)=true:=(rfl)
@[simp] theorem awn {f:FuncId}{a b:List AV}:AV.cells (.fn f a b)=[.fn f a b]:=(rfl)
@[simp] theorem atF {xs:List (List D)}:lenOf (.d (.lst xs))=some xs.length:=(rfl)
@[simp] theorem aww  : lenOf .nl=some 0:=(rfl)
@[simp] theorem auc {p:Bool}{m:Nat}{xs:List (List D)}:lenOf (.own p m xs)=some xs.length:=(rfl)
@[simp] theorem avP {a b n:Nat}:lenOf (.sl a b n)=some n:=(rfl)
@[simp] theorem Va {h:af}{xs:List (List D)}:elems h (.d (.lst xs))=some xs:=(rfl)
@[simp] theorem atT {h:af}{m:Nat}{xs:List (List D)}:elems h (.own false m xs)=some xs:=(rfl)
@[simp] theorem ar7 {o a b:Nat}:fZ o (.ptr a b)=some (.ptr a (b+o)):=(rfl)
@[simp] theorem arS {o b:Nat}{cs:List D}:fZ o (.pim cs b)=some (.pim cs (b+o)):=(rfl)
@[simp] theorem aye {cs:List AV}{i:Nat}:wR true (.tup cs) i=cs[i]?:=(by simp only[wR];cases cs[i]?<;>rfl)
@[simp] theorem axA {cs:List AV}{i:Nat}:wR false (.tup cs) i=(cs[i]?).map share:=(by simp only[wR];cases cs[i]?<;>rfl)
@[simp] theorem ayv {cs:List AV}{i:Nat}:Nu (.tup cs) i=.tup (cs.set i .junk):=(rfl)
@[simp] theorem ay7 {x:D}:toD (.d x)=some x:=(rfl)
@[simp] theorem ayh  : toD .nl=some (.lst []):=(rfl)
@[simp] theorem awX {m:Nat}{xs:List (List D)}:toD (.own false m xs)=some (.lst xs):=(rfl)
@[simp] theorem axx  : iy []=some []:=(rfl)
@[simp] theorem axM {v:AV}{r:List AV}:iy (v::r)=bA (toD v) fun x=>bA (iy r) fun xs=>some (x::xs):=(by
 simp only[iy]
 cases toD v with
 | none=>rfl
 | some q=>simp only[bA];cases iy r<;>rfl)
@[simp] theorem auj {m:Nat}:fw m []=some []:=(rfl)
@[simp] theorem atG {m:Nat}{v:AV}{r:List AV}:fw m (v::r)=if v.cells.length=m then bA (iy v.cells) fun x=>bA (fw m r) fun xs=>some (x::xs) else none:=(by
 by_cases h:v.cells.length=m
 ·simp only[fw,S6,h,decide_true,if_true]
  cases iy v.cells with
  | none=>rfl
  | some q=>simp only[bA];cases fw m r<;>rfl
 ·simp only[fw,S6,h,decide_false,if_false])
@[simp] theorem arD {cs:List AV}:bW cs []=some cs:=(rfl)
@[simp] theorem arP {cs:List AV}{o n:Nat}{v:AV}{r:List (Nat×Nat×AV)}:bW cs ((o,n,v)::r)=if v.cells.length=n∧vR v=true∧o+n≤cs.length then bW (ai cs o v.cells) r else none:=(by
 simp only[bW,S6,Ub];by_cases h:v.cells.length=n<;>by_cases h2:vR v=true<;>by_cases h3:o+n≤cs.length<;>simp[h,h2,h3])
theorem FJ {α:Type}{cs vs:List α}{o:Nat}:ai cs o vs=cs.take o++vs++cs.drop (o+vs.length):=(rfl)
attribute [simp] FJ
theorem aeo {α:Type}{cs:List α}{o n:Nat}:sub cs o n=(cs.drop o).take n:=(rfl)
attribute [simp] aeo
@[simp] theorem atH {h:af}{x:D}:viewOne h (.d x)=some (.d x):=(rfl)
@[simp] theorem arT {h:af}:viewOne h .nl=some .nl:=(rfl)
@[simp] theorem ary {h:af}{m:Nat}{xs:List (List D)}:viewOne h (.own false m xs)=some (.d (.lst xs)):=(rfl)
@[simp] theorem atd {h:af}{a b c:Nat}:viewOne h (.sl a b c)=bA (elems h (.sl a b c)) fun xs=>some (.d (.lst xs)):=(by simp only[viewOne];cases elems h (.sl a b c)<;>rfl)
@[simp] theorem atY {h:af}:viewAll h []=some []:=(rfl)
@[simp] theorem at8 {h:af}{v:AV}{r:List AV}:viewAll h (v::r)=bA (viewOne h v) fun x=>bA (viewAll h r) fun xs=>some (x::xs):=(by
 simp only[viewAll]
 cases viewOne h v with
 | none=>rfl
 | some q=>simp only[bA];cases viewAll h r<;>rfl)
@[simp] theorem atP {h:af}{x:D}:viewArg h (.d x)=viewOne h (.d x):=(rfl)
@[simp] theorem atp {h:af}  : viewArg h (.nl)=viewOne h (.nl):=(rfl)
@[simp] theorem arM {h:af}{p:Bool}{m:Nat}{xs:List (List D)}:viewArg h (.own p m xs)=viewOne h (.own p m xs):=(rfl)
@[simp] theorem arK {h:af}{cs:List AV}:viewArg h (.agg cs)=bA (viewAll h cs) fun xs=>some (.agg xs):=(by simp only[viewArg];cases viewAll h cs<;>rfl)
@[simp] theorem att {h:af}:viewArgs h []=some []:=(rfl)
@[simp] theorem ath {h:af}{v:AV}{r:List AV}:viewArgs h (v::r)=bA (viewArg h v) fun x=>bA (viewArgs h r) fun xs=>some (x::xs):=(by
 simp only[viewArgs]
 cases viewArg h v with
 | none=>rfl
 | some q=>simp only[bA];cases viewArgs h r<;>rfl)
@[simp] theorem av5 {h:af}{x:D}:fD h (.d x)=some (.d x,h):=(rfl)
@[simp] theorem auh {h:af}:fD h .nl=some (.nl,h):=(rfl)
@[simp] theorem asE {h:af}{p:Bool}{m:Nat}{xs:List (List D)}:fD h (.own p m xs)=some (.own p m xs,h):=(rfl)
@[simp] theorem awj {h:af}:mh h []=some ([],h):=(rfl)
@[simp] theorem au4 {h:af}{v:AV}{r:List AV}:mh h (v::r)=bP (fD h v) fun x h=>bP (mh h r) fun xs h=>some (x::xs,h):=(by simp only[mh];cases fD h v with
 | none=>rfl
 | some q=>simp only[bP];cases mh q.2 r<;>rfl)
@[simp] theorem atf {h:af}{cs:List AV}:c5 h (.agg cs)=bP (mh h cs) fun xs h=>some (.agg xs,h):=(by simp only[c5];cases mh h cs<;>rfl)
@[simp] theorem avT {h:af}{x:D}:c5 h (.d x)=fD h (.d x):=(rfl)
@[simp] theorem at4 {h:af}  : c5 h (.nl)=fD h (.nl):=(rfl)
@[simp] theorem asC {h:af}{p:Bool}{m:Nat}{xs:List (List D)}:c5 h (.own p m xs)=fD h (.own p m xs):=(rfl)
@[simp] theorem atL {h:af}{a b c:Nat}:c5 h (.sl a b c)=fD h (.sl a b c):=(rfl)
@[simp] theorem at7 {h:af}:mg h []=some ([],h):=(rfl)
@[simp] theorem auF {h:af}{v:AV}{r:List AV}:mg h (v::r)=bP (c5 h v) fun x h=>bP (mg h r) fun xs h=>some (x::xs,h):=(by simp only[mg];cases c5 h v with
 | none=>rfl
 | some q=>simp only[bP];cases mg q.2 r<;>rfl)
@[simp] theorem Q5 {h:af}{cs:List AV}:dF h (.tup cs)=bP (mg h cs) fun xs _=>some (ed (.tup xs)):=(by simp only[dF];cases mg h cs<;>rfl)
@[simp] theorem avj {h:af}{x:D}:dF h (.d x)=bP (c5 h (.d x)) fun x _=>some (ed x):=(by simp only[dF];cases c5 h (.d x)<;>rfl)
@[simp] theorem aua {h:af}  : dF h (.nl)=bP (c5 h (.nl)) fun x _=>some (ed x):=(by simp only[dF];cases c5 h (.nl)<;>rfl)
@[simp] theorem asd {h:af}{p:Bool}{m:Nat}{xs:List (List D)}:dF h (.own p m xs)=bP (c5 h (.own p m xs)) fun x _=>some (ed x):=(by simp only[dF];cases c5 h (.own p m xs)<;>rfl)
@[simp] theorem asH {h:af}{cs:List AV}:dF h (.agg cs)=bP (c5 h (.agg cs)) fun x _=>some (ed x):=(by simp only[dF];cases c5 h (.agg cs)<;>rfl)
@[simp] theorem atC {h:af}{a b c:Nat}:dF h (.sl a b c)=bP (c5 h (.sl a b c)) fun x _=>some (ed x):=(by simp only[dF];cases c5 h (.sl a b c)<;>rfl)
@[simp] theorem aut {v:AV}:ed v=if fp v=true then kX v else v:=(by simp only[ed];cases fp v<;>rfl)
@[simp] theorem avA {x:D}:eK (.d x)=gD x:=(rfl)
@[simp] theorem atj {p:Bool}{m:Nat}{xs:List (List D)}:eK (.own p m xs)=xs.all fun e=>e.all gD:=(rfl)
@[simp] theorem auo {k:IntKind}{n:Int}:gD (.int k n)=true:=(rfl)
@[simp] theorem arU {b:Bool}:gD (.bool b)=true:=(rfl)
@[simp] theorem auf {xs:List (List D)}:gD (.lst xs)=false:=(rfl)
@[simp] theorem asj {cs:List AV}:gK (.agg cs)=cs.all eK:=(rfl)
@[simp] theorem awr {x:D}:gK (.d x)=gD x:=(rfl)
@[simp] theorem asm {p:Bool}{m:Nat}{xs:List (List D)}:gK (.own p m xs)=xs.all fun e=>e.all gD:=(rfl)
@[simp] theorem ar9 {cs:List AV}:fp (.agg cs)=cs.all eK:=(rfl)
@[simp] theorem avY {x:D}:fp (.d x)=gD x:=(rfl)
@[simp] theorem ata {p:Bool}{m:Nat}{xs:List (List D)}:fp (.own p m xs)=xs.all fun e=>e.all gD:=(rfl)
@[simp] theorem asS {cs:List AV}:fp (.tup cs)=cs.all gK:=(rfl)
@[simp] theorem atu {p:Bool}{m:Nat}{xs:List (List D)}:ji (.own p m xs)=.own true m xs:=(rfl)
@[simp] theorem as8 {p:Bool}{m:Nat}{xs:List (List D)}:kM (.own p m xs)=.own true m xs:=(rfl)
@[simp] theorem atq {p:Bool}{m:Nat}{xs:List (List D)}:kX (.own p m xs)=.own true m xs:=(rfl)
@[simp] theorem asO {cs:List AV}:kM (.agg cs)=.agg (cs.map ji):=(rfl)
@[simp] theorem asu {cs:List AV}:kX (.agg cs)=.agg (cs.map ji):=(rfl)
@[simp] theorem asy {cs:List AV}:kX (.tup cs)=.tup (cs.map kM):=(rfl)
@[simp] theorem awD {i:Nat}:fT i []=[]:=(rfl)
@[simp] theorem awH {i:Nat}{v:AV}{r:List AV}:fT i (v::r)=(i,v)::fT (i+1) r:=by
 have h:∀ (i:Nat) (r:List AV),put (fT (i+1) r) i v=(i,v)::fT (i+1) r:=fun i r=>by
  have:∃ q,fT (i+1) r=q∧∀ p∈q,Nat.blt i p.1=true:=⟨_,rfl,by
   have aux:∀ (r:List AV) (j:Nat),i<j→∀ p∈fT j r,Nat.blt i p.1=true:=by
    intro r
    induction r with
    | nil=>intro j hj p hp;simp[fT]at hp
    | cons w r ih =>
     intro j hj p hp;simp only[fT]at hp;rcases Sx hp with rfl | hp
     ·rw[Nat.blt,Nat.ble_eq];exact hj
     ·exact ih (j+1) (by omega) p hp
   exact aux r (i+1) (by omega)⟩
  obtain⟨q,hq,hp⟩:=this;rw[hq]
  cases q with
  | nil=>rfl
  | cons p q =>
   obtain⟨k,u⟩:=p;have hk:i<k:=by have:=hp _ (.head _);rw[Nat.blt,Nat.ble_eq]at this;exact this
   rw[nk,if_neg (by omega),if_pos (by omega)]
 exact h i r
@[simp] theorem atI {st:St}:cV st []=some ([],st):=(rfl)
def akx (x:Option AV) (t:Nat) (st:St) (r:List mr):Option (List AV×St) :=
 match x with
 | some v=>bP (cV ⟨del st.env t,st.hs⟩ r) fun vs st=>some (v::vs,st)
 | none=>none
@[simp] theorem at2 {t:Nat}{st:St}{r:List mr}:cV st (.tmp t::r)=akx (get st.env t) t st r:=(by
 simp only[cV,akx]
 cases get st.env t with
 | none=>rfl
 | some v=>simp only;cases cV ⟨del st.env t,st.hs⟩ r<;>rfl)
@[simp] theorem axH {v:AV}{t:Nat}{e:aq}{hs:HS}{r:List mr}:akx (some v) t ⟨e,hs⟩ r=bP (cV ⟨del e t,hs⟩ r) fun vs st=>some (v::vs,st):=(rfl)
def ajD (x:Option AV) (t:Nat) (n:Option Nat) (st:St) (r:List mr):Option (List AV×St) :=
 match x with
 | some (.ptr id 0)=>bP (loadAt st.hs.heap n 1 (.ptr id 0)) fun v h=>bP (cV ⟨del st.env t,⟨del h id,st.hs.next⟩⟩ r) fun vs st=>some (v::vs,st)
 | _=>none
@[simp] theorem auz {t:Nat}{n:Option Nat}{st:St}{r:List mr}:cV st (.cell t n::r)=ajD (get st.env t) t n st r:=(by
 simp only[cV,ajD]
 cases get st.env t with
 | none=>rfl
 | some v =>
  cases v<;>try rfl
  rename_i id off
  cases off with
  | succ k=>rfl
  | zero =>
   simp only
   cases loadAt st.hs.heap n 1 (.ptr id 0) with
   | none=>rfl
   | some q=>simp only[bP];cases cV _ r<;>rfl)
@[simp] theorem ays {id t:Nat}{n:Option Nat}{e:aq}{hs:HS}{r:List mr}:ajD (some (.ptr id 0)) t n ⟨e,hs⟩ r=bP (loadAt hs.heap n 1 (.ptr id 0)) fun v h=>bP (cV ⟨del e t,⟨del h id,hs.next⟩⟩ r) fun vs st=>some (v::vs,st):=(rfl)
theorem aht {l:List Int}:((am l).all fun e=>e.all gD)=true:=by simp[am]
theorem ahh {l:List Nat}:((ae l).all fun e=>e.all gD)=true:=by simp[ae]
theorem aeU {l:List Bool}:((J4 l).all fun e=>e.all gD)=true:=by simp[J4]
attribute [simp] aht ahh aeU
attribute [simp] aiq
attribute [simp] aqz ape ap0 apF
variable {P:Nat→Option aa}{l:List VI}{e:aq}{h:af}{m d s:Nat}{op:jN}{hs:HS}{β:Type}{k:AV→aq→HS→Option β}
abbrev V (d:Nat) (op:jN):VI:=⟨some d,none,op,[]⟩
abbrev N (op:jN):VI:=⟨none,none,op,[]⟩
abbrev W (s d:Nat) (op:jN):VI:=⟨some d,some (s,true),op,[]⟩
abbrev U (s d:Nat) (op:jN):VI:=⟨some d,some (s,false),op,[]⟩
theorem aoq {e e2:aq}{hs hs2:HS}(h:e=e2) (h2:hs=hs2):cx P l e hs=cx P l e2 hs2:=by rw[h,h2]
attribute [congr] aoq
@[simp ↓ low] theorem auy {i:VI}:(Dn P).code (.reg false (i::l)) ⟨e,hs⟩=bu (cx P (i::l) e hs):=yx rfl
@[simp ↓ low] theorem auv {i:VI}:(Dn P).code (.reg true (i::l)) ⟨e,hs⟩=bu (cx P (i::l) e hs):=yx rfl
@[simp] theorem axu:cx P [] e hs=some ⟨e,hs⟩:=(rfl)
@[simp] theorem axD:cx P (⟨some d,none,op,[]⟩::l) e hs=aK P op e hs fun v e hs=>cx P l (put e d (firm v)) hs:=(rfl)
@[simp] theorem axB:cx P (⟨none,none,op,[]⟩::l) e hs=aK P op e hs fun _ e hs=>cx P l e hs:=(rfl)
@[simp] theorem ayt {t:Nat×Nat}{th:List (Nat×Nat)}:cx P (⟨some d,none,op,t::th⟩::l) e hs=aK P op e hs fun v e hs=>lP (bS (t::th) v hs) fun v hs=>cx P l (put e d (firm v)) hs:=(rfl)
def wK {β:Type}(a b:Bool) (x y z:Option β):Option β :=
 match a with
 | true=>x
 | false=>match b with
  | true=>y
  | false=>z
@[simp ↓] theorem azj {b:Bool}{x y z:Option β}:wK true b x y z=x:=(rfl)
@[simp ↓] theorem azn {x y z:Option β}:wK false true x y z=y:=(rfl)
@[simp ↓] theorem azh {x y z:Option β}:wK false false x y z=z:=(rfl)
theorem asN {a a2 b b2:Bool}{x y z:Option β}(h:a=a2) (h2:b=b2):wK a b x y z=wK a2 b2 x y z:=by rw[h,h2]
attribute [congr] asN
@[simp] theorem ayc {w:Bool}:cx P (⟨some d,some (s,w),op,[]⟩::l) e hs=wK (bK op) (uj op)
  (bA (get e s) fun g=>bA (gV g w (aK P op e hs fun v _ _=>some v)) fun v=>cx P l (put e d (firm v)) hs)
  (bA (get e s) fun g=>bP (gH g w hs (aK P op e hs fun v _ hs=>some (v,hs))) fun v hs=>cx P l (put e d (firm v)) hs)
  (bA (bl (Dn P) ⟨some d,some (s,w),op,[]⟩ ⟨e,hs⟩) fun st=>cx P l st.env st.hs):=by
 simp only[cx,Qn,wK]
 cases bK op<;>cases uj op<;>(try rfl)<;>(cases get e s<;>rfl)
@[simp] theorem ayV {i:Nat}:aH (.s i)=true:=(rfl)
@[simp] theorem ay5 {a:AV}:aH (.c a)=true:=(rfl)
@[simp] theorem axr:fq []=true:=(rfl)
@[simp] theorem axP {x:Rd}{r:List Rd}:fq (x::r)=(aH x && fq r):=(rfl)
@[simp] theorem ay9:vG none=true:=(rfl)
@[simp] theorem ay1 {x:Rd}:vG (some x)=aH x:=(rfl)
@[simp] theorem ax2 {x:Rd}:bK (.mov x)=aH x:=(rfl)
@[simp] theorem ayW {x:Rd}{n:Option Nat}:bK (.ld n 0 x)=aH x:=(rfl)
@[simp] theorem axJ {x:Rd}:bK (.nilck x)=aH x:=(rfl)
@[simp] theorem axV {x y:Rd}{o:BinOp}:bK (.bin o x y)=(aH x && aH y):=(rfl)
@[simp] theorem awy {x y:Rd}{o:Bool}:bK (.binb o x y)=(aH x && aH y):=(rfl)
@[simp] theorem ayH {x:Rd}{o:UnOp}:bK (.un o x)=aH x:=(rfl)
@[simp] theorem axc {x:Rd}{o:IntKind}:bK (.conv o x)=aH x:=(rfl)
@[simp] theorem ayF {x:Rd}{o:Nat}:bK (.fa o x)=aH x:=(rfl)
@[simp] theorem ayQ {x y:Rd}{o:Nat}:bK (.ia o x y)=(aH x && aH y):=(rfl)
@[simp] theorem axg {x y:Rd}{o n:Nat}:bK (.iarr o n x y)=(aH x && aH y):=(rfl)
@[simp] theorem axz {x:Rd}:bK (.len x)=aH x:=(rfl)
@[simp] theorem awJ {f:FuncId}{xs:List Rd}:bK (.call f xs)=fq xs:=(rfl)
@[simp] theorem axk {c x y:Rd}:bK (.pick c x y)=(aH c && aH x && aH y):=(rfl)
@[simp] theorem axC {x:Rd}:bK (.toStr x)=aH x:=(rfl)
@[simp] theorem ayw {m:Nat}{x:Rd}{a b c:Option Rd}:bK (.slice m x a b c)=(aH x && (vG a && (vG b && vG c))):=(rfl)
@[simp] theorem avh {f:FuncId}{xs:List Rd}:bK (.calli f xs)=false:=(rfl)
@[simp] theorem awv {x:Rd}{xs:List Rd}:bK (.callv x xs)=false:=(rfl)
@[simp] theorem ayf {n:Nat}{xs:List Rd}:bK (.mks n xs)=false:=(rfl)
@[simp] theorem av7 {f:FuncId}{xs:List Rd}:uj (.calli f xs)=fq xs:=(rfl)
@[simp] theorem avo {x:Rd}{xs:List Rd}:uj (.callv x xs)=(aH x && fq xs):=(rfl)
@[simp] theorem axo {n:Nat}{xs:List Rd}:uj (.mks n xs)=false:=(rfl)
attribute [simp] mw nc
def DG {γ:Type}(c:Prop) [Decidable c] (a b:γ):γ:=if c then a else b
theorem aoC {γ:Type}{c d:Prop}[Decidable c] [i:Decidable d] {a b:γ}(h:c=d):DG c a b=@DG γ d i a b:=by subst h;congr
attribute [congr] aoC
@[simp ↓] theorem axq {γ:Type}{i:Decidable True}{a b:γ}:@DG γ True i a b=a:=by simp only[DG,if_true]
@[simp ↓] theorem aym {γ:Type}{i:Decidable False}{a b:γ}:@DG γ False i a b=b:=by simp only[DG,if_false]
@[simp high] theorem azs {k i:Nat}{v:AV}{r:aq}:get ((k,v)::r) i=DG (k=i) (some v) (get r i):=ap7
@[simp high] theorem azg {k i:Nat}{v x:AV}{r:aq}:put ((k,v)::r) i x=DG (k=i) ((i,x)::r) (DG (i≤k) ((i,x)::(k,v)::r) ((k,v)::put r i x)):=put1
@[simp high] theorem azd {k i:Nat}{v:AV}{r:aq}:del ((k,v)::r) i=DG (k=i) (del r i) ((k,v)::del r i):=aqN
variable {f:AV→aq→Option β}{x:Rd}
@[simp ↓] theorem ay8 {i:Nat}:aZ e (.s i) f=bA (get e i) fun v=>f (share v) e:=by
 simp only[aZ,rd,bA];cases get e i<;>rfl
@[simp ↓] theorem ayY {i:Nat}:aZ e (.m i) f=bA (get e i) fun v=>f v (del e i):=by
 simp only[aZ,rd,bA];cases get e i<;>rfl
@[simp ↓] theorem ay3 {a:AV}:aZ e (.c a) f=f a e:=(rfl)
@[simp ↓] theorem ax7 {f:List AV→aq→Option β}:gx e [] f=f [] e:=(rfl)
@[simp ↓] theorem axv {r:List Rd}{f:List AV→aq→Option β}:gx e (x::r) f=aZ e x fun v e=>gx e r fun vs e=>f (v::vs) e:=(rfl)
@[simp ↓] theorem ayp {f:Option AV→aq→Option β}:je e none f=f none e:=(rfl)
@[simp ↓] theorem axE {f:Option AV→aq→Option β}:je e (some x) f=aZ e x fun v e=>f (some v) e:=(rfl)
@[simp ↓] theorem awS:aK P (.mov x) e hs k=aZ e x fun v e=>k v e hs:=(rfl)
def ES (e:aq):Rd→Option AV
 | .c v=>some v
 | .m i=>get e i
 | .s i=>match get e i with
  | some v=>some (share v)
  | none=>none
def pkV {β:Type}(c:AV) (a b:Rd) (x y:Option AV) (e:aq) (hs:HS) (k:AV→aq→HS→Option β):Option β :=
 match x,y with
 | some a,some b=>bA (J3 c a b) fun v=>k v e hs
 | _,_=>bP (gM (.c c) a b ⟨e,hs⟩) fun v st=>k v st.env st.hs
@[simp ↓] theorem azb {c v w:AV}{a b:Rd}:pkV c a b (some v) (some w) e hs k=bA (J3 c v w) fun v=>k v e hs:=(rfl)
theorem aqu {c:AV}{a b:Rd}{x x2 y y2:Option AV}(h:x=x2) (h2:y=y2):pkV c a b x y e hs k=pkV c a b x2 y2 e hs k:=by rw[h,h2]
attribute [congr] aqu
@[simp] theorem ay2 {v:AV}:ES e (.c v)=some v:=(rfl)
@[simp] theorem ayZ {i:Nat}:ES e (.s i)=bA (get e i) fun v=>some (share v):=by
 simp only[ES,bA];cases get e i<;>rfl
theorem ZW {c a b:Rd}(ha:aH a=true) (hb:aH b=true):aK P (.pick c a b) e hs k=aZ e c fun c e=>pkV c a b (ES e a) (ES e b) e hs k:=by
 simp only[aK,ha,hb,Bool.and_self]
 congr 1
 funext c e;have h1:∀ x,aH x=true→rd e x=(ES e x).map fun v=>(v,e):=by
  intro x hx
  cases x with
  | c=>rfl
  | m=>cases hx
  | s i=>simp only[rd,ES];cases get e i<;>rfl
 rw[h1 a ha,h1 b hb]
 cases ES e a<;>cases ES e b<;>rfl
@[simp ↓] theorem axb {c:Rd}{i:Nat}{y:AV}:aK P (.pick c (.s i) (.c y)) e hs k=aZ e c fun c e=>pkV c (.s i) (.c y) (ES e (.s i)) (ES e (.c y)) e hs k:=ZW rfl rfl
@[simp ↓] theorem aw5 {c:Rd}{i:Nat}{y:AV}:aK P (.pick c (.c y) (.s i)) e hs k=aZ e c fun c e=>pkV c (.c y) (.s i) (ES e (.c y)) (ES e (.s i)) e hs k:=ZW rfl rfl
@[simp ↓] theorem atZ {zs:List AV}:aK P (.alloc zs) e ⟨h,m⟩ k=lA (put h m (.cells zs)) fun h=>k (.ptr m 0) e ⟨h,m+1⟩:=(rfl)
@[simp ↓] theorem axf:aK P (.box x) e ⟨h,m⟩ k=aZ e x fun v e=>bN ((AV.cells v).all aV) (lA (put h m (.cells (AV.cells v))) fun h=>k (.ptr m 0) e ⟨h,m+1⟩):=(rfl)
@[simp ↓] theorem aue {zs:List AV}{ps:List (Nat×Nat×Rd)}:aK P (.build zs ps) e hs k=gx e (mw ps) fun vs e=>bA (bW zs (nc ps vs)) fun cs=>k (.agg cs) e hs:=(rfl)
@[simp ↓] theorem awT {j:Nat}{ps:List Rd}:aK P (.mks j ps) e hs k=gx e ps fun vs e=>bA (fw j vs) fun xs=>k (.own true j xs) e hs:=(rfl)
@[simp ↓] theorem avf {j:Nat}{ps:List Rd}:aK P (.mksv j ps) e ⟨h,m⟩ k=gx e ps fun vs e=>bN (Ke j vs) (lA (put h m (.cells (vs.flatMap AV.cells))) fun h=>k (.sl m 0 vs.length) e ⟨h,m+1⟩):=(rfl)
@[simp ↓] theorem ax8 {n:Option Nat}:aK P (.ld n 0 x) e ⟨h,m⟩ k=aZ e x fun p e=>bA (cP h n p) fun v=>k v e ⟨h,m⟩:=(rfl)
@[simp ↓] theorem aw7 {n:Option Nat}:aK P (.ld n 1 x) e ⟨h,m⟩ k=aZ e x fun p e=>bP (loadAt h n 1 p) fun v h=>k v e ⟨h,m⟩:=(rfl)
@[simp ↓] theorem aw6 {n:Option Nat}:aK P (.ld n 2 x) e ⟨h,m⟩ k=aZ e x fun p e=>bP (loadAt h n 2 p) fun v h=>k v e ⟨h,m⟩:=(rfl)
@[simp ↓] theorem ayl {n:Nat}{y:Rd}:aK P (.st n x y) e ⟨h,m⟩ k=aZ e x fun p e=>aZ e y fun v e=>bA (storeAt h n p v) fun h=>k .junk e ⟨h,m⟩:=(rfl)
@[simp ↓] theorem atE:aK P (.nilck x) e hs k=aZ e x fun v e=>bA (yp v) fun v=>k v e hs:=(rfl)
@[simp ↓] theorem awB {o:BinOp}{y:Rd}:aK P (.bin o x y) e hs k=aZ e x fun a e=>aZ e y fun b e=>bA (da o a b) fun v=>k (.d v) e hs:=(rfl)
@[simp ↓] theorem avi {o:Bool}{y:Rd}:aK P (.binb o x y) e hs k=aZ e x fun a e=>aZ e y fun b e=>bA (WO o a b) fun v=>k (.d v) e hs:=(rfl)
@[simp ↓] theorem au0 {o:Bool}{ks:List Bool}{y:Rd}:aK P (.bina o ks x y) e hs k=aZ e x fun a e=>aZ e y fun b e=>bA (PH o ks a b) fun v=>k (.d v) e hs:=(rfl)
@[simp ↓] theorem ayd {o:UnOp}:aK P (.un o x) e hs k=aZ e x fun a e=>bA (unD o a) fun v=>k (.d v) e hs:=(rfl)
@[simp ↓] theorem awt {j:IntKind}:aK P (.conv j x) e hs k=aZ e x fun a e=>bA (Wy j a) fun v=>k (.d v) e hs:=(rfl)
@[simp ↓] theorem at0:aK P (.toStr x) e ⟨h,m⟩ k=aZ e x fun a e=>bA (EX h a) fun v=>k (.d v) e ⟨h,m⟩:=(rfl)
@[simp ↓] theorem avJ {f:FuncId}{a c:List Rd}:aK P (.mkfn f a c) e hs k=gx e a fun a e=>gx e c fun c e=>k (.fn f (shareAll a) (shareAll c)) e hs:=(rfl)
@[simp ↓] theorem arN {z:List D}{y:Rd}:aK P (.mkslice z x y) e hs k=aZ e x fun a e=>aZ e y fun c e=>bA (ya z a c) fun v=>k v e hs:=(rfl)
@[simp ↓] theorem auq {j:Nat}{lo hi mx:Option Rd}:aK P (.slice j x lo hi mx) e ⟨h,m⟩ k=aZ e x fun x e=>je e lo fun lo e=>je e hi fun hi e=>je e mx fun mx e=>bA (gX h j x lo hi mx) fun v=>k v e ⟨h,m⟩:=(rfl)
@[simp ↓] theorem atD {j:Nat}{lo hi mx:Option Rd}:aK P (.slarr j x lo hi mx) e ⟨h,m⟩ k=aZ e x fun x e=>je e lo fun lo e=>je e hi fun hi e=>je e mx fun mx e=>bA (I1 h j x lo hi mx) fun v=>k v e ⟨h,m⟩:=(rfl)
@[simp ↓] theorem axL {o:Nat}:aK P (.fa o x) e hs k=aZ e x fun p e=>bA (fZ o p) fun v=>k v e hs:=(rfl)
@[simp ↓] theorem axY {n:Nat}{y:Rd}:aK P (.ia n x y) e ⟨h,m⟩ k=aZ e x fun x e=>aZ e y fun i e=>bA (Rc h n x i) fun v=>k v e ⟨h,m⟩:=(rfl)
@[simp ↓] theorem au1 {a n:Nat}{y:Rd}:aK P (.iarr a n x y) e hs k=aZ e x fun p e=>aZ e y fun i e=>bA (Dh a n p i) fun v=>k v e hs:=(rfl)
@[simp ↓] theorem axZ {a n:Nat}{b:Bool}{y:Rd}:aK P (.ix a n b x y) e hs k=aZ e x fun x e=>aZ e y fun i e=>bA (ixV a n b x i) fun v=>k v e hs:=(rfl)
@[simp ↓] theorem avy {j i:Nat}:aK P (.ext j true i) e hs k=bA (get e j) fun t=>bA (wR true t i) fun v=>k v (put e j (Nu t i)) hs:=by
 simp only[aK,bA];cases get e j<;>(try rfl)
@[simp ↓] theorem auS {j i:Nat}:aK P (.ext j false i) e hs k=bA (get e j) fun t=>bA (wR false t i) fun v=>k v e hs:=by
 simp only[aK,bA];cases get e j<;>(try rfl)
@[simp ↓] theorem aw9:aK P (.len x) e hs k=aZ e x fun x e=>bA (lenOf x) fun n=>k (.int .i64 (.ofNat n)) e hs:=(rfl)
@[simp ↓] theorem awL {j:Nat}{y:Rd}:aK P (.app j x y) e ⟨h,m⟩ k=aZ e x fun a e=>aZ e y fun b e=>bP (SF j h a b) fun v h=>k v e ⟨h,m⟩:=(rfl)
@[simp ↓] theorem awA {j:Nat}{y:Rd}:aK P (.cpy j x y) e ⟨h,m⟩ k=aZ e x fun a e=>aZ e y fun b e=>bP (X4 j h a b) fun v h=>k (.d v) e ⟨h,m⟩:=(rfl)
@[simp ↓] theorem asx {b:Bool}{xs:List Rd}:aK P (.minmax b xs) e hs k=gx e xs fun vs e=>bA (EQ b vs) fun v=>k v e hs:=(rfl)
@[simp ↓] theorem avS {f:FuncId}{as:List Rd}:aK P (.call f as) e ⟨h,m⟩ k=gx e as fun vs e=>bA (cy (Dn P) f vs h) fun v=>k v e ⟨h,m⟩:=(rfl)
@[simp ↓] theorem aus {f:FuncId}{as:List Rd}:aK P (.calli f as) e hs k=gx e as fun vs e=>bP ((Dn P).call f vs hs) fun v hs=>k v e hs:=(rfl)
@[simp ↓] theorem auK {as:List Rd}:aK P (.callv x as) e hs k=aZ e x fun f e=>gx e as fun vs e=>bP (bD (Dn P) f vs hs) fun v hs=>k v e hs:=(rfl)
@[simp ↓] theorem avw {is:List Nat}:aK P (.kill is) e hs k=k (.tup []) (is.foldl del e) hs:=(rfl)
end Go.Vm
end
