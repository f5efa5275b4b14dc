/-
  ADTSHEADS: for every input the law returns true. The interpreter runs the whole program, and what it answers is what the model's machine answers.
-/
import Derived.Test.YtkegdjhjceaaoaaGreatRows
import Derived.Test.YtkegdjhjceaaoaaGreatP6
import Derived.WalkKit
import Derived.ProofKit
import Derived.OpenShut
import Derived.JoinedCond
namespace Go.Proofs.YtkegdjhjceaaoaaGreat.adtsHeads
open Go.ChangeShapes Go.WideShapes Go.ChangeAt Go.RowKit
theorem own:ownKnob Tryz.prog.godebug=none:=by kernel_rfl
theorem aBC:Go.Vm.LX Tryz.prog Go.Vm.prog:=Go.Vm.aCz (t:=Go.Vm.awG) (by kernel_rfl)
theorem aFH:laidOutB Tryz.prog=true:=by kernel_rfl
theorem aEl:(Tryz.f3.params.toList.all fun t=>Tryz.prog.readableRec t && decide (t<Tryz.prog.types.size))=true:=by kernel_rfl
theorem aGj:∀ t∈Tryz.f3.params.toList,Tryz.prog.readableRec t=true∧t<Tryz.prog.types.size:=fun t ht=>by
 have h:=List.all_eq_true.1 aEl t ht
 rw[Bool.and_eq_true,decide_eq_true_eq]at h
 exact h
def tys:List (Bool×List Go.Vm.Ty):=[(false,[.lst [.int .u8]]),(false,[.lst [.int .u8]]),(true,Go.Vm.agF),(false,[.int .i64]),(false,[.int .i64]),(true,Go.Vm.agx)]
theorem aCC:Go.Vm.Ni Tryz.prog 9 Tryz.f3.params.toList=some tys:=by kernel_rfl
set_option maxRecDepth 100000 in
theorem au3 (H:Type) (enc:TypeId×Value→H) (W:World) (base:Nat) (args:Array Value) (ds gs:List (DataW H)) (before:List MemPlace)
  (hval:∀ (j:Nat) t v,Tryz.f3.params[j]?=some t→args[j]?=some v→Value.okWide Tryz.prog W .any base t v)
  (hW:DataW.Whole enc Tryz.prog Tryz.f3.params.toList Rows.adtsHeadsSpec.vars false W args.toList ds gs before) :
  Calls Tryz.prog 3 args W fun e W'=>∃ v,e=.returned v∧Rows.adtsHeadsSpec.post enc Tryz.prog Tryz.f3 false true false false W args v W':=by
 refine Go.Vm.aiw aBC aFH aGj aCC (tb:=4) (by kernel_rfl) (by kernel_rfl) rfl hval hW (fun h=>?_) (fun h _=>?_)
 ·obtain⟨⟨d1,d2,d3,d4,d5,d6,rfl⟩,_⟩:=Go.Vm.W0 h
  rfl
 ·obtain⟨_,b,m,rt,n,cb,cz,full,other,f,hb,hm,hf,e⟩:=Go.Vm.W0 h
  have hr:=Go.Vm.aof (Go.Vm.apE b m hb hm rt n cb cz full other f hf.fit)
  rw[←e]at hr
  exact hr
set_option maxRecDepth 100000 in
theorem aAL (os:Os) (started:os.Started) (H:Type) (enc:TypeId×Value→H) :
  ReturnsInHanded {} Tryz.checked os 3 .any (Rows.adtsHeadsSpec.pre6 enc Tryz.prog Tryz.f3 Rows.adtsHeadsRow.domain false) (Rows.adtsHeadsSpec.post enc Tryz.prog Tryz.f3 false true false false):=by
 refine returnsInHanded_of_change (C:=Tryz.checked) own started (by kernel_rfl) Tryz.func3
  (ChangeSpec.witness6 (enc:=enc) (C:=Tryz.checked) false ⟨#[],#[.slice none 0 0,.slice none 0 0,.agg #[.int .i64 0,.int .i64 0,.bool false,.int .i64 0],.int .i64 0,.int .i64 0,.agg #[.slice none 0 0,.bool false,.int .i64 0,.slice none 0 0,.slice none 0 0]],[]⟩ 8 (by kernel_rfl) (by kernel_rfl) (by kernel_rfl) (by kernel_rfl)) ?_
 intro W base args ds gs before hval hW hcnd _
 exact au3 H enc W base args ds gs before hval hW
theorem aGQ:Rows.adtsHeadsRow.holds Tryz.pinned (OpenSpec.ofChange Rows.adtsHeadsSpec) :=
 OpenClaim.holds_of_wide 3 Tryz.f3 rfl rfl rfl rfl rfl rfl rfl ⟨rfl,rfl,rfl,rfl,rfl⟩ rfl rfl rfl rfl rfl (by kernel_rfl) Tryz.func3 (by kernel_rfl)
  (of_decide_eq_true (by kernel_rfl)) (by unfold Func.isWrapper;first | (rw[if_pos (by decide +kernel)];kernel_rfl) | (rw[if_neg (by decide +kernel)];exact⟨rfl,rfl⟩))
  (fun os started H enc _=>aAL os started H enc)
theorem proved:Rows.AdtsHeadsSaid :=
 aGQ
#print axioms proved
end Go.Proofs.YtkegdjhjceaaoaaGreat.adtsHeads
