/-
  RAWREADS: for every input the law returns true. The interpreter runs the whole program, and what it answers is what the model's machine answers.
-/
import Derived.Test.YtlkdijocbcbcpaaGreatRows
import Derived.Test.YtlkdijocbcbcpaaGreatP8
import Derived.WalkKit
import Derived.ProofKit
import Derived.OpenShut
import Derived.JoinedCond
namespace Go.Proofs.YtlkdijocbcbcpaaGreat.rawReads
open Go.ChangeShapes Go.WideShapes Go.ChangeAt Go.RowKit
theorem own:ownKnob Tryz.prog.godebug=none:=by kernel_rfl
theorem ayg:Go.Vm.K5 Tryz.prog Go.Vm.prog:=Go.Vm.ay0 (t:=Go.Vm.ast) (by kernel_rfl)
theorem aB4:laidOutB Tryz.prog=true:=by kernel_rfl
theorem azp:(Tryz.f3.params.toList.all fun t=>Tryz.prog.readableRec t && decide (t<Tryz.prog.types.size))=true:=by kernel_rfl
theorem aDm:∀ t∈Tryz.f3.params.toList,Tryz.prog.readableRec t=true∧t<Tryz.prog.types.size:=fun t ht=>by
 have h:=List.all_eq_true.1 azp t ht
 rw[Bool.and_eq_true,decide_eq_true_eq]at h
 exact h
def tys:List (Bool×List Go.Vm.Ty):=[(true,Go.Vm.adV),(false,[.lst [.int .u8]])]
theorem az1:Go.Vm.Mk Tryz.prog 9 Tryz.f3.params.toList=some tys:=by kernel_rfl
set_option maxRecDepth 100000 in
theorem arN (H:Type) (enc:TypeId×Value→H) (W:World) (base:Nat) (args:Array Value) (ds gs:List (DataW H)) (before:List MemPlace)
  (hval:∀ (j:Nat) t v,Tryz.f3.params[j]?=some t→args[j]?=some v→Value.okWide Tryz.prog W .any base t v)
  (hW:DataW.Whole enc Tryz.prog Tryz.f3.params.toList Rows.rawReadsSpec.vars false W args.toList ds gs before) :
  Calls Tryz.prog 3 args W fun e W'=>∃ v,e=.returned v∧Rows.rawReadsSpec.post enc Tryz.prog Tryz.f3 false true false false W args v W':=by
 refine Go.Vm.afO ayg aB4 aDm az1 (tb:=4) (by kernel_rfl) (by kernel_rfl) rfl hval hW (fun h=>?_) (fun h _=>?_)
 ·obtain⟨⟨d1,d2,rfl⟩,_⟩:=Go.Vm.Yw h
  rfl
 ·obtain⟨_,rt,n,cb,cz,l,hl,e⟩:=Go.Vm.Yw h
  have hr:=Go.Vm.ams (Go.Vm.al1 rt n cb cz l hl)
  rw[←e]at hr
  exact hr
set_option maxRecDepth 100000 in
theorem axa (os:Os) (started:os.Started) (H:Type) (enc:TypeId×Value→H) :
  ReturnsInHanded {} Tryz.checked os 3 .any (Rows.rawReadsSpec.pre6 enc Tryz.prog Tryz.f3 Rows.rawReadsRow.domain false) (Rows.rawReadsSpec.post enc Tryz.prog Tryz.f3 false true false false):=by
 refine returnsInHanded_of_change (C:=Tryz.checked) own started (by kernel_rfl) Tryz.func3
  (ChangeSpec.witness6 (enc:=enc) (C:=Tryz.checked) false ⟨#[],#[.agg #[.int .i64 0,.int .i64 0,.bool false,.int .i64 0],.slice none 0 0],[]⟩ 8 (by kernel_rfl) (by kernel_rfl) (by kernel_rfl) (by kernel_rfl)) ?_
 intro W base args ds gs before hval hW hcnd _
 exact arN H enc W base args ds gs before hval hW
theorem aB1:Rows.rawReadsRow.holds Tryz.pinned (OpenSpec.ofChange Rows.rawReadsSpec) :=
 OpenClaim.holds_of_wide 3 Tryz.f3 rfl rfl rfl rfl rfl rfl rfl ⟨rfl,rfl,rfl,rfl,rfl⟩ rfl rfl rfl rfl rfl (by kernel_rfl) Tryz.func3 (by kernel_rfl)
  (of_decide_eq_true (by kernel_rfl)) (by unfold Func.isWrapper;first | (rw[if_pos (by decide +kernel)];kernel_rfl) | (rw[if_neg (by decide +kernel)];exact⟨rfl,rfl⟩))
  (fun os started H enc _=>axa os started H enc)
theorem proved:Rows.RawReadsSaid :=
 aB1
#print axioms proved
end Go.Proofs.YtlkdijocbcbcpaaGreat.rawReads
