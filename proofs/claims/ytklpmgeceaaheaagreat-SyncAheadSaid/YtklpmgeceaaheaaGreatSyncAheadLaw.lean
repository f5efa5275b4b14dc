/-
  SYNCAHEAD: for every input the law returns true. The interpreter runs the whole program, and what it answers is what the model's machine answers.
-/
import Derived.Test.YtklpmgeceaaheaaGreatRows
import Derived.Test.YtklpmgeceaaheaaGreatP5
import Derived.WalkKit
import Derived.ProofKit
import Derived.OpenShut
import Derived.JoinedCond
namespace Go.Proofs.YtklpmgeceaaheaaGreat.syncAhead
open Go.ChangeShapes Go.WideShapes Go.ChangeAt Go.RowKit
theorem own:ownKnob Tryz.prog.godebug=none:=by kernel_rfl
theorem Jf:Go.Vm.xK Tryz.prog Go.Vm.prog:=Go.Vm.afd (t:=Go.Vm.WH) (by kernel_rfl)
theorem ZK:laidOutB Tryz.prog=true:=by kernel_rfl
theorem OY:(Tryz.f5.params.toList.all fun t=>Tryz.prog.readableRec t && decide (t<Tryz.prog.types.size))=true:=by kernel_rfl
theorem Zd:∀ t∈Tryz.f5.params.toList,Tryz.prog.readableRec t=true∧t<Tryz.prog.types.size:=fun t ht=>by
 have h:=List.all_eq_true.1 OY t ht
 rw[Bool.and_eq_true,decide_eq_true_eq]at h
 exact h
def tys:List (Bool×List Go.Vm.Ty):=[(true,Go.Vm.xG),(false,[.lst [.int .u8]]),(false,[.lst [.int .u8]])]
theorem PX:Go.Vm.yq Tryz.prog 9 Tryz.f5.params.toList=some tys:=by kernel_rfl
set_option maxRecDepth 100000 in
theorem Bq (H:Type) (enc:TypeId×Value→H) (W:World) (base:Nat) (args:Array Value) (ds gs:List (DataW H)) (before:List MemPlace)
  (hval:∀ (j:Nat) t v,Tryz.f5.params[j]?=some t→args[j]?=some v→Value.okWide Tryz.prog W .any base t v)
  (hW:DataW.Whole enc Tryz.prog Tryz.f5.params.toList Rows.syncAheadSpec.vars false W args.toList ds gs before) :
  Calls Tryz.prog 5 args W fun e W'=>∃ v,e=.returned v∧Rows.syncAheadSpec.post enc Tryz.prog Tryz.f5 false true false false W args v W':=by
 refine Go.Vm.Bc Jf ZK Zd PX (tb:=4) (by kernel_rfl) (by kernel_rfl) rfl hval hW (fun h=>?_) (fun h _=>?_)
 ·obtain⟨⟨d1,d2,d3,rfl⟩,_⟩:=Go.Vm.PA h
  rfl
 ·obtain⟨_,rt,n,cb,cz,a,l,ha,hl,e⟩:=Go.Vm.PA h
  have hr:=Go.Vm.GX (Go.Vm.aim rt n cb cz a l ha hl)
  rw[←e]at hr
  exact hr
set_option maxRecDepth 100000 in
theorem IK (os:Os) (started:os.Started) (H:Type) (enc:TypeId×Value→H) :
  ReturnsInHanded {} Tryz.checked os 5 .any (Rows.syncAheadSpec.pre6 enc Tryz.prog Tryz.f5 Rows.syncAheadRow.domain false) (Rows.syncAheadSpec.post enc Tryz.prog Tryz.f5 false true false false):=by
 refine returnsInHanded_of_change (C:=Tryz.checked) own started (by kernel_rfl) Tryz.func5
  (ChangeSpec.witness6 (enc:=enc) (C:=Tryz.checked) false ⟨#[],#[.agg #[.int .i64 0,.int .i64 0,.bool false,.int .i64 0],.slice none 0 0,.slice none 0 0],[]⟩ 8 (by kernel_rfl) (by kernel_rfl) (by kernel_rfl) (by kernel_rfl)) ?_
 intro W base args ds gs before hval hW hcnd _
 exact Bq H enc W base args ds gs before hval hW
theorem XR:Rows.syncAheadRow.holds Tryz.pinned (OpenSpec.ofChange Rows.syncAheadSpec) :=
 OpenClaim.holds_of_wide 5 Tryz.f5 rfl rfl rfl rfl rfl rfl rfl ⟨rfl,rfl,rfl,rfl,rfl⟩ rfl rfl rfl rfl rfl (by kernel_rfl) Tryz.func5 (by kernel_rfl)
  (of_decide_eq_true (by kernel_rfl)) (by unfold Func.isWrapper;first | (rw[if_pos (by decide +kernel)];kernel_rfl) | (rw[if_neg (by decide +kernel)];exact⟨rfl,rfl⟩))
  (fun os started H enc _=>IK os started H enc)
theorem proved:Rows.SyncAheadSaid :=
 XR
#print axioms proved
end Go.Proofs.YtklpmgeceaaheaaGreat.syncAhead
