/-
  ICSONCE: for every input the law returns true. The interpreter runs the whole program, and what it answers is what the model's machine answers.
-/
import Derived.Test.YtihfeifaelcdaaaGreatRows
import Derived.Test.YtihfeifaelcdaaaGreatP5
import Derived.WalkKit
import Derived.ProofKit
import Derived.OpenShut
import Derived.JoinedCond
namespace Go.Proofs.YtihfeifaelcdaaaGreat.icsOnce
open Go.ChangeShapes Go.WideShapes Go.ChangeAt Go.RowKit
theorem own:ownKnob Tryz.prog.godebug=none:=by kernel_rfl
theorem azl:Go.Vm.D1 Tryz.prog Go.Vm.prog:=Go.Vm.az8 (t:=Go.Vm.auF) (by kernel_rfl)
theorem aDo:laidOutB Tryz.prog=true:=by kernel_rfl
theorem aAU:(Tryz.f4.params.toList.all fun t=>Tryz.prog.readableRec t && decide (t<Tryz.prog.types.size))=true:=by kernel_rfl
theorem aDe:∀ t∈Tryz.f4.params.toList,Tryz.prog.readableRec t=true∧t<Tryz.prog.types.size:=fun t ht=>by
 have h:=List.all_eq_true.1 aAU t ht
 rw[Bool.and_eq_true,decide_eq_true_eq]at h
 exact h
def tys:List (Bool×List Go.Vm.Ty):=[(false,[.lst [.int .u8]]),(false,[.int .i64]),(false,[.int .i64]),(false,[.bool]),(true,Go.Vm.ah3)]
theorem azY:Go.Vm.FJ Tryz.prog 9 Tryz.f4.params.toList=some tys:=by kernel_rfl
set_option maxRecDepth 100000 in
theorem ar4 (H:Type) (enc:TypeId×Value→H) (W:World) (base:Nat) (args:Array Value) (ds gs:List (DataW H)) (before:List MemPlace)
  (hval:∀ (j:Nat) t v,Tryz.f4.params[j]?=some t→args[j]?=some v→Value.okWide Tryz.prog W .any base t v)
  (hW:DataW.Whole enc Tryz.prog Tryz.f4.params.toList Rows.icsOnceSpec.vars false W args.toList ds gs before) :
  Calls Tryz.prog 4 args W fun e W'=>∃ v,e=.returned v∧Rows.icsOnceSpec.post enc Tryz.prog Tryz.f4 false true false false W args v W':=by
 refine Go.Vm.ajH azl aDo aDe azY (tb:=4) (by kernel_rfl) (by kernel_rfl) rfl hval hW (fun h=>?_) (fun h _=>?_)
 ·obtain⟨⟨d1,d2,d3,d4,d5,rfl⟩,_⟩:=Go.Vm.afB h
  rfl
 ·obtain⟨_,l,a,rt,q,i,ha,hi,e⟩:=Go.Vm.afB h
  have hr:=Go.Vm.apd (Go.Vm.asS l a rt ha q i hi)
  rw[←e]at hr
  exact hr
set_option maxRecDepth 100000 in
theorem ayb (os:Os) (started:os.Started) (H:Type) (enc:TypeId×Value→H) :
  ReturnsInHanded {} Tryz.checked os 4 .any (Rows.icsOnceSpec.pre6 enc Tryz.prog Tryz.f4 Rows.icsOnceRow.domain false) (Rows.icsOnceSpec.post enc Tryz.prog Tryz.f4 false true false false):=by
 refine returnsInHanded_of_change (C:=Tryz.checked) own started (by kernel_rfl) Tryz.func4
  (ChangeSpec.witness6 (enc:=enc) (C:=Tryz.checked) false ⟨#[],#[.slice none 0 0,.int .i64 0,.int .i64 0,.bool false,.agg #[.int .u8 0,.int .u8 0,.int .i64 0,.slice none 0 0]],[]⟩ 8 (by kernel_rfl) (by kernel_rfl) (by kernel_rfl) (by kernel_rfl)) ?_
 intro W base args ds gs before hval hW hcnd _
 exact ar4 H enc W base args ds gs before hval hW
theorem aCY:Rows.icsOnceRow.holds Tryz.pinned (OpenSpec.ofChange Rows.icsOnceSpec) :=
 OpenClaim.holds_of_wide 4 Tryz.f4 rfl rfl rfl rfl rfl rfl rfl ⟨rfl,rfl,rfl,rfl,rfl⟩ rfl rfl rfl rfl rfl (by kernel_rfl) Tryz.func4 (by kernel_rfl)
  (of_decide_eq_true (by kernel_rfl)) (by unfold Func.isWrapper;first | (rw[if_pos (by decide +kernel)];kernel_rfl) | (rw[if_neg (by decide +kernel)];exact⟨rfl,rfl⟩))
  (fun os started H enc _=>ayb os started H enc)
theorem proved:Rows.IcsOnceSaid :=
 aCY
#print axioms proved
end Go.Proofs.YtihfeifaelcdaaaGreat.icsOnce
