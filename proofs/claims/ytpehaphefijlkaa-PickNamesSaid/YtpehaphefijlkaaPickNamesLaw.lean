/-
  PickNames: the law returns true. The interpreter runs the law (Run), and what it answers is what the model's machine answers (VmE).
-/
import Derived.Test.YtpehaphefijlkaaRows
import Derived.Test.YtpehaphefijlkaaPickNamesRun
import Derived.WalkKit
import Derived.ProofKit
import Derived.OpenShut
import Derived.JoinedCond
namespace Go.Proofs.Ytpehaphefijlkaa.pickNames
open Go.ChangeShapes Go.WideShapes Go.ChangeAt Go.RowKit
set_option linter.unusedVariables false

theorem own : ownKnob Try.prog.godebug = none := by kernel_rfl
theorem tabled : Go.Vm.TabOK Try.prog Go.Vm.prog := Go.Vm.tabOK (t := Go.Vm.table) (by kernel_rfl)
theorem laid : laidOutB Try.prog = true := by kernel_rfl
theorem recsB : (Try.f3.params.toList.all fun t => Try.prog.readableRec t && decide (t < Try.prog.types.size)) = true := by kernel_rfl
theorem recs : ∀ t ∈ Try.f3.params.toList, Try.prog.readableRec t = true ∧ t < Try.prog.types.size := fun t ht => by
  have h := List.all_eq_true.1 recsB t ht
  rw [Bool.and_eq_true, decide_eq_true_eq] at h
  exact h
def tys : List (Bool × List Go.Vm.Ty) := []
theorem tysOk : Go.Vm.argTys Try.prog 5 Try.f3.params.toList = some tys := by kernel_rfl
theorem args_of {H : Type} : ∀ {ds : List (DataW H)}, Go.Vm.OkArgs tys ds → ds = []
  | [], _ => rfl
  | _ :: _, h => by simp [tys, Go.Vm.OkArgs] at h

set_option maxRecDepth 100000 in
/-- What the run gives. -/
theorem contract (H : Type) (enc : TypeId × Value → H) (W : World) (base : Nat) (args : Array Value) (ds gs : List (DataW H)) (before : List MemPlace)
    (hval : ∀ (j : Nat) t v, Try.f3.params[j]? = some t → args[j]? = some v → Value.okWide Try.prog W .any base t v)
    (hW : DataW.Whole enc Try.prog Try.f3.params.toList Rows.pickNamesSpec.vars false W args.toList ds gs before) :
    Calls Try.prog 3 args W fun e W' => ∃ v, e = .returned v ∧ Rows.pickNamesSpec.post enc Try.prog Try.f3 false true false false W args v W' := by
  refine Go.Vm.law_contract tabled laid recs tysOk (tb := 4) (by kernel_rfl) (by kernel_rfl) rfl hval hW (fun h => ?_) (fun h _ => ?_)
  · rw [args_of h]
    rfl
  · obtain ⟨N, hc⟩ := Go.Vm.h15
    rw [args_of h]
    exact ⟨N, _, hc 0⟩

set_option maxRecDepth 100000 in
theorem lifted (os : Os) (started : os.Started) (H : Type) (enc : TypeId × Value → H) :
    ReturnsInHanded {} Try.checked os 3 .any (Rows.pickNamesSpec.pre6 enc Try.prog Try.f3 Rows.pickNamesRow.domain false) (Rows.pickNamesSpec.post enc Try.prog Try.f3 false true false false) := by
  refine returnsInHanded_of_change (C := Try.checked) own started (by kernel_rfl) Try.func3
    (ChangeSpec.witness6 (enc := enc) (C := Try.checked) false ⟨#[], #[], []⟩ 8 (by kernel_rfl) (by kernel_rfl) (by kernel_rfl) (by kernel_rfl)) ?_
  intro W base args ds gs before hval hW hcnd _
  exact contract H enc W base args ds gs before hval hW

theorem over : Rows.pickNamesRow.holds Try.pinned (OpenSpec.ofChange Rows.pickNamesSpec) :=
  OpenClaim.holds_of_wide 3 Try.f3 rfl rfl rfl rfl rfl rfl rfl ⟨rfl, rfl, rfl, rfl, rfl⟩ rfl rfl rfl rfl rfl (by kernel_rfl) Try.func3 (by kernel_rfl)
    (of_decide_eq_true (by kernel_rfl)) (by unfold Func.isWrapper; first | (rw [if_pos (by decide +kernel)]; kernel_rfl) | (rw [if_neg (by decide +kernel)]; exact ⟨rfl, rfl⟩))
    (fun os started H enc _ => lifted os started H enc)

theorem proved : Rows.PickNamesSaid :=
  over
#print axioms proved
end Go.Proofs.Ytpehaphefijlkaa.pickNames
