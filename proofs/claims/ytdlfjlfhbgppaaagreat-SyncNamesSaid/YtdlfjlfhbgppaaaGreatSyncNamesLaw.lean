/-
  SyncNames: the law returns true. The interpreter runs the law (Run), and what it answers is what the model's machine answers (VmE).
-/
import Derived.Test.YtdlfjlfhbgppaaaGreatRows
import Derived.Test.YtdlfjlfhbgppaaaGreatSyncNamesRunE
import Derived.WalkKit
import Derived.ProofKit
import Derived.OpenShut
import Derived.JoinedCond
namespace Go.Proofs.YtdlfjlfhbgppaaaGreat.syncNames
open Go.ChangeShapes Go.WideShapes Go.ChangeAt Go.RowKit
set_option linter.unusedVariables false

theorem own : ownKnob Tryz.prog.godebug = none := by kernel_rfl
theorem tabled : Go.Vm.TabOK Tryz.prog Go.Vm.prog := Go.Vm.tabOK (t := Go.Vm.table) (by kernel_rfl)
theorem laid : laidOutB Tryz.prog = true := by kernel_rfl
theorem recsB : (Tryz.f4.params.toList.all fun t => Tryz.prog.readableRec t && decide (t < Tryz.prog.types.size)) = true := by kernel_rfl
theorem recs : ∀ t ∈ Tryz.f4.params.toList, Tryz.prog.readableRec t = true ∧ t < Tryz.prog.types.size := fun t ht => by
  have h := List.all_eq_true.1 recsB t ht
  rw [Bool.and_eq_true, decide_eq_true_eq] at h
  exact h
def tys : List (Bool × List Go.Vm.Ty) := []
theorem tysOk : Go.Vm.argTys Tryz.prog 5 Tryz.f4.params.toList = some tys := by kernel_rfl
theorem args_of {H : Type} : ∀ {ds : List (DataW H)}, Go.Vm.OkArgs tys ds → ds = []
  | [], _ => rfl
  | _ :: _, h => by simp [tys, Go.Vm.OkArgs] at h

set_option maxRecDepth 100000 in
/-- What the run gives. -/
theorem contract (H : Type) (enc : TypeId × Value → H) (W : World) (base : Nat) (args : Array Value) (ds gs : List (DataW H)) (before : List MemPlace)
    (hval : ∀ (j : Nat) t v, Tryz.f4.params[j]? = some t → args[j]? = some v → Value.okWide Tryz.prog W .any base t v)
    (hW : DataW.Whole enc Tryz.prog Tryz.f4.params.toList Rows.syncNamesSpec.vars false W args.toList ds gs before) :
    Calls Tryz.prog 4 args W fun e W' => ∃ v, e = .returned v ∧ Rows.syncNamesSpec.post enc Tryz.prog Tryz.f4 false true false false W args v W' := by
  refine Go.Vm.law_contract tabled laid recs tysOk (tb := 4) (by kernel_rfl) (by kernel_rfl) rfl hval hW (fun h => ?_) (fun h _ => ?_)
  · rw [args_of h]
    rfl
  · obtain ⟨N, hc⟩ := Go.Vm.h19
    rw [args_of h]
    exact ⟨N, _, hc 0⟩

set_option maxRecDepth 100000 in
theorem lifted (os : Os) (started : os.Started) (H : Type) (enc : TypeId × Value → H) :
    ReturnsInHanded {} Tryz.checked os 4 .any (Rows.syncNamesSpec.pre6 enc Tryz.prog Tryz.f4 Rows.syncNamesRow.domain false) (Rows.syncNamesSpec.post enc Tryz.prog Tryz.f4 false true false false) := by
  refine returnsInHanded_of_change (C := Tryz.checked) own started (by kernel_rfl) Tryz.func4
    (ChangeSpec.witness6 (enc := enc) (C := Tryz.checked) false ⟨#[], #[], []⟩ 8 (by kernel_rfl) (by kernel_rfl) (by kernel_rfl) (by kernel_rfl)) ?_
  intro W base args ds gs before hval hW hcnd _
  exact contract H enc W base args ds gs before hval hW

theorem over : Rows.syncNamesRow.holds Tryz.pinned (OpenSpec.ofChange Rows.syncNamesSpec) :=
  OpenClaim.holds_of_wide 4 Tryz.f4 rfl rfl rfl rfl rfl rfl rfl ⟨rfl, rfl, rfl, rfl, rfl⟩ rfl rfl rfl rfl rfl (by kernel_rfl) Tryz.func4 (by kernel_rfl)
    (of_decide_eq_true (by kernel_rfl)) (by unfold Func.isWrapper; first | (rw [if_pos (by decide +kernel)]; kernel_rfl) | (rw [if_neg (by decide +kernel)]; exact ⟨rfl, rfl⟩))
    (fun os started H enc _ => lifted os started H enc)

theorem proved : Rows.SyncNamesSaid :=
  over
#print axioms proved
end Go.Proofs.YtdlfjlfhbgppaaaGreat.syncNames
