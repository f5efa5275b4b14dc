/-
  PICKSEES: for every input the law returns true. The interpreter runs the whole program (Pk), and what it answers is what the model's machine answers (VmE).
-/
import Derived.Test.YtggjdcjbkelpmaaRows
import Derived.Test.YtggjdcjbkelpmaaPk
import Derived.WalkKit
import Derived.ProofKit
import Derived.OpenShut
import Derived.JoinedCond
namespace Go.Proofs.Ytggjdcjbkelpmaa.pickSees
open Go.ChangeShapes Go.WideShapes Go.ChangeAt Go.RowKit
set_option linter.unusedVariables false

theorem own : ownKnob Try.prog.godebug = none := by kernel_rfl
theorem tabled : Go.Vm.TabOK Try.prog Go.Vm.prog := Go.Vm.tabOK (t := Go.Vm.table) (by kernel_rfl)
theorem laid : laidOutB Try.prog = true := by kernel_rfl
theorem recsB : (Try.f3.params.toList.all fun t => Try.prog.readableRec t && decide (t < Try.prog.types.size)) = true := by kernel_rfl
theorem recs : ∀ t ∈ Try.f3.params.toList, Try.prog.readableRec t = true ∧ t < Try.prog.types.size := fun t ht => by
  have h := List.all_eq_true.1 recsB t ht
  rw [Bool.and_eq_true, decide_eq_true_eq] at h
  exact h
def tys : List (Bool × List Go.Vm.Ty) := [(false, [.lst [.int .i64]]), (false, [.int .u8]), (false, [.bool]), (false, [.bool])]
theorem tysOk : Go.Vm.argTys Try.prog 5 Try.f3.params.toList = some tys := by kernel_rfl

/-! ### The arguments -/
theorem oks1 {t : Go.Vm.Ty} : ∀ {ds : List Go.Vm.D}, Go.Vm.OkDs [t] ds → ∃ d, ds = [d] ∧ Go.Vm.OkD t d
  | [], h => by simp [Go.Vm.OkDs] at h
  | [d], h => ⟨d, rfl, by simpa [Go.Vm.OkDs] using h⟩
  | _ :: _ :: _, h => by simp [Go.Vm.OkDs] at h
theorem ok_int {k : IntKind} : ∀ {d : Go.Vm.D}, Go.Vm.OkD (.int k) d → ∃ n, d = .int k n ∧ (Lit.int k n).wf = true
  | .int j n, h => by
    simp only [Go.Vm.OkD] at h
    obtain ⟨rfl, h⟩ := h
    exact ⟨n, rfl, h⟩
  | .bool _, h => by simp [Go.Vm.OkD] at h
  | .str _, h => by simp [Go.Vm.OkD] at h
  | .lst _, h => by simp [Go.Vm.OkD] at h
theorem ok_bool : ∀ {d : Go.Vm.D}, Go.Vm.OkD .bool d → ∃ b, d = .bool b
  | .bool b, _ => ⟨b, rfl⟩
  | .int _ _, h => by simp [Go.Vm.OkD] at h
  | .str _, h => by simp [Go.Vm.OkD] at h
  | .lst _, h => by simp [Go.Vm.OkD] at h
theorem ok_lst {es : List Go.Vm.Ty} : ∀ {d : Go.Vm.D}, Go.Vm.OkD (.lst es) d → ∃ xs, d = .lst xs ∧ ∀ x ∈ xs, Go.Vm.OkDs es x
  | .lst xs, h => ⟨xs, rfl, by simpa only [Go.Vm.OkD] using h⟩
  | .int _ _, h => by simp [Go.Vm.OkD] at h
  | .str _, h => by simp [Go.Vm.OkD] at h
  | .bool _, h => by simp [Go.Vm.OkD] at h
theorem ok_nums : ∀ {xs : List (List Go.Vm.D)}, (∀ x ∈ xs, Go.Vm.OkDs [.int .i64] x) → ∃ ns, xs = Go.Vm.nums ns
  | [], _ => ⟨[], rfl⟩
  | x :: r, h => by
    obtain ⟨ns, rfl⟩ := ok_nums (xs := r) fun y hy => h y (.tail _ hy)
    obtain ⟨d, rfl, hd⟩ := oks1 (h x (.head _))
    obtain ⟨n, rfl, _⟩ := ok_int hd
    exact ⟨n :: ns, rfl⟩
theorem args_of {H : Type} : ∀ {ds : List (DataW H)}, Go.Vm.OkArgs tys ds → (∃ d1 d2 d3 d4, ds = [d1, d2, d3, d4]) ∧ ∃ ns w now next, 0 ≤ w ∧ Go.Vm.argsAV tys ds = [.d (.lst (Go.Vm.nums ns)), .d (.int .u8 w), .d (.bool now), .d (.bool next)]
  | [d1, d2, d3, d4], h => by
    simp only [tys, Go.Vm.OkArgs, and_true] at h
    obtain ⟨h1, h2, h3, h4⟩ := h
    obtain ⟨x1, e1, h1⟩ := oks1 h1
    obtain ⟨x2, e2, h2⟩ := oks1 h2
    obtain ⟨x3, e3, h3⟩ := oks1 h3
    obtain ⟨x4, e4, h4⟩ := oks1 h4
    obtain ⟨xs, rfl, h1⟩ := ok_lst h1
    obtain ⟨ns, rfl⟩ := ok_nums h1
    obtain ⟨w, rfl, hw⟩ := ok_int h2
    obtain ⟨now, rfl⟩ := ok_bool h3
    obtain ⟨next, rfl⟩ := ok_bool h4
    refine ⟨⟨_, _, _, _, rfl⟩, ns, w, now, next, ?_, ?_⟩
    · simp [Lit.wf, IntKind.min, IntKind.max, IntKind.signed, IntKind.bits] at hw
      omega
    · simp only [tys, Go.Vm.argsAV, e1, e2, e3, e4, Go.Vm.argAV]
  | [], h => by simp [tys, Go.Vm.OkArgs] at h
  | [_], h => by simp [tys, Go.Vm.OkArgs] at h
  | [_, _], h => by simp [tys, Go.Vm.OkArgs] at h
  | [_, _, _], h => by simp [tys, Go.Vm.OkArgs] at h
  | _ :: _ :: _ :: _ :: _ :: _, h => by simp [tys, Go.Vm.OkArgs] at h

/-- What the run gives, for every argument. -/
theorem contract (H : Type) (enc : TypeId × Value → H) (W : World) (base : Nat) (args : Array Value) (ds gs : List (DataW H)) (before : List MemPlace)
    (hval : ∀ (j : Nat) t v, Try.f3.params[j]? = some t → args[j]? = some v → Value.okWide Try.prog W .any base t v)
    (hW : DataW.Whole enc Try.prog Try.f3.params.toList Rows.pickSeesSpec.vars false W args.toList ds gs before) :
    Calls Try.prog 3 args W fun e W' => ∃ v, e = .returned v ∧ Rows.pickSeesSpec.post enc Try.prog Try.f3 false true false false W args v W' := by
  refine Go.Vm.law_contract tabled laid recs tysOk (tb := 4) (by kernel_rfl) (by kernel_rfl) rfl hval hW (fun h => ?_) (fun h _ => ?_)
  · obtain ⟨⟨d1, d2, d3, d4, rfl⟩, _⟩ := args_of h
    rfl
  · obtain ⟨_, ns, w, now, next, hw, e⟩ := args_of h
    obtain ⟨hs', N, hc⟩ := Go.Vm.call3 ns w hw now next
    rw [e]
    exact ⟨N, hs', hc 0⟩

set_option maxRecDepth 100000 in
theorem lifted (os : Os) (started : os.Started) (H : Type) (enc : TypeId × Value → H) :
    ReturnsInHanded {} Try.checked os 3 .any (Rows.pickSeesSpec.pre6 enc Try.prog Try.f3 Rows.pickSeesRow.domain false) (Rows.pickSeesSpec.post enc Try.prog Try.f3 false true false false) := by
  refine returnsInHanded_of_change (C := Try.checked) own started (by kernel_rfl) Try.func3
    (ChangeSpec.witness6 (enc := enc) (C := Try.checked) false ⟨#[], #[.slice none 0 0, .int .u8 0, .bool false, .bool false], []⟩ 8 (by kernel_rfl) (by kernel_rfl) (by kernel_rfl) (by kernel_rfl)) ?_
  intro W base args ds gs before hval hW hcnd _
  exact contract H enc W base args ds gs before hval hW

theorem over : Rows.pickSeesRow.holds Try.pinned (OpenSpec.ofChange Rows.pickSeesSpec) :=
  OpenClaim.holds_of_wide 3 Try.f3 rfl rfl rfl rfl rfl rfl rfl ⟨rfl, rfl, rfl, rfl, rfl⟩ rfl rfl rfl rfl rfl (by kernel_rfl) Try.func3 (by kernel_rfl)
    (of_decide_eq_true (by kernel_rfl)) (by unfold Func.isWrapper; first | (rw [if_pos (by decide +kernel)]; kernel_rfl) | (rw [if_neg (by decide +kernel)]; exact ⟨rfl, rfl⟩))
    (fun os started H enc _ => lifted os started H enc)

theorem proved : Rows.PickSeesSaid :=
  over
#print axioms proved
end Go.Proofs.Ytggjdcjbkelpmaa.pickSees
