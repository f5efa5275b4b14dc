/-
  ICSGETS: for every input the law returns true. The interpreter runs the whole program, and what it answers is what the model's machine answers.
-/
import Derived.Test.YtaonpbailcljnaaGreatRows
import Derived.Test.YtaonpbailcljnaaGreatP7
import Derived.WalkKit
import Derived.ProofKit
import Derived.OpenShut
import Derived.JoinedCond
namespace Go.Vm
theorem bl_bool {w : AV} {b : Bool} (e : dZ w = .d (.bool b)) : w = .d (.bool b) := by
  unfold dZ at e
  split at e
  · cases w <;> simp [nA, kX, lV] at e ⊢ <;> exact e
  · exact e
theorem top_bool {h : ak} {v : AV} {b : Bool} (e : fq h v = some (.d (.bool b))) : v = .d (.bool b) := by
  unfold fq at e
  split at e
  · split at e
    · simp only [Option.some.injEq] at e
      exact absurd (bl_bool e) (by simp)
    · simp at e
  · split at e
    · rename_i x q hq
      simp only [Option.some.injEq] at e
      have hx := bl_bool e
      subst hx
      unfold fG at hq
      split at hq
      · split at hq <;> simp at hq
      · unfold jF at hq
        split at hq
        · simp only [Option.some.injEq, Prod.mk.injEq] at hq
          exact hq.1
        · simp at hq
        · simp at hq
        · split at hq
          · split at hq <;> simp at hq
          · simp at hq
        · simp at hq
    · simp at e
theorem run_of_ans {P : Nat → Option aj} {f : FuncId} {vs : List AV} {b : Bool} (h : bl P f vs = some (.d (.bool b))) : ∃ m hs, (run P m).call f vs ⟨[], 0⟩ = some (.d (.bool b), hs) := by
  unfold bl at h
  cases hc : (Dn P).call f vs ⟨[], 0⟩ with
  | none => rw [hc] at h; simp [kH] at h
  | some q =>
    obtain ⟨v, hs⟩ := q
    rw [hc] at h
    have := top_bool h
    subst this
    obtain ⟨m, hm⟩ := C5 hc
    exact ⟨m, hs, hm⟩
end Go.Vm
namespace Go.Proofs.YtaonpbailcljnaaGreat.icsGets
open Go.ChangeShapes Go.WideShapes Go.ChangeAt Go.RowKit
theorem own:ownKnob Tryz.prog.godebug=none:=by kernel_rfl
theorem akH:Go.Vm.EN Tryz.prog Go.Vm.prog:=Go.Vm.anz (t:=Go.Vm.ahT) (by kernel_rfl)
theorem arF:laidOutB Tryz.prog=true:=by kernel_rfl
theorem anW:(Tryz.f3.params.toList.all fun t=>Tryz.prog.readableRec t && decide (t<Tryz.prog.types.size))=true:=by kernel_rfl
theorem arA:∀ t∈Tryz.f3.params.toList,Tryz.prog.readableRec t=true∧t<Tryz.prog.types.size:=fun t ht=>by
 have h:=List.all_eq_true.1 anW t ht
 rw[Bool.and_eq_true,decide_eq_true_eq]at h
 exact h
def tys:List (Bool×List Go.Vm.Ty):=[(false,[.lst [.int .u8]]),(false,[.int .i64]),(false,[.int .i64]),(false,[.bool]),(true,Go.Vm.Vk)]
theorem anT:Go.Vm.GG Tryz.prog 9 Tryz.f3.params.toList=some tys:=by kernel_rfl
set_option maxRecDepth 100000 in
theorem agc (H:Type) (enc:TypeId×Value→H) (W:World) (base:Nat) (args:Array Value) (ds gs:List (DataW H)) (before:List MemPlace)
  (hval:∀ (j:Nat) t v,Tryz.f3.params[j]?=some t→args[j]?=some v→Value.okWide Tryz.prog W .any base t v)
  (hW:DataW.Whole enc Tryz.prog Tryz.f3.params.toList Rows.icsGetsSpec.vars false W args.toList ds gs before) :
  Calls Tryz.prog 3 args W fun e W'=>∃ v,e=.returned v∧Rows.icsGetsSpec.post enc Tryz.prog Tryz.f3 false true false false W args v W':=by
 refine Go.Vm.XB akH arF arA anT (tb:=4) (by kernel_rfl) (by kernel_rfl) rfl hval hW (fun h=>?_) (fun h _=>?_)
 ·obtain⟨⟨d1,d2,d3,d4,d5,rfl⟩,_⟩:=Go.Vm.Tt h
  rfl
 ·obtain⟨_,l,a,rt,q,i,ha,hi,e⟩:=Go.Vm.Tt h
  have hr:=Go.Vm.run_of_ans (Go.Vm.afX l a rt ha q i hi)
  rw[←e]at hr
  exact hr
set_option maxRecDepth 100000 in
theorem alw (os:Os) (started:os.Started) (H:Type) (enc:TypeId×Value→H) :
  ReturnsInHanded {} Tryz.checked os 3 .any (Rows.icsGetsSpec.pre6 enc Tryz.prog Tryz.f3 Rows.icsGetsRow.domain false) (Rows.icsGetsSpec.post enc Tryz.prog Tryz.f3 false true false false):=by
 refine returnsInHanded_of_change (C:=Tryz.checked) own started (by kernel_rfl) Tryz.func3
  (ChangeSpec.witness6 (enc:=enc) (C:=Tryz.checked) false ⟨#[],#[.slice none 0 0,.int .i64 0,.int .i64 0,.bool false,.agg #[.int .u8 0,.int .u8 0,.int .i64 0,.slice none 0 0]],[]⟩ 8 (by kernel_rfl) (by kernel_rfl) (by kernel_rfl) (by kernel_rfl)) ?_
 intro W base args ds gs before hval hW hcnd _
 exact agc H enc W base args ds gs before hval hW
theorem ap8:Rows.icsGetsRow.holds Tryz.pinned (OpenSpec.ofChange Rows.icsGetsSpec) :=
 OpenClaim.holds_of_wide 3 Tryz.f3 rfl rfl rfl rfl rfl rfl rfl ⟨rfl,rfl,rfl,rfl,rfl⟩ rfl rfl rfl rfl rfl (by kernel_rfl) Tryz.func3 (by kernel_rfl)
  (of_decide_eq_true (by kernel_rfl)) (by unfold Func.isWrapper;first | (rw[if_pos (by decide +kernel)];kernel_rfl) | (rw[if_neg (by decide +kernel)];exact⟨rfl,rfl⟩))
  (fun os started H enc _=>alw os started H enc)
theorem proved:Rows.IcsGetsSaid :=
 ap8
#print axioms proved
end Go.Proofs.YtaonpbailcljnaaGreat.icsGets
