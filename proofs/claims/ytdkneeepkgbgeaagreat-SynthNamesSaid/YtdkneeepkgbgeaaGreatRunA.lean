/-
  WHAT THE INTERPRETER ANSWERS (1): calls and their answers, each run by the kernel.
-/
import Derived.Test.YtdkneeepkgbgeaaGreatVmE
import Derived.Test.YtdkneeepkgbgeaaGreatVc
import Derived.KernelRfl
set_option linter.unusedVariables false
namespace Go.Vm
abbrev I (n : Int) : D := .int .i64 n
abbrev Y (n : Int) : D := .int .u8 n
set_option maxRecDepth 1000000
def K0 : Known := ⟨9, [.agg [.d (.lst (List.replicate 256 ([I 0]))), .d (Y 0), .d (Y 0)]], .d (I 0), ⟨[(0, .cells [.d (.lst (List.replicate 256 ([I 0]))), .d (Y 0), .d (Y 0)])], 1⟩⟩
theorem h0 : EvC prog K0.f K0.args ⟨[], 0⟩ K0.v K0.hs := known_ev knows_nil 400 (by kernel_rfl)
def K1 : Known := ⟨3, [], .d (.bool true), ⟨[], 0⟩⟩
theorem h1 : EvC prog K1.f K1.args ⟨[], 0⟩ K1.v K1.hs := known_ev (knows_cons h0 knows_nil) 400 (by kernel_rfl)
end Go.Vm
