/-
  WHAT THE INTERPRETER ANSWERS (2): calls and their answers, each run by the kernel.
-/
import Derived.Test.YtjadbiddbfpndaaGreatIcsNamesRunA
set_option linter.unusedVariables false
namespace Go.Vm
set_option maxRecDepth 1000000
def K7 : Known := ⟨3, [], .d (.bool true), ⟨[(0, .cells [.d (I 0), .d (Y 0), .d (Y 0), .d (I 0), .nl, .nl, .nl, .nl, .nl]), (1, .arr 1 (List.replicate 8 ([Y 0]) ++ [[Y 1], [Y 0], [Y 0]])), (2, .cells [.d (I 0), .d (Y 0), .d (Y 0), .d (I 0), .nl, .nl, .nl, .nl, .nl]), (3, .cells [.d (I 0), .d (Y 0), .d (Y 0), .d (I 0), .d (.lst [[I 1]]), .d (.lst [[.lst []]]), .d (.lst [[.lst []]]), .d (.lst [[.lst []]]), .own false 1 (List.replicate 256 ([I 0]))]), (4, .cells [.d (I 0), .d (Y 0), .d (Y 0), .d (I 0), .nl, .nl, .nl, .nl, .nl])], 5⟩⟩
theorem h7 : EvC prog K7.f K7.args ⟨[], 0⟩ K7.v K7.hs := known_ev (knows_cons h3 (knows_cons h2 (knows_cons h1 (knows_cons h0 (knows_cons h5 (knows_cons h6 knows_nil)))))) 400 (by kernel_rfl)
end Go.Vm
