/-
  WHAT THE INTERPRETER ANSWERS (7): calls and their answers, each run by the kernel.
-/
import Derived.Test.YtajnekcapgdnhaaGreatAdtsNamesRunF
set_option linter.unusedVariables false
namespace Go.Vm
set_option maxRecDepth 1000000
def K19 : Known := ⟨4, [], .d (.bool true), ⟨[(0, .cells [.junk, .junk, .junk, .junk]), (1, .cells [.junk, .junk, .junk, .junk, .junk]), (2, .cells [.d (I 0), .d (I 0), .d (.bool false), .d (I 0), .d (I 0)]), (3, .arr 1 [[Y 255], [Y 240], [Y 64], [Y 64], [Y 1], [Y 160], [Y 20], [Y 190], [Y 151], [Y 0], [Y 0], [Y 0], [Y 7]]), (4, .cells [.d (I 0), .d (I 1), .d (.bool true), .d (I 13), .d (I 5)]), (5, .cells [.gl 1, .d (.bool false), .d (I 0), .nl, .nl]), (6, .cells [.d (I 0), .d (I 0), .d (.bool false), .d (I 0), .d (I 0)]), (7, .cells [.nl, .d (.bool false), .d (I 0), .nl, .nl])], 8⟩⟩
theorem h19 : EvC prog K19.f K19.args ⟨[], 0⟩ K19.v K19.hs := known_ev (knows_cons h4 (knows_cons h9 (knows_cons h13 (knows_cons h11 (knows_cons h6 (knows_cons h10 (knows_cons h15 (knows_cons h14 (knows_cons h16 (knows_cons h18 (knows_cons h17 knows_nil))))))))))) 400 (by kernel_rfl)
end Go.Vm
