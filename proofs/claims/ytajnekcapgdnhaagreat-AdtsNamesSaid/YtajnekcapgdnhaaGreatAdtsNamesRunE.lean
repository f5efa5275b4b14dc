/-
  WHAT THE INTERPRETER ANSWERS (5): calls and their answers, each run by the kernel.
-/
import Derived.Test.YtajnekcapgdnhaaGreatAdtsNamesRunD
set_option linter.unusedVariables false
namespace Go.Vm
set_option maxRecDepth 1000000
def K17 : Known := ⟨25, [.agg [.d (I 0), .d (I 1), .d (.bool false), .d (I 11), .d (I 5)]], .own false 1 (List.replicate 12 ([Y 1]) ++ [[Y 0], [Y 0], [Y 0], [Y 1], [Y 0], [Y 1]] ++ List.replicate 7 ([Y 0]) ++ [[Y 1]] ++ List.replicate 13 ([Y 0]) ++ [[Y 1], [Y 0], [Y 1], [Y 1]] ++ List.replicate 8 ([Y 0]) ++ [[Y 1], [Y 0], [Y 1], [Y 0], [Y 0]]), ⟨[(0, .cells [.junk, .junk, .junk, .junk, .junk]), (1, .cells [.d (I 4095), .d (I 12)]), (2, .cells [.d (I 0), .d (I 1)]), (3, .cells [.d (I 0), .d (I 2)]), (4, .cells [.d (I 1), .d (I 1)]), (5, .cells [.d (I 1), .d (I 2)]), (6, .cells [.d (I 0), .d (I 4)]), (7, .cells [.d (I 0), .d (I 1)]), (8, .cells [.d (I 1), .d (I 3)]), (9, .cells [.d (I 0), .d (I 1)]), (10, .cells [.d (I 0), .d (I 1)]), (11, .cells [.d (I 0), .d (I 2)]), (12, .cells [.d (I 11), .d (I 13)]), (13, .cells [.d (I 5), .d (I 11)]), (14, .cells [.d (I 0), .d (I 2)])], 15⟩⟩
theorem h17 : EvC prog K17.f K17.args ⟨[], 0⟩ K17.v K17.hs := known_ev knows_nil 400 (by kernel_rfl)
end Go.Vm
