/-
  WHAT THE INTERPRETER ANSWERS (3): calls and their answers, each run by the kernel.
-/
import Derived.Test.YtajnekcapgdnhaaGreatAdtsNamesRunB
set_option linter.unusedVariables false
namespace Go.Vm
set_option maxRecDepth 1000000
def K13 : Known := ⟨26, [.d (.lst [[.lst [[Y 255], [Y 240], [Y 64], [Y 64], [Y 1], [Y 160], [Y 20]]], [.lst [[Y 0], [Y 0], [Y 0], [Y 7]]]])], .d (I 48790), ⟨[], 0⟩⟩
theorem h13 : EvC prog K13.f K13.args ⟨[], 0⟩ K13.v K13.hs := known_ev (knows_cons h12 knows_nil) 400 (by kernel_rfl)
def K14 : Known := ⟨12, [.d (.lst [[Y 255], [Y 240], [Y 64], [Y 64], [Y 1], [Y 160], [Y 20], [Y 190], [Y 150], [Y 0], [Y 0], [Y 0], [Y 7]])], .tup [.agg [.d (I 0), .d (I 1), .d (.bool true), .d (I 13), .d (I 5)], .d (I 0)], ⟨[(1, .cells [.d (I 4095), .d (I 12)]), (2, .cells [.d (I 0), .d (I 1)]), (3, .cells [.d (I 0), .d (I 2)]), (4, .cells [.d (I 1), .d (I 1)]), (5, .cells [.d (I 1), .d (I 2)]), (6, .cells [.d (I 0), .d (I 4)]), (7, .cells [.d (I 0), .d (I 1)]), (8, .cells [.d (I 0), .d (I 3)]), (9, .cells [.d (I 0), .d (I 1)]), (10, .cells [.d (I 0), .d (I 1)]), (11, .cells [.d (I 0), .d (I 2)]), (12, .cells [.d (I 0), .d (I 13)]), (13, .cells [.d (I 0), .d (I 11)]), (14, .cells [.d (I 0), .d (I 2)])], 15⟩⟩
theorem h14 : EvC prog K14.f K14.args ⟨[], 0⟩ K14.v K14.hs := known_ev (knows_cons h12 (knows_cons h11 knows_nil)) 400 (by kernel_rfl)
end Go.Vm
