/-
  WHAT THE INTERPRETER ANSWERS (4): calls and their answers, each run by the kernel.
-/
import Derived.Test.YtdlfjlfhbgppaaaGreatSyncNamesRunC
set_option linter.unusedVariables false
namespace Go.Vm
set_option maxRecDepth 1000000
def K18 : Known := ⟨31, [.d (.lst [[Y 0], [Y 1], [Y 255], [Y 241], [Y 64], [Y 64], [Y 1], [Y 96], [Y 20], [Y 0], [Y 0], [Y 0], [Y 7]])], .tup [.agg [.d (I 0), .d (I 0), .d (.bool false), .d (I 0), .d (I 0)], .d (I 8)], ⟨[(1, .cells [.d (I 4095), .d (I 12)]), (2, .cells [.d (I 0), .d (I 1)]), (3, .cells [.d (I 0), .d (I 2)]), (4, .cells [.d (I 1), .d (I 1)]), (5, .cells [.d (I 1), .d (I 2)]), (6, .cells [.d (I 0), .d (I 4)]), (7, .cells [.d (I 0), .d (I 1)]), (8, .cells [.d (I 0), .d (I 3)]), (9, .cells [.d (I 0), .d (I 1)]), (10, .cells [.d (I 0), .d (I 1)]), (11, .cells [.d (I 0), .d (I 2)]), (12, .cells [.d (I 0), .d (I 13)]), (13, .cells [.d (I 0), .d (I 11)]), (14, .cells [.d (I 0), .d (I 2)])], 15⟩⟩
theorem h18 : EvC prog K18.f K18.args ⟨[], 0⟩ K18.v K18.hs := known_ev knows_nil 400 (by kernel_rfl)
end Go.Vm
