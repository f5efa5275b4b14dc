/-
  WHAT THE INTERPRETER ANSWERS (4): calls and their answers, each run by the kernel.
-/
import Derived.Test.YtajnekcapgdnhaaGreatAdtsNamesRunC
set_option linter.unusedVariables false
namespace Go.Vm
set_option maxRecDepth 1000000
def K15 : Known := ⟨31, [.agg [.d (I 0), .d (I 1), .d (.bool false), .d (I 0)], .d (.lst [[Y 0], [Y 0], [Y 0], [Y 7]])], .tup [.agg [.sl 5 0 1, .d (.bool false), .d (I 0), .nl, .nl], .d (I 0)], ⟨[(0, .cells [.d (I 0), .d (I 1), .d (.bool false), .d (I 0)]), (2, .cells [.own false 1 (List.replicate 29 ([Y 0]) ++ [[Y 1], [Y 1], [Y 1]]), .d (I 32), .d (I 0)]), (3, .cells [.d (Y 0), .d (Y 0), .d (I 0), .nl]), (4, .cells (List.replicate 9 (.junk))), (5, .arr 9 [[I 0, Y 0, Y 0, I 0, .lst [[I 1]], .lst [[.lst []]], .lst [[.lst []]], .lst [[.lst []]], .lst (List.replicate 256 ([I 0]))]])], 6⟩⟩
theorem h15 : EvC prog K15.f K15.args ⟨[], 0⟩ K15.v K15.hs := known_ev (knows_cons h0 (knows_cons h3 (knows_cons h2 (knows_cons h1 knows_nil)))) 400 (by kernel_rfl)
def K16 : Known := ⟨12, [.d (.lst [[Y 255], [Y 240], [Y 64], [Y 64], [Y 1], [Y 160], [Y 20], [Y 190], [Y 151], [Y 0], [Y 0], [Y 0], [Y 7]])], .tup [.agg [.d (I 0), .d (I 1), .d (.bool true), .d (I 13), .d (I 5)], .d (I 0)], ⟨[(1, .cells [.d (I 4095), .d (I 12)]), (2, .cells [.d (I 0), .d (I 1)]), (3, .cells [.d (I 0), .d (I 2)]), (4, .cells [.d (I 1), .d (I 1)]), (5, .cells [.d (I 1), .d (I 2)]), (6, .cells [.d (I 0), .d (I 4)]), (7, .cells [.d (I 0), .d (I 1)]), (8, .cells [.d (I 0), .d (I 3)]), (9, .cells [.d (I 0), .d (I 1)]), (10, .cells [.d (I 0), .d (I 1)]), (11, .cells [.d (I 0), .d (I 2)]), (12, .cells [.d (I 0), .d (I 13)]), (13, .cells [.d (I 0), .d (I 11)]), (14, .cells [.d (I 0), .d (I 2)])], 15⟩⟩
theorem h16 : EvC prog K16.f K16.args ⟨[], 0⟩ K16.v K16.hs := known_ev (knows_cons h12 (knows_cons h11 knows_nil)) 400 (by kernel_rfl)
end Go.Vm
