/-
  WHAT THE INTERPRETER ANSWERS (2): calls and their answers, each run by the kernel.
-/
import Derived.Test.YtdlfjlfhbgppaaaGreatSyncNamesRunA
set_option linter.unusedVariables false
namespace Go.Vm
set_option maxRecDepth 1000000
def K11 : Known := ⟨77, [.agg [.d (Y 0), .d (Y 0), .d (I 0), .d (.lst [[I 1]])]], .tup [.d (I 1), .d (I 0)], ⟨[(0, .cells [.d (Y 0), .d (Y 0), .d (I 0), .d (.lst [[I 1]])])], 1⟩⟩
theorem h11 : EvC prog K11.f K11.args ⟨[], 0⟩ K11.v K11.hs := known_ev knows_nil 400 (by kernel_rfl)
def K12 : Known := ⟨34, [.agg [.d (I 0), .d (I 1), .d (.bool false), .d (I 0)], .d (.lst [[Y 0], [Y 0], [Y 0], [Y 6]])], .tup [.agg [.nl, .d (.bool false), .d (I 0), .nl, .nl], .d (I 5)], ⟨[(0, .cells [.d (I 0), .d (I 1), .d (.bool false), .d (I 0)]), (2, .cells [.own false 1 (List.replicate 29 ([Y 0]) ++ [[Y 1], [Y 1], [Y 0]]), .d (I 32), .d (I 5)]), (3, .cells [.d (Y 0), .d (Y 0), .d (I 0), .nl]), (4, .cells (List.replicate 9 (.junk))), (5, .arr 9 [[I 0, Y 0, Y 0, I 0, .lst [[I 1]], .lst [[.lst []]], .lst [[.lst []]], .lst [[.lst []]], .lst (List.replicate 256 ([I 0]))]])], 6⟩⟩
theorem h12 : EvC prog K12.f K12.args ⟨[], 0⟩ K12.v K12.hs := known_ev (knows_cons h7 (knows_cons h11 (knows_cons h10 (knows_cons h9 (knows_cons h8 knows_nil))))) 400 (by kernel_rfl)
def K13 : Known := ⟨31, [.d (.lst [[Y 255], [Y 241], [Y 64], [Y 64], [Y 1], [Y 96], [Y 20], [Y 0], [Y 0], [Y 0], [Y 7]])], .tup [.agg [.d (I 0), .d (I 1), .d (.bool false), .d (I 11), .d (I 5)], .d (I 0)], ⟨[(1, .cells [.d (I 4095), .d (I 12)]), (2, .cells [.d (I 0), .d (I 1)]), (3, .cells [.d (I 0), .d (I 2)]), (4, .cells [.d (I 1), .d (I 1)]), (5, .cells [.d (I 1), .d (I 2)]), (6, .cells [.d (I 0), .d (I 4)]), (7, .cells [.d (I 0), .d (I 1)]), (8, .cells [.d (I 0), .d (I 3)]), (9, .cells [.d (I 0), .d (I 1)]), (10, .cells [.d (I 0), .d (I 1)]), (11, .cells [.d (I 0), .d (I 2)]), (12, .cells [.d (I 0), .d (I 13)]), (13, .cells [.d (I 0), .d (I 11)]), (14, .cells [.d (I 0), .d (I 2)])], 15⟩⟩
theorem h13 : EvC prog K13.f K13.args ⟨[], 0⟩ K13.v K13.hs := known_ev (knows_cons h0 (knows_cons h1 (knows_cons h2 (knows_cons h3 (knows_cons h4 (knows_cons h5 (knows_cons h6 knows_nil))))))) 400 (by kernel_rfl)
def K14 : Known := ⟨15, [.agg [.d (I 0), .d (I 1), .d (.bool false), .d (I 0)], .d (.lst [[Y 255], [Y 241], [Y 64], [Y 64], [Y 1], [Y 96], [Y 20], [Y 0], [Y 0], [Y 0], [Y 7]])], .d (I 11), ⟨[(0, .cells [.d (I 0), .d (I 1), .d (.bool false), .d (I 0)]), (1, .cells [.d (I 0), .d (I 1), .d (.bool false), .d (I 11), .d (I 5)])], 2⟩⟩
theorem h14 : EvC prog K14.f K14.args ⟨[], 0⟩ K14.v K14.hs := known_ev (knows_cons h13 knows_nil) 400 (by kernel_rfl)
end Go.Vm
