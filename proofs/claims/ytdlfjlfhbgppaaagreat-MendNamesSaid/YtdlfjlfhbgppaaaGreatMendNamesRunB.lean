/-
  WHAT THE INTERPRETER ANSWERS (2): calls and their answers, each run by the kernel.
-/
import Derived.Test.YtdlfjlfhbgppaaaGreatMendNamesRunA
set_option linter.unusedVariables false
namespace Go.Vm
set_option maxRecDepth 1000000
def K10 : Known := ⟨86, [.d (I 0), .agg [.d (I 0), .d (Y 0), .d (Y 0), .d (I 0), .d (.lst [[I 1]]), .d (.lst [[.lst []]]), .d (.lst [[.lst []]]), .d (.lst [[.lst []]]), .d (.lst (List.replicate 256 ([I 0])))], .d (I 1)], .d (.bool true), ⟨[(0, .cells [.d (I 0), .d (Y 0), .d (Y 0), .d (I 0), .d (.lst [[I 1]]), .d (.lst [[.lst []]]), .d (.lst [[.lst []]]), .d (.lst [[.lst []]]), .d (.lst (List.replicate 256 ([I 0])))])], 1⟩⟩
theorem h10 : EvC prog K10.f K10.args ⟨[], 0⟩ K10.v K10.hs := known_ev (knows_cons h0 (knows_cons h9 knows_nil)) 400 (by kernel_rfl)
def K11 : Known := ⟨43, [.d (I 0), .agg [.d (I 0), .d (Y 0), .d (Y 0), .d (I 0), .d (.lst [[I 1]]), .d (.lst [[.lst []]]), .d (.lst [[.lst []]]), .d (.lst [[.lst []]]), .d (.lst (List.replicate 256 ([I 0])))]], .d (I 0), ⟨[(0, .cells [.d (I 0)]), (1, .cells [.d (I 0), .d (Y 0), .d (Y 0), .d (I 0), .d (.lst [[I 1]]), .d (.lst [[.lst []]]), .d (.lst [[.lst []]]), .d (.lst [[.lst []]]), .d (.lst (List.replicate 256 ([I 0])))]), (2, .cells [.d (I 1)]), (3, .cells [.fn 78 [] [.ptr 1 0], .fn 79 [] [.ptr 1 0], .fn 81 [] [.ptr 1 0], .fn 83 [] [.ptr 1 0, .ptr 2 0], .fn 85 [] [.ptr 0 0, .ptr 1 0, .ptr 2 0]])], 4⟩⟩
theorem h11 : EvC prog K11.f K11.args ⟨[], 0⟩ K11.v K11.hs := known_ev (knows_cons h8 (knows_cons h9 (knows_cons h10 knows_nil))) 400 (by kernel_rfl)
end Go.Vm
