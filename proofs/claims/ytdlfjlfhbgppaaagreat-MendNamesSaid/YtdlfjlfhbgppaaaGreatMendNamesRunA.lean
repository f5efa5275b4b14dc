/-
  WHAT THE INTERPRETER ANSWERS (1): calls and their answers, each run by the kernel.
-/
import Derived.Test.YtdlfjlfhbgppaaaGreatVmE
import Derived.Test.YtdlfjlfhbgppaaaGreatMendNamesVc
import Derived.KernelRfl
set_option linter.unusedVariables false
namespace Go.Vm
abbrev I (n : Int) : D := .int .i64 n
abbrev Y (n : Int) : D := .int .u8 n
set_option maxRecDepth 1000000
def K0 : Known := ⟨128, [.d (I 0), .d (.bool false)], .tup [.own false 1 [[I 0], [I 4], [I 8], [I 12], [I 16], [I 20], [I 24], [I 28], [I 32], [I 40], [I 48], [I 56], [I 64], [I 76], [I 88], [I 100], [I 116], [I 132], [I 152], [I 172], [I 196], [I 224], [I 256]], .d (I 0)], ⟨[], 0⟩⟩
theorem h0 : EvC prog K0.f K0.args ⟨[], 0⟩ K0.v K0.hs := known_ev knows_nil 400 (by kernel_rfl)
def K1 : Known := ⟨105, [.d (I 0), .d (.bool false)], .tup [.d (I 22), .d (I 0)], ⟨[], 0⟩⟩
theorem h1 : EvC prog K1.f K1.args ⟨[], 0⟩ K1.v K1.hs := known_ev (knows_cons h0 knows_nil) 400 (by kernel_rfl)
def K2 : Known := ⟨43, [.d (I 0), .agg [.d (I 0), .d (Y 0), .d (Y 0), .d (I 0), .d (.lst []), .d (.lst []), .d (.lst []), .d (.lst []), .d (.lst [])]], .d (I 8), ⟨[(0, .cells [.d (I 0)]), (1, .cells [.d (I 0), .d (Y 0), .d (Y 0), .d (I 0), .d (.lst []), .d (.lst []), .d (.lst []), .d (.lst []), .d (.lst [])])], 2⟩⟩
theorem h2 : EvC prog K2.f K2.args ⟨[], 0⟩ K2.v K2.hs := known_ev (knows_cons h1 knows_nil) 400 (by kernel_rfl)
def K3 : Known := ⟨76, [.d (I 0), .agg [.d (Y 3), .d (Y 0), .d (I 0), .d (.lst [[I 1]])]], .d (I 0), ⟨[(0, .cells [.d (Y 3), .d (Y 0), .d (I 0), .d (.lst [[I 1]])])], 1⟩⟩
theorem h3 : EvC prog K3.f K3.args ⟨[], 0⟩ K3.v K3.hs := known_ev (knows_cons h1 knows_nil) 400 (by kernel_rfl)
def K4 : Known := ⟨105, [.d (I 11), .d (.bool false)], .tup [.d (I 40), .d (I 0)], ⟨[], 0⟩⟩
theorem h4 : EvC prog K4.f K4.args ⟨[], 0⟩ K4.v K4.hs := known_ev knows_nil 400 (by kernel_rfl)
def K5 : Known := ⟨77, [.agg [.d (Y 3), .d (Y 0), .d (I 0), .d (.lst [[I 1]])]], .tup [.d (I 1), .d (I 0)], ⟨[(0, .cells [.d (Y 3), .d (Y 0), .d (I 0), .d (.lst [[I 1]])])], 1⟩⟩
theorem h5 : EvC prog K5.f K5.args ⟨[], 0⟩ K5.v K5.hs := known_ev (knows_cons h4 knows_nil) 400 (by kernel_rfl)
def K6 : Known := ⟨86, [.d (I 0), .agg [.d (I 0), .d (Y 3), .d (Y 0), .d (I 0), .d (.lst [[I 1]]), .d (.lst [[.lst []]]), .d (.lst [[.lst []]]), .d (.lst [[.lst []]]), .d (.lst (List.replicate 256 ([I 0])))], .d (I 1)], .d (.bool true), ⟨[(0, .cells [.d (I 0), .d (Y 3), .d (Y 0), .d (I 0), .d (.lst [[I 1]]), .d (.lst [[.lst []]]), .d (.lst [[.lst []]]), .d (.lst [[.lst []]]), .d (.lst (List.replicate 256 ([I 0])))])], 1⟩⟩
theorem h6 : EvC prog K6.f K6.args ⟨[], 0⟩ K6.v K6.hs := known_ev (knows_cons h0 (knows_cons h5 knows_nil)) 400 (by kernel_rfl)
def K7 : Known := ⟨43, [.d (I 0), .agg [.d (I 0), .d (Y 3), .d (Y 0), .d (I 0), .d (.lst [[I 1]]), .d (.lst [[.lst []]]), .d (.lst [[.lst []]]), .d (.lst [[.lst []]]), .d (.lst (List.replicate 256 ([I 0])))]], .d (I 0), ⟨[(0, .cells [.d (I 0)]), (1, .cells [.d (I 0), .d (Y 3), .d (Y 0), .d (I 0), .d (.lst [[I 1]]), .d (.lst [[.lst []]]), .d (.lst [[.lst []]]), .d (.lst [[.lst []]]), .d (.lst (List.replicate 256 ([I 0])))]), (2, .cells [.d (I 1)]), (3, .cells [.fn 78 [] [.ptr 1 0], .fn 79 [] [.ptr 1 0], .fn 81 [] [.ptr 1 0], .fn 83 [] [.ptr 1 0, .ptr 2 0], .fn 85 [] [.ptr 0 0, .ptr 1 0, .ptr 2 0]])], 4⟩⟩
theorem h7 : EvC prog K7.f K7.args ⟨[], 0⟩ K7.v K7.hs := known_ev (knows_cons h3 (knows_cons h5 (knows_cons h6 knows_nil))) 400 (by kernel_rfl)
def K8 : Known := ⟨76, [.d (I 0), .agg [.d (Y 0), .d (Y 0), .d (I 0), .d (.lst [[I 1]])]], .d (I 0), ⟨[(0, .cells [.d (Y 0), .d (Y 0), .d (I 0), .d (.lst [[I 1]])])], 1⟩⟩
theorem h8 : EvC prog K8.f K8.args ⟨[], 0⟩ K8.v K8.hs := known_ev (knows_cons h1 knows_nil) 400 (by kernel_rfl)
def K9 : Known := ⟨77, [.agg [.d (Y 0), .d (Y 0), .d (I 0), .d (.lst [[I 1]])]], .tup [.d (I 1), .d (I 0)], ⟨[(0, .cells [.d (Y 0), .d (Y 0), .d (I 0), .d (.lst [[I 1]])])], 1⟩⟩
theorem h9 : EvC prog K9.f K9.args ⟨[], 0⟩ K9.v K9.hs := known_ev (knows_cons h4 knows_nil) 400 (by kernel_rfl)
end Go.Vm
