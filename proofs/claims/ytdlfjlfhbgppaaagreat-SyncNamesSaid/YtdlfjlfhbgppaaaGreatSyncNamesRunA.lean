/-
  WHAT THE INTERPRETER ANSWERS (1): calls and their answers, each run by the kernel.
-/
import Derived.Test.YtdlfjlfhbgppaaaGreatVmE
import Derived.Test.YtdlfjlfhbgppaaaGreatSyncNamesVc
import Derived.KernelRfl
set_option linter.unusedVariables false
namespace Go.Vm
abbrev I (n : Int) : D := .int .i64 n
abbrev Y (n : Int) : D := .int .u8 n
set_option maxRecDepth 1000000
def K0 : Known := ⟨57, [.d (.lst [[Y 255], [Y 241], [Y 64], [Y 64], [Y 1], [Y 96], [Y 20]])], .tup [.own false 1 (List.replicate 12 ([Y 1]) ++ [[Y 0], [Y 0], [Y 0], [Y 1], [Y 0], [Y 1]] ++ List.replicate 7 ([Y 0]) ++ [[Y 1]] ++ List.replicate 13 ([Y 0]) ++ [[Y 1], [Y 0], [Y 1], [Y 1]] ++ List.replicate 8 ([Y 0]) ++ [[Y 1], [Y 0], [Y 1], [Y 0], [Y 0]]), .d (I 0)], ⟨[(0, .cells [.junk]), (1, .cells [.d (I 255)]), (2, .cells [.d (I 8)]), (4, .cells [.d (I 241)]), (5, .cells [.d (I 8)]), (7, .cells [.d (I 64)]), (8, .cells [.d (I 8)]), (10, .cells [.d (I 64)]), (11, .cells [.d (I 8)]), (13, .cells [.d (I 1)]), (14, .cells [.d (I 8)]), (16, .cells [.d (I 96)]), (17, .cells [.d (I 8)]), (19, .cells [.d (I 20)]), (20, .cells [.d (I 8)])], 22⟩⟩
theorem h0 : EvC prog K0.f K0.args ⟨[], 0⟩ K0.v K0.hs := known_ev knows_nil 400 (by kernel_rfl)
def K1 : Known := ⟨59, [.d (.lst (List.replicate 12 ([Y 1]) ++ [[Y 0], [Y 0], [Y 0], [Y 1], [Y 0], [Y 1]] ++ List.replicate 7 ([Y 0]) ++ [[Y 1]] ++ List.replicate 13 ([Y 0]) ++ [[Y 1], [Y 0], [Y 1], [Y 1]] ++ List.replicate 8 ([Y 0]) ++ [[Y 1], [Y 0], [Y 1], [Y 0], [Y 0]])), .d (I 0), .d (I 12)], .tup [.d (I 4095), .d (I 12), .d (I 0)], ⟨[], 0⟩⟩
theorem h1 : EvC prog K1.f K1.args ⟨[], 0⟩ K1.v K1.hs := known_ev knows_nil 400 (by kernel_rfl)
def K2 : Known := ⟨59, [.d (.lst (List.replicate 12 ([Y 1]) ++ [[Y 0], [Y 0], [Y 0], [Y 1], [Y 0], [Y 1]] ++ List.replicate 7 ([Y 0]) ++ [[Y 1]] ++ List.replicate 13 ([Y 0]) ++ [[Y 1], [Y 0], [Y 1], [Y 1]] ++ List.replicate 8 ([Y 0]) ++ [[Y 1], [Y 0], [Y 1], [Y 0], [Y 0]])), .d (I 18), .d (I 4)], .tup [.d (I 0), .d (I 22), .d (I 0)], ⟨[], 0⟩⟩
theorem h2 : EvC prog K2.f K2.args ⟨[], 0⟩ K2.v K2.hs := known_ev knows_nil 400 (by kernel_rfl)
def K3 : Known := ⟨59, [.d (.lst (List.replicate 12 ([Y 1]) ++ [[Y 0], [Y 0], [Y 0], [Y 1], [Y 0], [Y 1]] ++ List.replicate 7 ([Y 0]) ++ [[Y 1]] ++ List.replicate 13 ([Y 0]) ++ [[Y 1], [Y 0], [Y 1], [Y 1]] ++ List.replicate 8 ([Y 0]) ++ [[Y 1], [Y 0], [Y 1], [Y 0], [Y 0]])), .d (I 30), .d (I 13)], .tup [.d (I 11), .d (I 43), .d (I 0)], ⟨[], 0⟩⟩
theorem h3 : EvC prog K3.f K3.args ⟨[], 0⟩ K3.v K3.hs := known_ev knows_nil 400 (by kernel_rfl)
def K4 : Known := ⟨59, [.d (.lst (List.replicate 12 ([Y 1]) ++ [[Y 0], [Y 0], [Y 0], [Y 1], [Y 0], [Y 1]] ++ List.replicate 7 ([Y 0]) ++ [[Y 1]] ++ List.replicate 13 ([Y 0]) ++ [[Y 1], [Y 0], [Y 1], [Y 1]] ++ List.replicate 8 ([Y 0]) ++ [[Y 1], [Y 0], [Y 1], [Y 0], [Y 0]])), .d (I 43), .d (I 11)], .tup [.d (I 5), .d (I 54), .d (I 0)], ⟨[], 0⟩⟩
theorem h4 : EvC prog K4.f K4.args ⟨[], 0⟩ K4.v K4.hs := known_ev knows_nil 400 (by kernel_rfl)
def K5 : Known := ⟨62, [.agg [.d (I 0), .d (I 1), .d (.bool false), .d (I 11), .d (I 5)]], .own false 1 (List.replicate 12 ([Y 1]) ++ [[Y 0], [Y 0], [Y 0], [Y 1], [Y 0], [Y 1]] ++ List.replicate 7 ([Y 0]) ++ [[Y 1]] ++ List.replicate 13 ([Y 0]) ++ [[Y 1], [Y 0], [Y 1], [Y 1]] ++ List.replicate 8 ([Y 0]) ++ [[Y 1], [Y 0], [Y 1], [Y 0], [Y 0]]), ⟨[(0, .cells [.junk, .junk, .junk, .junk, .junk]), (1, .cells [.d (I 4095), .d (I 12)]), (2, .cells [.d (I 0), .d (I 1)]), (3, .cells [.d (I 0), .d (I 2)]), (4, .cells [.d (I 1), .d (I 1)]), (5, .cells [.d (I 1), .d (I 2)]), (6, .cells [.d (I 0), .d (I 4)]), (7, .cells [.d (I 0), .d (I 1)]), (8, .cells [.d (I 1), .d (I 3)]), (9, .cells [.d (I 0), .d (I 1)]), (10, .cells [.d (I 0), .d (I 1)]), (11, .cells [.d (I 0), .d (I 2)]), (12, .cells [.d (I 11), .d (I 13)]), (13, .cells [.d (I 5), .d (I 11)]), (14, .cells [.d (I 0), .d (I 2)])], 15⟩⟩
theorem h5 : EvC prog K5.f K5.args ⟨[], 0⟩ K5.v K5.hs := known_ev knows_nil 400 (by kernel_rfl)
def K6 : Known := ⟨61, [.d (.lst (List.replicate 12 ([Y 1]) ++ [[Y 0], [Y 0], [Y 0], [Y 1], [Y 0], [Y 1]] ++ List.replicate 7 ([Y 0]) ++ [[Y 1]] ++ List.replicate 13 ([Y 0]) ++ [[Y 1], [Y 0], [Y 1], [Y 1]] ++ List.replicate 8 ([Y 0]) ++ [[Y 1], [Y 0], [Y 1], [Y 0], [Y 0]])), .d (.lst (List.replicate 12 ([Y 1]) ++ [[Y 0], [Y 0], [Y 0], [Y 1], [Y 0], [Y 1]] ++ List.replicate 7 ([Y 0]) ++ [[Y 1]] ++ List.replicate 13 ([Y 0]) ++ [[Y 1], [Y 0], [Y 1], [Y 1]] ++ List.replicate 8 ([Y 0]) ++ [[Y 1], [Y 0], [Y 1], [Y 0], [Y 0]]))], .d (.bool true), ⟨[], 0⟩⟩
theorem h6 : EvC prog K6.f K6.args ⟨[], 0⟩ K6.v K6.hs := known_ev knows_nil 400 (by kernel_rfl)
def K7 : Known := ⟨128, [.d (I 0), .d (.bool false)], .tup [.own false 1 [[I 0], [I 4], [I 8], [I 12], [I 16], [I 20], [I 24], [I 28], [I 32], [I 40], [I 48], [I 56], [I 64], [I 76], [I 88], [I 100], [I 116], [I 132], [I 152], [I 172], [I 196], [I 224], [I 256]], .d (I 0)], ⟨[], 0⟩⟩
theorem h7 : EvC prog K7.f K7.args ⟨[], 0⟩ K7.v K7.hs := known_ev knows_nil 400 (by kernel_rfl)
def K8 : Known := ⟨105, [.d (I 0), .d (.bool false)], .tup [.d (I 22), .d (I 0)], ⟨[], 0⟩⟩
theorem h8 : EvC prog K8.f K8.args ⟨[], 0⟩ K8.v K8.hs := known_ev (knows_cons h7 knows_nil) 400 (by kernel_rfl)
def K9 : Known := ⟨76, [.d (I 0), .agg [.d (Y 0), .d (Y 0), .d (I 0), .nl]], .d (I 8), ⟨[(0, .cells [.d (Y 0), .d (Y 0), .d (I 0), .nl])], 1⟩⟩
theorem h9 : EvC prog K9.f K9.args ⟨[], 0⟩ K9.v K9.hs := known_ev (knows_cons h8 knows_nil) 400 (by kernel_rfl)
def K10 : Known := ⟨76, [.d (I 0), .agg [.d (Y 0), .d (Y 0), .d (I 0), .d (.lst [[I 1]])]], .d (I 0), ⟨[(0, .cells [.d (Y 0), .d (Y 0), .d (I 0), .d (.lst [[I 1]])])], 1⟩⟩
theorem h10 : EvC prog K10.f K10.args ⟨[], 0⟩ K10.v K10.hs := known_ev (knows_cons h8 knows_nil) 400 (by kernel_rfl)
end Go.Vm
