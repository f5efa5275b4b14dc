/-
  WHAT THE INTERPRETER ANSWERS: calls and their answers, run by the kernel.
-/
import Derived.Test.YtpehaphefijlkaaPickNamesIcD
import Derived.Test.YtpehaphefijlkaaVmE
import Derived.KernelRfl
set_option linter.unusedVariables false
namespace Go.Vm
def Z (l : List Int) : List (List D) := l.map fun n => [I n]
def U (l : List Int) : List (List D) := l.map fun n => [Y n]
set_option maxRecDepth 1000000
/-- 472 -/
def K0 : Known := ⟨28, [.d (I 0), .d (.bool false)], ⟨[], 0⟩, .tup [.own false 1 (Z [0, 4, 8, 12, 16, 20, 24, 28, 32, 40, 48, 56, 64, 76, 88, 100, 116, 132, 152, 172, 196, 224, 256]), .d (I 0)], ⟨[], 0⟩⟩
theorem h0 : EvC prog K0.f K0.args K0.h0 K0.v K0.hs := known_ev knows_nil 400 (by kernel_rfl)
/-- 101 -/
def K1 : Known := ⟨7, [.d (I 0), .agg [.d (Y 0), .d (Y 0), .d (I 3), .d (.lst [[I 1]])]], ⟨[], 0⟩, .d (I 0), ⟨[(0, .cells [.d (Y 0), .d (Y 0), .d (I 3), .d (.lst [[I 1]])])], 1⟩⟩
theorem h1 : EvC prog K1.f K1.args K1.h0 K1.v K1.hs := known_ev (knows_cons h0 knows_nil) 400 (by kernel_rfl)
/-- 10757 -/
def K2 : Known := ⟨11, [.d (.lst (Z (List.replicate 256 (0))))], ⟨[], 0⟩, .tup [.d (.bool false), .d (I 0)], ⟨[], 7⟩⟩
theorem h2 : EvC prog K2.f K2.args K2.h0 K2.v K2.hs := known_ev knows_nil 400 (by kernel_rfl)
/-- 7 -/
def K3 : Known := ⟨20, [.d (I 0)], ⟨[], 0⟩, .d (I 0), ⟨[], 0⟩⟩
theorem h3 : EvC prog K3.f K3.args K3.h0 K3.v K3.hs := known_ev knows_nil 400 (by kernel_rfl)
/-- 0 -/
def o0 : Obj := .cells [.nl, .sl 3 0 81, .sl 5 0 81, .sl 7 0 81, .sl 9 0 81, .sl 11 0 81, .sl 13 0 81, .sl 15 0 64, .sl 17 0 64, .sl 19 0 169, .sl 21 0 169, .sl 23 0 289]
def o1 : Obj := .arr 1 (Z [13, 11, 13, 11, 7, 11, 13, 11, 13, 11, 7, 11, 7, 3, 7, 11, 7, 11, 13, 11, 13, 11, 7, 11, 13, 11, 13, 11, 9, 11, 9, 3, 9, 11, 9, 11, 9, 5, 9, 5, 1, 5, 9, 5, 9, 11, 9, 11, 9, 7, 9, 11, 9, 11, 13, 11, 13, 11, 9, 11, 13, 11, 13, 11, 9, 11, 9, 7, 9, 11, 11, 11, 13, 11, 13, 11, 11, 13, 13, 13, 13])
def o2 : Obj := .arr 1 (Z [12, 10, 12, 10, 6, 10, 12, 10, 12, 10, 6, 10, 6, 2, 6, 10, 6, 10, 12, 10, 12, 10, 8, 10, 12, 10, 12, 10, 8, 10, 8, 4, 8, 10, 8, 10, 8, 4, 8, 4, 2, 4, 8, 6, 8, 10, 8, 10, 8, 6, 8, 10, 8, 10, 12, 10, 12, 10, 8, 10, 12, 10, 12, 10, 8, 10, 8, 6, 10, 10, 10, 10, 12, 10, 12, 12, 10, 12, 12, 12, 12])
def o3 : Obj := .arr 1 (Z ([1, 3, 5, 3, 5, 9, 7, 9, 11, 5, 7, 9, 7, 9, 11, 9, 11, 11, 7, 9, 11, 9, 11, 11, 11, 11, 13, 5, 7, 9, 7, 9, 11, 9, 11, 11, 7, 9, 11, 9, 11, 11, 11, 11, 13, 9, 11, 11, 11, 11, 13, 11, 13, 13, 7, 9, 11, 9, 11, 11, 11, 11, 13, 9, 11, 11, 11, 11, 13, 13, 13, 13, 11] ++ List.replicate 8 (13)))
def o4 : Obj := .arr 1 (Z ([2, 2, 4, 4, 6, 8, 6, 8, 10, 4, 6, 8, 6, 8, 10, 8, 10, 10, 6, 8, 10, 8, 10, 10, 10, 10, 12, 4, 6, 8, 6, 8, 10, 8, 10, 10, 6, 8, 10, 8, 10, 10, 10, 10, 12, 8, 10, 10, 10, 10, 12, 10, 12, 12, 8, 8, 10, 8, 10, 10, 10, 10, 12, 10, 10, 10, 10, 12, 12, 12, 12, 12, 10] ++ List.replicate 8 (12)))
def o5 : Obj := .arr 1 (Z [13, 13, 11, 11, 9, 11, 11, 13, 13, 13, 11, 11, 9, 7, 9, 11, 11, 13, 11, 11, 9, 7, 5, 9, 9, 11, 11, 11, 9, 9, 5, 3, 7, 9, 11, 11, 11, 9, 7, 3, 1, 5, 7, 9, 11, 11, 11, 9, 7, 5, 7, 9, 11, 11, 13, 11, 11, 9, 7, 9, 11, 11, 13, 13, 13, 11, 11, 9, 11, 11, 13, 13, 13, 13, 13, 11, 11, 11, 13, 13, 13])
def o6 : Obj := .arr 1 (Z [12, 12, 10, 10, 8, 10, 10, 12, 12, 12, 10, 10, 8, 6, 8, 10, 10, 12, 10, 10, 8, 8, 4, 8, 8, 10, 12, 10, 10, 8, 6, 2, 6, 8, 10, 10, 10, 8, 6, 4, 2, 4, 6, 8, 10, 10, 10, 8, 6, 4, 6, 8, 10, 10, 12, 10, 10, 8, 6, 8, 10, 10, 12, 12, 12, 10, 10, 8, 10, 10, 12, 12, 12, 12, 12, 10, 10, 10, 12, 12, 12])
def o7 : Obj := .arr 1 (Z ([2, 2, 4, 6, 6, 8, 8, 8, 4, 4, 6, 6, 8, 8, 8, 10, 4, 6, 6, 8, 8, 10, 10, 10, 6, 6, 8, 8, 10, 10, 10, 10, 8, 8, 8, 10, 10, 10, 10, 10, 8, 8] ++ List.replicate 6 (10) ++ [8] ++ List.replicate 13 (10) ++ [12, 12]))
def o8 : Obj := .arr 1 (Z ([3, 3, 3, 5, 5, 7, 7, 9, 3, 5, 5, 5, 7, 7, 9, 9, 5, 5, 7, 7, 7, 9, 9, 9, 5, 7, 7, 7, 9, 9, 9, 9, 7, 7, 7, 9, 9, 9, 9, 9, 7, 7] ++ List.replicate 6 (9) ++ [7] ++ List.replicate 6 (9) ++ [11, 9, 9, 9, 9, 9, 11, 11, 11]))
def o9 : Obj := .arr 1 (Z ([2, 2, 4, 6, 6, 8, 8, 8, 10, 10, 10, 12, 12, 4, 4, 6, 6, 8, 8, 8, 10, 10, 10, 12, 12, 12, 4, 6, 6, 8, 8, 10, 10, 10, 10, 12, 12, 12, 12, 6, 6, 8, 8, 10, 10, 10, 10, 12, 12, 12, 12, 12, 8, 8, 8, 10, 10, 10, 10] ++ List.replicate 6 (12) ++ [8, 8, 10, 10, 10, 10] ++ List.replicate 6 (12) ++ [14, 8, 10, 10, 10, 10, 12, 12, 12, 12, 12, 14, 14, 14, 10, 10, 10] ++ List.replicate 6 (12) ++ [14, 14, 14, 14, 10, 10] ++ List.replicate 6 (12) ++ [14, 14, 14, 14, 14, 10] ++ List.replicate 6 (12) ++ List.replicate 6 (14) ++ List.replicate 6 (12) ++ List.replicate 7 (14) ++ [12, 12, 12, 12, 12] ++ List.replicate 8 (14) ++ [12, 12, 12, 12] ++ List.replicate 9 (14)))
def o10 : Obj := .arr 1 (Z ([3, 3, 3, 5, 5, 7, 7, 9, 9, 9, 9, 11, 11, 3, 5, 5, 5, 7, 7, 9, 9, 9, 9, 11, 11, 11, 5, 5, 7, 7, 7, 9, 9, 9, 9, 11, 11, 11, 11, 5, 7, 7, 7, 9, 9, 9, 9, 11, 11, 11, 11, 11, 7, 7, 7, 9, 9, 9, 9, 11, 11, 11, 11, 11, 13, 7, 7, 9, 9, 9] ++ List.replicate 6 (11) ++ [13, 13, 7, 9, 9, 9] ++ List.replicate 6 (11) ++ [13, 13, 13, 9, 9, 9] ++ List.replicate 6 (11) ++ [13, 13, 13, 13, 9, 9] ++ List.replicate 6 (11) ++ [13, 13, 13, 13, 13, 9] ++ List.replicate 6 (11) ++ List.replicate 6 (13) ++ List.replicate 6 (11) ++ List.replicate 7 (13) ++ [11, 11, 11, 11, 11] ++ List.replicate 8 (13) ++ [11, 11, 11, 11] ++ List.replicate 9 (13)))
def o11 : Obj := .arr 1 (Z ([3, 3, 3, 5, 5, 7, 7, 9, 9, 9, 9, 11, 11, 11, 11, 11, 13, 3, 5, 5, 5, 7, 7, 9, 9, 9, 9, 11, 11, 11, 11, 11, 13, 13, 5, 5, 7, 7, 7, 9, 9, 9, 9, 11, 11, 11, 11, 11, 13, 13, 13, 5, 7, 7, 7, 9, 9, 9, 9, 11, 11, 11, 11, 11, 13, 13, 13, 13, 7, 7, 7, 9, 9, 9, 9, 11, 11, 11, 11] ++ List.replicate 6 (13) ++ [7, 7, 9, 9, 9, 11, 11, 11, 11, 11] ++ List.replicate 7 (13) ++ [7, 9, 9, 9, 11, 11, 11, 11, 11] ++ List.replicate 8 (13) ++ [9, 9, 9, 11, 11, 11, 11, 11] ++ List.replicate 9 (13) ++ [9, 9, 11, 11, 11, 11, 11] ++ List.replicate 10 (13) ++ [9, 11, 11, 11, 11, 11] ++ List.replicate 10 (13) ++ [15, 11, 11, 11, 11, 11] ++ List.replicate 10 (13) ++ [15, 15, 11, 11, 11, 11] ++ List.replicate 10 (13) ++ [15, 15, 15, 11, 11, 11] ++ List.replicate 10 (13) ++ [15, 15, 15, 15, 11, 11] ++ List.replicate 10 (13) ++ [15, 15, 15, 15, 15, 11] ++ List.replicate 10 (13) ++ List.replicate 6 (15) ++ List.replicate 10 (13) ++ List.replicate 7 (15) ++ List.replicate 8 (13) ++ List.replicate 9 (15)))
def K4 : Known := ⟨9, [], ⟨[(0, .cells [.d (Y 0), .d (Y 0), .d (I 3), .d (.lst [[I 1]])])], 1⟩, .ptr 1 0, ⟨[(0, .cells [.d (Y 0), .d (Y 0), .d (I 3), .d (.lst [[I 1]])]), (1, o0), (3, o1), (5, o2), (7, o3), (9, o4), (11, o5), (13, o6), (15, o7), (17, o8), (19, o9), (21, o10), (23, o11)], 24⟩⟩
theorem h4 : EvC prog K4.f K4.args K4.h0 K4.v K4.hs := g9 (by kernel_rfl)
/-- 954 -/
def K5 : Known := ⟨24, [.agg [.d (Y 0), .d (Y 0), .d (I 3), .d (.lst [[I 1]])]], ⟨[], 0⟩, .tup [.d (I 1), .d (I 0)], ⟨[(0, .cells [.d (Y 0), .d (Y 0), .d (I 3), .d (.lst [[I 1]])])], 1⟩⟩
theorem h5 : EvC prog K5.f K5.args K5.h0 K5.v K5.hs := known_ev knows_nil 400 (by kernel_rfl)
/-- 37 -/
def K6 : Known := ⟨42, [.agg [.d (Y 0), .d (Y 0), .d (I 3), .d (.lst [[I 1]])], .d (I 0)], ⟨[], 0⟩, .tup [.d (I 0), .d (I 0)], ⟨[(0, .cells [.d (Y 0), .d (Y 0), .d (I 3), .d (.lst [[I 1]])])], 1⟩⟩
theorem h6 : EvC prog K6.f K6.args K6.h0 K6.v K6.hs := known_ev (knows_cons h5 knows_nil) 400 (by kernel_rfl)
/-- 15 -/
def K7 : Known := ⟨67, [], ⟨[], 0⟩, .agg [.d (I 0), .d (I 0), .d (I 0), .d (I 0), .d (I 4), .d (I (-1)), .d (I 1), .d (I 1), .d (I 4), .d (I (-1)), .d (I 1), .d (I 1), .d (I 4), .d (I 0), .d (I 2), .d (I 2), .d (I 4), .d (I 0), .d (I 2), .d (I 2), .d (I 2), .d (I (-4)), .d (I 4), .d (I 4), .d (I 2), .d (I (-4)), .d (I 4), .d (I 4), .d (I 2), .d (I 0), .d (I 7), .d (I 7), .d (I 2), .d (I 0), .d (I 7), .d (I 7), .d (I 2), .d (I 0), .d (I 12), .d (I 12), .d (I 2), .d (I 0), .d (I 12), .d (I 12), .d (I 2), .d (I 0), .d (I 16), .d (I 8191)], ⟨[], 1⟩⟩
theorem h7 : EvC prog K7.f K7.args K7.h0 K7.v K7.hs := known_ev knows_nil 400 (by kernel_rfl)
/-- 98 -/
def K8 : Known := ⟨15, [.d (.lst (Z [0, 0, 0, 0])), .d (I 1)], ⟨[], 0⟩, .d (.bool false), ⟨[(0, .cells [.d (I 1)])], 1⟩⟩
theorem h8 : EvC prog K8.f K8.args K8.h0 K8.v K8.hs := known_ev (knows_cons h3 knows_nil) 400 (by kernel_rfl)
/-- 98 -/
def K9 : Known := ⟨15, [.d (.lst (Z [0, 0, 0, 0])), .d (I 2)], ⟨[], 0⟩, .d (.bool false), ⟨[(0, .cells [.d (I 2)])], 1⟩⟩
theorem h9 : EvC prog K9.f K9.args K9.h0 K9.v K9.hs := known_ev (knows_cons h3 knows_nil) 400 (by kernel_rfl)
/-- 98 -/
def K10 : Known := ⟨15, [.d (.lst (Z [0, 0, 0, 0])), .d (I 4)], ⟨[], 0⟩, .d (.bool false), ⟨[(0, .cells [.d (I 4)])], 1⟩⟩
theorem h10 : EvC prog K10.f K10.args K10.h0 K10.v K10.hs := known_ev (knows_cons h3 knows_nil) 400 (by kernel_rfl)
/-- 98 -/
def K11 : Known := ⟨15, [.d (.lst (Z [0, 0, 0, 0])), .d (I 7)], ⟨[], 0⟩, .d (.bool false), ⟨[(0, .cells [.d (I 7)])], 1⟩⟩
theorem h11 : EvC prog K11.f K11.args K11.h0 K11.v K11.hs := known_ev (knows_cons h3 knows_nil) 400 (by kernel_rfl)
/-- 98 -/
def K12 : Known := ⟨15, [.d (.lst (Z [0, 0, 0, 0])), .d (I 12)], ⟨[], 0⟩, .d (.bool false), ⟨[(0, .cells [.d (I 12)])], 1⟩⟩
theorem h12 : EvC prog K12.f K12.args K12.h0 K12.v K12.hs := known_ev (knows_cons h3 knows_nil) 400 (by kernel_rfl)
/-- 13 -/
def K13 : Known := ⟨48, [.agg [.d (Y 0), .d (Y 0), .d (I 3), .d (.lst [[I 1]])], .d (I 1)], ⟨[], 0⟩, .d (I 9), ⟨[], 1⟩⟩
theorem h13 : EvC prog K13.f K13.args K13.h0 K13.v K13.hs := known_ev knows_nil 400 (by kernel_rfl)
/-- 14230 -/
def o12 : Obj := .arr 12 [[I 0, I 1, I 2, I 1, I 2, I 2, I 4, I 4, I 6, I 4, I 6, I 6], [I 0, I 1, I 2, I 1, I 2, I 2, I 4, I 4, I 6, I 4, I 6, I 6], [I 0, I 1, I 2, I 1, I 2, I 2, I 4, I 4, I 6, I 4, I 6, I 6]]
def K14 : Known := ⟨23, [.ptr 1 0, .d (I 0), .agg [.d (Y 0), .d (Y 0), .d (I 3), .d (.lst [[I 1]])], .d (.lst (Z (List.replicate 256 (0))))], ⟨[(0, .cells [.d (Y 0), .d (Y 0), .d (I 3), .d (.lst [[I 1]])]), (1, o0), (3, o1), (5, o2), (7, o3), (9, o4), (11, o5), (13, o6), (15, o7), (17, o8), (19, o9), (21, o10), (23, o11)], 24⟩, .own false 1 [[.lst [[I 0, I 3]]]], ⟨[(0, .cells [.d (Y 0), .d (Y 0), .d (I 3), .d (.lst [[I 1]])]), (1, o0), (3, o1), (5, o2), (7, o3), (9, o4), (11, o5), (13, o6), (15, o7), (17, o8), (19, o9), (21, o10), (23, o11), (26, o12), (273, .arr 3 [[I 9, I 0, I 3], [I 9, I 0, I 2], [I 9, I 0, I 1], [I 0, I 0, I 0]])], 277⟩⟩
theorem h14 : EvC prog K14.f K14.args K14.h0 K14.v K14.hs := known_ev (knows_cons h0 (knows_cons h5 (knows_cons h6 (knows_cons h3 (knows_cons h7 (knows_cons h8 (knows_cons h9 (knows_cons h10 (knows_cons h11 (knows_cons h12 (knows_cons h13 knows_nil))))))))))) 400 (by kernel_rfl)
/-- 5116 -/
def K15 : Known := ⟨3, [], ⟨[], 0⟩, .d (.bool true), ⟨[], 1⟩⟩
theorem h15 : EvC prog K15.f K15.args K15.h0 K15.v K15.hs := known_ev (knows_cons h2 (knows_cons h14 (knows_cons h4 (knows_cons h3 (knows_cons h1 knows_nil))))) 400 (by kernel_rfl)

end Go.Vm
