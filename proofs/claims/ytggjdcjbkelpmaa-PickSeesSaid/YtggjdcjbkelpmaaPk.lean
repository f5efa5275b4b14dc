import Derived.Test.YtggjdcjbkelpmaaVmE
import Derived.Test.YtggjdcjbkelpmaaVc
set_option linter.unusedVariables false
set_option linter.unusedSimpArgs false
/-
  PickSees: the least and the greatest of a list.
-/
namespace Go.Vm
abbrev c14_L0 : VC := (.seq (.seq (.reg false [
  ⟨some 12, none, .mov (.s 4), []⟩,
  ⟨some 13, none, .mov (.s 0), []⟩,
  ⟨some 14, none, .len (.m 13), []⟩,
  ⟨some 15, none, .bin .lss (.m 12) (.m 14), []⟩])
 (.cond (.m 15)
 .skip
 (.seq (K [0, 4]) (.exit 0))))
 (.seq (.block 1
 (.reg false [
  ⟨some 18, none, .mov (.m 3), []⟩,
  ⟨some 19, none, .mov (.s 0), []⟩,
  ⟨some 20, none, .mov (.s 4), []⟩,
  ⟨some 21, none, .ia 1 (.m 19) (.m 20), []⟩,
  ⟨some 22, none, .ld none 0 (.m 21), []⟩,
  ⟨some 23, none, .minmax false [.m 18, .m 22], []⟩,
  ⟨some 3, none, .mov (.m 23), []⟩]))
 (.reg false [
  ⟨some 16, none, .mov (.m 4), []⟩,
  ⟨some 17, none, .bin .add (.m 16) (.c (.d (.int .i64 1))), []⟩,
  ⟨some 4, none, .mov (.m 17), []⟩,
  ⟨none, none, .kill [18, 19, 20, 21, 22, 23], []⟩])))
abbrev c15_L0 : VC := (.seq (.seq (.reg false [
  ⟨some 12, none, .mov (.s 4), []⟩,
  ⟨some 13, none, .mov (.s 0), []⟩,
  ⟨some 14, none, .len (.m 13), []⟩,
  ⟨some 15, none, .bin .lss (.m 12) (.m 14), []⟩])
 (.cond (.m 15)
 .skip
 (.seq (K [0, 4]) (.exit 0))))
 (.seq (.block 1
 (.reg false [
  ⟨some 18, none, .mov (.m 3), []⟩,
  ⟨some 19, none, .mov (.s 0), []⟩,
  ⟨some 20, none, .mov (.s 4), []⟩,
  ⟨some 21, none, .ia 1 (.m 19) (.m 20), []⟩,
  ⟨some 22, none, .ld none 0 (.m 21), []⟩,
  ⟨some 23, none, .minmax true [.m 18, .m 22], []⟩,
  ⟨some 3, none, .mov (.m 23), []⟩]))
 (.reg false [
  ⟨some 16, none, .mov (.m 4), []⟩,
  ⟨some 17, none, .bin .add (.m 16) (.c (.d (.int .i64 1))), []⟩,
  ⟨some 4, none, .mov (.m 17), []⟩,
  ⟨none, none, .kill [18, 19, 20, 21, 22, 23], []⟩])))
/-- A list of numbers as an argument. -/
def nums (xs : List Int) : List (List D) := xs.map fun x => [.int .i64 x]
theorem nums_len (xs : List Int) : (nums xs).length = xs.length := by simp [nums]
theorem nums_get (xs : List Int) (i : Nat) : (nums xs)[i]? = (xs[i]?).map fun x => [.int .i64 x] := by simp [nums]
theorem nums_at (xs : List Int) (i : Nat) (h : i < (nums xs).length) : (nums xs)[i]'h = [.int .i64 (xs[i]'(by rw [nums_len] at h; exact h))] := by simp [nums]
theorem nums_0 (x : Int) (xs : List Int) : (nums (x :: xs))[0]? = some [.int .i64 x] := rfl
theorem nat_of0 (k : IntKind) : natOf (.d (.int k 0)) = some 0 := rfl
theorem get_nil {α : Type} (i : Nat) : get ([] : List (Nat × α)) i = none := rfl
theorem put_nil {α : Type} (i : Nat) (x : α) : put [] i x = [(i, x)] := rfl
theorem del_nil {α : Type} (i : Nat) : del ([] : List (Nat × α)) i = [] := rfl
theorem bin_lss (a b : Int) : binOf .lss (.d (.int .i64 a)) (.d (.int .i64 b)) = some (.d (.bool (decide (a < b)))) := rfl
theorem bin_gtr (a b : Int) : binOf .gtr (.d (.int .i64 a)) (.d (.int .i64 b)) = some (.d (.bool (decide (b < a)))) := rfl
theorem bin_geq (a b : Int) : binOf .geq (.d (.int .i64 a)) (.d (.int .i64 b)) = some (.d (.bool (decide (b ≤ a)))) := rfl
theorem bin_neq (a b : Int) : binOf .neq (.d (.int .i64 a)) (.d (.int .i64 b)) = some (.d (.bool (!decide (a = b)))) := rfl
theorem bin_eql (a b : Int) : binOf .eql (.d (.int .i64 a)) (.d (.int .i64 b)) = some (.d (.bool (decide (a = b)))) := rfl
theorem bin_gtr8 (a b : Int) : binOf .gtr (.d (.int .u8 a)) (.d (.int .u8 b)) = some (.d (.bool (decide (b < a)))) := rfl
theorem bin_eql8 (a b : Int) : binOf .eql (.d (.int .u8 a)) (.d (.int .u8 b)) = some (.d (.bool (decide (a = b)))) := rfl
theorem bin_eqlb (a b : Bool) : binOf .eql (.d (.bool a)) (.d (.bool b)) = none := rfl
theorem bin_add (a b : Int) : binOf .add (.d (.int .i64 a)) (.d (.int .i64 b)) = some (.d (.int .i64 (wr .i64 (a + b)))) := rfl
theorem bin_sub (a b : Int) : binOf .sub (.d (.int .i64 a)) (.d (.int .i64 b)) = some (.d (.int .i64 (wr .i64 (a - b)))) := rfl
theorem bin_mul (a b : Int) : binOf .mul (.d (.int .i64 a)) (.d (.int .i64 b)) = some (.d (.int .i64 (wr .i64 (a * b)))) := rfl
theorem un_not (b : Bool) : unOf .not (.d (.bool b)) = some (.d (.bool !b)) := rfl
theorem ld_pim (h : Heap) (x : D) : loadAt h none 0 (.pim [x] 0) = some (.d x, h) := rfl
/-- An element's place. -/
theorem get_ok {xs : List Int} {i : Nat} {x : Int} (h : xs[i]? = some x) : (nums xs)[i]? = some [.int .i64 x] := by rw [nums_get, h]; rfl

/-- What min and max keep. -/
def mm (b : Bool) (m : Int) : List Int → Int
  | [] => m
  | x :: r => mm b (if (if b then decide (m < x) else decide (x < m)) = true then x else m) r
theorem mm_step (b : Bool) (m x : Int) : minmaxOf b (.d (.int .i64 m)) (.d (.int .i64 x)) = some (.d (.int .i64 (if (if b then decide (m < x) else decide (x < m)) = true then x else m))) := by
  unfold minmaxOf
  simp only [kindEq]
  generalize (if b = true then decide (m < x) else decide (x < m)) = t
  cases t <;> rfl
theorem min_loop (xs : List Int) (hx : xs.length ≤ 1000) (Q : Out → St → Prop) : ∀ (k i : Nat) (m : Int), i + k = xs.length → Q (.exit 0) ⟨[(3, .int .i64 (mm false m (xs.drop i)))], ⟨[], 0⟩⟩ → WP prog (.loop c14_L0) ⟨[(0, .d (.lst (nums xs))), (3, .int .i64 m), (4, .int .i64 (i : Int))], ⟨[], 0⟩⟩ Q := by
  intro k
  induction k with
  | zero =>
    intro i m h hq
    refine wp_loop (wp_seq (wp_seq (wp_reg ?_)))
    simp [opsF, viF, viGo, opF, opMov, opPick, opAlloc, opBox, opLd, opSt, opBin, opBinb, opUn, opIa, opLen, opMinmax, opExt, opKill, opSlice, opMkfn, rd, rdAll, rdOpt, get_cons, put_cons, del_cons, get_nil, put_nil, del_nil, List.foldl, setDst, share, shareAll, firm, firm1, firm2, lenOf, nat_of, elems, bin_lss, bin_gtr, bin_geq, bin_add, bin_mul, bin_sub, bin_neq, bin_eql, bin_gtr8, bin_eql8, bin_eqlb, un_not, ofElem, loadAt, storeAt, setCells, AV.cells, boxNew, isCell, List.all, Bool.and_true, Bool.and_self, nums_len]
    refine wp_cond ?_
    have hlt : ¬ i < xs.length := by omega
    simp [opsF, viF, viGo, opF, opMov, opPick, opAlloc, opBox, opLd, opSt, opBin, opBinb, opUn, opIa, opLen, opMinmax, opExt, opKill, opSlice, opMkfn, rd, rdAll, rdOpt, get_cons, put_cons, del_cons, get_nil, put_nil, del_nil, List.foldl, setDst, share, shareAll, firm, firm1, firm2, lenOf, nat_of, elems, bin_lss, bin_gtr, bin_geq, bin_add, bin_mul, bin_sub, bin_neq, bin_eql, bin_gtr8, bin_eql8, bin_eqlb, un_not, ofElem, loadAt, storeAt, setCells, AV.cells, boxNew, isCell, List.all, Bool.and_true, Bool.and_self, nums_len, hlt]
    refine wp_seq (wp_reg ?_)
    simp [opsF, viF, viGo, opF, opMov, opPick, opAlloc, opBox, opLd, opSt, opBin, opBinb, opUn, opIa, opLen, opMinmax, opExt, opKill, opSlice, opMkfn, rd, rdAll, rdOpt, get_cons, put_cons, del_cons, get_nil, put_nil, del_nil, List.foldl, setDst, share, shareAll, firm, firm1, firm2, lenOf, nat_of, elems, bin_lss, bin_gtr, bin_geq, bin_add, bin_mul, bin_sub, bin_neq, bin_eql, bin_gtr8, bin_eql8, bin_eqlb, un_not, ofElem, loadAt, storeAt, setCells, AV.cells, boxNew, isCell, List.all, Bool.and_true, Bool.and_self, nums_len, hlt]
    refine wp_exit ?_
    rw [List.drop_of_length_le (by omega)] at hq
    exact hq
  | succ k ih =>
    intro i m h hq
    refine wp_loop (wp_seq (wp_seq (wp_reg ?_)))
    simp [opsF, viF, viGo, opF, opMov, opPick, opAlloc, opBox, opLd, opSt, opBin, opBinb, opUn, opIa, opLen, opMinmax, opExt, opKill, opSlice, opMkfn, rd, rdAll, rdOpt, get_cons, put_cons, del_cons, get_nil, put_nil, del_nil, List.foldl, setDst, share, shareAll, firm, firm1, firm2, lenOf, nat_of, elems, bin_lss, bin_gtr, bin_geq, bin_add, bin_mul, bin_sub, bin_neq, bin_eql, bin_gtr8, bin_eql8, bin_eqlb, un_not, ofElem, loadAt, storeAt, setCells, AV.cells, boxNew, isCell, List.all, Bool.and_true, Bool.and_self, nums_len]
    refine wp_cond ?_
    have hlt : i < xs.length := by omega
    simp [opsF, viF, viGo, opF, opMov, opPick, opAlloc, opBox, opLd, opSt, opBin, opBinb, opUn, opIa, opLen, opMinmax, opExt, opKill, opSlice, opMkfn, rd, rdAll, rdOpt, get_cons, put_cons, del_cons, get_nil, put_nil, del_nil, List.foldl, setDst, share, shareAll, firm, firm1, firm2, lenOf, nat_of, elems, bin_lss, bin_gtr, bin_geq, bin_add, bin_mul, bin_sub, bin_neq, bin_eql, bin_gtr8, bin_eql8, bin_eqlb, un_not, ofElem, loadAt, storeAt, setCells, AV.cells, boxNew, isCell, List.all, Bool.and_true, Bool.and_self, nums_len, hlt]
    refine wp_skip (wp_seq (wp_block (wp_reg ?_)))
    simp [opsF, viF, viGo, opF, opMov, opPick, opAlloc, opBox, opLd, opSt, opBin, opBinb, opUn, opIa, opLen, opMinmax, opExt, opKill, opSlice, opMkfn, rd, rdAll, rdOpt, get_cons, put_cons, del_cons, get_nil, put_nil, del_nil, List.foldl, setDst, share, shareAll, firm, firm1, firm2, lenOf, nat_of, elems, bin_lss, bin_gtr, bin_geq, bin_add, bin_mul, bin_sub, bin_neq, bin_eql, bin_gtr8, bin_eql8, bin_eqlb, un_not, ofElem, loadAt, storeAt, setCells, AV.cells, boxNew, isCell, List.all, Bool.and_true, Bool.and_self, nums_len, nums_at, hlt, mm_step, foldMM]
    refine wp_reg ?_
    simp [opsF, viF, viGo, opF, opMov, opPick, opAlloc, opBox, opLd, opSt, opBin, opBinb, opUn, opIa, opLen, opMinmax, opExt, opKill, opSlice, opMkfn, rd, rdAll, rdOpt, get_cons, put_cons, del_cons, get_nil, put_nil, del_nil, List.foldl, setDst, share, shareAll, firm, firm1, firm2, lenOf, nat_of, elems, bin_lss, bin_gtr, bin_geq, bin_add, bin_mul, bin_sub, bin_neq, bin_eql, bin_gtr8, bin_eql8, bin_eqlb, un_not, ofElem, loadAt, storeAt, setCells, AV.cells, boxNew, isCell, List.all, Bool.and_true, Bool.and_self, nums_len, hlt]
    rw [wr_i64 (by omega) (by omega)]
    refine ih (i + 1) _ (by omega) ?_
    rw [List.drop_eq_getElem_cons hlt] at hq
    simpa [mm] using hq
theorem call14 {xs : List Int} {x : Int} (hx : xs.length < 1000) : EvP prog 14 [.d (.lst (nums (x :: xs)))] (.int .i64 (mm false x xs)) := by
  refine evp_wp rfl rfl ?_
  simp only [c14, mkEnv]
  refine wp_seq (wp_reg ?_)
  simp [opsF, viF, viGo, opF, opMov, opPick, opAlloc, opBox, opLd, opSt, opBin, opBinb, opUn, opIa, opLen, opMinmax, opExt, opKill, opSlice, opMkfn, rd, rdAll, rdOpt, get_cons, put_cons, del_cons, get_nil, put_nil, del_nil, List.foldl, setDst, share, shareAll, firm, firm1, firm2, lenOf, nat_of, elems, bin_lss, bin_gtr, bin_geq, bin_add, bin_mul, bin_sub, bin_neq, bin_eql, bin_gtr8, bin_eql8, bin_eqlb, un_not, ofElem, loadAt, storeAt, setCells, AV.cells, boxNew, isCell, List.all, Bool.and_true, Bool.and_self, nums_len]
  refine wp_seq (wp_seq (wp_reg ?_))
  simp [opsF, viF, viGo, opF, opMov, opPick, opAlloc, opBox, opLd, opSt, opBin, opBinb, opUn, opIa, opLen, opMinmax, opExt, opKill, opSlice, opMkfn, rd, rdAll, rdOpt, get_cons, put_cons, del_cons, get_nil, put_nil, del_nil, List.foldl, setDst, share, shareAll, firm, firm1, firm2, lenOf, nat_of, elems, bin_lss, bin_gtr, bin_geq, bin_add, bin_mul, bin_sub, bin_neq, bin_eql, bin_gtr8, bin_eql8, bin_eqlb, un_not, ofElem, loadAt, storeAt, setCells, AV.cells, boxNew, isCell, List.all, Bool.and_true, Bool.and_self, nums_len]
  refine wp_cond ?_
  have h1 : ¬ ((xs.length : Int) + 1 < 1) := by omega
  simp [opsF, viF, viGo, opF, opMov, opPick, opAlloc, opBox, opLd, opSt, opBin, opBinb, opUn, opIa, opLen, opMinmax, opExt, opKill, opSlice, opMkfn, rd, rdAll, rdOpt, get_cons, put_cons, del_cons, get_nil, put_nil, del_nil, List.foldl, setDst, share, shareAll, firm, firm1, firm2, lenOf, nat_of, elems, bin_lss, bin_gtr, bin_geq, bin_add, bin_mul, bin_sub, bin_neq, bin_eql, bin_gtr8, bin_eql8, bin_eqlb, un_not, ofElem, loadAt, storeAt, setCells, AV.cells, boxNew, isCell, List.all, Bool.and_true, Bool.and_self, nums_len, h1]
  refine wp_skip (wp_seq (wp_reg ?_))
  simp [opsF, viF, viGo, opF, opMov, opPick, opAlloc, opBox, opLd, opSt, opBin, opBinb, opUn, opIa, opLen, opMinmax, opExt, opKill, opSlice, opMkfn, rd, rdAll, rdOpt, get_cons, put_cons, del_cons, get_nil, put_nil, del_nil, List.foldl, setDst, share, shareAll, firm, firm1, firm2, lenOf, nat_of, elems, bin_lss, bin_gtr, bin_geq, bin_add, bin_mul, bin_sub, bin_neq, bin_eql, bin_gtr8, bin_eql8, bin_eqlb, un_not, ofElem, loadAt, storeAt, setCells, AV.cells, boxNew, isCell, List.all, Bool.and_true, Bool.and_self, nums_0, nat_of0]
  refine wp_seq (wp_seq (wp_reg ?_))
  simp [opsF, viF, viGo, opF, opMov, opPick, opAlloc, opBox, opLd, opSt, opBin, opBinb, opUn, opIa, opLen, opMinmax, opExt, opKill, opSlice, opMkfn, rd, rdAll, rdOpt, get_cons, put_cons, del_cons, get_nil, put_nil, del_nil, List.foldl, setDst, share, shareAll, firm, firm1, firm2, lenOf, nat_of, elems, bin_lss, bin_gtr, bin_geq, bin_add, bin_mul, bin_sub, bin_neq, bin_eql, bin_gtr8, bin_eql8, bin_eqlb, un_not, ofElem, loadAt, storeAt, setCells, AV.cells, boxNew, isCell, List.all, Bool.and_true, Bool.and_self]
  refine wp_block ?_
  refine min_loop (x :: xs) (by simp; omega) _ xs.length 1 x (by simp; omega) ?_
  simp
  refine wp_seq (wp_reg ?_)
  simp [opsF, viF, viGo, opF, opMov, opPick, opAlloc, opBox, opLd, opSt, opBin, opBinb, opUn, opIa, opLen, opMinmax, opExt, opKill, opSlice, opMkfn, rd, rdAll, rdOpt, get_cons, put_cons, del_cons, get_nil, put_nil, del_nil, List.foldl, setDst, share, shareAll, firm, firm1, firm2, lenOf, nat_of, elems, bin_lss, bin_gtr, bin_geq, bin_add, bin_mul, bin_sub, bin_neq, bin_eql, bin_gtr8, bin_eql8, bin_eqlb, un_not, ofElem, loadAt, storeAt, setCells, AV.cells, boxNew, isCell, List.all, Bool.and_true, Bool.and_self]
  refine wp_ret ?_
  simp [endF, takeRes, get_cons, del_cons]
theorem max_loop (xs : List Int) (hx : xs.length ≤ 1000) (Q : Out → St → Prop) : ∀ (k i : Nat) (m : Int), i + k = xs.length → Q (.exit 0) ⟨[(3, .int .i64 (mm true m (xs.drop i)))], ⟨[], 0⟩⟩ → WP prog (.loop c15_L0) ⟨[(0, .d (.lst (nums xs))), (3, .int .i64 m), (4, .int .i64 (i : Int))], ⟨[], 0⟩⟩ Q := by
  intro k
  induction k with
  | zero =>
    intro i m h hq
    refine wp_loop (wp_seq (wp_seq (wp_reg ?_)))
    simp [opsF, viF, viGo, opF, opMov, opPick, opAlloc, opBox, opLd, opSt, opBin, opBinb, opUn, opIa, opLen, opMinmax, opExt, opKill, opSlice, opMkfn, rd, rdAll, rdOpt, get_cons, put_cons, del_cons, get_nil, put_nil, del_nil, List.foldl, setDst, share, shareAll, firm, firm1, firm2, lenOf, nat_of, elems, bin_lss, bin_gtr, bin_geq, bin_add, bin_mul, bin_sub, bin_neq, bin_eql, bin_gtr8, bin_eql8, bin_eqlb, un_not, ofElem, loadAt, storeAt, setCells, AV.cells, boxNew, isCell, List.all, Bool.and_true, Bool.and_self, nums_len]
    refine wp_cond ?_
    have hlt : ¬ i < xs.length := by omega
    simp [opsF, viF, viGo, opF, opMov, opPick, opAlloc, opBox, opLd, opSt, opBin, opBinb, opUn, opIa, opLen, opMinmax, opExt, opKill, opSlice, opMkfn, rd, rdAll, rdOpt, get_cons, put_cons, del_cons, get_nil, put_nil, del_nil, List.foldl, setDst, share, shareAll, firm, firm1, firm2, lenOf, nat_of, elems, bin_lss, bin_gtr, bin_geq, bin_add, bin_mul, bin_sub, bin_neq, bin_eql, bin_gtr8, bin_eql8, bin_eqlb, un_not, ofElem, loadAt, storeAt, setCells, AV.cells, boxNew, isCell, List.all, Bool.and_true, Bool.and_self, nums_len, hlt]
    refine wp_seq (wp_reg ?_)
    simp [opsF, viF, viGo, opF, opMov, opPick, opAlloc, opBox, opLd, opSt, opBin, opBinb, opUn, opIa, opLen, opMinmax, opExt, opKill, opSlice, opMkfn, rd, rdAll, rdOpt, get_cons, put_cons, del_cons, get_nil, put_nil, del_nil, List.foldl, setDst, share, shareAll, firm, firm1, firm2, lenOf, nat_of, elems, bin_lss, bin_gtr, bin_geq, bin_add, bin_mul, bin_sub, bin_neq, bin_eql, bin_gtr8, bin_eql8, bin_eqlb, un_not, ofElem, loadAt, storeAt, setCells, AV.cells, boxNew, isCell, List.all, Bool.and_true, Bool.and_self, nums_len, hlt]
    refine wp_exit ?_
    rw [List.drop_of_length_le (by omega)] at hq
    exact hq
  | succ k ih =>
    intro i m h hq
    refine wp_loop (wp_seq (wp_seq (wp_reg ?_)))
    simp [opsF, viF, viGo, opF, opMov, opPick, opAlloc, opBox, opLd, opSt, opBin, opBinb, opUn, opIa, opLen, opMinmax, opExt, opKill, opSlice, opMkfn, rd, rdAll, rdOpt, get_cons, put_cons, del_cons, get_nil, put_nil, del_nil, List.foldl, setDst, share, shareAll, firm, firm1, firm2, lenOf, nat_of, elems, bin_lss, bin_gtr, bin_geq, bin_add, bin_mul, bin_sub, bin_neq, bin_eql, bin_gtr8, bin_eql8, bin_eqlb, un_not, ofElem, loadAt, storeAt, setCells, AV.cells, boxNew, isCell, List.all, Bool.and_true, Bool.and_self, nums_len]
    refine wp_cond ?_
    have hlt : i < xs.length := by omega
    simp [opsF, viF, viGo, opF, opMov, opPick, opAlloc, opBox, opLd, opSt, opBin, opBinb, opUn, opIa, opLen, opMinmax, opExt, opKill, opSlice, opMkfn, rd, rdAll, rdOpt, get_cons, put_cons, del_cons, get_nil, put_nil, del_nil, List.foldl, setDst, share, shareAll, firm, firm1, firm2, lenOf, nat_of, elems, bin_lss, bin_gtr, bin_geq, bin_add, bin_mul, bin_sub, bin_neq, bin_eql, bin_gtr8, bin_eql8, bin_eqlb, un_not, ofElem, loadAt, storeAt, setCells, AV.cells, boxNew, isCell, List.all, Bool.and_true, Bool.and_self, nums_len, hlt]
    refine wp_skip (wp_seq (wp_block (wp_reg ?_)))
    simp [opsF, viF, viGo, opF, opMov, opPick, opAlloc, opBox, opLd, opSt, opBin, opBinb, opUn, opIa, opLen, opMinmax, opExt, opKill, opSlice, opMkfn, rd, rdAll, rdOpt, get_cons, put_cons, del_cons, get_nil, put_nil, del_nil, List.foldl, setDst, share, shareAll, firm, firm1, firm2, lenOf, nat_of, elems, bin_lss, bin_gtr, bin_geq, bin_add, bin_mul, bin_sub, bin_neq, bin_eql, bin_gtr8, bin_eql8, bin_eqlb, un_not, ofElem, loadAt, storeAt, setCells, AV.cells, boxNew, isCell, List.all, Bool.and_true, Bool.and_self, nums_len, nums_at, hlt, mm_step, foldMM]
    refine wp_reg ?_
    simp [opsF, viF, viGo, opF, opMov, opPick, opAlloc, opBox, opLd, opSt, opBin, opBinb, opUn, opIa, opLen, opMinmax, opExt, opKill, opSlice, opMkfn, rd, rdAll, rdOpt, get_cons, put_cons, del_cons, get_nil, put_nil, del_nil, List.foldl, setDst, share, shareAll, firm, firm1, firm2, lenOf, nat_of, elems, bin_lss, bin_gtr, bin_geq, bin_add, bin_mul, bin_sub, bin_neq, bin_eql, bin_gtr8, bin_eql8, bin_eqlb, un_not, ofElem, loadAt, storeAt, setCells, AV.cells, boxNew, isCell, List.all, Bool.and_true, Bool.and_self, nums_len, hlt]
    rw [wr_i64 (by omega) (by omega)]
    refine ih (i + 1) _ (by omega) ?_
    rw [List.drop_eq_getElem_cons hlt] at hq
    simpa [mm] using hq
theorem call15 {xs : List Int} {x : Int} (hx : xs.length < 1000) : EvP prog 15 [.d (.lst (nums (x :: xs)))] (.int .i64 (mm true x xs)) := by
  refine evp_wp rfl rfl ?_
  simp only [c15, mkEnv]
  refine wp_seq (wp_reg ?_)
  simp [opsF, viF, viGo, opF, opMov, opPick, opAlloc, opBox, opLd, opSt, opBin, opBinb, opUn, opIa, opLen, opMinmax, opExt, opKill, opSlice, opMkfn, rd, rdAll, rdOpt, get_cons, put_cons, del_cons, get_nil, put_nil, del_nil, List.foldl, setDst, share, shareAll, firm, firm1, firm2, lenOf, nat_of, elems, bin_lss, bin_gtr, bin_geq, bin_add, bin_mul, bin_sub, bin_neq, bin_eql, bin_gtr8, bin_eql8, bin_eqlb, un_not, ofElem, loadAt, storeAt, setCells, AV.cells, boxNew, isCell, List.all, Bool.and_true, Bool.and_self, nums_len]
  refine wp_seq (wp_seq (wp_reg ?_))
  simp [opsF, viF, viGo, opF, opMov, opPick, opAlloc, opBox, opLd, opSt, opBin, opBinb, opUn, opIa, opLen, opMinmax, opExt, opKill, opSlice, opMkfn, rd, rdAll, rdOpt, get_cons, put_cons, del_cons, get_nil, put_nil, del_nil, List.foldl, setDst, share, shareAll, firm, firm1, firm2, lenOf, nat_of, elems, bin_lss, bin_gtr, bin_geq, bin_add, bin_mul, bin_sub, bin_neq, bin_eql, bin_gtr8, bin_eql8, bin_eqlb, un_not, ofElem, loadAt, storeAt, setCells, AV.cells, boxNew, isCell, List.all, Bool.and_true, Bool.and_self, nums_len]
  refine wp_cond ?_
  have h1 : ¬ ((xs.length : Int) + 1 < 1) := by omega
  simp [opsF, viF, viGo, opF, opMov, opPick, opAlloc, opBox, opLd, opSt, opBin, opBinb, opUn, opIa, opLen, opMinmax, opExt, opKill, opSlice, opMkfn, rd, rdAll, rdOpt, get_cons, put_cons, del_cons, get_nil, put_nil, del_nil, List.foldl, setDst, share, shareAll, firm, firm1, firm2, lenOf, nat_of, elems, bin_lss, bin_gtr, bin_geq, bin_add, bin_mul, bin_sub, bin_neq, bin_eql, bin_gtr8, bin_eql8, bin_eqlb, un_not, ofElem, loadAt, storeAt, setCells, AV.cells, boxNew, isCell, List.all, Bool.and_true, Bool.and_self, nums_len, h1]
  refine wp_skip (wp_seq (wp_reg ?_))
  simp [opsF, viF, viGo, opF, opMov, opPick, opAlloc, opBox, opLd, opSt, opBin, opBinb, opUn, opIa, opLen, opMinmax, opExt, opKill, opSlice, opMkfn, rd, rdAll, rdOpt, get_cons, put_cons, del_cons, get_nil, put_nil, del_nil, List.foldl, setDst, share, shareAll, firm, firm1, firm2, lenOf, nat_of, elems, bin_lss, bin_gtr, bin_geq, bin_add, bin_mul, bin_sub, bin_neq, bin_eql, bin_gtr8, bin_eql8, bin_eqlb, un_not, ofElem, loadAt, storeAt, setCells, AV.cells, boxNew, isCell, List.all, Bool.and_true, Bool.and_self, nums_0, nat_of0]
  refine wp_seq (wp_seq (wp_reg ?_))
  simp [opsF, viF, viGo, opF, opMov, opPick, opAlloc, opBox, opLd, opSt, opBin, opBinb, opUn, opIa, opLen, opMinmax, opExt, opKill, opSlice, opMkfn, rd, rdAll, rdOpt, get_cons, put_cons, del_cons, get_nil, put_nil, del_nil, List.foldl, setDst, share, shareAll, firm, firm1, firm2, lenOf, nat_of, elems, bin_lss, bin_gtr, bin_geq, bin_add, bin_mul, bin_sub, bin_neq, bin_eql, bin_gtr8, bin_eql8, bin_eqlb, un_not, ofElem, loadAt, storeAt, setCells, AV.cells, boxNew, isCell, List.all, Bool.and_true, Bool.and_self]
  refine wp_block ?_
  refine max_loop (x :: xs) (by simp; omega) _ xs.length 1 x (by simp; omega) ?_
  simp
  refine wp_seq (wp_reg ?_)
  simp [opsF, viF, viGo, opF, opMov, opPick, opAlloc, opBox, opLd, opSt, opBin, opBinb, opUn, opIa, opLen, opMinmax, opExt, opKill, opSlice, opMkfn, rd, rdAll, rdOpt, get_cons, put_cons, del_cons, get_nil, put_nil, del_nil, List.foldl, setDst, share, shareAll, firm, firm1, firm2, lenOf, nat_of, elems, bin_lss, bin_gtr, bin_geq, bin_add, bin_mul, bin_sub, bin_neq, bin_eql, bin_gtr8, bin_eql8, bin_eqlb, un_not, ofElem, loadAt, storeAt, setCells, AV.cells, boxNew, isCell, List.all, Bool.and_true, Bool.and_self]
  refine wp_ret ?_
  simp [endF, takeRes, get_cons, del_cons]
end Go.Vm

/-
  PickSees: the reference's range test, the sequence step.
-/
namespace Go.Vm
abbrev c17_L0 : VC := (.seq (.seq (.reg false [
  ⟨some 8, none, .mov (.s 7), []⟩,
  ⟨some 9, none, .mov (.s 0), []⟩,
  ⟨some 10, none, .len (.m 9), []⟩,
  ⟨some 11, none, .bin .lss (.m 8) (.m 10), []⟩])
 (.cond (.m 11)
 .skip
 (.seq (K [0, 1, 2, 7]) (.exit 0))))
 (.seq (.block 1
 (.seq (.reg false [
  ⟨some 14, none, .mov (.s 0), []⟩,
  ⟨some 15, none, .mov (.s 7), []⟩,
  ⟨some 16, none, .ia 1 (.m 14) (.m 15), []⟩,
  ⟨some 17, none, .ld none 0 (.m 16), []⟩,
  ⟨some 18, none, .mov (.s 1), []⟩,
  ⟨some 19, none, .bin .lss (.m 17) (.m 18), []⟩,
  ⟨some 20, none, .mov (.m 19), []⟩,
  ⟨some 21, (some (20, false)), .mov (.s 0), []⟩,
  ⟨some 22, (some (20, false)), .mov (.s 7), []⟩,
  ⟨some 23, (some (20, false)), .ia 1 (.s 21) (.s 22), []⟩,
  ⟨some 24, (some (20, false)), .ld none 0 (.s 23), []⟩,
  ⟨some 25, (some (20, false)), .mov (.s 2), []⟩,
  ⟨some 26, (some (20, false)), .bin .gtr (.s 24) (.s 25), []⟩,
  ⟨some 27, none, .pick (.m 20) (.c (.d (.bool true))) (.m 26), []⟩,
  ⟨none, none, .kill [21, 22, 23, 24, 25], []⟩])
 (.cond (.m 27)
 (.seq (K [0, 1, 2, 7]) (.seq (.reg false [
  ⟨some 6, none, .mov (.c (.d (.bool false))), []⟩])
 .ret))
 .skip)))
 (.reg false [
  ⟨some 12, none, .mov (.m 7), []⟩,
  ⟨some 13, none, .bin .add (.m 12) (.c (.d (.int .i64 1))), []⟩,
  ⟨some 7, none, .mov (.m 13), []⟩,
  ⟨none, none, .kill [6, 14, 15, 16, 17, 18, 19, 20, 21, 22, 23, 24, 25, 26, 27], []⟩])))
/-- Is every sample in range? -/
def inR (a b : Int) (xs : List Int) : Bool := xs.all fun x => !(decide (x < a) || decide (b < x))
theorem inR_cons (a b x : Int) (r : List Int) : inR a b (x :: r) = (!(decide (x < a) || decide (b < x)) && inR a b r) := rfl
theorem in_loop (xs : List Int) (a b : Int) (hx : xs.length ≤ 1000) (Q : Out → St → Prop) : ∀ (k i : Nat), i + k = xs.length → (inR a b (xs.drop i) = true → Q (.exit 0) ⟨[], ⟨[], 0⟩⟩) → (inR a b (xs.drop i) = false → ∀ e, Q .ret ⟨(6, .bool false) :: e, ⟨[], 0⟩⟩) →
    WP prog (.loop c17_L0) ⟨[(0, .d (.lst (nums xs))), (1, .int .i64 a), (2, .int .i64 b), (7, .int .i64 (i : Int))], ⟨[], 0⟩⟩ Q := by
  intro k
  induction k with
  | zero =>
    intro i h hq hr
    refine wp_loop (wp_seq (wp_seq (wp_reg ?_)))
    simp [opsF, viF, viGo, opF, opMov, opPick, opAlloc, opBox, opLd, opSt, opBin, opBinb, opUn, opIa, opLen, opMinmax, opExt, opKill, opSlice, opMkfn, rd, rdAll, rdOpt, get_cons, put_cons, del_cons, get_nil, put_nil, del_nil, List.foldl, setDst, share, shareAll, firm, firm1, firm2, lenOf, nat_of, elems, bin_lss, bin_gtr, bin_geq, bin_add, bin_mul, bin_sub, bin_neq, bin_eql, bin_gtr8, bin_eql8, bin_eqlb, un_not, ofElem, loadAt, storeAt, setCells, AV.cells, boxNew, isCell, List.all, Bool.and_true, Bool.and_self, nums_len]
    refine wp_cond ?_
    have hlt : ¬ i < xs.length := by omega
    simp [opsF, viF, viGo, opF, opMov, opPick, opAlloc, opBox, opLd, opSt, opBin, opBinb, opUn, opIa, opLen, opMinmax, opExt, opKill, opSlice, opMkfn, rd, rdAll, rdOpt, get_cons, put_cons, del_cons, get_nil, put_nil, del_nil, List.foldl, setDst, share, shareAll, firm, firm1, firm2, lenOf, nat_of, elems, bin_lss, bin_gtr, bin_geq, bin_add, bin_mul, bin_sub, bin_neq, bin_eql, bin_gtr8, bin_eql8, bin_eqlb, un_not, ofElem, loadAt, storeAt, setCells, AV.cells, boxNew, isCell, List.all, Bool.and_true, Bool.and_self, nums_len, hlt]
    refine wp_seq (wp_reg ?_)
    simp [opsF, viF, viGo, opF, opMov, opPick, opAlloc, opBox, opLd, opSt, opBin, opBinb, opUn, opIa, opLen, opMinmax, opExt, opKill, opSlice, opMkfn, rd, rdAll, rdOpt, get_cons, put_cons, del_cons, get_nil, put_nil, del_nil, List.foldl, setDst, share, shareAll, firm, firm1, firm2, lenOf, nat_of, elems, bin_lss, bin_gtr, bin_geq, bin_add, bin_mul, bin_sub, bin_neq, bin_eql, bin_gtr8, bin_eql8, bin_eqlb, un_not, ofElem, loadAt, storeAt, setCells, AV.cells, boxNew, isCell, List.all, Bool.and_true, Bool.and_self, nums_len, hlt]
    refine wp_exit ?_
    rw [List.drop_of_length_le (by omega)] at hq
    exact hq rfl
  | succ k ih =>
    intro i h hq hr
    refine wp_loop (wp_seq (wp_seq (wp_reg ?_)))
    simp [opsF, viF, viGo, opF, opMov, opPick, opAlloc, opBox, opLd, opSt, opBin, opBinb, opUn, opIa, opLen, opMinmax, opExt, opKill, opSlice, opMkfn, rd, rdAll, rdOpt, get_cons, put_cons, del_cons, get_nil, put_nil, del_nil, List.foldl, setDst, share, shareAll, firm, firm1, firm2, lenOf, nat_of, elems, bin_lss, bin_gtr, bin_geq, bin_add, bin_mul, bin_sub, bin_neq, bin_eql, bin_gtr8, bin_eql8, bin_eqlb, un_not, ofElem, loadAt, storeAt, setCells, AV.cells, boxNew, isCell, List.all, Bool.and_true, Bool.and_self, nums_len]
    refine wp_cond ?_
    have hlt : i < xs.length := by omega
    rw [List.drop_eq_getElem_cons hlt, inR_cons] at hq hr
    simp [opsF, viF, viGo, opF, opMov, opPick, opAlloc, opBox, opLd, opSt, opBin, opBinb, opUn, opIa, opLen, opMinmax, opExt, opKill, opSlice, opMkfn, rd, rdAll, rdOpt, get_cons, put_cons, del_cons, get_nil, put_nil, del_nil, List.foldl, setDst, share, shareAll, firm, firm1, firm2, lenOf, nat_of, elems, bin_lss, bin_gtr, bin_geq, bin_add, bin_mul, bin_sub, bin_neq, bin_eql, bin_gtr8, bin_eql8, bin_eqlb, un_not, ofElem, loadAt, storeAt, setCells, AV.cells, boxNew, isCell, List.all, Bool.and_true, Bool.and_self, nums_len, hlt]
    refine wp_skip (wp_seq (wp_block (wp_seq (wp_reg ?_))))
    by_cases h1 : xs[i] < a
    · simp [opsF, viF, viGo, opF, opMov, opPick, opAlloc, opBox, opLd, opSt, opBin, opBinb, opUn, opIa, opLen, opMinmax, opExt, opKill, opSlice, opMkfn, rd, rdAll, rdOpt, get_cons, put_cons, del_cons, get_nil, put_nil, del_nil, List.foldl, setDst, share, shareAll, firm, firm1, firm2, lenOf, nat_of, elems, bin_lss, bin_gtr, bin_geq, bin_add, bin_mul, bin_sub, bin_neq, bin_eql, bin_gtr8, bin_eql8, bin_eqlb, un_not, ofElem, loadAt, storeAt, setCells, AV.cells, boxNew, isCell, List.all, Bool.and_true, Bool.and_self, nums_len, nums_at, hlt, h1]
      refine wp_cond ?_
      simp [opsF, viF, viGo, opF, opMov, opPick, opAlloc, opBox, opLd, opSt, opBin, opBinb, opUn, opIa, opLen, opMinmax, opExt, opKill, opSlice, opMkfn, rd, rdAll, rdOpt, get_cons, put_cons, del_cons, get_nil, put_nil, del_nil, List.foldl, setDst, share, shareAll, firm, firm1, firm2, lenOf, nat_of, elems, bin_lss, bin_gtr, bin_geq, bin_add, bin_mul, bin_sub, bin_neq, bin_eql, bin_gtr8, bin_eql8, bin_eqlb, un_not, ofElem, loadAt, storeAt, setCells, AV.cells, boxNew, isCell, List.all, Bool.and_true, Bool.and_self]
      refine wp_seq (wp_reg ?_)
      simp [opsF, viF, viGo, opF, opMov, opPick, opAlloc, opBox, opLd, opSt, opBin, opBinb, opUn, opIa, opLen, opMinmax, opExt, opKill, opSlice, opMkfn, rd, rdAll, rdOpt, get_cons, put_cons, del_cons, get_nil, put_nil, del_nil, List.foldl, setDst, share, shareAll, firm, firm1, firm2, lenOf, nat_of, elems, bin_lss, bin_gtr, bin_geq, bin_add, bin_mul, bin_sub, bin_neq, bin_eql, bin_gtr8, bin_eql8, bin_eqlb, un_not, ofElem, loadAt, storeAt, setCells, AV.cells, boxNew, isCell, List.all, Bool.and_true, Bool.and_self]
      refine wp_seq (wp_reg ?_)
      simp [opsF, viF, viGo, opF, opMov, opPick, opAlloc, opBox, opLd, opSt, opBin, opBinb, opUn, opIa, opLen, opMinmax, opExt, opKill, opSlice, opMkfn, rd, rdAll, rdOpt, get_cons, put_cons, del_cons, get_nil, put_nil, del_nil, List.foldl, setDst, share, shareAll, firm, firm1, firm2, lenOf, nat_of, elems, bin_lss, bin_gtr, bin_geq, bin_add, bin_mul, bin_sub, bin_neq, bin_eql, bin_gtr8, bin_eql8, bin_eqlb, un_not, ofElem, loadAt, storeAt, setCells, AV.cells, boxNew, isCell, List.all, Bool.and_true, Bool.and_self]
      refine wp_ret ?_
      refine hr (by simp [h1]) _
    · by_cases h2 : b < xs[i]
      · simp [opsF, viF, viGo, opF, opMov, opPick, opAlloc, opBox, opLd, opSt, opBin, opBinb, opUn, opIa, opLen, opMinmax, opExt, opKill, opSlice, opMkfn, rd, rdAll, rdOpt, get_cons, put_cons, del_cons, get_nil, put_nil, del_nil, List.foldl, setDst, share, shareAll, firm, firm1, firm2, lenOf, nat_of, elems, bin_lss, bin_gtr, bin_geq, bin_add, bin_mul, bin_sub, bin_neq, bin_eql, bin_gtr8, bin_eql8, bin_eqlb, un_not, ofElem, loadAt, storeAt, setCells, AV.cells, boxNew, isCell, List.all, Bool.and_true, Bool.and_self, nums_len, nums_at, hlt, h1, h2]
        refine wp_cond ?_
        simp [opsF, viF, viGo, opF, opMov, opPick, opAlloc, opBox, opLd, opSt, opBin, opBinb, opUn, opIa, opLen, opMinmax, opExt, opKill, opSlice, opMkfn, rd, rdAll, rdOpt, get_cons, put_cons, del_cons, get_nil, put_nil, del_nil, List.foldl, setDst, share, shareAll, firm, firm1, firm2, lenOf, nat_of, elems, bin_lss, bin_gtr, bin_geq, bin_add, bin_mul, bin_sub, bin_neq, bin_eql, bin_gtr8, bin_eql8, bin_eqlb, un_not, ofElem, loadAt, storeAt, setCells, AV.cells, boxNew, isCell, List.all, Bool.and_true, Bool.and_self]
        refine wp_seq (wp_reg ?_)
        simp [opsF, viF, viGo, opF, opMov, opPick, opAlloc, opBox, opLd, opSt, opBin, opBinb, opUn, opIa, opLen, opMinmax, opExt, opKill, opSlice, opMkfn, rd, rdAll, rdOpt, get_cons, put_cons, del_cons, get_nil, put_nil, del_nil, List.foldl, setDst, share, shareAll, firm, firm1, firm2, lenOf, nat_of, elems, bin_lss, bin_gtr, bin_geq, bin_add, bin_mul, bin_sub, bin_neq, bin_eql, bin_gtr8, bin_eql8, bin_eqlb, un_not, ofElem, loadAt, storeAt, setCells, AV.cells, boxNew, isCell, List.all, Bool.and_true, Bool.and_self]
        refine wp_seq (wp_reg ?_)
        simp [opsF, viF, viGo, opF, opMov, opPick, opAlloc, opBox, opLd, opSt, opBin, opBinb, opUn, opIa, opLen, opMinmax, opExt, opKill, opSlice, opMkfn, rd, rdAll, rdOpt, get_cons, put_cons, del_cons, get_nil, put_nil, del_nil, List.foldl, setDst, share, shareAll, firm, firm1, firm2, lenOf, nat_of, elems, bin_lss, bin_gtr, bin_geq, bin_add, bin_mul, bin_sub, bin_neq, bin_eql, bin_gtr8, bin_eql8, bin_eqlb, un_not, ofElem, loadAt, storeAt, setCells, AV.cells, boxNew, isCell, List.all, Bool.and_true, Bool.and_self]
        refine wp_ret ?_
        refine hr (by simp [h2]) _
      · simp [opsF, viF, viGo, opF, opMov, opPick, opAlloc, opBox, opLd, opSt, opBin, opBinb, opUn, opIa, opLen, opMinmax, opExt, opKill, opSlice, opMkfn, rd, rdAll, rdOpt, get_cons, put_cons, del_cons, get_nil, put_nil, del_nil, List.foldl, setDst, share, shareAll, firm, firm1, firm2, lenOf, nat_of, elems, bin_lss, bin_gtr, bin_geq, bin_add, bin_mul, bin_sub, bin_neq, bin_eql, bin_gtr8, bin_eql8, bin_eqlb, un_not, ofElem, loadAt, storeAt, setCells, AV.cells, boxNew, isCell, List.all, Bool.and_true, Bool.and_self, nums_len, nums_at, hlt, h1, h2]
        refine wp_cond ?_
        simp [opsF, viF, viGo, opF, opMov, opPick, opAlloc, opBox, opLd, opSt, opBin, opBinb, opUn, opIa, opLen, opMinmax, opExt, opKill, opSlice, opMkfn, rd, rdAll, rdOpt, get_cons, put_cons, del_cons, get_nil, put_nil, del_nil, List.foldl, setDst, share, shareAll, firm, firm1, firm2, lenOf, nat_of, elems, bin_lss, bin_gtr, bin_geq, bin_add, bin_mul, bin_sub, bin_neq, bin_eql, bin_gtr8, bin_eql8, bin_eqlb, un_not, ofElem, loadAt, storeAt, setCells, AV.cells, boxNew, isCell, List.all, Bool.and_true, Bool.and_self]
        refine wp_skip ?_
        simp
        refine wp_reg ?_
        simp [opsF, viF, viGo, opF, opMov, opPick, opAlloc, opBox, opLd, opSt, opBin, opBinb, opUn, opIa, opLen, opMinmax, opExt, opKill, opSlice, opMkfn, rd, rdAll, rdOpt, get_cons, put_cons, del_cons, get_nil, put_nil, del_nil, List.foldl, setDst, share, shareAll, firm, firm1, firm2, lenOf, nat_of, elems, bin_lss, bin_gtr, bin_geq, bin_add, bin_mul, bin_sub, bin_neq, bin_eql, bin_gtr8, bin_eql8, bin_eqlb, un_not, ofElem, loadAt, storeAt, setCells, AV.cells, boxNew, isCell, List.all, Bool.and_true, Bool.and_self]
        rw [wr_i64 (by omega) (by omega)]
        refine ih (i + 1) (by omega) (fun h => hq ?_) (fun h => hr ?_)
        · simp [h1, h2, h]
        · simp [h1, h2, h]
theorem call17 {xs : List Int} (a b : Int) (hx : xs.length ≤ 1000) : EvP prog 17 [.d (.lst (nums xs)), .int .i64 a, .int .i64 b] (.bool (inR a b xs)) := by
  refine evp_wp rfl rfl ?_
  simp only [c17, mkEnv]
  refine wp_seq (wp_reg ?_)
  simp [opsF, viF, viGo, opF, opMov, opPick, opAlloc, opBox, opLd, opSt, opBin, opBinb, opUn, opIa, opLen, opMinmax, opExt, opKill, opSlice, opMkfn, rd, rdAll, rdOpt, get_cons, put_cons, del_cons, get_nil, put_nil, del_nil, List.foldl, setDst, share, shareAll, firm, firm1, firm2, lenOf, nat_of, elems, bin_lss, bin_gtr, bin_geq, bin_add, bin_mul, bin_sub, bin_neq, bin_eql, bin_gtr8, bin_eql8, bin_eqlb, un_not, ofElem, loadAt, storeAt, setCells, AV.cells, boxNew, isCell, List.all, Bool.and_true, Bool.and_self]
  refine wp_seq (wp_seq (wp_reg ?_))
  simp [opsF, viF, viGo, opF, opMov, opPick, opAlloc, opBox, opLd, opSt, opBin, opBinb, opUn, opIa, opLen, opMinmax, opExt, opKill, opSlice, opMkfn, rd, rdAll, rdOpt, get_cons, put_cons, del_cons, get_nil, put_nil, del_nil, List.foldl, setDst, share, shareAll, firm, firm1, firm2, lenOf, nat_of, elems, bin_lss, bin_gtr, bin_geq, bin_add, bin_mul, bin_sub, bin_neq, bin_eql, bin_gtr8, bin_eql8, bin_eqlb, un_not, ofElem, loadAt, storeAt, setCells, AV.cells, boxNew, isCell, List.all, Bool.and_true, Bool.and_self]
  refine wp_block ?_
  refine in_loop xs a b hx _ xs.length 0 (by omega) ?_ ?_
  · intro h
    simp at h ⊢
    refine wp_seq (wp_reg ?_)
    simp [opsF, viF, viGo, opF, opMov, opPick, opAlloc, opBox, opLd, opSt, opBin, opBinb, opUn, opIa, opLen, opMinmax, opExt, opKill, opSlice, opMkfn, rd, rdAll, rdOpt, get_cons, put_cons, del_cons, get_nil, put_nil, del_nil, List.foldl, setDst, share, shareAll, firm, firm1, firm2, lenOf, nat_of, elems, bin_lss, bin_gtr, bin_geq, bin_add, bin_mul, bin_sub, bin_neq, bin_eql, bin_gtr8, bin_eql8, bin_eqlb, un_not, ofElem, loadAt, storeAt, setCells, AV.cells, boxNew, isCell, List.all, Bool.and_true, Bool.and_self]
    refine wp_ret ?_
    simp [endF, takeRes, get_cons, del_cons, h]
  · intro h e
    simp at h
    simp [endF, takeRes, get_cons, del_cons, h]

/-- The next step, as the reference has it. -/
def nextOf (w : Int) (now next : Bool) : Int := if w = 0 ∨ w = 3 then (if next then 1 else 0) else (if now || next then 2 else 3)
theorem call19 (w : Int) (now next : Bool) : EvP prog 19 [.int .u8 w, .bool now, .bool next] (.int .u8 (nextOf w now next)) := by
  refine evp_wp rfl rfl ?_
  simp only [c19, mkEnv]
  refine wp_seq (wp_reg ?_)
  simp [opsF, viF, viGo, opF, opMov, opPick, opAlloc, opBox, opLd, opSt, opBin, opBinb, opUn, opIa, opLen, opMinmax, opExt, opKill, opSlice, opMkfn, rd, rdAll, rdOpt, get_cons, put_cons, del_cons, get_nil, put_nil, del_nil, List.foldl, setDst, share, shareAll, firm, firm1, firm2, lenOf, nat_of, elems, bin_lss, bin_gtr, bin_geq, bin_add, bin_mul, bin_sub, bin_neq, bin_eql, bin_gtr8, bin_eql8, bin_eqlb, un_not, ofElem, loadAt, storeAt, setCells, AV.cells, boxNew, isCell, List.all, Bool.and_true, Bool.and_self]
  refine wp_seq (wp_seq (wp_reg ?_))
  by_cases h0 : w = 0
  · simp [opsF, viF, viGo, opF, opMov, opPick, opAlloc, opBox, opLd, opSt, opBin, opBinb, opUn, opIa, opLen, opMinmax, opExt, opKill, opSlice, opMkfn, rd, rdAll, rdOpt, get_cons, put_cons, del_cons, get_nil, put_nil, del_nil, List.foldl, setDst, share, shareAll, firm, firm1, firm2, lenOf, nat_of, elems, bin_lss, bin_gtr, bin_geq, bin_add, bin_mul, bin_sub, bin_neq, bin_eql, bin_gtr8, bin_eql8, bin_eqlb, un_not, ofElem, loadAt, storeAt, setCells, AV.cells, boxNew, isCell, List.all, Bool.and_true, Bool.and_self, h0]
    refine wp_cond ?_
    simp [opsF, viF, viGo, opF, opMov, opPick, opAlloc, opBox, opLd, opSt, opBin, opBinb, opUn, opIa, opLen, opMinmax, opExt, opKill, opSlice, opMkfn, rd, rdAll, rdOpt, get_cons, put_cons, del_cons, get_nil, put_nil, del_nil, List.foldl, setDst, share, shareAll, firm, firm1, firm2, lenOf, nat_of, elems, bin_lss, bin_gtr, bin_geq, bin_add, bin_mul, bin_sub, bin_neq, bin_eql, bin_gtr8, bin_eql8, bin_eqlb, un_not, ofElem, loadAt, storeAt, setCells, AV.cells, boxNew, isCell, List.all, Bool.and_true, Bool.and_self]
    refine wp_seq (wp_reg ?_)
    simp [opsF, viF, viGo, opF, opMov, opPick, opAlloc, opBox, opLd, opSt, opBin, opBinb, opUn, opIa, opLen, opMinmax, opExt, opKill, opSlice, opMkfn, rd, rdAll, rdOpt, get_cons, put_cons, del_cons, get_nil, put_nil, del_nil, List.foldl, setDst, share, shareAll, firm, firm1, firm2, lenOf, nat_of, elems, bin_lss, bin_gtr, bin_geq, bin_add, bin_mul, bin_sub, bin_neq, bin_eql, bin_gtr8, bin_eql8, bin_eqlb, un_not, ofElem, loadAt, storeAt, setCells, AV.cells, boxNew, isCell, List.all, Bool.and_true, Bool.and_self]
    refine wp_seq (wp_seq (wp_reg ?_))
    simp [opsF, viF, viGo, opF, opMov, opPick, opAlloc, opBox, opLd, opSt, opBin, opBinb, opUn, opIa, opLen, opMinmax, opExt, opKill, opSlice, opMkfn, rd, rdAll, rdOpt, get_cons, put_cons, del_cons, get_nil, put_nil, del_nil, List.foldl, setDst, share, shareAll, firm, firm1, firm2, lenOf, nat_of, elems, bin_lss, bin_gtr, bin_geq, bin_add, bin_mul, bin_sub, bin_neq, bin_eql, bin_gtr8, bin_eql8, bin_eqlb, un_not, ofElem, loadAt, storeAt, setCells, AV.cells, boxNew, isCell, List.all, Bool.and_true, Bool.and_self]
    refine wp_cond ?_
    cases next
    · simp [opsF, viF, viGo, opF, opMov, opPick, opAlloc, opBox, opLd, opSt, opBin, opBinb, opUn, opIa, opLen, opMinmax, opExt, opKill, opSlice, opMkfn, rd, rdAll, rdOpt, get_cons, put_cons, del_cons, get_nil, put_nil, del_nil, List.foldl, setDst, share, shareAll, firm, firm1, firm2, lenOf, nat_of, elems, bin_lss, bin_gtr, bin_geq, bin_add, bin_mul, bin_sub, bin_neq, bin_eql, bin_gtr8, bin_eql8, bin_eqlb, un_not, ofElem, loadAt, storeAt, setCells, AV.cells, boxNew, isCell, List.all, Bool.and_true, Bool.and_self]
      refine wp_skip (wp_seq (wp_reg ?_))
      simp [opsF, viF, viGo, opF, opMov, opPick, opAlloc, opBox, opLd, opSt, opBin, opBinb, opUn, opIa, opLen, opMinmax, opExt, opKill, opSlice, opMkfn, rd, rdAll, rdOpt, get_cons, put_cons, del_cons, get_nil, put_nil, del_nil, List.foldl, setDst, share, shareAll, firm, firm1, firm2, lenOf, nat_of, elems, bin_lss, bin_gtr, bin_geq, bin_add, bin_mul, bin_sub, bin_neq, bin_eql, bin_gtr8, bin_eql8, bin_eqlb, un_not, ofElem, loadAt, storeAt, setCells, AV.cells, boxNew, isCell, List.all, Bool.and_true, Bool.and_self]
      refine wp_ret ?_
      simp [endF, takeRes, get_cons, del_cons, nextOf]
    · simp [opsF, viF, viGo, opF, opMov, opPick, opAlloc, opBox, opLd, opSt, opBin, opBinb, opUn, opIa, opLen, opMinmax, opExt, opKill, opSlice, opMkfn, rd, rdAll, rdOpt, get_cons, put_cons, del_cons, get_nil, put_nil, del_nil, List.foldl, setDst, share, shareAll, firm, firm1, firm2, lenOf, nat_of, elems, bin_lss, bin_gtr, bin_geq, bin_add, bin_mul, bin_sub, bin_neq, bin_eql, bin_gtr8, bin_eql8, bin_eqlb, un_not, ofElem, loadAt, storeAt, setCells, AV.cells, boxNew, isCell, List.all, Bool.and_true, Bool.and_self]
      refine wp_seq (wp_reg ?_)
      simp [opsF, viF, viGo, opF, opMov, opPick, opAlloc, opBox, opLd, opSt, opBin, opBinb, opUn, opIa, opLen, opMinmax, opExt, opKill, opSlice, opMkfn, rd, rdAll, rdOpt, get_cons, put_cons, del_cons, get_nil, put_nil, del_nil, List.foldl, setDst, share, shareAll, firm, firm1, firm2, lenOf, nat_of, elems, bin_lss, bin_gtr, bin_geq, bin_add, bin_mul, bin_sub, bin_neq, bin_eql, bin_gtr8, bin_eql8, bin_eqlb, un_not, ofElem, loadAt, storeAt, setCells, AV.cells, boxNew, isCell, List.all, Bool.and_true, Bool.and_self]
      refine wp_ret ?_
      simp [endF, takeRes, get_cons, del_cons, nextOf]
  · by_cases h3 : w = 3
    · simp [opsF, viF, viGo, opF, opMov, opPick, opAlloc, opBox, opLd, opSt, opBin, opBinb, opUn, opIa, opLen, opMinmax, opExt, opKill, opSlice, opMkfn, rd, rdAll, rdOpt, get_cons, put_cons, del_cons, get_nil, put_nil, del_nil, List.foldl, setDst, share, shareAll, firm, firm1, firm2, lenOf, nat_of, elems, bin_lss, bin_gtr, bin_geq, bin_add, bin_mul, bin_sub, bin_neq, bin_eql, bin_gtr8, bin_eql8, bin_eqlb, un_not, ofElem, loadAt, storeAt, setCells, AV.cells, boxNew, isCell, List.all, Bool.and_true, Bool.and_self, h3]
      refine wp_cond ?_
      simp [opsF, viF, viGo, opF, opMov, opPick, opAlloc, opBox, opLd, opSt, opBin, opBinb, opUn, opIa, opLen, opMinmax, opExt, opKill, opSlice, opMkfn, rd, rdAll, rdOpt, get_cons, put_cons, del_cons, get_nil, put_nil, del_nil, List.foldl, setDst, share, shareAll, firm, firm1, firm2, lenOf, nat_of, elems, bin_lss, bin_gtr, bin_geq, bin_add, bin_mul, bin_sub, bin_neq, bin_eql, bin_gtr8, bin_eql8, bin_eqlb, un_not, ofElem, loadAt, storeAt, setCells, AV.cells, boxNew, isCell, List.all, Bool.and_true, Bool.and_self]
      refine wp_seq (wp_reg ?_)
      simp [opsF, viF, viGo, opF, opMov, opPick, opAlloc, opBox, opLd, opSt, opBin, opBinb, opUn, opIa, opLen, opMinmax, opExt, opKill, opSlice, opMkfn, rd, rdAll, rdOpt, get_cons, put_cons, del_cons, get_nil, put_nil, del_nil, List.foldl, setDst, share, shareAll, firm, firm1, firm2, lenOf, nat_of, elems, bin_lss, bin_gtr, bin_geq, bin_add, bin_mul, bin_sub, bin_neq, bin_eql, bin_gtr8, bin_eql8, bin_eqlb, un_not, ofElem, loadAt, storeAt, setCells, AV.cells, boxNew, isCell, List.all, Bool.and_true, Bool.and_self]
      refine wp_seq (wp_seq (wp_reg ?_))
      simp [opsF, viF, viGo, opF, opMov, opPick, opAlloc, opBox, opLd, opSt, opBin, opBinb, opUn, opIa, opLen, opMinmax, opExt, opKill, opSlice, opMkfn, rd, rdAll, rdOpt, get_cons, put_cons, del_cons, get_nil, put_nil, del_nil, List.foldl, setDst, share, shareAll, firm, firm1, firm2, lenOf, nat_of, elems, bin_lss, bin_gtr, bin_geq, bin_add, bin_mul, bin_sub, bin_neq, bin_eql, bin_gtr8, bin_eql8, bin_eqlb, un_not, ofElem, loadAt, storeAt, setCells, AV.cells, boxNew, isCell, List.all, Bool.and_true, Bool.and_self]
      refine wp_cond ?_
      cases next
      · simp [opsF, viF, viGo, opF, opMov, opPick, opAlloc, opBox, opLd, opSt, opBin, opBinb, opUn, opIa, opLen, opMinmax, opExt, opKill, opSlice, opMkfn, rd, rdAll, rdOpt, get_cons, put_cons, del_cons, get_nil, put_nil, del_nil, List.foldl, setDst, share, shareAll, firm, firm1, firm2, lenOf, nat_of, elems, bin_lss, bin_gtr, bin_geq, bin_add, bin_mul, bin_sub, bin_neq, bin_eql, bin_gtr8, bin_eql8, bin_eqlb, un_not, ofElem, loadAt, storeAt, setCells, AV.cells, boxNew, isCell, List.all, Bool.and_true, Bool.and_self]
        refine wp_skip (wp_seq (wp_reg ?_))
        simp [opsF, viF, viGo, opF, opMov, opPick, opAlloc, opBox, opLd, opSt, opBin, opBinb, opUn, opIa, opLen, opMinmax, opExt, opKill, opSlice, opMkfn, rd, rdAll, rdOpt, get_cons, put_cons, del_cons, get_nil, put_nil, del_nil, List.foldl, setDst, share, shareAll, firm, firm1, firm2, lenOf, nat_of, elems, bin_lss, bin_gtr, bin_geq, bin_add, bin_mul, bin_sub, bin_neq, bin_eql, bin_gtr8, bin_eql8, bin_eqlb, un_not, ofElem, loadAt, storeAt, setCells, AV.cells, boxNew, isCell, List.all, Bool.and_true, Bool.and_self]
        refine wp_ret ?_
        simp [endF, takeRes, get_cons, del_cons, nextOf]
      · simp [opsF, viF, viGo, opF, opMov, opPick, opAlloc, opBox, opLd, opSt, opBin, opBinb, opUn, opIa, opLen, opMinmax, opExt, opKill, opSlice, opMkfn, rd, rdAll, rdOpt, get_cons, put_cons, del_cons, get_nil, put_nil, del_nil, List.foldl, setDst, share, shareAll, firm, firm1, firm2, lenOf, nat_of, elems, bin_lss, bin_gtr, bin_geq, bin_add, bin_mul, bin_sub, bin_neq, bin_eql, bin_gtr8, bin_eql8, bin_eqlb, un_not, ofElem, loadAt, storeAt, setCells, AV.cells, boxNew, isCell, List.all, Bool.and_true, Bool.and_self]
        refine wp_seq (wp_reg ?_)
        simp [opsF, viF, viGo, opF, opMov, opPick, opAlloc, opBox, opLd, opSt, opBin, opBinb, opUn, opIa, opLen, opMinmax, opExt, opKill, opSlice, opMkfn, rd, rdAll, rdOpt, get_cons, put_cons, del_cons, get_nil, put_nil, del_nil, List.foldl, setDst, share, shareAll, firm, firm1, firm2, lenOf, nat_of, elems, bin_lss, bin_gtr, bin_geq, bin_add, bin_mul, bin_sub, bin_neq, bin_eql, bin_gtr8, bin_eql8, bin_eqlb, un_not, ofElem, loadAt, storeAt, setCells, AV.cells, boxNew, isCell, List.all, Bool.and_true, Bool.and_self]
        refine wp_ret ?_
        simp [endF, takeRes, get_cons, del_cons, nextOf]
    · simp [opsF, viF, viGo, opF, opMov, opPick, opAlloc, opBox, opLd, opSt, opBin, opBinb, opUn, opIa, opLen, opMinmax, opExt, opKill, opSlice, opMkfn, rd, rdAll, rdOpt, get_cons, put_cons, del_cons, get_nil, put_nil, del_nil, List.foldl, setDst, share, shareAll, firm, firm1, firm2, lenOf, nat_of, elems, bin_lss, bin_gtr, bin_geq, bin_add, bin_mul, bin_sub, bin_neq, bin_eql, bin_gtr8, bin_eql8, bin_eqlb, un_not, ofElem, loadAt, storeAt, setCells, AV.cells, boxNew, isCell, List.all, Bool.and_true, Bool.and_self, h0, h3]
      refine wp_cond ?_
      simp [opsF, viF, viGo, opF, opMov, opPick, opAlloc, opBox, opLd, opSt, opBin, opBinb, opUn, opIa, opLen, opMinmax, opExt, opKill, opSlice, opMkfn, rd, rdAll, rdOpt, get_cons, put_cons, del_cons, get_nil, put_nil, del_nil, List.foldl, setDst, share, shareAll, firm, firm1, firm2, lenOf, nat_of, elems, bin_lss, bin_gtr, bin_geq, bin_add, bin_mul, bin_sub, bin_neq, bin_eql, bin_gtr8, bin_eql8, bin_eqlb, un_not, ofElem, loadAt, storeAt, setCells, AV.cells, boxNew, isCell, List.all, Bool.and_true, Bool.and_self]
      refine wp_skip (wp_seq (wp_seq (wp_reg ?_)))
      cases now <;> cases next
      · simp [opsF, viF, viGo, opF, opMov, opPick, opAlloc, opBox, opLd, opSt, opBin, opBinb, opUn, opIa, opLen, opMinmax, opExt, opKill, opSlice, opMkfn, rd, rdAll, rdOpt, get_cons, put_cons, del_cons, get_nil, put_nil, del_nil, List.foldl, setDst, share, shareAll, firm, firm1, firm2, lenOf, nat_of, elems, bin_lss, bin_gtr, bin_geq, bin_add, bin_mul, bin_sub, bin_neq, bin_eql, bin_gtr8, bin_eql8, bin_eqlb, un_not, ofElem, loadAt, storeAt, setCells, AV.cells, boxNew, isCell, List.all, Bool.and_true, Bool.and_self]
        refine wp_cond ?_
        simp [opsF, viF, viGo, opF, opMov, opPick, opAlloc, opBox, opLd, opSt, opBin, opBinb, opUn, opIa, opLen, opMinmax, opExt, opKill, opSlice, opMkfn, rd, rdAll, rdOpt, get_cons, put_cons, del_cons, get_nil, put_nil, del_nil, List.foldl, setDst, share, shareAll, firm, firm1, firm2, lenOf, nat_of, elems, bin_lss, bin_gtr, bin_geq, bin_add, bin_mul, bin_sub, bin_neq, bin_eql, bin_gtr8, bin_eql8, bin_eqlb, un_not, ofElem, loadAt, storeAt, setCells, AV.cells, boxNew, isCell, List.all, Bool.and_true, Bool.and_self]
        refine wp_skip (wp_seq (wp_reg ?_))
        simp [opsF, viF, viGo, opF, opMov, opPick, opAlloc, opBox, opLd, opSt, opBin, opBinb, opUn, opIa, opLen, opMinmax, opExt, opKill, opSlice, opMkfn, rd, rdAll, rdOpt, get_cons, put_cons, del_cons, get_nil, put_nil, del_nil, List.foldl, setDst, share, shareAll, firm, firm1, firm2, lenOf, nat_of, elems, bin_lss, bin_gtr, bin_geq, bin_add, bin_mul, bin_sub, bin_neq, bin_eql, bin_gtr8, bin_eql8, bin_eqlb, un_not, ofElem, loadAt, storeAt, setCells, AV.cells, boxNew, isCell, List.all, Bool.and_true, Bool.and_self]
        refine wp_ret ?_
        simp [endF, takeRes, get_cons, del_cons, nextOf, h0, h3]
      all_goals
        simp [opsF, viF, viGo, opF, opMov, opPick, opAlloc, opBox, opLd, opSt, opBin, opBinb, opUn, opIa, opLen, opMinmax, opExt, opKill, opSlice, opMkfn, rd, rdAll, rdOpt, get_cons, put_cons, del_cons, get_nil, put_nil, del_nil, List.foldl, setDst, share, shareAll, firm, firm1, firm2, lenOf, nat_of, elems, bin_lss, bin_gtr, bin_geq, bin_add, bin_mul, bin_sub, bin_neq, bin_eql, bin_gtr8, bin_eql8, bin_eqlb, un_not, ofElem, loadAt, storeAt, setCells, AV.cells, boxNew, isCell, List.all, Bool.and_true, Bool.and_self]
        refine wp_cond ?_
        simp [opsF, viF, viGo, opF, opMov, opPick, opAlloc, opBox, opLd, opSt, opBin, opBinb, opUn, opIa, opLen, opMinmax, opExt, opKill, opSlice, opMkfn, rd, rdAll, rdOpt, get_cons, put_cons, del_cons, get_nil, put_nil, del_nil, List.foldl, setDst, share, shareAll, firm, firm1, firm2, lenOf, nat_of, elems, bin_lss, bin_gtr, bin_geq, bin_add, bin_mul, bin_sub, bin_neq, bin_eql, bin_gtr8, bin_eql8, bin_eqlb, un_not, ofElem, loadAt, storeAt, setCells, AV.cells, boxNew, isCell, List.all, Bool.and_true, Bool.and_self]
        refine wp_seq (wp_reg ?_)
        simp [opsF, viF, viGo, opF, opMov, opPick, opAlloc, opBox, opLd, opSt, opBin, opBinb, opUn, opIa, opLen, opMinmax, opExt, opKill, opSlice, opMkfn, rd, rdAll, rdOpt, get_cons, put_cons, del_cons, get_nil, put_nil, del_nil, List.foldl, setDst, share, shareAll, firm, firm1, firm2, lenOf, nat_of, elems, bin_lss, bin_gtr, bin_geq, bin_add, bin_mul, bin_sub, bin_neq, bin_eql, bin_gtr8, bin_eql8, bin_eqlb, un_not, ofElem, loadAt, storeAt, setCells, AV.cells, boxNew, isCell, List.all, Bool.and_true, Bool.and_self]
        refine wp_ret ?_
        simp [endF, takeRes, get_cons, del_cons, nextOf, h0, h3]
end Go.Vm

/-
  PickSees: the sequence step, both.
-/
namespace Go.Vm
/-- What Seq answers. -/
def seqOf (w : Int) (now next : Bool) : AV := .tup [.int .u8 (if 3 < w then 0 else nextOf w now next), .int .i64 (if 3 < w then 2 else 0)]
theorem call8 (w : Int) (now next : Bool) : EvP prog 8 [.int .u8 w, .bool now, .bool next] (seqOf w now next) := by
  refine evp_wp rfl rfl ?_
  simp only [c8, mkEnv]
  refine wp_seq (wp_reg ?_)
  simp [opsF, viF, viGo, opF, opMov, opPick, opAlloc, opBox, opLd, opSt, opBin, opBinb, opUn, opIa, opLen, opMinmax, opExt, opKill, opSlice, opMkfn, rd, rdAll, rdOpt, get_cons, put_cons, del_cons, get_nil, put_nil, del_nil, List.foldl, setDst, share, shareAll, firm, firm1, firm2, lenOf, nat_of, elems, bin_lss, bin_gtr, bin_geq, bin_add, bin_mul, bin_sub, bin_neq, bin_eql, bin_gtr8, bin_eql8, bin_eqlb, un_not, ofElem, loadAt, storeAt, setCells, AV.cells, boxNew, isCell, List.all, Bool.and_true, Bool.and_self]
  refine wp_seq (wp_seq (wp_reg ?_))
  by_cases h3 : 3 < w
  · simp [opsF, viF, viGo, opF, opMov, opPick, opAlloc, opBox, opLd, opSt, opBin, opBinb, opUn, opIa, opLen, opMinmax, opExt, opKill, opSlice, opMkfn, rd, rdAll, rdOpt, get_cons, put_cons, del_cons, get_nil, put_nil, del_nil, List.foldl, setDst, share, shareAll, firm, firm1, firm2, lenOf, nat_of, elems, bin_lss, bin_gtr, bin_geq, bin_add, bin_mul, bin_sub, bin_neq, bin_eql, bin_gtr8, bin_eql8, bin_eqlb, un_not, ofElem, loadAt, storeAt, setCells, AV.cells, boxNew, isCell, List.all, Bool.and_true, Bool.and_self, h3]
    refine wp_cond ?_
    simp [opsF, viF, viGo, opF, opMov, opPick, opAlloc, opBox, opLd, opSt, opBin, opBinb, opUn, opIa, opLen, opMinmax, opExt, opKill, opSlice, opMkfn, rd, rdAll, rdOpt, get_cons, put_cons, del_cons, get_nil, put_nil, del_nil, List.foldl, setDst, share, shareAll, firm, firm1, firm2, lenOf, nat_of, elems, bin_lss, bin_gtr, bin_geq, bin_add, bin_mul, bin_sub, bin_neq, bin_eql, bin_gtr8, bin_eql8, bin_eqlb, un_not, ofElem, loadAt, storeAt, setCells, AV.cells, boxNew, isCell, List.all, Bool.and_true, Bool.and_self]
    refine wp_seq (wp_reg ?_)
    simp [opsF, viF, viGo, opF, opMov, opPick, opAlloc, opBox, opLd, opSt, opBin, opBinb, opUn, opIa, opLen, opMinmax, opExt, opKill, opSlice, opMkfn, rd, rdAll, rdOpt, get_cons, put_cons, del_cons, get_nil, put_nil, del_nil, List.foldl, setDst, share, shareAll, firm, firm1, firm2, lenOf, nat_of, elems, bin_lss, bin_gtr, bin_geq, bin_add, bin_mul, bin_sub, bin_neq, bin_eql, bin_gtr8, bin_eql8, bin_eqlb, un_not, ofElem, loadAt, storeAt, setCells, AV.cells, boxNew, isCell, List.all, Bool.and_true, Bool.and_self]
    refine wp_seq (wp_reg ?_)
    simp [opsF, viF, viGo, opF, opMov, opPick, opAlloc, opBox, opLd, opSt, opBin, opBinb, opUn, opIa, opLen, opMinmax, opExt, opKill, opSlice, opMkfn, rd, rdAll, rdOpt, get_cons, put_cons, del_cons, get_nil, put_nil, del_nil, List.foldl, setDst, share, shareAll, firm, firm1, firm2, lenOf, nat_of, elems, bin_lss, bin_gtr, bin_geq, bin_add, bin_mul, bin_sub, bin_neq, bin_eql, bin_gtr8, bin_eql8, bin_eqlb, un_not, ofElem, loadAt, storeAt, setCells, AV.cells, boxNew, isCell, List.all, Bool.and_true, Bool.and_self]
    refine wp_ret ?_
    simp [endF, takeRes, get_cons, del_cons, seqOf, h3]
  · simp [opsF, viF, viGo, opF, opMov, opPick, opAlloc, opBox, opLd, opSt, opBin, opBinb, opUn, opIa, opLen, opMinmax, opExt, opKill, opSlice, opMkfn, rd, rdAll, rdOpt, get_cons, put_cons, del_cons, get_nil, put_nil, del_nil, List.foldl, setDst, share, shareAll, firm, firm1, firm2, lenOf, nat_of, elems, bin_lss, bin_gtr, bin_geq, bin_add, bin_mul, bin_sub, bin_neq, bin_eql, bin_gtr8, bin_eql8, bin_eqlb, un_not, ofElem, loadAt, storeAt, setCells, AV.cells, boxNew, isCell, List.all, Bool.and_true, Bool.and_self, h3]
    refine wp_cond ?_
    simp [opsF, viF, viGo, opF, opMov, opPick, opAlloc, opBox, opLd, opSt, opBin, opBinb, opUn, opIa, opLen, opMinmax, opExt, opKill, opSlice, opMkfn, rd, rdAll, rdOpt, get_cons, put_cons, del_cons, get_nil, put_nil, del_nil, List.foldl, setDst, share, shareAll, firm, firm1, firm2, lenOf, nat_of, elems, bin_lss, bin_gtr, bin_geq, bin_add, bin_mul, bin_sub, bin_neq, bin_eql, bin_gtr8, bin_eql8, bin_eqlb, un_not, ofElem, loadAt, storeAt, setCells, AV.cells, boxNew, isCell, List.all, Bool.and_true, Bool.and_self]
    refine wp_skip (wp_seq (wp_regO (wo_pre 3 ?_)))
    simp [opsF, viF, viGo, opF, opMov, opPick, opAlloc, opBox, opLd, opSt, opBin, opBinb, opUn, opIa, opLen, opMinmax, opExt, opKill, opSlice, opMkfn, rd, rdAll, rdOpt, get_cons, put_cons, del_cons, get_nil, put_nil, del_nil, List.foldl, setDst, share, shareAll, firm, firm1, firm2, lenOf, nat_of, elems, bin_lss, bin_gtr, bin_geq, bin_add, bin_mul, bin_sub, bin_neq, bin_eql, bin_gtr8, bin_eql8, bin_eqlb, un_not, ofElem, loadAt, storeAt, setCells, AV.cells, boxNew, isCell, List.all, Bool.and_true, Bool.and_self]
    refine wo_call (v := .int .u8 (nextOf w now next)) (fun _ => rfl) ⟨_, _, _, rfl, rfl, rfl, call19 w now next, wo_pure ?_⟩
    simp [opsF, viF, viGo, opF, opMov, opPick, opAlloc, opBox, opLd, opSt, opBin, opBinb, opUn, opIa, opLen, opMinmax, opExt, opKill, opSlice, opMkfn, rd, rdAll, rdOpt, get_cons, put_cons, del_cons, get_nil, put_nil, del_nil, List.foldl, setDst, share, shareAll, firm, firm1, firm2, lenOf, nat_of, elems, bin_lss, bin_gtr, bin_geq, bin_add, bin_mul, bin_sub, bin_neq, bin_eql, bin_gtr8, bin_eql8, bin_eqlb, un_not, ofElem, loadAt, storeAt, setCells, AV.cells, boxNew, isCell, List.all, Bool.and_true, Bool.and_self]
    refine wp_ret ?_
    simp [endF, takeRes, get_cons, del_cons, seqOf, h3]
theorem call7 (w : Int) (h0 : 0 ≤ w) (now next : Bool) : EvP prog 7 [.int .u8 w, .bool now, .bool next] (seqOf w now next) := by
  refine evp_wp rfl rfl ?_
  simp only [c7, mkEnv]
  refine wp_seq (wp_reg ?_)
  simp [opsF, viF, viGo, opF, opMov, opPick, opAlloc, opBox, opLd, opSt, opBin, opBinb, opUn, opIa, opLen, opMinmax, opExt, opKill, opSlice, opMkfn, rd, rdAll, rdOpt, get_cons, put_cons, del_cons, get_nil, put_nil, del_nil, List.foldl, setDst, share, shareAll, firm, firm1, firm2, lenOf, nat_of, elems, bin_lss, bin_gtr, bin_geq, bin_add, bin_mul, bin_sub, bin_neq, bin_eql, bin_gtr8, bin_eql8, bin_eqlb, un_not, ofElem, loadAt, storeAt, setCells, AV.cells, boxNew, isCell, List.all, Bool.and_true, Bool.and_self]
  refine wp_seq (wp_block (wp_seq (wp_reg ?_)))
  by_cases h3 : 3 < w
  · simp [opsF, viF, viGo, opF, opMov, opPick, opAlloc, opBox, opLd, opSt, opBin, opBinb, opUn, opIa, opLen, opMinmax, opExt, opKill, opSlice, opMkfn, rd, rdAll, rdOpt, get_cons, put_cons, del_cons, get_nil, put_nil, del_nil, List.foldl, setDst, share, shareAll, firm, firm1, firm2, lenOf, nat_of, elems, bin_lss, bin_gtr, bin_geq, bin_add, bin_mul, bin_sub, bin_neq, bin_eql, bin_gtr8, bin_eql8, bin_eqlb, un_not, ofElem, loadAt, storeAt, setCells, AV.cells, boxNew, isCell, List.all, Bool.and_true, Bool.and_self, h3]
    refine wp_cond ?_
    simp [opsF, viF, viGo, opF, opMov, opPick, opAlloc, opBox, opLd, opSt, opBin, opBinb, opUn, opIa, opLen, opMinmax, opExt, opKill, opSlice, opMkfn, rd, rdAll, rdOpt, get_cons, put_cons, del_cons, get_nil, put_nil, del_nil, List.foldl, setDst, share, shareAll, firm, firm1, firm2, lenOf, nat_of, elems, bin_lss, bin_gtr, bin_geq, bin_add, bin_mul, bin_sub, bin_neq, bin_eql, bin_gtr8, bin_eql8, bin_eqlb, un_not, ofElem, loadAt, storeAt, setCells, AV.cells, boxNew, isCell, List.all, Bool.and_true, Bool.and_self]
    refine wp_seq (wp_reg ?_)
    simp [opsF, viF, viGo, opF, opMov, opPick, opAlloc, opBox, opLd, opSt, opBin, opBinb, opUn, opIa, opLen, opMinmax, opExt, opKill, opSlice, opMkfn, rd, rdAll, rdOpt, get_cons, put_cons, del_cons, get_nil, put_nil, del_nil, List.foldl, setDst, share, shareAll, firm, firm1, firm2, lenOf, nat_of, elems, bin_lss, bin_gtr, bin_geq, bin_add, bin_mul, bin_sub, bin_neq, bin_eql, bin_gtr8, bin_eql8, bin_eqlb, un_not, ofElem, loadAt, storeAt, setCells, AV.cells, boxNew, isCell, List.all, Bool.and_true, Bool.and_self]
    refine wp_seq (wp_reg ?_)
    simp [opsF, viF, viGo, opF, opMov, opPick, opAlloc, opBox, opLd, opSt, opBin, opBinb, opUn, opIa, opLen, opMinmax, opExt, opKill, opSlice, opMkfn, rd, rdAll, rdOpt, get_cons, put_cons, del_cons, get_nil, put_nil, del_nil, List.foldl, setDst, share, shareAll, firm, firm1, firm2, lenOf, nat_of, elems, bin_lss, bin_gtr, bin_geq, bin_add, bin_mul, bin_sub, bin_neq, bin_eql, bin_gtr8, bin_eql8, bin_eqlb, un_not, ofElem, loadAt, storeAt, setCells, AV.cells, boxNew, isCell, List.all, Bool.and_true, Bool.and_self]
    refine wp_ret ?_
    simp [endF, takeRes, get_cons, del_cons, seqOf, h3]
  · have hw : w = 0 ∨ w = 1 ∨ w = 2 ∨ w = 3 := by omega
    clear h3 h0
    rcases hw with rfl | rfl | rfl | rfl <;> cases now <;> cases next
    all_goals
      simp [opsF, viF, viGo, opF, opMov, opPick, opAlloc, opBox, opLd, opSt, opBin, opBinb, opUn, opIa, opLen, opMinmax, opExt, opKill, opSlice, opMkfn, rd, rdAll, rdOpt, get_cons, put_cons, del_cons, get_nil, put_nil, del_nil, List.foldl, setDst, share, shareAll, firm, firm1, firm2, lenOf, nat_of, elems, bin_lss, bin_gtr, bin_geq, bin_add, bin_mul, bin_sub, bin_neq, bin_eql, bin_gtr8, bin_eql8, bin_eqlb, un_not, ofElem, loadAt, storeAt, setCells, AV.cells, boxNew, isCell, List.all, Bool.and_true, Bool.and_self]
      refine wp_cond ?_
      simp [opsF, viF, viGo, opF, opMov, opPick, opAlloc, opBox, opLd, opSt, opBin, opBinb, opUn, opIa, opLen, opMinmax, opExt, opKill, opSlice, opMkfn, rd, rdAll, rdOpt, get_cons, put_cons, del_cons, get_nil, put_nil, del_nil, List.foldl, setDst, share, shareAll, firm, firm1, firm2, lenOf, nat_of, elems, bin_lss, bin_gtr, bin_geq, bin_add, bin_mul, bin_sub, bin_neq, bin_eql, bin_gtr8, bin_eql8, bin_eqlb, un_not, ofElem, loadAt, storeAt, setCells, AV.cells, boxNew, isCell, List.all, Bool.and_true, Bool.and_self]
      refine wp_seq (wp_reg ?_)
      simp [opsF, viF, viGo, opF, opMov, opPick, opAlloc, opBox, opLd, opSt, opBin, opBinb, opUn, opIa, opLen, opMinmax, opExt, opKill, opSlice, opMkfn, rd, rdAll, rdOpt, get_cons, put_cons, del_cons, get_nil, put_nil, del_nil, List.foldl, setDst, share, shareAll, firm, firm1, firm2, lenOf, nat_of, elems, bin_lss, bin_gtr, bin_geq, bin_add, bin_mul, bin_sub, bin_neq, bin_eql, bin_gtr8, bin_eql8, bin_eqlb, un_not, ofElem, loadAt, storeAt, setCells, AV.cells, boxNew, isCell, List.all, Bool.and_true, Bool.and_self]
      refine wp_cond ?_
      simp [opsF, viF, viGo, opF, opMov, opPick, opAlloc, opBox, opLd, opSt, opBin, opBinb, opUn, opIa, opLen, opMinmax, opExt, opKill, opSlice, opMkfn, rd, rdAll, rdOpt, get_cons, put_cons, del_cons, get_nil, put_nil, del_nil, List.foldl, setDst, share, shareAll, firm, firm1, firm2, lenOf, nat_of, elems, bin_lss, bin_gtr, bin_geq, bin_add, bin_mul, bin_sub, bin_neq, bin_eql, bin_gtr8, bin_eql8, bin_eqlb, un_not, ofElem, loadAt, storeAt, setCells, AV.cells, boxNew, isCell, List.all, Bool.and_true, Bool.and_self]
      repeat (first | refine wp_seq ?_ | refine wp_ret ?_ | refine wp_skip ?_ | (refine wp_cond ?_; simp [opsF, viF, viGo, opF, opMov, opPick, opAlloc, opBox, opLd, opSt, opBin, opBinb, opUn, opIa, opLen, opMinmax, opExt, opKill, opSlice, opMkfn, rd, rdAll, rdOpt, get_cons, put_cons, del_cons, get_nil, put_nil, del_nil, List.foldl, setDst, share, shareAll, firm, firm1, firm2, lenOf, nat_of, elems, bin_lss, bin_gtr, bin_geq, bin_add, bin_mul, bin_sub, bin_neq, bin_eql, bin_gtr8, bin_eql8, bin_eqlb, un_not, ofElem, loadAt, storeAt, setCells, AV.cells, boxNew, isCell, List.all, Bool.and_true, Bool.and_self]) | (refine wp_reg ?_; simp [opsF, viF, viGo, opF, opMov, opPick, opAlloc, opBox, opLd, opSt, opBin, opBinb, opUn, opIa, opLen, opMinmax, opExt, opKill, opSlice, opMkfn, rd, rdAll, rdOpt, get_cons, put_cons, del_cons, get_nil, put_nil, del_nil, List.foldl, setDst, share, shareAll, firm, firm1, firm2, lenOf, nat_of, elems, bin_lss, bin_gtr, bin_geq, bin_add, bin_mul, bin_sub, bin_neq, bin_eql, bin_gtr8, bin_eql8, bin_eqlb, un_not, ofElem, loadAt, storeAt, setCells, AV.cells, boxNew, isCell, List.all, Bool.and_true, Bool.and_self]))
      simp [endF, takeRes, get_cons, del_cons, seqOf, nextOf]
end Go.Vm

/-
  PickSees: the reference's loudness.
-/
namespace Go.Vm
abbrev c18_L0 : VC := (.seq (.seq (.reg false [
  ⟨some 7, none, .mov (.s 4), []⟩,
  ⟨some 8, none, .bin .lss (.m 7) (.c (.d (.int .i64 8))), []⟩])
 (.cond (.m 8)
 .skip
 (.seq (K [0, 3, 4]) (.exit 0))))
 (.seq (.block 1
 (.seq (.reg false [
  ⟨some 5, none, .mov (.c (.d (.int .i64 0))), []⟩])
 (.seq (.seq (.reg false [
  ⟨some 11, none, .mov (.s 4), []⟩,
  ⟨some 12, none, .bin .mul (.c (.d (.int .i64 32))) (.m 11), []⟩,
  ⟨some 6, none, .mov (.m 12), []⟩])
 (.block 2
 (.loop
 (.seq (.seq (.reg false [
  ⟨some 13, none, .mov (.s 6), []⟩,
  ⟨some 14, none, .mov (.s 4), []⟩,
  ⟨some 15, none, .bin .mul (.c (.d (.int .i64 32))) (.m 14), []⟩,
  ⟨some 16, none, .bin .add (.m 15) (.c (.d (.int .i64 32))), []⟩,
  ⟨some 17, none, .bin .lss (.m 13) (.m 16), []⟩])
 (.cond (.m 17)
 .skip
 (.seq (K [6]) (.exit 2))))
 (.seq (.block 3
 (.reg true [
  ⟨some 20, none, .mov (.m 5), []⟩,
  ⟨some 21, none, .mov (.s 0), []⟩,
  ⟨some 22, none, .mov (.s 6), []⟩,
  ⟨some 23, none, .ia 1 (.m 21) (.m 22), []⟩,
  ⟨some 24, none, .ld none 0 (.m 23), []⟩,
  ⟨some 25, none, .mov (.s 0), []⟩,
  ⟨some 26, none, .mov (.s 6), []⟩,
  ⟨some 27, none, .ia 1 (.m 25) (.m 26), []⟩,
  ⟨some 28, none, .ld none 0 (.m 27), []⟩,
  ⟨some 29, none, .bin .mul (.m 24) (.m 28), []⟩,
  ⟨some 30, none, .bin .add (.m 20) (.m 29), []⟩,
  ⟨some 5, none, .mov (.m 30), []⟩]))
 (.reg false [
  ⟨some 18, none, .mov (.m 6), []⟩,
  ⟨some 19, none, .bin .add (.m 18) (.c (.d (.int .i64 1))), []⟩,
  ⟨some 6, none, .mov (.m 19), []⟩,
  ⟨none, none, .kill [20, 21, 22, 23, 24, 25, 26, 27, 28, 29, 30], []⟩]))))))
 (.seq (.seq (.reg false [
  ⟨some 31, none, .mov (.s 4), []⟩,
  ⟨some 32, none, .bin .gtr (.m 31) (.c (.d (.int .i64 0))), []⟩,
  ⟨some 33, none, .mov (.m 32), []⟩,
  ⟨some 34, (some (33, true)), .mov (.s 4), []⟩,
  ⟨some 35, (some (33, true)), .mov (.s 5), []⟩,
  ⟨some 36, (some (33, true)), .bin .mul (.s 34) (.s 35), []⟩,
  ⟨some 37, (some (33, true)), .mov (.s 3), []⟩,
  ⟨some 38, (some (33, true)), .bin .mul (.c (.d (.int .i64 8))) (.s 37), []⟩,
  ⟨some 39, (some (33, true)), .mov (.s 4), []⟩,
  ⟨some 40, (some (33, true)), .bin .mul (.s 39) (.c (.d (.int .i64 1048576))), []⟩,
  ⟨some 41, (some (33, true)), .bin .add (.s 38) (.s 40), []⟩,
  ⟨some 42, (some (33, true)), .bin .gtr (.s 36) (.s 41), []⟩,
  ⟨some 43, none, .pick (.m 33) (.m 42) (.c (.d (.bool false))), []⟩,
  ⟨none, none, .kill [6, 13, 14, 15, 16, 17, 18, 19, 20, 21, 22, 23, 24, 25, 26, 27, 28, 29, 30, 34, 35, 36, 37, 38, 39, 40, 41], []⟩])
 (.cond (.m 43)
 (.seq (K [0, 3, 4, 5]) (.seq (.reg false [
  ⟨some 2, none, .mov (.c (.d (.bool true))), []⟩])
 .ret))
 .skip))
 (.reg false [
  ⟨some 44, none, .mov (.m 3), []⟩,
  ⟨some 45, none, .mov (.m 5), []⟩,
  ⟨some 46, none, .bin .add (.m 44) (.m 45), []⟩,
  ⟨some 3, none, .mov (.m 46), []⟩])))))
 (.reg false [
  ⟨some 9, none, .mov (.m 4), []⟩,
  ⟨some 10, none, .bin .add (.m 9) (.c (.d (.int .i64 1))), []⟩,
  ⟨some 4, none, .mov (.m 10), []⟩,
  ⟨none, none, .kill [2, 5, 6, 11, 12, 13, 14, 15, 16, 17, 18, 19, 20, 21, 22, 23, 24, 25, 26, 27, 28, 29, 30, 31, 32, 33, 34, 35, 36, 37, 38, 39, 40, 41, 42, 43, 44, 45, 46], []⟩])))
abbrev c18_L1 : VC := (.seq (.seq (.reg false [
  ⟨some 13, none, .mov (.s 6), []⟩,
  ⟨some 14, none, .mov (.s 4), []⟩,
  ⟨some 15, none, .bin .mul (.c (.d (.int .i64 32))) (.m 14), []⟩,
  ⟨some 16, none, .bin .add (.m 15) (.c (.d (.int .i64 32))), []⟩,
  ⟨some 17, none, .bin .lss (.m 13) (.m 16), []⟩])
 (.cond (.m 17)
 .skip
 (.seq (K [6]) (.exit 2))))
 (.seq (.block 3
 (.reg true [
  ⟨some 20, none, .mov (.m 5), []⟩,
  ⟨some 21, none, .mov (.s 0), []⟩,
  ⟨some 22, none, .mov (.s 6), []⟩,
  ⟨some 23, none, .ia 1 (.m 21) (.m 22), []⟩,
  ⟨some 24, none, .ld none 0 (.m 23), []⟩,
  ⟨some 25, none, .mov (.s 0), []⟩,
  ⟨some 26, none, .mov (.s 6), []⟩,
  ⟨some 27, none, .ia 1 (.m 25) (.m 26), []⟩,
  ⟨some 28, none, .ld none 0 (.m 27), []⟩,
  ⟨some 29, none, .bin .mul (.m 24) (.m 28), []⟩,
  ⟨some 30, none, .bin .add (.m 20) (.m 29), []⟩,
  ⟨some 5, none, .mov (.m 30), []⟩]))
 (.reg false [
  ⟨some 18, none, .mov (.m 6), []⟩,
  ⟨some 19, none, .bin .add (.m 18) (.c (.d (.int .i64 1))), []⟩,
  ⟨some 6, none, .mov (.m 19), []⟩,
  ⟨none, none, .kill [20, 21, 22, 23, 24, 25, 26, 27, 28, 29, 30], []⟩])))
def sqs : List Int → Int
  | [] => 0
  | x :: r => x * x + sqs r
def Small (xs : List Int) : Prop := ∀ x ∈ xs, -32768 ≤ x ∧ x ≤ 32767
theorem sq_small {x : Int} (h : -32768 ≤ x ∧ x ≤ 32767) : 0 ≤ x * x ∧ x * x ≤ 1073741824 := by
  have h1 : 0 ≤ (32768 - x) * (32768 + x) := Int.mul_nonneg (by omega) (by omega)
  have h2 : (32768 - x) * (32768 + x) = 1073741824 - x * x := by
    rw [Int.sub_mul, Int.mul_add, Int.mul_add, Int.mul_comm x 32768]
    omega
  have h3 : 0 ≤ x * x := by
    rcases Int.le_total 0 x with h | h
    · exact Int.mul_nonneg h h
    · exact Int.mul_nonneg_of_nonpos_of_nonpos h h
  omega
theorem sqs_small : ∀ {xs : List Int}, Small xs → 0 ≤ sqs xs ∧ sqs xs ≤ (xs.length : Int) * 1073741824
  | [], _ => by simp [sqs]
  | x :: r, h => by
    have h1 := sq_small (h x (.head _))
    have h2 := sqs_small (xs := r) fun y hy => h y (.tail _ hy)
    simp only [sqs, List.length_cons]
    omega
theorem Small.drop {xs : List Int} (h : Small xs) (i : Nat) : Small (xs.drop i) := fun x hx => h x (List.mem_of_mem_drop hx)
theorem Small.take {xs : List Int} (h : Small xs) (i : Nat) : Small (xs.take i) := fun x hx => h x (List.mem_of_mem_take hx)
def chunk (xs : List Int) (n : Nat) : List Int := (xs.drop (32 * n)).take 32
def loud (xs : List Int) : Nat → Nat → Int → Bool
  | 0, _, _ => false
  | k + 1, n, s => (decide (0 < n) && decide (8 * s + (n : Int) * 1048576 < (n : Int) * sqs (chunk xs n))) || loud xs k (n + 1) (s + sqs (chunk xs n))
theorem chunk_small {xs : List Int} (h : Small xs) (n : Nat) : 0 ≤ sqs (chunk xs n) ∧ sqs (chunk xs n) ≤ 34359738368 := by
  have := sqs_small ((h.drop (32 * n)).take 32)
  have hl : ((xs.drop (32 * n)).take 32).length ≤ 32 := by simp; omega
  unfold chunk
  omega
theorem mul_small {n : Nat} {c : Int} (hn : n ≤ 8) (h : 0 ≤ c ∧ c ≤ 34359738368) : 0 ≤ (n : Int) * c ∧ (n : Int) * c ≤ 274877906944 := by
  have h1 : 0 ≤ (n : Int) * c := Int.mul_nonneg (by omega) h.1
  have h2 : (n : Int) * c ≤ 8 * c := Int.mul_le_mul_of_nonneg_right (by omega) h.1
  omega
theorem loud_in (xs : List Int) (hx : xs.length = 256) (hs : Small xs) (s : Int) (n : Nat) (hn : n < 8) (Q : Out → St → Prop) : ∀ (k i : Nat) (a : Int), i + k = 32 * n + 32 → 0 ≤ a → a + (k : Int) * 1073741824 ≤ 1000000000000 →
    Q (.exit 2) ⟨[(0, .d (.lst (nums xs))), (3, .int .i64 s), (4, .int .i64 (n : Int)), (5, .int .i64 (a + sqs ((xs.drop i).take k)))], ⟨[], 0⟩⟩ →
    WP prog (.loop c18_L1) ⟨[(0, .d (.lst (nums xs))), (3, .int .i64 s), (4, .int .i64 (n : Int)), (5, .int .i64 a), (6, .int .i64 (i : Int))], ⟨[], 0⟩⟩ Q := by
  intro k
  induction k with
  | zero =>
    intro i a h h0 h1 hq
    refine wp_loop (wp_seq (wp_seq (wp_reg ?_)))
    simp [opsF, viF, viGo, opF, opMov, opPick, opAlloc, opBox, opLd, opSt, opBin, opBinb, opUn, opIa, opLen, opMinmax, opExt, opKill, opSlice, opMkfn, rd, rdAll, rdOpt, get_cons, put_cons, del_cons, get_nil, put_nil, del_nil, List.foldl, setDst, share, shareAll, firm, firm1, firm2, lenOf, nat_of, elems, bin_lss, bin_gtr, bin_geq, bin_add, bin_mul, bin_sub, bin_neq, bin_eql, bin_gtr8, bin_eql8, bin_eqlb, un_not, ofElem, loadAt, storeAt, setCells, AV.cells, boxNew, isCell, List.all, Bool.and_true, Bool.and_self]
    rw [wr_i64 (n := 32 * (n : Int)) (by omega) (by omega), wr_i64 (by omega) (by omega)]
    refine wp_cond ?_
    have hlt : ¬ (i : Int) < 32 * (n : Int) + 32 := by omega
    simp [opsF, viF, viGo, opF, opMov, opPick, opAlloc, opBox, opLd, opSt, opBin, opBinb, opUn, opIa, opLen, opMinmax, opExt, opKill, opSlice, opMkfn, rd, rdAll, rdOpt, get_cons, put_cons, del_cons, get_nil, put_nil, del_nil, List.foldl, setDst, share, shareAll, firm, firm1, firm2, lenOf, nat_of, elems, bin_lss, bin_gtr, bin_geq, bin_add, bin_mul, bin_sub, bin_neq, bin_eql, bin_gtr8, bin_eql8, bin_eqlb, un_not, ofElem, loadAt, storeAt, setCells, AV.cells, boxNew, isCell, List.all, Bool.and_true, Bool.and_self, hlt]
    refine wp_seq (wp_reg ?_)
    simp [opsF, viF, viGo, opF, opMov, opPick, opAlloc, opBox, opLd, opSt, opBin, opBinb, opUn, opIa, opLen, opMinmax, opExt, opKill, opSlice, opMkfn, rd, rdAll, rdOpt, get_cons, put_cons, del_cons, get_nil, put_nil, del_nil, List.foldl, setDst, share, shareAll, firm, firm1, firm2, lenOf, nat_of, elems, bin_lss, bin_gtr, bin_geq, bin_add, bin_mul, bin_sub, bin_neq, bin_eql, bin_gtr8, bin_eql8, bin_eqlb, un_not, ofElem, loadAt, storeAt, setCells, AV.cells, boxNew, isCell, List.all, Bool.and_true, Bool.and_self]
    refine wp_exit ?_
    simpa [sqs] using hq
  | succ k ih =>
    intro i a h h0 h1 hq
    refine wp_loop (wp_seq (wp_seq (wp_reg ?_)))
    simp [opsF, viF, viGo, opF, opMov, opPick, opAlloc, opBox, opLd, opSt, opBin, opBinb, opUn, opIa, opLen, opMinmax, opExt, opKill, opSlice, opMkfn, rd, rdAll, rdOpt, get_cons, put_cons, del_cons, get_nil, put_nil, del_nil, List.foldl, setDst, share, shareAll, firm, firm1, firm2, lenOf, nat_of, elems, bin_lss, bin_gtr, bin_geq, bin_add, bin_mul, bin_sub, bin_neq, bin_eql, bin_gtr8, bin_eql8, bin_eqlb, un_not, ofElem, loadAt, storeAt, setCells, AV.cells, boxNew, isCell, List.all, Bool.and_true, Bool.and_self]
    rw [wr_i64 (n := 32 * (n : Int)) (by omega) (by omega), wr_i64 (by omega) (by omega)]
    refine wp_cond ?_
    have hlt : (i : Int) < 32 * (n : Int) + 32 := by omega
    have hl : i < xs.length := by omega
    have hsq := sq_small (hs xs[i] (List.getElem_mem hl))
    simp [opsF, viF, viGo, opF, opMov, opPick, opAlloc, opBox, opLd, opSt, opBin, opBinb, opUn, opIa, opLen, opMinmax, opExt, opKill, opSlice, opMkfn, rd, rdAll, rdOpt, get_cons, put_cons, del_cons, get_nil, put_nil, del_nil, List.foldl, setDst, share, shareAll, firm, firm1, firm2, lenOf, nat_of, elems, bin_lss, bin_gtr, bin_geq, bin_add, bin_mul, bin_sub, bin_neq, bin_eql, bin_gtr8, bin_eql8, bin_eqlb, un_not, ofElem, loadAt, storeAt, setCells, AV.cells, boxNew, isCell, List.all, Bool.and_true, Bool.and_self, hlt]
    refine wp_skip (wp_seq (wp_block (wp_reg ?_)))
    simp [opsF, viF, viGo, opF, opMov, opPick, opAlloc, opBox, opLd, opSt, opBin, opBinb, opUn, opIa, opLen, opMinmax, opExt, opKill, opSlice, opMkfn, rd, rdAll, rdOpt, get_cons, put_cons, del_cons, get_nil, put_nil, del_nil, List.foldl, setDst, share, shareAll, firm, firm1, firm2, lenOf, nat_of, elems, bin_lss, bin_gtr, bin_geq, bin_add, bin_mul, bin_sub, bin_neq, bin_eql, bin_gtr8, bin_eql8, bin_eqlb, un_not, ofElem, loadAt, storeAt, setCells, AV.cells, boxNew, isCell, List.all, Bool.and_true, Bool.and_self, nums_len, nums_at, hl]
    rw [wr_i64 (n := xs[i] * xs[i]) (by omega) (by omega), wr_i64 (by omega) (by omega)]
    refine wp_reg ?_
    simp [opsF, viF, viGo, opF, opMov, opPick, opAlloc, opBox, opLd, opSt, opBin, opBinb, opUn, opIa, opLen, opMinmax, opExt, opKill, opSlice, opMkfn, rd, rdAll, rdOpt, get_cons, put_cons, del_cons, get_nil, put_nil, del_nil, List.foldl, setDst, share, shareAll, firm, firm1, firm2, lenOf, nat_of, elems, bin_lss, bin_gtr, bin_geq, bin_add, bin_mul, bin_sub, bin_neq, bin_eql, bin_gtr8, bin_eql8, bin_eqlb, un_not, ofElem, loadAt, storeAt, setCells, AV.cells, boxNew, isCell, List.all, Bool.and_true, Bool.and_self]
    rw [wr_i64 (by omega) (by omega)]
    refine ih (i + 1) _ (by omega) (by omega) (by omega) ?_
    rw [List.drop_eq_getElem_cons hl, List.take_succ_cons, sqs, ← Int.add_assoc] at hq
    exact hq
theorem loud_out (xs : List Int) (hx : xs.length = 256) (hs : Small xs) (Q : Out → St → Prop) : ∀ (k n : Nat) (s : Int), n + k = 8 → 0 ≤ s → s ≤ (n : Int) * 34359738368 → (loud xs k n s = false → Q (.exit 0) ⟨[], ⟨[], 0⟩⟩) → (loud xs k n s = true → ∀ e, Q .ret ⟨(2, .bool true) :: e, ⟨[], 0⟩⟩) →
    WP prog (.loop c18_L0) ⟨[(0, .d (.lst (nums xs))), (3, .int .i64 s), (4, .int .i64 (n : Int))], ⟨[], 0⟩⟩ Q := by
  intro k
  induction k with
  | zero =>
    intro n s h h0 h1 hq hr
    refine wp_loop (wp_seq (wp_seq (wp_reg ?_)))
    simp [opsF, viF, viGo, opF, opMov, opPick, opAlloc, opBox, opLd, opSt, opBin, opBinb, opUn, opIa, opLen, opMinmax, opExt, opKill, opSlice, opMkfn, rd, rdAll, rdOpt, get_cons, put_cons, del_cons, get_nil, put_nil, del_nil, List.foldl, setDst, share, shareAll, firm, firm1, firm2, lenOf, nat_of, elems, bin_lss, bin_gtr, bin_geq, bin_add, bin_mul, bin_sub, bin_neq, bin_eql, bin_gtr8, bin_eql8, bin_eqlb, un_not, ofElem, loadAt, storeAt, setCells, AV.cells, boxNew, isCell, List.all, Bool.and_true, Bool.and_self]
    refine wp_cond ?_
    have hlt : ¬ (n : Int) < 8 := by omega
    simp [opsF, viF, viGo, opF, opMov, opPick, opAlloc, opBox, opLd, opSt, opBin, opBinb, opUn, opIa, opLen, opMinmax, opExt, opKill, opSlice, opMkfn, rd, rdAll, rdOpt, get_cons, put_cons, del_cons, get_nil, put_nil, del_nil, List.foldl, setDst, share, shareAll, firm, firm1, firm2, lenOf, nat_of, elems, bin_lss, bin_gtr, bin_geq, bin_add, bin_mul, bin_sub, bin_neq, bin_eql, bin_gtr8, bin_eql8, bin_eqlb, un_not, ofElem, loadAt, storeAt, setCells, AV.cells, boxNew, isCell, List.all, Bool.and_true, Bool.and_self, hlt]
    refine wp_seq (wp_reg ?_)
    simp [opsF, viF, viGo, opF, opMov, opPick, opAlloc, opBox, opLd, opSt, opBin, opBinb, opUn, opIa, opLen, opMinmax, opExt, opKill, opSlice, opMkfn, rd, rdAll, rdOpt, get_cons, put_cons, del_cons, get_nil, put_nil, del_nil, List.foldl, setDst, share, shareAll, firm, firm1, firm2, lenOf, nat_of, elems, bin_lss, bin_gtr, bin_geq, bin_add, bin_mul, bin_sub, bin_neq, bin_eql, bin_gtr8, bin_eql8, bin_eqlb, un_not, ofElem, loadAt, storeAt, setCells, AV.cells, boxNew, isCell, List.all, Bool.and_true, Bool.and_self]
    exact wp_exit (hq rfl)
  | succ k ih =>
    intro n s h h0 h1 hq hr
    refine wp_loop (wp_seq (wp_seq (wp_reg ?_)))
    simp [opsF, viF, viGo, opF, opMov, opPick, opAlloc, opBox, opLd, opSt, opBin, opBinb, opUn, opIa, opLen, opMinmax, opExt, opKill, opSlice, opMkfn, rd, rdAll, rdOpt, get_cons, put_cons, del_cons, get_nil, put_nil, del_nil, List.foldl, setDst, share, shareAll, firm, firm1, firm2, lenOf, nat_of, elems, bin_lss, bin_gtr, bin_geq, bin_add, bin_mul, bin_sub, bin_neq, bin_eql, bin_gtr8, bin_eql8, bin_eqlb, un_not, ofElem, loadAt, storeAt, setCells, AV.cells, boxNew, isCell, List.all, Bool.and_true, Bool.and_self]
    refine wp_cond ?_
    have hlt : (n : Int) < 8 := by omega
    simp [opsF, viF, viGo, opF, opMov, opPick, opAlloc, opBox, opLd, opSt, opBin, opBinb, opUn, opIa, opLen, opMinmax, opExt, opKill, opSlice, opMkfn, rd, rdAll, rdOpt, get_cons, put_cons, del_cons, get_nil, put_nil, del_nil, List.foldl, setDst, share, shareAll, firm, firm1, firm2, lenOf, nat_of, elems, bin_lss, bin_gtr, bin_geq, bin_add, bin_mul, bin_sub, bin_neq, bin_eql, bin_gtr8, bin_eql8, bin_eqlb, un_not, ofElem, loadAt, storeAt, setCells, AV.cells, boxNew, isCell, List.all, Bool.and_true, Bool.and_self, hlt]
    refine wp_skip (wp_seq (wp_block (wp_seq (wp_reg ?_))))
    simp [opsF, viF, viGo, opF, opMov, opPick, opAlloc, opBox, opLd, opSt, opBin, opBinb, opUn, opIa, opLen, opMinmax, opExt, opKill, opSlice, opMkfn, rd, rdAll, rdOpt, get_cons, put_cons, del_cons, get_nil, put_nil, del_nil, List.foldl, setDst, share, shareAll, firm, firm1, firm2, lenOf, nat_of, elems, bin_lss, bin_gtr, bin_geq, bin_add, bin_mul, bin_sub, bin_neq, bin_eql, bin_gtr8, bin_eql8, bin_eqlb, un_not, ofElem, loadAt, storeAt, setCells, AV.cells, boxNew, isCell, List.all, Bool.and_true, Bool.and_self]
    refine wp_seq (wp_seq (wp_reg ?_))
    simp [opsF, viF, viGo, opF, opMov, opPick, opAlloc, opBox, opLd, opSt, opBin, opBinb, opUn, opIa, opLen, opMinmax, opExt, opKill, opSlice, opMkfn, rd, rdAll, rdOpt, get_cons, put_cons, del_cons, get_nil, put_nil, del_nil, List.foldl, setDst, share, shareAll, firm, firm1, firm2, lenOf, nat_of, elems, bin_lss, bin_gtr, bin_geq, bin_add, bin_mul, bin_sub, bin_neq, bin_eql, bin_gtr8, bin_eql8, bin_eqlb, un_not, ofElem, loadAt, storeAt, setCells, AV.cells, boxNew, isCell, List.all, Bool.and_true, Bool.and_self]
    rw [wr_i64 (n := 32 * (n : Int)) (by omega) (by omega)]
    refine wp_block ?_
    refine loud_in xs hx hs s n (by omega) _ 32 (32 * n) 0 (by omega) (by omega) (by omega) ?_
    have hc := chunk_small hs n
    have hm := mul_small (n := n) (by omega) hc
    change WP _ _ _ _
    have hz : (0 : Int) + sqs ((xs.drop (32 * n)).take 32) = sqs (chunk xs n) := by rw [Int.zero_add]; rfl
    rw [hz]
    generalize hcd : sqs (chunk xs n) = c at hc hm
    simp only [loud, hcd] at hq hr
    have w1 : wr .i64 (8 * s) = 8 * s := wr_i64 (by omega) (by omega)
    have w2 : wr .i64 ((n : Int) * 1048576) = (n : Int) * 1048576 := wr_i64 (by omega) (by omega)
    have w3 : wr .i64 (8 * s + (n : Int) * 1048576) = 8 * s + (n : Int) * 1048576 := wr_i64 (by omega) (by omega)
    have w4 : wr .i64 ((n : Int) * c) = (n : Int) * c := wr_i64 (by omega) (by omega)
    have w5 : wr .i64 (s + c) = s + c := wr_i64 (by omega) (by omega)
    have w6 : wr .i64 ((n : Int) + 1) = (n : Int) + 1 := wr_i64 (by omega) (by omega)
    have tail : WP prog (.loop c18_L0) ⟨[(0, .d (.lst (nums xs))), (3, .int .i64 (s + c)), (4, .int .i64 ((n : Int) + 1))], ⟨[], 0⟩⟩ Q ∨ (decide (0 < n) && decide (8 * s + (n : Int) * 1048576 < (n : Int) * c)) = true := by
      cases ht : (decide (0 < n) && decide (8 * s + (n : Int) * 1048576 < (n : Int) * c)) with
      | true => exact .inr rfl
      | false =>
        simp only [ht, Bool.false_or] at hq hr
        exact .inl (ih (n + 1) (s + c) (by omega) (by omega) (by
          change s + c ≤ ((n : Int) + 1) * 34359738368
          rw [Int.add_mul, Int.one_mul]
          exact Int.add_le_add h1 hc.2) hq hr)
    refine wp_seq (wp_seq (wp_reg ?_))
    by_cases hn : 0 < n
    · by_cases hb : 8 * s + (n : Int) * 1048576 < (n : Int) * c
      · simp [opsF, viF, viGo, opF, opMov, opPick, opAlloc, opBox, opLd, opSt, opBin, opBinb, opUn, opIa, opLen, opMinmax, opExt, opKill, opSlice, opMkfn, rd, rdAll, rdOpt, get_cons, put_cons, del_cons, get_nil, put_nil, del_nil, List.foldl, setDst, share, shareAll, firm, firm1, firm2, lenOf, nat_of, elems, bin_lss, bin_gtr, bin_geq, bin_add, bin_mul, bin_sub, bin_neq, bin_eql, bin_gtr8, bin_eql8, bin_eqlb, un_not, ofElem, loadAt, storeAt, setCells, AV.cells, boxNew, isCell, List.all, Bool.and_true, Bool.and_self, hn, w1, w2, w3, w4, hb]
        refine wp_cond ?_
        simp [opsF, viF, viGo, opF, opMov, opPick, opAlloc, opBox, opLd, opSt, opBin, opBinb, opUn, opIa, opLen, opMinmax, opExt, opKill, opSlice, opMkfn, rd, rdAll, rdOpt, get_cons, put_cons, del_cons, get_nil, put_nil, del_nil, List.foldl, setDst, share, shareAll, firm, firm1, firm2, lenOf, nat_of, elems, bin_lss, bin_gtr, bin_geq, bin_add, bin_mul, bin_sub, bin_neq, bin_eql, bin_gtr8, bin_eql8, bin_eqlb, un_not, ofElem, loadAt, storeAt, setCells, AV.cells, boxNew, isCell, List.all, Bool.and_true, Bool.and_self]
        refine wp_seq (wp_reg ?_)
        simp [opsF, viF, viGo, opF, opMov, opPick, opAlloc, opBox, opLd, opSt, opBin, opBinb, opUn, opIa, opLen, opMinmax, opExt, opKill, opSlice, opMkfn, rd, rdAll, rdOpt, get_cons, put_cons, del_cons, get_nil, put_nil, del_nil, List.foldl, setDst, share, shareAll, firm, firm1, firm2, lenOf, nat_of, elems, bin_lss, bin_gtr, bin_geq, bin_add, bin_mul, bin_sub, bin_neq, bin_eql, bin_gtr8, bin_eql8, bin_eqlb, un_not, ofElem, loadAt, storeAt, setCells, AV.cells, boxNew, isCell, List.all, Bool.and_true, Bool.and_self]
        refine wp_seq (wp_reg ?_)
        simp [opsF, viF, viGo, opF, opMov, opPick, opAlloc, opBox, opLd, opSt, opBin, opBinb, opUn, opIa, opLen, opMinmax, opExt, opKill, opSlice, opMkfn, rd, rdAll, rdOpt, get_cons, put_cons, del_cons, get_nil, put_nil, del_nil, List.foldl, setDst, share, shareAll, firm, firm1, firm2, lenOf, nat_of, elems, bin_lss, bin_gtr, bin_geq, bin_add, bin_mul, bin_sub, bin_neq, bin_eql, bin_gtr8, bin_eql8, bin_eqlb, un_not, ofElem, loadAt, storeAt, setCells, AV.cells, boxNew, isCell, List.all, Bool.and_true, Bool.and_self]
        refine wp_ret ?_
        exact hr (by simp [hn, hb]) _
      · simp [opsF, viF, viGo, opF, opMov, opPick, opAlloc, opBox, opLd, opSt, opBin, opBinb, opUn, opIa, opLen, opMinmax, opExt, opKill, opSlice, opMkfn, rd, rdAll, rdOpt, get_cons, put_cons, del_cons, get_nil, put_nil, del_nil, List.foldl, setDst, share, shareAll, firm, firm1, firm2, lenOf, nat_of, elems, bin_lss, bin_gtr, bin_geq, bin_add, bin_mul, bin_sub, bin_neq, bin_eql, bin_gtr8, bin_eql8, bin_eqlb, un_not, ofElem, loadAt, storeAt, setCells, AV.cells, boxNew, isCell, List.all, Bool.and_true, Bool.and_self, hn, w1, w2, w3, w4, hb]
        refine wp_cond ?_
        simp [opsF, viF, viGo, opF, opMov, opPick, opAlloc, opBox, opLd, opSt, opBin, opBinb, opUn, opIa, opLen, opMinmax, opExt, opKill, opSlice, opMkfn, rd, rdAll, rdOpt, get_cons, put_cons, del_cons, get_nil, put_nil, del_nil, List.foldl, setDst, share, shareAll, firm, firm1, firm2, lenOf, nat_of, elems, bin_lss, bin_gtr, bin_geq, bin_add, bin_mul, bin_sub, bin_neq, bin_eql, bin_gtr8, bin_eql8, bin_eqlb, un_not, ofElem, loadAt, storeAt, setCells, AV.cells, boxNew, isCell, List.all, Bool.and_true, Bool.and_self]
        refine wp_skip (wp_reg ?_)
        simp [opsF, viF, viGo, opF, opMov, opPick, opAlloc, opBox, opLd, opSt, opBin, opBinb, opUn, opIa, opLen, opMinmax, opExt, opKill, opSlice, opMkfn, rd, rdAll, rdOpt, get_cons, put_cons, del_cons, get_nil, put_nil, del_nil, List.foldl, setDst, share, shareAll, firm, firm1, firm2, lenOf, nat_of, elems, bin_lss, bin_gtr, bin_geq, bin_add, bin_mul, bin_sub, bin_neq, bin_eql, bin_gtr8, bin_eql8, bin_eqlb, un_not, ofElem, loadAt, storeAt, setCells, AV.cells, boxNew, isCell, List.all, Bool.and_true, Bool.and_self, w5]
        refine wp_reg ?_
        simp [opsF, viF, viGo, opF, opMov, opPick, opAlloc, opBox, opLd, opSt, opBin, opBinb, opUn, opIa, opLen, opMinmax, opExt, opKill, opSlice, opMkfn, rd, rdAll, rdOpt, get_cons, put_cons, del_cons, get_nil, put_nil, del_nil, List.foldl, setDst, share, shareAll, firm, firm1, firm2, lenOf, nat_of, elems, bin_lss, bin_gtr, bin_geq, bin_add, bin_mul, bin_sub, bin_neq, bin_eql, bin_gtr8, bin_eql8, bin_eqlb, un_not, ofElem, loadAt, storeAt, setCells, AV.cells, boxNew, isCell, List.all, Bool.and_true, Bool.and_self, w6]
        rcases tail with h | h
        · exact h
        · simp [hb] at h
    · simp [opsF, viF, viGo, opF, opMov, opPick, opAlloc, opBox, opLd, opSt, opBin, opBinb, opUn, opIa, opLen, opMinmax, opExt, opKill, opSlice, opMkfn, rd, rdAll, rdOpt, get_cons, put_cons, del_cons, get_nil, put_nil, del_nil, List.foldl, setDst, share, shareAll, firm, firm1, firm2, lenOf, nat_of, elems, bin_lss, bin_gtr, bin_geq, bin_add, bin_mul, bin_sub, bin_neq, bin_eql, bin_gtr8, bin_eql8, bin_eqlb, un_not, ofElem, loadAt, storeAt, setCells, AV.cells, boxNew, isCell, List.all, Bool.and_true, Bool.and_self, hn, w1, w2, w3, w4]
      refine wp_cond ?_
      simp [opsF, viF, viGo, opF, opMov, opPick, opAlloc, opBox, opLd, opSt, opBin, opBinb, opUn, opIa, opLen, opMinmax, opExt, opKill, opSlice, opMkfn, rd, rdAll, rdOpt, get_cons, put_cons, del_cons, get_nil, put_nil, del_nil, List.foldl, setDst, share, shareAll, firm, firm1, firm2, lenOf, nat_of, elems, bin_lss, bin_gtr, bin_geq, bin_add, bin_mul, bin_sub, bin_neq, bin_eql, bin_gtr8, bin_eql8, bin_eqlb, un_not, ofElem, loadAt, storeAt, setCells, AV.cells, boxNew, isCell, List.all, Bool.and_true, Bool.and_self]
      refine wp_skip (wp_reg ?_)
      simp [opsF, viF, viGo, opF, opMov, opPick, opAlloc, opBox, opLd, opSt, opBin, opBinb, opUn, opIa, opLen, opMinmax, opExt, opKill, opSlice, opMkfn, rd, rdAll, rdOpt, get_cons, put_cons, del_cons, get_nil, put_nil, del_nil, List.foldl, setDst, share, shareAll, firm, firm1, firm2, lenOf, nat_of, elems, bin_lss, bin_gtr, bin_geq, bin_add, bin_mul, bin_sub, bin_neq, bin_eql, bin_gtr8, bin_eql8, bin_eqlb, un_not, ofElem, loadAt, storeAt, setCells, AV.cells, boxNew, isCell, List.all, Bool.and_true, Bool.and_self, w5]
      refine wp_reg ?_
      simp [opsF, viF, viGo, opF, opMov, opPick, opAlloc, opBox, opLd, opSt, opBin, opBinb, opUn, opIa, opLen, opMinmax, opExt, opKill, opSlice, opMkfn, rd, rdAll, rdOpt, get_cons, put_cons, del_cons, get_nil, put_nil, del_nil, List.foldl, setDst, share, shareAll, firm, firm1, firm2, lenOf, nat_of, elems, bin_lss, bin_gtr, bin_geq, bin_add, bin_mul, bin_sub, bin_neq, bin_eql, bin_gtr8, bin_eql8, bin_eqlb, un_not, ofElem, loadAt, storeAt, setCells, AV.cells, boxNew, isCell, List.all, Bool.and_true, Bool.and_self, w6]
      rcases tail with h | h
      · exact h
      · simp [hn] at h
theorem call18 {xs : List Int} (hx : xs.length = 256) (hs : Small xs) : EvP prog 18 [.d (.lst (nums xs))] (.bool (loud xs 8 0 0)) := by
  refine evp_wp rfl rfl ?_
  simp only [c18, mkEnv]
  refine wp_seq (wp_reg ?_)
  simp [opsF, viF, viGo, opF, opMov, opPick, opAlloc, opBox, opLd, opSt, opBin, opBinb, opUn, opIa, opLen, opMinmax, opExt, opKill, opSlice, opMkfn, rd, rdAll, rdOpt, get_cons, put_cons, del_cons, get_nil, put_nil, del_nil, List.foldl, setDst, share, shareAll, firm, firm1, firm2, lenOf, nat_of, elems, bin_lss, bin_gtr, bin_geq, bin_add, bin_mul, bin_sub, bin_neq, bin_eql, bin_gtr8, bin_eql8, bin_eqlb, un_not, ofElem, loadAt, storeAt, setCells, AV.cells, boxNew, isCell, List.all, Bool.and_true, Bool.and_self]
  refine wp_seq (wp_reg ?_)
  simp [opsF, viF, viGo, opF, opMov, opPick, opAlloc, opBox, opLd, opSt, opBin, opBinb, opUn, opIa, opLen, opMinmax, opExt, opKill, opSlice, opMkfn, rd, rdAll, rdOpt, get_cons, put_cons, del_cons, get_nil, put_nil, del_nil, List.foldl, setDst, share, shareAll, firm, firm1, firm2, lenOf, nat_of, elems, bin_lss, bin_gtr, bin_geq, bin_add, bin_mul, bin_sub, bin_neq, bin_eql, bin_gtr8, bin_eql8, bin_eqlb, un_not, ofElem, loadAt, storeAt, setCells, AV.cells, boxNew, isCell, List.all, Bool.and_true, Bool.and_self]
  refine wp_seq (wp_seq (wp_reg ?_))
  simp [opsF, viF, viGo, opF, opMov, opPick, opAlloc, opBox, opLd, opSt, opBin, opBinb, opUn, opIa, opLen, opMinmax, opExt, opKill, opSlice, opMkfn, rd, rdAll, rdOpt, get_cons, put_cons, del_cons, get_nil, put_nil, del_nil, List.foldl, setDst, share, shareAll, firm, firm1, firm2, lenOf, nat_of, elems, bin_lss, bin_gtr, bin_geq, bin_add, bin_mul, bin_sub, bin_neq, bin_eql, bin_gtr8, bin_eql8, bin_eqlb, un_not, ofElem, loadAt, storeAt, setCells, AV.cells, boxNew, isCell, List.all, Bool.and_true, Bool.and_self]
  refine wp_block ?_
  refine loud_out xs hx hs _ 8 0 0 (by omega) (by omega) (by simp) ?_ ?_
  · intro h
    simp
    refine wp_seq (wp_reg ?_)
    simp [opsF, viF, viGo, opF, opMov, opPick, opAlloc, opBox, opLd, opSt, opBin, opBinb, opUn, opIa, opLen, opMinmax, opExt, opKill, opSlice, opMkfn, rd, rdAll, rdOpt, get_cons, put_cons, del_cons, get_nil, put_nil, del_nil, List.foldl, setDst, share, shareAll, firm, firm1, firm2, lenOf, nat_of, elems, bin_lss, bin_gtr, bin_geq, bin_add, bin_mul, bin_sub, bin_neq, bin_eql, bin_gtr8, bin_eql8, bin_eqlb, un_not, ofElem, loadAt, storeAt, setCells, AV.cells, boxNew, isCell, List.all, Bool.and_true, Bool.and_self]
    refine wp_ret ?_
    simp [endF, takeRes, get_cons, del_cons, h]
  · intro h e
    simp [endF, takeRes, get_cons, del_cons, h]
end Go.Vm

/-
  PickSees: the program's loudness, chunk by chunk.
-/
namespace Go.Vm
abbrev c5_L0 : VC := (.seq (.reg false [
  ⟨some 27, none, .bin .lss (.s 26) (.s 25), []⟩])
 (.seq (.cond (.m 27)
 .skip
 (.seq (K [24, 25, 26]) (.exit 2)))
 (.seq (.block 3
 (.seq (.reg false [
  ⟨some 28, none, .ia 1 (.s 24) (.s 26), []⟩,
  ⟨some 29, none, .ld none 0 (.m 28), []⟩,
  ⟨some 9, none, .mov (.m 29), []⟩])
 (.reg false [
  ⟨some 30, none, .mov (.m 7), []⟩,
  ⟨some 31, none, .mov (.s 9), []⟩,
  ⟨some 32, none, .mov (.m 9), []⟩,
  ⟨some 33, none, .bin .mul (.m 31) (.m 32), []⟩,
  ⟨some 34, none, .bin .add (.m 30) (.m 33), []⟩,
  ⟨some 7, none, .mov (.m 34), []⟩])))
 (.reg false [
  ⟨some 35, none, .bin .add (.m 26) (.c (.d (.int .i64 1))), []⟩,
  ⟨some 26, none, .mov (.m 35), []⟩,
  ⟨none, none, .kill [9, 28, 29, 30, 31, 32, 33, 34], []⟩]))))
abbrev c33_L0 : VC := (.seq (.seq (.reg false [
  ⟨some 6, none, .mov (.s 4), []⟩,
  ⟨some 7, none, .ld none 0 (.s 1), []⟩,
  ⟨some 8, none, .len (.m 7), []⟩,
  ⟨some 9, none, .bin .lss (.m 6) (.m 8), []⟩])
 (.cond (.m 9)
 .skip
 (.seq (K [0, 1, 2, 4]) (.exit 0))))
 (.seq (.block 1
 (.seq (.reg true [
  ⟨some 13, none, .ld none 0 (.s 2), []⟩,
  ⟨some 14, none, .ld none 0 (.s 1), []⟩,
  ⟨some 15, none, .mov (.s 4), []⟩,
  ⟨some 16, none, .slice 1 (.m 14) (some (.m 15)) none none, []⟩,
  ⟨some 17, none, .len (.m 16), []⟩,
  ⟨some 18, none, .minmax false [.m 13, .m 17], []⟩,
  ⟨some 5, none, .mov (.m 18), []⟩])
 (.seq (.reg false [
  ⟨some 19, none, .mov (.s 0), []⟩,
  ⟨some 20, none, .ld none 0 (.s 1), []⟩,
  ⟨some 21, none, .mov (.s 4), []⟩,
  ⟨some 22, none, .mov (.s 4), []⟩,
  ⟨some 23, none, .mov (.s 5), []⟩,
  ⟨some 24, none, .bin .add (.m 22) (.m 23), []⟩,
  ⟨some 25, none, .mov (.s 4), []⟩,
  ⟨some 26, none, .mov (.m 5), []⟩,
  ⟨some 27, none, .bin .add (.m 25) (.m 26), []⟩,
  ⟨some 28, none, .slice 1 (.m 20) (some (.m 21)) (some (.m 24)) (some (.m 27)), []⟩,
  ⟨some 29, none, .callv (.m 19) [.m 28], []⟩,
  ⟨some 30, none, .un .not (.m 29), []⟩])
 (.cond (.m 30)
 (.seq (K [0, 1, 2, 4]) .ret)
 .skip))))
 (.reg false [
  ⟨some 10, none, .mov (.m 4), []⟩,
  ⟨some 11, none, .ld none 0 (.s 2), []⟩,
  ⟨some 12, none, .bin .add (.m 10) (.m 11), []⟩,
  ⟨some 4, none, .mov (.m 12), []⟩,
  ⟨none, none, .kill [5, 13, 14, 15, 16, 17, 18, 19, 20, 21, 22, 23, 24, 25, 26, 27, 28, 29, 30], []⟩])))
abbrev c5_RA : VC := (.reg false [
  ⟨some 6, none, .mov (.m 23), []⟩])
abbrev c5_RB : VC := (.block 1
 (.seq (.reg false [
  ⟨some 7, none, .mov (.c (.d (.int .i64 0))), []⟩])
 (.seq (.seq (.reg false [
  ⟨some 24, none, .mov (.m 6), []⟩,
  ⟨some 25, none, .len (.s 24), []⟩,
  ⟨some 26, none, .mov (.c (.d (.int .i64 0))), []⟩])
 (.block 2
 (.loop
 (.seq (.reg false [
  ⟨some 27, none, .bin .lss (.s 26) (.s 25), []⟩])
 (.seq (.cond (.m 27)
 .skip
 (.seq (K [24, 25, 26]) (.exit 2)))
 (.seq (.block 3
 (.seq (.reg false [
  ⟨some 28, none, .ia 1 (.s 24) (.s 26), []⟩,
  ⟨some 29, none, .ld none 0 (.m 28), []⟩,
  ⟨some 9, none, .mov (.m 29), []⟩])
 (.reg false [
  ⟨some 30, none, .mov (.m 7), []⟩,
  ⟨some 31, none, .mov (.s 9), []⟩,
  ⟨some 32, none, .mov (.m 9), []⟩,
  ⟨some 33, none, .bin .mul (.m 31) (.m 32), []⟩,
  ⟨some 34, none, .bin .add (.m 30) (.m 33), []⟩,
  ⟨some 7, none, .mov (.m 34), []⟩])))
 (.reg false [
  ⟨some 35, none, .bin .add (.m 26) (.c (.d (.int .i64 1))), []⟩,
  ⟨some 26, none, .mov (.m 35), []⟩,
  ⟨none, none, .kill [9, 28, 29, 30, 31, 32, 33, 34], []⟩])))))))
 (.seq (.seq (.reg false [
  ⟨some 36, none, .ld none 0 (.s 5), []⟩,
  ⟨some 37, none, .bin .gtr (.m 36) (.c (.d (.int .i64 0))), []⟩,
  ⟨some 38, none, .mov (.m 37), []⟩,
  ⟨some 39, (some (38, true)), .ld none 0 (.s 5), []⟩,
  ⟨some 40, (some (38, true)), .mov (.s 7), []⟩,
  ⟨some 41, (some (38, true)), .bin .mul (.s 39) (.s 40), []⟩,
  ⟨some 42, (some (38, true)), .ld none 0 (.s 4), []⟩,
  ⟨some 43, (some (38, true)), .bin .mul (.c (.d (.int .i64 8))) (.s 42), []⟩,
  ⟨some 44, (some (38, true)), .ld none 0 (.s 5), []⟩,
  ⟨some 45, (some (38, true)), .bin .shl (.s 44) (.c (.d (.int .u64 20))), []⟩,
  ⟨some 46, (some (38, true)), .bin .add (.s 43) (.s 45), []⟩,
  ⟨some 47, (some (38, true)), .bin .gtr (.s 41) (.s 46), []⟩,
  ⟨some 48, none, .pick (.m 38) (.m 47) (.c (.d (.bool false))), []⟩,
  ⟨none, none, .kill [9, 24, 25, 26, 27, 28, 29, 30, 31, 32, 33, 34, 35, 39, 40, 41, 42, 43, 44, 45, 46], []⟩])
 (.cond (.m 48)
 (.seq (K [4, 5, 7]) (.seq (.reg false [
  ⟨none, none, .st 1 (.m 2) (.c (.d (.bool true))), []⟩,
  ⟨none, none, .st 1 (.m 3) (.c (.d (.int .i64 0))), []⟩])
 .ret))
 (.seq (K [2, 3]) .skip)))
 (.seq (.reg false [
  ⟨some 49, none, .ld none 0 (.s 4), []⟩,
  ⟨some 50, none, .mov (.m 7), []⟩,
  ⟨some 51, none, .bin .add (.m 49) (.m 50), []⟩,
  ⟨none, none, .st 1 (.m 4) (.m 51), []⟩])
 (.reg false [
  ⟨some 52, none, .ld none 0 (.s 5), []⟩,
  ⟨some 53, none, .bin .add (.m 52) (.c (.d (.int .i64 1))), []⟩,
  ⟨none, none, .st 1 (.m 5) (.m 53), []⟩]))))))
def snap5 : Env := [(2, .ptr 0 0), (3, .ptr 1 0), (4, .ptr 2 0), (5, .ptr 3 0)]
def heap5 (b : Bool) (s : Int) (n : Int) (xs : List Int) (pend : Option Out) : Heap :=
  [(0, .cells [.bool b]), (1, .cells [.int .i64 0]), (2, .cells [.int .i64 s]), (3, .cells [.int .i64 n]), (4, .cells [.d (.lst (nums xs))]), (5, .cells [.int .i64 32]), (6, .loop snap5 [23] c5_RA c5_RB false pend)]
theorem pick_in (ys : List Int) (hx : ys.length = 32) (hs : Small ys) (H : HS) (Q : Out → St → Prop) : ∀ (k i : Nat) (a : Int), i + k = 32 → 0 ≤ a → a + (k : Int) * 1073741824 ≤ 1000000000000 →
    Q (.exit 2) ⟨[(2, .ptr 0 0), (3, .ptr 1 0), (4, .ptr 2 0), (5, .ptr 3 0), (7, .int .i64 (a + sqs (ys.drop i)))], H⟩ →
    WP prog (.loop c5_L0) ⟨[(2, .ptr 0 0), (3, .ptr 1 0), (4, .ptr 2 0), (5, .ptr 3 0), (7, .int .i64 a), (24, .d (.lst (nums ys))), (25, .int .i64 32), (26, .int .i64 (i : Int))], H⟩ Q := by
  intro k
  induction k with
  | zero =>
    intro i a h h0 h1 hq
    refine wp_loop (wp_seq (wp_reg ?_))
    simp [opsF, viF, viGo, opF, opMov, opPick, opAlloc, opBox, opLd, opSt, opBin, opBinb, opUn, opIa, opLen, opMinmax, opExt, opKill, opSlice, opMkfn, rd, rdAll, rdOpt, get_cons, put_cons, del_cons, get_nil, put_nil, del_nil, List.foldl, setDst, share, shareAll, firm, firm1, firm2, lenOf, nat_of, elems, bin_lss, bin_gtr, bin_geq, bin_add, bin_mul, bin_sub, bin_neq, bin_eql, bin_gtr8, bin_eql8, bin_eqlb, un_not, ofElem, loadAt, storeAt, setCells, AV.cells, boxNew, isCell, List.all, Bool.and_true, Bool.and_self]
    refine wp_seq (wp_cond ?_)
    have hlt : ¬ (i : Int) < 32 := by omega
    simp [opsF, viF, viGo, opF, opMov, opPick, opAlloc, opBox, opLd, opSt, opBin, opBinb, opUn, opIa, opLen, opMinmax, opExt, opKill, opSlice, opMkfn, rd, rdAll, rdOpt, get_cons, put_cons, del_cons, get_nil, put_nil, del_nil, List.foldl, setDst, share, shareAll, firm, firm1, firm2, lenOf, nat_of, elems, bin_lss, bin_gtr, bin_geq, bin_add, bin_mul, bin_sub, bin_neq, bin_eql, bin_gtr8, bin_eql8, bin_eqlb, un_not, ofElem, loadAt, storeAt, setCells, AV.cells, boxNew, isCell, List.all, Bool.and_true, Bool.and_self, hlt]
    refine wp_seq (wp_reg ?_)
    simp [opsF, viF, viGo, opF, opMov, opPick, opAlloc, opBox, opLd, opSt, opBin, opBinb, opUn, opIa, opLen, opMinmax, opExt, opKill, opSlice, opMkfn, rd, rdAll, rdOpt, get_cons, put_cons, del_cons, get_nil, put_nil, del_nil, List.foldl, setDst, share, shareAll, firm, firm1, firm2, lenOf, nat_of, elems, bin_lss, bin_gtr, bin_geq, bin_add, bin_mul, bin_sub, bin_neq, bin_eql, bin_gtr8, bin_eql8, bin_eqlb, un_not, ofElem, loadAt, storeAt, setCells, AV.cells, boxNew, isCell, List.all, Bool.and_true, Bool.and_self]
    refine wp_exit ?_
    rw [List.drop_of_length_le (by omega)] at hq
    simpa [sqs] using hq
  | succ k ih =>
    intro i a h h0 h1 hq
    refine wp_loop (wp_seq (wp_reg ?_))
    simp [opsF, viF, viGo, opF, opMov, opPick, opAlloc, opBox, opLd, opSt, opBin, opBinb, opUn, opIa, opLen, opMinmax, opExt, opKill, opSlice, opMkfn, rd, rdAll, rdOpt, get_cons, put_cons, del_cons, get_nil, put_nil, del_nil, List.foldl, setDst, share, shareAll, firm, firm1, firm2, lenOf, nat_of, elems, bin_lss, bin_gtr, bin_geq, bin_add, bin_mul, bin_sub, bin_neq, bin_eql, bin_gtr8, bin_eql8, bin_eqlb, un_not, ofElem, loadAt, storeAt, setCells, AV.cells, boxNew, isCell, List.all, Bool.and_true, Bool.and_self]
    refine wp_seq (wp_cond ?_)
    have hlt : (i : Int) < 32 := by omega
    have hl : i < ys.length := by omega
    have hsq := sq_small (hs ys[i] (List.getElem_mem hl))
    simp [opsF, viF, viGo, opF, opMov, opPick, opAlloc, opBox, opLd, opSt, opBin, opBinb, opUn, opIa, opLen, opMinmax, opExt, opKill, opSlice, opMkfn, rd, rdAll, rdOpt, get_cons, put_cons, del_cons, get_nil, put_nil, del_nil, List.foldl, setDst, share, shareAll, firm, firm1, firm2, lenOf, nat_of, elems, bin_lss, bin_gtr, bin_geq, bin_add, bin_mul, bin_sub, bin_neq, bin_eql, bin_gtr8, bin_eql8, bin_eqlb, un_not, ofElem, loadAt, storeAt, setCells, AV.cells, boxNew, isCell, List.all, Bool.and_true, Bool.and_self, hlt]
    refine wp_skip (wp_seq (wp_block (wp_seq (wp_reg ?_))))
    simp [opsF, viF, viGo, opF, opMov, opPick, opAlloc, opBox, opLd, opSt, opBin, opBinb, opUn, opIa, opLen, opMinmax, opExt, opKill, opSlice, opMkfn, rd, rdAll, rdOpt, get_cons, put_cons, del_cons, get_nil, put_nil, del_nil, List.foldl, setDst, share, shareAll, firm, firm1, firm2, lenOf, nat_of, elems, bin_lss, bin_gtr, bin_geq, bin_add, bin_mul, bin_sub, bin_neq, bin_eql, bin_gtr8, bin_eql8, bin_eqlb, un_not, ofElem, loadAt, storeAt, setCells, AV.cells, boxNew, isCell, List.all, Bool.and_true, Bool.and_self, nums_len, nums_at, hl]
    refine wp_reg ?_
    simp [opsF, viF, viGo, opF, opMov, opPick, opAlloc, opBox, opLd, opSt, opBin, opBinb, opUn, opIa, opLen, opMinmax, opExt, opKill, opSlice, opMkfn, rd, rdAll, rdOpt, get_cons, put_cons, del_cons, get_nil, put_nil, del_nil, List.foldl, setDst, share, shareAll, firm, firm1, firm2, lenOf, nat_of, elems, bin_lss, bin_gtr, bin_geq, bin_add, bin_mul, bin_sub, bin_neq, bin_eql, bin_gtr8, bin_eql8, bin_eqlb, un_not, ofElem, loadAt, storeAt, setCells, AV.cells, boxNew, isCell, List.all, Bool.and_true, Bool.and_self]
    rw [wr_i64 (n := ys[i] * ys[i]) (by omega) (by omega), wr_i64 (by omega) (by omega)]
    refine wp_reg ?_
    simp [opsF, viF, viGo, opF, opMov, opPick, opAlloc, opBox, opLd, opSt, opBin, opBinb, opUn, opIa, opLen, opMinmax, opExt, opKill, opSlice, opMkfn, rd, rdAll, rdOpt, get_cons, put_cons, del_cons, get_nil, put_nil, del_nil, List.foldl, setDst, share, shareAll, firm, firm1, firm2, lenOf, nat_of, elems, bin_lss, bin_gtr, bin_geq, bin_add, bin_mul, bin_sub, bin_neq, bin_eql, bin_gtr8, bin_eql8, bin_eqlb, un_not, ofElem, loadAt, storeAt, setCells, AV.cells, boxNew, isCell, List.all, Bool.and_true, Bool.and_self]
    rw [wr_i64 (by omega) (by omega)]
    refine ih (i + 1) _ (by omega) (by omega) (by omega) ?_
    rw [List.drop_eq_getElem_cons hl, sqs, ← Int.add_assoc] at hq
    exact hq
theorem headOk_nums : ∀ (xs : List Int), headOk 1 (nums xs) = true
  | [] => rfl
  | _ :: _ => rfl
theorem nums_drop (xs : List Int) (i : Nat) : (nums xs).drop i = nums (xs.drop i) := by simp [nums]
theorem nums_take (xs : List Int) (i : Nat) : (nums xs).take i = nums (xs.take i) := by simp [nums]
theorem slice_lo {xs : List Int} {i : Nat} (h : i ≤ xs.length) : sliceOf 1 (.d (.lst (nums xs))) (some (.int .i64 (i : Int))) none none = some (.d (.lst (nums (xs.drop i)))) := by
  have hn : natUpTo (.int .i64 (i : Int)) (nums xs).length = some i := by
    change (match Nat.ble i (nums xs).length with | true => some i | false => none) = some i
    rw [nums_len, Nat.ble_eq_true_of_le h]
  simp only [sliceOf, lenOf, bounds, lowOf, hn, headOk_nums, sub]
  rw [nums_drop, nums_take, nums_len, ← List.length_drop, List.take_length]
theorem slice_3 {xs : List Int} {i j : Nat} (hij : i ≤ j) (h : j ≤ xs.length) : sliceOf 1 (.d (.lst (nums xs))) (some (.int .i64 (i : Int))) (some (.int .i64 (j : Int))) (some (.int .i64 (j : Int))) = some (.d (.lst (nums ((xs.drop i).take (j - i))))) := by
  have hn : natUpTo (.int .i64 (j : Int)) (nums xs).length = some j := by
    change (match Nat.ble j (nums xs).length with | true => some j | false => none) = some j
    rw [nums_len, Nat.ble_eq_true_of_le h]
  have hn2 : natUpTo (.int .i64 (j : Int)) j = some j := by
    change (match Nat.ble j j with | true => some j | false => none) = some j
    rw [Nat.ble_eq_true_of_le (Nat.le_refl _)]
  have hn3 : natUpTo (.int .i64 (i : Int)) j = some i := by
    change (match Nat.ble i j with | true => some i | false => none) = some i
    rw [Nat.ble_eq_true_of_le hij]
  simp only [sliceOf, lenOf, bounds, lowOf, hn, hn2, hn3, headOk_nums, sub]
  rw [nums_drop, nums_take]
theorem bin_shl (a : Int) : binOf .shl (.d (.int .i64 a)) (.d (.int .u64 20)) = some (.d (.int .i64 (wr .i64 (a * 1048576)))) := rfl
/-- The body of the program's loop. -/
theorem pick_body {xs ys : List Int} (hx : ys.length = 32) (hs : Small ys) (n : Nat) (hn : n < 8) (s : Int) (h0 : 0 ≤ s) (h1 : s ≤ (n : Int) * 34359738368) (c : Int) (hcd : sqs ys = c) (N : Nat) (Q : Out → St → Prop) (L : Obj)
    (hr : (decide (0 < n) && decide (8 * s + (n : Int) * 1048576 < (n : Int) * c)) = true → ∀ e, Q .ret ⟨e, ⟨put (heap5 true s n xs none) 6 L, N⟩⟩) (hq : (decide (0 < n) && decide (8 * s + (n : Int) * 1048576 < (n : Int) * c)) = false → ∀ e, Q .normal ⟨e, ⟨put (heap5 false (s + c) ((n : Int) + 1) xs none) 6 L, N⟩⟩) :
    WP prog c5_RB ⟨put snap5 6 (.d (.lst (nums ys))), ⟨put (heap5 false s n xs none) 6 L, N⟩⟩ Q := by
  have hc := sqs_small hs
  rw [hcd, hx] at hc
  have hc : 0 ≤ c ∧ c ≤ 34359738368 := ⟨hc.1, by have := hc.2; simpa using this⟩
  have hm := mul_small (n := n) (by omega) hc
  have w1 : wr .i64 (8 * s) = 8 * s := wr_i64 (by omega) (by omega)
  have w2 : wr .i64 ((n : Int) * 1048576) = (n : Int) * 1048576 := wr_i64 (by omega) (by omega)
  have w3 : wr .i64 (8 * s + (n : Int) * 1048576) = 8 * s + (n : Int) * 1048576 := wr_i64 (by omega) (by omega)
  have w4 : wr .i64 ((n : Int) * c) = (n : Int) * c := wr_i64 (by omega) (by omega)
  have w5 : wr .i64 (s + c) = s + c := wr_i64 (by omega) (by omega)
  have w6 : wr .i64 ((n : Int) + 1) = (n : Int) + 1 := wr_i64 (by omega) (by omega)
  unfold c5_RB snap5 heap5
  refine wp_block (wp_seq (wp_reg ?_))
  simp [opsF, viF, viGo, opF, opMov, opPick, opAlloc, opBox, opLd, opSt, opBin, opBinb, opUn, opIa, opLen, opMinmax, opExt, opKill, opSlice, opMkfn, rd, rdAll, rdOpt, get_cons, put_cons, del_cons, get_nil, put_nil, del_nil, List.foldl, setDst, share, shareAll, firm, firm1, firm2, lenOf, nat_of, elems, bin_lss, bin_gtr, bin_geq, bin_add, bin_mul, bin_sub, bin_neq, bin_eql, bin_gtr8, bin_eql8, bin_eqlb, un_not, ofElem, loadAt, storeAt, setCells, AV.cells, boxNew, isCell, List.all, Bool.and_true, Bool.and_self]
  refine wp_seq (wp_seq (wp_reg ?_))
  simp [opsF, viF, viGo, opF, opMov, opPick, opAlloc, opBox, opLd, opSt, opBin, opBinb, opUn, opIa, opLen, opMinmax, opExt, opKill, opSlice, opMkfn, rd, rdAll, rdOpt, get_cons, put_cons, del_cons, get_nil, put_nil, del_nil, List.foldl, setDst, share, shareAll, firm, firm1, firm2, lenOf, nat_of, elems, bin_lss, bin_gtr, bin_geq, bin_add, bin_mul, bin_sub, bin_neq, bin_eql, bin_gtr8, bin_eql8, bin_eqlb, un_not, ofElem, loadAt, storeAt, setCells, AV.cells, boxNew, isCell, List.all, Bool.and_true, Bool.and_self, nums_len, hx]
  refine wp_block ?_
  refine pick_in ys hx hs _ _ 32 0 0 (by omega) (by omega) (by omega) ?_
  have hz : (0 : Int) + sqs (ys.drop 0) = c := by rw [Int.zero_add]; exact hcd
  rw [hz]
  refine wp_seq (wp_seq (wp_reg ?_))
  by_cases hn0 : 0 < n
  · by_cases hb : 8 * s + (n : Int) * 1048576 < (n : Int) * c
    · simp [opsF, viF, viGo, opF, opMov, opPick, opAlloc, opBox, opLd, opSt, opBin, opBinb, opUn, opIa, opLen, opMinmax, opExt, opKill, opSlice, opMkfn, rd, rdAll, rdOpt, get_cons, put_cons, del_cons, get_nil, put_nil, del_nil, List.foldl, setDst, share, shareAll, firm, firm1, firm2, lenOf, nat_of, elems, bin_lss, bin_gtr, bin_geq, bin_add, bin_mul, bin_sub, bin_neq, bin_eql, bin_gtr8, bin_eql8, bin_eqlb, un_not, ofElem, loadAt, storeAt, setCells, AV.cells, boxNew, isCell, List.all, Bool.and_true, Bool.and_self, bin_shl, hn0, w1, w2, w3, w4, hb]
      refine wp_cond ?_
      simp [opsF, viF, viGo, opF, opMov, opPick, opAlloc, opBox, opLd, opSt, opBin, opBinb, opUn, opIa, opLen, opMinmax, opExt, opKill, opSlice, opMkfn, rd, rdAll, rdOpt, get_cons, put_cons, del_cons, get_nil, put_nil, del_nil, List.foldl, setDst, share, shareAll, firm, firm1, firm2, lenOf, nat_of, elems, bin_lss, bin_gtr, bin_geq, bin_add, bin_mul, bin_sub, bin_neq, bin_eql, bin_gtr8, bin_eql8, bin_eqlb, un_not, ofElem, loadAt, storeAt, setCells, AV.cells, boxNew, isCell, List.all, Bool.and_true, Bool.and_self]
      refine wp_seq (wp_reg ?_)
      simp [opsF, viF, viGo, opF, opMov, opPick, opAlloc, opBox, opLd, opSt, opBin, opBinb, opUn, opIa, opLen, opMinmax, opExt, opKill, opSlice, opMkfn, rd, rdAll, rdOpt, get_cons, put_cons, del_cons, get_nil, put_nil, del_nil, List.foldl, setDst, share, shareAll, firm, firm1, firm2, lenOf, nat_of, elems, bin_lss, bin_gtr, bin_geq, bin_add, bin_mul, bin_sub, bin_neq, bin_eql, bin_gtr8, bin_eql8, bin_eqlb, un_not, ofElem, loadAt, storeAt, setCells, AV.cells, boxNew, isCell, List.all, Bool.and_true, Bool.and_self]
      refine wp_seq (wp_reg ?_)
      simp [opsF, viF, viGo, opF, opMov, opPick, opAlloc, opBox, opLd, opSt, opBin, opBinb, opUn, opIa, opLen, opMinmax, opExt, opKill, opSlice, opMkfn, rd, rdAll, rdOpt, get_cons, put_cons, del_cons, get_nil, put_nil, del_nil, List.foldl, setDst, share, shareAll, firm, firm1, firm2, lenOf, nat_of, elems, bin_lss, bin_gtr, bin_geq, bin_add, bin_mul, bin_sub, bin_neq, bin_eql, bin_gtr8, bin_eql8, bin_eqlb, un_not, ofElem, loadAt, storeAt, setCells, AV.cells, boxNew, isCell, List.all, Bool.and_true, Bool.and_self]
      refine wp_ret ?_
      have := hr (by simp [hn0, hb])
      simp [heap5, put_cons, put_nil] at this
      exact this _
    · simp [opsF, viF, viGo, opF, opMov, opPick, opAlloc, opBox, opLd, opSt, opBin, opBinb, opUn, opIa, opLen, opMinmax, opExt, opKill, opSlice, opMkfn, rd, rdAll, rdOpt, get_cons, put_cons, del_cons, get_nil, put_nil, del_nil, List.foldl, setDst, share, shareAll, firm, firm1, firm2, lenOf, nat_of, elems, bin_lss, bin_gtr, bin_geq, bin_add, bin_mul, bin_sub, bin_neq, bin_eql, bin_gtr8, bin_eql8, bin_eqlb, un_not, ofElem, loadAt, storeAt, setCells, AV.cells, boxNew, isCell, List.all, Bool.and_true, Bool.and_self, bin_shl, hn0, w1, w2, w3, w4, hb]
      refine wp_cond ?_
      simp [opsF, viF, viGo, opF, opMov, opPick, opAlloc, opBox, opLd, opSt, opBin, opBinb, opUn, opIa, opLen, opMinmax, opExt, opKill, opSlice, opMkfn, rd, rdAll, rdOpt, get_cons, put_cons, del_cons, get_nil, put_nil, del_nil, List.foldl, setDst, share, shareAll, firm, firm1, firm2, lenOf, nat_of, elems, bin_lss, bin_gtr, bin_geq, bin_add, bin_mul, bin_sub, bin_neq, bin_eql, bin_gtr8, bin_eql8, bin_eqlb, un_not, ofElem, loadAt, storeAt, setCells, AV.cells, boxNew, isCell, List.all, Bool.and_true, Bool.and_self]
      refine wp_seq (wp_reg ?_)
      simp [opsF, viF, viGo, opF, opMov, opPick, opAlloc, opBox, opLd, opSt, opBin, opBinb, opUn, opIa, opLen, opMinmax, opExt, opKill, opSlice, opMkfn, rd, rdAll, rdOpt, get_cons, put_cons, del_cons, get_nil, put_nil, del_nil, List.foldl, setDst, share, shareAll, firm, firm1, firm2, lenOf, nat_of, elems, bin_lss, bin_gtr, bin_geq, bin_add, bin_mul, bin_sub, bin_neq, bin_eql, bin_gtr8, bin_eql8, bin_eqlb, un_not, ofElem, loadAt, storeAt, setCells, AV.cells, boxNew, isCell, List.all, Bool.and_true, Bool.and_self]
      refine wp_skip (wp_seq (wp_reg ?_))
      simp [opsF, viF, viGo, opF, opMov, opPick, opAlloc, opBox, opLd, opSt, opBin, opBinb, opUn, opIa, opLen, opMinmax, opExt, opKill, opSlice, opMkfn, rd, rdAll, rdOpt, get_cons, put_cons, del_cons, get_nil, put_nil, del_nil, List.foldl, setDst, share, shareAll, firm, firm1, firm2, lenOf, nat_of, elems, bin_lss, bin_gtr, bin_geq, bin_add, bin_mul, bin_sub, bin_neq, bin_eql, bin_gtr8, bin_eql8, bin_eqlb, un_not, ofElem, loadAt, storeAt, setCells, AV.cells, boxNew, isCell, List.all, Bool.and_true, Bool.and_self, w5]
      refine wp_reg ?_
      simp [opsF, viF, viGo, opF, opMov, opPick, opAlloc, opBox, opLd, opSt, opBin, opBinb, opUn, opIa, opLen, opMinmax, opExt, opKill, opSlice, opMkfn, rd, rdAll, rdOpt, get_cons, put_cons, del_cons, get_nil, put_nil, del_nil, List.foldl, setDst, share, shareAll, firm, firm1, firm2, lenOf, nat_of, elems, bin_lss, bin_gtr, bin_geq, bin_add, bin_mul, bin_sub, bin_neq, bin_eql, bin_gtr8, bin_eql8, bin_eqlb, un_not, ofElem, loadAt, storeAt, setCells, AV.cells, boxNew, isCell, List.all, Bool.and_true, Bool.and_self, w6]
      have := hq (by simp [hb])
      simp [heap5, put_cons, put_nil] at this
      exact this _
  · simp [opsF, viF, viGo, opF, opMov, opPick, opAlloc, opBox, opLd, opSt, opBin, opBinb, opUn, opIa, opLen, opMinmax, opExt, opKill, opSlice, opMkfn, rd, rdAll, rdOpt, get_cons, put_cons, del_cons, get_nil, put_nil, del_nil, List.foldl, setDst, share, shareAll, firm, firm1, firm2, lenOf, nat_of, elems, bin_lss, bin_gtr, bin_geq, bin_add, bin_mul, bin_sub, bin_neq, bin_eql, bin_gtr8, bin_eql8, bin_eqlb, un_not, ofElem, loadAt, storeAt, setCells, AV.cells, boxNew, isCell, List.all, Bool.and_true, Bool.and_self, bin_shl, hn0, w1, w2, w3, w4]
    refine wp_cond ?_
    simp [opsF, viF, viGo, opF, opMov, opPick, opAlloc, opBox, opLd, opSt, opBin, opBinb, opUn, opIa, opLen, opMinmax, opExt, opKill, opSlice, opMkfn, rd, rdAll, rdOpt, get_cons, put_cons, del_cons, get_nil, put_nil, del_nil, List.foldl, setDst, share, shareAll, firm, firm1, firm2, lenOf, nat_of, elems, bin_lss, bin_gtr, bin_geq, bin_add, bin_mul, bin_sub, bin_neq, bin_eql, bin_gtr8, bin_eql8, bin_eqlb, un_not, ofElem, loadAt, storeAt, setCells, AV.cells, boxNew, isCell, List.all, Bool.and_true, Bool.and_self]
    refine wp_seq (wp_reg ?_)
    simp [opsF, viF, viGo, opF, opMov, opPick, opAlloc, opBox, opLd, opSt, opBin, opBinb, opUn, opIa, opLen, opMinmax, opExt, opKill, opSlice, opMkfn, rd, rdAll, rdOpt, get_cons, put_cons, del_cons, get_nil, put_nil, del_nil, List.foldl, setDst, share, shareAll, firm, firm1, firm2, lenOf, nat_of, elems, bin_lss, bin_gtr, bin_geq, bin_add, bin_mul, bin_sub, bin_neq, bin_eql, bin_gtr8, bin_eql8, bin_eqlb, un_not, ofElem, loadAt, storeAt, setCells, AV.cells, boxNew, isCell, List.all, Bool.and_true, Bool.and_self]
    refine wp_skip (wp_seq (wp_reg ?_))
    simp [opsF, viF, viGo, opF, opMov, opPick, opAlloc, opBox, opLd, opSt, opBin, opBinb, opUn, opIa, opLen, opMinmax, opExt, opKill, opSlice, opMkfn, rd, rdAll, rdOpt, get_cons, put_cons, del_cons, get_nil, put_nil, del_nil, List.foldl, setDst, share, shareAll, firm, firm1, firm2, lenOf, nat_of, elems, bin_lss, bin_gtr, bin_geq, bin_add, bin_mul, bin_sub, bin_neq, bin_eql, bin_gtr8, bin_eql8, bin_eqlb, un_not, ofElem, loadAt, storeAt, setCells, AV.cells, boxNew, isCell, List.all, Bool.and_true, Bool.and_self, w5]
    refine wp_reg ?_
    simp [opsF, viF, viGo, opF, opMov, opPick, opAlloc, opBox, opLd, opSt, opBin, opBinb, opUn, opIa, opLen, opMinmax, opExt, opKill, opSlice, opMkfn, rd, rdAll, rdOpt, get_cons, put_cons, del_cons, get_nil, put_nil, del_nil, List.foldl, setDst, share, shareAll, firm, firm1, firm2, lenOf, nat_of, elems, bin_lss, bin_gtr, bin_geq, bin_add, bin_mul, bin_sub, bin_neq, bin_eql, bin_gtr8, bin_eql8, bin_eqlb, un_not, ofElem, loadAt, storeAt, setCells, AV.cells, boxNew, isCell, List.all, Bool.and_true, Bool.and_self, w6]
    have := hq (by simp [hn0])
    simp [heap5, put_cons, put_nil] at this
    exact this _
theorem w32 {n : Nat} (hn : n < 8) : wr .i64 (32 * (n : Int) + 32) = 32 * (n : Int) + 32 := wr_i64 (by omega) (by omega)
theorem chunk_loop (xs : List Int) (hx : xs.length = 256) (hs : Small xs) (Q : Out → St → Prop) : ∀ (k n : Nat) (s : Int), n + k = 8 → 0 ≤ s → s ≤ (n : Int) * 34359738368 → (loud xs k n s = false → ∀ s n, Q (.exit 0) ⟨[], ⟨heap5 false s n xs none, 7⟩⟩) → (loud xs k n s = true → ∀ s n e, Q .ret ⟨e, ⟨heap5 true s n xs (some .ret), 7⟩⟩) →
    WP prog (.loop c33_L0) ⟨[(0, .yield 6), (1, .ptr 4 0), (2, .ptr 5 0), (4, .int .i64 (32 * (n : Int)))], ⟨heap5 false s n xs none, 7⟩⟩ Q := by
  intro k
  induction k with
  | zero =>
    intro n s h h0 h1 hq hr
    refine wp_loop (wp_seq (wp_seq (wp_reg ?_)))
    simp [opsF, viF, viGo, opF, opMov, opPick, opAlloc, opBox, opLd, opSt, opBin, opBinb, opUn, opIa, opLen, opMinmax, opExt, opKill, opSlice, opMkfn, rd, rdAll, rdOpt, get_cons, put_cons, del_cons, get_nil, put_nil, del_nil, List.foldl, setDst, share, shareAll, firm, firm1, firm2, lenOf, nat_of, elems, bin_lss, bin_gtr, bin_geq, bin_add, bin_mul, bin_sub, bin_neq, bin_eql, bin_gtr8, bin_eql8, bin_eqlb, un_not, ofElem, loadAt, storeAt, setCells, AV.cells, boxNew, isCell, List.all, Bool.and_true, Bool.and_self, heap5, nums_len, hx]
    refine wp_cond ?_
    have hlt : ¬ 32 * (n : Int) < 256 := by omega
    simp [opsF, viF, viGo, opF, opMov, opPick, opAlloc, opBox, opLd, opSt, opBin, opBinb, opUn, opIa, opLen, opMinmax, opExt, opKill, opSlice, opMkfn, rd, rdAll, rdOpt, get_cons, put_cons, del_cons, get_nil, put_nil, del_nil, List.foldl, setDst, share, shareAll, firm, firm1, firm2, lenOf, nat_of, elems, bin_lss, bin_gtr, bin_geq, bin_add, bin_mul, bin_sub, bin_neq, bin_eql, bin_gtr8, bin_eql8, bin_eqlb, un_not, ofElem, loadAt, storeAt, setCells, AV.cells, boxNew, isCell, List.all, Bool.and_true, Bool.and_self, hlt]
    refine wp_seq (wp_reg ?_)
    simp [opsF, viF, viGo, opF, opMov, opPick, opAlloc, opBox, opLd, opSt, opBin, opBinb, opUn, opIa, opLen, opMinmax, opExt, opKill, opSlice, opMkfn, rd, rdAll, rdOpt, get_cons, put_cons, del_cons, get_nil, put_nil, del_nil, List.foldl, setDst, share, shareAll, firm, firm1, firm2, lenOf, nat_of, elems, bin_lss, bin_gtr, bin_geq, bin_add, bin_mul, bin_sub, bin_neq, bin_eql, bin_gtr8, bin_eql8, bin_eqlb, un_not, ofElem, loadAt, storeAt, setCells, AV.cells, boxNew, isCell, List.all, Bool.and_true, Bool.and_self]
    refine wp_exit ?_
    exact hq rfl _ _
  | succ k ih =>
    intro n s h h0 h1 hq hr
    refine wp_loop (wp_seq (wp_seq (wp_reg ?_)))
    simp [opsF, viF, viGo, opF, opMov, opPick, opAlloc, opBox, opLd, opSt, opBin, opBinb, opUn, opIa, opLen, opMinmax, opExt, opKill, opSlice, opMkfn, rd, rdAll, rdOpt, get_cons, put_cons, del_cons, get_nil, put_nil, del_nil, List.foldl, setDst, share, shareAll, firm, firm1, firm2, lenOf, nat_of, elems, bin_lss, bin_gtr, bin_geq, bin_add, bin_mul, bin_sub, bin_neq, bin_eql, bin_gtr8, bin_eql8, bin_eqlb, un_not, ofElem, loadAt, storeAt, setCells, AV.cells, boxNew, isCell, List.all, Bool.and_true, Bool.and_self, heap5, nums_len, hx]
    refine wp_cond ?_
    have hlt : 32 * (n : Int) < 256 := by omega
    simp [opsF, viF, viGo, opF, opMov, opPick, opAlloc, opBox, opLd, opSt, opBin, opBinb, opUn, opIa, opLen, opMinmax, opExt, opKill, opSlice, opMkfn, rd, rdAll, rdOpt, get_cons, put_cons, del_cons, get_nil, put_nil, del_nil, List.foldl, setDst, share, shareAll, firm, firm1, firm2, lenOf, nat_of, elems, bin_lss, bin_gtr, bin_geq, bin_add, bin_mul, bin_sub, bin_neq, bin_eql, bin_gtr8, bin_eql8, bin_eqlb, un_not, ofElem, loadAt, storeAt, setCells, AV.cells, boxNew, isCell, List.all, Bool.and_true, Bool.and_self, hlt]
    refine wp_skip (wp_seq (wp_block (wp_seq (wp_reg ?_))))
    have hsl := slice_lo (xs := xs) (i := 32 * n) (by omega)
    have hsl3 := slice_3 (xs := xs) (i := 32 * n) (j := 32 * n + 32) (by omega) (by omega)
    have hmin : ¬ ((256 - 32 * n : Nat) : Int) < 32 := by omega
    have e1 : ((32 * n : Nat) : Int) = 32 * (n : Int) := by omega
    have e2 : ((32 * n + 32 : Nat) : Int) = 32 * (n : Int) + 32 := by omega
    have e3 : 32 * n + 32 - 32 * n = 32 := by omega
    rw [e1] at hsl
    rw [e1, e2, e3] at hsl3
    simp [opsF, viF, viGo, opF, opMov, opPick, opAlloc, opBox, opLd, opSt, opBin, opBinb, opUn, opIa, opLen, opMinmax, opExt, opKill, opSlice, opMkfn, rd, rdAll, rdOpt, get_cons, put_cons, del_cons, get_nil, put_nil, del_nil, List.foldl, setDst, share, shareAll, firm, firm1, firm2, lenOf, nat_of, elems, bin_lss, bin_gtr, bin_geq, bin_add, bin_mul, bin_sub, bin_neq, bin_eql, bin_gtr8, bin_eql8, bin_eqlb, un_not, ofElem, loadAt, storeAt, setCells, AV.cells, boxNew, isCell, List.all, Bool.and_true, Bool.and_self, nums_len, hx, okSl, hsl, foldMM, mm_step, hmin]
    have w1 := w32 (n := n) (by omega)
    refine wp_seq (wp_regO (wo_pre 3 ?_))
    simp [opsF, viF, viGo, opF, opMov, opPick, opAlloc, opBox, opLd, opSt, opBin, opBinb, opUn, opIa, opLen, opMinmax, opExt, opKill, opSlice, opMkfn, rd, rdAll, rdOpt, get_cons, put_cons, del_cons, get_nil, put_nil, del_nil, List.foldl, setDst, share, shareAll, firm, firm1, firm2, lenOf, nat_of, elems, bin_lss, bin_gtr, bin_geq, bin_add, bin_mul, bin_sub, bin_neq, bin_eql, bin_gtr8, bin_eql8, bin_eqlb, un_not, ofElem, loadAt, storeAt, setCells, AV.cells, boxNew, isCell, List.all, Bool.and_true, Bool.and_self]
    refine wo_pre 3 ?_
    simp [opsF, viF, viGo, opF, opMov, opPick, opAlloc, opBox, opLd, opSt, opBin, opBinb, opUn, opIa, opLen, opMinmax, opExt, opKill, opSlice, opMkfn, rd, rdAll, rdOpt, get_cons, put_cons, del_cons, get_nil, put_nil, del_nil, List.foldl, setDst, share, shareAll, firm, firm1, firm2, lenOf, nat_of, elems, bin_lss, bin_gtr, bin_geq, bin_add, bin_mul, bin_sub, bin_neq, bin_eql, bin_gtr8, bin_eql8, bin_eqlb, un_not, ofElem, loadAt, storeAt, setCells, AV.cells, boxNew, isCell, List.all, Bool.and_true, Bool.and_self, w1]
    refine wo_pre 3 ?_
    simp [opsF, viF, viGo, opF, opMov, opPick, opAlloc, opBox, opLd, opSt, opBin, opBinb, opUn, opIa, opLen, opMinmax, opExt, opKill, opSlice, opMkfn, rd, rdAll, rdOpt, get_cons, put_cons, del_cons, get_nil, put_nil, del_nil, List.foldl, setDst, share, shareAll, firm, firm1, firm2, lenOf, nat_of, elems, bin_lss, bin_gtr, bin_geq, bin_add, bin_mul, bin_sub, bin_neq, bin_eql, bin_gtr8, bin_eql8, bin_eqlb, un_not, ofElem, loadAt, storeAt, setCells, AV.cells, boxNew, isCell, List.all, Bool.and_true, Bool.and_self, w1]
    refine wo_pre 1 ?_
    simp [opsF, viF, viGo, opF, opMov, opPick, opAlloc, opBox, opLd, opSt, opBin, opBinb, opUn, opIa, opLen, opMinmax, opExt, opKill, opSlice, opMkfn, rd, rdAll, rdOpt, get_cons, put_cons, del_cons, get_nil, put_nil, del_nil, List.foldl, setDst, share, shareAll, firm, firm1, firm2, lenOf, nat_of, elems, bin_lss, bin_gtr, bin_geq, bin_add, bin_mul, bin_sub, bin_neq, bin_eql, bin_gtr8, bin_eql8, bin_eqlb, un_not, ofElem, loadAt, storeAt, setCells, AV.cells, boxNew, isCell, List.all, Bool.and_true, Bool.and_self, okSl, hsl3]
    refine wo_yield (l := 6) rfl rfl rfl rfl ?_
    refine wp_reg ?_
    simp [opsF, viF, viGo, opF, opMov, opPick, opAlloc, opBox, opLd, opSt, opBin, opBinb, opUn, opIa, opLen, opMinmax, opExt, opKill, opSlice, opMkfn, rd, rdAll, rdOpt, get_cons, put_cons, del_cons, get_nil, put_nil, del_nil, List.foldl, setDst, share, shareAll, firm, firm1, firm2, lenOf, nat_of, elems, bin_lss, bin_gtr, bin_geq, bin_add, bin_mul, bin_sub, bin_neq, bin_eql, bin_gtr8, bin_eql8, bin_eqlb, un_not, ofElem, loadAt, storeAt, setCells, AV.cells, boxNew, isCell, List.all, Bool.and_true, Bool.and_self, snap5]
    have hlen : (chunk xs n).length = 32 := by simp [chunk, hx]; omega
    refine pick_body (xs := xs) (ys := chunk xs n) hlen ((hs.drop _).take _) n (by omega) s h0 h1 _ rfl 7 _ _ ?_ ?_
    · intro ht e
      refine ⟨rfl, wo_pure ?_⟩
      simp [opsF, viF, viGo, opF, opMov, opPick, opAlloc, opBox, opLd, opSt, opBin, opBinb, opUn, opIa, opLen, opMinmax, opExt, opKill, opSlice, opMkfn, rd, rdAll, rdOpt, get_cons, put_cons, del_cons, get_nil, put_nil, del_nil, List.foldl, setDst, share, shareAll, firm, firm1, firm2, lenOf, nat_of, elems, bin_lss, bin_gtr, bin_geq, bin_add, bin_mul, bin_sub, bin_neq, bin_eql, bin_gtr8, bin_eql8, bin_eqlb, un_not, ofElem, loadAt, storeAt, setCells, AV.cells, boxNew, isCell, List.all, Bool.and_true, Bool.and_self, heap5, isN, pendOf]
      refine wp_cond ?_
      simp [opsF, viF, viGo, opF, opMov, opPick, opAlloc, opBox, opLd, opSt, opBin, opBinb, opUn, opIa, opLen, opMinmax, opExt, opKill, opSlice, opMkfn, rd, rdAll, rdOpt, get_cons, put_cons, del_cons, get_nil, put_nil, del_nil, List.foldl, setDst, share, shareAll, firm, firm1, firm2, lenOf, nat_of, elems, bin_lss, bin_gtr, bin_geq, bin_add, bin_mul, bin_sub, bin_neq, bin_eql, bin_gtr8, bin_eql8, bin_eqlb, un_not, ofElem, loadAt, storeAt, setCells, AV.cells, boxNew, isCell, List.all, Bool.and_true, Bool.and_self]
      refine wp_seq (wp_reg ?_)
      simp [opsF, viF, viGo, opF, opMov, opPick, opAlloc, opBox, opLd, opSt, opBin, opBinb, opUn, opIa, opLen, opMinmax, opExt, opKill, opSlice, opMkfn, rd, rdAll, rdOpt, get_cons, put_cons, del_cons, get_nil, put_nil, del_nil, List.foldl, setDst, share, shareAll, firm, firm1, firm2, lenOf, nat_of, elems, bin_lss, bin_gtr, bin_geq, bin_add, bin_mul, bin_sub, bin_neq, bin_eql, bin_gtr8, bin_eql8, bin_eqlb, un_not, ofElem, loadAt, storeAt, setCells, AV.cells, boxNew, isCell, List.all, Bool.and_true, Bool.and_self]
      refine wp_ret ?_
      have := hr (by simp only [loud, ht, Bool.true_or]) s n
      simp only [heap5, snap5] at this
      exact this _
    · intro hf e
      refine ⟨rfl, wo_pure ?_⟩
      simp [opsF, viF, viGo, opF, opMov, opPick, opAlloc, opBox, opLd, opSt, opBin, opBinb, opUn, opIa, opLen, opMinmax, opExt, opKill, opSlice, opMkfn, rd, rdAll, rdOpt, get_cons, put_cons, del_cons, get_nil, put_nil, del_nil, List.foldl, setDst, share, shareAll, firm, firm1, firm2, lenOf, nat_of, elems, bin_lss, bin_gtr, bin_geq, bin_add, bin_mul, bin_sub, bin_neq, bin_eql, bin_gtr8, bin_eql8, bin_eqlb, un_not, ofElem, loadAt, storeAt, setCells, AV.cells, boxNew, isCell, List.all, Bool.and_true, Bool.and_self, heap5, isN, pendOf]
      refine wp_cond ?_
      simp [opsF, viF, viGo, opF, opMov, opPick, opAlloc, opBox, opLd, opSt, opBin, opBinb, opUn, opIa, opLen, opMinmax, opExt, opKill, opSlice, opMkfn, rd, rdAll, rdOpt, get_cons, put_cons, del_cons, get_nil, put_nil, del_nil, List.foldl, setDst, share, shareAll, firm, firm1, firm2, lenOf, nat_of, elems, bin_lss, bin_gtr, bin_geq, bin_add, bin_mul, bin_sub, bin_neq, bin_eql, bin_gtr8, bin_eql8, bin_eqlb, un_not, ofElem, loadAt, storeAt, setCells, AV.cells, boxNew, isCell, List.all, Bool.and_true, Bool.and_self]
      refine wp_skip (wp_reg ?_)
      simp [opsF, viF, viGo, opF, opMov, opPick, opAlloc, opBox, opLd, opSt, opBin, opBinb, opUn, opIa, opLen, opMinmax, opExt, opKill, opSlice, opMkfn, rd, rdAll, rdOpt, get_cons, put_cons, del_cons, get_nil, put_nil, del_nil, List.foldl, setDst, share, shareAll, firm, firm1, firm2, lenOf, nat_of, elems, bin_lss, bin_gtr, bin_geq, bin_add, bin_mul, bin_sub, bin_neq, bin_eql, bin_gtr8, bin_eql8, bin_eqlb, un_not, ofElem, loadAt, storeAt, setCells, AV.cells, boxNew, isCell, List.all, Bool.and_true, Bool.and_self, w1]
      simp only [loud, hf, Bool.false_or] at hq hr
      have := ih (n + 1) (s + sqs (chunk xs n)) (by omega) (Int.add_nonneg h0 (chunk_small hs n).1) (by
        change s + sqs (chunk xs n) ≤ ((n : Int) + 1) * 34359738368
        rw [Int.add_mul, Int.one_mul]
        exact Int.add_le_add h1 (chunk_small hs n).2) hq hr
      have e4 : 32 * ((n + 1 : Nat) : Int) = 32 * (n : Int) + 32 := by omega
      rw [e4] at this
      exact this
end Go.Vm

/-
  PickSees: both answers.
-/
namespace Go.Vm
theorem mm_min (a : Int) : ∀ (l : List Int) (m : Int), mm false m l < a ↔ m < a ∨ ∃ y, y ∈ l ∧ y < a
  | [], m => by
    unfold mm
    constructor
    · exact .inl
    · rintro (h | ⟨y, hy, _⟩)
      · exact h
      · cases hy
  | x :: r, m => by
    unfold mm
    rw [mm_min a r]
    simp only [Bool.false_eq_true, if_false, decide_eq_true_eq, List.mem_cons]
    constructor
    · rintro (h | ⟨y, hy, h⟩)
      · split at h
        · exact .inr ⟨x, .inl rfl, h⟩
        · exact .inl h
      · exact .inr ⟨y, .inr hy, h⟩
    · rintro (h | ⟨y, rfl | hy, h⟩)
      · left; split <;> omega
      · left; split <;> omega
      · exact .inr ⟨y, hy, h⟩
theorem mm_max (a : Int) : ∀ (l : List Int) (m : Int), a ≤ mm true m l ↔ a ≤ m ∨ ∃ y, y ∈ l ∧ a ≤ y
  | [], m => by
    unfold mm
    constructor
    · exact .inl
    · rintro (h | ⟨y, hy, _⟩)
      · exact h
      · cases hy
  | x :: r, m => by
    unfold mm
    rw [mm_max a r]
    simp only [if_true, decide_eq_true_eq, List.mem_cons]
    constructor
    · rintro (h | ⟨y, hy, h⟩)
      · split at h
        · exact .inr ⟨x, .inl rfl, h⟩
        · exact .inl h
      · exact .inr ⟨y, .inr hy, h⟩
    · rintro (h | ⟨y, rfl | hy, h⟩)
      · left; split <;> omega
      · left; split <;> omega
      · exact .inr ⟨y, hy, h⟩
theorem inR_iff (a b : Int) : ∀ (l : List Int), inR a b l = true ↔ ∀ y, y ∈ l → a ≤ y ∧ y ≤ b
  | [] => by simp [inR]
  | x :: r => by
    rw [inR_cons, Bool.and_eq_true, inR_iff a b r]
    simp only [Bool.not_eq_true', Bool.or_eq_false_iff, decide_eq_false_iff_not, List.mem_cons]
    constructor
    · rintro ⟨h, k⟩ y (rfl | hy)
      · omega
      · exact k y hy
    · intro h
      have := h x (.inl rfl)
      exact ⟨by omega, fun y hy => h y (.inr hy)⟩
theorem small_of_inR {xs : List Int} (h : inR (-32768) 32767 xs = true) : Small xs := fun x hx => (inR_iff _ _ _).1 h x hx
theorem inR_low {x : Int} {r : List Int} (h : mm false x r < -32768) : inR (-32768) 32767 (x :: r) = false := by
  cases hh : inR (-32768) 32767 (x :: r) with
  | false => rfl
  | true =>
    have k := (inR_iff _ _ _).1 hh
    rcases (mm_min _ _ _).1 h with h | ⟨y, hy, h⟩
    · have := k x (.head _); omega
    · have := k y (.tail _ hy); omega
theorem inR_high {x : Int} {r : List Int} (h : 32768 ≤ mm true x r) : inR (-32768) 32767 (x :: r) = false := by
  cases hh : inR (-32768) 32767 (x :: r) with
  | false => rfl
  | true =>
    have k := (inR_iff _ _ _).1 hh
    rcases (mm_max _ _ _).1 h with h | ⟨y, hy, h⟩
    · have := k x (.head _); omega
    · have := k y (.tail _ hy); omega
theorem inR_ok {x : Int} {r : List Int} (h : ¬ mm false x r < -32768) (h2 : ¬ 32768 ≤ mm true x r) : inR (-32768) 32767 (x :: r) = true := by
  rw [mm_min] at h
  rw [mm_max] at h2
  refine (inR_iff _ _ _).2 fun y hy => ?_
  have k1 : ¬ y < -32768 := fun k => h (by
    rcases List.mem_cons.1 hy with rfl | hy
    · exact .inl k
    · exact .inr ⟨y, hy, k⟩)
  have k2 : ¬ 32768 ≤ y := fun k => h2 (by
    rcases List.mem_cons.1 hy with rfl | hy
    · exact .inl k
    · exact .inr ⟨y, hy, k⟩)
  omega
/-- What Attack answers. -/
def attackOf (xs : List Int) : AV :=
  if xs.length ≠ 256 then .tup [.bool false, .int .i64 4] else if inR (-32768) 32767 xs = false then .tup [.bool false, .int .i64 2] else .tup [.bool (loud xs 8 0 0), .int .i64 0]
theorem call6 {xs : List Int} (hx : xs.length ≤ 1000) : EvP prog 6 [.d (.lst (nums xs))] (attackOf xs) := by
  refine evp_wp rfl rfl ?_
  simp only [c6, mkEnv]
  refine wp_seq (wp_reg ?_)
  simp [opsF, viF, viGo, opF, opMov, opPick, opAlloc, opBox, opLd, opSt, opBin, opBinb, opUn, opIa, opLen, opMinmax, opExt, opKill, opSlice, opMkfn, rd, rdAll, rdOpt, get_cons, put_cons, del_cons, get_nil, put_nil, del_nil, List.foldl, setDst, share, shareAll, firm, firm1, firm2, lenOf, nat_of, elems, bin_lss, bin_gtr, bin_geq, bin_add, bin_mul, bin_sub, bin_neq, bin_eql, bin_gtr8, bin_eql8, bin_eqlb, un_not, ofElem, loadAt, storeAt, setCells, AV.cells, boxNew, isCell, List.all, Bool.and_true, Bool.and_self]
  refine wp_seq (wp_seq (wp_reg ?_))
  simp [opsF, viF, viGo, opF, opMov, opPick, opAlloc, opBox, opLd, opSt, opBin, opBinb, opUn, opIa, opLen, opMinmax, opExt, opKill, opSlice, opMkfn, rd, rdAll, rdOpt, get_cons, put_cons, del_cons, get_nil, put_nil, del_nil, List.foldl, setDst, share, shareAll, firm, firm1, firm2, lenOf, nat_of, elems, bin_lss, bin_gtr, bin_geq, bin_add, bin_mul, bin_sub, bin_neq, bin_eql, bin_gtr8, bin_eql8, bin_eqlb, un_not, ofElem, loadAt, storeAt, setCells, AV.cells, boxNew, isCell, List.all, Bool.and_true, Bool.and_self, nums_len]
  refine wp_cond ?_
  by_cases h1 : (xs.length : Int) = 256
  · simp [opsF, viF, viGo, opF, opMov, opPick, opAlloc, opBox, opLd, opSt, opBin, opBinb, opUn, opIa, opLen, opMinmax, opExt, opKill, opSlice, opMkfn, rd, rdAll, rdOpt, get_cons, put_cons, del_cons, get_nil, put_nil, del_nil, List.foldl, setDst, share, shareAll, firm, firm1, firm2, lenOf, nat_of, elems, bin_lss, bin_gtr, bin_geq, bin_add, bin_mul, bin_sub, bin_neq, bin_eql, bin_gtr8, bin_eql8, bin_eqlb, un_not, ofElem, loadAt, storeAt, setCells, AV.cells, boxNew, isCell, List.all, Bool.and_true, Bool.and_self, h1]
    refine wp_skip (wp_seq (wp_seq (wp_regO (wo_pre 1 ?_))))
    simp [opsF, viF, viGo, opF, opMov, opPick, opAlloc, opBox, opLd, opSt, opBin, opBinb, opUn, opIa, opLen, opMinmax, opExt, opKill, opSlice, opMkfn, rd, rdAll, rdOpt, get_cons, put_cons, del_cons, get_nil, put_nil, del_nil, List.foldl, setDst, share, shareAll, firm, firm1, firm2, lenOf, nat_of, elems, bin_lss, bin_gtr, bin_geq, bin_add, bin_mul, bin_sub, bin_neq, bin_eql, bin_gtr8, bin_eql8, bin_eqlb, un_not, ofElem, loadAt, storeAt, setCells, AV.cells, boxNew, isCell, List.all, Bool.and_true, Bool.and_self]
    refine wo_call (v := .bool (inR (-32768) 32767 xs)) (fun _ => rfl) ⟨_, _, _, rfl, rfl, rfl, call17 _ _ hx, wo_pure ?_⟩
    simp [opsF, viF, viGo, opF, opMov, opPick, opAlloc, opBox, opLd, opSt, opBin, opBinb, opUn, opIa, opLen, opMinmax, opExt, opKill, opSlice, opMkfn, rd, rdAll, rdOpt, get_cons, put_cons, del_cons, get_nil, put_nil, del_nil, List.foldl, setDst, share, shareAll, firm, firm1, firm2, lenOf, nat_of, elems, bin_lss, bin_gtr, bin_geq, bin_add, bin_mul, bin_sub, bin_neq, bin_eql, bin_gtr8, bin_eql8, bin_eqlb, un_not, ofElem, loadAt, storeAt, setCells, AV.cells, boxNew, isCell, List.all, Bool.and_true, Bool.and_self]
    refine wp_cond ?_
    cases h2 : inR (-32768) 32767 xs with
    | false =>
      simp [opsF, viF, viGo, opF, opMov, opPick, opAlloc, opBox, opLd, opSt, opBin, opBinb, opUn, opIa, opLen, opMinmax, opExt, opKill, opSlice, opMkfn, rd, rdAll, rdOpt, get_cons, put_cons, del_cons, get_nil, put_nil, del_nil, List.foldl, setDst, share, shareAll, firm, firm1, firm2, lenOf, nat_of, elems, bin_lss, bin_gtr, bin_geq, bin_add, bin_mul, bin_sub, bin_neq, bin_eql, bin_gtr8, bin_eql8, bin_eqlb, un_not, ofElem, loadAt, storeAt, setCells, AV.cells, boxNew, isCell, List.all, Bool.and_true, Bool.and_self]
      refine wp_seq (wp_reg ?_)
      simp [opsF, viF, viGo, opF, opMov, opPick, opAlloc, opBox, opLd, opSt, opBin, opBinb, opUn, opIa, opLen, opMinmax, opExt, opKill, opSlice, opMkfn, rd, rdAll, rdOpt, get_cons, put_cons, del_cons, get_nil, put_nil, del_nil, List.foldl, setDst, share, shareAll, firm, firm1, firm2, lenOf, nat_of, elems, bin_lss, bin_gtr, bin_geq, bin_add, bin_mul, bin_sub, bin_neq, bin_eql, bin_gtr8, bin_eql8, bin_eqlb, un_not, ofElem, loadAt, storeAt, setCells, AV.cells, boxNew, isCell, List.all, Bool.and_true, Bool.and_self]
      refine wp_seq (wp_reg ?_)
      simp [opsF, viF, viGo, opF, opMov, opPick, opAlloc, opBox, opLd, opSt, opBin, opBinb, opUn, opIa, opLen, opMinmax, opExt, opKill, opSlice, opMkfn, rd, rdAll, rdOpt, get_cons, put_cons, del_cons, get_nil, put_nil, del_nil, List.foldl, setDst, share, shareAll, firm, firm1, firm2, lenOf, nat_of, elems, bin_lss, bin_gtr, bin_geq, bin_add, bin_mul, bin_sub, bin_neq, bin_eql, bin_gtr8, bin_eql8, bin_eqlb, un_not, ofElem, loadAt, storeAt, setCells, AV.cells, boxNew, isCell, List.all, Bool.and_true, Bool.and_self]
      refine wp_ret ?_
      have h3 : xs.length = 256 := by omega
      simp [endF, takeRes, get_cons, del_cons, attackOf, h2, h3]
    | true =>
      have h3 : xs.length = 256 := by omega
      simp [opsF, viF, viGo, opF, opMov, opPick, opAlloc, opBox, opLd, opSt, opBin, opBinb, opUn, opIa, opLen, opMinmax, opExt, opKill, opSlice, opMkfn, rd, rdAll, rdOpt, get_cons, put_cons, del_cons, get_nil, put_nil, del_nil, List.foldl, setDst, share, shareAll, firm, firm1, firm2, lenOf, nat_of, elems, bin_lss, bin_gtr, bin_geq, bin_add, bin_mul, bin_sub, bin_neq, bin_eql, bin_gtr8, bin_eql8, bin_eqlb, un_not, ofElem, loadAt, storeAt, setCells, AV.cells, boxNew, isCell, List.all, Bool.and_true, Bool.and_self]
      refine wp_skip (wp_seq (wp_regO (wo_pre 1 ?_)))
      simp [opsF, viF, viGo, opF, opMov, opPick, opAlloc, opBox, opLd, opSt, opBin, opBinb, opUn, opIa, opLen, opMinmax, opExt, opKill, opSlice, opMkfn, rd, rdAll, rdOpt, get_cons, put_cons, del_cons, get_nil, put_nil, del_nil, List.foldl, setDst, share, shareAll, firm, firm1, firm2, lenOf, nat_of, elems, bin_lss, bin_gtr, bin_geq, bin_add, bin_mul, bin_sub, bin_neq, bin_eql, bin_gtr8, bin_eql8, bin_eqlb, un_not, ofElem, loadAt, storeAt, setCells, AV.cells, boxNew, isCell, List.all, Bool.and_true, Bool.and_self]
      refine wo_call (v := .bool (loud xs 8 0 0)) (fun _ => rfl) ⟨_, _, _, rfl, rfl, rfl, call18 h3 (small_of_inR h2), wo_pure ?_⟩
      simp [opsF, viF, viGo, opF, opMov, opPick, opAlloc, opBox, opLd, opSt, opBin, opBinb, opUn, opIa, opLen, opMinmax, opExt, opKill, opSlice, opMkfn, rd, rdAll, rdOpt, get_cons, put_cons, del_cons, get_nil, put_nil, del_nil, List.foldl, setDst, share, shareAll, firm, firm1, firm2, lenOf, nat_of, elems, bin_lss, bin_gtr, bin_geq, bin_add, bin_mul, bin_sub, bin_neq, bin_eql, bin_gtr8, bin_eql8, bin_eqlb, un_not, ofElem, loadAt, storeAt, setCells, AV.cells, boxNew, isCell, List.all, Bool.and_true, Bool.and_self]
      refine wp_ret ?_
      simp [endF, takeRes, get_cons, del_cons, attackOf, h2, h3]
  · simp [opsF, viF, viGo, opF, opMov, opPick, opAlloc, opBox, opLd, opSt, opBin, opBinb, opUn, opIa, opLen, opMinmax, opExt, opKill, opSlice, opMkfn, rd, rdAll, rdOpt, get_cons, put_cons, del_cons, get_nil, put_nil, del_nil, List.foldl, setDst, share, shareAll, firm, firm1, firm2, lenOf, nat_of, elems, bin_lss, bin_gtr, bin_geq, bin_add, bin_mul, bin_sub, bin_neq, bin_eql, bin_gtr8, bin_eql8, bin_eqlb, un_not, ofElem, loadAt, storeAt, setCells, AV.cells, boxNew, isCell, List.all, Bool.and_true, Bool.and_self, h1]
    refine wp_seq (wp_reg ?_)
    simp [opsF, viF, viGo, opF, opMov, opPick, opAlloc, opBox, opLd, opSt, opBin, opBinb, opUn, opIa, opLen, opMinmax, opExt, opKill, opSlice, opMkfn, rd, rdAll, rdOpt, get_cons, put_cons, del_cons, get_nil, put_nil, del_nil, List.foldl, setDst, share, shareAll, firm, firm1, firm2, lenOf, nat_of, elems, bin_lss, bin_gtr, bin_geq, bin_add, bin_mul, bin_sub, bin_neq, bin_eql, bin_gtr8, bin_eql8, bin_eqlb, un_not, ofElem, loadAt, storeAt, setCells, AV.cells, boxNew, isCell, List.all, Bool.and_true, Bool.and_self]
    refine wp_seq (wp_reg ?_)
    simp [opsF, viF, viGo, opF, opMov, opPick, opAlloc, opBox, opLd, opSt, opBin, opBinb, opUn, opIa, opLen, opMinmax, opExt, opKill, opSlice, opMkfn, rd, rdAll, rdOpt, get_cons, put_cons, del_cons, get_nil, put_nil, del_nil, List.foldl, setDst, share, shareAll, firm, firm1, firm2, lenOf, nat_of, elems, bin_lss, bin_gtr, bin_geq, bin_add, bin_mul, bin_sub, bin_neq, bin_eql, bin_gtr8, bin_eql8, bin_eqlb, un_not, ofElem, loadAt, storeAt, setCells, AV.cells, boxNew, isCell, List.all, Bool.and_true, Bool.and_self]
    refine wp_ret ?_
    have h3 : xs.length ≠ 256 := by omega
    simp [endF, takeRes, get_cons, del_cons, attackOf, h3]
theorem call5 {xs : List Int} (hx : xs.length ≤ 1000) : EvP prog 5 [.d (.lst (nums xs))] (attackOf xs) := by
  refine evp_wp rfl rfl ?_
  simp only [c5, mkEnv]
  refine wp_seq (wp_reg ?_)
  simp [opsF, viF, viGo, opF, opMov, opPick, opAlloc, opBox, opLd, opSt, opBin, opBinb, opUn, opIa, opLen, opMinmax, opExt, opKill, opSlice, opMkfn, rd, rdAll, rdOpt, get_cons, put_cons, del_cons, get_nil, put_nil, del_nil, List.foldl, setDst, share, shareAll, firm, firm1, firm2, lenOf, nat_of, elems, bin_lss, bin_gtr, bin_geq, bin_add, bin_mul, bin_sub, bin_neq, bin_eql, bin_gtr8, bin_eql8, bin_eqlb, un_not, ofElem, loadAt, storeAt, setCells, AV.cells, boxNew, isCell, List.all, Bool.and_true, Bool.and_self]
  refine wp_seq (wp_seq (wp_reg ?_))
  simp [opsF, viF, viGo, opF, opMov, opPick, opAlloc, opBox, opLd, opSt, opBin, opBinb, opUn, opIa, opLen, opMinmax, opExt, opKill, opSlice, opMkfn, rd, rdAll, rdOpt, get_cons, put_cons, del_cons, get_nil, put_nil, del_nil, List.foldl, setDst, share, shareAll, firm, firm1, firm2, lenOf, nat_of, elems, bin_lss, bin_gtr, bin_geq, bin_add, bin_mul, bin_sub, bin_neq, bin_eql, bin_gtr8, bin_eql8, bin_eqlb, un_not, ofElem, loadAt, storeAt, setCells, AV.cells, boxNew, isCell, List.all, Bool.and_true, Bool.and_self, nums_len]
  refine wp_cond ?_
  by_cases h1 : (xs.length : Int) = 256
  · have h3 : xs.length = 256 := by omega
    simp [opsF, viF, viGo, opF, opMov, opPick, opAlloc, opBox, opLd, opSt, opBin, opBinb, opUn, opIa, opLen, opMinmax, opExt, opKill, opSlice, opMkfn, rd, rdAll, rdOpt, get_cons, put_cons, del_cons, get_nil, put_nil, del_nil, List.foldl, setDst, share, shareAll, firm, firm1, firm2, lenOf, nat_of, elems, bin_lss, bin_gtr, bin_geq, bin_add, bin_mul, bin_sub, bin_neq, bin_eql, bin_gtr8, bin_eql8, bin_eqlb, un_not, ofElem, loadAt, storeAt, setCells, AV.cells, boxNew, isCell, List.all, Bool.and_true, Bool.and_self, h1]
    obtain ⟨x, r, rfl⟩ : ∃ x r, xs = x :: r := by
      cases xs with
      | nil => simp at h3
      | cons x r => exact ⟨x, r, rfl⟩
    have hr : r.length < 1000 := by simp at h3; omega
    refine wp_skip (wp_seq (wp_seq (wp_regO (wo_pre 1 ?_))))
    simp [opsF, viF, viGo, opF, opMov, opPick, opAlloc, opBox, opLd, opSt, opBin, opBinb, opUn, opIa, opLen, opMinmax, opExt, opKill, opSlice, opMkfn, rd, rdAll, rdOpt, get_cons, put_cons, del_cons, get_nil, put_nil, del_nil, List.foldl, setDst, share, shareAll, firm, firm1, firm2, lenOf, nat_of, elems, bin_lss, bin_gtr, bin_geq, bin_add, bin_mul, bin_sub, bin_neq, bin_eql, bin_gtr8, bin_eql8, bin_eqlb, un_not, ofElem, loadAt, storeAt, setCells, AV.cells, boxNew, isCell, List.all, Bool.and_true, Bool.and_self]
    refine wo_call (v := .int .i64 (mm false x r)) (fun _ => rfl) ⟨_, _, _, rfl, rfl, rfl, call14 hr, ?_⟩
    by_cases hlo : mm false x r < -32768
    · have hmm := inR_low hlo
      refine wo_pure ?_
      simp [opsF, viF, viGo, opF, opMov, opPick, opAlloc, opBox, opLd, opSt, opBin, opBinb, opUn, opIa, opLen, opMinmax, opExt, opKill, opSlice, opMkfn, rd, rdAll, rdOpt, get_cons, put_cons, del_cons, get_nil, put_nil, del_nil, List.foldl, setDst, share, shareAll, firm, firm1, firm2, lenOf, nat_of, elems, bin_lss, bin_gtr, bin_geq, bin_add, bin_mul, bin_sub, bin_neq, bin_eql, bin_gtr8, bin_eql8, bin_eqlb, un_not, ofElem, loadAt, storeAt, setCells, AV.cells, boxNew, isCell, List.all, Bool.and_true, Bool.and_self, hlo]
      refine wp_cond ?_
      simp [opsF, viF, viGo, opF, opMov, opPick, opAlloc, opBox, opLd, opSt, opBin, opBinb, opUn, opIa, opLen, opMinmax, opExt, opKill, opSlice, opMkfn, rd, rdAll, rdOpt, get_cons, put_cons, del_cons, get_nil, put_nil, del_nil, List.foldl, setDst, share, shareAll, firm, firm1, firm2, lenOf, nat_of, elems, bin_lss, bin_gtr, bin_geq, bin_add, bin_mul, bin_sub, bin_neq, bin_eql, bin_gtr8, bin_eql8, bin_eqlb, un_not, ofElem, loadAt, storeAt, setCells, AV.cells, boxNew, isCell, List.all, Bool.and_true, Bool.and_self]
      refine wp_seq (wp_reg ?_)
      simp [opsF, viF, viGo, opF, opMov, opPick, opAlloc, opBox, opLd, opSt, opBin, opBinb, opUn, opIa, opLen, opMinmax, opExt, opKill, opSlice, opMkfn, rd, rdAll, rdOpt, get_cons, put_cons, del_cons, get_nil, put_nil, del_nil, List.foldl, setDst, share, shareAll, firm, firm1, firm2, lenOf, nat_of, elems, bin_lss, bin_gtr, bin_geq, bin_add, bin_mul, bin_sub, bin_neq, bin_eql, bin_gtr8, bin_eql8, bin_eqlb, un_not, ofElem, loadAt, storeAt, setCells, AV.cells, boxNew, isCell, List.all, Bool.and_true, Bool.and_self]
      refine wp_seq (wp_reg ?_)
      simp [opsF, viF, viGo, opF, opMov, opPick, opAlloc, opBox, opLd, opSt, opBin, opBinb, opUn, opIa, opLen, opMinmax, opExt, opKill, opSlice, opMkfn, rd, rdAll, rdOpt, get_cons, put_cons, del_cons, get_nil, put_nil, del_nil, List.foldl, setDst, share, shareAll, firm, firm1, firm2, lenOf, nat_of, elems, bin_lss, bin_gtr, bin_geq, bin_add, bin_mul, bin_sub, bin_neq, bin_eql, bin_gtr8, bin_eql8, bin_eqlb, un_not, ofElem, loadAt, storeAt, setCells, AV.cells, boxNew, isCell, List.all, Bool.and_true, Bool.and_self]
      refine wp_ret ?_
      simp only [attackOf, hmm, h3]
      simp [endF, takeRes, loadAt, takes, get_cons, del_cons, put_cons]
    · refine wo_pre 3 ?_
      simp [opsF, viF, viGo, opF, opMov, opPick, opAlloc, opBox, opLd, opSt, opBin, opBinb, opUn, opIa, opLen, opMinmax, opExt, opKill, opSlice, opMkfn, rd, rdAll, rdOpt, get_cons, put_cons, del_cons, get_nil, put_nil, del_nil, List.foldl, setDst, share, shareAll, firm, firm1, firm2, lenOf, nat_of, elems, bin_lss, bin_gtr, bin_geq, bin_add, bin_mul, bin_sub, bin_neq, bin_eql, bin_gtr8, bin_eql8, bin_eqlb, un_not, ofElem, loadAt, storeAt, setCells, AV.cells, boxNew, isCell, List.all, Bool.and_true, Bool.and_self, hlo]
      refine wo_call_g (v := .int .i64 (mm true x r)) (fun _ => rfl) ⟨rfl, _, _, _, rfl, rfl, rfl, call15 hr, wo_pure ?_⟩
      by_cases hhi : 32768 ≤ mm true x r
      · have hmm := inR_high hhi
        simp [opsF, viF, viGo, opF, opMov, opPick, opAlloc, opBox, opLd, opSt, opBin, opBinb, opUn, opIa, opLen, opMinmax, opExt, opKill, opSlice, opMkfn, rd, rdAll, rdOpt, get_cons, put_cons, del_cons, get_nil, put_nil, del_nil, List.foldl, setDst, share, shareAll, firm, firm1, firm2, lenOf, nat_of, elems, bin_lss, bin_gtr, bin_geq, bin_add, bin_mul, bin_sub, bin_neq, bin_eql, bin_gtr8, bin_eql8, bin_eqlb, un_not, ofElem, loadAt, storeAt, setCells, AV.cells, boxNew, isCell, List.all, Bool.and_true, Bool.and_self, hhi]
        refine wp_cond ?_
        simp [opsF, viF, viGo, opF, opMov, opPick, opAlloc, opBox, opLd, opSt, opBin, opBinb, opUn, opIa, opLen, opMinmax, opExt, opKill, opSlice, opMkfn, rd, rdAll, rdOpt, get_cons, put_cons, del_cons, get_nil, put_nil, del_nil, List.foldl, setDst, share, shareAll, firm, firm1, firm2, lenOf, nat_of, elems, bin_lss, bin_gtr, bin_geq, bin_add, bin_mul, bin_sub, bin_neq, bin_eql, bin_gtr8, bin_eql8, bin_eqlb, un_not, ofElem, loadAt, storeAt, setCells, AV.cells, boxNew, isCell, List.all, Bool.and_true, Bool.and_self]
        refine wp_seq (wp_reg ?_)
        simp [opsF, viF, viGo, opF, opMov, opPick, opAlloc, opBox, opLd, opSt, opBin, opBinb, opUn, opIa, opLen, opMinmax, opExt, opKill, opSlice, opMkfn, rd, rdAll, rdOpt, get_cons, put_cons, del_cons, get_nil, put_nil, del_nil, List.foldl, setDst, share, shareAll, firm, firm1, firm2, lenOf, nat_of, elems, bin_lss, bin_gtr, bin_geq, bin_add, bin_mul, bin_sub, bin_neq, bin_eql, bin_gtr8, bin_eql8, bin_eqlb, un_not, ofElem, loadAt, storeAt, setCells, AV.cells, boxNew, isCell, List.all, Bool.and_true, Bool.and_self]
        refine wp_seq (wp_reg ?_)
        simp [opsF, viF, viGo, opF, opMov, opPick, opAlloc, opBox, opLd, opSt, opBin, opBinb, opUn, opIa, opLen, opMinmax, opExt, opKill, opSlice, opMkfn, rd, rdAll, rdOpt, get_cons, put_cons, del_cons, get_nil, put_nil, del_nil, List.foldl, setDst, share, shareAll, firm, firm1, firm2, lenOf, nat_of, elems, bin_lss, bin_gtr, bin_geq, bin_add, bin_mul, bin_sub, bin_neq, bin_eql, bin_gtr8, bin_eql8, bin_eqlb, un_not, ofElem, loadAt, storeAt, setCells, AV.cells, boxNew, isCell, List.all, Bool.and_true, Bool.and_self]
        refine wp_ret ?_
        simp only [attackOf, hmm, h3]
        simp [endF, takeRes, loadAt, takes, get_cons, del_cons, put_cons]
      · have hmm := inR_ok hlo hhi
        have hs := small_of_inR hmm
        simp [opsF, viF, viGo, opF, opMov, opPick, opAlloc, opBox, opLd, opSt, opBin, opBinb, opUn, opIa, opLen, opMinmax, opExt, opKill, opSlice, opMkfn, rd, rdAll, rdOpt, get_cons, put_cons, del_cons, get_nil, put_nil, del_nil, List.foldl, setDst, share, shareAll, firm, firm1, firm2, lenOf, nat_of, elems, bin_lss, bin_gtr, bin_geq, bin_add, bin_mul, bin_sub, bin_neq, bin_eql, bin_gtr8, bin_eql8, bin_eqlb, un_not, ofElem, loadAt, storeAt, setCells, AV.cells, boxNew, isCell, List.all, Bool.and_true, Bool.and_self, hhi]
        refine wp_cond ?_
        simp [opsF, viF, viGo, opF, opMov, opPick, opAlloc, opBox, opLd, opSt, opBin, opBinb, opUn, opIa, opLen, opMinmax, opExt, opKill, opSlice, opMkfn, rd, rdAll, rdOpt, get_cons, put_cons, del_cons, get_nil, put_nil, del_nil, List.foldl, setDst, share, shareAll, firm, firm1, firm2, lenOf, nat_of, elems, bin_lss, bin_gtr, bin_geq, bin_add, bin_mul, bin_sub, bin_neq, bin_eql, bin_gtr8, bin_eql8, bin_eqlb, un_not, ofElem, loadAt, storeAt, setCells, AV.cells, boxNew, isCell, List.all, Bool.and_true, Bool.and_self]
        generalize hxs : x :: r = xs at h3 hmm hs ⊢
        clear hxs hlo hhi hr hx h1
        refine wp_skip (wp_seq (wp_reg ?_))
        simp [opsF, viF, viGo, opF, opMov, opPick, opAlloc, opBox, opLd, opSt, opBin, opBinb, opUn, opIa, opLen, opMinmax, opExt, opKill, opSlice, opMkfn, rd, rdAll, rdOpt, get_cons, put_cons, del_cons, get_nil, put_nil, del_nil, List.foldl, setDst, share, shareAll, firm, firm1, firm2, lenOf, nat_of, elems, bin_lss, bin_gtr, bin_geq, bin_add, bin_mul, bin_sub, bin_neq, bin_eql, bin_gtr8, bin_eql8, bin_eqlb, un_not, ofElem, loadAt, storeAt, setCells, AV.cells, boxNew, isCell, List.all, Bool.and_true, Bool.and_self]
        refine wp_seq (wp_seq (wp_regO (wo_pre 1 ?_)))
        simp [opsF, viF, viGo, opF, opMov, opPick, opAlloc, opBox, opLd, opSt, opBin, opBinb, opUn, opIa, opLen, opMinmax, opExt, opKill, opSlice, opMkfn, rd, rdAll, rdOpt, get_cons, put_cons, del_cons, get_nil, put_nil, del_nil, List.foldl, setDst, share, shareAll, firm, firm1, firm2, lenOf, nat_of, elems, bin_lss, bin_gtr, bin_geq, bin_add, bin_mul, bin_sub, bin_neq, bin_eql, bin_gtr8, bin_eql8, bin_eqlb, un_not, ofElem, loadAt, storeAt, setCells, AV.cells, boxNew, isCell, List.all, Bool.and_true, Bool.and_self]
        refine wo_calli rfl rfl rfl ?_
        simp only [c16, mkEnv]
        refine wp_seq (wp_reg ?_)
        simp [opsF, viF, viGo, opF, opMov, opPick, opAlloc, opBox, opLd, opSt, opBin, opBinb, opUn, opIa, opLen, opMinmax, opExt, opKill, opSlice, opMkfn, rd, rdAll, rdOpt, get_cons, put_cons, del_cons, get_nil, put_nil, del_nil, List.foldl, setDst, share, shareAll, firm, firm1, firm2, lenOf, nat_of, elems, bin_lss, bin_gtr, bin_geq, bin_add, bin_mul, bin_sub, bin_neq, bin_eql, bin_gtr8, bin_eql8, bin_eqlb, un_not, ofElem, loadAt, storeAt, setCells, AV.cells, boxNew, isCell, List.all, Bool.and_true, Bool.and_self]
        refine wp_seq (wp_seq (wp_reg ?_))
        simp [opsF, viF, viGo, opF, opMov, opPick, opAlloc, opBox, opLd, opSt, opBin, opBinb, opUn, opIa, opLen, opMinmax, opExt, opKill, opSlice, opMkfn, rd, rdAll, rdOpt, get_cons, put_cons, del_cons, get_nil, put_nil, del_nil, List.foldl, setDst, share, shareAll, firm, firm1, firm2, lenOf, nat_of, elems, bin_lss, bin_gtr, bin_geq, bin_add, bin_mul, bin_sub, bin_neq, bin_eql, bin_gtr8, bin_eql8, bin_eqlb, un_not, ofElem, loadAt, storeAt, setCells, AV.cells, boxNew, isCell, List.all, Bool.and_true, Bool.and_self]
        refine wp_cond ?_
        simp [opsF, viF, viGo, opF, opMov, opPick, opAlloc, opBox, opLd, opSt, opBin, opBinb, opUn, opIa, opLen, opMinmax, opExt, opKill, opSlice, opMkfn, rd, rdAll, rdOpt, get_cons, put_cons, del_cons, get_nil, put_nil, del_nil, List.foldl, setDst, share, shareAll, firm, firm1, firm2, lenOf, nat_of, elems, bin_lss, bin_gtr, bin_geq, bin_add, bin_mul, bin_sub, bin_neq, bin_eql, bin_gtr8, bin_eql8, bin_eqlb, un_not, ofElem, loadAt, storeAt, setCells, AV.cells, boxNew, isCell, List.all, Bool.and_true, Bool.and_self]
        refine wp_skip (wp_seq (wp_reg ?_))
        simp [opsF, viF, viGo, opF, opMov, opPick, opAlloc, opBox, opLd, opSt, opBin, opBinb, opUn, opIa, opLen, opMinmax, opExt, opKill, opSlice, opMkfn, rd, rdAll, rdOpt, get_cons, put_cons, del_cons, get_nil, put_nil, del_nil, List.foldl, setDst, share, shareAll, firm, firm1, firm2, lenOf, nat_of, elems, bin_lss, bin_gtr, bin_geq, bin_add, bin_mul, bin_sub, bin_neq, bin_eql, bin_gtr8, bin_eql8, bin_eqlb, un_not, ofElem, loadAt, storeAt, setCells, AV.cells, boxNew, isCell, List.all, Bool.and_true, Bool.and_self]
        refine wp_ret ?_
        refine ⟨.inr rfl, _, _, rfl, wo_nil ?_⟩
        refine wp_block (wp_range rfl rfl rfl ?_)
        simp only [c33, mkEnv]
        refine wp_seq (wp_reg ?_)
        simp [opsF, viF, viGo, opF, opMov, opPick, opAlloc, opBox, opLd, opSt, opBin, opBinb, opUn, opIa, opLen, opMinmax, opExt, opKill, opSlice, opMkfn, rd, rdAll, rdOpt, get_cons, put_cons, del_cons, get_nil, put_nil, del_nil, List.foldl, setDst, share, shareAll, firm, firm1, firm2, lenOf, nat_of, elems, bin_lss, bin_gtr, bin_geq, bin_add, bin_mul, bin_sub, bin_neq, bin_eql, bin_gtr8, bin_eql8, bin_eqlb, un_not, ofElem, loadAt, storeAt, setCells, AV.cells, boxNew, isCell, List.all, Bool.and_true, Bool.and_self]
        refine wp_block ?_
        refine chunk_loop xs h3 hs _ 8 0 0 (by omega) (by omega) (by simp) ?_ ?_
        · intro hl s n
          refine ⟨.inl rfl, _, _, rfl, _, _, _, _, _, rfl, ?_⟩
          refine wp_seq (wp_reg ?_)
          simp [opsF, viF, viGo, opF, opMov, opPick, opAlloc, opBox, opLd, opSt, opBin, opBinb, opUn, opIa, opLen, opMinmax, opExt, opKill, opSlice, opMkfn, rd, rdAll, rdOpt, get_cons, put_cons, del_cons, get_nil, put_nil, del_nil, List.foldl, setDst, share, shareAll, firm, firm1, firm2, lenOf, nat_of, elems, bin_lss, bin_gtr, bin_geq, bin_add, bin_mul, bin_sub, bin_neq, bin_eql, bin_gtr8, bin_eql8, bin_eqlb, un_not, ofElem, loadAt, storeAt, setCells, AV.cells, boxNew, isCell, List.all, Bool.and_true, Bool.and_self, heap5]
          refine wp_ret ?_
          simp only [attackOf, hmm, h3, hl]
          simp [endF, takeRes, loadAt, takes, get_cons, del_cons, put_cons]
        · intro hl s n e
          refine ⟨.inr rfl, _, _, rfl, _, _, _, _, _, rfl, ?_⟩
          simp only [attackOf, hmm, h3, hl]
          simp [endF, takeRes, loadAt, takes, get_cons, del_cons, put_cons, heap5, outOf]
  · simp [opsF, viF, viGo, opF, opMov, opPick, opAlloc, opBox, opLd, opSt, opBin, opBinb, opUn, opIa, opLen, opMinmax, opExt, opKill, opSlice, opMkfn, rd, rdAll, rdOpt, get_cons, put_cons, del_cons, get_nil, put_nil, del_nil, List.foldl, setDst, share, shareAll, firm, firm1, firm2, lenOf, nat_of, elems, bin_lss, bin_gtr, bin_geq, bin_add, bin_mul, bin_sub, bin_neq, bin_eql, bin_gtr8, bin_eql8, bin_eqlb, un_not, ofElem, loadAt, storeAt, setCells, AV.cells, boxNew, isCell, List.all, Bool.and_true, Bool.and_self, h1]
    refine wp_seq (wp_reg ?_)
    simp [opsF, viF, viGo, opF, opMov, opPick, opAlloc, opBox, opLd, opSt, opBin, opBinb, opUn, opIa, opLen, opMinmax, opExt, opKill, opSlice, opMkfn, rd, rdAll, rdOpt, get_cons, put_cons, del_cons, get_nil, put_nil, del_nil, List.foldl, setDst, share, shareAll, firm, firm1, firm2, lenOf, nat_of, elems, bin_lss, bin_gtr, bin_geq, bin_add, bin_mul, bin_sub, bin_neq, bin_eql, bin_gtr8, bin_eql8, bin_eqlb, un_not, ofElem, loadAt, storeAt, setCells, AV.cells, boxNew, isCell, List.all, Bool.and_true, Bool.and_self]
    refine wp_seq (wp_reg ?_)
    simp [opsF, viF, viGo, opF, opMov, opPick, opAlloc, opBox, opLd, opSt, opBin, opBinb, opUn, opIa, opLen, opMinmax, opExt, opKill, opSlice, opMkfn, rd, rdAll, rdOpt, get_cons, put_cons, del_cons, get_nil, put_nil, del_nil, List.foldl, setDst, share, shareAll, firm, firm1, firm2, lenOf, nat_of, elems, bin_lss, bin_gtr, bin_geq, bin_add, bin_mul, bin_sub, bin_neq, bin_eql, bin_gtr8, bin_eql8, bin_eqlb, un_not, ofElem, loadAt, storeAt, setCells, AV.cells, boxNew, isCell, List.all, Bool.and_true, Bool.and_self]
    refine wp_ret ?_
    have h3 : xs.length ≠ 256 := by omega
    simp [endF, takeRes, loadAt, takes, get_cons, del_cons, put_cons, attackOf, h3]
end Go.Vm

/-
  PickSees, whole.
-/
namespace Go.Vm
theorem attack_tup (xs : List Int) : ∃ b n, attackOf xs = .tup [.bool b, .int .i64 n] := by
  unfold attackOf
  split
  · exact ⟨_, _, rfl⟩
  · split
    · exact ⟨_, _, rfl⟩
    · exact ⟨_, _, rfl⟩
theorem call3 (xs : List Int) (w : Int) (hw : 0 ≤ w) (now next : Bool) : EvP prog 3 [.d (.lst (nums xs)), .int .u8 w, .bool now, .bool next] (.bool true) := by
  refine evp_wp rfl rfl ?_
  simp only [c3, mkEnv]
  refine wp_seq (wp_reg ?_)
  simp [opsF, viF, viGo, opF, opMov, opPick, opAlloc, opBox, opLd, opSt, opBin, opBinb, opUn, opIa, opLen, opMinmax, opExt, opKill, opSlice, opMkfn, rd, rdAll, rdOpt, get_cons, put_cons, del_cons, get_nil, put_nil, del_nil, List.foldl, setDst, share, shareAll, firm, firm1, firm2, lenOf, nat_of, elems, bin_lss, bin_gtr, bin_geq, bin_add, bin_mul, bin_sub, bin_neq, bin_eql, bin_gtr8, bin_eql8, bin_eqlb, un_not, ofElem, loadAt, storeAt, setCells, AV.cells, boxNew, isCell, List.all, Bool.and_true, Bool.and_self]
  refine wp_seq (wp_seq (wp_reg ?_))
  simp [opsF, viF, viGo, opF, opMov, opPick, opAlloc, opBox, opLd, opSt, opBin, opBinb, opUn, opIa, opLen, opMinmax, opExt, opKill, opSlice, opMkfn, rd, rdAll, rdOpt, get_cons, put_cons, del_cons, get_nil, put_nil, del_nil, List.foldl, setDst, share, shareAll, firm, firm1, firm2, lenOf, nat_of, elems, bin_lss, bin_gtr, bin_geq, bin_add, bin_mul, bin_sub, bin_neq, bin_eql, bin_gtr8, bin_eql8, bin_eqlb, un_not, ofElem, loadAt, storeAt, setCells, AV.cells, boxNew, isCell, List.all, Bool.and_true, Bool.and_self, nums_len]
  refine wp_cond ?_
  by_cases h1 : 1000 < (xs.length : Int)
  · simp [opsF, viF, viGo, opF, opMov, opPick, opAlloc, opBox, opLd, opSt, opBin, opBinb, opUn, opIa, opLen, opMinmax, opExt, opKill, opSlice, opMkfn, rd, rdAll, rdOpt, get_cons, put_cons, del_cons, get_nil, put_nil, del_nil, List.foldl, setDst, share, shareAll, firm, firm1, firm2, lenOf, nat_of, elems, bin_lss, bin_gtr, bin_geq, bin_add, bin_mul, bin_sub, bin_neq, bin_eql, bin_gtr8, bin_eql8, bin_eqlb, un_not, ofElem, loadAt, storeAt, setCells, AV.cells, boxNew, isCell, List.all, Bool.and_true, Bool.and_self, h1]
    refine wp_seq (wp_reg ?_)
    simp [opsF, viF, viGo, opF, opMov, opPick, opAlloc, opBox, opLd, opSt, opBin, opBinb, opUn, opIa, opLen, opMinmax, opExt, opKill, opSlice, opMkfn, rd, rdAll, rdOpt, get_cons, put_cons, del_cons, get_nil, put_nil, del_nil, List.foldl, setDst, share, shareAll, firm, firm1, firm2, lenOf, nat_of, elems, bin_lss, bin_gtr, bin_geq, bin_add, bin_mul, bin_sub, bin_neq, bin_eql, bin_gtr8, bin_eql8, bin_eqlb, un_not, ofElem, loadAt, storeAt, setCells, AV.cells, boxNew, isCell, List.all, Bool.and_true, Bool.and_self]
    refine wp_seq (wp_reg ?_)
    simp [opsF, viF, viGo, opF, opMov, opPick, opAlloc, opBox, opLd, opSt, opBin, opBinb, opUn, opIa, opLen, opMinmax, opExt, opKill, opSlice, opMkfn, rd, rdAll, rdOpt, get_cons, put_cons, del_cons, get_nil, put_nil, del_nil, List.foldl, setDst, share, shareAll, firm, firm1, firm2, lenOf, nat_of, elems, bin_lss, bin_gtr, bin_geq, bin_add, bin_mul, bin_sub, bin_neq, bin_eql, bin_gtr8, bin_eql8, bin_eqlb, un_not, ofElem, loadAt, storeAt, setCells, AV.cells, boxNew, isCell, List.all, Bool.and_true, Bool.and_self]
    refine wp_ret ?_
    simp [endF, takeRes, get_cons, del_cons]
  · simp [opsF, viF, viGo, opF, opMov, opPick, opAlloc, opBox, opLd, opSt, opBin, opBinb, opUn, opIa, opLen, opMinmax, opExt, opKill, opSlice, opMkfn, rd, rdAll, rdOpt, get_cons, put_cons, del_cons, get_nil, put_nil, del_nil, List.foldl, setDst, share, shareAll, firm, firm1, firm2, lenOf, nat_of, elems, bin_lss, bin_gtr, bin_geq, bin_add, bin_mul, bin_sub, bin_neq, bin_eql, bin_gtr8, bin_eql8, bin_eqlb, un_not, ofElem, loadAt, storeAt, setCells, AV.cells, boxNew, isCell, List.all, Bool.and_true, Bool.and_self, h1]
    have hx : xs.length ≤ 1000 := by omega
    obtain ⟨b, n, hat⟩ := attack_tup xs
    have k5 := call5 hx
    have k6 := call6 hx
    rw [hat] at k5 k6
    refine wp_skip (wp_seq (wp_regO (wo_pre 1 ?_)))
    simp [opsF, viF, viGo, opF, opMov, opPick, opAlloc, opBox, opLd, opSt, opBin, opBinb, opUn, opIa, opLen, opMinmax, opExt, opKill, opSlice, opMkfn, rd, rdAll, rdOpt, get_cons, put_cons, del_cons, get_nil, put_nil, del_nil, List.foldl, setDst, share, shareAll, firm, firm1, firm2, lenOf, nat_of, elems, bin_lss, bin_gtr, bin_geq, bin_add, bin_mul, bin_sub, bin_neq, bin_eql, bin_gtr8, bin_eql8, bin_eqlb, un_not, ofElem, loadAt, storeAt, setCells, AV.cells, boxNew, isCell, List.all, Bool.and_true, Bool.and_self]
    refine wo_call (v := .tup [.bool b, .int .i64 n]) (fun _ => rfl) ⟨_, _, _, rfl, rfl, rfl, k5, wo_pure ?_⟩
    simp [opsF, viF, viGo, opF, opMov, opPick, opAlloc, opBox, opLd, opSt, opBin, opBinb, opUn, opIa, opLen, opMinmax, opExt, opKill, opSlice, opMkfn, rd, rdAll, rdOpt, get_cons, put_cons, del_cons, get_nil, put_nil, del_nil, List.foldl, setDst, share, shareAll, firm, firm1, firm2, lenOf, nat_of, elems, bin_lss, bin_gtr, bin_geq, bin_add, bin_mul, bin_sub, bin_neq, bin_eql, bin_gtr8, bin_eql8, bin_eqlb, un_not, ofElem, loadAt, storeAt, setCells, AV.cells, boxNew, isCell, List.all, Bool.and_true, Bool.and_self]
    refine wp_seq (wp_regO (wo_pre 1 ?_))
    simp [opsF, viF, viGo, opF, opMov, opPick, opAlloc, opBox, opLd, opSt, opBin, opBinb, opUn, opIa, opLen, opMinmax, opExt, opKill, opSlice, opMkfn, rd, rdAll, rdOpt, get_cons, put_cons, del_cons, get_nil, put_nil, del_nil, List.foldl, setDst, share, shareAll, firm, firm1, firm2, lenOf, nat_of, elems, bin_lss, bin_gtr, bin_geq, bin_add, bin_mul, bin_sub, bin_neq, bin_eql, bin_gtr8, bin_eql8, bin_eqlb, un_not, ofElem, loadAt, storeAt, setCells, AV.cells, boxNew, isCell, List.all, Bool.and_true, Bool.and_self]
    refine wo_call (v := .tup [.bool b, .int .i64 n]) (fun _ => rfl) ⟨_, _, _, rfl, rfl, rfl, k6, wo_pure ?_⟩
    simp [opsF, viF, viGo, opF, opMov, opPick, opAlloc, opBox, opLd, opSt, opBin, opBinb, opUn, opIa, opLen, opMinmax, opExt, opKill, opSlice, opMkfn, rd, rdAll, rdOpt, get_cons, put_cons, del_cons, get_nil, put_nil, del_nil, List.foldl, setDst, share, shareAll, firm, firm1, firm2, lenOf, nat_of, elems, bin_lss, bin_gtr, bin_geq, bin_add, bin_mul, bin_sub, bin_neq, bin_eql, bin_gtr8, bin_eql8, bin_eqlb, un_not, ofElem, loadAt, storeAt, setCells, AV.cells, boxNew, isCell, List.all, Bool.and_true, Bool.and_self]
    refine wp_seq (wp_regO (wo_pre 3 ?_))
    simp [opsF, viF, viGo, opF, opMov, opPick, opAlloc, opBox, opLd, opSt, opBin, opBinb, opUn, opIa, opLen, opMinmax, opExt, opKill, opSlice, opMkfn, rd, rdAll, rdOpt, get_cons, put_cons, del_cons, get_nil, put_nil, del_nil, List.foldl, setDst, share, shareAll, firm, firm1, firm2, lenOf, nat_of, elems, bin_lss, bin_gtr, bin_geq, bin_add, bin_mul, bin_sub, bin_neq, bin_eql, bin_gtr8, bin_eql8, bin_eqlb, un_not, ofElem, loadAt, storeAt, setCells, AV.cells, boxNew, isCell, List.all, Bool.and_true, Bool.and_self]
    refine wo_call (v := seqOf w now next) (fun _ => rfl) ⟨_, _, _, rfl, rfl, rfl, call7 w hw now next, wo_pure ?_⟩
    simp [opsF, viF, viGo, opF, opMov, opPick, opAlloc, opBox, opLd, opSt, opBin, opBinb, opUn, opIa, opLen, opMinmax, opExt, opKill, opSlice, opMkfn, rd, rdAll, rdOpt, get_cons, put_cons, del_cons, get_nil, put_nil, del_nil, List.foldl, setDst, share, shareAll, firm, firm1, firm2, lenOf, nat_of, elems, bin_lss, bin_gtr, bin_geq, bin_add, bin_mul, bin_sub, bin_neq, bin_eql, bin_gtr8, bin_eql8, bin_eqlb, un_not, ofElem, loadAt, storeAt, setCells, AV.cells, boxNew, isCell, List.all, Bool.and_true, Bool.and_self, seqOf]
    refine wp_seq (wp_regO (wo_pre 3 ?_))
    simp [opsF, viF, viGo, opF, opMov, opPick, opAlloc, opBox, opLd, opSt, opBin, opBinb, opUn, opIa, opLen, opMinmax, opExt, opKill, opSlice, opMkfn, rd, rdAll, rdOpt, get_cons, put_cons, del_cons, get_nil, put_nil, del_nil, List.foldl, setDst, share, shareAll, firm, firm1, firm2, lenOf, nat_of, elems, bin_lss, bin_gtr, bin_geq, bin_add, bin_mul, bin_sub, bin_neq, bin_eql, bin_gtr8, bin_eql8, bin_eqlb, un_not, ofElem, loadAt, storeAt, setCells, AV.cells, boxNew, isCell, List.all, Bool.and_true, Bool.and_self]
    refine wo_call (v := seqOf w now next) (fun _ => rfl) ⟨_, _, _, rfl, rfl, rfl, call8 w now next, wo_pure ?_⟩
    simp [opsF, viF, viGo, opF, opMov, opPick, opAlloc, opBox, opLd, opSt, opBin, opBinb, opUn, opIa, opLen, opMinmax, opExt, opKill, opSlice, opMkfn, rd, rdAll, rdOpt, get_cons, put_cons, del_cons, get_nil, put_nil, del_nil, List.foldl, setDst, share, shareAll, firm, firm1, firm2, lenOf, nat_of, elems, bin_lss, bin_gtr, bin_geq, bin_add, bin_mul, bin_sub, bin_neq, bin_eql, bin_gtr8, bin_eql8, bin_eqlb, un_not, ofElem, loadAt, storeAt, setCells, AV.cells, boxNew, isCell, List.all, Bool.and_true, Bool.and_self, seqOf]
    refine wp_seq (wp_reg ?_)
    simp [opsF, viF, viGo, opF, opMov, opPick, opAlloc, opBox, opLd, opSt, opBin, opBinb, opUn, opIa, opLen, opMinmax, opExt, opKill, opSlice, opMkfn, rd, rdAll, rdOpt, get_cons, put_cons, del_cons, get_nil, put_nil, del_nil, List.foldl, setDst, share, shareAll, firm, firm1, firm2, lenOf, nat_of, elems, bin_lss, bin_gtr, bin_geq, bin_add, bin_mul, bin_sub, bin_neq, bin_eql, bin_gtr8, bin_eql8, bin_eqlb, un_not, ofElem, loadAt, storeAt, setCells, AV.cells, boxNew, isCell, List.all, Bool.and_true, Bool.and_self, opBinb]
    refine wp_ret ?_
    simp [endF, takeRes, get_cons, del_cons]
end Go.Vm
