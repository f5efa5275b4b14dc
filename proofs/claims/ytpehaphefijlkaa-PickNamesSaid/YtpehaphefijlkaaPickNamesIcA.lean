import Derived.Test.YtpehaphefijlkaaPickNamesCh
import Derived.KernelRfl
noncomputable section
namespace Go.Vm
set_option linter.unusedVariables false
set_option linter.unusedSimpArgs false
/-! ### A list that grows: nil at first -/
def ownL (m : Nat) (xs : List (List D)) : AV := match xs with
  | [] => .nl
  | x :: r => .own false m (x :: r)
theorem ownL_nil {m : Nat} : ownL m [] = .nl := rfl
theorem ownL_cons {m : Nat} {x : List D} {r : List (List D)} : ownL m (x :: r) = .own false m (x :: r) := rfl
theorem ownL_snoc {m : Nat} {xs : List (List D)} {y : List D} : ownL m (xs ++ [y]) = .own false m (xs ++ [y]) := by cases xs <;> rfl
theorem ownL_ne {m : Nat} {xs : List (List D)} (h : xs ≠ []) : ownL m xs = .own false m xs := by cases xs with | nil => exact absurd rfl h | cons => rfl
@[simp] theorem firm_L {m : Nat} {xs : List (List D)} : firm (ownL m xs) = ownL m xs := by cases xs <;> rfl
@[simp] theorem firm1_L {m : Nat} {xs : List (List D)} : firm1 (ownL m xs) = ownL m xs := by cases xs <;> rfl
@[simp] theorem firm2_L {m : Nat} {xs : List (List D)} : firm2 (ownL m xs) = ownL m xs := by cases xs <;> rfl
@[simp] theorem share_L {m : Nat} {xs : List (List D)} (h : xs ≠ []) : share (ownL m xs) = .d (.lst xs) := by rw [ownL_ne h]; simp
@[simp] theorem toD_L {m : Nat} {xs : List (List D)} : toD (ownL m xs) = some (.lst xs) := by cases xs <;> rfl
@[simp] theorem isSl_L {m : Nat} {xs : List (List D)} : isSl (ownL m xs) = false := by cases xs <;> rfl
@[simp] theorem fluid_L {m : Nat} {xs : List (List D)} : fluid (ownL m xs) = false := by cases xs <;> rfl
@[simp] theorem cells_L {m : Nat} {xs : List (List D)} : AV.cells (ownL m xs) = [ownL m xs] := by cases xs <;> rfl
@[simp] theorem isCell_L {m : Nat} {xs : List (List D)} : isCell (ownL m xs) = true := by cases xs <;> rfl
@[simp] theorem okPart_L {m : Nat} {xs : List (List D)} : okPart (ownL m xs) = true := by cases xs <;> rfl
@[simp] theorem lenOf_L {m : Nat} {xs : List (List D)} : lenOf (ownL m xs) = some xs.length := by cases xs <;> rfl
@[simp] theorem elems_L {h : Heap} {m : Nat} {xs : List (List D)} : elems h (ownL m xs) = some xs := by cases xs <;> rfl
@[simp] theorem viewOne_L {h : Heap} {m : Nat} {xs : List (List D)} (hx : xs ≠ []) : viewOne h (ownL m xs) = some (.d (.lst xs)) := by rw [ownL_ne hx]; rfl
/-- As a function answers it. -/
@[simp] theorem resOne_L {h : Heap} {m : Nat} {xs : List (List D)} : resOne h (ownL m xs) = some (ownL m xs, h) := by cases xs <;> rfl
@[simp] theorem resAgg_L {h : Heap} {m : Nat} {xs : List (List D)} : resAgg h (ownL m xs) = some (ownL m xs, h) := by cases xs <;> rfl
@[simp] theorem apd_L {m : Nat} {h : Heap} {xs : List (List D)} {y : List D} (hy : y.length = m) (hl : xs.length < 1000000000) : apdV m h (ownL m xs) (.own false m [y]) = some (.own (decide (xs = [])) m (xs ++ [y]), h) := by
  subst hy
  cases xs with
  | nil => simp [ownL, elems, decide_true]
  | cons x r => simp [ownL, elems]; simp at hl; omega
@[simp] theorem app_L {m : Nat} {h : Heap} {xs : List (List D)} {y : List D} (hl : xs.length < 1000000000) : appendTo m h (ownL m xs) [y] = some (.own (decide (xs = [])) m (xs ++ [y]), h) := by
  cases xs with
  | nil => simp [ownL, decide_true]
  | cons x r => simp [ownL]; simp at hl; omega
def resO (o : Obj) (h : Heap) (id off len : Nat) : Option (AV × Heap) :=
  match o with
  | .arr m xs => okB (Nat.ble (off + len) xs.length) (some (.own true m (sub xs off len), del h id))
  | _ => none
@[simp ↓] theorem resO_a {m : Nat} {xs : List (List D)} {h : Heap} {id off len : Nat} : resO (.arr m xs) h id off len = okB (Nat.ble (off + len) xs.length) (some (.own true m (sub xs off len), del h id)) := (rfl)
@[simp] theorem res_sl {h : Heap} {id off len : Nat} : resOne h (.sl id off len) = bA (get h id) fun o => resO o h id off len := by
  simp only [resOne]
  cases get h id with
  | none => rfl
  | some o =>
    cases o with
    | arr m xs => simp only [bA, resO]; cases Nat.ble (off + len) xs.length <;> rfl
    | cells cs => rfl
    | loop => rfl
end Go.Vm

namespace Go.Vm
set_option linter.unusedVariables false
set_option linter.unusedSimpArgs false
set_option maxRecDepth 100000
def bDim (id : Nat) : Nat := if id < 5 then 4 else if id = 12 then 1 else 2
def bLow (id : Nat) : Int := [0, -1, -1, 0, 0, -4, -4, 0, 0, 0, 0, 0, -60].getD id 0
def bWide (id : Nat) : Nat := [1, 3, 3, 3, 3, 9, 9, 8, 8, 13, 13, 17, 121].getD id 1
def bPlain (id : Nat) : Nat := [0, 0, 1, 0, 1, 0, 1, 1, 2, 1, 2, 2, 0].getD id 0
def valsE (low : Int) (w : Nat) : Nat → Nat → List Int
  | 0, _ => []
  | d + 1, e => valsE low w d (e / w) ++ [((e % w : Nat) : Int) + low]
def bVals (id e : Nat) : List Int := valsE (bLow id) (bWide id) (bDim id) e
def sumN : List Int → Nat
  | [] => 0
  | x :: r => x.natAbs + sumN r
def bSize (id e : Nat) : Nat := sumN (bVals id e)
def bMany (id : Nat) : Nat := bWide id ^ bDim id
def pick0 (s : Nat) : List (Nat × Nat) → List Nat
  | [] => []
  | (e, z) :: r => match Nat.beq z s with
    | true => e :: pick0 s r
    | false => pick0 s r
def sized (id : Nat) : List (Nat × Nat) := (List.range (bMany id)).map fun e => (e, bSize id e)
def bEnts (id : Nat) : List Nat := let l := sized id; (List.range 61).flatMap fun s => pick0 s l
def posN (e : Nat) : Nat → List Nat → Nat
  | i, [] => i
  | i, x :: r => match Nat.beq x e with
    | true => i
    | false => posN e (i + 1) r
def bRanks (id : Nat) : List Nat := let l := bEnts id; (List.range (bMany id)).map fun e => posN e 0 l
abbrev okId (id : Nat) : Prop := 1 ≤ id ∧ id ≤ 12
/-- A book as an argument, and as an answer. -/
abbrev bookV (id : Nat) : AV := .agg [.d (.int .i64 id), .d (.int .i64 (bPlain id)), .d (.lst (nats (bEnts id))), .d (.lst (nats (bRanks id)))]
abbrev bookO (id : Nat) : AV := .agg [.d (.int .i64 id), .d (.int .i64 (bPlain id)), .own true 1 (nats (bEnts id)), .own true 1 (nats (bRanks id))]
theorem book_facts : ∀ id ∈ List.range 13, bPlain id ≤ 2 ∧ (bEnts id).length ≤ 300 ∧ (bRanks id).length ≤ 300 ∧ (bEnts id).all (fun e => decide (e < bMany id)) = true := by decide +kernel
theorem book_fact {id : Nat} (h : id ≤ 12) : bPlain id ≤ 2 ∧ (bEnts id).length ≤ 300 ∧ (bRanks id).length ≤ 300 ∧ ∀ e ∈ bEnts id, e < bMany id := by
  obtain ⟨a, b, c, d⟩ := book_facts id (by simp; omega)
  exact ⟨a, b, c, fun e he => by simpa using List.all_eq_true.1 d e he⟩
def ids : List Nat := [1, 2, 3, 4, 5, 6, 7, 8, 9, 10, 11, 12]
theorem in_ids {id : Nat} (h : okId id) : id ∈ ids := by
  obtain ⟨h1, h2⟩ := h
  simp only [ids, List.mem_cons, List.not_mem_nil, or_false]
  omega
abbrev kdV (id : Nat) : AV := .agg [.d (.int .i64 (bDim id)), .d (.int .i64 (bLow id)), .d (.int .i64 (bLow id + bWide id - 1)), .d (.int .i64 (bPlain id))]
theorem book_of1 : ∀ x ∈ ids, ans prog f_book_of [.d (.int .i64 x)] = some (.tup [kdV x, .d (.int .i64 0)]) := ans_runs 100 ids (by kernel_rfl)
theorem book_many1 : ∀ x ∈ ids, ans prog f_book_kind_many [kdV x] = some (.d (.int .i64 (bMany x))) := ans_runs 100 ids (by kernel_rfl)
theorem mkslc_n {z : List D} {n : Nat} (h : n ≤ 1000000000) : mkslcV z (.d (.int .i64 n)) (.d (.int .i64 n)) = some (.own true z.length (List.replicate n z)) := by
  have h0 : ¬ ((n : Int) < 0) := by omega
  have h1 : Nat.ble n most = true := Nat.ble_eq_true_of_le (Nat.le_trans h (by decide))
  have h2 : Nat.ble n n = true := by rw [bleN]; simp
  simp only [mkslcV, natUpTo, h1, h2]
end Go.Vm

namespace Go.Vm
set_option linter.unusedVariables false
set_option linter.unusedSimpArgs false
/-! Sorting: the heap is seen through one list of numbers, 'hp xs'. -/
/-- A heap in which the list of object 'D' may be another one. -/
structure Hp (hp : List Nat → Heap) (D : Nat) : Prop where
  get : ∀ xs, get (hp xs) D = some (.arr 1 (nats xs))
  put : ∀ xs ys, put (hp xs) D (.arr 1 (nats ys)) = hp ys
/-- Two places change their values. -/
def swp (xs : List Nat) (i j : Nat) : List Nat := (xs.set i (nth xs j)).set j (nth xs i)
@[simp] theorem swp_len {xs : List Nat} {i j : Nat} : (swp xs i j).length = xs.length := by simp [swp]
def swpR (xs : List Nat) (a b : Nat) : Nat → Nat → List Nat
  | 0, _ => xs
  | k + 1, i => swpR (swp xs (a + i) (b + i)) a b k (i + 1)
@[simp] theorem swpR_len {a b : Nat} : ∀ {k i : Nat} {xs : List Nat}, (swpR xs a b k i).length = xs.length
  | 0, _, _ => rfl
  | k + 1, i, xs => by rw [swpR, swpR_len, swp_len]
section
variable {hp : List Nat → Heap} {D : Nat}
theorem swapRange_L0 (H : Hp hp D) (len : Nat) (hlen : len ≤ 1000000000) (a b n N : Nat) (ha : a + n ≤ len) (hb : b + n ≤ len) : ∀ (k i : Nat) (xs : List Nat), i + k = n → xs.length = len →
    (Dn prog).code (.loop c_slices_swapRangeCmpFunc_int_L0) ⟨[(0, .sl D 0 len), (1, .d (.int .i64 a)), (2, .d (.int .i64 b)), (3, .d (.int .i64 n)), (10, .d (.int .i64 i))], ⟨hp xs, N⟩⟩ =
    some (.exit 0, ⟨[], ⟨hp (swpR xs a b k i), N⟩⟩) := by
  intro k
  induction k with
  | zero =>
    intro i xs hi hx
    rw [loop_unf c_slices_swapRangeCmpFunc_int_L0.eq_1]
    simp (config := { maxSteps := 300000 }) (disch := omega) [if_pos, if_neg, swpR]
  | succ k ih =>
    intro i xs hi hx
    rw [loop_unf c_slices_swapRangeCmpFunc_int_L0.eq_1]
    have l1 := List.length_set (as := xs) (i := a + i) (a := nth xs (b + i))
    simp (config := { maxSteps := 300000 }) (disch := omega) [if_pos, if_neg, H.get, H.put]
    have h := ih (i + 1) (swp xs (a + i) (b + i)) (by omega) (by simpa using hx)
    have c1 : ((i + 1 : Nat) : Int) = (i : Int) + 1 := rfl
    rw [c1] at h
    rw [swpR, ← h]
    rfl
theorem swapRange (H : Hp hp D) (F : AV) (len : Nat) (hlen : len ≤ 1000000000) (a b n N : Nat) (ha : a + n ≤ len) (hb : b + n ≤ len) (xs : List Nat) (hx : xs.length = len) :
    (Dn prog).call f_slices_swapRangeCmpFunc_int [.sl D 0 len, .d (.int .i64 a), .d (.int .i64 b), .d (.int .i64 n), F] ⟨hp xs, N⟩ = some (.tup [], ⟨hp (swpR xs a b n 0), N⟩) := by
  rw [call_fn p_slices_swapRangeCmpFunc_int c_slices_swapRangeCmpFunc_int.eq_1 rfl]
  have h := swapRange_L0 H len hlen a b n N ha hb n 0 xs (by omega) hx
  have c0 : ((0 : Nat) : Int) = 0 := rfl
  rw [c0] at h
  simp (config := { maxSteps := 300000 }) (disch := omega) [if_pos, if_neg, h]
/-- Two neighbouring parts change places, by changes of ranges. -/
def rot (m : Nat) : Nat → List Nat → Nat → Nat → List Nat
  | 0, xs, i, j => xs
  | f + 1, xs, i, j => if i = j then swpR xs (m - i) m i 0 else if j < i then rot m f (swpR xs (m - i) m j 0) (i - j) j else rot m f (swpR xs (m - i) (m + j - i) i 0) i (j - i)
theorem rot_len {m : Nat} : ∀ {f : Nat} {xs : List Nat} {i j : Nat}, (rot m f xs i j).length = xs.length
  | 0, _, _, _ => rfl
  | f + 1, xs, i, j => by
    rw [rot]
    split
    · exact swpR_len
    · split
      · rw [rot_len, swpR_len]
      · rw [rot_len, swpR_len]
theorem rotate_L0 (H : Hp hp D) (F : AV) (hF : share F = F) (hG : firm F = F) (len : Nat) (hlen : len ≤ 1000000000) (m N : Nat) : ∀ (f i j : Nat) (xs : List Nat), i + j ≤ f → 1 ≤ i → 1 ≤ j → i ≤ m → m + j ≤ len → xs.length = len →
    ∃ (k : Nat) (ys : List Nat), (Dn prog).code (.loop c_slices_rotateCmpFunc_int_L0) ⟨[(0, .sl D 0 len), (2, .d (.int .i64 m)), (4, F), (10, .d (.int .i64 i)), (11, .d (.int .i64 j))], ⟨hp xs, N⟩⟩ =
      some (.exit 0, ⟨[(0, .sl D 0 len), (2, .d (.int .i64 m)), (4, F), (10, .d (.int .i64 k))], ⟨hp ys, N⟩⟩) ∧ k ≤ m ∧ m + k ≤ len ∧ ys.length = len ∧ swpR ys (m - k) m k 0 = rot m f xs i j := by
  intro f
  induction f with
  | zero => intro i j xs h h1 h2; omega
  | succ f ih =>
    intro i j xs h h1 h2 h3 h4 hx
    rw [loop_unf c_slices_rotateCmpFunc_int_L0.eq_1]
    by_cases e : i = j
    · subst e
      refine ⟨i, xs, ?_, h3, h4, hx, ?_⟩
      · simp (config := { maxSteps := 300000 }) (disch := omega) [if_pos, if_neg]
      · rw [rot, if_pos rfl]
    · by_cases e2 : j < i
      · obtain ⟨k, ys, g1, g2, g3, g4, g5⟩ := ih (i - j) j (swpR xs (m - i) m j 0) (by omega) (by omega) h2 (by omega) h4 (by simpa using hx)
        refine ⟨k, ys, ?_, g2, g3, g4, ?_⟩
        · have hs := swapRange H F len hlen (m - i) m j N (by omega) (by omega) xs hx
          have c1 : ((m - i : Nat) : Int) = (m : Int) - i := by omega
          have c2 : ((i - j : Nat) : Int) = (i : Int) - j := by omega
          rw [c1] at hs
          rw [c2] at g1
          simp (config := { maxSteps := 300000 }) (disch := omega) [if_pos, if_neg, hs, hF, hG, g1]
        · rw [rot, if_neg e, if_pos e2, g5]
      · obtain ⟨k, ys, g1, g2, g3, g4, g5⟩ := ih i (j - i) (swpR xs (m - i) (m + j - i) i 0) (by omega) h1 (by omega) h3 (by omega) (by simpa using hx)
        refine ⟨k, ys, ?_, g2, g3, g4, ?_⟩
        · have hs := swapRange H F len hlen (m - i) (m + j - i) i N (by omega) (by omega) xs hx
          have c1 : ((m - i : Nat) : Int) = (m : Int) - i := by omega
          have c2 : ((j - i : Nat) : Int) = (j : Int) - i := by omega
          have c3 : ((m + j - i : Nat) : Int) = (m : Int) + j - i := by omega
          rw [c1, c3] at hs
          rw [c2] at g1
          simp (config := { maxSteps := 300000 }) (disch := omega) [if_pos, if_neg, hs, hF, hG, g1]
        · rw [rot, if_neg e, if_neg e2, g5]
theorem rotate (H : Hp hp D) (F : AV) (hF : share F = F) (hG : firm F = F) (len : Nat) (hlen : len ≤ 1000000000) (a m b N : Nat) (h1 : a < m) (h2 : m < b) (h3 : b ≤ len) (xs : List Nat) (hx : xs.length = len) :
    (Dn prog).call f_slices_rotateCmpFunc_int [.sl D 0 len, .d (.int .i64 a), .d (.int .i64 m), .d (.int .i64 b), F] ⟨hp xs, N⟩ = some (.tup [], ⟨hp (rot m (b - a) xs (m - a) (b - m)), N⟩) := by
  obtain ⟨k, ys, g1, g2, g3, g4, g5⟩ := rotate_L0 H F hF hG len hlen m N (b - a) (m - a) (b - m) xs (by omega) (by omega) (by omega) (by omega) (by omega) hx
  have hs := swapRange H F len hlen (m - k) m k N (by omega) (by omega) ys g4
  have c1 : ((m - k : Nat) : Int) = (m : Int) - k := by omega
  have c2 : ((m - a : Nat) : Int) = (m : Int) - a := by omega
  have c3 : ((b - m : Nat) : Int) = (b : Int) - m := by omega
  rw [c1, g5] at hs
  rw [c2, c3] at g1
  rw [call_fn p_slices_rotateCmpFunc_int c_slices_rotateCmpFunc_int.eq_1 rfl]
  simp (config := { maxSteps := 300000 }) (disch := omega) [if_pos, if_neg, hs, hF, hG, g1]
end
end Go.Vm

namespace Go.Vm
set_option linter.unusedVariables false
set_option linter.unusedSimpArgs false
/-- A function that compares numbers under 'L', and looks at no list. -/
structure Cm (hp : List Nat → Heap) (L : Nat) (F : AV) (C : Nat → Nat → Int) : Prop where
  sh : share F = F
  fi : firm F = F
  cl : ∀ xs N x y, x < L → y < L → callVal (Dn prog) F [.d (.int .i64 (x : Nat)), .d (.int .i64 (y : Nat))] ⟨hp xs, N⟩ = some (.d (.int .i64 (C x y)), ⟨hp xs, N⟩)
abbrev Und (L : Nat) (xs : List Nat) : Prop := ∀ x ∈ xs, x < L
theorem Und.nth {L : Nat} {xs : List Nat} (u : Und L xs) {i : Nat} (h : i < xs.length) : Vm.nth xs i < L := u _ (nth_mem h)
theorem Und.swp {L : Nat} {xs : List Nat} (u : Und L xs) {i j : Nat} (hi : i < xs.length) (hj : j < xs.length) : Und L (swp xs i j) := by
  intro x hx
  rcases List.mem_or_eq_of_mem_set hx with h | h
  · rcases List.mem_or_eq_of_mem_set h with h | h
    · exact u x h
    · exact h ▸ u.nth hj
  · exact h ▸ u.nth hi
theorem Und.swpR {L a b : Nat} : ∀ {k i : Nat} {xs : List Nat}, Und L xs → a + i + k ≤ xs.length → b + i + k ≤ xs.length → Und L (swpR xs a b k i)
  | 0, _, _, u, _, _ => u
  | k + 1, i, xs, u, h1, h2 => by
    rw [Vm.swpR]
    exact Und.swpR (u.swp (by omega) (by omega)) (by rw [swp_len]; omega) (by rw [swp_len]; omega)
theorem Und.rot {L m : Nat} : ∀ {f i j : Nat} {xs : List Nat}, Und L xs → i ≤ m → m + j ≤ xs.length → Und L (rot m f xs i j)
  | 0, _, _, _, u, _, _ => u
  | f + 1, i, j, xs, u, h1, h2 => by
    rw [Vm.rot]
    split
    · exact u.swpR (by omega) (by omega)
    · split
      · exact (u.swpR (by omega) (by omega)).rot (by omega) (by rw [swpR_len]; omega)
      · exact (u.swpR (by omega) (by omega)).rot (by omega) (by rw [swpR_len]; omega)
/-- An element is taken to its place among those ahead. -/
def insJ (C : Nat → Nat → Int) (a : Nat) : Nat → List Nat → List Nat
  | 0, xs => xs
  | j + 1, xs => if a ≤ j ∧ C (nth xs (j + 1)) (nth xs j) < 0 then insJ C a j (swp xs (j + 1) j) else xs
def insO (C : Nat → Nat → Int) (a : Nat) : Nat → Nat → List Nat → List Nat
  | 0, _, xs => xs
  | k + 1, i, xs => insO C a k (i + 1) (insJ C a i xs)
section
variable {C : Nat → Nat → Int} {a : Nat}
theorem insJ_len : ∀ {j : Nat} {xs : List Nat}, (insJ C a j xs).length = xs.length
  | 0, _ => rfl
  | j + 1, xs => by
    rw [insJ]
    split
    · rw [insJ_len, swp_len]
    · rfl
theorem insO_len : ∀ {k i : Nat} {xs : List Nat}, (insO C a k i xs).length = xs.length
  | 0, _, _ => rfl
  | k + 1, i, xs => by rw [insO, insO_len, insJ_len]
theorem Und.insJ {L : Nat} : ∀ {j : Nat} {xs : List Nat}, Und L xs → j < xs.length → Und L (insJ C a j xs)
  | 0, _, u, _ => u
  | j + 1, xs, u, h => by
    rw [Vm.insJ]
    split
    · exact (u.swp h (by omega)).insJ (by rw [swp_len]; omega)
    · exact u
theorem Und.insO {L : Nat} : ∀ {k i : Nat} {xs : List Nat}, Und L xs → i + k ≤ xs.length → Und L (insO C a k i xs)
  | 0, _, _, u, _ => u
  | k + 1, i, xs, u, h => by
    rw [Vm.insO]
    exact (u.insJ (by omega)).insO (by rw [insJ_len]; omega)
end
section
variable {hp : List Nat → Heap} {D L : Nat} {F : AV} {C : Nat → Nat → Int}
theorem insert_L0 (H : Hp hp D) (K : Cm hp L F C) (len : Nat) (hlen : len ≤ 1000000000) (a b I N : Nat) : ∀ (j : Nat) (xs : List Nat), j < len → xs.length = len → Und L xs →
    (Dn prog).code (.loop c_slices_insertionSortCmpFunc_int_L0) ⟨[(0, .sl D 0 len), (1, .d (.int .i64 a)), (2, .d (.int .i64 b)), (3, F), (8, .d (.int .i64 I)), (9, .d (.int .i64 j))], ⟨hp xs, N⟩⟩ =
    some (.exit 2, ⟨[(0, .sl D 0 len), (1, .d (.int .i64 a)), (2, .d (.int .i64 b)), (3, F), (8, .d (.int .i64 I))], ⟨hp (insJ C a j xs), N⟩⟩) := by
  intro j
  induction j with
  | zero =>
    intro xs hj hx u
    rw [loop_unf c_slices_insertionSortCmpFunc_int_L0.eq_1]
    simp (config := { maxSteps := 300000 }) (disch := omega) [if_pos, if_neg, insJ, K.sh, K.fi]
  | succ j ih =>
    intro xs hj hx u
    rw [loop_unf c_slices_insertionSortCmpFunc_int_L0.eq_1]
    have c1 : ((j + 1 : Nat) : Int) = (j : Int) + 1 := rfl
    by_cases h1 : a ≤ j
    · have hc := K.cl xs N _ _ (u.nth (i := j + 1) (by omega)) (u.nth (i := j) (by omega))
      have l1 := List.length_set (as := xs) (i := j + 1) (a := nth xs j)
      by_cases h2 : C (nth xs (j + 1)) (nth xs j) < 0
      · have h := ih (swp xs (j + 1) j) (by omega) (by simpa using hx) (u.swp (by omega) (by omega))
        rw [insJ, if_pos ⟨h1, h2⟩, ← h]
        simp (config := { maxSteps := 300000 }) (disch := omega) [if_pos, if_neg, K.sh, K.fi, H.get, H.put, hc, c1]
        rfl
      · rw [insJ, if_neg (fun h => h2 h.2)]
        simp (config := { maxSteps := 300000 }) (disch := omega) [if_pos, if_neg, K.sh, K.fi, H.get, H.put, hc, c1]
    · rw [insJ, if_neg (fun h => h1 h.1)]
      simp (config := { maxSteps := 300000 }) (disch := omega) [if_pos, if_neg, K.sh, K.fi, c1]
theorem insert_L1 (H : Hp hp D) (K : Cm hp L F C) (len : Nat) (hlen : len ≤ 1000000000) (a b N : Nat) (hb : b ≤ len) : ∀ (k i : Nat) (xs : List Nat), i + k = b → xs.length = len → Und L xs →
    (Dn prog).code (.loop c_slices_insertionSortCmpFunc_int_L1) ⟨[(0, .sl D 0 len), (1, .d (.int .i64 a)), (2, .d (.int .i64 b)), (3, F), (8, .d (.int .i64 i))], ⟨hp xs, N⟩⟩ =
    some (.exit 0, ⟨[], ⟨hp (insO C a k i xs), N⟩⟩) := by
  intro k
  induction k with
  | zero =>
    intro i xs hi hx u
    rw [loop_unf c_slices_insertionSortCmpFunc_int_L1.eq_1]
    simp (config := { maxSteps := 300000 }) (disch := omega) [if_pos, if_neg, insO, K.sh, K.fi]
  | succ k ih =>
    intro i xs hi hx u
    rw [loop_unf c_slices_insertionSortCmpFunc_int_L1.eq_1]
    have h0 := insert_L0 H K len hlen a b i N i xs (by omega) hx u
    have h := ih (i + 1) (insJ C a i xs) (by omega) (by rw [insJ_len]; exact hx) (u.insJ (by omega))
    have c1 : ((i + 1 : Nat) : Int) = (i : Int) + 1 := rfl
    rw [c1] at h
    rw [insO, ← h]
    simp (config := { maxSteps := 300000 }) (disch := omega) [if_pos, if_neg, K.sh, K.fi, h0]
theorem insertionSort (H : Hp hp D) (K : Cm hp L F C) (len : Nat) (hlen : len ≤ 1000000000) (a b N : Nat) (hab : a < b) (hb : b ≤ len) (xs : List Nat) (hx : xs.length = len) (u : Und L xs) :
    (Dn prog).call f_slices_insertionSortCmpFunc_int [.sl D 0 len, .d (.int .i64 a), .d (.int .i64 b), F] ⟨hp xs, N⟩ = some (.tup [], ⟨hp (insO C a (b - (a + 1)) (a + 1) xs), N⟩) := by
  rw [call_fn p_slices_insertionSortCmpFunc_int c_slices_insertionSortCmpFunc_int.eq_1 rfl]
  have h := insert_L1 H K len hlen a b N hb (b - (a + 1)) (a + 1) xs (by omega) hx u
  have c1 : ((a + 1 : Nat) : Int) = (a : Int) + 1 := rfl
  rw [c1] at h
  simp (config := { maxSteps := 300000 }) (disch := omega) [if_pos, if_neg, K.sh, K.fi, h]
end
end Go.Vm

namespace Go.Vm
set_option linter.unusedVariables false
set_option linter.unusedSimpArgs false
/-! Where an element belongs, by halves. -/
def bs1 (C : Nat → Nat → Int) (xs : List Nat) (a : Nat) : Nat → Nat → Nat → Nat
  | 0, i, _ => i
  | f + 1, i, j => if i < j then (if C (nth xs ((i + j) / 2)) (nth xs a) < 0 then bs1 C xs a f ((i + j) / 2 + 1) j else bs1 C xs a f i ((i + j) / 2)) else i
def bs2 (C : Nat → Nat → Int) (xs : List Nat) (m : Nat) : Nat → Nat → Nat → Nat
  | 0, i, _ => i
  | f + 1, i, j => if i < j then (if C (nth xs m) (nth xs ((i + j) / 2)) < 0 then bs2 C xs m f i ((i + j) / 2) else bs2 C xs m f ((i + j) / 2 + 1) j) else i
def bs3 (C : Nat → Nat → Int) (xs : List Nat) (p : Nat) : Nat → Nat → Nat → Nat
  | 0, i, _ => i
  | f + 1, i, j => if i < j then (if C (nth xs (p - (i + j) / 2)) (nth xs ((i + j) / 2)) < 0 then bs3 C xs p f i ((i + j) / 2) else bs3 C xs p f ((i + j) / 2 + 1) j) else i
/-- An element goes up, or down, one place at a time. -/
def shU : Nat → Nat → List Nat → List Nat
  | 0, _, xs => xs
  | n + 1, k, xs => shU n (k + 1) (swp xs k (k + 1))
def shD : Nat → Nat → List Nat → List Nat
  | 0, _, xs => xs
  | n + 1, k, xs => shD n (k - 1) (swp xs k (k - 1))
theorem half {i j : Nat} : ((i : Int) + j).fdiv 2 = (((i + j) / 2 : Nat) : Int) := by
  rw [Int.fdiv_eq_ediv_of_nonneg _ (by omega)]; omega
section
variable {hp : List Nat → Heap} {D L : Nat} {F : AV} {C : Nat → Nat → Int}
theorem symMerge_L0 (H : Hp hp D) (K : Cm hp L F C) (len : Nat) (hlen : len ≤ 1000000000) (a N : Nat) (ha : a < len) (xs : List Nat) (hx : xs.length = len) (u : Und L xs) : ∀ (f i j : Nat), j - i ≤ f → i ≤ j → j ≤ len →
    (Dn prog).code (.loop c_slices_symMergeCmpFunc_int_L0) ⟨[(0, .sl D 0 len), (1, .d (.int .i64 a)), (4, F), (10, .d (.int .i64 i)), (11, .d (.int .i64 j))], ⟨hp xs, N⟩⟩ =
    some (.exit 0, ⟨[(0, .sl D 0 len), (1, .d (.int .i64 a)), (10, .d (.int .i64 (bs1 C xs a f i j : Nat)))], ⟨hp xs, N⟩⟩) := by
  intro f
  induction f with
  | zero =>
    intro i j h1 h2 h3
    rw [loop_unf c_slices_symMergeCmpFunc_int_L0.eq_1]
    simp (config := { maxSteps := 300000 }) (disch := omega) [if_pos, if_neg, bs1, K.sh, K.fi]
  | succ f ih =>
    intro i j h1 h2 h3
    rw [loop_unf c_slices_symMergeCmpFunc_int_L0.eq_1]
    by_cases h : i < j
    · have hf := half (i := i) (j := j)
      rw [bs1, if_pos h]
      have q1 : i ≤ (i + j) / 2 ∧ (i + j) / 2 < j := by omega
      generalize (i + j) / 2 = q at *
      have hc := K.cl xs N _ _ (u.nth (i := q) (by omega)) (u.nth (i := a) (by omega))
      by_cases g : C (nth xs q) (nth xs a) < 0
      · have h5 := ih (q + 1) j (by omega) (by omega) h3
        rw [if_pos g, ← h5]
        simp (config := { maxSteps := 300000 }) (disch := omega) [if_pos, if_neg, K.sh, K.fi, H.get, H.put, hc, hf]
      · have h5 := ih i q (by omega) (by omega) (by omega)
        rw [if_neg g, ← h5]
        simp (config := { maxSteps := 300000 }) (disch := omega) [if_pos, if_neg, K.sh, K.fi, H.get, H.put, hc, hf]
    · rw [bs1, if_neg h]
      simp (config := { maxSteps := 300000 }) (disch := omega) [if_pos, if_neg, K.sh, K.fi]
theorem symMerge_L1 (H : Hp hp D) (len : Nat) (hlen : len ≤ 1000000000) (I N : Nat) (hI : I ≤ len) : ∀ (n k : Nat) (xs : List Nat), k + n = I - 1 → xs.length = len →
    (Dn prog).code (.loop c_slices_symMergeCmpFunc_int_L1) ⟨[(0, .sl D 0 len), (10, .d (.int .i64 I)), (13, .d (.int .i64 k))], ⟨hp xs, N⟩⟩ = some (.exit 2, ⟨[], ⟨hp (shU n k xs), N⟩⟩) := by
  intro n
  induction n with
  | zero =>
    intro k xs h hx
    rw [loop_unf c_slices_symMergeCmpFunc_int_L1.eq_1]
    simp (config := { maxSteps := 300000 }) (disch := omega) [if_pos, if_neg, shU]
  | succ n ih =>
    intro k xs h hx
    rw [loop_unf c_slices_symMergeCmpFunc_int_L1.eq_1]
    have l1 := List.length_set (as := xs) (i := k) (a := nth xs (k + 1))
    have h5 := ih (k + 1) (swp xs k (k + 1)) (by omega) (by simpa using hx)
    rw [shU, ← h5]
    simp (config := { maxSteps := 300000 }) (disch := omega) [if_pos, if_neg, H.get, H.put]
    rfl
theorem symMerge_L2 (H : Hp hp D) (K : Cm hp L F C) (len : Nat) (hlen : len ≤ 1000000000) (m N : Nat) (ha : m < len) (xs : List Nat) (hx : xs.length = len) (u : Und L xs) : ∀ (f i j : Nat), j - i ≤ f → i ≤ j → j ≤ len →
    (Dn prog).code (.loop c_slices_symMergeCmpFunc_int_L2) ⟨[(0, .sl D 0 len), (2, .d (.int .i64 m)), (4, F), (14, .d (.int .i64 i)), (15, .d (.int .i64 j))], ⟨hp xs, N⟩⟩ =
    some (.exit 4, ⟨[(0, .sl D 0 len), (2, .d (.int .i64 m)), (14, .d (.int .i64 (bs2 C xs m f i j : Nat)))], ⟨hp xs, N⟩⟩) := by
  intro f
  induction f with
  | zero =>
    intro i j h1 h2 h3
    rw [loop_unf c_slices_symMergeCmpFunc_int_L2.eq_1]
    simp (config := { maxSteps := 300000 }) (disch := omega) [if_pos, if_neg, bs2, K.sh, K.fi]
  | succ f ih =>
    intro i j h1 h2 h3
    rw [loop_unf c_slices_symMergeCmpFunc_int_L2.eq_1]
    by_cases h : i < j
    · have hf := half (i := i) (j := j)
      rw [bs2, if_pos h]
      have q1 : i ≤ (i + j) / 2 ∧ (i + j) / 2 < j := by omega
      generalize (i + j) / 2 = q at *
      have hc := K.cl xs N _ _ (u.nth (i := m) (by omega)) (u.nth (i := q) (by omega))
      by_cases g : C (nth xs m) (nth xs q) < 0
      · have h5 := ih i q (by omega) (by omega) (by omega)
        rw [if_pos g, ← h5]
        simp (config := { maxSteps := 300000 }) (disch := omega) [if_pos, if_neg, K.sh, K.fi, H.get, H.put, hc, hf]
      · have h5 := ih (q + 1) j (by omega) (by omega) h3
        rw [if_neg g, ← h5]
        simp (config := { maxSteps := 300000 }) (disch := omega) [if_pos, if_neg, K.sh, K.fi, H.get, H.put, hc, hf]
    · rw [bs2, if_neg h]
      simp (config := { maxSteps := 300000 }) (disch := omega) [if_pos, if_neg, K.sh, K.fi]
theorem symMerge_L3 (H : Hp hp D) (len : Nat) (hlen : len ≤ 1000000000) (I N : Nat) : ∀ (n k : Nat) (xs : List Nat), I + n = k → k < len → xs.length = len →
    (Dn prog).code (.loop c_slices_symMergeCmpFunc_int_L3) ⟨[(0, .sl D 0 len), (14, .d (.int .i64 I)), (17, .d (.int .i64 k))], ⟨hp xs, N⟩⟩ = some (.exit 6, ⟨[], ⟨hp (shD n k xs), N⟩⟩) := by
  intro n
  induction n with
  | zero =>
    intro k xs h hk hx
    rw [loop_unf c_slices_symMergeCmpFunc_int_L3.eq_1]
    simp (config := { maxSteps := 300000 }) (disch := omega) [if_pos, if_neg, shD]
  | succ n ih =>
    intro k xs h hk hx
    obtain ⟨q, rfl⟩ : ∃ q, k = q + 1 := ⟨k - 1, by omega⟩
    rw [loop_unf c_slices_symMergeCmpFunc_int_L3.eq_1]
    have l1 := List.length_set (as := xs) (i := q + 1) (a := nth xs q)
    have h5 := ih q (swp xs (q + 1) q) (by omega) (by omega) (by simpa using hx)
    rw [shD, Nat.add_sub_cancel, ← h5]
    simp (config := { maxSteps := 300000 }) (disch := omega) [if_pos, if_neg, H.get, H.put]
    rfl
theorem symMerge_L4 (H : Hp hp D) (K : Cm hp L F C) (len : Nat) (hlen : len ≤ 1000000000) (a m b M n p N : Nat) (xs : List Nat) (hx : xs.length = len) (u : Und L xs) : ∀ (f i j : Nat), j - i ≤ f → i ≤ j → j ≤ len → j ≤ p + 1 → p < len + i →
    (Dn prog).code (.loop c_slices_symMergeCmpFunc_int_L4) ⟨[(0, .sl D 0 len), (1, .d (.int .i64 a)), (2, .d (.int .i64 m)), (3, .d (.int .i64 b)), (4, F), (18, .d (.int .i64 M)), (19, .d (.int .i64 n)), (20, .d (.int .i64 i)), (21, .d (.int .i64 j)), (22, .d (.int .i64 p))], ⟨hp xs, N⟩⟩ =
    some (.exit 8, ⟨[(0, .sl D 0 len), (1, .d (.int .i64 a)), (2, .d (.int .i64 m)), (3, .d (.int .i64 b)), (4, F), (18, .d (.int .i64 M)), (19, .d (.int .i64 n)), (20, .d (.int .i64 (bs3 C xs p f i j : Nat)))], ⟨hp xs, N⟩⟩) := by
  intro f
  induction f with
  | zero =>
    intro i j h1 h2 h3 h4 h5
    rw [loop_unf c_slices_symMergeCmpFunc_int_L4.eq_1]
    simp (config := { maxSteps := 300000 }) (disch := omega) [if_pos, if_neg, bs3, K.sh, K.fi]
  | succ f ih =>
    intro i j h1 h2 h3 h4 h5
    rw [loop_unf c_slices_symMergeCmpFunc_int_L4.eq_1]
    by_cases h : i < j
    · have hf := half (i := i) (j := j)
      rw [bs3, if_pos h]
      have q1 : i ≤ (i + j) / 2 ∧ (i + j) / 2 < j := by omega
      generalize (i + j) / 2 = q at *
      have hp1 : p - q < len := by omega
      have hpq : ((p : Int) - q) = ((p - q : Nat) : Int) := by omega
      generalize p - q = r at *
      have hc := K.cl xs N _ _ (u.nth (i := r) (by omega)) (u.nth (i := q) (by omega))
      by_cases g : C (nth xs r) (nth xs q) < 0
      · have h6 := ih i q (by omega) (by omega) (by omega) (by omega) (by omega)
        rw [if_pos g, ← h6]
        simp (config := { maxSteps := 300000 }) (disch := omega) [if_pos, if_neg, K.sh, K.fi, H.get, H.put, hc, hf, hpq]
      · have h6 := ih (q + 1) j (by omega) (by omega) h3 (by omega) (by omega)
        rw [if_neg g, ← h6]
        simp (config := { maxSteps := 300000 }) (disch := omega) [if_pos, if_neg, K.sh, K.fi, H.get, H.put, hc, hf, hpq]
    · rw [bs3, if_neg h]
      simp (config := { maxSteps := 300000 }) (disch := omega) [if_pos, if_neg, K.sh, K.fi]
end
/-- Two sorted neighbours are merged. -/
def symM (C : Nat → Nat → Int) : Nat → List Nat → Nat → Nat → Nat → List Nat
  | 0, xs, _, _, _ => xs
  | f + 1, xs, a, m, b =>
    if m - a = 1 then shU (bs1 C xs a (b - m) m b - 1 - a) a xs
    else if b - m = 1 then shD (m - bs2 C xs m (m - a) a m) m xs
    else
      let s := if (a + b) / 2 < m then bs3 C xs ((a + b) / 2 + m - 1) (b - a) ((a + b) / 2 + m - b) ((a + b) / 2) else bs3 C xs ((a + b) / 2 + m - 1) (b - a) a m
      let e := (a + b) / 2 + m - s
      let ys := if s < m ∧ m < e then rot m (e - s) xs (m - s) (e - m) else xs
      let zs := if a < s ∧ s < (a + b) / 2 then symM C f ys a s ((a + b) / 2) else ys
      if (a + b) / 2 < e ∧ e < b then symM C f zs ((a + b) / 2) e b else zs
theorem bs1_in {C : Nat → Nat → Int} {xs : List Nat} {a : Nat} : ∀ {f i j : Nat}, i ≤ j → i ≤ bs1 C xs a f i j ∧ bs1 C xs a f i j ≤ j
  | 0, i, j, h => ⟨Nat.le_refl _, h⟩
  | f + 1, i, j, h => by
    rw [bs1]
    split
    · split
      · have := bs1_in (C := C) (xs := xs) (a := a) (f := f) (i := (i + j) / 2 + 1) (j := j) (by omega); omega
      · have := bs1_in (C := C) (xs := xs) (a := a) (f := f) (i := i) (j := (i + j) / 2) (by omega); omega
    · exact ⟨Nat.le_refl _, h⟩
theorem bs2_in {C : Nat → Nat → Int} {xs : List Nat} {m : Nat} : ∀ {f i j : Nat}, i ≤ j → i ≤ bs2 C xs m f i j ∧ bs2 C xs m f i j ≤ j
  | 0, i, j, h => ⟨Nat.le_refl _, h⟩
  | f + 1, i, j, h => by
    rw [bs2]
    split
    · split
      · have := bs2_in (C := C) (xs := xs) (m := m) (f := f) (i := i) (j := (i + j) / 2) (by omega); omega
      · have := bs2_in (C := C) (xs := xs) (m := m) (f := f) (i := (i + j) / 2 + 1) (j := j) (by omega); omega
    · exact ⟨Nat.le_refl _, h⟩
theorem bs3_in {C : Nat → Nat → Int} {xs : List Nat} {p : Nat} : ∀ {f i j : Nat}, i ≤ j → i ≤ bs3 C xs p f i j ∧ bs3 C xs p f i j ≤ j
  | 0, i, j, h => ⟨Nat.le_refl _, h⟩
  | f + 1, i, j, h => by
    rw [bs3]
    split
    · split
      · have := bs3_in (C := C) (xs := xs) (p := p) (f := f) (i := i) (j := (i + j) / 2) (by omega); omega
      · have := bs3_in (C := C) (xs := xs) (p := p) (f := f) (i := (i + j) / 2 + 1) (j := j) (by omega); omega
    · exact ⟨Nat.le_refl _, h⟩
theorem shU_len : ∀ {n k : Nat} {xs : List Nat}, (shU n k xs).length = xs.length
  | 0, _, _ => rfl
  | n + 1, k, xs => by rw [shU, shU_len, swp_len]
theorem shD_len : ∀ {n k : Nat} {xs : List Nat}, (shD n k xs).length = xs.length
  | 0, _, _ => rfl
  | n + 1, k, xs => by rw [shD, shD_len, swp_len]
theorem Und.shU {L : Nat} : ∀ {n k : Nat} {xs : List Nat}, Und L xs → k + n < xs.length → Und L (shU n k xs)
  | 0, _, _, u, _ => u
  | n + 1, k, xs, u, h => by rw [Vm.shU]; exact (u.swp (by omega) (by omega)).shU (by rw [swp_len]; omega)
theorem Und.shD {L : Nat} : ∀ {n k : Nat} {xs : List Nat}, Und L xs → k < xs.length → Und L (shD n k xs)
  | 0, _, _, u, _ => u
  | n + 1, k, xs, u, h => by rw [Vm.shD]; exact (u.swp (by omega) (by omega)).shD (by rw [swp_len]; omega)
end Go.Vm

namespace Go.Vm
set_option linter.unusedVariables false
set_option linter.unusedSimpArgs false
theorem symM_len {C : Nat → Nat → Int} : ∀ {f : Nat} {xs : List Nat} {a m b : Nat}, (symM C f xs a m b).length = xs.length
  | 0, _, _, _, _ => rfl
  | f + 1, xs, a, m, b => by
    rw [symM]
    split
    · exact shU_len
    · split
      · exact shD_len
      · simp only
        repeat' split
        all_goals simp only [symM_len, rot_len]
theorem Und.symM {L : Nat} {C : Nat → Nat → Int} : ∀ {f : Nat} {xs : List Nat} {a m b : Nat}, Und L xs → a < m → m < b → b ≤ xs.length → Und L (symM C f xs a m b)
  | 0, _, _, _, _, u, _, _, _ => u
  | f + 1, xs, a, m, b, u, h1, h2, h3 => by
    rw [Go.Vm.symM]
    split
    · have := bs1_in (C := C) (xs := xs) (a := a) (f := b - m) (i := m) (j := b) (by omega)
      exact u.shU (by omega)
    · split
      · exact u.shD (by omega)
      · simp only
        generalize hs : (if (a + b) / 2 < m then bs3 C xs ((a + b) / 2 + m - 1) (b - a) ((a + b) / 2 + m - b) ((a + b) / 2) else bs3 C xs ((a + b) / 2 + m - 1) (b - a) a m) = s
        have s1 : s ≤ m ∧ s ≤ (a + b) / 2 + m ∧ a ≤ s + 1 ∧ (a + b) / 2 + m - s ≤ b := by
          subst hs
          split
          · have := bs3_in (C := C) (xs := xs) (p := (a + b) / 2 + m - 1) (f := b - a) (i := (a + b) / 2 + m - b) (j := (a + b) / 2) (by omega)
            omega
          · have := bs3_in (C := C) (xs := xs) (p := (a + b) / 2 + m - 1) (f := b - a) (i := a) (j := m) (by omega)
            omega
        generalize hys : (if s < m ∧ m < (a + b) / 2 + m - s then Go.Vm.rot m ((a + b) / 2 + m - s - s) xs (m - s) ((a + b) / 2 + m - s - m) else xs) = ys
        have uy : Und L ys ∧ ys.length = xs.length := by
          subst hys
          split
          · exact ⟨u.rot (by omega) (by omega), rot_len⟩
          · exact ⟨u, rfl⟩
        generalize hzs : (if a < s ∧ s < (a + b) / 2 then Go.Vm.symM C f ys a s ((a + b) / 2) else ys) = zs
        have uz : Und L zs ∧ zs.length = xs.length := by
          subst hzs
          split
          · exact ⟨uy.1.symM (by omega) (by omega) (by omega), by rw [symM_len]; exact uy.2⟩
          · exact uy
        split
        · exact uz.1.symM (by omega) (by omega) (by omega)
        · exact uz.1
section
variable {hp : List Nat → Heap} {D L : Nat} {F : AV} {C : Nat → Nat → Int}
theorem symMerge_nr (H : Hp hp D) (K : Cm hp L F C) (len : Nat) (hlen : len ≤ 1000000000) (N f : Nat) (ih : ∀ (a m b : Nat) (xs : List Nat), b - a ≤ f → a < m → m < b → b ≤ len → xs.length = len → Und L xs →
    (Dn prog).call f_slices_symMergeCmpFunc_int [.sl D 0 len, .d (.int .i64 a), .d (.int .i64 m), .d (.int .i64 b), F] ⟨hp xs, N⟩ = some (.tup [], ⟨hp (symM C f xs a m b), N⟩))
    (a m b : Nat) (xs : List Nat) (h1 : b - a ≤ f + 1) (h2 : a < m) (h3 : m < b) (h4 : b ≤ len) (hx : xs.length = len) (u : Und L xs) (c1 : ¬ m - a = 1) (c2 : ¬ b - m = 1) (c3 : (a + b) / 2 < m) (d1 : (bs3 C xs ((a + b) / 2 + m - 1) (b - a) ((a + b) / 2 + m - b) ((a + b) / 2) < m ∧ m < (a + b) / 2 + m - bs3 C xs ((a + b) / 2 + m - 1) (b - a) ((a + b) / 2 + m - b) ((a + b) / 2))) :
    (Dn prog).call f_slices_symMergeCmpFunc_int [.sl D 0 len, .d (.int .i64 a), .d (.int .i64 m), .d (.int .i64 b), F] ⟨hp xs, N⟩ = some (.tup [], ⟨hp (symM C (f + 1) xs a m b), N⟩) := by
  rw [call_fn p_slices_symMergeCmpFunc_int c_slices_symMergeCmpFunc_int.eq_1 rfl, symM, if_neg c1, if_neg c2]
  simp only
  have hf := half (i := a) (j := b)
  have q1 : a < (a + b) / 2 ∧ (a + b) / 2 < b ∧ (a + b) / 2 * 2 ≤ a + b ∧ a + b ≤ (a + b) / 2 * 2 + 1 := by omega
  rw [if_pos c3]
  generalize (a + b) / 2 = M at *
  have cn : ((M + m : Nat) : Int) = (M : Int) + m := rfl
  have cp : ((M + m - 1 : Nat) : Int) = (M : Int) + m - 1 := by omega
  have s1 := bs3_in (C := C) (xs := xs) (p := M + m - 1) (f := b - a) (i := M + m - b) (j := M) (by omega)
  have g4 := symMerge_L4 H K len hlen a m b M (M + m) (M + m - 1) N xs hx u (b - a) (M + m - b) M (by omega) (by omega) (by omega) (by omega) (by omega)
  have ci : ((M + m - b : Nat) : Int) = (M : Int) + m - b := by omega
  rw [cn, cp, ci] at g4
  generalize bs3 C xs (M + m - 1) (b - a) (M + m - b) M = s at *
  have ce : ((M + m - s : Nat) : Int) = (M : Int) + m - s := by omega
  rw [if_pos d1]
  have hr := rotate H F K.sh K.fi len hlen s m (M + m - s) N d1.1 d1.2 (by omega) xs hx
  have uy : Und L (rot m (M + m - s - s) xs (m - s) (M + m - s - m)) := u.rot (by omega) (by omega)
  have ly : (rot m (M + m - s - s) xs (m - s) (M + m - s - m)).length = len := by rw [rot_len]; exact hx
  generalize rot m (M + m - s - s) xs (m - s) (M + m - s - m) = ys at *
  rw [ce] at hr
  by_cases d2 : a < s ∧ s < M
  · rw [if_pos d2]
    have h6 := ih a s M ys (by omega) d2.1 d2.2 (by omega) ly uy
    have uz : Und L (symM C f ys a s M) := uy.symM d2.1 d2.2 (by omega)
    have lz : (symM C f ys a s M).length = len := by rw [symM_len]; exact ly
    generalize symM C f ys a s M = zs at *
    by_cases d3 : M < M + m - s ∧ M + m - s < b
    · rw [if_pos d3]
      have h7 := ih M (M + m - s) b zs (by omega) d3.1 d3.2 h4 lz uz
      rw [ce] at h7
      first
        | (exfalso; omega)
        | simp (config := { maxSteps := 300000 }) (disch := omega) [if_pos, if_neg, K.sh, K.fi, hf, g4, hr, h6, h7]
    · rw [if_neg d3]
      have h7 : True := trivial
      first
        | (exfalso; omega)
        | simp (config := { maxSteps := 300000 }) (disch := omega) [if_pos, if_neg, K.sh, K.fi, hf, g4, hr, h6, h7]
  · rw [if_neg d2]
    have uz := uy
    have lz := ly
    have h6 : True := trivial
    by_cases d3 : M < M + m - s ∧ M + m - s < b
    · rw [if_pos d3]
      have h7 := ih M (M + m - s) b ys (by omega) d3.1 d3.2 h4 lz uz
      rw [ce] at h7
      first
        | (exfalso; omega)
        | simp (config := { maxSteps := 300000 }) (disch := omega) [if_pos, if_neg, K.sh, K.fi, hf, g4, hr, h6, h7]
    · rw [if_neg d3]
      have h7 : True := trivial
      first
        | (exfalso; omega)
        | simp (config := { maxSteps := 300000 }) (disch := omega) [if_pos, if_neg, K.sh, K.fi, hf, g4, hr, h6, h7]
theorem symMerge_nk (H : Hp hp D) (K : Cm hp L F C) (len : Nat) (hlen : len ≤ 1000000000) (N f : Nat) (ih : ∀ (a m b : Nat) (xs : List Nat), b - a ≤ f → a < m → m < b → b ≤ len → xs.length = len → Und L xs →
    (Dn prog).call f_slices_symMergeCmpFunc_int [.sl D 0 len, .d (.int .i64 a), .d (.int .i64 m), .d (.int .i64 b), F] ⟨hp xs, N⟩ = some (.tup [], ⟨hp (symM C f xs a m b), N⟩))
    (a m b : Nat) (xs : List Nat) (h1 : b - a ≤ f + 1) (h2 : a < m) (h3 : m < b) (h4 : b ≤ len) (hx : xs.length = len) (u : Und L xs) (c1 : ¬ m - a = 1) (c2 : ¬ b - m = 1) (c3 : (a + b) / 2 < m) (d1 : ¬ (bs3 C xs ((a + b) / 2 + m - 1) (b - a) ((a + b) / 2 + m - b) ((a + b) / 2) < m ∧ m < (a + b) / 2 + m - bs3 C xs ((a + b) / 2 + m - 1) (b - a) ((a + b) / 2 + m - b) ((a + b) / 2))) :
    (Dn prog).call f_slices_symMergeCmpFunc_int [.sl D 0 len, .d (.int .i64 a), .d (.int .i64 m), .d (.int .i64 b), F] ⟨hp xs, N⟩ = some (.tup [], ⟨hp (symM C (f + 1) xs a m b), N⟩) := by
  rw [call_fn p_slices_symMergeCmpFunc_int c_slices_symMergeCmpFunc_int.eq_1 rfl, symM, if_neg c1, if_neg c2]
  simp only
  have hf := half (i := a) (j := b)
  have q1 : a < (a + b) / 2 ∧ (a + b) / 2 < b ∧ (a + b) / 2 * 2 ≤ a + b ∧ a + b ≤ (a + b) / 2 * 2 + 1 := by omega
  rw [if_pos c3]
  generalize (a + b) / 2 = M at *
  have cn : ((M + m : Nat) : Int) = (M : Int) + m := rfl
  have cp : ((M + m - 1 : Nat) : Int) = (M : Int) + m - 1 := by omega
  have s1 := bs3_in (C := C) (xs := xs) (p := M + m - 1) (f := b - a) (i := M + m - b) (j := M) (by omega)
  have g4 := symMerge_L4 H K len hlen a m b M (M + m) (M + m - 1) N xs hx u (b - a) (M + m - b) M (by omega) (by omega) (by omega) (by omega) (by omega)
  have ci : ((M + m - b : Nat) : Int) = (M : Int) + m - b := by omega
  rw [cn, cp, ci] at g4
  generalize bs3 C xs (M + m - 1) (b - a) (M + m - b) M = s at *
  have ce : ((M + m - s : Nat) : Int) = (M : Int) + m - s := by omega
  rw [if_neg d1]
  have uy := u
  have ly := hx
  have hr : True := trivial
  by_cases d2 : a < s ∧ s < M
  · rw [if_pos d2]
    have h6 := ih a s M xs (by omega) d2.1 d2.2 (by omega) ly uy
    have uz : Und L (symM C f xs a s M) := uy.symM d2.1 d2.2 (by omega)
    have lz : (symM C f xs a s M).length = len := by rw [symM_len]; exact ly
    generalize symM C f xs a s M = zs at *
    by_cases d3 : M < M + m - s ∧ M + m - s < b
    · rw [if_pos d3]
      have h7 := ih M (M + m - s) b zs (by omega) d3.1 d3.2 h4 lz uz
      rw [ce] at h7
      first
        | (exfalso; omega)
        | simp (config := { maxSteps := 300000 }) (disch := omega) [if_pos, if_neg, K.sh, K.fi, hf, g4, hr, h6, h7]
    · rw [if_neg d3]
      have h7 : True := trivial
      first
        | (exfalso; omega)
        | simp (config := { maxSteps := 300000 }) (disch := omega) [if_pos, if_neg, K.sh, K.fi, hf, g4, hr, h6, h7]
  · rw [if_neg d2]
    have uz := uy
    have lz := ly
    have h6 : True := trivial
    by_cases d3 : M < M + m - s ∧ M + m - s < b
    · rw [if_pos d3]
      have h7 := ih M (M + m - s) b xs (by omega) d3.1 d3.2 h4 lz uz
      rw [ce] at h7
      first
        | (exfalso; omega)
        | simp (config := { maxSteps := 300000 }) (disch := omega) [if_pos, if_neg, K.sh, K.fi, hf, g4, hr, h6, h7]
    · rw [if_neg d3]
      have h7 : True := trivial
      first
        | (exfalso; omega)
        | simp (config := { maxSteps := 300000 }) (disch := omega) [if_pos, if_neg, K.sh, K.fi, hf, g4, hr, h6, h7]
theorem symMerge_or (H : Hp hp D) (K : Cm hp L F C) (len : Nat) (hlen : len ≤ 1000000000) (N f : Nat) (ih : ∀ (a m b : Nat) (xs : List Nat), b - a ≤ f → a < m → m < b → b ≤ len → xs.length = len → Und L xs →
    (Dn prog).call f_slices_symMergeCmpFunc_int [.sl D 0 len, .d (.int .i64 a), .d (.int .i64 m), .d (.int .i64 b), F] ⟨hp xs, N⟩ = some (.tup [], ⟨hp (symM C f xs a m b), N⟩))
    (a m b : Nat) (xs : List Nat) (h1 : b - a ≤ f + 1) (h2 : a < m) (h3 : m < b) (h4 : b ≤ len) (hx : xs.length = len) (u : Und L xs) (c1 : ¬ m - a = 1) (c2 : ¬ b - m = 1) (c3 : ¬ (a + b) / 2 < m) (d1 : (bs3 C xs ((a + b) / 2 + m - 1) (b - a) a m < m ∧ m < (a + b) / 2 + m - bs3 C xs ((a + b) / 2 + m - 1) (b - a) a m)) :
    (Dn prog).call f_slices_symMergeCmpFunc_int [.sl D 0 len, .d (.int .i64 a), .d (.int .i64 m), .d (.int .i64 b), F] ⟨hp xs, N⟩ = some (.tup [], ⟨hp (symM C (f + 1) xs a m b), N⟩) := by
  rw [call_fn p_slices_symMergeCmpFunc_int c_slices_symMergeCmpFunc_int.eq_1 rfl, symM, if_neg c1, if_neg c2]
  simp only
  have hf := half (i := a) (j := b)
  have q1 : a < (a + b) / 2 ∧ (a + b) / 2 < b ∧ (a + b) / 2 * 2 ≤ a + b ∧ a + b ≤ (a + b) / 2 * 2 + 1 := by omega
  rw [if_neg c3]
  generalize (a + b) / 2 = M at *
  have cn : ((M + m : Nat) : Int) = (M : Int) + m := rfl
  have cp : ((M + m - 1 : Nat) : Int) = (M : Int) + m - 1 := by omega
  have s1 := bs3_in (C := C) (xs := xs) (p := M + m - 1) (f := b - a) (i := a) (j := m) (by omega)
  have g4 := symMerge_L4 H K len hlen a m b M (M + m) (M + m - 1) N xs hx u (b - a) a m (by omega) (by omega) (by omega) (by omega) (by omega)
  rw [cn, cp] at g4
  generalize bs3 C xs (M + m - 1) (b - a) a m = s at *
  have ce : ((M + m - s : Nat) : Int) = (M : Int) + m - s := by omega
  rw [if_pos d1]
  have hr := rotate H F K.sh K.fi len hlen s m (M + m - s) N d1.1 d1.2 (by omega) xs hx
  have uy : Und L (rot m (M + m - s - s) xs (m - s) (M + m - s - m)) := u.rot (by omega) (by omega)
  have ly : (rot m (M + m - s - s) xs (m - s) (M + m - s - m)).length = len := by rw [rot_len]; exact hx
  generalize rot m (M + m - s - s) xs (m - s) (M + m - s - m) = ys at *
  rw [ce] at hr
  by_cases d2 : a < s ∧ s < M
  · rw [if_pos d2]
    have h6 := ih a s M ys (by omega) d2.1 d2.2 (by omega) ly uy
    have uz : Und L (symM C f ys a s M) := uy.symM d2.1 d2.2 (by omega)
    have lz : (symM C f ys a s M).length = len := by rw [symM_len]; exact ly
    generalize symM C f ys a s M = zs at *
    by_cases d3 : M < M + m - s ∧ M + m - s < b
    · rw [if_pos d3]
      have h7 := ih M (M + m - s) b zs (by omega) d3.1 d3.2 h4 lz uz
      rw [ce] at h7
      first
        | (exfalso; omega)
        | simp (config := { maxSteps := 300000 }) (disch := omega) [if_pos, if_neg, K.sh, K.fi, hf, g4, hr, h6, h7]
    · rw [if_neg d3]
      have h7 : True := trivial
      first
        | (exfalso; omega)
        | simp (config := { maxSteps := 300000 }) (disch := omega) [if_pos, if_neg, K.sh, K.fi, hf, g4, hr, h6, h7]
  · rw [if_neg d2]
    have uz := uy
    have lz := ly
    have h6 : True := trivial
    by_cases d3 : M < M + m - s ∧ M + m - s < b
    · rw [if_pos d3]
      have h7 := ih M (M + m - s) b ys (by omega) d3.1 d3.2 h4 lz uz
      rw [ce] at h7
      first
        | (exfalso; omega)
        | simp (config := { maxSteps := 300000 }) (disch := omega) [if_pos, if_neg, K.sh, K.fi, hf, g4, hr, h6, h7]
    · rw [if_neg d3]
      have h7 : True := trivial
      first
        | (exfalso; omega)
        | simp (config := { maxSteps := 300000 }) (disch := omega) [if_pos, if_neg, K.sh, K.fi, hf, g4, hr, h6, h7]
theorem symMerge_ok (H : Hp hp D) (K : Cm hp L F C) (len : Nat) (hlen : len ≤ 1000000000) (N f : Nat) (ih : ∀ (a m b : Nat) (xs : List Nat), b - a ≤ f → a < m → m < b → b ≤ len → xs.length = len → Und L xs →
    (Dn prog).call f_slices_symMergeCmpFunc_int [.sl D 0 len, .d (.int .i64 a), .d (.int .i64 m), .d (.int .i64 b), F] ⟨hp xs, N⟩ = some (.tup [], ⟨hp (symM C f xs a m b), N⟩))
    (a m b : Nat) (xs : List Nat) (h1 : b - a ≤ f + 1) (h2 : a < m) (h3 : m < b) (h4 : b ≤ len) (hx : xs.length = len) (u : Und L xs) (c1 : ¬ m - a = 1) (c2 : ¬ b - m = 1) (c3 : ¬ (a + b) / 2 < m) (d1 : ¬ (bs3 C xs ((a + b) / 2 + m - 1) (b - a) a m < m ∧ m < (a + b) / 2 + m - bs3 C xs ((a + b) / 2 + m - 1) (b - a) a m)) :
    (Dn prog).call f_slices_symMergeCmpFunc_int [.sl D 0 len, .d (.int .i64 a), .d (.int .i64 m), .d (.int .i64 b), F] ⟨hp xs, N⟩ = some (.tup [], ⟨hp (symM C (f + 1) xs a m b), N⟩) := by
  rw [call_fn p_slices_symMergeCmpFunc_int c_slices_symMergeCmpFunc_int.eq_1 rfl, symM, if_neg c1, if_neg c2]
  simp only
  have hf := half (i := a) (j := b)
  have q1 : a < (a + b) / 2 ∧ (a + b) / 2 < b ∧ (a + b) / 2 * 2 ≤ a + b ∧ a + b ≤ (a + b) / 2 * 2 + 1 := by omega
  rw [if_neg c3]
  generalize (a + b) / 2 = M at *
  have cn : ((M + m : Nat) : Int) = (M : Int) + m := rfl
  have cp : ((M + m - 1 : Nat) : Int) = (M : Int) + m - 1 := by omega
  have s1 := bs3_in (C := C) (xs := xs) (p := M + m - 1) (f := b - a) (i := a) (j := m) (by omega)
  have g4 := symMerge_L4 H K len hlen a m b M (M + m) (M + m - 1) N xs hx u (b - a) a m (by omega) (by omega) (by omega) (by omega) (by omega)
  rw [cn, cp] at g4
  generalize bs3 C xs (M + m - 1) (b - a) a m = s at *
  have ce : ((M + m - s : Nat) : Int) = (M : Int) + m - s := by omega
  rw [if_neg d1]
  have uy := u
  have ly := hx
  have hr : True := trivial
  by_cases d2 : a < s ∧ s < M
  · rw [if_pos d2]
    have h6 := ih a s M xs (by omega) d2.1 d2.2 (by omega) ly uy
    have uz : Und L (symM C f xs a s M) := uy.symM d2.1 d2.2 (by omega)
    have lz : (symM C f xs a s M).length = len := by rw [symM_len]; exact ly
    generalize symM C f xs a s M = zs at *
    by_cases d3 : M < M + m - s ∧ M + m - s < b
    · rw [if_pos d3]
      have h7 := ih M (M + m - s) b zs (by omega) d3.1 d3.2 h4 lz uz
      rw [ce] at h7
      first
        | (exfalso; omega)
        | simp (config := { maxSteps := 300000 }) (disch := omega) [if_pos, if_neg, K.sh, K.fi, hf, g4, hr, h6, h7]
    · rw [if_neg d3]
      have h7 : True := trivial
      first
        | (exfalso; omega)
        | simp (config := { maxSteps := 300000 }) (disch := omega) [if_pos, if_neg, K.sh, K.fi, hf, g4, hr, h6, h7]
  · rw [if_neg d2]
    have uz := uy
    have lz := ly
    have h6 : True := trivial
    by_cases d3 : M < M + m - s ∧ M + m - s < b
    · rw [if_pos d3]
      have h7 := ih M (M + m - s) b xs (by omega) d3.1 d3.2 h4 lz uz
      rw [ce] at h7
      first
        | (exfalso; omega)
        | simp (config := { maxSteps := 300000 }) (disch := omega) [if_pos, if_neg, K.sh, K.fi, hf, g4, hr, h6, h7]
    · rw [if_neg d3]
      have h7 : True := trivial
      first
        | (exfalso; omega)
        | simp (config := { maxSteps := 300000 }) (disch := omega) [if_pos, if_neg, K.sh, K.fi, hf, g4, hr, h6, h7]
theorem symMerge (H : Hp hp D) (K : Cm hp L F C) (len : Nat) (hlen : len ≤ 1000000000) (N : Nat) : ∀ (f a m b : Nat) (xs : List Nat), b - a ≤ f → a < m → m < b → b ≤ len → xs.length = len → Und L xs →
    (Dn prog).call f_slices_symMergeCmpFunc_int [.sl D 0 len, .d (.int .i64 a), .d (.int .i64 m), .d (.int .i64 b), F] ⟨hp xs, N⟩ = some (.tup [], ⟨hp (symM C f xs a m b), N⟩) := by
  intro f
  induction f with
  | zero => intro a m b xs h1 h2 h3; omega
  | succ f ih =>
    intro a m b xs h1 h2 h3 h4 hx u
    by_cases c1 : m - a = 1
    · rw [call_fn p_slices_symMergeCmpFunc_int c_slices_symMergeCmpFunc_int.eq_1 rfl, symM, if_pos c1]
      have hb := bs1_in (C := C) (xs := xs) (a := a) (f := b - m) (i := m) (j := b) (by omega)
      have g0 := symMerge_L0 H K len hlen a N (by omega) xs hx u (b - m) m b (by omega) (by omega) h4
      generalize bs1 C xs a (b - m) m b = I at *
      have g1 := symMerge_L1 H len hlen I N (by omega) (I - 1 - a) a xs (by omega) hx
      simp (config := { maxSteps := 300000 }) (disch := omega) [if_pos, if_neg, K.sh, K.fi, g0, g1]
    · by_cases c2 : b - m = 1
      · rw [call_fn p_slices_symMergeCmpFunc_int c_slices_symMergeCmpFunc_int.eq_1 rfl, symM, if_neg c1, if_pos c2]
        have hb := bs2_in (C := C) (xs := xs) (m := m) (f := m - a) (i := a) (j := m) (by omega)
        have g0 := symMerge_L2 H K len hlen m N (by omega) xs hx u (m - a) a m (by omega) (by omega) (by omega)
        generalize bs2 C xs m (m - a) a m = I at *
        have g1 := symMerge_L3 H len hlen I N (m - I) m xs (by omega) (by omega) hx
        simp (config := { maxSteps := 300000 }) (disch := omega) [if_pos, if_neg, K.sh, K.fi, g0, g1]
      · by_cases c3 : (a + b) / 2 < m
        · by_cases d1 : (bs3 C xs ((a + b) / 2 + m - 1) (b - a) ((a + b) / 2 + m - b) ((a + b) / 2) < m ∧ m < (a + b) / 2 + m - bs3 C xs ((a + b) / 2 + m - 1) (b - a) ((a + b) / 2 + m - b) ((a + b) / 2))
          · exact symMerge_nr H K len hlen N f ih a m b xs h1 h2 h3 h4 hx u c1 c2 c3 d1
          · exact symMerge_nk H K len hlen N f ih a m b xs h1 h2 h3 h4 hx u c1 c2 c3 d1
        · by_cases d1 : (bs3 C xs ((a + b) / 2 + m - 1) (b - a) a m < m ∧ m < (a + b) / 2 + m - bs3 C xs ((a + b) / 2 + m - 1) (b - a) a m)
          · exact symMerge_or H K len hlen N f ih a m b xs h1 h2 h3 h4 hx u c1 c2 c3 d1
          · exact symMerge_ok H K len hlen N f ih a m b xs h1 h2 h3 h4 hx u c1 c2 c3 d1
end
end Go.Vm

namespace Go.Vm
set_option linter.unusedVariables false
set_option linter.unusedSimpArgs false
/-- Blocks of 20 are sorted; where the last one begins. -/
def stI (C : Nat → Nat → Int) (n : Nat) : Nat → List Nat → Nat → List Nat × Nat
  | 0, xs, a => (xs, a)
  | f + 1, xs, a => if a + 20 ≤ n then stI C n f (insO C a 19 (a + 1) xs) (a + 20) else (xs, a)
/-- Neighbours of so many are merged. -/
def stM (C : Nat → Nat → Int) (n bs : Nat) : Nat → List Nat → Nat → List Nat × Nat
  | 0, xs, a => (xs, a)
  | f + 1, xs, a => if a + 2 * bs ≤ n then stM C n bs f (symM C (2 * bs) xs a (a + bs) (a + 2 * bs)) (a + 2 * bs) else (xs, a)
def stE (C : Nat → Nat → Int) (n bs : Nat) (p : List Nat × Nat) : List Nat := if p.2 + bs < n then symM C (n - p.2) p.1 p.2 (p.2 + bs) n else p.1
def stL (C : Nat → Nat → Int) (n : Nat) : Nat → List Nat → Nat → List Nat
  | 0, xs, _ => xs
  | f + 1, xs, bs => if bs < n then stL C n f (stE C n bs (stM C n bs n xs 0)) (2 * bs) else xs
def stS (C : Nat → Nat → Int) (n : Nat) (p : List Nat × Nat) : List Nat := insO C p.2 (n - (p.2 + 1)) (p.2 + 1) p.1
def stable (C : Nat → Nat → Int) (n : Nat) (xs : List Nat) : List Nat := stL C n n (stS C n (stI C n n xs 0)) 20
section
variable {hp : List Nat → Heap} {D L : Nat} {F : AV} {C : Nat → Nat → Int}
theorem stable_L0 (H : Hp hp D) (K : Cm hp L F C) (n : Nat) (hlen : n ≤ 1000000000) (N : Nat) : ∀ (f a : Nat) (xs : List Nat), n < a + f * 20 + 20 → a ≤ n → xs.length = n → Und L xs →
    (Dn prog).code (.loop c_slices_stableCmpFunc_int_L0) ⟨[(0, .sl D 0 n), (1, .d (.int .i64 n)), (2, F), (6, .d (.int .i64 20)), (7, .d (.int .i64 a)), (8, .d (.int .i64 ((a : Int) + 20)))], ⟨hp xs, N⟩⟩ =
    some (.exit 0, ⟨[(0, .sl D 0 n), (1, .d (.int .i64 n)), (2, F), (6, .d (.int .i64 20)), (7, .d (.int .i64 (stI C n f xs a).2))], ⟨hp (stI C n f xs a).1, N⟩⟩) ∧
    (stI C n f xs a).1.length = n ∧ Und L (stI C n f xs a).1 ∧ a ≤ (stI C n f xs a).2 ∧ (stI C n f xs a).2 ≤ n ∧ ∃ q, (stI C n f xs a).2 = a + 20 * q := by
  intro f
  induction f with
  | zero =>
    intro a xs h1 h2 hx u
    refine ⟨?_, hx, u, Nat.le_refl _, h2, 0, rfl⟩
    rw [loop_unf c_slices_stableCmpFunc_int_L0.eq_1]
    simp (config := { maxSteps := 300000 }) (disch := omega) [if_pos, if_neg, stI, K.sh, K.fi]
  | succ f ih =>
    intro a xs h1 h2 hx u
    rw [loop_unf c_slices_stableCmpFunc_int_L0.eq_1, stI]
    by_cases h : a + 20 ≤ n
    · rw [if_pos h]
      have h0 := insertionSort H K n hlen a (a + 20) N (by omega) h xs hx u
      rw [show a + 20 - (a + 1) = 19 by omega] at h0
      obtain ⟨g1, g2, g3, g4, g5, q, g6⟩ := ih (a + 20) (insO C a 19 (a + 1) xs) (by omega) h (by rw [insO_len]; exact hx) (u.insO (by omega))
      refine ⟨?_, g2, g3, by omega, g5, q + 1, by omega⟩
      have c1 : ((a + 20 : Nat) : Int) = (a : Int) + 20 := rfl
      rw [c1] at h0 g1
      rw [← g1]
      simp (config := { maxSteps := 300000 }) (disch := omega) [if_pos, if_neg, K.sh, K.fi, h0]
    · rw [if_neg h]
      refine ⟨?_, hx, u, Nat.le_refl _, h2, 0, rfl⟩
      simp (config := { maxSteps := 300000 }) (disch := omega) [if_pos, if_neg, K.sh, K.fi]
theorem stable_L1 (H : Hp hp D) (K : Cm hp L F C) (n : Nat) (hlen : n ≤ 1000000000) (bs N : Nat) (hbs : 1 ≤ bs) (hb2 : bs ≤ 1000000000) : ∀ (f a : Nat) (xs : List Nat), n < a + f + 1 → a ≤ n → xs.length = n → Und L xs →
    (Dn prog).code (.loop c_slices_stableCmpFunc_int_L1) ⟨[(0, .sl D 0 n), (1, .d (.int .i64 n)), (2, F), (6, .d (.int .i64 bs)), (7, .d (.int .i64 a)), (8, .d (.int .i64 ((a : Int) + 2 * (bs : Int))))], ⟨hp xs, N⟩⟩ =
    some (.exit 4, ⟨[(0, .sl D 0 n), (1, .d (.int .i64 n)), (2, F), (6, .d (.int .i64 bs)), (7, .d (.int .i64 (stM C n bs f xs a).2))], ⟨hp (stM C n bs f xs a).1, N⟩⟩) ∧
    (stM C n bs f xs a).1.length = n ∧ Und L (stM C n bs f xs a).1 ∧ (stM C n bs f xs a).2 ≤ n := by
  intro f
  induction f with
  | zero =>
    intro a xs h1 h2 hx u
    refine ⟨?_, hx, u, h2⟩
    rw [loop_unf c_slices_stableCmpFunc_int_L1.eq_1]
    simp (config := { maxSteps := 300000 }) (disch := omega) [if_pos, if_neg, stM, K.sh, K.fi]
  | succ f ih =>
    intro a xs h1 h2 hx u
    rw [loop_unf c_slices_stableCmpFunc_int_L1.eq_1, stM]
    by_cases h : a + 2 * bs ≤ n
    · rw [if_pos h]
      have h0 := symMerge H K n hlen N (2 * bs) a (a + bs) (a + 2 * bs) xs (by omega) (by omega) (by omega) h hx u
      obtain ⟨g1, g2, g3, g4⟩ := ih (a + 2 * bs) (symM C (2 * bs) xs a (a + bs) (a + 2 * bs)) (by omega) h (by rw [symM_len]; exact hx) (u.symM (by omega) (by omega) (by omega))
      refine ⟨?_, g2, g3, g4⟩
      have c1 : ((a + bs : Nat) : Int) = (a : Int) + bs := rfl
      have c2 : ((a + 2 * bs : Nat) : Int) = (a : Int) + 2 * bs := by omega
      rw [c1, c2] at h0
      rw [c2] at g1
      rw [← g1]
      simp (config := { maxSteps := 300000 }) (disch := omega) [if_pos, if_neg, K.sh, K.fi, h0]
    · rw [if_neg h]
      refine ⟨?_, hx, u, h2⟩
      simp (config := { maxSteps := 300000 }) (disch := omega) [if_pos, if_neg, K.sh, K.fi]
theorem stable_L2 (H : Hp hp D) (K : Cm hp L F C) (n : Nat) (hlen : n ≤ 1000000000) (N : Nat) : ∀ (f bs : Nat) (xs : List Nat), n < bs + f + 1 → 1 ≤ bs → bs ≤ 2000000000 → xs.length = n → Und L xs →
    (Dn prog).code (.loop c_slices_stableCmpFunc_int_L2) ⟨[(0, .sl D 0 n), (1, .d (.int .i64 n)), (2, F), (6, .d (.int .i64 bs))], ⟨hp xs, N⟩⟩ =
    some (.exit 2, ⟨[], ⟨hp (stL C n f xs bs), N⟩⟩) ∧ (stL C n f xs bs).length = n ∧ Und L (stL C n f xs bs) := by
  intro f
  induction f with
  | zero =>
    intro bs xs h1 h2 h3 hx u
    refine ⟨?_, hx, u⟩
    rw [loop_unf c_slices_stableCmpFunc_int_L2.eq_1]
    simp (config := { maxSteps := 300000 }) (disch := omega) [if_pos, if_neg, stL, K.sh, K.fi]
  | succ f ih =>
    intro bs xs h1 h2 h3 hx u
    rw [loop_unf c_slices_stableCmpFunc_int_L2.eq_1, stL]
    by_cases h : bs < n
    · rw [if_pos h]
      obtain ⟨g1, g2, g3, g4⟩ := stable_L1 H K n hlen bs N h2 (by omega) n 0 xs (by omega) (by omega) hx u
      generalize stM C n bs n xs 0 = p at *
      obtain ⟨ys, a⟩ := p
      simp only at g1 g2 g3 g4
      have c0 : ((0 : Nat) : Int) = 0 := rfl
      have cz : (0 : Int) + 2 * (bs : Int) = 2 * (bs : Int) := by omega
      have c2 : ((2 * bs : Nat) : Int) = 2 * (bs : Int) := by omega
      rw [c0, cz] at g1
      unfold stE
      simp only
      by_cases h5 : a + bs < n
      · rw [if_pos h5]
        have h0 := symMerge H K n hlen N (n - a) a (a + bs) n ys (by omega) (by omega) h5 (Nat.le_refl _) g2 g3
        have c1 : ((a + bs : Nat) : Int) = (a : Int) + bs := rfl
        obtain ⟨k1, k2, k3⟩ := ih (2 * bs) (symM C (n - a) ys a (a + bs) n) (by omega) (by omega) (by omega) (by rw [symM_len]; exact g2) (g3.symM (by omega) h5 (by omega))
        refine ⟨?_, k2, k3⟩
        rw [c1] at h0
        rw [c2] at k1
        have cc : (bs : Int) * 2 = 2 * (bs : Int) := by omega
        rw [← k1]
        simp (config := { maxSteps := 300000 }) (disch := omega) [if_pos, if_neg, K.sh, K.fi, g1, h0, cc]
      · rw [if_neg h5]
        obtain ⟨k1, k2, k3⟩ := ih (2 * bs) ys (by omega) (by omega) (by omega) g2 g3
        refine ⟨?_, k2, k3⟩
        rw [c2] at k1
        have cc : (bs : Int) * 2 = 2 * (bs : Int) := by omega
        rw [← k1]
        simp (config := { maxSteps := 300000 }) (disch := omega) [if_pos, if_neg, K.sh, K.fi, g1, cc]
    · rw [if_neg h]
      refine ⟨?_, hx, u⟩
      simp (config := { maxSteps := 300000 }) (disch := omega) [if_pos, if_neg, K.sh, K.fi]
/-- The library's stable sort, as a function of lists of numbers. -/
theorem stableCmp (H : Hp hp D) (K : Cm hp L F C) (n : Nat) (hlen : n ≤ 1000000000) (hn : n % 20 ≠ 0) (N : Nat) (xs : List Nat) (hx : xs.length = n) (u : Und L xs) :
    (Dn prog).call f_slices_stableCmpFunc_int [.sl D 0 n, .d (.int .i64 n), F] ⟨hp xs, N⟩ = some (.tup [], ⟨hp (stable C n xs), N⟩) := by
  rw [call_fn p_slices_stableCmpFunc_int c_slices_stableCmpFunc_int.eq_1 rfl, stable]
  obtain ⟨g1, g2, g3, _, g5, q, g6⟩ := stable_L0 H K n hlen N n 0 xs (by omega) (by omega) hx u
  generalize stI C n n xs 0 = p at *
  obtain ⟨ys, a⟩ := p
  simp only at g1 g2 g3 g5 g6
  have h0 := insertionSort H K n hlen a n N (by omega) (Nat.le_refl _) ys g2 g3
  unfold stS
  simp only
  obtain ⟨k1, k2, k3⟩ := stable_L2 H K n hlen N n 20 (insO C a (n - (a + 1)) (a + 1) ys) (by omega) (by omega) (by omega) (by rw [insO_len]; exact g2) (g3.insO (by omega))
  have c0 : ((0 : Nat) : Int) = 0 := rfl
  have cz : (0 : Int) + 20 = 20 := rfl
  have c2 : ((20 : Nat) : Int) = 20 := rfl
  rw [c0, cz] at g1
  rw [c2] at k1
  simp (config := { maxSteps := 300000 }) (disch := omega) [if_pos, if_neg, K.sh, K.fi, g1, h0, k1]
end
end Go.Vm

namespace Go.Vm
set_option linter.unusedVariables false
set_option linter.unusedSimpArgs false
set_option maxRecDepth 100000
theorem cmp_isNaN (x : Nat) : ans prog f_cmp_isNaN_uint8 [.d (.int .u8 x)] = some (.d (.bool false)) := by
  rw [ans_fn p_cmp_isNaN_uint8 c_cmp_isNaN_uint8.eq_1 rfl]
  simp (config := { maxSteps := 300000 }) (disch := omega) [if_pos, if_neg]
theorem cmp_Compare (x y : Nat) : ans prog f_cmp_Compare_uint8 [.d (.int .u8 x), .d (.int .u8 y)] = some (.d (.int .i64 (if x < y then -1 else if y < x then 1 else 0))) := by
  rw [ans_fn p_cmp_Compare_uint8 c_cmp_Compare_uint8.eq_1 rfl]
  by_cases h1 : x < y
  · rw [if_pos h1]
    simp (config := { maxSteps := 300000 }) (disch := omega) [if_pos, if_neg, cmp_isNaN]
  · rw [if_neg h1]
    by_cases h2 : y < x
    · rw [if_pos h2]
      simp (config := { maxSteps := 300000 }) (disch := omega) [if_pos, if_neg, cmp_isNaN]
    · rw [if_neg h2]
      simp (config := { maxSteps := 300000 }) (disch := omega) [if_pos, if_neg, cmp_isNaN]
@[simp] theorem iarr_ptr {len n S o : Nat} {k : IntKind} {z : Int} (h0 : 0 ≤ z) (h : z < len) : iarrV len n (.ptr S o) (.d (.int k z)) = some (.ptr S (o + z.toNat * n)) := by
  obtain ⟨i, rfl⟩ := Int.eq_ofNat_of_zero_le h0
  have hl : Nat.ble len i = false := by rw [← Bool.not_eq_true, Nat.ble_eq]; omega
  show (match Nat.ble len i with | true => none | false => addOff (i * n) (.ptr S o)) = _
  rw [hl]
  rfl
def szs (id : Nat) : List Nat := (List.range (bMany id)).map fun e => bSize id e
def cC (l : List Nat) (x y : Nat) : Int := if nth l x < nth l y then -1 else if nth l y < nth l x then 1 else 0
/-- Entries' sizes, as a variable holds them. -/
def szC (id : Nat) : List AV := (List.range 289).map fun e => .d (.int .u8 (if e < bMany id then bSize id e else 0 : Nat))
theorem szC_len {id : Nat} : (szC id).length = 289 := by simp [szC]
theorem szC_get {id x : Nat} (h : x < bMany id) (h2 : bMany id ≤ 289) : (szC id)[x]? = some (.d (.int .u8 (nth (szs id) x : Nat))) := by
  have e : nth (szs id) x = bSize id x := by
    have := nth_opt (l := szs id) (i := x) (by simp [szs]; exact h)
    rw [szs, List.getElem?_map, List.getElem?_range h] at this
    simpa [szs] using this.symm
  rw [e, szC, List.getElem?_map, List.getElem?_range (by omega)]
  simp [h]
theorem cmpF {hp : List Nat → Heap} {S id : Nat} (hS : ∀ xs, get (hp xs) S = some (.cells (szC id))) (h2 : bMany id ≤ 289) : Cm hp (bMany id) (.fn f_book_Get_1 [] [.ptr S 0]) (cC (szs id)) where
  sh := rfl
  fi := rfl
  cl xs N x y hx hy := by
    have e1 := szC_get hx h2
    have e2 := szC_get hy h2
    show (Dn prog).call f_book_Get_1 ([] ++ ([.d (.int .i64 (x : Nat)), .d (.int .i64 (y : Nat))] ++ [.ptr S 0])) ⟨hp xs, N⟩ = _
    simp only [List.nil_append, List.cons_append]
    rw [call_fn p_book_Get_1 c_book_Get_1.eq_1 rfl]
    generalize szC id = Z at *
    simp (config := { maxSteps := 300000 }) (disch := omega) [if_pos, if_neg, hS, e1, e2, cmp_Compare, cC]
end Go.Vm

namespace Go.Vm
set_option linter.unusedVariables false
set_option linter.unusedSimpArgs false
set_option maxRecDepth 100000
@[simp] theorem slarr_hi {h : Heap} {n id off : Nat} {k : IntKind} {z : Int} (h0 : 0 ≤ z) (h1 : z ≤ n) : slarrV h n (.ptr id off) none (some (.d (.int k z))) none = bA (get h id) fun o => bA (cellsOf o) fun cs => okB (Nat.ble (off + n) cs.length) (some (.sl id off z.toNat)) := by
  obtain ⟨d, rfl⟩ := Int.eq_ofNat_of_zero_le h0
  have hd : Nat.ble d n = true := Nat.ble_eq_true_of_le (by omega)
  have hb : bounds n none (some (.d (.int k (d : Int)))) none = some (0, d, n) := by
    show (match (match Nat.ble d n with | true => some d | false => none) with | none => none | some h => lowOf none h n) = _
    rw [hd]; rfl
  simp only [slarrV, slarrOf]
  cases get h id with
  | none => rfl
  | some o =>
    cases o with
    | cells cs =>
      simp only [bA, cellsOf, hb]
      cases Nat.ble (off + n) cs.length <;> simp [okB]
    | arr => rfl
    | loop => rfl
def vc (V : List Int) : List AV := V.map fun z => .d (.int .i64 z)
theorem vc_len {V : List Int} : (vc V).length = V.length := by simp [vc]
theorem vc_get {V : List Int} {i : Nat} (h : i < V.length) : (vc V)[i]? = some (.d (.int .i64 (nth V i))) := by
  rw [vc, List.getElem?_map, nth_opt h]; rfl
theorem vc_set {V : List Int} {i : Nat} {z : Int} : (vc V).set i (.d (.int .i64 z)) = vc (V.set i z) := by simp [vc, List.map_set]
theorem vc_put {V : List Int} {i : Nat} {z : Int} (h : i < V.length) : List.take i (vc V) ++ AV.d (.int .i64 z) :: List.drop (i + 1) (vc V) = vc (V.set i z) := by
  rw [← vc_set, List.set_eq_take_append_cons_drop, if_pos (by rw [vc_len]; exact h)]
/-- One more, digit by digit. -/
def odo (lo hi : Int) : Nat → List Int → List Int
  | 0, V => V
  | i + 1, V => if nth V i + 1 ≤ hi then V.set i (nth V i + 1) else odo lo hi i (V.set i lo)
theorem odo_len {lo hi : Int} : ∀ {i : Nat} {V : List Int}, (odo lo hi i V).length = V.length
  | 0, _ => rfl
  | i + 1, V => by
    rw [odo]
    split
    · simp
    · rw [odo_len]; simp
abbrev Sm (V : List Int) : Prop := ∀ z ∈ V, -100000 ≤ z ∧ z ≤ 100000
section
variable (k1 : AV) (dm lo hi pl : Int) (Out : List AV) (N : Nat)
theorem sizes_L1 (d n m : Nat) (hd : d ≤ 4) (V : List Int) (hV : V.length = 4) (hs : Sm V) : ∀ (k i sum : Nat), i + k = d → sum ≤ 1000000 * (i + 1) →
    (Dn prog).code (.loop c_book_kind_sizes_L1) ⟨[(1, .ptr 0 0), (2, .ptr 1 0), (3, .ptr 2 0), (5, .d (.int .i64 n)), (6, .d (.int .i64 sum)), (21, .d (.int .i64 m)), (22, .d (.int .i64 n)), (27, .sl 2 0 d), (28, .d (.int .i64 d)), (29, .d (.int .i64 i))],
      ⟨[(0, .cells [.d (.int .i64 dm), .d (.int .i64 lo), .d (.int .i64 hi), .d (.int .i64 pl)]), (1, .cells Out), (2, .cells (vc V))], N⟩⟩ =
    some (.exit 4, ⟨[(1, .ptr 0 0), (2, .ptr 1 0), (3, .ptr 2 0), (5, .d (.int .i64 n)), (6, .d (.int .i64 (sum + sumN ((V.take d).drop i) : Nat))), (21, .d (.int .i64 m)), (22, .d (.int .i64 n))],
      ⟨[(0, .cells [.d (.int .i64 dm), .d (.int .i64 lo), .d (.int .i64 hi), .d (.int .i64 pl)]), (1, .cells Out), (2, .cells (vc V))], N⟩⟩) := by
  intro k
  induction k with
  | zero =>
    intro i sum h1 h2
    have e : (V.take d).drop i = [] := List.drop_eq_nil_of_le (by simp; omega)
    rw [loop_unf c_book_kind_sizes_L1.eq_1, e]
    simp (config := { maxSteps := 300000 }) (disch := omega) [if_pos, if_neg, sumN]
  | succ k ih =>
    intro i sum h1 h2
    have hg := vc_get (V := V) (i := i) (by omega)
    have hb := hs (nth V i) (nth_mem (by omega))
    have e : (V.take d).drop i = nth V i :: (V.take d).drop (i + 1) := by
      rw [List.drop_eq_getElem_cons (by simp; omega)]
      congr 1
      rw [List.getElem_take, nth_at (by omega)]
    have h5 := ih (i + 1) (sum + (nth V i).natAbs) (by omega) (by omega)
    have es : sum + sumN ((V.take d).drop i) = sum + (nth V i).natAbs + sumN ((V.take d).drop (i + 1)) := by rw [e, sumN]; omega
    rw [es]
    have c1 : ((i + 1 : Nat) : Int) = (i : Int) + 1 := rfl
    rw [c1] at h5
    rw [loop_unf c_book_kind_sizes_L1.eq_1, ← h5]
    generalize nth V i = z at *
    by_cases hz : z < 0
    · have c2 : ((sum + z.natAbs : Nat) : Int) = (sum : Int) + -z := by omega
      rw [c2]
      simp (config := { maxSteps := 300000 }) (disch := omega) [if_pos, if_neg, hg]
    · have c2 : ((sum + z.natAbs : Nat) : Int) = (sum : Int) + z := by omega
      rw [c2]
      simp (config := { maxSteps := 300000 }) (disch := omega) [if_pos, if_neg, hg]
theorem sizes_L2 (n m : Nat) (hlo : -1000 ≤ lo ∧ lo ≤ 1000) : ∀ (j : Nat) (V : List Int), j ≤ 4 → V.length = 4 → Sm V →
    (Dn prog).code (.loop c_book_kind_sizes_L2) ⟨[(1, .ptr 0 0), (2, .ptr 1 0), (3, .ptr 2 0), (9, .d (.int .i64 ((j : Int) - 1))), (21, .d (.int .i64 m)), (22, .d (.int .i64 n))],
      ⟨[(0, .cells [.d (.int .i64 dm), .d (.int .i64 lo), .d (.int .i64 hi), .d (.int .i64 pl)]), (1, .cells Out), (2, .cells (vc V))], N⟩⟩ =
    some (.exit 6, ⟨[(1, .ptr 0 0), (2, .ptr 1 0), (3, .ptr 2 0), (21, .d (.int .i64 m)), (22, .d (.int .i64 n))],
      ⟨[(0, .cells [.d (.int .i64 dm), .d (.int .i64 lo), .d (.int .i64 hi), .d (.int .i64 pl)]), (1, .cells Out), (2, .cells (vc (odo lo hi j V)))], N⟩⟩) := by
  intro j
  induction j with
  | zero =>
    intro V h1 hV hs
    rw [loop_unf c_book_kind_sizes_L2.eq_1]
    simp (config := { maxSteps := 300000 }) (disch := omega) [if_pos, if_neg, odo]
  | succ j ih =>
    intro V h1 hV hs
    have hg := vc_get (V := V) (i := j) (by omega)
    have hb := hs (nth V j) (nth_mem (by omega))
    have hgs : ∀ z, (vc (V.set j z))[j]? = some (.d (.int .i64 z)) := fun z => by
      rw [vc, List.getElem?_map, List.getElem?_set_self (by omega)]; rfl
    have c1 : ((j + 1 : Nat) : Int) - 1 = (j : Int) := by omega
    have lp := fun z => vc_put (V := V) (i := j) (z := z) (by omega)
    have lq := fun y z => vc_put (V := V.set j y) (i := j) (z := z) (by simp; omega)
    have hss : ∀ y z, (V.set j y).set j z = V.set j z := fun y z => List.set_set ..
    have hl2 : ∀ y, (V.set j y).length = 4 := fun y => by simpa using hV
    rw [c1, loop_unf c_book_kind_sizes_L2.eq_1, odo]
    by_cases h : nth V j + 1 ≤ hi
    · rw [if_pos h]
      generalize nth V j = z at *
      simp (config := { maxSteps := 300000 }) (disch := omega) [if_pos, if_neg, hg, vc_len, lp, lq, hss, hl2, hV, hgs]
    · have h5 := ih (V.set j lo) (by omega) (by simpa using hV) (fun z hz => by
        rcases List.mem_or_eq_of_mem_set hz with g | g
        · exact hs z g
        · subst g; omega)
      rw [if_neg h, ← h5]
      generalize nth V j = z at *
      simp (config := { maxSteps := 300000 }) (disch := omega) [if_pos, if_neg, hg, vc_len, lp, lq, hss, hl2, hV, hgs]
def fillL (lo : Int) : Nat → Nat → List Int → List Int
  | 0, _, V => V
  | k + 1, i, V => fillL lo k (i + 1) (V.set i lo)
theorem sizes_L0 (d : Nat) (hd : d ≤ 4) : ∀ (k i : Nat) (V : List Int), i + k = d → V.length = 4 →
    (Dn prog).code (.loop c_book_kind_sizes_L0) ⟨[(1, .ptr 0 0), (2, .ptr 1 0), (3, .ptr 2 0), (11, .d (.int .i64 d)), (12, .d (.int .i64 i))],
      ⟨[(0, .cells [.d (.int .i64 dm), .d (.int .i64 lo), .d (.int .i64 hi), .d (.int .i64 pl)]), (1, .cells Out), (2, .cells (vc V))], N⟩⟩ =
    some (.exit 0, ⟨[(1, .ptr 0 0), (2, .ptr 1 0), (3, .ptr 2 0)],
      ⟨[(0, .cells [.d (.int .i64 dm), .d (.int .i64 lo), .d (.int .i64 hi), .d (.int .i64 pl)]), (1, .cells Out), (2, .cells (vc (fillL lo k i V)))], N⟩⟩) := by
  intro k
  induction k with
  | zero =>
    intro i V h1 hV
    rw [loop_unf c_book_kind_sizes_L0.eq_1]
    simp (config := { maxSteps := 300000 }) (disch := omega) [if_pos, if_neg, fillL]
  | succ k ih =>
    intro i V h1 hV
    have lp := fun z => vc_put (V := V) (i := i) (z := z) (by omega)
    have h5 := ih (i + 1) (V.set i lo) (by omega) (by simpa using hV)
    have c1 : ((i + 1 : Nat) : Int) = (i : Int) + 1 := rfl
    rw [c1] at h5
    rw [loop_unf c_book_kind_sizes_L0.eq_1, fillL, ← h5]
    simp (config := { maxSteps := 300000 }) (disch := omega) [if_pos, if_neg, vc_len, lp, hV]
end
/-- The digits of an entry, as the odometer holds them. -/
def dig (id n : Nat) : List Int := (bVals id n ++ [0, 0, 0, 0]).take 4
def digOk (id n : Nat) : Bool := decide (odo (bLow id) (bLow id + bWide id - 1) (bDim id) (dig id n) = dig id (n + 1)) && decide (sumN ((dig id n).take (bDim id)) = bSize id n) && decide (bSize id n ≤ 255) &&
  (dig id n).all (fun z => decide (-100000 ≤ z) && decide (z ≤ 100000)) && decide ((dig id n).length = 4)
theorem dig_all : ∀ id ∈ ids, (List.range (bMany id)).all (digOk id) = true := by decide +kernel
theorem dig_at {id n : Nat} (h : okId id) (hn : n < bMany id) : odo (bLow id) (bLow id + bWide id - 1) (bDim id) (dig id n) = dig id (n + 1) ∧ sumN ((dig id n).take (bDim id)) = bSize id n ∧ bSize id n ≤ 255 ∧ Sm (dig id n) ∧ (dig id n).length = 4 := by
  have := List.all_eq_true.1 (dig_all id (in_ids h)) n (by simpa using hn)
  simp only [digOk, Bool.and_eq_true, decide_eq_true_eq, List.all_eq_true] at this
  exact ⟨this.1.1.1.1, this.1.1.1.2, this.1.1.2, fun z hz => this.1.2 z hz, this.2⟩
theorem dig_0 : ∀ id ∈ ids, fillL (bLow id) (bDim id) 0 [0, 0, 0, 0] = dig id 0 ∧ bDim id ≤ 4 ∧ 1 ≤ bDim id ∧ -1000 ≤ bLow id ∧ bLow id ≤ 1000 ∧ bMany id ≤ 289 := by decide +kernel
def outS (id n : Nat) : List AV := (List.range 289).map fun e => .d (.int .u8 (if e < n then bSize id e else 0 : Nat))
theorem outS_len {id n : Nat} : (outS id n).length = 289 := by simp [outS]
theorem outS_put {id n : Nat} (h : n < 289) : List.take n (outS id n) ++ AV.d (.int .u8 (bSize id n : Nat)) :: List.drop (n + 1) (outS id n) = outS id (n + 1) := by
  have e : (outS id n).set n (AV.d (.int .u8 (bSize id n : Nat))) = outS id (n + 1) := by
    apply List.ext_getElem?
    intro j
    rw [List.getElem?_set]
    by_cases hj : n = j
    · subst hj
      rw [if_pos rfl, if_pos (by rw [outS_len]; exact h), outS, List.getElem?_map, List.getElem?_range h]
      simp
    · rw [if_neg hj, outS, outS, List.getElem?_map, List.getElem?_map]
      by_cases hl : j < 289
      · rw [List.getElem?_range hl]
        simp only [Option.map_some]
        by_cases h2 : j < n
        · rw [if_pos h2, if_pos (by omega)]
        · rw [if_neg h2, if_neg (by omega)]
      · rw [List.getElem?_eq_none (by simp; omega)]; rfl
  rw [← e, List.set_eq_take_append_cons_drop, if_pos (by rw [outS_len]; exact h)]
theorem sizes_L3 (id : Nat) (h : okId id) (pl : Int) (N : Nat) : ∀ (k n : Nat), n + k = bMany id →
    (Dn prog).code (.loop c_book_kind_sizes_L3) ⟨[(1, .ptr 0 0), (2, .ptr 1 0), (3, .ptr 2 0), (21, .d (.int .i64 (bMany id))), (22, .d (.int .i64 n))],
      ⟨[(0, .cells [.d (.int .i64 (bDim id)), .d (.int .i64 (bLow id)), .d (.int .i64 (bLow id + bWide id - 1)), .d (.int .i64 pl)]), (1, .cells (outS id n)), (2, .cells (vc (dig id n)))], N⟩⟩ =
    some (.exit 2, ⟨[(2, .ptr 1 0)], ⟨[(1, .cells (outS id (bMany id))), (2, .cells (vc (dig id (bMany id))))], N⟩⟩) := by
  obtain ⟨d0, d1, d2, d3, d4, d5⟩ := dig_0 id (in_ids h)
  intro k
  induction k with
  | zero =>
    intro n hn
    have : n = bMany id := by omega
    subst this
    rw [loop_unf c_book_kind_sizes_L3.eq_1]
    simp (config := { maxSteps := 300000 }) (disch := omega) [if_pos, if_neg]
  | succ k ih =>
    intro n hn
    obtain ⟨f1, f2, f3, f4, f5⟩ := dig_at (n := n) h (by omega)
    have g1 := sizes_L1 (bDim id) (bLow id) (bLow id + bWide id - 1) pl (outS id n) N (bDim id) n (bMany id) d1 (dig id n) f5 f4 (bDim id) 0 0 (by omega) (by omega)
    have g2 := sizes_L2 (bDim id) (bLow id) (bLow id + bWide id - 1) pl (outS id (n + 1)) N n (bMany id) ⟨d3, d4⟩ (bDim id) (dig id n) d1 f5 f4
    rw [f1] at g2
    rw [List.drop_zero, f2, Nat.zero_add] at g1
    have h5 := ih (n + 1) (by omega)
    have c1 : ((n + 1 : Nat) : Int) = (n : Int) + 1 := rfl
    have c0 : ((0 : Nat) : Int) = 0 := rfl
    rw [c1] at h5
    rw [c0] at g1
    have hp := outS_put (id := id) (n := n) (by omega)
    have hl := vc_len (V := dig id n)
    have ol := outS_len (id := id) (n := n)
    rw [loop_unf c_book_kind_sizes_L3.eq_1, ← h5]
    generalize bSize id n = z at *
    generalize hA : outS id n = A at *
    generalize hB : outS id (n + 1) = B at *
    generalize dig id n = V at *
    generalize dig id (n + 1) = W at *
    simp (config := { maxSteps := 300000 }) (disch := omega) [if_pos, if_neg, g1, g2, hp, AV.int]
end Go.Vm

namespace Go.Vm
set_option linter.unusedVariables false
set_option linter.unusedSimpArgs false
set_option maxRecDepth 100000
def Z289 : List AV := List.replicate 289 (.d (.int .u8 0))
theorem Z289_len : Z289.length = 289 := by simp [Z289]
theorem outS_0 {id : Nat} : outS id 0 = Z289 := by
  simp only [outS, Nat.not_lt_zero, if_false, Z289]
  rw [List.map_const', List.length_range]
  rfl
theorem outS_all {id : Nat} : outS id (bMany id) = szC id := rfl
theorem ergS0 {x0 : AV} {h : Heap} {n : Nat} : (Dn prog).code rg_book_kind_sizes_0 ⟨[(0, x0)], ⟨h, n⟩⟩ = regK (okB ((AV.cells x0).all isCell) <| lA (put h n (.cells (AV.cells x0))) fun h1 => lA (put h1 (n + 1) (.cells Z289)) fun h2 => some ⟨[(1, .ptr n 0), (2, .ptr (n + 1) 0)], ⟨h2, n + 1 + 1⟩⟩) := erg_book_kind_sizes_0
abbrev Dl (Z : List AV) : Prop := ∀ x ∈ Z, ∃ d, x = AV.d d
theorem takes1_D : ∀ {Z : List AV}, (takesAll 1 Z).1 = Z
  | [] => rfl
  | v :: r => by rw [takesAll, takes1_D]; rfl
theorem resAll_D {h : Heap} : ∀ {Z : List AV}, Dl Z → resAll h Z = some (Z, h)
  | [], _ => rfl
  | v :: r, hz => by
    obtain ⟨d, rfl⟩ := hz v (.head _)
    have h1 : resOne h (.d d) = some (.d d, h) := rfl
    rw [resAll, h1]
    simp only [resAll_D (Z := r) fun x hx => hz x (.tail _ hx)]
theorem bless1_D : ∀ {Z : List AV}, Dl Z → Z.map bless1 = Z
  | [], _ => rfl
  | v :: r, hz => by
    obtain ⟨d, rfl⟩ := hz v (.head _)
    rw [List.map_cons, bless1_D fun x hx => hz x (.tail _ hx)]
    rfl
theorem szC_D {id : Nat} : Dl (szC id) := by
  intro x hx
  simp only [szC, List.mem_map] at hx
  obtain ⟨e, _, rfl⟩ := hx
  exact ⟨_, rfl⟩
theorem book_sizes (id : Nat) (h : okId id) : ans prog f_book_kind_sizes [kdV id] = some (.agg (szC id)) := by
  have hin := in_ids h
  obtain ⟨d0, d1, d2, d3, d4, d5⟩ := dig_0 id hin
  have hm := book_many1 id hin
  have h0 := sizes_L0 (bDim id) (bLow id) (bLow id + bWide id - 1) (bPlain id) Z289 3 (bDim id) d1 (bDim id) 0 [0, 0, 0, 0] (by omega) rfl
  have h3 := sizes_L3 id h (bPlain id) 3 (bMany id) 0 (by omega)
  have c0 : ((0 : Nat) : Int) = 0 := rfl
  have v0 : vc [0, 0, 0, 0] = [.d (.int .i64 0), .d (.int .i64 0), .d (.int .i64 0), .d (.int .i64 0)] := rfl
  rw [d0, c0, v0] at h0
  rw [outS_0, outS_all, c0] at h3
  have zl := szC_len (id := id)
  have zr := fun h => resAll_D (h := h) (szC_D (id := id))
  have zb := bless1_D (szC_D (id := id))
  have zt : List.take 289 (szC id) = szC id := List.take_of_length_le (by omega)
  have z1 := takes1_D (Z := szC id)
  simp only [kdV] at hm ⊢
  rw [ans_fn p_book_kind_sizes c_book_kind_sizes.eq_1 rfl]
  generalize szC id = Z at *
  generalize vc (dig id 0) = V0 at *
  generalize vc (dig id (bMany id)) = V1 at *
  generalize bPlain id = pl at *
  generalize bDim id = dm at *
  generalize bLow id = lo at *
  generalize bWide id = wi at *
  generalize bMany id = n at *
  simp (config := { maxSteps := 300000 }) (disch := omega) [if_pos, if_neg, hm, h0, h3, -erg_book_kind_sizes_0, ergS0, zt, z1, zr]
  exact fun _ => zb
end Go.Vm

end
