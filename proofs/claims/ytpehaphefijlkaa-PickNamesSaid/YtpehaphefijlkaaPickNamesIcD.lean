import Derived.Test.YtpehaphefijlkaaPickNamesIcB
import Derived.Test.YtpehaphefijlkaaPickNamesIcC
import Derived.Test.YtpehaphefijlkaaPickNamesIcA
noncomputable section
namespace Go.Vm
set_option linter.unusedVariables false
set_option linter.unusedSimpArgs false
set_option maxRecDepth 100000
theorem szs_pair : szs 2 = szs 1 ∧ szs 4 = szs 3 ∧ szs 6 = szs 5 ∧ szs 8 = szs 7 ∧ szs 10 = szs 9 := ⟨rfl, rfl, rfl, rfl, rfl⟩
theorem bEnts_pair : bEnts 2 = bEnts 1 ∧ bEnts 4 = bEnts 3 ∧ bEnts 6 = bEnts 5 ∧ bEnts 8 = bEnts 7 ∧ bEnts 10 = bEnts 9 := ⟨rfl, rfl, rfl, rfl, rfl⟩
theorem st_all (id : Nat) (h : okId id) : stable (cC (szs id)) (bMany id) (List.range (bMany id)) = bEnts id := by
  obtain ⟨p2, p4, p6, p8, p10⟩ := szs_pair
  obtain ⟨q2, q4, q6, q8, q10⟩ := bEnts_pair
  have h1 : id = 1 ∨ id = 2 ∨ id = 3 ∨ id = 4 ∨ id = 5 ∨ id = 6 ∨ id = 7 ∨ id = 8 ∨ id = 9 ∨ id = 10 ∨ id = 11 ∨ id = 12 := by omega
  rcases h1 with rfl | rfl | rfl | rfl | rfl | rfl | rfl | rfl | rfl | rfl | rfl | rfl
  · exact st1
  · rw [p2, q2]; exact st1
  · exact st3
  · rw [p4, q4]; exact st3
  · exact st5
  · rw [p6, q6]; exact st5
  · exact st7
  · rw [p8, q8]; exact st7
  · exact st9
  · rw [p10, q10]; exact st9
  · exact st11
  · exact st12
theorem many_ok : ∀ id ∈ ids, bMany id ≤ 289 ∧ bMany id % 20 ≠ 0 ∧ 1 ≤ bMany id := by decide +kernel
/-- Ranks, one at a time. -/
def rks (es : List Nat) : Nat → Nat → List Nat → List Nat
  | 0, _, R => R
  | k + 1, i, R => rks es k (i + 1) (R.set (nth es i) i)
theorem rks_len {es : List Nat} : ∀ {k i : Nat} {R : List Nat}, (rks es k i R).length = R.length
  | 0, _, _ => rfl
  | k + 1, i, R => by rw [rks, rks_len]; simp
theorem rks_all : ∀ id ∈ ids, rks (bEnts id) (bMany id) 0 (List.replicate (bMany id) 0) = bRanks id := by decide +kernel
theorem ents_ok : ∀ id ∈ ids, (bEnts id).length = bMany id ∧ (bRanks id).length = bMany id ∧ (bEnts id).all (fun e => decide (e < bMany id)) = true := by decide +kernel
/-- The numbers from 0, as far as they are set. -/
def upTo (n i : Nat) : List Nat := List.range i ++ List.replicate (n - i) 0
theorem upTo_len {n i : Nat} (h : i ≤ n) : (upTo n i).length = n := by simp [upTo]; omega
theorem upTo_set {n i : Nat} (h : i < n) : (upTo n i).set i i = upTo n (i + 1) := by
  unfold upTo
  obtain ⟨k, hk⟩ : ∃ k, n - i = k + 1 := ⟨n - i - 1, by omega⟩
  rw [hk, List.replicate_succ, List.set_append_right _ _ (by simp), List.length_range, Nat.sub_self, List.set_cons_zero, List.range_succ, List.append_assoc]
  congr 2
  rw [show n - (i + 1) = k by omega]; rfl
section
variable (id n : Nat) (Z : List AV)
theorem book_Get_L0 (hn : n ≤ 289) (R : List Nat) (a b c d : AV) (x0 x1 : D) (N : Nat) : ∀ (k i : Nat), i + k = n →
    (Dn prog).code (.loop c_book_Get_L0) ⟨[(2, .ptr 0 0), (6, .ptr 4 0), (7, .ptr 5 0), (34, .d (.int .i64 n)), (35, .d (.int .i64 i))],
      ⟨[(0, .cells [a, b, c, d]), (2, .arr 1 (nats (upTo n i))), (3, .arr 1 (nats R)), (4, .cells [.d x0, .d x1, .sl 2 0 n, .sl 3 0 n]), (5, .cells Z)], N⟩⟩ =
    some (.exit 0, ⟨[(2, .ptr 0 0), (6, .ptr 4 0), (7, .ptr 5 0)], ⟨[(0, .cells [a, b, c, d]), (2, .arr 1 (nats (upTo n n))), (3, .arr 1 (nats R)), (4, .cells [.d x0, .d x1, .sl 2 0 n, .sl 3 0 n]), (5, .cells Z)], N⟩⟩) := by
  intro k
  induction k with
  | zero =>
    intro i h
    have : i = n := by omega
    subst this
    rw [loop_unf c_book_Get_L0.eq_1]
    simp (config := { maxSteps := 300000 }) (disch := omega) [if_pos, if_neg]
  | succ k ih =>
    intro i h
    have l := upTo_len (n := n) (i := i) (by omega)
    have h5 := ih (i + 1) (by omega)
    have c1 : ((i + 1 : Nat) : Int) = (i : Int) + 1 := rfl
    rw [c1] at h5
    rw [loop_unf c_book_Get_L0.eq_1, ← h5, ← upTo_set (by omega)]
    generalize upTo n i = xs at *
    simp (config := { maxSteps := 300000 }) (disch := omega) [if_pos, if_neg]
theorem book_Get_L1 (hn : n ≤ 289) (es : List Nat) (he : es.length = n) (hu : Und n es) (a b c d : AV) (x0 x1 : D) (N : Nat) : ∀ (k i : Nat) (R : List Nat), i + k = n → R.length = n →
    (Dn prog).code (.loop c_book_Get_L1) ⟨[(2, .ptr 0 0), (6, .ptr 4 0), (49, .sl 2 0 n), (50, .d (.int .i64 n)), (51, .d (.int .i64 i))],
      ⟨[(0, .cells [a, b, c, d]), (2, .arr 1 (nats es)), (3, .arr 1 (nats R)), (4, .cells [.d x0, .d x1, .sl 2 0 n, .sl 3 0 n]), (5, .cells Z)], N⟩⟩ =
    some (.exit 2, ⟨[(2, .ptr 0 0), (6, .ptr 4 0)], ⟨[(0, .cells [a, b, c, d]), (2, .arr 1 (nats es)), (3, .arr 1 (nats (rks es k i R))), (4, .cells [.d x0, .d x1, .sl 2 0 n, .sl 3 0 n]), (5, .cells Z)], N⟩⟩) := by
  intro k
  induction k with
  | zero =>
    intro i R h hR
    rw [loop_unf c_book_Get_L1.eq_1]
    simp (config := { maxSteps := 300000 }) (disch := omega) [if_pos, if_neg, rks]
  | succ k ih =>
    intro i R h hR
    have h5 := ih (i + 1) (R.set (nth es i) i) (by omega) (by simpa using hR)
    have c1 : ((i + 1 : Nat) : Int) = (i : Int) + 1 := rfl
    have hv := hu.nth (i := i) (by omega)
    rw [c1] at h5
    rw [loop_unf c_book_Get_L1.eq_1, rks, ← h5]
    simp (config := { maxSteps := 300000 }) (disch := omega) [if_pos, if_neg]
end
end Go.Vm

namespace Go.Vm
set_option linter.unusedVariables false
set_option linter.unusedSimpArgs false
set_option maxRecDepth 100000
theorem sortStable {hp : List Nat → Heap} {D L : Nat} {F : AV} {C : Nat → Nat → Int} (H : Hp hp D) (K : Cm hp L F C) (n : Nat) (hlen : n ≤ 1000000000) (hn : n % 20 ≠ 0) (N : Nat) (xs : List Nat) (hx : xs.length = n) (u : Und L xs) :
    (Dn prog).call f_slices_SortStableFunc_Lint [.sl D 0 n, F] ⟨hp xs, N⟩ = some (.tup [], ⟨hp (stable C n xs), N⟩) := by
  have h := stableCmp H K n hlen hn N xs hx u
  rw [call_fn p_slices_SortStableFunc_Lint c_slices_SortStableFunc_Lint.eq_1 rfl]
  simp (config := { maxSteps := 300000 }) (disch := omega) [if_pos, if_neg, K.sh, K.fi, h]
theorem erg5R {x2 : AV} {x4 : AV} {x6 : AV} {h : Heap} {n : Nat} : (Dn prog).code rg_book_Get_5 ⟨[(2, x2), (4, x4), (6, x6)], ⟨h, n⟩⟩ = regK (bP (loadAt h (some 4) 1 (share x4)) fun a1 h2 => bA (callPure (Dn prog) f_book_kind_sizes [firm a1] h2) fun a3 => lA (put h2 n (.cells Z289)) fun h4 => bA (storeAt h4 289 (.ptr n 0) (firm a3)) fun h5 => some ⟨[(2, x2), (4, x4), (6, x6), (7, .ptr n 0)], ⟨h5, n + 1⟩⟩) := erg_book_Get_5
theorem setC_all {W Z : List AV} (h : W.length = Z.length) : setCells W 0 Z = Z := by simp [setCells, ← h]
theorem szC_cell {id : Nat} : (szC id).all isCell = true := by
  rw [List.all_eq_true]
  intro x hx
  simp only [szC, List.mem_map] at hx
  obtain ⟨e, _, rfl⟩ := hx
  rfl
theorem szC_firm {id : Nat} : (szC id).map firm1 = szC id := by
  simp only [szC, List.map_map]
  rfl
theorem rep_nats {n : Nat} : List.replicate n [D.int .i64 0] = nats (List.replicate n 0) := by simp [nats]
theorem book_GetS (id : Nat) (h : okId id) : ans prog f_book_Get [.d (.int .i64 id)] = some (.tup [bookO id, .d (.int .i64 0)]) := by
  have hin := in_ids h
  obtain ⟨m1, m2, m3⟩ := many_ok id hin
  obtain ⟨e1, e2, e3⟩ := ents_ok id hin
  have hR := rks_all id hin
  have t1 : List.take (bMany id) (bEnts id) = bEnts id := List.take_of_length_le (by omega)
  have t2 : List.take (bMany id) (bRanks id) = bRanks id := List.take_of_length_le (by omega)
  have hst := st_all id h
  have ho := book_of1 id hin
  have hm := book_many1 id hin
  have hz := book_sizes id h
  have zl := szC_len (id := id)
  have zc := szC_cell (id := id)
  have zf := szC_firm (id := id)
  have z9 := Z289_len
  have zd : List.drop (szC id).length Z289 = [] := List.drop_eq_nil_of_le (by omega)
  have hu : Und (bMany id) (bEnts id) := fun x hx => by simpa using List.all_eq_true.1 e3 x hx
  have hs := fun a b c d x0 x1 R N => sortStable (hp := fun xs => [(0, .cells [a, b, c, d]), (2, .arr 1 (nats xs)), (3, .arr 1 (nats R)), (4, .cells [.d x0, .d x1, .sl 2 0 (bMany id), .sl 3 0 (bMany id)]), (5, .cells (szC id))]) (D := 2)
    ⟨fun xs => rfl, fun xs ys => rfl⟩ (cmpF (S := 5) (fun xs => rfl) m1) (bMany id) (by omega) m2 N (List.range (bMany id)) (by simp) (fun x hx => by simpa using hx)
  have h0 := fun a b c d x0 x1 R N => book_Get_L0 (bMany id) (szC id) m1 R a b c d x0 x1 N (bMany id) 0 (by omega)
  have h1 := fun a b c d x0 x1 N => book_Get_L1 (bMany id) (szC id) m1 (bEnts id) e1 hu a b c d x0 x1 N (bMany id) 0 (List.replicate (bMany id) 0) (by omega) (by simp)
  have hup : upTo (bMany id) (bMany id) = List.range (bMany id) := by simp [upTo]
  have hu0 : upTo (bMany id) 0 = List.replicate (bMany id) 0 := by simp [upTo]
  rw [hup, hu0] at h0
  simp only [hst, hR, kdV] at hs h1 ho hm hz
  rw [ans_fn p_book_Get c_book_Get.eq_1 rfl]
  have hid : (1 : Int) ≤ id ∧ (id : Int) ≤ 12 := by omega
  have c0 : ((0 : Nat) : Int) = 0 := rfl
  rw [c0] at h0 h1
  simp only [bookO]
  generalize szC id = Z at *
  generalize bEnts id = es at *
  generalize bRanks id = rs at *
  generalize bPlain id = pl at *
  generalize bDim id = dm at *
  generalize bLow id = lo at *
  generalize bWide id = wi at *
  generalize bMany id = n at *
  simp (config := { maxSteps := 300000 }) (disch := omega) [if_pos, if_neg, ho, hm, hz, h0, hs, h1, -erg_book_Get_5, erg5R, setC_all, zc, zf, zd, mkslc_n, rep_nats, AV.int, t1, t2]
end Go.Vm

namespace Go.Vm
set_option linter.unusedVariables false
set_option linter.unusedSimpArgs false
set_option maxRecDepth 100000
/-- How many bits a number has. -/
def bl (x : Nat) : Nat := if x = 0 then 0 else Nat.log2 x + 1
theorem bits_Len1 : ∀ x ∈ List.range 301, ans prog f_math_bits_Len [.d (.int .u64 x)] = some (.d (.int .i64 (bl x))) := ans_runs 100 _ (by kernel_rfl)
theorem bits_Len (x : Nat) (h : x ≤ 300) : ans prog f_math_bits_Len [.d (.int .u64 x)] = some (.d (.int .i64 (bl x))) := bits_Len1 x (by simp; omega)
theorem bl_ok : ∀ x ∈ List.range 301, x = 0 ∨ (1 ≤ bl x ∧ bl x ≤ 9) := by decide +kernel
theorem bl_at {x : Nat} (h : x ≤ 300) (h1 : 1 ≤ x) : 1 ≤ bl x ∧ bl x ≤ 9 := by
  rcases bl_ok x (by simp; omega) with h2 | h2
  · omega
  · exact h2
/-- The bits of the code of a rank. -/
def cst (pl r : Nat) : Nat := 2 * bl (r / 2 ^ pl + 1) - 1 + pl
def upC (l : List Nat) (i : Nat) : List Nat := l.take i ++ List.replicate (l.length - i) 0
theorem upC_len {l : List Nat} {i : Nat} (h : i ≤ l.length) : (upC l i).length = l.length := by simp [upC]; omega
theorem upC_0 {l : List Nat} : upC l 0 = List.replicate l.length 0 := by simp [upC]
theorem upC_all {l : List Nat} : upC l l.length = l := by simp [upC]
theorem upC_set {l : List Nat} {i : Nat} (h : i < l.length) : (upC l i).set i (nth l i) = upC l (i + 1) := by
  unfold upC
  obtain ⟨k, hk⟩ : ∃ k, l.length - i = k + 1 := ⟨l.length - i - 1, by omega⟩
  have ht : (l.take i).length = i := by simp; omega
  rw [hk, List.replicate_succ, List.set_append_right _ _ (by omega), ht, Nat.sub_self, List.set_cons_zero, List.take_succ_eq_append_getElem h, List.append_assoc, nth_at h]
  congr 2
  rw [show l.length - (i + 1) = k by omega]; rfl
section
variable {hp : List Nat → Heap} {B D S : Nat} {sh : List AV}
theorem stocked_L0 (H : Hp hp D) (hB0 : ∀ xs, get (hp xs) S = some (.cells sh)) (id n pl : Nat) (hid : id < 12) (hpl : pl ≤ 2) (hs : sh[id]? = some (.sl D 0 n)) (p0 p2 p3 : AV) (hB : ∀ xs, get (hp xs) B = some (.cells [p0, .d (.int .i64 pl), p2, p3]))
    (hn : n ≤ 289) (rs : List Nat) (hr : rs.length = n) (hu : Und 290 rs) (N : Nat) : ∀ (k i : Nat), i + k = n →
    (Dn prog).code (.loop c_pick_stocked_L0) ⟨[(1, .ptr S 0), (2, .d (.int .i64 id)), (3, .ptr B 0), (23, .d (.lst (nats rs))), (24, .d (.int .i64 n)), (25, .d (.int .i64 i))], ⟨hp (upC (rs.map (cst pl)) i), N⟩⟩ =
    some (.exit 2, ⟨[(1, .ptr S 0), (2, .d (.int .i64 id))], ⟨del (hp (rs.map (cst pl))) B, N⟩⟩) := by
  intro k
  induction k with
  | zero =>
    intro i h
    have : i = (rs.map (cst pl)).length := by simp; omega
    rw [loop_unf c_pick_stocked_L0.eq_1, this, upC_all]
    have hl : (rs.map (cst pl)).length = n := by simp [hr]
    rw [hl]
    generalize rs.map (cst pl) = ys
    simp (config := { maxSteps := 300000 }) (disch := omega) [if_pos, if_neg]
  | succ k ih =>
    intro i h
    have hm : (rs.map (cst pl)).length = n := by simp [hr]
    have l := upC_len (l := rs.map (cst pl)) (i := i) (by omega)
    have hv := hu.nth (i := i) (by omega)
    have h5 := ih (i + 1) (by omega)
    have c1 : ((i + 1 : Nat) : Int) = (i : Int) + 1 := rfl
    rw [c1, ← upC_set (by omega)] at h5
    have hc : nth (rs.map (cst pl)) i = cst pl (nth rs i) := by
      rw [nth_at (by omega), nth_at (by omega), List.getElem_map]
    rw [hc] at h5
    rw [loop_unf c_pick_stocked_L0.eq_1, ← h5]
    generalize upC (rs.map (cst pl)) i = xs at *
    have hq : nth rs i / 2 ^ pl ≤ nth rs i := Nat.div_le_self _ _
    have hsh : (((nth rs i : Nat) : Int).fdiv ((2 : Int) ^ pl)) = ((nth rs i / 2 ^ pl : Nat) : Int) := by
      have e : ((2 : Int) ^ pl) = ((2 ^ pl : Nat) : Int) := by simp
      rw [e, Int.fdiv_eq_ediv_of_nonneg _ (Int.natCast_nonneg _)]; rfl
    unfold cst
    generalize nth rs i / 2 ^ pl = q at *
    have hb := bits_Len (q + 1) (by omega)
    have hbl := bl_at (x := q + 1) (by omega) (by omega)
    have c2 : ((q + 1 : Nat) : Int) = (q : Int) + 1 := rfl
    rw [c2] at hb
    have c3 : ((2 * bl (q + 1) - 1 + pl : Nat) : Int) = 2 * (bl (q + 1) : Int) - 1 + pl := by omega
    have hset : (nats xs).set i [.int .i64 (2 * (bl (q + 1) : Int) - 1 + pl)] = nats (xs.set i (2 * bl (q + 1) - 1 + pl)) := by rw [← c3]; exact nats_set
    generalize bl (q + 1) = w at *
    simp (config := { maxSteps := 300000 }) (disch := omega) [if_pos, if_neg, H.get, H.put, hB0, hB, hs, hb, hsh, hset]
end
end Go.Vm

namespace Go.Vm
set_option linter.unusedVariables false
set_option linter.unusedSimpArgs false
set_option maxRecDepth 100000
/-- The bits of all codes of a book. -/
def costs (id : Nat) : List Nat := (bRanks id).map (cst (bPlain id))
theorem und_ranks : ∀ id ∈ ids, (bRanks id).all (fun r => decide (r < 290)) = true ∧ bPlain id ≤ 2 := by decide +kernel
theorem stocked_body (id : Nat) (h : okId id) (h11 : id ≤ 11) (sh : List AV) (hl : sh.length = 12) (S N : Nat) (hN : 1 ≤ N) (h0 : Heap) (h1 : List AV → Heap) (h2 : List AV → List AV → List Nat → Heap) (h3 : List AV → List Nat → Heap)
    (e1 : ∀ c, put h0 N (.cells c) = h1 c) (e2 : ∀ c c', put (h1 c) N (.cells c') = h1 c') (e3 : ∀ c, get (h1 c) N = some (.cells c))
    (e4 : ∀ c xs, put (h1 c) (N + 1) (.arr 1 (nats xs)) = h2 sh c xs)
    (e5 : ∀ s c xs, get (h2 s c xs) S = some (.cells s)) (e6 : ∀ s c xs s', put (h2 s c xs) S (.cells s') = h2 s' c xs)
    (e7 : ∀ s c xs, get (h2 s c xs) N = some (.cells c)) (e8 : ∀ s c xs, get (h2 s c xs) (N + 1) = some (.arr 1 (nats xs)))
    (e9 : ∀ s c xs ys, put (h2 s c xs) (N + 1) (.arr 1 (nats ys)) = h2 s c ys) (e10 : ∀ s c xs, del (h2 s c xs) N = h3 s xs) :
    (Dn prog).code c_pick_stocked_L1 ⟨[(1, .ptr S 0), (2, .d (.int .i64 id))], ⟨h0, N⟩⟩ =
      some (.normal, ⟨[(1, .ptr S 0), (2, .d (.int .i64 ((id : Int) + 1)))], ⟨h3 (sh.set id (.sl (N + 1) 0 (bMany id))) (costs id), N + 1 + 1⟩⟩) := by
  have hin := in_ids h
  obtain ⟨m1, m2, m3⟩ := many_ok id hin
  obtain ⟨q1, q2, q3⟩ := ents_ok id hin
  obtain ⟨u1, u2⟩ := und_ranks id hin
  have hg := book_GetS id h
  have hu : Und 290 (bRanks id) := fun x hx => by simpa using List.all_eq_true.1 u1 x hx
  have hL := fun p0 p2 p3 c (hc : c = [p0, .d (.int .i64 (bPlain id)), p2, p3]) => stocked_L0 (hp := fun xs => h2 (sh.set id (.sl (N + 1) 0 (bMany id))) c xs) (B := N) (D := N + 1) (S := S) (sh := sh.set id (.sl (N + 1) 0 (bMany id)))
    ⟨fun xs => e8 _ _ xs, fun xs ys => e9 _ _ xs ys⟩ (fun xs => e5 _ _ xs) id (bMany id) (bPlain id) (by omega) u2 (List.getElem?_set_self (by omega)) p0 p2 p3 (fun xs => by rw [e7, hc]) m1 (bRanks id) q2 hu (N + 1 + 1) (bMany id) 0 (by omega)
  have hup : upC ((bRanks id).map (cst (bPlain id))) 0 = List.replicate (bMany id) 0 := by rw [upC_0, List.length_map, q2]
  have c0 : ((0 : Nat) : Int) = 0 := rfl
  simp only [hup, c0, e10] at hL
  rw [c_pick_stocked_L1.eq_1]
  have hid : (1 : Int) ≤ id ∧ (id : Int) ≤ 11 := by omega
  unfold costs
  simp only [bookO] at hg
  generalize (bRanks id).map (cst (bPlain id)) = ys at *
  generalize bEnts id = es at *
  generalize bRanks id = rs at *
  generalize bPlain id = pl at *
  generalize bMany id = n at *
  have hset : List.take id sh ++ AV.sl (N + 1) 0 n :: List.drop (id + 1) sh = sh.set id (.sl (N + 1) 0 n) := by rw [List.set_eq_take_append_cons_drop, if_pos (by omega)]
  have hL2 := hL (.d (.int .i64 id)) (.own false 1 (nats es)) (.own false 1 (nats rs)) _ rfl
  simp (config := { maxSteps := 300000 }) (disch := omega) [if_pos, if_neg, hg, e1, e2, e3, e4, e5, e6, e7, e8, mkslc_n, rep_nats, AV.int, hset, hL2, q2, hl]
end Go.Vm

namespace Go.Vm
set_option linter.unusedVariables false
set_option linter.unusedSimpArgs false
set_option maxRecDepth 100000
def shC (i : Nat) : List AV := (List.range 12).map fun j => if 1 ≤ j ∧ j ≤ i then .sl (2 * j + 1) 0 (bMany j) else .nl
def arrs (i : Nat) : Heap := (List.range i).map fun j => (2 * (j + 1) + 1, Obj.arr 1 (nats (costs (j + 1))))
/-- The shelf's memory with so many books, behind an object. -/
def HH (X : Obj) (i : Nat) : Heap := (0, X) :: (1, .cells (shC i)) :: arrs i
theorem stocked_step (X : Obj) (i : Nat) (hi : i < 11) : (Dn prog).code c_pick_stocked_L1 ⟨[(1, .ptr 1 0), (2, .d (.int .i64 ((i : Int) + 1)))], ⟨HH X i, 2 * i + 2⟩⟩ =
    some (.normal, ⟨[(1, .ptr 1 0), (2, .d (.int .i64 (((i + 1 : Nat) : Int) + 1)))], ⟨HH X (i + 1), 2 * (i + 1) + 2⟩⟩) := by
  have h := fun e1 e2 e3 e4 e5 e6 e7 e8 e9 e10 => stocked_body (i + 1) (by omega) (by omega) (shC i) (by simp [shC]) 1 (2 * i + 2) (by omega) (HH X i) (fun c => (0, X) :: (1, .cells (shC i)) :: (arrs i ++ [(2 * i + 2, .cells c)])) (fun s c xs => (0, X) :: (1, .cells s) :: (arrs i ++ [(2 * i + 2, .cells c), (2 * i + 3, .arr 1 (nats xs))])) (fun s xs => (0, X) :: (1, .cells s) :: (arrs i ++ [(2 * i + 3, .arr 1 (nats xs))])) e1 e2 e3 e4 e5 e6 e7 e8 e9 e10
  have h1 : i = 0 ∨ i = 1 ∨ i = 2 ∨ i = 3 ∨ i = 4 ∨ i = 5 ∨ i = 6 ∨ i = 7 ∨ i = 8 ∨ i = 9 ∨ i = 10 := by omega
  rcases h1 with rfl | rfl | rfl | rfl | rfl | rfl | rfl | rfl | rfl | rfl | rfl <;>
    exact h (fun _ => rfl) (fun _ _ => rfl) (fun _ => rfl) (fun _ _ => rfl) (fun _ _ _ => rfl) (fun _ _ _ _ => rfl) (fun _ _ _ => rfl) (fun _ _ _ => rfl) (fun _ _ _ _ => rfl) (fun _ _ _ => rfl)
theorem stocked_L1 (X : Obj) : ∀ (k i : Nat), i + k = 11 → (Dn prog).code (.loop c_pick_stocked_L1) ⟨[(1, .ptr 1 0), (2, .d (.int .i64 ((i : Int) + 1)))], ⟨HH X i, 2 * i + 2⟩⟩ = some (.exit 0, ⟨[(1, .ptr 1 0)], ⟨HH X 11, 24⟩⟩) := by
  intro k
  induction k with
  | zero =>
    intro i h
    have : i = 11 := by omega
    subst this
    rw [loop_unf c_pick_stocked_L1.eq_1]
    generalize HH X 11 = G
    simp (config := { maxSteps := 300000 }) (disch := omega) [if_pos, if_neg]
  | succ k ih =>
    intro i h
    rw [loop_unf rfl, stocked_step X i (by omega), loopK_n]
    exact ih (i + 1) (by omega)
theorem stocked_call (X : Obj) : (Dn prog).call f_pick_stocked [] ⟨[(0, X)], 1⟩ = some (.ptr 1 0, ⟨HH X 11, 24⟩) := by
  have h := stocked_L1 X 11 0 rfl
  have c0 : ((0 : Nat) : Int) + 1 = 1 := rfl
  have hh : HH X 0 = [(0, X), (1, .cells [.nl, .nl, .nl, .nl, .nl, .nl, .nl, .nl, .nl, .nl, .nl, .nl])] := rfl
  rw [c0, hh] at h
  rw [call_fn p_pick_stocked c_pick_stocked.eq_1 rfl]
  generalize HH X 11 = G at *
  simp (config := { maxSteps := 300000 }) (disch := omega) [if_pos, if_neg, h]
/-- The shelf, as a call of the closed run. -/
theorem g9 {X : Obj} {hs : HS} (h : (⟨HH X 11, 24⟩ : HS) = hs) : EvC prog f_pick_stocked [] ⟨[(0, X)], 1⟩ (.ptr 1 0) hs := h ▸ Dn_ev (stocked_call X)
end Go.Vm

end
