import Derived.Test.YtpehaphefijlkaaPickNamesIcA
noncomputable section
namespace Go.Vm
set_option linter.unusedVariables false
set_option linter.unusedSimpArgs false
set_option maxRecDepth 100000
/-! The sort again, in few steps of the kernel's. -/
noncomputable section
theorem bq_yes {k i : Nat} (h : k = i) : Nat.beq k i = true := by rw [Nat.beq_eq]; exact h
theorem bq_no {k i : Nat} (h : ¬ k = i) : Nat.beq k i = false := by rw [← Bool.not_eq_true, Nat.beq_eq]; exact h
def nthR (l : List Nat) : Nat → Nat := List.rec (motive := fun _ => Nat → Nat) (fun _ => 0) (fun x _ ih i => Nat.casesOn (motive := fun _ => Nat) i x (fun k => ih k)) l
theorem nthR_eq : ∀ (l : List Nat) (i : Nat), nthR l i = nth l i
  | [], i => by simp [nth]; rfl
  | x :: l, 0 => rfl
  | x :: l, i + 1 => nthR_eq l i
def setR (l : List Nat) : Nat → Nat → List Nat := List.rec (motive := fun _ => Nat → Nat → List Nat) (fun _ _ => []) (fun x r ih i v => Nat.casesOn (motive := fun _ => List Nat) i (v :: r) (fun k => x :: ih k v)) l
theorem setR_eq : ∀ (l : List Nat) (i v : Nat), setR l i v = l.set i v
  | [], i, v => rfl
  | x :: l, 0, v => rfl
  | x :: l, i + 1, v => by
    show x :: setR l i v = _
    rw [setR_eq l i v]; rfl
def swpQ (xs : List Nat) (i j : Nat) : List Nat := setR (setR xs i (nthR xs j)) j (nthR xs i)
theorem swpQ_eq (xs : List Nat) (i j : Nat) : swpQ xs i j = swp xs i j := by simp only [swpQ, swp, setR_eq, nthR_eq]
def ltR (l : List Nat) (x y : Nat) : Bool := Nat.ble (Nat.succ (nthR l x)) (nthR l y)
theorem ltR_eq (l : List Nat) (x y : Nat) : (ltR l x y = true) = (cC l x y < 0) := by
  simp only [ltR, nthR_eq, Nat.ble_eq, cC]
  apply propext
  constructor
  · intro h; rw [if_pos (by omega)]; omega
  · intro h
    split at h
    · omega
    · split at h <;> omega
def swpRQ (a b : Nat) : Nat → Nat → List Nat → List Nat
  | 0, _, xs => xs
  | k + 1, i, xs => swpRQ a b k (i + 1) (swpQ xs (a + i) (b + i))
theorem swpRQ_eq {a b : Nat} : ∀ (k i : Nat) (xs : List Nat), swpRQ a b k i xs = swpR xs a b k i
  | 0, _, _ => rfl
  | k + 1, i, xs => by rw [swpRQ, swpR, swpQ_eq, swpRQ_eq]
def rotQ (m : Nat) : Nat → List Nat → Nat → Nat → List Nat
  | 0, xs, i, j => xs
  | f + 1, xs, i, j => match Nat.beq i j with
    | true => swpRQ (m - i) m i 0 xs
    | false => match Nat.ble i j with
      | true => rotQ m f (swpRQ (m - i) (m + j - i) i 0 xs) i (j - i)
      | false => rotQ m f (swpRQ (m - i) m j 0 xs) (i - j) j
theorem rotQ_eq {m : Nat} : ∀ (f : Nat) (xs : List Nat) (i j : Nat), rotQ m f xs i j = rot m f xs i j
  | 0, _, _, _ => rfl
  | f + 1, xs, i, j => by
    rw [rotQ, rot]
    by_cases h : i = j
    · rw [bq_yes h, if_pos h, swpRQ_eq]
    · rw [bq_no h, if_neg h]
      by_cases h2 : j < i
      · rw [show Nat.ble i j = false by rw [← Bool.not_eq_true, Nat.ble_eq]; omega, if_pos h2]; simp only [rotQ_eq, swpRQ_eq]
      · rw [Nat.ble_eq_true_of_le (by omega : i ≤ j), if_neg h2]; simp only [rotQ_eq, swpRQ_eq]
section
variable (l : List Nat)
def insJQ (a : Nat) : Nat → List Nat → List Nat
  | 0, xs => xs
  | j + 1, xs => match Nat.ble a j with
    | false => xs
    | true => match ltR l (nthR xs (j + 1)) (nthR xs j) with
      | true => insJQ a j (swpQ xs (j + 1) j)
      | false => xs
theorem insJQ_eq {a : Nat} : ∀ (j : Nat) (xs : List Nat), insJQ l a j xs = insJ (cC l) a j xs
  | 0, _ => rfl
  | j + 1, xs => by
    rw [insJQ, insJ]
    by_cases h : a ≤ j
    · rw [Nat.ble_eq_true_of_le h]
      simp only [nthR_eq]
      cases h2 : ltR l (nth xs (j + 1)) (nth xs j) with
      | true => rw [if_pos ⟨h, by rw [← ltR_eq]; exact h2⟩, ← insJQ_eq, swpQ_eq]
      | false => rw [if_neg (fun q => by have := q.2; rw [← ltR_eq, h2] at this; exact absurd this (by simp))]
    · rw [show Nat.ble a j = false by rw [← Bool.not_eq_true, Nat.ble_eq]; exact h, if_neg (fun q => h q.1)]
def insOQ (a : Nat) : Nat → Nat → List Nat → List Nat
  | 0, _, xs => xs
  | k + 1, i, xs => insOQ a k (i + 1) (insJQ l a i xs)
theorem insOQ_eq {a : Nat} : ∀ (k i : Nat) (xs : List Nat), insOQ l a k i xs = insO (cC l) a k i xs
  | 0, _, _ => rfl
  | k + 1, i, xs => by rw [insOQ, insO, insJQ_eq, insOQ_eq]
def bs1Q (xs : List Nat) (a : Nat) : Nat → Nat → Nat → Nat
  | 0, i, _ => i
  | f + 1, i, j => match Nat.ble j i with
    | true => i
    | false => match ltR l (nthR xs ((i + j) / 2)) (nthR xs a) with
      | true => bs1Q xs a f ((i + j) / 2 + 1) j
      | false => bs1Q xs a f i ((i + j) / 2)
theorem bs1Q_eq {xs : List Nat} {a : Nat} : ∀ (f i j : Nat), bs1Q l xs a f i j = bs1 (cC l) xs a f i j
  | 0, _, _ => rfl
  | f + 1, i, j => by
    rw [bs1Q, bs1]
    by_cases h : i < j
    · rw [show Nat.ble j i = false by rw [← Bool.not_eq_true, Nat.ble_eq]; omega, if_pos h]
      simp only [nthR_eq]
      cases h2 : ltR l (nth xs ((i + j) / 2)) (nth xs a) with
      | true => rw [if_pos (by rw [← ltR_eq]; exact h2)]; simp only [bs1Q_eq]
      | false => rw [if_neg (by rw [← ltR_eq, h2]; simp)]; simp only [bs1Q_eq]
    · rw [Nat.ble_eq_true_of_le (by omega : j ≤ i), if_neg h]
def bs2Q (xs : List Nat) (m : Nat) : Nat → Nat → Nat → Nat
  | 0, i, _ => i
  | f + 1, i, j => match Nat.ble j i with
    | true => i
    | false => match ltR l (nthR xs m) (nthR xs ((i + j) / 2)) with
      | true => bs2Q xs m f i ((i + j) / 2)
      | false => bs2Q xs m f ((i + j) / 2 + 1) j
theorem bs2Q_eq {xs : List Nat} {m : Nat} : ∀ (f i j : Nat), bs2Q l xs m f i j = bs2 (cC l) xs m f i j
  | 0, _, _ => rfl
  | f + 1, i, j => by
    rw [bs2Q, bs2]
    by_cases h : i < j
    · rw [show Nat.ble j i = false by rw [← Bool.not_eq_true, Nat.ble_eq]; omega, if_pos h]
      simp only [nthR_eq]
      cases h2 : ltR l (nth xs m) (nth xs ((i + j) / 2)) with
      | true => rw [if_pos (by rw [← ltR_eq]; exact h2)]; simp only [bs2Q_eq]
      | false => rw [if_neg (by rw [← ltR_eq, h2]; simp)]; simp only [bs2Q_eq]
    · rw [Nat.ble_eq_true_of_le (by omega : j ≤ i), if_neg h]
def bs3Q (xs : List Nat) (p : Nat) : Nat → Nat → Nat → Nat
  | 0, i, _ => i
  | f + 1, i, j => match Nat.ble j i with
    | true => i
    | false => match ltR l (nthR xs (p - (i + j) / 2)) (nthR xs ((i + j) / 2)) with
      | true => bs3Q xs p f i ((i + j) / 2)
      | false => bs3Q xs p f ((i + j) / 2 + 1) j
theorem bs3Q_eq {xs : List Nat} {p : Nat} : ∀ (f i j : Nat), bs3Q l xs p f i j = bs3 (cC l) xs p f i j
  | 0, _, _ => rfl
  | f + 1, i, j => by
    rw [bs3Q, bs3]
    by_cases h : i < j
    · rw [show Nat.ble j i = false by rw [← Bool.not_eq_true, Nat.ble_eq]; omega, if_pos h]
      simp only [nthR_eq]
      cases h2 : ltR l (nth xs (p - (i + j) / 2)) (nth xs ((i + j) / 2)) with
      | true => rw [if_pos (by rw [← ltR_eq]; exact h2)]; simp only [bs3Q_eq]
      | false => rw [if_neg (by rw [← ltR_eq, h2]; simp)]; simp only [bs3Q_eq]
    · rw [Nat.ble_eq_true_of_le (by omega : j ≤ i), if_neg h]
def shUQ : Nat → Nat → List Nat → List Nat
  | 0, _, xs => xs
  | n + 1, k, xs => shUQ n (k + 1) (swpQ xs k (k + 1))
theorem shUQ_eq : ∀ (n k : Nat) (xs : List Nat), shUQ n k xs = shU n k xs
  | 0, _, _ => rfl
  | n + 1, k, xs => by rw [shUQ, shU, swpQ_eq, shUQ_eq]
def shDQ : Nat → Nat → List Nat → List Nat
  | 0, _, xs => xs
  | n + 1, k, xs => shDQ n (k - 1) (swpQ xs k (k - 1))
theorem shDQ_eq : ∀ (n k : Nat) (xs : List Nat), shDQ n k xs = shD n k xs
  | 0, _, _ => rfl
  | n + 1, k, xs => by rw [shDQ, shD, swpQ_eq, shDQ_eq]
def symMQ : Nat → List Nat → Nat → Nat → Nat → List Nat
  | 0, xs, _, _, _ => xs
  | f + 1, xs, a, m, b =>
    if m - a = 1 then shUQ (bs1Q l xs a (b - m) m b - 1 - a) a xs
    else if b - m = 1 then shDQ (m - bs2Q l xs m (m - a) a m) m xs
    else
      let s := if (a + b) / 2 < m then bs3Q l xs ((a + b) / 2 + m - 1) (b - a) ((a + b) / 2 + m - b) ((a + b) / 2) else bs3Q l xs ((a + b) / 2 + m - 1) (b - a) a m
      let e := (a + b) / 2 + m - s
      let ys := if s < m ∧ m < e then rotQ m (e - s) xs (m - s) (e - m) else xs
      let zs := if a < s ∧ s < (a + b) / 2 then symMQ f ys a s ((a + b) / 2) else ys
      if (a + b) / 2 < e ∧ e < b then symMQ f zs ((a + b) / 2) e b else zs
theorem symMQ_eq : ∀ (f : Nat) (xs : List Nat) (a m b : Nat), symMQ l f xs a m b = symM (cC l) f xs a m b
  | 0, _, _, _, _ => rfl
  | f + 1, xs, a, m, b => by
    rw [symMQ, symM]
    simp only [shUQ_eq, shDQ_eq, bs1Q_eq, bs2Q_eq, bs3Q_eq, rotQ_eq, symMQ_eq f]
def stIQ (n : Nat) : Nat → List Nat → Nat → List Nat × Nat
  | 0, xs, a => (xs, a)
  | f + 1, xs, a => if a + 20 ≤ n then stIQ n f (insOQ l a 19 (a + 1) xs) (a + 20) else (xs, a)
theorem stIQ_eq {n : Nat} : ∀ (f : Nat) (xs : List Nat) (a : Nat), stIQ l n f xs a = stI (cC l) n f xs a
  | 0, _, _ => rfl
  | f + 1, xs, a => by rw [stIQ, stI]; simp only [insOQ_eq, stIQ_eq f]
def stMQ (n bs : Nat) : Nat → List Nat → Nat → List Nat × Nat
  | 0, xs, a => (xs, a)
  | f + 1, xs, a => if a + 2 * bs ≤ n then stMQ n bs f (symMQ l (2 * bs) xs a (a + bs) (a + 2 * bs)) (a + 2 * bs) else (xs, a)
theorem stMQ_eq {n bs : Nat} : ∀ (f : Nat) (xs : List Nat) (a : Nat), stMQ l n bs f xs a = stM (cC l) n bs f xs a
  | 0, _, _ => rfl
  | f + 1, xs, a => by rw [stMQ, stM]; simp only [symMQ_eq, stMQ_eq f]
def stEQ (n bs : Nat) (p : List Nat × Nat) : List Nat := if p.2 + bs < n then symMQ l (n - p.2) p.1 p.2 (p.2 + bs) n else p.1
theorem stEQ_eq {n bs : Nat} (p : List Nat × Nat) : stEQ l n bs p = stE (cC l) n bs p := by rw [stEQ, stE]; simp only [symMQ_eq]
def stSQ (n : Nat) (p : List Nat × Nat) : List Nat := insOQ l p.2 (n - (p.2 + 1)) (p.2 + 1) p.1
theorem stSQ_eq {n : Nat} (p : List Nat × Nat) : stSQ l n p = stS (cC l) n p := insOQ_eq l _ _ _
def stLQ (n : Nat) : Nat → List Nat → Nat → List Nat
  | 0, xs, _ => xs
  | f + 1, xs, bs => if bs < n then stLQ n f (stEQ l n bs (stMQ l n bs n xs 0)) (2 * bs) else xs
theorem stLQ_eq {n : Nat} : ∀ (f : Nat) (xs : List Nat) (bs : Nat), stLQ l n f xs bs = stL (cC l) n f xs bs
  | 0, _, _ => rfl
  | f + 1, xs, bs => by rw [stLQ, stL]; simp only [stEQ_eq, stMQ_eq, stLQ_eq f]
def stableQ (n : Nat) (xs : List Nat) : List Nat := stLQ l n n (stSQ l n (stIQ l n n xs 0)) 20
theorem stableQ_eq {n : Nat} (xs : List Nat) : stableQ l n xs = stable (cC l) n xs := by rw [stableQ, stable, stLQ_eq, stSQ_eq, stIQ_eq]
/-- The same, one merging round at a time. -/
def rnd (n bs : Nat) (xs : List Nat) : List Nat := stEQ l n bs (stMQ l n bs n xs 0)
end
end
end Go.Vm

namespace Go.Vm
set_option linter.unusedVariables false
set_option maxRecDepth 1000000
/-! Books are sorted: run by the kernel. -/
theorem st1 : stable (cC (szs 1)) (bMany 1) (List.range (bMany 1)) = bEnts 1 := by rw [← stableQ_eq]; decide +kernel
theorem st3 : stable (cC (szs 3)) (bMany 3) (List.range (bMany 3)) = bEnts 3 := by rw [← stableQ_eq]; decide +kernel
theorem st5 : stable (cC (szs 5)) (bMany 5) (List.range (bMany 5)) = bEnts 5 := by rw [← stableQ_eq]; decide +kernel
theorem st7 : stable (cC (szs 7)) (bMany 7) (List.range (bMany 7)) = bEnts 7 := by rw [← stableQ_eq]; decide +kernel
theorem st12 : stable (cC (szs 12)) (bMany 12) (List.range (bMany 12)) = bEnts 12 := by rw [← stableQ_eq]; decide +kernel
theorem st9 : stable (cC (szs 9)) (bMany 9) (List.range (bMany 9)) = bEnts 9 := by rw [← stableQ_eq]; decide +kernel
end Go.Vm

end
