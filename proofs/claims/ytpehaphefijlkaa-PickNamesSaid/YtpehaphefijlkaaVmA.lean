import GoSem.Core.View
import Derived.Calls
import Derived.Laws.Sem
import Derived.Laws.World
import GoSem.Core.Program
import GoSem.Core.Layout
import GoSem.Op.Equal
set_option linter.unusedVariables false
set_option linter.unusedSimpArgs false
noncomputable section
/-
  THE INTERPRETER. A deterministic interpreter for annotated code ('VC'), on plain data. Lists (slices) are values: 'own' is a list to which nobody else may append; 'd (lst ..)' is a list that stays as it is. Only variables whose address is taken, and slices whose elements are stored into, live in a heap.
  Nothing here mentions the model's machine: the text Sound shows that what this interpreter answers is what the model's machine answers, on every tape.
-/
namespace Go.Vm

/-- Plain data: what does not change any more. A list's element is its cells. -/
inductive D where
  | int (k : IntKind) (n : Int)
  | bool (b : Bool)
  | str (s : List UInt8)
  | lst (xs : List (List D))
  deriving Inhabited

/-- Values of the interpreter. 'own': 'p' tells that it is fresh (only in an operation's answer); 'm' is how many cells an element has. -/
inductive AV where
  | junk
  | d (x : D)
  | nl
  | own (p : Bool) (m : Nat) (xs : List (List D))
  | gl (n : Nat)
  | agg (cs : List AV)
  | tup (vs : List AV)
  | nilp
  | ptr (id off : Nat)
  | pel (id i off : Nat)
  | pim (cs : List D) (off : Nat)
  | sl (id off len : Nat)
  | fn (f : FuncId) (first caps : List AV)
  | nilf
  | yield (l : Nat)
  deriving Inhabited

abbrev AV.int (k : IntKind) (n : Int) : AV := .d (.int k n)
abbrev AV.bool (b : Bool) : AV := .d (.bool b)

/-- An operand: 's' a copy, 'm' the thing itself (the slot is empty behind it), 'c' a constant. -/
inductive Rd where
  | s (i : Nat)
  | m (i : Nat)
  | c (v : AV)
  deriving Inhabited

inductive VOp where
  | mov (x : Rd)
  | pick (c a b : Rd)
  | alloc (zs : List AV)
  | box (x : Rd)
  | build (zs : List AV) (ps : List (Nat × Nat × Rd))
  | mks (m : Nat) (ps : List Rd)
  | mksv (m : Nat) (ps : List Rd)
  | ld (n : Option Nat) (take : Nat) (p : Rd)
  | st (n : Nat) (p x : Rd)
  | nilck (x : Rd)
  | bin (op : BinOp) (x y : Rd)
  | binb (neg : Bool) (x y : Rd)
  | bina (neg : Bool) (ks : List Bool) (x y : Rd)
  | un (op : UnOp) (x : Rd)
  | conv (k : IntKind) (x : Rd)
  | toStr (x : Rd)
  | mkfn (f : FuncId) (first caps : List Rd)
  | mkslice (z : List D) (len cap : Rd)
  | slice (m : Nat) (x : Rd) (lo hi mx : Option Rd)
  | slarr (n : Nat) (x : Rd) (lo hi mx : Option Rd)
  | fa (off : Nat) (p : Rd)
  | fld (off : Nat) (n : Option Nat) (x : Rd)
  | ia (n : Nat) (x i : Rd)
  | iarr (len n : Nat) (p i : Rd)
  | ix (len n : Nat) (agg : Bool) (x i : Rd)
  | ixs (x i : Rd)
  | idxb (x c : Rd)
  | ext (j : Nat) (mv : Bool) (i : Nat)
  | len (x : Rd)
  | cap (x : Rd)
  | app (m : Nat) (x y : Rd)
  | appz (z : List D) (x n : Rd)
  | cpy (m : Nat) (x y : Rd)
  | clr (z : List D) (x : Rd)
  | minmax (isMax : Bool) (xs : List Rd)
  | call (f : FuncId) (args : List Rd)
  | calli (f : FuncId) (args : List Rd)
  | callv (f : Rd) (args : List Rd)
  | bad
  -- what has no counterpart in the model's code
  | kill (is : List Nat)
  | free (i : Nat)
  | wk (i m : Nat)
  | frz (i : Nat)
  | frzC (i : Nat) (offs : List Nat)
  deriving Inhabited

/-- An instruction; 'th': which parts of its answer (0: the whole, or its first cell) are lists that will be stored into. -/
structure VI where
  dst : Option Nat
  guard : Option (Nat × Bool)
  op : VOp
  th : List (Nat × Nat) := []
  deriving Inhabited

inductive VC where
  | skip
  | reg (draw : Bool) (ops : List VI)
  | regP (perm gco nr : List Nat) (ops : List VI)
  | seq (a b : VC)
  | cond (c : Rd) (a b : VC)
  | block (id : Nat) (a : VC)
  | loop (a : VC)
  | rangeF (f : Rd) (params : List Nat) (assign body : VC)
  | exit (id : Nat)
  | scope (a : VC)
  | inScope (a cur : VC)
  | label (l : Nat)
  | goto (l : Nat)
  | ret
  | clone (m : Nat)
  | late (i d f : Nat) (a : VC)
  deriving Inhabited

inductive VRes where
  | tmp (t : Nat)
  | cell (t : Nat) (n : Option Nat)
  deriving Inhabited

structure VFunc where
  nparams : Nat
  results : List VRes
  body : VC
  deriving Inhabited

abbrev Env := List (Nat × AV)

inductive Out where
  | normal
  | exit (id : Nat)
  | goto (l : Nat)
  | ret
  deriving Inhabited, DecidableEq

inductive Obj where
  | cells (cs : List AV)
  | arr (m : Nat) (xs : List (List D))
  | loop (snap : Env) (params : List Nat) (assign body : VC) (busy : Bool) (pend : Option Out)
  deriving Inhabited

abbrev Heap := List (Nat × Obj)

structure HS where
  heap : Heap
  next : Nat
  deriving Inhabited

structure St where
  env : Env
  hs : HS
  deriving Inhabited

/-! ### Association lists -/
/-- Which of two keys stands ahead. -/
abbrev Bef (a b : Nat) : Prop := a < b
abbrev Befe (a b : Nat) : Prop := a ≤ b
abbrev befB (a b : Nat) : Bool := Nat.ble a b
theorem befB_yes {a b : Nat} (h : Befe a b) : befB a b = true := Nat.ble_eq_true_of_le h
theorem befB_no {a b : Nat} (h : ¬ Befe a b) : befB a b = false := by rw [← Bool.not_eq_true, befB, Nat.ble_eq]; exact h
def get {α : Type} (l : List (Nat × α)) (i : Nat) : Option α :=
  List.rec (motive := fun _ => Option α) none (fun p _ ih => Prod.rec (motive := fun _ => Option α) (fun k v => Bool.rec (motive := fun _ => Option α) ih (some v) (Nat.beq k i)) p) l
def put {α : Type} (l : List (Nat × α)) (i : Nat) (x : α) : List (Nat × α) :=
  List.rec (motive := fun _ => List (Nat × α)) [(i, x)] (fun p r ih => Prod.rec (motive := fun _ => List (Nat × α)) (fun k v => Bool.rec (motive := fun _ => List (Nat × α)) (Bool.rec (motive := fun _ => List (Nat × α)) ((k, v) :: ih) ((i, x) :: (k, v) :: r) (befB i k)) ((i, x) :: r) (Nat.beq k i)) p) l
def del {α : Type} (l : List (Nat × α)) (i : Nat) : List (Nat × α) :=
  List.rec (motive := fun _ => List (Nat × α)) [] (fun p _ ih => Prod.rec (motive := fun _ => List (Nat × α)) (fun k v => Bool.rec (motive := fun _ => List (Nat × α)) ((k, v) :: ih) ih (Nat.beq k i)) p) l
section
variable {α : Type}
theorem get_nil (i : Nat) : get ([] : List (Nat × α)) i = none := rfl
theorem put_nil (i : Nat) (x : α) : put [] i x = [(i, x)] := rfl
theorem del_nil (i : Nat) : del ([] : List (Nat × α)) i = [] := rfl
theorem beq_yes {k i : Nat} (h : k = i) : Nat.beq k i = true := by rw [Nat.beq_eq]; exact h
theorem beq_no {k i : Nat} (h : ¬ k = i) : Nat.beq k i = false := by rw [← Bool.not_eq_true, Nat.beq_eq]; exact h
theorem get_cons (k : Nat) (v : α) (r : List (Nat × α)) (i : Nat) : get ((k, v) :: r) i = if k = i then some v else get r i := by
  show Bool.rec (motive := fun _ => Option α) (get r i) (some v) (Nat.beq k i) = _
  by_cases h : k = i
  · rw [if_pos h, beq_yes h]
  · rw [if_neg h, beq_no h]
theorem del_cons (k : Nat) (v : α) (r : List (Nat × α)) (i : Nat) : del ((k, v) :: r) i = if k = i then del r i else (k, v) :: del r i := by
  show Bool.rec (motive := fun _ => List (Nat × α)) ((k, v) :: del r i) (del r i) (Nat.beq k i) = _
  by_cases h : k = i
  · rw [if_pos h, beq_yes h]
  · rw [if_neg h, beq_no h]
theorem put_cons (k : Nat) (v : α) (r : List (Nat × α)) (i : Nat) (x : α) :
    put ((k, v) :: r) i x = if k = i then (i, x) :: r else if Befe i k then (i, x) :: (k, v) :: r else (k, v) :: put r i x := by
  show Bool.rec (motive := fun _ => List (Nat × α)) (Bool.rec (motive := fun _ => List (Nat × α)) ((k, v) :: put r i x) ((i, x) :: (k, v) :: r) (befB i k)) ((i, x) :: r) (Nat.beq k i) = _
  by_cases h : k = i
  · rw [if_pos h, beq_yes h]
  · rw [if_neg h, beq_no h]
    by_cases h2 : Befe i k
    · rw [if_pos h2, befB_yes h2]
    · rw [if_neg h2, befB_no h2]
end

/-! ### Reading operands -/
mutual
/-- A copy: the right to append is not copied. -/
def share0 : AV → AV
  | .own p _ xs => match p with
    | false => .d (.lst xs)
    | true => .junk
  | .agg cs => .agg (shareAll cs)
  | .tup cs => .tup (shareAll cs)
  | v => v
def shareAll : List AV → List AV
  | [] => []
  | v :: r => share0 v :: shareAll r
end
/-- The same, in few steps of the kernel's. -/
def share (v : AV) : AV := AV.casesOn (motive_1 := fun _ => AV) v .junk (fun x => .d x) .nl (fun p _ xs => Bool.casesOn (motive := fun _ => AV) p (.d (.lst xs)) .junk) (fun n => .gl n) (fun cs => .agg (shareAll cs)) (fun cs => .tup (shareAll cs))
  .nilp (fun a b => .ptr a b) (fun a b c => .pel a b c) (fun a b => .pim a b) (fun a b c => .sl a b c) (fun a b c => .fn a b c) .nilf (fun a => .yield a)
theorem share0_eq (v : AV) : share0 v = share v := by
  cases v <;> try rfl
  rename_i p _ _
  cases p <;> rfl
theorem shareAll_nil : shareAll [] = [] := rfl
theorem shareAll_cons (v : AV) (r : List AV) : shareAll (v :: r) = share v :: shareAll r := by rw [shareAll, share0_eq]
def rd (e : Env) : Rd → Option (AV × Env)
  | .c v => some (v, e)
  | .m i => match get e i with
    | some v => some (v, del e i)
    | none => none
  | .s i => match get e i with
    | some v => some (share v, e)
    | none => none
def rdAll (e : Env) : List Rd → Option (List AV × Env)
  | [] => some ([], e)
  | x :: r => match rd e x with
    | none => none
    | some (v, e) => match rdAll e r with
      | none => none
      | some (vs, e) => some (v :: vs, e)
def rdOpt (e : Env) : Option Rd → Option (Option AV × Env)
  | none => some (none, e)
  | some x => match rd e x with
    | some (v, e) => some (some v, e)
    | none => none

/-! ### Lists, data -/
def sub {α : Type} (xs : List α) (off len : Nat) : List α := (xs.drop off).take len
def setCells {α : Type} (cs : List α) (off : Nat) (vs : List α) : List α := cs.take off ++ vs ++ cs.drop (off + vs.length)
def ones : List D → List (List D)
  | [] => []
  | x :: r => [x] :: ones r
/-- A cell as plain data. -/
def toD : AV → Option D
  | .d x => some x
  | .nl => some (.lst [])
  | .own false _ xs => some (.lst xs)
  | _ => none
def toDs : List AV → Option (List D)
  | [] => some []
  | v :: r => match toD v with
    | some x => match toDs r with
      | some xs => some (x :: xs)
      | none => none
    | none => none
def AV.cells : AV → List AV
  | .agg cs => cs
  | v => [v]
def objElems (h : Heap) (id : Nat) : Option (List (List D)) :=
  match get h id with
  | some (.arr _ xs) => some xs
  | some (.cells cs) => match toDs cs with
    | some ds => some (ones ds)
    | none => none
  | _ => none
/-- A list's elements. -/
def elems (h : Heap) : AV → Option (List (List D))
  | .d (.lst xs) => some xs
  | .nl => some []
  | .own false _ xs => some xs
  | .sl id off len => match objElems h id with
    | some xs => match Nat.ble (off + len) xs.length with
      | true => some (sub xs off len)
      | false => none
    | none => none
  | _ => none
def lenOf : AV → Option Nat
  | .d (.lst xs) => some xs.length
  | .nl => some 0
  | .own _ _ xs => some xs.length
  | .gl n => some n
  | .sl _ _ len => some len
  | _ => none
/-- An argument's cell as plain data, as it stands now. -/
def viewOne (h : Heap) : AV → Option AV
  | .d x => some (.d x)
  | .nl => some .nl
  | .own false _ xs => some (.d (.lst xs))
  | .sl id off len => match elems h (.sl id off len) with
    | some xs => some (.d (.lst xs))
    | none => none
  | _ => none
def viewAll (h : Heap) : List AV → Option (List AV)
  | [] => some []
  | v :: r => match viewOne h v with
    | none => none
    | some x => match viewAll h r with
      | none => none
      | some xs => some (x :: xs)
def viewArg (h : Heap) : AV → Option AV
  | .agg cs => match viewAll h cs with
    | some xs => some (.agg xs)
    | none => none
  | v => viewOne h v
def viewArgs (h : Heap) : List AV → Option (List AV)
  | [] => some []
  | v :: r => match viewArg h v with
    | none => none
    | some x => match viewArgs h r with
      | none => none
      | some xs => some (x :: xs)
def isSl : AV → Bool
  | .sl .. => true
  | _ => false
/-- Does a call read what may be stored into later? -/
def fluid : AV → Bool
  | .agg cs => cs.any isSl
  | v => isSl v
/-- A result's cell, as the caller gets it. -/
def resOne (h : Heap) : AV → Option (AV × Heap)
  | .d x => some (.d x, h)
  | .nl => some (.nl, h)
  | .own p m xs => some (.own p m xs, h)
  | .sl id off len => match get h id with
    | some (.arr m xs) => match Nat.ble (off + len) xs.length with
      | true => some (.own true m (sub xs off len), del h id)
      | false => none
    | _ => none
  | _ => none
def resAll (h : Heap) : List AV → Option (List AV × Heap)
  | [] => some ([], h)
  | v :: r => match resOne h v with
    | none => none
    | some (x, h) => match resAll h r with
      | none => none
      | some (xs, h) => some (x :: xs, h)
def resAgg (h : Heap) : AV → Option (AV × Heap)
  | .agg cs => match resAll h cs with
    | some (xs, h) => some (.agg xs, h)
    | none => none
  | v => resOne h v
def resAggs (h : Heap) : List AV → Option (List AV × Heap)
  | [] => some ([], h)
  | v :: r => match resAgg h v with
    | none => none
    | some (x, h) => match resAggs h r with
      | none => none
      | some (xs, h) => some (x :: xs, h)
/-- Has a result no list that may be an argument's? -/
def flatD : D → Bool
  | .lst _ => false
  | _ => true
def fresh1 : AV → Bool
  | .d x => flatD x
  | .own _ _ xs => xs.all fun e => e.all flatD
  | _ => true
def fresh2 : AV → Bool
  | .agg cs => cs.all fresh1
  | v => fresh1 v
def fresh3 : AV → Bool
  | .tup vs => vs.all fresh2
  | v => fresh2 v

/-- Where no list of a result may be seen from elsewhere, all of them are fresh. -/
def bless1 : AV → AV
  | .own _ m xs => .own true m xs
  | v => v
def bless2 : AV → AV
  | .agg cs => .agg (cs.map bless1)
  | v => bless1 v
def bless3 : AV → AV
  | .tup vs => .tup (vs.map bless2)
  | v => bless2 v
def blessed (v : AV) : AV :=
  match fresh3 v with
  | true => bless3 v
  | false => v
def resTop (h : Heap) : AV → Option AV
  | .tup vs => match resAggs h vs with
    | some (xs, _) => some (blessed (.tup xs))
    | none => none
  | v => match resAgg h v with
    | some (x, _) => some (blessed x)
    | none => none

/-! ### Places -/
def ofElem (n : Option Nat) (cs : List D) (off : Nat) : Option AV :=
  match n with
  | none => match cs[off]? with
    | some x => some (.d x)
    | none => none
  | some n => match Nat.ble (off + n) cs.length with
    | true => some (.agg ((sub cs off n).map .d))
    | false => none
/-- What is taken, and what stays. 'take': 0, a copy; 1, it is taken away; 2, it is taken away, a copy stays; 3, its length stays. -/
def takes (t : Nat) (v : AV) : AV × AV :=
  match t with
  | 1 => (v, .junk)
  | 2 => (v, share v)
  | 3 => (v, match v with | .own _ _ xs => .gl xs.length | v => share v)
  | _ => (share v, v)
def takesAll (t : Nat) : List AV → List AV × List AV
  | [] => ([], [])
  | v :: r => ((takes t v).1 :: (takesAll t r).1, (takes t v).2 :: (takesAll t r).2)
def loadAt (h : Heap) (n : Option Nat) (take : Nat) : AV → Option (AV × Heap)
  | .ptr id off => match get h id with
    | some (.cells cs) => match n with
      | none => match cs[off]? with
        | none => none
        | some v => match take with
          | 0 => some (share v, h)
          | t => some ((takes t v).1, put h id (.cells (cs.set off (takes t v).2)))
      | some n => match Nat.ble (off + n) cs.length with
        | true => match take with
          | 0 => some (.agg (shareAll (sub cs off n)), h)
          | t => some (.agg (takesAll t (sub cs off n)).1, put h id (.cells (setCells cs off (takesAll t (sub cs off n)).2)))
        | false => none
    | _ => none
  | .pel id i off => match get h id with
    | some (.arr _ xs) => match xs[i]? with
      | some x => match ofElem n x off with
        | some v => some (v, h)
        | none => none
      | none => none
    | _ => none
  | .pim cs off => match ofElem n cs off with
    | some v => some (v, h)
    | none => none
  | _ => none
/-- May a value be one cell of a variable? -/
def isCell : AV → Bool
  | .junk | .agg _ | .tup _ => false
  | .own p _ _ => !p
  | _ => true
def storeAt (h : Heap) (n : Nat) (p x : AV) : Option Heap :=
  match Nat.beq x.cells.length n with
  | false => none
  | true => match p with
    | .ptr id off => match get h id with
      | some (.cells cs) => match Nat.ble (off + n) cs.length && x.cells.all isCell with
        | true => some (put h id (.cells (setCells cs off x.cells)))
        | false => none
      | _ => none
    | .pel id i off => match toDs x.cells with
      | none => none
      | some ds => match get h id with
        | some (.arr m xs) => match xs[i]? with
          | some e => match Nat.ble (off + n) e.length with
            | true => some (put h id (.arr m (xs.set i (setCells e off ds))))
            | false => none
          | none => none
        | _ => none
    | _ => none
def addOff (off : Nat) : AV → Option AV
  | .ptr id o => some (.ptr id (o + off))
  | .pel id i o => some (.pel id i (o + off))
  | .pim cs o => some (.pim cs (o + off))
  | _ => none

/-! ### Numbers -/
/-- 'IntKind.wrap', quick where nothing is to be wrapped. -/
def wrapTo (lo hi : Int) (k : IntKind) (n : Int) : Int :=
  match decide (lo ≤ n) && decide (n ≤ hi) with
  | true => n
  | false => k.wrap n
def wr (k : IntKind) (n : Int) : Int :=
  match k with
  | .i64 => wrapTo (-9223372036854775808) 9223372036854775807 k n
  | .u8 => wrapTo 0 255 k n
  | .u64 => wrapTo 0 18446744073709551615 k n
  | .u16 => wrapTo 0 65535 k n
  | .u32 => wrapTo 0 4294967295 k n
  | k => k.wrap n
def shiftOf (op : BinOp) (k : IntKind) (x y : Int) : Option D :=
  match decide (y < 0) with
  | true => none
  | false => match op with
    | .shl => some (.int k (wr k (x * ((2 ^ (min y.toNat k.bits) : Nat) : Int))))
    | .shr => some (.int k (x.fdiv ((2 ^ (min y.toNat k.bits) : Nat) : Int)))
    | _ => none
/-- Bits of two numbers; at once where both are from 0 on. -/
def bitsOf (op : BinOp) (k : IntKind) (x y : Int) : Option D :=
  let slow (f : BitVec k.bits → BitVec k.bits → BitVec k.bits) : Option D := some (.int k (k.wrap (f (BitVec.ofInt k.bits x) (BitVec.ofInt k.bits y)).toNat))
  match op with
  | .and => slow (· &&& ·)
  | .or => slow (· ||| ·)
  | .xor => slow (· ^^^ ·)
  | .andNot => slow fun a b => a &&& ~~~b
  | _ => none
def intOp (op : BinOp) (k : IntKind) (x y : Int) : Option D :=
  match op with
  | .add => some (.int k (wr k (x + y)))
  | .sub => some (.int k (wr k (x - y)))
  | .mul => some (.int k (wr k (x * y)))
  | .quo => match decide (y = 0) with
    | true => none
    | false => some (.int k (wr k (x.tdiv y)))
  | .rem => match decide (y = 0) with
    | true => none
    | false => some (.int k (x.tmod y))
  | .eql => some (.bool (decide (x = y)))
  | .neq => some (.bool (!decide (x = y)))
  | .lss => some (.bool (decide (x < y)))
  | .leq => some (.bool (decide (x ≤ y)))
  | .gtr => some (.bool (decide (y < x)))
  | .geq => some (.bool (decide (y ≤ x)))
  | .shl => none
  | .shr => none
  | op => bitsOf op k x y
def kindEq : IntKind → IntKind → Bool
  | .i8, .i8 | .i16, .i16 | .i32, .i32 | .i64, .i64 | .u8, .u8 | .u16, .u16 | .u32, .u32 | .u64, .u64 => true
  | _, _ => false
/-- Are two structs of numbers ('true') and bools ('false') the same? -/
def sameCells : List Bool → List AV → List AV → Option Bool
  | [], [], [] => some true
  | true :: ks, .d (.int k a) :: r, .d (.int j b) :: s => match kindEq k j with
    | true => match decide (a = b) with
      | true => sameCells ks r s
      | false => some false
    | false => none
  | false :: ks, .d (.bool a) :: r, .d (.bool b) :: s => match a == b with
    | true => sameCells ks r s
    | false => some false
  | _, _, _ => none
def numOf (op : BinOp) (k : IntKind) (a : Int) (j : IntKind) (b : Int) : Option D :=
  match op with
  | .shl => shiftOf .shl k a b
  | .shr => shiftOf .shr k a b
  | op => match kindEq k j with
    | true => intOp op k a b
    | false => none
def binOf (op : BinOp) : AV → AV → Option AV
  | .d (.int k a), .d (.int j b) => match numOf op k a j b with
    | some x => some (.d x)
    | none => none
  | .d (.str a), .d (.str b) => match op with
    | .eql => some (.bool (a == b))
    | .neq => some (.bool (!(a == b)))
    | _ => none
  | _, _ => none
/-! Numbers in few steps of the kernel's. -/
def iadd (a b : Int) : Int := Int.casesOn (motive := fun _ => Int → Int) a (fun m b => Int.casesOn (motive := fun _ => Int) b (fun n => .ofNat (Nat.add m n)) (fun n => Int.subNatNat m (Nat.succ n)))
  (fun m b => Int.casesOn (motive := fun _ => Int) b (fun n => Int.subNatNat n (Nat.succ m)) (fun n => .negSucc (Nat.succ (Nat.add m n)))) b
def isub (a b : Int) : Int := Int.casesOn (motive := fun _ => Int → Int) a (fun m b => Int.casesOn (motive := fun _ => Int) b (fun n => Bool.casesOn (motive := fun _ => Int) (Nat.ble n m) (Int.ofNat m - Int.ofNat n) (.ofNat (Nat.sub m n))) (fun n => .ofNat (Nat.add m (Nat.succ n))))
  (fun m b => Int.negSucc m - b) b
def imul (a b : Int) : Int := Int.casesOn (motive := fun _ => Int → Int) a (fun m b => Int.casesOn (motive := fun _ => Int) b (fun n => .ofNat (Nat.mul m n)) (fun n => Int.ofNat m * Int.negSucc n))
  (fun m b => Int.negSucc m * b) b
def ile (a b : Int) : Bool := Int.casesOn (motive := fun _ => Int → Bool) a (fun m b => Int.casesOn (motive := fun _ => Bool) b (fun n => Nat.ble m n) (fun _ => false))
  (fun m b => Int.casesOn (motive := fun _ => Bool) b (fun _ => true) (fun n => Nat.ble n m)) b
def ieq (a b : Int) : Bool := Int.casesOn (motive := fun _ => Int → Bool) a (fun m b => Int.casesOn (motive := fun _ => Bool) b (fun n => Nat.beq m n) (fun _ => false))
  (fun m b => Int.casesOn (motive := fun _ => Bool) b (fun _ => false) (fun n => Nat.beq m n)) b
def hiN (k : IntKind) : Nat := IntKind.casesOn (motive := fun _ => Nat) k 127 32767 2147483647 9223372036854775807 255 65535 4294967295 18446744073709551615
def loN (k : IntKind) : Nat := IntKind.casesOn (motive := fun _ => Nat) k 128 32768 2147483648 9223372036854775808 0 0 0 0
def knN (k : IntKind) : Nat := IntKind.casesOn (motive := fun _ => Nat) k 0 1 2 3 4 5 6 7
def wq (n : Int) (k : IntKind) : D := Int.casesOn (motive := fun _ => D) n (fun m => Bool.casesOn (motive := fun _ => D) (Nat.ble m (hiN k)) (.int k (k.wrap (.ofNat m))) (.int k (.ofNat m)))
  (fun m => Bool.casesOn (motive := fun _ => D) (Nat.ble (Nat.succ m) (loN k)) (.int k (k.wrap (.negSucc m))) (.int k (.negSucc m)))
abbrev BF := BinOp → IntKind → Int → Int → Option AV
def bSlow : BF := fun op k a b => binOf op (.d (.int k a)) (.d (.int k b))
def bAdd : BF := fun _ k a b => some (.d (wq (iadd a b) k))
def bSub : BF := fun _ k a b => some (.d (wq (isub a b) k))
def bMul : BF := fun _ k a b => some (.d (wq (imul a b) k))
def bEql : BF := fun _ _ a b => some (.d (.bool (ieq a b)))
def bNeq : BF := fun _ _ a b => some (.d (.bool (Bool.casesOn (motive := fun _ => Bool) (ieq a b) true false)))
def bLss : BF := fun _ _ a b => some (.d (.bool (Bool.casesOn (motive := fun _ => Bool) (ile b a) true false)))
def bLeq : BF := fun _ _ a b => some (.d (.bool (ile a b)))
def bGtr : BF := fun _ _ a b => some (.d (.bool (Bool.casesOn (motive := fun _ => Bool) (ile a b) true false)))
def bGeq : BF := fun _ _ a b => some (.d (.bool (ile b a)))
def binK (op : BinOp) : BF := BinOp.casesOn (motive := fun _ => BF) op bAdd bSub bMul bSlow bSlow bSlow bSlow bSlow bSlow bSlow bSlow bEql bNeq bLss bLeq bGtr bGeq
def binI (k : IntKind) (a : Int) (op : BinOp) (y : D) : Option AV := D.casesOn (motive_1 := fun _ => IntKind → Int → BinOp → Option AV) y
  (fun j b k a op => Bool.casesOn (motive := fun _ => Option AV) (Nat.beq (knN k) (knN j)) (binOf op (.d (.int k a)) (.d (.int j b))) (binK op op k a b))
  (fun _ _ _ _ => none) (fun _ _ _ _ => none) (fun _ _ _ _ => none) k a op
def binD1 (x : D) (op : BinOp) (y : AV) : Option AV := D.casesOn (motive_1 := fun _ => BinOp → AV → Option AV) x
  (fun k a op y => AV.casesOn (motive_1 := fun _ => IntKind → Int → BinOp → Option AV) y (fun _ _ _ => none) (fun d k a op => binI k a op d) (fun _ _ _ => none) (fun _ _ _ _ _ _ => none) (fun _ _ _ _ => none) (fun _ _ _ _ => none) (fun _ _ _ _ => none) (fun _ _ _ => none) (fun _ _ _ _ _ => none) (fun _ _ _ _ _ _ => none) (fun _ _ _ _ _ => none) (fun _ _ _ _ _ _ => none) (fun _ _ _ _ _ _ => none) (fun _ _ _ => none) (fun _ _ _ _ => none) k a op)
  (fun b op y => binOf op (.d (.bool b)) y) (fun s op y => binOf op (.d (.str s)) y) (fun xs op y => binOf op (.d (.lst xs)) y) op y
def binQ (op : BinOp) (x y : AV) : Option AV := AV.casesOn (motive_1 := fun _ => BinOp → AV → Option AV) x (fun _ _ => none) (fun d op y => binD1 d op y) (fun _ _ => none) (fun _ _ _ _ _ => none) (fun _ _ _ => none) (fun _ _ _ => none) (fun _ _ _ => none) (fun _ _ => none) (fun _ _ _ _ => none) (fun _ _ _ _ _ => none) (fun _ _ _ _ => none) (fun _ _ _ _ _ => none) (fun _ _ _ _ _ => none) (fun _ _ => none) (fun _ _ _ => none) op y
theorem kindEq_knN (k j : IntKind) : Nat.beq (knN k) (knN j) = kindEq k j := by cases k <;> cases j <;> rfl
theorem iadd_eq (a b : Int) : iadd a b = a + b := by cases a <;> cases b <;> rfl
theorem isub_eq (a b : Int) : isub a b = a - b := by
  cases a with
  | ofNat m =>
    cases b with
    | ofNat n =>
      show Bool.casesOn (motive := fun _ => Int) (Nat.ble n m) (Int.ofNat m - Int.ofNat n) (.ofNat (Nat.sub m n)) = _
      by_cases h : n ≤ m
      · rw [Nat.ble_eq_true_of_le h]
        show ((m - n : Nat) : Int) = (m : Int) - (n : Int)
        omega
      · rw [show Nat.ble n m = false by rw [← Bool.not_eq_true, Nat.ble_eq]; exact h]
    | negSucc n => rfl
  | negSucc m => rfl
theorem imul_eq (a b : Int) : imul a b = a * b := by cases a <;> cases b <;> rfl
theorem ile_eq (a b : Int) : ile a b = decide (a ≤ b) := by
  cases a with
  | ofNat m =>
    cases b with
    | ofNat n =>
      show Nat.ble m n = _
      rw [Bool.eq_iff_iff, Nat.ble_eq, decide_eq_true_eq]; (try simp only [Int.ofNat_eq_natCast]); omega
    | negSucc n =>
      show false = _
      symm; rw [decide_eq_false_iff_not]; intro h; simp only [Int.ofNat_eq_natCast] at h; omega
  | negSucc m =>
    cases b with
    | ofNat n =>
      show true = _
      symm; rw [decide_eq_true_eq]; (try simp only [Int.ofNat_eq_natCast]); omega
    | negSucc n =>
      show Nat.ble n m = _
      rw [Bool.eq_iff_iff, Nat.ble_eq, decide_eq_true_eq]; (try simp only [Int.ofNat_eq_natCast]); omega
theorem ieq_eq (a b : Int) : ieq a b = decide (a = b) := by
  cases a with
  | ofNat m =>
    cases b with
    | ofNat n =>
      show Nat.beq m n = _
      rw [Bool.eq_iff_iff, Nat.beq_eq, decide_eq_true_eq]; (try simp only [Int.ofNat_eq_natCast]); omega
    | negSucc n =>
      show false = _
      symm; rw [decide_eq_false_iff_not]; intro h; simp only [Int.ofNat_eq_natCast] at h; omega
  | negSucc m =>
    cases b with
    | ofNat n =>
      show false = _
      symm; rw [decide_eq_false_iff_not]; intro h; simp only [Int.ofNat_eq_natCast] at h; omega
    | negSucc n =>
      show Nat.beq m n = _
      rw [Bool.eq_iff_iff, Nat.beq_eq, decide_eq_true_eq]; (try simp only [Int.ofNat_eq_natCast]); omega
theorem wrap_near {k : IntKind} {n : Int} (h : -(loN k : Int) ≤ n) (h2 : n ≤ hiN k) : k.wrap n = n := by
  cases k <;> simp only [loN, hiN] at h h2 <;> simp only [IntKind.wrap, IntKind.bits, IntKind.signed] <;> simp <;> omega
theorem wr_wrap (k : IntKind) (n : Int) : wr k n = k.wrap n := by
  have H : ∀ lo hi : Int, (lo ≤ n → n ≤ hi → k.wrap n = n) → wrapTo lo hi k n = k.wrap n := by
    intro lo hi h
    unfold wrapTo
    split
    · rename_i e
      simp only [Bool.and_eq_true, decide_eq_true_eq] at e
      exact (h e.1 e.2).symm
    · rfl
  cases k <;> simp only [wr]
  all_goals exact H _ _ fun h1 h2 => wrap_near (by simpa [loN] using h1) (by simpa [hiN] using h2)
theorem wq_eq (k : IntKind) (n : Int) : wq n k = .int k (wr k n) := by
  rw [wr_wrap]
  cases n with
  | ofNat m =>
    show Bool.casesOn (motive := fun _ => D) (Nat.ble m (hiN k)) (.int k (k.wrap (.ofNat m))) (.int k (.ofNat m)) = _
    by_cases h : m ≤ hiN k
    · rw [Nat.ble_eq_true_of_le h, wrap_near]
      · have : (0 : Int) ≤ Int.ofNat m := Int.natCast_nonneg m
        omega
      · show (m : Int) ≤ hiN k
        omega
    · rw [show Nat.ble m (hiN k) = false by rw [← Bool.not_eq_true, Nat.ble_eq]; exact h]
  | negSucc m =>
    show Bool.casesOn (motive := fun _ => D) (Nat.ble (Nat.succ m) (loN k)) (.int k (k.wrap (.negSucc m))) (.int k (.negSucc m)) = _
    by_cases h : m + 1 ≤ loN k
    · rw [Nat.ble_eq_true_of_le h, wrap_near]
      · omega
      · omega
    · rw [show Nat.ble (Nat.succ m) (loN k) = false by rw [← Bool.not_eq_true, Nat.ble_eq]; exact h]
theorem notB (b : Bool) : Bool.casesOn (motive := fun _ => Bool) b true false = !b := by cases b <;> rfl
theorem kindEq_id (k : IntKind) : kindEq k k = true := by cases k <;> rfl
theorem binK_eq (op : BinOp) (k : IntKind) (a b : Int) : binK op op k a b = binOf op (.d (.int k a)) (.d (.int k b)) := by
  cases op
  case add => show some (AV.d (wq (iadd a b) k)) = _; rw [wq_eq, iadd_eq]; simp only [binOf, numOf, kindEq_id, intOp]
  case sub => show some (AV.d (wq (isub a b) k)) = _; rw [wq_eq, isub_eq]; simp only [binOf, numOf, kindEq_id, intOp]
  case mul => show some (AV.d (wq (imul a b) k)) = _; rw [wq_eq, imul_eq]; simp only [binOf, numOf, kindEq_id, intOp]
  case eql => show some (AV.d (.bool (ieq a b))) = _; rw [ieq_eq]; simp only [binOf, numOf, kindEq_id, intOp]
  case neq => show some (AV.d (.bool (Bool.casesOn (motive := fun _ => Bool) (ieq a b) true false))) = _; rw [notB, ieq_eq]; simp only [binOf, numOf, kindEq_id, intOp]
  case lss => show some (AV.d (.bool (Bool.casesOn (motive := fun _ => Bool) (ile b a) true false))) = _; rw [notB, ile_eq]; simp only [binOf, numOf, kindEq_id, intOp]; rw [← decide_not]; simp only [Int.not_le]
  case leq => show some (AV.d (.bool (ile a b))) = _; rw [ile_eq]; simp only [binOf, numOf, kindEq_id, intOp]
  case gtr => show some (AV.d (.bool (Bool.casesOn (motive := fun _ => Bool) (ile a b) true false))) = _; rw [notB, ile_eq]; simp only [binOf, numOf, kindEq_id, intOp]; rw [← decide_not]; simp only [Int.not_le]
  case geq => show some (AV.d (.bool (ile b a))) = _; rw [ile_eq]; simp only [binOf, numOf, kindEq_id, intOp]
  all_goals rfl
theorem binQ_eq (op : BinOp) (x y : AV) : binQ op x y = binOf op x y := by
  cases x <;> try rfl
  rename_i d
  cases d <;> try rfl
  rename_i k a
  cases y <;> try rfl
  rename_i e
  cases e <;> try rfl
  rename_i j b
  show Bool.casesOn (motive := fun _ => Option AV) (Nat.beq (knN k) (knN j)) (binOf op (.d (.int k a)) (.d (.int j b))) (binK op op k a b) = _
  rw [kindEq_knN]
  cases h : kindEq k j with
  | false => rfl
  | true =>
    have : k = j := by revert h; cases k <;> cases j <;> simp [kindEq]
    subst this
    exact binK_eq op k a b
def unOf (op : UnOp) : AV → Option AV
  | .d (.int k n) => match op with
    | .neg => some (.int k (wr k (0 - n)))
    | .xor => match bitsOf .xor k (if k.signed then -1 else k.max) n with
      | some x => some (.d x)
      | none => none
    | _ => none
  | .d (.bool b) => match op with
    | .not => some (.bool !b)
    | _ => none
  | _ => none
def minmaxOf (isMax : Bool) : AV → AV → Option AV
  | .d (.int k a), .d (.int j b) => match kindEq k j with
    | true => match (if isMax then decide (a < b) else decide (b < a)) with
      | true => some (.int k b)
      | false => some (.int k a)
    | false => none
  | _, _ => none
def foldMM (isMax : Bool) : AV → List AV → Option AV
  | v, [] => some v
  | v, x :: r => match minmaxOf isMax v x with
    | some v => foldMM isMax v r
    | none => none
def most : Nat := 4294967296
/-- A number from 0 to so many, as a bound or an index. -/
def natUpTo (v : AV) (top : Nat) : Option Nat :=
  match v with
  | .d (.int _ (.ofNat n)) => match Nat.ble n top with
    | true => some n
    | false => none
  | _ => none
def lowOf (lo : Option AV) (h m : Nat) : Option (Nat × Nat × Nat) :=
  match lo with
  | none => some (0, h, m)
  | some v => match natUpTo v h with
    | some l => some (l, h, m)
    | none => none
/-- low, high of a slice expression over so many. -/
def bounds (len : Nat) (lo hi mx : Option AV) : Option (Nat × Nat × Nat) :=
  let m : Option Nat := match mx with
    | none => some len
    | some v => natUpTo v len
  match m with
  | none => none
  | some m =>
    let h : Option Nat := match hi with
      | none => match mx with
        | none => some len
        | some _ => none
      | some v => natUpTo v m
    match h with
    | none => none
    | some h => lowOf lo h m
def headOk (m : Nat) : List (List D) → Bool
  | [] => true
  | e :: _ => Nat.beq e.length m
/-- Have a thawed slice's elements so many cells? -/
def okSl (h : Heap) (m : Nat) : AV → Bool
  | .sl id _ _ => match get h id with
    | some (.arr k _) => Nat.beq k m
    | some (.cells _) => Nat.beq m 1
    | _ => false
  | _ => true
/-- A slice of a list. -/
def sliceOf (m : Nat) (x : AV) (lo hi mx : Option AV) : Option AV :=
  match lenOf x with
  | none => none
  | some len => match bounds len lo hi mx with
    | none => none
    | some (l, h, _) => match x with
      | .d (.lst xs) => match headOk m xs with
        | true => some (.d (.lst (sub xs l (h - l))))
        | false => none
      | .nl => some .nl
      | .own false k xs => match Nat.beq k m with
        | true => match Nat.beq h len with
          | true => some (.own false k (sub xs l (h - l)))
          | false => some (.d (.lst (sub xs l (h - l))))
        | false => none
      | .sl id off _ => some (.sl id (off + l) (h - l))
      | _ => none
/-- May a value be part of a struct? -/
def okPart : AV → Bool
  | .agg _ => true
  | v => isCell v
def fillCells : List AV → List (Nat × Nat × AV) → Option (List AV)
  | cs, [] => some cs
  | cs, (off, n, v) :: r => match Nat.beq v.cells.length n && okPart v && Nat.ble (off + n) cs.length with
    | true => fillCells (setCells cs off v.cells) r
    | false => none
def withVals : List (Nat × Nat × Rd) → List AV → List (Nat × Nat × AV)
  | (a, b, _) :: r, v :: s => (a, b, v) :: withVals r s
  | _, _ => []
def readsOf : List (Nat × Nat × Rd) → List Rd
  | [] => []
  | (_, _, x) :: r => x :: readsOf r
/-- Elements out of values. -/
def mkElems (m : Nat) : List AV → Option (List (List D))
  | [] => some []
  | v :: r => match Nat.beq v.cells.length m with
    | true => match toDs v.cells with
      | some e => match mkElems m r with
        | some es => some (e :: es)
        | none => none
      | none => none
    | false => none
def okElems (n : Nat) : List (List D) → Bool
  | [] => true
  | e :: r => match Nat.beq e.length n with
    | true => okElems n r
    | false => false
def toBytes : List (List D) → Option (List UInt8)
  | [] => some []
  | [.int .u8 (.ofNat n)] :: r => match toBytes r with
    | some s => some (n.toUInt8 :: s)
    | none => none
  | _ => none
def idxOf : List UInt8 → Nat → Nat → Int
  | [], _, _ => -1
  | b :: l, c, i => match Nat.beq b.toNat c with
    | true => .ofNat i
    | false => idxOf l c (i + 1)
def indexByte (c : Int) (xs : List (List D)) (i : Nat) : Option Int :=
  match toBytes xs with
  | some s => some (idxOf s (c.toNat % 256) i)
  | none => none

/-! ### The interpreter -/
structure Rec where
  code : VC → St → Option (Out × St)
  call : FuncId → List AV → HS → Option (AV × HS)

/-- What of an answer is surely new; of other lists the lengths are known alone. -/
def dull1 (v : AV) : AV := match fresh1 v with
  | true => bless1 v
  | false => match lenOf v with
    | some n => .gl n
    | none => .junk
def dull2 : AV → AV
  | .agg cs => .agg (cs.map dull1)
  | v => dull1 v
def dull3 : AV → AV
  | .tup vs => .tup (vs.map dull2)
  | v => dull2 v
def callPure (r : Rec) (f : FuncId) (args : List AV) (h : Heap) : Option AV :=
  match viewArgs h args with
  | none => none
  | some ds => match r.call f ds ⟨[], 0⟩ with
    | none => none
    | some (v, hs) => match resTop hs.heap v with
      | none => none
      | some v => match args.any fluid with
        | false => some v
        | true => match fresh3 v with
          | true => some v
          | false => some (dull3 v)
def putAll : Env → List Nat → List AV → Option Env
  | e, [], [] => some e
  | e, i :: is, v :: vs => putAll (put e i v) is vs
  | _, _, _ => none
/-- One round of a range over a function. -/
def yieldOf (r : Rec) (l : Nat) (args : List AV) (hs : HS) : Option (AV × HS) :=
  match get hs.heap l with
  | some (.loop snap params assign body false none) =>
    match putAll snap params args with
    | none => none
    | some e => match r.code assign ⟨e, hs⟩ with
      | some (.normal, st) => match get st.hs.heap l with
        | some (.loop snap params assign body2 false none) =>
          match r.code body ⟨st.env, ⟨put st.hs.heap l (.loop snap params assign body2 true none), st.hs.next⟩⟩ with
          | none => none
          | some (o, st) => match get st.hs.heap l with
            | some (.loop snap params assign body true none) =>
              match o with
              | .normal => some (.bool true, ⟨put st.hs.heap l (.loop snap params assign body false none), st.hs.next⟩)
              | o => some (.bool false, ⟨put st.hs.heap l (.loop snap params assign body false (some o)), st.hs.next⟩)
            | _ => none
        | _ => none
      | _ => none
  | _ => none
def callVal (r : Rec) (f : AV) (args : List AV) (hs : HS) : Option (AV × HS) :=
  match f with
  | .fn g first caps => r.call g (first ++ (args ++ caps)) hs
  | .yield l => yieldOf r l args hs
  | _ => none
def boxNew (hs : HS) (o : Obj) : Nat × HS := (hs.next, ⟨put hs.heap hs.next o, hs.next + 1⟩)
/-- A fresh list that will be stored into. -/
def thawOne (hs : HS) : AV → AV × HS
  | .own true m xs => match Nat.beq m 0 with
    | true => (.own true m xs, hs)
    | false => (.sl hs.next 0 xs.length, ⟨put hs.heap hs.next (.arr m xs), hs.next + 1⟩)
  | v => (v, hs)
/-- What is not stored into stays as it is. -/
def firm1 : AV → AV
  | .own _ m xs => .own false m xs
  | v => v
def firm2 : AV → AV
  | .agg cs => .agg (cs.map firm1)
  | v => firm1 v
def firm (v : AV) : AV := AV.casesOn (motive_1 := fun _ => AV) v .junk (fun x => .d x) .nl (fun _ m xs => .own false m xs) (fun n => .gl n) (fun cs => .agg (cs.map firm1)) (fun vs => .tup (vs.map firm2))
  .nilp (fun a b => .ptr a b) (fun a b c => .pel a b c) (fun a b => .pim a b) (fun a b c => .sl a b c) (fun a b c => .fn a b c) .nilf (fun a => .yield a)
def thawCell (hs : HS) (o : Nat) : AV → AV × HS
  | .agg cs => match cs[o]? with
    | some v => (.agg (cs.set o (thawOne hs v).1), (thawOne hs v).2)
    | none => (.agg cs, hs)
  | v => thawOne hs v
def thawPart (hs : HS) (p : Nat × Nat) : AV → AV × HS
  | .tup vs => match vs[p.1]? with
    | some v => (.tup (vs.set p.1 (thawCell hs p.2 v).1), (thawCell hs p.2 v).2)
    | none => (.tup vs, hs)
  | v => thawCell hs p.2 v
def thawParts : List (Nat × Nat) → AV → HS → AV × HS
  | [], v, hs => (v, hs)
  | p :: r, v, hs => thawParts r (thawPart hs p v).1 (thawPart hs p v).2
def frzOne (h : Heap) : AV → AV × Heap
  | .sl id off len => match get h id with
    | some (.arr m xs) => match Nat.ble (off + len) xs.length with
      | true => (.own false m (sub xs off len), del h id)
      | false => (.sl id off len, h)
    | _ => (.sl id off len, h)
  | v => (v, h)
def frzCells : List Nat → List AV → Heap → List AV × Heap
  | [], cs, h => (cs, h)
  | o :: r, cs, h => match cs[o]? with
    | some v => frzCells r (cs.set o (frzOne h v).1) (frzOne h v).2
    | none => frzCells r cs h
def appendTo (m : Nat) (h : Heap) (a : AV) (ys : List (List D)) : Option (AV × Heap) :=
  match Nat.ble ys.length most with
  | false => none
  | true => match a with
    | .nl => some ((match ys with | [] => .nl | ys => .own true m ys), h)
    | .own _ k xs => match Nat.beq k m && Nat.ble (xs.length + ys.length) most with
      | true => some (.own false m (xs ++ ys), h)
      | false => none
    | .sl id off len => match get h id with
      | some (.arr k xs) => match Nat.beq k m && Nat.ble (off + len) xs.length && Nat.ble (len + ys.length) most with
        | true => some (.own true m (sub xs off len ++ ys), del h id)
        | false => none
      | _ => none
    | _ => none
def natOf : AV → Option Nat
  | .d (.int _ (.ofNat n)) => some n
  | _ => none

def opMov (x : Rd) (st : St) : Option (AV × St) :=
  match rd st.env x with
  | some (v, e) => some (v, ⟨e, st.hs⟩)
  | none => none
def opPick (c : Rd) (a : Rd) (b : Rd) (st : St) : Option (AV × St) :=
  match rd st.env c with
  | some (.d (.bool t), e) => match rd e (match t with | true => a | false => b) with
    | some (v, e) => some (v, ⟨e, st.hs⟩)
    | none => none
  | _ => none
def opAlloc (zs : List AV) (st : St) : Option (AV × St) :=
  some (.ptr st.hs.next 0, ⟨st.env, (boxNew st.hs (.cells zs)).2⟩)
def opBox (x : Rd) (st : St) : Option (AV × St) :=
  match rd st.env x with
  | some (v, e) => match v.cells.all isCell with
    | true => some (.ptr st.hs.next 0, ⟨e, (boxNew st.hs (.cells v.cells)).2⟩)
    | false => none
  | none => none
def opBuild (zs : List AV) (ps : List (Nat × Nat × Rd)) (st : St) : Option (AV × St) :=
  match rdAll st.env (readsOf ps) with
  | some (vs, e) => match fillCells zs (withVals ps vs) with
    | some cs => some (.agg cs, ⟨e, st.hs⟩)
    | none => none
  | none => none
def opMks (m : Nat) (ps : List Rd) (st : St) : Option (AV × St) :=
  match rdAll st.env ps with
  | some (vs, e) => match mkElems m vs with
    | some xs => some (.own true m xs, ⟨e, st.hs⟩)
    | none => none
  | none => none
def opMksv (m : Nat) (ps : List Rd) (st : St) : Option (AV × St) :=
  match rdAll st.env ps with
  | some (vs, e) => match vs.all (fun v => Nat.beq v.cells.length m && v.cells.all isCell) with
    | true => some (.sl st.hs.next 0 vs.length, ⟨e, (boxNew st.hs (.cells (vs.flatMap AV.cells))).2⟩)
    | false => none
  | none => none
def opLd (n : Option Nat) (take : Nat) (p : Rd) (st : St) : Option (AV × St) :=
  match rd st.env p with
  | some (v, e) => match loadAt st.hs.heap n take v with
    | some (v, h) => some (v, ⟨e, ⟨h, st.hs.next⟩⟩)
    | none => none
  | none => none
def opSt (n : Nat) (p : Rd) (x : Rd) (st : St) : Option (AV × St) :=
  match rd st.env p with
  | some (p, e) => match rd e x with
    | some (v, e) => match storeAt st.hs.heap n p v with
      | some h => some (.junk, ⟨e, ⟨h, st.hs.next⟩⟩)
      | none => none
    | none => none
  | none => none
def opNilck (x : Rd) (st : St) : Option (AV × St) :=
  match rd st.env x with
  | some (v, e) => match v with
    | .ptr .. | .pel .. | .pim .. | .fn .. | .yield .. => some (v, ⟨e, st.hs⟩)
    | _ => none
  | none => none
def opBin (op : BinOp) (x : Rd) (y : Rd) (st : St) : Option (AV × St) :=
  match rd st.env x with
  | some (a, e) => match rd e y with
    | some (b, e) => match binQ op a b with
      | some v => some (v, ⟨e, st.hs⟩)
      | none => none
    | none => none
  | none => none
def opBinb (neg : Bool) (x y : Rd) (st : St) : Option (AV × St) :=
  match rd st.env x with
  | some (a, e) => match rd e y with
    | some (b, e) => match a, b with
      | .d (.bool a), .d (.bool b) => some (.bool (match neg with | true => !(a == b) | false => a == b), ⟨e, st.hs⟩)
      | _, _ => none
    | none => none
  | none => none
def opBina (neg : Bool) (ks : List Bool) (x y : Rd) (st : St) : Option (AV × St) :=
  match rd st.env x with
  | some (a, e) => match rd e y with
    | some (b, e) => match a, b with
      | .agg a, .agg b => match sameCells ks a b with
        | some t => some (.bool (match neg with | true => !t | false => t), ⟨e, st.hs⟩)
        | none => none
      | _, _ => none
    | none => none
  | none => none
def opUn (op : UnOp) (x : Rd) (st : St) : Option (AV × St) :=
  match rd st.env x with
  | some (a, e) => match unOf op a with
    | some v => some (v, ⟨e, st.hs⟩)
    | none => none
  | none => none
def opConv (k : IntKind) (x : Rd) (st : St) : Option (AV × St) :=
  match rd st.env x with
  | some (.d (.int _ n), e) => some (.int k (wr k n), ⟨e, st.hs⟩)
  | _ => none
def opToStr (x : Rd) (st : St) : Option (AV × St) :=
  match rd st.env x with
  | some (v, e) => match elems st.hs.heap v with
    | some xs => match toBytes xs with
      | some s => some (.d (.str s), ⟨e, st.hs⟩)
      | none => none
    | none => none
  | none => none
def opMkfn (f : FuncId) (first : List Rd) (caps : List Rd) (st : St) : Option (AV × St) :=
  match rdAll st.env first with
  | some (a, e) => match rdAll e caps with
    | some (c, e) => some (.fn f (shareAll a) (shareAll c), ⟨e, st.hs⟩)
    | none => none
  | none => none
def opMkslice (z : List D) (len : Rd) (cap : Rd) (st : St) : Option (AV × St) :=
  match rd st.env len with
  | some (n, e) => match rd e cap with
    | some (c, e) => match natUpTo c most with
      | some c => match natUpTo n c with
        | some n => some (.own true z.length (List.replicate n z), ⟨e, st.hs⟩)
        | none => none
      | none => none
    | none => none
  | none => none
def opSlice (m : Nat) (x : Rd) (lo : Option Rd) (hi : Option Rd) (mx : Option Rd) (st : St) : Option (AV × St) :=
  match rd st.env x with
  | some (v, e) => match rdOpt e lo with
    | some (l, e) => match rdOpt e hi with
      | some (h, e) => match rdOpt e mx with
        | some (k, e) => match okSl st.hs.heap m v with
          | true => match sliceOf m v l h k with
            | some v => some (v, ⟨e, st.hs⟩)
            | none => none
          | false => none
        | none => none
      | none => none
    | none => none
  | none => none
/-- A slice of an array that is a variable, or a part of one. -/
def slarrOf (hp : Heap) (n id off : Nat) (lo hi mx : Option AV) : Option AV :=
  match get hp id with
  | some (.cells cs) => match Nat.ble (off + n) cs.length with
    | true => match bounds n lo hi mx with
      | some (l, h, _) => some (.sl id (off + l) (h - l))
      | none => none
    | false => none
  | _ => none
def opSlarr (n : Nat) (x : Rd) (lo : Option Rd) (hi : Option Rd) (mx : Option Rd) (st : St) : Option (AV × St) :=
  match rd st.env x with
  | some (.ptr id off, e) => match rdOpt e lo with
    | some (l, e) => match rdOpt e hi with
      | some (h, e) => match rdOpt e mx with
        | some (k, e) => match slarrOf st.hs.heap n id off l h k with
          | some v => some (v, ⟨e, st.hs⟩)
          | none => none
        | none => none
      | none => none
    | none => none
  | _ => none
def opFa (off : Nat) (p : Rd) (st : St) : Option (AV × St) :=
  match rd st.env p with
  | some (p, e) => match addOff off p with
    | some v => some (v, ⟨e, st.hs⟩)
    | none => none
  | none => none
def partOf (n : Option Nat) (cs : List AV) (off : Nat) : Option AV :=
  match n with
  | none => cs[off]?
  | some n => match Nat.ble (off + n) cs.length with
    | true => some (.agg (sub cs off n))
    | false => none
def optN (agg : Bool) (n : Nat) : Option Nat :=
  match agg with
  | true => some n
  | false => none
def opFld (off : Nat) (n : Option Nat) (x : Rd) (st : St) : Option (AV × St) :=
  match rd st.env x with
  | some (.agg cs, e) => match partOf n cs off with
    | some v => some (v, ⟨e, st.hs⟩)
    | none => none
  | _ => none
def opIa (n : Nat) (x : Rd) (i : Rd) (st : St) : Option (AV × St) :=
  match rd st.env x with
  | some (v, e) => match rd e i with
    | some (i, e) => match natOf i with
      | some i => match v with
        | .sl id off len => match Nat.ble len i with
          | true => none
          | false => match get st.hs.heap id with
            | some (.arr m _) => match Nat.beq m n with
              | true => some (.pel id (off + i) 0, ⟨e, st.hs⟩)
              | false => none
            | some (.cells _) => match Nat.beq n 1 with
              | true => some (.ptr id (off + i), ⟨e, st.hs⟩)
              | false => none
            | _ => none
        | v => match elems st.hs.heap v with
          | some xs => match xs[i]? with
            | some x => match Nat.beq x.length n with
              | true => some (.pim x 0, ⟨e, st.hs⟩)
              | false => none
            | none => none
          | none => none
      | none => none
    | none => none
  | none => none
def opIarr (len : Nat) (n : Nat) (p : Rd) (i : Rd) (st : St) : Option (AV × St) :=
  match rd st.env p with
  | some (p, e) => match rd e i with
    | some (i, e) => match natOf i with
      | some i => match Nat.ble len i with
        | true => none
        | false => match addOff (i * n) p with
          | some v => some (v, ⟨e, st.hs⟩)
          | none => none
      | none => none
    | none => none
  | none => none
def opIx (len : Nat) (n : Nat) (agg : Bool) (x : Rd) (i : Rd) (st : St) : Option (AV × St) :=
  match rd st.env x with
  | some (.agg cs, e) => match rd e i with
    | some (i, e) => match natOf i with
      | some i => match Nat.ble len i with
        | true => none
        | false => match partOf (optN agg n) cs (i * n) with
          | some v => some (v, ⟨e, st.hs⟩)
          | none => none
      | none => none
    | none => none
  | _ => none
def opIxs (x : Rd) (i : Rd) (st : St) : Option (AV × St) :=
  match rd st.env x with
  | some (.d (.str s), e) => match rd e i with
    | some (i, e) => match natOf i with
      | some i => match s[i]? with
        | some b => some (.int .u8 (.ofNat b.toNat), ⟨e, st.hs⟩)
        | none => none
      | none => none
    | none => none
  | _ => none
def idxV (h : Heap) (v c : AV) : Option AV :=
  match c with
  | .d (.int .u8 n) => match elems h v with
    | some xs => match indexByte n xs 0 with
      | some r => some (.int .i64 r)
      | none => none
    | none => none
  | _ => none
def opIdxb (x : Rd) (c : Rd) (st : St) : Option (AV × St) :=
  match rd st.env x with
  | some (v, e) => match rd e c with
    | some (c, e) => match idxV st.hs.heap v c with
      | some r => some (r, ⟨e, st.hs⟩)
      | none => none
    | none => none
  | none => none
def opExt (j : Nat) (mv : Bool) (i : Nat) (st : St) : Option (AV × St) :=
  match get st.env j with
  | some (.tup vs) => match vs[i]? with
    | some v => match mv with
      | true => some (v, ⟨put st.env j (.tup (vs.set i .junk)), st.hs⟩)
      | false => some (share v, st)
    | none => none
  | _ => none
def opLen (x : Rd) (st : St) : Option (AV × St) :=
  match rd st.env x with
  | some (v, e) => match lenOf v with
    | some n => some (.int .i64 (.ofNat n), ⟨e, st.hs⟩)
    | none => none
  | none => none
def opCap (x : Rd) (st : St) : Option (AV × St) :=
  match rd st.env x with
  | some (.nl, e) => some (.int .i64 (.ofNat 0), ⟨e, st.hs⟩)
  | _ => none
def opApp (m : Nat) (x : Rd) (y : Rd) (st : St) : Option (AV × St) :=
  match rd st.env x with
  | some (a, e) => match rd e y with
    | some (b, e) => match elems st.hs.heap b with
      | some ys => match okElems m ys with
        | true => match appendTo m st.hs.heap a ys with
          | some (v, h) => some (v, ⟨e, ⟨h, st.hs.next⟩⟩)
          | none => none
        | false => none
      | none => none
    | none => none
  | none => none
def opAppz (z : List D) (x : Rd) (n : Rd) (st : St) : Option (AV × St) :=
  match rd st.env x with
  | some (a, e) => match rd e n with
    | some (n, e) => match natUpTo n most with
      | some n => match appendTo z.length st.hs.heap a (List.replicate n z) with
        | some (v, h) => some (v, ⟨e, ⟨h, st.hs.next⟩⟩)
        | none => none
      | none => none
    | none => none
  | none => none
def opCpy (m : Nat) (x : Rd) (y : Rd) (st : St) : Option (AV × St) :=
  match rd st.env x with
  | some (a, e) => match rd e y with
    | some (b, e) => match elems st.hs.heap b with
      | some ys => match a with
        | .sl id off len => match get st.hs.heap id with
          | some (.arr k xs) => match okElems m ys && Nat.beq k m && Nat.ble (off + len) xs.length with
            | true => some (.int .i64 (.ofNat (min len ys.length)), ⟨e, ⟨put st.hs.heap id (.arr k (setCells xs off (ys.take len))), st.hs.next⟩⟩)
            | false => none
          | _ => none
        | _ => match lenOf a with
          | some 0 => some (.int .i64 (.ofNat 0), ⟨e, st.hs⟩)
          | _ => none
      | none => none
    | none => none
  | none => none
def opClr (z : List D) (x : Rd) (st : St) : Option (AV × St) :=
  match rd st.env x with
  | some (.sl id off len, e) => match get st.hs.heap id with
    | some (.arr k xs) => match Nat.beq k z.length && Nat.ble (off + len) xs.length with
      | true => some (.tup [], ⟨e, ⟨put st.hs.heap id (.arr k (setCells xs off (List.replicate len z))), st.hs.next⟩⟩)
      | false => none
    | _ => none
  | _ => none
def opMinmax (isMax : Bool) (xs : List Rd) (st : St) : Option (AV × St) :=
  match rdAll st.env xs with
  | some (.d (.int k n) :: vs, e) => match foldMM isMax (.d (.int k n)) vs with
    | some v => some (v, ⟨e, st.hs⟩)
    | none => none
  | _ => none
def opCall (r : Rec) (f : FuncId) (args : List Rd) (st : St) : Option (AV × St) :=
  match rdAll st.env args with
  | some (vs, e) => match callPure r f vs st.hs.heap with
    | some v => some (v, ⟨e, st.hs⟩)
    | none => none
  | none => none
def opCalli (r : Rec) (f : FuncId) (args : List Rd) (st : St) : Option (AV × St) :=
  match rdAll st.env args with
  | some (vs, e) => match r.call f vs st.hs with
    | some (v, hs) => some (v, ⟨e, hs⟩)
    | none => none
  | none => none
def opCallv (r : Rec) (f : Rd) (args : List Rd) (st : St) : Option (AV × St) :=
  match rd st.env f with
  | some (fv, e) => match rdAll e args with
    | some (vs, e) => match callVal r fv vs st.hs with
      | some (v, hs) => some (v, ⟨e, hs⟩)
      | none => none
    | none => none
  | none => none
def opBad (st : St) : Option (AV × St) :=
  none
def opKill (is : List Nat) (st : St) : Option (AV × St) :=
  some (.tup [], ⟨is.foldl del st.env, st.hs⟩)
def delAll : Heap → List Nat → Heap
  | h, [] => h
  | h, i :: r => delAll (del h i) r
/-- The variables that a function has captured. -/
def capIds : List AV → List Nat
  | [] => []
  | .ptr id _ :: r => id :: capIds r
  | _ :: r => capIds r
def opFree (i : Nat) (st : St) : Option (AV × St) :=
  match get st.env i with
  | some (.ptr id _) => some (.tup [], ⟨del st.env i, ⟨del st.hs.heap id, st.hs.next⟩⟩)
  | some (.fn _ _ caps) => some (.tup [], ⟨del st.env i, ⟨delAll st.hs.heap (capIds caps), st.hs.next⟩⟩)
  | _ => some (.tup [], st)
def opWk (i : Nat) (m : Nat) (st : St) : Option (AV × St) :=
  match get st.env i with
  | some .nl => some (.tup [], ⟨put st.env i (.own false m []), st.hs⟩)
  | _ => some (.tup [], st)
def opFrz (i : Nat) (st : St) : Option (AV × St) :=
  match get st.env i with
  | some v => some (.tup [], ⟨put st.env i (frzOne st.hs.heap v).1, ⟨(frzOne st.hs.heap v).2, st.hs.next⟩⟩)
  | none => none
def opFrzC (i : Nat) (offs : List Nat) (st : St) : Option (AV × St) :=
  match get st.env i with
  | some (.agg cs) => some (.tup [], ⟨put st.env i (.agg (frzCells offs cs st.hs.heap).1), ⟨(frzCells offs cs st.hs.heap).2, st.hs.next⟩⟩)
  | _ => none
/-- One operation: its answer. -/
def opF (o : VOp) : Rec → St → Option (AV × St) :=
  VOp.casesOn (motive := fun _ => Rec → St → Option (AV × St)) o
    (fun x => fun _ st => opMov x st)
    (fun c a b => fun _ st => opPick c a b st)
    (fun zs => fun _ st => opAlloc zs st)
    (fun x => fun _ st => opBox x st)
    (fun zs ps => fun _ st => opBuild zs ps st)
    (fun m ps => fun _ st => opMks m ps st)
    (fun m ps => fun _ st => opMksv m ps st)
    (fun n take p => fun _ st => opLd n take p st)
    (fun n p x => fun _ st => opSt n p x st)
    (fun x => fun _ st => opNilck x st)
    (fun op x y => fun _ st => opBin op x y st)
    (fun neg x y => fun _ st => opBinb neg x y st)
    (fun neg ks x y => fun _ st => opBina neg ks x y st)
    (fun op x => fun _ st => opUn op x st)
    (fun k x => fun _ st => opConv k x st)
    (fun x => fun _ st => opToStr x st)
    (fun f first caps => fun _ st => opMkfn f first caps st)
    (fun z len cap => fun _ st => opMkslice z len cap st)
    (fun m x lo hi mx => fun _ st => opSlice m x lo hi mx st)
    (fun n x lo hi mx => fun _ st => opSlarr n x lo hi mx st)
    (fun off p => fun _ st => opFa off p st)
    (fun off n x => fun _ st => opFld off n x st)
    (fun n x i => fun _ st => opIa n x i st)
    (fun len n p i => fun _ st => opIarr len n p i st)
    (fun len n agg x i => fun _ st => opIx len n agg x i st)
    (fun x i => fun _ st => opIxs x i st)
    (fun x c => fun _ st => opIdxb x c st)
    (fun j mv i => fun _ st => opExt j mv i st)
    (fun x => fun _ st => opLen x st)
    (fun x => fun _ st => opCap x st)
    (fun m x y => fun _ st => opApp m x y st)
    (fun z x n => fun _ st => opAppz z x n st)
    (fun m x y => fun _ st => opCpy m x y st)
    (fun z x => fun _ st => opClr z x st)
    (fun isMax xs => fun _ st => opMinmax isMax xs st)
    (fun f args => fun r st => opCall r f args st)
    (fun f args => fun r st => opCalli r f args st)
    (fun f args => fun r st => opCallv r f args st)
    (fun _ st => opBad st)
    (fun is => fun _ st => opKill is st)
    (fun i => fun _ st => opFree i st)
    (fun i m => fun _ st => opWk i m st)
    (fun i => fun _ st => opFrz i st)
    (fun i offs => fun _ st => opFrzC i offs st)

def setDst (dst : Option Nat) (v : AV) (st : St) : St :=
  match dst with
  | some d => ⟨put st.env d v, st.hs⟩
  | none => st
/-- One instruction. -/
def viGo (r : Rec) (i : VI) (st : St) : Option St :=
  match opF i.op r st with
  | some (v, st) => match i.th with
    | [] => some (setDst i.dst (firm v) st)
    | th => some (setDst i.dst (firm (thawParts th v st.hs).1) ⟨st.env, (thawParts th v st.hs).2⟩)
  | none => none
def viF (r : Rec) (i : VI) (st : St) : Option St :=
  match i.guard with
  | none => viGo r i st
  | some (s, want) => match get st.env s with
    | some (.d (.bool b)) => match b == want with
      | true => viGo r i st
      | false => some (setDst i.dst (.tup []) st)
    | some (.tup []) => some (setDst i.dst (.tup []) st)
    | _ => none
def opsF (r : Rec) : List VI → St → Option St
  | [], st => some st
  | i :: l, st => match viF r i st with
    | some st => opsF r l st
    | none => none
/-- Instructions in an order of their own. -/
def runL (r : Rec) (vs : List VI) : List Nat → St → Option St
  | [], st => some st
  | i :: l, st => match vs[i]? with
    | none => none
    | some v => match viF r v st with
      | none => none
      | some st => runL r vs l st
/-! ### Regions whose operations meet on the heap -/
def memN (k : Nat) : List Nat → Bool
  | [] => false
  | a :: r => match Nat.beq a k with
    | true => true
    | false => memN k r
mutual
/-- The objects that a value names. -/
def idsOf : AV → List Nat
  | .ptr id _ => [id]
  | .pel id _ _ => [id]
  | .sl id _ _ => [id]
  | .fn _ first caps => idsAll first ++ idsAll caps
  | .agg cs => idsAll cs
  | .tup vs => idsAll vs
  | _ => []
def idsAll : List AV → List Nat
  | [] => []
  | v :: r => idsOf v ++ idsAll r
end
def idsIn (e : Env) : List Nat → List Nat
  | [] => []
  | s :: r => match get e s with
    | some v => idsOf v ++ idsIn e r
    | none => idsIn e r
/-- These objects of a heap alone. -/
def onlyH : List Nat → Heap → Heap
  | [], _ => []
  | i :: r, h => match get h i with
    | some o => put (onlyH r h) i o
    | none => onlyH r h
mutual
def eqD : D → D → Bool
  | .int k n, .int j m => kindEq k j && decide (n = m)
  | .bool a, .bool b => a == b
  | .str s, .str t => s == t
  | .lst xs, .lst ys => eqDss xs ys
  | _, _ => false
def eqDs : List D → List D → Bool
  | [], [] => true
  | a :: r, b :: s => eqD a b && eqDs r s
  | _, _ => false
def eqDss : List (List D) → List (List D) → Bool
  | [], [] => true
  | a :: r, b :: s => eqDs a b && eqDss r s
  | _, _ => false
end
mutual
def eqAV : AV → AV → Bool
  | .junk, .junk => true
  | .d x, .d y => eqD x y
  | .nl, .nl => true
  | .own p m xs, .own q n ys => p == q && Nat.beq m n && eqDss xs ys
  | .gl n, .gl m => Nat.beq n m
  | .agg a, .agg b => eqAVs a b
  | .tup a, .tup b => eqAVs a b
  | .nilp, .nilp => true
  | .ptr a b, .ptr c d => Nat.beq a c && Nat.beq b d
  | .pel a b c, .pel d e f => Nat.beq a d && Nat.beq b e && Nat.beq c f
  | .pim a b, .pim c d => eqDs a c && Nat.beq b d
  | .sl a b c, .sl d e f => Nat.beq a d && Nat.beq b e && Nat.beq c f
  | .fn f a c, .fn g b d => Nat.beq f g && eqAVs a b && eqAVs c d
  | .nilf, .nilf => true
  | .yield a, .yield b => Nat.beq a b
  | _, _ => false
def eqAVs : List AV → List AV → Bool
  | [], [] => true
  | a :: r, b :: s => eqAV a b && eqAVs r s
  | _, _ => false
end
def eqO : Obj → Obj → Bool
  | .cells a, .cells b => eqAVs a b
  | .arr m xs, .arr n ys => Nat.beq m n && eqDss xs ys
  | _, _ => false
/-- Are these objects the same in two heaps? -/
def sameH : List Nat → Heap → Heap → Bool
  | [], _, _ => true
  | i :: r, h, h' => (match get h i with
    | some o => (match get h' i with | some o' => eqO o o' | none => false)
    | none => true) && sameH r h h'
inductive NK where
  | call | take | read
def nkOf : VOp → NK
  | .calli .. | .callv .. | .st .. => .call
  | .ld none 2 _ => .take
  | _ => .read
def own1 : AV → Bool
  | .own false _ _ => true
  | .nl => true
  | _ => false
def slotR : Rd → List Nat
  | .s i => [i]
  | .m i => [i]
  | .c _ => []
def slotRs : List Rd → List Nat
  | [] => []
  | x :: r => slotR x ++ slotRs r
/-- The operands that name the objects at which an operation looks. -/
def nearRds : VOp → List Rd
  | .ld _ _ p => [p]
  | .ia _ x _ => [x]
  | .slice _ x _ _ _ => [x]
  | .toStr x => [x]
  | .call _ args => args
  | _ => []
def nearIds (v : VI) (e : Env) : List Nat := idsIn e (slotRs (nearRds v.op))
/-- An instruction that meets others of its region on the heap; 'F': the objects at which such instructions have looked. A call: these stay as they are. A take: what is taken is nobody else's. Another: it looks at the objects that it names, and at no other. -/
def viN (r : Rec) (F : List Nat) (v : VI) (st : St) : Option St :=
  match nkOf v.op with
  | .call => match viF r v st with
    | some st1 => match sameH F st.hs.heap st1.hs.heap with
      | true => some st1
      | false => none
    | none => none
  | .take => match viF r v st with
    | some st1 => match v.dst with
      | some d => match get st1.env d with
        | some a => match own1 a with
          | true => some st1
          | false => none
        | none => none
      | none => none
    | none => none
  | .read => match viF r v ⟨st.env, ⟨onlyH (nearIds v st.env) st.hs.heap, st.hs.next⟩⟩ with
    | some st1 => some ⟨st1.env, st.hs⟩
    | none => none
def stepA (r : Rec) (a : Bool) (F : List Nat) (v : VI) (st : St) : Option St :=
  match a with
  | false => viF r v st
  | true => viN r F v st
def addF (a : Bool) (v : VI) (e : Env) (F : List Nat) : List Nat :=
  match a with
  | false => F
  | true => match nkOf v.op with
    | .read => nearIds v e ++ F
    | _ => F
def runN (r : Rec) (nr : List Nat) (vs : List VI) : List Nat → List Nat → St → Option St
  | [], _, st => some st
  | i :: l, F, st => match vs[i]? with
    | none => none
    | some v => match stepA r (memN i nr) F v st with
      | none => none
      | some st1 => runN r nr vs l (addF (memN i nr) v st.env F) st1
def findL : VC → Nat → Option VC
  | .seq a b, l => match findL a l with
    | some c => some (.seq c b)
    | none => findL b l
  | .label k, l => match Nat.beq k l with
    | true => some .skip
    | false => none
  | _, _ => none
def vcReg (r : Rec) (ops : List VI) (st : St) : Option (Out × St) :=
  match opsF r ops st with
  | some st => some (.normal, st)
  | none => none
def stayR : Rd → Bool
  | .m _ => false
  | _ => true
/-- A new variable, or list, that may be made later than the model makes it: where it goes. -/
def lateDst (v : VI) : Option Nat :=
  match v.op, v.guard, v.th with
  | .alloc _, none, [] => v.dst
  | .mkslice _ l c, none, _ => match stayR l && stayR c with
    | true => v.dst
    | false => none
  | _, _, _ => none
def lateAbs (e : Env) : List VI → Bool
  | [] => true
  | v :: r => (match lateDst v with
    | some d => (match get e d with
      | none => true
      | some _ => false)
    | none => true) && lateAbs e r
/-- Is an order the one of the text? -/
def isIdx : Nat → List Nat → List VI → Bool
  | _, [], [] => true
  | i, p :: r, _ :: vs => match Nat.beq p i with
    | true => isIdx (i + 1) r vs
    | false => false
  | _, _, _ => false
def runP (r : Rec) (nr : List Nat) (ops : List VI) (perm : List Nat) (st : St) : Option St :=
  match nr with
  | [] => match isIdx 0 perm ops with
    | true => opsF r ops st
    | false => runN r [] ops perm [] st
  | a :: n => runN r (a :: n) ops perm [] st
theorem runN_idx {r : Rec} {vs : List VI} : ∀ (perm : List Nat) (l : List VI) (i : Nat) (F : List Nat) (st : St), vs.drop i = l → isIdx i perm l = true → runN r [] vs perm F st = opsF r l st
  | [], [], _, _, _, _, _ => rfl
  | [], _ :: _, _, _, _, _, h => by simp [isIdx] at h
  | _ :: _, [], _, _, _, _, h => by simp [isIdx] at h
  | p :: perm, v :: l, i, F, st, hd, h => by
    simp only [isIdx] at h
    split at h
    · rename_i hp
      rw [Nat.beq_eq] at hp
      subst hp
      have hv : vs[p]? = some v := by
        have := congrArg (fun l => l[0]?) hd
        simpa using this
      have hd' : vs.drop (p + 1) = l := by
        have := congrArg (fun l => l.drop 1) hd
        simpa [List.drop_drop] using this
      simp only [runN, hv, stepA, memN, opsF]
      cases viF r v st with
      | none => rfl
      | some st1 => exact runN_idx perm l (p + 1) _ st1 hd' h
    · simp at h
theorem runP_eq {r : Rec} {nr : List Nat} {ops : List VI} {perm : List Nat} {st : St} : runP r nr ops perm st = runN r nr ops perm [] st := by
  unfold runP
  split
  · split
    · rename_i h
      exact (runN_idx perm ops 0 [] st rfl h).symm
    · rfl
  · rfl
def vcRegP (r : Rec) (perm : List Nat) (nr : List Nat) (ops : List VI) (st : St) : Option (Out × St) :=
  match lateAbs st.env ops with
  | true => (match runP r nr ops perm st with
    | some st => some (.normal, st)
    | none => none)
  | false => none
def vcSeq (r : Rec) (a : VC) (b : VC) (st : St) : Option (Out × St) :=
  match r.code a st with
  | some (.normal, st) => r.code b st
  | x => x
def vcCond (r : Rec) (c : Rd) (a : VC) (b : VC) (st : St) : Option (Out × St) :=
  match rd st.env c with
  | some (.d (.bool true), e) => r.code a ⟨e, st.hs⟩
  | some (.d (.bool false), e) => r.code b ⟨e, st.hs⟩
  | _ => none
def vcBlock (r : Rec) (id : Nat) (a : VC) (st : St) : Option (Out × St) :=
  match r.code a st with
  | some (.exit j, st) => match Nat.beq j id with
    | true => some (.normal, st)
    | false => some (.exit j, st)
  | x => x
def vcLoop (r : Rec) (a : VC) (st : St) : Option (Out × St) :=
  match r.code a st with
  | some (.normal, st) => r.code (.loop a) st
  | x => x
def vcRangeF (r : Rec) (f : Rd) (params : List Nat) (assign : VC) (body : VC) (st : St) : Option (Out × St) :=
  match rd st.env f with
  | some (.fn g first caps, e) =>
    match r.call g (first ++ ([.yield st.hs.next] ++ caps)) ⟨put st.hs.heap st.hs.next (.loop (e.map fun kv => (kv.1, share kv.2)) params assign body false none), st.hs.next + 1⟩ with
    | some (_, hs) => match get hs.heap st.hs.next with
      | some (.loop _ _ _ _ false pend) => match pend with
        | none => some (.normal, ⟨e, ⟨del hs.heap st.hs.next, hs.next⟩⟩)
        | some o => some (o, ⟨e, ⟨del hs.heap st.hs.next, hs.next⟩⟩)
      | _ => none
    | none => none
  | _ => none
def vcScope (r : Rec) (a : VC) (st : St) : Option (Out × St) :=
  r.code (.inScope a a) st
def vcInScope (r : Rec) (a : VC) (cur : VC) (st : St) : Option (Out × St) :=
  match r.code cur st with
  | some (.goto l, st) => match findL a l with
    | some rest => r.code (.inScope a rest) st
    | none => some (.goto l, st)
  | x => x
def vcClone (m : Nat) (st : St) : Option (Out × St) :=
  match get st.env 0 with
  | some v => match elems st.hs.heap v with
    | some xs => match okElems m xs && Nat.ble xs.length most with
      | true => some (.ret, ⟨[(2, .own true m xs)], st.hs⟩)
      | false => none
    | none => none
  | none => none
/-- A body behind which the deferred call f, of the pointer in slot i, is made. -/
def vcLate (r : Rec) (i d f : Nat) (a : VC) (st : St) : Option (Out × St) :=
  match get st.env i with
  | some (.ptr id off) => match r.code a ⟨put st.env d (.ptr id off), st.hs⟩ with
    | some (.normal, st1) => match r.call f [.ptr id off] st1.hs with
      | some (_, hs) => some (.ret, ⟨st1.env, hs⟩)
      | none => none
    | some (.ret, st1) => match r.call f [.ptr id off] st1.hs with
      | some (_, hs) => some (.ret, ⟨st1.env, hs⟩)
      | none => none
    | _ => none
  | _ => none
/-- One piece of code. -/
def codeF (c : VC) : Rec → St → Option (Out × St) :=
  VC.casesOn (motive := fun _ => Rec → St → Option (Out × St)) c
    (fun _ st => some (.normal, st))
    (fun _ ops => fun r st => vcReg r ops st)
    (fun perm _ nr ops => fun r st => vcRegP r perm nr ops st)
    (fun a b => fun r st => vcSeq r a b st)
    (fun c a b => fun r st => vcCond r c a b st)
    (fun id a => fun r st => vcBlock r id a st)
    (fun a => fun r st => vcLoop r a st)
    (fun f params assign body => fun r st => vcRangeF r f params assign body st)
    (fun id => fun _ st => some (.exit id, st))
    (fun a => fun r st => vcScope r a st)
    (fun a cur => fun r st => vcInScope r a cur st)
    (fun _ => fun _ st => some (.normal, st))
    (fun l => fun _ st => some (.goto l, st))
    (fun _ st => some (.ret, st))
    (fun m => fun _ st => vcClone m st)
    (fun i d f a => fun r st => vcLate r i d f a st)

def takeRes (st : St) : List VRes → Option (List AV × St)
  | [] => some ([], st)
  | .tmp t :: r => match get st.env t with
    | some v => match takeRes ⟨del st.env t, st.hs⟩ r with
      | some (vs, st) => some (v :: vs, st)
      | none => none
    | none => none
  | .cell t n :: r => match get st.env t with
    | some (.ptr id 0) => match loadAt st.hs.heap n 1 (.ptr id 0) with
      | some (v, h) => match takeRes ⟨del st.env t, ⟨del h id, st.hs.next⟩⟩ r with
        | some (vs, st) => some (v :: vs, st)
        | none => none
      | none => none
    | _ => none
def mkEnv : Nat → List AV → Env
  | _, [] => []
  | i, v :: r => put (mkEnv (i + 1) r) i v
def endF (fn : VFunc) (st : St) : Option (AV × HS) :=
  match takeRes st fn.results with
  | some ([v], st) => some (v, st.hs)
  | some (vs, st) => some (.tup vs, st.hs)
  | none => none
def callF (P : Nat → Option VFunc) (r : Rec) (f : FuncId) (args : List AV) (hs : HS) : Option (AV × HS) :=
  match P f with
  | none => none
  | some fn => match Nat.beq args.length fn.nparams with
    | false => none
    | true => match codeF fn.body r ⟨mkEnv 0 args, hs⟩ with
      | some (.normal, st) => endF fn st
      | some (.ret, st) => endF fn st
      | _ => none
def run (P : Nat → Option VFunc) : Nat → Rec
  | 0 => ⟨fun _ _ => none, fun _ _ _ => none⟩
  | n + 1 => ⟨fun c st => codeF c (run P n) st, fun f a h => callF P (run P n) f a h⟩
/-- A table of functions. -/
inductive T where
  | leaf
  | node (k : Nat) (v : VFunc) (a b : T)
def T.look : T → Nat → Option VFunc
  | .leaf, _ => none
  | .node k v a b, i => match Nat.beq k i with
    | true => some v
    | false => match Nat.ble i k with
      | true => a.look i
      | false => b.look i
/-- A function's answer to plain data. -/
def answer (P : Nat → Option VFunc) (n : Nat) (f : FuncId) (ds : List AV) : Option AV :=
  match (run P n).call f ds ⟨[], 0⟩ with
  | some (v, hs) => resTop hs.heap v
  | none => none
end Go.Vm

/-
  WHAT THE INTERPRETER's VALUES STAND FOR in the model's memory. 'pm': the cells that do not change any more. A list's right to append is counted by blocks ('O').
-/
namespace Go.Vm

/-- The bookkeeping beside the interpreter's heap: where each variable lies, and which cells stay. -/
structure Gh where
  obj : Nat → Option Nat
  base : Nat → Nat
  esz : Nat → Nat
  bsz : Nat → Nat
  pm : Nat → Nat → Prop

/-- Plain data in memory. -/
inductive RD (w : World) (pm : Nat → Nat → Prop) : D → Value → Prop
  | int (k : IntKind) (n : Int) : RD w pm (.int k n) (.int k n)
  | bool (b : Bool) : RD w pm (.bool b) (.bool b)
  | str (s : List UInt8) : RD w pm (.str s) (.string ⟨s.toArray⟩)
  | nil (a : Option Addr) (cap : Nat) : RD w pm (.lst []) (.slice a 0 cap)
  | lst (xs : List (List D)) (b off m cap : Nat) (u : Nat → Value) (hm : 0 < m) (hcap : xs.length ≤ cap) (hl : ∀ e ∈ xs, e.length = m)
      (hc : ∀ j c, xs.flatten[j]? = some c → w.cell? ⟨b, off + j, none⟩ = some (u j) ∧ pm b (off + j))
      (hr : ∀ j c, xs.flatten[j]? = some c → RD w pm c (u j)) : RD w pm (.lst xs) (.slice (some ⟨b, off, none⟩) xs.length cap)

/-- Cells of plain data in memory. -/
def RCs (w : World) (pm : Nat → Nat → Prop) (cs : List D) (b off : Nat) : Prop :=
  ∀ j c, cs[j]? = some c → ∃ u, w.cell? ⟨b, off + j, none⟩ = some u ∧ RD w pm c u

def one (b : Nat) : Nat → Nat := fun x => if x = b then 1 else 0
@[simp] theorem one_same (b : Nat) : one b b = 1 := by simp [one]
theorem one_le (b x : Nat) : one b x ≤ 1 := by unfold one; split <;> omega
theorem one_ne {b x : Nat} (h : one b x ≠ 0) : x = b := by unfold one at h; split at h <;> simp_all

def Own (g : Gh) (w : World) (p : Bool) (m : Nat) (xs : List (List D)) (x : Value) (O : Nat → Nat) : Prop :=
  (xs = [] ∧ (∀ b, O b = 0) ∧ ∃ a, x = .slice a 0 0) ∨
  ∃ b off cap c el, x = .slice (some ⟨b, off, none⟩) xs.length cap ∧ xs.length ≤ cap ∧ 0 < m ∧ (∀ e ∈ xs, e.length = m) ∧
    w.heap[b]? = some (.cells c el (0, 0)) ∧ off + cap * m ≤ c.size ∧ RCs w g.pm xs.flatten b off ∧
    (∀ o, g.pm b o → p = false ∧ o < off + xs.length * m) ∧ (p = false → ∀ j, j < xs.length * m → g.pm b (off + j)) ∧ O = one b

mutual
def RV (g : Gh) (w : World) : AV → Value → (Nat → Nat) → Prop
  | .junk, _, O => ∀ b, O b = 0
  | .d c, x, O => RD w g.pm c x ∧ ∀ b, O b = 0
  | .nl, x, O => x = .slice none 0 0 ∧ ∀ b, O b = 0
  | .own p m xs, x, O => Own g w p m xs x O
  | .gl n, x, O => (∃ a cap, x = .slice a n cap) ∧ ∀ b, O b = 0
  | .agg cs, x, O => ∃ xs : Array Value, x = .agg xs ∧ RVs g w cs xs.toList O
  | .tup cs, x, O => ∃ xs : Array Value, x = .tuple xs ∧ RVs g w cs xs.toList O
  | .nilp, x, O => x = .pointer none ∧ ∀ b, O b = 0
  | .ptr id off, x, O => (∃ b, g.obj id = some b ∧ x = .pointer (some ⟨b, g.base id + off, none⟩)) ∧ ∀ b, O b = 0
  | .pel id i off, x, O => (∃ b, g.obj id = some b ∧ x = .pointer (some ⟨b, g.base id + (i * g.esz id + off), none⟩)) ∧ ∀ b, O b = 0
  | .pim cs off, x, O => (∃ b o, x = .pointer (some ⟨b, o + off, none⟩) ∧ RCs w g.pm cs b o ∧ ∀ j, j < cs.length → g.pm b (o + j)) ∧ ∀ b, O b = 0
  | .sl id off len, x, O => ((len = 0 ∧ ∃ a, x = .slice a 0 0) ∨
      ∃ b cap, g.obj id = some b ∧ x = .slice (some ⟨b, g.base id + off * g.esz id, none⟩) len cap ∧ len ≤ cap ∧ g.base id + (off + cap) * g.esz id ≤ g.bsz id) ∧ ∀ b, O b = 0
  | .fn f a c, x, O => (∃ xs ys : Array Value, x = .func (.func f) xs ys ∧ RVs g w a xs.toList (fun _ => 0) ∧ RVs g w c ys.toList (fun _ => 0)) ∧ ∀ b, O b = 0
  | .nilf, x, O => x = .nilFunc ∧ ∀ b, O b = 0
  | .yield l, x, O => (∃ b, g.obj l = some b ∧ x = .func (.yield b) #[] #[]) ∧ ∀ b, O b = 0
def RVs (g : Gh) (w : World) : List AV → List Value → (Nat → Nat) → Prop
  | [], xs, O => xs = [] ∧ ∀ b, O b = 0
  | v :: r, xs, O => ∃ x s O1 O2, xs = x :: s ∧ RV g w v x O1 ∧ RVs g w r s O2 ∧ ∀ b, O b = O1 b + O2 b
end

/-- Is a cell of an object one that must not be written? -/
def objFrozen (o : Go.Obj) (off : Nat) : Bool :=
  match o with
  | .cells _ _ (lo, hi) => lo ≤ off && off < hi
  | _ => false
/-- What may have become of memory and its bookkeeping: blocks outside 'S' are as they were. -/
structure Ext (g : Gh) (w : World) (g' : Gh) (w' : World) (S : Nat → Prop) : Prop where
  obj : ∀ id b, g.obj id = some b → g'.obj id = some b ∧ g'.base id = g.base id ∧ g'.esz id = g.esz id ∧ g'.bsz id = g.bsz id
  pm : ∀ b o, g.pm b o → g'.pm b o ∧ w'.cell? ⟨b, o, none⟩ = w.cell? ⟨b, o, none⟩
  blk : ∀ b, b < w.heap.size → ¬ S b → w'.heap[b]? = w.heap[b]? ∧ ∀ o, g'.pm b o → g.pm b o
  size : w.heap.size ≤ w'.heap.size
  lp : ∀ (b : Nat) (rc : Go.Loop), w.heap[b]? = some (.loop rc) → ∃ rc' : Go.Loop, w'.heap[b]? = some (.loop rc')
  same : w'.os = w.os ∧ w'.output = w.output ∧ ∀ a : Addr, w'.frozen? a = w.frozen? a

theorem Ext.refl (g : Gh) (w : World) (S : Nat → Prop) : Ext g w g w S :=
  ⟨fun _ _ h => ⟨h, rfl, rfl, rfl⟩, fun _ _ h => ⟨h, rfl⟩, fun _ _ _ => ⟨rfl, fun _ h => h⟩, Nat.le_refl _, fun _ rc h => ⟨rc, h⟩, rfl, rfl, fun _ => rfl⟩

theorem Ext.trans {g1 g2 g3 : Gh} {w1 w2 w3 : World} {S T : Nat → Prop} (h1 : Ext g1 w1 g2 w2 S) (h2 : Ext g2 w2 g3 w3 T)
    (hT : ∀ b, b < w1.heap.size → T b → S b) : Ext g1 w1 g3 w3 S where
  obj id b h := by
    obtain ⟨a, b1, c, d⟩ := h1.obj id b h
    obtain ⟨a', b', c', d'⟩ := h2.obj id b a
    exact ⟨a', b'.trans b1, c'.trans c, d'.trans d⟩
  pm b o h := by
    obtain ⟨a, c⟩ := h1.pm b o h
    obtain ⟨a', c'⟩ := h2.pm b o a
    exact ⟨a', c'.trans c⟩
  blk b hb hS := by
    obtain ⟨a, c⟩ := h1.blk b hb hS
    obtain ⟨a', c'⟩ := h2.blk b (Nat.lt_of_lt_of_le hb h1.size) (fun h => hS (hT b hb h))
    exact ⟨a'.trans a, fun o h => c o (c' o h)⟩
  size := Nat.le_trans h1.size h2.size
  lp b rc h := let ⟨rc1, h'⟩ := h1.lp b rc h; h2.lp b rc1 h'
  same := ⟨h2.same.1.trans h1.same.1, h2.same.2.1.trans h1.same.2.1, fun a => (h2.same.2.2 a).trans (h1.same.2.2 a)⟩

theorem Ext.mono {g g' : Gh} {w w' : World} {S T : Nat → Prop} (h : Ext g w g' w' S) (hST : ∀ b, b < w.heap.size → S b → T b) : Ext g w g' w' T :=
  ⟨h.obj, h.pm, fun b hb hT => h.blk b hb (fun hs => hT (hST b hb hs)), h.size, h.lp, h.same⟩

theorem RD.ext {g g' : Gh} {w w' : World} {S : Nat → Prop} (h : Ext g w g' w' S) {c : D} {x : Value} (r : RD w g.pm c x) : RD w' g'.pm c x := by
  induction r with
  | int k n => exact .int k n
  | bool b => exact .bool b
  | str s => exact .str s
  | nil a cap => exact .nil a cap
  | lst xs b off m cap u hm hcap hl hc hr ih =>
    refine .lst xs b off m cap u hm hcap hl (fun j c hj => ?_) (fun j c hj => ih j c hj)
    obtain ⟨a, p⟩ := hc j c hj
    obtain ⟨p', e⟩ := h.pm b _ p
    exact ⟨e.trans a, p'⟩

/-- The cells of a block that has not changed, and cells that stay, read as they did. -/
theorem cell?_of_block {w w' : World} {b : Nat} (h : w'.heap[b]? = w.heap[b]?) (o : Nat) : w'.cell? ⟨b, o, none⟩ = w.cell? ⟨b, o, none⟩ := by
  simp only [World.cell?, h]

theorem RCs.ext {g g' : Gh} {w w' : World} {S : Nat → Prop} (h : Ext g w g' w' S) {cs : List D} {b off : Nat} (r : RCs w g.pm cs b off)
    (hb : w'.heap[b]? = w.heap[b]? ∨ ∀ j, j < cs.length → g.pm b (off + j)) : RCs w' g'.pm cs b off := by
  intro j c hj
  obtain ⟨u, hu, hr⟩ := r j c hj
  refine ⟨u, ?_, hr.ext h⟩
  rcases hb with hb | hb
  · rw [cell?_of_block hb]; exact hu
  · have hlt : j < cs.length := by
      rcases Nat.lt_or_ge j cs.length with h | h
      · exact h
      · simp [List.getElem?_eq_none h] at hj
    rw [(h.pm b _ (hb j hlt)).2]; exact hu

theorem block_lt {w : World} {b : Nat} {o : Go.Obj} (h : w.heap[b]? = some o) : b < w.heap.size := by
  rcases Nat.lt_or_ge b w.heap.size with h' | h'
  · exact h'
  · simp [Array.getElem?_eq_none h'] at h

theorem Own.ext {g g' : Gh} {w w' : World} {S : Nat → Prop} (h : Ext g w g' w' S) {p : Bool} {m : Nat} {xs : List (List D)} {x : Value} {O : Nat → Nat}
    (r : Own g w p m xs x O) (hO : ∀ b, O b ≠ 0 → ¬ S b) : Own g' w' p m xs x O := by
  rcases r with r | ⟨b, off, cap, c, el, rfl, hcap, hm, hl, hb, hsz, hrc, hpm, hp, rfl⟩
  · exact .inl r
  · have hS : ¬ S b := hO b (by simp)
    obtain ⟨e, hn⟩ := h.blk b (block_lt hb) hS
    exact .inr ⟨b, off, cap, c, el, rfl, hcap, hm, hl, e.trans hb, hsz, hrc.ext h (.inl e), fun o ho => hpm o (hn o ho), fun hf j hj => (h.pm b _ (hp hf j hj)).1, rfl⟩

mutual
theorem RV.ext {g g' : Gh} {w w' : World} {S : Nat → Prop} (h : Ext g w g' w' S) : ∀ (v : AV) (x : Value) (O : Nat → Nat),
    RV g w v x O → (∀ b, O b ≠ 0 → ¬ S b) → RV g' w' v x O
  | .junk, _, _, r, _ => by simpa only [RV] using r
  | .d c, x, O, r, _ => by simp only [RV] at r ⊢; exact ⟨r.1.ext h, r.2⟩
  | .nl, _, _, r, _ => by simpa only [RV] using r
  | .own p m xs, x, O, r, hO => by simp only [RV] at r ⊢; exact r.ext h hO
  | .gl n, _, _, r, _ => by simpa only [RV] using r
  | .agg cs, x, O, r, hO => by
    simp only [RV] at r ⊢
    obtain ⟨xs, e, r⟩ := r
    exact ⟨xs, e, RVs.ext h cs _ O r hO⟩
  | .tup cs, x, O, r, hO => by
    simp only [RV] at r ⊢
    obtain ⟨xs, e, r⟩ := r
    exact ⟨xs, e, RVs.ext h cs _ O r hO⟩
  | .nilp, _, _, r, _ => by simpa only [RV] using r
  | .ptr id off, x, O, r, _ => by
    simp only [RV] at r ⊢
    obtain ⟨⟨b, hb, e⟩, hz⟩ := r
    obtain ⟨a1, a2, _, _⟩ := h.obj id b hb
    exact ⟨⟨b, a1, by rw [a2]; exact e⟩, hz⟩
  | .pel id i off, x, O, r, _ => by
    simp only [RV] at r ⊢
    obtain ⟨⟨b, hb, e⟩, hz⟩ := r
    obtain ⟨a1, a2, a3, _⟩ := h.obj id b hb
    exact ⟨⟨b, a1, by rw [a2, a3]; exact e⟩, hz⟩
  | .pim cs off, x, O, r, _ => by
    simp only [RV] at r ⊢
    obtain ⟨⟨b, o, e, hrc, hp⟩, hz⟩ := r
    exact ⟨⟨b, o, e, hrc.ext h (.inr hp), fun j hj => (h.pm b _ (hp j hj)).1⟩, hz⟩
  | .sl id off len, x, O, r, _ => by
    simp only [RV] at r ⊢
    obtain ⟨r, hz⟩ := r
    rcases r with r | ⟨b, cap, hb, e, hl, hs⟩
    · exact ⟨.inl r, hz⟩
    · obtain ⟨a1, a2, a3, a4⟩ := h.obj id b hb
      exact ⟨.inr ⟨b, cap, a1, by rw [a2, a3]; exact e, hl, by rw [a2, a3, a4]; exact hs⟩, hz⟩
  | .fn f a c, x, O, r, _ => by
    simp only [RV] at r ⊢
    obtain ⟨⟨xs, ys, e, ra, rc⟩, hz⟩ := r
    exact ⟨⟨xs, ys, e, RVs.ext h a _ _ ra (by simp), RVs.ext h c _ _ rc (by simp)⟩, hz⟩
  | .nilf, _, _, r, _ => by simpa only [RV] using r
  | .yield l, x, O, r, _ => by
    simp only [RV] at r ⊢
    obtain ⟨⟨b, hb, e⟩, hz⟩ := r
    exact ⟨⟨b, (h.obj l b hb).1, e⟩, hz⟩
theorem RVs.ext {g g' : Gh} {w w' : World} {S : Nat → Prop} (h : Ext g w g' w' S) : ∀ (vs : List AV) (xs : List Value) (O : Nat → Nat),
    RVs g w vs xs O → (∀ b, O b ≠ 0 → ¬ S b) → RVs g' w' vs xs O
  | [], _, _, r, _ => by simpa only [RVs] using r
  | v :: vs, xs, O, r, hO => by
    simp only [RVs] at r ⊢
    obtain ⟨x, s, O1, O2, e, r1, r2, hs⟩ := r
    exact ⟨x, s, O1, O2, e, RV.ext h v x O1 r1 (fun b hb => hO b (by rw [hs b]; omega)), RVs.ext h vs s O2 r2 (fun b hb => hO b (by rw [hs b]; omega)), hs⟩
end
end Go.Vm

/-
  LISTS OF VALUES AND OF VARIABLES; what is read of them.
-/
namespace Go.Vm

abbrev zero : Nat → Nat := fun _ => 0

/-! ### Association lists -/
def Srt {α : Type} (l : List (Nat × α)) : Prop := l.Pairwise fun a b => Bef a.1 b.1
theorem Bef.tr {a b c : Nat} (h : Bef a b) (k : Bef b c) : Bef a c := by omega
theorem Bef.ne {a b : Nat} (h : Bef a b) : b ≠ a := by omega
theorem bef_tri (a b : Nat) : Bef a b ∨ a = b ∨ Bef b a := by omega
theorem Bef.of {i k : Nat} (h : ¬ k = i) (l : Befe i k) : Bef i k := by omega
theorem Bef.of' {i k : Nat} (h : ¬ k = i) (l : ¬ Befe i k) : Bef k i := by omega

section
variable {α : Type}
theorem mem_del {l : List (Nat × α)} {i : Nat} {p : Nat × α} (h : p ∈ del l i) : p ∈ l ∧ p.1 ≠ i := by
  induction l with
  | nil => simp [del_nil] at h
  | cons a r ih =>
    obtain ⟨k, v⟩ := a
    rw [del_cons] at h
    split at h
    · exact ⟨.tail _ (ih h).1, (ih h).2⟩
    · rcases List.mem_cons.1 h with h | h
      · subst h; exact ⟨.head _, by simpa using ‹¬ k = i›⟩
      · exact ⟨.tail _ (ih h).1, (ih h).2⟩
theorem Srt.del {l : List (Nat × α)} (h : Srt l) (i : Nat) : Srt (Vm.del l i) := by
  induction l with
  | nil => simpa [del_nil] using h
  | cons a r ih =>
    obtain ⟨k, v⟩ := a
    have hr := List.pairwise_cons.1 h
    rw [del_cons]
    split
    · exact ih hr.2
    · exact List.pairwise_cons.2 ⟨fun p hp => hr.1 p (mem_del hp).1, ih hr.2⟩
theorem del_of_not_mem {l : List (Nat × α)} {i : Nat} (h : ∀ p ∈ l, p.1 ≠ i) : del l i = l := by
  induction l with
  | nil => rfl
  | cons a r ih =>
    obtain ⟨k, v⟩ := a
    rw [del_cons, if_neg (h (k, v) (.head _)), ih fun p hp => h p (.tail _ hp)]
theorem mem_put {l : List (Nat × α)} {i : Nat} {x : α} {p : Nat × α} (h : p ∈ put l i x) : p = (i, x) ∨ p ∈ l := by
  induction l with
  | nil => simp [put_nil] at h; exact .inl h
  | cons a r ih =>
    obtain ⟨k, v⟩ := a
    rw [put_cons] at h
    split at h
    · rcases List.mem_cons.1 h with h | h
      · exact .inl h
      · exact .inr (.tail _ h)
    · split at h
      · rcases List.mem_cons.1 h with h | h
        · exact .inl h
        · exact .inr h
      · rcases List.mem_cons.1 h with h | h
        · exact .inr (h ▸ .head _)
        · rcases ih h with h | h
          · exact .inl h
          · exact .inr (.tail _ h)
theorem Srt.put {l : List (Nat × α)} (h : Srt l) (i : Nat) (x : α) : Srt (Vm.put l i x) := by
  induction l with
  | nil => simp [put_nil, Srt]
  | cons a r ih =>
    obtain ⟨k, v⟩ := a
    have hr := List.pairwise_cons.1 h
    rw [put_cons]
    split
    · rename_i e; subst e; exact List.pairwise_cons.2 ⟨hr.1, hr.2⟩
    · split
      · rename_i ne le
        have hlt : Bef i k := .of ne le
        refine List.pairwise_cons.2 ⟨fun p hp => ?_, h⟩
        rcases List.mem_cons.1 hp with rfl | hp
        · exact hlt
        · exact hlt.tr (hr.1 p hp)
      · rename_i ne le
        refine List.pairwise_cons.2 ⟨fun p hp => ?_, ih hr.2⟩
        rcases mem_put hp with rfl | hp
        · exact .of' ne le
        · exact hr.1 p hp
end

/-! ### What holds of each entry, and what they own together -/
def RL {α : Type} (Q : Nat → α → (Nat → Nat) → Prop) : List (Nat × α) → (Nat → Nat) → Prop
  | [], O => ∀ b, O b = 0
  | (k, v) :: r, O => ∃ O1 O2, Q k v O1 ∧ RL Q r O2 ∧ ∀ b, O b = O1 b + O2 b

section
variable {α : Type} {Q Q' : Nat → α → (Nat → Nat) → Prop}
theorem RL.imp' {l : List (Nat × α)} {O : Nat → Nat} (r : RL Q l O)
    (h : ∀ k v O1, (k, v) ∈ l → (∀ b, O1 b ≤ O b) → Q k v O1 → Q' k v O1) : RL Q' l O := by
  induction l generalizing O with
  | nil => simpa [RL] using r
  | cons a r' ih =>
    obtain ⟨k, v⟩ := a
    obtain ⟨O1, O2, q, rr, hs⟩ := r
    exact ⟨O1, O2, h k v O1 (.head _) (fun b => by rw [hs b]; omega) q,
      ih rr fun k v O' hm hle q => h k v O' (.tail _ hm) (fun b => by have := hle b; rw [hs b]; omega) q, hs⟩
theorem RL.take {l : List (Nat × α)} {O : Nat → Nat} (r : RL Q l O) {i : Nat} {v : α} (hg : get l i = some v) :
    ∃ O1 O2, Q i v O1 ∧ RL Q (del l i) O2 ∧ ∀ b, O1 b + O2 b ≤ O b := by
  induction l generalizing O with
  | nil => simp [get_nil] at hg
  | cons a r' ih =>
    obtain ⟨k, u⟩ := a
    obtain ⟨O1, O2, q, rr, hs⟩ := r
    rw [get_cons] at hg
    rw [del_cons]
    by_cases e : k = i
    · subst e
      simp only [if_true] at hg ⊢
      injection hg with hg; subst hg
      have : ∃ O3, RL Q (del r' k) O3 ∧ ∀ b, O3 b ≤ O2 b := by
        clear ih hs q
        induction r' generalizing O2 with
        | nil => exact ⟨O2, rr, fun _ => Nat.le_refl _⟩
        | cons a r'' ih2 =>
          obtain ⟨k', u'⟩ := a
          obtain ⟨P1, P2, q', rr', hs'⟩ := rr
          obtain ⟨O3, r3, h3⟩ := ih2 P2 rr'
          rw [del_cons]
          split
          · exact ⟨O3, r3, fun b => by have := h3 b; rw [hs' b]; omega⟩
          · exact ⟨fun b => P1 b + O3 b, ⟨P1, O3, q', r3, fun _ => rfl⟩, fun b => by have := h3 b; have := hs' b; show P1 b + O3 b ≤ O2 b; omega⟩
      obtain ⟨O3, r3, h3⟩ := this
      exact ⟨O1, O3, q, r3, fun b => by have := h3 b; rw [hs b]; omega⟩
    · simp only [if_neg e] at hg ⊢
      obtain ⟨P1, P2, q', rr', hs'⟩ := ih rr hg
      exact ⟨P1, fun b => O1 b + P2 b, q', ⟨O1, P2, q, rr', fun _ => rfl⟩, fun b => by have := hs' b; have := hs b; show P1 b + (O1 b + P2 b) ≤ O b; omega⟩
theorem RL.drop {l : List (Nat × α)} {O : Nat → Nat} (r : RL Q l O) (i : Nat) : ∃ O2, RL Q (del l i) O2 ∧ ∀ b, O2 b ≤ O b := by
  induction l generalizing O with
  | nil => exact ⟨O, r, fun _ => Nat.le_refl _⟩
  | cons a r' ih =>
    obtain ⟨k, u⟩ := a
    obtain ⟨O1, O2, q, rr, hs⟩ := r
    obtain ⟨O3, r3, h3⟩ := ih rr
    rw [del_cons]
    split
    · exact ⟨O3, r3, fun b => by have := h3 b; rw [hs b]; omega⟩
    · exact ⟨fun b => O1 b + O3 b, ⟨O1, O3, q, r3, fun _ => rfl⟩, fun b => by have := h3 b; have := hs b; show O1 b + O3 b ≤ O b; omega⟩
theorem RL.put {l : List (Nat × α)} (hs : Srt l) {i : Nat} {O1 O2 : Nat → Nat} (r : RL Q (del l i) O2) {x : α} (q : Q i x O1) :
    ∃ O, RL Q (Vm.put l i x) O ∧ ∀ b, O b = O1 b + O2 b := by
  induction l generalizing O2 with
  | nil => exact ⟨fun b => O1 b + O2 b, ⟨O1, O2, q, r, fun _ => rfl⟩, fun _ => rfl⟩
  | cons a r' ih =>
    obtain ⟨k, u⟩ := a
    have hp := List.pairwise_cons.1 hs
    rw [put_cons]
    by_cases e : k = i
    · subst e
      simp only [if_true]
      rw [del_cons, if_pos rfl, del_of_not_mem fun p hp' => (hp.1 p hp').ne] at r
      exact ⟨fun b => O1 b + O2 b, ⟨O1, O2, q, r, fun _ => rfl⟩, fun _ => rfl⟩
    · simp only [if_neg e]
      rw [del_cons, if_neg e] at r
      split
      · rename_i hle
        have hlt : Bef i k := .of e hle
        rw [del_of_not_mem fun p hp' => (hlt.tr (hp.1 p hp')).ne] at r
        exact ⟨fun b => O1 b + O2 b, ⟨O1, O2, q, r, fun _ => rfl⟩, fun _ => rfl⟩
      · obtain ⟨P1, P2, q', rr', hs'⟩ := r
        obtain ⟨O, ro, ho⟩ := ih hp.2 rr'
        exact ⟨fun b => P1 b + O b, ⟨P1, O, q', ro, fun _ => rfl⟩, fun b => by have := ho b; have := hs' b; show P1 b + O b = O1 b + O2 b; omega⟩
theorem RL.get {l : List (Nat × α)} {O : Nat → Nat} (r : RL Q l O) {i : Nat} {v : α} (hg : Vm.get l i = some v) :
    ∃ O1, Q i v O1 ∧ ∀ b, O1 b ≤ O b := by
  obtain ⟨O1, O2, q, _, h⟩ := r.take hg
  exact ⟨O1, q, fun b => by have := h b; omega⟩
end

/-! ### Cells -/
theorem flatten_len {xs : List (List D)} {m : Nat} (h : ∀ e ∈ xs, e.length = m) : xs.flatten.length = xs.length * m := by
  induction xs with
  | nil => simp
  | cons a r ih =>
    simp only [List.flatten_cons, List.length_append, List.length_cons]
    rw [ih fun e he => h e (.tail _ he), h a (.head _), Nat.succ_mul, Nat.add_comm]

theorem RCs.nil (w : World) (pm : Nat → Nat → Prop) (b off : Nat) : RCs w pm [] b off := fun j c h => by simp at h

theorem RCs.rd {w : World} {pm : Nat → Nat → Prop} {xs : List (List D)} {b off m cap : Nat} (hm : 0 < m) (hcap : xs.length ≤ cap) (hl : ∀ e ∈ xs, e.length = m)
    (hc : RCs w pm xs.flatten b off) (hp : ∀ j, j < xs.length * m → pm b (off + j)) : RD w pm (.lst xs) (.slice (some ⟨b, off, none⟩) xs.length cap) := by
  refine .lst xs b off m cap (fun j => (w.cell? ⟨b, off + j, none⟩).getD (.bool false)) hm hcap hl (fun j c hj => ?_) (fun j c hj => ?_)
  · obtain ⟨u, hu, _⟩ := hc j c hj
    have hlt : j < xs.flatten.length := by
      rcases Nat.lt_or_ge j xs.flatten.length with h | h
      · exact h
      · simp [List.getElem?_eq_none h] at hj
    exact ⟨by simp [hu], hp j (by rw [← flatten_len hl]; exact hlt)⟩
  · obtain ⟨u, hu, hr⟩ := hc j c hj
    simpa [hu] using hr

mutual
theorem RV.share {g : Gh} {w : World} : ∀ (v : AV) (x : Value) (O : Nat → Nat), RV g w v x O → RV g w (share v) x zero
  | .own false m xs, x, O, r => by
    simp only [RV, Vm.share] at r ⊢
    refine ⟨?_, fun _ => by trivial⟩
    rcases r with ⟨rfl, _, a, rfl⟩ | ⟨b, off, cap, c, el, rfl, hcap, hm, hl, hb, hsz, hrc, hpm, hp, rfl⟩
    · exact .nil a 0
    · exact hrc.rd hm hcap hl (hp rfl)
  | .own true m xs, x, O, r => by simp [RV, Vm.share]
  | .agg cs, x, O, r => by
    simp only [RV, Vm.share] at r ⊢
    obtain ⟨xs, e, r⟩ := r
    exact ⟨xs, e, RVs.share cs _ O r⟩
  | .tup cs, x, O, r => by
    simp only [RV, Vm.share] at r ⊢
    obtain ⟨xs, e, r⟩ := r
    exact ⟨xs, e, RVs.share cs _ O r⟩
  | .junk, _, _, r => by simp [RV, Vm.share]
  | .d c, _, _, r => by simp only [RV, Vm.share] at r ⊢; exact ⟨r.1, fun _ => by trivial⟩
  | .nl, _, _, r => by simp only [RV, Vm.share] at r ⊢; exact ⟨r.1, fun _ => by trivial⟩
  | .gl n, _, _, r => by simp only [RV, Vm.share] at r ⊢; exact ⟨r.1, fun _ => by trivial⟩
  | .nilp, _, _, r => by simp only [RV, Vm.share] at r ⊢; exact ⟨r.1, fun _ => by trivial⟩
  | .ptr _ _, _, _, r => by simp only [RV, Vm.share] at r ⊢; exact ⟨r.1, fun _ => by trivial⟩
  | .pel _ _ _, _, _, r => by simp only [RV, Vm.share] at r ⊢; exact ⟨r.1, fun _ => by trivial⟩
  | .pim _ _, _, _, r => by simp only [RV, Vm.share] at r ⊢; exact ⟨r.1, fun _ => by trivial⟩
  | .sl _ _ _, _, _, r => by simp only [RV, Vm.share] at r ⊢; exact ⟨r.1, fun _ => by trivial⟩
  | .fn _ _ _, _, _, r => by simp only [RV, Vm.share] at r ⊢; exact ⟨r.1, fun _ => by trivial⟩
  | .nilf, _, _, r => by simp only [RV, Vm.share] at r ⊢; exact ⟨r.1, fun _ => by trivial⟩
  | .yield _, _, _, r => by simp only [RV, Vm.share] at r ⊢; exact ⟨r.1, fun _ => by trivial⟩
theorem RVs.share {g : Gh} {w : World} : ∀ (vs : List AV) (xs : List Value) (O : Nat → Nat), RVs g w vs xs O → RVs g w (shareAll vs) xs zero
  | [], _, _, r => by simp only [RVs, shareAll_nil] at r ⊢; exact ⟨r.1, fun _ => by trivial⟩
  | v :: vs, xs, O, r => by
    simp only [RVs, shareAll_cons] at r ⊢
    obtain ⟨x, s, O1, O2, e, r1, r2, _⟩ := r
    exact ⟨x, s, zero, zero, e, RV.share v x O1 r1, RVs.share vs s O2 r2, fun _ => by trivial⟩
end
end Go.Vm

/-
  WHICH ANNOTATED CODE BELONGS TO WHICH CODE OF THE MODEL's: a test that the kernel runs.
-/
namespace Go.Vm

/-! ### Constants -/
def okD : D → Value → Bool
  | .int k n, .int j m => kindEq k j && decide (n = m)
  | .bool a, .bool b => a == b
  | .str s, .string t => s == t.data.toList
  | .lst [], .slice none 0 0 => true
  | _, _ => false
def okDs : List D → List Value → Bool
  | [], [] => true
  | d :: r, v :: s => okD d v && okDs r s
  | _, _ => false
def okConst1 : AV → Value → Bool
  | .d (.lst _), _ => false
  | .d x, v => okD x v
  | .nl, .slice none 0 0 => true
  | .nilp, .pointer none => true
  | .nilf, .nilFunc => true
  | _, _ => false
def okConsts : List AV → List Value → Bool
  | [], [] => true
  | d :: r, v :: s => okConst1 d v && okConsts r s
  | _, _ => false
def okConst : AV → Value → Bool
  | .agg cs, .agg vs => okConsts cs vs.toList
  | v, x => okConst1 v x

/-! ### Operands -/
def chkRd : Rd → Operand → Bool
  | .s i, .tmp t => Nat.beq i t
  | .m i, .tmp t => Nat.beq i t
  | .c v, .const x => okConst v x
  | .c (.fn f [] []), .func g => Nat.beq f g
  | _, _ => false
def chkRds : List Rd → List Operand → Bool
  | [], [] => true
  | r :: l, o :: s => chkRd r o && chkRds l s
  | _, _ => false
def chkRdO : Option Rd → Option Operand → Bool
  | none, none => true
  | some r, some o => chkRd r o
  | _, _ => false

/-! ### Types -/
section
variable (P : Program)
/-- A type has so many cells, and is a struct or an array as told. -/
def tySz (t : TypeId) (n : Nat) : Bool := match P.info? t with
  | some i => Nat.beq i.size n
  | none => false
def tyAgg (t : TypeId) : Bool := match P.underlying t with
  | some (.struct _) => true
  | some (.array _ _) => true
  | _ => false
def tyOne (t : TypeId) : Bool := match P.underlying t with
  | some (.struct _) => false
  | some (.array _ _) => false
  | some _ => true
  | none => false
def tyCell (t : TypeId) : Option Nat → Bool
  | none => tyOne P t
  | some n => tyAgg P t && tySz P t n
/-- A slice type whose elements have so many cells, and not too many bytes. -/
def tySlice (t : TypeId) (m : Nat) : Bool := match P.underlying t with
  | some (.slice e) => tySz P e m && Nat.blt 0 m && Nat.ble (P.bytesOf e) 4096
  | _ => false
def tyZero (t : TypeId) (zs : List D) : Bool := match P.info? t with
  | some i => match i.zero with
    | some z => okDs zs z.cells.toList
    | none => false
  | none => false
def tyElemZero (t : TypeId) (zs : List D) : Bool := match P.underlying t with
  | some (.slice e) => tyZero P e zs
  | _ => false
def tyElemZeroLen (t : TypeId) (m : Nat) : Bool := match P.underlying t with
  | some (.slice e) => match P.info? e with
    | some i => match i.zero with
      | some z => Nat.beq z.cells.size m
      | none => false
    | none => false
  | _ => false
def tyString (t : TypeId) : Bool := match P.underlying t with
  | some .string => true
  | _ => false
def tyInt (t : TypeId) : Bool := match P.underlying t with
  | some (.int _) => true
  | _ => false
def tyBool (t : TypeId) : Bool := match P.underlying t with
  | some .bool => true
  | _ => false
def tyBytes (t : TypeId) : Bool := match P.underlying t with
  | some (.slice e) => (match P.underlying e with
    | some (.int .u8) => true
    | _ => false)
  | _ => false
/-- The library's search for a byte, which has no body. -/
def isIdxb (f : FuncId) : Bool := match P.funcs[f]? with
  | some fn => fn.name == "internal/bytealg.IndexByte" && fn.origin == "" && fn.body.isNone
  | none => false
/-- A struct of numbers and bools, one cell each. -/
def tyFlat : List Bool → List Field → Nat → Bool
  | [], [], _ => true
  | k :: ks, f :: r, n => Nat.beq f.offset n && (f.name != "_") && (match k with | true => tyInt P f.type | false => tyBool P f.type) && tyOne P f.type && tyFlat ks r (n + 1)
  | _, _, _ => false
/-- The same, with structs of these among its fields. -/
def tyNest : List Bool → List Field → Nat → Bool
  | [], [], _ => true
  | _ :: _, [], _ => false
  | ks, f :: r, n => Nat.beq f.offset n && (f.name != "_") && (match P.underlying f.type with
    | some (.struct fs) => Nat.ble fs.size ks.length && tyFlat P (ks.take fs.size) fs.toList 0 && !(P.stoodInHeld f.type) && tySz P f.type fs.size && tyNest (ks.drop fs.size) r (n + fs.size)
    | _ => match ks with
      | k :: ks => (match k with | true => tyInt P f.type | false => tyBool P f.type) && tyOne P f.type && tyNest ks r (n + 1)
      | [] => false)
def tyPlainStruct (t : TypeId) (ks : List Bool) : Bool := match P.underlying t with
  | some (.struct fs) => tyNest P ks fs.toList 0 && !(P.stoodInHeld t) && !(P.eqGuardType P.depth t)
  | _ => false
def tyIntK (t : TypeId) (k : IntKind) : Bool := match P.underlying t with
  | some (.int j) => kindEq j k
  | _ => false
def tyArray (t : TypeId) (len n : Nat) : Bool := match P.underlying t with
  | some (.array l e) => Nat.beq l len && tySz P e n && Nat.blt 0 n
  | _ => false
def tyField (t : TypeId) (f off : Nat) : Bool := match P.underlying t with
  | some (.struct fs) => match fs[f]? with
    | some x => Nat.beq x.offset off && (match P.info? x.type with | some i => Nat.blt 0 i.size | none => false)
    | none => false
  | _ => false
def tyFieldCell (t : TypeId) (f off : Nat) (n : Option Nat) : Bool := match P.underlying t with
  | some (.struct fs) => match fs[f]? with
    | some x => Nat.beq x.offset off && tyCell P x.type n
    | none => false
  | _ => false
def tyElemCell (t : TypeId) (len n : Nat) (agg : Bool) : Bool := match P.underlying t with
  | some (.array l e) => Nat.beq l len && tySz P e n && (match agg with | true => tyAgg P e | false => tyOne P e)
  | _ => false

/-! ### Operations -/
def chkParts (places : Nat → Option (Nat × Nat)) : List (Nat × Nat × Rd) → List (Nat × Operand) → Bool
  | [], [] => true
  | (off, n, r) :: l, (i, o) :: s => (match places i with | some (a, b) => Nat.beq a off && Nat.beq b n | none => false) && chkRd r o && chkParts places l s
  | _, _ => false
def structPlaces (fs : Array Field) (i : Nat) : Option (Nat × Nat) := match fs[i]? with
  | some f => match P.info? f.type with
    | some t => some (f.offset, t.size)
    | none => none
  | none => none
def allInfo (fs : List Field) : Bool := fs.all fun f => (P.info? f.type).isSome
def chkBuild (t : TypeId) (zs : List AV) (ps : List (Nat × Nat × Rd)) (parts : List (Nat × Operand)) : Bool :=
  (match P.info? t with
    | some i => match i.zero with
      | some z => okConsts zs z.cells.toList
      | none => false
    | none => false) &&
  match P.underlying t with
  | some (.struct fs) => allInfo P fs.toList && chkParts (structPlaces P fs) ps parts
  | some (.array _ e) => match P.info? e with
    | some i => chkParts (fun k => some (k * i.size, i.size)) ps parts
    | none => false
  | _ => false
def chkInOrder : Nat → List Rd → List (Nat × Operand) → Bool
  | _, [], [] => true
  | k, r :: l, (i, o) :: s => Nat.beq i k && chkRd r o && chkInOrder (k + 1) l s
  | _, _, _ => false
def calleeFn : Callee → Option FuncId
  | .value (.func f) => some f
  | _ => none
def calleeB : Callee → Option Builtin
  | .builtin b => some b
  | _ => none
def opEq (a b : BinOp) : Bool := decide (a = b)
def unEq (a b : UnOp) : Bool := decide (a = b)
def bEq (a b : Option Builtin) : Bool := decide (a = b)
def ty0 (c : Call) : TypeId := c.argTypes.getD 0 0
def isTwo (c : Call) : Bool := Nat.beq c.argTypes.size 2
def chkOp (v : VOp) (o : Op) : Bool :=
  match v with
  | .mov x => (match o with
    | .move y => chkRd x y
    | .assign y => chkRd x y
    | .call c => bEq (calleeB c.callee) (some .len) && Nat.blt 0 c.args.size && Nat.blt 0 c.argTypes.size && (match x with
      | .c (.d (.int .i64 n)) => (match P.underlying (ty0 c) with
        | some (.array l _) => decide (n = (l : Int))
        | _ => false)
      | _ => false)
    | _ => false)
  | .pick c a b => (match o with
    | .pick c' a' b' => chkRd c c' && chkRd a a' && chkRd b b'
    | _ => false)
  | .alloc zs => (match o with
    | .alloc e => (match P.info? e with
      | some i => (match i.zero with
        | some z => okConsts zs z.cells.toList
        | none => false)
      | none => false)
    | _ => false)
  | .box x => (match o with
    | .box _ y => chkRd x y
    | _ => false)
  | .build zs ps => (match o with
    | .build t parts => chkBuild P t zs ps parts.toList
    | _ => false)
  | .mks m ps => (match o with
    | .buildSlice t len parts => tySlice P t m && tyElemZeroLen P t m && Nat.beq len ps.length && Nat.ble (len * m) 16777216 && chkInOrder 0 ps parts.toList
    | _ => false)
  | .mksv m ps => (match o with
    | .buildSlice t len parts => Nat.beq m 1 && tySlice P t m && tyElemZeroLen P t m && Nat.beq len ps.length && Nat.ble (len * m) 16777216 && Nat.blt 0 len && chkInOrder 0 ps parts.toList
    | _ => false)
  | .ld n _ p => (match o with
    | .load t a => tyCell P t n && chkRd p a
    | _ => false)
  | .st n p x => (match o with
    | .store t a y => tySz P t n && chkRd p a && chkRd x y
    | _ => false)
  | .nilck x => (match o with
    | .nilCheck y => chkRd x y
    | _ => false)
  | .bin op x y => (match o with
    | .binOp op' _ x' y' _ => opEq op op' && chkRd x x' && chkRd y y'
    | _ => false)
  | .binb neg x y => (match o with
    | .binOp op' t x' y' _ => opEq (match neg with | true => .neq | false => .eql) op' && tyBool P t && chkRd x x' && chkRd y y'
    | _ => false)
  | .un op x => (match o with
    | .unOp op' _ x' => unEq op op' && chkRd x x'
    | _ => false)
  | .conv k x => (match o with
    | .convert src dst x' => tyIntK P dst k && tyInt P src && chkRd x x'
    | _ => false)
  | .toStr x => (match o with
    | .convert src dst x' => tyString P dst && tyBytes P src && chkRd x x'
    | _ => false)
  | .bina neg ks x y => (match o with
    | .binOp op' t x' y' _ => opEq (match neg with | true => .neq | false => .eql) op' && tyPlainStruct P t ks && chkRd x x' && chkRd y y'
    | _ => false)
  | .mkfn f first caps => (match o with
    | .makeFunc (.func g) first' caps' => Nat.beq f g && chkRds first first'.toList && chkRds caps caps'.toList
    | _ => false)
  | .mkslice z len cap => (match o with
    | .makeSlice t l c => tySlice P t z.length && tyElemZero P t z && chkRd len l && chkRd cap c
    | _ => false)
  | .slice m x lo hi mx => (match o with
    | .slice t y l h k => tySlice P t m && chkRd x y && chkRdO lo l && chkRdO hi h && chkRdO mx k
    | _ => false)
  | .slarr n x lo hi mx => (match o with
    | .slice t y l h k => tyArray P t n 1 && chkRd x y && chkRdO lo l && chkRdO hi h && chkRdO mx k
    | _ => false)
  | .fa off p => (match o with
    | .fieldAddr t y f => tyField P t f off && chkRd p y
    | _ => false)
  | .fld off n x => (match o with
    | .field t y f => tyFieldCell P t f off n && chkRd x y
    | _ => false)
  | .ia n x i => (match o with
    | .indexAddr t y j => tySlice P t n && chkRd x y && chkRd i j
    | _ => false)
  | .iarr len n p i => (match o with
    | .indexAddr t y j => tyArray P t len n && chkRd p y && chkRd i j
    | _ => false)
  | .ix len n agg x i => (match o with
    | .index t y j => tyElemCell P t len n agg && chkRd x y && chkRd i j
    | _ => false)
  | .ixs x i => (match o with
    | .index t y j => tyString P t && chkRd x y && chkRd i j
    | _ => false)
  | .ext j _ i => (match o with
    | .extract (.tmp t) k => Nat.beq j t && Nat.beq i k
    | _ => false)
  | .len x => (match o with
    | .call c => bEq (calleeB c.callee) (some .len) && Nat.blt 0 c.argTypes.size && (match P.underlying (ty0 c) with | some (.slice _) => true | _ => false) && chkRds [x] c.args.toList
    | _ => false)
  | .cap x => (match o with
    | .call c => bEq (calleeB c.callee) (some .cap) && Nat.blt 0 c.argTypes.size && (match P.underlying (ty0 c) with | some (.slice _) => true | _ => false) && chkRds [x] c.args.toList
    | _ => false)
  | .app m x y => (match o with
    | .call c => bEq (calleeB c.callee) (some .append) && isTwo c && tySlice P (ty0 c) m && tyElemZeroLen P (ty0 c) m &&
        (match P.underlying (c.argTypes.getD 1 0) with | some (.slice _) => true | _ => false) && chkRds [x, y] c.args.toList
    | _ => false)
  | .appz z x n => (match o with
    | .call c => bEq (calleeB c.callee) (some .append) && isTwo c && tySlice P (ty0 c) z.length && tyElemZero P (ty0 c) z && tyInt P (c.argTypes.getD 1 0) && chkRds [x, n] c.args.toList
    | _ => false)
  | .cpy m x y => (match o with
    | .call c => bEq (calleeB c.callee) (some .copy) && isTwo c && tySlice P (ty0 c) m && (match P.underlying (c.argTypes.getD 1 0) with | some (.slice _) => true | _ => false) && chkRds [x, y] c.args.toList
    | _ => false)
  | .clr z x => (match o with
    | .call c => bEq (calleeB c.callee) (some .clear) && tySlice P (ty0 c) z.length && tyElemZero P (ty0 c) z && Nat.blt 0 c.argTypes.size && chkRds [x] c.args.toList
    | _ => false)
  | .minmax b xs => (match o with
    | .call c => bEq (calleeB c.callee) (some (match b with | true => .max | false => .min)) && chkRds xs c.args.toList
    | _ => false)
  | .call f args => (match o with
    | .call c => (match calleeFn c.callee with | some g => Nat.beq f g | none => false) && chkRds args c.args.toList
    | _ => false)
  | .calli f args => (match o with
    | .call c => (match calleeFn c.callee with | some g => Nat.beq f g | none => false) && chkRds args c.args.toList
    | _ => false)
  | .callv f args => (match o with
    | .call c => (match c.callee with | .value x => chkRd f x | _ => false) && chkRds args c.args.toList
    | _ => false)
  | .idxb x c => (match o with
    | .call k => (match calleeFn k.callee with | some f => isIdxb P f | none => false) && chkRds [x, c] k.args.toList
    | _ => false)
  | .bad => true
  | _ => false

def isGhost (v : VI) : Bool :=
  v.dst.isNone && v.guard.isNone && v.th.isEmpty && (match v.op with
    | .kill _ => true
    | .free _ => true
    | .wk _ _ => true
    | .frz _ => true
    | .frzC _ _ => true
    | _ => false)
def chkGuard (ops : Array Oper) : Option (Nat × Bool) → Option (Nat × Bool) → Bool
  | none, none => true
  | some (s, b), some (j, c) => b == c && (match ops[j]? with
    | some o => (match o.dst with | some d => Nat.beq d s | none => false)
    | none => false)
  | _, _ => false
def chkVI (n : Nat) (ops : Array Oper) (v : VI) (o : Oper) : Bool :=
  (match v.dst, o.dst with
    | none, none => true
    | some a, some b => Nat.beq a b && Nat.blt a n
    | _, _ => false) && chkGuard ops v.guard o.guard && chkOp P v.op o.op
def chkOps (n : Nat) (ops : Array Oper) : List VI → List Oper → Bool
  | [], [] => true
  | v :: l, os => match isGhost v with
    | true => chkOps n ops l os
    | false => match os with
      | o :: s => chkVI P n ops v o && chkOps n ops l s
      | [] => false
  | [], _ :: _ => false
end

/-! ### Regions that draw their order -/
def slotOf : Rd → List Nat
  | .s i => [i]
  | .m i => [i]
  | .c _ => []
def movedOf : Rd → List Nat
  | .m i => [i]
  | _ => []
def slotsOf (rs : List Rd) : List Nat := rs.flatMap slotOf
def movedsOf (rs : List Rd) : List Nat := rs.flatMap movedOf

/-- What an operation that leaves the heap as it is reads. -/
def quietRds : VOp → Option (List Rd)
  | .mov x => some [x]
  | .build _ ps => some (readsOf ps)
  | .mks _ ps => some ps
  | .ld _ 0 p => some [p]
  | .nilck x => some [x]
  | .bin _ x y => some [x, y]
  | .binb _ x y => some [x, y]
  | .bina _ _ x y => some [x, y]
  | .un _ x => some [x]
  | .conv _ x => some [x]
  | .toStr x => some [x]
  | .mkslice _ l c => some [l, c]
  | .fa _ p => some [p]
  | .fld _ _ x => some [x]
  | .ia _ x i => some [x, i]
  | .iarr _ _ p i => some [p, i]
  | .ix _ _ _ x i => some [x, i]
  | .ixs x i => some [x, i]
  | .len x => some [x]
  | .cap x => some [x]
  | .minmax _ xs => some xs
  | .mkfn _ first caps => some (first ++ caps)
  | .call _ args => some args
  | _ => none

/-- What an instruction that leaves the heap as it is looks at and changes. -/
def footOf : VOp → Option (List Nat × List Nat)
  | .pick c a b => some (slotsOf [c, a, b], movedsOf [c, a, b])
  | .ext j mv _ => some ([j], if mv then [j] else [])
  | .app _ (.c .nl) y => some (slotsOf [y], movedsOf [y])
  | .slice _ x lo hi mx => some (slotsOf (x :: (lo.toList ++ (hi.toList ++ (mx.toList ++ [])))), movedsOf (x :: (lo.toList ++ (hi.toList ++ (mx.toList ++ [])))))
  | v => match quietRds v with
    | some rs => some (slotsOf rs, movedsOf rs)
    | none => none
def footV (i : VI) : Option (List Nat × List Nat) :=
  match i.th with
  | _ :: _ => none
  | [] => match footOf i.op with
    | none => none
    | some (R, M) => some ((match i.guard with | some (s, _) => s :: (R ++ M) | none => R ++ M), (match i.dst with | some d => d :: M | none => M))
def apartN : List Nat → List Nat → Bool
  | [], _ => true
  | a :: r, l => !memN a l && apartN r l
/-- May two instructions change places? -/
def maySwap (a b : VI) : Bool := match footV a, footV b with
  | some (R1, M1), some (R2, M2) => apartN M1 R2 && apartN M1 M2 && apartN M2 R1
  | _, _ => false
def wideGround : Ground → Bool
  | .textOnly _ => false
  | .gcOnly _ => false
  | _ => true
/-- Must an operation wait for another, in every mode? -/
def hasEdge (o : Oper) (j : Nat) : Bool := o.after.toList.any fun e => Nat.beq e.on j && wideGround e.ground
def chkOne (o : Oper) (v : VI) : Nat → List VI → Bool
  | _, [] => true
  | j, u :: us => (hasEdge o j || maySwap u v) && chkOne o v (j + 1) us
def chkDraws (P : Program) (n : Nat) (ops : Array Oper) (prev : List VI) : List VI → List Oper → Bool
  | [], [] => true
  | v :: vs, o :: os => chkVI P n ops v o && chkOne o v 0 prev && (o.after.toList.all fun e => Nat.blt e.on prev.length) && chkDraws P n ops (prev ++ [v]) vs os
  | _, _ => false

/-! ### Regions that draw their order, and do more than read -/
def gsl (i : VI) (l : List Nat) : List Nat := match i.guard with | some (s, _) => s :: l | none => l
def dsl (i : VI) (l : List Nat) : List Nat := match i.dst with | some d => d :: l | none => l
inductive HKind where
  | q | t | a | p
/-- What an instruction does to the heap, and which slots it looks at and changes. -/
def kindV (i : VI) : Option (HKind × List Nat × List Nat) :=
  match i.th with
  | _ :: _ => match footOf i.op with
    | some (R, M) => some (.a, gsl i (R ++ M), dsl i M)
    | none => none
  | [] => match i.op with
    | .ld _ 2 p => some (.t, gsl i (slotOf p ++ movedOf p), dsl i (movedOf p))
    | .app _ (.s x) y => some (.p, gsl i (slotsOf [.s x, y] ++ movedsOf [.s x, y]), dsl i (movedsOf [.s x, y]))
    | .app _ (.m x) y => some (.p, gsl i (slotsOf [.m x, y] ++ movedsOf [.m x, y]), dsl i (movedsOf [.m x, y]))
    | .alloc _ => some (.a, gsl i ([] ++ []), dsl i [])
    | .box x => some (.a, gsl i (slotOf x ++ movedOf x), dsl i (movedOf x))
    | v => match footOf v with
      | some (R, M) => some (.q, gsl i (R ++ M), dsl i M)
      | none => none
def okKinds : HKind → HKind → Bool
  | .a, _ => false
  | .t, .t => false
  | .p, .q => true
  | .p, _ => false
  | _, .p => false
  | _, _ => true
/-- May 'v', that comes behind 'u', be moved ahead of it? -/
def mayPass (u v : VI) : Bool := match kindV u, kindV v with
  | some (k1, R1, M1), some (k2, R2, M2) => okKinds k1 k2 && apartN M1 R2 && apartN M1 M2 && apartN M2 R1
  | _, _ => false
def unionN : List Nat → List Nat → List Nat
  | [], l => l
  | a :: r, l => match memN a l with
    | true => unionN r l
    | false => unionN r (a :: l)
/-- Operations that do not look at the heap. -/
def sOp : VOp → Bool
  | .mov _ => true
  | .pick .. => true
  | .build .. => true
  | .mks .. => true
  | .nilck _ => true
  | .bin .. => true
  | .binb .. => true
  | .bina .. => true
  | .un .. => true
  | .conv .. => true
  | .mkfn .. => true
  | .mkslice .. => true
  | .fa .. => true
  | .fld .. => true
  | .iarr .. => true
  | .ix .. => true
  | .ixs .. => true
  | .ext .. => true
  | .len _ => true
  | .cap _ => true
  | .minmax .. => true
  | _ => false
def wRds : VOp → Option (List Rd)
  | .ld _ _ p => some [p]
  | .st _ p x => some [p, x]
  | .cpy _ x y => some [x, y]
  | .clr _ x => some [x]
  | .calli _ args => some args
  | .callv f args => some (f :: args)
  | _ => none
/-- Which slots an instruction looks at, and which it changes. -/
def footW (i : VI) : Option (List Nat × List Nat) :=
  match kindV i with
  | some (_, R, M) => some (R, M)
  | none => match wRds i.op with
    | some rs => some (gsl i (slotsOf rs ++ movedsOf rs), dsl i (movedsOf rs))
    | none => none
def footN (a : Bool) (i : VI) : Option (List Nat × List Nat) :=
  match footW i with
  | some (R, M) => match a with
    | false => some (R, M)
    | true => some (R ++ slotRs (nearRds i.op), M)
  | none => none
def isNil' (a : List (Nat × Nat)) : Bool := match a with | [] => true | _ => false
def kS (a : Bool) (i : VI) : Bool := !a && isNil' i.th && sOp i.op
def isQ (i : VI) : Bool := match kindV i with | some (.q, _) => true | _ => false
def isP (i : VI) : Bool := match kindV i with | some (.p, _) => true | _ => false
def nkRead (i : VI) : Bool := match nkOf i.op with | .read => true | _ => false
def nkTake (i : VI) : Bool := match nkOf i.op with | .take => true | _ => false
def nkCall (i : VI) : Bool := match nkOf i.op with | .call => true | _ => false
def isRd (a : Bool) (i : VI) : Bool := isQ i && (!a || nkRead i)
def nearBy (a b : Bool) (u v : VI) : Bool := a && b && isQ u && nkRead u && nkCall v
def apart2 (a b : Bool) (u v : VI) : Bool := match footN a u, footN b v with
  | some (R1, M1), some (R2, M2) => apartN M1 R2 && apartN M1 M2 && apartN M2 R1
  | _, _ => false
/-- May 'v' be moved ahead of 'u', whatever the heap? -/
def passE (a b : Bool) (u v : VI) : Bool := apart2 a b u v && (kS a u || kS b v || (isRd a u && isRd b v) || nearBy a b u v)
def isT (a : Bool) (i : VI) : Bool := a && nkTake i && isNil' i.th
def passH (a b : Bool) (u v : VI) : Bool :=
  (!a || isT a u) && (!b || isT b v) && (mayPass u v || (apart2 a b u v && ((isT a u && isT b v) || (isT a u && isP v) || (isP u && isT b v))))
/-- Parts of one answer. -/
def extPair (a b : Bool) (u v : VI) : Bool := !a && !b && isNil' u.th && isNil' v.th && (match u.op, v.op, u.dst, v.dst, u.guard, v.guard with
  | .ext j _ i, .ext l _ k, some d, some c, none, none => Nat.beq j l && !Nat.beq i k && !Nat.beq d c && !Nat.beq d j && !Nat.beq c j
  | _, _, _, _, _, _ => false)
def passN (a b : Bool) (u v : VI) : Bool := passE a b u v || extPair a b u v || (!kS b v && passH a b u v)
/-- What an operation waits for, in every mode, through others too. -/
def ancOf (tab : List (Nat × List Nat)) : List Edge → List Nat
  | [] => []
  | e :: r => match wideGround e.ground with
    | true => unionN (e.on :: (match get tab e.on with | some l => l | none => [])) (ancOf tab r)
    | false => ancOf tab r
def ancTab (ops : Array Oper) : List Nat → List (Nat × List Nat) → List (Nat × List Nat)
  | [], tab => tab
  | i :: l, tab => ancTab ops l ((i, match ops[i]? with | some o => ancOf tab o.after.toList | none => []) :: tab)
/-- Edges that bind in the order of the text, and in the compiler's. -/
def txG : Ground → Bool
  | .gcOnly _ => false
  | _ => true
def gcG : Ground → Bool
  | .textOnly _ => false
  | _ => true
def chkEach (P : Program) (n : Nat) (ops : Array Oper) (k : Nat) : Nat → List VI → List Oper → Bool
  | _, [], [] => true
  | i, v :: vs, o :: os => chkVI P n ops v o && (o.after.toList.all fun e => Nat.blt e.on k && (!txG e.ground || Nat.blt e.on i)) && chkEach P n ops k (i + 1) vs os
  | _, _, _ => false
def dep (anc : List (Nat × List Nat)) (k i : Nat) : Bool := match get anc k with | some l => memN i l | none => false
/-- Does every other instruction leave a slot alone, but for those that wait for it? -/
def freeOf (anc : List (Nat × List Nat)) (d : Nat) (l : List Nat) (i : Nat) : Nat → List VI → Bool
  | _, [] => true
  | k, v :: r => (Nat.beq k i || dep anc k i || (match footW v with
    | some (_, M) => !memN d M && (dep anc i k || apartN l M)
    | none => false)) && freeOf anc d l i (k + 1) r
/-- What it is made of. -/
def lateR (v : VI) : List Nat := match v.op with
  | .mkslice _ l c => slotsOf [l, c]
  | _ => []
def isLate (anc : List (Nat × List Nat)) (vs : List VI) (i : Nat) : Bool := match vs[i]? with
  | some v => (match lateDst v with
    | some d => freeOf anc d (lateR v) i 0 vs && (match get anc i with
      | some l => l.all (fun j => match vs[j]? with
        | some u => (match lateDst u with
          | some _ => false
          | none => true)
        | none => true)
      | none => true)
    | none => false)
  | none => false
def allDep (anc : List (Nat × List Nat)) (i j : Nat) : Nat → Bool
  | 0 => true
  | k + 1 => (!dep anc k i || dep anc k j) && allDep anc i j k
def passAll (anc : List (Nat × List Nat)) (nr : List Nat) (vs : List VI) (j : Nat) : List Nat → Bool
  | [] => true
  | i :: r => (dep anc i j || (match vs[j]?, vs[i]? with | some u, some v => passN (memN j nr) (memN i nr) u v | _, _ => false) || (isLate anc vs i && allDep anc i j vs.length && !dep anc j i)) && passAll anc nr vs j r
/-- Does an operation wait for none of these? -/
def noWait (ops : Array Oper) (j : Nat) (l : List Nat) : Bool := match ops[j]? with
  | some o => o.after.toList.all fun e => !gcG e.ground || !memN e.on l
  | none => false
def chkPerm (ops : Array Oper) (anc : List (Nat × List Nat)) (nr : List Nat) (vs : List VI) : List Nat → Bool
  | [] => true
  | j :: r => passAll anc nr vs j r && !memN j r && Nat.blt j vs.length && chkPerm ops anc nr vs r
def chkGc (ops : Array Oper) : List Nat → Bool
  | [] => true
  | j :: r => noWait ops j (j :: r) && chkGc ops r
def allIn (l : List Nat) : Nat → Bool
  | 0 => true
  | n + 1 => memN n l && allIn l n
def chkNr (vs : List VI) : List Nat → Bool
  | [] => true
  | i :: r => (match vs[i]? with | some v => !nkRead v || isQ v | none => true) && chkNr vs r
def chkDrawP (P : Program) (n : Nat) (ops : Array Oper) (perm gco nr : List Nat) (vs : List VI) : Bool :=
  chkEach P n ops vs.length 0 vs ops.toList && chkNr vs nr && allIn gco vs.length && chkGc ops gco && allIn perm vs.length && chkPerm ops (ancTab ops perm []) nr vs perm

/-! ### What belongs to what -/
def ghosts : VC → Bool
  | .reg _ ops => ops.all isGhost
  | .seq a b => ghosts a && ghosts b
  | _ => false
inductive Mt (P : Program) (n : Nat) : VC → Code → Prop
  | ghostL {a b : VC} {c : Code} : ghosts a = true → Mt P n b c → Mt P n (.seq a b) c
  | ghostR {a b : VC} {c : Code} : ghosts b = true → Mt P n a c → Mt P n (.seq a b) c
  | seq {a b : VC} {c d : Code} : Mt P n a c → Mt P n b d → Mt P n (.seq a b) (.seq c d)
  | skip : Mt P n .skip .skip
  | reg {ops : List VI} {id : Nat} {os : Array Oper} : chkOps P n os ops os.toList = true → Mt P n (.reg false ops) (.region id os false)
  | draw {ops : List VI} {id : Nat} {os : Array Oper} : chkDraws P n os [] ops os.toList = true → Mt P n (.reg true ops) (.region id os true)
  | drawP {perm gco nr : List Nat} {ops : List VI} {id : Nat} {os : Array Oper} : chkDrawP P n os perm gco nr ops = true → Mt P n (.regP perm gco nr ops) (.region id os true)
  | cond {r : Rd} {o : Operand} {a b : VC} {c d : Code} : chkRd r o = true → Mt P n a c → Mt P n b d → Mt P n (.cond r a b) (.cond o c d)
  | block {id : Nat} {a : VC} {c : Code} : Mt P n a c → Mt P n (.block id a) (.block id c)
  | loop {a : VC} {c : Code} : Mt P n a c → Mt P n (.loop a) (.loop c)
  | rangeF {r : Rd} {o : Operand} {ps : List Nat} {qs : Array Nat} {a b : VC} {c d : Code} : chkRd r o = true → qs = ps.toArray → (∀ p ∈ ps, p < n) → Mt P n a c → Mt P n b d → Mt P n (.rangeF r ps a b) (.rangeFunc o qs c d)
  | exit {id : Nat} : Mt P n (.exit id) (.exit id)
  | scope {a : VC} {c : Code} : Mt P n a c → Mt P n (.scope a) (.scope c)
  | label {l : Nat} : Mt P n (.label l) (.label l)
  | goto {l : Nat} : Mt P n (.goto l) (.goto l)
  | ret : Mt P n .ret .ret
def eqNats : List Nat → List Nat → Bool
  | [], [] => true
  | a :: r, b :: s => Nat.beq a b && eqNats r s
  | _, _ => false
theorem eqNats_eq : ∀ {a b : List Nat}, eqNats a b = true → a = b
  | [], [], _ => rfl
  | a :: r, b :: s, h => by
    simp only [eqNats, Bool.and_eq_true, Nat.beq_eq] at h
    rw [h.1, eqNats_eq h.2]
  | [], _ :: _, h => by simp [eqNats] at h
  | _ :: _, [], h => by simp [eqNats] at h
def ltAll (n : Nat) : List Nat → Bool
  | [] => true
  | a :: r => Nat.blt a n && ltAll n r
theorem ltAll_mem {n : Nat} : ∀ {l : List Nat}, ltAll n l = true → ∀ p ∈ l, p < n
  | [], _, p, hp => by simp at hp
  | a :: r, h, p, hp => by
    simp only [ltAll, Bool.and_eq_true, Nat.blt_eq] at h
    rcases List.mem_cons.1 hp with rfl | hp
    · exact h.1
    · exact ltAll_mem h.2 p hp
def chkC (P : Program) (n : Nat) : VC → Code → Bool
  | .seq a b, c => (ghosts a && chkC P n b c) || (ghosts b && chkC P n a c) || (match c with
    | .seq x y => chkC P n a x && chkC P n b y
    | _ => false)
  | .skip, .skip => true
  | .reg d ops, .region _ os d' => (!d && !d' && chkOps P n os ops os.toList) || (d && d' && chkDraws P n os [] ops os.toList)
  | .regP perm gco nr ops, .region _ os d' => d' && chkDrawP P n os perm gco nr ops
  | .cond r a b, .cond o x y => chkRd r o && chkC P n a x && chkC P n b y
  | .block i a, .block j x => Nat.beq i j && chkC P n a x
  | .loop a, .loop x => chkC P n a x
  | .rangeF r ps a b, .rangeFunc o qs x y => chkRd r o && eqNats ps qs.toList && ltAll n ps && chkC P n a x && chkC P n b y
  | .exit i, .exit j => Nat.beq i j
  | .scope a, .scope x => chkC P n a x
  | .label i, .label j => Nat.beq i j
  | .goto i, .goto j => Nat.beq i j
  | .ret, .ret => true
  | _, _ => false
theorem mt_of_chk {P : Program} {n : Nat} : ∀ (v : VC) (c : Code), chkC P n v c = true → Mt P n v c
  | .seq a b, c, h => by
    simp only [chkC, Bool.or_eq_true, Bool.and_eq_true] at h
    rcases h with (⟨h1, h2⟩ | ⟨h1, h2⟩) | h
    · exact .ghostL h1 (mt_of_chk b c h2)
    · exact .ghostR h1 (mt_of_chk a c h2)
    · cases c <;> simp only [Bool.and_eq_true, Bool.false_eq_true] at h
      exact .seq (mt_of_chk a _ h.1) (mt_of_chk b _ h.2)
  | .skip, c, h => by cases c <;> simp_all [chkC]; exact .skip
  | .reg d ops, c, h => by
    cases c <;> simp only [chkC, Bool.or_eq_true, Bool.and_eq_true, Bool.not_eq_true', Bool.false_eq_true] at h
    rcases h with ⟨⟨h1, h2⟩, h⟩ | ⟨⟨h1, h2⟩, h⟩
    · subst h1 h2; exact .reg h
    · subst h1 h2; exact .draw h
  | .regP perm gco nr ops, c, h => by
    cases c <;> simp only [chkC, Bool.and_eq_true, Bool.false_eq_true] at h
    obtain ⟨h1, h⟩ := h
    subst h1; exact .drawP h
  | .cond r a b, c, h => by
    cases c <;> simp [chkC] at h
    exact .cond h.1.1 (mt_of_chk a _ h.1.2) (mt_of_chk b _ h.2)
  | .block i a, c, h => by
    cases c <;> simp only [chkC, Bool.and_eq_true, Bool.false_eq_true] at h
    obtain ⟨h1, h2⟩ := h
    rw [Nat.beq_eq] at h1; subst h1
    exact .block (mt_of_chk a _ h2)
  | .loop a, c, h => by
    cases c <;> simp only [chkC, Bool.false_eq_true] at h
    exact .loop (mt_of_chk a _ h)
  | .exit i, c, h => by
    cases c <;> simp only [chkC, Bool.false_eq_true] at h
    rw [Nat.beq_eq] at h; subst h; exact .exit
  | .scope a, c, h => by
    cases c <;> simp only [chkC, Bool.false_eq_true] at h
    exact .scope (mt_of_chk a _ h)
  | .label i, c, h => by
    cases c <;> simp only [chkC, Bool.false_eq_true] at h
    rw [Nat.beq_eq] at h; subst h; exact .label
  | .goto i, c, h => by
    cases c <;> simp only [chkC, Bool.false_eq_true] at h
    rw [Nat.beq_eq] at h; subst h; exact .goto
  | .ret, c, h => by cases c <;> simp [chkC] at h; exact .ret
  | .rangeF r ps a b, c, h => by
    cases c <;> simp only [chkC, Bool.and_eq_true, Bool.false_eq_true] at h
    obtain ⟨⟨⟨⟨h1, h2⟩, h3⟩, h4⟩, h5⟩ := h
    have h2 := eqNats_eq h2
    exact .rangeF h1 (by rw [h2]) (ltAll_mem h3) (mt_of_chk a _ h4) (mt_of_chk b _ h5)
  | .inScope _ _, c, h => by cases c <;> simp [chkC] at h
  | .clone _, c, h => by cases c <;> simp [chkC] at h
  | .late _ _ _ _, c, h => by cases c <;> simp [chkC] at h

def chkRes (P : Program) : List VRes → List ResultVar → Bool
  | [], [] => true
  | .tmp i :: r, .tmp j :: s => Nat.beq i j && chkRes P r s
  | .cell i n :: r, .cell j ty :: s => Nat.beq i j && tyCell P ty n && chkRes P r s
  | _, _ => false
/-! ### slices.Clone, which asks whether its argument is nil -/
def opIs (o : Oper) (d : Nat) : Bool := (match o.dst with | some e => Nat.beq d e | none => false) && o.guard.isNone
def isNilC : Operand → Bool
  | .const (.slice none 0 0) => true
  | _ => false
def isTmp (i : Nat) : Operand → Bool
  | .tmp j => Nat.beq i j
  | _ => false
def clone1 (d : Nat) : List Oper → Bool
  | [o] => opIs o d && (match o.op with | .assign x => isNilC x | _ => false)
  | _ => false
def clone2 (P : Program) (m : Nat) : List Oper → Bool
  | [a, b] => opIs a 3 && (match a.op with | .move x => isTmp 0 x | _ => false) && opIs b 4 &&
      (match b.op with | .binOp .eql T x y _ => tySlice P T m && isTmp 3 x && isNilC y | _ => false)
  | _ => false
def clone3 (P : Program) (m : Nat) : List Oper → Bool
  | [a, b, c, d] => opIs a 5 && (match a.op with | .buildSlice T 0 ps => tySlice P T m && ps.isEmpty | _ => false) && opIs b 6 && (match b.op with | .move x => isTmp 0 x | _ => false) && opIs c 7 &&
      (match c.op with
        | .call k => bEq (calleeB k.callee) (some .append) && isTwo k && tySlice P (ty0 k) m && tyElemZeroLen P (ty0 k) m && (match P.underlying (k.argTypes.getD 1 0) with | some (.slice _) => true | _ => false) &&
            (match k.args.toList with | [x, y] => isTmp 5 x && isTmp 6 y | _ => false)
        | _ => false) && opIs d 2 && (match d.op with | .assign x => isTmp 7 x | _ => false)
  | _ => false
def chkClone (P : Program) (m : Nat) : Code → Bool
  | .seq (.region _ r0 false) (.seq (.seq (.region _ r1 false) (.cond (.tmp 4) (.seq (.region _ r2 false) .ret) .skip)) (.seq (.region _ r3 false) .ret)) =>
    clone1 2 r0.toList && clone2 P m r1.toList && clone1 2 r2.toList && clone3 P m r3.toList
  | _ => false
def chkCloneFn (P : Program) (m : Nat) (vf : VFunc) (f : FuncId) : Bool := match P.funcs[f]? with
  | some fn => match fn.body with
    | some c => (match vf.body with | .clone k => Nat.beq k m | _ => false) && (match vf.results with | [.tmp 2] => true | _ => false) && chkRes P vf.results fn.results.toList && Nat.beq vf.nparams 1 && Nat.ble 8 fn.ntmps && chkClone P m c && (fn.name != "runtime.NumGoroutine")
    | none => false
  | none => false
/-! ### A body that begins with a deferred call -/
def chkLate (P : Program) (n i d f : Nat) (a : VC) : Code → Bool
  | .seq (.region _ os false) rest => (match os.toList with
    | [m, k] => opIs m d && (match m.op with | .move x => isTmp i x | _ => false) && k.dst.isNone && k.guard.isNone &&
        (match k.op with
          | .defer c => (match calleeFn c.callee with | some g => Nat.beq f g | none => false) && (match c.args.toList with | [x] => isTmp d x | _ => false)
          | _ => false)
    | _ => false) && Nat.blt d n && chkC P n a rest
  | _ => false
def chkLateFn (P : Program) (i d f : Nat) (a : VC) (vf : VFunc) (k : FuncId) : Bool := match P.funcs[k]? with
  | some fn => match fn.body with
    | some c => chkLate P fn.ntmps i d f a c && Nat.ble vf.nparams fn.ntmps && chkRes P vf.results fn.results.toList && (fn.name != "runtime.NumGoroutine")
    | none => false
  | none => false

/-! ### Functions -/
/-- A function's annotated code belongs to it. -/
structure FnOK (P : Program) (vf : VFunc) (fn : Func) (c : Code) : Prop where
  body : Mt P fn.ntmps vf.body c
  np : vf.nparams ≤ fn.ntmps
  res : chkRes P vf.results fn.results.toList = true
def chkFn (P : Program) (vf : VFunc) (f : FuncId) : Bool := match P.funcs[f]? with
  | some fn => match fn.body with
    | some c => chkC P fn.ntmps vf.body c && Nat.ble vf.nparams fn.ntmps && chkRes P vf.results fn.results.toList && (fn.name != "runtime.NumGoroutine")
    | none => false
  | none => false
end Go.Vm

/-
  A STATE OF THE INTERPRETER AND A STATE OF THE MODEL's; how operands are read.
-/
namespace Go.Vm

/-- Where a round that ended otherwise goes. -/
def outCode : Out → Option Code
  | .normal => none
  | .exit i => some (.exit i)
  | .goto l => some (.goto l)
  | .ret => some .ret
abbrev REnv (g : Gh) (w : World) (e : Env) (t : Array Value) (O : Nat → Nat) : Prop :=
  RL (fun k v O => k < t.size ∧ RV g w v (t.getD k undef) O) e O

def RObj (P : Program) (g : Gh) (w : World) (id : Nat) : Obj → (Nat → Nat) → Prop
  | .cells cs, O => ∃ b c el O1, g.obj id = some b ∧ g.base id = 0 ∧ g.esz id = 1 ∧ g.bsz id = cs.length ∧
      w.heap[b]? = some (.cells c el (0, 0)) ∧ RVs g w cs c.toList O1 ∧ (∀ o, ¬ g.pm b o) ∧ ∀ x, O x = O1 x + one b x
  | .arr m xs, O => (xs = [] ∧ g.bsz id = 0 ∧ g.esz id = m ∧ 0 < m ∧ (∃ b, g.obj id = some b) ∧ ∀ b, O b = 0) ∨
      ∃ b c el, g.obj id = some b ∧ g.esz id = m ∧ 0 < m ∧ w.heap[b]? = some (.cells c el (0, 0)) ∧ g.bsz id ≤ c.size ∧
        g.base id + xs.length * m ≤ g.bsz id ∧ (∀ e ∈ xs, e.length = m) ∧ RCs w g.pm xs.flatten b (g.base id) ∧ (∀ o, ¬ g.pm b o) ∧ ∀ x, O x = one b x
  | .loop snap params assign body busy pend, O => ∃ b, ∃ rc : Go.Loop, g.obj id = some b ∧ w.heap[b]? = some (.loop rc) ∧
      rc.state = (if busy then .busy else if pend.isNone then .ready else .done) ∧ rc.pending = pend.bind outCode ∧ rc.params = params.toArray ∧
      Mt P rc.tmps.size assign rc.assign ∧ Mt P rc.tmps.size body rc.body ∧ Srt snap ∧ REnv g w snap rc.tmps zero ∧ (∀ p ∈ params, p < rc.tmps.size) ∧
      ∀ x, O x = one b x
abbrev RHeap (P : Program) (g : Gh) (w : World) (h : Heap) (O : Nat → Nat) : Prop := RL (RObj P g w) h O

structure S (P : Program) (g : Gh) (w : World) (st : St) (t : Array Value) (O : Nat → Nat) : Prop where
  se : Srt st.env
  sh : Srt st.hs.heap
  parts : ∃ Oe Oh, REnv g w st.env t Oe ∧ RHeap P g w st.hs.heap Oh ∧ ∀ b, O b = Oe b + Oh b
  le : ∀ b, O b ≤ 1
  hi : ∀ b, O b ≠ 0 → b < w.heap.size
  fresh : ∀ id, st.hs.next ≤ id → g.obj id = none
  pmlt : ∀ b o, g.pm b o → b < w.heap.size

/-- An operand's value. -/
def ev (t : Array Value) : Operand → Value
  | .tmp i => t.getD i undef
  | .const v => v
  | .global g => .pointer (some ⟨g, 0, none⟩)
  | .func f => .func (.func f) #[] #[]

theorem kindEq_eq {a b : IntKind} (h : kindEq a b = true) : a = b := by
  cases a <;> cases b <;> first | rfl | (simp [kindEq] at h)

theorem RD.const {w : World} {pm : Nat → Nat → Prop} {c : D} {v : Value} (h : okD c v = true) : RD w pm c v := by
  unfold okD at h
  split at h
  · simp only [Bool.and_eq_true, decide_eq_true_eq] at h
    obtain ⟨h1, rfl⟩ := h
    rw [kindEq_eq h1]; exact .int _ _
  · simp only [beq_iff_eq] at h; subst h; exact .bool _
  · rename_i s t
    simp only [beq_iff_eq] at h; subst h
    have := RD.str (w := w) (pm := pm) t.data.toList
    simpa using this
  · exact .nil _ _
  · simp at h
theorem RV.const1 {g : Gh} {w : World} {c : AV} {v : Value} (h : okConst1 c v = true) : RV g w c v zero := by
  unfold okConst1 at h
  split at h
  · simp at h
  · rename_i x y hx
    simp only [RV]; exact ⟨.const h, fun _ => trivial⟩
  · simp [RV]
  · simp [RV]
  · simp [RV]
  · simp at h
theorem RVs.consts {g : Gh} {w : World} : ∀ {cs : List AV} {vs : List Value}, okConsts cs vs = true → RVs g w cs vs zero
  | [], [], _ => by simp only [RVs]; exact ⟨trivial, fun _ => trivial⟩
  | c :: cs, v :: vs, h => by
    simp only [okConsts, Bool.and_eq_true] at h
    simp only [RVs]
    exact ⟨v, vs, zero, zero, rfl, .const1 h.1, RVs.consts h.2, fun _ => rfl⟩
  | [], _ :: _, h => by simp [okConsts] at h
  | _ :: _, [], h => by simp [okConsts] at h
theorem RV.const {g : Gh} {w : World} {c : AV} {v : Value} (h : okConst c v = true) : RV g w c v zero := by
  unfold okConst at h
  split at h
  · simp only [RV]; exact ⟨_, rfl, RVs.consts h⟩
  · exact .const1 h

section
variable {P : Program} {g : Gh} {w : World} {t : Array Value} {O : Nat → Nat}
/-- Part of what is owned is put aside: what is left is a state still. -/
theorem S.of_env {st : St} (s : S P g w st t O) {Oe Oh O' : Nat → Nat} {e' : Env} (re : REnv g w e' t Oe) (rh : RHeap P g w st.hs.heap Oh) (hse : Srt e')
    (ho : ∀ b, O' b = Oe b + Oh b) (hle : ∀ b, O' b ≤ O b) : S P g w ⟨e', st.hs⟩ t O' :=
  ⟨hse, s.sh, ⟨Oe, Oh, re, rh, ho⟩, fun b => Nat.le_trans (hle b) (s.le b), fun b hb => s.hi b (by have := hle b; omega), s.fresh, s.pmlt⟩

theorem S.rd {st : St} (s : S P g w st t O) {r : Rd} {o : Operand} (hc : chkRd r o = true) {v : AV} {e' : Env} (h : rd st.env r = some (v, e')) :
    ∃ Ov O', RV g w v (ev t o) Ov ∧ S P g w ⟨e', st.hs⟩ t O' ∧ ∀ b, Ov b + O' b ≤ O b := by
  obtain ⟨Oe, Oh, re, rh, ho⟩ := s.parts
  cases r with
  | c c =>
    simp only [Vm.rd, Option.some.injEq, Prod.mk.injEq] at h
    obtain ⟨rfl, rfl⟩ := h
    refine ⟨zero, O, ?_, s, fun b => by simp⟩
    cases o with
    | const x => simp only [chkRd] at hc; exact .const hc
    | func f =>
      cases c <;> try (simp [chkRd] at hc; done)
      rename_i f' a c
      cases a <;> try (simp [chkRd] at hc; done)
      cases c <;> try (simp [chkRd] at hc; done)
      simp only [chkRd, Nat.beq_eq] at hc
      subst hc
      simp only [RV, ev]
      exact ⟨⟨#[], #[], rfl, by simp [RVs], by simp [RVs]⟩, fun _ => trivial⟩
    | tmp i => simp [chkRd] at hc
    | global i => simp [chkRd] at hc
  | s i =>
    cases o <;> try (simp [chkRd] at hc; done)
    rename_i j
    simp only [chkRd, Nat.beq_eq] at hc
    subst hc
    simp only [Vm.rd] at h
    cases hg : get st.env i with
    | none => simp [hg] at h
    | some u =>
      simp only [hg, Option.some.injEq, Prod.mk.injEq] at h
      obtain ⟨rfl, rfl⟩ := h
      obtain ⟨O1, ⟨_, q⟩, hq⟩ := RL.get re hg
      exact ⟨zero, O, RV.share u _ O1 q, s, fun b => by simp⟩
  | m i =>
    cases o <;> try (simp [chkRd] at hc; done)
    rename_i j
    simp only [chkRd, Nat.beq_eq] at hc
    subst hc
    simp only [Vm.rd] at h
    cases hg : get st.env i with
    | none => simp [hg] at h
    | some u =>
      simp only [hg, Option.some.injEq, Prod.mk.injEq] at h
      obtain ⟨rfl, rfl⟩ := h
      obtain ⟨O1, O2, ⟨_, q⟩, r2, hs⟩ := RL.take re hg
      refine ⟨O1, fun b => O2 b + Oh b, q, s.of_env r2 rh (s.se.del i) (fun _ => rfl) (fun b => ?_), fun b => ?_⟩
      · have := hs b; have := ho b; show O2 b + Oh b ≤ O b; omega
      · have := hs b; have := ho b; show O1 b + (O2 b + Oh b) ≤ O b; omega

theorem S.rdAll {st : St} {rs : List Rd} {os : List Operand} (hc : chkRds rs os = true) {vs : List AV} {e' : Env} (s : S P g w st t O) (h : rdAll st.env rs = some (vs, e')) :
    ∃ Ov O', RVs g w vs (os.map (ev t)) Ov ∧ S P g w ⟨e', st.hs⟩ t O' ∧ ∀ b, Ov b + O' b ≤ O b := by
  induction rs generalizing os vs st O with
  | nil =>
    cases os <;> simp [chkRds] at hc
    simp only [Vm.rdAll, Option.some.injEq, Prod.mk.injEq] at h
    obtain ⟨rfl, rfl⟩ := h
    exact ⟨zero, O, by simp [RVs], s, fun b => by simp⟩
  | cons r rs ih =>
    cases os with
    | nil => simp [chkRds] at hc
    | cons o os =>
      simp only [chkRds, Bool.and_eq_true] at hc
      simp only [Vm.rdAll] at h
      cases h1 : Vm.rd st.env r with
      | none => simp [h1] at h
      | some p =>
        obtain ⟨v, e1⟩ := p
        simp only [h1] at h
        cases h2 : Vm.rdAll e1 rs with
        | none => simp [h2] at h
        | some p =>
          obtain ⟨us, e2⟩ := p
          simp only [h2, Option.some.injEq, Prod.mk.injEq] at h
          obtain ⟨rfl, rfl⟩ := h
          obtain ⟨O1, O2, rv, s2, l2⟩ := s.rd hc.1 h1
          obtain ⟨O3, O4, rvs, s4, l4⟩ := ih (st := ⟨e1, st.hs⟩) hc.2 s2 h2
          refine ⟨fun b => O1 b + O3 b, O4, ?_, s4, fun b => ?_⟩
          · simp only [RVs, List.map_cons]
            exact ⟨_, _, O1, O3, rfl, rv, rvs, fun _ => rfl⟩
          · have := l2 b; have := l4 b; show O1 b + O3 b + O4 b ≤ O b; omega
end
end Go.Vm

end
