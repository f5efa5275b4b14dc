import Derived.Test.YtpehaphefijlkaaVmA
import Derived.Laws.Cells
set_option linter.unusedVariables false
set_option linter.unusedSimpArgs false
noncomputable section
/-
  SINGLE OPERATIONS (1): those that neither read nor write variables.
-/
namespace Go.Vm

structure OpOK (P : Program) (g : Gh) (w : World) (t : Array Value) (O : Nat → Nat) (st' : St) (a : AV) (res : Result Next) (x : Value) (w' : World) (g' : Gh) (Oa O' : Nat → Nat) : Prop where
  run : res = .ok (.value x) w' ∨ (res = .ok .skip w' ∧ x = undef)
  val : RV g' w' a x Oa
  st : S P g' w' st' t O'
  ext : Ext g w g' w' fun b => O b ≠ 0
  le : ∀ b, Oa b + O' b ≤ 1
  old : ∀ b, b < w.heap.size → Oa b + O' b ≤ O b
  hi : ∀ b, Oa b ≠ 0 → b < w'.heap.size
def Op1 (P : Program) (g : Gh) (w : World) (t : Array Value) (O : Nat → Nat) (st' : St) (a : AV) (res : Result Next) : Prop :=
  ∃ x w' g' Oa O', OpOK P g w t O st' a res x w' g' Oa O'

section
variable {P : Program} {g : Gh} {w : World} {t : Array Value} {O : Nat → Nat} {st st' : St} {a : AV} {o : Oper}

theorem Op1.pure {res : Result Next} {x : Value} {Oa O' : Nat → Nat} (s0 : S P g w st t O) (h : res = .ok (.value x) w) (r : RV g w a x Oa)
    (s : S P g w st' t O') (hle : ∀ b, Oa b + O' b ≤ O b) : Op1 P g w t O st' a res :=
  ⟨x, w, g, Oa, O', .inl h, r, s, .refl _ _ _, fun b => Nat.le_trans (hle b) (s0.le b), fun b _ => hle b, fun b hb => s0.hi b (by have := hle b; omega)⟩
/-- A result that owns nothing. -/
theorem Op1.flat {res : Result Next} {x : Value} {O' : Nat → Nat} (s0 : S P g w st t O) (h : res = .ok (.value x) w) (r : RV g w a x zero)
    (s : S P g w st' t O') (hle : ∀ b, O' b ≤ O b) : Op1 P g w t O st' a res :=
  .pure s0 h r s fun b => by have := hle b; simp; exact this

theorem S.le_left {O' Ov : Nat → Nat} (h : ∀ b, Ov b + O' b ≤ O b) : ∀ b, O' b ≤ O b := fun b => by have := h b; omega

theorem rdp {e : Env} {r : Rd} {α : Type} {k : AV → Env → Option α} {y : α}
    (h : (match rd e r with | some (v, e) => k v e | none => none) = some y) : ∃ v e', rd e r = some (v, e') ∧ k v e' = some y := by
  cases h1 : rd e r with
  | none => simp [h1] at h
  | some p => obtain ⟨v, e'⟩ := p; exact ⟨v, e', rfl, by simpa [h1] using h⟩

theorem op_mov {x : Rd} (s : S P g w st t O) (h : opMov x st = some (a, st')) (hc : chkOp P (.mov x) o.op = true) :
    Op1 P g w t O st' a ((execOp (ev t) o).run P w) := by
  obtain ⟨v, e', h1, h2⟩ := rdp h
  simp only [Option.some.injEq, Prod.mk.injEq] at h2
  obtain ⟨rfl, rfl⟩ := h2
  obtain ⟨dst, op, ty, pos, aft, gd⟩ := o
  simp only [chkOp] at hc
  split at hc
  · obtain ⟨Ov, O', rv, s', l⟩ := s.rd hc h1
    exact .pure s (by simp [execOp]) rv s' l
  · obtain ⟨Ov, O', rv, s', l⟩ := s.rd hc h1
    exact .pure s (by simp [execOp]) rv s' l
  · rename_i c
    simp only [Bool.and_eq_true] at hc
    obtain ⟨⟨⟨hb, ha⟩, ht⟩, hx⟩ := hc
    cases x with
    | s i => simp at hx
    | m i => simp at hx
    | c y =>
      split at hx
      · rename_i n hy
        cases hu : P.underlying (ty0 c) with
        | none => simp [hu] at hx
        | some d =>
          cases d <;> simp [hu] at hx
          rename_i l e
          injection hy with hy
          subst hy
          subst hx
          simp only [Vm.rd, Option.some.injEq, Prod.mk.injEq] at h1
          obtain ⟨rfl, rfl⟩ := h1
          obtain ⟨callee, args, argTypes⟩ := c
          have hcal : callee = .builtin .len := by
            cases callee <;> simp [calleeB, bEq] at hb
            subst hb; rfl
          subst hcal
          have hty : argTypes[0]? = some (ty0 ⟨.builtin .len, args, argTypes⟩) := by
            simp only [ty0]
            have : 0 < argTypes.size := by simpa [Nat.blt_eq] using ht
            simp [Array.getD, this]
          have hargs : ∃ z, (args.map (ev t))[0]? = some z := by
            have : 0 < args.size := by simpa [Nat.blt_eq] using ha
            exact ⟨ev t args[0], by simp [this]⟩
          obtain ⟨z, hz⟩ := hargs
          refine .flat s (x := .int .i64 l) ?_ (by simp only [RV]; exact ⟨.int _ _, fun _ => trivial⟩) s (fun b => Nat.le_refl _)
          simp [execOp, resolve, invoke, builtin, Builtin.len_, hty, hz, underlying, hu, goInt]
      · simp at hx
  · simp at hc

theorem op_pick {c x y : Rd} (s : S P g w st t O) (h : opPick c x y st = some (a, st')) (hc : chkOp P (.pick c x y) o.op = true) :
    Op1 P g w t O st' a ((execOp (ev t) o).run P w) := by
  obtain ⟨dst, op, ty, pos, aft, gd⟩ := o
  simp only [chkOp] at hc
  split at hc
  · rename_i c' a' b'
    simp only [Bool.and_eq_true] at hc
    obtain ⟨⟨h1, h2⟩, h3⟩ := hc
    unfold opPick at h
    cases hr : rd st.env c with
    | none => simp [hr] at h
    | some p =>
      obtain ⟨v, e1⟩ := p
      obtain ⟨Ov, O1, rv, s1, l1⟩ := s.rd h1 hr
      simp only [hr] at h
      cases v <;> try (simp at h; done)
      rename_i d
      cases d <;> try (simp at h; done)
      rename_i tb
      simp only at h
      have hev : ev t c' = .bool tb := by
        simp only [RV] at rv; obtain ⟨rv, _⟩ := rv; generalize ev t c' = z at rv; cases rv; rfl
      obtain ⟨v, e2, h4, h5⟩ := rdp h
      simp only [Option.some.injEq, Prod.mk.injEq] at h5
      obtain ⟨rfl, rfl⟩ := h5
      cases tb with
      | true =>
        obtain ⟨Ov2, O2, rv2, s2, l2⟩ := s1.rd h2 h4
        exact .pure s (by simp [execOp, hev, asBool]) rv2 s2 fun b => by have := l1 b; have := l2 b; omega
      | false =>
        obtain ⟨Ov2, O2, rv2, s2, l2⟩ := s1.rd h3 h4
        exact .pure s (by simp [execOp, hev, asBool]) rv2 s2 fun b => by have := l1 b; have := l2 b; omega
  · simp at hc

theorem op_nilck {x : Rd} (s : S P g w st t O) (h : opNilck x st = some (a, st')) (hc : chkOp P (.nilck x) o.op = true) :
    Op1 P g w t O st' a ((execOp (ev t) o).run P w) := by
  obtain ⟨dst, op, ty, pos, aft, gd⟩ := o
  simp only [chkOp] at hc
  split at hc
  · rename_i y
    obtain ⟨v, e', h1, h2⟩ := rdp h
    obtain ⟨Ov, O', rv, s', l⟩ := s.rd hc h1
    cases v <;> simp only [Option.some.injEq, Prod.mk.injEq, reduceCtorEq] at h2
    all_goals
      obtain ⟨rfl, rfl⟩ := h2
      refine .pure s ?_ rv s' l
      simp only [RV] at rv
    · obtain ⟨⟨b, _, e⟩, _⟩ := rv; simp [execOp, e]
    · obtain ⟨⟨b, _, e⟩, _⟩ := rv; simp [execOp, e]
    · obtain ⟨⟨b, o, e, _⟩, _⟩ := rv; simp [execOp, e]
    · obtain ⟨⟨xs, ys, e, _⟩, _⟩ := rv; simp [execOp, e]
    · obtain ⟨⟨b, _, e⟩, _⟩ := rv; simp [execOp, e]
  · simp at hc

/-! ### Numbers -/
theorem wrap_in {k : IntKind} {n : Int} (h1 : k.min ≤ n) (h2 : n ≤ k.max) : k.wrap n = n := by
  cases k <;> simp [IntKind.min, IntKind.max, IntKind.signed, IntKind.bits] at h1 h2 <;>
    simp [IntKind.wrap, IntKind.bits, IntKind.signed] <;>
    first | omega | (split <;> omega)
theorem wr_eq (k : IntKind) (n : Int) : wr k n = k.wrap n := by
  have H : ∀ lo hi : Int, lo = k.min → hi = k.max → wrapTo lo hi k n = k.wrap n := by
    intro lo hi e1 e2
    unfold wrapTo
    split
    · rename_i h
      simp only [Bool.and_eq_true, decide_eq_true_eq] at h
      exact (wrap_in (by omega) (by omega)).symm
    · rfl
  cases k <;> first | rfl | exact H _ _ (by decide) (by decide)

theorem ev_int {v : AV} {x : Value} {Ov : Nat → Nat} {k : IntKind} {n : Int} (r : RV g w v x Ov) (h : v = .d (.int k n)) : x = .int k n := by
  subst h; simp only [RV] at r; cases r.1; rfl

theorem op_conv {k : IntKind} {x : Rd} (s : S P g w st t O) (h : opConv k x st = some (a, st')) (hc : chkOp P (.conv k x) o.op = true) :
    Op1 P g w t O st' a ((execOp (ev t) o).run P w) := by
  obtain ⟨dst, op, ty, pos, aft, gd⟩ := o
  simp only [chkOp] at hc
  split at hc
  · rename_i src ds y
    simp only [Bool.and_eq_true] at hc
    obtain ⟨⟨h1, h2⟩, h3⟩ := hc
    unfold opConv at h
    cases hr : rd st.env x with
    | none => simp [hr] at h
    | some p =>
      obtain ⟨v, e1⟩ := p
      obtain ⟨Ov, O1, rv, s1, l1⟩ := s.rd h3 hr
      simp only [hr] at h
      cases v <;> try (simp at h; done)
      rename_i d
      cases d <;> try (simp at h; done)
      rename_i j n
      simp only [Option.some.injEq, Prod.mk.injEq] at h
      obtain ⟨rfl, rfl⟩ := h
      have hx := ev_int rv rfl
      simp only [tyIntK] at h1
      simp only [tyInt] at h2
      cases hd : P.underlying ds with
      | none => simp [hd] at h1
      | some dd =>
        cases dd <;> simp [hd] at h1
        have := kindEq_eq h1
        subst this
        cases hs : P.underlying src with
        | none => simp [hs] at h2
        | some sd =>
          cases sd <;> simp [hs] at h2
          refine .flat s (x := .int _ (IntKind.wrap _ n)) ?_ (by simp only [RV]; exact ⟨by rw [wr_eq]; exact .int _ _, fun _ => trivial⟩) s1 (S.le_left l1)
          simp [execOp, convert, hx, underlying, hd, hs, Conv.intToInt]
  · simp at hc
end
end Go.Vm

/-
  SINGLE OPERATIONS (2): numbers, bools, lengths, addresses, closures.
-/
namespace Go.Vm

section
variable {P : Program} {g : Gh} {w : World} {t : Array Value} {O : Nat → Nat} {st st' : St} {a : AV} {o : Oper}

theorem ev_bool {v : AV} {x : Value} {Ov : Nat → Nat} {b : Bool} (r : RV g w v x Ov) (h : v = .d (.bool b)) : x = .bool b := by
  subst h; simp only [RV] at r; obtain ⟨r, _⟩ := r; cases r; rfl
theorem ev_str {v : AV} {x : Value} {Ov : Nat → Nat} {s : List UInt8} (r : RV g w v x Ov) (h : v = .d (.str s)) : x = .string ⟨s.toArray⟩ := by
  subst h; simp only [RV] at r; obtain ⟨r, _⟩ := r; cases r; rfl

theorem rv_int (k : IntKind) (n : Int) : RV g w (.d (.int k n)) (.int k n) zero := by simp only [RV]; exact ⟨.int _ _, fun _ => trivial⟩
theorem rv_bool (b : Bool) : RV g w (.d (.bool b)) (.bool b) zero := by simp only [RV]; exact ⟨.bool _, fun _ => trivial⟩

/-- Two operands. -/
theorem rd2 {x y : Rd} {x' y' : Operand} (s : S P g w st t O) (hx : chkRd x x' = true) (hy : chkRd y y' = true) {β : Type} {k : AV → AV → Env → Option β} {r : β}
    (h : (match rd st.env x with
      | some (a, e) => (match rd e y with
        | some (b, e) => k a b e
        | none => none)
      | none => none) = some r) :
    ∃ a b e Oa Ob O', RV g w a (ev t x') Oa ∧ RV g w b (ev t y') Ob ∧ S P g w ⟨e, st.hs⟩ t O' ∧ (∀ c, Oa c + Ob c + O' c ≤ O c) ∧ k a b e = some r := by
  obtain ⟨a, e1, h1, h2⟩ := rdp h
  obtain ⟨b, e2, h3, h4⟩ := rdp h2
  obtain ⟨Oa, O1, ra, s1, l1⟩ := s.rd hx h1
  obtain ⟨Ob, O2, rb, s2, l2⟩ := s1.rd hy h3
  exact ⟨a, b, e2, Oa, Ob, O2, ra, rb, s2, fun c => by have := l1 c; have := l2 c; omega, h4⟩

theorem run_eqGuard_int (op : BinOp) (ty : TypeId) (x y : Operand) (k j : IntKind) (m n : Int) : (eqGuard op ty x y (.int k m) (.int j n)).run P w = .ok () w := by
  unfold eqGuard; split <;> simp
theorem run_eqGuard_bool (op : BinOp) (ty : TypeId) (x y : Operand) (m n : Bool) : (eqGuard op ty x y (.bool m) (.bool n)).run P w = .ok () w := by
  unfold eqGuard; split <;> simp
theorem run_eqGuard_str (op : BinOp) (ty : TypeId) (x y : Operand) (m n : ByteArray) : (eqGuard op ty x y (.string m) (.string n)).run P w = .ok () w := by
  unfold eqGuard; split <;> simp

theorem loop_eq (bs : ByteArray) : ∀ (n i : Nat) (r : List UInt8), bs.size - i = n → ByteArray.toList.loop bs i r = r.reverse ++ bs.data.toList.drop i := by
  intro n
  induction n with
  | zero =>
    intro i r h
    rw [ByteArray.toList.loop]
    have hi : ¬ i < bs.size := by omega
    have : bs.data.toList.length ≤ i := by show bs.size ≤ i; omega
    simp [hi, List.drop_eq_nil_of_le this]
  | succ n ih =>
    intro i r h
    have hi : i < bs.size := by omega
    rw [ByteArray.toList.loop]
    simp only [hi, if_true]
    rw [ih (i + 1) _ (by omega)]
    have hd : bs.data.toList.drop i = bs.get! i :: bs.data.toList.drop (i + 1) := by
      have hl : i < bs.data.toList.length := hi
      rw [List.drop_eq_getElem_cons hl]
      congr 1
      show _ = bs.data.get!Internal i
      have : bs.data.get!Internal i = bs.data[i]! := rfl
      rw [this, Array.getElem!_eq_getD]
      have hh : i < bs.data.size := hi
      simp [Array.getD]
      intro hge; exact absurd hh (Nat.not_lt.2 hge)
    rw [hd]
    simp
theorem bytes_toList (s : List UInt8) : (⟨s.toArray⟩ : ByteArray).toList = s := by
  unfold ByteArray.toList
  rw [loop_eq _ _ 0 [] rfl]
  simp
theorem run_shift {op : BinOp} {k j : IntKind} {m n : Int} {d : D} (h : shiftOf op k m n = some d) :
    ∃ x, (Op.shift op k m j n).run P w = .ok x w ∧ RD w g.pm d x := by
  unfold shiftOf at h
  split at h
  · simp at h
  · rename_i hn
    have hn' : ¬ n < 0 := by simpa using hn
    unfold Op.shift
    cases op <;> simp only [reduceCtorEq, Option.some.injEq] at h
    · subst h
      refine ⟨.int k (k.wrap (m * 2 ^ min n.toNat k.bits)), ?_, ?_⟩
      · simp [hn']
      · rw [wr_eq]; simp only [Int.natCast_pow, Int.cast_ofNat_Int]; exact .int _ _
    · subst h
      refine ⟨.int k (m.fdiv (2 ^ min n.toNat k.bits)), ?_, ?_⟩
      · simp [hn']
      · simp only [Int.natCast_pow, Int.cast_ofNat_Int]; exact .int _ _

theorem run_intOp {op : BinOp} (hs : op ≠ .shl) (hs' : op ≠ .shr) {ty : TypeId} {k : IntKind} {m n : Int} {d : D} (h : intOp op k m n = some d) :
    ∃ x, (binOp op ty (.int k m) (.int k n)).run P w = .ok x w ∧ RD w g.pm d x := by
  cases op <;> simp only [intOp, bitsOf, reduceCtorEq, Option.some.injEq] at h <;> (try exact absurd rfl hs) <;> (try exact absurd rfl hs')
  · subst h; rw [wr_eq]; exact ⟨_, by simp [binOp, Op.intArith], .int _ _⟩
  · subst h; rw [wr_eq]; exact ⟨_, by simp [binOp, Op.intArith], .int _ _⟩
  · subst h; rw [wr_eq]; exact ⟨_, by simp [binOp, Op.intArith], .int _ _⟩
  · split at h
    · simp at h
    · rename_i hn
      simp only [Option.some.injEq] at h
      subst h; rw [wr_eq]; exact ⟨_, by simp [binOp, Op.intDiv]; simp only [decide_eq_false_iff_not] at hn; simp [hn], .int _ _⟩
  · split at h
    · simp at h
    · rename_i hn
      simp only [Option.some.injEq] at h
      subst h; exact ⟨_, by simp [binOp, Op.intDiv]; simp only [decide_eq_false_iff_not] at hn; simp [hn], .int _ _⟩
  · subst h; exact ⟨_, by simp [binOp, Op.intBits], .int _ _⟩
  · subst h; exact ⟨_, by simp [binOp, Op.intBits], .int _ _⟩
  · subst h; exact ⟨_, by simp [binOp, Op.intBits], .int _ _⟩
  · subst h; exact ⟨_, by simp [binOp, Op.intBits], .int _ _⟩
  · subst h; exact ⟨_, by simp [binOp, Op.intCmp]; rfl, by exact .bool _⟩
  · subst h; exact ⟨_, by simp [binOp, Op.intCmp]; rfl, by exact .bool _⟩
  · subst h; exact ⟨_, by simp [binOp, Op.intCmp]; rfl, by exact .bool _⟩
  · subst h; exact ⟨_, by simp [binOp, Op.intCmp]; rfl, by exact .bool _⟩
  · subst h; exact ⟨_, by simp [binOp, Op.intCmp]; rfl, by exact .bool _⟩
  · subst h; exact ⟨_, by simp [binOp, Op.intCmp]; rfl, by exact .bool _⟩

theorem run_bin {op : BinOp} {ty : TypeId} {va vb r : AV} {x y : Value} {Oa Ob : Nat → Nat} (ra : RV g w va x Oa) (rb : RV g w vb y Ob) (h : binOf op va vb = some r)
    (x' y' : Operand) : ∃ z, ((do eqGuard op ty x' y' x y; binOp op ty x y : Sem Value)).run P w = .ok z w ∧ RV g w r z zero := by
  unfold binOf at h
  split at h
  · rename_i k m j n
    have hx := ev_int ra rfl
    have hy := ev_int rb rfl
    subst hx hy
    simp only [Sem.run_bind, run_eqGuard_int, Result.andThen_ok]
    split at h
    · rename_i d hd
      simp only [Option.some.injEq] at h
      subst h
      have fin : (∃ z, (binOp op ty (.int k m) (.int j n)).run P w = .ok z w ∧ RD w g.pm d z) →
          ∃ z, (binOp op ty (.int k m) (.int j n)).run P w = .ok z w ∧ RV g w (.d d) z zero :=
        fun ⟨z, h1, h2⟩ => ⟨z, h1, by simp only [RV]; exact ⟨h2, fun _ => trivial⟩⟩
      apply fin
      unfold numOf at hd
      split at hd
      · simpa [binOp] using run_shift (P := P) (g := g) (w := w) (j := j) hd
      · simpa [binOp] using run_shift (P := P) (g := g) (w := w) (j := j) hd
      · rename_i h1 h2
        split at hd
        · rename_i hk
          have := kindEq_eq hk
          subst this
          exact run_intOp h1 h2 hd
        · simp at hd
    · simp at h
  · rename_i s u
    have hx := ev_str ra rfl
    have hy := ev_str rb rfl
    subst hx hy
    simp only [Sem.run_bind, run_eqGuard_str, Result.andThen_ok]
    cases op <;> simp only [reduceCtorEq, Option.some.injEq] at h
    · subst h
      exact ⟨.bool (s == u), by simp [binOp, Op.stringOp, bytes_toList], rv_bool _⟩
    · subst h
      exact ⟨.bool (!(s == u)), by simp [binOp, Op.stringOp, bytes_toList], rv_bool _⟩
  · simp at h

theorem op_bin {op : BinOp} {x y : Rd} (s : S P g w st t O) (h : opBin op x y st = some (a, st')) (hc : chkOp P (.bin op x y) o.op = true) :
    Op1 P g w t O st' a ((execOp (ev t) o).run P w) := by
  obtain ⟨dst, opp, ty, pos, aft, gd⟩ := o
  simp only [chkOp] at hc
  split at hc
  · rename_i op' ty' x' y' yt
    simp only [Bool.and_eq_true, opEq, decide_eq_true_eq] at hc
    obtain ⟨⟨rfl, h1⟩, h2⟩ := hc
    simp only [opBin, binQ_eq] at h
    obtain ⟨va, vb, e, Oa, Ob, O', ra, rb, s', l, hk⟩ := rd2 s h1 h2 h
    split at hk
    · rename_i r hr
      simp only [Option.some.injEq, Prod.mk.injEq] at hk
      obtain ⟨rfl, rfl⟩ := hk
      obtain ⟨z, hz, rz⟩ := run_bin (P := P) (ty := ty') ra rb hr x' y'
      refine .flat s (x := z) ?_ rz s' fun b => by have := l b; omega
      simp only [execOp]
      rw [Sem.run_bind, hz]; simp
    · simp at hk
  · simp at hc

theorem run_underlying {ty : TypeId} {d : TypeDesc} (h : P.underlying ty = some d) : (underlying ty).run P w = .ok d w := by simp [underlying, h]
theorem run_equalIn_bool {ty : TypeId} (hu : P.underlying ty = some .bool) (d : Nat) (m n : Bool) : (Op.equalIn (d + 1) ty (.bool m) (.bool n)).run P w = .ok (m == n) w := by
  unfold Op.equalIn
  rw [Sem.run_bind, run_underlying hu]
  simp
theorem run_binOp_bool {ty : TypeId} (hu : P.underlying ty = some .bool) (neg : Bool) (m n : Bool) :
    (binOp (match neg with | true => .neq | false => .eql) ty (.bool m) (.bool n)).run P w = .ok (.bool (match neg with | true => !(m == n) | false => m == n)) w := by
  have h : (Op.equal ty (.bool m) (.bool n)).run P w = .ok (m == n) w := run_equalIn_bool hu 9999 m n
  cases neg
  · show ((do pure (.bool (← Op.equal ty (.bool m) (.bool n))) : Sem Value)).run P w = _
    rw [Sem.run_bind, h]; rfl
  · show ((do pure (.bool (!(← Op.equal ty (.bool m) (.bool n)))) : Sem Value)).run P w = _
    rw [Sem.run_bind, h]; rfl
theorem op_binb {neg : Bool} {x y : Rd} (s : S P g w st t O) (h : opBinb neg x y st = some (a, st')) (hc : chkOp P (.binb neg x y) o.op = true) :
    Op1 P g w t O st' a ((execOp (ev t) o).run P w) := by
  obtain ⟨dst, opp, ty, pos, aft, gd⟩ := o
  simp only [chkOp] at hc
  split at hc
  · rename_i op' ty' x' y' yt
    simp only [Bool.and_eq_true, opEq, decide_eq_true_eq] at hc
    obtain ⟨⟨⟨h0, hb⟩, h1⟩, h2⟩ := hc
    obtain ⟨va, vb, e, Oa, Ob, O', ra, rb, s', l, hk⟩ := rd2 s h1 h2 h
    split at hk
    · rename_i m n
      simp only [Option.some.injEq, Prod.mk.injEq] at hk
      obtain ⟨rfl, rfl⟩ := hk
      have hx := ev_bool ra rfl
      have hy := ev_bool rb rfl
      simp only [tyBool] at hb
      split at hb
      · rename_i hu
        refine .flat s (x := _) ?_ (rv_bool _) s' fun b => by have := l b; omega
        subst h0
        have h := run_binOp_bool (P := P) (w := w) hu neg m n
        simp only [execOp, hx, hy]
        rw [Sem.run_bind, Sem.run_bind, run_eqGuard_bool]
        cases neg
        · exact (congrArg (fun r => Result.andThen r fun a w' => (Pure.pure (Next.value a) : Sem Next).run P w') h)
        · exact (congrArg (fun r => Result.andThen r fun a w' => (Pure.pure (Next.value a) : Sem Next).run P w') h)
      · simp at hb
    · simp at hk
  · simp at hc

theorem op_un {op : UnOp} {x : Rd} (s : S P g w st t O) (h : opUn op x st = some (a, st')) (hc : chkOp P (.un op x) o.op = true) :
    Op1 P g w t O st' a ((execOp (ev t) o).run P w) := by
  obtain ⟨dst, opp, ty, pos, aft, gd⟩ := o
  simp only [chkOp] at hc
  split at hc
  · rename_i op' ty' x'
    simp only [Bool.and_eq_true, unEq, decide_eq_true_eq] at hc
    obtain ⟨rfl, h1⟩ := hc
    obtain ⟨v, e, hr, hk⟩ := rdp h
    obtain ⟨Ov, O', rv, s', l⟩ := s.rd h1 hr
    split at hk
    · rename_i r hun
      simp only [Option.some.injEq, Prod.mk.injEq] at hk
      obtain ⟨rfl, rfl⟩ := hk
      unfold unOf at hun
      split at hun
      · rename_i k n
        have hx := ev_int rv rfl
        cases op <;> simp only [reduceCtorEq, Option.some.injEq] at hun
        · subst hun
          rw [wr_eq]
          exact .flat s (x := _) (by simp [execOp, hx, Op.unary, Op.intArith]) (rv_int _ _) s' (S.le_left l)
        · split at hun
          · rename_i d hd
            simp only [Option.some.injEq] at hun
            subst hun
            simp only [bitsOf, Option.some.injEq] at hd
            subst hd
            exact .flat s (x := _) (by simp [execOp, hx, Op.unary, Op.intBits]) (rv_int _ _) s' (S.le_left l)
          · simp at hun
      · rename_i b
        have hx := ev_bool rv rfl
        cases op <;> simp only [reduceCtorEq, Option.some.injEq] at hun
        subst hun
        exact .flat s (x := _) (by simp [execOp, hx, Op.unary]) (rv_bool _) s' (S.le_left l)
      · simp at hun
    · simp at hk
  · simp at hc
end
end Go.Vm

/-
  SINGLE OPERATIONS (3): parts of structs, addresses, lengths, closures, slices.
-/
namespace Go.Vm

theorem addr_add (b off n : Nat) : (⟨b, off, none⟩ : Addr).add n = ⟨b, off + n, none⟩ := by
  unfold Addr.add; split
  · rename_i h; subst h; rfl
  · rfl

section
variable {g : Gh} {w : World}
theorem RVs.length {cs : List AV} {xs : List Value} {O : Nat → Nat} (r : RVs g w cs xs O) : xs.length = cs.length := by
  induction cs generalizing xs O with
  | nil => simp only [RVs] at r; simp [r.1]
  | cons c cs ih =>
    simp only [RVs] at r
    obtain ⟨x, s, O1, O2, rfl, _, r2, _⟩ := r
    simp [ih r2]
theorem RVs.split {a b : List AV} {xs : List Value} {O : Nat → Nat} (r : RVs g w (a ++ b) xs O) :
    ∃ O1 O2, RVs g w a (xs.take a.length) O1 ∧ RVs g w b (xs.drop a.length) O2 ∧ ∀ c, O c = O1 c + O2 c := by
  induction a generalizing xs O with
  | nil => exact ⟨zero, O, by simp [RVs], by simpa using r, fun c => by simp⟩
  | cons v a ih =>
    simp only [List.cons_append, RVs] at r
    obtain ⟨x, s, O1, O2, rfl, r1, r2, h⟩ := r
    obtain ⟨P1, P2, q1, q2, h2⟩ := ih r2
    refine ⟨fun c => O1 c + P1 c, P2, ?_, by simpa using q2, fun c => by have := h c; have := h2 c; show O c = O1 c + P1 c + P2 c; omega⟩
    simp only [RVs, List.length_cons, List.take_succ_cons]
    exact ⟨x, _, O1, P1, rfl, r1, q1, fun _ => rfl⟩
theorem RVs.join {a b : List AV} {xs ys : List Value} {O1 O2 : Nat → Nat} (r1 : RVs g w a xs O1) (r2 : RVs g w b ys O2) :
    RVs g w (a ++ b) (xs ++ ys) fun c => O1 c + O2 c := by
  induction a generalizing xs O1 with
  | nil =>
    simp only [RVs] at r1
    obtain ⟨rfl, h⟩ := r1
    have : (fun c => O1 c + O2 c) = O2 := by funext c; simp [h c]
    rw [this]; simpa using r2
  | cons v a ih =>
    simp only [RVs] at r1
    obtain ⟨x, s, P1, P2, rfl, q1, q2, h⟩ := r1
    simp only [List.cons_append, RVs]
    exact ⟨x, s ++ ys, P1, fun c => P2 c + O2 c, rfl, q1, ih q2, fun c => by have := h c; show O1 c + O2 c = P1 c + (P2 c + O2 c); omega⟩
theorem RVs.get {cs : List AV} {xs : List Value} {O : Nat → Nat} (r : RVs g w cs xs O) {i : Nat} {v : AV} (h : cs[i]? = some v) :
    ∃ x O1, xs[i]? = some x ∧ RV g w v x O1 ∧ ∀ c, O1 c ≤ O c := by
  induction cs generalizing xs O i with
  | nil => simp at h
  | cons c cs ih =>
    simp only [RVs] at r
    obtain ⟨x, s, O1, O2, rfl, r1, r2, hs⟩ := r
    cases i with
    | zero => simp at h; subst h; exact ⟨x, O1, rfl, r1, fun c => by rw [hs c]; omega⟩
    | succ i =>
      simp at h
      obtain ⟨y, P1, h1, h2, h3⟩ := ih r2 h
      exact ⟨y, P1, by simpa using h1, h2, fun c => by have := h3 c; rw [hs c]; omega⟩
theorem RVs.pull {cs : List AV} {xs : List Value} {O : Nat → Nat} (r : RVs g w cs xs O) {i : Nat} {v : AV} (h : cs[i]? = some v) :
    ∃ x O1 O2, xs[i]? = some x ∧ RV g w v x O1 ∧ RVs g w (cs.set i .junk) xs O2 ∧ ∀ c, O1 c + O2 c = O c := by
  induction cs generalizing xs O i with
  | nil => simp at h
  | cons c cs ih =>
    simp only [RVs] at r
    obtain ⟨x, s, O1, O2, rfl, r1, r2, hs⟩ := r
    cases i with
    | zero =>
      simp at h; subst h
      refine ⟨x, O1, O2, rfl, r1, ?_, fun c => (hs c).symm⟩
      simp only [List.set_cons_zero, RVs]
      exact ⟨x, s, zero, O2, rfl, by simp [RV], r2, fun c => by simp⟩
    | succ i =>
      simp at h
      obtain ⟨y, P1, P2, h1, h2, h3, h4⟩ := ih r2 h
      refine ⟨y, P1, fun c => O1 c + P2 c, by simpa using h1, h2, ?_, fun c => by have := h4 c; have := hs c; show P1 c + (O1 c + P2 c) = O c; omega⟩
      simp only [List.set_cons_succ, RVs]
      exact ⟨x, s, O1, P2, rfl, r1, h3, fun _ => rfl⟩
theorem RVs.sub {cs : List AV} {xs : List Value} {O : Nat → Nat} (r : RVs g w cs xs O) (off n : Nat) :
    ∃ O1, RVs g w (Vm.sub cs off n) ((xs.drop off).take n) O1 ∧ ∀ c, O1 c ≤ O c := by
  have hlen := r.length
  have e : cs = cs.take off ++ (Vm.sub cs off n ++ (cs.drop off).drop n) := by
    simp only [Vm.sub, List.take_append_drop]
  rw [e] at r
  obtain ⟨O1, O2, r1, r2, h⟩ := r.split
  obtain ⟨P1, P2, q1, q2, h2⟩ := r2.split
  refine ⟨P1, ?_, fun c => by have := h c; have := h2 c; omega⟩
  have e1 : xs.drop (cs.take off).length = xs.drop off := by
    rw [List.length_take]
    rcases Nat.le_total off cs.length with h | h
    · rw [Nat.min_eq_left h]
    · rw [Nat.min_eq_right h, List.drop_eq_nil_of_le (by omega), List.drop_eq_nil_of_le (by omega)]
  have e2 : (xs.drop off).take (Vm.sub cs off n).length = (xs.drop off).take n := by
    simp only [Vm.sub, List.length_take, List.length_drop]
    rcases Nat.le_total n (cs.length - off) with h | h
    · rw [Nat.min_eq_left h]
    · rw [Nat.min_eq_right h, List.take_of_length_le (by simp; omega), List.take_of_length_le (by simp; omega)]
  rw [e1, e2] at q1
  exact q1

theorem lenOf_rel {v : AV} {n : Nat} {x : Value} {O : Nat → Nat} (h : lenOf v = some n) (r : RV g w v x O) : ∃ a cap, x = .slice a n cap := by
  unfold lenOf at h
  split at h <;> simp only [Option.some.injEq, reduceCtorEq] at h
  · subst h; simp only [RV] at r; obtain ⟨r, _⟩ := r
    cases r with
    | nil a cap => exact ⟨a, cap, rfl⟩
    | lst xs b off m cap u hm hcap hl hc hr => exact ⟨_, cap, rfl⟩
  · subst h; simp only [RV] at r; exact ⟨_, _, r.1⟩
  · subst h; simp only [RV, Own] at r
    rcases r with ⟨rfl, _, a, e⟩ | ⟨b, off, cap, c, el, e, _⟩
    · exact ⟨a, 0, e⟩
    · exact ⟨_, cap, e⟩
  · subst h; simp only [RV] at r; exact r.1
  · subst h; simp only [RV] at r
    obtain ⟨⟨rfl, a, e⟩ | ⟨b, cap, _, e, _⟩, _⟩ := r
    · exact ⟨a, 0, e⟩
    · exact ⟨_, cap, e⟩
end

section
variable {P : Program} {g : Gh} {w : World} {t : Array Value} {O : Nat → Nat} {st st' : St} {a : AV} {o : Oper}

theorem calleeB_eq {c : Callee} {b : Builtin} (h : bEq (calleeB c) (some b) = true) : c = .builtin b := by
  cases c <;> simp [calleeB, bEq] at h
  subst h; rfl
theorem ty0_get {c : Call} (h : Nat.blt 0 c.argTypes.size = true) : c.argTypes[0]? = some (ty0 c) := by
  have : 0 < c.argTypes.size := by simpa [Nat.blt_eq] using h
  simp [ty0, Array.getD, this]
theorem args1 {x : Rd} {as : Array Operand} (h : chkRds [x] as.toList = true) : ∃ y, as = #[y] ∧ chkRd x y = true := by
  obtain ⟨l⟩ := as
  match l, h with
  | [], h => simp [chkRds] at h
  | [y], h => simp only [chkRds, Bool.and_eq_true] at h; exact ⟨y, rfl, h.1⟩
  | _ :: _ :: _, h => simp [chkRds] at h
theorem args2 {x x2 : Rd} {as : Array Operand} (h : chkRds [x, x2] as.toList = true) : ∃ y y2, as = #[y, y2] ∧ chkRd x y = true ∧ chkRd x2 y2 = true := by
  obtain ⟨l⟩ := as
  match l, h with
  | [], h => simp [chkRds] at h
  | [y], h => simp [chkRds] at h
  | [y, y2], h => simp only [chkRds, Bool.and_eq_true] at h; exact ⟨y, y2, rfl, h.1, h.2.1⟩
  | _ :: _ :: _ :: _, h => simp [chkRds] at h

theorem op_len {x : Rd} (s : S P g w st t O) (h : opLen x st = some (a, st')) (hc : chkOp P (.len x) o.op = true) :
    Op1 P g w t O st' a ((execOp (ev t) o).run P w) := by
  obtain ⟨dst, op, ty, pos, aft, gd⟩ := o
  simp only [chkOp] at hc
  split at hc
  · rename_i c
    simp only [Bool.and_eq_true] at hc
    obtain ⟨⟨⟨h1, h2⟩, h3⟩, h4⟩ := hc
    obtain ⟨callee, args, ats⟩ := c
    have := calleeB_eq h1; subst this
    obtain ⟨y, e1, hy⟩ := args1 h4
    simp only at e1; subst e1
    obtain ⟨v, e', h5, h6⟩ := rdp h
    obtain ⟨Ov, O', rv, s', l⟩ := s.rd hy h5
    have hty := ty0_get h2
    split at h6
    · rename_i n hn
      simp only [Option.some.injEq, Prod.mk.injEq] at h6
      obtain ⟨rfl, rfl⟩ := h6
      obtain ⟨ad, cap, hx⟩ := lenOf_rel hn rv
      split at h3
      · rename_i e hu
        refine .flat s (x := .int .i64 n) ?_ (rv_int _ _) s' (S.le_left l)
        generalize ty0 ⟨.builtin .len, #[y], ats⟩ = T at hu hty
        simp [execOp, resolve, invoke, builtin, Builtin.len_, hty, hx, run_underlying hu, goInt]
      · simp at h3
    · simp at h6
  · simp at hc

theorem op_cap {x : Rd} (s : S P g w st t O) (h : opCap x st = some (a, st')) (hc : chkOp P (.cap x) o.op = true) :
    Op1 P g w t O st' a ((execOp (ev t) o).run P w) := by
  obtain ⟨dst, op, ty, pos, aft, gd⟩ := o
  simp only [chkOp] at hc
  split at hc
  · rename_i c
    simp only [Bool.and_eq_true] at hc
    obtain ⟨⟨⟨h1, h2⟩, h3⟩, h4⟩ := hc
    obtain ⟨callee, args, ats⟩ := c
    have := calleeB_eq h1; subst this
    obtain ⟨y, e1, hy⟩ := args1 h4
    simp only at e1; subst e1
    unfold opCap at h
    split at h
    · rename_i e' h5
      obtain ⟨Ov, O', rv, s', l⟩ := s.rd hy h5
      have hty := ty0_get h2
      simp only [Option.some.injEq, Prod.mk.injEq] at h
      obtain ⟨rfl, rfl⟩ := h
      simp only [RV] at rv
      split at h3
      · rename_i e hu
        refine .flat s (x := .int .i64 0) ?_ (rv_int _ _) s' (S.le_left l)
        generalize ty0 ⟨.builtin .cap, #[y], ats⟩ = T at hu hty
        simp [execOp, resolve, invoke, builtin, Builtin.cap_, hty, rv.1, run_underlying hu, goInt]
      · simp at h3
    · simp at h
  · simp at hc

theorem addOff_rel {v r : AV} {off : Nat} {x : Value} {Ov : Nat → Nat} (h : addOff off v = some r) (rv : RV g w v x Ov) :
    ∃ b o, x = .pointer (some ⟨b, o, none⟩) ∧ RV g w r (.pointer (some ⟨b, o + off, none⟩)) zero := by
  unfold addOff at h
  split at h <;> simp only [Option.some.injEq, reduceCtorEq] at h
  · subst h; simp only [RV] at rv ⊢
    obtain ⟨⟨b, hb, e⟩, _⟩ := rv
    exact ⟨b, _, e, ⟨b, hb, by simp [Nat.add_assoc]⟩, fun _ => trivial⟩
  · subst h; simp only [RV] at rv ⊢
    obtain ⟨⟨b, hb, e⟩, _⟩ := rv
    exact ⟨b, _, e, ⟨b, hb, by simp [Nat.add_assoc]⟩, fun _ => trivial⟩
  · subst h; simp only [RV] at rv ⊢
    obtain ⟨⟨b, k, e, hr, hp⟩, _⟩ := rv
    exact ⟨b, _, e, ⟨b, k, by simp [Nat.add_assoc], hr, hp⟩, fun _ => trivial⟩

theorem op_fa {off : Nat} {p : Rd} (s : S P g w st t O) (h : opFa off p st = some (a, st')) (hc : chkOp P (.fa off p) o.op = true) :
    Op1 P g w t O st' a ((execOp (ev t) o).run P w) := by
  obtain ⟨dst, op, ty, pos, aft, gd⟩ := o
  simp only [chkOp] at hc
  split at hc
  · rename_i ty' y f
    simp only [Bool.and_eq_true] at hc
    obtain ⟨h1, h2⟩ := hc
    obtain ⟨v, e', h5, h6⟩ := rdp h
    obtain ⟨Ov, O', rv, s', l⟩ := s.rd h2 h5
    split at h6
    · rename_i r hr
      simp only [Option.some.injEq, Prod.mk.injEq] at h6
      obtain ⟨rfl, rfl⟩ := h6
      obtain ⟨b, k, hx, rr⟩ := addOff_rel hr rv
      simp only [tyField] at h1
      split at h1
      · rename_i fs hu
        split at h1
        · rename_i x hf
          simp only [Bool.and_eq_true, Nat.beq_eq] at h1
          obtain ⟨rfl, h1⟩ := h1
          split at h1
          · rename_i i hi
            have hz : ¬ i.size = 0 := by have : 0 < i.size := by simpa [Nat.blt_eq] using h1
                                         omega
            refine .flat s (x := _) ?_ rr s' (S.le_left l)
            simp [execOp, Instr.fieldAt, run_underlying hu, hf, hx, Instr.sureAddr, fieldPlace, sizeOf, typeInfo, hi, hz, addr_add]
          · simp at h1
        · simp at h1
      · simp at h1
    · simp at h6
  · simp at hc

theorem op_mkfn {f : FuncId} {first caps : List Rd} (s : S P g w st t O) (h : opMkfn f first caps st = some (a, st')) (hc : chkOp P (.mkfn f first caps) o.op = true) :
    Op1 P g w t O st' a ((execOp (ev t) o).run P w) := by
  obtain ⟨dst, op, ty, pos, aft, gd⟩ := o
  simp only [chkOp] at hc
  split at hc
  · rename_i f' xs ys
    simp only [Bool.and_eq_true, Nat.beq_eq] at hc
    obtain ⟨⟨rfl, h1⟩, h2⟩ := hc
    unfold opMkfn at h
    split at h
    · rename_i va e1 h3
      obtain ⟨O1, O2, r1, s1, l1⟩ := s.rdAll h1 h3
      split at h
      · rename_i vc e2 h4
        obtain ⟨O3, O4, r2, s2, l2⟩ := s1.rdAll h2 h4
        simp only [Option.some.injEq, Prod.mk.injEq] at h
        obtain ⟨rfl, rfl⟩ := h
        refine .flat s (x := .func (.func f) (xs.map (ev t)) (ys.map (ev t))) (by simp [execOp, Instr.makeFunc]) ?_ s2 fun b => by have := l1 b; have := l2 b; omega
        simp only [RV]
        exact ⟨⟨_, _, rfl, by simpa using RVs.share _ _ _ r1, by simpa using RVs.share _ _ _ r2⟩, fun _ => trivial⟩
      · simp at h
    · simp at h
  · simp at hc
end
end Go.Vm

/-
  SINGLE OPERATIONS (4): parts of values, indexes, slices.
-/
namespace Go.Vm
section
variable {P : Program} {g : Gh} {w : World} {t : Array Value} {O : Nat → Nat} {st st' : St} {a : AV} {o : Oper}

theorem natOf_rel {v : AV} {n : Nat} {x : Value} {Ov : Nat → Nat} (h : natOf v = some n) (r : RV g w v x Ov) : ∃ k, x = .int k (n : Int) := by
  unfold natOf at h
  split at h <;> simp only [Option.some.injEq, reduceCtorEq] at h
  subst h; simp only [RV] at r; obtain ⟨r, _⟩ := r; cases r; exact ⟨_, rfl⟩
theorem natUpTo_rel {v : AV} {n top : Nat} {x : Value} {Ov : Nat → Nat} (h : natUpTo v top = some n) (r : RV g w v x Ov) : (∃ k, x = .int k (n : Int)) ∧ n ≤ top := by
  unfold natUpTo at h
  split at h
  · split at h <;> simp only [Option.some.injEq, reduceCtorEq] at h
    rename_i hb
    subst h; simp only [RV] at r; obtain ⟨r, _⟩ := r; cases r; exact ⟨⟨_, rfl⟩, by simpa [Nat.ble_eq] using hb⟩
  · simp at h

theorem run_sizeOf {ty : TypeId} {n : Nat} (h : tySz P ty n = true) : (sizeOf ty).run P w = .ok n w := by
  unfold tySz at h
  split at h
  · rename_i i hi
    rw [Nat.beq_eq] at h; subst h
    simp [sizeOf, typeInfo, hi]
  · simp at h
theorem run_isAgg_true {ty : TypeId} (h : tyAgg P ty = true) : (isAgg ty).run P w = .ok true w := by
  unfold tyAgg at h
  split at h
  · rename_i hu; simp [isAgg, run_underlying hu]
  · rename_i hu; simp [isAgg, run_underlying hu]
  · simp at h
theorem run_isAgg_false {ty : TypeId} (h : tyOne P ty = true) : (isAgg ty).run P w = .ok false w := by
  unfold tyOne at h
  split at h <;> try (simp at h; done)
  rename_i d h1 h2 hu
  simp only [isAgg, Sem.run_bind, run_underlying hu, Result.andThen_ok]
  cases d <;> first | rfl | exact absurd rfl (h1 _) | exact absurd rfl (h2 _ _)

/-- Part of a struct's cells. -/
theorem run_part {ty : TypeId} {n : Option Nat} (ht : tyCell P ty n = true) {cs : List AV} {xs : Array Value} {Ov : Nat → Nat} (r : RVs g w cs xs.toList Ov) {off : Nat} {v : AV}
    (h : partOf n cs off = some v) :
    ∃ x O1, (part ty xs off).run P w = .ok x w ∧ RV g w v x O1 ∧ ∀ b, O1 b ≤ Ov b := by
  cases n with
  | none =>
    simp only [tyCell] at ht
    simp only [partOf] at h
    obtain ⟨x, O1, hx, rv, l⟩ := r.get h
    refine ⟨x, O1, ?_, rv, l⟩
    have hx' : xs[off]? = some x := by rw [← Array.getElem?_toList]; exact hx
    simp [part, run_isAgg_false ht, hx']
  | some n =>
    simp only [tyCell, Bool.and_eq_true] at ht
    simp only [partOf] at h
    split at h
    · rename_i hle
      simp only [Option.some.injEq] at h; subst h
      obtain ⟨O1, r1, l⟩ := r.sub off n
      refine ⟨.agg (xs.extract off (off + n)), O1, by simp [part, run_isAgg_true ht.1, run_sizeOf ht.2], ?_, l⟩
      simp only [RV]
      refine ⟨_, rfl, ?_⟩
      have : (xs.extract off (off + n)).toList = (xs.toList.drop off).take n := by
        simp [List.extract_eq_take_drop]
      rw [this]; exact r1
    · simp at h

theorem op_fld {off : Nat} {n : Option Nat} {x : Rd} (s : S P g w st t O) (h : opFld off n x st = some (a, st')) (hc : chkOp P (.fld off n x) o.op = true) :
    Op1 P g w t O st' a ((execOp (ev t) o).run P w) := by
  obtain ⟨dst, op, ty, pos, aft, gd⟩ := o
  simp only [chkOp] at hc
  split at hc
  · rename_i ty' y f
    simp only [Bool.and_eq_true] at hc
    obtain ⟨h1, h2⟩ := hc
    unfold opFld at h
    split at h
    · rename_i cs e' h5
      obtain ⟨Ov, O', rv, s', l⟩ := s.rd h2 h5
      simp only [RV] at rv
      obtain ⟨xs, hx, rv⟩ := rv
      simp only [tyFieldCell] at h1
      split at h1
      · rename_i fs hu
        split at h1
        · rename_i fl hf
          simp only [Bool.and_eq_true, Nat.beq_eq] at h1
          obtain ⟨rfl, h1⟩ := h1
          split at h
          · rename_i v hv
            simp only [Option.some.injEq, Prod.mk.injEq] at h
            obtain ⟨rfl, rfl⟩ := h
            obtain ⟨z, O1, hz, rz, l1⟩ := run_part (P := P) h1 rv hv
            refine .pure s (x := z) ?_ rz s' fun b => by have := l b; have := l1 b; omega
            simp [execOp, Instr.field, run_underlying hu, hf, hx, asAgg, hz]
          · simp at h
        · simp at h1
      · simp at h1
    · simp at h
  · simp at hc

theorem op_ext {j : Nat} {mv : Bool} {i : Nat} (s : S P g w st t O) (h : opExt j mv i st = some (a, st')) (hc : chkOp P (.ext j mv i) o.op = true) :
    Op1 P g w t O st' a ((execOp (ev t) o).run P w) := by
  obtain ⟨dst, op, ty, pos, aft, gd⟩ := o
  simp only [chkOp] at hc
  split at hc
  · rename_i tt k
    simp only [Bool.and_eq_true, Nat.beq_eq] at hc
    obtain ⟨rfl, rfl⟩ := hc
    unfold opExt at h
    split at h
    · rename_i vs hg
      split at h
      · rename_i v hv
        obtain ⟨Oe, Oh, re, rh, ho⟩ := s.parts
        obtain ⟨O1, O2, ⟨hlt, q⟩, r2, hs⟩ := RL.take re hg
        simp only [RV] at q
        obtain ⟨xs, hx, q⟩ := q
        obtain ⟨x, P1, P2, hx2, rv, rj, hl⟩ := q.pull hv
        have hx3 : xs[i]? = some x := by rw [← Array.getElem?_toList]; exact hx2
        have hrun : (execOp (ev t) ⟨dst, .extract (.tmp j) i, ty, pos, aft, gd⟩).run P w = .ok (.value x) w := by
          simp [execOp, ev, Instr.extract, hx, hx3]
        cases mv with
        | false =>
          simp only [Option.some.injEq, Prod.mk.injEq] at h
          obtain ⟨rfl, rfl⟩ := h
          exact .flat s hrun (RV.share _ _ _ rv) s fun b => Nat.le_refl _
        | true =>
          simp only [Option.some.injEq, Prod.mk.injEq] at h
          obtain ⟨rfl, rfl⟩ := h
          obtain ⟨O3, r3, h3⟩ := RL.put s.se r2 (i := j) (x := AV.tup (vs.set i .junk)) (O1 := P2) ⟨hlt, by simp only [RV]; exact ⟨xs, hx, rj⟩⟩
          refine .pure s hrun rv (s.of_env (O' := fun b => O3 b + Oh b) r3 rh (s.se.put _ _) (fun _ => rfl) fun b => ?_) fun b => ?_
          · have := h3 b; have := hs b; have := ho b; have := hl b; show O3 b + Oh b ≤ O b; omega
          · have := h3 b; have := hs b; have := ho b; have := hl b; show P1 b + (O3 b + Oh b) ≤ O b; omega
      · simp at h
    · simp at h
  · simp at hc

theorem run_index {ty : TypeId} {l e : Nat} (hu : P.underlying ty = some (.array l e)) {xs : Array Value} {k : IntKind} {i n : Nat} (hi : i < l) (hs : tySz P e n = true) :
    (Instr.index ty (.agg xs) (.int k (i : Int))).run P w = (part e xs (i * n)).run P w := by
  simp [Instr.index, asIntOf, run_underlying hu, hi, run_sizeOf hs]

theorem op_ix {len n : Nat} {agg : Bool} {x i : Rd} (s : S P g w st t O) (h : opIx len n agg x i st = some (a, st')) (hc : chkOp P (.ix len n agg x i) o.op = true) :
    Op1 P g w t O st' a ((execOp (ev t) o).run P w) := by
  obtain ⟨dst, op, ty, pos, aft, gd⟩ := o
  simp only [chkOp] at hc
  split at hc
  · rename_i ty' y j
    simp only [Bool.and_eq_true] at hc
    obtain ⟨⟨h1, h2⟩, h3⟩ := hc
    unfold opIx at h
    split at h
    · rename_i cs e1 h5
      obtain ⟨Ov, O1, rv, s1, l1⟩ := s.rd h2 h5
      simp only [RV] at rv
      obtain ⟨xs, hx, rv⟩ := rv
      split at h
      · rename_i vi e2 h6
        obtain ⟨Oi, O2, ri, s2, l2⟩ := s1.rd h3 h6
        split at h
        · rename_i k hk
          obtain ⟨kk, hk2⟩ := natOf_rel hk ri
          split at h
          · simp at h
          · rename_i hb
            have hlt : k < len := by rw [← Bool.not_eq_true, Nat.ble_eq] at hb; omega
            simp only [tyElemCell] at h1
            split at h1
            · rename_i l el hu
              simp only [Bool.and_eq_true, Nat.beq_eq] at h1
              obtain ⟨⟨rfl, hsz⟩, hag⟩ := h1
              split at h
              · rename_i v hv
                simp only [Option.some.injEq, Prod.mk.injEq] at h
                obtain ⟨rfl, rfl⟩ := h
                have hc : tyCell P el (optN agg n) = true := by
                  cases agg
                  · simpa only [tyCell, optN] using hag
                  · simp only [tyCell, optN, Bool.and_eq_true]; exact ⟨hag, hsz⟩
                obtain ⟨z, O3, hz, rz, l3⟩ := run_part (P := P) hc rv hv
                refine .pure s (x := z) ?_ rz s2 fun b => by have := l1 b; have := l2 b; have := l3 b; omega
                simp only [execOp, hx, hk2]
                rw [Sem.run_bind, run_index hu hlt hsz, hz]; rfl
              · simp at h
            · simp at h1
        · simp at h
      · simp at h
    · simp at h
  · simp at hc

theorem op_ixs {x i : Rd} (s : S P g w st t O) (h : opIxs x i st = some (a, st')) (hc : chkOp P (.ixs x i) o.op = true) :
    Op1 P g w t O st' a ((execOp (ev t) o).run P w) := by
  obtain ⟨dst, op, ty, pos, aft, gd⟩ := o
  simp only [chkOp] at hc
  split at hc
  · rename_i ty' y j
    simp only [Bool.and_eq_true] at hc
    obtain ⟨⟨h1, h2⟩, h3⟩ := hc
    unfold opIxs at h
    split at h
    · rename_i str e1 h5
      obtain ⟨Ov, O1, rv, s1, l1⟩ := s.rd h2 h5
      have hx := ev_str rv rfl
      split at h
      · rename_i vi e2 h6
        obtain ⟨Oi, O2, ri, s2, l2⟩ := s1.rd h3 h6
        split at h
        · rename_i k hk
          obtain ⟨kk, hk2⟩ := natOf_rel hk ri
          split at h
          · rename_i b hb
            simp only [Option.some.injEq, Prod.mk.injEq] at h
            obtain ⟨rfl, rfl⟩ := h
            simp only [tyString] at h1
            split at h1
            · rename_i hu
              refine .flat s (x := .int .u8 b.toNat) ?_ (rv_int _ _) s2 fun c => by have := l1 c; have := l2 c; omega
              have hlen : k < str.length := by
                rcases Nat.lt_or_ge k str.length with h | h
                · exact h
                · simp [List.getElem?_eq_none h] at hb
              have hg : (⟨str.toArray⟩ : ByteArray)[k]? = some b := by
                have hs : k < (⟨str.toArray⟩ : ByteArray).size := hlen
                rw [getElem?_pos (⟨str.toArray⟩ : ByteArray) k hs]
                rw [List.getElem?_eq_getElem hlen] at hb
                exact hb
              simp [execOp, hx, hk2, Instr.index, asIntOf, run_underlying hu, hg]
            · simp at h1
          · simp at h
        · simp at h
      · simp at h
    · simp at h
  · simp at hc

theorem op_iarr {len n : Nat} {p i : Rd} (s : S P g w st t O) (h : opIarr len n p i st = some (a, st')) (hc : chkOp P (.iarr len n p i) o.op = true) :
    Op1 P g w t O st' a ((execOp (ev t) o).run P w) := by
  obtain ⟨dst, op, ty, pos, aft, gd⟩ := o
  simp only [chkOp] at hc
  split at hc
  · rename_i ty' y j
    simp only [Bool.and_eq_true] at hc
    obtain ⟨⟨h1, h2⟩, h3⟩ := hc
    obtain ⟨v, vi, e, Ov, Oi, O', rv, ri, s', l, hk⟩ := rd2 s h2 h3 h
    split at hk
    · rename_i k hk1
      obtain ⟨kk, hk2⟩ := natOf_rel hk1 ri
      split at hk
      · simp at hk
      · rename_i hb
        have hlt : k < len := by rw [← Bool.not_eq_true, Nat.ble_eq] at hb; omega
        split at hk
        · rename_i r hr
          simp only [Option.some.injEq, Prod.mk.injEq] at hk
          obtain ⟨rfl, rfl⟩ := hk
          obtain ⟨b, off, hx, rr⟩ := addOff_rel hr rv
          simp only [tyArray] at h1
          split at h1
          · rename_i l' el hu
            simp only [Bool.and_eq_true, Nat.beq_eq] at h1
            obtain ⟨⟨rfl, hsz⟩, _⟩ := h1
            refine .flat s (x := _) ?_ rr s' fun c => by have := l c; omega
            simp [execOp, hx, hk2, Instr.indexAt, asIntOf, run_underlying hu, Instr.sureAddr, hlt, run_sizeOf hsz, addr_add]
          · simp at h1
        · simp at hk
    · simp at hk
  · simp at hc
end
end Go.Vm

/-
  SINGLE OPERATIONS (5): indexing and slicing lists.
-/
namespace Go.Vm

theorem flatten_drop {xs : List (List D)} {m : Nat} (h : ∀ e ∈ xs, e.length = m) (l : Nat) : (xs.drop l).flatten = xs.flatten.drop (l * m) := by
  induction xs generalizing l with
  | nil => simp
  | cons a r ih =>
    cases l with
    | zero => simp
    | succ l =>
      have ha := h a (.head _)
      simp only [List.drop_succ_cons, List.flatten_cons]
      rw [ih (fun e he => h e (.tail _ he)), Nat.succ_mul, Nat.add_comm, List.drop_append, ha]
      simp [List.drop_eq_nil_of_le, ha]
theorem flatten_take {xs : List (List D)} {m : Nat} (h : ∀ e ∈ xs, e.length = m) (l : Nat) : (xs.take l).flatten = xs.flatten.take (l * m) := by
  induction xs generalizing l with
  | nil => simp
  | cons a r ih =>
    cases l with
    | zero => simp
    | succ l =>
      have ha := h a (.head _)
      simp only [List.take_succ_cons, List.flatten_cons]
      rw [ih (fun e he => h e (.tail _ he)), Nat.succ_mul, Nat.add_comm, List.take_append, ha]
      congr 1
      · rw [List.take_of_length_le (by omega)]
      · congr 1; omega
theorem sub_len {xs : List (List D)} {m : Nat} (h : ∀ e ∈ xs, e.length = m) (l n : Nat) : ∀ e ∈ sub xs l n, e.length = m :=
  fun e he => h e (List.mem_of_mem_drop (List.mem_of_mem_take he))
theorem flatten_sub {xs : List (List D)} {m : Nat} (h : ∀ e ∈ xs, e.length = m) (l n : Nat) : (sub xs l n).flatten = sub xs.flatten (l * m) (n * m) := by
  unfold sub
  rw [flatten_take (fun e he => h e (List.mem_of_mem_drop he)), flatten_drop h]
theorem sub_get {α : Type} {xs : List α} {l n j : Nat} {c : α} (h : (sub xs l n)[j]? = some c) : xs[l + j]? = some c ∧ j < n := by
  unfold sub at h
  rw [List.getElem?_take] at h
  split at h
  · exact ⟨by rw [List.getElem?_drop] at h; exact h, by assumption⟩
  · simp at h
theorem sub_length {α : Type} {xs : List α} {l n : Nat} (h : l + n ≤ xs.length) : (sub xs l n).length = n := by
  unfold sub; simp; omega
/-- An element's cells are cells of the whole. -/
theorem flatten_elem {xs : List (List D)} {m : Nat} (h : ∀ e ∈ xs, e.length = m) {i j : Nat} {e : List D} {c : D} (hi : xs[i]? = some e) (hj : e[j]? = some c) :
    xs.flatten[i * m + j]? = some c := by
  have hm : e.length = m := h e (List.mem_of_getElem? hi)
  have hlt : j < m := by
    rcases Nat.lt_or_ge j m with h' | h'
    · exact h'
    · rw [List.getElem?_eq_none (by omega)] at hj; simp at hj
  rw [← List.getElem?_drop, ← flatten_drop h]
  have : xs.drop i = e :: xs.drop (i + 1) := by
    have hl : i < xs.length := by
      rcases Nat.lt_or_ge i xs.length with h' | h'
      · exact h'
      · rw [List.getElem?_eq_none h'] at hi; simp at hi
    rw [List.drop_eq_getElem_cons hl]
    rw [List.getElem?_eq_getElem hl] at hi
    simp only [Option.some.injEq] at hi
    rw [hi]
  rw [this, List.flatten_cons, List.getElem?_append_left (by omega)]
  exact hj

section
variable {g : Gh} {w : World}
/-- What is known of a list that stays. -/
theorem RD.list {pm : Nat → Nat → Prop} {xs : List (List D)} {x : Value} (r : RD w pm (.lst xs) x) :
    (xs = [] ∧ ∃ a cap, x = .slice a 0 cap) ∨ ∃ b off m cap, x = .slice (some ⟨b, off, none⟩) xs.length cap ∧ 0 < m ∧ xs.length ≤ cap ∧ (∀ e ∈ xs, e.length = m) ∧
      RCs w pm xs.flatten b off ∧ ∀ j, j < xs.length * m → pm b (off + j) := by
  cases r with
  | nil a cap => exact .inl ⟨rfl, a, cap, rfl⟩
  | lst xs b off m cap u hm hcap hl hc hr =>
    refine .inr ⟨b, off, m, cap, rfl, hm, hcap, hl, fun j c hj => ⟨u j, (hc j c hj).1, hr j c hj⟩, fun j hj => ?_⟩
    have : j < xs.flatten.length := by rw [flatten_len hl]; exact hj
    exact (hc j xs.flatten[j] (by simp)).2
theorem rv_list {h : Heap} {v : AV} {xs : List (List D)} {x : Value} {O : Nat → Nat} (he : elems h v = some xs) (hn : isSl v = false) (r : RV g w v x O) :
    RD w g.pm (.lst xs) x := by
  cases v with
  | d c =>
    cases c <;> simp only [elems, reduceCtorEq, Option.some.injEq] at he
    subst he; simp only [RV] at r; exact r.1
  | nl => simp only [elems, Option.some.injEq] at he; subst he; simp only [RV] at r; rw [r.1]; exact .nil _ _
  | own p m ys =>
    cases p <;> simp only [elems, reduceCtorEq, Option.some.injEq] at he
    subst he
    have := RV.share _ _ _ r
    simp only [share, RV] at this
    exact this.1
  | sl id off len => simp [isSl] at hn
  | _ => simp [elems] at he
theorem RCs.sub {pm : Nat → Nat → Prop} {cs : List D} {b off : Nat} (r : RCs w pm cs b off) (l n : Nat) : RCs w pm (Vm.sub cs l n) b (off + l) := by
  intro j c hj
  obtain ⟨h1, _⟩ := sub_get hj
  obtain ⟨u, hu, hr⟩ := r _ c h1
  exact ⟨u, by rw [Nat.add_assoc]; exact hu, hr⟩
theorem RCs.elem {pm : Nat → Nat → Prop} {xs : List (List D)} {m b off : Nat} (r : RCs w pm xs.flatten b off) (hl : ∀ e ∈ xs, e.length = m) {i : Nat} {e : List D}
    (hi : xs[i]? = some e) : RCs w pm e b (off + i * m) := by
  intro j c hj
  obtain ⟨u, hu, hr⟩ := r _ c (flatten_elem hl hi hj)
  exact ⟨u, by rw [Nat.add_assoc]; exact hu, hr⟩
theorem lt_of_get {α : Type} {xs : List α} {i : Nat} {x : α} (h : xs[i]? = some x) : i < xs.length := by
  rcases Nat.lt_or_ge i xs.length with h' | h'
  · exact h'
  · rw [List.getElem?_eq_none h'] at h; simp at h
end

section
variable {P : Program} {g : Gh} {w : World} {t : Array Value} {O : Nat → Nat} {st st' : St} {a : AV} {o : Oper}

theorem tySlice_elem {ty : TypeId} {m : Nat} (h : tySlice P ty m = true) : ∃ e, P.underlying ty = some (.slice e) ∧ tySz P e m = true ∧ 0 < m ∧ P.bytesOf e ≤ 4096 := by
  unfold tySlice at h
  split at h
  · rename_i e hu
    simp only [Bool.and_eq_true, Nat.blt_eq, Nat.ble_eq] at h
    exact ⟨e, hu, h.1.1, h.1.2, h.2⟩
  · simp at h

theorem run_indexAt_slice {ty : TypeId} {n : Nat} (h : tySlice P ty n = true) {b off len cap i : Nat} {k : IntKind} (hi : i < len) :
    (Instr.indexAt ty (.slice (some ⟨b, off, none⟩) len cap) (.int k (i : Int))).run P w = .ok (.pointer (some ⟨b, off + i * n, none⟩)) w := by
  obtain ⟨e, hu, hs, _⟩ := tySlice_elem h
  simp [Instr.indexAt, asIntOf, run_underlying hu, hi, run_sizeOf hs, addr_add]

theorem op_ia {n : Nat} {x i : Rd} (s : S P g w st t O) (h : opIa n x i st = some (a, st')) (hc : chkOp P (.ia n x i) o.op = true) :
    Op1 P g w t O st' a ((execOp (ev t) o).run P w) := by
  obtain ⟨dst, op, ty, pos, aft, gd⟩ := o
  simp only [chkOp] at hc
  split at hc
  · rename_i ty' y j
    simp only [Bool.and_eq_true] at hc
    obtain ⟨⟨h1, h2⟩, h3⟩ := hc
    obtain ⟨v, vi, e, Ov, Oi, O', rv, ri, s', l, hk⟩ := rd2 s h2 h3 h
    split at hk
    · rename_i k hk1
      obtain ⟨kk, hk2⟩ := natOf_rel hk1 ri
      have fin : ∀ {r : AV} {b off : Nat}, (∃ len cap bo oo, ev t y = .slice (some ⟨bo, oo, none⟩) len cap ∧ k < len ∧ b = bo ∧ off = oo + k * n) →
          RV g w r (.pointer (some ⟨b, off, none⟩)) zero → Op1 P g w t O ⟨e, st.hs⟩ r ((execOp (ev t) ⟨dst, .indexAddr ty' y j, ty, pos, aft, gd⟩).run P w) := by
        rintro r b off ⟨len, cap, bo, oo, hx, hlt, rfl, rfl⟩ rr
        refine .flat s (x := _) ?_ rr s' fun c => by have := l c; omega
        simp only [execOp, hx, hk2]
        rw [Sem.run_bind, run_indexAt_slice h1 hlt]; rfl
      have hnsl : isSl v = false → ∀ {xs : List (List D)} {el : List D}, elems st.hs.heap v = some xs → xs[k]? = some el → el.length = n →
          Op1 P g w t O ⟨e, st.hs⟩ (.pim el 0) ((execOp (ev t) ⟨dst, .indexAddr ty' y j, ty, pos, aft, gd⟩).run P w) := by
        intro hn xs el he hxk hlen
        have rd := rv_list he hn rv
        rcases rd.list with ⟨rfl, _⟩ | ⟨b, off, m, cap, hx, hm, hcap, hl, hrc, hp⟩
        · simp at hxk
        · have hmn : m = n := by rw [← hlen]; exact (hl el (List.mem_of_getElem? hxk)).symm
          subst hmn
          refine fin (b := b) (off := off + k * m) ⟨_, cap, b, off, hx, lt_of_get hxk, rfl, rfl⟩ ?_
          simp only [RV]
          refine ⟨⟨b, off + k * m, by simp, hrc.elem hl hxk, fun q hq => ?_⟩, fun _ => trivial⟩
          rw [Nat.add_assoc]
          refine hp _ ?_
          have := lt_of_get hxk
          have : (k + 1) * m ≤ xs.length * m := Nat.mul_le_mul_right _ this
          rw [Nat.succ_mul] at this
          omega
      split at hk
      · rename_i id off len
        split at hk
        · simp at hk
        · rename_i hb
          have hlt : k < len := by rw [← Bool.not_eq_true, Nat.ble_eq] at hb; omega
          simp only [RV] at rv
          obtain ⟨hsl, _⟩ := rv
          rcases hsl with ⟨rfl, _⟩ | ⟨b, cap, hob, hx, _, _⟩
          · omega
          obtain ⟨Oe, Oh, re, rh, ho⟩ := s.parts
          split at hk
          · rename_i m xs hg
            split at hk
            · rename_i hmn
              rw [Nat.beq_eq] at hmn; subst hmn
              simp only [Option.some.injEq, Prod.mk.injEq] at hk
              obtain ⟨rfl, rfl⟩ := hk
              obtain ⟨O1, q, _⟩ := RL.get rh hg
              have hesz : g.esz id = m := by
                simp only [RObj] at q
                rcases q with ⟨_, _, h, _⟩ | ⟨_, _, _, _, h, _⟩
                · exact h
                · exact h
              refine fin (b := b) (off := g.base id + off * g.esz id + k * m) ⟨len, cap, b, _, hx, hlt, rfl, rfl⟩ ?_
              simp only [RV]
              exact ⟨⟨b, hob, by rw [hesz, Nat.add_mul]; simp [Nat.add_assoc]⟩, fun _ => trivial⟩
            · simp at hk
          · rename_i cs hg
            split at hk
            · rename_i hmn
              rw [Nat.beq_eq] at hmn; subst hmn
              simp only [Option.some.injEq, Prod.mk.injEq] at hk
              obtain ⟨rfl, rfl⟩ := hk
              obtain ⟨O1, q, _⟩ := RL.get rh hg
              simp only [RObj] at q
              obtain ⟨_, _, _, _, _, hbase, hesz, _⟩ := q
              refine fin (b := b) (off := g.base id + off * g.esz id + k * 1) ⟨len, cap, b, _, hx, hlt, rfl, rfl⟩ ?_
              simp only [RV]
              exact ⟨⟨b, hob, by rw [hesz]; simp [Nat.add_assoc]⟩, fun _ => trivial⟩
            · simp at hk
          · simp at hk
      · rename_i hv
        have hn : isSl v = false := by cases v <;> first | rfl | exact absurd rfl (hv _ _ _)
        split at hk
        · rename_i xs he
          split at hk
          · rename_i el hel
            split at hk
            · rename_i hlen
              rw [Nat.beq_eq] at hlen
              simp only [Option.some.injEq, Prod.mk.injEq] at hk
              obtain ⟨rfl, rfl⟩ := hk
              exact hnsl hn he hel hlen
            · simp at hk
          · simp at hk
        · simp at hk
    · simp at hk
  · simp at hc
end
end Go.Vm

/-
  SINGLE OPERATIONS (6): slice expressions; the greatest and least of numbers.
-/
namespace Go.Vm
section
variable {P : Program} {g : Gh} {w : World} {t : Array Value} {O : Nat → Nat} {st st' : St} {a : AV} {o : Oper}

/-- An operand that may lack. -/
def RO (g : Gh) (w : World) : Option AV → Option Value → Prop
  | none, none => True
  | some v, some x => ∃ Ov, RV g w v x Ov
  | _, _ => False
theorem S.rdOpt {r : Option Rd} {oo : Option Operand} (s : S P g w st t O) (hc : chkRdO r oo = true) {vo : Option AV} {e' : Env} (h : rdOpt st.env r = some (vo, e')) :
    ∃ O', RO g w vo (oo.map (ev t)) ∧ S P g w ⟨e', st.hs⟩ t O' ∧ ∀ b, O' b ≤ O b := by
  cases r with
  | none =>
    cases oo <;> simp [chkRdO] at hc
    simp only [Vm.rdOpt, Option.some.injEq, Prod.mk.injEq] at h
    obtain ⟨rfl, rfl⟩ := h
    exact ⟨O, trivial, s, fun b => Nat.le_refl _⟩
  | some r =>
    cases oo with
    | none => simp [chkRdO] at hc
    | some o =>
      simp only [chkRdO] at hc
      simp only [Vm.rdOpt] at h
      obtain ⟨v, e1, h1, h2⟩ := rdp h
      simp only [Option.some.injEq, Prod.mk.injEq] at h2
      obtain ⟨rfl, rfl⟩ := h2
      obtain ⟨Ov, O', rv, s', l⟩ := s.rd hc h1
      exact ⟨O', ⟨Ov, rv⟩, s', S.le_left l⟩

theorem run_sliceBound {v : AV} {x : Value} {Ov : Nat → Nat} (r : RV g w v x Ov) {n top y : Nat} (h : natUpTo v top = some n) (hy : top ≤ y) (c : BoundsCode) :
    (Instr.sliceBound x y c).run P w = .ok n w ∧ n ≤ top := by
  obtain ⟨⟨k, rfl⟩, hn⟩ := natUpTo_rel h r
  refine ⟨?_, hn⟩
  have : (n : Int) ≤ y := by omega
  simp [Instr.sliceBound, asIntOf, this]

theorem run_bounds {lo hi mx : Option AV} {lo' hi' mx' : Option Value} (r1 : RO g w lo lo') (r2 : RO g w hi hi') (r3 : RO g w mx mx') {b : Bool} {len cap l h m : Nat}
    (hcap : len ≤ cap) (hb : bounds len lo hi mx = some (l, h, m)) :
    ∃ m', (Instr.sliceBounds b len cap lo' hi' mx').run P w = .ok (l, h, m') w ∧ l ≤ h ∧ h ≤ len ∧ h ≤ m' ∧ m' ≤ cap := by
  unfold bounds at hb
  have fin : ∀ (h0 m' : Nat), h0 ≤ len → h0 ≤ m' → m' ≤ cap → lowOf lo h0 m = some (l, h, m) →
      ∃ l', (match (generalizing := false) lo' with | some v => Instr.sliceBound v h0 (if mx'.isSome then .slice3C else .sliceB) | none => pure 0).run P w = .ok l' w ∧ l' = l ∧ h0 = h ∧ l ≤ h := by
    intro h0 m' e1 e2 e3 e4
    cases lo with
    | none =>
      cases lo' with
      | some x => exact r1.elim
      | none =>
        simp only [lowOf, Option.some.injEq, Prod.mk.injEq] at e4
        exact ⟨0, rfl, e4.1, e4.2.1, by omega⟩
    | some v =>
      cases lo' with
      | none => exact r1.elim
      | some x =>
        obtain ⟨Ov, rv⟩ := r1
        simp only [lowOf] at e4
        split at e4
        · rename_i n hn
          simp only [Option.some.injEq, Prod.mk.injEq] at e4
          obtain ⟨h1, h2⟩ := run_sliceBound (P := P) rv hn (Nat.le_refl h0) (if mx'.isSome then .slice3C else .sliceB)
          exact ⟨n, h1, e4.1, e4.2.1, by omega⟩
        · simp at e4
  cases mx with
  | none =>
    cases mx' with
    | some x => exact r3.elim
    | none =>
      simp only at hb
      cases hi with
      | none =>
        cases hi' with
        | some x => exact r2.elim
        | none =>
          simp only at hb
          have hm : m = len := by
            cases lo with
            | none => simp [lowOf] at hb; omega
            | some v => simp only [lowOf] at hb; split at hb <;> simp at hb; omega
          subst hm
          obtain ⟨l', h1, rfl, rfl, h4⟩ := fin m cap (Nat.le_refl _) hcap (Nat.le_refl _) hb
          refine ⟨cap, ?_, h4, Nat.le_refl _, hcap, Nat.le_refl _⟩
          simp only [Instr.sliceBounds, Sem.run_bind, Sem.run_pure, Result.andThen_ok]
          cases lo' <;> simp_all
      | some v =>
        cases hi' with
        | none => exact r2.elim
        | some x =>
          obtain ⟨Ov, rv⟩ := r2
          simp only at hb
          split at hb
          · simp at hb
          · rename_i h0 hh
            have hm : m = len := by
              cases lo with
              | none => simp [lowOf] at hb; omega
              | some v => simp only [lowOf] at hb; split at hb <;> simp at hb; omega
            subst hm
            obtain ⟨h5, h6⟩ := run_sliceBound (P := P) rv hh hcap (if b then .sliceAcap else .sliceAlen)
            obtain ⟨l', h1, rfl, rfl, h4⟩ := fin h0 cap h6 (by omega) (Nat.le_refl _) hb
            refine ⟨cap, ?_, h4, h6, by omega, Nat.le_refl _⟩
            simp only [Instr.sliceBounds, Sem.run_bind, Sem.run_pure, Result.andThen_ok, h5]
            cases lo' <;> simp_all
  | some vm =>
    cases mx' with
    | none => exact r3.elim
    | some xm =>
      obtain ⟨Om, rm⟩ := r3
      simp only at hb
      split at hb
      · simp at hb
      · rename_i m0 hm0
        obtain ⟨h7, h8⟩ := run_sliceBound (P := P) rm hm0 hcap (if b then .slice3Acap else .slice3Alen)
        cases hi with
        | none => simp at hb
        | some v =>
          cases hi' with
          | none => exact r2.elim
          | some x =>
            obtain ⟨Ov, rv⟩ := r2
            simp only at hb
            split at hb
            · simp at hb
            · rename_i h0 hh
              have hm : m = m0 := by
                cases lo with
                | none => simp [lowOf] at hb; omega
                | some v => simp only [lowOf] at hb; split at hb <;> simp at hb; omega
              subst hm
              obtain ⟨h5, h6⟩ := run_sliceBound (P := P) rv hh (Nat.le_refl m) .slice3B
              obtain ⟨l', h1, rfl, rfl, h4⟩ := fin h0 m (by omega) h6 (by omega) hb
              refine ⟨m, ?_, h4, by omega, h6, by omega⟩
              simp only [Instr.sliceBounds, Sem.run_bind, Sem.run_pure, Result.andThen_ok, h5, h7]
              cases lo' <;> simp_all

theorem run_minmax {b : Bool} {v u r : AV} {x y : Value} {Ov Ou : Nat → Nat} (rv : RV g w v x Ov) (ru : RV g w u y Ou) (h : minmaxOf b v u = some r) :
    ∃ z, (match b with | true => Builtin.max2 x y | false => Builtin.min2 x y).run P w = .ok z w ∧ RV g w r z zero := by
  unfold minmaxOf at h
  split at h
  · rename_i k m j n
    have hx := ev_int rv rfl
    have hy := ev_int ru rfl
    subst hx hy
    split at h
    · rename_i hk
      have := kindEq_eq hk
      subst this
      cases b
      · simp only [Bool.false_eq_true, if_false] at h
        split at h
        · rename_i hd
          simp only [decide_eq_true_eq] at hd
          simp only [Option.some.injEq] at h; subst h
          exact ⟨.int k n, by simp [Builtin.min2, hd], rv_int _ _⟩
        · rename_i hd
          simp only [decide_eq_false_iff_not] at hd
          simp only [Option.some.injEq] at h; subst h
          exact ⟨.int k m, by simp [Builtin.min2, hd], rv_int _ _⟩
      · simp only [if_true] at h
        split at h
        · rename_i hd
          simp only [decide_eq_true_eq] at hd
          simp only [Option.some.injEq] at h; subst h
          exact ⟨.int k n, by simp [Builtin.max2, hd], rv_int _ _⟩
        · rename_i hd
          simp only [decide_eq_false_iff_not] at hd
          simp only [Option.some.injEq] at h; subst h
          exact ⟨.int k m, by simp [Builtin.max2, hd], rv_int _ _⟩
    · simp at h
  · simp at h
end
end Go.Vm

/-
  SINGLE OPERATIONS (7): slice expressions, min and max.
-/
namespace Go.Vm
section
variable {P : Program} {g : Gh} {w : World} {t : Array Value} {O : Nat → Nat} {st st' : St} {a : AV} {o : Oper}

theorem run_slice {ty : TypeId} {sz : Nat} (hty : tySlice P ty sz = true) {ad : Option Addr} {len cap l h m' : Nat} {lo hi mx : Option Value}
    (hb : (Instr.sliceBounds true len cap lo hi mx).run P w = .ok (l, h, m') w) :
    (Instr.sliceAt ty (.slice ad len cap) lo hi mx).run P w = .ok (.slice (if m' = l then ad else ad.map (·.add (l * sz))) (h - l) (m' - l)) w := by
  obtain ⟨e, hu, hs, _⟩ := tySlice_elem hty
  simp only [Instr.sliceAt, Sem.run_bind, run_underlying hu, Result.andThen_ok, Instr.slice, hb, run_sizeOf hs, Sem.run_pure]

theorem RD.slice {w : World} {pm : Nat → Nat → Prop} {xs : List (List D)} {ad : Option Addr} {len cap l h m' sz : Nat} (r : RD w pm (.lst xs) (.slice ad len cap))
    (hk : headOk sz xs = true) (h1 : l ≤ h) (h2 : h ≤ len) (h3 : h ≤ m') (h4 : m' ≤ cap) :
    RD w pm (.lst (sub xs l (h - l))) (.slice (if m' = l then ad else ad.map (·.add (l * sz))) (h - l) (m' - l)) := by
  rcases r.list with ⟨rfl, a, c, e⟩ | ⟨b, off, m, c, e, hm, hcap, hl, hrc, hp⟩
  · injection e with e1 e2 e3
    have hh : h - l = 0 := by omega
    rw [hh]
    have : sub ([] : List (List D)) l 0 = [] := by simp [sub]
    rw [this]
    exact .nil _ _
  · injection e with e1 e2 e3
    subst e1 e2 e3
    have hlen : (sub xs l (h - l)).length = h - l := sub_length (by omega)
    by_cases hz : h - l = 0
    · have : sub xs l (h - l) = [] := by rw [hz]; simp [sub]
      rw [this, hz]
      exact .nil _ _
    · have hml : m' ≠ l := by omega
      have hsz : sz = m := by
        cases xs with
        | nil => simp [sub] at hlen; omega
        | cons e r =>
          simp only [headOk, Nat.beq_eq] at hk
          exact hk.symm.trans (hl e (.head _))
      subst hsz
      rw [if_neg hml]
      simp only [Option.map_some, addr_add]
      have hsl := sub_len hl l (h - l)
      have := RCs.rd (w := w) (pm := pm) (xs := sub xs l (h - l)) (b := b) (off := off + l * sz) (m := sz) (cap := m' - l) hm (by rw [hlen]; omega) hsl
        (by rw [flatten_sub hl]; exact hrc.sub _ _) (fun j hj => ?_)
      · rw [hlen] at this; exact this
      · rw [hlen] at hj
        rw [Nat.add_assoc]
        refine hp _ ?_
        have : l * sz + (h - l) * sz ≤ xs.length * sz := by rw [← Nat.add_mul]; exact Nat.mul_le_mul_right _ (by omega)
        omega

theorem op_slice {m : Nat} {x : Rd} {lo hi mx : Option Rd} (s : S P g w st t O) (h : opSlice m x lo hi mx st = some (a, st')) (hc : chkOp P (.slice m x lo hi mx) o.op = true) :
    Op1 P g w t O st' a ((execOp (ev t) o).run P w) := by
  obtain ⟨dst, op, ty, pos, aft, gd⟩ := o
  simp only [chkOp] at hc
  split at hc
  · rename_i ty' y l' h' k'
    simp only [Bool.and_eq_true] at hc
    obtain ⟨⟨⟨⟨h1, h2⟩, h3⟩, h4⟩, h5⟩ := hc
    obtain ⟨v, e1, r1, k1⟩ := rdp h
    obtain ⟨Ov, O1, rv, s1, l1⟩ := s.rd h2 r1
    split at k1
    · rename_i vl e2 r2
      obtain ⟨O2, q2, s2, l2⟩ := s1.rdOpt h3 r2
      split at k1
      · rename_i vh e3 r3
        obtain ⟨O3, q3, s3, l3⟩ := s2.rdOpt h4 r3
        split at k1
        · rename_i vm e4 r4
          obtain ⟨O4, q4, s4, l4⟩ := s3.rdOpt h5 r4
          split at k1
          · rename_i hok
            split at k1
            · rename_i r hr
              simp only [Option.some.injEq, Prod.mk.injEq] at k1
              obtain ⟨rfl, rfl⟩ := k1
              have hle : ∀ b, Ov b + O4 b ≤ O b := fun b => by have := l1 b; have := l2 b; have := l3 b; have := l4 b; omega
              unfold sliceOf at hr
              split at hr
              · simp at hr
              · rename_i len hlen
                obtain ⟨ad, cap, hx⟩ := lenOf_rel hlen rv
                split at hr
                · simp at hr
                · rename_i l hh mm hb
                  have fin : ∀ {cap : Nat} {r : AV}, ev t y = .slice ad len cap → len ≤ cap →
                      (∀ m', l ≤ hh → hh ≤ len → hh ≤ m' → m' ≤ cap → ∃ Oa, (∀ b, Oa b ≤ Ov b) ∧ RV g w r (.slice (if m' = l then ad else ad.map (·.add (l * m))) (hh - l) (m' - l)) Oa) →
                      Op1 P g w t O ⟨e4, st.hs⟩ r ((execOp (ev t) ⟨dst, .slice ty' y l' h' k', ty, pos, aft, gd⟩).run P w) := by
                    intro cap r hx hcap hr
                    obtain ⟨m', e1, e2, e3, e4, e5⟩ := run_bounds (P := P) (w := w) (b := true) q2 q3 q4 hcap hb
                    obtain ⟨Oa, hO, hr⟩ := hr m' e2 e3 e4 e5
                    refine .pure s (x := _) ?_ hr s4 fun b => by have := hle b; have := hO b; omega
                    simp only [execOp, hx]
                    rw [Sem.run_bind, run_slice h1 e1]; rfl
                  split at hr
                  · rename_i xs
                    simp only [lenOf, Option.some.injEq] at hlen
                    subst hlen
                    split at hr
                    · rename_i hk
                      simp only [Option.some.injEq] at hr
                      subst hr
                      simp only [RV] at rv
                      have hcap : xs.length ≤ cap := by
                        have := rv.1; rw [hx] at this
                        rcases this.list with ⟨rfl, _⟩ | ⟨_, _, _, _, e, _, h, _⟩
                        · simp
                        · injection e with _ _ e; omega
                      refine fin hx hcap fun m' g1 g2 g3 g4 => ⟨zero, fun _ => Nat.zero_le _, ?_⟩
                      simp only [RV]
                      have := rv.1; rw [hx] at this
                      exact ⟨this.slice hk g1 g2 g3 g4, fun _ => trivial⟩
                    · simp at hr
                  · simp only [lenOf, Option.some.injEq] at hlen
                    subst hlen
                    simp only [Option.some.injEq] at hr
                    subst hr
                    simp only [RV] at rv
                    rw [rv.1] at hx
                    injection hx with hx1 hx2 hx3
                    subst hx1 hx3
                    refine fin (cap := 0) rv.1 (Nat.le_refl _) fun m' g1 g2 g3 g4 => ⟨zero, fun _ => Nat.zero_le _, ?_⟩
                    simp only [RV]
                    have : hh - l = 0 := by omega
                    have h0 : m' - l = 0 := by omega
                    rw [this, h0]
                    exact ⟨by split <;> rfl, fun _ => trivial⟩
                  · rename_i k xs
                    simp only [lenOf, Option.some.injEq] at hlen
                    subst hlen
                    split at hr
                    · rename_i hkm
                      rw [Nat.beq_eq] at hkm; subst hkm
                      have rv0 := rv
                      simp only [RV, Own] at rv
                      have hshare : RD w g.pm (.lst xs) (ev t y) := by
                        have := RV.share _ _ _ rv0
                        simp only [share, RV] at this
                        exact this.1
                      have hk : headOk k xs = true := by
                        cases xs with
                        | nil => rfl
                        | cons e r =>
                          rcases rv with ⟨h, _⟩ | ⟨_, _, _, _, _, _, _, _, hl, _⟩
                          · simp at h
                          · simp only [headOk, Nat.beq_eq]; exact hl e (.head _)
                      have hcap : xs.length ≤ cap := by
                        rw [hx] at hshare
                        rcases hshare.list with ⟨rfl, _⟩ | ⟨_, _, _, _, e, _, h, _⟩
                        · simp
                        · injection e with _ _ e; omega
                      split at hr
                      · rename_i hhl
                        rw [Nat.beq_eq] at hhl; subst hhl
                        simp only [Option.some.injEq] at hr
                        subst hr
                        refine fin hx hcap fun m' g1 g2 g3 g4 => ?_
                        simp only [RV, Own]
                        by_cases hml : m' = l
                        · refine ⟨zero, fun _ => Nat.zero_le _, .inl ⟨?_, fun _ => rfl, ?_⟩⟩
                          · have : xs.length - l = 0 := by omega
                            rw [this]; simp [sub]
                          · have h0 : m' - l = 0 := by omega
                            have h1 : xs.length - l = 0 := by omega
                            rw [h0, h1]
                            exact ⟨_, rfl⟩
                        · rcases rv with ⟨rfl, hz, a, e⟩ | ⟨b, off, cap', c, el, e, hc1, hm, hl, hbk, hsz, hrc, hpm, hp, rfl⟩
                          · rw [hx] at e
                            injection e with e1 e2 e3
                            subst e3
                            simp at g1 g2; omega
                          · rw [hx] at e
                            injection e with e1 e2 e3
                            subst e1 e3
                            have hlen : (sub xs l (xs.length - l)).length = xs.length - l := sub_length (by omega)
                            refine ⟨one b, fun _ => Nat.le_refl _, .inr ⟨b, off + l * k, m' - l, c, el, ?_, by omega, hm, sub_len hl _ _, hbk, ?_, ?_, ?_, fun _ j hj => ?_, rfl⟩⟩
                            · rw [if_neg hml, hlen]; simp [addr_add]
                            · have : l * k + (m' - l) * k ≤ cap * k := by rw [← Nat.add_mul]; exact Nat.mul_le_mul_right _ (by omega)
                              omega
                            · rw [flatten_sub hl]; exact hrc.sub _ _
                            · intro o ho
                              obtain ⟨h1, h2⟩ := hpm o ho
                              refine ⟨h1, ?_⟩
                              have : l * k + (xs.length - l) * k = xs.length * k := by rw [← Nat.add_mul]; congr 1; omega
                              rw [hlen]; omega
                            · rw [hlen] at hj
                              rw [Nat.add_assoc]
                              refine hp (by trivial) _ ?_
                              have : l * k + (xs.length - l) * k = xs.length * k := by rw [← Nat.add_mul]; congr 1; omega
                              omega
                      · simp only [Option.some.injEq] at hr
                        subst hr
                        refine fin hx hcap fun m' g1 g2 g3 g4 => ⟨zero, fun _ => Nat.zero_le _, ?_⟩
                        simp only [RV]
                        rw [hx] at hshare
                        exact ⟨hshare.slice hk g1 g2 g3 g4, fun _ => trivial⟩
                    · simp at hr
                  · rename_i id off len0
                    simp only [lenOf, Option.some.injEq] at hlen
                    subst hlen
                    simp only [Option.some.injEq] at hr
                    subst hr
                    simp only [RV] at rv
                    obtain ⟨rv, _⟩ := rv
                    rcases rv with ⟨rfl, ad', e⟩ | ⟨b, cap', hob, e, hc1, hsz⟩
                    · rw [hx] at e
                      injection e with e1 e2 e3
                      subst e3
                      refine fin hx (Nat.le_refl _) fun m' g1 g2 g3 g4 => ⟨zero, fun _ => Nat.zero_le _, ?_⟩
                      simp only [RV]
                      have h0 : hh - l = 0 := by omega
                      have h1 : m' - l = 0 := by omega
                      rw [h0, h1]
                      exact ⟨.inl ⟨rfl, _, rfl⟩, fun _ => trivial⟩
                    · rw [hx] at e
                      injection e with e1 e2 e3
                      subst e1 e3
                      have hesz : g.esz id = m := by
                        simp only [okSl] at hok
                        obtain ⟨Oe, Oh, re, rh, ho⟩ := s.parts
                        split at hok
                        · rename_i k xs hg
                          rw [Nat.beq_eq] at hok; subst hok
                          obtain ⟨O1, q, _⟩ := RL.get rh hg
                          simp only [RObj] at q
                          rcases q with ⟨_, _, h, _⟩ | ⟨_, _, _, _, h, _⟩
                          · exact h
                          · exact h
                        · rename_i cs hg
                          rw [Nat.beq_eq] at hok; subst hok
                          obtain ⟨O1, q, _⟩ := RL.get rh hg
                          simp only [RObj] at q
                          obtain ⟨_, _, _, _, _, _, h, _⟩ := q
                          exact h
                        · simp at hok
                      refine fin hx hc1 fun m' g1 g2 g3 g4 => ⟨zero, fun _ => Nat.zero_le _, ?_⟩
                      simp only [RV]
                      refine ⟨?_, fun _ => trivial⟩
                      by_cases hml : m' = l
                      · have h0 : hh - l = 0 := by omega
                        have h1 : m' - l = 0 := by omega
                        rw [h0, h1]
                        exact .inl ⟨rfl, _, rfl⟩
                      · refine .inr ⟨b, m' - l, hob, ?_, by omega, ?_⟩
                        · rw [if_neg hml]; simp only [Option.map_some, addr_add]
                          rw [Nat.add_mul, hesz, Nat.add_assoc]
                        · have : (off + l + (m' - l)) * g.esz id ≤ (off + cap) * g.esz id := Nat.mul_le_mul_right _ (by omega)
                          omega
                  · simp at hr
            · simp at k1
          · simp at k1
        · simp at k1
      · simp at k1
    · simp at k1
  · simp at hc

theorem run_fold {b : Bool} : ∀ {vs : List AV} {xs : List Value} {Ovs : Nat → Nat} {v r : AV} {x : Value} {Ov : Nat → Nat}, RV g w v x Ov → RVs g w vs xs Ovs → foldMM b v vs = some r →
    (vs = [] → ∃ k n, v = .d (.int k n)) →
    ∃ z, (xs.foldlM (match b with | true => Builtin.max2 | false => Builtin.min2) x).run P w = .ok z w ∧ RV g w r z zero
  | [], xs, _, v, r, x, Ov, rv, rvs, h, hi => by
    simp only [RVs] at rvs
    simp only [foldMM, Option.some.injEq] at h
    obtain ⟨rfl, _⟩ := rvs
    subst h
    obtain ⟨k, n, rfl⟩ := hi rfl
    have hx := ev_int rv rfl
    subst hx
    exact ⟨_, rfl, rv_int _ _⟩
  | u :: us, xs, _, v, r, x, Ov, rv, rvs, h, hi => by
    simp only [RVs] at rvs
    obtain ⟨y, s, O1, O2, rfl, r1, r2, _⟩ := rvs
    simp only [foldMM] at h
    split at h
    · rename_i v2 hv
      obtain ⟨z, hz, rz⟩ := run_minmax (P := P) rv r1 hv
      have hint : ∃ k n, v2 = .d (.int k n) := by
        unfold minmaxOf at hv
        split at hv
        · split at hv
          · split at hv <;> simp only [Option.some.injEq] at hv <;> exact ⟨_, _, hv.symm⟩
          · simp at hv
        · simp at hv
      obtain ⟨z2, hz2, rz2⟩ := run_fold (b := b) rz r2 h (fun _ => hint)
      refine ⟨z2, ?_, rz2⟩
      rw [List.foldlM_cons, Sem.run_bind]
      cases b
      · rw [hz]; exact hz2
      · rw [hz]; exact hz2
    · simp at h

theorem op_minmax {b : Bool} {xs : List Rd} (s : S P g w st t O) (h : opMinmax b xs st = some (a, st')) (hc : chkOp P (.minmax b xs) o.op = true) :
    Op1 P g w t O st' a ((execOp (ev t) o).run P w) := by
  obtain ⟨dst, op, ty, pos, aft, gd⟩ := o
  simp only [chkOp] at hc
  split at hc
  · rename_i c
    simp only [Bool.and_eq_true] at hc
    obtain ⟨h1, h4⟩ := hc
    obtain ⟨callee, args, ats⟩ := c
    have := calleeB_eq h1; subst this
    unfold opMinmax at h
    split at h
    · rename_i kk nn vs e hr
      obtain ⟨Ov, O', rvs, s', l⟩ := s.rdAll h4 hr
      split at h
      · rename_i r hf
        simp only [Option.some.injEq, Prod.mk.injEq] at h
        obtain ⟨rfl, rfl⟩ := h
        simp only [RVs] at rvs
        obtain ⟨x, ys, O1, O2, he, r1, r2, _⟩ := rvs
        obtain ⟨z, hz, rz⟩ := run_fold (P := P) (b := b) r1 r2 hf fun _ => ⟨_, _, rfl⟩
        refine .flat s (x := z) ?_ rz s' (S.le_left l)
        have ha : (args.map (ev t)).toList = x :: ys := by simpa using he
        cases b
        · have hrun : (Builtin.min_ ats ty (args.map (ev t))).run P w = .ok z w := by unfold Builtin.min_; rw [ha]; exact hz
          simp only [execOp, resolve, pure_bind, invoke, builtin]
          rw [Sem.run_bind, hrun]; rfl
        · have hrun : (Builtin.max_ ats ty (args.map (ev t))).run P w = .ok z w := by unfold Builtin.max_; rw [ha]; exact hz
          simp only [execOp, resolve, pure_bind, invoke, builtin]
          rw [Sem.run_bind, hrun]; rfl
      · simp at h
    · simp at h
  · simp at hc
end
end Go.Vm

/-
  SINGLE OPERATIONS (8): new variables.
-/
namespace Go.Vm

/-- A new variable of the interpreter's heap, at a block. -/
def Gh.add (g : Gh) (id b base esz bsz : Nat) : Gh where
  obj i := if i = id then some b else g.obj i
  base i := if i = id then base else g.base i
  esz i := if i = id then esz else g.esz i
  bsz i := if i = id then bsz else g.bsz i
  pm := g.pm

section
variable {P : Program} {g : Gh} {w : World} {t : Array Value} {O : Nat → Nat} {st st' : St} {a : AV} {o : Oper}

theorem heap_alloc_old {w : World} {o : Go.Obj} {b : Nat} (h : b < w.heap.size) : (w.alloc o).heap[b]? = w.heap[b]? := by
  show (w.heap.push o)[b]? = _
  rw [Array.getElem?_push, if_neg (Nat.ne_of_lt h)]
theorem heap_alloc_new (w : World) (o : Go.Obj) : (w.alloc o).heap[w.heap.size]? = some o := by
  show (w.heap.push o)[w.heap.size]? = _
  rw [Array.getElem?_push, if_pos rfl]

theorem Ext.alloc (hp : ∀ b o, g.pm b o → b < w.heap.size) (o : Go.Obj) (T : Nat → Prop) (hc : ∀ off, objFrozen o off = false := by intro off; simp [objFrozen]) : Ext g w g (w.alloc o) T where
  obj _ _ h := ⟨h, rfl, rfl, rfl⟩
  pm b o h := ⟨h, cell?_of_block (heap_alloc_old (hp b o h)) o⟩
  blk b hb _ := ⟨heap_alloc_old hb, fun _ h => h⟩
  size := by simp
  lp b rc h := ⟨rc, by rw [heap_alloc_old (block_lt h)]; exact h⟩
  same := ⟨rfl, rfl, fun a => by
    by_cases h : a.block < w.heap.size
    · simp only [World.frozen?, heap_alloc_old h]
    · have h2 : w.heap[a.block]? = none := Array.getElem?_eq_none (by omega)
      by_cases e : a.block = w.heap.size
      · have := hc a.off
        simp only [World.frozen?, e, heap_alloc_new, h2]
        rw [← e, h2]
        cases o <;> first | rfl | exact this
      · have h3 : (w.alloc o).heap[a.block]? = none := Array.getElem?_eq_none (by simp; omega)
        simp only [World.frozen?, h2, h3]⟩
theorem Ext.add {w' : World} {T : Nat → Prop} (h : Ext g w g w' T) {id : Nat} (hn : g.obj id = none) (b base esz bsz : Nat) : Ext g w (g.add id b base esz bsz) w' T where
  obj i c hc := by
    have : i ≠ id := by rintro rfl; rw [hn] at hc; simp at hc
    simp [Gh.add, this, hc]
  pm b o hp := h.pm b o hp
  blk := h.blk
  size := h.size
  lp := h.lp
  same := h.same

theorem REnv.ext {g' : Gh} {w' : World} {T : Nat → Prop} (h : Ext g w g' w' T) {e : Env} (r : REnv g w e t O) (hO : ∀ b, O b ≠ 0 → ¬ T b) : REnv g' w' e t O :=
  r.imp' fun _ v O1 _ hle q => ⟨q.1, RV.ext h v _ O1 q.2 fun b hb => hO b (by have := hle b; omega)⟩

theorem RObj.ext0 {g' : Gh} {w' : World} {T : Nat → Prop} (h : Ext g w g' w' T) {id : Nat} {o : Obj} (r : RObj P g w id o O) (hO : ∀ b, O b ≠ 0 → ¬ T b) : RObj P g' w' id o O := by
  cases o with
  | cells cs =>
    simp only [RObj] at r ⊢
    obtain ⟨b, c, el, O1, h1, h2, h3, h4, h5, h6, h7, h8⟩ := r
    obtain ⟨a1, a2, a3, a4⟩ := h.obj id b h1
    have hb : ¬ T b := hO b (by rw [h8 b]; simp)
    obtain ⟨e1, e2⟩ := h.blk b (block_lt h5) hb
    exact ⟨b, c, el, O1, a1, a2.trans h2, a3.trans h3, a4.trans h4, e1.trans h5, RVs.ext h _ _ _ h6 (fun x hx => hO x (by rw [h8 x]; omega)), fun o ho => h7 o (e2 o ho), h8⟩
  | arr m xs =>
    simp only [RObj] at r ⊢
    rcases r with ⟨h1, h2, h3, h4, ⟨b, h5⟩, h6⟩ | ⟨b, c, el, h1, h2, h3, h4, h5, h6, h7, h8, h9, h10⟩
    · obtain ⟨a1, a2, a3, a4⟩ := h.obj id b h5
      exact .inl ⟨h1, a4.trans h2, a3.trans h3, h4, ⟨b, a1⟩, h6⟩
    · obtain ⟨a1, a2, a3, a4⟩ := h.obj id b h1
      have hb : ¬ T b := hO b (by rw [h10 b]; simp)
      obtain ⟨e1, e2⟩ := h.blk b (block_lt h4) hb
      exact .inr ⟨b, c, el, a1, a3.trans h2, h3, e1.trans h4, by rw [a4]; exact h5, by rw [a2, a4]; exact h6, h7, by rw [a2]; exact h8.ext h (.inl e1), fun o ho => h9 o (e2 o ho), h10⟩
  | loop snap params assign body busy pend =>
    simp only [RObj] at r ⊢
    obtain ⟨b, rc, h1, h2, h3, h4, h5, h6, h7, h8, h9, h10, h12⟩ := r
    obtain ⟨a1, _⟩ := h.obj id b h1
    have hb : ¬ T b := hO b (by rw [h12 b]; simp)
    obtain ⟨e1, e2⟩ := h.blk b (block_lt h2) hb
    exact ⟨b, rc, a1, e1.trans h2, h3, h4, h5, h6, h7, h8, REnv.ext h h9 (by simp), h10, h12⟩
theorem RObj.ext {g' : Gh} {w' : World} {T : Nat → Prop} (h : Ext g w g' w' T) {id : Nat} {o : Obj} (r : RObj P g w id o O) (hO : ∀ b, O b ≠ 0 → ¬ T b)
    (_ : ∀ b ds, w.heap[b]? = some (.deferred ds) → ¬ T b) : RObj P g' w' id o O := r.ext0 h hO

theorem S.new {st : St} (s : S P g w st t O) {blk : Go.Obj} {o : Obj} {base esz bsz : Nat} {O1 : Nat → Nat}
    (r : RObj P (g.add st.hs.next w.heap.size base esz bsz) (w.alloc blk) st.hs.next o O1) (hle : ∀ b, O1 b + O b ≤ 1) (hhi : ∀ b, O1 b ≠ 0 → b < w.heap.size + 1)
    (hc : ∀ off, objFrozen blk off = false := by intro off; simp [objFrozen]) :
    S P (g.add st.hs.next w.heap.size base esz bsz) (w.alloc blk) ⟨st.env, (boxNew st.hs o).2⟩ t (fun b => O1 b + O b) ∧
      Ext g w (g.add st.hs.next w.heap.size base esz bsz) (w.alloc blk) (fun b => O b ≠ 0) := by
  have hn := s.fresh st.hs.next (Nat.le_refl _)
  have hx : Ext g w (g.add st.hs.next w.heap.size base esz bsz) (w.alloc blk) (fun _ => False) := (Ext.alloc s.pmlt blk _ hc).add hn _ _ _ _
  obtain ⟨Oe, Oh, re, rh, ho⟩ := s.parts
  have re' := REnv.ext hx re (by simp)
  have rh' : RHeap P (g.add st.hs.next w.heap.size base esz bsz) (w.alloc blk) st.hs.heap Oh := rh.imp' fun k v O1 _ _ q => q.ext hx (by simp) (by simp)
  have hk : ∀ p ∈ st.hs.heap, p.1 ≠ st.hs.next := by
    intro p hp e
    have : ∃ b, g.obj p.1 = some b := by
      clear re re' rh' hx r hle hhi ho
      generalize st.hs.heap = l at rh hp
      induction l generalizing Oh with
      | nil => simp at hp
      | cons q l ih =>
        obtain ⟨k, v⟩ := q
        obtain ⟨Q1, Q2, q1, q2, _⟩ := rh
        rcases List.mem_cons.1 hp with rfl | hp
        · cases v with
          | cells cs => simp only [RObj] at q1; obtain ⟨b, _, _, _, h, _⟩ := q1; exact ⟨b, h⟩
          | arr m xs =>
            simp only [RObj] at q1
            rcases q1 with ⟨_, _, _, _, h, _⟩ | ⟨b, _, _, h, _⟩
            · exact h
            · exact ⟨b, h⟩
          | loop _ _ _ _ _ _ => simp only [RObj] at q1; obtain ⟨b, _, h, _⟩ := q1; exact ⟨b, h⟩
        · exact ih Q2 q2 hp
    rw [e, hn] at this
    simp at this
  rw [← del_of_not_mem hk] at rh'
  obtain ⟨O3, r3, h3⟩ := RL.put s.sh rh' r
  refine ⟨⟨s.se, s.sh.put _ _, ⟨Oe, O3, re', r3, fun b => ?_⟩, hle, fun b hb => ?_, fun i hi => ?_, fun b o hp => ?_⟩, hx.mono (fun _ _ h => h.elim)⟩
  · have := h3 b; have := ho b; show O1 b + O b = Oe b + O3 b; omega
  · simp only [World.size_alloc]
    by_cases h1 : O1 b = 0
    · have := s.hi b (by simp only [h1] at hb; omega); omega
    · exact hhi b h1
  · have hi' : st.hs.next + 1 ≤ i := hi
    simp only [Gh.add]
    rw [if_neg (by omega)]
    exact s.fresh i (by omega)
  · simp only [World.size_alloc]; have := s.pmlt b o hp; omega

theorem op_alloc {zs : List AV} (s : S P g w st t O) (h : opAlloc zs st = some (a, st')) (hc : chkOp P (.alloc zs) o.op = true) :
    Op1 P g w t O st' a ((execOp (ev t) o).run P w) := by
  obtain ⟨dst, op, ty, pos, aft, gd⟩ := o
  simp only [chkOp] at hc
  split at hc
  · rename_i e
    split at hc
    · rename_i i hi
      split at hc
      · rename_i z hz
        simp only [opAlloc, Option.some.injEq, Prod.mk.injEq] at h
        obtain ⟨rfl, rfl⟩ := h
        have hO : O w.heap.size = 0 := by
          have := s.hi w.heap.size
          by_cases h : O w.heap.size = 0
          · exact h
          · have := this h; omega
        have r : RObj P (g.add st.hs.next w.heap.size 0 1 zs.length) (w.alloc (.cells z.cells e)) st.hs.next (.cells zs) (fun x => zero x + one w.heap.size x) := by
          simp only [RObj]
          refine ⟨w.heap.size, z.cells, e, zero, by simp [Gh.add], by simp [Gh.add], by simp [Gh.add], by simp [Gh.add], heap_alloc_new _ _, RVs.consts hc, fun o ho => ?_, fun _ => rfl⟩
          have := s.pmlt _ o ho; omega
        obtain ⟨s', hx⟩ := s.new r (fun b => by
          by_cases hb : b = w.heap.size
          · subst hb; simp [hO]
          · have := s.le b; simp [one, hb]; exact this) (fun b hb => by
          have := one_ne (b := w.heap.size) (x := b) (by simpa using hb); omega)
        refine ⟨.pointer (some ⟨w.heap.size, 0, none⟩), _, _, zero, _, .inl ?_, ?_, s', hx, fun b => by have := s'.le b; simpa using this, fun b hb => ?_, by simp⟩
        · simp [execOp, Instr.alloc, zeroValue, typeInfo, hi, hz, newVar, newRow]
        · simp only [RV]
          exact ⟨⟨w.heap.size, by simp [Gh.add], by simp [Gh.add]⟩, fun _ => trivial⟩
        · have : b ≠ w.heap.size := by omega
          simp [one, this]
      · simp at hc
    · simp at hc
  · simp at hc
end
end Go.Vm

/-
  SINGLE OPERATIONS (9): variables that begin with a value; loads.
-/
namespace Go.Vm
section
variable {P : Program} {g : Gh} {w : World} {t : Array Value} {O : Nat → Nat} {st st' : St} {a : AV} {o : Oper}

def Value1 (x : Value) : Prop := x.oneCell' = true
theorem cell_one {v : AV} {x : Value} {Ov : Nat → Nat} (h : isCell v = true) (r : RV g w v x Ov) : x.oneCell' = true := by
  cases v with
  | junk => simp [isCell] at h
  | agg cs => simp [isCell] at h
  | tup cs => simp [isCell] at h
  | gl n => simp only [RV] at r; obtain ⟨⟨_, _, rfl⟩, _⟩ := r; rfl
  | d c => simp only [RV] at r; obtain ⟨r, _⟩ := r; cases r <;> rfl
  | nl => simp only [RV] at r; rw [r.1]; rfl
  | own p m xs => simp only [RV, Own] at r; rcases r with ⟨_, _, _, rfl⟩ | ⟨_, _, _, _, _, rfl, _⟩ <;> rfl
  | nilp => simp only [RV] at r; rw [r.1]; rfl
  | ptr id off => simp only [RV] at r; obtain ⟨⟨_, _, rfl⟩, _⟩ := r; rfl
  | pel id i off => simp only [RV] at r; obtain ⟨⟨_, _, rfl⟩, _⟩ := r; rfl
  | pim cs off => simp only [RV] at r; obtain ⟨⟨_, _, rfl, _⟩, _⟩ := r; rfl
  | sl id off len => simp only [RV] at r; rcases r with ⟨⟨_, _, rfl⟩ | ⟨_, _, _, rfl, _⟩, _⟩ <;> rfl
  | fn f a c => simp only [RV] at r; obtain ⟨⟨_, _, rfl, _⟩, _⟩ := r; rfl
  | nilf => simp only [RV] at r; rw [r.1]; rfl
  | yield l => simp only [RV] at r; obtain ⟨⟨_, _, rfl⟩, _⟩ := r; rfl
theorem cells_of_one {x : Value} (h : x.oneCell' = true) : x.cells = #[x] := by cases x <;> first | rfl | simp [Value.oneCell'] at h
/-- A value's cells. -/
theorem RV.cells {v : AV} {x : Value} {Ov : Nat → Nat} (h : v.cells.all isCell = true) (r : RV g w v x Ov) : RVs g w v.cells x.cells.toList Ov := by
  have one : isCell v = true → v.cells = [v] → RVs g w v.cells x.cells.toList Ov := by
    intro h1 h2
    rw [h2, cells_of_one (cell_one h1 r)]
    simp only [RVs]
    exact ⟨x, [], Ov, zero, rfl, r, ⟨rfl, fun _ => rfl⟩, fun _ => rfl⟩
  cases v with
  | agg cs =>
    simp only [RV] at r
    obtain ⟨xs, rfl, r⟩ := r
    exact r
  | _ => exact one (by simpa [AV.cells] using h) rfl
theorem RVs.one {vs : List AV} {xs : List Value} {Ov : Nat → Nat} (h : vs.all isCell = true) (r : RVs g w vs xs Ov) : ∀ x ∈ xs, x.oneCell' = true := by
  induction vs generalizing xs Ov with
  | nil => simp only [RVs] at r; rw [r.1]; simp
  | cons v vs ih =>
    simp only [RVs] at r
    obtain ⟨x, s, O1, O2, rfl, r1, r2, _⟩ := r
    simp only [List.all_cons, Bool.and_eq_true] at h
    intro y hy
    rcases List.mem_cons.1 hy with rfl | hy
    · exact cell_one h.1 r1
    · exact ih h.2 r2 y hy

theorem op_box {x : Rd} (s : S P g w st t O) (h : opBox x st = some (a, st')) (hc : chkOp P (.box x) o.op = true) :
    Op1 P g w t O st' a ((execOp (ev t) o).run P w) := by
  obtain ⟨dst, op, ty, pos, aft, gd⟩ := o
  simp only [chkOp] at hc
  split at hc
  · rename_i e y
    obtain ⟨v, e1, r1, k1⟩ := rdp h
    obtain ⟨Ov, O1, rv, s1, l1⟩ := s.rd hc r1
    split at k1
    · rename_i hall
      simp only [Option.some.injEq, Prod.mk.injEq] at k1
      obtain ⟨rfl, rfl⟩ := k1
      have rvs := rv.cells hall
      have hn := s1.fresh st.hs.next (Nat.le_refl _)
      have hO : ∀ b, w.heap.size ≤ b → O b = 0 := by
        intro b hb
        by_cases h : O b = 0
        · exact h
        · have := s.hi b h; omega
      have hx0 : Ext g w (g.add st.hs.next w.heap.size 0 1 v.cells.length) (w.alloc (.cells (ev t y).cells e)) (fun _ => False) := (Ext.alloc s.pmlt _ _).add hn _ _ _ _
      have r : RObj P (g.add st.hs.next w.heap.size 0 1 v.cells.length) (w.alloc (.cells (ev t y).cells e)) st.hs.next (.cells v.cells) (fun x => Ov x + one w.heap.size x) := by
        simp only [RObj]
        refine ⟨w.heap.size, (ev t y).cells, e, Ov, by simp [Gh.add], by simp [Gh.add], by simp [Gh.add], by simp [Gh.add], heap_alloc_new _ _, RVs.ext hx0 _ _ _ rvs (by simp), fun o ho => ?_, fun _ => rfl⟩
        have := s.pmlt _ o ho; omega
      have key : ∀ b, Ov b + one w.heap.size b + O1 b ≤ 1 := by
        intro b
        by_cases hb : b = w.heap.size
        · subst hb
          have := l1 w.heap.size; have := hO w.heap.size (Nat.le_refl _)
          simp; omega
        · have := l1 b; have := s.le b; simp [one, hb]; omega
      obtain ⟨s', hx⟩ := s1.new r (fun b => key b) (fun b hb => by
        by_cases h1 : Ov b = 0
        · have := one_ne (b := w.heap.size) (x := b) (by intro h2; exact hb (by show Ov b + one w.heap.size b = 0; omega)); omega
        · have := s.hi b (by have := l1 b; omega); omega)
      refine ⟨.pointer (some ⟨w.heap.size, 0, none⟩), _, _, zero, _, .inl ?_, ?_, s', hx.mono fun b _ hb => by have := l1 b; omega, fun b => by have := s'.le b; simpa using this, fun b hb => ?_, by simp⟩
      · simp [execOp, Instr.box, newVar, newRow]
      · simp only [RV]
        exact ⟨⟨w.heap.size, by simp [Gh.add], by simp [Gh.add]⟩, fun _ => trivial⟩
      · have : b ≠ w.heap.size := by omega
        have := l1 b
        simp [one, *]
    · simp at k1
  · simp at hc

/-! ### Loads -/
theorem run_loadVar_one {ty : TypeId} (h : tyOne P ty = true) {ad : Addr} {x : Value} (hx : w.cell? ad = some x) : (loadVar ty ad).run P w = .ok x w := by
  simp [loadVar, run_isAgg_false h, hx]
end
end Go.Vm

/-
  SINGLE OPERATIONS (10): loads.
-/
namespace Go.Vm
section
variable {P : Program} {g : Gh} {w : World} {t : Array Value} {O : Nat → Nat} {st st' : St} {a : AV} {o : Oper}

theorem cell_block {b : Nat} {c : Array Value} {el : TypeId} {fz : Nat × Nat} (h : w.heap[b]? = some (.cells c el fz)) (off : Nat) : w.cell? ⟨b, off, none⟩ = c[off]? := by
  simp [World.cell?, h]

/-- One cell of several is given another stand-in. -/
theorem RVs.replace {cs : List AV} {xs : List Value} {Ov : Nat → Nat} (r : RVs g w cs xs Ov) {i : Nat} {v : AV} (h : cs[i]? = some v) :
    ∃ x O1, xs[i]? = some x ∧ RV g w v x O1 ∧ (∀ b, O1 b ≤ Ov b) ∧ ∀ v2 O2, RV g w v2 x O2 → ∃ O', RVs g w (cs.set i v2) xs O' ∧ ∀ b, O' b + O1 b = Ov b + O2 b := by
  induction cs generalizing xs Ov i with
  | nil => simp at h
  | cons c cs ih =>
    simp only [RVs] at r
    obtain ⟨x, s, O1, O2, rfl, r1, r2, hs⟩ := r
    cases i with
    | zero =>
      simp at h; subst h
      refine ⟨x, O1, rfl, r1, fun b => by rw [hs b]; omega, fun v2 P2 rv2 => ⟨fun b => P2 b + O2 b, ?_, fun b => by have := hs b; show P2 b + O2 b + O1 b = Ov b + P2 b; omega⟩⟩
      simp only [List.set_cons_zero, RVs]
      exact ⟨x, s, P2, O2, rfl, rv2, r2, fun _ => rfl⟩
    | succ i =>
      simp at h
      obtain ⟨y, P1, h1, h2, h3, h4⟩ := ih r2 h
      refine ⟨y, P1, by simpa using h1, h2, fun b => by have := h3 b; rw [hs b]; omega, fun v2 P2 rv2 => ?_⟩
      obtain ⟨O', r', h'⟩ := h4 v2 P2 rv2
      refine ⟨fun b => O1 b + O' b, ?_, fun b => by have := h' b; have := hs b; show O1 b + O' b + P1 b = Ov b + P2 b; omega⟩
      simp only [List.set_cons_succ, RVs]
      exact ⟨x, s, O1, O', rfl, r1, r', fun _ => rfl⟩
theorem takes_rel (n : Nat) {v : AV} {x : Value} {Ov : Nat → Nat} (r : RV g w v x Ov) :
    ∃ O1 O2, RV g w (takes n v).1 x O1 ∧ RV g w (takes n v).2 x O2 ∧ ∀ b, O1 b + O2 b = Ov b := by
  have share := RV.share _ _ _ r
  unfold takes
  split
  · exact ⟨Ov, zero, r, by simp [RV], fun _ => rfl⟩
  · exact ⟨Ov, zero, r, share, fun _ => rfl⟩
  · refine ⟨Ov, zero, r, ?_, fun _ => rfl⟩
    cases v <;> try exact share
    rename_i p m xs
    simp only [RV, Own] at r ⊢
    rcases r with ⟨rfl, _, ad, e⟩ | ⟨b, off, cap, _, _, e, _⟩
    · exact ⟨⟨ad, 0, e⟩, fun _ => trivial⟩
    · exact ⟨⟨_, cap, e⟩, fun _ => trivial⟩
  · exact ⟨zero, Ov, share, r, fun b => by simp⟩
theorem takesAll_rel (n : Nat) : ∀ {vs : List AV} {xs : List Value} {Ov : Nat → Nat}, RVs g w vs xs Ov →
    ∃ O1 O2, RVs g w (takesAll n vs).1 xs O1 ∧ RVs g w (takesAll n vs).2 xs O2 ∧ ∀ b, O1 b + O2 b = Ov b
  | [], xs, Ov, r => by simp only [RVs, takesAll] at r ⊢; exact ⟨zero, zero, ⟨r.1, fun _ => rfl⟩, ⟨r.1, fun _ => rfl⟩, fun b => by have := r.2 b; show 0 + 0 = Ov b; omega⟩
  | v :: vs, xs, Ov, r => by
    simp only [RVs] at r
    obtain ⟨x, s, O1, O2, rfl, r1, r2, hs⟩ := r
    obtain ⟨A1, A2, a1, a2, ha⟩ := takes_rel n r1
    obtain ⟨B1, B2, b1, b2, hb⟩ := takesAll_rel n r2
    refine ⟨fun b => A1 b + B1 b, fun b => A2 b + B2 b, ?_, ?_, fun b => by have := ha b; have := hb b; have := hs b; show A1 b + B1 b + (A2 b + B2 b) = Ov b; omega⟩
    · simp only [RVs, takesAll]; exact ⟨x, s, A1, B1, rfl, a1, b1, fun _ => rfl⟩
    · simp only [RVs, takesAll]; exact ⟨x, s, A2, B2, rfl, a2, b2, fun _ => rfl⟩

/-- A variable of the heap is given another stand-in; memory is as it was. -/
theorem S.upd {st : St} (s : S P g w st t O) {id : Nat} {ob : Obj} (hg : get st.hs.heap id = some ob) :
    ∃ O1 Oz : Nat → Nat, RObj P g w id ob O1 ∧ (∀ b, O1 b + Oz b ≤ O b) ∧ ∀ (ob' : Obj) (O1' : Nat → Nat), RObj P g w id ob' O1' → (∀ b, O1' b ≤ O1 b) →
      S P g w ⟨st.env, ⟨put st.hs.heap id ob', st.hs.next⟩⟩ t (fun b => O1' b + Oz b) := by
  obtain ⟨Oe, Oh, re, rh, ho⟩ := s.parts
  obtain ⟨O1, O2, q, r2, hs⟩ := RL.take rh hg
  refine ⟨O1, fun b => Oe b + O2 b, q, fun b => by have := hs b; have := ho b; show O1 b + (Oe b + O2 b) ≤ O b; omega, fun ob' O1' q' hle => ?_⟩
  obtain ⟨O3, r3, h3⟩ := RL.put s.sh r2 q'
  have hall : ∀ b, O1' b + (Oe b + O2 b) ≤ O b := fun b => by have := hs b; have := ho b; have := hle b; omega
  exact ⟨s.se, s.sh.put _ _, ⟨Oe, O3, re, r3, fun b => by have := h3 b; show O1' b + (Oe b + O2 b) = Oe b + O3 b; omega⟩,
    fun b => Nat.le_trans (hall b) (s.le b), fun b hb => s.hi b (by have := hall b; change O1' b + (Oe b + O2 b) ≠ 0 at hb; omega), s.fresh, s.pmlt⟩

theorem RCs.vals {pm : Nat → Nat → Prop} {cs : List D} {b off : Nat} (r : RCs w pm cs b off) :
    ∃ xs : List Value, xs.length = cs.length ∧ (∀ (j : Nat) (x : Value), xs[j]? = some x → w.cell? ⟨b, off + j, none⟩ = some x) ∧ ∀ (j : Nat) (c : D) (x : Value), cs[j]? = some c → xs[j]? = some x → RD w pm c x := by
  induction cs generalizing off with
  | nil => exact ⟨[], rfl, fun j x h => by simp at h, fun j c x h => by simp at h⟩
  | cons c cs ih =>
    obtain ⟨u, hu, hr⟩ := r 0 c rfl
    have r' : RCs w pm cs b (off + 1) := by
      intro j d hj
      obtain ⟨v, hv, hr⟩ := r (j + 1) d (by simpa using hj)
      exact ⟨v, by rw [show off + 1 + j = off + (j + 1) by omega]; exact hv, hr⟩
    obtain ⟨xs, h1, h2, h3⟩ := ih r'
    refine ⟨u :: xs, by simp [h1], fun j x hj => ?_, fun j d x hd hx => ?_⟩
    · cases j with
      | zero => simp at hj; subst hj; simpa using hu
      | succ j => simp at hj; rw [show off + (j + 1) = off + 1 + j by omega]; exact h2 j x hj
    · cases j with
      | zero => simp at hd hx; subst hd hx; exact hr
      | succ j => simp at hd hx; exact h3 j d x hd hx
theorem RVs.ds {pm : Nat → Nat → Prop} (hp : g.pm = pm) : ∀ {cs : List D} {xs : List Value}, xs.length = cs.length → (∀ (j : Nat) (c : D) (x : Value), cs[j]? = some c → xs[j]? = some x → RD w pm c x) →
    RVs g w (cs.map .d) xs zero
  | [], [], _, _ => by simp [RVs]
  | c :: cs, x :: xs, h, hr => by
    simp only [List.map_cons, RVs]
    exact ⟨x, xs, zero, zero, rfl, by simp only [RV]; exact ⟨by rw [hp]; exact hr 0 c x rfl rfl, fun _ => trivial⟩,
      RVs.ds hp (by simpa using h) (fun j d y h1 h2 => hr (j + 1) d y (by simpa using h1) (by simpa using h2)), fun _ => rfl⟩
  | [], _ :: _, h, _ => by simp at h
  | _ :: _, [], h, _ => by simp at h

/-- A load out of cells of plain data. -/
theorem run_ofElem {ty : TypeId} {n : Option Nat} (ht : tyCell P ty n = true) {cs : List D} {b off k : Nat} (r : RCs w g.pm cs b off) {v : AV} (h : ofElem n cs k = some v) :
    ∃ x, (loadVar ty ⟨b, off + k, none⟩).run P w = .ok x w ∧ RV g w v x zero := by
  cases n with
  | none =>
    simp only [ofElem] at h
    split at h
    · rename_i c hc
      simp only [Option.some.injEq] at h; subst h
      obtain ⟨u, hu, hr⟩ := r k c hc
      exact ⟨u, run_loadVar_one (by simpa only [tyCell] using ht) hu, by simp only [RV]; exact ⟨hr, fun _ => trivial⟩⟩
    · simp at h
  | some n =>
    simp only [tyCell, Bool.and_eq_true] at ht
    simp only [ofElem] at h
    split at h
    · rename_i hb
      rw [Nat.ble_eq] at hb
      simp only [Option.some.injEq] at h; subst h
      obtain ⟨xs, h1, h2, h3⟩ := (r.sub k n).vals
      have hlen : (Vm.sub cs k n).length = n := sub_length hb
      refine ⟨.agg xs.toArray, ?_, ?_⟩
      · have hl := run_loadCells_list (P := P) (w := w) ⟨b, off + k, none⟩ xs (fun j v hj => by rw [addr_add]; exact h2 j v hj)
        rw [h1, hlen] at hl
        simp only [loadVar, Sem.run_bind, run_isAgg_true ht.1, Result.andThen_ok, if_true, run_sizeOf ht.2, hl, Sem.run_pure]
      · simp only [RV]
        exact ⟨xs.toArray, rfl, by simpa using RVs.ds rfl h1 h3⟩
    · simp at h

theorem sub_at {cs : List AV} {off n : Nat} (h : off + n ≤ cs.length) : cs = cs.take off ++ (Vm.sub cs off n ++ cs.drop (off + n)) := by
  have : Vm.sub cs off n ++ cs.drop (off + n) = cs.drop off := by
    unfold Vm.sub
    rw [← List.drop_drop, List.take_append_drop]
  rw [this, List.take_append_drop]

/-- Loading out of a variable. -/
theorem load_cells {ty : TypeId} {n : Option Nat} {take : Nat} (ht : tyCell P ty n = true) {st : St} (s : S P g w st t O) {id off : Nat} {b : Nat} (hob : g.obj id = some b)
    {v : AV} {h' : Heap} (h : loadAt st.hs.heap n take (.ptr id off) = some (v, h')) :
    ∃ x O1 O2, (loadVar ty ⟨b, g.base id + off, none⟩).run P w = .ok x w ∧ RV g w v x O1 ∧ S P g w ⟨st.env, ⟨h', st.hs.next⟩⟩ t O2 ∧ ∀ c, O1 c + O2 c ≤ O c := by
  simp only [loadAt] at h
  split at h
  · rename_i cs hg
    obtain ⟨O1, Oz, q, hsum, hput⟩ := s.upd hg
    have q0 := q
    simp only [RObj] at q
    obtain ⟨b', c, el, Oc, h1, h2, h3, h4, h5, h6, h7, h8⟩ := q
    rw [hob] at h1
    simp only [Option.some.injEq] at h1
    subst h1
    rw [h2, Nat.zero_add]
    have hsz : c.size = cs.length := by rw [← h6.length]; simp
    split at h
    · -- one cell
      split at h
      · simp at h
      · rename_i u hu
        obtain ⟨x, P1, hx, ru, hle, hrep⟩ := h6.replace hu
        have hcell : w.cell? ⟨b, off, none⟩ = some x := by rw [cell_block h5, ← Array.getElem?_toList]; exact hx
        have hrun := run_loadVar_one (P := P) (by simpa only [tyCell] using ht) hcell
        split at h
        · simp only [Option.some.injEq, Prod.mk.injEq] at h
          obtain ⟨rfl, rfl⟩ := h
          exact ⟨x, zero, O, hrun, RV.share _ _ _ ru, s, fun c => by simp⟩
        · rename_i _
          simp only [Option.some.injEq, Prod.mk.injEq] at h
          obtain ⟨rfl, rfl⟩ := h
          obtain ⟨A1, A2, a1, a2, ha⟩ := takes_rel take ru
          obtain ⟨O', r', h'⟩ := hrep _ A2 a2
          have hle2 : ∀ x, O' x + one b x ≤ O1 x := fun x => by have := h' x; have := ha x; have := h8 x; omega
          refine ⟨x, A1, _, hrun, a1, hput (.cells (cs.set off (takes take u).2)) (fun x => O' x + one b x) ?_ hle2, fun c => ?_⟩
          · simp only [RObj]
            exact ⟨b, c, el, O', hob, h2, h3, by rw [List.length_set]; exact h4, h5, r', h7, fun _ => rfl⟩
          · have := h' c; have := ha c; have := h8 c; have := hsum c
            show A1 c + (O' c + one b c + Oz c) ≤ O c
            omega
    · -- several
      rename_i n
      simp only [tyCell, Bool.and_eq_true] at ht
      split at h
      · rename_i hb
        rw [Nat.ble_eq] at hb
        have hcs := sub_at hb
        have r6 := h6
        rw [hcs] at r6
        obtain ⟨B1, B2, rb1, rb2, hb12⟩ := r6.split
        obtain ⟨B3, B4, rb3, rb4, hb34⟩ := rb2.split
        have htl : (cs.take off).length = off := by simp; omega
        have hsl : (Vm.sub cs off n).length = n := sub_length hb
        rw [htl] at rb1 rb3 rb4
        rw [hsl] at rb3 rb4
        have hlist : ∀ (j : Nat) (v : Value), ((c.toList.drop off).take n)[j]? = some v → w.cell? ((⟨b, off, none⟩ : Addr).add j) = some v := by
          intro j v hj
          rw [addr_add, cell_block h5, ← Array.getElem?_toList]
          rw [List.getElem?_take] at hj
          split at hj
          · rw [List.getElem?_drop] at hj; exact hj
          · simp at hj
        have hlen : ((c.toList.drop off).take n).length = n := by simp; omega
        have hl := run_loadCells_list (P := P) (w := w) ⟨b, off, none⟩ ((c.toList.drop off).take n) hlist
        rw [hlen] at hl
        have hrun : (loadVar ty ⟨b, off, none⟩).run P w = .ok (.agg ((c.toList.drop off).take n).toArray) w := by
          simp only [loadVar, Sem.run_bind, run_isAgg_true ht.1, Result.andThen_ok, if_true, run_sizeOf ht.2, hl, Sem.run_pure]
        split at h
        · simp only [Option.some.injEq, Prod.mk.injEq] at h
          obtain ⟨rfl, rfl⟩ := h
          refine ⟨_, zero, O, hrun, ?_, s, fun c => by simp⟩
          simp only [RV]
          exact ⟨_, rfl, by simpa using RVs.share _ _ _ rb3⟩
        · rename_i _
          simp only [Option.some.injEq, Prod.mk.injEq] at h
          obtain ⟨rfl, rfl⟩ := h
          obtain ⟨A1, A2, a1, a2, ha⟩ := takesAll_rel take rb3
          have hjoin := rb1.join (a2.join rb4)
          have e1 : cs.take off ++ ((takesAll take (Vm.sub cs off n)).2 ++ cs.drop (off + n)) = setCells cs off (takesAll take (Vm.sub cs off n)).2 := by
            have : (takesAll take (Vm.sub cs off n)).2.length = n := by
              rw [← a2.length, hlen]
            unfold setCells; rw [this, List.append_assoc]
          have e2 : c.toList.take off ++ ((c.toList.drop off).take n ++ (c.toList.drop off).drop n) = c.toList := by
            rw [List.take_append_drop, List.take_append_drop]
          rw [e1, e2] at hjoin
          have hle2 : ∀ x, (B1 x + (A2 x + B4 x)) + one b x ≤ O1 x := fun x => by have := ha x; have := h8 x; have := hb12 x; have := hb34 x; omega
          refine ⟨_, A1, _, hrun, ?_, hput (.cells (setCells cs off (takesAll take (Vm.sub cs off n)).2)) (fun x => (B1 x + (A2 x + B4 x)) + one b x) ?_ hle2, fun x => ?_⟩
          · simp only [RV]; exact ⟨_, rfl, by simpa using a1⟩
          · simp only [RObj]
            refine ⟨b, c, el, _, hob, h2, h3, ?_, h5, hjoin, h7, fun _ => rfl⟩
            rw [h4, ← hsz, ← hjoin.length]; simp
          · have := ha x; have := h8 x; have := hb12 x; have := hb34 x; have := hsum x
            show A1 x + ((B1 x + (A2 x + B4 x)) + one b x + Oz x) ≤ O x
            omega
      · simp at h
  · simp at h

theorem op_ld {n : Option Nat} {take : Nat} {p : Rd} (s : S P g w st t O) (h : opLd n take p st = some (a, st')) (hc : chkOp P (.ld n take p) o.op = true) :
    Op1 P g w t O st' a ((execOp (ev t) o).run P w) := by
  obtain ⟨dst, op, ty, pos, aft, gd⟩ := o
  simp only [chkOp] at hc
  split at hc
  · rename_i ty' y
    simp only [Bool.and_eq_true] at hc
    obtain ⟨h1, h2⟩ := hc
    obtain ⟨v, e1, r1, k1⟩ := rdp h
    obtain ⟨Ov, O1, rv, s1, l1⟩ := s.rd h2 r1
    split at k1
    · rename_i r h' hl
      simp only [Option.some.injEq, Prod.mk.injEq] at k1
      obtain ⟨rfl, rfl⟩ := k1
      have fin : ∀ {ad : Addr} {x : Value}, ev t y = .pointer (some ad) → (loadVar ty' ad).run P w = .ok x w →
          (execOp (ev t) ⟨dst, .load ty' y, ty, pos, aft, gd⟩).run P w = .ok (.value x) w := by
        intro ad x he hr
        simp only [execOp, he]
        rw [Sem.run_bind]
        simp only [Instr.loadAt, Instr.sureAddr, pure_bind, hr, Result.andThen_ok, Sem.run_pure]
      cases v with
      | ptr id off =>
        simp only [RV] at rv
        obtain ⟨⟨b, hob, he⟩, _⟩ := rv
        obtain ⟨x, A1, A2, hrun, ra, sa, la⟩ := load_cells h1 s1 hob hl
        exact .pure s (fin he hrun) ra sa fun c => by have := la c; have := l1 c; omega
      | pel id i off =>
        simp only [RV] at rv
        obtain ⟨⟨b, hob, he⟩, _⟩ := rv
        simp only [loadAt] at hl
        split at hl
        · rename_i m xs hg
          split at hl
          · rename_i e hx
            split at hl
            · rename_i u hu
              simp only [Option.some.injEq, Prod.mk.injEq] at hl
              obtain ⟨rfl, rfl⟩ := hl
              obtain ⟨Oe, Oh, re, rh, ho⟩ := s1.parts
              obtain ⟨Q, q, _⟩ := RL.get rh hg
              simp only [RObj] at q
              rcases q with ⟨rfl, _⟩ | ⟨b', c, el, g1, g2, g3, g4, g5, g6, g7, g8, g9, g10⟩
              · simp at hx
              · rw [hob] at g1
                simp only [Option.some.injEq] at g1
                subst g1
                have hrc := g8.elem g7 hx
                obtain ⟨x, hrun, rx⟩ := run_ofElem (P := P) h1 hrc hu
                refine .flat s (fin he (x := x) ?_) rx s1 (S.le_left l1)
                rw [g2, ← Nat.add_assoc]; exact hrun
            · simp at hl
          · simp at hl
        · simp at hl
      | pim cs off =>
        simp only [RV] at rv
        obtain ⟨⟨b, k, he, hrc, _⟩, _⟩ := rv
        simp only [loadAt] at hl
        split at hl
        · rename_i u hu
          simp only [Option.some.injEq, Prod.mk.injEq] at hl
          obtain ⟨rfl, rfl⟩ := hl
          obtain ⟨x, hrun, rx⟩ := run_ofElem (P := P) h1 hrc hu
          exact .flat s (fin he hrun) rx s1 (S.le_left l1)
        · simp at hl
      | _ => simp [loadAt] at hl
    · simp at k1
  · simp at hc
end
end Go.Vm

/-
  SINGLE OPERATIONS (11): new lists.
-/
namespace Go.Vm
section
variable {P : Program} {g : Gh} {w : World} {t : Array Value} {O : Nat → Nat} {st st' : St} {a : AV} {o : Oper}

/-- Memory grows, nothing else turns. -/
theorem S.grow {st : St} (s : S P g w st t O) {w' : World} (h : Ext g w g w' fun _ => False) : S P g w' st t O := by
  obtain ⟨Oe, Oh, re, rh, ho⟩ := s.parts
  exact ⟨s.se, s.sh, ⟨Oe, Oh, REnv.ext h re (by simp), rh.imp' fun k v O1 _ _ q => q.ext h (by simp) (by simp), ho⟩, s.le,
    fun b hb => Nat.lt_of_lt_of_le (s.hi b hb) h.size, s.fresh, fun b o hp => Nat.lt_of_lt_of_le (s.pmlt b o hp) h.size⟩
theorem S.out {st : St} (s : S P g w st t O) {b : Nat} (h : w.heap.size ≤ b) : O b = 0 := by
  by_cases h' : O b = 0
  · exact h'
  · have := s.hi b h'; omega
theorem Ext.drew (g : Gh) (w : World) (T : Nat → Prop) : Ext g w g w.drew T := ⟨fun _ _ h => ⟨h, rfl, rfl, rfl⟩, fun _ _ h => ⟨h, rfl⟩, fun _ _ _ => ⟨rfl, fun _ h => h⟩, Nat.le_refl _, fun _ rc h => ⟨rc, h⟩, rfl, rfl, fun _ => rfl⟩

/-- A new list, as an operation's answer. -/
theorem Op1.list {res : Result Next} {m cap : Nat} {xs : List (List D)} {c : Array Value} {el : TypeId} {w1 : World} {O' : Nat → Nat} (s0 : S P g w st t O)
    (s : S P g w st' t O') (hle : ∀ b, O' b ≤ O b) (hx1 : Ext g w g w1 fun _ => False) (hsz1 : w1.heap.size = w.heap.size)
    (h : res = .ok (.value (.slice (some ⟨w.heap.size, 0, none⟩) xs.length cap)) (w1.alloc (.cells c el)))
    (hm : 0 < m) (hl : ∀ e ∈ xs, e.length = m) (hcap : xs.length ≤ cap) (hsz : cap * m ≤ c.size) (hc : ∀ (j : Nat) (d : D), xs.flatten[j]? = some d → ∃ u, c[j]? = some u ∧ RD w g.pm d u) :
    Op1 P g w t O st' (.own true m xs) res := by
  have hp1 : ∀ b o, g.pm b o → b < w1.heap.size := fun b o hp => by rw [hsz1]; exact s0.pmlt b o hp
  have hx : Ext g w g (w1.alloc (.cells c el)) fun _ => False := hx1.trans (Ext.alloc hp1 _ _) fun _ _ h => h
  have hO : O w.heap.size = 0 := s0.out (Nat.le_refl _)
  refine ⟨_, w1.alloc (.cells c el), g, one w.heap.size, O', .inl h, ?_, s.grow hx, hx.mono (fun _ _ h => h.elim), fun b => ?_, fun b hb => ?_, fun b hb => ?_⟩
  · simp only [RV, Own]
    refine .inr ⟨w.heap.size, 0, cap, c, el, rfl, hcap, hm, hl, ?_, by omega, fun j d hj => ?_, fun o ho => ?_, fun h => by simp at h, rfl⟩
    · rw [← hsz1]; exact heap_alloc_new _ _
    · obtain ⟨u, hu, hr⟩ := hc j d hj
      refine ⟨u, ?_, hr.ext hx⟩
      rw [cell_block (c := c) (el := el) (fz := (0, 0)) (by rw [← hsz1]; exact heap_alloc_new _ _)]
      rw [Nat.zero_add]; exact hu
    · have := s0.pmlt _ o ho; omega
  · by_cases hb : b = w.heap.size
    · subst hb; have := hle w.heap.size; simp; omega
    · have := hle b; have := s0.le b; simp [one, hb]; omega
  · have : b ≠ w.heap.size := by omega
    have := hle b
    simp [one, *]
  · have := one_ne hb; subst this; simp [hsz1]

theorem okDs_get {zs : List D} {vs : List Value} (h : okDs zs vs = true) : zs.length = vs.length ∧ ∀ (j : Nat) (d : D), zs[j]? = some d → ∃ u, vs[j]? = some u ∧ RD w g.pm d u := by
  induction zs generalizing vs with
  | nil => cases vs <;> simp [okDs] at h ⊢
  | cons z zs ih =>
    cases vs with
    | nil => simp [okDs] at h
    | cons v vs =>
      simp only [okDs, Bool.and_eq_true] at h
      obtain ⟨h1, h2⟩ := ih h.2
      refine ⟨by simp [h1], fun j d hj => ?_⟩
      cases j with
      | zero => simp at hj; subst hj; exact ⟨v, rfl, .const h.1⟩
      | succ j => simp at hj; obtain ⟨u, hu, hr⟩ := h2 j d hj; exact ⟨u, by simpa using hu, hr⟩
theorem rep_flatten {z : List D} {n j : Nat} {d : D} (h : (List.replicate n z).flatten[j]? = some d) : z[j % z.length]? = some d ∧ j < n * z.length := by
  induction n generalizing j with
  | zero => simp at h
  | succ n ih =>
    rw [List.replicate_succ, List.flatten_cons] at h
    rcases Nat.lt_or_ge j z.length with hj | hj
    · rw [List.getElem?_append_left hj] at h
      rw [Nat.mod_eq_of_lt hj, Nat.succ_mul]
      exact ⟨h, by omega⟩
    · rw [List.getElem?_append_right hj] at h
      obtain ⟨h1, h2⟩ := ih h
      rw [Nat.mod_eq_sub_mod hj, Nat.succ_mul]
      exact ⟨h1, by omega⟩

theorem tyElemZero_get {ty : TypeId} {z : List D} (h : tyElemZero P ty z = true) : ∃ e i zv, P.underlying ty = some (.slice e) ∧ P.info? e = some i ∧ i.zero = some zv ∧ okDs z zv.cells.toList = true := by
  unfold tyElemZero at h
  split at h
  · rename_i e hu
    unfold tyZero at h
    split at h
    · rename_i i hi
      split at h
      · rename_i zv hz; exact ⟨e, i, zv, hu, hi, hz, h⟩
      · simp at h
    · simp at h
  · simp at h

theorem wrap_nat {n : Nat} (h : n ≤ 4294967296) : IntKind.i64.wrap (n : Int) = n := by
  apply wrap_in
  · have : IntKind.min .i64 = -9223372036854775808 := by decide
    omega
  · have : IntKind.max .i64 = 9223372036854775807 := by decide
    omega
theorem run_makeSlice {ty el : TypeId} {i : TypeInfo} {zv : Value} {kn kc : IntKind} {n cc : Nat} (hu : P.underlying ty = some (.slice el)) (hi : P.info? el = some i) (hz : i.zero = some zv)
    (hby : i.bytes ≤ 4096) (hnc : n ≤ cc) (hcm : cc ≤ 4294967296) :
    (Instr.makeSlice ty (.int kn (n : Int)) (.int kc (cc : Int))).run P w =
      .ok (.slice (some ⟨w.heap.size, 0, none⟩) n cc) (w.alloc (.cells ((Array.range (cc * i.size)).map (zv.cells[· % zv.cells.size]!)) el)) := by
  have hw1 := wrap_nat (n := n) (by omega)
  have hw2 := wrap_nat (n := cc) hcm
  have hprod : i.bytes * cc ≤ 4096 * 4294967296 := Nat.mul_le_mul hby hcm
  have hcast : ((i.bytes * cc : Nat) : Int) = (i.bytes : Int) * (cc : Int) := Int.natCast_mul _ _
  have hbig : ¬ ((i.bytes : Int) * (cc : Int) > 2 ^ 48) := by
    rw [← hcast]
    have : ((i.bytes * cc : Nat) : Int) ≤ ((4096 * 4294967296 : Nat) : Int) := Int.ofNat_le.2 hprod
    omega
  have hc0 : ¬ (cc : Int) < 0 := by omega
  have hn0 : ¬ (n : Int) < 0 := by omega
  have hnc' : ¬ (n : Int) > (cc : Int) := by omega
  simp only [Instr.makeSlice, Sem.run_bind, run_underlying hu, Result.andThen_ok, asInt, asIntOf, Sem.run_pure, typeInfo, run_program, hi, hw1, hw2, hc0, hn0, hnc', hbig,
    decide_false, Bool.or_self, Bool.false_eq_true, if_false, run_askRoom, sizeOf, Int.toNat_natCast]
  by_cases hcz : cc * i.size = 0
  · have h0 : Array.range 0 = #[] := by simp [Array.range]
    simp [hcz, newRow, h0]
  · simp [hcz, newRow, zeroValue, typeInfo, hi, hz]
theorem op_mkslice {z : List D} {len cap : Rd} (s : S P g w st t O) (h : opMkslice z len cap st = some (a, st')) (hc : chkOp P (.mkslice z len cap) o.op = true) :
    Op1 P g w t O st' a ((execOp (ev t) o).run P w) := by
  obtain ⟨dst, op, ty, pos, aft, gd⟩ := o
  simp only [chkOp] at hc
  split at hc
  · rename_i ty' l c
    simp only [Bool.and_eq_true] at hc
    obtain ⟨⟨⟨h1, h2⟩, h3⟩, h4⟩ := hc
    obtain ⟨vn, vc, e, On, Oc, O', rn, rc, s', hl, hk⟩ := rd2 s h3 h4 h
    split at hk
    · rename_i cc hcc
      split at hk
      · rename_i n hn
        simp only [Option.some.injEq, Prod.mk.injEq] at hk
        obtain ⟨rfl, rfl⟩ := hk
        obtain ⟨⟨kc, hvc⟩, hcm⟩ := natUpTo_rel hcc rc
        obtain ⟨⟨kn, hvn⟩, hnc⟩ := natUpTo_rel hn rn
        obtain ⟨el, hu, hs, hm, hby⟩ := tySlice_elem h1
        obtain ⟨el', i, zv, hu', hi, hz, hok⟩ := tyElemZero_get h2
        rw [hu] at hu'
        simp only [Option.some.injEq, TypeDesc.slice.injEq] at hu'
        subst hu'
        obtain ⟨hzl, hzg⟩ := okDs_get (w := w) (g := g) hok
        have hsz : i.size = z.length := by
          simp only [tySz, hi, Nat.beq_eq] at hs; exact hs
        have hzs : zv.cells.size = z.length := by rw [hzl]; simp
        have hbytes : P.bytesOf el = i.bytes := by simp [Program.bytesOf, hi]
        rw [hbytes] at hby
        have hrun := run_makeSlice (P := P) (w := w) (kn := kn) (kc := kc) hu hi hz hby hnc hcm
        rw [hsz] at hrun
        have hnz : 0 < z.length := hm
        refine Op1.list (cap := cc) (c := (Array.range (cc * z.length)).map (zv.cells[· % zv.cells.size]!)) (el := el) (w1 := w) s s' (fun b => by have := hl b; omega) (Ext.refl _ _ _) rfl ?_ hm
          (fun e he => by rw [List.mem_replicate] at he; rw [he.2]) (by simpa using hnc) (by simp) (fun j d hj => ?_)
        · simp only [execOp, hvn, hvc]
          rw [Sem.run_bind, hrun]
          simp
        · obtain ⟨h5, h6⟩ := rep_flatten hj
          obtain ⟨u, hu, hr⟩ := hzg _ d h5
          have hlt : j < cc * z.length := Nat.lt_of_lt_of_le h6 (Nat.mul_le_mul_right _ hnc)
          refine ⟨u, ?_, hr⟩
          have hjm : j % z.length < zv.cells.size := by rw [hzs]; exact Nat.mod_lt _ hnz
          have hu2 : zv.cells[j % zv.cells.size]! = u := by
            rw [hzs]
            have : zv.cells[j % z.length]? = some u := by rw [← Array.getElem?_toList]; exact hu
            rw [getElem!_def, this]
          simp only [Array.getElem?_map, Array.getElem?_range, hlt, if_true, Option.map_some, hu2]
      · simp at hk
    · simp at hk
  · simp at hc
end
end Go.Vm

/-
  SINGLE OPERATIONS (12): stores.
-/
namespace Go.Vm

def setBlk (w : World) (b : Nat) (o : Go.Obj) : World := { w with heap := w.heap.setIfInBounds b o }
@[simp] theorem setBlk_size (w : World) (b : Nat) (o : Go.Obj) : (setBlk w b o).heap.size = w.heap.size := by simp [setBlk]
theorem setBlk_same {w : World} {b : Nat} {o : Go.Obj} (h : b < w.heap.size) : (setBlk w b o).heap[b]? = some o := by
  simp [setBlk, h]
theorem setBlk_ne {w : World} {b b' : Nat} {o : Go.Obj} (h : b' ≠ b) : (setBlk w b o).heap[b']? = w.heap[b']? := by
  simp [setBlk, Array.getElem?_setIfInBounds, Ne.symm h]
theorem setBlk_setBlk (w : World) (b : Nat) (o o' : Go.Obj) : setBlk (setBlk w b o) b o' = setBlk w b o' := by
  simp [setBlk]

theorem setCell_blk {w : World} {b o : Nat} {c : Array Value} {el : TypeId} {fz : Nat × Nat} {v : Value} (h : w.heap[b]? = some (.cells c el fz)) :
    w.setCell ⟨b, o, none⟩ v = setBlk w b (.cells (c.setIfInBounds o v) el fz) := by
  unfold World.setCell setBlk
  congr 1
  apply Array.ext_getElem?
  intro j
  rw [Array.getElem?_modify, Array.getElem?_setIfInBounds]
  have hb := block_lt h
  by_cases hj : b = j
  · subst hj
    simp only [if_true, h, Option.map_some, hb, and_self]
    rfl
  · simp [hj]

theorem setCells_cons {α : Type} {cs : List α} {off : Nat} {v : α} {vs : List α} (h : off + (vs.length + 1) ≤ cs.length) :
    setCells (cs.set off v) (off + 1) vs = setCells cs off (v :: vs) := by
  unfold setCells
  have h1 : (cs.set off v).take (off + 1) = cs.take off ++ [v] := by
    rw [List.take_set, List.take_succ_eq_append_getElem (by omega)]
    rw [List.set_append_right _ _ (by simp; omega)]
    simp [show min off cs.length = off by omega]
  have h2 : (cs.set off v).drop (off + 1 + vs.length) = cs.drop (off + (vs.length + 1)) := by
    rw [List.drop_set_of_lt (by omega)]
    congr 1; omega
  rw [h1, h2]
  simp

theorem run_storeCells {P : Program} {b : Nat} {el : TypeId} : ∀ (vs : List Value) (w : World) (c : Array Value) (off i : Nat),
    w.heap[b]? = some (.cells c el (0, 0)) → (∀ v ∈ vs, v.oneCell' = true) → off + i + vs.length ≤ c.size →
    ∃ c' : Array Value, (storeCells ⟨b, off, none⟩ vs i).run P w = .ok () (setBlk w b (.cells c' el (0, 0))) ∧ c'.toList = setCells c.toList (off + i) vs ∧ c'.size = c.size
  | [], w, c, off, i, h, _, _ => by
    refine ⟨c, ?_, by simp [setCells], rfl⟩
    have : setBlk w b (.cells c el (0, 0)) = w := by
      unfold setBlk
      have hb := block_lt h
      have : w.heap.setIfInBounds b (.cells c el (0, 0)) = w.heap := by
        apply Array.ext_getElem?
        intro j
        rw [Array.getElem?_setIfInBounds]
        split
        · rename_i hj; subst hj; simp [hb] at h ⊢; simp [h]
        · rfl
      rw [this]
    rw [this]; rfl
  | v :: vs, w, c, off, i, h, hv, hsz => by
    have hoff : off + i < c.size := by simp at hsz; omega
    have hcell : w.cell? ⟨b, off + i, none⟩ = some c[off + i] := by rw [cell_block h]; simp [hoff]
    have hfz : w.frozen? ⟨b, off + i, none⟩ = false := by simp [World.frozen?, h]
    have hst : (store (⟨b, off + i, none⟩ : Addr) v .plain).run P w = .ok () (setBlk w b (.cells (c.setIfInBounds (off + i) v) el (0, 0))) := by
      rw [run_store P w _ v _ (hv v (.head _)), hcell]
      simp [hfz, setCell_blk h]
    have hb : b < w.heap.size := block_lt h
    obtain ⟨c', h1, h2, h3⟩ := run_storeCells (P := P) vs (setBlk w b (.cells (c.setIfInBounds (off + i) v) el (0, 0))) (c.setIfInBounds (off + i) v) off (i + 1) (setBlk_same hb)
      (fun u hu => hv u (.tail _ hu)) (by simp at hsz ⊢; omega)
    refine ⟨c', ?_, ?_, by simpa using h3⟩
    · unfold storeCells
      rw [addr_add, Sem.run_bind, hst]
      simp only [Result.andThen_ok]
      rw [h1, setBlk_setBlk]
    · rw [h2, Array.toList_setIfInBounds, ← Nat.add_assoc, setCells_cons (by simp at hsz ⊢; omega)]

section
variable {P : Program} {g : Gh} {w : World} {t : Array Value} {O : Nat → Nat} {st st' : St} {a : AV} {o : Oper}

theorem frozen_setBlk {b : Nat} {o o' : Go.Obj} (hb : w.heap[b]? = some o) (ho : ∀ off, objFrozen o off = false) (ho' : ∀ off, objFrozen o' off = false) (a : Addr) : (Vm.setBlk w b o').frozen? a = w.frozen? a := by
  by_cases e : a.block = b
  · have h1 := ho a.off
    have h2 := ho' a.off
    have e1 : (Vm.setBlk w b o').heap[a.block]? = some o' := by rw [e]; exact setBlk_same (block_lt hb)
    have e2 : w.heap[a.block]? = some o := by rw [e]; exact hb
    simp only [World.frozen?, e1, e2]
    cases o <;> cases o' <;> first | rfl | exact h2.trans h1.symm | exact h2 | exact h1.symm
  · simp only [World.frozen?, setBlk_ne e]
theorem Ext.setBlk {b : Nat} {c : Array Value} {el : TypeId} {o' : Go.Obj} (hb : w.heap[b]? = some (.cells c el (0, 0))) (hp : ∀ o, ¬ g.pm b o) (hc : ∀ off, objFrozen o' off = false := by intro off; simp [objFrozen]) : Ext g w g (Vm.setBlk w b o') fun x => x = b where
  obj _ _ h := ⟨h, rfl, rfl, rfl⟩
  pm b' o h := ⟨h, by
    have : b' ≠ b := by rintro rfl; exact hp o h
    exact cell?_of_block (setBlk_ne this) o⟩
  blk b' _ h := ⟨setBlk_ne h, fun _ h => h⟩
  size := by simp
  lp b' rc h := ⟨rc, by rw [setBlk_ne (by rintro rfl; rw [hb] at h; simp at h)]; exact h⟩
  same := ⟨rfl, rfl, frozen_setBlk hb (by intro off; simp [objFrozen]) hc⟩

/-- A variable of the heap is written: what else there is stays. -/
theorem S.store {st : St} (s : S P g w st t O) {id : Nat} {ob : Obj} (hg : get st.hs.heap id = some ob) :
    ∃ O1 Oz : Nat → Nat, RObj P g w id ob O1 ∧ (∀ b, O1 b + Oz b ≤ O b) ∧ ∀ (w' : World) (b : Nat) (c : Array Value) (el : TypeId) (ob' : Obj) (O1' : Nat → Nat),
      w.heap[b]? = some (.cells c el (0, 0)) → 1 ≤ O1 b → Ext g w g w' (fun x => x = b) → RObj P g w' id ob' O1' → (∀ x, O1' x + Oz x ≤ 1) → (∀ x, O1' x ≠ 0 → x < w'.heap.size) →
      S P g w' ⟨st.env, ⟨put st.hs.heap id ob', st.hs.next⟩⟩ t (fun x => O1' x + Oz x) := by
  obtain ⟨Oe, Oh, re, rh, ho⟩ := s.parts
  obtain ⟨O1, O2, q, r2, hs⟩ := RL.take rh hg
  refine ⟨O1, fun b => Oe b + O2 b, q, fun b => by have := hs b; have := ho b; show O1 b + (Oe b + O2 b) ≤ O b; omega, fun w' b c el ob' O1' hblk h1 hx q' hle hhi => ?_⟩
  have hone : O b ≤ 1 := s.le b
  have hfree : Oe b = 0 ∧ O2 b = 0 := by have := hs b; have := ho b; omega
  have re' := REnv.ext hx re (fun y hy e => by rw [e] at hy; exact hy hfree.1)
  have r2' : RHeap P g w' (del st.hs.heap id) O2 := r2.imp' fun k v Q _ hQ q => q.ext hx (fun y hy e => by rw [e] at hy; have := hQ b; exact hy (by omega)) (fun y ds hd e => by
    rw [e, hblk] at hd; simp at hd)
  obtain ⟨O3, r3, h3⟩ := RL.put s.sh r2' q'
  refine ⟨s.se, s.sh.put _ _, ⟨Oe, O3, re', r3, fun x => by have := h3 x; show O1' x + (Oe x + O2 x) = Oe x + O3 x; omega⟩, hle, fun x hx0 => ?_, s.fresh,
    fun b o hp => Nat.lt_of_lt_of_le (s.pmlt b o hp) hx.size⟩
  by_cases h : O1' x = 0
  · refine Nat.lt_of_lt_of_le (s.hi x ?_) hx.size
    have := hs x; have := ho x
    change O1' x + (Oe x + O2 x) ≠ 0 at hx0
    omega
  · exact hhi x h
theorem setCells_join {α : Type} {cs vs : List α} {off : Nat} : setCells cs off vs = cs.take off ++ (vs ++ cs.drop (off + vs.length)) := by
  unfold setCells; rw [List.append_assoc]

/-- Writing into a variable. -/
theorem store_cells {ty : TypeId} {n : Nat} (ht : tySz P ty n = true) {st : St} (s : S P g w st t O) {id off : Nat} {b : Nat} (hob : g.obj id = some b)
    {v : AV} {x : Value} {Ov : Nat → Nat} (rv : RV g w v x Ov) (hO : ∀ c, Ov c + O c ≤ 1) (hOv : ∀ c, Ov c ≠ 0 → c < w.heap.size) {h' : Heap}
    (h : storeAt st.hs.heap n (.ptr id off) v = some h') :
    ∃ w' O2, (storeVar ty ⟨b, g.base id + off, none⟩ x).run P w = .ok () w' ∧ S P g w' ⟨st.env, ⟨h', st.hs.next⟩⟩ t O2 ∧ Ext g w g w' (fun c => O c ≠ 0) ∧ (∀ c, O2 c ≤ Ov c + O c) ∧
      w'.heap.size = w.heap.size := by
  unfold storeAt at h
  split at h
  · simp at h
  · rename_i hn
    rw [Nat.beq_eq] at hn
    simp only at h
    split at h
    · rename_i cs hg
      split at h
      · rename_i hb
        simp only [Bool.and_eq_true, Nat.ble_eq] at hb
        simp only [Option.some.injEq] at h; subst h
        obtain ⟨O1, Oz, q, hsum, hst⟩ := s.store hg
        simp only [RObj] at q
        obtain ⟨b', c, el, Oc, h1, h2, h3, h4, h5, h6, h7, h8⟩ := q
        rw [hob] at h1
        simp only [Option.some.injEq] at h1
        subst h1
        rw [h2, Nat.zero_add]
        have hsz : c.size = cs.length := by rw [← h6.length]; simp
        have rvs := rv.cells hb.2
        have hlenx : x.cells.toList.length = n := by rw [rvs.length]; exact hn
        obtain ⟨c', hrun, hc', hcs⟩ := run_storeCells (P := P) (b := b) (el := el) x.cells.toList w c off 0 h5 (rvs.one hb.2) (by rw [hlenx]; omega)
        have hrun' : (storeVar ty ⟨b, off, none⟩ x).run P w = .ok () (setBlk w b (.cells c' el (0, 0))) := by
          have hxs : x.cells.size = n := by rw [← hlenx]; simp
          simp only [storeVar, Sem.run_bind, run_sizeOf ht, Result.andThen_ok, hxs, ne_eq, not_true, if_false, Sem.run_ite]
          exact hrun
        have hOb : 1 ≤ O1 b := by rw [h8 b]; simp
        have hx : Ext g w g (setBlk w b (.cells c' el (0, 0))) fun x => x = b := Ext.setBlk h5 h7
        have hbO : O b = 1 := by have := hsum b; have := s.le b; omega
        have hOvb : Ov b = 0 := by have := hO b; omega
        have hOcb : Oc b = 0 := by
          have e := h8 b
          rw [one_same] at e
          have := hsum b; have := s.le b
          omega
        have r6 := RVs.ext hx _ _ _ h6 (fun y hy e => by rw [e] at hy; exact hy hOcb)
        have rvs' := RVs.ext hx _ _ _ rvs (fun y hy e => by rw [e] at hy; exact hy hOvb)
        rw [sub_at hb.1] at r6
        obtain ⟨B1, B2, rb1, rb2, hb12⟩ := r6.split
        obtain ⟨B3, B4, rb3, rb4, hb34⟩ := rb2.split
        have htl : (cs.take off).length = off := by simp; omega
        have hsl : (Vm.sub cs off n).length = n := sub_length hb.1
        rw [htl] at rb1 rb4
        rw [hsl] at rb4
        have hjoin := rb1.join (rvs'.join rb4)
        rw [← hn] at hjoin
        rw [← setCells_join] at hjoin
        have e2 : c.toList.take off ++ (x.cells.toList ++ (c.toList.drop off).drop v.cells.length) = c'.toList := by
          rw [hc', Nat.add_zero, setCells_join, List.drop_drop, hlenx, hn]
        rw [e2] at hjoin
        have hlen' : (setCells cs off v.cells).length = cs.length := by rw [← hjoin.length]; simp [hcs, hsz]
        refine ⟨_, _, hrun', hst (setBlk w b (.cells c' el (0, 0))) b c el (.cells (setCells cs off v.cells)) (fun y => (B1 y + (Ov y + B4 y)) + one b y) h5 hOb hx ?_ (fun y => ?_) (fun y hy => ?_),
          hx.mono (fun y _ e => by rw [e]; omega), fun y => ?_, by simp⟩
        · simp only [RObj]
          exact ⟨b, c', el, _, hob, h2, h3, by rw [hlen']; exact h4, setBlk_same (block_lt h5), hjoin, h7, fun _ => rfl⟩
        · have := h8 y; have := hb12 y; have := hb34 y; have := hsum y; have := hO y
          show (B1 y + (Ov y + B4 y)) + one b y + Oz y ≤ 1
          omega
        · have := h8 y; have := hb12 y; have := hb34 y; have := hsum y
          simp only [setBlk_size]
          by_cases hv0 : Ov y = 0
          · refine s.hi y ?_
            change (B1 y + (Ov y + B4 y)) + one b y ≠ 0 at hy
            omega
          · exact hOv y hv0
        · have := h8 y; have := hb12 y; have := hb34 y; have := hsum y
          show (B1 y + (Ov y + B4 y)) + one b y + Oz y ≤ Ov y + O y
          omega
      · simp at h
    · simp at h
end
end Go.Vm

/-
  SINGLE OPERATIONS (13): stores into elements; the store.
-/
namespace Go.Vm

theorem setCells_get {α : Type} {cs vs : List α} {off : Nat} (h : off + vs.length ≤ cs.length) (j : Nat) :
    (setCells cs off vs)[j]? = if off ≤ j ∧ j < off + vs.length then vs[j - off]? else cs[j]? := by
  unfold setCells
  rw [List.append_assoc]
  have h1 : (cs.take off).length = off := by simp; omega
  by_cases ha : j < off
  · rw [List.getElem?_append_left (by omega), List.getElem?_take, if_pos ha, if_neg (by omega)]
  · rw [List.getElem?_append_right (by omega), h1]
    by_cases hb : j < off + vs.length
    · rw [List.getElem?_append_left (by omega), if_pos (by omega)]
    · rw [List.getElem?_append_right (by omega), List.getElem?_drop, if_neg (by omega)]
      congr 1; omega
theorem flatten_set {xs : List (List D)} {m : Nat} (h : ∀ e ∈ xs, e.length = m) {i off : Nat} {e ds : List D} (hi : xs[i]? = some e) (ho : off + ds.length ≤ m) :
    (xs.set i (setCells e off ds)).flatten = setCells xs.flatten (i * m + off) ds := by
  apply List.ext_getElem?
  intro j
  have he : e.length = m := h e (List.mem_of_getElem? hi)
  have hlt := lt_of_get hi
  have hl2 : ∀ e' ∈ xs.set i (setCells e off ds), e'.length = m := by
    intro e' he'
    rcases List.mem_or_eq_of_mem_set he' with h' | h'
    · exact h e' h'
    · rw [h']; unfold setCells; simp; omega
  have hmm : (i + 1) * m ≤ xs.length * m := Nat.mul_le_mul_right _ hlt
  rw [Nat.succ_mul] at hmm
  rw [setCells_get (by rw [flatten_len h]; omega)]
  by_cases hm : m = 0
  · subst hm
    have e1 : (xs.set i (setCells e off ds)).flatten.length = 0 := by rw [flatten_len hl2]; simp
    have e2 : xs.flatten.length = 0 := by rw [flatten_len h]; simp
    have e3 : ds.length = 0 := by omega
    rw [List.eq_nil_of_length_eq_zero e1, List.eq_nil_of_length_eq_zero e2, List.eq_nil_of_length_eq_zero e3]
    simp
  have hpos : 0 < m := Nat.pos_of_ne_zero hm
  -- both sides at j = k * m + r
  have hdec : j = (j / m) * m + j % m := by rw [Nat.mul_comm]; exact (Nat.div_add_mod j m).symm
  have hr : j % m < m := Nat.mod_lt _ hpos
  have cell : ∀ (ys : List (List D)), (∀ e ∈ ys, e.length = m) → ys.flatten[j]? = (ys[j / m]?).bind (·[j % m]?) := by
    intro ys hy
    cases hq : ys[j / m]? with
    | none =>
      have : ys.length ≤ j / m := by
        rcases Nat.lt_or_ge (j / m) ys.length with h' | h'
        · rw [List.getElem?_eq_getElem h'] at hq; simp at hq
        · exact h'
      have : ys.flatten.length ≤ j := by
        rw [flatten_len hy]
        exact Nat.le_trans (Nat.mul_le_mul_right m this) (by rw [Nat.mul_comm]; exact Nat.mul_div_le j m)
      rw [List.getElem?_eq_none this]; rfl
    | some e' =>
      have hl := hy e' (List.mem_of_getElem? hq)
      have hc : e'[j % m]? = some e'[j % m] := by simp [hl, hr]
      have := flatten_elem hy hq hc
      rw [← hdec] at this
      rw [this]; simp [hl, hr]
  rw [cell _ hl2, cell _ h]
  by_cases hk : j / m = i
  · rw [hk, List.getElem?_set_self (by simpa using hlt), hi]
    simp only [Option.bind_some]
    rw [setCells_get (by omega)]
    have hji : j = i * m + j % m := by rw [← hk]; exact hdec
    by_cases hin : off ≤ j % m ∧ j % m < off + ds.length
    · rw [if_pos hin, if_pos (by omega)]
      congr 1; omega
    · rw [if_neg hin, if_neg (by omega)]
  · rw [List.getElem?_set_ne (by omega)]
    have : ¬ (i * m + off ≤ j ∧ j < i * m + off + ds.length) := by
      rintro ⟨h1, h2⟩
      apply hk
      have : j < (i + 1) * m := by rw [Nat.succ_mul]; omega
      exact Nat.div_eq_of_lt_le (by omega) this
    rw [if_neg this]

section
variable {P : Program} {g : Gh} {w : World} {t : Array Value} {O : Nat → Nat} {st st' : St} {a : AV} {o : Oper}

theorem toD_rel {v : AV} {d : D} {x : Value} {Ov : Nat → Nat} (h : toD v = some d) (r : RV g w v x Ov) : RD w g.pm d x := by
  cases v with
  | d c => simp only [toD, Option.some.injEq] at h; subst h; simp only [RV] at r; exact r.1
  | nl => simp only [toD, Option.some.injEq] at h; subst h; simp only [RV] at r; rw [r.1]; exact .nil _ _
  | own p m xs =>
    cases p <;> simp only [toD, Option.some.injEq, reduceCtorEq] at h
    subst h
    have := RV.share _ _ _ r
    simp only [share, RV] at this
    exact this.1
  | _ => simp [toD] at h
theorem RD.one {pm : Nat → Nat → Prop} {d : D} {x : Value} (r : RD w pm d x) : x.oneCell' = true := by cases r <;> rfl
theorem toDs_rel {vs : List AV} {ds : List D} {xs : List Value} {Ov : Nat → Nat} (h : toDs vs = some ds) (r : RVs g w vs xs Ov) :
    xs.length = ds.length ∧ (∀ (j : Nat) (d : D), ds[j]? = some d → ∃ x, xs[j]? = some x ∧ RD w g.pm d x) ∧ ∀ x ∈ xs, x.oneCell' = true := by
  induction vs generalizing ds xs Ov with
  | nil =>
    simp only [toDs, Option.some.injEq] at h; subst h
    simp only [RVs] at r; rw [r.1]; simp
  | cons v vs ih =>
    simp only [toDs] at h
    split at h
    · rename_i c hc
      split at h
      · rename_i cs hcs
        simp only [Option.some.injEq] at h; subst h
        simp only [RVs] at r
        obtain ⟨x, s, O1, O2, rfl, r1, r2, _⟩ := r
        obtain ⟨h1, h2, h3⟩ := ih hcs r2
        have hd := toD_rel hc r1
        refine ⟨by simp [h1], fun j d hj => ?_, fun y hy => ?_⟩
        · cases j with
          | zero => simp at hj; subst hj; exact ⟨x, rfl, hd⟩
          | succ j => simp at hj; obtain ⟨y, hy, hr⟩ := h2 j d hj; exact ⟨y, by simpa using hy, hr⟩
        · rcases List.mem_cons.1 hy with rfl | hy
          · exact hd.one
          · exact h3 y hy
      · simp at h
    · simp at h
end
end Go.Vm

/-
  SINGLE OPERATIONS (14): stores into elements; the store.
-/
namespace Go.Vm

theorem isCell_of_toD {v : AV} {d : D} (h : toD v = some d) : isCell v = true := by
  cases v with
  | own p m xs => cases p <;> simp [toD] at h; rfl
  | d c => rfl
  | nl => rfl
  | _ => simp [toD] at h
theorem isCell_of_toDs {vs : List AV} {ds : List D} (h : toDs vs = some ds) : vs.all isCell = true := by
  induction vs generalizing ds with
  | nil => rfl
  | cons v vs ih =>
    simp only [toDs] at h
    split at h
    · rename_i c hc
      split at h
      · rename_i cs hcs
        simp only [List.all_cons, Bool.and_eq_true]
        exact ⟨isCell_of_toD hc, ih hcs⟩
      · simp at h
    · simp at h
theorem toDs_length {vs : List AV} {ds : List D} (h : toDs vs = some ds) : ds.length = vs.length := by
  induction vs generalizing ds with
  | nil => simp only [toDs, Option.some.injEq] at h; subst h; rfl
  | cons v vs ih =>
    simp only [toDs] at h
    split at h
    · split at h
      · rename_i cs hcs
        simp only [Option.some.injEq] at h; subst h
        simp [ih hcs]
      · simp at h
    · simp at h

section
variable {P : Program} {g : Gh} {w : World} {t : Array Value} {O : Nat → Nat} {st st' : St} {a : AV} {o : Oper}

/-- Writing into an element of a slice that is stored into. -/
theorem store_elem {ty : TypeId} {n : Nat} (ht : tySz P ty n = true) {st : St} (s : S P g w st t O) {id i off : Nat} {b : Nat} (hob : g.obj id = some b)
    {v : AV} {x : Value} {Ov : Nat → Nat} (rv : RV g w v x Ov) {h' : Heap}
    (h : storeAt st.hs.heap n (.pel id i off) v = some h') :
    ∃ w' O2, (storeVar ty ⟨b, g.base id + (i * g.esz id + off), none⟩ x).run P w = .ok () w' ∧ S P g w' ⟨st.env, ⟨h', st.hs.next⟩⟩ t O2 ∧ Ext g w g w' (fun c => O c ≠ 0) ∧ (∀ c, O2 c ≤ O c) ∧
      w'.heap.size = w.heap.size := by
  unfold storeAt at h
  split at h
  · simp at h
  · rename_i hn
    rw [Nat.beq_eq] at hn
    simp only at h
    split at h
    · simp at h
    · rename_i ds hds
      split at h
      · rename_i m xs hg
        split at h
        · rename_i e he
          split at h
          · rename_i hb
            rw [Nat.ble_eq] at hb
            simp only [Option.some.injEq] at h; subst h
            obtain ⟨O1, Oz, q, hsum, hst⟩ := s.store hg
            simp only [RObj] at q
            rcases q with ⟨rfl, _⟩ | ⟨b', c, el, g1, g2, g3, g4, g5, g6, g7, g8, g9, g10⟩
            · simp at he
            · rw [hob] at g1
              simp only [Option.some.injEq] at g1
              subst g1
              have hlt := lt_of_get he
              have hem : e.length = m := g7 e (List.mem_of_getElem? he)
              have hmm : (i + 1) * m ≤ xs.length * m := Nat.mul_le_mul_right _ hlt
              rw [Nat.succ_mul] at hmm
              have rvs := rv.cells (isCell_of_toDs hds)
              obtain ⟨k1, k2, k3⟩ := toDs_rel hds rvs
              have hdl : ds.length = n := by rw [toDs_length hds]; exact hn
              have hlenx : x.cells.toList.length = n := by rw [k1, hdl]
              obtain ⟨c', hrun, hc', hcs⟩ := run_storeCells (P := P) (b := b) (el := el) x.cells.toList w c (g.base id + (i * g.esz id + off)) 0 g4 k3 (by rw [g2]; simp only [Array.length_toList] at hlenx ⊢; omega)
              have hrun' : (storeVar ty ⟨b, g.base id + (i * g.esz id + off), none⟩ x).run P w = .ok () (setBlk w b (.cells c' el (0, 0))) := by
                have hxs : x.cells.size = n := by rw [← hlenx]; simp
                simp only [storeVar, Sem.run_bind, run_sizeOf ht, Result.andThen_ok, hxs, ne_eq, not_true, if_false, Sem.run_ite]
                exact hrun
              have hx : Ext g w g (setBlk w b (.cells c' el (0, 0))) fun x => x = b := Ext.setBlk g4 g9
              have hOb : 1 ≤ O1 b := by rw [g10 b]; simp
              have hl2 : ∀ e' ∈ xs.set i (setCells e off ds), e'.length = m := by
                intro e' he'
                rcases List.mem_or_eq_of_mem_set he' with h' | h'
                · exact g7 e' h'
                · rw [h']; unfold setCells; simp; omega
              refine ⟨_, _, hrun', hst (setBlk w b (.cells c' el (0, 0))) b c el (.arr m (xs.set i (setCells e off ds))) (one b) g4 hOb hx ?_ (fun y => ?_) (fun y hy => ?_),
                hx.mono (fun y _ e => by rw [e]; have := hsum b; omega), fun y => ?_, by simp⟩
              · simp only [RObj]
                refine .inr ⟨b, c', el, hob, g2, g3, setBlk_same (block_lt g4), by rw [hcs]; exact g5, by simpa using g6, hl2, ?_, g9, fun _ => rfl⟩
                rw [flatten_set g7 he (by omega)]
                have hfl := flatten_len g7
                intro j d hj
                rw [setCells_get (by rw [hfl]; omega)] at hj
                have hcell : (setBlk w b (.cells c' el (0, 0))).cell? ⟨b, g.base id + j, none⟩ = c'.toList[g.base id + j]? := by
                  rw [cell_block (setBlk_same (block_lt g4)), Array.getElem?_toList]
                rw [hcell, hc', setCells_get (by simp only [Array.length_toList] at hlenx ⊢; rw [hlenx, g2]; omega), hlenx, g2]
                split at hj
                · rename_i hin
                  rw [if_pos (by omega)]
                  obtain ⟨u, hu, hr⟩ := k2 _ _ hj
                  refine ⟨u, ?_, hr.ext hx⟩
                  rw [← hu]; congr 1; omega
                · rename_i hin
                  rw [if_neg (by omega)]
                  obtain ⟨u, hu, hr⟩ := g8 j d hj
                  refine ⟨u, ?_, hr.ext hx⟩
                  rw [cell_block g4] at hu
                  simpa using hu
              · have := hsum y; have := s.le y; have := g10 y
                show one b y + Oz y ≤ 1
                omega
              · rw [one_ne hy]; simpa using block_lt g4
              · have := hsum y; have := g10 y
                show one b y + Oz y ≤ O y
                omega
          · simp at h
        · simp at h
      · simp at h

theorem op_st {n : Nat} {p x : Rd} (s : S P g w st t O) (h : opSt n p x st = some (a, st')) (hc : chkOp P (.st n p x) o.op = true) :
    Op1 P g w t O st' a ((execOp (ev t) o).run P w) := by
  obtain ⟨dst, op, ty, pos, aft, gd⟩ := o
  simp only [chkOp] at hc
  split at hc
  · rename_i ty' p' x'
    simp only [Bool.and_eq_true] at hc
    obtain ⟨⟨h1, h2⟩, h3⟩ := hc
    obtain ⟨pv, xv, e, Op, Ox, O', rp, rx, s2, l2, k⟩ := rd2 s h2 h3 h
    split at k
    · rename_i h' hst
      simp only [Option.some.injEq, Prod.mk.injEq] at k
      obtain ⟨rfl, rfl⟩ := k
      have fin : ∀ {ad : Addr} {w' : World}, ev t p' = .pointer (some ad) → (storeVar ty' ad (ev t x')).run P w = .ok () w' →
          (execOp (ev t) ⟨dst, .store ty' p' x', ty, pos, aft, gd⟩).run P w = .ok .skip w' := by
        intro ad w' he hr
        simp only [execOp, he]
        rw [Sem.run_bind]
        simp only [Instr.storeAt, Instr.sureAddr, pure_bind, hr, Result.andThen_ok, Sem.run_pure]
      cases pv with
      | ptr id off =>
        simp only [RV] at rp
        obtain ⟨⟨b, hob, he⟩, _⟩ := rp
        obtain ⟨w', O2, hrun, s3, hx, ho, hsz⟩ := store_cells h1 s2 hob rx (fun c => by have := l2 c; have := s.le c; omega) (fun c hc => s.hi c (by have := l2 c; omega)) hst
        refine ⟨undef, w', g, zero, O2, .inr ⟨fin he hrun, rfl⟩, ?_, s3, hx.mono fun c _ h => by have := l2 c; omega, fun c => by have := s3.le c; simpa using this, fun c _ => ?_, by simp⟩
        · simp only [RV]; exact fun _ => trivial
        · have := ho c; have := l2 c; simp; omega
      | pel id i off =>
        simp only [RV] at rp
        obtain ⟨⟨b, hob, he⟩, _⟩ := rp
        obtain ⟨w', O2, hrun, s3, hx, ho, hsz⟩ := store_elem h1 s2 hob rx hst
        refine ⟨undef, w', g, zero, O2, .inr ⟨fin he hrun, rfl⟩, ?_, s3, hx.mono fun c _ h => by have := l2 c; omega, fun c => by have := s3.le c; simpa using this, fun c _ => ?_, by simp⟩
        · simp only [RV]; exact fun _ => trivial
        · have := ho c; have := l2 c; simp; omega
      | _ => simp only [storeAt] at hst; split at hst <;> simp at hst
    · simp at k
  · simp at hc
end
end Go.Vm

/-
  SINGLE OPERATIONS (15): what has no counterpart in the model's code.
-/
namespace Go.Vm

section
variable {P : Program} {g : Gh} {w : World} {t : Array Value} {O : Nat → Nat} {st st' : St} {a : AV}

/-- Only the bookkeeping has changed. -/
def Op0 (P : Program) (g : Gh) (w : World) (t : Array Value) (O : Nat → Nat) (st' : St) : Prop :=
  ∃ g' O', S P g' w st' t O' ∧ Ext g w g' w (fun b => O b ≠ 0) ∧ ∀ b, O' b ≤ O b
theorem Op0.same {O' : Nat → Nat} (s : S P g w st' t O') (h : ∀ b, O' b ≤ O b) : Op0 P g w t O st' := ⟨g, O', s, .refl _ _ _, h⟩

theorem S.delEnv {st : St} (s : S P g w st t O) (i : Nat) : ∃ O', S P g w ⟨del st.env i, st.hs⟩ t O' ∧ ∀ b, O' b ≤ O b := by
  obtain ⟨Oe, Oh, re, rh, ho⟩ := s.parts
  obtain ⟨O1, r1, h1⟩ := RL.drop re i
  have hle : ∀ b, O1 b + Oh b ≤ O b := fun b => by have := h1 b; have := ho b; omega
  exact ⟨fun b => O1 b + Oh b, s.of_env r1 rh (s.se.del i) (fun _ => rfl) hle, hle⟩
theorem S.delHeap {st : St} (s : S P g w st t O) (i : Nat) : ∃ O', S P g w ⟨st.env, ⟨del st.hs.heap i, st.hs.next⟩⟩ t O' ∧ ∀ b, O' b ≤ O b := by
  obtain ⟨Oe, Oh, re, rh, ho⟩ := s.parts
  obtain ⟨O1, r1, h1⟩ := RL.drop rh i
  have hle : ∀ b, Oe b + O1 b ≤ O b := fun b => by have := h1 b; have := ho b; omega
  exact ⟨fun b => Oe b + O1 b, ⟨s.se, s.sh.del i, ⟨Oe, O1, re, r1, fun _ => rfl⟩, fun b => Nat.le_trans (hle b) (s.le b),
    fun b hb => s.hi b (by have := hle b; omega), s.fresh, s.pmlt⟩, hle⟩

theorem op_kill {is : List Nat} (s : S P g w st t O) (h : opKill is st = some (a, st')) : Op0 P g w t O st' := by
  simp only [opKill, Option.some.injEq, Prod.mk.injEq] at h
  obtain ⟨_, rfl⟩ := h
  have : ∃ O', S P g w ⟨is.foldl del st.env, st.hs⟩ t O' ∧ ∀ b, O' b ≤ O b := by
    induction is generalizing st O with
    | nil => exact ⟨O, s, fun _ => Nat.le_refl _⟩
    | cons i is ih =>
      obtain ⟨O1, s1, h1⟩ := s.delEnv i
      obtain ⟨O2, s2, h2⟩ := ih (st := ⟨del st.env i, st.hs⟩) s1
      exact ⟨O2, s2, fun b => Nat.le_trans (h2 b) (h1 b)⟩
  obtain ⟨O', s', h'⟩ := this
  exact .same s' h'

theorem S.delAll : ∀ {l : List Nat} {st : St} {O : Nat → Nat}, S P g w st t O → ∃ O', S P g w ⟨st.env, ⟨delAll st.hs.heap l, st.hs.next⟩⟩ t O' ∧ ∀ b, O' b ≤ O b
  | [], _, O, s => ⟨O, s, fun b => Nat.le_refl _⟩
  | i :: r, st, O, s => by
    obtain ⟨O1, s1, h1⟩ := s.delHeap i
    obtain ⟨O2, s2, h2⟩ := S.delAll (l := r) s1
    exact ⟨O2, s2, fun b => Nat.le_trans (h2 b) (h1 b)⟩
theorem op_free {i : Nat} (s : S P g w st t O) (h : opFree i st = some (a, st')) : Op0 P g w t O st' := by
  unfold opFree at h
  split at h
  · rename_i id _ _
    simp only [Option.some.injEq, Prod.mk.injEq] at h
    obtain ⟨_, rfl⟩ := h
    obtain ⟨O1, s1, h1⟩ := s.delEnv i
    obtain ⟨O2, s2, h2⟩ := s1.delHeap id
    exact .same s2 fun b => Nat.le_trans (h2 b) (h1 b)
  · rename_i caps _
    simp only [Option.some.injEq, Prod.mk.injEq] at h
    obtain ⟨_, rfl⟩ := h
    obtain ⟨O1, s1, h1⟩ := s.delEnv i
    obtain ⟨O2, s2, h2⟩ := S.delAll (l := capIds caps) s1
    exact .same s2 fun b => Nat.le_trans (h2 b) (h1 b)
  · simp only [Option.some.injEq, Prod.mk.injEq] at h
    obtain ⟨_, rfl⟩ := h
    exact .same s fun b => Nat.le_refl _

theorem op_wk {i m : Nat} (s : S P g w st t O) (h : opWk i m st = some (a, st')) : Op0 P g w t O st' := by
  unfold opWk at h
  split at h
  · rename_i hg
    simp only [Option.some.injEq, Prod.mk.injEq] at h
    obtain ⟨_, rfl⟩ := h
    obtain ⟨Oe, Oh, re, rh, ho⟩ := s.parts
    obtain ⟨O1, O2, ⟨hlt, q⟩, r2, hs⟩ := RL.take re hg
    simp only [RV] at q
    obtain ⟨O3, r3, h3⟩ := RL.put s.se r2 (x := .own false m []) (O1 := zero) ⟨hlt, by simp only [RV, Own]; exact .inl ⟨trivial, fun _ => trivial, none, q.1⟩⟩
    have hle : ∀ b, O3 b + Oh b ≤ O b := fun b => by have := h3 b; have := hs b; have := ho b; show O3 b + Oh b ≤ O b; have : zero b = 0 := rfl; omega
    exact .same (s.of_env r3 rh (s.se.put _ _) (fun _ => rfl) hle) hle
  · simp only [Option.some.injEq, Prod.mk.injEq] at h
    obtain ⟨_, rfl⟩ := h
    exact .same s fun b => Nat.le_refl _
end
end Go.Vm

end
