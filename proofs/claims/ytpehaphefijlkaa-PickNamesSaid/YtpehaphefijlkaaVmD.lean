import Derived.Test.YtpehaphefijlkaaVmC
import Derived.RangeFuncLeaves
import Derived.Orders
set_option linter.unusedVariables false
set_option linter.unusedSimpArgs false
noncomputable section
/-
  REGIONS (1): one instruction.
-/
namespace Go.Vm

abbrev FR (ro : Option Nat) : Fence := { Fence.wide with round := ro }
theorem room_FR (ro : Option Nat) (n : Nat) : (FR ro).room n := fun _ h => by simp [Fence.wide] at h
theorem callsIn_FR {ro : Option Nat} {n : Nat} {P : Program} {f : FuncId} {args : Array Value} {w : World} {R : Ending → World → Prop} (h : CallsIn (FR none) n P f args w R) : CallsIn (FR ro) n P f args w R := h

section
variable {P : Program} {g : Gh} {w : World} {t : Array Value} {O : Nat → Nat} {st st' : St} {a : AV} {o : Oper}

/-- What is known behind an operation. -/
structure After (P : Program) (g : Gh) (w : World) (t : Array Value) (O : Nat → Nat) (st' : St) (a : AV) (x : Value) (w' : World) (g' : Gh) (Oa O' : Nat → Nat) : Prop where
  val : RV g' w' a x Oa
  st : S P g' w' st' t O'
  ext : Ext g w g' w' fun b => O b ≠ 0
  le : ∀ b, Oa b + O' b ≤ 1
  old : ∀ b, b < w.heap.size → Oa b + O' b ≤ O b
  hi : ∀ b, Oa b ≠ 0 → b < w'.heap.size
/-- An operation, as the walk takes it. -/
def OpW (ro : Option Nat) (P : Program) (g : Gh) (w : World) (t : Array Value) (O : Nat → Nat) (st' : St) (a : AV) (o : Oper) : Prop :=
  ∀ (ds : List Deferred) (next : Act → World → Prop) (Q : Exit → Act → World → Prop), (∀ x w' g' Oa O', After P g w t O st' a x w' g' Oa O' → next (Act.put ⟨t, ds⟩ o.dst x) w') →
    o.uponIn (FR ro) 0 P ⟨t, ds⟩ next Q ((execOp (ev t) o).run P w)

theorem Op1.opW {ro : Option Nat} (h : Op1 P g w t O st' a ((execOp (ev t) o).run P w)) : OpW ro P g w t O st' a o := by
  obtain ⟨x, w', g', Oa, O', k⟩ := h
  intro ds next Q hn
  have hx := hn x w' g' Oa O' ⟨k.val, k.st, k.ext, k.le, k.old, k.hi⟩
  rcases k.run with hr | ⟨hr, rfl⟩
  · rw [hr]; exact hx
  · rw [hr]; exact hx

/-- The temporaries behind an instruction. -/
abbrev putT (t : Array Value) (dst : Option Nat) (x : Value) : Array Value := (Act.put ⟨t, []⟩ dst x).tmps
theorem put_eq (t : Array Value) (ds : List Deferred) (dst : Option Nat) (x : Value) : Act.put ⟨t, ds⟩ dst x = ⟨putT t dst x, ds⟩ := by cases dst <;> rfl
theorem putT_size (t : Array Value) (dst : Option Nat) (x : Value) : (putT t dst x).size = t.size := by cases dst <;> simp [putT, Act.put]

/-- What is known behind several instructions. -/
structure Goes (P : Program) (g : Gh) (w : World) (t : Array Value) (O : Nat → Nat) (st' : St) (t' : Array Value) (w' : World) (g' : Gh) (O' : Nat → Nat) : Prop where
  st : S P g' w' st' t' O'
  ext : Ext g w g' w' fun b => O b ≠ 0
  old : ∀ b, b < w.heap.size → O' b ≤ O b
  size : t'.size = t.size
theorem Goes.refl (s : S P g w st t O) : Goes P g w t O st t w g O := ⟨s, .refl _ _ _, fun _ _ => Nat.le_refl _, rfl⟩
theorem Goes.trans {t1 t2 : Array Value} {w1 w2 : World} {g1 g2 : Gh} {O1 O2 : Nat → Nat} {st1 st2 : St} (h1 : Goes P g w t O st1 t1 w1 g1 O1) (h2 : Goes P g1 w1 t1 O1 st2 t2 w2 g2 O2) :
    Goes P g w t O st2 t2 w2 g2 O2 where
  st := h2.st
  ext := h1.ext.trans h2.ext fun b hb h => by have := h1.old b hb; omega
  old b hb := Nat.le_trans (h2.old b (Nat.lt_of_lt_of_le hb h1.ext.size)) (h1.old b hb)
  size := h2.size.trans h1.size

theorem after_vi {st1 : St} {x : Value} {w' : World} {g1 : Gh} {Oa O1 : Nat → Nat} (k : After P g w t O st1 a x w' g1 Oa O1) {dst : Option Nat} (hd : ∀ d, dst = some d → d < t.size) (th : List (Nat × Nat)) :
    ∃ g' O', Goes P g w t O (setDst dst (firm (thawParts th a st1.hs).1) ⟨st1.env, (thawParts th a st1.hs).2⟩) (putT t dst x) w' g' O' := by
  obtain ⟨g2, Ov2, O2, r2, s2, x2, l2⟩ := thaws_parts (P := P) (t := t) th (env := st1.env) (hs := st1.hs) k.st k.val k.le k.hi
  have hle2 : ∀ b, Ov2 b + O2 b ≤ 1 := fun b => Nat.le_trans (l2 b) (k.le b)
  obtain ⟨g3, r3, s3, x3⟩ := firm_rel s2 r2 hle2
  have hext : Ext g w g3 w' fun b => O b ≠ 0 := (k.ext.trans x2 (fun _ _ h => h.elim)).trans x3 fun b hb h => by have := k.old b hb; have := l2 b; omega
  cases dst with
  | none => exact ⟨g3, O2, s3, hext, fun b hb => by have := k.old b hb; have := l2 b; omega, rfl⟩
  | some d =>
    obtain ⟨O4, s4, l4⟩ := s3.setTmp (hd d rfl) r3 hle2 fun b hb => by
      by_cases h : Oa b = 0
      · exact k.st.hi b (by have := l2 b; omega)
      · exact k.hi b h
    exact ⟨g3, O4, s4, hext, fun b hb => by have := k.old b hb; have := l2 b; have := l4 b; omega, putT_size _ _ _⟩

/-! ### The caller's part is put aside -/
theorem S.split (s : S P g w st t O) : ∃ Oe Oh, REnv g w st.env t Oe ∧ S P g w ⟨[], st.hs⟩ #[] Oh ∧ ∀ b, O b = Oe b + Oh b := by
  obtain ⟨Oe, Oh, re, rh, ho⟩ := s.parts
  exact ⟨Oe, Oh, re, ⟨List.Pairwise.nil, s.sh, ⟨zero, Oh, fun _ => rfl, rh, fun b => by simp⟩, fun b => by have := s.le b; have := ho b; omega, fun b hb => s.hi b (by have := ho b; omega), s.fresh, s.pmlt⟩, ho⟩
theorem S.join {e : Env} {hs : HS} {Oe Oh : Nat → Nat} (he : Srt e) (re : REnv g w e t Oe) (s : S P g w ⟨[], hs⟩ #[] Oh) (hle : ∀ b, Oe b + Oh b ≤ 1) (hhi : ∀ b, Oe b ≠ 0 → b < w.heap.size) :
    S P g w ⟨e, hs⟩ t fun b => Oe b + Oh b := by
  obtain ⟨O0, Oh', r0, rh, ho⟩ := s.parts
  have h0 : ∀ b, Oh b = Oh' b := fun b => by have := ho b; have : O0 b = 0 := r0 b; omega
  exact ⟨he, s.sh, ⟨Oe, Oh', re, rh, fun b => by have := h0 b; show Oe b + Oh b = Oe b + Oh' b; omega⟩, hle, fun b hb => by
    by_cases h : Oe b = 0
    · exact s.hi b (by change Oe b + Oh b ≠ 0 at hb; omega)
    · exact hhi b h, s.fresh, s.pmlt⟩

theorem ev_eval (t : Array Value) (ds : List Deferred) : (⟨t, ds⟩ : Act).eval = ev t := by
  funext x; cases x <;> rfl
theorem semAt_ev {ro : Option Nat} (t : Array Value) (ds : List Deferred) (h : ∀ c, o.op ≠ .defer c) : o.semAt ro (⟨t, ds⟩ : Act).eval = execOp (ev t) o := by
  rw [Oper.semAt_eq _ _ _ h, ev_eval]
end

/-! ### Guards -/
section
variable {P : Program} {g : Gh} {w : World} {t : Array Value} {O : Nat → Nat} {st st' : St} {o : Oper} {ops : Array Oper}
theorem guard_rel (s : S P g w st t O) {gd : Option (Nat × Bool)} (hg : chkGuard ops gd o.guard = true) :
    (gd = none → Region.wanted o (yielded ops t) = true) ∧
    ∀ sl want, gd = some (sl, want) → (∀ b, get st.env sl = some (.d (.bool b)) → Region.wanted o (yielded ops t) = (b == want)) ∧ (get st.env sl = some (.tup []) → Region.wanted o (yielded ops t) = false) := by
  cases gd with
  | none =>
    cases hog : o.guard with
    | none => exact ⟨fun _ => by simp [Region.wanted, hog], fun sl want h => by simp at h⟩
    | some q => rw [hog] at hg; simp [chkGuard] at hg
  | some p =>
    obtain ⟨sl, want⟩ := p
    cases hog : o.guard with
    | none => rw [hog] at hg; simp [chkGuard] at hg
    | some q =>
      obtain ⟨j, c⟩ := q
      rw [hog] at hg
      simp only [chkGuard, Bool.and_eq_true, beq_iff_eq] at hg
      obtain ⟨rfl, h2⟩ := hg
      refine ⟨fun h => by simp at h, fun sl' want' h => ?_⟩
      simp only [Option.some.injEq, Prod.mk.injEq] at h
      obtain ⟨rfl, rfl⟩ := h
      obtain ⟨Oe, Oh, re, rh, ho⟩ := s.parts
      split at h2
      · rename_i oj hoj
        split at h2
        · rename_i d hd
          rw [Nat.beq_eq] at h2
          subst h2
          refine ⟨fun b hb => ?_, fun hb => ?_⟩
          · obtain ⟨O1, ⟨hlt, q⟩, _⟩ := RL.get re hb
            have hv : t.getD d undef = .bool b := ev_bool q rfl
            have ht : t[d]? = some (.bool b) := by
              rw [Array.getD_eq_getD_getElem?] at hv
              simp [hlt] at hv ⊢; exact hv
            simp [Region.wanted, hog, yielded, hoj, hd, ht]
          · obtain ⟨O1, ⟨hlt, q⟩, _⟩ := RL.get re hb
            simp only [RV, RVs] at q
            obtain ⟨xs, hv, hxs, _⟩ := q
            have ht : t[d]? = some (.tuple xs) := by
              rw [Array.getD_eq_getD_getElem?] at hv
              simp [hlt] at hv ⊢; exact hv
            simp [Region.wanted, hog, yielded, hoj, hd, ht]
        · simp at h2
      · simp at h2
end
end Go.Vm

/-
  REGIONS (2): calls that share the heap.
-/
namespace Go.Vm

/-- What a call has done. -/
def CallPost (P : Program) (g : Gh) (w : World) (O : Nat → Nat) (v : AV) (hs' : HS) : Ending → World → Prop
  | .returned x, w' => ∃ g' Or Oh, RV g' w' v x Or ∧ S P g' w' ⟨[], hs'⟩ #[] Oh ∧ Ext g w g' w' (fun b => O b ≠ 0) ∧ (∀ b, Or b + Oh b ≤ 1) ∧ (∀ b, b < w.heap.size → Or b + Oh b ≤ O b) ∧
      ∀ b, Or b ≠ 0 → b < w'.heap.size
  | _, _ => False
/-- A function of the program's, with a body. -/
def HasFn (P : Program) (f : FuncId) : Prop := ∃ fn, P.funcs[f]? = some fn ∧ fn.body.isSome = true ∧ fn.name ≠ "runtime.NumGoroutine"
def CallSim (P : Program) (r : Rec) : Prop :=
  ∀ {f : FuncId} {args : List AV} {hs : HS} {v : AV} {hs' : HS}, r.call f args hs = some (v, hs') → HasFn P f ∧
    ∀ {g : Gh} {w : World} {xs : List Value} {Oa Oh : Nat → Nat}, RVs g w args xs Oa → S P g w ⟨[], hs⟩ #[] Oh → (∀ b, Oa b + Oh b ≤ 1) → (∀ b, Oa b ≠ 0 → b < w.heap.size) →
      CallsIn (FR none) 0 P f xs.toArray w (CallPost P g w (fun b => Oa b + Oh b) v hs')

section
variable {P : Program} {g : Gh} {w : World} {t : Array Value} {O : Nat → Nat} {st st' : St} {a : AV} {o : Oper} {r : Rec}

/-- The caller goes on. -/
theorem call_after {e : Env} {hs hs' : HS} {Ov Oe Oh : Nat → Nat} {x : Value} {w' : World} {v : AV} (he : Srt e) (re : REnv g w e t Oe) (hle : ∀ b, Ov b + (Oe b + Oh b) ≤ O b) (s0 : S P g w st t O)
    (h : CallPost P g w (fun b => Ov b + Oh b) v hs' (.returned x) w') : ∃ g' Oa O', After P g w t O ⟨e, hs'⟩ v x w' g' Oa O' := by
  obtain ⟨g', Or, Oh', h1, h2, h3, h4, h5, h6⟩ := h
  have hle1 : ∀ b, Ov b + (Oe b + Oh b) ≤ 1 := fun b => Nat.le_trans (hle b) (s0.le b)
  have re' := REnv.ext h3 re fun b hb h => by have := hle1 b; change Ov b + Oh b ≠ 0 at h; omega
  have hoe : ∀ b, ¬ b < w.heap.size → Oe b = 0 := fun b hb => by
    by_cases h : Oe b = 0
    · exact h
    · exact absurd (s0.hi b (by have := hle b; omega)) hb
  have hsum : ∀ b, Or b + (Oe b + Oh' b) ≤ 1 := fun b => by
    by_cases hb : b < w.heap.size
    · have h5b : Or b + Oh' b ≤ Ov b + Oh b := h5 b hb
      have := hle1 b; omega
    · have := hoe b hb; have := h4 b; omega
  have s' := S.join he re' h2 (fun b => by have := hsum b; omega) fun b hb => Nat.lt_of_lt_of_le (s0.hi b (by have := hle b; omega)) h3.size
  refine ⟨g', Or, _, h1, s', h3.mono fun b _ hb => by have := hle b; change Ov b + Oh b ≠ 0 at hb; omega, hsum, fun b hb => ?_, h6⟩
  have h5b : Or b + Oh' b ≤ Ov b + Oh b := h5 b hb
  have := hle b
  show Or b + (Oe b + Oh' b) ≤ O b
  omega

theorem opW_of_call {ro : Option Nat} {f : FuncId} {args : Array Value} {e : Env} {hs hs' : HS} {Ov Oe Oh : Nat → Nat} {v : AV} (he : Srt e) (re : REnv g w e t Oe) (hle : ∀ b, Ov b + (Oe b + Oh b) ≤ O b) (s0 : S P g w st t O)
    (hrun : (execOp (ev t) o).run P w = .ok (.enter f args) w) (hk : CallsIn (FR none) 0 P f args w (CallPost P g w (fun b => Ov b + Oh b) v hs')) : OpW ro P g w t O ⟨e, hs'⟩ v o := by
  intro ds next Q hn
  rw [hrun, Oper.uponIn_enter]
  refine ⟨fun h => by simp [Fence.wide] at h, callsIn_FR (hk.mono fun en w' hp => ?_)⟩
  cases en with
  | returned x =>
    obtain ⟨g', Oa, O', k⟩ := call_after (hs := hs) he re hle s0 hp
    exact hn x w' g' Oa O' k
  | panicked c => exact hp.elim
  | outgrown => exact hp.elim

theorem run_callFunc {f : FuncId} (h : HasFn P f) (args : Array Value) : (callFunc f args).run P w = .ok (.enter f args) w := by
  obtain ⟨fn, h1, h2, h3⟩ := h
  have h2' : ¬ fn.body = none := by intro h; simp [h] at h2
  simp [callFunc, h1, h2', h3]

theorem calleeFn_eq {c : Callee} {f : FuncId} (h : (match calleeFn c with | some g => Nat.beq f g | none => false) = true) : c = .value (.func f) := by
  split at h
  · rename_i g hg
    rw [Nat.beq_eq] at h
    subst h
    unfold calleeFn at hg
    split at hg
    · simp only [Option.some.injEq] at hg; subst hg; rfl
    · simp at hg
  · simp at h

theorem op_calli {ro : Option Nat} {f : FuncId} {args : List Rd} (hr : CallSim P r) (s : S P g w st t O) (h : opCalli r f args st = some (a, st')) (hc : chkOp P (.calli f args) o.op = true) :
    OpW ro P g w t O st' a o := by
  obtain ⟨dst, op, ty, pos, aft, gd⟩ := o
  simp only [chkOp] at hc
  split at hc
  · rename_i c
    simp only [Bool.and_eq_true] at hc
    obtain ⟨h1, h2⟩ := hc
    obtain ⟨callee, as, ats⟩ := c
    have := calleeFn_eq h1
    simp only at this h2
    subst this
    unfold opCalli at h
    split at h
    · rename_i vs e hrd
      split at h
      · rename_i v hs' hcall
        simp only [Option.some.injEq, Prod.mk.injEq] at h
        obtain ⟨rfl, rfl⟩ := h
        obtain ⟨Ov, O', rvs, s', l⟩ := s.rdAll h2 hrd
        obtain ⟨Oe, Oh, re, sh, ho⟩ := s'.split
        obtain ⟨hfn, hk⟩ := hr hcall
        have hle : ∀ b, Ov b + (Oe b + Oh b) ≤ O b := fun b => by have := ho b; have := l b; omega
        have hk := hk rvs sh (fun b => by have := hle b; have := s.le b; omega) (fun b hb => s.hi b (by have := hle b; omega))
        refine opW_of_call (hs := st.hs) s'.se re hle s ?_ hk
        simp only [execOp, resolve, Sem.run_bind, ev, Deferred.ofValue, Sem.run_pure, Result.andThen_ok, invoke]
        rw [run_callFunc hfn]
        congr 2
        apply Array.ext'
        simp
      · simp at h
    · simp at h
  · simp at hc
end
end Go.Vm

/-
  REGIONS (3): calls on plain data: a heap of their own.
-/
namespace Go.Vm
section
variable {P : Program} {g : Gh} {w : World} {t : Array Value} {O : Nat → Nat} {st st' : St} {a : AV} {o : Oper} {r : Rec}

theorem RD.mono {pm pm' : Nat → Nat → Prop} (h : ∀ b o, pm b o → pm' b o) {c : D} {x : Value} (r : RD w pm c x) : RD w pm' c x := by
  induction r with
  | int k n => exact .int k n
  | bool b => exact .bool b
  | str s => exact .str s
  | nil a cap => exact .nil a cap
  | lst xs b off m cap u hm hcap hl hc hr ih => exact .lst xs b off m cap u hm hcap hl (fun j c hj => ⟨(hc j c hj).1, h _ _ (hc j c hj).2⟩) (fun j c hj => ih j c hj)
theorem RCs.mono {pm pm' : Nat → Nat → Prop} (h : ∀ b o, pm b o → pm' b o) {cs : List D} {b off : Nat} (r : RCs w pm cs b off) : RCs w pm' cs b off := fun j c hj => by
  obtain ⟨u, hu, hr⟩ := r j c hj
  exact ⟨u, hu, hr.mono h⟩
theorem RD.flat {pm pm' : Nat → Nat → Prop} {c : D} {x : Value} (hf : flatD c = true) (r : RD w pm c x) : RD w pm' c x := by
  cases r with
  | int k n => exact .int k n
  | bool b => exact .bool b
  | str s => exact .str s
  | nil a cap => exact .nil a cap
  | lst xs => simp [flatD] at hf

/-- The bookkeeping of a call with a heap of its own: the caller's variables stay while it runs. -/
def Gh.view (g : Gh) (w : World) (K : Nat → Prop) : Gh where
  obj _ := none
  base _ := 0
  esz _ := 0
  bsz _ := 0
  pm b o := g.pm b o ∨ (K b ∧ b < w.heap.size)

theorem view_S (s : S P g w st t O) (K : Nat → Prop) : S P (g.view w K) w ⟨[], ⟨[], 0⟩⟩ #[] zero :=
  ⟨List.Pairwise.nil, List.Pairwise.nil, ⟨zero, zero, fun _ => rfl, fun _ => rfl, fun _ => rfl⟩, fun _ => by simp, fun b hb => by simp at hb, fun _ _ => rfl, fun b o h => h.elim (s.pmlt b o) fun h => h.2⟩

theorem viewOne_rel (s : S P g w st t O) {K : Nat → Prop} {v d : AV} {x : Value} {Ov : Nat → Nat} (h : viewOne st.hs.heap v = some d) (hK : isSl v = true → ∀ b, O b ≠ 0 → K b) (rv : RV g w v x Ov) :
    RV (g.view w K) w d x zero := by
  have hm : ∀ b o, g.pm b o → (g.view w K).pm b o := fun b o h => .inl h
  cases v <;> simp only [viewOne, reduceCtorEq] at h
  · simp only [Option.some.injEq] at h; subst h
    simp only [RV] at rv ⊢
    exact ⟨rv.1.mono hm, fun _ => trivial⟩
  · simp only [Option.some.injEq] at h; subst h
    simp only [RV] at rv ⊢
    exact ⟨rv.1, fun _ => trivial⟩
  · rename_i p m xs
    cases p
    · simp only [Option.some.injEq] at h; subst h
      have := RV.share _ _ _ rv
      simp only [Vm.share, RV] at this
      simp only [RV]
      exact ⟨this.1.mono hm, fun _ => trivial⟩
    · simp at h
  · rename_i id off len
    split at h
    · rename_i xs hx
      simp only [Option.some.injEq] at h; subst h
      simp only [elems] at hx
      split at hx
      · rename_i zs hzs
        split at hx
        · rename_i hb
          rw [Nat.ble_eq] at hb
          simp only [Option.some.injEq] at hx
          subst hx
          have hsl : (Vm.sub zs off len).length = len := sub_length hb
          simp only [RV] at rv ⊢
          refine ⟨?_, fun _ => trivial⟩
          rcases rv.1 with ⟨rfl, ad, rfl⟩ | ⟨b, cap, hob, rfl, hlc, hcap⟩
          · have : Vm.sub zs off 0 = [] := List.eq_nil_of_length_eq_zero hsl
            rw [this]; exact .nil _ _
          · obtain ⟨Oe, Oh, re, rh, ho⟩ := s.parts
            have key : ∀ (m : Nat), 0 < m → g.esz id = m → (∀ e ∈ zs, e.length = m) → RCs w g.pm zs.flatten b (g.base id) → O b ≠ 0 → RD w (g.view w K).pm (.lst (Vm.sub zs off len)) (.slice (some ⟨b, g.base id + off * g.esz id, none⟩) len cap) := by
              intro m hm0 hes hl hc hO
              have hsubl := sub_len hl off len
              have := RCs.rd (w := w) (pm := (g.view w K).pm) (xs := Vm.sub zs off len) (b := b) (off := g.base id + off * g.esz id) (cap := cap) hm0 (by omega) hsubl (by
                rw [flatten_sub hl, hes]; exact (hc.sub _ _).mono hm) (fun j _ => .inr ⟨hK rfl b hO, s.hi b hO⟩)
              rw [hsl] at this
              exact this
            unfold objElems at hzs
            split at hzs
            · rename_i m' ys hg
              simp only [Option.some.injEq] at hzs; subst hzs
              obtain ⟨O1, q, hO1⟩ := RL.get rh hg
              simp only [RObj] at q
              rcases q with ⟨rfl, _⟩ | ⟨b', c, el, g1, g2, g3, g4, g5, g6, g7, g8, g9, g10⟩
              · have h0 : len = 0 := by simp at hb; omega
                subst h0
                have : Vm.sub ([] : List (List D)) off 0 = [] := List.eq_nil_of_length_eq_zero hsl
                rw [this]; exact .nil _ _
              · rw [hob] at g1
                simp only [Option.some.injEq] at g1
                subst g1
                exact key _ g3 g2 g7 g8 (by have := hO1 b; have := g10 b; rw [one_same] at this; have := ho b; omega)
            · rename_i cs hg
              split at hzs
              · rename_i ds hds
                simp only [Option.some.injEq] at hzs; subst hzs
                obtain ⟨O1, q, hO1⟩ := RL.get rh hg
                simp only [RObj] at q
                obtain ⟨b', c, el, O2, g1, g2, g3, g4, g5, g6, g7, g8⟩ := q
                rw [hob] at g1
                simp only [Option.some.injEq] at g1
                subst g1
                obtain ⟨h1, h2, h3⟩ := toDs_rel hds g6
                refine key 1 (by omega) g3 (ones_len ds) ?_ (by have := hO1 b; have := g8 b; rw [one_same] at this; have := ho b; omega)
                rw [ones_flatten, g2]
                intro j d hj
                obtain ⟨u, hu, hr⟩ := h2 _ d hj
                exact ⟨u, by rw [cell_block g5, ← Array.getElem?_toList, Nat.zero_add]; exact hu, hr⟩
              · simp at hzs
            · simp at hzs
        · simp at hx
      · simp at hx
    · simp at h

theorem viewAll_rel (s : S P g w st t O) {K : Nat → Prop} : ∀ {vs ds : List AV} {xs : List Value} {Ov : Nat → Nat}, viewAll st.hs.heap vs = some ds → (vs.any isSl = true → ∀ b, O b ≠ 0 → K b) → RVs g w vs xs Ov →
    RVs (g.view w K) w ds xs zero
  | [], ds, xs, Ov, h, hK, rv => by
    simp only [viewAll, Option.some.injEq] at h; subst h
    simp only [RVs] at rv ⊢
    exact ⟨rv.1, fun _ => trivial⟩
  | v :: vs, ds, xs, Ov, h, hK, rv => by
    simp only [viewAll] at h
    split at h
    · simp at h
    · rename_i d hd
      split at h
      · simp at h
      · rename_i ds' hds
        simp only [Option.some.injEq] at h; subst h
        simp only [RVs] at rv ⊢
        obtain ⟨x, ys, O1, O2, rfl, r1, r2, hs⟩ := rv
        exact ⟨x, ys, zero, zero, rfl, viewOne_rel s hd (fun h => hK (by simp [h])) r1, viewAll_rel s hds (fun h => hK (by simp only [List.any_cons, h, Bool.or_true])) r2, fun _ => rfl⟩
theorem viewArg_rel (s : S P g w st t O) {K : Nat → Prop} {v d : AV} {x : Value} {Ov : Nat → Nat} (h : viewArg st.hs.heap v = some d) (hK : fluid v = true → ∀ b, O b ≠ 0 → K b) (rv : RV g w v x Ov) :
    RV (g.view w K) w d x zero := by
  cases v <;> simp only [viewArg] at h <;> try exact viewOne_rel s h (fun hh => hK hh) rv
  rename_i cs
  split at h
  · rename_i xs hx
    simp only [Option.some.injEq] at h; subst h
    simp only [RV] at rv ⊢
    obtain ⟨ys, e, r⟩ := rv
    exact ⟨ys, e, viewAll_rel s hx (fun hh => hK hh) r⟩
  · simp at h
theorem viewArgs_rel (s : S P g w st t O) {K : Nat → Prop} : ∀ {vs ds : List AV} {xs : List Value} {Ov : Nat → Nat}, viewArgs st.hs.heap vs = some ds → (vs.any fluid = true → ∀ b, O b ≠ 0 → K b) → RVs g w vs xs Ov →
    RVs (g.view w K) w ds xs zero
  | [], ds, xs, Ov, h, hK, rv => by
    simp only [viewArgs, Option.some.injEq] at h; subst h
    simp only [RVs] at rv ⊢
    exact ⟨rv.1, fun _ => trivial⟩
  | v :: vs, ds, xs, Ov, h, hK, rv => by
    simp only [viewArgs] at h
    split at h
    · simp at h
    · rename_i d hd
      split at h
      · simp at h
      · rename_i ds' hds
        simp only [Option.some.injEq] at h; subst h
        simp only [RVs] at rv ⊢
        obtain ⟨x, ys, O1, O2, rfl, r1, r2, hs⟩ := rv
        exact ⟨x, ys, zero, zero, rfl, viewArg_rel s hd (fun h => hK (by simp [h])) r1, viewArgs_rel s hds (fun h => hK (by simp only [List.any_cons, h, Bool.or_true])) r2, fun _ => rfl⟩
end
end Go.Vm

/-
  REGIONS (4): what a call on plain data answers.
-/
namespace Go.Vm
section
variable {P : Program} {g : Gh} {w : World} {t : Array Value} {O : Nat → Nat} {st st' : St} {a : AV} {o : Oper} {r : Rec}

/-- What may be in an answer. -/
def plain1 : AV → Bool
  | .d _ | .nl | .own _ _ _ => true
  | _ => false
def plain2 : AV → Bool
  | .agg cs => cs.all plain1
  | v => plain1 v
def plain3 : AV → Bool
  | .tup vs => vs.all plain2
  | v => plain2 v

def ResOK (P : Program) (g : Gh) (w : World) (O : Nat → Nat) (n : Nat) (x : Value) (Ov : Nat → Nat) (r : AV × Heap) : Prop :=
  ∃ Ov' O', RV g w r.1 x Ov' ∧ S P g w ⟨[], ⟨r.2, n⟩⟩ #[] O' ∧ ∀ b, Ov' b + O' b ≤ Ov b + O b
def RessOK (P : Program) (g : Gh) (w : World) (O : Nat → Nat) (n : Nat) (xs : List Value) (Ov : Nat → Nat) (r : List AV × Heap) : Prop :=
  ∃ Ov' O', RVs g w r.1 xs Ov' ∧ S P g w ⟨[], ⟨r.2, n⟩⟩ #[] O' ∧ ∀ b, Ov' b + O' b ≤ Ov b + O b

theorem resOne_rel {h : Heap} {n : Nat} (s : S P g w ⟨[], ⟨h, n⟩⟩ #[] O) {v : AV} {x : Value} {Ov : Nat → Nat} {r : AV × Heap} (hr : resOne h v = some r) (rv : RV g w v x Ov) :
    ResOK P g w O n x Ov r ∧ plain1 r.1 = true := by
  have triv : ∀ v, RV g w v x Ov → ResOK P g w O n x Ov (v, h) := fun v rv => ⟨Ov, O, rv, s, fun _ => Nat.le_refl _⟩
  cases v <;> simp only [resOne, reduceCtorEq] at hr
  · simp only [Option.some.injEq] at hr; subst hr; exact ⟨triv _ rv, rfl⟩
  · simp only [Option.some.injEq] at hr; subst hr; exact ⟨triv _ rv, rfl⟩
  · simp only [Option.some.injEq] at hr; subst hr; exact ⟨triv _ rv, rfl⟩
  · rename_i id off len
    split at hr
    · rename_i m xs hg
      split at hr
      · rename_i hb
        rw [Nat.ble_eq] at hb
        simp only [Option.some.injEq] at hr; subst hr
        refine ⟨?_, rfl⟩
        simp only [RV] at rv
        obtain ⟨rv, hz⟩ := rv
        obtain ⟨Oe, Oh, re, rh, ho⟩ := s.parts
        obtain ⟨O1, O2, q, r2, hs⟩ := RL.take rh hg
        have hle2 : ∀ b, Oe b + O2 b ≤ O b := fun b => by have := hs b; have := ho b; omega
        have s2 : S P g w ⟨[], ⟨del h id, n⟩⟩ #[] (fun b => Oe b + O2 b) :=
          ⟨s.se, s.sh.del id, ⟨Oe, O2, re, r2, fun _ => rfl⟩, fun b => Nat.le_trans (hle2 b) (s.le b), fun b hb => s.hi b (by have := hle2 b; omega), s.fresh, s.pmlt⟩
        have hsub : (Vm.sub xs off len).length = len := sub_length hb
        have emp : len = 0 → (∃ a, x = .slice a 0 0) → RV g w (.own true m (Vm.sub xs off len)) x zero := by
          intro h0 h
          simp only [RV, Own]
          exact .inl ⟨List.eq_nil_of_length_eq_zero (by omega), fun _ => trivial, h⟩
        rcases rv with ⟨h0, h⟩ | ⟨b, cap, hob, rfl, hlc, hcap⟩
        · exact ⟨zero, _, emp h0 h, s2, fun b => by have := hle2 b; simp; omega⟩
        · simp only [RObj] at q
          rcases q with ⟨rfl, g1, g2, g3, _⟩ | ⟨b', c, el, g1, g2, g3, g4, g5, g6, g7, g8, g9, g10⟩
          · have hl0 : len = 0 := by simp at hb; omega
            have hc0 : cap = 0 := by
              rw [g1, g2] at hcap
              have : (off + cap) * m = 0 := by omega
              rcases Nat.mul_eq_zero.1 this with h | h <;> omega
            subst hl0 hc0
            exact ⟨zero, _, emp rfl ⟨_, rfl⟩, s2, fun b => by have := hle2 b; simp; omega⟩
          · rw [hob] at g1
            simp only [Option.some.injEq] at g1
            subst g1
            refine ⟨one b, _, ?_, s2, fun y => ?_⟩
            · simp only [RV, Own]
              refine .inr ⟨b, g.base id + off * m, cap, c, el, by rw [hsub, g2], by omega, g3, sub_len g7 off len, g4, ?_, ?_, fun o ho => absurd ho (g9 o), fun h => by simp at h, rfl⟩
              · rw [g2, Nat.add_mul] at hcap; omega
              · rw [flatten_sub g7]
                exact g8.sub _ _
            · have := hs y; have := ho y; have := g10 y; have := hz y
              show one b y + (Oe y + O2 y) ≤ Ov y + O y
              omega
      · simp at hr
    · simp at hr

theorem resMany_rel {n : Nat} {f : Heap → AV → Option (AV × Heap)} {fs : Heap → List AV → Option (List AV × Heap)} {p : AV → Bool}
    (hf : ∀ {h : Heap} {O : Nat → Nat}, S P g w ⟨[], ⟨h, n⟩⟩ #[] O → ∀ {v : AV} {x : Value} {Ov : Nat → Nat} {r : AV × Heap}, f h v = some r → RV g w v x Ov → ResOK P g w O n x Ov r ∧ p r.1 = true)
    (hnil : ∀ h, fs h [] = some ([], h)) (hcons : ∀ h v vs r, fs h (v :: vs) = some r → ∃ v' h' vs' h'', f h v = some (v', h') ∧ fs h' vs = some (vs', h'') ∧ r = (v' :: vs', h'')) :
    ∀ {vs : List AV} {h : Heap} {O : Nat → Nat}, S P g w ⟨[], ⟨h, n⟩⟩ #[] O → ∀ {xs : List Value} {Ov : Nat → Nat} {r : List AV × Heap}, fs h vs = some r → RVs g w vs xs Ov → RessOK P g w O n xs Ov r ∧ r.1.all p = true
  | [], h, O, s, xs, Ov, r, hr, rv => by
    rw [hnil] at hr
    simp only [Option.some.injEq] at hr; subst hr
    exact ⟨⟨Ov, O, rv, s, fun _ => Nat.le_refl _⟩, rfl⟩
  | v :: vs, h, O, s, xs, Ov, r, hr, rv => by
    obtain ⟨v', h', vs', h'', e1, e2, rfl⟩ := hcons _ _ _ _ hr
    simp only [RVs] at rv
    obtain ⟨x, ys, O1, O2, rfl, r1, r2, hs⟩ := rv
    obtain ⟨⟨Ov1, O3, q1, s1, l1⟩, p1⟩ := hf s e1 r1
    obtain ⟨⟨Ov2, O4, q2, s2, l2⟩, p2⟩ := resMany_rel hf hnil hcons s1 e2 r2
    refine ⟨⟨fun b => Ov1 b + Ov2 b, O4, ?_, s2, fun b => by have := l1 b; have := l2 b; have := hs b; show Ov1 b + Ov2 b + O4 b ≤ Ov b + O b; omega⟩, by simp only [List.all_cons, p1, p2]; rfl⟩
    simp only [RVs]
    exact ⟨x, ys, Ov1, Ov2, rfl, q1, q2, fun _ => rfl⟩

theorem resAgg_rel {h : Heap} {n : Nat} {O : Nat → Nat} (s : S P g w ⟨[], ⟨h, n⟩⟩ #[] O) {v : AV} {x : Value} {Ov : Nat → Nat} {r : AV × Heap} (hr : resAgg h v = some r) (rv : RV g w v x Ov) :
    ResOK P g w O n x Ov r ∧ plain2 r.1 = true := by
  have base : ∀ {v : AV}, RV g w v x Ov → resOne h v = some r → ResOK P g w O n x Ov r ∧ plain2 r.1 = true := fun rv hr => by
    obtain ⟨h1, h2⟩ := resOne_rel s hr rv
    refine ⟨h1, ?_⟩
    obtain ⟨v', h'⟩ := r
    cases v' <;> first | exact h2 | (simp [plain1] at h2)
  cases v <;> simp only [resAgg] at hr <;> try exact base rv hr
  rename_i cs
  split at hr
  · rename_i vs' h' hx
    simp only [Option.some.injEq] at hr; subst hr
    simp only [RV] at rv
    obtain ⟨ys, e, rr⟩ := rv
    obtain ⟨⟨Ov1, O1, q1, s1, l1⟩, p1⟩ := resMany_rel (f := resOne) (fs := resAll) (p := plain1) resOne_rel (fun _ => rfl) (fun h v vs r hr => by
      simp only [resAll] at hr
      split at hr
      · simp at hr
      · rename_i x h1 e1
        split at hr
        · simp at hr
        · rename_i xs h2 e2
          simp only [Option.some.injEq] at hr
          exact ⟨x, h1, xs, h2, e1, e2, hr.symm⟩) s hx rr
    exact ⟨⟨Ov1, O1, by simp only [RV]; exact ⟨ys, e, q1⟩, s1, l1⟩, p1⟩
  · simp at hr
theorem resTop_rel {h : Heap} {n : Nat} (s : S P g w ⟨[], ⟨h, n⟩⟩ #[] O) {v r : AV} {x : Value} {Ov : Nat → Nat} (hr : resTop h v = some r) (rv : RV g w v x Ov) :
    ∃ u Ov', r = blessed u ∧ RV g w u x Ov' ∧ (∀ b, Ov' b ≤ Ov b + O b) ∧ plain3 u = true := by
  have base : ∀ {v : AV}, RV g w v x Ov → (match resAgg h v with | some (x, _) => some (blessed x) | none => none) = some r → ∃ u Ov', r = blessed u ∧ RV g w u x Ov' ∧ (∀ b, Ov' b ≤ Ov b + O b) ∧ plain3 u = true := fun rv hr => by
    split at hr
    · rename_i u h' hu
      simp only [Option.some.injEq] at hr
      obtain ⟨⟨Ov', O', q, _, l⟩, p⟩ := resAgg_rel s hu rv
      refine ⟨u, Ov', hr.symm, q, fun b => by have := l b; omega, ?_⟩
      cases u <;> first | exact p | (simp [plain2, plain1] at p)
    · simp at hr
  cases v <;> simp only [resTop] at hr <;> try exact base rv hr
  rename_i vs
  split at hr
  · rename_i vs' h' hx
    simp only [Option.some.injEq] at hr
    simp only [RV] at rv
    obtain ⟨ys, e, rr⟩ := rv
    obtain ⟨⟨Ov1, O1, q1, s1, l1⟩, p1⟩ := resMany_rel (f := resAgg) (fs := resAggs) (p := plain2) resAgg_rel (fun _ => rfl) (fun h v vs r hr => by
      simp only [resAggs] at hr
      split at hr
      · simp at hr
      · rename_i x h1 e1
        split at hr
        · simp at hr
        · rename_i xs h2 e2
          simp only [Option.some.injEq] at hr
          exact ⟨x, h1, xs, h2, e1, e2, hr.symm⟩) s hx rr
    exact ⟨.tup vs', Ov1, hr.symm, by simp only [RV]; exact ⟨ys, e, q1⟩, fun b => by have := l1 b; omega, p1⟩
  · simp at hr

/-- Where nothing of an answer may be seen from elsewhere, all of it is new. -/
theorem bless1_rel {g2 : Gh} {v : AV} {x : Value} {Ov : Nat → Nat} (hp : plain1 v = true) (hf : fresh1 v = true) (rv : RV g w v x Ov) (hn : ∀ b, Ov b ≠ 0 → ∀ o, ¬ g2.pm b o) : RV g2 w (bless1 v) x Ov := by
  cases v <;> simp only [plain1, Bool.false_eq_true] at hp
  · simp only [RV, bless1] at rv ⊢
    exact ⟨rv.1.flat (by simpa only [fresh1] using hf), rv.2⟩
  · simpa only [RV, bless1] using rv
  · rename_i p m xs
    simp only [RV, bless1] at rv ⊢
    simp only [fresh1] at hf
    rcases rv with h | ⟨b, off, cap, c, el, rfl, hcap, hm, hl, hb, hsz, hrc, hpm, hpp, rfl⟩
    · exact .inl h
    · refine .inr ⟨b, off, cap, c, el, rfl, hcap, hm, hl, hb, hsz, fun j d hj => ?_, fun o ho => absurd ho (hn b (by simp) o), fun h => by simp at h, rfl⟩
      obtain ⟨u, hu, hr⟩ := hrc j d hj
      refine ⟨u, hu, hr.flat ?_⟩
      have hd : d ∈ xs.flatten := List.mem_of_getElem? hj
      obtain ⟨e, he, hde⟩ := List.mem_flatten.1 hd
      exact List.all_eq_true.1 (List.all_eq_true.1 hf e he) d hde
theorem blessMany_rel {g2 : Gh} {f : AV → AV} {p q : AV → Bool} (hf : ∀ {v : AV} {x : Value} {Ov : Nat → Nat}, p v = true → q v = true → RV g w v x Ov → (∀ b, Ov b ≠ 0 → ∀ o, ¬ g2.pm b o) → RV g2 w (f v) x Ov) :
    ∀ {vs : List AV} {xs : List Value} {Ov : Nat → Nat}, vs.all p = true → vs.all q = true → RVs g w vs xs Ov → (∀ b, Ov b ≠ 0 → ∀ o, ¬ g2.pm b o) → RVs g2 w (vs.map f) xs Ov
  | [], xs, Ov, _, _, rv, _ => by simpa only [RVs, List.map_nil] using rv
  | v :: vs, xs, Ov, hp, hq, rv, hn => by
    simp only [List.all_cons, Bool.and_eq_true] at hp hq
    simp only [RVs, List.map_cons] at rv ⊢
    obtain ⟨x, ys, O1, O2, rfl, r1, r2, hs⟩ := rv
    exact ⟨x, ys, O1, O2, rfl, hf hp.1 hq.1 r1 (fun b hb => hn b (by have := hs b; omega)), blessMany_rel hf hp.2 hq.2 r2 (fun b hb => hn b (by have := hs b; omega)), hs⟩
theorem no_agg (v : AV) : (∃ cs, v = .agg cs) ∨ (bless2 v = bless1 v ∧ plain2 v = plain1 v ∧ fresh2 v = fresh1 v) := by
  cases v <;> first | exact .inl ⟨_, rfl⟩ | exact .inr ⟨rfl, rfl, rfl⟩
theorem no_tup (v : AV) : (∃ cs, v = .tup cs) ∨ (bless3 v = bless2 v ∧ plain3 v = plain2 v ∧ fresh3 v = fresh2 v) := by
  cases v <;> first | exact .inl ⟨_, rfl⟩ | exact .inr ⟨rfl, rfl, rfl⟩
theorem bless2_rel {g2 : Gh} {v : AV} {x : Value} {Ov : Nat → Nat} (hp : plain2 v = true) (hf : fresh2 v = true) (rv : RV g w v x Ov) (hn : ∀ b, Ov b ≠ 0 → ∀ o, ¬ g2.pm b o) : RV g2 w (bless2 v) x Ov := by
  rcases no_agg v with ⟨cs, rfl⟩ | ⟨e1, e2, e3⟩
  · simp only [RV, bless2] at rv ⊢
    obtain ⟨xs, e, rr⟩ := rv
    exact ⟨xs, e, blessMany_rel bless1_rel hp hf rr hn⟩
  · rw [e2] at hp; rw [e3] at hf; rw [e1]
    exact bless1_rel hp hf rv hn
theorem bless3_rel {g2 : Gh} {v : AV} {x : Value} {Ov : Nat → Nat} (hp : plain3 v = true) (hf : fresh3 v = true) (rv : RV g w v x Ov) (hn : ∀ b, Ov b ≠ 0 → ∀ o, ¬ g2.pm b o) : RV g2 w (bless3 v) x Ov := by
  rcases no_tup v with ⟨cs, rfl⟩ | ⟨e1, e2, e3⟩
  · simp only [RV, bless3] at rv ⊢
    obtain ⟨xs, e, rr⟩ := rv
    exact ⟨xs, e, blessMany_rel bless2_rel hp hf rr hn⟩
  · rw [e2] at hp; rw [e3] at hf; rw [e1]
    exact bless2_rel hp hf rv hn

/-- What is surely new of an answer. -/
theorem dull1_rel {g2 : Gh} {v : AV} {x : Value} {Ov : Nat → Nat} (hp : plain1 v = true) (rv : RV g w v x Ov) (hn : ∀ b, Ov b ≠ 0 → ∀ o, ¬ g2.pm b o) : ∃ Ov', RV g2 w (dull1 v) x Ov' ∧ ∀ b, Ov' b ≤ Ov b := by
  unfold dull1
  split
  · rename_i hf
    exact ⟨Ov, bless1_rel hp hf rv hn, fun _ => Nat.le_refl _⟩
  · split
    · rename_i n hl
      refine ⟨zero, ?_, fun _ => Nat.zero_le _⟩
      simp only [RV]
      refine ⟨?_, fun _ => trivial⟩
      have hp' := hp
      clear hn
      cases v with
      | d c =>
        cases c with
        | lst xs =>
          simp only [lenOf, Option.some.injEq] at hl
          subst hl
          simp only [RV] at rv
          have rd := rv.1
          clear rv
          cases rd
          · exact ⟨_, _, rfl⟩
          · exact ⟨_, _, rfl⟩
        | _ => simp [lenOf] at hl
      | nl =>
        simp only [lenOf, Option.some.injEq] at hl
        subst hl
        simp only [RV] at rv
        exact ⟨none, 0, rv.1⟩
      | own p m xs =>
        simp only [lenOf, Option.some.injEq] at hl
        subst hl
        simp only [RV, Own] at rv
        rcases rv with ⟨rfl, _, a, rfl⟩ | ⟨_, _, _, _, _, rfl, _⟩
        · exact ⟨_, _, rfl⟩
        · exact ⟨_, _, rfl⟩
      | _ => simp [plain1] at hp'
    · exact ⟨zero, by simp [RV, zero], fun _ => Nat.zero_le _⟩
theorem dullMany_rel {g2 : Gh} {f : AV → AV} {p : AV → Bool} (hf : ∀ {v : AV} {x : Value} {Ov : Nat → Nat}, p v = true → RV g w v x Ov → (∀ b, Ov b ≠ 0 → ∀ o, ¬ g2.pm b o) → ∃ Ov', RV g2 w (f v) x Ov' ∧ ∀ b, Ov' b ≤ Ov b) :
    ∀ {vs : List AV} {xs : List Value} {Ov : Nat → Nat}, vs.all p = true → RVs g w vs xs Ov → (∀ b, Ov b ≠ 0 → ∀ o, ¬ g2.pm b o) → ∃ Ov', RVs g2 w (vs.map f) xs Ov' ∧ ∀ b, Ov' b ≤ Ov b
  | [], xs, Ov, _, rv, _ => ⟨Ov, by simpa only [RVs, List.map_nil] using rv, fun _ => Nat.le_refl _⟩
  | v :: vs, xs, Ov, hp, rv, hn => by
    simp only [List.all_cons, Bool.and_eq_true] at hp
    simp only [RVs, List.map_cons] at rv ⊢
    obtain ⟨x, ys, O1, O2, rfl, r1, r2, hs⟩ := rv
    obtain ⟨Q1, q1, l1⟩ := hf hp.1 r1 (fun b hb => hn b (by have := hs b; omega))
    obtain ⟨Q2, q2, l2⟩ := dullMany_rel hf hp.2 r2 (fun b hb => hn b (by have := hs b; omega))
    exact ⟨fun b => Q1 b + Q2 b, ⟨x, ys, Q1, Q2, rfl, q1, q2, fun _ => rfl⟩, fun b => by have := l1 b; have := l2 b; have := hs b; show Q1 b + Q2 b ≤ Ov b; omega⟩
theorem dull2_rel {g2 : Gh} {v : AV} {x : Value} {Ov : Nat → Nat} (hp : plain2 v = true) (rv : RV g w v x Ov) (hn : ∀ b, Ov b ≠ 0 → ∀ o, ¬ g2.pm b o) : ∃ Ov', RV g2 w (dull2 v) x Ov' ∧ ∀ b, Ov' b ≤ Ov b := by
  have other : dull2 v = dull1 v → plain2 v = plain1 v → ∃ Ov', RV g2 w (dull2 v) x Ov' ∧ ∀ b, Ov' b ≤ Ov b := fun e1 e2 => by
    rw [e1]; rw [e2] at hp
    exact dull1_rel hp rv hn
  cases v with
  | agg cs =>
    simp only [RV, dull2] at rv ⊢
    obtain ⟨xs, e, rr⟩ := rv
    obtain ⟨Ov', q, l⟩ := dullMany_rel dull1_rel hp rr hn
    exact ⟨Ov', ⟨xs, e, q⟩, l⟩
  | _ => exact other rfl rfl
theorem dull3_rel {g2 : Gh} {v : AV} {x : Value} {Ov : Nat → Nat} (hp : plain3 v = true) (rv : RV g w v x Ov) (hn : ∀ b, Ov b ≠ 0 → ∀ o, ¬ g2.pm b o) : ∃ Ov', RV g2 w (dull3 v) x Ov' ∧ ∀ b, Ov' b ≤ Ov b := by
  have other : dull3 v = dull2 v → plain3 v = plain2 v → ∃ Ov', RV g2 w (dull3 v) x Ov' ∧ ∀ b, Ov' b ≤ Ov b := fun e1 e2 => by
    rw [e1]; rw [e2] at hp
    exact dull2_rel hp rv hn
  cases v with
  | tup cs =>
    simp only [RV, dull3] at rv ⊢
    obtain ⟨xs, e, rr⟩ := rv
    obtain ⟨Ov', q, l⟩ := dullMany_rel dull2_rel hp rr hn
    exact ⟨Ov', ⟨xs, e, q⟩, l⟩
  | _ => exact other rfl rfl

/-- An answer depends on what stays alone. -/
theorem plain1_rel {g2 : Gh} (hpm : g2.pm = g.pm) {v : AV} {x : Value} {Ov : Nat → Nat} (hp : plain1 v = true) (rv : RV g w v x Ov) : RV g2 w v x Ov := by
  cases v <;> simp only [plain1, Bool.false_eq_true] at hp
  · simp only [RV] at rv ⊢; rw [hpm]; exact rv
  · simpa only [RV] using rv
  · simp only [RV, Own] at rv ⊢; rw [hpm]; exact rv
theorem plainMany_rel {g2 : Gh} {p : AV → Bool} (hf : ∀ {v : AV} {x : Value} {Ov : Nat → Nat}, p v = true → RV g w v x Ov → RV g2 w v x Ov) :
    ∀ {vs : List AV} {xs : List Value} {Ov : Nat → Nat}, vs.all p = true → RVs g w vs xs Ov → RVs g2 w vs xs Ov
  | [], xs, Ov, _, rv => by simpa only [RVs] using rv
  | v :: vs, xs, Ov, hp, rv => by
    simp only [List.all_cons, Bool.and_eq_true] at hp
    simp only [RVs] at rv ⊢
    obtain ⟨x, ys, O1, O2, rfl, r1, r2, hs⟩ := rv
    exact ⟨x, ys, O1, O2, rfl, hf hp.1 r1, plainMany_rel hf hp.2 r2, hs⟩
theorem plain2_rel {g2 : Gh} (hpm : g2.pm = g.pm) {v : AV} {x : Value} {Ov : Nat → Nat} (hp : plain2 v = true) (rv : RV g w v x Ov) : RV g2 w v x Ov := by
  rcases no_agg v with ⟨cs, rfl⟩ | ⟨e1, e2, e3⟩
  · simp only [RV] at rv ⊢
    obtain ⟨xs, e, rr⟩ := rv
    exact ⟨xs, e, plainMany_rel (plain1_rel hpm) hp rr⟩
  · rw [e2] at hp
    exact plain1_rel hpm hp rv
theorem plain3_rel {g2 : Gh} (hpm : g2.pm = g.pm) {v : AV} {x : Value} {Ov : Nat → Nat} (hp : plain3 v = true) (rv : RV g w v x Ov) : RV g2 w v x Ov := by
  rcases no_tup v with ⟨cs, rfl⟩ | ⟨e1, e2, e3⟩
  · simp only [RV] at rv ⊢
    obtain ⟨xs, e, rr⟩ := rv
    exact ⟨xs, e, plainMany_rel (plain2_rel hpm) hp rr⟩
  · rw [e2] at hp
    exact plain2_rel hpm hp rv
end
end Go.Vm

/-
  REGIONS (5): calls on plain data, the operation.
-/
namespace Go.Vm
section
variable {P : Program} {g : Gh} {w : World} {t : Array Value} {O : Nat → Nat} {st st' : St} {a : AV} {o : Oper} {r : Rec}

/-- Memory grows; nothing else turns. -/
theorem S.extF (s : S P g w st t O) {g2 : Gh} {w' : World} (h : Ext g w g2 w' fun _ => False) (ho : g2.obj = g.obj) (hp : ∀ b o, g2.pm b o → b < w'.heap.size) : S P g2 w' st t O := by
  obtain ⟨Oe, Oh, re, rh, hs⟩ := s.parts
  exact ⟨s.se, s.sh, ⟨Oe, Oh, REnv.ext h re (by simp), rh.imp' fun k v O1 _ _ q => q.ext0 h (by simp), hs⟩, s.le,
    fun b hb => Nat.lt_of_lt_of_le (s.hi b hb) h.size, fun id hid => by rw [ho]; exact s.fresh id hid, hp⟩

theorem fresh3_bless (u : AV) : fresh3 (bless3 u) = fresh3 u := by
  have h1 : ∀ v : AV, fresh1 (bless1 v) = fresh1 v := fun v => by cases v <;> rfl
  have h2 : ∀ v : AV, fresh2 (bless2 v) = fresh2 v := fun v => by
    cases v <;> try rfl
    rename_i cs
    simp [bless2, fresh2, List.all_map, Function.comp_def, h1]
  cases u <;> try rfl
  · rename_i cs
    exact h2 (.agg cs)
  · rename_i vs
    simp [bless3, fresh3, List.all_map, Function.comp_def, h2]

theorem pure_after {e : Env} {hs hs0 : HS} {O' : Nat → Nat} {vs : List AV} {v0 v : AV} {x : Value} {w' : World} (s' : S P g w ⟨e, hs⟩ t O') (hle : ∀ b, O' b ≤ O b)
    (hp : CallPost P (g.view w fun b => vs.any fluid = true ∧ O' b ≠ 0) w zero v0 hs0 (.returned x) w')
    (hres : (match resTop hs0.heap v0 with | none => none | some v => match vs.any fluid with | false => some v | true => match fresh3 v with | true => some v | false => some (dull3 v)) = some v) :
    ∃ g' Oa O1, After P g w t O ⟨e, hs⟩ v x w' g' Oa O1 := by
  obtain ⟨g1, Or, Oh, h1, h2, h3, h4, h5, h6⟩ := hp
  have hz : ∀ b, b < w.heap.size → Or b + Oh b = 0 := fun b hb => by have h5b : Or b + Oh b ≤ 0 := h5 b hb; omega
  split at hres
  · simp at hres
  · rename_i v1 hv1
    obtain ⟨u, Ov', rfl, ru, lu, pu⟩ := resTop_rel h2 hv1 h1
    have hcell : ∀ b o, g.pm b o → w'.cell? ⟨b, o, none⟩ = w.cell? ⟨b, o, none⟩ := fun b o h => (h3.pm b o (.inl h)).2
    have hblk : ∀ b, b < w.heap.size → w'.heap[b]? = w.heap[b]? := fun b hb => (h3.blk b hb (by simp)).1
    have fin : ∀ (g2 : Gh) (Ow : Nat → Nat), (∀ b, Ow b ≤ Ov' b) → Ext g w g2 w' (fun _ => False) → g2.obj = g.obj → (∀ b o, g2.pm b o → b < w'.heap.size) → RV g2 w' v x Ow → ∃ g' Oa O1, After P g w t O ⟨e, hs⟩ v x w' g' Oa O1 := by
      intro g2 Ow hle2 hx ho hpl hv
      have lu : ∀ b, Ow b ≤ Or b + Oh b := fun b => Nat.le_trans (hle2 b) (lu b)
      refine ⟨g2, Ow, O', hv, s'.extF hx ho hpl, hx.mono fun _ _ h => h.elim, fun b => ?_, fun b hb => ?_, fun b hb => ?_⟩
      · by_cases hb : b < w.heap.size
        · have := hz b hb; have := lu b; have := s'.le b; omega
        · have := s'.out (b := b) (by omega); have := lu b; have := h4 b; omega
      · have := hz b hb; have := lu b; have := hle b; omega
      · by_cases h0 : Or b = 0
        · exact h2.hi b (by have := lu b; omega)
        · exact h6 b h0
    by_cases hf : fresh3 u = true
    · have hb : blessed u = bless3 u := by simp [blessed, hf]
      rw [hb] at hres
      have hv : v = bless3 u := by
        rw [fresh3_bless, hf] at hres
        split at hres <;> simpa using hres.symm
      refine fin g Ov' (fun _ => Nat.le_refl _) ⟨fun _ _ h => ⟨h, rfl, rfl, rfl⟩, fun b o h => ⟨h, hcell b o h⟩, fun b hb _ => ⟨hblk b hb, fun _ h => h⟩, h3.size, h3.lp, h3.same⟩ rfl (fun b o h => Nat.lt_of_lt_of_le (s'.pmlt b o h) h3.size) ?_
      rw [hv]
      refine bless3_rel pu hf ru fun b hb o hpm => ?_
      have := s'.pmlt b o hpm
      have := hz b this; have := lu b; omega
    · have hb : blessed u = u := by simp [blessed, hf]
      rw [hb] at hres
      cases hnf : vs.any fluid with
      | false =>
        have hv : v = u := by rw [hnf] at hres; simpa using hres.symm
        have hold : ∀ b o, (g.view w fun b => vs.any fluid = true ∧ O' b ≠ 0).pm b o → g.pm b o := fun b o h => h.elim id fun h => by rw [hnf] at h; simp at h
        refine fin { g with pm := g1.pm } Ov' (fun _ => Nat.le_refl _) ⟨fun _ _ h => ⟨h, rfl, rfl, rfl⟩, fun b o h => ⟨(h3.pm b o (.inl h)).1, hcell b o h⟩, fun b hb _ => ⟨hblk b hb, fun o h => hold b o ((h3.blk b hb (by simp)).2 o h)⟩, h3.size, h3.lp, h3.same⟩ rfl
          (fun b o h => h2.pmlt b o h) ?_
        rw [hv]
        exact plain3_rel (g := g1) (g2 := { g with pm := g1.pm }) rfl pu ru
      | true =>
        have hf' : fresh3 u = false := by cases h : fresh3 u <;> simp_all
        have hv : v = dull3 u := by
          rw [hnf, hf'] at hres
          simpa using hres.symm
        obtain ⟨Ow, qv, lw⟩ := dull3_rel (g2 := g) pu ru fun b hb o hpm => by
          have := s'.pmlt b o hpm
          have := hz b this; have := lu b; omega
        refine fin g Ow lw ⟨fun _ _ h => ⟨h, rfl, rfl, rfl⟩, fun b o h => ⟨h, hcell b o h⟩, fun b hb _ => ⟨hblk b hb, fun _ h => h⟩, h3.size, h3.lp, h3.same⟩ rfl (fun b o h => Nat.lt_of_lt_of_le (s'.pmlt b o h) h3.size) ?_
        rw [hv]
        exact qv

theorem op_call {ro : Option Nat} {f : FuncId} {args : List Rd} (hr : CallSim P r) (s : S P g w st t O) (h : opCall r f args st = some (a, st')) (hc : chkOp P (.call f args) o.op = true) :
    OpW ro P g w t O st' a o := by
  obtain ⟨dst, op, ty, pos, aft, gd⟩ := o
  simp only [chkOp] at hc
  split at hc
  · rename_i c
    simp only [Bool.and_eq_true] at hc
    obtain ⟨h1, h2⟩ := hc
    obtain ⟨callee, as, ats⟩ := c
    have := calleeFn_eq h1
    simp only at this h2
    subst this
    unfold opCall at h
    split at h
    · rename_i vs e hrd
      split at h
      · rename_i v hcall
        simp only [Option.some.injEq, Prod.mk.injEq] at h
        obtain ⟨rfl, rfl⟩ := h
        obtain ⟨Ov, O', rvs, s', l⟩ := s.rdAll h2 hrd
        unfold callPure at hcall
        split at hcall
        · simp at hcall
        · rename_i ds hds
          split at hcall
          · simp at hcall
          · rename_i v0 hs0 hc0
            obtain ⟨hfn, hk⟩ := hr hc0
            have rvc := viewArgs_rel (st := ⟨e, st.hs⟩) (K := fun b => vs.any fluid = true ∧ O' b ≠ 0) s' hds (fun h b hb => ⟨h, hb⟩) rvs
            have hk := hk rvc (view_S s' _) (fun b => by simp) (fun b hb => by simp at hb)
            intro ds' next Q hn
            have hrun : (execOp (ev t) ⟨dst, .call ⟨.value (.func f), as, ats⟩, ty, pos, aft, gd⟩).run P w = .ok (.enter f (as.toList.map (ev t)).toArray) w := by
              simp only [execOp, resolve, Sem.run_bind, ev, Deferred.ofValue, Sem.run_pure, Result.andThen_ok, invoke]
              rw [run_callFunc hfn]
              congr 2
              apply Array.ext'
              simp
            rw [hrun, Oper.uponIn_enter]
            refine ⟨fun h => by simp [Fence.wide] at h, callsIn_FR (hk.mono fun en w' hp => ?_)⟩
            cases en with
            | returned x =>
              obtain ⟨g', Oa, O1, k⟩ := pure_after (O := O) (vs := vs) s' (fun b => by have := l b; omega) hp hcall
              exact hn x w' g' Oa O1 k
            | panicked c => exact hp.elim
            | outgrown => exact hp.elim
      · simp at h
    · simp at h
  · simp at hc
end
end Go.Vm

/-
  REGIONS (6): what a piece of code has done; loop records.
-/
namespace Go.Vm

def exitOf : Out → Exit
  | .normal => .normal
  | .exit i => .exit i
  | .goto l => .goto l
  | .ret => .ret
/-- The marks of ranges over functions among the deferred calls. -/
def Marks (w : World) (O : Nat → Nat) (lo : Nat) : List Deferred → Prop
  | [] => True
  | d :: ds => (∃ r, d.target = .collected r ∧ lo ≤ r ∧ w.heap[r]? = some (.deferred (some [])) ∧ O r = 0 ∧ ∀ d' ∈ ds, ∀ r', d'.target = .collected r' → r' < r) ∧ Marks w O lo ds
/-- A round's record is a record. -/
def RoOK (w : World) (ro : Option Nat) : Prop := ∀ l, ro = some l → ∃ rc : Go.Loop, w.heap[l]? = some (.loop rc)

def CodePost (P : Program) (g : Gh) (w : World) (t : Array Value) (O : Nat → Nat) (ds : List Deferred) (ro : Option Nat) (o : Out) (st' : St) (e : Exit) (a' : Act) (w' : World) : Prop :=
  e = exitOf o ∧ ∃ g' O' ms, Goes P g w t O st' a'.tmps w' g' O' ∧ a'.defers = ms ++ ds ∧ Marks w' O' w.heap.size ms ∧ (ro.isSome = true → ms = [])

section
variable {P : Program} {g : Gh} {w : World} {t : Array Value} {O : Nat → Nat} {st st' : St} {a : AV} {o : Oper} {r : Rec}

theorem RoOK.ext {ro : Option Nat} (h : RoOK w ro) {g g' : Gh} {w' : World} {T : Nat → Prop} (hx : Ext g w g' w' T) : RoOK w' ro := fun l hl => let ⟨rc, hrc⟩ := h l hl; hx.lp l rc hrc

theorem Marks.after {lo : Nat} {g1 g2 : Gh} {w1 w2 : World} {O1 O2 : Nat → Nat} (hx : Ext g1 w1 g2 w2 fun b => O1 b ≠ 0) (ho : ∀ b, b < w1.heap.size → O2 b ≤ O1 b) :
    ∀ {ms : List Deferred}, Marks w1 O1 lo ms → Marks w2 O2 lo ms
  | [], _ => trivial
  | d :: ds, ⟨⟨r, h1, h2, h3, h4, h5⟩, h6⟩ => by
    have hr := block_lt h3
    exact ⟨⟨r, h1, h2, by rw [(hx.blk r hr (by omega)).1]; exact h3, by have := ho r hr; omega, h5⟩, Marks.after hx ho h6⟩
theorem Marks.lt {lo : Nat} : ∀ {ms : List Deferred}, Marks w O lo ms → ∀ d ∈ ms, ∀ r, d.target = .collected r → r < w.heap.size
  | [], _, d, hd, _, _ => by simp at hd
  | m :: ms, ⟨⟨r, h1, h2, h3, h4, h5⟩, h6⟩, d, hd, r', hr => by
    rcases List.mem_cons.1 hd with rfl | hd
    · rw [h1] at hr; simp only [Target.collected.injEq] at hr; subst hr; exact block_lt h3
    · exact Marks.lt h6 d hd r' hr
theorem Marks.append {lo1 lo2 : Nat} (hlo : lo1 ≤ lo2) {ms1 : List Deferred} (h1 : Marks w O lo1 ms1) (hlt : ∀ d ∈ ms1, ∀ r, d.target = .collected r → r < lo2) :
    ∀ {ms2 : List Deferred}, Marks w O lo2 ms2 → Marks w O lo1 (ms2 ++ ms1)
  | [], _ => h1
  | d :: ds, ⟨⟨r, k1, k2, k3, k4, k5⟩, k6⟩ => by
    refine ⟨⟨r, k1, Nat.le_trans hlo k2, k3, k4, fun d' hd' r' hr' => ?_⟩, Marks.append hlo h1 hlt k6⟩
    rcases List.mem_append.1 hd' with h | h
    · exact k5 d' h r' hr'
    · exact Nat.lt_of_lt_of_le (hlt d' h r' hr') k2

theorem CodePost.comp {ds ms1 : List Deferred} {ro : Option Nat} {st1 st2 : St} {t1 : Array Value} {w1 : World} {g1 : Gh} {O1 : Nat → Nat} (G : Goes P g w t O st1 t1 w1 g1 O1) (hm : Marks w1 O1 w.heap.size ms1)
    (hro : ro.isSome = true → ms1 = []) {out : Out} {e : Exit} {a2 : Act} {w2 : World} (h : CodePost P g1 w1 t1 O1 (ms1 ++ ds) ro out st2 e a2 w2) : CodePost P g w t O ds ro out st2 e a2 w2 := by
  obtain ⟨he, g2, O2, ms2, G2, hd, hm2, hr2⟩ := h
  refine ⟨he, g2, O2, ms2 ++ ms1, G.trans G2, by rw [hd, List.append_assoc], ?_, fun h => by rw [hro h, hr2 h]; rfl⟩
  exact Marks.append G.ext.size (hm.after G2.ext G2.old) (fun d hd r hr => hm.lt d hd r hr) hm2

/-- What the walk asks of the interpreter's parts. -/
def CodeSim (P : Program) (r : Rec) : Prop :=
  ∀ {v : VC} {st : St} {o : Out} {st' : St}, r.code v st = some (o, st') → ∀ {c : Code} {n : Nat}, Mt P n v c → ∀ {g : Gh} {w : World} {t : Array Value} {O : Nat → Nat}, t.size = n → S P g w st t O →
    ∀ (ro : Option Nat) (ds : List Deferred), RoOK w ro → c.wpIn (FR ro) 0 P (CodePost P g w t O ds ro o st') ⟨t, ds⟩ w

/-! ### Records of loops -/
theorem Ext.loopBlk {b : Nat} {rc rc' : Go.Loop} (hb : w.heap[b]? = some (.loop rc)) : Ext g w g (Vm.setBlk w b (.loop rc')) fun x => x = b where
  obj _ _ h := ⟨h, rfl, rfl, rfl⟩
  pm b' o h := ⟨h, by
    by_cases e : b' = b
    · subst e
      simp only [World.cell?, hb, setBlk_same (block_lt hb)]
    · exact cell?_of_block (setBlk_ne e) o⟩
  blk b' _ h := ⟨setBlk_ne h, fun _ h => h⟩
  size := by simp
  lp b' r h := by
    by_cases e : b' = b
    · subst e; exact ⟨rc', setBlk_same (block_lt hb)⟩
    · exact ⟨r, by rw [setBlk_ne e]; exact h⟩
  same := ⟨rfl, rfl, frozen_setBlk hb (by intro off; simp [objFrozen]) (by intro off; simp [objFrozen])⟩
theorem S.storeG {st : St} (s : S P g w st t O) {id : Nat} {ob : Obj} (hg : get st.hs.heap id = some ob) :
    ∃ O1 Oz : Nat → Nat, RObj P g w id ob O1 ∧ (∀ b, O1 b + Oz b ≤ O b) ∧ ∀ (w' : World) (b : Nat) (ob' : Obj) (O1' : Nat → Nat),
      1 ≤ O1 b → Ext g w g w' (fun x => x = b) → RObj P g w' id ob' O1' → (∀ x, O1' x + Oz x ≤ 1) → (∀ x, O1' x ≠ 0 → x < w'.heap.size) →
      S P g w' ⟨st.env, ⟨put st.hs.heap id ob', st.hs.next⟩⟩ t (fun x => O1' x + Oz x) := by
  obtain ⟨Oe, Oh, re, rh, ho⟩ := s.parts
  obtain ⟨O1, O2, q, r2, hs⟩ := RL.take rh hg
  refine ⟨O1, fun b => Oe b + O2 b, q, fun b => by have := hs b; have := ho b; show O1 b + (Oe b + O2 b) ≤ O b; omega, fun w' b ob' O1' h1 hx q' hle hhi => ?_⟩
  have hone : O b ≤ 1 := s.le b
  have hfree : Oe b = 0 ∧ O2 b = 0 := by have := hs b; have := ho b; omega
  have re' := REnv.ext hx re (fun y hy e => by rw [e] at hy; exact hy hfree.1)
  have r2' : RHeap P g w' (del st.hs.heap id) O2 := r2.imp' fun k v Q _ hQ q => q.ext0 hx (fun y hy e => by rw [e] at hy; have := hQ b; exact hy (by omega))
  obtain ⟨O3, r3, h3⟩ := RL.put s.sh r2' q'
  refine ⟨s.se, s.sh.put _ _, ⟨Oe, O3, re', r3, fun x => by have := h3 x; show O1' x + (Oe x + O2 x) = Oe x + O3 x; omega⟩, hle, fun x hx0 => ?_, s.fresh,
    fun b o hp => Nat.lt_of_lt_of_le (s.pmlt b o hp) hx.size⟩
  by_cases h : O1' x = 0
  · refine Nat.lt_of_lt_of_le (s.hi x ?_) hx.size
    have := hs x; have := ho x
    change O1' x + (Oe x + O2 x) ≠ 0 at hx0
    omega
  · exact hhi x h
/-- A loop's record is given another state. -/
theorem S.setLoop {st : St} (s : S P g w st t O) {id : Nat} {snap : Env} {ps : List Nat} {as bd : VC} {busy : Bool} {pend : Option Out} (hg : get st.hs.heap id = some (.loop snap ps as bd busy pend)) :
    ∃ b rc, g.obj id = some b ∧ w.heap[b]? = some (.loop rc) ∧ rc.state = (if busy then .busy else if pend.isNone then .ready else .done) ∧ rc.pending = pend.bind outCode ∧ rc.params = ps.toArray ∧
      Mt P rc.tmps.size as rc.assign ∧ Mt P rc.tmps.size bd rc.body ∧ Srt snap ∧ REnv g w snap rc.tmps zero ∧ (∀ p ∈ ps, p < rc.tmps.size) ∧
      ∀ (busy' : Bool) (pend' : Option Out) (rc' : Go.Loop), rc' = { rc with state := (if busy' then .busy else if pend'.isNone then .ready else .done), pending := pend'.bind outCode } →
        ∃ O', Goes P g w t O ⟨st.env, ⟨put st.hs.heap id (.loop snap ps as bd busy' pend'), st.hs.next⟩⟩ t (Vm.setBlk w b (.loop rc')) g O' := by
  obtain ⟨O1, Oz, q, hsum, hst⟩ := s.storeG hg
  simp only [RObj] at q
  obtain ⟨b, rc, h1, h2, h3, h4, h5, h6, h7, h8, h9, h10, h11⟩ := q
  refine ⟨b, rc, h1, h2, h3, h4, h5, h6, h7, h8, h9, h10, fun busy' pend' rc' e => ?_⟩
  have hx : Ext g w g (Vm.setBlk w b (.loop rc')) fun x => x = b := Ext.loopBlk h2
  have hO1 : O1 b = 1 := by have := h11 b; simpa using this
  refine ⟨_, hst (Vm.setBlk w b (.loop rc')) b (.loop snap ps as bd busy' pend') O1 (by omega) hx ?_ (fun x => by have := hsum x; have := s.le x; omega) (fun x hx0 => ?_), hx.mono (fun x _ e => by rw [e]; have := hsum b; omega), fun x _ => hsum x, rfl⟩
  · simp only [RObj]
    subst e
    exact ⟨b, _, h1, setBlk_same (block_lt h2), rfl, rfl, h5, h6, h7, h8, REnv.ext hx h9 (by simp), h10, h11⟩
  · have := h11 x
    rw [this] at hx0
    rw [one_ne hx0, setBlk_size]
    exact block_lt h2
end
end Go.Vm

/-
  REGIONS (7): a round of a range over a function; calls of function values.
-/
namespace Go.Vm
section
variable {P : Program} {g : Gh} {w : World} {t : Array Value} {O : Nat → Nat} {st st' : St} {a : AV} {o : Oper} {r : Rec}

theorem putAll_rel : ∀ {ps : List Nat} {vs : List AV} {e e' : Env} {hs : HS} {t : Array Value} {O : Nat → Nat}, putAll e ps vs = some e' → S P g w ⟨e, hs⟩ t O → ∀ {xs : List Value} {Ov : Nat → Nat}, RVs g w vs xs Ov →
    (∀ p ∈ ps, p < t.size) → (∀ b, Ov b + O b ≤ 1) → (∀ b, Ov b ≠ 0 → b < w.heap.size) →
    ∃ O', S P g w ⟨e', hs⟩ ((ps.zip xs).foldl (fun (t : Array Value) (q : Nat × Value) => t.setIfInBounds q.1 q.2) t) O' ∧ (∀ b, O' b ≤ Ov b + O b) ∧ xs.length = ps.length ∧
      ((ps.zip xs).foldl (fun (t : Array Value) (q : Nat × Value) => t.setIfInBounds q.1 q.2) t).size = t.size
  | [], [], e, e', hs, t, O, h, s, xs, Ov, rv, hp, hle, hhi => by
    simp only [putAll, Option.some.injEq] at h; subst h
    simp only [RVs] at rv
    obtain ⟨rfl, _⟩ := rv
    exact ⟨O, by simpa using s, fun b => by omega, rfl, rfl⟩
  | p :: ps, v :: vs, e, e', hs, t, O, h, s, xs, Ov, rv, hp, hle, hhi => by
    simp only [putAll] at h
    simp only [RVs] at rv
    obtain ⟨x, ys, O1, O2, rfl, r1, r2, hs2⟩ := rv
    obtain ⟨O3, s3, l3⟩ := s.setTmp (hp p (.head _)) r1 (fun b => by have := hle b; have := hs2 b; omega) (fun b hb => hhi b (by have := hs2 b; omega))
    obtain ⟨O4, s4, l4, hl, hsz⟩ := putAll_rel h s3 r2 (fun q hq => by simpa using hp q (.tail _ hq)) (fun b => by have := hle b; have := hs2 b; have := l3 b; omega) (fun b hb => hhi b (by have := hs2 b; omega))
    exact ⟨O4, by simpa using s4, fun b => by have := l4 b; have := l3 b; have := hs2 b; omega, by simp [hl], by simpa using hsz⟩
  | [], _ :: _, _, _, _, _, _, h, _, _, _, _, _, _, _ => by simp [putAll] at h
  | _ :: _, [], _, _, _, _, _, h, _, _, _, _, _, _, _ => by simp [putAll] at h

theorem run_getLoop {b : Nat} {rc : Go.Loop} (h : w.heap[b]? = some (.loop rc)) : (Instr.getLoop b).run P w = .ok rc w := by
  simp [Instr.getLoop, getObj, Sem.run, Sem.run_bind, h]
theorem run_setLoop {b : Nat} {rc rc' : Go.Loop} (h : w.heap[b]? = some (.loop rc)) : (setObj b (.loop rc')).run P w = .ok () (setBlk w b (.loop rc')) := by
  simp [setObj, Sem.run, h, setBlk]

theorem round_sim (hc : CodeSim P r) {l : Nat} {args : List AV} {hs hs' : HS} {v : AV} (h : yieldOf r l args hs = some (v, hs')) {xs : List Value} {Oa Oh : Nat → Nat} (rvs : RVs g w args xs Oa)
    (sh : S P g w ⟨[], hs⟩ #[] Oh) (hle : ∀ b, Oa b + Oh b ≤ 1) (hhi : ∀ b, Oa b ≠ 0 → b < w.heap.size) (ro : Option Nat) :
    ∃ b, ∃ rc : Go.Loop, ∃ tm, g.obj l = some b ∧ (Instr.yield b xs.toArray).run P w = .ok (.round b rc.fn tm rc.assign rc.body) w ∧
      RoundIn (FR ro) 0 P b rc.fn tm rc.assign rc.body w (CallPost P g w (fun b => Oa b + Oh b) v hs') := by
  unfold yieldOf at h
  split at h
  · rename_i snap ps as bd hg
    split at h
    · simp at h
    · rename_i e hput
      split at h
      · rename_i st1 hass
        split at h
        · rename_i snap1 ps1 as1 bd1 hg1
          split at h
          · simp at h
          · rename_i o st2 hbd
            split at h
            · rename_i snap2 ps2 as2 bd2 hg2
              obtain ⟨b, rc, h1, h2, h3, h4, h5, h6, h7, h8, h9, h10, _⟩ := sh.setLoop (st := ⟨[], hs⟩) hg
              have s0 : S P g w ⟨snap, hs⟩ rc.tmps fun b => zero b + Oh b := S.join h8 h9 sh (fun b => by have := hle b; simp; omega) (fun b hb => by simp at hb)
              obtain ⟨O1, s1, l1, hlen, hsz⟩ := putAll_rel hput s0 rvs h10 (fun b => by have := hle b; show Oa b + (0 + Oh b) ≤ 1; omega) hhi
              have l1 : ∀ b, O1 b ≤ Oa b + Oh b := fun b => by have h : O1 b ≤ Oa b + (0 + Oh b) := l1 b; omega
              refine ⟨b, rc, _, h1, ?_, roundIn_of_wpIn (F := FR ro) (tmps := (ps.zip xs).foldl (fun (t : Array Value) (q : Nat × Value) => t.setIfInBounds q.1 q.2) rc.tmps) trivial ?_⟩
              · have hsize : ¬ (xs.toArray.size ≠ rc.params.size) := by rw [h5]; simp [hlen]
                simp only [Instr.yield, Sem.run_bind, run_getLoop h2, Result.andThen_ok, hsize, if_false, Sem.run_pure, Sem.run_ite]
                rw [h5]
                simp
              · generalize (ps.zip xs).foldl (fun (t : Array Value) (q : Nat × Value) => t.setIfInBounds q.1 q.2) rc.tmps = tm at *
                refine wpIn_mono (hc hass h6 hsz s1 (some b) [] (fun l hl => by simp only [Option.some.injEq] at hl; subst hl; exact ⟨rc, h2⟩)) fun en a1 w1 hp => ?_
                obtain ⟨rfl, g1, O1', ms, G1, hd1, _, hms⟩ := hp
                have hms := hms rfl
                subst hms
                obtain ⟨t1, d1⟩ := a1
                simp only [List.nil_append] at hd1 G1
                subst hd1
                obtain ⟨b1, rc1, k1, k2, k3, k4, k5, k6, k7, k8, k9, k10, kset⟩ := G1.st.setLoop hg1
                have hb1 : b1 = b := by have := (G1.ext.obj l b h1).1; rw [k1] at this; simpa using this
                subst hb1
                simp only [Bool.false_eq_true, if_false, Option.isNone_none, if_true] at k3
                simp only [Option.bind_none] at k4
                obtain ⟨O2, G2⟩ := kset true none { rc1 with state := .busy } (by simp [k4])
                refine ⟨setBlk w1 b1 (.loop { rc1 with state := .busy }), ?_, ?_⟩
                · simp only [Instr.beginRound, Sem.run_bind, run_getLoop k2, Result.andThen_ok, run_setLoop k2, k3, Sem.run_pure]
                · have hsz1 : t1.size = rc.tmps.size := by rw [G1.size, hsz]
                  refine wpIn_mono (hc hbd h7 hsz1 G2.st (some b1) [] (fun l hl => by simp only [Option.some.injEq] at hl; subst hl; exact ⟨_, setBlk_same (block_lt k2)⟩)) fun en2 a2 w3 hp2 => ?_
                  obtain ⟨rfl, g2, O3, ms2, G3, _, _, _⟩ := hp2
                  obtain ⟨b2, rc2, m1, m2, m3, m4, m5, m6, m7, m8, m9, m10, mset⟩ := G3.st.setLoop hg2
                  have hb2 : b2 = b1 := by have := (G3.ext.obj l b1 k1).1; rw [m1] at this; simpa using this
                  subst hb2
                  have fin : ∀ (pend : Option Out), (v, hs') = (.bool pend.isNone, ⟨put st2.hs.heap l (.loop snap2 ps2 as2 bd2 false pend), st2.hs.next⟩) → pend.bind outCode = outCode o → (pend.bind outCode).isNone = pend.isNone →
                      ∃ (vv : Value) (w' : World), (Instr.endRound b2 (outCode o)).run P w3 = .ok vv w' ∧ CallPost P g w (fun b => Oa b + Oh b) v hs' (.returned vv) w' := by
                    intro pend hv hpo hpn
                    simp only [Prod.mk.injEq] at hv
                    obtain ⟨rfl, rfl⟩ := hv
                    obtain ⟨O4, G4⟩ := mset false pend { rc2 with state := (if (outCode o).isNone then .ready else .done), pending := outCode o } (by rw [← hpo, hpn]; simp)
                    refine ⟨.bool (outCode o).isNone, setBlk w3 b2 (.loop { rc2 with state := (if (outCode o).isNone then .ready else .done), pending := outCode o }), ?_, ?_⟩
                    · simp only [Instr.endRound, Sem.run_bind, run_getLoop m2, Result.andThen_ok, run_setLoop m2, Sem.run_pure]
                    · have G := ((G1.trans G2).trans G3).trans G4
                      obtain ⟨Oe4, Oh4, re4, sh4, ho4⟩ := G.st.split
                      refine ⟨g2, zero, Oh4, ?_, sh4, G.ext.mono (fun b _ hb => by have := l1 b; show Oa b + Oh b ≠ 0; omega), fun b => by have := ho4 b; have := G.st.le b; simp; omega, fun b hb => ?_, fun b hb => by simp at hb⟩
                      · rw [← hpo, hpn]; exact rv_bool _
                      · have := ho4 b; have := G.old b hb; have := l1 b
                        show 0 + Oh4 b ≤ Oa b + Oh b
                        omega
                  cases o with
                  | normal =>
                    simp only [Option.some.injEq] at h
                    exact fin none h.symm rfl rfl
                  | exit i =>
                    simp only [Option.some.injEq] at h
                    exact fin (some (.exit i)) h.symm rfl rfl
                  | goto i =>
                    simp only [Option.some.injEq] at h
                    exact fin (some (.goto i)) h.symm rfl rfl
                  | ret =>
                    simp only [Option.some.injEq] at h
                    exact fin (some .ret) h.symm rfl rfl
            · simp at h
        · simp at h
      · simp at h
  · simp at h
end
end Go.Vm

/-
  REGIONS (8): calls of function values; ranges over functions.
-/
namespace Go.Vm
section
variable {P : Program} {g : Gh} {w : World} {t : Array Value} {O : Nat → Nat} {st st' : St} {a : AV} {o : Oper} {r : Rec}

theorem op_callv {ro : Option Nat} {f : Rd} {args : List Rd} (hr : CallSim P r) (hcs : CodeSim P r) (s : S P g w st t O) (h : opCallv r f args st = some (a, st')) (hc : chkOp P (.callv f args) o.op = true) :
    OpW ro P g w t O st' a o := by
  obtain ⟨dst, op, ty, pos, aft, gd⟩ := o
  simp only [chkOp] at hc
  split at hc
  · rename_i c
    simp only [Bool.and_eq_true] at hc
    obtain ⟨h1, h2⟩ := hc
    obtain ⟨callee, as, ats⟩ := c
    simp only at h1 h2
    split at h1
    · rename_i fx
      unfold opCallv at h
      split at h
      · rename_i fv e1 hf
        split at h
        · rename_i vs e hrd
          split at h
          · rename_i v hs' hcall
            simp only [Option.some.injEq, Prod.mk.injEq] at h
            obtain ⟨rfl, rfl⟩ := h
            obtain ⟨Of, O1, rf, s1, l1⟩ := s.rd h1 hf
            obtain ⟨Ov, O', rvs, s', l⟩ := s1.rdAll (st := ⟨e1, st.hs⟩) h2 hrd
            obtain ⟨Oe, Oh, re, sh, ho⟩ := s'.split
            have hle : ∀ b, Ov b + (Oe b + Oh b) ≤ O b := fun b => by have := ho b; have := l b; have := l1 b; omega
            have hle1 : ∀ b, Ov b + Oh b ≤ 1 := fun b => by have := hle b; have := s.le b; omega
            have hhi : ∀ b, Ov b ≠ 0 → b < w.heap.size := fun b hb => s.hi b (by have := hle b; omega)
            unfold callVal at hcall
            split at hcall
            · rename_i gf first caps
              obtain ⟨hfn, hk⟩ := hr hcall
              simp only [RV] at rf
              obtain ⟨⟨xs, ys, hev, r1, r2⟩, _⟩ := rf
              have hrv : RVs g w (first ++ (vs ++ caps)) (xs.toList ++ (as.toList.map (ev t) ++ ys.toList)) (fun b => zero b + (Ov b + zero b)) := r1.join (rvs.join r2)
              have hO : (fun b => zero b + (Ov b + zero b)) = Ov := by funext b; simp
              rw [hO] at hrv
              have hk := hk hrv sh hle1 hhi
              refine opW_of_call (hs := st.hs) s'.se re hle s ?_ hk
              simp only [execOp, resolve, Sem.run_bind, hev, Deferred.ofValue, Sem.run_pure, Result.andThen_ok, invoke]
              rw [run_callFunc hfn]
              congr 2
              apply Array.ext'
              simp
            · rename_i l'
              simp only [RV] at rf
              obtain ⟨⟨b0, hb0, hev⟩, _⟩ := rf
              obtain ⟨b, rc, tm, hb, hy, hround⟩ := round_sim hcs hcall rvs sh hle1 hhi ro
              rw [hb0] at hb
              simp only [Option.some.injEq] at hb
              subst hb
              intro ds next Q hn
              have hrun : (execOp (ev t) ⟨dst, .call ⟨.value fx, as, ats⟩, ty, pos, aft, gd⟩).run P w = .ok (.round b0 rc.fn tm rc.assign rc.body) w := by
                simp only [execOp, resolve, Sem.run_bind, hev, Deferred.ofValue, Sem.run_pure, Result.andThen_ok, invoke]
                rw [← hy]
                congr 2
                apply Array.ext'
                simp
              rw [hrun, Oper.uponIn_round]
              refine ⟨fun h => by simp [Fence.wide] at h, hround.mono fun en w' hp => ?_⟩
              cases en with
              | returned x =>
                obtain ⟨g', Oa, O', k⟩ := call_after (hs := st.hs) s'.se re hle s hp
                exact hn x w' g' Oa O' k
              | panicked c => exact hp.elim
              | outgrown => exact hp.elim
            · simp at hcall
          · simp at h
        · simp at h
      · simp at h
    · simp at h1
  · simp at hc

theorem snap_rel {t : Array Value} : ∀ {e : Env} {O : Nat → Nat}, REnv g w e t O → REnv g w (e.map fun kv => (kv.1, share kv.2)) t zero
  | [], _, _ => fun _ => rfl
  | (k, v) :: e, O, r => by
    obtain ⟨O1, O2, ⟨q1, q2⟩, rr, _⟩ := r
    exact ⟨zero, zero, ⟨q1, RV.share _ _ _ q2⟩, snap_rel rr, fun _ => rfl⟩
theorem snap_srt {e : Env} (h : Srt e) : Srt (e.map fun kv => (kv.1, share kv.2)) := by
  unfold Srt at h ⊢
  rw [List.pairwise_map]
  exact h

theorem run_newObj (o : Go.Obj) : (newObj o).run P w = .ok w.heap.size (w.alloc o) := by
  simp [newObj, Sem.run]
/-- Entering a range over a function. -/
theorem run_enterLoop {ro : Option Nat} (hro : RoOK w ro) (fn : FuncId) (ps : Array Nat) (as bd : Code) :
    ∃ (w1 : World) (mark : List Deferred) (rc : Go.Loop), (Instr.enterLoop fn t ps as bd ro).run P w = .ok (w1.heap.size, mark) (w1.alloc (.loop rc)) ∧
      rc.state = .ready ∧ rc.pending = none ∧ rc.params = ps ∧ rc.assign = as ∧ rc.body = bd ∧ rc.tmps = t ∧
      ((∃ l, ro = some l ∧ w1 = w ∧ mark = []) ∨ (ro = none ∧ w1 = w.alloc (.deferred (some [])) ∧ mark = [{ target := .collected w.heap.size, args := #[] }])) := by
  cases ro with
  | some l =>
    obtain ⟨rc0, h0⟩ := hro l rfl
    refine ⟨w, [], { state := .ready, pending := none, fn, tmps := t, params := ps, assign := as, body := bd, defers := rc0.defers }, ?_, rfl, rfl, rfl, rfl, rfl, rfl, .inl ⟨l, rfl, rfl, rfl⟩⟩
    simp [Instr.enterLoop, run_getLoop h0]
  | none =>
    refine ⟨w.alloc (.deferred (some [])), _, { state := .ready, pending := none, fn, tmps := t, params := ps, assign := as, body := bd, defers := w.heap.size }, ?_, rfl, rfl, rfl, rfl, rfl, rfl, .inr ⟨rfl, rfl, rfl⟩⟩
    simp [Instr.enterLoop]
end
end Go.Vm

/-
  REGIONS (9): the statement that ranges over a function.
-/
namespace Go.Vm
section
variable {P : Program} {g : Gh} {w : World} {t : Array Value} {O : Nat → Nat} {st st' : St} {a : AV} {o : Out} {r : Rec}

theorem S.otherG {w' : World} {b : Nat} (s : S P g w st t O) (hx : Ext g w g w' fun x => x = b) (hO : O b = 0) : S P g w' st t O := by
  obtain ⟨Oe, Oh, re, rh, ho⟩ := s.parts
  have re' := REnv.ext hx re (fun y hy e => by rw [e] at hy; have := ho b; omega)
  have rh' : RHeap P g w' st.hs.heap Oh := rh.imp' fun k v Q _ hQ q => q.ext0 hx (fun y hy e => by rw [e] at hy; have := hQ b; have := ho b; omega)
  exact ⟨s.se, s.sh, ⟨Oe, Oh, re', rh', ho⟩, s.le, fun b hb => Nat.lt_of_lt_of_le (s.hi b hb) hx.size, s.fresh, fun b o h => Nat.lt_of_lt_of_le (s.pmlt b o h) hx.size⟩

/-- The record of a loop that is over. -/
theorem S.endLoop {e : Env} {hs : HS} (s : S P g w ⟨e, hs⟩ t O) {id : Nat} {snap : Env} {ps : List Nat} {as bd : VC} {pend : Option Out} (hg : get hs.heap id = some (.loop snap ps as bd false pend)) {b : Nat} (hob : g.obj id = some b) :
    ∃ w' O', (Instr.endLoop b).run P w = .ok (pend.bind outCode) w' ∧ S P g w' ⟨e, ⟨del hs.heap id, hs.next⟩⟩ t O' ∧ Ext g w g w' (fun x => x = b) ∧ ∀ x, O' x ≤ O x := by
  obtain ⟨Oe, Oh, re, rh, ho⟩ := s.parts
  obtain ⟨O1, O2, q, r2, hs2⟩ := RL.take rh hg
  simp only [RObj] at q
  obtain ⟨b', rc, h1, h2, h3, h4, h5, h6, h7, h8, h9, h10, h11⟩ := q
  rw [hob] at h1
  simp only [Option.some.injEq] at h1
  subst h1
  have hle2 : ∀ x, Oe x + O2 x ≤ O x := fun x => by have := hs2 x; have := ho x; omega
  have s2 : S P g w ⟨e, ⟨del hs.heap id, hs.next⟩⟩ t (fun x => Oe x + O2 x) :=
    ⟨s.se, s.sh.del id, ⟨Oe, O2, re, r2, fun _ => rfl⟩, fun x => Nat.le_trans (hle2 x) (s.le x), fun x hx => s.hi x (by have := hle2 x; omega), s.fresh, s.pmlt⟩
  have hx : Ext g w g (setBlk w b (.loop { rc with state := .exhausted })) fun x => x = b := Ext.loopBlk h2
  refine ⟨setBlk w b (.loop { rc with state := .exhausted }), _, ?_, s2.otherG hx ?_, hx, hle2⟩
  · have hb : (rc.state == LoopState.busy) = false := by
      rw [h3]; cases pend <;> rfl
    simp only [Instr.endLoop, Sem.run_bind, run_getLoop h2, Result.andThen_ok, hb, Bool.false_eq_true, if_false, run_setLoop h2, Sem.run_pure, h4, Sem.run_ite]
  · have := h11 b; rw [one_same] at this
    have := hs2 b; have := ho b; have := s.le b
    show Oe b + O2 b = 0
    omega

theorem code_rangeF (hr : CallSim P r) {f : Rd} {x : Operand} {ps : List Nat} {as bd : VC} {c d : Code} (h : vcRangeF r f ps as bd st = some (o, st')) (hf : chkRd f x = true)
    (hps : ∀ p ∈ ps, p < t.size) (ha : Mt P t.size as c) (hb : Mt P t.size bd d) (s : S P g w st t O) (ro : Option Nat) (ds : List Deferred) (hro : RoOK w ro) :
    (Code.rangeFunc x ps.toArray c d).wpIn (FR ro) 0 P (CodePost P g w t O ds ro o st') ⟨t, ds⟩ w := by
  unfold vcRangeF at h
  split at h
  · rename_i gf first caps e hrd
    split at h
    · rename_i v hs hcall
      split at h
      · rename_i snap2 ps2 as2 bd2 pend hget
        obtain ⟨Of, O1, rf, s1, l1⟩ := s.rd hf hrd
        simp only [RV] at rf
        obtain ⟨⟨xs, ys, hev, r1, r2⟩, _⟩ := rf
        have l1' : ∀ b, O1 b ≤ O b := fun b => by have := l1 b; omega
        refine wpIn_rangeFunc fun fn hF => ?_
        obtain ⟨w1, mark, rc, hen, e1, e2, e3, e4, e5, e6, hmark⟩ := run_enterLoop (P := P) (t := t) hro fn ps.toArray c d
        -- the world with the block for deferred calls
        have hx1 : Ext g w g w1 fun _ => False := by
          rcases hmark with ⟨_, _, rfl, _⟩ | ⟨_, rfl, _⟩
          · exact .refl _ _ _
          · exact Ext.alloc s.pmlt _ _
        have sw1 : S P g w1 ⟨e, st.hs⟩ t O1 := s1.extF hx1 rfl fun b o h => Nat.lt_of_lt_of_le (s.pmlt b o h) hx1.size
        have hfresh := sw1.fresh st.hs.next (Nat.le_refl _)
        have hx0 : Ext g w1 (g.add st.hs.next w1.heap.size 0 0 0) (w1.alloc (.loop rc)) fun _ => False := (Ext.alloc sw1.pmlt _ _).add hfresh _ _ _ _
        obtain ⟨Oe1, Oh1, re1, rh1, ho1⟩ := sw1.parts
        have hobj : (g.add st.hs.next w1.heap.size 0 0 0).obj st.hs.next = some w1.heap.size := by simp [Gh.add]
        have hO1out : O1 w1.heap.size = 0 := sw1.out (Nat.le_refl _)
        have hnew := sw1.new (blk := .loop rc) (o := .loop (e.map fun kv => (kv.1, share kv.2)) ps as bd false none) (base := 0) (esz := 0) (bsz := 0) (O1 := one w1.heap.size) (by
          simp only [RObj]
          refine ⟨w1.heap.size, rc, hobj, heap_alloc_new _ _, e1, e2, e3, by rw [e6, e4]; exact ha, by rw [e6, e5]; exact hb, snap_srt sw1.se, ?_, by rw [e6]; exact hps, fun _ => rfl⟩
          rw [e6]
          exact REnv.ext hx0 (snap_rel re1) (by simp)) (fun b => by
            by_cases hb : b = w1.heap.size
            · subst hb; rw [one_same, hO1out]; exact Nat.le_refl _
            · have := sw1.le b; simp [one, hb]; exact this) (fun b hb => by rw [one_ne hb]; exact Nat.lt_succ_self _)
        obtain ⟨s2, hx2⟩ := hnew
        obtain ⟨Oe, Oh, re, sh, ho⟩ := s2.split
        obtain ⟨hfn, hk⟩ := hr hcall
        have hxa := hx1.trans hx0 fun _ _ h => h
        have r1' := RVs.ext hxa _ _ _ r1 (by simp)
        have r2' := RVs.ext hxa _ _ _ r2 (by simp)
        have ry : RVs (g.add st.hs.next w1.heap.size 0 0 0) (w1.alloc (.loop rc)) [.yield st.hs.next] [.func (.yield w1.heap.size) #[] #[]] zero := by
          simp only [RVs, RV]
          exact ⟨_, [], zero, zero, rfl, ⟨⟨w1.heap.size, hobj, rfl⟩, fun _ => rfl⟩, ⟨rfl, fun _ => rfl⟩, fun _ => rfl⟩
        have hrv : RVs (g.add st.hs.next w1.heap.size 0 0 0) (w1.alloc (.loop rc)) (first ++ ([.yield st.hs.next] ++ caps)) (xs.toList ++ ([.func (.yield w1.heap.size) #[] #[]] ++ ys.toList)) zero := by
          have := r1'.join (ry.join r2')
          simpa using this
        have hle : ∀ b, zero b + Oh b ≤ 1 := fun b => by have := ho b; have := s2.le b; simp; omega
        have hk := hk hrv sh hle (fun b hb => by simp at hb)
        generalize hargs : (xs.toList ++ ([Value.func (.yield w1.heap.size) #[] #[]] ++ ys.toList)).toArray = args at hk
        refine ⟨w1.heap.size, mark, w1.alloc (.loop rc), { target := .fn (.func gf) ys, args := xs ++ #[.func (.yield w1.heap.size) #[] #[]] }, w1.alloc (.loop rc), gf,
          args, w1.alloc (.loop rc), hen, ?_, fun _ _ => trivial, ?_, fun h => by simp [Fence.wide] at h, callsIn_FR (hk.mono fun en w3 hp => ?_)⟩
        · have hevx : (⟨t, ds⟩ : Act).eval x = .func (.func gf) xs ys := by rw [ev_eval]; exact hev
          have hconst : ∀ u : Value, (⟨t, ds⟩ : Act).eval (.const u) = u := fun _ => rfl
          generalize (⟨t, ds⟩ : Act).eval = ρ at hevx hconst ⊢
          simp [resolve, hevx, hconst, Deferred.ofValue]
        · simp only [invoke]
          rw [run_callFunc hfn, ← hargs]
          congr 2
          apply Array.ext'
          simp
        · cases en with
          | panicked _ => exact hp.elim
          | outgrown => exact hp.elim
          | returned y =>
            obtain ⟨g2, Oa, O3, k⟩ := call_after (hs := hs) (Ov := zero) s2.se re (fun b => by have := ho b; simp; omega) s2 hp
            have hob2 : g2.obj st.hs.next = some w1.heap.size := (k.ext.obj _ _ hobj).1
            obtain ⟨w4, O4, hend, s4, hx4, l4⟩ := k.st.endLoop hget hob2
            have hlo : w.heap.size ≤ w1.heap.size := hx1.size
            have G : Goes P g w t O ⟨e, ⟨del hs.heap st.hs.next, hs.next⟩⟩ t w4 g2 O4 := by
              refine ⟨s4, (((hxa.mono (T := fun b => O b ≠ 0) fun _ _ h => h.elim).trans k.ext fun b hb hq => ?_).trans hx4 fun b hb hq => ?_), fun b hb => ?_, rfl⟩
              · have h0 : one w1.heap.size b = 0 := by simp [one]; omega
                have := l1' b
                change one w1.heap.size b + O1 b ≠ 0 at hq
                show O b ≠ 0
                omega
              · exact absurd hq (by omega)
              · have hb2 : b < (w1.alloc (.loop rc)).heap.size := Nat.lt_of_lt_of_le hb hxa.size
                have h0 : one w1.heap.size b = 0 := by simp [one]; omega
                have h1 : Oa b + O3 b ≤ one w1.heap.size b + O1 b := k.old b hb2
                have := l4 b; have := l1' b
                omega
            have hM : Marks w4 O4 w.heap.size mark ∧ (ro.isSome = true → mark = []) := by
              rcases hmark with ⟨_, hl, _, rfl⟩ | ⟨hn, rfl, rfl⟩
              · exact ⟨trivial, fun _ => rfl⟩
              · refine ⟨⟨⟨w.heap.size, rfl, Nat.le_refl _, ?_, ?_, fun d hd => by simp at hd⟩, trivial⟩, fun h => by rw [hn] at h; simp at h⟩
                · have hne : w.heap.size ≠ (w.alloc (.deferred (some []))).heap.size := by simp
                  have hlt : w.heap.size < ((w.alloc (.deferred (some []))).alloc (.loop rc)).heap.size := by simp; omega
                  have hO1z : O1 w.heap.size = 0 := s1.out (Nat.le_refl _)
                  have hoz : one (w.alloc (.deferred (some []))).heap.size w.heap.size = 0 := by simp [one]
                  rw [(hx4.blk _ (Nat.lt_of_lt_of_le hlt k.ext.size) (fun h => hne h)).1, (k.ext.blk _ hlt (fun h => by
                    change one (w.alloc (.deferred (some []))).heap.size w.heap.size + O1 w.heap.size ≠ 0 at h
                    omega)).1, heap_alloc_old (by simp), heap_alloc_new]
                · have hlt : w.heap.size < ((w.alloc (.deferred (some []))).alloc (.loop rc)).heap.size := by simp; omega
                  have hO1z : O1 w.heap.size = 0 := s1.out (Nat.le_refl _)
                  have hoz : one (w.alloc (.deferred (some []))).heap.size w.heap.size = 0 := by simp [one]
                  have h1 : Oa w.heap.size + O3 w.heap.size ≤ one (w.alloc (.deferred (some []))).heap.size w.heap.size + O1 w.heap.size := k.old _ hlt
                  have := l4 w.heap.size
                  omega
            have post : ∀ out st'', st'' = ⟨e, ⟨del hs.heap st.hs.next, hs.next⟩⟩ → CodePost P g w t O ds ro out st'' (exitOf out) { tmps := t, defers := mark ++ ds } w4 := by
              rintro out _ rfl
              exact ⟨rfl, g2, O4, mark, G, rfl, hM.1, hM.2⟩
            refine ⟨pend.bind outCode, w4, hend, ?_⟩
            cases pend with
            | none =>
              simp only [Option.some.injEq, Prod.mk.injEq] at h
              obtain ⟨rfl, rfl⟩ := h
              exact post .normal _ rfl
            | some out =>
              simp only [Option.some.injEq, Prod.mk.injEq] at h
              obtain ⟨rfl, rfl⟩ := h
              cases out with
              | normal => exact post .normal _ rfl
              | exit i => exact wpIn_exit (post (.exit i) _ rfl)
              | goto i => exact wpIn_goto (post (.goto i) _ rfl)
              | ret => exact wpIn_ret (post .ret _ rfl)
      · simp at h
    · simp at h
  · simp at h
end
end Go.Vm

/-
  REGIONS (10): a region whose operations come in their order.
-/
namespace Go.Vm
section
variable {P : Program} {g : Gh} {w : World} {t : Array Value} {O : Nat → Nat} {st st' : St} {a : AV} {o : Oper} {r : Rec}

theorem op_sim {ro : Option Nat} (hr : CallSim P r) (hcs : CodeSim P r) {v : VOp} (s : S P g w st t O) (h : opF v r st = some (a, st')) (hc : chkOp P v o.op = true) : OpW ro P g w t O st' a o := by
  cases v with
  | mov x => exact (op_mov s h hc).opW
  | pick c x y => exact (op_pick s h hc).opW
  | alloc zs => exact (op_alloc s h hc).opW
  | box x => exact (op_box s h hc).opW
  | build zs ps => exact (op_build s h hc).opW
  | mks m ps => exact (op_mks s h hc).opW
  | mksv m ps => exact (op_mksv s h hc).opW
  | ld n k p => exact (op_ld s h hc).opW
  | st n p x => exact (op_st s h hc).opW
  | nilck x => exact (op_nilck s h hc).opW
  | bin op x y => exact (op_bin s h hc).opW
  | binb neg x y => exact (op_binb s h hc).opW
  | bina neg ks x y => exact (op_bina s h hc).opW
  | un op x => exact (op_un s h hc).opW
  | conv k x => exact (op_conv s h hc).opW
  | toStr x => exact (op_toStr s h hc).opW
  | mkfn f a c => exact (op_mkfn s h hc).opW
  | mkslice z l c => exact (op_mkslice s h hc).opW
  | slice m x lo hi mx => exact (op_slice s h hc).opW
  | slarr n x lo hi mx => exact (op_slarr s h hc).opW
  | fa off p => exact (op_fa s h hc).opW
  | fld off n x => exact (op_fld s h hc).opW
  | ia n x i => exact (op_ia s h hc).opW
  | iarr l n p i => exact (op_iarr s h hc).opW
  | ix l n ag x i => exact (op_ix s h hc).opW
  | ixs x i => exact (op_ixs s h hc).opW
  | idxb x c => exact (op_idxb s h hc).opW
  | ext j mv i => exact (op_ext s h hc).opW
  | len x => exact (op_len s h hc).opW
  | cap x => exact (op_cap s h hc).opW
  | app m x y => exact (op_app s h hc).opW
  | appz z x n => exact (op_appz s h hc).opW
  | cpy m x y => exact (op_cpy s h hc).opW
  | clr z x => exact (op_clr s h hc).opW
  | minmax b xs => exact (op_minmax s h hc).opW
  | call f args => exact op_call hr s h hc
  | calli f args => exact op_calli hr s h hc
  | callv f args => exact op_callv hr hcs s h hc
  | bad => simp [opF, opBad] at h
  | kill is => simp [chkOp] at hc
  | free i => simp [chkOp] at hc
  | wk i m => simp [chkOp] at hc
  | frz i => simp [chkOp] at hc
  | frzC i offs => simp [chkOp] at hc

theorem chkOp_nodefer {v : VOp} {op : Op} (hb : v ≠ .bad) (h : chkOp P v op = true) : ∀ c, op ≠ .defer c := by
  rintro c rfl
  cases v <;> first | exact hb rfl | (simp [chkOp] at h)

theorem viGo_eq {i : VI} {st2 : St} (h : viGo r i st = some st2) : ∃ v st1, opF i.op r st = some (v, st1) ∧ st2 = setDst i.dst (firm (thawParts i.th v st1.hs).1) ⟨st1.env, (thawParts i.th v st1.hs).2⟩ := by
  unfold viGo at h
  split at h
  · rename_i v st1 hv
    split at h
    · rename_i hth
      simp only [Option.some.injEq] at h
      exact ⟨v, st1, hv, by rw [hth]; exact h.symm⟩
    · simp only [Option.some.injEq] at h
      exact ⟨v, st1, hv, h.symm⟩
  · simp at h

theorem putT_get (t : Array Value) (dst : Option Nat) (x : Value) : ∀ k, dst ≠ some k → (putT t dst x)[k]? = t[k]? := by
  intro k hk
  cases dst with
  | none => rfl
  | some d =>
    have : d ≠ k := fun e => hk (by rw [e])
    simp [putT, Act.put, Array.getElem?_setIfInBounds, this]
/-- One instruction of the model's, taken by the walk. -/
theorem vi_sim2 {ro : Option Nat} (hr : CallSim P r) (hcs : CodeSim P r) {n : Nat} {ops : Array Oper} {i : VI} {st2 : St} (hn : t.size = n) (s : S P g w st t O) (h : viF r i st = some st2) (hc : chkVI P n ops i o = true)
    (ds : List Deferred) (next : Act → World → Prop) (Q : Exit → Act → World → Prop) (hk : ∀ t' w' g' O', Goes P g w t O st2 t' w' g' O' → (∀ k, i.dst ≠ some k → t'[k]? = t[k]?) → next ⟨t', ds⟩ w') :
    if Region.wanted o (yielded ops t) then o.wpIn (FR ro) 0 P ⟨t, ds⟩ w next Q else (∀ f, o.about P w (⟨t, ds⟩ : Act).eval = some f → (FR ro).fn f) ∧ next (Act.put ⟨t, ds⟩ o.dst undef) w := by
  simp only [chkVI, Bool.and_eq_true] at hc
  obtain ⟨⟨hdst, hgd⟩, hop⟩ := hc
  have hd : i.dst = o.dst ∧ ∀ d, i.dst = some d → d < t.size := by
    split at hdst
    · rename_i e1 e2; exact ⟨by rw [e1, e2], fun d h => by rw [e1] at h; simp at h⟩
    · rename_i a b e1 e2
      simp only [Bool.and_eq_true, Nat.beq_eq, Nat.blt_eq] at hdst
      obtain ⟨rfl, hlt⟩ := hdst
      exact ⟨by rw [e1, e2], fun d h => by rw [e1] at h; simp only [Option.some.injEq] at h; omega⟩
    · simp at hdst
  have go : viGo r i st = some st2 → o.wpIn (FR ro) 0 P ⟨t, ds⟩ w next Q := by
    intro hg
    obtain ⟨v, st1, hv, rfl⟩ := viGo_eq hg
    have hb : i.op ≠ .bad := by intro e; rw [e] at hv; simp [opF, opBad] at hv
    refine ⟨fun _ _ => trivial, ?_⟩
    rw [semAt_ev _ _ (chkOp_nodefer hb hop)]
    refine op_sim (ro := ro) hr hcs s hv hop ds next Q fun x w' g' Oa O' k => ?_
    obtain ⟨g2, O2, G⟩ := after_vi k hd.2 i.th
    rw [put_eq, ← hd.1]
    exact hk _ _ _ _ G (putT_get _ _ _)
  have no : st2 = setDst i.dst (.tup []) st → (∀ f, o.about P w (⟨t, ds⟩ : Act).eval = some f → (FR ro).fn f) ∧ next (Act.put ⟨t, ds⟩ o.dst undef) w := by
    rintro rfl
    refine ⟨fun _ _ => trivial, ?_⟩
    have ha : After P g w t O st (.tup []) undef w g zero O := ⟨by simp [RV, RVs, undef], s, .refl _ _ _, fun b => by have := s.le b; simp; omega, fun b _ => by simp, fun b hb => by simp at hb⟩
    obtain ⟨g2, O2, G⟩ := after_vi ha hd.2 []
    rw [put_eq, ← hd.1]
    exact hk _ _ _ _ G (putT_get _ _ _)
  obtain ⟨g1, g2⟩ := guard_rel (ops := ops) s hgd
  unfold viF at h
  split at h
  · rename_i hgn
    rw [if_pos (g1 hgn)]
    exact go h
  · rename_i sl want hgs
    obtain ⟨k1, k2⟩ := g2 sl want hgs
    split at h
    · rename_i b hb
      rw [k1 b hb]
      split at h
      · rename_i hbw; rw [if_pos hbw]; exact go h
      · rename_i hbw
        simp only [Option.some.injEq] at h
        rw [if_neg (by rw [hbw]; simp)]
        exact no h.symm
    · rename_i hb
      rw [k2 hb]
      simp only [Option.some.injEq] at h
      rw [if_neg (by simp)]
      exact no h.symm
    · simp at h

/-- What has no counterpart. -/
theorem vi_sim {ro : Option Nat} (hr : CallSim P r) (hcs : CodeSim P r) {n : Nat} {ops : Array Oper} {i : VI} {st2 : St} (hn : t.size = n) (s : S P g w st t O) (h : viF r i st = some st2) (hc : chkVI P n ops i o = true)
    (ds : List Deferred) (next : Act → World → Prop) (Q : Exit → Act → World → Prop) (hk : ∀ t' w' g' O', Goes P g w t O st2 t' w' g' O' → next ⟨t', ds⟩ w') :
    if Region.wanted o (yielded ops t) then o.wpIn (FR ro) 0 P ⟨t, ds⟩ w next Q else (∀ f, o.about P w (⟨t, ds⟩ : Act).eval = some f → (FR ro).fn f) ∧ next (Act.put ⟨t, ds⟩ o.dst undef) w := vi_sim2 hr hcs hn s h hc ds next Q fun t' w' g' O' G _ => hk t' w' g' O' G

theorem ghost_sim {i : VI} {st2 : St} (s : S P g w st t O) (hg : isGhost i = true) (h : viF r i st = some st2) : ∃ g' O', Goes P g w t O st2 t w g' O' := by
  simp only [isGhost, Bool.and_eq_true] at hg
  obtain ⟨⟨⟨h1, h2⟩, h3⟩, h4⟩ := hg
  have hd : i.dst = none := Option.isNone_iff_eq_none.1 h1
  have hgd : i.guard = none := Option.isNone_iff_eq_none.1 h2
  have hth : i.th = [] := by simpa using h3
  unfold viF at h
  rw [hgd] at h
  simp only at h
  obtain ⟨v, st1, hv, rfl⟩ := viGo_eq h
  rw [hd, hth]
  have fin : Op0 P g w t O st1 → ∃ g' O', Goes P g w t O (setDst none (firm (thawParts [] v st1.hs).1) ⟨st1.env, (thawParts [] v st1.hs).2⟩) t w g' O' := by
    rintro ⟨g', O', s', hx, hle⟩
    exact ⟨g', O', s', hx, fun b _ => hle b, rfl⟩
  split at h4
  · rename_i is e; rw [e] at hv; exact fin (op_kill s hv)
  · rename_i j e; rw [e] at hv; exact fin (op_free s hv)
  · rename_i j m e; rw [e] at hv; exact fin (op_wk s hv)
  · rename_i j e; rw [e] at hv; exact fin (op_frz s hv)
  · rename_i j offs e; rw [e] at hv; exact fin (op_frzC s hv)
  · simp at h4

theorem ops_sim {ro : Option Nat} (hr : CallSim P r) (hcs : CodeSim P r) {n : Nat} {ops : Array Oper} {Q : Exit → Act → World → Prop} (ds : List Deferred) :
    ∀ {l : List VI} {os : List Oper} {k : Nat}, ops.toList.drop k = os → chkOps P n ops l os = true → ∀ {g : Gh} {w : World} {t : Array Value} {O : Nat → Nat} {st st' : St}, t.size = n → S P g w st t O → opsF r l st = some st' →
      (∀ w' t' g' O', Goes P g w t O st' t' w' g' O' → Q .normal ⟨t', ds⟩ w') → wpOpsIn (FR ro) 0 P ops Q (List.range' k os.length) ⟨t, ds⟩ w
  | [], os, k, hos, hc, g, w, t, O, st, st', hn, s, h, hq => by
    cases os with
    | nil =>
      simp only [opsF, Option.some.injEq] at h
      subst h
      exact hq _ _ _ _ (Goes.refl s)
    | cons o os => simp [chkOps] at hc
  | v :: l, os, k, hos, hc, g, w, t, O, st, st', hn, s, h, hq => by
    simp only [opsF] at h
    split at h
    · rename_i st1 hv
      simp only [chkOps] at hc
      split at hc
      · rename_i hgh
        obtain ⟨g1, O1, G⟩ := ghost_sim s hgh hv
        exact ops_sim hr hcs ds hos hc (by rw [← hn]) G.st h fun w' t' g' O' G2 => hq _ _ _ _ (G.trans G2)
      · cases os with
        | nil => simp at hc
        | cons o os =>
          simp only [Bool.and_eq_true] at hc
          obtain ⟨hvi, hrest⟩ := hc
          have hk : ops[k]? = some o := by
            have := congrArg (fun l => l[0]?) hos
            simpa using this
          have hos' : ops.toList.drop (k + 1) = os := by
            have := congrArg (fun l => l.drop 1) hos
            simpa [List.drop_drop] using this
          have key := vi_sim (ro := ro) hr hcs hn s hv hvi ds (wpOpsIn (FR ro) 0 P ops Q (List.range' (k + 1) os.length)) Q fun t' w' g' O' G =>
            ops_sim hr hcs ds hos' hrest (by rw [G.size, hn]) G.st h fun w2 t2 g2 O2 G2 => hq _ _ _ _ (G.trans G2)
          simp only [List.length_cons, List.range'_succ, wpOpsIn, hk]
          exact key
    · simp at h
end
end Go.Vm

/-
  REGIONS THAT DRAW THEIR ORDER (1): operations that leave the heap as it is depend on few slots, and change few.
-/
namespace Go.Vm

/-- Objects that read alike: in a variable's cells the right to append may be gone. -/
def likeO : Obj → Obj → Prop
  | .cells a, .cells b => shareAll a = shareAll b
  | o, o' => o = o'
/-- What can be read on one heap reads alike on another. -/
def HLe (h h' : Heap) : Prop := ∀ id o, get h id = some o → ∃ o', get h' id = some o' ∧ likeO o o'
theorem likeO.refl (o : Obj) : likeO o o := by cases o <;> simp [likeO]
theorem HLe.refl (h : Heap) : HLe h h := fun _ o ho => ⟨o, ho, .refl o⟩
theorem HLe.arr {h h' : Heap} (H : HLe h h') {id m : Nat} {xs : List (List D)} (g : get h id = some (.arr m xs)) : get h' id = some (.arr m xs) := by
  obtain ⟨o, h1, h2⟩ := H id _ g
  cases o <;> simp [likeO] at h2
  obtain ⟨rfl, rfl⟩ := h2
  exact h1
theorem HLe.cells {h h' : Heap} (H : HLe h h') {id : Nat} {cs : List AV} (g : get h id = some (.cells cs)) : ∃ cs', get h' id = some (.cells cs') ∧ shareAll cs = shareAll cs' := by
  obtain ⟨o, h1, h2⟩ := H id _ g
  cases o <;> simp [likeO] at h2
  exact ⟨_, h1, h2⟩

/-- What an operation looks at ('R'), and what it changes ('M'). -/
def Loc (f : St → Option (AV × St)) (R M : List Nat) : Prop :=
  ∀ e hs v st1, f ⟨e, hs⟩ = some (v, st1) → st1.hs = hs ∧ (Srt e → Srt st1.env) ∧ (∀ k, k ∉ M → get st1.env k = get e k) ∧
    ∀ e' hs', (∀ k ∈ R, get e' k = get e k) → HLe hs.heap hs'.heap → ∃ e1', f ⟨e', hs'⟩ = some (v, ⟨e1', hs'⟩) ∧ (∀ k, k ∉ M → get e1' k = get e' k) ∧ ∀ k ∈ M, get e1' k = get st1.env k

theorem get_del {α : Type} (l : List (Nat × α)) (i k : Nat) : get (del l i) k = if k = i then none else get l k := by
  induction l with
  | nil => simp [del_nil, get_nil]
  | cons p l ih =>
    obtain ⟨j, v⟩ := p
    rw [del_cons]
    by_cases e : j = i
    · rw [if_pos e, ih, get_cons]
      by_cases e2 : k = i
      · simp [e2]
      · rw [if_neg e2, if_neg e2, if_neg (by omega)]
    · rw [if_neg e, get_cons, get_cons, ih]
      by_cases e2 : j = k
      · subst e2; simp [e]
      · simp [e2]
theorem get_put {α : Type} (l : List (Nat × α)) (i k : Nat) (x : α) : get (put l i x) k = if k = i then some x else get l k := by
  induction l with
  | nil => simp only [put_nil, get_cons, get_nil]; by_cases e : k = i <;> simp [e]; omega
  | cons p l ih =>
    obtain ⟨j, v⟩ := p
    rw [put_cons]
    by_cases e : j = i
    · rw [if_pos e, get_cons, get_cons]
      by_cases e2 : k = i
      · subst e2; simp
      · rw [if_neg (by omega), if_neg e2, if_neg (by omega)]
    · rw [if_neg e]
      by_cases e3 : Befe i j
      · rw [if_pos e3, get_cons]
        by_cases e2 : k = i
        · subst e2; simp
        · rw [if_neg (by omega), if_neg e2]
      · rw [if_neg e3, get_cons, get_cons, ih]
        by_cases e2 : j = k
        · subst e2; simp [e]
        · simp [e2]
theorem srt_ext {α : Type} : ∀ {a b : List (Nat × α)}, Srt a → Srt b → (∀ k, get a k = get b k) → a = b
  | [], [], _, _, _ => rfl
  | [], (k, v) :: b, _, _, h => by have := h k; rw [get_cons] at this; simp [get_nil] at this
  | (k, v) :: a, [], _, _, h => by have := h k; rw [get_cons] at this; simp [get_nil] at this
  | (k, v) :: a, (j, u) :: b, ha, hb, h => by
    have ha' := List.pairwise_cons.1 ha
    have hb' := List.pairwise_cons.1 hb
    have none_of : ∀ {l : List (Nat × α)} {i : Nat}, (∀ p ∈ l, Bef i p.1) → get l i = none := by
      intro l i hl
      induction l with
      | nil => rfl
      | cons p l ih =>
        obtain ⟨q, y⟩ := p
        rw [get_cons, if_neg (hl _ (.head _)).ne]
        exact ih fun p hp => hl p (.tail _ hp)
    have hkj : k = j := by
      rcases bef_tri k j with hlt | e | hlt
      · have h1 := h k
        rw [get_cons, if_pos rfl, get_cons, if_neg (by omega), none_of fun p hp => hlt.tr (hb'.1 p hp)] at h1
        simp at h1
      · exact e
      · have h1 := h j
        rw [get_cons, if_neg (by omega), get_cons, if_pos rfl, none_of fun p hp => hlt.tr (ha'.1 p hp)] at h1
        simp at h1
    subst hkj
    have hvu : v = u := by have h1 := h k; rw [get_cons, if_pos rfl, get_cons, if_pos rfl] at h1; simpa using h1
    subst hvu
    rw [srt_ext ha'.2 hb'.2 fun i => ?_]
    by_cases e : k = i
    · subst e
      rw [none_of fun p hp => ha'.1 p hp, none_of fun p hp => hb'.1 p hp]
    · have h1 := h i
      rw [get_cons, if_neg e, get_cons, if_neg e] at h1
      exact h1

theorem rd_loc {e e1 : Env} {x : Rd} {v : AV} (h : rd e x = some (v, e1)) : (Srt e → Srt e1) ∧ (∀ k, get e1 k = if k ∈ movedOf x then none else get e k) ∧
    ∀ e', (∀ k ∈ slotOf x, get e' k = get e k) → ∃ e1', rd e' x = some (v, e1') ∧ ∀ k, get e1' k = if k ∈ movedOf x then none else get e' k := by
  cases x with
  | c c =>
    simp only [rd, Option.some.injEq, Prod.mk.injEq] at h
    obtain ⟨rfl, rfl⟩ := h
    exact ⟨id, fun k => by simp [movedOf], fun e' _ => ⟨e', by simp [rd], fun k => by simp [movedOf]⟩⟩
  | s i =>
    simp only [rd] at h
    split at h
    · rename_i u hu
      simp only [Option.some.injEq, Prod.mk.injEq] at h
      obtain ⟨rfl, rfl⟩ := h
      refine ⟨id, fun k => by simp [movedOf], fun e' he => ⟨e', ?_, fun k => by simp [movedOf]⟩⟩
      have := he i (by simp [slotOf])
      simp only [rd, this, hu]
    · simp at h
  | m i =>
    simp only [rd] at h
    split at h
    · rename_i u hu
      simp only [Option.some.injEq, Prod.mk.injEq] at h
      obtain ⟨rfl, rfl⟩ := h
      refine ⟨fun hs => hs.del i, fun k => by rw [get_del]; simp [movedOf], fun e' he => ⟨del e' i, ?_, fun k => by rw [get_del]; simp [movedOf]⟩⟩
      have := he i (by simp [slotOf])
      simp only [rd, this, hu]
    · simp at h

theorem rdAll_loc : ∀ {rs : List Rd} {e e1 : Env} {vs : List AV}, rdAll e rs = some (vs, e1) → (Srt e → Srt e1) ∧ (∀ k, get e1 k = if k ∈ movedsOf rs then none else get e k) ∧
    ∀ e', (∀ k ∈ slotsOf rs, get e' k = get e k) → ∃ e1', rdAll e' rs = some (vs, e1') ∧ ∀ k, get e1' k = if k ∈ movedsOf rs then none else get e' k
  | [], e, e1, vs, h => by
    simp only [rdAll, Option.some.injEq, Prod.mk.injEq] at h
    obtain ⟨rfl, rfl⟩ := h
    exact ⟨id, fun k => by simp [movedsOf], fun e' _ => ⟨e', by simp [rdAll], fun k => by simp [movedsOf]⟩⟩
  | x :: rs, e, e1, vs, h => by
    simp only [rdAll] at h
    split at h
    · simp at h
    · rename_i v e2 h1
      split at h
      · simp at h
      · rename_i us e3 h2
        simp only [Option.some.injEq, Prod.mk.injEq] at h
        obtain ⟨rfl, rfl⟩ := h
        obtain ⟨s1, g1, l1⟩ := rd_loc h1
        obtain ⟨s2, g2, l2⟩ := rdAll_loc h2
        have hm : ∀ k, (k ∈ movedsOf (x :: rs)) ↔ (k ∈ movedOf x ∨ k ∈ movedsOf rs) := fun k => by simp [movedsOf]
        refine ⟨fun hs => s2 (s1 hs), fun k => ?_, fun e' he => ?_⟩
        · rw [g2, g1]
          by_cases a : k ∈ movedOf x <;> by_cases b : k ∈ movedsOf rs <;> simp [hm, a, b]
        · obtain ⟨e2', h1', g1'⟩ := l1 e' fun k hk => he k (by simp [slotsOf]; exact .inl hk)
          obtain ⟨e3', h2', g2'⟩ := l2 e2' fun k hk => by
            rw [g1', g1]
            by_cases a : k ∈ movedOf x
            · simp [a]
            · simp only [a, if_false]
              exact he k (by simp only [slotsOf, List.flatMap_cons, List.mem_append]; exact .inr hk)
          refine ⟨e3', by simp only [rdAll, h1', h2'], fun k => ?_⟩
          rw [g2', g1']
          by_cases a : k ∈ movedOf x <;> by_cases b : k ∈ movedsOf rs <;> simp [hm, a, b]

/-- Operations that read their operands, and then compute. -/
theorem Loc.rds {f : St → Option (AV × St)} {rs : List Rd} (F : List AV → HS → Option AV)
    (mono : ∀ vs hs hs' v, HLe hs.heap hs'.heap → F vs hs = some v → F vs hs' = some v)
    (h : ∀ e hs, f ⟨e, hs⟩ = match rdAll e rs with | none => none | some (vs, e1) => match F vs hs with | none => none | some v => some (v, ⟨e1, hs⟩)) : Loc f (slotsOf rs) (movedsOf rs) := by
  intro e hs v st1 hf
  rw [h] at hf
  split at hf
  · simp at hf
  · rename_i vs e1 hr
    split at hf
    · simp at hf
    · rename_i u hu
      simp only [Option.some.injEq, Prod.mk.injEq] at hf
      obtain ⟨rfl, rfl⟩ := hf
      obtain ⟨s1, g1, l1⟩ := rdAll_loc hr
      refine ⟨rfl, s1, fun k hk => by rw [g1]; simp [hk], fun e' hs' he hle => ?_⟩
      obtain ⟨e1', hr', g1'⟩ := l1 e' he
      exact ⟨e1', by rw [h, hr']; simp only [mono _ _ _ _ hle hu], fun k hk => by rw [g1']; simp [hk], fun k hk => by rw [g1', g1]; simp [hk]⟩

/-! ### What reads alike -/
theorem shareAll_map : ∀ (cs : List AV), shareAll cs = cs.map share
  | [] => rfl
  | c :: r => by simp only [shareAll_cons, shareAll_map r, List.map_cons]
theorem toD_share (v : AV) : toD (share v) = toD v := by
  cases v <;> try rfl
  rename_i p m xs
  cases p <;> rfl
theorem toDs_share : ∀ (cs : List AV), toDs (shareAll cs) = toDs cs
  | [] => rfl
  | c :: r => by simp only [shareAll_cons, toDs, toD_share, toDs_share r]
theorem alike_get {a b : List AV} (h : shareAll a = shareAll b) {i : Nat} {v : AV} (g : a[i]? = some v) : ∃ u, b[i]? = some u ∧ share u = share v := by
  rw [shareAll_map, shareAll_map] at h
  have := congrArg (fun l => l[i]?) h
  simp only [List.getElem?_map, g, Option.map_some] at this
  cases hb : b[i]? with
  | none => rw [hb] at this; simp at this
  | some u => rw [hb] at this; simp at this; exact ⟨u, rfl, this.symm⟩
theorem alike_len {a b : List AV} (h : shareAll a = shareAll b) : a.length = b.length := by
  rw [shareAll_map, shareAll_map] at h
  simpa using congrArg List.length h
theorem alike_sub {a b : List AV} (h : shareAll a = shareAll b) (i n : Nat) : shareAll (sub a i n) = shareAll (sub b i n) := by
  rw [shareAll_map, shareAll_map] at h
  simp only [sub, shareAll_map, List.map_take, List.map_drop, h]
theorem HLe.load {h h' : Heap} (H : HLe h h') {n : Option Nat} {p u : AV} {k : Heap} (hl : loadAt h n 0 p = some (u, k)) : ∃ k', loadAt h' n 0 p = some (u, k') := by
  cases p <;> simp only [loadAt, reduceCtorEq] at hl ⊢
  · rename_i id off
    split at hl
    · rename_i cs hg
      obtain ⟨cs', hg', hs⟩ := H.cells hg
      simp only [hg']
      split at hl
      · split at hl
        · simp at hl
        · rename_i v hv
          obtain ⟨u', hu', e⟩ := alike_get hs hv
          simp only [Option.some.injEq, Prod.mk.injEq] at hl
          simp only [hu', e, hl.1]
          exact ⟨_, rfl⟩
      · rename_i m
        split at hl
        · rename_i hb
          rw [alike_len hs] at hb
          simp only [Option.some.injEq, Prod.mk.injEq] at hl
          simp only [hb, ← alike_sub hs, hl.1]
          exact ⟨_, rfl⟩
        · simp at hl
    · simp at hl
  · rename_i id i off
    split at hl
    · rename_i m xs hg
      simp only [H.arr hg]
      split at hl
      · rename_i x hx
        split at hl
        · rename_i v hv
          simp only [Option.some.injEq, Prod.mk.injEq] at hl
          simp only [hv, hl.1]
          exact ⟨_, rfl⟩
        · simp at hl
      · simp at hl
    · simp at hl
  · split at hl
    · rename_i v hv
      simp only [Option.some.injEq, Prod.mk.injEq] at hl
      simp only [hl.1]
      exact ⟨_, rfl⟩
    · simp at hl
theorem HLe.objElems {h h' : Heap} (H : HLe h h') {id : Nat} {xs : List (List D)} (g : objElems h id = some xs) : objElems h' id = some xs := by
  unfold Go.Vm.objElems at g ⊢
  split at g
  · rename_i m ys hg
    simp only [H.arr hg]
    exact g
  · rename_i cs hg
    obtain ⟨cs', hg', hs⟩ := H.cells hg
    simp only [hg']
    rw [← toDs_share, ← hs, toDs_share]
    exact g
  · simp at g
theorem HLe.elems {h h' : Heap} (H : HLe h h') {v : AV} {xs : List (List D)} (g : elems h v = some xs) : elems h' v = some xs := by
  unfold Go.Vm.elems at g ⊢
  split at g <;> try exact g
  rename_i id off len
  split at g
  · rename_i ys hy
    simp only [H.objElems hy]
    exact g
  · simp at g
theorem HLe.viewOne {h h' : Heap} (H : HLe h h') {v u : AV} (g : viewOne h v = some u) : viewOne h' v = some u := by
  unfold Go.Vm.viewOne at g ⊢
  split at g <;> try exact g
  split at g
  · rename_i xs hx
    simp only [H.elems hx]
    exact g
  · simp at g
theorem HLe.viewAll {h h' : Heap} (H : HLe h h') : ∀ {vs us : List AV}, viewAll h vs = some us → viewAll h' vs = some us
  | [], _, g => g
  | v :: r, us, g => by
    simp only [Go.Vm.viewAll] at g ⊢
    split at g
    · simp at g
    · rename_i x hx
      split at g
      · simp at g
      · rename_i xs hxs
        simp only [H.viewOne hx, H.viewAll hxs]
        exact g
theorem HLe.viewArg {h h' : Heap} (H : HLe h h') {v u : AV} (g : viewArg h v = some u) : viewArg h' v = some u := by
  unfold Go.Vm.viewArg at g ⊢
  split at g
  · split at g
    · rename_i xs hx
      simp only [H.viewAll hx]
      exact g
    · simp at g
  · exact H.viewOne g
theorem HLe.viewArgs {h h' : Heap} (H : HLe h h') : ∀ {vs us : List AV}, viewArgs h vs = some us → viewArgs h' vs = some us
  | [], _, g => g
  | v :: r, us, g => by
    simp only [Go.Vm.viewArgs] at g ⊢
    split at g
    · simp at g
    · rename_i x hx
      split at g
      · simp at g
      · rename_i xs hxs
        simp only [H.viewArg hx, H.viewArgs hxs]
        exact g
theorem HLe.call {r : Rec} {f : FuncId} {vs : List AV} {h h' : Heap} (H : HLe h h') {v : AV} (g : callPure r f vs h = some v) : callPure r f vs h' = some v := by
  unfold callPure at g ⊢
  split at g
  · simp at g
  · rename_i ds hd
    simp only [H.viewArgs hd]
    exact g
theorem HLe.okSl {h h' : Heap} (H : HLe h h') {m : Nat} {v : AV} (g : okSl h m v = true) : okSl h' m v = true := by
  unfold Go.Vm.okSl at g ⊢
  split at g
  · split at g
    · rename_i k ys hg
      simp only [H.arr hg]
      exact g
    · rename_i cs hg
      obtain ⟨cs', hg', _⟩ := H.cells hg
      simp only [hg']
      exact g
    · simp at g
  · rfl
end Go.Vm

/-
  REGIONS THAT DRAW THEIR ORDER (2): which operations leave the heap as it is.
-/
namespace Go.Vm

section
variable {r : Rec}
theorem loc_mov (x : Rd) : Loc (opMov x) (slotsOf [x]) (movedsOf [x]) := by
  refine Loc.rds (fun vs _ => match vs with | [v] => some v | _ => none) (fun _ _ _ _ _ h => h) fun e hs => ?_
  simp only [opMov, rdAll]
  cases rd e x <;> rfl
theorem loc_build (zs : List AV) (ps : List (Nat × Nat × Rd)) : Loc (opBuild zs ps) (slotsOf (readsOf ps)) (movedsOf (readsOf ps)) := by
  refine Loc.rds (fun vs _ => match fillCells zs (withVals ps vs) with | some cs => some (.agg cs) | none => none) (fun _ _ _ _ _ h => h) fun e hs => ?_
  simp only [opBuild]
  cases rdAll e (readsOf ps) with
  | none => rfl
  | some p => obtain ⟨vs, e1⟩ := p; simp only; split <;> simp_all
theorem loc_mks (m : Nat) (ps : List Rd) : Loc (opMks m ps) (slotsOf ps) (movedsOf ps) := by
  refine Loc.rds (fun vs _ => match mkElems m vs with | some xs => some (.own true m xs) | none => none) (fun _ _ _ _ _ h => h) fun e hs => ?_
  simp only [opMks]
  cases rdAll e ps with
  | none => rfl
  | some p => obtain ⟨vs, e1⟩ := p; simp only; split <;> simp_all
theorem load0 {h : Heap} {n : Option Nat} {p v : AV} {h' : Heap} (hl : loadAt h n 0 p = some (v, h')) : h' = h := by
  cases p <;> simp only [loadAt, reduceCtorEq] at hl
  · split at hl
    · split at hl
      · split at hl <;> simp at hl; exact hl.2.symm
      · split at hl <;> simp at hl; exact hl.2.symm
    · simp at hl
  · split at hl
    · split at hl
      · split at hl <;> simp at hl; exact hl.2.symm
      · simp at hl
    · simp at hl
  · split at hl <;> simp at hl; exact hl.2.symm
def ldV (n : Option Nat) (vs : List AV) (hs : HS) : Option AV :=
  match vs with
  | [v] => (match loadAt hs.heap n 0 v with | some (u, _) => some u | none => none)
  | _ => none
theorem mono_ld {n : Option Nat} (vs : List AV) (hs hs' : HS) (v : AV) (H : HLe hs.heap hs'.heap) (h : ldV n vs hs = some v) : ldV n vs hs' = some v := by
  unfold ldV at h ⊢
  split at h
  · split at h
    · rename_i u k hl
      obtain ⟨k', hk⟩ := H.load hl
      simp only [hk]
      exact h
    · simp at h
  · simp at h
theorem loc_ld (n : Option Nat) (p : Rd) : Loc (opLd n 0 p) (slotsOf [p]) (movedsOf [p]) := by
  refine Loc.rds (ldV n) mono_ld fun e hs => ?_
  simp only [opLd, rdAll]
  cases rd e p with
  | none => rfl
  | some q =>
    obtain ⟨v, e1⟩ := q
    simp only
    cases hl : loadAt hs.heap n 0 v with
    | none => simp only [ldV, hl]
    | some q => obtain ⟨u, h'⟩ := q; have := load0 hl; subst this; simp only [ldV, hl]
theorem loc_nilck (x : Rd) : Loc (opNilck x) (slotsOf [x]) (movedsOf [x]) := by
  refine Loc.rds (fun vs _ => match vs with | [v] => (match v with | .ptr .. | .pel .. | .pim .. | .fn .. | .yield .. => some v | _ => none) | _ => none) (fun _ _ _ _ _ h => h) fun e hs => ?_
  simp only [opNilck, rdAll]
  cases rd e x with
  | none => rfl
  | some q => obtain ⟨v, e1⟩ := q; cases v <;> rfl
theorem loc_bin (op : BinOp) (x y : Rd) : Loc (opBin op x y) (slotsOf [x, y]) (movedsOf [x, y]) := by
  refine Loc.rds (fun vs _ => match vs with | [a, b] => binOf op a b | _ => none) (fun _ _ _ _ _ h => h) fun e hs => ?_
  simp only [opBin, binQ_eq, rdAll]
  cases rd e x with
  | none => rfl
  | some q =>
    obtain ⟨a, e1⟩ := q
    simp only
    cases rd e1 y with
    | none => rfl
    | some q => obtain ⟨b, e2⟩ := q; simp only; cases binOf op a b <;> rfl
theorem loc_binb (neg : Bool) (x y : Rd) : Loc (opBinb neg x y) (slotsOf [x, y]) (movedsOf [x, y]) := by
  refine Loc.rds (fun vs _ => match vs with | [a, b] => (match a, b with | .d (.bool a), .d (.bool b) => some (.bool (match neg with | true => !(a == b) | false => a == b)) | _, _ => none) | _ => none) (fun _ _ _ _ _ h => h) fun e hs => ?_
  simp only [opBinb, rdAll]
  cases rd e x with
  | none => rfl
  | some q =>
    obtain ⟨a, e1⟩ := q
    simp only
    cases rd e1 y with
    | none => rfl
    | some q =>
      obtain ⟨b, e2⟩ := q
      simp only
      split <;> first | (cases neg <;> rfl) | simp_all
theorem loc_bina (neg : Bool) (ks : List Bool) (x y : Rd) : Loc (opBina neg ks x y) (slotsOf [x, y]) (movedsOf [x, y]) := by
  refine Loc.rds (fun vs _ => match vs with | [a, b] => (match a, b with | .agg a, .agg b => (match sameCells ks a b with | some t => some (.bool (match neg with | true => !t | false => t)) | none => none) | _, _ => none) | _ => none) (fun _ _ _ _ _ h => h) fun e hs => ?_
  simp only [opBina, rdAll]
  cases rd e x with
  | none => rfl
  | some q =>
    obtain ⟨a, e1⟩ := q
    simp only
    cases rd e1 y with
    | none => rfl
    | some q =>
      obtain ⟨b, e2⟩ := q
      simp only
      split
      · rename_i a b
        simp only
        cases sameCells ks a b <;> rfl
      · simp_all
theorem loc_un (op : UnOp) (x : Rd) : Loc (opUn op x) (slotsOf [x]) (movedsOf [x]) := by
  refine Loc.rds (fun vs _ => match vs with | [a] => unOf op a | _ => none) (fun _ _ _ _ _ h => h) fun e hs => ?_
  simp only [opUn, rdAll]
  cases rd e x with
  | none => rfl
  | some q => obtain ⟨a, e1⟩ := q; simp only; cases unOf op a <;> rfl
theorem loc_conv (k : IntKind) (x : Rd) : Loc (opConv k x) (slotsOf [x]) (movedsOf [x]) := by
  refine Loc.rds (fun vs _ => match vs with | [.d (.int _ n)] => some (.int k (wr k n)) | _ => none) (fun _ _ _ _ _ h => h) fun e hs => ?_
  simp only [opConv, rdAll]
  cases rd e x with
  | none => rfl
  | some q =>
    obtain ⟨a, e1⟩ := q
    cases a <;> try rfl
    rename_i d
    cases d <;> rfl
theorem loc_toStr (x : Rd) : Loc (opToStr x) (slotsOf [x]) (movedsOf [x]) := by
  refine Loc.rds (fun vs hs => match vs with | [v] => (match elems hs.heap v with | some xs => (match toBytes xs with | some s => some (.d (.str s)) | none => none) | none => none) | _ => none) (fun vs hs hs' v H h => ?_) fun e hs => ?_
  · cases vs with
    | nil => simp at h
    | cons a r =>
      cases r with
      | cons b r => simp at h
      | nil =>
        simp only at h ⊢
        split at h
        · rename_i xs hx
          simp only [H.elems hx]
          exact h
        · simp at h
  simp only [opToStr, rdAll]
  cases rd e x with
  | none => rfl
  | some q =>
    obtain ⟨a, e1⟩ := q
    simp only
    cases elems hs.heap a with
    | none => rfl
    | some xs => simp only; cases toBytes xs <;> rfl
theorem loc_mkslice (z : List D) (x y : Rd) : Loc (opMkslice z x y) (slotsOf [x, y]) (movedsOf [x, y]) := by
  refine Loc.rds (fun vs _ => match vs with | [n, c] => (match natUpTo c most with | some c => (match natUpTo n c with | some n => some (.own true z.length (List.replicate n z)) | none => none) | none => none) | _ => none) (fun _ _ _ _ _ h => h) fun e hs => ?_
  simp only [opMkslice, rdAll]
  cases rd e x with
  | none => rfl
  | some q =>
    obtain ⟨a, e1⟩ := q
    simp only
    cases rd e1 y with
    | none => rfl
    | some q =>
      obtain ⟨b, e2⟩ := q
      simp only
      cases natUpTo b most with
      | none => rfl
      | some c => simp only; cases natUpTo a c <;> rfl
theorem loc_fa (off : Nat) (p : Rd) : Loc (opFa off p) (slotsOf [p]) (movedsOf [p]) := by
  refine Loc.rds (fun vs _ => match vs with | [a] => addOff off a | _ => none) (fun _ _ _ _ _ h => h) fun e hs => ?_
  simp only [opFa, rdAll]
  cases rd e p with
  | none => rfl
  | some q => obtain ⟨a, e1⟩ := q; simp only; cases addOff off a <;> rfl
theorem loc_fld (off : Nat) (n : Option Nat) (x : Rd) : Loc (opFld off n x) (slotsOf [x]) (movedsOf [x]) := by
  refine Loc.rds (fun vs _ => match vs with | [.agg cs] => partOf n cs off | _ => none) (fun _ _ _ _ _ h => h) fun e hs => ?_
  simp only [opFld, rdAll]
  cases rd e x with
  | none => rfl
  | some q =>
    obtain ⟨a, e1⟩ := q
    cases a <;> try rfl
    rename_i cs
    simp only
    cases partOf n cs off <;> rfl
def pimOf (n k : Nat) (o : Option (List (List D))) : Option AV :=
  match o with
  | some xs => match xs[k]? with
    | some x => match Nat.beq x.length n with
      | true => some (.pim x 0)
      | false => none
    | none => none
  | none => none
def iaOf (n : Nat) (h : Heap) (k : Nat) (v : AV) : Option AV :=
  match v with
  | .sl id off len => match Nat.ble len k with
    | true => none
    | false => match get h id with
      | some (.arr m _) => match Nat.beq m n with
        | true => some (.pel id (off + k) 0)
        | false => none
      | some (.cells _) => match Nat.beq n 1 with
        | true => some (.ptr id (off + k))
        | false => none
      | _ => none
  | v => pimOf n k (elems h v)
theorem mono_ia {n k : Nat} {h h' : Heap} (H : HLe h h') {v u : AV} (g : iaOf n h k v = some u) : iaOf n h' k v = some u := by
  have other : pimOf n k (elems h v) = some u → pimOf n k (elems h' v) = some u := by
    intro g
    cases hx : elems h v with
    | none => rw [hx] at g; simp [pimOf] at g
    | some xs => rw [H.elems hx, ← hx]; exact g
  cases v <;> simp only [iaOf] at g ⊢ <;> try exact other g
  rename_i id off len
  cases hb : Nat.ble len k with
  | true => rw [hb] at g; simp at g
  | false =>
    rw [hb] at g
    simp only at g ⊢
    split at g
    · rename_i m ys hg
      simp only [H.arr hg]
      exact g
    · rename_i cs hg
      obtain ⟨cs', hg', _⟩ := H.cells hg
      simp only [hg']
      exact g
    · simp at g
theorem loc_ia (n : Nat) (x i : Rd) : Loc (opIa n x i) (slotsOf [x, i]) (movedsOf [x, i]) := by
  refine Loc.rds (fun vs hs => match vs with | [v, i] => (match natOf i with | some k => iaOf n hs.heap k v | none => none) | _ => none) (fun vs hs hs' v H h => ?_) fun e hs => ?_
  · split at h
    · rename_i a b
      cases hk : natOf b with
      | none => rw [hk] at h; simp at h
      | some k =>
        rw [hk] at h
        exact mono_ia H h
    · simp at h
  simp only [opIa, rdAll]
  cases rd e x with
  | none => rfl
  | some q =>
    obtain ⟨a, e1⟩ := q
    simp only
    cases rd e1 i with
    | none => rfl
    | some q =>
      obtain ⟨b, e2⟩ := q
      simp only
      cases natOf b with
      | none => rfl
      | some k =>
        simp only
        have other : ∀ xo : Option (List (List D)), (match xo with
            | some xs => match xs[k]? with
              | some x => match Nat.beq x.length n with
                | true => some ((.pim x 0 : AV), (⟨e2, hs⟩ : St))
                | false => none
              | none => none
            | none => none) = match pimOf n k xo with
              | none => none
              | some v => some (v, (⟨e2, hs⟩ : St)) := by
          intro xo
          cases xo with
          | none => rfl
          | some xs =>
            simp only [pimOf]
            cases xs[k]? with
            | none => rfl
            | some x => simp only; cases Nat.beq x.length n <;> rfl
        cases a <;> simp only [iaOf] <;> try (generalize elems hs.heap _ = xo; exact other xo)
        rename_i id off len
        cases Nat.ble len k with
        | true => rfl
        | false =>
          simp only
          cases get hs.heap id with
          | none => rfl
          | some o =>
            cases o with
            | cells cs => simp only; cases Nat.beq n 1 <;> rfl
            | arr m xs => simp only; cases Nat.beq m n <;> rfl
            | loop => rfl
theorem loc_iarr (len n : Nat) (p i : Rd) : Loc (opIarr len n p i) (slotsOf [p, i]) (movedsOf [p, i]) := by
  refine Loc.rds (fun vs _ => match vs with | [p, i] => (match natOf i with | some i => (match Nat.ble len i with | true => none | false => addOff (i * n) p) | none => none) | _ => none) (fun _ _ _ _ _ h => h) fun e hs => ?_
  simp only [opIarr, rdAll]
  cases rd e p with
  | none => rfl
  | some q =>
    obtain ⟨a, e1⟩ := q
    simp only
    cases rd e1 i with
    | none => rfl
    | some q =>
      obtain ⟨b, e2⟩ := q
      simp only
      cases natOf b with
      | none => rfl
      | some k =>
        simp only
        cases Nat.ble len k with
        | true => rfl
        | false => simp only; cases addOff (k * n) a <;> rfl
theorem loc_ix (len n : Nat) (ag : Bool) (x i : Rd) : Loc (opIx len n ag x i) (slotsOf [x, i]) (movedsOf [x, i]) := by
  refine Loc.rds (fun vs _ => match vs with | [.agg cs, i] => (match natOf i with | some i => (match Nat.ble len i with | true => none | false => partOf (optN ag n) cs (i * n)) | none => none) | _ => none) (fun _ _ _ _ _ h => h) fun e hs => ?_
  simp only [opIx, rdAll]
  cases rd e x with
  | none => rfl
  | some q =>
    obtain ⟨a, e1⟩ := q
    simp only
    cases hi : rd e1 i with
    | none => cases a <;> simp only [hi]
    | some q =>
      obtain ⟨b, e2⟩ := q
      cases a <;> try rfl
      rename_i cs
      simp only [hi]
      cases natOf b with
      | none => rfl
      | some k =>
        simp only
        cases Nat.ble len k with
        | true => rfl
        | false => simp only; cases partOf (optN ag n) cs (k * n) <;> rfl
theorem loc_ixs (x i : Rd) : Loc (opIxs x i) (slotsOf [x, i]) (movedsOf [x, i]) := by
  refine Loc.rds (fun vs _ => match vs with | [.d (.str s), i] => (match natOf i with | some i => (match s[i]? with | some b => some (.int .u8 (.ofNat b.toNat)) | none => none) | none => none) | _ => none) (fun _ _ _ _ _ h => h) fun e hs => ?_
  simp only [opIxs, rdAll]
  cases rd e x with
  | none => rfl
  | some q =>
    obtain ⟨a, e1⟩ := q
    simp only
    cases hi : rd e1 i with
    | none =>
      cases a <;> try simp only [hi]
      rename_i d
      cases d <;> simp only [hi]
    | some q =>
      obtain ⟨b, e2⟩ := q
      cases a <;> try rfl
      rename_i d
      cases d <;> try rfl
      rename_i s
      simp only [hi]
      cases natOf b with
      | none => rfl
      | some k => simp only; cases s[k]? <;> rfl
theorem loc_len (x : Rd) : Loc (opLen x) (slotsOf [x]) (movedsOf [x]) := by
  refine Loc.rds (fun vs _ => match vs with | [a] => (match lenOf a with | some n => some (.int .i64 (.ofNat n)) | none => none) | _ => none) (fun _ _ _ _ _ h => h) fun e hs => ?_
  simp only [opLen, rdAll]
  cases rd e x with
  | none => rfl
  | some q => obtain ⟨a, e1⟩ := q; simp only; cases lenOf a <;> rfl
theorem loc_cap (x : Rd) : Loc (opCap x) (slotsOf [x]) (movedsOf [x]) := by
  refine Loc.rds (fun vs _ => match vs with | [.nl] => some (.int .i64 (.ofNat 0)) | _ => none) (fun _ _ _ _ _ h => h) fun e hs => ?_
  simp only [opCap, rdAll]
  cases rd e x with
  | none => rfl
  | some q => obtain ⟨a, e1⟩ := q; cases a <;> rfl
theorem loc_minmax (b : Bool) (xs : List Rd) : Loc (opMinmax b xs) (slotsOf xs) (movedsOf xs) := by
  refine Loc.rds (fun vs _ => match vs with | .d (.int k n) :: vs => foldMM b (.d (.int k n)) vs | _ => none) (fun _ _ _ _ _ h => h) fun e hs => ?_
  simp only [opMinmax]
  cases rdAll e xs with
  | none => rfl
  | some q =>
    obtain ⟨vs, e1⟩ := q
    cases vs with
    | nil => rfl
    | cons v vs =>
      cases v <;> try rfl
      rename_i d
      cases d <;> try rfl
      rename_i k n
      simp only
      cases foldMM b (.d (.int k n)) vs <;> rfl
theorem rdAll_two (e : Env) : ∀ (a b : List Rd), rdAll e (a ++ b) = match rdAll e a with
    | none => none
    | some (x, e1) => match rdAll e1 b with
      | none => none
      | some (y, e2) => some (x ++ y, e2)
  | [], b => by
    simp only [List.nil_append, rdAll]
    cases rdAll e b with
    | none => rfl
    | some p => obtain ⟨y, e2⟩ := p; rfl
  | r :: a, b => by
    simp only [List.cons_append, rdAll]
    cases rd e r with
    | none => rfl
    | some p =>
      obtain ⟨v, e1⟩ := p
      simp only [rdAll_two e1 a b]
      cases rdAll e1 a with
      | none => rfl
      | some p =>
        obtain ⟨x, e2⟩ := p
        simp only
        cases rdAll e2 b with
        | none => rfl
        | some p => obtain ⟨y, e3⟩ := p; rfl
theorem rdAll_len : ∀ {rs : List Rd} {e e1 : Env} {vs : List AV}, rdAll e rs = some (vs, e1) → vs.length = rs.length
  | [], e, e1, vs, h => by simp only [rdAll, Option.some.injEq, Prod.mk.injEq] at h; obtain ⟨rfl, rfl⟩ := h; rfl
  | x :: rs, e, e1, vs, h => by
    simp only [rdAll] at h
    split at h
    · simp at h
    · split at h
      · simp at h
      · rename_i h2
        simp only [Option.some.injEq, Prod.mk.injEq] at h
        obtain ⟨rfl, rfl⟩ := h
        simp [rdAll_len h2]
theorem loc_mkfn (f : FuncId) (first caps : List Rd) : Loc (opMkfn f first caps) (slotsOf (first ++ caps)) (movedsOf (first ++ caps)) := by
  refine Loc.rds (fun vs _ => some (.fn f (shareAll (vs.take first.length)) (shareAll (vs.drop first.length)))) (fun _ _ _ _ _ h => h) fun e hs => ?_
  simp only [opMkfn, rdAll_two]
  cases ha : rdAll e first with
  | none => rfl
  | some p =>
    obtain ⟨x, e1⟩ := p
    simp only
    cases rdAll e1 caps with
    | none => rfl
    | some p =>
      obtain ⟨y, e2⟩ := p
      have hl := rdAll_len ha
      simp only [← hl, List.take_left, List.drop_left]
theorem loc_call (f : FuncId) (args : List Rd) : Loc (opCall r f args) (slotsOf args) (movedsOf args) := by
  refine Loc.rds (fun vs hs => callPure r f vs hs.heap) (fun vs hs hs' v H h => H.call h) fun e hs => ?_
  simp only [opCall]
  cases rdAll e args with
  | none => rfl
  | some q => obtain ⟨vs, e1⟩ := q; simp only; cases callPure r f vs hs.heap <;> rfl

theorem loc_quiet {v : VOp} {rs : List Rd} (h : quietRds v = some rs) : Loc (opF v r) (slotsOf rs) (movedsOf rs) := by
  unfold quietRds at h
  split at h <;> simp only [Option.some.injEq, reduceCtorEq] at h <;> subst h
  · exact loc_mov _
  · exact loc_build _ _
  · exact loc_mks _ _
  · exact loc_ld _ _
  · exact loc_nilck _
  · exact loc_bin _ _ _
  · exact loc_binb _ _ _
  · exact loc_bina _ _ _ _
  · exact loc_un _ _
  · exact loc_conv _ _
  · exact loc_toStr _
  · exact loc_mkslice _ _ _
  · exact loc_fa _ _
  · exact loc_fld _ _ _
  · exact loc_ia _ _ _
  · exact loc_iarr _ _ _ _
  · exact loc_ix _ _ _ _ _
  · exact loc_ixs _ _
  · exact loc_len _
  · exact loc_cap _
  · exact loc_minmax _ _
  · exact loc_mkfn _ _ _
  · exact loc_call _ _
end
end Go.Vm

/-
  REGIONS THAT DRAW THEIR ORDER (3): choices, slices, parts of tuples; instructions.
-/
namespace Go.Vm
section
variable {r : Rec}

theorem rdOpt_all (e : Env) (o : Option Rd) (rs : List Rd) : rdAll e (o.toList ++ rs) = match rdOpt e o with
    | none => none
    | some (vo, e1) => match rdAll e1 rs with
      | none => none
      | some (vs, e2) => some (vo.toList ++ vs, e2) := by
  cases o with
  | none =>
    simp only [rdOpt, Option.toList, List.nil_append]
    cases rdAll e rs with
    | none => rfl
    | some p => rfl
  | some x =>
    simp only [rdOpt, Option.toList, List.cons_append, List.nil_append, rdAll]
    cases rd e x with
    | none => rfl
    | some p =>
      obtain ⟨v, e1⟩ := p
      simp only
      cases rdAll e1 rs with
      | none => rfl
      | some p => rfl
def optV : Option Rd → List AV → Option (Option AV × List AV)
  | none, vs => some (none, vs)
  | some _, v :: vs => some (some v, vs)
  | some _, [] => none
theorem optV_rd {e e1 : Env} {o : Option Rd} {vo : Option AV} (h : rdOpt e o = some (vo, e1)) (vs : List AV) : optV o (vo.toList ++ vs) = some (vo, vs) := by
  cases o with
  | none => simp only [rdOpt, Option.some.injEq, Prod.mk.injEq] at h; obtain ⟨rfl, rfl⟩ := h; rfl
  | some x =>
    simp only [rdOpt] at h
    split at h
    · simp only [Option.some.injEq, Prod.mk.injEq] at h; obtain ⟨rfl, rfl⟩ := h; rfl
    · simp at h
def sliceV (m : Nat) (lo hi mx : Option Rd) (h : Heap) (vs : List AV) : Option AV :=
  match vs with
  | [] => none
  | v :: vs => match optV lo vs with
    | none => none
    | some (l, vs) => match optV hi vs with
      | none => none
      | some (hh, vs) => match optV mx vs with
        | none => none
        | some (k, _) => match okSl h m v with
          | true => sliceOf m v l hh k
          | false => none
theorem mono_slice {m : Nat} {lo hi mx : Option Rd} {h h' : Heap} (H : HLe h h') {vs : List AV} {u : AV} (g : sliceV m lo hi mx h vs = some u) : sliceV m lo hi mx h' vs = some u := by
  unfold sliceV at g ⊢
  split at g
  · simp at g
  · rename_i v vs
    cases h1 : optV lo vs with
    | none => rw [h1] at g; simp at g
    | some p =>
      obtain ⟨l, vs1⟩ := p
      rw [h1] at g
      simp only at g ⊢
      cases h2 : optV hi vs1 with
      | none => rw [h2] at g; simp at g
      | some p =>
        obtain ⟨hh, vs2⟩ := p
        rw [h2] at g
        simp only at g ⊢
        cases h3 : optV mx vs2 with
        | none => rw [h3] at g; simp at g
        | some p =>
          obtain ⟨k, vs3⟩ := p
          rw [h3] at g
          simp only at g ⊢
          cases h4 : okSl h m v with
          | false => rw [h4] at g; simp at g
          | true =>
            rw [h4] at g
            rw [H.okSl h4]
            exact g
theorem loc_slice (m : Nat) (x : Rd) (lo hi mx : Option Rd) : Loc (opSlice m x lo hi mx) (slotsOf (x :: (lo.toList ++ (hi.toList ++ (mx.toList ++ []))))) (movedsOf (x :: (lo.toList ++ (hi.toList ++ (mx.toList ++ []))))) := by
  refine Loc.rds (fun vs hs => sliceV m lo hi mx hs.heap vs) (fun vs hs hs' v H h => mono_slice H h) fun e hs => ?_
  simp only [opSlice, rdAll]
  cases rd e x with
  | none => rfl
  | some q =>
    obtain ⟨v, e1⟩ := q
    simp only
    rw [rdOpt_all]
    cases h1 : rdOpt e1 lo with
    | none => rfl
    | some q =>
      obtain ⟨l, e2⟩ := q
      simp only
      rw [rdOpt_all]
      cases h2 : rdOpt e2 hi with
      | none => rfl
      | some q =>
        obtain ⟨hh, e3⟩ := q
        simp only
        rw [rdOpt_all]
        cases h3 : rdOpt e3 mx with
        | none => rfl
        | some q =>
          obtain ⟨k, e4⟩ := q
          simp only [rdAll, sliceV, optV_rd h1, optV_rd h2, optV_rd h3]
          cases okSl hs.heap m v with
          | false => rfl
          | true => simp only; cases sliceOf m v l hh k <;> rfl

theorem moved_slot {x : Rd} {k : Nat} (h : k ∈ movedOf x) : k ∈ slotOf x := by
  cases x <;> simp_all [movedOf, slotOf]
theorem loc_pick (c a b : Rd) : Loc (opPick c a b) (slotsOf [c, a, b]) (movedsOf [c, a, b]) := by
  intro e hs v st1 hf
  unfold opPick at hf
  have hm : ∀ k, k ∈ movedsOf [c, a, b] ↔ (k ∈ movedOf c ∨ k ∈ movedOf a ∨ k ∈ movedOf b) := fun k => by simp [movedsOf]
  have hsl : ∀ k, k ∈ slotsOf [c, a, b] ↔ (k ∈ slotOf c ∨ k ∈ slotOf a ∨ k ∈ slotOf b) := fun k => by simp [slotsOf]
  split at hf
  · rename_i tb e1 h1
    obtain ⟨s1, g1, l1⟩ := rd_loc h1
    have key : ∀ x, (x = a ∨ x = b) → ∀ u e2, rd e1 x = some (u, e2) → (∀ e' e1' e2' hs', rd e' c = some (.d (.bool tb), e1') → rd e1' x = some (u, e2') → opPick c a b ⟨e', hs'⟩ = some (u, ⟨e2', hs'⟩)) →
        (⟨e2, hs⟩ : St).hs = hs ∧ (Srt e → Srt e2) ∧ (∀ k, k ∉ movedsOf [c, a, b] → get e2 k = get e k) ∧
        ∀ e' hs', (∀ k ∈ slotsOf [c, a, b], get e' k = get e k) → HLe hs.heap hs'.heap → ∃ e1', opPick c a b ⟨e', hs'⟩ = some (u, ⟨e1', hs'⟩) ∧ (∀ k, k ∉ movedsOf [c, a, b] → get e1' k = get e' k) ∧ ∀ k ∈ movedsOf [c, a, b], get e1' k = get e2 k := by
      intro x hx u e2 h2 hback
      obtain ⟨s2, g2, l2⟩ := rd_loc h2
      have hbs : ∀ k, k ∈ slotOf x → k ∈ slotsOf [c, a, b] := fun k hk => (hsl k).2 (by rcases hx with rfl | rfl <;> simp [hk])
      have hbm : ∀ k, k ∈ movedOf x → k ∈ movedsOf [c, a, b] := fun k hk => (hm k).2 (by rcases hx with rfl | rfl <;> simp [hk])
      have hms : ∀ k, k ∈ movedsOf [c, a, b] → k ∈ slotsOf [c, a, b] := fun k hk => (hsl k).2 (((hm k).1 hk).imp moved_slot (Or.imp moved_slot moved_slot))
      refine ⟨rfl, fun h => s2 (s1 h), fun k hk => ?_, fun e' hs' he _ => ?_⟩
      · rw [g2, if_neg (fun h => hk (hbm k h)), g1, if_neg (fun h => hk ((hm k).2 (.inl h)))]
      · obtain ⟨e1', h1', g1'⟩ := l1 e' fun k hk => he k ((hsl k).2 (.inl hk))
        obtain ⟨e2', h2', g2'⟩ := l2 e1' fun k hk => by
          rw [g1', g1]
          split
          · rfl
          · exact he k (hbs k hk)
        refine ⟨e2', hback e' e1' e2' hs' h1' h2', fun k hk => ?_, fun k hk => ?_⟩
        · rw [g2', if_neg (fun h => hk (hbm k h)), g1', if_neg (fun h => hk ((hm k).2 (.inl h)))]
        · rw [g2', g2, g1', g1]
          split
          · rfl
          · split
            · rfl
            · exact he k (hms k hk)
    cases tb with
    | true =>
      simp only at hf
      split at hf
      · rename_i u e2 h2
        simp only [Option.some.injEq, Prod.mk.injEq] at hf
        obtain ⟨rfl, rfl⟩ := hf
        exact key a (.inl rfl) _ _ h2 fun e' e1' e2' hs' k1 k2 => by unfold opPick; simp only [k1, k2]
      · simp at hf
    | false =>
      simp only at hf
      split at hf
      · rename_i u e2 h2
        simp only [Option.some.injEq, Prod.mk.injEq] at hf
        obtain ⟨rfl, rfl⟩ := hf
        exact key b (.inr rfl) _ _ h2 fun e' e1' e2' hs' k1 k2 => by unfold opPick; simp only [k1, k2]
      · simp at hf
  · simp at hf
theorem loc_ext (j : Nat) (mv : Bool) (i : Nat) : Loc (opExt j mv i) [j] (if mv then [j] else []) := by
  intro e hs v st1 hf
  unfold opExt at hf
  split at hf
  · rename_i vs hvs
    split at hf
    · rename_i u hu
      cases mv with
      | true =>
        simp only [Option.some.injEq, Prod.mk.injEq] at hf
        obtain ⟨rfl, rfl⟩ := hf
        refine ⟨rfl, fun h => h.put _ _, fun k hk => by rw [get_put, if_neg (by simpa using hk)], fun e' hs' he _ => ⟨put e' j (.tup (vs.set i .junk)), ?_, fun k hk => by rw [get_put, if_neg (by simpa using hk)], fun k hk => ?_⟩⟩
        · have := he j (by simp)
          simp only [opExt, this, hvs, hu]
        · simp only [if_true, List.mem_singleton] at hk
          subst hk
          rw [get_put, get_put, if_pos rfl, if_pos rfl]
      | false =>
        simp only [Option.some.injEq, Prod.mk.injEq] at hf
        obtain ⟨rfl, rfl⟩ := hf
        refine ⟨rfl, fun h => h, fun k _ => rfl, fun e' hs' he _ => ⟨e', ?_, fun k _ => rfl, fun k hk => by simp at hk⟩⟩
        have := he j (by simp)
        simp only [opExt, this, hvs, hu]
    · simp at hf
  · simp at hf

def appV (m : Nat) (h : Heap) (vs : List AV) : Option AV :=
  match vs with
  | [b] => (match Go.Vm.elems h b with
    | some ys => (match okElems m ys with
      | true => (match Nat.ble ys.length most with
        | true => some (match ys with | [] => .nl | ys => .own true m ys)
        | false => none)
      | false => none)
    | none => none)
  | _ => none
theorem loc_appnl (m : Nat) (y : Rd) : Loc (opApp m (.c .nl) y) (slotsOf [y]) (movedsOf [y]) := by
  refine Loc.rds (fun vs hs => appV m hs.heap vs) (fun vs hs hs' v H h => ?_) fun e hs => ?_
  · unfold appV at h ⊢
    split at h
    · split at h
      · rename_i ys hy
        rw [H.elems hy]
        exact h
      · simp at h
    · simp at h
  · have h0 : rd e (.c .nl) = some (.nl, e) := rfl
    simp only [opApp, rdAll, h0]
    cases rd e y with
    | none => rfl
    | some q =>
      obtain ⟨b, e1⟩ := q
      simp only [appV]
      cases Go.Vm.elems hs.heap b with
      | none => rfl
      | some ys =>
        simp only
        cases okElems m ys with
        | false => rfl
        | true =>
          simp only [appendTo]
          cases Nat.ble ys.length most with
          | false => rfl
          | true => cases ys <;> rfl
theorem loc_foot {v : VOp} {R M : List Nat} (h : footOf v = some (R, M)) : Loc (opF v r) R M := by
  have base : (match quietRds v with | some rs => some (slotsOf rs, movedsOf rs) | none => none) = some (R, M) → Loc (opF v r) R M := by
    intro h
    split at h
    · rename_i rs hrs
      simp only [Option.some.injEq, Prod.mk.injEq] at h
      obtain ⟨rfl, rfl⟩ := h
      exact loc_quiet hrs
    · simp at h
  cases v <;> try exact base h
  · simp only [footOf, Option.some.injEq, Prod.mk.injEq] at h; obtain ⟨rfl, rfl⟩ := h; exact loc_pick _ _ _
  · simp only [footOf, Option.some.injEq, Prod.mk.injEq] at h; obtain ⟨rfl, rfl⟩ := h; exact loc_slice _ _ _ _ _
  · simp only [footOf, Option.some.injEq, Prod.mk.injEq] at h; obtain ⟨rfl, rfl⟩ := h; exact loc_ext _ _ _
  · rename_i m x y
    cases x <;> try exact base h
    rename_i c
    cases c <;> try exact base h
    simp only [footOf, Option.some.injEq, Prod.mk.injEq] at h; obtain ⟨rfl, rfl⟩ := h; exact loc_appnl _ _

/-! ### Instructions -/
def LocV (f : St → Option St) (R M : List Nat) : Prop :=
  ∀ e hs st1, f ⟨e, hs⟩ = some st1 → st1.hs = hs ∧ (Srt e → Srt st1.env) ∧ (∀ k, k ∉ M → get st1.env k = get e k) ∧
    ∀ e' hs', (∀ k ∈ R, get e' k = get e k) → HLe hs.heap hs'.heap → ∃ e1', f ⟨e', hs'⟩ = some ⟨e1', hs'⟩ ∧ (∀ k, k ∉ M → get e1' k = get e' k) ∧ ∀ k ∈ M, get e1' k = get st1.env k

theorem locV_foot {i : VI} {R M : List Nat} (h : footV i = some (R, M)) : LocV (viF r i) R M := by
  unfold footV at h
  split at h
  · simp at h
  · rename_i hth
    split at h
    · simp at h
    · rename_i R0 M0 hf
      simp only [Option.some.injEq, Prod.mk.injEq] at h
      obtain ⟨rfl, rfl⟩ := h
      have hl := loc_foot (r := r) hf
      have hM : ∀ k, k ∈ M0 → k ∈ (match i.dst with | some d => d :: M0 | none => M0) := fun k hk => by cases i.dst <;> simp [hk]
      have set : ∀ (v : AV) (st : St), (setDst i.dst v st).hs = st.hs ∧ (Srt st.env → Srt (setDst i.dst v st).env) ∧ ∀ k, get (setDst i.dst v st).env k = if i.dst = some k then some v else get st.env k := by
        intro v st
        cases hd : i.dst with
        | none => exact ⟨rfl, id, fun k => by simp [setDst]⟩
        | some d => exact ⟨rfl, fun h => h.put _ _, fun k => by
            simp only [setDst, get_put, Option.some.injEq]
            by_cases e : k = d
            · subst e; simp
            · rw [if_neg e, if_neg (fun h => e h.symm)]⟩
      have hd : ∀ k, k ∉ (match i.dst with | some d => d :: M0 | none => M0) → i.dst ≠ some k ∧ k ∉ M0 := fun k hk => by
        cases h : i.dst with
        | none => rw [h] at hk; exact ⟨by simp, hk⟩
        | some d =>
          rw [h] at hk
          simp only [List.mem_cons, not_or] at hk
          exact ⟨by simp only [ne_eq, Option.some.injEq]; exact fun e => hk.1 e.symm, hk.2⟩
      have hdm : ∀ k, k ∈ (match i.dst with | some d => d :: M0 | none => M0) → i.dst = some k ∨ k ∈ M0 := fun k hk => by
        cases h : i.dst with
        | none => rw [h] at hk; exact .inr hk
        | some d =>
          rw [h] at hk
          rcases List.mem_cons.1 hk with rfl | hk
          · exact .inl rfl
          · exact .inr hk
      have go : ∀ e hs st1, viGo r i ⟨e, hs⟩ = some st1 → st1.hs = hs ∧ (Srt e → Srt st1.env) ∧ (∀ k, k ∉ (match i.dst with | some d => d :: M0 | none => M0) → get st1.env k = get e k) ∧
          ∀ e' hs', (∀ k ∈ R0 ++ M0, get e' k = get e k) → HLe hs.heap hs'.heap → ∃ e1', viGo r i ⟨e', hs'⟩ = some ⟨e1', hs'⟩ ∧ (∀ k, k ∉ (match i.dst with | some d => d :: M0 | none => M0) → get e1' k = get e' k) ∧
            ∀ k ∈ (match i.dst with | some d => d :: M0 | none => M0), get e1' k = get st1.env k := by
        intro e hs st1 h
        unfold viGo at h
        simp only [hth] at h
        split at h
        · rename_i v st0 hv
          simp only [Option.some.injEq] at h; subst h
          obtain ⟨q1, q2, q3, q4⟩ := hl e hs v st0 hv
          obtain ⟨t1, t2, t3⟩ := set (firm v) st0
          refine ⟨t1.trans q1, fun h => t2 (q2 h), fun k hk => ?_, fun e' hs' he hle => ?_⟩
          · obtain ⟨a, b⟩ := hd k hk
            rw [t3, if_neg a, q3 k b]
          · obtain ⟨e1', p1, p2, p3⟩ := q4 e' hs' (fun k hk => he k (List.mem_append_left _ hk)) hle
            obtain ⟨u1, u2, u3⟩ := set (firm v) ⟨e1', hs'⟩
            refine ⟨(setDst i.dst (firm v) ⟨e1', hs'⟩).env, ?_, fun k hk => ?_, fun k hk => ?_⟩
            · unfold viGo
              simp only [hth, p1, Option.some.injEq]
              cases i.dst <;> rfl
            · obtain ⟨a, b⟩ := hd k hk
              rw [u3, if_neg a, p2 k b]
            · rw [u3, t3]
              split
              · rfl
              · rename_i hne
                exact p3 k ((hdm k hk).resolve_left hne)
        · simp at h
      have no : ∀ e hs, (setDst i.dst (.tup []) ⟨e, hs⟩).hs = hs ∧ (Srt e → Srt (setDst i.dst (.tup []) ⟨e, hs⟩).env) ∧ (∀ k, k ∉ (match i.dst with | some d => d :: M0 | none => M0) → get (setDst i.dst (.tup []) ⟨e, hs⟩).env k = get e k) ∧
          ∀ e' hs', (∀ k ∈ R0 ++ M0, get e' k = get e k) → (∀ k, k ∉ (match i.dst with | some d => d :: M0 | none => M0) → get (setDst i.dst (.tup []) ⟨e', hs'⟩).env k = get e' k) ∧
            ∀ k ∈ (match i.dst with | some d => d :: M0 | none => M0), get (setDst i.dst (.tup []) ⟨e', hs'⟩).env k = get (setDst i.dst (.tup []) ⟨e, hs⟩).env k := by
        intro e hs
        obtain ⟨t1, t2, t3⟩ := set (.tup []) ⟨e, hs⟩
        refine ⟨t1, t2, fun k hk => ?_, fun e' hs' he => ?_⟩
        · rw [t3, if_neg (hd k hk).1]
        · obtain ⟨u1, u2, u3⟩ := set (.tup []) ⟨e', hs'⟩
          refine ⟨fun k hk => by rw [u3, if_neg (hd k hk).1], fun k hk => ?_⟩
          rw [u3, t3]
          split
          · rfl
          · rename_i hne
            exact he k (List.mem_append_right _ ((hdm k hk).resolve_left hne))
      intro e hs st1 h
      unfold viF at h
      cases hg : i.guard with
      | none =>
        rw [hg] at h
        obtain ⟨q1, q2, q3, q4⟩ := go e hs st1 h
        refine ⟨q1, q2, q3, fun e' hs' he hle => ?_⟩
        obtain ⟨e1', p1, p2, p3⟩ := q4 e' hs' he hle
        exact ⟨e1', by unfold viF; rw [hg]; exact p1, p2, p3⟩
      | some sw =>
        obtain ⟨sl, want⟩ := sw
        rw [hg] at h
        simp only at h
        have hsl : ∀ e', (∀ k ∈ sl :: (R0 ++ M0), get e' k = get e k) → get e' sl = get e sl := fun e' he => he sl (.head _)
        have hre : ∀ e', (∀ k ∈ sl :: (R0 ++ M0), get e' k = get e k) → ∀ k ∈ R0 ++ M0, get e' k = get e k := fun e' he k hk => he k (.tail _ hk)
        split at h
        · rename_i b hb
          split at h
          · rename_i hbw
            obtain ⟨q1, q2, q3, q4⟩ := go e hs st1 h
            refine ⟨q1, q2, q3, fun e' hs' he hle => ?_⟩
            obtain ⟨e1', p1, p2, p3⟩ := q4 e' hs' (hre e' he) hle
            exact ⟨e1', by unfold viF; rw [hg]; simp only [hsl e' he, hb, hbw]; exact p1, p2, p3⟩
          · rename_i hbw
            simp only [Option.some.injEq] at h; subst h
            obtain ⟨q1, q2, q3, q4⟩ := no e hs
            refine ⟨q1, q2, q3, fun e' hs' he _ => ?_⟩
            obtain ⟨p2, p3⟩ := q4 e' hs' (hre e' he)
            refine ⟨(setDst i.dst (.tup []) ⟨e', hs'⟩).env, ?_, p2, p3⟩
            unfold viF; rw [hg]; simp only [hsl e' he, hb, hbw, Option.some.injEq]
            cases i.dst <;> rfl
        · rename_i hb
          simp only [Option.some.injEq] at h; subst h
          obtain ⟨q1, q2, q3, q4⟩ := no e hs
          refine ⟨q1, q2, q3, fun e' hs' he _ => ?_⟩
          obtain ⟨p2, p3⟩ := q4 e' hs' (hre e' he)
          refine ⟨(setDst i.dst (.tup []) ⟨e', hs'⟩).env, ?_, p2, p3⟩
          unfold viF; rw [hg]; simp only [hsl e' he, hb, Option.some.injEq]
          cases i.dst <;> rfl
        · simp at h

/-- Two instructions whose changes are apart may be swapped. -/
theorem swap_loc {f1 f2 : St → Option St} {R1 M1 R2 M2 : List Nat} (h1 : LocV f1 R1 M1) (h2 : LocV f2 R2 M2) (d1 : ∀ k ∈ M1, k ∉ R2 ∧ k ∉ M2) (d2 : ∀ k ∈ M2, k ∉ R1 ∧ k ∉ M1) {st st1 st2 : St} (hs : Srt st.env)
    (a : f1 st = some st1) (b : f2 st1 = some st2) : ∃ st1', f2 st = some st1' ∧ f1 st1' = some st2 := by
  obtain ⟨e, hs0⟩ := st
  obtain ⟨e1, hs1⟩ := st1
  obtain ⟨e2, hs2⟩ := st2
  obtain ⟨q1, q2, q3, q4⟩ := h1 e hs0 _ a
  simp only at q1
  subst q1
  obtain ⟨p1, p2, p3, p4⟩ := h2 e1 hs1 _ b
  simp only at p1
  subst p1
  obtain ⟨e1', k1, k2, k3⟩ := p4 e _ (fun k hk => (q3 k (fun hm => (d1 k hm).1 hk)).symm) (HLe.refl _)
  obtain ⟨_, sk1, _, _⟩ := h2 e hs2 _ k1
  obtain ⟨e2', m1, m2, m3⟩ := q4 e1' _ (fun k hk => k2 k fun hm => (d2 k hm).1 hk) (HLe.refl _)
  obtain ⟨_, sm1, _, _⟩ := h1 e1' hs2 _ m1
  refine ⟨⟨e1', hs2⟩, k1, ?_⟩
  rw [m1]
  congr 2
  refine srt_ext (sm1 (sk1 hs)) (p2 (q2 hs)) fun k => ?_
  by_cases hk1 : k ∈ M1
  · rw [m3 k hk1]
    exact (p3 k (d1 k hk1).2).symm
  · rw [m2 k hk1]
    by_cases hk2 : k ∈ M2
    · exact k3 k hk2
    · rw [k2 k hk2]
      exact ((p3 k hk2).trans (q3 k hk1)).symm
end
end Go.Vm

/-
  REGIONS THAT DRAW THEIR ORDER (4): whatever the order, the interpreter's is as good.
-/
namespace Go.Vm

theorem memN_mem {k : Nat} {l : List Nat} : memN k l = true ↔ k ∈ l := by
  induction l with
  | nil => simp [memN]
  | cons a l ih =>
    simp only [memN, List.mem_cons]
    split
    · rename_i h; rw [Nat.beq_eq] at h; simp [h]
    · rename_i h
      have : a ≠ k := by intro e; subst e; simp at h
      rw [ih]; exact ⟨.inr, fun h => h.resolve_left fun e => this e.symm⟩
theorem apartN_mem {a b : List Nat} (h : apartN a b = true) : ∀ k ∈ a, k ∉ b := by
  induction a with
  | nil => intro k hk; simp at hk
  | cons x a ih =>
    simp only [apartN, Bool.and_eq_true, Bool.not_eq_true'] at h
    intro k hk
    rcases List.mem_cons.1 hk with rfl | hk
    · intro hb; rw [memN_mem.2 hb] at h; simp at h
    · exact ih h.2 k hk

section
variable {P : Program} {g : Gh} {w : World} {t : Array Value} {O : Nat → Nat} {st st' : St} {r : Rec}

theorem maySwap_run {a b : VI} (h : maySwap a b = true) {st1 st2 : St} (hs : Srt st.env) (h1 : viF r a st = some st1) (h2 : viF r b st1 = some st2) : ∃ st1', viF r b st = some st1' ∧ viF r a st1' = some st2 := by
  unfold maySwap at h
  split at h
  · rename_i R1 M1 R2 M2 e1 e2
    simp only [Bool.and_eq_true] at h
    obtain ⟨⟨k1, k2⟩, k3⟩ := h
    exact swap_loc (locV_foot (r := r) e1) (locV_foot (r := r) e2) (fun k hk => ⟨apartN_mem k1 k hk, apartN_mem k2 k hk⟩) (fun k hk => ⟨apartN_mem k3 k hk, fun h => apartN_mem k2 k h hk⟩) hs h1 h2
  · simp at h
theorem maySwap_srt {a b : VI} (h : maySwap a b = true) {st1 : St} (hs : Srt st.env) (h1 : viF r a st = some st1) : Srt st1.env := by
  unfold maySwap at h
  split at h
  · rename_i R1 M1 R2 M2 e1 e2
    obtain ⟨e, hs0⟩ := st
    exact (locV_foot (r := r) e1 e hs0 st1 h1).2.1 hs
  · simp at h

theorem move_front {vs : List VI} {i : Nat} {v : VI} (hv : vs[i]? = some v) {l2 : List Nat} : ∀ {l1 : List Nat} {st st' : St}, (∀ j ∈ l1, ∃ u, vs[j]? = some u ∧ maySwap u v = true) → Srt st.env →
    runL r vs (l1 ++ i :: l2) st = some st' → runL r vs (i :: (l1 ++ l2)) st = some st'
  | [], st, st', _, _, h => h
  | j :: l1, st, st', hj, hs, h => by
    obtain ⟨u, hu, hm⟩ := hj j (.head _)
    simp only [List.cons_append, runL, hu] at h
    split at h
    · simp at h
    · rename_i st1 h1
      have h2 := move_front hv (fun k hk => hj k (.tail _ hk)) (maySwap_srt hm hs h1) h
      simp only [runL, hv] at h2
      split at h2
      · simp at h2
      · rename_i st2 h3
        obtain ⟨st1', k1, k2⟩ := maySwap_run hm hs h1 h3
        simp only [runL, hv, k1, List.cons_append, hu, k2]
        exact h2

/-- What the check has seen. -/
structure DrawOK (P : Program) (n : Nat) (ops : Array Oper) (vs : List VI) : Prop where
  len : vs.length = ops.size
  vi : ∀ (i : Nat) (v : VI) (o : Oper), vs[i]? = some v → ops[i]? = some o → chkVI P n ops v o = true
  pair : ∀ (i j : Nat) (v u : VI) (o : Oper), j < i → vs[i]? = some v → vs[j]? = some u → ops[i]? = some o → hasEdge o j = true ∨ maySwap u v = true
  edge : ∀ (i : Nat) (o : Oper), ops[i]? = some o → ∀ e ∈ o.after, e.on < i

theorem chkOne_get {o : Oper} {v : VI} : ∀ {us : List VI} {k : Nat}, chkOne o v k us = true → ∀ (j : Nat) (u : VI), us[j]? = some u → hasEdge o (k + j) = true ∨ maySwap u v = true
  | [], k, _, j, u, h => by simp at h
  | x :: us, k, h, j, u, hu => by
    simp only [chkOne, Bool.and_eq_true, Bool.or_eq_true] at h
    cases j with
    | zero => simp at hu; subst hu; simpa using h.1
    | succ j => have := chkOne_get h.2 j u (by simpa using hu); rw [show k + (j + 1) = k + 1 + j by omega]; exact this
theorem chkDraws_get {n : Nat} {ops : Array Oper} : ∀ {vs : List VI} {os : List Oper} {prev : List VI}, chkDraws P n ops prev vs os = true → vs.length = os.length ∧
    ∀ (i : Nat) (v : VI) (o : Oper), vs[i]? = some v → os[i]? = some o → chkVI P n ops v o = true ∧ (∀ (j : Nat) (u : VI), (prev ++ vs)[j]? = some u → j < prev.length + i → hasEdge o j = true ∨ maySwap u v = true) ∧
      ∀ e ∈ o.after, e.on < prev.length + i
  | [], [], prev, _ => ⟨rfl, fun i v o h => by simp at h⟩
  | x :: vs, p :: os, prev, h => by
    simp only [chkDraws, Bool.and_eq_true] at h
    obtain ⟨⟨⟨h1, h2⟩, h3⟩, h4⟩ := h
    obtain ⟨k1, k2⟩ := chkDraws_get h4
    refine ⟨by simp [k1], fun i v o hv ho => ?_⟩
    cases i with
    | zero =>
      simp only [List.getElem?_cons_zero, Option.some.injEq] at hv ho
      subst hv ho
      refine ⟨h1, fun j u hu hj => ?_, fun e he => ?_⟩
      · rw [List.getElem?_append_left (by omega)] at hu
        have := chkOne_get h2 j u hu
        rwa [Nat.zero_add] at this
      · have := List.all_eq_true.1 h3 e (Array.mem_toList_iff.2 he)
        rw [Nat.blt_eq] at this; omega
    | succ i =>
      simp only [List.getElem?_cons_succ] at hv ho
      obtain ⟨q1, q2, q3⟩ := k2 i v o hv ho
      refine ⟨q1, fun j u hu hj => q2 j u (by simpa using hu) (by simp; omega), fun e he => by have := q3 e he; simp at this; omega⟩
  | [], _ :: _, _, h => by simp [chkDraws] at h
  | _ :: _, [], _, h => by simp [chkDraws] at h
theorem drawOK {n : Nat} {ops : Array Oper} {vs : List VI} (h : chkDraws P n ops [] vs ops.toList = true) : DrawOK P n ops vs := by
  obtain ⟨k1, k2⟩ := chkDraws_get h
  have hl : vs.length = ops.size := by rw [k1]; simp
  have hget : ∀ (i : Nat) (o : Oper), ops[i]? = some o → ops.toList[i]? = some o := fun i o h => by rw [Array.getElem?_toList]; exact h
  refine ⟨hl, fun i v o hv ho => (k2 i v o hv (hget i o ho)).1, fun i j v u o hji hv hu ho => (k2 i v o hv (hget i o ho)).2.1 j u (by simpa using hu) (by simpa using hji), fun i o ho e he => ?_⟩
  have hi : i < vs.length := by
    rw [hl]
    rcases Nat.lt_or_ge i ops.size with h | h
    · exact h
    · rw [Array.getElem?_eq_none h] at ho; simp at ho
  have := (k2 i vs[i] o (by simp) (hget i o ho)).2.2 e he
  simpa using this

theorem binds_wide (m : Region.Mode) {e : Edge} (h : wideGround e.ground = true) : Region.binds m e = true := by
  unfold Region.binds
  unfold wideGround at h
  split at h <;> simp_all

/-- Which indices are left. -/
structure Left (n : Nat) (listed : Array Bool) (rem : List Nat) : Prop where
  srt : rem.Pairwise (· < ·)
  lt : ∀ i ∈ rem, i < n
  size : listed.size = n
  mem : ∀ i, i < n → (i ∈ rem ↔ listed.getD i true = false)

theorem go_sim {ro : Option Nat} (hr : CallSim P r) (hcs : CodeSim P r) {n : Nat} {ops : Array Oper} {vs : List VI} (hok : DrawOK P n ops vs) {Q : Exit → Act → World → Prop} (ds : List Deferred) (m : Region.Mode) :
    ∀ {fuel : Nat} {rem : List Nat}, rem.length = fuel → ∀ {tt : Nat} {listed : Array Bool}, Left ops.size listed rem → ∀ {g : Gh} {w : World} {t : Array Value} {O : Nat → Nat} {st st' : St}, t.size = n → S P g w st t O → runL r vs rem st = some st' →
      (∀ w' t' g' O', Goes P g w t O st' t' w' g' O' → Q .normal ⟨t', ds⟩ w') → wpOpsIn (FR ro) 0 P ops Q (Region.linearise.go m ops fuel tt listed []) ⟨t, ds⟩ w
  | 0, rem, hf, tt, listed, hleft, g, w, t, O, st, st', hn, s, h, hq => by
    have : rem = [] := List.eq_nil_of_length_eq_zero hf
    subst this
    simp only [runL, Option.some.injEq] at h
    subst h
    exact hq _ _ _ _ (Goes.refl s)
  | fuel + 1, rem, hf, tt, listed, hleft, g, w, t, O, st, st', hn, s, h, hq => by
    unfold Region.linearise.go
    simp only
    generalize hrs : ((List.range ops.size).filter fun i => !listed.getD i true && ((ops[i]?).map (·.after.all fun e => !Region.binds m e || listed.getD e.on false)).getD false) = rs
    have hmem : ∀ i, i ∈ rs ↔ i < ops.size ∧ listed.getD i true = false ∧ ∃ o, ops[i]? = some o ∧ ∀ e ∈ o.after, Region.binds m e = true → listed.getD e.on false = true := by
      intro i
      rw [← hrs, List.mem_filter, List.mem_range]
      constructor
      · rintro ⟨h1, h2⟩
        simp only [Bool.and_eq_true, Bool.not_eq_true'] at h2
        refine ⟨h1, h2.1, ops[i], by simp [h1], fun e he hb => ?_⟩
        have h3 := h2.2
        rw [Array.getElem?_eq_getElem h1] at h3
        simp only [Option.map_some, Option.getD_some] at h3
        have := Array.all_eq_true_iff_forall_mem.1 h3 e he
        simpa [hb] using this
      · rintro ⟨h1, h2, o, ho, h3⟩
        refine ⟨h1, ?_⟩
        simp only [Bool.and_eq_true, Bool.not_eq_true', h2, true_and, ho, Option.map_some, Option.getD_some]
        refine Array.all_eq_true_iff_forall_mem.2 fun e he => ?_
        cases hb : Region.binds m e with
        | false => simp
        | true => simp [h3 e he hb]
    -- the least that is left is ready
    have hne : rs ≠ [] := by
      cases rem with
      | nil => simp at hf
      | cons i rem =>
        have hi := hleft.lt i (.head _)
        have : i ∈ rs := (hmem i).2 ⟨hi, (hleft.mem i hi).1 (.head _), ops[i], by simp [hi], fun e he _ => by
          have hlt := hok.edge i ops[i] (by simp [hi]) e he
          have hen : e.on < ops.size := by omega
          have hnot : e.on ∉ i :: rem := by
            intro hm
            rcases List.mem_cons.1 hm with e1 | hm
            · omega
            · have := (List.pairwise_cons.1 hleft.srt).1 _ hm; omega
          have h2 : listed.getD e.on true ≠ false := fun h => hnot ((hleft.mem e.on hen).2 h)
          have hsz : e.on < listed.size := by rw [hleft.size]; exact hen
          simp [Array.getD, hsz] at h2 ⊢
          exact h2⟩
        intro h0; rw [h0] at this; simp at this
    have hlen : 0 < rs.length := List.length_pos_iff.2 hne
    have hlt := Nat.mod_lt tt hlen
    rw [List.getElem?_eq_getElem hlt]
    simp only
    generalize hi : rs[tt % rs.length] = i
    have hirs : i ∈ rs := by rw [← hi]; exact List.getElem_mem hlt
    obtain ⟨hin, hil, o, ho, hedges⟩ := (hmem i).1 hirs
    have hirem : i ∈ rem := (hleft.mem i hin).2 hil
    obtain ⟨l1, l2, rfl⟩ := List.append_of_mem hirem
    have hvl : i < vs.length := by rw [hok.len]; exact hin
    have hv : vs[i]? = some vs[i] := by simp
    have hp := List.pairwise_append.1 hleft.srt
    have hswap : ∀ j ∈ l1, ∃ u, vs[j]? = some u ∧ maySwap u vs[i] = true := by
      intro j hj
      have hji : j < i := hp.2.2 j hj i (.head _)
      have hjr : j ∈ l1 ++ i :: l2 := List.mem_append_left _ hj
      have hjn := hleft.lt j hjr
      have hjv : vs[j]? = some (vs[j]'(by rw [hok.len]; exact hjn)) := by simp
      refine ⟨_, hjv, (hok.pair i j _ _ o hji hv hjv ho).resolve_left fun he => ?_⟩
      unfold hasEdge at he
      obtain ⟨e, hem, heq⟩ := List.any_eq_true.1 he
      simp only [Bool.and_eq_true, Nat.beq_eq] at heq
      have h1 := hedges e (Array.mem_toList_iff.1 hem) (binds_wide m heq.2)
      have h2 := (hleft.mem j hjn).1 hjr
      rw [heq.1] at h1
      have hsz : j < listed.size := by rw [hleft.size]; exact hjn
      simp [Array.getD, hsz] at h1 h2
      rw [h1] at h2; simp at h2
    have h2 := move_front hv hswap s.se h
    simp only [runL, hv] at h2
    split at h2
    · simp at h2
    · rename_i st1 h3
      have hleft' : Left ops.size (listed.setIfInBounds i true) (l1 ++ l2) := by
        refine ⟨List.pairwise_append.2 ⟨hp.1, (List.pairwise_cons.1 hp.2.1).2, fun a ha b hb => hp.2.2 a ha b (.tail _ hb)⟩, fun k hk => hleft.lt k ?_, by simp [hleft.size], fun k hk => ?_⟩
        · rcases List.mem_append.1 hk with h | h
          · exact List.mem_append_left _ h
          · exact List.mem_append_right _ (.tail _ h)
        · have hsz : k < listed.size := by rw [hleft.size]; exact hk
          have hold := hleft.mem k hk
          simp only [Array.getD_eq_getD_getElem?, Array.getElem?_setIfInBounds] at hold ⊢
          by_cases e : i = k
          · subst e
            simp only [if_true, hsz, Option.getD_some, Bool.true_eq_false, iff_false]
            intro hm
            rcases List.mem_append.1 hm with h | h
            · have := hp.2.2 i h i (.head _); omega
            · have := (List.pairwise_cons.1 hp.2.1).1 i h; omega
          · simp only [e, if_false]
            rw [← hold]
            simp only [List.mem_append, List.mem_cons]
            constructor
            · rintro (h | h)
              · exact .inl h
              · exact .inr (.inr h)
            · rintro (h | h | h)
              · exact .inl h
              · exact absurd h.symm e
              · exact .inr h
      have hlen' : (l1 ++ l2).length = fuel := by simp at hf ⊢; omega
      have hacc := linearise_go_acc m ops fuel (tt / rs.length) (listed.setIfInBounds i true) [i]
      rw [hacc]
      simp only [List.reverse_cons, List.reverse_nil, List.nil_append, List.cons_append, wpOpsIn, ho]
      exact vi_sim (ro := ro) hr hcs hn s h3 (hok.vi i _ o hv ho) ds _ Q fun t' w' g' O' G =>
        go_sim hr hcs hok ds m hlen' hleft' (by rw [G.size, hn]) G.st h2 fun w2 t2 g2 O2 G2 => hq _ _ _ _ (G.trans G2)

theorem runL_ops {vs : List VI} : ∀ {l : List VI} {k : Nat} {st : St}, vs.drop k = l → runL r vs (List.range' k l.length) st = opsF r l st
  | [], k, st, _ => by simp [runL, opsF]
  | v :: l, k, st, h => by
    have hv : vs[k]? = some v := by have := congrArg (fun l => l[0]?) h; simpa using this
    have h' : vs.drop (k + 1) = l := by have := congrArg (fun l => l.drop 1) h; simpa [List.drop_drop] using this
    simp only [List.length_cons, List.range'_succ, runL, hv, opsF]
    cases viF r v st with
    | none => rfl
    | some st1 => exact runL_ops h'

theorem draw_sim {ro : Option Nat} (hr : CallSim P r) (hcs : CodeSim P r) {n : Nat} {ops : Array Oper} {vs : List VI} (ds : List Deferred) (h : chkDraws P n ops [] vs ops.toList = true) {Q : Exit → Act → World → Prop} {id : Nat} (hn : t.size = n)
    (s : S P g w st t O) (hrun : opsF r vs st = some st') (hq : ∀ w' t' g' O', Goes P g w t O st' t' w' g' O' → Q .normal ⟨t', ds⟩ w') : (Code.region id ops true).wpIn (FR ro) 0 P Q ⟨t, ds⟩ w := by
  have hok := drawOK h
  refine wpIn_region_draw fun tt => ?_
  have hx : Ext g w g w.drew fun _ => False := Ext.drew _ _ _
  have sd := s.extF hx rfl s.pmlt
  have hrun' : runL r vs (List.range ops.size) st = some st' := by
    rw [← hok.len, List.range_eq_range']
    rw [runL_ops (r := r) (vs := vs) (l := vs) (k := 0) rfl]
    exact hrun
  have hleft : Left ops.size (Array.replicate ops.size false) (List.range ops.size) := by
    refine ⟨List.pairwise_lt_range, fun i hi => List.mem_range.1 hi, by simp, fun i hi => ?_⟩
    simp [hi, Array.getD]
  have key : ∀ m tt, wpOpsIn (FR ro) 0 P ops Q (Region.linearise m ops tt) ⟨t, ds⟩ w.drew := fun m tt =>
    go_sim (ro := ro) hr hcs hok ds m (by simp) hleft hn sd hrun' fun w' t' g' O' G => hq _ _ _ _ ⟨G.st, (hx.mono (T := fun b => O b ≠ 0) fun _ _ h => h.elim).trans G.ext fun _ _ h => h, G.old, G.size⟩
  unfold Region.schedule
  split
  · exact key _ _
  · exact key _ _
end
end Go.Vm

/-
  REGIONS THAT DRAW THEIR ORDER (5): takes that leave a copy, and new objects.
-/
namespace Go.Vm

/-- 'K hs ρ τ': run on 'hs' an operation makes 'τ' of the heap; on every heap of 'ρ' it does alike. -/
abbrev HK := HS → (HS → Prop) → (HS → HS) → Prop
def LocG (K : HK) (f : St → Option (AV × St)) (R M : List Nat) : Prop :=
  ∀ e hs v st1, f ⟨e, hs⟩ = some (v, st1) → ∃ ρ τ, K hs ρ τ ∧ st1.hs = τ hs ∧ (Srt e → Srt st1.env) ∧ (∀ k, k ∉ M → get st1.env k = get e k) ∧
    ∀ e' hs', (∀ k ∈ R, get e' k = get e k) → ρ hs' → ∃ e1', f ⟨e', hs'⟩ = some (v, ⟨e1', τ hs'⟩) ∧ (∀ k, k ∉ M → get e1' k = get e' k) ∧ ∀ k ∈ M, get e1' k = get st1.env k
def LocVG (K : HK) (f : St → Option St) (R M : List Nat) : Prop :=
  ∀ e hs st1, f ⟨e, hs⟩ = some st1 → ∃ ρ τ, K hs ρ τ ∧ st1.hs = τ hs ∧ (Srt e → Srt st1.env) ∧ (∀ k, k ∉ M → get st1.env k = get e k) ∧
    ∀ e' hs', (∀ k ∈ R, get e' k = get e k) → ρ hs' → ∃ e1', f ⟨e', hs'⟩ = some ⟨e1', τ hs'⟩ ∧ (∀ k, k ∉ M → get e1' k = get e' k) ∧ ∀ k ∈ M, get e1' k = get st1.env k

/-- It leaves the heap alone. -/
def KQ : HK := fun hs ρ τ => (∀ hs', HLe hs.heap hs'.heap → ρ hs') ∧ ∀ hs', τ hs' = hs'
def updO (h : Heap) (id : Nat) : Option Obj → Heap
  | none => h
  | some o => put h id o
/-- It takes from one object, and leaves a copy. -/
def KT : HK := fun hs ρ τ => (∃ id o0 o, get hs.heap id = some o0 ∧ (∀ hs', get hs'.heap id = some o0 → ρ hs') ∧ (∀ hs', τ hs' = ⟨updO hs'.heap id o, hs'.next⟩) ∧
  ∀ o1, o = some o1 → likeO o0 o1) ∨ (∀ hs', ρ hs') ∧ ∀ hs', τ hs' = hs'
def push : HS → List Obj → HS
  | hs, [] => hs
  | hs, o :: os => push ⟨put hs.heap hs.next o, hs.next + 1⟩ os
/-- It makes new objects. -/
def KA : HK := fun hs ρ τ => ∃ os, (∀ hs', HLe hs.heap hs'.heap → hs'.next = hs.next → ρ hs') ∧ ∀ hs', hs'.next = hs.next → τ hs' = push hs' os

/-- An append: it leaves the heap alone, or takes one array away. -/
def KP : HK := fun hs ρ τ => KQ hs ρ τ ∨ ∃ id, (∃ m xs, get hs.heap id = some (.arr m xs)) ∧ (∀ hs', HLe hs.heap hs'.heap → ρ hs') ∧ ∀ hs', τ hs' = ⟨del hs'.heap id, hs'.next⟩
theorem HLe.del {h : Heap} (id : Nat) : HLe (del h id) h := by
  intro k o hk
  rw [get_del] at hk
  split at hk
  · simp at hk
  · exact ⟨o, hk, by cases o <;> simp [likeO]⟩
theorem locP_app (m : Nat) (x y : Rd) : LocG KP (opApp m x y) (slotsOf [x, y]) (movedsOf [x, y]) := by
  intro e hs v st1 hf
  unfold opApp at hf
  split at hf
  · rename_i a e1 hr
    split at hf
    · rename_i b e2 hr2
      split at hf
      · rename_i ys hy
        split at hf
        · rename_i hok
          split at hf
          · rename_i w h1 ha
            simp only [Option.some.injEq, Prod.mk.injEq] at hf
            obtain ⟨rfl, rfl⟩ := hf
            have hall : rdAll e [x, y] = some ([a, b], e2) := by simp only [rdAll, hr, hr2]
            obtain ⟨s1, g1, l1⟩ := rdAll_loc hall
            have back : ∀ e' hs' h1', (∀ k ∈ slotsOf [x, y], get e' k = get e k) → HLe hs.heap hs'.heap → appendTo m hs'.heap a ys = some (w, h1') →
                ∃ e1', opApp m x y ⟨e', hs'⟩ = some (w, ⟨e1', ⟨h1', hs'.next⟩⟩) ∧ (∀ k, k ∉ movedsOf [x, y] → get e1' k = get e' k) ∧ ∀ k ∈ movedsOf [x, y], get e1' k = get e2 k := by
              intro e' hs' h1' he hle happ
              obtain ⟨e1', hr', g1'⟩ := l1 e' he
              refine ⟨e1', ?_, fun k hk => by rw [g1', if_neg hk], fun k hk => by rw [g1', g1, if_pos hk, if_pos hk]⟩
              simp only [rdAll] at hr'
              split at hr'
              · simp at hr'
              · rename_i a' ea ha'
                split at hr'
                · simp at hr'
                · rename_i vs eb hb
                  split at hb
                  · simp at hb
                  · rename_i b' ec hb'
                    simp only [Option.some.injEq, Prod.mk.injEq] at hb hr'
                    obtain ⟨rfl, rfl⟩ := hb
                    obtain ⟨hab, rfl⟩ := hr'
                    simp only [List.cons.injEq, and_true] at hab
                    obtain ⟨rfl, rfl⟩ := hab
                    unfold opApp
                    simp only [ha', hb', hle.elems hy, hok, happ]
            unfold appendTo at ha
            split at ha
            · simp at ha
            · rename_i hb
              split at ha
              · simp only [Option.some.injEq, Prod.mk.injEq] at ha
                obtain ⟨rfl, rfl⟩ := ha
                exact ⟨fun hs' => HLe hs.heap hs'.heap, id, .inl ⟨fun _ h => h, fun _ => rfl⟩, rfl, s1, fun k hk => by rw [g1, if_neg hk], fun e' hs' he hρ => back e' hs' _ he hρ (by unfold appendTo; simp only [hb, id])⟩
              · split at ha
                · rename_i hk
                  simp only [Option.some.injEq, Prod.mk.injEq] at ha
                  obtain ⟨rfl, rfl⟩ := ha
                  exact ⟨fun hs' => HLe hs.heap hs'.heap, id, .inl ⟨fun _ h => h, fun _ => rfl⟩, rfl, s1, fun k hk => by rw [g1, if_neg hk], fun e' hs' he hρ => back e' hs' _ he hρ (by unfold appendTo; simp only [hb, hk, id])⟩
                · simp at ha
              · rename_i id off len
                split at ha
                · rename_i k xs hg
                  split at ha
                  · rename_i hk
                    simp only [Option.some.injEq, Prod.mk.injEq] at ha
                    obtain ⟨rfl, rfl⟩ := ha
                    exact ⟨fun hs' => HLe hs.heap hs'.heap, fun hs' => ⟨Go.Vm.del hs'.heap id, hs'.next⟩, .inr ⟨id, ⟨_, _, hg⟩, fun _ h => h, fun _ => rfl⟩, rfl, s1, fun k hk => by rw [g1, if_neg hk], fun e' hs' he hρ => back e' hs' _ he hρ (by unfold appendTo; simp only [hb, hρ.arr hg, hk])⟩
                  · simp at ha
                · simp at ha
              · simp at ha
          · simp at hf
        · simp at hf
      · simp at hf
    · simp at hf
  · simp at hf

theorem likeO.symm {a b : Obj} (h : likeO a b) : likeO b a := by
  cases a <;> cases b <;> simp_all [likeO]
theorem locG_of {f : St → Option (AV × St)} {R M : List Nat} (h : Loc f R M) : LocG KQ f R M := by
  intro e hs v st1 hf
  obtain ⟨h1, h2, h3, h4⟩ := h e hs v st1 hf
  exact ⟨fun hs' => HLe hs.heap hs'.heap, id, ⟨fun _ h => h, fun _ => rfl⟩, h1, h2, h3, h4⟩
theorem locVG_of {f : St → Option St} {R M : List Nat} (h : LocV f R M) : LocVG KQ f R M := by
  intro e hs st1 hf
  obtain ⟨h1, h2, h3, h4⟩ := h e hs st1 hf
  exact ⟨fun hs' => HLe hs.heap hs'.heap, id, ⟨fun _ h => h, fun _ => rfl⟩, h1, h2, h3, h4⟩

/-! ### Takes -/
mutual
theorem share_share : ∀ (v : AV), share (share v) = share v
  | .own p m xs => by cases p <;> rfl
  | .agg cs => by simp only [share, shareAll_share cs]
  | .tup cs => by simp only [share, shareAll_share cs]
  | .junk | .d _ | .nl | .gl _ | .nilp | .ptr _ _ | .pel _ _ _ | .pim _ _ | .sl _ _ _ | .fn _ _ _ | .nilf | .yield _ => by rfl
theorem shareAll_share : ∀ (vs : List AV), shareAll (shareAll vs) = shareAll vs
  | [] => rfl
  | v :: r => by simp only [shareAll_cons, share_share v, shareAll_share r]
end
theorem takesAll_share : ∀ (vs : List AV), shareAll (takesAll 2 vs).2 = shareAll vs
  | [] => rfl
  | v :: r => by
    simp only [takesAll, shareAll_cons, takesAll_share r]
    have : share (takes 2 v).2 = share v := by
      simp only [takes]
      exact share_share v
    rw [this]
theorem take2 {h h1 : Heap} {n : Option Nat} {p v : AV} (hl : loadAt h n 2 p = some (v, h1)) :
    (∃ id o0 o, get h id = some o0 ∧ h1 = updO h id o ∧ (∀ o1, o = some o1 → likeO o0 o1) ∧ ∀ h', get h' id = some o0 → loadAt h' n 2 p = some (v, updO h' id o)) ∨
      h1 = h ∧ ∀ h', loadAt h' n 2 p = some (v, h') := by
  cases p <;> simp only [loadAt, reduceCtorEq] at hl
  · rename_i id off
    split at hl
    · rename_i cs hg
      cases n with
      | none =>
        simp only at hl
        split at hl
        · simp at hl
        · rename_i u hu
          simp only [Option.some.injEq, Prod.mk.injEq] at hl
          obtain ⟨rfl, rfl⟩ := hl
          refine .inl ⟨id, _, some (.cells (cs.set off (takes 2 u).2)), hg, rfl, fun o1 ho => ?_, fun h' he => ?_⟩
          · simp only [Option.some.injEq] at ho; subst ho
            simp only [likeO, shareAll_map, takes]
            rw [List.map_set]
            have : (cs.map share)[off]? = some (share u) := by rw [List.getElem?_map, hu]; rfl
            refine List.ext_getElem? fun i => ?_
            rw [List.getElem?_set]
            split
            · rename_i e
              subst e
              have hlt : off < (cs.map share).length := by
                rcases Nat.lt_or_ge off (cs.map share).length with h | h
                · exact h
                · rw [List.getElem?_eq_none h] at this; simp at this
              rw [if_pos hlt, this, share_share]
            · rfl
          · simp only [loadAt, he, hu]
            rfl
      | some m =>
        simp only at hl
        split at hl
        · rename_i hb
          simp only [Option.some.injEq, Prod.mk.injEq] at hl
          obtain ⟨rfl, rfl⟩ := hl
          refine .inl ⟨id, _, some (.cells (setCells cs off (takesAll 2 (sub cs off m)).2)), hg, rfl, fun o1 ho => ?_, fun h' he => ?_⟩
          · simp only [Option.some.injEq] at ho; subst ho
            simp only [likeO]
            have hb' : off + m ≤ cs.length := Nat.le_of_ble_eq_true hb
            have hlen : (takesAll 2 (sub cs off m)).2.length = (sub cs off m).length := by
              have := congrArg List.length (takesAll_share (sub cs off m))
              simpa only [shareAll_map, List.length_map] using this
            have hsub : (sub cs off m).length = m := by simp [sub]; omega
            have hsh := takesAll_share (sub cs off m)
            rw [shareAll_map, shareAll_map] at hsh
            simp only [setCells, shareAll_map, List.map_append, hsh, hlen, hsub]
            simp only [sub, List.map_take, List.map_drop]
            generalize cs.map share = l
            rw [← List.drop_drop, List.append_assoc, List.take_append_drop, List.take_append_drop]
          · simp only [loadAt, he, hb]
            rfl
        · simp at hl
    · simp at hl
  · rename_i id i off
    split at hl
    · rename_i m xs hg
      split at hl
      · rename_i x hx
        split at hl
        · rename_i u hu
          simp only [Option.some.injEq, Prod.mk.injEq] at hl
          obtain ⟨rfl, rfl⟩ := hl
          exact .inl ⟨id, _, none, hg, rfl, fun o1 ho => by simp at ho, fun h' he => by simp only [loadAt, he, hx, hu]; rfl⟩
        · simp at hl
      · simp at hl
    · simp at hl
  · split at hl
    · rename_i u hu
      simp only [Option.some.injEq, Prod.mk.injEq] at hl
      obtain ⟨rfl, rfl⟩ := hl
      exact .inr ⟨rfl, fun h' => by simp only [loadAt, hu]⟩
    · simp at hl
theorem locT_ld (n : Option Nat) (p : Rd) : LocG KT (opLd n 2 p) (slotOf p) (movedOf p) := by
  intro e hs v st1 hf
  unfold opLd at hf
  split at hf
  · rename_i u e1 hr
    split at hf
    · rename_i w h1 hl
      simp only [Option.some.injEq, Prod.mk.injEq] at hf
      obtain ⟨rfl, rfl⟩ := hf
      obtain ⟨s1, g1, l1⟩ := rd_loc hr
      rcases take2 hl with ⟨id, o0, o, k0, k1, k2, k3⟩ | ⟨k1, k3⟩
      · refine ⟨fun hs' => get hs'.heap id = some o0, fun hs' => ⟨updO hs'.heap id o, hs'.next⟩, .inl ⟨id, o0, o, k0, fun _ h => h, fun _ => rfl, k2⟩, by rw [k1], s1, fun k hk => by rw [g1, if_neg hk], fun e' hs' he hρ => ?_⟩
        obtain ⟨e1', hr', g1'⟩ := l1 e' he
        refine ⟨e1', ?_, fun k hk => by rw [g1', if_neg hk], fun k hk => by rw [g1', g1, if_pos hk, if_pos hk]⟩
        unfold opLd
        simp only [hr', k3 _ hρ]
      · refine ⟨fun _ => True, id, .inr ⟨fun _ => trivial, fun _ => rfl⟩, by rw [k1]; rfl, s1, fun k hk => by rw [g1, if_neg hk], fun e' hs' he _ => ?_⟩
        obtain ⟨e1', hr', g1'⟩ := l1 e' he
        refine ⟨e1', ?_, fun k hk => by rw [g1', if_neg hk], fun k hk => by rw [g1', g1, if_pos hk, if_pos hk]⟩
        unfold opLd
        simp only [hr', k3]
        rfl
    · simp at hf
  · simp at hf
end Go.Vm

/-
  REGIONS THAT DRAW THEIR ORDER (6): instructions, by what they do to the heap.
-/
namespace Go.Vm

section
variable {r : Rec} {K : HK}
theorem set_dst (d : Option Nat) (v : AV) (st : St) : (setDst d v st).hs = st.hs ∧ (Srt st.env → Srt (setDst d v st).env) ∧ ∀ k, get (setDst d v st).env k = if d = some k then some v else get st.env k := by
  cases hd : d with
  | none => exact ⟨rfl, id, fun k => by simp [setDst]⟩
  | some d => exact ⟨rfl, fun h => h.put _ _, fun k => by
      simp only [setDst, get_put, Option.some.injEq]
      by_cases e : k = d
      · subst e; simp
      · rw [if_neg e, if_neg (fun h => e h.symm)]⟩
theorem dsl_not {i : VI} {M0 : List Nat} {k : Nat} (hk : k ∉ dsl i M0) : i.dst ≠ some k ∧ k ∉ M0 := by
  unfold dsl at hk
  cases h : i.dst with
  | none => rw [h] at hk; exact ⟨by simp, hk⟩
  | some d =>
    rw [h] at hk
    simp only [List.mem_cons, not_or] at hk
    exact ⟨by simp only [ne_eq, Option.some.injEq]; exact fun e => hk.1 e.symm, hk.2⟩
theorem dsl_mem {i : VI} {M0 : List Nat} {k : Nat} (hk : k ∈ dsl i M0) : i.dst = some k ∨ k ∈ M0 := by
  unfold dsl at hk
  cases h : i.dst with
  | none => rw [h] at hk; exact .inr hk
  | some d =>
    rw [h] at hk
    rcases List.mem_cons.1 hk with rfl | hk
    · exact .inl rfl
    · exact .inr hk

theorem locVG_vi {i : VI} {R0 M0 : List Nat} {f : St → Option (AV × St)} (hf : ∀ st, viGo r i st = match f st with | some (v, st) => some (setDst i.dst v st) | none => none) (hl : LocG K f R0 M0) (hid : ∀ hs, K hs (fun _ => True) id) :
    LocVG K (viF r i) (gsl i (R0 ++ M0)) (dsl i M0) := by
  have go : ∀ e hs st1, viGo r i ⟨e, hs⟩ = some st1 → ∃ ρ τ, K hs ρ τ ∧ st1.hs = τ hs ∧ (Srt e → Srt st1.env) ∧ (∀ k, k ∉ dsl i M0 → get st1.env k = get e k) ∧
      ∀ e' hs', (∀ k ∈ R0 ++ M0, get e' k = get e k) → ρ hs' → ∃ e1', viGo r i ⟨e', hs'⟩ = some ⟨e1', τ hs'⟩ ∧ (∀ k, k ∉ dsl i M0 → get e1' k = get e' k) ∧ ∀ k ∈ dsl i M0, get e1' k = get st1.env k := by
    intro e hs st1 h
    rw [hf] at h
    split at h
    · rename_i v st0 hv
      simp only [Option.some.injEq] at h; subst h
      obtain ⟨ρ, τ, hK, q1, q2, q3, q4⟩ := hl e hs v st0 hv
      obtain ⟨t1, t2, t3⟩ := set_dst i.dst v st0
      refine ⟨ρ, τ, hK, t1.trans q1, fun h => t2 (q2 h), fun k hk => ?_, fun e' hs' he hρ => ?_⟩
      · obtain ⟨a, b⟩ := dsl_not hk
        rw [t3, if_neg a, q3 k b]
      · obtain ⟨e1', p1, p2, p3⟩ := q4 e' hs' (fun k hk => he k (List.mem_append_left _ hk)) hρ
        obtain ⟨u1, u2, u3⟩ := set_dst i.dst v ⟨e1', τ hs'⟩
        refine ⟨(setDst i.dst v ⟨e1', τ hs'⟩).env, ?_, fun k hk => ?_, fun k hk => ?_⟩
        · rw [hf, p1]
          simp only [Option.some.injEq]
          cases i.dst <;> rfl
        · obtain ⟨a, b⟩ := dsl_not hk
          rw [u3, if_neg a, p2 k b]
        · rw [u3, t3]
          split
          · rfl
          · rename_i hne
            exact p3 k ((dsl_mem hk).resolve_left hne)
    · simp at h
  have no : ∀ e hs, (setDst i.dst (.tup []) ⟨e, hs⟩).hs = hs ∧ (Srt e → Srt (setDst i.dst (.tup []) ⟨e, hs⟩).env) ∧ (∀ k, k ∉ dsl i M0 → get (setDst i.dst (.tup []) ⟨e, hs⟩).env k = get e k) ∧
      ∀ e' hs', (∀ k ∈ R0 ++ M0, get e' k = get e k) → (∀ k, k ∉ dsl i M0 → get (setDst i.dst (.tup []) ⟨e', hs'⟩).env k = get e' k) ∧
        ∀ k ∈ dsl i M0, get (setDst i.dst (.tup []) ⟨e', hs'⟩).env k = get (setDst i.dst (.tup []) ⟨e, hs⟩).env k := by
    intro e hs
    obtain ⟨t1, t2, t3⟩ := set_dst i.dst (.tup []) ⟨e, hs⟩
    refine ⟨t1, t2, fun k hk => ?_, fun e' hs' he => ?_⟩
    · rw [t3, if_neg (dsl_not hk).1]
    · obtain ⟨u1, u2, u3⟩ := set_dst i.dst (.tup []) ⟨e', hs'⟩
      refine ⟨fun k hk => by rw [u3, if_neg (dsl_not hk).1], fun k hk => ?_⟩
      rw [u3, t3]
      split
      · rfl
      · rename_i hne
        exact he k (List.mem_append_right _ ((dsl_mem hk).resolve_left hne))
  intro e hs st1 h
  unfold viF at h
  cases hg : i.guard with
  | none =>
    rw [hg] at h
    obtain ⟨ρ, τ, hK, q1, q2, q3, q4⟩ := go e hs st1 h
    refine ⟨ρ, τ, hK, q1, q2, q3, fun e' hs' he hρ => ?_⟩
    obtain ⟨e1', p1, p2, p3⟩ := q4 e' hs' (fun k hk => he k (by unfold gsl; rw [hg]; exact hk)) hρ
    exact ⟨e1', by unfold viF; rw [hg]; exact p1, p2, p3⟩
  | some sw =>
    obtain ⟨sl, want⟩ := sw
    rw [hg] at h
    simp only at h
    have hgs : gsl i (R0 ++ M0) = sl :: (R0 ++ M0) := by unfold gsl; rw [hg]
    rw [hgs]
    have hsl : ∀ e', (∀ k ∈ sl :: (R0 ++ M0), get e' k = get e k) → get e' sl = get e sl := fun e' he => he sl (.head _)
    have hre : ∀ e', (∀ k ∈ sl :: (R0 ++ M0), get e' k = get e k) → ∀ k ∈ R0 ++ M0, get e' k = get e k := fun e' he k hk => he k (.tail _ hk)
    split at h
    · rename_i b hb
      split at h
      · rename_i hbw
        obtain ⟨ρ, τ, hK, q1, q2, q3, q4⟩ := go e hs st1 h
        refine ⟨ρ, τ, hK, q1, q2, q3, fun e' hs' he hρ => ?_⟩
        obtain ⟨e1', p1, p2, p3⟩ := q4 e' hs' (hre e' he) hρ
        exact ⟨e1', by unfold viF; rw [hg]; simp only [hsl e' he, hb, hbw]; exact p1, p2, p3⟩
      · rename_i hbw
        simp only [Option.some.injEq] at h; subst h
        obtain ⟨q1, q2, q3, q4⟩ := no e hs
        refine ⟨fun _ => True, id, hid hs, q1, q2, q3, fun e' hs' he _ => ?_⟩
        obtain ⟨p2, p3⟩ := q4 e' hs' (hre e' he)
        refine ⟨(setDst i.dst (.tup []) ⟨e', hs'⟩).env, ?_, p2, p3⟩
        unfold viF; rw [hg]; simp only [hsl e' he, hb, hbw, Option.some.injEq]
        cases i.dst <;> rfl
    · rename_i hb
      simp only [Option.some.injEq] at h; subst h
      obtain ⟨q1, q2, q3, q4⟩ := no e hs
      refine ⟨fun _ => True, id, hid hs, q1, q2, q3, fun e' hs' he _ => ?_⟩
      obtain ⟨p2, p3⟩ := q4 e' hs' (hre e' he)
      refine ⟨(setDst i.dst (.tup []) ⟨e', hs'⟩).env, ?_, p2, p3⟩
      unfold viF; rw [hg]; simp only [hsl e' he, hb, Option.some.injEq]
      cases i.dst <;> rfl
    · simp at h

theorem KQ.id (hs : HS) : KQ hs (fun _ => True) _root_.id := ⟨fun _ _ => trivial, fun _ => rfl⟩
theorem KT.id (hs : HS) : KT hs (fun _ => True) _root_.id := .inr ⟨fun _ => trivial, fun _ => rfl⟩
theorem KP.id (hs : HS) : KP hs (fun _ => True) _root_.id := .inl (KQ.id hs)
theorem KA.id (hs : HS) : KA hs (fun _ => True) _root_.id := ⟨[], fun _ _ _ => trivial, fun _ _ => rfl⟩

/-! ### New objects -/
theorem push_next : ∀ (os : List Obj) (hs : HS), (push hs os).next = hs.next + os.length
  | [], _ => rfl
  | o :: os, hs => by simp only [push, push_next os, List.length_cons]; omega
theorem push_app : ∀ (a b : List Obj) (hs : HS), push hs (a ++ b) = push (push hs a) b
  | [], _, _ => rfl
  | o :: a, b, hs => by simp only [List.cons_append, push, push_app a b]
theorem thawOne_push (n : Nat) (v : AV) : ∃ u os, ∀ hs : HS, hs.next = n → thawOne hs v = (u, push hs os) := by
  have same : (∀ hs, thawOne hs v = (v, hs)) → ∃ u os, ∀ hs : HS, hs.next = n → thawOne hs v = (u, push hs os) := fun h => ⟨v, [], fun hs _ => h hs⟩
  cases v <;> try exact same fun hs => rfl
  rename_i p m xs
  cases p with
  | false => exact same fun hs => rfl
  | true =>
    cases hm : Nat.beq m 0 with
    | true => exact same fun hs => by simp only [thawOne, hm]
    | false =>
      refine ⟨.sl n 0 xs.length, [.arr m xs], fun hs hn => ?_⟩
      subst hn
      simp only [thawOne, hm, push]
theorem thawCell_push (n o : Nat) (v : AV) : ∃ u os, ∀ hs : HS, hs.next = n → thawCell hs o v = (u, push hs os) := by
  have one : (∀ hs, thawCell hs o v = thawOne hs v) → ∃ u os, ∀ hs : HS, hs.next = n → thawCell hs o v = (u, push hs os) := fun h => by
    obtain ⟨u, os, k⟩ := thawOne_push n v
    exact ⟨u, os, fun hs hn => by rw [h, k hs hn]⟩
  cases v <;> try exact one fun hs => rfl
  rename_i cs
  cases hc : cs[o]? with
  | none => exact ⟨.agg cs, [], fun hs _ => by simp only [thawCell, hc, push]⟩
  | some v =>
    obtain ⟨u, os, k⟩ := thawOne_push n v
    exact ⟨.agg (cs.set o u), os, fun hs hn => by simp only [thawCell, hc, k hs hn]⟩
theorem thawPart_push (n : Nat) (p : Nat × Nat) (v : AV) : ∃ u os, ∀ hs : HS, hs.next = n → thawPart hs p v = (u, push hs os) := by
  have one : (∀ hs, thawPart hs p v = thawCell hs p.2 v) → ∃ u os, ∀ hs : HS, hs.next = n → thawPart hs p v = (u, push hs os) := fun h => by
    obtain ⟨u, os, k⟩ := thawCell_push n p.2 v
    exact ⟨u, os, fun hs hn => by rw [h, k hs hn]⟩
  cases v <;> try exact one fun hs => rfl
  rename_i cs
  cases hc : cs[p.1]? with
  | none => exact ⟨.tup cs, [], fun hs _ => by simp only [thawPart, hc, push]⟩
  | some v =>
    obtain ⟨u, os, k⟩ := thawCell_push n p.2 v
    exact ⟨.tup (cs.set p.1 u), os, fun hs hn => by simp only [thawPart, hc, k hs hn]⟩
theorem thawParts_push : ∀ (th : List (Nat × Nat)) (n : Nat) (v : AV), ∃ u os, ∀ hs : HS, hs.next = n → thawParts th v hs = (u, push hs os)
  | [], n, v => ⟨v, [], fun hs _ => rfl⟩
  | p :: r, n, v => by
    obtain ⟨u, os, k⟩ := thawPart_push n p v
    obtain ⟨u2, os2, k2⟩ := thawParts_push r (n + os.length) u
    refine ⟨u2, os ++ os2, fun hs hn => ?_⟩
    simp only [thawParts, k hs hn]
    rw [k2 _ (by rw [push_next, hn]), push_app]
end
end Go.Vm

/-
  REGIONS THAT DRAW THEIR ORDER (7): which instructions may be moved ahead of which.
-/
namespace Go.Vm

def HKind.K : HKind → HK
  | .q => KQ
  | .t => KT
  | .a => KA
  | .p => KP
section
variable {r : Rec}
theorem vi_plain {i : VI} (h : i.th = []) (st : St) : viGo r i st = match (match opF i.op r st with | some (v, st) => some (firm v, st) | none => none) with | some (v, st) => some (setDst i.dst v st) | none => none := by
  unfold viGo
  cases opF i.op r st with
  | none => rfl
  | some p => obtain ⟨v, st⟩ := p; simp only [h]
theorem LocG.firm {K : HK} {f : St → Option (AV × St)} {R M : List Nat} (h : LocG K f R M) : LocG K (fun st => match f st with | some (v, st) => some (firm v, st) | none => none) R M := by
  intro e hs v st1 hf
  simp only at hf
  split at hf
  · rename_i u st0 hu
    simp only [Option.some.injEq, Prod.mk.injEq] at hf
    obtain ⟨rfl, rfl⟩ := hf
    obtain ⟨ρ, τ, h1, h2, h3, h4, h5⟩ := h e hs u st0 hu
    refine ⟨ρ, τ, h1, h2, h3, h4, fun e' hs' he hρ => ?_⟩
    obtain ⟨e1', q1, q2, q3⟩ := h5 e' hs' he hρ
    exact ⟨e1', by simp only [q1], q2, q3⟩
  · simp at hf
theorem locA_alloc (zs : List AV) : LocG KA (opAlloc zs) [] [] := by
  intro e hs v st1 hf
  simp only [opAlloc, Option.some.injEq, Prod.mk.injEq] at hf
  obtain ⟨rfl, rfl⟩ := hf
  refine ⟨fun hs' => hs'.next = hs.next, fun hs' => push hs' [.cells zs], ⟨[.cells zs], fun _ _ h => h, fun _ _ => rfl⟩, rfl, fun h => h, fun _ _ => rfl, fun e' hs' _ hn => ⟨e', ?_, fun _ _ => rfl, fun k hk => by simp at hk⟩⟩
  simp only [opAlloc, hn]
  rfl
theorem locA_box (x : Rd) : LocG KA (opBox x) (slotOf x) (movedOf x) := by
  intro e hs v st1 hf
  unfold opBox at hf
  split at hf
  · rename_i u e1 hr
    split at hf
    · rename_i hc
      simp only [Option.some.injEq, Prod.mk.injEq] at hf
      obtain ⟨rfl, rfl⟩ := hf
      obtain ⟨s1, g1, l1⟩ := rd_loc hr
      refine ⟨fun hs' => hs'.next = hs.next, fun hs' => push hs' [.cells u.cells], ⟨[.cells u.cells], fun _ _ h => h, fun _ _ => rfl⟩, rfl, s1, fun k hk => by rw [g1, if_neg hk], fun e' hs' he hn => ?_⟩
      obtain ⟨e1', hr', g1'⟩ := l1 e' he
      refine ⟨e1', ?_, fun k hk => by rw [g1', if_neg hk], fun k hk => by rw [g1', g1, if_pos hk, if_pos hk]⟩
      unfold opBox
      simp only [hr', hc, hn]
      rfl
    · simp at hf
  · simp at hf
theorem vi_thaw {i : VI} {p : Nat × Nat} {th : List (Nat × Nat)} (h : i.th = p :: th) (st : St) : viGo r i st = match (match opF i.op r st with | some (v, st) => some (firm (thawParts (p :: th) v st.hs).1, (⟨st.env, (thawParts (p :: th) v st.hs).2⟩ : St)) | none => none) with | some (v, st) => some (setDst i.dst v st) | none => none := by
  unfold viGo
  cases opF i.op r st with
  | none => rfl
  | some q => obtain ⟨v, st⟩ := q; simp only [h]
theorem LocG.thaw {f : St → Option (AV × St)} {R M : List Nat} (h : Loc f R M) (th : List (Nat × Nat)) : LocG KA (fun st => match f st with | some (v, st) => some (Go.Vm.firm (thawParts th v st.hs).1, (⟨st.env, (thawParts th v st.hs).2⟩ : St)) | none => none) R M := by
  intro e hs v st1 hf
  simp only at hf
  split at hf
  · rename_i u st0 hu
    simp only [Option.some.injEq, Prod.mk.injEq] at hf
    obtain ⟨rfl, rfl⟩ := hf
    obtain ⟨h1, h2, h3, h4⟩ := h e hs u st0 hu
    obtain ⟨w, os, hw⟩ := thawParts_push th hs.next u
    refine ⟨fun hs' => HLe hs.heap hs'.heap ∧ hs'.next = hs.next, fun hs' => push hs' os, ⟨os, fun _ a b => ⟨a, b⟩, fun _ _ => rfl⟩, ?_, h2, h3, fun e' hs' he hρ => ?_⟩
    · rw [h1, hw hs rfl]
    · obtain ⟨e1', q1, q2, q3⟩ := h4 e' hs' he hρ.1
      refine ⟨e1', ?_, q2, q3⟩
      simp only [q1, h1, hw hs rfl, hw hs' hρ.2]
  · simp at hf
theorem kind_loc {i : VI} {k : HKind} {R M : List Nat} (h : kindV i = some (k, R, M)) : LocVG k.K (viF r i) R M := by
  unfold kindV at h
  split at h
  · rename_i p th hth
    split at h
    · rename_i R0 M0 hf
      simp only [Option.some.injEq, Prod.mk.injEq] at h
      obtain ⟨rfl, rfl, rfl⟩ := h
      exact locVG_vi (vi_thaw hth) (LocG.thaw (loc_foot (r := r) hf) (p :: th)) KA.id
    · simp at h
  · rename_i hth
    split at h
    · rename_i n p ho
      simp only [Option.some.injEq, Prod.mk.injEq] at h
      obtain ⟨rfl, rfl, rfl⟩ := h
      exact locVG_vi (vi_plain hth) (LocG.firm (by rw [ho]; exact locT_ld n p)) KT.id
    · rename_i m x y ho
      simp only [Option.some.injEq, Prod.mk.injEq] at h
      obtain ⟨rfl, rfl, rfl⟩ := h
      exact locVG_vi (vi_plain hth) (LocG.firm (by rw [ho]; exact locP_app m _ y)) KP.id
    · rename_i m x y ho
      simp only [Option.some.injEq, Prod.mk.injEq] at h
      obtain ⟨rfl, rfl, rfl⟩ := h
      exact locVG_vi (vi_plain hth) (LocG.firm (by rw [ho]; exact locP_app m _ y)) KP.id
    · rename_i zs ho
      simp only [Option.some.injEq, Prod.mk.injEq] at h
      obtain ⟨rfl, rfl, rfl⟩ := h
      exact locVG_vi (vi_plain hth) (LocG.firm (by rw [ho]; exact locA_alloc zs)) KA.id
    · rename_i x ho
      simp only [Option.some.injEq, Prod.mk.injEq] at h
      obtain ⟨rfl, rfl, rfl⟩ := h
      exact locVG_vi (vi_plain hth) (LocG.firm (by rw [ho]; exact locA_box x)) KA.id
    · split at h
      · rename_i R0 M0 hf
        simp only [Option.some.injEq, Prod.mk.injEq] at h
        obtain ⟨rfl, rfl, rfl⟩ := h
        exact locVG_vi (vi_plain hth) (LocG.firm (locG_of (loc_foot (r := r) hf))) KQ.id
      · simp at h

/-! ### Heaps -/
structure Inv (st : St) : Prop where
  se : Srt st.env
  sh : Srt st.hs.heap
  fr : ∀ id, st.hs.next ≤ id → get st.hs.heap id = none
theorem updO_get (h : Heap) (id k : Nat) (o : Option Obj) : get (updO h id o) k = match o with | none => get h k | some o => if k = id then some o else get h k := by
  cases o with
  | none => rfl
  | some o => exact get_put h id k o
theorem updO_srt {h : Heap} (hs : Srt h) (id : Nat) (o : Option Obj) : Srt (updO h id o) := by
  cases o with
  | none => exact hs
  | some o => exact hs.put _ _
theorem push_old : ∀ (os : List Obj) (hs : HS) (k : Nat), k < hs.next → get (push hs os).heap k = get hs.heap k
  | [], _, _, _ => rfl
  | o :: os, hs, k, hk => by
    rw [push, push_old os _ k (by simp only; omega)]
    simp only [get_put]
    rw [if_neg (by omega)]
theorem push_fr : ∀ (os : List Obj) (hs : HS), (∀ id, hs.next ≤ id → get hs.heap id = none) → ∀ id, (push hs os).next ≤ id → get (push hs os).heap id = none
  | [], _, h => h
  | o :: os, hs, h => push_fr os _ fun id hid => by
    simp only at hid ⊢
    rw [get_put, if_neg (by omega)]
    exact h id (by omega)
theorem push_srt : ∀ (os : List Obj) (hs : HS), Srt hs.heap → Srt (push hs os).heap
  | [], _, h => h
  | o :: os, hs, h => push_srt os _ (h.put _ _)
theorem push_upd : ∀ (os : List Obj) (hs : HS) (id : Nat) (o : Option Obj), Srt hs.heap → id < hs.next → push ⟨updO hs.heap id o, hs.next⟩ os = ⟨updO (push hs os).heap id o, (push hs os).next⟩
  | [], _, _, _, _, _ => rfl
  | p :: os, hs, id, o, hsrt, hid => by
    have e : put (updO hs.heap id o) hs.next p = updO (put hs.heap hs.next p) id o := by
      refine srt_ext ((updO_srt hsrt id o).put _ _) (updO_srt (hsrt.put _ _) id o) fun k => ?_
      rw [get_put, updO_get, updO_get, get_put]
      cases o with
      | none => rfl
      | some o =>
        simp only
        by_cases a : k = hs.next
        · rw [if_pos a, if_neg (by omega), if_pos a]
        · rw [if_neg a, if_neg a]
    simp only [push]
    rw [e]
    exact push_upd os ⟨put hs.heap hs.next p, hs.next + 1⟩ id o (hsrt.put _ _) (by simp only; omega)
theorem HLe.push {hs : HS} (fr : ∀ id, hs.next ≤ id → get hs.heap id = none) (os : List Obj) : HLe hs.heap (push hs os).heap := by
  intro id o h
  refine ⟨o, ?_, .refl o⟩
  rw [push_old os hs id, h]
  rcases Nat.lt_or_ge id hs.next with h1 | h1
  · exact h1
  · rw [fr id h1] at h; simp at h
theorem HLe.upd {h : Heap} {id : Nat} {o0 : Obj} {o : Option Obj} (g : get h id = some o0) (ho : ∀ o1, o = some o1 → likeO o0 o1) : HLe h (updO h id o) ∧ HLe (updO h id o) h := by
  constructor
  · intro k x hx
    rw [updO_get]
    cases o with
    | none => exact ⟨x, hx, .refl x⟩
    | some o1 =>
      simp only
      by_cases e : k = id
      · subst e
        rw [g] at hx
        simp only [Option.some.injEq] at hx; subst hx
        exact ⟨o1, by rw [if_pos rfl], ho o1 rfl⟩
      · exact ⟨x, by rw [if_neg e, hx], .refl x⟩
  · intro k x hx
    rw [updO_get] at hx
    cases o with
    | none => exact ⟨x, hx, .refl x⟩
    | some o1 =>
      simp only at hx
      by_cases e : k = id
      · subst e
        rw [if_pos rfl] at hx
        simp only [Option.some.injEq] at hx; subst hx
        exact ⟨o0, g, (ho o1 rfl).symm⟩
      · rw [if_neg e] at hx
        exact ⟨x, hx, .refl x⟩

/-- What an instruction of a known kind leaves of the order of things. -/
theorem kind_inv {i : VI} {k : HKind} {R M : List Nat} (h : kindV i = some (k, R, M)) {st st1 : St} (inv : Inv st) (hr : viF r i st = some st1) : Inv st1 := by
  obtain ⟨e, hs⟩ := st
  obtain ⟨ρ, τ, hK, h1, h2, _, _⟩ := kind_loc (r := r) h e hs st1 hr
  refine ⟨h2 inv.se, ?_, ?_⟩
  · rw [h1]
    cases k with
    | q => rw [hK.2 hs]; exact inv.sh
    | t =>
      rcases hK with ⟨id, o0, o, g, _, ht, _⟩ | ⟨_, ht⟩
      · rw [ht]; exact updO_srt inv.sh _ _
      · rw [ht]; exact inv.sh
    | a => obtain ⟨os, _, ht⟩ := hK; rw [ht hs rfl]; exact push_srt _ _ inv.sh
    | p =>
      rcases hK with hK | ⟨id, _, _, ht⟩
      · rw [hK.2 hs]; exact inv.sh
      · rw [ht]; exact inv.sh.del _
  · rw [h1]
    cases k with
    | q => rw [hK.2 hs]; exact inv.fr
    | t =>
      rcases hK with ⟨id, o0, o, g, _, ht, _⟩ | ⟨_, ht⟩
      · rw [ht]
        intro k hk
        have := inv.fr k hk
        rw [updO_get]
        cases o with
        | none => exact this
        | some o1 =>
          simp only
          rw [if_neg, this]
          intro e; subst e
          simp only at this
          rw [this] at g; simp at g
      · rw [ht]; exact inv.fr
    | a => obtain ⟨os, _, ht⟩ := hK; rw [ht hs rfl]; exact push_fr _ _ inv.fr
    | p =>
      rcases hK with hK | ⟨id, _, _, ht⟩
      · rw [hK.2 hs]; exact inv.fr
      · rw [ht]
        intro k hk
        simp only
        rw [get_del]
        split
        · rfl
        · exact inv.fr k hk
theorem swap_kinds {u v : VI} (h : mayPass u v = true) {st st1 st2 : St} (inv : Inv st) (a : viF r u st = some st1) (b : viF r v st1 = some st2) : ∃ st1', viF r v st = some st1' ∧ viF r u st1' = some st2 := by
  unfold mayPass at h
  split at h
  · rename_i k1 R1 M1 k2 R2 M2 e1 e2
    simp only [Bool.and_eq_true] at h
    obtain ⟨⟨⟨hk, a1⟩, a2⟩, a3⟩ := h
    have d1 : ∀ k ∈ M1, k ∉ R2 ∧ k ∉ M2 := fun k hk => ⟨apartN_mem a1 k hk, apartN_mem a2 k hk⟩
    have d2 : ∀ k ∈ M2, k ∉ R1 ∧ k ∉ M1 := fun k hk => ⟨apartN_mem a3 k hk, fun h => apartN_mem a2 k h hk⟩
    have inv1 := kind_inv e1 inv a
    have inv2 := kind_inv e2 inv1 b
    obtain ⟨e, hs⟩ := st
    obtain ⟨ρ1, τ1, K1, q1, q2, q3, q4⟩ := kind_loc (r := r) e1 e hs _ a
    obtain ⟨en1, hs1⟩ := st1
    simp only at q1
    subst q1
    obtain ⟨ρ2, τ2, K2, p1, p2, p3, p4⟩ := kind_loc (r := r) e2 en1 (τ1 hs) _ b
    obtain ⟨en2, hs2⟩ := st2
    simp only at p1
    subst p1
    have key : ρ2 hs ∧ ρ1 (τ2 hs) ∧ τ1 (τ2 hs) = τ2 (τ1 hs) := by
      cases k1 with
      | a => simp [okKinds] at hk
      | p =>
        cases k2 with
        | t => simp [okKinds] at hk
        | a => simp [okKinds] at hk
        | p => simp [okKinds] at hk
        | q =>
          have ht : ∀ x, τ2 x = x := K2.2
          rcases K1 with K1 | ⟨id, _, hρ, hτ⟩
          · rw [K1.2 hs] at K2
            exact ⟨K2.1 _ (.refl _), by rw [ht]; exact K1.1 _ (.refl _), by rw [ht, ht]⟩
          · exact ⟨K2.1 _ (by rw [hτ]; exact .del id), by rw [ht]; exact hρ _ (.refl _), by rw [ht, ht]⟩
      | q =>
        have ht : ∀ x, τ1 x = x := K1.2
        cases k2 with
        | p => simp [okKinds] at hk
        | q =>
          rw [ht hs] at K2
          exact ⟨K2.1 _ (.refl _), by rw [K2.2]; exact K1.1 _ (.refl _), by rw [K2.2, K2.2, ht hs]⟩
        | t =>
          rw [ht hs] at K2
          rcases K2 with ⟨id, o0, o, g, hρ, hτ, hl⟩ | ⟨hρ, hτ⟩
          · exact ⟨hρ _ g, by rw [hτ]; exact K1.1 _ (HLe.upd g hl).1, by rw [ht, ht]⟩
          · exact ⟨hρ _, by rw [hτ]; exact K1.1 _ (.refl _), by rw [ht, ht]⟩
        | a =>
          rw [ht hs] at K2
          obtain ⟨os, hρ, hτ⟩ := K2
          exact ⟨hρ _ (.refl _) rfl, by rw [hτ _ rfl]; exact K1.1 _ (HLe.push inv.fr os), by rw [ht, ht]⟩
      | t =>
        cases k2 with
        | t => simp [okKinds] at hk
        | p => simp [okKinds] at hk
        | q =>
          have ht : ∀ x, τ2 x = x := K2.2
          rcases K1 with ⟨id, o0, o, g, hρ, hτ, hl⟩ | ⟨hρ, hτ⟩
          · exact ⟨K2.1 _ (by rw [hτ]; exact (HLe.upd g hl).2), by rw [ht]; exact hρ _ g, by rw [ht, ht]⟩
          · exact ⟨K2.1 _ (by rw [hτ]; exact .refl _), hρ _, by rw [ht, ht]⟩
        | a =>
          obtain ⟨os, hρ2, hτ2⟩ := K2
          rcases K1 with ⟨id, o0, o, g, hρ, hτ, hl⟩ | ⟨hρ, hτ⟩
          · have hn : (τ1 hs).next = hs.next := by rw [hτ]
            have hid : id < hs.next := by
              rcases Nat.lt_or_ge id hs.next with h1 | h1
              · exact h1
              · have := inv.fr id h1; simp only at this; rw [this] at g; simp at g
            refine ⟨hρ2 _ (by rw [hτ]; exact (HLe.upd g hl).2) hn.symm, ?_, ?_⟩
            · rw [hτ2 _ hn.symm]
              exact hρ _ (by rw [push_old os hs id hid]; exact g)
            · rw [hτ2 _ hn.symm, hτ2 _ rfl, hτ, hτ]
              exact (push_upd os hs id o inv.sh hid).symm
          · have hn : (τ1 hs).next = hs.next := by rw [hτ]
            exact ⟨hρ2 _ (by rw [hτ]; exact .refl _) hn.symm, hρ _, by rw [hτ, hτ]⟩
    obtain ⟨c1, c2, c3⟩ := key
    obtain ⟨e1', k1', k2', k3'⟩ := p4 e hs (fun k hk => (q3 k (fun hm => (d1 k hm).1 hk)).symm) c1
    obtain ⟨e2', m1, m2, m3⟩ := q4 e1' (τ2 hs) (fun k hk => k2' k fun hm => (d2 k hm).1 hk) c2
    have invA := kind_inv e2 inv k1'
    have invB := kind_inv e1 invA m1
    refine ⟨⟨e1', τ2 hs⟩, k1', ?_⟩
    rw [m1, c3]
    congr 2
    refine srt_ext invB.se inv2.se fun k => ?_
    by_cases hk1 : k ∈ M1
    · rw [m3 k hk1]
      exact (p3 k (d1 k hk1).2).symm
    · rw [m2 k hk1]
      by_cases hk2 : k ∈ M2
      · exact k3' k hk2
      · rw [k2' k hk2]
        exact ((p3 k hk2).trans (q3 k hk1)).symm
  · simp at h
end
end Go.Vm

/-
  REGIONS THAT DRAW THEIR ORDER (8): operations that do not look at the heap, and operations that meet on it.
-/
namespace Go.Vm

/-! ### What is the same -/
mutual
theorem eqD_eq : ∀ (a b : D), eqD a b = true → a = b
  | .int k n, b, h => by
    cases b <;> simp only [eqD, Bool.false_eq_true, Bool.and_eq_true, decide_eq_true_eq] at h
    rw [kindEq_eq h.1, h.2]
  | .bool x, b, h => by
    cases b <;> simp only [eqD, Bool.false_eq_true, beq_iff_eq] at h
    rw [h]
  | .str s, b, h => by
    cases b <;> simp only [eqD, Bool.false_eq_true, beq_iff_eq] at h
    rw [h]
  | .lst xs, b, h => by
    cases b <;> simp only [eqD, Bool.false_eq_true] at h
    rw [eqDss_eq xs _ h]
theorem eqDs_eq : ∀ (a b : List D), eqDs a b = true → a = b
  | [], b, h => by cases b <;> simp only [eqDs, Bool.false_eq_true] at h; rfl
  | x :: r, b, h => by
    cases b <;> simp only [eqDs, Bool.false_eq_true, Bool.and_eq_true] at h
    rw [eqD_eq x _ h.1, eqDs_eq r _ h.2]
theorem eqDss_eq : ∀ (a b : List (List D)), eqDss a b = true → a = b
  | [], b, h => by cases b <;> simp only [eqDss, Bool.false_eq_true] at h; rfl
  | x :: r, b, h => by
    cases b <;> simp only [eqDss, Bool.false_eq_true, Bool.and_eq_true] at h
    rw [eqDs_eq x _ h.1, eqDss_eq r _ h.2]
end
mutual
theorem eqAV_eq : ∀ (a b : AV), eqAV a b = true → a = b
  | .junk, b, h => by cases b <;> simp only [eqAV, Bool.false_eq_true] at h; rfl
  | .d x, b, h => by
    cases b <;> simp only [eqAV, Bool.false_eq_true] at h
    rw [eqD_eq x _ h]
  | .nl, b, h => by cases b <;> simp only [eqAV, Bool.false_eq_true] at h; rfl
  | .own p m xs, b, h => by
    cases b <;> simp only [eqAV, Bool.false_eq_true, Bool.and_eq_true, beq_iff_eq, Nat.beq_eq] at h
    rw [h.1.1, h.1.2, eqDss_eq xs _ h.2]
  | .gl n, b, h => by
    cases b <;> simp only [eqAV, Bool.false_eq_true, Nat.beq_eq] at h
    rw [h]
  | .agg cs, b, h => by
    cases b <;> simp only [eqAV, Bool.false_eq_true] at h
    rw [eqAVs_eq cs _ h]
  | .tup cs, b, h => by
    cases b <;> simp only [eqAV, Bool.false_eq_true] at h
    rw [eqAVs_eq cs _ h]
  | .nilp, b, h => by cases b <;> simp only [eqAV, Bool.false_eq_true] at h; rfl
  | .ptr _ _, b, h => by
    cases b <;> simp only [eqAV, Bool.false_eq_true, Bool.and_eq_true, Nat.beq_eq] at h
    rw [h.1, h.2]
  | .pel _ _ _, b, h => by
    cases b <;> simp only [eqAV, Bool.false_eq_true, Bool.and_eq_true, Nat.beq_eq] at h
    rw [h.1.1, h.1.2, h.2]
  | .pim cs _, b, h => by
    cases b <;> simp only [eqAV, Bool.false_eq_true, Bool.and_eq_true, Nat.beq_eq] at h
    rw [eqDs_eq cs _ h.1, h.2]
  | .sl _ _ _, b, h => by
    cases b <;> simp only [eqAV, Bool.false_eq_true, Bool.and_eq_true, Nat.beq_eq] at h
    rw [h.1.1, h.1.2, h.2]
  | .fn _ a c, b, h => by
    cases b <;> simp only [eqAV, Bool.false_eq_true, Bool.and_eq_true, Nat.beq_eq] at h
    rw [h.1.1, eqAVs_eq a _ h.1.2, eqAVs_eq c _ h.2]
  | .nilf, b, h => by cases b <;> simp only [eqAV, Bool.false_eq_true] at h; rfl
  | .yield _, b, h => by
    cases b <;> simp only [eqAV, Bool.false_eq_true, Nat.beq_eq] at h
    rw [h]
theorem eqAVs_eq : ∀ (a b : List AV), eqAVs a b = true → a = b
  | [], b, h => by cases b <;> simp only [eqAVs, Bool.false_eq_true] at h; rfl
  | x :: r, b, h => by
    cases b <;> simp only [eqAVs, Bool.false_eq_true, Bool.and_eq_true] at h
    rw [eqAV_eq x _ h.1, eqAVs_eq r _ h.2]
end
theorem eqO_eq {a b : Obj} (h : eqO a b = true) : a = b := by
  cases a <;> cases b <;> simp only [eqO, Bool.false_eq_true, Bool.and_eq_true, Nat.beq_eq] at h
  · rw [eqAVs_eq _ _ h]
  · rw [h.1, eqDss_eq _ _ h.2]

/-! ### A part of a heap -/
theorem get_mem {α : Type} : ∀ {l : List (Nat × α)} {k : Nat} {o : α}, get l k = some o → (k, o) ∈ l
  | [], k, o, h => by simp [get_nil] at h
  | (j, v) :: l, k, o, h => by
    rw [get_cons] at h
    split at h
    · rename_i e; subst e; simp only [Option.some.injEq] at h; subst h; exact .head _
    · exact .tail _ (get_mem h)
theorem onlyH_get (h : Heap) (k : Nat) : ∀ (ids : List Nat), get (onlyH ids h) k = if k ∈ ids then get h k else none
  | [] => by simp [onlyH, get_nil]
  | i :: r => by
    have ih := onlyH_get h k r
    simp only [onlyH]
    by_cases e : k = i
    · subst e
      cases hk : get h k with
      | some o => simp only [get_put, if_true, List.mem_cons, true_or]
      | none =>
        simp only [List.mem_cons, true_or, if_true]
        rw [ih, hk]
        split <;> rfl
    · have : (k ∈ i :: r) ↔ k ∈ r := by simp [e]
      simp only [this]
      cases get h i with
      | some o => simp only [get_put, if_neg e]; exact ih
      | none => exact ih
theorem HLe.only (h : Heap) (ids : List Nat) : HLe (onlyH ids h) h := by
  intro k o hk
  rw [onlyH_get] at hk
  split at hk
  · exact ⟨o, hk, .refl o⟩
  · simp at hk
theorem sameH_mem : ∀ {F : List Nat} {h h' : Heap}, sameH F h h' = true → ∀ {k : Nat} {o : Obj}, k ∈ F → get h k = some o → get h' k = some o
  | [], _, _, _, k, o, hm, _ => by simp at hm
  | i :: r, h, h', hs, k, o, hm, hk => by
    simp only [sameH, Bool.and_eq_true] at hs
    rcases List.mem_cons.1 hm with e | hm
    · subst e
      have h1 := hs.1
      rw [hk] at h1
      simp only at h1
      split at h1
      · rename_i o' hg; rw [hg, eqO_eq h1]
      · simp at h1
    · exact sameH_mem hs.2 hm hk
theorem sameH_one : ∀ {F : List Nat} {h h' : Heap} {i : Nat}, sameH F h h' = true → i ∈ F → (match get h i with
      | some o => (match get h' i with | some o' => eqO o o' | none => false)
      | none => true) = true
  | x :: F, h, h', i, hs, hi => by
    simp only [sameH, Bool.and_eq_true] at hs
    rcases List.mem_cons.1 hi with e | hi
    · subst e; exact hs.1
    · exact sameH_one hs.2 hi
theorem sameH_sub : ∀ {F' F : List Nat} {h h' : Heap}, sameH F h h' = true → (∀ k ∈ F', k ∈ F) → sameH F' h h' = true
  | [], _, _, _, _, _ => rfl
  | i :: r, F, h, h', hs, hsub => by
    simp only [sameH, Bool.and_eq_true]
    exact ⟨sameH_one hs (hsub i (.head _)), sameH_sub hs fun k hk => hsub k (.tail _ hk)⟩
/-- A call leaves alone what has been looked at. -/
theorem HLe.same {F ids : List Nat} {h h' : Heap} (hs : sameH F h h' = true) (hsub : ∀ k ∈ ids, k ∈ F) : HLe (onlyH ids h) (onlyH ids h') := by
  intro k o hk
  rw [onlyH_get] at hk
  split at hk
  · rename_i hm
    exact ⟨o, by rw [onlyH_get, if_pos hm]; exact sameH_mem hs (hsub k hm) hk, .refl o⟩
  · simp at hk

section
variable {r : Rec}
/-! ### What an instruction looks at, and what it changes -/
def LocW (f : St → Option St) (R M : List Nat) : Prop :=
  ∀ e hs st1, f ⟨e, hs⟩ = some st1 → (Srt e → Srt st1.env) ∧ (∀ k, k ∉ M → get st1.env k = get e k) ∧
    ∀ e', (∀ k ∈ R, get e' k = get e k) → ∃ e1', f ⟨e', hs⟩ = some ⟨e1', st1.hs⟩ ∧ (∀ k, k ∉ M → get e1' k = get e' k) ∧ ∀ k ∈ M, get e1' k = get st1.env k
theorem LocVG.w {K : HK} {f : St → Option St} {R M : List Nat} (h : LocVG K f R M) (hK : ∀ hs ρ τ, K hs ρ τ → ρ hs) : LocW f R M := by
  intro e hs st1 hf
  obtain ⟨ρ, τ, k, q1, q2, q3, q4⟩ := h e hs st1 hf
  refine ⟨q2, q3, fun e' he => ?_⟩
  rw [q1]
  exact q4 e' hs he (hK _ _ _ k)
theorem HKind.self (k : HKind) (hs : HS) (ρ : HS → Prop) (τ : HS → HS) (h : k.K hs ρ τ) : ρ hs := by
  cases k with
  | q => exact h.1 _ (.refl _)
  | t =>
    rcases h with ⟨id, o0, o, g, hρ, _⟩ | ⟨hρ, _⟩
    · exact hρ _ g
    · exact hρ _
  | a => obtain ⟨os, hρ, _⟩ := h; exact hρ _ (.refl _) rfl
  | p =>
    rcases h with h | ⟨id, _, hρ, _⟩
    · exact h.1 _ (.refl _)
    · exact hρ _ (.refl _)
def KW : HK := fun hs ρ _ => ρ hs
theorem KW.id (hs : HS) : KW hs (fun _ => True) _root_.id := trivial
theorem LocG.rdsW {f : St → Option (AV × St)} {rs : List Rd} (F : List AV → HS → Option (AV × HS))
    (h : ∀ e hs, f ⟨e, hs⟩ = match rdAll e rs with | none => none | some (vs, e1) => match F vs hs with | none => none | some (v, hs1) => some (v, ⟨e1, hs1⟩)) : LocG KW f (slotsOf rs) (movedsOf rs) := by
  intro e hs v st1 hf
  rw [h] at hf
  split at hf
  · simp at hf
  · rename_i vs e1 hr
    split at hf
    · simp at hf
    · rename_i u hs1 hu
      simp only [Option.some.injEq, Prod.mk.injEq] at hf
      obtain ⟨rfl, rfl⟩ := hf
      obtain ⟨s1, g1, l1⟩ := rdAll_loc hr
      refine ⟨fun hs' => hs' = hs, fun _ => hs1, rfl, rfl, s1, fun k hk => by rw [g1]; simp [hk], fun e' hs' he hρ => ?_⟩
      subst hρ
      obtain ⟨e1', hr', g1'⟩ := l1 e' he
      exact ⟨e1', by rw [h, hr']; simp only [hu], fun k hk => by rw [g1']; simp [hk], fun k hk => by rw [g1', g1]; simp [hk]⟩
theorem LocG.thawW {f : St → Option (AV × St)} {R M : List Nat} (h : LocG KW f R M) (th : List (Nat × Nat)) : LocG KW (fun st => match f st with | some (v, st) => some (Go.Vm.firm (thawParts th v st.hs).1, (⟨st.env, (thawParts th v st.hs).2⟩ : St)) | none => none) R M := by
  intro e hs v st1 hf
  simp only at hf
  split at hf
  · rename_i u st0 hu
    simp only [Option.some.injEq, Prod.mk.injEq] at hf
    obtain ⟨rfl, rfl⟩ := hf
    obtain ⟨ρ, τ, k, h1, h2, h3, h4⟩ := h e hs u st0 hu
    refine ⟨fun hs' => hs' = hs, fun _ => (thawParts th u st0.hs).2, rfl, rfl, h2, h3, fun e' hs' he hρ => ?_⟩
    subst hρ
    obtain ⟨e1', q1, q2, q3⟩ := h4 e' hs' he k
    refine ⟨e1', ?_, q2, q3⟩
    simp only [q1, h1]
  · simp at hf
theorem locG_w {v : VOp} {rs : List Rd} (h : wRds v = some rs) : LocG KW (opF v r) (slotsOf rs) (movedsOf rs) := by
  unfold wRds at h
  split at h <;> simp only [Option.some.injEq, reduceCtorEq] at h <;> subst h
  · rename_i n t p
    refine LocG.rdsW (fun vs hs => match vs with | [p] => (match loadAt hs.heap n t p with | some (v, h) => some (v, ⟨h, hs.next⟩) | none => none) | _ => none) fun e hs => ?_
    simp only [opF, opLd, rdAll]
    cases rd e p with
    | none => rfl
    | some q =>
      obtain ⟨p, e1⟩ := q
      simp only
      cases loadAt hs.heap n t p with
      | none => rfl
      | some q => rfl
  · rename_i n p x
    refine LocG.rdsW (fun vs hs => match vs with | [p, v] => (match storeAt hs.heap n p v with | some h => some (.junk, ⟨h, hs.next⟩) | none => none) | _ => none) fun e hs => ?_
    simp only [opF, opSt, rdAll]
    cases rd e p with
    | none => rfl
    | some q =>
      obtain ⟨p, e1⟩ := q
      simp only
      cases rd e1 x with
      | none => rfl
      | some q =>
        obtain ⟨v, e2⟩ := q
        simp only
        cases storeAt hs.heap n p v <;> rfl
  · rename_i m x y
    refine LocG.rdsW (fun vs hs => match vs with
      | [a, b] => (match opCpy m (.c a) (.c b) ⟨[], hs⟩ with | some (v, st) => some (v, st.hs) | none => none)
      | _ => none) fun e hs => ?_
    simp only [opF, opCpy, rdAll]
    cases rd e x with
    | none => rfl
    | some q =>
      obtain ⟨a, e1⟩ := q
      simp only
      cases rd e1 y with
      | none => rfl
      | some q =>
        obtain ⟨b, e2⟩ := q
        simp only [rd]
        cases elems hs.heap b with
        | none => rfl
        | some ys =>
          simp only
          split
          · split
            · split <;> simp_all
            · simp_all
          · split <;> simp_all
  · rename_i z x
    refine LocG.rdsW (fun vs hs => match vs with
      | [a] => (match opClr z (.c a) ⟨[], hs⟩ with | some (v, st) => some (v, st.hs) | none => none)
      | _ => none) fun e hs => ?_
    simp only [opF, opClr, rdAll]
    cases rd e x with
    | none => rfl
    | some q =>
      obtain ⟨a, e1⟩ := q
      simp only [rd]
      cases a <;> try rfl
      simp only
      split
      · split <;> simp_all
      · simp_all
  · rename_i f args
    refine LocG.rdsW (fun vs hs => r.call f vs hs) fun e hs => ?_
    simp only [opF, opCalli]
    cases rdAll e args with
    | none => rfl
    | some q =>
      obtain ⟨vs, e1⟩ := q
      simp only
      cases r.call f vs hs with
      | none => rfl
      | some q => rfl
  · rename_i f args
    refine LocG.rdsW (fun vs hs => match vs with | fv :: vs => callVal r fv vs hs | [] => none) fun e hs => ?_
    simp only [opF, opCallv, rdAll]
    cases rd e f with
    | none => rfl
    | some q =>
      obtain ⟨fv, e1⟩ := q
      simp only
      cases rdAll e1 args with
      | none => rfl
      | some q =>
        obtain ⟨vs, e2⟩ := q
        simp only
        cases callVal r fv vs hs with
        | none => rfl
        | some q => rfl
theorem locW_foot {i : VI} {R M : List Nat} (h : footW i = some (R, M)) : LocW (viF r i) R M := by
  unfold footW at h
  split at h
  · rename_i k R0 M0 hk
    simp only [Option.some.injEq, Prod.mk.injEq] at h
    obtain ⟨rfl, rfl⟩ := h
    exact (kind_loc hk).w k.self
  · split at h
    · rename_i rs hrs
      simp only [Option.some.injEq, Prod.mk.injEq] at h
      obtain ⟨rfl, rfl⟩ := h
      refine LocVG.w (K := KW) ?_ fun _ _ _ h => h
      cases hth : i.th with
      | nil => exact locVG_vi (vi_plain hth) (LocG.firm (locG_w hrs)) KW.id
      | cons p th => exact locVG_vi (vi_thaw hth) (LocG.thawW (locG_w hrs) (p :: th)) KW.id
    · simp at h
theorem kindV_dst {i : VI} {k : HKind} {R M : List Nat} (h : kindV i = some (k, R, M)) {d : Nat} (hd : i.dst = some d) : d ∈ M := by
  have hm : ∀ M0, d ∈ dsl i M0 := fun M0 => by unfold dsl; rw [hd]; exact .head _
  unfold kindV at h
  split at h
  · split at h
    · simp only [Option.some.injEq, Prod.mk.injEq] at h; rw [← h.2.2]; exact hm _
    · simp at h
  · split at h
    · simp only [Option.some.injEq, Prod.mk.injEq] at h; rw [← h.2.2]; exact hm _
    · simp only [Option.some.injEq, Prod.mk.injEq] at h; rw [← h.2.2]; exact hm _
    · simp only [Option.some.injEq, Prod.mk.injEq] at h; rw [← h.2.2]; exact hm _
    · simp only [Option.some.injEq, Prod.mk.injEq] at h; rw [← h.2.2]; exact hm _
    · simp only [Option.some.injEq, Prod.mk.injEq] at h; rw [← h.2.2]; exact hm _
    · split at h
      · simp only [Option.some.injEq, Prod.mk.injEq] at h; rw [← h.2.2]; exact hm _
      · simp at h
theorem footW_dst {i : VI} {R M : List Nat} (h : footW i = some (R, M)) {d : Nat} (hd : i.dst = some d) : d ∈ M := by
  unfold footW at h
  split at h
  · rename_i k R0 M0 hk
    simp only [Option.some.injEq, Prod.mk.injEq] at h
    obtain ⟨rfl, rfl⟩ := h
    exact kindV_dst hk hd
  · split at h
    · simp only [Option.some.injEq, Prod.mk.injEq] at h
      rw [← h.2]; unfold dsl; rw [hd]; exact .head _
    · simp at h

theorem idsIn_eq {e e' : Env} : ∀ {ws : List Nat}, (∀ k ∈ ws, get e' k = get e k) → idsIn e' ws = idsIn e ws
  | [], _ => rfl
  | w :: ws, h => by
    simp only [idsIn, h w (.head _), idsIn_eq fun k hk => h k (.tail _ hk)]
theorem locW_step {a : Bool} {i : VI} {R M : List Nat} (h : footN a i = some (R, M)) (F : List Nat) : LocW (stepA r a F i) R M := by
  unfold footN at h
  split at h
  · rename_i R0 M0 hf
    cases a with
    | false =>
      simp only [Option.some.injEq, Prod.mk.injEq] at h
      obtain ⟨rfl, rfl⟩ := h
      exact locW_foot hf
    | true =>
      simp only [Option.some.injEq, Prod.mk.injEq] at h
      obtain ⟨rfl, rfl⟩ := h
      have hl := locW_foot (r := r) hf
      intro e hs st1 hr
      have hids : ∀ e', (∀ k ∈ R0 ++ slotRs (nearRds i.op), get e' k = get e k) → nearIds i e' = nearIds i e := fun e' he => idsIn_eq fun k hk => he k (List.mem_append_right _ hk)
      have hR0 : ∀ e', (∀ k ∈ R0 ++ slotRs (nearRds i.op), get e' k = get e k) → ∀ k ∈ R0, get e' k = get e k := fun e' he k hk => he k (List.mem_append_left _ hk)
      simp only [stepA, viN] at hr
      split at hr
      · rename_i hn
        split at hr
        · rename_i st2 h2
          split at hr
          · rename_i hsub
            simp only [Option.some.injEq] at hr; subst hr
            obtain ⟨q1, q2, q3⟩ := hl e hs _ h2
            refine ⟨q1, q2, fun e' he => ?_⟩
            obtain ⟨e1', p1, p2, p3⟩ := q3 e' (hR0 e' he)
            refine ⟨e1', ?_, p2, p3⟩
            simp only [stepA, viN, hn, p1, hsub]
          · simp at hr
        · simp at hr
      · rename_i hn
        split at hr
        · rename_i st2 h2
          split at hr
          · rename_i d hd
            split at hr
            · rename_i x hx
              split at hr
              · rename_i ho
                simp only [Option.some.injEq] at hr; subst hr
                obtain ⟨q1, q2, q3⟩ := hl e hs _ h2
                refine ⟨q1, q2, fun e' he => ?_⟩
                obtain ⟨e1', p1, p2, p3⟩ := q3 e' (hR0 e' he)
                refine ⟨e1', ?_, p2, p3⟩
                have hd2 := p3 d (footW_dst hf hd)
                simp only [stepA, viN, hn, p1, hd, hd2, hx, ho]
              · simp at hr
            · simp at hr
          · simp at hr
        · simp at hr
      · rename_i hn
        split at hr
        · rename_i st2 h2
          simp only [Option.some.injEq] at hr; subst hr
          obtain ⟨q1, q2, q3⟩ := hl e _ _ h2
          refine ⟨q1, q2, fun e' he => ?_⟩
          obtain ⟨e1', p1, p2, p3⟩ := q3 e' (hR0 e' he)
          refine ⟨e1', ?_, p2, p3⟩
          simp only [stepA, viN, hn, hids e' he, p1]
        · simp at hr
  · simp at h

/-- Two instructions change places, where the heaps allow it. -/
theorem swap_w {f1 f2 : St → Option St} {R1 M1 R2 M2 : List Nat} (h1 : LocW f1 R1 M1) (h2 : LocW f2 R2 M2) (d1 : ∀ k ∈ M1, k ∉ R2 ∧ k ∉ M2) (d2 : ∀ k ∈ M2, k ∉ R1 ∧ k ∉ M1) {e e1 e2 : Env} {hs hs1 hs2 hsB : HS} (hsrt : Srt e)
    (a : f1 ⟨e, hs⟩ = some ⟨e1, hs1⟩) (b : f2 ⟨e1, hs1⟩ = some ⟨e2, hs2⟩) (i : f2 ⟨e1, hs⟩ = some ⟨e2, hsB⟩) (ii : f1 ⟨e, hsB⟩ = some ⟨e1, hs2⟩) :
    ∃ st1', f2 ⟨e, hs⟩ = some st1' ∧ f1 st1' = some ⟨e2, hs2⟩ := by
  obtain ⟨s1, g1, _⟩ := h1 e hs _ a
  obtain ⟨s2, g2, l2⟩ := h2 e1 hs _ i
  obtain ⟨e', k1, k2, k3⟩ := l2 e fun k hk => (g1 k fun hm => (d1 k hm).1 hk).symm
  obtain ⟨s3, g3, l3⟩ := h1 e hsB _ ii
  obtain ⟨e'', m1, m2, m3⟩ := l3 e' fun k hk => k2 k fun hm => (d2 k hm).1 hk
  refine ⟨⟨e', hsB⟩, k1, ?_⟩
  rw [m1]
  obtain ⟨t1, _, _⟩ := h2 e hs _ k1
  obtain ⟨t2, _, _⟩ := h1 e' hsB _ m1
  congr 2
  refine srt_ext (t2 (t1 hsrt)) (s2 (s1 hsrt)) fun k => ?_
  by_cases hk1 : k ∈ M1
  · rw [m3 k hk1]
    exact (g2 k (d1 k hk1).2).symm
  · rw [m2 k hk1]
    by_cases hk2 : k ∈ M2
    · exact k3 k hk2
    · rw [k2 k hk2]
      exact ((g2 k hk2).trans (g1 k hk1)).symm

/-! ### Operations that do not look at the heap -/
theorem blind_op {v : VOp} (hv : sOp v = true) {e : Env} {hs : HS} {x : AV} {st1 : St} (h : opF v r ⟨e, hs⟩ = some (x, st1)) : st1.hs = hs ∧ ∀ hs', opF v r ⟨e, hs'⟩ = some (x, ⟨st1.env, hs'⟩) := by
  cases v <;> simp only [sOp, Bool.false_eq_true] at hv
  all_goals
    simp only [opF, opMov, opPick, opBuild, opMks, opNilck, opBin, binQ_eq, opBinb, opBina, opUn, opConv, opMkfn, opMkslice, opFa, opFld, opIarr, opIx, opIxs, opExt, opLen, opCap, opMinmax] at h ⊢
    repeat' split at h
    all_goals first
      | (simp only [Option.some.injEq, Prod.mk.injEq, reduceCtorEq] at h; obtain ⟨rfl, rfl⟩ := h; exact ⟨rfl, fun hs' => by simp_all⟩)
      | simp at h
end
end Go.Vm

end
