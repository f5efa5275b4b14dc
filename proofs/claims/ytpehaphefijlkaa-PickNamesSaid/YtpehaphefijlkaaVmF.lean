import Derived.Test.YtpehaphefijlkaaVmE
set_option linter.unusedVariables false
set_option linter.unusedSimpArgs false
noncomputable section
/-
  THE INTERPRETER WITHOUT FUEL: what it answers in the end, as equations.
-/
namespace Go.Vm

noncomputable def lim {α : Type} (f : Nat → Option α) : Option α :=
  open Classical in if h : ∃ x, ∃ n, f n = some x then some (Classical.choose h) else none
theorem lim_some {α : Type} {f : Nat → Option α} (mono : ∀ n m x, f n = some x → f (n + m) = some x) {n : Nat} {x : α} (h : f n = some x) : lim f = some x := by
  have he : ∃ x, ∃ n, f n = some x := ⟨x, n, h⟩
  unfold lim
  rw [dif_pos he]
  obtain ⟨m, hm⟩ := Classical.choose_spec he
  have h1 := mono n m x h
  have h2 := mono m n _ hm
  rw [Nat.add_comm] at h2
  rw [h1] at h2
  exact h2.symm
theorem some_lim {α : Type} {f : Nat → Option α} {x : α} (h : lim f = some x) : ∃ n, f n = some x := by
  unfold lim at h
  split at h
  · rename_i he
    simp only [Option.some.injEq] at h
    rw [← h]
    exact Classical.choose_spec he
  · simp at h

variable {P : Nat → Option VFunc}
theorem RLe.rfl' {r : Rec} : RLe r r := ⟨fun _ _ _ h => h, fun _ _ _ _ h => h⟩
theorem RLe.trans' {r q s : Rec} (h : RLe r q) (k : RLe q s) : RLe r s := ⟨fun c st x e => k.code c st x (h.code c st x e), fun f a hs x e => k.call f a hs x (h.call f a hs x e)⟩
theorem run_le1 : ∀ n : Nat, RLe (run P n) (run P (n + 1))
  | 0 => ⟨fun _ _ _ h => by simp [run] at h, fun _ _ _ _ h => by simp [run] at h⟩
  | n + 1 => ⟨fun c st x h => codeF_mono (run_le1 n) h, fun f a hs x h => callF_mono (run_le1 n) h⟩
theorem run_le (n : Nat) : ∀ m : Nat, RLe (run P n) (run P (n + m))
  | 0 => RLe.rfl'
  | m + 1 => (run_le n m).trans' (run_le1 (n + m))
/-- What the interpreter answers in the end. -/
noncomputable def Dn (P : Nat → Option VFunc) : Rec := ⟨fun c st => lim fun n => (run P n).code c st, fun f a h => lim fun n => (run P n).call f a h⟩
theorem code_lim {c : VC} {st : St} {x : Out × St} {n : Nat} (h : (run P n).code c st = some x) : (Dn P).code c st = some x :=
  lim_some (fun n m x h => (run_le n m).code _ _ _ h) h
theorem call_lim {f : FuncId} {a : List AV} {hs : HS} {x : AV × HS} {n : Nat} (h : (run P n).call f a hs = some x) : (Dn P).call f a hs = some x :=
  lim_some (fun n m x h => (run_le n m).call _ _ _ _ h) h
theorem run_leD (n : Nat) : RLe (run P n) (Dn P) := ⟨fun _ _ _ h => code_lim h, fun _ _ _ _ h => call_lim h⟩

/-! ### A limit's answer is a run's -/
theorem up_code {n m : Nat} {c : VC} {st : St} {x : Out × St} (h : (run P n).code c st = some x) (le : n ≤ m) : (run P m).code c st = some x := by
  have := (run_le (P := P) n (m - n)).code _ _ _ h
  rwa [Nat.add_sub_cancel' le] at this
theorem up {n m : Nat} (le : n ≤ m) : RLe (run P n) (run P m) := by
  have := run_le (P := P) n (m - n)
  rwa [Nat.add_sub_cancel' le] at this
theorem dn_code {c : VC} {st : St} {x : Out × St} (h : (Dn P).code c st = some x) : ∃ n, (run P n).code c st = some x := some_lim h
theorem dn_call {f : FuncId} {a : List AV} {hs : HS} {x : AV × HS} (h : (Dn P).call f a hs = some x) : ∃ n, (run P n).call f a hs = some x := some_lim h
theorem callPure_dn {f : FuncId} {vs : List AV} {h : Heap} {x : AV} (e : callPure (Dn P) f vs h = some x) : ∃ n, callPure (run P n) f vs h = some x := by
  unfold callPure at e ⊢
  cases hd : viewArgs h vs with
  | none => rw [hd] at e; simp at e
  | some ds =>
    rw [hd] at e
    simp only at e ⊢
    cases hc : (Dn P).call f ds ⟨[], 0⟩ with
    | none => rw [hc] at e; simp at e
    | some p =>
      obtain ⟨n, hn⟩ := dn_call hc
      rw [hc] at e
      exact ⟨n, by rw [hn]; exact e⟩
theorem yieldOf_dn {l : Nat} {vs : List AV} {hs : HS} {x : AV × HS} (e : yieldOf (Dn P) l vs hs = some x) : ∃ n, yieldOf (run P n) l vs hs = some x := by
  unfold yieldOf at e ⊢
  split at e
  · rename_i snap params assign body hg
    split at e
    · simp at e
    · rename_i e1 he1
      split at e
      · rename_i st1 hc
        split at e
        · rename_i snap2 params2 assign2 body2 hg2
          split at e
          · simp at e
          · rename_i o st2 hc2
            obtain ⟨n1, h1⟩ := dn_code hc
            obtain ⟨n2, h2⟩ := dn_code hc2
            refine ⟨n1 + n2, ?_⟩
            have h1' := up_code h1 (Nat.le_add_right n1 n2)
            have h2' := up_code h2 (Nat.le_add_left n2 n1)
            simp only [hg2, h1', h2']
            exact e
        · simp at e
      · simp at e
  · simp at e
theorem callVal_dn {f : AV} {vs : List AV} {hs : HS} {x : AV × HS} (e : callVal (Dn P) f vs hs = some x) : ∃ n, callVal (run P n) f vs hs = some x := by
  cases f <;> simp only [callVal, reduceCtorEq] at e ⊢
  · exact dn_call e
  · exact yieldOf_dn e
theorem opF_dn {o : VOp} {st : St} {x : AV × St} (e : opF o (Dn P) st = some x) : ∃ n, opF o (run P n) st = some x := by
  cases o <;> try exact ⟨0, e⟩
  · rename_i f args
    simp only [opF, opCall] at e ⊢
    cases hr : rdAll st.env args with
    | none => rw [hr] at e; simp at e
    | some p =>
      obtain ⟨vs, e1⟩ := p
      rw [hr] at e
      simp only at e ⊢
      cases hc : callPure (Dn P) f vs st.hs.heap with
      | none => rw [hc] at e; simp at e
      | some v =>
        obtain ⟨n, hn⟩ := callPure_dn hc
        rw [hc] at e; exact ⟨n, by rw [hn]; exact e⟩
  · rename_i f args
    simp only [opF, opCalli] at e ⊢
    cases hr : rdAll st.env args with
    | none => rw [hr] at e; simp at e
    | some p =>
      obtain ⟨vs, e1⟩ := p
      rw [hr] at e
      simp only at e ⊢
      cases hc : (Dn P).call f vs st.hs with
      | none => rw [hc] at e; simp at e
      | some v =>
        obtain ⟨n, hn⟩ := dn_call hc
        rw [hc] at e; exact ⟨n, by rw [hn]; exact e⟩
  · rename_i f args
    simp only [opF, opCallv] at e ⊢
    cases hf : rd st.env f with
    | none => rw [hf] at e; simp at e
    | some p =>
      obtain ⟨fv, e0⟩ := p
      rw [hf] at e
      simp only at e ⊢
      cases hr : rdAll e0 args with
      | none => rw [hr] at e; simp at e
      | some p =>
        obtain ⟨vs, e1⟩ := p
        rw [hr] at e
        simp only at e ⊢
        cases hc : callVal (Dn P) fv vs st.hs with
        | none => rw [hc] at e; simp at e
        | some v =>
          obtain ⟨n, hn⟩ := callVal_dn hc
          rw [hc] at e; exact ⟨n, by rw [hn]; exact e⟩
theorem viF_dn {i : VI} {st x : St} (e : viF (Dn P) i st = some x) : ∃ n, viF (run P n) i st = some x := by
  have go : ∀ x, viGo (Dn P) i st = some x → ∃ n, viGo (run P n) i st = some x := fun x e => by
    unfold viGo at e ⊢
    cases ho : opF i.op (Dn P) st with
    | none => rw [ho] at e; simp at e
    | some p =>
      obtain ⟨n, hn⟩ := opF_dn ho
      rw [ho] at e; exact ⟨n, by rw [hn]; exact e⟩
  unfold viF at e ⊢
  split at e
  · exact go _ e
  · split at e
    · split at e
      · exact go _ e
      · exact ⟨0, e⟩
    · exact ⟨0, e⟩
    · simp at e
theorem opsF_dn : ∀ {l : List VI} {st x : St}, opsF (Dn P) l st = some x → ∃ n, opsF (run P n) l st = some x
  | [], _, _, e => ⟨0, e⟩
  | i :: l, st, x, e => by
    simp only [opsF] at e ⊢
    cases hv : viF (Dn P) i st with
    | none => rw [hv] at e; simp at e
    | some st1 =>
      rw [hv] at e
      obtain ⟨n1, h1⟩ := viF_dn hv
      obtain ⟨n2, h2⟩ := opsF_dn e
      refine ⟨n1 + n2, ?_⟩
      rw [viF_mono (up (Nat.le_add_right n1 n2)) h1]
      exact opsF_mono (up (Nat.le_add_left n2 n1)) h2
theorem viN_dn {F : List Nat} {i : VI} {st x : St} (e : viN (Dn P) F i st = some x) : ∃ n, viN (run P n) F i st = some x := by
  unfold viN at e ⊢
  split at e
  · cases hv : viF (Dn P) i st with
    | none => rw [hv] at e; simp at e
    | some st1 => obtain ⟨n, hn⟩ := viF_dn hv; rw [hv] at e; exact ⟨n, by rw [hn]; exact e⟩
  · cases hv : viF (Dn P) i st with
    | none => rw [hv] at e; simp at e
    | some st1 => obtain ⟨n, hn⟩ := viF_dn hv; rw [hv] at e; exact ⟨n, by rw [hn]; exact e⟩
  · cases hv : viF (Dn P) i ⟨st.env, ⟨onlyH (nearIds i st.env) st.hs.heap, st.hs.next⟩⟩ with
    | none => rw [hv] at e; simp at e
    | some st1 => obtain ⟨n, hn⟩ := viF_dn hv; rw [hv] at e; exact ⟨n, by rw [hn]; exact e⟩
theorem stepA_dn {a : Bool} {F : List Nat} {i : VI} {st x : St} (e : stepA (Dn P) a F i st = some x) : ∃ n, stepA (run P n) a F i st = some x := by
  cases a
  · exact viF_dn e
  · exact viN_dn e
theorem runN_dn {nr : List Nat} {vs : List VI} : ∀ {l F : List Nat} {st x : St}, runN (Dn P) nr vs l F st = some x → ∃ n, runN (run P n) nr vs l F st = some x
  | [], _, _, _, e => ⟨0, e⟩
  | i :: l, F, st, x, e => by
    simp only [runN] at e ⊢
    cases hi : vs[i]? with
    | none => rw [hi] at e; simp at e
    | some v =>
      rw [hi] at e
      simp only at e ⊢
      cases hv : stepA (Dn P) (memN i nr) F v st with
      | none => rw [hv] at e; simp at e
      | some st1 =>
        rw [hv] at e
        obtain ⟨n1, h1⟩ := stepA_dn hv
        obtain ⟨n2, h2⟩ := runN_dn e
        refine ⟨n1 + n2, ?_⟩
        rw [stepA_mono (up (Nat.le_add_right n1 n2)) h1]
        exact runN_mono (up (Nat.le_add_left n2 n1)) h2
theorem codeF_dn {c : VC} {st : St} {x : Out × St} (e : codeF c (Dn P) st = some x) : ∃ n, codeF c (run P n) st = some x := by
  cases c <;> try exact ⟨0, e⟩
  · rename_i d ops
    simp only [codeF, vcReg] at e ⊢
    cases hv : opsF (Dn P) ops st with
    | none => rw [hv] at e; simp at e
    | some st1 => obtain ⟨n, hn⟩ := opsF_dn hv; rw [hv] at e; exact ⟨n, by rw [hn]; exact e⟩
  · rename_i perm gco nr ops
    simp only [codeF, vcRegP, runP_eq] at e ⊢
    cases ha : lateAbs st.env ops with
    | false => rw [ha] at e; simp at e
    | true =>
    rw [ha] at e
    simp only at e ⊢
    cases hv : runN (Dn P) nr ops perm [] st with
    | none => rw [hv] at e; simp at e
    | some st1 => obtain ⟨n, hn⟩ := runN_dn hv; rw [hv] at e; exact ⟨n, by rw [hn]; exact e⟩
  · rename_i a b
    simp only [codeF, vcSeq] at e ⊢
    cases hv : (Dn P).code a st with
    | none => rw [hv] at e; simp at e
    | some p =>
      obtain ⟨o, st1⟩ := p
      obtain ⟨n1, h1⟩ := dn_code hv
      rw [hv] at e
      cases o <;> simp only at e ⊢
      · obtain ⟨n2, h2⟩ := dn_code e
        refine ⟨n1 + n2, ?_⟩
        rw [up_code h1 (Nat.le_add_right n1 n2)]
        exact up_code h2 (Nat.le_add_left n2 n1)
      all_goals exact ⟨n1, by rw [h1]; exact e⟩
  · rename_i cr a b
    simp only [codeF, vcCond] at e ⊢
    split at e
    · exact dn_code e
    · exact dn_code e
    · simp at e
  · rename_i id a
    simp only [codeF, vcBlock] at e ⊢
    cases hv : (Dn P).code a st with
    | none => rw [hv] at e; simp at e
    | some p => obtain ⟨n, hn⟩ := dn_code hv; rw [hv] at e; exact ⟨n, by rw [hn]; exact e⟩
  · rename_i a
    simp only [codeF, vcLoop] at e ⊢
    cases hv : (Dn P).code a st with
    | none => rw [hv] at e; simp at e
    | some p =>
      obtain ⟨o, st1⟩ := p
      obtain ⟨n1, h1⟩ := dn_code hv
      rw [hv] at e
      cases o <;> simp only at e ⊢
      · obtain ⟨n2, h2⟩ := dn_code e
        refine ⟨n1 + n2, ?_⟩
        rw [up_code h1 (Nat.le_add_right n1 n2)]
        exact up_code h2 (Nat.le_add_left n2 n1)
      all_goals exact ⟨n1, by rw [h1]; exact e⟩
  · rename_i f params assign body
    simp only [codeF, vcRangeF] at e ⊢
    split at e
    · rename_i g first caps e1 h1
      split at e
      · rename_i v hs hc
        obtain ⟨n, hn⟩ := dn_call hc
        exact ⟨n, by rw [hn]; exact e⟩
      · simp at e
    · simp at e
  · exact dn_code e
  · rename_i a cur
    simp only [codeF, vcInScope] at e ⊢
    cases hv : (Dn P).code cur st with
    | none => rw [hv] at e; simp at e
    | some p =>
      obtain ⟨o, st1⟩ := p
      obtain ⟨n1, h1⟩ := dn_code hv
      rw [hv] at e
      cases o <;> simp only at e ⊢
      · exact ⟨n1, by rw [h1]; exact e⟩
      · exact ⟨n1, by rw [h1]; exact e⟩
      · split at e
        · rename_i rest hl
          obtain ⟨n2, h2⟩ := dn_code e
          refine ⟨n1 + n2, ?_⟩
          rw [up_code h1 (Nat.le_add_right n1 n2)]
          simp only [hl]
          exact up_code h2 (Nat.le_add_left n2 n1)
        · rename_i hl
          exact ⟨n1, by rw [h1]; simp only [hl]; exact e⟩
      · exact ⟨n1, by rw [h1]; exact e⟩
  · rename_i i d f a
    simp only [codeF, vcLate] at e ⊢
    cases hg : get st.env i with
    | none => rw [hg] at e; simp at e
    | some p =>
      rw [hg] at e
      cases p <;> simp only at e ⊢ <;> try exact absurd e (by simp)
      rename_i id off
      cases hv : (Dn P).code a ⟨put st.env d (.ptr id off), st.hs⟩ with
      | none => rw [hv] at e; simp at e
      | some p =>
        obtain ⟨o, st1⟩ := p
        obtain ⟨n1, h1⟩ := dn_code hv
        rw [hv] at e
        cases o <;> simp only at e ⊢ <;> try exact absurd e (by simp)
        all_goals
          cases hc : (Dn P).call f [.ptr id off] st1.hs with
          | none => rw [hc] at e; simp at e
          | some q =>
            obtain ⟨n2, h2⟩ := dn_call hc
            rw [hc] at e
            refine ⟨n1 + n2, ?_⟩
            rw [up_code h1 (Nat.le_add_right n1 n2)]
            simp only [(up (Nat.le_add_left n2 n1)).call _ _ _ _ h2]
            exact e
theorem callF_dn {f : FuncId} {a : List AV} {h : HS} {x : AV × HS} (e : callF P (Dn P) f a h = some x) : ∃ n, callF P (run P n) f a h = some x := by
  unfold callF at e ⊢
  split at e
  · simp at e
  · rename_i fn hf
    split at e
    · simp at e
    · rename_i hn
      cases hv : codeF fn.body (Dn P) ⟨mkEnv 0 a, h⟩ with
      | none => rw [hv] at e; simp at e
      | some p =>
        obtain ⟨n, hm⟩ := codeF_dn hv
        rw [hv] at e
        exact ⟨n, by simp only [hn, hm]; exact e⟩
theorem Dn_code (c : VC) (st : St) : (Dn P).code c st = codeF c (Dn P) st := by
  cases h : codeF c (Dn P) st with
  | some x =>
    obtain ⟨n, hn⟩ := codeF_dn h
    exact code_lim (n := n + 1) hn
  | none =>
    cases k : (Dn P).code c st with
    | none => rfl
    | some x =>
      obtain ⟨n, hn⟩ := dn_code k
      cases n with
      | zero => simp [run] at hn
      | succ n => rw [codeF_mono (run_leD n) hn] at h; simp at h
theorem Dn_call (f : FuncId) (a : List AV) (hs : HS) : (Dn P).call f a hs = callF P (Dn P) f a hs := by
  cases h : callF P (Dn P) f a hs with
  | some x =>
    obtain ⟨n, hn⟩ := callF_dn h
    exact call_lim (n := n + 1) hn
  | none =>
    cases k : (Dn P).call f a hs with
    | none => rfl
    | some x =>
      obtain ⟨n, hn⟩ := dn_call k
      cases n with
      | zero => simp [run] at hn
      | succ n => rw [callF_mono (run_leD n) hn] at h; simp at h
theorem Dn_ev {f : FuncId} {a : List AV} {hs hs' : HS} {v : AV} (h : (Dn P).call f a hs = some (v, hs')) : EvC P f a hs v hs' := by
  obtain ⟨n, hn⟩ := dn_call h
  exact ⟨n, fun m => (run_le n m).call _ _ _ _ hn⟩
end Go.Vm

/-
  EQUATIONS OF RUNS: symbolic runs by rewriting.
-/
namespace Go.Vm
variable {P : Nat → Option VFunc}

/-! ### Runs one behind the other -/
noncomputable def seqK (P : Nat → Option VFunc) (x : Option (Out × St)) (b : VC) : Option (Out × St) :=
  match x with
  | some (.normal, st) => (Dn P).code b st
  | x => x
def blkK (id : Nat) (x : Option (Out × St)) : Option (Out × St) :=
  match x with
  | some (.exit j, st) => if j = id then some (.normal, st) else some (.exit j, st)
  | x => x
def regK (x : Option St) : Option (Out × St) :=
  match x with
  | some st => some (.normal, st)
  | none => none
noncomputable def opsK (P : Nat → Option VFunc) (x : Option St) (l : List VI) : Option St :=
  match x with
  | some st => opsF (Dn P) l st
  | none => none
def dstK (d : Option Nat) (x : Option (AV × St)) : Option St :=
  match x with
  | some (v, st) => some (setDst d (firm v) st)
  | none => none
def dstT (d : Option Nat) (th : List (Nat × Nat)) (x : Option (AV × St)) : Option St :=
  match x with
  | some (v, st) => some (setDst d (firm (thawParts th v st.hs).1) ⟨st.env, (thawParts th v st.hs).2⟩)
  | none => none
noncomputable def loopK (P : Nat → Option VFunc) (a : VC) (x : Option (Out × St)) : Option (Out × St) :=
  match x with
  | some (.normal, st) => (Dn P).code (.loop a) st
  | x => x
def endK (fn : VFunc) (x : Option (Out × St)) : Option (AV × HS) :=
  match x with
  | some (.normal, st) => endF fn st
  | some (.ret, st) => endF fn st
  | _ => none
def topK (x : Option (AV × HS)) : Option AV :=
  match x with
  | some (v, hs) => resTop hs.heap v
  | none => none
theorem seqK_n {st : St} {b : VC} : seqK P (some (.normal, st)) b = (Dn P).code b st := (rfl)
theorem seqK_r {st : St} {b : VC} : seqK P (some (.ret, st)) b = some (.ret, st) := (rfl)
theorem seqK_x {st : St} {b : VC} {j : Nat} : seqK P (some (.exit j, st)) b = some (.exit j, st) := (rfl)
theorem seqK_g {st : St} {b : VC} {j : Nat} : seqK P (some (.goto j, st)) b = some (.goto j, st) := (rfl)
theorem seqK_0 {b : VC} : seqK P none b = none := (rfl)
theorem seqK_i {c : Prop} [Decidable c] {x y : Option (Out × St)} {b : VC} : seqK P (if c then x else y) b = if c then seqK P x b else seqK P y b := by split <;> rfl
theorem blkK_n {st : St} {i : Nat} : blkK i (some (.normal, st)) = some (.normal, st) := (rfl)
theorem blkK_r {st : St} {i : Nat} : blkK i (some (.ret, st)) = some (.ret, st) := (rfl)
theorem blkK_x {st : St} {i j : Nat} : blkK i (some (.exit j, st)) = if j = i then some (.normal, st) else some (.exit j, st) := (rfl)
theorem blkK_g {st : St} {i j : Nat} : blkK i (some (.goto j, st)) = some (.goto j, st) := (rfl)
theorem blkK_0 {i : Nat} : blkK i none = none := (rfl)
theorem blkK_i {c : Prop} [Decidable c] {x y : Option (Out × St)} {i : Nat} : blkK i (if c then x else y) = if c then blkK i x else blkK i y := by split <;> rfl
theorem loopK_n {st : St} {a : VC} : loopK P a (some (.normal, st)) = (Dn P).code (.loop a) st := (rfl)
theorem loopK_r {st : St} {a : VC} : loopK P a (some (.ret, st)) = some (.ret, st) := (rfl)
theorem loopK_x {st : St} {a : VC} {j : Nat} : loopK P a (some (.exit j, st)) = some (.exit j, st) := (rfl)
theorem loopK_g {st : St} {a : VC} {j : Nat} : loopK P a (some (.goto j, st)) = some (.goto j, st) := (rfl)
theorem loopK_0 {a : VC} : loopK P a none = none := (rfl)
theorem loopK_i {c : Prop} [Decidable c] {x y : Option (Out × St)} {a : VC} : loopK P a (if c then x else y) = if c then loopK P a x else loopK P a y := by split <;> rfl
theorem regK_s {st : St} : regK (some st) = some (.normal, st) := (rfl)
theorem regK_0 : regK none = none := (rfl)
theorem regK_i {c : Prop} [Decidable c] {x y : Option St} : regK (if c then x else y) = if c then regK x else regK y := by split <;> rfl
theorem opsK_s {st : St} {l : List VI} : opsK P (some st) l = opsF (Dn P) l st := (rfl)
theorem opsK_0 {l : List VI} : opsK P none l = none := (rfl)
theorem opsK_i {c : Prop} [Decidable c] {x y : Option St} {l : List VI} : opsK P (if c then x else y) l = if c then opsK P x l else opsK P y l := by split <;> rfl
theorem dstK_s {d : Nat} {v : AV} {e : Env} {hs : HS} : dstK (some d) (some (v, ⟨e, hs⟩)) = some ⟨put e d (firm v), hs⟩ := (rfl)
theorem dstK_n {v : AV} {st : St} : dstK none (some (v, st)) = some st := (rfl)
theorem dstK_0 {d : Option Nat} : dstK d none = none := (rfl)
theorem dstK_i {c : Prop} [Decidable c] {x y : Option (AV × St)} {d : Option Nat} : dstK d (if c then x else y) = if c then dstK d x else dstK d y := by split <;> rfl
theorem dstT_s {d : Nat} {th : List (Nat × Nat)} {v : AV} {e : Env} {hs : HS} : dstT (some d) th (some (v, ⟨e, hs⟩)) = some ⟨put e d (firm (thawParts th v hs).1), (thawParts th v hs).2⟩ := (rfl)
theorem dstT_0 {d : Option Nat} {th : List (Nat × Nat)} : dstT d th none = none := (rfl)
theorem dstT_i {c : Prop} [Decidable c] {x y : Option (AV × St)} {d : Option Nat} {th : List (Nat × Nat)} : dstT d th (if c then x else y) = if c then dstT d th x else dstT d th y := by split <;> rfl
theorem endK_n {fn : VFunc} {st : St} : endK fn (some (.normal, st)) = endF fn st := (rfl)
theorem endK_r {fn : VFunc} {st : St} : endK fn (some (.ret, st)) = endF fn st := (rfl)
theorem endK_0 {fn : VFunc} : endK fn none = none := (rfl)
theorem endK_i {fn : VFunc} {c : Prop} [Decidable c] {x y : Option (Out × St)} : endK fn (if c then x else y) = if c then endK fn x else endK fn y := by split <;> rfl
theorem topK_s {v : AV} {hs : HS} : topK (some (v, hs)) = resTop hs.heap v := (rfl)
theorem topK_0 : topK none = none := (rfl)
theorem topK_i {c : Prop} [Decidable c] {x y : Option (AV × HS)} : topK (if c then x else y) = if c then topK x else topK y := by split <;> rfl

/-! ### Code -/
theorem code_skip {st : St} : (Dn P).code .skip st = some (.normal, st) := by rw [Dn_code]; rfl
theorem code_exit {st : St} {i : Nat} : (Dn P).code (.exit i) st = some (.exit i, st) := by rw [Dn_code]; rfl
theorem code_ret {st : St} : (Dn P).code .ret st = some (.ret, st) := by rw [Dn_code]; rfl
theorem code_label {st : St} {i : Nat} : (Dn P).code (.label i) st = some (.normal, st) := by rw [Dn_code]; rfl
theorem code_goto {st : St} {i : Nat} : (Dn P).code (.goto i) st = some (.goto i, st) := by rw [Dn_code]; rfl
theorem code_seq {st : St} {a b : VC} : (Dn P).code (.seq a b) st = seqK P ((Dn P).code a st) b := by rw [Dn_code]; rfl
theorem code_block {st : St} {i : Nat} {a : VC} : (Dn P).code (.block i a) st = blkK i ((Dn P).code a st) := by
  rw [Dn_code]
  simp only [codeF, vcBlock, blkK]
  cases (Dn P).code a st with
  | none => rfl
  | some p =>
    obtain ⟨o, s⟩ := p
    cases o with
    | exit j =>
      simp only
      cases hb : Nat.beq j i with
      | true => simp [Nat.eq_of_beq_eq_true hb]
      | false => simp [Nat.ne_of_beq_eq_false hb]
    | normal => rfl
    | goto j => rfl
    | ret => rfl
theorem code_loop {st : St} {a : VC} : (Dn P).code (.loop a) st = loopK P a ((Dn P).code a st) := by rw [Dn_code]; rfl
theorem code_reg {st : St} {d : Bool} {ops : List VI} : (Dn P).code (.reg d ops) st = regK (opsF (Dn P) ops st) := by rw [Dn_code]; rfl
theorem code_regP {st : St} {perm gco : List Nat} {ops : List VI} (ha : lateAbs st.env ops = true) : (Dn P).code (.regP perm gco [] ops) st = regK (runL (Dn P) ops perm st) := by
  rw [Dn_code]
  simp only [codeF, vcRegP, runP_eq, runN_nil, ha]
  rfl
theorem code_condM {e : Env} {hs : HS} {i : Nat} {a b : VC} {t : Bool} (h : get e i = some (.d (.bool t))) : (Dn P).code (.cond (.m i) a b) ⟨e, hs⟩ = if t = true then (Dn P).code a ⟨del e i, hs⟩ else (Dn P).code b ⟨del e i, hs⟩ := by
  rw [Dn_code]
  simp only [codeF, vcCond, rd, h]
  cases t <;> rfl
theorem code_condC {e : Env} {hs : HS} {a b : VC} {t : Bool} : (Dn P).code (.cond (.c (.d (.bool t))) a b) ⟨e, hs⟩ = if t = true then (Dn P).code a ⟨e, hs⟩ else (Dn P).code b ⟨e, hs⟩ := by
  rw [Dn_code]
  simp only [codeF, vcCond, rd]
  cases t <;> rfl
theorem opsF_0 {st : St} : opsF (Dn P) [] st = some st := rfl
theorem opsF_1 {st : St} {i : VI} {l : List VI} : opsF (Dn P) (i :: l) st = opsK P (viF (Dn P) i st) l := rfl
theorem runL_0 {st : St} {vs : List VI} : runL (Dn P) vs [] st = some st := rfl
noncomputable def runK (P : Nat → Option VFunc) (vs : List VI) (x : Option St) (l : List Nat) : Option St :=
  match x with
  | some st => runL (Dn P) vs l st
  | none => none
theorem runL_1 {st : St} {vs : List VI} {i : Nat} {l : List Nat} {v : VI} (h : vs[i]? = some v) : runL (Dn P) vs (i :: l) st = runK P vs (viF (Dn P) v st) l := by
  simp only [runL, h, runK]
  cases viF (Dn P) v st <;> rfl
theorem runK_s {vs : List VI} {st : St} {l : List Nat} : runK P vs (some st) l = runL (Dn P) vs l st := rfl
theorem runK_0 {vs : List VI} {l : List Nat} : runK P vs none l = none := rfl
theorem runK_i {vs : List VI} {c : Prop} [Decidable c] {x y : Option St} {l : List Nat} : runK P vs (if c then x else y) l = if c then runK P vs x l else runK P vs y l := by split <;> rfl
theorem viF_p {st : St} {d : Option Nat} {op : VOp} : viF (Dn P) ⟨d, none, op, []⟩ st = dstK d (opF op (Dn P) st) := by
  simp only [viF, viGo, dstK]
  cases opF op (Dn P) st <;> rfl
theorem viF_t {st : St} {d : Option Nat} {op : VOp} {p : Nat × Nat} {r : List (Nat × Nat)} : viF (Dn P) ⟨d, none, op, p :: r⟩ st = dstT d (p :: r) (opF op (Dn P) st) := by
  simp only [viF, viGo, dstT]
  cases opF op (Dn P) st <;> rfl
noncomputable def condK (P : Nat → Option VFunc) (v : Option AV) (a b : VC) (st : St) : Option (Out × St) :=
  match v with
  | some (.d (.bool true)) => (Dn P).code a st
  | some (.d (.bool false)) => (Dn P).code b st
  | _ => none
theorem code_cond {e : Env} {hs : HS} {i : Nat} {a b : VC} : (Dn P).code (.cond (.m i) a b) ⟨e, hs⟩ = condK P (get e i) a b ⟨del e i, hs⟩ := by
  rw [Dn_code]
  simp only [codeF, vcCond, rd, condK]
  cases get e i with
  | none => rfl
  | some v => cases v with
    | d x => cases x with
      | bool b => cases b <;> rfl
      | _ => rfl
    | _ => rfl
theorem condK_t {a b : VC} {st : St} : condK P (some (.d (.bool true))) a b st = (Dn P).code a st := (rfl)
theorem condK_f {a b : VC} {st : St} : condK P (some (.d (.bool false))) a b st = (Dn P).code b st := (rfl)
theorem condK_i {c : Prop} [Decidable c] {a b : VC} {st : St} : condK P (some (.d (.bool (decide c)))) a b st = if c then (Dn P).code a st else (Dn P).code b st := by
  by_cases h : c <;> simp [h, condK]
noncomputable def grdK (P : Nat → Option VFunc) (v : Option AV) (w : Bool) (d : Option Nat) (op : VOp) (th : List (Nat × Nat)) (st : St) : Option St :=
  match v with
  | some (.d (.bool b)) => match b == w with
    | true => viF (Dn P) ⟨d, none, op, th⟩ st
    | false => some (setDst d (.tup []) st)
  | some (.tup []) => some (setDst d (.tup []) st)
  | _ => none
theorem viF_g {e : Env} {hs : HS} {d : Option Nat} {op : VOp} {s : Nat} {w : Bool} {th : List (Nat × Nat)} : viF (Dn P) ⟨d, some (s, w), op, th⟩ ⟨e, hs⟩ = grdK P (get e s) w d op th ⟨e, hs⟩ := by
  simp only [viF, grdK]
  rfl
theorem grdK_tt {d : Option Nat} {op : VOp} {th : List (Nat × Nat)} {st : St} : grdK P (some (.d (.bool true))) true d op th st = viF (Dn P) ⟨d, none, op, th⟩ st := rfl
theorem grdK_ff {d : Option Nat} {op : VOp} {th : List (Nat × Nat)} {st : St} : grdK P (some (.d (.bool false))) false d op th st = viF (Dn P) ⟨d, none, op, th⟩ st := rfl
theorem grdK_tf {d : Option Nat} {op : VOp} {th : List (Nat × Nat)} {st : St} : grdK P (some (.d (.bool true))) false d op th st = some (setDst d (.tup []) st) := rfl
theorem grdK_ft {d : Option Nat} {op : VOp} {th : List (Nat × Nat)} {st : St} : grdK P (some (.d (.bool false))) true d op th st = some (setDst d (.tup []) st) := rfl
theorem grdK_0 {d : Option Nat} {op : VOp} {w : Bool} {th : List (Nat × Nat)} {st : St} : grdK P (some (.tup [])) w d op th st = some (setDst d (.tup []) st) := rfl
theorem setDst_s {d : Nat} {v : AV} {e : Env} {hs : HS} : setDst (some d) v ⟨e, hs⟩ = ⟨put e d v, hs⟩ := rfl
theorem setDst_0 {v : AV} {st : St} : setDst none v st = st := rfl

/-! ### Variables -/
theorem get0 {α : Type} {i : Nat} : get ([] : List (Nat × α)) i = none := (rfl)
theorem get1 {α : Type} {k i : Nat} {v : α} {r : List (Nat × α)} : get ((k, v) :: r) i = if k = i then some v else get r i := get_cons ..
theorem put0 {α : Type} {i : Nat} {x : α} : put [] i x = [(i, x)] := (rfl)
theorem put1 {α : Type} {k i : Nat} {v x : α} {r : List (Nat × α)} : put ((k, v) :: r) i x = if k = i then (i, x) :: r else if i ≤ k then (i, x) :: (k, v) :: r else (k, v) :: put r i x := put_cons ..
theorem del0 {α : Type} {i : Nat} : del ([] : List (Nat × α)) i = [] := (rfl)
theorem del1 {α : Type} {k i : Nat} {v : α} {r : List (Nat × α)} : del ((k, v) :: r) i = if k = i then del r i else (k, v) :: del r i := del_cons ..
def rdM (v : Option AV) (e : Env) : Option (AV × Env) :=
  match v with
  | some v => some (v, e)
  | none => none
def rdS (v : Option AV) (e : Env) : Option (AV × Env) :=
  match v with
  | some v => some (share v, e)
  | none => none
theorem rd_m {e : Env} {i : Nat} : rd e (.m i) = rdM (get e i) (del e i) := by simp only [rd, rdM]; cases get e i <;> rfl
theorem rd_s {e : Env} {i : Nat} : rd e (.s i) = rdS (get e i) e := by simp only [rd, rdS]; cases get e i <;> rfl
theorem rd_c {e : Env} {v : AV} : rd e (.c v) = some (v, e) := rfl
theorem rdM_s {v : AV} {e : Env} : rdM (some v) e = some (v, e) := rfl
theorem rdS_s {v : AV} {e : Env} : rdS (some v) e = some (share v, e) := rfl

/-! ### Operations -/
def valK (v : Option AV) (st : St) : Option (AV × St) :=
  match v with
  | some v => some (v, st)
  | none => none
theorem valK_s {v : AV} {st : St} : valK (some v) st = some (v, st) := rfl
theorem valK_0 {st : St} : valK none st = none := rfl
theorem valK_i {c : Prop} [Decidable c] {x y : Option AV} {st : St} : valK (if c then x else y) st = if c then valK x st else valK y st := by split <;> rfl
def bin2 (op : BinOp) (a : AV) (hs : HS) (x : Option (AV × Env)) : Option (AV × St) :=
  match x with
  | some (b, e) => valK (binOf op a b) ⟨e, hs⟩
  | none => none
def bin1 (op : BinOp) (y : Rd) (hs : HS) (x : Option (AV × Env)) : Option (AV × St) :=
  match x with
  | some (a, e) => bin2 op a hs (rd e y)
  | none => none
theorem op_bin1 {op : BinOp} {x y : Rd} {r : Rec} {e : Env} {hs : HS} : opF (.bin op x y) r ⟨e, hs⟩ = bin1 op y hs (rd e x) := by
  simp only [opF, opBin, binQ_eq, bin1]
  cases rd e x with
  | none => rfl
  | some p =>
    obtain ⟨a, e1⟩ := p
    simp only [bin2]
    cases rd e1 y with
    | none => rfl
    | some q => simp only [valK]; cases binOf op a q.1 <;> rfl
theorem bin1_s {op : BinOp} {y : Rd} {hs : HS} {a : AV} {e : Env} : bin1 op y hs (some (a, e)) = bin2 op a hs (rd e y) := rfl
theorem bin2_s {op : BinOp} {hs : HS} {a b : AV} {e : Env} : bin2 op a hs (some (b, e)) = valK (binOf op a b) ⟨e, hs⟩ := rfl
/-! ### Numbers -/
theorem kindEq_self {k : IntKind} : kindEq k k = true := by cases k <;> rfl
theorem bin_int {op : BinOp} {k : IntKind} {a b : Int} (h1 : op ≠ .shl) (h2 : op ≠ .shr) : binOf op (.d (.int k a)) (.d (.int k b)) = match intOp op k a b with | some x => some (.d x) | none => none := by
  cases op <;> first | (exact absurd rfl h1) | (exact absurd rfl h2) | (simp only [binOf, numOf, kindEq_self]; cases intOp _ k a b <;> rfl)
theorem bin_add {k : IntKind} {a b : Int} : binOf .add (.d (.int k a)) (.d (.int k b)) = some (.d (.int k (wr k (a + b)))) := by rw [bin_int (by simp) (by simp)]; rfl
theorem bin_sub {k : IntKind} {a b : Int} : binOf .sub (.d (.int k a)) (.d (.int k b)) = some (.d (.int k (wr k (a - b)))) := by rw [bin_int (by simp) (by simp)]; rfl
theorem bin_mul {k : IntKind} {a b : Int} : binOf .mul (.d (.int k a)) (.d (.int k b)) = some (.d (.int k (wr k (a * b)))) := by rw [bin_int (by simp) (by simp)]; rfl
theorem bin_quo {k : IntKind} {a b : Int} (h : b ≠ 0) : binOf .quo (.d (.int k a)) (.d (.int k b)) = some (.d (.int k (wr k (a.tdiv b)))) := by rw [bin_int (by simp) (by simp)]; simp [intOp, h]
theorem bin_rem {k : IntKind} {a b : Int} (h : b ≠ 0) : binOf .rem (.d (.int k a)) (.d (.int k b)) = some (.d (.int k (a.tmod b))) := by rw [bin_int (by simp) (by simp)]; simp [intOp, h]
theorem bin_eql {k : IntKind} {a b : Int} : binOf .eql (.d (.int k a)) (.d (.int k b)) = if a = b then some (.d (.bool true)) else some (.d (.bool false)) := by rw [bin_int (by simp) (by simp)]; by_cases h : a = b <;> simp [intOp, h]
theorem bin_neq {k : IntKind} {a b : Int} : binOf .neq (.d (.int k a)) (.d (.int k b)) = if a = b then some (.d (.bool false)) else some (.d (.bool true)) := by rw [bin_int (by simp) (by simp)]; by_cases h : a = b <;> simp [intOp, h]
theorem bin_lss {k : IntKind} {a b : Int} : binOf .lss (.d (.int k a)) (.d (.int k b)) = if a < b then some (.d (.bool true)) else some (.d (.bool false)) := by rw [bin_int (by simp) (by simp)]; by_cases h : a < b <;> simp [intOp, h]
theorem bin_leq {k : IntKind} {a b : Int} : binOf .leq (.d (.int k a)) (.d (.int k b)) = if a ≤ b then some (.d (.bool true)) else some (.d (.bool false)) := by rw [bin_int (by simp) (by simp)]; by_cases h : a ≤ b <;> simp [intOp, h]
theorem bin_gtr {k : IntKind} {a b : Int} : binOf .gtr (.d (.int k a)) (.d (.int k b)) = if b < a then some (.d (.bool true)) else some (.d (.bool false)) := by rw [bin_int (by simp) (by simp)]; by_cases h : b < a <;> simp [intOp, h]
theorem bin_geq {k : IntKind} {a b : Int} : binOf .geq (.d (.int k a)) (.d (.int k b)) = if b ≤ a then some (.d (.bool true)) else some (.d (.bool false)) := by rw [bin_int (by simp) (by simp)]; by_cases h : b ≤ a <;> simp [intOp, h]
theorem bin_shl {k j : IntKind} {a b : Int} (h : 0 ≤ b) : binOf .shl (.d (.int k a)) (.d (.int j b)) = some (.d (.int k (wr k (a * ((2 ^ (min b.toNat k.bits) : Nat) : Int))))) := by
  have h' : ¬ b < 0 := by omega
  simp [binOf, numOf, shiftOf, h']
theorem bin_shr {k j : IntKind} {a b : Int} (h : 0 ≤ b) : binOf .shr (.d (.int k a)) (.d (.int j b)) = some (.d (.int k (a.fdiv ((2 ^ (min b.toNat k.bits) : Nat) : Int)))) := by
  have h' : ¬ b < 0 := by omega
  simp [binOf, numOf, shiftOf, h']
theorem bin_seql {a b : List UInt8} : binOf .eql (.d (.str a)) (.d (.str b)) = if a = b then some (.d (.bool true)) else some (.d (.bool false)) := by
  by_cases h : a = b <;> simp [binOf, h]
theorem bin_sneq {a b : List UInt8} : binOf .neq (.d (.str a)) (.d (.str b)) = if a = b then some (.d (.bool false)) else some (.d (.bool true)) := by
  by_cases h : a = b <;> simp [binOf, h]
theorem un_not {b : Bool} : unOf .not (.d (.bool b)) = some (.d (.bool !b)) := rfl
theorem un_neg {k : IntKind} {n : Int} : unOf .neg (.d (.int k n)) = some (.d (.int k (wr k (0 - n)))) := rfl
theorem wr_u8 {n : Int} (h : 0 ≤ n) (h2 : n ≤ 255) : wr .u8 n = n := by
  simp only [wr, wrapTo, decide_eq_true h, decide_eq_true h2, Bool.and_self]
theorem wr_u16 {n : Int} (h : 0 ≤ n) (h2 : n ≤ 65535) : wr .u16 n = n := by
  simp only [wr, wrapTo, decide_eq_true h, decide_eq_true h2, Bool.and_self]
theorem wr_u32 {n : Int} (h : 0 ≤ n) (h2 : n ≤ 4294967295) : wr .u32 n = n := by
  simp only [wr, wrapTo, decide_eq_true h, decide_eq_true h2, Bool.and_self]
theorem wr_u64 {n : Int} (h : 0 ≤ n) (h2 : n ≤ 18446744073709551615) : wr .u64 n = n := by
  simp only [wr, wrapTo, decide_eq_true h, decide_eq_true h2, Bool.and_self]
theorem natUp {k : IntKind} {i : Int} {t : Nat} (h : 0 ≤ i) (h2 : i ≤ t) : natUpTo (.d (.int k i)) t = some i.toNat := by
  obtain ⟨n, rfl⟩ := Int.eq_ofNat_of_zero_le h
  have : Nat.ble n t = true := Nat.ble_eq_true_of_le (by omega)
  show (match Nat.ble n t with | true => some n | false => none) = _
  rw [this]
  rfl
theorem natOf_i {k : IntKind} {i : Int} (h : 0 ≤ i) : natOf (.d (.int k i)) = some i.toNat := by
  obtain ⟨n, rfl⟩ := Int.eq_ofNat_of_zero_le h
  rfl

def topN (k : IntKind) : Nat := if k.signed then 2 ^ (k.bits - 1) else 2 ^ k.bits
theorem topN_le (k : IntKind) : topN k ≤ 2 ^ k.bits := by cases k <;> decide
theorem wrapN {k : IntKind} {n : Nat} (h : n < topN k) : k.wrap (n : Int) = n := by
  cases k <;> simp only [topN, IntKind.wrap, IntKind.signed, IntKind.bits] at h ⊢ <;> simp at h ⊢ <;> omega
theorem ofInt_toNat {k : IntKind} {n : Nat} (h : n < topN k) : (BitVec.ofInt k.bits (n : Int)).toNat = n := by
  have h2 := topN_le k
  rw [BitVec.ofInt_natCast, BitVec.toNat_ofNat]
  exact Nat.mod_eq_of_lt (by omega)
theorem bin_or {k : IntKind} {a b : Nat} (h : a < topN k) (h2 : b < topN k) (h3 : a ||| b < topN k) : binOf .or (.d (.int k (a : Int))) (.d (.int k (b : Int))) = some (.d (.int k ((a ||| b : Nat) : Int))) := by
  rw [bin_int (by simp) (by simp)]
  simp only [intOp, bitsOf, BitVec.toNat_or, ofInt_toNat h, ofInt_toNat h2, wrapN h3]
theorem andN_lt {a b t : Nat} (h : a < t) : a &&& b < t := Nat.lt_of_le_of_lt Nat.and_le_left h
theorem bin_and {k : IntKind} {a b : Nat} (h : a < topN k) (h2 : b < topN k) : binOf .and (.d (.int k (a : Int))) (.d (.int k (b : Int))) = some (.d (.int k ((a &&& b : Nat) : Int))) := by
  rw [bin_int (by simp) (by simp)]
  simp only [intOp, bitsOf, BitVec.toNat_and, ofInt_toNat h, ofInt_toNat h2, wrapN (andN_lt h)]
theorem bin_xor {k : IntKind} {a b : Nat} (h : a < topN k) (h2 : b < topN k) (h3 : a ^^^ b < topN k) : binOf .xor (.d (.int k (a : Int))) (.d (.int k (b : Int))) = some (.d (.int k ((a ^^^ b : Nat) : Int))) := by
  rw [bin_int (by simp) (by simp)]
  simp only [intOp, bitsOf, BitVec.toNat_xor, ofInt_toNat h, ofInt_toNat h2, wrapN h3]

/-! ### Calls -/
/-- A pure call's answer. -/
noncomputable def ans (P : Nat → Option VFunc) (f : FuncId) (ds : List AV) : Option AV := topK ((Dn P).call f ds ⟨[], 0⟩)
theorem call_body {f : FuncId} {fn : VFunc} {args : List AV} {hs : HS} (hf : P f = some fn) (hl : args.length = fn.nparams) : (Dn P).call f args hs = endK fn ((Dn P).code fn.body ⟨mkEnv 0 args, hs⟩) := by
  rw [Dn_call]
  have : Nat.beq args.length fn.nparams = true := by rw [hl]; exact Nat.beq_refl _
  simp only [callF, hf, this, endK]
  rw [Dn_code]
  cases codeF fn.body (Dn P) ⟨mkEnv 0 args, hs⟩ with
  | none => rfl
  | some p =>
    obtain ⟨o, s⟩ := p
    cases o <;> rfl
theorem ans_body {f : FuncId} {fn : VFunc} {args : List AV} (hf : P f = some fn) (hl : args.length = fn.nparams) : ans P f args = topK (endK fn ((Dn P).code fn.body ⟨mkEnv 0 args, ⟨[], 0⟩⟩)) := by
  unfold ans
  rw [call_body hf hl]
def callK3 (v : Option AV) (fl : Bool) (st : St) : Option (AV × St) :=
  match v with
  | none => none
  | some v => match fl with
    | false => some (v, st)
    | true => match fresh3 v with
      | true => some (v, st)
      | false => some (dull3 v, st)
noncomputable def callK2 (P : Nat → Option VFunc) (f : FuncId) (fl : Bool) (st : St) (x : Option (List AV)) : Option (AV × St) :=
  match x with
  | none => none
  | some ds => callK3 (ans P f ds) fl st
noncomputable def callK (P : Nat → Option VFunc) (f : FuncId) (hs : HS) (x : Option (List AV × Env)) : Option (AV × St) :=
  match x with
  | none => none
  | some (vs, e) => callK2 P f (vs.any fluid) ⟨e, hs⟩ (viewArgs hs.heap vs)
theorem op_call1 {f : FuncId} {args : List Rd} {e : Env} {hs : HS} : opF (.call f args) (Dn P) ⟨e, hs⟩ = callK P f hs (rdAll e args) := by
  simp only [opF, opCall, callK]
  cases rdAll e args with
  | none => rfl
  | some p =>
    obtain ⟨vs, e1⟩ := p
    simp only [callPure, callK2]
    cases viewArgs hs.heap vs with
    | none => rfl
    | some ds =>
      simp only [ans, topK, callK3]
      cases (Dn P).call f ds ⟨[], 0⟩ with
      | none => rfl
      | some q =>
        obtain ⟨v, h2⟩ := q
        simp only
        cases resTop h2.heap v with
        | none => rfl
        | some v =>
          simp only
          cases vs.any fluid with
          | false => rfl
          | true =>
            simp only
            cases fresh3 v <;> rfl
theorem callK_s {f : FuncId} {hs : HS} {vs : List AV} {e : Env} : callK P f hs (some (vs, e)) = callK2 P f (vs.any fluid) ⟨e, hs⟩ (viewArgs hs.heap vs) := rfl
theorem callK2_s {f : FuncId} {fl : Bool} {st : St} {ds : List AV} : callK2 P f fl st (some ds) = callK3 (ans P f ds) fl st := rfl
theorem callK3_f {v : AV} {st : St} : callK3 (some v) false st = some (v, st) := rfl
theorem callK3_t {v : AV} {st : St} (h : fresh3 v = true) : callK3 (some v) true st = some (v, st) := by simp only [callK3, h]
theorem callK3_i {c : Prop} [Decidable c] {x y : Option AV} {fl : Bool} {st : St} : callK3 (if c then x else y) fl st = if c then callK3 x fl st else callK3 y fl st := by split <;> rfl
def caliE (e : Env) (x : Option (AV × HS)) : Option (AV × St) :=
  match x with
  | some (v, hs) => some (v, ⟨e, hs⟩)
  | none => none
noncomputable def caliK (P : Nat → Option VFunc) (f : FuncId) (hs : HS) (x : Option (List AV × Env)) : Option (AV × St) :=
  match x with
  | none => none
  | some (vs, e) => caliE e ((Dn P).call f vs hs)
theorem op_calli1 {f : FuncId} {args : List Rd} {e : Env} {hs : HS} : opF (.calli f args) (Dn P) ⟨e, hs⟩ = caliK P f hs (rdAll e args) := by
  simp only [opF, opCalli, caliK]
  cases rdAll e args with
  | none => rfl
  | some p =>
    obtain ⟨vs, e1⟩ := p
    simp only [caliE]
    cases (Dn P).call f vs hs <;> rfl
theorem caliK_s {f : FuncId} {hs : HS} {vs : List AV} {e : Env} : caliK P f hs (some (vs, e)) = caliE e ((Dn P).call f vs hs) := rfl
theorem caliE_s {e : Env} {v : AV} {hs : HS} : caliE e (some (v, hs)) = some (v, ⟨e, hs⟩) := rfl
theorem caliE_i {c : Prop} [Decidable c] {x y : Option (AV × HS)} {e : Env} : caliE e (if c then x else y) = if c then caliE e x else caliE e y := by split <;> rfl
noncomputable def calvK2 (P : Nat → Option VFunc) (fv : AV) (hs : HS) (x : Option (List AV × Env)) : Option (AV × St) :=
  match x with
  | none => none
  | some (vs, e) => caliE e (callVal (Dn P) fv vs hs)
noncomputable def calvK (P : Nat → Option VFunc) (args : List Rd) (hs : HS) (x : Option (AV × Env)) : Option (AV × St) :=
  match x with
  | none => none
  | some (fv, e) => calvK2 P fv hs (rdAll e args)
theorem op_callv1 {f : Rd} {args : List Rd} {e : Env} {hs : HS} : opF (.callv f args) (Dn P) ⟨e, hs⟩ = calvK P args hs (rd e f) := by
  simp only [opF, opCallv, calvK]
  cases rd e f with
  | none => rfl
  | some p =>
    obtain ⟨fv, e0⟩ := p
    simp only [calvK2]
    cases rdAll e0 args with
    | none => rfl
    | some q =>
      obtain ⟨vs, e1⟩ := q
      simp only [caliE]
      cases callVal (Dn P) fv vs hs <;> rfl
theorem calvK_s {args : List Rd} {hs : HS} {fv : AV} {e : Env} : calvK P args hs (some (fv, e)) = calvK2 P fv hs (rdAll e args) := rfl
theorem calvK2_s {fv : AV} {hs : HS} {vs : List AV} {e : Env} : calvK2 P fv hs (some (vs, e)) = caliE e (callVal (Dn P) fv vs hs) := rfl
theorem callVal_f {g : FuncId} {first caps args : List AV} {hs : HS} : callVal (Dn P) (.fn g first caps) args hs = (Dn P).call g (first ++ (args ++ caps)) hs := (rfl)

/-! ### The other operations -/
theorem o_mov {r : Rec} {st : St} {x : Rd} : opF (.mov x) r st = opMov x st := rfl
theorem o_pick {r : Rec} {st : St} {c a b : Rd} : opF (.pick c a b) r st = opPick c a b st := rfl
theorem o_alloc {r : Rec} {st : St} {zs : List AV} : opF (.alloc zs) r st = opAlloc zs st := rfl
theorem o_box {r : Rec} {st : St} {x : Rd} : opF (.box x) r st = opBox x st := rfl
theorem o_build {r : Rec} {st : St} {zs : List AV} {ps : List (Nat × Nat × Rd)} : opF (.build zs ps) r st = opBuild zs ps st := rfl
theorem o_mks {r : Rec} {st : St} {m : Nat} {ps : List Rd} : opF (.mks m ps) r st = opMks m ps st := rfl
theorem o_mksv {r : Rec} {st : St} {m : Nat} {ps : List Rd} : opF (.mksv m ps) r st = opMksv m ps st := rfl
theorem o_ld {r : Rec} {st : St} {n : Option Nat} {t : Nat} {p : Rd} : opF (.ld n t p) r st = opLd n t p st := rfl
theorem o_st {r : Rec} {st : St} {n : Nat} {p x : Rd} : opF (.st n p x) r st = opSt n p x st := rfl
theorem o_nilck {r : Rec} {st : St} {x : Rd} : opF (.nilck x) r st = opNilck x st := rfl
theorem o_binb {r : Rec} {st : St} {neg : Bool} {x y : Rd} : opF (.binb neg x y) r st = opBinb neg x y st := rfl
theorem o_bina {r : Rec} {st : St} {neg : Bool} {ks : List Bool} {x y : Rd} : opF (.bina neg ks x y) r st = opBina neg ks x y st := rfl
theorem o_un {r : Rec} {st : St} {op : UnOp} {x : Rd} : opF (.un op x) r st = opUn op x st := rfl
theorem o_conv {r : Rec} {st : St} {k : IntKind} {x : Rd} : opF (.conv k x) r st = opConv k x st := rfl
theorem o_toStr {r : Rec} {st : St} {x : Rd} : opF (.toStr x) r st = opToStr x st := rfl
theorem o_mkfn {r : Rec} {st : St} {f : FuncId} {a c : List Rd} : opF (.mkfn f a c) r st = opMkfn f a c st := rfl
theorem o_mkslice {r : Rec} {st : St} {z : List D} {l c : Rd} : opF (.mkslice z l c) r st = opMkslice z l c st := rfl
theorem o_slice {r : Rec} {st : St} {m : Nat} {x : Rd} {lo hi mx : Option Rd} : opF (.slice m x lo hi mx) r st = opSlice m x lo hi mx st := rfl
theorem o_slarr {r : Rec} {st : St} {m : Nat} {x : Rd} {lo hi mx : Option Rd} : opF (.slarr m x lo hi mx) r st = opSlarr m x lo hi mx st := rfl
theorem o_fa {r : Rec} {st : St} {o : Nat} {p : Rd} : opF (.fa o p) r st = opFa o p st := rfl
theorem o_fld {r : Rec} {st : St} {o : Nat} {n : Option Nat} {x : Rd} : opF (.fld o n x) r st = opFld o n x st := rfl
theorem o_ia {r : Rec} {st : St} {n : Nat} {x i : Rd} : opF (.ia n x i) r st = opIa n x i st := rfl
theorem o_iarr {r : Rec} {st : St} {l n : Nat} {p i : Rd} : opF (.iarr l n p i) r st = opIarr l n p i st := rfl
theorem o_ix {r : Rec} {st : St} {l n : Nat} {a : Bool} {x i : Rd} : opF (.ix l n a x i) r st = opIx l n a x i st := rfl
theorem o_ixs {r : Rec} {st : St} {x i : Rd} : opF (.ixs x i) r st = opIxs x i st := rfl
theorem o_idxb {r : Rec} {st : St} {x c : Rd} : opF (.idxb x c) r st = opIdxb x c st := rfl
theorem o_ext {r : Rec} {st : St} {j : Nat} {mv : Bool} {i : Nat} : opF (.ext j mv i) r st = opExt j mv i st := rfl
theorem o_len {r : Rec} {st : St} {x : Rd} : opF (.len x) r st = opLen x st := rfl
theorem o_cap {r : Rec} {st : St} {x : Rd} : opF (.cap x) r st = opCap x st := rfl
theorem o_app {r : Rec} {st : St} {m : Nat} {x y : Rd} : opF (.app m x y) r st = opApp m x y st := rfl
theorem o_appz {r : Rec} {st : St} {z : List D} {x n : Rd} : opF (.appz z x n) r st = opAppz z x n st := rfl
theorem o_cpy {r : Rec} {st : St} {m : Nat} {x y : Rd} : opF (.cpy m x y) r st = opCpy m x y st := rfl
theorem o_clr {r : Rec} {st : St} {z : List D} {x : Rd} : opF (.clr z x) r st = opClr z x st := rfl
theorem o_minmax {r : Rec} {st : St} {b : Bool} {xs : List Rd} : opF (.minmax b xs) r st = opMinmax b xs st := rfl
theorem o_kill {r : Rec} {st : St} {is : List Nat} : opF (.kill is) r st = opKill is st := rfl
theorem o_free {r : Rec} {st : St} {i : Nat} : opF (.free i) r st = opFree i st := rfl
theorem o_wk {r : Rec} {st : St} {i m : Nat} : opF (.wk i m) r st = opWk i m st := rfl
theorem o_frz {r : Rec} {st : St} {i : Nat} : opF (.frz i) r st = opFrz i st := rfl
theorem o_frzC {r : Rec} {st : St} {i : Nat} {os : List Nat} : opF (.frzC i os) r st = opFrzC i os st := rfl
/-! ### Branches that meet again -/
theorem ite_m1 {α : Type} {a b : Prop} [Decidable a] [Decidable b] {x y : α} : (if a then (if b then x else y) else y) = if a ∧ b then x else y := by
  by_cases h : a <;> by_cases k : b <;> simp [h, k]
theorem ite_m2 {α : Type} {a b : Prop} [Decidable a] [Decidable b] {x y : α} : (if a then x else (if b then x else y)) = if a ∨ b then x else y := by
  by_cases h : a <;> by_cases k : b <;> simp [h, k]
theorem ite_m3 {α : Type} {a b : Prop} [Decidable a] [Decidable b] {x y : α} : (if a then (if b then y else x) else y) = if a ∧ ¬ b then x else y := by
  by_cases h : a <;> by_cases k : b <;> simp [h, k]
theorem ite_m4 {α : Type} {a b : Prop} [Decidable a] [Decidable b] {x y : α} : (if a then x else (if b then y else x)) = if a ∨ ¬ b then x else y := by
  by_cases h : a <;> by_cases k : b <;> simp [h, k]

/-! ### Typed lists -/
/-- An element of a list. -/
def nth {α : Type} [Inhabited α] (l : List α) (i : Nat) : α := l.getD i default
theorem nth_at {α : Type} [Inhabited α] {l : List α} {i : Nat} (h : i < l.length) : nth l i = l[i] := by simp [nth, h]
theorem nth_opt {α : Type} [Inhabited α] {l : List α} {i : Nat} (h : i < l.length) : l[i]? = some (nth l i) := by simp [nth, h]
theorem nth_0 {α : Type} [Inhabited α] {x : α} {l : List α} : nth (x :: l) 0 = x := rfl
theorem nth_s {α : Type} [Inhabited α] {x : α} {l : List α} {i : Nat} : nth (x :: l) (i + 1) = nth l i := rfl
theorem drop_nth {α : Type} [Inhabited α] {l : List α} {i : Nat} (h : i < l.length) : l.drop i = nth l i :: l.drop (i + 1) := by rw [List.drop_eq_getElem_cons h, nth_at h]
theorem nth_drop {α : Type} [Inhabited α] {l : List α} {i j : Nat} : nth (l.drop i) j = nth l (i + j) := by simp [nth]
theorem nth_mem {α : Type} [Inhabited α] {l : List α} {i : Nat} (h : i < l.length) : nth l i ∈ l := by rw [nth_at h]; exact List.getElem_mem h
abbrev I (n : Int) : D := .int .i64 n
abbrev Y (n : Int) : D := .int .u8 n
/-- Numbers as a list's elements. -/
def ints (l : List Int) : List (List D) := l.map fun (n : Int) => [D.int .i64 n]
/-- Bytes as a list's elements. -/
def byts (l : List Nat) : List (List D) := l.map fun (n : Nat) => [D.int .u8 (n : Int)]
def bools (l : List Bool) : List (List D) := l.map fun (n : Bool) => [D.bool n]
theorem ints_len {l : List Int} : (ints l).length = l.length := by simp [ints]
theorem byts_len {l : List Nat} : (byts l).length = l.length := by simp [byts]
theorem bools_len {l : List Bool} : (bools l).length = l.length := by simp [bools]
theorem ints_get {l : List Int} {i : Nat} (h : i < l.length) : (ints l)[i]? = some [.int .i64 (nth l i)] := by simp [ints, nth_opt h]
theorem byts_get {l : List Nat} {i : Nat} (h : i < l.length) : (byts l)[i]? = some [.int .u8 (nth l i : Nat)] := by simp [byts, nth_opt h]
theorem bools_get {l : List Bool} {i : Nat} (h : i < l.length) : (bools l)[i]? = some [.bool (nth l i)] := by simp [bools, nth_opt h]
theorem toNat_add {a b : Nat} : ((a : Int) + (b : Int)).toNat = a + b := by omega
theorem beqN {a b : Nat} : Nat.beq a b = decide (a = b) := by
  cases h : Nat.beq a b with
  | true => simp [Nat.eq_of_beq_eq_true h]
  | false => simp [Nat.ne_of_beq_eq_false h]
theorem bleN {a b : Nat} : Nat.ble a b = decide (a ≤ b) := by
  cases h : Nat.ble a b with
  | true => simp [Nat.le_of_ble_eq_true h]
  | false =>
    have : ¬ a ≤ b := fun h' => by rw [Nat.ble_eq_true_of_le h'] at h; simp at h
    simp [this]

/-! ### Where rewriting looks -/
theorem cg_seqK {x y : Option (Out × St)} {b : VC} (h : x = y) : seqK P x b = seqK P y b := by rw [h]
theorem cg_blkK {x y : Option (Out × St)} {b : Nat} (h : x = y) : blkK b x = blkK b y := by rw [h]
theorem cg_loopK {x y : Option (Out × St)} {b : VC} (h : x = y) : loopK P b x = loopK P b y := by rw [h]
theorem cg_endK {x y : Option (Out × St)} {b : VFunc} (h : x = y) : endK b x = endK b y := by rw [h]
theorem cg_opsK {x y : Option St} {l : List VI} (h : x = y) : opsK P x l = opsK P y l := by rw [h]
theorem cg_runK {x y : Option St} {vs : List VI} {l : List Nat} (h : x = y) : runK P vs x l = runK P vs y l := by rw [h]
theorem cg_opsF {r : Rec} {x y : St} {l : List VI} (h : x = y) : opsF r l x = opsF r l y := by rw [h]
theorem cg_runL {r : Rec} {x y : St} {vs : List VI} {l : List Nat} (h : x = y) : runL r vs l x = runL r vs l y := by rw [h]
theorem cg_viF {r : Rec} {x y : St} {v : VI} (h : x = y) : viF r v x = viF r v y := by rw [h]
theorem cg_opF {r : Rec} {x y : St} {v : VOp} (h : x = y) : opF v r x = opF v r y := by rw [h]
theorem cg_code {r : Rec} {c : VC} {x y : St} (h : x = y) : r.code c x = r.code c y := by rw [h]
theorem cg_condK {v w : Option AV} {a b : VC} {x y : St} (h : v = w) (k : x = y) : condK P v a b x = condK P w a b y := by rw [h, k]
theorem cg_grdK {v w : Option AV} {t : Bool} {d : Option Nat} {op : VOp} {th : List (Nat × Nat)} {x y : St} (h : v = w) (k : x = y) : grdK P v t d op th x = grdK P w t d op th y := by rw [h, k]
end Go.Vm

/-
  CHAINS: a region's operations one behind the other, as values alone. 'cops' is the run of a region in this form; a region's own chain is what 'cops' unfolds to.
-/
namespace Go.Vm
variable {P : Nat → Option VFunc}

def bA {α β : Type} (x : Option α) (f : α → Option β) : Option β :=
  match x with
  | some v => f v
  | none => none
def bP {α γ β : Type} (x : Option (α × γ)) (f : α → γ → Option β) : Option β :=
  match x with
  | some (v, w) => f v w
  | none => none
def lA {α β : Type} (x : α) (f : α → β) : β := f x
def lP {α γ β : Type} (x : α × γ) (f : α → γ → β) : β := f x.1 x.2
def okB {β : Type} (c : Bool) (x : Option β) : Option β :=
  match c with
  | true => x
  | false => none
def gV (g : AV) (w : Bool) (x : Option AV) : Option AV :=
  match g with
  | .d (.bool b) => if b = w then x else some (.tup [])
  | .tup [] => some (.tup [])
  | _ => none
def gH (g : AV) (w : Bool) (hs : HS) (x : Option (AV × HS)) : Option (AV × HS) :=
  match g with
  | .d (.bool b) => if b = w then x else some (.tup [], hs)
  | .tup [] => some (.tup [], hs)
  | _ => none
def pickV (c a b : AV) : Option AV :=
  match c with
  | .d (.bool true) => some a
  | .d (.bool false) => some b
  | _ => none
def binbV (neg : Bool) (a b : AV) : Option D :=
  match a, b with
  | .d (.bool a), .d (.bool b) => some (.bool (match neg with | true => !(a == b) | false => a == b))
  | _, _ => none
def binaV (neg : Bool) (ks : List Bool) (a b : AV) : Option D :=
  match a, b with
  | .agg a, .agg b => match sameCells ks a b with
    | some t => some (.bool (match neg with | true => !t | false => t))
    | none => none
  | _, _ => none
def binD (op : BinOp) (a b : AV) : Option D :=
  match binOf op a b with
  | some (.d x) => some x
  | _ => none
def unD (op : UnOp) (a : AV) : Option D :=
  match unOf op a with
  | some (.d x) => some x
  | _ => none
def convD (k : IntKind) (a : AV) : Option D :=
  match a with
  | .d (.int _ n) => some (.int k (wr k n))
  | _ => none
def toStrD (h : Heap) (a : AV) : Option D :=
  match elems h a with
  | some xs => match toBytes xs with
    | some s => some (.str s)
    | none => none
  | none => none
def mkslcV (z : List D) (l c : AV) : Option AV :=
  match natUpTo c most with
  | some c => match natUpTo l c with
    | some n => some (.own true z.length (List.replicate n z))
    | none => none
  | none => none
def slcV (h : Heap) (m : Nat) (x : AV) (lo hi mx : Option AV) : Option AV :=
  match okSl h m x with
  | true => sliceOf m x lo hi mx
  | false => none
def slarrV (hp : Heap) (n : Nat) (x : AV) (lo hi mx : Option AV) : Option AV :=
  match x with
  | .ptr id off => slarrOf hp n id off lo hi mx
  | _ => none
def fldV (off : Nat) (n : Option Nat) (x : AV) : Option AV :=
  match x with
  | .agg cs => partOf n cs off
  | _ => none
def iaV (hp : Heap) (n : Nat) (x i : AV) : Option AV :=
  match natOf i with
  | some i => match x with
    | .sl id off len => match Nat.ble len i with
      | true => none
      | false => match get hp id with
        | some (.arr m _) => match Nat.beq m n with
          | true => some (.pel id (off + i) 0)
          | false => none
        | some (.cells _) => match Nat.beq n 1 with
          | true => some (.ptr id (off + i))
          | false => none
        | _ => none
    | v => match elems hp v with
      | some xs => match xs[i]? with
        | some x => match Nat.beq x.length n with
          | true => some (.pim x 0)
          | false => none
        | none => none
      | none => none
  | none => none
def iarrV (len n : Nat) (p i : AV) : Option AV :=
  match natOf i with
  | some i => match Nat.ble len i with
    | true => none
    | false => addOff (i * n) p
  | none => none
def ixV (len n : Nat) (agg : Bool) (x i : AV) : Option AV :=
  match x with
  | .agg cs => match natOf i with
    | some i => match Nat.ble len i with
      | true => none
      | false => partOf (optN agg n) cs (i * n)
    | none => none
  | _ => none
def ixsD (x i : AV) : Option D :=
  match x with
  | .d (.str s) => match natOf i with
    | some i => match s[i]? with
      | some b => some (.int .u8 (.ofNat b.toNat))
      | none => none
    | none => none
  | _ => none
def extV (mv : Bool) (t : AV) (i : Nat) : Option AV :=
  match t with
  | .tup vs => match vs[i]? with
    | some v => match mv with
      | true => some v
      | false => some (share v)
    | none => none
  | _ => none
def extR (t : AV) (i : Nat) : AV :=
  match t with
  | .tup vs => .tup (vs.set i .junk)
  | v => v
def capB (x : AV) : Bool :=
  match x with
  | .nl => true
  | _ => false
def apdV (m : Nat) (h : Heap) (a b : AV) : Option (AV × Heap) :=
  match elems h b with
  | some ys => match okElems m ys with
    | true => appendTo m h a ys
    | false => none
  | none => none
def appzV (z : List D) (h : Heap) (a n : AV) : Option (AV × Heap) :=
  match natUpTo n most with
  | some n => appendTo z.length h a (List.replicate n z)
  | none => none
def cpyV (m : Nat) (hp : Heap) (a b : AV) : Option (D × Heap) :=
  match elems hp b with
  | some ys => match a with
    | .sl id off len => match get hp id with
      | some (.arr k xs) => match okElems m ys && Nat.beq k m && Nat.ble (off + len) xs.length with
        | true => some (.int .i64 (.ofNat (min len ys.length)), put hp id (.arr k (setCells xs off (ys.take len))))
        | false => none
      | _ => none
    | _ => match lenOf a with
      | some 0 => some (.int .i64 (.ofNat 0), hp)
      | _ => none
  | none => none
def clrV (z : List D) (hp : Heap) (x : AV) : Option Heap :=
  match x with
  | .sl id off len => match get hp id with
    | some (.arr k xs) => match Nat.beq k z.length && Nat.ble (off + len) xs.length with
      | true => some (put hp id (.arr k (setCells xs off (List.replicate len z))))
      | false => none
    | _ => none
  | _ => none
def minmaxV (isMax : Bool) (vs : List AV) : Option AV :=
  match vs with
  | .d (.int k n) :: vs => foldMM isMax (.d (.int k n)) vs
  | _ => none
def nilckV (v : AV) : Option AV :=
  match v with
  | .ptr .. | .pel .. | .pim .. | .fn .. | .yield .. => some v
  | _ => none
def lodV (h : Heap) (n : Option Nat) (p : AV) : Option AV :=
  match loadAt h n 0 p with
  | some (v, _) => some v
  | none => none
def mksvB (m : Nat) (vs : List AV) : Bool := vs.all fun v => Nat.beq v.cells.length m && v.cells.all isCell

/-! ### One operation, its answer handed on -/
def rdK {β : Type} (e : Env) (x : Rd) (k : AV → Env → Option β) : Option β :=
  match rd e x with
  | some (v, e) => k v e
  | none => none
def rdsK {β : Type} : Env → List Rd → (List AV → Env → Option β) → Option β
  | e, [], k => k [] e
  | e, x :: r, k => match rd e x with
    | some (v, e) => rdsK e r fun vs e => k (v :: vs) e
    | none => none
def rdoK {β : Type} (e : Env) (x : Option Rd) (k : Option AV → Env → Option β) : Option β :=
  match x with
  | none => k none e
  | some x => match rd e x with
    | some (v, e) => k (some v) e
    | none => none
def stillR : Rd → Bool
  | .m _ => false
  | _ => true
noncomputable def cop {β : Type} (P : Nat → Option VFunc) (op : VOp) (e : Env) (hs : HS) (k : AV → Env → HS → Option β) : Option β :=
  match op with
  | .mov x => rdK e x fun v e => k v e hs
  | .pick c a b => rdK e c fun c e => match stillR a && stillR b, rd e a, rd e b with
    | true, some (a, _), some (b, _) => bA (pickV c a b) fun v => k v e hs
    | _, _, _ => bP (opPick (.c c) a b ⟨e, hs⟩) fun v st => k v st.env st.hs
  | .alloc zs => lA (put hs.heap hs.next (.cells zs)) fun h => k (.ptr hs.next 0) e ⟨h, hs.next + 1⟩
  | .box x => rdK e x fun v e => okB (v.cells.all isCell) (lA (put hs.heap hs.next (.cells v.cells)) fun h => k (.ptr hs.next 0) e ⟨h, hs.next + 1⟩)
  | .build zs ps => rdsK e (readsOf ps) fun vs e => bA (fillCells zs (withVals ps vs)) fun cs => k (.agg cs) e hs
  | .mks m ps => rdsK e ps fun vs e => bA (mkElems m vs) fun xs => k (.own true m xs) e hs
  | .mksv m ps => rdsK e ps fun vs e => okB (mksvB m vs) (lA (put hs.heap hs.next (.cells (vs.flatMap AV.cells))) fun h => k (.sl hs.next 0 vs.length) e ⟨h, hs.next + 1⟩)
  | .ld n 0 p => rdK e p fun p e => bA (lodV hs.heap n p) fun v => k v e hs
  | .ld n (t + 1) p => rdK e p fun p e => bP (loadAt hs.heap n (t + 1) p) fun v h => k v e ⟨h, hs.next⟩
  | .st n p x => rdK e p fun p e => rdK e x fun x e => bA (storeAt hs.heap n p x) fun h => k .junk e ⟨h, hs.next⟩
  | .nilck x => rdK e x fun v e => bA (nilckV v) fun v => k v e hs
  | .bin op x y => rdK e x fun a e => rdK e y fun b e => bA (binD op a b) fun v => k (.d v) e hs
  | .binb neg x y => rdK e x fun a e => rdK e y fun b e => bA (binbV neg a b) fun v => k (.d v) e hs
  | .bina neg ks x y => rdK e x fun a e => rdK e y fun b e => bA (binaV neg ks a b) fun v => k (.d v) e hs
  | .un op x => rdK e x fun a e => bA (unD op a) fun v => k (.d v) e hs
  | .conv j x => rdK e x fun a e => bA (convD j a) fun v => k (.d v) e hs
  | .toStr x => rdK e x fun a e => bA (toStrD hs.heap a) fun v => k (.d v) e hs
  | .mkfn f a c => rdsK e a fun a e => rdsK e c fun c e => k (.fn f (shareAll a) (shareAll c)) e hs
  | .mkslice z l c => rdK e l fun l e => rdK e c fun c e => bA (mkslcV z l c) fun v => k v e hs
  | .slice m x lo hi mx => rdK e x fun x e => rdoK e lo fun lo e => rdoK e hi fun hi e => rdoK e mx fun mx e => bA (slcV hs.heap m x lo hi mx) fun v => k v e hs
  | .slarr n x lo hi mx => rdK e x fun x e => rdoK e lo fun lo e => rdoK e hi fun hi e => rdoK e mx fun mx e => bA (slarrV hs.heap n x lo hi mx) fun v => k v e hs
  | .fa off p => rdK e p fun p e => bA (addOff off p) fun v => k v e hs
  | .fld off n x => rdK e x fun x e => bA (fldV off n x) fun v => k v e hs
  | .ia n x i => rdK e x fun x e => rdK e i fun i e => bA (iaV hs.heap n x i) fun v => k v e hs
  | .iarr l n p i => rdK e p fun p e => rdK e i fun i e => bA (iarrV l n p i) fun v => k v e hs
  | .ix l n a x i => rdK e x fun x e => rdK e i fun i e => bA (ixV l n a x i) fun v => k v e hs
  | .ixs x i => rdK e x fun x e => rdK e i fun i e => bA (ixsD x i) fun v => k (.d v) e hs
  | .ext j true i => match get e j with
    | some t => bA (extV true t i) fun v => k v (put e j (extR t i)) hs
    | none => none
  | .ext j false i => match get e j with
    | some t => bA (extV false t i) fun v => k v e hs
    | none => none
  | .len x => rdK e x fun x e => bA (lenOf x) fun n => k (.int .i64 (.ofNat n)) e hs
  | .cap x => rdK e x fun x e => okB (capB x) (k (.int .i64 (.ofNat 0)) e hs)
  | .app m x y => rdK e x fun a e => rdK e y fun b e => bP (apdV m hs.heap a b) fun v h => k v e ⟨h, hs.next⟩
  | .appz z x n => rdK e x fun a e => rdK e n fun n e => bP (appzV z hs.heap a n) fun v h => k v e ⟨h, hs.next⟩
  | .cpy m x y => rdK e x fun a e => rdK e y fun b e => bP (cpyV m hs.heap a b) fun v h => k (.d v) e ⟨h, hs.next⟩
  | .clr z x => rdK e x fun x e => bA (clrV z hs.heap x) fun h => k (.tup []) e ⟨h, hs.next⟩
  | .minmax b xs => rdsK e xs fun vs e => bA (minmaxV b vs) fun v => k v e hs
  | .call f args => rdsK e args fun vs e => bA (callPure (Dn P) f vs hs.heap) fun v => k v e hs
  | .calli f args => rdsK e args fun vs e => bP ((Dn P).call f vs hs) fun v hs => k v e hs
  | .callv f args => rdK e f fun f e => rdsK e args fun vs e => bP (callVal (Dn P) f vs hs) fun v hs => k v e hs
  | .kill is => k (.tup []) (is.foldl del e) hs
  | .idxb x c => rdK e x fun x e => rdK e c fun c e => bA (idxV hs.heap x c) fun v => k v e hs
  | op => bP (opF op (Dn P) ⟨e, hs⟩) fun v st => k v st.env st.hs
def stillRs : List Rd → Bool
  | [] => true
  | x :: r => stillR x && stillRs r
def stillO : Option Rd → Bool
  | none => true
  | some x => stillR x
/-- Does an operation leave the variables as they are, and the heap? -/
def still : VOp → Bool
  | .mov x => stillR x
  | .ld _ 0 p => stillR p
  | .nilck x => stillR x
  | .bin _ x y => stillR x && stillR y
  | .binb _ x y => stillR x && stillR y
  | .un _ x => stillR x
  | .conv _ x => stillR x
  | .fa _ p => stillR p
  | .fld _ _ x => stillR x
  | .ia _ x i => stillR x && stillR i
  | .iarr _ _ p i => stillR p && stillR i
  | .ix _ _ _ x i => stillR x && stillR i
  | .ixs x i => stillR x && stillR i
  | .ext _ mv _ => !mv
  | .len x => stillR x
  | .call _ args => stillRs args
  | .pick c a b => stillR c && stillR a && stillR b
  | .build _ ps => stillRs (readsOf ps)
  | .toStr x => stillR x
  | .mkfn _ a c => stillRs a && stillRs c
  | .mkslice _ l c => stillR l && stillR c
  | .minmax _ xs => stillRs xs
  | .slice _ x a b c => stillR x && (stillO a && (stillO b && stillO c))
  | _ => false
def stillE : VOp → Bool
  | .calli _ args => stillRs args
  | .callv f args => stillR f && stillRs args
  | _ => false
/-- One instruction. -/
noncomputable def cvi (P : Nat → Option VFunc) (i : VI) (e : Env) (hs : HS) (k : Env → HS → Option St) : Option St :=
  match i.guard with
  | none => match i.th with
    | [] => match i.dst with
      | some d => cop P i.op e hs fun v e hs => k (put e d (firm v)) hs
      | none => cop P i.op e hs fun _ e hs => k e hs
    | th => match i.dst with
      | some d => cop P i.op e hs fun v e hs => lP (thawParts th v hs) fun v hs => k (put e d (firm v)) hs
      | none => cop P i.op e hs fun v e hs => lP (thawParts th v hs) fun _ hs => k e hs
  | some (s, w) => match still i.op, i.th, i.dst with
    | true, [], some d => match get e s with
      | some g => bA (gV g w (cop P i.op e hs fun v _ _ => some v)) fun v => k (put e d (firm v)) hs
      | none => none
    | _, _, _ => match stillE i.op, i.th, i.dst with
      | true, [], some d => match get e s with
        | some g => bP (gH g w hs (cop P i.op e hs fun v _ hs => some (v, hs))) fun v hs => k (put e d (firm v)) hs
        | none => none
      | _, _, _ => bA (viF (Dn P) i ⟨e, hs⟩) fun st => k st.env st.hs
noncomputable def cops (P : Nat → Option VFunc) : List VI → Env → HS → Option St
  | [], e, hs => some ⟨e, hs⟩
  | i :: l, e, hs => cvi P i e hs fun e hs => cops P l e hs

/-! ### The same run -/
theorem binOf_d {op : BinOp} {a b v : AV} (h : binOf op a b = some v) : ∃ x, v = .d x := by
  unfold binOf at h
  split at h
  · split at h
    · simp only [Option.some.injEq] at h; exact ⟨_, h.symm⟩
    · simp at h
  · split at h
    · simp only [Option.some.injEq] at h; exact ⟨_, h.symm⟩
    · simp only [Option.some.injEq] at h; exact ⟨_, h.symm⟩
    · simp at h
  · simp at h
theorem unOf_d {op : UnOp} {a v : AV} (h : unOf op a = some v) : ∃ x, v = .d x := by
  unfold unOf at h
  split at h
  · split at h
    · simp only [Option.some.injEq] at h; exact ⟨_, h.symm⟩
    · split at h
      · simp only [Option.some.injEq] at h; exact ⟨_, h.symm⟩
      · simp at h
    · simp at h
  · split at h
    · simp only [Option.some.injEq] at h; exact ⟨_, h.symm⟩
    · simp at h
  · simp at h
theorem rdK_eq {β : Type} {e : Env} {x : Rd} {k : AV → Env → Option β} : rdK e x k = match rd e x with | some (v, e) => k v e | none => none := rfl
theorem rdsK_eq {β : Type} : ∀ {l : List Rd} {e : Env} {k : List AV → Env → Option β}, rdsK e l k = match rdAll e l with | some (vs, e) => k vs e | none => none
  | [], _, _ => rfl
  | x :: r, e, k => by
    simp only [rdsK, rdAll]
    cases rd e x with
    | none => rfl
    | some p =>
      obtain ⟨v, e1⟩ := p
      simp only
      rw [rdsK_eq]
      cases rdAll e1 r <;> rfl
theorem rdoK_eq {β : Type} {e : Env} {x : Option Rd} {k : Option AV → Env → Option β} : rdoK e x k = match rdOpt e x with | some (v, e) => k v e | none => none := by
  cases x with
  | none => rfl
  | some x => simp only [rdoK, rdOpt]; cases rd e x <;> rfl
theorem lod_same {h h' : Heap} {n : Option Nat} {p v : AV} (k : loadAt h n 0 p = some (v, h')) : h' = h := by
  unfold loadAt at k
  split at k
  · split at k
    · split at k
      · split at k
        · simp at k
        · simp only [Option.some.injEq, Prod.mk.injEq] at k; exact k.2.symm
      · split at k
        · simp only [Option.some.injEq, Prod.mk.injEq] at k; exact k.2.symm
        · simp at k
    · simp at k
  · split at k
    · split at k
      · split at k
        · simp only [Option.some.injEq, Prod.mk.injEq] at k; exact k.2.symm
        · simp at k
      · simp at k
    · simp at k
  · split at k
    · simp only [Option.some.injEq, Prod.mk.injEq] at k; exact k.2.symm
    · simp at k
  · simp at k
/-- What an operation answers, handed on. -/
def onK {β : Type} (x : Option (AV × St)) (k : AV → Env → HS → Option β) : Option β :=
  match x with
  | some (v, st) => k v st.env st.hs
  | none => none
theorem rd_still {e e1 : Env} {x : Rd} {v : AV} (hs : stillR x = true) (h : rd e x = some (v, e1)) : e1 = e := by
  cases x with
  | s i => simp only [rd] at h; split at h <;> simp_all
  | m i => simp [stillR] at hs
  | c v => simp only [rd, Option.some.injEq, Prod.mk.injEq] at h; exact h.2.symm
theorem opPick_t {a b : Rd} {st : St} : opPick (.c (.d (.bool true))) a b st = match rd st.env a with | some (v, e) => some (v, ⟨e, st.hs⟩) | none => none := rfl
theorem opPick_f {a b : Rd} {st : St} : opPick (.c (.d (.bool false))) a b st = match rd st.env b with | some (v, e) => some (v, ⟨e, st.hs⟩) | none => none := rfl
theorem cop_eq {β : Type} {op : VOp} {e : Env} {hs : HS} {k : AV → Env → HS → Option β} : cop P op e hs k = onK (opF op (Dn P) ⟨e, hs⟩) k := by
  cases op with
  | mov x => simp only [cop, opF, opMov, rdK_eq, onK]; cases rd e x <;> rfl
  | pick c a b =>
    simp only [cop, opF, rdK_eq]
    cases hc : rd e c with
    | none => simp only [opPick, hc, onK]
    | some q =>
      obtain ⟨v, e1⟩ := q
      have h0 : opPick c a b ⟨e, hs⟩ = opPick (.c v) a b ⟨e1, hs⟩ := by
        unfold opPick
        simp only
        rw [hc]
        rfl
      rw [h0]
      simp only
      split
      · rename_i va _ vb _ hst hra hrb
        simp only [Bool.and_eq_true] at hst
        have ea := rd_still hst.1 hra
        have eb := rd_still hst.2 hrb
        subst ea
        subst eb
        simp only [onK]
        cases v with
        | d x => cases x with
          | bool t =>
            cases t
            · rw [opPick_f]; simp only [hrb, pickV, bA]
            · rw [opPick_t]; simp only [hra, pickV, bA]
          | _ => rfl
        | _ => rfl
      · simp only [bP, onK]
        cases opPick (.c v) a b ⟨e1, hs⟩ <;> rfl
  | ld n t p =>
    cases t with
    | zero =>
      simp only [cop, opF, opLd, rdK_eq, onK]
      cases rd e p with
      | none => rfl
      | some q =>
        obtain ⟨v, e1⟩ := q
        simp only [lodV, bA]
        cases hl : loadAt hs.heap n 0 v with
        | none => rfl
        | some r => obtain ⟨v2, h2⟩ := r; simp only [lod_same hl]
    | succ t =>
      simp only [cop, opF, opLd, rdK_eq, onK]
      cases rd e p with
      | none => rfl
      | some q =>
        obtain ⟨v, e1⟩ := q
        simp only [bP]
        cases loadAt hs.heap n (t + 1) v <;> rfl
  | alloc zs => rfl
  | box x =>
    simp only [cop, opF, opBox, rdK_eq, onK]
    cases rd e x with
    | none => rfl
    | some q =>
      obtain ⟨v, e1⟩ := q
      simp only [okB, lA, boxNew]
      cases v.cells.all isCell <;> rfl
  | build zs ps =>
    simp only [cop, opF, opBuild, rdsK_eq, onK]
    cases rdAll e (readsOf ps) with
    | none => rfl
    | some q =>
      obtain ⟨v, e1⟩ := q
      simp only [bA]
      cases fillCells zs (withVals ps v) <;> rfl
  | mks m ps =>
    simp only [cop, opF, opMks, rdsK_eq, onK]
    cases rdAll e ps with
    | none => rfl
    | some q =>
      obtain ⟨v, e1⟩ := q
      simp only [bA]
      cases mkElems m v <;> rfl
  | mksv m ps =>
    simp only [cop, opF, opMksv, rdsK_eq, onK]
    cases rdAll e ps with
    | none => rfl
    | some q =>
      obtain ⟨v, e1⟩ := q
      simp only [okB, lA, boxNew, mksvB]
      cases v.all (fun v => Nat.beq v.cells.length m && v.cells.all isCell) <;> rfl
  | st n p x =>
    simp only [cop, opF, opSt, rdK_eq, onK]
    cases rd e p with
    | none => rfl
    | some q =>
      obtain ⟨v, e1⟩ := q
      simp only
      cases rd e1 x with
      | none => rfl
      | some q =>
        obtain ⟨w, e2⟩ := q
        simp only [bA]
        cases storeAt hs.heap n v w <;> rfl
  | nilck x =>
    simp only [cop, opF, opNilck, rdK_eq, onK]
    cases rd e x with
    | none => rfl
    | some q =>
      obtain ⟨v, e1⟩ := q
      simp only [bA, nilckV]
      cases v <;> rfl
  | bin op x y =>
    simp only [cop, opF, opBin, binQ_eq, rdK_eq, onK]
    cases rd e x with
    | none => rfl
    | some q =>
      obtain ⟨v, e1⟩ := q
      simp only
      cases rd e1 y with
      | none => rfl
      | some q =>
        obtain ⟨w, e2⟩ := q
        simp only [bA, binD]
        cases hb : binOf op v w with
        | none => rfl
        | some z => obtain ⟨d, rfl⟩ := binOf_d hb; rfl
  | binb neg x y =>
    simp only [cop, opF, opBinb, rdK_eq, onK]
    cases rd e x with
    | none => rfl
    | some q =>
      obtain ⟨v, e1⟩ := q
      simp only
      cases rd e1 y with
      | none => rfl
      | some q =>
        obtain ⟨w, e2⟩ := q
        simp only [bA, binbV]
        cases v <;> try rfl
        rename_i x
        cases x <;> try rfl
        cases w <;> try rfl
        rename_i x
        cases x <;> rfl
  | bina neg ks x y =>
    simp only [cop, opF, opBina, rdK_eq, onK]
    cases rd e x with
    | none => rfl
    | some q =>
      obtain ⟨v, e1⟩ := q
      simp only
      cases rd e1 y with
      | none => rfl
      | some q =>
        obtain ⟨w, e2⟩ := q
        simp only [bA, binaV]
        cases v <;> try rfl
        cases w <;> try rfl
        rename_i a b
        simp only
        cases sameCells ks a b <;> rfl
  | un op x =>
    simp only [cop, opF, opUn, rdK_eq, onK]
    cases rd e x with
    | none => rfl
    | some q =>
      obtain ⟨v, e1⟩ := q
      simp only [bA, unD]
      cases hb : unOf op v with
      | none => rfl
      | some z => obtain ⟨d, rfl⟩ := unOf_d hb; rfl
  | conv j x =>
    simp only [cop, opF, opConv, rdK_eq, onK]
    cases rd e x with
    | none => rfl
    | some q =>
      obtain ⟨v, e1⟩ := q
      simp only [bA, convD]
      cases v <;> try rfl
      rename_i x
      cases x <;> rfl
  | toStr x =>
    simp only [cop, opF, opToStr, rdK_eq, onK]
    cases rd e x with
    | none => rfl
    | some q =>
      obtain ⟨v, e1⟩ := q
      simp only [bA, toStrD]
      cases elems hs.heap v with
      | none => rfl
      | some xs => simp only; cases toBytes xs <;> rfl
  | mkfn f a c =>
    simp only [cop, opF, opMkfn, rdsK_eq, onK]
    cases rdAll e a with
    | none => rfl
    | some q =>
      obtain ⟨v, e1⟩ := q
      simp only
      cases rdAll e1 c <;> rfl
  | mkslice z l c =>
    simp only [cop, opF, opMkslice, rdK_eq, onK]
    cases rd e l with
    | none => rfl
    | some q =>
      obtain ⟨v, e1⟩ := q
      simp only
      cases rd e1 c with
      | none => rfl
      | some q =>
        obtain ⟨w, e2⟩ := q
        simp only [bA, mkslcV]
        cases natUpTo w most with
        | none => rfl
        | some n => simp only; cases natUpTo v n <;> rfl
  | slice m x lo hi mx =>
    simp only [cop, opF, opSlice, rdK_eq, rdoK_eq, onK]
    cases rd e x with
    | none => rfl
    | some q =>
      obtain ⟨v, e1⟩ := q
      simp only
      cases rdOpt e1 lo with
      | none => rfl
      | some q =>
        obtain ⟨l, e2⟩ := q
        simp only
        cases rdOpt e2 hi with
        | none => rfl
        | some q =>
          obtain ⟨h, e3⟩ := q
          simp only
          cases rdOpt e3 mx with
          | none => rfl
          | some q =>
            obtain ⟨j, e4⟩ := q
            simp only [bA, slcV]
            cases okSl hs.heap m v with
            | false => rfl
            | true => simp only; cases sliceOf m v l h j <;> rfl
  | slarr n x lo hi mx =>
    simp only [cop, opF, opSlarr, rdK_eq, rdoK_eq, onK]
    cases rd e x with
    | none => rfl
    | some q =>
      obtain ⟨v, e1⟩ := q
      simp only
      cases v with
      | ptr id off =>
        simp only
        cases rdOpt e1 lo with
        | none => rfl
        | some q =>
          obtain ⟨l, e2⟩ := q
          simp only
          cases rdOpt e2 hi with
          | none => rfl
          | some q =>
            obtain ⟨h, e3⟩ := q
            simp only
            cases rdOpt e3 mx with
            | none => rfl
            | some q =>
              obtain ⟨j, e4⟩ := q
              simp only [bA, slarrV]
              cases slarrOf hs.heap n id off l h j <;> rfl
      | _ =>
        simp only
        cases rdOpt e1 lo with
        | none => rfl
        | some q =>
          obtain ⟨l, e2⟩ := q
          simp only
          cases rdOpt e2 hi with
          | none => rfl
          | some q =>
            obtain ⟨h, e3⟩ := q
            simp only
            cases rdOpt e3 mx <;> rfl
  | fa off p =>
    simp only [cop, opF, opFa, rdK_eq, onK]
    cases rd e p with
    | none => rfl
    | some q =>
      obtain ⟨v, e1⟩ := q
      simp only [bA]
      cases addOff off v <;> rfl
  | fld off n x =>
    simp only [cop, opF, opFld, rdK_eq, onK]
    cases rd e x with
    | none => rfl
    | some q =>
      obtain ⟨v, e1⟩ := q
      simp only [bA, fldV]
      cases v <;> try rfl
      rename_i cs
      simp only
      cases partOf n cs off <;> rfl
  | ia n x i =>
    simp only [cop, opF, opIa, rdK_eq, onK]
    cases rd e x with
    | none => rfl
    | some q =>
      obtain ⟨v, e1⟩ := q
      simp only
      cases rd e1 i with
      | none => rfl
      | some q =>
        obtain ⟨w, e2⟩ := q
        simp only [bA, iaV]
        cases natOf w with
        | none => rfl
        | some j =>
          simp only
          cases v with
          | sl id off len =>
            simp only
            cases Nat.ble len j with
            | true => rfl
            | false =>
              simp only
              cases get hs.heap id with
              | none => rfl
              | some o =>
                cases o with
                | arr m xs => simp only; cases Nat.beq m n <;> rfl
                | cells cs => simp only; cases Nat.beq n 1 <;> rfl
                | loop => rfl
          | _ =>
            simp only
            first
            | rfl
            | (cases elems hs.heap _ with
              | none => rfl
              | some xs =>
                simp only
                cases xs[j]? with
                | none => rfl
                | some x => simp only; cases Nat.beq x.length n <;> rfl)
  | iarr l n p i =>
    simp only [cop, opF, opIarr, rdK_eq, onK]
    cases rd e p with
    | none => rfl
    | some q =>
      obtain ⟨v, e1⟩ := q
      simp only
      cases rd e1 i with
      | none => rfl
      | some q =>
        obtain ⟨w, e2⟩ := q
        simp only [bA, iarrV]
        cases natOf w with
        | none => rfl
        | some j =>
          simp only
          cases Nat.ble l j with
          | true => rfl
          | false => simp only; cases addOff (j * n) v <;> rfl
  | ix l n a x i =>
    simp only [cop, opF, opIx, rdK_eq, onK]
    cases rd e x with
    | none => rfl
    | some q =>
      obtain ⟨v, e1⟩ := q
      simp only
      cases hi : rd e1 i with
      | none => cases v <;> first | rfl | simp only [hi]
      | some q =>
        obtain ⟨w, e2⟩ := q
        simp only [bA, ixV]
        cases v <;> try rfl
        rename_i cs
        simp only [hi]
        cases natOf w with
        | none => rfl
        | some j =>
          simp only
          cases Nat.ble l j with
          | true => rfl
          | false => simp only; cases partOf (optN a n) cs (j * n) <;> rfl
  | ixs x i =>
    simp only [cop, opF, opIxs, rdK_eq, onK]
    cases rd e x with
    | none => rfl
    | some q =>
      obtain ⟨v, e1⟩ := q
      simp only
      cases hi : rd e1 i with
      | none => cases v <;> try rfl
                rename_i d; cases d <;> first | rfl | simp only [hi]
      | some q =>
        obtain ⟨w, e2⟩ := q
        simp only [bA, ixsD]
        cases v <;> try rfl
        rename_i d
        cases d <;> try rfl
        rename_i s
        simp only [hi]
        cases natOf w with
        | none => rfl
        | some j => simp only; cases s[j]? <;> rfl
  | ext j mv i =>
    cases mv with
    | true =>
      simp only [cop, opF, opExt, onK]
      cases get e j with
      | none => rfl
      | some t =>
        simp only [bA, extV, extR]
        cases t <;> try rfl
        rename_i vs
        simp only
        cases vs[i]? <;> rfl
    | false =>
      simp only [cop, opF, opExt, onK]
      cases get e j with
      | none => rfl
      | some t =>
        simp only [bA, extV]
        cases t <;> try rfl
        rename_i vs
        simp only
        cases vs[i]? <;> rfl
  | len x =>
    simp only [cop, opF, opLen, rdK_eq, onK]
    cases rd e x with
    | none => rfl
    | some q =>
      obtain ⟨v, e1⟩ := q
      simp only [bA]
      cases lenOf v <;> rfl
  | cap x =>
    simp only [cop, opF, opCap, rdK_eq, onK]
    cases rd e x with
    | none => rfl
    | some q =>
      obtain ⟨v, e1⟩ := q
      simp only [okB, capB]
      cases v <;> rfl
  | app m x y =>
    simp only [cop, opF, opApp, rdK_eq, onK]
    cases rd e x with
    | none => rfl
    | some q =>
      obtain ⟨v, e1⟩ := q
      simp only
      cases rd e1 y with
      | none => rfl
      | some q =>
        obtain ⟨w, e2⟩ := q
        simp only [bP, apdV]
        cases elems hs.heap w with
        | none => rfl
        | some ys =>
          simp only
          cases okElems m ys with
          | false => rfl
          | true => simp only; cases appendTo m hs.heap v ys <;> rfl
  | appz z x n =>
    simp only [cop, opF, opAppz, rdK_eq, onK]
    cases rd e x with
    | none => rfl
    | some q =>
      obtain ⟨v, e1⟩ := q
      simp only
      cases rd e1 n with
      | none => rfl
      | some q =>
        obtain ⟨w, e2⟩ := q
        simp only [bP, appzV]
        cases natUpTo w most with
        | none => rfl
        | some n => simp only; cases appendTo z.length hs.heap v (List.replicate n z) <;> rfl
  | cpy m x y =>
    simp only [cop, opF, opCpy, rdK_eq, onK]
    cases rd e x with
    | none => rfl
    | some q =>
      obtain ⟨v, e1⟩ := q
      simp only
      cases rd e1 y with
      | none => rfl
      | some q =>
        obtain ⟨w, e2⟩ := q
        simp only [bP, cpyV]
        cases elems hs.heap w with
        | none => rfl
        | some ys =>
          simp only
          cases v with
          | sl id off len =>
            simp only
            cases get hs.heap id with
            | none => rfl
            | some o =>
              cases o with
              | arr k xs => simp only; cases (okElems m ys && Nat.beq k m && Nat.ble (off + len) xs.length) <;> rfl
              | _ => rfl
          | _ =>
            simp only
            generalize lenOf _ = n
            cases n with
            | none => rfl
            | some n => cases n <;> rfl
  | clr z x =>
    simp only [cop, opF, opClr, rdK_eq, onK]
    cases rd e x with
    | none => rfl
    | some q =>
      obtain ⟨v, e1⟩ := q
      simp only [bA, clrV]
      cases v <;> try rfl
      rename_i id off len
      simp only
      cases get hs.heap id with
      | none => rfl
      | some o =>
        cases o with
        | arr k xs => simp only; cases (Nat.beq k z.length && Nat.ble (off + len) xs.length) <;> rfl
        | _ => rfl
  | minmax b xs =>
    simp only [cop, opF, opMinmax, rdsK_eq, onK]
    cases rdAll e xs with
    | none => rfl
    | some q =>
      obtain ⟨vs, e1⟩ := q
      simp only [bA, minmaxV]
      cases vs with
      | nil => rfl
      | cons v vs =>
        cases v <;> try rfl
        rename_i d
        cases d <;> try rfl
        rename_i k n
        simp only
        cases foldMM b (.d (.int k n)) vs <;> rfl
  | call f args =>
    simp only [cop, opF, opCall, rdsK_eq, onK]
    cases rdAll e args with
    | none => rfl
    | some q =>
      obtain ⟨vs, e1⟩ := q
      simp only [bA]
      cases callPure (Dn P) f vs hs.heap <;> rfl
  | calli f args =>
    simp only [cop, opF, opCalli, rdsK_eq, onK]
    cases rdAll e args with
    | none => rfl
    | some q =>
      obtain ⟨vs, e1⟩ := q
      simp only [bP]
      cases (Dn P).call f vs hs <;> rfl
  | callv f args =>
    simp only [cop, opF, opCallv, rdK_eq, rdsK_eq, onK]
    cases rd e f with
    | none => rfl
    | some q =>
      obtain ⟨fv, e0⟩ := q
      simp only
      cases rdAll e0 args with
      | none => rfl
      | some q =>
        obtain ⟨vs, e1⟩ := q
        simp only [bP]
        cases callVal (Dn P) fv vs hs <;> rfl
  | kill is => rfl
  | idxb x c =>
    simp only [cop, opF, opIdxb, rdK_eq, onK]
    cases rd e x with
    | none => rfl
    | some q =>
      obtain ⟨v, e1⟩ := q
      simp only
      cases rd e1 c with
      | none => rfl
      | some q =>
        obtain ⟨w, e2⟩ := q
        simp only [bA]
        cases idxV hs.heap v w <;> rfl
  | _ =>
    simp only [cop, bP, onK]
    generalize opF _ (Dn P) ⟨e, hs⟩ = z
    cases z <;> rfl
theorem stillRs_rdAll : ∀ {l : List Rd} {e e1 : Env} {vs : List AV}, stillRs l = true → rdAll e l = some (vs, e1) → e1 = e
  | [], e, e1, vs, _, h => by simp only [rdAll, Option.some.injEq, Prod.mk.injEq] at h; exact h.2.symm
  | x :: r, e, e1, vs, hs, h => by
    simp only [stillRs, Bool.and_eq_true] at hs
    simp only [rdAll] at h
    split at h
    · simp at h
    · rename_i v e2 h1
      split at h
      · simp at h
      · rename_i vs2 e3 h2
        simp only [Option.some.injEq, Prod.mk.injEq] at h
        have a1 := rd_still hs.1 h1
        have a2 := stillRs_rdAll hs.2 h2
        rw [← h.2, a2, a1]
theorem rdK_still {β : Type} {e : Env} {x : Rd} {k : AV → Env → Option β} (h : stillR x = true) : rdK e x k = rdK e x fun v _ => k v e := by
  simp only [rdK]
  cases hx : rd e x with
  | none => rfl
  | some q => obtain ⟨v, e1⟩ := q; simp only; rw [rd_still h hx]
theorem rdsK_still {β : Type} {e : Env} {l : List Rd} {k : List AV → Env → Option β} (h : stillRs l = true) : rdsK e l k = rdsK e l fun v _ => k v e := by
  simp only [rdsK_eq]
  cases hx : rdAll e l with
  | none => rfl
  | some q => obtain ⟨v, e1⟩ := q; simp only; rw [stillRs_rdAll h hx]
theorem rdoK_still {β : Type} {e : Env} {x : Option Rd} {k : Option AV → Env → Option β} (h : stillO x = true) : rdoK e x k = rdoK e x fun v _ => k v e := by
  cases x with
  | none => rfl
  | some x => exact rdK_still (k := fun v e => k (some v) e) h
theorem bA_bA {α β γ : Type} {x : Option α} {f : α → Option β} {g : β → Option γ} : bA (bA x f) g = bA x fun v => bA (f v) g := by
  cases x <;> rfl
theorem rdK_bind {β γ : Type} {e : Env} {x : Rd} {k : AV → Env → Option β} {g : β → Option γ} : bA (rdK e x k) g = rdK e x fun v e => bA (k v e) g := by
  simp only [rdK]; cases rd e x <;> rfl
theorem rdsK_bind {β γ : Type} {e : Env} {x : List Rd} {k : List AV → Env → Option β} {g : β → Option γ} : bA (rdsK e x k) g = rdsK e x fun v e => bA (k v e) g := by
  simp only [rdsK_eq]; cases rdAll e x <;> rfl
theorem bA_some {α β : Type} {v : α} {f : α → Option β} : bA (some v) f = f v := rfl
theorem rdK2 {β : Type} {e : Env} {x y : Rd} {k : AV → AV → Env → Option β} (h : stillR x = true) (h2 : stillR y = true) : (rdK e x fun a e => rdK e y fun b e => k a b e) = rdK e x fun a _ => rdK e y fun b _ => k a b e := by
  rw [rdK_still h]
  simp only [rdK]
  cases rd e x with
  | none => rfl
  | some q =>
    simp only
    cases hy : rd e y with
    | none => rfl
    | some r => obtain ⟨w, e2⟩ := r; simp only; rw [rd_still h2 hy]
theorem rdK2c {β : Type} {e : Env} {x y : Rd} {k : AV → AV → Option β} (h : stillR x = true) (h2 : stillR y = true) : (rdK e x fun a e => rdK e y fun b _ => k a b) = rdK e x fun a _ => rdK e y fun b _ => k a b := rdK2 (k := fun a b _ => k a b) h h2
theorem cop_still {β : Type} {op : VOp} {e : Env} {hs : HS} {k : AV → Env → HS → Option β} (h : still op = true) : cop P op e hs k = bA (cop P op e hs fun v _ _ => some v) fun v => k v e hs := by
  cases op with
  | mov x =>
    simp only [still] at h
    simp only [cop, rdK_bind, bA_some]
    rw [rdK_still h]
  | ld n t p =>
    cases t with
    | zero =>
      simp only [still] at h
      simp only [cop, rdK_bind, bA_bA, bA_some]
      rw [rdK_still h]
    | succ t => simp [still] at h
  | nilck x =>
    simp only [still] at h
    simp only [cop, rdK_bind, bA_bA, bA_some]
    rw [rdK_still h]
  | un op x =>
    simp only [still] at h
    simp only [cop, rdK_bind, bA_bA, bA_some]
    rw [rdK_still h]
  | conv op x =>
    simp only [still] at h
    simp only [cop, rdK_bind, bA_bA, bA_some]
    rw [rdK_still h]
  | fa off p =>
    simp only [still] at h
    simp only [cop, rdK_bind, bA_bA, bA_some]
    rw [rdK_still h]
  | fld off n p =>
    simp only [still] at h
    simp only [cop, rdK_bind, bA_bA, bA_some]
    rw [rdK_still h]
  | len x =>
    simp only [still] at h
    simp only [cop, rdK_bind, bA_bA, bA_some]
    rw [rdK_still h]
  | bin op x y =>
    simp only [still, Bool.and_eq_true] at h
    simp only [cop, rdK_bind, bA_bA, bA_some]
    exact (rdK2 h.1 h.2).trans (rdK2c h.1 h.2).symm
  | binb op x y =>
    simp only [still, Bool.and_eq_true] at h
    simp only [cop, rdK_bind, bA_bA, bA_some]
    exact (rdK2 h.1 h.2).trans (rdK2c h.1 h.2).symm
  | ia n x y =>
    simp only [still, Bool.and_eq_true] at h
    simp only [cop, rdK_bind, bA_bA, bA_some]
    exact (rdK2 h.1 h.2).trans (rdK2c h.1 h.2).symm
  | iarr l n x y =>
    simp only [still, Bool.and_eq_true] at h
    simp only [cop, rdK_bind, bA_bA, bA_some]
    exact (rdK2 h.1 h.2).trans (rdK2c h.1 h.2).symm
  | ix l n a x y =>
    simp only [still, Bool.and_eq_true] at h
    simp only [cop, rdK_bind, bA_bA, bA_some]
    exact (rdK2 h.1 h.2).trans (rdK2c h.1 h.2).symm
  | ixs x y =>
    simp only [still, Bool.and_eq_true] at h
    simp only [cop, rdK_bind, bA_bA, bA_some]
    exact (rdK2 h.1 h.2).trans (rdK2c h.1 h.2).symm
  | ext j mv i =>
    cases mv with
    | true => simp [still] at h
    | false =>
      simp only [cop]
      cases get e j with
      | none => rfl
      | some t => simp only [bA_bA, bA_some]
  | call f args =>
    simp only [still] at h
    simp only [cop, rdsK_bind, bA_bA, bA_some]
    rw [rdsK_still h]
  | build zs ps =>
    simp only [still] at h
    simp only [cop, rdsK_bind, bA_bA, bA_some]
    rw [rdsK_still h]
  | slice m x lo hi mx =>
    simp only [still, Bool.and_eq_true] at h
    obtain ⟨h0, h1, h2, h3⟩ := h
    have bd : ∀ {γ : Type} {x : Option Rd} {e : Env} {k : Option AV → Env → Option AV} {g : AV → Option γ}, bA (rdoK e x k) g = rdoK e x fun v e => bA (k v e) g := by
      intro γ x e k g
      cases x with
      | none => rfl
      | some x => exact rdK_bind
    simp only [cop, rdK_bind, bd, bA_bA, bA_some]
    rw [rdK_still h0, rdK_still (k := fun v e_1 => rdoK e_1 lo fun v_1 e_1 => rdoK e_1 hi fun v_2 e_1 => rdoK e_1 mx fun v_3 _ => bA (slcV hs.heap m v v_1 v_2 v_3) fun v => k v e hs) h0]
    congr 1
    funext v _
    rw [rdoK_still h1, rdoK_still (k := fun v_1 e_1 => rdoK e_1 hi fun v_2 e_1 => rdoK e_1 mx fun v_3 _ => bA (slcV hs.heap m v v_1 v_2 v_3) fun v => k v e hs) h1]
    congr 1
    funext v_1 _
    rw [rdoK_still h2, rdoK_still (k := fun v_2 e_1 => rdoK e_1 mx fun v_3 _ => bA (slcV hs.heap m v v_1 v_2 v_3) fun v => k v e hs) h2]
    congr 1
    funext v_2 _
    rw [rdoK_still h3]
  | minmax b ps =>
    simp only [still] at h
    simp only [cop, rdsK_bind, bA_bA, bA_some]
    rw [rdsK_still h]
  | toStr x =>
    simp only [still] at h
    simp only [cop, rdK_bind, bA_bA, bA_some]
    rw [rdK_still h]
  | mkslice z x y =>
    simp only [still, Bool.and_eq_true] at h
    simp only [cop, rdK_bind, bA_bA, bA_some]
    exact (rdK2 h.1 h.2).trans (rdK2c h.1 h.2).symm
  | mkfn f a c =>
    simp only [still, Bool.and_eq_true] at h
    simp only [cop, rdsK_bind, bA_some]
    rw [rdsK_still h.1, rdsK_still (k := fun v e_1 => rdsK e_1 c fun v_1 _ => k (AV.fn f (shareAll v) (shareAll v_1)) e hs) h.1]
    simp only [rdsK_still h.2]
  | pick c a b =>
    simp only [still, Bool.and_eq_true] at h
    simp only [cop, rdK_bind]
    rw [rdK_still h.1.1]
    have h2 : (stillR a && stillR b) = true := by rw [h.1.2, h.2]; rfl
    simp only [rdK]
    cases hc : rd e c with
    | none => rfl
    | some q =>
      obtain ⟨v, e1⟩ := q
      have := rd_still h.1.1 hc
      subst this
      simp only [h2]
      cases ha : rd e1 a with
      | none =>
        cases hb : rd e1 b with
        | none => cases v <;> try rfl
                  rename_i d; cases d <;> try rfl
                  rename_i t; cases t <;> simp only [opPick_t, opPick_f, ha, hb, bP, bA]
        | some q =>
          obtain ⟨vb, eb⟩ := q
          have := rd_still h.2 hb
          subst this
          cases v <;> try rfl
          rename_i d; cases d <;> try rfl
          rename_i t; cases t <;> simp only [opPick_t, opPick_f, ha, hb, bP, bA]
      | some q =>
        obtain ⟨va, ea⟩ := q
        have := rd_still h.1.2 ha
        subst this
        cases hb : rd ea b with
        | none =>
          cases v <;> try rfl
          rename_i d; cases d <;> try rfl
          rename_i t; cases t <;> simp only [opPick_t, opPick_f, ha, hb, bP, bA]
        | some q => simp only [bA_bA, bA_some]
  | _ => simp [still] at h
theorem bP_bP {α β γ δ ε : Type} {x : Option (α × β)} {f : α → β → Option (γ × δ)} {g : γ → δ → Option ε} : bP (bP x f) g = bP x fun v w => bP (f v w) g := by
  cases x <;> rfl
theorem cop_stillE {β : Type} {op : VOp} {e : Env} {hs : HS} {k : AV → Env → HS → Option β} (h : stillE op = true) : cop P op e hs k = bP (cop P op e hs fun v _ hs => some (v, hs)) fun v hs => k v e hs := by
  cases op with
  | calli f args =>
    simp only [stillE] at h
    simp only [cop]
    rw [rdsK_still h]
    simp only [rdsK_eq]
    cases rdAll e args with
    | none => rfl
    | some q => simp only [bP_bP]; rfl
  | callv f args =>
    simp only [stillE, Bool.and_eq_true] at h
    simp only [cop]
    rw [rdK_still h.1]
    simp only [rdsK_still h.2]
    simp only [rdK]
    cases hf : rd e f with
    | none => rfl
    | some q =>
      obtain ⟨v, e1⟩ := q
      have := rd_still h.1 hf
      subst this
      simp only [rdsK_eq]
      cases rdAll e1 args with
      | none => rfl
      | some q => simp only [bP_bP]; rfl
  | _ => simp [stillE] at h
theorem firm_tup0 : firm (.tup []) = .tup [] := rfl
theorem cvi_eq {i : VI} {e : Env} {hs : HS} {k : Env → HS → Option St} : cvi P i e hs k = bA (viF (Dn P) i ⟨e, hs⟩) fun st => k st.env st.hs := by
  obtain ⟨dst, guard, op, th⟩ := i
  unfold cvi
  simp only
  cases guard with
  | none =>
    simp only [viF, viGo]
    cases th with
    | nil =>
      cases dst with
      | none =>
        simp only [cop_eq, onK, setDst]
        cases opF op (Dn P) ⟨e, hs⟩ <;> rfl
      | some d =>
        simp only [cop_eq, onK, setDst]
        cases opF op (Dn P) ⟨e, hs⟩ <;> rfl
    | cons p r =>
      cases dst with
      | none =>
        simp only [cop_eq, onK, setDst, lP]
        cases opF op (Dn P) ⟨e, hs⟩ <;> rfl
      | some d =>
        simp only [cop_eq, onK, setDst, lP]
        cases opF op (Dn P) ⟨e, hs⟩ <;> rfl
  | some g =>
    obtain ⟨s, w⟩ := g
    simp only
    split
    · rename_i d hst
      have he : ∀ {k : AV → Env → HS → Option St}, onK (opF op (Dn P) ⟨e, hs⟩) k = bA (cop P op e hs fun v _ _ => some v) fun v => k v e hs := by
        intro k
        rw [← cop_eq, cop_still hst]
      have hv : ∀ {k : Env → HS → Option St}, bA (viGo (Dn P) ⟨some d, some (s, w), op, []⟩ ⟨e, hs⟩) (fun st => k st.env st.hs) = bA (cop P op e hs fun v _ _ => some v) fun v => k (put e d (firm v)) hs := by
        intro k
        rw [← he (k := fun v e hs => k (put e d (firm v)) hs)]
        simp only [viGo, onK, setDst]
        cases opF op (Dn P) ⟨e, hs⟩ <;> rfl
      simp only [viF]
      cases get e s with
      | none => rfl
      | some g =>
        simp only
        cases g with
        | d x => cases x with
          | bool b =>
            simp only [gV]
            cases hb : (b == w) with
            | true =>
              have : b = w := by simpa using hb
              simp only [this, if_true]
              rw [hv]
            | false =>
              have : ¬ b = w := by simpa using hb
              simp only [this, if_false, bA, firm_tup0, setDst]
          | _ => rfl
        | tup vs => cases vs <;> rfl
        | _ => rfl
    · split
      · rename_i d hst _
        have he : ∀ {k : AV → Env → HS → Option St}, onK (opF op (Dn P) ⟨e, hs⟩) k = bP (cop P op e hs fun v _ hs => some (v, hs)) fun v hs => k v e hs := by
          intro k
          rw [← cop_eq, cop_stillE hst]
        have hv : ∀ {k : Env → HS → Option St}, bA (viGo (Dn P) ⟨some d, some (s, w), op, []⟩ ⟨e, hs⟩) (fun st => k st.env st.hs) = bP (cop P op e hs fun v _ hs => some (v, hs)) fun v hs => k (put e d (firm v)) hs := by
          intro k
          rw [← he (k := fun v e hs => k (put e d (firm v)) hs)]
          simp only [viGo, onK, setDst]
          cases opF op (Dn P) ⟨e, hs⟩ <;> rfl
        simp only [viF]
        cases get e s with
        | none => rfl
        | some g =>
          simp only
          cases g with
          | d x => cases x with
            | bool b =>
              simp only [gH]
              cases hb : (b == w) with
              | true =>
                have : b = w := by simpa using hb
                simp only [this, if_true]
                rw [hv]
              | false =>
                have : ¬ b = w := by simpa using hb
                simp only [this, if_false, bA, bP, firm_tup0, setDst]
            | _ => rfl
          | tup vs => cases vs <;> rfl
          | _ => rfl
      · rfl
theorem cops_eq : ∀ {l : List VI} {e : Env} {hs : HS}, opsF (Dn P) l ⟨e, hs⟩ = cops P l e hs
  | [], _, _ => rfl
  | i :: l, e, hs => by
    simp only [opsF, cops, cvi_eq, bA]
    cases viF (Dn P) i ⟨e, hs⟩ with
    | none => rfl
    | some st => exact cops_eq
theorem chain_reg {d : Bool} {ops : List VI} {e : Env} {hs : HS} {x : Option St} (h : cops P ops e hs = x) : (Dn P).code (.reg d ops) ⟨e, hs⟩ = regK x := by
  rw [code_reg, cops_eq, h]
theorem chain_regP {perm gco : List Nat} {ops : List VI} {e : Env} {hs : HS} {x : Option St} (ha : lateAbs e ops = true) (hb : (perm.all fun i => decide (i < ops.length)) = true) (h : cops P (perm.filterMap fun i => ops[i]?) e hs = x) : (Dn P).code (.regP perm gco [] ops) ⟨e, hs⟩ = regK x := by
  rw [code_regP ha, runL_opsF hb, cops_eq, h]
/-- Was what is taken nobody else's? -/
def ownB (e : Env) (d : Option Nat) : Bool :=
  match d with
  | some d => match get e d with
    | some a => own1 a
    | none => false
  | none => false
/-- One instruction that meets others of its region. -/
noncomputable def cviN (P : Nat → Option VFunc) (F : List Nat) (v : VI) (e : Env) (hs : HS) (k : Env → HS → Option St) : Option St :=
  match nkOf v.op with
  | .call => cvi P v e hs fun e2 s2 => okB (sameH F hs.heap s2.heap) (k e2 s2)
  | .take => cvi P v e hs fun e2 s2 => okB (ownB e2 v.dst) (k e2 s2)
  | .read => cvi P v e ⟨onlyH (nearIds v e) hs.heap, hs.next⟩ fun e2 _ => k e2 hs
noncomputable def copsN (P : Nat → Option VFunc) : List (Bool × VI) → List Nat → Env → HS → Option St
  | [], _, e, hs => some ⟨e, hs⟩
  | (a, v) :: l, F, e, hs => match a with
    | false => cvi P v e hs fun e2 s2 => copsN P l F e2 s2
    | true => cviN P F v e hs fun e2 s2 => copsN P l (addF true v e F) e2 s2
theorem cviN_eq {F : List Nat} {v : VI} {e : Env} {hs : HS} {k : Env → HS → Option St} : cviN P F v e hs k = bA (viN (Dn P) F v ⟨e, hs⟩) fun st => k st.env st.hs := by
  unfold cviN viN
  cases nkOf v.op with
  | call =>
    simp only [cvi_eq]
    cases viF (Dn P) v ⟨e, hs⟩ with
    | none => rfl
    | some st =>
      simp only [bA]
      cases sameH F hs.heap st.hs.heap <;> rfl
  | take =>
    simp only [cvi_eq]
    cases viF (Dn P) v ⟨e, hs⟩ with
    | none => rfl
    | some st =>
      simp only [bA, ownB]
      cases v.dst with
      | none => rfl
      | some d =>
        simp only
        cases get st.env d with
        | none => rfl
        | some a => simp only; cases own1 a <;> rfl
  | read =>
    simp only [cvi_eq]
    cases viF (Dn P) v ⟨e, ⟨onlyH (nearIds v e) hs.heap, hs.next⟩⟩ <;> rfl
def pickN (nr : List Nat) (ops : List VI) (i : Nat) : Option (Bool × VI) :=
  match ops[i]? with
  | some v => some (memN i nr, v)
  | none => none
theorem copsN_eq {nr : List Nat} {ops : List VI} : ∀ {l : List Nat} {F : List Nat} {e : Env} {hs : HS}, (l.all fun i => decide (i < ops.length)) = true → runN (Dn P) nr ops l F ⟨e, hs⟩ = copsN P (l.filterMap (pickN nr ops)) F e hs
  | [], _, _, _, _ => rfl
  | i :: l, F, e, hs, hb => by
    simp only [List.all_cons, Bool.and_eq_true, decide_eq_true_eq] at hb
    have h1 : ops[i]? = some ops[i] := List.getElem?_eq_getElem hb.1
    have h2 : pickN nr ops i = some (memN i nr, ops[i]) := by simp only [pickN, h1]
    simp only [runN, h1, List.filterMap_cons, h2, copsN, stepA]
    cases memN i nr with
    | false =>
      simp only [cvi_eq, addF]
      cases viF (Dn P) ops[i] ⟨e, hs⟩ with
      | none => rfl
      | some st => exact copsN_eq hb.2
    | true =>
      simp only [cviN_eq]
      cases viN (Dn P) F ops[i] ⟨e, hs⟩ with
      | none => rfl
      | some st => exact copsN_eq hb.2
theorem chain_regN {perm gco nr : List Nat} {ops : List VI} {e : Env} {hs : HS} {x : Option St} (ha : lateAbs e ops = true) (hb : (perm.all fun i => decide (i < ops.length)) = true) (h : copsN P (perm.filterMap (pickN nr ops)) [] e hs = x) : (Dn P).code (.regP perm gco nr ops) ⟨e, hs⟩ = regK x := by
  rw [Dn_code, ← h, ← copsN_eq hb]
  simp only [codeF, vcRegP, runP_eq, ha]
  cases runN (Dn P) nr ops perm [] ⟨e, hs⟩ <;> rfl
/-- What a variable is given back by. -/
abbrev F (i : Nat) : VC := .reg false [⟨none, none, .free i, []⟩]
def frK (e : Env) (hs : HS) (i : Nat) : Option AV → Option (Out × St)
  | some (.ptr id _) => some (.normal, ⟨del e i, ⟨del hs.heap id, hs.next⟩⟩)
  | some (.fn _ _ caps) => some (.normal, ⟨del e i, ⟨delAll hs.heap (capIds caps), hs.next⟩⟩)
  | _ => some (.normal, ⟨e, hs⟩)
theorem frK_p {e : Env} {h : Heap} {n i id o : Nat} : frK e ⟨h, n⟩ i (some (.ptr id o)) = some (.normal, ⟨del e i, ⟨del h id, n⟩⟩) := rfl
theorem frK_f {e : Env} {h : Heap} {n i f : Nat} {a c : List AV} : frK e ⟨h, n⟩ i (some (.fn f a c)) = some (.normal, ⟨del e i, ⟨delAll h (capIds c), n⟩⟩) := rfl
theorem code_F {i : Nat} {e : Env} {hs : HS} : (Dn P).code (F i) ⟨e, hs⟩ = frK e hs i (get e i) := by
  rw [code_reg]
  simp only [opsF, viF, viGo, opF, opFree]
  cases get e i with
  | none => rfl
  | some v => cases v <;> rfl
abbrev K (l : List Nat) : VC := .reg false [⟨none, none, .kill l, []⟩]
theorem code_K {is : List Nat} {e : Env} {hs : HS} : (Dn P).code (K is) ⟨e, hs⟩ = some (.normal, ⟨is.foldl del e, hs⟩) := by rw [code_reg]; rfl
end Go.Vm

/-
  WHAT REWRITING KNOWS: the simp set of symbolic runs over chains.
-/
namespace Go.Vm
variable {P : Nat → Option VFunc}
attribute [simp ↓] seqK_n seqK_r seqK_x seqK_g seqK_0 seqK_i blkK_n blkK_r blkK_x blkK_g blkK_0 blkK_i regK_s regK_0 regK_i topK_s topK_0 topK_i loopK_n loopK_r loopK_x loopK_g loopK_0 loopK_i
attribute [simp ↓] code_skip code_exit code_ret code_label code_goto code_seq code_block code_K code_F frK_p frK_f condK_t condK_f code_cond
attribute [simp] delAll capIds
attribute [simp] get0 get1 put0 put1 del0 del1
attribute [congr] ite_congr cg_seqK cg_blkK cg_loopK cg_endK cg_code cg_condK

def endV (x : Option (List AV × St)) : Option (AV × HS) :=
  match x with
  | some ([v], st) => some (v, st.hs)
  | some (vs, st) => some (.tup vs, st.hs)
  | none => none
theorem endF_e {fn : VFunc} {st : St} : endF fn st = endV (takeRes st fn.results) := (by
  simp only [endF, endV]
  cases takeRes st fn.results with
  | none => rfl
  | some q =>
    obtain ⟨vs, s⟩ := q
    cases vs with
    | nil => rfl
    | cons v r => cases r <;> rfl)
@[simp] theorem endV_0 {st : St} : endV (some ([], st)) = some (.tup [], st.hs) := (rfl)
@[simp] theorem endV_1 {v : AV} {st : St} : endV (some ([v], st)) = some (v, st.hs) := (rfl)
@[simp] theorem endV_2 {v w : AV} {r : List AV} {st : St} : endV (some (v :: w :: r, st)) = some (.tup (v :: w :: r), st.hs) := (rfl)
def endR (rs : List VRes) (x : Option (Out × St)) : Option (AV × HS) :=
  match x with
  | some (.normal, st) => endV (takeRes st rs)
  | some (.ret, st) => endV (takeRes st rs)
  | _ => none
@[simp ↓] theorem endR_n {rs : List VRes} {st : St} : endR rs (some (.normal, st)) = endV (takeRes st rs) := (rfl)
@[simp ↓] theorem endR_r {rs : List VRes} {st : St} : endR rs (some (.ret, st)) = endV (takeRes st rs) := (rfl)
@[simp ↓] theorem endR_0 {rs : List VRes} : endR rs none = none := (rfl)
@[simp ↓] theorem endR_i {rs : List VRes} {c : Prop} [Decidable c] {x y : Option (Out × St)} : endR rs (if c then x else y) = if c then endR rs x else endR rs y := by split <;> rfl
@[simp ↓] theorem endK_mk {n : Nat} {rs : List VRes} {b : VC} {x : Option (Out × St)} : endK ⟨n, rs, b⟩ x = endR rs x := by
  simp only [endK, endR]
  split <;> simp only [endF_e]
theorem cg_endR {rs : List VRes} {x y : Option (Out × St)} (h : x = y) : endR rs x = endR rs y := by rw [h]
attribute [congr] cg_endR
theorem loop_unf {a b : VC} {st : St} (h : a = b) : (Dn P).code (.loop a) st = loopK P a ((Dn P).code b st) := by rw [← h]; exact code_loop
theorem ans_fn {f : FuncId} {fn : VFunc} {n : Nat} {rs : List VRes} {b : VC} {args : List AV} (hf : P f = some fn) (hd : fn = ⟨n, rs, b⟩) (hl : args.length = n) : ans P f args = topK (endR rs ((Dn P).code b ⟨mkEnv 0 args, ⟨[], 0⟩⟩)) := by
  subst hd
  rw [ans_body hf hl, endK_mk]
theorem call_fn {f : FuncId} {fn : VFunc} {n : Nat} {rs : List VRes} {b : VC} {args : List AV} {hs : HS} (hf : P f = some fn) (hd : fn = ⟨n, rs, b⟩) (hl : args.length = n) : (Dn P).call f args hs = endR rs ((Dn P).code b ⟨mkEnv 0 args, hs⟩) := by
  subst hd
  rw [call_body hf hl, endK_mk]
/-! ### Handing on -/
@[simp ↓] theorem bA_s {α β : Type} {v : α} {f : α → Option β} : bA (some v) f = f v := (rfl)
@[simp ↓] theorem bA_0 {α β : Type} {f : α → Option β} : bA none f = none := (rfl)
@[simp ↓] theorem bA_i {α β : Type} {c : Prop} [Decidable c] {x y : Option α} {f : α → Option β} : bA (if c then x else y) f = if c then bA x f else bA y f := by split <;> rfl
@[simp ↓] theorem bP_s {α γ β : Type} {v : α} {w : γ} {f : α → γ → Option β} : bP (some (v, w)) f = f v w := (rfl)
@[simp ↓] theorem bP_0 {α γ β : Type} {f : α → γ → Option β} : bP none f = none := (rfl)
@[simp ↓] theorem bP_i {α γ β : Type} {c : Prop} [Decidable c] {x y : Option (α × γ)} {f : α → γ → Option β} : bP (if c then x else y) f = if c then bP x f else bP y f := by split <;> rfl
@[simp ↓] theorem lA_e {α β : Type} {x : α} {f : α → β} : lA x f = f x := (rfl)
@[simp ↓] theorem lP_e {α γ β : Type} {x : α} {y : γ} {f : α → γ → β} : lP (x, y) f = f x y := (rfl)
@[simp ↓] theorem okB_t {β : Type} {x : Option β} : okB true x = x := (rfl)
@[simp ↓] theorem okB_f {β : Type} {x : Option β} : okB false x = none := (rfl)
theorem cg_bA {α β : Type} {x y : Option α} {f : α → Option β} (h : x = y) : bA x f = bA y f := by rw [h]
theorem cg_bP {α γ β : Type} {x y : Option (α × γ)} {f : α → γ → Option β} (h : x = y) : bP x f = bP y f := by rw [h]
theorem cg_lA {α β : Type} {x y : α} {f : α → β} (h : x = y) : lA x f = lA y f := by rw [h]
theorem cg_lP {α γ β : Type} {x y : α × γ} {f : α → γ → β} (h : x = y) : lP x f = lP y f := by rw [h]
attribute [congr] cg_bA cg_bP cg_lA cg_lP
@[simp ↓] theorem gV_tt {x : Option AV} : gV (.d (.bool true)) true x = x := (rfl)
@[simp ↓] theorem gV_ff {x : Option AV} : gV (.d (.bool false)) false x = x := (rfl)
@[simp ↓] theorem gV_tf {x : Option AV} : gV (.d (.bool true)) false x = some (.tup []) := (rfl)
@[simp ↓] theorem gV_ft {x : Option AV} : gV (.d (.bool false)) true x = some (.tup []) := (rfl)
@[simp ↓] theorem gV_0 {w : Bool} {x : Option AV} : gV (.tup []) w x = some (.tup []) := (rfl)
@[simp ↓] theorem gH_tt {hs : HS} {x : Option (AV × HS)} : gH (.d (.bool true)) true hs x = x := (rfl)
@[simp ↓] theorem gH_ff {hs : HS} {x : Option (AV × HS)} : gH (.d (.bool false)) false hs x = x := (rfl)
@[simp ↓] theorem gH_tf {hs : HS} {x : Option (AV × HS)} : gH (.d (.bool true)) false hs x = some (.tup [], hs) := (rfl)
@[simp ↓] theorem gH_ft {hs : HS} {x : Option (AV × HS)} : gH (.d (.bool false)) true hs x = some (.tup [], hs) := (rfl)
@[simp ↓] theorem gH_0 {w : Bool} {hs : HS} {x : Option (AV × HS)} : gH (.tup []) w hs x = some (.tup [], hs) := (rfl)
@[simp ↓] theorem pickV_t {a b : AV} : pickV (.d (.bool true)) a b = some a := (rfl)
@[simp ↓] theorem pickV_f {a b : AV} : pickV (.d (.bool false)) a b = some b := (rfl)

/-! ### Values -/
@[simp] theorem firm_d {x : D} : firm (.d x) = .d x := (rfl)
@[simp] theorem firm_nl : firm .nl = .nl := (rfl)
@[simp] theorem firm_junk : firm .junk = .junk := (rfl)
@[simp] theorem firm_own {p : Bool} {m : Nat} {xs : List (List D)} : firm (.own p m xs) = .own false m xs := (rfl)
@[simp] theorem firm_agg {cs : List AV} : firm (.agg cs) = .agg (cs.map firm1) := (rfl)
@[simp] theorem firm_tup {cs : List AV} : firm (.tup cs) = .tup (cs.map firm2) := (rfl)
@[simp] theorem firm_ptr {a b : Nat} : firm (.ptr a b) = .ptr a b := (rfl)
@[simp] theorem firm_pel {a b c : Nat} : firm (.pel a b c) = .pel a b c := (rfl)
@[simp] theorem firm_pim {a : List D} {b : Nat} : firm (.pim a b) = .pim a b := (rfl)
@[simp] theorem firm_sl {a b c : Nat} : firm (.sl a b c) = .sl a b c := (rfl)
@[simp] theorem firm_fn {f : FuncId} {a b : List AV} : firm (.fn f a b) = .fn f a b := (rfl)
@[simp] theorem firm_gl {n : Nat} : firm (.gl n) = .gl n := (rfl)
@[simp] theorem firm_yield {n : Nat} : firm (.yield n) = .yield n := (rfl)
@[simp] theorem firm_nilp : firm .nilp = .nilp := (rfl)

/-! ### Numbers -/
theorem binD_of {op : BinOp} {a b : AV} {x : D} (h : binOf op a b = some (.d x)) : binD op a b = some x := by simp only [binD, h]
theorem binD_if {op : BinOp} {a b : AV} {c : Prop} [Decidable c] {x y : D} (h : binOf op a b = if c then some (.d x) else some (.d y)) : binD op a b = if c then some x else some y := by
  by_cases hc : c <;> simp [binD, h, hc]
@[simp] theorem bD_add {k : IntKind} {a b : Int} : binD .add (.d (.int k a)) (.d (.int k b)) = some (.int k (wr k (a + b))) := binD_of bin_add
@[simp] theorem bD_sub {k : IntKind} {a b : Int} : binD .sub (.d (.int k a)) (.d (.int k b)) = some (.int k (wr k (a - b))) := binD_of bin_sub
@[simp] theorem bD_mul {k : IntKind} {a b : Int} : binD .mul (.d (.int k a)) (.d (.int k b)) = some (.int k (wr k (a * b))) := binD_of bin_mul
@[simp] theorem bD_quo {k : IntKind} {a b : Int} (h : b ≠ 0) : binD .quo (.d (.int k a)) (.d (.int k b)) = some (.int k (wr k (a.tdiv b))) := binD_of (bin_quo h)
@[simp] theorem bD_rem {k : IntKind} {a b : Int} (h : b ≠ 0) : binD .rem (.d (.int k a)) (.d (.int k b)) = some (.int k (a.tmod b)) := binD_of (bin_rem h)
@[simp] theorem bD_eql {k : IntKind} {a b : Int} : binD .eql (.d (.int k a)) (.d (.int k b)) = if a = b then some (.bool true) else some (.bool false) := binD_if bin_eql
@[simp] theorem bD_neq {k : IntKind} {a b : Int} : binD .neq (.d (.int k a)) (.d (.int k b)) = if a = b then some (.bool false) else some (.bool true) := binD_if bin_neq
@[simp] theorem bD_lss {k : IntKind} {a b : Int} : binD .lss (.d (.int k a)) (.d (.int k b)) = if a < b then some (.bool true) else some (.bool false) := binD_if bin_lss
@[simp] theorem bD_leq {k : IntKind} {a b : Int} : binD .leq (.d (.int k a)) (.d (.int k b)) = if a ≤ b then some (.bool true) else some (.bool false) := binD_if bin_leq
@[simp] theorem bD_gtr {k : IntKind} {a b : Int} : binD .gtr (.d (.int k a)) (.d (.int k b)) = if b < a then some (.bool true) else some (.bool false) := binD_if bin_gtr
@[simp] theorem bD_geq {k : IntKind} {a b : Int} : binD .geq (.d (.int k a)) (.d (.int k b)) = if b ≤ a then some (.bool true) else some (.bool false) := binD_if bin_geq
@[simp] theorem bD_shl {k j : IntKind} {a b : Int} (h : 0 ≤ b) : binD .shl (.d (.int k a)) (.d (.int j b)) = some (.int k (wr k (a * ((2 ^ (min b.toNat k.bits) : Nat) : Int)))) := binD_of (bin_shl h)
@[simp] theorem bD_shr {k j : IntKind} {a b : Int} (h : 0 ≤ b) : binD .shr (.d (.int k a)) (.d (.int j b)) = some (.int k (a.fdiv ((2 ^ (min b.toNat k.bits) : Nat) : Int))) := binD_of (bin_shr h)
@[simp] theorem bD_seql {a b : List UInt8} : binD .eql (.d (.str a)) (.d (.str b)) = if a = b then some (.bool true) else some (.bool false) := binD_if bin_seql
@[simp] theorem bD_sneq {a b : List UInt8} : binD .neq (.d (.str a)) (.d (.str b)) = if a = b then some (.bool false) else some (.bool true) := binD_if bin_sneq
theorem bD_or {k : IntKind} {a b : Nat} (h : a < topN k) (h2 : b < topN k) (h3 : a ||| b < topN k) : binD .or (.d (.int k (a : Int))) (.d (.int k (b : Int))) = some (.int k ((a ||| b : Nat) : Int)) := binD_of (bin_or h h2 h3)
theorem bD_and {k : IntKind} {a b : Nat} (h : a < topN k) (h2 : b < topN k) : binD .and (.d (.int k (a : Int))) (.d (.int k (b : Int))) = some (.int k ((a &&& b : Nat) : Int)) := binD_of (bin_and h h2)
theorem bD_xor {k : IntKind} {a b : Nat} (h : a < topN k) (h2 : b < topN k) (h3 : a ^^^ b < topN k) : binD .xor (.d (.int k (a : Int))) (.d (.int k (b : Int))) = some (.int k ((a ^^^ b : Nat) : Int)) := binD_of (bin_xor h h2 h3)
theorem or_low {n b : Nat} (h : b ≤ 1) : 2 * n ||| b = 2 * n + b := by
  have := Nat.two_pow_add_eq_or_of_lt (i := 1) (b := b) (by omega) n
  simpa using this.symm
/-- A bit behind a number's. -/
@[simp] theorem bD_or1 {a b : Int} (h : 0 ≤ a) (h1 : a < 4611686018427387904) (h2 : a % 2 = 0) (h3 : 0 ≤ b) (h4 : b ≤ 1) : binD .or (.d (.int .i64 a)) (.d (.int .i64 b)) = some (.int .i64 (a + b)) := by
  obtain ⟨n, rfl⟩ : ∃ n : Nat, a = ((2 * n : Nat) : Int) := ⟨(a / 2).toNat, by omega⟩
  obtain ⟨m, rfl⟩ := Int.eq_ofNat_of_zero_le h3
  have hm : m ≤ 1 := by omega
  have ht : topN .i64 = 9223372036854775808 := rfl
  rw [bD_or (by omega) (by omega) (by rw [or_low hm]; omega), or_low hm]
  simp
@[simp] theorem unD_not {b : Bool} : unD .not (.d (.bool b)) = some (.bool !b) := (rfl)
@[simp] theorem unD_neg {k : IntKind} {n : Int} : unD .neg (.d (.int k n)) = some (.int k (wr k (0 - n))) := (rfl)
@[simp] theorem convD_e {k j : IntKind} {n : Int} : convD k (.d (.int j n)) = some (.int k (wr k n)) := (rfl)
@[simp] theorem ofNat_cast {n : Nat} : Int.ofNat n = (n : Int) := (rfl)
attribute [simp] wr_i64 wr_u8 wr_u16 wr_u32 wr_u64
attribute [simp] ints_len byts_len bools_len toNat_add IntKind.bits
@[simp] theorem ia_list {h : Heap} {m : Nat} {xs : List (List D)} {k : IntKind} {i : Int} (h0 : 0 ≤ i) : iaV h m (.d (.lst xs)) (.d (.int k i)) = bA xs[i.toNat]? fun x => if x.length = m then some (.pim x 0) else none := by
  simp only [iaV, natOf_i h0, elems]
  cases xs[i.toNat]? with
  | none => rfl
  | some x =>
    simp only [bA]
    by_cases hx : x.length = m
    · simp [hx]
    · simp [hx, beqN]
@[simp] theorem ia_own {h : Heap} {m j : Nat} {xs : List (List D)} {k : IntKind} {i : Int} (h0 : 0 ≤ i) : iaV h m (.own false j xs) (.d (.int k i)) = bA xs[i.toNat]? fun x => if x.length = m then some (.pim x 0) else none := by
  simp only [iaV, natOf_i h0, elems]
  cases xs[i.toNat]? with
  | none => rfl
  | some x =>
    simp only [bA]
    by_cases hx : x.length = m
    · simp [hx]
    · simp [hx, beqN]
attribute [simp] ints_get byts_get bools_get
@[simp] theorem lod_pim1 {h : Heap} {x : D} : lodV h none (.pim [x] 0) = some (.d x) := (rfl)
@[simp] theorem lod_pim {h : Heap} {n : Option Nat} {cs : List D} {o : Nat} : lodV h n (.pim cs o) = ofElem n cs o := by
  simp only [lodV, loadAt]; cases ofElem n cs o <;> rfl
@[simp] theorem ofElem_0 {cs : List D} {o : Nat} : ofElem none cs o = (cs[o]?).map .d := by simp only [ofElem]; cases cs[o]? <;> rfl
@[simp] theorem ofElem_1 {cs : List D} {n o : Nat} : ofElem (some n) cs o = if o + n ≤ cs.length then some (.agg ((sub cs o n).map .d)) else none := by
  by_cases h : o + n ≤ cs.length <;> simp [ofElem, bleN, h]

@[simp] theorem gq0 {α : Type} {x : α} {r : List α} : (x :: r)[0]? = some x := (rfl)
@[simp] theorem gqs {α : Type} {x : α} {r : List α} {i : Nat} : (x :: r)[i + 1]? = r[i]? := (rfl)
@[simp] theorem map_s {α β : Type} {f : α → β} {x : α} : Option.map f (some x) = some (f x) := (rfl)
/-! ### Calls -/
@[simp] theorem call_ans {f : FuncId} {vs : List AV} {h : Heap} : callPure (Dn P) f vs h = bA (viewArgs h vs) fun ds => bA (ans P f ds) fun v => if vs.any fluid = false then some v else if fresh3 v = true then some v else some (dull3 v) := by
  simp only [callPure, ans, topK, bA]
  cases viewArgs h vs with
  | none => rfl
  | some ds =>
    simp only
    cases (Dn P).call f ds ⟨[], 0⟩ with
    | none => rfl
    | some q =>
      obtain ⟨v, h2⟩ := q
      simp only
      cases resTop h2.heap v with
      | none => rfl
      | some v =>
        simp only
        cases vs.any fluid with
        | false => rfl
        | true => simp only; cases fresh3 v <;> rfl
/-! ### Definitions, equation by equation -/
@[simp] theorem share_junk  : share (.junk) = .junk := (rfl)
@[simp] theorem share_d {x : D} : share (.d x) = .d x := (rfl)
@[simp] theorem share_nl  : share (.nl) = .nl := (rfl)
@[simp] theorem share_own0 {m : Nat} {xs : List (List D)} : share (.own false m xs) = .d (.lst xs) := (rfl)
@[simp] theorem share_gl {n : Nat} : share (.gl n) = .gl n := (rfl)
@[simp] theorem share_agg {cs : List AV} : share (.agg cs) = .agg (shareAll cs) := (rfl)
@[simp] theorem share_tup {cs : List AV} : share (.tup cs) = .tup (shareAll cs) := (rfl)
@[simp] theorem share_nilp  : share (.nilp) = .nilp := (rfl)
@[simp] theorem share_ptr {a b : Nat} : share (.ptr a b) = .ptr a b := (rfl)
@[simp] theorem share_pel {a b c : Nat} : share (.pel a b c) = .pel a b c := (rfl)
@[simp] theorem share_pim {cs : List D} {b : Nat} : share (.pim cs b) = .pim cs b := (rfl)
@[simp] theorem share_sl {a b c : Nat} : share (.sl a b c) = .sl a b c := (rfl)
@[simp] theorem share_fn {f : FuncId} {a b : List AV} : share (.fn f a b) = .fn f a b := (rfl)
@[simp] theorem share_nilf  : share (.nilf) = .nilf := (rfl)
@[simp] theorem share_yield {n : Nat} : share (.yield n) = .yield n := (rfl)
@[simp] theorem shareAll_0  : shareAll [] = [] := (rfl)
@[simp] theorem shareAll_1 {v : AV} {r : List AV} : shareAll (v :: r) = share v :: shareAll r := (by rw [shareAll_cons])
@[simp] theorem firm1_junk  : firm1 (.junk) = .junk := (rfl)
@[simp] theorem firm2_junk  : firm2 (.junk) = .junk := (rfl)
@[simp] theorem cells_junk  : AV.cells (.junk) = [.junk] := (rfl)
@[simp] theorem isCell_junk  : isCell (.junk) = false := (rfl)
@[simp] theorem okPart_junk  : okPart (.junk) = isCell (.junk) := (rfl)
@[simp] theorem isSl_junk  : isSl (.junk) = false := (rfl)
@[simp] theorem fluid_junk  : fluid (.junk) = false := (rfl)
@[simp] theorem fresh1_junk  : fresh1 (.junk) = true := (rfl)
@[simp] theorem fresh2_junk  : fresh2 (.junk) = true := (rfl)
@[simp] theorem fresh3_junk  : fresh3 (.junk) = true := (rfl)
@[simp] theorem bless1_junk  : bless1 (.junk) = .junk := (rfl)
@[simp] theorem bless2_junk  : bless2 (.junk) = .junk := (rfl)
@[simp] theorem bless3_junk  : bless3 (.junk) = .junk := (rfl)
@[simp] theorem firm1_d {x : D} : firm1 (.d x) = .d x := (rfl)
@[simp] theorem firm2_d {x : D} : firm2 (.d x) = .d x := (rfl)
@[simp] theorem cells_d {x : D} : AV.cells (.d x) = [.d x] := (rfl)
@[simp] theorem isCell_d {x : D} : isCell (.d x) = true := (rfl)
@[simp] theorem okPart_d {x : D} : okPart (.d x) = isCell (.d x) := (rfl)
@[simp] theorem isSl_d {x : D} : isSl (.d x) = false := (rfl)
@[simp] theorem fluid_d {x : D} : fluid (.d x) = false := (rfl)
@[simp] theorem bless1_d {x : D} : bless1 (.d x) = .d x := (rfl)
@[simp] theorem bless2_d {x : D} : bless2 (.d x) = .d x := (rfl)
@[simp] theorem bless3_d {x : D} : bless3 (.d x) = .d x := (rfl)
@[simp] theorem firm1_nl  : firm1 (.nl) = .nl := (rfl)
@[simp] theorem firm2_nl  : firm2 (.nl) = .nl := (rfl)
@[simp] theorem cells_nl  : AV.cells (.nl) = [.nl] := (rfl)
@[simp] theorem isCell_nl  : isCell (.nl) = true := (rfl)
@[simp] theorem okPart_nl  : okPart (.nl) = isCell (.nl) := (rfl)
@[simp] theorem isSl_nl  : isSl (.nl) = false := (rfl)
@[simp] theorem fluid_nl  : fluid (.nl) = false := (rfl)
@[simp] theorem fresh1_nl  : fresh1 (.nl) = true := (rfl)
@[simp] theorem fresh2_nl  : fresh2 (.nl) = true := (rfl)
@[simp] theorem fresh3_nl  : fresh3 (.nl) = true := (rfl)
@[simp] theorem bless1_nl  : bless1 (.nl) = .nl := (rfl)
@[simp] theorem bless2_nl  : bless2 (.nl) = .nl := (rfl)
@[simp] theorem bless3_nl  : bless3 (.nl) = .nl := (rfl)
@[simp] theorem firm1_own {p : Bool} {m : Nat} {xs : List (List D)} : firm1 (.own p m xs) = .own false m xs := (rfl)
@[simp] theorem firm2_own {p : Bool} {m : Nat} {xs : List (List D)} : firm2 (.own p m xs) = .own false m xs := (rfl)
@[simp] theorem cells_own {p : Bool} {m : Nat} {xs : List (List D)} : AV.cells (.own p m xs) = [.own p m xs] := (rfl)
@[simp] theorem isCell_own {p : Bool} {m : Nat} {xs : List (List D)} : isCell (.own p m xs) = !p := (rfl)
@[simp] theorem okPart_own {p : Bool} {m : Nat} {xs : List (List D)} : okPart (.own p m xs) = isCell (.own p m xs) := (rfl)
@[simp] theorem isSl_own {p : Bool} {m : Nat} {xs : List (List D)} : isSl (.own p m xs) = false := (rfl)
@[simp] theorem fluid_own {p : Bool} {m : Nat} {xs : List (List D)} : fluid (.own p m xs) = false := (rfl)
@[simp] theorem firm1_gl {n : Nat} : firm1 (.gl n) = .gl n := (rfl)
@[simp] theorem firm2_gl {n : Nat} : firm2 (.gl n) = .gl n := (rfl)
@[simp] theorem cells_gl {n : Nat} : AV.cells (.gl n) = [.gl n] := (rfl)
@[simp] theorem isCell_gl {n : Nat} : isCell (.gl n) = true := (rfl)
@[simp] theorem okPart_gl {n : Nat} : okPart (.gl n) = isCell (.gl n) := (rfl)
@[simp] theorem isSl_gl {n : Nat} : isSl (.gl n) = false := (rfl)
@[simp] theorem fluid_gl {n : Nat} : fluid (.gl n) = false := (rfl)
@[simp] theorem fresh1_gl {n : Nat} : fresh1 (.gl n) = true := (rfl)
@[simp] theorem fresh2_gl {n : Nat} : fresh2 (.gl n) = true := (rfl)
@[simp] theorem fresh3_gl {n : Nat} : fresh3 (.gl n) = true := (rfl)
@[simp] theorem bless1_gl {n : Nat} : bless1 (.gl n) = .gl n := (rfl)
@[simp] theorem bless2_gl {n : Nat} : bless2 (.gl n) = .gl n := (rfl)
@[simp] theorem bless3_gl {n : Nat} : bless3 (.gl n) = .gl n := (rfl)
@[simp] theorem firm1_agg {cs : List AV} : firm1 (.agg cs) = .agg cs := (rfl)
@[simp] theorem firm2_agg {cs : List AV} : firm2 (.agg cs) = .agg (cs.map firm1) := (rfl)
@[simp] theorem cells_agg {cs : List AV} : AV.cells (.agg cs) = cs := (rfl)
@[simp] theorem isCell_agg {cs : List AV} : isCell (.agg cs) = false := (rfl)
@[simp] theorem okPart_agg {cs : List AV} : okPart (.agg cs) = true := (rfl)
@[simp] theorem isSl_agg {cs : List AV} : isSl (.agg cs) = false := (rfl)
@[simp] theorem fluid_agg {cs : List AV} : fluid (.agg cs) = cs.any isSl := (rfl)
@[simp] theorem fresh1_agg {cs : List AV} : fresh1 (.agg cs) = true := (rfl)
@[simp] theorem bless1_agg {cs : List AV} : bless1 (.agg cs) = .agg cs := (rfl)
@[simp] theorem firm1_tup {cs : List AV} : firm1 (.tup cs) = .tup cs := (rfl)
@[simp] theorem firm2_tup {cs : List AV} : firm2 (.tup cs) = .tup cs := (rfl)
@[simp] theorem cells_tup {cs : List AV} : AV.cells (.tup cs) = [.tup cs] := (rfl)
@[simp] theorem isCell_tup {cs : List AV} : isCell (.tup cs) = false := (rfl)
@[simp] theorem okPart_tup {cs : List AV} : okPart (.tup cs) = isCell (.tup cs) := (rfl)
@[simp] theorem isSl_tup {cs : List AV} : isSl (.tup cs) = false := (rfl)
@[simp] theorem fluid_tup {cs : List AV} : fluid (.tup cs) = false := (rfl)
@[simp] theorem fresh1_tup {cs : List AV} : fresh1 (.tup cs) = true := (rfl)
@[simp] theorem bless1_tup {cs : List AV} : bless1 (.tup cs) = .tup cs := (rfl)
@[simp] theorem bless2_tup {cs : List AV} : bless2 (.tup cs) = .tup cs := (rfl)
@[simp] theorem firm1_nilp  : firm1 (.nilp) = .nilp := (rfl)
@[simp] theorem firm2_nilp  : firm2 (.nilp) = .nilp := (rfl)
@[simp] theorem cells_nilp  : AV.cells (.nilp) = [.nilp] := (rfl)
@[simp] theorem isCell_nilp  : isCell (.nilp) = true := (rfl)
@[simp] theorem okPart_nilp  : okPart (.nilp) = isCell (.nilp) := (rfl)
@[simp] theorem isSl_nilp  : isSl (.nilp) = false := (rfl)
@[simp] theorem fluid_nilp  : fluid (.nilp) = false := (rfl)
@[simp] theorem fresh1_nilp  : fresh1 (.nilp) = true := (rfl)
@[simp] theorem fresh2_nilp  : fresh2 (.nilp) = true := (rfl)
@[simp] theorem fresh3_nilp  : fresh3 (.nilp) = true := (rfl)
@[simp] theorem bless1_nilp  : bless1 (.nilp) = .nilp := (rfl)
@[simp] theorem bless2_nilp  : bless2 (.nilp) = .nilp := (rfl)
@[simp] theorem bless3_nilp  : bless3 (.nilp) = .nilp := (rfl)
@[simp] theorem firm1_ptr {a b : Nat} : firm1 (.ptr a b) = .ptr a b := (rfl)
@[simp] theorem firm2_ptr {a b : Nat} : firm2 (.ptr a b) = .ptr a b := (rfl)
@[simp] theorem cells_ptr {a b : Nat} : AV.cells (.ptr a b) = [.ptr a b] := (rfl)
@[simp] theorem isCell_ptr {a b : Nat} : isCell (.ptr a b) = true := (rfl)
@[simp] theorem okPart_ptr {a b : Nat} : okPart (.ptr a b) = isCell (.ptr a b) := (rfl)
@[simp] theorem nilck_ptr {a b : Nat} : nilckV (.ptr a b) = some (.ptr a b) := (rfl)
@[simp] theorem isSl_ptr {a b : Nat} : isSl (.ptr a b) = false := (rfl)
@[simp] theorem fluid_ptr {a b : Nat} : fluid (.ptr a b) = false := (rfl)
@[simp] theorem fresh1_ptr {a b : Nat} : fresh1 (.ptr a b) = true := (rfl)
@[simp] theorem fresh2_ptr {a b : Nat} : fresh2 (.ptr a b) = true := (rfl)
@[simp] theorem fresh3_ptr {a b : Nat} : fresh3 (.ptr a b) = true := (rfl)
@[simp] theorem bless1_ptr {a b : Nat} : bless1 (.ptr a b) = .ptr a b := (rfl)
@[simp] theorem bless2_ptr {a b : Nat} : bless2 (.ptr a b) = .ptr a b := (rfl)
@[simp] theorem bless3_ptr {a b : Nat} : bless3 (.ptr a b) = .ptr a b := (rfl)
@[simp] theorem firm1_pel {a b c : Nat} : firm1 (.pel a b c) = .pel a b c := (rfl)
@[simp] theorem firm2_pel {a b c : Nat} : firm2 (.pel a b c) = .pel a b c := (rfl)
@[simp] theorem cells_pel {a b c : Nat} : AV.cells (.pel a b c) = [.pel a b c] := (rfl)
@[simp] theorem isCell_pel {a b c : Nat} : isCell (.pel a b c) = true := (rfl)
@[simp] theorem okPart_pel {a b c : Nat} : okPart (.pel a b c) = isCell (.pel a b c) := (rfl)
@[simp] theorem nilck_pel {a b c : Nat} : nilckV (.pel a b c) = some (.pel a b c) := (rfl)
@[simp] theorem isSl_pel {a b c : Nat} : isSl (.pel a b c) = false := (rfl)
@[simp] theorem fluid_pel {a b c : Nat} : fluid (.pel a b c) = false := (rfl)
@[simp] theorem fresh1_pel {a b c : Nat} : fresh1 (.pel a b c) = true := (rfl)
@[simp] theorem fresh2_pel {a b c : Nat} : fresh2 (.pel a b c) = true := (rfl)
@[simp] theorem fresh3_pel {a b c : Nat} : fresh3 (.pel a b c) = true := (rfl)
@[simp] theorem bless1_pel {a b c : Nat} : bless1 (.pel a b c) = .pel a b c := (rfl)
@[simp] theorem bless2_pel {a b c : Nat} : bless2 (.pel a b c) = .pel a b c := (rfl)
@[simp] theorem bless3_pel {a b c : Nat} : bless3 (.pel a b c) = .pel a b c := (rfl)
@[simp] theorem firm1_pim {cs : List D} {b : Nat} : firm1 (.pim cs b) = .pim cs b := (rfl)
@[simp] theorem firm2_pim {cs : List D} {b : Nat} : firm2 (.pim cs b) = .pim cs b := (rfl)
@[simp] theorem cells_pim {cs : List D} {b : Nat} : AV.cells (.pim cs b) = [.pim cs b] := (rfl)
@[simp] theorem isCell_pim {cs : List D} {b : Nat} : isCell (.pim cs b) = true := (rfl)
@[simp] theorem okPart_pim {cs : List D} {b : Nat} : okPart (.pim cs b) = isCell (.pim cs b) := (rfl)
@[simp] theorem nilck_pim {cs : List D} {b : Nat} : nilckV (.pim cs b) = some (.pim cs b) := (rfl)
@[simp] theorem isSl_pim {cs : List D} {b : Nat} : isSl (.pim cs b) = false := (rfl)
@[simp] theorem fluid_pim {cs : List D} {b : Nat} : fluid (.pim cs b) = false := (rfl)
@[simp] theorem fresh1_pim {cs : List D} {b : Nat} : fresh1 (.pim cs b) = true := (rfl)
@[simp] theorem fresh2_pim {cs : List D} {b : Nat} : fresh2 (.pim cs b) = true := (rfl)
@[simp] theorem fresh3_pim {cs : List D} {b : Nat} : fresh3 (.pim cs b) = true := (rfl)
@[simp] theorem bless1_pim {cs : List D} {b : Nat} : bless1 (.pim cs b) = .pim cs b := (rfl)
@[simp] theorem bless2_pim {cs : List D} {b : Nat} : bless2 (.pim cs b) = .pim cs b := (rfl)
@[simp] theorem bless3_pim {cs : List D} {b : Nat} : bless3 (.pim cs b) = .pim cs b := (rfl)
@[simp] theorem firm1_sl {a b c : Nat} : firm1 (.sl a b c) = .sl a b c := (rfl)
@[simp] theorem firm2_sl {a b c : Nat} : firm2 (.sl a b c) = .sl a b c := (rfl)
@[simp] theorem cells_sl {a b c : Nat} : AV.cells (.sl a b c) = [.sl a b c] := (rfl)
@[simp] theorem isCell_sl {a b c : Nat} : isCell (.sl a b c) = true := (rfl)
@[simp] theorem okPart_sl {a b c : Nat} : okPart (.sl a b c) = isCell (.sl a b c) := (rfl)
@[simp] theorem isSl_sl {a b c : Nat} : isSl (.sl a b c) = true := (rfl)
@[simp] theorem fluid_sl {a b c : Nat} : fluid (.sl a b c) = true := (rfl)
@[simp] theorem fresh1_sl {a b c : Nat} : fresh1 (.sl a b c) = true := (rfl)
@[simp] theorem fresh2_sl {a b c : Nat} : fresh2 (.sl a b c) = true := (rfl)
@[simp] theorem fresh3_sl {a b c : Nat} : fresh3 (.sl a b c) = true := (rfl)
@[simp] theorem bless1_sl {a b c : Nat} : bless1 (.sl a b c) = .sl a b c := (rfl)
@[simp] theorem bless2_sl {a b c : Nat} : bless2 (.sl a b c) = .sl a b c := (rfl)
@[simp] theorem bless3_sl {a b c : Nat} : bless3 (.sl a b c) = .sl a b c := (rfl)
@[simp] theorem firm1_fn {f : FuncId} {a b : List AV} : firm1 (.fn f a b) = .fn f a b := (rfl)
@[simp] theorem firm2_fn {f : FuncId} {a b : List AV} : firm2 (.fn f a b) = .fn f a b := (rfl)
@[simp] theorem cells_fn {f : FuncId} {a b : List AV} : AV.cells (.fn f a b) = [.fn f a b] := (rfl)
@[simp] theorem isCell_fn {f : FuncId} {a b : List AV} : isCell (.fn f a b) = true := (rfl)
@[simp] theorem okPart_fn {f : FuncId} {a b : List AV} : okPart (.fn f a b) = isCell (.fn f a b) := (rfl)
@[simp] theorem nilck_fn {f : FuncId} {a b : List AV} : nilckV (.fn f a b) = some (.fn f a b) := (rfl)
@[simp] theorem isSl_fn {f : FuncId} {a b : List AV} : isSl (.fn f a b) = false := (rfl)
@[simp] theorem fluid_fn {f : FuncId} {a b : List AV} : fluid (.fn f a b) = false := (rfl)
@[simp] theorem fresh1_fn {f : FuncId} {a b : List AV} : fresh1 (.fn f a b) = true := (rfl)
@[simp] theorem fresh2_fn {f : FuncId} {a b : List AV} : fresh2 (.fn f a b) = true := (rfl)
@[simp] theorem fresh3_fn {f : FuncId} {a b : List AV} : fresh3 (.fn f a b) = true := (rfl)
@[simp] theorem bless1_fn {f : FuncId} {a b : List AV} : bless1 (.fn f a b) = .fn f a b := (rfl)
@[simp] theorem bless2_fn {f : FuncId} {a b : List AV} : bless2 (.fn f a b) = .fn f a b := (rfl)
@[simp] theorem bless3_fn {f : FuncId} {a b : List AV} : bless3 (.fn f a b) = .fn f a b := (rfl)
@[simp] theorem firm1_nilf  : firm1 (.nilf) = .nilf := (rfl)
@[simp] theorem firm2_nilf  : firm2 (.nilf) = .nilf := (rfl)
@[simp] theorem cells_nilf  : AV.cells (.nilf) = [.nilf] := (rfl)
@[simp] theorem isCell_nilf  : isCell (.nilf) = true := (rfl)
@[simp] theorem okPart_nilf  : okPart (.nilf) = isCell (.nilf) := (rfl)
@[simp] theorem isSl_nilf  : isSl (.nilf) = false := (rfl)
@[simp] theorem fluid_nilf  : fluid (.nilf) = false := (rfl)
@[simp] theorem fresh1_nilf  : fresh1 (.nilf) = true := (rfl)
@[simp] theorem fresh2_nilf  : fresh2 (.nilf) = true := (rfl)
@[simp] theorem fresh3_nilf  : fresh3 (.nilf) = true := (rfl)
@[simp] theorem bless1_nilf  : bless1 (.nilf) = .nilf := (rfl)
@[simp] theorem bless2_nilf  : bless2 (.nilf) = .nilf := (rfl)
@[simp] theorem bless3_nilf  : bless3 (.nilf) = .nilf := (rfl)
@[simp] theorem firm1_yield {n : Nat} : firm1 (.yield n) = .yield n := (rfl)
@[simp] theorem firm2_yield {n : Nat} : firm2 (.yield n) = .yield n := (rfl)
@[simp] theorem cells_yield {n : Nat} : AV.cells (.yield n) = [.yield n] := (rfl)
@[simp] theorem isCell_yield {n : Nat} : isCell (.yield n) = true := (rfl)
@[simp] theorem okPart_yield {n : Nat} : okPart (.yield n) = isCell (.yield n) := (rfl)
@[simp] theorem nilck_yield {n : Nat} : nilckV (.yield n) = some (.yield n) := (rfl)
@[simp] theorem isSl_yield {n : Nat} : isSl (.yield n) = false := (rfl)
@[simp] theorem fluid_yield {n : Nat} : fluid (.yield n) = false := (rfl)
@[simp] theorem fresh1_yield {n : Nat} : fresh1 (.yield n) = true := (rfl)
@[simp] theorem fresh2_yield {n : Nat} : fresh2 (.yield n) = true := (rfl)
@[simp] theorem fresh3_yield {n : Nat} : fresh3 (.yield n) = true := (rfl)
@[simp] theorem bless1_yield {n : Nat} : bless1 (.yield n) = .yield n := (rfl)
@[simp] theorem bless2_yield {n : Nat} : bless2 (.yield n) = .yield n := (rfl)
@[simp] theorem bless3_yield {n : Nat} : bless3 (.yield n) = .yield n := (rfl)
@[simp] theorem lenOf_lst {xs : List (List D)} : lenOf (.d (.lst xs)) = some xs.length := (rfl)
@[simp] theorem lenOf_nl  : lenOf .nl = some 0 := (rfl)
@[simp] theorem lenOf_own {p : Bool} {m : Nat} {xs : List (List D)} : lenOf (.own p m xs) = some xs.length := (rfl)
@[simp] theorem lenOf_gl {n : Nat} : lenOf (.gl n) = some n := (rfl)
@[simp] theorem lenOf_sl {a b n : Nat} : lenOf (.sl a b n) = some n := (rfl)
@[simp] theorem elems_lst {h : Heap} {xs : List (List D)} : elems h (.d (.lst xs)) = some xs := (rfl)
@[simp] theorem elems_nl {h : Heap} : elems h .nl = some [] := (rfl)
@[simp] theorem elems_own {h : Heap} {m : Nat} {xs : List (List D)} : elems h (.own false m xs) = some xs := (rfl)
@[simp] theorem addOff_ptr {o a b : Nat} : addOff o (.ptr a b) = some (.ptr a (b + o)) := (rfl)
@[simp] theorem addOff_pel {o a b c : Nat} : addOff o (.pel a b c) = some (.pel a b (c + o)) := (rfl)
@[simp] theorem addOff_pim {o b : Nat} {cs : List D} : addOff o (.pim cs b) = some (.pim cs (b + o)) := (rfl)
@[simp] theorem extV_t {cs : List AV} {i : Nat} : extV true (.tup cs) i = cs[i]? := (by simp only [extV]; cases cs[i]? <;> rfl)
@[simp] theorem extV_f {cs : List AV} {i : Nat} : extV false (.tup cs) i = (cs[i]?).map share := (by simp only [extV]; cases cs[i]? <;> rfl)
@[simp] theorem extR_t {cs : List AV} {i : Nat} : extR (.tup cs) i = .tup (cs.set i .junk) := (rfl)
@[simp] theorem capB_nl  : capB .nl = true := (rfl)
@[simp] theorem fldV_agg {o : Nat} {n : Option Nat} {cs : List AV} : fldV o n (.agg cs) = partOf n cs o := (rfl)
@[simp] theorem partOf_0 {o : Nat} {cs : List AV} : partOf none cs o = cs[o]? := (rfl)
@[simp] theorem partOf_1 {o n : Nat} {cs : List AV} : partOf (some n) cs o = if o + n ≤ cs.length then some (.agg (sub cs o n)) else none := (by by_cases h : o + n ≤ cs.length <;> simp [partOf, bleN, h])
@[simp] theorem optN_t {n : Nat} : optN true n = some n := (rfl)
@[simp] theorem optN_f {n : Nat} : optN false n = none := (rfl)
@[simp] theorem toD_d {x : D} : toD (.d x) = some x := (rfl)
@[simp] theorem toD_nl  : toD .nl = some (.lst []) := (rfl)
@[simp] theorem toD_own {m : Nat} {xs : List (List D)} : toD (.own false m xs) = some (.lst xs) := (rfl)
@[simp] theorem toDs_0  : toDs [] = some [] := (rfl)
@[simp] theorem toDs_1 {v : AV} {r : List AV} : toDs (v :: r) = bA (toD v) fun x => bA (toDs r) fun xs => some (x :: xs) := (by
  simp only [toDs]
  cases toD v with
  | none => rfl
  | some q => simp only [bA]; cases toDs r <;> rfl)
@[simp] theorem mkElems_0 {m : Nat} : mkElems m [] = some [] := (rfl)
@[simp] theorem mkElems_1 {m : Nat} {v : AV} {r : List AV} : mkElems m (v :: r) = if v.cells.length = m then bA (toDs v.cells) fun x => bA (mkElems m r) fun xs => some (x :: xs) else none := (by
  by_cases h : v.cells.length = m
  · simp only [mkElems, beqN, h, decide_true, if_true]
    cases toDs v.cells with
    | none => rfl
    | some q => simp only [bA]; cases mkElems m r <;> rfl
  · simp only [mkElems, beqN, h, decide_false, if_false])
@[simp] theorem fillCells_0 {cs : List AV} : fillCells cs [] = some cs := (rfl)
@[simp] theorem fillCells_1 {cs : List AV} {o n : Nat} {v : AV} {r : List (Nat × Nat × AV)} : fillCells cs ((o, n, v) :: r) = if v.cells.length = n ∧ okPart v = true ∧ o + n ≤ cs.length then fillCells (setCells cs o v.cells) r else none := (by
  simp only [fillCells, beqN, bleN]
  by_cases h : v.cells.length = n <;> by_cases h2 : okPart v = true <;> by_cases h3 : o + n ≤ cs.length <;> simp [h, h2, h3])
theorem setCells_e {α : Type} {cs vs : List α} {o : Nat} : setCells cs o vs = cs.take o ++ vs ++ cs.drop (o + vs.length) := (rfl)
attribute [simp] setCells_e
theorem sub_e {α : Type} {cs : List α} {o n : Nat} : sub cs o n = (cs.drop o).take n := (rfl)
attribute [simp] sub_e
@[simp] theorem viewOne_d {h : Heap} {x : D} : viewOne h (.d x) = some (.d x) := (rfl)
@[simp] theorem viewOne_nl {h : Heap} : viewOne h .nl = some .nl := (rfl)
@[simp] theorem viewOne_own {h : Heap} {m : Nat} {xs : List (List D)} : viewOne h (.own false m xs) = some (.d (.lst xs)) := (rfl)
@[simp] theorem viewOne_sl {h : Heap} {a b c : Nat} : viewOne h (.sl a b c) = bA (elems h (.sl a b c)) fun xs => some (.d (.lst xs)) := (by simp only [viewOne]; cases elems h (.sl a b c) <;> rfl)
@[simp] theorem viewAll_0 {h : Heap} : viewAll h [] = some [] := (rfl)
@[simp] theorem viewAll_1 {h : Heap} {v : AV} {r : List AV} : viewAll h (v :: r) = bA (viewOne h v) fun x => bA (viewAll h r) fun xs => some (x :: xs) := (by
  simp only [viewAll]
  cases viewOne h v with
  | none => rfl
  | some q => simp only [bA]; cases viewAll h r <;> rfl)
@[simp] theorem viewArg_d {h : Heap} {x : D} : viewArg h (.d x) = viewOne h (.d x) := (rfl)
@[simp] theorem viewArg_nl {h : Heap}  : viewArg h (.nl) = viewOne h (.nl) := (rfl)
@[simp] theorem viewArg_own {h : Heap} {p : Bool} {m : Nat} {xs : List (List D)} : viewArg h (.own p m xs) = viewOne h (.own p m xs) := (rfl)
@[simp] theorem viewArg_agg {h : Heap} {cs : List AV} : viewArg h (.agg cs) = bA (viewAll h cs) fun xs => some (.agg xs) := (by simp only [viewArg]; cases viewAll h cs <;> rfl)
@[simp] theorem viewArg_sl {h : Heap} {a b c : Nat} : viewArg h (.sl a b c) = viewOne h (.sl a b c) := (rfl)
@[simp] theorem viewArgs_0 {h : Heap} : viewArgs h [] = some [] := (rfl)
@[simp] theorem viewArgs_1 {h : Heap} {v : AV} {r : List AV} : viewArgs h (v :: r) = bA (viewArg h v) fun x => bA (viewArgs h r) fun xs => some (x :: xs) := (by
  simp only [viewArgs]
  cases viewArg h v with
  | none => rfl
  | some q => simp only [bA]; cases viewArgs h r <;> rfl)
@[simp] theorem resOne_d {h : Heap} {x : D} : resOne h (.d x) = some (.d x, h) := (rfl)
@[simp] theorem resOne_nl {h : Heap} : resOne h .nl = some (.nl, h) := (rfl)
@[simp] theorem resOne_own {h : Heap} {p : Bool} {m : Nat} {xs : List (List D)} : resOne h (.own p m xs) = some (.own p m xs, h) := (rfl)
@[simp] theorem resAll_0 {h : Heap} : resAll h [] = some ([], h) := (rfl)
@[simp] theorem resAll_1 {h : Heap} {v : AV} {r : List AV} : resAll h (v :: r) = bP (resOne h v) fun x h => bP (resAll h r) fun xs h => some (x :: xs, h) := (by simp only [resAll]; cases resOne h v with
  | none => rfl
  | some q => simp only [bP]; cases resAll q.2 r <;> rfl)
@[simp] theorem resAgg_agg {h : Heap} {cs : List AV} : resAgg h (.agg cs) = bP (resAll h cs) fun xs h => some (.agg xs, h) := (by simp only [resAgg]; cases resAll h cs <;> rfl)
@[simp] theorem resAgg_d {h : Heap} {x : D} : resAgg h (.d x) = resOne h (.d x) := (rfl)
@[simp] theorem resAgg_nl {h : Heap}  : resAgg h (.nl) = resOne h (.nl) := (rfl)
@[simp] theorem resAgg_own {h : Heap} {p : Bool} {m : Nat} {xs : List (List D)} : resAgg h (.own p m xs) = resOne h (.own p m xs) := (rfl)
@[simp] theorem resAgg_sl {h : Heap} {a b c : Nat} : resAgg h (.sl a b c) = resOne h (.sl a b c) := (rfl)
@[simp] theorem resAggs_0 {h : Heap} : resAggs h [] = some ([], h) := (rfl)
@[simp] theorem resAggs_1 {h : Heap} {v : AV} {r : List AV} : resAggs h (v :: r) = bP (resAgg h v) fun x h => bP (resAggs h r) fun xs h => some (x :: xs, h) := (by simp only [resAggs]; cases resAgg h v with
  | none => rfl
  | some q => simp only [bP]; cases resAggs q.2 r <;> rfl)
@[simp] theorem resTop_tup {h : Heap} {cs : List AV} : resTop h (.tup cs) = bP (resAggs h cs) fun xs _ => some (blessed (.tup xs)) := (by simp only [resTop]; cases resAggs h cs <;> rfl)
@[simp] theorem resTop_d {h : Heap} {x : D} : resTop h (.d x) = bP (resAgg h (.d x)) fun x _ => some (blessed x) := (by simp only [resTop]; cases resAgg h (.d x) <;> rfl)
@[simp] theorem resTop_nl {h : Heap}  : resTop h (.nl) = bP (resAgg h (.nl)) fun x _ => some (blessed x) := (by simp only [resTop]; cases resAgg h (.nl) <;> rfl)
@[simp] theorem resTop_own {h : Heap} {p : Bool} {m : Nat} {xs : List (List D)} : resTop h (.own p m xs) = bP (resAgg h (.own p m xs)) fun x _ => some (blessed x) := (by simp only [resTop]; cases resAgg h (.own p m xs) <;> rfl)
@[simp] theorem resTop_agg {h : Heap} {cs : List AV} : resTop h (.agg cs) = bP (resAgg h (.agg cs)) fun x _ => some (blessed x) := (by simp only [resTop]; cases resAgg h (.agg cs) <;> rfl)
@[simp] theorem resTop_sl {h : Heap} {a b c : Nat} : resTop h (.sl a b c) = bP (resAgg h (.sl a b c)) fun x _ => some (blessed x) := (by simp only [resTop]; cases resAgg h (.sl a b c) <;> rfl)
@[simp] theorem blessed_e {v : AV} : blessed v = if fresh3 v = true then bless3 v else v := (by simp only [blessed]; cases fresh3 v <;> rfl)
@[simp] theorem fresh1_d {x : D} : fresh1 (.d x) = flatD x := (rfl)
@[simp] theorem fresh1_own {p : Bool} {m : Nat} {xs : List (List D)} : fresh1 (.own p m xs) = xs.all fun e => e.all flatD := (rfl)
@[simp] theorem flatD_int {k : IntKind} {n : Int} : flatD (.int k n) = true := (rfl)
@[simp] theorem flatD_bool {b : Bool} : flatD (.bool b) = true := (rfl)
@[simp] theorem flatD_str {s : List UInt8} : flatD (.str s) = true := (rfl)
@[simp] theorem flatD_lst {xs : List (List D)} : flatD (.lst xs) = false := (rfl)
@[simp] theorem fresh2_agg {cs : List AV} : fresh2 (.agg cs) = cs.all fresh1 := (rfl)
@[simp] theorem fresh2_d {x : D} : fresh2 (.d x) = flatD x := (rfl)
@[simp] theorem fresh2_own {p : Bool} {m : Nat} {xs : List (List D)} : fresh2 (.own p m xs) = xs.all fun e => e.all flatD := (rfl)
@[simp] theorem fresh2_tup {cs : List AV} : fresh2 (.tup cs) = true := (rfl)
@[simp] theorem fresh3_agg {cs : List AV} : fresh3 (.agg cs) = cs.all fresh1 := (rfl)
@[simp] theorem fresh3_d {x : D} : fresh3 (.d x) = flatD x := (rfl)
@[simp] theorem fresh3_own {p : Bool} {m : Nat} {xs : List (List D)} : fresh3 (.own p m xs) = xs.all fun e => e.all flatD := (rfl)
@[simp] theorem fresh3_tup {cs : List AV} : fresh3 (.tup cs) = cs.all fresh2 := (rfl)
@[simp] theorem bless1_own {p : Bool} {m : Nat} {xs : List (List D)} : bless1 (.own p m xs) = .own true m xs := (rfl)
@[simp] theorem bless2_own {p : Bool} {m : Nat} {xs : List (List D)} : bless2 (.own p m xs) = .own true m xs := (rfl)
@[simp] theorem bless3_own {p : Bool} {m : Nat} {xs : List (List D)} : bless3 (.own p m xs) = .own true m xs := (rfl)
@[simp] theorem bless2_agg {cs : List AV} : bless2 (.agg cs) = .agg (cs.map bless1) := (rfl)
@[simp] theorem bless3_agg {cs : List AV} : bless3 (.agg cs) = .agg (cs.map bless1) := (rfl)
@[simp] theorem bless3_tup {cs : List AV} : bless3 (.tup cs) = .tup (cs.map bless2) := (rfl)
@[simp] theorem mkEnv_0 {i : Nat} : mkEnv i [] = [] := (rfl)
@[simp] theorem mkEnv_1 {i : Nat} {v : AV} {r : List AV} : mkEnv i (v :: r) = (i, v) :: mkEnv (i + 1) r := by
  have h : ∀ (i : Nat) (r : List AV), put (mkEnv (i + 1) r) i v = (i, v) :: mkEnv (i + 1) r := fun i r => by
    have : ∃ q, mkEnv (i + 1) r = q ∧ ∀ p ∈ q, Nat.blt i p.1 = true := ⟨_, rfl, by
      have aux : ∀ (r : List AV) (j : Nat), i < j → ∀ p ∈ mkEnv j r, Nat.blt i p.1 = true := by
        intro r
        induction r with
        | nil => intro j hj p hp; simp [mkEnv] at hp
        | cons w r ih =>
          intro j hj p hp
          simp only [mkEnv] at hp
          rcases mem_put hp with rfl | hp
          · rw [Nat.blt, Nat.ble_eq]; exact hj
          · exact ih (j + 1) (by omega) p hp
      exact aux r (i + 1) (by omega)⟩
    obtain ⟨q, hq, hp⟩ := this
    rw [hq]
    cases q with
    | nil => rfl
    | cons p q =>
      obtain ⟨k, u⟩ := p
      have hk : i < k := by have := hp _ (.head _); rw [Nat.blt, Nat.ble_eq] at this; exact this
      rw [put_cons, if_neg (by omega), if_pos (by omega)]
  exact h i r
@[simp] theorem takeRes_0 {st : St} : takeRes st [] = some ([], st) := (rfl)
def tmpK (x : Option AV) (t : Nat) (st : St) (r : List VRes) : Option (List AV × St) :=
  match x with
  | some v => bP (takeRes ⟨del st.env t, st.hs⟩ r) fun vs st => some (v :: vs, st)
  | none => none
@[simp] theorem takeRes_t {t : Nat} {st : St} {r : List VRes} : takeRes st (.tmp t :: r) = tmpK (get st.env t) t st r := (by
  simp only [takeRes, tmpK]
  cases get st.env t with
  | none => rfl
  | some v => simp only; cases takeRes ⟨del st.env t, st.hs⟩ r <;> rfl)
@[simp] theorem tmpK_s {v : AV} {t : Nat} {e : Env} {hs : HS} {r : List VRes} : tmpK (some v) t ⟨e, hs⟩ r = bP (takeRes ⟨del e t, hs⟩ r) fun vs st => some (v :: vs, st) := (rfl)
def celK (x : Option AV) (t : Nat) (n : Option Nat) (st : St) (r : List VRes) : Option (List AV × St) :=
  match x with
  | some (.ptr id 0) => bP (loadAt st.hs.heap n 1 (.ptr id 0)) fun v h => bP (takeRes ⟨del st.env t, ⟨del h id, st.hs.next⟩⟩ r) fun vs st => some (v :: vs, st)
  | _ => none
@[simp] theorem takeRes_c {t : Nat} {n : Option Nat} {st : St} {r : List VRes} : takeRes st (.cell t n :: r) = celK (get st.env t) t n st r := (by
  simp only [takeRes, celK]
  cases get st.env t with
  | none => rfl
  | some v =>
    cases v <;> try rfl
    rename_i id off
    cases off with
    | succ k => rfl
    | zero =>
      simp only
      cases loadAt st.hs.heap n 1 (.ptr id 0) with
      | none => rfl
      | some q => simp only [bP]; cases takeRes _ r <;> rfl)
@[simp] theorem celK_s {id t : Nat} {n : Option Nat} {e : Env} {hs : HS} {r : List VRes} : celK (some (.ptr id 0)) t n ⟨e, hs⟩ r = bP (loadAt hs.heap n 1 (.ptr id 0)) fun v h => bP (takeRes ⟨del e t, ⟨del h id, hs.next⟩⟩ r) fun vs st => some (v :: vs, st) := (rfl)
theorem ints_flat {l : List Int} : ((ints l).all fun e => e.all flatD) = true := by simp [ints]
theorem byts_flat {l : List Nat} : ((byts l).all fun e => e.all flatD) = true := by simp [byts]
theorem bools_flat {l : List Bool} : ((bools l).all fun e => e.all flatD) = true := by simp [bools]
attribute [simp] ints_flat byts_flat bools_flat
attribute [simp] callVal_f
attribute [simp] ite_m1 ite_m2 ite_m3 ite_m4
end Go.Vm

/- Answers that are a value and a place behind it, or an error: a split that all steps of a run may be pushed into. -/
namespace Go.Vm
variable {P : Nat → Option VFunc}
/-- A value, and the place behind it; or an error (its number less 1). -/
inductive R (α : Type) where
  | ok (v : α) (n : Nat)
  | er (e : Nat)
open Classical in
noncomputable def rK {α γ : Type} (p : α → Nat → Prop) (r : R α) (f : α → Nat → γ) (g : Nat → γ) : γ :=
  match r with
  | .ok v n => if p v n then f v n else g 0
  | .er e => g e
theorem cg_rK {α γ : Type} {p q : α → Nat → Prop} {r : R α} {f f2 : α → Nat → γ} {g g2 : Nat → γ} (hp : ∀ v n, p v n = q v n) (h : ∀ v n, q v n → f v n = f2 v n) (k : ∀ e, g e = g2 e) : rK p r f g = rK q r f2 g2 := by
  have : p = q := funext fun v => funext fun n => hp v n
  subst this
  cases r with
  | ok v n =>
    simp only [rK]
    split
    · exact h _ _ ‹_›
    · exact k 0
  | er e => exact k e
attribute [congr] cg_rK
/-- A step is pushed into the split. -/
theorem rK_map {α γ δ : Type} {p : α → Nat → Prop} {r : R α} {f : α → Nat → γ} {g : Nat → γ} (k : γ → δ) : k (rK p r f g) = rK p r (fun v n => k (f v n)) fun e => k (g e) := by
  cases r with
  | ok v n => simp only [rK]; split <;> rfl
  | er e => rfl
section
variable {α : Type} {p : α → Nat → Prop} {r : R α}
@[simp ↓] theorem seqK_R {f : α → Nat → Option (Out × St)} {g : Nat → Option (Out × St)} {b : VC} : seqK P (rK p r f g) b = rK p r (fun v n => seqK P (f v n) b) fun e => seqK P (g e) b := rK_map fun x => seqK P x b
@[simp ↓] theorem blkK_R {f : α → Nat → Option (Out × St)} {g : Nat → Option (Out × St)} {i : Nat} : blkK i (rK p r f g) = rK p r (fun v n => blkK i (f v n)) fun e => blkK i (g e) := rK_map (blkK i)
@[simp ↓] theorem loopK_R {f : α → Nat → Option (Out × St)} {g : Nat → Option (Out × St)} {a : VC} : loopK P a (rK p r f g) = rK p r (fun v n => loopK P a (f v n)) fun e => loopK P a (g e) := rK_map (loopK P a)
@[simp ↓] theorem regK_R {f : α → Nat → Option St} {g : Nat → Option St} : regK (rK p r f g) = rK p r (fun v n => regK (f v n)) fun e => regK (g e) := rK_map regK
@[simp ↓] theorem endR_R {f : α → Nat → Option (Out × St)} {g : Nat → Option (Out × St)} {rs : List VRes} : endR rs (rK p r f g) = rK p r (fun v n => endR rs (f v n)) fun e => endR rs (g e) := rK_map (endR rs)
@[simp ↓] theorem topK_R {f : α → Nat → Option (AV × HS)} {g : Nat → Option (AV × HS)} : topK (rK p r f g) = rK p r (fun v n => topK (f v n)) fun e => topK (g e) := rK_map topK
@[simp ↓] theorem bA_R {γ β : Type} {f : α → Nat → Option γ} {g : Nat → Option γ} {k : γ → Option β} : bA (rK p r f g) k = rK p r (fun v n => bA (f v n) k) fun e => bA (g e) k := rK_map fun x => bA x k
@[simp ↓] theorem bP_R {γ δ β : Type} {f : α → Nat → Option (γ × δ)} {g : Nat → Option (γ × δ)} {k : γ → δ → Option β} : bP (rK p r f g) k = rK p r (fun v n => bP (f v n) k) fun e => bP (g e) k := rK_map fun x => bP x k
@[simp] theorem rK_er {γ : Type} {f : α → Nat → γ} {g : Nat → γ} {e : Nat} : rK p (.er e) f g = g e := (rfl)
theorem rK_ok {γ : Type} {f : α → Nat → γ} {g : Nat → γ} {v : α} {n : Nat} (h : p v n) : rK p (.ok v n) f g = f v n := by simp only [rK, if_pos h]
@[simp] theorem rK_if {γ : Type} {f : α → Nat → γ} {g : Nat → γ} {c : Prop} [Decidable c] {x y : R α} : rK p (if c then x else y) f g = if c then rK p x f g else rK p y f g := by split <;> rfl
end
@[simp] theorem e1_ne {e : Nat} : ((e : Int) + 1 = 0) = False := by simp only [eq_iff_iff, iff_false]; omega
theorem if_sw {α : Type} {a b : Prop} [Decidable a] [Decidable b] {x y : α} (h : b ↔ ¬ a) : (if a then x else y) = if b then y else x := by
  by_cases ha : a
  · rw [if_pos ha, if_neg (fun hb => h.1 hb ha)]
  · rw [if_neg ha, if_pos (h.2 ha)]
theorem if_cg {α : Type} {a b : Prop} [Decidable a] [Decidable b] {x y : α} (h : a ↔ b) : (if a then x else y) = if b then x else y := by
  by_cases ha : a
  · rw [if_pos ha, if_pos (h.1 ha)]
  · rw [if_neg ha, if_neg (fun hb => ha (h.2 hb))]
/-! ### Memory -/
def cellsOf : Obj → Option (List AV)
  | .cells cs => some cs
  | _ => none
def arrOf : Obj → Option (List (List D))
  | .arr _ xs => some xs
  | _ => none
@[simp ↓] theorem cellsOf_c {cs : List AV} : cellsOf (.cells cs) = some cs := (rfl)
@[simp ↓] theorem arrOf_a {m : Nat} {xs : List (List D)} : arrOf (.arr m xs) = some xs := (rfl)
@[simp] theorem lod_ptr {h : Heap} {id off : Nat} : lodV h none (.ptr id off) = bA (get h id) fun o => bA (cellsOf o) fun cs => bA cs[off]? fun v => some (share v) := by
  simp only [lodV, loadAt]
  cases get h id with
  | none => rfl
  | some o =>
    cases o <;> try rfl
    rename_i cs
    simp only [bA, cellsOf]
    cases cs[off]? <;> rfl
@[simp] theorem lod_ptrs {h : Heap} {id off n : Nat} : lodV h (some n) (.ptr id off) = bA (get h id) fun o => bA (cellsOf o) fun cs => okB (Nat.ble (off + n) cs.length) (some (.agg (shareAll (sub cs off n)))) := by
  simp only [lodV, loadAt]
  cases get h id with
  | none => rfl
  | some o =>
    cases o <;> try rfl
    rename_i cs
    simp only [bA, cellsOf]
    cases Nat.ble (off + n) cs.length <;> rfl
@[simp] theorem loadAt_ptr {h : Heap} {id off t : Nat} : loadAt h none (t + 1) (.ptr id off) = bA (get h id) fun o => bA (cellsOf o) fun cs => bA cs[off]? fun v => some ((takes (t + 1) v).1, put h id (.cells (cs.set off (takes (t + 1) v).2))) := by
  simp only [loadAt]
  cases get h id with
  | none => rfl
  | some o =>
    cases o <;> try rfl
    rename_i cs
    simp only [bA, cellsOf]
    cases cs[off]? <;> rfl
@[simp] theorem loadAt_ptrs {h : Heap} {id off n t : Nat} : loadAt h (some n) (t + 1) (.ptr id off) = bA (get h id) fun o => bA (cellsOf o) fun cs => okB (Nat.ble (off + n) cs.length) (some (.agg (takesAll (t + 1) (sub cs off n)).1, put h id (.cells (setCells cs off (takesAll (t + 1) (sub cs off n)).2)))) := by
  simp only [loadAt]
  cases get h id with
  | none => rfl
  | some o =>
    cases o <;> try rfl
@[simp] theorem storeAt_ptr {h : Heap} {id off n : Nat} {x : AV} : storeAt h n (.ptr id off) x = okB (Nat.beq x.cells.length n) (bA (get h id) fun o => bA (cellsOf o) fun cs => okB (Nat.ble (off + n) cs.length && x.cells.all isCell) (some (put h id (.cells (setCells cs off x.cells))))) := by
  simp only [storeAt]
  cases Nat.beq x.cells.length n with
  | false => rfl
  | true =>
    simp only [okB]
    cases get h id with
    | none => rfl
    | some o =>
      cases o <;> try rfl
@[simp ↓] theorem okB_ble {β : Type} {a b : Nat} {x : Option β} : okB (Nat.ble a b) x = if a ≤ b then x else none := by
  rw [bleN]; by_cases h : a ≤ b <;> simp [h]
@[simp ↓] theorem okB_beq {β : Type} {a b : Nat} {x : Option β} : okB (Nat.beq a b) x = if a = b then x else none := by
  rw [beqN]; by_cases h : a = b <;> simp [h]
@[simp ↓] theorem okB_and {β : Type} {a b : Bool} {x : Option β} : okB (a && b) x = okB a (okB b x) := by
  cases a <;> cases b <;> rfl
attribute [simp] takes takesAll sub setCells isCell
/-! ### Scopes -/
/-- What a scope does with what its code ends in. -/
noncomputable def scK (P : Nat → Option VFunc) (a : VC) (x : Option (Out × St)) : Option (Out × St) :=
  match x with
  | some (.goto l, st) => match findL a l with
    | some rest => (Dn P).code (.inScope a rest) st
    | none => some (.goto l, st)
  | x => x
@[simp ↓] theorem code_scope {a : VC} {st : St} : (Dn P).code (.scope a) st = (Dn P).code (.inScope a a) st := by rw [Dn_code]; rfl
theorem code_in {a c : VC} {st : St} : (Dn P).code (.inScope a c) st = scK P a ((Dn P).code c st) := by
  rw [Dn_code]; rfl
@[simp ↓] theorem scK_n {a : VC} {st : St} : scK P a (some (.normal, st)) = some (.normal, st) := (rfl)
@[simp ↓] theorem scK_r {a : VC} {st : St} : scK P a (some (.ret, st)) = some (.ret, st) := (rfl)
@[simp ↓] theorem scK_x {a : VC} {st : St} {i : Nat} : scK P a (some (.exit i, st)) = some (.exit i, st) := (rfl)
@[simp ↓] theorem scK_i {c : Prop} [Decidable c] {x y : Option (Out × St)} {a : VC} : scK P a (if c then x else y) = if c then scK P a x else scK P a y := by split <;> rfl
theorem cg_scK {a : VC} {x y : Option (Out × St)} (h : x = y) : scK P a x = scK P a y := by rw [h]
attribute [congr] cg_scK
/-- A run of the kernel's. -/
theorem ans_run {f : FuncId} {args : List AV} {v : AV} (n : Nat) (h : topK ((run P n).call f args ⟨[], 0⟩) = some v) : ans P f args = some v := by
  cases hx : (run P n).call f args ⟨[], 0⟩ with
  | none => rw [hx] at h; simp [topK] at h
  | some q => rw [hx] at h; rw [ans, call_lim hx, h]
theorem ans_runs {α : Type} {f : FuncId} {a : α → List AV} {v : α → AV} (n : Nat) (l : List α) (h : (l.map fun x => topK ((run P n).call f (a x) ⟨[], 0⟩)) = l.map fun x => some (v x)) (x : α) (hx : x ∈ l) : ans P f (a x) = some (v x) :=
  ans_run n (List.map_inj_left.1 h x hx)
/-- Numbers that are not below 0. -/
def nats (l : List Nat) : List (List D) := l.map fun n => [.int .i64 (n : Nat)]
@[simp] theorem nats_len {l : List Nat} : (nats l).length = l.length := by simp [nats]
@[simp] theorem nats_get {l : List Nat} {i : Nat} (h : i < l.length) : (nats l)[i]? = some [.int .i64 (nth l i : Nat)] := by simp [nats, nth_opt h]
@[simp high] theorem fresh1_nats {p : Bool} {m : Nat} {l : List Nat} : fresh1 (.own p m (nats l)) = true := by simp [fresh1, nats, flatD]
@[simp high] theorem fresh2_nats {p : Bool} {m : Nat} {l : List Nat} : fresh2 (.own p m (nats l)) = true := fresh1_nats (p := p) (m := m)
@[simp high] theorem fresh3_nats {p : Bool} {m : Nat} {l : List Nat} : fresh3 (.own p m (nats l)) = true := fresh1_nats (p := p) (m := m)
@[simp high] theorem fresh1_ints {p : Bool} {m : Nat} {l : List Int} : fresh1 (.own p m (ints l)) = true := by simp [fresh1, ints, flatD]
@[simp high] theorem fresh2_ints {p : Bool} {m : Nat} {l : List Int} : fresh2 (.own p m (ints l)) = true := fresh1_ints (p := p) (m := m)
@[simp high] theorem fresh3_ints {p : Bool} {m : Nat} {l : List Int} : fresh3 (.own p m (ints l)) = true := fresh1_ints (p := p) (m := m)
@[simp high] theorem fresh1_byts {p : Bool} {m : Nat} {l : List Nat} : fresh1 (.own p m (byts l)) = true := by simp [fresh1, byts, flatD]
@[simp high] theorem fresh2_byts {p : Bool} {m : Nat} {l : List Nat} : fresh2 (.own p m (byts l)) = true := fresh1_byts (p := p) (m := m)
@[simp high] theorem fresh3_byts {p : Bool} {m : Nat} {l : List Nat} : fresh3 (.own p m (byts l)) = true := fresh1_byts (p := p) (m := m)
@[simp high] theorem fresh1_bools {p : Bool} {m : Nat} {l : List Bool} : fresh1 (.own p m (bools l)) = true := by simp [fresh1, bools, flatD]
@[simp high] theorem fresh2_bools {p : Bool} {m : Nat} {l : List Bool} : fresh2 (.own p m (bools l)) = true := fresh1_bools (p := p) (m := m)
@[simp high] theorem fresh3_bools {p : Bool} {m : Nat} {l : List Bool} : fresh3 (.own p m (bools l)) = true := fresh1_bools (p := p) (m := m)
@[simp] theorem ints_app {a b : List Int} : ints a ++ ints b = ints (a ++ b) := by simp [ints]
@[simp] theorem ints_snoc {a : List Int} {x : Int} : ints a ++ [[.int .i64 x]] = ints (a ++ [x]) := by simp [ints]
@[simp] theorem byts_app {a b : List Nat} : byts a ++ byts b = byts (a ++ b) := by simp [byts]
@[simp] theorem byts_snoc {a : List Nat} {x : Nat} : byts a ++ [[.int .u8 (x : Int)]] = byts (a ++ [x]) := by simp [byts]
@[simp] theorem mm_max {k : IntKind} {a b : Int} : minmaxV true [.d (.int k a), .d (.int k b)] = if a < b then some (.d (.int k b)) else some (.d (.int k a)) := by
  have : kindEq k k = true := by cases k <;> rfl
  simp only [minmaxV, foldMM, minmaxOf, this]
  by_cases h : a < b <;> simp [h]
@[simp] theorem mm_min {k : IntKind} {a b : Int} : minmaxV false [.d (.int k a), .d (.int k b)] = if b < a then some (.d (.int k b)) else some (.d (.int k a)) := by
  have : kindEq k k = true := by cases k <;> rfl
  simp only [minmaxV, foldMM, minmaxOf, this]
  by_cases h : b < a <;> simp [h]
/-! ### Elements of stored-into slices -/
def iaO (o : Obj) (n id j : Nat) : Option AV :=
  match o with
  | .arr m _ => okB (Nat.beq m n) (some (.pel id j 0))
  | .cells _ => okB (Nat.beq n 1) (some (.ptr id j))
  | _ => none
@[simp ↓] theorem iaO_a {m n id j : Nat} {xs : List (List D)} : iaO (.arr m xs) n id j = okB (Nat.beq m n) (some (.pel id j 0)) := (rfl)
@[simp ↓] theorem iaO_c {n id j : Nat} {cs : List AV} : iaO (.cells cs) n id j = okB (Nat.beq n 1) (some (.ptr id j)) := (rfl)
@[simp] theorem ia_sl {h : Heap} {n id off len : Nat} {k : IntKind} {i : Int} (h0 : 0 ≤ i) (h1 : i.toNat < len) : iaV h n (.sl id off len) (.d (.int k i)) = bA (get h id) fun o => iaO o n id (off + i.toNat) := by
  have : Nat.ble len i.toNat = false := by rw [bleN]; simp; omega
  simp only [iaV, natOf_i h0, this]
  cases get h id with
  | none => rfl
  | some o =>
    cases o with
    | cells cs => simp only [bA, iaO]; cases Nat.beq n 1 <;> rfl
    | arr m xs => simp only [bA, iaO]; cases Nat.beq m n <;> rfl
    | loop => rfl
@[simp] theorem lod_pel {h : Heap} {id i off : Nat} {n : Option Nat} : lodV h n (.pel id i off) = bA (get h id) fun o => bA (arrOf o) fun xs => bA xs[i]? fun x => ofElem n x off := by
  simp only [lodV, loadAt]
  cases get h id with
  | none => rfl
  | some o =>
    cases o <;> try rfl
    rename_i m xs
    simp only [bA, arrOf]
    cases xs[i]? with
    | none => rfl
    | some x => simp only; cases ofElem n x off <;> rfl
def stO (o : Obj) (h : Heap) (n id i off : Nat) (ds : List D) : Option Heap :=
  match o with
  | .arr m xs => bA xs[i]? fun e => okB (Nat.ble (off + n) e.length) (some (put h id (.arr m (xs.set i (setCells e off ds)))))
  | _ => none
@[simp ↓] theorem stO_a {h : Heap} {m n id i off : Nat} {ds : List D} {xs : List (List D)} : stO (.arr m xs) h n id i off ds = bA xs[i]? fun e => okB (Nat.ble (off + n) e.length) (some (put h id (.arr m (xs.set i (setCells e off ds))))) := (rfl)
@[simp] theorem storeAt_pel {h : Heap} {id i off n : Nat} {x : AV} : storeAt h n (.pel id i off) x = okB (Nat.beq x.cells.length n) (bA (toDs x.cells) fun ds => bA (get h id) fun o => stO o h n id i off ds) := by
  simp only [storeAt]
  cases Nat.beq x.cells.length n with
  | false => rfl
  | true =>
    simp only [okB]
    cases toDs x.cells with
    | none => rfl
    | some ds =>
      simp only [bA]
      cases get h id with
      | none => rfl
      | some o =>
        cases o <;> try rfl
        rename_i m xs
        simp only [stO]
        cases xs[i]? with
        | none => rfl
        | some e => simp only [bA]; cases Nat.ble (off + n) e.length <;> rfl
@[simp] theorem ints_take {l : List Int} {i : Nat} : (ints l).take i = ints (l.take i) := by simp [ints]
@[simp] theorem ints_drop {l : List Int} {i : Nat} : (ints l).drop i = ints (l.drop i) := by simp [ints]
@[simp] theorem nats_take {l : List Nat} {i : Nat} : (nats l).take i = nats (l.take i) := by simp [nats]
@[simp] theorem nats_drop {l : List Nat} {i : Nat} : (nats l).drop i = nats (l.drop i) := by simp [nats]
@[simp] theorem byts_take {l : List Nat} {i : Nat} : (byts l).take i = byts (l.take i) := by simp [byts]
@[simp] theorem byts_drop {l : List Nat} {i : Nat} : (byts l).drop i = byts (l.drop i) := by simp [byts]
@[simp] theorem ints_set {l : List Int} {i : Nat} {x : Int} : (ints l).set i [.int .i64 x] = ints (l.set i x) := by simp [ints, List.map_set]
@[simp] theorem nats_set {l : List Nat} {i : Nat} {x : Nat} : (nats l).set i [.int .i64 (x : Int)] = nats (l.set i x) := by simp [nats, List.map_set]
@[simp] theorem byts_set {l : List Nat} {i : Nat} {x : Nat} : (byts l).set i [.int .u8 (x : Int)] = byts (l.set i x) := by simp [byts, List.map_set]
def elO (o : Obj) : Option (List (List D)) :=
  match o with
  | .arr _ xs => some xs
  | .cells cs => bA (toDs cs) fun ds => some (ones ds)
  | _ => none
@[simp ↓] theorem elO_a {m : Nat} {xs : List (List D)} : elO (.arr m xs) = some xs := (rfl)
@[simp ↓] theorem elO_c {cs : List AV} : elO (.cells cs) = bA (toDs cs) fun ds => some (ones ds) := (rfl)
@[simp] theorem elems_sl {h : Heap} {id off len : Nat} : elems h (.sl id off len) = bA (get h id) fun o => bA (elO o) fun xs => okB (Nat.ble (off + len) xs.length) (some (sub xs off len)) := by
  simp only [elems, objElems]
  cases get h id with
  | none => rfl
  | some o =>
    cases o with
    | cells cs =>
      simp only [bA, elO]
      cases toDs cs with
      | none => rfl
      | some ds => simp only; cases Nat.ble (off + len) (ones ds).length <;> rfl
    | arr m xs => simp only [bA, elO]; cases Nat.ble (off + len) xs.length <;> rfl
    | loop => rfl
attribute [simp] ones
/-! ### Appending -/
@[simp] theorem apd_eq {m : Nat} {h : Heap} {a b : AV} : apdV m h a b = bA (elems h b) fun ys => okB (okElems m ys) (appendTo m h a ys) := by
  simp only [apdV]
  cases elems h b with
  | none => rfl
  | some ys => simp only [bA]; cases okElems m ys <;> rfl
@[simp] theorem app_own {m k : Nat} {p : Bool} {h : Heap} {xs ys : List (List D)} : appendTo m h (.own p k xs) ys = okB (Nat.ble ys.length most) (okB (Nat.beq k m && Nat.ble (xs.length + ys.length) most) (some (.own false m (xs ++ ys), h))) := by
  simp only [appendTo]
  cases Nat.ble ys.length most with
  | false => rfl
  | true => simp only [okB]; cases Nat.beq k m && Nat.ble (xs.length + ys.length) most <;> rfl
@[simp] theorem app_nl0 {m : Nat} {h : Heap} : appendTo m h .nl [] = some (.nl, h) := (rfl)
@[simp] theorem app_nl1 {m : Nat} {h : Heap} {y : List D} {r : List (List D)} : appendTo m h .nl (y :: r) = okB (Nat.ble (r.length + 1) most) (some (.own true m (y :: r), h)) := by
  simp only [appendTo, List.length_cons]
  cases Nat.ble (r.length + 1) most <;> rfl
def appO (o : Obj) (m : Nat) (h : Heap) (id off len : Nat) (ys : List (List D)) : Option (AV × Heap) :=
  match o with
  | .arr k xs => okB (Nat.beq k m && Nat.ble (off + len) xs.length && Nat.ble (len + ys.length) most) (some (.own true m (sub xs off len ++ ys), del h id))
  | _ => none
@[simp ↓] theorem appO_a {k m id off len : Nat} {h : Heap} {xs ys : List (List D)} : appO (.arr k xs) m h id off len ys = okB (Nat.beq k m && Nat.ble (off + len) xs.length && Nat.ble (len + ys.length) most) (some (.own true m (sub xs off len ++ ys), del h id)) := (rfl)
@[simp] theorem app_sl {m id off len : Nat} {h : Heap} {ys : List (List D)} : appendTo m h (.sl id off len) ys = okB (Nat.ble ys.length most) (bA (get h id) fun o => appO o m h id off len ys) := by
  simp only [appendTo]
  cases Nat.ble ys.length most with
  | false => rfl
  | true =>
    simp only [okB]
    cases get h id with
    | none => rfl
    | some o =>
      cases o with
      | arr k xs => simp only [bA, appO]; cases Nat.beq k m && Nat.ble (off + len) xs.length && Nat.ble (len + ys.length) most <;> rfl
      | cells cs => rfl
      | loop => rfl
attribute [simp] most
theorem okE_map {α : Type} {f : α → D} : ∀ {l : List α}, okElems 1 (l.map fun x => [f x]) = true
  | [] => rfl
  | x :: r => by simp only [List.map_cons, okElems, List.length_cons, List.length_nil]; exact okE_map
@[simp] theorem okE_ints {l : List Int} : okElems 1 (ints l) = true := okE_map
@[simp] theorem okE_nats {l : List Nat} : okElems 1 (nats l) = true := okE_map
@[simp] theorem okE_byts {l : List Nat} : okElems 1 (byts l) = true := okE_map
@[simp] theorem okE_bools {l : List Bool} : okElems 1 (bools l) = true := okE_map
@[simp] theorem okE_0 {m : Nat} : okElems m [] = true := (rfl)
@[simp] theorem okE_1 {m : Nat} {x : List D} {r : List (List D)} : okElems m (x :: r) = (Nat.beq x.length m && okElems m r) := by
  simp only [okElems]; cases Nat.beq x.length m <;> rfl
/-! ### Near reads -/
mutual
theorem eqD_self : ∀ d : D, eqD d d = true
  | .int k n => by simp [eqD, kindEq_self]
  | .bool b => by simp [eqD]
  | .str s => by simp [eqD]
  | .lst xs => by rw [eqD]; exact eqDss_self xs
theorem eqDs_self : ∀ l : List D, eqDs l l = true
  | [] => rfl
  | a :: r => by rw [eqDs, eqD_self a, eqDs_self r]; rfl
theorem eqDss_self : ∀ l : List (List D), eqDss l l = true
  | [] => rfl
  | a :: r => by rw [eqDss, eqDs_self a, eqDss_self r]; rfl
end
mutual
theorem eqAV_self : ∀ v : AV, eqAV v v = true
  | .junk => by simp [eqAV]
  | .d x => by simp [eqAV, eqD_self]
  | .nl => by simp [eqAV]
  | .own p m xs => by simp [eqAV, eqDss_self]
  | .gl n => by simp [eqAV]
  | .agg a => by rw [eqAV]; exact eqAVs_self a
  | .tup a => by rw [eqAV]; exact eqAVs_self a
  | .nilp => by simp [eqAV]
  | .ptr a b => by simp [eqAV]
  | .pel a b c => by simp [eqAV]
  | .pim a b => by simp [eqAV, eqDs_self]
  | .sl a b c => by simp [eqAV]
  | .fn f a c => by rw [eqAV, eqAVs_self a, eqAVs_self c]; simp
  | .nilf => by simp [eqAV]
  | .yield a => by simp [eqAV]
theorem eqAVs_self : ∀ l : List AV, eqAVs l l = true
  | [] => by rw [eqAVs]
  | a :: r => by rw [eqAVs, eqAV_self a, eqAVs_self r]; rfl
end
@[simp] theorem eqO_c {a : List AV} : eqO (.cells a) (.cells a) = true := by rw [eqO]; exact eqAVs_self a
@[simp] theorem eqO_a {m : Nat} {xs : List (List D)} : eqO (.arr m xs) (.arr m xs) = true := by simp [eqO, eqDss_self]
@[simp] theorem sameH_0 {h k : Heap} : sameH [] h k = true := (rfl)
@[simp] theorem sameH_1 {i : Nat} {r : List Nat} {h k : Heap} : sameH (i :: r) h k = ((match get h i with
    | some o => (match get k i with | some o' => eqO o o' | none => false)
    | none => true) && sameH r h k) := (rfl)
@[simp] theorem onlyH_0 {h : Heap} : onlyH [] h = [] := (rfl)
@[simp] theorem onlyH_1 {i : Nat} {r : List Nat} {h : Heap} : onlyH (i :: r) h = match get h i with
    | some o => put (onlyH r h) i o
    | none => onlyH r h := (rfl)
attribute [simp] own1 idsOf idsAll
attribute [simp] thawParts thawPart thawCell thawOne
/-- Two bits. -/
def orB (a b : Int) : Int := if a = 0 then b else 1
theorem bD_or2 {a b : Int} (h : 0 ≤ a) (h1 : a ≤ 1) (h2 : 0 ≤ b) (h3 : b ≤ 1) : binD .or (.d (.int .i64 a)) (.d (.int .i64 b)) = some (.int .i64 (orB a b)) := by
  have ha : a = 0 ∨ a = 1 := by omega
  have hb : b = 0 ∨ b = 1 := by omega
  rcases ha with rfl | rfl <;> rcases hb with rfl | rfl <;> rfl
@[simp] theorem orB_0 {b : Int} : orB 0 b = b := (rfl)
@[simp] theorem orB_00 {a : Int} (h : 0 ≤ a) (h1 : a ≤ 1) : orB a 0 = a := by
  have ha : a = 0 ∨ a = 1 := by omega
  rcases ha with rfl | rfl <;> rfl
theorem orB_eq {a b : Int} : (orB a b = 0) ↔ a = 0 ∧ b = 0 := by
  unfold orB; by_cases h : a = 0 <;> simp [h]
end Go.Vm

/- Ranging over functions, by rewriting. -/
namespace Go.Vm
variable {P : Nat → Option VFunc}
/-- The loop's end: what the function to range over has left. -/
def rgE (l : Nat) (e : Env) (x : Option (AV × HS)) : Option (Out × St) :=
  match x with
  | some (_, hs) => match get hs.heap l with
    | some (.loop _ _ _ _ false pend) => match pend with
      | none => some (.normal, ⟨e, ⟨del hs.heap l, hs.next⟩⟩)
      | some o => some (o, ⟨e, ⟨del hs.heap l, hs.next⟩⟩)
    | _ => none
  | none => none
noncomputable def rgF (P : Nat → Option VFunc) (params : List Nat) (a b : VC) (hs : HS) (x : Option (AV × Env)) : Option (Out × St) :=
  match x with
  | some (.fn g first caps, e) => rgE hs.next e ((Dn P).call g (first ++ ([.yield hs.next] ++ caps)) ⟨put hs.heap hs.next (.loop (e.map fun kv => (kv.1, share kv.2)) params a b false none), hs.next + 1⟩)
  | _ => none
theorem code_rgF {f : Rd} {params : List Nat} {a b : VC} {e : Env} {hs : HS} : (Dn P).code (.rangeF f params a b) ⟨e, hs⟩ = rgF P params a b hs (rd e f) := by
  rw [Dn_code]
  simp only [codeF, vcRangeF, rgF]
  cases rd e f with
  | none => rfl
  | some p =>
    obtain ⟨v, e1⟩ := p
    cases v <;> rfl
theorem rgF_fn {params : List Nat} {a b : VC} {h : Heap} {n g : Nat} {first caps : List AV} {e : Env} : rgF P params a b ⟨h, n⟩ (some (.fn g first caps, e)) = rgE n e ((Dn P).call g (first ++ ([.yield n] ++ caps)) ⟨put h n (.loop (e.map fun kv => (kv.1, share kv.2)) params a b false none), n + 1⟩) := rfl
def pdO (o : Obj) : Option (Option Out) :=
  match o with
  | .loop _ _ _ _ false pend => some pend
  | _ => none
theorem pdO_l {s : Env} {p : List Nat} {a b : VC} {q : Option Out} : pdO (.loop s p a b false q) = some q := rfl
def pdE (e : Env) (hs : HS) (l : Nat) (q : Option Out) : Option (Out × St) := some (q.getD .normal, ⟨e, ⟨del hs.heap l, hs.next⟩⟩)
theorem pdE_n {e : Env} {h : Heap} {n l : Nat} : pdE e ⟨h, n⟩ l none = some (.normal, ⟨e, ⟨del h l, n⟩⟩) := rfl
theorem pdE_s {e : Env} {h : Heap} {n l : Nat} {o : Out} : pdE e ⟨h, n⟩ l (some o) = some (o, ⟨e, ⟨del h l, n⟩⟩) := rfl
theorem rgE_s {l n : Nat} {e : Env} {v : AV} {h : Heap} : rgE l e (some (v, ⟨h, n⟩)) = bA (get h l) fun o => bA (pdO o) fun q => pdE e ⟨h, n⟩ l q := by
  simp only [rgE]
  cases get h l with
  | none => rfl
  | some o =>
    cases o with
    | loop s p a b busy pend => cases busy <;> cases pend <;> rfl
    | cells => rfl
    | arr => rfl
theorem rgE_0 {l : Nat} {e : Env} : rgE l e none = none := rfl
theorem rgE_i {c : Prop} [Decidable c] {l : Nat} {e : Env} {x y : Option (AV × HS)} : rgE l e (if c then x else y) = if c then rgE l e x else rgE l e y := by split <;> rfl
theorem rgE_R {α : Type} {p : α → Nat → Prop} {r : R α} {l : Nat} {e : Env} {f : α → Nat → Option (AV × HS)} {g : Nat → Option (AV × HS)} : rgE l e (rK p r f g) = rK p r (fun v n => rgE l e (f v n)) fun x => rgE l e (g x) := rK_map (rgE l e)
theorem cg_rgE {l : Nat} {e : Env} {x y : Option (AV × HS)} (h : x = y) : rgE l e x = rgE l e y := by rw [h]
/-! ### A round -/
/-- Behind the body: the loop's object. -/
def yB (l : Nat) (x : Option (Out × St)) : Option (AV × HS) :=
  match x with
  | none => none
  | some (o, st) => match get st.hs.heap l with
    | some (.loop snap params assign body true none) =>
      match o with
      | .normal => some (.bool true, ⟨put st.hs.heap l (.loop snap params assign body false none), st.hs.next⟩)
      | o => some (.bool false, ⟨put st.hs.heap l (.loop snap params assign body false (some o)), st.hs.next⟩)
    | _ => none
noncomputable def yA (P : Nat → Option VFunc) (l : Nat) (body : VC) (x : Option (Out × St)) : Option (AV × HS) :=
  match x with
  | some (.normal, st) => match get st.hs.heap l with
    | some (.loop snap params assign body2 false none) => yB l ((Dn P).code body ⟨st.env, ⟨put st.hs.heap l (.loop snap params assign body2 true none), st.hs.next⟩⟩)
    | _ => none
  | _ => none
noncomputable def yO (P : Nat → Option VFunc) (l : Nat) (args : List AV) (hs : HS) (o : Obj) : Option (AV × HS) :=
  match o with
  | .loop snap params assign body false none => bA (putAll snap params args) fun e => yA P l body ((Dn P).code assign ⟨e, hs⟩)
  | _ => none
theorem call_yield {l : Nat} {args : List AV} {hs : HS} : callVal (Dn P) (.yield l) args hs = bA (get hs.heap l) fun o => yO P l args hs o := by
  simp only [callVal, yieldOf]
  cases get hs.heap l with
  | none => rfl
  | some o =>
    cases o with
    | cells => rfl
    | arr => rfl
    | loop snap params assign body busy pend =>
      cases busy
      · cases pend with
        | some q => rfl
        | none =>
          simp only [bA, yO]
          cases putAll snap params args with
          | none => rfl
          | some e =>
            simp only
            cases (Dn P).code assign ⟨e, hs⟩ with
            | none => rfl
            | some p =>
              obtain ⟨o, st⟩ := p
              cases o <;> rfl
      · rfl
theorem yO_l {l : Nat} {args : List AV} {hs : HS} {s : Env} {p : List Nat} {a b : VC} : yO P l args hs (.loop s p a b false none) = bA (putAll s p args) fun e => yA P l b ((Dn P).code a ⟨e, hs⟩) := rfl
def busyO (o : Obj) : Option Obj :=
  match o with
  | .loop s p a b false none => some (.loop s p a b true none)
  | _ => none
theorem busyO_l {s : Env} {p : List Nat} {a b : VC} : busyO (.loop s p a b false none) = some (.loop s p a b true none) := rfl
theorem yA_n {l : Nat} {b : VC} {e : Env} {h : Heap} {n : Nat} : yA P l b (some (.normal, ⟨e, ⟨h, n⟩⟩)) = bA (get h l) fun o => bA (busyO o) fun o => yB l ((Dn P).code b ⟨e, ⟨put h l o, n⟩⟩) := by
  simp only [yA]
  cases get h l with
  | none => rfl
  | some o =>
    cases o with
    | cells => rfl
    | arr => rfl
    | loop s p a b busy pend => cases busy <;> cases pend <;> rfl
def doneO (q : Option Out) (o : Obj) : Option Obj :=
  match o with
  | .loop s p a b true none => some (.loop s p a b false q)
  | _ => none
theorem doneO_l {q : Option Out} {s : Env} {p : List Nat} {a b : VC} : doneO q (.loop s p a b true none) = some (.loop s p a b false q) := rfl
theorem yB_n {l : Nat} {e : Env} {h : Heap} {n : Nat} : yB l (some (.normal, ⟨e, ⟨h, n⟩⟩)) = bA (get h l) fun o => bA (doneO none o) fun o => some (.bool true, ⟨put h l o, n⟩) := by
  simp only [yB]
  cases get h l with
  | none => rfl
  | some o =>
    cases o with
    | cells => rfl
    | arr => rfl
    | loop s p a b busy pend => cases busy <;> cases pend <;> rfl
theorem yB_r {l : Nat} {e : Env} {h : Heap} {n : Nat} : yB l (some (.ret, ⟨e, ⟨h, n⟩⟩)) = bA (get h l) fun o => bA (doneO (some .ret) o) fun o => some (.bool false, ⟨put h l o, n⟩) := by
  simp only [yB]
  cases get h l with
  | none => rfl
  | some o =>
    cases o with
    | cells => rfl
    | arr => rfl
    | loop s p a b busy pend => cases busy <;> cases pend <;> rfl
theorem yB_x {l i : Nat} {e : Env} {h : Heap} {n : Nat} : yB l (some (.exit i, ⟨e, ⟨h, n⟩⟩)) = bA (get h l) fun o => bA (doneO (some (.exit i)) o) fun o => some (.bool false, ⟨put h l o, n⟩) := by
  simp only [yB]
  cases get h l with
  | none => rfl
  | some o =>
    cases o with
    | cells => rfl
    | arr => rfl
    | loop s p a b busy pend => cases busy <;> cases pend <;> rfl
theorem yB_0 {l : Nat} : yB l none = none := rfl
theorem yB_i {c : Prop} [Decidable c] {l : Nat} {x y : Option (Out × St)} : yB l (if c then x else y) = if c then yB l x else yB l y := by split <;> rfl
theorem yB_R {α : Type} {p : α → Nat → Prop} {r : R α} {l : Nat} {f : α → Nat → Option (Out × St)} {g : Nat → Option (Out × St)} : yB l (rK p r f g) = rK p r (fun v n => yB l (f v n)) fun x => yB l (g x) := rK_map (yB l)
theorem cg_yB {l : Nat} {x y : Option (Out × St)} (h : x = y) : yB l x = yB l y := by rw [h]
theorem cg_yA {l : Nat} {b : VC} {x y : Option (Out × St)} (h : x = y) : yA P l b x = yA P l b y := by rw [h]
attribute [simp ↓] code_rgF rgF_fn pdO_l pdE_n pdE_s rgE_s rgE_0 rgE_i rgE_R yO_l busyO_l yA_n doneO_l yB_n yB_r yB_x yB_0 yB_i yB_R call_yield
attribute [congr] cg_rgE cg_yB cg_yA
attribute [simp] putAll
end Go.Vm

end
