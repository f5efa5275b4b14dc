import Derived.Test.YtggjdcjbkelpmaaVmD
import GoSem.ClaimChange
import Derived.WalkKit
import Derived.ProofKit
import Derived.OpenShut
import Derived.JoinedCond
import Derived.ChangeStays
import Derived.ChangeBook
import Derived.Test.YtggjdcjbkelpmaaVmA
set_option linter.unusedVariables false
set_option linter.unusedSimpArgs false
/-
  REGIONS (11): loops and scopes, unrolled.
-/
namespace Go.Vm

/-- The walk from a loop's mark on. -/
def LoopW (ro : Option Nat) (P : Program) (c : Code) (Q : Exit → Act → World → Prop) (a : Act) (w : World) : Prop :=
  ∀ (b : Frame) (k : List Item) (cs : List Frame), b.roundOf = ro → ∃ e a' w', Q e a' w' ∧ ArrivesIn (Machine.fenced P (FR ro)) P (lone (b.atR a (.inLoop c :: k)) cs w) b k cs e a' w'
/-- The walk of the rest of a scope. -/
def ScopeW (ro : Option Nat) (P : Program) (body cur : Code) (Q : Exit → Act → World → Prop) (a : Act) (w : World) : Prop :=
  ∀ (b : Frame) (k : List Item) (cs : List Frame), b.roundOf = ro → ∃ e a' w', Q e a' w' ∧ ArrivesIn (Machine.fenced P (FR ro)) P (lone (b.atR a (.code cur :: .inScope body :: k)) cs w) b k cs e a' w'

section
variable {P : Program} {ro : Option Nat} {Q : Exit → Act → World → Prop} {a : Act} {w : World}

theorem fenced_FR {ro : Option Nat} (m : Machine) : Machine.fenced P (FR ro) m := fenced_wide P m

theorem loopW_step {c : Code} (h : c.wpIn (FR ro) 0 P (Exit.then (LoopW ro P c Q) Q) a w) : LoopW ro P c Q a w ∧ (Code.loop c).wpIn (FR ro) 0 P Q a w := by
  have key : ∀ (b : Frame) (k : List Item) (cs : List Frame), b.roundOf = ro → ∃ e a' w', Q e a' w' ∧ ArrivesIn (Machine.fenced P (FR ro)) P (lone (b.atR a (.code c :: .inLoop c :: k)) cs w) b k cs e a' w' := by
    intro b k cs hro
    obtain ⟨e, a₁, w₁, hq, harr⟩ := h b (.inLoop c :: k) cs hro trivial (room_FR _ _)
    cases e with
    | normal =>
      obtain ⟨e₂, a₂, w₂, hq₂, harr₂⟩ := hq b k cs hro
      exact ⟨e₂, a₂, w₂, hq₂, .of_steps harr harr₂⟩
    | exit id => exact ⟨_, a₁, w₁, hq, .pass (x := .inLoop c) rfl (fun _ _ => .inl (by simp)) harr⟩
    | goto l => exact ⟨_, a₁, w₁, hq, .pass (x := .inLoop c) rfl (fun _ _ => .inl (by simp)) harr⟩
    | ret => exact ⟨_, a₁, w₁, hq, .pass (x := .inLoop c) rfl (fun _ _ => .inl (by simp)) harr⟩
    | panic ch => exact ⟨_, a₁, w₁, hq, .pass (x := .inLoop c) rfl (fun _ _ => .inl (by simp)) harr⟩
    | outgrown => exact ⟨_, a₁, w₁, hq, .pass (x := .inLoop c) rfl (fun _ _ => .inl (by simp)) harr⟩
  refine ⟨fun b k cs hro => ?_, fun b k cs hro _ _ => ?_⟩
  · obtain ⟨e, a', w', hq, harr⟩ := key b k cs hro
    exact ⟨e, a', w', hq, .of_steps (.one (fenced_FR _) stepR_inLoop) harr⟩
  · obtain ⟨e, a', w', hq, harr⟩ := key b k cs hro
    exact ⟨e, a', w', hq, .of_steps (.one (fenced_FR _) stepR_loop) harr⟩

/-- How a scope's part is left. -/
def Exit.scope (ro : Option Nat) (P : Program) (body : Code) (Q : Exit → Act → World → Prop) : Exit → Act → World → Prop
  | .goto l, a, w => match findLabel body l with
    | some rest => ScopeW ro P body rest Q a w
    | none => Q (.goto l) a w
  | e, a, w => Q e a w
theorem scopeW_step {body cur : Code} (h : cur.wpIn (FR ro) 0 P (Exit.scope ro P body Q) a w) : ScopeW ro P body cur Q a w := by
  intro b k cs hro
  obtain ⟨e, a₁, w₁, hq, harr⟩ := h b (.inScope body :: k) cs hro trivial (room_FR _ _)
  cases e with
  | normal => exact ⟨.normal, a₁, w₁, hq, StepsIn.trans harr (.one (fenced_FR _) (step_lone_go (by simp [stepG, stepG.exec, Frame.atR])))⟩
  | exit id =>
    have hx : exitTo id (.inScope body :: k) = exitTo id k := by simp [exitTo]
    exact ⟨_, a₁, w₁, hq, fun k' hk => harr.1 k' (by rw [hx]; exact hk), fun hr hk => harr.2 hr (by rw [hx]; exact hk)⟩
  | goto l =>
    have hx : gotoIn l (.inScope body :: k) = match findLabel body l with | some rest => some (.code rest :: .inScope body :: k) | none => gotoIn l k := by
      simp only [gotoIn]; cases findLabel body l <;> rfl
    simp only [Exit.scope] at hq
    cases hf : findLabel body l with
    | some rest =>
      rw [hf] at hq hx
      obtain ⟨e₂, a₂, w₂, hq₂, harr₂⟩ := hq b k cs hro
      exact ⟨e₂, a₂, w₂, hq₂, .of_steps (harr.1 _ hx) harr₂⟩
    | none =>
      rw [hf] at hq hx
      exact ⟨_, a₁, w₁, hq, fun k' hk => harr.1 k' (by rw [hx]; exact hk), fun hr hk => harr.2 hr (by rw [hx]; exact hk)⟩
  | ret => exact ⟨_, a₁, w₁, hq, harr⟩
  | panic ch => exact ⟨_, a₁, w₁, hq, harr⟩
  | outgrown => exact ⟨_, a₁, w₁, hq, harr⟩
theorem scopeW_wp {body : Code} (h : ScopeW ro P body body Q a w) : (Code.scope body).wpIn (FR ro) 0 P Q a w := by
  intro b k cs hro _ _
  obtain ⟨e, a', w', hq, harr⟩ := h b k cs hro
  exact ⟨e, a', w', hq, .of_steps (.one (fenced_FR _) (step_lone_go (by simp [stepG, stepG.exec, Frame.atR]))) harr⟩
end

/-! ### Labels -/
theorem findL_rel {P : Program} {n : Nat} {v : VC} {c : Code} (h : Mt P n v c) (l : Nat) :
    match findL v l with
    | some x => ∃ y, findLabel c l = some y ∧ Mt P n x y
    | none => findLabel c l = none := by
  have hgh : ∀ {a : VC}, ghosts a = true → findL a l = none := fun {a} h => by cases a <;> simp [ghosts, findL] at h ⊢
  induction h with
  | ghostL h1 h2 ih => simp only [findL, hgh h1]; exact ih
  | @ghostR a b c h1 h2 ih =>
    simp only [findL, hgh h1]
    cases hf : findL a l with
    | none => simp only [hf] at ih ⊢; exact ih
    | some x =>
      simp only [hf] at ih ⊢
      obtain ⟨y, hy, hm⟩ := ih
      exact ⟨y, hy, .ghostR h1 hm⟩
  | @seq a b c d h1 h2 ih1 ih2 =>
    simp only [findL]
    cases hf : findL a l with
    | some x =>
      simp only [hf] at ih1 ⊢
      obtain ⟨y, hy, hm⟩ := ih1
      exact ⟨.seq y d, by simp [findLabel, hy], .seq hm h2⟩
    | none =>
      simp only [hf] at ih1 ⊢
      cases hf2 : findL b l with
      | some x =>
        simp only [hf2] at ih2 ⊢
        obtain ⟨y, hy, hm⟩ := ih2
        exact ⟨y, by simp [findLabel, ih1, hy], hm⟩
      | none =>
        simp only [hf2] at ih2 ⊢
        simp [findLabel, ih1, ih2]
  | @label k =>
    simp only [findL, findLabel]
    by_cases e : k = l
    · subst e; simp [Mt.skip]
    · have : Nat.beq k l = false := by rw [← Bool.not_eq_true, Nat.beq_eq]; exact e
      have e2 : (k == l) = false := by simpa using e
      simp [this, e2]
  | _ => simp [findL, findLabel]
end Go.Vm

/-
  FUNCTIONS (1): the way in and the way out.
-/
namespace Go.Vm
section
variable {P : Program} {g : Gh} {w : World} {t : Array Value} {O : Nat → Nat} {st st' : St} {a : AV} {o : Oper} {r : Rec}

/-! ### The way in -/
theorem mkEnv_ge : ∀ {vs : List AV} {i : Nat}, ∀ p ∈ mkEnv i vs, i ≤ p.1
  | [], _, p, hp => by simp [mkEnv] at hp
  | v :: vs, i, p, hp => by
    simp only [mkEnv, List.mem_cons] at hp
    rcases hp with rfl | hp
    · exact Nat.le_refl _
    · have := mkEnv_ge p hp; omega
theorem mkEnv_srt : ∀ (vs : List AV) (i : Nat), Srt (mkEnv i vs)
  | [], _ => List.Pairwise.nil
  | v :: vs, i => List.pairwise_cons.2 ⟨fun p hp => mkEnv_ge p hp, mkEnv_srt vs (i + 1)⟩
theorem lt_of_get' {t : Array Value} {i : Nat} {x : Value} (h : t[i]? = some x) : i < t.size := by
  rcases Nat.lt_or_ge i t.size with h' | h'
  · exact h'
  · rw [Array.getElem?_eq_none h'] at h; simp at h
theorem mkEnv_rel {t : Array Value} : ∀ {vs : List AV} {xs : List Value} {i : Nat} {Ov : Nat → Nat}, RVs g w vs xs Ov → (∀ (j : Nat) (x : Value), xs[j]? = some x → t[i + j]? = some x) → REnv g w (mkEnv i vs) t Ov
  | [], xs, i, Ov, rv, _ => by simp only [RVs] at rv; exact rv.2
  | v :: vs, xs, i, Ov, rv, ht => by
    simp only [RVs] at rv
    obtain ⟨x, ys, O1, O2, rfl, r1, r2, hs⟩ := rv
    have h0 : t[i]? = some x := ht 0 x rfl
    refine ⟨O1, O2, ⟨lt_of_get' h0, ?_⟩, mkEnv_rel r2 fun j y hj => by have := ht (j + 1) y (by simpa using hj); rw [← this]; congr 1; omega, hs⟩
    rw [Array.getD_eq_getD_getElem?, h0]
    exact r1
theorem enter_S {args : List AV} {hs : HS} {xs : List Value} {Oa Oh : Nat → Nat} (rv : RVs g w args xs Oa) (sh : S P g w ⟨[], hs⟩ #[] Oh) (hle : ∀ b, Oa b + Oh b ≤ 1) (hhi : ∀ b, Oa b ≠ 0 → b < w.heap.size) (n : Nat) :
    S P g w ⟨mkEnv 0 args, hs⟩ (xs.toArray ++ Array.replicate n undef) fun b => Oa b + Oh b := by
  refine S.join (mkEnv_srt _ _) (mkEnv_rel rv fun j x hj => ?_) sh hle hhi
  have hlt := lt_of_get hj
  rw [Nat.zero_add, Array.getElem?_append_left (by simpa using hlt)]
  simpa using hj

/-! ### The way out -/
theorem Ext.deferBlk {b : Nat} {ds ds' : Option (List Deferred)} (hb : w.heap[b]? = some (.deferred ds)) : Ext g w g (Vm.setBlk w b (.deferred ds')) fun x => x = b where
  obj _ _ h := ⟨h, rfl, rfl, rfl⟩
  pm b' o h := ⟨h, by
    by_cases e : b' = b
    · subst e
      simp only [World.cell?, hb, setBlk_same (block_lt hb)]
    · exact cell?_of_block (setBlk_ne e) o⟩
  blk b' _ h := ⟨setBlk_ne h, fun _ h => h⟩
  size := by simp
  lp b' r h := ⟨r, by rw [setBlk_ne (by rintro rfl; rw [hb] at h; simp at h)]; exact h⟩
  same := ⟨rfl, rfl, frozen_setBlk hb (by intro off; simp [objFrozen]) (by intro off; simp [objFrozen])⟩
theorem run_takeDeferred {b : Nat} (h : w.heap[b]? = some (.deferred (some []))) : (Instr.takeDeferred b).run P w = .ok [] (setBlk w b (.deferred none)) := by
  simp [Instr.takeDeferred, getObj, setObj, Sem.run, Sem.run_bind, h, setBlk]

theorem leaves_sim {ro : Option Nat} {fn : Func} {tmps : Array Value} {R : Ending → World → Prop} {lo : Nat} : ∀ {ms : List Deferred} {w : World}, Marks w O lo ms → S P g w st t O →
    (∀ w', S P g w' st t O → Ext g w g w' (fun b => lo ≤ b) → ∃ v, (results fn tmps).run P w' = .ok v w' ∧ R (.returned v) w') → LeavesInM (FR ro) 0 P fn tmps R ms .returning w
  | [], w, _, s, h => h w s (.refl _ _ _)
  | d :: ds, w, ⟨⟨r, h1, h2, h3, h4, h5⟩, h6⟩, s, h => by
    refine ⟨by simp, .inl ⟨r, setBlk w r (.deferred none), h1, run_takeDeferred h3, ?_⟩⟩
    have hx : Ext g w g (setBlk w r (.deferred none)) fun x => x = r := Ext.deferBlk h3
    have hm : Marks (setBlk w r (.deferred none)) O lo ds := by
      clear h
      have : ∀ {es : List Deferred}, (∀ d' ∈ es, ∀ r', d'.target = .collected r' → r' < r) → Marks w O lo es → Marks (setBlk w r (.deferred none)) O lo es := by
        intro es
        induction es with
        | nil => exact fun _ _ => trivial
        | cons e es ih =>
          rintro hlt ⟨⟨q, k1, k2, k3, k4, k5⟩, k6⟩
          have := hlt e (.head _) q k1
          exact ⟨⟨q, k1, k2, by rw [setBlk_ne (by omega)]; exact k3, k4, k5⟩, ih (fun d' hd' => hlt d' (.tail _ hd')) k6⟩
      exact this h5 h6
    exact leaves_sim hm (s.otherG hx h4) fun w' s' hx' => h w' s' ((hx.mono (T := fun b => lo ≤ b) fun b _ e => by rw [e]; exact h2).trans hx' fun _ _ h => h)

/-- A result, as the model reads it. -/
def getRes (t : Array Value) : ResultVar → Sem Value
  | .tmp i => pure (t.getD i undef)
  | .cell i ty => do loadVar ty (← asAddr (t.getD i undef))
theorem results_eq (fn : Func) (t : Array Value) : results fn t = (do let vs ← fn.results.mapM (getRes t); pure (if h : vs.size = 1 then vs[0] else .tuple vs)) := by
  unfold results
  congr 1
theorem run_mapM {α : Type} {f : α → Sem Value} {l : Array α} {xs : List Value} (h : (l.toList.mapM f).run P w = .ok xs w) : (l.mapM f).run P w = .ok xs.toArray w := by
  rw [Array.mapM_eq_mapM_toList]
  simp [h]
theorem takeRes_rel : ∀ {vr : List VRes} {fr : List ResultVar}, chkRes P vr fr = true → ∀ {st st' : St} {O : Nat → Nat} {vs : List AV}, takeRes st vr = some (vs, st') → S P g w st t O →
    ∃ xs : List Value, ∃ Ov O', (fr.mapM (getRes t)).run P w = .ok xs w ∧ RVs g w vs xs Ov ∧ S P g w st' t O' ∧ (∀ b, Ov b + O' b ≤ O b) ∧
      xs.length = fr.length
  | [], [], _, st, st', O, vs, h, s => by
    simp only [takeRes, Option.some.injEq, Prod.mk.injEq] at h
    obtain ⟨rfl, rfl⟩ := h
    exact ⟨[], zero, O, by simp, by simp [RVs], s, fun b => by simp, rfl⟩
  | .tmp i :: vr, .tmp j :: fr, hc, st, st', O, vs, h, s => by
    simp only [chkRes, Bool.and_eq_true, Nat.beq_eq] at hc
    obtain ⟨rfl, hc⟩ := hc
    simp only [takeRes] at h
    split at h
    · rename_i v hv
      split at h
      · rename_i us st1 hr
        simp only [Option.some.injEq, Prod.mk.injEq] at h
        obtain ⟨rfl, rfl⟩ := h
        obtain ⟨O1, O2, _, rv, s2, l2⟩ := s.pull hv
        obtain ⟨xs, O3, O4, hrun, rvs, s4, l4, hlen⟩ := takeRes_rel hc hr s2
        refine ⟨t.getD i undef :: xs, fun b => O1 b + O3 b, O4, ?_, ?_, s4, fun b => by have := l2 b; have := l4 b; show O1 b + O3 b + O4 b ≤ O b; omega, by simp [hlen]⟩
        · simp only [List.mapM_cons, Sem.run_bind, getRes, Sem.run_pure, Result.andThen_ok, hrun]
        · simp only [RVs]; exact ⟨_, _, O1, O3, rfl, rv, rvs, fun _ => rfl⟩
      · simp at h
    · simp at h
  | .cell i n :: vr, .cell j ty :: fr, hc, st, st', O, vs, h, s => by
    simp only [chkRes, Bool.and_eq_true, Nat.beq_eq] at hc
    obtain ⟨⟨rfl, hty⟩, hc⟩ := hc
    simp only [takeRes] at h
    split at h
    · rename_i id hv
      split at h
      · rename_i v h' hl
        split at h
        · rename_i us st1 hr
          simp only [Option.some.injEq, Prod.mk.injEq] at h
          obtain ⟨rfl, rfl⟩ := h
          obtain ⟨O0, O00, _, rp, _, _⟩ := s.pull hv
          simp only [RV] at rp
          obtain ⟨⟨b, hob, hp⟩, _⟩ := rp
          obtain ⟨x, O1, O2, hrun1, rv, s2, l2⟩ := load_cells hty s hob hl
          obtain ⟨O5, s5, l5⟩ := s2.delEnv i
          obtain ⟨O6, s6, l6⟩ := s5.delHeap id
          obtain ⟨xs, O3, O4, hrun, rvs, s4, l4, hlen⟩ := takeRes_rel hc hr s6
          refine ⟨x :: xs, fun b => O1 b + O3 b, O4, ?_, ?_, s4, fun b => by have := l2 b; have := l4 b; have := l5 b; have := l6 b; show O1 b + O3 b + O4 b ≤ O b; omega, by simp [hlen]⟩
          · rw [List.mapM_cons]
            simp only [Sem.run_bind, getRes, hp, asAddr, Sem.run_pure, Result.andThen_ok, hrun1, hrun]
          · simp only [RVs]; exact ⟨_, _, O1, O3, rfl, rv, rvs, fun _ => rfl⟩
        · simp at h
      · simp at h
    · simp at h
  | [], _ :: _, hc, _, _, _, _, _, _ => by simp [chkRes] at hc
  | _ :: _, [], hc, _, _, _, _, _, _ => by simp [chkRes] at hc
  | .tmp _ :: _, .cell _ _ :: _, hc, _, _, _, _, _, _ => by simp [chkRes] at hc
  | .cell _ _ :: _, .tmp _ :: _, hc, _, _, _, _, _, _ => by simp [chkRes] at hc

theorem endF_rel {vf : VFunc} {fn : Func} (hc : chkRes P vf.results fn.results.toList = true) {v : AV} {hs' : HS} (h : endF vf st = some (v, hs')) (s : S P g w st t O) :
    ∃ x Ov Oh, (results fn t).run P w = .ok x w ∧ RV g w v x Ov ∧ S P g w ⟨[], hs'⟩ #[] Oh ∧ ∀ b, Ov b + Oh b ≤ O b := by
  unfold endF at h
  split at h
  · rename_i v1 st1 hr
    simp only [Option.some.injEq, Prod.mk.injEq] at h
    obtain ⟨rfl, rfl⟩ := h
    obtain ⟨xs, Ov, O', hrun, rvs, s', l, hlen⟩ := takeRes_rel hc hr s
    simp only [RVs] at rvs
    obtain ⟨x, ys, O1, O2, rfl, rv, ⟨rfl, _⟩, hs2⟩ := rvs
    obtain ⟨Oe, Oh, _, sh, ho⟩ := s'.split
    refine ⟨x, O1, Oh, ?_, rv, sh, fun b => by have := l b; have := ho b; have := hs2 b; omega⟩
    rw [results_eq, Sem.run_bind, run_mapM hrun]
    simp
  · rename_i vs st1 hne hr
    simp only [Option.some.injEq, Prod.mk.injEq] at h
    obtain ⟨rfl, rfl⟩ := h
    obtain ⟨xs, Ov, O', hrun, rvs, s', l, hlen⟩ := takeRes_rel hc hr s
    obtain ⟨Oe, Oh, _, sh, ho⟩ := s'.split
    refine ⟨.tuple xs.toArray, Ov, Oh, ?_, by simp only [RV]; exact ⟨xs.toArray, rfl, rvs⟩, sh, fun b => by have := l b; have := ho b; omega⟩
    have hl1 : xs.length ≠ 1 := by
      intro h1
      have h2 := rvs.length
      rw [h1] at h2
      match vs, h2 with
      | [v], _ => exact hne v rfl
    rw [results_eq, Sem.run_bind, run_mapM hrun]
    simp [hl1]
  · simp at h
end
end Go.Vm

/-
  FUNCTIONS (2): slices.Clone.
-/
namespace Go.Vm
section
variable {P : Program} {g : Gh} {w : World} {t : Array Value} {O : Nat → Nat} {st st' : St} {a : AV} {o : Oper} {r : Rec}

theorem wpOps_cons {ro : Option Nat} {ops : Array Oper} {Q : Exit → Act → World → Prop} {i : Nat} {rest : List Nat} {ds : List Deferred} {v : Value} {w' : World} (h : ops[i]? = some o) (hg : o.guard = none)
    (hd : ∀ c, o.op ≠ .defer c) (hrun : (execOp (ev t) o).run P w = .ok (.value v) w') (hk : wpOpsIn (FR ro) 0 P ops Q rest ⟨putT t o.dst v, ds⟩ w') : wpOpsIn (FR ro) 0 P ops Q (i :: rest) ⟨t, ds⟩ w := by
  simp only [wpOpsIn, h]
  rw [if_pos (by simp [Region.wanted, hg])]
  refine ⟨fun _ _ => trivial, ?_⟩
  rw [semAt_ev _ _ hd, hrun, Oper.uponIn_value, put_eq]
  exact hk

theorem opIs_get {d : Nat} (h : opIs o d = true) : o.dst = some d ∧ o.guard = none := by
  simp only [opIs, Bool.and_eq_true] at h
  obtain ⟨h1, h2⟩ := h
  split at h1
  · rename_i e he; rw [Nat.beq_eq] at h1; subst h1; exact ⟨he, Option.isNone_iff_eq_none.1 h2⟩
  · simp at h1
theorem isNilC_get {x : Operand} (h : isNilC x = true) : x = .const (.slice none 0 0) := by
  unfold isNilC at h; split at h
  · rfl
  · simp at h
theorem isTmp_get {i : Nat} {x : Operand} (h : isTmp i x = true) : x = .tmp i := by
  unfold isTmp at h; split at h
  · rw [Nat.beq_eq] at h; subst h; rfl
  · simp at h
theorem arr1 {α : Type} {r : Array α} {x : α} (h : r.toList = [x]) : r = #[x] := by
  apply Array.ext'; simpa using h
theorem clone1_get {d : Nat} {r : Array Oper} (h : clone1 d r.toList = true) : ∃ o, r = #[o] ∧ o.dst = some d ∧ o.guard = none ∧ o.op = .assign (.const (.slice none 0 0)) := by
  unfold clone1 at h
  split at h
  · rename_i o e
    simp only [Bool.and_eq_true] at h
    obtain ⟨h1, h2⟩ := h
    obtain ⟨k1, k2⟩ := opIs_get h1
    split at h2
    · rename_i x hx
      exact ⟨o, by apply Array.ext'; rw [e], k1, k2, by rw [hx, isNilC_get h2]⟩
    · simp at h2
  · simp at h
theorem clone2_get {m : Nat} {r : Array Oper} (h : clone2 P m r.toList = true) : ∃ a b T u, r = #[a, b] ∧ a.dst = some 3 ∧ a.guard = none ∧ a.op = .move (.tmp 0) ∧ b.dst = some 4 ∧ b.guard = none ∧
    b.op = .binOp .eql T (.tmp 3) (.const (.slice none 0 0)) u ∧ tySlice P T m = true := by
  unfold clone2 at h
  split at h
  · rename_i a b e
    simp only [Bool.and_eq_true] at h
    obtain ⟨⟨⟨h1, h2⟩, h3⟩, h4⟩ := h
    obtain ⟨k1, k2⟩ := opIs_get h1
    obtain ⟨k3, k4⟩ := opIs_get h3
    split at h2
    · rename_i x hx
      split at h4
      · rename_i T y z u hb
        simp only [Bool.and_eq_true] at h4
        obtain ⟨⟨q1, q2⟩, q3⟩ := h4
        exact ⟨a, b, T, u, by apply Array.ext'; rw [e], k1, k2, by rw [hx, isTmp_get h2], k3, k4, by rw [hb, isTmp_get q2, isNilC_get q3], q1⟩
      · simp at h4
    · simp at h2
  · simp at h
theorem clone3_get {m : Nat} {r : Array Oper} (h : clone3 P m r.toList = true) : ∃ a b c d T ats e', r = #[a, b, c, d] ∧ a.dst = some 5 ∧ a.guard = none ∧ a.op = .buildSlice T 0 #[] ∧ tySlice P T m = true ∧
    b.dst = some 6 ∧ b.guard = none ∧ b.op = .move (.tmp 0) ∧ c.dst = some 7 ∧ c.guard = none ∧ c.op = .call ⟨.builtin .append, #[.tmp 5, .tmp 6], ats⟩ ∧ ats = #[ty0 ⟨.builtin .append, #[.tmp 5, .tmp 6], ats⟩, ats.getD 1 0] ∧
    tySlice P (ty0 ⟨.builtin .append, #[.tmp 5, .tmp 6], ats⟩) m = true ∧ tyElemZeroLen P (ty0 ⟨.builtin .append, #[.tmp 5, .tmp 6], ats⟩) m = true ∧ P.underlying (ats.getD 1 0) = some (.slice e') ∧
    d.dst = some 2 ∧ d.guard = none ∧ d.op = .assign (.tmp 7) := by
  unfold clone3 at h
  split at h
  · rename_i a b c d e
    simp only [Bool.and_eq_true] at h
    obtain ⟨⟨⟨⟨⟨⟨⟨h1, h2⟩, h3⟩, h4⟩, h5⟩, h6⟩, h7⟩, h8⟩ := h
    obtain ⟨k1, k2⟩ := opIs_get h1
    obtain ⟨k3, k4⟩ := opIs_get h3
    obtain ⟨k5, k6⟩ := opIs_get h5
    obtain ⟨k7, k8⟩ := opIs_get h7
    split at h2
    · rename_i T ps hops
      simp only [Bool.and_eq_true] at h2
      have hps : ps = #[] := by simpa using h2.2
      split at h4
      · rename_i x hx
        split at h6
        · rename_i k hk
          obtain ⟨callee, args, ats⟩ := k
          simp only [Bool.and_eq_true] at h6
          obtain ⟨⟨⟨⟨⟨q1, q2⟩, q3⟩, q4⟩, q5⟩, q6⟩ := h6
          have := calleeB_eq q1; subst this
          split at q6
          · rename_i y z hargs
            simp only [Bool.and_eq_true] at q6
            have e1 := isTmp_get q6.1
            have e2 := isTmp_get q6.2
            subst e1 e2
            have : args = #[.tmp 5, .tmp 6] := by apply Array.ext'; rw [hargs]
            subst this
            split at q5
            · rename_i e' he'
              split at h8
              · rename_i u hu
                exact ⟨a, b, c, d, T, ats, e', by apply Array.ext'; rw [e], k1, k2, by rw [hops, hps], h2.1, k3, k4, by rw [hx, isTmp_get h4], k5, k6, hk, two_types q2, q3, q4, he', k7, k8, by rw [hu, isTmp_get h8]⟩
              · simp at h8
            · simp at q5
          · simp at q6
        · simp at h6
      · simp at h4
    · simp at h2
  · simp at h

theorem getD_put {i j : Nat} {v : Value} (h : j < t.size) : (t.setIfInBounds i v).getD j undef = if i = j then v else t.getD j undef := by
  simp only [Array.getD_eq_getD_getElem?, Array.getElem?_setIfInBounds]
  by_cases e : i = j
  · subst e; simp [h]
  · simp [e]

theorem code_clone {m : Nat} {c : Code} (hc : chkClone P m c = true) {out : Out} (h : vcClone m st = some (out, st')) (ht : 8 ≤ t.size) (s : S P g w st t O) :
    c.wpIn (FR none) 0 P (CodePost P g w t O [] none out st') ⟨t, []⟩ w := by
  unfold chkClone at hc
  split at hc
  · rename_i i0 r0 i1 r1 i2 r2 i3 r3
    simp only [Bool.and_eq_true] at hc
    obtain ⟨⟨⟨c0, c1⟩, c2⟩, c3⟩ := hc
    obtain ⟨o0, rfl, d0, gd0, p0⟩ := clone1_get c0
    obtain ⟨o1, o2, T, u, rfl, d1, gd1, p1, d2, gd2, p2, hT⟩ := clone2_get c1
    obtain ⟨o3, rfl, d3, gd3, p3⟩ := clone1_get c2
    obtain ⟨o4, o5, o6, o7, T4, ats, e', rfl, d4, gd4, p4, hT4, d5, gd5, p5, d6, gd6, p6, hats, hT6, hz6, hu1, d7, gd7, p7⟩ := clone3_get c3
    unfold vcClone at h
    split at h
    · rename_i v hv
      split at h
      · rename_i xs hxs
        split at h
        · rename_i hb
          simp only [Bool.and_eq_true, Nat.ble_eq] at hb
          obtain ⟨hok, hmost⟩ := hb
          simp only [Option.some.injEq, Prod.mk.injEq] at h
          obtain ⟨rfl, rfl⟩ := h
          have hl := okElems_len hok
          obtain ⟨Ov, O1, h0t, rv, s1, l1⟩ := s.pull hv
          obtain ⟨ad, cap, news0, hx, hels0⟩ := elems_rel s hxs hl rv
          obtain ⟨Oe, Oh, _, sh, ho⟩ := s.split
          generalize hX : t.getD 0 undef = X at *
          obtain ⟨el, hu, hsz, hm, hby⟩ := tySlice_elem hT
          -- the last step
          have fin : ∀ (t' : Array Value) (w' : World) (g' : Gh) (Or O' : Nat → Nat), t'.size = t.size → RV g' w' (.own true m xs) (t'.getD 2 undef) Or → S P g' w' ⟨[], st.hs⟩ #[] O' → Ext g w g' w' (fun b => O b ≠ 0) →
              (∀ b, Or b + O' b ≤ 1) → (∀ b, b < w.heap.size → Or b + O' b ≤ O b) → (∀ b, Or b ≠ 0 → b < w'.heap.size) → CodePost P g w t O [] none .ret ⟨[(2, .own true m xs)], st.hs⟩ .ret ⟨t', []⟩ w' := by
            intro t' w' g' Or O' hsz' rv' s' hx' hle hold hhi
            refine ⟨rfl, g', fun b => Or b + O' b, [], ⟨S.join (by simp [Srt]) ⟨Or, zero, ⟨by show 2 < t'.size; omega, rv'⟩, fun _ => rfl, fun b => by simp⟩ s' hle hhi, hx', hold, hsz'⟩, rfl, trivial, fun _ => rfl⟩
          have nodef : ∀ {op : Op} {op' : Op}, op = op' → (∀ c, op' ≠ .defer c) → ∀ c, op ≠ .defer c := fun e h c e2 => h c (e ▸ e2)
          refine wpIn_seq (wpIn_region ?_)
          show wpOpsIn _ _ _ _ _ [0] _ _
          refine wpOps_cons (o := o0) (v := .slice none 0 0) (w' := w) rfl gd0 (nodef p0 (by simp)) (by simp [execOp, p0, ev]) ?_
          refine wpIn_seq (wpIn_seq (wpIn_region ?_))
          show wpOpsIn _ _ _ _ _ [0, 1] _ _
          have hev0 : ev (putT t (some 2) (.slice none 0 0)) (.tmp 0) = X := by
            show (t.setIfInBounds 2 _).getD 0 undef = X
            rw [getD_put (by omega), if_neg (by omega), hX]
          rw [d0]
          refine wpOps_cons (o := o1) (v := X) (w' := w) rfl gd1 (nodef p1 (by simp)) (by simp [execOp, p1, hev0]) ?_
          rw [d1]
          generalize ht2 : putT (putT t (some 2) (.slice none 0 0)) (some 3) X = t2
          have hs2 : t2.size = t.size := by rw [← ht2, putT_size, putT_size]
          have hev3 : ev t2 (.tmp 3) = X := by
            rw [← ht2]
            show ((putT t (some 2) (.slice none 0 0)).setIfInBounds 3 X).getD 3 undef = X
            rw [getD_put (by rw [putT_size]; omega), if_pos rfl]
          have heq : (Op.equal T X (.slice none 0 0)).run P w = .ok ad.isNone w := by
            show (Op.equalIn (9999 + 1) T X (.slice none 0 0)).run P w = _
            rw [hx]
            unfold Op.equalIn
            rw [Sem.run_bind, run_underlying hu]
            cases ad <;> simp
          have hguard : (eqGuard .eql T (.tmp 3) (.const (.slice none 0 0)) X (.slice none 0 0)).run P w = .ok () w := by
            rw [hx]; unfold eqGuard; simp
          refine wpOps_cons (o := o2) (v := .bool ad.isNone) (w' := w) rfl gd2 (nodef p2 (by simp)) ?_ ?_
          · simp only [execOp, p2, hev3]
            have hc : ev t2 (.const (.slice none 0 0)) = .slice none 0 0 := rfl
            rw [hc, Sem.run_bind, Sem.run_bind, hguard]
            have hbin : (binOp .eql T X (.slice none 0 0)).run P w = .ok (.bool ad.isNone) w := by
              rw [hx]
              rw [hx] at heq
              show ((do pure (.bool (← Op.equal T (.slice ad xs.length cap) (.slice none 0 0))) : Sem Value)).run P w = _
              rw [Sem.run_bind, heq]; rfl
            simp only [Result.andThen_ok, hbin, Sem.run_pure]
          · rw [d2]
            generalize ht3 : putT t2 (some 4) (.bool ad.isNone) = t3
            have hs3 : t3.size = t.size := by rw [← ht3, putT_size, hs2]
            have hev4 : ev t3 (.tmp 4) = .bool ad.isNone := by
              rw [← ht3]
              show (t2.setIfInBounds 4 _).getD 4 undef = _
              rw [getD_put (by omega), if_pos rfl]
            have hev03 : ev t3 (.tmp 0) = X := by
              rw [← ht3, ← ht2]
              show (((t.setIfInBounds 2 _).setIfInBounds 3 _).setIfInBounds 4 _).getD 0 undef = X
              rw [getD_put (by simp; omega), if_neg (by omega), getD_put (by simp; omega), if_neg (by omega), getD_put (by omega), if_neg (by omega), hX]
            show (Code.cond (.tmp 4) (.seq (.region i2 #[o3] false) .ret) .skip).wpIn (FR none) 0 P _ ⟨t3, []⟩ w
            cases had : ad with
            | none =>
              refine wpIn_cond_true (by rw [ev_eval, hev4, had]; rfl) (wpIn_seq (wpIn_region ?_))
              show wpOpsIn _ _ _ _ _ [0] _ _
              refine wpOps_cons (o := o3) (v := .slice none 0 0) (w' := w) rfl gd3 (nodef p3 (by simp)) (by simp [execOp, p3, ev]) (wpIn_ret ?_)
              rw [d3]
              have hnil : xs = [] := List.eq_nil_of_length_eq_zero (hels0.nn had)
              refine fin _ w g zero Oh (by rw [putT_size, hs3]) ?_ sh (.refl _ _ _) (fun b => by have := ho b; have := s.le b; simp; omega) (fun b _ => by have := ho b; simp; omega) (fun b hb => by simp at hb)
              have : (putT t3 (some 2) (.slice none 0 0)).getD 2 undef = .slice none 0 0 := by
                show (t3.setIfInBounds 2 _).getD 2 undef = _
                rw [getD_put (by omega), if_pos rfl]
              rw [this, hnil]
              simp only [RV, Own]
              exact .inl ⟨trivial, fun _ => trivial, none, rfl⟩
            | some ad' =>
              refine wpIn_cond_false (by rw [ev_eval, hev4, had]; rfl) (wpIn_skip ?_)
              refine wpIn_seq (wpIn_region ?_)
              show wpOpsIn _ _ _ _ _ [0, 1, 2, 3] _ _
              obtain ⟨el4, hu4, hsz4, hm4, hby4⟩ := tySlice_elem hT4
              have hbuild : (Instr.buildSlice T4 0 #[]).run P w = .ok (.slice (some ⟨w.heap.size, 0, none⟩) 0 0) (w.alloc (.cells #[] el4)) := by
                have hr : ∀ f : Nat → Value, (Array.range (0 * m)).map f = #[] := by
                  intro f
                  apply Array.eq_empty_of_size_eq_zero
                  simp
                simp only [Instr.buildSlice, run_underlying hu4, run_sizeOf hsz4, Sem.run_bind, Result.andThen_ok, Sem.run_ite, hr, Instr.fill, Nat.zero_mul, if_true, Sem.run_pure]
                have hr0 : ∀ f : Nat → Value, (Array.range 0).map f = #[] := by
                  intro f
                  apply Array.eq_empty_of_size_eq_zero
                  simp
                simp [newRow, hr0, Instr.fill]
              refine wpOps_cons (o := o4) (v := .slice (some ⟨w.heap.size, 0, none⟩) 0 0) (w' := w.alloc (.cells #[] el4)) rfl gd4 (nodef p4 (by simp)) (by simp [execOp, p4, hbuild]) ?_
              rw [d4]
              generalize ht5 : putT t3 (some 5) (.slice (some ⟨w.heap.size, 0, none⟩) 0 0) = t5
              have hs5 : t5.size = t.size := by rw [← ht5, putT_size, hs3]
              have hev05 : ev t5 (.tmp 0) = X := by
                rw [← ht5]
                show (t3.setIfInBounds 5 _).getD 0 undef = X
                rw [getD_put (by omega), if_neg (by omega)]
                exact hev03
              refine wpOps_cons (o := o5) (v := X) (w' := w.alloc (.cells #[] el4)) rfl gd5 (nodef p5 (by simp)) (by simp [execOp, p5, hev05]) ?_
              rw [d5]
              generalize ht6 : putT t5 (some 6) X = t6
              have hs6 : t6.size = t.size := by rw [← ht6, putT_size, hs5]
              have hev66 : ev t6 (.tmp 6) = X := by
                rw [← ht6]
                show (t5.setIfInBounds 6 _).getD 6 undef = X
                rw [getD_put (by omega), if_pos rfl]
              have hev65 : ev t6 (.tmp 5) = .slice (some ⟨w.heap.size, 0, none⟩) 0 0 := by
                rw [← ht6, ← ht5]
                show ((t3.setIfInBounds 5 _).setIfInBounds 6 _).getD 5 undef = _
                rw [getD_put (by simp; omega), if_neg (by omega), getD_put (by omega), if_pos rfl]
              -- the new world
              have hx1 : Ext g w g (w.alloc (.cells #[] el4)) fun _ => False := Ext.alloc s.pmlt _ _
              have hpl : ∀ b o, g.pm b o → b < (w.alloc (.cells #[] el4)).heap.size := fun b o h => Nat.lt_of_lt_of_le (s.pmlt b o h) hx1.size
              have sx := s.extF hx1 rfl hpl
              have shx := sh.extF hx1 rfl hpl
              have rvx := RV.ext hx1 _ _ _ rv (by simp)
              obtain ⟨ad2, cap2, news, hxx, hels⟩ := elems_rel sx hxs hl rvx
              rw [hx, had] at hxx
              simp only [Value.slice.injEq, true_and] at hxx
              obtain ⟨rfl, rfl⟩ := hxx
              obtain ⟨el6, hu6, hsz6, hm6, hby6⟩ := tySlice_elem hT6
              obtain ⟨el6', i6, zv, hu6', hi, hz, hzs⟩ := tyElemZeroLen_get hz6
              rw [hu6] at hu6'
              simp only [Option.some.injEq, TypeDesc.slice.injEq] at hu6'
              subst hu6'
              rw [bytesOf_get hi] at hby6
              generalize ty0 ⟨.builtin .append, #[.tmp 5, .tmp 6], ats⟩ = T0 at *
              generalize ats.getD 1 0 = T1 at *
              have hsrc : Src P (w.alloc (.cells #[] el4)) T1 X el6 m xs.length news := by
                refine ⟨hels.len, hels.one, .inl ⟨⟨e', hu1⟩, ⟨ad, cap, hx⟩, fun w1 hw => ?_⟩⟩
                have := hels.first (P := P) (len := xs.length) (cap := cap) (Nat.le_refl _) hw
                rw [← hels.len, List.take_length, ← had, ← hx] at this
                exact this
              have hmost' : xs.length ≤ 4294967296 := hmost
              have hApp : AppOK P g (w.alloc (.cells #[] el4)) #[] Oh zero ⟨[], st.hs⟩ (.own true m xs) ((Builtin.append_ #[T0, T1] o6.type #[.slice (some ⟨w.heap.size, 0, none⟩) 0 0, X]).run P (w.alloc (.cells #[] el4))) := by
                by_cases hxs0 : xs.length = 0
                · have hnil : news = [] := List.eq_nil_of_length_eq_zero (by rw [hels.len, hxs0]; simp)
                  have hxn : xs = [] := List.eq_nil_of_length_eq_zero hxs0
                  have hrun := run_append_fits (P := P) (w := w.alloc (.cells #[] el4)) (ty := o6.type) hu6 hi (tySz_get hsz6 hi) hm6 hby6 hmost' hsrc (base := some ⟨w.heap.size, 0, none⟩) (sLen := 0) (sCap := 0) (by omega)
                  refine ⟨.slice (some ⟨w.heap.size, 0, none⟩) 0 0, w.alloc (.cells #[] el4), g, zero, Oh, ?_, ?_, shx, .refl _ _ _, fun b => by have := shx.le b; simp; omega, fun b _ => by simp, fun b hb => by simp at hb⟩
                  · rw [hrun, hnil, hxs0]; simp [storeCells]
                  · rw [hxn]; simp only [RV, Own]; exact .inl ⟨trivial, fun _ => trivial, _, rfl⟩
                · have := grow_rel (Oa := zero) (xs := []) (base := some ⟨w.heap.size, 0, none⟩) (sCap := 0) (olds := []) (ty := o6.type) shx hu6 hi hz hzs (tySz_get hsz6 hi) hm6 hby6 hsrc hels.rd (fun e he => by simp at he) hl (by simp)
                    (fun j d h => by simp at h) (fun w1 _ => run_firstCells_zero m _ 0 0 w1) (by simpa using hmost') (by simp; omega)
                  simpa using this
              obtain ⟨vv, w2, g2, Or, O2, k1, k2, k3, k4, k5, k6, k7⟩ := hApp
              refine wpOps_cons (o := o6) (v := vv) (w' := w2) rfl gd6 (nodef p6 (by simp)) ?_ ?_
              · simp only [execOp, p6, resolve, Sem.run_bind, Sem.run_pure, Result.andThen_ok, invoke, builtin]
                have hargs : Array.map (ev t6) #[Operand.tmp 5, Operand.tmp 6] = #[.slice (some ⟨w.heap.size, 0, none⟩) 0 0, X] := by
                  simp only [List.map_toArray, List.map_cons, List.map_nil, hev65, hev66]
                rw [hargs, hats, k1]
                simp
              · rw [d6]
                generalize ht7 : putT t6 (some 7) vv = t7
                have hs7 : t7.size = t.size := by rw [← ht7, putT_size, hs6]
                have hev77 : ev t7 (.tmp 7) = vv := by
                  rw [← ht7]
                  show (t6.setIfInBounds 7 _).getD 7 undef = vv
                  rw [getD_put (by omega), if_pos rfl]
                refine wpOps_cons (o := o7) (v := vv) (w' := w2) rfl gd7 (nodef p7 (by simp)) (by simp [execOp, p7, hev77]) (wpIn_ret ?_)
                rw [d7]
                have hle1 : w.heap.size ≤ (w.alloc (.cells #[] el4)).heap.size := hx1.size
                refine fin _ w2 g2 Or O2 (by rw [putT_size, hs7]) ?_ k3 (((hx1.mono (T := fun b => O b ≠ 0) fun _ _ h => h.elim)).trans k4 fun b hb hq => ?_) k5 (fun b hb => ?_) k7
                · have : (putT t7 (some 2) vv).getD 2 undef = vv := by
                    show (t7.setIfInBounds 2 _).getD 2 undef = _
                    rw [getD_put (by omega), if_pos rfl]
                  rw [this]; exact k2
                · rcases hq with hq | hq
                  · exact absurd rfl hq
                  · have := ho b; show O b ≠ 0; omega
                · have h6 : Or b + O2 b ≤ 0 + Oh b := k6 b (Nat.lt_of_lt_of_le hb hle1)
                  have := ho b; omega
        · simp at h
      · simp at h
    · simp at h
  · simp at hc
end
end Go.Vm

/-
  THE INTERPRETER IS SOUND: what it answers is what the model's machine answers.
-/
namespace Go.Vm

/-- A function's annotated code belongs to the program's. -/
def FnAll (P : Program) (vf : VFunc) (f : FuncId) : Prop :=
  ∃ fn c, P.funcs[f]? = some fn ∧ fn.body = some c ∧ fn.name ≠ "runtime.NumGoroutine" ∧ vf.nparams ≤ fn.ntmps ∧ chkRes P vf.results fn.results.toList = true ∧
    (Mt P fn.ntmps vf.body c ∨ ∃ m, vf.body = .clone m ∧ chkClone P m c = true ∧ 8 ≤ fn.ntmps)
def TabOK (P : Program) (T : Nat → Option VFunc) : Prop := ∀ f vf, T f = some vf → FnAll P vf f

def LoopSim (P : Program) (r : Rec) : Prop :=
  ∀ {v : VC} {st : St} {o : Out} {st' : St}, r.code (.loop v) st = some (o, st') → ∀ {c : Code} {n : Nat}, Mt P n v c → ∀ {g : Gh} {w : World} {t : Array Value} {O : Nat → Nat}, t.size = n → S P g w st t O →
    ∀ (ro : Option Nat) (ds : List Deferred), RoOK w ro → LoopW ro P c (CodePost P g w t O ds ro o st') ⟨t, ds⟩ w
def ScopeSim (P : Program) (r : Rec) : Prop :=
  ∀ {v cur : VC} {st : St} {o : Out} {st' : St}, r.code (.inScope v cur) st = some (o, st') → ∀ {body c : Code} {n : Nat}, Mt P n v body → Mt P n cur c → ∀ {g : Gh} {w : World} {t : Array Value} {O : Nat → Nat}, t.size = n →
    S P g w st t O → ∀ (ro : Option Nat) (ds : List Deferred), RoOK w ro → ScopeW ro P body c (CodePost P g w t O ds ro o st') ⟨t, ds⟩ w
def GhostSim (P : Program) (r : Rec) : Prop :=
  ∀ {v : VC} {st : St} {o : Out} {st' : St}, ghosts v = true → r.code v st = some (o, st') → o = .normal ∧ ∀ {g : Gh} {w : World} {t : Array Value} {O : Nat → Nat}, S P g w st t O → ∃ g' O', Goes P g w t O st' t w g' O'

section
variable {P : Program} {g : Gh} {w : World} {t : Array Value} {O : Nat → Nat} {st st' : St} {r : Rec}

theorem LoopW.mono {ro : Option Nat} {c : Code} {Q Q' : Exit → Act → World → Prop} {a : Act} (h : LoopW ro P c Q a w) (hq : ∀ e a w, Q e a w → Q' e a w) : LoopW ro P c Q' a w :=
  fun b k cs hr => let ⟨e, a', w', q, x⟩ := h b k cs hr; ⟨e, a', w', hq _ _ _ q, x⟩
theorem ScopeW.mono {ro : Option Nat} {body c : Code} {Q Q' : Exit → Act → World → Prop} {a : Act} (h : ScopeW ro P body c Q a w) (hq : ∀ e a w, Q e a w → Q' e a w) : ScopeW ro P body c Q' a w :=
  fun b k cs hr => let ⟨e, a', w', q, x⟩ := h b k cs hr; ⟨e, a', w', hq _ _ _ q, x⟩

theorem Goes.mono {O2 : Nat → Nat} {t' : Array Value} {w' : World} {g' : Gh} {O' : Nat → Nat} (h : Goes P g w t O st' t' w' g' O') (hle : ∀ b, O b ≤ O2 b) : Goes P g w t O2 st' t' w' g' O' :=
  ⟨h.st, h.ext.mono fun b _ hb => by have := hle b; omega, fun b hb => Nat.le_trans (h.old b hb) (hle b), h.size⟩
theorem CodePost.mono {O2 : Nat → Nat} {ds : List Deferred} {ro : Option Nat} {o : Out} {e : Exit} {a' : Act} {w' : World} (h : CodePost P g w t O ds ro o st' e a' w') (hle : ∀ b, O b ≤ O2 b) : CodePost P g w t O2 ds ro o st' e a' w' := by
  obtain ⟨he, g', O', ms, G, hd, hm, hr⟩ := h
  exact ⟨he, g', O', ms, G.mono hle, hd, hm, hr⟩
theorem CodePost.refl {ds : List Deferred} {ro : Option Nat} (o : Out) (s : S P g w st t O) : CodePost P g w t O ds ro o st (exitOf o) ⟨t, ds⟩ w :=
  ⟨rfl, g, O, [], Goes.refl s, rfl, trivial, fun _ => rfl⟩
/-- Bookkeeping behind. -/
theorem CodePost.ghost {ds : List Deferred} {ro : Option Nat} {o o2 : Out} {st2 : St} {e : Exit} {a' : Act} {w' : World} (h : CodePost P g w t O ds ro o st' e a' w')
    (hg : ∀ {g : Gh} {w : World} {t : Array Value} {O : Nat → Nat}, S P g w st' t O → ∃ g' O', Goes P g w t O st2 t w g' O') (ho : exitOf o = exitOf o2) : CodePost P g w t O ds ro o2 st2 e a' w' := by
  obtain ⟨he, g', O', ms, G, hd, hm, hr⟩ := h
  obtain ⟨g2, O2, G2⟩ := hg G.st
  exact ⟨he.trans ho, g2, O2, ms, G.trans G2, hd, hm.after G2.ext G2.old, hr⟩
theorem CodePost.as {ds : List Deferred} {ro : Option Nat} {o o2 : Out} {e : Exit} {a' : Act} {w' : World} (h : CodePost P g w t O ds ro o st' e a' w') : CodePost P g w t O ds ro o2 st' (exitOf o2) a' w' := by
  obtain ⟨_, h⟩ := h
  exact ⟨rfl, h⟩

/-- One piece goes on where another ended. -/
theorem then_sim {ds : List Deferred} {ro : Option Nat} (hro : RoOK w ro) {o1 : Out} {st1 : St} {next : Act → World → Prop} {o : Out} {e : Exit} {a1 : Act} {w1 : World} (h : CodePost P g w t O ds ro o1 st1 e a1 w1)
    (hn : o1 = .normal → ∀ (t1 : Array Value) (ds1 : List Deferred) (g1 : Gh) (O1 : Nat → Nat), t1.size = t.size → S P g1 w1 st1 t1 O1 → RoOK w1 ro →
      (∀ e a2 w2, CodePost P g1 w1 t1 O1 ds1 ro o st' e a2 w2 → CodePost P g w t O ds ro o st' e a2 w2) → next ⟨t1, ds1⟩ w1)
    (ho : o1 ≠ .normal → o = o1 ∧ st' = st1) : Exit.then next (CodePost P g w t O ds ro o st') e a1 w1 := by
  have h0 := h
  obtain ⟨he, g1, O1, ms, G, hd, hm, hr⟩ := h
  subst he
  by_cases hnm : o1 = .normal
  · subst hnm
    obtain ⟨t1, d1⟩ := a1
    simp only at hd
    subst hd
    exact hn rfl t1 _ g1 O1 G.size G.st (hro.ext G.ext) fun e a2 w2 k => CodePost.comp G hm hr k
  · obtain ⟨rfl, rfl⟩ := ho hnm
    cases o <;> first | exact absurd rfl hnm | exact h0

theorem code_step (hc : CodeSim P r) (hl : LoopSim P r) (hs : ScopeSim P r) (hgh : GhostSim P r) (hr : CallSim P r) {v : VC} {o : Out} (h : codeF v r st = some (o, st')) {c : Code} {n : Nat} (hm : Mt P n v c) (hn : t.size = n)
    (s : S P g w st t O) (ro : Option Nat) (ds : List Deferred) (hro : RoOK w ro) : c.wpIn (FR ro) 0 P (CodePost P g w t O ds ro o st') ⟨t, ds⟩ w := by
  cases hm with
  | @ghostL a b c h1 h2 =>
    simp only [codeF, vcSeq] at h
    split at h
    · rename_i st1 ha
      obtain ⟨_, hg⟩ := hgh h1 ha
      obtain ⟨g1, O1, G⟩ := hg s
      exact wpIn_mono (hc h h2 (by rw [← hn]) G.st ro ds hro) fun e a2 w2 k => CodePost.comp (ms1 := []) G trivial (fun _ => rfl) k
    · rename_i x hx
      cases hra : r.code a st with
      | none => rw [hra] at h; simp at h
      | some p =>
        obtain ⟨o1, st1⟩ := p
        obtain ⟨rfl, _⟩ := hgh h1 hra
        exact absurd hra (by intro h3; exact hx _ h3)
  | @ghostR a b c h1 h2 =>
    simp only [codeF, vcSeq] at h
    split at h
    · rename_i st1 ha
      obtain ⟨rfl, hg⟩ := hgh h1 h
      exact wpIn_mono (hc ha h2 hn s ro ds hro) fun e a2 w2 k => k.ghost hg rfl
    · rename_i x hx
      exact hc h h2 hn s ro ds hro
  | @seq a b c d h1 h2 =>
    simp only [codeF, vcSeq] at h
    split at h
    · rename_i st1 ha
      refine wpIn_seq (wpIn_mono (hc ha h1 hn s ro ds hro) fun e a1 w1 k => then_sim hro k (fun _ t1 ds1 g1 O1 hs1 s1 hro1 hcomp => ?_) (fun hne => absurd rfl hne))
      exact wpIn_mono (hc h h2 (by rw [hs1, hn]) s1 ro ds1 hro1) hcomp
    · rename_i x hx
      refine wpIn_seq (wpIn_mono (hc h h1 hn s ro ds hro) fun e a1 w1 k => then_sim hro k (fun hnm => ?_) (fun _ => ⟨rfl, rfl⟩))
      subst hnm
      exact absurd h (by intro h3; exact hx _ h3)
  | skip =>
    simp only [codeF, Option.some.injEq, Prod.mk.injEq] at h
    obtain ⟨rfl, rfl⟩ := h
    exact wpIn_skip (CodePost.refl .normal s)
  | @reg ops id os hops =>
    simp only [codeF, vcReg] at h
    split at h
    · rename_i st1 hst
      simp only [Option.some.injEq, Prod.mk.injEq] at h
      obtain ⟨rfl, rfl⟩ := h
      refine wpIn_region ?_
      have := ops_sim (ro := ro) (Q := CodePost P g w t O ds ro .normal st1) hr hc ds (k := 0) rfl hops hn s hst fun w' t' g' O' G => ⟨rfl, g', O', [], G, rfl, trivial, fun _ => rfl⟩
      rw [List.range_eq_range']
      simpa using this
    · simp at h
  | @draw ops id os hops =>
    simp only [codeF, vcReg] at h
    split at h
    · rename_i st1 hst
      simp only [Option.some.injEq, Prod.mk.injEq] at h
      obtain ⟨rfl, rfl⟩ := h
      exact draw_sim hr hc ds hops hn s hst fun w' t' g' O' G => ⟨rfl, g', O', [], G, rfl, trivial, fun _ => rfl⟩
    · simp at h
  | @cond rd o' a b c d h1 h2 h3 =>
    simp only [codeF, vcCond] at h
    have step : ∀ (tb : Bool) (e : Env) (k : VC) (cd : Code), Vm.rd st.env rd = some (.d (.bool tb), e) → r.code k ⟨e, st.hs⟩ = some (o, st') → Mt P n k cd → (if tb then c else d) = cd →
        (Code.cond o' c d).wpIn (FR ro) 0 P (CodePost P g w t O ds ro o st') ⟨t, ds⟩ w := by
      intro tb e k cd hrd hk hmk hcd
      obtain ⟨Ov, O', rv, s', l⟩ := s.rd h1 hrd
      have hev := ev_bool rv rfl
      refine wpIn_cond (t := tb) (by rw [ev_eval]; exact hev) ?_
      rw [hcd]
      exact wpIn_mono (hc hk hmk hn s' ro ds hro) fun e a2 w2 k => k.mono fun b => by have := l b; omega
    split at h
    · rename_i e hrd
      exact step true e a c hrd h h2 rfl
    · rename_i e hrd
      exact step false e b d hrd h h3 rfl
    · simp at h
  | @block bid a c h1 =>
    simp only [codeF, vcBlock] at h
    split at h
    · rename_i j st1 ha
      refine wpIn_block (wpIn_mono (hc ha h1 hn s ro ds hro) fun e a1 w1 k => ?_)
      obtain ⟨rfl, _⟩ := id k
      simp only [exitOf, Exit.inBlock]
      split at h
      · rename_i hj
        rw [Nat.beq_eq] at hj
        simp only [Option.some.injEq, Prod.mk.injEq] at h
        obtain ⟨rfl, rfl⟩ := h
        rw [if_pos hj]
        exact k.as
      · rename_i hj
        simp only [Option.some.injEq, Prod.mk.injEq] at h
        obtain ⟨rfl, rfl⟩ := h
        rw [if_neg (by intro e; subst e; simp at hj)]
        exact k
    · rename_i x hx
      refine wpIn_block (wpIn_mono (hc h h1 hn s ro ds hro) fun e a1 w1 k => ?_)
      have hne : ∀ j, o ≠ .exit j := by rintro j rfl; exact absurd h (by intro h3; exact hx _ _ h3)
      obtain ⟨rfl, _⟩ := id k
      cases o <;> first | exact k | exact absurd rfl (hne _)
  | @loop a c h1 =>
    simp only [codeF, vcLoop] at h
    refine (loopW_step ?_).2
    split at h
    · rename_i st1 ha
      refine wpIn_mono (hc ha h1 hn s ro ds hro) fun e a1 w1 k => then_sim hro k (fun _ t1 ds1 g1 O1 hs1 s1 hro1 hcomp => ?_) (fun hne => absurd rfl hne)
      exact (hl h h1 (by rw [hs1, hn]) s1 ro ds1 hro1).mono hcomp
    · rename_i x hx
      refine wpIn_mono (hc h h1 hn s ro ds hro) fun e a1 w1 k => then_sim hro k (fun hnm => ?_) (fun _ => ⟨rfl, rfl⟩)
      subst hnm
      exact absurd h (by intro h3; exact hx _ h3)
  | @rangeF rd o' ps qs a b c d h1 h2 h3 h4 h5 =>
    subst hn h2
    exact code_rangeF hr h h1 h3 h4 h5 s ro ds hro
  | exit =>
    simp only [codeF, Option.some.injEq, Prod.mk.injEq] at h
    obtain ⟨rfl, rfl⟩ := h
    exact wpIn_exit (CodePost.refl (.exit _) s)
  | @scope a c h1 =>
    simp only [codeF, vcScope] at h
    exact scopeW_wp (hs h h1 h1 hn s ro ds hro)
  | label =>
    simp only [codeF, Option.some.injEq, Prod.mk.injEq] at h
    obtain ⟨rfl, rfl⟩ := h
    exact wpIn_label (CodePost.refl .normal s)
  | goto =>
    simp only [codeF, Option.some.injEq, Prod.mk.injEq] at h
    obtain ⟨rfl, rfl⟩ := h
    exact wpIn_goto (CodePost.refl (.goto _) s)
  | ret =>
    simp only [codeF, Option.some.injEq, Prod.mk.injEq] at h
    obtain ⟨rfl, rfl⟩ := h
    exact wpIn_ret (CodePost.refl .ret s)

theorem loop_step (hc : CodeSim P r) (hl : LoopSim P r) {v : VC} {o : Out} (h : codeF (.loop v) r st = some (o, st')) {c : Code} {n : Nat} (h1 : Mt P n v c) (hn : t.size = n)
    (s : S P g w st t O) (ro : Option Nat) (ds : List Deferred) (hro : RoOK w ro) : LoopW ro P c (CodePost P g w t O ds ro o st') ⟨t, ds⟩ w := by
  simp only [codeF, vcLoop] at h
  refine (loopW_step ?_).1
  split at h
  · rename_i st1 ha
    refine wpIn_mono (hc ha h1 hn s ro ds hro) fun e a1 w1 k => then_sim hro k (fun _ t1 ds1 g1 O1 hs1 s1 hro1 hcomp => ?_) (fun hne => absurd rfl hne)
    exact (hl h h1 (by rw [hs1, hn]) s1 ro ds1 hro1).mono hcomp
  · rename_i x hx
    refine wpIn_mono (hc h h1 hn s ro ds hro) fun e a1 w1 k => then_sim hro k (fun hnm => ?_) (fun _ => ⟨rfl, rfl⟩)
    subst hnm
    exact absurd h (by intro h3; exact hx _ h3)

theorem scope_step (hc : CodeSim P r) (hs : ScopeSim P r) {v cur : VC} {o : Out} (h : codeF (.inScope v cur) r st = some (o, st')) {body c : Code} {n : Nat} (h1 : Mt P n v body) (h2 : Mt P n cur c) (hn : t.size = n)
    (s : S P g w st t O) (ro : Option Nat) (ds : List Deferred) (hro : RoOK w ro) : ScopeW ro P body c (CodePost P g w t O ds ro o st') ⟨t, ds⟩ w := by
  simp only [codeF, vcInScope] at h
  refine scopeW_step ?_
  split at h
  · rename_i l st1 ha
    refine wpIn_mono (hc ha h2 hn s ro ds hro) fun e a1 w1 k => ?_
    have k0 := k
    obtain ⟨rfl, g1, O1, ms, G, hd, hm, hr⟩ := k
    have hf := findL_rel h1 l
    simp only [exitOf, Exit.scope]
    split at h
    · rename_i rest hrest
      rw [hrest] at hf
      obtain ⟨y, hy, hmy⟩ := hf
      rw [hy]
      obtain ⟨t1, d1⟩ := a1
      simp only at hd
      subst hd
      exact (hs h h1 hmy (by rw [G.size, hn]) G.st ro _ (hro.ext G.ext)).mono fun e a2 w2 k => CodePost.comp G hm hr k
    · rename_i hnone
      rw [hnone] at hf
      rw [hf]
      simp only [Option.some.injEq, Prod.mk.injEq] at h
      obtain ⟨rfl, rfl⟩ := h
      exact k0
  · rename_i x hx
    refine wpIn_mono (hc h h2 hn s ro ds hro) fun e a1 w1 k => ?_
    have hne : ∀ l, o ≠ .goto l := by rintro l rfl; exact absurd h (by intro h3; exact hx _ _ h3)
    obtain ⟨rfl, _⟩ := id k
    cases o <;> first | exact k | exact absurd rfl (hne _)

theorem ghosts_ops {r : Rec} : ∀ {ops : List VI} {st st' : St}, ops.all isGhost = true → opsF r ops st = some st' → ∀ {g : Gh} {w : World} {t : Array Value} {O : Nat → Nat}, S P g w st t O → ∃ g' O', Goes P g w t O st' t w g' O'
  | [], st, st', _, h, g, w, t, O, s => by
    simp only [opsF, Option.some.injEq] at h; subst h
    exact ⟨g, O, Goes.refl s⟩
  | i :: l, st, st', ha, h, g, w, t, O, s => by
    simp only [List.all_cons, Bool.and_eq_true] at ha
    simp only [opsF] at h
    split at h
    · rename_i st1 hv
      obtain ⟨g1, O1, G1⟩ := ghost_sim s ha.1 hv
      obtain ⟨g2, O2, G2⟩ := ghosts_ops ha.2 h G1.st
      exact ⟨g2, O2, G1.trans G2⟩
    · simp at h
theorem ghost_step {v : VC} {o : Out} (hv : ghosts v = true) (h : codeF v r st = some (o, st')) : o = .normal ∧ ∀ {g : Gh} {w : World} {t : Array Value} {O : Nat → Nat}, S P g w st t O → ∃ g' O', Goes P g w t O st' t w g' O' := by
  cases v <;> simp only [ghosts, Bool.false_eq_true] at hv
  simp only [codeF, vcReg] at h
  split at h
  · rename_i st1 hst
    simp only [Option.some.injEq, Prod.mk.injEq] at h
    obtain ⟨rfl, rfl⟩ := h
    exact ⟨rfl, fun s => ghosts_ops hv hst s⟩
  · simp at h
end
end Go.Vm

/-
  THE INTERPRETER IS SOUND (2): by induction on the fuel.
-/
namespace Go.Vm
section
variable {P : Program}

theorem call_step {T : Nat → Option VFunc} (hT : TabOK P T) {r : Rec} (hc : CodeSim P r) (hl : LoopSim P r) (hs : ScopeSim P r) (hgh : GhostSim P r) (hr : CallSim P r) {f : FuncId} {args : List AV} {hs0 : HS} {v : AV} {hs' : HS}
    (h : callF T r f args hs0 = some (v, hs')) : HasFn P f ∧ ∀ {g : Gh} {w : World} {xs : List Value} {Oa Oh : Nat → Nat}, RVs g w args xs Oa → S P g w ⟨[], hs0⟩ #[] Oh → (∀ b, Oa b + Oh b ≤ 1) → (∀ b, Oa b ≠ 0 → b < w.heap.size) →
      CallsIn (FR none) 0 P f xs.toArray w (CallPost P g w (fun b => Oa b + Oh b) v hs') := by
  unfold callF at h
  split at h
  · simp at h
  · rename_i vf hvf
    obtain ⟨fn, c, h1, h2, h3, h4, h5, h6⟩ := hT f vf hvf
    refine ⟨⟨fn, h1, by simp [h2], h3⟩, fun {g w xs Oa Oh} rv sh hle hhi => ?_⟩
    split at h
    · simp at h
    · rename_i hlen
      rw [Nat.beq_eq] at hlen
      have hxl := rv.length
      have hfin : ∀ {o : Out} {st1 : St}, (o = .normal ∨ o = .ret) → codeF vf.body r ⟨mkEnv 0 args, hs0⟩ = some (o, st1) → endF vf st1 = some (v, hs') → CallsIn (FR none) 0 P f xs.toArray w (CallPost P g w (fun b => Oa b + Oh b) v hs') := by
        intro o st1 ho hcode hend
        refine callsIn_of_wp_marks (F := FR none) h1 h2 trivial ?_
        have s := enter_S rv sh hle hhi (fn.ntmps - xs.toArray.size)
        have hsz : (xs.toArray ++ Array.replicate (fn.ntmps - xs.toArray.size) undef).size = fn.ntmps := by simp; omega
        have hwp : c.wpIn (FR none) 0 P (CodePost P g w (xs.toArray ++ Array.replicate (fn.ntmps - xs.toArray.size) undef) (fun b => Oa b + Oh b) [] none o st1) ⟨xs.toArray ++ Array.replicate (fn.ntmps - xs.toArray.size) undef, []⟩ w := by
          rcases h6 with hm | ⟨m, hb, hcl, h8⟩
          · exact code_step hc hl hs hgh hr hcode hm hsz s none [] (fun l hl => by simp at hl)
          · rw [hb] at hcode
            exact code_clone hcl hcode (by rw [hsz]; exact h8) s
        refine wpIn_mono hwp fun e a' w' k => ?_
        obtain ⟨rfl, g', O', ms, G, hd, hm, _⟩ := k
        rw [List.append_nil] at hd
        have key : LeavesInM (FR none) 0 P fn a'.tmps (CallPost P g w (fun b => Oa b + Oh b) v hs') a'.defers .returning w' := by
          rw [hd]
          refine leaves_sim hm G.st fun w2 s2 hx2 => ?_
          obtain ⟨x, Ov, Oh2, hrun, rx, sh2, l2⟩ := endF_rel h5 hend s2
          refine ⟨x, hrun, g', Ov, Oh2, rx, sh2, G.ext.trans hx2 (fun b hb hq => absurd hq (by omega)), fun b => by have := l2 b; have := s2.le b; omega, fun b hb => ?_, fun b hb => s2.hi b (by have := l2 b; omega)⟩
          have := l2 b; have := G.old b hb
          show Ov b + Oh2 b ≤ Oa b + Oh b
          have h9 : O' b ≤ Oa b + Oh b := G.old b hb
          omega
        rcases ho with rfl | rfl
        · exact key
        · exact key
      split at h
      · rename_i st1 hcode; exact hfin (.inl rfl) hcode h
      · rename_i st1 hcode; exact hfin (.inr rfl) hcode h
      · simp at h

theorem sims {T : Nat → Option VFunc} (hT : TabOK P T) : ∀ n, CodeSim P (run T n) ∧ LoopSim P (run T n) ∧ ScopeSim P (run T n) ∧ GhostSim P (run T n) ∧ CallSim P (run T n)
  | 0 => ⟨fun h => by simp [run] at h, fun h => by simp [run] at h, fun h => by simp [run] at h, fun _ h => by simp [run] at h, fun h => by simp [run] at h⟩
  | n + 1 => by
    obtain ⟨hc, hl, hs, hgh, hr⟩ := sims hT n
    refine ⟨fun {v st o st'} h {c m} hm {g w t O} hn s ro ds hro => ?_, fun {v st o st'} h {c m} hm {g w t O} hn s ro ds hro => ?_, fun {v cur st o st'} h {body c m} h1 h2 {g w t O} hn s ro ds hro => ?_, fun {v st o st'} hv h => ?_, fun {f args hs0 v hs'} h => ?_⟩
    · exact code_step hc hl hs hgh hr h hm hn s ro ds hro
    · exact loop_step hc hl h hm hn s ro ds hro
    · exact scope_step hc hs h h1 h2 hn s ro ds hro
    · exact ghost_step hv h
    · exact call_step hT hc hl hs hgh hr h

/-- A call of the model's, on plain data: what the interpreter answers is what is returned, on every tape; memory that was there stays. -/
theorem calls_sound {T : Nat → Option VFunc} (hT : TabOK P T) {n : Nat} {f : FuncId} {args : List AV} {v : AV} {hs' : HS} (h : (run T n).call f args ⟨[], 0⟩ = some (v, hs')) {g : Gh} {w : World} {xs : List Value}
    (hobj : ∀ id, g.obj id = none) (hpm : ∀ b o, g.pm b o → b < w.heap.size) (rv : RVs g w args xs zero) :
    Calls P f xs.toArray w (CallPost P g w zero v hs') := by
  obtain ⟨_, _, _, _, hr⟩ := sims hT n
  obtain ⟨_, hk⟩ := hr h
  have sh : S P g w ⟨[], ⟨[], 0⟩⟩ #[] zero := ⟨List.Pairwise.nil, List.Pairwise.nil, ⟨zero, zero, fun _ => rfl, fun _ => rfl, fun _ => rfl⟩, fun _ => by simp, fun b hb => by simp at hb, fun id _ => hobj id, hpm⟩
  have := hk rv sh (fun b => by simp) (fun b hb => by simp at hb)
  exact this.calls fun _ => room_FR _ _
end
#print axioms calls_sound
end Go.Vm

/-
  ARGUMENTS (1): what is read of an argument, as the interpreter's data.
-/
namespace Go.Vm

/-- Types, as the interpreter's data knows them. -/
inductive Ty where
  | int (k : IntKind)
  | bool
  | str
  | lst (es : List Ty)
mutual
def OkD : Ty → D → Prop
  | .int k, .int j n => j = k ∧ (Lit.int k n).wf = true
  | .bool, .bool _ => True
  | .str, .str _ => True
  | .lst es, .lst xs => ∀ x ∈ xs, OkDs es x
  | _, _ => False
def OkDs : List Ty → List D → Prop
  | [], [] => True
  | t :: ts, d :: ds => OkD t d ∧ OkDs ts ds
  | _, _ => False
end
def tyFs (P : Program) (f : TypeId → Option (List Ty)) : List Field → Nat → Option (List Ty)
  | [], _ => some []
  | fd :: r, off => match Nat.beq fd.offset off, f fd.type with
    | true, some ts => match Nat.beq (P.cellsOf fd.type) ts.length, tyFs P f r (off + ts.length) with
      | true, some us => some (ts ++ us)
      | _, _ => none
    | _, _ => none
def tyCells (P : Program) : Nat → TypeId → Option (List Ty)
  | 0, _ => none
  | n + 1, t => match P.underlying t with
    | some .bool => some [.bool]
    | some (.int k) => some [.int k]
    | some .string => some [.str]
    | some (.slice e) => match tyCells P n e with
      | some (x :: xs) => match Nat.beq (P.cellsOf e) (x :: xs).length with
        | true => some [.lst (x :: xs)]
        | false => none
      | _ => none
    | some (.struct fs) => match tyFs P (tyCells P n) fs.toList 0 with
      | some ts => match Nat.beq (P.cellsOf t) ts.length with
        | true => some ts
        | false => none
      | none => none
    | _ => none

mutual
def cellsD {H : Type} : DataW H → List D
  | .lit (.int k n) => [.int k n]
  | .lit (.bool b) => [.bool b]
  | .lit (.string s) => [.str s]
  | .nil => [.lst []]
  | .slice es _ => [.lst (cellsEs es)]
  | .agg ps => cellsPs ps
  | _ => []
def cellsEs {H : Type} : List (DataW H) → List (List D)
  | [] => []
  | d :: r => cellsD d :: cellsEs r
def cellsPs {H : Type} : List (DataW H) → List D
  | [] => []
  | d :: r => cellsD d ++ cellsPs r
end

theorem OkDs.len : ∀ {ts : List Ty} {ds : List D}, OkDs ts ds → ds.length = ts.length
  | [], [], _ => rfl
  | t :: ts, d :: ds, h => by simp only [OkDs] at h; simp [OkDs.len h.2]
  | [], _ :: _, h => by simp [OkDs] at h
  | _ :: _, [], h => by simp [OkDs] at h
theorem OkDs.append : ∀ {ts us : List Ty} {ds es : List D}, OkDs ts ds → OkDs us es → OkDs (ts ++ us) (ds ++ es)
  | [], us, [], es, _, h => h
  | t :: ts, us, d :: ds, es, h, h2 => by
    simp only [OkDs, List.cons_append] at h ⊢
    exact ⟨h.1, h.2.append h2⟩
  | [], _, _ :: _, _, h, _ => by simp [OkDs] at h
  | _ :: _, _, [], _, h, _ => by simp [OkDs] at h

theorem mapM_get {α β : Type} {f : α → Option β} : ∀ {l : List α} {ys : List β}, l.mapM f = some ys → ys.length = l.length ∧ ∀ (i : Nat) (x : α), l[i]? = some x → ∃ y, ys[i]? = some y ∧ f x = some y
  | [], ys, h => by simp at h; subst h; exact ⟨rfl, fun i x h => by simp at h⟩
  | a :: l, ys, h => by
    simp only [List.mapM_cons, Option.bind_eq_bind, Option.pure_def] at h
    cases ha : f a with
    | none => simp [ha] at h
    | some b =>
      cases hl : l.mapM f with
      | none => simp [ha, hl] at h
      | some bs =>
        simp [ha, hl] at h
        subst h
        obtain ⟨h1, h2⟩ := mapM_get hl
        refine ⟨by simp [h1], fun i x hi => ?_⟩
        cases i with
        | zero => simp at hi; subst hi; exact ⟨b, rfl, ha⟩
        | succ i => simpa using h2 i x (by simpa using hi)

theorem cellsEs_map {H : Type} (ds : List (DataW H)) : cellsEs ds = ds.map cellsD := by
  induction ds with
  | nil => rfl
  | cons d ds ih => simp [cellsEs, ih]
theorem cellsPs_map {H : Type} (ds : List (DataW H)) : cellsPs ds = ds.flatMap cellsD := by
  induction ds with
  | nil => rfl
  | cons d ds ih => simp [cellsPs, ih]
theorem flatten_split {xs : List (List D)} {m : Nat} (h : ∀ e ∈ xs, e.length = m) {j : Nat} {c : D} (hj : xs.flatten[j]? = some c) : ∃ i k e, j = i * m + k ∧ k < m ∧ xs[i]? = some e ∧ e[k]? = some c := by
  induction xs generalizing j with
  | nil => simp at hj
  | cons x xs ih =>
    have hx := h x (.head _)
    rw [List.flatten_cons] at hj
    rcases Nat.lt_or_ge j x.length with hlt | hge
    · rw [List.getElem?_append_left hlt] at hj
      exact ⟨0, j, x, by simp, by omega, rfl, hj⟩
    · rw [List.getElem?_append_right hge] at hj
      obtain ⟨i, k, e, h1, h2, h3, h4⟩ := ih (fun e he => h e (.tail _ he)) hj
      exact ⟨i + 1, k, e, by rw [Nat.succ_mul]; omega, h2, by simpa using h3, h4⟩

section
variable {H : Type} {enc : TypeId × Value → H} {P : Program} {W : World} {sp : Nat → Bool} {held : Bool}

/-- All of memory stays. -/
abbrev pmAll (W : World) : Nat → Nat → Prop := fun b _ => b < W.heap.size
theorem cell_lt {a : Addr} {v : Value} (h : W.cell? a = some v) : a.block < W.heap.size ∧ a.spot = none := by
  unfold World.cell? at h
  split at h
  · rename_i c t fr hb
    split at h
    · simp at h
    · rename_i hs
      exact ⟨block_lt hb, by cases hsp : a.spot <;> simp_all⟩
  · simp at h

theorem trod_fields {f : TypeId → Option (List Ty)} {g : TypeId → List Value → Option (DataW H × List MemPlace)}
    (ih : ∀ t ts cs x, f t = some ts → g t cs = some x → OkDs ts (cellsD x.1) ∧ cs.length = (cellsD x.1).length ∧ ∀ (j : Nat) (c : D), (cellsD x.1)[j]? = some c → ∃ u, cs[j]? = some u ∧ RD W (pmAll W) c u) :
    ∀ {fs : List Field} {off : Nat} {ts : List Ty} {cs : List Value} {xs : List (DataW H × List MemPlace)}, tyFs P f fs off = some ts → off + ts.length ≤ cs.length →
      fs.mapM (fun fd => g fd.type ((cs.drop fd.offset).take (P.cellsOf fd.type))) = some xs →
      OkDs ts (cellsPs (xs.map (·.1))) ∧ ∀ (j : Nat) (c : D), (cellsPs (xs.map (·.1)))[j]? = some c → ∃ u, cs[off + j]? = some u ∧ RD W (pmAll W) c u
  | [], off, ts, cs, xs, h, hb, hm => by
    simp only [tyFs, Option.some.injEq] at h; subst h
    simp at hm; subst hm
    exact ⟨by simp [cellsPs, OkDs], fun j c hj => by simp [cellsPs] at hj⟩
  | fd :: fs, off, ts, cs, xs, h, hb, hm => by
    simp only [tyFs] at h
    split at h
    · rename_i ts1 ho h1
      rw [Nat.beq_eq] at ho
      split at h
      · rename_i us hc h2
        rw [Nat.beq_eq] at hc
        simp only [Option.some.injEq] at h; subst h
        simp only [List.length_append] at hb
        simp only [List.mapM_cons, Option.bind_eq_bind, Option.pure_def] at hm
        cases hg : g fd.type ((cs.drop fd.offset).take (P.cellsOf fd.type)) with
        | none => simp [hg] at hm
        | some x =>
          cases hr : fs.mapM (fun fd => g fd.type ((cs.drop fd.offset).take (P.cellsOf fd.type))) with
          | none => simp [hg, hr] at hm
          | some ys =>
            simp [hg, hr] at hm
            subst hm
            obtain ⟨k1, k2, k3⟩ := ih _ _ _ _ h1 hg
            have hl1 := k1.len
            obtain ⟨q1, q2⟩ := trod_fields ih h2 (by omega) hr
            refine ⟨by simp only [List.map_cons, cellsPs]; exact k1.append q1, fun j c hj => ?_⟩
            simp only [List.map_cons, cellsPs] at hj
            rcases Nat.lt_or_ge j (cellsD x.1).length with hlt | hge
            · rw [List.getElem?_append_left hlt] at hj
              obtain ⟨u, hu, hrd⟩ := k3 j c hj
              rw [List.getElem?_take] at hu
              split at hu
              · rw [List.getElem?_drop, ho] at hu; exact ⟨u, hu, hrd⟩
              · simp at hu
            · rw [List.getElem?_append_right hge] at hj
              obtain ⟨u, hu, hrd⟩ := q2 _ c hj
              exact ⟨u, by rw [← hu]; congr 1; omega, hrd⟩
      · simp at h
    · simp at h

theorem trod_rel : ∀ (fuel n : Nat) (t : TypeId) (ts : List Ty) (cs : List Value) (x : DataW H × List MemPlace), tyCells P n t = some ts → DataW.trod enc P W 0 sp held fuel t cs = some x →
    OkDs ts (cellsD x.1) ∧ cs.length = (cellsD x.1).length ∧ ∀ (j : Nat) (c : D), (cellsD x.1)[j]? = some c → ∃ u, cs[j]? = some u ∧ RD W (pmAll W) c u
  | 0, _, _, _, _, _, _, h => by simp [DataW.trod] at h
  | _ + 1, 0, _, _, _, _, h, _ => by simp [tyCells] at h
  | fuel + 1, n + 1, t, ts, cs, x, hty, h => by
    have one : ∀ {d : D} {v : Value}, OkDs ts [d] → RD W (pmAll W) d v → cellsD x.1 = [d] → cs = [v] → OkDs ts (cellsD x.1) ∧ cs.length = (cellsD x.1).length ∧ ∀ (j : Nat) (c : D), (cellsD x.1)[j]? = some c → ∃ u, cs[j]? = some u ∧ RD W (pmAll W) c u := by
      intro d v h1 h2 h3 h4
      rw [h3, h4]
      refine ⟨h1, rfl, fun j c hj => ?_⟩
      cases j with
      | zero => simp at hj; subst hj; exact ⟨v, rfl, h2⟩
      | succ j => simp at hj
    simp only [tyCells] at hty
    unfold DataW.trod at h
    cases hu : P.underlying t with
    | none => simp [hu] at hty
    | some d =>
      rw [hu] at hty h
      cases d <;> simp only [reduceCtorEq] at hty
      case bool =>
        simp only [Option.some.injEq] at hty; subst hty
        match cs, h with
        | [.bool b], h =>
          simp only [Option.some.injEq] at h; subst h
          exact one (d := .bool b) (by simp [OkDs, OkD]) (.bool _) rfl rfl
      case int k =>
        simp only [Option.some.injEq] at hty; subst hty
        match cs, h with
        | [.int k' m], h =>
          simp only at h
          split at h
          · rename_i hk
            obtain ⟨rfl, hwf⟩ := hk
            simp only [Option.some.injEq] at h; subst h
            exact one (d := .int k' m) (by simp only [OkDs, OkD]; exact ⟨⟨trivial, hwf⟩, trivial⟩) (.int _ _) rfl rfl
          · simp at h
      case string =>
        simp only [Option.some.injEq] at hty; subst hty
        match cs, h with
        | [.string s], h =>
          simp only at h
          split at h
          · simp only [Option.some.injEq] at h; subst h
            refine one (d := .str s.data.toList) (by simp [OkDs, OkD]) ?_ rfl rfl
            have := RD.str (w := W) (pm := pmAll W) s.data.toList
            simpa using this
          · simp at h
      case slice e =>
        split at hty
        · rename_i y ys hte
          split at hty
          · rename_i hce
            rw [Nat.beq_eq] at hce
            simp only [Option.some.injEq] at hty; subst hty
            match cs, h with
            | [.slice none 0 0], h =>
              simp only [Option.some.injEq] at h; subst h
              exact one (d := .lst []) (by simp [OkDs, OkD]) (.nil _ _) rfl rfl
            | [.slice (some a) len cap], h =>
              simp only at h
              split at h
              · rename_i hb
                obtain ⟨_, hlc, _⟩ := hb
                simp only [Option.bind_eq_some_iff, Option.map_eq_some_iff] at h
                obtain ⟨elems, hel, rest, _, rfl⟩ := h
                obtain ⟨hlen, hget⟩ := mapM_get hel
                simp only [List.length_range] at hlen
                -- one element
                have helem : ∀ i, i < len → ∃ z, elems[i]? = some z ∧ ∃ cs', W.cells? 0 (a.add (i * P.cellsOf e)) (P.cellsOf e) = some cs' ∧ OkDs (y :: ys) (cellsD z.1) ∧ cs'.length = (cellsD z.1).length ∧
                    ∀ (j : Nat) (c : D), (cellsD z.1)[j]? = some c → ∃ u, cs'[j]? = some u ∧ RD W (pmAll W) c u := by
                  intro i hi
                  obtain ⟨z, hz, hf⟩ := hget i i (by simp [hi])
                  simp only [Option.bind_eq_some_iff] at hf
                  obtain ⟨cs', hcs, htr⟩ := hf
                  exact ⟨z, hz, cs', hcs, trod_rel fuel n e (y :: ys) cs' z hte htr⟩
                have hmem : ∀ d ∈ elems.map (·.1), OkDs (y :: ys) (cellsD d) := by
                  intro d hd
                  obtain ⟨z, hz, rfl⟩ := List.mem_map.1 hd
                  obtain ⟨i, hi, rfl⟩ := List.mem_iff_getElem.1 hz
                  obtain ⟨z', hz', _, _, hok, _⟩ := helem i (by omega)
                  rw [List.getElem?_eq_getElem hi] at hz'
                  simp only [Option.some.injEq] at hz'
                  rw [hz']; exact hok
                have hes : cellsEs (elems.map (·.1)) = elems.map fun z => cellsD z.1 := by rw [cellsEs_map, List.map_map]; rfl
                have hlm : ∀ e' ∈ cellsEs (elems.map (·.1)), e'.length = (y :: ys).length := by
                  rw [cellsEs_map]
                  intro e' he'
                  obtain ⟨d, hd, rfl⟩ := List.mem_map.1 he'
                  exact (hmem d hd).len
                refine one (d := .lst (cellsEs (elems.map (·.1)))) ?_ ?_ rfl rfl
                · simp only [OkDs, OkD, and_true]
                  rw [cellsEs_map]
                  intro e' he'
                  obtain ⟨d, hd, rfl⟩ := List.mem_map.1 he'
                  exact hmem d hd
                · by_cases h0 : len = 0
                  · subst h0
                    have : elems = [] := List.eq_nil_of_length_eq_zero hlen
                    subst this
                    exact .nil _ _
                  · obtain ⟨ab, aoff, asp⟩ := a
                    have hm0 : 0 < (y :: ys).length := by simp
                    -- every cell of an element
                    have hcell : ∀ i k, i < len → k < (y :: ys).length → ∃ z c u, elems[i]? = some z ∧ (cellsD z.1)[k]? = some c ∧ W.cell? ((Addr.add ⟨ab, aoff, asp⟩ (i * P.cellsOf e)).add k) = some u ∧ RD W (pmAll W) c u := by
                      intro i k hi hk
                      obtain ⟨z, hz, cs', hcs, hok, hl2, hrd⟩ := helem i hi
                      have hkl : k < (cellsD z.1).length := by rw [hok.len]; exact hk
                      obtain ⟨u, hu, hr⟩ := hrd k _ (List.getElem?_eq_getElem hkl)
                      unfold World.cells? at hcs
                      rw [if_pos (Nat.zero_le _)] at hcs
                      obtain ⟨hcl, hcg⟩ := mapM_get hcs
                      obtain ⟨v, hv, hw⟩ := hcg k k (by rw [List.getElem?_range (by rw [hce]; exact hk)])
                      rw [hu] at hv
                      simp only [Option.some.injEq] at hv
                      subst hv
                      exact ⟨z, _, u, hz, List.getElem?_eq_getElem hkl, hw, hr⟩
                    obtain ⟨_, _, u0, _, _, hu0, _⟩ := hcell 0 0 (by omega) hm0
                    have hasp : asp = none := by
                      have := (cell_lt hu0).2
                      simpa [Addr.add] using this
                    subst hasp
                    have hll : (cellsEs (elems.map (·.1))).length = len := by rw [hes]; simp [hlen]
                    have := RCs.rd (w := W) (pm := pmAll W) (xs := cellsEs (elems.map (·.1))) (b := ab) (off := aoff) (cap := cap) hm0 (by omega) hlm (fun j c hj => ?_) (fun j _ => (cell_lt hu0).1 |> fun h => by simpa [Addr.add] using h)
                    · rw [hll] at this; exact this
                    · obtain ⟨i, k, e', rfl, hk, hi, hck⟩ := flatten_split hlm hj
                      have hil : i < len := by have := lt_of_get hi; omega
                      obtain ⟨z, c', u, hz, hc', hcell', hr⟩ := hcell i k hil hk
                      rw [hes, List.getElem?_map, hz] at hi
                      simp only [Option.map_some, Option.some.injEq] at hi
                      subst hi
                      rw [hc'] at hck
                      simp only [Option.some.injEq] at hck
                      subst hck
                      rw [addr_add, addr_add, hce] at hcell'
                      exact ⟨u, by rw [← hcell']; congr 2; omega, hr⟩
              · simp at h
          · simp at hty
        · simp at hty
      case struct fs =>
        split at hty
        · rename_i us hfs
          split at hty
          · rename_i hcl
            rw [Nat.beq_eq] at hcl
            simp only [Option.some.injEq] at hty; subst hty
            have h' : (if cs.length = P.cellsOf t then (fs.toList.mapM fun f => DataW.trod enc P W 0 sp held fuel f.type ((cs.drop f.offset).take (P.cellsOf f.type))).map fun xs => ((.agg (xs.map (·.1)) : DataW H), xs.flatMap (·.2)) else none) = some x := by
              cases cs with
              | nil => exact h
              | cons v r => cases r <;> (try cases v) <;> exact h
            split at h'
            · rename_i hlen
              simp only [Option.map_eq_some_iff] at h'
              obtain ⟨xs, hxs, rfl⟩ := h'
              obtain ⟨q1, q2⟩ := trod_fields (P := P) (f := tyCells P n) (g := DataW.trod enc P W 0 sp held fuel) (fun t ts cs x h1 h2 => trod_rel fuel n t ts cs x h1 h2) (cs := cs) hfs (by omega) hxs
              refine ⟨q1, ?_, fun j c hj => ?_⟩
              · have := q1.len
                simp only [cellsD]; omega
              · obtain ⟨u, hu, hr⟩ := q2 j c hj
                exact ⟨u, by rw [← hu, Nat.zero_add], hr⟩
            · simp at h'
          · simp at hty
        · simp at hty
end
end Go.Vm

/-
  ARGUMENTS (2): a law's contract out of what the interpreter answers.
-/
namespace Go.Vm
open Go.ChangeShapes Go.WideShapes Go.ChangeAt Go.RowKit

def argTys (P : Program) (n : Nat) : List TypeId → Option (List (Bool × List Ty))
  | [] => some []
  | t :: ts => match tyCells P n t, argTys P n ts with
    | some tys, some r => some ((tyAgg P t, tys) :: r)
    | _, _ => none
def argAV (agg : Bool) (cs : List D) : AV :=
  match agg with
  | true => .agg (cs.map .d)
  | false => match cs with
    | [c] => .d c
    | _ => .junk
def argsAV {H : Type} : List (Bool × List Ty) → List (DataW H) → List AV
  | (b, _) :: ts, d :: ds => argAV b (cellsD d) :: argsAV ts ds
  | _, _ => []
def OkArgs {H : Type} : List (Bool × List Ty) → List (DataW H) → Prop
  | [], [] => True
  | (_, tys) :: ts, d :: ds => OkDs tys (cellsD d) ∧ OkArgs ts ds
  | _, _ => False
/-- The bookkeeping ahead of a call: all of memory stays. -/
def Gh.all (W : World) : Gh where
  obj _ := none
  base _ := 0
  esz _ := 0
  bsz _ := 0
  pm := pmAll W

section
variable {H : Type} {enc : TypeId × Value → H} {P : Program} {W : World} {sp : Nat → Bool}

theorem list_ext_len {α : Type} {a b : List α} (h : a.length = b.length) (hg : ∀ (j : Nat) (x : α), b[j]? = some x → a[j]? = some x) : a = b := by
  apply List.ext_getElem?
  intro j
  rcases Nat.lt_or_ge j b.length with hj | hj
  · rw [List.getElem?_eq_getElem hj]; exact hg j _ (List.getElem?_eq_getElem hj)
  · rw [List.getElem?_eq_none hj, List.getElem?_eq_none (by omega)]

theorem args_rel {n : Nat} {base : Nat} : ∀ {ts : List TypeId} {vs : List Value} {ds : List (DataW H)} {ps : List MemPlace} {tys : List (Bool × List Ty)}, DataW.TrodAll enc P W 0 sp true ts vs ds ps → argTys P n ts = some tys →
    (∀ (j : Nat) t v, ts[j]? = some t → vs[j]? = some v → Value.okWide P W .any base t v) → RVs (Gh.all W) W (argsAV tys ds) vs zero ∧ OkArgs tys ds
  | [], [], [], _, tys, _, h, _ => by
    simp only [argTys, Option.some.injEq] at h; subst h
    simp [argsAV, RVs, OkArgs]
  | t :: ts, v :: vs, d :: ds, ps, tys, hA, h, hok => by
    obtain ⟨p, q, ⟨fuel, htr⟩, hrest, rfl⟩ := hA
    simp only [argTys] at h
    split at h
    · rename_i ty r h1 h2
      simp only [Option.some.injEq] at h; subst h
      obtain ⟨k1, k2, k3⟩ := trod_rel fuel n t ty v.cells.toList (d, p) h1 htr
      obtain ⟨q1, q2⟩ := args_rel hrest h2 fun j t v h1 h2 => hok (j + 1) t v (by simpa using h1) (by simpa using h2)
      refine ⟨?_, k1, q2⟩
      have hv := hok 0 t v rfl rfl
      have hrv : RV (Gh.all W) W (argAV (tyAgg P t) (cellsD d)) v zero := by
        unfold Value.okWide at hv
        cases ha : tyAgg P t with
        | true =>
          have hagg : ∃ cs, v = .agg cs := by
            unfold tyAgg at ha
            split at ha
            · rename_i hu; rw [hu] at hv; obtain ⟨cs, e, _⟩ := hv; exact ⟨cs, e⟩
            · rename_i hu; rw [hu] at hv; obtain ⟨cs, e, _⟩ := hv; exact ⟨cs, e⟩
            · simp at ha
          obtain ⟨cs, rfl⟩ := hagg
          simp only [argAV, RV]
          refine ⟨cs, rfl, RVs.ds (g := Gh.all W) rfl (by have := k2; simpa [Value.cells] using this) fun j c x hc hx => ?_⟩
          obtain ⟨u, hu, hr⟩ := k3 j c hc
          have : u = x := by
            have hu' : cs.toList[j]? = some u := by simpa [Value.cells] using hu
            rw [hu'] at hx; simpa using hx
          rw [← this]; exact hr
        | false =>
          have hone : v.cells = #[v] := by
            have : Cell.okWide P W .any base t v := by
              unfold tyAgg at ha
              split at ha
              · simp at ha
              · simp at ha
              · rename_i h1 h2
                split at hv
                · rename_i fs hu; exact absurd hu (h1 fs)
                · rename_i k e hu; exact absurd hu (h2 k e)
                · exact hv
            cases v <;> first | rfl | (exfalso; unfold Cell.okWide at this; split at this <;> simp_all [Cell.ok])
          rw [hone] at k2 k3
          simp only [List.length_cons, List.length_nil] at k2
          match hcd : cellsD d, k2 with
          | [c], _ =>
            obtain ⟨u, hu, hr⟩ := k3 0 c (by rw [hcd]; rfl)
            simp at hu; subst hu
            simp only [argAV, RV]
            exact ⟨hr, fun _ => trivial⟩
      simp only [argsAV, RVs]
      exact ⟨v, vs, zero, zero, rfl, hrv, q1, fun _ => rfl⟩
    · simp at h
  | [], _ :: _, _, _, _, hA, _, _ => hA.elim
  | [], [], _ :: _, _, _, hA, _, _ => hA.elim
  | _ :: _, [], _, _, _, hA, _, _ => hA.elim
  | _ :: _, _ :: _, [], _, _, hA, _, _ => hA.elim

theorem args_stay {W' : World} (hl : laidOutB P = true) (hblk : ∀ b, b < W.heap.size → W'.heap[b]? = W.heap[b]?) {sp' : Nat → Bool} : ∀ {ts : List TypeId} {vs : List Value} {ds : List (DataW H)} {ps : List MemPlace},
    (∀ t ∈ ts, P.readableRec t = true ∧ t < P.types.size) → DataW.TrodAll enc P W 0 (fun _ => true) true ts vs ds ps → (∀ p ∈ ps, sp' p.block = true) → DataW.TrodAll enc P W' 0 sp' true ts vs ds ps
  | [], [], [], _, _, h, _ => h
  | t :: ts, v :: vs, d :: ds, ps, hr, h, hs => by
    have hlt := h.lt
    obtain ⟨p, q, ⟨fuel, htr⟩, hrest, rfl⟩ := h
    obtain ⟨h1, h2⟩ := hr t (.head _)
    refine ⟨p, q, ⟨fuel, DataW.trod_stays (kids_book hl h1) (book_sized h1) (fun h => by cases h) ⟨h2, book_self t⟩ htr (fun x hx => ?_) (fun x hx => hs x (List.mem_append_left _ hx))⟩,
      args_stay hl hblk (fun t ht => hr t (.tail _ ht)) hrest (fun x hx => hs x (List.mem_append_right _ hx)), rfl⟩
    have hxl := hlt x (List.mem_append_left _ hx)
    cases x with
    | cell b o => exact cell?_of_block (hblk b hxl) o
    | map b => exact hblk b hxl
  | [], _ :: _, _, _, _, h, _ => h.elim
  | [], [], _ :: _, _, _, h, _ => h.elim
  | _ :: _, [], _, _, _, h, _ => h.elim
  | _ :: _, _ :: _, [], _, _, h, _ => h.elim

/-- What a law's contract asks, out of the interpreter's answer. -/
theorem law_contract {T : Nat → Option VFunc} (hT : TabOK P T) {fn : Func} {f : FuncId} {s : ChangeSpec} (hl : laidOutB P = true) (hrec : ∀ t ∈ fn.params.toList, P.readableRec t = true ∧ t < P.types.size)
    {n : Nat} {tys : List (Bool × List Ty)} (hty : argTys P n fn.params.toList = some tys) {tb : TypeId} (hres : fn.resultTypes = #[tb]) (htb : P.underlying tb = some .bool) (hvars : s.vars = []) {apart : Bool}
    {base : Nat} {args : Array Value} {ds gs : List (DataW H)} {before : List MemPlace} (hval : ∀ (j : Nat) t v, fn.params[j]? = some t → args[j]? = some v → Value.okWide P W .any base t v)
    (hW : DataW.Whole enc P fn.params.toList s.vars apart W args.toList ds gs before) (hfn : OkArgs tys ds → s.fn H ds = { results := [.lit (.bool true)], args := ds })
    (hrun : OkArgs tys ds → gs = [] → ∃ m hs', (run T m).call f (argsAV tys ds) ⟨[], 0⟩ = some (.d (.bool true), hs')) :
    Calls P f args W fun e W' => ∃ v, e = .returned v ∧ s.post enc P fn apart true false false W args v W' := by
  have hW' := hW
  obtain ⟨p, q, hA, hV, hpq, hfz, hnd⟩ := hW
  rw [hvars] at hV
  obtain ⟨rfl, rfl⟩ := trodVars_none hV
  obtain ⟨rv, hok⟩ := args_rel (n := n) (base := base) hA hty fun j t v h1 h2 => hval j t v (by rw [← Array.getElem?_toList]; exact h1) (by rw [← Array.getElem?_toList]; exact h2)
  obtain ⟨m, hs', hcall⟩ := hrun hok rfl
  have hc := calls_sound hT hcall (g := Gh.all W) (fun _ => rfl) (fun b o h => h) rv
  have hargs : args.toList.toArray = args := by simp
  rw [hargs] at hc
  refine hc.mono fun e W2 hp => ?_
  cases e with
  | panicked _ => exact hp.elim
  | outgrown => exact hp.elim
  | returned x =>
    obtain ⟨g', Or, Oh, r1, _, hx, _, _, _⟩ := hp
    have hxv := ev_bool r1 rfl
    subst hxv
    have hblk : ∀ b, b < W.heap.size → W2.heap[b]? = W.heap[b]? := fun b hb => (hx.blk b hb (by simp)).1
    have hsfn : s.fn H (ds ++ []) = { results := [.lit (.bool true)], args := ds } := by rw [List.append_nil]; exact hfn hok
    refine ⟨_, rfl, post_of_same (pa := p) (pv := []) hW' (fun b sp hd => ?_) (fun sp hsp => ?_) (fun sp _ => ?_) (by rw [hpq]) ⟨hx.same.1, hx.same.2.1, fun i hi => ?_⟩ hx.same.2.2 ?_⟩
    · rw [hres, hsfn]
      exact trodAll_cons_mk (shut_bool htb _) trodAll_mk0
    · rw [hsfn]
      exact args_stay hl hblk hrec hA fun x hx => hsp x (by rw [hpq]; simpa using hx)
    · rw [hsfn, hvars]
      rfl
    · rw [hblk i hi]
      split <;> simp_all
    · exact ok_one hres rfl (okWide_bool_mk htb _)
end
end Go.Vm

/-
  TABLES OF FUNCTIONS: one test for a whole table.
-/
namespace Go.Vm

def chkAny (P : Program) (vf : VFunc) (f : FuncId) : Bool := chkFn P vf f || (match vf.body with
  | .clone m => chkCloneFn P m vf f
  | _ => false)
def T.every (p : Nat → VFunc → Bool) : T → Bool
  | .leaf => true
  | .node k v a b => p k v && a.every p && b.every p
theorem T.look_every {p : Nat → VFunc → Bool} : ∀ {t : T} {f : Nat} {vf : VFunc}, t.every p = true → t.look f = some vf → p f vf = true
  | .leaf, _, _, _, h => by simp [T.look] at h
  | .node k v a b, f, vf, he, h => by
    simp only [T.every, Bool.and_eq_true] at he
    simp only [T.look] at h
    split at h
    · rename_i hk
      rw [Nat.beq_eq] at hk
      simp only [Option.some.injEq] at h
      subst hk h
      exact he.1.1
    · split at h
      · exact T.look_every he.1.2 h
      · exact T.look_every he.2 h
theorem fnAll_of_chk {P : Program} {vf : VFunc} {f : FuncId} (h : chkAny P vf f = true) : FnAll P vf f := by
  simp only [chkAny, Bool.or_eq_true] at h
  rcases h with h | h
  · unfold chkFn at h
    split at h
    · rename_i fn h1
      split at h
      · rename_i c h2
        simp only [Bool.and_eq_true, Nat.ble_eq, bne_iff_ne, ne_eq] at h
        obtain ⟨⟨⟨k1, k2⟩, k3⟩, k4⟩ := h
        exact ⟨fn, c, h1, h2, k4, k2, k3, .inl (mt_of_chk _ _ k1)⟩
      · simp at h
    · simp at h
  · split at h
    · rename_i m hb
      unfold chkCloneFn at h
      split at h
      · rename_i fn h1
        split at h
        · rename_i c h2
          simp only [Bool.and_eq_true, Nat.ble_eq, Nat.beq_eq, bne_iff_ne, ne_eq] at h
          obtain ⟨⟨⟨⟨⟨⟨k1, k2⟩, k3⟩, k4⟩, k5⟩, k6⟩, k7⟩ := h
          exact ⟨fn, c, h1, h2, k7, by omega, k3, .inr ⟨m, hb, k6, k5⟩⟩
        · simp at h
      · simp at h
    · simp at h
theorem tabOK {P : Program} {t : T} (h : t.every (fun f v => chkAny P v f) = true) : TabOK P t.look := fun f vf hv => fnAll_of_chk (T.look_every (p := fun f v => chkAny P v f) h hv)
end Go.Vm

/-
  HOW THE INTERPRETER RUNS, without its fuel.
-/
namespace Go.Vm

def Ev (P : Nat → Option VFunc) (c : VC) (st : St) (o : Out) (st' : St) : Prop := ∃ N, ∀ n, (run P (N + n)).code c st = some (o, st')
def EvC (P : Nat → Option VFunc) (f : FuncId) (args : List AV) (hs : HS) (v : AV) (hs' : HS) : Prop := ∃ N, ∀ n, (run P (N + n)).call f args hs = some (v, hs')
/-- A call whose answer is plain. -/
def EvP (P : Nat → Option VFunc) (f : FuncId) (args : List AV) (v : AV) : Prop := ∃ hs', EvC P f args ⟨[], 0⟩ v hs'
def EvO (P : Nat → Option VFunc) (ops : List VI) (st st' : St) : Prop := ∃ N, ∀ n, opsF (run P (N + n)) ops st = some st'

variable {P : Nat → Option VFunc}
theorem run_code (n : Nat) (c : VC) (st : St) : (run P (n + 1)).code c st = codeF c (run P n) st := rfl
theorem run_call (n : Nat) (f : FuncId) (args : List AV) (hs : HS) : (run P (n + 1)).call f args hs = callF P (run P n) f args hs := rfl
theorem run_code' (n m : Nat) (c : VC) (st : St) : (run P (n + 1 + m)).code c st = codeF c (run P (n + m)) st := by
  rw [Nat.add_right_comm]; rfl
theorem run_call' (n m : Nat) (f : FuncId) (args : List AV) (hs : HS) : (run P (n + 1 + m)).call f args hs = callF P (run P (n + m)) f args hs := by
  rw [Nat.add_right_comm]; rfl

theorem ev_skip {st : St} : Ev P .skip st .normal st := ⟨1, fun n => by rw [run_code' 0]; rfl⟩
theorem ev_exit {st : St} {i : Nat} : Ev P (.exit i) st (.exit i) st := ⟨1, fun n => by rw [run_code' 0]; rfl⟩
theorem ev_ret {st : St} : Ev P .ret st .ret st := ⟨1, fun n => by rw [run_code' 0]; rfl⟩
theorem ev_reg {d : Bool} {ops : List VI} {st st' : St} (h : EvO P ops st st') : Ev P (.reg d ops) st .normal st' := by
  obtain ⟨N, h⟩ := h
  exact ⟨N + 1, fun n => by rw [run_code']; simp only [codeF, vcReg, h n]⟩
theorem evo_all {ops : List VI} {st st' : St} (h : ∀ r, opsF r ops st = some st') : EvO P ops st st' := ⟨0, fun n => h _⟩
theorem evo_nil {st : St} : EvO P [] st st := ⟨0, fun _ => rfl⟩
theorem opsF_app (r : Rec) : ∀ (a b : List VI) (st : St), opsF r (a ++ b) st = match opsF r a st with | some st => opsF r b st | none => none
  | [], _, _ => rfl
  | i :: a, b, st => by
    simp only [List.cons_append, opsF]
    split
    · exact opsF_app r a b _
    · rfl
theorem evo_app {a b : List VI} {st st1 st' : St} (h : EvO P a st st1) (h2 : EvO P b st1 st') : EvO P (a ++ b) st st' := by
  obtain ⟨N, h⟩ := h
  obtain ⟨M, h2⟩ := h2
  refine ⟨N + M, fun n => ?_⟩
  rw [opsF_app, Nat.add_assoc, h (M + n)]
  simp only
  rw [← Nat.add_assoc, Nat.add_comm N M, Nat.add_assoc]
  exact h2 _
theorem evo_cons {i : VI} {b : List VI} {st st1 st' : St} (h : EvO P [i] st st1) (h2 : EvO P b st1 st') : EvO P (i :: b) st st' := evo_app h h2
theorem ev_seq {a b : VC} {st st1 st' : St} {o : Out} (h : Ev P a st .normal st1) (h2 : Ev P b st1 o st') : Ev P (.seq a b) st o st' := by
  obtain ⟨N, h⟩ := h
  obtain ⟨M, h2⟩ := h2
  refine ⟨N + M + 1, fun n => ?_⟩
  rw [run_code']
  simp only [codeF, vcSeq]
  have e1 : N + M + n = N + (M + n) := by omega
  have e2 : N + M + n = M + (N + n) := by omega
  rw [e1, h (M + n)]
  simp only
  rw [← e1, e2]
  exact h2 _
theorem ev_seq_stop {a b : VC} {st st' : St} {o : Out} (h : Ev P a st o st') (ho : o ≠ .normal) : Ev P (.seq a b) st o st' := by
  obtain ⟨N, h⟩ := h
  refine ⟨N + 1, fun n => ?_⟩
  rw [run_code']
  simp only [codeF, vcSeq, h n]
  cases o <;> simp_all
theorem ev_cond {i : Nat} {a b : VC} {e : Env} {hs : HS} {o : Out} {st' : St} {t : Bool} (hg : get e i = some (.d (.bool t))) (h : Ev P (match t with | true => a | false => b) ⟨del e i, hs⟩ o st') : Ev P (.cond (.m i) a b) ⟨e, hs⟩ o st' := by
  obtain ⟨N, h⟩ := h
  refine ⟨N + 1, fun n => ?_⟩
  rw [run_code']
  simp only [codeF, vcCond, rd, hg]
  cases t <;> exact h n
theorem ev_block {i : Nat} {a : VC} {st st' : St} {o : Out} (h : Ev P a st o st') : Ev P (.block i a) st (match o with | .exit j => (match Nat.beq j i with | true => .normal | false => .exit j) | o => o) st' := by
  obtain ⟨N, h⟩ := h
  refine ⟨N + 1, fun n => ?_⟩
  rw [run_code']
  simp only [codeF, vcBlock, h n]
  cases o <;> simp only
  split <;> simp_all
theorem ev_block_n {i : Nat} {a : VC} {st st' : St} (h : Ev P a st .normal st') : Ev P (.block i a) st .normal st' := ev_block h
theorem ev_block_r {i : Nat} {a : VC} {st st' : St} (h : Ev P a st .ret st') : Ev P (.block i a) st .ret st' := ev_block h
theorem ev_block_x {i : Nat} {a : VC} {st st' : St} (h : Ev P a st (.exit i) st') : Ev P (.block i a) st .normal st' := by
  have := ev_block (i := i) h
  have hb : Nat.beq i i = true := Nat.beq_refl i
  simpa only [hb] using this
theorem ev_loop {a : VC} {st st1 st' : St} {o : Out} (h : Ev P a st .normal st1) (h2 : Ev P (.loop a) st1 o st') : Ev P (.loop a) st o st' := by
  obtain ⟨N, h⟩ := h
  obtain ⟨M, h2⟩ := h2
  refine ⟨N + M + 1, fun n => ?_⟩
  rw [run_code']
  simp only [codeF, vcLoop]
  have e1 : N + M + n = N + (M + n) := by omega
  have e2 : N + M + n = M + (N + n) := by omega
  rw [e1, h (M + n)]
  simp only
  rw [← e1, e2]
  exact h2 _
theorem ev_loop_stop {a : VC} {st st' : St} {o : Out} (h : Ev P a st o st') (ho : o ≠ .normal) : Ev P (.loop a) st o st' := by
  obtain ⟨N, h⟩ := h
  refine ⟨N + 1, fun n => ?_⟩
  rw [run_code']
  simp only [codeF, vcLoop, h n]
  cases o <;> simp_all
theorem evc_body {f : FuncId} {fn : VFunc} {args : List AV} {hs : HS} {v : AV} {hs' : HS} {st' : St} {o : Out} (hf : P f = some fn) (hl : Nat.beq args.length fn.nparams = true) (h : Ev P fn.body ⟨mkEnv 0 args, hs⟩ o st') (ho : o = .normal ∨ o = .ret) (he : endF fn st' = some (v, hs')) : EvC P f args hs v hs' := by
  obtain ⟨N, h⟩ := h
  refine ⟨N + 1, fun n => ?_⟩
  rw [run_call']
  have hb := h (n + 1)
  rw [← Nat.add_assoc, run_code] at hb
  simp only [callF, hf, hl]
  have hb2 : codeF fn.body (run P (N + n)) ⟨mkEnv 0 args, hs⟩ = some (o, st') := hb
  rw [hb2]
  rcases ho with rfl | rfl <;> exact he
/-- A call of plain answer, in a region. -/
theorem evo_call {f : FuncId} {rs : List Rd} {dst : Nat} {e e2 : Env} {hs : HS} {vs ds : List AV} {v : AV} (hr : rdAll e rs = some (vs, e2)) (hv : viewArgs hs.heap vs = some ds) (hfl : vs.any fluid = false) (hc : EvP P f ds v) (hres : ∀ h, resTop h v = some v) :
    EvO P [⟨some dst, none, .call f rs, []⟩] ⟨e, hs⟩ ⟨put e2 dst (firm v), hs⟩ := by
  obtain ⟨hs', N, hc⟩ := hc
  refine ⟨N, fun n => ?_⟩
  simp only [opsF, viF, viGo, opF, opCall, hr, callPure, hv, hc n, hres, hfl, setDst]
/-- The same behind a guard that holds. -/
theorem evo_call_g {f : FuncId} {rs : List Rd} {dst s : Nat} {w : Bool} {e e2 : Env} {hs : HS} {vs ds : List AV} {v : AV} (hg : get e s = some (.d (.bool w))) (hr : rdAll e rs = some (vs, e2)) (hv : viewArgs hs.heap vs = some ds) (hfl : vs.any fluid = false) (hc : EvP P f ds v) (hres : ∀ h, resTop h v = some v) :
    EvO P [⟨some dst, some (s, w), .call f rs, []⟩] ⟨e, hs⟩ ⟨put e2 dst (firm v), hs⟩ := by
  obtain ⟨N, h⟩ := evo_call (dst := dst) hr hv hfl hc hres
  refine ⟨N, fun n => ?_⟩
  have := h n
  simp only [opsF, viF, viGo, hg] at this ⊢
  cases w <;> exact this
/-- A call in place. -/
theorem evo_calli {f : FuncId} {rs : List Rd} {dst : Nat} {e e2 : Env} {hs hs' : HS} {vs : List AV} {v : AV} (hr : rdAll e rs = some (vs, e2)) (hc : EvC P f vs hs v hs') : EvO P [⟨some dst, none, .calli f rs, []⟩] ⟨e, hs⟩ ⟨put e2 dst (firm v), hs'⟩ := by
  obtain ⟨N, hc⟩ := hc
  refine ⟨N, fun n => ?_⟩
  simp only [opsF, viF, viGo, opF, opCalli, hr, hc n, setDst]
def isN : Out → Bool
  | .normal => true
  | _ => false
def pendOf : Out → Option Out
  | .normal => none
  | o => some o
def outOf : Option Out → Out
  | none => .normal
  | some o => o
/-- One round of a range over a function. -/
theorem evo_yield {f : Nat} {rs : List Rd} {dst l : Nat} {e e2 e3 : Env} {hs : HS} {vs : List AV} {snap : Env} {params : List Nat} {assign body : VC} {ea eb : Env} {ha hb : Heap} {na nb : Nat} {o : Out}
    (hf : get e f = some (.yield l)) (hr : rdAll (del e f) rs = some (vs, e2)) (hg : get hs.heap l = some (.loop snap params assign body false none)) (hp : putAll snap params vs = some e3)
    (h1 : Ev P assign ⟨e3, hs⟩ .normal ⟨ea, ⟨ha, na⟩⟩) (hg2 : get ha l = some (.loop snap params assign body false none))
    (h2 : Ev P body ⟨ea, ⟨put ha l (.loop snap params assign body true none), na⟩⟩ o ⟨eb, ⟨hb, nb⟩⟩) (hg3 : get hb l = some (.loop snap params assign body true none)) :
    EvO P [⟨some dst, none, .callv (.m f) rs, []⟩] ⟨e, hs⟩ ⟨put e2 dst (.bool (isN o)), ⟨put hb l (.loop snap params assign body false (pendOf o)), nb⟩⟩ := by
  obtain ⟨N, h1⟩ := h1
  obtain ⟨M, h2⟩ := h2
  refine ⟨N + M, fun n => ?_⟩
  have e1 : N + M + n = N + (M + n) := by omega
  have e2 : N + M + n = M + (N + n) := by omega
  have h1 := h1 (M + n)
  have h2 := h2 (N + n)
  rw [← e1] at h1
  rw [← e2] at h2
  simp only [opsF, viF, viGo, opF, opCallv, rd, hf, hr, callVal, yieldOf, hg, hp, h1, hg2, h2, hg3]
  cases o <;> rfl
theorem ev_range {f : Nat} {params : List Nat} {assign body : VC} {e : Env} {h h2 : Heap} {n n2 : Nat} {g : FuncId} {first caps : List AV} {v : AV} {sn : Env} {q : List Nat} {a2 b2 : VC} {pend : Option Out} {o : Out}
    (hf : get e f = some (.fn g first caps))
    (hc : EvC P g (first ++ ([AV.yield n] ++ caps)) ⟨put h n (.loop ((del e f).map fun kv => (kv.1, share kv.2)) params assign body false none), n + 1⟩ v ⟨h2, n2⟩)
    (hg : get h2 n = some (.loop sn q a2 b2 false pend)) (ho : o = (outOf pend)) :
    Ev P (.rangeF (.m f) params assign body) ⟨e, ⟨h, n⟩⟩ o ⟨del e f, ⟨del h2 n, n2⟩⟩ := by
  obtain ⟨N, hc⟩ := hc
  refine ⟨N + 1, fun k => ?_⟩
  rw [run_code']
  simp only [codeF, vcRangeF, rd, hf, hc k, hg]
  subst ho
  cases pend <;> rfl

/-! ### Numbers -/
theorem wr_i64 {n : Int} (h : -9223372036854775808 ≤ n) (h2 : n ≤ 9223372036854775807) : wr .i64 n = n := by
  simp only [wr, wrapTo, decide_eq_true h, decide_eq_true h2, Bool.and_self]
theorem beq_lit (a b : Nat) : Nat.beq a b = decide (a = b) := by
  cases h : Nat.beq a b with
  | true => simp [Nat.eq_of_beq_eq_true h]
  | false => simp [Nat.ne_of_beq_eq_false h]

/-! ### What holds behind a run -/
instance : Nonempty Rec := ⟨⟨fun _ _ => none, fun _ _ _ => none⟩⟩
theorem nat_of (k : IntKind) (i : Nat) : natOf (.d (.int k (i : Int))) = some i := rfl
def WP (P : Nat → Option VFunc) (c : VC) (st : St) (Q : Out → St → Prop) : Prop := ∃ o st', Ev P c st o st' ∧ Q o st'
def WO (P : Nat → Option VFunc) (ops : List VI) (st : St) (Q : St → Prop) : Prop := ∃ st', EvO P ops st st' ∧ Q st'
theorem wp_skip {st : St} {Q : Out → St → Prop} (h : Q .normal st) : WP P .skip st Q := ⟨_, _, ev_skip, h⟩
theorem wp_exit {st : St} {i : Nat} {Q : Out → St → Prop} (h : Q (.exit i) st) : WP P (.exit i) st Q := ⟨_, _, ev_exit, h⟩
theorem wp_ret {st : St} {Q : Out → St → Prop} (h : Q .ret st) : WP P .ret st Q := ⟨_, _, ev_ret, h⟩
theorem wp_regO {d : Bool} {ops : List VI} {st : St} {Q : Out → St → Prop} (h : WO P ops st (Q .normal)) : WP P (.reg d ops) st Q := by
  obtain ⟨st', h, hq⟩ := h
  exact ⟨_, _, ev_reg h, hq⟩
theorem wp_reg {d : Bool} {ops : List VI} {st : St} {Q : Out → St → Prop} (h : ∃ st', (∀ r, opsF r ops st = some st') ∧ Q .normal st') : WP P (.reg d ops) st Q := by
  obtain ⟨st', h, hq⟩ := h
  exact ⟨_, _, ev_reg (evo_all h), hq⟩
theorem wo_nil {st : St} {Q : St → Prop} (h : Q st) : WO P [] st Q := ⟨_, evo_nil, h⟩
theorem wo_pure {ops : List VI} {st : St} {Q : St → Prop} (h : ∃ st', (∀ r, opsF r ops st = some st') ∧ Q st') : WO P ops st Q := by
  obtain ⟨st', h, hq⟩ := h
  exact ⟨_, evo_all h, hq⟩
theorem wo_pre (k : Nat) {ops : List VI} {st : St} {Q : St → Prop} (h : ∃ st', (∀ r, opsF r (ops.take k) st = some st') ∧ WO P (ops.drop k) st' Q) : WO P ops st Q := by
  obtain ⟨st1, h, st2, h2, hq⟩ := h
  refine ⟨st2, ?_, hq⟩
  rw [← List.take_append_drop k ops]
  exact evo_app (evo_all h) h2
theorem wo_call {f : FuncId} {rs : List Rd} {dst : Nat} {e : Env} {hs : HS} {v : AV} {ops : List VI} {Q : St → Prop} (hres : ∀ h, resTop h v = some v)
    (h : ∃ vs e2 ds, rdAll e rs = some (vs, e2) ∧ viewArgs hs.heap vs = some ds ∧ vs.any fluid = false ∧ EvP P f ds v ∧ WO P ops ⟨put e2 dst (firm v), hs⟩ Q) : WO P (⟨some dst, none, .call f rs, []⟩ :: ops) ⟨e, hs⟩ Q := by
  obtain ⟨vs, e2, ds, h1, h2, h3, h4, st', h5, hq⟩ := h
  exact ⟨st', evo_cons (evo_call h1 h2 h3 h4 hres) h5, hq⟩
theorem wo_call_g {f : FuncId} {rs : List Rd} {dst s : Nat} {w : Bool} {e : Env} {hs : HS} {v : AV} {ops : List VI} {Q : St → Prop} (hres : ∀ h, resTop h v = some v)
    (h : get e s = some (.d (.bool w)) ∧ ∃ vs e2 ds, rdAll e rs = some (vs, e2) ∧ viewArgs hs.heap vs = some ds ∧ vs.any fluid = false ∧ EvP P f ds v ∧ WO P ops ⟨put e2 dst (firm v), hs⟩ Q) : WO P (⟨some dst, some (s, w), .call f rs, []⟩ :: ops) ⟨e, hs⟩ Q := by
  obtain ⟨h0, vs, e2, ds, h1, h2, h3, h4, st', h5, hq⟩ := h
  exact ⟨st', evo_cons (evo_call_g h0 h1 h2 h3 h4 hres) h5, hq⟩
theorem wp_seq {a b : VC} {st : St} {Q : Out → St → Prop} (h : WP P a st fun o s => match o with | .normal => WP P b s Q | o => Q o s) : WP P (.seq a b) st Q := by
  obtain ⟨o, s, h, hq⟩ := h
  cases o with
  | normal =>
    obtain ⟨o2, s2, h2, hq⟩ := hq
    exact ⟨_, _, ev_seq h h2, hq⟩
  | exit j => exact ⟨_, _, ev_seq_stop h (by simp), hq⟩
  | goto j => exact ⟨_, _, ev_seq_stop h (by simp), hq⟩
  | ret => exact ⟨_, _, ev_seq_stop h (by simp), hq⟩
theorem wp_cond {i : Nat} {a b : VC} {e : Env} {hs : HS} {Q : Out → St → Prop} (h : ∃ t, get e i = some (.d (.bool t)) ∧ (t = true → WP P a ⟨del e i, hs⟩ Q) ∧ (t = false → WP P b ⟨del e i, hs⟩ Q)) : WP P (.cond (.m i) a b) ⟨e, hs⟩ Q := by
  obtain ⟨t, hg, h1, h2⟩ := h
  cases t with
  | true =>
    obtain ⟨o, s, h, hq⟩ := h1 rfl
    exact ⟨o, s, ev_cond hg h, hq⟩
  | false =>
    obtain ⟨o, s, h, hq⟩ := h2 rfl
    exact ⟨o, s, ev_cond hg h, hq⟩
theorem wp_block {i : Nat} {a : VC} {st : St} {Q : Out → St → Prop} (h : WP P a st fun o s => match o with | .exit j => Q (match Nat.beq j i with | true => .normal | false => .exit j) s | o => Q o s) : WP P (.block i a) st Q := by
  obtain ⟨o, s, h, hq⟩ := h
  refine ⟨_, s, ev_block h, ?_⟩
  cases o <;> exact hq
theorem wp_loop {a : VC} {st : St} {Q : Out → St → Prop} (h : WP P a st fun o s => match o with | .normal => WP P (.loop a) s Q | o => Q o s) : WP P (.loop a) st Q := by
  obtain ⟨o, s, h, hq⟩ := h
  cases o with
  | normal =>
    obtain ⟨o2, s2, h2, hq⟩ := hq
    exact ⟨_, _, ev_loop h h2, hq⟩
  | exit j => exact ⟨_, _, ev_loop_stop h (by simp), hq⟩
  | goto j => exact ⟨_, _, ev_loop_stop h (by simp), hq⟩
  | ret => exact ⟨_, _, ev_loop_stop h (by simp), hq⟩
theorem WP.mono {c : VC} {st : St} {Q R : Out → St → Prop} (h : WP P c st Q) (hq : ∀ o s, Q o s → R o s) : WP P c st R := by
  obtain ⟨o, s, h, k⟩ := h
  exact ⟨o, s, h, hq o s k⟩
theorem evc_wp {f : FuncId} {fn : VFunc} {args : List AV} {hs : HS} {R : AV → HS → Prop} (hf : P f = some fn) (hl : Nat.beq args.length fn.nparams = true) (h : WP P fn.body ⟨mkEnv 0 args, hs⟩ fun o s => (o = .normal ∨ o = .ret) ∧ ∃ v hs', endF fn s = some (v, hs') ∧ R v hs') : ∃ v hs', EvC P f args hs v hs' ∧ R v hs' := by
  obtain ⟨o, s, h, ho, v, hs', he, hr⟩ := h
  exact ⟨v, hs', evc_body hf hl h ho he, hr⟩
theorem evp_wp {f : FuncId} {fn : VFunc} {args : List AV} {v : AV} (hf : P f = some fn) (hl : Nat.beq args.length fn.nparams = true) (h : WP P fn.body ⟨mkEnv 0 args, ⟨[], 0⟩⟩ fun o s => (o = .normal ∨ o = .ret) ∧ ∃ hs', endF fn s = some (v, hs')) : EvP P f args v := by
  obtain ⟨o, s, h, ho, hs', he⟩ := h
  exact ⟨hs', evc_body hf hl h ho he⟩
theorem wo_calli {f : FuncId} {fn : VFunc} {rs : List Rd} {dst : Nat} {e : Env} {hs : HS} {ops : List VI} {Q : St → Prop} {vs : List AV} {e2 : Env} (hr : rdAll e rs = some (vs, e2)) (hf : P f = some fn) (hl : Nat.beq vs.length fn.nparams = true)
    (h : WP P fn.body ⟨mkEnv 0 vs, hs⟩ fun o s => (o = .normal ∨ o = .ret) ∧ ∃ v hs', endF fn s = some (v, hs') ∧ WO P ops ⟨put e2 dst (firm v), hs'⟩ Q) : WO P (⟨some dst, none, .calli f rs, []⟩ :: ops) ⟨e, hs⟩ Q := by
  obtain ⟨v, hs', hc, st', h5, hq⟩ := evc_wp (R := fun v hs' => WO P ops ⟨put e2 dst (firm v), hs'⟩ Q) hf hl h
  exact ⟨st', evo_cons (evo_calli hr hc) h5, hq⟩
theorem wo_yield {f : Nat} {rs : List Rd} {dst l : Nat} {e e2 e3 : Env} {hs : HS} {vs : List AV} {snap : Env} {params : List Nat} {assign body : VC} {ops : List VI} {Q : St → Prop}
    (hf : get e f = some (.yield l)) (hr : rdAll (del e f) rs = some (vs, e2)) (hg : get hs.heap l = some (.loop snap params assign body false none)) (hp : putAll snap params vs = some e3)
    (h : WP P assign ⟨e3, hs⟩ fun o s => o = .normal ∧ get s.hs.heap l = some (.loop snap params assign body false none) ∧ WP P body ⟨s.env, ⟨put s.hs.heap l (.loop snap params assign body true none), s.hs.next⟩⟩ fun o2 s2 =>
      get s2.hs.heap l = some (.loop snap params assign body true none) ∧ WO P ops ⟨put e2 dst (.bool (isN o2)), ⟨put s2.hs.heap l (.loop snap params assign body false (pendOf o2)), s2.hs.next⟩⟩ Q) :
    WO P (⟨some dst, none, .callv (.m f) rs, []⟩ :: ops) ⟨e, hs⟩ Q := by
  obtain ⟨o, ⟨ea, ha, na⟩, h1, rfl, hg2, o2, ⟨eb, hb, nb⟩, h2, hg3, st', h5, hq⟩ := h
  exact ⟨st', evo_cons (evo_yield hf hr hg hp h1 hg2 h2 hg3) h5, hq⟩
theorem wp_range {f : Nat} {params : List Nat} {assign body : VC} {e : Env} {h : Heap} {n : Nat} {g : FuncId} {fn : VFunc} {first caps : List AV} {Q : Out → St → Prop} (hf : get e f = some (.fn g first caps)) (hP : P g = some fn) (hl : Nat.beq (first ++ ([AV.yield n] ++ caps)).length fn.nparams = true)
    (hw : WP P fn.body ⟨mkEnv 0 (first ++ ([AV.yield n] ++ caps)), ⟨put h n (.loop ((del e f).map fun kv => (kv.1, share kv.2)) params assign body false none), n + 1⟩⟩ fun o s => (o = .normal ∨ o = .ret) ∧ ∃ v hs', endF fn s = some (v, hs') ∧ ∃ sn q a2 b2 pend, get hs'.heap n = some (.loop sn q a2 b2 false pend) ∧ Q (outOf pend) ⟨del e f, ⟨del hs'.heap n, hs'.next⟩⟩) :
    WP P (.rangeF (.m f) params assign body) ⟨e, ⟨h, n⟩⟩ Q := by
  obtain ⟨v, ⟨h2, n2⟩, hc, sn, q, a2, b2, pend, hg, hq⟩ := evc_wp (R := fun v hs' => ∃ sn q a2 b2 pend, get hs'.heap n = some (.loop sn q a2 b2 false pend) ∧ Q (outOf pend) ⟨del e f, ⟨del hs'.heap n, hs'.next⟩⟩) hP hl hw
  exact ⟨_, _, ev_range hf hc hg rfl, hq⟩
end Go.Vm
