import Derived.Test.YtpehaphefijlkaaVmD
import GoSem.ClaimChange
import Derived.WalkKit
import Derived.ProofKit
import Derived.OpenShut
import Derived.JoinedCond
import Derived.ChangeStays
import Derived.ChangeBook
import Derived.Test.YtpehaphefijlkaaVmA
set_option linter.unusedVariables false
set_option linter.unusedSimpArgs false
noncomputable section
/-
  REGIONS THAT DRAW THEIR ORDER (9): which instructions may change places.
-/
namespace Go.Vm

section
variable {r : Rec}
theorem isNil_eq {l : List (Nat × Nat)} (h : isNil' l = true) : l = [] := by
  cases l <;> simp_all [isNil']
theorem blind_vi {a : Bool} {F : List Nat} {i : VI} (h : kS a i = true) {e : Env} {hs : HS} {st1 : St} (hr : stepA r a F i ⟨e, hs⟩ = some st1) : st1.hs = hs ∧ ∀ hs', stepA r a F i ⟨e, hs'⟩ = some ⟨st1.env, hs'⟩ := by
  simp only [kS, Bool.and_eq_true, Bool.not_eq_true'] at h
  obtain ⟨⟨ha, hth⟩, hop⟩ := h
  have hth := isNil_eq hth
  subst ha
  simp only [stepA] at hr ⊢
  have go : ∀ st1, viGo r i ⟨e, hs⟩ = some st1 → st1.hs = hs ∧ ∀ hs', viGo r i ⟨e, hs'⟩ = some ⟨st1.env, hs'⟩ := by
    intro st1 h
    unfold viGo at h
    simp only [hth] at h
    split at h
    · rename_i v st0 hv
      simp only [Option.some.injEq] at h; subst h
      obtain ⟨q1, q2⟩ := blind_op hop hv
      refine ⟨by cases i.dst <;> exact q1, fun hs' => ?_⟩
      unfold viGo
      simp only [hth, q2 hs']
      cases i.dst <;> rfl
    · simp at h
  unfold viF at hr
  cases hg : i.guard with
  | none =>
    rw [hg] at hr
    obtain ⟨q1, q2⟩ := go _ hr
    exact ⟨q1, fun hs' => by unfold viF; rw [hg]; exact q2 hs'⟩
  | some sw =>
    obtain ⟨sl, want⟩ := sw
    rw [hg] at hr
    simp only at hr
    split at hr
    · rename_i b hb
      split at hr
      · rename_i hbw
        obtain ⟨q1, q2⟩ := go _ hr
        exact ⟨q1, fun hs' => by unfold viF; rw [hg]; simp only [hb, hbw]; exact q2 hs'⟩
      · rename_i hbw
        simp only [Option.some.injEq] at hr; subst hr
        exact ⟨by cases i.dst <;> rfl, fun hs' => by unfold viF; rw [hg]; simp only [hb, hbw]; cases i.dst <;> rfl⟩
    · rename_i hb
      simp only [Option.some.injEq] at hr; subst hr
      exact ⟨by cases i.dst <;> rfl, fun hs' => by unfold viF; rw [hg]; simp only [hb]; cases i.dst <;> rfl⟩
    · simp at hr
theorem isQ_kind {i : VI} (h : isQ i = true) : ∃ R M, kindV i = some (.q, R, M) := by
  unfold isQ at h
  split at h
  · rename_i p hp; obtain ⟨R, M⟩ := p; exact ⟨R, M, hp⟩
  · simp at h
theorem isP_kind {i : VI} (h : isP i = true) : ∃ R M, kindV i = some (.p, R, M) := by
  unfold isP at h
  split at h
  · rename_i p hp; obtain ⟨R, M⟩ := p; exact ⟨R, M, hp⟩
  · simp at h
theorem nkRead_eq {i : VI} (h : nkRead i = true) : nkOf i.op = .read := by
  unfold nkRead at h
  split at h <;> simp_all
theorem nkTake_eq {i : VI} (h : nkTake i = true) : nkOf i.op = .take := by
  unfold nkTake at h
  split at h <;> simp_all
theorem nkCall_eq {i : VI} (h : nkCall i = true) : nkOf i.op = .call := by
  unfold nkCall at h
  split at h <;> simp_all
theorem rd_heap {a : Bool} {F : List Nat} {i : VI} (h : isRd a i = true) {e : Env} {hs : HS} {st1 : St} (hr : stepA r a F i ⟨e, hs⟩ = some st1) : st1.hs = hs := by
  simp only [isRd, Bool.and_eq_true, Bool.or_eq_true, Bool.not_eq_true'] at h
  obtain ⟨hq, hn⟩ := h
  obtain ⟨R, M, hk⟩ := isQ_kind hq
  have plain : viF r i ⟨e, hs⟩ = some st1 → st1.hs = hs := fun h => by
    obtain ⟨ρ, τ, K, q1, _⟩ := kind_loc hk e hs st1 h
    rw [q1]; exact K.2 hs
  cases a with
  | false => exact plain hr
  | true =>
    have hn := nkRead_eq (hn.resolve_left (by simp))
    simp only [stepA, viN, hn] at hr
    split at hr
    · simp only [Option.some.injEq] at hr; subst hr; rfl
    · simp at hr
/-- An instruction of a known kind, on another heap. -/
theorem kind_at {K : HK} {f : St → Option St} {R M : List Nat} (hl : LocVG K f R M) {e : Env} (hsrt : Srt e) {hs : HS} {st1 : St} (hr : f ⟨e, hs⟩ = some st1) : ∃ ρ τ, K hs ρ τ ∧ st1.hs = τ hs ∧ ∀ hs', ρ hs' → f ⟨e, hs'⟩ = some ⟨st1.env, τ hs'⟩ := by
  obtain ⟨ρ, τ, k, q1, q2, q3, q4⟩ := hl e hs st1 hr
  refine ⟨ρ, τ, k, q1, fun hs' hρ => ?_⟩
  obtain ⟨e1', p1, p2, p3⟩ := q4 e hs' (fun _ _ => rfl) hρ
  obtain ⟨_, _, _, _, s2, _, _⟩ := hl e hs' _ p1
  rw [p1]
  congr 2
  refine srt_ext (s2 hsrt) (q2 hsrt) fun k => ?_
  by_cases hk : k ∈ M
  · exact p3 k hk
  · rw [p2 k hk, q3 k hk]
theorem near_read {F F' : List Nat} {u : VI} (hq : isQ u = true) (hn : nkRead u = true) {e : Env} (hsrt : Srt e) {hs : HS} {st1 : St} (hr : stepA r true F u ⟨e, hs⟩ = some st1) :
    ∀ hs', HLe (onlyH (nearIds u e) hs.heap) (onlyH (nearIds u e) hs'.heap) → stepA r true F' u ⟨e, hs'⟩ = some ⟨st1.env, hs'⟩ := by
  intro hs' hle
  obtain ⟨R, M, hk⟩ := isQ_kind hq
  have hn := nkRead_eq hn
  simp only [stepA, viN, hn] at hr ⊢
  split at hr
  · rename_i st2 h2
    simp only [Option.some.injEq] at hr; subst hr
    obtain ⟨ρ, τ, K, q1, q2⟩ := kind_at (kind_loc hk) hsrt h2
    rw [q2 ⟨onlyH (nearIds u e) hs'.heap, hs'.next⟩ (K.1 _ hle)]
  · simp at hr
theorem near_call {F : List Nat} {v : VI} (hn : nkCall v = true) {e : Env} {hs : HS} {st1 : St} (hr : stepA r true F v ⟨e, hs⟩ = some st1) : sameH F hs.heap st1.hs.heap = true := by
  have hn := nkCall_eq hn
  simp only [stepA, viN, hn] at hr
  split at hr
  · split at hr
    · rename_i h
      simp only [Option.some.injEq] at hr; subst hr
      exact h
    · simp at hr
  · simp at hr
/-- A step asks less where less has been looked at. -/
theorem step_sub {a : Bool} {F F' : List Nat} {v : VI} {st st1 : St} (hsub : ∀ k ∈ F', k ∈ F) (hr : stepA r a F v st = some st1) : stepA r a F' v st = some st1 := by
  cases a with
  | false => exact hr
  | true =>
    simp only [stepA, viN] at hr ⊢
    split at hr
    · rename_i hn
      split at hr
      · rename_i st2 h2
        split at hr
        · rename_i hs
          simp only [sameH_sub hs hsub]
          exact hr
        · simp at hr
      · simp at hr
    · exact hr
    · exact hr
theorem addF_sub (a : Bool) (v : VI) (e : Env) {F F' : List Nat} (hsub : ∀ k ∈ F', k ∈ F) : ∀ k ∈ addF a v e F', k ∈ addF a v e F := by
  intro k hk
  unfold addF at hk ⊢
  cases a with
  | false => exact hsub k hk
  | true =>
    simp only at hk ⊢
    split at hk
    · rename_i hn
      rcases List.mem_append.1 hk with h | h
      · exact List.mem_append_left _ h
      · exact List.mem_append_right _ (hsub k h)
    · exact hsub k hk
theorem addF_le (a : Bool) (v : VI) (e : Env) (F : List Nat) : ∀ k ∈ F, k ∈ addF a v e F := by
  intro k hk
  unfold addF
  cases a with
  | false => exact hk
  | true =>
    simp only
    split
    · exact List.mem_append_right _ hk
    · exact hk
theorem runN_sub {nr : List Nat} {vs : List VI} : ∀ {l : List Nat} {F F' : List Nat} {st st' : St}, (∀ k ∈ F', k ∈ F) → runN r nr vs l F st = some st' → runN r nr vs l F' st = some st'
  | [], _, _, _, _, _, h => h
  | i :: l, F, F', st, st', hsub, h => by
    simp only [runN] at h ⊢
    split at h
    · simp at h
    · rename_i v hv
      split at h
      · simp at h
      · rename_i st1 h1
        simp only [step_sub hsub h1]
        exact runN_sub (addF_sub _ _ _ hsub) h
/-- What a marked instruction does is what it does without. -/
theorem step_vi {a : Bool} {F : List Nat} {v : VI} {e : Env} {hs : HS} (hsrt : Srt e) {R M : List Nat} (hf : a = false ∨ nkOf v.op ≠ .read ∨ kindV v = some (.q, R, M)) {st1 : St} (hr : stepA r a F v ⟨e, hs⟩ = some st1) : viF r v ⟨e, hs⟩ = some st1 := by
  cases a with
  | false => exact hr
  | true =>
    simp only [stepA, viN] at hr
    split at hr
    · split at hr
      · rename_i h
        split at hr
        · simp only [Option.some.injEq] at hr; subst hr; exact h
        · simp at hr
      · simp at hr
    · split at hr
      · rename_i h
        split at hr
        · split at hr
          · split at hr
            · simp only [Option.some.injEq] at hr; subst hr; exact h
            · simp at hr
          · simp at hr
        · simp at hr
      · simp at hr
    · rename_i hn
      split at hr
      · rename_i st2 h
        simp only [Option.some.injEq] at hr; subst hr
        have hk := (hf.resolve_left (by simp)).resolve_left (fun h => h hn)
        obtain ⟨ρ, τ, K, q1, q2⟩ := kind_at (kind_loc hk) hsrt h
        have := q2 hs (K.1 _ (HLe.only _ _))
        rw [K.2 hs] at this
        exact this
      · simp at hr

theorem foot_apart {a b : Bool} {u v : VI} (h : apart2 a b u v = true) : ∃ R1 M1 R2 M2, footN a u = some (R1, M1) ∧ footN b v = some (R2, M2) ∧ (∀ k ∈ M1, k ∉ R2 ∧ k ∉ M2) ∧ ∀ k ∈ M2, k ∉ R1 ∧ k ∉ M1 := by
  unfold apart2 at h
  split at h
  · rename_i R1 M1 R2 M2 e1 e2
    simp only [Bool.and_eq_true] at h
    obtain ⟨⟨a1, a2⟩, a3⟩ := h
    exact ⟨R1, M1, R2, M2, e1, e2, fun k hk => ⟨apartN_mem a1 k hk, apartN_mem a2 k hk⟩, fun k hk => ⟨apartN_mem a3 k hk, fun h => apartN_mem a2 k h hk⟩⟩
  · simp at h
/-- What a step looks at is the same where its slots are. -/
theorem addF_eq {a : Bool} {v : VI} {R M : List Nat} (h : footN a v = some (R, M)) {e e' : Env} (he : ∀ k ∈ R, get e' k = get e k) (F : List Nat) : addF a v e' F = addF a v e F := by
  cases a with
  | false => rfl
  | true =>
    unfold footN at h
    split at h
    · simp only [Option.some.injEq, Prod.mk.injEq] at h
      obtain ⟨rfl, rfl⟩ := h
      have : nearIds v e' = nearIds v e := idsIn_eq fun k hk => he k (List.mem_append_right _ hk)
      simp only [addF, this]
    · simp at h
/-- Two steps change places: what they do, and what they have looked at. -/
def Swap (r : Rec) (a b : Bool) (u v : VI) (F : List Nat) (st st1 st2 : St) : Prop :=
  ∃ st1', stepA r b F v st = some st1' ∧ stepA r a (addF b v st.env F) u st1' = some st2 ∧ ∀ k ∈ addF a u st1'.env (addF b v st.env F), k ∈ addF b v st1.env (addF a u st.env F)
theorem swap_fin {a b : Bool} {u v : VI} {R1 M1 R2 M2 : List Nat} (f1 : footN a u = some (R1, M1)) (f2 : footN b v = some (R2, M2)) (d1 : ∀ k ∈ M1, k ∉ R2 ∧ k ∉ M2) (d2 : ∀ k ∈ M2, k ∉ R1 ∧ k ∉ M1) {F : List Nat} {st st1 st2 st1' : St}
    (h1 : stepA r a F u st = some st1) (k1 : stepA r b F v st = some st1') (k2 : stepA r a (addF b v st.env F) u st1' = some st2) : Swap r a b u v F st st1 st2 := by
  refine ⟨st1', k1, k2, ?_⟩
  obtain ⟨e, hs⟩ := st
  obtain ⟨_, g1, _⟩ := locW_step (r := r) f1 F e hs _ h1
  obtain ⟨_, g2, _⟩ := locW_step (r := r) f2 F e hs _ k1
  rw [addF_eq f1 (e := e) (e' := st1'.env) (fun k hk => g2 k fun hm => (d2 k hm).1 hk), addF_eq f2 (e := e) (e' := st1.env) (fun k hk => g1 k fun hm => (d1 k hm).1 hk)]
  intro k hk
  cases a with
  | false => exact hk
  | true =>
    cases b with
    | false => exact hk
    | true =>
      simp only [addF] at hk ⊢
      cases hu : nkOf u.op <;> cases hv : nkOf v.op <;> simp only [hu, hv] at hk ⊢ <;> first | exact hk | skip
      simp only [List.mem_append] at hk ⊢
      rcases hk with h | h | h
      · exact .inr (.inl h)
      · exact .inl h
      · exact .inr (.inr h)
theorem passE_swap {a b : Bool} {u v : VI} (h : passE a b u v = true) {F : List Nat} {st st1 st2 : St} (hsrt : Srt st.env) (h1 : stepA r a F u st = some st1) (h2 : stepA r b (addF a u st.env F) v st1 = some st2) : Swap r a b u v F st st1 st2 := by
  simp only [passE, Bool.and_eq_true, Bool.or_eq_true] at h
  obtain ⟨hap, h⟩ := h
  obtain ⟨R1, M1, R2, M2, f1, f2, d1, d2⟩ := foot_apart hap
  have l1 := fun F => locW_step (r := r) f1 F
  have l2 := fun F => locW_step (r := r) f2 F
  have h2' := step_sub (F' := F) (addF_le a u st.env F) h2
  -- it is enough to look at the steps at 'F'
  have fin : (∃ st1', stepA r b F v st = some st1' ∧ stepA r a F u st1' = some st2) → (∀ {s s' : St}, stepA r a F u s = some s' → stepA r a (addF b v st.env F) u s = some s') → Swap r a b u v F st st1 st2 := by
    intro ⟨st1', k1, k2⟩ up
    exact swap_fin f1 f2 d1 d2 h1 k1 (up k2)
  obtain ⟨e, hs⟩ := st
  obtain ⟨e1, hs1⟩ := st1
  obtain ⟨e2, hs2⟩ := st2
  rcases h with ((h | h) | h) | h
  · obtain ⟨q1, q2⟩ := blind_vi h h1
    simp only at q1; subst q1
    refine fin (swap_w (l1 F) (l2 F) d1 d2 hsrt h1 h2' h2' (q2 hs2)) fun {s s'} hs => ?_
    simp only [kS, Bool.and_eq_true, Bool.not_eq_true'] at h
    rw [h.1.1] at hs ⊢
    exact hs
  · obtain ⟨q1, q2⟩ := blind_vi h h2'
    simp only at q1; subst q1
    refine fin (swap_w (l1 F) (l2 F) d1 d2 hsrt h1 h2' (q2 hs) h1) fun {s s'} hs => ?_
    simp only [kS, Bool.and_eq_true, Bool.not_eq_true'] at h
    rw [h.1.1]
    exact hs
  · have q1 := rd_heap h.1 h1
    have q2 := rd_heap h.2 h2'
    simp only at q1 q2; subst q1; subst q2
    refine fin (swap_w (l1 F) (l2 F) d1 d2 hsrt h1 h2' h2' h1) fun {s s'} hs => ?_
    have hr := h.1
    simp only [isRd, Bool.and_eq_true, Bool.or_eq_true, Bool.not_eq_true'] at hr
    cases a with
    | false => exact hs
    | true =>
      have hn := nkRead_eq (hr.2.resolve_left (by simp))
      simp only [stepA, viN, hn] at hs ⊢
      exact hs
  · simp only [nearBy, Bool.and_eq_true] at h
    obtain ⟨⟨⟨⟨rfl, rfl⟩, hq⟩, hn⟩, hc⟩ := h
    have q1 := rd_heap (r := r) (a := true) (i := u) (by simp only [isRd, hq, hn, Bool.or_true, Bool.and_true]) h1
    simp only at q1; subst q1
    have hnu := nkRead_eq hn
    have hsame := near_call hc h2
    have hle := HLe.same (ids := nearIds u e) hsame (fun k hk => by simp only [addF, hnu]; exact List.mem_append_left _ hk)
    have hF : addF true v e F = F := by simp only [addF, nkCall_eq hc]
    refine fin (swap_w (l1 F) (l2 F) d1 d2 hsrt h1 h2' h2' (near_read hq hn hsrt h1 hs2 hle)) fun {s s'} hs => ?_
    simp only [hF]; exact hs

/-! ### Parts of one answer -/
def extL (m : Bool) (vs : List AV) (i : Nat) : List AV := match m with | true => vs.set i .junk | false => vs
def extE (m : Bool) (e : Env) (j : Nat) (vs : List AV) (i : Nat) : Env := match m with | true => put e j (.tup (extL m vs i)) | false => e
def extX (m : Bool) (x : AV) : AV := match m with | true => x | false => share x
theorem extL_ne {m : Bool} {vs : List AV} {i k : Nat} (h : i ≠ k) : (extL m vs i)[k]? = vs[k]? := by
  cases m
  · rfl
  · exact List.getElem?_set_ne h
theorem extL_comm {m n : Bool} {vs : List AV} {i k : Nat} (h : i ≠ k) : extL n (extL m vs i) k = extL m (extL n vs k) i := by
  cases m <;> cases n <;> try rfl
  exact List.set_comm _ _ h
theorem extE_get {m : Bool} {e : Env} {j : Nat} {vs : List AV} {i : Nat} (hj : get e j = some (.tup vs)) (q : Nat) : get (extE m e j vs i) q = if q = j then some (.tup (extL m vs i)) else get e q := by
  cases m
  · simp only [extE, extL]
    by_cases h : q = j
    · subst h; rw [if_pos rfl]; exact hj
    · rw [if_neg h]
  · simp only [extE, get_put]
theorem extE_srt {m : Bool} {e : Env} (h : Srt e) (j : Nat) (vs : List AV) (i : Nat) : Srt (extE m e j vs i) := by
  cases m
  · exact h
  · exact h.put _ _
theorem ext_run {u : VI} {j : Nat} {m : Bool} {i d : Nat} (ho : u.op = .ext j m i) (hd : u.dst = some d) (hg : u.guard = none) (ht : u.th = []) (e : Env) (hs : HS) : viF r u ⟨e, hs⟩ =
    match get e j with
    | some (.tup vs) => match vs[i]? with
      | some x => some ⟨put (extE m e j vs i) d (firm (extX m x)), hs⟩
      | none => none
    | _ => none := by
  unfold viF viGo
  simp only [hg, ho, opF, opExt, hd, ht]
  cases get e j with
  | none => rfl
  | some w =>
    cases w <;> try rfl
    rename_i vs
    simp only
    cases vs[i]? with
    | none => rfl
    | some x => cases m <;> rfl
theorem ext_swap {u v : VI} {j i k d c : Nat} {m n : Bool} (o1 : u.op = .ext j m i) (o2 : v.op = .ext j n k) (d1 : u.dst = some d) (d2 : v.dst = some c) (g1 : u.guard = none) (g2 : v.guard = none) (ht1 : u.th = []) (ht2 : v.th = [])
    (hik : i ≠ k) (hdc : d ≠ c) (hdj : d ≠ j) (hcj : c ≠ j) {st st1 st2 : St} (hsrt : Srt st.env) (h1 : viF r u st = some st1) (h2 : viF r v st1 = some st2) : ∃ st1', viF r v st = some st1' ∧ viF r u st1' = some st2 := by
  obtain ⟨e, hs⟩ := st
  rw [ext_run o1 d1 g1 ht1] at h1
  split at h1
  · rename_i vs hj
    split at h1
    · rename_i x hx
      simp only [Option.some.injEq] at h1; subst h1
      rw [ext_run o2 d2 g2 ht2] at h2
      have hj1 : get (put (extE m e j vs i) d (firm (extX m x))) j = some (.tup (extL m vs i)) := by
        rw [get_put, if_neg (fun h => hdj h.symm), extE_get hj, if_pos rfl]
      rw [hj1] at h2
      simp only [extL_ne hik] at h2
      split at h2
      · rename_i y hy
        simp only [Option.some.injEq] at h2; subst h2
        have hj2 : get (put (extE n e j vs k) c (firm (extX n y))) j = some (.tup (extL n vs k)) := by
          rw [get_put, if_neg (fun h => hcj h.symm), extE_get hj, if_pos rfl]
        refine ⟨⟨put (extE n e j vs k) c (firm (extX n y)), hs⟩, by rw [ext_run o2 d2 g2 ht2, hj]; simp only [hy], ?_⟩
        rw [ext_run o1 d1 g1 ht1, hj2]
        simp only [extL_ne (fun h : k = i => hik h.symm), hx, Option.some.injEq]
        congr 1
        refine srt_ext ((extE_srt ((extE_srt hsrt _ _ _).put _ _) _ _ _).put _ _) ((extE_srt ((extE_srt hsrt _ _ _).put _ _) _ _ _).put _ _) fun q => ?_
        rw [get_put, extE_get hj2, get_put, extE_get hj, get_put, extE_get hj1, get_put, extE_get hj]
        by_cases q1 : q = d
        · subst q1; simp [hdc, hdj]
        · by_cases q2 : q = c
          · subst q2; simp [q1, hcj]
          · by_cases q3 : q = j
            · subst q3; simp [q1, q2, extL_comm hik]
            · simp [q1, q2, q3]
      · simp at h2
    · simp at h1
  · simp at h1
theorem extPair_swap {a b : Bool} {u v : VI} (h : extPair a b u v = true) {F : List Nat} {st st1 st2 : St} (hsrt : Srt st.env) (h1 : stepA r a F u st = some st1) (h2 : stepA r b (addF a u st.env F) v st1 = some st2) : Swap r a b u v F st st1 st2 := by
  simp only [extPair, Bool.and_eq_true, Bool.not_eq_true'] at h
  obtain ⟨⟨⟨⟨rfl, rfl⟩, ht1⟩, ht2⟩, h⟩ := h
  have ht1 := isNil_eq ht1
  have ht2 := isNil_eq ht2
  simp only [stepA] at h1 h2
  split at h
  · rename_i j m i l n k d c o1 o2 d1 d2 g1 g2
    simp only [Bool.and_eq_true, Bool.not_eq_true', Nat.beq_eq] at h
    obtain ⟨⟨⟨⟨rfl, hik⟩, hdc⟩, hdj⟩, hcj⟩ := h
    obtain ⟨st1', k1, k2⟩ := ext_swap o1 o2 d1 d2 g1 g2 ht1 ht2 (Nat.ne_of_beq_eq_false hik) (Nat.ne_of_beq_eq_false hdc) (Nat.ne_of_beq_eq_false hdj) (Nat.ne_of_beq_eq_false hcj) hsrt h1 h2
    exact ⟨st1', k1, k2, fun k hk => hk⟩
  · simp at h
theorem extPair_kS {a b : Bool} {u v : VI} (h : extPair a b u v = true) : kS a u = true := by
  simp only [extPair, Bool.and_eq_true] at h
  obtain ⟨⟨⟨⟨ha, hb⟩, ht1⟩, ht2⟩, h⟩ := h
  split at h
  · rename_i j m i l n k d c o1 o2 d1 d2 g1 g2
    simp only [kS, ha, ht1, o1, sOp, Bool.and_self]
  · simp at h
end
end Go.Vm

/-
  REGIONS THAT DRAW THEIR ORDER (10): takes and appends.
-/
namespace Go.Vm

section
variable {r : Rec}
theorem like_set {cs : List AV} {off : Nat} {w : AV} (h : cs[off]? = some w) : likeO (.cells cs) (.cells (cs.set off (share w))) := by
  simp only [likeO, shareAll_map, List.map_set, share_share]
  refine List.ext_getElem? fun i => ?_
  rw [List.getElem?_set]
  have hm : (cs.map share)[off]? = some (share w) := by rw [List.getElem?_map, h]; rfl
  split
  · rename_i e
    subst e
    have hlt : off < (cs.map share).length := by
      rcases Nat.lt_or_ge off (cs.map share).length with h | h
      · exact h
      · rw [List.getElem?_eq_none h] at hm; simp at hm
    rw [if_pos hlt, hm]
  · rfl
def ownish (w : AV) : Prop := (∃ p m xs, w = .own p m xs) ∨ w = .nl
theorem own1_firm {w : AV} (h : own1 (firm w) = true) : ownish w := by
  cases w with
  | own p m xs => exact .inl ⟨_, _, _, rfl⟩
  | nl => exact .inr rfl
  | _ => exact absurd h (by simp only [firm, firm2, firm1, own1]; simp)
theorem isT_op {a : Bool} {i : VI} (h : isT a i = true) : ∃ p, a = true ∧ i.op = .ld none 2 p ∧ i.th = [] := by
  simp only [isT, Bool.and_eq_true] at h
  obtain ⟨⟨ha, hn⟩, hth⟩ := h
  have hth := isNil_eq hth
  have hn := nkTake_eq hn
  unfold nkOf at hn
  split at hn <;> simp at hn
  rename_i p hp
  exact ⟨p, ha, hp, hth⟩
theorem isT_addF {a : Bool} {i : VI} (h : isT a i = true) (e : Env) (F : List Nat) : addF a i e F = F := by
  obtain ⟨p, rfl, hop, hth⟩ := isT_op h
  simp only [addF, hop, nkOf]
theorem take_at {id off : Nat} {cs : List AV} {w : AV} {h : Heap} (hg : get h id = some (.cells cs)) (hw : cs[off]? = some w) : loadAt h none 2 (.ptr id off) = some (w, put h id (.cells (cs.set off (share w)))) := by
  simp only [loadAt, hg, hw, takes]
/-- A strict take: which cell, and what it does on other heaps. -/
theorem take_run {a : Bool} {F : List Nat} {u : VI} (h : isT a u = true) {e e1 : Env} {hs hs1 : HS} (hr : stepA r a F u ⟨e, hs⟩ = some ⟨e1, hs1⟩) : ∃ id off cs w, get hs.heap id = some (.cells cs) ∧ cs[off]? = some w ∧ ownish w ∧
    hs1 = ⟨put hs.heap id (.cells (cs.set off (share w))), hs.next⟩ ∧
      ∀ hs' cs', get hs'.heap id = some (.cells cs') → cs'[off]? = some w → stepA r a F u ⟨e, hs'⟩ = some ⟨e1, ⟨put hs'.heap id (.cells (cs'.set off (share w))), hs'.next⟩⟩ := by
  obtain ⟨p, rfl, hop, hth⟩ := isT_op h
  have hn : nkOf u.op = .take := by rw [hop]; rfl
  simp only [stepA, viN, hn] at hr ⊢
  split at hr
  · rename_i st1 h1
    split at hr
    · rename_i d hd
      split at hr
      · rename_i x hx
        split at hr
        · rename_i ho
          simp only [Option.some.injEq] at hr; subst hr
          -- the guard holds
          have go : viGo r u ⟨e, hs⟩ = some ⟨e1, hs1⟩ ∧ ∀ hs', viF r u ⟨e, hs'⟩ = viGo r u ⟨e, hs'⟩ := by
            have dead : ∀ st1 : St, some (setDst u.dst (.tup []) ⟨e, hs⟩) = some st1 → get st1.env d = some x → False := by
              intro st1 h h2
              simp only [Option.some.injEq] at h; subst h
              simp only [hd, setDst, get_put, if_true, Option.some.injEq] at h2
              subst h2
              simp [own1] at ho
            unfold viF at h1
            cases hg : u.guard with
            | none =>
              rw [hg] at h1
              exact ⟨h1, fun hs' => by unfold viF; rw [hg]⟩
            | some sw =>
              obtain ⟨sl, want⟩ := sw
              rw [hg] at h1
              simp only at h1
              split at h1
              · rename_i b hb
                split at h1
                · rename_i hbw
                  exact ⟨h1, fun hs' => by unfold viF; rw [hg]; simp only [hb, hbw]⟩
                · exact (dead _ h1 hx).elim
              · exact (dead _ h1 hx).elim
              · simp at h1
          obtain ⟨hgo, hsame⟩ := go
          unfold viGo at hgo
          simp only [hth, hop, opF, opLd] at hgo
          split at hgo
          · rename_i v st0 hv
            simp only [Option.some.injEq] at hgo
            split at hv
            · rename_i pv e0 hp
              split at hv
              · rename_i v' h1' hl
                simp only [Option.some.injEq, Prod.mk.injEq] at hv
                obtain ⟨rfl, rfl⟩ := hv
                rw [hd] at hgo
                simp only [setDst, St.mk.injEq] at hgo
                obtain ⟨rfl, rfl⟩ := hgo
                simp only [get_put, if_true, Option.some.injEq] at hx
                subst hx
                have hw := own1_firm ho
                have back : ∀ hs' h2, loadAt hs'.heap none 2 pv = some (v', h2) → (match viF r u ⟨e, hs'⟩ with
                    | some st1 => match (some d : Option Nat) with
                      | some d => match get st1.env d with
                        | some a => match own1 a with
                          | true => some st1
                          | false => none
                        | none => none
                      | none => none
                    | none => none) = some ⟨put e0 d (firm v'), ⟨h2, hs'.next⟩⟩ := by
                  intro hs' h2 hl2
                  rw [hsame]
                  unfold viGo
                  simp only [hth, hop, opF, opLd, hp, hl2, hd, setDst, get_put, if_true, ho]
                cases pv <;> simp only [loadAt, reduceCtorEq] at hl
                · rename_i id off
                  split at hl
                  · rename_i cs hg
                    split at hl
                    · simp at hl
                    · rename_i w hcw
                      simp only [takes, Option.some.injEq, Prod.mk.injEq] at hl
                      obtain ⟨rfl, rfl⟩ := hl
                      refine ⟨id, off, cs, w, hg, hcw, hw, rfl, fun hs' cs' hg' hw' => ?_⟩
                      have hb := back hs' _ (take_at hg' hw')
                      simp only at hb
                      exact hb
                  · simp at hl
                · exfalso
                  split at hl
                  · split at hl
                    · split at hl
                      · rename_i u hu
                        simp only [Option.some.injEq, Prod.mk.injEq] at hl
                        obtain ⟨rfl, _⟩ := hl
                        unfold ofElem at hu
                        simp only at hu
                        split at hu
                        · simp only [Option.some.injEq] at hu; subst hu; rcases hw with ⟨_, _, _, h⟩ | h <;> simp at h
                        · simp at hu
                      · simp at hl
                    · simp at hl
                  · simp at hl
                · exfalso
                  split at hl
                  · rename_i u hu
                    simp only [Option.some.injEq, Prod.mk.injEq] at hl
                    obtain ⟨rfl, _⟩ := hl
                    unfold ofElem at hu
                    simp only at hu
                    split at hu
                    · simp only [Option.some.injEq] at hu; subst hu; rcases hw with ⟨_, _, _, h⟩ | h <;> simp at h
                    · simp at hu
                  · simp at hl
              · simp at hv
            · simp at hv
          · simp at hgo
        · simp at hr
      · simp at hr
    · simp at hr
  · simp at hr
theorem put_put {α : Type} {l : List (Nat × α)} (h : Srt l) (k : Nat) (a b : α) : put (put l k a) k b = put l k b := by
  refine srt_ext ((h.put _ _).put _ _) (h.put _ _) fun q => ?_
  simp only [get_put]
  split <;> rfl
theorem put_comm {α : Type} {l : List (Nat × α)} (h : Srt l) {j k : Nat} (hjk : j ≠ k) (a b : α) : put (put l j a) k b = put (put l k b) j a := by
  refine srt_ext ((h.put _ _).put _ _) ((h.put _ _).put _ _) fun q => ?_
  simp only [get_put]
  by_cases h1 : q = k
  · rw [if_pos h1, if_pos h1, if_neg (fun h => hjk (h.symm.trans h1))]
  · rw [if_neg h1, if_neg h1]
theorem put_del {α : Type} {l : List (Nat × α)} (h : Srt l) {j k : Nat} (hjk : j ≠ k) (a : α) : put (del l k) j a = del (put l j a) k := by
  refine srt_ext ((h.del _).put _ _) ((h.put _ _).del _) fun q => ?_
  simp only [get_put, get_del]
  by_cases h1 : q = k
  · rw [if_pos h1, if_pos h1, if_neg (fun h => hjk (h.symm.trans h1))]
  · rw [if_neg h1, if_neg h1]

theorem swap_TT {a b : Bool} {u v : VI} (hu : isT a u = true) (hv : isT b v = true) (hap : apart2 a b u v = true) {F : List Nat} {st st1 st2 : St} (inv : Inv st) (h1 : stepA r a F u st = some st1) (h2 : stepA r b F v st1 = some st2) : ∃ st1', stepA r b F v st = some st1' ∧ stepA r a F u st1' = some st2 := by
  obtain ⟨R1, M1, R2, M2, f1, f2, d1, d2⟩ := foot_apart hap
  have l1 := locW_step (r := r) f1 F
  have l2 := locW_step (r := r) f2 F
  obtain ⟨e, hs⟩ := st
  obtain ⟨e1, hs1⟩ := st1
  obtain ⟨e2, hs2⟩ := st2
  have hsh : Srt hs.heap := inv.sh
  obtain ⟨i1, o1, c1, w1, g1, k1, n1, rfl, b1⟩ := take_run hu h1
  obtain ⟨i2, o2, c2, w2, g2, k2, n2, rfl, b2⟩ := take_run hv h2
  simp only at g2 b2 h2
  rw [get_put] at g2
  by_cases hi : i2 = i1
  · subst hi
    rw [if_pos rfl] at g2
    simp only [Option.some.injEq, Obj.cells.injEq] at g2
    subst g2
    rw [put_put hsh] at h2
    by_cases ho : o1 = o2
    · subst ho
      have hlt : o1 < c1.length := by
        rcases Nat.lt_or_ge o1 c1.length with h | h
        · exact h
        · rw [List.getElem?_eq_none h] at k1; simp at k1
      rw [List.getElem?_set_self hlt] at k2
      simp only [Option.some.injEq] at k2
      have hw1 : w1 = .nl := by
        rcases n1 with ⟨p, m, xs, rfl⟩ | h
        · exfalso
          subst k2
          cases p <;> rcases n2 with ⟨_, _, _, h⟩ | h <;> simp [share] at h
        · exact h
      subst hw1
      have hw2 : w2 = .nl := by rw [← k2]; rfl
      subst hw2
      rw [put_put hsh]
      refine swap_w l1 l2 d1 d2 inv.se h1 h2 (b2 hs c1 g1 k1) ?_
      have := b1 ⟨put hs.heap i2 (.cells (c1.set o1 (share .nl))), hs.next⟩ (c1.set o1 (share .nl)) (by simp only [get_put, if_true]) (by rw [List.getElem?_set_self hlt]; rfl)
      rw [this]
      simp only [put_put hsh]
    · rw [put_put hsh]
      have k2' : c1[o2]? = some w2 := by rw [List.getElem?_set_ne ho] at k2; exact k2
      refine swap_w l1 l2 d1 d2 inv.se h1 h2 (b2 hs c1 g1 k2') ?_
      have := b1 ⟨put hs.heap i2 (.cells (c1.set o2 (share w2))), hs.next⟩ (c1.set o2 (share w2)) (by simp only [get_put, if_true]) (by rw [List.getElem?_set_ne (fun h => ho h.symm)]; exact k1)
      rw [this]
      simp only [put_put hsh]
      rw [List.set_comm _ _ ho]
  · rw [if_neg hi] at g2
    refine swap_w l1 l2 d1 d2 inv.se h1 h2 (b2 hs c2 g2 k2) ?_
    have := b1 ⟨put hs.heap i2 (.cells (c2.set o2 (share w2))), hs.next⟩ c1 (by simp only [get_put]; rw [if_neg (fun h => hi h.symm)]; exact g1) k1
    rw [this]
    simp only
    rw [put_comm hsh hi]

theorem isP_none {b : Bool} {v : VI} (h : isP v = true) (hb : (!b || isT b v) = true) : b = false := by
  cases b with
  | false => rfl
  | true =>
    exfalso
    simp only [Bool.not_true, Bool.false_or] at hb
    obtain ⟨p, _, hop, hth⟩ := isT_op hb
    unfold isP kindV at h
    simp only [hth, hop] at h
    simp at h
theorem swap_TP {a : Bool} {u v : VI} (hu : isT a u = true) (hv : isP v = true) (hap : apart2 a false u v = true) {F : List Nat} {st st1 st2 : St} (inv : Inv st) (h1 : stepA r a F u st = some st1) (h2 : viF r v st1 = some st2) : ∃ st1', viF r v st = some st1' ∧ stepA r a F u st1' = some st2 := by
  obtain ⟨R1, M1, R2, M2, f1, f2, d1, d2⟩ := foot_apart hap
  have l1 := locW_step (r := r) f1 F
  have l2 := locW_step (r := r) f2 F
  obtain ⟨e, hs⟩ := st
  obtain ⟨e1, hs1⟩ := st1
  obtain ⟨e2, hs2⟩ := st2
  have hsh : Srt hs.heap := inv.sh
  have s1 : Srt e1 := (l1 e hs _ h1).1 inv.se
  obtain ⟨i1, o1, c1, w1, g1, k1, n1, rfl, b1⟩ := take_run hu h1
  have hle : HLe (put hs.heap i1 (.cells (c1.set o1 (share w1)))) hs.heap := (HLe.upd (o := some (.cells (c1.set o1 (share w1)))) g1 (fun o1 ho => by simp only [Option.some.injEq] at ho; subst ho; exact like_set k1)).2
  obtain ⟨R, M, hk⟩ := isP_kind hv
  obtain ⟨ρ, τ, K, q1, q2⟩ := kind_at (kind_loc hk) s1 h2
  simp only at q1 q2
  subst q1
  rcases K with K | ⟨id, ⟨m, xs, ga⟩, hρ, hτ⟩
  · have hi := q2 hs (K.1 _ hle)
    rw [K.2] at hi h2 ⊢
    exact swap_w l1 l2 d1 d2 inv.se h1 h2 hi h1
  · have hi := q2 hs (hρ _ hle)
    rw [hτ] at hi h2 ⊢
    have hne : i1 ≠ id := by
      intro h
      subst h
      simp only [get_put, if_true, Option.some.injEq, reduceCtorEq] at ga
    refine swap_w l1 l2 d1 d2 inv.se h1 h2 hi ?_
    have := b1 ⟨del hs.heap id, hs.next⟩ c1 (by simp only [get_del]; rw [if_neg hne]; exact g1) k1
    rw [this]
    simp only
    rw [put_del hsh hne]
theorem swap_PT {b : Bool} {u v : VI} (hu : isP u = true) (hv : isT b v = true) (hap : apart2 false b u v = true) {F : List Nat} {st st1 st2 : St} (inv : Inv st) (h1 : viF r u st = some st1) (h2 : stepA r b F v st1 = some st2) : ∃ st1', stepA r b F v st = some st1' ∧ viF r u st1' = some st2 := by
  obtain ⟨R1, M1, R2, M2, f1, f2, d1, d2⟩ := foot_apart hap
  have l1 := locW_step (r := r) f1 F
  have l2 := locW_step (r := r) f2 F
  obtain ⟨e, hs⟩ := st
  obtain ⟨e1, hs1⟩ := st1
  obtain ⟨e2, hs2⟩ := st2
  have hsh : Srt hs.heap := inv.sh
  obtain ⟨R, M, hk⟩ := isP_kind hu
  obtain ⟨ρ, τ, K, q1, q2⟩ := kind_at (kind_loc hk) inv.se h1
  simp only at q1 q2
  subst q1
  obtain ⟨i2, o2, c2, w2, g2, k2, n2, rfl, b2⟩ := take_run hv h2
  have hle : ∀ {h : Heap}, get h i2 = some (.cells c2) → HLe h (put h i2 (.cells (c2.set o2 (share w2)))) := fun g => (HLe.upd (o := some (.cells (c2.set o2 (share w2)))) g (fun o1 ho => by simp only [Option.some.injEq] at ho; subst ho; exact like_set k2)).1
  rcases K with K | ⟨id, _, hρ, hτ⟩
  · simp only [K.2] at g2 h2 h1 q2 ⊢
    exact swap_w l1 l2 d1 d2 inv.se h1 h2 h2 (q2 _ (K.1 _ (hle g2)))
  · simp only [hτ] at g2 h2 h1 q2 ⊢
    rw [get_del] at g2
    split at g2
    · simp at g2
    · rename_i hne
      refine swap_w l1 l2 d1 d2 inv.se h1 h2 (b2 hs c2 g2 k2) ?_
      have := q2 ⟨put hs.heap i2 (.cells (c2.set o2 (share w2))), hs.next⟩ (hρ _ (hle g2))
      simp only at this
      rw [put_del hsh hne]
      exact this

/-! ### All of them -/
theorem step_plain {a : Bool} {u : VI} (h : (!a || isT a u) = true) {F : List Nat} {st st1 : St} (hr : stepA r a F u st = some st1) : viF r u st = some st1 ∧ (a = true → ∃ d x, u.dst = some d ∧ get st1.env d = some x ∧ own1 x = true) := by
  cases a with
  | false => exact ⟨hr, fun h => by simp at h⟩
  | true =>
    simp only [Bool.not_true, Bool.false_or] at h
    obtain ⟨p, _, hop, hth⟩ := isT_op h
    have hn : nkOf u.op = .take := by rw [hop]; rfl
    simp only [stepA, viN, hn] at hr
    split at hr
    · rename_i st1 h1
      split at hr
      · rename_i d hd
        split at hr
        · rename_i x hx
          split at hr
          · rename_i ho
            simp only [Option.some.injEq] at hr; subst hr
            exact ⟨h1, fun _ => ⟨d, x, hd, hx, ho⟩⟩
          · simp at hr
        · simp at hr
      · simp at hr
    · simp at hr
theorem step_back {a : Bool} {u : VI} (h : (!a || isT a u) = true) {F : List Nat} {st st1 : St} (hr : viF r u st = some st1) (ho : a = true → ∃ d x, u.dst = some d ∧ get st1.env d = some x ∧ own1 x = true) : stepA r a F u st = some st1 := by
  cases a with
  | false => exact hr
  | true =>
    simp only [Bool.not_true, Bool.false_or] at h
    obtain ⟨p, _, hop, hth⟩ := isT_op h
    have hn : nkOf u.op = .take := by rw [hop]; rfl
    obtain ⟨d, x, hd, hx, ho⟩ := ho rfl
    simp only [stepA, viN, hn, hr, hd, hx, ho]
theorem plain_addF {a : Bool} {u : VI} (h : (!a || isT a u) = true) (e : Env) (F : List Nat) : addF a u e F = F := by
  cases a with
  | false => rfl
  | true => exact isT_addF (by simpa using h) e F
theorem may_kinds {u v : VI} (h : mayPass u v = true) : ∃ k1 R1 M1 k2 R2 M2, kindV u = some (k1, R1, M1) ∧ kindV v = some (k2, R2, M2) ∧ (∀ k ∈ M1, k ∉ M2) := by
  unfold mayPass at h
  split at h
  · rename_i k1 R1 M1 k2 R2 M2 e1 e2
    simp only [Bool.and_eq_true] at h
    obtain ⟨⟨⟨_, _⟩, a2⟩, _⟩ := h
    exact ⟨k1, R1, M1, k2, R2, M2, e1, e2, fun k hk => apartN_mem a2 k hk⟩
  · simp at h
theorem passH_swap {a b : Bool} {u v : VI} (h : passH a b u v = true) {F : List Nat} {st st1 st2 : St} (inv : Inv st) (h1 : stepA r a F u st = some st1) (h2 : stepA r b (addF a u st.env F) v st1 = some st2) : Swap r a b u v F st st1 st2 := by
  simp only [passH, Bool.and_eq_true] at h
  obtain ⟨⟨ha, hb⟩, h⟩ := h
  rw [plain_addF ha] at h2
  have fin : (∃ st1', stepA r b F v st = some st1' ∧ stepA r a F u st1' = some st2) → Swap r a b u v F st st1 st2 := by
    intro ⟨st1', k1, k2⟩
    refine ⟨st1', k1, by rw [plain_addF hb]; exact k2, ?_⟩
    rw [plain_addF hb, plain_addF ha, plain_addF ha, plain_addF hb]
    exact fun k hk => hk
  simp only [Bool.or_eq_true, Bool.and_eq_true] at h
  rcases h with h | ⟨hap, h⟩
  · obtain ⟨p1, o1⟩ := step_plain ha h1
    obtain ⟨p2, o2⟩ := step_plain hb h2
    obtain ⟨st1', q1, q2⟩ := swap_kinds h inv p1 p2
    obtain ⟨k1, R1, M1, k2, R2, M2, e1, e2, hap⟩ := may_kinds h
    obtain ⟨e, hs⟩ := st
    obtain ⟨en1, hs1⟩ := st1
    obtain ⟨en1', hs1'⟩ := st1'
    refine fin ⟨_, step_back hb q1 fun hn => ?_, step_back ha q2 fun hn => ?_⟩
    · obtain ⟨d, x, hd, hx, ho⟩ := o2 hn
      refine ⟨d, x, hd, ?_, ho⟩
      obtain ⟨_, _, _, _, _, g, _⟩ := kind_loc e1 en1' hs1' _ q2
      rw [← g d fun hm => hap d hm (kindV_dst e2 hd)]
      exact hx
    · obtain ⟨d, x, hd, hx, ho⟩ := o1 hn
      refine ⟨d, x, hd, ?_, ho⟩
      obtain ⟨_, _, _, _, _, g, _⟩ := kind_loc e2 en1 hs1 _ p2
      rw [g d (hap d (kindV_dst e1 hd))]
      exact hx
  · rcases h with (h | h) | h
    · exact fin (swap_TT h.1 h.2 hap inv h1 h2)
    · have := isP_none h.2 hb
      subst this
      exact fin (swap_TP h.1 h.2 hap inv h1 h2)
    · have := isP_none h.1 ha
      subst this
      exact fin (swap_PT h.1 h.2 hap inv h1 h2)
theorem isT_kind {a : Bool} {i : VI} (h : isT a i = true) : ∃ R M, kindV i = some (.t, R, M) := by
  obtain ⟨p, _, hop, hth⟩ := isT_op h
  unfold kindV
  simp only [hth, hop]
  exact ⟨_, _, rfl⟩
theorem inv_same {st st1 : St} (inv : Inv st) (he : Srt st1.env) (hh : st1.hs = st.hs) : Inv st1 := ⟨he, by rw [hh]; exact inv.sh, by rw [hh]; exact inv.fr⟩
theorem ext_srt {u : VI} {j : Nat} {m : Bool} {i d : Nat} (ho : u.op = .ext j m i) (hd : u.dst = some d) (hg : u.guard = none) (ht : u.th = []) {st st1 : St} (hs : Srt st.env) (h1 : viF r u st = some st1) : Srt st1.env := by
  obtain ⟨e, hs0⟩ := st
  rw [ext_run ho hd hg ht] at h1
  split at h1
  · split at h1
    · simp only [Option.some.injEq] at h1; subst h1
      exact (extE_srt hs _ _ _).put _ _
    · simp at h1
  · simp at h1
theorem extPair_srt {a b : Bool} {u v : VI} (h : extPair a b u v = true) {F : List Nat} {st st1 : St} (hs : Srt st.env) (h1 : stepA r a F u st = some st1) : Srt st1.env := by
  simp only [extPair, Bool.and_eq_true, Bool.not_eq_true'] at h
  obtain ⟨⟨⟨⟨rfl, rfl⟩, ht1⟩, ht2⟩, h⟩ := h
  split at h
  · rename_i j m i l n k d c o1 o2 dd1 dd2 g1 g2
    exact ext_srt o1 dd1 g1 (isNil_eq ht1) hs h1
  · simp at h
theorem pass_inv {a b : Bool} {u v : VI} (h : passN a b u v = true) (hk : kS b v = false) {F : List Nat} {st st1 : St} (inv : Inv st) (h1 : stepA r a F u st = some st1) : Inv st1 := by
  simp only [passN, Bool.or_eq_true] at h
  rcases h with (h | h) | h
  · obtain ⟨e, hs⟩ := st
    simp only [passE, Bool.and_eq_true, Bool.or_eq_true] at h
    obtain ⟨hap, h⟩ := h
    obtain ⟨R1, M1, R2, M2, f1, f2, d1, d2⟩ := foot_apart hap
    have se := (locW_step (r := r) f1 F e hs _ h1).1 inv.se
    rcases h with ((h | h) | h) | h
    · exact inv_same inv se (blind_vi h h1).1
    · rw [hk] at h; simp at h
    · exact inv_same inv se (rd_heap h.1 h1)
    · simp only [nearBy, Bool.and_eq_true] at h
      obtain ⟨⟨⟨⟨rfl, rfl⟩, hq⟩, hn⟩, hc⟩ := h
      exact inv_same inv se (rd_heap (by simp only [isRd, hq, hn, Bool.or_true, Bool.and_true]) h1)
  · obtain ⟨e, hs⟩ := st
    exact inv_same inv (extPair_srt h inv.se h1) (blind_vi (extPair_kS h) h1).1
  · simp only [Bool.and_eq_true] at h
    obtain ⟨_, h⟩ := h
    simp only [passH, Bool.and_eq_true] at h
    obtain ⟨⟨ha, hb⟩, h⟩ := h
    obtain ⟨p1, _⟩ := step_plain ha h1
    simp only [Bool.or_eq_true, Bool.and_eq_true] at h
    rcases h with h | ⟨hap, h⟩
    · obtain ⟨k1, R1, M1, _, _, _, e1, _, _⟩ := may_kinds h
      exact kind_inv e1 inv p1
    · rcases h with (h | h) | h
      · obtain ⟨R, M, e1⟩ := isT_kind h.1; exact kind_inv e1 inv p1
      · obtain ⟨R, M, e1⟩ := isT_kind h.1; exact kind_inv e1 inv p1
      · obtain ⟨R, M, e1⟩ := isP_kind h.1; exact kind_inv e1 inv p1
theorem pass_srt {a b : Bool} {u v : VI} (h : passN a b u v = true) (hk : kS b v = true) {F : List Nat} {st st1 : St} (hs : Srt st.env) (h1 : stepA r a F u st = some st1) : Srt st1.env := by
  simp only [passN, Bool.or_eq_true] at h
  rcases h with (h | h) | h
  · obtain ⟨e, hs0⟩ := st
    simp only [passE, Bool.and_eq_true] at h
    obtain ⟨R1, M1, R2, M2, f1, f2, d1, d2⟩ := foot_apart h.1
    exact (locW_step (r := r) f1 F e hs0 _ h1).1 hs
  · exact extPair_srt h hs h1
  · rw [hk] at h; simp at h
theorem pass_s {a b : Bool} {u v : VI} (h : passN a b u v = true) (hk : kS b v = true) {F : List Nat} {st st1 st2 : St} (hs : Srt st.env) (h1 : stepA r a F u st = some st1) (h2 : stepA r b (addF a u st.env F) v st1 = some st2) : Swap r a b u v F st st1 st2 := by
  simp only [passN, Bool.or_eq_true] at h
  rcases h with (h | h) | h
  · exact passE_swap h hs h1 h2
  · exact extPair_swap h hs h1 h2
  · rw [hk] at h; simp at h
theorem pass_h {a b : Bool} {u v : VI} (h : passN a b u v = true) {F : List Nat} {st st1 st2 : St} (inv : Inv st) (h1 : stepA r a F u st = some st1) (h2 : stepA r b (addF a u st.env F) v st1 = some st2) : Swap r a b u v F st st1 st2 := by
  simp only [passN, Bool.or_eq_true] at h
  rcases h with (h | h) | h
  · exact passE_swap h inv.se h1 h2
  · exact extPair_swap h inv.se h1 h2
  · simp only [Bool.and_eq_true] at h
    exact passH_swap h.2 inv h1 h2
end
end Go.Vm

/-
  REGIONS THAT DRAW THEIR ORDER (11): what the check has seen.
-/
namespace Go.Vm

/-- One operation waits for another, through others too. -/
inductive Path (ops : Array Oper) : Nat → Nat → Prop
  | one {i : Nat} {o : Oper} {e : Edge} : ops[i]? = some o → e ∈ o.after → wideGround e.ground = true → Path ops i e.on
  | more {i j : Nat} {o : Oper} {e : Edge} : ops[i]? = some o → e ∈ o.after → wideGround e.ground = true → Path ops e.on j → Path ops i j
theorem unionN_mem {k : Nat} : ∀ {a l : List Nat}, k ∈ unionN a l → k ∈ a ∨ k ∈ l
  | [], l, h => .inr h
  | x :: r, l, h => by
    simp only [unionN] at h
    split at h
    · rcases unionN_mem h with h | h
      · exact .inl (.tail _ h)
      · exact .inr h
    · rcases unionN_mem h with h | h
      · exact .inl (.tail _ h)
      · rcases List.mem_cons.1 h with rfl | h
        · exact .inl (.head _)
        · exact .inr h
def TabOf (ops : Array Oper) (tab : List (Nat × List Nat)) : Prop := ∀ i l, get tab i = some l → ∀ j ∈ l, Path ops i j
theorem ancOf_path {ops : Array Oper} {tab : List (Nat × List Nat)} (ht : TabOf ops tab) {i : Nat} {o : Oper} (ho : ops[i]? = some o) : ∀ {es : List Edge}, (∀ e ∈ es, e ∈ o.after) → ∀ j, j ∈ ancOf tab es → Path ops i j
  | [], _, j, h => by simp [ancOf] at h
  | e :: r, hes, j, h => by
    simp only [ancOf] at h
    have hr := ancOf_path ht ho (es := r) (fun x hx => hes x (.tail _ hx)) j
    split at h
    · rename_i hw
      rcases unionN_mem h with h | h
      · rcases List.mem_cons.1 h with rfl | h
        · exact .one ho (hes e (.head _)) hw
        · split at h
          · rename_i l hl
            exact .more ho (hes e (.head _)) hw (ht _ _ hl _ h)
          · simp at h
      · exact hr h
    · exact hr h
theorem ancTab_path {ops : Array Oper} : ∀ {l : List Nat} {tab : List (Nat × List Nat)}, TabOf ops tab → TabOf ops (ancTab ops l tab)
  | [], _, ht => ht
  | i :: l, tab, ht => by
    simp only [ancTab]
    refine ancTab_path fun k m h j hj => ?_
    rw [get_cons] at h
    split at h
    · rename_i e
      subst e
      simp only [Option.some.injEq] at h; subst h
      split at hj
      · rename_i o ho
        exact ancOf_path ht ho (fun e he => Array.mem_toList_iff.1 he) j hj
      · simp at hj
    · exact ht k m h j hj

/-- Why an instruction may come ahead of one that the interpreter runs before it. -/
def RelP (anc : List (Nat × List Nat)) (nr : List Nat) (vs : List VI) (j i : Nat) : Prop :=
  (dep anc i j = true ∨ ∃ u v, vs[j]? = some u ∧ vs[i]? = some v ∧ passN (memN j nr) (memN i nr) u v = true) ∨ (isLate anc vs i = true ∧ (∀ k, k < vs.length → dep anc k i = true → dep anc k j = true) ∧ dep anc j i = false)
theorem allDep_get {anc : List (Nat × List Nat)} {i j : Nat} : ∀ {n : Nat}, allDep anc i j n = true → ∀ k, k < n → dep anc k i = true → dep anc k j = true
  | 0, _, k, hk, _ => by omega
  | n + 1, h, k, hk, hd => by
    simp only [allDep, Bool.and_eq_true, Bool.or_eq_true, Bool.not_eq_true'] at h
    by_cases e : k = n
    · subst e
      rcases h.1 with h1 | h1
      · rw [h1] at hd; simp at hd
      · exact h1
    · exact allDep_get h.2 k (by omega) hd
theorem dep_path {ops : Array Oper} {anc : List (Nat × List Nat)} (ha : TabOf ops anc) {k i : Nat} (h : dep anc k i = true) : Path ops k i := by
  unfold dep at h
  split at h
  · rename_i l hl; exact ha _ _ hl _ (memN_mem.1 h)
  · simp at h
/-- What the check has seen. -/
structure DrawPOK (P : Program) (n : Nat) (ops : Array Oper) (nr : List Nat) (vs : List VI) (perm : List Nat) (anc : List (Nat × List Nat)) : Prop where
  len : vs.length = ops.size
  vi : ∀ (i : Nat) (v : VI) (o : Oper), vs[i]? = some v → ops[i]? = some o → chkVI P n ops v o = true
  edge : ∀ (i : Nat) (o : Oper), ops[i]? = some o → ∀ e ∈ o.after, e.on < ops.size ∧ (txG e.ground = true → e.on < i)
  pair : perm.Pairwise fun j i => RelP anc nr vs j i
  path : ∀ k i, dep anc k i = true → Path ops k i
  gco : ∃ gl : List Nat, (∀ i, i < ops.size → i ∈ gl) ∧ gl.Pairwise (fun j i => ∀ o, ops[j]? = some o → ∀ e ∈ o.after, gcG e.ground = true → e.on ≠ i) ∧ ∀ j ∈ gl, ∀ o, ops[j]? = some o → ∀ e ∈ o.after, gcG e.ground = true → e.on ≠ j
  nd : perm.Nodup
  lt : ∀ i ∈ perm, i < ops.size
  near : ∀ (i : Nat) (v : VI), memN i nr = true → vs[i]? = some v → nkOf v.op ≠ .read ∨ ∃ R M, kindV v = some (.q, R, M)
  all : ∀ i, i < ops.size → i ∈ perm

theorem chkEach_get {P : Program} {n : Nat} {ops : Array Oper} {k : Nat} : ∀ {vs : List VI} {os : List Oper} {b : Nat}, chkEach P n ops k b vs os = true → vs.length = os.length ∧
    ∀ (i : Nat) (v : VI) (o : Oper), vs[i]? = some v → os[i]? = some o → chkVI P n ops v o = true ∧ ∀ e ∈ o.after, e.on < k ∧ (txG e.ground = true → e.on < b + i)
  | [], [], _, _ => ⟨rfl, fun i v o h => by simp at h⟩
  | x :: vs, p :: os, b, h => by
    simp only [chkEach, Bool.and_eq_true] at h
    obtain ⟨⟨h1, h3⟩, h4⟩ := h
    obtain ⟨k1, k2⟩ := chkEach_get h4
    refine ⟨by simp [k1], fun i v o hv ho => ?_⟩
    cases i with
    | zero =>
      simp only [List.getElem?_cons_zero, Option.some.injEq] at hv ho
      subst hv ho
      refine ⟨h1, fun e he => ?_⟩
      have := List.all_eq_true.1 h3 e (Array.mem_toList_iff.2 he)
      simp only [Bool.and_eq_true, Bool.or_eq_true, Bool.not_eq_true', Nat.blt_eq] at this
      refine ⟨this.1, fun ht => ?_⟩
      rcases this.2 with h | h
      · rw [ht] at h; simp at h
      · omega
    | succ i =>
      simp only [List.getElem?_cons_succ] at hv ho
      obtain ⟨q1, q2⟩ := k2 i v o hv ho
      exact ⟨q1, fun e he => ⟨(q2 e he).1, fun ht => by have := (q2 e he).2 ht; omega⟩⟩
  | [], _ :: _, _, h => by simp [chkEach] at h
  | _ :: _, [], _, h => by simp [chkEach] at h
theorem passAll_get {anc : List (Nat × List Nat)} {nr : List Nat} {vs : List VI} {j : Nat} : ∀ {l : List Nat}, passAll anc nr vs j l = true → ∀ i ∈ l, RelP anc nr vs j i
  | [], _, i, hi => by simp at hi
  | x :: r, h, i, hi => by
    simp only [passAll, Bool.and_eq_true, Bool.or_eq_true] at h
    rcases List.mem_cons.1 hi with rfl | hi
    · rcases h.1 with (h | h) | h
      · exact .inl (.inl h)
      · split at h
        · rename_i u v h1 h2
          exact .inl (.inr ⟨u, v, h1, h2, h⟩)
        · simp at h
      · simp only [Bool.not_eq_true'] at h; exact .inr ⟨h.1.1, allDep_get h.1.2, h.2⟩
    · exact passAll_get h.2 i hi
theorem noWait_get {ops : Array Oper} {j : Nat} {l : List Nat} (h : noWait ops j l = true) : ∀ i ∈ l, ∀ o, ops[j]? = some o → ∀ e ∈ o.after, gcG e.ground = true → e.on ≠ i := by
  intro i hi o ho e he hg heq
  unfold noWait at h
  rw [ho] at h
  have := List.all_eq_true.1 h e (Array.mem_toList_iff.2 he)
  rw [heq, memN_mem.2 hi, hg] at this
  simp at this
theorem chkGc_get {ops : Array Oper} : ∀ {l : List Nat}, chkGc ops l = true → l.Pairwise (fun j i => ∀ o, ops[j]? = some o → ∀ e ∈ o.after, gcG e.ground = true → e.on ≠ i) ∧ ∀ j ∈ l, ∀ o, ops[j]? = some o → ∀ e ∈ o.after, gcG e.ground = true → e.on ≠ j
  | [], _ => ⟨.nil, fun i hi => by simp at hi⟩
  | j :: r, h => by
    simp only [chkGc, Bool.and_eq_true] at h
    obtain ⟨h0, h4⟩ := h
    obtain ⟨k4, k5⟩ := chkGc_get h4
    have hw := noWait_get h0
    refine ⟨.cons (fun i hi => hw i (.tail _ hi)) k4, fun i hi => ?_⟩
    rcases List.mem_cons.1 hi with rfl | hi
    · exact hw _ (.head _)
    · exact k5 i hi
theorem chkPerm_get {ops : Array Oper} {anc : List (Nat × List Nat)} {nr : List Nat} {vs : List VI} : ∀ {l : List Nat}, chkPerm ops anc nr vs l = true → l.Pairwise (fun j i => RelP anc nr vs j i) ∧
    l.Nodup ∧ ∀ i ∈ l, i < vs.length
  | [], _ => ⟨.nil, .nil, fun i hi => by simp at hi⟩
  | j :: r, h => by
    simp only [chkPerm, Bool.and_eq_true, Bool.not_eq_true'] at h
    obtain ⟨⟨⟨h1, h2⟩, h3⟩, h4⟩ := h
    obtain ⟨k1, k2, k3⟩ := chkPerm_get h4
    refine ⟨.cons (passAll_get h1) k1, List.nodup_cons.2 ⟨fun hm => ?_, k2⟩, fun i hi => ?_⟩
    · rw [memN_mem.2 hm] at h2; simp at h2
    · rcases List.mem_cons.1 hi with rfl | hi
      · rwa [Nat.blt_eq] at h3
      · exact k3 i hi
theorem allIn_mem {l : List Nat} : ∀ {n : Nat}, allIn l n = true → ∀ i, i < n → i ∈ l
  | 0, _, i, hi => by omega
  | n + 1, h, i, hi => by
    simp only [allIn, Bool.and_eq_true] at h
    rcases Nat.lt_or_ge i n with h1 | h1
    · exact allIn_mem h.2 i h1
    · have : i = n := by omega
      subst this
      exact memN_mem.1 h.1
theorem chkNr_get {vs : List VI} : ∀ {nr : List Nat}, chkNr vs nr = true → ∀ (i : Nat) (v : VI), memN i nr = true → vs[i]? = some v → nkOf v.op ≠ .read ∨ ∃ R M, kindV v = some (.q, R, M)
  | [], _, i, v, h, _ => by simp [memN] at h
  | j :: r, h, i, v, hg, hv => by
    simp only [chkNr, Bool.and_eq_true] at h
    rcases List.mem_cons.1 (memN_mem.1 hg) with e | hm
    · subst e
      have h1 := h.1
      rw [hv] at h1
      simp only [Bool.or_eq_true, Bool.not_eq_true'] at h1
      rcases h1 with h1 | h1
      · exact .inl fun h => by unfold nkRead at h1; rw [h] at h1; simp at h1
      · exact .inr (isQ_kind h1)
    · exact chkNr_get h.2 i v (memN_mem.2 hm) hv
theorem drawPOK {P : Program} {n : Nat} {ops : Array Oper} {gco nr : List Nat} {vs : List VI} {perm : List Nat} (h : chkDrawP P n ops perm gco nr vs = true) : DrawPOK P n ops nr vs perm (ancTab ops perm []) := by
  simp only [chkDrawP, Bool.and_eq_true] at h
  obtain ⟨⟨⟨⟨⟨h1, hnr⟩, hga⟩, hg⟩, h2⟩, h3⟩ := h
  obtain ⟨g1, g2⟩ := chkGc_get hg
  obtain ⟨k1, k2⟩ := chkEach_get h1
  have hl : vs.length = ops.size := by rw [k1]; simp
  have ha : TabOf ops (ancTab ops perm []) := ancTab_path fun i l h => by simp [get_nil] at h
  obtain ⟨q1, q2, q3⟩ := chkPerm_get h3
  have hget : ∀ (i : Nat) (o : Oper), ops[i]? = some o → ops.toList[i]? = some o := fun i o h => by rw [Array.getElem?_toList]; exact h
  refine ⟨hl, fun i v o hv ho => (k2 i v o hv (hget i o ho)).1, fun i o ho e he => ?_, q1, fun k i h => dep_path ha h, ⟨gco, fun i hi => allIn_mem hga i (by omega), g1, g2⟩, q2, fun i hi => by have := q3 i hi; omega, chkNr_get hnr, fun i hi => ?_⟩
  · have hi : i < vs.length := by
      rw [hl]
      rcases Nat.lt_or_ge i ops.size with h | h
      · exact h
      · rw [Array.getElem?_eq_none h] at ho; simp at ho
    have := (k2 i vs[i] o (by simp) (hget i o ho)).2 e he
    exact ⟨by omega, fun ht => by have := this.2 ht; omega⟩
  · exact allIn_mem h2 i (by omega)
end Go.Vm

/-
  REGIONS THAT DRAW THEIR ORDER (12): the walk over such a region.
-/
namespace Go.Vm
section
variable {P : Program} {r : Rec}

theorem heap_obj {g : Gh} {w : World} : ∀ {l : Heap} {O : Nat → Nat}, RHeap P g w l O → ∀ {id : Nat} {o : Obj}, get l id = some o → ∃ b, g.obj id = some b
  | [], _, _, id, o, h => by simp [get_nil] at h
  | (k, v) :: l, O, rh, id, o, h => by
    obtain ⟨Q1, Q2, q1, q2, _⟩ := rh
    rw [get_cons] at h
    split at h
    · rename_i e
      subst e
      cases v with
      | cells cs => simp only [RObj] at q1; obtain ⟨b, _, _, _, h, _⟩ := q1; exact ⟨b, h⟩
      | arr m xs =>
        simp only [RObj] at q1
        rcases q1 with ⟨_, _, _, _, h, _⟩ | ⟨b, _, _, h, _⟩
        · exact h
        · exact ⟨b, h⟩
      | loop _ _ _ _ _ _ => simp only [RObj] at q1; obtain ⟨b, _, h, _⟩ := q1; exact ⟨b, h⟩
    · exact heap_obj q2 h
theorem S.heap_fresh {g : Gh} {w : World} {t : Array Value} {O : Nat → Nat} {st : St} (s : S P g w st t O) {id : Nat} (h : st.hs.next ≤ id) : get st.hs.heap id = none := by
  obtain ⟨Oe, Oh, re, rh, ho⟩ := s.parts
  cases hg : get st.hs.heap id with
  | none => rfl
  | some o =>
    obtain ⟨b, hb⟩ := heap_obj rh hg
    rw [s.fresh id h] at hb; simp at hb
theorem step_any {nr : List Nat} {i : Nat} {F : List Nat} {v : VI} {st st1 : St} (hn : memN i nr = true → nkOf v.op ≠ .read ∨ ∃ R M, kindV v = some (.q, R, M)) (hsrt : Srt st.env) (h : stepA r (memN i nr) F v st = some st1) : viF r v st = some st1 := by
  obtain ⟨e, hs⟩ := st
  cases hg : memN i nr with
  | false => rw [hg] at h; exact h
  | true =>
    rw [hg] at h
    rcases hn hg with h1 | ⟨R, M, h1⟩
    · exact step_vi (R := []) (M := []) hsrt (.inr (.inl h1)) h
    · exact step_vi hsrt (.inr (.inr h1)) h
theorem move_frontS {nr : List Nat} {vs : List VI} {i : Nat} {v : VI} (hv : vs[i]? = some v) (hk : kS (memN i nr) v = true) {l2 : List Nat} : ∀ {l1 : List Nat} {F : List Nat} {st st' : St}, (∀ j ∈ l1, ∃ u, vs[j]? = some u ∧ passN (memN j nr) (memN i nr) u v = true) → Srt st.env →
    runN r nr vs (l1 ++ i :: l2) F st = some st' → runN r nr vs (i :: (l1 ++ l2)) F st = some st'
  | [], F, st, st', _, _, h => h
  | j :: l1, F, st, st', hj, inv, h => by
    obtain ⟨u, hu, hm⟩ := hj j (.head _)
    simp only [List.cons_append, runN, hu] at h
    split at h
    · simp at h
    · rename_i st1 h1
      have h2 := move_frontS hv hk (fun k hk => hj k (.tail _ hk)) (pass_srt hm hk inv h1) h
      simp only [runN, hv] at h2
      split at h2
      · simp at h2
      · rename_i st2 h3
        obtain ⟨st1', k1, k2, k3⟩ := pass_s hm hk inv h1 h3
        simp only [runN, hv, k1, List.cons_append, hu, k2]
        exact runN_sub k3 h2
theorem move_frontH {nr : List Nat} {vs : List VI} {i : Nat} {v : VI} (hv : vs[i]? = some v) (hk : kS (memN i nr) v = false) {l2 : List Nat} : ∀ {l1 : List Nat} {F : List Nat} {st st' : St}, (∀ j ∈ l1, ∃ u, vs[j]? = some u ∧ passN (memN j nr) (memN i nr) u v = true) → Inv st →
    runN r nr vs (l1 ++ i :: l2) F st = some st' → runN r nr vs (i :: (l1 ++ l2)) F st = some st'
  | [], F, st, st', _, _, h => h
  | j :: l1, F, st, st', hj, inv, h => by
    obtain ⟨u, hu, hm⟩ := hj j (.head _)
    simp only [List.cons_append, runN, hu] at h
    split at h
    · simp at h
    · rename_i st1 h1
      have h2 := move_frontH hv hk (fun k hk => hj k (.tail _ hk)) (pass_inv hm hk inv h1) h
      simp only [runN, hv] at h2
      split at h2
      · simp at h2
      · rename_i st2 h3
        obtain ⟨st1', k1, k2, k3⟩ := pass_h hm inv h1 h3
        simp only [runN, hv, k1, List.cons_append, hu, k2]
        exact runN_sub k3 h2
theorem move_frontP {nr : List Nat} {vs : List VI} {i : Nat} {v : VI} (hv : vs[i]? = some v) {l2 l1 : List Nat} {F : List Nat} {st st' : St} (hj : ∀ j ∈ l1, ∃ u, vs[j]? = some u ∧ passN (memN j nr) (memN i nr) u v = true) (inv : Inv st)
    (h : runN r nr vs (l1 ++ i :: l2) F st = some st') : runN r nr vs (i :: (l1 ++ l2)) F st = some st' := by
  cases hk : kS (memN i nr) v with
  | true => exact move_frontS hv hk hj inv.se h
  | false => exact move_frontH hv hk hj inv h

/-! ### New variables and lists that the model makes first -/
theorem srt_get {α : Type} : ∀ {l : List (Nat × α)}, Srt l → ∀ {p : Nat × α}, p ∈ l → get l p.1 = some p.2
  | [], _, p, hp => by simp at hp
  | (k, v) :: r, hs, p, hp => by
    rw [get_cons]
    rcases List.mem_cons.1 hp with rfl | hp
    · simp
    · have h1 := (List.pairwise_cons.1 hs).1 p hp
      have : k ≠ p.1 := (Bef.ne h1).symm
      rw [if_neg this]
      exact srt_get (List.pairwise_cons.1 hs).2 hp
theorem freeOf_get {anc : List (Nat × List Nat)} {d : Nat} {l : List Nat} {i : Nat} : ∀ {vs : List VI} {b : Nat}, freeOf anc d l i b vs = true → ∀ k v, vs[k]? = some v → b + k ≠ i → dep anc (b + k) i = true ∨ ∃ R M, footW v = some (R, M) ∧ d ∉ M ∧ (dep anc i (b + k) = true ∨ ∀ q ∈ l, q ∉ M)
  | [], _, _, k, v, h, _ => by simp at h
  | x :: r, b, h, k, v, hv, hne => by
    simp only [freeOf, Bool.and_eq_true, Bool.or_eq_true] at h
    cases k with
    | zero =>
      simp only [List.getElem?_cons_zero, Option.some.injEq] at hv
      subst hv
      rcases h.1 with (h1 | h1) | h1
      · rw [Nat.beq_eq] at h1; omega
      · exact .inl h1
      · split at h1
        · rename_i R M hf
          simp only [Bool.and_eq_true, Bool.or_eq_true, Bool.not_eq_true'] at h1
          refine .inr ⟨R, M, hf, fun hm => ?_, h1.2.imp id apartN_mem⟩
          rw [memN_mem.2 hm] at h1; simp at h1
        · simp at h1
    | succ k =>
      simp only [List.getElem?_cons_succ] at hv
      have := freeOf_get h.2 k v hv (by omega)
      rwa [show b + 1 + k = b + (k + 1) by omega] at this
theorem lateDst_eq {v : VI} {d : Nat} (h : lateDst v = some d) : (∃ zs, v = ⟨some d, none, .alloc zs, []⟩) ∨ ∃ z l c th, v = ⟨some d, none, .mkslice z l c, th⟩ ∧ stayR l = true ∧ stayR c = true := by
  obtain ⟨dst, gd, op, th⟩ := v
  unfold lateDst at h
  simp only at h
  split at h
  · subst h; exact .inl ⟨_, rfl⟩
  · split at h
    · rename_i l c hs
      subst h
      simp only [Bool.and_eq_true] at hs
      exact .inr ⟨_, _, _, _, rfl, hs.1, hs.2⟩
    · simp at h
  · simp at h
theorem lateDst_parts {v : VI} {d : Nat} (h : lateDst v = some d) : v.dst = some d ∧ v.guard = none ∧ v.op ≠ .bad := by
  rcases lateDst_eq h with ⟨zs, rfl⟩ | ⟨z, l, c, th, rfl, _, _⟩ <;> exact ⟨rfl, rfl, by simp⟩
theorem isLate_get {anc : List (Nat × List Nat)} {vs : List VI} {i : Nat} (h : isLate anc vs i = true) : ∃ v d, vs[i]? = some v ∧ lateDst v = some d ∧ (∀ k u, vs[k]? = some u → k ≠ i → dep anc k i = true ∨ ∃ R M, footW u = some (R, M) ∧ d ∉ M ∧ (dep anc i k = true ∨ ∀ q ∈ lateR v, q ∉ M)) ∧ ∀ j, dep anc i j = true → isLate anc vs j = false := by
  unfold isLate at h
  split at h
  · rename_i v hv
    split at h
    · rename_i d hd
      simp only [Bool.and_eq_true] at h
      refine ⟨v, d, hv, hd, fun k u hk hne => by simpa using freeOf_get h.1 k u hk (by omega), fun j hj => ?_⟩
      unfold dep at hj
      split at hj
      · rename_i l hl
        have h2 := h.2
        rw [hl] at h2
        have := List.all_eq_true.1 h2 j (memN_mem.1 hj)
        unfold isLate
        cases hvj : vs[j]? with
        | none => rfl
        | some u =>
          rw [hvj] at this
          simp only at this ⊢
          cases hu : lateDst u with
          | none => rfl
          | some d2 => rw [hu] at this; simp at this
      · simp at hj
    · simp at h
  · simp at h
theorem kind_foot {v : VI} {k : HKind} {R M : List Nat} (h : kindV v = some (k, R, M)) : footW v = some (R, M) := by simp only [footW, h]
theorem footN_foot {a : Bool} {v : VI} {R M : List Nat} (h : footN a v = some (R, M)) : ∃ R', footW v = some (R', M) := by
  unfold footN at h
  split at h
  · rename_i R0 M0 h0
    cases a with
    | false => simp only [Option.some.injEq, Prod.mk.injEq] at h; obtain ⟨rfl, rfl⟩ := h; exact ⟨_, h0⟩
    | true => simp only [Option.some.injEq, Prod.mk.injEq] at h; obtain ⟨_, rfl⟩ := h; exact ⟨_, h0⟩
  · simp at h
theorem pass_foot {a b : Bool} {u v : VI} (h : passN a b u v = true) (hne : extPair a b u v = false) : ∃ R1 M1 R2 M2, footW u = some (R1, M1) ∧ footW v = some (R2, M2) ∧ (∀ k ∈ M1, k ∉ R2 ∧ k ∉ M2) ∧ ∀ k ∈ M2, k ∉ R1 := by
  have sub : ∀ {a : Bool} {v : VI} {R M : List Nat}, footN a v = some (R, M) → ∃ R', footW v = some (R', M) ∧ ∀ k ∈ R', k ∈ R := fun {a v R M} h => by
    unfold footN at h
    split at h
    · rename_i R0 M0 h0
      cases a with
      | false => simp only [Option.some.injEq, Prod.mk.injEq] at h; obtain ⟨rfl, rfl⟩ := h; exact ⟨_, h0, fun k hk => hk⟩
      | true => simp only [Option.some.injEq, Prod.mk.injEq] at h; obtain ⟨rfl, rfl⟩ := h; exact ⟨_, h0, fun k hk => List.mem_append_left _ hk⟩
    · simp at h
  have ap : apart2 a b u v = true → ∃ R1 M1 R2 M2, footW u = some (R1, M1) ∧ footW v = some (R2, M2) ∧ (∀ k ∈ M1, k ∉ R2 ∧ k ∉ M2) ∧ ∀ k ∈ M2, k ∉ R1 := fun h => by
    obtain ⟨R1, M1, R2, M2, f1, f2, d1, d2⟩ := foot_apart h
    obtain ⟨R1', f1', s1⟩ := sub f1
    obtain ⟨R2', f2', s2⟩ := sub f2
    exact ⟨R1', M1, R2', M2, f1', f2', fun k hk => ⟨fun h => (d1 k hk).1 (s2 k h), (d1 k hk).2⟩, fun k hk h => (d2 k hk).1 (s1 k h)⟩
  simp only [passN, Bool.or_eq_true, hne, Bool.false_eq_true, or_false, Bool.and_eq_true] at h
  rcases h with h | h
  · simp only [passE, Bool.and_eq_true] at h
    exact ap h.1
  · simp only [passH, Bool.and_eq_true, Bool.or_eq_true] at h
    rcases h.2.2 with h | h
    · unfold mayPass at h
      split at h
      · rename_i k1 R1 M1 k2 R2 M2 e1 e2
        simp only [Bool.and_eq_true] at h
        obtain ⟨⟨⟨_, a1⟩, a2⟩, a3⟩ := h
        exact ⟨R1, M1, R2, M2, kind_foot e1, kind_foot e2, fun k hk => ⟨apartN_mem a1 k hk, apartN_mem a2 k hk⟩, fun k hk => apartN_mem a3 k hk⟩
      · simp at h
    · exact ap h.1
theorem late_noext {a b : Bool} {u v : VI} {d : Nat} (hu : lateDst u = some d) : extPair a b u v = false ∧ extPair b a v u = false := by
  rcases lateDst_eq hu with ⟨zs, rfl⟩ | ⟨z, l, c, th, rfl, _, _⟩
  · exact ⟨by simp [extPair], by unfold extPair; cases v.op <;> simp⟩
  · exact ⟨by simp [extPair], by unfold extPair; cases v.op <;> simp⟩
theorem lateR_foot {v : VI} {d : Nat} (hv : lateDst v = some d) {R M : List Nat} (h : footW v = some (R, M)) : ∀ q ∈ lateR v, q ∈ R := by
  rcases lateDst_eq hv with ⟨zs, rfl⟩ | ⟨z, l, c, th, rfl, _, _⟩
  · intro q hq; simp [lateR] at hq
  · intro q hq
    cases th with
    | nil =>
      simp only [footW, kindV, footOf, quietRds, Option.some.injEq, Prod.mk.injEq] at h
      rw [← h.1]
      simp only [gsl]
      exact List.mem_append_left _ hq
    | cons p th =>
      simp only [footW, kindV, footOf, quietRds, Option.some.injEq, Prod.mk.injEq] at h
      rw [← h.1]
      simp only [gsl]
      exact List.mem_append_left _ hq
theorem pass_late1 {a b : Bool} {u v : VI} {d : Nat} (h : passN a b u v = true) (hu : lateDst u = some d) : ∃ R M, footW v = some (R, M) ∧ ∀ q ∈ d :: lateR u, q ∉ M := by
  obtain ⟨R1, M1, R2, M2, f1, f2, h1, h2⟩ := pass_foot h (late_noext hu).1
  refine ⟨R2, M2, f2, fun q hq hm => ?_⟩
  rcases List.mem_cons.1 hq with rfl | hq
  · exact (h1 q (footW_dst f1 (lateDst_parts hu).1)).2 hm
  · exact h2 q hm (lateR_foot hu f1 q hq)
theorem pass_late2 {a b : Bool} {u v : VI} {d : Nat} (h : passN a b u v = true) (hv : lateDst v = some d) : ∃ R M, footW u = some (R, M) ∧ ∀ q ∈ d :: lateR v, q ∉ M := by
  obtain ⟨R1, M1, R2, M2, f1, f2, h1, h2⟩ := pass_foot h (late_noext hv).2
  refine ⟨R1, M1, f1, fun q hq hm => ?_⟩
  rcases List.mem_cons.1 hq with rfl | hq
  · exact (h1 q hm).2 (footW_dst f2 (lateDst_parts hv).1)
  · exact (h1 q hm).1 (lateR_foot hv f2 q hq)
theorem rd_stay {e e' : Env} {x : Rd} (hs : stayR x = true) (h : ∀ q ∈ slotOf x, get e' q = get e q) {v : AV} {e1 : Env} (hr : rd e x = some (v, e1)) : e1 = e ∧ rd e' x = some (v, e') := by
  cases x with
  | s i =>
    have hi := h i (by simp [slotOf])
    simp only [rd] at hr ⊢
    split at hr
    · rename_i u hu
      simp only [Option.some.injEq, Prod.mk.injEq] at hr
      obtain ⟨rfl, rfl⟩ := hr
      rw [hi, hu]
      exact ⟨rfl, rfl⟩
    · simp at hr
  | m i => simp [stayR] at hs
  | c u =>
    simp only [rd, Option.some.injEq, Prod.mk.injEq] at hr ⊢
    exact ⟨hr.2.symm, hr.1, trivial⟩
theorem mk_stay {z : List D} {l c : Rd} {st st2 : St} {a : AV} {st1 : St} (hl : stayR l = true) (hc : stayR c = true) (h : ∀ q ∈ slotsOf [l, c], get st2.env q = get st.env q) (hr : opMkslice z l c st = some (a, st1)) : st1 = st ∧ opMkslice z l c st2 = some (a, st2) := by
  unfold opMkslice at hr ⊢
  split at hr
  · rename_i n e hn
    obtain ⟨rfl, h1⟩ := rd_stay hl (fun q hq => h q (by simp [slotsOf, hq])) hn
    rw [h1]
    split at hr
    · rename_i m e2 hm
      obtain ⟨rfl, h2⟩ := rd_stay hc (fun q hq => h q (by simp [slotsOf, hq])) hm
      simp only [h2]
      split at hr
      · rename_i cc hcc
        split at hr
        · rename_i nn hnn
          simp only [Option.some.injEq, Prod.mk.injEq] at hr
          obtain ⟨rfl, rfl⟩ := hr
          exact ⟨rfl, by simp [hcc, hnn]⟩
        · simp at hr
      · simp at hr
    · simp at hr
  · simp at hr
/-- What the model has made, and the interpreter not yet. -/
inductive PendK (g : Gh) (w : World) (st : St) (d : Nat) : VI → Value → (Nat → Nat) → Prop
  | var {zs : List AV} {b : Nat} {c : Array Value} {el : TypeId} : okConsts zs c.toList = true → w.heap[b]? = some (.cells c el (0, 0)) → (∀ o, ¬ g.pm b o) → PendK g w st d ⟨some d, none, .alloc zs, []⟩ (.pointer (some ⟨b, 0, none⟩)) (one b)
  | list {z : List D} {l c : Rd} {th : List (Nat × Nat)} {a : AV} {x : Value} {A : Nat → Nat} : stayR l = true → stayR c = true → opMkslice z l c st = some (a, st) → RV g w a x A → PendK g w st d ⟨some d, none, .mkslice z l c, th⟩ x A
structure Pend (g : Gh) (w : World) (t : Array Value) (O : Nat → Nat) (st : St) (anc : List (Nat × List Nat)) (vs : List VI) (i : Nat) (A : Nat → Nat) : Prop where
  late : isLate anc vs i = true
  hi : ∀ b, A b ≠ 0 → b < w.heap.size
  le : ∀ b, A b + O b ≤ 1
  it : ∃ v d x, vs[i]? = some v ∧ d < t.size ∧ t[d]? = some x ∧ PendK g w st d v x A
theorem PendK.dst {g : Gh} {w : World} {st : St} {d : Nat} {v : VI} {x : Value} {A : Nat → Nat} (h : PendK g w st d v x A) : lateDst v = some d := by
  cases h with
  | var _ _ _ => rfl
  | list h1 h2 _ _ => simp [lateDst, h1, h2]
theorem PendK.keep {g g' : Gh} {w w' : World} {st st' : St} {d : Nat} {v : VI} {x : Value} {A : Nat → Nat} {T : Nat → Prop} (h : PendK g w st d v x A) (hx : Ext g w g' w' T) (hA : ∀ b, A b ≠ 0 → b < w.heap.size ∧ ¬ T b)
    (he : ∀ q ∈ lateR v, get st'.env q = get st.env q) : PendK g' w' st' d v x A := by
  cases h with
  | var h1 h2 h3 =>
    rename_i zs b c el
    have hb := hA b (by simp)
    obtain ⟨b1, b2⟩ := hx.blk b hb.1 hb.2
    exact .var h1 (b1.trans h2) fun o ho => h3 o (b2 o ho)
  | list h1 h2 h3 h4 => exact .list h1 h2 (mk_stay h1 h2 he h3).2 (RV.ext hx _ _ _ h4 fun b hb => (hA b hb).2)
theorem S.adopt {g : Gh} {w : World} {t : Array Value} {O : Nat → Nat} {st : St} {zs : List AV} {d b : Nat} {c : Array Value} {el : _} (s : S P g w st t O) (hb : b < w.heap.size) (h0 : O b = 0) (hp : ∀ o, ¬ g.pm b o) (hz : okConsts zs c.toList = true)
    (hh : w.heap[b]? = some (.cells c el (0, 0))) (hd : d < t.size) (ht : t[d]? = some (.pointer (some ⟨b, 0, none⟩))) :
    ∃ g' O', S P g' w ⟨put st.env d (.ptr st.hs.next 0), ⟨put st.hs.heap st.hs.next (.cells zs), st.hs.next + 1⟩⟩ t O' ∧ Ext g w g' w (fun _ => False) ∧ (∀ x, x ≠ b → O' x ≤ O x) ∧ g'.pm = g.pm := by
  have hn := s.fresh st.hs.next (Nat.le_refl _)
  have hx : Ext g w (g.add st.hs.next b 0 1 zs.length) w (fun _ => False) := (Ext.refl g w _).add hn _ _ _ _
  have hfr := s.heap_fresh (Nat.le_refl st.hs.next)
  obtain ⟨Oe, Oh, re, rh, ho⟩ := s.parts
  have re' := REnv.ext hx re (by simp)
  have rh' : RHeap P (g.add st.hs.next b 0 1 zs.length) w st.hs.heap Oh := rh.imp' fun k v O1 _ _ q => q.ext hx (by simp) (by simp)
  have hk : ∀ p ∈ st.hs.heap, p.1 ≠ st.hs.next := by
    intro p hp e
    have := srt_get s.sh hp
    rw [e, hfr] at this
    simp at this
  have r : RObj P (g.add st.hs.next b 0 1 zs.length) w st.hs.next (.cells zs) (fun x => zero x + one b x) := by
    simp only [RObj]
    exact ⟨b, c, el, zero, by simp [Gh.add], by simp [Gh.add], by simp [Gh.add], by simp [Gh.add], hh, RVs.consts hz, fun o ho => hp o ho, fun _ => rfl⟩
  rw [← del_of_not_mem hk] at rh'
  obtain ⟨O3, r3, h3⟩ := RL.put s.sh rh' r
  have hle : ∀ x, one b x + O x ≤ 1 := fun x => by
    by_cases e : x = b
    · subst e; rw [h0]; simp [one]
    · have := s.le x; simp [one, e]; exact this
  have s1 : S P (g.add st.hs.next b 0 1 zs.length) w ⟨st.env, ⟨put st.hs.heap st.hs.next (.cells zs), st.hs.next + 1⟩⟩ t (fun x => one b x + O x) := by
    refine ⟨s.se, s.sh.put _ _, ⟨Oe, O3, re', r3, fun x => ?_⟩, hle, fun x hxx => ?_, fun i hi => ?_, s.pmlt⟩
    · have q1 := h3 x; have q2 := ho x; have z : zero x = 0 := rfl; show one b x + O x = Oe x + O3 x; omega
    · by_cases e : x = b
      · subst e; exact hb
      · exact s.hi x (by simp [one, e] at hxx; exact hxx)
    · have hi' : st.hs.next + 1 ≤ i := hi
      simp only [Gh.add]
      rw [if_neg (by omega)]
      exact s.fresh i (by omega)
  have rv : RV (g.add st.hs.next b 0 1 zs.length) w (.ptr st.hs.next 0) (.pointer (some ⟨b, 0, none⟩)) zero := by
    simp only [RV]
    exact ⟨⟨b, by simp [Gh.add], by simp [Gh.add]⟩, fun _ => trivial⟩
  obtain ⟨O4, s4, l4⟩ := s1.setTmp hd rv (fun x => by have := hle x; simpa using this) (fun x hx => by simp at hx)
  have htt : t.setIfInBounds d (.pointer (some ⟨b, 0, none⟩)) = t := by
    apply Array.ext_getElem?
    intro k
    rw [Array.getElem?_setIfInBounds]
    by_cases e : d = k
    · subst e; rw [if_pos rfl, if_pos hd, ht]
    · simp [e]
  rw [htt] at s4
  exact ⟨_, O4, s4, hx, fun x hne => by
    have q := l4 x
    have z : zero x = 0 := rfl
    have o1 : one b x = 0 := by simp [one, hne]
    omega, rfl⟩
theorem S.setOther {g : Gh} {w : World} {t : Array Value} {O : Nat → Nat} {st : St} (s : S P g w st t O) {d : Nat} (hd : get st.env d = none) (x : Value) : S P g w st (t.setIfInBounds d x) O := by
  obtain ⟨Oe, Oh, re, rh, ho⟩ := s.parts
  refine ⟨s.se, s.sh, ⟨Oe, Oh, re.imp' fun k v O1 hm _ q => ?_, rh, ho⟩, s.le, s.hi, s.fresh, s.pmlt⟩
  have hk : d ≠ k := by
    rintro rfl
    have := srt_get s.se hm
    rw [hd] at this; simp at this
  refine ⟨by simpa using q.1, ?_⟩
  have : (t.setIfInBounds d x).getD k undef = t.getD k undef := by
    simp only [Array.getD_eq_getD_getElem?, Array.getElem?_setIfInBounds]
    rw [if_neg hk]
  rw [this]; exact q.2

/-- The interpreter makes it. -/
theorem PendK.make {g : Gh} {w : World} {t : Array Value} {O : Nat → Nat} {st st1 : St} {d : Nat} {v : VI} {x : Value} {A : Nat → Nat} (h : PendK g w st d v x A) (s : S P g w st t O) (hle : ∀ b, A b + O b ≤ 1) (hhi : ∀ b, A b ≠ 0 → b < w.heap.size) (hd : d < t.size) (ht : t[d]? = some x)
    (hr : viF r v st = some st1) : ∃ g' O', S P g' w st1 t O' ∧ Ext g w g' w (fun b => A b ≠ 0 ∨ O b ≠ 0) ∧ (∀ b, O' b ≤ A b + O b) := by
  cases h with
  | var h1 h2 h3 =>
    rename_i zs b c el
    have h9 : st1 = ⟨put st.env d (.ptr st.hs.next 0), ⟨put st.hs.heap st.hs.next (.cells zs), st.hs.next + 1⟩⟩ := by
      simp only [viF, viGo, opF, opAlloc, boxNew, setDst, firm, firm2, firm1, Option.some.injEq] at hr
      exact hr.symm
    have hob : O b = 0 := by have := hle b; simp at this; omega
    obtain ⟨g', O', s', x', l', _⟩ := s.adopt (hhi b (by simp)) hob h3 h1 h2 hd ht
    rw [← h9] at s'
    refine ⟨g', O', s', x'.mono fun _ _ h => h.elim, fun q => ?_⟩
    by_cases e : q = b
    · subst e; have := s'.le q; simp; omega
    · have := l' q e; omega
  | list h1 h2 h3 h4 =>
    rename_i z l c th a
    simp only [viF] at hr
    obtain ⟨v', st2, hv, rfl⟩ := viGo_eq hr
    simp only [opF] at hv
    rw [h3] at hv
    simp only [Option.some.injEq, Prod.mk.injEq] at hv
    obtain ⟨rfl, rfl⟩ := hv
    obtain ⟨g2, Ov2, O2, r2, s2, x2, l2⟩ := thaws_parts (P := P) (t := t) th (env := st.env) (hs := st.hs) s h4 hle hhi
    have hle2 : ∀ b, Ov2 b + O2 b ≤ 1 := fun b => Nat.le_trans (l2 b) (hle b)
    obtain ⟨g3, r3, s3, x3⟩ := firm_rel s2 r2 hle2
    obtain ⟨O4, s4, l4⟩ := s3.setTmp hd r3 hle2 fun b hb => by
      by_cases h : A b = 0
      · exact s.hi b (by have := l2 b; omega)
      · exact hhi b h
    have htt : t.setIfInBounds d x = t := by
      apply Array.ext_getElem?
      intro k
      rw [Array.getElem?_setIfInBounds]
      by_cases e : d = k
      · subst e; rw [if_pos rfl, if_pos hd, ht]
      · simp [e]
    rw [htt] at s4
    exact ⟨g3, O4, s4, (x2.mono (T := fun b => A b ≠ 0 ∨ O b ≠ 0) fun _ _ h => h.elim).trans x3 fun b _ hb => by have := l2 b; omega, fun b => by have := l4 b; have := l2 b; omega⟩
/-- Which indices are left, in the interpreter's order; 'pd': those that the model has behind it, with what they own. -/
structure LeftQ (ops : Array Oper) (nr : List Nat) (vs : List VI) (anc : List (Nat × List Nat)) (m : Region.Mode) (listed : Array Bool) (rem : List Nat) (pd : Nat → Option (Nat → Nat)) : Prop where
  pair : rem.Pairwise fun j i => RelP anc nr vs j i
  nd : rem.Nodup
  lt : ∀ i ∈ rem, i < ops.size
  size : listed.size = ops.size
  mem : ∀ i, i < ops.size → (i ∈ rem ↔ (listed.getD i true = false ∨ (pd i).isSome = true))
  pdl : ∀ i b, pd i = some b → i < ops.size ∧ listed.getD i false = true
  closed : ∀ i o, listed.getD i false = true → ops[i]? = some o → ∀ e ∈ o.after, Region.binds m e = true → listed.getD e.on false = true
/-- Where the walk stands. -/
structure Cf (P : Program) (r : Rec) (n : Nat) (ops : Array Oper) (nr : List Nat) (vs : List VI) (anc : List (Nat × List Nat)) (m : Region.Mode) (listed : Array Bool) (g0 : Gh) (w0 : World) (t0 : Array Value) (O0 : Nat → Nat) (st' : St)
    (rem : List Nat) (pd : Nat → Option (Nat → Nat)) (F : List Nat) (g : Gh) (w : World) (t : Array Value) (O : Nat → Nat) (st : St) : Prop where
  left : LeftQ ops nr vs anc m listed rem pd
  n : t.size = n
  s : S P g w st t O
  abs : ∀ i ∈ rem, ∀ v d, vs[i]? = some v → lateDst v = some d → isLate anc vs i = true → get st.env d = none
  pend : ∀ i A, pd i = some A → Pend g w t O st anc vs i A
  disj : ∀ i j A B, i ≠ j → pd i = some A → pd j = some B → ∀ b, A b + B b ≤ 1
  base : Goes P g0 w0 t0 O0 st t w g O
  old : ∀ i A, pd i = some A → ∀ b, b < w0.heap.size → A b + O b ≤ O0 b
  le0 : ∀ b, O0 b ≤ 1
  run : runN r nr vs rem F st = some st'
theorem exists_min : ∀ {l : List Nat}, l ≠ [] → ∃ i ∈ l, ∀ j ∈ l, i ≤ j
  | [], h => absurd rfl h
  | [x], _ => ⟨x, .head _, fun j hj => by simp at hj; omega⟩
  | x :: y :: r, _ => by
    obtain ⟨i, hi, hm⟩ := exists_min (l := y :: r) (by simp)
    rcases Nat.le_total x i with h | h
    · refine ⟨x, .head _, fun j hj => ?_⟩
      rcases List.mem_cons.1 hj with rfl | hj
      · exact Nat.le_refl _
      · exact Nat.le_trans h (hm j hj)
    · refine ⟨i, .tail _ hi, fun j hj => ?_⟩
      rcases List.mem_cons.1 hj with rfl | hj
      · exact h
      · exact hm j hj
theorem path_listed {ops : Array Oper} {m : Region.Mode} {listed : Array Bool} (hc : ∀ i o, listed.getD i false = true → ops[i]? = some o → ∀ e ∈ o.after, Region.binds m e = true → listed.getD e.on false = true) {i j : Nat}
    (hp : Path ops i j) : (∀ o, ops[i]? = some o → ∀ e ∈ o.after, Region.binds m e = true → listed.getD e.on false = true) → listed.getD j false = true := by
  induction hp with
  | one ho he hw => intro h; exact h _ ho _ he (binds_wide m hw)
  | more ho he hw _ ih =>
    intro h
    exact ih fun o2 ho2 e2 he2 hb2 => hc _ _ (h _ ho _ he (binds_wide m hw)) ho2 e2 he2 hb2

theorem ready_ne {P : Program} {n : Nat} {ops : Array Oper} {nr : List Nat} {vs : List VI} {perm : List Nat} {anc : List (Nat × List Nat)} (hok : DrawPOK P n ops nr vs perm anc) {m : Region.Mode} {listed : Array Bool} (hsz : listed.size = ops.size) {un : List Nat}
    (hun : ∀ i, i ∈ un ↔ i < ops.size ∧ listed.getD i true = false) (hrem : un ≠ []) :
    ((List.range ops.size).filter fun i => !listed.getD i true && ((ops[i]?).map (·.after.all fun e => !Region.binds m e || listed.getD e.on false)).getD false) ≠ [] ∧
    ∀ i, i ∈ ((List.range ops.size).filter fun i => !listed.getD i true && ((ops[i]?).map (·.after.all fun e => !Region.binds m e || listed.getD e.on false)).getD false) ↔
      i < ops.size ∧ listed.getD i true = false ∧ ∃ o, ops[i]? = some o ∧ ∀ e ∈ o.after, Region.binds m e = true → listed.getD e.on false = true := by
  have hmu : ∀ i, i < ops.size → (i ∈ un ↔ listed.getD i true = false) := fun i hi => ⟨fun h => ((hun i).1 h).2, fun h => (hun i).2 ⟨hi, h⟩⟩
  have hlt0 : ∀ i, i ∈ un → i < ops.size := fun i h => ((hun i).1 h).1
  generalize hrs : ((List.range ops.size).filter fun i => !listed.getD i true && ((ops[i]?).map (·.after.all fun e => !Region.binds m e || listed.getD e.on false)).getD false) = rs
  have hmem : ∀ i, i ∈ rs ↔ i < ops.size ∧ listed.getD i true = false ∧ ∃ o, ops[i]? = some o ∧ ∀ e ∈ o.after, Region.binds m e = true → listed.getD e.on false = true := by
    intro i
    rw [← hrs, List.mem_filter, List.mem_range]
    constructor
    · rintro ⟨h1, h2⟩
      simp only [Bool.and_eq_true, Bool.not_eq_true'] at h2
      refine ⟨h1, h2.1, ops[i], by simp [h1], fun e he hb => ?_⟩
      have h3 := h2.2
      rw [Array.getElem?_eq_getElem h1] at h3
      simp only [Option.map_some, Option.getD_some] at h3
      have := Array.all_eq_true_iff_forall_mem.1 h3 e he
      simpa [hb] using this
    · rintro ⟨h1, h2, o, ho, h3⟩
      refine ⟨h1, ?_⟩
      simp only [Bool.and_eq_true, Bool.not_eq_true', h2, true_and, ho, Option.map_some, Option.getD_some]
      refine Array.all_eq_true_iff_forall_mem.2 fun e he => ?_
      cases hb : Region.binds m e with
      | false => simp
      | true => simp [h3 e he hb]
  -- the first that is left is ready
  have hlist : ∀ k, k < ops.size → k ∉ un → listed.getD k false = true := fun k hen hnot => by
    have h2 : listed.getD k true ≠ false := fun h => hnot ((hmu k hen).2 h)
    have hsz : k < listed.size := by rw [hsz]; exact hen
    simp [Array.getD, hsz] at h2 ⊢
    exact h2
  have ready : ∀ i ∈ un, (∀ e ∈ (ops[i]?).toList.flatMap (fun o => o.after.toList), Region.binds m e = true → e.on ∉ un) → i ∈ rs := fun i hi he => by
    have hin := hlt0 i hi
    refine (hmem i).2 ⟨hin, (hmu i hin).1 hi, ops[i], by simp [hin], fun e hem hb => ?_⟩
    have hen := (hok.edge i ops[i] (by simp [hin]) e hem).1
    exact hlist _ hen (he e (by simp [hin]; exact hem) hb)
  have hne : rs ≠ [] := by
    by_cases hm : m = .gc
    · obtain ⟨gl, ga, gt, gs⟩ := hok.gco
      have hl : gl.filter (fun i => decide (i ∈ un)) ≠ [] := by
        obtain ⟨i, hi⟩ := List.exists_mem_of_ne_nil un hrem
        exact List.ne_nil_of_mem (List.mem_filter.2 ⟨ga i (hlt0 i hi), by simpa using hi⟩)
      cases hc : gl.filter (fun i => decide (i ∈ un)) with
      | nil => exact absurd hc hl
      | cons i rest =>
        have hmm0 : ∀ k, k ∈ i :: rest ↔ k ∈ gl ∧ k ∈ un := fun k => by rw [← hc, List.mem_filter, decide_eq_true_eq]
        have him := (hmm0 i).1 (.head _)
        have hi := hlt0 i him.2
        have hpw : (i :: rest).Pairwise (fun j i => ∀ o, ops[j]? = some o → ∀ e ∈ o.after, gcG e.ground = true → e.on ≠ i) := by rw [← hc]; exact gt.sublist List.filter_sublist
        have : i ∈ rs := ready i him.2 fun e he hb hmm => by
          simp [hi] at he
          have hg : gcG e.ground = true := by
            subst hm
            unfold Region.binds at hb
            unfold gcG
            split at hb <;> simp_all
          have h := (hmm0 e.on).2 ⟨ga _ (hlt0 _ hmm), hmm⟩
          rcases List.mem_cons.1 h with h | h
          · exact gs i him.1 ops[i] (by simp [hi]) e he hg h
          · exact (List.pairwise_cons.1 hpw).1 _ h ops[i] (by simp [hi]) e he hg rfl
        intro h0; rw [h0] at this; simp at this
    · obtain ⟨i, hir, hmin⟩ := exists_min hrem
      have hi := hlt0 i hir
      have : i ∈ rs := ready i hir fun e he hb hmm => by
        simp [hi] at he
        have hg : txG e.ground = true := by
          unfold Region.binds at hb
          unfold txG
          split at hb <;> simp_all
        have h1 := (hok.edge i ops[i] (by simp [hi]) e he).2 hg
        have := hmin _ hmm
        omega
      intro h0; rw [h0] at this; simp at this
  exact ⟨hne, hmem⟩
theorem setD {listed : Array Bool} {i : Nat} (hi : i < listed.size) (k : Nat) (b : Bool) : (listed.setIfInBounds i true).getD k b = if i = k then true else listed.getD k b := by
  simp only [Array.getD_eq_getD_getElem?, Array.getElem?_setIfInBounds]
  by_cases e : i = k
  · subst e; simp [hi]
  · simp [e]
theorem unlisted_of {listed : Array Bool} {i : Nat} (hi : i < listed.size) : listed.getD i true = listed.getD i false := by
  simp [Array.getD, hi]

variable {n : Nat} {ops : Array Oper} {nr : List Nat} {vs : List VI} {perm : List Nat} {anc : List (Nat × List Nat)} {m : Region.Mode} {listed : Array Bool} {g0 : Gh} {w0 : World} {t0 : Array Value} {O0 : Nat → Nat} {st' : St}
/-- What is pending is made: the interpreter alone goes on. -/
theorem Cf.flush (hok : DrawPOK P n ops nr vs perm anc) {l1 l2 : List Nat} {j : Nat} {A : Nat → Nat} {pd : Nat → Option (Nat → Nat)} {F : List Nat} {g : Gh} {w : World} {t : Array Value} {O : Nat → Nat} {st : St}
    (c : Cf P r n ops nr vs anc m listed g0 w0 t0 O0 st' (l1 ++ j :: l2) pd F g w t O st) (hj : pd j = some A) (hp : ∀ x ∈ l1, ∃ u v, vs[x]? = some u ∧ vs[j]? = some v ∧ passN (memN x nr) (memN j nr) u v = true) :
    ∃ F' g' O' st1, Cf P r n ops nr vs anc m listed g0 w0 t0 O0 st' (l1 ++ l2) (fun i => if i = j then none else pd i) F' g' w t O' st1 := by
  have pj := c.pend j A hj
  obtain ⟨v, d, x, h1, h4, h5, hk⟩ := pj.it
  have hdst := hk.dst
  have hjn := (c.left.pdl j A hj).1
  have inv : Inv st := ⟨c.s.se, c.s.sh, fun id hid => c.s.heap_fresh hid⟩
  have hsw : ∀ x ∈ l1, ∃ u, vs[x]? = some u ∧ passN (memN x nr) (memN j nr) u v = true := fun x hx => by
    obtain ⟨u, v', a1, a2, a3⟩ := hp x hx
    rw [h1] at a2
    simp only [Option.some.injEq] at a2
    subst a2
    exact ⟨u, a1, a3⟩
  have h6 := move_frontP h1 hsw inv c.run
  simp only [runN, h1] at h6
  split at h6
  · simp at h6
  · rename_i st1 h7
    have h8 : viF r v st = some st1 := step_any (fun hw => hok.near j _ hw h1) c.s.se h7
    obtain ⟨g', O', s', x', l'⟩ := hk.make c.s pj.le pj.hi h4 h5 h8
    have hsub : (l1 ++ l2).Sublist (l1 ++ j :: l2) := List.Sublist.append_left (List.sublist_cons_self j l2) l1
    have hnd := c.left.nd
    have hjl : j ∉ l1 ++ l2 := fun hm => by
      have hnd' := List.nodup_append.1 hnd
      rcases List.mem_append.1 hm with h | h
      · exact hnd'.2.2 j h j (.head _) rfl
      · exact (List.nodup_cons.1 hnd'.2.1).1 h
    -- what this step leaves alone
    have hfoot : ∀ i, i ∈ l1 ++ l2 → isLate anc vs i = true → ∀ u q, vs[i]? = some u → lateDst u = some q → ∀ k ∈ q :: lateR u, get st1.env k = get st.env k := fun i hi hl u q hu hq k hkm => by
      have hij : i ≠ j := fun e => hjl (e ▸ hi)
      obtain ⟨u2, q2, k1, k2, k3, k4⟩ := isLate_get hl
      rw [hu] at k1
      simp only [Option.some.injEq] at k1
      subst k1
      rw [hq] at k2
      simp only [Option.some.injEq] at k2
      subst k2
      obtain ⟨R, M, f1, f0, f2⟩ := (k3 j v h1 (fun e => hij e.symm)).resolve_left (fun hdj => by
        obtain ⟨_, _, _, _, _, hno⟩ := isLate_get pj.late
        have := hno i hdj
        rw [hl] at this; simp at this)
      obtain ⟨e1, hs1'⟩ := st
      refine (locW_foot f1 e1 hs1' st1 h8).2.1 k ?_
      rcases List.mem_cons.1 hkm with rfl | hkm
      · exact f0
      · exact f2.resolve_left (fun hdij => by have := k4 j hdij; rw [pj.late] at this; simp at this) k hkm
    have hmem : ∀ i B, i ≠ j → pd i = some B → i ∈ l1 ++ l2 := fun i B e hi => by
      have := (c.left.mem i (c.left.pdl i B hi).1).2 (.inr (by rw [hi]; rfl))
      rcases List.mem_append.1 this with h | h
      · exact List.mem_append_left _ h
      · rcases List.mem_cons.1 h with h | h
        · exact absurd h e
        · exact List.mem_append_right _ h
    refine ⟨_, g', O', st1, ⟨⟨c.left.pair.sublist hsub, hnd.sublist hsub, fun k hk => c.left.lt k (hsub.subset hk), c.left.size, fun k hk => ?_, fun i b' hi => ?_, c.left.closed⟩, c.n, s', fun i hi u q hu hq hl => ?_, fun i B hi => ?_, fun i k B C hik hi hk => ?_, ?_, fun i B hi b hb => ?_, c.le0, h6⟩⟩
    · have hold := c.left.mem k hk
      by_cases e : k = j
      · subst e
        simp only [if_true, Option.isSome_none, Bool.false_eq_true, or_false]
        have hl := (c.left.pdl k A hj).2
        rw [← unlisted_of (by rw [c.left.size]; exact hk)] at hl
        rw [hl]
        simp [hjl]
      · simp only [e, if_false]
        rw [← hold]
        simp only [List.mem_append, List.mem_cons]
        constructor
        · rintro (h | h)
          · exact .inl h
          · exact .inr (.inr h)
        · rintro (h | h | h)
          · exact .inl h
          · exact absurd h e
          · exact .inr h
    · by_cases e : i = j
      · simp [e] at hi
      · simp only [e, if_false] at hi; exact c.left.pdl i b' hi
    · rw [hfoot i hi hl u q hu hq q (.head _)]
      exact c.abs i (hsub.subset hi) u q hu hq hl
    · by_cases e : i = j
      · simp [e] at hi
      · simp only [e, if_false] at hi
        have p := c.pend i B hi
        obtain ⟨u, q, y, k1, k2, k3, k4⟩ := p.it
        have hd := c.disj i j B A e hi hj
        exact ⟨p.late, p.hi, fun b => by have := l' b; have := p.le b; have := hd b; have := pj.le b; have := s'.le b; omega, u, q, y, k1, k2, k3,
          k4.keep x' (fun b hb => ⟨p.hi b hb, fun h => by have := hd b; have := p.le b; rcases h with h | h <;> omega⟩) fun k hkm => hfoot i (hmem i B e hi) p.late u q k1 k4.dst k (.tail _ hkm)⟩
    · by_cases e : i = j
      · simp [e] at hi
      · by_cases e2 : k = j
        · simp [e2] at hk
        · simp only [e, e2, if_false] at hi hk; exact c.disj i k B C hik hi hk
    · refine ⟨s', c.base.ext.trans x' fun b hb h => ?_, fun b hb => ?_, c.base.size⟩
      · have := c.old j A hj b hb; rcases h with h | h <;> omega
      · exact Nat.le_trans (l' b) (c.old j A hj b hb)
    · by_cases e : i = j
      · simp [e] at hi
      · simp only [e, if_false] at hi
        have q1 := c.old i B hi b hb
        have q2 := c.old j A hj b hb
        have q3 := c.disj i j B A e hi hj b
        have q4 := l' b
        have q5 := (c.pend i B hi).le b
        have q6 := pj.le b
        omega
/-- All that is pending is made. -/
theorem Cf.flush_all (hok : DrawPOK P n ops nr vs perm anc) : ∀ {rem : List Nat} {pd : Nat → Option (Nat → Nat)} {F : List Nat} {g : Gh} {w : World} {t : Array Value} {O : Nat → Nat} {st : St},
    Cf P r n ops nr vs anc m listed g0 w0 t0 O0 st' rem pd F g w t O st → (∀ i ∈ rem, (pd i).isSome = true) → ∃ g' O', Goes P g0 w0 t0 O0 st' t w g' O'
  | [], pd, F, g, w, t, O, st, c, _ => by
    have h := c.run
    simp only [runN, Option.some.injEq] at h
    subst h
    exact ⟨g, O, c.base⟩
  | j :: rem, pd, F, g, w, t, O, st, c, hall => by
    obtain ⟨b, hb⟩ := Option.isSome_iff_exists.1 (hall j (.head _))
    obtain ⟨F', g', O', st1, c'⟩ := Cf.flush (l1 := []) hok c hb (fun x hx => by simp at hx)
    have hnd := c.left.nd
    exact Cf.flush_all hok c' fun i hi => by
      have : i ≠ j := fun e => (List.nodup_cons.1 hnd).1 (e ▸ hi)
      simp only [this, if_false]
      exact hall i (.tail _ hi)
/-- What an instruction that is next needs is made. -/
theorem Cf.flush_for (hok : DrawPOK P n ops nr vs perm anc) {i : Nat} (hil : listed.getD i true = false) (hnl : isLate anc vs i = false) {o : Oper} (ho : ops[i]? = some o) (hready : ∀ e ∈ o.after, Region.binds m e = true → listed.getD e.on false = true) :
    ∀ {k : Nat} {l1 l2 : List Nat}, l1.length = k → ∀ {pd : Nat → Option (Nat → Nat)} {F : List Nat} {g : Gh} {w : World} {t : Array Value} {O : Nat → Nat} {st : St},
    Cf P r n ops nr vs anc m listed g0 w0 t0 O0 st' (l1 ++ i :: l2) pd F g w t O st →
    ∃ l1' pd' F' g' O' st1, Cf P r n ops nr vs anc m listed g0 w0 t0 O0 st' (l1' ++ i :: l2) pd' F' g' w t O' st1 ∧ (∀ j ∈ l1', ∃ u v, vs[j]? = some u ∧ vs[i]? = some v ∧ passN (memN j nr) (memN i nr) u v = true) ∧ (l1'.filter fun q => !listed.getD q true) = (l1.filter fun q => !listed.getD q true) := by
  intro k
  induction k with
  | zero =>
    intro l1 l2 hk pd F g w t O st c
    have : l1 = [] := List.eq_nil_of_length_eq_zero hk
    subst this
    exact ⟨[], pd, F, g, O, st, c, fun j hj => by simp at hj, rfl⟩
  | succ k ih =>
    intro l1 l2 hk pd F g w t O st c
    have hpw := List.pairwise_append.1 c.left.pair
    have hin : i < ops.size := c.left.lt i (by simp)
    -- an ancestor is listed
    have hlist : ∀ a q, a < ops.size → Path ops a q → listed.getD a false = true ∨ a = i → listed.getD q false = true := fun a q ha hpa hla => by
      refine path_listed c.left.closed hpa fun o' ho' => ?_
      rcases hla with h | h
      · exact c.left.closed a o' h ho'
      · subst h
        rw [ho] at ho'
        simp only [Option.some.injEq] at ho'
        subst ho'
        exact hready
    by_cases hex : ∃ j ∈ l1, dep anc i j = true
    · -- the first of these
      obtain ⟨la, j, lb, hl1, hdj, hfirst⟩ : ∃ la j lb, l1 = la ++ j :: lb ∧ dep anc i j = true ∧ ∀ x ∈ la, dep anc i x = false := by
        clear ih hk c hpw
        induction l1 with
        | nil => obtain ⟨j, hj, _⟩ := hex; simp at hj
        | cons x l1 ihl =>
          by_cases hx : dep anc i x = true
          · exact ⟨[], x, l1, rfl, hx, fun y hy => by simp at hy⟩
          · obtain ⟨la, j, lb, h1, h2, h3⟩ := ihl (by
              obtain ⟨j, hj, hd⟩ := hex
              rcases List.mem_cons.1 hj with rfl | hj
              · exact absurd hd hx
              · exact ⟨j, hj, hd⟩)
            refine ⟨x :: la, j, lb, by rw [h1]; rfl, h2, fun y hy => ?_⟩
            rcases List.mem_cons.1 hy with rfl | hy
            · simpa using hx
            · exact h3 y hy
      subst hl1
      have hjm : j ∈ (la ++ j :: lb) ++ i :: l2 := by simp
      have hjn := c.left.lt j hjm
      have hjl := hlist i j hin (hok.path i j hdj) (.inr rfl)
      have hjp : ∃ b, pd j = some b := by
        rcases (c.left.mem j hjn).1 hjm with h | h
        · rw [unlisted_of (by rw [c.left.size]; exact hjn), hjl] at h; simp at h
        · exact Option.isSome_iff_exists.1 h
      obtain ⟨b, hb⟩ := hjp
      have hlate := (c.pend j b hb).late
      obtain ⟨_, _, _, _, _, hnoanc⟩ := isLate_get hlate
      have hpj := List.pairwise_append.1 hpw.1
      have hpass : ∀ x ∈ la, ∃ u v, vs[x]? = some u ∧ vs[j]? = some v ∧ passN (memN x nr) (memN j nr) u v = true := fun x hx => by
        have hxm : x ∈ (la ++ j :: lb) ++ i :: l2 := by simp [hx]
        have hxn := c.left.lt x hxm
        rcases hpj.2.2 x hx j (.head _) with (h | h) | h
        · -- j waits for x: x is listed, so it is pending, and late
          exfalso
          have hxl := hlist j x hjn (hok.path j x h) (.inl hjl)
          rcases (c.left.mem x hxn).1 hxm with h2 | h2
          · rw [unlisted_of (by rw [c.left.size]; exact hxn), hxl] at h2; simp at h2
          · obtain ⟨b2, hb2⟩ := Option.isSome_iff_exists.1 h2
            have := (c.pend x b2 hb2).late
            rw [hnoanc x h] at this; simp at this
        · exact h
        · exfalso
          have := h.2.1 i (by rw [hok.len]; exact hin) hdj
          rw [hfirst x hx] at this; simp at this
      have c0 : Cf P r n ops nr vs anc m listed g0 w0 t0 O0 st' (la ++ j :: (lb ++ i :: l2)) pd F g w t O st := by simpa using c
      obtain ⟨F', g', O', st1, c'⟩ := Cf.flush hok c0 hb hpass
      have c2 : Cf P r n ops nr vs anc m listed g0 w0 t0 O0 st' ((la ++ lb) ++ i :: l2) (fun q => if q = j then none else pd q) F' g' w t O' st1 := by simpa using c'
      obtain ⟨l1', pd', F2, g2, O2, st2, q1, q2, q3⟩ := ih (by simp at hk ⊢; omega) c2
      refine ⟨l1', pd', F2, g2, O2, st2, q1, q2, q3.trans ?_⟩
      rw [List.filter_append, List.filter_append, List.filter_cons_of_neg (by rw [unlisted_of (by rw [c.left.size]; exact hjn), hjl]; simp)]
    · refine ⟨l1, pd, F, g, O, st, c, fun j hj => ?_, rfl⟩
      rcases hpw.2.2 j hj i (.head _) with (h | h) | h
      · exact absurd ⟨j, hj, h⟩ hex
      · exact h
      · rw [hnl] at h; simp at h
/-- Ahead of an instruction that is ready and may be late nothing stands that changes what it is made of. -/
theorem stay_run (hok : DrawPOK P n ops nr vs perm anc) {i : Nat} {v : VI} {d : Nat} (hv : vs[i]? = some v) (hd : lateDst v = some d) : ∀ {l1 l2 F : List Nat} {st : St}, Srt st.env → (∀ k ∈ l1, ∀ u, vs[k]? = some u → ∃ R M, footW u = some (R, M) ∧ ∀ q ∈ d :: lateR v, q ∉ M) →
    runN r nr vs (l1 ++ i :: l2) F st = some st' → ∃ st1 st2, viF r v st1 = some st2 ∧ ∀ q ∈ d :: lateR v, get st1.env q = get st.env q
  | [], l2, F, st, hsrt, _, h => by
    simp only [List.nil_append, runN, hv] at h
    split at h
    · simp at h
    · rename_i st1 h1
      exact ⟨st, st1, step_any (fun hw => hok.near i _ hw hv) hsrt h1, fun _ _ => rfl⟩
  | k :: l1, l2, F, st, hsrt, hl, h => by
    simp only [List.cons_append, runN] at h
    split at h
    · simp at h
    · rename_i u hu
      split at h
      · simp at h
      · rename_i st1 h1
        have h2 : viF r u st = some st1 := step_any (fun hw => hok.near k _ hw hu) hsrt h1
        obtain ⟨R, M, f1, f2⟩ := hl k (.head _) u hu
        obtain ⟨e1, hs1⟩ := st
        obtain ⟨k1, k2, _⟩ := locW_foot f1 e1 hs1 st1 h2
        obtain ⟨sa, sb, q1, q2⟩ := stay_run hok hv hd (k1 hsrt) (fun k hk => hl k (.tail _ hk)) h
        exact ⟨sa, sb, q1, fun q hq => (q2 q hq).trans (k2 q (f2 q hq))⟩
theorem late_model {g : Gh} {w : World} {t : Array Value} {O : Nat → Nat} {zs : List AV} {o : Oper} (s : S P g w st' t O) (hc : chkOp P (.alloc zs) o.op = true) :
    ∃ (c : Array Value) (el : _), okConsts zs c.toList = true ∧ (execOp (ev t) o).run P w = .ok (.value (.pointer (some ⟨w.heap.size, 0, none⟩))) (w.alloc (.cells c el)) ∧ Ext g w g (w.alloc (.cells c el)) (fun _ => False) := by
  obtain ⟨dst, op, ty, pos, aft, gd⟩ := o
  simp only [chkOp] at hc
  split at hc
  · rename_i e
    split at hc
    · rename_i i hi
      split at hc
      · rename_i z hz
        exact ⟨z.cells, e, hc, by simp [execOp, Instr.alloc, zeroValue, typeInfo, hi, hz, newVar, newRow], Ext.alloc s.pmlt _ _ (by intro off; simp [objFrozen])⟩
      · simp at hc
    · simp at hc
  · simp at hc
theorem late_step {ro : Option Nat} {g : Gh} {w : World} {t : Array Value} {O : Nat → Nat} {st : St} {v : VI} {d : Nat} {o : Oper} (s : S P g w st t O) (hd : lateDst v = some d) (hc : chkOp P v.op o.op = true)
    (hmk : ∀ z l c th, v = ⟨some d, none, .mkslice z l c, th⟩ → stayR l = true → stayR c = true → ∃ a, opMkslice z l c st = some (a, st)) (ds : List Deferred) (next : Act → World → Prop) (Q : Exit → Act → World → Prop)
    (hn : ∀ w1 x g1 O1 A, S P g1 w1 st t O1 → Ext g w g1 w1 (fun b => O b ≠ 0) → (∀ b, b < w.heap.size → A b + O1 b ≤ O b) → (∀ b, A b + O1 b ≤ 1) → (∀ b, A b ≠ 0 → b < w1.heap.size) → PendK g1 w1 st d v x A → next (Act.put ⟨t, ds⟩ o.dst x) w1) :
    o.uponIn (FR ro) 0 P ⟨t, ds⟩ next Q ((execOp (ev t) o).run P w) := by
  rcases lateDst_eq hd with ⟨zs, rfl⟩ | ⟨z, l, c, th, rfl, hl, hc2⟩
  · obtain ⟨cc, el, hz, hrun, hx⟩ := late_model s hc
    rw [hrun]
    have hobn : O w.heap.size = 0 := by
      by_cases h : O w.heap.size = 0
      · exact h
      · have := s.hi _ h; omega
    refine hn _ _ g O (one w.heap.size) (s.extF hx rfl fun b o' hp => by have := s.pmlt b o' hp; simp only [World.size_alloc]; omega) (hx.mono fun _ _ h => h.elim) (fun b hb => ?_) (fun b => ?_) (fun b hb => ?_) (.var hz (heap_alloc_new _ _) fun o' hp => ?_)
    · have : b ≠ w.heap.size := by omega
      simp [one, this]
    · by_cases e : b = w.heap.size
      · subst e; simp [hobn]
      · have := s.le b; simp [one, e]; exact this
    · have := one_ne (b := w.heap.size) (x := b) hb
      simp only [World.size_alloc]; omega
    · have := s.pmlt _ o' hp; omega
  · obtain ⟨a, ha⟩ := hmk z l c th rfl hl hc2
    exact (op_mkslice s ha hc).opW ds next Q fun x w' g' Oa O' k => hn _ _ g' O' Oa k.st k.ext k.old k.le k.hi (.list hl hc2 ha k.val)
theorem go_simP {ro : Option Nat} (hr : CallSim P r) (hcs : CodeSim P r) (hok : DrawPOK P n ops nr vs perm anc) {Q : Exit → Act → World → Prop} (ds : List Deferred)
    (hq : ∀ w' t' g' O', Goes P g0 w0 t0 O0 st' t' w' g' O' → Q .normal ⟨t', ds⟩ w') :
    ∀ {fuel : Nat} {listed : Array Bool} {tt : Nat} {rem : List Nat} {pd : Nat → Option (Nat → Nat)} {F : List Nat} {g : Gh} {w : World} {t : Array Value} {O : Nat → Nat} {st : St},
      Cf P r n ops nr vs anc m listed g0 w0 t0 O0 st' rem pd F g w t O st → (rem.filter fun i => !listed.getD i true).length = fuel → wpOpsIn (FR ro) 0 P ops Q (Region.linearise.go m ops fuel tt listed []) ⟨t, ds⟩ w := by
  intro fuel
  induction fuel with
  | zero =>
    intro listed tt rem pd F g w t O st c hf
    have hnil := List.eq_nil_of_length_eq_zero hf
    have hall : ∀ i ∈ rem, (pd i).isSome = true := fun i hi => by
      have hin := c.left.lt i hi
      rcases (c.left.mem i hin).1 hi with h | h
      · have : i ∈ rem.filter fun i => !listed.getD i true := List.mem_filter.2 ⟨hi, by rw [h]; rfl⟩
        rw [hnil] at this; simp at this
      · exact h
    obtain ⟨g', O', G⟩ := Cf.flush_all hok c hall
    exact hq _ _ _ _ G
  | succ fuel ih =>
    intro listed tt rem pd F g w t O st c hf
    unfold Region.linearise.go
    simp only
    have hun : ∀ i, i ∈ (rem.filter fun i => !listed.getD i true) ↔ i < ops.size ∧ listed.getD i true = false := fun i => by
      rw [List.mem_filter, Bool.not_eq_true']
      exact ⟨fun h => ⟨c.left.lt i h.1, h.2⟩, fun h => ⟨(c.left.mem i h.1).2 (.inl h.2), h.2⟩⟩
    obtain ⟨hne, hmem⟩ := ready_ne (m := m) hok c.left.size hun (by intro h0; rw [h0] at hf; simp at hf)
    generalize hrs : ((List.range ops.size).filter fun i => !listed.getD i true && ((ops[i]?).map (·.after.all fun e => !Region.binds m e || listed.getD e.on false)).getD false) = rs at hne hmem
    have hlen : 0 < rs.length := List.length_pos_iff.2 hne
    have hlt := Nat.mod_lt tt hlen
    rw [List.getElem?_eq_getElem hlt]
    simp only
    generalize hi : rs[tt % rs.length] = i
    have hirs : i ∈ rs := by rw [← hi]; exact List.getElem_mem hlt
    obtain ⟨hin, hil, o, ho, hready⟩ := (hmem i).1 hirs
    have hirem : i ∈ rem := (c.left.mem i hin).2 (.inl hil)
    have hsz : i < listed.size := by rw [c.left.size]; exact hin
    have hvl : i < vs.length := by rw [hok.len]; exact hin
    have hv : vs[i]? = some vs[i] := by simp
    have hacc := linearise_go_acc m ops fuel (tt / rs.length) (listed.setIfInBounds i true) [i]
    rw [hacc]
    simp only [List.reverse_cons, List.reverse_nil, List.nil_append, List.cons_append, wpOpsIn, ho]
    have hclosed : ∀ k o', (listed.setIfInBounds i true).getD k false = true → ops[k]? = some o' → ∀ e ∈ o'.after, Region.binds m e = true → (listed.setIfInBounds i true).getD e.on false = true := by
      intro k o' hk ho' e he hb
      rw [setD hsz] at hk ⊢
      split
      · rfl
      · by_cases e1 : i = k
        · subst e1
          rw [ho] at ho'
          simp only [Option.some.injEq] at ho'
          subst ho'
          exact hready e he hb
        · rw [if_neg e1] at hk
          exact c.left.closed k o' hk ho' e he hb
    have hcount : ∀ {l1 l2 : List Nat}, rem = l1 ++ i :: l2 → ∀ {l1' : List Nat}, (l1'.filter fun i => !listed.getD i true) = (l1.filter fun i => !listed.getD i true) → i ∉ l1' → i ∉ l2 → ((l1' ++ l2).filter fun q => !(listed.setIfInBounds i true).getD q true).length = fuel := by
      intro l1 l2 hrem l1' hl1 hn1 hn2
      have h1 : ∀ l : List Nat, i ∉ l → (l.filter fun q => !(listed.setIfInBounds i true).getD q true) = l.filter fun q => !listed.getD q true := fun l hl => List.filter_congr fun q hq => by
        rw [setD hsz, if_neg (fun e => hl (by rw [e]; exact hq))]
      rw [List.filter_append, h1 _ hn1, h1 _ hn2, hl1]
      rw [hrem, List.filter_append, List.filter_cons_of_pos (by rw [hil]; rfl)] at hf
      simp at hf ⊢
      omega
    cases hl : isLate anc vs i with
    | true =>
      -- the model makes it, the interpreter later
      obtain ⟨v, d, hvi, hdv, hfree, hnoanc⟩ := isLate_get hl
      have hchk := hok.vi i _ o hvi ho
      simp only [chkVI, Bool.and_eq_true] at hchk
      obtain ⟨⟨hdst, hgd⟩, hop⟩ := hchk
      obtain ⟨hd1, hd2, hd3⟩ := lateDst_parts hdv
      have hgn : o.guard = none := by
        rw [hd2] at hgd
        cases hog : o.guard with
        | none => rfl
        | some q => rw [hog] at hgd; simp [chkGuard] at hgd
      have hod : o.dst = some d ∧ d < n := by
        rw [hd1] at hdst
        split at hdst
        · rename_i e1 e2; simp at e1
        · rename_i a b e1 e2
          simp only [Option.some.injEq] at e1
          subst e1
          simp only [Bool.and_eq_true, Nat.beq_eq, Nat.blt_eq] at hdst
          exact ⟨by rw [e2, ← hdst.1], hdst.2⟩
        · simp at hdst
      have hw : Region.wanted o (yielded ops t) = true := by simp [Region.wanted, hgn]
      rw [if_pos hw]
      refine ⟨fun _ _ => trivial, ?_⟩
      rw [semAt_ev _ _ (chkOp_nodefer hd3 hop)]
      have habs := c.abs i hirem v d hvi hdv hl
      obtain ⟨l1, l2, hrem⟩ := List.append_of_mem hirem
      have hapl : ∀ k ∈ l1, ∀ u, vs[k]? = some u → ∃ R M, footW u = some (R, M) ∧ ∀ q ∈ d :: lateR v, q ∉ M := fun k hk u hu => by
        have hkm : k ∈ rem := by rw [hrem]; exact List.mem_append_left _ hk
        have hkn := c.left.lt k hkm
        have hne : k ≠ i := fun e => by
          have hnd := c.left.nd
          rw [hrem] at hnd
          exact (List.nodup_append.1 hnd).2.2 i (e ▸ hk) i (.head _) rfl
        have hpr := c.left.pair
        rw [hrem] at hpr
        have hnk : dep anc i k = true → False := fun h => by
          have hkl := path_listed c.left.closed (hok.path i k h) fun o' ho' => by
            rw [ho] at ho'
            simp only [Option.some.injEq] at ho'
            subst ho'
            exact hready
          rcases (c.left.mem k hkn).1 hkm with h2 | h2
          · rw [unlisted_of (by rw [c.left.size]; exact hkn), hkl] at h2; simp at h2
          · obtain ⟨b2, hb2⟩ := Option.isSome_iff_exists.1 h2
            have := (c.pend k b2 hb2).late
            rw [hnoanc k h] at this; simp at this
        rcases (List.pairwise_append.1 hpr).2.2 k hk i (.head _) with (h | ⟨u', v', a1, a2, a3⟩) | h
        · exact (hnk h).elim
        · rw [hu] at a1
          rw [hvi] at a2
          simp only [Option.some.injEq] at a1 a2
          subst a1 a2
          exact pass_late2 a3 hdv
        · obtain ⟨R, M, f1, f2, f3⟩ := (hfree k u hu hne).resolve_left (fun hd => by rw [h.2.2] at hd; simp at hd)
          refine ⟨R, M, f1, fun q hq => ?_⟩
          rcases List.mem_cons.1 hq with rfl | hq
          · exact f2
          · exact f3.resolve_left hnk q hq
      have hrun0 := c.run
      rw [hrem] at hrun0
      obtain ⟨sa, sb, hsa, hsq⟩ := stay_run hok hvi hdv c.s.se hapl hrun0
      refine late_step (ro := ro) c.s hdv hop (fun z l c' th e hl1 hl2 => ?_) ds _ Q fun w1 x g1 O1 A hs1 hx1 hold1 hle1 hhi1 hpk => ?_
      · subst e
        simp only [viF] at hsa
        obtain ⟨v', st2, hv', _⟩ := viGo_eq hsa
        simp only [opF] at hv'
        exact ⟨v', (mk_stay hl1 hl2 (fun q hq => (hsq q (List.mem_cons_of_mem _ hq)).symm) hv').2⟩
      · rw [put_eq, hod.1]
        have hdn : d < t.size := by rw [c.n]; exact hod.2
        have hs2 := hs1.setOther habs x
        have ht1 : putT t (some d) x = t.setIfInBounds d x := by simp [putT, Act.put]
        rw [ht1]
        have hgt : ∀ q, q ≠ d → (t.setIfInBounds d x)[q]? = t[q]? := fun q hqd => by
          rw [Array.getElem?_setIfInBounds, if_neg (fun e => hqd e.symm)]
        have hwle : w0.heap.size ≤ w.heap.size := c.base.ext.size
        have hO1 : ∀ b, b < w.heap.size → O1 b ≤ O b := fun b hb => by have := hold1 b hb; omega
        have hO1' : ∀ b, O1 b ≤ 1 := fun b => by have := hle1 b; omega
        refine ih (rem := rem) (pd := fun q => if q = i then some A else pd q) (F := F) (g := g1) (O := O1) (st := st) ⟨⟨c.left.pair, c.left.nd, c.left.lt, by simp [c.left.size], fun k hk => ?_, fun k b hk => ?_, hclosed⟩, by simp [c.n], hs2, c.abs, fun k B hk => ?_, fun k q B C hkq hk hq' => ?_, ?_, fun k B hk b hb => ?_, c.le0, c.run⟩ ?_
        · rw [setD hsz]
          by_cases e : i = k
          · subst e; simp [hirem]
          · have e' : ¬ k = i := fun h => e h.symm
            simp only [e, e', if_false]
            exact c.left.mem k hk
        · rw [setD hsz]
          by_cases e : k = i
          · subst e; exact ⟨hin, by simp⟩
          · simp only [e, if_false] at hk
            have := c.left.pdl k b hk
            refine ⟨this.1, ?_⟩
            rw [if_neg (fun h => e h.symm)]
            exact this.2
        · by_cases e : k = i
          · subst e
            simp only [if_true, Option.some.injEq] at hk
            subst hk
            refine ⟨hl, hhi1, hle1, v, d, x, hvi, by simp [hdn], ?_, hpk⟩
            rw [Array.getElem?_setIfInBounds, if_pos rfl, if_pos hdn]
          · simp only [e, if_false] at hk
            have q := c.pend k B hk
            obtain ⟨u, d', y, h1, h4, h5, h6⟩ := q.it
            have hdd : d' ≠ d := by
              obtain ⟨R, M, f1, f2, _⟩ := (hfree k _ h1 e).resolve_left (fun hdk => by
                obtain ⟨_, _, _, _, _, hno⟩ := isLate_get q.late
                have := hno i hdk
                rw [hl] at this; simp at this)
              intro h
              exact f2 (h ▸ footW_dst f1 (lateDst_parts h6.dst).1)
            exact ⟨q.late, fun b hb => Nat.lt_of_lt_of_le (q.hi b hb) hx1.size, fun b => by
              by_cases hb : b < w.heap.size
              · have := q.le b; have := hO1 b hb; omega
              · have : B b = 0 := by
                  by_cases h : B b = 0
                  · exact h
                  · exact absurd (q.hi b h) hb
                have := hO1' b; omega, u, d', y, h1, by simpa using h4, (hgt d' hdd).trans h5,
              h6.keep hx1 (fun b hb => ⟨q.hi b hb, fun h => by have := q.le b; omega⟩) fun _ _ => rfl⟩
        · have key : ∀ k B, k ≠ i → pd k = some B → ∀ b, A b + B b ≤ 1 := fun k B e hk b => by
            have q := c.pend k B hk
            by_cases hb : b < w.heap.size
            · have := q.le b; have := hold1 b hb; omega
            · have : B b = 0 := by
                by_cases h : B b = 0
                · exact h
                · exact absurd (q.hi b h) hb
              have := hle1 b; omega
          intro b
          by_cases e : k = i
          · have e2 : q ≠ i := fun h => hkq (e.trans h.symm)
            simp only [e, e2, if_true, if_false, Option.some.injEq] at hk hq'
            subst hk
            exact key q C e2 hq' b
          · by_cases e2 : q = i
            · simp only [e, e2, if_true, if_false, Option.some.injEq] at hk hq'
              subst hq'
              have := key k B e hk b; omega
            · simp only [e, e2, if_false] at hk hq'; exact c.disj k q B C hkq hk hq' b
        · exact ⟨hs2, c.base.ext.trans hx1 fun b hb h => by have := c.base.old b hb; omega, fun b hb => Nat.le_trans (hO1 b (by omega)) (c.base.old b hb), by simp [c.base.size]⟩
        · by_cases e : k = i
          · simp only [e, if_true, Option.some.injEq] at hk
            subst hk
            have := hold1 b (by omega); have := c.base.old b hb; omega
          · simp only [e, if_false] at hk
            have := c.old k B hk b hb; have := hO1 b (by omega); omega
        · have hnd := c.left.nd
          rw [hrem] at hnd
          have hnd' := List.nodup_append.1 hnd
          have hn1 : i ∉ l1 := fun h => hnd'.2.2 i h i (.head _) rfl
          have hn2 : i ∉ l2 := (List.nodup_cons.1 hnd'.2.1).1
          have := hcount hrem rfl hn1 hn2
          rw [hrem, List.filter_append, List.filter_cons_of_neg (by rw [setD hsz, if_pos rfl]; simp), ← List.filter_append]
          exact this
    | false =>
      obtain ⟨l1, l2, hrem⟩ := List.append_of_mem hirem
      rw [hrem] at c
      obtain ⟨l1', pd', F', g', O', st1, c1, hpass, hfl⟩ := Cf.flush_for hok hil hl ho hready rfl c
      have hsw : ∀ j ∈ l1', ∃ u, vs[j]? = some u ∧ passN (memN j nr) (memN i nr) u vs[i] = true := fun j hj => by
        obtain ⟨u, v, a1, a2, a3⟩ := hpass j hj
        rw [hv] at a2
        simp only [Option.some.injEq] at a2
        subst a2
        exact ⟨u, a1, a3⟩
      have inv : Inv st1 := ⟨c1.s.se, c1.s.sh, fun id hid => c1.s.heap_fresh hid⟩
      have h2 := move_frontP hv hsw inv c1.run
      simp only [runN, hv] at h2
      split at h2
      · simp at h2
      · rename_i st2 h3N
        have h3 : viF r vs[i] st1 = some st2 := step_any (fun hw => hok.near i _ hw hv) c1.s.se h3N
        have hnd := c1.left.nd
        have hnd' := List.nodup_append.1 hnd
        have hn1 : i ∉ l1' := fun h => hnd'.2.2 i h i (.head _) rfl
        have hn2 : i ∉ l2 := (List.nodup_cons.1 hnd'.2.1).1
        have hsub : (l1' ++ l2).Sublist (l1' ++ i :: l2) := List.Sublist.append_left (List.sublist_cons_self i l2) l1'
        have hpdi : pd' i = none := by
          cases h : pd' i with
          | none => rfl
          | some b =>
            have := (c1.left.pdl i b h).2
            rw [← unlisted_of hsz, hil] at this; simp at this
        have hapart : ∀ k ∈ l1' ++ l2, isLate anc vs k = true → ∀ u d, vs[k]? = some u → lateDst u = some d → ∃ R M, footW vs[i] = some (R, M) ∧ d ∉ M ∧ (listed.getD k false = true → ∀ q ∈ lateR u, q ∉ M) := fun k hk hlk u0 d hvk hdk => by
          have hki : i ≠ k := fun e => by rw [e, hlk] at hl; simp at hl
          obtain ⟨u2, d2, k1, kd, k2, _⟩ := isLate_get hlk
          rw [hvk] at k1
          simp only [Option.some.injEq] at k1
          subst k1
          rw [hdk] at kd
          simp only [Option.some.injEq] at kd
          subst kd
          rcases k2 i _ hv hki with hd | hd
          · rcases List.mem_append.1 hk with hk1 | hk1
            · obtain ⟨u, v, a1, a2, a3⟩ := hpass k hk1
              rw [hvk] at a1
              rw [hv] at a2
              simp only [Option.some.injEq] at a1 a2
              subst a1 a2
              obtain ⟨R, M, f1, f2⟩ := pass_late1 a3 hdk
              exact ⟨R, M, f1, f2 _ (.head _), fun _ q hq => f2 q (.tail _ hq)⟩
            · have hkm : k ∈ l1' ++ i :: l2 := by simp [hk1]
              have hkn := c1.left.lt k hkm
              have hkl : listed.getD k false = true := path_listed c1.left.closed (hok.path i k hd) fun o' ho' => by
                rw [ho] at ho'
                simp only [Option.some.injEq] at ho'
                subst ho'
                exact hready
              have hif : listed.getD i false = false := by rw [← unlisted_of hsz]; exact hil
              have hpw := (List.pairwise_cons.1 (List.pairwise_append.1 c1.left.pair).2.1).1 k hk1
              rcases hpw with (h | ⟨u, v, a1, a2, a3⟩) | h
              · have := path_listed c1.left.closed (hok.path k i h) fun o' ho' => c1.left.closed k o' hkl ho'
                rw [hif] at this; simp at this
              · rw [hvk] at a2
                rw [hv] at a1
                simp only [Option.some.injEq] at a1 a2
                subst a1 a2
                obtain ⟨R, M, f1, f2⟩ := pass_late2 a3 hdk
                exact ⟨R, M, f1, f2 _ (.head _), fun _ q hq => f2 q (.tail _ hq)⟩
              · have hii := h.2.1 i hvl hd
                have := path_listed c1.left.closed (hok.path i i hii) fun o' ho' => by
                  rw [ho] at ho'
                  simp only [Option.some.injEq] at ho'
                  subst ho'
                  exact hready
                rw [hif] at this; simp at this
          · obtain ⟨R, M, f1, f2, f3⟩ := hd
            refine ⟨R, M, f1, f2, fun hkl => f3.resolve_left fun hki => ?_⟩
            have hif : listed.getD i false = false := by rw [← unlisted_of hsz]; exact hil
            have := path_listed c1.left.closed (hok.path k i hki) fun o' ho' => c1.left.closed k o' hkl ho'
            rw [hif] at this; simp at this
        refine vi_sim2 (ro := ro) hr hcs c1.n c1.s h3 (hok.vi i _ o hv ho) ds _ Q fun t' w' g2 O2 G hT => ?_
        refine ih (rem := l1' ++ l2) (pd := pd') ⟨⟨c1.left.pair.sublist hsub, hnd.sublist hsub, fun k hk => c1.left.lt k (hsub.subset hk), by simp [c1.left.size], fun k hk => ?_, fun k b hk => ?_, hclosed⟩, by rw [G.size, c1.n], G.st, fun k hk u d hvk hdk hlk => ?_, fun k B hk => ?_, c1.disj, c1.base.trans G, fun k B hk b hb => ?_, c1.le0, h2⟩ ?_
        · have hold := c1.left.mem k hk
          rw [setD hsz]
          by_cases e : i = k
          · subst e
            simp only [if_true, Bool.true_eq_false, hpdi, Option.isSome_none, Bool.false_eq_true, or_self, iff_false]
            intro hm
            rcases List.mem_append.1 hm with h | h
            · exact hn1 h
            · exact hn2 h
          · simp only [e, if_false]
            rw [← hold]
            simp only [List.mem_append, List.mem_cons]
            constructor
            · rintro (h | h)
              · exact .inl h
              · exact .inr (.inr h)
            · rintro (h | h | h)
              · exact .inl h
              · exact absurd h.symm e
              · exact .inr h
        · have := c1.left.pdl k b hk
          refine ⟨this.1, ?_⟩
          rw [setD hsz]
          split
          · rfl
          · exact this.2
        · have h0 := c1.abs k (hsub.subset hk) u d hvk hdk hlk
          obtain ⟨R, M, f1, f2, _⟩ := hapart k hk hlk u d hvk hdk
          obtain ⟨e1, hs1'⟩ := st1
          have := (locW_foot f1 e1 hs1' st2 h3).2.1 d f2
          rw [this]; exact h0
        · have hki : i ≠ k := fun e => by rw [← e, hpdi] at hk; simp at hk
          have hkm : k ∈ l1' ++ i :: l2 := (c1.left.mem k (c1.left.pdl k B hk).1).2 (.inr (by rw [hk]; rfl))
          have hkm' : k ∈ l1' ++ l2 := by
            rcases List.mem_append.1 hkm with h | h
            · exact List.mem_append_left _ h
            · rcases List.mem_cons.1 h with h | h
              · exact absurd h.symm hki
              · exact List.mem_append_right _ h
          have q := c1.pend k B hk
          obtain ⟨u, d, y, h1, h4, h5, h6⟩ := q.it
          obtain ⟨R, M, f1, f0, f2⟩ := hapart k hkm' q.late u d h1 h6.dst
          have f2 := f2 (c1.left.pdl k B hk).2
          have hdd : vs[i].dst ≠ some d := fun e => f0 (footW_dst f1 e)
          refine ⟨q.late, fun b hb => Nat.lt_of_lt_of_le (q.hi b hb) G.ext.size, fun b => ?_, u, d, y, h1, by rw [G.size]; exact h4, (hT d hdd).trans h5, h6.keep G.ext (fun b hb => ⟨q.hi b hb, fun h => by have := q.le b; omega⟩) fun p hp => ?_⟩
          · by_cases hb : b < w.heap.size
            · have := q.le b; have := G.old b hb; omega
            · have : B b = 0 := by
                by_cases h : B b = 0
                · exact h
                · exact absurd (q.hi b h) hb
              have := G.st.le b; omega
          · obtain ⟨e1, hs1'⟩ := st1
            exact (locW_foot f1 e1 hs1' st2 h3).2.1 p (f2 p hp)
        · have := c1.old k B hk b hb
          have := G.old b (Nat.lt_of_lt_of_le hb c1.base.ext.size)
          omega
        · -- how many are left
          exact hcount hrem hfl hn1 hn2
theorem lateAbs_get {e : Env} : ∀ {vs : List VI}, lateAbs e vs = true → ∀ (i : Nat) (v : VI) (d : Nat), vs[i]? = some v → lateDst v = some d → get e d = none
  | [], _, i, v, d, h, _ => by simp at h
  | u :: r, hl, i, v, d, h, hd => by
    simp only [lateAbs, Bool.and_eq_true] at hl
    cases i with
    | zero =>
      simp only [List.getElem?_cons_zero, Option.some.injEq] at h
      subst h
      have h1 := hl.1
      rw [hd] at h1
      simp only at h1
      cases hg : get e d with
      | none => rfl
      | some x => rw [hg] at h1; simp at h1
    | succ i =>
      simp only [List.getElem?_cons_succ] at h
      exact lateAbs_get hl.2 i v d h hd
theorem drawP_sim {g : Gh} {w : World} {t : Array Value} {O : Nat → Nat} {st st' : St} {ro : Option Nat} (hr : CallSim P r) (hcs : CodeSim P r) {n : Nat} {ops : Array Oper} {gco nr : List Nat} {vs : List VI} {perm : List Nat} (ds : List Deferred) (h : chkDrawP P n ops perm gco nr vs = true) {Q : Exit → Act → World → Prop} {id : Nat} (hn : t.size = n)
    (s : S P g w st t O) (habs : lateAbs st.env vs = true) (hrun : runN r nr vs perm [] st = some st') (hq : ∀ w' t' g' O', Goes P g w t O st' t' w' g' O' → Q .normal ⟨t', ds⟩ w') : (Code.region id ops true).wpIn (FR ro) 0 P Q ⟨t, ds⟩ w := by
  have hok := drawPOK h
  refine wpIn_region_draw fun tt => ?_
  have hx : Ext g w g w.drew fun _ => False := Ext.drew _ _ _
  have sd := s.extF hx rfl s.pmlt
  have hleft : ∀ m, LeftQ ops nr vs (ancTab ops perm []) m (Array.replicate ops.size false) perm (fun _ => none) := fun m => by
    refine ⟨hok.pair, hok.nd, hok.lt, by simp, fun i hi => ?_, fun i b hi => by simp at hi, fun i o hi => ?_⟩
    · have := hok.all i hi
      simp [hi, Array.getD, this]
    · simp [Array.getD] at hi
  have hlen : (perm.filter fun i => !(Array.replicate ops.size false).getD i true).length = ops.size := by
    have h0 : (perm.filter fun i => !(Array.replicate ops.size false).getD i true) = perm := List.filter_eq_self.2 fun i hi => by
      have := hok.lt i hi
      simp [Array.getD, this]
    have h1 : perm.Perm (List.range ops.size) := by
      refine (List.perm_ext_iff_of_nodup hok.nd List.nodup_range).2 fun x => ?_
      rw [List.mem_range]
      exact ⟨hok.lt x, hok.all x⟩
    rw [h0, h1.length_eq]; simp
  have key : ∀ m tt, wpOpsIn (FR ro) 0 P ops Q (Region.linearise m ops tt) ⟨t, ds⟩ w.drew := fun m tt =>
    go_simP (ro := ro) (m := m) hr hcs hok ds (g0 := g) (w0 := w.drew) (t0 := t) (O0 := O) (st' := st') (fun w' t' g' O' G => hq _ _ _ _ ⟨G.st, (hx.mono (T := fun b => O b ≠ 0) fun _ _ h => h.elim).trans G.ext fun _ _ h => h, G.old, G.size⟩)
      ⟨hleft m, hn, sd, fun i hi v d hv hd _ => lateAbs_get habs i v d hv hd, fun i b hi => by simp at hi, fun i j A B _ hi => by simp at hi, Goes.refl sd, fun i b hi => by simp at hi, sd.le, hrun⟩ hlen
  unfold Region.schedule
  split
  · exact key _ _
  · exact key _ _
end
end Go.Vm

/-
  REGIONS (11): loops and scopes, unrolled.
-/
namespace Go.Vm

/-- The walk from a loop's mark on. -/
def LoopW (ro : Option Nat) (P : Program) (c : Code) (Q : Exit → Act → World → Prop) (a : Act) (w : World) : Prop :=
  ∀ (b : Frame) (k : List Item) (cs : List Frame), b.roundOf = ro → ∃ e a' w', Q e a' w' ∧ ArrivesIn (Machine.fenced P (FR ro)) P (lone (b.atR a (.inLoop c :: k)) cs w) b k cs e a' w'
/-- The walk of the rest of a scope. -/
def ScopeW (ro : Option Nat) (P : Program) (body cur : Code) (Q : Exit → Act → World → Prop) (a : Act) (w : World) : Prop :=
  ∀ (b : Frame) (k : List Item) (cs : List Frame), b.roundOf = ro → ∃ e a' w', Q e a' w' ∧ ArrivesIn (Machine.fenced P (FR ro)) P (lone (b.atR a (.code cur :: .inScope body :: k)) cs w) b k cs e a' w'

section
variable {P : Program} {ro : Option Nat} {Q : Exit → Act → World → Prop} {a : Act} {w : World}

theorem fenced_FR {ro : Option Nat} (m : Machine) : Machine.fenced P (FR ro) m := fenced_wide P m

theorem loopW_step {c : Code} (h : c.wpIn (FR ro) 0 P (Exit.then (LoopW ro P c Q) Q) a w) : LoopW ro P c Q a w ∧ (Code.loop c).wpIn (FR ro) 0 P Q a w := by
  have key : ∀ (b : Frame) (k : List Item) (cs : List Frame), b.roundOf = ro → ∃ e a' w', Q e a' w' ∧ ArrivesIn (Machine.fenced P (FR ro)) P (lone (b.atR a (.code c :: .inLoop c :: k)) cs w) b k cs e a' w' := by
    intro b k cs hro
    obtain ⟨e, a₁, w₁, hq, harr⟩ := h b (.inLoop c :: k) cs hro trivial (room_FR _ _)
    cases e with
    | normal =>
      obtain ⟨e₂, a₂, w₂, hq₂, harr₂⟩ := hq b k cs hro
      exact ⟨e₂, a₂, w₂, hq₂, .of_steps harr harr₂⟩
    | exit id => exact ⟨_, a₁, w₁, hq, .pass (x := .inLoop c) rfl (fun _ _ => .inl (by simp)) harr⟩
    | goto l => exact ⟨_, a₁, w₁, hq, .pass (x := .inLoop c) rfl (fun _ _ => .inl (by simp)) harr⟩
    | ret => exact ⟨_, a₁, w₁, hq, .pass (x := .inLoop c) rfl (fun _ _ => .inl (by simp)) harr⟩
    | panic ch => exact ⟨_, a₁, w₁, hq, .pass (x := .inLoop c) rfl (fun _ _ => .inl (by simp)) harr⟩
    | outgrown => exact ⟨_, a₁, w₁, hq, .pass (x := .inLoop c) rfl (fun _ _ => .inl (by simp)) harr⟩
  refine ⟨fun b k cs hro => ?_, fun b k cs hro _ _ => ?_⟩
  · obtain ⟨e, a', w', hq, harr⟩ := key b k cs hro
    exact ⟨e, a', w', hq, .of_steps (.one (fenced_FR _) stepR_inLoop) harr⟩
  · obtain ⟨e, a', w', hq, harr⟩ := key b k cs hro
    exact ⟨e, a', w', hq, .of_steps (.one (fenced_FR _) stepR_loop) harr⟩

/-- How a scope's part is left. -/
def Exit.scope (ro : Option Nat) (P : Program) (body : Code) (Q : Exit → Act → World → Prop) : Exit → Act → World → Prop
  | .goto l, a, w => match findLabel body l with
    | some rest => ScopeW ro P body rest Q a w
    | none => Q (.goto l) a w
  | e, a, w => Q e a w
theorem scopeW_step {body cur : Code} (h : cur.wpIn (FR ro) 0 P (Exit.scope ro P body Q) a w) : ScopeW ro P body cur Q a w := by
  intro b k cs hro
  obtain ⟨e, a₁, w₁, hq, harr⟩ := h b (.inScope body :: k) cs hro trivial (room_FR _ _)
  cases e with
  | normal => exact ⟨.normal, a₁, w₁, hq, StepsIn.trans harr (.one (fenced_FR _) (step_lone_go (by simp [stepG, stepG.exec, Frame.atR])))⟩
  | exit id =>
    have hx : exitTo id (.inScope body :: k) = exitTo id k := by simp [exitTo]
    exact ⟨_, a₁, w₁, hq, fun k' hk => harr.1 k' (by rw [hx]; exact hk), fun hr hk => harr.2 hr (by rw [hx]; exact hk)⟩
  | goto l =>
    have hx : gotoIn l (.inScope body :: k) = match findLabel body l with | some rest => some (.code rest :: .inScope body :: k) | none => gotoIn l k := by
      simp only [gotoIn]; cases findLabel body l <;> rfl
    simp only [Exit.scope] at hq
    cases hf : findLabel body l with
    | some rest =>
      rw [hf] at hq hx
      obtain ⟨e₂, a₂, w₂, hq₂, harr₂⟩ := hq b k cs hro
      exact ⟨e₂, a₂, w₂, hq₂, .of_steps (harr.1 _ hx) harr₂⟩
    | none =>
      rw [hf] at hq hx
      exact ⟨_, a₁, w₁, hq, fun k' hk => harr.1 k' (by rw [hx]; exact hk), fun hr hk => harr.2 hr (by rw [hx]; exact hk)⟩
  | ret => exact ⟨_, a₁, w₁, hq, harr⟩
  | panic ch => exact ⟨_, a₁, w₁, hq, harr⟩
  | outgrown => exact ⟨_, a₁, w₁, hq, harr⟩
theorem scopeW_wp {body : Code} (h : ScopeW ro P body body Q a w) : (Code.scope body).wpIn (FR ro) 0 P Q a w := by
  intro b k cs hro _ _
  obtain ⟨e, a', w', hq, harr⟩ := h b k cs hro
  exact ⟨e, a', w', hq, .of_steps (.one (fenced_FR _) (step_lone_go (by simp [stepG, stepG.exec, Frame.atR]))) harr⟩
end

/-! ### Labels -/
theorem findL_rel {P : Program} {n : Nat} {v : VC} {c : Code} (h : Mt P n v c) (l : Nat) :
    match findL v l with
    | some x => ∃ y, findLabel c l = some y ∧ Mt P n x y
    | none => findLabel c l = none := by
  have hgh : ∀ {a : VC}, ghosts a = true → findL a l = none := by
    intro a
    induction a with
    | seq a b iha ihb =>
      intro h
      simp only [ghosts, Bool.and_eq_true] at h
      simp only [findL, iha h.1, ihb h.2]
    | _ => intro h; simp [ghosts, findL] at h ⊢
  induction h with
  | ghostL h1 h2 ih => simp only [findL, hgh h1]; exact ih
  | @ghostR a b c h1 h2 ih =>
    simp only [findL, hgh h1]
    cases hf : findL a l with
    | none => simp only [hf] at ih ⊢; exact ih
    | some x =>
      simp only [hf] at ih ⊢
      obtain ⟨y, hy, hm⟩ := ih
      exact ⟨y, hy, .ghostR h1 hm⟩
  | @seq a b c d h1 h2 ih1 ih2 =>
    simp only [findL]
    cases hf : findL a l with
    | some x =>
      simp only [hf] at ih1 ⊢
      obtain ⟨y, hy, hm⟩ := ih1
      exact ⟨.seq y d, by simp [findLabel, hy], .seq hm h2⟩
    | none =>
      simp only [hf] at ih1 ⊢
      cases hf2 : findL b l with
      | some x =>
        simp only [hf2] at ih2 ⊢
        obtain ⟨y, hy, hm⟩ := ih2
        exact ⟨y, by simp [findLabel, ih1, hy], hm⟩
      | none =>
        simp only [hf2] at ih2 ⊢
        simp [findLabel, ih1, ih2]
  | @label k =>
    simp only [findL, findLabel]
    by_cases e : k = l
    · subst e; simp [Mt.skip]
    · have : Nat.beq k l = false := by rw [← Bool.not_eq_true, Nat.beq_eq]; exact e
      have e2 : (k == l) = false := by simpa using e
      simp [this, e2]
  | _ => simp [findL, findLabel]
end Go.Vm

/-
  FUNCTIONS (1): the way in and the way out.
-/
namespace Go.Vm
section
variable {P : Program} {g : Gh} {w : World} {t : Array Value} {O : Nat → Nat} {st st' : St} {a : AV} {o : Oper} {r : Rec}

/-! ### The way in -/
theorem mkEnv_ge : ∀ {vs : List AV} {i : Nat}, ∀ p ∈ mkEnv i vs, i ≤ p.1
  | [], _, p, hp => by simp [mkEnv] at hp
  | v :: vs, i, p, hp => by
    simp only [mkEnv] at hp
    rcases mem_put hp with rfl | hp
    · exact Nat.le_refl _
    · have := mkEnv_ge p hp; omega
theorem mkEnv_srt : ∀ (vs : List AV) (i : Nat), Srt (mkEnv i vs)
  | [], _ => List.Pairwise.nil
  | v :: vs, i => (mkEnv_srt vs (i + 1)).put _ _
theorem lt_of_get' {t : Array Value} {i : Nat} {x : Value} (h : t[i]? = some x) : i < t.size := by
  rcases Nat.lt_or_ge i t.size with h' | h'
  · exact h'
  · rw [Array.getElem?_eq_none h'] at h; simp at h
theorem mkEnv_rel {t : Array Value} : ∀ {vs : List AV} {xs : List Value} {i : Nat} {Ov : Nat → Nat}, RVs g w vs xs Ov → (∀ (j : Nat) (x : Value), xs[j]? = some x → t[i + j]? = some x) → REnv g w (mkEnv i vs) t Ov
  | [], xs, i, Ov, rv, _ => by simp only [RVs] at rv; exact rv.2
  | v :: vs, xs, i, Ov, rv, ht => by
    simp only [RVs] at rv
    obtain ⟨x, ys, O1, O2, rfl, r1, r2, hs⟩ := rv
    have h0 : t[i]? = some x := ht 0 x rfl
    have rr := mkEnv_rel (t := t) (i := i + 1) r2 fun j y hj => by have := ht (j + 1) y (by simpa using hj); rw [← this]; congr 1; omega
    rw [← del_of_not_mem (l := mkEnv (i + 1) vs) (i := i) fun p hp => by have := mkEnv_ge p hp; omega] at rr
    obtain ⟨O, ro, ho⟩ := RL.put (mkEnv_srt vs (i + 1)) rr (i := i) (x := v) (O1 := O1) ⟨lt_of_get' h0, by rw [Array.getD_eq_getD_getElem?, h0]; exact r1⟩
    have e : O = Ov := funext fun b => by rw [ho b, hs b]
    exact e ▸ ro
theorem enter_S {args : List AV} {hs : HS} {xs : List Value} {Oa Oh : Nat → Nat} (rv : RVs g w args xs Oa) (sh : S P g w ⟨[], hs⟩ #[] Oh) (hle : ∀ b, Oa b + Oh b ≤ 1) (hhi : ∀ b, Oa b ≠ 0 → b < w.heap.size) (n : Nat) :
    S P g w ⟨mkEnv 0 args, hs⟩ (xs.toArray ++ Array.replicate n undef) fun b => Oa b + Oh b := by
  refine S.join (mkEnv_srt _ _) (mkEnv_rel rv fun j x hj => ?_) sh hle hhi
  have hlt := lt_of_get hj
  rw [Nat.zero_add, Array.getElem?_append_left (by simpa using hlt)]
  simpa using hj

/-! ### The way out -/
theorem Ext.deferBlk {b : Nat} {ds ds' : Option (List Deferred)} (hb : w.heap[b]? = some (.deferred ds)) : Ext g w g (Vm.setBlk w b (.deferred ds')) fun x => x = b where
  obj _ _ h := ⟨h, rfl, rfl, rfl⟩
  pm b' o h := ⟨h, by
    by_cases e : b' = b
    · subst e
      simp only [World.cell?, hb, setBlk_same (block_lt hb)]
    · exact cell?_of_block (setBlk_ne e) o⟩
  blk b' _ h := ⟨setBlk_ne h, fun _ h => h⟩
  size := by simp
  lp b' r h := ⟨r, by rw [setBlk_ne (by rintro rfl; rw [hb] at h; simp at h)]; exact h⟩
  same := ⟨rfl, rfl, frozen_setBlk hb (by intro off; simp [objFrozen]) (by intro off; simp [objFrozen])⟩
theorem run_takeDeferred {b : Nat} (h : w.heap[b]? = some (.deferred (some []))) : (Instr.takeDeferred b).run P w = .ok [] (setBlk w b (.deferred none)) := by
  simp [Instr.takeDeferred, getObj, setObj, Sem.run, Sem.run_bind, h, setBlk]

theorem leaves_sim {ro : Option Nat} {fn : Func} {tmps : Array Value} {R : Ending → World → Prop} {lo : Nat} : ∀ {ms : List Deferred} {w : World}, Marks w O lo ms → S P g w st t O →
    (∀ w', S P g w' st t O → Ext g w g w' (fun b => lo ≤ b) → ∃ v, (results fn tmps).run P w' = .ok v w' ∧ R (.returned v) w') → LeavesInM (FR ro) 0 P fn tmps R ms .returning w
  | [], w, _, s, h => h w s (.refl _ _ _)
  | d :: ds, w, ⟨⟨r, h1, h2, h3, h4, h5⟩, h6⟩, s, h => by
    refine ⟨by simp, .inl ⟨r, setBlk w r (.deferred none), h1, run_takeDeferred h3, ?_⟩⟩
    have hx : Ext g w g (setBlk w r (.deferred none)) fun x => x = r := Ext.deferBlk h3
    have hm : Marks (setBlk w r (.deferred none)) O lo ds := by
      clear h
      have : ∀ {es : List Deferred}, (∀ d' ∈ es, ∀ r', d'.target = .collected r' → r' < r) → Marks w O lo es → Marks (setBlk w r (.deferred none)) O lo es := by
        intro es
        induction es with
        | nil => exact fun _ _ => trivial
        | cons e es ih =>
          rintro hlt ⟨⟨q, k1, k2, k3, k4, k5⟩, k6⟩
          have := hlt e (.head _) q k1
          exact ⟨⟨q, k1, k2, by rw [setBlk_ne (by omega)]; exact k3, k4, k5⟩, ih (fun d' hd' => hlt d' (.tail _ hd')) k6⟩
      exact this h5 h6
    exact leaves_sim hm (s.otherG hx h4) fun w' s' hx' => h w' s' ((hx.mono (T := fun b => lo ≤ b) fun b _ e => by rw [e]; exact h2).trans hx' fun _ _ h => h)

/-- A result, as the model reads it. -/
def getRes (t : Array Value) : ResultVar → Sem Value
  | .tmp i => pure (t.getD i undef)
  | .cell i ty => do loadVar ty (← asAddr (t.getD i undef))
theorem results_eq (fn : Func) (t : Array Value) : results fn t = (do let vs ← fn.results.mapM (getRes t); pure (if h : vs.size = 1 then vs[0] else .tuple vs)) := by
  unfold results
  congr 1
theorem run_mapM {α : Type} {f : α → Sem Value} {l : Array α} {xs : List Value} (h : (l.toList.mapM f).run P w = .ok xs w) : (l.mapM f).run P w = .ok xs.toArray w := by
  rw [Array.mapM_eq_mapM_toList]
  simp [h]
theorem takeRes_rel : ∀ {vr : List VRes} {fr : List ResultVar}, chkRes P vr fr = true → ∀ {st st' : St} {O : Nat → Nat} {vs : List AV}, takeRes st vr = some (vs, st') → S P g w st t O →
    ∃ xs : List Value, ∃ Ov O', (fr.mapM (getRes t)).run P w = .ok xs w ∧ RVs g w vs xs Ov ∧ S P g w st' t O' ∧ (∀ b, Ov b + O' b ≤ O b) ∧
      xs.length = fr.length
  | [], [], _, st, st', O, vs, h, s => by
    simp only [takeRes, Option.some.injEq, Prod.mk.injEq] at h
    obtain ⟨rfl, rfl⟩ := h
    exact ⟨[], zero, O, by simp, by simp [RVs], s, fun b => by simp, rfl⟩
  | .tmp i :: vr, .tmp j :: fr, hc, st, st', O, vs, h, s => by
    simp only [chkRes, Bool.and_eq_true, Nat.beq_eq] at hc
    obtain ⟨rfl, hc⟩ := hc
    simp only [takeRes] at h
    split at h
    · rename_i v hv
      split at h
      · rename_i us st1 hr
        simp only [Option.some.injEq, Prod.mk.injEq] at h
        obtain ⟨rfl, rfl⟩ := h
        obtain ⟨O1, O2, _, rv, s2, l2⟩ := s.pull hv
        obtain ⟨xs, O3, O4, hrun, rvs, s4, l4, hlen⟩ := takeRes_rel hc hr s2
        refine ⟨t.getD i undef :: xs, fun b => O1 b + O3 b, O4, ?_, ?_, s4, fun b => by have := l2 b; have := l4 b; show O1 b + O3 b + O4 b ≤ O b; omega, by simp [hlen]⟩
        · simp only [List.mapM_cons, Sem.run_bind, getRes, Sem.run_pure, Result.andThen_ok, hrun]
        · simp only [RVs]; exact ⟨_, _, O1, O3, rfl, rv, rvs, fun _ => rfl⟩
      · simp at h
    · simp at h
  | .cell i n :: vr, .cell j ty :: fr, hc, st, st', O, vs, h, s => by
    simp only [chkRes, Bool.and_eq_true, Nat.beq_eq] at hc
    obtain ⟨⟨rfl, hty⟩, hc⟩ := hc
    simp only [takeRes] at h
    split at h
    · rename_i id hv
      split at h
      · rename_i v h' hl
        split at h
        · rename_i us st1 hr
          simp only [Option.some.injEq, Prod.mk.injEq] at h
          obtain ⟨rfl, rfl⟩ := h
          obtain ⟨O0, O00, _, rp, _, _⟩ := s.pull hv
          simp only [RV] at rp
          obtain ⟨⟨b, hob, hp⟩, _⟩ := rp
          obtain ⟨x, O1, O2, hrun1, rv, s2, l2⟩ := load_cells hty s hob hl
          obtain ⟨O5, s5, l5⟩ := s2.delEnv i
          obtain ⟨O6, s6, l6⟩ := s5.delHeap id
          obtain ⟨xs, O3, O4, hrun, rvs, s4, l4, hlen⟩ := takeRes_rel hc hr s6
          refine ⟨x :: xs, fun b => O1 b + O3 b, O4, ?_, ?_, s4, fun b => by have := l2 b; have := l4 b; have := l5 b; have := l6 b; show O1 b + O3 b + O4 b ≤ O b; omega, by simp [hlen]⟩
          · rw [List.mapM_cons]
            simp only [Sem.run_bind, getRes, hp, asAddr, Sem.run_pure, Result.andThen_ok, hrun1, hrun]
          · simp only [RVs]; exact ⟨_, _, O1, O3, rfl, rv, rvs, fun _ => rfl⟩
        · simp at h
      · simp at h
    · simp at h
  | [], _ :: _, hc, _, _, _, _, _, _ => by simp [chkRes] at hc
  | _ :: _, [], hc, _, _, _, _, _, _ => by simp [chkRes] at hc
  | .tmp _ :: _, .cell _ _ :: _, hc, _, _, _, _, _, _ => by simp [chkRes] at hc
  | .cell _ _ :: _, .tmp _ :: _, hc, _, _, _, _, _, _ => by simp [chkRes] at hc

theorem endF_rel {vf : VFunc} {fn : Func} (hc : chkRes P vf.results fn.results.toList = true) {v : AV} {hs' : HS} (h : endF vf st = some (v, hs')) (s : S P g w st t O) :
    ∃ x Ov Oh, (results fn t).run P w = .ok x w ∧ RV g w v x Ov ∧ S P g w ⟨[], hs'⟩ #[] Oh ∧ ∀ b, Ov b + Oh b ≤ O b := by
  unfold endF at h
  split at h
  · rename_i v1 st1 hr
    simp only [Option.some.injEq, Prod.mk.injEq] at h
    obtain ⟨rfl, rfl⟩ := h
    obtain ⟨xs, Ov, O', hrun, rvs, s', l, hlen⟩ := takeRes_rel hc hr s
    simp only [RVs] at rvs
    obtain ⟨x, ys, O1, O2, rfl, rv, ⟨rfl, _⟩, hs2⟩ := rvs
    obtain ⟨Oe, Oh, _, sh, ho⟩ := s'.split
    refine ⟨x, O1, Oh, ?_, rv, sh, fun b => by have := l b; have := ho b; have := hs2 b; omega⟩
    rw [results_eq, Sem.run_bind, run_mapM hrun]
    simp
  · rename_i vs st1 hne hr
    simp only [Option.some.injEq, Prod.mk.injEq] at h
    obtain ⟨rfl, rfl⟩ := h
    obtain ⟨xs, Ov, O', hrun, rvs, s', l, hlen⟩ := takeRes_rel hc hr s
    obtain ⟨Oe, Oh, _, sh, ho⟩ := s'.split
    refine ⟨.tuple xs.toArray, Ov, Oh, ?_, by simp only [RV]; exact ⟨xs.toArray, rfl, rvs⟩, sh, fun b => by have := l b; have := ho b; omega⟩
    have hl1 : xs.length ≠ 1 := by
      intro h1
      have h2 := rvs.length
      rw [h1] at h2
      match vs, h2 with
      | [v], _ => exact hne v rfl
    rw [results_eq, Sem.run_bind, run_mapM hrun]
    simp [hl1]
  · simp at h
end
end Go.Vm

/-
  FUNCTIONS (2): slices.Clone.
-/
namespace Go.Vm
section
variable {P : Program} {g : Gh} {w : World} {t : Array Value} {O : Nat → Nat} {st st' : St} {a : AV} {o : Oper} {r : Rec}

theorem wpOps_cons {ro : Option Nat} {ops : Array Oper} {Q : Exit → Act → World → Prop} {i : Nat} {rest : List Nat} {ds : List Deferred} {v : Value} {w' : World} (h : ops[i]? = some o) (hg : o.guard = none)
    (hd : ∀ c, o.op ≠ .defer c) (hrun : (execOp (ev t) o).run P w = .ok (.value v) w') (hk : wpOpsIn (FR ro) 0 P ops Q rest ⟨putT t o.dst v, ds⟩ w') : wpOpsIn (FR ro) 0 P ops Q (i :: rest) ⟨t, ds⟩ w := by
  simp only [wpOpsIn, h]
  rw [if_pos (by simp [Region.wanted, hg])]
  refine ⟨fun _ _ => trivial, ?_⟩
  rw [semAt_ev _ _ hd, hrun, Oper.uponIn_value, put_eq]
  exact hk

theorem opIs_get {d : Nat} (h : opIs o d = true) : o.dst = some d ∧ o.guard = none := by
  simp only [opIs, Bool.and_eq_true] at h
  obtain ⟨h1, h2⟩ := h
  split at h1
  · rename_i e he; rw [Nat.beq_eq] at h1; subst h1; exact ⟨he, Option.isNone_iff_eq_none.1 h2⟩
  · simp at h1
theorem isNilC_get {x : Operand} (h : isNilC x = true) : x = .const (.slice none 0 0) := by
  unfold isNilC at h; split at h
  · rfl
  · simp at h
theorem isTmp_get {i : Nat} {x : Operand} (h : isTmp i x = true) : x = .tmp i := by
  unfold isTmp at h; split at h
  · rw [Nat.beq_eq] at h; subst h; rfl
  · simp at h
theorem arr1 {α : Type} {r : Array α} {x : α} (h : r.toList = [x]) : r = #[x] := by
  apply Array.ext'; simpa using h
theorem clone1_get {d : Nat} {r : Array Oper} (h : clone1 d r.toList = true) : ∃ o, r = #[o] ∧ o.dst = some d ∧ o.guard = none ∧ o.op = .assign (.const (.slice none 0 0)) := by
  unfold clone1 at h
  split at h
  · rename_i o e
    simp only [Bool.and_eq_true] at h
    obtain ⟨h1, h2⟩ := h
    obtain ⟨k1, k2⟩ := opIs_get h1
    split at h2
    · rename_i x hx
      exact ⟨o, by apply Array.ext'; rw [e], k1, k2, by rw [hx, isNilC_get h2]⟩
    · simp at h2
  · simp at h
theorem clone2_get {m : Nat} {r : Array Oper} (h : clone2 P m r.toList = true) : ∃ a b T u, r = #[a, b] ∧ a.dst = some 3 ∧ a.guard = none ∧ a.op = .move (.tmp 0) ∧ b.dst = some 4 ∧ b.guard = none ∧
    b.op = .binOp .eql T (.tmp 3) (.const (.slice none 0 0)) u ∧ tySlice P T m = true := by
  unfold clone2 at h
  split at h
  · rename_i a b e
    simp only [Bool.and_eq_true] at h
    obtain ⟨⟨⟨h1, h2⟩, h3⟩, h4⟩ := h
    obtain ⟨k1, k2⟩ := opIs_get h1
    obtain ⟨k3, k4⟩ := opIs_get h3
    split at h2
    · rename_i x hx
      split at h4
      · rename_i T y z u hb
        simp only [Bool.and_eq_true] at h4
        obtain ⟨⟨q1, q2⟩, q3⟩ := h4
        exact ⟨a, b, T, u, by apply Array.ext'; rw [e], k1, k2, by rw [hx, isTmp_get h2], k3, k4, by rw [hb, isTmp_get q2, isNilC_get q3], q1⟩
      · simp at h4
    · simp at h2
  · simp at h
theorem clone3_get {m : Nat} {r : Array Oper} (h : clone3 P m r.toList = true) : ∃ a b c d T ats e', r = #[a, b, c, d] ∧ a.dst = some 5 ∧ a.guard = none ∧ a.op = .buildSlice T 0 #[] ∧ tySlice P T m = true ∧
    b.dst = some 6 ∧ b.guard = none ∧ b.op = .move (.tmp 0) ∧ c.dst = some 7 ∧ c.guard = none ∧ c.op = .call ⟨.builtin .append, #[.tmp 5, .tmp 6], ats⟩ ∧ ats = #[ty0 ⟨.builtin .append, #[.tmp 5, .tmp 6], ats⟩, ats.getD 1 0] ∧
    tySlice P (ty0 ⟨.builtin .append, #[.tmp 5, .tmp 6], ats⟩) m = true ∧ tyElemZeroLen P (ty0 ⟨.builtin .append, #[.tmp 5, .tmp 6], ats⟩) m = true ∧ P.underlying (ats.getD 1 0) = some (.slice e') ∧
    d.dst = some 2 ∧ d.guard = none ∧ d.op = .assign (.tmp 7) := by
  unfold clone3 at h
  split at h
  · rename_i a b c d e
    simp only [Bool.and_eq_true] at h
    obtain ⟨⟨⟨⟨⟨⟨⟨h1, h2⟩, h3⟩, h4⟩, h5⟩, h6⟩, h7⟩, h8⟩ := h
    obtain ⟨k1, k2⟩ := opIs_get h1
    obtain ⟨k3, k4⟩ := opIs_get h3
    obtain ⟨k5, k6⟩ := opIs_get h5
    obtain ⟨k7, k8⟩ := opIs_get h7
    split at h2
    · rename_i T ps hops
      simp only [Bool.and_eq_true] at h2
      have hps : ps = #[] := by simpa using h2.2
      split at h4
      · rename_i x hx
        split at h6
        · rename_i k hk
          obtain ⟨callee, args, ats⟩ := k
          simp only [Bool.and_eq_true] at h6
          obtain ⟨⟨⟨⟨⟨q1, q2⟩, q3⟩, q4⟩, q5⟩, q6⟩ := h6
          have := calleeB_eq q1; subst this
          split at q6
          · rename_i y z hargs
            simp only [Bool.and_eq_true] at q6
            have e1 := isTmp_get q6.1
            have e2 := isTmp_get q6.2
            subst e1 e2
            have : args = #[.tmp 5, .tmp 6] := by apply Array.ext'; rw [hargs]
            subst this
            split at q5
            · rename_i e' he'
              split at h8
              · rename_i u hu
                exact ⟨a, b, c, d, T, ats, e', by apply Array.ext'; rw [e], k1, k2, by rw [hops, hps], h2.1, k3, k4, by rw [hx, isTmp_get h4], k5, k6, hk, two_types q2, q3, q4, he', k7, k8, by rw [hu, isTmp_get h8]⟩
              · simp at h8
            · simp at q5
          · simp at q6
        · simp at h6
      · simp at h4
    · simp at h2
  · simp at h

theorem getD_put {i j : Nat} {v : Value} (h : j < t.size) : (t.setIfInBounds i v).getD j undef = if i = j then v else t.getD j undef := by
  simp only [Array.getD_eq_getD_getElem?, Array.getElem?_setIfInBounds]
  by_cases e : i = j
  · subst e; simp [h]
  · simp [e]

theorem code_clone {m : Nat} {c : Code} (hc : chkClone P m c = true) {out : Out} (h : vcClone m st = some (out, st')) (ht : 8 ≤ t.size) (s : S P g w st t O) :
    c.wpIn (FR none) 0 P (CodePost P g w t O [] none out st') ⟨t, []⟩ w := by
  unfold chkClone at hc
  split at hc
  · rename_i i0 r0 i1 r1 i2 r2 i3 r3
    simp only [Bool.and_eq_true] at hc
    obtain ⟨⟨⟨c0, c1⟩, c2⟩, c3⟩ := hc
    obtain ⟨o0, rfl, d0, gd0, p0⟩ := clone1_get c0
    obtain ⟨o1, o2, T, u, rfl, d1, gd1, p1, d2, gd2, p2, hT⟩ := clone2_get c1
    obtain ⟨o3, rfl, d3, gd3, p3⟩ := clone1_get c2
    obtain ⟨o4, o5, o6, o7, T4, ats, e', rfl, d4, gd4, p4, hT4, d5, gd5, p5, d6, gd6, p6, hats, hT6, hz6, hu1, d7, gd7, p7⟩ := clone3_get c3
    unfold vcClone at h
    split at h
    · rename_i v hv
      split at h
      · rename_i xs hxs
        split at h
        · rename_i hb
          simp only [Bool.and_eq_true, Nat.ble_eq] at hb
          obtain ⟨hok, hmost⟩ := hb
          simp only [Option.some.injEq, Prod.mk.injEq] at h
          obtain ⟨rfl, rfl⟩ := h
          have hl := okElems_len hok
          obtain ⟨Ov, O1, h0t, rv, s1, l1⟩ := s.pull hv
          obtain ⟨ad, cap, news0, hx, hels0⟩ := elems_rel s hxs hl rv
          obtain ⟨Oe, Oh, _, sh, ho⟩ := s.split
          generalize hX : t.getD 0 undef = X at *
          obtain ⟨el, hu, hsz, hm, hby⟩ := tySlice_elem hT
          -- the last step
          have fin : ∀ (t' : Array Value) (w' : World) (g' : Gh) (Or O' : Nat → Nat), t'.size = t.size → RV g' w' (.own true m xs) (t'.getD 2 undef) Or → S P g' w' ⟨[], st.hs⟩ #[] O' → Ext g w g' w' (fun b => O b ≠ 0) →
              (∀ b, Or b + O' b ≤ 1) → (∀ b, b < w.heap.size → Or b + O' b ≤ O b) → (∀ b, Or b ≠ 0 → b < w'.heap.size) → CodePost P g w t O [] none .ret ⟨[(2, .own true m xs)], st.hs⟩ .ret ⟨t', []⟩ w' := by
            intro t' w' g' Or O' hsz' rv' s' hx' hle hold hhi
            refine ⟨rfl, g', fun b => Or b + O' b, [], ⟨S.join (by simp [Srt]) ⟨Or, zero, ⟨by show 2 < t'.size; omega, rv'⟩, fun _ => rfl, fun b => by simp⟩ s' hle hhi, hx', hold, hsz'⟩, rfl, trivial, fun _ => rfl⟩
          have nodef : ∀ {op : Op} {op' : Op}, op = op' → (∀ c, op' ≠ .defer c) → ∀ c, op ≠ .defer c := fun e h c e2 => h c (e ▸ e2)
          refine wpIn_seq (wpIn_region ?_)
          show wpOpsIn _ _ _ _ _ [0] _ _
          refine wpOps_cons (o := o0) (v := .slice none 0 0) (w' := w) rfl gd0 (nodef p0 (by simp)) (by simp [execOp, p0, ev]) ?_
          refine wpIn_seq (wpIn_seq (wpIn_region ?_))
          show wpOpsIn _ _ _ _ _ [0, 1] _ _
          have hev0 : ev (putT t (some 2) (.slice none 0 0)) (.tmp 0) = X := by
            show (t.setIfInBounds 2 _).getD 0 undef = X
            rw [getD_put (by omega), if_neg (by omega), hX]
          rw [d0]
          refine wpOps_cons (o := o1) (v := X) (w' := w) rfl gd1 (nodef p1 (by simp)) (by simp [execOp, p1, hev0]) ?_
          rw [d1]
          generalize ht2 : putT (putT t (some 2) (.slice none 0 0)) (some 3) X = t2
          have hs2 : t2.size = t.size := by rw [← ht2, putT_size, putT_size]
          have hev3 : ev t2 (.tmp 3) = X := by
            rw [← ht2]
            show ((putT t (some 2) (.slice none 0 0)).setIfInBounds 3 X).getD 3 undef = X
            rw [getD_put (by rw [putT_size]; omega), if_pos rfl]
          have heq : (Op.equal T X (.slice none 0 0)).run P w = .ok ad.isNone w := by
            show (Op.equalIn (9999 + 1) T X (.slice none 0 0)).run P w = _
            rw [hx]
            unfold Op.equalIn
            rw [Sem.run_bind, run_underlying hu]
            cases ad <;> simp
          have hguard : (eqGuard .eql T (.tmp 3) (.const (.slice none 0 0)) X (.slice none 0 0)).run P w = .ok () w := by
            rw [hx]; unfold eqGuard; simp
          refine wpOps_cons (o := o2) (v := .bool ad.isNone) (w' := w) rfl gd2 (nodef p2 (by simp)) ?_ ?_
          · simp only [execOp, p2, hev3]
            have hc : ev t2 (.const (.slice none 0 0)) = .slice none 0 0 := rfl
            rw [hc, Sem.run_bind, Sem.run_bind, hguard]
            have hbin : (binOp .eql T X (.slice none 0 0)).run P w = .ok (.bool ad.isNone) w := by
              rw [hx]
              rw [hx] at heq
              show ((do pure (.bool (← Op.equal T (.slice ad xs.length cap) (.slice none 0 0))) : Sem Value)).run P w = _
              rw [Sem.run_bind, heq]; rfl
            simp only [Result.andThen_ok, hbin, Sem.run_pure]
          · rw [d2]
            generalize ht3 : putT t2 (some 4) (.bool ad.isNone) = t3
            have hs3 : t3.size = t.size := by rw [← ht3, putT_size, hs2]
            have hev4 : ev t3 (.tmp 4) = .bool ad.isNone := by
              rw [← ht3]
              show (t2.setIfInBounds 4 _).getD 4 undef = _
              rw [getD_put (by omega), if_pos rfl]
            have hev03 : ev t3 (.tmp 0) = X := by
              rw [← ht3, ← ht2]
              show (((t.setIfInBounds 2 _).setIfInBounds 3 _).setIfInBounds 4 _).getD 0 undef = X
              rw [getD_put (by simp; omega), if_neg (by omega), getD_put (by simp; omega), if_neg (by omega), getD_put (by omega), if_neg (by omega), hX]
            show (Code.cond (.tmp 4) (.seq (.region i2 #[o3] false) .ret) .skip).wpIn (FR none) 0 P _ ⟨t3, []⟩ w
            cases had : ad with
            | none =>
              refine wpIn_cond_true (by rw [ev_eval, hev4, had]; rfl) (wpIn_seq (wpIn_region ?_))
              show wpOpsIn _ _ _ _ _ [0] _ _
              refine wpOps_cons (o := o3) (v := .slice none 0 0) (w' := w) rfl gd3 (nodef p3 (by simp)) (by simp [execOp, p3, ev]) (wpIn_ret ?_)
              rw [d3]
              have hnil : xs = [] := List.eq_nil_of_length_eq_zero (hels0.nn had)
              refine fin _ w g zero Oh (by rw [putT_size, hs3]) ?_ sh (.refl _ _ _) (fun b => by have := ho b; have := s.le b; simp; omega) (fun b _ => by have := ho b; simp; omega) (fun b hb => by simp at hb)
              have : (putT t3 (some 2) (.slice none 0 0)).getD 2 undef = .slice none 0 0 := by
                show (t3.setIfInBounds 2 _).getD 2 undef = _
                rw [getD_put (by omega), if_pos rfl]
              rw [this, hnil]
              simp only [RV, Own]
              exact .inl ⟨trivial, fun _ => trivial, none, rfl⟩
            | some ad' =>
              refine wpIn_cond_false (by rw [ev_eval, hev4, had]; rfl) (wpIn_skip ?_)
              refine wpIn_seq (wpIn_region ?_)
              show wpOpsIn _ _ _ _ _ [0, 1, 2, 3] _ _
              obtain ⟨el4, hu4, hsz4, hm4, hby4⟩ := tySlice_elem hT4
              have hbuild : (Instr.buildSlice T4 0 #[]).run P w = .ok (.slice (some ⟨w.heap.size, 0, none⟩) 0 0) (w.alloc (.cells #[] el4)) := by
                have hr : ∀ f : Nat → Value, (Array.range (0 * m)).map f = #[] := by
                  intro f
                  apply Array.eq_empty_of_size_eq_zero
                  simp
                simp only [Instr.buildSlice, run_underlying hu4, run_sizeOf hsz4, Sem.run_bind, Result.andThen_ok, Sem.run_ite, hr, Instr.fill, Nat.zero_mul, if_true, Sem.run_pure]
                have hr0 : ∀ f : Nat → Value, (Array.range 0).map f = #[] := by
                  intro f
                  apply Array.eq_empty_of_size_eq_zero
                  simp
                simp [newRow, hr0, Instr.fill]
              refine wpOps_cons (o := o4) (v := .slice (some ⟨w.heap.size, 0, none⟩) 0 0) (w' := w.alloc (.cells #[] el4)) rfl gd4 (nodef p4 (by simp)) (by simp [execOp, p4, hbuild]) ?_
              rw [d4]
              generalize ht5 : putT t3 (some 5) (.slice (some ⟨w.heap.size, 0, none⟩) 0 0) = t5
              have hs5 : t5.size = t.size := by rw [← ht5, putT_size, hs3]
              have hev05 : ev t5 (.tmp 0) = X := by
                rw [← ht5]
                show (t3.setIfInBounds 5 _).getD 0 undef = X
                rw [getD_put (by omega), if_neg (by omega)]
                exact hev03
              refine wpOps_cons (o := o5) (v := X) (w' := w.alloc (.cells #[] el4)) rfl gd5 (nodef p5 (by simp)) (by simp [execOp, p5, hev05]) ?_
              rw [d5]
              generalize ht6 : putT t5 (some 6) X = t6
              have hs6 : t6.size = t.size := by rw [← ht6, putT_size, hs5]
              have hev66 : ev t6 (.tmp 6) = X := by
                rw [← ht6]
                show (t5.setIfInBounds 6 _).getD 6 undef = X
                rw [getD_put (by omega), if_pos rfl]
              have hev65 : ev t6 (.tmp 5) = .slice (some ⟨w.heap.size, 0, none⟩) 0 0 := by
                rw [← ht6, ← ht5]
                show ((t3.setIfInBounds 5 _).setIfInBounds 6 _).getD 5 undef = _
                rw [getD_put (by simp; omega), if_neg (by omega), getD_put (by omega), if_pos rfl]
              -- the new world
              have hx1 : Ext g w g (w.alloc (.cells #[] el4)) fun _ => False := Ext.alloc s.pmlt _ _
              have hpl : ∀ b o, g.pm b o → b < (w.alloc (.cells #[] el4)).heap.size := fun b o h => Nat.lt_of_lt_of_le (s.pmlt b o h) hx1.size
              have sx := s.extF hx1 rfl hpl
              have shx := sh.extF hx1 rfl hpl
              have rvx := RV.ext hx1 _ _ _ rv (by simp)
              obtain ⟨ad2, cap2, news, hxx, hels⟩ := elems_rel sx hxs hl rvx
              rw [hx, had] at hxx
              simp only [Value.slice.injEq, true_and] at hxx
              obtain ⟨rfl, rfl⟩ := hxx
              obtain ⟨el6, hu6, hsz6, hm6, hby6⟩ := tySlice_elem hT6
              obtain ⟨el6', i6, zv, hu6', hi, hz, hzs⟩ := tyElemZeroLen_get hz6
              rw [hu6] at hu6'
              simp only [Option.some.injEq, TypeDesc.slice.injEq] at hu6'
              subst hu6'
              rw [bytesOf_get hi] at hby6
              generalize ty0 ⟨.builtin .append, #[.tmp 5, .tmp 6], ats⟩ = T0 at *
              generalize ats.getD 1 0 = T1 at *
              have hsrc : Src P (w.alloc (.cells #[] el4)) T1 X el6 m xs.length news := by
                refine ⟨hels.len, hels.one, .inl ⟨⟨e', hu1⟩, ⟨ad, cap, hx⟩, fun w1 hw => ?_⟩⟩
                have := hels.first (P := P) (len := xs.length) (cap := cap) (Nat.le_refl _) hw
                rw [← hels.len, List.take_length, ← had, ← hx] at this
                exact this
              have hmost' : xs.length ≤ 4294967296 := hmost
              have hApp : AppOK P g (w.alloc (.cells #[] el4)) #[] Oh zero ⟨[], st.hs⟩ (.own true m xs) ((Builtin.append_ #[T0, T1] o6.type #[.slice (some ⟨w.heap.size, 0, none⟩) 0 0, X]).run P (w.alloc (.cells #[] el4))) := by
                by_cases hxs0 : xs.length = 0
                · have hnil : news = [] := List.eq_nil_of_length_eq_zero (by rw [hels.len, hxs0]; simp)
                  have hxn : xs = [] := List.eq_nil_of_length_eq_zero hxs0
                  have hrun := run_append_fits (P := P) (w := w.alloc (.cells #[] el4)) (ty := o6.type) hu6 hi (tySz_get hsz6 hi) hm6 hby6 hmost' hsrc (base := some ⟨w.heap.size, 0, none⟩) (sLen := 0) (sCap := 0) (by omega)
                  refine ⟨.slice (some ⟨w.heap.size, 0, none⟩) 0 0, w.alloc (.cells #[] el4), g, zero, Oh, ?_, ?_, shx, .refl _ _ _, fun b => by have := shx.le b; simp; omega, fun b _ => by simp, fun b hb => by simp at hb⟩
                  · rw [hrun, hnil, hxs0]; simp [storeCells]
                  · rw [hxn]; simp only [RV, Own]; exact .inl ⟨trivial, fun _ => trivial, _, rfl⟩
                · have := grow_rel (Oa := zero) (xs := []) (base := some ⟨w.heap.size, 0, none⟩) (sCap := 0) (olds := []) (ty := o6.type) shx hu6 hi hz hzs (tySz_get hsz6 hi) hm6 hby6 hsrc hels.rd (fun e he => by simp at he) hl (by simp)
                    (fun j d h => by simp at h) (fun w1 _ => run_firstCells_zero m _ 0 0 w1) (by simpa using hmost') (by simp; omega)
                  simpa using this
              obtain ⟨vv, w2, g2, Or, O2, k1, k2, k3, k4, k5, k6, k7⟩ := hApp
              refine wpOps_cons (o := o6) (v := vv) (w' := w2) rfl gd6 (nodef p6 (by simp)) ?_ ?_
              · simp only [execOp, p6, resolve, Sem.run_bind, Sem.run_pure, Result.andThen_ok, invoke, builtin]
                have hargs : Array.map (ev t6) #[Operand.tmp 5, Operand.tmp 6] = #[.slice (some ⟨w.heap.size, 0, none⟩) 0 0, X] := by
                  simp only [List.map_toArray, List.map_cons, List.map_nil, hev65, hev66]
                rw [hargs, hats, k1]
                simp
              · rw [d6]
                generalize ht7 : putT t6 (some 7) vv = t7
                have hs7 : t7.size = t.size := by rw [← ht7, putT_size, hs6]
                have hev77 : ev t7 (.tmp 7) = vv := by
                  rw [← ht7]
                  show (t6.setIfInBounds 7 _).getD 7 undef = vv
                  rw [getD_put (by omega), if_pos rfl]
                refine wpOps_cons (o := o7) (v := vv) (w' := w2) rfl gd7 (nodef p7 (by simp)) (by simp [execOp, p7, hev77]) (wpIn_ret ?_)
                rw [d7]
                have hle1 : w.heap.size ≤ (w.alloc (.cells #[] el4)).heap.size := hx1.size
                refine fin _ w2 g2 Or O2 (by rw [putT_size, hs7]) ?_ k3 (((hx1.mono (T := fun b => O b ≠ 0) fun _ _ h => h.elim)).trans k4 fun b hb hq => ?_) k5 (fun b hb => ?_) k7
                · have : (putT t7 (some 2) vv).getD 2 undef = vv := by
                    show (t7.setIfInBounds 2 _).getD 2 undef = _
                    rw [getD_put (by omega), if_pos rfl]
                  rw [this]; exact k2
                · rcases hq with hq | hq
                  · exact absurd rfl hq
                  · have := ho b; show O b ≠ 0; omega
                · have h6 : Or b + O2 b ≤ 0 + Oh b := k6 b (Nat.lt_of_lt_of_le hb hle1)
                  have := ho b; omega
        · simp at h
      · simp at h
    · simp at h
  · simp at hc
end
end Go.Vm

/-
  FUNCTIONS (2): a function that is entered as a deferred call; the way out over a deferred call.
-/
namespace Go.Vm
section
variable {P : Program} {F : Fence} {n : Nat}

theorem leaves_stepsD {fn : Func} {tmps : Array Value} {R : Ending → World → Prop} : ∀ (ds : List Deferred) (u : FrameMode) (w : World) (fr : Frame)
    (cs : List Frame), fr.mode = u → fr.defers = ds → fr.tmps = tmps → P.funcs[fr.fn]? = some fn → fr.kind = .deferred → F.fn fr.fn → F.room (cs.length + 1 + n) → LeavesInM F n P fn tmps R ds u w →
    ∃ e w' fr', R e w' ∧ ComesIn (Machine.fenced P F) P (lone fr cs w) (lone fr' cs w') e ∧ fr'.fn = fr.fn ∧ fr'.kind = .deferred ∧ fr'.going P w' e := by
  intro ds
  induction ds with
  | nil =>
    intro u w fr cs hu hd ht hf hk _ _ h
    cases u with
    | run => exact h.elim
    | returning =>
      obtain ⟨v, hr, hR⟩ := h
      exact ⟨.returned v, w, fr, hR, StepsIn.refl _, rfl, hk, hu, hd, fn, hf, ht ▸ hr⟩
    | panicking chain => exact ⟨.panicked chain, w, fr, h, StepsIn.refl _, rfl, hk, hu, hd, fn, hf⟩
  | cons d ds ih =>
    intro u w fr cs hu hd ht hf hk hb hroom h
    obtain ⟨hrun, h⟩ := h
    rcases h with ⟨r, w', htar, htake, hrest⟩ | ⟨hn, fv, cap, f, args, htar, hinv, hlead, hFf, hcall⟩
    · have h1 := step_collected (cs := cs) (hu ▸ hrun) hd htar htake
      have i1 : (lone fr cs w).fenced P F := fenced_out hb hroom (hu ▸ hrun) hd (fun g hg => by rw [htar] at hg; simp [Target.leads] at hg)
      obtain ⟨e', w'', fr', hR', hs', hfn', hk', hl'⟩ := ih u w' { fr with defers := [] ++ ds } cs hu rfl ht hf hk hb hroom hrest
      exact ⟨e', w'', fr', hR', ComesIn.of_steps (.one i1 h1) hs', hfn', hk', hl'⟩
    · have h1 := step_defer (cs := cs) (hu ▸ hrun) hd htar hinv
      have i1 : (lone fr cs w).fenced P F := fenced_out hb hroom (hu ▸ hrun) hd hlead
      have hroom' : F.room (({ fr with defers := ds } :: cs).length + 1 + (n - 1)) := Fence.room_enter hroom hn
      obtain ⟨e, u', w', frX, hR, hsteps, hkX, hfX, hgo⟩ := hcall { fr with defers := ds } cs hu hroom'
      cases e with
      | outgrown => exact ⟨.outgrown, w', fr, hR, Outgrown.of_steps (.one h1) hsteps, rfl, hk, trivial⟩
      | returned v =>
        have i2 : (lone frX ({ { fr with defers := ds } with mode := u' } :: cs) w').fenced P F := fenced_going (n := n - 1) (hfX ▸ hFf) hroom' hgo
        have h2 := step_going_returned (c := { { fr with defers := ds } with mode := u' }) (cs := cs) hkX hgo
        obtain ⟨e', w'', fr', hR', hs', hfn', hk', hl'⟩ := ih (settle u') w' { { { fr with defers := ds } with mode := u' } with mode := settle u' } cs rfl rfl ht hf hk hb hroom hR
        exact ⟨e', w'', fr', hR', ComesIn.of_steps (.head i1 h1 (StepsIn.trans hsteps (.one i2 h2))) hs', hfn', hk', hl'⟩
      | panicked chain =>
        have i2 : (lone frX ({ { fr with defers := ds } with mode := u' } :: cs) w').fenced P F := fenced_going (n := n - 1) (hfX ▸ hFf) hroom' hgo
        have h2 := step_going_panicked (c := { { fr with defers := ds } with mode := u' }) (cs := cs) hgo
        obtain ⟨e', w'', fr', hR', hs', hfn', hk', hl'⟩ := ih (raised u' chain) w' { { { fr with defers := ds } with mode := u' } with mode := raised u' chain } cs rfl rfl ht hf hk hb hroom hR
        exact ⟨e', w'', fr', hR', ComesIn.of_steps (.head i1 h1 (StepsIn.trans hsteps (.one i2 h2))) hs', hfn', hk', hl'⟩

/-- A function that is entered as a deferred call, ranges over functions and all. -/
theorem callsDIn_of_wp_marks {f : FuncId} {fn : Func} {c : Code} {args : Array Value} {u : FrameMode} {w : World} {R : Ending → World → Prop}
    (hf : P.funcs[f]? = some fn) (hb : fn.body = some c) (hF : F.fn f)
    (h : c.wpIn F n P (bodyPostM F n P fn R) { tmps := args ++ Array.replicate (fn.ntmps - args.size) undef, defers := [] } w) (hro : F.round = none := by rfl) :
    CallsDIn F n P f args u w fun e u' w' => u' = u ∧ R e w' := by
  refine ⟨hF, fun c₀ cs hu hr => ?_⟩
  let b : Frame := { (default : Frame) with fn := f, kind := .deferred, roundOf := none }
  have henter : Frame.enter P f args .deferred =
      b.atR { tmps := args ++ Array.replicate (fn.ntmps - args.size) undef, defers := [] } [.code c] := by
    simp [Frame.enter, Frame.atR, hf, hb, b]
  have hc : ({ c₀ with mode := u } : Frame) = c₀ := by subst hu; rfl
  obtain ⟨e, a', w', hq, harr⟩ := h b [] (c₀ :: cs) hro.symm hF hr
  rw [← henter] at harr
  cases e with
  | normal =>
    obtain ⟨e', w'', fr', hR, hs, hfn, hk, hl⟩ := leaves_stepsD a'.defers .returning w' { b.atR a' [] with mode := .returning } (c₀ :: cs) rfl rfl rfl hf rfl hF hr hq
    exact ⟨e', u, w'', fr', ⟨rfl, hR⟩, (by rw [hc]; exact ComesIn.of_steps (StepsIn.trans harr (.one (fenced_calm (fr := b.atR a' []) hF hr rfl) (stepR_end rfl))) hs), hk, hfn, hl⟩
  | ret =>
    obtain ⟨todo, hs₀⟩ := harr.1 rfl
    obtain ⟨e', w'', fr', hR, hs, hfn, hk, hl⟩ := leaves_stepsD a'.defers .returning w' { b.atR a' todo with mode := .returning } (c₀ :: cs) rfl rfl rfl hf rfl hF hr hq
    exact ⟨e', u, w'', fr', ⟨rfl, hR⟩, (by rw [hc]; exact ComesIn.of_steps hs₀ hs), hk, hfn, hl⟩
  | panic chain =>
    obtain ⟨todo, hs₀⟩ := harr
    obtain ⟨e', w'', fr', hR, hs, hfn, hk, hl⟩ := leaves_stepsD a'.defers (.panicking chain) w' { b.atR a' todo with mode := .panicking chain } (c₀ :: cs) rfl rfl rfl hf rfl hF hr hq
    exact ⟨e', u, w'', fr', ⟨rfl, hR⟩, (by rw [hc]; exact ComesIn.of_steps hs₀ hs), hk, hfn, hl⟩
  | exit id => exact hq.elim
  | goto l => exact hq.elim
  | outgrown => exact ⟨.outgrown, u, w', b, ⟨rfl, hq⟩, (by rw [hc]; exact harr.resolve_left (by simp [b])), rfl, rfl, trivial⟩
end

section
variable {P : Program} {g : Gh} {w : World} {t : Array Value} {O : Nat → Nat} {st st' : St} {a : AV} {o : Oper} {r : Rec}

/-- What is asked of calls that are deferred. -/
def CallSimD (P : Program) (r : Rec) : Prop :=
  ∀ {f : FuncId} {args : List AV} {hs : HS} {v : AV} {hs' : HS}, r.call f args hs = some (v, hs') →
    ∀ {g : Gh} {w : World} {xs : List Value} {Oa Oh : Nat → Nat}, RVs g w args xs Oa → S P g w ⟨[], hs⟩ #[] Oh → (∀ b, Oa b + Oh b ≤ 1) → (∀ b, Oa b ≠ 0 → b < w.heap.size) → ∀ u : FrameMode,
      CallsDIn (FR none) 0 P f xs.toArray u w fun e u' w' => u' = u ∧ CallPost P g w (fun b => Oa b + Oh b) v hs' e w'

theorem leaves_sim2 {ro : Option Nat} {fn : Func} {tmps : Array Value} {R : Ending → World → Prop} {lo : Nat} {es : List Deferred} : ∀ {ms : List Deferred} {w : World}, Marks w O lo ms → S P g w st t O →
    (∀ w', S P g w' st t O → Ext g w g w' (fun b => lo ≤ b) → LeavesInM (FR ro) 0 P fn tmps R es .returning w') → LeavesInM (FR ro) 0 P fn tmps R (ms ++ es) .returning w
  | [], w, _, s, h => h w s (.refl _ _ _)
  | d :: ds, w, ⟨⟨r, h1, h2, h3, h4, h5⟩, h6⟩, s, h => by
    refine ⟨by simp, .inl ⟨r, setBlk w r (.deferred none), h1, run_takeDeferred h3, ?_⟩⟩
    have hx : Ext g w g (setBlk w r (.deferred none)) fun x => x = r := Ext.deferBlk h3
    have hm : Marks (setBlk w r (.deferred none)) O lo ds := by
      clear h
      have : ∀ {es : List Deferred}, (∀ d' ∈ es, ∀ r', d'.target = .collected r' → r' < r) → Marks w O lo es → Marks (setBlk w r (.deferred none)) O lo es := by
        intro es
        induction es with
        | nil => exact fun _ _ => trivial
        | cons e es ih =>
          rintro hlt ⟨⟨q, k1, k2, k3, k4, k5⟩, k6⟩
          have := hlt e (.head _) q k1
          exact ⟨⟨q, k1, k2, by rw [setBlk_ne (by omega)]; exact k3, k4, k5⟩, ih (fun d' hd' => hlt d' (.tail _ hd')) k6⟩
      exact this h5 h6
    exact leaves_sim2 hm (s.otherG hx h4) fun w' s' hx' => h w' s' ((hx.mono (T := fun b => lo ≤ b) fun b _ e => by rw [e]; exact h2).trans hx' fun _ _ h => h)
end
end Go.Vm

/-
  THE INTERPRETER IS SOUND: what it answers is what the model's machine answers.
-/
namespace Go.Vm

/-- A function's annotated code belongs to the program's. -/
def FnAll (P : Program) (vf : VFunc) (f : FuncId) : Prop :=
  ∃ fn c, P.funcs[f]? = some fn ∧ fn.body = some c ∧ fn.name ≠ "runtime.NumGoroutine" ∧ vf.nparams ≤ fn.ntmps ∧ chkRes P vf.results fn.results.toList = true ∧
    (Mt P fn.ntmps vf.body c ∨ (∃ m, vf.body = .clone m ∧ chkClone P m c = true ∧ 8 ≤ fn.ntmps) ∨ ∃ i d f a, vf.body = .late i d f a ∧ chkLate P fn.ntmps i d f a c = true)
def TabOK (P : Program) (T : Nat → Option VFunc) : Prop := ∀ f vf, T f = some vf → FnAll P vf f

def LoopSim (P : Program) (r : Rec) : Prop :=
  ∀ {v : VC} {st : St} {o : Out} {st' : St}, r.code (.loop v) st = some (o, st') → ∀ {c : Code} {n : Nat}, Mt P n v c → ∀ {g : Gh} {w : World} {t : Array Value} {O : Nat → Nat}, t.size = n → S P g w st t O →
    ∀ (ro : Option Nat) (ds : List Deferred), RoOK w ro → LoopW ro P c (CodePost P g w t O ds ro o st') ⟨t, ds⟩ w
def ScopeSim (P : Program) (r : Rec) : Prop :=
  ∀ {v cur : VC} {st : St} {o : Out} {st' : St}, r.code (.inScope v cur) st = some (o, st') → ∀ {body c : Code} {n : Nat}, Mt P n v body → Mt P n cur c → ∀ {g : Gh} {w : World} {t : Array Value} {O : Nat → Nat}, t.size = n →
    S P g w st t O → ∀ (ro : Option Nat) (ds : List Deferred), RoOK w ro → ScopeW ro P body c (CodePost P g w t O ds ro o st') ⟨t, ds⟩ w
def GhostSim (P : Program) (r : Rec) : Prop :=
  ∀ {v : VC} {st : St} {o : Out} {st' : St}, ghosts v = true → r.code v st = some (o, st') → o = .normal ∧ ∀ {g : Gh} {w : World} {t : Array Value} {O : Nat → Nat}, S P g w st t O → ∃ g' O', Goes P g w t O st' t w g' O'

section
variable {P : Program} {g : Gh} {w : World} {t : Array Value} {O : Nat → Nat} {st st' : St} {r : Rec}

theorem LoopW.mono {ro : Option Nat} {c : Code} {Q Q' : Exit → Act → World → Prop} {a : Act} (h : LoopW ro P c Q a w) (hq : ∀ e a w, Q e a w → Q' e a w) : LoopW ro P c Q' a w :=
  fun b k cs hr => let ⟨e, a', w', q, x⟩ := h b k cs hr; ⟨e, a', w', hq _ _ _ q, x⟩
theorem ScopeW.mono {ro : Option Nat} {body c : Code} {Q Q' : Exit → Act → World → Prop} {a : Act} (h : ScopeW ro P body c Q a w) (hq : ∀ e a w, Q e a w → Q' e a w) : ScopeW ro P body c Q' a w :=
  fun b k cs hr => let ⟨e, a', w', q, x⟩ := h b k cs hr; ⟨e, a', w', hq _ _ _ q, x⟩

theorem Goes.mono {O2 : Nat → Nat} {t' : Array Value} {w' : World} {g' : Gh} {O' : Nat → Nat} (h : Goes P g w t O st' t' w' g' O') (hle : ∀ b, O b ≤ O2 b) : Goes P g w t O2 st' t' w' g' O' :=
  ⟨h.st, h.ext.mono fun b _ hb => by have := hle b; omega, fun b hb => Nat.le_trans (h.old b hb) (hle b), h.size⟩
theorem CodePost.mono {O2 : Nat → Nat} {ds : List Deferred} {ro : Option Nat} {o : Out} {e : Exit} {a' : Act} {w' : World} (h : CodePost P g w t O ds ro o st' e a' w') (hle : ∀ b, O b ≤ O2 b) : CodePost P g w t O2 ds ro o st' e a' w' := by
  obtain ⟨he, g', O', ms, G, hd, hm, hr⟩ := h
  exact ⟨he, g', O', ms, G.mono hle, hd, hm, hr⟩
theorem CodePost.refl {ds : List Deferred} {ro : Option Nat} (o : Out) (s : S P g w st t O) : CodePost P g w t O ds ro o st (exitOf o) ⟨t, ds⟩ w :=
  ⟨rfl, g, O, [], Goes.refl s, rfl, trivial, fun _ => rfl⟩
/-- Bookkeeping behind. -/
theorem CodePost.ghost {ds : List Deferred} {ro : Option Nat} {o o2 : Out} {st2 : St} {e : Exit} {a' : Act} {w' : World} (h : CodePost P g w t O ds ro o st' e a' w')
    (hg : ∀ {g : Gh} {w : World} {t : Array Value} {O : Nat → Nat}, S P g w st' t O → ∃ g' O', Goes P g w t O st2 t w g' O') (ho : exitOf o = exitOf o2) : CodePost P g w t O ds ro o2 st2 e a' w' := by
  obtain ⟨he, g', O', ms, G, hd, hm, hr⟩ := h
  obtain ⟨g2, O2, G2⟩ := hg G.st
  exact ⟨he.trans ho, g2, O2, ms, G.trans G2, hd, hm.after G2.ext G2.old, hr⟩
theorem CodePost.as {ds : List Deferred} {ro : Option Nat} {o o2 : Out} {e : Exit} {a' : Act} {w' : World} (h : CodePost P g w t O ds ro o st' e a' w') : CodePost P g w t O ds ro o2 st' (exitOf o2) a' w' := by
  obtain ⟨_, h⟩ := h
  exact ⟨rfl, h⟩

/-- One piece goes on where another ended. -/
theorem then_sim {ds : List Deferred} {ro : Option Nat} (hro : RoOK w ro) {o1 : Out} {st1 : St} {next : Act → World → Prop} {o : Out} {e : Exit} {a1 : Act} {w1 : World} (h : CodePost P g w t O ds ro o1 st1 e a1 w1)
    (hn : o1 = .normal → ∀ (t1 : Array Value) (ds1 : List Deferred) (g1 : Gh) (O1 : Nat → Nat), t1.size = t.size → S P g1 w1 st1 t1 O1 → RoOK w1 ro →
      (∀ e a2 w2, CodePost P g1 w1 t1 O1 ds1 ro o st' e a2 w2 → CodePost P g w t O ds ro o st' e a2 w2) → next ⟨t1, ds1⟩ w1)
    (ho : o1 ≠ .normal → o = o1 ∧ st' = st1) : Exit.then next (CodePost P g w t O ds ro o st') e a1 w1 := by
  have h0 := h
  obtain ⟨he, g1, O1, ms, G, hd, hm, hr⟩ := h
  subst he
  by_cases hnm : o1 = .normal
  · subst hnm
    obtain ⟨t1, d1⟩ := a1
    simp only at hd
    subst hd
    exact hn rfl t1 _ g1 O1 G.size G.st (hro.ext G.ext) fun e a2 w2 k => CodePost.comp G hm hr k
  · obtain ⟨rfl, rfl⟩ := ho hnm
    cases o <;> first | exact absurd rfl hnm | exact h0

theorem code_step (hc : CodeSim P r) (hl : LoopSim P r) (hs : ScopeSim P r) (hgh : GhostSim P r) (hr : CallSim P r) {v : VC} {o : Out} (h : codeF v r st = some (o, st')) {c : Code} {n : Nat} (hm : Mt P n v c) (hn : t.size = n)
    (s : S P g w st t O) (ro : Option Nat) (ds : List Deferred) (hro : RoOK w ro) : c.wpIn (FR ro) 0 P (CodePost P g w t O ds ro o st') ⟨t, ds⟩ w := by
  cases hm with
  | @ghostL a b c h1 h2 =>
    simp only [codeF, vcSeq] at h
    split at h
    · rename_i st1 ha
      obtain ⟨_, hg⟩ := hgh h1 ha
      obtain ⟨g1, O1, G⟩ := hg s
      exact wpIn_mono (hc h h2 (by rw [← hn]) G.st ro ds hro) fun e a2 w2 k => CodePost.comp (ms1 := []) G trivial (fun _ => rfl) k
    · rename_i x hx
      cases hra : r.code a st with
      | none => rw [hra] at h; simp at h
      | some p =>
        obtain ⟨o1, st1⟩ := p
        obtain ⟨rfl, _⟩ := hgh h1 hra
        exact absurd hra (by intro h3; exact hx _ h3)
  | @ghostR a b c h1 h2 =>
    simp only [codeF, vcSeq] at h
    split at h
    · rename_i st1 ha
      obtain ⟨rfl, hg⟩ := hgh h1 h
      exact wpIn_mono (hc ha h2 hn s ro ds hro) fun e a2 w2 k => k.ghost hg rfl
    · rename_i x hx
      exact hc h h2 hn s ro ds hro
  | @seq a b c d h1 h2 =>
    simp only [codeF, vcSeq] at h
    split at h
    · rename_i st1 ha
      refine wpIn_seq (wpIn_mono (hc ha h1 hn s ro ds hro) fun e a1 w1 k => then_sim hro k (fun _ t1 ds1 g1 O1 hs1 s1 hro1 hcomp => ?_) (fun hne => absurd rfl hne))
      exact wpIn_mono (hc h h2 (by rw [hs1, hn]) s1 ro ds1 hro1) hcomp
    · rename_i x hx
      refine wpIn_seq (wpIn_mono (hc h h1 hn s ro ds hro) fun e a1 w1 k => then_sim hro k (fun hnm => ?_) (fun _ => ⟨rfl, rfl⟩))
      subst hnm
      exact absurd h (by intro h3; exact hx _ h3)
  | skip =>
    simp only [codeF, Option.some.injEq, Prod.mk.injEq] at h
    obtain ⟨rfl, rfl⟩ := h
    exact wpIn_skip (CodePost.refl .normal s)
  | @reg ops id os hops =>
    simp only [codeF, vcReg] at h
    split at h
    · rename_i st1 hst
      simp only [Option.some.injEq, Prod.mk.injEq] at h
      obtain ⟨rfl, rfl⟩ := h
      refine wpIn_region ?_
      have := ops_sim (ro := ro) (Q := CodePost P g w t O ds ro .normal st1) hr hc ds (k := 0) rfl hops hn s hst fun w' t' g' O' G => ⟨rfl, g', O', [], G, rfl, trivial, fun _ => rfl⟩
      rw [List.range_eq_range']
      simpa using this
    · simp at h
  | @draw ops id os hops =>
    simp only [codeF, vcReg] at h
    split at h
    · rename_i st1 hst
      simp only [Option.some.injEq, Prod.mk.injEq] at h
      obtain ⟨rfl, rfl⟩ := h
      exact draw_sim hr hc ds hops hn s hst fun w' t' g' O' G => ⟨rfl, g', O', [], G, rfl, trivial, fun _ => rfl⟩
    · simp at h
  | @drawP perm gco nr ops id os hops =>
    simp only [codeF, vcRegP, runP_eq] at h
    split at h
    · rename_i habs
      split at h
      · rename_i st1 hst
        simp only [Option.some.injEq, Prod.mk.injEq] at h
        obtain ⟨rfl, rfl⟩ := h
        exact drawP_sim hr hc ds hops hn s habs hst fun w' t' g' O' G => ⟨rfl, g', O', [], G, rfl, trivial, fun _ => rfl⟩
      · simp at h
    · simp at h
  | @cond rd o' a b c d h1 h2 h3 =>
    simp only [codeF, vcCond] at h
    have step : ∀ (tb : Bool) (e : Env) (k : VC) (cd : Code), Vm.rd st.env rd = some (.d (.bool tb), e) → r.code k ⟨e, st.hs⟩ = some (o, st') → Mt P n k cd → (if tb then c else d) = cd →
        (Code.cond o' c d).wpIn (FR ro) 0 P (CodePost P g w t O ds ro o st') ⟨t, ds⟩ w := by
      intro tb e k cd hrd hk hmk hcd
      obtain ⟨Ov, O', rv, s', l⟩ := s.rd h1 hrd
      have hev := ev_bool rv rfl
      refine wpIn_cond (t := tb) (by rw [ev_eval]; exact hev) ?_
      rw [hcd]
      exact wpIn_mono (hc hk hmk hn s' ro ds hro) fun e a2 w2 k => k.mono fun b => by have := l b; omega
    split at h
    · rename_i e hrd
      exact step true e a c hrd h h2 rfl
    · rename_i e hrd
      exact step false e b d hrd h h3 rfl
    · simp at h
  | @block bid a c h1 =>
    simp only [codeF, vcBlock] at h
    split at h
    · rename_i j st1 ha
      refine wpIn_block (wpIn_mono (hc ha h1 hn s ro ds hro) fun e a1 w1 k => ?_)
      obtain ⟨rfl, _⟩ := id k
      simp only [exitOf, Exit.inBlock]
      split at h
      · rename_i hj
        rw [Nat.beq_eq] at hj
        simp only [Option.some.injEq, Prod.mk.injEq] at h
        obtain ⟨rfl, rfl⟩ := h
        rw [if_pos hj]
        exact k.as
      · rename_i hj
        simp only [Option.some.injEq, Prod.mk.injEq] at h
        obtain ⟨rfl, rfl⟩ := h
        rw [if_neg (by intro e; subst e; simp at hj)]
        exact k
    · rename_i x hx
      refine wpIn_block (wpIn_mono (hc h h1 hn s ro ds hro) fun e a1 w1 k => ?_)
      have hne : ∀ j, o ≠ .exit j := by rintro j rfl; exact absurd h (by intro h3; exact hx _ _ h3)
      obtain ⟨rfl, _⟩ := id k
      cases o <;> first | exact k | exact absurd rfl (hne _)
  | @loop a c h1 =>
    simp only [codeF, vcLoop] at h
    refine (loopW_step ?_).2
    split at h
    · rename_i st1 ha
      refine wpIn_mono (hc ha h1 hn s ro ds hro) fun e a1 w1 k => then_sim hro k (fun _ t1 ds1 g1 O1 hs1 s1 hro1 hcomp => ?_) (fun hne => absurd rfl hne)
      exact (hl h h1 (by rw [hs1, hn]) s1 ro ds1 hro1).mono hcomp
    · rename_i x hx
      refine wpIn_mono (hc h h1 hn s ro ds hro) fun e a1 w1 k => then_sim hro k (fun hnm => ?_) (fun _ => ⟨rfl, rfl⟩)
      subst hnm
      exact absurd h (by intro h3; exact hx _ h3)
  | @rangeF rd o' ps qs a b c d h1 h2 h3 h4 h5 =>
    subst hn h2
    exact code_rangeF hr h h1 h3 h4 h5 s ro ds hro
  | exit =>
    simp only [codeF, Option.some.injEq, Prod.mk.injEq] at h
    obtain ⟨rfl, rfl⟩ := h
    exact wpIn_exit (CodePost.refl (.exit _) s)
  | @scope a c h1 =>
    simp only [codeF, vcScope] at h
    exact scopeW_wp (hs h h1 h1 hn s ro ds hro)
  | label =>
    simp only [codeF, Option.some.injEq, Prod.mk.injEq] at h
    obtain ⟨rfl, rfl⟩ := h
    exact wpIn_label (CodePost.refl .normal s)
  | goto =>
    simp only [codeF, Option.some.injEq, Prod.mk.injEq] at h
    obtain ⟨rfl, rfl⟩ := h
    exact wpIn_goto (CodePost.refl (.goto _) s)
  | ret =>
    simp only [codeF, Option.some.injEq, Prod.mk.injEq] at h
    obtain ⟨rfl, rfl⟩ := h
    exact wpIn_ret (CodePost.refl .ret s)

theorem loop_step (hc : CodeSim P r) (hl : LoopSim P r) {v : VC} {o : Out} (h : codeF (.loop v) r st = some (o, st')) {c : Code} {n : Nat} (h1 : Mt P n v c) (hn : t.size = n)
    (s : S P g w st t O) (ro : Option Nat) (ds : List Deferred) (hro : RoOK w ro) : LoopW ro P c (CodePost P g w t O ds ro o st') ⟨t, ds⟩ w := by
  simp only [codeF, vcLoop] at h
  refine (loopW_step ?_).1
  split at h
  · rename_i st1 ha
    refine wpIn_mono (hc ha h1 hn s ro ds hro) fun e a1 w1 k => then_sim hro k (fun _ t1 ds1 g1 O1 hs1 s1 hro1 hcomp => ?_) (fun hne => absurd rfl hne)
    exact (hl h h1 (by rw [hs1, hn]) s1 ro ds1 hro1).mono hcomp
  · rename_i x hx
    refine wpIn_mono (hc h h1 hn s ro ds hro) fun e a1 w1 k => then_sim hro k (fun hnm => ?_) (fun _ => ⟨rfl, rfl⟩)
    subst hnm
    exact absurd h (by intro h3; exact hx _ h3)

theorem scope_step (hc : CodeSim P r) (hs : ScopeSim P r) {v cur : VC} {o : Out} (h : codeF (.inScope v cur) r st = some (o, st')) {body c : Code} {n : Nat} (h1 : Mt P n v body) (h2 : Mt P n cur c) (hn : t.size = n)
    (s : S P g w st t O) (ro : Option Nat) (ds : List Deferred) (hro : RoOK w ro) : ScopeW ro P body c (CodePost P g w t O ds ro o st') ⟨t, ds⟩ w := by
  simp only [codeF, vcInScope] at h
  refine scopeW_step ?_
  split at h
  · rename_i l st1 ha
    refine wpIn_mono (hc ha h2 hn s ro ds hro) fun e a1 w1 k => ?_
    have k0 := k
    obtain ⟨rfl, g1, O1, ms, G, hd, hm, hr⟩ := k
    have hf := findL_rel h1 l
    simp only [exitOf, Exit.scope]
    split at h
    · rename_i rest hrest
      rw [hrest] at hf
      obtain ⟨y, hy, hmy⟩ := hf
      rw [hy]
      obtain ⟨t1, d1⟩ := a1
      simp only at hd
      subst hd
      exact (hs h h1 hmy (by rw [G.size, hn]) G.st ro _ (hro.ext G.ext)).mono fun e a2 w2 k => CodePost.comp G hm hr k
    · rename_i hnone
      rw [hnone] at hf
      rw [hf]
      simp only [Option.some.injEq, Prod.mk.injEq] at h
      obtain ⟨rfl, rfl⟩ := h
      exact k0
  · rename_i x hx
    refine wpIn_mono (hc h h2 hn s ro ds hro) fun e a1 w1 k => ?_
    have hne : ∀ l, o ≠ .goto l := by rintro l rfl; exact absurd h (by intro h3; exact hx _ _ h3)
    obtain ⟨rfl, _⟩ := id k
    cases o <;> first | exact k | exact absurd rfl (hne _)

theorem ghosts_ops {r : Rec} : ∀ {ops : List VI} {st st' : St}, ops.all isGhost = true → opsF r ops st = some st' → ∀ {g : Gh} {w : World} {t : Array Value} {O : Nat → Nat}, S P g w st t O → ∃ g' O', Goes P g w t O st' t w g' O'
  | [], st, st', _, h, g, w, t, O, s => by
    simp only [opsF, Option.some.injEq] at h; subst h
    exact ⟨g, O, Goes.refl s⟩
  | i :: l, st, st', ha, h, g, w, t, O, s => by
    simp only [List.all_cons, Bool.and_eq_true] at ha
    simp only [opsF] at h
    split at h
    · rename_i st1 hv
      obtain ⟨g1, O1, G1⟩ := ghost_sim s ha.1 hv
      obtain ⟨g2, O2, G2⟩ := ghosts_ops ha.2 h G1.st
      exact ⟨g2, O2, G1.trans G2⟩
    · simp at h
theorem ghost_step (hg : GhostSim P r) {v : VC} {o : Out} (hv : ghosts v = true) (h : codeF v r st = some (o, st')) : o = .normal ∧ ∀ {g : Gh} {w : World} {t : Array Value} {O : Nat → Nat}, S P g w st t O → ∃ g' O', Goes P g w t O st' t w g' O' := by
  cases v <;> simp only [ghosts, Bool.false_eq_true] at hv
  · simp only [codeF, vcReg] at h
    split at h
    · rename_i st1 hst
      simp only [Option.some.injEq, Prod.mk.injEq] at h
      obtain ⟨rfl, rfl⟩ := h
      exact ⟨rfl, fun s => ghosts_ops hv hst s⟩
    · simp at h
  · simp only [Bool.and_eq_true] at hv
    simp only [codeF, vcSeq] at h
    split at h
    · rename_i st1 hst
      obtain ⟨_, h1⟩ := hg hv.1 hst
      obtain ⟨ho, h2⟩ := hg hv.2 h
      refine ⟨ho, fun s => ?_⟩
      obtain ⟨g1, O1, G1⟩ := h1 s
      obtain ⟨g2, O2, G2⟩ := h2 G1.st
      exact ⟨g2, O2, G1.trans G2⟩
    · rename_i x hx
      obtain ⟨ho, _⟩ := hg hv.1 h
      subst ho
      exact absurd h (hx _)
end
end Go.Vm

/-
  THE INTERPRETER IS SOUND (2): by induction on the fuel.
-/
namespace Go.Vm
section
variable {P : Program}

/-- What a body does, seen at the door. -/
theorem leave_of_post {fn : Func} {vf : VFunc} (h5 : chkRes P vf.results fn.results.toList = true) {v : AV} {hs' : HS} {o : Out} {st1 : St} (ho : o = .normal ∨ o = .ret) (hend : endF vf st1 = some (v, hs')) {g : Gh} {w : World} {t : Array Value} {O : Nat → Nat}
    {e : Exit} {a' : Act} {w' : World} (k : CodePost P g w t O [] none o st1 e a' w') : bodyPostM (FR none) 0 P fn (CallPost P g w O v hs') e a' w' := by
  obtain ⟨rfl, g', O', ms, G, hd, hm, _⟩ := k
  rw [List.append_nil] at hd
  have key : LeavesInM (FR none) 0 P fn a'.tmps (CallPost P g w O v hs') a'.defers .returning w' := by
    rw [hd]
    refine leaves_sim hm G.st fun w2 s2 hx2 => ?_
    obtain ⟨x, Ov, Oh2, hrun, rx, sh2, l2⟩ := endF_rel h5 hend s2
    refine ⟨x, hrun, g', Ov, Oh2, rx, sh2, G.ext.trans hx2 (fun b hb hq => absurd hq (by omega)), fun b => by have := l2 b; have := s2.le b; omega, fun b hb => ?_, fun b hb => s2.hi b (by have := l2 b; omega)⟩
    have := l2 b; have := G.old b hb
    omega
  rcases ho with rfl | rfl
  · exact key
  · exact key

/-- The same behind a deferred call. -/
theorem leave_late {r : Rec} (hr : CallSim P r) (hrd : CallSimD P r) {fn : Func} {vf : VFunc} (h5 : chkRes P vf.results fn.results.toList = true) {v v1 : AV} {hs2 hs' : HS} {o : Out} {st1 : St} (ho : o = .normal ∨ o = .ret) {f id off : Nat}
    (hcall : r.call f [.ptr id off] st1.hs = some (v1, hs2)) (hend : endF vf ⟨st1.env, hs2⟩ = some (v, hs')) {g : Gh} {w : World} {t : Array Value} {O : Nat → Nat} {x : Value} (hx : ∃ b, g.obj id = some b ∧ x = .pointer (some ⟨b, g.base id + off, none⟩))
    {e : Exit} {a' : Act} {w' : World} (k : CodePost P g w t O [{ target := .fn (.func f) #[], args := #[x] }] none o st1 e a' w') : bodyPostM (FR none) 0 P fn (CallPost P g w O v hs') e a' w' := by
  obtain ⟨rfl, g', O', ms, G, hd, hm, _⟩ := k
  obtain ⟨hf, hk⟩ := hr hcall
  have key : LeavesInM (FR none) 0 P fn a'.tmps (CallPost P g w O v hs') a'.defers .returning w' := by
    rw [hd]
    refine leaves_sim2 hm G.st fun w2 s2 hx2 => ?_
    have hx12 : Ext g w g' w2 fun b => O b ≠ 0 := G.ext.trans hx2 (fun b hb hq => absurd hq (by omega))
    obtain ⟨b, hb, hxe⟩ := hx
    obtain ⟨k1, k2, _⟩ := hx12.obj id b hb
    have rv : RVs g' w2 [.ptr id off] [x] zero := by
      simp only [RVs]
      refine ⟨x, [], zero, zero, rfl, ?_, ⟨rfl, fun _ => rfl⟩, fun _ => rfl⟩
      simp only [RV]
      exact ⟨⟨b, k1, by rw [hxe, k2]⟩, fun _ => by simp⟩
    obtain ⟨Oe, Oh, re, sh, hO⟩ := s2.split
    refine ⟨by simp, .inr ⟨by simp [Fence.wide], .func f, #[], f, #[x], rfl, ?_, fun _ _ => trivial, (hrd hcall rv sh (fun b => by have := s2.le b; have := hO b; simp; omega) (fun b hb => by simp at hb) .returning).mono ?_⟩⟩
    · show (callFunc f (#[x] ++ #[])).run P w2 = _
      simpa using run_callFunc hf #[x]
    · rintro e u' w3 ⟨rfl, hp⟩
      cases e with
      | panicked c => exact hp.elim
      | outgrown => exact hp.elim
      | returned y =>
        obtain ⟨g3, Oa, O3, A⟩ := call_after (v := v1) (hs := st1.hs) (t := a'.tmps) s2.se re (fun b => by have := hO b; simp; omega) s2 hp
        obtain ⟨x4, Ov, Oh2, hrun, rx, sh2, l2⟩ := endF_rel h5 hend A.st
        refine ⟨x4, hrun, g3, Ov, Oh2, rx, sh2, hx12.trans A.ext (fun b hb h => by have := G.old b hb; omega), fun b => by have := l2 b; have := A.le b; omega, fun b hb => ?_, fun b hb => A.st.hi b (by have := l2 b; omega)⟩
        have := l2 b; have := G.old b hb; have := A.old b (Nat.lt_of_lt_of_le hb hx12.size)
        omega
  rcases ho with rfl | rfl
  · exact key
  · exact key

theorem lateC_step {r : Rec} (hc : CodeSim P r) (hr : CallSim P r) (hrd : CallSimD P r) {n i d f : Nat} {a : VC} {c : Code} (hk : chkLate P n i d f a c = true) {fn : Func} {vf : VFunc} (h5 : chkRes P vf.results fn.results.toList = true) {st st1 : St} {o : Out} {v : AV} {hs' : HS}
    (h : vcLate r i d f a st = some (o, st1)) (hend : endF vf st1 = some (v, hs')) {g : Gh} {w : World} {t : Array Value} {O : Nat → Nat} (hn : t.size = n) (s : S P g w st t O) :
    c.wpIn (FR none) 0 P (bodyPostM (FR none) 0 P fn (CallPost P g w O v hs')) ⟨t, []⟩ w := by
  obtain ⟨env, hs⟩ := st
  unfold chkLate at hk
  split at hk
  · rename_i rid os rest
    simp only [Bool.and_eq_true] at hk
    obtain ⟨⟨hk1, hdn⟩, hrest⟩ := hk
    split at hk1
    · rename_i m kk hos
      simp only [Bool.and_eq_true] at hk1
      obtain ⟨⟨⟨⟨hm1, hm2⟩, hk1a⟩, hk1b⟩, hk2⟩ := hk1
      obtain ⟨hmd, hmg⟩ := opIs_get hm1
      have hk1a' : kk.dst = none := by simpa using hk1a
      have hk1b' : kk.guard = none := by simpa using hk1b
      split at hm2
      · rename_i y hmop
        have := isTmp_get hm2; subst this
        split at hk2
        · rename_i cl hkop
          simp only [Bool.and_eq_true] at hk2
          obtain ⟨hcal, hargs⟩ := hk2
          have hcal' := calleeFn_eq hcal
          split at hargs
          · rename_i y hay
            have := isTmp_get hargs; subst this
            have harr : cl.args = #[.tmp d] := arr1 hay
            have hosA : os = #[m, kk] := by apply Array.ext'; rw [hos]
            subst hosA
            have hd : d < t.size := by rw [hn]; simpa [Nat.blt_eq] using hdn
            unfold vcLate at h
            split at h
            · rename_i id off hget
              obtain ⟨Ov, O1, rv, s1, l1⟩ := s.rd (r := .s i) (o := .tmp i) (by simp [chkRd]) (v := .ptr id off) (e' := env) (by have hg := hget; simp only at hg; simp [rd, hg, share])
              simp only [RV] at rv
              obtain ⟨hxp, hOv⟩ := rv
              have rv' : RV g w (.ptr id off) (ev t (.tmp i)) zero := by simp only [RV]; exact ⟨hxp, fun _ => by simp⟩
              obtain ⟨O2, s2, l2⟩ := s.setTmp hd rv' (fun b => by have := s.le b; simp; omega) (fun b hb => by simp at hb)
              have hle2 : ∀ b, O2 b ≤ O b := fun b => by have := l2 b; simpa using this
              have hst : ∃ o1 st0 v1 hs2, (o1 = .normal ∨ o1 = .ret) ∧ r.code a ⟨put env d (.ptr id off), hs⟩ = some (o1, st0) ∧ r.call f [.ptr id off] st0.hs = some (v1, hs2) ∧ st1 = ⟨st0.env, hs2⟩ := by
                split at h
                · rename_i st0 hra
                  split at h
                  · rename_i v1 hs2 hcl
                    simp only [Option.some.injEq, Prod.mk.injEq] at h
                    exact ⟨_, st0, v1, hs2, .inl rfl, hra, hcl, h.2.symm⟩
                  · simp at h
                · rename_i st0 hra
                  split at h
                  · rename_i v1 hs2 hcl
                    simp only [Option.some.injEq, Prod.mk.injEq] at h
                    exact ⟨_, st0, v1, hs2, .inr rfl, hra, hcl, h.2.symm⟩
                  · simp at h
                · simp at h
              obtain ⟨o1, st0, v1, hs2, ho1, hra, hcl, rfl⟩ := hst
              refine wpIn_seq (wpIn_region ?_)
              have hx2 : (t.setIfInBounds d (ev t (.tmp i))).getD d undef = ev t (.tmp i) := by rw [getD_put hd]; simp
              have hgo : rest.wpIn (FR none) 0 P (bodyPostM (FR none) 0 P fn (CallPost P g w O v hs')) ⟨t.setIfInBounds d (ev t (.tmp i)), [{ target := .fn (.func f) #[], args := #[ev t (.tmp i)] }]⟩ w := by
                refine wpIn_mono (hc hra (mt_of_chk a rest hrest) (by simp [hn]) s2 none _ (fun l hl => by simp at hl)) fun e a' w' k => ?_
                exact leave_late hr hrd h5 ho1 hcl hend hxp (k.mono hle2)
              simp only [List.range, List.range.loop, List.size_toArray, List.length_cons, List.length_nil, wpOpsIn, Nat.zero_add]
              simp only [List.getElem?_toArray, List.getElem?_cons_zero, List.getElem?_cons_succ, Region.wanted, hmg, hk1b', if_true, Oper.wpIn]
              refine ⟨fun _ _ => trivial, ?_⟩
              rw [semAt_ev t [] (by rw [hmop]; simp)]
              simp only [execOp, hmop, Sem.run_pure, Oper.uponIn_value, Act.put, hmd]
              rw [Oper.semAt_none, ev_eval]
              have hrun : (execOp (ev (t.setIfInBounds d (ev t (.tmp i)))) kk).run P w = .ok (.defer { target := .fn (.func f) #[], args := #[ev t (.tmp i)] }) w := by
                have h0 : ev (t.setIfInBounds d (ev t (.tmp i))) (.tmp d) = ev t (.tmp i) := hx2
                have h1 : ev (t.setIfInBounds d (ev t (.tmp i))) (.func f) = .func (.func f) #[] #[] := rfl
                simp only [execOp, hkop, resolve, hcal', harr, h1, Deferred.ofValue]
                simp [h0]
              rw [hrun, Oper.uponIn_defer]
              simp only [Act.put, hk1a']
              exact ⟨fun _ _ => trivial, hgo⟩
            · simp at h
          · simp at hargs
        · simp at hk2
      · simp at hm2
    · simp at hk1
  · simp at hk

theorem body_step {T : Nat → Option VFunc} (hT : TabOK P T) {r : Rec} (hc : CodeSim P r) (hl : LoopSim P r) (hs : ScopeSim P r) (hgh : GhostSim P r) (hr : CallSim P r) (hrd : CallSimD P r) {f : FuncId} {args : List AV} {hs0 : HS} {v : AV} {hs' : HS}
    (h : callF T r f args hs0 = some (v, hs')) : ∃ fn c, P.funcs[f]? = some fn ∧ fn.body = some c ∧ fn.name ≠ "runtime.NumGoroutine" ∧ ∀ {g : Gh} {w : World} {xs : List Value} {Oa Oh : Nat → Nat}, RVs g w args xs Oa → S P g w ⟨[], hs0⟩ #[] Oh → (∀ b, Oa b + Oh b ≤ 1) → (∀ b, Oa b ≠ 0 → b < w.heap.size) →
      c.wpIn (FR none) 0 P (bodyPostM (FR none) 0 P fn (CallPost P g w (fun b => Oa b + Oh b) v hs')) ⟨xs.toArray ++ Array.replicate (fn.ntmps - xs.toArray.size) undef, []⟩ w := by
  unfold callF at h
  split at h
  · simp at h
  · rename_i vf hvf
    obtain ⟨fn, c, h1, h2, h3, h4, h5, h6⟩ := hT f vf hvf
    refine ⟨fn, c, h1, h2, h3, fun {g w xs Oa Oh} rv sh hle hhi => ?_⟩
    split at h
    · simp at h
    · rename_i hlen
      rw [Nat.beq_eq] at hlen
      have hxl := rv.length
      have hfin : ∀ {o : Out} {st1 : St}, (o = .normal ∨ o = .ret) → codeF vf.body r ⟨mkEnv 0 args, hs0⟩ = some (o, st1) → endF vf st1 = some (v, hs') →
          c.wpIn (FR none) 0 P (bodyPostM (FR none) 0 P fn (CallPost P g w (fun b => Oa b + Oh b) v hs')) ⟨xs.toArray ++ Array.replicate (fn.ntmps - xs.toArray.size) undef, []⟩ w := by
        intro o st1 ho hcode hend
        have s := enter_S rv sh hle hhi (fn.ntmps - xs.toArray.size)
        have hsz : (xs.toArray ++ Array.replicate (fn.ntmps - xs.toArray.size) undef).size = fn.ntmps := by simp; omega
        rcases h6 with hm | ⟨m, hb, hcl, h8⟩ | ⟨i, d, f2, a, hb, hlt⟩
        · exact wpIn_mono (code_step hc hl hs hgh hr hcode hm hsz s none [] (fun l hl => by simp at hl)) fun e a' w' k => leave_of_post h5 ho hend k
        · rw [hb] at hcode
          exact wpIn_mono (code_clone hcl hcode (by rw [hsz]; exact h8) s) fun e a' w' k => leave_of_post h5 ho hend k
        · rw [hb] at hcode
          exact lateC_step hc hr hrd hlt h5 hcode hend hsz s
      split at h
      · rename_i st1 hcode; exact hfin (.inl rfl) hcode h
      · rename_i st1 hcode; exact hfin (.inr rfl) hcode h
      · simp at h

theorem call_step {T : Nat → Option VFunc} (hT : TabOK P T) {r : Rec} (hc : CodeSim P r) (hl : LoopSim P r) (hs : ScopeSim P r) (hgh : GhostSim P r) (hr : CallSim P r) (hrd : CallSimD P r) {f : FuncId} {args : List AV} {hs0 : HS} {v : AV} {hs' : HS}
    (h : callF T r f args hs0 = some (v, hs')) : HasFn P f ∧ ∀ {g : Gh} {w : World} {xs : List Value} {Oa Oh : Nat → Nat}, RVs g w args xs Oa → S P g w ⟨[], hs0⟩ #[] Oh → (∀ b, Oa b + Oh b ≤ 1) → (∀ b, Oa b ≠ 0 → b < w.heap.size) →
      CallsIn (FR none) 0 P f xs.toArray w (CallPost P g w (fun b => Oa b + Oh b) v hs') := by
  obtain ⟨fn, c, h1, h2, h3, hk⟩ := body_step hT hc hl hs hgh hr hrd h
  exact ⟨⟨fn, h1, by simp [h2], h3⟩, fun rv sh hle hhi => callsIn_of_wp_marks (F := FR none) h1 h2 trivial (hk rv sh hle hhi)⟩
theorem call_stepD {T : Nat → Option VFunc} (hT : TabOK P T) {r : Rec} (hc : CodeSim P r) (hl : LoopSim P r) (hs : ScopeSim P r) (hgh : GhostSim P r) (hr : CallSim P r) (hrd : CallSimD P r) {f : FuncId} {args : List AV} {hs0 : HS} {v : AV} {hs' : HS}
    (h : callF T r f args hs0 = some (v, hs')) : ∀ {g : Gh} {w : World} {xs : List Value} {Oa Oh : Nat → Nat}, RVs g w args xs Oa → S P g w ⟨[], hs0⟩ #[] Oh → (∀ b, Oa b + Oh b ≤ 1) → (∀ b, Oa b ≠ 0 → b < w.heap.size) → ∀ u : FrameMode,
      CallsDIn (FR none) 0 P f xs.toArray u w fun e u' w' => u' = u ∧ CallPost P g w (fun b => Oa b + Oh b) v hs' e w' := by
  obtain ⟨fn, c, h1, h2, h3, hk⟩ := body_step hT hc hl hs hgh hr hrd h
  exact fun rv sh hle hhi u => callsDIn_of_wp_marks (F := FR none) h1 h2 trivial (hk rv sh hle hhi)

theorem sims {T : Nat → Option VFunc} (hT : TabOK P T) : ∀ n, CodeSim P (run T n) ∧ LoopSim P (run T n) ∧ ScopeSim P (run T n) ∧ GhostSim P (run T n) ∧ CallSim P (run T n) ∧ CallSimD P (run T n)
  | 0 => ⟨fun h => by simp [run] at h, fun h => by simp [run] at h, fun h => by simp [run] at h, fun _ h => by simp [run] at h, fun h => by simp [run] at h, fun h => by simp [run] at h⟩
  | n + 1 => by
    obtain ⟨hc, hl, hs, hgh, hr, hrd⟩ := sims hT n
    refine ⟨fun {v st o st'} h {c m} hm {g w t O} hn s ro ds hro => ?_, fun {v st o st'} h {c m} hm {g w t O} hn s ro ds hro => ?_, fun {v cur st o st'} h {body c m} h1 h2 {g w t O} hn s ro ds hro => ?_, fun {v st o st'} hv h => ?_, fun {f args hs0 v hs'} h => ?_, fun {f args hs0 v hs'} h => ?_⟩
    · exact code_step hc hl hs hgh hr h hm hn s ro ds hro
    · exact loop_step hc hl h hm hn s ro ds hro
    · exact scope_step hc hs h h1 h2 hn s ro ds hro
    · exact ghost_step hgh hv h
    · exact call_step hT hc hl hs hgh hr hrd h
    · exact call_stepD hT hc hl hs hgh hr hrd h

/-- A call of the model's, on plain data: what the interpreter answers is what is returned, on every tape; memory that was there stays. -/
theorem calls_sound {T : Nat → Option VFunc} (hT : TabOK P T) {n : Nat} {f : FuncId} {args : List AV} {v : AV} {hs' : HS} (h : (run T n).call f args ⟨[], 0⟩ = some (v, hs')) {g : Gh} {w : World} {xs : List Value}
    (hobj : ∀ id, g.obj id = none) (hpm : ∀ b o, g.pm b o → b < w.heap.size) (rv : RVs g w args xs zero) :
    Calls P f xs.toArray w (CallPost P g w zero v hs') := by
  obtain ⟨_, _, _, _, hr, _⟩ := sims hT n
  obtain ⟨_, hk⟩ := hr h
  have sh : S P g w ⟨[], ⟨[], 0⟩⟩ #[] zero := ⟨List.Pairwise.nil, List.Pairwise.nil, ⟨zero, zero, fun _ => rfl, fun _ => rfl, fun _ => rfl⟩, fun _ => by simp, fun b hb => by simp at hb, fun id _ => hobj id, hpm⟩
  have := hk rv sh (fun b => by simp) (fun b hb => by simp at hb)
  exact this.calls fun _ => room_FR _ _
end
#print axioms calls_sound
end Go.Vm

/-
  ARGUMENTS (1): what is read of an argument, as the interpreter's data.
-/
namespace Go.Vm

/-- Types, as the interpreter's data knows them. -/
inductive Ty where
  | int (k : IntKind)
  | bool
  | str
  | lst (es : List Ty)
mutual
def OkD : Ty → D → Prop
  | .int k, .int j n => j = k ∧ (Lit.int k n).wf = true
  | .bool, .bool _ => True
  | .str, .str _ => True
  | .lst es, .lst xs => ∀ x ∈ xs, OkDs es x
  | _, _ => False
def OkDs : List Ty → List D → Prop
  | [], [] => True
  | t :: ts, d :: ds => OkD t d ∧ OkDs ts ds
  | _, _ => False
end
def tyFs (P : Program) (f : TypeId → Option (List Ty)) : List Field → Nat → Option (List Ty)
  | [], _ => some []
  | fd :: r, off => match Nat.beq fd.offset off, f fd.type with
    | true, some ts => match Nat.beq (P.cellsOf fd.type) ts.length, tyFs P f r (off + ts.length) with
      | true, some us => some (ts ++ us)
      | _, _ => none
    | _, _ => none
def tyCells (P : Program) : Nat → TypeId → Option (List Ty)
  | 0, _ => none
  | n + 1, t => match P.underlying t with
    | some .bool => some [.bool]
    | some (.int k) => some [.int k]
    | some .string => some [.str]
    | some (.slice e) => match tyCells P n e with
      | some (x :: xs) => match Nat.beq (P.cellsOf e) (x :: xs).length with
        | true => some [.lst (x :: xs)]
        | false => none
      | _ => none
    | some (.struct fs) => match tyFs P (tyCells P n) fs.toList 0 with
      | some ts => match Nat.beq (P.cellsOf t) ts.length with
        | true => some ts
        | false => none
      | none => none
    | _ => none

mutual
def cellsD {H : Type} : DataW H → List D
  | .lit (.int k n) => [.int k n]
  | .lit (.bool b) => [.bool b]
  | .lit (.string s) => [.str s]
  | .nil => [.lst []]
  | .slice es _ => [.lst (cellsEs es)]
  | .agg ps => cellsPs ps
  | _ => []
def cellsEs {H : Type} : List (DataW H) → List (List D)
  | [] => []
  | d :: r => cellsD d :: cellsEs r
def cellsPs {H : Type} : List (DataW H) → List D
  | [] => []
  | d :: r => cellsD d ++ cellsPs r
end

theorem OkDs.len : ∀ {ts : List Ty} {ds : List D}, OkDs ts ds → ds.length = ts.length
  | [], [], _ => rfl
  | t :: ts, d :: ds, h => by simp only [OkDs] at h; simp [OkDs.len h.2]
  | [], _ :: _, h => by simp [OkDs] at h
  | _ :: _, [], h => by simp [OkDs] at h
theorem OkDs.append : ∀ {ts us : List Ty} {ds es : List D}, OkDs ts ds → OkDs us es → OkDs (ts ++ us) (ds ++ es)
  | [], us, [], es, _, h => h
  | t :: ts, us, d :: ds, es, h, h2 => by
    simp only [OkDs, List.cons_append] at h ⊢
    exact ⟨h.1, h.2.append h2⟩
  | [], _, _ :: _, _, h, _ => by simp [OkDs] at h
  | _ :: _, _, [], _, h, _ => by simp [OkDs] at h

theorem mapM_get {α β : Type} {f : α → Option β} : ∀ {l : List α} {ys : List β}, l.mapM f = some ys → ys.length = l.length ∧ ∀ (i : Nat) (x : α), l[i]? = some x → ∃ y, ys[i]? = some y ∧ f x = some y
  | [], ys, h => by simp at h; subst h; exact ⟨rfl, fun i x h => by simp at h⟩
  | a :: l, ys, h => by
    simp only [List.mapM_cons, Option.bind_eq_bind, Option.pure_def] at h
    cases ha : f a with
    | none => simp [ha] at h
    | some b =>
      cases hl : l.mapM f with
      | none => simp [ha, hl] at h
      | some bs =>
        simp [ha, hl] at h
        subst h
        obtain ⟨h1, h2⟩ := mapM_get hl
        refine ⟨by simp [h1], fun i x hi => ?_⟩
        cases i with
        | zero => simp at hi; subst hi; exact ⟨b, rfl, ha⟩
        | succ i => simpa using h2 i x (by simpa using hi)

theorem cellsEs_map {H : Type} (ds : List (DataW H)) : cellsEs ds = ds.map cellsD := by
  induction ds with
  | nil => rfl
  | cons d ds ih => simp [cellsEs, ih]
theorem cellsPs_map {H : Type} (ds : List (DataW H)) : cellsPs ds = ds.flatMap cellsD := by
  induction ds with
  | nil => rfl
  | cons d ds ih => simp [cellsPs, ih]
theorem flatten_split {xs : List (List D)} {m : Nat} (h : ∀ e ∈ xs, e.length = m) {j : Nat} {c : D} (hj : xs.flatten[j]? = some c) : ∃ i k e, j = i * m + k ∧ k < m ∧ xs[i]? = some e ∧ e[k]? = some c := by
  induction xs generalizing j with
  | nil => simp at hj
  | cons x xs ih =>
    have hx := h x (.head _)
    rw [List.flatten_cons] at hj
    rcases Nat.lt_or_ge j x.length with hlt | hge
    · rw [List.getElem?_append_left hlt] at hj
      exact ⟨0, j, x, by simp, by omega, rfl, hj⟩
    · rw [List.getElem?_append_right hge] at hj
      obtain ⟨i, k, e, h1, h2, h3, h4⟩ := ih (fun e he => h e (.tail _ he)) hj
      exact ⟨i + 1, k, e, by rw [Nat.succ_mul]; omega, h2, by simpa using h3, h4⟩

section
variable {H : Type} {enc : TypeId × Value → H} {P : Program} {W : World} {sp : Nat → Bool} {held : Bool}

/-- All of memory stays. -/
abbrev pmAll (W : World) : Nat → Nat → Prop := fun b _ => b < W.heap.size
theorem cell_lt {a : Addr} {v : Value} (h : W.cell? a = some v) : a.block < W.heap.size ∧ a.spot = none := by
  unfold World.cell? at h
  split at h
  · rename_i c t fr hb
    split at h
    · simp at h
    · rename_i hs
      exact ⟨block_lt hb, by cases hsp : a.spot <;> simp_all⟩
  · simp at h

theorem trod_fields {f : TypeId → Option (List Ty)} {g : TypeId → List Value → Option (DataW H × List MemPlace)}
    (ih : ∀ t ts cs x, f t = some ts → g t cs = some x → OkDs ts (cellsD x.1) ∧ cs.length = (cellsD x.1).length ∧ ∀ (j : Nat) (c : D), (cellsD x.1)[j]? = some c → ∃ u, cs[j]? = some u ∧ RD W (pmAll W) c u) :
    ∀ {fs : List Field} {off : Nat} {ts : List Ty} {cs : List Value} {xs : List (DataW H × List MemPlace)}, tyFs P f fs off = some ts → off + ts.length ≤ cs.length →
      fs.mapM (fun fd => g fd.type ((cs.drop fd.offset).take (P.cellsOf fd.type))) = some xs →
      OkDs ts (cellsPs (xs.map (·.1))) ∧ ∀ (j : Nat) (c : D), (cellsPs (xs.map (·.1)))[j]? = some c → ∃ u, cs[off + j]? = some u ∧ RD W (pmAll W) c u
  | [], off, ts, cs, xs, h, hb, hm => by
    simp only [tyFs, Option.some.injEq] at h; subst h
    simp at hm; subst hm
    exact ⟨by simp [cellsPs, OkDs], fun j c hj => by simp [cellsPs] at hj⟩
  | fd :: fs, off, ts, cs, xs, h, hb, hm => by
    simp only [tyFs] at h
    split at h
    · rename_i ts1 ho h1
      rw [Nat.beq_eq] at ho
      split at h
      · rename_i us hc h2
        rw [Nat.beq_eq] at hc
        simp only [Option.some.injEq] at h; subst h
        simp only [List.length_append] at hb
        simp only [List.mapM_cons, Option.bind_eq_bind, Option.pure_def] at hm
        cases hg : g fd.type ((cs.drop fd.offset).take (P.cellsOf fd.type)) with
        | none => simp [hg] at hm
        | some x =>
          cases hr : fs.mapM (fun fd => g fd.type ((cs.drop fd.offset).take (P.cellsOf fd.type))) with
          | none => simp [hg, hr] at hm
          | some ys =>
            simp [hg, hr] at hm
            subst hm
            obtain ⟨k1, k2, k3⟩ := ih _ _ _ _ h1 hg
            have hl1 := k1.len
            obtain ⟨q1, q2⟩ := trod_fields ih h2 (by omega) hr
            refine ⟨by simp only [List.map_cons, cellsPs]; exact k1.append q1, fun j c hj => ?_⟩
            simp only [List.map_cons, cellsPs] at hj
            rcases Nat.lt_or_ge j (cellsD x.1).length with hlt | hge
            · rw [List.getElem?_append_left hlt] at hj
              obtain ⟨u, hu, hrd⟩ := k3 j c hj
              rw [List.getElem?_take] at hu
              split at hu
              · rw [List.getElem?_drop, ho] at hu; exact ⟨u, hu, hrd⟩
              · simp at hu
            · rw [List.getElem?_append_right hge] at hj
              obtain ⟨u, hu, hrd⟩ := q2 _ c hj
              exact ⟨u, by rw [← hu]; congr 1; omega, hrd⟩
      · simp at h
    · simp at h

theorem trod_rel : ∀ (fuel n : Nat) (t : TypeId) (ts : List Ty) (cs : List Value) (x : DataW H × List MemPlace), tyCells P n t = some ts → DataW.trod enc P W 0 sp held fuel t cs = some x →
    OkDs ts (cellsD x.1) ∧ cs.length = (cellsD x.1).length ∧ ∀ (j : Nat) (c : D), (cellsD x.1)[j]? = some c → ∃ u, cs[j]? = some u ∧ RD W (pmAll W) c u
  | 0, _, _, _, _, _, _, h => by simp [DataW.trod] at h
  | _ + 1, 0, _, _, _, _, h, _ => by simp [tyCells] at h
  | fuel + 1, n + 1, t, ts, cs, x, hty, h => by
    have one : ∀ {d : D} {v : Value}, OkDs ts [d] → RD W (pmAll W) d v → cellsD x.1 = [d] → cs = [v] → OkDs ts (cellsD x.1) ∧ cs.length = (cellsD x.1).length ∧ ∀ (j : Nat) (c : D), (cellsD x.1)[j]? = some c → ∃ u, cs[j]? = some u ∧ RD W (pmAll W) c u := by
      intro d v h1 h2 h3 h4
      rw [h3, h4]
      refine ⟨h1, rfl, fun j c hj => ?_⟩
      cases j with
      | zero => simp at hj; subst hj; exact ⟨v, rfl, h2⟩
      | succ j => simp at hj
    simp only [tyCells] at hty
    unfold DataW.trod at h
    cases hu : P.underlying t with
    | none => simp [hu] at hty
    | some d =>
      rw [hu] at hty h
      cases d <;> simp only [reduceCtorEq] at hty
      case bool =>
        simp only [Option.some.injEq] at hty; subst hty
        match cs, h with
        | [.bool b], h =>
          simp only [Option.some.injEq] at h; subst h
          exact one (d := .bool b) (by simp [OkDs, OkD]) (.bool _) rfl rfl
      case int k =>
        simp only [Option.some.injEq] at hty; subst hty
        match cs, h with
        | [.int k' m], h =>
          simp only at h
          split at h
          · rename_i hk
            obtain ⟨rfl, hwf⟩ := hk
            simp only [Option.some.injEq] at h; subst h
            exact one (d := .int k' m) (by simp only [OkDs, OkD]; exact ⟨⟨trivial, hwf⟩, trivial⟩) (.int _ _) rfl rfl
          · simp at h
      case string =>
        simp only [Option.some.injEq] at hty; subst hty
        match cs, h with
        | [.string s], h =>
          simp only at h
          split at h
          · simp only [Option.some.injEq] at h; subst h
            refine one (d := .str s.data.toList) (by simp [OkDs, OkD]) ?_ rfl rfl
            have := RD.str (w := W) (pm := pmAll W) s.data.toList
            simpa using this
          · simp at h
      case slice e =>
        split at hty
        · rename_i y ys hte
          split at hty
          · rename_i hce
            rw [Nat.beq_eq] at hce
            simp only [Option.some.injEq] at hty; subst hty
            match cs, h with
            | [.slice none 0 0], h =>
              simp only [Option.some.injEq] at h; subst h
              exact one (d := .lst []) (by simp [OkDs, OkD]) (.nil _ _) rfl rfl
            | [.slice (some a) len cap], h =>
              simp only at h
              split at h
              · rename_i hb
                obtain ⟨_, hlc, _⟩ := hb
                simp only [Option.bind_eq_some_iff, Option.map_eq_some_iff] at h
                obtain ⟨elems, hel, rest, _, rfl⟩ := h
                obtain ⟨hlen, hget⟩ := mapM_get hel
                simp only [List.length_range] at hlen
                -- one element
                have helem : ∀ i, i < len → ∃ z, elems[i]? = some z ∧ ∃ cs', W.cells? 0 (a.add (i * P.cellsOf e)) (P.cellsOf e) = some cs' ∧ OkDs (y :: ys) (cellsD z.1) ∧ cs'.length = (cellsD z.1).length ∧
                    ∀ (j : Nat) (c : D), (cellsD z.1)[j]? = some c → ∃ u, cs'[j]? = some u ∧ RD W (pmAll W) c u := by
                  intro i hi
                  obtain ⟨z, hz, hf⟩ := hget i i (by simp [hi])
                  simp only [Option.bind_eq_some_iff] at hf
                  obtain ⟨cs', hcs, htr⟩ := hf
                  exact ⟨z, hz, cs', hcs, trod_rel fuel n e (y :: ys) cs' z hte htr⟩
                have hmem : ∀ d ∈ elems.map (·.1), OkDs (y :: ys) (cellsD d) := by
                  intro d hd
                  obtain ⟨z, hz, rfl⟩ := List.mem_map.1 hd
                  obtain ⟨i, hi, rfl⟩ := List.mem_iff_getElem.1 hz
                  obtain ⟨z', hz', _, _, hok, _⟩ := helem i (by omega)
                  rw [List.getElem?_eq_getElem hi] at hz'
                  simp only [Option.some.injEq] at hz'
                  rw [hz']; exact hok
                have hes : cellsEs (elems.map (·.1)) = elems.map fun z => cellsD z.1 := by rw [cellsEs_map, List.map_map]; rfl
                have hlm : ∀ e' ∈ cellsEs (elems.map (·.1)), e'.length = (y :: ys).length := by
                  rw [cellsEs_map]
                  intro e' he'
                  obtain ⟨d, hd, rfl⟩ := List.mem_map.1 he'
                  exact (hmem d hd).len
                refine one (d := .lst (cellsEs (elems.map (·.1)))) ?_ ?_ rfl rfl
                · simp only [OkDs, OkD, and_true]
                  rw [cellsEs_map]
                  intro e' he'
                  obtain ⟨d, hd, rfl⟩ := List.mem_map.1 he'
                  exact hmem d hd
                · by_cases h0 : len = 0
                  · subst h0
                    have : elems = [] := List.eq_nil_of_length_eq_zero hlen
                    subst this
                    exact .nil _ _
                  · obtain ⟨ab, aoff, asp⟩ := a
                    have hm0 : 0 < (y :: ys).length := by simp
                    -- every cell of an element
                    have hcell : ∀ i k, i < len → k < (y :: ys).length → ∃ z c u, elems[i]? = some z ∧ (cellsD z.1)[k]? = some c ∧ W.cell? ((Addr.add ⟨ab, aoff, asp⟩ (i * P.cellsOf e)).add k) = some u ∧ RD W (pmAll W) c u := by
                      intro i k hi hk
                      obtain ⟨z, hz, cs', hcs, hok, hl2, hrd⟩ := helem i hi
                      have hkl : k < (cellsD z.1).length := by rw [hok.len]; exact hk
                      obtain ⟨u, hu, hr⟩ := hrd k _ (List.getElem?_eq_getElem hkl)
                      unfold World.cells? at hcs
                      rw [if_pos (Nat.zero_le _)] at hcs
                      obtain ⟨hcl, hcg⟩ := mapM_get hcs
                      obtain ⟨v, hv, hw⟩ := hcg k k (by rw [List.getElem?_range (by rw [hce]; exact hk)])
                      rw [hu] at hv
                      simp only [Option.some.injEq] at hv
                      subst hv
                      exact ⟨z, _, u, hz, List.getElem?_eq_getElem hkl, hw, hr⟩
                    obtain ⟨_, _, u0, _, _, hu0, _⟩ := hcell 0 0 (by omega) hm0
                    have hasp : asp = none := by
                      have := (cell_lt hu0).2
                      simpa [Addr.add] using this
                    subst hasp
                    have hll : (cellsEs (elems.map (·.1))).length = len := by rw [hes]; simp [hlen]
                    have := RCs.rd (w := W) (pm := pmAll W) (xs := cellsEs (elems.map (·.1))) (b := ab) (off := aoff) (cap := cap) hm0 (by omega) hlm (fun j c hj => ?_) (fun j _ => (cell_lt hu0).1 |> fun h => by simpa [Addr.add] using h)
                    · rw [hll] at this; exact this
                    · obtain ⟨i, k, e', rfl, hk, hi, hck⟩ := flatten_split hlm hj
                      have hil : i < len := by have := lt_of_get hi; omega
                      obtain ⟨z, c', u, hz, hc', hcell', hr⟩ := hcell i k hil hk
                      rw [hes, List.getElem?_map, hz] at hi
                      simp only [Option.map_some, Option.some.injEq] at hi
                      subst hi
                      rw [hc'] at hck
                      simp only [Option.some.injEq] at hck
                      subst hck
                      rw [addr_add, addr_add, hce] at hcell'
                      exact ⟨u, by rw [← hcell']; congr 2; omega, hr⟩
              · simp at h
          · simp at hty
        · simp at hty
      case struct fs =>
        split at hty
        · rename_i us hfs
          split at hty
          · rename_i hcl
            rw [Nat.beq_eq] at hcl
            simp only [Option.some.injEq] at hty; subst hty
            have h' : (if cs.length = P.cellsOf t then (fs.toList.mapM fun f => DataW.trod enc P W 0 sp held fuel f.type ((cs.drop f.offset).take (P.cellsOf f.type))).map fun xs => ((.agg (xs.map (·.1)) : DataW H), xs.flatMap (·.2)) else none) = some x := by
              cases cs with
              | nil => exact h
              | cons v r => cases r <;> (try cases v) <;> exact h
            split at h'
            · rename_i hlen
              simp only [Option.map_eq_some_iff] at h'
              obtain ⟨xs, hxs, rfl⟩ := h'
              obtain ⟨q1, q2⟩ := trod_fields (P := P) (f := tyCells P n) (g := DataW.trod enc P W 0 sp held fuel) (fun t ts cs x h1 h2 => trod_rel fuel n t ts cs x h1 h2) (cs := cs) hfs (by omega) hxs
              refine ⟨q1, ?_, fun j c hj => ?_⟩
              · have := q1.len
                simp only [cellsD]; omega
              · obtain ⟨u, hu, hr⟩ := q2 j c hj
                exact ⟨u, by rw [← hu, Nat.zero_add], hr⟩
            · simp at h'
          · simp at hty
        · simp at hty
end
end Go.Vm

/-
  ARGUMENTS (2): a law's contract out of what the interpreter answers.
-/
namespace Go.Vm
open Go.ChangeShapes Go.WideShapes Go.ChangeAt Go.RowKit

def argTys (P : Program) (n : Nat) : List TypeId → Option (List (Bool × List Ty))
  | [] => some []
  | t :: ts => match tyCells P n t, argTys P n ts with
    | some tys, some r => some ((tyAgg P t, tys) :: r)
    | _, _ => none
def argAV (agg : Bool) (cs : List D) : AV :=
  match agg with
  | true => .agg (cs.map .d)
  | false => match cs with
    | [c] => .d c
    | _ => .junk
def argsAV {H : Type} : List (Bool × List Ty) → List (DataW H) → List AV
  | (b, _) :: ts, d :: ds => argAV b (cellsD d) :: argsAV ts ds
  | _, _ => []
def OkArgs {H : Type} : List (Bool × List Ty) → List (DataW H) → Prop
  | [], [] => True
  | (_, tys) :: ts, d :: ds => OkDs tys (cellsD d) ∧ OkArgs ts ds
  | _, _ => False
/-- The bookkeeping ahead of a call: all of memory stays. -/
def Gh.all (W : World) : Gh where
  obj _ := none
  base _ := 0
  esz _ := 0
  bsz _ := 0
  pm := pmAll W

section
variable {H : Type} {enc : TypeId × Value → H} {P : Program} {W : World} {sp : Nat → Bool}

theorem list_ext_len {α : Type} {a b : List α} (h : a.length = b.length) (hg : ∀ (j : Nat) (x : α), b[j]? = some x → a[j]? = some x) : a = b := by
  apply List.ext_getElem?
  intro j
  rcases Nat.lt_or_ge j b.length with hj | hj
  · rw [List.getElem?_eq_getElem hj]; exact hg j _ (List.getElem?_eq_getElem hj)
  · rw [List.getElem?_eq_none hj, List.getElem?_eq_none (by omega)]

theorem args_rel {n : Nat} {base : Nat} : ∀ {ts : List TypeId} {vs : List Value} {ds : List (DataW H)} {ps : List MemPlace} {tys : List (Bool × List Ty)}, DataW.TrodAll enc P W 0 sp true ts vs ds ps → argTys P n ts = some tys →
    (∀ (j : Nat) t v, ts[j]? = some t → vs[j]? = some v → Value.okWide P W .any base t v) → RVs (Gh.all W) W (argsAV tys ds) vs zero ∧ OkArgs tys ds
  | [], [], [], _, tys, _, h, _ => by
    simp only [argTys, Option.some.injEq] at h; subst h
    simp [argsAV, RVs, OkArgs]
  | t :: ts, v :: vs, d :: ds, ps, tys, hA, h, hok => by
    obtain ⟨p, q, ⟨fuel, htr⟩, hrest, rfl⟩ := hA
    simp only [argTys] at h
    split at h
    · rename_i ty r h1 h2
      simp only [Option.some.injEq] at h; subst h
      obtain ⟨k1, k2, k3⟩ := trod_rel fuel n t ty v.cells.toList (d, p) h1 htr
      obtain ⟨q1, q2⟩ := args_rel hrest h2 fun j t v h1 h2 => hok (j + 1) t v (by simpa using h1) (by simpa using h2)
      refine ⟨?_, k1, q2⟩
      have hv := hok 0 t v rfl rfl
      have hrv : RV (Gh.all W) W (argAV (tyAgg P t) (cellsD d)) v zero := by
        unfold Value.okWide at hv
        cases ha : tyAgg P t with
        | true =>
          have hagg : ∃ cs, v = .agg cs := by
            unfold tyAgg at ha
            split at ha
            · rename_i hu; rw [hu] at hv; obtain ⟨cs, e, _⟩ := hv; exact ⟨cs, e⟩
            · rename_i hu; rw [hu] at hv; obtain ⟨cs, e, _⟩ := hv; exact ⟨cs, e⟩
            · simp at ha
          obtain ⟨cs, rfl⟩ := hagg
          simp only [argAV, RV]
          refine ⟨cs, rfl, RVs.ds (g := Gh.all W) rfl (by have := k2; simpa [Value.cells] using this) fun j c x hc hx => ?_⟩
          obtain ⟨u, hu, hr⟩ := k3 j c hc
          have : u = x := by
            have hu' : cs.toList[j]? = some u := by simpa [Value.cells] using hu
            rw [hu'] at hx; simpa using hx
          rw [← this]; exact hr
        | false =>
          have hone : v.cells = #[v] := by
            have : Cell.okWide P W .any base t v := by
              unfold tyAgg at ha
              split at ha
              · simp at ha
              · simp at ha
              · rename_i h1 h2
                split at hv
                · rename_i fs hu; exact absurd hu (h1 fs)
                · rename_i k e hu; exact absurd hu (h2 k e)
                · exact hv
            cases v <;> first | rfl | (exfalso; unfold Cell.okWide at this; split at this <;> simp_all [Cell.ok])
          rw [hone] at k2 k3
          simp only [List.length_cons, List.length_nil] at k2
          match hcd : cellsD d, k2 with
          | [c], _ =>
            obtain ⟨u, hu, hr⟩ := k3 0 c (by rw [hcd]; rfl)
            simp at hu; subst hu
            simp only [argAV, RV]
            exact ⟨hr, fun _ => trivial⟩
      simp only [argsAV, RVs]
      exact ⟨v, vs, zero, zero, rfl, hrv, q1, fun _ => rfl⟩
    · simp at h
  | [], _ :: _, _, _, _, hA, _, _ => hA.elim
  | [], [], _ :: _, _, _, hA, _, _ => hA.elim
  | _ :: _, [], _, _, _, hA, _, _ => hA.elim
  | _ :: _, _ :: _, [], _, _, hA, _, _ => hA.elim

theorem args_stay {W' : World} (hl : laidOutB P = true) (hblk : ∀ b, b < W.heap.size → W'.heap[b]? = W.heap[b]?) {sp' : Nat → Bool} : ∀ {ts : List TypeId} {vs : List Value} {ds : List (DataW H)} {ps : List MemPlace},
    (∀ t ∈ ts, P.readableRec t = true ∧ t < P.types.size) → DataW.TrodAll enc P W 0 (fun _ => true) true ts vs ds ps → (∀ p ∈ ps, sp' p.block = true) → DataW.TrodAll enc P W' 0 sp' true ts vs ds ps
  | [], [], [], _, _, h, _ => h
  | t :: ts, v :: vs, d :: ds, ps, hr, h, hs => by
    have hlt := h.lt
    obtain ⟨p, q, ⟨fuel, htr⟩, hrest, rfl⟩ := h
    obtain ⟨h1, h2⟩ := hr t (.head _)
    refine ⟨p, q, ⟨fuel, DataW.trod_stays (kids_book hl h1) (book_sized h1) (fun h => by cases h) ⟨h2, book_self t⟩ htr (fun x hx => ?_) (fun x hx => hs x (List.mem_append_left _ hx))⟩,
      args_stay hl hblk (fun t ht => hr t (.tail _ ht)) hrest (fun x hx => hs x (List.mem_append_right _ hx)), rfl⟩
    have hxl := hlt x (List.mem_append_left _ hx)
    cases x with
    | cell b o => exact cell?_of_block (hblk b hxl) o
    | map b => exact hblk b hxl
  | [], _ :: _, _, _, _, h, _ => h.elim
  | [], [], _ :: _, _, _, h, _ => h.elim
  | _ :: _, [], _, _, _, h, _ => h.elim
  | _ :: _, _ :: _, [], _, _, h, _ => h.elim

/-- What a law's contract asks, out of the interpreter's answer. -/
theorem law_contract {T : Nat → Option VFunc} (hT : TabOK P T) {fn : Func} {f : FuncId} {s : ChangeSpec} (hl : laidOutB P = true) (hrec : ∀ t ∈ fn.params.toList, P.readableRec t = true ∧ t < P.types.size)
    {n : Nat} {tys : List (Bool × List Ty)} (hty : argTys P n fn.params.toList = some tys) {tb : TypeId} (hres : fn.resultTypes = #[tb]) (htb : P.underlying tb = some .bool) (hvars : s.vars = []) {apart : Bool}
    {base : Nat} {args : Array Value} {ds gs : List (DataW H)} {before : List MemPlace} (hval : ∀ (j : Nat) t v, fn.params[j]? = some t → args[j]? = some v → Value.okWide P W .any base t v)
    (hW : DataW.Whole enc P fn.params.toList s.vars apart W args.toList ds gs before) (hfn : OkArgs tys ds → s.fn H ds = { results := [.lit (.bool true)], args := ds })
    (hrun : OkArgs tys ds → gs = [] → ∃ m hs', (run T m).call f (argsAV tys ds) ⟨[], 0⟩ = some (.d (.bool true), hs')) :
    Calls P f args W fun e W' => ∃ v, e = .returned v ∧ s.post enc P fn apart true false false W args v W' := by
  have hW' := hW
  obtain ⟨p, q, hA, hV, hpq, hfz, hnd⟩ := hW
  rw [hvars] at hV
  obtain ⟨rfl, rfl⟩ := trodVars_none hV
  obtain ⟨rv, hok⟩ := args_rel (n := n) (base := base) hA hty fun j t v h1 h2 => hval j t v (by rw [← Array.getElem?_toList]; exact h1) (by rw [← Array.getElem?_toList]; exact h2)
  obtain ⟨m, hs', hcall⟩ := hrun hok rfl
  have hc := calls_sound hT hcall (g := Gh.all W) (fun _ => rfl) (fun b o h => h) rv
  have hargs : args.toList.toArray = args := by simp
  rw [hargs] at hc
  refine hc.mono fun e W2 hp => ?_
  cases e with
  | panicked _ => exact hp.elim
  | outgrown => exact hp.elim
  | returned x =>
    obtain ⟨g', Or, Oh, r1, _, hx, _, _, _⟩ := hp
    have hxv := ev_bool r1 rfl
    subst hxv
    have hblk : ∀ b, b < W.heap.size → W2.heap[b]? = W.heap[b]? := fun b hb => (hx.blk b hb (by simp)).1
    have hsfn : s.fn H (ds ++ []) = { results := [.lit (.bool true)], args := ds } := by rw [List.append_nil]; exact hfn hok
    refine ⟨_, rfl, post_of_same (pa := p) (pv := []) hW' (fun b sp hd => ?_) (fun sp hsp => ?_) (fun sp _ => ?_) (by rw [hpq]) ⟨hx.same.1, hx.same.2.1, fun i hi => ?_⟩ hx.same.2.2 ?_⟩
    · rw [hres, hsfn]
      exact trodAll_cons_mk (shut_bool htb _) trodAll_mk0
    · rw [hsfn]
      exact args_stay hl hblk hrec hA fun x hx => hsp x (by rw [hpq]; simpa using hx)
    · rw [hsfn, hvars]
      rfl
    · rw [hblk i hi]
      split <;> simp_all
    · exact ok_one hres rfl (okWide_bool_mk htb _)
end
end Go.Vm

/-
  TABLES OF FUNCTIONS: one test for a whole table.
-/
namespace Go.Vm

def chkAny (P : Program) (vf : VFunc) (f : FuncId) : Bool := chkFn P vf f || (match vf.body with
  | .clone m => chkCloneFn P m vf f
  | .late i d k a => chkLateFn P i d k a vf f
  | _ => false)
def T.every (p : Nat → VFunc → Bool) : T → Bool
  | .leaf => true
  | .node k v a b => p k v && a.every p && b.every p
theorem T.look_every {p : Nat → VFunc → Bool} : ∀ {t : T} {f : Nat} {vf : VFunc}, t.every p = true → t.look f = some vf → p f vf = true
  | .leaf, _, _, _, h => by simp [T.look] at h
  | .node k v a b, f, vf, he, h => by
    simp only [T.every, Bool.and_eq_true] at he
    simp only [T.look] at h
    split at h
    · rename_i hk
      rw [Nat.beq_eq] at hk
      simp only [Option.some.injEq] at h
      subst hk h
      exact he.1.1
    · split at h
      · exact T.look_every he.1.2 h
      · exact T.look_every he.2 h
theorem fnAll_of_chk {P : Program} {vf : VFunc} {f : FuncId} (h : chkAny P vf f = true) : FnAll P vf f := by
  simp only [chkAny, Bool.or_eq_true] at h
  rcases h with h | h
  · unfold chkFn at h
    split at h
    · rename_i fn h1
      split at h
      · rename_i c h2
        simp only [Bool.and_eq_true, Nat.ble_eq, bne_iff_ne, ne_eq] at h
        obtain ⟨⟨⟨k1, k2⟩, k3⟩, k4⟩ := h
        exact ⟨fn, c, h1, h2, k4, k2, k3, .inl (mt_of_chk _ _ k1)⟩
      · simp at h
    · simp at h
  · split at h
    · rename_i m hb
      unfold chkCloneFn at h
      split at h
      · rename_i fn h1
        split at h
        · rename_i c h2
          simp only [Bool.and_eq_true, Nat.ble_eq, Nat.beq_eq, bne_iff_ne, ne_eq] at h
          obtain ⟨⟨⟨⟨⟨⟨k1, k2⟩, k3⟩, k4⟩, k5⟩, k6⟩, k7⟩ := h
          exact ⟨fn, c, h1, h2, k7, by omega, k3, .inr (.inl ⟨m, hb, k6, k5⟩)⟩
        · simp at h
      · simp at h
    · rename_i i d k a hb
      unfold chkLateFn at h
      split at h
      · rename_i fn h1
        split at h
        · rename_i c h2
          simp only [Bool.and_eq_true, Nat.ble_eq, bne_iff_ne, ne_eq] at h
          obtain ⟨⟨⟨k1, k2⟩, k3⟩, k4⟩ := h
          exact ⟨fn, c, h1, h2, k4, k2, k3, .inr (.inr ⟨i, d, k, a, hb, k1⟩)⟩
        · simp at h
      · simp at h
    · simp at h
theorem tabOK {P : Program} {t : T} (h : t.every (fun f v => chkAny P v f) = true) : TabOK P t.look := fun f vf hv => fnAll_of_chk (T.look_every (p := fun f v => chkAny P v f) h hv)
end Go.Vm

/-
  HOW THE INTERPRETER RUNS, without its fuel.
-/
namespace Go.Vm

def Ev (P : Nat → Option VFunc) (c : VC) (st : St) (o : Out) (st' : St) : Prop := ∃ N, ∀ n, (run P (N + n)).code c st = some (o, st')
def EvC (P : Nat → Option VFunc) (f : FuncId) (args : List AV) (hs : HS) (v : AV) (hs' : HS) : Prop := ∃ N, ∀ n, (run P (N + n)).call f args hs = some (v, hs')
/-- A call whose answer is plain. -/
def EvP (P : Nat → Option VFunc) (f : FuncId) (args : List AV) (v : AV) : Prop := ∃ hs', EvC P f args ⟨[], 0⟩ v hs'
def EvO (P : Nat → Option VFunc) (ops : List VI) (st st' : St) : Prop := ∃ N, ∀ n, opsF (run P (N + n)) ops st = some st'

variable {P : Nat → Option VFunc}
theorem run_code (n : Nat) (c : VC) (st : St) : (run P (n + 1)).code c st = codeF c (run P n) st := rfl
theorem run_call (n : Nat) (f : FuncId) (args : List AV) (hs : HS) : (run P (n + 1)).call f args hs = callF P (run P n) f args hs := rfl
theorem run_code' (n m : Nat) (c : VC) (st : St) : (run P (n + 1 + m)).code c st = codeF c (run P (n + m)) st := by
  rw [Nat.add_right_comm]; rfl
theorem run_call' (n m : Nat) (f : FuncId) (args : List AV) (hs : HS) : (run P (n + 1 + m)).call f args hs = callF P (run P (n + m)) f args hs := by
  rw [Nat.add_right_comm]; rfl

theorem ev_skip {st : St} : Ev P .skip st .normal st := ⟨1, fun n => by rw [run_code' 0]; rfl⟩
theorem ev_exit {st : St} {i : Nat} : Ev P (.exit i) st (.exit i) st := ⟨1, fun n => by rw [run_code' 0]; rfl⟩
theorem ev_ret {st : St} : Ev P .ret st .ret st := ⟨1, fun n => by rw [run_code' 0]; rfl⟩
theorem ev_reg {d : Bool} {ops : List VI} {st st' : St} (h : EvO P ops st st') : Ev P (.reg d ops) st .normal st' := by
  obtain ⟨N, h⟩ := h
  exact ⟨N + 1, fun n => by rw [run_code']; simp only [codeF, vcReg, h n]⟩
theorem evo_all {ops : List VI} {st st' : St} (h : ∀ r, opsF r ops st = some st') : EvO P ops st st' := ⟨0, fun n => h _⟩
theorem evo_nil {st : St} : EvO P [] st st := ⟨0, fun _ => rfl⟩
theorem opsF_app (r : Rec) : ∀ (a b : List VI) (st : St), opsF r (a ++ b) st = match opsF r a st with | some st => opsF r b st | none => none
  | [], _, _ => rfl
  | i :: a, b, st => by
    simp only [List.cons_append, opsF]
    split
    · exact opsF_app r a b _
    · rfl
theorem evo_app {a b : List VI} {st st1 st' : St} (h : EvO P a st st1) (h2 : EvO P b st1 st') : EvO P (a ++ b) st st' := by
  obtain ⟨N, h⟩ := h
  obtain ⟨M, h2⟩ := h2
  refine ⟨N + M, fun n => ?_⟩
  rw [opsF_app, Nat.add_assoc, h (M + n)]
  simp only
  rw [← Nat.add_assoc, Nat.add_comm N M, Nat.add_assoc]
  exact h2 _
theorem evo_cons {i : VI} {b : List VI} {st st1 st' : St} (h : EvO P [i] st st1) (h2 : EvO P b st1 st') : EvO P (i :: b) st st' := evo_app h h2
theorem ev_seq {a b : VC} {st st1 st' : St} {o : Out} (h : Ev P a st .normal st1) (h2 : Ev P b st1 o st') : Ev P (.seq a b) st o st' := by
  obtain ⟨N, h⟩ := h
  obtain ⟨M, h2⟩ := h2
  refine ⟨N + M + 1, fun n => ?_⟩
  rw [run_code']
  simp only [codeF, vcSeq]
  have e1 : N + M + n = N + (M + n) := by omega
  have e2 : N + M + n = M + (N + n) := by omega
  rw [e1, h (M + n)]
  simp only
  rw [← e1, e2]
  exact h2 _
theorem ev_seq_stop {a b : VC} {st st' : St} {o : Out} (h : Ev P a st o st') (ho : o ≠ .normal) : Ev P (.seq a b) st o st' := by
  obtain ⟨N, h⟩ := h
  refine ⟨N + 1, fun n => ?_⟩
  rw [run_code']
  simp only [codeF, vcSeq, h n]
  cases o <;> simp_all
theorem ev_cond {i : Nat} {a b : VC} {e : Env} {hs : HS} {o : Out} {st' : St} {t : Bool} (hg : get e i = some (.d (.bool t))) (h : Ev P (match t with | true => a | false => b) ⟨del e i, hs⟩ o st') : Ev P (.cond (.m i) a b) ⟨e, hs⟩ o st' := by
  obtain ⟨N, h⟩ := h
  refine ⟨N + 1, fun n => ?_⟩
  rw [run_code']
  simp only [codeF, vcCond, rd, hg]
  cases t <;> exact h n
theorem ev_block {i : Nat} {a : VC} {st st' : St} {o : Out} (h : Ev P a st o st') : Ev P (.block i a) st (match o with | .exit j => (match Nat.beq j i with | true => .normal | false => .exit j) | o => o) st' := by
  obtain ⟨N, h⟩ := h
  refine ⟨N + 1, fun n => ?_⟩
  rw [run_code']
  simp only [codeF, vcBlock, h n]
  cases o <;> simp only
  split <;> simp_all
theorem ev_block_n {i : Nat} {a : VC} {st st' : St} (h : Ev P a st .normal st') : Ev P (.block i a) st .normal st' := ev_block h
theorem ev_block_r {i : Nat} {a : VC} {st st' : St} (h : Ev P a st .ret st') : Ev P (.block i a) st .ret st' := ev_block h
theorem ev_block_x {i : Nat} {a : VC} {st st' : St} (h : Ev P a st (.exit i) st') : Ev P (.block i a) st .normal st' := by
  have := ev_block (i := i) h
  have hb : Nat.beq i i = true := Nat.beq_refl i
  simpa only [hb] using this
theorem ev_loop {a : VC} {st st1 st' : St} {o : Out} (h : Ev P a st .normal st1) (h2 : Ev P (.loop a) st1 o st') : Ev P (.loop a) st o st' := by
  obtain ⟨N, h⟩ := h
  obtain ⟨M, h2⟩ := h2
  refine ⟨N + M + 1, fun n => ?_⟩
  rw [run_code']
  simp only [codeF, vcLoop]
  have e1 : N + M + n = N + (M + n) := by omega
  have e2 : N + M + n = M + (N + n) := by omega
  rw [e1, h (M + n)]
  simp only
  rw [← e1, e2]
  exact h2 _
theorem ev_loop_stop {a : VC} {st st' : St} {o : Out} (h : Ev P a st o st') (ho : o ≠ .normal) : Ev P (.loop a) st o st' := by
  obtain ⟨N, h⟩ := h
  refine ⟨N + 1, fun n => ?_⟩
  rw [run_code']
  simp only [codeF, vcLoop, h n]
  cases o <;> simp_all
theorem evc_body {f : FuncId} {fn : VFunc} {args : List AV} {hs : HS} {v : AV} {hs' : HS} {st' : St} {o : Out} (hf : P f = some fn) (hl : Nat.beq args.length fn.nparams = true) (h : Ev P fn.body ⟨mkEnv 0 args, hs⟩ o st') (ho : o = .normal ∨ o = .ret) (he : endF fn st' = some (v, hs')) : EvC P f args hs v hs' := by
  obtain ⟨N, h⟩ := h
  refine ⟨N + 1, fun n => ?_⟩
  rw [run_call']
  have hb := h (n + 1)
  rw [← Nat.add_assoc, run_code] at hb
  simp only [callF, hf, hl]
  have hb2 : codeF fn.body (run P (N + n)) ⟨mkEnv 0 args, hs⟩ = some (o, st') := hb
  rw [hb2]
  rcases ho with rfl | rfl <;> exact he
/-- A call of plain answer, in a region. -/
theorem evo_call {f : FuncId} {rs : List Rd} {dst : Nat} {e e2 : Env} {hs : HS} {vs ds : List AV} {v : AV} (hr : rdAll e rs = some (vs, e2)) (hv : viewArgs hs.heap vs = some ds) (hfl : vs.any fluid = false) (hc : EvP P f ds v) (hres : ∀ h, resTop h v = some v) :
    EvO P [⟨some dst, none, .call f rs, []⟩] ⟨e, hs⟩ ⟨put e2 dst (firm v), hs⟩ := by
  obtain ⟨hs', N, hc⟩ := hc
  refine ⟨N, fun n => ?_⟩
  simp only [opsF, viF, viGo, opF, opCall, hr, callPure, hv, hc n, hres, hfl, setDst]
/-- The same behind a guard that holds. -/
theorem evo_call_g {f : FuncId} {rs : List Rd} {dst s : Nat} {w : Bool} {e e2 : Env} {hs : HS} {vs ds : List AV} {v : AV} (hg : get e s = some (.d (.bool w))) (hr : rdAll e rs = some (vs, e2)) (hv : viewArgs hs.heap vs = some ds) (hfl : vs.any fluid = false) (hc : EvP P f ds v) (hres : ∀ h, resTop h v = some v) :
    EvO P [⟨some dst, some (s, w), .call f rs, []⟩] ⟨e, hs⟩ ⟨put e2 dst (firm v), hs⟩ := by
  obtain ⟨N, h⟩ := evo_call (dst := dst) hr hv hfl hc hres
  refine ⟨N, fun n => ?_⟩
  have := h n
  simp only [opsF, viF, viGo, hg] at this ⊢
  cases w <;> exact this
/-- A call in place. -/
theorem evo_calli {f : FuncId} {rs : List Rd} {dst : Nat} {e e2 : Env} {hs hs' : HS} {vs : List AV} {v : AV} (hr : rdAll e rs = some (vs, e2)) (hc : EvC P f vs hs v hs') : EvO P [⟨some dst, none, .calli f rs, []⟩] ⟨e, hs⟩ ⟨put e2 dst (firm v), hs'⟩ := by
  obtain ⟨N, hc⟩ := hc
  refine ⟨N, fun n => ?_⟩
  simp only [opsF, viF, viGo, opF, opCalli, hr, hc n, setDst]
def isN : Out → Bool
  | .normal => true
  | _ => false
def pendOf : Out → Option Out
  | .normal => none
  | o => some o
def outOf : Option Out → Out
  | none => .normal
  | some o => o
/-- One round of a range over a function. -/
theorem evo_yield {f : Nat} {rs : List Rd} {dst l : Nat} {e e2 e3 : Env} {hs : HS} {vs : List AV} {snap : Env} {params : List Nat} {assign body : VC} {ea eb : Env} {ha hb : Heap} {na nb : Nat} {o : Out}
    (hf : get e f = some (.yield l)) (hr : rdAll (del e f) rs = some (vs, e2)) (hg : get hs.heap l = some (.loop snap params assign body false none)) (hp : putAll snap params vs = some e3)
    (h1 : Ev P assign ⟨e3, hs⟩ .normal ⟨ea, ⟨ha, na⟩⟩) (hg2 : get ha l = some (.loop snap params assign body false none))
    (h2 : Ev P body ⟨ea, ⟨put ha l (.loop snap params assign body true none), na⟩⟩ o ⟨eb, ⟨hb, nb⟩⟩) (hg3 : get hb l = some (.loop snap params assign body true none)) :
    EvO P [⟨some dst, none, .callv (.m f) rs, []⟩] ⟨e, hs⟩ ⟨put e2 dst (.bool (isN o)), ⟨put hb l (.loop snap params assign body false (pendOf o)), nb⟩⟩ := by
  obtain ⟨N, h1⟩ := h1
  obtain ⟨M, h2⟩ := h2
  refine ⟨N + M, fun n => ?_⟩
  have e1 : N + M + n = N + (M + n) := by omega
  have e2 : N + M + n = M + (N + n) := by omega
  have h1 := h1 (M + n)
  have h2 := h2 (N + n)
  rw [← e1] at h1
  rw [← e2] at h2
  simp only [opsF, viF, viGo, opF, opCallv, rd, hf, hr, callVal, yieldOf, hg, hp, h1, hg2, h2, hg3]
  cases o <;> rfl
theorem ev_range {f : Nat} {params : List Nat} {assign body : VC} {e : Env} {h h2 : Heap} {n n2 : Nat} {g : FuncId} {first caps : List AV} {v : AV} {sn : Env} {q : List Nat} {a2 b2 : VC} {pend : Option Out} {o : Out}
    (hf : get e f = some (.fn g first caps))
    (hc : EvC P g (first ++ ([AV.yield n] ++ caps)) ⟨put h n (.loop ((del e f).map fun kv => (kv.1, share kv.2)) params assign body false none), n + 1⟩ v ⟨h2, n2⟩)
    (hg : get h2 n = some (.loop sn q a2 b2 false pend)) (ho : o = (outOf pend)) :
    Ev P (.rangeF (.m f) params assign body) ⟨e, ⟨h, n⟩⟩ o ⟨del e f, ⟨del h2 n, n2⟩⟩ := by
  obtain ⟨N, hc⟩ := hc
  refine ⟨N + 1, fun k => ?_⟩
  rw [run_code']
  simp only [codeF, vcRangeF, rd, hf, hc k, hg]
  subst ho
  cases pend <;> rfl

/-! ### Numbers -/
theorem wr_i64 {n : Int} (h : -9223372036854775808 ≤ n) (h2 : n ≤ 9223372036854775807) : wr .i64 n = n := by
  simp only [wr, wrapTo, decide_eq_true h, decide_eq_true h2, Bool.and_self]
theorem beq_lit (a b : Nat) : Nat.beq a b = decide (a = b) := by
  cases h : Nat.beq a b with
  | true => simp [Nat.eq_of_beq_eq_true h]
  | false => simp [Nat.ne_of_beq_eq_false h]

/-! ### What holds behind a run -/
instance : Nonempty Rec := ⟨⟨fun _ _ => none, fun _ _ _ => none⟩⟩
theorem nat_of (k : IntKind) (i : Nat) : natOf (.d (.int k (i : Int))) = some i := rfl
def WP (P : Nat → Option VFunc) (c : VC) (st : St) (Q : Out → St → Prop) : Prop := ∃ o st', Ev P c st o st' ∧ Q o st'
def WO (P : Nat → Option VFunc) (ops : List VI) (st : St) (Q : St → Prop) : Prop := ∃ st', EvO P ops st st' ∧ Q st'
theorem wp_skip {st : St} {Q : Out → St → Prop} (h : Q .normal st) : WP P .skip st Q := ⟨_, _, ev_skip, h⟩
theorem wp_exit {st : St} {i : Nat} {Q : Out → St → Prop} (h : Q (.exit i) st) : WP P (.exit i) st Q := ⟨_, _, ev_exit, h⟩
theorem wp_ret {st : St} {Q : Out → St → Prop} (h : Q .ret st) : WP P .ret st Q := ⟨_, _, ev_ret, h⟩
theorem wp_regO {d : Bool} {ops : List VI} {st : St} {Q : Out → St → Prop} (h : WO P ops st (Q .normal)) : WP P (.reg d ops) st Q := by
  obtain ⟨st', h, hq⟩ := h
  exact ⟨_, _, ev_reg h, hq⟩
theorem wp_reg {d : Bool} {ops : List VI} {st : St} {Q : Out → St → Prop} (h : ∃ st', (∀ r, opsF r ops st = some st') ∧ Q .normal st') : WP P (.reg d ops) st Q := by
  obtain ⟨st', h, hq⟩ := h
  exact ⟨_, _, ev_reg (evo_all h), hq⟩
theorem runL_opsF {r : Rec} {vs : List VI} : ∀ {l : List Nat} {st : St}, (l.all fun i => decide (i < vs.length)) = true → runL r vs l st = opsF r (l.filterMap fun i => vs[i]?) st
  | [], _, _ => rfl
  | i :: l, st, h => by
    simp only [List.all_cons, Bool.and_eq_true, decide_eq_true_eq] at h
    have hi : vs[i]? = some (vs[i]'h.1) := List.getElem?_eq_getElem h.1
    simp only [runL, hi, List.filterMap_cons, opsF]
    cases viF r (vs[i]'h.1) st with
    | none => rfl
    | some st1 => exact runL_opsF h.2
theorem runN_nil {r : Rec} {vs : List VI} : ∀ {l F : List Nat} {st : St}, runN r [] vs l F st = runL r vs l st
  | [], _, _ => rfl
  | i :: l, F, st => by
    simp only [runN, runL, stepA, memN]
    cases vs[i]? with
    | none => rfl
    | some v =>
      simp only
      cases viF r v st with
      | none => rfl
      | some st1 => exact runN_nil
theorem wp_regP {perm gco : List Nat} {ops : List VI} {st : St} {Q : Out → St → Prop} (ha : lateAbs st.env ops = true) (hb : (perm.all fun i => decide (i < ops.length)) = true) (h : WO P (perm.filterMap fun i => ops[i]?) st (Q .normal)) : WP P (.regP perm gco [] ops) st Q := by
  obtain ⟨st', ⟨N, h⟩, hq⟩ := h
  refine ⟨.normal, st', ⟨N + 1, fun n => ?_⟩, hq⟩
  rw [run_code']
  simp only [codeF, vcRegP, runP_eq, ha, runN_nil, runL_opsF hb, h n]
theorem wo_nil {st : St} {Q : St → Prop} (h : Q st) : WO P [] st Q := ⟨_, evo_nil, h⟩
theorem wo_pure {ops : List VI} {st : St} {Q : St → Prop} (h : ∃ st', (∀ r, opsF r ops st = some st') ∧ Q st') : WO P ops st Q := by
  obtain ⟨st', h, hq⟩ := h
  exact ⟨_, evo_all h, hq⟩
theorem wo_pre (k : Nat) {ops : List VI} {st : St} {Q : St → Prop} (h : ∃ st', (∀ r, opsF r (ops.take k) st = some st') ∧ WO P (ops.drop k) st' Q) : WO P ops st Q := by
  obtain ⟨st1, h, st2, h2, hq⟩ := h
  refine ⟨st2, ?_, hq⟩
  rw [← List.take_append_drop k ops]
  exact evo_app (evo_all h) h2
theorem wo_call {f : FuncId} {rs : List Rd} {dst : Nat} {e : Env} {hs : HS} {v : AV} {ops : List VI} {Q : St → Prop} (hres : ∀ h, resTop h v = some v)
    (h : ∃ vs e2 ds, rdAll e rs = some (vs, e2) ∧ viewArgs hs.heap vs = some ds ∧ vs.any fluid = false ∧ EvP P f ds v ∧ WO P ops ⟨put e2 dst (firm v), hs⟩ Q) : WO P (⟨some dst, none, .call f rs, []⟩ :: ops) ⟨e, hs⟩ Q := by
  obtain ⟨vs, e2, ds, h1, h2, h3, h4, st', h5, hq⟩ := h
  exact ⟨st', evo_cons (evo_call h1 h2 h3 h4 hres) h5, hq⟩
theorem wo_call_g {f : FuncId} {rs : List Rd} {dst s : Nat} {w : Bool} {e : Env} {hs : HS} {v : AV} {ops : List VI} {Q : St → Prop} (hres : ∀ h, resTop h v = some v)
    (h : get e s = some (.d (.bool w)) ∧ ∃ vs e2 ds, rdAll e rs = some (vs, e2) ∧ viewArgs hs.heap vs = some ds ∧ vs.any fluid = false ∧ EvP P f ds v ∧ WO P ops ⟨put e2 dst (firm v), hs⟩ Q) : WO P (⟨some dst, some (s, w), .call f rs, []⟩ :: ops) ⟨e, hs⟩ Q := by
  obtain ⟨h0, vs, e2, ds, h1, h2, h3, h4, st', h5, hq⟩ := h
  exact ⟨st', evo_cons (evo_call_g h0 h1 h2 h3 h4 hres) h5, hq⟩
theorem wp_seq {a b : VC} {st : St} {Q : Out → St → Prop} (h : WP P a st fun o s => match o with | .normal => WP P b s Q | o => Q o s) : WP P (.seq a b) st Q := by
  obtain ⟨o, s, h, hq⟩ := h
  cases o with
  | normal =>
    obtain ⟨o2, s2, h2, hq⟩ := hq
    exact ⟨_, _, ev_seq h h2, hq⟩
  | exit j => exact ⟨_, _, ev_seq_stop h (by simp), hq⟩
  | goto j => exact ⟨_, _, ev_seq_stop h (by simp), hq⟩
  | ret => exact ⟨_, _, ev_seq_stop h (by simp), hq⟩
theorem wp_cond {i : Nat} {a b : VC} {e : Env} {hs : HS} {Q : Out → St → Prop} (h : ∃ t, get e i = some (.d (.bool t)) ∧ (t = true → WP P a ⟨del e i, hs⟩ Q) ∧ (t = false → WP P b ⟨del e i, hs⟩ Q)) : WP P (.cond (.m i) a b) ⟨e, hs⟩ Q := by
  obtain ⟨t, hg, h1, h2⟩ := h
  cases t with
  | true =>
    obtain ⟨o, s, h, hq⟩ := h1 rfl
    exact ⟨o, s, ev_cond hg h, hq⟩
  | false =>
    obtain ⟨o, s, h, hq⟩ := h2 rfl
    exact ⟨o, s, ev_cond hg h, hq⟩
theorem wp_block {i : Nat} {a : VC} {st : St} {Q : Out → St → Prop} (h : WP P a st fun o s => match o with | .exit j => Q (match Nat.beq j i with | true => .normal | false => .exit j) s | o => Q o s) : WP P (.block i a) st Q := by
  obtain ⟨o, s, h, hq⟩ := h
  refine ⟨_, s, ev_block h, ?_⟩
  cases o <;> exact hq
theorem wp_loop {a : VC} {st : St} {Q : Out → St → Prop} (h : WP P a st fun o s => match o with | .normal => WP P (.loop a) s Q | o => Q o s) : WP P (.loop a) st Q := by
  obtain ⟨o, s, h, hq⟩ := h
  cases o with
  | normal =>
    obtain ⟨o2, s2, h2, hq⟩ := hq
    exact ⟨_, _, ev_loop h h2, hq⟩
  | exit j => exact ⟨_, _, ev_loop_stop h (by simp), hq⟩
  | goto j => exact ⟨_, _, ev_loop_stop h (by simp), hq⟩
  | ret => exact ⟨_, _, ev_loop_stop h (by simp), hq⟩
theorem WP.mono {c : VC} {st : St} {Q R : Out → St → Prop} (h : WP P c st Q) (hq : ∀ o s, Q o s → R o s) : WP P c st R := by
  obtain ⟨o, s, h, k⟩ := h
  exact ⟨o, s, h, hq o s k⟩
theorem evc_wp {f : FuncId} {fn : VFunc} {args : List AV} {hs : HS} {R : AV → HS → Prop} (hf : P f = some fn) (hl : Nat.beq args.length fn.nparams = true) (h : WP P fn.body ⟨mkEnv 0 args, hs⟩ fun o s => (o = .normal ∨ o = .ret) ∧ ∃ v hs', endF fn s = some (v, hs') ∧ R v hs') : ∃ v hs', EvC P f args hs v hs' ∧ R v hs' := by
  obtain ⟨o, s, h, ho, v, hs', he, hr⟩ := h
  exact ⟨v, hs', evc_body hf hl h ho he, hr⟩
theorem evp_wp {f : FuncId} {fn : VFunc} {args : List AV} {v : AV} (hf : P f = some fn) (hl : Nat.beq args.length fn.nparams = true) (h : WP P fn.body ⟨mkEnv 0 args, ⟨[], 0⟩⟩ fun o s => (o = .normal ∨ o = .ret) ∧ ∃ hs', endF fn s = some (v, hs')) : EvP P f args v := by
  obtain ⟨o, s, h, ho, hs', he⟩ := h
  exact ⟨hs', evc_body hf hl h ho he⟩
theorem wo_calli {f : FuncId} {fn : VFunc} {rs : List Rd} {dst : Nat} {e : Env} {hs : HS} {ops : List VI} {Q : St → Prop} {vs : List AV} {e2 : Env} (hr : rdAll e rs = some (vs, e2)) (hf : P f = some fn) (hl : Nat.beq vs.length fn.nparams = true)
    (h : WP P fn.body ⟨mkEnv 0 vs, hs⟩ fun o s => (o = .normal ∨ o = .ret) ∧ ∃ v hs', endF fn s = some (v, hs') ∧ WO P ops ⟨put e2 dst (firm v), hs'⟩ Q) : WO P (⟨some dst, none, .calli f rs, []⟩ :: ops) ⟨e, hs⟩ Q := by
  obtain ⟨v, hs', hc, st', h5, hq⟩ := evc_wp (R := fun v hs' => WO P ops ⟨put e2 dst (firm v), hs'⟩ Q) hf hl h
  exact ⟨st', evo_cons (evo_calli hr hc) h5, hq⟩
theorem wo_yield {f : Nat} {rs : List Rd} {dst l : Nat} {e e2 e3 : Env} {hs : HS} {vs : List AV} {snap : Env} {params : List Nat} {assign body : VC} {ops : List VI} {Q : St → Prop}
    (hf : get e f = some (.yield l)) (hr : rdAll (del e f) rs = some (vs, e2)) (hg : get hs.heap l = some (.loop snap params assign body false none)) (hp : putAll snap params vs = some e3)
    (h : WP P assign ⟨e3, hs⟩ fun o s => o = .normal ∧ get s.hs.heap l = some (.loop snap params assign body false none) ∧ WP P body ⟨s.env, ⟨put s.hs.heap l (.loop snap params assign body true none), s.hs.next⟩⟩ fun o2 s2 =>
      get s2.hs.heap l = some (.loop snap params assign body true none) ∧ WO P ops ⟨put e2 dst (.bool (isN o2)), ⟨put s2.hs.heap l (.loop snap params assign body false (pendOf o2)), s2.hs.next⟩⟩ Q) :
    WO P (⟨some dst, none, .callv (.m f) rs, []⟩ :: ops) ⟨e, hs⟩ Q := by
  obtain ⟨o, ⟨ea, ha, na⟩, h1, rfl, hg2, o2, ⟨eb, hb, nb⟩, h2, hg3, st', h5, hq⟩ := h
  exact ⟨st', evo_cons (evo_yield hf hr hg hp h1 hg2 h2 hg3) h5, hq⟩
theorem wp_range {f : Nat} {params : List Nat} {assign body : VC} {e : Env} {h : Heap} {n : Nat} {g : FuncId} {fn : VFunc} {first caps : List AV} {Q : Out → St → Prop} (hf : get e f = some (.fn g first caps)) (hP : P g = some fn) (hl : Nat.beq (first ++ ([AV.yield n] ++ caps)).length fn.nparams = true)
    (hw : WP P fn.body ⟨mkEnv 0 (first ++ ([AV.yield n] ++ caps)), ⟨put h n (.loop ((del e f).map fun kv => (kv.1, share kv.2)) params assign body false none), n + 1⟩⟩ fun o s => (o = .normal ∨ o = .ret) ∧ ∃ v hs', endF fn s = some (v, hs') ∧ ∃ sn q a2 b2 pend, get hs'.heap n = some (.loop sn q a2 b2 false pend) ∧ Q (outOf pend) ⟨del e f, ⟨del hs'.heap n, hs'.next⟩⟩) :
    WP P (.rangeF (.m f) params assign body) ⟨e, ⟨h, n⟩⟩ Q := by
  obtain ⟨v, ⟨h2, n2⟩, hc, sn, q, a2, b2, pend, hg, hq⟩ := evc_wp (R := fun v hs' => ∃ sn q a2 b2 pend, get hs'.heap n = some (.loop sn q a2 b2 false pend) ∧ Q (outOf pend) ⟨del e f, ⟨del hs'.heap n, hs'.next⟩⟩) hP hl hw
  exact ⟨_, _, ev_range hf hc hg rfl, hq⟩
end Go.Vm

/-
  RUNS THAT LEAN ON CALLS WHOSE ANSWERS ARE KNOWN.
-/
namespace Go.Vm

/-- What one runner answers, the other answers too. -/
structure RLe (r q : Rec) : Prop where
  code : ∀ c st x, r.code c st = some x → q.code c st = some x
  call : ∀ f a h x, r.call f a h = some x → q.call f a h = some x
section
variable {r q : Rec}
theorem callPure_mono (le : RLe r q) {f : FuncId} {vs : List AV} {h : Heap} {x : AV} (e : callPure r f vs h = some x) : callPure q f vs h = some x := by
  unfold callPure at e ⊢
  cases hd : viewArgs h vs with
  | none => rw [hd] at e; simp at e
  | some ds =>
    rw [hd] at e
    simp only at e ⊢
    cases hc : r.call f ds ⟨[], 0⟩ with
    | none => rw [hc] at e; simp at e
    | some p =>
      obtain ⟨v, hs⟩ := p
      rw [hc] at e
      rw [le.call _ _ _ _ hc]
      exact e
theorem yieldOf_mono (le : RLe r q) {l : Nat} {vs : List AV} {hs : HS} {x : AV × HS} (e : yieldOf r l vs hs = some x) : yieldOf q l vs hs = some x := by
  unfold yieldOf at e ⊢
  split at e
  · rename_i snap params assign body hg
    split at e
    · simp at e
    · rename_i e1 he1
      try simp only [he1]
      split at e
      · rename_i st1 hc
        simp only [le.code _ _ _ hc]
        split at e
        · rename_i snap2 params2 assign2 body2 hg2
          split at e
          · simp at e
          · rename_i o st2 hc2
            simp only [le.code _ _ _ hc2]
            exact e
        · simp at e
      · simp at e
  · simp at e
theorem callVal_mono (le : RLe r q) {f : AV} {vs : List AV} {hs : HS} {x : AV × HS} (e : callVal r f vs hs = some x) : callVal q f vs hs = some x := by
  cases f <;> simp only [callVal, reduceCtorEq] at e ⊢
  · exact le.call _ _ _ _ e
  · exact yieldOf_mono le e
theorem opF_mono (le : RLe r q) {o : VOp} {st : St} {x : AV × St} (e : opF o r st = some x) : opF o q st = some x := by
  cases o <;> try exact e
  · rename_i f args
    simp only [opF, opCall] at e ⊢
    cases hr : rdAll st.env args with
    | none => rw [hr] at e; simp at e
    | some p =>
      obtain ⟨vs, e1⟩ := p
      rw [hr] at e
      simp only at e ⊢
      cases hc : callPure r f vs st.hs.heap with
      | none => rw [hc] at e; simp at e
      | some v => rw [hc] at e; rw [callPure_mono le hc]; exact e
  · rename_i f args
    simp only [opF, opCalli] at e ⊢
    cases hr : rdAll st.env args with
    | none => rw [hr] at e; simp at e
    | some p =>
      obtain ⟨vs, e1⟩ := p
      rw [hr] at e
      simp only at e ⊢
      cases hc : r.call f vs st.hs with
      | none => rw [hc] at e; simp at e
      | some v => rw [hc] at e; rw [le.call _ _ _ _ hc]; exact e
  · rename_i f args
    simp only [opF, opCallv] at e ⊢
    cases hf : rd st.env f with
    | none => rw [hf] at e; simp at e
    | some p =>
      obtain ⟨fv, e0⟩ := p
      rw [hf] at e
      simp only at e ⊢
      cases hr : rdAll e0 args with
      | none => rw [hr] at e; simp at e
      | some p =>
        obtain ⟨vs, e1⟩ := p
        rw [hr] at e
        simp only at e ⊢
        cases hc : callVal r fv vs st.hs with
        | none => rw [hc] at e; simp at e
        | some v => rw [hc] at e; rw [callVal_mono le hc]; exact e
theorem viF_mono (le : RLe r q) {i : VI} {st x : St} (e : viF r i st = some x) : viF q i st = some x := by
  have go : ∀ x, viGo r i st = some x → viGo q i st = some x := fun x e => by
    unfold viGo at e ⊢
    cases ho : opF i.op r st with
    | none => rw [ho] at e; simp at e
    | some p => rw [ho] at e; rw [opF_mono le ho]; exact e
  unfold viF at e ⊢
  split at e
  · exact go _ e
  · split at e
    · split at e
      · simp_all
      · simp_all
    · exact e
    · simp at e
theorem opsF_mono (le : RLe r q) : ∀ {l : List VI} {st x : St}, opsF r l st = some x → opsF q l st = some x
  | [], _, _, e => e
  | i :: l, st, x, e => by
    simp only [opsF] at e ⊢
    cases hv : viF r i st with
    | none => rw [hv] at e; simp at e
    | some st1 => rw [hv] at e; rw [viF_mono le hv]; exact opsF_mono le e
theorem viN_mono (le : RLe r q) {F : List Nat} {i : VI} {st x : St} (e : viN r F i st = some x) : viN q F i st = some x := by
  unfold viN at e ⊢
  split at e
  · cases hv : viF r i st with
    | none => rw [hv] at e; simp at e
    | some st1 => rw [hv] at e; rw [viF_mono le hv]; exact e
  · cases hv : viF r i st with
    | none => rw [hv] at e; simp at e
    | some st1 => rw [hv] at e; rw [viF_mono le hv]; exact e
  · cases hv : viF r i ⟨st.env, ⟨onlyH (nearIds i st.env) st.hs.heap, st.hs.next⟩⟩ with
    | none => rw [hv] at e; simp at e
    | some st1 => rw [hv] at e; rw [viF_mono le hv]; exact e
theorem stepA_mono (le : RLe r q) {a : Bool} {F : List Nat} {i : VI} {st x : St} (e : stepA r a F i st = some x) : stepA q a F i st = some x := by
  cases a
  · exact viF_mono le e
  · exact viN_mono le e
theorem runN_mono (le : RLe r q) {nr : List Nat} {vs : List VI} : ∀ {l F : List Nat} {st x : St}, runN r nr vs l F st = some x → runN q nr vs l F st = some x
  | [], _, _, _, e => e
  | i :: l, F, st, x, e => by
    simp only [runN] at e ⊢
    cases hi : vs[i]? with
    | none => rw [hi] at e; simp at e
    | some v =>
      rw [hi] at e
      simp only at e ⊢
      cases hv : stepA r (memN i nr) F v st with
      | none => rw [hv] at e; simp at e
      | some st1 => rw [hv] at e; rw [stepA_mono le hv]; exact runN_mono le e
theorem codeF_mono (le : RLe r q) {c : VC} {st : St} {x : Out × St} (e : codeF c r st = some x) : codeF c q st = some x := by
  cases c <;> try exact e
  · rename_i d ops
    simp only [codeF, vcReg] at e ⊢
    cases hv : opsF r ops st with
    | none => rw [hv] at e; simp at e
    | some st1 => rw [hv] at e; rw [opsF_mono le hv]; exact e
  · rename_i perm gco nr ops
    simp only [codeF, vcRegP, runP_eq] at e ⊢
    cases ha : lateAbs st.env ops with
    | false => rw [ha] at e; simp at e
    | true =>
    rw [ha] at e
    simp only at e ⊢
    cases hv : runN r nr ops perm [] st with
    | none => rw [hv] at e; simp at e
    | some st1 => rw [hv] at e; rw [runN_mono le hv]; exact e
  · rename_i a b
    simp only [codeF, vcSeq] at e ⊢
    cases hv : r.code a st with
    | none => rw [hv] at e; simp at e
    | some p =>
      obtain ⟨o, st1⟩ := p
      rw [hv] at e
      rw [le.code _ _ _ hv]
      cases o <;> simp only at e ⊢
      · exact le.code _ _ _ e
      all_goals exact e
  · rename_i cr a b
    simp only [codeF, vcCond] at e ⊢
    split at e
    · exact le.code _ _ _ e
    · exact le.code _ _ _ e
    · simp at e
  · rename_i id a
    simp only [codeF, vcBlock] at e ⊢
    cases hv : r.code a st with
    | none => rw [hv] at e; simp at e
    | some p => rw [hv] at e; rw [le.code _ _ _ hv]; exact e
  · rename_i a
    simp only [codeF, vcLoop] at e ⊢
    cases hv : r.code a st with
    | none => rw [hv] at e; simp at e
    | some p =>
      obtain ⟨o, st1⟩ := p
      rw [hv] at e
      rw [le.code _ _ _ hv]
      cases o <;> simp only at e ⊢
      · exact le.code _ _ _ e
      all_goals exact e
  · rename_i f params assign body
    simp only [codeF, vcRangeF] at e ⊢
    split at e
    · rename_i g first caps e1 h1
      split at e
      · rename_i v hs hc
        rw [le.call _ _ _ _ hc]
        exact e
      · simp at e
    · simp at e
  · exact le.code _ _ _ e
  · rename_i a cur
    simp only [codeF, vcInScope] at e ⊢
    cases hv : r.code cur st with
    | none => rw [hv] at e; simp at e
    | some p =>
      obtain ⟨o, st1⟩ := p
      rw [hv] at e
      rw [le.code _ _ _ hv]
      cases o <;> simp only at e ⊢
      · exact e
      · exact e
      · split at e
        · exact le.code _ _ _ e
        · exact e
      · exact e
  · rename_i i d f a
    simp only [codeF, vcLate] at e ⊢
    cases hg : get st.env i with
    | none => rw [hg] at e; simp at e
    | some p =>
      rw [hg] at e
      cases p <;> simp only at e ⊢ <;> try exact absurd e (by simp)
      rename_i id off
      cases hv : r.code a ⟨put st.env d (.ptr id off), st.hs⟩ with
      | none => rw [hv] at e; simp at e
      | some p =>
        obtain ⟨o, st1⟩ := p
        rw [hv] at e
        rw [le.code _ _ _ hv]
        cases o <;> simp only at e ⊢ <;> try exact absurd e (by simp)
        all_goals
          cases hc : r.call f [.ptr id off] st1.hs with
          | none => rw [hc] at e; simp at e
          | some q => rw [hc] at e; rw [le.call _ _ _ _ hc]; exact e
theorem callF_mono (le : RLe r q) {P : Nat → Option VFunc} {f : FuncId} {a : List AV} {h : HS} {x : AV × HS} (e : callF P r f a h = some x) : callF P q f a h = some x := by
  unfold callF at e ⊢
  split at e
  · simp at e
  · rename_i fn hf
    split at e
    · simp at e
    · rename_i hn
      cases hv : codeF fn.body r ⟨mkEnv 0 a, h⟩ with
      | none => rw [hv] at e; simp at e
      | some p => rw [hv] at e; simp only [hn, codeF_mono le hv]; exact e
end
def eqHeap : Heap → Heap → Bool
  | [], [] => true
  | (i, a) :: r, (j, b) :: s => Nat.beq i j && eqO a b && eqHeap r s
  | _, _ => false
def eqHS (a b : HS) : Bool := Nat.beq a.next b.next && eqHeap a.heap b.heap
theorem eqHeap_eq : ∀ {a b : Heap}, eqHeap a b = true → a = b
  | [], [], _ => rfl
  | [], _ :: _, h => by simp [eqHeap] at h
  | _ :: _, [], h => by simp [eqHeap] at h
  | (i, a) :: r, (j, b) :: s, h => by
    simp only [eqHeap, Bool.and_eq_true] at h
    rw [Nat.eq_of_beq_eq_true h.1.1, eqO_eq h.1.2, eqHeap_eq h.2]
theorem eqHS_eq {a b : HS} (h : eqHS a b = true) : a = b := by
  obtain ⟨x, n⟩ := a
  obtain ⟨y, m⟩ := b
  simp only [eqHS, Bool.and_eq_true] at h
  rw [Nat.eq_of_beq_eq_true h.1, eqHeap_eq h.2]
/-- A call and its answer. -/
structure Known where
  f : FuncId
  args : List AV
  h0 : HS
  v : AV
  hs : HS
def seek : List Known → FuncId → List AV → HS → Option (AV × HS)
  | [], _, _, _ => none
  | k :: r, f, a, h => match Nat.beq k.f f with
    | true => match eqAVs k.args a with
      | true => match eqHS k.h0 h with
        | true => some (k.v, k.hs)
        | false => seek r f a h
      | false => seek r f a h
    | false => seek r f a h
def runM (P : Nat → Option VFunc) (M : List Known) : Nat → Rec
  | 0 => ⟨fun _ _ => none, fun _ _ _ => none⟩
  | n + 1 => ⟨fun c st => codeF c (runM P M n) st, fun f a h => match seek M f a h with
    | some x => some x
    | none => callF P (runM P M n) f a h⟩
def Knows (P : Nat → Option VFunc) (M : List Known) : Prop := ∃ N, ∀ k ∈ M, ∀ n, (run P (N + n)).call k.f k.args k.h0 = some (k.v, k.hs)
variable {P : Nat → Option VFunc}
theorem knows_nil : Knows P [] := ⟨0, fun k h => by simp at h⟩
theorem knows_cons {k : Known} {M : List Known} (h : EvC P k.f k.args k.h0 k.v k.hs) (hM : Knows P M) : Knows P (k :: M) := by
  obtain ⟨N1, h⟩ := h
  obtain ⟨N2, hM⟩ := hM
  refine ⟨N1 + N2, fun j hj n => ?_⟩
  rcases List.mem_cons.1 hj with rfl | hj
  · rw [Nat.add_assoc]; exact h _
  · rw [Nat.add_comm N1, Nat.add_assoc]; exact hM j hj _
theorem seek_mem : ∀ {M : List Known} {f : FuncId} {a : List AV} {h : HS} {x : AV × HS}, seek M f a h = some x → ∃ k ∈ M, k.f = f ∧ k.args = a ∧ k.h0 = h ∧ x = (k.v, k.hs)
  | [], _, _, _, _, e => by simp [seek] at e
  | k :: M, f, a, h, x, e => by
    have tl : seek M f a h = some x → ∃ j ∈ k :: M, j.f = f ∧ j.args = a ∧ j.h0 = h ∧ x = (j.v, j.hs) := fun e => by
      obtain ⟨j, hj, q⟩ := seek_mem e
      exact ⟨j, .tail _ hj, q⟩
    simp only [seek] at e
    split at e
    · rename_i hf
      split at e
      · rename_i ha
        split at e
        · rename_i hh
          simp only [Option.some.injEq] at e
          exact ⟨k, .head _, Nat.eq_of_beq_eq_true hf, eqAVs_eq _ _ ha, eqHS_eq hh, e.symm⟩
        · exact tl e
      · exact tl e
    · exact tl e
theorem runM_le {M : List Known} {N : Nat} (hM : ∀ k ∈ M, ∀ n, (run P (N + n)).call k.f k.args k.h0 = some (k.v, k.hs)) : ∀ (n m : Nat), RLe (runM P M n) (run P (N + n + m))
  | 0, m => ⟨fun _ _ _ h => by simp [runM] at h, fun _ _ _ _ h => by simp [runM] at h⟩
  | n + 1, m => by
    have ih := runM_le hM n m
    have e : N + (n + 1) + m = (N + n + m) + 1 := by omega
    refine ⟨fun c st x h => ?_, fun f a h x hx => ?_⟩
    · rw [e]
      exact codeF_mono ih h
    · simp only [runM] at hx
      split at hx
      · rename_i y hy
        simp only [Option.some.injEq] at hx; subst hx
        obtain ⟨k, hk, rfl, rfl, rfl, rfl⟩ := seek_mem hy
        rw [Nat.add_assoc]
        exact hM k hk _
      · rw [e]; exact callF_mono ih hx
/-- A run that leans on known calls. -/
theorem known_ev {M : List Known} (hM : Knows P M) (n : Nat) {f : FuncId} {a : List AV} {h0 : HS} {v : AV} {hs : HS} (h : (runM P M n).call f a h0 = some (v, hs)) : EvC P f a h0 v hs := by
  obtain ⟨N, hM⟩ := hM
  exact ⟨N + n, fun m => (runM_le hM n m).call _ _ _ _ h⟩
end Go.Vm

end
