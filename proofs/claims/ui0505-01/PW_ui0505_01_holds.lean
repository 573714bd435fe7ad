import PyProof.Rows.All
import Wide.All
import OpenK.AllK
import Wide.FinOn
import PySem.Challenge.RW_ui0505_01
set_option Elab.async false
set_option maxRecDepth 100000
set_option maxHeartbeats 8000000
section
open PySem
namespace Mine
/-- a yield whose closing nobody would see -/
def tame (s : Shared) (t : Thread) : Bool := match t.cur with
  | .yield _ g _ _ => (match splitAtGen t.stack with
    | some (fs, _, _) => !closingShows s fs t.code g
    | none => false)
  | _ => true
def okL (s : Shared) (t : Thread) : Bool := (!t.atCollectorCode || t.atExit) && !t.refused && tame s t
section
variable (den : Code → Sem Fin) (prog : Program) (w : World)
def stepL (s : Shared) (t : Thread) : Step := if okL s t = true then stepK den prog w s t else .halt (.stuck "not so") s
theorem okL_calm {s : Shared} {t : Thread} (h : okL s t = true) : t.calm = true ∨ ∃ v g l k, t.cur = .yield v g l k := by
  obtain ⟨cur, code, pos, stack⟩ := t
  simp only [okL, Bool.and_eq_true] at h
  cases cur with
  | yield v g l k => exact .inr ⟨v, g, l, k, rfl⟩
  | _ =>
    left
    rw [Thread.calm_eq]
    simp_all [Thread.loud, Thread.yieldsInsideHandler, Thread.refused]
theorem stepL_of_I {s : Shared} {t : Thread} {s' : Shared} {t' : Thread} (h : stepI den prog w s t = .go s' t') : stepL den prog w s t = .go s' t' := by
  cases hl : t.loud with
  | true => rw [stepI_loud den prog w hl] at h; cases h
  | false =>
    rw [stepI_quiet den prog w hl] at h
    have hr : t.refused = false := by
      cases hr : t.refused with
      | false => rfl
      | true => obtain ⟨what, e⟩ := stepK_refused den prog w (s := s) hr; rw [e] at h; cases h
    have ht : tame s t = true := by
      obtain ⟨cur, code, pos, stack⟩ := t
      cases cur with
      | yield v g l k =>
        simp only [tame]
        cases hs : splitAtGen stack with
        | none => simp only [stepK, step, hs] at h; cases h
        | some x =>
          obtain ⟨fs, b, rest⟩ := x
          rw [Thread.loud_yield v g l k code pos hs] at hl
          simp only [Bool.or_eq_false_iff] at hl
          simp [closingShows, hl.1, hl.2]
      | _ => rfl
    have ho : okL s t = true := by
      simp only [okL, hr, ht, Bool.not_false, Bool.and_true]
      simp only [Thread.loud, Bool.or_eq_false_iff] at hl
      cases h1 : t.atCollectorCode <;> cases h2 : t.atExit <;> simp_all
    rw [stepL, if_pos ho]; exact h
theorem okL_forget {s s₁ : Shared} {t t₁ : Thread} (hs : s₁.forget = s.forget) (ht : t₁.forget = t.forget) : okL s₁ t₁ = okL s t := by
  obtain ⟨cur, code, pos, stack⟩ := t
  obtain ⟨cur₁, code₁, pos₁, stack₁⟩ := t₁
  simp only [Thread.forget, Thread.mk.injEq] at ht
  obtain ⟨rfl, rfl, rfl, hst⟩ := ht
  have hh := (Shared.forget_eq hs).1
  have hsh : ∀ fs fs₁ : List Frame, forgetAll fs₁ = forgetAll fs → ∀ c g, closingShows s₁ fs₁ c g = closingShows s fs c g := by
    intro fs fs₁ hf c g
    have h1 : fs₁.any Frame.guarded = fs.any Frame.guarded := by rw [← any_guarded_forgetAll fs₁, hf, any_guarded_forgetAll]
    have h2 : ∀ v, delegateShows s₁ v = delegateShows s v := by
      intro v; unfold delegateShows; rw [hh]
    simp only [closingShows, h1, h2]
  have h3 : tame s₁ ⟨cur₁, code₁, pos₁, stack₁⟩ = tame s ⟨cur₁, code₁, pos₁, stack⟩ := by
    cases cur₁ with
    | yield v g l k =>
      simp only [tame]
      have e := congrArg splitAtGen hst
      rw [splitAtGen_forgetAll, splitAtGen_forgetAll] at e
      cases h1 : splitAtGen stack₁ with
      | none =>
        cases h2 : splitAtGen stack with
        | none => rfl
        | some y => rw [h1, h2] at e; cases e
      | some x =>
        cases h2 : splitAtGen stack with
        | none => rw [h1, h2] at e; cases e
        | some y =>
          rw [h1, h2] at e
          obtain ⟨fs, b, r⟩ := x
          obtain ⟨fs', b', r'⟩ := y
          simp only [Option.map_some, Option.some.injEq, Prod.mk.injEq] at e
          simp only [hsh fs' fs e.1]
    | _ => rfl
  simp only [okL, h3]
  rfl
theorem sstep_L {s : Shared} {t : Thread} {s' : Shared} {t' : Thread} (hr : s.asleep) (ho : okL s t = true) (h : step den prog w s t = .go s' t') :
    sstep den prog w (.single s t) = .go (.single s' t') := by
  rcases okL_calm ho with hc | ⟨v, g, l, k, hy⟩
  · rcases sstep_single den prog w s t hc hr with e | e
    · rw [e, h]; rfl
    · rw [e] at h; cases h
  · obtain ⟨cur, code, pos, stack⟩ := t
    subst hy
    obtain ⟨hreg, hcnt⟩ := hr
    simp only [okL, Bool.and_eq_true, tame] at ho
    have ht := ho.2
    cases hs : splitAtGen stack with
    | none => rw [hs] at ht; cases ht
    | some x =>
      obtain ⟨fs, b, rest⟩ := x
      rw [hs] at ht
      simp only [Bool.not_eq_true'] at ht
      have hw : s.watching = false := by simp [Shared.watching, hreg]
      have hlife : ∀ others, lifeStep den prog w others s ⟨.yield v g l k, code, pos, stack⟩ = .go s' t' := by
        intro others
        have hct : collectorTurn? w.params others s ⟨.yield v g l k, code, pos, stack⟩ = none := by simp [collectorTurn?]
        unfold lifeStep
        rw [hct]
        simp only [hs, ht, Bool.false_eq_true, if_false, Bool.false_and]
        have hend : Thread.atItsEnd ⟨.yield v g l k, code, pos, stack⟩ = false := rfl
        simp only [hend, Bool.false_eq_true, if_false]
        unfold stepCounting
        simp only [hcnt, Bool.false_and, Bool.false_eq_true, if_false]
        rw [h]
        split <;> rfl
      have hm : (Config.single s ⟨.yield v g l k, code, pos, stack⟩).moves w.params.profile = [.run 0] := by
        simp [Config.moves, Config.single, movesFrom, Thread.moves]
      have h1 : (Config.single s ⟨.yield v g l k, code, pos, stack⟩).collect? w.params = none := by
        simp [Config.collect?, Config.single, (nothing_to_collect _ _ _ s _ hreg).1]
      have h2 : (Config.single s ⟨.yield v g l k, code, pos, stack⟩).collectable = [] := by
        simp [Config.collectable, Config.single, (nothing_to_collect w.params _ _ s _ hreg).2]
      have hp : (Config.single s ⟨.yield v g l k, code, pos, stack⟩).pick w = .ok (.run 0, .single s ⟨.yield v g l k, code, pos, stack⟩) := by
        simp only [Config.pick, h1, h2, Config.pickThread, hm]
        cases w.params.lifetimes <;> simp
      simp only [sstep, hp, Config.move]
      simp only [Config.run, Config.single]
      simp [hlife, others_single, frozenBadly, ThreadState.insideWrite, Thread.finalizes]
end
end Mine
end
section
open PySem
namespace Mine
open Sem (wp)
/-- closed under a step back -/
def Back (M : Model) (G : Shared → Thread → Prop) : Prop := ∀ s t s' t', stepL M.den M.prog M.w s t = .go s' t' → G s' t' → G s t
section
variable {M : Model} {G : Shared → Thread → Prop}
theorem Back.I (hG : Back M G) {s : Shared} {t : Thread} {s' : Shared} {t' : Thread} (h : M.step s t = .go s' t') (g : G s' t') : G s t :=
  hG s t s' t' (stepL_of_I _ _ _ h) g
theorem reach_back (hG : Back M G) {base : List Frame} {s : Shared} {t : Sem Fin} {c : Code} {p : Pos} {pre : List Frame} {s' : Shared} {e : End} (h : Reach M base s t c p pre s' e)
    (hx : ∀ t' c' p' pre', Exits e t' c' p' pre' → G s' ⟨t', c', p', pre' ++ base⟩) : G s ⟨t, c, p, pre ++ base⟩ := by
  induction h with
  | exit he => exact hx _ _ _ _ he
  | step hs _ ih => exact hG.I hs (ih hx)
theorem wakes_back (hG : Back M G) {Γ : Ctx} {st : List Frame} (hf : Γ.Fits st) {p : Pos} {g : Nat} {r : Resume} {l : List Value} {k : GenResult → Sem Fin} {s : Shared} {res : GenResult} {s₁ : Shared} (hw : Wakes M Γ p g r s res s₁)
    (h : G s₁ ⟨k res, Γ.code, p, st⟩) : G s ⟨.resume g r l k, Γ.code, p, st⟩ := by
  unfold Wakes at hw
  cases hg : s.gens[g]? with
  | none => simp only [hg] at hw
  | some gs =>
    simp only [hg] at hw
    cases gs with
    | fresh c =>
      cases r with
      | send v =>
        by_cases hv : v = .none
        · subst hv
          obtain ⟨e₁, s₂, hr, hq, rfl, rfl⟩ := hw
          refine hG.I (step_resume_fresh _ _ _ _ _ _ _ hg) ?_
          have hre := runs_reach hr (.gen g k l Γ.code p :: st) (hf.wake c g k l p)
          exact reach_back hG (pre := []) hre fun t' c' p' pre' hx => hG.I (step_exit_gen _ _ _ _ _ _ _ hx hq) h
        · have : res = .justStarted ∧ s₁ = s := by cases v <;> first | exact absurd rfl hv | exact hw
          obtain ⟨rfl, rfl⟩ := this
          exact hG.I (step_resume_justStarted _ _ _ _ _ _ _ hg hv) h
      | throw x => obtain ⟨rfl, rfl⟩ := hw; exact hG.I (step_resume_throwFresh _ _ _ _ _ _ _ _ hg) h
    | suspended k₀ l₀ c₀ p₀ fs cl =>
      obtain ⟨e₁, s₂, hr, hq, rfl, rfl⟩ := hw
      refine hG.I (step_resume_suspended _ _ _ _ _ _ _ _ hg) ?_
      have hre := runs_reach hr (.gen g k l Γ.code p :: st) (hf.wake c₀ g k l p)
      exact reach_back hG hre fun t' c' p' pre' hx => hG.I (step_exit_gen _ _ _ _ _ _ _ hx hq) h
    | running => obtain ⟨rfl, rfl⟩ := hw; exact hG.I (step_resume_running _ _ _ _ _ _ _ _ hg) h
    | finished => obtain ⟨rfl, rfl⟩ := hw; exact hG.I (step_resume_finished _ _ _ _ _ _ _ _ hg) h
theorem back_wp (hG : Back M G) {α : Type} {Γ : Ctx} {st : List Frame} (hf : Γ.Fits st) (K : α → Sem Fin) (H : Value → Sem Fin) (gd : Bool → Bool) (lv : List Value → List Value) (m : Sem α) :
    ∀ {Q : α → Pos → Shared → Prop} {E : Value → Pos → Shared → Prop} {p : Pos} {s : Shared}, wp M Γ m Q E p s →
      (∀ a p' s', Q a p' s' → G s' ⟨K a, Γ.code, p', st⟩) → (∀ x p' s', E x p' s' → G s' ⟨H x, Γ.code, p', st⟩) →
      G s ⟨m.wrap K H gd lv, Γ.code, p, st⟩ := by
  induction m with
  | pure a => intro Q E p s h hQ _; exact hQ a p s h
  | raise x => intro Q E p s h _ hE; exact hE x p s h
  | unsupported | finish | register | yield | fork | await => intro Q E p s h; exact h.elim
  | rule tag k ih => intro Q E p s h hQ hE; exact hG.I (step_rule ..) (ih () h hQ hE)
  | «at» p' k ih => intro Q E p s h hQ hE; exact hG.I (step_at ..) (ih () h hQ hE)
  | load a part k ih => intro Q E p s h hQ hE; obtain ⟨o, ho, h⟩ := h; exact hG.I (step_load _ _ _ _ _ _ _ ho) (ih o h hQ hE)
  | update a part f k ih => intro Q E p s h hQ hE; obtain ⟨ha, h⟩ := h; exact hG.I (step_update _ _ _ _ _ _ _ _ ha) (ih () h hQ hE)
  | alloc o k ih => intro Q E p s h hQ hE; exact hG.I (step_alloc ..) (ih _ h hQ hE)
  | loadIfAlive a k ih => intro Q E p s h hQ hE; exact hG.I (step_loadIfAlive ..) (ih _ h hQ hE)
  | point l k ih => intro Q E p s h hQ hE; exact hG.I (step_point ..) (ih () h hQ hE)
  | fresh k ih => intro Q E p s h hQ hE; exact hG.I (step_fresh ..) (ih _ h hQ hE)
  | ask k ih => intro Q E p s h hQ hE; exact hG.I (step_ask ..) (ih _ h hQ hE)
  | choose src n k ih => intro Q E p s h hQ hE; obtain ⟨hn, h⟩ := h; exact hG.I (step_choose _ _ _ _ _ _ _ hn) (ih _ h hQ hE)
  | os q l k ih => intro Q E p s h hQ hE; exact hG.I (step_os ..) (ih _ h hQ hE)
  | call c h g l k ih =>
    intro Q E p s hw hQ hE
    obtain ⟨r, s₁, hret, hw⟩ := hw
    refine hG.I (step_call ..) ?_
    have hre := runs_reach hret (.ret (fun x => (k x).wrap K H gd lv) h (gd g) (lv l) Γ.code p [] :: st) (hf.enter c _ h (gd g) (lv l) p [])
    refine reach_back hG (pre := []) hre fun t' c' p' pre' hx => ?_
    obtain ⟨rfl, rfl⟩ := hx
    exact hG.I (step_leaf_ret ..) (ih r hw hQ hE)
  | handled own k ih =>
    intro Q E p s h hQ hE
    refine hG.I (step_handled ..) ?_
    have e : topHandled (if own = true then ownFrames st else st) = if own = true then Γ.own else Γ.handled := by
      cases own
      · exact hf.handled.symm
      · exact hf.own.symm
    rw [e]; exact ih _ h hQ hE
  | newGen c k ih => intro Q E p s h hQ hE; exact hG.I (step_newGen ..) (ih _ h hQ hE)
  | genState g k ih => intro Q E p s h hQ hE; obtain ⟨x, hg, h⟩ := h; exact hG.I (step_genState _ _ _ _ _ _ hg) (ih _ h hQ hE)
  | resume g r l k ih => intro Q E p s h hQ hE; obtain ⟨res, s₁, hwk, h⟩ := h; exact wakes_back hG hf hwk (ih res h hQ hE)
  | stack k ih =>
    intro Q E p s h hQ hE
    refine hG.I (step_stack ..) ?_
    rw [← hf.below]; exact ih _ h hQ hE
  | thread k ih => intro Q E p s h hQ hE; exact hG.I (step_thread ..) (ih _ h hQ hE)
end
/-- nobody would see the closing of what is left -/
def stays (s : Shared) : Bool := s.gens.any fun
  | .suspended _ _ c _ fs true => closingShows s fs c true
  | _ => false
section
variable (den : Code → Sem Fin) (prog : Program) (w : World)
inductive Ends (Post : Value → Shared → Prop) : Shared → Thread → Prop
  | done {s : Shared} {v : Value} {c : Code} {p : Pos} : Post v s → stays s = false → Ends Post s ⟨.pure (.done (.ret v)), c, p, []⟩
  | step {s : Shared} {t : Thread} {s' : Shared} {t' : Thread} : stepL den prog w s t = .go s' t' → Ends Post s' t' → Ends Post s t
theorem left_none (all : Bool) (s : Shared) (h : stays s = false) : leftWithCleanup (forgetSuspended all s).gens = false := by
  unfold leftWithCleanup forgetSuspended
  rw [Array.any_eq_false']
  intro x hx
  simp only [Array.mem_map] at hx
  obtain ⟨g, hg, rfl⟩ := hx
  unfold stays at h
  rw [Array.any_eq_false'] at h
  have hh := h g hg
  cases g with
  | suspended k l c p fs cl =>
    cases cl with
    | false => simp
    | true =>
      simp only [Bool.not_eq_true] at hh
      simp [hh]
  | _ => simp
theorem stays_forget {s s₁ : Shared} (hs : s₁.forget = s.forget) : stays s₁ = stays s := by
  have hh := (Shared.forget_eq hs).1
  have hg := (Shared.forget_eq hs).2.2.2.2
  have key : ∀ s : Shared, stays s = (s.gens.map GenState.forget).any fun
      | .suspended _ _ c _ fs true => closingShows s fs c true
      | _ => false := by
    intro s
    unfold stays
    rw [Array.any_map]
    congr 1
    funext g
    cases g with
    | suspended k l c p fs cl =>
      cases cl with
      | false => rfl
      | true => simp [closingShows]
    | _ => rfl
  rw [key s₁, key s, hg]
  congr 1
  funext g
  cases g with
  | suspended k l c p fs cl =>
    cases cl with
    | false => rfl
    | true =>
      have h2 : ∀ v, delegateShows s₁ v = delegateShows s v := by
        intro v; unfold delegateShows; rw [hh]
      simp only [closingShows, h2]
  | _ => rfl
theorem ends_sched {Post : Value → Shared → Prop} {s : Shared} {t : Thread} (h : Ends den prog w Post s t) :
    ∀ s₁ t₁, s₁.forget = s.forget → t₁.forget = t.forget → s₁.asleep → ∃ n v s' s₂, schedN den prog w n (.single s₁ t₁) = .halted (.done (.ret v)) s' ∧ Post v s₂ ∧ s'.heap = s₂.heap ∧ s'.os = s₂.os ∧ s'.heap.life = s₁.heap.life := by
  induction h with
  | @done s v c p hp hst =>
    intro s₁ t₁ hs ht hz
    obtain ⟨cur, code, pos, stack⟩ := t₁
    simp only [Thread.forget, Thread.mk.injEq] at ht
    obtain ⟨rfl, rfl, rfl, hk⟩ := ht
    cases stack with
    | cons f fs => cases hk
    | nil =>
    have hcalm : Thread.calm ⟨.pure (.done (.ret v)), code, pos, []⟩ = true := by rfl
    have hlife : ∀ others, lifeStep den prog w others s₁ ⟨.pure (.done (.ret v)), code, pos, []⟩ = .halt (.done (.ret v)) (forgetSuspended (w.params.lifetimes == .anyTime) s₁) := by
      intro others
      rw [lifeStep_calm0 den prog w others s₁ _ hcalm hz]
      show finish _ (forgetSuspended _ s₁) = _
      unfold finish
      rw [left_none _ s₁ ((stays_forget hs).trans hst)]
      rfl
    refine ⟨1, v, forgetSuspended (w.params.lifetimes == .anyTime) s₁, s, ?_, hp, ?_, ?_, ?_⟩
    · simp only [schedN, sstep, pick_single w s₁ _ hcalm hz.1, Config.move]
      simp only [Config.run, Config.single]
      simp [hlife, others_single, frozenBadly, ThreadState.insideWrite, Thread.finalizes]
    · exact (Shared.forget_eq hs).1
    · exact (Shared.forget_eq hs).2.2.2.1
    · rfl
  | @step s t s' t' hst _ ih =>
    intro s₁ t₁ hs ht hz
    have ho : okL s t = true := by
      cases ho : okL s t with
      | true => rfl
      | false => rw [stepL, if_neg (by rw [ho]; exact Bool.false_ne_true)] at hst; cases hst
    rw [stepL, if_pos ho] at hst
    have e := (stepK_forget den prog w s t).symm.trans (congrArg Step.forget hst)
    have e' := (step_same den prog w hs ht).trans e
    cases hr : step den prog w s₁ t₁ with
    | halt o x => rw [hr] at e'; cases e'
    | go s₂ t₂ =>
      rw [hr] at e'
      simp only [Step.forget] at e'
      injection e' with e1 e2
      have hz2 : s₂.asleep := by simp only [Shared.asleep, step_life den prog w s₁ s₂ t₁ t₂ hr]; exact hz
      obtain ⟨n, v, s'', s₃, hn, a, b, c, d⟩ := ih s₂ t₂ e1 e2 hz2
      refine ⟨n + 1, v, s'', s₃, ?_, a, b, c, d.trans (step_life den prog w s₁ s₂ t₁ t₂ hr)⟩
      simp only [schedN, sstep_L den prog w hz ((okL_forget hs ht).trans ho) hr]
      exact hn
end
theorem ends_back (prog : Program) (w : World) (Post : Value → Shared → Prop) : Back (model prog w) (Ends (denote table) prog w Post) := fun _ _ _ _ h g => .step h g
end Mine
end
section
open PySem
namespace Mine
open Sem (wp)
section
variable {α β : Type} {M : Model} {G : Shared → Thread → Prop} {A : Around} {E : Value → Shared → Prop} {s : Shared}
def wpL {α : Type} (G : Shared → Thread → Prop) (A : Around) (m : Sem α) (Q : α → Shared → Prop) (E : Value → Shared → Prop) (s : Shared) : Prop :=
  ∀ (Γ : Ctx) (p : Pos) (st : List Frame), Γ.In A → Γ.Fits st → ∀ (K : α → Sem Fin) (H : Value → Sem Fin) (gd : Bool → Bool) (lv : List Value → List Value),
    (∀ a p' s', Q a s' → G s' ⟨K a, Γ.code, p', st⟩) → (∀ x p' s', E x s' → G s' ⟨H x, Γ.code, p', st⟩) → G s ⟨m.wrap K H gd lv, Γ.code, p, st⟩
def codeL (M : Model) (G : Shared → Thread → Prop) (A : Around) (c : Code) (R : Result → Shared → Prop) (s : Shared) : Prop :=
  ∀ (Γ : Ctx) (p : Pos) (st : List Frame), Γ.code = c → Γ.Below A → Γ.Fits st → (∀ r c' p' s', R r s' → G s' ⟨leafOf r, c', p', st⟩) → G s ⟨M.den c, c, p, st⟩
theorem wpL_of (hG : Back M G) {m : Sem α} {Q : α → Shared → Prop} (h : wpAny M A m Q E s) : wpL G A m Q E s :=
  fun Γ p _ hΓ hf K H gd lv hQ hE => back_wp hG hf K H gd lv m (h Γ p hΓ) hQ hE
theorem wpL_pure {a : α} {Q : α → Shared → Prop} (h : Q a s) : wpL G A (pure a) Q E s := fun _ p _ _ _ _ _ _ _ hQ _ => hQ a p s h
theorem wpL_mono {m : Sem α} {Q Q' : α → Shared → Prop} {E' : Value → Shared → Prop} (h : wpL G A m Q E s) (hQ : ∀ a s', Q a s' → Q' a s') (hE : ∀ e s', E e s' → E' e s') : wpL G A m Q' E' s :=
  fun Γ p st hΓ hf K H gd lv kQ kE => h Γ p st hΓ hf K H gd lv (fun a p' s' q => kQ a p' s' (hQ a s' q)) fun e p' s' q => kE e p' s' (hE e s' q)
theorem wpL_bind {m : Sem α} {f : α → Sem β} {Q : β → Shared → Prop} (h : wpL G A m (fun a s' => wpL G A (f a) Q E s') E s) : wpL G A (m >>= f) Q E s := by
  intro Γ p st hΓ hf K H gd lv kQ kE
  rw [Sem.bind_eq_wrap', Sem.wrap_wrap]
  exact h Γ p st hΓ hf _ _ _ _ (fun a p' s' q => q Γ p' st hΓ hf K H gd lv kQ kE) fun e p' s' q => kE e p' s' q
theorem wpL_tryCatch {m : Sem α} {f : Value → Sem α} {Q : α → Shared → Prop} (h : wpL G A m Q (fun e s' => wpL G A (f e) Q E s') s) : wpL G A (m.tryCatch f) Q E s := by
  intro Γ p st hΓ hf K H gd lv kQ kE
  rw [Sem.tryCatch_eq_wrap, Sem.wrap_wrap]
  exact h Γ p st hΓ hf _ _ _ _ (fun a p' s' q => kQ a p' s' q) fun e p' s' q => q Γ p' st hΓ hf K H gd lv kQ kE
theorem wpL_onRaise {m : Sem α} {f : Value → Sem Unit} {Q : α → Shared → Prop} (h : wpL G A m Q (fun e s' => wpL G A (f e) (fun _ s'' => E e s'') E s') s) : wpL G A (m.onRaise f) Q E s := by
  intro Γ p st hΓ hf K H gd lv kQ kE
  rw [Sem.onRaise_eq_wrap, Sem.wrap_wrap]
  refine h Γ p st hΓ hf _ _ _ _ (fun a p' s' q => kQ a p' s' q) fun e p' s' q => ?_
  rw [Sem.bind_eq_wrap, Sem.wrap_wrap]
  exact q Γ p' st hΓ hf _ _ _ _ (fun _ p'' s'' q' => kE e p'' s'' q') fun e' p'' s'' q' => kE e' p'' s'' q'
theorem wpL_keep {vs : List Value} {m : Sem α} {Q : α → Shared → Prop} (h : wpL G A m Q E s) : wpL G A (m.keep vs) Q E s := by
  intro Γ p st hΓ hf K H gd lv kQ kE
  rw [Sem.keep_eq_wrap, Sem.wrap_wrap]
  exact h Γ p st hΓ hf _ _ _ _ (fun a p' s' q => kQ a p' s' q) fun e p' s' q => kE e p' s' q
theorem wpL_holding {vs : List Value} {m : Sem α} {Q : α → Shared → Prop} (h : wpL G A m Q E s) : wpL G A (holding vs m) Q E s := by
  rw [holding_eq_keep]; exact wpL_keep h
theorem wpL_attempt {m : Sem α} {Q : Except Value α → Shared → Prop} (h : wpL G A m (fun a s' => Q (.ok a) s') (fun e s' => Q (.error e) s') s) : wpL G A m.attempt Q E s := by
  unfold Sem.attempt
  exact wpL_tryCatch (wpL_bind (wpL_mono h (fun a s' q => wpL_pure q) fun e s' q => wpL_pure q))
theorem wpL_callT (hG : Back M G) {c : Code} {hd : Option Value} {g : Bool} {l : List Value} {k : Result → Sem α} {Q : α → Shared → Prop} (hnb : hd ≠ some byPass)
    (h : codeL M G (A.mark hd) c (fun r s' => wpL G A (k r) Q E s') s) : wpL G A (.call c hd g l k) Q E s := by
  intro Γ p st hΓ hf K H gd lv kQ kE
  refine hG.I (step_call ..) ?_
  refine h (Γ.enter c hd p) p (.ret (fun x => (k x).wrap K H gd lv) hd (gd g) (lv l) Γ.code p [] :: st) rfl (hΓ.enter c hd p hnb) (hf.enter c _ hd (gd g) (lv l) p []) fun r c' p' s' hR => ?_
  exact hG.I (step_leaf_ret ..) (hR Γ p st hΓ hf K H gd lv kQ kE)
theorem codeL_of (hG : Back M G) {c : Code} {R : Result → Shared → Prop} (h : codeAny M A c R s) : codeL M G A c R s := by
  intro Γ p st hc hΓ hf kR
  obtain ⟨r, s₁, hret, hR⟩ := h Γ p hc hΓ
  subst hc
  refine reach_back hG (pre := []) (runs_reach hret st hf) fun t' c' p' pre' hx => ?_
  obtain ⟨rfl, rfl⟩ := hx
  exact kR r c' p' s₁ hR
theorem wrap_id (m : Sem α) : m.wrap .pure .raise id id = m := by
  induction m <;> simp only [Sem.wrap, id, *]
theorem codeL_tree (hG : Back M G) {c : Code} {R : Result → Shared → Prop} (h : wpL G (A.under c) (M.den c) (fun fin s' => match fin with | .done f => R (.ok f) s' | .again c' => c'.quiet = true ∧ codeL M G A c' R s') (fun e s' => R (.error e) s') s) : codeL M G A c R s := by
  intro Γ p st hc hΓ hf kR
  subst hc
  have e := wrap_id (M.den Γ.code)
  rw [← e]
  refine h Γ p st hΓ.in hf .pure .raise id id (fun fin p' s' q => ?_) fun e p' s' q => kR (.error e) _ _ _ q
  cases fin with
  | done f => exact kR (.ok f) _ _ _ q
  | again c' => exact hG.I (step_again _ _ _ _ _ _ q.1) (q.2 (Γ.goto c') p' st rfl (hΓ.goto c') (hf.goto c') kR)
theorem wpL_run (hG : Back M G) {c : Code} {hd : Option Value} {Q : Flow → Shared → Prop} (hnb : hd ≠ some byPass) (h : codeL M G (A.mark hd) c (fun r s' => match r with | .ok f => Q f s' | .error e => E e s') s) : wpL G A (run c hd) Q E s := by
  have key : wpL G A (.call c hd false [] fun r => match r with | .ok f => (.pure f : Sem Flow) | .error e => .raise e) Q E s := by
    refine wpL_callT hG hnb ?_
    intro Γ p st hc hΓ hf kR
    refine h Γ p st hc hΓ hf fun r c' p' s' q => kR r c' p' s' ?_
    cases r with
    | ok f => exact wpL_pure q
    | error e => exact fun _ p _ _ _ _ _ _ _ _ hE => hE e p _ q
  exact key
theorem wpL_runValue (hG : Back M G) {c : Code} {Q : Value → Shared → Prop} (h : codeL M G A c (fun r s' => match r with | .ok (.ret v) => Q v s' | .ok _ => False | .error e => E e s') s) : wpL G A (runValue c) Q E s := by
  unfold runValue
  refine wpL_bind (wpL_run hG (by intro x; cases x) ?_)
  intro Γ p st hc hΓ hf kR
  refine h Γ p st hc hΓ hf fun r c' p' s' q => kR r c' p' s' ?_
  cases r with
  | error e => exact q
  | ok f =>
    cases f with
    | ret v => exact wpL_pure q
    | _ => exact q.elim
theorem wpL_call (hG : Back M G) {f : Value} {pos : List Value} {kw : List (Str × Value)} {Q : Value → Shared → Prop}
    (h : codeL M G A (.call f ⟨pos, kw⟩) (fun r s' => match r with | .ok (.ret v) => Q v s' | .ok _ => False | .error e => E e s') s) : wpL G A (call f pos kw) Q E s := wpL_runValue hG h
/-- a generator that sleeps: what it does when it is woken, at any stack -/
def Wake (G : Shared → Thread → Prop) (A : Around) (g : Nat) (s : Shared) (P : GenResult → Shared → Prop) : Prop :=
  ∀ (Γ : Ctx) (p : Pos) (st : List Frame), Γ.In A → Γ.Fits st → ∀ (l : List Value) (k : GenResult → Sem Fin), (∀ r s', P r s' → G s' ⟨k r, Γ.code, p, st⟩) → G s ⟨.resume g (.send .none) l k, Γ.code, p, st⟩
theorem wpL_resume {g : Nat} {l : List Value} {k : GenResult → Sem α} {Q : α → Shared → Prop} {P : GenResult → Shared → Prop} (h : Wake G A g s P) (hP : ∀ r s', P r s' → wpL G A (k r) Q E s') : wpL G A (.resume g (.send .none) l k) Q E s := by
  intro Γ p st hΓ hf K H gd lv kQ kE
  exact h Γ p st hΓ hf (lv l) (fun x => (k x).wrap K H gd lv) fun r s' hr => hP r s' hr Γ p st hΓ hf K H gd lv kQ kE
end
/-- a generator's own trees, above the frame that woke it -/
def SegL (G : Shared → Thread → Prop) (A : Around) (base : List Frame) (c : Code) (t : Sem Fin) (fs : List Frame) (s : Shared) : Prop :=
  ∀ (Γ : Ctx) (p : Pos), Γ.code = c → Γ.Woken A → Γ.Fits base → G s ⟨t, c, p, fs ++ base⟩
section
variable {α : Type} {M : Model} {G : Shared → Thread → Prop} {A : Around} {base : List Frame} {c : Code} {fs : List Frame} {s : Shared}
theorem segL_wrapL {m : Sem α} {K : α → Sem Fin} {H : Value → Sem Fin} {gd : Bool → Bool} {lv : List Value → List Value}
    (h : wpL G (A.over c fs) m (fun a s' => SegL G A base c (K a) fs s') (fun x s' => SegL G A base c (H x) fs s') s) : SegL G A base c (m.wrap K H gd lv) fs s := by
  intro Γ p hc hΓ hf
  subst hc
  exact h (Γ.over fs) p (fs ++ base) (hΓ.over fs) (hf.over fs) K H gd lv (fun a p' s' q => q Γ p' rfl hΓ hf) fun x p' s' q => q Γ p' rfl hΓ hf
theorem segL_wrap (hG : Back M G) {m : Sem α} {K : α → Sem Fin} {H : Value → Sem Fin} {gd : Bool → Bool} {lv : List Value → List Value}
    (h : wpAny M (A.over c fs) m (fun a s' => SegL G A base c (K a) fs s') (fun x s' => SegL G A base c (H x) fs s') s) : SegL G A base c (m.wrap K H gd lv) fs s := segL_wrapL (wpL_of hG h)
theorem segL_bind (hG : Back M G) {m : Sem α} {K : α → Sem Fin} (h : wpAny M (A.over c fs) m (fun a s' => SegL G A base c (K a) fs s') (fun x s' => SegL G A base c (.raise x) fs s') s) : SegL G A base c (m >>= K) fs s := by
  rw [Sem.bind_eq_wrap']; exact segL_wrap hG h
theorem segL_at (hG : Back M G) {p' : Pos} {k : Unit → Sem Fin} (h : SegL G A base c (k ()) fs s) : SegL G A base c (.at p' k) fs s :=
  fun Γ _ hc hΓ hf => hG.I (step_at ..) (h Γ p' hc hΓ hf)
theorem segL_point (hG : Back M G) {l : List Value} {k : Unit → Sem Fin} (h : SegL G A base c (k ()) fs s) : SegL G A base c (.point l k) fs s :=
  fun Γ p hc hΓ hf => hG.I (step_point ..) (h Γ p hc hΓ hf)
theorem segL_rule (hG : Back M G) {tag : String} {k : Unit → Sem Fin} (h : SegL G A base c (k ()) fs s) : SegL G A base c (.rule tag k) fs s :=
  fun Γ p hc hΓ hf => hG.I (step_rule ..) (h Γ p hc hΓ hf)
theorem segL_call (hG : Back M G) {c' : Code} {hd : Option Value} {g : Bool} {l : List Value} {k : Result → Sem Fin} (h : ∀ p, SegL G A base c' (M.den c') (.ret k hd g l c p [] :: fs) s) : SegL G A base c (.call c' hd g l k) fs s :=
  fun Γ p hc hΓ hf => by subst hc; exact hG.I (step_call ..) (h p (Γ.goto c') p rfl (hΓ.goto c') (hf.goto c'))
theorem segL_leaf (hG : Back M G) {k : Result → Sem Fin} {hd : Option Value} {g : Bool} {l : List Value} {c₁ : Code} {p₁ : Pos} {kp : List Value} (r : Result) (h : SegL G A base c₁ (k r) fs s) : SegL G A base c (leafOf r) (.ret k hd g l c₁ p₁ kp :: fs) s :=
  fun Γ _ _ hΓ hf => hG.I (step_leaf_ret ..) (h (Γ.goto c₁) p₁ rfl (hΓ.goto c₁) (hf.goto c₁))
theorem segL_again (hG : Back M G) {c' : Code} (hq : c'.quiet = true) (h : SegL G A base c' (M.den c') fs s) : SegL G A base c (.pure (.again c')) fs s :=
  fun Γ p _ hΓ hf => hG.I (step_again _ _ _ _ _ _ hq) (h (Γ.goto c') p rfl (hΓ.goto c') (hf.goto c'))
theorem segL_end (hG : Back M G) {g : Nat} {k : GenResult → Sem Fin} {l : List Value} {c₁ : Code} {p₁ : Pos} {st : List Frame} (r : Result) (h : G (s.setGen g .finished) ⟨k (End.ret r).result, c₁, p₁, st⟩) : SegL G A (.gen g k l c₁ p₁ :: st) c (leafOf r) [] s :=
  fun _ _ _ _ _ => hG.I (step_leaf_gen ..) h
theorem segL_yield (hG : Back M G) {g : Nat} {k : GenResult → Sem Fin} {l l₀ : List Value} {c₁ : Code} {p₁ : Pos} {st : List Frame} {v : Value} {g₀ : Bool} {k₀ : Resume → Sem Fin} (hfs : splitAtGen fs = none) (hcl : closingShows s fs c g₀ = false)
    (h : ∀ p, G (s.setGen g (.suspended k₀ l₀ c p fs (g₀ || fs.any Frame.guarded))) ⟨k (.yielded v), c₁, p₁, st⟩) : SegL G A (.gen g k l c₁ p₁ :: st) c (.yield v g₀ l₀ k₀) fs s := by
  intro Γ p hc _ _
  have hsp : splitAtGen (fs ++ .gen g k l c₁ p₁ :: st) = some (fs, (g, k, c₁, p₁), st) := by
    rw [splitAtGen_append_none _ hfs, splitAtGen_gen]; simp
  refine hG _ _ _ _ ?_ (h p)
  have ho : okL s ⟨.yield v g₀ l₀ k₀, c, p, fs ++ .gen g k l c₁ p₁ :: st⟩ = true := by
    simp [okL, tame, hsp, hcl, Thread.refused, Thread.atCollectorCode]
  rw [stepL, if_pos ho]
  simp only [stepK, step, hsp]
  rfl
end
end Mine
end
section
open PySem
namespace Mine
section
variable {prog : Program} {w : World} {G : Shared → Thread → Prop} {A : Around} {E : Value → Shared → Prop} {s : Shared} {R : Result → Shared → Prop}
theorem codeL_builtin (hG : Back (model prog w) G) {id : String} {args : Args} {b : Builtin} (hb : entryFor table id = some b)
    (h : wpL G (A.under (.builtin id args)) (b args) (fun fin s' => match fin with | .done f => R (.ok f) s' | .again c' => c'.quiet = true ∧ codeL (model prog w) G A c' R s') (fun e s' => R (.error e) s') s) :
    codeL (model prog w) G A (.builtin id args) R s := by
  refine codeL_tree hG ?_
  show wpL G _ (match entryFor table id with | some b => b args | none => unsupported ((withoutEnding? id "#data").getD id)) _ _ s
  rw [hb]; exact h
theorem codeL_call_builtin (hG : Back (model prog w) G) {id : String} {args : Args} {b : Builtin} (hq : plainId id = true) (hb : entryFor table id = some b)
    (hc : wpAny (model prog w) A.in1 (checkBuiltinCall id args) (fun _ s₁ => s₁ = s) (fun e s' => R (.error e) s') s)
    (h : wpL G A.in1 (b args) (fun fin s' => match fin with | .done f => R (.ok f) s' | .again c' => c'.quiet = true ∧ codeL (model prog w) G A c' R s') (fun e s' => R (.error e) s') s) :
    codeL (model prog w) G A (.call (.builtin id) args) R s := by
  refine codeL_tree hG ?_
  show wpL G A.in1 (do checkBuiltinCall id args; again (.builtin id args)) _ _ s
  refine wpL_bind (wpL_of hG (wpAny_mono hc (fun _ s₁ e => ?_) fun _ _ x => x))
  subst e
  refine wpL_pure ⟨plainId_quiet hq args, codeL_builtin hG hb ?_⟩
  rw [Around.under_plainId hq args]; exact h
theorem wpL_callSpecial_entry (hG : Back (model prog w) G) {self : Value} {T : String} {name : Str} {id : String} {b : Builtin} {Q : Option Value → Shared → Prop} (hT : s.TypeIs self T) (hs : Slot T name id) (hb : entryFor table id = some b)
    (h : wpL G A.in1 (b ⟨[self], []⟩) (fun fin s' => ∃ v, fin = .done (.ret v) ∧ Q (some v) s') E s) (ha : argsOk id ⟨[self], []⟩) : wpL G A (callSpecial? self name) Q E s := by
  simp only [callSpecial?]
  refine wpL_bind (wpL_of hG (wpAny_specialOf hT hs.lookup ?_))
  simp only [hs.bind]
  refine wpL_holding (wpL_bind (wpL_pure (wpL_bind (wpL_mono (wpL_call hG (Q := fun v s' => Q (some v) s') (codeL_call_builtin hG hs.plain hb ?_ (wpL_mono h (fun fin s' x => ?_) fun _ _ x => x))) (fun v s' x => wpL_pure x) fun _ _ x => x))))
  · exact hs.check _ _ _ _ _ _ _ _ hT ha rfl
  · obtain ⟨v, rfl, hv⟩ := x; exact hv
end
/-- the generator's object, whether or not one has slept over it -/
def GenAt (o : Obj) (g : Nat) : Prop := o.cls = .type "generator" ∧ (∃ nm qn, o.data = .fields #[.int g 0, nm, qn]) ∧ (o.slots = #[] ∨ o.slots = #[some (rawInt 0)])
/-- what lies behind a StopIteration that a generator's end makes -/
def StopAt (h : Heap) (e : Addr) : Prop := ∃ (o : Obj) (vs : Array Value), h.get? e = some o ∧ o.cls = .type "StopIteration" ∧ o.data = .fields vs ∧ vs[5]? = some .none
section
variable {prog : Program} {w : World} {G : Shared → Thread → Prop} {A : Around} {E : Value → Shared → Prop} {s : Shared}
theorem genNumber_at {a : Addr} {g : Nat} {o : Obj} {Q : Nat → Shared → Prop} (ho : s.heap.get? a = some o) (hg : GenAt o g) (h : Q g s) : wpAny (model prog w) A (Builtin.Generator.genNumber (.ref a)) Q E s := by
  obtain ⟨hc, ⟨nm, qn, hd⟩, hsl⟩ := hg
  unfold Builtin.Generator.genNumber
  refine wpAny_bind (wpAny_load ho ?_)
  rcases hsl with hsl | hsl
  · rw [hsl, hd]
    show wpAny _ A (pure ((g : Int).toNat)) Q E s
    rw [Int.toNat_natCast]; exact wpAny_pure h
  · rw [hsl, hd]
    show wpAny _ A (pure ((g : Int).toNat)) Q E s
    rw [Int.toNat_natCast]; exact wpAny_pure h
theorem genWake_L (hG : Back (model prog w) G) {a : Addr} {g : Nat} {o : Obj} {gs : GenState} {Q : Value → Shared → Prop} (hh : A.handled = none) (hl : s.heap.NoLimit) (hroom : A.depth < recursionLimit) (ho : s.heap.get? a = some o) (hg : GenAt o g)
    (hgs : s.gens[g]? = some gs) (hslp : gs.status = .fresh ∨ gs.status = .suspended)
    (hw : Wake G A g s (fun r s' => (∃ v, r = .yielded v ∧ Q v s') ∨ (r = .returned .none ∧ ∀ e h', StopAt h' e → s'.heap.objs.size ≤ e → (∀ b ob, s'.heap.get? b = some ob → h'.get? b = some ob) → s'.heap.objs.size ≤ h'.objs.size → E (.ref e) { s' with heap := h' }))) :
    wpL G A (Builtin.Generator.genWake (.ref a) (.send .none)) (fun fin s' => ∃ v, fin = .done (.ret v) ∧ Q v s') E s := by
  unfold Builtin.Generator.genWake
  refine wpL_bind (wpL_of hG (wpAny_holding (genNumber_at ho hg ?_)))
  refine wpL_bind (wpL_of hG (wpAny_genState hgs ?_))
  rcases hslp with hst | hst
  all_goals (
    rw [hst]
    refine wpL_bind (wpL_of hG (wpAny_roomToWake hl hroom ?_))
    show wpL G A (.resume g (.send .none) [] _) _ _ _
    refine wpL_resume hw fun r s' hr => ?_
    rcases hr with ⟨v, rfl, hv⟩ | ⟨rfl, he⟩
    · exact wpL_pure ⟨v, rfl, hv⟩
    · show wpL G A (newExc (.type "StopIteration") [] >>= _) _ _ _
      refine wpL_bind (wpL_of hG ?_)
      simp only [newExc, newTuple]
      refine wpAny_bind (wpAny_newObj_type ?_ (by size_fits))
      refine wpAny_bind (m := firstArgMember _ _) (wpAny_of_eq (a := Value.none) (by first | rfl | (simp only [firstArgMember]; rfl)) ?_)
      refine wpAny_newObj_type ?_ (by size_fits)
      simp only [raiseNew]
      refine wpL_of hG ?_
      refine wpAny_bind (wpAny_bind (wpAny_handled ?_))
      rw [hh]
      refine wpAny_throw ?_
      refine he _ _ ⟨_, _, Heap.get?_push_size _ rfl, rfl, rfl, by rfl⟩ ?_ (fun b ob hb => Heap.get?_push_of_some _ (Heap.get?_push_of_some _ hb)) ?_
      · simp only [Heap.size_push]; omega
      · simp only [Heap.size_push]; omega)
theorem genType {a : Addr} {g : Nat} {o : Obj} (ho : s.heap.get? a = some o) (hg : GenAt o g) : s.TypeIs (.ref a) "generator" := ⟨o, ho, hg.1⟩
/-- next of a generator -/
theorem pyNext_L (hG : Back (model prog w) G) {a : Addr} {g : Nat} {o : Obj} {gs : GenState} {Q : Option Value → Shared → Prop} (hh : A.handled = none) (hl : s.heap.NoLimit) (hroom : A.depth < recursionLimit) (ho : s.heap.get? a = some o) (hg : GenAt o g)
    (hgs : s.gens[g]? = some gs) (hslp : gs.status = .fresh ∨ gs.status = .suspended)
    (hw : Wake G A.in1 g s (fun r s' => (∃ v, r = .yielded v ∧ Q (some v) s') ∨ (r = .returned .none ∧ ∀ h', (∀ b ob, s'.heap.get? b = some ob → h'.get? b = some ob) → s'.heap.objs.size ≤ h'.objs.size → Q none { s' with heap := h' }))) :
    wpL G A (pyNext (.ref a)) Q E s := by
  unfold pyNext
  refine wpL_bind (wpL_attempt (wpL_callSpecial_entry hG (name := Str.ofString "__next__") (genType ho hg) slot_gen_next entry_gen_next ?_ (args_gen_next _)))
  show wpL G A.in1 (Builtin.Generator.genWake (.ref a) (.send .none)) _ _ s
  refine wpL_mono (genWake_L hG (E := fun e s' => wpL G A (isInstance e (.type "StopIteration") >>= fun b => if b = true then pure none else throw e) Q E s') (Q := fun v s' => Q (some v) s') (show A.in1.handled = none from hh) hl hroom ho hg hgs hslp ?_) (fun fin s' x => ?_) fun e s' x => x
  · intro Γ p st hΓ hf l k hk
    refine hw Γ p st hΓ hf l k fun r s' hr => hk r s' ?_
    rcases hr with hr | ⟨rfl, hr⟩
    · exact .inl hr
    · refine .inr ⟨rfl, fun e h' hS _ hkeep hsz => ?_⟩
      obtain ⟨o', vs, hS, hS2, _⟩ := hS
      refine wpL_of hG (wpAny_bind (wpAny_isInstance (T := "StopIteration") (b := true) ⟨_, hS, hS2⟩ isSubtype_stop ?_))
      exact wpAny_pure (hr h' hkeep hsz)
  · obtain ⟨v, rfl, hv⟩ := x
    exact ⟨v, rfl, wpL_pure hv⟩
end
end Mine
end
section
open PySem
namespace Mine
/-- one may take it that nothing is registered -/
def Lazy (G : Shared → Thread → Prop) : Prop := ∀ s t, (s.heap.life.registered = [] → G s t) → G s t
def EndsA (prog : Program) (w : World) (Post : Value → Shared → Prop) (s : Shared) (t : Thread) : Prop := s.heap.life.registered = [] → Ends (denote table) prog w Post s t
theorem stepK_life (den : Code → Sem Fin) (prog : Program) (w : World) {s : Shared} {t : Thread} {s' : Shared} {t' : Thread} (h : stepK den prog w s t = .go s' t') : s'.heap.life = s.heap.life := by
  have e := (stepK_forget den prog w s t).symm.trans (congrArg Step.forget h)
  cases hr : step den prog w s t with
  | halt o x => rw [hr] at e; cases e
  | go s₂ t₂ =>
    rw [hr] at e
    simp only [Step.forget] at e
    injection e with e1 e2
    rw [← (Shared.forget_eq e1).1]
    exact step_life den prog w s s₂ t t₂ hr
theorem endsA_back (prog : Program) (w : World) (Post : Value → Shared → Prop) : Back (model prog w) (EndsA prog w Post) := fun s t s' t' h g hr => by
  refine .step h (g ?_)
  have h2 : stepL (denote table) prog w s t = .go s' t' := h
  unfold stepL at h2
  split at h2
  · rw [stepK_life (denote table) prog w h2]; exact hr
  · cases h2
theorem endsA_lazy (prog : Program) (w : World) (Post : Value → Shared → Prop) : Lazy (EndsA prog w Post) := fun _ _ h hr => h hr hr
section
variable {α : Type} {M : Model} {G : Shared → Thread → Prop} {A : Around} {base : List Frame} {c : Code} {fs : List Frame} {s : Shared} {E : Value → Shared → Prop}
theorem wpL_lazy (hz : Lazy G) {m : Sem α} {Q : α → Shared → Prop} (h : s.heap.life.registered = [] → wpL G A m Q E s) : wpL G A m Q E s :=
  fun Γ p st hΓ hf K H gd lv kQ kE => hz _ _ fun hr => h hr Γ p st hΓ hf K H gd lv kQ kE
theorem segL_lazy (hz : Lazy G) {t : Sem Fin} (h : s.heap.life.registered = [] → SegL G A base c t fs s) : SegL G A base c t fs s :=
  fun Γ p hc hΓ hf => hz _ _ fun hr => h hr Γ p hc hΓ hf
theorem segL_bindL {m : Sem α} {K : α → Sem Fin} (h : wpL G (A.over c fs) m (fun a s' => SegL G A base c (K a) fs s') (fun x s' => SegL G A base c (.raise x) fs s') s) : SegL G A base c (m >>= K) fs s := by
  rw [Sem.bind_eq_wrap']; exact segL_wrapL h
end
/-- the code that hands on -/
def cY (it : Addr) : Code := .builtin "proto.yield_from" ⟨[.ref it, .bool false, .none], []⟩
theorem cY_quiet (it : Addr) : (cY it).quiet = true := Code.quiet_builtin _ (by decide +kernel)
theorem entry_yf : entryFor table "proto.yield_from" = some Builtin.«proto.yield_from» := entryFor_of_fast (by kernel_rfl)
/-- a generator's object with its count set -/
def slept (o : Obj) (n : Int) : Obj := { o with slots := #[some (rawInt n)] }
section
variable {prog : Program} {w : World} {G : Shared → Thread → Prop} {A : Around} {E : Value → Shared → Prop} {s : Shared}
theorem sleptOver_up {a : Addr} {g : Nat} {o : Obj} {Q : Unit → Shared → Prop} (ho : s.heap.get? a = some o) (hg : GenAt o g)
    (h : ∀ h', h'.get? a = some (slept o 1) → Heap.SameBut a s.heap h' → Q () { s with heap := h' }) : wpAny (model prog w) A (Builtin.Generator.sleptOver (.ref a) true) Q E s := by
  obtain ⟨hc, hd, hsl⟩ := hg
  unfold Builtin.Generator.sleptOver
  refine wpAny_bind (wpAny_load ho ?_)
  rw [hc]
  simp only [bne_self_eq_false, Bool.false_eq_true, if_false]
  unfold setSlotAt
  rw [if_neg (by rw [sizeLine_eq]; decide)]
  refine wpAny_updatePart ho ?_
  refine h _ ?_ (Heap.SameBut.update ..)
  rw [Heap.get?_update_self _ ho]
  · rcases hsl with hsl | hsl <;> rw [hsl] <;> rfl
  · rcases hsl with hsl | hsl <;> rw [hsl] <;> (obtain ⟨_, _, hd⟩ := hd; simp [Obj.isFreed, hd, hc])
end
end Mine
end
section
open PySem
namespace Mine
section
variable {prog : Program} {w : World} {G : Shared → Thread → Prop} {A : Around} {E : Value → Shared → Prop} {s : Shared}
theorem sleptOver_down {a : Addr} {o : Obj} {Q : Unit → Shared → Prop} (hc : o.cls = .type "generator") (ho : s.heap.get? a = some (slept o 1)) (hfr : (slept o 0).isFreed = false)
    (h : ∀ h', h'.get? a = some (slept o 0) → Heap.SameBut a s.heap h' → Q () { s with heap := h' }) : wpAny (model prog w) A (Builtin.Generator.sleptOver (.ref a) false) Q E s := by
  unfold Builtin.Generator.sleptOver
  refine wpAny_bind (wpAny_load ho ?_)
  have hc' : (slept o 1).cls = .type "generator" := hc
  rw [hc']
  simp only [bne_self_eq_false, Bool.false_eq_true, if_false]
  unfold setSlotAt
  rw [if_neg (by rw [sizeLine_eq]; decide)]
  refine wpAny_updatePart ho ?_
  refine h _ ?_ (Heap.SameBut.update ..)
  rw [Heap.get?_update_self _ ho]
  · rfl
  · exact hfr
theorem den_builtin {id : String} {args : Args} {b : Builtin} (hb : entryFor table id = some b) : (model prog w).den (.builtin id args) = b args := by
  show (match entryFor table id with | some b => b args | none => unsupported ((withoutEnding? id "#data").getD id)) = _
  rw [hb]
theorem den_yf {it : Addr} : (model prog w).den (cY it) = Builtin.«proto.yield_from» ⟨[.ref it, .bool false, .none], []⟩ := den_builtin entry_yf
theorem close_lookup : typeLookup (.type "generator") (Str.ofString "close") = pure (some (.builtin "generator.close")) := by rw [typeLookup_type, builtinLookup_eq_fast]; kernel_rfl
theorem yf_all (prog : Program) (w : World) (it : Addr) : ∃ k₀ : Resume → Sem Fin, ∀ (G : Shared → Thread → Prop) (_hG : Back (model prog w) G) (_hz : Lazy G),
    (∀ (A : Around) (g : Nat) (k : GenResult → Sem Fin) (l : List Value) (c₁ : Code) (p₁ : Pos) (st fs : List Frame) (s : Shared) (g' : Nat) (o : Obj) (gs : GenState) (Y : Value → Shared → Prop) (D : Shared → Prop),
      (A.over (cY it) fs).handled = none → s.heap.NoLimit → (A.over (cY it) fs).depth < recursionLimit → s.heap.get? it = some o → GenAt o g' → s.gens[g']? = some gs → (gs.status = .fresh ∨ gs.status = .suspended) → splitAtGen fs = none → fs.any Frame.guarded = false →
      Wake G (A.over (cY it) fs).in1 g' s (fun r s' => (∃ v, r = .yielded v ∧ Y v s') ∨ (r = .returned .none ∧ D s')) →
      (∀ v s', Y v s' → ∃ o', s'.heap.get? it = some o' ∧ GenAt o' g' ∧ ∀ h' p, h'.get? it = some (slept o' 1) → Heap.SameBut it s'.heap h' → G (Shared.setGen { s' with heap := h' } g (.suspended k₀ [] (cY it) p fs true)) ⟨k (.yielded v), c₁, p₁, st⟩) →
      (∀ s', D s' → ∀ h', (∀ b ob, s'.heap.get? b = some ob → h'.get? b = some ob) → s'.heap.objs.size ≤ h'.objs.size → SegL G A (.gen g k l c₁ p₁ :: st) (cY it) (leafOf (.ok (.ret .none))) fs { s' with heap := h' }) →
      SegL G A (.gen g k l c₁ p₁ :: st) (cY it) ((model prog w).den (cY it)) fs s) ∧
    (∀ (A : Around) (base fs : List Frame) (s : Shared) (o : Obj), o.cls = .type "generator" → (slept o 0).isFreed = false → s.heap.get? it = some (slept o 1) →
      (∀ h', h'.get? it = some (slept o 0) → Heap.SameBut it s.heap h' → SegL G A base (cY it) ((model prog w).den (cY it)) fs { s with heap := h' }) →
      SegL G A base (cY it) (k₀ (.send .none)) fs s) := by
  refine ⟨?k, fun G hG hz => ⟨?h1, ?h2⟩⟩
  case h1 =>
    intro A g k l c₁ p₁ st fs s g' o gs Y D hh hl hd ho hg hgs hst hsp hgu hw hY hD
    rw [den_yf]
    unfold Builtin.«proto.yield_from»
    dsimp only
    refine segL_bindL (wpL_pure ?_)
    refine segL_bindL (wpL_attempt (wpL_holding ?_))
    simp only [Bool.false_eq_true, if_false, beq_self_eq_true, if_true]
    refine wpL_bind (wpL_of hG (wpAny_rule ?_))
    refine wpL_bind (wpL_callSpecial_entry hG (name := Str.ofString "__next__") (genType ho hg) slot_gen_next entry_gen_next ?_ (args_gen_next _))
    show wpL G _ (Builtin.Generator.genWake (.ref it) (.send .none)) _ _ s
    refine wpL_mono (genWake_L hG (Q := Y) (show (A.over (cY it) fs).in1.handled = none from hh) hl hd ho hg hgs hst ?w) (fun fin s' x => ?y) fun e s' x => x
    case y =>
      obtain ⟨v, rfl, hv⟩ := x
      refine ⟨v, rfl, wpL_pure ?_⟩
      obtain ⟨o', ho', hg', hYY⟩ := hY v s' hv
      refine segL_bind hG (wpAny_typeOf (genType ho' hg') ?_)
      show SegL G A _ (cY it) (typeLookup (Value.type "generator") (Str.ofString "close") >>= _) fs s'
      rw [close_lookup]
      refine segL_bindL (wpL_pure (segL_bindL (wpL_pure ?_)))
      refine segL_bind hG (sleptOver_up ho' hg' fun h' hh' hsb => ?_)
      show SegL G A _ (cY it) (.yield v true [] _) fs _
      refine segL_lazy hz fun hreg => segL_yield hG hsp ?_ fun p => ?_
      · have hcls : (slept o' 1).genNumber?.isSome = true := by
          obtain ⟨hc, ⟨nm, qn, hd⟩, _⟩ := hg'
          simp [slept, Obj.genNumber?, hc, hd]
        unfold closingShows
        rw [hgu]
        simp only [Bool.false_or, Bool.true_and]
        show delegateShows _ (.ref it) = false
        unfold delegateShows
        dsimp only
        rw [hh']
        cases hgn : (slept o' 1).genNumber? with
        | none => rw [hgn] at hcls; cases hcls
        | some n =>
          dsimp only at hreg ⊢
          rw [hgn]
          simp [hreg]
      · rw [Bool.true_or]
        exact hYY h' p hh' hsb
    case w =>
      intro Γ p st' hΓ hf l' k' hk
      refine hw Γ p st' hΓ hf l' k' fun r s' hr => hk r s' ?_
      rcases hr with hr | ⟨rfl, hr⟩
      · exact .inl hr
      · refine .inr ⟨rfl, fun e h' hS _ hkeep hsz => ?_⟩
        obtain ⟨oe, vs, hS1, hS2, hS3, hS4⟩ := hS
        have hT : Shared.TypeIs { s' with heap := h' } (.ref e) "StopIteration" := ⟨_, hS1, hS2⟩
        refine segL_bind hG ?_
        unfold Builtin.Generator.endsTheTurnAsAValue
        refine wpAny_bind ?_
        unfold Builtin.Generator.isStopAndMetaclass
        refine wpAny_bind (wpAny_typeOf hT ?_)
        dsimp only
        rw [isSubtype_stop]
        refine wpAny_bind (wpAny_pure ?_)
        refine wpAny_bind (m := typeOf (.type "StopIteration")) (show wpAny _ _ (pure _) _ _ _ from wpAny_pure ?_)
        refine wpAny_pure ?_
        simp only [Bool.false_eq_true, if_false]
        refine wpAny_pure ?_
        simp only [if_true]
        refine segL_bind hG (wpAny_rule ?_)
        refine segL_bind hG (wpAny_field hS1 hS3 hS4 ?_)
        exact hD s' hr h' hkeep hsz
  case h2 =>
    intro A base fs s o hc hfr ho h
    refine segL_bindL (m := Sem.pure _) (wpL_pure ?_)
    refine segL_bind hG (sleptOver_down hc ho hfr fun h' hh' hsb => ?_)
    refine segL_bindL (wpL_pure ?_)
    exact segL_again hG (cY_quiet it) (h h' hh' hsb)
end
end Mine
end
section
open PySem PyProof.Rows
namespace Mine
/-- the function's end, its raise -/
def Kf : Flow → Sem Fin := fun f => .pure (.done (.ret (match f with | .ret v => v | _ => .none)))
def Hf (env : Env) : Value → Sem Fin := fun e => (leaving env e).wrap (fun _ => .raise e) .raise id id
section
variable {prog : Program} {w : World} {G : Shared → Thread → Prop} {A : Around} {E : Value → Shared → Prop} {s : Shared} {base fs : List Frame} {env : Env}
theorem den_func {body : List Stmt} : (model prog w).den (.func body env) = .point [] fun _ => (execs body env).wrap Kf (Hf env) id id := by
  show (Sem.point [] fun _ => ((execs body env).onRaise (leaving env)) >>= _) = _
  congr 1
  funext _
  rw [Sem.onRaise_eq_wrap, Sem.bind_eq_wrap', Sem.wrap_wrap]
  refine Sem.wrap_congr (execs body env) _ _ (fun f => by cases f <;> rfl) (fun e => by rw [Sem.bind_eq_wrap, Sem.wrap_wrap]; rfl)
theorem first_all (prog : Program) (w : World) (x : Str) (p1 p2 p3 : Pos) (rest : List Stmt) (env : Env) (hco : env.scope.isCoroutine = false) (hi : interactive env = false) (hk : env.scope.kind = .function) (hl : env.kindOf x = some .local) (hx : (x == ("__debug__" : Str)) = false) :
    ∃ kB : Resume → Sem Fin, ∀ (G : Shared → Thread → Prop) (_hG : Back (model prog w) G),
      (∀ (A : Around) (g : Nat) (k : GenResult → Sem Fin) (l : List Value) (c₁ : Code) (p₁ : Pos) (st : List Frame) (s : Shared) (m : Str → Option Value) (v : Value), s.heap.Ns env.locals m → m x = some v →
        (∀ p, G (s.setGen g (.suspended kB [] (.func (.Expr (.Yield (some (.Name x p1)) p2) p3 :: rest) env) p [] false)) ⟨k (.yielded v), c₁, p₁, st⟩) →
        SegL G A (.gen g k l c₁ p₁ :: st) (.func (.Expr (.Yield (some (.Name x p1)) p2) p3 :: rest) env) ((model prog w).den (.func (.Expr (.Yield (some (.Name x p1)) p2) p3 :: rest) env)) [] s) ∧
      (∀ (A : Around) (base fs : List Frame) (c : Code) (s : Shared), SegL G A base c ((execs rest env).wrap Kf (Hf env) id id) fs s → SegL G A base c (kB (.send .none)) fs s) := by
  refine ⟨?k, fun G hG => ⟨?h1, ?h2⟩⟩
  case h1 =>
    intro A g k l c₁ p₁ st s m v hn hm h
    rw [den_func]
    refine segL_point hG ?_
    rw [execs_cons_wrap, exec_Expr env _ p3 hi rfl]
    have hy : ∀ v, yieldOut env v = yieldValue v := fun v => by simp only [yieldOut, hco, Bool.false_eq_true, if_false]
    show SegL G A _ _ (.at p3 fun _ => ((eval (.Name x p1) env >>= fun v => (standAt p2 >>= fun _ => yieldOut env v)) >>= fun y => dropValue (.Yield (some (.Name x p1)) p2) p3 y).wrap _ (Hf env) id id) [] s
    simp only [hy]
    refine segL_at hG ?_
    rw [Sem.bind_eq_wrap', Sem.bind_eq_wrap', Sem.wrap_wrap, Sem.wrap_wrap]
    refine segL_wrap hG (wpAny_Name (wpAny_loadName_local hk hl hn hm ?_) hx)
    refine segL_at hG ?_
    show SegL G A _ _ (.yield v false [] _) [] s
    refine segL_yield hG rfl ?_ fun p => ?_
    · simp [closingShows]
    · rw [show (false || ([] : List Frame).any Frame.guarded) = false from rfl]
      exact h p
  case h2 =>
    intro A base fs c s h
    exact h

def Kt (tgt : Expr) (it : Value) (fb oe : List Stmt) (env : Env) : Flow → Sem Fin := fun f => match f with
  | .next | .cont => .pure (.again (.forLoop tgt it fb oe env))
  | .brk => .pure (.done .next)
  | .ret v => .pure (.done (.ret v))
def Ht (env : Env) : Value → Sem Fin := fun e => (do noteFrame e env; theTreesLotGoes e : Sem Unit).wrap (fun _ => .raise e) .raise id id
def kFor (env : Env) (K : Flow → Sem Fin) (H : Value → Sem Fin) : Result → Sem Fin := fun r => ((match r with | .ok f => (.pure f : Sem Flow) | .error e => .raise e).onRaise fun (x : Value) => do
        if (← field x 1) == Value.none then unsupported "frame.own-activation:exception-without-traceback"
        setFlight x env.frame).wrap K H id id
theorem kFor_ok {env : Env} {K : Flow → Sem Fin} {H : Value → Sem Fin} {f : Flow} : kFor env K H (.ok f) = K f := rfl
theorem segL_For (hG : Back (model prog w) G) {tgt iter : Expr} {fb oe : List Stmt} {pos : Pos} {c : Code} {K : Flow → Sem Fin} {H : Value → Sem Fin} (hfold : ∀ x, foldedSetIterable iter env x = pure x)
    (h : wpAny (model prog w) (A.over c fs) (eval iter env) (fun x s₁ => wpAny (model prog w) (A.over c fs) (pyIter x) (fun it s₂ => ∀ p, SegL G A base (.forLoop tgt it fb oe env) ((model prog w).den (.forLoop tgt it fb oe env)) (.ret (kFor env K H) none false [] c p [] :: fs) s₂) (fun _ _ => False) s₁) (fun _ _ => False) s) :
    SegL G A base c ((exec (.For tgt iter fb oe pos) env).wrap K H id id) fs s := by
  show SegL G A base c (.at pos fun _ => ((eval iter env) >>= fun x => (foldedSetIterable iter env x) >>= fun x => (standAt iter.pos >>= fun _ => (holding [x] (pyIter x) >>= fun it => runOwn (.forLoop tgt it fb oe env) env))).wrap K H id id) fs s
  refine segL_at hG ?_
  rw [Sem.bind_eq_wrap', Sem.wrap_wrap]
  refine segL_wrap hG (wpAny_mono h (fun x s₁ h₁ => ?_) fun _ _ x => x.elim)
  rw [hfold]
  show SegL G A base c ((standAt iter.pos >>= fun _ => (holding [x] (pyIter x) >>= fun it => runOwn (.forLoop tgt it fb oe env) env)).wrap K H id id) fs s₁
  show SegL G A base c (.at iter.pos fun _ => ((holding [x] (pyIter x) >>= fun it => runOwn (.forLoop tgt it fb oe env) env)).wrap K H id id) fs s₁
  refine segL_at hG ?_
  rw [Sem.bind_eq_wrap', Sem.wrap_wrap]
  refine segL_wrap hG (wpAny_holding (wpAny_mono h₁ (fun it s₂ h₂ => ?_) fun _ _ x => x.elim))
  exact segL_call hG h₂
theorem segL_turn (hG : Back (model prog w) G) {tgt : Expr} {it : Value} {fb oe : List Stmt}
    (h : wpAny (model prog w) (A.over (.forLoop tgt it fb oe env) fs) (pyNext it) (fun r s₁ => match r with
      | none => SegL G A base (.block oe env) ((model prog w).den (.block oe env)) fs s₁
      | some v => wpAny (model prog w) (A.over (.forLoop tgt it fb oe env) fs) (letOwnedTupleGo tgt it v) (fun _ s₂ => wpAny (model prog w) (A.over (.forLoop tgt it fb oe env) fs) (assign tgt env v) (fun _ s₃ => SegL G A base (.forLoop tgt it fb oe env) ((execs fb env).wrap (Kt tgt it fb oe env) (Ht env) id id) fs s₃) (fun _ _ => False) s₂) (fun _ _ => False) s₁) (fun _ _ => False) s) :
    SegL G A base (.forLoop tgt it fb oe env) ((model prog w).den (.forLoop tgt it fb oe env)) fs s := by
  show SegL G A base _ ((forTurn tgt it fb oe env).onRaise (fun x => do noteFrame x env; theTreesLotGoes x)) fs s
  unfold forTurn
  rw [Sem.onRaise_eq_wrap, Sem.bind_eq_wrap', Sem.wrap_wrap]
  refine segL_wrap hG (wpAny_standAt ?_)
  rw [Sem.bind_eq_wrap', Sem.wrap_wrap]
  refine segL_wrap hG (wpAny_onRaise (wpAny_mono h (fun r s₁ h₁ => ?_) fun _ _ x => x.elim))
  cases r with
  | none => exact segL_again hG rfl h₁
  | some v =>
    dsimp only at h₁ ⊢
    rw [Sem.bind_eq_wrap', Sem.wrap_wrap]
    refine segL_wrap hG (wpAny_mono h₁ (fun _ s₂ h₂ => ?_) fun _ _ x => x.elim)
    rw [Sem.bind_eq_wrap', Sem.wrap_wrap]
    refine segL_wrap hG (wpAny_mono h₂ (fun _ s₃ h₃ => ?_) fun _ _ x => x.elim)
    rw [Sem.bind_eq_wrap', Sem.wrap_wrap]
    rw [Sem.wrap_congr (execs fb env) _ _ (K' := Kt tgt it fb oe env) (H' := Ht env) (fun f => by cases f <;> rfl) (fun e => by first | exact Sem.bind_eq_wrap _ _ | (show (do noteFrame e env; theTreesLotGoes e : Sem Unit).bind (fun _ => .raise e) = _; rw [Sem.bind_eq_wrap]; rfl))]
    exact h₃
theorem segL_block (hG : Back (model prog w) G) {k : Result → Sem Fin} {hd : Option Value} {gd : Bool} {l : List Value} {c₁ : Code} {p₁ : Pos} {kp : List Value}
    (h : SegL G A base c₁ (k (.ok .next)) fs s) : SegL G A base (.block [] env) ((model prog w).den (.block [] env)) (.ret k hd gd l c₁ p₁ kp :: fs) s := by
  show SegL G A base (.block [] env) (leafOf (.ok .next)) _ s
  exact segL_leaf hG (.ok .next) h
end
end Mine
end
section
open PySem PyProof.Rows
namespace Mine
section
variable {prog : Program} {w : World} {G : Shared → Thread → Prop} {A : Around} {E : Value → Shared → Prop} {s : Shared} {base fs : List Frame} {env : Env}
theorem segL_yieldFrom (hG : Back (model prog w) G) {e : Expr} {yp pos : Pos} {c : Code} {K : Flow → Sem Fin} {H : Value → Sem Fin} (hi : interactive env = false)
    (h : wpAny (model prog w) (A.over c fs) (eval e env) (fun v s₁ => ∃ it g o, v = .ref it ∧ s₁.heap.get? it = some o ∧ s₁.heap.IsGen it g ∧ ∀ k, (k (.ok (.ret .none)) = K .next) → ∀ p, SegL G A base (cY it) ((model prog w).den (cY it)) (.ret k none false [] c p [] :: fs) s₁) (fun _ _ => False) s) :
    SegL G A base c ((exec (.Expr (.YieldFrom e yp) pos) env).wrap K H id id) fs s := by
  rw [exec_Expr env _ pos hi rfl]
  show SegL G A base c (.at pos fun _ => ((eval e env >>= fun v => (standAt yp >>= fun _ => yieldFrom env v)) >>= fun y => dropValue (.YieldFrom e yp) pos y).wrap K H id id) fs s
  refine segL_at hG ?_
  rw [Sem.bind_eq_wrap', Sem.bind_eq_wrap', Sem.wrap_wrap, Sem.wrap_wrap]
  refine segL_wrap hG (wpAny_mono h (fun v s₁ h₁ => ?_) fun _ _ x => x.elim)
  obtain ⟨it, g, o, rfl, ho, hg, h₁⟩ := h₁
  refine segL_at hG ?_
  unfold yieldFrom
  show SegL G A base c (Sem.wrap _ _ _ _ (typeOf (.ref it) >>= _)) fs s₁
  rw [Sem.bind_eq_wrap', Sem.wrap_wrap]
  refine segL_wrap hG (wpAny_typeOf hg.typeIs ?_)
  rw [if_neg (by decide)]
  rw [Sem.bind_eq_wrap', Sem.wrap_wrap]
  refine segL_wrap hG (wpAny_holding (wpAny_pyIter_gen hg ?_))
  refine segL_call hG (h₁ _ ?_)
  rfl
end
end Mine
end
section
open PySem PyProof.Rows
namespace Mine
theorem w_func (body : List Stmt) (env : Env) : (Code.func body env).weight = 1 := rfl
theorem w_for (t : Expr) (v : Value) (b o : List Stmt) (env : Env) : (Code.forLoop t v b o env).weight = 0 := rfl
theorem w_yf (it : Addr) : (cY it).weight = 0 := rfl
theorem u_func (body : List Stmt) (env : Env) : (Code.func body env).cUnits = 3 := rfl
theorem u_for (t : Expr) (v : Value) (b o : List Stmt) (env : Env) : (Code.forLoop t v b o env).cUnits = 0 := rfl
theorem u_yf (it : Addr) : (cY it).cUnits = 1 := rfl
theorem w_block (b : List Stmt) (env : Env) : (Code.block b env).weight = 0 := rfl
theorem u_block (b : List Stmt) (env : Env) : (Code.block b env).cUnits = 0 := rfl
/-- room for n generators more -/
structure AOk (n : Nat) (A : Around) : Prop where
  handled : A.handled = none
  depth : A.depth + 8 * n + 8 < recursionLimit
  units : A.units + 64 * n + 128 < cLine
/-- the generator's frames -/
def fr1 (k : Result → Sem Fin) (c : Code) (p : Pos) : Frame := .ret k none false [] c p []
section
variable {A : Around} {n : Nat} {k k' : Result → Sem Fin} {body : List Stmt} {env : Env} {p p' : Pos} {tgt : Expr} {it : Value} {fb oe : List Stmt} {y : Addr}
theorem AOk.in1 (h : AOk n A) : A.in1.handled = none := h.handled
theorem over0 (h : AOk n A) : (A.over (.func body env) []).handled = none ∧ (A.over (.func body env) []).depth = A.depth + 1 ∧ (A.over (.func body env) []).units = A.units + 3 :=
  ⟨h.handled, rfl, rfl⟩
theorem over1 (h : AOk n A) : (A.over (.forLoop tgt it fb oe env) [fr1 k (.func body env) p]).handled = none ∧ (A.over (.forLoop tgt it fb oe env) [fr1 k (.func body env) p]).depth = A.depth + 1 ∧ (A.over (.forLoop tgt it fb oe env) [fr1 k (.func body env) p]).units = A.units + 3 :=
  ⟨h.handled, rfl, rfl⟩
theorem over2 (h : AOk n A) : (A.over (cY y) [fr1 k' (.forLoop tgt it fb oe env) p', fr1 k (.func body env) p]).handled = none ∧ (A.over (cY y) [fr1 k' (.forLoop tgt it fb oe env) p', fr1 k (.func body env) p]).depth = A.depth + 1 ∧ (A.over (cY y) [fr1 k' (.forLoop tgt it fb oe env) p', fr1 k (.func body env) p]).units = A.units + 3 + 1 :=
  ⟨h.handled, rfl, rfl⟩
theorem over2_in1 (h : AOk (n + 1) A) : AOk n (A.over (cY y) [fr1 k' (.forLoop tgt it fb oe env) p', fr1 k (.func body env) p]).in1 := by
  obtain ⟨h1, h2, h3⟩ := over2 (k := k) (k' := k') (body := body) (env := env) (p := p) (p' := p') (tgt := tgt) (it := it) (fb := fb) (oe := oe) (y := y) h
  refine ⟨h1, ?_, ?_⟩
  · show (A.over (cY y) _).depth + 8 * n + 8 < recursionLimit
    rw [h2]; have := h.depth; omega
  · show (A.over (cY y) _).units + 1 + 64 * n + 128 < cLine
    rw [h3]; have := h.units; omega
end
def fineG (X : Addr → Prop) (h : Heap) : GenState → Prop
  | .suspended _ _ c _ fs true => fs.any Frame.guarded = false ∧ ∃ it o, c = cY it ∧ X it ∧ h.get? it = some o ∧ o.genNumber?.isSome = true
  | _ => True
structure Later (h₀ : Heap) (X : Addr → Prop) (Y : Nat → Prop) (s s₁ : Shared) : Prop where
  base : ∀ b o, h₀.get? b = some o → s₁.heap.get? b = some o
  own : ∀ a, X a → s₁.heap.get? a = s.heap.get? a
  gens : ∀ i, Y i → s₁.gens[i]? = s.gens[i]?
  gsz : s.gens.size ≤ s₁.gens.size
structure Moves (X X' : Addr → Prop) (Y Y' : Nat → Prop) (s s' : Shared) : Prop where
  keep : ∀ a o, s.heap.get? a = some o → ¬ X a → s'.heap.get? a = some o
  own : ∀ a, X' a → X a ∨ s.heap.get? a = none
  has : ∀ a, X' a → ∃ o, s'.heap.get? a = some o
  gkeep : ∀ i, i < s.gens.size → ¬ Y i → s'.gens[i]? = s.gens[i]?
  gsz : s.gens.size ≤ s'.gens.size
  gown : ∀ i, Y' i → Y i ∨ s.gens.size ≤ i
  glow : ∀ i, Y' i → i < s'.gens.size
  gmono : ∀ i, Y i → Y' i
  gall : ∀ i, s.gens.size ≤ i → i < s'.gens.size → Y' i
  os : s'.os = s.os
  fine : ∀ i x, Y' i → s'.gens[i]? = some x → fineG X' s'.heap x
def Sleeps (s : Shared) (g : Nat) : Prop := ∃ gs, s.gens[g]? = some gs ∧ (gs.status = .fresh ∨ gs.status = .suspended)
/-- what a generator still does -/
def GenDoes (G : Shared → Thread → Prop) (h₀ : Heap) (n : Nat) (cond : Heap → Prop) : List Value → Nat → (Addr → Prop) → (Nat → Prop) → Shared → Prop
  | [], g, X, Y, s => Sleeps s g ∧ Y g ∧ ∀ s₁ A, Later h₀ X Y s s₁ → cond s₁.heap → AOk n A →
      Wake G A g s₁ (fun r s' => r = .returned .none ∧ ∃ X' Y', Moves X X' Y Y' s₁ s' ∧ ∀ i, Y' i → s'.gens[i]? = some .finished)
  | v :: vs, g, X, Y, s => Sleeps s g ∧ Y g ∧ ∀ s₁ A, Later h₀ X Y s s₁ → cond s₁.heap → AOk n A →
      Wake G A g s₁ (fun r s' => r = .yielded v ∧ ∃ X' Y', Moves X X' Y Y' s₁ s' ∧ GenDoes G h₀ n cond vs g X' Y' s')
theorem Later.trans {h₀ : Heap} {X : Addr → Prop} {Y : Nat → Prop} {s s₁ s₂ : Shared} (a : Later h₀ X Y s s₁) (b : Later h₀ X Y s₁ s₂) : Later h₀ X Y s s₂ :=
  ⟨b.base, fun x hx => (b.own x hx).trans (a.own x hx), fun i hi => (b.gens i hi).trans (a.gens i hi), Nat.le_trans a.gsz b.gsz⟩
theorem GenDoes.later {G : Shared → Thread → Prop} {h₀ : Heap} {n : Nat} {cond : Heap → Prop} {vs : List Value} {g : Nat} {X : Addr → Prop} {Y : Nat → Prop} {s s₁ : Shared} (h : GenDoes G h₀ n cond vs g X Y s) (l : Later h₀ X Y s s₁) : GenDoes G h₀ n cond vs g X Y s₁ := by
  cases vs with
  | nil =>
    obtain ⟨⟨gs, h1, h2⟩, hy, h3⟩ := h
    exact ⟨⟨gs, (l.gens g hy).trans h1, h2⟩, hy, fun s₂ A l' => h3 s₂ A (l.trans l')⟩
  | cons v vs =>
    obtain ⟨⟨gs, h1, h2⟩, hy, h3⟩ := h
    exact ⟨⟨gs, (l.gens g hy).trans h1, h2⟩, hy, fun s₂ A l' => h3 s₂ A (l.trans l')⟩
theorem GenDoes.sleeps {G : Shared → Thread → Prop} {h₀ : Heap} {n : Nat} {cond : Heap → Prop} {vs : List Value} {g : Nat} {X : Addr → Prop} {Y : Nat → Prop} {s : Shared} (h : GenDoes G h₀ n cond vs g X Y s) : Sleeps s g ∧ Y g := by
  cases vs <;> exact ⟨h.1, h.2.1⟩
end Mine
end
section
open PySem PyProof.Rows
namespace Mine
theorem setGen_ne {s : Shared} {g i : Nat} {x : GenState} (h : i ≠ g) : (s.setGen g x).gens[i]? = s.gens[i]? := by
  simp [Shared.setGen, Ne.symm h]
theorem setGen_self {s : Shared} {g : Nat} {x : GenState} (h : g < s.gens.size) : (s.setGen g x).gens[g]? = some x := by
  simp [Shared.setGen, h]
theorem setGen_size {s : Shared} {g : Nat} {x : GenState} : (s.setGen g x).gens.size = s.gens.size := by simp [Shared.setGen]
def XC (it itr l L : Addr) (XI : Addr → Prop) (a : Addr) : Prop := XI a ∨ a = it ∨ a = itr ∨ a = l ∨ a = L
def YC (g : Nat) (YI : Nat → Prop) (i : Nat) : Prop := YI i ∨ i = g
structure StC (h₀ : Heap) (k₀ : Resume → Sem Fin) (it itr l L : Addr) (g : Nat) (o : Obj) (items : Array Value) (fs : List Frame) (XI : Addr → Prop) (YI : Nat → Prop) (s : Shared) : Prop where
  gen : ∃ p, s.gens[g]? = some (.suspended k₀ [] (cY it) p fs true)
  ng : ¬ YI g
  nx : ∀ a, XI a → a ≠ it ∧ a ≠ itr ∧ a ≠ l ∧ a ≠ L
  itobj : s.heap.get? it = some (slept o 1)
  iter : s.heap.IsListIter itr l 1
  lst : s.heap.IsList l items
  has : ∀ a, XC it itr l L XI a → ∃ ob, s.heap.get? a = some ob
  new : ∀ a, XC it itr l L XI a → h₀.get? a = none
  glow : ∀ i, YC g YI i → i < s.gens.size
  fine : ∀ i x, YI i → s.gens[i]? = some x → fineG XI s.heap x
theorem fineG.mono {X X' : Addr → Prop} {h h' : Heap} {x : GenState} (f : fineG X h x) (hX : ∀ a, X a → X' a) (hh : ∀ a o, X a → h.get? a = some o → h'.get? a = some o) : fineG X' h' x := by
  cases x with
  | suspended k l c p fs cl =>
    cases cl with
    | false => trivial
    | true =>
      obtain ⟨h1, it, o, h2, h3, h4, h5⟩ := f
      exact ⟨h1, it, o, h2, hX it h3, hh it o h3 h4, h5⟩
  | _ => trivial
theorem genAt_freed {o : Obj} {g : Nat} (hg : GenAt o g) (n : Int) : (slept o n).isFreed = false := by
  obtain ⟨hc, ⟨nm, qn, hd⟩, _⟩ := hg
  simp [slept, Obj.isFreed, hd, hc]
theorem genAt_slept {o : Obj} {g : Nat} (hg : GenAt o g) : GenAt (slept o 0) g := ⟨hg.1, hg.2.1, .inr rfl⟩
theorem genAt_number {o : Obj} {g : Nat} (hg : GenAt o g) (n : Int) : (slept o n).genNumber?.isSome = true := by
  obtain ⟨hc, ⟨nm, qn, hd⟩, _⟩ := hg
  simp [slept, Obj.genNumber?, hc, hd]
section
variable {prog : Program} {w : World} {G : Shared → Thread → Prop} {h₀ : Heap} {it itr l L : Addr} {g g' n : Nat} {o : Obj} {items : Array Value} {k₀ : Resume → Sem Fin} {k1 k2 : Result → Sem Fin} {tgt : Expr} {fb body : List Stmt} {env : Env} {p1 p2 : Pos} {cond condI : Heap → Prop}
theorem stC_does (hG : Back (model prog w) G) (hz : Lazy G) (hlim : h₀.NoLimit)
    (hY1 : ∀ (A : Around) (g : Nat) (k : GenResult → Sem Fin) (l : List Value) (c₁ : Code) (p₁ : Pos) (st fs : List Frame) (s : Shared) (g' : Nat) (o : Obj) (gs : GenState) (Y : Value → Shared → Prop) (D : Shared → Prop),
      (A.over (cY it) fs).handled = none → s.heap.NoLimit → (A.over (cY it) fs).depth < recursionLimit → s.heap.get? it = some o → GenAt o g' → s.gens[g']? = some gs → (gs.status = .fresh ∨ gs.status = .suspended) → splitAtGen fs = none → fs.any Frame.guarded = false →
      Wake G (A.over (cY it) fs).in1 g' s (fun r s' => (∃ v, r = .yielded v ∧ Y v s') ∨ (r = .returned .none ∧ D s')) →
      (∀ v s', Y v s' → ∃ o', s'.heap.get? it = some o' ∧ GenAt o' g' ∧ ∀ h' p, h'.get? it = some (slept o' 1) → Heap.SameBut it s'.heap h' → G (Shared.setGen { s' with heap := h' } g (.suspended k₀ [] (cY it) p fs true)) ⟨k (.yielded v), c₁, p₁, st⟩) →
      (∀ s', D s' → ∀ h', (∀ b ob, s'.heap.get? b = some ob → h'.get? b = some ob) → s'.heap.objs.size ≤ h'.objs.size → SegL G A (.gen g k l c₁ p₁ :: st) (cY it) (leafOf (.ok (.ret .none))) fs { s' with heap := h' }) →
      SegL G A (.gen g k l c₁ p₁ :: st) (cY it) ((model prog w).den (cY it)) fs s)
    (hY2 : ∀ (A : Around) (base fs : List Frame) (s : Shared) (o : Obj), o.cls = .type "generator" → (slept o 0).isFreed = false → s.heap.get? it = some (slept o 1) →
      (∀ h', h'.get? it = some (slept o 0) → Heap.SameBut it s.heap h' → SegL G A base (cY it) ((model prog w).den (cY it)) fs { s with heap := h' }) →
      SegL G A base (cY it) (k₀ (.send .none)) fs s)
    (hne : it ≠ itr ∧ it ≠ l ∧ itr ≠ l) (hg : GenAt o g') (hx1 : items[1]? = none)
    (hk2 : k2 (.ok (.ret .none)) = Kt tgt (.ref itr) fb [] env .next) (hk1 : k1 (.ok .next) = leafOf (.ok (.ret .none)))
    (hc : ∀ h h', cond h → h.get? it = some (slept o 1) → Heap.SameBut it h h' → condI h') :
    ∀ (vs : List Value) (XI : Addr → Prop) (YI : Nat → Prop) (s : Shared), StC h₀ k₀ it itr l L g o items [fr1 k2 (.forLoop tgt (.ref itr) fb [] env) p2, fr1 k1 (.func body env) p1] XI YI s → GenDoes G h₀ n condI vs g' XI YI s →
      GenDoes G h₀ (n + 1) cond vs g (XC it itr l L XI) (YC g YI) s := by
  -- what is common to both ends
  have start : ∀ (XI : Addr → Prop) (YI : Nat → Prop) (s s₁ : Shared) (h' : Heap), StC h₀ k₀ it itr l L g o items [fr1 k2 (.forLoop tgt (.ref itr) fb [] env) p2, fr1 k1 (.func body env) p1] XI YI s → Later h₀ (XC it itr l L XI) (YC g YI) s s₁ →
      h'.get? it = some (slept o 0) → Heap.SameBut it s₁.heap h' → Later h₀ XI YI s { s₁.setGen g .running with heap := h' } ∧ h'.NoLimit ∧ h'.IsListIter itr l 1 ∧ h'.IsList l items := by
    intro XI YI s s₁ h' st lt hh' hsb
    have hb : ∀ b ob, h₀.get? b = some ob → h'.get? b = some ob := fun b ob e => by
      have hbn : b ≠ it := fun q => by rw [q, st.new it (.inr (.inl rfl))] at e; cases e
      exact (hsb.2 b hbn).trans (lt.base b ob e)
    refine ⟨⟨hb, fun a ha => (hsb.2 a (st.nx a ha).1).trans (lt.own a (.inl ha)), fun i hi => ?_, ?_⟩, hlim.keeps hb, ?_, ?_⟩
    · have hig : i ≠ g := fun q => st.ng (q ▸ hi)
      exact (setGen_ne hig).trans (lt.gens i (.inl hi))
    · show s.gens.size ≤ (s₁.setGen g .running).gens.size
      rw [setGen_size]; exact lt.gsz
    · obtain ⟨oi, h1, h2⟩ := st.iter
      exact ⟨oi, (hsb.2 itr (Ne.symm hne.1)).trans ((lt.own itr (.inr (.inr (.inl rfl)))).trans h1), h2⟩
    · obtain ⟨oi, h1, h2⟩ := st.lst
      exact ⟨oi, (hsb.2 l (Ne.symm hne.2.1)).trans ((lt.own l (.inr (.inr (.inr (.inl rfl))))).trans h1), h2⟩
  intro vs
  induction vs with
  | nil =>
    intro XI YI s st hI
    obtain ⟨p0, hgen⟩ := st.gen
    refine ⟨⟨_, hgen, .inr rfl⟩, .inr rfl, fun s₁ A lt hcond aok => ?_⟩
    intro Γ p st' hΓ hf l' k hk
    refine hG.I (step_resume_suspended _ _ _ _ _ _ _ _ ((lt.gens g (.inr rfl)).trans hgen)) ?_
    refine hY2 A _ _ (s₁.setGen g .running) o hg.1 (genAt_freed hg 0) ((lt.own it (.inr (.inl rfl))).trans st.itobj) (fun h' hh' hsb => ?_) (Γ.wake (cY it) p) p0 rfl (hΓ.wake _ _) (hf.wake _ _ _ _ _)
    obtain ⟨lt3, hl3, hi3, hl3'⟩ := start XI YI s s₁ h' st lt hh' hsb
    obtain ⟨o1, o2, o3⟩ := over2 (k := k1) (k' := k2) (body := body) (env := env) (p := p1) (p' := p2) (tgt := tgt) (it := .ref itr) (fb := fb) (oe := []) (y := it) aok
    obtain ⟨⟨gs, hs1, hs2⟩, hYg, hW⟩ := hI
    refine hY1 A g k l' Γ.code p st' _ _ g' (slept o 0) gs (fun _ _ => False) _ o1 hl3 (by rw [o2]; have := aok.depth; omega) hh' (genAt_slept hg) ((lt3.gens g' hYg).trans hs1) hs2 rfl rfl
      (fun Γ₂ q st₂ hΓ₂ hf₂ l₂ k₃ hk₃ => hW _ _ lt3 (hc _ _ hcond ((lt.own it (.inr (.inl rfl))).trans st.itobj) hsb) (over2_in1 aok) Γ₂ q st₂ hΓ₂ hf₂ l₂ k₃ fun r s' hr => hk₃ r s' (.inr hr)) (fun _ _ x => x.elim) ?_
    rintro s₄ ⟨X', Y', mv, hfin⟩ h4 hk4 hsz4
    -- the loop's last turn
    refine segL_leaf hG (.ok (.ret .none)) ?_
    rw [hk2]
    refine segL_again hG rfl ?_
    refine segL_turn hG ?_
    obtain ⟨q1, q2, q3⟩ := over1 (k := k1) (body := body) (env := env) (p := p1) (tgt := tgt) (it := .ref itr) (fb := fb) (oe := []) aok
    have keep4 : ∀ a ob, a ≠ it → ¬ XI a → s₁.heap.get? a = some ob → h4.get? a = some ob := fun a ob ha hXa e => hk4 a ob (mv.keep a ob ((hsb.2 a ha).trans e) hXa)
    have nXitr : ¬ XI itr := fun q => (st.nx itr q).2.1 rfl
    have nXl : ¬ XI l := fun q => (st.nx l q).2.2.1 rfl
    have nXit : ¬ XI it := fun q => (st.nx it q).1 rfl
    refine wpAny_pyNext_list_end (l := l) (i := 1) (items := items) q1 ?_ ?_ hx1 (fun h5 hext => ?_)
    · obtain ⟨oi, h1, h2⟩ := hi3
      exact ⟨oi, hk4 _ _ (mv.keep _ _ h1 nXitr), h2⟩
    · obtain ⟨oi, h1, h2⟩ := hl3'
      exact ⟨oi, hk4 _ _ (mv.keep _ _ h1 nXl), h2⟩
    · refine segL_block hG ?_
      rw [hk1]
      refine segL_end hG (.ok (.ret .none)) ?_
      have hgs : g < s₄.gens.size := by
        have h1 := st.glow g (.inr rfl)
        have h2 := lt.gsz
        have h3 := mv.gsz
        have h4 : ({ s₁.setGen g .running with heap := h' } : Shared).gens.size = s₁.gens.size := setGen_size
        omega
      have g3 : ({ s₁.setGen g .running with heap := h' } : Shared).gens.size = s₁.gens.size := setGen_size
      refine hk _ _ ⟨rfl, (fun _ => False), YC g Y', ⟨?_, (fun _ h => h.elim), (fun _ h => h.elim), ?_, ?_, ?_, ?_, ?_, ?_, ?_, ?_⟩, ?_⟩
      · intro a ob e hXa
        have h1 : a ≠ it := fun q => hXa (.inr (.inl q))
        have h2 : a ≠ itr := fun q => hXa (.inr (.inr (.inl q)))
        exact hext a ob h2 (keep4 a ob h1 (fun q => hXa (.inl q)) e)
      · intro i hi hYi
        have h1 : i ≠ g := fun q => hYi (.inr q)
        refine (setGen_ne h1).trans ?_
        refine (mv.gkeep i (by rw [g3]; exact hi) (fun q => hYi (.inl q))).trans ?_
        exact setGen_ne h1
      · have h1 := mv.gsz
        rw [g3] at h1
        show s₁.gens.size ≤ (Shared.setGen _ g .finished).gens.size
        rw [setGen_size]; exact h1
      · rintro i (hi | hi)
        · rcases mv.gown i hi with h | h
          · exact .inl (.inl h)
          · rw [g3] at h; exact .inr h
        · exact .inl (.inr hi)
      · rintro i (hi | hi)
        · show i < (Shared.setGen _ g .finished).gens.size
          rw [setGen_size]; exact mv.glow i hi
        · show i < (Shared.setGen _ g .finished).gens.size
          rw [setGen_size, hi]; exact hgs
      · rintro i (hi | hi)
        · exact .inl (mv.gmono i hi)
        · exact .inr hi
      · intro i h1 h2
        have h2' : i < (Shared.setGen { s₄ with heap := h5 } g .finished).gens.size := h2
        rw [setGen_size] at h2'
        exact .inl (mv.gall i (by rw [g3]; exact h1) h2')
      · exact mv.os
      · rintro i x (hi | hi) e
        · by_cases hig : i = g
          · subst hig
            have e' : (Shared.setGen { s₄ with heap := h5 } i .finished).gens[i]? = some x := e
            rw [setGen_self (s := { s₄ with heap := h5 }) hgs] at e'
            cases e'; trivial
          · have e' : (Shared.setGen { s₄ with heap := h5 } g .finished).gens[i]? = some x := e
            rw [setGen_ne hig] at e'
            have e2 := hfin i hi
            have e3 : s₄.gens[i]? = some x := e'
            rw [e2] at e3
            cases e3; trivial
        · subst hi
          have e' : (Shared.setGen { s₄ with heap := h5 } i .finished).gens[i]? = some x := e
          rw [setGen_self (s := { s₄ with heap := h5 }) hgs] at e'
          cases e'; trivial
      · rintro i (hi | hi)
        · by_cases hig : i = g
          · subst hig; exact setGen_self hgs
          · exact (setGen_ne hig).trans (hfin i hi)
        · subst hi; exact setGen_self hgs
  | cons v vs ih =>
    intro XI YI s st hI
    obtain ⟨p0, hgen⟩ := st.gen
    refine ⟨⟨_, hgen, .inr rfl⟩, .inr rfl, fun s₁ A lt hcond aok => ?_⟩
    intro Γ p st' hΓ hf l' k hk
    refine hG.I (step_resume_suspended _ _ _ _ _ _ _ _ ((lt.gens g (.inr rfl)).trans hgen)) ?_
    refine hY2 A _ _ (s₁.setGen g .running) o hg.1 (genAt_freed hg 0) ((lt.own it (.inr (.inl rfl))).trans st.itobj) (fun h' hh' hsb => ?_) (Γ.wake (cY it) p) p0 rfl (hΓ.wake _ _) (hf.wake _ _ _ _ _)
    obtain ⟨lt3, hl3, hi3, hl3'⟩ := start XI YI s s₁ h' st lt hh' hsb
    obtain ⟨o1, o2, o3⟩ := over2 (k := k1) (k' := k2) (body := body) (env := env) (p := p1) (p' := p2) (tgt := tgt) (it := .ref itr) (fb := fb) (oe := []) (y := it) aok
    obtain ⟨⟨gs, hs1, hs2⟩, hYg, hW⟩ := hI
    have nXitr : ¬ XI itr := fun q => (st.nx itr q).2.1 rfl
    have nXl : ¬ XI l := fun q => (st.nx l q).2.2.1 rfl
    have nXit : ¬ XI it := fun q => (st.nx it q).1 rfl
    refine hY1 A g k l' Γ.code p st' _ _ g' (slept o 0) gs (fun v' s' => v' = v ∧ ∃ X' Y', Moves XI X' YI Y' { s₁.setGen g .running with heap := h' } s' ∧ GenDoes G h₀ n condI vs g' X' Y' s') (fun _ => False) o1 hl3 (by rw [o2]; have := aok.depth; omega) hh' (genAt_slept hg) ((lt3.gens g' hYg).trans hs1) hs2 rfl rfl
      (fun Γ₂ q st₂ hΓ₂ hf₂ l₂ k₃ hk₃ => hW _ _ lt3 (hc _ _ hcond ((lt.own it (.inr (.inl rfl))).trans st.itobj) hsb) (over2_in1 aok) Γ₂ q st₂ hΓ₂ hf₂ l₂ k₃ fun r s' hr => hk₃ r s' (.inl ⟨v, hr.1, rfl, hr.2⟩)) ?_ (fun _ x => x.elim)
    rintro v' s₄ ⟨rfl, X', Y', mv, hD⟩
    have hit4 : s₄.heap.get? it = some (slept o 0) := mv.keep it _ hh' nXit
    refine ⟨slept o 0, hit4, genAt_slept hg, fun h5 p5 hh5 hsb5 => ?_⟩
    have hgs : g < s₄.gens.size := by
      have h1 := st.glow g (.inr rfl)
      have h2 := lt.gsz
      have h3 := mv.gsz
      have h4 : ({ s₁.setGen g .running with heap := h' } : Shared).gens.size = s₁.gens.size := setGen_size
      omega
    have g3 : ({ s₁.setGen g .running with heap := h' } : Shared).gens.size = s₁.gens.size := setGen_size
    have newOf : ∀ a, X' a → XI a ∨ s₁.heap.get? a = none := fun a ha => by
      rcases mv.own a ha with h | h
      · exact .inl h
      · right
        have h9 : h'.get? a = none := h
        have hne9 : a ≠ it := fun q => by rw [q, hh'] at h9; cases h9
        exact (hsb.2 a hne9).symm.trans h9
    have apart : ∀ b, (b = it ∨ b = itr ∨ b = l ∨ b = L) → ¬ X' b := fun b hb hX => by
      obtain ⟨ob, hob⟩ := st.has b (.inr hb)
      rcases newOf b hX with h | h
      · have := st.nx b h
        rcases hb with rfl | rfl | rfl | rfl
        · exact this.1 rfl
        · exact this.2.1 rfl
        · exact this.2.2.1 rfl
        · exact this.2.2.2 rfl
      · rw [lt.own b (.inr hb), hob] at h; cases h
    have nY'g : ¬ Y' g := fun q => by
      rcases mv.gown g q with h | h
      · exact st.ng h
      · rw [g3] at h
        have h1 := st.glow g (.inr rfl)
        have h2 := lt.gsz
        omega
    have base3 := lt3.base
    have newb : ∀ a, X' a → h₀.get? a = none := fun a ha => by
      rcases mv.own a ha with h | h
      · exact st.new a (.inl h)
      · cases q : h₀.get? a with
        | none => rfl
        | some ob =>
          have h9 : h'.get? a = none := h
          rw [base3 a ob q] at h9; cases h9
    have keep5 : ∀ a ob, a ≠ it → ¬ XI a → s₁.heap.get? a = some ob → h5.get? a = some ob := fun a ob ha hXa e => (hsb5.2 a ha).trans (mv.keep a ob ((hsb.2 a ha).trans e) hXa)
    have base5 : ∀ b ob, h₀.get? b = some ob → h5.get? b = some ob := fun b ob e => by
      have hb1 : b ≠ it := fun q => by rw [q, st.new it (.inr (.inl rfl))] at e; cases e
      have hb2 : ¬ XI b := fun q => by rw [st.new b (.inl q)] at e; cases e
      exact keep5 b ob hb1 hb2 (lt.base b ob e)
    have st5 : StC h₀ k₀ it itr l L g o items [fr1 k2 (.forLoop tgt (.ref itr) fb [] env) p2, fr1 k1 (.func body env) p1] X' Y' (Shared.setGen { s₄ with heap := h5 } g (.suspended k₀ [] (cY it) p5 [fr1 k2 (.forLoop tgt (.ref itr) fb [] env) p2, fr1 k1 (.func body env) p1] true)) := by
      refine ⟨⟨p5, setGen_self hgs⟩, nY'g, fun a ha => ⟨fun q => apart it (.inl rfl) (q ▸ ha), fun q => apart itr (.inr (.inl rfl)) (q ▸ ha), fun q => apart l (.inr (.inr (.inl rfl))) (q ▸ ha), fun q => apart L (.inr (.inr (.inr rfl))) (q ▸ ha)⟩, hh5, ?_, ?_, ?_, ?_, ?_, ?_⟩
      · obtain ⟨oi, h1, h2⟩ := hi3
        exact ⟨oi, (hsb5.2 itr (Ne.symm hne.1)).trans (mv.keep _ _ h1 nXitr), h2⟩
      · obtain ⟨oi, h1, h2⟩ := hl3'
        exact ⟨oi, (hsb5.2 l (Ne.symm hne.2.1)).trans (mv.keep _ _ h1 nXl), h2⟩
      · rintro a (ha | ha)
        · obtain ⟨ob, hob⟩ := mv.has a ha
          exact ⟨ob, (hsb5.2 a (fun q => apart it (.inl rfl) (q ▸ ha))).trans hob⟩
        · by_cases hit : a = it
          · exact ⟨_, hit ▸ hh5⟩
          · obtain ⟨ob, hob⟩ := st.has a (.inr ha)
            exact ⟨ob, keep5 a ob hit (fun q => by
              have := st.nx a q
              rcases ha with rfl | rfl | rfl | rfl
              · exact this.1 rfl
              · exact this.2.1 rfl
              · exact this.2.2.1 rfl
              · exact this.2.2.2 rfl) ((lt.own a (.inr ha)).trans hob)⟩
      · rintro a (ha | ha)
        · exact newb a ha
        · exact st.new a (.inr ha)
      · rintro i (hi | hi)
        · show i < (Shared.setGen _ g _).gens.size
          rw [setGen_size]; exact mv.glow i hi
        · show i < (Shared.setGen _ g _).gens.size
          rw [setGen_size, hi]; exact hgs
      · intro i x hi e
        have hig : i ≠ g := fun q => nY'g (q ▸ hi)
        rw [setGen_ne hig] at e
        exact (mv.fine i x hi e).mono (fun _ h => h) fun a ob ha e' => (hsb5.2 a (fun q => apart it (.inl rfl) (q ▸ ha))).trans e'
    have lt5 : Later h₀ X' Y' s₄ (Shared.setGen { s₄ with heap := h5 } g (.suspended k₀ [] (cY it) p5 [fr1 k2 (.forLoop tgt (.ref itr) fb [] env) p2, fr1 k1 (.func body env) p1] true)) := by
      refine ⟨base5, fun a ha => hsb5.2 a (fun q => apart it (.inl rfl) (q ▸ ha)), fun i hi => setGen_ne (fun q => nY'g (q ▸ hi)), ?_⟩
      · show s₄.gens.size ≤ (Shared.setGen _ g _).gens.size
        rw [setGen_size]; exact Nat.le_refl _
    refine hk _ _ ⟨rfl, XC it itr l L X', YC g Y', ⟨?_, ?_, ?_, ?_, ?_, ?_, ?_, ?_, ?_, ?_, ?_⟩, ih X' Y' _ st5 (hD.later lt5)⟩
    · intro a ob e hXa
      exact keep5 a ob (fun q => hXa (.inr (.inl q))) (fun q => hXa (.inl q)) e
    · rintro a (ha | ha)
      · rcases newOf a ha with h | h
        · exact .inl (.inl h)
        · exact .inr h
      · exact .inl (.inr ha)
    · exact st5.has
    · intro i hi hYi
      have h1 : i ≠ g := fun q => hYi (.inr q)
      refine (setGen_ne h1).trans ?_
      refine (mv.gkeep i (by rw [g3]; exact hi) (fun q => hYi (.inl q))).trans ?_
      exact setGen_ne h1
    · have h1 := mv.gsz
      rw [g3] at h1
      show s₁.gens.size ≤ (Shared.setGen _ g _).gens.size
      rw [setGen_size]; exact h1
    · rintro i (hi | hi)
      · rcases mv.gown i hi with h | h
        · exact .inl (.inl h)
        · rw [g3] at h; exact .inr h
      · exact .inl (.inr hi)
    · exact st5.glow
    · rintro i (hi | hi)
      · exact .inl (mv.gmono i hi)
      · exact .inr hi
    · intro i h1 h2
      have h2' : i < (Shared.setGen { s₄ with heap := h5 } g (.suspended k₀ [] (cY it) p5 [fr1 k2 (.forLoop tgt (.ref itr) fb [] env) p2, fr1 k1 (.func body env) p1] true)).gens.size := h2
      rw [setGen_size] at h2'
      exact .inl (mv.gall i (by rw [g3]; exact h1) h2')
    · exact mv.os
    · rintro i x (hi | hi) e
      · exact (st5.fine i x hi e).mono (fun _ h => .inl h) fun _ _ _ h => h
      · subst hi
        have e' : (Shared.setGen { s₄ with heap := h5 } i (.suspended k₀ [] (cY it) p5 [fr1 k2 (.forLoop tgt (.ref itr) fb [] env) p2, fr1 k1 (.func body env) p1] true)).gens[i]? = some x := e
        rw [setGen_self (s := { s₄ with heap := h5 }) hgs] at e'
        cases e'
        exact ⟨rfl, it, _, rfl, .inr (.inl rfl), hh5, genAt_number hg 1⟩
end
end Mine
end
section
open PySem PySem.W PyProof.Rows
namespace Mine
open_top hd01 for PySem.Challenge.rw_ui0505_01
end Mine
end
section
open PySem PySem.W PyProof.Rows PyProof.V PySem.Spec
namespace Mine
abbrev tupO (vs : List Value) (n : Nat) : Obj := { cls := .type "tuple", data := .seq vs.toArray n }
section
variable {prog : Program} {w : World} {h₀ : Heap} {L : Addr} {m : Str → Option Value} {A : Around} {E : Value → Shared → Prop} {s : Shared} {x : Str} {t : Tok} {Q : Value → Shared → Prop}
def joins : List PyData := [.str (Str.ofString "and"), .str (Str.ofString "or"), .str (Str.ofString "implies"), .str (Str.ofString "iff")]
def binders : List PyData := [.str (Str.ofString "all"), .str (Str.ofString "some")]
theorem in_joins (b : Bool) (F : Fr h₀ L s.heap m) (X : (hd01.heap_39 w.params).In h₀) (hx : PyData.strOk x = true) (hb : (joins.any fun y => PyData.eqv y (.str x)) = b) (hu : A.units + 64 < cLine) (h : Q (.bool b) s) :
    wpAny (model prog w) A (compareOp .In (.str x t) (.ref 15)) Q E s := by
  have r : Reads s.heap (.ref 15) (.tuple joins) _ := reads_tuple_at (F.keep _ _ (X 15 _ rfl)) rfl rfl (.cons (.str _ _) (.cons (.str _ _) (.cons (.str _ _) (.cons (.str _ _) .nil))))
  refine SeqAt.in_tuple_reads r (Reads.str x t) (by decide +kernel) (by simpa [PyData.canLay0] using hx) ?_ (by rw [hb]; exact h)
  have : PyData.depthAll joins ≤ 1 := by decide +kernel
  omega
theorem in_binders (b : Bool) (F : Fr h₀ L s.heap m) (X : (hd01.heap_39 w.params).In h₀) (hx : PyData.strOk x = true) (hb : (binders.any fun y => PyData.eqv y (.str x)) = b) (hu : A.units + 64 < cLine) (h : Q (.bool b) s) :
    wpAny (model prog w) A (compareOp .In (.str x t) (.ref 16)) Q E s := by
  have r : Reads s.heap (.ref 16) (.tuple binders) _ := reads_tuple_at (F.keep _ _ (X 16 _ rfl)) rfl rfl (.cons (.str _ _) (.cons (.str _ _) .nil))
  refine SeqAt.in_tuple_reads r (Reads.str x t) (by decide +kernel) (by simpa [PyData.canLay0] using hx) ?_ (by rw [hb]; exact h)
  have : PyData.depthAll binders ≤ 1 := by decide +kernel
  omega
end
/-- a formula's tuple and what lies directly under it -/
inductive Node (news : List (Addr × Obj)) : Value → List Value → Prop
  | at {a : Addr} {t u : Tok} {n : Nat} {b : Addr} : (a, tupO [.str (Str.ofString "atom") t, .str (Str.ofString "P") u, .ref b] n) ∈ news → Node news (.ref a) []
  | no {a : Addr} {t : Tok} {n : Nat} {v : Value} : (a, tupO [.str (Str.ofString "not") t, v] n) ∈ news → Node news (.ref a) [v]
  | all {a : Addr} {t u : Tok} {n : Nat} {x : Str} {v : Value} : (a, tupO [.str (Str.ofString "all") t, .str x u, v] n) ∈ news → Node news (.ref a) [v]
inductive DRel (news : List (Addr × Obj)) : List Value → (Value × List Value) → Prop
  | mk {v : Value} {cs : List Value} : Node news v cs → DRel news [v] (v, cs)
def DOut (news : List (Addr × Obj)) (r : Value) (d : Value × List Value) : Prop := ∃ (l : Addr) (n : Nat), r = .ref l ∧ (l, listOf d.2.toArray n) ∈ news
abbrev directT : ToldN (Value × List Value) where
  Rel := DRel
  Ok := fun _ => True
  size := fun _ => 20
  Tl := ktnAny
  Out := DOut
theorem direct_ok (w : World) (p : Program) (loose : List Str) (mean : ExcName → Option Value) (mg mb : Str → Option Value) :
    ∀ d, TellsN PySem.Challenge.rw_ui0505_01.row.prog w (hd01.heap_39 w.params) p loose mean mg mb 44 directT d := by
  k_fill
  k_with_none
  k_with "compareOp In str ref" => (first
    | (refine' in_joins false ?F ?X ?x ?b ?u ?_; (case F => k_asm); (case X => k_asm); (case x => decide +kernel); (case b => decide +kernel); (case u => ktr_units))
    | (refine' in_joins true ?F ?X ?x ?b ?u ?_; (case F => k_asm); (case X => k_asm); (case x => decide +kernel); (case b => decide +kernel); (case u => ktr_units))
    | (refine' in_binders false ?F ?X ?x ?b ?u ?_; (case F => k_asm); (case X => k_asm); (case x => decide +kernel); (case b => decide +kernel); (case u => ktr_units))
    | (refine' in_binders true ?F ?X ?x ?b ?u ?_; (case F => k_asm); (case X => k_asm); (case x => decide +kernel); (case b => decide +kernel); (case u => ktr_units)))
  intro d
  unfold TellsN
  intro dp un gd cn cs a ccd cl outer A₀ base h₀ L m news s vs Q E B F X N T hk hR hok hd hu hret
  simp only at hok hd hu
  cases hR with
  | @mk v cs hN =>
  cases hN
  all_goals (
    refine wpAny_call ?_
    k_dflt ktr_enter
    k_steps)
  all_goals first
    | exact hret _ [_] _ _ (by k_asm) (ktn_tl1 (by k_asm)) (ktn_ord1 (by ktn_lt)) trivial ⟨_, _, rfl, ktn_new⟩

end Mine
end
section
open PySem PySem.W PyProof.Rows PyProof.V PySem.Spec
namespace Mine
/-- what holds of every heap of the run -/
structure Gnd (w : World) (p : Program) (loose : List Str) (mean : ExcName → Option Value) (mg mb : Str → Option Value) (h₀ : Heap) : Prop where
  X : (hd01.heap_39 w.params).In h₀
  T : Top p loose mean mg mb h₀
theorem new9 {h : Heap} {news : List (Addr × Obj)} {l : Addr} (h1 : (hideAll h (news.map (·.1))).get? l = none) (h2 : ∀ q ∈ news, q.1 ≠ l) : h.get? l = none := by
  cases e : h.get? l with
  | none => rfl
  | some o =>
    rw [hideAll_get _ e fun q => by obtain ⟨x, hx, q⟩ := List.mem_map.mp q; exact h2 x hx q] at h1
    cases h1
theorem direct_at (w : World) (p : Program) (loose : List Str) (mean : ExcName → Option Value) (mg mb : Str → Option Value) {A : Around} {E : Value → Shared → Prop} {s : Shared} {h₀ : Heap} {v : Value} {news : List (Addr × Obj)} {Q : Value → Shared → Prop}
    (g : Gnd w p loose mean mg mb h₀) (hb : ∀ b o, h₀.get? b = some o → s.heap.get? b = some o) (hn : ∀ q ∈ news, s.heap.get? q.1 = some q.2 ∧ h₀.get? q.1 = none)
    (hd : A.depth + 8 < recursionLimit) (hu : A.units + 128 < cLine) {cs : List Value} (hN : Node news v cs)
    (h : ∀ h' tk' l k, (∀ b o, s.heap.get? b = some o → h'.get? b = some o) → s.heap.get? l = none → h'.get? l = some (listOf cs.toArray k) → Q (.ref l) { s with heap := h', toks := tk' }) :
    wpAny (model PySem.Challenge.rw_ui0505_01.row.prog w) A (call (.ref 44) [v]) Q E s := by
  obtain ⟨gX, gT⟩ := g
  revert gX
  k_fill
  intro gX
  k_with_none
  k_with "compareOp In str ref" => (first
    | (refine' in_joins false ?F ?X ?x ?b ?u ?_; (case F => k_asm); (case X => k_asm); (case x => decide +kernel); (case b => decide +kernel); (case u => ktr_units))
    | (refine' in_joins true ?F ?X ?x ?b ?u ?_; (case F => k_asm); (case X => k_asm); (case x => decide +kernel); (case b => decide +kernel); (case u => ktr_units))
    | (refine' in_binders false ?F ?X ?x ?b ?u ?_; (case F => k_asm); (case X => k_asm); (case x => decide +kernel); (case b => decide +kernel); (case u => ktr_units))
    | (refine' in_binders true ?F ?X ?x ?b ?u ?_; (case F => k_asm); (case X => k_asm); (case x => decide +kernel); (case b => decide +kernel); (case u => ktr_units)))
  have st : h₀.StaysIn (hideAll s.heap (news.map (·.1))) := fun b o e => hideAll_get _ (hb b o e) fun q => by
    obtain ⟨x, hx, rfl⟩ := List.mem_map.mp q
    rw [(hn x hx).2] at e; cases e
  have X' := gX.keeps st
  have T' := gT.keeps st
  have XS := gX.keeps hb
  refine wpAny_call ?_
  refine codeAny_call_def (binds := [(Str.ofString "f", v)]) (by omega) (XS 44 _ rfl) rfl (gT.nolimit.keeps hb) (codeRec_of XS (by rfl)) rfl (BindsTo.of_eq rfl) (by decide) (by intro x hx; rw [List.mem_singleton.mp hx]; rfl) (fun h₁ hns hk₁ => ?_)
  have F' : Fr (hideAll s.heap (news.map (·.1))) s.heap.objs.size h₁ _ := ⟨hns, fun b o e => hk₁ b o (of_hideAll _ e), Nat.le_of_eq (hideAll_size _ _)⟩
  have N' : News (hideAll s.heap (news.map (·.1))) s.heap.objs.size h₁ news := fun q hq => ⟨hk₁ _ _ (hn q hq).1, Nat.ne_of_lt (Heap.lt_size (hn q hq).1), hideAll_none _ (List.mem_map_of_mem hq)⟩
  have fin : ∀ h' m', Fr (hideAll s.heap (news.map (·.1))) s.heap.objs.size h' m' → News (hideAll s.heap (news.map (·.1))) s.heap.objs.size h' news → ∀ b o, s.heap.get? b = some o → h'.get? b = some o := fun h' m' F9 N9 b o e => by
    by_cases q : b ∈ news.map (·.1)
    · obtain ⟨x, hx, rfl⟩ := List.mem_map.mp q
      rw [(hn x hx).1] at e; cases e
      exact (N9 x hx).1
    · exact F9.keep b o (hideAll_get _ e q)
  clear hns XS
  show wpAny _ (A.deeper (envOf (Str.ofString "direct") _ s.heap.objs.size 44 (.ref 43))) (execs _ (envOf (Str.ofString "direct") _ s.heap.objs.size 44 (.ref 43))) _ _ _
  cases hN
  all_goals (
    (with_reducible show wpAny _ _ _ _ _ _)
    k_steps)
  all_goals (
    (rename Fr _ _ _ _ => F9)
    (rename News _ _ _ _ => N9)
    refine h _ _ _ _ (fin _ _ F9 fun q hq => N9 q (List.mem_cons_of_mem _ hq)) ?_ (N9 _ List.mem_cons_self).1
    refine new9 (N9 _ List.mem_cons_self).2.2 fun q hq => Nat.ne_of_lt (ktn_ltOf (by first | with_reducible assumption | exact allLt_of (by with_reducible assumption)) q hq))
end Mine
end
section
open PySem PySem.W PyProof.Rows PyProof.V PySem.Spec
namespace Mine
/-- the body of parts, its places aside -/
abbrev bodyP (q : Nat → Pos) : List Stmt :=
  [.Expr (.Yield (some (.Name (Str.ofString "f") (q 0))) (q 1)) (q 2),
   .For (.Name (Str.ofString "g") (q 3)) (.Call (.Name (Str.ofString "direct") (q 4)) [.Name (Str.ofString "f") (q 5)] [] (q 6))
     [.Expr (.YieldFrom (.Call (.Name (Str.ofString "parts") (q 7)) [.Name (Str.ofString "g") (q 8)] [] (q 9)) (q 10)) (q 11)] [] (q 12)]
abbrev envP (sc : Scope) (L : Addr) : Env := envOf (Str.ofString "parts") sc L 51 (.ref 50)
structure ScP (sc : Scope) : Prop where
  kind : sc.kind = .function
  co : sc.isCoroutine = false
  cell : ∀ x ∈ sc.names, x.2 ≠ .cell
  f : sc.names.lookup (Str.ofString "f") = some .local
  g : sc.names.lookup (Str.ofString "g") = some .local
  direct : sc.names.lookup (Str.ofString "direct") = some .globalImplicit
  parts : sc.names.lookup (Str.ofString "parts") = some .globalImplicit
def posOf (l : List Pos) (n : Nat) : Pos := l.getD n default
theorem parts_is (w : World) : ∃ (ps : List Pos) (sc : Scope) (fd : FuncData) (o : Obj), (hd01.heap_39 w.params).lookup 51 = some o ∧ o.data = .func fd ∧ fd.body = .stmts (bodyP (posOf ps)) ∧ fd.scope = sc ∧ fd.scope.isGenerator = true ∧ fd.code = .ref 50 ∧ fd.qualname = Str.ofString "parts" ∧
    (∀ L, callEnv fd L 51 = envP sc L) ∧ (∀ v, ∀ s : Shared, BindsTo s fd ⟨[v], []⟩ [(Str.ofString "f", v)]) ∧ codeIn (hd01.heap_39 w.params) (.ref 50) (Str.ofString "parts") = true ∧ ScP sc :=
  ⟨[_, _, _, _, _, _, _, _, _, _, _, _, _], _, _, _, rfl, rfl, rfl, rfl, rfl, rfl, rfl, fun _ => rfl, fun _ _ => BindsTo.of_eq rfl, rfl, ⟨rfl, rfl, by decide, rfl, rfl, rfl, rfl⟩⟩
end Mine
end
section
open PySem PySem.W PyProof.Rows PyProof.V PySem.Spec
namespace Mine
abbrev prog1 : Program := PySem.Challenge.rw_ui0505_01.row.prog
/-- the text's parts, as the world has it -/
structure PartsIs (w : World) (q : Nat → Pos) (sc : Scope) : Prop where
  is : ∃ (fd : FuncData) (o : Obj), (hd01.heap_39 w.params).lookup 51 = some o ∧ o.data = .func fd ∧ fd.body = .stmts (bodyP q) ∧ fd.scope = sc ∧ fd.scope.isGenerator = true ∧ fd.code = .ref 50 ∧ fd.qualname = Str.ofString "parts" ∧
    (∀ L, callEnv fd L 51 = envP sc L) ∧ (∀ v, ∀ s : Shared, BindsTo s fd ⟨[v], []⟩ [(Str.ofString "f", v)]) ∧ codeIn (hd01.heap_39 w.params) (.ref 50) (Str.ofString "parts") = true
  sc : ScP sc
theorem parts_Is (w : World) : ∃ q sc, PartsIs w q sc := by
  obtain ⟨ps, sc, fd, o, h⟩ := parts_is w
  obtain ⟨h1, h2, h3, h4, h5, h6, h7, h8, h9, h10, h11⟩ := h
  exact ⟨posOf ps, sc, ⟨fd, o, h1, h2, h3, h4, h5, h6, h7, h8, h9, h10⟩, h11⟩
theorem parts_at {w : World} {p : Program} {loose : List Str} {mean : ExcName → Option Value} {mg mb : Str → Option Value} {A : Around} {E : Value → Shared → Prop} {s : Shared} {h₀ : Heap} {v : Value} {q : Nat → Pos} {sc : Scope} {Q : Value → Shared → Prop}
    (P : PartsIs w q sc) (g : Gnd w p loose mean mg mb h₀) (hb : ∀ b o, h₀.get? b = some o → s.heap.get? b = some o) (hd : A.depth + 8 < recursionLimit)
    (h : ∀ h' tk' it o, (∀ b o, s.heap.get? b = some o → h'.get? b = some o) → h'.Ns s.heap.objs.size (fun x => [(Str.ofString "f", v)].lookup x) → s.heap.objs.size < it → h'.get? it = some o → GenAt o s.gens.size → o.slots = #[] →
      Q (.ref it) { s with heap := h', toks := tk', gens := s.gens.push (.fresh (.func (bodyP q) (envP sc s.heap.objs.size))) }) :
    wpAny (model prog1 w) A (call (.ref 51) [v]) Q E s := by
  obtain ⟨fd, o, h1, h2, h3, h4, h5, h6, h7, h8, h9, h10⟩ := P.is
  have XS := g.X.keeps hb
  have hcd : s.heap.CodeRec fd.code fd.qualname := by rw [h6, h7]; exact codeRec_of XS h10
  have hk : fd.scope.kind = .function := by rw [h4]; exact P.sc.kind
  refine wpAny_call (codeAny_call_generator (by omega) (XS 51 _ h1) h2 (by rw [h4]; exact P.sc.co) h5 h3 hcd ?_)
  refine h9 v s _ _ _ _ ?_
  refine wpAny_newFunctionEnv (by rw [h4]; exact P.sc.cell) (by intro x hx; rw [List.mem_singleton.mp hx, h4]; exact P.sc.f) (fun h₁ hns hsb => ?_) hk
  have hext : ∀ b ob, s.heap.get? b = some ob → h₁.get? b = some ob := fun b ob e => hsb.extBut b ob (Nat.ne_of_lt (Heap.lt_size e)) (Heap.get?_push_of_some _ e)
  refine ⟨g.T.nolimit.keeps fun b o e => hext b o (hb b o e), ?_⟩
  have key := h (h₁.push { cls := .type "generator", data := .fields #[.int s.gens.size 0, .str fd.name (s.toks + 1), .str fd.qualname (s.toks + 1 + 1)] }) (s.toks + 1 + 1 + 1) h₁.objs.size _ (fun b o e => Heap.get?_push_of_some _ (hext b o e)) (hns.at' fun o e => Heap.get?_push_of_some _ e) hns.lt (Heap.get?_push_size _ rfl) ⟨rfl, ⟨_, _, rfl⟩, .inl rfl⟩ rfl
  have he := h8 s.heap.objs.size
  rw [← he] at key
  exact key
end Mine
end
section
open PySem PySem.W PyProof.Rows PyProof.V PySem.Spec PySem.Calls
namespace Mine
section
variable {w : World} {p : Program} {loose : List Str} {mean : ExcName → Option Value} {mg mb : Str → Option Value} {A : Around} {E : Value → Shared → Prop} {s : Shared} {h₀ : Heap} {v : Value} {Q : Value → Shared → Prop} {env : Env}
theorem call1_at {fn x : Str} {p1 p2 pos : Pos} {m : Str → Option Value} {f : Addr} (g : Gnd w p loose mean mg mb h₀) (hb : ∀ b o, h₀.get? b = some o → s.heap.get? b = some o) (hk : env.scope.kind = .function) (hfn : env.kindOf fn = some .globalImplicit) (hx : env.kindOf x = some .local) (hgl : env.globals = mainGlobals)
    (hn : s.heap.Ns env.locals m) (hm : m x = some v) (e : nsIn (hd01.heap_39 w.params) mainGlobals fn = some (some (.ref f))) (hki : keepIn (hd01.heap_39 w.params) (.ref f) = true) (hd1 : (fn == ("__debug__" : Str)) = false) (hd2 : (x == ("__debug__" : Str)) = false)
    (h : wpAny (model prog1 w) A (call (.ref f) [v]) Q E s) : wpAny (model prog1 w) A (eval (.Call (.Name fn p1) [.Name x p2] [] pos) env) Q E s := by
  refine wpAny_Call_Name_kw (Name_function_global hk hfn (loadGlobal_global (hgl ▸ (g.T.keeps hb).g) (mg_of g.X g.T.g e) ?_) hd1)
  refine callWith_K (first := []) g.X hki ?_
  refine spliced_more (wpAny_Name (wpAny_loadName_local hk hx hn hm ?_) hd2)
  exact spliced_none ⟨g.X.keeps hb, h⟩
end
/-- a formula's node on the heap -/
def NodeH (h₀ h : Heap) (v : Value) (cs : List Value) : Prop := ∃ a o, v = .ref a ∧ h.get? a = some o ∧ h₀.get? a = none ∧ (∃ vs n, o = tupO vs n) ∧ Node [(a, o)] v cs
/-- a formula's nodes, one under the other -/
inductive Chain (h₀ h : Heap) : Value → List Value → Prop
  | last {v : Value} : NodeH h₀ h v [] → Chain h₀ h v [v]
  | more {v v' : Value} {vs : List Value} : NodeH h₀ h v [v'] → Chain h₀ h v' vs → Chain h₀ h v (v :: vs)
theorem NodeH.mono {h₀ h h' : Heap} {v : Value} {cs : List Value} (x : NodeH h₀ h v cs) (k : ∀ a vs n, h.get? a = some (tupO vs n) → h'.get? a = some (tupO vs n)) : NodeH h₀ h' v cs :=
  let ⟨a, o, h1, h2, h3, ⟨vs, n, h4⟩, h5⟩ := x; ⟨a, o, h1, h4 ▸ k a vs n (h4 ▸ h2), h3, ⟨vs, n, h4⟩, h5⟩
theorem Chain.mono {h₀ h h' : Heap} {v : Value} {vs : List Value} (x : Chain h₀ h v vs) (k : ∀ a vs n, h.get? a = some (tupO vs n) → h'.get? a = some (tupO vs n)) : Chain h₀ h' v vs := by
  induction x with
  | last h => exact .last (h.mono k)
  | more h _ ih => exact .more (h.mono k) ih
theorem Chain.child {h₀ h : Heap} {v v' : Value} {vs : List Value} (x : Chain h₀ h v (v :: v' :: vs)) : NodeH h₀ h v [v'] ∧ Chain h₀ h v' (v' :: vs) := by
  cases x with
  | more h c => cases c with
    | last h' => exact ⟨h, .last h'⟩
    | more h' c' => exact ⟨h, .more h' c'⟩
theorem Chain.single {h₀ h : Heap} {v : Value} (x : Chain h₀ h v [v]) : NodeH h₀ h v [] := by
  cases x with
  | last h => exact h
  | more h c => cases c
theorem Chain.head {h₀ h : Heap} {v x : Value} {vs : List Value} (c : Chain h₀ h v (x :: vs)) : x = v := by
  cases c <;> rfl
end Mine
end
section
open PySem PySem.W PyProof.Rows PyProof.V PySem.Spec PySem.Calls
namespace Mine
abbrev forP (q : Nat → Pos) : Stmt := .For (.Name (Str.ofString "g") (q 3)) (.Call (.Name (Str.ofString "direct") (q 4)) [.Name (Str.ofString "f") (q 5)] [] (q 6))
     [.Expr (.YieldFrom (.Call (.Name (Str.ofString "parts") (q 7)) [.Name (Str.ofString "g") (q 8)] [] (q 9)) (q 10)) (q 11)] [] (q 12)
abbrev fbP (q : Nat → Pos) : List Stmt := [.Expr (.YieldFrom (.Call (.Name (Str.ofString "parts") (q 7)) [.Name (Str.ofString "g") (q 8)] [] (q 9)) (q 10)) (q 11)]
/-- a fresh generator of parts runs through the nodes -/
def FreshDoes (G : Shared → Thread → Prop) (h₀ : Heap) (q : Nat → Pos) (sc : Scope) (v : Value) (vs : List Value) : Prop :=
  ∀ (s : Shared) (g : Nat) (L : Addr), s.gens[g]? = some (.fresh (.func (bodyP q) (envP sc L))) → (∃ m, s.heap.Ns L m ∧ m (Str.ofString "f") = some v) → h₀.get? L = none →
    GenDoes G h₀ vs.length (fun h => Chain h₀ h v vs) vs g (fun a => a = L) (fun i => i = g) s
theorem gens_lt {s : Shared} {g : Nat} {x : GenState} (h : s.gens[g]? = some x) : g < s.gens.size := by
  rcases Nat.lt_or_ge g s.gens.size with h' | h'
  · exact h'
  · rw [Array.getElem?_eq_none h'] at h; cases h
theorem ns_of {h h' : Heap} {L : Addr} {m : Str → Option Value} (hn : h.Ns L m) (e : h'.get? L = h.get? L) : h'.Ns L m :=
  hn.at' fun _ x => e.trans x
theorem int_P {sc : Scope} {L : Addr} (h : sc.kind = .function) : interactive (envP sc L) = false := by
  show (sc.kind == .module && _) = false
  rw [h]; rfl
section
variable {w : World} {p : Program} {loose : List Str} {mean : ExcName → Option Value} {mg mb : Str → Option Value} {h₀ : Heap} {q : Nat → Pos} {sc : Scope} {G : Shared → Thread → Prop}
theorem stB_does (hG : Back (model prog1 w) G) (hz : Lazy G) (P : PartsIs w q sc) (gd : Gnd w p loose mean mg mb h₀) {kB : Resume → Sem Fin} {v : Value} {vs' : List Value} {L : Addr}
    (hB2 : ∀ (A : Around) (base fs : List Frame) (c : Code) (s : Shared), SegL G A base c ((execs [forP q] (envP sc L)).wrap Kf (Hf (envP sc L)) id id) fs s → SegL G A base c (kB (.send .none)) fs s)
    (IH : ∀ v' vs'', vs' = v' :: vs'' → FreshDoes G h₀ q sc v' vs') (s : Shared) (g : Nat) (hgen : ∃ p, s.gens[g]? = some (.suspended kB [] (.func (bodyP q) (envP sc L)) p [] false)) (hns : ∃ m, s.heap.Ns L m ∧ m (Str.ofString "f") = some v) (hL0 : h₀.get? L = none) :
    GenDoes G h₀ (vs'.length + 1) (fun h => Chain h₀ h v (v :: vs')) vs' g (fun a => a = L) (fun i => i = g) s := by
  obtain ⟨p0, hgen⟩ := hgen
  obtain ⟨m, hns, hm⟩ := hns
  have hkn := P.sc.kind
  have hint : interactive (envP sc L) = false := int_P hkn
  have common : ∀ (s₁ : Shared) (A : Around) (cs : List Value) (base : List Frame), (∀ b o, h₀.get? b = some o → s₁.heap.get? b = some o) → s₁.heap.Ns L m → AOk (vs'.length + 1) A → NodeH h₀ s₁.heap v cs →
      (∀ h' tk' l k itr (p1 : Pos), (∀ b o, s₁.heap.get? b = some o → h'.get? b = some o) → s₁.heap.get? l = none → h'.get? l = some (listOf cs.toArray k) → s₁.heap.get? itr = none → h'.IsListIter itr l 0 → l ≠ itr →
        SegL G A base (.forLoop (.Name (Str.ofString "g") (q 3)) (.ref itr) (fbP q) [] (envP sc L)) ((model prog1 w).den (.forLoop (.Name (Str.ofString "g") (q 3)) (.ref itr) (fbP q) [] (envP sc L)))
          [fr1 (kFor (envP sc L) (fun f => match f with | .next => (execs [] (envP sc L)).wrap Kf (Hf (envP sc L)) id id | f => Kf f) (Hf (envP sc L))) (.func (bodyP q) (envP sc L)) p1] { s₁ with heap := h', toks := tk' }) →
      SegL G A base (.func (bodyP q) (envP sc L)) ((execs [forP q] (envP sc L)).wrap Kf (Hf (envP sc L)) id id) [] s₁ := by
    intro s₁ A cs base hb hn1 aok hN hcont
    obtain ⟨o1, o2, o3⟩ := over0 (body := bodyP q) (env := envP sc L) aok
    obtain ⟨a, ob, rfl, ha, ha0, _, hNode⟩ := hN
    rw [execs_cons_wrap]
    refine segL_For hG (fun _ => rfl) ?_
    refine call1_at gd hb hkn P.sc.direct P.sc.f rfl hn1 hm (f := 44) rfl rfl (by decide) (by decide) ?_
    refine direct_at w p loose mean mg mb (news := [(a, ob)]) gd hb (fun x hx => by rw [List.mem_singleton.mp hx]; exact ⟨ha, ha0⟩) (by rw [o2]; have := aok.depth; omega) (by rw [o3]; have := aok.units; omega) hNode ?_
    intro h' tk' l k hkeep hl0 hl
    refine wpAny_pyIter_list (items := cs.toArray) ⟨_, hl, rfl, _, rfl⟩ ?_
    intro p1
    have hlt : l ≠ h'.objs.size := fun e => absurd (Heap.lt_size hl) (by rw [e]; exact Nat.lt_irrefl _)
    refine hcont _ tk' l k h'.objs.size p1 (fun b o e => Heap.get?_push_of_some _ (hkeep b o e)) hl0 (Heap.get?_push_of_some _ hl) ?_ ⟨_, Heap.get?_push_size _ rfl, rfl, rfl⟩ hlt
    cases e : s₁.heap.get? h'.objs.size with
    | none => rfl
    | some o9 => exact absurd (Heap.lt_size (hkeep _ _ e)) (Nat.lt_irrefl _)
  cases vs' with
  | nil =>
    refine ⟨⟨_, hgen, .inr rfl⟩, rfl, fun s₁ A lt hc aok => ?_⟩
    intro Γ p9 st hΓ hf l9 k hk
    refine hG.I (step_resume_suspended _ _ _ _ _ _ _ _ ((lt.gens g rfl).trans hgen)) ?_
    refine hB2 A _ [] _ (s₁.setGen g .running) ?_ (Γ.wake (.func (bodyP q) (envP sc L)) p9) p0 rfl (hΓ.wake _ _) (hf.wake _ _ _ _ _)
    refine common _ A [] _ lt.base (ns_of hns (lt.own L rfl)) aok hc.single ?_
    intro h' tk' l kk itr p1 hkeep hl0 hl hi0 hiter hne
    refine segL_turn hG ?_
    obtain ⟨q1, q2, q3⟩ := over1 (k := kFor (envP sc L) (fun f => match f with | .next => (execs [] (envP sc L)).wrap Kf (Hf (envP sc L)) id id | f => Kf f) (Hf (envP sc L))) (body := bodyP q) (env := envP sc L) (p := p1) (tgt := .Name (Str.ofString "g") (q 3)) (it := .ref itr) (fb := fbP q) (oe := []) aok
    refine wpAny_pyNext_list_end (l := l) (i := 0) (items := ([] : List Value).toArray) q1 hiter ⟨_, hl, rfl, _, rfl⟩ rfl (fun h5 hext => ?_)
    refine segL_block hG ?_
    show SegL G A _ _ (leafOf (.ok (.ret .none))) [] _
    refine segL_end hG (.ok (.ret .none)) ?_
    have hgl : g < s₁.gens.size := gens_lt ((lt.gens g rfl).trans hgen)
    have hsz : ((s₁.setGen g .running).setGen g .finished).gens.size = s₁.gens.size := by rw [setGen_size, setGen_size]
    have hfin : ((s₁.setGen g .running).setGen g .finished).gens[g]? = some .finished := setGen_self (by rw [setGen_size]; exact hgl)
    refine hk _ _ ⟨rfl, (fun _ => False), (fun i => i = g), ⟨?_, (fun _ h => h.elim), (fun _ h => h.elim), ?_, ?_, ?_, ?_, (fun _ h => h), ?_, rfl, ?_⟩, ?_⟩
    · intro a ob e hXa
      have h2 : a ≠ itr := fun q9 => by
        have e' : s₁.heap.get? a = some ob := e
        have hi0' : s₁.heap.get? itr = none := hi0
        rw [q9, hi0'] at e'; cases e'
      exact hext a ob h2 (hkeep a ob e)
    · intro i hi hne9
      exact (setGen_ne hne9).trans (setGen_ne hne9)
    · show s₁.gens.size ≤ ((s₁.setGen g .running).setGen g .finished).gens.size
      rw [hsz]; exact Nat.le_refl _
    · exact fun i hi => .inl hi
    · intro i hi
      show i < ((s₁.setGen g .running).setGen g .finished).gens.size
      rw [hsz, hi]; exact hgl
    · intro i h1 h2
      have h2' : i < ((s₁.setGen g .running).setGen g .finished).gens.size := h2
      rw [hsz] at h2'
      exact absurd h2' (Nat.not_lt.mpr h1)
    · intro i x hi e
      subst hi
      have e' : ((s₁.setGen i .running).setGen i .finished).gens[i]? = some x := e
      rw [hfin] at e'
      cases e'; trivial
    · intro i hi
      subst hi
      exact hfin
  | cons v' vs'' =>
    refine ⟨⟨_, hgen, .inr rfl⟩, rfl, fun s₁ A lt hc aok => ?_⟩
    intro Γ p9 st hΓ hf l9 k hk
    refine hG.I (step_resume_suspended _ _ _ _ _ _ _ _ ((lt.gens g rfl).trans hgen)) ?_
    refine hB2 A _ [] _ (s₁.setGen g .running) ?_ (Γ.wake (.func (bodyP q) (envP sc L)) p9) p0 rfl (hΓ.wake _ _) (hf.wake _ _ _ _ _)
    obtain ⟨hN, hC⟩ := hc.child
    refine common _ A [v'] _ lt.base (ns_of hns (lt.own L rfl)) aok hN ?_
    intro h' tk' l kk itr p1 hkeep hl0 hl hi0 hiter hne
    have hl0' : s₁.heap.get? l = none := hl0
    have hi0' : s₁.heap.get? itr = none := hi0
    have hkeep' : ∀ b o, s₁.heap.get? b = some o → h'.get? b = some o := hkeep
    have hn1 : s₁.heap.Ns L m := ns_of hns (lt.own L rfl)
    have hLs : ∃ oL, s₁.heap.get? L = some oL := let ⟨oL, _, _, e, _⟩ := hn1; ⟨oL, e⟩
    have hLitr : L ≠ itr := fun e => by obtain ⟨oL, e9⟩ := hLs; rw [e, hi0'] at e9; cases e9
    have hLl : L ≠ l := fun e => by obtain ⟨oL, e9⟩ := hLs; rw [e, hl0'] at e9; cases e9
    have hgl : g < s₁.gens.size := gens_lt ((lt.gens g rfl).trans hgen)
    refine segL_turn hG ?_
    refine wpAny_pyNext_list_item (l := l) (i := 0) (items := [v'].toArray) (x := v') hiter ⟨_, hl, rfl, _, rfl⟩ rfl (fun h2 hit2 hsb2 => ?_)
    show wpAny _ _ (pure ()) _ _ _
    refine wpAny_pure ?_
    have hn2 : h2.Ns L m := (hn1.at' fun o e => hkeep' L o e).at' fun o e => (hsb2.2 L hLitr).trans e
    refine wpAny_assign_Name (wpAny_storeName_local (m := m) P.sc.g hn2 (fun h3 hn3 hsb3 => ?_) (by show (sc.kind == .class || (sc.kind == .module && L != mainGlobals)) = false; rw [hkn]; rfl))
    have hb3 : ∀ b o, h₀.get? b = some o → h3.get? b = some o := fun b o e => by
      have e1 := lt.base b o e
      have n1 : b ≠ itr := fun x => by rw [x, hi0'] at e1; cases e1
      have n2 : b ≠ L := fun x => by rw [x, hL0] at e; cases e
      exact (hsb3.2 b n2).trans ((hsb2.2 b n1).trans (hkeep' b o e1))
    have k3 : ∀ b o, b ≠ L → s₁.heap.get? b = some o → h3.get? b = some o := fun b o n2 e1 => by
      have n1 : b ≠ itr := fun x => by rw [x, hi0'] at e1; cases e1
      exact (hsb3.2 b n2).trans ((hsb2.2 b n1).trans (hkeep' b o e1))
    have hiter3 : h3.IsListIter itr l 1 := by
      obtain ⟨oi, e1, e2⟩ := hit2
      exact ⟨oi, (hsb3.2 itr (Ne.symm hLitr)).trans e1, e2⟩
    have hlist3 : h3.get? l = some (listOf [v'].toArray kk) := (hsb3.2 l (Ne.symm hLl)).trans ((hsb2.2 l hne).trans hl)
    rw [execs_cons_wrap]
    refine segL_yieldFrom hG hint ?_
    refine call1_at (v := v') gd hb3 hkn P.sc.parts P.sc.g rfl hn3 (if_pos rfl) (f := 51) rfl rfl (by decide) (by decide) ?_
    obtain ⟨q1, q2, q3⟩ := over1 (k := kFor (envP sc L) (fun f => match f with | .next => (execs [] (envP sc L)).wrap Kf (Hf (envP sc L)) id id | f => Kf f) (Hf (envP sc L))) (body := bodyP q) (env := envP sc L) (p := p1) (tgt := .Name (Str.ofString "g") (q 3)) (it := .ref itr) (fb := fbP q) (oe := []) aok
    refine parts_at P gd hb3 (by rw [q2]; have := aok.depth; omega) ?_
    intro h4 tk4 it o hk4 hns4 hLt hit hga hsl
    have hLt' : @LT.lt Nat _ h3.objs.size it := hLt
    have hk4' : ∀ b o, h3.get? b = some o → h4.get? b = some o := hk4
    obtain ⟨hgc, ⟨nm, qn, hgd⟩, hgs⟩ := id hga
    refine ⟨it, _, o, rfl, hit, ⟨o, nm, qn, hit, hgc, hgd, hsl⟩, fun k2 hk2 p2 => ?_⟩
    obtain ⟨k₀, hk₀⟩ := yf_all prog1 w it
    obtain ⟨hY1, hY2⟩ := hk₀ G hG hz
    -- the new one
    have hgn : (s₁.setGen g .running).gens.size = s₁.gens.size := setGen_size
    have hb4 : ∀ b o, h₀.get? b = some o → h4.get? b = some o := fun b o e => hk4' b o (hb3 b o e)
    have lt3 : ∀ b ob, h3.get? b = some ob → b ≠ h3.objs.size := fun b ob e x => absurd (Heap.lt_size e) (by rw [x]; exact Nat.lt_irrefl _)
    have hit3 : ∀ ob, h3.get? it ≠ some ob := fun ob e => absurd (Heap.lt_size e) (Nat.not_lt.mpr (Nat.le_of_lt hLt'))
    have hL0' : h₀.get? h3.objs.size = none := by
      cases e : h₀.get? h3.objs.size with
      | none => rfl
      | some ob => exact absurd rfl (lt3 _ ob (hb3 _ _ e))
    obtain ⟨oL3, hoL3⟩ : ∃ oL, h3.get? L = some oL := let ⟨oL, _, _, e, _⟩ := hn3; ⟨oL, e⟩
    have hoi3 : ∃ oi, h3.get? itr = some oi := let ⟨oi, e, _⟩ := hiter3; ⟨oi, e⟩
    have exists3 : ∀ b, (b = itr ∨ b = l ∨ b = L) → ∃ ob, h3.get? b = some ob := by
      rintro b (rfl | rfl | rfl)
      · exact hoi3
      · exact ⟨_, hlist3⟩
      · exact ⟨_, hoL3⟩
    have hitne : ∀ b, (b = itr ∨ b = l ∨ b = L) → it ≠ b := fun b hb9 e => by
      obtain ⟨ob, e9⟩ := exists3 b hb9
      exact hit3 ob (e ▸ e9)
    have fr := IH v' vs'' rfl { s₁.setGen g .running with heap := h4, toks := tk4, gens := (s₁.setGen g .running).gens.push (.fresh (.func (bodyP q) (envP sc h3.objs.size))) } (s₁.setGen g .running).gens.size h3.objs.size (by simp) ⟨_, hns4, by simp⟩ hL0'
    obtain ⟨_, _, hW⟩ := fr
    have hc4 : Chain h₀ h4 v' (v' :: vs'') := hC.mono fun a xs n9 e => by
      have e1 : s₁.heap.get? a = some (tupO xs n9) := e
      refine hk4' _ _ (k3 a _ (fun x => ?_) e1)
      obtain ⟨oL, es, ep, e2, e3, _⟩ := hn1
      rw [x, e2] at e1
      cases e1
      cases e3
    obtain ⟨o1, o2, o3⟩ := over2 (k := kFor (envP sc L) (fun f => match f with | .next => (execs [] (envP sc L)).wrap Kf (Hf (envP sc L)) id id | f => Kf f) (Hf (envP sc L))) (k' := k2) (body := bodyP q) (env := envP sc L) (p := p1) (p' := p2) (tgt := .Name (Str.ofString "g") (q 3)) (it := .ref itr) (fb := fbP q) (oe := []) (y := it) aok
    refine hY1 A g k l9 Γ.code p9 st _ _ (s₁.setGen g .running).gens.size o (.fresh (.func (bodyP q) (envP sc h3.objs.size))) (fun v1 s' => v1 = v' ∧ ∃ X' Y', Moves (fun a => a = h3.objs.size) X' (fun i => i = (s₁.setGen g .running).gens.size) Y' { s₁.setGen g .running with heap := h4, toks := tk4, gens := (s₁.setGen g .running).gens.push (.fresh (.func (bodyP q) (envP sc h3.objs.size))) } s' ∧ GenDoes G h₀ (v' :: vs'').length (fun h => Chain h₀ h v' (v' :: vs'')) vs'' (s₁.setGen g .running).gens.size X' Y' s') (fun _ => False)
      o1 (gd.T.nolimit.keeps hb4) (Nat.lt_of_le_of_lt (Nat.le_of_eq o2) (by have := aok.depth; omega)) hit hga (by simp) (.inl rfl) rfl rfl
      (fun Γ₂ q9 st₂ hΓ₂ hf₂ l₂ k₃ hk₃ => hW _ _ ⟨hb4, fun _ _ => rfl, fun _ _ => rfl, Nat.le_refl _⟩ hc4 (over2_in1 aok) Γ₂ q9 st₂ hΓ₂ hf₂ l₂ k₃ fun r s' hr => hk₃ r s' (.inl ⟨v', hr.1, rfl, hr.2⟩)) ?_ (fun _ x => x.elim)
    rintro v1 s5 ⟨rfl, XI, YI, mv, hD⟩
    have hitL' : it ≠ h3.objs.size := fun e => absurd hLt' (by rw [e]; exact Nat.lt_irrefl _)
    have hit5 : s5.heap.get? it = some o := mv.keep it o hit hitL'
    refine ⟨o, hit5, hga, fun h6 p6 hh6 hsb6 => ?_⟩
    have k6 : ∀ b ob, b ≠ it → b ≠ h3.objs.size → h4.get? b = some ob → h6.get? b = some ob := fun b ob n1 n2 e => (hsb6.2 b n1).trans (mv.keep b ob e n2)
    have k36 : ∀ b ob, b ≠ it → h3.get? b = some ob → h6.get? b = some ob := fun b ob n1 e => k6 b ob n1 (lt3 b ob e) (hk4' b ob e)
    have s4g : ({ s₁.setGen g .running with heap := h4, toks := tk4, gens := (s₁.setGen g .running).gens.push (.fresh (.func (bodyP q) (envP sc h3.objs.size))) } : Shared).gens.size = s₁.gens.size + 1 := by
      show ((s₁.setGen g .running).gens.push _).size = _
      rw [Array.size_push, hgn]
    have hg5 : g < s5.gens.size := by have := mv.gsz; rw [s4g] at this; omega
    have nYg : ¬ YI g := fun x => by
      rcases mv.gown g x with h | h
      · rw [hgn] at h; omega
      · rw [s4g] at h; omega
    have XIof : ∀ a, XI a → a = h3.objs.size ∨ h4.get? a = none := fun a ha => mv.own a ha
    have XIn : ∀ b, (b = it ∨ b = itr ∨ b = l ∨ b = L) → ¬ XI b := fun b hb9 hX => by
      have ex : ∃ ob, h4.get? b = some ob := by
        rcases hb9 with rfl | h9
        · exact ⟨_, hit⟩
        · obtain ⟨ob, e⟩ := exists3 b h9; exact ⟨ob, hk4' b ob e⟩
      have ne : b ≠ h3.objs.size := by
        rcases hb9 with rfl | h9
        · exact hitL'
        · obtain ⟨ob, e⟩ := exists3 b h9; exact lt3 b ob e
      obtain ⟨ob, e⟩ := ex
      rcases XIof b hX with h | h
      · exact ne h
      · rw [e] at h; cases h
    have hb6 : ∀ b ob, h₀.get? b = some ob → h6.get? b = some ob := fun b ob e => by
      have e3 := hb3 b ob e
      exact k36 b ob (fun x => hit3 ob (x ▸ e3)) e3
    have XI0 : ∀ a, XI a → h₀.get? a = none := fun a ha => by
      rcases XIof a ha with h | h
      · rw [h]; exact hL0'
      · cases e : h₀.get? a with
        | none => rfl
        | some ob => rw [hb4 a ob e] at h; cases h
    have stc : StC h₀ k₀ it itr l L g o [v1].toArray [fr1 k2 (.forLoop (.Name (Str.ofString "g") (q 3)) (.ref itr) (fbP q) [] (envP sc L)) p2, fr1 (kFor (envP sc L) (fun f => match f with | .next => (execs [] (envP sc L)).wrap Kf (Hf (envP sc L)) id id | f => Kf f) (Hf (envP sc L))) (.func (bodyP q) (envP sc L)) p1] XI YI
        (Shared.setGen { s5 with heap := h6 } g (.suspended k₀ [] (cY it) p6 [fr1 k2 (.forLoop (.Name (Str.ofString "g") (q 3)) (.ref itr) (fbP q) [] (envP sc L)) p2, fr1 (kFor (envP sc L) (fun f => match f with | .next => (execs [] (envP sc L)).wrap Kf (Hf (envP sc L)) id id | f => Kf f) (Hf (envP sc L))) (.func (bodyP q) (envP sc L)) p1] true)) := by
      refine ⟨⟨p6, setGen_self hg5⟩, nYg, fun a ha => ⟨fun x => XIn it (.inl rfl) (x ▸ ha), fun x => XIn itr (.inr (.inl rfl)) (x ▸ ha), fun x => XIn l (.inr (.inr (.inl rfl))) (x ▸ ha), fun x => XIn L (.inr (.inr (.inr rfl))) (x ▸ ha)⟩, hh6, ?_, ?_, ?_, ?_, ?_, ?_⟩
      · obtain ⟨oi, e1, e2⟩ := hiter3
        exact ⟨oi, k36 itr oi (Ne.symm (hitne itr (.inl rfl))) e1, e2⟩
      · exact ⟨_, k36 l _ (Ne.symm (hitne l (.inr (.inl rfl)))) hlist3, rfl, _, rfl⟩
      · rintro a (ha | rfl | ha)
        · obtain ⟨ob, e⟩ := mv.has a ha
          exact ⟨ob, (hsb6.2 a (fun x => XIn it (.inl rfl) (x ▸ ha))).trans e⟩
        · exact ⟨_, hh6⟩
        · obtain ⟨ob, e⟩ := exists3 a ha
          exact ⟨ob, k36 a ob (fun x => (hitne a ha) x.symm) e⟩
      · rintro a (ha | rfl | rfl | rfl | rfl)
        · exact XI0 a ha
        · cases e : h₀.get? a with
          | none => rfl
          | some ob => exact absurd (hb3 a ob e) (hit3 ob)
        · cases e : h₀.get? a with
          | none => rfl
          | some ob => have := lt.base a ob e; rw [hi0'] at this; cases this
        · cases e : h₀.get? a with
          | none => rfl
          | some ob => have := lt.base a ob e; rw [hl0'] at this; cases this
        · exact hL0
      · rintro i (hi | rfl)
        · show i < (Shared.setGen _ g _).gens.size
          rw [setGen_size]; exact mv.glow i hi
        · show i < (Shared.setGen _ i _).gens.size
          rw [setGen_size]; exact hg5
      · intro i x hi e
        have hig : i ≠ g := fun y => nYg (y ▸ hi)
        rw [setGen_ne hig] at e
        exact (mv.fine i x hi e).mono (fun _ h => h) fun a ob ha e' => (hsb6.2 a (fun y => XIn it (.inl rfl) (y ▸ ha))).trans e'
    have lt6 : Later h₀ XI YI s5 (Shared.setGen { s5 with heap := h6 } g (.suspended k₀ [] (cY it) p6 [fr1 k2 (.forLoop (.Name (Str.ofString "g") (q 3)) (.ref itr) (fbP q) [] (envP sc L)) p2, fr1 (kFor (envP sc L) (fun f => match f with | .next => (execs [] (envP sc L)).wrap Kf (Hf (envP sc L)) id id | f => Kf f) (Hf (envP sc L))) (.func (bodyP q) (envP sc L)) p1] true)) := by
      refine ⟨hb6, fun a ha => hsb6.2 a (fun x => XIn it (.inl rfl) (x ▸ ha)), fun i hi => setGen_ne (fun x => nYg (x ▸ hi)), ?_⟩
      show s5.gens.size ≤ (Shared.setGen _ g _).gens.size
      rw [setGen_size]; exact Nat.le_refl _
    refine hk _ _ ⟨rfl, XC it itr l L XI, YC g YI, ⟨?_, ?_, stc.has, ?_, ?_, ?_, stc.glow, ?_, ?_, ?_, ?_⟩, ?_⟩
    · intro a ob e hXa
      have e3 := k3 a ob hXa e
      exact k36 a ob (fun x => hit3 ob (x ▸ e3)) e3
    · have noit : ∀ a, h3.get? a = none → a ≠ L → s₁.heap.get? a = none := fun a e hL => by
        cases e9 : s₁.heap.get? a with
        | none => rfl
        | some ob => rw [k3 a ob hL e9] at e; cases e
      rintro a (ha | rfl | rfl | rfl | rfl)
      · right
        rcases XIof a ha with h | h
        · subst h
          refine noit _ ?_ (fun x => ?_)
          · cases e : h3.get? h3.objs.size with
            | none => rfl
            | some ob => exact absurd rfl (lt3 _ ob e)
          · rw [← x] at hoL3; exact absurd rfl (lt3 _ _ hoL3)
        · refine noit a ?_ (fun x => XIn L (.inr (.inr (.inr rfl))) (x ▸ ha))
          cases e : h3.get? a with
          | none => rfl
          | some ob => rw [hk4' a ob e] at h; cases h
      · right
        refine noit a ?_ (hitne L (.inr (.inr rfl)))
        cases e : h3.get? a with
        | none => rfl
        | some ob => exact absurd e (hit3 ob)
      · exact .inr hi0'
      · exact .inr hl0'
      · exact .inl rfl
    · intro i hi hne9
      have hi4 : i < ({ s₁.setGen g .running with heap := h4, toks := tk4, gens := (s₁.setGen g .running).gens.push (.fresh (.func (bodyP q) (envP sc h3.objs.size))) } : Shared).gens.size := by rw [s4g]; omega
      refine (setGen_ne hne9).trans ?_
      refine (mv.gkeep i hi4 (by rw [hgn]; omega)).trans ?_
      show ((s₁.setGen g .running).gens.push _)[i]? = _
      rw [Array.getElem?_push, if_neg (by rw [hgn]; omega)]
      exact setGen_ne hne9
    · have := mv.gsz
      rw [s4g] at this
      show s₁.gens.size ≤ (Shared.setGen _ g _).gens.size
      rw [setGen_size]
      show s₁.gens.size ≤ s5.gens.size
      omega
    · rintro i (hi | rfl)
      · rcases mv.gown i hi with h | h
        · right; rw [hgn] at h; omega
        · right; rw [s4g] at h; omega
      · exact .inl rfl
    · rintro i rfl
      exact .inr rfl
    · intro i h1 h2
      have h2' : i < (Shared.setGen { s5 with heap := h6 } g (.suspended k₀ [] (cY it) p6 [fr1 k2 (.forLoop (.Name (Str.ofString "g") (q 3)) (.ref itr) (fbP q) [] (envP sc L)) p2, fr1 (kFor (envP sc L) (fun f => match f with | .next => (execs [] (envP sc L)).wrap Kf (Hf (envP sc L)) id id | f => Kf f) (Hf (envP sc L))) (.func (bodyP q) (envP sc L)) p1] true)).gens.size := h2
      rw [setGen_size] at h2'
      rcases Nat.lt_or_ge s₁.gens.size i with h | h
      · exact .inl (mv.gall i (by rw [s4g]; omega) h2')
      · have : i = (s₁.setGen g .running).gens.size := by rw [hgn]; omega
        exact .inl (mv.gmono i this)
    · exact mv.os
    · rintro i x (hi | hi) e
      · exact (stc.fine i x hi e).mono (fun _ h => .inl h) fun _ _ _ h => h
      · subst hi
        have e' : (Shared.setGen { s5 with heap := h6 } i (.suspended k₀ [] (cY it) p6 [fr1 k2 (.forLoop (.Name (Str.ofString "g") (q 3)) (.ref itr) (fbP q) [] (envP sc L)) p2, fr1 (kFor (envP sc L) (fun f => match f with | .next => (execs [] (envP sc L)).wrap Kf (Hf (envP sc L)) id id | f => Kf f) (Hf (envP sc L))) (.func (bodyP q) (envP sc L)) p1] true)).gens[i]? = some x := e
        rw [setGen_self (s := { s5 with heap := h6 }) hg5] at e'
        cases e'
        exact ⟨rfl, it, _, rfl, .inr (.inl rfl), hh6, genAt_number hga 1⟩
    · refine stC_does hG hz gd.T.nolimit hY1 hY2 ⟨hitne itr (.inl rfl), hitne l (.inr (.inl rfl)), Ne.symm hne⟩ hga rfl (hk2.trans rfl) rfl ?_ vs'' XI YI _ stc (hD.later lt6)
      intro h h9 hc9 hito hsb9
      refine hc9.child.2.mono fun a xs n9 e => ?_
      refine (hsb9.2 a fun x => ?_).trans e
      rw [x, hito] at e
      have e9 := congrArg (fun y : Option Obj => y.map (·.cls)) e
      simp only [Option.map_some] at e9
      have hcl : (slept o 1).cls = .type "generator" := hgc
      rw [hcl] at e9
      have e8 : Value.type "generator" = Value.type "tuple" := Option.some.inj e9
      injection e8 with e7
      exact absurd e7 (by decide)
theorem step0 (hG : Back (model prog1 w) G) (hz : Lazy G) (P : PartsIs w q sc) (gd : Gnd w p loose mean mg mb h₀) (v : Value) (vs' : List Value) (IH : ∀ v' vs'', vs' = v' :: vs'' → FreshDoes G h₀ q sc v' vs') : FreshDoes G h₀ q sc v (v :: vs') := by
  intro s g L hg hns hL0
  obtain ⟨kB, hkB⟩ := first_all prog1 w (Str.ofString "f") (q 0) (q 1) (q 2) [forP q] (envP sc L) P.sc.co (int_P P.sc.kind) P.sc.kind P.sc.f (by decide)
  obtain ⟨hB1, hB2⟩ := hkB G hG
  refine ⟨⟨_, hg, .inl rfl⟩, rfl, fun s₁ A lt hc aok => ?_⟩
  intro Γ p9 st hΓ hf l9 k hk
  obtain ⟨m, hn, hm⟩ := hns
  refine hG.I (step_resume_fresh _ _ _ _ _ _ _ ((lt.gens g rfl).trans hg)) ?_
  have hn1 : s₁.heap.Ns L m := ns_of hn (lt.own L rfl)
  have hgl : g < s₁.gens.size := gens_lt ((lt.gens g rfl).trans hg)
  refine hB1 A g k l9 Γ.code p9 st (s₁.setGen g .running) m v hn1 hm (fun p' => ?_) (Γ.wake (.func (bodyP q) (envP sc L)) p9) p9 rfl (hΓ.wake _ _) (hf.wake _ _ _ _ _)
  have hsz : ((s₁.setGen g .running).setGen g (.suspended kB [] (.func (bodyP q) (envP sc L)) p' [] false)).gens.size = s₁.gens.size := by rw [setGen_size, setGen_size]
  have hself : ((s₁.setGen g .running).setGen g (.suspended kB [] (.func (bodyP q) (envP sc L)) p' [] false)).gens[g]? = some (.suspended kB [] (.func (bodyP q) (envP sc L)) p' [] false) := setGen_self (by rw [setGen_size]; exact hgl)
  refine hk _ _ ⟨rfl, (fun a => a = L), (fun i => i = g), ⟨fun _ _ e _ => e, fun _ h => .inl h, ?_, ?_, ?_, fun _ h => .inl h, ?_, fun _ h => h, ?_, rfl, ?_⟩, stB_does hG hz P gd hB2 IH _ g ⟨p', hself⟩ ⟨m, hn1, hm⟩ hL0⟩
  · rintro a rfl
    obtain ⟨oL, _, _, e, _⟩ := hn1
    exact ⟨oL, e⟩
  · intro i hi hne9
    exact (setGen_ne hne9).trans (setGen_ne hne9)
  · rw [hsz]; exact Nat.le_refl _
  · rintro i rfl
    rw [hsz]; exact hgl
  · intro i h1 h2
    rw [hsz] at h2
    exact absurd h2 (Nat.not_lt.mpr h1)
  · rintro i x rfl e
    rw [hself] at e
    cases e; trivial
theorem fresh_does (hG : Back (model prog1 w) G) (hz : Lazy G) (P : PartsIs w q sc) (gd : Gnd w p loose mean mg mb h₀) : ∀ (vs : List Value) (v : Value), FreshDoes G h₀ q sc v (v :: vs) := by
  intro vs
  induction vs with
  | nil =>
    intro v s g L hg hns hL0
    exact step0 hG hz P gd v [] (fun v' vs'' h => by cases h) s g L hg hns hL0
  | cons v' vs ih =>
    intro v s g L hg hns hL0
    refine step0 hG hz P gd v (v' :: vs) (fun a b h => ?_) s g L hg hns hL0
    cases h
    exact ih v'
end
end Mine
end
section
open PySem PySem.W PyProof.Rows PyProof.V PySem.Spec PySem.Calls
namespace Mine
section
variable {prog : Program} {w : World} {G : Shared → Thread → Prop} {A : Around} {E : Value → Shared → Prop} {s : Shared} {env : Env} {R : Result → Shared → Prop}
theorem callWith_L (hG : Back (model prog w) G) {P : Heap → Prop} {f : Value} {first : List Value} {pos : Pos} {args : List (Bool × Sem Value)} {keywords : List (Option Str × Sem Value)} {Q : Value → Shared → Prop} (hplain : (args.any (·.1) || keywords.any (·.1.isNone)) = false)
    (hk : ∀ h, P h → ∃ k, (k = Keeper.frame ∨ k = Keeper.machine ∨ k = Keeper.boundFrame) ∧ Looks (model prog w) h (keeperOf f) k)
    (h : wpAny (model prog w) A (evalArgs f true args keywords) (fun a s₁ => P s₁.heap ∧ wpL G A (call f (first ++ a.pos) a.kw) Q E s₁) E s) : wpL G A (callWith pos f first args keywords) Q E s := by
  unfold callWith
  refine wpL_bind (wpL_of hG (wpAny_holding (wpAny_mono h (fun a s₁ h₁ => ?_) fun _ _ x => x)))
  refine wpL_bind (wpL_of hG (wpAny_standAt ?_))
  obtain ⟨k, hk', L⟩ := hk _ h₁.1
  simp only [hplain]
  refine wpL_bind (wpL_of hG (L.here ?_))
  have tail : ∀ {t : Sem Value}, wpL G A t Q E s₁ → wpL G A (t >>= fun r => holding [r] point >>= fun _ => pure r) Q E s₁ :=
    fun ht => wpL_bind (wpL_mono ht (fun r s₂ hr => wpL_bind (wpL_holding (wpL_of hG (wpAny_point (wpL_pure hr))))) fun _ _ x => x)
  have marked (mk : Value) : wpL G A (callMarked mk f (first ++ a.pos) a.kw) Q E s₁ := by unfold callMarked; exact wpL_keep h₁.2
  rcases hk' with rfl | rfl | rfl <;> dsimp only <;> first | exact tail h₁.2 | (split <;> first | exact tail h₁.2 | exact tail (marked _))
theorem codeL_call_def (hG : Back (model prog w) G) {a : Addr} {o : Obj} {fd : FuncData} {body : List Stmt} {args : Args} {binds : List (Str × Value)}
    (hroom : A.depth < recursionLimit) (ho : s.heap.get? a = some o) (hdata : o.data = .func fd) (hlim : s.heap.NoLimit) (hcd : s.heap.CodeRec fd.code fd.qualname)
    (hbody : fd.body = .stmts body) (hbind : BindsTo s fd args binds) (hcell : ∀ x ∈ fd.scope.names, x.2 ≠ .cell) (hloc : ∀ x ∈ binds, fd.scope.names.lookup x.1 = some .local)
    (h : ∀ h₁, h₁.Ns s.heap.objs.size (fun x => binds.reverse.lookup x) → (∀ b o, s.heap.get? b = some o → h₁.get? b = some o) →
      codeL (model prog w) G A (.func body (callEnv fd s.heap.objs.size a)) R { s with heap := h₁, toks := s.toks + binds.length })
    (hco : fd.scope.isCoroutine = false) (hgen : fd.scope.isGenerator = false) (hk : fd.scope.kind = .function) :
    codeL (model prog w) G A (.call (.ref a) args) R s := by
  refine codeL_tree hG (wpL_of hG ?_)
  show wpAny _ A.in1 (callAny (.ref a) args) _ _ s
  simp only [callAny]
  refine wpAny_bind (wpAny_load ho ?_)
  obtain ⟨c, oc, vs, tq, hc, hoc, hdc, hq⟩ := hcd
  simp only [hdata, callFunction, hco, hgen, hbody, hc]
  refine wpAny_bind (m := field (.ref c) 1) (wpAny_field hoc hdc hq (wpAny_bind (wpAny_pure ?_)))
  refine wpAny_bind (hbind _ _ _ _ ?_)
  refine wpAny_bind ?_
  have hk2 : wpAny (model prog w) A.in1 (newFunctionEnv fd.scope fd.globals fd.closure binds (fd.qualname ++ Str.ofString ".<locals>.") (some a) fd.code none fd.builtins) (fun env s₂ => s₂.heap.NoLimit ∧ codeL (model prog w) G A (.func body env) R s₂) (fun e s' => R (.error e) s') s :=
    wpAny_newFunctionEnv hcell hloc (fun h₁ hns hsb => ⟨hlim.fresh _ hsb, h h₁ hns fun b o e => hsb.extBut b o (Nat.ne_of_lt (Heap.lt_size e)) (Heap.get?_push_of_some _ e)⟩) hk
  rw [hc] at hk2
  refine wpAny_mono hk2 (fun env s₂ h₂ => ?_) fun _ _ x => x
  exact wpAny_bind (wpAny_enterFrame h₂.1 hroom (wpAny_pure ⟨rfl, h₂.2⟩))
theorem codeL_func (hG : Back (model prog w) G) {body : List Stmt} (h : wpL G (A.deeper env) (execs body env) (fun f s' => R (.ok (.ret (match f with | .ret v => v | _ => .none))) s') (fun _ _ => False) s) : codeL (model prog w) G A (.func body env) R s := by
  refine codeL_tree hG ?_
  show wpL G (A.deeper env) (do point; match ← (execs body env).onRaise (leaving env) with | .ret v => ret v | _ => ret .none) _ _ s
  refine wpL_bind (wpL_of hG (wpAny_point ?_))
  refine wpL_bind (wpL_onRaise (wpL_mono h (fun f s' h' => ?_) fun _ _ x => x.elim))
  cases f <;> exact wpL_pure h'
theorem wpL_execs_cons {st : Stmt} {rest : List Stmt} {Q : Flow → Shared → Prop} (h : wpL G A (exec st env) (fun f s' => match f with | .next => wpL G A (execs rest env) Q E s' | f => Q f s') E s) : wpL G A (execs (st :: rest) env) Q E s := by
  rw [execs_cons]
  refine wpL_bind (wpL_mono h (fun f s' h' => ?_) fun _ _ x => x)
  cases f <;> first | exact h' | exact wpL_pure h'
theorem wpL_For (hG : Back (model prog w) G) {tgt iter : Expr} {fb oe : List Stmt} {pos : Pos} {Q : Flow → Shared → Prop} (hfold : ∀ x, foldedSetIterable iter env x = pure x)
    (h : wpAny (model prog w) A (eval iter env) (fun x s₁ => wpAny (model prog w) A (pyIter x) (fun it s₂ => codeL (model prog w) G (A.mark none) (.forLoop tgt it fb oe env) (fun r s' => match r with | .ok f => Q f s' | .error _ => False) s₂) (fun _ _ => False) s₁) (fun _ _ => False) s) :
    wpL G A (exec (.For tgt iter fb oe pos) env) Q (fun _ _ => False) s := by
  show wpL G A (do standAt pos; let x ← foldedSetIterable iter env (← eval iter env); standAt iter.pos; runOwn (.forLoop tgt (← holding [x] (pyIter x)) fb oe env) env) _ _ s
  refine wpL_bind (wpL_of hG (wpAny_standAt ?_))
  refine wpL_bind (wpL_of hG (wpAny_mono h (fun x s₁ h₁ => ?_) fun _ _ x => x.elim))
  rw [hfold]
  refine wpL_bind (wpL_pure ?_)
  refine wpL_bind (wpL_of hG (wpAny_standAt ?_))
  refine wpL_bind (wpL_of hG (wpAny_holding (wpAny_mono h₁ (fun it s₂ h₂ => ?_) fun _ _ x => x.elim)))
  unfold runOwn
  refine wpL_onRaise (wpL_run hG (by intro x; cases x) ?_)
  intro Γ p st hc hΓ hf kR
  refine h₂ Γ p st hc hΓ hf fun r c' p' s' q => kR r c' p' s' ?_
  cases r with
  | ok f => exact q
  | error e => exact q.elim
theorem codeL_turn (hG : Back (model prog w) G) {tgt : Expr} {it : Value} {fb oe : List Stmt}
    (h : wpL G (A.under (.forLoop tgt it fb oe env)) (pyNext it) (fun r s₁ => match r with
      | none => codeL (model prog w) G A (.block oe env) R s₁
      | some v => wpAny (model prog w) (A.under (.forLoop tgt it fb oe env)) (letOwnedTupleGo tgt it v) (fun _ s₂ => wpAny (model prog w) (A.under (.forLoop tgt it fb oe env)) (assign tgt env v) (fun _ s₃ => wpAny (model prog w) (A.under (.forLoop tgt it fb oe env)) (execs fb env) (fun f s₄ => match f with
          | .next | .cont => codeL (model prog w) G A (.forLoop tgt it fb oe env) R s₄
          | .brk => R (.ok .next) s₄
          | .ret v => R (.ok (.ret v)) s₄) (fun _ _ => False) s₃) (fun _ _ => False) s₂) (fun _ _ => False) s₁) (fun _ _ => False) s) :
    codeL (model prog w) G A (.forLoop tgt it fb oe env) R s := by
  refine codeL_tree hG ?_
  show wpL G _ ((forTurn tgt it fb oe env).onRaise (fun x => do noteFrame x env; theTreesLotGoes x)) _ _ s
  refine wpL_onRaise ?_
  unfold forTurn
  refine wpL_bind (wpL_of hG (wpAny_standAt ?_))
  refine wpL_bind (wpL_onRaise (wpL_mono h (fun r s₁ h₁ => ?_) fun _ _ x => x.elim))
  cases r with
  | none => exact wpL_pure ⟨rfl, h₁⟩
  | some v =>
    dsimp only at h₁ ⊢
    refine wpL_bind (wpL_of hG (wpAny_mono h₁ (fun _ s₂ h₂ => ?_) fun _ _ x => x.elim))
    refine wpL_bind (wpL_of hG (wpAny_mono h₂ (fun _ s₃ h₃ => ?_) fun _ _ x => x.elim))
    refine wpL_bind (wpL_of hG (wpAny_mono h₃ (fun f s₄ h₄ => ?_) fun _ _ x => x.elim))
    cases f with
    | next => exact wpL_pure ⟨rfl, h₄⟩
    | cont => exact wpL_pure ⟨rfl, h₄⟩
    | brk => exact wpL_pure h₄
    | ret v => exact wpL_pure h₄
theorem codeL_block (hG : Back (model prog w) G) (h : R (.ok .next) s) : codeL (model prog w) G A (.block [] env) R s := by
  refine codeL_tree hG ?_
  show wpL G _ (pure (PySem.Fin.done Flow.next)) _ _ s
  exact wpL_pure h
end
end Mine
end
section
open PySem PySem.W PyProof.Rows PyProof.V PySem.Spec PySem.Calls
namespace Mine
/-- is_plain, as it stands -/
abbrev envI (sc : Scope) (L : Addr) : Env := envOf (Str.ofString "is_plain") sc L 58 (.ref 57)
structure ScI (sc : Scope) : Prop where
  kind : sc.kind = .function
  co : sc.isCoroutine = false
  gen : sc.isGenerator = false
  cell : ∀ x ∈ sc.names, x.2 ≠ .cell
  f : sc.names.lookup (Str.ofString "f") = some .local
  g : sc.names.lookup (Str.ofString "g") = some .local
  parts : sc.names.lookup (Str.ofString "parts") = some .globalImplicit
/-- a node, and whether is_plain refuses it -/
inductive Bad (news : List (Addr × Obj)) : Value → Bool → Prop
  | at0 {a b : Addr} {t u : Tok} {n k : Nat} : (a, tupO [.str (Str.ofString "atom") t, .str (Str.ofString "P") u, .ref b] n) ∈ news → (b, tupO [] k) ∈ news → Bad news (.ref a) false
  | at1 {a b c : Addr} {t u : Tok} {n k : Nat} : (a, tupO [.str (Str.ofString "atom") t, .str (Str.ofString "P") u, .ref b] n) ∈ news → (b, tupO [.ref c] k) ∈ news → Bad news (.ref a) true
  | no {a : Addr} {t : Tok} {n : Nat} {v : Value} : (a, tupO [.str (Str.ofString "not") t, v] n) ∈ news → Bad news (.ref a) false
  | all {a : Addr} {t u : Tok} {n : Nat} {x : Str} {v : Value} : (a, tupO [.str (Str.ofString "all") t, .str x u, v] n) ∈ news → Bad news (.ref a) true
theorem g_of {m : Str → Option Value} {v : Value} (h1 : m (Str.ofString "g") = some v) : m = fun y => if y = Str.ofString "g" then some v else m y := by
  funext y
  by_cases h : y = Str.ofString "g"
  · simp [h, h1]
  · simp [h]
theorem plain_is (w : World) : ∃ (sc : Scope) (fd : FuncData) (o : Obj) (fb : List Stmt) (q : Nat → Pos), (hd01.heap_39 w.params).lookup 58 = some o ∧ o.data = .func fd ∧
    fd.body = .stmts [.For (.Name (Str.ofString "g") (q 0)) (.Call (.Name (Str.ofString "parts") (q 1)) [.Name (Str.ofString "f") (q 2)] [] (q 3)) fb [] (q 4), .Return (some (.Constant (.bool true) 0 (q 5))) (q 6)] ∧ fd.scope = sc ∧ fd.code = .ref 57 ∧ fd.qualname = Str.ofString "is_plain" ∧
    (∀ L, callEnv fd L 58 = envI sc L) ∧ (∀ v, ∀ s : Shared, BindsTo s fd ⟨[v], []⟩ [(Str.ofString "f", v)]) ∧ codeIn (hd01.heap_39 w.params) (.ref 57) (Str.ofString "is_plain") = true ∧ ScI sc ∧
    (∀ (p : Program) (loose : List Str) (mean : ExcName → Option Value) (mg mb : Str → Option Value) (A : Around) (E : Value → Shared → Prop) (s : Shared) (h₀ : Heap) (L : Addr) (m : Str → Option Value) (news : List (Addr × Obj)) (v : Value) (b : Bool) (Q : Flow → Shared → Prop),
      (hd01.heap_39 w.params).In h₀ → Top p loose mean mg mb h₀ → Fr h₀ L s.heap m → News h₀ L s.heap news → m (Str.ofString "g") = some v → A.units + 128 < cLine → Bad news v b →
      (∀ tk', Q (if b then .ret (.bool false) else .next) { s with toks := tk' }) → wpAny (model PySem.Challenge.rw_ui0505_01.row.prog w) A (execs fb (envI sc L)) Q E s) := by
  refine ⟨_, _, _, _, fun n => posOf [_, _, _, _, _, _, _] n, rfl, rfl, rfl, rfl, rfl, rfl, fun _ => rfl, fun _ _ => BindsTo.of_eq rfl, rfl, ⟨rfl, rfl, rfl, by decide, rfl, rfl, rfl⟩, ?_⟩
  intro p loose mean mg mb A E s h₀ L m news v b Q
  k_fill
  k_with_none
  k_with "compareOp In str ref" => (first
    | (refine' in_binders false ?F ?X ?x ?b ?u ?_; (case F => k_asm); (case X => k_asm); (case x => decide +kernel); (case b => decide +kernel); (case u => ktr_units))
    | (refine' in_binders true ?F ?X ?x ?b ?u ?_; (case F => k_asm); (case X => k_asm); (case x => decide +kernel); (case b => decide +kernel); (case u => ktr_units)))
  intro gX gT F N hm hu hB h
  rw [g_of hm] at F
  show wpAny _ _ (execs _ (envOf (Str.ofString "is_plain") _ L 58 (.ref 57))) _ _ _
  cases hB
  all_goals (
    (with_reducible show wpAny _ _ _ _ _ _)
    k_steps)
  all_goals exact h _
end Mine
end
section
open PySem PySem.W PyProof.Rows PyProof.V PySem.Spec PySem.Calls
namespace Mine
def BadH (h₀ h : Heap) (v : Value) (b : Bool) : Prop := ∃ news : List (Addr × Obj), (∀ q ∈ news, h.get? q.1 = some q.2 ∧ h₀.get? q.1 = none) ∧ Bad news v b
inductive Bads (h₀ h : Heap) : List Value → Bool → Prop
  | nil : Bads h₀ h [] true
  | stop {v : Value} {vs : List Value} : BadH h₀ h v true → Bads h₀ h (v :: vs) false
  | go {v : Value} {vs : List Value} {b : Bool} : BadH h₀ h v false → Bads h₀ h vs b → Bads h₀ h (v :: vs) b
theorem BadH.mono {h₀ h h' : Heap} {v : Value} {b : Bool} (x : BadH h₀ h v b) (k : ∀ a o, h.get? a = some o → h'.get? a = some o) : BadH h₀ h' v b :=
  let ⟨n, h1, h2⟩ := x; ⟨n, fun q hq => ⟨k _ _ (h1 q hq).1, (h1 q hq).2⟩, h2⟩
theorem Bads.mono {h₀ h h' : Heap} {v : List Value} {b : Bool} (x : Bads h₀ h v b) (k : ∀ a o, h.get? a = some o → h'.get? a = some o) : Bads h₀ h' v b := by
  induction x with
  | nil => exact .nil
  | stop h => exact .stop (h.mono k)
  | go h _ ih => exact .go (h.mono k) ih
/-- what a call of is_plain leaves -/
structure After (X : Addr → Prop) (s s' : Shared) : Prop where
  keep : ∀ a o, s.heap.get? a = some o → s'.heap.get? a = some o
  gkeep : ∀ i, i < s.gens.size → s'.gens[i]? = s.gens[i]?
  gsz : s.gens.size ≤ s'.gens.size
  own : ∀ a, X a → s.heap.get? a = none
  fine : ∀ i x, s.gens.size ≤ i → s'.gens[i]? = some x → fineG X s'.heap x
  os : s'.os = s.os
def TurnOk (w : World) (sc : Scope) (fb : List Stmt) : Prop := ∀ (p : Program) (loose : List Str) (mean : ExcName → Option Value) (mg mb : Str → Option Value) (A : Around) (E : Value → Shared → Prop) (s : Shared) (h₀ : Heap) (L : Addr) (m : Str → Option Value) (news : List (Addr × Obj)) (v : Value) (b : Bool) (Q : Flow → Shared → Prop),
      (hd01.heap_39 w.params).In h₀ → Top p loose mean mg mb h₀ → Fr h₀ L s.heap m → News h₀ L s.heap news → m (Str.ofString "g") = some v → A.units + 128 < cLine → Bad news v b →
      (∀ tk', Q (if b then .ret (.bool false) else .next) { s with toks := tk' }) → wpAny (model PySem.Challenge.rw_ui0505_01.row.prog w) A (execs fb (envI sc L)) Q E s
structure Inv (h₀ : Heap) (s0 : Shared) (L it : Addr) (g : Nat) (X : Addr → Prop) (Y : Nat → Prop) (s' : Shared) : Prop where
  base : ∀ b o, h₀.get? b = some o → s0.heap.get? b = some o
  keep : ∀ a o, s0.heap.get? a = some o → s'.heap.get? a = some o
  new : ∀ a, X a → s0.heap.get? a = none ∧ a ≠ L ∧ a ≠ it
  L0 : s0.heap.get? L = none
  it0 : s0.heap.get? it = none
  Lit : L ≠ it
  Lsz : h₀.objs.size ≤ L
  itobj : ∃ o, s'.heap.get? it = some o ∧ GenAt o g
  ns : ∃ m, s'.heap.Ns L m
  gkeep : ∀ i, i < s0.gens.size → s'.gens[i]? = s0.gens[i]?
  gsz : s0.gens.size ≤ s'.gens.size
  gY : ∀ i, Y i → s0.gens.size ≤ i
  gall : ∀ i, s0.gens.size ≤ i → i < s'.gens.size → Y i
  fine : ∀ i x, Y i → s'.gens[i]? = some x → fineG X s'.heap x
  os : s'.os = s0.os
theorem Inv.after {h₀ : Heap} {s0 : Shared} {L it : Addr} {g : Nat} {X : Addr → Prop} {Y : Nat → Prop} {s' : Shared} (i : Inv h₀ s0 L it g X Y s') : After X s0 s' :=
  ⟨i.keep, i.gkeep, i.gsz, fun a h => (i.new a h).1, fun j x hj e => i.fine j x (i.gall j hj (gens_lt e)) e, i.os⟩
theorem Inv.moves {h₀ : Heap} {s0 : Shared} {L it : Addr} {g : Nat} {X X' : Addr → Prop} {Y Y' : Nat → Prop} {s' s1 : Shared} (i : Inv h₀ s0 L it g X Y s') (mv : Moves X X' Y Y' s' s1) : Inv h₀ s0 L it g X' Y' s1 := by
  have nL : ¬ X L := fun h => (i.new L h).2.1 rfl
  have nit : ¬ X it := fun h => (i.new it h).2.2 rfl
  obtain ⟨o, ho, hg⟩ := i.itobj
  obtain ⟨m, hn⟩ := i.ns
  obtain ⟨oL, hL⟩ : ∃ oL, s'.heap.get? L = some oL := let ⟨oL, _, _, e, _⟩ := hn; ⟨oL, e⟩
  refine ⟨i.base, fun a o e => mv.keep a o (i.keep a o e) (fun h => by rw [(i.new a h).1] at e; cases e), ?_, i.L0, i.it0, i.Lit, i.Lsz, ⟨o, mv.keep it o ho nit, hg⟩, ⟨m, hn.at' fun o e => mv.keep L o e nL⟩, ?_, Nat.le_trans i.gsz mv.gsz, ?_, ?_, mv.fine, mv.os.trans i.os⟩
  · intro a ha
    rcases mv.own a ha with h | h
    · exact i.new a h
    · refine ⟨?_, fun x => ?_, fun x => ?_⟩
      · cases e : s0.heap.get? a with
        | none => rfl
        | some ob => rw [i.keep a ob e] at h; cases h
      · rw [x, hL] at h; cases h
      · rw [x, ho] at h; cases h
  · intro j hj
    exact (mv.gkeep j (Nat.lt_of_lt_of_le hj i.gsz) (fun h => absurd (i.gY j h) (Nat.not_le.mpr hj))).trans (i.gkeep j hj)
  · intro j hj
    rcases mv.gown j hj with h | h
    · exact i.gY j h
    · exact Nat.le_trans i.gsz h
  · intro j h1 h2
    rcases Nat.lt_or_ge j s'.gens.size with h | h
    · exact mv.gmono j (i.gall j h1 h)
    · exact mv.gall j h h2
/-- a step that writes at L alone -/
theorem Inv.put {h₀ : Heap} {s0 : Shared} {L it : Addr} {g : Nat} {X : Addr → Prop} {Y : Nat → Prop} {s' : Shared} {h' : Heap} {tk : Nat} {m : Str → Option Value} (i : Inv h₀ s0 L it g X Y s') (hn : h'.Ns L m) (hsb : Heap.SameBut L s'.heap h') : Inv h₀ s0 L it g X Y { s' with heap := h', toks := tk } := by
  obtain ⟨o, ho, hg⟩ := i.itobj
  refine ⟨i.base, fun a o e => (hsb.2 a fun x => by rw [x, i.L0] at e; cases e).trans (i.keep a o e), i.new, i.L0, i.it0, i.Lit, i.Lsz, ⟨o, (hsb.2 it (Ne.symm i.Lit)).trans ho, hg⟩, ⟨m, hn⟩, i.gkeep, i.gsz, i.gY, i.gall, fun j x hj e => ?_, i.os⟩
  exact (i.fine j x hj e).mono (fun _ h => h) fun a o hX e => (hsb.2 a (i.new a hX).2.1).trans e
/-- a step that adds objects alone -/
theorem Inv.ext {h₀ : Heap} {s0 : Shared} {L it : Addr} {g : Nat} {X : Addr → Prop} {Y : Nat → Prop} {s' : Shared} {h' : Heap} (i : Inv h₀ s0 L it g X Y s') (hk : ∀ b ob, s'.heap.get? b = some ob → h'.get? b = some ob) : Inv h₀ s0 L it g X Y { s' with heap := h' } := by
  obtain ⟨o, ho, hg⟩ := i.itobj
  obtain ⟨m, hn⟩ := i.ns
  refine ⟨i.base, fun a o e => hk a o (i.keep a o e), i.new, i.L0, i.it0, i.Lit, i.Lsz, ⟨o, hk it o ho, hg⟩, ⟨m, hn.at' fun o e => hk L o e⟩, i.gkeep, i.gsz, i.gY, i.gall, fun j x hj e => ?_, i.os⟩
  exact (i.fine j x hj e).mono (fun _ h => h) fun a o _ e => hk a o e
section
variable {w : World} {p : Program} {loose : List Str} {mean : ExcName → Option Value} {mg mb : Str → Option Value} {h₀ : Heap} {q : Nat → Pos} {sc : Scope} {G : Shared → Thread → Prop}
theorem AOk.under_for {n : Nat} {A : Around} {tgt : Expr} {it : Value} {fb oe : List Stmt} {env : Env} (h : AOk (n + 1) A) : AOk n (A.under (.forLoop tgt it fb oe env)).in1 := by
  refine ⟨h.handled, ?_, ?_⟩
  · have := h.depth
    show A.depth + 8 * n + 8 < _
    omega
  · have := h.units
    show A.units + 1 + 64 * n + 128 < _
    omega
theorem plain_loop (hG : Back (model prog1 w) G) (gd : Gnd w p loose mean mg mb h₀) (S : ScI sc) {fb : List Stmt} (hT : TurnOk w sc fb) {s0 : Shared} {L it : Addr} {g n : Nat} {v₀ : Value} {vs₀ : List Value} {R : Result → Shared → Prop} {p0 : Pos} {A : Around} (hc : Chain h₀ s0.heap v₀ vs₀) (aok : AOk (n + 1) A) :
    ∀ (vs : List Value) (b : Bool) (X : Addr → Prop) (Y : Nat → Prop) (s' : Shared), Bads h₀ s0.heap vs b → Inv h₀ s0 L it g X Y s' → GenDoes G h₀ n (fun h => Chain h₀ h v₀ vs₀) vs g X Y s' →
      (∀ X' s'', After X' s0 s'' → (b = true → ∀ a, ¬ X' a) → (∃ m, s''.heap.Ns L m) → R (.ok (if b then .next else .ret (.bool false))) s'') →
      codeL (model prog1 w) G A (.forLoop (.Name (Str.ofString "g") p0) (.ref it) fb [] (envI sc L)) R s' := by
  intro vs
  induction vs with
  | nil =>
    intro b X Y s' hB I hD hR
    refine codeL_turn hG ?_
    obtain ⟨⟨gs, hg1, hg2⟩, hY, hW⟩ := hD
    obtain ⟨o, ho, hga⟩ := I.itobj
    refine pyNext_L hG aok.handled (gd.T.nolimit.keeps fun b o e => I.keep b o (I.base b o e)) (by show A.depth < _; have := aok.depth; omega) ho hga hg1 hg2 ?_
    intro Γ p9 st hΓ hf l9 k hk
    refine hW s' _ ⟨fun b o e => I.keep b o (I.base b o e), fun _ _ => rfl, fun _ _ => rfl, Nat.le_refl _⟩ (hc.mono fun a vs n e => I.keep a _ e) ?_ Γ p9 st hΓ hf l9 k fun r s1 hr => hk r s1 ?_
    · exact aok.under_for
    · obtain ⟨rfl, X', Y', mv, hfin⟩ := hr
      refine .inr ⟨rfl, fun h' hkp _ => ?_⟩
      have I' := (I.moves mv).ext hkp
      cases hB
      refine codeL_block hG (hR (fun _ => False) _ ⟨I'.keep, I'.gkeep, I'.gsz, fun _ h => h.elim, fun j x hj e => ?_, I'.os⟩ (fun _ _ h => h) I'.ns)
      have e' : s1.gens[j]? = some x := e
      rw [hfin j (I'.gall j hj (gens_lt e))] at e'
      cases e'; trivial
  | cons v vs ih =>
    intro b X Y s' hB I hD hR
    refine codeL_turn hG ?_
    obtain ⟨⟨gs, hg1, hg2⟩, hY, hW⟩ := hD
    obtain ⟨o, ho, hga⟩ := I.itobj
    refine pyNext_L hG aok.handled (gd.T.nolimit.keeps fun b o e => I.keep b o (I.base b o e)) (by show A.depth < _; have := aok.depth; omega) ho hga hg1 hg2 ?_
    intro Γ p9 st hΓ hf l9 k hk
    refine hW s' _ ⟨fun b o e => I.keep b o (I.base b o e), fun _ _ => rfl, fun _ _ => rfl, Nat.le_refl _⟩ (hc.mono fun a vs n e => I.keep a _ e) ?_ Γ p9 st hΓ hf l9 k fun r s1 hr => hk r s1 ?_
    · exact aok.under_for
    · obtain ⟨rfl, X', Y', mv, hD'⟩ := hr
      refine .inl ⟨v, rfl, ?_⟩
      have I' := I.moves mv
      show wpAny _ _ (pure ()) _ _ _
      refine wpAny_pure ?_
      obtain ⟨m, hn⟩ := I'.ns
      refine wpAny_assign_Name (wpAny_storeName_local (m := m) S.g hn (fun h3 hn3 hsb3 => ?_) (by show (sc.kind == .class || (sc.kind == .module && L != mainGlobals)) = false; rw [S.kind]; rfl))
      have I3 : ∀ tk, Inv h₀ s0 L it g X' Y' { s1 with heap := h3, toks := tk } := fun tk => I'.put hn3 hsb3
      have lt3 : ∀ tk, Later h₀ X' Y' s1 { s1 with heap := h3, toks := tk } := fun tk => ⟨fun b o e => (I3 0).keep b o (I.base b o e), fun a ha => hsb3.2 a (I'.new a ha).2.1, fun _ _ => rfl, Nat.le_refl _⟩
      have turn : ∀ b', BadH h₀ s0.heap v b' → ∀ (Q : Flow → Shared → Prop), (∀ tk', Q (if b' then .ret (.bool false) else .next) { s1 with heap := h3, toks := tk' }) → wpAny (model prog1 w) (A.under (.forLoop (.Name (Str.ofString "g") p0) (.ref it) fb [] (envI sc L))) (execs fb (envI sc L)) Q (fun _ _ => False) { s1 with heap := h3, toks := s1.toks + 1 } := by
        intro b' hb' Q hQ
        obtain ⟨news, hnw, hbad⟩ := hb'
        refine hT p loose mean mg mb _ _ _ h₀ L _ news v b' _ gd.X gd.T ⟨hn3, fun b o e => (I3 0).keep b o (I.base b o e), I.Lsz⟩ (fun x hx => ⟨(I3 0).keep _ _ (hnw x hx).1, fun e => ?_, (hnw x hx).2⟩) (if_pos rfl) (by show A.units + 128 < _; have := aok.units; omega) hbad fun tk' => hQ tk'
        have := (hnw x hx).1
        rw [e, I.L0] at this; cases this
      cases hB with
      | stop hb =>
        refine turn true hb _ fun tk' => ?_
        exact hR X' _ (I3 tk').after (fun h => by cases h) (I3 tk').ns
      | go hb hB' =>
        refine turn false hb _ fun tk' => ?_
        exact ih b X' Y' _ hB' (I3 tk') (hD'.later (lt3 tk')) hR
theorem plain_L (hG : Back (model prog1 w) G) (hz : Lazy G) (gd : Gnd w p loose mean mg mb h₀) {s : Shared} {A : Around} {v : Value} {vs : List Value} {b : Bool} {R : Result → Shared → Prop} (hb : ∀ b o, h₀.get? b = some o → s.heap.get? b = some o) (hsz : h₀.objs.size ≤ s.heap.objs.size)
    (aok : AOk (vs.length + 4) A) (hC : Chain h₀ s.heap v (v :: vs)) (hB : Bads h₀ s.heap (v :: vs) b)
    (hR : ∀ X' s', After X' s s' → (b = true → ∀ a, ¬ X' a) → R (.ok (.ret (.bool b))) s') : codeL (model prog1 w) G A (.call (.ref 58) ⟨[v], []⟩) R s := by
  obtain ⟨sc, fd, o, fb, q, h1, h2, h3, h4, h5, h6, h7, h8, h9, S, hT⟩ := plain_is w
  obtain ⟨qP, scP, P⟩ := parts_Is w
  have XS := gd.X.keeps hb
  have hcd : s.heap.CodeRec fd.code fd.qualname := by rw [h5, h6]; exact codeRec_of XS h9
  refine codeL_call_def hG (binds := [(Str.ofString "f", v)]) (by have := aok.depth; omega) (XS 58 _ h1) h2 (gd.T.nolimit.keeps hb) hcd h3 (h8 v s) (by rw [h4]; exact S.cell) (by intro x hx; rw [List.mem_singleton.mp hx, h4]; exact S.f) (fun h₁ hns hk₁ => ?_) (by rw [h4]; exact S.co) (by rw [h4]; exact S.gen) (by rw [h4]; exact S.kind)
  rw [h7]
  refine codeL_func hG ?_
  have aok1 : AOk (vs.length + 3) (A.deeper (envI sc s.heap.objs.size)) := ⟨aok.handled, by have := aok.depth; show A.depth + 1 + _ + _ < _; omega, by have := aok.units; show A.units + 3 + _ + _ < _; omega⟩
  refine wpL_execs_cons (wpL_mono (wpL_For hG (fun _ => rfl) ?_ (Q := fun f s' => match f with | .next => wpL G (A.deeper (envI sc s.heap.objs.size)) (execs [.Return (some (.Constant (.bool true) 0 (q 5))) (q 6)] (envI sc s.heap.objs.size)) (fun f s' => R (.ok (.ret (match f with | .ret v => v | _ => .none))) s') (fun _ _ => False) s' | f => R (.ok (.ret (match f with | .ret v => v | _ => .none))) s')) (fun _ _ x => x) fun _ _ x => x)
  have hb1 : ∀ b o, h₀.get? b = some o → h₁.get? b = some o := fun b o e => hk₁ b o (hb b o e)
  refine call1_at (v := v) gd hb1 S.kind S.parts S.f rfl hns (by simp) (f := 51) rfl rfl (by decide) (by decide) ?_
  refine parts_at P gd hb1 (by have := aok1.depth; omega) ?_
  intro h' tk' it oi hk2 hns2 hlt hit hga hsl
  obtain ⟨hgc, ⟨nm, qn, hgd⟩, hgs⟩ := id hga
  refine wpAny_pyIter_gen ⟨oi, nm, qn, hit, hgc, hgd, hsl⟩ ?_
  have hk2' : ∀ b o, h₁.get? b = some o → h'.get? b = some o := hk2
  have hlt' : @LT.lt Nat _ h₁.objs.size it := hlt
  have hL1 : s.heap.objs.size < h₁.objs.size := hns.lt
  have none_of : ∀ a : Nat, s.heap.objs.size ≤ a → s.heap.get? a = none := fun a ha => by
    cases e : s.heap.get? a with
    | none => rfl
    | some ob => exact absurd (Heap.lt_size e) (Nat.not_lt.mpr ha)
  have hbase0 : ∀ a : Nat, s.heap.objs.size ≤ a → h₀.get? a = none := fun a ha => by
    cases e : h₀.get? a with
    | none => rfl
    | some ob => have h9 := none_of a ha; rw [hb a ob e] at h9; cases h9
  have fr := fresh_does hG hz P gd vs v { s with heap := h', toks := tk', gens := s.gens.push (.fresh (.func (bodyP qP) (envP scP h₁.objs.size))) } s.gens.size h₁.objs.size (by simp) ⟨_, hns2, by simp⟩ (hbase0 _ (Nat.le_of_lt hL1))
  refine plain_loop hG gd S hT (n := vs.length + 1) (p0 := q 0) hC ⟨aok1.handled, by have := aok1.depth; show (A.deeper (envI sc s.heap.objs.size)).depth + _ + _ < _; omega, by have := aok1.units; show (A.deeper (envI sc s.heap.objs.size)).units + _ + _ < _; omega⟩ (v :: vs) b _ _ _ hB ?_ fr ?_
  · have hsize : (s.gens.push (.fresh (.func (bodyP qP) (envP scP h₁.objs.size)))).size = s.gens.size + 1 := by simp
    refine ⟨hb, fun a o e => hk2' a o (hk₁ a o e), ?_, none_of _ (Nat.le_refl _), none_of _ (Nat.le_of_lt (Nat.lt_trans hL1 hlt')), Nat.ne_of_lt (Nat.lt_trans hL1 hlt'), hsz, ⟨oi, hit, hga⟩, ⟨_, hns.at' fun o e => hk2' _ o e⟩, ?_, ?_, ?_, ?_, ?_, rfl⟩
    · rintro a rfl
      exact ⟨none_of _ (Nat.le_of_lt hL1), Ne.symm (Nat.ne_of_lt hL1), Nat.ne_of_lt hlt'⟩
    · intro i hi
      show (s.gens.push _)[i]? = _
      rw [Array.getElem?_push, if_neg (by omega)]
    · show s.gens.size ≤ (s.gens.push _).size
      rw [hsize]; omega
    · rintro i rfl
      exact Nat.le_refl _
    · intro i h1 h2
      have h2' : i < (s.gens.push (.fresh (.func (bodyP qP) (envP scP h₁.objs.size)))).size := h2
      rw [hsize] at h2'
      omega
    · rintro i x rfl e
      have e' : (s.gens.push (.fresh (.func (bodyP qP) (envP scP h₁.objs.size))))[s.gens.size]? = some x := e
      simp at e'
      subst e'
      trivial
  · intro X' s'' af hz9 hns9
    cases b with
    | true =>
      refine wpL_of hG (wpAny_execs_cons (wpAny_Return_some (wpAny_Constant_bool ?_)))
      exact hR X' s'' af hz9
    | false => exact hR X' s'' af hz9
end
end Mine
end
section
open PySem PySem.W PyProof.Rows PyProof.V PySem.Spec PySem.Calls
namespace Mine
abbrev envW (sc : Scope) (L : Addr) : Env := envOf (Str.ofString "law") sc L 65 (.ref 64)
structure ScW (sc : Scope) : Prop where
  kind : sc.kind = .function
  co : sc.isCoroutine = false
  gen : sc.isGenerator = false
  cell : ∀ x ∈ sc.names, x.2 ≠ .cell
  s : sc.names.lookup (Str.ofString "script") = some .local
  f : sc.names.lookup (Str.ofString "f") = some .local
  g : sc.names.lookup (Str.ofString "g") = some .local
  plain : sc.names.lookup (Str.ofString "is_plain") = some .globalImplicit
  no : sc.names.lookup (Str.ofString "no") = some .globalImplicit
/-- the formula of the first part, in the ledger -/
inductive ChainN (news : List (Addr × Obj)) : Value → List Value → Prop
  | at0 {a b : Addr} {t u : Tok} {n k : Nat} : (a, tupO [.str (Str.ofString "atom") t, .str (Str.ofString "P") u, .ref b] n) ∈ news → (b, tupO [] k) ∈ news → ChainN news (.ref a) [.ref a]
  | no {a : Addr} {t : Tok} {n : Nat} {v : Value} {vs : List Value} : (a, tupO [.str (Str.ofString "not") t, v] n) ∈ news → ChainN news v vs → ChainN news (.ref a) (.ref a :: vs)
theorem ChainN.mono {l l' : List (Addr × Obj)} {v : Value} {vs : List Value} (x : ChainN l v vs) (h : ∀ q ∈ l, q ∈ l') : ChainN l' v vs := by
  induction x with
  | at0 h1 h2 => exact .at0 (h _ h1) (h _ h2)
  | no h1 _ ih => exact .no (h _ h1) ih
theorem f_of {m : Str → Option Value} {v : Value} (x : Str) (h1 : m x = some v) : m = fun y => if y = x then some v else m y := by
  funext y
  by_cases h : y = x
  · simp [h, h1]
  · simp [h]
theorem loop_nos {prog : Program} {w : World} {A : Around} {E : Value → Shared → Prop} {s : Shared} {env : Env} {h₀ : Heap} {Q : Flow → Shared → Prop} {body : List Stmt} {r : Addr} {b : Int} {t₀ u₀ v₀ : Tok} {m : Str → Option Value} {news : List (Addr × Obj)} {v : Value} {ls : Addr}
    (hh : A.handled = none) (hr : IsRange s.heap r 0 b 1 t₀ u₀ v₀) (hb0 : 0 ≤ b) (hb6 : b < 6) (F : Fr h₀ env.locals s.heap m) (N : News h₀ env.locals s.heap news) (hs : m (Str.ofString "script") = some (.ref ls)) (hf : m (Str.ofString "f") = some v) (hc : ChainN news v [v])
    (turn : ∀ (v' : Value) (m₁ : Str → Option Value) (nx : List (Addr × Obj)) (s₁ : Shared) (i : Int) (t : Tok) (Q' : Flow → Shared → Prop), m₁ (Str.ofString "script") = some (.ref ls) → m₁ (Str.ofString "f") = some v' → Fr h₀ env.locals s₁.heap (fun y => if y = Str.ofString "k" then some (.int i t) else m₁ y) → News h₀ env.locals s₁.heap nx →
      (∀ h' tk a t' n m₂, Fr h₀ env.locals h' m₂ → m₂ (Str.ofString "script") = some (.ref ls) → m₂ (Str.ofString "f") = some (.ref a) → News h₀ env.locals h' ((a, tupO [.str (Str.ofString "not") t', v'] n) :: nx) → Q' .next { s₁ with heap := h', toks := tk }) →
      wpAny (model prog w) A (execs body env) Q' E s₁)
    (done : ∀ h' tk m' news' v' vs', Fr h₀ env.locals h' m' → News h₀ env.locals h' news' → m' (Str.ofString "script") = some (.ref ls) → m' (Str.ofString "f") = some v' → ChainN news' v' (v' :: vs') → vs'.length ≤ 5 → Q .next { s with heap := h', toks := tk }) :
    wpAny (model prog w) A (pyIter (.ref r)) (fun it s₂ => LoopAtV prog w A h₀ env (Str.ofString "k") body Q E it s₂) E s := by
  refine wpAny_pyIter_range hr (small_one (by decide) (by decide) (by omega) (by omega)) ?_
  have hn : Builtin.Range.rangeSize 0 b 1 = (b.toNat : Int) := by rw [rangeSize_one]; split <;> omega
  refine ⟨s.heap.objs.size, [s.heap.objs.size], [s.heap.objs.size], b.toNat, _, _, m, news, fun i m₁ news₁ => m₁ (Str.ofString "script") = some (.ref ls) ∧ ∃ v' vs', m₁ (Str.ofString "f") = some v' ∧ ChainN news₁ v' (v' :: vs') ∧ vs'.length = i, rfl, Walks.range hh _ 0 1 b.toNat, ?_, ?_, ?_, (by show IsRangeIter _ _ _ _ _; rw [hn]; simpa using Heap.get?_push_size _ rfl), F.push _, (fun p hp => ⟨Heap.get?_push_of_some _ (N p hp).1, (N p hp).2⟩), ⟨hs, v, [], hf, hc, rfl⟩, ?_, ?_⟩
  · intro hm
    exact absurd F.ns.lt ((List.mem_singleton.mp hm) ▸ Nat.lt_irrefl _)
  · intro b hb
    rw [List.mem_singleton.mp hb]
    exact next_is_new F
  · intro p hp hI
    exact absurd (Heap.lt_size (N p hp).1) ((List.mem_singleton.mp hI) ▸ Nat.lt_irrefl _)
  · rintro i _ m₁ news₁ s₁ own _ hi ⟨t, rfl⟩ ⟨hs1, v', vs', hf1, hc1, hl1⟩ hnw _ hown hown2 hst F₁ N₁
    refine turn v' m₁ (own ++ news₁) s₁ _ t _ hs1 hf1 F₁ N₁ ?_
    intro h' tk a t' n m₂ F₂ hs2 hf2 N₂
    refine LoopStepV.next (LoopStepU.introHead [(a, tupO [.str (Str.ofString "not") t', v'] n)] F₂ N₂ ?_ ⟨hs2, .ref a, v' :: vs', hf2, .no List.mem_cons_self (hc1.mono fun q hq => List.mem_cons_of_mem _ hq), by rw [List.length_cons, hl1]⟩)
    intro p hp
    rcases List.mem_cons.mp hp with rfl | hp
    · intro hI
      have e : a = s.heap.objs.size := List.mem_singleton.mp hI
      have h1 : s₁.heap.get? s.heap.objs.size = some _ := hst
      have h2 := hown2 s.heap.objs.size (List.mem_singleton.mpr rfl) (next_is_new F) _ h1
      have h3 := (N₂ _ (List.mem_cons_of_mem _ (List.mem_append_left _ h2))).1
      have h4 := (N₂ _ List.mem_cons_self).1
      simp only [e] at h4
      rw [h3] at h4
      have h5 := congrArg (fun y : Option Obj => y.map (·.cls)) h4
      simp only [Option.map_some] at h5
      have e8 : Value.type "range_iterator" = Value.type "tuple" := Option.some.inj h5
      injection e8 with e7
      exact absurd e7 (by decide)
    · exact hnw p hp
  · intro h' tk m' news' F' N' _ ⟨hs', v', vs', hf', hc', hl'⟩
    exact done h' tk m' news' v' vs' F' N' hs' hf' hc' (by omega)
structure Script (h₀ : Heap) (ls : Addr) (vs : List Value) (xs : List Int) : Prop where
  l : h₀.IsList ls vs.toArray
  ra : ∃ as, ReadsAll h₀ vs (xs.map PyData.int) as
  r0 : ∃ as, Reads h₀ (.ref ls) (.list (xs.map PyData.int)) as
  hI : IntsAre vs xs
  len : ¬ ((63 : Int) < (xs.length : Int))
def RuleA (w : World) (sc : Scope) (ss : List Stmt) : Prop := ∀ (p : Program) (loose : List Str) (mean : ExcName → Option Value) (mg mb : Str → Option Value) (s : Shared) (h₀ : Heap) (L ls : Addr) (vs : List Value) (xs : List Int) (Q : Flow → Shared → Prop),
    (hd01.heap_39 w.params).In h₀ → Top p loose mean mg mb h₀ → Fr h₀ L s.heap (fun x => [(Str.ofString "script", .ref ls)].reverse.lookup x) → Script h₀ ls vs xs →
    (∀ tk', Q (.ret (.bool true)) { s with toks := tk' }) →
    (∀ h' tk' m' news v vs', Fr h₀ L h' m' → News h₀ L h' news → m' (Str.ofString "script") = some (.ref ls) → m' (Str.ofString "f") = some v → ChainN news v (v :: vs') → vs'.length ≤ 5 → ¬ ((xs.length : Int) < 2) → Q .next { s with heap := h', toks := tk' }) →
    wpAny (model PySem.Challenge.rw_ui0505_01.row.prog w) (callerA.deeper (envW sc L)) (execs ss (envW sc L)) Q (fun _ _ => False) s
theorem item3 {prog : Program} {w : World} {A : Around} {E : Value → Shared → Prop} {s : Shared} {u : Tok} {Q : Value → Shared → Prop} {value slice : PySem.Expr} {l : Addr} {a b c : Value} {z : Int} (hl : s.heap.IsList l [a, b, c].toArray) (h : ∀ x, x = a ∨ x = b ∨ x = c → Q x s) (hz : 0 ≤ z) (hz3 : z < 3)
    (hs : subscripted slice false (.ref l) (.int z u) = operate [.ref l, .int z u] (getItem (.ref l) (.int z u)) := by with_unfolding_all rfl) :
    wpAny (model prog w) A (subscriptTail value slice (.ref l) (.int z u)) Q E s := by
  have h3 : z = 0 ∨ z = 1 ∨ z = 2 := by omega
  rcases h3 with rfl | rfl | rfl
  · exact tail_any hl.typeIs slot_list_getitem.lookup (wpAny_getItem_list hl (by decide) (by decide) rfl (h a (.inl rfl))) hs
  · exact tail_any hl.typeIs slot_list_getitem.lookup (wpAny_getItem_list hl (by decide) (by decide) rfl (h b (.inr (.inl rfl)))) hs
  · exact tail_any hl.typeIs slot_list_getitem.lookup (wpAny_getItem_list hl (by decide) (by decide) rfl (h c (.inr (.inr rfl)))) hs
/-- what g may be -/
inductive G3 (news : List (Addr × Obj)) (v : Value) : Value → Prop
  | all {a : Addr} {t u : Tok} {n : Nat} {x : Str} : (a, tupO [.str (Str.ofString "all") t, .str x u, v] n) ∈ news → G3 news v (.ref a)
  | at1 {a b c : Addr} {t u : Tok} {n k : Nat} : (a, tupO [.str (Str.ofString "atom") t, .str (Str.ofString "P") u, .ref b] n) ∈ news → (b, tupO [.ref c] k) ∈ news → G3 news v (.ref a)
  | noall {a b : Addr} {t t' u : Tok} {n k : Nat} {x : Str} : (a, tupO [.str (Str.ofString "not") t, .ref b] n) ∈ news → (b, tupO [.str (Str.ofString "all") t', .str x u, v] k) ∈ news → G3 news v (.ref a)
def RuleB (w : World) (sc : Scope) (ss : List Stmt) : Prop := ∀ (p : Program) (loose : List Str) (mean : ExcName → Option Value) (mg mb : Str → Option Value) (s : Shared) (h₀ : Heap) (L ls : Addr) (vs : List Value) (xs : List Int) (m : Str → Option Value) (news : List (Addr × Obj)) (v : Value) (Q : Flow → Shared → Prop),
    (hd01.heap_39 w.params).In h₀ → Top p loose mean mg mb h₀ → Fr h₀ L s.heap m → News h₀ L s.heap news → m (Str.ofString "script") = some (.ref ls) → m (Str.ofString "f") = some v → Script h₀ ls vs xs → ¬ ((xs.length : Int) < 2) →
    (∀ h' tk' m' news' gv, Fr h₀ L h' m' → News h₀ L h' (news' ++ news) → m' (Str.ofString "g") = some gv → G3 news' v gv → Q .next { s with heap := h', toks := tk' }) →
    wpAny (model PySem.Challenge.rw_ui0505_01.row.prog w) (callerA.deeper (envW sc L)) (execs ss (envW sc L)) Q (fun _ _ => False) s
def RuleC (w : World) (sc : Scope) (q1 q2 q3 : Pos) : Prop := ∀ (p : Program) (loose : List Str) (mean : ExcName → Option Value) (mg mb : Str → Option Value) (s : Shared) (h₀ : Heap) (L : Addr) (m : Str → Option Value) (news : List (Addr × Obj)) (v : Value) (Q : Value → Shared → Prop),
    (hd01.heap_39 w.params).In h₀ → Top p loose mean mg mb h₀ → Fr h₀ L s.heap m → News h₀ L s.heap news → m (Str.ofString "g") = some v →
    (∀ h' tk' m' a t n, Fr h₀ L h' m' → News h₀ L h' ((a, tupO [.str (Str.ofString "not") t, v] n) :: news) → Q (.ref a) { s with heap := h', toks := tk' }) →
    wpAny (model PySem.Challenge.rw_ui0505_01.row.prog w) (callerA.deeper (envW sc L)) (eval (.Call (.Name (Str.ofString "no") q1) [.Name (Str.ofString "g") q2] [] q3) (envW sc L)) Q (fun _ _ => False) s
theorem law_is (w : World) : ∃ (sc : Scope) (fd : FuncData) (o : Obj) (s1 s2 s3 s5 : Stmt) (q : Nat → Pos), (hd01.heap_39 w.params).lookup 65 = some o ∧ o.data = .func fd ∧
    fd.body = .stmts [s1, s2, s3, .If (.UnaryOp .Not (.Call (.Name (Str.ofString "is_plain") (q 0)) [.Name (Str.ofString "f") (q 1)] [] (q 2)) (q 3)) [.Return (some (.Constant (.bool false) 0 (q 4))) (q 5)] [] (q 6), s5,
      .Return (some (.UnaryOp .Not (.Call (.Name (Str.ofString "is_plain") (q 7)) [.Call (.Name (Str.ofString "no") (q 8)) [.Name (Str.ofString "g") (q 9)] [] (q 10)] [] (q 11)) (q 12))) (q 13)] ∧ fd.scope = sc ∧ fd.code = .ref 64 ∧ fd.qualname = Str.ofString "law" ∧
    (∀ L, callEnv fd L 65 = envW sc L) ∧ (∀ v, ∀ s : Shared, BindsTo s fd ⟨[v], []⟩ [(Str.ofString "script", v)]) ∧ codeIn (hd01.heap_39 w.params) (.ref 64) (Str.ofString "law") = true ∧ ScW sc ∧
    RuleA w sc [s1, s2, s3] ∧ RuleB w sc [s5] ∧ RuleC w sc (q 8) (q 9) (q 10) := by
  refine ⟨_, _, _, _, _, _, _, fun n => posOf [_, _, _, _, _, _, _, _, _, _, _, _, _, _] n, rfl, rfl, rfl, rfl, rfl, rfl, fun _ => rfl, fun _ _ => BindsTo.of_eq rfl, rfl, ⟨rfl, rfl, rfl, by decide, rfl, rfl, rfl, rfl, rfl⟩, ?_, ?_, ?_⟩
  · unfold RuleA
    k_fill
    k_with_none
    intro p loose mean mg mb s h₀ L ls vs xs Q gX gT F S h1 h2
    have hL := S.l
    obtain ⟨as1, ra⟩ := S.ra
    obtain ⟨as2, r0⟩ := S.r0
    have hI := S.hI
    have hcond := S.len
    clear S
    have K0 := below_caller (Top.heap gT)
    have N0 : News h₀ L s.heap [] := fun _ h => nomatch h
    show wpAny _ (callerA.deeper (envOf (Str.ofString "law") _ L 65 (.ref 64))) (execs _ (envOf (Str.ofString "law") _ L 65 (.ref 64))) _ _ _
    k_steps
    · exact h1 _
    · rename IsRange _ _ _ _ _ _ _ _ => hr
      rename Fr gT.heap L _ _ => F9
      rename News gT.heap L _ _ => N9
      have hm6 : 0 ≤ (xs.getD (Int.toNat 0) 0).fmod 6 ∧ (xs.getD (Int.toNat 0) 0).fmod 6 < 6 := ⟨Int.fmod_nonneg_of_pos _ (by decide), Int.fmod_lt_of_pos _ (by decide)⟩
      refine loop_nos (v := .ref _) (ls := ls) rfl hr hm6.1 hm6.2 F9 N9 rfl rfl (.at0 (by k_mem) (by k_mem)) ?_ ?_
      · intro v' m₁ nx s₁ i t Q' hs1 hf1 F₁ N₁ hQ
        rw [f_of _ hf1, f_of _ hs1] at F₁
        clear F9 N9 hr
        k_steps
        rename Fr gT.heap L _ _ => F8
        rename News gT.heap L _ _ => N8
        exact hQ _ _ _ _ _ _ F8 rfl rfl N8
      · intro h' tk m' news' v' vs' F' N' hs' hf' hc' hl'
        exact wpAny_execs_nil (h2 h' tk m' news' v' vs' F' N' hs' hf' hc' hl' (by assumption))
  · unfold RuleB
    k_fill
    k_with_none
    intro p loose mean mg mb s h₀ L ls vs xs m news v Q gX gT F N hs hf S hlen hQ
    have hL := S.l
    obtain ⟨as1, ra⟩ := S.ra
    obtain ⟨as2, r0⟩ := S.r0
    have hI := S.hI
    have hcond := S.len
    clear S
    have K0 := below_caller (Top.heap gT)
    rw [f_of _ hf, f_of _ hs] at F
    show wpAny _ (callerA.deeper (envOf (Str.ofString "law") _ L 65 (.ref 64))) (execs _ (envOf (Str.ofString "law") _ L 65 (.ref 64))) _ _ _
    k_steps
    rename Fr gT.heap L _ _ => F9
    rename News gT.heap L _ _ => N9
    have hm3 : 0 ≤ (xs.getD (Int.toNat 1) 0).fmod 3 ∧ (xs.getD (Int.toNat 1) 0).fmod 3 < 3 := ⟨Int.fmod_nonneg_of_pos _ (by decide), Int.fmod_lt_of_pos _ (by decide)⟩
    refine item3 (News.isList N9 List.mem_cons_self) ?_ hm3.1 hm3.2
    intro x hx
    k_steps
    rename Fr gT.heap L _ _ => F8
    rename News gT.heap L _ _ => N8
    refine hQ _ _ _ [_, _, _, _, _, _, _] x F8 N8 rfl ?_
    rcases hx with rfl | rfl | rfl
    · exact .all (by k_mem)
    · exact .at1 (by k_mem) (by k_mem)
    · exact .noall (by k_mem) (by k_mem)
  · unfold RuleC
    k_fill
    k_with_none
    intro p loose mean mg mb s h₀ L m news v Q gX gT F N hf hQ
    have K0 := below_caller (Top.heap gT)
    rw [f_of _ hf] at F
    show wpAny _ (callerA.deeper (envOf (Str.ofString "law") _ L 65 (.ref 64))) (eval _ (envOf (Str.ofString "law") _ L 65 (.ref 64))) _ _ _
    k_steps
    rename Fr gT.heap L _ _ => F8
    rename News gT.heap L _ _ => N8
    exact hQ _ _ _ _ _ _ F8 N8
end Mine
end
section
open PySem PySem.W PyProof.Rows PyProof.V PySem.Spec PySem.Calls
namespace Mine
theorem execs_append (a b : List Stmt) (env : Env) : execs (a ++ b) env = (execs a env >>= fun f => match f with | .next => execs b env | f => pure f) := by
  induction a with
  | nil => rfl
  | cons st a ih =>
    show execs (st :: (a ++ b)) env = _
    rw [execs_cons, execs_cons, ih]
    refine Eq.trans ?_ (Sem.bind_assoc _ _ _).symm
    show (exec st env).bind _ = _
    congr 1
    funext f
    cases f <;> rfl
section
variable {w : World} {p : Program} {loose : List Str} {mean : ExcName → Option Value} {mg mb : Str → Option Value} {h₀ : Heap} {G : Shared → Thread → Prop} {A : Around} {E : Value → Shared → Prop} {s : Shared} {env : Env}
theorem wpL_execs_append {a b : List Stmt} {Q : Flow → Shared → Prop} (h : wpL G A (execs a env) (fun f s' => match f with | .next => wpL G A (execs b env) Q E s' | f => Q f s') E s) : wpL G A (execs (a ++ b) env) Q E s := by
  rw [execs_append]
  refine wpL_bind (wpL_mono h (fun f s' h' => ?_) fun _ _ x => x)
  cases f <;> first | exact h' | exact wpL_pure h'
/-- a call of is_plain with one argument -/
theorem wpL_isplain (hG : Back (model prog1 w) G) (g : Gnd w p loose mean mg mb h₀) (hb : ∀ b o, h₀.get? b = some o → s.heap.get? b = some o) {p1 pos : Pos} {e : PySem.Expr} {Q : Value → Shared → Prop} (hk : env.scope.kind = .function) (hfn : env.kindOf (Str.ofString "is_plain") = some .globalImplicit) (hgl : env.globals = mainGlobals)
    (he : starEach [e] env = (false, eval e env) :: starEach [] env)
    (h : wpAny (model prog1 w) A (eval e env) (fun v s₁ => (∀ b o, h₀.get? b = some o → s₁.heap.get? b = some o) ∧ codeL (model prog1 w) G A (.call (.ref 58) ⟨[v], []⟩) (fun r s' => match r with | .ok (.ret v) => Q v s' | .ok _ => False | .error e => E e s') s₁) E s) :
    wpL G A (eval (.Call (.Name (Str.ofString "is_plain") p1) [e] [] pos) env) Q E s := by
  rw [arm_eval_Call_Name']
  refine wpL_bind (wpL_of hG (Name_function_global hk hfn (loadGlobal_global (hgl ▸ (g.T.keeps hb).g) (mg_of g.X g.T.g (v := .ref 58) rfl) ?_) (by decide)))
  have h' : wpAny (model prog1 w) A (spliced (backTo pos (starEach [e] env))) (fun vs s₁ => (hd01.heap_39 w.params).In s₁.heap ∧ wpL G A (call (.ref 58) ([] ++ vs) []) Q E s₁) E s :=
    spliced_more (wpAny_mono h (fun v s₁ h₁ => spliced_none ⟨g.X.keeps h₁.1, wpL_call hG h₁.2⟩) fun _ _ x => x) he
  refine callWith_L hG (P := (hd01.heap_39 w.params).In) (by rw [he]; rfl) (keeps_K rfl) ?_
  rw [he] at h' ⊢
  exact evalArgs_plain h'
end
theorem chain_up {h₀ h : Heap} {L : Addr} {news : List (Addr × Obj)} (N : News h₀ L h news) {v : Value} {vs : List Value} (c : ChainN news v vs) : Chain h₀ h v vs ∧ Bads h₀ h vs true := by
  have hN : ∀ q ∈ news, h.get? q.1 = some q.2 ∧ h₀.get? q.1 = none := fun q hq => ⟨(N q hq).1, (N q hq).2.2⟩
  induction c with
  | at0 h1 h2 => exact ⟨.last ⟨_, _, rfl, (N _ h1).1, (N _ h1).2.2, ⟨_, _, rfl⟩, .at List.mem_cons_self⟩, .go ⟨news, hN, .at0 h1 h2⟩ .nil⟩
  | no h1 _ ih => exact ⟨.more ⟨_, _, rfl, (N _ h1).1, (N _ h1).2.2, ⟨_, _, rfl⟩, .no List.mem_cons_self⟩ ih.1, .go ⟨news, hN, .no h1⟩ ih.2⟩
theorem g3_up {h₀ h : Heap} {L : Addr} {news : List (Addr × Obj)} (N : News h₀ L h news) {v gv : Value} {vs : List Value} (c : Chain h₀ h v (v :: vs)) (g : G3 news v gv) : ∃ us, us.length ≤ vs.length + 2 ∧ Chain h₀ h gv (gv :: us) ∧ Bads h₀ h (gv :: us) false := by
  have hN : ∀ q ∈ news, h.get? q.1 = some q.2 ∧ h₀.get? q.1 = none := fun q hq => ⟨(N q hq).1, (N q hq).2.2⟩
  cases g with
  | all h1 => exact ⟨v :: vs, by simp, .more ⟨_, _, rfl, (N _ h1).1, (N _ h1).2.2, ⟨_, _, rfl⟩, .all List.mem_cons_self⟩ c, .stop ⟨news, hN, .all h1⟩⟩
  | at1 h1 h2 => exact ⟨[], by simp, .last ⟨_, _, rfl, (N _ h1).1, (N _ h1).2.2, ⟨_, _, rfl⟩, .at List.mem_cons_self⟩, .stop ⟨news, hN, .at1 h1 h2⟩⟩
  | noall h1 h2 => exact ⟨_ :: v :: vs, by simp, .more ⟨_, _, rfl, (N _ h1).1, (N _ h1).2.2, ⟨_, _, rfl⟩, .no List.mem_cons_self⟩ (.more ⟨_, _, rfl, (N _ h2).1, (N _ h2).2.2, ⟨_, _, rfl⟩, .all List.mem_cons_self⟩ c), .go ⟨news, hN, .no h1⟩ (.stop ⟨news, hN, .all h2⟩)⟩
theorem After.trans {X X' : Addr → Prop} {s s₁ s₂ : Shared} (a : After X s s₁) (hX : ∀ a, ¬ X a) (b : After X' s₁ s₂) : After X' s s₂ := by
  refine ⟨fun x o e => b.keep x o (a.keep x o e), fun i hi => (b.gkeep i (Nat.lt_of_lt_of_le hi a.gsz)).trans (a.gkeep i hi), Nat.le_trans a.gsz b.gsz, fun x hx => ?_, fun i x hi e => ?_, b.os.trans a.os⟩
  · cases e : s.heap.get? x with
    | none => rfl
    | some o => have := b.own x hx; rw [a.keep x o e] at this; cases this
  · rcases Nat.lt_or_ge i s₁.gens.size with h | h
    · exact (a.fine i x hi ((b.gkeep i h).symm.trans e)).mono (fun y hy => (hX y hy).elim) fun y _ hy _ => (hX y hy).elim
    · exact b.fine i x h e
theorem After.of_heap {s : Shared} {h : Heap} {tk : Nat} (hk : ∀ b o, s.heap.get? b = some o → h.get? b = some o) : After (fun _ => False) s { s with heap := h, toks := tk } :=
  ⟨hk, fun _ _ => rfl, Nat.le_refl _, fun _ h => h.elim, fun i x hi e => absurd (gens_lt e) (Nat.not_lt.mpr hi), rfl⟩
section
variable {w : World} {p : Program} {loose : List Str} {mean : ExcName → Option Value} {mg mb : Str → Option Value} {G : Shared → Thread → Prop} {s : Shared} {R : Result → Shared → Prop} {ls : Addr} {vs : List Value} {xs : List Int}
theorem aok_caller {n : Nat} {env : Env} (h : n ≤ 12) : AOk n (callerA.deeper env) := by
  refine ⟨rfl, ?_, ?_⟩
  · have h1 : (callerA.deeper env).depth + 8 * 12 + 8 < recursionLimit := by show callerA.depth + 1 + 8 * 12 + 8 < _; decide +kernel
    omega
  · have h1 : (callerA.deeper env).units + 64 * 12 + 128 < cLine := by show callerA.units + 3 + 64 * 12 + 128 < _; decide +kernel
    omega
theorem law_L (hG : Back (model prog1 w) G) (hz : Lazy G) (gX : (hd01.heap_39 w.params).In s.heap) (gT : Top p loose mean mg mb s.heap) (S : Script s.heap ls vs xs)
    (hR : ∀ X' s', After X' s s' → R (.ok (.ret (.bool true))) s') : codeL (model prog1 w) G callerA (.call (.ref 65) ⟨[.ref ls], []⟩) R s := by
  obtain ⟨sc, fd, o, s1, s2, s3, s5, q, h1, h2, h3, h4, h5, h6, h7, h8, h9, W, hA, hB, hC⟩ := law_is w
  have gd : Gnd w p loose mean mg mb s.heap := ⟨gX, gT⟩
  have hcd : s.heap.CodeRec fd.code fd.qualname := by rw [h5, h6]; exact codeRec_of gX h9
  refine codeL_call_def hG (binds := [(Str.ofString "script", .ref ls)]) (by decide +kernel) (gX 65 _ h1) h2 gT.nolimit hcd h3 (h8 _ s) (by rw [h4]; exact W.cell) (by intro x hx; rw [List.mem_singleton.mp hx, h4]; exact W.s) (fun h₁ hns hk₁ => ?_) (by rw [h4]; exact W.co) (by rw [h4]; exact W.gen) (by rw [h4]; exact W.kind)
  rw [h7]
  refine codeL_func hG ?_
  refine wpL_execs_append (a := [s1, s2, s3]) (b := [_, s5, _]) (wpL_of hG ?_)
  refine hA p loose mean mg mb _ s.heap s.heap.objs.size ls vs xs _ gX gT ⟨hns, hk₁, Nat.le_refl _⟩ S (fun tk' => ?_) ?_
  · exact hR _ _ (After.of_heap hk₁)
  intro h' tk' m' news v vs' F' N' hs hf hc hl hlen
  have hszF : ∀ {h'' : Heap} {m'' : Str → Option Value}, Fr s.heap s.heap.objs.size h'' m'' → s.heap.objs.size ≤ h''.objs.size := fun F => Nat.le_of_lt F.ns.lt
  obtain ⟨hCh, hBd⟩ := chain_up N' hc
  refine wpL_execs_cons ?_
  rw [exec_If]
  refine wpL_bind (wpL_of hG (wpAny_standAt ?_))
  rw [arm_isTrue_UnaryOp]
  refine wpL_bind (wpL_bind ?_)
  show wpL G _ (do let v ← eval _ _; standAt _; holding [v] (truthy v)) _ _ _
  refine wpL_bind (wpL_isplain hG gd F'.keep W.kind W.plain rfl rfl (wpAny_Name (wpAny_loadName_local W.kind W.f F'.ns hf ⟨F'.keep, ?_⟩) (by decide)))
  refine plain_L hG hz gd F'.keep (hszF F') (aok_caller (by omega)) hCh hBd fun X1 s₃ af hX1 => ?_
  refine wpL_bind (wpL_of hG (wpAny_standAt (wpL_of hG (wpAny_holding (wpAny_truthy_bool (wpL_pure ?_))))))
  show wpL G _ (execs [] (envW sc s.heap.objs.size)) _ _ s₃
  refine wpL_of hG (wpAny_execs_nil ?_)
  have F3 : Fr s.heap s.heap.objs.size s₃.heap m' := ⟨F'.ns.at' fun o e => af.keep _ o e, fun b o e => af.keep b o (F'.keep b o e), F'.above⟩
  have N3 : News s.heap s.heap.objs.size s₃.heap news := fun q hq => ⟨af.keep _ _ (N' q hq).1, (N' q hq).2⟩
  have hCh3 := hCh.mono fun a vs n e => af.keep a _ e
  have a1 : After X1 s s₃ := (After.of_heap (s := s) (tk := tk') F'.keep).trans (fun _ h => h) ⟨af.keep, af.gkeep, af.gsz, af.own, af.fine, af.os⟩
  refine wpL_execs_append (a := [s5]) (b := [_]) (wpL_of hG ?_)
  refine hB p loose mean mg mb s₃ s.heap s.heap.objs.size ls vs xs m' news v _ gX gT F3 N3 hs hf S hlen ?_
  intro h4' tk4 m4 news4 gv F4 N4 hg4 hG3
  refine wpL_execs_cons ?_
  rw [exec_Return_some]
  refine wpL_bind (wpL_of hG (wpAny_standAt ?_))
  rw [arm_eval_UnaryOp]
  refine wpL_bind (wpL_bind ?_)
  refine wpL_isplain hG gd F4.keep W.kind W.plain rfl rfl (hC p loose mean mg mb _ s.heap s.heap.objs.size m4 (news4 ++ news) gv _ gX gT F4 N4 hg4 ?_)
  intro h5' tk5 m5 a t n F5 N5
  refine ⟨F5.keep, ?_⟩
  have Nn : News s.heap s.heap.objs.size h5' news := fun q hq => N5 q (List.mem_cons_of_mem _ (List.mem_append_right _ hq))
  have N4' : News s.heap s.heap.objs.size h5' news4 := fun q hq => N5 q (List.mem_cons_of_mem _ (List.mem_append_left _ hq))
  obtain ⟨us, hus, hCg, hBg⟩ := g3_up N4' (chain_up Nn hc).1 hG3
  have N0 := N5 _ List.mem_cons_self
  have hCn : Chain s.heap h5' (.ref a) (.ref a :: gv :: us) := .more ⟨_, _, rfl, N0.1, N0.2.2, ⟨_, _, rfl⟩, .no List.mem_cons_self⟩ hCg
  have hBn : Bads s.heap h5' (.ref a :: gv :: us) false := .go ⟨_, fun q hq => ⟨(N5 q hq).1, (N5 q hq).2.2⟩, .no List.mem_cons_self⟩ hBg
  refine plain_L hG hz gd F5.keep (hszF F5) (aok_caller (by simp only [List.length_cons]; omega)) hCn hBn fun X2 s₆ af2 _ => ?_
  refine wpL_bind (wpL_of hG (wpAny_standAt (wpL_of hG (wpAny_holding (not_value (wpAny_truthy_bool (wpL_pure ?_)))))))
  have a5 : After (fun _ => False) s { s₃ with heap := h5', toks := tk5 } := ⟨F5.keep, a1.gkeep, a1.gsz, fun _ h => h.elim, fun i x hi e => (a1.fine i x hi e).mono (fun y hy => (hX1 rfl y hy).elim) fun y _ hy _ => (hX1 rfl y hy).elim, a1.os⟩
  exact hR X2 s₆ (a5.trans (fun _ h => h) ⟨af2.keep, af2.gkeep, af2.gsz, af2.own, af2.fine, af2.os⟩)
end
end Mine
end
section
open PySem PySem.W PyProof.Rows
namespace Mine
abbrev as1 : List Addr := [2, 3, 6, 15, 16, 17, 19, 20, 22, 23, 24, 26, 27, 29, 30, 31, 33, 34, 36, 37, 38, 40, 41, 43, 44, 45, 47, 48, 50, 51, 52, 54, 55, 57, 58, 59, 61, 62, 64, 65]
theorem as1_eq (P : Params) : as1 = (hd01.heap_39 P).map (·.1) := by kernel_rfl
theorem left01 : LeftO PySem.Challenge.rw_ui0505_01.row.prog hd01.view_39 [] (fun s => xlAt hd01.view_39 [] s && recOk [] s) (Hook.obs (kHook hd01.heap_39 as1 as1_eq)) (Hook.val (kHook hd01.heap_39 as1 as1_eq)) 880 := fun w => by kernel_rfl
end Mine
end
section
open PySem PySem.W PyProof.Rows PyProof.V PySem.Spec PySem.Calls
namespace Mine
theorem stays_no {X : Addr → Prop} {s s' : Shared} (a : After X s s') (h0 : s.gens = #[]) (hr : s'.heap.life.registered = []) : stays s' = false := by
  unfold stays
  rw [Array.any_eq_false]
  intro i hi
  have e : s'.gens[i]? = some s'.gens[i] := Array.getElem?_eq_getElem hi
  have f := a.fine i _ (by rw [h0]; exact Nat.zero_le _) e
  cases hx : s'.gens[i] with
  | suspended k l c p fs cl =>
    rw [hx] at f
    cases cl with
    | false => simp
    | true =>
      obtain ⟨h1, it, o, rfl, _, h4, h5⟩ := f
      have : closingShows s' fs (cY it) true = false := by
        unfold closingShows
        rw [h1]
        simp only [Bool.false_or, Bool.true_and]
        show delegateShows s' (.ref it) = false
        unfold delegateShows
        dsimp only
        rw [h4]
        cases hgn : o.genNumber? with
        | none => rw [hgn] at h5; cases h5
        | some n => simp [hr, hgn]
      simp [this]
  | _ => simp
theorem callFrom_L {c : ClaimW} {tree : List Value → Sem Fin} {w : World} {s : Shared} {free : Addr → Prop} {gens : Prop} {kept : Heap → Prop} (hz : s.asleep) (hgens : s.gens = #[])
    (hspec : ∀ args, c.pre args = true → WData.layableAll args = true →
      ∀ ord : List DictEntry → List DictEntry, (∀ l, (ord l).Perm l) →
      ∃ vs s₁, layAllW c.records (classAt s.heap) w.params ord args s = some (vs, s₁) ∧
        EndsA c.prog w (fun v s' => c.Ends s args vs s₁ (.ok (.ret v)) s' ∧ s'.os = s.os ∧ kept s'.heap) s₁ ⟨tree vs, .builtin "claim.caller" {}, default, []⟩) :
    c.CallFrom (fun vs => ⟨tree vs, .builtin "claim.caller" {}, default, []⟩) w free gens kept s := by
  intro args hpre hlay ord hord
  obtain ⟨vs, s₁, hlaid, hE⟩ := hspec args hpre hlay ord hord
  have hal := layAllW_rest _ _ _ hlaid
  have hz1 : s₁.asleep := Shared.asleep_of_life hal.2.2.2 hz
  obtain ⟨n, v, s', s₂, hsched, ⟨hcase, hos, hkp⟩, eh, eo, hlife⟩ := ends_sched _ _ _ (hE hz1.1) s₁ _ rfl rfl hz1
  have hcase := hcase.congr eh
  have hkp : kept s'.heap := by rw [eh]; exact hkp
  rw [← eo] at hos
  have hlife : s'.heap.life = s.heap.life := hlife.trans hal.2.2.2
  refine ⟨vs, s₁, hlaid, n, _, s', hsched, ?_, (fun _ i x hx => by rw [hgens] at hx; simp at hx), hkp, by rw [hlife], Shared.rest_eq hos⟩
  rcases hcase with ⟨v, e, d1, d2, d3, d4, d5⟩ | ⟨e, ob, cls, he, _⟩
  · cases e; exact .inl ⟨_, rfl, d1, d2, d3, fun b o y _ => d4 b o y, d5⟩
  · cases he
theorem endsA_of {prog : Program} {w : World} {Post : Value → Shared → Prop} {t : Sem Fin} {s : Shared}
    (h : wpL (EndsA prog w Post) callerA t (fun fin s' => ∃ v, fin = .done (.ret v) ∧ Post v s' ∧ (s'.heap.life.registered = [] → stays s' = false)) (fun _ _ => False) s) : EndsA prog w Post s ⟨t, .builtin "claim.caller" {}, default, []⟩ := by
  have e := h ⟨.builtin "claim.caller" {}, none, none, [], none⟩ default [] caller_in ⟨rfl, rfl, rfl, rfl⟩ .pure .raise id id ?_ fun _ _ _ x => x.elim
  · rw [wrap_id] at e; exact e
  · rintro fin p' s' ⟨v, rfl, hp, hs⟩ hr
    exact .done hp (hs hr)
end Mine
end
section
open PySem PySem.W PyProof.Rows PyProof.V PySem.Spec PySem.Calls
namespace Mine
abbrev WalkL (q : Program) (loose : List Str) (XP : (Str → Option Value) → Heap → Prop) (YP : World → Heap → Prop) (r : RowW) : Prop :=
  ∀ (w : World) (s₀ s₁ : Shared) (mg mb : Str → Option Value), Ground q loose r.records XP w s₀ mg mb s₁.heap → YP w s₁.heap → s₁.gens = #[] →
    ∀ (args : List WData) (vals : List Value) (as : List Addr), r.claim.pre args = true → WData.layableAll args = true → ReadsAllW r.records (classAt s₀.heap) s₁.heap vals args as → WellAll w.params s₁.heap vals args → (∀ a ∈ as, (a == sysModules) = false) →
      ∃ f, mg r.name = some f ∧ ∀ (G : Shared → Thread → Prop), Back (model r.prog w) G → Lazy G → ∀ (R : Result → Shared → Prop),
        (∀ X v s', After X s₁ s' → GoodWG r.claim (classAt s₀.heap) (ExcName.means s₀.heap) args s₁ (.ok (.ret v)) { s' with gens := #[] } → R (.ok (.ret v)) s') → codeL (model r.prog w) G callerA (.call f ⟨vals, []⟩) R s₁
theorem holds_openL {r : OpenRow} {q : Program} {loose : List Str} {Xt : Shared → Bool} {XP : (Str → Option Value) → Heap → Prop} {α : Type} {Yf : Shared → α} {Ya : World → α} {YP : World → Heap → Prop} {d : DefRec} {kwd : List (Str × PySem.Expr)} {N : Nat}
    (left : LeftO r.prog q loose Xt Yf Ya N) (hY : ∀ w s, Yf s = Ya w → YP w s.heap) (hYk : ∀ w h h', YP w h → (∀ b o, h.get? b = some o → h'.get? b = some o) → YP w h')
    (hX : ∀ s, Xt s = true → XP (s.heap.nsMap mainGlobals) s.heap) (hXk : ∀ mg h h', XP mg h → (∀ b o, h.get? b = some o → h'.get? b = some o) → XP mg h')
    (hdef : defOf q r.name = some (d, kwd)) (hp : r.prog.theDef r.name = some (d.params, d.body, d.scope)) (hk : kwWritten? d.params.kwonlyargs d.params.kw_defaults = some kwd) (hRf : ∀ s, Xt s = true → RecFacts r.records s.heap) (hwr : (!r.writes || r.records.isEmpty) = true)
    (k1 : r.wellSaid = true) (ok : (chainsOk q && opensWell r.prog && (frees r.toRowW && r.within.isEmpty)) = true) (hb : r.prog.bare) (hw : r.toRowW.promised)
    (call : WalkL q loose XP YP r.toRowW) : r.Holds := by
  refine ⟨k1, hw, ?_⟩
  obtain ⟨ok, k5⟩ := Bool.and_eq_true_iff.mp ok
  obtain ⟨hch, o1⟩ := Bool.and_eq_true_iff.mp ok
  obtain ⟨k5, k6⟩ := Bool.and_eq_true_iff.mp k5
  obtain ⟨hsame, hu, ha, hap, hm⟩ := frees_parts k5
  refine ⟨⟨hb, o1, by show r.toRowW.makers.map _ = []; rw [hm]; rfl⟩, hw.witness, fun w => ⟨(left.behind hX hch w).1, fun s' hs' => ?_⟩⟩
  obtain ⟨s₀, hf, hg0, s, hT, hz, hgens, hg, G00, y⟩ := (left.behind (XP := fun mg h => XP mg h ∧ RecFacts r.records h) (fun s hs => ⟨hX s hs, hRf s hs⟩) hch w).2 s' hs'
  have G0 : Ground q loose [] XP w s (s.heap.nsMap mainGlobals) (s.heap.nsMap builtinsNs) s.heap := ⟨G00.T, G00.B, G00.D, G00.TE, G00.TD, G00.W, G00.X.1, G00.cls, G00.has, G00.apart, G00.once, G00.K⟩
  have RF := G00.X.2
  have hT' := hT
  refine ⟨s₀, hf, hg0, s, hT, ?_, RF.1, RF.2.1, ?_⟩
  · intro n hn
    obtain rfl : n = r.name := by split at hn <;> simp_all
    exact pinned_of_view hg G0 hdef hp hk
  have hgens : s.gens = #[] := Array.eq_empty_of_size_eq_zero (beq_iff_eq.mp hgens)
  have G : Ground q loose r.records XP w s _ _ s.heap := RF.ground G0
  refine callFrom_L (c := r.toRowW.claim) (tree := fun vs => do match ← nsGet mainNs r.name with
      | some f => do ret (← PySem.call f vs)
      | none => unsupported "claim.caller:no-such-global") hz hgens fun args hpre hlay ord hord => ?_
  obtain ⟨⟨vs, s₁⟩, hlaid⟩ := Option.isSome_iff_exists.mp (layAllW_isSome (P := w.params) (ord := ord) G.has args r.toRowW.args s (pre_splitW hpre).1)
  have keeps := layAllW_keeps _ _ _ hlaid
  have hal := layAllW_rest _ _ _ hlaid
  obtain ⟨as, hrd, hin, hold⟩ := reads_layAllW hord _ _ _ hlaid hlay s₁.heap (fun _ _ e => e)
  have L : Laid r.records w s s₁ args vs as := ⟨⟨ord, hord, hlaid⟩, hrd, hin, hold, keeps, hal.1.trans hgens, hal.2.2.1⟩
  have G₁ := G.keeps hXk keeps
  obtain ⟨f, hf, h⟩ := call w s s₁ _ _ G₁ (hYk _ _ _ (hY w s y) keeps) L.gens args vs as hpre hlay L.reads L.well (L.low G.low)
  have hi := ident_freeW hu ha hap
  have hwi : r.toRowW.claim.within = [] := List.isEmpty_iff.mp k6
  refine ⟨vs, s₁, hlaid, endsA_of ?_⟩
  have hBk := endsA_back r.prog w (fun v s' => r.toRowW.claim.Ends s args vs s₁ (.ok (.ret v)) s' ∧ s'.os = s.os ∧ (r.writes = true → namesKept r.toRowW.claim.prog r.keeps s.heap s'.heap ∧ ∀ x ∈ r.toRowW.claim.records, ∀ a, classAt s.heap x.1 = some a → recordClass s'.heap a x.1 (x.2.map (·.1)) = true))
  refine wpL_bind (wpL_of hBk (wpAny_nsGet G₁.T.g ?_))
  rw [hf]
  refine wpL_bind (wpL_call hBk (h _ hBk (endsA_lazy _ _ _) _ fun X v s' a g => ?_))
  have z := g.laid (c := r.toRowW.claim) hsame hwi hi L
  exact wpL_pure ⟨v, rfl, ⟨z.1, z.2.1, fun q => ⟨namesKept_of hT' hg r.keeps keeps g.2.1.old, noTable hwr q⟩⟩, stays_no a L.gens⟩
end Mine
end
section
open PySem PySem.W PyProof.Rows PyProof.V PySem.Spec PySem.Calls
namespace Mine
theorem walk01 : WalkL hd01.view_39 [] (XL hd01.view_39 []) (Hook.says (kHook hd01.heap_39 as1 as1_eq)) PySem.Challenge.rw_ui0505_01.row.toRowW := by
  intro w s₀ s₁ mg mb G Y hg args vals as hpre hlay hrd hwl hlo
  have KX := kIn_of Y
  have T := G.T
  have hmg : mg (Str.ofString "law") = some (.ref 65) := mg_of KX T.g rfl
  refine ⟨.ref 65, hmg, ?_⟩
  clear hmg
  wrow_args hpre hlay hrd hwl hlo
  intro G' hG hz R hR
  rename Heap.IsList _ _ _ => hL
  rename ReadsAll _ _ _ _ => ra
  rename Reads _ _ _ _ => r0
  rename IntsAre _ _ => hI
  refine law_L hG hz KX T ⟨hL, ⟨_, ra⟩, ⟨_, r0⟩, hI, by assumption⟩ fun X s' a => hR X _ s' a ?_
  refine GoodW.toG ⟨.inl ⟨.bool true, .bool true, [], rfl, fun _ => rfl, .bool _, ?_, fun _ => ⟨List.nodup_nil, fun _ h => nomatch h⟩⟩, fun b o e => a.keep b o e, a.os, rfl⟩
  wrow_post
theorem fin01 : PySem.Challenge.rw_ui0505_01.Holds := by
  w_on
  o_law
  refine holds_openL (q := hd01.view_39) (loose := []) (Xt := fun s => xlAt hd01.view_39 [] s && recOk [] s) (XP := XL hd01.view_39 []) (Yf := Hook.obs (kHook hd01.heap_39 as1 as1_eq)) (Ya := Hook.val (kHook hd01.heap_39 as1 as1_eq)) (YP := Hook.says (kHook hd01.heap_39 as1 as1_eq)) (N := 880) left01 (Hook.of _) (Hook.keeps _) (fun s e => xl_of s (Bool.and_eq_true_iff.mp e).1) XL.keeps (by rfl) (by rfl) (by rfl) (fun s e => recFacts_of (Bool.and_eq_true_iff.mp e).2) (by rfl) (by assumption) (by decide +kernel) ⟨rfl, rfl, rfl, rfl, rfl, by decide +kernel⟩ ?hw walk01
  case hw => w_witness2
end Mine
end
theorem PySem.Challenge.cw_ui0505_01_holds : PySem.Challenge.rw_ui0505_01.Holds :=
  Mine.fin01
