import PyProof.Rows.All
import Wide.All
import OpenK.AllK
import Wide.FinOn
import HandS.GenList
import HandS.ForMost
import HandS.Head0
import HandS.Head1
import HandS.Head2
import HandS.HeadEnd
import HandS.EndBits
import HandS.HeadHook1
import HandS.HeadHook2
import HandS.HeadHook3
import HandS.Property
import HandS.Codes
import HandS.Star
import PySem.Challenge.RW_handlesagain_k53_whole_counts_of_weaving
import HandS.IsInst
import HandS.AnyAll
import HandS.NoneIn
import HandS.TupMul
import HandS.TupAny
import HandS.Conv
import HandS.MakeKwOnly
import PyProof.Rows.StrJoinMade
import KE.KDictWalk
import KE.KDictKeyed
import HandS.TupLen
import HandS.TupSets
section WvA_part
set_option Elab.async false
set_option maxRecDepth 100000
/-! WvA: runs of the machine in which a generator may sleep over another generator. -/
namespace Wv
open PySem
open Sem (wp)

/-- a yield that sleeps over another generator -/
def Deleg (s : Shared) (t : Thread) : Prop :=
  ∃ v g l k fs b rest a as kw o, t.cur = .yield v g l k ∧ splitAtGen t.stack = some (fs, b, rest) ∧ fs.any Frame.guarded = false ∧
    t.code = .builtin "proto.yield_from" ⟨.ref a :: as, kw⟩ ∧ s.heap.get? a = some o ∧ o.genNumber?.isSome = true
def Mild (s : Shared) (t : Thread) : Prop := t.calm = true ∨ Deleg s t

theorem mild_same {s1 s2 : Shared} {t1 t2 : Thread} (hs : s1.forget = s2.forget) (ht : t1.forget = t2.forget) (h : Mild s1 t1) : Mild s2 t2 := by
  rcases h with h | ⟨v, g, l, k, fs, b, rest, a, as, kw, o, h1, h2, h3, h4, h5, h6⟩
  · left
    rw [← Thread.calm_forget, ← ht, Thread.calm_forget]; exact h
  · right
    obtain ⟨e1, _⟩ := Shared.forget_eq hs
    obtain ⟨c1, d1, p1, st1⟩ := t1
    obtain ⟨c2, d2, p2, st2⟩ := t2
    simp only [Thread.forget, Thread.mk.injEq] at ht
    obtain ⟨q1, q2, q3, q4⟩ := ht
    have e2 := splitAtGen_forgetAll st1
    have e3 := splitAtGen_forgetAll st2
    rw [q4] at e2
    rw [e2, h2] at e3
    cases q : splitAtGen st2 with
    | none => rw [q] at e3; cases e3
    | some x =>
      obtain ⟨fs', b', rest'⟩ := x
      rw [q] at e3
      simp only [Option.map_some, Option.some.injEq, Prod.mk.injEq] at e3
      refine ⟨v, g, l, k, fs', b', rest', a, as, kw, o, q1.symm.trans h1, q, ?_, q2.symm.trans h4, by rw [← e1]; exact h5, h6⟩
      rw [← any_guarded_forgetAll, ← e3.1, any_guarded_forgetAll]; exact h3

section
variable (den : Code → Sem Fin) (prog : Program) (w : World)

theorem life_deleg (others : List Value) (s : Shared) (t : Thread) (h : Deleg s t) (hz : s.asleep) : lifeStep den prog w others s t = step den prog w s t := by
  obtain ⟨v, g, l, k, fs, b, rest, a, as, kw, o, h1, h2, h3, h4, h5, h6⟩ := h
  obtain ⟨hr, hc⟩ := hz
  obtain ⟨cur, code, pos, stack⟩ := t
  dsimp only at h1 h2 h4
  subst h1 h4
  by_cases hs : Thread.special ⟨.yield v g l k, .builtin "proto.yield_from" ⟨.ref a :: as, kw⟩, pos, stack⟩ = true
  · have hd : delegateShows s (.ref a) = false := by
      simp only [delegateShows, h5]
      cases q : o.genNumber? with
      | none => rw [q] at h6; cases h6
      | some n => simp [hr]
    simp only [lifeStep, hs, if_true]
    have hct : collectorTurn? w.params others s ⟨.yield v g l k, .builtin "proto.yield_from" ⟨.ref a :: as, kw⟩, pos, stack⟩ = none := rfl
    simp only [hct, h2, closingShows, h3, hd, Bool.and_false, Bool.or_false, Bool.false_eq_true, if_false, Thread.atItsEnd, Bool.false_and]
    exact stepCounting_eq_step den prog w s _ hc
  · have hs' : Thread.special ⟨.yield v g l k, .builtin "proto.yield_from" ⟨.ref a :: as, kw⟩, pos, stack⟩ = false := by simpa using hs
    exact lifeStep_eq_step den prog w others s _ hs' hc

theorem sstep_deleg (s : Shared) (t : Thread) (h : Deleg s t) (hz : s.asleep) : sstep den prog w (.single s t) = (step den prog w s t).lift := by
  have hl := fun others => life_deleg den prog w others s t h hz
  obtain ⟨v, g, l, k, fs, b, rest, a, as, kw, o, h1, h2, h3, h4, h5, h6⟩ := h
  obtain ⟨cur, code, pos, stack⟩ := t
  dsimp only at h1 h2 h4
  subst h1
  have hm : ∀ pr, (Config.single s ⟨.yield v g l k, code, pos, stack⟩).moves pr = [.run 0] := fun pr => by
    simp [Config.moves, Config.single, movesFrom, Thread.moves, Thread.atomic, Thread.rests, Thread.tells]
  have g1 : (Config.single s ⟨.yield v g l k, code, pos, stack⟩).collect? w.params = none := by
    simp [Config.collect?, Config.single, (nothing_to_collect _ _ _ s _ hz.1).1]
  have g2 : (Config.single s ⟨.yield v g l k, code, pos, stack⟩).collectable = [] := by
    simp [Config.collectable, Config.single, (nothing_to_collect w.params _ _ s _ hz.1).2]
  have hp : (Config.single s ⟨.yield v g l k, code, pos, stack⟩).pick w = .ok (.run 0, .single s ⟨.yield v g l k, code, pos, stack⟩) := by
    simp only [Config.pick, g1, g2, Config.pickThread, hm]
    cases w.params.lifetimes <;> simp
  have hrun : (Config.single s ⟨.yield v g l k, code, pos, stack⟩).run den prog w 0 = (step den prog w s ⟨.yield v g l k, code, pos, stack⟩).lift := by
    simp only [Config.run, Config.single]
    simp [hl, others_single, frozenBadly, ThreadState.insideWrite, Thread.finalizes]
    cases step den prog w s ⟨.yield v g l k, code, pos, stack⟩ <;> simp [Step.lift, Config.single]
  simp only [sstep, hp, Config.move, hrun]

/-- steps of the machine (kept lists left out), each of them mild -/
inductive Go : Shared → Thread → Shared → Thread → Prop
  | refl {s t} : Go s t s t
  | step {s t s1 t1 s2 t2} : Mild s t → stepK den prog w s t = .go s1 t1 → Go s1 t1 s2 t2 → Go s t s2 t2
theorem Go.trans {s t s1 t1 s2 t2} (a : Go den prog w s t s1 t1) (b : Go den prog w s1 t1 s2 t2) : Go den prog w s t s2 t2 := by
  induction a with
  | refl => exact b
  | step h1 h2 _ ih => exact .step h1 h2 (ih b)

/-- the real machine takes the same steps -/
theorem Go.real {s t s2 t2} (h : Go den prog w s t s2 t2) : ∀ {r : Shared} {u : Thread}, r.asleep → r.forget = s.forget → u.forget = t.forget →
    ∃ n r2 u2, schedN den prog w n (.single r u) = .running (.single r2 u2) ∧ r2.forget = s2.forget ∧ u2.forget = t2.forget ∧ r2.heap.life = r.heap.life := by
  induction h with
  | refl => intro r u _ h1 h2; exact ⟨0, r, u, rfl, h1, h2, rfl⟩
  | @step s t s1 t1 s2 t2 hm hg _ ih =>
    intro r u hz h1 h2
    have hst : (PySem.step den prog w r u).forget = (stepK den prog w s t).forget := (step_same den prog w h1 h2).trans (stepK_forget den prog w s t).symm
    rw [hg] at hst
    cases hr : PySem.step den prog w r u with
    | halt o x => rw [hr] at hst; cases hst
    | go r1 u1 =>
      rw [hr] at hst
      simp only [Step.forget, Step.go.injEq] at hst
      have hlife := step_life den prog w r r1 u u1 hr
      have hone : sstep den prog w (.single r u) = .go (.single r1 u1) := by
        rcases mild_same h1.symm h2.symm hm with hc | hd
        · rcases sstep_single den prog w r u hc hz with e | e
          · rw [e, hr]; rfl
          · rw [hr] at e; cases e
        · rw [sstep_deleg den prog w r u hd hz, hr]; rfl
      obtain ⟨n, r2, u2, hn, f1, f2, f3⟩ := ih (r := r1) (u := u1) (Shared.asleep_of_life hlife hz) hst.1 hst.2
      exact ⟨n + 1, r2, u2, by simp only [schedN, hone]; exact hn, f1, f2, f3.trans hlife⟩
end

theorem schedN_append (den : Code → Sem Fin) (prog : Program) (w : World) {n m : Nat} {c c' : Config} {x : SRun} (h : schedN den prog w n c = .running c') (h2 : schedN den prog w m c' = x) : schedN den prog w (n + m) c = x := by
  induction n generalizing c with
  | zero =>
    have e : c = c' := by
      have : SRun.running c = .running c' := h
      injection this
    rw [e, Nat.zero_add]; exact h2
  | succ n ih =>
    rw [Nat.add_right_comm]
    simp only [schedN] at h ⊢
    cases q : sstep den prog w c with
    | go c1 => simp only [q] at h ⊢; exact ih h
    | halt o s => simp only [q] at h; cases h

/-- the run from here ends, and R holds of its end -/
def Ends (M : Model) (R : Result → Shared → Prop) (s : Shared) (t : Thread) : Prop :=
  ∃ s' c p r, Go M.den M.prog M.w s t s' ⟨leafOf r, c, p, []⟩ ∧ leftWithCleanup s'.gens = false ∧ R r s'
theorem Ends.go {M : Model} {R : Result → Shared → Prop} {s t s1 t1} (h : Go M.den M.prog M.w s t s1 t1) (e : Ends M R s1 t1) : Ends M R s t := by
  obtain ⟨s', c, p, r, g, q⟩ := e
  exact ⟨s', c, p, r, h.trans _ _ _ g, q⟩
theorem Ends.step {M : Model} {R : Result → Shared → Prop} {s t s1 t1} (hm : Mild s t) (h : stepK M.den M.prog M.w s t = .go s1 t1) (e : Ends M R s1 t1) : Ends M R s t := Ends.go (.step hm h .refl) e
theorem Ends.leaf {M : Model} {R : Result → Shared → Prop} {s : Shared} {c : Code} {p : Pos} (r : Result) (hl : leftWithCleanup s.gens = false) (h : R r s) : Ends M R s ⟨leafOf r, c, p, []⟩ :=
  ⟨s, c, p, r, .refl, hl, h⟩

/-- THE BRIDGE to the scheduler -/
theorem Ends.sched {M : Model} {R : Result → Shared → Prop} {s : Shared} {t : Thread} (hz : s.asleep) (e : Ends M R s t) :
    ∃ n r s1 s2, schedN M.den M.prog M.w n (.single s t) = .halted (outcomeOf r) s1 ∧ s1.forget = s2.forget ∧ R r s2 ∧ s1.heap.life = s.heap.life := by
  obtain ⟨s', c, p, r, g, hl, hR⟩ := e
  obtain ⟨n, r2, u2, hn, f1, f2, f3⟩ := g.real _ _ _ hz rfl rfl
  obtain ⟨cu, cc, cp, cs⟩ := u2
  simp only [Thread.forget, Thread.mk.injEq] at f2
  obtain ⟨q1, q2, q3, q4⟩ := f2
  have q5 : cs = [] := by
    cases cs with
    | nil => rfl
    | cons F st => rw [forgetAll_cons, forgetAll_nil] at q4; cases q4
  subst q1 q5
  have hl2 : leftWithCleanup r2.gens = false := by
    rw [← leftWithCleanup_forget, show r2.gens.map GenState.forget = s'.gens.map GenState.forget from (Shared.forget_eq f1).2.2.2.2, leftWithCleanup_forget]; exact hl
  have hst : PySem.step M.den M.prog M.w r2 ⟨leafOf r, cc, cp, []⟩ = .halt (outcomeOf r) r2 := by
    obtain ⟨h1, h2, h3, h4, h5⟩ := r2
    cases r <;> simp only [leafOf, PySem.step, finish, hl2, Bool.false_eq_true, if_false] <;> rfl
  have hc : Thread.calm ⟨leafOf r, cc, cp, []⟩ = true := by cases r <;> rfl
  have hone : sstep M.den M.prog M.w (.single r2 ⟨leafOf r, cc, cp, []⟩) = .halt (outcomeOf r) r2 := by
    rcases sstep_single M.den M.prog M.w r2 _ hc (Shared.asleep_of_life f3 hz) with e | e
    · rw [e, hst]; rfl
    · rw [hst] at e; cases r <;> cases e
  refine ⟨n + 1, r, r2, s', schedN_append _ _ _ hn ?_, f1, hR, f3⟩
  simp only [schedN, hone]
end Wv
end WvA_part
section WvB_part
set_option Elab.async false
set_option maxRecDepth 100000
/-! WvB: weakest preconditions over such runs, by continuations; what is known of the library's comes over. -/
namespace Wv
open PySem
open Sem (wp)
variable {M : Model}

theorem calm_of_step {s : Shared} {t : Thread} {s1 : Shared} {t1 : Thread} (h : M.step s t = .go s1 t1) : t.calm = true ∧ stepK M.den M.prog M.w s t = .go s1 t1 := by
  cases hl : t.loud with
  | true => rw [M.step_loud hl] at h; cases h
  | false =>
    rw [M.step_quiet hl] at h
    refine ⟨?_, h⟩
    rw [Thread.calm_eq, hl]
    cases hr : t.refused with
    | false => rfl
    | true =>
      obtain ⟨what, e⟩ := stepK_refused M.den M.prog M.w (s := s) hr
      rw [e] at h; cases h
theorem Ends.mstep {R : Result → Shared → Prop} {s s1 : Shared} {t t1 : Thread} (h : M.step s t = .go s1 t1) (e : Ends M R s1 t1) : Ends M R s t :=
  let ⟨a, b⟩ := calm_of_step h; Ends.step (.inl a) b e
theorem go_of_reach {base : List Frame} {s t c p pre s' e} (h : Reach M base s t c p pre s' e) :
    ∃ t' c' p' pre', Exits e t' c' p' pre' ∧ Go M.den M.prog M.w s ⟨t, c, p, pre ++ base⟩ s' ⟨t', c', p', pre' ++ base⟩ := by
  induction h with
  | exit hx => exact ⟨_, _, _, _, hx, .refl⟩
  | step hs _ ih =>
    obtain ⟨t', c', p', pre', hx, g⟩ := ih
    obtain ⟨a, b⟩ := calm_of_step hs
    exact ⟨t', c', p', pre', hx, .step (.inl a) b g⟩
/-- a run that ends in r, over whatever stands below -/
theorem Ends.runs {R : Result → Shared → Prop} {Γ : Ctx} {base : List Frame} {p : Pos} {t : Sem PySem.Fin} {fs : List Frame} {s s' : Shared} {e : End} (hr : Runs M Γ p t fs s e s') (hf : Γ.Fits base)
    (h : ∀ t' c' p' pre', Exits e t' c' p' pre' → Ends M R s' ⟨t', c', p', pre' ++ base⟩) : Ends M R s ⟨t, Γ.code, p, fs ++ base⟩ := by
  obtain ⟨t', c', p', pre', hx, g⟩ := go_of_reach (runs_reach hr base hf)
  exact Ends.go g (h t' c' p' pre' hx)
theorem Ends.pop {R : Result → Shared → Prop} {s : Shared} {c p k h g l c0 p0 kp st} (r : Result) (e : Ends M R s ⟨k r, c0, p0, st⟩) : Ends M R s ⟨leafOf r, c, p, .ret k h g l c0 p0 kp :: st⟩ := Ends.mstep (step_leaf_ret M s c p st r k h g l c0 p0 kp) e
theorem Ends.popGen {R : Result → Shared → Prop} {s : Shared} {c p g k l c0 p0 st} (r : Result) (e : Ends M R (s.setGen g .finished) ⟨k (End.ret r).result, c0, p0, st⟩) : Ends M R s ⟨leafOf r, c, p, .gen g k l c0 p0 :: st⟩ := Ends.mstep (step_leaf_gen M s c p st r g k l c0 p0) e

def wpS (M : Model) {α : Type} (A : Around) (t : Sem α) (Q : α → Shared → Prop) (E : Value → Shared → Prop) (s : Shared) : Prop :=
  ∀ (R : Result → Shared → Prop) (c : Code) (st : List Frame) (p : Pos) (K : α → Sem PySem.Fin) (H : Value → Sem PySem.Fin) (gd : Bool → Bool) (lv : List Value → List Value), (Ctx.of c st).In A →
    (∀ a s' p', Q a s' → Ends M R s' ⟨K a, c, p', st⟩) → (∀ x s' p', E x s' → Ends M R s' ⟨H x, c, p', st⟩) → Ends M R s ⟨t.wrap K H gd lv, c, p, st⟩

theorem wp_wrap {α : Type} {R : Result → Shared → Prop} {c : Code} {st : List Frame} (K : α → Sem PySem.Fin) (H : Value → Sem PySem.Fin) (gd : Bool → Bool) (lv : List Value → List Value) (m : Sem α) :
    ∀ {Q : α → Pos → Shared → Prop} {E : Value → Pos → Shared → Prop} {p : Pos} {s : Shared}, wp M (Ctx.of c st) m Q E p s →
      (∀ a p' s', Q a p' s' → Ends M R s' ⟨K a, c, p', st⟩) → (∀ x p' s', E x p' s' → Ends M R s' ⟨H x, c, p', st⟩) → Ends M R s ⟨m.wrap K H gd lv, c, p, st⟩ := by
  induction m with
  | pure a => intro Q E p s h hQ _; exact hQ a p s h
  | raise x => intro Q E p s h _ hE; exact hE x p s h
  | unsupported what => intro Q E p s h; exact h.elim
  | finish x => intro Q E p s h; exact h.elim
  | register a k => intro Q E p s h; exact h.elim
  | yield v g l k => intro Q E p s h; exact h.elim
  | fork c k => intro Q E p s h; exact h.elim
  | await a f d l k => intro Q E p s h; exact h.elim
  | rule tag k ih => intro Q E p s h hQ hE; exact Ends.mstep (step_rule ..) (ih () h hQ hE)
  | «at» p' k ih => intro Q E p s h hQ hE; exact Ends.mstep (step_at ..) (ih () h hQ hE)
  | load a part k ih => intro Q E p s h hQ hE; obtain ⟨o, ho, h⟩ := h; exact Ends.mstep (step_load M _ _ _ _ _ _ ho) (ih o h hQ hE)
  | update a part f k ih => intro Q E p s h hQ hE; obtain ⟨ha, h⟩ := h; exact Ends.mstep (step_update M _ _ _ _ _ _ _ ha) (ih () h hQ hE)
  | alloc o k ih => intro Q E p s h hQ hE; exact Ends.mstep (step_alloc ..) (ih _ h hQ hE)
  | loadIfAlive a k ih => intro Q E p s h hQ hE; exact Ends.mstep (step_loadIfAlive ..) (ih _ h hQ hE)
  | point l k ih => intro Q E p s h hQ hE; exact Ends.mstep (step_point ..) (ih () h hQ hE)
  | fresh k ih => intro Q E p s h hQ hE; exact Ends.mstep (step_fresh ..) (ih _ h hQ hE)
  | ask k ih => intro Q E p s h hQ hE; exact Ends.mstep (step_ask ..) (ih _ h hQ hE)
  | choose src n k ih => intro Q E p s h hQ hE; obtain ⟨hn, h⟩ := h; exact Ends.mstep (step_choose M _ _ _ _ _ _ hn) (ih _ h hQ hE)
  | os q l k ih => intro Q E p s h hQ hE; exact Ends.mstep (step_os ..) (ih _ h hQ hE)
  | call c' hd g l k ih =>
    intro Q E p s hw hQ hE
    obtain ⟨r, s1, hret, hw⟩ := hw
    refine Ends.mstep (step_call ..) ?_
    refine Ends.runs (fs := []) hret (Ctx.Fits.enter (Ctx.fits_of c st) c' (fun x => (k x).wrap K H gd lv) hd (gd g) (lv l) p []) ?_
    rintro _ _ _ _ ⟨rfl, rfl⟩
    exact Ends.pop r (ih r hw hQ hE)
  | handled own k ih =>
    intro Q E p s h hQ hE
    refine Ends.mstep (step_handled ..) ?_
    have e : topHandled (if own = true then ownFrames st else st) = if own = true then (Ctx.of c st).own else (Ctx.of c st).handled := by cases own <;> rfl
    rw [e]
    exact ih _ h hQ hE
  | newGen c' k ih => intro Q E p s h hQ hE; exact Ends.mstep (step_newGen ..) (ih _ h hQ hE)
  | genState g k ih => intro Q E p s h hQ hE; obtain ⟨x, hg, h⟩ := h; exact Ends.mstep (step_genState M _ _ _ _ _ hg) (ih _ h hQ hE)
  | resume g r l k ih =>
    intro Q E p s h hQ hE
    obtain ⟨res, s1, hwk, h⟩ := h
    unfold Wakes at hwk
    cases hg : s.gens[g]? with
    | none => rw [hg] at hwk; exact hwk.elim
    | some gs =>
      rw [hg] at hwk
      cases gs with
      | fresh c' =>
        cases r with
        | send v =>
          by_cases hv : v = .none
          · subst hv
            obtain ⟨e1, s2, hr, hq, rfl, rfl⟩ := hwk
            refine Ends.mstep (step_resume_fresh M _ _ _ _ _ _ hg) ?_
            refine Ends.runs (fs := []) hr (Ctx.Fits.wake (Ctx.fits_of c st) c' g (fun x => (k x).wrap K H gd lv) (lv l) p) ?_
            intro t' c'' p' pre' hx
            exact Ends.mstep (step_exit_gen s2 g _ _ _ _ st hx hq) (ih _ h hQ hE)
          · have hh : res = .justStarted ∧ s1 = s := by cases v <;> first | exact absurd rfl hv | exact hwk
            obtain ⟨rfl, rfl⟩ := hh
            exact Ends.mstep (step_resume_justStarted M _ _ _ _ _ _ hg hv) (ih _ h hQ hE)
        | throw x => obtain ⟨rfl, rfl⟩ := hwk; exact Ends.mstep (step_resume_throwFresh M _ _ _ _ _ _ _ hg) (ih _ h hQ hE)
      | suspended k0 l0 c0 p0 fs cl =>
        obtain ⟨e1, s2, hr, hq, rfl, rfl⟩ := hwk
        refine Ends.mstep (step_resume_suspended M _ _ _ _ _ _ _ hg) ?_
        refine Ends.runs hr (Ctx.Fits.wake (Ctx.fits_of c st) c0 g (fun x => (k x).wrap K H gd lv) (lv l) p) ?_
        intro t' c'' p' pre' hx
        exact Ends.mstep (step_exit_gen s2 g _ _ _ _ st hx hq) (ih _ h hQ hE)
      | running => obtain ⟨rfl, rfl⟩ := hwk; exact Ends.mstep (step_resume_running M _ _ _ _ _ _ _ hg) (ih _ h hQ hE)
      | finished => obtain ⟨rfl, rfl⟩ := hwk; exact Ends.mstep (step_resume_finished M _ _ _ _ _ _ _ hg) (ih _ h hQ hE)
  | stack k ih => intro Q E p s h hQ hE; exact Ends.mstep (step_stack ..) (ih _ h hQ hE)
  | thread k ih => intro Q E p s h hQ hE; exact Ends.mstep (step_thread ..) (ih _ h hQ hE)

section
variable {α β : Type} {A : Around} {E : Value → Shared → Prop} {s : Shared}
theorem wpS_of {t : Sem α} {Q : α → Shared → Prop} (h : wpAny M A t Q E s) : wpS M A t Q E s :=
  fun _ c st p K H gd lv hin hQ hE => wp_wrap K H gd lv t (h (Ctx.of c st) p hin) (fun a p' s' q => hQ a s' p' q) fun x p' s' q => hE x s' p' q
theorem wpS_mono {t : Sem α} {Q Q' : α → Shared → Prop} {E' : Value → Shared → Prop} (h : wpS M A t Q E s) (hQ : ∀ a s, Q a s → Q' a s) (hE : ∀ e s, E e s → E' e s) : wpS M A t Q' E' s :=
  fun R c st p K H gd lv hin kQ kE => h R c st p K H gd lv hin (fun a s' p' q => kQ a s' p' (hQ a s' q)) fun x s' p' q => kE x s' p' (hE x s' q)
theorem wpS_pure {a : α} {Q : α → Shared → Prop} (h : Q a s) : wpS M A (pure a) Q E s := fun _ _ _ p _ _ _ _ _ kQ _ => kQ a s p h
theorem wpS_bind {m : Sem α} {f : α → Sem β} {Q : β → Shared → Prop} (h : wpS M A m (fun a s' => wpS M A (f a) Q E s') E s) : wpS M A (m >>= f) Q E s := by
  intro R c st p K H gd lv hin kQ kE
  rw [Sem.bind_eq_wrap', Sem.wrap_wrap]
  exact h R c st p _ _ _ _ hin (fun a s' p' q => q R c st p' K H gd lv hin kQ kE) kE
/-- the head by the library, the rest here -/
theorem wpS_bindA {m : Sem α} {f : α → Sem β} {Q : β → Shared → Prop} (h : wpAny M A m (fun a s' => wpS M A (f a) Q E s') E s) : wpS M A (m >>= f) Q E s := wpS_bind (wpS_of h)
theorem wpS_attempt {m : Sem α} {Q : Except Value α → Shared → Prop} (h : wpS M A m (fun a => Q (.ok a)) (fun e => Q (.error e)) s) : wpS M A m.attempt Q E s := by
  intro R c st p K H gd lv hin kQ kE
  have e : m.attempt.wrap K H gd lv = m.wrap (fun a => K (.ok a)) (fun x => K (.error x)) (fun g => gd true) lv := by
    unfold Sem.attempt
    rw [Sem.tryCatch_eq_wrap, Sem.bind_eq_wrap, Sem.wrap_wrap, Sem.wrap_wrap]
    rfl
  rw [e]
  exact h R c st p _ _ _ _ hin (fun a s' p' q => kQ _ s' p' q) fun x s' p' q => kQ _ s' p' q
theorem wpS_onRaise {m : Sem α} {k : Value → Sem Unit} {Q : α → Shared → Prop} (h : wpS M A m Q (fun e s' => wpS M A (k e) (fun _ s'' => E e s'') E s') s) : wpS M A (m.onRaise k) Q E s := by
  intro R c st p K H gd lv hin kQ kE
  rw [Sem.onRaise_eq_wrap, Sem.wrap_wrap]
  refine h R c st p _ _ _ _ hin kQ fun x s' p' q => ?_
  rw [Sem.bind_eq_wrap, Sem.wrap_wrap]
  exact q R c st p' _ _ _ _ hin (fun _ s'' p'' q' => kE x s'' p'' q') kE
theorem wpS_keep {vs : List Value} {m : Sem α} {Q : α → Shared → Prop} (h : wpS M A m Q E s) : wpS M A (m.keep vs) Q E s := by
  intro R c st p K H gd lv hin kQ kE
  rw [Sem.keep_eq_wrap, Sem.wrap_wrap]
  exact h R c st p _ _ _ _ hin kQ kE
theorem wpS_holding {vs : List Value} {m : Sem α} {Q : α → Shared → Prop} (h : wpS M A m Q E s) : wpS M A (holding vs m) Q E s := by
  rw [holding_eq_keep]; exact wpS_keep h
theorem wpS_at {p' : Pos} {Q : Unit → Shared → Prop} (h : Q () s) : wpS M A (standAt p') Q E s := wpS_of (wpAny_standAt h)
end

/-! ### calls -/
/-- a code that is called: over whatever frame waits for it -/
def codeS (M : Model) (A : Around) (c : Code) (G : Result → Shared → Prop) (s : Shared) : Prop :=
  ∀ (R : Result → Shared → Prop) (k : Result → Sem PySem.Fin) (h : Option Value) (g : Bool) (l : List Value) (c0 : Code) (p0 : Pos) (kp : List Value) (st : List Frame) (p : Pos),
    (Ctx.of c (.ret k h g l c0 p0 kp :: st)).Below A → (∀ r s', G r s' → Ends M R s' ⟨k r, c0, p0, st⟩) → Ends M R s ⟨M.den c, c, p, .ret k h g l c0 p0 kp :: st⟩

theorem of_enter {c c0 : Code} {k h g l p kp st} : Ctx.of c (.ret k h g l c0 p kp :: st) = (Ctx.of c0 st).enter c h p := by
  obtain ⟨f1, f2, _, f4⟩ := Ctx.Fits.enter (Ctx.fits_of c0 st) c k h g l p kp
  have e1 : topHandled (.ret k h g l c0 p kp :: st) = ((Ctx.of c0 st).enter c h p).handled := f1.symm
  have e2 : topHandled (ownFrames (.ret k h g l c0 p kp :: st)) = ((Ctx.of c0 st).enter c h p).own := f2.symm
  have e4 : topHandled.go true (.ret k h g l c0 p kp :: st) = ((Ctx.of c0 st).enter c h p).past := f4.symm
  show (⟨c, topHandled (.ret k h g l c0 p kp :: st), topHandled (ownFrames (.ret k h g l c0 p kp :: st)), _, topHandled.go true (.ret k h g l c0 p kp :: st)⟩ : Ctx) = _
  rw [e1, e2, e4]
  rfl
section
variable {A : Around} {c : Code} {G : Result → Shared → Prop} {s : Shared}
theorem codeS_mono {G' : Result → Shared → Prop} (h : codeS M A c G s) (hG : ∀ r s, G r s → G' r s) : codeS M A c G' s :=
  fun R k hd g l c0 p0 kp st p hb hk => h R k hd g l c0 p0 kp st p hb fun r s' q => hk r s' (hG r s' q)
theorem codeS_of_tree (h : wpS M (A.under c) (M.den c) (fun fin s' => match fin with | .done f => G (.ok f) s' | .again c' => c'.quiet = true ∧ codeS M A c' G s') (fun e s' => G (.error e) s') s) : codeS M A c G s := by
  intro R k hd g l c0 p0 kp st p hb hk
  have e : M.den c = (M.den c).wrap (fun x => .pure x) .raise id id := by
    rw [← Sem.bind_eq_wrap, Sem.bind_pure]
  rw [e]
  refine h R c _ p _ _ _ _ ?_ (fun fin s' p' q => ?_) fun x s' p' q => ?_
  · exact Ctx.Below.in (Γ := Ctx.of c (.ret k hd g l c0 p0 kp :: st)) hb
  · cases fin with
    | done f => exact Ends.pop (.ok f) (hk _ _ q)
    | again c' =>
      obtain ⟨hq, q⟩ := q
      refine Ends.mstep (step_again M s' c p' _ c' hq) ?_
      exact q R k hd g l c0 p0 kp st p' (Ctx.Below.goto (Γ := Ctx.of c (.ret k hd g l c0 p0 kp :: st)) hb c') hk
  · exact Ends.pop (.error x) (hk _ _ q)
theorem codeS_of (h : codeAny M A c G s) : codeS M A c G s := by
  intro R k hd g l c0 p0 kp st p hb hk
  obtain ⟨r, s', hr, q⟩ := h (Ctx.of c (.ret k hd g l c0 p0 kp :: st)) p rfl hb
  refine Ends.runs (fs := []) (hr : Runs M _ p (M.den c) [] s (.ret r) s') (Ctx.fits_of c _) ?_
  rintro _ _ _ _ ⟨rfl, rfl⟩
  exact Ends.pop r (hk r s' q)
theorem codeS_loop (hq : c.quiet = true) (I : Nat → Shared → Prop)
    (turn : ∀ n s, I n s → wpS M (A.under c) (M.den c) (fun fin s' => match fin with | .done f => G (.ok f) s' | .again c' => (c' = c ∧ ∃ m, m < n ∧ I m s') ∨ (c'.quiet = true ∧ codeS M A c' G s')) (fun e s' => G (.error e) s') s)
    (n : Nat) (h : I n s) : codeS M A c G s := by
  induction n using Nat.strongRecOn generalizing s with
  | ind n ih =>
    refine codeS_of_tree (wpS_mono (turn n s h) (fun fin s' hf => ?_) fun _ _ h' => h')
    cases fin with
    | done f => exact hf
    | again c' =>
      rcases hf with ⟨rfl, m, hm, hI⟩ | hf
      · exact ⟨hq, ih m hm hI⟩
      · exact hf
variable {E : Value → Shared → Prop}
theorem wpS_run {hd : Option Value} {Q : Flow → Shared → Prop} (hc : codeS M (A.mark hd) c (fun r s' => match r with | .ok f => Q f s' | .error e => E e s') s) (hnb : hd ≠ some byPass := by intro x; cases x) : wpS M A (run c hd) Q E s := by
  intro R c0 st p K H gd lv hin kQ kE
  refine Ends.mstep (step_call M s c0 p st c hd (gd false) (lv []) _) ?_
  refine hc R _ hd _ _ c0 p [] st p ?_ fun r s' q => ?_
  · rw [of_enter]; exact Ctx.In.enter (Γ := Ctx.of c0 st) hin c hd p hnb
  · cases r with
    | ok f => exact kQ f s' p q
    | error e => exact kE e s' p q
theorem wpS_runValue {Q : Value → Shared → Prop} (hc : codeS M A c (fun r s' => match r with | .ok (.ret v) => Q v s' | .ok _ => False | .error e => E e s') s) : wpS M A (runValue c) Q E s := by
  unfold runValue
  refine wpS_bind (wpS_run (hd := none) (codeS_mono (show codeS M (A.mark none) c _ s from hc) fun r s' q => ?_))
  cases r with
  | error e => exact q
  | ok f =>
    cases f with
    | ret v => exact wpS_pure q
    | next => exact q.elim
    | brk => exact q.elim
    | cont => exact q.elim
theorem wpS_call {f : Value} {pos : List Value} {kw : List (Str × Value)} {Q : Value → Shared → Prop}
    (hc : codeS M A (.call f ⟨pos, kw⟩) (fun r s' => match r with | .ok (.ret v) => Q v s' | .ok _ => False | .error e => E e s') s) : wpS M A (call f pos kw) Q E s := wpS_runValue hc
end
end Wv
end WvB_part
section WvC_part
set_option Elab.async false
set_option maxRecDepth 100000
/-! WvC: generators: the run of one from a waking to the next sleep, by continuations. -/
namespace Wv
open PySem
variable {M : Model}

/-- generator g, at work over the frame that woke it: it ends (Rr) or sleeps (Yy) -/
def SegX (M : Model) (A0 : Around) (g : Nat) (Rr : Result → Shared → Prop) (Yy : Value → Shared → GenState → Prop) (c : Code) (p : Pos) (t : Sem PySem.Fin) (fs : List Frame) (s : Shared) : Prop :=
  ∀ (R : Result → Shared → Prop) (k : GenResult → Sem PySem.Fin) (l : List Value) (c0 : Code) (p0 : Pos) (st0 : List Frame), (Ctx.of c0 st0).In A0 →
    (∀ r s', Rr r s' → Ends M R (s'.setGen g .finished) ⟨k (End.ret r).result, c0, p0, st0⟩) →
    (∀ v s' gs', Yy v s' gs' → Ends M R (s'.setGen g gs') ⟨k (.yielded v), c0, p0, st0⟩) → Ends M R s ⟨t, c, p, fs ++ .gen g k l c0 p0 :: st0⟩
/-- a generator that is not at work, woken by next() in the state s -/
def WakeX (M : Model) (A0 : Around) (g : Nat) (Rr : Result → Shared → Prop) (Yy : Value → Shared → GenState → Prop) (gs : GenState) (s : Shared) : Prop :=
  match gs with
  | .fresh c => ∀ p, SegX M A0 g Rr Yy c p (M.den c) [] s
  | .suspended kk _ c p fs _ => SegX M A0 g Rr Yy c p (kk (.send .none)) fs s
  | _ => False

def isSusp : GenState → Bool
  | .suspended .. => true
  | _ => false
/-- what a generator is to do (B: it never sleeps over another): Z: its end; Y: an item, and for which wakings it must go on. W: what is told at a waking -/
structure Prot (W : Type) where
  Z : Nat → W → Shared → Result → Shared → Prop
  Y : Nat → W → Shared → Value → Shared → (W → Shared → Prop) → Prop
  B : Prop

section
variable {W : Type} (M : Model) (A0 : Around) (g : Nat) (P : Prot W)
def YOf : Nat → W → Shared → Value → Shared → GenState → Prop
  | 0 => fun _ _ _ _ _ => False
  | m + 1 => fun w s0 v s' gs' => (isSusp gs' = true ∧ (P.B → gs'.bare = true)) ∧ P.Y m w s0 v s' fun w2 s2 => WakeX M A0 g (P.Z m w2 s2) (YOf m w2 s2) gs' s2
/-- n items are still to come; w, s0: as it was woken last -/
abbrev SegN (n : Nat) (w : W) (s0 : Shared) (c : Code) (p : Pos) (t : Sem PySem.Fin) (fs : List Frame) (s : Shared) : Prop := SegX M A0 g (P.Z n w s0) (YOf M A0 g P n w s0) c p t fs s
abbrev WakeN (n : Nat) (w : W) (gs : GenState) (s : Shared) : Prop := WakeX M A0 g (P.Z n w s) (YOf M A0 g P n w s) gs s
end

section
variable {A0 : Around} {g : Nat} {Rr : Result → Shared → Prop} {Yy : Value → Shared → GenState → Prop} {c : Code} {p : Pos} {fs : List Frame} {s : Shared}
theorem in_over {k l c0 p0 st0} (h : (Ctx.of c0 st0).In A0) : (Ctx.of c (fs ++ .gen g k l c0 p0 :: st0)).In (A0.over c fs) := by
  have e : Ctx.of c (.gen g k l c0 p0 :: st0) = (Ctx.of c0 st0).wake c p0 := by
    obtain ⟨f1, f2, _, f4⟩ := Ctx.Fits.wake (Ctx.fits_of c0 st0) c g k l p0
    have e1 : topHandled (.gen g k l c0 p0 :: st0) = ((Ctx.of c0 st0).wake c p0).handled := f1.symm
    have e2 : topHandled (ownFrames (.gen g k l c0 p0 :: st0)) = ((Ctx.of c0 st0).wake c p0).own := f2.symm
    have e4 : topHandled.go true (.gen g k l c0 p0 :: st0) = ((Ctx.of c0 st0).wake c p0).past := f4.symm
    show (⟨c, topHandled (.gen g k l c0 p0 :: st0), topHandled (ownFrames (.gen g k l c0 p0 :: st0)), _, topHandled.go true (.gen g k l c0 p0 :: st0)⟩ : Ctx) = _
    rw [e1, e2, e4]
    rfl
  rw [Ctx.of_append, e]
  exact Ctx.Woken.over (Ctx.In.wake h c p0) fs
theorem segX_wrap {α : Type} {m : Sem α} {K : α → Sem PySem.Fin} {H : Value → Sem PySem.Fin} {gd : Bool → Bool} {lv : List Value → List Value}
    (h : wpS M (A0.over c fs) m (fun a s' => ∀ p', SegX M A0 g Rr Yy c p' (K a) fs s') (fun x s' => ∀ p', SegX M A0 g Rr Yy c p' (H x) fs s') s) : SegX M A0 g Rr Yy c p (m.wrap K H gd lv) fs s := by
  intro R k l c0 p0 st0 hin hR hY
  exact h R c _ p K H gd lv (in_over hin) (fun a s' p' q => q p' R k l c0 p0 st0 hin hR hY) fun x s' p' q => q p' R k l c0 p0 st0 hin hR hY
theorem segX_call {c' : Code} {h gd l} {k : Result → Sem PySem.Fin} (hc : SegX M A0 g Rr Yy c' p (M.den c') (.ret k h gd l c p [] :: fs) s) : SegX M A0 g Rr Yy c p (.call c' h gd l k) fs s := by
  intro R k' l' c0 p0 st0 hin hR hY
  exact Ends.mstep (step_call ..) (hc R k' l' c0 p0 st0 hin hR hY)
theorem segX_leaf {k h gd l c1 p1 kp} (r : Result) (hk : SegX M A0 g Rr Yy c1 p1 (k r) fs s) : SegX M A0 g Rr Yy c p (leafOf r) (.ret k h gd l c1 p1 kp :: fs) s := by
  intro R k' l' c0 p0 st0 hin hR hY
  exact Ends.pop r (hk R k' l' c0 p0 st0 hin hR hY)
theorem segX_again {c' : Code} (hq : c'.quiet = true) (hc : SegX M A0 g Rr Yy c' p (M.den c') fs s) : SegX M A0 g Rr Yy c p (.pure (.again c')) fs s := by
  intro R k' l' c0 p0 st0 hin hR hY
  exact Ends.mstep (step_again M s c p _ c' hq) (hc R k' l' c0 p0 st0 hin hR hY)
theorem segX_end (r : Result) (h : Rr r s) : SegX M A0 g Rr Yy c p (leafOf r) [] s := by
  intro R k' l' c0 p0 st0 hin hR hY
  exact Ends.popGen r (hR r s h)
/-- a plain yield, or one over another generator -/
theorem segX_yield {v : Value} {g0 : Bool} {l : List Value} {kk : Resume → Sem PySem.Fin} (hfs : splitAtGen fs = none) (hfg : fs.any Frame.guarded = false)
    (hd : g0 = false ∨ ∃ a as kw o, c = .builtin "proto.yield_from" ⟨.ref a :: as, kw⟩ ∧ s.heap.get? a = some o ∧ o.genNumber?.isSome = true)
    (h : Yy v s (.suspended kk l c p fs g0)) : SegX M A0 g Rr Yy c p (.yield v g0 l kk) fs s := by
  intro R k' l' c0 p0 st0 hin hR hY
  have hsp : splitAtGen (fs ++ .gen g k' l' c0 p0 :: st0) = some (fs, (g, k', c0, p0), st0) := by rw [splitAtGen_append_none _ hfs, splitAtGen_gen]; simp
  have hgs : (End.susp v g0 l kk c p fs).genState = .suspended kk l c p fs g0 := by simp [End.genState, hfg]
  rcases hd with rfl | ⟨a, as, kw, o, hc, ho, hn⟩
  · refine Ends.mstep (step_yield M s c p _ v false l kk hsp (by simp [End.quiet, hfg])) ?_
    rw [hgs]
    exact hY v s _ h
  · refine Ends.step (s1 := s.setGen g (.suspended kk l c p fs g0)) (t1 := ⟨k' (.yielded v), c0, p0, st0⟩) (.inr ⟨v, g0, l, kk, fs, _, st0, a, as, kw, o, rfl, hsp, hfg, hc, ho, hn⟩) ?_ (hY v s _ h)
    simp only [stepK, step, hsp, hfg, Bool.or_false]
    rfl
end

/-- next(): the woken generator's end or item -/
theorem wpS_resume {α : Type} {A : Around} {g : Nat} {Rr : Result → Shared → Prop} {Yy : Value → Shared → GenState → Prop} {E : Value → Shared → Prop} {s : Shared} {gs : GenState} {l : List Value} {k : GenResult → Sem α} {Q : α → Shared → Prop}
    (hg : s.gens[g]? = some gs) (hw : WakeX M A g Rr Yy gs (s.setGen g .running)) (hR : ∀ r s', Rr r s' → wpS M A (k (End.ret r).result) Q E (s'.setGen g .finished))
    (hY : ∀ v s' gs', Yy v s' gs' → wpS M A (k (.yielded v)) Q E (s'.setGen g gs')) : wpS M A (.resume g (.send .none) l k) Q E s := by
  intro R c st p K H gd lv hin kQ kE
  have eR : ∀ r s', Rr r s' → Ends M R (s'.setGen g .finished) ⟨((k (End.ret r).result).wrap K H gd lv), c, p, st⟩ := fun r s' q => hR r s' q R c st p K H gd lv hin kQ kE
  have eY : ∀ v s' gs', Yy v s' gs' → Ends M R (s'.setGen g gs') ⟨((k (.yielded v)).wrap K H gd lv), c, p, st⟩ := fun v s' gs' q => hY v s' gs' q R c st p K H gd lv hin kQ kE
  cases gs with
  | fresh c' => exact Ends.mstep (step_resume_fresh M s c p st (lv l) _ hg) (hw p R (fun x => (k x).wrap K H gd lv) (lv l) c p st hin eR eY)
  | suspended k0 l0 c0 p0 fs cl => exact Ends.mstep (step_resume_suspended M s c p st _ (lv l) _ hg) (hw R (fun x => (k x).wrap K H gd lv) (lv l) c p st hin eR eY)
  | running => exact hw.elim
  | finished => exact hw.elim

/-! ### trees within a generator -/
section
variable {W : Type} {A0 : Around} {g : Nat} {P : Prot W} {A : Around} {c : Code} {α β : Type} {n : Nat} {w : W} {s0 s : Shared}
/-- a tree in the code c of a generator; Q: the value, then how many items are left, what was told at the last waking, the state then, the state now -/
def wpG (M : Model) (A0 : Around) (g : Nat) (P : Prot W) (A : Around) (c : Code) (t : Sem α) (Q : α → Nat → W → Shared → Shared → Prop) (n : Nat) (w : W) (s0 s : Shared) : Prop :=
  ∀ (fs : List Frame) (p : Pos) (K : α → Sem PySem.Fin) (H : Value → Sem PySem.Fin) (gd : Bool → Bool) (lv : List Value → List Value), A0.over c fs = A → splitAtGen fs = none → fs.any Frame.guarded = false → gd false = false → gd true = true →
    (∀ a n' w' s0' s' p', Q a n' w' s0' s' → SegN M A0 g P n' w' s0' c p' (K a) fs s') → SegN M A0 g P n w s0 c p (t.wrap K H gd lv) fs s
theorem wpG_of {t : Sem α} {Q : α → Nat → W → Shared → Shared → Prop} (h : wpS M A t (fun a s' => Q a n w s0 s') (fun _ _ => False) s) : wpG M A0 g P A c t Q n w s0 s := by
  intro fs p K H gd lv e1 e2 e3 e4 e5 kQ
  refine segX_wrap ?_
  rw [e1]
  exact wpS_mono h (fun a s' q p' => kQ a n w s0 s' p' q) fun _ _ q => q.elim
theorem wpG_ofA {t : Sem α} {Q : α → Nat → W → Shared → Shared → Prop} (h : wpAny M A t (fun a s' => Q a n w s0 s') (fun _ _ => False) s) : wpG M A0 g P A c t Q n w s0 s := wpG_of (wpS_of h)
theorem wpG_mono {t : Sem α} {Q Q' : α → Nat → W → Shared → Shared → Prop} (h : wpG M A0 g P A c t Q n w s0 s) (hQ : ∀ a n' w' s0' s', Q a n' w' s0' s' → Q' a n' w' s0' s') : wpG M A0 g P A c t Q' n w s0 s :=
  fun fs p K H gd lv e1 e2 e3 e4 e5 kQ => h fs p K H gd lv e1 e2 e3 e4 e5 fun a n' w' s0' s' p' q => kQ a n' w' s0' s' p' (hQ a n' w' s0' s' q)
theorem wpG_pure {a : α} {Q : α → Nat → W → Shared → Shared → Prop} (h : Q a n w s0 s) : wpG M A0 g P A c (pure a) Q n w s0 s := fun _ p _ _ _ _ _ _ _ _ _ kQ => kQ a n w s0 s p h
theorem wpG_bind {m : Sem α} {f : α → Sem β} {Q : β → Nat → W → Shared → Shared → Prop} (h : wpG M A0 g P A c m (fun a n' w' s0' s' => wpG M A0 g P A c (f a) Q n' w' s0' s') n w s0 s) : wpG M A0 g P A c (m >>= f) Q n w s0 s := by
  intro fs p K H gd lv e1 e2 e3 e4 e5 kQ
  rw [Sem.bind_eq_wrap', Sem.wrap_wrap]
  exact h fs p _ _ _ _ e1 e2 e3 e4 e5 fun a n' w' s0' s' p' q => q fs p' K H gd lv e1 e2 e3 e4 e5 kQ
theorem wpG_bindA {m : Sem α} {f : α → Sem β} {Q : β → Nat → W → Shared → Shared → Prop} (h : wpAny M A m (fun a s' => wpG M A0 g P A c (f a) Q n w s0 s') (fun _ _ => False) s) : wpG M A0 g P A c (m >>= f) Q n w s0 s := wpG_bind (wpG_ofA h)
theorem wpG_onRaise {m : Sem α} {k : Value → Sem Unit} {Q : α → Nat → W → Shared → Shared → Prop} (h : wpG M A0 g P A c m Q n w s0 s) : wpG M A0 g P A c (m.onRaise k) Q n w s0 s := by
  intro fs p K H gd lv e1 e2 e3 e4 e5 kQ
  rw [Sem.onRaise_eq_wrap, Sem.wrap_wrap]
  exact h fs p _ _ _ _ e1 e2 e3 e4 e5 kQ
theorem wpG_keep {vs : List Value} {m : Sem α} {Q : α → Nat → W → Shared → Shared → Prop} (h : wpG M A0 g P A c m Q n w s0 s) : wpG M A0 g P A c (m.keep vs) Q n w s0 s := by
  intro fs p K H gd lv e1 e2 e3 e4 e5 kQ
  rw [Sem.keep_eq_wrap, Sem.wrap_wrap]
  exact h fs p _ _ _ _ e1 e2 e3 e4 e5 kQ
theorem wpG_holding {vs : List Value} {m : Sem α} {Q : α → Nat → W → Shared → Shared → Prop} (h : wpG M A0 g P A c m Q n w s0 s) : wpG M A0 g P A c (holding vs m) Q n w s0 s := by
  rw [holding_eq_keep]; exact wpG_keep h
theorem wpG_at {p' : Pos} {Q : Unit → Nat → W → Shared → Shared → Prop} (h : Q () n w s0 s) : wpG M A0 g P A c (standAt p') Q n w s0 s := wpG_ofA (wpAny_standAt h)
/-- it sleeps -/
theorem wpG_suspend {v : Value} {cl : Bool} {Q : Resume → Nat → W → Shared → Shared → Prop} (hd : cl = false ∨ ∃ a as kw o, c = .builtin "proto.yield_from" ⟨.ref a :: as, kw⟩ ∧ s.heap.get? a = some o ∧ o.genNumber?.isSome = true)
    (h : P.Y n w s0 v s fun w2 s2 => Q (.send .none) n w2 s2 s2) (mono : ∀ kap kap' : W → Shared → Prop, (∀ w2 s2, kap w2 s2 → kap' w2 s2) → P.Y n w s0 v s kap → P.Y n w s0 v s kap') (hB : P.B → cl = false) : wpG M A0 g P A c (suspend v cl) Q (n + 1) w s0 s := by
  intro fs p K H gd lv e1 e2 e3 e4 e5 kQ
  have eg : gd cl = cl := by cases cl; exact e4; exact e5
  show SegX M A0 g _ _ c p (.yield v (gd cl) (lv []) fun x => (Sem.pure x).wrap K H gd lv) fs s
  rw [eg]
  refine segX_yield e2 e3 hd ?_
  refine ⟨⟨rfl, fun hb => by rw [hB hb]; rfl⟩, mono _ _ (fun w2 s2 q => ?_) h⟩
  exact kQ (.send .none) n w2 s2 s2 p q
/-- a code that is called within a generator's frame -/
def codeG (M : Model) (A0 : Around) (g : Nat) (P : Prot W) (A : Around) (c : Code) (G : Result → Nat → W → Shared → Shared → Prop) (n : Nat) (w : W) (s0 s : Shared) : Prop :=
  ∀ (k : Result → Sem PySem.Fin) (l : List Value) (c1 : Code) (p1 : Pos) (kp : List Value) (fs : List Frame) (p : Pos), A0.over c (.ret k none false l c1 p1 kp :: fs) = A → splitAtGen fs = none → fs.any Frame.guarded = false →
    (∀ r n' w' s0' s' p', G r n' w' s0' s' → SegN M A0 g P n' w' s0' c1 p' (k r) fs s') → SegN M A0 g P n w s0 c p (M.den c) (.ret k none false l c1 p1 kp :: fs) s
theorem codeG_tree {G : Result → Nat → W → Shared → Shared → Prop}
    (h : wpG M A0 g P A c (M.den c) (fun fin n' w' s0' s' => match fin with | .done f => G (.ok f) n' w' s0' s' | .again c' => c'.quiet = true ∧ (∀ fs, A0.over c fs = A → A0.over c' fs = A) ∧ codeG M A0 g P A c' G n' w' s0' s') n w s0 s) : codeG M A0 g P A c G n w s0 s := by
  intro k l c1 p1 kp fs p e1 e2 e3 kG
  have e : M.den c = (M.den c).wrap (fun x => .pure x) .raise id id := by rw [← Sem.bind_eq_wrap, Sem.bind_pure]
  rw [e]
  refine h _ p _ _ _ _ e1 ?_ ?_ rfl rfl fun fin n' w' s0' s' p' q => ?_
  · rw [splitAtGen_ret, e2]; rfl
  · show (false || fs.any Frame.guarded) = false
    rw [e3]; rfl
  · cases fin with
    | done f => exact segX_leaf (.ok f) (kG _ _ _ _ _ _ q)
    | again c' =>
      obtain ⟨hq, ho, q⟩ := q
      exact segX_again hq (q k l c1 p1 kp fs p' (ho _ e1) e2 e3 kG)
theorem codeG_loop {G : Result → Nat → W → Shared → Shared → Prop} (hq : c.quiet = true) (I : Nat → Nat → W → Shared → Shared → Prop)
    (turn : ∀ i n w s0 s, I i n w s0 s → wpG M A0 g P A c (M.den c) (fun fin n' w' s0' s' => match fin with | .done f => G (.ok f) n' w' s0' s' | .again c' => (c' = c ∧ ∃ j, j < i ∧ I j n' w' s0' s') ∨ (c'.quiet = true ∧ (∀ fs, A0.over c fs = A → A0.over c' fs = A) ∧ codeG M A0 g P A c' G n' w' s0' s')) n w s0 s)
    (i : Nat) (h : I i n w s0 s) : codeG M A0 g P A c G n w s0 s := by
  induction i using Nat.strongRecOn generalizing n w s0 s with
  | ind i ih =>
    refine codeG_tree (wpG_mono (turn i n w s0 s h) fun fin n' w' s0' s' q => ?_)
    cases fin with
    | done f => exact q
    | again c' =>
      rcases q with ⟨rfl, j, hj, hI⟩ | q
      · exact ⟨hq, fun _ z => z, ih j hj hI⟩
      · exact q
/-- ca: the code that calls -/
theorem wpG_run {A' : Around} {ca : Code} {Q : Flow → Nat → W → Shared → Shared → Prop} (ho : ∀ fs k l p, A0.over ca fs = A → A0.over c (.ret k none false l ca p [] :: fs) = A')
    (hc : codeG M A0 g P A' c (fun r n' w' s0' s' => match r with | .ok f => Q f n' w' s0' s' | .error _ => False) n w s0 s) : wpG M A0 g P A ca (run c) Q n w s0 s := by
  intro fs p K H gd lv e1 e2 e3 e4 e5 kQ
  show SegX M A0 g _ _ ca p (.call c none (gd false) (lv []) fun x => ((match x with | .ok f => (.pure f : Sem Flow) | .error e => .raise e)).wrap K H gd lv) fs s
  rw [e4]
  refine segX_call (hc _ _ ca p [] fs p (ho fs _ _ p e1) e2 e3 fun r n' w' s0' s' p' q => ?_)
  cases r with
  | ok f => exact kQ f n' w' s0' s' p' q
  | error e => exact q.elim
end
end Wv
end WvC_part
section WvD_part
set_option Elab.async false
set_option maxRecDepth 100000
set_option maxHeartbeats 1000000
/-! WvD: a generator's object; next(); yield from. -/
namespace Wv
open PySem L2
open PyProof.Rows
variable {P : Program} {w : World}

/-- the generator's object: who sleeps over it has counted back -/
def GenObj (h : Heap) (a : Addr) (g : Nat) : Prop :=
  ∃ o nm qn, h.get? a = some o ∧ o.cls = .type "generator" ∧ o.data = .fields #[.int g 0, nm, qn] ∧ (o.slots = #[] ∨ o.slots = #[some (.int 0 0)])
theorem GenObj.of_isGen {h : Heap} {a : Addr} {g : Nat} (x : h.IsGen a g) : GenObj h a g := let ⟨o, nm, qn, h1, h2, h3, h4⟩ := x; ⟨o, nm, qn, h1, h2, h3, .inl h4⟩
theorem GenObj.at {h h' : Heap} {a : Addr} {g : Nat} (x : GenObj h a g) (k : ∀ o, h.get? a = some o → h'.get? a = some o) : GenObj h' a g := let ⟨o, nm, qn, h1, r⟩ := x; ⟨o, nm, qn, k o h1, r⟩
theorem GenObj.typeIs {s : Shared} {a : Addr} {g : Nat} (x : GenObj s.heap a g) : s.TypeIs (.ref a) "generator" := let ⟨o, _, _, h1, h2, _⟩ := x; ⟨o, h1, h2⟩
theorem genNumber_ok {M : Model} {A : Around} {E : Value → Shared → Prop} {s : Shared} {a : Addr} {g : Nat} {Q : Nat → Shared → Prop} (x : GenObj s.heap a g) (h : Q g s) : wpAny M A (Builtin.Generator.genNumber (.ref a)) Q E s := by
  obtain ⟨o, nm, qn, ho, _, hd, hsl⟩ := x
  unfold Builtin.Generator.genNumber
  refine wpAny_bind (wpAny_load ho ?_)
  have fin : wpAny M A (pure ((g : Int).toNat)) Q E s := by rw [Int.toNat_natCast]; exact wpAny_pure h
  rcases hsl with e | e
  · rw [e, hd]; exact fin
  · rw [e, hd]; exact fin

theorem codeS_call_builtin {id : String} {args : Args} {b : Builtin} {G : Result → Shared → Prop} {A : Around} {s : Shared} (hq : plainId id = true) (hb : entryFor table id = some b)
    (h : wpAny (model P w) A.in1 (checkBuiltinCall id args) (fun _ s1 => wpS (model P w) A.in1 (b args)
      (fun fin s' => match fin with | .done f => G (.ok f) s' | .again c' => c'.quiet = true ∧ codeS (model P w) A c' G s') (fun e s' => G (.error e) s') s1) (fun e s' => G (.error e) s') s) : codeS (model P w) A (.call (.builtin id) args) G s := by
  refine codeS_of_tree ?_
  show wpS _ A.in1 (checkBuiltinCall id args >>= fun _ => again (.builtin id args)) _ _ s
  refine wpS_bindA (wpAny_mono h (fun _ s1 h1 => wpS_pure ⟨plainId_quiet hq args, codeS_of_tree ?_⟩) fun _ _ q => q)
  rw [Around.under_plainId hq args]
  show wpS _ _ (match entryFor table id with | some b => b args | none => unsupported ((withoutEnding? id "#data").getD id)) _ _ s1
  rw [hb]; exact h1
theorem codeS_builtin {id : String} {args : Args} {b : Builtin} {G : Result → Shared → Prop} {A : Around} {s : Shared} (hq : plainId id = true) (hb : entryFor table id = some b)
    (h : wpS (model P w) A.in1 (b args) (fun fin s' => match fin with | .done f => G (.ok f) s' | .again c' => c'.quiet = true ∧ codeS (model P w) A c' G s') (fun e s' => G (.error e) s') s) : codeS (model P w) A (.builtin id args) G s := by
  refine codeS_of_tree ?_
  rw [Around.under_plainId hq args]
  show wpS _ _ (match entryFor table id with | some b => b args | none => unsupported ((withoutEnding? id "#data").getD id)) _ _ s
  rw [hb]; exact h

section
variable {M : Model} {A : Around} {E : Value → Shared → Prop} {s : Shared}
theorem callSpecialS {self : Value} {T : String} {name : Str} {id : String} {Q : Option Value → Shared → Prop} (hT : s.TypeIs self T) (h : Slot T name id)
    (hc : wpS M A (call (.builtin id) [self]) (fun v => Q (some v)) E s) : wpS M A (callSpecial? self name) Q E s := by
  simp only [callSpecial?]
  refine wpS_bindA (wpAny_specialOf hT h.lookup ?_)
  simp only [h.bind]
  exact wpS_holding (wpS_bind (wpS_pure (wpS_bind (wpS_mono hc (fun v s' q => wpS_pure q) fun _ _ q => q))))
theorem nextS {a : Addr} {g : Nat} {gs : GenState} {Rr : Result → Shared → Prop} {Yy : Value → Shared → GenState → Prop} {Q : Option Value → Shared → Prop} (hh : A.handled = none) (hl : s.heap.NoLimit) (hroom : A.depth < recursionLimit)
    (hg : GenObj s.heap a g) (hgs : s.gens[g]? = some gs) (hw : WakeX (model P w) A.in1 g Rr Yy gs (s.setGen g .running)) (hY : ∀ v s' gs', Yy v s' gs' → Q (some v) (s'.setGen g gs'))
    (hR : ∀ r s', Rr r s' → (r = .ok (.ret .none) ∨ r = .ok .next) ∧ ∀ e h', StopX e h' → (∀ b o, s'.heap.get? b = some o → h'.get? b = some o) → E e { s'.setGen g .finished with heap := h' }) :
    wpS (model P w) A (callSpecial? (.ref a) "__next__") Q E s := by
  refine callSpecialS (T := "generator") (name := Str.ofString "__next__") hg.typeIs slot_gen_next ?_
  refine wpS_call (codeS_call_builtin slot_gen_next.plain entry_gen_next (slot_gen_next.check _ _ _ _ _ _ _ _ hg.typeIs (args_gen_next _) ?_))
  show wpS _ A.in1 (Builtin.Generator.genWake (.ref a) (.send .none)) _ _ s
  unfold Builtin.Generator.genWake
  refine wpS_bindA (wpAny_holding (genNumber_ok hg (wpS_bindA (wpAny_genState hgs ?_))))
  have go : wpS (model P w) A.in1 (.resume g (.send .none) [] fun x => (Sem.pure x : Sem GenResult) >>= fun res => match res with
      | .yielded v => ret v
      | .returned v => (do
        if v == .none then raiseNew (← newExc (.type "StopIteration") [])
        rule "generator.return-value"; throw (← newExc (.type "StopIteration") [v]))
      | .raised e => (do
        Builtin.Generator.genLeft (.ref a) e)
      | .running => (do rule "generator.already-executing"; raiseError "ValueError" "generator already executing")
      | .justStarted => (do rule "generator.send-to-fresh"; raiseError "TypeError" "can't send non-None value to a just-started generator")
      | .finished => (do raiseNew (← newExc (.type "StopIteration") []))) (fun fin s' => match fin with
        | .done f => (match (.ok f : Result) with | .ok (.ret v) => Q (some v) s' | .ok _ => False | .error e => E e s')
        | .again c' => c'.quiet = true ∧ codeS (model P w) A c' (fun r s' => match r with | .ok (.ret v) => Q (some v) s' | .ok _ => False | .error e => E e s') s') E s := by
    refine wpS_resume hgs hw (fun r s1 hr => ?_) fun v s1 gs' hv => ?_
    · obtain ⟨hr1, hr2⟩ := hR r s1 hr
      have hres : (End.ret r).result = .returned .none := by rcases hr1 with e | e <;> rw [e] <;> rfl
      rw [hres]
      refine wpS_of ?_
      show wpAny _ A.in1 (newExc (.type "StopIteration") [] >>= _) _ _ _
      refine wpAny_bind ?_
      simp only [newExc, newTuple]
      refine wpAny_bind (wpAny_newObj_type ?_ (by size_fits))
      refine wpAny_bind (m := firstArgMember _ _) (wpAny_of_eq (a := Value.none) (by first | rfl | (simp only [firstArgMember]; rfl)) ?_)
      refine wpAny_newObj_type ?_ (by size_fits)
      simp only [raiseNew]
      refine wpAny_bind (wpAny_bind (wpAny_handled ?_))
      rw [show A.in1.handled = none from hh]
      refine wpAny_throw (hr2 _ _ ⟨_, _, _, rfl, Heap.get?_push_size _ rfl, rfl, rfl, rfl⟩ fun b o e => ?_)
      exact Heap.get?_push_of_some _ (Heap.get?_push_of_some _ e)
    · exact wpS_pure (hY v s1 gs' hv)
  cases gs with
  | running => exact hw.elim
  | finished => exact hw.elim
  | fresh c => exact wpS_bindA (wpAny_roomToWake hl hroom go)
  | suspended k0 l0 c0 p0 fs cl => exact wpS_bindA (wpAny_roomToWake hl hroom go)
end
end Wv
end WvD_part
section WvE_part
set_option Elab.async false
set_option linter.all false
set_option maxRecDepth 100000
set_option maxHeartbeats 1000000
/-! WvE: what a generator's frame knows from one waking to the next sleep. -/
namespace Wv
open PySem L2 PySem.Spec
open PyProof.Rows

/-- the heap's part below n -/
def trunc (n : Nat) (h : Heap) : Heap := { h with objs := h.objs.extract 0 n }
theorem trunc_size (n : Nat) (h : Heap) : (trunc n h).objs.size = min n h.objs.size := by simp [trunc]
theorem trunc_get {n : Nat} {h : Heap} {b : Addr} (hb : b < n) : (trunc n h).get? b = h.get? b := by
  have e : (trunc n h).objs[b]? = h.objs[b]? := by
    simp only [trunc, Array.getElem?_extract]
    by_cases q : b < h.objs.size
    · have : b < min n h.objs.size := Nat.lt_min.mpr ⟨hb, q⟩
      simp [this]
    · have e0 : h.objs[b]? = none := Array.getElem?_eq_none (Nat.le_of_not_lt q)
      have : ¬ b < min n h.objs.size := fun z => q (Nat.lt_min.mp z).2
      simp [this, e0]
  simp only [Heap.get?, e]
theorem of_trunc {n : Nat} {h : Heap} {b : Addr} {o : Obj} (e : (trunc n h).get? b = some o) : b < n ∧ h.get? b = some o := by
  have hb : b < n := by
    have := Heap.lt_size e
    rw [trunc_size] at this
    exact Nat.lt_of_lt_of_le this (Nat.min_le_left _ _)
  exact ⟨hb, by rw [← trunc_get hb]; exact e⟩
theorem funFrames_trunc {n : Nat} {h base : Heap} : ∀ {l : List Env}, (∀ b ∈ frs l, b < n) → h.FunFrames base l → (trunc n h).FunFrames base l
  | [], _, _ => trivial
  | env :: r, hb, ⟨hk, ⟨L, o, hf, hn, ho, hd⟩, hr⟩ => by
    have hL : L ∈ frs (env :: r) := by unfold frs; rw [List.filterMap_cons, hf]; exact List.mem_cons_self
    refine ⟨hk, ⟨L, o, hf, hn, (trunc_get (hb L hL)).trans ho, hd⟩, funFrames_trunc (fun b hm => hb b ?_) hr⟩
    unfold frs; rw [List.filterMap_cons, hf]; exact List.mem_cons_of_mem _ hm

/-- a generator: what stays -/
structure GD where
  P : Program
  w : World
  K : PySem.W.Frag
  mg : Str → Option Value
  base : Heap
  N : List Str
  env : Env
  A0 : Around
  outer : List Env
  /-- the heap's size at the call -/
  n0 : Nat
  /-- its own object; what its consumer alone writes -/
  pa : List Addr
  g : Nat
  /-- what may become of the table of generators while it sleeps -/
  GR : Array GenState → Array GenState → Prop
  /-- an item, m more behind it -/
  item : Nat → V → Hp → Prop
  fin : Nat → Hp → Prop
  bY : Prop
def GD.A (D : GD) : Around := D.A0.deeper D.env
def GD.X (D : GD) (w0 : Hp) (s0 : Shared) : Cx where
  prog := D.P
  w := D.w
  K := D.K
  mg := D.mg
  base := D.base
  A := D.A
  N := D.N
  s_0 := { s0 with heap := trunc D.n0 s0.heap }
  H_0 := w0
  env := D.env
  outer := D.outer
  stack := D.env :: D.outer
  ex := []
  fn := fun _ => true
  calm := true
  pn := []
  xe := fun _ _ => False
structure GD.Ok (D : GD) : Prop where
  mod : Mod D.K D.mg D.base
  kind : D.env.scope.kind = .function
  glob : D.env.globals = mainGlobals
  blt : D.env.builtins = builtinsNs
  above : D.n0 ≤ D.env.locals
  cells : D.env.cells = []
  nocell : ∀ x, D.env.kindOf x ≠ some .cell ∧ D.env.kindOf x ≠ some .free
  hd : D.A0.handled = none
  frames : D.A0.frames = some D.outer
  frame : D.env.frame = some D.env.locals
  bsz : D.base.objs.size ≤ D.n0
  ofs : ∀ b ∈ frs D.outer, b < D.n0
  pa : ∀ b ∈ D.pa, b ≠ D.env.locals ∧ b ∉ frs D.outer
  gr : ∀ G G', AllBare G → D.GR G G' → AllBare G'
  grs : ∀ G G', D.GR G G' → D.g < G.size → D.g < G'.size

theorem Inv.regens {X : Cx} {pins : List (Addr × Obj)} {σ : L2.St} {H : Hp} {s : Shared} {G : Array GenState} (I : Inv X pins σ H s) (hb : AllBare G) : Inv X pins σ H { s with gens := G } :=
  ⟨I.ok, I.os, hb, I.base, I.loc, I.cell, I.free, I.freeC, I.pin, I.hok, I.len⟩

/-- at work, or amid a sleep over another (then the table is not bare) -/
structure GJ (D : GD) (ip : List (Addr × Obj)) (w0 : Hp) (s0 : Shared) (σ : L2.St) (H : Hp) (s : Shared) : Prop where
  ok : D.Ok
  inv : Inv (D.X w0 s0) (pinsAt D.pa s0.heap ++ ip) σ H { s with gens := #[] }
  gsz : D.g < s.gens.size
  mono : s0.gens.size ≤ s.gens.size
  n0 : D.n0 ≤ s0.heap.objs.size
  pas : ∀ b ∈ D.pa, ∃ o, s0.heap.get? b = some o
  ipo : ∀ p ∈ ip, D.n0 ≤ p.1 ∧ p.1 ∉ D.pa
structure GI (D : GD) (ip : List (Addr × Obj)) (w0 : Hp) (s0 : Shared) (σ : L2.St) (H : Hp) (s : Shared) : Prop extends GJ D ip w0 s0 σ H s where
  bare : AllBare s.gens
theorem GI.full {D : GD} {ip w0 s0 σ H s} (I : GI D ip w0 s0 σ H s) : Inv (D.X w0 s0) (pinsAt D.pa s0.heap ++ ip) σ H s := Inv.regens (s := { s with gens := #[] }) I.inv I.bare
theorem GI.of {D : GD} {ip w0 s0 σ σ' H H' s s'} (I : GI D ip w0 s0 σ H s) (J : Inv (D.X w0 s0) (pinsAt D.pa s0.heap ++ ip) σ' H' s') (hs : s.gens.size ≤ s'.gens.size) : GI D ip w0 s0 σ' H' s' :=
  { ok := I.ok, inv := Inv.regens J AllBare.empty, gsz := Nat.lt_of_lt_of_le I.gsz hs, mono := Nat.le_trans I.mono hs, n0 := I.n0, pas := I.pas, ipo := I.ipo, bare := J.bare }
theorem GJ.of {D : GD} {ip w0 s0 σ σ' H H' s s'} (I : GJ D ip w0 s0 σ H s) (J : Inv (D.X w0 s0) (pinsAt D.pa s0.heap ++ ip) σ' H' { s' with gens := #[] }) (hs : s.gens.size ≤ s'.gens.size) : GJ D ip w0 s0 σ' H' s' :=
  { ok := I.ok, inv := J, gsz := Nat.lt_of_lt_of_le I.gsz hs, mono := Nat.le_trans I.mono hs, n0 := I.n0, pas := I.pas, ipo := I.ipo }
/-- other pins -/
theorem GI.repin {D : GD} {ip ip' w0 s0 σ H s} (I : GI D ip w0 s0 σ H s) (h : ∀ p ∈ ip', D.n0 ≤ p.1 ∧ p.1 ∉ D.pa ∧ s.heap.get? p.1 = some p.2 ∧ H p.1 = none ∧ p.1 ≠ D.env.locals ∧ p.1 ∉ frs D.outer ∧ ∀ v, p.2.data ≠ .cell v) : GI D ip' w0 s0 σ H s :=
  { ok := I.ok, gsz := I.gsz, mono := I.mono, n0 := I.n0, pas := I.pas, bare := I.bare, ipo := fun p hp => ⟨(h p hp).1, (h p hp).2.1⟩
    inv := I.inv.pins_of fun p hp => by
      rcases List.mem_append.mp hp with hp | hp
      · exact I.inv.pin p (List.mem_append_right _ (List.mem_append_left _ hp))
      · exact (h p hp).2.2 }
theorem GI.unpin {D : GD} {ip more w0 s0 σ H s} (I : GI D (ip ++ more) w0 s0 σ H s) : GI D ip w0 s0 σ H s := I.repin fun p hp => by
  have hm : p ∈ ip ++ more := List.mem_append_left _ hp
  obtain ⟨h1, h2⟩ := I.ipo p hm
  obtain ⟨a, b, c, d, e⟩ := I.inv.pin p (List.mem_append_right _ (List.mem_append_right _ hm))
  exact ⟨h1, h2, a, b, c, d, e⟩

/-- what a sleeping generator needs kept -/
def NdOk (D : GD) (nd : List (Addr × Obj)) (H : Hp) (s : Shared) : Prop := ∀ p ∈ nd, s.heap.get? p.1 = some p.2 ∧ H p.1 = none ∧ D.n0 ≤ p.1 ∧ p.1 ∉ D.pa ∧ ∀ v, p.2.data ≠ .cell v
/-- slept, and woken at s' -/
structure Slp (D : GD) (nd : List (Addr × Obj)) (H : Hp) (s : Shared) (w' : Hp) (s' : Shared) : Prop where
  same : Same H w'
  hok : HOk D.P D.w w' s'.heap
  nd : ∀ p ∈ nd, s'.heap.get? p.1 = some p.2 ∧ w' p.1 = none
  pa : ∀ b ∈ D.pa, w' b = none ∧ ∃ o, s'.heap.get? b = some o ∧ ∀ v, o.data ≠ .cell v
  bs : ∀ b o, D.base.get? b = some o → s'.heap.get? b = some o ∧ w' b = none
  funs : s'.heap.FunFrames D.base D.outer
  frf : ∀ b ∈ frs D.outer, w' b = none
  gens : D.GR s.gens s'.gens
/-- from a waking to a sleep -/
structure Rel (D : GD) (w0 : Hp) (s0 : Shared) (H : Hp) (s : Shared) : Prop where
  un : Un (frs D.outer) [] w0 H (trunc D.n0 s0.heap) s.heap
  hok : HOk D.P D.w H s.heap
  pa : ∀ b ∈ D.pa, s.heap.get? b = s0.heap.get? b ∧ H b = none
  os : s.os = s0.os
  gsz : D.g < s.gens.size
  mono : s0.gens.size ≤ s.gens.size
  sz : D.n0 ≤ s.heap.objs.size

section
variable {D : GD} {ip nd : List (Addr × Obj)} {w0 w' H : Hp} {s0 s s' : Shared} {σ : L2.St}
theorem GJ.lt (J : GJ D ip w0 s0 σ H s) : D.env.locals < s.heap.objs.size := J.inv.lt
theorem GJ.rel (J : GJ D ip w0 s0 σ H s) : Rel D w0 s0 H s where
  un := J.inv.base
  hok := J.inv.hok
  pa := fun b hb => by
    obtain ⟨o, ho⟩ := J.pas b hb
    obtain ⟨h1, h2, _⟩ := J.inv.pin (b, o) (List.mem_append_right _ (List.mem_append_left _ (mem_pinsAt hb ho)))
    exact ⟨h1.trans ho.symm, h2⟩
  os := J.inv.os
  gsz := J.gsz
  mono := J.mono
  sz := Nat.le_trans J.ok.above (Nat.le_of_lt J.lt)
/-- its own needs -/
def ndOwn (D : GD) (ip : List (Addr × Obj)) (s : Shared) : List (Addr × Obj) := pinsAt [D.env.locals] s.heap ++ ip
theorem GJ.ndOk (J : GJ D ip w0 s0 σ H s) : NdOk D (ndOwn D ip s) H s := fun p hp => by
  rcases List.mem_append.mp hp with hp | hp
  · obtain ⟨h1, h2⟩ := of_pinsAt hp
    have e : p.1 = D.env.locals := List.mem_singleton.mp h1
    have h0 : H p.1 = none := by rw [e]; exact J.inv.free
    refine ⟨h2, h0, by rw [e]; exact J.ok.above, fun hb => (J.ok.pa _ hb).1 e, fun v hv => ?_⟩
    obtain ⟨m, ⟨o, es, ep, ho, hd, _⟩, _⟩ := J.inv.loc
    have ho' : s.heap.get? D.env.locals = some o := ho
    rw [← e, h2] at ho'
    cases ho'
    rw [hd] at hv; cases hv
  · obtain ⟨a, b, _, _, e⟩ := J.inv.pin p (List.mem_append_right _ (List.mem_append_right _ hp))
    exact ⟨a, b, (J.ipo p hp).1, (J.ipo p hp).2, e⟩
theorem GJ.wake (J : GJ D ip w0 s0 σ H s) (hnd : ∀ p ∈ ndOwn D ip s, p ∈ nd) (z : Slp D nd H s w' s') : GJ D ip w' s' σ w' s' := by
  obtain ⟨m, ⟨oL, es, ep, hoL, r⟩, hl⟩ := J.inv.loc
  have hoL : s.heap.get? D.env.locals = some oL := hoL
  obtain ⟨eL, fL⟩ := z.nd (D.env.locals, oL) (hnd _ (List.mem_append_left _ (mem_pinsAt (by simp) hoL)))
  have hsz : D.n0 ≤ s'.heap.objs.size := Nat.le_trans J.ok.above (Nat.le_of_lt (Heap.lt_size eL))
  have hc : ∀ x c, D.env.cells.lookup x = some c → False := fun x c e => by rw [J.ok.cells] at e; cases e
  have nm : ∀ x : Addr, x ∉ ([] : List Addr) := fun x hx => nomatch hx
  refine { ok := J.ok, gsz := J.ok.grs _ _ z.gens J.gsz, mono := Nat.le_refl _, n0 := hsz, pas := fun b hb => let ⟨o, ho, _⟩ := (z.pa b hb).2; ⟨o, ho⟩, ipo := J.ipo, inv := ?_ }
  refine ⟨⟨J.ok.mod, J.ok.kind, J.ok.glob, J.ok.blt, ?_, fun x y c e _ => (hc x c e).elim, fun x hx => ?_, fun x c _ e => (hc x c e).elim, fun _ => J.ok.hd, Around.frames_deeper J.ok.frames, .inr ⟨rfl, J.ok.frame⟩, fun b hb => (nm b hb).elim, fun b o e => ?_, ?_, fun b o _ => nm b, fun b hb => (nm b hb).elim, ?_, z.frf⟩,
    rfl, AllBare.empty, Un.kept fun b u e => (of_trunc e).2, ⟨m, ⟨oL, es, ep, eL, r⟩, fun i x v e1 e2 e3 => ?_⟩, fun x c e => (hc x c e).elim, fL, fun x c e => (hc x c e).elim, fun p hp => ?_, z.hok, J.inv.len⟩
  · show (trunc D.n0 s'.heap).objs.size ≤ _
    rw [trunc_size]
    exact Nat.le_trans (Nat.min_le_left _ _) J.ok.above
  · rcases hx with hx | hx
    · exact ((J.ok.nocell x).1 hx).elim
    · exact ((J.ok.nocell x).2 hx).elim
  · obtain ⟨h1, h2⟩ := z.bs b o e
    exact ⟨(trunc_get (Nat.lt_of_lt_of_le (Heap.lt_size e) J.ok.bsz)).trans h1, h2⟩
  · show D.base.objs.size ≤ (trunc D.n0 s'.heap).objs.size
    rw [trunc_size]
    have := J.ok.bsz
    omega
  · exact funFrames_trunc J.ok.ofs z.funs
  · obtain ⟨u, ru, lk⟩ := hl i x v e1 e2 e3
    refine ⟨u, ru, ?_⟩
    rcases lk with lk | ⟨_, c, e, _⟩
    · exact .inl lk
    · exact (hc x c e).elim
  · have hp : p ∈ [] ++ (pinsAt D.pa s'.heap ++ ip) := hp
    rw [List.nil_append] at hp
    rcases List.mem_append.mp hp with hp | hp
    · obtain ⟨h1, h2⟩ := of_pinsAt hp
      obtain ⟨h3, o, h4, h5⟩ := z.pa p.1 h1
      rw [h2] at h4; cases h4
      exact ⟨h2, h3, (J.ok.pa _ h1).1, (J.ok.pa _ h1).2, h5⟩
    · obtain ⟨_, _, c, d, e⟩ := J.inv.pin p (List.mem_append_right _ (List.mem_append_right _ hp))
      obtain ⟨h1, h2⟩ := z.nd p (hnd p (List.mem_append_right _ hp))
      exact ⟨h1, h2, c, d, e⟩
theorem GI.wake (I : GI D ip w0 s0 σ H s) (hnd : ∀ p ∈ ndOwn D ip s, p ∈ nd) (z : Slp D nd H s w' s') : GI D ip w' s' σ w' s' :=
  { I.toGJ.wake hnd z with bare := I.ok.gr _ _ I.bare z.gens }
end

/-- what a generator is to do -/
def GD.prot (D : GD) : Prot Hp where
  Z := fun n w0 s0 r s => (r = .ok (.ret .none) ∨ r = .ok .next) ∧ ∃ H, Rel D w0 s0 H s ∧ AllBare s.gens ∧ D.fin n H
  Y := fun m w0 s0 v s kap => ∃ x H nd, RelV x v ∧ D.item m x H ∧ Rel D w0 s0 H s ∧ NdOk D nd H s ∧ (D.bY → AllBare s.gens) ∧ ∀ w' s', Slp D nd H s w' s' → kap w' s'
  B := D.bY
theorem GD.prot_mono (D : GD) {m : Nat} {w0 : Hp} {s0 : Shared} {v : Value} {s : Shared} (kap kap' : Hp → Shared → Prop) (hk : ∀ w2 s2, kap w2 s2 → kap' w2 s2) (h : D.prot.Y m w0 s0 v s kap) : D.prot.Y m w0 s0 v s kap' := by
  obtain ⟨x, H, nd, h1, h2, h3, h4, h5, h6⟩ := h
  exact ⟨x, H, nd, h1, h2, h3, h4, h5, fun w' s' z => hk _ _ (h6 w' s' z)⟩

/-- what is wanted behind a statement of a generator; n: how many items are left -/
structure GEnds where
  nx : Nat → L2.St → Hp → Prop
  rt : Nat → VK
  bk : Nat → L2.St → Hp → Prop := fun _ _ _ => False
  ct : Nat → L2.St → Hp → Prop := fun _ _ _ => False
abbrev TGn := GEnds → Nat → L2.St → Hp → Prop
def GEnds.at (E : GEnds) (n : Nat) : L2.Ends := { nx := E.nx n, rt := E.rt n, bk := E.bk n, ct := E.ct n }
def GSP (D : GD) (ip : List (Addr × Obj)) (E : GEnds) (f : Flow) (n : Nat) (w0 : Hp) (s0 s : Shared) : Prop :=
  match f with
  | .next => ∃ σ H, GI D ip w0 s0 σ H s ∧ E.nx n σ H
  | .brk => ∃ σ H, GI D ip w0 s0 σ H s ∧ E.bk n σ H
  | .cont => ∃ σ H, GI D ip w0 s0 σ H s ∧ E.ct n σ H
  | .ret u => ∃ v σ H, GI D ip w0 s0 σ H s ∧ RelV v u ∧ E.rt n v H
abbrev GD.M (D : GD) : Model := model D.P D.w
structure GS (D : GD) (st : Stmt) (t : TGn) : Prop where
  run : ∀ (c : Code) (ip : List (Addr × Obj)) (n : Nat) (w0 : Hp) (s0 s : Shared) (σ : L2.St) (H : Hp) (E : GEnds), GI D ip w0 s0 σ H s → t E n σ H →
    wpG D.M D.A0 D.g D.prot D.A c (exec st D.env) (GSP D ip E) n w0 s0 s
structure GSs (D : GD) (st : List Stmt) (t : TGn) : Prop where
  run : ∀ (c : Code) (ip : List (Addr × Obj)) (n : Nat) (w0 : Hp) (s0 s : Shared) (σ : L2.St) (H : Hp) (E : GEnds), GI D ip w0 s0 σ H s → t E n σ H →
    wpG D.M D.A0 D.g D.prot D.A c (execs st D.env) (GSP D ip E) n w0 s0 s

section
variable {D : GD} {st : Stmt} {rest : List Stmt}
def tPlain (t : TS) : TGn := fun E n σ H => t (E.at n) σ H
theorem sp_gsp {ip : List (Addr × Obj)} {E : GEnds} {n : Nat} {w0 : Hp} {s0 s s' : Shared} {σ : L2.St} {H : Hp} {f : Flow} (I : GI D ip w0 s0 σ H s) (hs : s.gens.size ≤ s'.gens.size) (h : SP (D.X w0 s0) (pinsAt D.pa s0.heap ++ ip) (E.at n) f s') : GSP D ip E f n w0 s0 s' := by
  cases f with
  | next => obtain ⟨σ, H, J, q⟩ := h; exact ⟨σ, H, I.of J hs, q⟩
  | brk => obtain ⟨σ, H, J, q⟩ := h; exact ⟨σ, H, I.of J hs, q⟩
  | cont => obtain ⟨σ, H, J, q⟩ := h; exact ⟨σ, H, I.of J hs, q⟩
  | ret u => obtain ⟨v, σ, H, J, r1, q⟩ := h; exact ⟨v, σ, H, I.of J hs, r1, q⟩
theorem gs_ps {t : TS} (h : ∀ w0 s0, PS (D.X w0 s0) st t) : GS D st (tPlain t) :=
  ⟨fun c ip n w0 s0 s σ H E I ht => wpG_ofA (GenW.wpAny_gsz (Nat.le_refl _) (wpAny_mono ((h w0 s0).run _ s σ H (E.at n) I.full ht) (fun f s' q hs => sp_gsp I hs q) fun _ _ q => q.elim))⟩
theorem gss_pss {t : TS} (h : ∀ w0 s0, PSs (D.X w0 s0) rest t) : GSs D rest (tPlain t) :=
  ⟨fun c ip n w0 s0 s σ H E I ht => wpG_ofA (GenW.wpAny_gsz (Nat.le_refl _) (wpAny_mono ((h w0 s0).run _ s σ H (E.at n) I.full ht) (fun f s' q hs => sp_gsp I hs q) fun _ _ q => q.elim))⟩
def tG0 : TGn := fun E n σ H => E.nx n σ H
theorem gss_nil : GSs D [] tG0 := ⟨fun c ip n w0 s0 s σ H E I ht => wpG_pure ⟨σ, H, I, ht⟩⟩
def tGThen (t u : TGn) : TGn := fun E n σ H => t { E with nx := fun n' σ' H' => u E n' σ' H' } n σ H
theorem gss_cons {t u : TGn} (a : GS D st t) (b : GSs D rest u) : GSs D (st :: rest) (tGThen t u) := by
  refine ⟨fun c ip n w0 s0 s σ H E I ht => ?_⟩
  rw [execs_cons]
  refine wpG_bind (wpG_mono (a.run c ip n w0 s0 s σ H _ I ht) fun f n' w' s0' s' q => ?_)
  cases f with
  | next => obtain ⟨σ', H', I', q⟩ := q; exact b.run c ip n' w' s0' s' σ' H' E I' q
  | brk => exact wpG_pure q
  | cont => exact wpG_pure q
  | ret u => exact wpG_pure q
theorem gss_one {t : TGn} (a : GS D st t) : GSs D [st] (tGThen t tG0) := gss_cons a gss_nil
def tGIf (c : TT) (ta tb : TGn) : TGn := fun E n σ H => c σ H fun b H1 => if b = true then ta E n σ H1 else tb E n σ H1
theorem gs_if {test : Expr} {body orelse : List Stmt} {pos : Pos} {tc : TT} {ta tb : TGn} (hc : ∀ w0 s0, PT (D.X w0 s0) test tc) (ha : GSs D body ta) (hb : GSs D orelse tb) : GS D (.If test body orelse pos) (tGIf tc ta tb) := by
  refine ⟨fun c ip n w0 s0 s σ H E I ht => ?_⟩
  rw [exec_If]
  refine wpG_bind (wpG_at (wpG_bindA (GenW.wpAny_gsz (Nat.le_refl _) (wpAny_mono ((hc w0 s0).run _ s σ H _ I.full ht) (fun b s' q hs => ?_) fun _ _ q => q.elim))))
  obtain ⟨H1, J, q⟩ := q
  cases b with
  | true => exact ha.run c ip n w0 s0 s' σ H1 E (I.of J hs) q
  | false => exact hb.run c ip n w0 s0 s' σ H1 E (I.of J hs) q

/-! ### yield -/
def tGYield (D : GD) (te : TE) : TGn := fun E n σ H => te σ H fun x H1 => ∃ m, n = m + 1 ∧ D.item m x H1 ∧ ∀ w', Same H1 w' → E.nx m σ w'
theorem gs_yield {e : Expr} {yp pos : Pos} {te : TE} (he : ∀ w0 s0, PE (D.X w0 s0) e te) (hco : D.env.scope.isCoroutine = false := by rfl) (hi : interactive D.env = false := by rfl) : GS D (.Expr (.Yield (some e) yp) pos) (tGYield D te) := by
  refine ⟨fun c ip n w0 s0 s σ H E I ht => ?_⟩
  rw [exec_Expr D.env _ pos hi rfl]
  refine wpG_bind (wpG_at ?_)
  show wpG _ _ _ _ _ c ((eval e D.env >>= fun v => (standAt yp >>= fun _ => yieldOut D.env v)) >>= fun x => dropValue (.Yield (some e) yp) pos x) _ n w0 s0 s
  have hy : ∀ v, yieldOut D.env v = yieldValue v := fun v => by simp only [yieldOut, hco, Bool.false_eq_true, if_false]
  simp only [hy]
  refine wpG_bind (wpG_bindA (GenW.wpAny_gsz (Nat.le_refl _) (wpAny_mono ((he w0 s0).run _ s σ H _ I.full ht) (fun v s' q hs => ?_) fun _ _ q => q.elim)))
  obtain ⟨x, H1, J, rv, m, rfl, hit, hnx⟩ := q
  have I1 := I.of J hs
  refine wpG_bind (wpG_at ?_)
  unfold yieldValue
  refine wpG_bind (wpG_suspend (.inl rfl) ?_ (fun kap kap' => D.prot_mono kap kap') fun _ => rfl)
  refine ⟨x, H1, ndOwn D ip s', rv, hit, I1.rel, I1.ndOk, fun _ => I1.bare, fun w' s'' z => ?_⟩
  have I2 := I1.wake (fun p hp => hp) z
  refine wpG_pure ?_
  rw [dropValue_plain (fun a q => by cases q)]
  exact wpG_pure ⟨σ, w', I2, hnx w' z.same⟩
end
end Wv
end WvE_part
section WvF_part
set_option Elab.async false
set_option linter.all false
set_option maxRecDepth 100000
set_option maxHeartbeats 1000000
/-! WvF: while, for within a generator; the code of a generator def. -/
namespace Wv
open PySem L2 PySem.Spec
open PyProof.Rows

theorem over_flat {A : Around} {c c' : Code} {fs : List Frame} (h : c.weight = 0) (u : c.cUnits = 0) (h' : c'.weight = 0) (u' : c'.cUnits = 0) : A.over c fs = A.over c' fs := by
  simp only [Around.over, h, u, h', u', Code.envs_of_weight h, Code.envs_of_weight h', Code.guards_of_weight h, Code.guards_of_weight h']

section
variable {D : GD}
def tGWhile (c : TT) (tb : TGn) : TGn := fun E n σ H => ∃ W : Nat → Nat → L2.St → Hp → Prop, (∃ m, W m n σ H) ∧ ∀ m n σ H, W m n σ H →
  c σ H fun b H1 => if b = true then ∃ N : Nat → L2.St → Hp → Prop, (∀ n' σ' H', N n' σ' H' → ∃ m', m' < m ∧ W m' n' σ' H') ∧ tb { E with nx := N, ct := N, bk := E.nx } n σ H1 else E.nx n σ H1
theorem gs_while {test : Expr} {body : List Stmt} {pos : Pos} {tc : TT} {tb : TGn} (hc : ∀ w0 s0, PT (D.X w0 s0) test tc) (hb : GSs D body tb) : GS D (.While test body [] pos) (tGWhile tc tb) := by
  refine ⟨fun c ip n w0 s0 s σ H E I ht => ?_⟩
  obtain ⟨W, ⟨m0, hw0⟩, turn⟩ := ht
  rw [exec_While]
  refine wpG_bind (wpG_at ?_)
  unfold runOwn
  refine wpG_onRaise (wpG_run (A' := D.A) (fun fs k l p h => (GenW.over_loop (c' := .whileLoop test body [] D.env) rfl rfl).trans h) ?_)
  refine codeG_loop rfl (fun m n w s0 s => ∃ σ H, GI D ip w s0 σ H s ∧ W m n σ H) ?_ m0 ⟨σ, H, I, hw0⟩
  rintro m n w s0 s ⟨σ, H, I, hw⟩
  show wpG _ _ _ _ _ _ ((whileTurn test body [] D.env).onRaise (fun x => do noteFrame x D.env; theTreesLotGoes x)) _ n w s0 s
  refine wpG_onRaise ?_
  unfold whileTurn
  refine wpG_bindA (GenW.wpAny_gsz (Nat.le_refl _) (wpAny_mono ((hc w s0).run _ s σ H _ I.full (turn m n σ H hw)) (fun b s' q hs => ?_) fun _ _ q => q.elim))
  obtain ⟨H1, J, q⟩ := q
  have I1 := I.of J hs
  cases b with
  | true =>
    rw [if_pos rfl] at q
    obtain ⟨N, hN, q⟩ := q
    show wpG _ _ _ _ _ _ (if true = true then _ else _) _ n w s0 s'
    rw [if_pos rfl]
    refine wpG_bind (wpG_mono (hb.run _ ip n w s0 s' σ H1 _ I1 q) fun f n' w' s0' s'' r => ?_)
    cases f with
    | next =>
      obtain ⟨σ', H', I', r⟩ := r
      obtain ⟨m', hm, r⟩ := hN _ _ _ r
      exact wpG_pure (.inl ⟨rfl, m', hm, σ', H', I', r⟩)
    | cont =>
      obtain ⟨σ', H', I', r⟩ := r
      obtain ⟨m', hm, r⟩ := hN _ _ _ r
      exact wpG_pure (.inl ⟨rfl, m', hm, σ', H', I', r⟩)
    | brk => exact wpG_pure r
    | ret v => exact wpG_pure r
  | false =>
    rw [if_neg Bool.false_ne_true] at q
    show wpG _ _ _ _ _ _ (if false = true then _ else _) _ n w s0 s'
    rw [if_neg Bool.false_ne_true, execs_nil]
    refine wpG_bind (wpG_pure (wpG_pure ?_))
    exact ⟨σ, H1, I1, q⟩

/-- an iterator's object, by what stays -/
def FpS (D : GD) (ip : List (Addr × Obj)) (b : Addr) : Prop := b ≠ D.env.locals ∧ b ∉ frs D.outer ∧ D.n0 ≤ b ∧ b ∉ D.pa ∧ ∀ p ∈ ip, p.1 ≠ b
theorem GJ.fps {ip : List (Addr × Obj)} {w0 H H' : Hp} {s0 s : Shared} {σ : L2.St} {b : Addr} (I : GJ D ip w0 s0 σ H s) (f : FpOk (D.X w0 s0) (pinsAt D.pa s0.heap ++ ip) H' b) : FpS D ip b := by
  obtain ⟨_, f1, f2, f3, _, f5⟩ := f
  refine ⟨f1, f2, ?_, fun hb => ?_, fun p hp => f5 p (List.mem_append_right _ (List.mem_append_right _ hp))⟩
  · rcases f3 with f3 | f3
    · exact absurd (show b ∈ ([] : List Addr) from f3) (by simp)
    · have f3 : (trunc D.n0 s0.heap).objs.size ≤ b := f3
      rw [trunc_size, Nat.min_eq_left I.n0] at f3
      exact f3
  · obtain ⟨o, ho⟩ := I.pas b hb
    exact f5 (b, o) (List.mem_append_right _ (List.mem_append_left _ (mem_pinsAt hb ho))) rfl
theorem GJ.fpOk {ip : List (Addr × Obj)} {w0 H H' : Hp} {s0 s : Shared} {σ : L2.St} {b : Addr} (I : GJ D ip w0 s0 σ H s) (f : FpS D ip b) (hb : H' b = none) : FpOk (D.X w0 s0) (pinsAt D.pa s0.heap ++ ip) H' b := by
  obtain ⟨f1, f2, f3, f4, f5⟩ := f
  refine ⟨hb, f1, f2, .inr ?_, fun x c e => ?_, fun p hp => ?_⟩
  · show (trunc D.n0 s0.heap).objs.size ≤ b
    rw [trunc_size, Nat.min_eq_left I.n0]
    exact f3
  · have e : D.env.cells.lookup x = some c := e
    rw [I.ok.cells] at e; cases e
  · have hp : p ∈ [] ++ (pinsAt D.pa s0.heap ++ ip) := hp
    rw [List.nil_append] at hp
    rcases List.mem_append.mp hp with hp | hp
    · intro z
      exact f4 (z ▸ (of_pinsAt hp).1)
    · exact f5 p hp

def tGFor (wi : TI) (g : TG) (tb : TGn) : TGn := fun E n σ H => wi σ H fun J H1 => ∃ W : Nat → Nat → Nat → L2.St → Hp → Prop, (∃ m, W 0 m n σ H1) ∧ ∀ i m n σ H, W i m n σ H →
  (J.stop i H ∧ E.nx n σ H) ∨ (J.go i H ∧ ∃ N : Nat → L2.St → Hp → Prop, (∀ n' σ' H', N n' σ' H' → ∃ m', m' < m ∧ W (i + 1) m' n' σ' H') ∧ ∀ x H', J.yld i H x H' → g x σ H' fun σ2 H2 => tb { E with nx := N, ct := N, bk := E.nx } n σ2 H2)
theorem gs_for {tg iter : Expr} {body : List Stmt} {wi : TI} {g : TG} {tb : TGn} {pos : Pos} (hi : ∀ w0 s0, PI (D.X w0 s0) tg iter wi) (hg : ∀ w0 s0, PG (D.X w0 s0) tg g) (hb : GSs D body tb)
    (hs : ∀ x, foldedSetIterable iter D.env x = pure x := by intro _; rfl) : GS D (.For tg iter body [] pos) (tGFor wi g tb) := by
  refine ⟨fun c ip n w0 s0 s σ H E I h => ?_⟩
  rw [exec_For]
  refine wpG_bind (wpG_at (wpG_bindA (GenW.wpAny_gsz (Nat.le_refl _) (wpAny_mono ((hi w0 s0).run _ s σ H _ I.full h) (fun v s1 h1 hs1 => ?_) fun _ _ q => q.elim))))
  rw [hs v]
  refine wpG_bind (wpG_pure (wpG_bind (wpG_at ?_)))
  refine wpG_bind (wpG_holding (wpG_ofA (GenW.wpAny_gsz (Nat.le_refl _) (wpAny_mono h1 (fun itv s2 h2 hs2 => ?_) fun _ _ q => q.elim))))
  obtain ⟨it, fp, tn, J, H2, e, I2, T, st2, f2, W, ⟨m0, hw0⟩, turn⟩ := h2
  subst e
  have I2 := I.of I2 (Nat.le_trans hs1 hs2)
  have fS : ∀ b ∈ fp, FpS D ip b := fun b hb => I2.fps (f2 b hb)
  unfold runOwn
  refine wpG_onRaise (wpG_run (A' := D.A) (fun fs k l p h => (GenW.over_loop (c' := .forLoop tg (.ref it) body [] D.env) rfl rfl).trans h) ?_)
  refine codeG_loop rfl (fun m n w s0 s => ∃ i σ H, GI D ip w s0 σ H s ∧ tn i s.heap ∧ (∀ b ∈ fp, H b = none) ∧ W i m n σ H) ?_ m0 ⟨0, σ, H2, I2, st2, fun b hb => (f2 b hb).1, hw0⟩
  clear h1 I2 st2 f2 hs1 hs2 I h hw0
  rintro m n w0 s0 s3 ⟨i, σ3, H3, I3, st3, fr3, w3⟩
  show wpG _ _ _ _ _ _ ((forTurn tg (.ref it) body [] D.env).onRaise (fun x => do noteFrame x D.env; theTreesLotGoes x)) _ n w0 s0 s3
  refine wpG_onRaise ?_
  unfold forTurn
  refine wpG_bind (wpG_at ?_)
  have stat : ∀ {H' : Hp}, (∀ b ∈ fp, H' b = none) → ∀ b ∈ fp, FpOk (D.X w0 s0) (pinsAt D.pa s0.heap ++ ip) H' b := fun hn b hb => I3.fpOk (fS b hb) (hn b hb)
  rcases turn i m n σ3 H3 w3 with ⟨stop, qn⟩ | ⟨go, N, hN, step⟩
  · refine wpG_bind (wpG_onRaise (wpG_ofA (GenW.wpAny_gsz (Nat.le_refl _) (wpAny_mono (T.done (D.X w0 s0) rfl rfl rfl rfl i _ s3 σ3 H3 (fun _ _ => False) I3.full (stat fr3) st3 stop) (fun r s4 hr hs4 => ?_) fun _ _ q => q.elim))))
    obtain ⟨rfl, I4⟩ := hr
    have I4 := I3.of I4 hs4
    refine wpG_pure (.inr ⟨rfl, fun fs h => (over_flat (c := .block [] D.env) (c' := .forLoop tg (.ref it) body [] D.env) rfl rfl rfl rfl).trans h, codeG_tree ?_⟩)
    show wpG _ _ _ _ _ _ (do return Fin.done (← (execs [] D.env).onRaise (fun x => do noteFrame x D.env; theTreesLotGoes x))) _ n w0 s0 s4
    refine wpG_bind (wpG_onRaise ?_)
    rw [execs_nil]
    exact wpG_pure (wpG_pure ⟨σ3, H3, I4, qn⟩)
  · refine wpG_bind (wpG_onRaise (wpG_ofA (GenW.wpAny_gsz (Nat.le_refl _) (wpAny_mono (T.item (D.X w0 s0) rfl rfl rfl rfl i _ s3 σ3 H3 (fun _ _ => False) I3.full (stat fr3) st3 go) (fun r s4 hr hs4 => ?_) fun _ _ q => q.elim))))
    obtain ⟨u, rfl, h4⟩ := hr
    show wpG _ _ _ _ _ _ (letOwnedTupleGo tg (.ref it) u >>= _) _ n w0 s0 s4
    refine wpG_bindA (GenW.wpAny_gsz (Nat.le_refl _) (wpAny_mono h4 (fun _ s5 h5 hs5 => ?_) fun _ _ q => q.elim))
    obtain ⟨x, H5, I5, r5, y5, st5, fr5⟩ := h5
    have I5 := I3.of I5 (Nat.le_trans hs4 hs5)
    have I5' : GI D (ip ++ pinsAt fp s5.heap) w0 s0 σ3 H5 s5 := I5.repin fun p hp => by
      rcases List.mem_append.mp hp with hp | hp
      · obtain ⟨h1, h2⟩ := I5.ipo p hp
        obtain ⟨a, b, c, d, e⟩ := I5.inv.pin p (List.mem_append_right _ (List.mem_append_right _ hp))
        exact ⟨h1, h2, a, b, c, d, e⟩
      · obtain ⟨h1, h2⟩ := of_pinsAt hp
        obtain ⟨f1, f2, f3, f4, f5⟩ := fS p.1 h1
        obtain ⟨o, ho, hd⟩ := T.obj _ _ st5 p.1 h1
        rw [h2] at ho; cases ho
        exact ⟨f3, f4, h2, fr5 _ h1, f1, f2, hd⟩
    refine wpG_bindA (GenW.wpAny_gsz (Nat.le_refl _) (wpAny_mono ((hg w0 s0).run _ s5 σ3 H5 x u _ I5'.full r5 (step x H5 y5)) (fun _ s6 h6 hs6 => ?_) fun _ _ q => q.elim))
    obtain ⟨σ6, H6, I6, q6⟩ := h6
    have I6 := I5'.of I6 hs6
    refine wpG_bind (wpG_mono (hb.run _ _ n w0 s0 s6 σ6 H6 _ I6 q6) fun f n7 w7 s07 s7 q7 => ?_)
    have again : ∀ {σ7 : L2.St} {H7 : Hp}, GI D (ip ++ pinsAt fp s5.heap) w7 s07 σ7 H7 s7 → N n7 σ7 H7 → ∃ j, j < m ∧ ∃ i σ' H', GI D ip w7 s07 σ' H' s7 ∧ tn i s7.heap ∧ (∀ b ∈ fp, H' b = none) ∧ W i j n7 σ' H' := fun {σ7 H7} I7 n7' => by
      obtain ⟨m', hm, w7⟩ := hN _ σ7 H7 n7'
      have pin : ∀ b ∈ fp, ∀ o, s5.heap.get? b = some o → s7.heap.get? b = some o ∧ H7 b = none := fun b hb o e => by
        obtain ⟨a, b, _⟩ := I7.inv.pin (b, o) (List.mem_append_right _ (List.mem_append_right _ (List.mem_append_right _ (mem_pinsAt hb e))))
        exact ⟨a, b⟩
      refine ⟨m', hm, i + 1, σ7, H7, I7.unpin, T.keep _ _ _ st5 fun b hb o e => (pin b hb o e).1, fun b hb => ?_, w7⟩
      obtain ⟨o, e, d⟩ := T.obj _ _ st5 b hb
      exact (pin b hb o e).2
    cases f with
    | next => obtain ⟨σ7, H7, I7, n7⟩ := q7; exact wpG_pure (.inl ⟨rfl, again I7 n7⟩)
    | cont => obtain ⟨σ7, H7, I7, n7⟩ := q7; exact wpG_pure (.inl ⟨rfl, again I7 n7⟩)
    | brk => obtain ⟨σ7, H7, I7, q7⟩ := q7; exact wpG_pure ⟨σ7, H7, I7.unpin, q7⟩
    | ret v => obtain ⟨x7, σ7, H7, I7, r7, q7⟩ := q7; exact wpG_pure ⟨x7, σ7, H7, I7.unpin, r7, q7⟩

/-- the code of a generator def, from its first waking -/
theorem seg_body {body : List Stmt} {t : TGn} {n : Nat} {w0 H : Hp} {s0 s : Shared} {σ : L2.St} (hb : GSs D body t) (I : GI D [] w0 s0 σ H s)
    (ht : t { nx := fun n _ H' => D.fin n H', rt := fun n v H' => v = .non ∧ D.fin n H' } n σ H) (p : Pos) : SegN D.M D.A0 D.g D.prot n w0 s0 (.func body D.env) p (D.M.den (.func body D.env)) [] s := by
  show SegX _ _ _ _ _ _ p (.point [] fun _ => ((execs body D.env).onRaise (leaving D.env)) >>= fun x => match x with | .ret v => ret v | _ => ret .none) [] s
  have e : (Sem.point [] fun _ => ((execs body D.env).onRaise (leaving D.env)) >>= fun x => match x with | .ret v => ret v | _ => ret .none : Sem PySem.Fin)
      = (point >>= fun _ => ((execs body D.env).onRaise (leaving D.env)) >>= fun x => (match x with | .ret v => ret v | _ => ret .none : Sem PySem.Fin)).wrap (fun x => .pure x) .raise id id := by
    rw [← Sem.bind_eq_wrap, Sem.bind_pure]; rfl
  rw [e]
  have hG : wpG D.M D.A0 D.g D.prot D.A (.func body D.env) (point >>= fun _ => ((execs body D.env).onRaise (leaving D.env)) >>= fun x => (match x with | .ret v => ret v | _ => ret .none : Sem PySem.Fin))
      (fun fin n' w' s0' s' => ∃ r, fin = .done r ∧ D.prot.Z n' w' s0' (.ok r) s') n w0 s0 s := by
    refine wpG_bindA (wpAny_point (wpG_bind (wpG_onRaise (wpG_mono (hb.run _ [] n w0 s0 s σ H _ I ht) fun f n' w' s0' s' q => ?_))))
    cases f with
    | next =>
      obtain ⟨σ', H', I', q⟩ := q
      exact wpG_pure ⟨_, rfl, .inl rfl, H', I'.rel, I'.bare, q⟩
    | brk => obtain ⟨σ', H', I', q⟩ := q; exact q.elim
    | cont => obtain ⟨σ', H', I', q⟩ := q; exact q.elim
    | ret u =>
      obtain ⟨v, σ', H', I', rv, hv, q⟩ := q
      subst hv
      obtain rfl : u = Value.none := rv
      exact wpG_pure ⟨_, rfl, .inl rfl, H', I'.rel, I'.bare, q⟩
  refine hG [] p (fun x => .pure x) .raise id id GenW.over_func rfl rfl rfl rfl fun fin n' w' s0' s' p' q => ?_
  obtain ⟨r, rfl, q⟩ := q
  exact segX_end (.ok r) q
end
end Wv
end WvF_part
section WvG_part
set_option Elab.async false
set_option linter.all false
set_option maxRecDepth 100000
set_option maxHeartbeats 1000000
/-! WvG: the call of a generator def. -/
namespace Wv
open PySem L2 PySem.Spec
open PyProof.Rows

theorem cellsFrom_none : ∀ (names : List (Str × NameKind)) (n : Nat), (∀ y ∈ names, y.2 ≠ .cell) → cellsFrom n names [] = []
  | [], _, _ => rfl
  | (x, k) :: r, n, h => by
    unfold cellsFrom
    have h1 : k ≠ .cell := h (x, k) List.mem_cons_self
    have h2 : (k == NameKind.cell) = false := by cases k <;> first | rfl | exact absurd rfl h1
    rw [h2]
    exact cellsFrom_none r n fun y hy => h y (List.mem_cons_of_mem _ hy)

/-- a frame whose names are laid and that has not begun, or sleeps: its own object, and what it tells -/
structure Asl (D : GD) (σ : L2.St) (oL : Obj) : Prop where
  ok : D.Ok
  loc : ∃ (m : Str → Option Value) (es : _) (ep : _), oL.data = .dict es ep ∧ StrKeys es ∧ (∀ name, nsFind es name = m name) ∧ ∀ (i : Nat) (x : Str) (v : V), D.N[i]? = some x → σ[i]? = some (some v) → Vis D.env.scope x → ∃ u, RelV v u ∧ D.env.kindOf x = some .local ∧ m x = some u
  len : σ.length = D.N.length
theorem Asl.wake {D : GD} {nd : List (Addr × Obj)} {w' H : Hp} {s s' : Shared} {σ : L2.St} {oL : Obj} (J : Asl D σ oL) (hnd : (D.env.locals, oL) ∈ nd) (z : Slp D nd H s w' s') (hg : D.g < s'.gens.size) : GJ D [] w' s' σ w' s' := by
  obtain ⟨m, es, ep, hd, hk, hm, hl⟩ := J.loc
  obtain ⟨eL, fL⟩ := z.nd (D.env.locals, oL) hnd
  have hsz : D.n0 ≤ s'.heap.objs.size := Nat.le_trans J.ok.above (Nat.le_of_lt (Heap.lt_size eL))
  have hc : ∀ x c, D.env.cells.lookup x = some c → False := fun x c e => by rw [J.ok.cells] at e; cases e
  have nm : ∀ x : Addr, x ∉ ([] : List Addr) := fun x hx => nomatch hx
  refine { ok := J.ok, gsz := hg, mono := Nat.le_refl _, n0 := hsz, pas := fun b hb => let ⟨o, ho, _⟩ := (z.pa b hb).2; ⟨o, ho⟩, ipo := fun p hp => (nomatch hp), inv := ?_ }
  refine ⟨⟨J.ok.mod, J.ok.kind, J.ok.glob, J.ok.blt, ?_, fun x y c e _ => (hc x c e).elim, fun x hx => ?_, fun x c _ e => (hc x c e).elim, fun _ => J.ok.hd, Around.frames_deeper J.ok.frames, .inr ⟨rfl, J.ok.frame⟩, fun b hb => (nm b hb).elim, fun b o e => ?_, ?_, fun b o _ => nm b, fun b hb => (nm b hb).elim, ?_, z.frf⟩,
    rfl, AllBare.empty, Un.kept fun b u e => (of_trunc e).2, ⟨m, ⟨oL, es, ep, eL, hd, hk, hm⟩, fun i x v e1 e2 e3 => ?_⟩, fun x c e => (hc x c e).elim, fL, fun x c e => (hc x c e).elim, fun p hp => ?_, z.hok, J.len⟩
  · show (trunc D.n0 s'.heap).objs.size ≤ _
    rw [trunc_size]
    exact Nat.le_trans (Nat.min_le_left _ _) J.ok.above
  · rcases hx with hx | hx
    · exact ((J.ok.nocell x).1 hx).elim
    · exact ((J.ok.nocell x).2 hx).elim
  · obtain ⟨h1, h2⟩ := z.bs b o e
    exact ⟨(trunc_get (Nat.lt_of_lt_of_le (Heap.lt_size e) J.ok.bsz)).trans h1, h2⟩
  · show D.base.objs.size ≤ (trunc D.n0 s'.heap).objs.size
    rw [trunc_size]
    have := J.ok.bsz
    omega
  · exact funFrames_trunc J.ok.ofs z.funs
  · obtain ⟨u, ru, lk⟩ := hl i x v e1 e2 e3
    exact ⟨u, ru, .inl lk⟩
  · have hp : p ∈ [] ++ (pinsAt D.pa s'.heap ++ []) := hp
    rw [List.nil_append, List.append_nil] at hp
    obtain ⟨h1, h2⟩ := of_pinsAt hp
    obtain ⟨h3, o, h4, h5⟩ := z.pa p.1 h1
    rw [h2] at h4; cases h4
    exact ⟨h2, h3, (J.ok.pa _ h1).1, (J.ok.pa _ h1).2, h5⟩

/-- all as it was, but that those that stand above may be at work again -/
def Chain (g : Nat) (G G' : Array GenState) : Prop := G'.size = G.size ∧ ∀ i x, G[i]? = some x → G'[i]? = some x ∨ (i ≤ g ∧ G'[i]? = some .running)
/-- what a call of a generator def gives: a generator that has not begun; n items are to come; ch: only for those that sleep over it, in chains -/
def GMk (P : Program) (w : World) (K : PySem.W.Frag) (mg : Str → Option Value) (base : Heap) (k : Nat) (ch : Prop) (outer : List Env) (H : Hp) (s : Shared) (n : Nat) (item : Nat → V → Hp → Prop) (fin : Nat → Hp → Prop) (u : Value) (s' : Shared) : Prop :=
  ∃ (a : Addr) (N : List Str) (env : Env) (c : Code) (nd : List (Addr × Obj)), u = .ref a ∧ s.heap.objs.size ≤ a ∧ a < s'.heap.objs.size ∧ s'.heap.IsGen a s.gens.size ∧ s'.gens = s.gens.push (.fresh c) ∧ s'.os = s.os ∧ (∀ b o, s.heap.get? b = some o → s'.heap.get? b = some o) ∧
    (∀ p ∈ nd, s'.heap.get? p.1 = some p.2 ∧ H p.1 = none ∧ s.heap.objs.size ≤ p.1 ∧ p.1 ≠ a ∧ ∀ v, p.2.data ≠ .cell v) ∧
    ∀ (A0 : Around) (pa : List Addr) (GR : Array GenState → Array GenState → Prop) (bY : Prop), Room k A0 → A0.frames = some outer → (∀ b ∈ pa, b = a ∨ s'.heap.objs.size ≤ b) → (∀ G G', AllBare G → GR G G' → AllBare G') →
      (∀ G G', GR G G' → s.gens.size < G.size → s.gens.size < G'.size) → (ch → (∀ G G', GR G G' → Chain s.gens.size G G') ∧ ¬ bY) → ∀ (w' : Hp) (s2 : Shared), Slp ⟨P, w, K, mg, base, N, env, A0, outer, s.heap.objs.size, pa, s.gens.size, GR, item, fin, bY⟩ nd H s' w' s2 → s.gens.size < s2.gens.size →
      WakeN (model P w) A0 s.gens.size (GD.prot ⟨P, w, K, mg, base, N, env, A0, outer, s.heap.objs.size, pa, s.gens.size, GR, item, fin, bY⟩) n w' (.fresh c) s2
/-- a generator def's promise -/
abbrev SpN := List V → Hp → Nat → (Nat → V → Hp → Prop) → (Nat → Hp → Prop) → Prop
structure GFnS (P : Program) (w : World) (K : PySem.W.Frag) (mg : Str → Option Value) (base : Heap) (k : Nat) (ch : Prop) (f : Addr) (fd : FuncData) (ps : List Str) (sp : SpN) : Prop where
  len : ∀ vs H n item fin, sp vs H n item fin → vs.length = ps.length
  run : ∀ (A : Around) (outer : List Env) (s : Shared) (H : Hp) (args : Args) (us : List Value) (vs : List V) (n : Nat) (item : Nat → V → Hp → Prop) (fin : Nat → Hp → Prop), Room k A → Env0 P w K mg base A outer s H → BindsTo s fd args (ps.zip us) → Vals vs us → sp vs H n item fin →
    codeAny (model P w) A (.call (.ref f) args) (fun r s' => match r with | .ok (.ret u) => GMk P w K mg base k ch outer H s n item fin u s' | _ => False) s

/-- THE RULE: a generator def, by its body -/
theorem gfnS_of {P : Program} {w : World} {K : PySem.W.Frag} {mg : Str → Option Value} {base : Heap} {k : Nat} {f : Addr} {name qual : Str} {params : Arguments} {body : List Stmt} {scope : Scope} {dV kV doc pm cdv ct oc : Value} {an od : Option Addr}
    {osl : Array (Option Value)} {N ps : List Str} {sp : SpN} {ch : Prop} (lk : K.lookup f = some ⟨oc, od, .func (PySem.W.fnOf name qual params body scope dV kV doc pm an cdv ct), osl⟩) (hcd : PySem.W.codeIn K cdv qual = true) (S : GScope N ps scope)
    (nc : ∀ y ∈ scope.names, y.2 ≠ .cell) (len : ∀ vs H n item fin, sp vs H n item fin → vs.length = ps.length)
    (hbody : ∀ (A0 : Around) (outer : List Env) (n0 : Nat) (pa : List Addr) (g : Nat) (GR : Array GenState → Array GenState → Prop) (item : Nat → V → Hp → Prop) (fin : Nat → Hp → Prop) (bY : Prop) (vs : List V) (H w' : Hp) (n : Nat), (ch → (∀ G G', GR G G' → Chain g G G') ∧ ¬ bY) →
      Room k (A0.deeper (envOfC qual scope n0 f cdv)) → sp vs H n item fin → Same H w' →
      ∃ t, GSs ⟨P, w, K, mg, base, N, envOfC qual scope n0 f cdv, A0, outer, n0, pa, g, GR, item, fin, bY⟩ body t ∧ t { nx := fun n _ H' => fin n H', rt := fun n v H' => v = .non ∧ fin n H' } n (start N vs) w') :
    GFnS P w K mg base (k + 1) ch f (PySem.W.fnOf name qual params body scope dV kV doc pm an cdv ct) ps sp := by
  refine ⟨len, fun A outer s H args us vs n item fin hr e0 hb r hsp => ?_⟩
  have hl := len _ _ _ _ _ hsp
  have KX : K.In s.heap := e0.mod.kin.keeps fun b o e => (e0.bs b o e).1
  have lim : s.heap.NoLimit := e0.mod.nolimit.keeps fun b o e => (e0.bs b o e).1
  have hkind : ∀ y ∈ ps.zip us, scope.names.lookup y.1 = some .local ∨ (scope.names.lookup y.1 = some .cell ∧ ((cellsFrom (s.heap.objs.size + 1) scope.names []).lookup y.1).isSome = true) := fun ⟨q, v⟩ hy => by
    rcases S.par q (List.of_mem_zip hy).1 with z | z
    · exact .inl z
    · exact .inr ⟨z, PySem.W.cellsFrom_some _ _ _ (.inl z)⟩
  refine codeAny_call_generator hr.depth (KX _ _ lk) rfl S.co S.gen rfl (PySem.W.codeRec_of KX hcd) (hb _ _ _ _ ?_)
  refine wpAny_newFunctionEnv_cells S.kind hkind fun env he s1 x => ?_
  subst he
  have lim1 : s1.heap.NoLimit := lim.keeps x.toInCall.keep
  refine ⟨lim1, ?_⟩
  obtain ⟨h1, tk, es1, hk1⟩ := x.done
  have os1 : s1.os = s.os := by rw [es1]
  have gen1 : s1.gens = s.gens := by rw [es1]
  have lt1 : s.heap.objs.size < s1.heap.objs.size := x.toInCall.ns.lt
  have sz1 : s.heap.objs.size ≤ s1.heap.objs.size := Nat.le_of_lt lt1
  have kp1 : ∀ b o, s.heap.get? b = some o → s1.heap.get? b = some o := x.toInCall.keep
  have I1 : Inv (gcxOf P w K mg base N qual scope f cdv A outer s H E0 []) [] (start N vs) H s1 := inv_startG S hr.hd e0 hl r x
  have nocell : ∀ y, scope.names.lookup y ≠ some .cell ∧ scope.names.lookup y ≠ some .free := fun y => ⟨fun q => nc _ (PySem.mem_of_lookup q) rfl, fun q => S.nofree _ (PySem.mem_of_lookup q) rfl⟩
  have main : ∀ (go : Obj) (nm qn : Value) (tk2 : Nat), go.cls = .type "generator" → go.data = .fields #[.int s1.gens.size 0, nm, qn] → go.slots = #[] → (∀ h : Heap, (h.push go).get? h.objs.size = some go) →
      GMk P w K mg base (k + 1) ch outer H s n item fin (.ref s1.heap.objs.size) { s1 with gens := s1.gens.push (.fresh (.func body (envOfC qual scope s.heap.objs.size f cdv))), toks := tk2, heap := s1.heap.push go } := by
    intro go nm qn tk2 hgc hgd0 hgs hgp
    have hpushed : (s1.heap.push go).get? s1.heap.objs.size = some go := hgp _
    obtain ⟨m, ⟨oL, es, ep, hoL, hdL, hkL, hmL⟩, hlL⟩ := I1.loc
    have hoL : s1.heap.get? s.heap.objs.size = some oL := hoL
    refine ⟨s1.heap.objs.size, N, envOfC qual scope s.heap.objs.size f cdv, .func body (envOfC qual scope s.heap.objs.size f cdv), [(s.heap.objs.size, oL)], rfl, sz1, ?_, ⟨go, nm, qn, hpushed, hgc, by rw [hgd0, gen1], hgs⟩, ?_, os1, fun b o e => Heap.get?_push_of_some _ (kp1 b o e), fun p hp => ?_, ?_⟩
    · show _ < (s1.heap.push _).objs.size
      rw [Heap.size_push]; exact Nat.lt_succ_self _
    · show s1.gens.push _ = s.gens.push _
      rw [gen1]
    · rw [List.mem_singleton.mp hp]
      refine ⟨Heap.get?_push_of_some _ hoL, I1.free, Nat.le_refl _, Nat.ne_of_lt lt1, fun v q => ?_⟩
      have q : oL.data = .cell v := q
      rw [hdL] at q; cases q
    · intro A0 pa GR bY hrA hfr hpa hgr hgrs hchn w' s2 z hg2 p
      have ok : GD.Ok ⟨P, w, K, mg, base, N, envOfC qual scope s.heap.objs.size f cdv, A0, outer, s.heap.objs.size, pa, s.gens.size, GR, item, fin, bY⟩ :=
        { mod := e0.mod, kind := S.kind, glob := rfl, blt := rfl, above := Nat.le_refl _, cells := cellsFrom_none _ _ nc, nocell := nocell, hd := hrA.hd, frames := hfr, frame := rfl, bsz := e0.bsz
          ofs := fun b hb => let ⟨_, o, ho, _⟩ := e0.funs.mem hb; Heap.lt_size ho
          pa := fun b hb => by
            have hb1 : s1.heap.objs.size ≤ b := by
              rcases hpa b hb with q | q
              · rw [q]; exact Nat.le_refl _
              · have q : (s1.heap.push go).objs.size ≤ b := q
                rw [Heap.size_push] at q
                exact Nat.le_of_succ_le q
            exact ⟨Nat.ne_of_gt (Nat.lt_of_lt_of_le lt1 hb1), I1.nofs hb1⟩
          gr := hgr, grs := hgrs }
      have asl : Asl ⟨P, w, K, mg, base, N, envOfC qual scope s.heap.objs.size f cdv, A0, outer, s.heap.objs.size, pa, s.gens.size, GR, item, fin, bY⟩ (start N vs) oL :=
        ⟨ok, ⟨m, es, ep, hdL, hkL, hmL, fun i y v e1 e2 e3 => by
          obtain ⟨u, ru, lk⟩ := hlL i y v e1 e2 e3
          rcases lk with lk | ⟨_, c, e, _⟩
          · exact ⟨u, ru, lk⟩
          · have e : (cellsFrom (s.heap.objs.size + 1) scope.names []).lookup y = some c := e
            rw [cellsFrom_none _ _ nc] at e; cases e⟩, I1.len⟩
      have J := asl.wake (List.mem_singleton.mpr rfl) z hg2
      have hbare : AllBare (s1.gens.push (.fresh (.func body (envOfC qual scope s.heap.objs.size f cdv)))) := AllBare.push (by rw [gen1]; exact e0.bare) rfl
      have I : GI ⟨P, w, K, mg, base, N, envOfC qual scope s.heap.objs.size f cdv, A0, outer, s.heap.objs.size, pa, s.gens.size, GR, item, fin, bY⟩ [] w' s2 (start N vs) w' s2 := { J with bare := hgr _ _ hbare z.gens }
      obtain ⟨t, ht, hq⟩ := hbody A0 outer s.heap.objs.size pa s.gens.size GR item fin bY vs H w' n hchn (hrA.deeper _) hsp z.same
      exact seg_body ht I hq p
  exact main _ _ _ _ rfl rfl rfl fun h => Heap.get?_push_size _ rfl
end Wv
end WvG_part
section WvH_part
set_option Elab.async false
set_option linter.all false
set_option maxRecDepth 100000
set_option maxHeartbeats 1000000
/-! WvH: yield from over a generator. -/
namespace Wv
open PySem L2 PySem.Spec
open PyProof.Rows

theorem over_under {A : Around} {c c' : Code} {fs : List Frame} {k : Result → Sem PySem.Fin} {g : Bool} {l kp : List Value} {p : Pos} : A.over c' (.ret k none g l c p kp :: fs) = (A.over c fs).under c' := by
  have e2 : A.depth + frameCount ((c, p) :: fs.map Frame.where_) + c'.weight = A.depth + frameCount (fs.map Frame.where_) + c.weight + c'.weight := by rw [frameCount_cons]; omega
  have e3 : pushEnvs (envsOf ((c, p) :: fs.map Frame.where_)) A.frames = pushEnvs c.envs (pushEnvs (envsOf (fs.map Frame.where_)) A.frames) := by
    rw [envsOf_cons]
    simp only [pushEnvs_eq]
    cases A.frames <;> simp [List.append_assoc]
  have e4 : pushGuards (guardsOf ((c, p) :: fs.map Frame.where_)) A.guards = pushGuards c.guards (pushGuards (guardsOf (fs.map Frame.where_)) A.guards) := by
    rw [guardsOf_cons]
    simp only [pushGuards_eq]
    cases A.guards <;> simp [List.append_assoc]
  have e5 : A.units + unitsOf ((c, p) :: fs.map Frame.where_) + c'.cUnits = A.units + unitsOf (fs.map Frame.where_) + c.cUnits + c'.cUnits := by rw [unitsOf_cons]; omega
  show (⟨(marksOver fs (A.handled, A.handled)).1, A.depth + frameCount ((c, p) :: fs.map Frame.where_) + c'.weight, pushEnvs c'.envs (pushEnvs (envsOf ((c, p) :: fs.map Frame.where_)) A.frames),
    pushGuards c'.guards (pushGuards (guardsOf ((c, p) :: fs.map Frame.where_)) A.guards), A.units + unitsOf ((c, p) :: fs.map Frame.where_) + c'.cUnits⟩ : Around) = _
  rw [e2, e3, e4, e5]
  rfl

/-- behind another's work: what is younger than m may have changed -/
theorem Inv.behind {X : Cx} {pins : List (Addr × Obj)} {σ : L2.St} {H H' : Hp} {s s' : Shared} (I : Inv X pins σ H s) (m : Nat) (hm : X.env.locals < m) (hs : X.s_0.heap.objs.size ≤ m) (hc : ∀ x c, X.env.cells.lookup x = some c → c < m) (hp : ∀ p ∈ X.pn ++ pins, p.1 < m)
    (ho : s'.os = s.os) (u : Un (frs X.stack) [] H H' (trunc m s.heap) s'.heap) (hok : HOk X.prog X.w H' s'.heap) (hb : AllBare s'.gens) : Inv X pins σ H' s' := by
  have low : ∀ b o, s.heap.get? b = some o → b ∉ (List.range s.heap.objs.size).filter (fun b => decide (m ≤ b)) → b < m := fun b o e hn => by
    refine Nat.lt_of_not_le fun q => hn (List.mem_filter.mpr ⟨List.mem_range.mpr (Heap.lt_size e), decide_eq_true q⟩)
  have nm : ∀ x : Addr, x ∉ ([] : List Addr) := fun x hx => nomatch hx
  refine I.call' (ch := (List.range s.heap.objs.size).filter fun b => decide (m ≤ b)) ho ⟨fun b o e n hb hx => ?_, fun b o e n hb hx => ?_, fun b o e n hx => ?_, fun b o e hx => ?_, u.tups, u.frzs, u.tbls⟩ hok hb fun b hb => ?_
  · exact u.keep b o ((trunc_get (low b o e hx)).trans e) n hb (nm b)
  · exact u.slot b o ((trunc_get (low b o e hx)).trans e) n hb (nm b)
  · exact u.free b o ((trunc_get (low b o e hx)).trans e) n (nm b)
  · exact u.there b o ((trunc_get (low b o e hx)).trans e) (nm b)
  · have hmb : m ≤ b := of_decide_eq_true (List.mem_filter.mp hb).2
    exact ⟨.inr (Nat.le_trans hs hmb), Nat.ne_of_gt (Nat.lt_of_lt_of_le hm hmb), fun x c e => Nat.ne_of_lt (Nat.lt_of_lt_of_le (hc x c e) hmb), fun p hp' => Nat.ne_of_lt (Nat.lt_of_lt_of_le (hp p hp') hmb)⟩

/-! ### asleep over it -/
theorem sleptOver_on {M : Model} {A : Around} {E : Value → Shared → Prop} {s : Shared} {a : Addr} {g : Nat} {Q : Unit → Shared → Prop} (x : GenObj s.heap a g)
    (h : ∀ h' o', h'.get? a = some o' → o'.cls = .type "generator" → (∃ nm qn, o'.data = .fields #[.int g 0, nm, qn]) → o'.slots = #[some (.int 1 0)] → (∀ b o, b ≠ a → s.heap.get? b = some o → h'.get? b = some o) → Q () { s with heap := h' }) : wpAny M A (Builtin.Generator.sleptOver (.ref a) true) Q E s := by
  obtain ⟨o, nm, qn, ho, hc, hd, hsl⟩ := x
  unfold Builtin.Generator.sleptOver
  refine wpAny_bind (wpAny_load ho ?_)
  rw [hc, if_neg (by decide)]
  have go : ∀ n : Int, n = 0 → wpAny M A (setSlotAt a 0 (some (rawInt (if true = true then n + 1 else n - 1)))) Q E s := by
    rintro n rfl
    unfold setSlotAt
    rw [if_neg (by decide)]
    refine wpAny_bind (wpAny_pure ?_)
    refine wpAny_updatePart ho ?_
    refine h _ _ (Heap.get?_update_self _ ho ?_) hc ⟨nm, qn, hd⟩ ?_ fun b o2 hb e => (Heap.get?_update_other _ _ (Ne.symm hb)).trans e
    · cases o; dsimp only at hd; subst hd; rfl
    · show ((o.slots ++ Array.replicate (0 + 1 - o.slots.size) none).setIfInBounds 0 _ : Array (Option Value)) = _
      rcases hsl with e | e <;> rw [e] <;> rfl
  rcases hsl with e | e
  · rw [e]; exact go _ rfl
  · rw [e]; exact go _ rfl
theorem sleptOver_off {M : Model} {A : Around} {E : Value → Shared → Prop} {s : Shared} {a : Addr} {g : Nat} {o : Obj} {Q : Unit → Shared → Prop} (ho : s.heap.get? a = some o) (hc : o.cls = .type "generator") (hd : ∃ nm qn, o.data = .fields #[.int g 0, nm, qn]) (hsl : o.slots = #[some (.int 1 0)])
    (h : ∀ h', GenObj h' a g → (∃ o', h'.get? a = some o' ∧ ∀ v, o'.data ≠ .cell v) → (∀ b o, b ≠ a → s.heap.get? b = some o → h'.get? b = some o) → Q () { s with heap := h' }) : wpAny M A (Builtin.Generator.sleptOver (.ref a) false) Q E s := by
  obtain ⟨nm, qn, hd⟩ := hd
  unfold Builtin.Generator.sleptOver
  refine wpAny_bind (wpAny_load ho ?_)
  rw [hc, if_neg (by decide), hsl]
  show wpAny M A (setSlotAt a 0 (some (rawInt (if false = true then (1 : Int) + 1 else 1 - 1)))) Q E s
  unfold setSlotAt
  rw [if_neg (by decide)]
  refine wpAny_bind (wpAny_pure ?_)
  refine wpAny_updatePart ho ?_
  have e1 := Heap.get?_update_self (fun o : Obj => { o with slots := (o.slots ++ Array.replicate (0 + 1 - o.slots.size) none).setIfInBounds 0 (some (rawInt (if false = true then (1 : Int) + 1 else 1 - 1))) }) ho (by cases o; dsimp only at hd; subst hd; rfl)
  refine h _ ⟨_, nm, qn, e1, hc, hd, .inr ?_⟩ ⟨_, e1, fun v q => ?_⟩ fun b o2 hb e => (Heap.get?_update_other _ _ (Ne.symm hb)).trans e
  · show ((o.slots ++ Array.replicate (0 + 1 - o.slots.size) none).setIfInBounds 0 _ : Array (Option Value)) = _
    rw [hsl]; rfl
  · have q : o.data = .cell v := q
    rw [hd] at q; cases q

/-! ### the table of generators of a chain -/
theorem Chain.bare {g : Nat} {G G' : Array GenState} (h : AllBare G) (c : Chain g G G') : AllBare G' := fun y hy => by
  obtain ⟨i, hi, e⟩ := Array.mem_iff_getElem.mp hy
  have hi2 : i < G.size := by rw [← c.1]; exact hi
  have e' : G'[i]? = some y := by rw [Array.getElem?_eq_getElem hi, e]
  rcases c.2 i G[i] (Array.getElem?_eq_getElem hi2) with q | ⟨_, q⟩
  · rw [e'] at q; cases q
    exact h _ (Array.getElem_mem hi2)
  · rw [e'] at q; cases q; rfl
theorem Chain.sz {g : Nat} {G G' : Array GenState} (c : Chain g G G') (h : g < G.size) : g < G'.size := by rw [c.1]; exact h
theorem Chain.run {g : Nat} {s : Shared} : Chain g s.gens (s.setGen g .running).gens := by
  refine ⟨GenW.setGen_size s g _, fun i x e => ?_⟩
  by_cases q : i = g
  · subst q
    exact .inr ⟨Nat.le_refl _, setGen_at (Array.getElem?_eq_some_iff.mp e).1⟩
  · left
    show (s.gens.setIfInBounds g _)[i]? = some x
    rw [Array.getElem?_setIfInBounds_ne (Ne.symm q)]; exact e
/-- an inner one's, over an outer one's -/
theorem Chain.inner {g g1 : Nat} {s s2 : Shared} {gs' : GenState} {G : Array GenState} (h : g1 < g) (hG : G = s2.gens) (c : Chain g1 (s.setGen g gs').gens G) : Chain g s.gens (s2.setGen g .running).gens := by
  subst hG
  refine ⟨?_, fun i x e => ?_⟩
  · rw [GenW.setGen_size, c.1, GenW.setGen_size]
  · by_cases q : i = g
    · subst q
      refine .inr ⟨Nat.le_refl _, setGen_at ?_⟩
      rw [c.1, GenW.setGen_size]; exact (Array.getElem?_eq_some_iff.mp e).1
    · have e1 : (s.setGen g gs').gens[i]? = some x := by
        show (s.gens.setIfInBounds g _)[i]? = some x
        rw [Array.getElem?_setIfInBounds_ne (Ne.symm q)]; exact e
      have e2 : ∀ y, s2.gens[i]? = some y → (s2.setGen g .running).gens[i]? = some y := fun y e => by
        show (s2.gens.setIfInBounds g _)[i]? = some y
        rw [Array.getElem?_setIfInBounds_ne (Ne.symm q)]; exact e
      rcases c.2 i x e1 with z | ⟨z1, z⟩
      · exact .inl (e2 _ z)
      · exact .inr ⟨Nat.le_of_lt (Nat.lt_of_le_of_lt z1 h), e2 _ z⟩

/-! ### the call as an expression -/
abbrev TGen := L2.St → Hp → Nat → (Nat → V → Hp → Prop) → (Nat → Hp → Prop) → Prop
structure PGn (X : Cx) (k : Nat) (ch : Prop) (e : Expr) (tg : TGen) : Prop where
  run : ∀ (pins : List (Addr × Obj)) (s : Shared) (σ : L2.St) (H : Hp) (n : Nat) (item : Nat → V → Hp → Prop) (fin : Nat → Hp → Prop), Inv X pins σ H s → tg σ H n item fin → wpAny (model X.prog X.w) X.A (eval e X.env)
    (fun u s' => ∃ H1 sc, Inv X pins σ H1 sc ∧ s.gens.size ≤ sc.gens.size ∧ GMk X.prog X.w X.K X.mg X.base k ch X.stack H1 sc n item fin u s') X.xe s
def tCallN (sp : SpN) (dvs : List V) (t : TA) : TGen := fun σ H n item fin => t σ H fun vs H1 => sp (vs ++ dvs) H1 n item fin
section
variable {X : Cx} {k : Nat} {ch : Prop} {f : Addr} {fd : FuncData} {ps : List Str} {sp : SpN} {dvs : List V} {ds : List Value} {x : Str} {p pos' : Pos}
theorem pgn_call {e : Expr} {es : List Expr} {t : TA} (F : GFnS X.prog X.w X.K X.mg X.base k ch f fd ps sp) (hr : Room k X.A) (hg : Gl X x) (hm : X.mg x = some (.ref f)) (hk : PySem.W.keepIn X.K (.ref f) = true) (hb : Binds X.K fd ps ds) (hd : Vals dvs ds)
    (ha : PA X (e :: es) t) (hdb : (x == ("__debug__" : Str)) = false := by decide) (he : starEach (e :: es) X.env = (false, eval e X.env) :: starEach es X.env := by rfl) (hpl : (backTo pos' (starEach es X.env)).any (·.1) = false := by rfl) :
    PGn X k ch (.Call (.Name x p) (e :: es) [] pos') (tCallN sp dvs t) := by
  refine ⟨fun pins s σ H n item fin I h => ?_⟩
  refine wpAny_Call_Name_kw (ld_glob I hg hm ?_ hdb)
  refine PySem.W.callWith_K (h₀ := X.base) I.ok.mod.kin hk (GenW.wpAny_gsz (Nat.le_refl _) (wpAny_mono (ha.run pos' pins s σ H _ I h) (fun us s1 ⟨vs, H1, I1, r, q⟩ hsz => ⟨I1.kIn, ?_⟩) fun _ _ q _ => q)) he hpl
  have r2 : Vals (vs ++ dvs) (us ++ ds) := r.append hd
  have hl2 : (us ++ ds).length = ps.length := by rw [← r2.length]; exact F.len _ _ _ _ _ q
  refine wpAny_call (codeAny_mono (F.run X.A X.stack s1 H1 ⟨us, []⟩ (us ++ ds) (vs ++ dvs) n item fin hr I1.env0 (hb s1 us I1.kIn hl2) r2 q) fun r s' hq => ?_)
  cases r with
  | error e => exact False.elim hq
  | ok fl =>
    cases fl with
    | ret u =>
      exact ⟨H1, s1, I1, hsz, hq⟩
    | next => exact False.elim hq
    | brk => exact False.elim hq
    | cont => exact False.elim hq
end
/-- the state behind the call -/
theorem GMk.inv {X : Cx} {k : Nat} {ch : Prop} {pins : List (Addr × Obj)} {σ : L2.St} {H1 : Hp} {sc s1 : Shared} {n : Nat} {item : Nat → V → Hp → Prop} {fin : Nat → Hp → Prop} {u : Value} (I : Inv X pins σ H1 sc) (h : GMk X.prog X.w X.K X.mg X.base k ch X.stack H1 sc n item fin u s1) : Inv X pins σ H1 s1 := by
  obtain ⟨a, N, env, c, nd, _, _, _, _, hgs, hos, hk, _⟩ := h
  exact I.call' (ch := []) hos (Un.kept hk) (I.hok.kept hk) (by rw [hgs]; exact AllBare.push I.bare rfl) fun b z => by simp at z
end Wv
end WvH_part
section WvI_part
set_option Elab.async false
set_option linter.all false
set_option maxRecDepth 100000
set_option maxHeartbeats 1000000
/-! WvI: yield from over a generator: the turns. -/
namespace Wv
open PySem L2 PySem.Spec
open PyProof.Rows

theorem codeG_mono {M : Model} {W : Type} {A0 : Around} {g : Nat} {P : Prot W} {A : Around} {c : Code} {G G' : Result → Nat → W → Shared → Shared → Prop} {n : Nat} {w : W} {s0 s : Shared} (h : codeG M A0 g P A c G n w s0 s) (hG : ∀ r n w s0 s, G r n w s0 s → G' r n w s0 s) : codeG M A0 g P A c G' n w s0 s :=
  fun k l c1 p1 kp fs p e1 e2 e3 kG => h k l c1 p1 kp fs p e1 e2 e3 fun r n' w' s0' s' p' q => kG r n' w' s0' s' p' (hG _ _ _ _ _ q)
theorem close_gen : ∃ v, typeLookup (.type "generator") "close" = pure (some v) := ⟨.builtin "generator.close", by rw [typeLookup_type, builtinLookup_eq_fast]; kernel_rfl⟩

abbrev yfC (a : Addr) : Code := .builtin "proto.yield_from" ⟨[.ref a, .bool false, .none], []⟩
/-- the generator over which D sleeps -/
def GD.inner (D : GD) (N : List Str) (env : Env) (n0 : Nat) (a : Addr) (g : Nat) (item : Nat → V → Hp → Prop) (fin : Nat → Hp → Prop) : GD :=
  ⟨D.P, D.w, D.K, D.mg, D.base, N, env, D.A.in1.in1, D.env :: D.outer, n0, [a], g, Chain g, item, fin, False⟩
/-- it may be woken: m items are to come -/
structure Ready (D D' : GD) (a : Addr) (m : Nat) (H : Hp) (s : Shared) : Prop where
  obj : GenObj s.heap a D'.g
  ex : ∃ gs nd Hn sn, s.gens[D'.g]? = some gs ∧ Slp D' nd Hn sn H (s.setGen D'.g .running) ∧ ∀ w' s', Slp D' nd Hn sn w' s' → D'.g < s'.gens.size → WakeN D'.M D'.A0 D'.g D'.prot m w' gs s'

section
variable {D : GD} {N : List Str} {env : Env} {n0 : Nat} {a : Addr} {g : Nat} {item : Nat → V → Hp → Prop} {fin : Nat → Hp → Prop} {ip : List (Addr × Obj)} {σ : L2.St}
/-- D behind a turn of the inner one -/
theorem GJ.turned {w0 H H' : Hp} {s0 s s1 : Shared} (J : GJ D ip w0 s0 σ H s) (hn0 : D.env.locals < n0) (hpa : ∀ b ∈ D.pa, b < n0) (hip : ∀ p ∈ ip, p.1 < n0)
    (R : Rel (D.inner N env n0 a g item fin) H (s.setGen g .running) H' s1) : GJ D ip w0 s0 σ H' s1 := by
  have hsz : s.gens.size ≤ s1.gens.size := by
    have := R.mono
    rw [GenW.setGen_size] at this
    exact this
  refine J.of (Inv.behind J.inv n0 hn0 ?_ (fun x c e => ?_) (fun p hp => ?_) R.os R.un R.hok AllBare.empty) hsz
  · show (trunc D.n0 s0.heap).objs.size ≤ n0
    rw [trunc_size]
    exact Nat.le_trans (Nat.min_le_left _ _) (Nat.le_trans J.ok.above (Nat.le_of_lt hn0))
  · have e : D.env.cells.lookup x = some c := e
    rw [J.ok.cells] at e; cases e
  · have hp : p ∈ [] ++ (pinsAt D.pa s0.heap ++ ip) := hp
    rw [List.nil_append] at hp
    rcases List.mem_append.mp hp with hp | hp
    · exact hpa _ (of_pinsAt hp).1
    · exact hip p hp

theorem yf_turns {n2 : Nat} {nx : Hp → Prop} (hn0 : D.env.locals < n0) (hpa : ∀ b ∈ D.pa, b < n0) (hip : ∀ p ∈ ip, p.1 < n0) (hgg : D.g < g) (ha : n0 ≤ a) (hroom : D.A.depth < recursionLimit) (hch : ∀ G G', D.GR G G' → Chain D.g G G') (hby : ¬ D.bY)
    (hitem : ∀ m x H', item m x H' → D.item (m + n2) x H') (hfin : ∀ m H', fin m H' → m = 0 ∧ nx H') :
    ∀ (m n : Nat) (w0 : Hp) (s0 s : Shared), (n = m + n2 ∧ ∃ H, GJ D ip w0 s0 σ H s ∧ Ready D (D.inner N env n0 a g item fin) a m H s) →
      codeG D.M D.A0 D.g D.prot D.A.in1 (yfC a) (fun r n' w' s0' s' => r = .ok (.ret .none) ∧ n' = n2 ∧ ∃ H', GI D ip w' s0' σ H' s' ∧ nx H') n w0 s0 s := by
  intro m n w0 s0 s hst
  refine codeG_loop (plainId_quiet plain_yf _) (fun m n w0 s0 s => n = m + n2 ∧ ∃ H, GJ D ip w0 s0 σ H s ∧ Ready D (D.inner N env n0 a g item fin) a m H s) ?_ m hst
  clear hst s s0 w0 n m
  rintro m n w0 s0 s ⟨hn, H, J, R⟩
  rw [show D.M.den (yfC a) = _ from den_yf (X := D.X w0 s0)]
  have hh : D.A.handled = none := J.ok.hd
  obtain ⟨obj, gs, nd, Hn, sn, hgs, z, wk⟩ := R
  have hgs : s.gens[g]? = some gs := hgs
  have hgl : g < s.gens.size := (Array.getElem?_eq_some_iff.mp hgs).1
  have hal : a < s.heap.objs.size := let ⟨o, _, _, e, _⟩ := obj; Heap.lt_size e
  unfold Builtin.«proto.yield_from»
  try dsimp only
  refine wpG_bind (wpG_pure ?_)
  try dsimp only
  refine wpG_bind (wpG_of (wpS_attempt (wpS_holding ?_)))
  rw [if_neg Bool.false_ne_true, if_pos (show (Value.none == Value.none) = true from rfl)]
  refine wpS_bindA (wpAny_rule ?_)
  refine wpS_bind (nextS (A := D.A.in1) hh J.inv.nolimit hroom obj hgs (wk H _ z (by show g < _; rw [GenW.setGen_size]; exact hgl)) (fun v s1 gs1 hv => ?_) fun r s1 hr => ?_)
  · -- an item
    cases m with
    | zero => exact hv.elim
    | succ m =>
      obtain ⟨_, x, H1, nd1, rv, hit, rel, hnd, _, wk1⟩ := hv
      refine wpS_pure ?_
      try dsimp only
      have J1 := J.turned hn0 hpa hip rel
      have hH1a : H1 a = none := (rel.pa a (List.mem_singleton.mpr rfl)).2
      have obj1 : GenObj s1.heap a g := obj.at fun o e => ((rel.pa a (List.mem_singleton.mpr rfl)).1).trans e
      have hg1 : g < s1.gens.size := rel.gsz
      obtain ⟨cl, hcl⟩ := close_gen
      refine wpG_bindA (wpAny_typeOf (T := "generator") (GenObj.typeIs (s := s1.setGen g gs1) obj1) ?_)
      try dsimp only
      first
        | (refine wpG_bindA (wpAny_of_eq hcl ?_); refine wpG_bind (wpG_pure ?_))
        | refine wpG_bindA (wpAny_bind (wpAny_of_eq hcl (wpAny_pure ?_)))
      try dsimp only
      refine wpG_bindA (sleptOver_on (s := s1.setGen g gs1) obj1 fun h2 o2 ho2 hoc2 hod2 hos2 k2 => ?_)
      have ane : ∀ p, p ∈ nd1 → p.1 ≠ a := fun p hp q => (hnd p hp).2.2.2.1 (by rw [q]; exact List.mem_singleton.mpr rfl)
      have aloc : a ≠ D.env.locals := Nat.ne_of_gt (Nat.lt_of_lt_of_le hn0 ha)
      have trn : ∀ {w0 : Hp} {s0 s : Shared} {H : Hp} {h' : Heap}, GJ D ip w0 s0 σ H s → H a = none → (∀ b o, b ≠ a → s.heap.get? b = some o → h'.get? b = some o) → GJ D ip w0 s0 σ H { s with heap := h' } := fun {w0 s0 s H h'} J hHa k =>
        J.of (s' := { s with heap := h' }) (Inv.turned (it := a) (t' := s.toks) J.inv k hHa aloc (.inr (by
          show (trunc D.n0 s0.heap).objs.size ≤ a
          rw [trunc_size]
          exact Nat.le_trans (Nat.min_le_left _ _) (Nat.le_trans J.ok.above (Nat.le_trans (Nat.le_of_lt hn0) ha)))) (fun x c e => by have e : D.env.cells.lookup x = some c := e; rw [J.ok.cells] at e; cases e) fun p hp => by
            have hp : p ∈ [] ++ (pinsAt D.pa s0.heap ++ ip) := hp
            rw [List.nil_append] at hp
            rcases List.mem_append.mp hp with hp | hp
            · exact Nat.ne_of_lt (Nat.lt_of_lt_of_le (hpa _ (of_pinsAt hp).1) ha)
            · exact Nat.ne_of_lt (Nat.lt_of_lt_of_le (hip p hp) ha)) (Nat.le_refl _)
      have J1' : GJ D ip w0 s0 σ H1 (s1.setGen g gs1) := J1.of (s' := s1.setGen g gs1) J1.inv (by rw [GenW.setGen_size]; exact Nat.le_refl _)
      have J2 : GJ D ip w0 s0 σ H1 { s1.setGen g gs1 with heap := h2 } := trn J1' hH1a k2
      obtain ⟨n', rfl⟩ : ∃ n', n = n' + 1 := ⟨m + n2, by omega⟩
      refine wpG_bind (wpG_suspend (.inr ⟨a, _, _, o2, rfl, ho2, ?_⟩) ?_ (fun kap kap' => D.prot_mono kap kap') fun q => (hby q).elim)
      · obtain ⟨nm, qn, hd⟩ := hod2
        obtain ⟨c2, d2, dd2, sl2⟩ := o2
        dsimp only at hoc2 hd
        subst hoc2 hd
        first | rfl | decide | simp [Obj.genNumber?]
      have hn' : n' = m + n2 := by omega
      subst hn'
      refine ⟨x, H1, ndOwn D ip { s1.setGen g gs1 with heap := h2 } ++ (a, o2) :: nd1, rv, hitem m x H1 hit, J2.rel, fun p hp => ?_, fun q => (hby q).elim, fun w2 s2 z2 => ?_⟩
      · rcases List.mem_append.mp hp with hp | hp
        · exact J2.ndOk p hp
        · rcases List.mem_cons.mp hp with e | hp
          · rw [e]
            obtain ⟨nm, qn, hd⟩ := hod2
            refine ⟨ho2, hH1a, Nat.le_trans J.ok.above (Nat.le_trans (Nat.le_of_lt hn0) ha), fun hb => ?_, fun v hv => ?_⟩
            · exact absurd (Nat.lt_of_lt_of_le (hpa a hb) ha) (Nat.lt_irrefl _)
            · have hv : o2.data = .cell v := hv
              rw [hd] at hv; cases hv
          · obtain ⟨q1, q2, q3, q4, q5⟩ := hnd p hp
            have q3 : n0 ≤ p.1 := q3
            refine ⟨k2 _ _ (ane p hp) q1, q2, Nat.le_trans J.ok.above (Nat.le_trans (Nat.le_of_lt hn0) q3), fun hb => ?_, q5⟩
            exact absurd (Nat.lt_of_lt_of_le (hpa _ hb) q3) (Nat.lt_irrefl _)
      · -- woken again
        have J3 : GJ D ip w2 s2 σ w2 s2 := J2.wake (fun p hp => List.mem_append_left _ hp) z2
        obtain ⟨ea, fa⟩ := z2.nd (a, o2) (List.mem_append_right _ List.mem_cons_self)
        have ea : s2.heap.get? a = some o2 := ea
        have fa : w2 a = none := fa
        refine wpG_bindA (sleptOver_off ea hoc2 hod2 hos2 fun h4 obj4 ho4 k4 => ?_)
        have J4 : GJ D ip w2 s2 σ w2 { s2 with heap := h4 } := trn J3 fa k4
        try dsimp only
        refine wpG_bind (wpG_pure ?_)
        refine wpG_pure (.inl ⟨rfl, m, Nat.lt_succ_self _, rfl, w2, J4, obj4, gs1, nd1, H1, s1, ?_, ⟨z2.same, J4.inv.hok, fun p hp => ?_, fun b hb => ?_, J4.inv.bs, J4.inv.stack, J4.inv.stkFree, ?_⟩, fun w' s' z _ => wk1 w' s' z⟩)
        · show s2.gens[g]? = some gs1
          rcases (hch _ _ z2.gens).2 g gs1 (setGen_at hg1) with q | ⟨q, _⟩
          · exact q
          · exact absurd (Nat.lt_of_lt_of_le hgg q) (Nat.lt_irrefl _)
        · obtain ⟨q1, q2⟩ := z2.nd p (List.mem_append_right _ (List.mem_cons_of_mem _ hp))
          exact ⟨k4 _ _ (ane p hp) q1, q2⟩
        · have hb : b = a := List.mem_singleton.mp hb
          subst hb
          exact ⟨fa, ho4⟩
        · exact Chain.inner (s2 := { s2 with heap := h4 }) hgg rfl (hch _ _ z2.gens)
  · -- its end
    obtain ⟨hres, H1, rel, hbare, hq⟩ := hr
    obtain ⟨hm, hq2⟩ := hfin m H1 hq
    subst hm
    refine ⟨hres, fun e h' hS k => ?_⟩
    obtain ⟨a1, o, vs, rfl, hoa, hcls, hdat, h5⟩ := hS
    have J1 := J.turned hn0 hpa hip rel
    have J1' : GJ D ip w0 s0 σ H1 { s1.setGen g .finished with heap := h' } := J1.of (s' := { s1.setGen g .finished with heap := h' }) (Inv.kept (t' := s1.toks) J1.inv k) (by show s1.gens.size ≤ (s1.setGen g .finished).gens.size; rw [GenW.setGen_size]; exact Nat.le_refl _)
    have I1 : GI D ip w0 s0 σ H1 { s1.setGen g .finished with heap := h' } := { J1' with bare := allBare_setGen (s := s1) hbare rfl }
    try dsimp only
    refine wpG_bindA (wpAny_endsTurn hoa hcls ?_)
    try dsimp only
    rw [if_pos rfl]
    first
      | refine wpG_bindA (wpAny_rule ?_)
      | (rw [if_neg Bool.false_ne_true]; refine wpG_bindA (wpAny_rule ?_))
      | (rw [if_neg Bool.false_ne_true]; refine wpG_bind (wpG_pure ?_); refine wpG_bindA (wpAny_rule ?_))
    refine wpG_bindA (wpAny_field hoa hdat h5 ?_)
    exact wpG_pure ⟨rfl, by omega, H1, I1, hq2⟩
end

def tGFromN (D : GD) (tg : TGen) : TGn := fun E n σ H => ∃ cnt n2, n = cnt + n2 ∧ tg σ H cnt (fun m x H' => D.item (m + n2) x H') (fun m H' => m = 0 ∧ E.nx n2 σ H')
theorem gs_yieldFromN {D : GD} {k : Nat} {ch : Prop} {e : Expr} {yp pos : Pos} {tg : TGen} (he : ∀ w0 s0, PGn (D.X w0 s0) k ch e tg) (hr : Room (k + 1) D.A) (hch : ∀ G G', D.GR G G' → Chain D.g G G') (hby : ¬ D.bY) (hi : interactive D.env = false := by rfl) :
    GS D (.Expr (.YieldFrom e yp) pos) (tGFromN D tg) := by
  refine ⟨fun c ip n w0 s0 s σ H E I ht => ?_⟩
  obtain ⟨cnt, n2, rfl, ht⟩ := ht
  rw [exec_Expr D.env _ pos hi rfl]
  refine wpG_bind (wpG_at ?_)
  show wpG _ _ _ _ _ c ((eval e D.env >>= fun v => (standAt yp >>= fun _ => yieldFrom D.env v)) >>= fun x => dropValue (.YieldFrom e yp) pos x) _ _ w0 s0 s
  refine wpG_bind (wpG_bindA (GenW.wpAny_gsz (Nat.le_refl _) (wpAny_mono ((he w0 s0).run _ s σ H _ _ _ I.full ht) (fun u s1 q hs1 => ?_) fun _ _ q => q.elim)))
  obtain ⟨H1, sc, Ic, hsc, G⟩ := q
  have I1 : GI D ip w0 s0 σ H1 s1 := I.of (GMk.inv Ic G) hs1
  have Isc : L2.Inv (D.X w0 s0) (pinsAt D.pa s0.heap ++ ip) σ H1 sc := Ic
  obtain ⟨a, N, env, c', nd, rfl, ha1, ha2, hgen, hgs, hos, hk, hnd, wk⟩ := G
  have hne : ¬ ((Value.type "generator" == Value.type "coroutine") = true) := by decide
  refine wpG_bind (wpG_at ?_)
  unfold yieldFrom
  refine wpG_bindA (wpAny_typeOf hgen.typeIs ?_)
  rw [if_neg hne]
  refine wpG_bindA (wpAny_holding (wpAny_pyIter_gen hgen ?_))
  unfold runValue
  have hlocsc : D.env.locals < sc.heap.objs.size := Isc.lt
  have pinsc : ∀ p ∈ pinsAt D.pa s0.heap ++ ip, p.1 < sc.heap.objs.size := fun p hp => Heap.lt_size (Isc.pin p (List.mem_append_right _ hp)).1
  have hpa : ∀ b ∈ D.pa, b < sc.heap.objs.size := fun b hb => let ⟨o, ho⟩ := I.pas b hb; pinsc (b, o) (List.mem_append_left _ (mem_pinsAt hb ho))
  have hgg : D.g < sc.gens.size := Nat.lt_of_lt_of_le I.gsz hsc
  have hfr : D.A.in1.in1.frames = some (D.env :: D.outer) := Around.frames_deeper I.ok.frames
  have hrm : Room k D.A.in1.in1 := ⟨hr.hd, by have := hr.dp; show D.A.depth + 3 * k + 5 < _; omega, by have := hr.un; show D.A.units + 1 + 1 + 16 * k + 200 < _; omega⟩
  refine wpG_bind (wpG_run (A' := D.A.in1) (fun fs k l p h => by rw [over_under, h]; exact Around.under_plainId plain_yf _) (codeG_mono (yf_turns (N := N) (env := env) (n0 := sc.heap.objs.size) (a := a) (g := sc.gens.size) (item := fun m x H' => D.item (m + n2) x H') (fin := fun m H' => m = 0 ∧ E.nx n2 σ H') (n2 := n2) (nx := fun H' => E.nx n2 σ H')
    hlocsc hpa (fun p hp => pinsc p (List.mem_append_right _ hp)) hgg ha1 (by have := hr.dp; omega) hch hby (fun _ _ _ q => q) (fun _ _ q => q) cnt _ w0 s0 s1 ⟨rfl, H1, I1.toGJ, .of_isGen hgen, .fresh c', nd, H1, s1, ?_, ⟨Same.refl _, I1.inv.hok, fun p hp => ?_, fun b hb => ?_, I1.inv.bs, I1.inv.stack, I1.inv.stkFree, Chain.run⟩, ?_⟩) fun r n' w' s0' s' q => ?_))
  · rw [hgs]; exact Array.getElem?_push_size ..
  · obtain ⟨q1, q2, _⟩ := hnd p hp
    exact ⟨q1, q2⟩
  · have hb : b = a := List.mem_singleton.mp hb
    subst hb
    obtain ⟨o, nm, qn, h1, _, h3, _⟩ := hgen
    exact ⟨Isc.hok.fresh ha1, o, h1, fun v q => by rw [h3] at q; cases q⟩
  · intro w' s' z hg
    exact wk D.A.in1.in1 [a] (Chain sc.gens.size) False hrm hfr (fun b hb => .inl (List.mem_singleton.mp hb)) (fun G G' h c => c.bare h) (fun G G' c h => c.sz h) (fun _ => ⟨fun G G' h => h, fun q => q⟩) w' s' z hg
  · obtain ⟨rfl, rfl, H', I', q⟩ := q
    refine wpG_pure ?_
    rw [dropValue_plain (fun a q => by cases q)]
    exact wpG_pure ⟨σ, H', I', q⟩
end Wv
end WvI_part
section WvJ_part
set_option Elab.async false
set_option linter.all false
set_option maxRecDepth 100000
set_option maxHeartbeats 1000000
/-! WvJ: list(g) over a generator that may sleep over others. -/
namespace Wv
open PySem L2 PySem.Spec
open PyProof.Rows
theorem wpS_else {M : Model} {α : Type} {A : Around} {c : Prop} [Decidable c] {t u : Sem α} {Q : α → Shared → Prop} {E : Value → Shared → Prop} {s : Shared} (hc : ¬ c) (h : wpS M A u Q E s) : wpS M A (if c then t else u) Q E s := by rw [if_neg hc]; exact h
theorem den_builtin {P : Program} {w : World} {id : String} {args : Args} {b : Builtin} (h : entryFor table id = some b) : (model P w).den (.builtin id args) = b args := by
  show (match entryFor table id with | some b => b args | none => unsupported ((withoutEnding? id "#data").getD id)) = _
  rw [h]
theorem callTypeS {P : Program} {w : World} {A : Around} {E : Value → Shared → Prop} {s : Shared} {T newId initId : String} {Bi : Builtin} {args : List Value} {Q Q₁ : Value → Shared → Prop} (ft : TypeCalled T newId initId)
    (hct : checkTypeCall T ⟨args, []⟩ = pure ()) (entryI : entryFor table initId = some Bi)
    (hnew : codeAny (model P w) A.in1 (.call (.builtin newId) ⟨.type T :: args, []⟩) (wants Q₁ E) s)
    (hnext : ∀ obj s₁, Q₁ obj s₁ → s₁.TypeIs obj T ∧ argsOk initId ⟨obj :: args, []⟩ ∧
      wpS (model P w) A.in1.in1 (Bi ⟨obj :: args, []⟩)
        (fun fin s' => match fin with | .done f => wants (fun r s₂ => r = .none ∧ Q obj s₂) E (.ok f) s' | .again c' => c'.quiet = true ∧ codeS (model P w) A.in1 c' (wants (fun r s₂ => r = .none ∧ Q obj s₂) E) s')
        (fun e s' => wants (fun r s₂ => r = .none ∧ Q obj s₂) E (.error e) s') s₁) :
    wpS (model P w) A (call (.type T) args) Q E s := by
  obtain ⟨c, tl, hmro⟩ := ft.mro
  have hmade := ft.made
  have hsub := ft.sub
  have h1 := ft.notType
  have h2 := ft.canCreate
  refine wpS_call (codeS_of_tree ?_)
  show wpS _ A.in1 (callAny (.type T) _) _ _ _
  refine wpS_pure ⟨Code.quiet_builtin _ (by decide +kernel), codeS_of_tree ?_⟩
  rw [Around.under_plain (weight_type_call_type T args []) rfl, den_builtin F.entry_type_call]
  unfold Builtin.«type.__call__»
  dsimp only
  rw [h1, if_neg Bool.false_ne_true]
  refine wpS_else (by rw [h2]; exact Bool.false_ne_true) ?_
  refine wpS_bindA (wpAny_of_eq hct ?_)
  refine wpS_bindA (wpAny_of_eq hmro ?_)
  refine wpS_else (by simp) ?_
  refine wpS_bindA (wpAny_of_eq hmade ?_)
  refine wpS_bind (wpS_pure ?_)
  refine wpS_bindA (wpAny_holding (wpAny_call (codeAny_mono hnew fun r s₁ hr => ?_)))
  cases r with
  | error e => exact hr
  | ok fl =>
    cases fl with
    | next => exact hr.elim
    | brk => exact hr.elim
    | cont => exact hr.elim
    | ret obj =>
      obtain ⟨hT, hok, hsi⟩ := hnext _ _ hr
      refine wpS_bindA (wpAny_isInstance (T := T) (b := true) hT hsub ?_)
      refine wpS_else (by simp) ?_
      refine wpS_bind (wpS_holding ?_)
      simp only [callSpecial?]
      refine wpS_bindA (wpAny_specialOf hT ft.init.lookup ?_)
      simp only [ft.init.bind]
      refine wpS_holding (wpS_bind (wpS_pure (wpS_bind ?_)))
      refine wpS_call (codeS_mono (G := wants (fun r s₂ => r = .none ∧ Q obj s₂) E) (codeS_call_builtin ft.init.plain entryI (ft.init.check _ _ _ _ _ _ _ _ hT hok hsi)) fun r₂ s₂ hr₂ => ?_)
      cases r₂ with
      | error e => exact hr₂
      | ok fl₂ =>
        cases fl₂ with
        | ret r =>
          obtain ⟨rfl, hq⟩ := hr₂
          refine wpS_pure ?_
          dsimp only
          rw [if_neg (by decide)]
          exact wpS_pure hq
        | next => exact hr₂.elim
        | brk => exact hr₂.elim
        | cont => exact hr₂.elim

section
variable {P : Program} {w : World} {A : Around} {E : Value → Shared → Prop} {s : Shared}
theorem pyNextS {a : Addr} {g : Nat} {gs : GenState} {Rr : Result → Shared → Prop} {Yy : Value → Shared → GenState → Prop} {Q : Option Value → Shared → Prop} (hh : A.handled = none) (hl : s.heap.NoLimit) (hroom : A.depth < recursionLimit)
    (hg : GenObj s.heap a g) (hgs : s.gens[g]? = some gs) (hw : WakeX (model P w) A.in1 g Rr Yy gs (s.setGen g .running)) (hY : ∀ v s' gs', Yy v s' gs' → Q (some v) (s'.setGen g gs'))
    (hR : ∀ r s', Rr r s' → (r = .ok (.ret .none) ∨ r = .ok .next) ∧ ∀ h', (∀ b o, s'.heap.get? b = some o → h'.get? b = some o) → Q none { s'.setGen g .finished with heap := h' }) :
    wpS (model P w) A (pyNext (.ref a)) Q E s := by
  unfold pyNext
  refine wpS_bind (wpS_attempt (nextS hh hl hroom hg hgs hw (fun v s' gs' hv => ?_) fun r s' hr => ?_))
  · exact wpS_pure (hY v s' gs' hv)
  · obtain ⟨h1, h2⟩ := hR r s' hr
    refine ⟨h1, fun e h' hS k => ?_⟩
    obtain ⟨a1, o, vs, rfl, hoa, hcls, _, _⟩ := hS
    refine wpS_bindA (wpAny_isInstance (T := "StopIteration") (b := true) ⟨o, hoa, hcls⟩ isSubtype_stop ?_)
    exact wpS_pure (h2 h' k)
end

/-- an untracked object, younger than the entry, is tracked now -/
theorem Inv.track {X : Cx} {pins : List (Addr × Obj)} {σ : L2.St} {H : Hp} {s : Shared} {S : Addr} {o : HO} (I : Inv X pins σ H s) (hS : H S = none) (h1 : X.s_0.heap.objs.size ≤ S) (h2 : S ≠ X.env.locals) (h3 : ∀ x c, X.env.cells.lookup x = some c → c ≠ S) (h4 : ∀ p ∈ X.pn ++ pins, p.1 ≠ S)
    (new : ObjOk X.prog X.w (upd H S o) s.heap S o) : Inv X pins σ (upd H S o) s := by
  have ne : ∀ b, b ∉ [S] → b ≠ S := fun b hb e => hb (by rw [e]; exact List.mem_singleton.mpr rfl)
  refine I.step (g' := s.gens) (t' := s.toks) (d' := s.drawn) (h' := s.heap) (ch := [S]) (fun b hb => ?_) (fun b ob _ _ _ q _ => q) (fun b ob _ _ _ q _ => ⟨ob.slots, q⟩) (fun b ob hb _ n => by rw [upd_ne (ne b hb)]; exact n) (fun b ob _ q => ⟨ob, q⟩)
    (fun b xs q => by rw [upd_ne (ne_of_none q hS)]; exact q) (fun b ob u q => by rw [upd_ne (ne_of_none q hS)]; exact q) (fun b ps q => ⟨#[], by rw [upd_ne (ne_of_none q hS), q]; simp⟩) (fun m hm => hm) (fun b u q => ?_) I.bare
  · rw [List.mem_singleton.mp hb]
    exact ⟨.inr h1, h2, h3, h4⟩
  · by_cases hb : b = S
    · subst hb
      rw [upd_same] at q; cases q; exact new
    · rw [upd_ne hb] at q
      exact (I.hok b u q).stay (fun _ _ _ z => z) (fun d z => by rw [upd_ne (ne_of_none z hS)]; exact z) fun d xs z => by rw [upd_ne (ne_of_none z hS)]; exact z

/-- what is told of an item holds on while tuples stay -/
def Stable (item : Nat → V → Hp → Prop) : Prop := ∀ m x H H', (∀ b xs, H b = some (.tup xs) → H' b = some (.tup xs)) → item m x H → item m x H'
/-- all items, in order -/
def Got (n : Nat) (item : Nat → V → Hp → Prop) (ys : List V) (H : Hp) : Prop := ∀ i x, ys[i]? = some x → item (n - 1 - i) x H

section
variable {X : Cx} {pins : List (Addr × Obj)} {σ : L2.St} {E : Value → Shared → Prop}
abbrev exC (S a : Addr) : Code := .builtin "list.extend.loop" ⟨[.ref S, .ref a, .none], []⟩
def DrainI (X : Cx) (pins : List (Addr × Obj)) (σ : L2.St) (N : List Str) (env : Env) (n0 n g : Nat) (a S : Addr) (item : Nat → V → Hp → Prop) (fin : Nat → Hp → Prop) (A : Around) (m : Nat) (s : Shared) : Prop :=
  ∃ H acc c ys, Inv X pins σ H { s with gens := #[] } ∧ s.heap.get? S = some (lstObj acc c) ∧ H S = none ∧ Vals ys acc.toList ∧ ys.length + m = n ∧ Got n item ys H ∧ GenObj s.heap a g ∧
      ∃ gs nd Hn sn, s.gens[g]? = some gs ∧ Slp ⟨X.prog, X.w, X.K, X.mg, X.base, N, env, A.in1.in1, X.stack, n0, [a, S], g, Chain g, item, fin, False⟩ nd Hn sn H (s.setGen g .running) ∧
        ∀ w' s', Slp ⟨X.prog, X.w, X.K, X.mg, X.base, N, env, A.in1.in1, X.stack, n0, [a, S], g, Chain g, item, fin, False⟩ nd Hn sn w' s' → g < s'.gens.size →
          WakeN (model X.prog X.w) A.in1.in1 g (GD.prot ⟨X.prog, X.w, X.K, X.mg, X.base, N, env, A.in1.in1, X.stack, n0, [a, S], g, Chain g, item, fin, False⟩) m w' gs s'
theorem drainS {N : List Str} {env : Env} {n0 n g : Nat} {a S : Addr} {item : Nat → V → Hp → Prop} {fin : Nat → Hp → Prop} {A : Around} {R : Result → Shared → Prop} (hst : Stable item) (hn : n ≤ sizeLine) (hh : A.handled = none) (hroom : A.depth < recursionLimit)
    (hloc : X.env.locals < n0) (hs0 : X.s_0.heap.objs.size ≤ n0) (hcl : ∀ x c, X.env.cells.lookup x = some c → c < n0) (hpn : ∀ p ∈ X.pn ++ pins, p.1 < n0) (ha : n0 ≤ a) (hS : n0 ≤ S) (hSa : S ≠ a)
    (hfz : ∀ m H, fin m H → m = 0) (hend : ∀ s' H' ys, Inv X pins σ (upd H' S (.lst ys)) s' → H' S = none → ys.length = n → Got n item ys H' → fin 0 H' → R (.ok (.ret .none)) s') :
    ∀ (m : Nat) (s : Shared), DrainI X pins σ N env n0 n g a S item fin A m s →
      codeS (model X.prog X.w) A (exC S a) R s := by
  intro m s hI
  refine codeS_loop (plainId_quiet F.plain_extend_loop _) (DrainI X pins σ N env n0 n g a S item fin A) ?_ m hI
  clear hI s m
  rintro m s ⟨H, acc, c, ys, J, hSo, hSn, rv, hlen, got, obj, gs, nd, Hn, sn, hgs, z, wk⟩
  have hgl : g < s.gens.size := (Array.getElem?_eq_some_iff.mp hgs).1
  rw [Around.under_plainId F.plain_extend_loop _, den_builtin F.entry_extend_loop]
  unfold Builtin.«list.extend.loop»
  dsimp only
  have behind : ∀ {H' : Hp} {s1 : Shared}, Rel ⟨X.prog, X.w, X.K, X.mg, X.base, N, env, A.in1.in1, X.stack, n0, [a, S], g, Chain g, item, fin, False⟩ H (s.setGen g .running) H' s1 → Inv X pins σ H' { s1 with gens := #[] } := fun {H' s1} r =>
    Inv.behind J n0 hloc hs0 hcl hpn r.os r.un r.hok AllBare.empty
  refine wpS_bind (pyNextS (A := A.in1) hh J.nolimit hroom obj hgs (wk H _ z (by rw [GenW.setGen_size]; exact hgl)) (fun v s1 gs1 hv => ?_) fun r s1 hr => ?_)
  · cases m with
    | zero => exact hv.elim
    | succ m =>
      obtain ⟨_, x, H1, nd1, rx, hit, rel, hnd, _, wk1⟩ := hv
      have J1 := behind rel
      obtain ⟨pS1, pS2⟩ := rel.pa S (by simp)
      obtain ⟨pa1, pa2⟩ := rel.pa a (by simp)
      have hSo1 : s1.heap.get? S = some (lstObj acc c) := pS1.trans hSo
      have obj1 : GenObj s1.heap a g := obj.at fun o e => pa1.trans e
      have hg1 : g < s1.gens.size := rel.gsz
      have hlacc : acc.size = ys.length := by
        have e1 := rv.length
        have e2 : acc.toList.length = acc.size := by simp
        omega
      show wpS _ A.in1 (Builtin.List.listUpdate (.ref S) (·.push v) >>= fun _ => again (exC S a)) _ _ _
      refine wpS_bindA ?_
      show wpAny _ A.in1 (updateSeq S (·.push v)) _ _ (s1.setGen g gs1)
      refine wpAny_updateSeq (s := s1.setGen g gs1) hSo1 rfl (wpS_pure ?_) (by show acc.size ≤ sizeLine; omega) (by show (acc.push v).size ≤ sizeLine + 1; rw [Array.size_push]; omega)
      have k : ∀ b o, b ≠ S → s1.heap.get? b = some o → (s1.heap.update S (Obj.mapSeq (·.push v))).get? b = some o := fun b o hb e => (Heap.get?_update_other _ _ (Ne.symm hb)).trans e
      have hS2 := Heap.get?_update_self (Obj.mapSeq (·.push v)) hSo1 rfl
      have J2 : Inv X pins σ H1 { s1 with gens := #[], heap := s1.heap.update S (Obj.mapSeq (·.push v)) } := Inv.turned (it := S) (t' := s1.toks) J1 k pS2 (Nat.ne_of_gt (Nat.lt_of_lt_of_le hloc hS)) (.inr (Nat.le_trans hs0 hS)) (fun x c e => Nat.ne_of_lt (Nat.lt_of_lt_of_le (hcl x c e) hS)) fun p hp => Nat.ne_of_lt (Nat.lt_of_lt_of_le (hpn p hp) hS)
      refine .inl ⟨rfl, m, Nat.lt_succ_self _, H1, acc.push v, _, ys ++ [x], J2, hS2, pS2, ?_, ?_, ?_, obj1.at fun o e => k a o (Ne.symm hSa) e, gs1, nd1, H1, s1, ?_, ⟨Same.refl _, J2.hok, fun p hp => ?_, fun b hb => ?_, J2.bs, J2.stack, J2.stkFree, ?_⟩, fun w' s' z _ => wk1 w' s' z⟩
      · rw [Array.toList_push]; exact rv.append (.cons rx .nil)
      · rw [List.length_append, List.length_singleton]; omega
      · intro i y e
        by_cases hi : i < ys.length
        · rw [List.getElem?_append_left hi] at e
          exact hst _ _ _ _ (fun b xs q => rel.un.tups b xs q) (got i y e)
        · have hi' : i = ys.length := by
            have := (List.getElem?_eq_some_iff.mp e).1
            rw [List.length_append, List.length_singleton] at this
            omega
          subst hi'
          rw [List.getElem?_append_right (Nat.le_refl _), Nat.sub_self] at e
          cases e
          have : n - 1 - ys.length = m := by omega
          rw [this]; exact hit
      · exact setGen_at hg1
      · obtain ⟨q1, q2, q3, q4, _⟩ := hnd p hp
        refine ⟨k _ _ (fun e => q4 (by show p.1 ∈ [a, S]; rw [e]; simp)) q1, q2⟩
      · have hb : b ∈ [a, S] := hb
        rcases List.mem_cons.mp hb with e | hb
        · subst e
          obtain ⟨o, nm, qn, h1, _, h3, _⟩ := obj1.at (h' := s1.heap.update S (Obj.mapSeq (·.push v))) fun o e => k b o (Ne.symm hSa) e
          exact ⟨pa2, o, h1, fun v q => by rw [h3] at q; cases q⟩
        · have e := List.mem_singleton.mp hb
          subst e
          exact ⟨pS2, _, hS2, fun v q => by cases q⟩
      · refine ⟨?_, fun i y e => ?_⟩
        · show ((s1.setGen g gs1).setGen g .running).gens.size = _
          rw [GenW.setGen_size, GenW.setGen_size]
        · by_cases q : i = g
          · subst q
            refine .inr ⟨Nat.le_refl _, setGen_at (s := s1.setGen i gs1) ?_⟩
            rw [GenW.setGen_size]; exact hg1
          · left
            show ((s1.gens.setIfInBounds g _).setIfInBounds g _)[i]? = some y
            rw [Array.getElem?_setIfInBounds_ne (Ne.symm q), Array.getElem?_setIfInBounds_ne (Ne.symm q)]; exact e
  · obtain ⟨hres, H1, rel, hbare, hq⟩ := hr
    have hm := hfz m H1 hq
    subst hm
    refine ⟨hres, fun h' k => ?_⟩
    have J1 := behind rel
    obtain ⟨pS1, pS2⟩ := rel.pa S (by simp)
    have hSo1 : s1.heap.get? S = some (lstObj acc c) := pS1.trans hSo
    have J2 : Inv X pins σ H1 { s1.setGen g .finished with heap := h' } := Inv.regens (s := { s1 with gens := #[], heap := h' }) (Inv.kept (t' := s1.toks) J1 k) (allBare_setGen (s := s1) hbare rfl)
    have hlen' : ys.length = n := by omega
    refine wpS_pure (hend _ H1 ys (Inv.track J2 pS2 (Nat.le_trans hs0 hS) (Nat.ne_of_gt (Nat.lt_of_lt_of_le hloc hS)) (fun x c e => Nat.ne_of_lt (Nat.lt_of_lt_of_le (hcl x c e) hS)) (fun p hp => Nat.ne_of_lt (Nat.lt_of_lt_of_le (hpn p hp) hS)) ?_) pS2 hlen' ?_ hq)
    · exact ⟨by rw [hlen']; exact hn, acc.toList, c, rv, k _ _ hSo1⟩
    · intro i y e
      exact hst _ _ _ _ (fun b xs q => rel.un.tups b xs q) (got i y e)
end
end Wv
end WvJ_part
section WvK_part
set_option Elab.async false
set_option linter.all false
set_option maxRecDepth 100000
set_option maxHeartbeats 1000000
/-! WvK: expressions, tests, statements whose run may go over such generators. -/
namespace Wv
open PySem L2 PySem.Spec
open PyProof.Rows

structure PES (X : Cx) (e : Expr) (t : TE) : Prop where
  run : ∀ (pins : List (Addr × Obj)) (s : Shared) (σ : L2.St) (H : Hp) (Q : VK), Inv X pins σ H s → t σ H Q → wpS (model X.prog X.w) X.A (eval e X.env) (EP X pins σ Q) X.xe s
structure PTS (X : Cx) (e : Expr) (t : TT) : Prop where
  run : ∀ (pins : List (Addr × Obj)) (s : Shared) (σ : L2.St) (H : Hp) (Q : Bool → Hp → Prop), Inv X pins σ H s → t σ H Q → wpS (model X.prog X.w) X.A (isTrue e X.env (eval e X.env)) (TP X pins σ Q) X.xe s
structure PSS (X : Cx) (st : Stmt) (t : TS) : Prop where
  run : ∀ (pins : List (Addr × Obj)) (s : Shared) (σ : L2.St) (H : Hp) (D : L2.Ends), Inv X pins σ H s → t D σ H → wpS (model X.prog X.w) X.A (exec st X.env) (SP X pins D) X.xe s
structure PSSs (X : Cx) (st : List Stmt) (t : TS) : Prop where
  run : ∀ (pins : List (Addr × Obj)) (s : Shared) (σ : L2.St) (H : Hp) (D : L2.Ends), Inv X pins σ H s → t D σ H → wpS (model X.prog X.w) X.A (execs st X.env) (SP X pins D) X.xe s

section
variable {X : Cx}
theorem thnS {α : Type} {t : Sem α} {Q Q' : α → Shared → Prop} {M : Model} {A : Around} {E : Value → Shared → Prop} {s : Shared} (h : wpS M A t Q E s) (hQ : ∀ a s, Q a s → Q' a s) : wpS M A t Q' E s := wpS_mono h hQ fun _ _ x => x
theorem pes_of {e : Expr} {t : TE} (h : PE X e t) : PES X e t := ⟨fun pins s σ H Q I q => wpS_of (h.run pins s σ H Q I q)⟩
theorem pts_of {e : Expr} {t : TT} (h : PT X e t) : PTS X e t := ⟨fun pins s σ H Q I q => wpS_of (h.run pins s σ H Q I q)⟩
theorem pss_of {e : Stmt} {t : TS} (h : PS X e t) : PSS X e t := ⟨fun pins s σ H Q I q => wpS_of (h.run pins s σ H Q I q)⟩
theorem psss_of {e : List Stmt} {t : TS} (h : PSs X e t) : PSSs X e t := ⟨fun pins s σ H Q I q => wpS_of (h.run pins s σ H Q I q)⟩

/-! ### calls -/
theorem callWithS_type {M : Model} {A : Around} {E : Value → Shared → Prop} {s : Shared} {pos : Pos} {T : String} {e : Expr} {rest : List Expr} {env : Env} {Q : Value → Shared → Prop}
    (h : wpAny M A (spliced (backTo pos (starEach (e :: rest) env))) (fun vs s₁ => wpS M A (call (.type T) vs) Q E s₁) E s)
    (he : starEach (e :: rest) env = (false, eval e env) :: starEach rest env := by rfl)
    (hplain : (backTo pos (starEach rest env)).any (·.1) = false := by rfl) :
    wpS M A (callWith pos (.type T) [] (backTo pos (starEach (e :: rest) env)) []) Q E s := by
  rw [he] at h ⊢
  unfold callWith
  have hp : (backTo pos ((false, eval e env) :: starEach rest env)).any (·.1) = false := by show (false || (backTo pos (starEach rest env)).any (·.1)) = false; rw [hplain]; rfl
  refine wpS_bindA (wpAny_holding (wpAny_mono (Calls.evalArgs_plain (Q := fun a s₁ => wpS M A (call (.type T) a.pos a.kw) Q E s₁) h) (fun a s₁ h₁ => wpS_bind (wpS_at ?_)) fun _ _ x => x))
  simp only [hp, List.any_nil, Bool.or_false]
  refine wpS_bind (wpS_pure ?_)
  exact wpS_bind (wpS_mono h₁ (fun r s₂ hr => wpS_of (wpAny_bind (wpAny_holding (wpAny_point (wpAny_pure hr))))) fun _ _ x => x)
theorem callWithS_K {M : Model} {A : Around} {E : Value → Shared → Prop} {s : Shared} {pos : Pos} {K : PySem.W.Frag} {f : Value} {e : Expr} {rest : List Expr} {env : Env} {Q : Value → Shared → Prop} (hk : PySem.W.keepIn K f = true)
    (h : wpAny M A (spliced (backTo pos (starEach (e :: rest) env))) (fun vs s₁ => K.In s₁.heap ∧ wpS M A (call f vs) Q E s₁) E s)
    (he : starEach (e :: rest) env = (false, eval e env) :: starEach rest env := by rfl)
    (hplain : (backTo pos (starEach rest env)).any (·.1) = false := by rfl) :
    wpS M A (callWith pos f [] (backTo pos (starEach (e :: rest) env)) []) Q E s := by
  rw [he] at h ⊢
  unfold callWith
  have hp : ((backTo pos ((false, eval e env) :: starEach rest env)).any (·.1) || ([] : List (Option Str × Sem Value)).any (·.1.isNone)) = false := by
    show ((false || (backTo pos (starEach rest env)).any (·.1)) || false) = false
    rw [hplain]; rfl
  refine wpS_bindA (wpAny_holding (wpAny_mono (Calls.evalArgs_plain (Q := fun a s₁ => K.In s₁.heap ∧ wpS M A (call f a.pos a.kw) Q E s₁) h) (fun a s₁ h₁ => wpS_bind (wpS_at ?_)) fun _ _ x => x))
  obtain ⟨k, hk', L⟩ := PySem.W.keeps_K (M := M) hk _ h₁.1
  simp only [hp]
  refine wpS_bindA (L.here ?_)
  have tail : ∀ {t : Sem Value}, wpS M A t Q E s₁ → wpS M A (t >>= fun r => holding [r] point >>= fun _ => pure r) Q E s₁ :=
    fun ht => wpS_bind (wpS_mono ht (fun r s₂ hr => wpS_of (wpAny_bind (wpAny_holding (wpAny_point (wpAny_pure hr))))) fun _ _ x => x)
  have marked (mk : Value) : wpS M A (callMarked mk f a.pos a.kw) Q E s₁ := by unfold callMarked; exact wpS_keep h₁.2
  rcases hk' with rfl | rfl | rfl <;> dsimp only <;> first | exact tail h₁.2 | (split <;> first | exact tail h₁.2 | exact tail (marked _))

/-- list(g) -/
def tListN (tg : TGen) : TE := fun σ H Q => ∃ n item fin, n ≤ sizeLine ∧ Stable item ∧ (∀ m H, fin m H → m = 0) ∧ tg σ H n item fin ∧ ∀ p ys H', H' p = none → ys.length = n → Got n item ys H' → fin 0 H' → Q (.ref p) (upd H' p (.lst ys))
theorem pes_listN {e : Expr} {tg : TGen} {k : Nat} {ch : Prop} {nm : Str} {p pos : Pos} (h : PGn X k ch e tg) (hr : Room (k + 1) X.A) (hg : Gl X nm) (hmg : X.mg nm = none) (hv : bootBuiltins nm = some (.type "list")) (hnm : nm ≠ "__name__" := by decide) (hdb : (nm == ("__debug__" : Str)) = false := by decide)
    (he : starEach [e] X.env = (false, eval e X.env) :: starEach [] X.env := by rfl) : PES X (.Call (.Name nm p) [e] [] pos) (tListN tg) := by
  refine ⟨fun pins s σ H Q I hq => ?_⟩
  obtain ⟨n, item, fin, hn, hst, hfz, hq, hQ⟩ := hq
  rw [arm_eval_Call_Name']
  refine wpS_bindA (ld_blt I hg hmg hv ?_ hnm hdb)
  refine callWithS_type ?_ he rfl
  rw [he]
  show wpAny _ _ (spliced ((false, eval e X.env) :: backTo pos (starEach [] X.env))) _ _ s
  refine Calls.spliced_cons (thn (h.run pins s σ H _ _ _ I hq) fun u s1 ⟨H1, sc, Isc, hgsz, hG⟩ => ?_)
  refine Calls.spliced_nil ?_
  have I1 := GMk.inv Isc hG
  obtain ⟨a, N, env, c', nd, rfl, ha1, ha2, hgen, hgs, hos, hkp, hnd, wk⟩ := hG
  have hl := I1.nolimit
  have hSa : s1.heap.objs.size ≠ a := Nat.ne_of_gt ha2
  refine callTypeS (Q₁ := fun obj s₁ => obj = .ref s1.heap.objs.size ∧ s₁ = { s1 with heap := s1.heap.push { cls := .type "list", data := .seq #[] } }) F.called_list (F.typeCall_list_1 _) F.entry_list_init
    (code_list_new _ ⟨rfl, rfl⟩) fun obj s₁ h₁ => ?_
  obtain ⟨rfl, rfl⟩ := h₁
  have hS : (s1.heap.push { cls := .type "list", data := .seq #[] }).get? s1.heap.objs.size = some { cls := .type "list", data := .seq #[] } := Heap.get?_push_size _ rfl
  refine ⟨⟨_, hS, rfl⟩, F.args_list_init_2 _ _, ?_⟩
  show wpS _ X.A.in1.in1 (Builtin.List.listItems (.ref s1.heap.objs.size) >>= fun old => Builtin.List.listUpdate (.ref s1.heap.objs.size) (fun _ => #[]) >>= fun _ => letGo old.toList.reverse >>= fun _ => Builtin.List.listExtendWith (.ref s1.heap.objs.size) (.ref a) .none) _ _ _
  unfold Builtin.List.listItems
  refine wpS_bindA (wpAny_bind (wpAny_seqItems hS rfl (wpAny_pure ?_)))
  show wpS _ X.A.in1.in1 (updateSeq s1.heap.objs.size (fun _ => #[]) >>= fun _ => letGo (#[] : Array Value).toList.reverse >>= fun _ => Builtin.List.listExtendWith (.ref s1.heap.objs.size) (.ref a) .none) _ _ _
  refine wpS_bindA (wpAny_updateSeq hS rfl ?_)
  have hS2 := Heap.get?_update_self (Obj.mapSeq (fun _ => (#[] : Array Value))) hS rfl
  refine wpS_bindA (wpAny_letGo ?_)
  unfold Builtin.List.listExtendWith
  have up : ∀ (h : Heap) (f : Obj → Obj), (∀ b o, s1.heap.get? b = some o → h.get? b = some o) → ∀ b o, s1.heap.get? b = some o → (h.update s1.heap.objs.size f).get? b = some o := fun h f q b o e =>
    (Heap.get?_update_other _ _ (Ne.symm (Nat.ne_of_lt (Heap.lt_size e)))).trans (q b o e)
  have k1 : ∀ b o, s1.heap.get? b = some o → (s1.heap.push { cls := .type "list", data := .seq #[] }).get? b = some o := fun b o e => Heap.get?_push_of_some _ e
  have k2 := up _ (Obj.mapSeq (fun _ => (#[] : Array Value))) k1
  have gty : ∀ {h : Heap}, (∀ b o, s1.heap.get? b = some o → h.get? b = some o) → h.IsGen a sc.gens.size := fun {h} q => hgen.keeps q
  refine wpS_bindA (wpAny_typeOf (Heap.IsGen.typeIs (s := { s1 with heap := _ }) (gty k2)) ?_)
  have h1 : Builtin.List.listSameRef (.ref s1.heap.objs.size) (.ref a) = false := by simp [Builtin.List.listSameRef, hSa]
  have h2 : (Value.type "generator" == Value.type "list") = false := by decide
  have h3 : (Value.type "generator" == Value.type "tuple") = false := by decide
  simp only [h1, h2, h3, Bool.or_false, Bool.false_eq_true, if_false]
  refine wpS_bindA (wpAny_pyIter_gen (s := { s1 with heap := _ }) (gty k2) ?_)
  refine wpS_bindA (wpAny_holding ?_)
  unfold Builtin.List.listLengthHint
  refine wpAny_bind (wpAny_specialOf (Heap.IsGen.typeIs (s := { s1 with heap := _ }) (gty k2)) F.gen_no_len ?_)
  show wpAny _ X.A.in1.in1 (specialOf (Value.ref a) (Str.ofString "__length_hint__") >>= _) _ _ _
  refine wpAny_bind (wpAny_specialOf (Heap.IsGen.typeIs (s := { s1 with heap := _ }) (gty k2)) F.gen_no_hint ?_)
  refine wpAny_pure ?_
  show wpS _ X.A.in1.in1 (rule "list.extend.makes-room" >>= fun _ => Builtin.List.listTouch (.ref s1.heap.objs.size) >>= fun _ =>
    again (.builtin "list.extend.loop" ⟨[.ref s1.heap.objs.size, .ref a, .none], []⟩)) _ _ _
  refine wpS_bindA (wpAny_rule ?_)
  refine wpS_bindA ?_
  show wpAny _ X.A.in1.in1 (updateSeq s1.heap.objs.size (·.push .none) >>= fun _ => updateSeq s1.heap.objs.size (·.pop)) _ _ _
  refine wpAny_bind (wpAny_updateSeq hS2 rfl ?_)
  have hS3 := Heap.get?_update_self (Obj.mapSeq (·.push Value.none)) hS2 rfl
  refine wpAny_updateSeq (hz := by seq_fits) hS3 rfl ?_
  have hS4 := Heap.get?_update_self (Obj.mapSeq (·.pop)) hS3 rfl
  have k4 := up _ (Obj.mapSeq (·.pop)) (up _ (Obj.mapSeq (·.push Value.none)) k2)
  refine wpS_pure ⟨plainId_quiet F.plain_extend_loop _, ?_⟩
  have scs : sc.heap.objs.size ≤ s1.heap.objs.size := Nat.le_trans ha1 (Nat.le_of_lt ha2)
  refine drainS (X := X) (pins := pins) (σ := σ) (N := N) (env := env) (n0 := sc.heap.objs.size) (n := n) (g := sc.gens.size) (a := a) (item := item) (fin := fin) (A := X.A.in1) hst hn hr.hd (by have := hr.dp; show X.A.depth < _; omega) Isc.lt Isc.sz
    (fun x c e => (Isc.cell x c e).elim fun v q => q.lt) (fun p hp => Heap.lt_size (Isc.pin p hp).1) ha1 scs hSa hfz (fun s' H' ys J hS' hlen got hf => ⟨rfl, .ref _, _, J, rfl, hQ _ ys H' hS' hlen got hf⟩) n _ ?_
  have J4 : Inv X pins σ H1 { s1 with heap := _ } := I1.kept (t' := s1.toks) k4
  have hSn : H1 s1.heap.objs.size = none := I1.hok.fresh (Nat.le_refl _)
  refine ⟨H1, #[], _, [], Inv.regens J4 AllBare.empty, hS4, hSn, .nil, by simp, fun i x e => by simp at e, .of_isGen (gty k4), .fresh c', nd, H1, s1, ?_, ⟨Same.refl _, J4.hok, fun p hp => ?_, fun b hb => ?_, J4.bs, J4.stack, J4.stkFree, Chain.run (s := s1)⟩, fun w' s' z hg => ?_⟩
  · show s1.gens[sc.gens.size]? = _
    rw [hgs]; exact Array.getElem?_push_size ..
  · obtain ⟨q1, q2, _⟩ := hnd p hp
    exact ⟨k4 _ _ q1, q2⟩
  · have hb : b ∈ [a, s1.heap.objs.size] := hb
    rcases List.mem_cons.mp hb with e | hb
    · subst e
      obtain ⟨o, nm, qn, h1, _, h3, _⟩ := gty k4
      exact ⟨Isc.hok.fresh ha1, o, h1, fun v q => by rw [h3] at q; cases q⟩
    · have e := List.mem_singleton.mp hb
      subst e
      exact ⟨hSn, _, hS4, fun v q => by cases q⟩
  · exact wk X.A.in1.in1.in1 [a, s1.heap.objs.size] (Chain sc.gens.size) False ⟨hr.hd, by have := hr.dp; show X.A.depth + 3 * k + 5 < _; omega, by have := hr.un; show X.A.units + 1 + 1 + 1 + 16 * k + 200 < _; omega⟩ Isc.ok.frames
      (fun b hb => by
        rcases List.mem_cons.mp hb with e | hb
        · exact .inl e
        · exact .inr (by rw [List.mem_singleton.mp hb]; exact Nat.le_refl _)) (fun G G' h c => c.bare h) (fun G G' c h => c.sz h) (fun _ => ⟨fun G G' h => h, fun q => q⟩) w' s' z hg
end
end Wv
end WvK_part
section WvL_part
set_option Elab.async false
set_option linter.all false
set_option maxRecDepth 100000
set_option maxHeartbeats 1000000
/-! WvL: rules for such expressions, tests and statements; defs. -/
namespace Wv
open PySem L2 PySem.Spec
open PyProof.Rows

section
variable {X : Cx} {pos : Pos}
/-! ### tests -/
theorem pts_and {a b : Expr} {ta tb : TT} (ha : PTS X a ta) (hb : PTS X b tb) : PTS X (.BoolOp .And [a, b] pos) (tAnd ta tb) := by
  refine ⟨fun pins s σ H Q I h => ?_⟩
  have e : isTrue (.BoolOp .And [a, b] pos) X.env (eval (.BoolOp .And [a, b] pos) X.env) = (isTrue a X.env (eval a X.env) >>= fun c => match c with
    | false => pure false
    | true => isTrue b X.env (eval b X.env) >>= fun d => match d with | false => pure false | true => pure true) := by
    simp only [PySem.isTrue, allTrue]
    congr 1
    funext c
    cases c
    · rfl
    · simp only [allTrue]
      congr 1
      funext d
      cases d <;> rfl
  rw [e]
  refine wpS_bind (thnS (ha.run pins s σ H _ I h) fun c s1 ⟨H1, I1, q1⟩ => ?_)
  cases c with
  | false => exact wpS_pure ⟨H1, I1, q1⟩
  | true =>
    refine wpS_bind (thnS (hb.run pins s1 σ H1 _ I1 q1) fun d s2 ⟨H2, I2, q2⟩ => ?_)
    cases d with
    | false => exact wpS_pure ⟨H2, I2, q2⟩
    | true => exact wpS_pure ⟨H2, I2, q2⟩
theorem pts_or {a b : Expr} {ta tb : TT} (ha : PTS X a ta) (hb : PTS X b tb) : PTS X (.BoolOp .Or [a, b] pos) (tOr ta tb) := by
  refine ⟨fun pins s σ H Q I h => ?_⟩
  have e : isTrue (.BoolOp .Or [a, b] pos) X.env (eval (.BoolOp .Or [a, b] pos) X.env) = (isTrue a X.env (eval a X.env) >>= fun c => match c with
    | true => pure true
    | false => isTrue b X.env (eval b X.env) >>= fun d => match d with | false => pure false | true => pure true) := by
    simp only [PySem.isTrue, allTrue]
    congr 1
    funext c
    cases c
    · simp only [allTrue]
      congr 1
      funext d
      cases d <;> rfl
    · rfl
  rw [e]
  refine wpS_bind (thnS (ha.run pins s σ H _ I h) fun c s1 ⟨H1, I1, q1⟩ => ?_)
  cases c with
  | true => exact wpS_pure ⟨H1, I1, q1⟩
  | false =>
    refine wpS_bind (thnS (hb.run pins s1 σ H1 _ I1 q1) fun d s2 ⟨H2, I2, q2⟩ => ?_)
    cases d with
    | false => exact wpS_pure ⟨H2, I2, q2⟩
    | true => exact wpS_pure ⟨H2, I2, q2⟩
theorem pts_not {a : Expr} {ta : TT} (ha : PTS X a ta) : PTS X (.UnaryOp .Not a pos) (tNot ta) := by
  refine ⟨fun pins s σ H Q I h => ?_⟩
  have e : isTrue (.UnaryOp .Not a pos) X.env (eval (.UnaryOp .Not a pos) X.env) = (isTrue a X.env (eval a X.env) >>= fun c => pure !c) := by simp only [PySem.isTrue]
  rw [e]
  exact wpS_bind (thnS (ha.run pins s σ H _ I h) fun c s1 ⟨H1, I1, q1⟩ => wpS_pure ⟨H1, I1, q1⟩)
theorem pts_val {e : Expr} {t : TE} (h : PES X e t) (he : ∀ whole, isTrue e X.env whole = (do let v ← whole; standAt e.pos; holding [v] (truthy v)) := by intro _; rfl) : PTS X e (tB t) := by
  refine ⟨fun pins s σ H Q I hw => ?_⟩
  rw [he]
  refine wpS_bind (thnS (h.run pins s σ H _ I hw) fun v s1 ⟨x, H1, I1, r1, d, ex, q⟩ => ?_)
  subst ex
  cases r1
  exact wpS_bind (wpS_at (wpS_holding (wpS_of (wpAny_truthy_bool ⟨H1, I1, q⟩))))
/-- a comparison whose left side is such -/
structure PCS (X : Cx) (op : CmpOp) (a b : Expr) (t : TE) : Prop where
  run : ∀ (pins : List (Addr × Obj)) (s : Shared) (σ : L2.St) (H : Hp) (Q : VK), Inv X pins σ H s → t σ H Q →
    wpS (model X.prog X.w) X.A (eval a X.env) (fun v s₁ => wpAny (model X.prog X.w) X.A (eval b X.env) (fun u s₂ => wpAny (model X.prog X.w) X.A (compareOp op v u) (EP X pins σ Q) X.xe s₂) X.xe s₁) X.xe s
theorem pcs_isN {a : Expr} {ta : TE} {j pos'} (ha : PES X a ta) : PCS X .Is a (.Constant .none j pos') (tIsN ta) :=
  ⟨fun pins s σ H Q I h => thnS (ha.run pins s σ H _ I h) fun v s1 ⟨x, H1, I1, r1, q1⟩ => Constant_none (is_none_gen ⟨.bl _, H1, I1, by rw [r1.none_iff]; rfl, q1⟩)⟩
theorem pcs_notN {a : Expr} {ta : TE} {j pos'} (ha : PES X a ta) : PCS X .IsNot a (.Constant .none j pos') (tNotN ta) :=
  ⟨fun pins s σ H Q I h => thnS (ha.run pins s σ H _ I h) fun v s1 ⟨x, H1, I1, r1, q1⟩ => Constant_none (isnot_none_gen ⟨.bl _, H1, I1, by rw [r1.none_iff]; rfl, q1⟩)⟩
theorem pts_cmp {a b : Expr} {op : CmpOp} {t : TE} (h : PCS X op a b t) (h1 : behindInMarks op b = false := by first | exact nobehind _ (by decide) (by decide) | rfl) : PTS X (.Compare a [op] [b] pos) (tB t) := by
  refine ⟨fun pins s σ H Q I hw => ?_⟩
  rw [isTrue_Compare1, markedBehindIn_of_false h1]
  refine wpS_bind (thnS (h.run pins s σ H _ I hw) fun v s1 h1 => ?_)
  refine wpS_of (wpAny_bind (wpAny_holding (thn h1 fun u s2 h2 => wpAny_bind (wpAny_standAt (wpAny_bind (wpAny_operating (thn h2 fun c s3 ⟨x, H1, I1, r1, d, ex, q⟩ => ?_)))))))
  subst ex
  cases r1
  exact wpAny_holding (wpAny_truthy_bool ⟨H1, I1, q⟩)
theorem pes_cmp {a b : Expr} {op : CmpOp} {t : TE} (h : PCS X op a b t) (h1 : behindInMarks op b = false := by first | exact nobehind _ (by decide) (by decide) | rfl) : PES X (.Compare a [op] [b] pos) t := by
  refine ⟨fun pins s σ H Q I hw => ?_⟩
  rw [eval_Compare1, markedBehindIn_of_false h1]
  refine wpS_bind (thnS (h.run pins s σ H _ I hw) fun v s1 h1 => ?_)
  exact wpS_of (wpAny_bind (wpAny_holding (thn h1 fun u s2 h2 => wpAny_bind (wpAny_standAt (wpAny_operating h2)))))

/-! ### statements -/
theorem psss_nil : PSSs X [] tNext := ⟨fun pins s σ H D I h => wpS_pure ⟨σ, H, I, h⟩⟩
theorem psss_one {st : Stmt} {t : TS} (a : PSS X st t) : PSSs X [st] t := by
  refine ⟨fun pins s σ H D I h => ?_⟩
  rw [execs_cons]
  refine wpS_bind (thnS (a.run pins s σ H _ I h) fun f s1 q => ?_)
  cases f with
  | next => rw [execs_nil]; exact wpS_pure q
  | brk => exact wpS_pure q
  | cont => exact wpS_pure q
  | ret v => exact wpS_pure q
theorem psss_cons {st : Stmt} {rest : List Stmt} {t u : TS} (a : PSS X st t) (b : PSSs X rest u) : PSSs X (st :: rest) (tSeq t u) := by
  refine ⟨fun pins s σ H D I h => ?_⟩
  rw [execs_cons]
  refine wpS_bind (thnS (a.run pins s σ H _ I h) fun f s1 q => ?_)
  cases f with
  | next => obtain ⟨σ1, H1, I1, q⟩ := q; exact b.run pins s1 σ1 H1 D I1 q
  | brk => exact wpS_pure q
  | cont => exact wpS_pure q
  | ret v => exact wpS_pure q
theorem pss_ret {e : Expr} {te : TE} (he : PES X e te) : PSS X (.Return (some e) pos) (tRet te) := by
  refine ⟨fun pins s σ H D I h => ?_⟩
  rw [exec_Return_some]
  exact wpS_bind (wpS_at (wpS_bind (thnS (he.run pins s σ H _ I h) fun v s1 ⟨x, H1, I1, r1, q1⟩ => wpS_pure ⟨x, σ, H1, I1, r1, q1⟩)))
theorem pss_if {c : Expr} {body orelse : List Stmt} {tc : TT} {ta tb : TS} (hc : PTS X c tc) (ha : PSSs X body ta) (hb : PSSs X orelse tb) : PSS X (.If c body orelse pos) (tIfS tc ta tb) := by
  refine ⟨fun pins s σ H D I h => ?_⟩
  rw [exec_If]
  refine wpS_bind (wpS_at (wpS_bind (thnS (hc.run pins s σ H _ I h) fun b s1 ⟨H1, I1, q1⟩ => ?_)))
  cases b with
  | true => exact ha.run pins s1 σ H1 D I1 q1
  | false => exact hb.run pins s1 σ H1 D I1 q1
theorem pss_set {i : Nat} {x : Str} {e : Expr} {te : TE} {pos' : Pos} (hN : X.N.Nodup) (hi : X.N[i]? = some x) (hx : Loc X.env.scope x) (he : PES X e te) (hf : X.fn x = true ∨ X.env.scope.names.lookup x = some .local := by first | exact .inl rfl | exact .inr rfl | assumption)
    (hs : swapsWith e (some (.Name x pos')) pos.line X.env = pure false := by rfl) : PSS X (.Assign [.Name x pos'] e pos) (tAsg te (gName i)) := by
  refine ⟨fun pins s σ H D I h => ?_⟩
  rw [exec_Assign_Name (hs := hs)]
  refine wpS_bind (wpS_at (wpS_bind (thnS (he.run pins s σ H _ I h) fun v s1 ⟨y, H1, I1, r1, q1⟩ => ?_)))
  exact wpS_bind (wpS_at (wpS_bindA (wpAny_bindName (store_ok I1 hN hi hx r1 (fun s' I' => wpS_pure ⟨_, H1, I', q1⟩) hf))))

/-- for over a plain iterator, the body such -/
theorem pss_for {tg iter : Expr} {body : List Stmt} {wi : TI} {g : TG} {tb : TS} (hx : X.xe = fun _ _ => False) (hc : X.calm = true) (hi : PI X tg iter wi) (hg : PG X tg g) (hb : PSSs X body tb)
    (hs : ∀ x, foldedSetIterable iter X.env x = pure x := by intro _; rfl) : PSS X (.For tg iter body [] pos) (tFor wi g tb) := by
  refine ⟨fun pins s σ H D I h => ?_⟩
  have nx : ∀ {α : Type} {t : Sem α} {Q : α → Shared → Prop} {E : Value → Shared → Prop} {s : Shared}, wpAny (model X.prog X.w) X.A t Q X.xe s → wpAny (model X.prog X.w) X.A t Q E s := fun {α t Q E s} h => wpAny_mono h (fun _ _ q => q) fun _ _ q => by rw [hx] at q; exact q.elim
  have nxS : ∀ {α : Type} {t : Sem α} {Q : α → Shared → Prop} {E : Value → Shared → Prop} {s : Shared}, wpS (model X.prog X.w) X.A t Q X.xe s → wpS (model X.prog X.w) X.A t Q E s := fun {α t Q E s} h => wpS_mono h (fun _ _ q => q) fun _ _ q => by rw [hx] at q; exact q.elim
  rw [exec_For]
  refine wpS_bind (wpS_at (wpS_bindA (thn (hi.run pins s σ H _ I h) fun v s1 h1 => ?_)))
  rw [hs v]
  refine wpS_bind (wpS_pure (wpS_bind (wpS_at ?_)))
  refine wpS_bindA (wpAny_holding (thn h1 fun itv s2 h2 => ?_))
  obtain ⟨it, fp, tn, J, H2, e, I2, T, st2, f2, W, ⟨m0, w0⟩, turn⟩ := h2
  subst e
  have stat : ∀ {H' : Hp}, (∀ b ∈ fp, H' b = none) → ∀ b ∈ fp, FpOk X pins H' b := fun hn b hb => ⟨hn b hb, (f2 b hb).2⟩
  unfold runOwn
  refine wpS_onRaise (wpS_run (hd := none) (codeS_loop rfl (fun n s' => ∃ i σ' H', Inv X pins σ' H' s' ∧ tn i s'.heap ∧ (∀ b ∈ fp, H' b = none) ∧ W i n σ' H') ?_ m0 ⟨0, σ, H2, I2, st2, fun b hb => (f2 b hb).1, w0⟩))
  rintro n s3 ⟨i, σ3, H3, I3, st3, fr3, w3⟩
  have eA : (X.A.mark none).under (.forLoop tg (.ref it) body [] X.env) = X.A := by
    rw [show X.A.mark none = X.A from Around.mark_none _]
    exact Around.under_of_weight rfl
  rw [eA]
  show wpS _ X.A ((forTurn tg (.ref it) body [] X.env).onRaise (fun x => do noteFrame x X.env; theTreesLotGoes x)) _ _ s3
  refine wpS_onRaise ?_
  unfold forTurn
  refine wpS_bind (wpS_at ?_)
  rcases turn i n σ3 H3 w3 with ⟨stop, qn⟩ | ⟨go, N, hN, step⟩
  · refine wpS_bind (wpS_onRaise (nxS (wpS_of (thn (T.done X rfl rfl rfl hc i pins s3 σ3 H3 X.xe I3 (stat fr3) st3 stop) fun r s4 ⟨hr, I4⟩ => ?_))))
    subst hr
    refine wpS_pure (.inr ⟨rfl, codeS_of_tree ?_⟩)
    show wpS _ _ (do return Fin.done (← (execs [] X.env).onRaise (fun x => do noteFrame x X.env; theTreesLotGoes x))) _ _ s4
    refine wpS_bind (wpS_onRaise ?_)
    rw [execs_nil]
    exact wpS_pure (wpS_pure ⟨σ3, H3, I4, qn⟩)
  · refine wpS_bind (wpS_onRaise (nxS (wpS_of (thn (T.item X rfl rfl rfl hc i pins s3 σ3 H3 X.xe I3 (stat fr3) st3 go) fun r s4 ⟨u, hr, h4⟩ => ?_))))
    subst hr
    show wpS _ _ (letOwnedTupleGo tg (.ref it) u >>= _) _ _ s4
    refine wpS_bindA (nx (thn h4 fun _ s5 ⟨x, H5, I5, r5, y5, st5, fr5⟩ => ?_))
    have I5' := I5.pinned (stat fr5) (T.obj _ _ st5)
    refine wpS_bindA (nx (thn (hg.run _ s5 σ3 H5 x u _ I5' r5 (step x H5 y5)) fun _ s6 ⟨σ6, H6, I6, q6⟩ => ?_))
    refine wpS_bind (nxS (thnS (hb.run _ s6 σ6 H6 _ I6 q6) fun f s7 q7 => ?_))
    have again : ∀ {σ7 : L2.St} {H7 : Hp}, Inv X (pins ++ pinsAt fp s5.heap) σ7 H7 s7 → N σ7 H7 → ∃ m, m < n ∧ ∃ i σ' H', Inv X pins σ' H' s7 ∧ tn i s7.heap ∧ (∀ b ∈ fp, H' b = none) ∧ W i m σ' H' := fun {σ7 H7} I7 n7 => by
      obtain ⟨m', hm, w7⟩ := hN σ7 H7 n7
      refine ⟨m', hm, i + 1, σ7, H7, I7.unpinned, T.keep _ _ _ st5 fun b hb o e => (I7.pin (b, o) (List.mem_append_right _ (List.mem_append_right _ (mem_pinsAt hb e)))).1, fun b hb => ?_, w7⟩
      obtain ⟨o, e, d⟩ := T.obj _ _ st5 b hb
      exact (I7.pin (b, o) (List.mem_append_right _ (List.mem_append_right _ (mem_pinsAt hb e)))).2.1
    cases f with
    | next => obtain ⟨σ7, H7, I7, n7⟩ := q7; exact wpS_pure (.inl ⟨rfl, again I7 n7⟩)
    | cont => obtain ⟨σ7, H7, I7, n7⟩ := q7; exact wpS_pure (.inl ⟨rfl, again I7 n7⟩)
    | brk => obtain ⟨σ7, H7, I7, q7⟩ := q7; exact wpS_pure ⟨σ7, H7, I7.unpinned, q7⟩
    | ret v => obtain ⟨x7, σ7, H7, I7, r7, q7⟩ := q7; exact wpS_pure ⟨x7, σ7, H7, I7.unpinned, r7, q7⟩

/-! ### defs -/
structure FnOkS (P : Program) (w : World) (K : PySem.W.Frag) (mg : Str → Option Value) (base : Heap) (k : Nat) (f : Addr) (fd : FuncData) (ps : List Str) (sp : Sp) : Prop where
  len : ∀ vs H Q E, sp vs H Q E → vs.length = ps.length
  run : ∀ (A : Around) (outer : List Env) (s : Shared) (H : Hp) (args : Args) (us : List Value) (vs : List V) (Q : VK) (E : XK), Room k A → Env0 P w K mg base A outer s H → BindsTo s fd args (ps.zip us) → Vals vs us → sp vs H Q E →
    codeS (model P w) A (.call (.ref f) args) (CR CX0 outer P w H s Q E) s
theorem pes_call {k : Nat} {f : Addr} {fd : FuncData} {ps : List Str} {sp : Sp} {dvs : List V} {ds : List Value} {x : Str} {p : Pos} {e : Expr} {es : List Expr} {t : TA} (F : FnOkS X.prog X.w X.K X.mg X.base k f fd ps sp) (hr : Room k X.A) (hg : Gl X x) (hm : X.mg x = some (.ref f)) (hk : PySem.W.keepIn X.K (.ref f) = true)
    (hb : Binds X.K fd ps ds) (hd : Vals dvs ds) (ha : PA X (e :: es) t) (hdb : (x == ("__debug__" : Str)) = false := by decide) (he : starEach (e :: es) X.env = (false, eval e X.env) :: starEach es X.env := by rfl) (hpl : (backTo pos (starEach es X.env)).any (·.1) = false := by rfl) :
    PES X (.Call (.Name x p) (e :: es) [] pos) (tCall sp dvs E0 t) := by
  refine ⟨fun pins s σ H Q I h => ?_⟩
  rw [arm_eval_Call_Name']
  refine wpS_bindA (ld_glob I hg hm ?_ hdb)
  refine callWithS_K (K := X.K) hk (thn (ha.run pos pins s σ H _ I h) fun us s1 ⟨vs, H1, I1, r, q⟩ => ⟨I1.kIn, ?_⟩) he hpl
  have r2 : Vals (vs ++ dvs) (us ++ ds) := r.append hd
  have hl : (us ++ ds).length = ps.length := by rw [← r2.length]; exact F.len _ _ _ _ q
  refine wpS_call (codeS_mono (F.run X.A X.stack s1 H1 ⟨us, []⟩ (us ++ ds) (vs ++ dvs) Q E0 hr I1.env0 (hb s1 us I1.kIn hl) r2 q) fun r s' hq => ?_)
  cases r with
  | error e => exact hq.elim
  | ok fl =>
    cases fl with
    | ret u => exact I1.after hq
    | next => exact False.elim hq
    | brk => exact False.elim hq
    | cont => exact False.elim hq
end

theorem codeS_func {P : Program} {w : World} {A : Around} {R : Result → Shared → Prop} {s : Shared} {body : List Stmt} {env : Env}
    (h : wpS (model P w) (A.deeper env) (execs body env) (fun f s' => R (.ok (.ret (match f with | .ret v => v | _ => .none))) s') (fun _ _ => False) s) : codeS (model P w) A (.func body env) R s := by
  refine codeS_of_tree ?_
  show wpS _ (A.deeper env) (do point; match ← (execs body env).onRaise (leaving env) with | .ret v => ret v | _ => ret .none) _ _ s
  refine wpS_bindA (wpAny_point (wpS_bind (wpS_onRaise (wpS_mono h (fun f s' h' => ?_) fun _ _ q => q.elim))))
  cases f <;> exact wpS_pure h'
theorem codeS_call_function {P : Program} {w : World} {A : Around} {R : Result → Shared → Prop} {s : Shared} {a : Addr} {args : Args} {o : Obj} {fd : FuncData} {body : List Stmt} (hroom : A.depth < recursionLimit)
    (ho : s.heap.get? a = some o) (hd' : o.data = .func fd) (hco : fd.scope.isCoroutine = false) (hgen : fd.scope.isGenerator = false) (hbody : fd.body = .stmts body) (hcd : s.heap.CodeRec fd.code fd.qualname)
    (h : wpAny (model P w) A.in1 (bindArgs fd args) (fun binds s₁ =>
      wpAny (model P w) A.in1 (newFunctionEnv fd.scope fd.globals fd.closure binds (fd.qualname ++ ".<locals>.") (some a) fd.code none fd.builtins)
        (fun env s₂ => s₂.heap.NoLimit ∧ codeS (model P w) A (.func body env) R s₂) (fun e s' => R (.error e) s') s₁) (fun e s' => R (.error e) s') s) :
    codeS (model P w) A (.call (.ref a) args) R s := by
  refine codeS_of_tree ?_
  show wpS _ A.in1 (callAny (.ref a) args) _ _ s
  simp only [callAny]
  refine wpS_bindA (wpAny_load ho ?_)
  obtain ⟨c, oc, vs, tq, hc, hoc, hdc, hq⟩ := hcd
  simp only [hd', callFunction, hco, hgen, hbody, hc]
  rw [hc] at h
  refine wpS_bindA (m := field (.ref c) 1) (wpAny_field hoc hdc hq (wpS_bind (wpS_pure ?_)))
  exact wpS_bindA (wpAny_mono h (fun binds s₁ h₁ => wpS_bindA (wpAny_mono h₁ (fun env s₂ h₂ => wpS_bindA (wpAny_enterFrame h₂.1 hroom
    (wpS_pure (And.intro rfl h₂.2)))) fun _ _ h' => h')) fun _ _ h' => h')

/-- THE RULE for a def whose run may go over such generators -/
theorem fnS_of {P : Program} {w : World} {K : PySem.W.Frag} {mg : Str → Option Value} {base : Heap} {k : Nat} {f : Addr} {name qual : Str} {params : Arguments} {body : List Stmt} {scope : Scope} {dV kV doc pm cdv ct oc : Value} {an od : Option Addr}
    {osl : Array (Option Value)} {N ps : List Str} {sp : Sp} (lk : K.lookup f = some ⟨oc, od, .func (PySem.W.fnOf name qual params body scope dV kV doc pm an cdv ct), osl⟩) (hcd : PySem.W.codeIn K cdv qual = true) (S : FnScope N ps scope)
    (len : ∀ vs H Q E, sp vs H Q E → vs.length = ps.length)
    (hbody : ∀ (A : Around) (outer : List Env) (s : Shared) (H : Hp) (vs : List V) (Q : VK) (E : XK), Room k (A.deeper (envOfC qual scope s.heap.objs.size f cdv)) → sp vs H Q E →
      ∃ t, PSSs (cxOf CX0 P w K mg base N qual scope f cdv A outer s H E).nox body t ∧ t { nx := fun _ H' => Q .non H', rt := Q } (start N vs) H) :
    FnOkS P w K mg base (k + 1) f (PySem.W.fnOf name qual params body scope dV kV doc pm an cdv ct) ps sp := by
  refine ⟨len, fun A outer s H args us vs Q E hr e0 hb r hsp => ?_⟩
  have hl := len _ _ _ _ hsp
  have KX : K.In s.heap := e0.mod.kin.keeps fun b o e => (e0.bs b o e).1
  have lim : s.heap.NoLimit := e0.mod.nolimit.keeps fun b o e => (e0.bs b o e).1
  have hkind : ∀ y ∈ ps.zip us, scope.names.lookup y.1 = some .local ∨ (scope.names.lookup y.1 = some .cell ∧ ((cellsFrom (s.heap.objs.size + 1) scope.names []).lookup y.1).isSome = true) := fun ⟨n, v⟩ hy => by
    rcases S.par n (List.of_mem_zip hy).1 with q | q
    · exact .inl q
    · exact .inr ⟨q, PySem.W.cellsFrom_some _ _ _ (.inl q)⟩
  refine codeS_call_function hr.depth (KX _ _ lk) rfl S.co S.gen rfl (PySem.W.codeRec_of KX hcd) (hb _ _ _ _ ?_)
  refine wpAny_newFunctionEnv_cells S.kind hkind fun env he s1 x => ?_
  subst he
  refine ⟨lim.keeps x.toInCall.keep, codeS_func ?_⟩
  obtain ⟨t, ht, hq⟩ := hbody A outer s H vs Q E (hr.deeper _) hsp
  have I : Inv (cxOf CX0 P w K mg base N qual scope f cdv A outer s H E).nox [] (start N vs) H s1 := (inv_start (CX := CX0) (E := E) S hr.hd e0 hl r x).wish _
  refine wpS_mono (ht.run [] s1 (start N vs) H _ I hq) (fun fl s' hs => ?_) fun e s' hs => hs
  have fin : ∀ {σ' : L2.St} {H' : Hp} {v : V} {u : Value}, Inv (cxOf CX0 P w K mg base N qual scope f cdv A outer s H E).nox [] σ' H' s' → RelV v u → Q v H' → CE outer P w H s Q u s' :=
    fun {σ' H' v u} J rv q => ⟨v, H', J.os, J.bare, J.base, J.hok, rv, q⟩
  cases fl with
  | ret u =>
    obtain ⟨v, σ', H', J, rv, q⟩ := hs
    exact fin J rv q
  | next =>
    obtain ⟨σ', H', J, q⟩ := hs
    exact fin (v := V.non) (u := Value.none) J rfl q
  | brk =>
    obtain ⟨_, _, _, q⟩ := hs
    exact False.elim q
  | cont =>
    obtain ⟨_, _, _, q⟩ := hs
    exact False.elim q
end Wv
end WvL_part
section WvM_part
set_option Elab.async false
set_option linter.all false
set_option maxRecDepth 100000
set_option maxHeartbeats 1000000
/-! WvM: generators that sleep while plain code runs stay as they are. -/
namespace Wv
open PySem L2 PySem.Spec
open Sem (wp)

/-- the same, but that it cannot be woken -/
def stuck : GenState → GenState
  | .suspended _ l c p fs cl => .suspended (fun _ => .unsupported "asleep") l c p fs cl
  | x => x
theorem stuck_seen (x : GenState) : (stuck x).seen = x.seen := by cases x <;> rfl
theorem stuck_bare {x : GenState} (h : x.bare = true) : (stuck x).bare = true := by cases x <;> exact h
/-- those that slept in G0, as they were -/
def back (G0 G : Array GenState) : Array GenState := G.mapIdx fun i x => match G0[i]? with
  | some y => if isSusp y then y else x
  | none => x
theorem back_at (G0 G : Array GenState) (i : Nat) : (back G0 G)[i]? = (G[i]?).map fun x => match G0[i]? with
  | some y => if isSusp y then y else x
  | none => x := by simp [back]
theorem back_size (G0 G : Array GenState) : (back G0 G).size = G.size := by simp [back]
structure Good (G0 G : Array GenState) : Prop where
  sz : G0.size ≤ G.size
  old : ∀ (i : Nat) (x : GenState), G0[i]? = some x → isSusp x = true → G[i]? = some (stuck x)
  new : ∀ (i : Nat) k l c p fs cl, G[i]? = some (.suspended k l c p fs cl) → (∃ x, G0[i]? = some x ∧ isSusp x = true) ∨ splitAtGen fs = none
abbrev backS (G0 : Array GenState) (s : Shared) : Shared := { s with gens := back G0 s.gens }
section
variable {G0 : Array GenState} {s : Shared}
/-- one that is not of those -/
def Free (G0 : Array GenState) (g : Nat) : Prop := ∀ x, G0[g]? = some x → isSusp x = false
theorem back_free {G : Array GenState} {g : Nat} (h : Free G0 g) : (back G0 G)[g]? = G[g]? := by
  rw [back_at]
  cases q : G[g]? with
  | none => rfl
  | some x =>
    cases q0 : G0[g]? with
    | none => rfl
    | some y => simp [h y q0]
theorem Good.set {G : Array GenState} {g : Nat} {x : GenState} (k : Good G0 G) (h : Free G0 g) (hx : ∀ kk l c p fs cl, x = .suspended kk l c p fs cl → splitAtGen fs = none) : Good G0 (G.setIfInBounds g x) := by
  refine ⟨by rw [Array.size_setIfInBounds]; exact k.sz, fun i y e hs => ?_, fun i kk l c p fs cl e => ?_⟩
  · have : g ≠ i := fun q => by subst q; rw [h y e] at hs; cases hs
    rw [Array.getElem?_setIfInBounds_ne this]; exact k.old i y e hs
  · by_cases q : g = i
    · subst q
      right
      rw [Array.getElem?_setIfInBounds] at e
      simp only [if_true] at e
      split at e
      · exact hx _ _ _ _ _ _ (Option.some.inj e)
      · cases e
    · rw [Array.getElem?_setIfInBounds_ne q] at e
      exact k.new i _ _ _ _ _ _ e
theorem back_set {G : Array GenState} {g : Nat} {x : GenState} (h : Free G0 g) : back G0 (G.setIfInBounds g x) = (back G0 G).setIfInBounds g x := by
  apply Array.ext_getElem?
  intro i
  rw [back_at]
  by_cases q : g = i
  · subst q
    rw [Array.getElem?_setIfInBounds, Array.getElem?_setIfInBounds, back_size]
    simp only [if_true]
    by_cases hl : g < G.size
    · simp only [hl, if_true, Option.map_some]
      cases q0 : G0[g]? with
      | none => rfl
      | some y => simp [h y q0]
    · simp only [hl, if_false, Option.map_none]
  · rw [Array.getElem?_setIfInBounds_ne q, Array.getElem?_setIfInBounds_ne q, back_at]
theorem back_setGen {g : Nat} {x : GenState} (h : Free G0 g) : backS G0 (s.setGen g x) = (backS G0 s).setGen g x := by
  show ({ s with gens := back G0 (s.gens.setIfInBounds g x) } : Shared) = { s with gens := (back G0 s.gens).setIfInBounds g x }
  rw [back_set h]
theorem Good.push {G : Array GenState} {c : Code} (k : Good G0 G) : Good G0 (G.push (.fresh c)) := by
  refine ⟨by rw [Array.size_push]; exact Nat.le_succ_of_le k.sz, fun i y e hs => ?_, fun i kk l c p fs cl e => ?_⟩
  · have := k.old i y e hs
    have hi := (Array.getElem?_eq_some_iff.mp this).1
    rw [Array.getElem?_push_lt hi, ← Array.getElem?_eq_getElem hi]; exact this
  · rw [Array.getElem?_push] at e
    split at e
    · cases e
    · exact k.new i _ _ _ _ _ _ e
theorem back_push {G : Array GenState} {c : Code} (k : Good G0 G) : back G0 (G.push (.fresh c)) = (back G0 G).push (.fresh c) := by
  apply Array.ext_getElem?
  intro i
  rw [back_at, Array.getElem?_push, Array.getElem?_push, back_size]
  by_cases e : i = G.size
  · subst e
    have : G0[G.size]? = none := Array.getElem?_eq_none k.sz
    simp [this]
  · simp only [e, if_false]
    rw [back_at]
/-- a state that is seen -/
theorem Good.free_of {G : Array GenState} {g : Nat} {x : GenState} (k : Good G0 G) (e : G[g]? = some x) (hx : isSusp x = false) : Free G0 g := fun y e0 => by
  cases q : isSusp y with
  | false => rfl
  | true =>
    have := k.old g y e0 q
    rw [e] at this; cases this
    cases y <;> simp_all [isSusp, stuck]
theorem unsupported_not {M : Model} {Γ : PySem.Ctx} {p : Pos} {fs : List Frame} {s s' : Shared} {e : End} {w : String} (h : Runs M Γ p (.unsupported w) fs s e s') : False := by
  have base : ∀ {Γ p s e s'}, Runs M Γ p (.unsupported w) [] s e s' → False := fun h => nomatch h
  cases h with
  | segRet h1 _ => exact base h1
  | segGen h1 _ => exact base h1
  | segSuspOut _ h1 => exact base h1
  | segSuspGen _ h1 _ _ => exact base h1

def EndOk : End → Prop
  | .ret _ => True
  | .susp _ _ _ _ _ _ fs => splitAtGen fs = none
theorem EndOk.gen {e : End} (h : EndOk e) : ∀ kk l c p fs cl, e.genState = .suspended kk l c p fs cl → splitAtGen fs = none := by
  intro kk l c p fs cl q
  cases e with
  | ret r => cases q
  | susp v g0 l0 k0 c0 p0 fs0 =>
    have q : GenState.suspended k0 l0 c0 p0 fs0 (g0 || fs0.any Frame.guarded) = .suspended kk l c p fs cl := q
    cases q
    exact h
/-- a run where those cannot be woken is a run where they are as they were -/
theorem runs_back {M : Model} {Γ : PySem.Ctx} {p : Pos} {t : Sem PySem.Fin} {fs : List Frame} {s s' : Shared} {e : End} (h : Runs M Γ p t fs s e s') (hfs : splitAtGen fs = none) (k : Good G0 s.gens) :
    Runs M Γ p t fs (backS G0 s) e (backS G0 s') ∧ Good G0 s'.gens ∧ EndOk e := by
  induction h with
  | done => exact ⟨.done, k, trivial⟩
  | raise => exact ⟨.raise, k, trivial⟩
  | again hq _ ih => obtain ⟨a, b, c⟩ := ih hfs k; exact ⟨.again hq a, b, c⟩
  | rule _ ih => obtain ⟨a, b, c⟩ := ih hfs k; exact ⟨.rule a, b, c⟩
  | «at» _ ih => obtain ⟨a, b, c⟩ := ih hfs k; exact ⟨.at a, b, c⟩
  | load ho _ ih => obtain ⟨a, b, c⟩ := ih hfs k; exact ⟨.load ho a, b, c⟩
  | update ho _ ih => obtain ⟨a, b, c⟩ := ih hfs k; exact ⟨.update ho a, b, c⟩
  | loadIfAlive _ ih => obtain ⟨a, b, c⟩ := ih hfs k; exact ⟨.loadIfAlive a, b, c⟩
  | point _ ih => obtain ⟨a, b, c⟩ := ih hfs k; exact ⟨.point a, b, c⟩
  | alloc _ ih => obtain ⟨a, b, c⟩ := ih hfs k; exact ⟨.alloc a, b, c⟩
  | fresh _ ih => obtain ⟨a, b, c⟩ := ih hfs k; exact ⟨.fresh a, b, c⟩
  | ask _ ih => obtain ⟨a, b, c⟩ := ih hfs k; exact ⟨.ask a, b, c⟩
  | choose hn _ ih => obtain ⟨a, b, c⟩ := ih hfs k; exact ⟨.choose hn a, b, c⟩
  | os _ ih => obtain ⟨a, b, c⟩ := ih hfs k; exact ⟨.os a, b, c⟩
  | handled _ ih => obtain ⟨a, b, c⟩ := ih hfs k; exact ⟨.handled a, b, c⟩
  | @genState g st Γ p kk s e s' hg _ ih =>
    obtain ⟨a, b, c⟩ := ih hfs k
    refine ⟨?_, b, c⟩
    have hb := back_at G0 s.gens g
    rw [hg] at hb
    simp only [Option.map_some] at hb
    cases q0 : G0[g]? with
    | none => rw [q0] at hb; exact .genState (s := backS G0 s) hb a
    | some y =>
      rw [q0] at hb
      cases qy : isSusp y with
      | false => simp only [qy] at hb; exact .genState (s := backS G0 s) hb a
      | true =>
        simp only [qy, if_true] at hb
        have e1 := k.old g y q0 qy
        rw [hg] at e1
        cases e1
        rw [stuck_seen] at a
        exact .genState (s := backS G0 s) hb a
  | stack _ ih => obtain ⟨a, b, c⟩ := ih hfs k; exact ⟨.stack a, b, c⟩
  | thread _ ih => obtain ⟨a, b, c⟩ := ih hfs k; exact ⟨.thread a, b, c⟩
  | @newGen Γ p kk s e s' c _ ih =>
    obtain ⟨a, b, d⟩ := ih hfs k.push
    refine ⟨.newGen ?_, b, d⟩
    have a : Runs M _ _ _ [] { s with gens := back G0 (s.gens.push (.fresh c)) } _ _ := a
    rw [back_push k] at a
    show Runs M _ _ (kk (back G0 s.gens).size) [] _ _ _
    rw [back_size]; exact a
  | call _ _ ih1 ih2 =>
    obtain ⟨a1, b1, _⟩ := ih1 rfl k
    obtain ⟨a2, b2, c2⟩ := ih2 hfs b1
    exact ⟨.call a1 a2, b2, c2⟩
  | callSusp _ ih =>
    obtain ⟨a, b, c⟩ := ih rfl k
    refine ⟨.callSusp a, b, ?_⟩
    show splitAtGen (_ ++ [Frame.ret ..]) = none
    rw [splitAtGen_append_none _ c]; rfl
  | yield => exact ⟨.yield, k, rfl⟩
  | @resumeFresh Γ p g l kk s c e₁ s₁ e s' hg _ hq _ ih1 ih2 =>
    have hf : Free G0 g := k.free_of hg rfl
    obtain ⟨a1, b1, c1⟩ := ih1 rfl (k.set hf fun _ _ _ _ _ _ q => by cases q)
    obtain ⟨a2, b2, c2⟩ := ih2 hfs (b1.set hf c1.gen)
    rw [back_setGen hf] at a1 a2
    exact ⟨.resumeFresh (s := backS G0 s) ((back_free hf).trans hg) a1 hq a2, b2, c2⟩
  | @resumeSuspended Γ p g r l kk s k₀ l₀ c₀ p₀ fs' cl e₁ s₁ e s' hg h1 hq _ ih1 ih2 =>
    rcases k.new _ _ _ _ _ _ _ hg with ⟨x, ex, hx⟩ | hsp
    · have e1 := k.old g x ex hx
      rw [hg] at e1
      exfalso
      cases x with
      | suspended a b c d e f =>
        have e1 := Option.some.inj e1
        simp only [stuck, GenState.suspended.injEq] at e1
        rw [e1.1] at h1
        exact unsupported_not h1
      | _ => cases hx
    · by_cases hf : Free G0 g
      · obtain ⟨a1, b1, c1⟩ := ih1 hsp (k.set hf fun _ _ _ _ _ _ q => by cases q)
        obtain ⟨a2, b2, c2⟩ := ih2 hfs (b1.set hf c1.gen)
        rw [back_setGen hf] at a1 a2
        exact ⟨.resumeSuspended (s := backS G0 s) ((back_free hf).trans hg) a1 hq a2, b2, c2⟩
      · exfalso
        apply hf
        intro x ex
        cases hx : isSusp x with
        | false => rfl
        | true =>
          have e1 := k.old g x ex hx
          rw [hg] at e1
          cases x with
          | suspended a b c d e f =>
            have e1 := Option.some.inj e1
            simp only [stuck, GenState.suspended.injEq] at e1
            rw [e1.1] at h1
            exact (unsupported_not h1).elim
          | _ => cases hx
  | @resumeJustStarted g v Γ p kk s e s' l c hg hv _ ih =>
    obtain ⟨a, b, c⟩ := ih hfs k
    exact ⟨.resumeJustStarted (s := backS G0 s) ((back_free (k.free_of hg rfl)).trans hg) hv a, b, c⟩
  | @resumeThrowFresh g Γ p kk e s' x l s c hg _ ih =>
    have hf : Free G0 g := k.free_of hg rfl
    obtain ⟨a, b, c⟩ := ih hfs (k.set hf fun _ _ _ _ _ _ q => by cases q)
    rw [back_setGen hf] at a
    exact ⟨.resumeThrowFresh (s := backS G0 s) ((back_free hf).trans hg) a, b, c⟩
  | @resumeRunning g Γ p kk s e s' r l hg _ ih =>
    obtain ⟨a, b, c⟩ := ih hfs k
    exact ⟨.resumeRunning (s := backS G0 s) ((back_free (k.free_of hg rfl)).trans hg) a, b, c⟩
  | @resumeFinished g Γ p kk s e s' r l hg _ ih =>
    obtain ⟨a, b, c⟩ := ih hfs k
    exact ⟨.resumeFinished (s := backS G0 s) ((back_free (k.free_of hg rfl)).trans hg) a, b, c⟩
  | segRet _ _ ih1 ih2 =>
    rw [splitAtGen_ret] at hfs
    have hfs' := Option.map_eq_none_iff.mp hfs
    obtain ⟨a1, b1, _⟩ := ih1 rfl k
    obtain ⟨a2, b2, c2⟩ := ih2 hfs' b1
    exact ⟨.segRet a1 a2, b2, c2⟩
  | segGen _ _ ih1 ih2 => rw [splitAtGen_gen] at hfs; cases hfs
  | segSuspOut hs _ ih =>
    obtain ⟨a, b, c⟩ := ih rfl k
    refine ⟨.segSuspOut hs a, b, ?_⟩
    show splitAtGen (_ ++ _) = none
    rw [splitAtGen_append_none _ c, hs]; rfl
  | segSuspGen hs _ _ _ _ _ => rw [hs] at hfs; cases hfs

theorem wakes_back {M : Model} {Γ : PySem.Ctx} {p : Pos} {g : Nat} {r : Resume} {s s' : Shared} {x : GenResult} (h : Wakes M Γ p g r s x s') (k : Good G0 s.gens) : Wakes M Γ p g r (backS G0 s) x (backS G0 s') ∧ Good G0 s'.gens := by
  unfold Wakes at h
  cases hg : s.gens[g]? with
  | none => rw [hg] at h; exact h.elim
  | some gs =>
    rw [hg] at h
    have free : Free G0 g → (backS G0 s).gens[g]? = some gs := fun hf => (back_free hf).trans hg
    cases gs with
    | fresh c =>
      have hf : Free G0 g := k.free_of hg rfl
      have hb := free hf
      cases r with
      | send v =>
        by_cases hv : v = .none
        · subst hv
          obtain ⟨e1, s1, h1, hq, rfl, rfl⟩ := h
          obtain ⟨a, b, c1⟩ := runs_back h1 rfl (k.set hf fun _ _ _ _ _ _ q => by cases q)
          rw [back_setGen hf] at a
          refine ⟨?_, b.set hf c1.gen⟩
          unfold Wakes
          rw [hb]
          exact ⟨e1, _, a, hq, rfl, back_setGen hf⟩
        · have h : x = .justStarted ∧ s' = s := by cases v <;> first | exact absurd rfl hv | exact h
          obtain ⟨rfl, rfl⟩ := h
          refine ⟨?_, k⟩
          unfold Wakes
          rw [hb]
          cases v <;> first | exact absurd rfl hv | exact ⟨rfl, rfl⟩
      | throw y =>
        obtain ⟨rfl, rfl⟩ := h
        refine ⟨?_, k.set hf fun _ _ _ _ _ _ q => by cases q⟩
        unfold Wakes
        rw [hb]
        exact ⟨rfl, back_setGen hf⟩
    | suspended k₀ l₀ c₀ p₀ fs cl =>
      obtain ⟨e1, s1, h1, hq, rfl, rfl⟩ := h
      have stk : ∀ y, G0[g]? = some y → isSusp y = true → False := fun y ey hy => by
        have e1 := k.old g y ey hy
        rw [hg] at e1
        cases y with
        | suspended a b c d e f =>
          have e1 := Option.some.inj e1
          simp only [stuck, GenState.suspended.injEq] at e1
          rw [e1.1] at h1
          exact unsupported_not h1
        | _ => cases hy
      have hf : Free G0 g := fun y ey => by
        cases hy : isSusp y with
        | false => rfl
        | true => exact (stk y ey hy).elim
      have hsp : splitAtGen fs = none := by
        rcases k.new _ _ _ _ _ _ _ hg with ⟨y, ey, hy⟩ | q
        · exact (stk y ey hy).elim
        · exact q
      obtain ⟨a, b, c1⟩ := runs_back h1 hsp (k.set hf fun _ _ _ _ _ _ q => by cases q)
      rw [back_setGen hf] at a
      refine ⟨?_, b.set hf c1.gen⟩
      unfold Wakes
      rw [free hf]
      exact ⟨e1, _, a, hq, rfl, back_setGen hf⟩
    | running =>
      obtain ⟨rfl, rfl⟩ := h
      refine ⟨?_, k⟩
      unfold Wakes
      rw [free (k.free_of hg rfl)]
      exact ⟨rfl, rfl⟩
    | finished =>
      obtain ⟨rfl, rfl⟩ := h
      refine ⟨?_, k⟩
      unfold Wakes
      rw [free (k.free_of hg rfl)]
      exact ⟨rfl, rfl⟩
theorem wp_back {α : Type} (M : Model) (Γ : PySem.Ctx) (t : Sem α) : ∀ (Q : α → Pos → Shared → Prop) (E : Value → Pos → Shared → Prop) (p : Pos) (s : Shared), Good G0 s.gens → wp M Γ t Q E p s →
    wp M Γ t (fun a p' s' => ∃ s1, s' = backS G0 s1 ∧ Good G0 s1.gens ∧ Q a p' s1) (fun e p' s' => ∃ s1, s' = backS G0 s1 ∧ Good G0 s1.gens ∧ E e p' s1) p (backS G0 s) := by
  induction t with
  | pure a => intro Q E p s k h; exact ⟨s, rfl, k, h⟩
  | raise e => intro Q E p s k h; exact ⟨s, rfl, k, h⟩
  | unsupported _ => intro Q E p s _ h; exact h
  | finish _ => intro Q E p s _ h; exact h
  | rule _ kk ih => intro Q E p s k h; exact ih () Q E p s k h
  | «at» p' kk ih => intro Q E p s k h; exact ih () Q E p' s k h
  | load a _ kk ih => intro Q E p s k h; obtain ⟨o, ho, h⟩ := h; exact ⟨o, ho, ih o Q E p s k h⟩
  | update a _ f kk ih => intro Q E p s k h; exact ⟨h.1, ih () Q E p { s with heap := s.heap.update a f } k h.2⟩
  | loadIfAlive a kk ih => intro Q E p s k h; exact ih _ Q E p s k h
  | point _ kk ih => intro Q E p s k h; exact ih () Q E p s k h
  | register _ _ => intro Q E p s _ h; exact h
  | alloc o kk ih => intro Q E p s k h; exact ih _ Q E p { s with heap := s.heap.push o } k h
  | fresh kk ih => intro Q E p s k h; exact ih _ Q E p { s with toks := s.toks + 1 } k h
  | ask kk ih => intro Q E p s k h; exact ih _ Q E p s k h
  | choose src m kk ih => intro Q E p s k h; exact ⟨h.1, ih _ Q E p { s with drawn := s.drawn.bump src } k h.2⟩
  | os q _ kk ih => intro Q E p s k h; exact ih _ Q E p { s with os := (Os.step s.os q).1 } k h
  | call c hd _ _ kk ih => intro Q E p s k h; obtain ⟨r, s', hr, h⟩ := h; obtain ⟨a, b, _⟩ := runs_back hr rfl k; exact ⟨r, _, a, ih r Q E p s' b h⟩
  | handled own kk ih => intro Q E p s k h; exact ih _ Q E p s k h
  | genState g kk ih =>
    intro Q E p s k h
    obtain ⟨st, hs, h⟩ := h
    have hb := back_at G0 s.gens g
    rw [hs] at hb
    simp only [Option.map_some] at hb
    have go : ∀ st2, (back G0 s.gens)[g]? = some st2 → st2.seen = st.seen → wp M Γ (.genState g kk) (fun a p' s' => ∃ s1, s' = backS G0 s1 ∧ Good G0 s1.gens ∧ Q a p' s1) (fun e p' s' => ∃ s1, s' = backS G0 s1 ∧ Good G0 s1.gens ∧ E e p' s1) p (backS G0 s) := fun st2 e1 e2 =>
      ⟨st2, e1, by rw [e2]; exact ih _ Q E p s k h⟩
    cases q0 : G0[g]? with
    | none => rw [q0] at hb; exact go _ hb rfl
    | some y =>
      rw [q0] at hb
      cases qy : isSusp y with
      | false => simp only [qy] at hb; exact go _ hb rfl
      | true =>
        simp only [qy, if_true] at hb
        have e1 := k.old g y q0 qy
        rw [hs] at e1
        have e1 := Option.some.inj e1
        exact go _ hb (by rw [e1, stuck_seen])
  | newGen c kk ih =>
    intro Q E p s k h
    have := ih _ Q E p _ (k.push (c := c)) h
    show wp M Γ (kk (back G0 s.gens).size) _ _ p { s with gens := (back G0 s.gens).push (.fresh c) }
    rw [back_size, ← back_push k]
    exact this
  | resume g r _ kk ih => intro Q E p s k h; obtain ⟨res, s', hw, h⟩ := h; obtain ⟨a, b⟩ := wakes_back hw k; exact ⟨res, _, a, ih res Q E p s' b h⟩
  | yield _ _ _ _ => intro Q E p s _ h; exact h
  | stack kk ih => intro Q E p s k h; exact ih _ Q E p s k h
  | fork _ _ => intro Q E p s _ h; exact h
  | thread kk ih => intro Q E p s k h; exact ih _ Q E p s k h
  | await _ _ _ _ _ => intro Q E p s _ h; exact h
end
theorem good_map (G : Array GenState) : Good G (G.map stuck) := by
  refine ⟨by simp, fun i x e _ => by rw [Array.getElem?_map, e]; rfl, fun i k l c p fs cl e => ?_⟩
  rw [Array.getElem?_map] at e
  cases q : G[i]? with
  | none => rw [q] at e; cases e
  | some x =>
    rw [q] at e
    refine .inl ⟨x, rfl, ?_⟩
    cases x <;> first | rfl | cases e
theorem back_map (G : Array GenState) : back G (G.map stuck) = G := by
  apply Array.ext_getElem?
  intro i
  rw [back_at, Array.getElem?_map]
  cases q : G[i]? with
  | none => rfl
  | some x =>
    simp only [Option.map_some]
    cases x <;> rfl
theorem back_bare {G0 G : Array GenState} (h0 : PyProof.Rows.AllBare G0) (h : PyProof.Rows.AllBare G) : PyProof.Rows.AllBare (back G0 G) := fun y hy => by
  obtain ⟨i, hi, e⟩ := Array.mem_iff_getElem.mp hy
  have e' : (back G0 G)[i]? = some y := by rw [Array.getElem?_eq_getElem hi, e]
  rw [back_at] at e'
  cases q : G[i]? with
  | none => rw [q] at e'; cases e'
  | some x =>
    rw [q] at e'
    have hx : x.bare = true := h x (Array.mem_of_getElem? q)
    cases q0 : G0[i]? with
    | none => rw [q0] at e'; cases e'; exact hx
    | some z =>
      rw [q0] at e'
      have hz : z.bare = true := h0 z (Array.mem_of_getElem? q0)
      simp only [Option.map_some, Option.some.injEq] at e'
      subst e'
      split
      · exact hz
      · exact hx
theorem wpAny_back {α : Type} {M : Model} {A : Around} {t : Sem α} {Q : α → Shared → Prop} {E : Value → Shared → Prop} {s : Shared} (h : wpAny M A t Q E { s with gens := s.gens.map stuck }) :
    wpAny M A t (fun a s' => ∃ s1, s' = backS s.gens s1 ∧ Good s.gens s1.gens ∧ Q a s1) (fun e s' => ∃ s1, s' = backS s.gens s1 ∧ Good s.gens s1.gens ∧ E e s1) s := fun Γ p hΓ => by
  have := wp_back (G0 := s.gens) M Γ t _ _ p { s with gens := s.gens.map stuck } (good_map _) (h Γ p hΓ)
  have e : backS s.gens { s with gens := s.gens.map stuck } = s := by
    show ({ s with gens := back s.gens (s.gens.map stuck) } : Shared) = s
    rw [back_map]
  rw [e] at this
  exact this

/-- those that sleep, sleep on -/
def Kept (G G' : Array GenState) : Prop := G.size ≤ G'.size ∧ ∀ (g : Nat) x, G[g]? = some x → isSusp x = true → G'[g]? = some x
theorem kept_back {G0 G : Array GenState} (k : Good G0 G) : Kept G0 (back G0 G) := by
  refine ⟨by rw [back_size]; exact k.sz, fun g x e hx => ?_⟩
  rw [back_at, k.old g x e hx, e]
  simp [hx]
open PyProof.Rows
theorem pss_kept {X : Cx} {st : List Stmt} {t : TS} (hx : X.xe = fun _ _ => False) (h : PSs X st t) {pins : List (Addr × Obj)} {s : Shared} {σ : L2.St} {H : Hp} {D : L2.Ends} (I : Inv X pins σ H s) (q : t D σ H) :
    wpAny (model X.prog X.w) X.A (execs st X.env) (fun f s' => SP X pins D f s' ∧ Kept s.gens s'.gens) (fun _ _ => False) s := by
  have hb : AllBare (s.gens.map stuck) := fun y hy => by
    obtain ⟨x, hx, e⟩ := Array.mem_map.mp hy
    rw [← e]; exact stuck_bare (I.bare x hx)
  refine wpAny_mono (wpAny_back (h.run pins { s with gens := s.gens.map stuck } σ H D (Inv.regens I hb) q)) (fun f s' hq => ?_) fun e s' hq => ?_
  · obtain ⟨s1, rfl, k, hq⟩ := hq
    refine ⟨?_, kept_back k⟩
    have go : ∀ {σ' : L2.St} {H' : Hp}, Inv X pins σ' H' s1 → Inv X pins σ' H' (backS s.gens s1) := fun J => Inv.regens J (back_bare I.bare J.bare)
    cases f with
    | next => obtain ⟨σ', H', J, q⟩ := hq; exact ⟨σ', H', go J, q⟩
    | brk => obtain ⟨σ', H', J, q⟩ := hq; exact ⟨σ', H', go J, q⟩
    | cont => obtain ⟨σ', H', J, q⟩ := hq; exact ⟨σ', H', go J, q⟩
    | ret u => obtain ⟨v, σ', H', J, r, q⟩ := hq; exact ⟨v, σ', H', go J, r, q⟩
  · obtain ⟨s1, _, _, hq⟩ := hq
    rw [hx] at hq
    exact hq.elim
end Wv
end WvM_part
section WvN_part
set_option Elab.async false
set_option linter.all false
set_option maxRecDepth 100000
set_option maxHeartbeats 1000000
/-! WvN: for over a generator that yields plainly; the body plain. -/
namespace Wv
open PySem L2 PySem.Spec
open PyProof.Rows

def Plainly (g : Nat) (_ G' : Array GenState) : Prop := AllBare G' ∧ g < G'.size
/-- W m: the slots, with m items left -/
def tForN (tgen : TGen) (gt : TG) (tb : TS) : TS := fun D σ H => ∃ n item fin, tgen σ H n item fin ∧ ∃ W : Nat → L2.St → Prop, W n σ ∧
  (∀ m x σ' H1, m < n → W (m + 1) σ' → item m x H1 → gt x σ' H1 fun σ2 H2 => tb { nx := fun σ3 H3 => Same H1 H3 ∧ W m σ3, ct := fun σ3 H3 => Same H1 H3 ∧ W m σ3, bk := fun _ _ => False, rt := fun _ _ => False } σ2 H2) ∧
  ∀ m σ' H1, W m σ' → fin m H1 → D.nx σ' H1

section
variable {X : Cx} {pins : List (Addr × Obj)}
/-- the loop stands ahead of a turn: m items are to come -/
def ForI (X : Cx) (pins : List (Addr × Obj)) (N : List Str) (env : Env) (n0 g : Nat) (a : Addr) (item : Nat → V → Hp → Prop) (fin : Nat → Hp → Prop) (W : Nat → L2.St → Prop) (n m : Nat) (s : Shared) : Prop :=
  m ≤ n ∧ ∃ H σ, Inv X pins σ H s ∧ W m σ ∧ H a = none ∧ GenObj s.heap a g ∧
    ∃ gs nd Hn sn, s.gens[g]? = some gs ∧ Slp ⟨X.prog, X.w, X.K, X.mg, X.base, N, env, X.A.in1, X.stack, n0, [a], g, Plainly g, item, fin, True⟩ nd Hn sn H (s.setGen g .running) ∧
      ∀ w' s', Slp ⟨X.prog, X.w, X.K, X.mg, X.base, N, env, X.A.in1, X.stack, n0, [a], g, Plainly g, item, fin, True⟩ nd Hn sn w' s' → g < s'.gens.size →
        WakeN (model X.prog X.w) X.A.in1 g (GD.prot ⟨X.prog, X.w, X.K, X.mg, X.base, N, env, X.A.in1, X.stack, n0, [a], g, Plainly g, item, fin, True⟩) m w' gs s'

theorem forN_loop {tg : Expr} {body : List Stmt} {gt : TG} {tb : TS} {N : List Str} {env : Env} {n0 g n : Nat} {a : Addr} {item : Nat → V → Hp → Prop} {fin : Nat → Hp → Prop} {W : Nat → L2.St → Prop} {D : L2.Ends} (hx : X.xe = fun _ _ => False) (hh : X.A.handled = none) (hroom : X.A.depth < recursionLimit)
    (hg : PG X tg gt) (hb : PSs X body tb) (hloc : X.env.locals < n0) (hs0 : X.s_0.heap.objs.size ≤ n0) (hcl : ∀ x c, X.env.cells.lookup x = some c → c < n0) (hpn : ∀ p ∈ X.pn ++ pins, p.1 < n0) (hfs : ∀ b ∈ X.fs, b < n0) (ha : n0 ≤ a)
    (step : ∀ m x σ' H1, m < n → W (m + 1) σ' → item m x H1 → gt x σ' H1 fun σ2 H2 => tb { nx := fun σ3 H3 => Same H1 H3 ∧ W m σ3, ct := fun σ3 H3 => Same H1 H3 ∧ W m σ3, bk := fun _ _ => False, rt := fun _ _ => False } σ2 H2)
    (done : ∀ m σ' H1, W m σ' → fin m H1 → D.nx σ' H1) :
    ∀ (m : Nat) (s : Shared), ForI X pins N env n0 g a item fin W n m s → codeS (model X.prog X.w) (X.A.mark none) (.forLoop tg (.ref a) body [] X.env) (fun r s' => match r with | .ok f => SP X pins D f s' | .error _ => False) s := by
  intro m s hI
  refine codeS_loop rfl (ForI X pins N env n0 g a item fin W n) ?_ m hI
  clear hI s m
  rintro m s ⟨hmn, H, σ, I, hw, hHa, obj, gs, nd, Hn, sn, hgs, z, wk⟩
  have hgl : g < s.gens.size := (Array.getElem?_eq_some_iff.mp hgs).1
  have eA : (X.A.mark none).under (.forLoop tg (.ref a) body [] X.env) = X.A := by
    rw [show X.A.mark none = X.A from Around.mark_none _]
    exact Around.under_of_weight rfl
  rw [eA]
  show wpS _ X.A ((forTurn tg (.ref a) body [] X.env).onRaise (fun x => do noteFrame x X.env; theTreesLotGoes x)) _ _ s
  refine wpS_onRaise ?_
  unfold forTurn
  refine wpS_bind (wpS_at ?_)
  have behind : ∀ {H' : Hp} {s1 : Shared}, Rel ⟨X.prog, X.w, X.K, X.mg, X.base, N, env, X.A.in1, X.stack, n0, [a], g, Plainly g, item, fin, True⟩ H (s.setGen g .running) H' s1 → Inv X pins σ H' { s1 with gens := #[] } := fun {H' s1} r =>
    Inv.behind I n0 hloc hs0 hcl hpn r.os r.un r.hok AllBare.empty
  refine wpS_bind (wpS_onRaise (pyNextS (A := X.A) hh I.nolimit hroom obj hgs (wk H _ z (by rw [GenW.setGen_size]; exact hgl)) (fun v s1 gs1 hv => ?_) fun r s1 hr => ?_))
  · cases m with
    | zero => exact hv.elim
    | succ m =>
      obtain ⟨⟨hsu, hgb⟩, x, H1, nd1, rx, hit, rel, hnd, hbare, wk1⟩ := hv
      have hgb : gs1.bare = true := hgb trivial
      have hbare : AllBare s1.gens := hbare trivial
      have hg1 : g < s1.gens.size := rel.gsz
      obtain ⟨pa1, pa2⟩ := rel.pa a (List.mem_singleton.mpr rfl)
      have pa1 : s1.heap.get? a = s.heap.get? a := pa1
      have pa2 : H1 a = none := pa2
      have obj1 : GenObj s1.heap a g := obj.at fun o e => pa1.trans e
      obtain ⟨oa, nm, qn, hoa, hoc, hod, hos⟩ := id obj1
      have I1 : Inv X pins σ H1 (s1.setGen g gs1) := Inv.regens (s := { s1 with gens := #[] }) (behind rel) (allBare_setGen (s := s1) hbare hgb)
      -- what the generator needs is pinned
      have I2 : Inv X (pins ++ (a, oa) :: nd1) σ H1 (s1.setGen g gs1) := I1.pins_of fun p hp => by
        rcases List.mem_append.mp hp with hp | hp
        · exact I1.pin p (List.mem_append_right _ hp)
        · rcases List.mem_cons.mp hp with e | hp
          · rw [e]
            exact ⟨hoa, pa2, Nat.ne_of_gt (Nat.lt_of_lt_of_le hloc ha), fun hb => absurd (Nat.lt_of_lt_of_le (hfs _ hb) ha) (Nat.lt_irrefl _), fun v q => by rw [hod] at q; cases q⟩
          · obtain ⟨q1, q2, q3, _, q5⟩ := hnd p hp
            have q3 : n0 ≤ p.1 := q3
            exact ⟨q1, q2, Nat.ne_of_gt (Nat.lt_of_lt_of_le hloc q3), fun hb => absurd (Nat.lt_of_lt_of_le (hfs _ hb) q3) (Nat.lt_irrefl _), q5⟩
      have main : ∀ G, AllBare G → wpAny (model X.prog X.w) X.A (do letOwnedTupleGo tg (.ref a) v; assign tg X.env v; execs body X.env) (SP X (pins ++ (a, oa) :: nd1) { nx := fun σ3 H3 => Same H1 H3 ∧ W m σ3, ct := fun σ3 H3 => Same H1 H3 ∧ W m σ3, bk := fun _ _ => False, rt := fun _ _ => False }) (fun _ _ => False) { s1 with gens := G } := fun G hG => by
        refine wpAny_bind (go_of (s := { s1 with gens := G }) hoa hoc hod (by decide) ?_)
        refine wpAny_bind (wpAny_mono (hg.run _ { s1 with gens := G } σ H1 x v _ (Inv.regens (s := s1.setGen g gs1) I2 hG) rx (step m x σ H1 (by omega) hw hit)) (fun _ s6 h6 => ?_) fun _ _ q => by rw [hx] at q; exact q)
        obtain ⟨σ6, H6, I6, q6⟩ := h6
        exact wpAny_mono (hb.run _ s6 σ6 H6 _ I6 q6) (fun _ _ q => q) fun _ _ q => by rw [hx] at q; exact q
      have hb1 : AllBare (s1.setGen g gs1).gens := I1.bare
      show wpS _ X.A (do letOwnedTupleGo tg (.ref a) v; assign tg X.env v; match ← execs body X.env with
        | .next | .cont => again (.forLoop tg (.ref a) body [] X.env)
        | .brk => pure (.done .next)
        | .ret v => pure (.done (.ret v))) _ _ (s1.setGen g gs1)
      have e : (do letOwnedTupleGo tg (.ref a) v; assign tg X.env v; match ← execs body X.env with
        | .next | .cont => again (.forLoop tg (.ref a) body [] X.env)
        | .brk => pure (.done .next)
        | .ret v => pure (.done (.ret v)) : Sem PySem.Fin) = ((do letOwnedTupleGo tg (.ref a) v; assign tg X.env v; execs body X.env) >>= fun f => match f with
        | .next | .cont => again (.forLoop tg (.ref a) body [] X.env)
        | .brk => pure (.done .next)
        | .ret v => pure (.done (.ret v))) := by simp only [bind_assoc]
      rw [e]
      refine wpS_bindA (wpAny_mono (wpAny_back (s := s1.setGen g gs1) (main ((s1.setGen g gs1).gens.map stuck) fun y hy => by
        obtain ⟨x, hx, e⟩ := Array.mem_map.mp hy
        rw [← e]; exact stuck_bare (hb1 x hx))) (fun f s7 q7 => ?_) fun _ _ q => by obtain ⟨_, _, _, q⟩ := q; exact q.elim)
      obtain ⟨s8, rfl, kb, q7⟩ := q7
      have kept := kept_back kb
      have again : ∀ {σ7 : L2.St} {H7 : Hp}, Inv X (pins ++ (a, oa) :: nd1) σ7 H7 s8 → Same H1 H7 ∧ W m σ7 → ForI X pins N env n0 g a item fin W n m (backS (s1.setGen g gs1).gens s8) := fun {σ7 H7} I7 ⟨sm, w7⟩ => by
        have I8 : Inv X (pins ++ (a, oa) :: nd1) σ7 H7 (backS (s1.setGen g gs1).gens s8) := Inv.regens I7 (back_bare hb1 I7.bare)
        have pin : ∀ p ∈ (a, oa) :: nd1, s8.heap.get? p.1 = some p.2 ∧ H7 p.1 = none ∧ ∀ v, p.2.data ≠ .cell v := fun p hp => by
          obtain ⟨q1, q2, _, _, q5⟩ := I8.pin p (List.mem_append_right _ (List.mem_append_right _ hp))
          exact ⟨q1, q2, q5⟩
        obtain ⟨pa3, pa4, pa5⟩ := pin (a, oa) List.mem_cons_self
        refine ⟨by omega, H7, σ7, I8.unpinned, w7, pa4, ⟨oa, nm, qn, pa3, hoc, hod, hos⟩, gs1, nd1, H1, s1, ?_, ⟨sm, I8.hok, fun p hp => ?_, fun b hb => ?_, I8.bs, I8.stack, I8.stkFree, ?_⟩, fun w' s' z _ => wk1 w' s' z⟩
        · exact kept.2 g gs1 (setGen_at hg1) hsu
        · obtain ⟨q1, q2, _⟩ := pin p (List.mem_cons_of_mem _ hp)
          exact ⟨q1, q2⟩
        · have hb : b = a := List.mem_singleton.mp hb
          subst hb
          exact ⟨pa4, oa, pa3, pa5⟩
        · refine ⟨allBare_setGen (s := backS (s1.setGen g gs1).gens s8) I8.bare rfl, ?_⟩
          show g < ((backS (s1.setGen g gs1).gens s8).setGen g .running).gens.size
          rw [GenW.setGen_size]
          refine Nat.lt_of_lt_of_le ?_ kept.1
          rw [GenW.setGen_size]; exact hg1
      cases f with
      | next => obtain ⟨σ7, H7, I7, n7⟩ := q7; exact wpS_pure (.inl ⟨rfl, m, Nat.lt_succ_self _, again I7 n7⟩)
      | cont => obtain ⟨σ7, H7, I7, n7⟩ := q7; exact wpS_pure (.inl ⟨rfl, m, Nat.lt_succ_self _, again I7 n7⟩)
      | brk => obtain ⟨_, _, _, q⟩ := q7; exact q.elim
      | ret v => obtain ⟨_, _, _, _, _, q⟩ := q7; exact q.elim
  · obtain ⟨hres, H1, rel, hbare, hq⟩ := hr
    refine ⟨hres, fun h' k => ?_⟩
    have J : Inv X pins σ H1 { s1.setGen g .finished with heap := h' } := Inv.regens (s := { s1 with gens := #[], heap := h' }) (Inv.kept (t' := s1.toks) (behind rel) k) (allBare_setGen (s := s1) hbare rfl)
    refine wpS_pure (.inr ⟨rfl, codeS_of_tree ?_⟩)
    show wpS _ _ (do return Fin.done (← (execs [] X.env).onRaise (fun x => do noteFrame x X.env; theTreesLotGoes x))) _ _ _
    refine wpS_bind (wpS_onRaise ?_)
    rw [execs_nil]
    exact wpS_pure (wpS_pure ⟨σ, H1, J, done m σ H1 hw hq⟩)

theorem pss_forN {tg e : Expr} {body : List Stmt} {tgen : TGen} {gt : TG} {tb : TS} {k : Nat} {pos : Pos} (hx : X.xe = fun _ _ => False) (hr : Room (k + 1) X.A) (he : PGn X k False e tgen) (hg : PG X tg gt) (hb : PSs X body tb)
    (hs : ∀ x, foldedSetIterable e X.env x = pure x := by intro _; rfl) : PSS X (.For tg e body [] pos) (tForN tgen gt tb) := by
  refine ⟨fun pins s σ H D I h => ?_⟩
  obtain ⟨n, item, fin, hq, W, hw, step, done⟩ := h
  rw [exec_For]
  refine wpS_bind (wpS_at (wpS_bindA (wpAny_mono (he.run pins s σ H _ _ _ I hq) (fun u s1 ⟨H1, sc, Isc, hgsz, hG⟩ => ?_) fun _ _ q => q)))
  have I1 := GMk.inv Isc hG
  obtain ⟨a, N, env, c', nd, rfl, ha1, ha2, hgen, hgs, hos, hkp, hnd, wk⟩ := hG
  rw [hs]
  refine wpS_bind (wpS_pure (wpS_bind (wpS_at ?_)))
  refine wpS_bindA (wpAny_holding (wpAny_pyIter_gen hgen ?_))
  unfold runOwn
  have hfs : ∀ b ∈ X.fs, b < sc.heap.objs.size := fun b hb => by
    obtain ⟨_, o, ho, _⟩ := Isc.funs.mem hb
    exact Heap.lt_size ho
  have hl := forN_loop (pins := pins) (N := N) (env := env) (n0 := sc.heap.objs.size) (g := sc.gens.size) (n := n) (a := a) (item := item) (fin := fin) (W := W) (D := D) (tg := tg) (body := body) hx hr.hd (by have := hr.dp; omega) hg hb Isc.lt Isc.sz
    (fun x c e => (Isc.cell x c e).elim fun v q => q.lt) (fun p hp => Heap.lt_size (Isc.pin p hp).1) hfs ha1 step done n s1 ?_
  · refine wpS_onRaise (wpS_run (hd := none) (codeS_mono hl fun r s' q => ?_))
    cases r with
    | ok f => exact q
    | error x => exact q.elim
  · have hHa : H1 a = none := Isc.hok.fresh ha1
    refine ⟨Nat.le_refl _, H1, σ, I1, hw, hHa, .of_isGen hgen, .fresh c', nd, H1, s1, ?_, ⟨Same.refl _, I1.hok, fun p hp => ?_, fun b hb => ?_, I1.bs, I1.stack, I1.stkFree, ?_⟩, fun w' s' z hg => ?_⟩
    · rw [hgs]; exact Array.getElem?_push_size ..
    · obtain ⟨q1, q2, _⟩ := hnd p hp
      exact ⟨q1, q2⟩
    · have hb : b = a := List.mem_singleton.mp hb
      subst hb
      obtain ⟨o, nm, qn, h1, _, h3, _⟩ := hgen
      exact ⟨hHa, o, h1, fun v q => by rw [h3] at q; cases q⟩
    · refine ⟨allBare_setGen I1.bare rfl, ?_⟩
      rw [GenW.setGen_size, hgs, Array.size_push]
      exact Nat.lt_succ_self _
    · exact wk X.A.in1 [a] (Plainly sc.gens.size) True ⟨hr.hd, by have := hr.dp; show X.A.depth + 3 * k + 5 < _; omega, by have := hr.un; show X.A.units + 1 + 16 * k + 200 < _; omega⟩ Isc.ok.frames
        (fun b hb => .inl (List.mem_singleton.mp hb)) (fun G G' _ c => c.1) (fun G G' c _ => c.2) (fun q => q.elim) w' s' z hg
end
end Wv
end WvN_part
section WvO_part
set_option Elab.async false
set_option linter.all false
set_option maxRecDepth 100000
set_option maxHeartbeats 1000000
/-! WvO: from the law's promise to the row. -/
namespace Wv
open PySem PySem.W PySem.Calls PyProof.Rows

/-- the caller's thread, by the bridge -/
theorem ends_of_wpS {M : Model} {A : Around} {R : Result → Shared → Prop} {t : Sem PySem.Fin} {s : Shared} {c : Code} {p : Pos} (hin : (PySem.Ctx.of c []).In A)
    (h : wpS M A t (fun fin s' => ∃ f, fin = .done f ∧ R (.ok f) s' ∧ leftWithCleanup s'.gens = false) (fun e s' => R (.error e) s' ∧ leftWithCleanup s'.gens = false) s) : Ends M R s ⟨t, c, p, []⟩ := by
  have e : t = t.wrap (fun x => .pure x) .raise id id := by rw [← Sem.bind_eq_wrap, Sem.bind_pure]
  rw [e]
  refine h R c [] p _ _ _ _ hin (fun fin s' p' q => ?_) fun x s' p' q => ?_
  · obtain ⟨f, rfl, q1, q2⟩ := q
    exact Ends.leaf (.ok f) q2 q1
  · exact Ends.leaf (.error x) q.2 q.1

theorem callFrom_S {c : ClaimW} {tree : List Value → Sem PySem.Fin} {w : World} {s : Shared} {free : Addr → Prop} {gens : Prop} {kept : Heap → Prop} (hz : s.asleep) (hgens : s.gens = #[])
    (hspec : ∀ args, c.pre args = true → WData.layableAll args = true →
      ∀ ord : List DictEntry → List DictEntry, (∀ l, (ord l).Perm l) →
      ∃ vs s₁, layAllW c.records (classAt s.heap) w.params ord args s = some (vs, s₁) ∧
        wpS (model c.prog w) callerA (tree vs) (fun fin s' => ∃ f, fin = .done f ∧ (c.Ends s args vs s₁ (.ok f) s' ∧ s'.os = s.os ∧ AllBare s'.gens ∧ kept s'.heap))
          (fun e s' => c.Ends s args vs s₁ (.error e) s' ∧ s'.os = s.os ∧ AllBare s'.gens ∧ kept s'.heap) s₁) :
    c.CallFrom (fun vs => ⟨tree vs, .builtin "claim.caller" {}, default, []⟩) w free gens kept s := by
  intro args hpre hlay ord hord
  obtain ⟨vs, s₁, hlaid, hcode⟩ := hspec args hpre hlay ord hord
  have hal := layAllW_rest _ _ _ hlaid
  have hends : Ends (model c.prog w) (fun r s' => c.Ends s args vs s₁ r s' ∧ s'.os = s.os ∧ kept s'.heap) s₁ ⟨tree vs, .builtin "claim.caller" {}, default, []⟩ :=
    ends_of_wpS caller_in (wpS_mono hcode (fun fin s' ⟨f, e, h1, h2, h3, h4⟩ => ⟨f, e, ⟨h1, h2, h4⟩, leftWithCleanup_false_of_bare h3⟩) fun e s' ⟨h1, h2, h3, h4⟩ => ⟨⟨h1, h2, h4⟩, leftWithCleanup_false_of_bare h3⟩)
  obtain ⟨k, r, s', s'', hsched, hfo, ⟨hcase, hos, hkp⟩, hlife1⟩ := Ends.sched (Shared.asleep_of_life hal.2.2.2 hz) hends
  obtain ⟨eh, _, _, eo, _⟩ := Shared.forget_eq hfo
  have hcase := hcase.congr eh
  have hkp : kept s'.heap := by first | exact eh ▸ hkp | (rw [eh] at hkp; exact hkp) | (rw [← eh] at hkp; exact hkp)
  rw [← eo] at hos
  have hlife : s'.heap.life = s.heap.life := hlife1.trans hal.2.2.2
  refine ⟨vs, s₁, hlaid, k, _, s', hsched, ?_, (fun _ i x hx => by rw [hgens] at hx; simp at hx), hkp, by rw [hlife], Shared.rest_eq hos⟩
  rcases hcase with ⟨v, rfl, d1, d2, d3, d4, d5⟩ | ⟨e, ob, cls, rfl, d1, d2, d3, d4, d5⟩
  · exact .inl ⟨v, rfl, d1, d2, d3, fun b o y _ => d4 b o y, d5⟩
  · exact .inr ⟨e, ob, cls, rfl, d1, d2, d3, d4, fun b o y _ => d5 b o y⟩

theorem open_S {r : RowW} {run : Value → List Value → Sem Value} {tree : List Value → Sem PySem.Fin} {q : Program} {loose defs kps : List Str} {writes : Bool} {Xt : Shared → Bool} {XP : (Str → Option Value) → Heap → Prop} {α : Type} {Yf : Shared → α} {Ya : World → α} {YP : World → Heap → Prop} {N : Nat}
    (left : LeftO r.prog q loose Xt Yf Ya N) (hY : ∀ w s, Yf s = Ya w → YP w s.heap) (hYk : ∀ w h h', YP w h → (∀ b o, h.get? b = some o → h'.get? b = some o) → YP w h') (hX : ∀ s, Xt s = true → XP (s.heap.nsMap mainGlobals) s.heap) (hXk : ∀ mg h h', XP mg h → (∀ b o, h.get? b = some o → h'.get? b = some o) → XP mg h')
    (hRf : ∀ s, Xt s = true → RecFacts r.records s.heap) (hwr : (!writes || r.records.isEmpty) = true) (ok : (chainsOk q && opensWell r.prog && (frees r && r.within.isEmpty)) = true) (hb : r.prog.bare) (hw : r.promised)
    (ht : ∀ vs (w : World) (s : Shared) mg f (Q : PySem.Fin → Shared → Prop) (E : Value → Shared → Prop), s.heap.Ns mainGlobals mg → mg r.name = some f → wpS (model r.prog w) callerA (run f vs) (fun v s' => Q (.done (.ret v)) s') E s → wpS (model r.prog w) callerA (tree vs) Q E s)
    (pin : ∀ w s, s.heap.isNs mainGlobals = true → Ground q loose [] XP w s (s.heap.nsMap mainGlobals) (s.heap.nsMap builtinsNs) s.heap → ∀ n ∈ defs, isTheDefsW r.prog s.heap n)
    (call : ∀ (w : World) (s₀ s₁ : Shared) (mg mb : Str → Option Value), Ground q loose r.records XP w s₀ mg mb s₁.heap → YP w s₁.heap → ∀ (args : List WData) (vs : List Value) (as : List Addr),
      r.claim.pre args = true → WData.layableAll args = true → Laid r.records w s₀ s₁ args vs as → sysModules < s₀.heap.objs.size → ∃ f, mg r.name = some f ∧
        wpS (model r.prog w) callerA (run f vs) (fun v s' => GoodWG r.claim (classAt s₀.heap) (ExcName.means s₀.heap) args s₁ (.ok (.ret v)) s')
          (fun e s' => GoodWG r.claim (classAt s₀.heap) (ExcName.means s₀.heap) args s₁ (.error e) s') s₁) : r.claim.HoldsOpenBy (fun vs => ⟨tree vs, .builtin "claim.caller" {}, default, []⟩) defs kps writes := by
  obtain ⟨ok, k5⟩ := Bool.and_eq_true_iff.mp ok
  obtain ⟨hch, o1⟩ := Bool.and_eq_true_iff.mp ok
  obtain ⟨k5, k6⟩ := Bool.and_eq_true_iff.mp k5
  obtain ⟨hsame, hu, ha, hap, hm⟩ := frees_parts k5
  refine ⟨⟨hb, o1, by show r.makers.map _ = []; rw [hm]; rfl⟩, hw.witness, fun w => ⟨(left.behind hX hch w).1, fun s' hs' => ?_⟩⟩
  obtain ⟨s₀, hf, hg0, s, hT, hz, hgens, hg, G00, y⟩ := (left.behind (XP := fun mg h => XP mg h ∧ RecFacts r.records h) (fun s hs => ⟨hX s hs, hRf s hs⟩) hch w).2 s' hs'
  have G0 : Ground q loose [] XP w s (s.heap.nsMap mainGlobals) (s.heap.nsMap builtinsNs) s.heap := ⟨G00.T, G00.B, G00.D, G00.TE, G00.TD, G00.W, G00.X.1, G00.cls, G00.has, G00.apart, G00.once, G00.K⟩
  have RF := G00.X.2
  have hT' := hT
  refine ⟨s₀, hf, hg0, s, hT, pin w s hg G0, RF.1, RF.2.1, ?_⟩
  have hgens : s.gens = #[] := Array.eq_empty_of_size_eq_zero (beq_iff_eq.mp hgens)
  have G : Ground q loose r.records XP w s _ _ s.heap := RF.ground G0
  refine callFrom_S (c := r.claim) hz hgens fun args hpre hlay ord hord => ?_
  obtain ⟨⟨vs, s₁⟩, hlaid⟩ := Option.isSome_iff_exists.mp (layAllW_isSome (P := w.params) (ord := ord) G.has args r.args s (pre_splitW hpre).1)
  have keeps := layAllW_keeps _ _ _ hlaid
  have hal := layAllW_rest _ _ _ hlaid
  obtain ⟨as, hrd, hin, hold⟩ := reads_layAllW hord _ _ _ hlaid hlay s₁.heap (fun _ _ e => e)
  have L : Laid r.records w s s₁ args vs as := ⟨⟨ord, hord, hlaid⟩, hrd, hin, hold, keeps, hal.1.trans hgens, hal.2.2.1⟩
  have G₁ := G.keeps hXk keeps
  obtain ⟨f, hf, h⟩ := call w s s₁ _ _ G₁ (hYk _ _ _ (hY w s y) keeps) args vs as hpre hlay L G.low
  have hi := ident_freeW hu ha hap
  have hwi : r.claim.within = [] := List.isEmpty_iff.mp k6
  exact ⟨vs, s₁, hlaid, ht vs w s₁ _ f _ _ G₁.T.g hf (wpS_mono h (fun v s' g => ⟨_, rfl, have z := g.laid (c := r.claim) hsame hwi hi L; ⟨z.1, z.2.1, z.2.2, fun q => ⟨namesKept_of hT' hg kps keeps g.2.1.old, noTable hwr q⟩⟩⟩) fun e s' g => have z := g.laid (c := r.claim) hsame hwi hi L; ⟨z.1, z.2.1, z.2.2, fun q => ⟨namesKept_of hT' hg kps keeps g.2.1.old, noTable hwr q⟩⟩)⟩

abbrev WalkS (q : Program) (loose : List Str) (XP : (Str → Option Value) → Heap → Prop) (YP : World → Heap → Prop) (r : RowW) (d : DefRec) (kwd : List (Str × Expr)) (run : Value → List Value → Sem Value) : Prop :=
  ∀ (w : World) (s₀ s₁ : Shared) (mg mb : Str → Option Value), Ground q loose r.records XP w s₀ mg mb s₁.heap → YP w s₁.heap → ∀ (a : Addr) (o : Obj) (pm cd doc dV kV : Value), s₁.heap.get? a = some o →
    o.data = .func { docDef d.name d.params d.body d.scope pm cd doc with defaults := dV, kwdefaults := kV } → s₁.heap.CodeRec cd d.name → Dflts mg s₁.heap d.params kwd dV kV → mg d.name = some (.ref a) → s₁.gens = #[] →
    ∀ (args : List WData) (vals : List Value) (as : List Addr), r.claim.pre args = true → WData.layableAll args = true → ReadsAllW r.records (classAt s₀.heap) s₁.heap vals args as → WellAll w.params s₁.heap vals args → (∀ a ∈ as, (a == sysModules) = false) →
      wpS (model r.prog w) callerA (run (.ref a) vals) (fun v s' => GoodWG r.claim (classAt s₀.heap) (ExcName.means s₀.heap) args s₁ (.ok (.ret v)) s')
        (fun e s' => GoodWG r.claim (classAt s₀.heap) (ExcName.means s₀.heap) args s₁ (.error e) s') s₁
theorem holds_S {r : OpenRow} {q : Program} {loose : List Str} {Xt : Shared → Bool} {XP : (Str → Option Value) → Heap → Prop} {α : Type} {Yf : Shared → α} {Ya : World → α} {YP : World → Heap → Prop} {d : DefRec} {kwd : List (Str × Expr)} {N : Nat}
    (left : LeftO r.prog q loose Xt Yf Ya N) (hY : ∀ w s, Yf s = Ya w → YP w s.heap) (hYk : ∀ w h h', YP w h → (∀ b o, h.get? b = some o → h'.get? b = some o) → YP w h')
    (hX : ∀ s, Xt s = true → XP (s.heap.nsMap mainGlobals) s.heap) (hXk : ∀ mg h h', XP mg h → (∀ b o, h.get? b = some o → h'.get? b = some o) → XP mg h')
    (hdef : defOf q r.name = some (d, kwd)) (hp : r.prog.theDef r.name = some (d.params, d.body, d.scope)) (hk : kwWritten? d.params.kwonlyargs d.params.kw_defaults = some kwd) (hRf : ∀ s, Xt s = true → RecFacts r.records s.heap) (hwr : (!r.writes || r.records.isEmpty) = true)
    (k1 : r.wellSaid = true) (ok : (chainsOk q && opensWell r.prog && (frees r.toRowW && r.within.isEmpty)) = true) (hb : r.prog.bare) (hw : r.toRowW.promised)
    (call : WalkS q loose XP YP r.toRowW d kwd fun f vs => PySem.call f vs) : r.Holds := by
  refine ⟨k1, hw, open_S (r := r.toRowW) (run := fun f vs => PySem.call f vs) (tree := fun vs => do match ← nsGet mainNs r.name with
      | some f => do ret (← PySem.call f vs)
      | none => unsupported "claim.caller:no-such-global") left hY hYk hX hXk hRf hwr ok hb hw
    (fun vs w s mg f Q E hg hf h => wpS_bindA (wpAny_nsGet hg (by rw [hf]; exact wpS_bind (wpS_mono h (fun _ _ x => wpS_pure x) fun _ _ x => x))))
    (fun w s hg G n hn => ?_) fun w s₀ s₁ mg mb G Y args vs as hpre hlay L low => ?_⟩
  · obtain rfl : n = r.name := by split at hn <;> simp_all
    exact pinned_of_view hg G hdef hp hk
  · obtain ⟨a, o, pm, cd, doc, dV, kV, h1, h2, h3, h4, h5⟩ := G.fn hdef
    exact ⟨.ref a, h1, call w s₀ s₁ mg mb G Y a o pm cd doc dV kV h2 h3 h4 h5 (defOf_name hdef ▸ h1) L.gens args vs as hpre hlay L.reads L.well (L.low low)⟩
open HandSHeadRun in
theorem head_S {r : OpenRow} {q : Program} {H : Hook} {ob : SharedT → H.α} {M : Nat} {loose : List PySem.Str} {d : DefRec} {kwd : List (PySem.Str × PySem.Expr)} (ho : ∀ s : SharedT, ob s = H.obs s.abs)
    (e : opening r.prog = plainProg r.prog.main.scope.names) (f : ∀ s, fenceModules? r.prog s = some s) (run : ∀ w, RunEq r q H ob M loose w)
    (hdef : defOf q r.name = some (d, kwd)) (hp : r.prog.theDef r.name = some (d.params, d.body, d.scope)) (hk : kwWritten? d.params.kwonlyargs d.params.kw_defaults = some kwd)
    (hwr : (!r.writes || r.records.isEmpty) = true) (k1 : r.wellSaid = true) (ok : (chainsOk q && opensWell r.prog && (frees r.toRowW && r.within.isEmpty)) = true) (hb : r.prog.bare) (hw : r.toRowW.promised)
    (call : WalkS q loose (XL q []) H.says r.toRowW d kwd fun f vs => PySem.call f vs) : r.Holds := by
  have left : LeftO r.prog q loose (fun s => xlAt q [] s && recOk r.toRowW.records s) H.obs H.val (M + 600) true :=
    left_one (M := M) e (Nat.ble_eq_true_of_le (by omega)) f (Nat.ble_eq_true_of_le (by omega)) fun w os => by
      have z := run w os
      have eo : ob = fun s => H.obs s.abs := funext ho
      rw [eo] at z
      simp only [endQ_eq, seenQ_eq]
      exact z
  exact holds_S (r := r) (q := q) (loose := loose) (XP := XL q []) (YP := H.says) (d := d) (kwd := kwd) left H.of H.keeps (fun s z => xl_of s (Bool.and_eq_true_iff.mp z).1) XL.keeps hdef hp hk (fun s z => recFacts_of (Bool.and_eq_true_iff.mp z).2) hwr k1 ok hb hw call
end Wv

namespace Wv
open PySem PySem.W PySem.Calls PyProof.Rows Att
/-- the row asks the law at a list of ints -/
theorem attach_S {l : OpenLaw} {n : Nat} {q : Program} {loose : List Str} {XP : (Str → Option Value) → Heap → Prop} {YP : World → Heap → Prop} {d : DefRec}
    (hn : l.most = some n) (hdf : d.params.defaults = [])
    (call : ∀ (w : World) (s₀ s₁ : Shared) (mg mb : Str → Option Value) (fa : Addr) (o : Obj) (pm cd doc : Value) (a : Addr) (vs : List Value) (ns : List Int),
      Ground q loose [] XP w s₀ mg mb s₁.heap → YP w s₁.heap →
      s₁.heap.get? fa = some o → o.data = .func (docDef d.name d.params d.body d.scope pm cd doc) → s₁.heap.CodeRec cd d.name → mg d.name = some (.ref fa) →
      s₁.heap.get? a = some { cls := .type "list", data := .seq vs.toArray } → IntsAre vs ns → ns.length ≤ n → (∀ k ∈ ns, Builtin.Int.intBits k ≤ 1048576) → s₁.gens = #[] →
      codeS (model l.prog w) callerA (.call (.ref fa) ⟨[.ref a], []⟩) (fun r s' => r = .ok (.ret (.bool true)) ∧ OldK s₁.heap s'.heap ∧ s'.os = s₁.os ∧ AllBare s'.gens) s₁) :
    WalkS q loose XP YP l.row.toRowW d [] (fun f vs => PySem.call f vs) := by
  intro w s₀ s₁ mg mb G Y fa o pm cd doc dV kV ho hd hcd hD hmg hg args vals as hpre hlay hrd hwl hlo
  obtain rfl : dV = .none := Dflts.none hD hdf
  obtain rfl : kV = .none := Dflts.noKw hD
  obtain ⟨a, vs, ns, rfl, rfl, hobj, hints, hlen⟩ := script_of hn hpre hwl
  refine wpS_call (codeS_mono (call w s₀ s₁ mg mb fa o pm cd doc a vs ns G Y ho (fd_plain hd) hcd hmg hobj hints hlen (script_bits hlay) hg) fun r s' hq => ?_)
  obtain ⟨rfl, h2, h3, h4⟩ := hq
  exact ⟨.inl ⟨.bool true, .bool true, [], rfl, fun _ => rfl, .bool true, post_true l _, fun _ => ⟨List.Pairwise.nil, fun _ hm => (nomatch hm)⟩⟩, h2, h3, h4⟩
end Wv

namespace Wv
open PySem L2 PySem.Spec
open PyProof.Rows
/-- the law's promise, at the heap behind the top -/
theorem law_callS {P : Program} {w : World} {K : PySem.W.Frag} {mg mb : Str → Option Value} {k : Nat} {fa a : Addr} {fd : FuncData} {x : Str} {sp : Sp} {s₁ : Shared} {vs : List Value} {ns : List Int}
    (KX : K.In s₁.heap) (hns : s₁.heap.Ns mainGlobals mg) (hb : s₁.heap.Ns builtinsNs mb) (hbb : ∀ x : Str, x ≠ "__name__" → mb x = bootBuiltins x) (hlim : s₁.heap.NoLimit) (hg : s₁.gens = #[])
    (ha : s₁.heap.get? a = some { cls := .type "list", data := .seq vs.toArray }) (hi : IntsAre vs ns) (hl : ns.length ≤ sizeLine) (hr : Room k callerA)
    (F : ∀ base : Heap, K.In base → base.Ns mainGlobals mg → FnOkS P w K mg base k fa fd [x] sp) (hbind : ∀ (s : Shared) (u : Value), BindsTo s fd ⟨[u], []⟩ [(x, u)])
    (hsp : ∀ H : Hp, Only H → SqL K H a (ns.map V.int) → sp [.ref a] H (fun v _ => v = .bl true) fun _ _ _ => False) :
    codeS (model P w) callerA (.call (.ref fa) ⟨[.ref a], []⟩) (fun r s' => r = .ok (.ret (.bool true)) ∧ OldK s₁.heap s'.heap ∧ s'.os = s₁.os ∧ AllBare s'.gens) s₁ := by
  have rv := vals_ints hi
  have lenV := hi.length
  have core : ∀ H : Hp, Only H → SqL K H a (ns.map V.int) → HOk P w H s₁.heap → (∀ b, H b ≠ none → b = a) → (H a ≠ none → K.lookup a = none) →
      codeS (model P w) callerA (.call (.ref fa) ⟨[.ref a], []⟩) (fun r s' => r = .ok (.ret (.bool true)) ∧ OldK s₁.heap s'.heap ∧ s'.os = s₁.os ∧ AllBare s'.gens) s₁ := by
    intro H hO hS hok hA hK
    have base_of : ∀ {b : Addr} {o : Obj}, s₁.heap.get? b = some o → H b = none → (hidT s₁.heap H).get? b = some o := fun e n => hidT_get e n
    have noA : ∀ {b : Addr} {o : Obj} {es : Array DictEntry} {ep : Nat}, s₁.heap.get? b = some o → o.data = .dict es ep → H b = none := fun {b o es ep} e d => by
      cases q : H b with
      | none => rfl
      | some u =>
        have e' : b = a := hA b (by rw [q]; simp)
        subst e'
        rw [ha] at e; cases e
        have d' : Data.seq vs.toArray _ = Data.dict es ep := d
        cases d'
    have nsK : ∀ {b : Addr} {m : Str → Option Value}, s₁.heap.Ns b m → (hidT s₁.heap H).Ns b m := fun {b m} ⟨o, es, ep, e, d, r⟩ => ⟨o, es, ep, base_of e (noA e d), d, r⟩
    have hKb : K.In (hidT s₁.heap H) := fun b o e => base_of (KX b o e) (by
      cases q : H b with
      | none => rfl
      | some u =>
        have e' : b = a := hA b (by rw [q]; simp)
        subst e'
        rw [hK (by rw [q]; simp)] at e; cases e)
    have hM : Mod K mg (hidT s₁.heap H) := ⟨hKb, nsK hns, ⟨mb, nsK hb, hbb⟩, let ⟨mc, h1, h2⟩ := hlim; ⟨mc, nsK h1, h2⟩⟩
    have e0 : Env0 P w K mg (hidT s₁.heap H) callerA [] s₁ H := ⟨rfl, hM, fun b o e => of_hidT e, Nat.le_of_eq (hidT_size _ _), trivial, fun b hb => absurd (show b ∈ ([] : List Addr) from hb) (by simp), hok, .of_eq hg⟩
    refine codeS_mono ((F _ hKb (nsK hns)).run callerA [] s₁ H ⟨[.ref a], []⟩ [.ref a] [.ref a] _ _ hr e0 (hbind s₁ (.ref a)) (.cons rfl .nil) (hsp H hO hS)) fun r s' h => ?_
    cases r with
    | error e => exact h.elim
    | ok fl =>
      cases fl with
      | next => exact False.elim h
      | brk => exact False.elim h
      | cont => exact False.elim h
      | ret u =>
        obtain ⟨v, H', os, bare, un, hok', r', q⟩ := h
        have q' : v = .bl true := q
        subst q'
        obtain rfl : u = Value.bool true := r'
        refine ⟨rfl, OldK.of_keep fun b o e => ?_, os, bare⟩
        cases q : H b with
        | none => exact un.keep b o e q (by intro z; exact absurd (show b ∈ ([] : List Addr) from z) (by simp)) (by simp)
        | some u =>
          rcases hO b with z | ⟨ob, xs, z⟩
          · rw [q] at z; cases z
          · have z2 := un.frzs b ob _ z
            obtain ⟨e1, _⟩ := hok b _ z
            obtain ⟨e2, _⟩ := hok' b _ z2
            rw [e] at e1; cases e1
            exact e2
  cases hk : K.lookup a with
  | some o =>
    have e := KX a o hk
    rw [ha] at e
    cases e
    refine core (fun _ => none) (fun _ => .inl rfl) (.inr ⟨_, vs.toArray, _, hk, rfl, rfl, rfl, by rw [List.size_toArray, lenV]; exact hl, by simpa using rv⟩) (fun b u z => by have z' : (none : Option HO) = some u := z; cases z') (fun b z => absurd rfl z) fun z => absurd rfl z
  | none =>
    refine core (fun b => if b = a then some (.frz { cls := .type "list", data := .seq vs.toArray } (.lst (ns.map V.int))) else none) (fun b => ?_) (.inl (.inr ⟨{ cls := .type "list", data := .seq vs.toArray }, if_pos rfl⟩)) (fun b u z => ?_) (fun b z => ?_) fun _ => hk
    · by_cases hb : b = a
      · exact .inr ⟨_, _, if_pos hb⟩
      · exact .inl (if_neg hb)
    · by_cases hb : b = a
      · have z' := (if_pos hb).symm.trans z
        cases z'
        subst hb
        exact ⟨ha, by rw [List.length_map]; exact hl, vs, _, rv, ha⟩
      · have z' := (if_neg hb).symm.trans z
        cases z'
    · by_cases hb : b = a
      · exact hb
      · exact absurd (if_neg hb) z

theorem walk_S {l : PySem.W.OpenLaw} {n k : Nat} {q : Program} {loose : List Str} {XP : (Str → Option Value) → Heap → Prop} {YP : World → Heap → Prop} {d : DefRec} {x : Str}
    (hn : l.most = some n) (hn2 : n ≤ sizeLine) (hdf : d.params.defaults = []) (hr : Room k callerA)
    (F : ∀ (w : World) (mg : Str → Option Value) (fa : Addr) (h : Heap), YP w h → h.Ns mainGlobals mg → mg d.name = some (.ref fa) →
      ∃ (K : PySem.W.Frag) (fd : FuncData) (sp : Sp), K.In h ∧ (∀ (s : Shared) (u : Value), BindsTo s fd ⟨[u], []⟩ [(x, u)]) ∧
        (∀ (H : Hp) (a : Addr) (ns : List Int), ns.length ≤ n → (∀ z ∈ ns, Builtin.Int.intBits z ≤ 1048576) → Only H → SqL K H a (ns.map V.int) → sp [.ref a] H (fun v _ => v = .bl true) fun _ _ _ => False) ∧
        ∀ base : Heap, K.In base → base.Ns mainGlobals mg → FnOkS l.prog w K mg base k fa fd [x] sp) :
    WalkS q loose XP YP l.row.toRowW d [] (fun f vs => PySem.call f vs) := by
  refine attach_S hn hdf fun w s₀ s₁ mg mb fa o pm cd doc a vs ns G Y ho hd hcd hmg hobj hints hlen hbits hg => ?_
  obtain ⟨K, fd, sp, KX, hb, hsp, hF⟩ := F w mg fa _ Y G.T.g hmg
  exact law_callS KX G.T.g G.T.b G.T.builtins G.T.nolimit hg hobj hints (Nat.le_trans hlen hn2) hr hF hb fun H hO hS => hsp H a ns hlen hbits hO hS
end Wv
end WvO_part
section WvP_part
set_option Elab.async false
set_option linter.all false
set_option maxRecDepth 100000
set_option maxHeartbeats 1000000
/-! WvP: the head's facts. Printed by gen_head.py. -/
namespace Wv
open PySem L2 PySem.Spec
open PyProof.Rows
abbrev prog : Program := PySem.Challenge.pw_handlesagain_k53_whole_counts_of_weaving
def top (i : Nat) : Stmt := prog.main.body.getD i (.Pass ⟨0, 0, 0, 0⟩)
/-- a def: where its function stands, its parts -/
structure DefX where
  at_ : PySem.W.Frag → Addr
  name : Str
  qual : Str
  st : Stmt
def fnWx (K : PySem.W.Frag) (a : Addr) : He.FnW := match K.lookup a with
  | some ⟨_, _, .func fd, _⟩ => some (fd.name, fd.qualname, fd.params, fd.body, fd.scope, fd.globals, fd.closure, fd.builtins)
  | _ => none
def DefX.val (d : DefX) : He.FnW := some (d.name, d.qual, defArgs d.st, .stmts (defBody d.st), defScope d.st, mainGlobals, [], builtinsNs)
def DefX.ok (K : PySem.W.Frag) (d : DefX) : Bool := PySem.W.keepIn K (.ref (d.at_ K)) && (match K.lookup (d.at_ K) with
  | some ⟨_, _, .func fd, _⟩ => PySem.W.codeIn K fd.code d.qual && He.dflB K fd.defaults []
  | _ => false)
theorem DefX.fun_ {K : PySem.W.Frag} {d : DefX} (e : fnWx K (d.at_ K) = d.val) (c : d.ok K = true) : ∃ fd, Fun K d.name d.qual d.st (d.at_ K) fd := by
  obtain ⟨kp, c2⟩ := He.ba c
  unfold fnWx at e
  cases q : K.lookup (d.at_ K) with
  | none => rw [q] at c2; cases c2
  | some o =>
    obtain ⟨oc, od, dt, osl⟩ := o
    rw [q] at c2 e
    cases dt with
    | func fd =>
      obtain ⟨n1, n2, n3, n4, n5, n6, n7, n8, n9, n10, n11, n12, n13, n14, n15⟩ := fd
      have e2 : (some (n1, n2, n3, n4, n5, n6, n7, n15) : He.FnW) = some (d.name, d.qual, defArgs d.st, .stmts (defBody d.st), defScope d.st, mainGlobals, [], builtinsNs) := e
      simp only [Option.some.injEq, Prod.mk.injEq] at e2
      obtain ⟨h1, h2, h3, h4, h5, h6, h7, h8⟩ := e2
      subst h1 h2 h3 h4 h5 h6 h7 h8
      obtain ⟨k1, k2⟩ := He.ba (show (PySem.W.codeIn K n13 d.qual && He.dflB K n8 []) = true from c2)
      rcases He.dflB_ok k2 with ⟨_, e8⟩ | ⟨e8, _⟩
      · subst e8
        exact ⟨_, ⟨oc, od, n9, n10, n11, n12, n13, n14, osl, rfl, q, k1⟩, kp⟩
      · exact absurd rfl e8
    | _ => cases c2
/-- a property's getter -/
def getG (C f : Str) (K : PySem.W.Frag) : Addr := match PySem.W.findIn K (.ref (He.ga K C)) f with
  | some (some (.ref p)) => (match PySem.W.recIn K p "property" with
    | some (.ref g :: _) => g
    | _ => 0)
  | _ => 0
def propB (C f : Str) (K : PySem.W.Frag) : Bool := match PySem.W.findIn K (.ref (He.ga K C)) f with
  | some (some (.ref p)) => He.eqO (PySem.W.specialIn K (.ref p) "__get__") (some (some (.builtin "property.__get__"))) && (decide (PySem.W.takesIn K (.ref p) = some true) && (match PySem.W.recIn K p "property" with
    | some (.ref _ :: _) => true
    | _ => false))
  | _ => false
theorem propB_ok {C f : Str} {K : PySem.W.Frag} (h : propB C f K = true) : ∃ p, PropOf K (He.ga K C) f p (getG C f K) := by
  unfold propB at h
  unfold getG
  split at h
  · rename_i p e
    obtain ⟨h1, h2⟩ := He.ba h
    obtain ⟨h2, h3⟩ := He.ba h2
    split at h3
    · rename_i g rest e2
      exact ⟨p, e, He.eqO_ok h1, of_decide_eq_true h2, rest, e2⟩
    · cases h3
  · cases h
def insB (C : Str) (K : PySem.W.Frag) : Bool := He.eqO (PySem.W.findIn K (.ref (He.ga K C)) "__class__") (some (some (.builtin "object.__class__"))) && (decide (PySem.W.mroIn K (He.ga K C) (.type "object") = some true) && decide (PySem.W.kitOne K (.ref (He.ga K C)) (.ref (He.ga K C)) = some true))
def getB (K : PySem.W.Frag) : Bool := He.eqO (PySem.W.specialIn K (.builtin "object.__class__") "__get__") (some (some (.builtin "getset_descriptor.__get__"))) && decide (PySem.W.takesIn K (.builtin "object.__class__") = some true)
theorem insB_ok {C : Str} {K : PySem.W.Frag} (h : insB C K = true) (g : getB K = true) (c : Cls K (He.ga K C)) : C8.InsC K (He.ga K C) := by
  obtain ⟨h1, h2⟩ := He.ba h
  obtain ⟨h2, h3⟩ := He.ba h2
  obtain ⟨g1, g2⟩ := He.ba g
  exact ⟨c, He.eqO_ok h1, He.eqO_ok g1, of_decide_eq_true g2, of_decide_eq_true h2, of_decide_eq_true h3⟩
/-! ### the Hook -/
abbrev AlX : Type := Bool × List He.FnW × List (Option (List (Option (Str × Int))))
abbrev Ck : Type := PySem.W.Frag → Bool
def obsX (xs : List Ck) (ds : List DefX) (ts : List He.Tab) (K : PySem.W.Frag) : AlX := ((xs.all fun x => x K) && ds.all fun d => d.ok K, ds.map fun d => fnWx K (d.at_ K), ts.map fun t => He.dicW K (t.1 K))
def valX (ds : List DefX) (ts : List He.Tab) (w : World) : AlX := (true, ds.map DefX.val, ts.map fun t => some (He.keysIn w.params t.2))
def SaysX (xs : List Ck) (ds : List DefX) (ts : List He.Tab) (w : World) (K : PySem.W.Frag) : Prop := obsX xs ds ts K = valX ds ts w
/-- what an object leads to -/
def refsX (o : Obj) : List Addr := match o.data with
  | .dict es _ => es.toList.flatMap fun e => He.refV e.val
  | .func fd => He.refV fd.code
  | .cls cd => [cd.ns]
  | .fields vs => (match o.cls with
    | .type c => (match decide (c = "property") with
      | true => vs.toList.flatMap He.refV
      | false => [])
    | _ => [])
  | _ => []
def stepX (g : Addr → Option Obj) (fr : List Addr) : List Addr := fr.flatMap fun a => match g a with
  | some o => refsX o
  | none => []
def frL {β : Type} : List Nat → (List Nat → β) → β
  | [], k => k []
  | a :: r, k => HandSHeadRun.frNat a fun a' => frL r fun r' => k (a' :: r')
theorem frL_eq {β : Type} : ∀ (l : List Nat) (k : List Nat → β), frL l k = k l
  | [], _ => rfl
  | a :: r, k => by
    show HandSHeadRun.frNat a (fun a' => frL r fun r' => k (a' :: r')) = _
    rw [HandSHeadRun.frNat_eq, frL_eq]
/-- the frontier, n steps -/
def asX {β : Type} (g : Addr → Option Obj) : Nat → List Nat → List Nat → (List Nat → β) → β
  | 0, fr, acc, k => k (acc ++ fr)
  | n + 1, fr, acc, k => frL (stepX g fr) fun fr' => asX g n fr' (acc ++ fr) k
theorem asX_ex {β : Type} (g : Addr → Option Obj) (k : List Nat → β) : ∀ (n : Nat) (fr acc : List Nat), ∃ l, asX g n fr acc k = k l
  | 0, fr, acc => ⟨_, rfl⟩
  | n + 1, fr, acc => by
    unfold asX
    rw [frL_eq]
    exact asX_ex g k n _ _
def obsXG (n : Nat) (xs : List Ck) (ds : List DefX) (ts : List He.Tab) (g : Addr → Option Obj) : AlX := asX g n [mainGlobals] [] fun as => frL as fun as => obsX xs ds ts (He.frG g as)
def hookX (n : Nat) (xs : List Ck) (ds : List DefX) (ts : List He.Tab) : PySem.W.Hook where
  α := AlX
  obs := fun s => obsXG n xs ds ts s.heap.get?
  val := fun w => valX ds ts w
  says := fun w h => ∃ K : PySem.W.Frag, K.In h ∧ SaysX xs ds ts w K
  of := fun w s e => by
    obtain ⟨l, h⟩ := asX_ex s.heap.get? (fun as => frL as fun as => obsX xs ds ts (He.frG s.heap.get? as)) n [mainGlobals] []
    have e : obsXG n xs ds ts s.heap.get? = valX ds ts w := e
    unfold obsXG at e
    rw [h, frL_eq] at e
    exact ⟨_, He.frG_in, e⟩
  keeps := fun _ _ _ ⟨K, hK, c⟩ k => ⟨K, PySem.W.Frag.In.keeps hK k, c⟩
theorem obsXG_eq {n : Nat} {xs : List Ck} {ds : List DefX} {ts : List He.Tab} {g : Addr → Option Obj} {s : Shared} (h : ∀ a, g a = s.heap.get? a) : obsXG n xs ds ts g = (hookX n xs ds ts).obs s := by
  have e : g = s.heap.get? := funext h
  rw [e]; rfl
section
variable {xs : List Ck} {ds : List DefX} {ts : List He.Tab} {w : World} {K : PySem.W.Frag}
theorem SaysX.ck (c : SaysX xs ds ts w K) (i : Nat) {f : Ck} (h : xs[i]? = some f := by rfl) : f K = true := by
  have c1 := (He.ba (show ((xs.all fun x => x K) && ds.all fun d => d.ok K) = true from congrArg (fun z : AlX => z.1) c)).1
  exact List.all_eq_true.mp c1 f (List.mem_of_getElem? h)
theorem SaysX.def_ (c : SaysX xs ds ts w K) (i : Nat) {d : DefX} (h : ds[i]? = some d := by rfl) : ∃ fd, Fun K d.name d.qual d.st (d.at_ K) fd := by
  have c2 := (He.ba (show ((xs.all fun x => x K) && ds.all fun d => d.ok K) = true from congrArg (fun z : AlX => z.1) c)).2
  have e : ds.map (fun d => fnWx K (d.at_ K)) = ds.map DefX.val := congrArg (fun z : AlX => z.2.1) c
  have e2 : (ds.map fun d => fnWx K (d.at_ K))[i]? = (ds.map DefX.val)[i]? := by rw [e]
  rw [List.getElem?_map, List.getElem?_map, h] at e2
  exact DefX.fun_ (Option.some.inj e2) (List.all_eq_true.mp c2 d (List.mem_of_getElem? h))
theorem SaysX.tab (c : SaysX xs ds ts w K) (i : Nat) {t : He.Tab} (h : ts[i]? = some t := by rfl) : ∃ es n, KDict K w (t.1 K) es n := by
  have e : ts.map (fun t => He.dicW K (t.1 K)) = ts.map fun t => some (He.keysIn w.params t.2) := congrArg (fun z : AlX => z.2.2) c
  have e2 : (ts.map fun t => He.dicW K (t.1 K))[i]? = (ts.map fun t => some (He.keysIn w.params t.2))[i]? := by rw [e]
  rw [List.getElem?_map, List.getElem?_map, h] at e2
  exact He.dicW_ok (Option.some.inj e2)
end
/-! ### this program's -/
abbrev s_empty_state : Stmt := top 13
abbrev s_put : Stmt := top 14
abbrev s_sorts_of : Stmt := top 21
abbrev s_first_state : Stmt := top 22
abbrev s_next_row : Stmt := top 23
abbrev s_at_row : Stmt := top 28
abbrev s_choices_of : Stmt := top 29
abbrev s_simply : Stmt := top 32
abbrev s_stepped : Stmt := top 33
abbrev s_all_steps : Stmt := top 34
abbrev s_has_ended : Stmt := top 35
abbrev s_plain : Stmt := top 37
abbrev s_is_integer : Stmt := top 41
abbrev s_is_count : Stmt := top 42
abbrev s_is_within : Stmt := top 43
abbrev s_is_name : Stmt := top 44
abbrev s_are_unlike : Stmt := top 45
abbrev s_are_names : Stmt := top 46
abbrev s_visits : Stmt := top 51
abbrev s_shortest_fault : Stmt := top 52
abbrev s_is_safe : Stmt := top 53
abbrev s_shortest_stuck : Stmt := top 54
abbrev s_longer : Stmt := top 55
abbrev s_runs : Stmt := top 56
abbrev s_is_row : Stmt := top 64
abbrev s_fits : Stmt := top 65
abbrev s_variables_of : Stmt := top 66
abbrev s_locks_of : Stmt := top 67
abbrev s_are_sorts : Stmt := top 69
abbrev s_is_sound : Stmt := top 70
abbrev s_check_table : Stmt := top 76
abbrev s_are_hands : Stmt := top 79
abbrev s_is_step : Stmt := top 80
abbrev s_can_step : Stmt := top 81
abbrev s__law_begin : Stmt := top 84
abbrev s__law_mixed : Stmt := top 85
abbrev s__law_draw : Stmt := top 86
abbrev s__law_pick : Stmt := top 87
abbrev s__law_made_kinds : Stmt := top 88
abbrev s__law_program_of : Stmt := top 89
abbrev s__law_build : Stmt := top 90
abbrev s__law_bench_of : Stmt := top 91
abbrev s__law_draw_hands : Stmt := top 92
abbrev s__law_rows_of : Stmt := top 93
abbrev s__law_kinds : Stmt := top 94
abbrev s__law_ways : Stmt := top 95
abbrev s_law : Stmt := top 96
abbrev s_Sort_init : Stmt := inClass (top 68) 0
abbrev s_Sort_len : Stmt := inClass (top 68) 4
abbrev s_Sort_getitem : Stmt := inClass (top 68) 5
abbrev s_Program_init : Stmt := inClass (top 71) 0
abbrev s_Program_getitem : Stmt := inClass (top 71) 5
abbrev s_Program_contains : Stmt := inClass (top 71) 6
abbrev s_Bench_init : Stmt := inClass (top 82) 0
abbrev s_Bench_call : Stmt := inClass (top 82) 7
abbrev s_Sort_p_name : Stmt := inClass (top 68) 1
abbrev s_Sort_p_rows : Stmt := inClass (top 68) 2
abbrev s_Sort_p_own : Stmt := inClass (top 68) 3
abbrev s_Program_p_common : Stmt := inClass (top 71) 2
abbrev s_Program_p_locks : Stmt := inClass (top 71) 3
abbrev s_Bench_p_program : Stmt := inClass (top 82) 1
abbrev s_Bench_p_hands : Stmt := inClass (top 82) 2
abbrev s_Bench_p_size : Stmt := inClass (top 82) 3
abbrev s_Bench_p_book : Stmt := inClass (top 82) 4
abbrev s_Bench_p_turns : Stmt := inClass (top 82) 5
abbrev d_empty_state : DefX := ⟨fun K => He.fAd K ("empty_state", none), "empty_state", "empty_state", s_empty_state⟩
abbrev d_put : DefX := ⟨fun K => He.fAd K ("put", none), "put", "put", s_put⟩
abbrev d_sorts_of : DefX := ⟨fun K => He.fAd K ("sorts_of", none), "sorts_of", "sorts_of", s_sorts_of⟩
abbrev d_first_state : DefX := ⟨fun K => He.fAd K ("first_state", none), "first_state", "first_state", s_first_state⟩
abbrev d_next_row : DefX := ⟨fun K => He.fAd K ("next_row", none), "next_row", "next_row", s_next_row⟩
abbrev d_at_row : DefX := ⟨fun K => He.fAd K ("at_row", none), "at_row", "at_row", s_at_row⟩
abbrev d_choices_of : DefX := ⟨fun K => He.fAd K ("choices_of", none), "choices_of", "choices_of", s_choices_of⟩
abbrev d_simply : DefX := ⟨fun K => He.fAd K ("simply", none), "simply", "simply", s_simply⟩
abbrev d_stepped : DefX := ⟨fun K => He.fAd K ("stepped", none), "stepped", "stepped", s_stepped⟩
abbrev d_all_steps : DefX := ⟨fun K => He.fAd K ("all_steps", none), "all_steps", "all_steps", s_all_steps⟩
abbrev d_has_ended : DefX := ⟨fun K => He.fAd K ("has_ended", none), "has_ended", "has_ended", s_has_ended⟩
abbrev d_plain : DefX := ⟨fun K => He.fAd K ("plain", none), "plain", "plain", s_plain⟩
abbrev d_is_integer : DefX := ⟨fun K => He.fAd K ("is_integer", none), "is_integer", "is_integer", s_is_integer⟩
abbrev d_is_count : DefX := ⟨fun K => He.fAd K ("is_count", none), "is_count", "is_count", s_is_count⟩
abbrev d_is_within : DefX := ⟨fun K => He.fAd K ("is_within", none), "is_within", "is_within", s_is_within⟩
abbrev d_is_name : DefX := ⟨fun K => He.fAd K ("is_name", none), "is_name", "is_name", s_is_name⟩
abbrev d_are_unlike : DefX := ⟨fun K => He.fAd K ("are_unlike", none), "are_unlike", "are_unlike", s_are_unlike⟩
abbrev d_are_names : DefX := ⟨fun K => He.fAd K ("are_names", none), "are_names", "are_names", s_are_names⟩
abbrev d_visits : DefX := ⟨fun K => He.fAd K ("visits", none), "visits", "visits", s_visits⟩
abbrev d_shortest_fault : DefX := ⟨fun K => He.fAd K ("shortest_fault", none), "shortest_fault", "shortest_fault", s_shortest_fault⟩
abbrev d_is_safe : DefX := ⟨fun K => He.fAd K ("is_safe", none), "is_safe", "is_safe", s_is_safe⟩
abbrev d_shortest_stuck : DefX := ⟨fun K => He.fAd K ("shortest_stuck", none), "shortest_stuck", "shortest_stuck", s_shortest_stuck⟩
abbrev d_longer : DefX := ⟨fun K => He.fAd K ("longer", none), "longer", "longer", s_longer⟩
abbrev d_runs : DefX := ⟨fun K => He.fAd K ("runs", none), "runs", "runs", s_runs⟩
abbrev d_is_row : DefX := ⟨fun K => He.fAd K ("is_row", none), "is_row", "is_row", s_is_row⟩
abbrev d_fits : DefX := ⟨fun K => He.fAd K ("fits", none), "fits", "fits", s_fits⟩
abbrev d_variables_of : DefX := ⟨fun K => He.fAd K ("variables_of", none), "variables_of", "variables_of", s_variables_of⟩
abbrev d_locks_of : DefX := ⟨fun K => He.fAd K ("locks_of", none), "locks_of", "locks_of", s_locks_of⟩
abbrev d_are_sorts : DefX := ⟨fun K => He.fAd K ("are_sorts", none), "are_sorts", "are_sorts", s_are_sorts⟩
abbrev d_is_sound : DefX := ⟨fun K => He.fAd K ("is_sound", none), "is_sound", "is_sound", s_is_sound⟩
abbrev d_check_table : DefX := ⟨fun K => He.fAd K ("check_table", none), "check_table", "check_table", s_check_table⟩
abbrev d_are_hands : DefX := ⟨fun K => He.fAd K ("are_hands", none), "are_hands", "are_hands", s_are_hands⟩
abbrev d_is_step : DefX := ⟨fun K => He.fAd K ("is_step", none), "is_step", "is_step", s_is_step⟩
abbrev d_can_step : DefX := ⟨fun K => He.fAd K ("can_step", none), "can_step", "can_step", s_can_step⟩
abbrev d__law_begin : DefX := ⟨fun K => He.fAd K ("_law_begin", none), "_law_begin", "_law_begin", s__law_begin⟩
abbrev d__law_mixed : DefX := ⟨fun K => He.fAd K ("_law_mixed", none), "_law_mixed", "_law_mixed", s__law_mixed⟩
abbrev d__law_draw : DefX := ⟨fun K => He.fAd K ("_law_draw", none), "_law_draw", "_law_draw", s__law_draw⟩
abbrev d__law_pick : DefX := ⟨fun K => He.fAd K ("_law_pick", none), "_law_pick", "_law_pick", s__law_pick⟩
abbrev d__law_made_kinds : DefX := ⟨fun K => He.fAd K ("_law_made_kinds", none), "_law_made_kinds", "_law_made_kinds", s__law_made_kinds⟩
abbrev d__law_program_of : DefX := ⟨fun K => He.fAd K ("_law_program_of", none), "_law_program_of", "_law_program_of", s__law_program_of⟩
abbrev d__law_build : DefX := ⟨fun K => He.fAd K ("_law_build", none), "_law_build", "_law_build", s__law_build⟩
abbrev d__law_bench_of : DefX := ⟨fun K => He.fAd K ("_law_bench_of", none), "_law_bench_of", "_law_bench_of", s__law_bench_of⟩
abbrev d__law_draw_hands : DefX := ⟨fun K => He.fAd K ("_law_draw_hands", none), "_law_draw_hands", "_law_draw_hands", s__law_draw_hands⟩
abbrev d__law_rows_of : DefX := ⟨fun K => He.fAd K ("_law_rows_of", none), "_law_rows_of", "_law_rows_of", s__law_rows_of⟩
abbrev d__law_kinds : DefX := ⟨fun K => He.fAd K ("_law_kinds", none), "_law_kinds", "_law_kinds", s__law_kinds⟩
abbrev d__law_ways : DefX := ⟨fun K => He.fAd K ("_law_ways", none), "_law_ways", "_law_ways", s__law_ways⟩
abbrev d_law : DefX := ⟨fun K => He.fAd K ("law", none), "law", "law", s_law⟩
abbrev d_Sort_init : DefX := ⟨fun K => He.fAd K ("Sort", some "__init__"), "__init__", "Sort.__init__", s_Sort_init⟩
abbrev d_Sort_len : DefX := ⟨fun K => He.fAd K ("Sort", some "__len__"), "__len__", "Sort.__len__", s_Sort_len⟩
abbrev d_Sort_getitem : DefX := ⟨fun K => He.fAd K ("Sort", some "__getitem__"), "__getitem__", "Sort.__getitem__", s_Sort_getitem⟩
abbrev d_Program_init : DefX := ⟨fun K => He.fAd K ("Program", some "__init__"), "__init__", "Program.__init__", s_Program_init⟩
abbrev d_Program_getitem : DefX := ⟨fun K => He.fAd K ("Program", some "__getitem__"), "__getitem__", "Program.__getitem__", s_Program_getitem⟩
abbrev d_Program_contains : DefX := ⟨fun K => He.fAd K ("Program", some "__contains__"), "__contains__", "Program.__contains__", s_Program_contains⟩
abbrev d_Bench_init : DefX := ⟨fun K => He.fAd K ("Bench", some "__init__"), "__init__", "Bench.__init__", s_Bench_init⟩
abbrev d_Bench_call : DefX := ⟨fun K => He.fAd K ("Bench", some "__call__"), "__call__", "Bench.__call__", s_Bench_call⟩
abbrev d_Sort_p_name : DefX := ⟨getG "Sort" "name", "name", "Sort.name", s_Sort_p_name⟩
abbrev d_Sort_p_rows : DefX := ⟨getG "Sort" "rows", "rows", "Sort.rows", s_Sort_p_rows⟩
abbrev d_Sort_p_own : DefX := ⟨getG "Sort" "own", "own", "Sort.own", s_Sort_p_own⟩
abbrev d_Program_p_common : DefX := ⟨getG "Program" "common", "common", "Program.common", s_Program_p_common⟩
abbrev d_Program_p_locks : DefX := ⟨getG "Program" "locks", "locks", "Program.locks", s_Program_p_locks⟩
abbrev d_Bench_p_program : DefX := ⟨getG "Bench" "program", "program", "Bench.program", s_Bench_p_program⟩
abbrev d_Bench_p_hands : DefX := ⟨getG "Bench" "hands", "hands", "Bench.hands", s_Bench_p_hands⟩
abbrev d_Bench_p_size : DefX := ⟨getG "Bench" "size", "size", "Bench.size", s_Bench_p_size⟩
abbrev d_Bench_p_book : DefX := ⟨getG "Bench" "book", "book", "Bench.book", s_Bench_p_book⟩
abbrev d_Bench_p_turns : DefX := ⟨getG "Bench" "turns", "turns", "Bench.turns", s_Bench_p_turns⟩
def dsAll0 : List DefX := [d_empty_state, d_put, d_sorts_of, d_first_state, d_next_row, d_at_row, d_choices_of, d_simply, d_stepped, d_all_steps, d_has_ended, d_plain, d_is_integer, d_is_count, d_is_within, d_is_name, d_are_unlike, d_are_names, d_visits, d_shortest_fault, d_is_safe, d_shortest_stuck, d_longer, d_runs, d_is_row, d_fits, d_variables_of, d_locks_of, d_are_sorts, d_is_sound]
def dsAll1 : List DefX := [d_check_table, d_are_hands, d_is_step, d_can_step, d__law_begin, d__law_mixed, d__law_draw, d__law_pick, d__law_made_kinds, d__law_program_of, d__law_build, d__law_bench_of, d__law_draw_hands, d__law_rows_of, d__law_kinds, d__law_ways, d_law, d_Sort_init, d_Sort_len, d_Sort_getitem, d_Program_init, d_Program_getitem, d_Program_contains, d_Bench_init, d_Bench_call, d_Sort_p_name, d_Sort_p_rows, d_Sort_p_own, d_Program_p_common, d_Program_p_locks]
def dsAll2 : List DefX := [d_Bench_p_program, d_Bench_p_hands, d_Bench_p_size, d_Bench_p_book, d_Bench_p_turns]
abbrev dsAll : List DefX := dsAll0 ++ dsAll1 ++ dsAll2
def xsAll0 : List Ck := [(fun K => He.Fa.ok K (.glo "empty_state")), (fun K => He.Fa.ok K (.glo "put")), (fun K => He.Fa.ok K (.glo "sorts_of")), (fun K => He.Fa.ok K (.glo "first_state")), (fun K => He.Fa.ok K (.glo "next_row")), (fun K => He.Fa.ok K (.glo "at_row")), (fun K => He.Fa.ok K (.glo "choices_of")), (fun K => He.Fa.ok K (.glo "simply")), (fun K => He.Fa.ok K (.glo "stepped")), (fun K => He.Fa.ok K (.glo "all_steps")), (fun K => He.Fa.ok K (.glo "has_ended")), (fun K => He.Fa.ok K (.glo "plain")), (fun K => He.Fa.ok K (.glo "is_integer")), (fun K => He.Fa.ok K (.glo "is_count")), (fun K => He.Fa.ok K (.glo "is_within")), (fun K => He.Fa.ok K (.glo "is_name")), (fun K => He.Fa.ok K (.glo "are_unlike")), (fun K => He.Fa.ok K (.glo "are_names")), (fun K => He.Fa.ok K (.glo "visits")), (fun K => He.Fa.ok K (.glo "shortest_fault")), (fun K => He.Fa.ok K (.glo "is_safe")), (fun K => He.Fa.ok K (.glo "shortest_stuck")), (fun K => He.Fa.ok K (.glo "longer")), (fun K => He.Fa.ok K (.glo "runs")), (fun K => He.Fa.ok K (.glo "is_row")), (fun K => He.Fa.ok K (.glo "fits")), (fun K => He.Fa.ok K (.glo "variables_of")), (fun K => He.Fa.ok K (.glo "locks_of")), (fun K => He.Fa.ok K (.glo "are_sorts")), (fun K => He.Fa.ok K (.glo "is_sound"))]
def xsAll1 : List Ck := [(fun K => He.Fa.ok K (.glo "check_table")), (fun K => He.Fa.ok K (.glo "are_hands")), (fun K => He.Fa.ok K (.glo "is_step")), (fun K => He.Fa.ok K (.glo "can_step")), (fun K => He.Fa.ok K (.glo "_law_begin")), (fun K => He.Fa.ok K (.glo "_law_mixed")), (fun K => He.Fa.ok K (.glo "_law_draw")), (fun K => He.Fa.ok K (.glo "_law_pick")), (fun K => He.Fa.ok K (.glo "_law_made_kinds")), (fun K => He.Fa.ok K (.glo "_law_program_of")), (fun K => He.Fa.ok K (.glo "_law_build")), (fun K => He.Fa.ok K (.glo "_law_bench_of")), (fun K => He.Fa.ok K (.glo "_law_draw_hands")), (fun K => He.Fa.ok K (.glo "_law_rows_of")), (fun K => He.Fa.ok K (.glo "_law_kinds")), (fun K => He.Fa.ok K (.glo "_law_ways")), (fun K => He.Fa.ok K (.glo "law")), (fun K => He.Fa.ok K (.glo "Sort")), (fun K => He.Fa.ok K (.glo "Program")), (fun K => He.Fa.ok K (.glo "Bench")), (fun K => He.Fa.ok K (.glo "WORDS")), (fun K => He.Fa.ok K (.glo "BOOKS")), (fun K => He.Fa.ok K (.glo "SIZES")), (fun K => He.Fa.ok K (.free "len")), (fun K => He.Fa.ok K (.free "range")), (fun K => He.Fa.ok K (.free "isinstance")), (fun K => He.Fa.ok K (.free "int")), (fun K => He.Fa.ok K (.free "bool")), (fun K => He.Fa.ok K (.free "str")), (fun K => He.Fa.ok K (.free "list"))]
def xsAll2 : List Ck := [(fun K => He.Fa.ok K (.free "tuple")), (fun K => He.Fa.ok K (.free "all")), (fun K => He.Fa.ok K (.free "sum")), (fun K => He.Fa.ok K (.free "min")), (fun K => He.Fa.ok K (.free "set")), (fun K => He.Fa.ok K (.free "enumerate")), (fun K => He.Fa.ok K (.free "abs")), (fun K => He.Fa.ok K (.int "MOST_LETTERS" 8)), (fun K => He.Fa.ok K (.int "MOST_STATES" 50000)), (fun K => He.Fa.ok K (.int "MOST_LENGTH" 12)), (fun K => He.Fa.ok K (.int "MOST_ROWS" 10)), (fun K => He.Fa.ok K (.int "MOST_SORTS" 3)), (fun K => He.Fa.ok K (.int "MOST_NAMES" 2)), (fun K => He.Fa.ok K (.int "MOST_TARGETS" 4)), (fun K => He.Fa.ok K (.int "MOST_SIZE" 60)), (fun K => He.Fa.ok K (.int "MOST_TURNS" 4)), (fun K => He.Fa.ok K (.int "MOST_HANDS" 30)), (fun K => He.Fa.ok K (.str "LETTERS" "abcdefghijklmnopqrstuvwxyz")), (fun K => He.Fa.ok K (.cls "Sort")), (fun K => He.Fa.ok K (.cls "Program")), (fun K => He.Fa.ok K (.cls "Bench")), (fun K => He.Fa.ok K (.mkr "Sort")), (fun K => He.Fa.ok K (.mkr "Program")), (fun K => He.Fa.ok K (.mkr "Bench")), (fun K => He.Fa.ok K (.noat "Sort" "kept_name")), (fun K => He.Fa.ok K (.noat "Sort" "kept_rows")), (fun K => He.Fa.ok K (.noat "Sort" "kept_own")), (fun K => He.Fa.ok K (.noat "Program" "kept_sorts")), (fun K => He.Fa.ok K (.noat "Program" "kept_common")), (fun K => He.Fa.ok K (.noat "Program" "kept_locks"))]
def xsAll3 : List Ck := [(fun K => He.Fa.ok K (.noat "Bench" "kept_program")), (fun K => He.Fa.ok K (.noat "Bench" "kept_hands")), (fun K => He.Fa.ok K (.noat "Bench" "kept_size")), (fun K => He.Fa.ok K (.noat "Bench" "kept_book")), (fun K => He.Fa.ok K (.noat "Bench" "kept_turns")), (fun K => He.Fa.ok K (.meth "Sort" "__len__")), (fun K => He.Fa.ok K (.meth "Sort" "__getitem__")), (fun K => He.Fa.ok K (.meth "Program" "__getitem__")), (fun K => He.Fa.ok K (.meth "Program" "__contains__")), (fun K => He.Fa.ok K (.meth "Bench" "__call__")), (propB "Sort" "name"), (propB "Sort" "rows"), (propB "Sort" "own"), (propB "Program" "common"), (propB "Program" "locks"), (propB "Bench" "program"), (propB "Bench" "hands"), (propB "Bench" "size"), (propB "Bench" "book"), (propB "Bench" "turns"), (getB), (insB "Sort"), (insB "Program"), (fun K => PySem.W.fnIn K (He.ma K (He.ga K "Bench") "__call__")), (fun K => PySem.W.fnIn K (He.ma K (He.ga K "Sort") "__getitem__")), (fun K => PySem.W.fnIn K (He.ma K (He.ga K "Program") "__getitem__")), (fun K => PySem.W.noSeq K (He.ga K "Sort")), (fun K => PySem.W.noSeq K (He.ga K "Program")), (fun K => He.tupB K "WORDS" [.str "open", .str "close", .str "renew", .str "use", .str "set", .str "drop", .str "lock", .str "unlock", .str "go", .str "rest"]), (fun K => He.tupB K "BOOKS" [.str "least", .str "any", .str "next", .str "last"])]
def xsAll4 : List Ck := [(fun K => He.valsB K (He.ga K "SIZES") [("open", .int 2), ("close", .int 2), ("renew", .int 2), ("use", .int 2), ("set", .int 3), ("drop", .int 2), ("lock", .int 2), ("unlock", .int 2), ("rest", .int 1)])]
abbrev xsAll : List Ck := xsAll0 ++ xsAll1 ++ xsAll2 ++ xsAll3 ++ xsAll4
def tabs : List He.Tab := [(fun K => He.ga K "SIZES", ["open", "close", "renew", "use", "set", "drop", "lock", "unlock", "rest"])]
/-- what the head tells -/
structure Top (w : World) (K : PySem.W.Frag) (mg : Str → Option Value) : Prop where
  ex : ∃ h : Heap, K.In h ∧ h.Ns mainGlobals mg
  c : SaysX xsAll dsAll tabs w K
section
variable {w : World} {K : PySem.W.Frag} {mg : Str → Option Value} (T : Top w K mg)
include T
theorem Top.glo_empty_state : mg "empty_state" = some (.ref (He.ga K "empty_state")) := let ⟨_, X, G⟩ := T.ex; He.glo_ok X G (T.c.ck 0)
theorem Top.glo_put : mg "put" = some (.ref (He.ga K "put")) := let ⟨_, X, G⟩ := T.ex; He.glo_ok X G (T.c.ck 1)
theorem Top.glo_sorts_of : mg "sorts_of" = some (.ref (He.ga K "sorts_of")) := let ⟨_, X, G⟩ := T.ex; He.glo_ok X G (T.c.ck 2)
theorem Top.glo_first_state : mg "first_state" = some (.ref (He.ga K "first_state")) := let ⟨_, X, G⟩ := T.ex; He.glo_ok X G (T.c.ck 3)
theorem Top.glo_next_row : mg "next_row" = some (.ref (He.ga K "next_row")) := let ⟨_, X, G⟩ := T.ex; He.glo_ok X G (T.c.ck 4)
theorem Top.glo_at_row : mg "at_row" = some (.ref (He.ga K "at_row")) := let ⟨_, X, G⟩ := T.ex; He.glo_ok X G (T.c.ck 5)
theorem Top.glo_choices_of : mg "choices_of" = some (.ref (He.ga K "choices_of")) := let ⟨_, X, G⟩ := T.ex; He.glo_ok X G (T.c.ck 6)
theorem Top.glo_simply : mg "simply" = some (.ref (He.ga K "simply")) := let ⟨_, X, G⟩ := T.ex; He.glo_ok X G (T.c.ck 7)
theorem Top.glo_stepped : mg "stepped" = some (.ref (He.ga K "stepped")) := let ⟨_, X, G⟩ := T.ex; He.glo_ok X G (T.c.ck 8)
theorem Top.glo_all_steps : mg "all_steps" = some (.ref (He.ga K "all_steps")) := let ⟨_, X, G⟩ := T.ex; He.glo_ok X G (T.c.ck 9)
theorem Top.glo_has_ended : mg "has_ended" = some (.ref (He.ga K "has_ended")) := let ⟨_, X, G⟩ := T.ex; He.glo_ok X G (T.c.ck 10)
theorem Top.glo_plain : mg "plain" = some (.ref (He.ga K "plain")) := let ⟨_, X, G⟩ := T.ex; He.glo_ok X G (T.c.ck 11)
theorem Top.glo_is_integer : mg "is_integer" = some (.ref (He.ga K "is_integer")) := let ⟨_, X, G⟩ := T.ex; He.glo_ok X G (T.c.ck 12)
theorem Top.glo_is_count : mg "is_count" = some (.ref (He.ga K "is_count")) := let ⟨_, X, G⟩ := T.ex; He.glo_ok X G (T.c.ck 13)
theorem Top.glo_is_within : mg "is_within" = some (.ref (He.ga K "is_within")) := let ⟨_, X, G⟩ := T.ex; He.glo_ok X G (T.c.ck 14)
theorem Top.glo_is_name : mg "is_name" = some (.ref (He.ga K "is_name")) := let ⟨_, X, G⟩ := T.ex; He.glo_ok X G (T.c.ck 15)
theorem Top.glo_are_unlike : mg "are_unlike" = some (.ref (He.ga K "are_unlike")) := let ⟨_, X, G⟩ := T.ex; He.glo_ok X G (T.c.ck 16)
theorem Top.glo_are_names : mg "are_names" = some (.ref (He.ga K "are_names")) := let ⟨_, X, G⟩ := T.ex; He.glo_ok X G (T.c.ck 17)
theorem Top.glo_visits : mg "visits" = some (.ref (He.ga K "visits")) := let ⟨_, X, G⟩ := T.ex; He.glo_ok X G (T.c.ck 18)
theorem Top.glo_shortest_fault : mg "shortest_fault" = some (.ref (He.ga K "shortest_fault")) := let ⟨_, X, G⟩ := T.ex; He.glo_ok X G (T.c.ck 19)
theorem Top.glo_is_safe : mg "is_safe" = some (.ref (He.ga K "is_safe")) := let ⟨_, X, G⟩ := T.ex; He.glo_ok X G (T.c.ck 20)
theorem Top.glo_shortest_stuck : mg "shortest_stuck" = some (.ref (He.ga K "shortest_stuck")) := let ⟨_, X, G⟩ := T.ex; He.glo_ok X G (T.c.ck 21)
theorem Top.glo_longer : mg "longer" = some (.ref (He.ga K "longer")) := let ⟨_, X, G⟩ := T.ex; He.glo_ok X G (T.c.ck 22)
theorem Top.glo_runs : mg "runs" = some (.ref (He.ga K "runs")) := let ⟨_, X, G⟩ := T.ex; He.glo_ok X G (T.c.ck 23)
theorem Top.glo_is_row : mg "is_row" = some (.ref (He.ga K "is_row")) := let ⟨_, X, G⟩ := T.ex; He.glo_ok X G (T.c.ck 24)
theorem Top.glo_fits : mg "fits" = some (.ref (He.ga K "fits")) := let ⟨_, X, G⟩ := T.ex; He.glo_ok X G (T.c.ck 25)
theorem Top.glo_variables_of : mg "variables_of" = some (.ref (He.ga K "variables_of")) := let ⟨_, X, G⟩ := T.ex; He.glo_ok X G (T.c.ck 26)
theorem Top.glo_locks_of : mg "locks_of" = some (.ref (He.ga K "locks_of")) := let ⟨_, X, G⟩ := T.ex; He.glo_ok X G (T.c.ck 27)
theorem Top.glo_are_sorts : mg "are_sorts" = some (.ref (He.ga K "are_sorts")) := let ⟨_, X, G⟩ := T.ex; He.glo_ok X G (T.c.ck 28)
theorem Top.glo_is_sound : mg "is_sound" = some (.ref (He.ga K "is_sound")) := let ⟨_, X, G⟩ := T.ex; He.glo_ok X G (T.c.ck 29)
theorem Top.glo_check_table : mg "check_table" = some (.ref (He.ga K "check_table")) := let ⟨_, X, G⟩ := T.ex; He.glo_ok X G (T.c.ck 30)
theorem Top.glo_are_hands : mg "are_hands" = some (.ref (He.ga K "are_hands")) := let ⟨_, X, G⟩ := T.ex; He.glo_ok X G (T.c.ck 31)
theorem Top.glo_is_step : mg "is_step" = some (.ref (He.ga K "is_step")) := let ⟨_, X, G⟩ := T.ex; He.glo_ok X G (T.c.ck 32)
theorem Top.glo_can_step : mg "can_step" = some (.ref (He.ga K "can_step")) := let ⟨_, X, G⟩ := T.ex; He.glo_ok X G (T.c.ck 33)
theorem Top.glo__law_begin : mg "_law_begin" = some (.ref (He.ga K "_law_begin")) := let ⟨_, X, G⟩ := T.ex; He.glo_ok X G (T.c.ck 34)
theorem Top.glo__law_mixed : mg "_law_mixed" = some (.ref (He.ga K "_law_mixed")) := let ⟨_, X, G⟩ := T.ex; He.glo_ok X G (T.c.ck 35)
theorem Top.glo__law_draw : mg "_law_draw" = some (.ref (He.ga K "_law_draw")) := let ⟨_, X, G⟩ := T.ex; He.glo_ok X G (T.c.ck 36)
theorem Top.glo__law_pick : mg "_law_pick" = some (.ref (He.ga K "_law_pick")) := let ⟨_, X, G⟩ := T.ex; He.glo_ok X G (T.c.ck 37)
theorem Top.glo__law_made_kinds : mg "_law_made_kinds" = some (.ref (He.ga K "_law_made_kinds")) := let ⟨_, X, G⟩ := T.ex; He.glo_ok X G (T.c.ck 38)
theorem Top.glo__law_program_of : mg "_law_program_of" = some (.ref (He.ga K "_law_program_of")) := let ⟨_, X, G⟩ := T.ex; He.glo_ok X G (T.c.ck 39)
theorem Top.glo__law_build : mg "_law_build" = some (.ref (He.ga K "_law_build")) := let ⟨_, X, G⟩ := T.ex; He.glo_ok X G (T.c.ck 40)
theorem Top.glo__law_bench_of : mg "_law_bench_of" = some (.ref (He.ga K "_law_bench_of")) := let ⟨_, X, G⟩ := T.ex; He.glo_ok X G (T.c.ck 41)
theorem Top.glo__law_draw_hands : mg "_law_draw_hands" = some (.ref (He.ga K "_law_draw_hands")) := let ⟨_, X, G⟩ := T.ex; He.glo_ok X G (T.c.ck 42)
theorem Top.glo__law_rows_of : mg "_law_rows_of" = some (.ref (He.ga K "_law_rows_of")) := let ⟨_, X, G⟩ := T.ex; He.glo_ok X G (T.c.ck 43)
theorem Top.glo__law_kinds : mg "_law_kinds" = some (.ref (He.ga K "_law_kinds")) := let ⟨_, X, G⟩ := T.ex; He.glo_ok X G (T.c.ck 44)
theorem Top.glo__law_ways : mg "_law_ways" = some (.ref (He.ga K "_law_ways")) := let ⟨_, X, G⟩ := T.ex; He.glo_ok X G (T.c.ck 45)
theorem Top.glo_law : mg "law" = some (.ref (He.ga K "law")) := let ⟨_, X, G⟩ := T.ex; He.glo_ok X G (T.c.ck 46)
theorem Top.glo_Sort : mg "Sort" = some (.ref (He.ga K "Sort")) := let ⟨_, X, G⟩ := T.ex; He.glo_ok X G (T.c.ck 47)
theorem Top.glo_Program : mg "Program" = some (.ref (He.ga K "Program")) := let ⟨_, X, G⟩ := T.ex; He.glo_ok X G (T.c.ck 48)
theorem Top.glo_Bench : mg "Bench" = some (.ref (He.ga K "Bench")) := let ⟨_, X, G⟩ := T.ex; He.glo_ok X G (T.c.ck 49)
theorem Top.glo_WORDS : mg "WORDS" = some (.ref (He.ga K "WORDS")) := let ⟨_, X, G⟩ := T.ex; He.glo_ok X G (T.c.ck 50)
theorem Top.glo_BOOKS : mg "BOOKS" = some (.ref (He.ga K "BOOKS")) := let ⟨_, X, G⟩ := T.ex; He.glo_ok X G (T.c.ck 51)
theorem Top.glo_SIZES : mg "SIZES" = some (.ref (He.ga K "SIZES")) := let ⟨_, X, G⟩ := T.ex; He.glo_ok X G (T.c.ck 52)
theorem Top.free_len : mg "len" = none := let ⟨_, X, G⟩ := T.ex; He.free_ok X G (T.c.ck 53)
theorem Top.free_range : mg "range" = none := let ⟨_, X, G⟩ := T.ex; He.free_ok X G (T.c.ck 54)
theorem Top.free_isinstance : mg "isinstance" = none := let ⟨_, X, G⟩ := T.ex; He.free_ok X G (T.c.ck 55)
theorem Top.free_int : mg "int" = none := let ⟨_, X, G⟩ := T.ex; He.free_ok X G (T.c.ck 56)
theorem Top.free_bool : mg "bool" = none := let ⟨_, X, G⟩ := T.ex; He.free_ok X G (T.c.ck 57)
theorem Top.free_str : mg "str" = none := let ⟨_, X, G⟩ := T.ex; He.free_ok X G (T.c.ck 58)
theorem Top.free_list : mg "list" = none := let ⟨_, X, G⟩ := T.ex; He.free_ok X G (T.c.ck 59)
theorem Top.free_tuple : mg "tuple" = none := let ⟨_, X, G⟩ := T.ex; He.free_ok X G (T.c.ck 60)
theorem Top.free_all : mg "all" = none := let ⟨_, X, G⟩ := T.ex; He.free_ok X G (T.c.ck 61)
theorem Top.free_sum : mg "sum" = none := let ⟨_, X, G⟩ := T.ex; He.free_ok X G (T.c.ck 62)
theorem Top.free_min : mg "min" = none := let ⟨_, X, G⟩ := T.ex; He.free_ok X G (T.c.ck 63)
theorem Top.free_set : mg "set" = none := let ⟨_, X, G⟩ := T.ex; He.free_ok X G (T.c.ck 64)
theorem Top.free_enumerate : mg "enumerate" = none := let ⟨_, X, G⟩ := T.ex; He.free_ok X G (T.c.ck 65)
theorem Top.free_abs : mg "abs" = none := let ⟨_, X, G⟩ := T.ex; He.free_ok X G (T.c.ck 66)
theorem Top.int_MOST_LETTERS : ∃ t, mg "MOST_LETTERS" = some (.int 8 t) := let ⟨_, X, G⟩ := T.ex; He.int_ok X G (T.c.ck 67)
theorem Top.int_MOST_STATES : ∃ t, mg "MOST_STATES" = some (.int 50000 t) := let ⟨_, X, G⟩ := T.ex; He.int_ok X G (T.c.ck 68)
theorem Top.int_MOST_LENGTH : ∃ t, mg "MOST_LENGTH" = some (.int 12 t) := let ⟨_, X, G⟩ := T.ex; He.int_ok X G (T.c.ck 69)
theorem Top.int_MOST_ROWS : ∃ t, mg "MOST_ROWS" = some (.int 10 t) := let ⟨_, X, G⟩ := T.ex; He.int_ok X G (T.c.ck 70)
theorem Top.int_MOST_SORTS : ∃ t, mg "MOST_SORTS" = some (.int 3 t) := let ⟨_, X, G⟩ := T.ex; He.int_ok X G (T.c.ck 71)
theorem Top.int_MOST_NAMES : ∃ t, mg "MOST_NAMES" = some (.int 2 t) := let ⟨_, X, G⟩ := T.ex; He.int_ok X G (T.c.ck 72)
theorem Top.int_MOST_TARGETS : ∃ t, mg "MOST_TARGETS" = some (.int 4 t) := let ⟨_, X, G⟩ := T.ex; He.int_ok X G (T.c.ck 73)
theorem Top.int_MOST_SIZE : ∃ t, mg "MOST_SIZE" = some (.int 60 t) := let ⟨_, X, G⟩ := T.ex; He.int_ok X G (T.c.ck 74)
theorem Top.int_MOST_TURNS : ∃ t, mg "MOST_TURNS" = some (.int 4 t) := let ⟨_, X, G⟩ := T.ex; He.int_ok X G (T.c.ck 75)
theorem Top.int_MOST_HANDS : ∃ t, mg "MOST_HANDS" = some (.int 30 t) := let ⟨_, X, G⟩ := T.ex; He.int_ok X G (T.c.ck 76)
theorem Top.str_LETTERS : ∃ t, mg "LETTERS" = some (.str "abcdefghijklmnopqrstuvwxyz" t) := let ⟨_, X, G⟩ := T.ex; He.str_ok X G (T.c.ck 77)
theorem Top.cls_Sort : Cls K (He.ga K "Sort") := He.cls_ok (T.c.ck 78)
theorem Top.cls_Program : Cls K (He.ga K "Program") := He.cls_ok (T.c.ck 79)
theorem Top.cls_Bench : Cls K (He.ga K "Bench") := He.cls_ok (T.c.ck 80)
theorem Top.mkr_Sort : Mk K (He.ga K "Sort") (He.ma K (He.ga K "Sort") "__init__") := He.mkr_ok (T.c.ck 81)
theorem Top.mkr_Program : Mk K (He.ga K "Program") (He.ma K (He.ga K "Program") "__init__") := He.mkr_ok (T.c.ck 82)
theorem Top.mkr_Bench : Mk K (He.ga K "Bench") (He.ma K (He.ga K "Bench") "__init__") := He.mkr_ok (T.c.ck 83)
theorem Top.noat_Sort_kept_name : NoAttr K (He.ga K "Sort") "kept_name" := He.noat_ok (T.c.ck 84)
theorem Top.noat_Sort_kept_rows : NoAttr K (He.ga K "Sort") "kept_rows" := He.noat_ok (T.c.ck 85)
theorem Top.noat_Sort_kept_own : NoAttr K (He.ga K "Sort") "kept_own" := He.noat_ok (T.c.ck 86)
theorem Top.noat_Program_kept_sorts : NoAttr K (He.ga K "Program") "kept_sorts" := He.noat_ok (T.c.ck 87)
theorem Top.noat_Program_kept_common : NoAttr K (He.ga K "Program") "kept_common" := He.noat_ok (T.c.ck 88)
theorem Top.noat_Program_kept_locks : NoAttr K (He.ga K "Program") "kept_locks" := He.noat_ok (T.c.ck 89)
theorem Top.noat_Bench_kept_program : NoAttr K (He.ga K "Bench") "kept_program" := He.noat_ok (T.c.ck 90)
theorem Top.noat_Bench_kept_hands : NoAttr K (He.ga K "Bench") "kept_hands" := He.noat_ok (T.c.ck 91)
theorem Top.noat_Bench_kept_size : NoAttr K (He.ga K "Bench") "kept_size" := He.noat_ok (T.c.ck 92)
theorem Top.noat_Bench_kept_book : NoAttr K (He.ga K "Bench") "kept_book" := He.noat_ok (T.c.ck 93)
theorem Top.noat_Bench_kept_turns : NoAttr K (He.ga K "Bench") "kept_turns" := He.noat_ok (T.c.ck 94)
theorem Top.meth_Sort_len : Meth K (He.ga K "Sort") "__len__" (He.ma K (He.ga K "Sort") "__len__") := He.meth_ok (T.c.ck 95)
theorem Top.meth_Sort_getitem : Meth K (He.ga K "Sort") "__getitem__" (He.ma K (He.ga K "Sort") "__getitem__") := He.meth_ok (T.c.ck 96)
theorem Top.meth_Program_getitem : Meth K (He.ga K "Program") "__getitem__" (He.ma K (He.ga K "Program") "__getitem__") := He.meth_ok (T.c.ck 97)
theorem Top.meth_Program_contains : Meth K (He.ga K "Program") "__contains__" (He.ma K (He.ga K "Program") "__contains__") := He.meth_ok (T.c.ck 98)
theorem Top.meth_Bench_call : Meth K (He.ga K "Bench") "__call__" (He.ma K (He.ga K "Bench") "__call__") := He.meth_ok (T.c.ck 99)
theorem Top.prop_Sort_name : ∃ p, PropOf K (He.ga K "Sort") "name" p (getG "Sort" "name" K) := propB_ok (T.c.ck 100)
theorem Top.prop_Sort_rows : ∃ p, PropOf K (He.ga K "Sort") "rows" p (getG "Sort" "rows" K) := propB_ok (T.c.ck 101)
theorem Top.prop_Sort_own : ∃ p, PropOf K (He.ga K "Sort") "own" p (getG "Sort" "own" K) := propB_ok (T.c.ck 102)
theorem Top.prop_Program_common : ∃ p, PropOf K (He.ga K "Program") "common" p (getG "Program" "common" K) := propB_ok (T.c.ck 103)
theorem Top.prop_Program_locks : ∃ p, PropOf K (He.ga K "Program") "locks" p (getG "Program" "locks" K) := propB_ok (T.c.ck 104)
theorem Top.prop_Bench_program : ∃ p, PropOf K (He.ga K "Bench") "program" p (getG "Bench" "program" K) := propB_ok (T.c.ck 105)
theorem Top.prop_Bench_hands : ∃ p, PropOf K (He.ga K "Bench") "hands" p (getG "Bench" "hands" K) := propB_ok (T.c.ck 106)
theorem Top.prop_Bench_size : ∃ p, PropOf K (He.ga K "Bench") "size" p (getG "Bench" "size" K) := propB_ok (T.c.ck 107)
theorem Top.prop_Bench_book : ∃ p, PropOf K (He.ga K "Bench") "book" p (getG "Bench" "book" K) := propB_ok (T.c.ck 108)
theorem Top.prop_Bench_turns : ∃ p, PropOf K (He.ga K "Bench") "turns" p (getG "Bench" "turns" K) := propB_ok (T.c.ck 109)
theorem Top.get_ : getB K = true := T.c.ck 110
theorem Top.ins_Sort : C8.InsC K (He.ga K "Sort") := insB_ok (T.c.ck 111) T.get_ T.cls_Sort
theorem Top.ins_Program : C8.InsC K (He.ga K "Program") := insB_ok (T.c.ck 112) T.get_ T.cls_Program
theorem Top.fnin_call : (fun K => PySem.W.fnIn K (He.ma K (He.ga K "Bench") "__call__")) K = true := T.c.ck 113
theorem Top.fnin_getSort : (fun K => PySem.W.fnIn K (He.ma K (He.ga K "Sort") "__getitem__")) K = true := T.c.ck 114
theorem Top.fnin_getProgram : (fun K => PySem.W.fnIn K (He.ma K (He.ga K "Program") "__getitem__")) K = true := T.c.ck 115
theorem Top.noseq_Sort : (fun K => PySem.W.noSeq K (He.ga K "Sort")) K = true := T.c.ck 116
theorem Top.noseq_Program : (fun K => PySem.W.noSeq K (He.ga K "Program")) K = true := T.c.ck 117
theorem Top.tup_WORDS (H : Hp) : SqT K H (He.ga K "WORDS") [.str "open", .str "close", .str "renew", .str "use", .str "set", .str "drop", .str "lock", .str "unlock", .str "go", .str "rest"] := He.tupB_ok (T.c.ck 118) H
theorem Top.tup_BOOKS (H : Hp) : SqT K H (He.ga K "BOOKS") [.str "least", .str "any", .str "next", .str "last"] := He.tupB_ok (T.c.ck 119) H
theorem Top.vals_SIZES : He.valsB K (He.ga K "SIZES") [("open", .int 2), ("close", .int 2), ("renew", .int 2), ("use", .int 2), ("set", .int 3), ("drop", .int 2), ("lock", .int 2), ("unlock", .int 2), ("rest", .int 1)] = true := T.c.ck 120
theorem Top.d_empty_state : ∃ fd, Fun K "empty_state" "empty_state" s_empty_state (He.ga K "empty_state") fd := T.c.def_ 0 (d := Wv.d_empty_state)
theorem Top.d_put : ∃ fd, Fun K "put" "put" s_put (He.ga K "put") fd := T.c.def_ 1 (d := Wv.d_put)
theorem Top.d_sorts_of : ∃ fd, Fun K "sorts_of" "sorts_of" s_sorts_of (He.ga K "sorts_of") fd := T.c.def_ 2 (d := Wv.d_sorts_of)
theorem Top.d_first_state : ∃ fd, Fun K "first_state" "first_state" s_first_state (He.ga K "first_state") fd := T.c.def_ 3 (d := Wv.d_first_state)
theorem Top.d_next_row : ∃ fd, Fun K "next_row" "next_row" s_next_row (He.ga K "next_row") fd := T.c.def_ 4 (d := Wv.d_next_row)
theorem Top.d_at_row : ∃ fd, Fun K "at_row" "at_row" s_at_row (He.ga K "at_row") fd := T.c.def_ 5 (d := Wv.d_at_row)
theorem Top.d_choices_of : ∃ fd, Fun K "choices_of" "choices_of" s_choices_of (He.ga K "choices_of") fd := T.c.def_ 6 (d := Wv.d_choices_of)
theorem Top.d_simply : ∃ fd, Fun K "simply" "simply" s_simply (He.ga K "simply") fd := T.c.def_ 7 (d := Wv.d_simply)
theorem Top.d_stepped : ∃ fd, Fun K "stepped" "stepped" s_stepped (He.ga K "stepped") fd := T.c.def_ 8 (d := Wv.d_stepped)
theorem Top.d_all_steps : ∃ fd, Fun K "all_steps" "all_steps" s_all_steps (He.ga K "all_steps") fd := T.c.def_ 9 (d := Wv.d_all_steps)
theorem Top.d_has_ended : ∃ fd, Fun K "has_ended" "has_ended" s_has_ended (He.ga K "has_ended") fd := T.c.def_ 10 (d := Wv.d_has_ended)
theorem Top.d_plain : ∃ fd, Fun K "plain" "plain" s_plain (He.ga K "plain") fd := T.c.def_ 11 (d := Wv.d_plain)
theorem Top.d_is_integer : ∃ fd, Fun K "is_integer" "is_integer" s_is_integer (He.ga K "is_integer") fd := T.c.def_ 12 (d := Wv.d_is_integer)
theorem Top.d_is_count : ∃ fd, Fun K "is_count" "is_count" s_is_count (He.ga K "is_count") fd := T.c.def_ 13 (d := Wv.d_is_count)
theorem Top.d_is_within : ∃ fd, Fun K "is_within" "is_within" s_is_within (He.ga K "is_within") fd := T.c.def_ 14 (d := Wv.d_is_within)
theorem Top.d_is_name : ∃ fd, Fun K "is_name" "is_name" s_is_name (He.ga K "is_name") fd := T.c.def_ 15 (d := Wv.d_is_name)
theorem Top.d_are_unlike : ∃ fd, Fun K "are_unlike" "are_unlike" s_are_unlike (He.ga K "are_unlike") fd := T.c.def_ 16 (d := Wv.d_are_unlike)
theorem Top.d_are_names : ∃ fd, Fun K "are_names" "are_names" s_are_names (He.ga K "are_names") fd := T.c.def_ 17 (d := Wv.d_are_names)
theorem Top.d_visits : ∃ fd, Fun K "visits" "visits" s_visits (He.ga K "visits") fd := T.c.def_ 18 (d := Wv.d_visits)
theorem Top.d_shortest_fault : ∃ fd, Fun K "shortest_fault" "shortest_fault" s_shortest_fault (He.ga K "shortest_fault") fd := T.c.def_ 19 (d := Wv.d_shortest_fault)
theorem Top.d_is_safe : ∃ fd, Fun K "is_safe" "is_safe" s_is_safe (He.ga K "is_safe") fd := T.c.def_ 20 (d := Wv.d_is_safe)
theorem Top.d_shortest_stuck : ∃ fd, Fun K "shortest_stuck" "shortest_stuck" s_shortest_stuck (He.ga K "shortest_stuck") fd := T.c.def_ 21 (d := Wv.d_shortest_stuck)
theorem Top.d_longer : ∃ fd, Fun K "longer" "longer" s_longer (He.ga K "longer") fd := T.c.def_ 22 (d := Wv.d_longer)
theorem Top.d_runs : ∃ fd, Fun K "runs" "runs" s_runs (He.ga K "runs") fd := T.c.def_ 23 (d := Wv.d_runs)
theorem Top.d_is_row : ∃ fd, Fun K "is_row" "is_row" s_is_row (He.ga K "is_row") fd := T.c.def_ 24 (d := Wv.d_is_row)
theorem Top.d_fits : ∃ fd, Fun K "fits" "fits" s_fits (He.ga K "fits") fd := T.c.def_ 25 (d := Wv.d_fits)
theorem Top.d_variables_of : ∃ fd, Fun K "variables_of" "variables_of" s_variables_of (He.ga K "variables_of") fd := T.c.def_ 26 (d := Wv.d_variables_of)
theorem Top.d_locks_of : ∃ fd, Fun K "locks_of" "locks_of" s_locks_of (He.ga K "locks_of") fd := T.c.def_ 27 (d := Wv.d_locks_of)
theorem Top.d_are_sorts : ∃ fd, Fun K "are_sorts" "are_sorts" s_are_sorts (He.ga K "are_sorts") fd := T.c.def_ 28 (d := Wv.d_are_sorts)
theorem Top.d_is_sound : ∃ fd, Fun K "is_sound" "is_sound" s_is_sound (He.ga K "is_sound") fd := T.c.def_ 29 (d := Wv.d_is_sound)
theorem Top.d_check_table : ∃ fd, Fun K "check_table" "check_table" s_check_table (He.ga K "check_table") fd := T.c.def_ 30 (d := Wv.d_check_table)
theorem Top.d_are_hands : ∃ fd, Fun K "are_hands" "are_hands" s_are_hands (He.ga K "are_hands") fd := T.c.def_ 31 (d := Wv.d_are_hands)
theorem Top.d_is_step : ∃ fd, Fun K "is_step" "is_step" s_is_step (He.ga K "is_step") fd := T.c.def_ 32 (d := Wv.d_is_step)
theorem Top.d_can_step : ∃ fd, Fun K "can_step" "can_step" s_can_step (He.ga K "can_step") fd := T.c.def_ 33 (d := Wv.d_can_step)
theorem Top.d__law_begin : ∃ fd, Fun K "_law_begin" "_law_begin" s__law_begin (He.ga K "_law_begin") fd := T.c.def_ 34 (d := Wv.d__law_begin)
theorem Top.d__law_mixed : ∃ fd, Fun K "_law_mixed" "_law_mixed" s__law_mixed (He.ga K "_law_mixed") fd := T.c.def_ 35 (d := Wv.d__law_mixed)
theorem Top.d__law_draw : ∃ fd, Fun K "_law_draw" "_law_draw" s__law_draw (He.ga K "_law_draw") fd := T.c.def_ 36 (d := Wv.d__law_draw)
theorem Top.d__law_pick : ∃ fd, Fun K "_law_pick" "_law_pick" s__law_pick (He.ga K "_law_pick") fd := T.c.def_ 37 (d := Wv.d__law_pick)
theorem Top.d__law_made_kinds : ∃ fd, Fun K "_law_made_kinds" "_law_made_kinds" s__law_made_kinds (He.ga K "_law_made_kinds") fd := T.c.def_ 38 (d := Wv.d__law_made_kinds)
theorem Top.d__law_program_of : ∃ fd, Fun K "_law_program_of" "_law_program_of" s__law_program_of (He.ga K "_law_program_of") fd := T.c.def_ 39 (d := Wv.d__law_program_of)
theorem Top.d__law_build : ∃ fd, Fun K "_law_build" "_law_build" s__law_build (He.ga K "_law_build") fd := T.c.def_ 40 (d := Wv.d__law_build)
theorem Top.d__law_bench_of : ∃ fd, Fun K "_law_bench_of" "_law_bench_of" s__law_bench_of (He.ga K "_law_bench_of") fd := T.c.def_ 41 (d := Wv.d__law_bench_of)
theorem Top.d__law_draw_hands : ∃ fd, Fun K "_law_draw_hands" "_law_draw_hands" s__law_draw_hands (He.ga K "_law_draw_hands") fd := T.c.def_ 42 (d := Wv.d__law_draw_hands)
theorem Top.d__law_rows_of : ∃ fd, Fun K "_law_rows_of" "_law_rows_of" s__law_rows_of (He.ga K "_law_rows_of") fd := T.c.def_ 43 (d := Wv.d__law_rows_of)
theorem Top.d__law_kinds : ∃ fd, Fun K "_law_kinds" "_law_kinds" s__law_kinds (He.ga K "_law_kinds") fd := T.c.def_ 44 (d := Wv.d__law_kinds)
theorem Top.d__law_ways : ∃ fd, Fun K "_law_ways" "_law_ways" s__law_ways (He.ga K "_law_ways") fd := T.c.def_ 45 (d := Wv.d__law_ways)
theorem Top.d_law : ∃ fd, Fun K "law" "law" s_law (He.ga K "law") fd := T.c.def_ 46 (d := Wv.d_law)
theorem Top.d_Sort_init : ∃ fd, Fun K "__init__" "Sort.__init__" s_Sort_init (He.ma K (He.ga K "Sort") "__init__") fd := T.c.def_ 47 (d := Wv.d_Sort_init)
theorem Top.d_Sort_len : ∃ fd, Fun K "__len__" "Sort.__len__" s_Sort_len (He.ma K (He.ga K "Sort") "__len__") fd := T.c.def_ 48 (d := Wv.d_Sort_len)
theorem Top.d_Sort_getitem : ∃ fd, Fun K "__getitem__" "Sort.__getitem__" s_Sort_getitem (He.ma K (He.ga K "Sort") "__getitem__") fd := T.c.def_ 49 (d := Wv.d_Sort_getitem)
theorem Top.d_Program_init : ∃ fd, Fun K "__init__" "Program.__init__" s_Program_init (He.ma K (He.ga K "Program") "__init__") fd := T.c.def_ 50 (d := Wv.d_Program_init)
theorem Top.d_Program_getitem : ∃ fd, Fun K "__getitem__" "Program.__getitem__" s_Program_getitem (He.ma K (He.ga K "Program") "__getitem__") fd := T.c.def_ 51 (d := Wv.d_Program_getitem)
theorem Top.d_Program_contains : ∃ fd, Fun K "__contains__" "Program.__contains__" s_Program_contains (He.ma K (He.ga K "Program") "__contains__") fd := T.c.def_ 52 (d := Wv.d_Program_contains)
theorem Top.d_Bench_init : ∃ fd, Fun K "__init__" "Bench.__init__" s_Bench_init (He.ma K (He.ga K "Bench") "__init__") fd := T.c.def_ 53 (d := Wv.d_Bench_init)
theorem Top.d_Bench_call : ∃ fd, Fun K "__call__" "Bench.__call__" s_Bench_call (He.ma K (He.ga K "Bench") "__call__") fd := T.c.def_ 54 (d := Wv.d_Bench_call)
theorem Top.d_Sort_p_name : ∃ fd, Fun K "name" "Sort.name" s_Sort_p_name (getG "Sort" "name" K) fd := T.c.def_ 55 (d := Wv.d_Sort_p_name)
theorem Top.d_Sort_p_rows : ∃ fd, Fun K "rows" "Sort.rows" s_Sort_p_rows (getG "Sort" "rows" K) fd := T.c.def_ 56 (d := Wv.d_Sort_p_rows)
theorem Top.d_Sort_p_own : ∃ fd, Fun K "own" "Sort.own" s_Sort_p_own (getG "Sort" "own" K) fd := T.c.def_ 57 (d := Wv.d_Sort_p_own)
theorem Top.d_Program_p_common : ∃ fd, Fun K "common" "Program.common" s_Program_p_common (getG "Program" "common" K) fd := T.c.def_ 58 (d := Wv.d_Program_p_common)
theorem Top.d_Program_p_locks : ∃ fd, Fun K "locks" "Program.locks" s_Program_p_locks (getG "Program" "locks" K) fd := T.c.def_ 59 (d := Wv.d_Program_p_locks)
theorem Top.d_Bench_p_program : ∃ fd, Fun K "program" "Bench.program" s_Bench_p_program (getG "Bench" "program" K) fd := T.c.def_ 60 (d := Wv.d_Bench_p_program)
theorem Top.d_Bench_p_hands : ∃ fd, Fun K "hands" "Bench.hands" s_Bench_p_hands (getG "Bench" "hands" K) fd := T.c.def_ 61 (d := Wv.d_Bench_p_hands)
theorem Top.d_Bench_p_size : ∃ fd, Fun K "size" "Bench.size" s_Bench_p_size (getG "Bench" "size" K) fd := T.c.def_ 62 (d := Wv.d_Bench_p_size)
theorem Top.d_Bench_p_book : ∃ fd, Fun K "book" "Bench.book" s_Bench_p_book (getG "Bench" "book" K) fd := T.c.def_ 63 (d := Wv.d_Bench_p_book)
theorem Top.d_Bench_p_turns : ∃ fd, Fun K "turns" "Bench.turns" s_Bench_p_turns (getG "Bench" "turns" K) fd := T.c.def_ 64 (d := Wv.d_Bench_p_turns)
theorem Top.tab_SIZES : ∃ es n, KDict K w (He.ga K "SIZES") es n := T.c.tab 0 (t := (fun K => He.ga K "SIZES", ["open", "close", "renew", "use", "set", "drop", "lock", "unlock", "rest"]))
end
abbrev n_empty_state : List Str := ["size"]
theorem sc_empty_state : FnScope n_empty_state ["size"] (defScope s_empty_state) := C8.fnScope_by (by decide +kernel)
abbrev n_put : List Str := ["row", "at", "value"]
theorem sc_put : FnScope n_put ["row", "at", "value"] (defScope s_put) := C8.fnScope_by (by decide +kernel)
abbrev n_sorts_of : List Str := ["bench", "name"]
theorem sc_sorts_of : FnScope n_sorts_of ["bench"] (defScope s_sorts_of) := C8.fnScope_by (by decide +kernel)
abbrev n_first_state : List Str := ["bench", "program", "sorts", "owns", "taken", "sort"]
theorem sc_first_state : FnScope n_first_state ["bench"] (defScope s_first_state) := C8.fnScope_by (by decide +kernel)
abbrev n_next_row : List Str := ["bench", "state", "hand", "sort"]
theorem sc_next_row : FnScope n_next_row ["bench", "state", "hand"] (defScope s_next_row) := C8.fnScope_by (by decide +kernel)
abbrev n_at_row : List Str := ["state", "hand", "row"]
theorem sc_at_row : FnScope n_at_row ["state", "hand", "row"] (defScope s_at_row) := C8.fnScope_by (by decide +kernel)
abbrev n_choices_of : List Str := ["bench", "state", "hand", "row"]
theorem sc_choices_of : FnScope n_choices_of ["bench", "state", "hand"] (defScope s_choices_of) := C8.fnScope_by (by decide +kernel)
abbrev n_simply : List Str := ["bench", "state", "hand", "row"]
theorem sc_simply : FnScope n_simply ["bench", "state", "hand", "row"] (defScope s_simply) := C8.fnScope_by (by decide +kernel)
abbrev n_stepped : List Str := ["bench", "state", "hand", "choice", "row", "after", "word"]
theorem sc_stepped : FnScope n_stepped ["bench", "state", "hand", "choice"] (defScope s_stepped) := C8.fnScope_by (by decide +kernel)
abbrev n_all_steps : List Str := ["bench", "state", "found", "hand", "choice"]
theorem sc_all_steps : FnScope n_all_steps ["bench", "state"] (defScope s_all_steps) := C8.fnScope_by (by decide +kernel)
abbrev n_has_ended : List Str := ["bench", "state", "hand"]
theorem sc_has_ended : FnScope n_has_ended ["bench", "state"] (defScope s_has_ended) := C8.fnScope_by (by decide +kernel)
abbrev n_plain : List Str := ["bench", "state", "rows", "common", "owns", "taken", "table", "names", "entry", "handle", "entries", "counts", "latest", "freed", "own", "one", "count"]
theorem sc_plain : FnScope n_plain ["bench", "state"] (defScope s_plain) := C8.fnScope_by (by decide +kernel)
abbrev n_is_integer : List Str := ["value"]
theorem sc_is_integer : FnScope n_is_integer ["value"] (defScope s_is_integer) := C8.fnScope_by (by decide +kernel)
abbrev n_is_count : List Str := ["value"]
theorem sc_is_count : FnScope n_is_count ["value"] (defScope s_is_count) := C8.fnScope_by (by decide +kernel)
abbrev n_is_within : List Str := ["value", "low", "high"]
theorem sc_is_within : FnScope n_is_within ["value", "low", "high"] (defScope s_is_within) := C8.fnScope_by (by decide +kernel)
abbrev n_is_name : List Str := ["value", "sign"]
theorem sc_is_name : FnScope n_is_name ["value"] (defScope s_is_name) := C8.fnScope_by (by decide +kernel)
abbrev n_are_unlike : List Str := ["values", "at", "value"]
theorem sc_are_unlike : FnScope n_are_unlike ["values"] (defScope s_are_unlike) := C8.fnScope_by (by decide +kernel)
abbrev n_are_names : List Str := ["value", "most", "name"]
theorem sc_are_names : FnScope n_are_names ["value", "most"] (defScope s_are_names) := C8.fnScope_by (by decide +kernel)
abbrev n_visits : List Str := ["bench", "start", "known", "waiting", "later", "state", "rows", "hand", "choice", "after", "word"]
theorem sc_visits : GScope n_visits ["bench"] (defScope s_visits) := ⟨rfl, rfl, rfl, by decide +kernel, rfl, by decide +kernel, by decide +kernel⟩
abbrev n_shortest_fault : List Str := ["bench", "known", "state", "rows", "step", "word"]
theorem sc_shortest_fault : FnScope n_shortest_fault ["bench"] (defScope s_shortest_fault) := C8.fnScope_by (by decide +kernel)
abbrev n_is_safe : List Str := ["bench"]
theorem sc_is_safe : FnScope n_is_safe ["bench"] (defScope s_is_safe) := C8.fnScope_by (by decide +kernel)
abbrev n_shortest_stuck : List Str := ["bench", "known", "state", "rows"]
theorem sc_shortest_stuck : FnScope n_shortest_stuck ["bench"] (defScope s_shortest_stuck) := C8.fnScope_by (by decide +kernel)
abbrev n_longer : List Str := ["bench", "run", "state", "length", "hand", "choice", "after", "word"]
theorem sc_longer : GScope n_longer ["bench", "run", "state", "length"] (defScope s_longer) := ⟨rfl, rfl, rfl, by decide +kernel, rfl, by decide +kernel, by decide +kernel⟩
abbrev n_runs : List Str := ["bench", "length"]
theorem sc_runs : GScope n_runs ["bench", "length"] (defScope s_runs) := ⟨rfl, rfl, rfl, by decide +kernel, rfl, by decide +kernel, by decide +kernel⟩
abbrev n_is_row : List Str := ["value", "target", "name"]
theorem sc_is_row : FnScope n_is_row ["value"] (defScope s_is_row) := C8.fnScope_by (by decide +kernel)
abbrev n_fits : List Str := ["row", "many", "target"]
theorem sc_fits : FnScope n_fits ["row", "many"] (defScope s_fits) := C8.fnScope_by (by decide +kernel)
abbrev n_variables_of : List Str := ["row"]
theorem sc_variables_of : FnScope n_variables_of ["row"] (defScope s_variables_of) := C8.fnScope_by (by decide +kernel)
abbrev n_locks_of : List Str := ["row"]
theorem sc_locks_of : FnScope n_locks_of ["row"] (defScope s_locks_of) := C8.fnScope_by (by decide +kernel)
abbrev n_are_sorts : List Str := ["sorts", "sort"]
theorem sc_are_sorts : FnScope n_are_sorts ["sorts"] (defScope s_are_sorts) := C8.fnScope_by (by decide +kernel)
abbrev n_is_sound : List Str := ["sort", "common", "locks", "row", "name"]
theorem sc_is_sound : FnScope n_is_sound ["sort", "common", "locks"] (defScope s_is_sound) := C8.fnScope_by (by decide +kernel)
abbrev n_check_table : List Str := ["size", "book", "turns"]
theorem sc_check_table : FnScope n_check_table ["size", "book", "turns"] (defScope s_check_table) := C8.fnScope_by (by decide +kernel)
abbrev n_are_hands : List Str := ["program", "hands", "name"]
theorem sc_are_hands : FnScope n_are_hands ["program", "hands"] (defScope s_are_hands) := C8.fnScope_by (by decide +kernel)
abbrev n_is_step : List Str := ["value"]
theorem sc_is_step : FnScope n_is_step ["value"] (defScope s_is_step) := C8.fnScope_by (by decide +kernel)
abbrev n_can_step : List Str := ["bench", "state", "step"]
theorem sc_can_step : FnScope n_can_step ["bench", "state", "step"] (defScope s_can_step) := C8.fnScope_by (by decide +kernel)
abbrev n__law_begin : List Str := ["script", "seed", "cell"]
theorem sc__law_begin : FnScope n__law_begin ["script"] (defScope s__law_begin) := C8.fnScope_by (by decide +kernel)
abbrev n__law_mixed : List Str := ["pool", "many", "found", "turn"]
theorem sc__law_mixed : FnScope n__law_mixed ["pool", "many"] (defScope s__law_mixed) := C8.fnScope_by (by decide +kernel)
abbrev n__law_draw : List Str := ["pool", "many", "found"]
theorem sc__law_draw : FnScope n__law_draw ["pool", "many"] (defScope s__law_draw) := C8.fnScope_by (by decide +kernel)
abbrev n__law_pick : List Str := ["pool", "some"]
theorem sc__law_pick : FnScope n__law_pick ["pool", "some"] (defScope s__law_pick) := C8.fnScope_by (by decide +kernel)
abbrev n__law_made_kinds : List Str := ["plan", "name", "rows", "mine"]
theorem sc__law_made_kinds : FnScope n__law_made_kinds ["plan"] (defScope s__law_made_kinds) := C8.fnScope_by (by decide +kernel)
abbrev n__law_program_of : List Str := ["some", "shared", "bolts"]
theorem sc__law_program_of : FnScope n__law_program_of ["some", "shared", "bolts"] (defScope s__law_program_of) := C8.fnScope_by (by decide +kernel)
abbrev n__law_build : List Str := ["plan"]
theorem sc__law_build : FnScope n__law_build ["plan"] (defScope s__law_build) := C8.fnScope_by (by decide +kernel)
abbrev n__law_bench_of : List Str := ["program", "some", "wide", "word", "cycle"]
theorem sc__law_bench_of : FnScope n__law_bench_of ["program", "some", "wide", "word", "cycle"] (defScope s__law_bench_of) := C8.fnScope_by (by decide +kernel)
abbrev n__law_draw_hands : List Str := ["pool", "plan", "most", "k"]
theorem sc__law_draw_hands : FnScope n__law_draw_hands ["pool", "plan", "most"] (defScope s__law_draw_hands) := C8.fnScope_by (by decide +kernel)
abbrev n__law_rows_of : List Str := ["plan", "name", "kind"]
theorem sc__law_rows_of : FnScope n__law_rows_of ["plan", "name"] (defScope s__law_rows_of) := C8.fnScope_by (by decide +kernel)
abbrev n__law_kinds : List Str := ["pool", "found", "name", "many", "rows", "at", "row"]
theorem sc__law_kinds : FnScope n__law_kinds ["pool"] (defScope s__law_kinds) := C8.fnScope_by (by decide +kernel)
abbrev n__law_ways : List Str := ["plan", "some", "many", "counts", "k", "later", "places", "ways", "hand", "rows", "row", "after"]
theorem sc__law_ways : FnScope n__law_ways ["plan", "some", "many"] (defScope s__law_ways) := C8.fnScope_by (by decide +kernel)
abbrev n_law : List Str := ["script", "pool", "turn", "plan", "some", "bench", "total", "many", "found", "name"]
theorem sc_law : FnScope n_law ["script"] (defScope s_law) := C8.fnScope_by (by decide +kernel)
abbrev n_Sort_init : List Str := ["self", "name", "rows", "own", "row"]
theorem sc_Sort_init : FnScope n_Sort_init ["self", "name", "rows", "own"] (defScope s_Sort_init) := C8.fnScope_by (by decide +kernel)
abbrev n_Sort_len : List Str := ["self"]
theorem sc_Sort_len : FnScope n_Sort_len ["self"] (defScope s_Sort_len) := C8.fnScope_by (by decide +kernel)
abbrev n_Sort_getitem : List Str := ["self", "index"]
theorem sc_Sort_getitem : FnScope n_Sort_getitem ["self", "index"] (defScope s_Sort_getitem) := C8.fnScope_by (by decide +kernel)
abbrev n_Program_getitem : List Str := ["self", "name", "sort"]
theorem sc_Program_getitem : FnScope n_Program_getitem ["self", "name"] (defScope s_Program_getitem) := C8.fnScope_by (by decide +kernel)
abbrev n_Program_contains : List Str := ["self", "name", "sort"]
theorem sc_Program_contains : FnScope n_Program_contains ["self", "name"] (defScope s_Program_contains) := C8.fnScope_by (by decide +kernel)
abbrev n_Bench_call : List Str := ["self", "run", "state", "words", "step", "word"]
theorem sc_Bench_call : FnScope n_Bench_call ["self", "run"] (defScope s_Bench_call) := C8.fnScope_by (by decide +kernel)
abbrev n_Sort_p_name : List Str := ["self"]
theorem sc_Sort_p_name : FnScope n_Sort_p_name ["self"] (defScope s_Sort_p_name) := C8.fnScope_by (by decide +kernel)
abbrev n_Sort_p_rows : List Str := ["self"]
theorem sc_Sort_p_rows : FnScope n_Sort_p_rows ["self"] (defScope s_Sort_p_rows) := C8.fnScope_by (by decide +kernel)
abbrev n_Sort_p_own : List Str := ["self"]
theorem sc_Sort_p_own : FnScope n_Sort_p_own ["self"] (defScope s_Sort_p_own) := C8.fnScope_by (by decide +kernel)
abbrev n_Program_p_common : List Str := ["self"]
theorem sc_Program_p_common : FnScope n_Program_p_common ["self"] (defScope s_Program_p_common) := C8.fnScope_by (by decide +kernel)
abbrev n_Program_p_locks : List Str := ["self"]
theorem sc_Program_p_locks : FnScope n_Program_p_locks ["self"] (defScope s_Program_p_locks) := C8.fnScope_by (by decide +kernel)
abbrev n_Bench_p_program : List Str := ["self"]
theorem sc_Bench_p_program : FnScope n_Bench_p_program ["self"] (defScope s_Bench_p_program) := C8.fnScope_by (by decide +kernel)
abbrev n_Bench_p_hands : List Str := ["self"]
theorem sc_Bench_p_hands : FnScope n_Bench_p_hands ["self"] (defScope s_Bench_p_hands) := C8.fnScope_by (by decide +kernel)
abbrev n_Bench_p_size : List Str := ["self"]
theorem sc_Bench_p_size : FnScope n_Bench_p_size ["self"] (defScope s_Bench_p_size) := C8.fnScope_by (by decide +kernel)
abbrev n_Bench_p_book : List Str := ["self"]
theorem sc_Bench_p_book : FnScope n_Bench_p_book ["self"] (defScope s_Bench_p_book) := C8.fnScope_by (by decide +kernel)
abbrev n_Bench_p_turns : List Str := ["self"]
theorem sc_Bench_p_turns : FnScope n_Bench_p_turns ["self"] (defScope s_Bench_p_turns) := C8.fnScope_by (by decide +kernel)
end Wv
end WvP_part
section WvQ_part
set_option Elab.async false
set_option linter.all false
set_option maxRecDepth 100000
set_option maxHeartbeats 0
/-! WvQ: the top's run. -/
namespace Wv
open PySem PySem.W PySem.Calls PyProof.Rows
abbrev R : OpenRow := OpenLaw.row PySem.Challenge.rw_handlesagain_k53_whole_counts_of_weaving
def loose0 : List PySem.Str := [("_wall" : PySem.Str), ("HandleError" : PySem.Str), ("InvalidNumber" : PySem.Str), ("InvalidName" : PySem.Str), ("InvalidRow" : PySem.Str), ("InvalidSort" : PySem.Str), ("InvalidProgram" : PySem.Str), ("InvalidBook" : PySem.Str), ("InvalidHands" : PySem.Str), ("InvalidStep" : PySem.Str), ("TooMany" : PySem.Str), ("empty_state" : PySem.Str), ("put" : PySem.Str), ("free_numbers" : PySem.Str), ("entered" : PySem.Str), ("handed" : PySem.Str), ("judged" : PySem.Str), ("ended" : PySem.Str), ("sorts_of" : PySem.Str), ("first_state" : PySem.Str), ("next_row" : PySem.Str), ("value_of" : PySem.Str), ("with_value" : PySem.Str), ("with_table" : PySem.Str), ("with_owner" : PySem.Str), ("at_row" : PySem.Str), ("choices_of" : PySem.Str), ("opened" : PySem.Str), ("dealt" : PySem.Str), ("simply" : PySem.Str), ("stepped" : PySem.Str), ("all_steps" : PySem.Str), ("has_ended" : PySem.Str), ("renamed" : PySem.Str), ("plain" : PySem.Str)]
def loose1 : List PySem.Str := [("LETTERS" : PySem.Str), ("MOST_LETTERS" : PySem.Str), ("is_integer" : PySem.Str), ("is_count" : PySem.Str), ("is_within" : PySem.Str), ("is_name" : PySem.Str), ("are_unlike" : PySem.Str), ("are_names" : PySem.Str), ("MOST_STATES" : PySem.Str), ("MOST_LENGTH" : PySem.Str), ("run_to" : PySem.Str), ("visits" : PySem.Str), ("shortest_fault" : PySem.Str), ("is_safe" : PySem.Str), ("shortest_stuck" : PySem.Str), ("longer" : PySem.Str), ("runs" : PySem.Str), ("WORDS" : PySem.Str), ("SIZES" : PySem.Str), ("MOST_ROWS" : PySem.Str), ("MOST_SORTS" : PySem.Str), ("MOST_NAMES" : PySem.Str), ("MOST_TARGETS" : PySem.Str), ("is_row" : PySem.Str), ("fits" : PySem.Str), ("variables_of" : PySem.Str), ("locks_of" : PySem.Str), ("Sort" : PySem.Str), ("are_sorts" : PySem.Str), ("is_sound" : PySem.Str), ("Program" : PySem.Str), ("BOOKS" : PySem.Str), ("MOST_SIZE" : PySem.Str), ("MOST_TURNS" : PySem.Str), ("check_table" : PySem.Str)]
def loose2 : List PySem.Str := [("MOST_HANDS" : PySem.Str), ("are_hands" : PySem.Str), ("is_step" : PySem.Str), ("can_step" : PySem.Str), ("Bench" : PySem.Str), ("_law_begin" : PySem.Str), ("_law_mixed" : PySem.Str), ("_law_draw" : PySem.Str), ("_law_pick" : PySem.Str), ("_law_made_kinds" : PySem.Str), ("_law_program_of" : PySem.Str), ("_law_build" : PySem.Str), ("_law_bench_of" : PySem.Str), ("_law_draw_hands" : PySem.Str), ("_law_rows_of" : PySem.Str), ("_law_kinds" : PySem.Str), ("_law_ways" : PySem.Str)]
abbrev loose : List PySem.Str := loose0 ++ loose1 ++ loose2
abbrev qv : Program := view R.prog [96]
abbrev hk : Hook := hookX 5 xsAll dsAll tabs
def ob (s : SharedT) : AlX := obsXG 5 xsAll dsAll tabs (HandSHeadRun.getT s)
theorem ob_eq (s : SharedT) : ob s = hk.obs s.abs := obsXG_eq (HandSHeadRun.getT_eq s)
open HandSHeadRun
theorem map2 {α β γ δ : Type} {x : Option α} {f : α → β} {g : α → γ} {h : α → δ} {a : β} {b : γ} {c : δ} (h1 : x.map (fun s => (f s, g s)) = some (a, b)) (h2 : x.map h = some c) : x.map (fun s => (f s, g s, h s)) = some (a, b, c) := by
  cases x with
  | none => cases h1
  | some s =>
    simp only [Option.map_some, Option.some.injEq, Prod.mk.injEq] at h1 h2 ⊢
    exact ⟨h1.1, h1.2, h2⟩
noncomputable abbrev fin0 (w : World) (os : OsState) : Option SharedT := endF (stepQ (denQ tabQ) R.prog w) 8000 R.prog w os
noncomputable abbrev EqA (w : World) : Prop := ∀ os : OsState, (fin0 w os).map (fun s => (looksF R.prog (boot_heap w.params) s.abs, seenQ qv loose (importedModules R.prog.main.body) (fun s => xlAt qv [] s && recOk R.toRowW.records s) s.abs)) = some (true, openGood qv loose)
noncomputable abbrev EqB (w : World) : Prop := ∀ os : OsState, (fin0 w os).map ob = some (hk.val w)
theorem runA0 (w : World) : EqA (w.withFollow "special-get-raises" false) := by intro os; kernel_rfl
theorem runA1 (w : World) : EqA (w.withFollow "special-get-raises" true) := by intro os; kernel_rfl
theorem runB0 (w : World) : EqB (w.withFollow "special-get-raises" false) := by intro os; kernel_rfl
theorem runB1 (w : World) : EqB (w.withFollow "special-get-raises" true) := by intro os; kernel_rfl
theorem run (w : World) : HandSHeadRun.RunEq R qv hk ob 8000 loose w := fun os =>
  map2 (byRow2 "special-get-raises" (P := EqA) runA0 runA1 w os) (byRow2 "special-get-raises" (P := EqB) runB0 runB1 w os)
end Wv
end WvQ_part
section WvR_part
set_option Elab.async false
set_option linter.all false
set_option maxRecDepth 100000
set_option maxHeartbeats 1000000
/-! WvR: promises of the small defs. -/
namespace Wv
open PySem L2 PySem.Spec
open PyProof.Rows

theorem blT {Q : VK} {H : Hp} {p : Prop} [Decidable p] (h : p) (q : Q (.bl true) H) : Q (.bl (decide p)) H := by rw [decide_eq_true h]; exact q
theorem blF {Q : VK} {H : Hp} {p : Prop} [Decidable p] (h : ¬ p) (q : Q (.bl false) H) : Q (.bl (decide p)) H := by rw [decide_eq_false h]; exact q
theorem eqT {p : Prop} [Decidable p] (h : p) : V.bl (decide p) = V.bl true := by rw [decide_eq_true h]
theorem eqF {p : Prop} [Decidable p] (h : ¬ p) : V.bl (decide p) = V.bl false := by rw [decide_eq_false h]
/-- a def that may be called by its name -/
structure CalW (P : Program) (w : World) (K : PySem.W.Frag) (mg : Str → Option Value) (base : Heap) (k : Nat) (x : Str) (sp : Sp) : Prop where
  ex : ∃ (f : Addr) (fd : FuncData) (ps : List Str), FnOk P w K mg base CX0 k f fd ps sp ∧ mg x = some (.ref f) ∧ PySem.W.keepIn K (.ref f) = true ∧ Binds K fd ps []
section
variable {P : Program} {w : World} {K : PySem.W.Frag} {mg : Str → Option Value} {base : Heap}
theorem cal_of {x : Str} {st : Stmt} {f : Addr} {fd : FuncData} {N ps : List Str} {k : Nat} {sp : Sp} (F : Fun K x x st f fd) (hm : mg x = some (.ref f)) (b : Binds K fd ps []) (S : FnScope N ps (defScope st)) (len : ∀ vs H Q E, sp vs H Q E → vs.length = ps.length)
    (hbody : ∀ (cdv : Value) (A : Around) (outer : List Env) (s : Shared) (H : Hp) (vs : List V) (Q : VK) (E : XK), Room k (A.deeper (envOfC x (defScope st) s.heap.objs.size f cdv)) → sp vs H Q E →
      ∃ t, PSs (cxOf CX0 P w K mg base N x (defScope st) f cdv A outer s H E).nox (defBody st) t ∧ t { nx := fun _ H' => Q .non H', rt := Q } (start N vs) H) : CalW P w K mg base (k + 1) x sp :=
  ⟨f, fd, ps, F.ok S len hbody, hm, F.kp, b⟩
theorem CalW.mono {j k : Nat} {x : Str} {sp : Sp} (c : CalW P w K mg base j x sp) (h : j ≤ k) : CalW P w K mg base k x sp := by
  obtain ⟨f, fd, ps, F, r⟩ := c.ex
  exact ⟨f, fd, ps, F.mono h, r⟩
end
section
variable {X : Cx} {k j : Nat} {x : Str} {sp : Sp} {p pos : Pos} {e : Expr} {es : List Expr} {t : TA}
/-- f(e, ..) -/
theorem pe_w (c : CalW X.prog X.w X.K X.mg X.base k x sp) (hr : Room j X.A) (hk : k ≤ j) (hg : Gl X x) (ha : PA X (e :: es) t)
    (hdb : (x == ("__debug__" : Str)) = false := by decide) (he : starEach (e :: es) X.env = (false, eval e X.env) :: starEach es X.env := by rfl) (hpl : (backTo pos (starEach es X.env)).any (·.1) = false := by rfl) :
    PE X (.Call (.Name x p) (e :: es) [] pos) (tCall sp [] E0 t) := by
  obtain ⟨f, fd, ps, F, hm, kp, b⟩ := c.ex
  exact pe_call F (hr.mono hk) hg hm kp b .nil pass0 ha hdb he hpl
end

section
variable {P : Program} {w : World} {K : PySem.W.Frag} {mg : Str → Option Value} {base : Heap} (T : Top w K mg)
include T
/-! ### names -/
def sp_is_integer : Sp := fun vs H Q _ => ∃ i : Int, vs = [.int i] ∧ Q (.bl true) H
theorem c_is_integer : CalW P w K mg base 1 "is_integer" sp_is_integer := by
  obtain ⟨fd, F⟩ := T.d_is_integer
  refine cal_of F T.glo_is_integer (F.binds fun _ _ _ _ _ _ us hl => match us, hl with | [_], _ => rfl) sc_is_integer (fun vs H Q E h => by obtain ⟨i, rfl, _⟩ := h; rfl) fun cdv A outer s H vs Q E hr h => ?_
  obtain ⟨i, rfl, hQ⟩ := h
  refine ⟨_, pss_one (ps_ret (pe_and (pe_callB call_isi (by rfl) T.free_isinstance (by decide +kernel) (pa_cons (pv 0) (pa_cons (pe_bltn (v := .ty "int") (by rfl) T.free_int boot_int rfl) pa_nil)))
    (pe_one (pe_not (pe_callB call_isi (by rfl) T.free_isinstance (by decide +kernel) (pa_cons (pv 0) (pa_cons (pe_bltn (v := .ty "bool") (by rfl) T.free_bool (by decide +kernel) rfl) pa_nil))))))), ?_⟩
  refine ⟨_, rfl, _, _, _, _, true, rfl, .ty _, .base (.int _), kit_ty (by decide +kernel), true, rfl, ?_⟩
  rw [if_pos rfl]
  exact ⟨_, rfl, _, _, _, _, false, rfl, .ty _, .base (.int _), kit_ty (by decide +kernel), false, rfl, hQ⟩
def sp_is_count : Sp := fun vs H Q _ => ∃ i : Int, vs = [.int i] ∧ 0 ≤ i ∧ Q (.bl true) H
theorem c_is_count : CalW P w K mg base 2 "is_count" sp_is_count := by
  obtain ⟨fd, F⟩ := T.d_is_count
  refine cal_of F T.glo_is_count (F.binds fun _ _ _ _ _ _ us hl => match us, hl with | [_], _ => rfl) sc_is_count (fun vs H Q E h => by obtain ⟨i, rfl, _⟩ := h; rfl) fun cdv A outer s H vs Q E hr h => ?_
  obtain ⟨i, rfl, hi, hQ⟩ := h
  refine ⟨_, pss_one (ps_ret (pe_and (pe_w (c_is_integer T) hr (by decide) (by rfl) (pa_cons (pv 0) pa_nil)) (pe_one (pe_cmp (pc_ge (pv 0) pe_int) (nomark _))))), ?_⟩
  refine ⟨_, rfl, i, rfl, true, rfl, ?_⟩
  rw [if_pos rfl]
  refine ⟨_, rfl, i, 0, rfl, rfl, ?_⟩
  exact blT (Q := Q) hi hQ
def sp_is_within : Sp := fun vs H Q _ => ∃ i a b : Int, vs = [.int i, .int a, .int b] ∧ a ≤ i ∧ i ≤ b ∧ Q (.bl true) H
theorem c_is_within : CalW P w K mg base 2 "is_within" sp_is_within := by
  obtain ⟨fd, F⟩ := T.d_is_within
  refine cal_of F T.glo_is_within (F.binds fun _ _ _ _ _ _ us hl => match us, hl with | [_, _, _], _ => rfl) sc_is_within (fun vs H Q E h => by obtain ⟨i, a, b, rfl, _⟩ := h; rfl) fun cdv A outer s H vs Q E hr h => ?_
  obtain ⟨i, a, b, rfl, h1, h2, hQ⟩ := h
  refine ⟨_, pss_one (ps_ret (pe_and (pe_w (c_is_integer T) hr (by decide) (by rfl) (pa_cons (pv 0) pa_nil)) (pe_one (pe_chain op_le op_le (pv 1) (pv 0) (pv 2))))), ?_⟩
  refine ⟨_, rfl, i, rfl, true, rfl, ?_⟩
  rw [if_pos rfl]
  refine ⟨_, rfl, _, rfl, a, i, rfl, rfl, true, eqT h1, ?_⟩
  rw [if_pos rfl]
  refine ⟨_, rfl, i, b, rfl, rfl, ?_⟩
  exact blT (Q := Q) h2 hQ
end
end Wv
end WvR_part
section WvS_part
set_option Elab.async false
set_option linter.all false
set_option maxRecDepth 100000
set_option maxHeartbeats 1000000
/-! WvS: rules: own len, own [], own in, tuple * n, comprehensions. -/
namespace Wv
open PySem L2 PySem.Spec
open PyProof.Rows

/-- a method of the class at C -/
structure MetW (P : Program) (w : World) (K : PySem.W.Frag) (mg : Str → Option Value) (base : Heap) (k : Nat) (C : Addr) (m : Str) (sp : Sp) : Prop where
  ex : ∃ (f : Addr) (fd : FuncData) (ps : List Str), Meth K C m f ∧ FnOk P w K mg base CX0 k f fd ps sp ∧ Binds K fd ps []
theorem met_of {P : Program} {w : World} {K : PySem.W.Frag} {mg : Str → Option Value} {base : Heap} {C : Addr} {m qual : Str} {st : Stmt} {f : Addr} {fd : FuncData} {N ps : List Str} {k : Nat} {sp : Sp} (F : Fun K m qual st f fd) (hm : Meth K C m f) (b : Binds K fd ps []) (S : FnScope N ps (defScope st)) (len : ∀ vs H Q E, sp vs H Q E → vs.length = ps.length)
    (hbody : ∀ (cdv : Value) (A : Around) (outer : List Env) (s : Shared) (H : Hp) (vs : List V) (Q : VK) (E : XK), Room k (A.deeper (envOfC qual (defScope st) s.heap.objs.size f cdv)) → sp vs H Q E →
      ∃ t, PSs (cxOf CX0 P w K mg base N qual (defScope st) f cdv A outer s H E).nox (defBody st) t ∧ t { nx := fun _ H' => Q .non H', rt := Q } (start N vs) H) : MetW P w K mg base (k + 1) C m sp :=
  ⟨f, fd, ps, hm, F.ok S len hbody, b⟩
section
variable {X : Cx} {k j : Nat} {C : Addr} {m : Str} {sp : Sp}
/-- the method called, A.in1 -/
theorem run_in1 {pins : List (Addr × Obj)} {σ : L2.St} {H : Hp} {s : Shared} {Q : VK} {us : List Value} {vs : List V} {f : Addr} {fd : FuncData} {ps : List Str} (F : FnOk X.prog X.w X.K X.mg X.base CX0 k f fd ps sp) (hr : Room (k + 1) X.A) (hb : Binds X.K fd ps [])
    (I : Inv X pins σ H s) (r : Vals vs us) (h : sp vs H Q E0) {E : Value → Shared → Prop} : wpAny (model X.prog X.w) X.A.in1 (call (.ref f) us) (EP X pins σ Q) E s := by
  have hl : us.length = ps.length := by rw [← r.length]; exact F.len _ _ _ _ h
  have hb' := hb s us I.kIn (by rw [List.append_nil]; exact hl)
  rw [List.append_nil] at hb'
  refine wpAny_call (codeAny_mono (F.run X.A.in1 X.stack s H ⟨us, []⟩ us vs Q E0 hr.in1 I.env0.in1 hb' r h) fun r s' hq => ?_)
  cases r with
  | error e => exact hq.elim
  | ok fl =>
    cases fl with
    | ret u => exact I.after hq
    | next => exact False.elim hq
    | brk => exact False.elim hq
    | cont => exact False.elim hq
theorem inst_of {pins : List (Addr × Obj)} {σ : L2.St} {H : Hp} {s : Shared} {a dx : Addr} {fs : List (Str × V)} (I : Inv X pins σ H s) (ea : H a = some (.ins C dx fs)) : ∃ ox od, PySem.W.InstAt s.heap a ox C od := by
  obtain ⟨mA, O, _⟩ := ins_get I.hok ea
  obtain ⟨od, J, _⟩ := O.look
  exact ⟨_, _, J⟩
/-- len(o) -/
theorem call_lenO (c : MetW X.prog X.w X.K X.mg X.base k C "__len__" sp) (hr : Room j X.A) (hk : k + 1 ≤ j) :
    CallR X (.builtin "len") (fun xs H Q => ∃ a dx fs, xs = [.ref a] ∧ H a = some (.ins C dx fs) ∧ sp [.ref a] H (fun v H' => ∃ n : Nat, v = .int n ∧ n < 2 ^ 62 ∧ Q (.int n) H') E0) := by
  intro pins s σ H xs us Q I r h
  obtain ⟨a, dx, fs, rfl, ea, q⟩ := h
  obtain ⟨u, rfl, rx⟩ := vals1 r
  cases rx
  obtain ⟨f, fd, ps, hm, F, b⟩ := c.ex
  obtain ⟨ox, od, J⟩ := inst_of I ea
  obtain ⟨m, Fm⟩ := I.fr
  refine PySem.W.len_K Fm I.mod.kin J hm.at_ hm.fn (wpAny_mono (run_in1 (us := [.ref a]) (vs := [.ref a]) F (hr.mono hk) b I (.cons rfl .nil) q (E := X.xe)) (fun v s' hv => ?_) fun _ _ z => z)
  obtain ⟨x, H', I', rx, n, rfl, hn, hq⟩ := hv
  obtain ⟨t, rfl⟩ := rx
  exact ⟨⟨by omega, by omega⟩, .int n, H', I'.tok _, ⟨_, rfl⟩, hq⟩
/-- o[i] -/
def tSubO (C : Addr) (sp : Sp) (ta tb : TE) : TE := fun σ H Q => ta σ H fun x H1 => tb σ H1 fun y H2 => ∃ a dx fs, x = .ref a ∧ H2 a = some (.ins C dx fs) ∧ sp [.ref a, y] H2 Q E0
theorem pe_subO {a b : Expr} {ta tb : TE} {pos : Pos} (c : MetW X.prog X.w X.K X.mg X.base k C "__getitem__" sp) (hfi : ∀ f, PySem.W.findIn X.K (.ref C) "__getitem__" = some (some (.ref f)) → PySem.W.fnIn X.K f = true) (hr : Room j X.A) (hk : k + 1 ≤ j) (ha : PE X a ta) (hb : PE X b tb)
    (hsl : ∀ v u, subscripted b true v u = runValue (.builtin "lifetime.subscript" ⟨[v, u], []⟩) := by intro _ _; rfl) : PE X (.Subscript a b pos) (tSubO C sp ta tb) := by
  refine ⟨fun pins s σ H Q I h => ?_⟩
  refine Subscript_ (binT (R := fun x y H2 => ∃ a dx fs, x = .ref a ∧ H2 a = some (.ins C dx fs) ∧ sp [.ref a, y] H2 Q E0) ha hb I h fun v u s2 x y H2 I2 rx ry q => ?_)
  obtain ⟨p, dx, fs, rfl, ea, q⟩ := q
  cases rx
  obtain ⟨f, fd, ps, hm, F, bb⟩ := c.ex
  obtain ⟨ox, od, J⟩ := inst_of I2 ea
  obtain ⟨m, Fm⟩ := I2.fr
  exact PySem.W.sub_K Fm I2.mod.kin J hm.at_ (hfi f hm.at_) hm.fn (run_in1 (us := [.ref p, u]) (vs := [.ref p, y]) F (hr.mono hk) bb I2 (.cons rfl (.cons ry .nil)) q) (hsl _ _)
/-- v in o -/
def rInO (C : Addr) (sp : Sp) : R2 := fun x y H Q => ∃ a dx fs, y = .ref a ∧ H a = some (.ins C dx fs) ∧ sp [.ref a, x] H (fun v H' => ∃ b, v = .bl b ∧ Q (.bl b) H') E0
theorem op_inO (c : MetW X.prog X.w X.K X.mg X.base k C "__contains__" sp) (hr : Room j X.A) (hk : k ≤ j) : OpR X (compareOp .In) (rInO C sp) := by
  intro pins s σ H x y v u Q I rx ry h
  obtain ⟨a, dx, fs, rfl, ea, q⟩ := h
  cases ry
  obtain ⟨f, fd, ps, hm, F, bb⟩ := c.ex
  obtain ⟨ox, od, J⟩ := inst_of I ea
  obtain ⟨m, Fm⟩ := I.fr
  refine PySem.W.in_K Fm I.mod.kin J hm.at_ hm.fn (wpAny_mono (run_fn (us := [.ref a, v]) (vs := [.ref a, x]) F (hr.mono hk) bb .nil pass0 I (.cons rfl (.cons rx .nil)) q) (fun r s' hv => ?_) fun _ _ z => z)
  obtain ⟨z, H', I', rz, b, rfl, hq⟩ := hv
  cases rz
  exact wpAny_truthy_bool ⟨.bl b, H', I', rfl, hq⟩
end

/-! ### comprehensions whose turns leave all as it was -/
/-- J hands out xs, one by one, and leaves the heap -/
def Walks (J : It) (xs : List V) (H1 : Hp) : Prop := ∀ (i : Nat) (H : Hp), Same H1 H → (xs.length ≤ i → J.stop i H) ∧ (i < xs.length → J.go i H) ∧ (i < xs.length → ∀ x H', J.yld i H x H' → H' = H ∧ xs[i]? = some x)
theorem walks_list {K : PySem.W.Frag} {a : Addr} {xs : List V} {H1 : Hp} (h : SqL K H1 a xs) : Walks (Itl K a) xs H1 := fun i H s => by
  have q := s.seq h
  refine ⟨fun hi => ⟨xs, q, hi⟩, fun hi => ⟨xs, xs[i], q, List.getElem?_eq_getElem hi⟩, fun _ x H' y => ⟨y.1, y.2 xs q⟩⟩
theorem Same.seqT {K : PySem.W.Frag} {H H' : Hp} {a : Addr} {xs : List V} (e : Same H H') (h : SqT K H a xs) : SqT K H' a xs := by
  rcases h with (h | ⟨o, h⟩) | h
  · exact .inl (.inl (e _ _ h))
  · exact .inl (.inr ⟨o, e _ _ h⟩)
  · exact .inr h
theorem walks_tup {K : PySem.W.Frag} {a : Addr} {xs : List V} {H1 : Hp} (h : SqT K H1 a xs) : Walks (Itt K a) xs H1 := fun i H s => by
  have q := Same.seqT s h
  refine ⟨fun hi => ⟨xs, q, hi⟩, fun hi => ⟨xs, xs[i], q, List.getElem?_eq_getElem hi⟩, fun _ x H' y => ⟨y.1, y.2 xs q⟩⟩
theorem walks_range {lo : Int} {n : Nat} {H1 : Hp} : Walks (Itr lo n) ((List.range n).map fun i : Nat => V.int (lo + i)) H1 := fun i H s => by
  have e : ((List.range n).map fun i : Nat => V.int (lo + i)).length = n := by rw [List.length_map, List.length_range]
  rw [e]
  refine ⟨fun hi => hi, fun hi => hi, fun hi x H' y => ⟨y.1, ?_⟩⟩
  rw [List.getElem?_map, List.getElem?_range hi, y.2]; rfl
theorem walks_str {x : Str} {H1 : Hp} : Walks (Its x) (x.cps.toList.map fun c => V.str ⟨#[c]⟩) H1 := fun i H s => by
  refine ⟨fun hi => ?_, fun hi => ?_, fun _ v H' y => ⟨y.1, ?_⟩⟩
  · rw [List.length_map, Array.length_toList] at hi; exact hi
  · rw [List.length_map, Array.length_toList] at hi; exact hi
  · obtain ⟨c, e, rfl⟩ := y.2
    rw [List.getElem?_map, Array.getElem?_toList, e]; rfl
theorem same_upd {H : Hp} {a : Addr} {o : HO} (h : H a = none) : Same H (upd H a o) := fun b u e => by rw [upd_ne (ne_of_none e h)]; exact e
/-- all but lists is as it was -/
def Keep (H H' : Hp) : Prop := ∀ b o, (∀ xs, o ≠ HO.lst xs) → H b = some o → H' b = some o
theorem Same.keep {H H' : Hp} (s : Same H H') : Keep H H' := fun b o _ e => s b o e
theorem Keep.trans {H H1 H2 : Hp} (a : Keep H H1) (b : Keep H1 H2) : Keep H H2 := fun c o n e => b c o n (a c o n e)
theorem keep_upd {H : Hp} {D : Addr} {xs : List V} {o : HO} (h : H D = some (.lst xs)) : Keep H (upd H D o) := fun b u n e => by
  have hb : b ≠ D := fun z => by subst z; rw [h] at e; exact n xs (Option.some.inj e).symm
  rw [upd_ne hb]; exact e
theorem lc_same {J : It} {xs : List V} {g : TG} {te : TE} {vs : List Nat} {σ : L2.St} {H1 : Hp} {D : Addr} {Qd : Hp → Prop} (R : Nat → V → Hp → Prop) (hD : H1 D = none) (hR : ∀ i y H H', Keep H H' → R i y H → R i y H') (hz : xs.length < sizeLine) (hJ : Walks J xs H1)
    (hs : ∀ i x H, xs[i]? = some x → Same H1 H → ∀ C : V → Hp → Prop, (∀ y H4, Same H H4 → R i y H4 → C y H4) → g x (wipe σ vs) H fun σ2 H2 => wipe σ2 vs = wipe σ vs ∧ te σ2 H2 C)
    (hd : ∀ H acc, Same H1 H → H D = some (.lst acc) → acc.length = xs.length → (∀ i y, acc[i]? = some y → R i y H) → Qd H) :
    ∃ W : Nat → Nat → Hp → Prop, (∃ m, W 0 m (upd H1 D (.lst []))) ∧ ∀ i m H, W i m H →
      (J.stop i H ∧ Qd H) ∨ (J.go i H ∧ ∃ Nx : Hp → Prop, (∀ H', Nx H' → ∃ m', m' < m ∧ W (i + 1) m' H') ∧ ∀ x H', J.yld i H x H' → g x (wipe σ vs) H' fun σ2 H2 => wipe σ2 vs = wipe σ vs ∧ tYes σ2 H2 fun b H3 =>
        if b = true then te σ2 H3 fun y H4 => ∃ acc, H4 D = some (.lst acc) ∧ acc.length < sizeLine ∧ Nx (upd H4 D (.lst (acc ++ [y]))) else Nx H3) := by
  let Pv : Nat → Hp → Prop := fun i H => Same H1 H ∧ ∃ acc, H D = some (.lst acc) ∧ acc.length = i ∧ ∀ k y, acc[k]? = some y → R k y H
  have nx : ∀ i H, i < xs.length → Pv i H → ∀ y H4, Same H H4 → R i y H4 → ∃ acc, H4 D = some (.lst acc) ∧ acc.length < sizeLine ∧ Pv (i + 1) (upd H4 D (.lst (acc ++ [y]))) := fun i H hi ⟨h1, acc, h2, h3, h4⟩ y H4 h5 h6 => by
    have hD4 := h5 _ _ h2
    have kp : Keep H4 (upd H4 D (.lst (acc ++ [y]))) := keep_upd hD4
    refine ⟨acc, hD4, by omega, fun b u e => ?_, acc ++ [y], upd_same, by rw [List.length_append, h3]; rfl, fun k z e => ?_⟩
    · rw [upd_ne (ne_of_none e hD)]; exact h5 _ _ (h1 _ _ e)
    · by_cases hk : k < acc.length
      · rw [List.getElem?_append_left hk] at e
        exact hR k z _ _ (Keep.trans (Same.keep h5) kp) (h4 k z e)
      · have hk2 : k = acc.length := by
          have := (List.getElem?_eq_some_iff.mp e).1
          rw [List.length_append, List.length_singleton] at this
          omega
        subst hk2
        rw [List.getElem?_append_right (Nat.le_refl _), Nat.sub_self] at e
        cases e
        rw [h3]
        exact hR i y _ _ kp h6
  refine ⟨fun i m H => m = xs.length - i ∧ i ≤ xs.length ∧ Pv i H, ⟨xs.length, by simp, Nat.zero_le _, same_upd hD, [], upd_same, rfl, fun k y e => by simp at e⟩, ?_⟩
  rintro i m H ⟨rfl, hi, p⟩
  obtain ⟨w1, w2, w3⟩ := hJ i H p.1
  by_cases hlt : i < xs.length
  · refine .inr ⟨w2 hlt, Pv (i + 1), fun H' p' => ⟨xs.length - (i + 1), by omega, rfl, hlt, p'⟩, fun x H' y => ?_⟩
    obtain ⟨rfl, ex⟩ := w3 hlt x H' y
    exact hs i x _ ex p.1 _ (nx i _ hlt p)
  · have e : i = xs.length := by omega
    subst e
    obtain ⟨h1, acc, h2, h3, h4⟩ := p
    exact .inl ⟨w1 (Nat.le_refl _), hd H acc h1 h2 h3 h4⟩

/-! ### tuple * n -/
section
open AutoSeq1 (wpAny_loadPart')
theorem tuple_mul1 (l : Addr) (items : Array Value) (n : Nat) (dd : Option Addr) (sl : Array (Option Value)) (u : Tok) :
    Meets (Builtin.«tuple.__mul__» ⟨[.ref l, .int 1 u], []⟩) (fun _ R s => s.heap.get? l = some { cls := .type "tuple", dict := dd, data := .seq items n, slots := sl } ∧ R (.ok (.ret (Value.ref l))) s) :=
  .of_wp fun prog w A R s h => by
    obtain ⟨hp, g, d, tk, os⟩ := s
    obtain ⟨hl, h⟩ := h
    have f1 := AutoSeq1.idx_int
    have c1 : (items.isEmpty || (1 : Int) == 1) = true := by simp
    wp_walk using wpAny_loadPart' hl
    exact ⟨_, rfl, h⟩
theorem tuple_mul0 (l : Addr) (items : Array Value) (n : Nat) (dd : Option Addr) (sl : Array (Option Value)) (u : Tok) (hne : items.isEmpty = false) :
    Meets (Builtin.«tuple.__mul__» ⟨[.ref l, .int 0 u], []⟩) (fun _ R s => s.heap.get? l = some { cls := .type "tuple", dict := dd, data := .seq items n, slots := sl } ∧
      R (.ok (.ret (Value.ref s.heap.objs.size))) { s with heap := s.heap.push { cls := Value.type "tuple", data := Data.seq #[] }, toks := s.toks }) :=
  .of_wp fun prog w A R s h => by
    obtain ⟨hp, g, d, tk, os⟩ := s
    obtain ⟨hl, h⟩ := h
    have f1 := AutoSeq1.idx_int
    wp_walk using wpAny_loadPart' hl
    exact ⟨_, rfl, h⟩
end
def rRepA (K : PySem.W.Frag) : R2 := fun x y H Q => ∃ l k xs, x = .ref l ∧ y = .int k ∧ SqT K H l xs ∧ xs ≠ [] ∧ 0 ≤ k ∧ k ≤ 1000 ∧ xs.length ≤ 1000 ∧ (k = 1 → Q (.ref l) H) ∧ (k ≠ 1 → ∀ p, H p = none → Q (.ref p) (upd H p (.tup (List.replicate k.toNat xs).flatten)))
theorem op_repA {X : Cx} : OpR X (binaryOp .Mult) (rRepA X.K) := by
  intro pins s σ H x y v u Q I rx ry h
  obtain ⟨l, k, xs, rfl, rfl, hT, hne, h0, h1, hz, q1, q2⟩ := h
  by_cases hk2 : 2 ≤ k
  · exact op_repT pins s σ H _ _ v u Q I rx ry ⟨l, k, xs, rfl, rfl, hT, hne, hk2, h1, hz, q2 (by omega)⟩
  · cases rx
    obtain ⟨t, rfl⟩ := ry
    obtain ⟨its, r, ⟨⟨cls, dd, data, sl⟩, ho, hc, n, hd⟩, hs⟩ := I.tuple hT
    simp only at hc hd
    subst hc hd
    have hle : its.length = xs.length := r.length.symm
    have hi : its.toArray.isEmpty = false := by
      cases its with
      | nil => exact absurd (List.eq_nil_of_length_eq_zero hle.symm) hne
      | cons a b => rfl
    by_cases hk1 : k = 1
    · subst hk1
      refine wpAny_binaryOp_repeat_ref (T := "tuple") (U := "int") (by decide) ⟨_, ho, rfl⟩ (fun s' => typeIs_int s' _ t) noFill_tuple_mul F.fills_int_mul F.slot_int_rmul repeat_tuple F.slot_int_index.lookup
        (call_meets F.slot_int_rmul (typeIs_int s _ t) F.entry_int_rmul (F.args_int_rmul_2 _ _) (int_rmul_tuple _ t l its.toArray n dd sl)
          ⟨ho, rfl, ⟨_, ho, rfl⟩, call_meets F.slot_tuple_mul ⟨_, ho, rfl⟩ F.entry_tuple_mul (F.args_tuple_mul_2 _ _) (tuple_mul1 l its.toArray n dd sl t) ⟨ho, ?_⟩⟩)
      exact ⟨.ref l, H, I, rfl, q1 rfl⟩
    · obtain rfl : k = 0 := by omega
      refine wpAny_binaryOp_repeat_ref (T := "tuple") (U := "int") (by decide) ⟨_, ho, rfl⟩ (fun s' => typeIs_int s' _ t) noFill_tuple_mul F.fills_int_mul F.slot_int_rmul repeat_tuple F.slot_int_index.lookup
        (call_meets F.slot_int_rmul (typeIs_int s _ t) F.entry_int_rmul (F.args_int_rmul_2 _ _) (int_rmul_tuple _ t l its.toArray n dd sl)
          ⟨ho, rfl, ⟨_, ho, rfl⟩, call_meets F.slot_tuple_mul ⟨_, ho, rfl⟩ F.entry_tuple_mul (F.args_tuple_mul_2 _ _) (tuple_mul0 l its.toArray n dd sl t hi) ⟨ho, ?_⟩⟩)
      refine ⟨.ref s.heap.objs.size, _, I.laid (t' := s.toks) (o := .tup []) (fun b ob q => Heap.get?_push_of_some _ q) (Nat.le_refl _) ?_, rfl, q2 (by decide) _ (I.hok.fresh (Nat.le_refl _))⟩
      exact ⟨Nat.zero_le _, [], .nil, IsTup.new _ _⟩
end Wv
end WvS_part
section WvT_part
set_option Elab.async false
set_option linter.all false
set_option maxRecDepth 100000
set_option maxHeartbeats 1000000
/-! WvT: what the program's objects are; properties; the defs of tabling and moving. -/
namespace Wv
open PySem L2 PySem.Spec
open PyProof.Rows

/-! ### the data -/
inductive Rw where
  | rest | go1 | go2
  deriving DecidableEq
def Rw.ways : Rw → Nat
  | .go2 => 2
  | _ => 1
def Rw.items (t : Nat) : Rw → List V
  | .rest => [.str "rest"]
  | .go1 => [.str "go", .int t]
  | .go2 => [.str "go", .int t, .int t]
/-- a bench: the rows of the two sorts, the hands (true: the second sort) -/
structure Bn where
  r0 : List Rw
  r1 : List Rw
  hs : List Bool
def nmOf (b : Bool) : Str := if b then "user" else "giver"
def Bn.rows (B : Bn) (b : Bool) : List Rw := if b then B.r1 else B.r0
def Bn.at_ (B : Bn) (h : Nat) : List Rw := match B.hs[h]? with
  | some b => B.rows b
  | none => []
structure Bn.Ok (B : Bn) : Prop where
  a0 : 1 ≤ B.r0.length ∧ B.r0.length ≤ 3
  a1 : 1 ≤ B.r1.length ∧ B.r1.length ≤ 3
  ah : 1 ≤ B.hs.length ∧ B.hs.length ≤ 3
theorem Bn.Ok.le {B : Bn} (o : B.Ok) (b : Bool) : 1 ≤ (B.rows b).length ∧ (B.rows b).length ≤ 3 := by cases b; exact o.a0; exact o.a1
def TupIs (H : Hp) (v : V) (xs : List V) : Prop := ∃ a, v = .ref a ∧ H a = some (.tup xs)
def RowIs (H : Hp) (v : V) (r : Rw) (t : Nat) : Prop := TupIs H v (r.items t)
def RowsAre (H : Hp) (vs : List V) (rs : List Rw) : Prop := vs.length = rs.length ∧ ∀ (i : Nat) (v : V) (r : Rw), vs[i]? = some v → rs[i]? = some r → RowIs H v r (i + 1)
abbrev CS (K : PySem.W.Frag) : Addr := He.ga K "Sort"
abbrev CP (K : PySem.W.Frag) : Addr := He.ga K "Program"
abbrev CB (K : PySem.W.Frag) : Addr := He.ga K "Bench"
def sortF (nm : Str) (rr oo : Addr) : List (Str × V) := [("kept_name", .str nm), ("kept_rows", .ref rr), ("kept_own", .ref oo)]
def SortIs (K : PySem.W.Frag) (H : Hp) (v : V) (nm : Str) (rs : List Rw) : Prop :=
  ∃ a dx rr oo vs, v = .ref a ∧ H a = some (.ins (CS K) dx (sortF nm rr oo)) ∧ H rr = some (.tup vs) ∧ RowsAre H vs rs ∧ H oo = some (.tup [])
def progF (ss cc ll : Addr) : List (Str × V) := [("kept_sorts", .ref ss), ("kept_common", .ref cc), ("kept_locks", .ref ll)]
def ProgIs (K : PySem.W.Frag) (H : Hp) (v : V) (B : Bn) : Prop :=
  ∃ a dx ss cc ll s0 s1, v = .ref a ∧ H a = some (.ins (CP K) dx (progF ss cc ll)) ∧ H ss = some (.tup [s0, s1]) ∧ SortIs K H s0 "giver" B.r0 ∧ SortIs K H s1 "user" B.r1 ∧ H cc = some (.tup []) ∧ H ll = some (.tup [])
def benchF (pv : V) (hh : Addr) : List (Str × V) := [("kept_program", pv), ("kept_hands", .ref hh), ("kept_size", .int 1), ("kept_book", .str "any"), ("kept_turns", .int 1)]
def BenchIs (K : PySem.W.Frag) (H : Hp) (v : V) (B : Bn) : Prop :=
  ∃ a dx pv hh, v = .ref a ∧ H a = some (.ins (CB K) dx (benchF pv hh)) ∧ ProgIs K H pv B ∧ H hh = some (.tup (B.hs.map fun b => V.str (nmOf b)))
def TabIs (H : Hp) (v : V) : Prop := ∃ t e c f, v = .ref t ∧ H t = some (.tup [.ref e, .ref c, .int 0, .ref f, .int 0]) ∧ H e = some (.tup [.non]) ∧ H c = some (.tup [.int 0]) ∧ H f = some (.tup [])
/-- a state: the places of the hands; m: how many hands -/
def StIs (H : Hp) (v : V) (ps : List Nat) (m : Nat) : Prop :=
  ∃ a r c o t tb os, v = .ref a ∧ H a = some (.tup [.ref r, .ref c, .ref o, .ref t, tb]) ∧ H r = some (.tup (ps.map fun p : Nat => V.int p)) ∧ H c = some (.tup []) ∧ H o = some (.tup os) ∧ os.length = m ∧ (∀ x ∈ os, TupIs H x []) ∧ H t = some (.tup []) ∧ TabIs H tb
section
variable {K : PySem.W.Frag} {H H' : Hp} (k : Keep H H')
include k
theorem Keep.tup {a : Addr} {xs : List V} (h : H a = some (.tup xs)) : H' a = some (.tup xs) := k _ _ (fun _ e => nomatch e) h
theorem Keep.ins {a C dx : Addr} {fs : List (Str × V)} (h : H a = some (.ins C dx fs)) : H' a = some (.ins C dx fs) := k _ _ (fun _ e => nomatch e) h
theorem Keep.tupIs {v : V} {xs : List V} (h : TupIs H v xs) : TupIs H' v xs := let ⟨a, e, h⟩ := h; ⟨a, e, k.tup h⟩
theorem Keep.rowIs {v : V} {r : Rw} {t : Nat} (h : RowIs H v r t) : RowIs H' v r t := k.tupIs h
theorem Keep.rows {vs : List V} {rs : List Rw} (h : RowsAre H vs rs) : RowsAre H' vs rs := ⟨h.1, fun i v r e1 e2 => k.rowIs (h.2 i v r e1 e2)⟩
theorem Keep.sort {v : V} {nm : Str} {rs : List Rw} (h : SortIs K H v nm rs) : SortIs K H' v nm rs := by
  obtain ⟨a, dx, rr, oo, vs, h1, h2, h3, h4, h5⟩ := h
  exact ⟨a, dx, rr, oo, vs, h1, k.ins h2, k.tup h3, k.rows h4, k.tup h5⟩
theorem Keep.prog {v : V} {B : Bn} (h : ProgIs K H v B) : ProgIs K H' v B := by
  obtain ⟨a, dx, ss, cc, ll, s0, s1, h1, h2, h3, h4, h5, h6, h7⟩ := h
  exact ⟨a, dx, ss, cc, ll, s0, s1, h1, k.ins h2, k.tup h3, k.sort h4, k.sort h5, k.tup h6, k.tup h7⟩
theorem Keep.bench {v : V} {B : Bn} (h : BenchIs K H v B) : BenchIs K H' v B := by
  obtain ⟨a, dx, pv, hh, h1, h2, h3, h4⟩ := h
  exact ⟨a, dx, pv, hh, h1, k.ins h2, k.prog h3, k.tup h4⟩
theorem Keep.tab {v : V} (h : TabIs H v) : TabIs H' v := by
  obtain ⟨t, e, c, f, h1, h2, h3, h4, h5⟩ := h
  exact ⟨t, e, c, f, h1, k.tup h2, k.tup h3, k.tup h4, k.tup h5⟩
theorem Keep.st {v : V} {ps : List Nat} {m : Nat} (h : StIs H v ps m) : StIs H' v ps m := by
  obtain ⟨a, r, c, o, t, tb, os, h1, h2, h3, h4, h5, h6, h7, h8, h9⟩ := h
  exact ⟨a, r, c, o, t, tb, os, h1, k.tup h2, k.tup h3, k.tup h4, k.tup h5, h6, fun x hx => k.tupIs (h7 x hx), k.tup h8, k.tab h9⟩
end

/-! ### properties -/
structure PropW (P : Program) (w : World) (K : PySem.W.Frag) (mg : Str → Option Value) (base : Heap) (C : Addr) (f fld : Str) : Prop where
  ex : ∃ (p g : Addr) (fd : FuncData), PropOf K C f p g ∧ Cls K C ∧ FnOk P w K mg base CX0 1 g fd ["self"] (getSp C fld) ∧ Binds K fd ["self"] []
theorem prop_of {P : Program} {w : World} {K : PySem.W.Frag} {mg : Str → Option Value} {base : Heap} {C g : Addr} {f fld qual : Str} {st : Stmt} {fd : FuncData} {p1 p2 p3 : Pos} (F : Fun K f qual st g fd) (hp : ∃ p, PropOf K C f p g) (S : FnScope ["self"] ["self"] (defScope st))
    (b : Binds K fd ["self"] []) (hb : defBody st = [.Return (some (.Attribute (.Name "self" p1) fld p2)) p3]) (c : Cls K C) (n : NoAttr K C fld) : PropW P w K mg base C f fld := by
  obtain ⟨oc, od, kV, doc, pm, an, cdv, ct, osl, rfl, lk, hcd⟩ := F.ex
  obtain ⟨p, hp⟩ := hp
  exact ⟨p, g, _, hp, c, fn_getter (k := 0) lk hcd S rfl hb c n, b⟩
section
variable {X : Cx} {j : Nat} {C : Addr} {f fld : Str} {e : Expr} {ta : TE} {pos : Pos}
def tPr (C : Addr) (fld : Str) (ta : TE) : TE := fun σ H Q => ta σ H fun x H1 => ∃ a dx fs v, x = .ref a ∧ H1 a = some (.ins C dx fs) ∧ fs.lookup fld = some v ∧ Q v H1
theorem pe_pr (c : PropW X.prog X.w X.K X.mg X.base C f fld) (hr : Room j X.A) (hk : 2 ≤ j) (he : PE X e ta) (hab : attributeBase e f X.env (eval e X.env) = eval e X.env := by rfl) : PE X (.Attribute e f pos) (tPr C fld ta) := by
  obtain ⟨p, g, fd, hp, cl, F, b⟩ := c.ex
  have := pe_prop (pos := pos) (E := E0) (dvs := []) (ds := []) he cl hp F (hr.mono hk) b .nil pass0 hab
  refine ⟨fun pins s σ H Q I h => this.run pins s σ H Q I ?_⟩
  refine (show tProp C (getSp C fld) [] E0 ta σ H Q from ?_)
  have h : ta σ H fun x H1 => ∃ a dx fs v, x = .ref a ∧ H1 a = some (.ins C dx fs) ∧ fs.lookup fld = some v ∧ Q v H1 := h
  have e : (fun x H1 => ∃ a dx fs, x = V.ref a ∧ H1 a = some (.ins C dx fs) ∧ getSp C fld [V.ref a] H1 Q E0) = (fun x H1 => ∃ a dx fs v, x = .ref a ∧ H1 a = some (.ins C dx fs) ∧ fs.lookup fld = some v ∧ Q v H1) := by
    funext x H1
    apply propext
    constructor
    · rintro ⟨a, dx, fs, rfl, e1, a2, dx2, fs2, v, e2, e3, e4, q⟩
      cases e2
      exact ⟨a, dx2, fs2, v, rfl, e3, e4, q⟩
    · rintro ⟨a, dx, fs, v, rfl, e1, e2, q⟩
      exact ⟨a, dx, fs, rfl, e1, a, dx, fs, v, rfl, e1, e2, q⟩
  unfold tProp
  rw [e]
  exact h
end

section
variable {P : Program} {w : World} {K : PySem.W.Frag} {mg : Str → Option Value} {base : Heap} (T : Top w K mg)
include T
theorem p_Sort_name : PropW P w K mg base (He.ga K "Sort") "name" "kept_name" := by
  obtain ⟨fd, F⟩ := T.d_Sort_p_name
  exact prop_of F T.prop_Sort_name sc_Sort_p_name (F.binds fun _ _ _ _ _ _ us hl => match us, hl with | [_], _ => rfl) rfl T.cls_Sort T.noat_Sort_kept_name
theorem p_Sort_rows : PropW P w K mg base (He.ga K "Sort") "rows" "kept_rows" := by
  obtain ⟨fd, F⟩ := T.d_Sort_p_rows
  exact prop_of F T.prop_Sort_rows sc_Sort_p_rows (F.binds fun _ _ _ _ _ _ us hl => match us, hl with | [_], _ => rfl) rfl T.cls_Sort T.noat_Sort_kept_rows
theorem p_Sort_own : PropW P w K mg base (He.ga K "Sort") "own" "kept_own" := by
  obtain ⟨fd, F⟩ := T.d_Sort_p_own
  exact prop_of F T.prop_Sort_own sc_Sort_p_own (F.binds fun _ _ _ _ _ _ us hl => match us, hl with | [_], _ => rfl) rfl T.cls_Sort T.noat_Sort_kept_own
theorem p_Program_common : PropW P w K mg base (He.ga K "Program") "common" "kept_common" := by
  obtain ⟨fd, F⟩ := T.d_Program_p_common
  exact prop_of F T.prop_Program_common sc_Program_p_common (F.binds fun _ _ _ _ _ _ us hl => match us, hl with | [_], _ => rfl) rfl T.cls_Program T.noat_Program_kept_common
theorem p_Program_locks : PropW P w K mg base (He.ga K "Program") "locks" "kept_locks" := by
  obtain ⟨fd, F⟩ := T.d_Program_p_locks
  exact prop_of F T.prop_Program_locks sc_Program_p_locks (F.binds fun _ _ _ _ _ _ us hl => match us, hl with | [_], _ => rfl) rfl T.cls_Program T.noat_Program_kept_locks
theorem p_Bench_program : PropW P w K mg base (He.ga K "Bench") "program" "kept_program" := by
  obtain ⟨fd, F⟩ := T.d_Bench_p_program
  exact prop_of F T.prop_Bench_program sc_Bench_p_program (F.binds fun _ _ _ _ _ _ us hl => match us, hl with | [_], _ => rfl) rfl T.cls_Bench T.noat_Bench_kept_program
theorem p_Bench_hands : PropW P w K mg base (He.ga K "Bench") "hands" "kept_hands" := by
  obtain ⟨fd, F⟩ := T.d_Bench_p_hands
  exact prop_of F T.prop_Bench_hands sc_Bench_p_hands (F.binds fun _ _ _ _ _ _ us hl => match us, hl with | [_], _ => rfl) rfl T.cls_Bench T.noat_Bench_kept_hands
theorem p_Bench_size : PropW P w K mg base (He.ga K "Bench") "size" "kept_size" := by
  obtain ⟨fd, F⟩ := T.d_Bench_p_size
  exact prop_of F T.prop_Bench_size sc_Bench_p_size (F.binds fun _ _ _ _ _ _ us hl => match us, hl with | [_], _ => rfl) rfl T.cls_Bench T.noat_Bench_kept_size
theorem p_Bench_book : PropW P w K mg base (He.ga K "Bench") "book" "kept_book" := by
  obtain ⟨fd, F⟩ := T.d_Bench_p_book
  exact prop_of F T.prop_Bench_book sc_Bench_p_book (F.binds fun _ _ _ _ _ _ us hl => match us, hl with | [_], _ => rfl) rfl T.cls_Bench T.noat_Bench_kept_book
theorem p_Bench_turns : PropW P w K mg base (He.ga K "Bench") "turns" "kept_turns" := by
  obtain ⟨fd, F⟩ := T.d_Bench_p_turns
  exact prop_of F T.prop_Bench_turns sc_Bench_p_turns (F.binds fun _ _ _ _ _ _ us hl => match us, hl with | [_], _ => rfl) rfl T.cls_Bench T.noat_Bench_kept_turns
end
end Wv
end WvT_part
section WvU_part
set_option Elab.async false
set_option linter.all false
set_option maxRecDepth 100000
set_option maxHeartbeats 1000000
/-! WvU: the defs of tabling and moving. -/
namespace Wv
open PySem L2 PySem.Spec
open PyProof.Rows

/-! ### tuples that are tracked -/
def rSlB : V → Option Int → Option Int → Hp → VK → Prop := fun x lo hi H Q => ∃ a xs, x = .ref a ∧ H a = some (.tup xs) ∧ ∀ p H', Same H H' → H' p = some (.tup (cutV xs lo hi)) → Q (.ref p) H'
theorem sl_tupB {X : Cx} : L2.SlR X rSlB := by
  intro pins s σ H x v vl vu lo hi sl Q I rx hs pl pu h
  obtain ⟨a, xs, rfl, hx, q⟩ := h
  refine sl_tupA pins s σ H _ v vl vu lo hi sl Q I rx hs pl pu ⟨a, xs, rfl, SqT.of hx, fun hw => q a H (Same.refl _) ?_, fun _ p hp => q p _ (same_upd hp) upd_same⟩
  rw [hx]
  unfold cutV
  rw [hw.1, hw.2, Nat.sub_zero, List.drop_zero, List.take_length]
def rCatB : R2 := fun x y H Q => ∃ a b xs ys, x = .ref a ∧ y = .ref b ∧ H a = some (.tup xs) ∧ H b = some (.tup ys) ∧ xs.length + ys.length ≤ sizeLine ∧ ∀ p H', Same H H' → H' p = some (.tup (xs ++ ys)) → Q (.ref p) H'
theorem op_catB {X : Cx} : OpR X (binaryOp .Add) rCatB := by
  intro pins s σ H x y v u Q I rx ry h
  obtain ⟨a, b, xs, ys, rfl, rfl, ha, hb, hz, q⟩ := h
  refine op_catA pins s σ H _ _ v u Q I rx ry ⟨a, b, xs, ys, rfl, rfl, SqT.of ha, SqT.of hb, hz, fun e => q b H (Same.refl _) ?_, fun _ e => q a H (Same.refl _) ?_, fun _ _ p hp => q p _ (same_upd hp) upd_same⟩
  · subst e; exact hb
  · subst e; rw [List.append_nil]; exact ha
def rRepB : R2 := fun x y H Q => ∃ l k xs, x = .ref l ∧ y = .int k ∧ H l = some (.tup xs) ∧ xs ≠ [] ∧ 0 ≤ k ∧ k ≤ 1000 ∧ xs.length ≤ 1000 ∧ ∀ p H', Same H H' → H' p = some (.tup (List.replicate k.toNat xs).flatten) → Q (.ref p) H'
theorem op_repB {X : Cx} : OpR X (binaryOp .Mult) rRepB := by
  intro pins s σ H x y v u Q I rx ry h
  obtain ⟨l, k, xs, rfl, rfl, ha, hne, h0, h1, hz, q⟩ := h
  refine op_repA pins s σ H _ _ v u Q I rx ry ⟨l, k, xs, rfl, rfl, SqT.of ha, hne, h0, h1, hz, fun e => q l H (Same.refl _) ?_, fun _ p hp => q p _ (same_upd hp) upd_same⟩
  subst e
  rw [ha]; simp
theorem cutV_take {xs : List V} {n : Nat} : cutV xs none (some (n : Int)) = xs.take n := by
  unfold cutV
  rw [HT.sIx_none, HT.sIx_nat, List.drop_zero, Nat.sub_zero]
  by_cases h : n ≤ xs.length
  · rw [Nat.min_eq_left h]
  · rw [Nat.min_eq_right (by omega), List.take_length, List.take_of_length_le (by omega)]
theorem cutV_drop {xs : List V} {n : Nat} : cutV xs (some (n : Int)) none = xs.drop n := by
  unfold cutV
  rw [HT.sIx_none, HT.sIx_nat]
  by_cases h : n ≤ xs.length
  · rw [Nat.min_eq_left h, List.take_of_length_le (by rw [List.length_drop]; exact Nat.le_refl _)]
  · rw [Nat.min_eq_right (by omega), Nat.sub_self, List.take_zero, List.drop_of_length_le (by omega)]
/-- (a, b, ..) -/
theorem set_eq {α : Type} : ∀ (xs : List α) (n : Nat) (v : α), n < xs.length → xs.take n ++ [v] ++ xs.drop (n + 1) = xs.set n v := by
  intro xs n v h
  rw [List.set_eq_take_append_cons_drop, if_pos h, List.append_assoc]; rfl

section
variable {P : Program} {w : World} {K : PySem.W.Frag} {mg : Str → Option Value} {base : Heap} (T : Top w K mg)
include T
def sp_put : Sp := fun vs H Q _ => ∃ r xs at_ v, vs = [.ref r, .int (at_ : Nat), v] ∧ H r = some (.tup xs) ∧ at_ < xs.length ∧ xs.length ≤ 1000 ∧ ∀ p H', Same H H' → H' p = some (.tup (xs.set at_ v)) → Q (.ref p) H'
theorem c_put : CalW P w K mg base 1 "put" sp_put := by
  obtain ⟨fd, F⟩ := T.d_put
  refine cal_of F T.glo_put (F.binds fun _ _ _ _ _ _ us hl => match us, hl with | [_, _, _], _ => rfl) sc_put (fun vs H Q E h => by obtain ⟨r, xs, a, v, rfl, _⟩ := h; rfl) fun cdv A outer s H vs Q E hr h => ?_
  obtain ⟨r, xs, at_, v, rfl, hr1, hlt, hle, hQ⟩ := h
  refine ⟨_, pss_one (ps_ret (pe_op op_catB (pe_op op_catB (pe_slice sl_tupB (pv 0) po_none (po_some (pv 1))) (pe_tup (pa_cons (pv 2) pa_nil))) (pe_slice sl_tupB (pv 0) (po_some (pe_op op_add (pv 1) pe_int)) po_none))), ?_⟩
  have hsz : (1000 : Nat) + 1000 ≤ sizeLine := by decide
  refine ⟨_, rfl, _, rfl, _, rfl, r, xs, rfl, hr1, fun p1 H1 s1 e1 => ?_⟩
  rw [cutV_take] at e1
  refine ⟨_, rfl, by show 1 ≤ sizeLine; decide, fun p2 n2 => ?_⟩
  refine ⟨p1, p2, _, _, rfl, rfl, same_upd n2 _ _ e1, upd_same, ?_, fun p3 H3 s3 e3 => ?_⟩
  · rw [List.length_take]; show _ + 1 ≤ _; omega
  have s13 : Same H H3 := s1.trans (Same.trans (same_upd n2) s3)
  refine ⟨_, rfl, _, rfl, _, _, rfl, rfl, _, rfl, r, xs, rfl, s13 _ _ hr1, fun p4 H4 s4 e4 => ?_⟩
  rw [show ((at_ : Int) + 1) = ((at_ + 1 : Nat) : Int) by omega, cutV_drop] at e4
  refine ⟨p3, p4, _, _, rfl, rfl, s4 _ _ e3, e4, ?_, fun p5 H5 s5 e5 => ?_⟩
  · rw [List.length_append, List.length_take, List.length_drop]; show _ + 1 + _ ≤ _; omega
  refine hQ p5 H5 (s13.trans (s4.trans s5)) ?_
  rw [e5, set_eq xs at_ v hlt]
end
end Wv
end WvU_part
section WvV_part
set_option Elab.async false
set_option linter.all false
set_option maxRecDepth 100000
set_option maxHeartbeats 1000000
/-! WvV: reading a program, a sort; the states. -/
namespace Wv
open PySem L2 PySem.Spec
open PyProof.Rows

theorem ifT {b : Bool} {α β : Prop} (h : b = true) (x : α) : if b = true then α else β := by rw [if_pos h]; exact x
theorem ifF {b : Bool} {α β : Prop} (h : b = false) (x : β) : if b = true then α else β := by rw [if_neg (by rw [h]; decide)]; exact x
theorem nm_inj : ∀ {b c : Bool}, nmOf b = nmOf c → b = c := by
  intro b c h
  cases b <;> cases c <;> first | rfl | (revert h; decide)
theorem isi_str {K : PySem.W.Frag} : PySem.W.kitOne K (.type "str") (.type "str") = some true := kit_ty (by decide +kernel)
theorem bs_str : bootBuiltins "str" = some (.type "str") := by decide +kernel
theorem bs_isi : bootBuiltins "isinstance" = some (.builtin "isinstance") := by decide +kernel
theorem SortIs.rr {K : PySem.W.Frag} {H : Hp} {v : V} {nm : Str} {rs : List Rw} (h : SortIs K H v nm rs) : ∃ a dx rr oo vs, v = .ref a ∧ H a = some (.ins (CS K) dx (sortF nm rr oo)) ∧ H rr = some (.tup vs) ∧ RowsAre H vs rs ∧ H oo = some (.tup []) := h

section
variable {P : Program} {w : World} {K : PySem.W.Frag} {mg : Str → Option Value} {base : Heap} (T : Top w K mg)
include T
/-! ### program[name] -/
def sp_Pget (K : PySem.W.Frag) : Sp := fun vs H Q _ => ∃ pv B b, vs = [pv, .str (nmOf b)] ∧ ProgIs K H pv B ∧ ∀ v, SortIs K H v (nmOf b) (B.rows b) → Q v H
theorem m_Pget : MetW P w K mg base 3 (CP K) "__getitem__" (sp_Pget K) := by
  obtain ⟨fd, F⟩ := T.d_Program_getitem
  refine met_of F T.meth_Program_getitem (F.binds fun _ _ _ _ _ _ us hl => match us, hl with | [_, _], _ => rfl) sc_Program_getitem (fun vs H Q E h => by obtain ⟨pv, B, b, rfl, _⟩ := h; rfl) fun cdv A outer s H vs Q E hr h => ?_
  obtain ⟨pv, B, b, rfl, hp, hQ⟩ := h
  obtain ⟨a, dx, ss, cc, ll, s0, s1, rfl, h2, h3, h4, h5, h6, h7⟩ := hp
  refine ⟨_, pss_cons (ps_for PassesOwn.never (by rfl) (pi_tup (pe_fld (L2.pv 0) rfl)) (pg_name (i := 2) sc_Program_getitem.nd rfl (Or.inl rfl))
    (pss_one (ps_if (PW.pt (pw_and (pt_val (pe_callB call_isi (by rfl) T.free_isinstance bs_isi (pa_cons (L2.pv 1) (pa_cons (pe_bltn (v := .ty "str") (by rfl) T.free_str bs_str rfl) pa_nil))))
      (pw_and1 (pt_cmpR op_eq (pe_pr (p_Sort_name T) hr (by decide) (L2.pv 2)) (L2.pv 1) (nomark _)))))
      (pss_one (ps_ret (L2.pv 2))) pss_nil))) (pss_one ps_never), ?_⟩
  refine ⟨_, rfl, a, _, _, _, _, rfl, h2, T.cls_Program, T.noat_Program_kept_sorts, rfl, ss, rfl, ⟨_, SqT.of h3⟩, ?_⟩
  refine for_tup (xs := [s0, s1]) (fun i σ H' => H = H' ∧ (∃ o, σ = [some (.ref a), some (.str (nmOf b)), o]) ∧ i ≤ (if b then 1 else 0)) ⟨rfl, ⟨_, rfl⟩, Nat.zero_le _⟩ (fun i σ H' _ p => by rw [← p.1]; exact SqT.of h3) (fun i x σ H' hx p => ?_) (fun σ H' p => ?_)
  · obtain ⟨rfl, ⟨o, rfl⟩, p2⟩ := p
    have hS : ∃ c, SortIs K H x (nmOf c) (B.rows c) ∧ i = (if c then 1 else 0) := by
      rcases i with _ | _ | i
      · cases hx; exact ⟨false, h4, rfl⟩
      · cases hx; exact ⟨true, h5, rfl⟩
      · simp at hx
    obtain ⟨c, hc, hi⟩ := hS
    obtain ⟨a', dx', rr, oo, vs', rfl, g2, g3, g4, g5⟩ := SortIs.rr hc
    refine ⟨_, rfl, _, _, _, _, true, rfl, .ty _, .base (.str _), isi_str, true, rfl, ?_⟩
    refine ifT rfl ?_
    refine ⟨_, rfl, a', dx', _, _, rfl, g2, rfl, _, rfl, rfl, _, rfl, ?_⟩
    by_cases hcb : c = b
    · subst hcb
      refine ifT (decide_eq_true rfl) ?_
      exact ⟨_, rfl, hQ _ hc⟩
    · refine ifF (decide_eq_false fun e => hcb (nm_inj (V.str.inj e))) ?_
      refine ⟨rfl, ⟨_, rfl⟩, ?_⟩
      cases b <;> cases c <;> simp_all
  · obtain ⟨rfl, p1, p2⟩ := p
    cases b <;> simp at p2
/-! ### len(sort), sort[at] -/
def sp_Slen (K : PySem.W.Frag) : Sp := fun vs H Q _ => ∃ sv nm rs, vs = [sv] ∧ SortIs K H sv nm rs ∧ rs.length ≤ 1000 ∧ Q (.int rs.length) H
theorem m_Slen : MetW P w K mg base 1 (CS K) "__len__" (sp_Slen K) := by
  obtain ⟨fd, F⟩ := T.d_Sort_len
  refine met_of F T.meth_Sort_len (F.binds fun _ _ _ _ _ _ us hl => match us, hl with | [_], _ => rfl) sc_Sort_len (fun vs H Q E h => by obtain ⟨pv, nm, rs, rfl, _⟩ := h; rfl) fun cdv A outer s H vs Q E hr h => ?_
  obtain ⟨sv, nm, rs, rfl, hs, hz, hQ⟩ := h
  obtain ⟨a, dx, rr, oo, vs, rfl, h2, h3, h4, h5⟩ := SortIs.rr hs
  refine ⟨_, pss_one (ps_ret (pe_callB call_len_seq (by rfl) T.free_len PySem.boot_len (pa_cons (pe_fld (pv 0) rfl) pa_nil))), ?_⟩
  refine ⟨_, rfl, a, _, _, _, _, rfl, h2, T.cls_Sort, T.noat_Sort_kept_rows, rfl, rr, vs, rfl, .inr (SqT.of h3), ?_⟩
  rw [h4.1]; exact hQ
def sp_Sget (K : PySem.W.Frag) : Sp := fun vs H Q _ => ∃ sv nm rs i r, vs = [sv, .int (i : Nat)] ∧ SortIs K H sv nm rs ∧ rs[i]? = some r ∧ ∀ v, RowIs H v r (i + 1) → Q v H
theorem m_Sget : MetW P w K mg base 3 (CS K) "__getitem__" (sp_Sget K) := by
  obtain ⟨fd, F⟩ := T.d_Sort_getitem
  refine met_of F T.meth_Sort_getitem (F.binds fun _ _ _ _ _ _ us hl => match us, hl with | [_, _], _ => rfl) sc_Sort_getitem (fun vs H Q E h => by obtain ⟨pv, nm, rs, i, r, rfl, _⟩ := h; rfl) fun cdv A outer s H vs Q E hr h => ?_
  obtain ⟨sv, nm, rs, i, r, rfl, hs, hi, hQ⟩ := h
  obtain ⟨a, dx, rr, oo, vs, rfl, h2, h3, h4, h5⟩ := SortIs.rr hs
  have hlt : i < rs.length := (List.getElem?_eq_some_iff.mp hi).1
  refine ⟨_, pss_cons (ps_if (pt_not (pt_val (pe_w (c_is_within T) hr (by decide) (by rfl) (pa_cons (pv 1) (pa_cons pe_int (pa_cons (pe_op op_sub (pe_callB call_len_seq (by rfl) T.free_len PySem.boot_len (pa_cons (pe_fld (pv 0) rfl) pa_nil)) pe_int) pa_nil)))))) (pss_one ps_never) pss_nil)
    (pss_one (ps_ret (pe_ix ix_tup (pe_fld (pv 0) rfl) (pv 1) (fun _ _ => rfl)))), ?_⟩
  refine ⟨_, rfl, _, rfl, a, _, _, _, _, rfl, h2, T.cls_Sort, T.noat_Sort_kept_rows, rfl, rr, vs, rfl, .inr (SqT.of h3), _, _, rfl, rfl, i, 0, _, rfl, by omega, by have := h4.1; omega, true, rfl, ?_⟩
  refine ifF rfl ?_
  have hv : i < vs.length := by rw [h4.1]; exact hlt
  refine ⟨_, rfl, a, _, _, _, _, rfl, h2, T.cls_Sort, T.noat_Sort_kept_rows, rfl, _, rfl, rr, vs, _, _, rfl, rfl, SqT.of h3, atI_nat (List.getElem?_eq_getElem hv), hQ _ (h4.2 i _ _ (List.getElem?_eq_getElem hv) hi)⟩
end
end Wv
end WvV_part
section WvW_part
set_option Elab.async false
set_option linter.all false
set_option maxRecDepth 100000
set_option maxHeartbeats 1000000
/-! WvW: the first state, the next row. -/
namespace Wv
open PySem L2 PySem.Spec
open PyProof.Rows

/-- len of a list or tuple -/
def rLenS (K : PySem.W.Frag) : List V → Hp → VK → Prop := fun xs H Q => ∃ p ys, xs = [V.ref p] ∧ (SqL K H p ys ∨ SqT K H p ys) ∧ Q (.int ys.length) H
theorem rep_one {v : V} {n : Nat} : (List.replicate n [v]).flatten = List.replicate n v := by
  induction n with
  | zero => rfl
  | succ n ih => rw [List.replicate_succ, List.flatten_cons, ih]; rfl
theorem map_rep {n : Nat} : ((List.replicate n 0).map fun p : Nat => V.int p) = List.replicate n (V.int 0) := by rw [List.map_replicate]; rfl
theorem len1000 : (1000 : Nat) ≤ sizeLine := by decide
theorem sm {n m : Nat} (h : n ≤ m) (h2 : m ≤ 1000) : n ≤ sizeLine := Nat.le_trans h (Nat.le_trans h2 len1000)
theorem smlt {n : Nat} (h : n ≤ 900) : n < sizeLine := Nat.lt_of_lt_of_le (by omega : n < 1000) len1000
section
variable {P : Program} {w : World} {K : PySem.W.Frag} {mg : Str → Option Value} {base : Heap} (T : Top w K mg)
include T
theorem Top.hfiP : ∀ f, PySem.W.findIn K (.ref (CP K)) "__getitem__" = some (some (.ref f)) → PySem.W.fnIn K f = true := fun f h => by
  rw [T.meth_Program_getitem.at_] at h; cases h; exact T.fnin_getProgram
theorem Top.hfiS : ∀ f, PySem.W.findIn K (.ref (CS K)) "__getitem__" = some (some (.ref f)) → PySem.W.fnIn K f = true := fun f h => by
  rw [T.meth_Sort_getitem.at_] at h; cases h; exact T.fnin_getSort
/-! ### empty_state -/
def sp_empty_state : Sp := fun vs H Q _ => vs = [.int 1] ∧ ∀ v H', Same H H' → TabIs H' v → Q v H'
theorem c_empty_state : CalW P w K mg base 1 "empty_state" sp_empty_state := by
  obtain ⟨fd, F⟩ := T.d_empty_state
  refine cal_of F T.glo_empty_state (F.binds fun _ _ _ _ _ _ us hl => match us, hl with | [_], _ => rfl) sc_empty_state (fun vs H Q E h => by obtain ⟨rfl, _⟩ := h; rfl) fun cdv A outer s H vs Q E hr h => ?_
  obtain ⟨rfl, hQ⟩ := h
  refine ⟨_, pss_one (ps_ret (pe_tup (pa_cons (pe_op op_repB (pe_tup (pa_cons pe_non pa_nil)) (pv 0)) (pa_cons (pe_op op_repB (pe_tup (pa_cons pe_int pa_nil)) (pv 0)) (pa_cons (pe_op op_sub (pv 0) pe_int) (pa_cons (pe_tup pa_nil) (pa_cons pe_int pa_nil))))))), ?_⟩
  refine ⟨by show 1 ≤ sizeLine; decide, fun p1 n1 => ⟨_, rfl, _, _, _, rfl, rfl, upd_same, by simp, by decide, by decide, by decide, fun e H2 s2 he => ?_⟩⟩
  refine ⟨by show 1 ≤ sizeLine; decide, fun p3 n3 => ⟨_, rfl, _, _, _, rfl, rfl, upd_same, by simp, by decide, by decide, by decide, fun c H4 s4 hc => ?_⟩⟩
  refine ⟨_, rfl, _, _, rfl, rfl, by show 0 ≤ sizeLine; decide, fun p5 n5 => ?_⟩
  refine ⟨by show 5 ≤ sizeLine; decide, fun p6 n6 => ?_⟩
  have s24 : Same H2 H4 := Same.trans (same_upd n3) s4
  have s02 : Same H H2 := Same.trans (same_upd n1) s2
  have s5 : Same H4 (upd H4 p5 (.tup [])) := same_upd n5
  refine hQ _ _ (s02.trans (s24.trans (s5.trans (same_upd n6)))) ⟨p6, e, c, p5, rfl, upd_same, (s24.trans (s5.trans (same_upd n6))) _ _ he, (s5.trans (same_upd n6)) _ _ hc, same_upd n6 _ _ upd_same⟩
/-! ### sorts_of -/
def SortsAre (K : PySem.W.Frag) (H : Hp) (B : Bn) (ss : List V) : Prop := ss.length = B.hs.length ∧ ∀ (i : Nat) (s : V), ss[i]? = some s → ∃ b, B.hs[i]? = some b ∧ SortIs K H s (nmOf b) (B.rows b)
def sp_sorts_of (K : PySem.W.Frag) : Sp := fun vs H Q _ => ∃ bv B, vs = [bv] ∧ BenchIs K H bv B ∧ B.hs.length ≤ 900 ∧ ∀ p H' ss, Same H H' → H' p = some (.lst ss) → SortsAre K H' B ss → Q (.ref p) H'
theorem c_sorts_of : CalW P w K mg base 5 "sorts_of" (sp_sorts_of K) := by
  obtain ⟨fd, F⟩ := T.d_sorts_of
  refine cal_of F T.glo_sorts_of (F.binds fun _ _ _ _ _ _ us hl => match us, hl with | [_], _ => rfl) sc_sorts_of (fun vs H Q E h => by obtain ⟨bv, B, rfl, _⟩ := h; rfl) fun cdv A outer s H vs Q E hr h => ?_
  obtain ⟨bv, B, rfl, hb, hz, hQ⟩ := h
  obtain ⟨a, dx, pv', hh, rfl, h1, h2, h3⟩ := id hb
  refine ⟨_, pss_one (ps_ret (pe_lc (own := [("name", 1)]) (g := gName 1) (tt := tYes) (by rfl) sc_sorts_of.nd (pi_tup (pe_pr (p_Bench_hands T) hr (by decide) (pv 0))) (blkOk_by (N := n_sorts_of) (sc := defScope s_sorts_of) (by decide +kernel))
    (fun _ _ _ _ _ => pg_name (i := 1) sc_sorts_of.nd rfl (Or.inl rfl)) (fun _ _ _ _ _ => pts_nil) (fun _ _ _ _ _ => pe_subO (m_Pget T) T.hfiP hr (by decide) (pe_pr (p_Bench_program T) hr (by decide) (pv 0)) (pv 1)))), ?_⟩
  refine ⟨_, rfl, a, dx, _, _, rfl, h1, rfl, hh, rfl, ⟨_, SqT.of h3⟩, fun D hD => lc_same (fun i y H => ∃ b, B.hs[i]? = some b ∧ SortIs K H y (nmOf b) (B.rows b)) hD (fun i y H H' k ⟨b, e, h⟩ => ⟨b, e, k.sort h⟩)
    (by rw [List.length_map]; exact smlt hz) (walks_tup (SqT.of h3)) (fun i x H' hx s1 C hC => ?_) fun H' acc s1 hD' hl hR => ?_⟩
  · rw [List.getElem?_map] at hx
    obtain ⟨b, hb2, rfl⟩ := Option.map_eq_some_iff.mp hx
    obtain ⟨pa, pdx, q⟩ := id h2
    obtain ⟨ss, cc, ll, s0, s1', rfl, q2, _⟩ := id q
    refine ⟨rfl, _, rfl, a, dx, _, _, rfl, s1 _ _ h1, rfl, _, rfl, pa, pdx, _, rfl, s1 _ _ q2, _, B, b, rfl, Keep.prog (Same.keep s1) h2, fun v hv => hC v H' (Same.refl _) ⟨b, hb2, hv⟩⟩
  · refine hQ D H' acc s1 hD' ⟨by rw [hl, List.length_map], hR⟩
/-! ### first_state -/
def sp_first_state (K : PySem.W.Frag) : Sp := fun vs H Q _ => ∃ bv B, vs = [bv] ∧ BenchIs K H bv B ∧ B.hs.length ≤ 900 ∧ ∀ v H', Same H H' → StIs H' v (List.replicate B.hs.length 0) B.hs.length → Q v H'
theorem c_first_state : CalW P w K mg base 6 "first_state" (sp_first_state K) := by
  obtain ⟨fd, F⟩ := T.d_first_state
  refine cal_of F T.glo_first_state (F.binds fun _ _ _ _ _ _ us hl => match us, hl with | [_], _ => rfl) sc_first_state (fun vs H Q E h => by obtain ⟨bv, B, rfl, _⟩ := h; rfl) fun cdv A outer s H vs Q E hr h => ?_
  obtain ⟨bv, B, rfl, hb, hz, hQ⟩ := h
  obtain ⟨a, dx, pv', hh, rfl, h1, h2, h3⟩ := id hb
  refine ⟨_, pss_cons (ps_par (i := 1) (j := 2) (by rfl) sc_first_state.nd rfl rfl (by decide) rfl rfl (pa_cons (pe_pr (p_Bench_program T) hr (by decide) (pv 0)) (pa_cons (pe_w (c_sorts_of T) hr (by decide) (by rfl) (pa_cons (pv 0) pa_nil)) pa_nil)) (by rfl))
    (pss_cons (ps_set (i := 3) sc_first_state.nd rfl (Or.inl rfl) (pe_tupleOf (by rfl) T.free_tuple (pe_lc (own := [("sort", 5)]) (g := gName 5) (tt := tYes) (by rfl) sc_first_state.nd (pi_list (pv 2)) (blkOk_by (N := n_first_state) (sc := defScope s_first_state) (by decide +kernel))
      (fun _ _ _ _ _ => pg_name (i := 5) sc_first_state.nd rfl (Or.inl rfl)) (fun _ _ _ _ _ => pts_nil) (fun _ _ _ _ _ => pe_op op_repB (pe_tup (pa_cons pe_non pa_nil)) (pe_callB (r := rLenS K) call_len_seq (by rfl) T.free_len PySem.boot_len (pa_cons (pe_pr (p_Sort_own T) hr (by decide) (pv 5)) pa_nil))))))
    (pss_cons (ps_set (i := 4) sc_first_state.nd rfl (Or.inl rfl) (pe_op op_repB (pe_tup (pa_cons pe_non pa_nil)) (pe_callB (r := rLenS K) call_len_seq (by rfl) T.free_len PySem.boot_len (pa_cons (pe_pr (p_Program_locks T) hr (by decide) (pv 1)) pa_nil))))
    (pss_one (ps_ret (pe_tup (pa_cons (pe_op op_repB (pe_tup (pa_cons pe_int pa_nil)) (pe_callB (r := rLenS K) call_len_seq (by rfl) T.free_len PySem.boot_len (pa_cons (pv 2) pa_nil))) (pa_cons (pe_op op_repB (pe_tup (pa_cons pe_non pa_nil)) (pe_callB (r := rLenS K) call_len_seq (by rfl) T.free_len PySem.boot_len (pa_cons (pe_pr (p_Program_common T) hr (by decide) (pv 1)) pa_nil)))
      (pa_cons (pv 3) (pa_cons (pv 4) (pa_cons (pe_w (c_empty_state T) hr (by decide) (by rfl) (pa_cons (pe_pr (p_Bench_size T) hr (by decide) (pv 0)) pa_nil)) pa_nil)))))))))), ?_⟩
  obtain ⟨pa, pdx, ps, pc, pl, s0, s1', rfl, q2, q3, q4, q5, q6, q7⟩ := id h2
  refine ⟨_, rfl, a, dx, _, _, rfl, h1, rfl, _, rfl, _, B, rfl, hb, hz, fun p1 H1 ss e1 hp1 hss => ⟨_, _, rfl, ?_⟩⟩
  have k1 := Same.keep e1
  refine ⟨_, rfl, p1, rfl, ⟨_, SqL.of hp1⟩, fun D hD => lc_same (fun i y H => TupIs H y []) hD (fun i y H H' k h => k.tupIs h) (by rw [hss.1]; exact smlt hz) (walks_list (SqL.of hp1)) (fun i x H' hx s1 C hC => ?_) fun H2 os e2 hos hl hR => ?_⟩
  · obtain ⟨b, hb2, hS⟩ := hss.2 i x hx
    obtain ⟨a', dx', rr, oo, vs', rfl, g2, g3, g4, g5⟩ := SortIs.rr (Keep.sort (Same.keep s1) hS)
    refine ⟨rfl, by show 1 ≤ sizeLine; decide, fun p2 n2 => ⟨_, rfl, a', dx', _, _, rfl, same_upd n2 _ _ g2, rfl, oo, [], rfl, .inr (SqT.of (same_upd n2 _ _ g5)), _, _, _, rfl, rfl, upd_same, by simp, by decide, by decide, by decide, fun p3 H3 s3 h3 => hC _ _ (Same.trans (same_upd n2) s3) ⟨p3, rfl, h3⟩⟩⟩
  have k2 := Same.keep e2
  refine .inl ⟨D, os, rfl, SqL.of hos, fun po npo => ?_⟩
  have s3 : Same H2 (upd H2 po (.tup os)) := same_upd npo
  obtain ⟨H3, hH3⟩ : ∃ H3, H3 = upd H2 po (.tup os) := ⟨_, rfl⟩
  rw [← hH3] at s3 ⊢
  have hpo : H3 po = some (.tup os) := by rw [hH3]; exact upd_same
  have s13 : Same H H3 := e1.trans (e2.trans s3)
  refine ⟨by show 1 ≤ sizeLine; decide, fun p4 n4 => ⟨_, rfl, pa, pdx, _, _, rfl, same_upd n4 _ _ (s13 _ _ q2), rfl, pl, [], rfl, .inr (SqT.of (same_upd n4 _ _ (s13 _ _ q7))), _, _, _, rfl, rfl, upd_same, by simp, by decide, by decide, by decide, fun pt H5 s5 h5 => ?_⟩⟩
  have s35 : Same H3 H5 := Same.trans (same_upd n4) s5
  refine ⟨by show 1 ≤ sizeLine; decide, fun p6 n6 => ⟨_, rfl, p1, ss, rfl, .inl (SqL.of (same_upd n6 _ _ (s35 _ _ (s3 _ _ (e2 _ _ hp1))))), _, _, _, rfl, rfl, upd_same, by simp, by omega, by have := hss.1; omega, by show 1 ≤ 1000; decide, fun pr H7 s7 h7 => ?_⟩⟩
  have s57 : Same H5 H7 := Same.trans (same_upd n6) s7
  refine ⟨by show 1 ≤ sizeLine; decide, fun p8 n8 => ⟨_, rfl, pa, pdx, _, _, rfl, same_upd n8 _ _ (s57 _ _ (s35 _ _ (s13 _ _ q2))), rfl, pc, [], rfl, .inr (SqT.of (same_upd n8 _ _ (s57 _ _ (s35 _ _ (s13 _ _ q6))))), _, _, _, rfl, rfl, upd_same, by simp, by decide, by decide, by decide, fun pcm H9 s9 h9 => ?_⟩⟩
  have s79 : Same H7 H9 := Same.trans (same_upd n8) s9
  refine ⟨_, rfl, _, rfl, _, rfl, a, dx, _, _, rfl, s79 _ _ (s57 _ _ (s35 _ _ (s13 _ _ h1))), rfl, rfl, fun tb H10 s10 htb => ⟨by show 5 ≤ sizeLine; decide, fun px nx => ?_⟩⟩
  have s11 : Same H10 (upd H10 px (.tup [.ref pr, .ref pcm, .ref po, .ref pt, tb])) := same_upd nx
  refine hQ _ _ (s13.trans (s35.trans (s57.trans (s79.trans (s10.trans s11))))) ⟨px, pr, pcm, po, pt, tb, os, rfl, upd_same, ?_, ?_, ?_, ?_, ?_, ?_, Keep.tab (Same.keep s11) htb⟩
  · have := s11 _ _ (s10 _ _ (s79 _ _ h7))
    rw [this, rep_one, map_rep, ← hss.1]; rfl
  · exact s11 _ _ (s10 _ _ h9)
  · exact s11 _ _ (s10 _ _ (s79 _ _ (s57 _ _ (s35 _ _ hpo))))
  · rw [hl, hss.1]
  · intro x hx
    obtain ⟨i, hi⟩ := List.mem_iff_getElem?.mp hx
    exact Keep.tupIs (Same.keep (s3.trans (s35.trans (s57.trans (s79.trans (s10.trans s11)))))) (hR i x hi)
  · exact s11 _ _ (s10 _ _ (s79 _ _ (s57 _ _ h5)))
end
end Wv
end WvW_part
section WvX_part
set_option Elab.async false
set_option linter.all false
set_option maxRecDepth 100000
set_option maxHeartbeats 1000000
/-! WvX: the next row, the choices, a step. -/
namespace Wv
open PySem L2 PySem.Spec
open PyProof.Rows

theorem BenchIs.un {K : PySem.W.Frag} {H : Hp} {v : V} {B : Bn} (h : BenchIs K H v B) : ∃ a dx pv hh, v = .ref a ∧ H a = some (.ins (CB K) dx (benchF pv hh)) ∧ ProgIs K H pv B ∧ H hh = some (.tup (B.hs.map fun b => V.str (nmOf b))) := h
theorem ProgIs.un {K : PySem.W.Frag} {H : Hp} {v : V} {B : Bn} (h : ProgIs K H v B) : ∃ a dx ss cc ll s0 s1, v = .ref a ∧ H a = some (.ins (CP K) dx (progF ss cc ll)) ∧ H ss = some (.tup [s0, s1]) ∧ SortIs K H s0 "giver" B.r0 ∧ SortIs K H s1 "user" B.r1 ∧ H cc = some (.tup []) ∧ H ll = some (.tup []) := h
theorem StIs.un {H : Hp} {v : V} {ps : List Nat} {m : Nat} (h : StIs H v ps m) : ∃ a r c o t tb os, v = .ref a ∧ H a = some (.tup [.ref r, .ref c, .ref o, .ref t, tb]) ∧ H r = some (.tup (ps.map fun p : Nat => V.int p)) ∧ H c = some (.tup []) ∧ H o = some (.tup os) ∧ os.length = m ∧ (∀ x ∈ os, TupIs H x []) ∧ H t = some (.tup []) ∧ TabIs H tb := h
theorem Bn.at_of {B : Bn} {h : Nat} {b : Bool} (e : B.hs[h]? = some b) : B.at_ h = B.rows b := by unfold Bn.at_; rw [e]
theorem Bn.Ok.at_le {B : Bn} (o : B.Ok) (h : Nat) : (B.at_ h).length ≤ 3 := by
  unfold Bn.at_
  cases e : B.hs[h]? with
  | none => exact Nat.zero_le _
  | some b => exact (o.le b).2
/-- how many ways hand h at place p can go -/
def Bn.cho (B : Bn) (h p : Nat) : Nat := match (B.at_ h)[p]? with
  | some r => r.ways
  | none => 0
theorem get_map {ps : List Nat} {h p : Nat} (e : ps[h]? = some p) : (ps.map fun p : Nat => V.int p)[h]? = some (V.int p) := by rw [List.getElem?_map, e]; rfl
theorem get_hands {B : Bn} {h : Nat} {b : Bool} (e : B.hs[h]? = some b) : (B.hs.map fun b => V.str (nmOf b))[h]? = some (V.str (nmOf b)) := by rw [List.getElem?_map, e]; rfl

section
variable {P : Program} {w : World} {K : PySem.W.Frag} {mg : Str → Option Value} {base : Heap} (T : Top w K mg)
include T
/-! ### next_row -/
def sp_next_row (K : PySem.W.Frag) : Sp := fun vs H Q _ => ∃ bv sv B ps m h b p, vs = [bv, sv, .int (h : Nat)] ∧ BenchIs K H bv B ∧ B.Ok ∧ StIs H sv ps m ∧ B.hs[h]? = some b ∧ ps[h]? = some p ∧ p ≤ (B.rows b).length ∧
  (p = (B.rows b).length → Q .non H) ∧ ∀ r v, (B.rows b)[p]? = some r → RowIs H v r (p + 1) → Q v H
theorem c_next_row : CalW P w K mg base 5 "next_row" (sp_next_row K) := by
  obtain ⟨fd, F⟩ := T.d_next_row
  refine cal_of F T.glo_next_row (F.binds fun _ _ _ _ _ _ us hl => match us, hl with | [_, _, _], _ => rfl) sc_next_row (fun vs H Q E h => by obtain ⟨bv, sv, B, ps, m, h, b, p, rfl, _⟩ := h; rfl) fun cdv A outer s H vs Q E hr h => ?_
  obtain ⟨bv, sv, B, ps, m, h, b, p, rfl, hb, ok, hs, eb, ep, hp, q1, q2⟩ := h
  obtain ⟨a, dx, pv', hh, rfl, h1, h2, h3⟩ := hb.un
  obtain ⟨pa, pdx, pss, pc, pl, s0, s1', rfl, g2, g3, g4, g5, g6, g7⟩ := h2.un
  obtain ⟨sa, sr, sc, so, st, tb, os, rfl, t1, t2, t3, t4, t5, t6, t7, t8⟩ := hs.un
  refine ⟨_, pss_cons (ps_set (i := 3) sc_next_row.nd rfl (Or.inl rfl) (pe_subO (m_Pget T) T.hfiP hr (by decide) (pe_pr (p_Bench_program T) hr (by decide) (pv 0)) (pe_ix ix_tup (pe_pr (p_Bench_hands T) hr (by decide) (pv 0)) (pv 2) (fun _ _ => rfl))))
    (pss_cons (ps_if (pt_cmpR op_eq (pe_ix ix_tup (pe_ix ix_tup (pv 1) pe_int (fun _ _ => rfl)) (pv 2) (fun _ _ => rfl)) (pe_callB (call_lenO (m_Slen T) hr (by decide)) (by rfl) T.free_len PySem.boot_len (pa_cons (pv 3) pa_nil)) (nomark _)) (pss_one (ps_ret pe_non)) pss_nil)
    (pss_one (ps_ret (pe_subO (m_Sget T) T.hfiS hr (by decide) (pv 3) (pe_ix ix_tup (pe_ix ix_tup (pv 1) pe_int (fun _ _ => rfl)) (pv 2) (fun _ _ => rfl)))))), ?_⟩
  refine ⟨_, rfl, a, dx, _, _, rfl, h1, rfl, _, rfl, a, dx, _, _, rfl, h1, rfl, _, rfl, hh, _, _, _, rfl, rfl, SqT.of h3, atI_nat (get_hands eb), pa, pdx, _, rfl, g2, _, B, b, rfl, h2, fun sv2 hS => ?_⟩
  obtain ⟨a', dx', rr, oo, vs', rfl, k2, k3, k4, k5⟩ := SortIs.rr hS
  have hle := ok.le b
  refine ⟨_, rfl, sa, _, 0, _, rfl, rfl, SqT.of t1, rfl, _, rfl, sr, _, _, _, rfl, rfl, SqT.of t2, atI_nat (get_map ep), _, rfl, a', dx', _, rfl, k2, _, _, _, rfl, hS, by omega, _, rfl, by omega, rfl, _, rfl, ?_⟩
  by_cases he : p = (B.rows b).length
  · exact ifT (by simp [he]) (q1 he)
  · refine ifF (by simp; omega) ?_
    have hlt : p < (B.rows b).length := by omega
    refine ⟨_, rfl, _, rfl, sa, _, 0, _, rfl, rfl, SqT.of t1, rfl, _, rfl, sr, _, _, _, rfl, rfl, SqT.of t2, atI_nat (get_map ep), a', dx', _, rfl, k2, _, _, _, p, _, rfl, hS, List.getElem?_eq_getElem hlt, fun v hv => q2 _ v (List.getElem?_eq_getElem hlt) hv⟩
/-! ### at_row -/
def sp_at_row : Sp := fun vs H Q _ => ∃ sv ps m h p, vs = [sv, .int (h : Nat), .int (p : Nat)] ∧ StIs H sv ps m ∧ h < ps.length ∧ ps.length ≤ 900 ∧ ∀ v H', Same H H' → StIs H' v (ps.set h p) m → Q v H'
theorem c_at_row : CalW P w K mg base 2 "at_row" sp_at_row := by
  obtain ⟨fd, F⟩ := T.d_at_row
  refine cal_of F T.glo_at_row (F.binds fun _ _ _ _ _ _ us hl => match us, hl with | [_, _, _], _ => rfl) sc_at_row (fun vs H Q E h => by obtain ⟨sv, ps, m, h, p, rfl, _⟩ := h; rfl) fun cdv A outer s H vs Q E hr h => ?_
  obtain ⟨sv, ps, m, h, p, rfl, hs, hh, hz, hQ⟩ := h
  obtain ⟨sa, sr, sc, so, st, tb, os, rfl, t1, t2, t3, t4, t5, t6, t7, t8⟩ := hs.un
  refine ⟨_, pss_one (ps_ret (pe_tup (pa_cons (pe_w (c_put T) hr (by decide) (by rfl) (pa_cons (pe_ix ix_tup (pv 0) pe_int (fun _ _ => rfl)) (pa_cons (pv 1) (pa_cons (pv 2) pa_nil)))) (pa_cons (pe_ix ix_tup (pv 0) pe_int (fun _ _ => rfl)) (pa_cons (pe_ix ix_tup (pv 0) pe_int (fun _ _ => rfl)) (pa_cons (pe_ix ix_tup (pv 0) pe_int (fun _ _ => rfl)) (pa_cons (pe_ix ix_tup (pv 0) pe_int (fun _ _ => rfl)) pa_nil))))))), ?_⟩
  refine ⟨_, rfl, sa, _, 0, _, rfl, rfl, SqT.of t1, rfl, _, rfl, _, rfl, sr, _, h, _, rfl, t2, by rw [List.length_map]; exact hh, by rw [List.length_map]; omega, fun p1 H1 s1 e1 => ?_⟩
  have u1 := s1 _ _ t1
  refine ⟨_, rfl, sa, _, 1, _, rfl, rfl, SqT.of u1, rfl, _, rfl, sa, _, 2, _, rfl, rfl, SqT.of u1, rfl, _, rfl, sa, _, 3, _, rfl, rfl, SqT.of u1, rfl, _, rfl, sa, _, 4, _, rfl, rfl, SqT.of u1, rfl, by show 5 ≤ sizeLine; decide, fun p2 n2 => ?_⟩
  have s2 : Same H1 (upd H1 p2 (.tup [.ref p1, .ref sc, .ref so, .ref st, tb])) := same_upd n2
  have s02 := s1.trans s2
  refine hQ _ _ s02 ⟨p2, p1, sc, so, st, tb, os, rfl, upd_same, ?_, s02 _ _ t3, s02 _ _ t4, t5, fun x hx => Keep.tupIs (Same.keep s02) (t6 x hx), s02 _ _ t7, Keep.tab (Same.keep s02) t8⟩
  rw [s2 _ _ e1, List.map_set]
/-! ### choices_of -/
def chV (n : Nat) : List V := (List.range n).map fun i : Nat => V.int i
def sp_choices_of (K : PySem.W.Frag) : Sp := fun vs H Q _ => ∃ bv sv B ps m h b p, vs = [bv, sv, .int (h : Nat)] ∧ BenchIs K H bv B ∧ B.Ok ∧ StIs H sv ps m ∧ B.hs[h]? = some b ∧ ps[h]? = some p ∧ p ≤ (B.rows b).length ∧
  ∀ q H', Same H H' → H' q = some (.tup (chV (B.cho h p))) → Q (.ref q) H'
theorem c_choices_of : CalW P w K mg base 6 "choices_of" (sp_choices_of K) := by
  obtain ⟨fd, F⟩ := T.d_choices_of
  refine cal_of F T.glo_choices_of (F.binds fun _ _ _ _ _ _ us hl => match us, hl with | [_, _, _], _ => rfl) sc_choices_of (fun vs H Q E h => by obtain ⟨bv, sv, B, ps, m, h, b, p, rfl, _⟩ := h; rfl) fun cdv A outer s H vs Q E hr h => ?_
  obtain ⟨bv, sv, B, ps, m, h, b, p, rfl, hb, ok, hs, eb, ep, hp, hQ⟩ := h
  refine ⟨_, pss_cons (ps_set (i := 3) sc_choices_of.nd rfl (Or.inl rfl) (pe_w (c_next_row T) hr (by decide) (by rfl) (pa_cons (pv 0) (pa_cons (pv 1) (pa_cons (pv 2) pa_nil)))))
    (pss_cons (ps_if (pt_cmp (pc_isN (pv 3))) (pss_one (ps_ret (pe_tup pa_nil))) pss_nil)
    (pss_cons (ps_if (pt_cmpR op_eq (pe_ix ix_tup (pv 3) pe_int (fun _ _ => rfl)) pe_str (nomark _)) (pss_one (ps_ret (pe_tupRg (by rfl) (by rfl) T.free_tuple (prg_1 (by rfl) T.free_range (pe_op op_sub (pe_callB (r := rLenS K) call_len_seq (by rfl) T.free_len PySem.boot_len (pa_cons (pv 3) pa_nil)) pe_int))))) pss_nil)
    (pss_cons (ps_if (pt_cmpR op_eq (pe_ix ix_tup (pv 3) pe_int (fun _ _ => rfl)) pe_str (nomark _)) (pss_one ps_never) pss_nil)
    (pss_cons (ps_if (PW.pt (pw_and (pt_cmpR op_eq (pe_ix ix_tup (pv 3) pe_int (fun _ _ => rfl)) pe_str (nomark _)) (pw_and1 (pt_cmpR op_eq (pe_pr (p_Bench_book T) hr (by decide) (pv 0)) pe_str (nomark _))))) (pss_one ps_never) pss_nil)
    (pss_one (ps_ret (pe_tup (pa_cons pe_int pa_nil)))))))), ?_⟩
  refine ⟨_, rfl, _, rfl, _, rfl, _, _, B, ps, m, h, b, p, rfl, hb, ok, hs, eb, ep, hp, fun e => ?_, fun r v er hv => ?_⟩
  · refine ⟨_, rfl, _, rfl, ?_⟩
    refine ifT rfl ?_
    refine ⟨by show 0 ≤ sizeLine; decide, fun q nq => hQ q _ (same_upd nq) ?_⟩
    rw [upd_same]
    unfold Bn.cho
    rw [Bn.at_of eb, e, List.getElem?_eq_none (Nat.le_refl _)]; rfl
  · have hc : B.cho h p = r.ways := by unfold Bn.cho; rw [Bn.at_of eb, er]
    rw [hc] at hQ
    obtain ⟨ra, rfl, hra⟩ := id hv
    refine ⟨_, rfl, _, rfl, ?_⟩
    refine ifF rfl ?_
    cases r with
    | rest =>
      refine ⟨_, rfl, ra, _, 0, _, rfl, rfl, SqT.of hra, rfl, rfl, _, rfl, ?_⟩
      refine ifF rfl ?_
      refine ⟨_, rfl, ra, _, 0, _, rfl, rfl, SqT.of hra, rfl, rfl, _, rfl, ?_⟩
      refine ifF rfl ?_
      refine ⟨_, rfl, ra, _, 0, _, rfl, rfl, SqT.of hra, rfl, rfl, _, rfl, ?_⟩
      refine ifF rfl ?_
      refine ifF rfl ?_
      exact ⟨by show 1 ≤ sizeLine; decide, fun q nq => hQ q _ (same_upd nq) upd_same⟩
    | go1 =>
      refine ⟨_, rfl, ra, _, 0, _, rfl, rfl, SqT.of hra, rfl, rfl, _, rfl, ?_⟩
      refine ifT rfl ?_
      exact ⟨_, rfl, ra, _, rfl, .inr (SqT.of hra), _, _, rfl, rfl, _, rfl, RgOk.of_le (by decide) (by show (2 : Int) - 1 ≤ 16777216; decide) (by decide) (by show (0 : Int) ≤ 2 - 1; decide), fun q nq => hQ q _ (same_upd nq) upd_same⟩
    | go2 =>
      refine ⟨_, rfl, ra, _, 0, _, rfl, rfl, SqT.of hra, rfl, rfl, _, rfl, ?_⟩
      refine ifT rfl ?_
      exact ⟨_, rfl, ra, _, rfl, .inr (SqT.of hra), _, _, rfl, rfl, _, rfl, RgOk.of_le (by decide) (by show (3 : Int) - 1 ≤ 16777216; decide) (by decide) (by show (0 : Int) ≤ 3 - 1; decide), fun q nq => hQ q _ (same_upd nq) upd_same⟩
end
end Wv
end WvX_part
section WvY_part
set_option Elab.async false
set_option linter.all false
set_option maxRecDepth 100000
set_option maxHeartbeats 1000000
/-! WvY: a step, all steps, the end. -/
namespace Wv
open PySem L2 PySem.Spec
open PyProof.Rows

/-- what is never asked -/
def tNo : TE := fun _ _ _ => False
def ttNo : TT := fun _ _ _ => False
theorem pe_no {X : Cx} {e : Expr} : PE X e tNo := ⟨fun _ _ _ _ _ _ h => h.elim⟩
theorem pt_no {X : Cx} {e : Expr} : PT X e ttNo := ⟨fun _ _ _ _ _ _ h => h.elim⟩
theorem paired_of {α β : Type} {G : α → β → Prop} : ∀ {vs : List α} {ss : List β}, vs.length = ss.length → (∀ (i : Nat) (v : α), vs[i]? = some v → ∃ s, ss[i]? = some s ∧ G v s) → Paired G vs ss
  | [], [], _, _ => .nil
  | v :: vs, s :: ss, hl, h => by
    obtain ⟨s', e, g⟩ := h 0 v rfl
    cases e
    exact .cons g (paired_of (Nat.succ.inj hl) fun i v e => h (i + 1) v e)
theorem paired_app {α β : Type} {G : α → β → Prop} : ∀ {vs vs' : List α} {ss ss' : List β}, Paired G vs ss → Paired G vs' ss' → Paired G (vs ++ vs') (ss ++ ss')
  | _, _, _, _, .nil, h => h
  | _, _, _, _, .cons g t, h => .cons g (paired_app t h)
def StepIs (H : Hp) (v : V) (s : Nat × Nat) : Prop := TupIs H v [.int s.1, .int s.2]
theorem Keep.step {H H' : Hp} (k : Keep H H') {v : V} {s : Nat × Nat} (h : StepIs H v s) : StepIs H' v s := k.tupIs h
theorem Keep.steps {H H' : Hp} (k : Keep H H') {vs : List V} {ss : List (Nat × Nat)} (h : Paired (StepIs H) vs ss) : Paired (StepIs H') vs ss := L2.Paired.mapP h fun _ _ g => k.step g
/-- what can be done in the places ps by the hands from h on, k of them -/
def stepsAt (B : Bn) (ps : List Nat) (h : Nat) : List (Nat × Nat) := (List.range (B.cho h (ps.getD h 0))).map fun c => (h, c)
def stepsTo (B : Bn) (ps : List Nat) (k : Nat) : List (Nat × Nat) := (List.range k).flatMap (stepsAt B ps)
def stepsOf (B : Bn) (ps : List Nat) : List (Nat × Nat) := stepsTo B ps B.hs.length
theorem stepsTo_succ {B : Bn} {ps : List Nat} {k : Nat} : stepsTo B ps (k + 1) = stepsTo B ps k ++ stepsAt B ps k := by
  unfold stepsTo
  rw [List.range_succ, List.flatMap_append]; simp
theorem cho_le {B : Bn} {h p : Nat} : B.cho h p ≤ 2 := by
  unfold Bn.cho
  cases (B.at_ h)[p]? with
  | none => exact Nat.zero_le _
  | some r => cases r <;> decide
theorem stepsTo_len {B : Bn} {ps : List Nat} : ∀ k, (stepsTo B ps k).length ≤ 2 * k
  | 0 => Nat.le_refl _
  | k + 1 => by
    rw [stepsTo_succ, List.length_append]
    have := stepsTo_len (B := B) (ps := ps) k
    have h2 : (stepsAt B ps k).length ≤ 2 := by unfold stepsAt; rw [List.length_map, List.length_range]; exact cho_le
    omega
/-- where the hands may stand -/
structure PsOk (B : Bn) (ps : List Nat) : Prop where
  len : ps.length = B.hs.length
  le : ∀ (h : Nat) (b : Bool) (p : Nat), B.hs[h]? = some b → ps[h]? = some p → p ≤ (B.rows b).length
section
variable {P : Program} {w : World} {K : PySem.W.Frag} {mg : Str → Option Value} {base : Heap} (T : Top w K mg)
include T
/-! ### simply -/
def sp_simply : Sp := fun vs H Q _ => ∃ bv sv hv rv r t, vs = [bv, sv, hv, rv] ∧ RowIs H rv r t ∧ Q sv H
theorem c_simply : CalW P w K mg base 1 "simply" sp_simply := by
  obtain ⟨fd, F⟩ := T.d_simply
  refine cal_of F T.glo_simply (F.binds fun _ _ _ _ _ _ us hl => match us, hl with | [_, _, _, _], _ => rfl) sc_simply (fun vs H Q E h => by obtain ⟨_, _, _, _, _, _, rfl, _⟩ := h; rfl) fun cdv A outer s H vs Q E hr h => ?_
  obtain ⟨bv, sv, hv, rv, r, t, rfl, hrow, hQ⟩ := h
  refine ⟨_, pss_cons (ps_if (pt_cmpR op_eq (pe_ix ix_tup (pv 3) pe_int (fun _ _ => rfl)) pe_str (nomark _)) (pss_one ps_never) pss_nil)
    (pss_cons (ps_if (pt_cmpR op_eq (pe_ix ix_tup (pv 3) pe_int (fun _ _ => rfl)) pe_str (nomark _)) (pss_one ps_never) pss_nil)
    (pss_cons (ps_if (pt_cmpR op_eq (pe_ix ix_tup (pv 3) pe_int (fun _ _ => rfl)) pe_str (nomark _)) (pss_one ps_never) pss_nil)
    (pss_cons (ps_if (PW.pt (pw_and (pt_cmpR op_eq (pe_ix ix_tup (pv 3) pe_int (fun _ _ => rfl)) pe_str (nomark _)) (pw_and1 pt_no))) (pss_one ps_never) pss_nil)
    (pss_one (ps_ret (pv 1)))))), ?_⟩
  obtain ⟨ra, rfl, hra⟩ := hrow
  have hx : ∃ x xs, r.items t = .str x :: xs ∧ (x = "rest" ∨ x = "go") := by
    cases r
    · exact ⟨_, _, rfl, .inl rfl⟩
    · exact ⟨_, _, rfl, .inr rfl⟩
    · exact ⟨_, _, rfl, .inr rfl⟩
  obtain ⟨x, xs, ex, hx⟩ := hx
  rw [ex] at hra
  have fin : ∀ y : Str, y = "set" ∨ y = "drop" ∨ y = "lock" ∨ y = "unlock" → decide (V.str x = V.str y) = false := fun y hy => by
    refine decide_eq_false fun e => ?_
    have e := V.str.inj e
    subst e
    rcases hx with rfl | rfl <;> revert hy <;> decide
  refine ⟨_, rfl, ra, _, 0, .str x, rfl, rfl, SqT.of hra, atI_nat (j := 0) rfl, rfl, _, rfl, ?_⟩
  refine ifF (fin _ (.inl rfl)) ?_
  refine ⟨_, rfl, ra, _, 0, .str x, rfl, rfl, SqT.of hra, atI_nat (j := 0) rfl, rfl, _, rfl, ?_⟩
  refine ifF (fin _ (.inr (.inl rfl))) ?_
  refine ⟨_, rfl, ra, _, 0, .str x, rfl, rfl, SqT.of hra, atI_nat (j := 0) rfl, rfl, _, rfl, ?_⟩
  refine ifF (fin _ (.inr (.inr (.inl rfl)))) ?_
  refine ⟨_, rfl, ra, _, 0, .str x, rfl, rfl, SqT.of hra, atI_nat (j := 0) rfl, rfl, _, rfl, ?_⟩
  refine ifF (fin _ (.inr (.inr (.inr rfl)))) ?_
  refine ifF rfl ?_
  exact ⟨_, rfl, hQ⟩
/-! ### stepped -/
def sp_stepped (K : PySem.W.Frag) : Sp := fun vs H Q _ => ∃ bv sv B ps m h b p r c, vs = [bv, sv, .int (h : Nat), .int (c : Nat)] ∧ BenchIs K H bv B ∧ B.Ok ∧ StIs H sv ps m ∧ ps.length ≤ 900 ∧ B.hs[h]? = some b ∧ ps[h]? = some p ∧ (B.rows b)[p]? = some r ∧ c < r.ways ∧
  ∀ q av H', Same H H' → H' q = some (.tup [av, .str "done"]) → StIs H' av (ps.set h (p + 1)) m → Q (.ref q) H'
theorem c_stepped : CalW P w K mg base 6 "stepped" (sp_stepped K) := by
  obtain ⟨fd, F⟩ := T.d_stepped
  refine cal_of F T.glo_stepped (F.binds fun _ _ _ _ _ _ us hl => match us, hl with | [_, _, _, _], _ => rfl) sc_stepped (fun vs H Q E h => by obtain ⟨_, _, _, _, _, _, _, _, _, _, rfl, _⟩ := h; rfl) fun cdv A outer s H vs Q E hr h => ?_
  obtain ⟨bv, sv, B, ps, m, h, b, p, r, c, rfl, hb, ok, hs, hz, eb, ep, er, hc, hQ⟩ := h
  refine ⟨_, pss_cons (ps_set (i := 4) sc_stepped.nd rfl (Or.inl rfl) (pe_w (c_next_row T) hr (by decide) (by rfl) (pa_cons (pv 0) (pa_cons (pv 1) (pa_cons (pv 2) pa_nil)))))
    (pss_cons (ps_if (pt_cmpR op_eq (pe_ix ix_tup (pv 4) pe_int (fun _ _ => rfl)) pe_str (nomark _)) (pss_one ps_never)
      (pss_one (ps_if (pt_cmpR op_in_seq (pe_ix ix_tup (pv 4) pe_int (fun _ _ => rfl)) (pe_tup (pa_cons pe_str (pa_cons pe_str (pa_cons pe_str pa_nil)))) (by rfl)) (pss_one ps_never)
        (pss_one (ps_par (i := 5) (j := 6) (by rfl) sc_stepped.nd rfl rfl (by decide) rfl rfl (pa_cons (pe_w (c_simply T) hr (by decide) (by rfl) (pa_cons (pv 0) (pa_cons (pv 1) (pa_cons (pv 2) (pa_cons (pv 4) pa_nil))))) (pa_cons pe_str pa_nil)) (by rfl))))))
    (pss_cons (ps_if (pt_cmpR op_eq (pv 6) pe_str (nomark _)) (pss_one ps_never) pss_nil)
    (pss_one (ps_ret (pe_tup (pa_cons (pe_w (c_at_row T) hr (by decide) (by rfl) (pa_cons (pv 5) (pa_cons (pv 2) (pa_cons (pe_ifExp (pt_cmpR op_eq (pe_ix ix_tup (pv 4) pe_int (fun _ _ => rfl)) pe_str (nomark _)) (pe_ix ix_tup (pv 4) (pe_op op_add pe_int (pv 3)) (fun _ _ => rfl)) (pe_op op_add (pe_ix ix_tup (pe_ix ix_tup (pv 1) pe_int (fun _ _ => rfl)) (pv 2) (fun _ _ => rfl)) pe_int)) pa_nil)))) (pa_cons (pv 6) pa_nil))))))), ?_⟩
  have hlt : p < (B.rows b).length := (List.getElem?_eq_some_iff.mp er).1
  refine ⟨_, rfl, _, rfl, _, rfl, _, _, B, ps, m, h, b, p, rfl, hb, ok, hs, eb, ep, Nat.le_of_lt hlt, fun e => absurd e (Nat.ne_of_lt hlt), fun r' v er' hv => ?_⟩
  obtain rfl : r = r' := Option.some.inj (er.symm.trans er')
  obtain ⟨ra, rfl, hra⟩ := id hv
  obtain ⟨sa, sr, sc, so, st, tb, os, rfl, t1, t2, t3, t4, t5, t6, t7, t8⟩ := hs.un
  have hx : ∃ x xs, r.items (p + 1) = .str x :: xs ∧ (x = "rest" ∨ x = "go") := by
    cases r
    · exact ⟨_, _, rfl, .inl rfl⟩
    · exact ⟨_, _, rfl, .inr rfl⟩
    · exact ⟨_, _, rfl, .inr rfl⟩
  obtain ⟨x, xs, ex, hx⟩ := hx
  have hra' := hra
  rw [ex] at hra'
  refine ⟨_, rfl, ra, _, 0, .str x, rfl, rfl, SqT.of hra', atI_nat (j := 0) rfl, rfl, _, rfl, ?_⟩
  refine ifF (decide_eq_false fun e => by have e := V.str.inj e; subst e; revert hx; decide) ?_
  refine ⟨_, rfl, ra, _, 0, .str x, rfl, rfl, SqT.of hra', atI_nat (j := 0) rfl, by show 3 ≤ sizeLine; decide, fun q1 n1 => ⟨q1, _, rfl, .inr (SqT.of upd_same), rfl, rfl, _, rfl, ?_⟩⟩
  refine ifF (by rcases hx with rfl | rfl <;> decide) ?_
  have s1 := same_upd (o := .tup [V.str "close", V.str "renew", V.str "use"]) n1
  refine ⟨_, rfl, _, rfl, _, rfl, _, rfl, _, _, _, _, r, p + 1, rfl, ⟨ra, rfl, s1 _ _ hra⟩, _, _, rfl, ?_⟩
  refine ⟨_, rfl, rfl, _, rfl, ?_⟩
  refine ifF (by decide) ?_
  have u1 := s1 _ _ t1
  have u2 := s1 _ _ t2
  have ur := s1 _ _ hra
  refine ⟨_, rfl, _, rfl, ?_⟩
  have hh : h < ps.length := (List.getElem?_eq_some_iff.mp ep).1
  cases r with
  | rest =>
    refine ⟨_, rfl, ra, _, 0, _, rfl, rfl, SqT.of ur, rfl, rfl, _, rfl, ?_⟩
    refine ifF (by decide) ?_
    refine ⟨_, rfl, sa, _, 0, _, rfl, rfl, SqT.of u1, rfl, _, rfl, sr, _, _, _, rfl, rfl, SqT.of u2, atI_nat (get_map ep), _, _, rfl, rfl, _, ps, m, h, p + 1, rfl, Keep.st (Same.keep s1) hs, hh, hz, fun v H2 s2 hv2 => ?_⟩
    refine ⟨_, rfl, by show 2 ≤ sizeLine; decide, fun q nq => hQ q v _ (s1.trans (s2.trans (same_upd nq))) upd_same (Keep.st (Same.keep (same_upd nq)) hv2)⟩
  | go1 =>
    obtain rfl : c = 0 := by have : c < 1 := hc; omega
    refine ⟨_, rfl, ra, _, 0, _, rfl, rfl, SqT.of ur, rfl, rfl, _, rfl, ?_⟩
    refine ifT (by decide) ?_
    refine ⟨_, rfl, _, rfl, _, _, rfl, rfl, ra, _, _, _, rfl, rfl, SqT.of ur, atI_nat (j := 1) rfl, _, ps, m, h, p + 1, rfl, Keep.st (Same.keep s1) hs, hh, hz, fun v H2 s2 hv2 => ?_⟩
    refine ⟨_, rfl, by show 2 ≤ sizeLine; decide, fun q nq => hQ q v _ (s1.trans (s2.trans (same_upd nq))) upd_same (Keep.st (Same.keep (same_upd nq)) hv2)⟩
  | go2 =>
    refine ⟨_, rfl, ra, _, 0, _, rfl, rfl, SqT.of ur, rfl, rfl, _, rfl, ?_⟩
    refine ifT (by decide) ?_
    have hj : (Rw.go2.items (p + 1))[1 + c]? = some (V.int ((p + 1 : Nat) : Int)) := by
      have : c < 2 := hc
      rcases c with _ | _ | c
      · rfl
      · rfl
      · omega
    refine ⟨_, rfl, _, rfl, _, _, rfl, rfl, ra, _, _, _, rfl, rfl, SqT.of ur, (by have := atI_nat hj; rw [Int.natCast_add] at this; exact this), _, ps, m, h, p + 1, rfl, Keep.st (Same.keep s1) hs, hh, hz, fun v H2 s2 hv2 => ?_⟩
    refine ⟨_, rfl, by show 2 ≤ sizeLine; decide, fun q nq => hQ q v _ (s1.trans (s2.trans (same_upd nq))) upd_same (Keep.st (Same.keep (same_upd nq)) hv2)⟩
/-! ### all_steps -/
def sp_all_steps (K : PySem.W.Frag) : Sp := fun vs H Q _ => ∃ bv sv B ps m, vs = [bv, sv] ∧ BenchIs K H bv B ∧ B.Ok ∧ StIs H sv ps m ∧ PsOk B ps ∧
  ∀ q xs H', Same H H' → H' q = some (.lst xs) → H q = none → Paired (StepIs H') xs (stepsOf B ps) → Q (.ref q) H'
theorem c_all_steps : CalW P w K mg base 7 "all_steps" (sp_all_steps K) := by
  obtain ⟨fd, F⟩ := T.d_all_steps
  refine cal_of F T.glo_all_steps (F.binds fun _ _ _ _ _ _ us hl => match us, hl with | [_, _], _ => rfl) sc_all_steps (fun vs H Q E h => by obtain ⟨_, _, _, _, _, rfl, _⟩ := h; rfl) fun cdv A outer s H vs Q E hr h => ?_
  obtain ⟨bv, sv, B, ps, m, rfl, hb, ok, hs, hp, hQ⟩ := h
  obtain ⟨a, dx, pv', hh, rfl, h1, h2, h3⟩ := hb.un
  have hn := ok.ah
  refine ⟨_, pss_cons (ps_set (i := 2) sc_all_steps.nd rfl (Or.inl rfl) (pe_lst pa_nil))
    (pss_cons (ps_for PassesOwn.never (by rfl) (pi_range1 (by rfl) T.free_range (pa_cons (pe_callB (r := rLenS K) call_len_seq (by rfl) T.free_len PySem.boot_len (pa_cons (pe_pr (p_Bench_hands T) hr (by decide) (pv 0)) pa_nil)) pa_nil)) (pg_name (i := 3) sc_all_steps.nd rfl (Or.inr rfl))
      (pss_one (ps_expr (pe_bm PySem.F.plainAttrs_list PySem.F.slot_list_extend PySem.F.type_list_extend mt_extend (pv 2) (pa_cons
        (pe_lc (own := [("choice", 4)]) (g := gName 4) (tt := tYes) (by rfl) sc_all_steps.nd (pi_tup (pe_w (c_choices_of T) hr (by decide) (by rfl) (pa_cons (pv 0) (pa_cons (pv 1) (pa_cons (pv 3) pa_nil))))) (blkOk_by (N := n_all_steps) (sc := defScope s_all_steps) (by decide +kernel))
          (fun _ _ _ _ _ => pg_name (i := 4) sc_all_steps.nd rfl (Or.inl rfl)) (fun _ _ _ _ _ => pts_nil) (fun _ _ _ _ _ => pe_tup (pa_cons (pv 3) (pa_cons (pv 4) pa_nil)))) pa_nil)))))
    (pss_one (ps_ret (pv 2)))), ?_⟩
  refine ⟨by show 0 ≤ sizeLine; decide, fun D hD => ?_⟩
  have s1 := same_upd (o := .lst []) hD
  have hlen : (B.hs.map fun b => V.str (nmOf b)).length = B.hs.length := by rw [List.length_map]
  refine ⟨_, rfl, a, dx, _, _, rfl, s1 _ _ h1, rfl, hh, _, rfl, .inr (SqT.of (s1 _ _ h3)), _, rfl, by omega, by omega, ?_⟩
  refine for_range (lo := 0) (n := _) (fun i σ H' => ∃ xs o1 o2, σ = [some (.ref a), some sv, some (.ref D), o1, o2] ∧ Same H H' ∧ H' D = some (.lst xs) ∧ Paired (StepIs H') xs (stepsTo B ps i)) ⟨[], _, _, rfl, s1, upd_same, .nil⟩ (fun i σ H' hi p => ?_) (fun σ H' p => ?_)
  · obtain ⟨xs, o1, o2, rfl, sH, hD', hP⟩ := p
    have hi' : i < B.hs.length := by have : i < ((B.hs.map fun b => V.str (nmOf b)).length : Int).toNat := hi; omega
    obtain ⟨b, eb⟩ : ∃ b, B.hs[i]? = some b := ⟨_, List.getElem?_eq_getElem hi'⟩
    obtain ⟨p, ep⟩ : ∃ p, ps[i]? = some p := ⟨_, List.getElem?_eq_getElem (by rw [hp.len]; exact hi')⟩
    refine ⟨_, rfl, .inl ⟨rfl, _, SqL.of hD'⟩, _, rfl, _, rfl, _, rfl, _, _, B, ps, m, i, b, p, (by rw [Int.zero_add]; rfl), Keep.bench (Same.keep sH) hb, ok, Keep.st (Same.keep sH) hs, eb, ep, hp.le i _ _ eb ep, fun q H2 s2 hq => ?_⟩
    have hcl : (chV (B.cho i p)).length = B.cho i p := by unfold chV; rw [List.length_map, List.length_range]
    have hc2 := cho_le (B := B) (h := i) (p := p)
    have hst : stepsAt B ps i = (List.range (B.cho i p)).map fun c => (i, c) := by unfold stepsAt; rw [List.getD_eq_getElem?_getD, ep]; rfl
    refine ⟨q, rfl, ⟨_, SqT.of hq⟩, fun D2 hD2 => lc_same (fun j y H => StepIs H y (i, j)) hD2 (fun j y H H' k h => k.step h) (by rw [hcl]; exact smlt (by omega)) (walks_tup (SqT.of hq)) (fun j x H3 hx s3 C hC => ?_) fun H3 acc s3 hacc hl hR => ?_⟩
    · have hj : x = .int (j : Nat) := by
        unfold chV at hx
        rw [List.getElem?_map] at hx
        obtain ⟨k, hk, rfl⟩ := Option.map_eq_some_iff.mp hx
        have := (List.getElem?_eq_some_iff.mp hk).2
        rw [List.getElem_range] at this
        rw [this]
      subst hj
      refine ⟨rfl, _, rfl, _, rfl, by show 2 ≤ sizeLine; decide, fun p np => hC _ _ (same_upd np) ⟨p, rfl, ?_⟩⟩
      rw [upd_same, Int.zero_add]
    · have hD3 := s3 _ _ (s2 _ _ hD')
      have k3 : Keep H' (upd H3 D (.lst (xs ++ acc))) := Keep.trans (Same.keep (s2.trans s3)) (keep_upd hD3)
      have hxl : xs.length ≤ 2 * i := by have := hP.length; have := stepsTo_len (B := B) (ps := ps) i; omega
      refine ⟨D, D2, xs, acc, rfl, rfl, hD3, hacc, sm (m := 1000) (by omega) (Nat.le_refl _), xs ++ acc, _, _, rfl, fun b u e => ?_, upd_same, ?_⟩
      · rw [upd_ne (ne_of_none e hD)]
        exact s3 _ _ (s2 _ _ (sH _ _ e))
      · rw [stepsTo_succ]
        refine paired_app (k3.steps hP) (paired_of (by rw [hl, hcl, hst, List.length_map, List.length_range]) fun j v e => ?_)
        have hlt : j < B.cho i p := by have := (List.getElem?_eq_some_iff.mp e).1; omega
        refine ⟨(i, j), ?_, Keep.step (keep_upd hD3) (hR j v e)⟩
        rw [hst, List.getElem?_map, List.getElem?_range hlt]; rfl
  · obtain ⟨xs, o1, o2, rfl, sH, hD', hP⟩ := p
    have e : ((B.hs.map fun b => V.str (nmOf b)).length : Int).toNat = B.hs.length := by omega
    rw [e] at hP
    exact ⟨_, rfl, hQ D xs H' sH hD' hD hP⟩
/-! ### has_ended -/
def endOf (B : Bn) (ps : List Nat) : Bool := (List.range B.hs.length).all fun h => decide (ps[h]? = some (B.at_ h).length)
def sp_has_ended (K : PySem.W.Frag) : Sp := fun vs H Q _ => ∃ bv sv B ps m, vs = [bv, sv] ∧ BenchIs K H bv B ∧ B.Ok ∧ StIs H sv ps m ∧ PsOk B ps ∧ ∀ H', Same H H' → Q (.bl (endOf B ps)) H'
theorem c_has_ended : CalW P w K mg base 6 "has_ended" (sp_has_ended K) := by
  obtain ⟨fd, F⟩ := T.d_has_ended
  refine cal_of F T.glo_has_ended (F.binds fun _ _ _ _ _ _ us hl => match us, hl with | [_, _], _ => rfl) sc_has_ended (fun vs H Q E h => by obtain ⟨_, _, _, _, _, rfl, _⟩ := h; rfl) fun cdv A outer s H vs Q E hr h => ?_
  obtain ⟨bv, sv, B, ps, m, rfl, hb, ok, hs, hp, hQ⟩ := h
  obtain ⟨a, dx, pv', hh, rfl, h1, h2, h3⟩ := hb.un
  have hn := ok.ah
  refine ⟨_, pss_one (ps_ret (pe_callB (r := rAll K) (cr_all (by rfl)) (by rfl) T.free_all (by decide +kernel) (pa_cons (pe_lc (own := [("hand", 2)]) (g := gName 2) (tt := tYes) (by rfl) sc_has_ended.nd
    (pi_range1 (by rfl) T.free_range (pa_cons (pe_callB (r := rLenS K) call_len_seq (by rfl) T.free_len PySem.boot_len (pa_cons (pe_pr (p_Bench_hands T) hr (by decide) (pv 0)) pa_nil)) pa_nil)) (blkOk_by (N := n_has_ended) (sc := defScope s_has_ended) (by decide +kernel))
    (fun _ _ _ _ _ => pg_name (i := 2) sc_has_ended.nd rfl (Or.inl rfl)) (fun _ _ _ _ _ => pts_nil) (fun _ _ _ _ _ => pe_cmp (pc_isN (pe_w (c_next_row T) hr (by decide) (by rfl) (pa_cons (pv 0) (pa_cons (pv 1) (pa_cons (pv 2) pa_nil))))))) pa_nil))), ?_⟩
  have hlen : (B.hs.map fun b => V.str (nmOf b)).length = B.hs.length := by rw [List.length_map]
  have hto : ((B.hs.map fun b => V.str (nmOf b)).length : Int).toNat = B.hs.length := by omega
  refine ⟨_, rfl, a, dx, _, _, rfl, h1, rfl, hh, _, rfl, .inr (SqT.of h3), _, rfl, by omega, by omega, fun D hD => ?_⟩
  rw [hto]
  refine lc_same (fun i y H => y = .bl (decide (ps[i]? = some (B.at_ i).length))) hD (fun i y H H' k h => h) (by rw [List.length_map, List.length_range]; exact smlt (by omega)) walks_range (fun i x H' hx s1 C hC => ?_) fun H' acc s1 hacc hl hR => ?_
  · rw [List.getElem?_map] at hx
    obtain ⟨j, hj, rfl⟩ := Option.map_eq_some_iff.mp hx
    obtain ⟨hlt, hj⟩ := List.getElem?_eq_some_iff.mp hj
    rw [List.getElem_range] at hj
    subst hj
    rw [List.length_range] at hlt
    obtain ⟨b, eb⟩ : ∃ b, B.hs[i]? = some b := ⟨_, List.getElem?_eq_getElem hlt⟩
    obtain ⟨p, ep⟩ : ∃ p, ps[i]? = some p := ⟨_, List.getElem?_eq_getElem (by rw [hp.len]; exact hlt)⟩
    refine ⟨rfl, _, rfl, _, rfl, _, rfl, _, _, B, ps, m, i, b, p, (by rw [Int.zero_add]; rfl), Keep.bench (Same.keep s1) hb, ok, Keep.st (Same.keep s1) hs, eb, ep, hp.le i _ _ eb ep, fun e => ?_, fun r v er hv => ?_⟩
    · refine hC _ _ (Same.refl _) ?_
      rw [ep, Bn.at_of eb, e]; simp
    · refine hC _ _ (Same.refl _) ?_
      obtain ⟨ra, rfl, _⟩ := hv
      have := (List.getElem?_eq_some_iff.mp er).1
      rw [ep, Bn.at_of eb, decide_eq_false (by intro z; cases z), decide_eq_false (by intro z; have := Option.some.inj z; omega)]
  · rw [List.length_map, List.length_range] at hl
    refine ⟨D, (List.range B.hs.length).map fun i => decide (ps[i]? = some (B.at_ i).length), rfl, SqL.of ?_, ?_⟩
    · rw [hacc]
      congr 2
      refine List.ext_getElem? fun i => ?_
      by_cases hi : i < B.hs.length
      · have e := List.getElem?_eq_getElem (l := acc) (i := i) (by omega)
        rw [e, hR i _ e, List.map_map, List.getElem?_map, List.getElem?_range hi]; rfl
      · rw [List.getElem?_eq_none (by omega), List.getElem?_eq_none (by rw [List.length_map, List.length_map, List.length_range]; omega)]
    · have e : ((List.range B.hs.length).map fun i => decide (ps[i]? = some (B.at_ i).length)).all id = endOf B ps := by
        unfold endOf; rw [List.all_map]; rfl
      rw [e]
      exact hQ H' s1
end
end Wv
end WvY_part
section WvZ_part
set_option Elab.async false
set_option linter.all false
set_option maxRecDepth 100000
set_option maxHeartbeats 1000000
/-! WvZ: plain. -/
namespace Wv
open PySem L2 PySem.Spec
open PyProof.Rows

section
variable {P : Program} {w : World} {K : PySem.W.Frag} {mg : Str → Option Value} {base : Heap} (T : Top w K mg)
include T
def sp_plain (K : PySem.W.Frag) : Sp := fun vs H Q _ => ∃ bv sv B ps m, vs = [bv, sv] ∧ BenchIs K H bv B ∧ StIs H sv ps m ∧ m ≤ 900 ∧ ∀ v H', Same H H' → StIs H' v ps m → Q v H'
theorem c_plain : CalW P w K mg base 3 "plain" (sp_plain K) := by
  obtain ⟨fd, F⟩ := T.d_plain
  refine cal_of F T.glo_plain (F.binds fun _ _ _ _ _ _ us hl => match us, hl with | [_, _], _ => rfl) sc_plain (fun vs H Q E h => by obtain ⟨_, _, _, _, _, rfl, _⟩ := h; rfl) fun cdv A outer s H vs Q E hr h => ?_
  obtain ⟨bv, sv, B, ps, m, rfl, hb, hs, hm, hQ⟩ := h
  obtain ⟨a, dx, pv', hh, rfl, h1, h2, h3⟩ := hb.un
  obtain ⟨sa, sr, sc, so, st, tb, os, rfl, t1, t2, t3, t4, t5, t6, t7, t8⟩ := hs.un
  obtain ⟨ta, te, tc, tf, rfl, b1, b2, b3, b4⟩ := id t8
  have nd := sc_plain.nd
  refine ⟨_, pss_cons (ps_asg (pv 1) (pg_tup (by rfl) (pgs_cons (pg_name (i := 2) nd rfl (Or.inl rfl)) (pgs_cons (pg_name (i := 3) nd rfl (Or.inl rfl)) (pgs_cons (pg_name (i := 4) nd rfl (Or.inl rfl)) (pgs_cons (pg_name (i := 5) nd rfl (Or.inl rfl)) (pgs_cons (pg_name (i := 6) nd rfl (Or.inl rfl)) pgs_nil)))))))
    (pss_cons (ps_set (i := 7) nd rfl (Or.inr rfl) pe_dnewK)
    (pss_cons (ps_for PassesOwn.never (by rfl) (pi_tup (pe_ix ix_tup (pv 6) pe_int (fun _ _ => rfl))) (pg_name (i := 8) nd rfl (Or.inl rfl)) (pss_one (ps_if (pt_cmp (pc_notN (pv 8))) (pss_one ps_never) pss_nil)))
    (pss_cons (ps_for PassesOwn.never (by rfl) (pi_tup (pe_op op_catB (pv 3) (pe_tupleOf (by rfl) T.free_tuple (pe_lc2 (own := [("own", 14), ("one", 15)]) (vs1 := [15]) (g := gName 14) (g1 := gName 15) (tt := tYes) (tt1 := tYes) (wi1 := iTup K (tVar 14)) (by rfl) nd (pi_tup (pv 4)) (blkOk_by (N := n_plain) (sc := defScope s_plain) (by decide +kernel)) (by decide)
        (fun _ _ _ _ _ => pg_name (i := 14) nd rfl (Or.inl rfl)) (fun _ _ _ _ _ => pts_nil) (fun _ _ _ _ _ => pi_tup (pv 14)) (fun _ _ _ _ _ => pg_name (i := 15) nd rfl (Or.inl rfl)) (fun _ _ _ _ _ => pts_nil) (fun _ _ _ _ _ => pv 15))))) (pg_name (i := 9) nd rfl (Or.inl rfl)) (pss_one ps_never))
    (pss_cons (ps_set (i := 10) nd rfl (Or.inl rfl) (pe_tupleOf (by rfl) T.free_tuple (pe_lc (own := [("entry", 8)]) (g := gName 8) (tt := tYes) (by rfl) nd (pi_tup (pe_ix ix_tup (pv 6) pe_int (fun _ _ => rfl))) (blkOk_by (N := n_plain) (sc := defScope s_plain) (by decide +kernel))
        (fun _ _ _ _ _ => pg_name (i := 8) nd rfl (Or.inl rfl)) (fun _ _ _ _ _ => pts_nil) (fun _ _ _ _ _ => pe_ifExp (pt_cmp (pc_isN (pv 8))) pe_non pe_no))))
    (pss_cons (ps_set (i := 11) nd rfl (Or.inl rfl) (pe_tupleOf (by rfl) T.free_tuple (pe_lc (own := [("count", 16)]) (g := gName 16) (tt := tYes) (by rfl) nd (pi_tup (pe_ix ix_tup (pv 6) pe_int (fun _ _ => rfl))) (blkOk_by (N := n_plain) (sc := defScope s_plain) (by decide +kernel))
        (fun _ _ _ _ _ => pg_name (i := 16) nd rfl (Or.inl rfl)) (fun _ _ _ _ _ => pts_nil) (fun _ _ _ _ _ => pe_op op_modN (pv 16) (pe_pr (p_Bench_turns T) hr (by decide) (pv 0))))))
    (pss_cons (ps_set (i := 3) nd rfl (Or.inl rfl) (pe_tupleOf (by rfl) T.free_tuple (pe_lc (own := [("handle", 9)]) (g := gName 9) (tt := tYes) (by rfl) nd (pi_tup (pv 3)) (blkOk_by (N := n_plain) (sc := defScope s_plain) (by decide +kernel))
        (fun _ _ _ _ _ => pg_name (i := 9) nd rfl (Or.inl rfl)) (fun _ _ _ _ _ => pts_nil) (fun _ _ _ _ _ => pe_no))))
    (pss_cons (ps_set (i := 4) nd rfl (Or.inl rfl) (pe_tupleOf (by rfl) T.free_tuple (pe_lc (own := [("own", 14)]) (g := gName 14) (tt := tYes) (te := tThen (tLc (iTup K (tVar 14)) (gName 9) tYes tNo [9]) (kTup K)) (by rfl) nd (pi_tup (pv 4)) (blkOk_by (N := n_plain) (sc := defScope s_plain) (by decide +kernel))
        (fun _ _ _ _ _ => pg_name (i := 14) nd rfl (Or.inl rfl)) (fun _ _ _ _ _ => pts_nil) (fun _ _ _ _ _ => pe_tupleOf (by rfl) T.free_tuple (pe_lc (own := [("handle", 9)]) (g := gName 9) (tt := tYes) (wi := iTup K (tVar 14)) (by rfl) nd (pi_tup (pv 14)) (blkOk_by (N := n_plain) (by rfl))
          (fun _ _ _ _ _ => pg_name (i := 9) nd rfl (Or.inl rfl)) (fun _ _ _ _ _ => pts_nil) (fun _ _ _ _ _ => pe_no))))))
    (pss_cons (ps_set (i := 12) nd rfl (Or.inl rfl) (pe_ifExp (pt_cmpR op_eq (pe_pr (p_Bench_book T) hr (by decide) (pv 0)) pe_str (nomark _)) pe_no pe_int))
    (pss_cons (ps_set (i := 13) nd rfl (Or.inl rfl) (pe_ifExp (pt_cmpR op_eq (pe_pr (p_Bench_book T) hr (by decide) (pv 0)) pe_str (nomark _)) pe_no (pe_tup pa_nil)))
    (pss_one (ps_ret (pe_tup (pa_cons (pv 2) (pa_cons (pv 3) (pa_cons (pv 4) (pa_cons (pv 5) (pa_cons (pe_tup (pa_cons (pv 10) (pa_cons (pv 11) (pa_cons (pv 12) (pa_cons (pv 13) (pa_cons (pe_callB call_lenD (by rfl) T.free_len PySem.boot_len (pa_cons (pv 7) pa_nil)) pa_nil)))))) pa_nil))))))))))))))))), ?_⟩
  refine ⟨_, rfl, sa, _, rfl, SqT.of t1, rfl, _, _, rfl, _, _, rfl, _, _, rfl, _, _, rfl, _, _, rfl, rfl, fun d nd' => ?_⟩
  obtain ⟨H1, eH1⟩ : ∃ H1, H1 = upd H d (.dK []) := ⟨_, rfl⟩
  have s01 : Same H H1 := by rw [eH1]; exact same_upd nd'
  have hd1 : H1 d = some (.dK []) := by rw [eH1]; exact upd_same
  rw [← eH1]
  refine ⟨_, rfl, ta, _, 0, _, rfl, rfl, SqT.of (s01 _ _ b1), rfl, te, rfl, ⟨_, SqT.of (s01 _ _ b2)⟩, ?_⟩
  refine for_tup (xs := [.non]) (fun i σ H' => H1 = H' ∧ ∃ o8, σ = [some (.ref a), some (.ref sa), some (.ref sr), some (.ref sc), some (.ref so), some (.ref st), some (.ref ta), some (.ref d), o8, none, none, none, none, none, none, none, none]) ⟨rfl, _, rfl⟩ (fun i σ H' _ p => by rw [← p.1]; exact SqT.of (s01 _ _ b2)) (fun i x σ H' hx p => ?_) (fun σ H' p => ?_)
  · obtain ⟨rfl, o8, rfl⟩ := p
    have hx : x = .non := by
      rcases i with _ | i
      · cases hx; rfl
      · simp at hx
    subst hx
    refine ⟨_, rfl, _, rfl, ?_⟩
    exact ifF (by decide) ⟨rfl, _, rfl⟩
  obtain ⟨rfl, o8, rfl⟩ := p
  -- common + tuple([one for own in owns for one in own])
  refine ⟨_, rfl, _, rfl, so, rfl, ⟨_, SqT.of (s01 _ _ t4)⟩, fun D hD => ?_⟩
  have hso := s01 _ _ t4
  refine ⟨fun i k H' => k = os.length - i ∧ i ≤ os.length ∧ Same H1 H' ∧ H' D = some (.lst []), ⟨_, rfl, Nat.zero_le _, same_upd hD, upd_same⟩, ?_⟩
  rintro i k H2 ⟨rfl, hi, s12, hD2⟩
  by_cases hlt : i < os.length
  · refine .inr ⟨⟨os, os[i], SqT.of (s12 _ _ hso), List.getElem?_eq_getElem hlt⟩, fun H' => Same H1 H' ∧ H' D = some (.lst []), fun H' h => ⟨_, Nat.lt_of_le_of_lt (Nat.le_refl (os.length - (i + 1))) (by omega), rfl, hlt, h⟩, fun x H' y => ?_⟩
    obtain ⟨rfl, y⟩ := y
    have hx := y os (SqT.of (s12 _ _ hso))
    obtain ⟨xa, rfl, hxa⟩ := t6 x (List.mem_of_getElem? hx)
    have hxa' := s12 _ _ (s01 _ _ hxa)
    refine ⟨rfl, ?_⟩
    dsimp only [tYes]
    rw [if_pos rfl]
    refine ⟨_, rfl, xa, rfl, ⟨_, SqT.of hxa'⟩, fun _ _ X => X = H', ⟨0, rfl⟩, ?_⟩
    rintro j k H3 rfl
    exact .inl ⟨⟨[], SqT.of hxa', Nat.zero_le _⟩, s12, hD2⟩
  refine .inl ⟨⟨os, SqT.of (s12 _ _ hso), by omega⟩, .inl ⟨D, [], rfl, SqL.of hD2, fun q1 nq1 => ?_⟩⟩
  have s2 : Same H1 (upd H2 q1 (.tup [])) := s12.trans (same_upd nq1)
  refine ⟨sc, q1, [], [], rfl, rfl, s2 _ _ (s01 _ _ t3), upd_same, by show 0 ≤ sizeLine; decide, fun p3 H3 s3 e3 => ⟨p3, rfl, ⟨_, SqT.of e3⟩, ?_⟩⟩
  have s13 := s2.trans s3
  clear hD2 s12 nq1 hlt hi
  refine for_tup (xs := []) (fun i σ H' => H3 = H' ∧ σ = [some (.ref a), some (.ref sa), some (.ref sr), some (.ref sc), some (.ref so), some (.ref st), some (.ref ta), some (.ref d), o8, none, none, none, none, none, none, none, none]) ⟨rfl, rfl⟩ (fun i σ H' _ p => by rw [← p.1]; exact SqT.of e3) (fun i x σ H' hx p => by simp at hx) (fun σ H' p => ?_)
  obtain ⟨rfl, rfl⟩ := p
  -- entries
  have v1 := s13 _ _ (s01 _ _ b1)
  have v2 := s13 _ _ (s01 _ _ b2)
  refine ⟨_, rfl, ta, _, 0, _, rfl, rfl, SqT.of v1, rfl, te, rfl, ⟨_, SqT.of v2⟩, fun D2 hD2 => lc_same (fun i y H => y = .non) hD2 (fun i y H H' k h => h) (by show 1 < sizeLine; decide) (walks_tup (SqT.of v2)) (fun i x H' hx sx C hC => ?_) fun H4 acc s4 hacc hl hR => ?_⟩
  · have hx : x = .non := by
      rcases i with _ | i
      · cases hx; rfl
      · simp at hx
    subst hx
    refine ⟨rfl, _, rfl, _, rfl, ?_⟩
    exact ifT (by decide) (hC _ _ (Same.refl _) rfl)
  have hacc' : acc = [.non] := by
    match acc, hl with
    | [y], _ => rw [hR 0 y rfl]
  subst hacc'
  refine .inl ⟨D2, _, rfl, SqL.of hacc, fun qe nqe => ?_⟩
  obtain ⟨H5, eH5⟩ : ∃ H5, H5 = upd H4 qe (.tup [.non]) := ⟨_, rfl⟩
  have s45 : Same H4 H5 := by rw [eH5]; exact same_upd nqe
  have hqe : H5 qe = some (.tup [.non]) := by rw [eH5]; exact upd_same
  rw [← eH5]
  have s05 : Same H H5 := s01.trans (s13.trans (s4.trans s45))
  -- counts
  have w1 := s05 _ _ b1
  have w3 := s05 _ _ b3
  refine ⟨_, rfl, ta, _, 1, _, rfl, rfl, SqT.of w1, rfl, tc, rfl, ⟨_, SqT.of w3⟩, fun D3 hD3 => lc_same (fun i y H => y = .int 0) hD3 (fun i y H H' k h => h) (by show 1 < sizeLine; decide) (walks_tup (SqT.of w3)) (fun i x H' hx sx C hC => ?_) fun H6 acc s6 hacc6 hl hR => ?_⟩
  · have hx : x = .int 0 := by
      rcases i with _ | i
      · cases hx; rfl
      · simp at hx
    subst hx
    exact ⟨rfl, _, rfl, _, rfl, a, dx, _, _, rfl, sx _ _ (s05 _ _ h1), rfl, _, _, rfl, rfl, by decide, hC _ _ (Same.refl _) rfl⟩
  have hacc' : acc = [.int 0] := by
    match acc, hl with
    | [y], _ => rw [hR 0 y rfl]
  subst hacc'
  refine .inl ⟨D3, _, rfl, SqL.of hacc6, fun qc nqc => ?_⟩
  obtain ⟨H7, eH7⟩ : ∃ H7, H7 = upd H6 qc (.tup [.int 0]) := ⟨_, rfl⟩
  have s67 : Same H6 H7 := by rw [eH7]; exact same_upd nqc
  have hqc : H7 qc = some (.tup [.int 0]) := by rw [eH7]; exact upd_same
  rw [← eH7]
  have s57 : Same H5 H7 := s6.trans s67
  -- common
  have x3 := s57 _ _ (s05 _ _ t3)
  refine ⟨_, rfl, sc, rfl, ⟨_, SqT.of x3⟩, fun D4 hD4 => lc_same (fun i y H => True) hD4 (fun i y H H' k h => h) (by show 0 < sizeLine; decide) (walks_tup (SqT.of x3)) (fun i x H' hx sx C hC => by simp at hx) fun H8 acc s8 hacc8 hl hR => ?_⟩
  have hacc' : acc = [] := List.eq_nil_of_length_eq_zero hl
  subst hacc'
  refine .inl ⟨D4, _, rfl, SqL.of hacc8, fun qm nqm => ?_⟩
  obtain ⟨H9, eH9⟩ : ∃ H9, H9 = upd H8 qm (.tup []) := ⟨_, rfl⟩
  have s89 : Same H8 H9 := by rw [eH9]; exact same_upd nqm
  have hqm : H9 qm = some (.tup []) := by rw [eH9]; exact upd_same
  rw [← eH9]
  have s79 : Same H7 H9 := s8.trans s89
  have s09 : Same H H9 := s05.trans (s57.trans s79)
  -- owns
  have y4 := s09 _ _ t4
  refine ⟨_, rfl, so, rfl, ⟨_, SqT.of y4⟩, fun D5 hD5 => lc_same (fun i y H => TupIs H y []) hD5 (fun i y H H' k h => k.tupIs h) (by rw [t5]; exact smlt hm) (walks_tup (SqT.of y4)) (fun i x H' hx sx C hC => ?_) fun H10 acc s10 hacc10 hl hR => ?_⟩
  · obtain ⟨xa, rfl, hxa⟩ := t6 x (List.mem_of_getElem? hx)
    have hxa' := sx _ _ (s09 _ _ hxa)
    refine ⟨rfl, _, rfl, xa, rfl, ⟨_, SqT.of hxa'⟩, fun D6 hD6 => lc_same (fun i y H => True) hD6 (fun i y H H' k h => h) (by show 0 < sizeLine; decide) (walks_tup (SqT.of hxa')) (fun i x H' hx sx C hC => by simp at hx) fun H11 acc2 s11 hacc11 hl2 _ => ?_⟩
    have hacc' : acc2 = [] := List.eq_nil_of_length_eq_zero hl2
    subst hacc'
    exact .inl ⟨D6, _, rfl, SqL.of hacc11, fun q nq => hC _ _ (s11.trans (same_upd nq)) ⟨q, rfl, upd_same⟩⟩
  refine .inl ⟨D5, _, rfl, SqL.of hacc10, fun qo nqo => ?_⟩
  obtain ⟨H12, eH12⟩ : ∃ H12, H12 = upd H10 qo (.tup acc) := ⟨_, rfl⟩
  have s1012 : Same H10 H12 := by rw [eH12]; exact same_upd nqo
  have hqo : H12 qo = some (.tup acc) := by rw [eH12]; exact upd_same
  rw [← eH12]
  have s912 : Same H9 H12 := s10.trans s1012
  have s012 : Same H H12 := s09.trans s912
  -- latest, freed
  refine ⟨_, rfl, a, dx, _, _, rfl, s012 _ _ h1, rfl, rfl, _, rfl, ?_⟩
  refine ifF (by decide) ?_
  refine ⟨_, rfl, a, dx, _, _, rfl, s012 _ _ h1, rfl, rfl, _, rfl, ?_⟩
  refine ifF (by decide) ?_
  refine ⟨by show 0 ≤ sizeLine; decide, fun qf nqf => ?_⟩
  obtain ⟨H13, eH13⟩ : ∃ H13, H13 = upd H12 qf (.tup []) := ⟨_, rfl⟩
  have s1213 : Same H12 H13 := by rw [eH13]; exact same_upd nqf
  have hqf : H13 qf = some (.tup []) := by rw [eH13]; exact upd_same
  rw [← eH13]
  have s113 : Same H1 H13 := s13.trans (s4.trans (s45.trans (s57.trans (s79.trans (s912.trans s1213)))))
  refine ⟨_, rfl, _, rfl, _, rfl, _, rfl, _, rfl, _, rfl, _, rfl, _, rfl, _, rfl, d, [], rfl, s113 _ _ hd1, by show 5 ≤ sizeLine; decide, fun qt nqt => ⟨by show 5 ≤ sizeLine; decide, fun qs nqs => ?_⟩⟩
  have s14 := same_upd (o := .tup [.ref qe, .ref qc, .int 0, .ref qf, .int (([] : List (Key × V)).length : Nat)]) nqt
  have s15 := same_upd (o := .tup [.ref sr, .ref qm, .ref qo, .ref st, .ref qt]) nqs
  have s1315 := s14.trans s15
  have s015 := s01.trans (s113.trans s1315)
  have s1215 := s1213.trans s1315
  refine hQ _ _ s015 ⟨qs, sr, qm, qo, st, .ref qt, acc, rfl, upd_same, s015 _ _ t2, s1215 _ _ (s912 _ _ hqm), s1215 _ _ hqo, by rw [hl, t5], fun x hx => ?_, s015 _ _ t7, qt, qe, qc, qf, rfl, ?_, ?_, ?_, s1315 _ _ hqf⟩
  · obtain ⟨i, hi⟩ := List.mem_iff_getElem?.mp hx
    exact Keep.tupIs (Same.keep (s1012.trans s1215)) (hR i x hi)
  · rw [s15 _ _ upd_same]; rfl
  · exact s1215 _ _ (s912 _ _ (s79 _ _ (s57 _ _ hqe)))
  · exact s1215 _ _ (s912 _ _ (s79 _ _ hqc))
end
end Wv
end WvZ_part
section WwA_part
set_option Elab.async false
set_option linter.all false
set_option maxRecDepth 100000
set_option maxHeartbeats 1000000
/-! WwA: names and rows. -/
namespace Wv
open PySem L2 PySem.Spec
open PyProof.Rows

theorem all_bl {acc : List V} {n : Nat} (hl : acc.length = n) (h : ∀ (i : Nat) (y : V), acc[i]? = some y → y = .bl true) : acc = (List.replicate n true).map V.bl ∧ (List.replicate n true).all id = true := by
  refine ⟨List.ext_getElem? fun i => ?_, by simp⟩
  by_cases hi : i < n
  · have e := List.getElem?_eq_getElem (l := acc) (i := i) (by omega)
    rw [e, h i _ e, List.getElem?_map, List.getElem?_replicate, if_pos hi]; rfl
  · rw [List.getElem?_eq_none (by omega), List.getElem?_eq_none (by rw [List.length_map, List.length_replicate]; omega)]
theorem nm_len (b : Bool) : 1 ≤ (nmOf b).length ∧ (nmOf b).length ≤ 8 := by cases b <;> decide
theorem nm_signs (b : Bool) : ∀ c ∈ (nmOf b).cps.toList, c ∈ ("abcdefghijklmnopqrstuvwxyz" : Str).cps.toList := by cases b <;> decide
theorem bs_all : bootBuiltins "all" = some (.builtin "all") := by decide +kernel
section
variable {P : Program} {w : World} {K : PySem.W.Frag} {mg : Str → Option Value} {base : Heap} (T : Top w K mg)
include T
def sp_is_name : Sp := fun vs H Q _ => ∃ b, vs = [.str (nmOf b)] ∧ ∀ H', Same H H' → Q (.bl true) H'
theorem c_is_name : CalW P w K mg base 1 "is_name" sp_is_name := by
  obtain ⟨fd, F⟩ := T.d_is_name
  refine cal_of F T.glo_is_name (F.binds fun _ _ _ _ _ _ us hl => match us, hl with | [_], _ => rfl) sc_is_name (fun vs H Q E h => by obtain ⟨_, rfl, _⟩ := h; rfl) fun cdv A outer s H vs Q E hr h => ?_
  obtain ⟨b, rfl, hQ⟩ := h
  obtain ⟨t8, h8⟩ := T.int_MOST_LETTERS
  obtain ⟨tL, hL⟩ := T.str_LETTERS
  refine ⟨_, pss_cons (ps_if (PW.pt (pw_or (pt_not (pt_val (pe_callB (r := rIsi K) call_isi (by rfl) T.free_isinstance bs_isi (pa_cons (pv 0) (pa_cons (pe_bltn (v := .ty "str") (by rfl) T.free_str bs_str rfl) pa_nil)))))
      (pw_or1 (pt_not (pt_chain op_le op_le pe_int (pe_callB call_len_str (by rfl) T.free_len PySem.boot_len (pa_cons (pv 0) pa_nil)) (pe_glob (v := .int 8) (by rfl) h8 ⟨_, rfl⟩)))))) (pss_one ps_never) pss_nil)
    (pss_one (ps_ret (pe_callB (r := rAll K) (cr_all (by rfl)) (by rfl) T.free_all bs_all (pa_cons (pe_lc (own := [("sign", 1)]) (g := gName 1) (tt := tYes) (by rfl) sc_is_name.nd (pi_str (pv 0)) (blkOk_by (N := n_is_name) (sc := defScope s_is_name) (by decide +kernel))
      (fun _ _ _ _ _ => pg_name (i := 1) sc_is_name.nd rfl (Or.inl rfl)) (fun _ _ _ _ _ => pts_nil) (fun _ _ _ _ _ => pe_cmpR op_in_sign (pv 1) (pe_glob (v := .str "abcdefghijklmnopqrstuvwxyz") (by rfl) hL ⟨_, rfl⟩) (by rfl))) pa_nil)))), ?_⟩
  have hl := nm_len b
  refine ⟨_, rfl, _, _, _, _, true, rfl, .ty _, .base (.str _), isi_str, true, rfl, ?_⟩
  refine ifF rfl ?_
  refine ⟨_, rfl, _, rfl, sm (m := 1000) (by omega) (Nat.le_refl _), _, _, rfl, rfl, true, eqT (by omega), ?_⟩
  refine ifT rfl ?_
  refine ⟨_, _, rfl, rfl, true, eqT (by omega), ?_⟩
  refine ifF rfl ?_
  refine ⟨_, rfl, _, rfl, fun D hD => lc_same (fun i y H => y = .bl true) hD (fun i y H H' k h => h) (by rw [List.length_map, Array.length_toList]; exact smlt (by have : (nmOf b).cps.size ≤ 8 := hl.2; omega)) walks_str (fun i x H' hx sx C hC => ?_) fun H4 acc s4 hacc hl4 hR => ?_⟩
  · rw [List.getElem?_map] at hx
    obtain ⟨c, hc, rfl⟩ := Option.map_eq_some_iff.mp hx
    refine ⟨rfl, _, rfl, c, _, rfl, rfl, ?_⟩
    exact blT (Q := C) (nm_signs b c (List.mem_of_getElem? hc)) (hC _ _ (Same.refl _) rfl)
  · obtain ⟨e1, e2⟩ := all_bl hl4 hR
    refine ⟨D, _, rfl, SqL.of (by rw [hacc, e1]), ?_⟩
    rw [e2]
    exact hQ _ s4
def sp_are_unlike : Sp := fun vs H Q _ => ∃ (l : Addr) (xs : List Str), vs = [.ref l] ∧ H l = some (.lst (xs.map V.str)) ∧ xs.Nodup ∧ xs.length ≤ 900 ∧ ∀ H', Same H H' → Q (.bl true) H'
theorem c_are_unlike : CalW P w K mg base 1 "are_unlike" sp_are_unlike := by
  obtain ⟨fd, F⟩ := T.d_are_unlike
  refine cal_of F T.glo_are_unlike (F.binds fun _ _ _ _ _ _ us hl => match us, hl with | [_], _ => rfl) sc_are_unlike (fun vs H Q E h => by obtain ⟨_, _, rfl, _⟩ := h; rfl) fun cdv A outer s H vs Q E hr h => ?_
  obtain ⟨l, xs, rfl, hl, hn, hz, hQ⟩ := h
  have nd := sc_are_unlike.nd
  refine ⟨_, pss_one (ps_ret (pe_callB (r := rAll K) (cr_all (by rfl)) (by rfl) T.free_all bs_all (pa_cons (pe_lc (own := [("at", 1), ("value", 2)]) (g := gTup K 2 (gCons (gName 1) (gCons (gName 2) gNil))) (tt := tYes) (by rfl) nd (pi_enum (by rfl) T.free_enumerate (pa_cons (pv 0) pa_nil)) (blkOk_by (N := n_are_unlike) (sc := defScope s_are_unlike) (by decide +kernel))
      (fun _ _ _ _ _ => pg_tup (by rfl) (pgs_cons (pg_name (i := 1) nd rfl (Or.inl rfl)) (pgs_cons (pg_name (i := 2) nd rfl (Or.inl rfl)) pgs_nil))) (fun _ _ _ _ _ => pts_nil) (fun _ _ _ _ _ => pe_cmpR (r := rIn K true) op_notIn_seq (pv 2) (pe_slice (r := rSlL K) sl_list (pv 0) po_none (po_some (pv 1))) (by rfl))) pa_nil))), ?_⟩
  refine ⟨_, rfl, l, _, rfl, SqL.of hl, fun D hD => ?_⟩
  have hlen : (xs.map V.str).length = xs.length := List.length_map ..
  refine ⟨fun i k H' => k = xs.length - i ∧ i ≤ xs.length ∧ Same H H' ∧ H' D = some (.lst (List.replicate i (.bl true))), ⟨_, rfl, Nat.zero_le _, same_upd hD, upd_same⟩, ?_⟩
  rintro i k H2 ⟨rfl, hi, s2, hD2⟩
  have hl2 := s2 _ _ hl
  by_cases hlt : i < xs.length
  · have hx := List.getElem?_eq_getElem hlt
    have hxm : (xs.map V.str)[i]? = some (.str xs[i]) := by rw [List.getElem?_map, hx]; rfl
    refine .inr ⟨⟨_, _, SqL.of hl2, hxm⟩, fun H' => Same H H' ∧ H' D = some (.lst (List.replicate (i + 1) (.bl true))), fun H' h => ⟨_, by omega, rfl, hlt, h⟩, fun x H' y => ?_⟩
    obtain ⟨Tt, x', rfl, hT, rfl, y⟩ := y
    have ex := Option.some.inj ((y _ (SqL.of hl2)).symm.trans hxm)
    subst ex
    have s3 := same_upd (o := .tup [.int (i : Nat), .str xs[i]]) hT
    refine ⟨Tt, _, rfl, SqT.of upd_same, rfl, _, _, rfl, _, _, rfl, rfl, rfl, ?_⟩
    dsimp only [tYes]
    rw [if_pos rfl]
    refine ⟨_, rfl, _, rfl, _, rfl, _, rfl, _, _, rfl, SqL.of (s3 _ _ hl2), fun p np => ⟨p, _, rfl, .inl (SqL.of upd_same), rfl, ?_, ?_⟩⟩
    · rw [cutV_take]
      exact List.all_eq_true.mpr fun v hv => by
        obtain ⟨z, _, rfl⟩ := List.mem_map.mp (List.mem_of_mem_take hv)
        rfl
    · have hno : inV (.str xs[i]) (cutV (xs.map V.str) none (some (i : Int))) = false := by
        rw [cutV_take, ← List.map_take]
        unfold inV
        refine List.any_eq_false.mpr fun v hv => ?_
        obtain ⟨z, hz, rfl⟩ := List.mem_map.mp hv
        intro e
        have e : (z == xs[i]) = true := e
        have e := eq_of_beq e
        subst e
        obtain ⟨j, hj, ej⟩ := List.getElem_of_mem hz
        rw [List.length_take] at hj
        rw [List.getElem_take] at ej
        exact absurd ej (List.pairwise_iff_getElem.mp hn j i (by omega) hlt (by omega))
      rw [hno]
      have s4 : Same H2 (upd (upd H2 Tt (.tup [.int (i : Nat), .str xs[i]])) p (.lst (cutV (xs.map V.str) none (some (i : Int))))) := s3.trans (same_upd np)
      refine ⟨_, s4 _ _ hD2, by rw [List.length_replicate]; exact smlt (by omega), fun b u e => ?_, ?_⟩
      · rw [upd_ne (ne_of_none e hD)]
        exact s4 _ _ (s2 _ _ e)
      · rw [upd_same, List.replicate_succ']; rfl
  · have e : i = xs.length := by omega
    subst e
    refine .inl ⟨⟨_, SqL.of hl2, by rw [hlen]; exact Nat.le_refl _⟩, D, List.replicate xs.length true, rfl, SqL.of (by rw [hD2, List.map_replicate]), ?_⟩
    rw [show (List.replicate xs.length true).all id = true by simp]
    exact hQ _ s2
end
end Wv
end WwA_part
section WwB_part
set_option Elab.async false
set_option linter.all false
set_option maxRecDepth 100000
set_option maxHeartbeats 1000000
/-! WwB: lists of names, rows. -/
namespace Wv
open PySem L2 PySem.Spec
open PyProof.Rows

theorem kit_lt {K : PySem.W.Frag} : PySem.W.kitAny K (.type "list") [.type "list", .type "tuple"] = some true :=
  kitAny_cons (b := true) (kit_ty (by decide +kernel)) (fun e => nomatch e) (fun _ => rfl)
theorem kit_tt {K : PySem.W.Frag} : PySem.W.kitOne K (.type "tuple") (.type "tuple") = some true := kit_ty (by decide +kernel)
theorem ok_rest : PyData.strOk "rest" = true := by decide +kernel
theorem ok_go : PyData.strOk "go" = true := by decide +kernel
theorem ok_done : PyData.strOk "done" = true := by decide +kernel
theorem bs_list : bootBuiltins "list" = some (.type "list") := by decide +kernel
theorem bs_tuple : bootBuiltins "tuple" = some (.type "tuple") := by decide +kernel
section
variable {P : Program} {w : World} {K : PySem.W.Frag} {mg : Str → Option Value} {base : Heap} (T : Top w K mg)
include T
def sp_are_names : Sp := fun vs H Q _ => ∃ l : Addr, vs = [.ref l, .int 2] ∧ H l = some (.lst []) ∧ ∀ H', Same H H' → Q (.bl true) H'
theorem c_are_names : CalW P w K mg base 2 "are_names" sp_are_names := by
  obtain ⟨fd, F⟩ := T.d_are_names
  refine cal_of F T.glo_are_names (F.binds fun _ _ _ _ _ _ us hl => match us, hl with | [_, _], _ => rfl) sc_are_names (fun vs H Q E h => by obtain ⟨_, rfl, _⟩ := h; rfl) fun cdv A outer s H vs Q E hr h => ?_
  obtain ⟨l, rfl, hl, hQ⟩ := h
  have nd := sc_are_names.nd
  refine ⟨_, pss_cons (ps_if (PW.pt (pw_or (pt_not (pt_val (pe_callB (r := rIsiT K) call_isiT (by rfl) T.free_isinstance bs_isi (pa_cons (pv 0) (pa_cons (pe_tup (pa_cons (pe_bltn (v := .ty "list") (by rfl) T.free_list bs_list rfl) (pa_cons (pe_bltn (v := .ty "tuple") (by rfl) T.free_tuple bs_tuple rfl) pa_nil))) pa_nil)))))
      (pw_or (pt_cmpR op_gt (pe_callB (r := rLenS K) call_len_seq (by rfl) T.free_len PySem.boot_len (pa_cons (pv 0) pa_nil)) (pv 1) (nomark _))
      (pw_or1 (pt_not (pt_val (pe_callB (r := rAll K) (cr_all (by rfl)) (by rfl) T.free_all bs_all (pa_cons (pe_lc (own := [("name", 2)]) (g := gName 2) (tt := tYes) (te := tNo) (by rfl) nd (pi_list (pv 0)) (blkOk_by (N := n_are_names) (sc := defScope s_are_names) (by decide +kernel))
        (fun _ _ _ _ _ => pg_name (i := 2) nd rfl (Or.inl rfl)) (fun _ _ _ _ _ => pts_nil) (fun _ _ _ _ _ => pe_no)) pa_nil)))))))) (pss_one ps_never) pss_nil)
    (pss_one (ps_ret (pe_w (c_are_unlike T) hr (by decide) (by rfl) (pa_cons (pv 0) pa_nil)))), ?_⟩
  refine ⟨_, rfl, by show 2 ≤ sizeLine; decide, fun p np => ⟨_, p, _, _, _, true, rfl, upd_same, .cons (.ty _) (.cons (.ty _) .nil), .base (.lst (same_upd np _ _ hl)), kit_lt, true, rfl, ?_⟩⟩
  have s1 := same_upd (o := .tup [V.ty "list", V.ty "tuple"]) np
  refine ifF rfl ?_
  refine ⟨_, rfl, l, _, rfl, .inl (SqL.of (s1 _ _ hl)), _, rfl, _, _, rfl, rfl, _, rfl, ?_⟩
  refine ifF (by decide) ?_
  refine ⟨_, rfl, l, rfl, ⟨_, SqL.of (s1 _ _ hl)⟩, fun D hD => lc_same (fun i y H => y = .bl true) hD (fun i y H H' k h => h) (by show 0 < sizeLine; decide) (walks_list (SqL.of (s1 _ _ hl))) (fun i x H' hx sx C hC => by simp at hx) fun H4 acc s4 hacc hl4 hR => ?_⟩
  have hacc' : acc = [] := List.eq_nil_of_length_eq_zero hl4
  subst hacc'
  refine ⟨D, [], rfl, SqL.of hacc, true, rfl, ?_⟩
  refine ifF rfl ?_
  exact ⟨_, rfl, l, [], rfl, s4 _ _ (s1 _ _ hl), List.nodup_nil, Nat.zero_le _, fun H' s5 => hQ _ (s1.trans (s4.trans s5))⟩
/-! ### rows -/
def sp_is_row : Sp := fun vs H Q _ => ∃ rv r t, vs = [rv] ∧ RowIs H rv r t ∧ ∀ H', Same H H' → Q (.bl true) H'
theorem c_is_row : CalW P w K mg base 3 "is_row" sp_is_row := by
  obtain ⟨fd, F⟩ := T.d_is_row
  refine cal_of F T.glo_is_row (F.binds fun _ _ _ _ _ _ us hl => match us, hl with | [_], _ => rfl) sc_is_row (fun vs H Q E h => by obtain ⟨_, _, _, rfl, _⟩ := h; rfl) fun cdv A outer s H vs Q E hr h => ?_
  obtain ⟨rv, r, t, rfl, hrow, hQ⟩ := h
  obtain ⟨ra, rfl, hra⟩ := hrow
  have nd := sc_is_row.nd
  obtain ⟨tT, hT⟩ := T.int_MOST_TARGETS
  obtain ⟨es, n, KD⟩ := T.tab_SIZES
  refine ⟨_, pss_cons (ps_if (PW.pt (pw_or (pt_not (pt_val (pe_callB (r := rIsi K) call_isi (by rfl) T.free_isinstance bs_isi (pa_cons (pv 0) (pa_cons (pe_bltn (v := .ty "tuple") (by rfl) T.free_tuple bs_tuple rfl) pa_nil)))))
      (pw_or (pt_cmpR (r := rEqD K) (op_eqD hr.units) (pv 0) (pe_tup pa_nil) (nomark _))
      (pw_or (pt_not (pt_val (pe_callB (r := rIsi K) call_isi (by rfl) T.free_isinstance bs_isi (pa_cons (pe_ix ix_tup (pv 0) pe_int (fun _ _ => rfl)) (pa_cons (pe_bltn (v := .ty "str") (by rfl) T.free_str bs_str rfl) pa_nil)))))
      (pw_or1 (pt_cmpR (r := rIn K true) op_notIn_seq (pe_ix ix_tup (pv 0) pe_int (fun _ _ => rfl)) (pe_glob (v := .ref (He.ga K "WORDS")) (by rfl) T.glo_WORDS rfl) (by rfl))))))) (pss_one ps_never) pss_nil)
    (pss_cons (ps_if (pt_cmpR op_eq (pe_ix ix_tup (pv 0) pe_int (fun _ _ => rfl)) pe_str (nomark _))
      (pss_one (ps_ret (pe_and (pe_chain op_le op_le pe_int (pe_callB (r := rLenS K) call_len_seq (by rfl) T.free_len PySem.boot_len (pa_cons (pv 0) pa_nil)) (pe_op op_add (pe_glob (v := .int 4) (by rfl) hT ⟨_, rfl⟩) pe_int))
        (pe_one (pe_callB (r := rAll K) (cr_all (by rfl)) (by rfl) T.free_all bs_all (pa_cons (pe_lc (own := [("target", 1)]) (g := gName 1) (tt := tYes) (by rfl) nd (pi_tup (pe_slice sl_tupB (pv 0) (po_some pe_int) po_none)) (blkOk_by (N := n_is_row) (sc := defScope s_is_row) (by decide +kernel))
          (fun _ _ _ _ _ => pg_name (i := 1) nd rfl (Or.inl rfl)) (fun _ _ _ _ _ => pts_nil) (fun _ _ _ _ _ => pe_w (c_is_count T) hr (by decide) (by rfl) (pa_cons (pv 1) pa_nil))) pa_nil)))))) pss_nil)
    (pss_one (ps_ret (pe_and (pe_cmpR op_eq (pe_callB (r := rLenS K) call_len_seq (by rfl) T.free_len PySem.boot_len (pa_cons (pv 0) pa_nil)) (pe_ix (r := rIxD K w) ix_kdict (pe_glob (v := .ref (He.ga K "SIZES")) (by rfl) T.glo_SIZES rfl) (pe_ix ix_tup (pv 0) pe_int (fun _ _ => rfl)) (fun _ _ => rfl)) (nomark _))
        (pe_one (pe_callB (r := rAll K) (cr_all (by rfl)) (by rfl) T.free_all bs_all (pa_cons (pe_lc (own := [("name", 2)]) (g := gName 2) (tt := tYes) (te := tNo) (by rfl) nd (pi_tup (pe_slice sl_tupB (pv 0) (po_some pe_int) po_none)) (blkOk_by (N := n_is_row) (sc := defScope s_is_row) (by decide +kernel))
          (fun _ _ _ _ _ => pg_name (i := 2) nd rfl (Or.inl rfl)) (fun _ _ _ _ _ => pts_nil) (fun _ _ _ _ _ => pe_no)) pa_nil))))))), ?_⟩
  have hx : ∃ x xs, r.items t = .str x :: xs ∧ inV (.str x) [.str "open", .str "close", .str "renew", .str "use", .str "set", .str "drop", .str "lock", .str "unlock", .str "go", .str "rest"] = true := by
    cases r <;> exact ⟨_, _, rfl, by decide⟩
  have hall : ∀ H1 : Hp, ∃ xs ds, r.items t = xs ∧ DpAll K H1 xs ds ∧ SeqAt.shaped (.tuple ds) = true ∧ PyData.eqv (.tuple ds) (.tuple []) = false := fun H1 => by
    cases r
    · exact ⟨_, [.str "rest"], rfl, .cons (.str _) .nil, by simp [SeqAt.shaped, PyData.canLay0, PyData.canLayAll0, PyData.depth, PyData.depthAll, ok_rest, ok_go, ok_done], by simp [PyData.eqv, PyData.eqvAll]⟩
    · exact ⟨_, [.str "go", .int t], rfl, .cons (.str _) (.cons (.int _) .nil), by simp [SeqAt.shaped, PyData.canLay0, PyData.canLayAll0, PyData.depth, PyData.depthAll, ok_rest, ok_go, ok_done], by simp [PyData.eqv, PyData.eqvAll]⟩
    · exact ⟨_, [.str "go", .int t, .int t], rfl, .cons (.str _) (.cons (.int _) (.cons (.int _) .nil)), by simp [SeqAt.shaped, PyData.canLay0, PyData.canLayAll0, PyData.depth, PyData.depthAll, ok_rest, ok_go, ok_done], by simp [PyData.eqv, PyData.eqvAll]⟩
  obtain ⟨x, xs, ex, hin⟩ := hx
  refine ⟨_, rfl, _, _, _, _, true, rfl, .ty _, .base (.tup hra), kit_tt, true, rfl, ?_⟩
  refine ifF rfl ?_
  refine ⟨_, rfl, by show 0 ≤ sizeLine; decide, fun p np => ?_⟩
  have s1 := same_upd (o := .tup []) np
  obtain ⟨H1, eH1⟩ : ∃ H1, H1 = upd H p (.tup []) := ⟨_, rfl⟩
  have hp1 : H1 p = some (.tup []) := by rw [eH1]; exact upd_same
  rw [← eH1] at s1 ⊢
  have u := s1 _ _ hra
  obtain ⟨xs', ds, ex', hds, hsh, hne⟩ := hall H1
  refine ⟨.tuple ds, .tuple [], .tup (SqT.of (by rw [u, ex'])) hds, .tup (SqT.of hp1) .nil, hsh, by simp [SeqAt.shaped, PyData.canLay0, PyData.canLayAll0, PyData.depth, PyData.depthAll, ok_rest, ok_go, ok_done], _, rfl, ?_⟩
  refine ifF hne ?_
  have u' : H1 ra = some (.tup (.str x :: xs)) := by rw [u, ex]
  refine ⟨_, rfl, ra, _, 0, .str x, rfl, rfl, SqT.of u', atI_nat (j := 0) rfl, _, _, _, _, true, rfl, .ty _, .base (.str _), isi_str, true, rfl, ?_⟩
  refine ifF rfl ?_
  refine ⟨_, rfl, ra, _, 0, .str x, rfl, rfl, SqT.of u', atI_nat (j := 0) rfl, _, _, rfl, .inr (T.tup_WORDS H1), rfl, by decide, _, rfl, ?_⟩
  refine ifF (by rw [hin]; rfl) ?_
  clear u' hin ex
  have fin : ∀ H2 acc n, Same H1 H2 → ∀ D, H2 D = some (.lst acc) → acc.length = n → (∀ (i : Nat) (y : V), acc[i]? = some y → y = .bl true) → rAll K [.ref D] H2 Q := fun H2 acc n s2 D hD hl hR => by
    obtain ⟨e1, e2⟩ := all_bl hl hR
    refine ⟨D, _, rfl, SqL.of (by rw [hD, e1]), ?_⟩
    rw [e2]
    exact hQ _ (s1.trans s2)
  cases r with
  | rest =>
    refine ⟨_, rfl, ra, _, 0, _, rfl, rfl, SqT.of u, rfl, rfl, _, rfl, ?_⟩
    refine ifF (by decide) ?_
    obtain ⟨uv, hu1, hu2⟩ := He.valsB_ok T.vals_SIZES (q := ("rest", .int 1)) (by simp)
    refine ⟨_, rfl, ra, _, rfl, .inr (SqT.of u), _, rfl, ra, _, 0, _, rfl, rfl, SqT.of u, rfl, _, _, .int 1, rfl, rfl, ⟨es, n, uv, KD.at_, KD.lit, hu1, hu2⟩, rfl, true, rfl, ?_⟩
    refine ifT rfl ?_
    refine ⟨_, rfl, _, rfl, ra, _, rfl, u, fun q H2 s2 hq => ⟨q, rfl, ⟨_, SqT.of hq⟩, fun D hD => lc_same (xs := []) (fun i y H => y = .bl true) hD (fun i y H H' k h => h) (by show 0 < sizeLine; decide) (walks_tup (SqT.of hq)) (fun i x H' hx sx C hC => by simp at hx) fun H4 acc s4 hacc hl4 hR => fin H4 acc _ (s2.trans s4) D hacc hl4 hR⟩⟩
  | go1 =>
    refine ⟨_, rfl, ra, _, 0, _, rfl, rfl, SqT.of u, rfl, rfl, _, rfl, ?_⟩
    refine ifT (by decide) ?_
    refine ⟨_, rfl, ra, _, rfl, .inr (SqT.of u), _, _, rfl, rfl, true, eqT (by show (2 : Int) ≤ 2; decide), ?_⟩
    refine ifT rfl ?_
    refine ⟨_, _, rfl, rfl, _, _, rfl, rfl, true, eqT (by show (2 : Int) ≤ 4 + 1; decide), ?_⟩
    refine ifT rfl ?_
    refine ⟨_, rfl, _, rfl, ra, _, rfl, u, fun q H2 s2 hq => ⟨q, rfl, ⟨_, SqT.of hq⟩, fun D hD => lc_same (xs := [.int t]) (fun i y H => y = .bl true) hD (fun i y H H' k h => h) (by show 1 < sizeLine; decide) (walks_tup (SqT.of hq)) (fun i x H' hx sx C hC => ?_) fun H4 acc s4 hacc hl4 hR => fin H4 acc _ (s2.trans s4) D hacc hl4 hR⟩⟩
    have hx : x = .int t := by
      rcases i with _ | i
      · cases hx; rfl
      · simp at hx
    subst hx
    exact ⟨rfl, _, rfl, _, rfl, by omega, hC _ _ (Same.refl _) rfl⟩
  | go2 =>
    refine ⟨_, rfl, ra, _, 0, _, rfl, rfl, SqT.of u, rfl, rfl, _, rfl, ?_⟩
    refine ifT (by decide) ?_
    refine ⟨_, rfl, ra, _, rfl, .inr (SqT.of u), _, _, rfl, rfl, true, eqT (by show (2 : Int) ≤ 3; decide), ?_⟩
    refine ifT rfl ?_
    refine ⟨_, _, rfl, rfl, _, _, rfl, rfl, true, eqT (by show (3 : Int) ≤ 4 + 1; decide), ?_⟩
    refine ifT rfl ?_
    refine ⟨_, rfl, _, rfl, ra, _, rfl, u, fun q H2 s2 hq => ⟨q, rfl, ⟨_, SqT.of hq⟩, fun D hD => lc_same (xs := [.int t, .int t]) (fun i y H => y = .bl true) hD (fun i y H H' k h => h) (by show 2 < sizeLine; decide) (walks_tup (SqT.of hq)) (fun i x H' hx sx C hC => ?_) fun H4 acc s4 hacc hl4 hR => fin H4 acc _ (s2.trans s4) D hacc hl4 hR⟩⟩
    have hx : x = .int t := by
      rcases i with _ | _ | i
      · cases hx; rfl
      · cases hx; rfl
      · simp at hx
    subst hx
    exact ⟨rfl, _, rfl, _, rfl, by omega, hC _ _ (Same.refl _) rfl⟩
end
end Wv
end WwB_part
section WwC_part
set_option Elab.async false
set_option linter.all false
set_option maxRecDepth 100000
set_option maxHeartbeats 1000000
/-! WwC: instances made by an __init__ with a star and keyword-only parameters. -/
namespace Wv
open PySem L2 PySem.Spec StX
open PyProof.Rows

/-- the def at f, called with n values, what is left over, and the keywords ks -/
def FnKS (P : Program) (w : World) (K : PySem.W.Frag) (mg : Str → Option Value) (base : Heap) (k : Nat) (f : Addr) (n : Nat) (ks : List Str) (sp : Sp) : Prop :=
  ∀ (A : Around) (outer : List Env) (s : Shared) (H : Hp) (us ws : List Value) (vs rest zs : List V) (Q : VK), Room k A → Env0 P w K mg base A outer s H → Vals (vs ++ rest) us → Vals zs ws → vs.length = n → zs.length = ks.length → 1 ≤ rest.length → rest.length ≤ 3 →
    (∀ p, H p = none → sp (vs ++ zs ++ [.ref p]) (upd H p (.tup rest)) Q E0) → codeAny (model P w) A (.call (.ref f) ⟨us, ks.zip ws⟩) (CR CX0 outer P w H s Q E0) s
section
variable {P : Program} {w : World} {K : PySem.W.Frag} {mg : Str → Option Value} {base : Heap} {k n : Nat} {f : Addr} {x qual : Str} {st : Stmt} {fd : FuncData} {N ps ks : List Str} {pv : Str} {sp : Sp}
theorem fn_ks (F : Fun K x qual st f fd) (S : FnScope N (ps ++ [pv]) (defScope st)) (hps : ps.length = n + ks.length)
    (hb : ∀ (kV doc pm : Value) (an : Option Addr) (cdv ct : Value) (us rest ws : List Value), us.length = n → ws.length = ks.length → 1 ≤ rest.length → rest.length ≤ 3 →
      bindArgs (PySem.W.fnOf x qual (defArgs st) (defBody st) (defScope st) .none kV doc pm an cdv ct) ⟨us ++ rest, ks.zip ws⟩ = (newTuple rest >>= fun t => pure (ps.zip (us ++ ws) ++ [(pv, t)])))
    (hbody : ∀ (cdv : Value) (A : Around) (outer : List Env) (s : Shared) (H : Hp) (vs : List V) (Q : VK) (E : XK), Room k (A.deeper (envOfC qual (defScope st) s.heap.objs.size f cdv)) → sp vs H Q E →
      ∃ t, PSs (cxOf CX0 P w K mg base N qual (defScope st) f cdv A outer s H E).nox (defBody st) t ∧ t { nx := fun _ H' => Q .non H', rt := Q } (start N vs) H) : FnKS P w K mg base (k + 1) f n ks sp := by
  obtain ⟨oc, od, kV, doc, pm, an, cdv, ct, osl, rfl, lk, hcd⟩ := F.ex
  intro A outer s H us ws vs rest zs Q hr e0 r rz l1 l2 hz1 hz3 hq
  obtain ⟨u1, u2, rfl, r1, r2⟩ := vals_split r
  have hn : H s.heap.objs.size = Option.none := e0.hok.fresh (Nat.le_refl _)
  have hl1 : u1.length = n := by rw [← r1.length]; exact l1
  have hl2 : u2.length = rest.length := r2.length.symm
  have hlw : ws.length = ks.length := by rw [← rz.length]; exact l2
  have hzz : u2.length ≤ sizeLine := sm (m := 3) (by omega) (by omega)
  refine run_bnd lk hcd S hr e0 (G := fun xs H2 => ∃ p, H p = Option.none ∧ xs = vs ++ zs ++ [V.ref p] ∧ H2 = upd H p (.tup rest)) (fun A' Ex Q' h => ?_) fun s2 H2 xs ⟨p, hp, ex, eH⟩ hr' => ?_
  · rw [hb kV doc pm an cdv ct u1 u2 ws hl1 hlw (by omega) (by omega)]
    refine wpAny_bind (wpAny_newTuple (wpAny_pure ?_) hzz)
    have new : ObjOk P w (upd H s.heap.objs.size (.tup rest)) (s.heap.push ({ cls := .type "tuple", data := .seq u2.toArray } : Obj)) s.heap.objs.size (.tup rest) := ⟨by omega, u2, r2, ⟨_, Heap.get?_push_size _ rfl, rfl, _, rfl⟩⟩
    have un := un_laid (fs := frs outer) (s := s) (o := ({ cls := .type "tuple", data := .seq u2.toArray } : Obj)) (u := .tup rest) hn
    have lz : (vs ++ zs).length = ps.length := by rw [List.length_append, l1, l2, hps]
    have z := h _ _ (vs ++ zs ++ [V.ref s.heap.objs.size]) (u1 ++ ws ++ [Value.ref s.heap.objs.size]) (env0_laid e0 new) un rfl (fun e s' z => z) ((r1.append rz).append (.cons rfl .nil))
      (by simp only [List.length_append, List.length_cons, List.length_nil]; rw [l1, l2, hps]) ⟨_, hn, rfl, rfl⟩
    rw [List.zip_append (by rw [← lz, List.length_append, List.length_append, r1.length, rz.length])] at z
    exact z
  · subst ex eH
    obtain ⟨t, ht, q⟩ := hbody cdv A outer s2 _ _ Q E0 hr' (hq p hp)
    exact ⟨t, PSs.nox ht, q⟩
end
/-- C(e, .., k = v, ..) -/
def tMakeS (C : Addr) (n m : Nat) (sp : Sp) (t tk : TA) : TE := fun σ H Q => t σ H fun vs H1 => tk σ H1 fun zs H2 => ∃ ws rest, vs = ws ++ rest ∧ ws.length + 1 = n ∧ 1 ≤ rest.length ∧ rest.length ≤ 3 ∧ zs.length = m ∧ ∀ x dx p, H2 x = none → H2 dx = none → dx ≠ x → p ≠ x → p ≠ dx → H2 p = none →
  sp (.ref x :: ws ++ zs ++ [.ref p]) (upd (upd (upd H2 dx (.own x)) x (.ins C dx [])) p (.tup rest)) (fun v H3 => v = .non ∧ Q (.ref x) H3) E0
section
variable {X : Cx} {k n : Nat} {f C : Addr} {ks : List Str} {sp : Sp} {x : Str} {p pos : Pos} {e : Expr} {es : List Expr} {kws : List Keyword} {t tk : TA}
theorem run_makeS {pins : List (Addr × Obj)} {σ : L2.St} {H : Hp} {s : Shared} {Q : VK} {us zs' : List Value} {ws rest zs : List V} (M : Mk X.K C f) (F : FnKS X.prog X.w X.K X.mg X.base k f n ks sp) (hr : Room (k + 1) X.A)
    (I : Inv X pins σ H s) (r : Vals (ws ++ rest) us) (rz : Vals zs zs') (l1 : ws.length + 1 = n) (h1 : 1 ≤ rest.length) (h3 : rest.length ≤ 3) (l2 : zs.length = ks.length)
    (h : ∀ x dx p, H x = none → H dx = none → dx ≠ x → p ≠ x → p ≠ dx → H p = none → sp (.ref x :: ws ++ zs ++ [.ref p]) (upd (upd (upd H dx (.own x)) x (.ins C dx [])) p (.tup rest)) (fun v H3 => v = .non ∧ Q (.ref x) H3) E0) :
    wpAny (model X.prog X.w) X.A (call (.ref C) us (ks.zip zs')) (EP X pins σ Q) X.xe s := by
  have hx : H (s.heap.objs.size + 1) = none := I.hok.fresh (Nat.le_succ _)
  have hd : H s.heap.objs.size = none := I.hok.fresh (Nat.le_refl _)
  have ne : s.heap.objs.size ≠ s.heap.objs.size + 1 := Nat.ne_of_lt (Nat.lt_succ_self _)
  have I2 := Inv.made (C := C) I
  have r1 : Vals ((V.ref (s.heap.objs.size + 1) :: ws) ++ rest) (Value.ref (s.heap.objs.size + 1) :: us) := .cons rfl r
  refine wpAny_call (make_map (f := f) I.kIn M.makes M.init (beq_iff_eq.mp M.fn) (codeAny_mono (F _ X.stack _ _ (Value.ref (s.heap.objs.size + 1) :: us) zs' (V.ref (s.heap.objs.size + 1) :: ws) rest zs (fun v H3 => v = .non ∧ Q (.ref (s.heap.objs.size + 1)) H3) (hr.make C us (ks.zip zs'))
    (I2.env0.make C us (ks.zip zs')) r1 rz l1 l2 h1 h3 fun p hp => ?_) fun r s' hq' => ?_))
  · have hpx : p ≠ s.heap.objs.size + 1 := fun z => by rw [z, upd_same] at hp; cases hp
    have hpd : p ≠ s.heap.objs.size := fun z => by rw [z, upd_ne ne, upd_same] at hp; cases hp
    refine h _ _ p hx hd ne hpx hpd ?_
    rw [upd_ne hpx, upd_ne hpd] at hp
    exact hp
  · cases r with
    | error e => exact hq'.elim
    | ok fl =>
      cases fl with
      | ret u =>
        obtain ⟨v, H', I3, rv, ev, q3⟩ := I2.after hq'
        subst ev
        exact ⟨rv, ⟨V.ref (s.heap.objs.size + 1), H', I3, rfl, q3⟩⟩
      | next => exact False.elim hq'
      | brk => exact False.elim hq'
      | cont => exact False.elim hq'
theorem pe_makeS (M : Mk X.K C f) (F : FnKS X.prog X.w X.K X.mg X.base k f n ks sp) (hr : Room (k + 1) X.A) (hg : Gl X x) (hm : X.mg x = some (.ref C)) (ha : PA X (e :: es) t) (hkw : PK X kws tk)
    (hall : (backToKw pos (keywordEach kws X.env)).all (·.1.isSome) = true := by rfl) (hks : (backToKw pos (keywordEach kws X.env)).filterMap (·.1) = ks := by rfl) (hdb : (x == ("__debug__" : Str)) = false := by decide)
    (he : starEach (e :: es) X.env = (false, eval e X.env) :: starEach es X.env := by rfl) (hpl : ((backTo pos (starEach (e :: es) X.env)).any (·.1) || (backToKw pos (keywordEach kws X.env)).any (·.1.isNone)) = false := by rfl) :
    PE X (.Call (.Name x p) (e :: es) kws pos) (tMakeS C n ks.length sp t tk) := by
  refine ⟨fun pins s σ H Q I h => ?_⟩
  refine wpAny_Call_Name_kw (ld_glob I hg hm ?_ hdb)
  refine PySem.W.callWith_KW (h₀ := X.base) I.ok.mod.kin M.kp hall (thn (ha.run pos pins s σ H _ I h) fun us s1 ⟨vs, H1, I1, r, q⟩ => ?_) hpl he
  refine thn (hkw.run pos pins s1 σ H1 _ I1 q) fun ws s2 ⟨zs, H2, I2, rz, wz, rest, ev, l1, h1, h3, l2, q2⟩ => ⟨I2.kIn, ?_⟩
  rw [hks]
  subst ev
  exact run_makeS M F hr I2 r rz l1 h1 h3 l2 q2
end
end Wv
end WwC_part
section WwD_part
set_option Elab.async false
set_option linter.all false
set_option maxRecDepth 100000
set_option maxHeartbeats 1000000
/-! WwD: a sort is made. -/
namespace Wv
open PySem L2 PySem.Spec
open PyProof.Rows

theorem Rw.head (r : Rw) (t : Nat) : ∃ x xs, r.items t = .str x :: xs ∧ (x = "rest" ∨ x = "go") ∧ (x = "rest" → xs = []) ∧ (∀ v ∈ xs, v = .int t) ∧ xs.length ≤ 2 := by
  cases r
  · exact ⟨_, _, rfl, .inl rfl, fun _ => rfl, fun v h => by simp at h, by decide⟩
  · exact ⟨_, _, rfl, .inr rfl, fun h => absurd h (by decide), fun v h => by simpa using h, by show 1 ≤ 2; decide⟩
  · exact ⟨_, _, rfl, .inr rfl, fun h => absurd h (by decide), fun v h => by simpa using h, by show 2 ≤ 2; decide⟩
section
variable {P : Program} {w : World} {K : PySem.W.Frag} {mg : Str → Option Value} {base : Heap} (T : Top w K mg)
include T
def sp_fits : Sp := fun vs H Q _ => ∃ (rv : V) (r : Rw) (t n : Nat), vs = [rv, .int n] ∧ RowIs H rv r t ∧ t ≤ n ∧ ∀ H', Same H H' → Q (.bl true) H'
theorem c_fits : CalW P w K mg base 4 "fits" sp_fits := by
  obtain ⟨fd, F⟩ := T.d_fits
  refine cal_of F T.glo_fits (F.binds fun _ _ _ _ _ _ us hl => match us, hl with | [_, _], _ => rfl) sc_fits (fun vs H Q E h => by obtain ⟨_, _, _, _, rfl, _⟩ := h; rfl) fun cdv A outer s H vs Q E hr h => ?_
  obtain ⟨rv, r, t, n, rfl, hrow, htn, hQ⟩ := h
  have nd := sc_fits.nd
  refine ⟨_, pss_one (ps_ret (pe_and (pe_w (c_is_row T) hr (by decide) (by rfl) (pa_cons (pv 0) pa_nil)) (pe_one (pe_or (pe_cmpR op_ne (pe_ix ix_tup (pv 0) pe_int (fun _ _ => rfl)) pe_str (nomark _))
    (pe_one (pe_callB (r := rAll K) (cr_all (by rfl)) (by rfl) T.free_all bs_all (pa_cons (pe_lc (own := [("target", 2)]) (g := gName 2) (tt := tYes) (by rfl) nd (pi_tup (pe_slice sl_tupB (pv 0) (po_some pe_int) po_none)) (blkOk_by (N := n_fits) (sc := defScope s_fits) (by decide +kernel))
      (fun _ _ _ _ _ => pg_name (i := 2) nd rfl (Or.inl rfl)) (fun _ _ _ _ _ => pts_nil) (fun _ _ _ _ _ => pe_cmp (pc_le (pv 2) (pv 1)))) pa_nil))))))), ?_⟩
  obtain ⟨ra, rfl, hra⟩ := id hrow
  refine ⟨_, rfl, _, r, t, rfl, hrow, fun H1 s1 => ⟨true, rfl, ?_⟩⟩
  refine ifT rfl ?_
  obtain ⟨x, xs, ex, hx, hx1, hx2, hx3⟩ := r.head t
  have u := s1 _ _ hra
  rw [ex] at u
  refine ⟨_, rfl, ra, _, 0, .str x, rfl, rfl, SqT.of u, atI_nat (j := 0) rfl, rfl, _, rfl, ?_⟩
  rcases hx with rfl | rfl
  · refine ifT (by decide) ?_
    exact hQ _ s1
  · refine ifF (by decide) ?_
    refine ⟨_, rfl, _, rfl, ra, _, rfl, u, fun q H2 s2 hq => ⟨q, rfl, ⟨_, SqT.of hq⟩, fun D hD => lc_same (xs := xs) (fun i y H => y = .bl true) hD (fun i y H H' k h => h) (smlt (by omega)) (walks_tup (SqT.of (hq.trans (by rw [show (some 1 : Option Int) = some ((1 : Nat) : Int) from rfl, cutV_drop]; rfl)))) (fun i x H' hx sx C hC => ?_) fun H4 acc s4 hacc hl hR => ?_⟩⟩
    · have := hx2 x (List.mem_of_getElem? hx)
      subst this
      exact ⟨rfl, _, rfl, _, rfl, _, _, rfl, rfl, blT (Q := C) (by omega) (hC _ _ (Same.refl _) rfl)⟩
    · obtain ⟨e1, e2⟩ := all_bl hl hR
      refine ⟨D, _, rfl, SqL.of (by rw [hacc, e1]), ?_⟩
      rw [e2]
      exact hQ _ (s1.trans (s2.trans s4))
def sp_variables_of : Sp := fun vs H Q _ => ∃ (rv : V) (r : Rw) (t : Nat), vs = [rv] ∧ RowIs H rv r t ∧ ∀ q H', Same H H' → H' q = some (.tup []) → Q (.ref q) H'
theorem c_variables_of : CalW P w K mg base 1 "variables_of" sp_variables_of := by
  obtain ⟨fd, F⟩ := T.d_variables_of
  refine cal_of F T.glo_variables_of (F.binds fun _ _ _ _ _ _ us hl => match us, hl with | [_], _ => rfl) sc_variables_of (fun vs H Q E h => by obtain ⟨_, _, _, rfl, _⟩ := h; rfl) fun cdv A outer s H vs Q E hr h => ?_
  obtain ⟨rv, r, t, rfl, hrow, hQ⟩ := h
  refine ⟨_, pss_cons (ps_if (pt_cmpR (r := rIn K false) op_in_seq (pe_ix ix_tup (pv 0) pe_int (fun _ _ => rfl)) (pe_tup (pa_cons pe_str (pa_cons pe_str (pa_cons pe_str (pa_cons pe_str pa_nil))))) (by rfl)) (pss_one (ps_ret (pe_tup pa_nil))) pss_nil) (pss_one ps_never), ?_⟩
  obtain ⟨ra, rfl, hra⟩ := hrow
  obtain ⟨x, xs, ex, hx, _⟩ := r.head t
  rw [ex] at hra
  refine ⟨_, rfl, ra, _, 0, .str x, rfl, rfl, SqT.of hra, atI_nat (j := 0) rfl, by show 4 ≤ sizeLine; decide, fun p np => ⟨p, _, rfl, .inr (SqT.of upd_same), rfl, rfl, _, rfl, ?_⟩⟩
  refine ifT (by rcases hx with rfl | rfl <;> decide) ?_
  exact ⟨by show 0 ≤ sizeLine; decide, fun q nq => hQ q _ (Same.trans (same_upd np) (same_upd nq)) upd_same⟩
theorem c_locks_of : CalW P w K mg base 1 "locks_of" sp_variables_of := by
  obtain ⟨fd, F⟩ := T.d_locks_of
  refine cal_of F T.glo_locks_of (F.binds fun _ _ _ _ _ _ us hl => match us, hl with | [_], _ => rfl) sc_locks_of (fun vs H Q E h => by obtain ⟨_, _, _, rfl, _⟩ := h; rfl) fun cdv A outer s H vs Q E hr h => ?_
  obtain ⟨rv, r, t, rfl, hrow, hQ⟩ := h
  refine ⟨_, pss_cons (ps_if (pt_cmpR (r := rIn K false) op_in_seq (pe_ix ix_tup (pv 0) pe_int (fun _ _ => rfl)) (pe_tup (pa_cons pe_str (pa_cons pe_str pa_nil))) (by rfl)) (pss_one ps_never) pss_nil) (pss_one (ps_ret (pe_tup pa_nil))), ?_⟩
  obtain ⟨ra, rfl, hra⟩ := hrow
  obtain ⟨x, xs, ex, hx, _⟩ := r.head t
  rw [ex] at hra
  refine ⟨_, rfl, ra, _, 0, .str x, rfl, rfl, SqT.of hra, atI_nat (j := 0) rfl, by show 2 ≤ sizeLine; decide, fun p np => ⟨p, _, rfl, .inr (SqT.of upd_same), rfl, rfl, _, rfl, ?_⟩⟩
  refine ifF (by rcases hx with rfl | rfl <;> decide) ?_
  exact ⟨by show 0 ≤ sizeLine; decide, fun q nq => hQ q _ (Same.trans (same_upd np) (same_upd nq)) upd_same⟩
/-! ### Sort(name, rows, own=mine) -/
def SameX (x : Addr) (H H' : Hp) : Prop := ∀ b o, b ≠ x → H b = some o → H' b = some o
omit T in
theorem SameX.of {x : Addr} {H H' : Hp} (s : Same H H') : SameX x H H' := fun b o _ e => s b o e
omit T in
theorem SameX.trans {x : Addr} {H H1 H2 : Hp} (a : SameX x H H1) (b : SameX x H1 H2) : SameX x H H2 := fun c o n e => b c o n (a c o n e)
omit T in
theorem sameX_upd {x : Addr} {H : Hp} {o : HO} : SameX x H (upd H x o) := fun b u n e => by rw [upd_ne n]; exact e
omit T in
theorem sameX_made {x dx : Addr} {H H' : Hp} {o u : HO} (hx : H x = none) (hd : H dx = none) (s : SameX x (upd (upd H dx o) x u) H') : Same H H' := fun b v e => by
  have n1 := ne_of_none e hx
  refine s b v n1 ?_
  rw [upd_ne n1, upd_ne (ne_of_none e hd)]
  exact e
theorem kb_Sort {fd : FuncData} (F : Fun K "__init__" "Sort.__init__" s_Sort_init (He.ma K (He.ga K "Sort") "__init__") fd) : KBn K fd ["self", "name", "rows", "own"] 3 ["own"] (fun us ws => us ++ ws) (fun vs zs => vs ++ zs) := by
  obtain ⟨oc, od, kV, doc, pm, an, cdv, ct, osl, rfl, lk, hcd⟩ := F.ex
  exact ⟨fun s us ws X l1 l2 => BindsTo.of_eq (match us, l1, ws, l2 with | [_, _, _], _, [_], _ => rfl), fun r1 r2 => r1.append r2⟩
def sp_Sort_init (K : PySem.W.Frag) : Sp := fun vs H Q _ => ∃ (x dx l m : Addr) (b : Bool) (rs : List Rw) (xs : List V), vs = [.ref x, .str (nmOf b), .ref l, .ref m] ∧ H x = some (.ins (CS K) dx []) ∧ H l = some (.lst xs) ∧ RowsAre H xs rs ∧ 1 ≤ rs.length ∧ rs.length ≤ 3 ∧ H m = some (.lst []) ∧
  ∀ H', SameX x H H' → SortIs K H' (.ref x) (nmOf b) rs → Q .non H'
theorem f_Sort_init : ∃ fd, FnOk P w K mg base CX0 6 (He.ma K (He.ga K "Sort") "__init__") fd ["self", "name", "rows", "own"] (sp_Sort_init K) ∧ KBn K fd ["self", "name", "rows", "own"] 3 ["own"] (fun us ws => us ++ ws) (fun vs zs => vs ++ zs) := by
  obtain ⟨fd, F⟩ := T.d_Sort_init
  refine ⟨fd, F.ok (k := 5) sc_Sort_init (fun vs H Q E h => by obtain ⟨_, _, _, _, _, _, _, rfl, _⟩ := h; rfl) fun cdv A outer s H vs Q E hr h => ?_, kb_Sort T F⟩
  obtain ⟨x, dx, l, m, b, rs, xs, rfl, hx, hl, hrs, h1, h3, hm, hQ⟩ := h
  have nd := sc_Sort_init.nd
  obtain ⟨tR, hR⟩ := T.int_MOST_ROWS
  obtain ⟨tN, hN⟩ := T.int_MOST_NAMES
  refine ⟨_, pss_cons (ps_if (pt_not (pt_val (pe_w (c_is_name T) hr (by decide) (by rfl) (pa_cons (pv 1) pa_nil)))) (pss_one ps_never) pss_nil)
    (pss_cons (ps_if (PW.pt (pw_or (pt_not (pt_val (pe_callB (r := rIsiT K) call_isiT (by rfl) T.free_isinstance bs_isi (pa_cons (pv 2) (pa_cons (pe_tup (pa_cons (pe_bltn (v := .ty "list") (by rfl) T.free_list bs_list rfl) (pa_cons (pe_bltn (v := .ty "tuple") (by rfl) T.free_tuple bs_tuple rfl) pa_nil))) pa_nil)))))
      (pw_or1 (pt_not (pt_chain op_le op_le pe_int (pe_callB (r := rLenS K) call_len_seq (by rfl) T.free_len PySem.boot_len (pa_cons (pv 2) pa_nil)) (pe_glob (v := .int 10) (by rfl) hR ⟨_, rfl⟩)))))) (pss_one ps_never) pss_nil)
    (pss_cons (ps_for PassesOwn.never (by rfl) (pi_list (pv 2)) (pg_name (i := 4) nd rfl (Or.inl rfl)) (pss_one (ps_if (pt_not (pt_val (pe_w (c_fits T) hr (by decide) (by rfl) (pa_cons (pv 4) (pa_cons (pe_callB (r := rLenS K) call_len_seq (by rfl) T.free_len PySem.boot_len (pa_cons (pv 2) pa_nil)) pa_nil))))) (pss_one ps_never) pss_nil)))
    (pss_cons (ps_if (pt_not (pt_val (pe_w (c_are_names T) hr (by decide) (by rfl) (pa_cons (pv 3) (pa_cons (pe_glob (v := .int 2) (by rfl) hN ⟨_, rfl⟩) pa_nil))))) (pss_one ps_never) pss_nil)
    (pss_cons (ps_fld (pv 0) (pv 1) rfl)
    (pss_cons (ps_fld (pv 0) (pe_tupleOf (by rfl) T.free_tuple (pv 2)) rfl)
    (pss_one (ps_fld (pv 0) (pe_tupleOf (by rfl) T.free_tuple (pv 3)) rfl))))))), ?_⟩
  have hlx := hrs.1
  refine ⟨_, rfl, b, rfl, fun H1 s1 => ⟨true, rfl, ?_⟩⟩
  refine ifF rfl ?_
  refine ⟨_, rfl, by show 2 ≤ sizeLine; decide, fun p np => ?_⟩
  have s2 := s1.trans (same_upd (o := .tup [V.ty "list", V.ty "tuple"]) np)
  refine ⟨_, p, _, _, _, true, rfl, upd_same, .cons (.ty _) (.cons (.ty _) .nil), .base (.lst (s2 _ _ hl)), kit_lt, true, rfl, ?_⟩
  refine ifF rfl ?_
  refine ⟨_, rfl, l, _, rfl, .inl (SqL.of (s2 _ _ hl)), _, _, rfl, rfl, true, eqT (by omega), ?_⟩
  refine ifT rfl ?_
  refine ⟨_, _, rfl, rfl, true, eqT (by omega), ?_⟩
  refine ifF rfl ?_
  obtain ⟨H2, eH2⟩ : ∃ H2, H2 = upd H1 p (.tup [V.ty "list", V.ty "tuple"]) := ⟨_, rfl⟩
  rw [← eH2] at s2 ⊢
  refine ⟨_, rfl, l, rfl, ⟨_, SqL.of (s2 _ _ hl)⟩, ?_⟩
  refine for_list (xs := xs) (fun i σ H' => Same H H' ∧ ∃ o, σ = [some (.ref x), some (.str (nmOf b)), some (.ref l), some (.ref m), o]) ⟨s2, _, rfl⟩ (fun i σ H' _ p => SqL.of (p.1 _ _ hl)) (fun i v σ H' hv p => ?_) (fun σ H' p => ?_)
  · obtain ⟨sH, o, rfl⟩ := p
    have hi : i < xs.length := (List.getElem?_eq_some_iff.mp hv).1
    have er := List.getElem?_eq_getElem (l := rs) (i := i) (by omega)
    refine ⟨_, rfl, _, rfl, l, _, rfl, .inl (SqL.of (sH _ _ hl)), _, rs[i], i + 1, xs.length, rfl, Keep.rowIs (Same.keep sH) (hrs.2 i v _ hv er), by omega, fun H3 s3 => ⟨true, rfl, ?_⟩⟩
    exact ifF rfl ⟨sH.trans s3, _, rfl⟩
  obtain ⟨sH, o, rfl⟩ := p
  refine ⟨_, rfl, m, rfl, sH _ _ hm, fun H3 s3 => ⟨true, rfl, ?_⟩⟩
  refine ifF rfl ?_
  have s03 := sH.trans s3
  have hx3 := s03 _ _ hx
  refine ⟨_, rfl, _, rfl, x, _, dx, _, rfl, hx3, T.cls_Sort, T.noat_Sort_kept_name, by show 0 < 1000; decide, ?_⟩
  obtain ⟨H4, eH4⟩ : ∃ H4, H4 = upd H3 x (.ins (CS K) dx (putF "kept_name" (.str (nmOf b)) [])) := ⟨_, rfl⟩
  have hx4 : H4 x = some (.ins (CS K) dx (putF "kept_name" (.str (nmOf b)) [])) := by rw [eH4]; exact upd_same
  have s34 : SameX x H3 H4 := by rw [eH4]; exact sameX_upd
  have s04 := (SameX.of s03 (x := x)).trans s34
  have nlx : l ≠ x := ne_of hl hx (fun z => nomatch z)
  have nmx : m ≠ x := ne_of hm hx (fun z => nomatch z)
  rw [← eH4]
  refine ⟨_, rfl, .inl ⟨l, xs, rfl, SqL.of (s04 _ _ nlx hl), fun rr nr => ⟨_, rfl, x, _, dx, _, rfl, same_upd nr _ _ hx4, T.cls_Sort, T.noat_Sort_kept_rows, by show 1 < 1000; decide, ?_⟩⟩⟩
  have nrx : rr ≠ x := (ne_of_none hx4 nr).symm
  obtain ⟨H5, eH5⟩ : ∃ H5, H5 = upd (upd H4 rr (.tup xs)) x (.ins (CS K) dx (putF "kept_rows" (.ref rr) (putF "kept_name" (.str (nmOf b)) []))) := ⟨_, rfl⟩
  have hx5 : H5 x = some (.ins (CS K) dx (putF "kept_rows" (.ref rr) (putF "kept_name" (.str (nmOf b)) []))) := by rw [eH5]; exact upd_same
  have hr5 : H5 rr = some (.tup xs) := by rw [eH5, upd_ne nrx]; exact upd_same
  have s45 : SameX x H4 H5 := by rw [eH5]; exact (SameX.of (same_upd nr)).trans sameX_upd
  have s05 := s04.trans s45
  rw [← eH5]
  refine ⟨_, rfl, .inl ⟨m, [], rfl, SqL.of (s05 _ _ nmx hm), fun oo no => ⟨_, rfl, x, _, dx, _, rfl, same_upd no _ _ hx5, T.cls_Sort, T.noat_Sort_kept_own, by show 2 < 1000; decide, ?_⟩⟩⟩
  have nox : oo ≠ x := (ne_of_none hx5 no).symm
  have s56 : SameX x H5 (upd (upd H5 oo (.tup [])) x (.ins (CS K) dx (putF "kept_own" (.ref oo) (putF "kept_rows" (.ref rr) (putF "kept_name" (.str (nmOf b)) []))))) := (SameX.of (same_upd no)).trans sameX_upd
  have s06 := s05.trans s56
  refine hQ _ s06 ⟨x, dx, rr, oo, xs, rfl, upd_same, s56 _ _ nrx hr5, ⟨hrs.1, fun i v r e1 e2 => ?_⟩, by rw [upd_ne nox]; exact upd_same⟩
  obtain ⟨a, rfl, ha⟩ := hrs.2 i v r e1 e2
  exact ⟨a, rfl, s06 _ _ (ne_of ha hx (fun z => nomatch z)) ha⟩
end
end Wv
end WwD_part
section WwE_part
set_option Elab.async false
set_option linter.all false
set_option maxRecDepth 100000
set_option maxHeartbeats 1000000
/-! WwE: a program is made. -/
namespace Wv
open PySem L2 PySem.Spec
open PyProof.Rows

/-- isinstance(o, C), o of the class at C -/
def rIsC (C : Addr) : List V → Hp → VK → Prop := fun xs H Q => ∃ a dx fs, xs = [.ref a, .ref C] ∧ H a = some (.ins C dx fs) ∧ Q (.bl true) H
section
variable {P : Program} {w : World} {K : PySem.W.Frag} {mg : Str → Option Value} {base : Heap} (T : Top w K mg)
include T
def sp_are_sorts (K : PySem.W.Frag) : Sp := fun vs H Q _ => ∃ (p : Addr) (s0 s1 : V) (B : Bn), vs = [.ref p] ∧ H p = some (.tup [s0, s1]) ∧ SortIs K H s0 "giver" B.r0 ∧ SortIs K H s1 "user" B.r1 ∧ ∀ H', Same H H' → Q (.bl true) H'
theorem c_are_sorts : CalW P w K mg base 3 "are_sorts" (sp_are_sorts K) := by
  obtain ⟨fd, F⟩ := T.d_are_sorts
  refine cal_of F T.glo_are_sorts (F.binds fun _ _ _ _ _ _ us hl => match us, hl with | [_], _ => rfl) sc_are_sorts (fun vs H Q E h => by obtain ⟨_, _, _, _, rfl, _⟩ := h; rfl) fun cdv A outer s H vs Q E hr h => ?_
  obtain ⟨p, s0, s1, B, rfl, hp, h0, h1, hQ⟩ := h
  have nd := sc_are_sorts.nd
  obtain ⟨tS, hS⟩ := T.int_MOST_SORTS
  refine ⟨_, pss_cons (ps_if (PW.pt (pw_or (pt_not (pt_chain op_le op_le pe_int (pe_callB (r := rLenS K) call_len_seq (by rfl) T.free_len PySem.boot_len (pa_cons (pv 0) pa_nil)) (pe_glob (v := .int 3) (by rfl) hS ⟨_, rfl⟩)))
      (pw_or1 (pt_not (pt_val (pe_callB (r := rAll K) (cr_all (by rfl)) (by rfl) T.free_all bs_all (pa_cons (pe_lc (own := [("sort", 1)]) (g := gName 1) (tt := tYes) (by rfl) nd (pi_tup (pv 0)) (blkOk_by (N := n_are_sorts) (sc := defScope s_are_sorts) (by decide +kernel))
        (fun _ _ _ _ _ => pg_name (i := 1) nd rfl (Or.inl rfl)) (fun _ _ _ _ _ => pts_nil) (fun _ _ _ _ _ => pe_callB (r := rIsC (CS K)) (C8.call_isC T.ins_Sort) (by rfl) T.free_isinstance bs_isi (pa_cons (pv 1) (pa_cons (pe_glob (v := .ref (He.ga K "Sort")) (by rfl) T.glo_Sort rfl) pa_nil)))) pa_nil))))))) (pss_one ps_never) pss_nil)
    (pss_one (ps_ret (pe_w (c_are_unlike T) hr (by decide) (by rfl) (pa_cons (pe_lc (own := [("sort", 1)]) (g := gName 1) (tt := tYes) (by rfl) nd (pi_tup (pv 0)) (blkOk_by (N := n_are_sorts) (sc := defScope s_are_sorts) (by decide +kernel))
        (fun _ _ _ _ _ => pg_name (i := 1) nd rfl (Or.inl rfl)) (fun _ _ _ _ _ => pts_nil) (fun _ _ _ _ _ => pe_pr (p_Sort_name T) hr (by decide) (pv 1))) pa_nil)))), ?_⟩
  refine ⟨_, rfl, p, _, rfl, .inr (SqT.of hp), _, _, rfl, rfl, true, eqT (by show (1 : Int) ≤ 2; decide), ?_⟩
  refine ifT rfl ?_
  refine ⟨_, _, rfl, rfl, true, eqT (by show (2 : Int) ≤ 3; decide), ?_⟩
  refine ifF rfl ?_
  have at01 : ∀ (i : Nat) (x : V), [s0, s1][i]? = some x → (i = 0 ∧ x = s0) ∨ (i = 1 ∧ x = s1) := fun i x h => by
    rcases i with _ | _ | i
    · exact .inl ⟨rfl, (Option.some.inj h).symm⟩
    · exact .inr ⟨rfl, (Option.some.inj h).symm⟩
    · simp at h
  refine ⟨_, rfl, p, rfl, ⟨_, SqT.of hp⟩, fun D hD => lc_same (xs := [s0, s1]) (fun i y H => y = .bl true) hD (fun i y H H' k h => h) (by show 2 < sizeLine; decide) (walks_tup (SqT.of hp)) (fun i x H' hx sx C hC => ?_) fun H2 acc s2 hacc hl hR => ?_⟩
  · rcases at01 i x hx with ⟨_, rfl⟩ | ⟨_, rfl⟩
    · obtain ⟨a, dx, rr, oo, vs, rfl, g, _⟩ := SortIs.rr h0
      exact ⟨rfl, _, rfl, a, dx, _, rfl, sx _ _ g, hC _ _ (Same.refl _) rfl⟩
    · obtain ⟨a, dx, rr, oo, vs, rfl, g, _⟩ := SortIs.rr h1
      exact ⟨rfl, _, rfl, a, dx, _, rfl, sx _ _ g, hC _ _ (Same.refl _) rfl⟩
  obtain ⟨e1, e2⟩ := all_bl hl hR
  refine ⟨D, _, rfl, SqL.of (by rw [hacc, e1]), true, by rw [e2], ?_⟩
  refine ifF rfl ?_
  have hp2 := s2 _ _ hp
  refine ⟨_, rfl, p, rfl, ⟨_, SqT.of hp2⟩, fun D2 hD2 => lc_same (xs := [s0, s1]) (fun i y H => y = .str (nmOf (decide (i = 1)))) hD2 (fun i y H H' k h => h) (by show 2 < sizeLine; decide) (walks_tup (SqT.of hp2)) (fun i x H' hx sx C hC => ?_) fun H3 acc3 s3 hacc3 hl3 hR3 => ?_⟩
  · rcases at01 i x hx with ⟨rfl, rfl⟩ | ⟨rfl, rfl⟩
    · obtain ⟨a, dx, rr, oo, vs, rfl, g, _⟩ := SortIs.rr h0
      exact ⟨rfl, _, rfl, a, dx, _, _, rfl, sx _ _ (s2 _ _ g), rfl, hC _ _ (Same.refl _) rfl⟩
    · obtain ⟨a, dx, rr, oo, vs, rfl, g, _⟩ := SortIs.rr h1
      exact ⟨rfl, _, rfl, a, dx, _, _, rfl, sx _ _ (s2 _ _ g), rfl, hC _ _ (Same.refl _) rfl⟩
  have hacc' : acc3 = [nmOf false, nmOf true].map V.str := by
    match acc3, hl3 with
    | [y, z], _ => rw [hR3 0 y rfl, hR3 1 z rfl]; rfl
  exact ⟨D2, [nmOf false, nmOf true], rfl, by rw [hacc3, hacc'], by decide, by decide, fun H' s4 => hQ _ (s2.trans (s3.trans s4))⟩
def sp_is_sound (K : PySem.W.Frag) : Sp := fun vs H Q _ => ∃ (sv c l : V) (nm : Str) (rs : List Rw), vs = [sv, c, l] ∧ SortIs K H sv nm rs ∧ rs.length ≤ 900 ∧ ∀ H', Same H H' → Q (.bl true) H'
theorem c_is_sound : CalW P w K mg base 3 "is_sound" (sp_is_sound K) := by
  obtain ⟨fd, F⟩ := T.d_is_sound
  refine cal_of F T.glo_is_sound (F.binds fun _ _ _ _ _ _ us hl => match us, hl with | [_, _, _], _ => rfl) sc_is_sound (fun vs H Q E h => by obtain ⟨_, _, _, _, _, rfl, _⟩ := h; rfl) fun cdv A outer s H vs Q E hr h => ?_
  obtain ⟨sv, c, l, nm, rs, rfl, hs, hz, hQ⟩ := h
  have nd := sc_is_sound.nd
  refine ⟨_, pss_cons (ps_if (pt_not (pt_val (pe_callB (r := rAll K) (cr_all (by rfl)) (by rfl) T.free_all bs_all (pa_cons (pe_lc (own := [("name", 4)]) (g := gName 4) (tt := tYes) (te := tNo) (by rfl) nd (pi_tup (pe_pr (p_Sort_own T) hr (by decide) (pv 0))) (blkOk_by (N := n_is_sound) (sc := defScope s_is_sound) (by decide +kernel))
        (fun _ _ _ _ _ => pg_name (i := 4) nd rfl (Or.inl rfl)) (fun _ _ _ _ _ => pts_nil) (fun _ _ _ _ _ => pe_no)) pa_nil)))) (pss_one ps_never) pss_nil)
    (pss_cons (ps_for PassesOwn.never (by rfl) (pi_tup (pe_pr (p_Sort_rows T) hr (by decide) (pv 0))) (pg_name (i := 3) nd rfl (Or.inl rfl))
      (pss_cons (ps_if (pt_not (pt_val (pe_callB (r := rAll K) (cr_all (by rfl)) (by rfl) T.free_all bs_all (pa_cons (pe_lc (own := [("name", 4)]) (g := gName 4) (tt := tYes) (te := tNo) (by rfl) nd (pi_tup (pe_w (c_variables_of T) hr (by decide) (by rfl) (pa_cons (pv 3) pa_nil))) (blkOk_by (N := n_is_sound) (sc := defScope s_is_sound) (by decide +kernel))
          (fun _ _ _ _ _ => pg_name (i := 4) nd rfl (Or.inl rfl)) (fun _ _ _ _ _ => pts_nil) (fun _ _ _ _ _ => pe_no)) pa_nil)))) (pss_one ps_never) pss_nil)
      (pss_one (ps_if (pt_not (pt_val (pe_callB (r := rAll K) (cr_all (by rfl)) (by rfl) T.free_all bs_all (pa_cons (pe_lc (own := [("name", 4)]) (g := gName 4) (tt := tYes) (te := tNo) (by rfl) nd (pi_tup (pe_w (c_locks_of T) hr (by decide) (by rfl) (pa_cons (pv 3) pa_nil))) (blkOk_by (N := n_is_sound) (sc := defScope s_is_sound) (by decide +kernel))
          (fun _ _ _ _ _ => pg_name (i := 4) nd rfl (Or.inl rfl)) (fun _ _ _ _ _ => pts_nil) (fun _ _ _ _ _ => pe_no)) pa_nil)))) (pss_one ps_never) pss_nil))))
    (pss_one (ps_ret pe_bl))), ?_⟩
  obtain ⟨a, dx, rr, oo, vs, rfl, h2, h3, h4, h5⟩ := SortIs.rr hs
  refine ⟨_, rfl, a, dx, _, _, rfl, h2, rfl, oo, rfl, ⟨_, SqT.of h5⟩, fun D hD => lc_same (xs := []) (fun i y H => y = .bl true) hD (fun i y H H' k h => h) (by show 0 < sizeLine; decide) (walks_tup (SqT.of h5)) (fun i x H' hx sx C hC => by simp at hx) fun H2 acc s2 hacc hl hR => ?_⟩
  obtain ⟨e1, e2⟩ := all_bl hl hR
  refine ⟨D, _, rfl, SqL.of (by rw [hacc, e1]), true, by rw [e2], ?_⟩
  refine ifF rfl ?_
  refine ⟨_, rfl, a, dx, _, _, rfl, s2 _ _ h2, rfl, rr, rfl, ⟨_, SqT.of (s2 _ _ h3)⟩, ?_⟩
  refine for_tup (xs := vs) (fun i σ H' => Same H H' ∧ ∃ o o2, σ = [some (.ref a), some c, some l, o, o2]) ⟨s2, _, _, rfl⟩ (fun i σ H' _ p => SqT.of (p.1 _ _ h3)) (fun i v σ H' hv p => ?_) (fun σ H' p => ?_)
  · obtain ⟨sH, o, o2, rfl⟩ := p
    have hi : i < vs.length := (List.getElem?_eq_some_iff.mp hv).1
    have hvl := h4.1
    have er := List.getElem?_eq_getElem (l := rs) (i := i) (by omega)
    have hrow := h4.2 i v _ hv er
    refine ⟨_, rfl, v, rs[i], i + 1, rfl, Keep.rowIs (Same.keep sH) hrow, fun q1 H3 s3 hq1 => ⟨q1, rfl, ⟨_, SqT.of hq1⟩, fun D hD => lc_same (xs := []) (fun i y H => y = .bl true) hD (fun i y H H' k h => h) (by show 0 < sizeLine; decide) (walks_tup (SqT.of hq1)) (fun i x H' hx sx C hC => by simp at hx) fun H4 acc s4 hacc hl hR => ?_⟩⟩
    obtain ⟨e1, e2⟩ := all_bl hl hR
    refine ⟨D, _, rfl, SqL.of (by rw [hacc, e1]), true, by rw [e2], ?_⟩
    refine ifF rfl ?_
    have s04 := sH.trans (s3.trans s4)
    refine ⟨_, rfl, v, rs[i], i + 1, rfl, Keep.rowIs (Same.keep s04) hrow, fun q1 H3 s3 hq1 => ⟨q1, rfl, ⟨_, SqT.of hq1⟩, fun D hD => lc_same (xs := []) (fun i y H => y = .bl true) hD (fun i y H H' k h => h) (by show 0 < sizeLine; decide) (walks_tup (SqT.of hq1)) (fun i x H' hx sx C hC => by simp at hx) fun H4 acc s4 hacc hl hR => ?_⟩⟩
    obtain ⟨e1, e2⟩ := all_bl hl hR
    refine ⟨D, _, rfl, SqL.of (by rw [hacc, e1]), true, by rw [e2], ?_⟩
    exact ifF rfl ⟨s04.trans (s3.trans s4), _, _, rfl⟩
  obtain ⟨sH, o, o2, rfl⟩ := p
  exact hQ _ sH
end
end Wv
end WwE_part
section WwF_part
set_option Elab.async false
set_option linter.all false
set_option maxRecDepth 100000
set_option maxHeartbeats 1000000
/-! WwF: a program, a bench are made. -/
namespace Wv
open PySem L2 PySem.Spec
open PyProof.Rows

abbrev n_Program_init : List Str := ["self", "common", "locks", "sorts", "sort", "name"]
theorem sc_Program_init : FnScope n_Program_init ((["self", "common", "locks"] : List Str) ++ (["sorts"] : List Str)) (defScope s_Program_init) := C8.fnScope_by (by decide +kernel)
abbrev n_Bench_init : List Str := ["self", "program", "size", "book", "turns", "hands"]
theorem sc_Bench_init : FnScope n_Bench_init ((["self", "program", "size", "book", "turns"] : List Str) ++ (["hands"] : List Str)) (defScope s_Bench_init) := C8.fnScope_by (by decide +kernel)
theorem SameX.sort {K : PySem.W.Frag} {x : Addr} {H H' : Hp} (s : SameX x H H') {C dx0 : Addr} {fs0 : List (Str × V)} (hx : H x = some (.ins C dx0 fs0)) (hC : C ≠ CS K) {v : V} {nm : Str} {rs : List Rw} (h : SortIs K H v nm rs) : SortIs K H' v nm rs := by
  obtain ⟨a, dx, rr, oo, vs, rfl, h2, h3, h4, h5⟩ := h
  have nt : ∀ {b : Addr} {ys : List V}, H b = some (.tup ys) → b ≠ x := fun e => ne_of e hx (fun z => nomatch z)
  refine ⟨a, dx, rr, oo, vs, rfl, s _ _ (ne_of h2 hx fun z => by injection z with z _ _; exact hC z.symm) h2, s _ _ (nt h3) h3, ⟨h4.1, fun i v r e1 e2 => ?_⟩, s _ _ (nt h5) h5⟩
  obtain ⟨b, e, hb⟩ := h4.2 i v r e1 e2
  exact ⟨b, e, s _ _ (nt hb) hb⟩
theorem SameX.prog {K : PySem.W.Frag} {x : Addr} {H H' : Hp} (s : SameX x H H') {C dx0 : Addr} {fs0 : List (Str × V)} (hx : H x = some (.ins C dx0 fs0)) (hC : C ≠ CS K) (hC2 : C ≠ CP K) {v : V} {B : Bn} (h : ProgIs K H v B) : ProgIs K H' v B := by
  obtain ⟨a, dx, ss, cc, ll, s0, s1, h1, h2, h3, h4, h5, h6, h7⟩ := h
  have nt : ∀ {b : Addr} {ys : List V}, H b = some (.tup ys) → b ≠ x := fun e => ne_of e hx (fun z => nomatch z)
  exact ⟨a, dx, ss, cc, ll, s0, s1, h1, s _ _ (ne_of h2 hx fun z => by injection z with z _ _; exact hC2 z.symm) h2, s _ _ (nt h3) h3, s.sort hx hC h4, s.sort hx hC h5, s _ _ (nt h6) h6, s _ _ (nt h7) h7⟩
section
variable {P : Program} {w : World} {K : PySem.W.Frag} {mg : Str → Option Value} {base : Heap} (T : Top w K mg)
include T
def sp_Program_init (K : PySem.W.Frag) : Sp := fun vs H Q _ => ∃ (x dx c l p : Addr) (s0 s1 : V) (B : Bn), vs = [.ref x, .ref c, .ref l, .ref p] ∧ H x = some (.ins (CP K) dx []) ∧ CP K ≠ CS K ∧ H c = some (.lst []) ∧ H l = some (.lst []) ∧ H p = some (.tup [s0, s1]) ∧ B.Ok ∧ SortIs K H s0 "giver" B.r0 ∧ SortIs K H s1 "user" B.r1 ∧
  ∀ H', SameX x H H' → ProgIs K H' (.ref x) B → Q .non H'
theorem f_Program_init : FnKS P w K mg base 4 (He.ma K (He.ga K "Program") "__init__") 1 ["common", "locks"] (sp_Program_init K) := by
  obtain ⟨fd, F⟩ := T.d_Program_init
  refine fn_ks (k := 3) (ps := ["self", "common", "locks"]) (pv := "sorts") F sc_Program_init rfl (fun kV doc pm an cdv ct us rest ws l1 l2 h1 h3 => ?_) fun cdv A outer s H vs Q E hr h => ?_
  · match us, l1, ws, l2, rest, h1, h3 with
    | [_], _, [_, _], _, [_], _, _ => rfl
    | [_], _, [_, _], _, [_, _], _, _ => rfl
    | [_], _, [_, _], _, [_, _, _], _, _ => rfl
  obtain ⟨x, dx, c, l, p, s0, s1, B, rfl, hx, hne, hc, hl, hp, ok, h0, h1, hQ⟩ := h
  have nd := sc_Program_init.nd
  obtain ⟨tN, hN⟩ := T.int_MOST_NAMES
  refine ⟨_, pss_cons (ps_if (pt_not (pt_val (pe_w (c_are_sorts T) hr (by decide) (by rfl) (pa_cons (pv 3) pa_nil)))) (pss_one ps_never) pss_nil)
    (pss_cons (ps_if (pt_not (pt_val (pe_w (c_are_names T) hr (by decide) (by rfl) (pa_cons (pv 1) (pa_cons (pe_glob (v := .int 2) (by rfl) hN ⟨_, rfl⟩) pa_nil))))) (pss_one ps_never) pss_nil)
    (pss_cons (ps_if (PW.pt (pw_or (pt_not (pt_val (pe_w (c_are_names T) hr (by decide) (by rfl) (pa_cons (pv 2) (pa_cons (pe_glob (v := .int 2) (by rfl) hN ⟨_, rfl⟩) pa_nil)))))
      (pw_or1 (pt_not (pt_val (pe_callB (r := rAll K) (cr_all (by rfl)) (by rfl) T.free_all bs_all (pa_cons (pe_lc (own := [("name", 5)]) (g := gName 5) (tt := tYes) (te := tNo) (by rfl) nd (pi_list (pv 2)) (blkOk_by (N := n_Program_init) (sc := defScope s_Program_init) (by decide +kernel))
        (fun _ _ _ _ _ => pg_name (i := 5) nd rfl (Or.inl rfl)) (fun _ _ _ _ _ => pts_nil) (fun _ _ _ _ _ => pe_no)) pa_nil))))))) (pss_one ps_never) pss_nil)
    (pss_cons (ps_for PassesOwn.never (by rfl) (pi_tup (pv 3)) (pg_name (i := 4) nd rfl (Or.inl rfl)) (pss_one (ps_if (pt_not (pt_val (pe_w (c_is_sound T) hr (by decide) (by rfl) (pa_cons (pv 4) (pa_cons (pv 1) (pa_cons (pv 2) pa_nil)))))) (pss_one ps_never) pss_nil)))
    (pss_cons (ps_fld (pv 0) (pe_tupleOf (by rfl) T.free_tuple (pv 3)) rfl)
    (pss_cons (ps_fld (pv 0) (pe_tupleOf (by rfl) T.free_tuple (pv 1)) rfl)
    (pss_one (ps_fld (pv 0) (pe_tupleOf (by rfl) T.free_tuple (pv 2)) rfl))))))), ?_⟩
  refine ⟨_, rfl, p, s0, s1, B, rfl, hp, h0, h1, fun H1 u1 => ⟨true, rfl, ?_⟩⟩
  refine ifF rfl ?_
  refine ⟨_, rfl, c, rfl, u1 _ _ hc, fun H2 u2 => ⟨true, rfl, ?_⟩⟩
  refine ifF rfl ?_
  have v2 := u1.trans u2
  refine ⟨_, rfl, l, rfl, v2 _ _ hl, fun H3 u3 => ⟨true, rfl, ?_⟩⟩
  refine ifF rfl ?_
  have v3 := v2.trans u3
  refine ⟨_, rfl, l, rfl, ⟨_, SqL.of (v3 _ _ hl)⟩, fun D hD => lc_same (xs := []) (fun i y H => y = .bl true) hD (fun i y H H' k h => h) (by show 0 < sizeLine; decide) (walks_list (SqL.of (v3 _ _ hl))) (fun i x H' hx sx C hC => by simp at hx) fun H4 acc u4 hacc hl4 hR => ?_⟩
  obtain ⟨e1, e2⟩ := all_bl hl4 hR
  refine ⟨D, _, rfl, SqL.of (by rw [hacc, e1]), true, by rw [e2], ?_⟩
  refine ifF rfl ?_
  have v4 := v3.trans u4
  refine ⟨_, rfl, p, rfl, ⟨_, SqT.of (v4 _ _ hp)⟩, ?_⟩
  have at01 : ∀ (i : Nat) (x : V), [s0, s1][i]? = some x → ∃ nm rs, SortIs K H x nm rs ∧ rs.length ≤ 900 := fun i x h => by
    rcases i with _ | _ | i
    · cases h; exact ⟨_, _, h0, by have := ok.a0; omega⟩
    · cases h; exact ⟨_, _, h1, by have := ok.a1; omega⟩
    · simp at h
  refine for_tup (xs := [s0, s1]) (fun i σ H' => Same H H' ∧ ∃ o o2, σ = [some (.ref x), some (.ref c), some (.ref l), some (.ref p), o, o2]) ⟨v4, _, _, rfl⟩ (fun i σ H' _ q => SqT.of (q.1 _ _ hp)) (fun i v σ H' hv q => ?_) (fun σ H' q => ?_)
  · obtain ⟨sH, o, o2, rfl⟩ := q
    obtain ⟨nm, rs, hS, hz⟩ := at01 i v hv
    refine ⟨_, rfl, _, rfl, _, rfl, v, _, _, nm, rs, rfl, Keep.sort (Same.keep sH) hS, hz, fun H5 u5 => ⟨true, rfl, ?_⟩⟩
    exact ifF rfl ⟨sH.trans u5, _, _, rfl⟩
  obtain ⟨sH, o, o2, rfl⟩ := q
  have hx3 := sH _ _ hx
  have ncx : c ≠ x := ne_of hc hx (fun z => nomatch z)
  have nlx : l ≠ x := ne_of hl hx (fun z => nomatch z)
  have npx : p ≠ x := ne_of hp hx (fun z => nomatch z)
  refine ⟨_, rfl, .inr ⟨p, _, rfl, SqT.of (sH _ _ hp), _, rfl, x, _, dx, _, rfl, hx3, T.cls_Program, T.noat_Program_kept_sorts, by show 0 < 1000; decide, ?_⟩⟩
  obtain ⟨H4', eH4⟩ : ∃ H4', H4' = upd H' x (.ins (CP K) dx (putF "kept_sorts" (.ref p) [])) := ⟨_, rfl⟩
  have hx4 : H4' x = some (.ins (CP K) dx (putF "kept_sorts" (.ref p) [])) := by rw [eH4]; exact upd_same
  have s34 : SameX x H' H4' := by rw [eH4]; exact sameX_upd
  have s04 := (SameX.of sH (x := x)).trans s34
  rw [← eH4]
  refine ⟨_, rfl, .inl ⟨c, [], rfl, SqL.of (s04 _ _ ncx hc), fun rr nr => ⟨_, rfl, x, _, dx, _, rfl, same_upd nr _ _ hx4, T.cls_Program, T.noat_Program_kept_common, by show 1 < 1000; decide, ?_⟩⟩⟩
  have nrx : rr ≠ x := (ne_of_none hx4 nr).symm
  obtain ⟨H5, eH5⟩ : ∃ H5, H5 = upd (upd H4' rr (.tup [])) x (.ins (CP K) dx (putF "kept_common" (.ref rr) (putF "kept_sorts" (.ref p) []))) := ⟨_, rfl⟩
  have hx5 : H5 x = some (.ins (CP K) dx (putF "kept_common" (.ref rr) (putF "kept_sorts" (.ref p) []))) := by rw [eH5]; exact upd_same
  have hr5 : H5 rr = some (.tup []) := by rw [eH5, upd_ne nrx]; exact upd_same
  have s45 : SameX x H4' H5 := by rw [eH5]; exact (SameX.of (same_upd nr)).trans sameX_upd
  have s05 := s04.trans s45
  rw [← eH5]
  refine ⟨_, rfl, .inl ⟨l, [], rfl, SqL.of (s05 _ _ nlx hl), fun oo no => ⟨_, rfl, x, _, dx, _, rfl, same_upd no _ _ hx5, T.cls_Program, T.noat_Program_kept_locks, by show 2 < 1000; decide, ?_⟩⟩⟩
  have nox : oo ≠ x := (ne_of_none hx5 no).symm
  have s56 : SameX x H5 (upd (upd H5 oo (.tup [])) x (.ins (CP K) dx (putF "kept_locks" (.ref oo) (putF "kept_common" (.ref rr) (putF "kept_sorts" (.ref p) []))))) := (SameX.of (same_upd no)).trans sameX_upd
  have s06 := s05.trans s56
  exact hQ _ s06 ⟨x, dx, p, rr, oo, s0, s1, rfl, upd_same, s06 _ _ npx hp, s06.sort hx hne h0, s06.sort hx hne h1, s56 _ _ nrx hr5, by rw [upd_ne nox]; exact upd_same⟩
end
end Wv
end WwF_part
section WwG_part
set_option Elab.async false
set_option linter.all false
set_option maxRecDepth 100000
set_option maxHeartbeats 1000000
/-! WwG: a bench is made. -/
namespace Wv
open PySem L2 PySem.Spec
open PyProof.Rows

theorem fun_qual {K : PySem.W.Frag} {x q1 q2 : Str} {s1 s2 : Stmt} {f : Addr} {fd1 fd2 : FuncData} (F1 : Fun K x q1 s1 f fd1) (F2 : Fun K x q2 s2 f fd2) : q1 = q2 := by
  obtain ⟨oc, od, kV, doc, pm, an, cdv, ct, osl, rfl, lk, hcd⟩ := F1.ex
  obtain ⟨oc', od', kV', doc', pm', an', cdv', ct', osl', rfl, lk', hcd'⟩ := F2.ex
  have e := Option.some.inj (lk.symm.trans lk')
  injection e with _ _ e _
  injection e with e
  exact congrArg FuncData.qualname e
section
variable {P : Program} {w : World} {K : PySem.W.Frag} {mg : Str → Option Value} {base : Heap} (T : Top w K mg)
include T
theorem Top.ne_PS : CP K ≠ CS K := fun e => by
  obtain ⟨fd1, F1⟩ := T.d_Sort_init
  obtain ⟨fd2, F2⟩ := T.d_Program_init
  have e : He.ga K "Program" = He.ga K "Sort" := e
  rw [e] at F2
  exact absurd (fun_qual F1 F2) (by decide)
theorem Top.ne_BS : CB K ≠ CS K := fun e => by
  obtain ⟨fd1, F1⟩ := T.d_Sort_init
  obtain ⟨fd2, F2⟩ := T.d_Bench_init
  have e : He.ga K "Bench" = He.ga K "Sort" := e
  rw [e] at F2
  exact absurd (fun_qual F1 F2) (by decide)
theorem Top.ne_BP : CB K ≠ CP K := fun e => by
  obtain ⟨fd1, F1⟩ := T.d_Program_init
  obtain ⟨fd2, F2⟩ := T.d_Bench_init
  have e : He.ga K "Bench" = He.ga K "Program" := e
  rw [e] at F2
  exact absurd (fun_qual F1 F2) (by decide)
def sp_Pcon (K : PySem.W.Frag) : Sp := fun vs H Q _ => ∃ pv B b, vs = [pv, .str (nmOf b)] ∧ ProgIs K H pv B ∧ ∀ H', Same H H' → Q (.bl true) H'
theorem m_Pcon : MetW P w K mg base 3 (CP K) "__contains__" (sp_Pcon K) := by
  obtain ⟨fd, F⟩ := T.d_Program_contains
  refine met_of F T.meth_Program_contains (F.binds fun _ _ _ _ _ _ us hl => match us, hl with | [_, _], _ => rfl) sc_Program_contains (fun vs H Q E h => by obtain ⟨_, _, _, rfl, _⟩ := h; rfl) fun cdv A outer s H vs Q E hr h => ?_
  obtain ⟨pv', B, b, rfl, hp, hQ⟩ := h
  obtain ⟨a, dx, ss, cc, ll, s0, s1, rfl, h2, h3, h4, h5, h6, h7⟩ := hp
  have nd := sc_Program_contains.nd
  refine ⟨_, pss_one (ps_ret (pe_and (pe_callB (r := rIsi K) call_isi (by rfl) T.free_isinstance bs_isi (pa_cons (pv 1) (pa_cons (pe_bltn (v := .ty "str") (by rfl) T.free_str bs_str rfl) pa_nil))) (pe_one (pe_cmpR (r := rIn K false) op_in_seq (pv 1)
    (pe_lc (own := [("sort", 2)]) (g := gName 2) (tt := tYes) (by rfl) nd (pi_tup (pe_fld (pv 0) rfl)) (blkOk_by (N := n_Program_contains) (sc := defScope s_Program_contains) (by decide +kernel))
        (fun _ _ _ _ _ => pg_name (i := 2) nd rfl (Or.inl rfl)) (fun _ _ _ _ _ => pts_nil) (fun _ _ _ _ _ => pe_pr (p_Sort_name T) hr (by decide) (pv 2))) (by rfl))))), ?_⟩
  have at01 : ∀ (i : Nat) (x : V), [s0, s1][i]? = some x → (i = 0 ∧ x = s0) ∨ (i = 1 ∧ x = s1) := fun i x h => by
    rcases i with _ | _ | i
    · exact .inl ⟨rfl, (Option.some.inj h).symm⟩
    · exact .inr ⟨rfl, (Option.some.inj h).symm⟩
    · simp at h
  refine ⟨_, rfl, _, _, _, _, true, rfl, .ty _, .base (.str _), isi_str, true, rfl, ?_⟩
  refine ifT rfl ?_
  refine ⟨_, rfl, _, rfl, a, _, _, _, _, rfl, h2, T.cls_Program, T.noat_Program_kept_sorts, rfl, ss, rfl, ⟨_, SqT.of h3⟩, fun D2 hD2 => lc_same (xs := [s0, s1]) (fun i y H => y = .str (nmOf (decide (i = 1)))) hD2 (fun i y H H' k h => h) (by show 2 < sizeLine; decide) (walks_tup (SqT.of h3)) (fun i x H' hx sx C hC => ?_) fun H3 acc3 u3 hacc3 hl3 hR3 => ?_⟩
  · rcases at01 i x hx with ⟨rfl, rfl⟩ | ⟨rfl, rfl⟩
    · obtain ⟨a, dx, rr, oo, vs, rfl, g, _⟩ := SortIs.rr h4
      exact ⟨rfl, _, rfl, a, dx, _, _, rfl, sx _ _ g, rfl, hC _ _ (Same.refl _) rfl⟩
    · obtain ⟨a, dx, rr, oo, vs, rfl, g, _⟩ := SortIs.rr h5
      exact ⟨rfl, _, rfl, a, dx, _, _, rfl, sx _ _ g, rfl, hC _ _ (Same.refl _) rfl⟩
  have hacc' : acc3 = [.str (nmOf false), .str (nmOf true)] := by
    match acc3, hl3 with
    | [y, z], _ => rw [hR3 0 y rfl, hR3 1 z rfl]; rfl
  subst hacc'
  refine ⟨D2, _, rfl, .inl (SqL.of hacc3), rfl, by rfl, ?_⟩
  have e : inV (.str (nmOf b)) [.str (nmOf false), .str (nmOf true)] = true := by cases b <;> decide
  rw [e]
  exact hQ _ u3
def sp_are_hands (K : PySem.W.Frag) : Sp := fun vs H Q _ => ∃ (pv : V) (p : Addr) (B : Bn), vs = [pv, .ref p] ∧ ProgIs K H pv B ∧ B.Ok ∧ H p = some (.tup (B.hs.map fun b => V.str (nmOf b))) ∧ ∀ H', Same H H' → Q (.bl true) H'
theorem c_are_hands : CalW P w K mg base 5 "are_hands" (sp_are_hands K) := by
  obtain ⟨fd, F⟩ := T.d_are_hands
  refine cal_of F T.glo_are_hands (F.binds fun _ _ _ _ _ _ us hl => match us, hl with | [_, _], _ => rfl) sc_are_hands (fun vs H Q E h => by obtain ⟨_, _, _, rfl, _⟩ := h; rfl) fun cdv A outer s H vs Q E hr h => ?_
  obtain ⟨pv', p, B, rfl, hP, ok, hp, hQ⟩ := h
  have nd := sc_are_hands.nd
  have hn := ok.ah
  obtain ⟨tH, hH⟩ := T.int_MOST_HANDS
  refine ⟨_, pss_one (ps_ret (pe_and (pe_chain op_le op_le pe_int (pe_callB (r := rLenS K) call_len_seq (by rfl) T.free_len PySem.boot_len (pa_cons (pv 1) pa_nil)) (pe_glob (v := .int 30) (by rfl) hH ⟨_, rfl⟩))
    (pe_one (pe_callB (r := rAll K) (cr_all (by rfl)) (by rfl) T.free_all bs_all (pa_cons (pe_lc (own := [("name", 2)]) (g := gName 2) (tt := tYes) (by rfl) nd (pi_tup (pv 1)) (blkOk_by (N := n_are_hands) (sc := defScope s_are_hands) (by decide +kernel))
        (fun _ _ _ _ _ => pg_name (i := 2) nd rfl (Or.inl rfl)) (fun _ _ _ _ _ => pts_nil) (fun _ _ _ _ _ => pe_cmpR (op_inO (m_Pcon T) hr (by decide)) (pv 2) (pv 0) (by rfl))) pa_nil))))), ?_⟩
  refine ⟨_, rfl, p, _, rfl, .inr (SqT.of hp), _, _, rfl, rfl, true, eqT (by rw [List.length_map]; omega), ?_⟩
  refine ifT rfl ?_
  refine ⟨_, _, rfl, rfl, _, eqT (by rw [List.length_map]; omega), ?_⟩
  refine ifT rfl ?_
  refine ⟨_, rfl, p, rfl, ⟨_, SqT.of hp⟩, fun D hD => lc_same (fun i y H => y = .bl true) hD (fun i y H H' k h => h) (by rw [List.length_map]; exact smlt (by omega)) (walks_tup (SqT.of hp)) (fun i x H' hx sx C hC => ?_) fun H2 acc s2 hacc hl hR => ?_⟩
  · rw [List.getElem?_map] at hx
    obtain ⟨b, hb2, rfl⟩ := Option.map_eq_some_iff.mp hx
    obtain ⟨a, dx, ss, cc, ll, s0, s1, rfl, g2, _⟩ := id hP
    exact ⟨rfl, _, rfl, _, rfl, a, dx, _, rfl, sx _ _ g2, _, B, b, rfl, Keep.prog (Same.keep sx) hP, fun H' s' => ⟨true, rfl, hC _ _ s' rfl⟩⟩
  obtain ⟨e1, e2⟩ := all_bl hl hR
  refine ⟨D, _, rfl, SqL.of (by rw [hacc, e1]), ?_⟩
  rw [e2]
  exact hQ _ s2
def sp_check_table : Sp := fun vs H Q _ => vs = [.int 1, .str "any", .int 1] ∧ Q .non H
theorem c_check_table : CalW P w K mg base 3 "check_table" sp_check_table := by
  obtain ⟨fd, F⟩ := T.d_check_table
  refine cal_of F T.glo_check_table (F.binds fun _ _ _ _ _ _ us hl => match us, hl with | [_, _, _], _ => rfl) sc_check_table (fun vs H Q E h => by obtain ⟨rfl, _⟩ := h; rfl) fun cdv A outer s H vs Q E hr h => ?_
  obtain ⟨rfl, hQ⟩ := h
  have nd := sc_check_table.nd
  obtain ⟨t1, g1⟩ := T.int_MOST_SIZE
  obtain ⟨t2, g2⟩ := T.int_MOST_TURNS
  refine ⟨_, pss_cons (ps_if (pt_not (pt_val (pe_w (c_is_within T) hr (by decide) (by rfl) (pa_cons (pv 0) (pa_cons pe_int (pa_cons (pe_glob (v := .int 60) (by rfl) g1 ⟨_, rfl⟩) pa_nil)))))) (pss_one ps_never) pss_nil)
    (pss_cons (ps_if (PW.pt (pw_or (pt_not (pt_val (pe_callB (r := rIsi K) call_isi (by rfl) T.free_isinstance bs_isi (pa_cons (pv 1) (pa_cons (pe_bltn (v := .ty "str") (by rfl) T.free_str bs_str rfl) pa_nil)))))
      (pw_or1 (pt_cmpR (r := rIn K true) op_notIn_seq (pv 1) (pe_glob (v := .ref (He.ga K "BOOKS")) (by rfl) T.glo_BOOKS rfl) (by rfl))))) (pss_one ps_never) pss_nil)
    (pss_one (ps_if (pt_not (pt_val (pe_w (c_is_within T) hr (by decide) (by rfl) (pa_cons (pv 2) (pa_cons pe_int (pa_cons (pe_glob (v := .int 4) (by rfl) g2 ⟨_, rfl⟩) pa_nil)))))) (pss_one ps_never) pss_nil))), ?_⟩
  refine ⟨_, rfl, 1, 1, 60, rfl, by decide, by decide, true, rfl, ?_⟩
  refine ifF rfl ?_
  refine ⟨_, rfl, _, _, _, _, true, rfl, .ty _, .base (.str _), isi_str, true, rfl, ?_⟩
  refine ifF rfl ?_
  refine ⟨_, rfl, _, _, rfl, .inr (T.tup_BOOKS H), rfl, by decide, _, rfl, ?_⟩
  refine ifF (by decide) ?_
  refine ⟨_, rfl, 1, 1, 4, rfl, by decide, by decide, true, rfl, ?_⟩
  exact ifF rfl hQ
/-! ### Bench(program, .., size=, book=, turns=) -/
def sp_Bench_init (K : PySem.W.Frag) : Sp := fun vs H Q _ => ∃ (x dx p : Addr) (pv : V) (B : Bn), vs = [.ref x, pv, .int 1, .str "any", .int 1, .ref p] ∧ H x = some (.ins (CB K) dx []) ∧ ProgIs K H pv B ∧ B.Ok ∧ H p = some (.tup (B.hs.map fun b => V.str (nmOf b))) ∧
  ∀ H', SameX x H H' → BenchIs K H' (.ref x) B → Q .non H'
theorem f_Bench_init : FnKS P w K mg base 6 (He.ma K (He.ga K "Bench") "__init__") 2 ["size", "book", "turns"] (sp_Bench_init K) := by
  obtain ⟨fd, F⟩ := T.d_Bench_init
  refine fn_ks (k := 5) (ps := ["self", "program", "size", "book", "turns"]) (pv := "hands") F sc_Bench_init rfl (fun kV doc pm an cdv ct us rest ws l1 l2 h1 h3 => ?_) fun cdv A outer s H vs Q E hr h => ?_
  · match us, l1, ws, l2, rest, h1, h3 with
    | [_, _], _, [_, _, _], _, [_], _, _ => rfl
    | [_, _], _, [_, _, _], _, [_, _], _, _ => rfl
    | [_, _], _, [_, _, _], _, [_, _, _], _, _ => rfl
  obtain ⟨x, dx, p, pv', B, rfl, hx, hP, ok, hp, hQ⟩ := h
  have nd := sc_Bench_init.nd
  refine ⟨_, pss_cons (ps_if (pt_not (pt_val (pe_callB (r := rIsC (CP K)) (C8.call_isC T.ins_Program) (by rfl) T.free_isinstance bs_isi (pa_cons (pv 1) (pa_cons (pe_glob (v := .ref (He.ga K "Program")) (by rfl) T.glo_Program rfl) pa_nil))))) (pss_one ps_never) pss_nil)
    (pss_cons (ps_if (pt_not (pt_val (pe_w (c_are_hands T) hr (by decide) (by rfl) (pa_cons (pv 1) (pa_cons (pv 5) pa_nil))))) (pss_one ps_never) pss_nil)
    (pss_cons (ps_expr (pe_w (c_check_table T) hr (by decide) (by rfl) (pa_cons (pv 2) (pa_cons (pv 3) (pa_cons (pv 4) pa_nil)))))
    (pss_cons (ps_fld (pv 0) (pv 1) rfl)
    (pss_cons (ps_fld (pv 0) (pe_tupleOf (by rfl) T.free_tuple (pv 5)) rfl)
    (pss_cons (ps_fld (pv 0) (pv 2) rfl)
    (pss_cons (ps_fld (pv 0) (pv 3) rfl)
    (pss_one (ps_fld (pv 0) (pv 4) rfl)))))))), ?_⟩
  obtain ⟨a, adx, ss, cc, ll, s0, s1, rfl, g2, _⟩ := id hP
  refine ⟨_, rfl, a, adx, _, rfl, g2, true, rfl, ?_⟩
  refine ifF rfl ?_
  refine ⟨_, rfl, _, rfl, _, p, B, rfl, hP, ok, hp, fun H1 s1 => ⟨true, rfl, ?_⟩⟩
  refine ifF rfl ?_
  refine ⟨_, rfl, _, rfl, _, rfl, rfl, ?_⟩
  have hx1 := s1 _ _ hx
  refine ⟨_, rfl, _, rfl, x, _, dx, _, rfl, hx1, T.cls_Bench, T.noat_Bench_kept_program, by show 0 < 1000; decide, ?_⟩
  have npx : p ≠ x := ne_of hp hx (fun z => nomatch z)
  have k1 := (SameX.of s1 (x := x)).trans (sameX_upd (H := H1) (x := x) (o := .ins (CB K) dx (putF "kept_program" (.ref a) [])))
  refine ⟨_, rfl, .inr ⟨p, _, rfl, SqT.of (k1 _ _ npx hp), _, rfl, x, _, dx, _, rfl, upd_same, T.cls_Bench, T.noat_Bench_kept_hands, by show 1 < 1000; decide, ?_⟩⟩
  refine ⟨_, rfl, _, rfl, x, _, dx, _, rfl, upd_same, T.cls_Bench, T.noat_Bench_kept_size, by show 2 < 1000; decide, ?_⟩
  refine ⟨_, rfl, _, rfl, x, _, dx, _, rfl, upd_same, T.cls_Bench, T.noat_Bench_kept_book, by show 3 < 1000; decide, ?_⟩
  refine ⟨_, rfl, _, rfl, x, _, dx, _, rfl, upd_same, T.cls_Bench, T.noat_Bench_kept_turns, by show 4 < 1000; decide, ?_⟩
  have fin : ∀ H', SameX x H H' → H' x = some (.ins (CB K) dx (benchF (.ref a) p)) → Q .non H' := fun H' k5 e => hQ _ k5 ⟨x, dx, _, p, rfl, e, k5.prog hx T.ne_BS T.ne_BP hP, k5 _ _ npx hp⟩
  exact fin _ (k1.trans (SameX.trans sameX_upd (SameX.trans sameX_upd (SameX.trans sameX_upd sameX_upd)))) upd_same
end
end Wv
end WwG_part
section WwH_part
set_option Elab.async false
set_option linter.all false
set_option maxRecDepth 100000
set_option maxHeartbeats 1000000
/-! WwH: a bench is called. -/
namespace Wv
open PySem L2 PySem.Spec
open PyProof.Rows

/-! ### runs, plainly -/
def nextP (ps : List Nat) (h : Nat) : List Nat := ps.set h (ps.getD h 0 + 1)
theorem mem_stepsTo {B : Bn} {ps : List Nat} {s : Nat × Nat} : ∀ {k : Nat}, s ∈ stepsTo B ps k ↔ s.1 < k ∧ s.2 < B.cho s.1 (ps.getD s.1 0) := by
  intro k
  unfold stepsTo
  rw [List.mem_flatMap]
  constructor
  · rintro ⟨h, hh, hs⟩
    unfold stepsAt at hs
    obtain ⟨c, hc, rfl⟩ := List.mem_map.mp hs
    exact ⟨List.mem_range.mp hh, List.mem_range.mp hc⟩
  · rintro ⟨h1, h2⟩
    refine ⟨s.1, List.mem_range.mpr h1, ?_⟩
    unfold stepsAt
    exact List.mem_map.mpr ⟨s.2, List.mem_range.mpr h2, rfl⟩
theorem step_facts {B : Bn} {ps : List Nat} {h c : Nat} (hp : PsOk B ps) (hs : (h, c) ∈ stepsOf B ps) : ∃ b p r, B.hs[h]? = some b ∧ ps[h]? = some p ∧ (B.rows b)[p]? = some r ∧ c < r.ways ∧ nextP ps h = ps.set h (p + 1) := by
  obtain ⟨h1, h2⟩ := mem_stepsTo.mp hs
  have h1 : h < B.hs.length := h1
  have h2 : c < B.cho h (ps.getD h 0) := h2
  obtain ⟨b, eb⟩ : ∃ b, B.hs[h]? = some b := ⟨_, List.getElem?_eq_getElem h1⟩
  obtain ⟨p, ep⟩ : ∃ p, ps[h]? = some p := ⟨_, List.getElem?_eq_getElem (by rw [hp.len]; exact h1)⟩
  have ed : ps.getD h 0 = p := by rw [List.getD_eq_getElem?_getD, ep]; rfl
  rw [ed] at h2
  unfold Bn.cho at h2
  rw [Bn.at_of eb] at h2
  cases er : (B.rows b)[p]? with
  | none => rw [er] at h2; exact absurd h2 (Nat.not_lt_zero _)
  | some r =>
    rw [er] at h2
    exact ⟨b, p, r, eb, ep, er, h2, by unfold nextP; rw [ed]⟩
theorem PsOk.next {B : Bn} {ps : List Nat} {h c : Nat} (hp : PsOk B ps) (hs : (h, c) ∈ stepsOf B ps) : PsOk B (nextP ps h) := by
  obtain ⟨b, p, r, eb, ep, er, hc, en⟩ := step_facts hp hs
  rw [en]
  refine ⟨by rw [List.length_set]; exact hp.len, fun h' b' p' e1 e2 => ?_⟩
  by_cases hh : h = h'
  · subst hh
    obtain rfl : b = b' := Option.some.inj (eb.symm.trans e1)
    rw [List.getElem?_set_self (List.getElem?_eq_some_iff.mp ep).1] at e2
    cases e2
    exact (List.getElem?_eq_some_iff.mp er).1
  · rw [List.getElem?_set_ne hh] at e2
    exact hp.le h' b' p' e1 e2
/-- a run that can be made from the places ps -/
def RunOk (B : Bn) : List Nat → List (Nat × Nat) → Prop
  | _, [] => True
  | ps, s :: ss => s ∈ stepsOf B ps ∧ RunOk B (nextP ps s.1) ss
def ps0 (B : Bn) : List Nat := List.replicate B.hs.length 0
theorem psOk0 {B : Bn} : PsOk B (ps0 B) := by
  refine ⟨List.length_replicate, fun h b p e1 e2 => ?_⟩
  unfold ps0 at e2
  rw [List.getElem?_replicate] at e2
  split at e2
  · cases e2; exact Nat.zero_le _
  · cases e2
section
variable {P : Program} {w : World} {K : PySem.W.Frag} {mg : Str → Option Value} {base : Heap} (T : Top w K mg)
include T
def sp_is_step : Sp := fun vs H Q _ => ∃ (v : V) (s : Nat × Nat), vs = [v] ∧ StepIs H v s ∧ Q (.bl true) H
theorem c_is_step : CalW P w K mg base 3 "is_step" sp_is_step := by
  obtain ⟨fd, F⟩ := T.d_is_step
  refine cal_of F T.glo_is_step (F.binds fun _ _ _ _ _ _ us hl => match us, hl with | [_], _ => rfl) sc_is_step (fun vs H Q E h => by obtain ⟨_, _, rfl, _⟩ := h; rfl) fun cdv A outer s H vs Q E hr h => ?_
  obtain ⟨v, ⟨h, c⟩, rfl, hs, hQ⟩ := h
  obtain ⟨a, rfl, ha⟩ := hs
  refine ⟨_, pss_one (ps_ret (pe_and (pe_callB (r := rIsi K) call_isi (by rfl) T.free_isinstance bs_isi (pa_cons (pv 0) (pa_cons (pe_bltn (v := .ty "tuple") (by rfl) T.free_tuple bs_tuple rfl) pa_nil)))
    (pe_and (pe_cmpR op_eq (pe_callB (r := rLenS K) call_len_seq (by rfl) T.free_len PySem.boot_len (pa_cons (pv 0) pa_nil)) pe_int (nomark _))
    (pe_and (pe_w (c_is_count T) hr (by decide) (by rfl) (pa_cons (pe_ix ix_tup (pv 0) pe_int (fun _ _ => rfl)) pa_nil))
    (pe_one (pe_w (c_is_count T) hr (by decide) (by rfl) (pa_cons (pe_ix ix_tup (pv 0) pe_int (fun _ _ => rfl)) pa_nil))))))), ?_⟩
  refine ⟨_, rfl, _, _, _, _, true, rfl, .ty _, .base (.tup ha), kit_tt, true, rfl, ?_⟩
  refine ifT rfl ?_
  refine ⟨_, rfl, a, _, rfl, .inr (SqT.of ha), rfl, true, rfl, ?_⟩
  refine ifT rfl ?_
  refine ⟨_, rfl, a, _, 0, _, rfl, rfl, SqT.of ha, rfl, h, rfl, by omega, true, rfl, ?_⟩
  refine ifT rfl ?_
  exact ⟨_, rfl, a, _, 1, _, rfl, rfl, SqT.of ha, rfl, c, rfl, by omega, hQ⟩
def sp_can_step (K : PySem.W.Frag) : Sp := fun vs H Q _ => ∃ bv sv v B ps m s, vs = [bv, sv, v] ∧ BenchIs K H bv B ∧ B.Ok ∧ StIs H sv ps m ∧ PsOk B ps ∧ StepIs H v s ∧ s ∈ stepsOf B ps ∧ ∀ H', Same H H' → Q (.bl true) H'
theorem c_can_step : CalW P w K mg base 7 "can_step" (sp_can_step K) := by
  obtain ⟨fd, F⟩ := T.d_can_step
  refine cal_of F T.glo_can_step (F.binds fun _ _ _ _ _ _ us hl => match us, hl with | [_, _, _], _ => rfl) sc_can_step (fun vs H Q E h => by obtain ⟨_, _, _, _, _, _, _, rfl, _⟩ := h; rfl) fun cdv A outer s H vs Q E hr h => ?_
  obtain ⟨bv, sv, v, B, ps, m, ⟨h, c⟩, rfl, hb, ok, hst, hp, hs, hm, hQ⟩ := h
  obtain ⟨b, p, r, eb, ep, er, hc, _⟩ := step_facts hp hm
  obtain ⟨a, dx, pv', hh, rfl, h1, h2, h3⟩ := hb.un
  obtain ⟨va, rfl, hva⟩ := id hs
  refine ⟨_, pss_cons (ps_if (PW.pt (pw_or (pt_not (pt_val (pe_w (c_is_step T) hr (by decide) (by rfl) (pa_cons (pv 2) pa_nil))))
      (pw_or1 (pt_cmpR op_ge (pe_ix ix_tup (pv 2) pe_int (fun _ _ => rfl)) (pe_callB (r := rLenS K) call_len_seq (by rfl) T.free_len PySem.boot_len (pa_cons (pe_pr (p_Bench_hands T) hr (by decide) (pv 0)) pa_nil)) (nomark _))))) (pss_one ps_never) pss_nil)
    (pss_one (ps_ret (pe_cmpR (r := rIn K false) op_in_seq (pe_ix ix_tup (pv 2) pe_int (fun _ _ => rfl)) (pe_w (c_choices_of T) hr (by decide) (by rfl) (pa_cons (pv 0) (pa_cons (pv 1) (pa_cons (pe_ix ix_tup (pv 2) pe_int (fun _ _ => rfl)) pa_nil)))) (by rfl)))), ?_⟩
  have hlt : h < B.hs.length := (List.getElem?_eq_some_iff.mp eb).1
  have hple : p < (B.rows b).length := (List.getElem?_eq_some_iff.mp er).1
  refine ⟨_, rfl, _, (h, c), rfl, hs, true, rfl, ?_⟩
  refine ifF rfl ?_
  refine ⟨_, rfl, va, _, 0, _, rfl, rfl, SqT.of hva, rfl, _, rfl, a, dx, _, _, rfl, h1, rfl, hh, _, rfl, .inr (SqT.of h3), _, _, rfl, rfl, _, rfl, ?_⟩
  refine ifF (decide_eq_false (by rw [List.length_map]; omega)) ?_
  refine ⟨_, rfl, va, _, 1, _, rfl, rfl, SqT.of hva, rfl, _, rfl, _, rfl, _, rfl, va, _, 0, _, rfl, rfl, SqT.of hva, rfl, _, _, B, ps, m, h, b, p, rfl, hb, ok, hst, eb, ep, by omega, fun q H' s' hq => ⟨q, _, rfl, .inr (SqT.of hq), rfl, ?_, ?_⟩⟩
  · exact List.all_eq_true.mpr fun v hv => by
      obtain ⟨z, _, rfl⟩ := List.mem_map.mp hv
      rfl
  · have hcho : B.cho h p = r.ways := by unfold Bn.cho; rw [Bn.at_of eb, er]
    have e : inV (.int (c : Nat)) (chV (B.cho h p)) = true := by
      rw [hcho]
      exact List.any_eq_true.mpr ⟨.int (c : Nat), List.mem_map.mpr ⟨c, List.mem_range.mpr hc, rfl⟩, by show ((c : Int) == (c : Int)) = true; simp⟩
    show Q (.bl (if false = true then _ else inV (.int (c : Nat)) (chV (B.cho h p)))) H'
    rw [e]
    exact hQ _ s'
end
end Wv
end WwH_part
section WwI_part
set_option Elab.async false
set_option linter.all false
set_option maxRecDepth 100000
set_option maxHeartbeats 1000000
/-! WwI: bench(run). -/
namespace Wv
open PySem L2 PySem.Spec StX
open PyProof.Rows

/-- n words 'done' -/
def dones (n : Nat) : List V := List.replicate n (.str "done")
theorem paired_at {α β : Type} {G : α → β → Prop} : ∀ {l₁ : List α} {l₂ : List β}, Paired G l₁ l₂ → ∀ {i : Nat} {a : α}, l₁[i]? = some a → ∃ b, l₂[i]? = some b ∧ G a b := L2.paired_get
theorem RunOk.at {B : Bn} : ∀ {ss : List (Nat × Nat)} {ps : List Nat} {i : Nat} {s : Nat × Nat}, RunOk B ps (ss.drop i) → ss[i]? = some s → s ∈ stepsOf B ps ∧ RunOk B (nextP ps s.1) (ss.drop (i + 1)) := by
  intro ss ps i s h e
  have hi := (List.getElem?_eq_some_iff.mp e).1
  have e2 : ss[i] = s := (List.getElem?_eq_some_iff.mp e).2
  rw [List.drop_eq_getElem_cons hi, e2] at h
  exact h
section
variable {P : Program} {w : World} {K : PySem.W.Frag} {mg : Str → Option Value} {base : Heap} (T : Top w K mg)
include T
def sp_Bcall (K : PySem.W.Frag) : Sp := fun vs H Q _ => ∃ bv r B xs ss, vs = [bv, .ref r] ∧ BenchIs K H bv B ∧ B.Ok ∧ H r = some (.tup xs) ∧ Paired (StepIs H) xs ss ∧ xs.length ≤ 900 ∧ RunOk B (ps0 B) ss ∧ ∀ q H', Same H H' → H' q = some (.tup (dones xs.length)) → Q (.ref q) H'
theorem m_Bcall : MetW P w K mg base 8 (CB K) "__call__" (sp_Bcall K) := by
  obtain ⟨fd, F⟩ := T.d_Bench_call
  refine met_of F T.meth_Bench_call (F.binds fun _ _ _ _ _ _ us hl => match us, hl with | [_, _], _ => rfl) sc_Bench_call (fun vs H Q E h => by obtain ⟨_, _, _, _, _, rfl, _⟩ := h; rfl) fun cdv A outer s H vs Q E hr h => ?_
  obtain ⟨bv, r, B, xs, ss, rfl, hb, ok, hr1, hP, hz, hrun, hQ⟩ := h
  have nd := sc_Bench_call.nd
  have hn := ok.ah
  refine ⟨_, pss_cons (ps_if (pt_not (pt_val (pe_callB (r := rIsiT K) call_isiT (by rfl) T.free_isinstance bs_isi (pa_cons (pv 1) (pa_cons (pe_tup (pa_cons (pe_bltn (v := .ty "list") (by rfl) T.free_list bs_list rfl) (pa_cons (pe_bltn (v := .ty "tuple") (by rfl) T.free_tuple bs_tuple rfl) pa_nil))) pa_nil))))) (pss_one ps_never) pss_nil)
    (pss_cons (ps_set (i := 2) nd rfl (Or.inl rfl) (pe_w (c_first_state T) hr (by decide) (by rfl) (pa_cons (pv 0) pa_nil)))
    (pss_cons (ps_set (i := 3) nd rfl (Or.inl rfl) (pe_lst pa_nil))
    (pss_cons (ps_for PassesOwn.never (by rfl) (pi_tup (pv 1)) (pg_name (i := 4) nd rfl (Or.inl rfl))
      (pss_cons (ps_if (PW.pt (pw_or (pt_cmpR (r := rIn K false) op_in_seq pe_str (pv 3) (by rfl)) (pw_or1 (pt_not (pt_val (pe_w (c_can_step T) hr (by decide) (by rfl) (pa_cons (pv 0) (pa_cons (pv 2) (pa_cons (pv 4) pa_nil))))))))) (pss_one ps_never) pss_nil)
      (pss_cons (ps_asg (pe_w (c_stepped T) hr (by decide) (by rfl) (pa_cons (pv 0) (pa_cons (pv 2) (pa_cons (pe_ix ix_tup (pv 4) pe_int (fun _ _ => rfl)) (pa_cons (pe_ix ix_tup (pv 4) pe_int (fun _ _ => rfl)) pa_nil))))) (pg_tup (by rfl) (pgs_cons (pg_name (i := 2) nd rfl (Or.inl rfl)) (pgs_cons (pg_name (i := 5) nd rfl (Or.inl rfl)) pgs_nil))))
      (pss_one (ps_expr (pe_bm PySem.F.plainAttrs_list PySem.F.slot_list_append PySem.F.type_list_append mt_append (pv 3) (pa_cons (pv 5) pa_nil)))))))
    (pss_one (ps_ret (pe_tupleOf (by rfl) T.free_tuple (pv 3))))))), ?_⟩
  have kit_tl : PySem.W.kitAny K (.type "tuple") [.type "list", .type "tuple"] = some true := kitAny_cons (b := false) (kit_ty (by decide +kernel)) (fun _ => kitAny_cons (b := true) (kit_ty (by decide +kernel)) (fun e => nomatch e) (fun _ => rfl)) (fun e => nomatch e)
  refine ⟨_, rfl, by show 2 ≤ sizeLine; decide, fun p np => ?_⟩
  have s1 := same_upd (o := .tup [V.ty "list", V.ty "tuple"]) np
  refine ⟨_, p, _, _, _, true, rfl, upd_same, .cons (.ty _) (.cons (.ty _) .nil), .base (.tup (s1 _ _ hr1)), kit_tl, true, rfl, ?_⟩
  refine ifF rfl ?_
  obtain ⟨H1, eH1⟩ : ∃ H1, H1 = upd H p (.tup [V.ty "list", V.ty "tuple"]) := ⟨_, rfl⟩
  rw [← eH1] at s1 ⊢
  refine ⟨_, rfl, _, B, rfl, Keep.bench (Same.keep s1) hb, by omega, fun st H2 s2 hst => ⟨by show 0 ≤ sizeLine; decide, fun D hD => ?_⟩⟩
  have s02 := s1.trans s2
  have hHD : H D = none := by
    cases e : H D with
    | none => rfl
    | some o => rw [s02 _ _ e] at hD; cases hD
  have s3 := same_upd (o := .lst []) hD
  refine ⟨_, rfl, r, rfl, ⟨_, SqT.of (s3 _ _ (s02 _ _ hr1))⟩, ?_⟩
  refine for_tup (xs := xs) (fun i σ H' => Same H H' ∧ ∃ st ps o o2, σ = [some bv, some (.ref r), some st, some (.ref D), o, o2] ∧ StIs H' st ps B.hs.length ∧ PsOk B ps ∧ H' D = some (.lst (dones i)) ∧ RunOk B ps (ss.drop i)) ⟨s02.trans s3, st, ps0 B, _, _, rfl, Keep.st (Same.keep s3) hst, psOk0, upd_same, hrun⟩ (fun i σ H' _ q => SqT.of (q.1 _ _ hr1)) (fun i v σ H' hv q => ?_) (fun σ H' q => ?_)
  · obtain ⟨sH, st, ps, o, o2, rfl, hst, hps, hDl, hro⟩ := q
    obtain ⟨⟨h, c⟩, es, hsv⟩ := paired_at hP hv
    obtain ⟨hm, hro'⟩ := hro.at es
    obtain ⟨b, p', rw', eb, ep, er, hc, en⟩ := step_facts hps hm
    have hi : i < xs.length := (List.getElem?_eq_some_iff.mp hv).1
    have hb' := Keep.bench (Same.keep sH) hb
    have hsv' := Keep.step (Same.keep sH) hsv
    refine ⟨_, rfl, D, _, rfl, .inl (SqL.of hDl), rfl, ?_, _, rfl, ?_⟩
    · exact List.all_eq_true.mpr fun v hv => by rw [List.eq_of_mem_replicate hv]; rfl
    have hno : inV (.str "fault") (dones i) = false := List.any_eq_false.mpr fun v hv => by
      rw [List.eq_of_mem_replicate hv]; decide
    refine ifF (by rw [hno]; rfl) ?_
    refine ⟨_, rfl, _, rfl, _, rfl, _, _, _, B, ps, _, (h, c), rfl, hb', ok, hst, hps, hsv', hm, fun H3 s3 => ⟨true, rfl, ?_⟩⟩
    refine ifF rfl ?_
    obtain ⟨va, rfl, hva⟩ := Keep.step (Same.keep s3) hsv'
    have hps9 : ps.length ≤ 900 := by rw [hps.len]; omega
    refine ⟨_, rfl, _, rfl, _, rfl, va, _, 0, _, rfl, rfl, SqT.of hva, rfl, _, rfl, va, _, 1, _, rfl, rfl, SqT.of hva, rfl, _, _, B, ps, _, h, b, p', rw', c, rfl, Keep.bench (Same.keep s3) hb', ok, Keep.st (Same.keep s3) hst, hps9, eb, ep, er, hc, fun q av H4 s4 hq hav => ?_⟩
    refine ⟨q, _, rfl, SqT.of hq, rfl, _, _, rfl, _, _, rfl, rfl, ?_⟩
    have hD4 := s4 _ _ (s3 _ _ hDl)
    refine ⟨_, rfl, .inl ⟨rfl, _, SqL.of hD4⟩, _, rfl, D, _, _, rfl, rfl, hD4, by unfold dones; rw [List.length_replicate]; exact smlt (by omega), ?_⟩
    have s04 := sH.trans (s3.trans s4)
    refine ⟨fun b u e => by rw [upd_ne (ne_of_none e hHD)]; exact s04 _ _ e, av, nextP ps h, _, _, rfl, ?_, hps.next hm, ?_, hro'⟩
    · rw [en]; exact Keep.st (keep_upd hD4) hav
    · rw [upd_same]; unfold dones; rw [List.replicate_succ']
  · obtain ⟨sH, st, ps, o, o2, rfl, hst, hps, hDl, hro⟩ := q
    exact ⟨_, rfl, .inl ⟨D, _, rfl, SqL.of hDl, fun q nq => hQ q _ (sH.trans (same_upd nq)) upd_same⟩⟩
theorem Top.callO : CallO K (CB K) (He.ma K (He.ga K "Bench") "__call__") := ⟨T.meth_Bench_call.at_, T.meth_Bench_call.fn, T.fnin_call⟩
end
section
variable {X : Cx} {j : Nat} {fe e : Expr} {tf te : TE} {pos : Pos}
/-- bench(run) -/
theorem pe_bench {w : World} {mg : Str → Option Value} (T : Top w X.K X.mg) (ew : X.w = w) (hr : Room j X.A) (hj : 8 ≤ j) (hf : PE X fe tf) (ha : PE X e te)
    (ht : eval (.Call fe [e] [] pos) X.env = (do callWith pos (← eval fe X.env) [] (backTo pos (starEach [e] X.env)) (backToKw pos (keywordEach [] X.env))) := by rfl)
    (he : starEach [e] X.env = (false, eval e X.env) :: starEach [] X.env := by rfl) : PE X (.Call fe [e] [] pos) (tCallO X (CB X.K) (sp_Bcall X.K) E0 tf (tCons te tNil)) := by
  subst ew
  obtain ⟨f, fd, ps, hm, F, b⟩ := (m_Bcall (P := X.prog) (w := X.w) (base := X.base) T).ex
  have ef : f = He.ma X.K (He.ga X.K "Bench") "__call__" := by
    have e1 := hm.at_
    rw [T.meth_Bench_call.at_] at e1
    cases e1; rfl
  subst ef
  have R : FnR X.prog X.w X.K X.mg X.base CX0 8 (He.ma X.K (He.ga X.K "Bench") "__call__") (sp_Bcall X.K) := (F.raw b .nil).imp fun vs H Q E h => by rw [List.append_nil]; exact h
  exact pe_callO hf (Top.callO T) R (hr.mono hj) pass0 (pa_cons ha pa_nil he) ht he
end
end Wv
end WwI_part
section WwJ_part
set_option Elab.async false
set_option linter.all false
set_option maxRecDepth 100000
set_option maxHeartbeats 1000000
/-! WwJ: the pool. -/
namespace Wv
open PySem L2 PySem.Spec
open PyProof.Rows

/-- all but the two lists is as it was -/
def But (l c : Addr) (H H' : Hp) : Prop := ∀ b o, b ≠ l → b ≠ c → H b = some o → H' b = some o
theorem But.refl {l c : Addr} {H : Hp} : But l c H H := fun _ _ _ _ e => e
theorem But.trans {l c : Addr} {H H1 H2 : Hp} (a : But l c H H1) (b : But l c H1 H2) : But l c H H2 := fun x o n m e => b x o n m (a x o n m e)
theorem But.of {l c : Addr} {H H' : Hp} (s : Same H H') : But l c H H' := fun x o _ _ e => s x o e
theorem but_l {l c : Addr} {H : Hp} {o : HO} : But l c H (upd H l o) := fun x u n _ e => by rw [upd_ne n]; exact e
theorem but_c {l c : Addr} {H : Hp} {o : HO} : But l c H (upd H c o) := fun x u _ n e => by rw [upd_ne n]; exact e
def poolV (c : Addr) (i : Nat) (t s g : Int) : List V := [.ref c, .int i, .int t, .int s, .int g]
def PoolIs (H : Hp) (l c : Addr) : Prop := l ≠ c ∧ ∃ (ns : List Int) (i : Nat) (t s g : Int), H l = some (.lst (poolV c i t s g)) ∧ H c = some (.lst (ns.map V.int))
theorem PoolIs.same {H H' : Hp} {l c : Addr} (s : Same H H') (p : PoolIs H l c) : PoolIs H' l c := by
  obtain ⟨n, ns, i, t, s', g, h1, h2⟩ := p
  exact ⟨n, ns, i, t, s', g, s _ _ h1, s _ _ h2⟩
theorem PoolIs.set {H : Hp} {l c : Addr} {ns : List Int} {i : Nat} {t s g : Int} (n : l ≠ c) (h2 : H c = some (.lst (ns.map V.int))) : PoolIs (upd H l (.lst (poolV c i t s g))) l c :=
  ⟨n, ns, i, t, s, g, upd_same, by rw [upd_ne n.symm]; exact h2⟩
section
variable {P : Program} {w : World} {K : PySem.W.Frag} {mg : Str → Option Value} {base : Heap} (T : Top w K mg)
include T
def sp_mixed : Sp := fun vs H Q _ => ∃ (l c : Addr) (many : Int), vs = [.ref l, .int many] ∧ PoolIs H l c ∧ 1 ≤ many ∧ many < 100000000 ∧ ∀ (r : Int) H', But l c H H' → PoolIs H' l c → 0 ≤ r → r < many → Q (.int r) H'
theorem c_mixed : CalW P w K mg base 1 "_law_mixed" sp_mixed := by
  obtain ⟨fd, F⟩ := T.d__law_mixed
  refine cal_of F T.glo__law_mixed (F.binds fun _ _ _ _ _ _ us hl => match us, hl with | [_, _], _ => rfl) sc__law_mixed (fun vs H Q E h => by obtain ⟨_, _, _, rfl, _⟩ := h; rfl) fun cdv A outer s H vs Q E hr h => ?_
  obtain ⟨l, c, many, rfl, hp, h1, h2, hQ⟩ := h
  have nd := sc__law_mixed.nd
  refine ⟨_, pss_cons (ps_asg (pe_op op_add (pe_ix ix_list (pv 0) pe_int (fun _ _ => rfl)) pe_int) (pg_sub (pv 0) pe_int set_list))
    (pss_cons (ps_set (i := 2) nd rfl (Or.inl rfl) (pe_ix ix_list (pv 0) pe_int (fun _ _ => rfl)))
    (pss_cons (ps_for PassesOwn.never (by rfl) (pi_range1 (by rfl) T.free_range (pa_cons (pe_op op_add pe_int (pe_op op_fdiv (pe_callB call_len_str (by rfl) T.free_len PySem.boot_len (pa_cons (pe_callTy call_str_int (by rfl) T.free_str bs_str (pa_cons (pv 1) pa_nil)) pa_nil)) pe_int)) pa_nil)) (pg_name (i := 3) nd rfl (Or.inl rfl))
      (pss_cons (ps_asg (pe_op op_mod (pe_op op_add (pe_op op_add (pe_op op_mul (pe_ix ix_list (pv 0) pe_int (fun _ _ => rfl)) pe_int) (pe_op op_mul (pe_ix ix_list (pv 0) pe_int (fun _ _ => rfl)) pe_int)) pe_int) pe_int) (pg_sub (pv 0) pe_int set_list))
      (pss_one (ps_set (i := 2) nd rfl (Or.inl rfl) (pe_op op_add (pe_op op_mul (pv 2) pe_int) (pe_op op_fdiv (pe_ix ix_list (pv 0) pe_int (fun _ _ => rfl)) pe_int))))))
    (pss_one (ps_ret (pe_op op_mod (pv 2) (pv 1)))))), ?_⟩
  obtain ⟨n, ns, i, t, sd, g, e1, e2⟩ := hp
  refine ⟨_, rfl, l, _, 2, _, rfl, rfl, SqL.of e1, rfl, _, _, rfl, rfl, _, rfl, l, _, 2, 2, rfl, rfl, e1, rfl, ?_⟩
  have p1 : PoolIs (upd H l (.lst (poolV c i (t + 1) sd g))) l c := PoolIs.set n e2
  have b1 := but_l (l := l) (c := c) (H := H) (o := .lst (poolV c i (t + 1) sd g))
  refine ⟨_, rfl, l, _, 3, _, rfl, rfl, SqL.of upd_same, rfl, ?_⟩
  have hlen : (Str.ofString (toString many)).length ≤ 8 := toString_length_le (by omega) (by decide) (by omega)
  refine ⟨_, rfl, many, rfl, ?_, _, rfl, sm (m := 1000) (by omega) (Nat.le_refl _), _, _, rfl, rfl, ⟨by decide, by decide⟩, _, _, rfl, rfl, 1, ?_, by decide, by decide, ?_⟩
  · have : many.natAbs < 2 ^ 30 := by omega
    exact Nat.lt_of_lt_of_le (PySem.Flt.log2_lt_of (by decide) this) (by decide)
  · have : (((Str.ofString (toString many)).length : Nat) : Int) / 9 = 0 := by omega
    show [V.int ((1 : Int) + (((Str.ofString (toString many)).length : Nat) : Int) / 9)] = [V.int 1]
    rw [this]; rfl
  refine for_range (lo := 0) (n := 1) (fun i σ H' => But l c H H' ∧ PoolIs H' l c ∧ ∃ (f : Int) (o : Option V), σ = [some (.ref l), some (.int many), some (.int f), o]) ⟨b1, p1, _, _, rfl⟩ (fun i σ H' hi q => ?_) (fun σ H' q => ?_)
  · obtain ⟨bH, ⟨n, ns, i, t, sd, g, e1, e2⟩, f, o, rfl⟩ := q
    refine ⟨_, rfl, l, _, 3, _, rfl, rfl, SqL.of e1, rfl, _, _, rfl, rfl, .inr ⟨by decide, by decide⟩, _, rfl, l, _, 2, _, rfl, rfl, SqL.of e1, rfl, _, _, rfl, rfl, .inr ⟨by decide, by decide⟩, _, _, rfl, rfl, _, _, rfl, rfl, _, _, rfl, rfl, by show (0 : Int) < 2147483647; decide, _, rfl, l, _, 3, 3, rfl, rfl, e1, rfl, ?_⟩
    refine ⟨_, rfl, _, _, rfl, rfl, .inr ⟨by decide, by decide⟩, _, rfl, l, _, 3, _, rfl, rfl, SqL.of upd_same, rfl, _, _, rfl, rfl, ⟨by decide, by decide⟩, _, _, rfl, rfl, bH.trans but_l, PoolIs.set n e2, _, _, rfl⟩
  · obtain ⟨bH, hp, f, o, rfl⟩ := q
    exact ⟨_, rfl, _, rfl, f, many, rfl, rfl, by show 0 < many; omega, hQ _ _ bH hp (Int.emod_nonneg _ (by omega)) (Int.emod_lt_of_pos _ (by omega))⟩
end
end Wv
end WwJ_part
section WwK_part
set_option Elab.async false
set_option linter.all false
set_option maxRecDepth 100000
set_option maxHeartbeats 1000000
/-! WwK: a draw, a pick, the beginning. -/
namespace Wv
open PySem L2 PySem.Spec
open PyProof.Rows

section
variable {P : Program} {w : World} {K : PySem.W.Frag} {mg : Str → Option Value} {base : Heap} (T : Top w K mg)
include T
theorem c_draw : CalW P w K mg base 2 "_law_draw" sp_mixed := by
  obtain ⟨fd, F⟩ := T.d__law_draw
  refine cal_of F T.glo__law_draw (F.binds fun _ _ _ _ _ _ us hl => match us, hl with | [_, _], _ => rfl) sc__law_draw (fun vs H Q E h => by obtain ⟨_, _, _, rfl, _⟩ := h; rfl) fun cdv A outer s H vs Q E hr h => ?_
  obtain ⟨l, c, many, rfl, hp, h1, h2, hQ⟩ := h
  have nd := sc__law_draw.nd
  refine ⟨_, pss_cons (ps_if (PW.pt (pw_or (pt_cmpR op_ge (pe_ix ix_list (pv 0) pe_int (fun _ _ => rfl)) (pe_callB (r := rLenS K) call_len_seq (by rfl) T.free_len PySem.boot_len (pa_cons (pe_ix ix_list (pv 0) pe_int (fun _ _ => rfl)) pa_nil)) (nomark _)) (pw_or1 (pt_cmpR op_eq (pv 1) pe_int (nomark _)))))
      (pss_one (ps_ret (pe_ifExp (pt_cmpR op_gt (pv 1) pe_int (nomark _)) (pe_w (c_mixed T) hr (by decide) (by rfl) (pa_cons (pv 0) (pa_cons (pv 1) pa_nil))) pe_int))) pss_nil)
    (pss_cons (ps_if (pt_cmpR op_lt (pe_ix ix_list (pe_ix ix_list (pv 0) pe_int (fun _ _ => rfl)) (pe_ix ix_list (pv 0) pe_int (fun _ _ => rfl)) (fun _ _ => rfl)) (pe_op op_pow pe_int pe_int) (nomark _))
      (pss_cons (ps_asg (pe_op op_mod (pe_op op_add (pe_op op_add (pe_op op_add (pe_op op_mul (pe_ix ix_list (pv 0) pe_int (fun _ _ => rfl)) pe_int) (pe_ix ix_list (pe_ix ix_list (pv 0) pe_int (fun _ _ => rfl)) (pe_ix ix_list (pv 0) pe_int (fun _ _ => rfl)) (fun _ _ => rfl))) (pe_ix ix_list (pv 0) pe_int (fun _ _ => rfl))) pe_int) pe_int) (pg_sub (pv 0) pe_int set_list))
      (pss_cons (ps_asg (pe_op op_add (pe_ix ix_list (pv 0) pe_int (fun _ _ => rfl)) pe_int) (pg_sub (pv 0) pe_int set_list))
      (pss_cons (ps_if (pt_cmpR op_eq (pe_op op_mod (pe_ix ix_list (pv 0) pe_int (fun _ _ => rfl)) pe_int) pe_int (nomark _)) (pss_one (ps_asg (pe_op op_add (pe_ix ix_list (pv 0) pe_int (fun _ _ => rfl)) pe_int) (pg_sub (pv 0) pe_int set_list))) pss_nil)
      (pss_one (ps_ret (pe_w (c_mixed T) hr (by decide) (by rfl) (pa_cons (pv 0) (pa_cons (pv 1) pa_nil)))))))) pss_nil)
    (pss_cons (ps_set (i := 2) nd rfl (Or.inl rfl) (pe_op op_mod (pe_ix ix_list (pe_ix ix_list (pv 0) pe_int (fun _ _ => rfl)) (pe_ix ix_list (pv 0) pe_int (fun _ _ => rfl)) (fun _ _ => rfl)) (pv 1)))
    (pss_cons (ps_asg (pe_op op_fdiv (pe_ix ix_list (pe_ix ix_list (pv 0) pe_int (fun _ _ => rfl)) (pe_ix ix_list (pv 0) pe_int (fun _ _ => rfl)) (fun _ _ => rfl)) (pv 1)) (pg_sub (pe_ix ix_list (pv 0) pe_int (fun _ _ => rfl)) (pe_ix ix_list (pv 0) pe_int (fun _ _ => rfl)) set_list))
    (pss_cons (ps_if (pt_cmpR op_eq (pe_ix ix_list (pe_ix ix_list (pv 0) pe_int (fun _ _ => rfl)) (pe_ix ix_list (pv 0) pe_int (fun _ _ => rfl)) (fun _ _ => rfl)) pe_int (nomark _)) (pss_one (ps_asg (pe_op op_add (pe_ix ix_list (pv 0) pe_int (fun _ _ => rfl)) pe_int) (pg_sub (pv 0) pe_int set_list))) pss_nil)
    (pss_one (ps_ret (pv 2))))))), ?_⟩
  obtain ⟨n, ns, i, t, sd, g, e1, e2⟩ := id hp
  have L : SqL K H l (poolV c i t sd g) := SqL.of e1
  have C : SqL K H c (ns.map V.int) := SqL.of e2
  refine ⟨_, rfl, l, _, 1, _, rfl, rfl, L, rfl, _, rfl, l, _, 0, _, rfl, rfl, L, rfl, c, _, rfl, .inl C, _, _, rfl, rfl, _, rfl, ?_⟩
  have first : ∀ D : L2.Ends, D.rt = Q → tRet (tIf (tTest (tOp (rI0 fun i j => .bl (decide (j < i))) (tVar 1) (tC (.int 1)))) (tCall sp_mixed [] E0 (tCons (tVar 0) (tCons (tVar 1) tNil))) (tC (.int 0))) D (start n__law_draw [V.ref l, V.int many]) H := fun D hD => by
    refine ⟨_, rfl, _, _, rfl, rfl, _, rfl, ?_⟩
    by_cases hm : 1 < many
    · refine ifT (decide_eq_true hm) ?_
      refine ⟨_, rfl, _, rfl, l, c, many, rfl, hp, h1, h2, fun r H' b p r0 r1 => ?_⟩
      rw [hD]; exact hQ r H' b p r0 r1
    · refine ifF (decide_eq_false hm) ?_
      show D.rt (.int 0) H
      rw [hD]; exact hQ 0 H But.refl hp (by omega) (by omega)
  by_cases hge : ((ns.map V.int).length : Int) ≤ (i : Int)
  · refine ifT (decide_eq_true hge) ?_
    exact ifT rfl (first _ rfl)
  refine ifF (decide_eq_false hge) ?_
  refine ⟨_, rfl, rfl, _, rfl, ?_⟩
  by_cases hm1 : many = 1
  · refine ifT (by rw [hm1]; rfl) (first _ rfl)
  refine ifF (decide_eq_false fun e => hm1 (V.int.inj e)) ?_
  have hi : i < ns.length := by rw [List.length_map] at hge; omega
  have gi : (ns.map V.int)[i]? = some (.int ns[i]) := by rw [List.getElem?_map, List.getElem?_eq_getElem hi]; rfl
  have gx : ixN (ns.map V.int).length (i : Int) = some i := by
    unfold ixN
    rw [List.length_map, if_pos (by omega), if_pos (by omega)]; rfl
  refine ⟨_, rfl, l, _, 0, _, rfl, rfl, L, rfl, _, rfl, l, _, 1, _, rfl, rfl, L, rfl, c, _, _, _, rfl, rfl, C, atI_nat gi, _, _, rfl, rfl, ⟨by decide, by decide, by decide⟩, _, _, rfl, rfl, _, rfl, ?_⟩
  by_cases hb : ns[i] < 10 ^ 18
  · refine ifT (decide_eq_true hb) ?_
    refine ⟨_, rfl, l, _, 3, _, rfl, rfl, L, rfl, _, _, rfl, rfl, .inr ⟨by decide, by decide⟩, _, rfl, l, _, 0, _, rfl, rfl, L, rfl, _, rfl, l, _, 1, _, rfl, rfl, L, rfl, c, _, _, _, rfl, rfl, C, atI_nat gi, _, _, rfl, rfl, _, rfl, l, _, 2, _, rfl, rfl, L, rfl, _, _, rfl, rfl, _, _, rfl, rfl, _, _, rfl, rfl, (by show (0 : Int) < 2147483647; decide), _, rfl, l, _, 3, 3, rfl, rfl, e1, rfl, ?_⟩
    refine ⟨_, rfl, l, _, 4, _, rfl, rfl, SqL.of upd_same, rfl, _, _, rfl, rfl, _, rfl, l, _, 4, 4, rfl, rfl, upd_same, rfl, ?_⟩
    refine ⟨_, rfl, l, _, 4, _, rfl, rfl, SqL.of upd_same, rfl, _, _, rfl, rfl, (by show (0 : Int) < 3; decide), rfl, _, rfl, ?_⟩
    have c1 : ∀ A B : HO, (upd (upd H l A) l B) c = some (.lst (ns.map V.int)) := fun A B => by rw [upd_ne n.symm, upd_ne n.symm]; exact e2
    by_cases hg : V.int ((g + 1) % 3) = V.int 0
    · refine ifT (decide_eq_true hg) ?_
      refine ⟨_, rfl, l, _, 1, _, rfl, rfl, SqL.of upd_same, rfl, _, _, rfl, rfl, _, rfl, l, _, 1, 1, rfl, rfl, upd_same, rfl, ?_⟩
      exact ⟨_, rfl, _, rfl, l, c, many, rfl, PoolIs.set (i := i + 1) n (c1 _ _), h1, h2, fun r H' b p r0 r1 => hQ r H' (But.trans but_l (But.trans but_l (But.trans but_l b))) p r0 r1⟩
    · refine ifF (decide_eq_false hg) ?_
      exact ⟨_, rfl, _, rfl, l, c, many, rfl, PoolIs.set (i := i) n (by rw [upd_ne n.symm]; exact e2), h1, h2, fun r H' b p r0 r1 => hQ r H' (But.trans but_l (But.trans but_l b)) p r0 r1⟩
  · refine ifF (decide_eq_false hb) ?_
    refine ⟨_, rfl, l, _, 0, _, rfl, rfl, L, rfl, _, rfl, l, _, 1, _, rfl, rfl, L, rfl, c, _, _, _, rfl, rfl, C, atI_nat gi, _, rfl, _, _, rfl, rfl, (by show 0 < many; omega), ?_⟩
    refine ⟨_, rfl, l, _, 0, _, rfl, rfl, L, rfl, _, rfl, l, _, 1, _, rfl, rfl, L, rfl, c, _, _, _, rfl, rfl, C, atI_nat gi, _, rfl, _, _, rfl, rfl, ⟨by omega, by omega⟩, _, rfl, l, _, 0, _, rfl, rfl, L, rfl, _, rfl, l, _, 1, _, rfl, rfl, L, rfl, c, _, _, i, rfl, rfl, e2, gx, ?_⟩
    have es : (ns.map V.int).set i (.int (ns[i] / many)) = (ns.set i (ns[i] / many)).map V.int := by rw [List.map_set]
    have hl1 : (upd H c (.lst ((ns.map V.int).set i (.int (ns[i] / many))))) l = some (.lst (poolV c i t sd g)) := by rw [upd_ne n]; exact e1
    have g1 : ((ns.map V.int).set i (.int (ns[i] / many)))[i]? = some (.int (ns[i] / many)) := List.getElem?_set_self (by rw [List.length_map]; exact hi)
    have r0 : 0 ≤ ns[i] % many := Int.emod_nonneg _ (by omega)
    have r1 : ns[i] % many < many := Int.emod_lt_of_pos _ (by omega)
    refine ⟨_, rfl, l, _, 0, _, rfl, rfl, SqL.of hl1, rfl, _, rfl, l, _, 1, _, rfl, rfl, SqL.of hl1, rfl, c, _, _, _, rfl, rfl, SqL.of upd_same, atI_nat g1, rfl, _, rfl, ?_⟩
    by_cases hz : V.int (ns[i] / many) = V.int 0
    · refine ifT (decide_eq_true hz) ?_
      refine ⟨_, rfl, l, _, 1, _, rfl, rfl, SqL.of hl1, rfl, _, _, rfl, rfl, _, rfl, l, _, 1, 1, rfl, rfl, hl1, rfl, ?_⟩
      refine ⟨_, rfl, hQ _ _ (But.trans but_c but_l) (PoolIs.set (i := i + 1) (ns := ns.set i (ns[i] / many)) n (by rw [upd_same, es])) r0 r1⟩
    · refine ifF (decide_eq_false hz) ?_
      exact ⟨_, rfl, hQ _ _ but_c ⟨n, ns.set i (ns[i] / many), i, t, sd, g, hl1, by rw [upd_same, es]⟩ r0 r1⟩
end
end Wv
end WwK_part
section WwL_part
set_option Elab.async false
set_option linter.all false
set_option maxRecDepth 100000
set_option maxHeartbeats 1000000
/-! WwL: a pick, the beginning. -/
namespace Wv
open PySem L2 PySem.Spec
open PyProof.Rows

theorem ints_of : ∀ {acc : List V}, (∀ (i : Nat) (y : V), acc[i]? = some y → ∃ n : Int, y = .int n) → ∃ ns : List Int, acc = ns.map V.int
  | [], _ => ⟨[], rfl⟩
  | y :: acc, h => by
    obtain ⟨n, rfl⟩ := h 0 y rfl
    obtain ⟨ns, rfl⟩ := ints_of (acc := acc) fun i y e => h (i + 1) y e
    exact ⟨n :: ns, rfl⟩
theorem bs_int : bootBuiltins "int" = some (.type "int") := by decide +kernel
theorem bs_abs : bootBuiltins "abs" = some (.builtin "abs") := by decide +kernel
section
variable {P : Program} {w : World} {K : PySem.W.Frag} {mg : Str → Option Value} {base : Heap} (T : Top w K mg)
include T
def sp_pick (K : PySem.W.Frag) : Sp := fun vs H Q _ => ∃ (l c p : Addr) (xs : List V), vs = [.ref l, .ref p] ∧ PoolIs H l c ∧ H p = some (.lst xs) ∧ p ≠ l ∧ p ≠ c ∧ 1 ≤ xs.length ∧ xs.length < 100000000 ∧ ∀ (i : Nat) (v : V) H', But l c H H' → PoolIs H' l c → xs[i]? = some v → Q v H'
theorem c_pick : CalW P w K mg base 3 "_law_pick" (sp_pick K) := by
  obtain ⟨fd, F⟩ := T.d__law_pick
  refine cal_of F T.glo__law_pick (F.binds fun _ _ _ _ _ _ us hl => match us, hl with | [_, _], _ => rfl) sc__law_pick (fun vs H Q E h => by obtain ⟨_, _, _, _, rfl, _⟩ := h; rfl) fun cdv A outer s H vs Q E hr h => ?_
  obtain ⟨l, c, p, xs, rfl, hp, hx, npl, npc, h1, h2, hQ⟩ := h
  refine ⟨_, pss_one (ps_ret (pe_ix ix_list (pv 1) (pe_w (c_draw T) hr (by decide) (by rfl) (pa_cons (pv 0) (pa_cons (pe_callB (r := rLenS K) call_len_seq (by rfl) T.free_len PySem.boot_len (pa_cons (pv 1) pa_nil)) pa_nil))) (fun _ _ => rfl))), ?_⟩
  refine ⟨_, rfl, _, rfl, _, rfl, p, _, rfl, .inl (SqL.of hx), l, c, _, rfl, hp, by omega, by omega, fun r H' b pl r0 r1 => ?_⟩
  obtain ⟨i, rfl⟩ : ∃ i : Nat, r = i := ⟨r.toNat, by omega⟩
  have hi : i < xs.length := by omega
  exact ⟨p, xs, _, xs[i], rfl, rfl, SqL.of (b _ _ npl npc hx), atI_nat (List.getElem?_eq_getElem hi), hQ i _ H' b pl (List.getElem?_eq_getElem hi)⟩
def sp_begin (K : PySem.W.Frag) : Sp := fun vs H Q _ => ∃ (a : Addr) (zs : List Int), vs = [.ref a] ∧ SqL K H a (zs.map V.int) ∧ zs.length < sizeLine ∧ ∀ (l c : Addr) H', Same H H' → PoolIs H' l c → H l = none → H c = none → Q (.ref l) H'
theorem c_begin : CalW P w K mg base 1 "_law_begin" (sp_begin K) := by
  obtain ⟨fd, F⟩ := T.d__law_begin
  refine cal_of F T.glo__law_begin (F.binds fun _ _ _ _ _ _ us hl => match us, hl with | [_], _ => rfl) sc__law_begin (fun vs H Q E h => by obtain ⟨_, _, rfl, _⟩ := h; rfl) fun cdv A outer s H vs Q E hr h => ?_
  obtain ⟨a, zs, rfl, ha, hz, hQ⟩ := h
  have nd := sc__law_begin.nd
  refine ⟨_, pss_cons (ps_set (i := 1) nd rfl (Or.inl rfl) pe_int)
    (pss_cons (ps_for PassesOwn.never (by rfl) (pi_list (pe_slice (r := rSlL K) sl_list (pv 0) po_none (po_some pe_int))) (pg_name (i := 2) nd rfl (Or.inl rfl))
      (pss_one (ps_set (i := 1) nd rfl (Or.inl rfl) (pe_op op_mod (pe_op op_add (pe_op op_add (pe_op op_mul (pv 1) pe_int) (pe_op op_mod (pe_callTy call_int1 (by rfl) T.free_int bs_int (pa_cons (pv 2) pa_nil)) pe_int)) pe_int) pe_int))))
    (pss_one (ps_ret (pe_lst (pa_cons (pe_lc (own := [("cell", 2)]) (g := gName 2) (tt := tYes) (by rfl) nd (pi_list (pv 0)) (blkOk_by (N := n__law_begin) (sc := defScope s__law_begin) (by decide +kernel))
        (fun _ _ _ _ _ => pg_name (i := 2) nd rfl (Or.inl rfl)) (fun _ _ _ _ _ => pts_nil) (fun _ _ _ _ _ => pe_callB call_abs (by rfl) T.free_abs bs_abs (pa_cons (pe_callTy call_int1 (by rfl) T.free_int bs_int (pa_cons (pv 2) pa_nil)) pa_nil))) (pa_cons pe_int (pa_cons pe_int (pa_cons (pv 1) (pa_cons pe_int pa_nil))))))))), ?_⟩
  refine ⟨_, rfl, _, rfl, a, _, rfl, ha, fun p np => ⟨p, rfl, ⟨_, SqL.of upd_same⟩, ?_⟩⟩
  have s1 := same_upd (o := .lst (cutV (zs.map V.int) none (some 40))) np
  have ht : cutV (zs.map V.int) none (some 40) = (zs.take 40).map V.int := by
    rw [show (some 40 : Option Int) = some ((40 : Nat) : Int) from rfl, cutV_take, List.map_take]
  refine for_list (xs := (zs.take 40).map V.int) (fun i σ H' => Same H H' ∧ H' p = some (.lst ((zs.take 40).map V.int)) ∧ ∃ (f : Int) (o : Option V), σ = [some (.ref a), some (.int f), o]) ⟨s1, by rw [upd_same, ht], _, _, rfl⟩ (fun i σ H' _ q => SqL.of q.2.1) (fun i v σ H' hv q => ?_) (fun σ H' q => ?_)
  · obtain ⟨sH, hp, f, o, rfl⟩ := q
    rw [List.getElem?_map] at hv
    obtain ⟨z, hz, rfl⟩ := Option.map_eq_some_iff.mp hv
    exact ⟨_, rfl, _, _, rfl, rfl, .inr ⟨by decide, by decide⟩, _, rfl, .inl ⟨z, rfl, _, _, rfl, rfl, (by show (0 : Int) < 2147483647; decide), _, _, rfl, rfl, _, _, rfl, rfl, _, _, rfl, rfl, (by show (0 : Int) < 2147483647; decide), sH, hp, _, _, rfl⟩⟩
  obtain ⟨sH, hp, f, o, rfl⟩ := q
  have ha' := sH.seq ha
  refine ⟨_, rfl, a, rfl, ⟨_, ha'⟩, fun D hD => lc_same (fun i y H => ∃ n : Int, y = .int n) hD (fun i y H H' k h => h) (by rw [List.length_map]; exact hz) (walks_list ha') (fun i x H' hx sx C hC => ?_) fun H4 acc s4 hacc hl hR => ?_⟩
  · rw [List.getElem?_map] at hx
    obtain ⟨z, hz, rfl⟩ := Option.map_eq_some_iff.mp hx
    exact ⟨rfl, _, rfl, .inl ⟨z, rfl, z, rfl, hC _ _ (Same.refl _) ⟨_, rfl⟩⟩⟩
  obtain ⟨ns, rfl⟩ := ints_of hR
  have hD0 : H D = none := by
    cases e : H D with
    | none => rfl
    | some o => rw [sH _ _ e] at hD; cases hD
  refine ⟨_, rfl, by show 5 ≤ sizeLine; decide, fun l nl => ?_⟩
  have s5 := same_upd (o := .lst [.ref D, .int 0, .int 0, .int f, .int 0]) nl
  have s05 := sH.trans (s4.trans s5)
  have hl0 : H l = none := by
    cases e : H l with
    | none => rfl
    | some o => rw [s4 _ _ (sH _ _ e)] at nl; cases nl
  exact hQ l D _ s05 ⟨(ne_of_none hacc nl).symm, ns, 0, 0, f, 0, upd_same, s5 _ _ hacc⟩ hl0 hD0
end
end Wv
end WwL_part
section WwM_part
set_option Elab.async false
set_option linter.all false
set_option maxRecDepth 100000
set_option maxHeartbeats 1000000
/-! WwM: the plan. -/
namespace Wv
open PySem L2 PySem.Spec
open PyProof.Rows

theorem But.keep {l c : Addr} {H H' : Hp} (b : But l c H H') (p : PoolIs H l c) : Keep H H' := fun a o n e => by
  obtain ⟨_, ns, i, t, s, g, h1, h2⟩ := p
  exact b a o (fun z => by rw [z, h1] at e; exact n _ (Option.some.inj e).symm) (fun z => by rw [z, h2] at e; exact n _ (Option.some.inj e).symm) e
def KindIs (H : Hp) (l c : Addr) (v : V) (nm : Str) (rs : List Rw) : Prop :=
  ∃ (a t m : Addr) (vs : List V), v = .ref a ∧ H a = some (.tup [.str nm, .ref t, .ref m]) ∧ H t = some (.lst vs) ∧ RowsAre H vs rs ∧ H m = some (.lst []) ∧ (t ≠ l ∧ t ≠ c) ∧ (m ≠ l ∧ m ≠ c)
theorem KindIs.but {l c : Addr} {H H' : Hp} {v : V} {nm : Str} {rs : List Rw} (b : But l c H H') (p : PoolIs H l c) (h : KindIs H l c v nm rs) : KindIs H' l c v nm rs := by
  obtain ⟨a, t, m, vs, e, h1, h2, h3, h4, h5, h6⟩ := h
  have k := b.keep p
  exact ⟨a, t, m, vs, e, k.tup h1, b _ _ h5.1 h5.2 h2, k.rows h3, b _ _ h6.1 h6.2 h4, h5, h6⟩
def KindD (H : Hp) (l c D : Addr) (v : V) (nm : Str) (rs : List Rw) : Prop :=
  ∃ (a t m : Addr) (vs : List V), v = .ref a ∧ H a = some (.tup [.str nm, .ref t, .ref m]) ∧ H t = some (.lst vs) ∧ RowsAre H vs rs ∧ H m = some (.lst []) ∧ (t ≠ l ∧ t ≠ c) ∧ (m ≠ l ∧ m ≠ c) ∧ t ≠ D ∧ m ≠ D
theorem KindD.but {l c D : Addr} {H H' : Hp} {v : V} {nm : Str} {rs : List Rw} (b : But l c H H') (p : PoolIs H l c) (h : KindD H l c D v nm rs) : KindD H' l c D v nm rs := by
  obtain ⟨a, t, m, vs, e, h1, h2, h3, h4, h5, h6, h7⟩ := h
  have k := b.keep p
  exact ⟨a, t, m, vs, e, k.tup h1, b _ _ h5.1 h5.2 h2, k.rows h3, b _ _ h6.1 h6.2 h4, h5, h6, h7⟩
theorem KindD.is {l c D : Addr} {H : Hp} {v : V} {nm : Str} {rs : List Rw} (h : KindD H l c D v nm rs) : KindIs H l c v nm rs := by
  obtain ⟨a, t, m, vs, e, h1, h2, h3, h4, h5, h6, _⟩ := h
  exact ⟨a, t, m, vs, e, h1, h2, h3, h4, h5, h6⟩
def planK (k s b : Addr) : List (Key × V) := [(Sum.inr "kinds", .ref k), (Sum.inr "shared", .ref s), (Sum.inr "bolts", .ref b)]
def PlanIs (H : Hp) (l c : Addr) (v : V) (r0 r1 : List Rw) : Prop :=
  ∃ (d k s b : Addr) (k0 k1 : V), v = .ref d ∧ H d = some (.dK (planK k s b)) ∧ H k = some (.lst [k0, k1]) ∧ KindIs H l c k0 "giver" r0 ∧ KindIs H l c k1 "user" r1 ∧ H s = some (.lst []) ∧ H b = some (.lst []) ∧ (k ≠ l ∧ k ≠ c) ∧ (s ≠ l ∧ s ≠ c) ∧ (b ≠ l ∧ b ≠ c)
theorem PlanIs.but {l c : Addr} {H H' : Hp} {v : V} {r0 r1 : List Rw} (b : But l c H H') (p : PoolIs H l c) (h : PlanIs H l c v r0 r1) : PlanIs H' l c v r0 r1 := by
  obtain ⟨d, k, s, o, k0, k1, e, h1, h2, h3, h4, h5, h6, h7, h8, h9⟩ := h
  exact ⟨d, k, s, o, k0, k1, e, b.keep p _ _ (fun _ z => nomatch z) h1, b _ _ h7.1 h7.2 h2, h3.but b p, h4.but b p, b _ _ h8.1 h8.2 h5, b _ _ h9.1 h9.2 h6, h7, h8, h9⟩
theorem PoolIs.off {H : Hp} {l c a : Addr} (p : PoolIs H l c) (h : H a = none) : a ≠ l ∧ a ≠ c := by
  obtain ⟨_, ns, i, t, s, g, h1, h2⟩ := p
  exact ⟨(ne_of_none h1 h).symm, (ne_of_none h2 h).symm⟩
theorem but_new {l c a : Addr} {H H1 H' : Hp} (b : But l c H H1) (h : H a = none) (e : ∀ x u, x ≠ a → H1 x = some u → H' x = some u) : But l c H H' := fun x u n m z => e x u (ne_of_none z h) (b x u n m z)
theorem PoolIs.upd {H : Hp} {l c a : Addr} {o : HO} (p : PoolIs H l c) (h : a ≠ l ∧ a ≠ c) : PoolIs (L2.upd H a o) l c := by
  obtain ⟨n, ns, i, t, s, g, h1, h2⟩ := p
  exact ⟨n, ns, i, t, s, g, by rw [upd_ne h.1.symm]; exact h1, by rw [upd_ne h.2.symm]; exact h2⟩
theorem rows_snoc {H : Hp} {vs : List V} {rs : List Rw} {v : V} {r : Rw} (h : RowsAre H vs rs) (hv : RowIs H v r (rs.length + 1)) : RowsAre H (vs ++ [v]) (rs ++ [r]) := by
  refine ⟨by rw [List.length_append, List.length_append, h.1]; rfl, fun i u q e1 e2 => ?_⟩
  by_cases hi : i < vs.length
  · rw [List.getElem?_append_left hi] at e1
    rw [List.getElem?_append_left (by rw [← h.1]; exact hi)] at e2
    exact h.2 i u q e1 e2
  · have hi2 : i = vs.length := by
      have := (List.getElem?_eq_some_iff.mp e1).1
      rw [List.length_append, List.length_singleton] at this
      omega
    subst hi2
    rw [List.getElem?_append_right (Nat.le_refl _), Nat.sub_self] at e1
    rw [h.1, List.getElem?_append_right (Nat.le_refl _), Nat.sub_self] at e2
    cases e1; cases e2
    rw [h.1]; exact hv
section
variable {P : Program} {w : World} {K : PySem.W.Frag} {mg : Str → Option Value} {base : Heap} (T : Top w K mg)
include T
def sp_kinds : Sp := fun vs H Q _ => ∃ (l c : Addr), vs = [.ref l] ∧ PoolIs H l c ∧ ∀ (v : V) (r0 r1 : List Rw) H', But l c H H' → PoolIs H' l c → PlanIs H' l c v r0 r1 → 1 ≤ r0.length ∧ r0.length ≤ 3 → 1 ≤ r1.length ∧ r1.length ≤ 3 → Q v H'
theorem c_kinds : CalW P w K mg base 3 "_law_kinds" sp_kinds := by
  obtain ⟨fd, F⟩ := T.d__law_kinds
  refine cal_of F T.glo__law_kinds (F.binds fun _ _ _ _ _ _ us hl => match us, hl with | [_], _ => rfl) sc__law_kinds (fun vs H Q E h => by obtain ⟨_, _, rfl, _⟩ := h; rfl) fun cdv A outer s H vs Q E hr h => ?_
  obtain ⟨l, c, rfl, hp, hQ⟩ := h
  have nd := sc__law_kinds.nd
  refine ⟨_, pss_cons (ps_set (i := 1) nd rfl (Or.inl rfl) (pe_lst pa_nil))
    (pss_cons (ps_for PassesOwn.never (by rfl) (pi_list (pe_lst (pa_cons pe_str (pa_cons pe_str pa_nil)))) (pg_name (i := 2) nd rfl (Or.inl rfl))
      (pss_cons (ps_set (i := 3) nd rfl (Or.inl rfl) (pe_op op_add pe_int (pe_w (c_draw T) hr (by decide) (by rfl) (pa_cons (pv 0) (pa_cons pe_int pa_nil)))))
      (pss_cons (ps_set (i := 4) nd rfl (Or.inl rfl) (pe_lst pa_nil))
      (pss_cons (ps_for PassesOwn.never (by rfl) (pi_range1 (by rfl) T.free_range (pa_cons (pv 3) pa_nil)) (pg_name (i := 5) nd rfl (Or.inl rfl))
        (pss_cons (ps_set (i := 6) nd rfl (Or.inl rfl) (pe_ix ix_list (pe_lst (pa_cons (pe_tup (pa_cons pe_str pa_nil)) (pa_cons (pe_tup (pa_cons pe_str (pa_cons (pe_op op_add (pv 5) pe_int) pa_nil))) (pa_cons (pe_tup (pa_cons pe_str (pa_cons (pe_op op_add (pv 5) pe_int) (pa_cons (pe_op op_add (pv 5) pe_int) pa_nil)))) pa_nil)))) (pe_w (c_draw T) hr (by decide) (by rfl) (pa_cons (pv 0) (pa_cons pe_int pa_nil))) (fun _ _ => rfl)))
        (pss_one (ps_expr (pe_bm PySem.F.plainAttrs_list PySem.F.slot_list_append PySem.F.type_list_append mt_append (pv 4) (pa_cons (pv 6) pa_nil))))))
      (pss_one (ps_expr (pe_bm PySem.F.plainAttrs_list PySem.F.slot_list_append PySem.F.type_list_append mt_append (pv 1) (pa_cons (pe_tup (pa_cons (pv 2) (pa_cons (pv 4) (pa_cons (pe_lst pa_nil) pa_nil)))) pa_nil))))))))
    (pss_one (ps_ret (pe_disp (pps_cons pe_str (pv 1) (pps_cons pe_str (pe_lst pa_nil) (pps_cons pe_str (pe_lst pa_nil) pps_nil))) (by rfl) (by rfl) (fun z => by cases z) (by decide))))), ?_⟩
  refine ⟨by show 0 ≤ sizeLine; decide, fun D hD => ?_⟩
  have hF := hp.off hD
  refine ⟨by show 2 ≤ sizeLine; decide, fun p np => ⟨p, rfl, ⟨_, SqL.of upd_same⟩, ?_⟩⟩
  have s2 : Same H (upd (upd H D (.lst [])) p (.lst [.str "giver", .str "user"])) := Same.trans (same_upd hD) (same_upd np)
  have hDp : D ≠ p := ne_of_none (upd_same (H := H) (a := D) (o := .lst [])) np
  have hp0 : H p = none := by rw [upd_ne hDp.symm] at np; exact np
  have hpo := hp.off hp0
  refine for_list (xs := [.str "giver", .str "user"]) (fun i σ H' => But l c H H' ∧ PoolIs H' l c ∧ H' p = some (.lst [.str "giver", .str "user"]) ∧ ∃ ks : List V, H' D = some (.lst ks) ∧ ks.length = i ∧ (∀ (j : Nat) (v : V), ks[j]? = some v → ∃ rs : List Rw, KindD H' l c D v (nmOf (decide (j = 1))) rs ∧ 1 ≤ rs.length ∧ rs.length ≤ 3) ∧ ∃ (o2 o3 o4 o5 o6 : Option V), σ = [some (.ref l), some (.ref D), o2, o3, o4, o5, o6])
    ⟨But.of s2, hp.same s2, upd_same, [], by rw [upd_ne hDp]; exact upd_same, rfl, fun j v e => by simp at e, _, _, _, _, _, rfl⟩ (fun i σ H' _ q => SqL.of q.2.2.1) (fun i x σ H' hx q => ?_) (fun σ H' q => ?_)
  · obtain ⟨bH, pl, hpp, ks, hk, hkl, hkk, o2, o3, o4, o5, o6, rfl⟩ := q
    have ex : x = .str (nmOf (decide (i = 1))) ∧ i < 2 := by
      rcases i with _ | _ | i
      · cases hx; exact ⟨rfl, by decide⟩
      · cases hx; exact ⟨rfl, by decide⟩
      · simp at hx
    obtain ⟨rfl, hi2⟩ := ex
    refine ⟨_, rfl, l, c, 3, rfl, pl, by decide, by decide, fun r H2 b2 p2 r0 r1 => ⟨_, _, rfl, rfl, ?_⟩⟩
    refine ⟨by show 0 ≤ sizeLine; decide, fun R nR => ?_⟩
    have hR := p2.off nR
    have s3 := same_upd (o := .lst []) nR
    refine ⟨_, rfl, _, rfl, by show -(2 ^ 62) ≤ 1 + r; omega, by show 1 + r < 2 ^ 62; omega, ?_⟩
    refine for_range (lo := 0) (n := (1 + r).toNat) (fun j σ H' => But l c H2 H' ∧ PoolIs H' l c ∧ ∃ (vs : List V) (rs : List Rw), H' R = some (.lst vs) ∧ RowsAre H' vs rs ∧ rs.length = j ∧ ∃ (o5 o6 : Option V), σ = [some (.ref l), some (.ref D), some (.str (nmOf (decide (i = 1)))), some (.int (1 + r)), some (.ref R), o5, o6])
      ⟨But.of s3, p2.same s3, [], [], upd_same, ⟨rfl, fun i v r e => by simp at e⟩, rfl, _, _, rfl⟩ (fun j σ H3 hj q => ?_) (fun σ H3 q => ?_)
    · obtain ⟨b3, p3, vs, rs, hvs, hrs, hrl, o5, o6, rfl⟩ := q
      have hj3 : j < 3 := by omega
      refine ⟨by show 1 ≤ sizeLine; decide, fun t1 n1 => ⟨_, rfl, _, _, rfl, rfl, by show 2 ≤ sizeLine; decide, fun t2 n2 => ⟨_, rfl, _, _, rfl, rfl, _, rfl, _, _, rfl, rfl, by show 3 ≤ sizeLine; decide, fun t3 n3 => ⟨by show 3 ≤ sizeLine; decide, fun L nL => ?_⟩⟩⟩⟩
      have u1 : Same H3 (upd H3 t1 (.tup [.str "rest"])) := same_upd n1
      have u2 := same_upd (o := .tup [.str "go", .int (0 + (j : Int) + 1)]) n2
      have u3 := same_upd (o := .tup [.str "go", .int (0 + (j : Int) + 1), .int (0 + (j : Int) + 1)]) n3
      have u4 := same_upd (o := .lst [.ref t1, .ref t2, .ref t3]) nL
      have g3 := u3.trans u4
      have g2 := u2.trans g3
      have s34 := u1.trans g2
      have pL := ((p3.same u1).same u2).same u3
      have hL := pL.off nL
      have p4 := pL.same u4
      have ej : (0 + (j : Int) + 1) = ((j + 1 : Nat) : Int) := by omega
      refine ⟨_, rfl, l, c, 3, rfl, p4, by decide, by decide, fun r2 H5 b5 p5 r20 r21 => ?_⟩
      have hk5 := b5.keep p4
      have pick : ∃ (v : V) (q : Rw), atI [.ref t1, .ref t2, .ref t3] r2 = some v ∧ RowIs H5 v q (j + 1) := by
        have : r2 = 0 ∨ r2 = 1 ∨ r2 = 2 := by omega
        rcases this with rfl | rfl | rfl
        · exact ⟨_, .rest, rfl, t1, rfl, hk5.tup (g2 _ _ upd_same)⟩
        · exact ⟨_, .go1, rfl, t2, rfl, hk5.tup (by rw [g3 _ _ upd_same]; show some (HO.tup [.str "go", V.int (0 + (j : Int) + 1)]) = _; rw [ej]; rfl)⟩
        · exact ⟨_, .go2, rfl, t3, rfl, hk5.tup (by rw [u4 _ _ upd_same]; show some (HO.tup [.str "go", V.int (0 + (j : Int) + 1), V.int (0 + (j : Int) + 1)]) = _; rw [ej]; rfl)⟩
      obtain ⟨v, q, ev, hv⟩ := pick
      refine ⟨L, _, r2, v, rfl, rfl, SqL.of (b5 _ _ hL.1 hL.2 upd_same), ev, ?_⟩
      have hR5 := b5 _ _ hR.1 hR.2 (s34 _ _ hvs)
      have hvl : vs.length = j := by rw [hrs.1, hrl]
      refine ⟨_, rfl, .inl ⟨rfl, _, SqL.of hR5⟩, _, rfl, R, vs, v, rfl, rfl, hR5, smlt (by omega), ?_⟩
      have kk := Keep.trans (Same.keep s34) (Keep.trans hk5 (keep_upd hR5 (o := .lst (vs ++ [v]))))
      refine ⟨but_new ((b3.trans (But.of s34)).trans b5) nR (fun x u hx e => by rw [upd_ne hx]; exact e), p5.upd hR, vs ++ [v], rs ++ [q], upd_same, rows_snoc (kk.rows hrs) ?_, by rw [List.length_append, hrl]; rfl, _, _, rfl⟩
      rw [hrl]
      exact Keep.rowIs (keep_upd hR5) hv
    · obtain ⟨b3, p3, vs, rs, hvs, hrs, hrl, o5, o6, rfl⟩ := q
      have hD3 := b3 _ _ hF.1 hF.2 (b2 _ _ hF.1 hF.2 hk)
      refine ⟨_, rfl, .inl ⟨rfl, _, SqL.of hD3⟩, _, rfl, _, rfl, by show 0 ≤ sizeLine; decide, fun M nM => ⟨by show 3 ≤ sizeLine; decide, fun t nt => ?_⟩⟩
      have hM := p3.off nM
      have u1 := same_upd (o := .lst []) nM
      have u2 := same_upd (o := .tup [.str (nmOf (decide (i = 1))), .ref R, .ref M]) nt
      have s34 := u1.trans u2
      have hD4 := s34 _ _ hD3
      have p4 := p3.same s34
      refine ⟨D, ks, .ref t, rfl, rfl, hD4, smlt (by omega), ?_⟩
      have b23 := b2.trans (b3.trans (But.of s34))
      have kd := keep_upd hD4 (o := .lst (ks ++ [.ref t]))
      have but5 : But l c H' (upd (upd (upd H3 M (.lst [])) t (.tup [.str (nmOf (decide (i = 1))), .ref R, .ref M])) D (.lst (ks ++ [.ref t]))) ∨ True := .inr trivial
      have ndR : R ≠ D := fun z => by rw [z, b2 _ _ hF.1 hF.2 hk] at nR; cases nR
      have ndM : M ≠ D := fun z => by rw [z, hD3] at nM; cases nM
      have ndp : p ≠ D := hDp.symm
      refine ⟨but_new (bH.trans b23) hD (fun x u hx e => by rw [upd_ne hx]; exact e), p4.upd hF, by rw [upd_ne ndp]; exact b23 _ _ hpo.1 hpo.2 hpp, ks ++ [.ref t], upd_same, by rw [List.length_append, hkl]; rfl, fun j v e => ?_, _, _, _, _, _, rfl⟩
      by_cases hj : j < ks.length
      · rw [List.getElem?_append_left hj] at e
        obtain ⟨rs', hK, h13⟩ := hkk j v e
        refine ⟨rs', ?_, h13⟩
        have hK2 := KindD.but (But.of s34) p3 (KindD.but b3 (p2.same s3 |> fun _ => p2) (KindD.but b2 pl hK))
        obtain ⟨a', t', m', vs', e', q1, q2, q3, q4, q5, q6, n1, n2⟩ := hK2
        exact ⟨a', t', m', vs', e', kd.tup q1, by rw [upd_ne n1]; exact q2, kd.rows q3, by rw [upd_ne n2]; exact q4, q5, q6, n1, n2⟩
      · have hj2 : j = ks.length := by
          have := (List.getElem?_eq_some_iff.mp e).1
          rw [List.length_append, List.length_singleton] at this
          omega
        subst hj2
        rw [List.getElem?_append_right (Nat.le_refl _), Nat.sub_self] at e
        cases e
        rw [hkl]
        refine ⟨rs, ⟨t, R, M, vs, rfl, kd.tup upd_same, by rw [upd_ne ndR]; exact s34 _ _ hvs, kd.rows ((Same.keep s34).rows hrs), by rw [upd_ne ndM]; exact u2 _ _ upd_same, hR, hM, ndR, ndM⟩, by omega, by omega⟩
  · obtain ⟨bH, pl, hpp, ks, hk, hkl, hkk, o2, o3, o4, o5, o6, rfl⟩ := q
    obtain ⟨k0, k1, rfl⟩ : ∃ k0 k1, ks = [k0, k1] := by
      match ks, hkl with
      | [a, b], _ => exact ⟨a, b, rfl⟩
    obtain ⟨r0, h0, h01, h03⟩ := hkk 0 k0 rfl
    obtain ⟨r1, h1, h11, h13⟩ := hkk 1 k1 rfl
    refine fun d nd' => ⟨_, rfl, by show 0 ≤ sizeLine; decide, fun S nS => ⟨by show 0 ≤ sizeLine; decide, fun B nB => ?_⟩⟩
    have u1 := same_upd (o := .dK []) nd'
    have u2 := same_upd (o := .lst []) nS
    have u3 := same_upd (o := .lst []) nB
    have u13 := u1.trans (u2.trans u3)
    have hS := (pl.same u1).off nS
    have hB := ((pl.same u1).same u2).off nB
    have p3 := pl.same u13
    have hd3 := u3 _ _ (u2 _ _ (upd_same (H := H') (a := d) (o := .dK [])))
    refine ⟨hd3, planK D S B, rfl, by show 3 ≤ 15; decide, ?_⟩
    have sF : Same H' (upd (upd (upd (upd H' d (.dK [])) S (.lst [])) B (.lst [])) d (.dK (mergeK [] (planK D S B)))) := fun x u e => by rw [upd_ne (ne_of_none e nd')]; exact u13 _ _ e
    have nSd : S ≠ d := (ne_of_none (upd_same (H := H') (a := d) (o := .dK [])) nS).symm
    have nBd : B ≠ d := (ne_of_none (u2 _ _ (upd_same (H := H') (a := d) (o := .dK []))) nB).symm
    exact hQ (.ref d) r0 r1 _ (bH.trans (But.of sF)) (pl.same sF) ⟨d, D, S, B, k0, k1, rfl, by rw [upd_same]; rfl, sF _ _ hk, KindIs.but (But.of sF) pl h0.is, KindIs.but (But.of sF) pl h1.is, by rw [upd_ne nSd]; exact u3 _ _ upd_same, by rw [upd_ne nBd]; exact upd_same, hF, hS, hB⟩ ⟨h01, h03⟩ ⟨h11, h13⟩
end
end Wv
end WwM_part
section WwN_part
set_option Elab.async false
set_option linter.all false
set_option maxRecDepth 100000
set_option maxHeartbeats 1000000
/-! WwN: the hands, the rows of a name. -/
namespace Wv
open PySem L2 PySem.Spec
open PyProof.Rows

theorem PlanIs.un {H : Hp} {l c : Addr} {v : V} {r0 r1 : List Rw} (h : PlanIs H l c v r0 r1) : ∃ (d k s b : Addr) (k0 k1 : V), v = .ref d ∧ H d = some (.dK (planK k s b)) ∧ H k = some (.lst [k0, k1]) ∧ KindIs H l c k0 "giver" r0 ∧ KindIs H l c k1 "user" r1 ∧ H s = some (.lst []) ∧ H b = some (.lst []) ∧ (k ≠ l ∧ k ≠ c) ∧ (s ≠ l ∧ s ≠ c) ∧ (b ≠ l ∧ b ≠ c) := h
section
variable {P : Program} {w : World} {K : PySem.W.Frag} {mg : Str → Option Value} {base : Heap} (T : Top w K mg)
include T
def sp_draw_hands : Sp := fun vs H Q _ => ∃ (l c : Addr) (pv : V) (r0 r1 : List Rw), vs = [.ref l, pv, .int 3] ∧ PoolIs H l c ∧ PlanIs H l c pv r0 r1 ∧ ∀ (p : Addr) (hs : List Bool) H', But l c H H' → PoolIs H' l c → 1 ≤ hs.length → hs.length ≤ 3 → H' p = some (.lst (hs.map fun b => V.str (nmOf b))) → H p = none → p ≠ l ∧ p ≠ c → Q (.ref p) H'
theorem c_draw_hands : CalW P w K mg base 4 "_law_draw_hands" sp_draw_hands := by
  obtain ⟨fd, F⟩ := T.d__law_draw_hands
  refine cal_of F T.glo__law_draw_hands (F.binds fun _ _ _ _ _ _ us hl => match us, hl with | [_, _, _], _ => rfl) sc__law_draw_hands (fun vs H Q E h => by obtain ⟨_, _, _, _, _, rfl, _⟩ := h; rfl) fun cdv A outer s H vs Q E hr h => ?_
  obtain ⟨l, c, pv', r0, r1, rfl, hp, hpl, hQ⟩ := h
  have nd := sc__law_draw_hands.nd
  refine ⟨_, pss_one (ps_ret (pe_lc (own := [("k", 3)]) (g := gName 3) (tt := tYes) (te := tOp (rIxT K) (tCall (sp_pick K) [] E0 (tCons (tVar 0) (tCons (tDGet (tVar 1) (tC (.str "kinds"))) tNil))) (tC (.int 0))) (by rfl) nd (pi_range1 (by rfl) T.free_range (pa_cons (pe_op op_add pe_int (pe_w (c_draw T) hr (by decide) (by rfl) (pa_cons (pv 0) (pa_cons (pv 2) pa_nil)))) pa_nil)) (blkOk_by (N := n__law_draw_hands) (sc := defScope s__law_draw_hands) (by decide +kernel))
    (fun _ _ _ _ _ => pg_name (i := 3) nd rfl (Or.inl rfl)) (fun _ _ _ _ _ => pts_nil) (fun _ _ _ _ _ => pe_ix ix_tup (pe_w (c_pick T) hr (by decide) (by rfl) (pa_cons (pv 0) (pa_cons (pe_dget (hu_of hr) (pv 1) pe_str (fun _ _ => rfl)) pa_nil))) pe_int (fun _ _ => rfl)))), ?_⟩
  refine ⟨_, rfl, _, rfl, l, c, 3, rfl, hp, by decide, by decide, fun r H1 b1 p1 r20 r21 => ⟨_, _, rfl, rfl, _, rfl, by show -(2 ^ 62) ≤ 1 + r; omega, by show 1 + r < 2 ^ 62; omega, fun D hD => ?_⟩⟩
  have hD0 := p1.off hD
  have s1 := same_upd (o := .lst []) hD
  have hpl1 := hpl.but b1 hp
  refine lc_range (lo := 0) (n := (1 + r).toNat) (fun i H' => But l c H1 H' ∧ PoolIs H' l c ∧ ∃ hs : List Bool, hs.length = i ∧ H' D = some (.lst (hs.map fun b => V.str (nmOf b)))) ⟨But.of s1, p1.same s1, [], rfl, upd_same⟩ (fun i H2 hi q => ?_) (fun H2 q => ?_)
  · obtain ⟨b2, p2, hs, hl, hD2⟩ := q
    have hpl2 := hpl1.but b2 p1
    obtain ⟨d, k, sh, bo, k0, k1, rfl, g1, g2, g3, g4, g5, g6, g7, g8, g9⟩ := hpl2.un
    refine ⟨rfl, ?_⟩
    dsimp only [tYes]
    rw [if_pos rfl]
    refine ⟨_, rfl, _, rfl, d, .ref k, rfl, DGet.k (k := Sum.inr "kinds") g1, l, c, k, _, rfl, p2, g2, g7.1, g7.2, by show 1 ≤ 2; decide, by show 2 < 100000000; decide, fun j v H3 b3 p3 hv => ?_⟩
    have hk : ∃ b, ∃ rs, KindIs H3 l c v (nmOf b) rs := by
      rcases j with _ | _ | j
      · cases hv; exact ⟨false, r0, g3.but b3 p2⟩
      · cases hv; exact ⟨true, r1, g4.but b3 p2⟩
      · simp at hv
    obtain ⟨b, rs, a, t, m, vs', rfl, q1, _⟩ := hk
    have hD3 := b3 _ _ hD0.1 hD0.2 hD2
    refine ⟨a, _, 0, _, rfl, rfl, SqT.of q1, rfl, _, hD3, by rw [List.length_map]; exact smlt (by omega), ?_⟩
    refine ⟨but_new (b2.trans b3) hD (fun x u hx e => by rw [upd_ne hx]; exact e), p3.upd hD0, hs ++ [b], by rw [List.length_append, hl]; rfl, by rw [upd_same, List.map_append]; rfl⟩
  · obtain ⟨b2, p2, hs, hl, hD2⟩ := q
    have hDH : H D = none := by
      cases e : H D with
      | none => rfl
      | some o =>
        have := b1 _ _ hD0.1 hD0.2 e
        rw [hD] at this; cases this
    exact hQ D hs H2 (b1.trans b2) p2 (by omega) (by omega) hD2 hDH hD0
/-- rows of a name -/
def Bn2 (r0 r1 : List Rw) (b : Bool) : List Rw := if b then r1 else r0
def sp_rows_of : Sp := fun vs H Q _ => ∃ (l c : Addr) (pv : V) (r0 r1 : List Rw) (b : Bool), vs = [pv, .str (nmOf b)] ∧ PlanIs H l c pv r0 r1 ∧ ∀ (t : Addr) (xs : List V) H', Same H H' → H' t = some (.lst xs) → RowsAre H' xs (Bn2 r0 r1 b) → Q (.ref t) H'
theorem c_rows_of : CalW P w K mg base 1 "_law_rows_of" sp_rows_of := by
  obtain ⟨fd, F⟩ := T.d__law_rows_of
  refine cal_of F T.glo__law_rows_of (F.binds fun _ _ _ _ _ _ us hl => match us, hl with | [_, _], _ => rfl) sc__law_rows_of (fun vs H Q E h => by obtain ⟨_, _, _, _, _, _, rfl, _⟩ := h; rfl) fun cdv A outer s H vs Q E hr h => ?_
  obtain ⟨l, c, pv', r0, r1, b, rfl, hpl, hQ⟩ := h
  have nd := sc__law_rows_of.nd
  obtain ⟨d, k, sh, bo, k0, k1, rfl, g1, g2, g3, g4, g5, g6, g7, g8, g9⟩ := hpl.un
  refine ⟨_, pss_one (ps_ret (pe_ix ix_tup (pe_ix ix_list (pe_lc (own := [("kind", 2)]) (g := gName 2) (tt := tTest (tOp rEq (tOp (rIxT K) (tVar 2) (tC (.int 0))) (tVar 1))) (by rfl) nd (pi_list (pe_dget (hu_of hr) (pv 0) pe_str (fun _ _ => rfl))) (blkOk_by (N := n__law_rows_of) (sc := defScope s__law_rows_of) (by decide +kernel))
    (fun _ _ _ _ _ => pg_name (i := 2) nd rfl (Or.inl rfl)) (fun _ _ _ _ _ => pts_one (pt_cmpR op_eq (pe_ix ix_tup (pv 2) pe_int (fun _ _ => rfl)) (pv 1) (nomark _))) (fun _ _ _ _ _ => pv 2)) pe_int (fun _ _ => rfl)) pe_int (fun _ _ => rfl))), ?_⟩
  obtain ⟨a0, t0, m0, vs0, rfl, x1, x2, x3, x4, x5, x6⟩ := g3
  obtain ⟨a1, t1, m1, vs1, rfl, y1, y2, y3, y4, y5, y6⟩ := g4
  refine ⟨_, rfl, d, .ref k, rfl, DGet.k (k := Sum.inr "kinds") g1, k, rfl, ⟨_, SqL.of g2⟩, fun D hD => ?_⟩
  have fin : ∀ H', Same H H' → H' D = some (.lst [.ref (if b then a1 else a0)]) → ∃ p xs i v, V.ref D = .ref p ∧ V.int 0 = .int i ∧ SqL K H' p xs ∧ atI xs i = some v ∧ tOp (rIxT K) (fun _ H Q => Q v H) (tC (.int 1)) ([] : L2.St) H' Q := fun H' sH hD' => by
    refine ⟨D, _, 0, _, rfl, rfl, SqL.of hD', rfl, ?_⟩
    cases b with
    | false => exact ⟨a0, _, 1, _, rfl, rfl, SqT.of (sH _ _ x1), rfl, hQ t0 vs0 H' sH (sH _ _ x2) (Keep.rows (Same.keep sH) x3)⟩
    | true => exact ⟨a1, _, 1, _, rfl, rfl, SqT.of (sH _ _ y1), rfl, hQ t1 vs1 H' sH (sH _ _ y2) (Keep.rows (Same.keep sH) y3)⟩
  refine lc_list (xs := [.ref a0, .ref a1]) (fun i H' => Same H H' ∧ H' D = some (.lst (if b then (if i = 2 then [.ref a1] else []) else (if 1 ≤ i then [.ref a0] else [])))) ⟨same_upd hD, by rw [upd_same]; cases b <;> rfl⟩ (fun i H' _ q => SqL.of (q.1 _ _ g2)) (fun i x H' hx q => ?_) (fun H' q => ?_)
  · obtain ⟨sH, hD'⟩ := q
    have new : ∀ ys, Same H (upd H' D (.lst ys)) := fun ys z u e => by rw [upd_ne (ne_of_none e hD)]; exact sH _ _ e
    rcases i with _ | _ | i
    · cases hx
      refine ⟨rfl, _, rfl, a0, _, 0, _, rfl, rfl, SqT.of (sH _ _ x1), rfl, _, rfl, rfl, _, rfl, ?_⟩
      cases b with
      | false => exact ifT (by decide) ⟨_, rfl, _, hD', by show 0 < sizeLine; decide, new _, by rw [upd_same]; rfl⟩
      | true => exact ifF (by decide) ⟨sH, hD'⟩
    · cases hx
      refine ⟨rfl, _, rfl, a1, _, 0, _, rfl, rfl, SqT.of (sH _ _ y1), rfl, _, rfl, rfl, _, rfl, ?_⟩
      cases b with
      | false => exact ifF (by decide) ⟨sH, hD'⟩
      | true => exact ifT (by decide) ⟨_, rfl, _, hD', by show 0 < sizeLine; decide, new _, by rw [upd_same]; rfl⟩
    · simp at hx
  · obtain ⟨sH, hD'⟩ := q
    have hD2 : H' D = some (.lst [.ref (if b then a1 else a0)]) := by rw [hD']; cases b <;> rfl
    exact fin H' sH hD2
end
end Wv
end WwN_part
section WwO_part
set_option Elab.async false
set_option linter.all false
set_option maxRecDepth 100000
set_option maxHeartbeats 1000000
/-! WwO: the law makes a program, a bench. -/
namespace Wv
open PySem L2 PySem.Spec
open PyProof.Rows

section
variable {P : Program} {w : World} {K : PySem.W.Frag} {mg : Str → Option Value} {base : Heap} (T : Top w K mg)
include T
def sp_made_kinds (K : PySem.W.Frag) : Sp := fun vs H Q _ => ∃ (l c : Addr) (pv : V) (r0 r1 : List Rw), vs = [pv] ∧ PlanIs H l c pv r0 r1 ∧ (1 ≤ r0.length ∧ r0.length ≤ 3) ∧ (1 ≤ r1.length ∧ r1.length ≤ 3) ∧ ∀ (p : Addr) (s0 s1 : V) H', Same H H' → H' p = some (.lst [s0, s1]) → SortIs K H' s0 "giver" r0 → SortIs K H' s1 "user" r1 → Q (.ref p) H'
theorem c_made_kinds : CalW P w K mg base 8 "_law_made_kinds" (sp_made_kinds K) := by
  obtain ⟨fd, F⟩ := T.d__law_made_kinds
  obtain ⟨fdS, FS, KB⟩ := f_Sort_init (P := P) (base := base) T
  refine cal_of F T.glo__law_made_kinds (F.binds fun _ _ _ _ _ _ us hl => match us, hl with | [_], _ => rfl) sc__law_made_kinds (fun vs H Q E h => by obtain ⟨_, _, _, _, _, rfl, _⟩ := h; rfl) fun cdv A outer s H vs Q E hr h => ?_
  obtain ⟨l, c, pv', r0, r1, rfl, hpl, hr0, hr1, hQ⟩ := h
  have nd := sc__law_made_kinds.nd
  refine ⟨_, pss_one (ps_ret (pe_lc (own := [("name", 1), ("rows", 2), ("mine", 3)]) (g := gTup K 3 (gCons (gName 1) (gCons (gName 2) (gCons (gName 3) gNil)))) (tt := tYes) (by rfl) nd (pi_list (pe_dget (hu_of hr) (pv 0) pe_str (fun _ _ => rfl))) (blkOk_by (N := n__law_made_kinds) (sc := defScope s__law_made_kinds) (by decide +kernel))
    (fun _ _ _ _ _ => pg_tup (by rfl) (pgs_cons (pg_name (i := 1) nd rfl (Or.inl rfl)) (pgs_cons (pg_name (i := 2) nd rfl (Or.inl rfl)) (pgs_cons (pg_name (i := 3) nd rfl (Or.inl rfl)) pgs_nil)))) (fun _ _ _ _ _ => pts_nil) (fun _ _ _ _ _ => pe_makeK (n := 2) (E := E0) T.mkr_Sort FS hr (by rfl) T.glo_Sort KB pass0 (pa_cons (pv 1) (pa_cons (pv 2) pa_nil)) (pk_cons (pv 3) pk_nil)))), ?_⟩
  obtain ⟨d, k, sh, bo, k0, k1, rfl, g1, g2, g3, g4, g5, g6, g7, g8, g9⟩ := hpl.un
  refine ⟨_, rfl, d, .ref k, rfl, DGet.k (k := Sum.inr "kinds") g1, k, rfl, ⟨_, SqL.of g2⟩, fun D hD => lc_same (xs := [k0, k1]) (fun i y H => SortIs K H y (nmOf (decide (i = 1))) (Bn2 r0 r1 (decide (i = 1)))) hD (fun i y H H' k h => k.sort h) (by show 2 < sizeLine; decide) (walks_list (SqL.of g2)) (fun i x H' hx sx C hC => ?_) fun H4 acc s4 hacc hl hR => ?_⟩
  · have hk : KindIs H l c x (nmOf (decide (i = 1))) (Bn2 r0 r1 (decide (i = 1))) ∧ 1 ≤ (Bn2 r0 r1 (decide (i = 1))).length ∧ (Bn2 r0 r1 (decide (i = 1))).length ≤ 3 := by
      rcases i with _ | _ | i
      · cases hx; exact ⟨g3, hr0⟩
      · cases hx; exact ⟨g4, hr1⟩
      · simp at hx
    obtain ⟨⟨a, t, m, vs', rfl, q1, q2, q3, q4, q5, q6⟩, h13⟩ := hk
    refine ⟨a, _, rfl, SqT.of (sx _ _ q1), rfl, _, _, rfl, _, _, rfl, _, _, rfl, rfl, rfl, ?_⟩
    refine ⟨_, rfl, _, rfl, _, rfl, rfl, rfl, fun x dx hx hd hne => ?_⟩
    have k1' : Same H' (upd (upd H' dx (.own x)) x (.ins (CS K) dx [])) := fun b u e => by rw [upd_ne (ne_of_none e hx), upd_ne (ne_of_none e hd)]; exact e
    refine ⟨x, dx, t, m, _, _, vs', rfl, upd_same, k1' _ _ (sx _ _ q2), Keep.rows (Same.keep (sx.trans k1')) q3, h13.1, h13.2, k1' _ _ (sx _ _ q4), fun H2 s2 hS => ⟨rfl, hC _ _ (sameX_made hx hd s2) hS⟩⟩
  · match acc, hl with
    | [y, z], _ => exact hQ D y z H4 s4 hacc (hR 0 y rfl) (hR 1 z rfl)
end
end Wv
end WwO_part
section WwP_part
set_option Elab.async false
set_option linter.all false
set_option maxRecDepth 100000
set_option maxHeartbeats 1000000
/-! WwP: the law makes a program, a bench. -/
namespace Wv
open PySem L2 PySem.Spec
open PyProof.Rows

section
variable {P : Program} {w : World} {K : PySem.W.Frag} {mg : Str → Option Value} {base : Heap} (T : Top w K mg)
include T
def sp_program_of (K : PySem.W.Frag) : Sp := fun vs H Q _ => ∃ (p s b : Addr) (s0 s1 : V) (B : Bn), vs = [.ref p, .ref s, .ref b] ∧ H p = some (.lst [s0, s1]) ∧ H s = some (.lst []) ∧ H b = some (.lst []) ∧ B.Ok ∧ SortIs K H s0 "giver" B.r0 ∧ SortIs K H s1 "user" B.r1 ∧ ∀ v H', Same H H' → ProgIs K H' v B → Q v H'
theorem c_program_of : CalW P w K mg base 6 "_law_program_of" (sp_program_of K) := by
  obtain ⟨fd, F⟩ := T.d__law_program_of
  have FP := f_Program_init (P := P) (base := base) T
  refine cal_of F T.glo__law_program_of (F.binds fun _ _ _ _ _ _ us hl => match us, hl with | [_, _, _], _ => rfl) sc__law_program_of (fun vs H Q E h => by obtain ⟨_, _, _, _, _, _, rfl, _⟩ := h; rfl) fun cdv A outer s H vs Q E hr h => ?_
  obtain ⟨p, sh, bo, s0, s1, B, rfl, g1, g2, g3, ok, h0, h1, hQ⟩ := h
  have nd := sc__law_program_of.nd
  refine ⟨_, pss_cons (ps_if (pt_cmpR op_eq (pe_callB (r := rLenS K) call_len_seq (by rfl) T.free_len PySem.boot_len (pa_cons (pv 0) pa_nil)) pe_int (nomark _)) (pss_one ps_never) pss_nil)
    (pss_cons (ps_if (pt_cmpR op_eq (pe_callB (r := rLenS K) call_len_seq (by rfl) T.free_len PySem.boot_len (pa_cons (pv 0) pa_nil)) pe_int (nomark _))
      (pss_one (ps_ret (pe_makeS T.mkr_Program FP hr (by rfl) T.glo_Program (pa_cons (pe_ix ix_list (pv 0) pe_int (fun _ _ => rfl)) (pa_cons (pe_ix ix_list (pv 0) pe_int (fun _ _ => rfl)) pa_nil)) (pk_cons (pv 1) (pk_cons (pv 2) pk_nil))))) pss_nil)
    (pss_one ps_never)), ?_⟩
  refine ⟨_, rfl, p, _, rfl, .inl (SqL.of g1), rfl, _, rfl, ?_⟩
  refine ifF rfl ?_
  refine ⟨_, rfl, p, _, rfl, .inl (SqL.of g1), rfl, _, rfl, ?_⟩
  refine ifT rfl ?_
  refine ⟨_, rfl, p, _, 0, _, rfl, rfl, SqL.of g1, rfl, _, rfl, p, _, 1, _, rfl, rfl, SqL.of g1, rfl, _, rfl, _, rfl, [], [s0, s1], rfl, rfl, by show 1 ≤ 2; decide, by show 2 ≤ 3; decide, rfl, fun x dx q hx hd hne hqx hqd hq => ?_⟩
  have n1 : upd (upd H dx (.own x)) x (.ins (CP K) dx []) q = none := by rw [upd_ne hqx, upd_ne hqd]; exact hq
  have k1 : Same H (upd (upd H dx (.own x)) x (.ins (CP K) dx [])) := fun b u e => by rw [upd_ne (ne_of_none e hx), upd_ne (ne_of_none e hd)]; exact e
  have k2 := k1.trans (same_upd (o := .tup [s0, s1]) n1)
  refine ⟨x, dx, sh, bo, q, s0, s1, B, rfl, by rw [upd_ne hqx.symm]; exact upd_same, T.ne_PS, k2 _ _ g2, k2 _ _ g3, upd_same, ok, Keep.sort (Same.keep k2) h0, Keep.sort (Same.keep k2) h1, fun H2 s2 hP => ⟨rfl, hQ _ _ (fun b u e => s2 b u (ne_of_none e hx) (k2 _ _ e)) hP⟩⟩
end
end Wv
end WwP_part
section WwQ_part
set_option Elab.async false
set_option linter.all false
set_option maxRecDepth 100000
set_option maxHeartbeats 400000
/-! WwQ: the law makes a bench. -/
namespace Wv
open PySem L2 PySem.Spec
open PyProof.Rows
section
variable {P : Program} {w : World} {K : PySem.W.Frag} {mg : Str → Option Value} {base : Heap} (T : Top w K mg)
include T
def sp_build (K : PySem.W.Frag) : Sp := fun vs H Q _ => ∃ (l c : Addr) (pv : V) (B : Bn), vs = [pv] ∧ PlanIs H l c pv B.r0 B.r1 ∧ B.Ok ∧ ∀ v H', Same H H' → ProgIs K H' v B → Q v H'
theorem c_build : CalW P w K mg base 9 "_law_build" (sp_build K) := by
  obtain ⟨fd, F⟩ := T.d__law_build
  refine cal_of F T.glo__law_build (F.binds fun _ _ _ _ _ _ us hl => match us, hl with | [_], _ => rfl) sc__law_build (fun vs H Q E h => by obtain ⟨_, _, _, _, rfl, _⟩ := h; rfl) fun cdv A outer s H vs Q E hr h => ?_
  obtain ⟨l, c, pv', B, rfl, hpl, ok, hQ⟩ := h
  refine ⟨_, pss_one (ps_ret (pe_w (c_program_of T) hr (by decide) (by rfl) (pa_cons (pe_w (c_made_kinds T) hr (by decide) (by rfl) (pa_cons (pv 0) pa_nil)) (pa_cons (pe_dget (hu_of hr) (pv 0) pe_str (fun _ _ => rfl)) (pa_cons (pe_dget (hu_of hr) (pv 0) pe_str (fun _ _ => rfl)) pa_nil))))), ?_⟩
  obtain ⟨d, k, sh, bo, k0, k1, rfl, g1, g2, g3, g4, g5, g6, g7, g8, g9⟩ := id hpl
  refine ⟨_, rfl, l, c, _, B.r0, B.r1, rfl, hpl, ok.a0, ok.a1, fun p s0 s1 H1 u1 hp1 h0 h1 => ?_⟩
  refine ⟨_, rfl, d, .ref sh, rfl, DGet.k (k := Sum.inr "shared") (u1 _ _ g1), _, rfl, d, .ref bo, rfl, DGet.k (k := Sum.inr "bolts") (u1 _ _ g1), p, sh, bo, s0, s1, B, rfl, hp1, u1 _ _ g5, u1 _ _ g6, ok, h0, h1, fun v H2 u2 hP => hQ v H2 (u1.trans u2) hP⟩
def sp_bench_of (K : PySem.W.Frag) : Sp := fun vs H Q _ => ∃ (pv : V) (p : Addr) (B : Bn), vs = [pv, .ref p, .int 1, .str "any", .int 1] ∧ ProgIs K H pv B ∧ B.Ok ∧ H p = some (.lst (B.hs.map fun b => V.str (nmOf b))) ∧ ∀ v H', Same H H' → BenchIs K H' v B → Q v H'
theorem c_bench_of : CalW P w K mg base 8 "_law_bench_of" (sp_bench_of K) := by
  obtain ⟨fd, F⟩ := T.d__law_bench_of
  have FB := f_Bench_init (P := P) (base := base) T
  refine cal_of F T.glo__law_bench_of (F.binds fun _ _ _ _ _ _ us hl => match us, hl with | [_, _, _, _, _], _ => rfl) sc__law_bench_of (fun vs H Q E h => by obtain ⟨_, _, _, rfl, _⟩ := h; rfl) fun cdv A outer s H vs Q E hr h => ?_
  obtain ⟨pv', p, B, rfl, hP, ok, g1, hQ⟩ := h
  have nd := sc__law_bench_of.nd
  have KW := fun (X : Cx) => True
  refine ⟨_, pss_cons (ps_if (pt_cmpR op_eq (pe_callB (r := rLenS K) call_len_seq (by rfl) T.free_len PySem.boot_len (pa_cons (pv 1) pa_nil)) pe_int (nomark _)) (pss_one (ps_ret (pe_makeS T.mkr_Bench FB hr (by rfl) T.glo_Bench (pa_cons (pv 0) (pa_cons (pe_ix ix_list (pv 1) pe_int (fun _ _ => rfl)) pa_nil)) (pk_cons (pv 2) (pk_cons (pv 3) (pk_cons (pv 4) pk_nil)))))) pss_nil)
    (pss_cons (ps_if (pt_cmpR op_eq (pe_callB (r := rLenS K) call_len_seq (by rfl) T.free_len PySem.boot_len (pa_cons (pv 1) pa_nil)) pe_int (nomark _)) (pss_one (ps_ret (pe_makeS T.mkr_Bench FB hr (by rfl) T.glo_Bench (pa_cons (pv 0) (pa_cons (pe_ix ix_list (pv 1) pe_int (fun _ _ => rfl)) (pa_cons (pe_ix ix_list (pv 1) pe_int (fun _ _ => rfl)) pa_nil))) (pk_cons (pv 2) (pk_cons (pv 3) (pk_cons (pv 4) pk_nil)))))) pss_nil)
    (pss_cons (ps_if (pt_cmpR op_eq (pe_callB (r := rLenS K) call_len_seq (by rfl) T.free_len PySem.boot_len (pa_cons (pv 1) pa_nil)) pe_int (nomark _)) (pss_one (ps_ret (pe_makeS T.mkr_Bench FB hr (by rfl) T.glo_Bench (pa_cons (pv 0) (pa_cons (pe_ix ix_list (pv 1) pe_int (fun _ _ => rfl)) (pa_cons (pe_ix ix_list (pv 1) pe_int (fun _ _ => rfl)) (pa_cons (pe_ix ix_list (pv 1) pe_int (fun _ _ => rfl)) pa_nil)))) (pk_cons (pv 2) (pk_cons (pv 3) (pk_cons (pv 4) pk_nil)))))) pss_nil)
    (pss_one ps_never))), ?_⟩
  have made : ∀ x dx q, H x = none → H dx = none → dx ≠ x → q ≠ x → q ≠ dx → H q = none → sp_Bench_init K [.ref x, pv', .int 1, .str "any", .int 1, .ref q] (upd (upd (upd H dx (.own x)) x (.ins (CB K) dx [])) q (.tup (B.hs.map fun b => V.str (nmOf b)))) (fun v H3 => v = .non ∧ Q (.ref x) H3) E0 := fun x dx q hx hd hne hqx hqd hq => by
    have n1 : upd (upd H dx (.own x)) x (.ins (CB K) dx []) q = none := by rw [upd_ne hqx, upd_ne hqd]; exact hq
    have k1 : Same H (upd (upd H dx (.own x)) x (.ins (CB K) dx [])) := fun b u e => by rw [upd_ne (ne_of_none e hx), upd_ne (ne_of_none e hd)]; exact e
    have k2 := k1.trans (same_upd (o := .tup (B.hs.map fun b => V.str (nmOf b))) n1)
    exact ⟨x, dx, q, pv', B, rfl, by rw [upd_ne hqx.symm]; exact upd_same, Keep.prog (Same.keep k2) hP, ok, upd_same, fun H2 s2 hB => ⟨rfl, hQ _ _ (fun b u e => s2 b u (ne_of_none e hx) (k2 _ _ e)) hB⟩⟩
  have hh := ok.ah
  obtain ⟨r0, r1, hs⟩ := B
  have L := SqL.of (K := K) g1
  rcases hs with _ | ⟨a, _ | ⟨b, _ | ⟨d, _ | ⟨e, hs⟩⟩⟩⟩
  · exact absurd hh.1 (by show ¬ 1 ≤ 0; decide)
  · 
    refine ⟨_, rfl, p, _, rfl, .inl L, rfl, _, rfl, ?_⟩
    refine ifT rfl ?_
    exact ⟨_, rfl, _, rfl, p, _, 0, _, rfl, rfl, L, rfl, _, rfl, _, rfl, _, rfl, [pv'], _, rfl, rfl, by show 1 ≤ 1; decide, by show 1 ≤ 3; decide, rfl, made⟩
  · 
    refine ⟨_, rfl, p, _, rfl, .inl L, rfl, _, rfl, ?_⟩
    refine ifF rfl ?_
    refine ⟨_, rfl, p, _, rfl, .inl L, rfl, _, rfl, ?_⟩
    refine ifT rfl ?_
    exact ⟨_, rfl, _, rfl, p, _, 0, _, rfl, rfl, L, rfl, _, rfl, p, _, 1, _, rfl, rfl, L, rfl, _, rfl, _, rfl, _, rfl, [pv'], _, rfl, rfl, by show 1 ≤ 2; decide, by show 2 ≤ 3; decide, rfl, made⟩
  · 
    refine ⟨_, rfl, p, _, rfl, .inl L, rfl, _, rfl, ?_⟩
    refine ifF rfl ?_
    refine ⟨_, rfl, p, _, rfl, .inl L, rfl, _, rfl, ?_⟩
    refine ifF rfl ?_
    refine ⟨_, rfl, p, _, rfl, .inl L, rfl, _, rfl, ?_⟩
    refine ifT rfl ?_
    exact ⟨_, rfl, _, rfl, p, _, 0, _, rfl, rfl, L, rfl, _, rfl, p, _, 1, _, rfl, rfl, L, rfl, _, rfl, p, _, 2, _, rfl, rfl, L, rfl, _, rfl, _, rfl, _, rfl, [pv'], _, rfl, rfl, by show 1 ≤ 3; decide, by show 3 ≤ 3; decide, rfl, made⟩
  · exact absurd hh.2 (by show ¬ (hs.length + 1 + 1 + 1 + 1 ≤ 3); omega)
end
end Wv
end WwQ_part
section WwR_part
set_option Elab.async false
set_option linter.all false
set_option maxRecDepth 100000
set_option maxHeartbeats 1000000
/-! WwR: the runs, plainly; counting them. -/
namespace Wv

/-- the runs of m steps from the places ps, in their order -/
def runsL (B : Bn) : Nat → List Nat → List (List (Nat × Nat))
  | 0, _ => [[]]
  | m + 1, ps => (stepsOf B ps).flatMap fun s => (runsL B m (nextP ps s.1)).map (s :: ·)
theorem runsL_ok {B : Bn} : ∀ (m : Nat) (ps : List Nat) (r : List (Nat × Nat)), r ∈ runsL B m ps → RunOk B ps r ∧ r.length = m
  | 0, ps, r, h => by
    rw [runsL, List.mem_singleton] at h
    subst h
    exact ⟨trivial, rfl⟩
  | m + 1, ps, r, h => by
    rw [runsL, List.mem_flatMap] at h
    obtain ⟨s, hs, h⟩ := h
    obtain ⟨t, ht, rfl⟩ := List.mem_map.mp h
    obtain ⟨h1, h2⟩ := runsL_ok m _ t ht
    exact ⟨⟨hs, h1⟩, by rw [List.length_cons, h2]⟩
theorem nodup_map {α β : Type} {f : α → β} {l : List α} (hf : ∀ a b, f a = f b → a = b) (h : l.Nodup) : (l.map f).Nodup := by
  unfold List.Nodup at h ⊢
  exact List.Pairwise.map f (fun a b hne e => hne (hf a b e)) h
theorem nodup_flat {α β : Type} {f : α → List β} : ∀ {l : List α}, l.Nodup → (∀ a ∈ l, (f a).Nodup) → (∀ a ∈ l, ∀ b ∈ l, a ≠ b → ∀ x ∈ f a, x ∉ f b) → (l.flatMap f).Nodup
  | [], _, _, _ => List.nodup_nil
  | a :: l, h, h1, h2 => by
    rw [List.nodup_cons] at h
    rw [List.flatMap_cons]
    refine List.nodup_append.mpr ⟨h1 a List.mem_cons_self, nodup_flat h.2 (fun b hb => h1 b (List.mem_cons_of_mem _ hb)) fun b hb c hc => h2 b (List.mem_cons_of_mem _ hb) c (List.mem_cons_of_mem _ hc), fun x hx y hy e => ?_⟩
    subst e
    obtain ⟨b, hb, hy⟩ := List.mem_flatMap.mp hy
    exact h2 a List.mem_cons_self b (List.mem_cons_of_mem _ hb) (fun e => h.1 (e ▸ hb)) x hx hy
theorem stepsTo_nodup {B : Bn} {ps : List Nat} {k : Nat} : (stepsTo B ps k).Nodup := by
  unfold stepsTo
  refine nodup_flat List.nodup_range (fun h _ => nodup_map (fun a b e => (Prod.mk.inj e).2) List.nodup_range) fun a _ b _ hne x hx hy => ?_
  unfold stepsAt at hx hy
  obtain ⟨c, _, rfl⟩ := List.mem_map.mp hx
  obtain ⟨d, _, e⟩ := List.mem_map.mp hy
  exact hne (Prod.mk.inj e).1.symm
theorem runsL_nodup {B : Bn} : ∀ (m : Nat) (ps : List Nat), (runsL B m ps).Nodup
  | 0, _ => List.nodup_cons.mpr ⟨List.not_mem_nil, List.nodup_nil⟩
  | m + 1, ps => by
    rw [runsL]
    refine nodup_flat stepsTo_nodup (fun s _ => nodup_map (fun a b e => (List.cons.inj e).2) (runsL_nodup m _)) fun a _ b _ hne x hx hy => ?_
    obtain ⟨t, _, rfl⟩ := List.mem_map.mp hx
    obtain ⟨u, _, e⟩ := List.mem_map.mp hy
    exact hne (List.cons.inj e).1.symm
theorem flat_len_le {α β : Type} {f : α → List β} {n : Nat} : ∀ {l : List α}, (∀ a ∈ l, (f a).length ≤ n) → (l.flatMap f).length ≤ l.length * n
  | [], _ => by simp
  | a :: l, h => by
    rw [List.flatMap_cons, List.length_append, List.length_cons, Nat.succ_mul]
    have h1 := h a List.mem_cons_self
    have h2 := flat_len_le (l := l) fun b hb => h b (List.mem_cons_of_mem _ hb)
    omega
theorem runsL_len {B : Bn} (ok : B.Ok) : ∀ (m : Nat) (ps : List Nat), (runsL B m ps).length ≤ 6 ^ m
  | 0, _ => Nat.le_refl _
  | m + 1, ps => by
    rw [runsL]
    have h := flat_len_le (f := fun s : Nat × Nat => (runsL B m (nextP ps s.1)).map (s :: ·)) (n := 6 ^ m) (l := stepsOf B ps) fun a _ => by rw [List.length_map]; exact runsL_len ok m _
    have h2 : (stepsOf B ps).length ≤ 6 := by
      have := stepsTo_len (B := B) (ps := ps) B.hs.length
      have := ok.ah
      show (stepsTo B ps B.hs.length).length ≤ 6
      omega
    have h3 : (stepsOf B ps).length * 6 ^ m ≤ 6 * 6 ^ m := Nat.mul_le_mul_right _ h2
    rw [Nat.pow_succ, Nat.mul_comm (6 ^ m) 6]
    exact Nat.le_trans h h3

/-! ### how many -/
abbrev cntR (B : Bn) (m : Nat) (ps : List Nat) : Nat := (runsL B m ps).length
/-- those whose first step is of a hand below k -/
def cntTo (B : Bn) (m : Nat) (ps : List Nat) (k : Nat) : Nat := ((stepsTo B ps k).flatMap fun s => (runsL B m (nextP ps s.1)).map (s :: ·)).length
theorem cntTo_zero {B : Bn} {m : Nat} {ps : List Nat} : cntTo B m ps 0 = 0 := rfl
theorem flat_len_const {α β : Type} {f : α → List β} {n : Nat} : ∀ {l : List α}, (∀ a ∈ l, (f a).length = n) → (l.flatMap f).length = l.length * n
  | [], _ => by simp
  | a :: l, h => by
    rw [List.flatMap_cons, List.length_append, List.length_cons, Nat.succ_mul, h a List.mem_cons_self, flat_len_const fun b hb => h b (List.mem_cons_of_mem _ hb), Nat.add_comm]
theorem cntTo_succ {B : Bn} {m : Nat} {ps : List Nat} {k : Nat} : cntTo B m ps (k + 1) = cntTo B m ps k + B.cho k (ps.getD k 0) * cntR B m (nextP ps k) := by
  unfold cntTo
  rw [stepsTo_succ, List.flatMap_append, List.length_append]
  congr 1
  rw [flat_len_const (n := cntR B m (nextP ps k)) fun a ha => ?_]
  · unfold stepsAt
    rw [List.length_map, List.length_range]
  · unfold stepsAt at ha
    obtain ⟨c, _, rfl⟩ := List.mem_map.mp ha
    rw [List.length_map]
theorem cntTo_all {B : Bn} {m : Nat} {ps : List Nat} : cntTo B m ps B.hs.length = cntR B (m + 1) ps := rfl

/-! ### a table of counts -/
def wsum (f : List Nat → Nat) (cs : List (List Nat × Nat)) : Nat := (cs.map fun x => x.2 * f x.1).sum
def getN (cs : List (List Nat × Nat)) (k : List Nat) : Option Nat := (cs.find? fun x => decide (x.1 = k)).map (·.2)
def putN (cs : List (List Nat × Nat)) (k : List Nat) (v : Nat) : List (List Nat × Nat) :=
  if (cs.any fun x => decide (x.1 = k)) = true then cs.map (fun x => if x.1 = k then (x.1, v) else x) else cs ++ [(k, v)]
theorem wsum_append {f : List Nat → Nat} {a b : List (List Nat × Nat)} : wsum f (a ++ b) = wsum f a + wsum f b := by unfold wsum; rw [List.map_append, List.sum_append]
theorem wsum_cons {f : List Nat → Nat} {x : List Nat × Nat} {b : List (List Nat × Nat)} : wsum f (x :: b) = x.2 * f x.1 + wsum f b := by unfold wsum; rw [List.map_cons, List.sum_cons]
theorem put_keys {cs : List (List Nat × Nat)} {k : List Nat} {v : Nat} (h : (cs.any fun x => decide (x.1 = k)) = true) : (cs.map (fun x => if x.1 = k then (x.1, v) else x)).map (·.1) = cs.map (·.1) := by
  rw [List.map_map]
  refine List.map_congr_left fun x _ => ?_
  show (if x.1 = k then (x.1, v) else x).1 = x.1
  split <;> rfl
theorem putN_nodup {cs : List (List Nat × Nat)} {k : List Nat} {v : Nat} (h : (cs.map (·.1)).Nodup) : ((putN cs k v).map (·.1)).Nodup := by
  unfold putN
  split
  · rename_i q
    rw [put_keys q]; exact h
  · rename_i q
    rw [List.map_append]
    refine List.nodup_append.mpr ⟨h, List.nodup_cons.mpr ⟨List.not_mem_nil, List.nodup_nil⟩, fun a ha b hb e => q ?_⟩
    rw [List.map_cons, List.map_nil, List.mem_singleton] at hb
    obtain ⟨x, hx, e2⟩ := List.mem_map.mp ha
    exact List.any_eq_true.mpr ⟨x, hx, decide_eq_true (by rw [e2, e, hb])⟩
theorem mem_putN {cs : List (List Nat × Nat)} {k : List Nat} {v : Nat} {x : List Nat × Nat} (h : x ∈ putN cs k v) : x.1 = k ∨ x.1 ∈ cs.map (·.1) := by
  unfold putN at h
  split at h
  · obtain ⟨y, hy, rfl⟩ := List.mem_map.mp h
    by_cases e : y.1 = k
    · rw [if_pos e]; exact .inl e
    · rw [if_neg e]; exact .inr (List.mem_map.mpr ⟨y, hy, rfl⟩)
  · rcases List.mem_append.mp h with h | h
    · exact .inr (List.mem_map.mpr ⟨x, h, rfl⟩)
    · rw [List.mem_singleton] at h; subst h; exact .inl rfl
theorem putN_len {cs : List (List Nat × Nat)} {k : List Nat} {v : Nat} : (putN cs k v).length ≤ cs.length + 1 := by
  unfold putN
  split
  · rw [List.length_map]; omega
  · rw [List.length_append]; exact Nat.le_refl _
theorem map_same {k : List Nat} {v : Nat} : ∀ {cs : List (List Nat × Nat)}, k ∉ cs.map (·.1) → cs.map (fun x => if x.1 = k then (x.1, v) else x) = cs
  | [], _ => rfl
  | x :: cs, h => by
    rw [List.map_cons, List.mem_cons, not_or] at h
    rw [List.map_cons, if_neg (fun e => h.1 e.symm), map_same h.2]
theorem wsum_put {f : List Nat → Nat} {k : List Nat} {w : Nat} : ∀ {cs : List (List Nat × Nat)}, (cs.map (·.1)).Nodup → wsum f (putN cs k ((getN cs k).getD 0 + w)) = wsum f cs + w * f k
  | [], _ => by
    show wsum f [(k, 0 + w)] = _
    rw [wsum_cons, Nat.zero_add, Nat.add_comm]
  | x :: cs, h => by
    rw [List.map_cons, List.nodup_cons] at h
    by_cases e : x.1 = k
    · have hg : getN (x :: cs) k = some x.2 := by simp [getN, List.find?_cons, e]
      have hp : putN (x :: cs) k ((getN (x :: cs) k).getD 0 + w) = (x.1, x.2 + w) :: cs := by
        rw [hg]
        unfold putN
        rw [if_pos (List.any_eq_true.mpr ⟨x, List.mem_cons_self, decide_eq_true e⟩), List.map_cons, if_pos e, map_same (by rw [← e]; exact h.1)]
        rfl
      rw [hp, wsum_cons, wsum_cons, ← e]
      show (x.2 + w) * f x.1 + _ = _
      rw [Nat.add_mul]; omega
    · have hg : getN (x :: cs) k = getN cs k := by simp [getN, List.find?_cons, e]
      have hp : putN (x :: cs) k ((getN (x :: cs) k).getD 0 + w) = x :: putN cs k ((getN cs k).getD 0 + w) := by
        rw [hg]
        unfold putN
        rw [List.any_cons, decide_eq_false e, Bool.false_or]
        split
        · rw [List.map_cons, if_neg e]
        · rfl
      rw [hp, wsum_cons, wsum_cons, wsum_put h.2]; omega

/-! ### none is left beyond the last row -/
def leftP (B : Bn) (ps : List Nat) : Nat := ((List.range B.hs.length).map fun h => (B.at_ h).length - ps.getD h 0).sum
theorem sum_lt {f g : Nat → Nat} {i : Nat} : ∀ {l : List Nat}, (∀ j ∈ l, g j ≤ f j) → i ∈ l → g i < f i → (l.map g).sum < (l.map f).sum
  | [], _, h, _ => absurd h List.not_mem_nil
  | a :: l, h, hi, hl => by
    rw [List.map_cons, List.map_cons, List.sum_cons, List.sum_cons]
    have h1 := h a List.mem_cons_self
    have mono : ∀ {l : List Nat}, (∀ j ∈ l, g j ≤ f j) → (l.map g).sum ≤ (l.map f).sum := by
      intro l
      induction l with
      | nil => intro _; exact Nat.le_refl _
      | cons b l ih =>
        intro h
        rw [List.map_cons, List.map_cons, List.sum_cons, List.sum_cons]
        exact Nat.add_le_add (h b List.mem_cons_self) (ih fun j hj => h j (List.mem_cons_of_mem _ hj))
    by_cases e : i = a
    · subst e
      have := mono fun j hj => h j (List.mem_cons_of_mem _ hj)
      omega
    · have := sum_lt (fun j hj => h j (List.mem_cons_of_mem _ hj)) ((List.mem_cons.mp hi).resolve_left e) hl
      omega
theorem left_next {B : Bn} {ps : List Nat} {s : Nat × Nat} (hp : PsOk B ps) (hs : s ∈ stepsOf B ps) : leftP B (nextP ps s.1) < leftP B ps := by
  obtain ⟨h, c⟩ := s
  obtain ⟨b, p, r, eb, ep, er, hc, en⟩ := step_facts hp hs
  have hh : h < ps.length := (List.getElem?_eq_some_iff.mp ep).1
  have hlt : p < (B.at_ h).length := by rw [Bn.at_of eb]; exact (List.getElem?_eq_some_iff.mp er).1
  have ed : ps.getD h 0 = p := by rw [List.getD_eq_getElem?_getD, ep]; rfl
  have es : (nextP ps h).getD h 0 = p + 1 := by rw [en, List.getD_eq_getElem?_getD, List.getElem?_set_self hh]; rfl
  refine sum_lt (i := h) (fun j _ => ?_) (List.mem_range.mpr (List.getElem?_eq_some_iff.mp eb).1) ?_
  · by_cases e : j = h
    · subst e
      show _ - (nextP ps j).getD j 0 ≤ _
      rw [es, ed]; omega
    · have : (nextP ps h).getD j 0 = ps.getD j 0 := by rw [en, List.getD_eq_getElem?_getD, List.getElem?_set_ne (Ne.symm e), List.getD_eq_getElem?_getD]
      show _ - (nextP ps h).getD j 0 ≤ _
      rw [this]; exact Nat.le_refl _
  · show _ - (nextP ps h).getD h 0 < _
    rw [es, ed]; omega
theorem runsL_none {B : Bn} : ∀ (m : Nat) (ps : List Nat), PsOk B ps → leftP B ps < m → runsL B m ps = []
  | 0, _, _, h => absurd h (Nat.not_lt_zero _)
  | m + 1, ps, hp, h => by
    rw [runsL]
    refine List.flatMap_eq_nil_iff.mpr fun s hs => ?_
    rw [runsL_none m _ (hp.next (c := s.2) hs) (by have := left_next hp hs; omega)]
    rfl
/-- all rows of all hands -/
def totalR (B : Bn) : Nat := (B.hs.map fun b => (B.rows b).length).sum
theorem left_start {B : Bn} : leftP B (ps0 B) = totalR B := by
  unfold leftP totalR
  congr 1
  refine List.ext_getElem? fun h => ?_
  rw [List.getElem?_map, List.getElem?_map]
  by_cases hh : h < B.hs.length
  · obtain ⟨b, eb⟩ : ∃ b, B.hs[h]? = some b := ⟨_, List.getElem?_eq_getElem hh⟩
    rw [List.getElem?_range hh, eb]
    show some ((B.at_ h).length - (ps0 B).getD h 0) = some (B.rows b).length
    have : (ps0 B).getD h 0 = 0 := by
      unfold ps0
      rw [List.getD_eq_getElem?_getD, List.getElem?_replicate]
      split <;> rfl
    rw [Bn.at_of eb, this]; rfl
  · rw [List.getElem?_eq_none (by rw [List.length_range]; omega), List.getElem?_eq_none (by omega)]; rfl
theorem end_of_none {B : Bn} {ps : List Nat} (hp : PsOk B ps) (h : stepsOf B ps = []) : endOf B ps = true := by
  unfold endOf
  refine List.all_eq_true.mpr fun i hi => ?_
  have hi := List.mem_range.mp hi
  obtain ⟨b, eb⟩ : ∃ b, B.hs[i]? = some b := ⟨_, List.getElem?_eq_getElem hi⟩
  obtain ⟨p, ep⟩ : ∃ p, ps[i]? = some p := ⟨_, List.getElem?_eq_getElem (by rw [hp.len]; exact hi)⟩
  have hle := hp.le i b p eb ep
  refine decide_eq_true ?_
  rw [ep, Bn.at_of eb]
  congr 1
  by_cases hlt : p < (B.rows b).length
  · exfalso
    have : (i, 0) ∈ stepsOf B ps := mem_stepsTo.mpr ⟨hi, by
      show 0 < B.cho i (ps.getD i 0)
      have ed : ps.getD i 0 = p := by rw [List.getD_eq_getElem?_getD, ep]; rfl
      unfold Bn.cho
      rw [ed, Bn.at_of eb, List.getElem?_eq_getElem hlt]
      show 0 < ((B.rows b)[p]).ways
      cases (B.rows b)[p] <;> decide⟩
    rw [h] at this
    exact absurd this List.not_mem_nil
  · omega
end Wv
end WwR_part
section WwS_part
set_option Elab.async false
set_option linter.all false
set_option maxRecDepth 100000
set_option maxHeartbeats 1000000
/-! WwS: dicts keyed by tuples: {k: v}, items(), values(). -/
namespace Wv
open PySem L2 PySem.Spec
open PyProof.Rows

section
variable {prog : Program} {w : World} {κ : Type} [DecidableEq κ] {knd : HeapKind prog w κ} {A : Around} {E : Value → Shared → Prop} {s : Shared} {env : Env}
/-- a display of one entry, the key a tuple -/
theorem wpAny_Dict1 {ek ev : Expr} {pos : Pos} {Q : Value → Shared → Prop} (hr : knd.room A)
    (h : wpAny (model prog w) A (eval ek env) (fun kv s1 => wpAny (model prog w) A (eval ev env) (fun vv s2 => ∃ a k, kv = .ref a ∧ knd.is s2.heap k a ∧ s2.heap.DictOfH knd s.heap.objs.size [] ∧
      ∀ h' tk, h'.DictOfH knd s.heap.objs.size [(k, a, vv)] → Heap.SameBut s.heap.objs.size s2.heap h' → Q (.ref s.heap.objs.size) { s2 with heap := h', toks := tk }) E s1) E { s with heap := s.heap.push { cls := .type "dict", data := .dict #[] } }) :
    wpAny (model prog w) A (eval (.Dict [some ek] [ev] pos) env) Q E s := by
  have ez : (evalEachOpt [some ek] env).zip ((evalEach [ev] env).map fun v => do let x ← v; standAt pos; pure x) = (pairTrees [some ek] [ev] env pos).map fun p => (some p.1, p.2) := zip_pairTrees [some ek] [ev] env pos rfl rfl
  rw [arm_eval_Dict, ez, dictDisplay_pairs _ (by intro z; cases z) (by show 1 < 17; decide)]
  refine wpAny_bind (wpAny_standAt (wpAny_bind ?_))
  unfold subDict
  refine wpAny_bind (wpAny_alloc ?_)
  refine wpAny_bind (wpAny_holding ?_)
  rw [if_pos (show (pairTrees [some ek] [ev] env pos).length ≤ 15 from by show 1 ≤ 15; decide)]
  refine wpAny_bind (pairTrees_cons_walk (wpAny_mono h (fun kv s1 h1 => wpAny_mono h1 (fun vv s2 h2 => pairTrees_nil_walk ?_) fun _ _ e => e) fun _ _ e => e))
  obtain ⟨a, k, rfl, hk, hm, hq⟩ := h2
  refine wpAny_holding (wpAny_bind ?_)
  rw [List.forIn_cons]
  refine wpAny_bind (wpAny_bind (wpAny_dictSet_heap (hsz := Nat.zero_le _) hr hk hm fun h' hm' hs' => wpAny_pure ?_))
  dsimp only
  rw [List.forIn_nil]
  exact wpAny_pure (wpAny_pure (wpAny_pure (wpAny_pure (hq h' _ hm' hs'))))
end

/-- {k: v}, k a tuple of ints and texts -/
def tDisp1T (tk tv : TE) : TE := fun σ H Q => ∀ p, H p = none → tk σ (upd H p (.dT [])) fun y H1 => tv σ H1 fun v H2 => ∃ b k, y = .ref b ∧ H2 p = some (.dT []) ∧ H2 b = some (.tup (k.map kV)) ∧ Q (.ref p) (upd H2 p (.dT [(k, v)]))
theorem pe_disp1T {X : Cx} {ek ev : Expr} {tk tv : TE} {pos : Pos} (hu : X.A.units + 1 < cLine) (hk : PE X ek tk) (hv : PE X ev tv) : PE X (.Dict [some ek] [ev] pos) (tDisp1T tk tv) := by
  refine ⟨fun pins s σ H Q I q => ?_⟩
  have hn := I.hok.fresh (Nat.le_refl s.heap.objs.size)
  have I1 := I.laid (a := s.heap.objs.size) (o := .dT []) (h' := s.heap.push { cls := .type "dict", data := .dict #[] }) (t' := s.toks) (fun _ _ q => Heap.get?_push_of_some _ q) (Nat.le_refl _) (dt_empty s.heap I.big)
  refine wpAny_Dict1 (knd := tupleKind (mixKind X.prog X.w)) (show X.A.units < cLine from by omega) (thn (hk.run pins _ σ _ _ I1 (q _ hn)) fun kv s1 ⟨y, H1, I1', ry, q1⟩ => thn (hv.run pins s1 σ H1 _ I1' q1) fun vv s2 ⟨v, H2, I2, rv, q2⟩ => ?_)
  obtain ⟨b, k, rfl, e, eb, q2⟩ := q2
  cases (show kv = Value.ref b from ry)
  obtain ⟨z, hd, xs, rel, dd⟩ := dt_of I2.hok e
  cases rel
  refine ⟨b, k, rfl, key_of I2.hok eb, dd, fun h' tk hm' hs => ⟨.ref s.heap.objs.size, _, ?_, rfl, q2⟩⟩
  obtain ⟨o, es, ep, h1, h2, h3, h4, h5, h6⟩ := hm'
  refine d_write I2 (by rw [e]; exact True.intro) hs ⟨o, h1⟩ ⟨by show 1 ≤ sizeLine; decide, hd, [(k, b, vv)], .cons ⟨rfl, ?_, rv⟩ .nil, o, es, ep, h1, h2, h3, h4, h6⟩
  have hb : b ≠ s.heap.objs.size := fun z => by rw [z, e] at eb; cases eb
  show upd H2 _ _ b = _
  rw [upd_ne hb]; exact eb

section
variable {X : Cx} {pins : List (Addr × Obj)} {σ : L2.St} {H : Hp} {s : Shared} {d : Addr} {o : Obj}
/-- a locked dict with tuple keys -/
theorem Inv.frzTV {kvs : List (List Key × V)} (I : Inv X pins σ H s) (h : H d = some (.frz o (.dT kvs))) :
    (d == sysModules) = false ∧ s.heap.get? d = some o ∧ o.ExactDict ∧ ∃ (es : Array DictEntry) (ep : Nat), o.data = .dict es ep ∧ es.size = kvs.length ∧
      ∀ (i : Nat) (hi : i < es.size) (k : List Key) (v : V), kvs[i]? = some (k, v) → ∃ q : Addr, es[i].key = .ref q ∧ H q = some (.tup (k.map kV)) ∧ RelV v es[i].val := by
  obtain ⟨hd, z, hs, xs, pr, o', es, ep, ho, hx, hdt, he, _⟩ := I.hok d _ h
  rw [hd] at ho
  cases ho
  refine ⟨hs, hd, hx, es, ep, hdt, ?_, fun i hi k v e => ?_⟩
  · have l1 : es.size = xs.length := size_of_entries he
    have l2 : kvs.length = xs.length := Paired.length pr
    omega
  · obtain ⟨b, hb, e1, e2, e3⟩ := L2.paired_get pr e
    have q := entry_at he i
    rw [hb, Array.getElem?_eq_getElem hi] at q
    have q := Option.some.inj q
    rw [q]
    exact ⟨b.2.1, rfl, e2, e3⟩
end
/-- the values -/
def ItdT (d : Addr) (o : Obj) (kvs : List (List Key × V)) : It :=
  ⟨fun i H => H d = some (.frz o (.dT kvs)) ∧ i < kvs.length, fun i H x H' => H' = H ∧ ∃ k, kvs[i]? = some (k, x), fun i H => H d = some (.frz o (.dT kvs)) ∧ kvs.length ≤ i⟩
/-- the pairs, each a new tuple -/
def ItiT (d : Addr) (o : Obj) (kvs : List (List Key × V)) : It :=
  ⟨fun i H => H d = some (.frz o (.dT kvs)) ∧ i < kvs.length, fun i H x H' => ∃ T k v q, kvs[i]? = some (k, v) ∧ H q = some (.tup (k.map kV)) ∧ x = .ref T ∧ H T = none ∧ H' = upd H T (.tup [.ref q, v]), fun i H => H d = some (.frz o (.dT kvs)) ∧ kvs.length ≤ i⟩
section
variable {P : Program} {w : World} {K : PySem.W.Frag} {tg : Expr} {d : Addr} {o : Obj} {es : Array DictEntry} {ep : Nat}
theorem turn_valsT {kvs : List (List Key × V)} (it : Addr) (hod : o.data = .dict es ep) : Turn P w K tg (ItdT d o kvs) [it] it (fun i h => h.IsValIter it d i kvs.length ep) where
  mem := by simp
  obj := fun i h st b hb => by
    have e : b = it := by simpa using hb
    subst e
    obtain ⟨oi, e, c, dd⟩ := st
    exact ⟨oi, e, fun v z => by rw [dd] at z; cases z⟩
  keep := fun i h h' st k => st.at fun oi e => k it (by simp) oi e
  item := by
    intro X hP hw hK hc i pins s σ H E I hf st hg
    subst hP hw hK
    obtain ⟨hd, hi⟩ := hg
    obtain ⟨f0, f1, f2, f3, f4, f5⟩ := hf it (by simp)
    obtain ⟨hs, hgd, hx, es', ep', hdt, hsz, ent⟩ := Inv.frzTV I hd
    obtain ⟨rfl, rfl⟩ := dict_ep hod hdt
    obtain ⟨⟨k, v⟩, hkv⟩ : ∃ p, kvs[i]? = some p := ⟨kvs[i], List.getElem?_eq_getElem hi⟩
    have hi' : i < es'.size := by rw [hsz]; exact hi
    obtain ⟨q, hkey, hq, rv⟩ := ent i hi' k v hkv
    rw [← hsz] at st
    refine wpAny_pyNext_values_item_raw st ⟨o, hgd, hx, hdt⟩ hi' fun h' st' sb => ?_
    have I1 : Inv X pins σ H { s with heap := h' } := I.turned (t' := s.toks) (fun b ob hb e => (sb.2 b hb).trans e) f0 f1 f3 f4 f5
    obtain ⟨oi, e, c, dd⟩ := id st'
    refine ⟨_, rfl, go_of (s := { s with heap := h' }) e c dd (by decide) ⟨v, H, I1, rv, ⟨rfl, k, hkv⟩, ?_, fun b hb => (hf b hb).1⟩⟩
    show h'.IsValIter it d (i + 1) kvs.length _
    rw [← hsz]
    exact st'
  done := by
    intro X hP hw hK hc i pins s σ H E I hf st hg
    subst hP hw hK
    obtain ⟨hd, hi⟩ := hg
    obtain ⟨f0, f1, f2, f3, f4, f5⟩ := hf it (by simp)
    obtain ⟨hs, hgd, hx, es', ep', hdt, hsz, ent⟩ := Inv.frzTV I hd
    obtain ⟨rfl, rfl⟩ := dict_ep hod hdt
    rw [← hsz] at st
    exact wpAny_pyNext_values_end_raw (I.ok.hd hc) st ⟨o, hgd, hx, hdt⟩ (by omega) fun h' eb => ⟨rfl, I.turned (t' := s.toks) (fun b ob hb e => eb b ob hb e) f0 f1 f3 f4 f5⟩
  self := fun A i s Q E st h => wpAny_pyIter_valiter st h
theorem turn_itemsT {kvs : List (List Key × V)} {elts : List Expr} {kk : Nat} {tpos : Pos} (it : Addr) (hod : o.data = .dict es ep) :
    Turn P w K (.Tuple elts kk tpos) (ItiT d o kvs) [it] it (fun i h => ∃ ok ov, IsItemIter h it d i kvs.length ep ok ov) where
  mem := by simp
  obj := fun i h st b hb => by
    have e : b = it := by simpa using hb
    subst e
    obtain ⟨ok, ov, e⟩ := st
    exact ⟨_, e, fun v z => nomatch z⟩
  keep := fun i h h' st k => let ⟨ok, ov, e⟩ := st; ⟨ok, ov, k it (by simp) _ e⟩
  item := by
    intro X hP hw hK hc i pins s σ H E I hf st hg
    subst hP hw hK
    obtain ⟨hd, hi⟩ := hg
    obtain ⟨hs, hgd, hx, es', ep', hdt, hsz, ent⟩ := Inv.frzTV I hd
    obtain ⟨rfl, rfl⟩ := dict_ep hod hdt
    obtain ⟨⟨k, v⟩, hkv⟩ : ∃ p, kvs[i]? = some p := ⟨kvs[i], List.getElem?_eq_getElem hi⟩
    have hi' : i < es'.size := by rw [hsz]; exact hi
    obtain ⟨q, hkey, hq, rv⟩ := ent i hi' k v hkv
    obtain ⟨ok, ov, he⟩ := st
    rw [← hsz] at he
    have hlt : it < s.heap.objs.size := Heap.lt_size he
    refine wpAny_pyNext_items_item_raw he ⟨o, hgd, hx, hdt⟩ hi' fun h' ho hT hz hk => ?_
    refine ⟨_, rfl, wpAny_letOwnedTupleGo_items (s := { s with heap := h' }) ho fun h'' he' sb => ?_⟩
    have hT2 : h''.get? s.heap.objs.size = some { cls := .type "tuple", data := .seq #[es'[i].key, es'[i].val] } := (sb.2 _ (Nat.ne_of_gt hlt)).trans hT
    have new : ObjOk X.prog X.w (upd H s.heap.objs.size (.tup [.ref q, v])) h'' s.heap.objs.size (.tup [.ref q, v]) :=
      ⟨by show 2 ≤ sizeLine; decide, [es'[i].key, es'[i].val], .cons hkey (.cons rv .nil), ⟨_, hT2, rfl, _, rfl⟩⟩
    have I1 : Inv X pins σ (upd H s.heap.objs.size (.tup [.ref q, v])) { s with heap := h'' } :=
      I.turnedNew (t' := s.toks) (ch := [it]) (fun b ob hb e => (sb.2 b (by simpa using hb)).trans (hk b ob (by simpa using hb) e)) hf (Nat.le_refl _) new
    refine ⟨.ref s.heap.objs.size, _, I1, rfl, ⟨_, k, v, q, hkv, hq, rfl, I.hok.fresh (Nat.le_refl _), rfl⟩, ⟨es'[i].key, es'[i].val, ?_⟩, fun b hb => ?_⟩
    · rw [← hsz]; exact he'
    · have e : b = it := by simpa using hb
      rw [e, upd_ne (Nat.ne_of_lt hlt)]
      exact (hf it (by simp)).1
  done := by
    intro X hP hw hK hc i pins s σ H E I hf st hg
    subst hP hw hK
    obtain ⟨hd, hi⟩ := hg
    obtain ⟨f0, f1, f2, f3, f4, f5⟩ := hf it (by simp)
    obtain ⟨hs, hgd, hx, es', ep', hdt, hsz, ent⟩ := Inv.frzTV I hd
    obtain ⟨rfl, rfl⟩ := dict_ep hod hdt
    obtain ⟨ok, ov, he⟩ := st
    rw [← hsz] at he
    exact wpAny_pyNext_items_end_raw (I.ok.hd hc) he ⟨o, hgd, hx, hdt⟩ (by omega) fun h' eb => ⟨rfl, I.turned (t' := s.toks) (fun b ob hb e => eb b ob hb e) f0 f1 f3 f4 f5⟩
  self := fun A i s Q E st h => let ⟨_, _, e⟩ := st; PySem.W.kcp_self e h
end
def iValsT (td : TE) : TI := fun σ H R => td σ H fun x H1 => ∃ d o kvs, x = .ref d ∧ H1 d = some (.frz o (.dT kvs)) ∧ R (ItdT d o kvs) H1
def iItemsT (td : TE) : TI := fun σ H R => td σ H fun x H1 => ∃ d o kvs, x = .ref d ∧ H1 d = some (.frz o (.dT kvs)) ∧ R (ItiT d o kvs) H1
section
variable {X : Cx} {tg e : Expr} {td : TE} {apos cpos : Pos}
theorem raw_noDict {s : Shared} {d : Addr} {o : Obj} (hgd : s.heap.get? d = some o) (hx : o.ExactDict) : ∀ a : Addr, Value.ref d = Value.ref a → ∃ ob, s.heap.get? a = some ob ∧ ob.dict = none := fun a e => by cases e; exact ⟨o, hgd, hx.2.1⟩
theorem pi_valuesT (he : PE X e td) (hbase : attributeBase e "values" X.env (eval e X.env) = eval e X.env := by rfl) (hline : (apos.endLine == cpos.line) = true := by rfl) : PI X tg (.Call (.Attribute e "values" apos) [] [] cpos) (iValsT td) := by
  refine ⟨fun pins s σ H R I h => ?_⟩
  refine wpAny_Call_method (T := "dict") (id := "dict.values") hbase rfl hline F.plainAttrs_dict F.slot_dict_values F.type_dict_values (thn (he.run pins s σ H _ I h) fun u s1 ⟨x, H1, I1, rx, d, o, kvs, ex, hd, q⟩ => ?_)
  subst ex
  obtain rfl : u = Value.ref d := rx
  obtain ⟨hs, hgd, hx, es, ep, hdt, hsz, ent⟩ := Inv.frzTV I1 hd
  have raw : s1.heap.DictRaw d es ep := ⟨o, hgd, hx, hdt⟩
  refine ⟨raw.typeIs, raw_noDict hgd hx, ?_⟩
  have I2 : Inv X pins σ H1 { s1 with heap := s1.heap.push { cls := .type "dict_values", data := .fields #[.ref d] } } := I1.kept (t' := s1.toks) fun b ob q => Heap.get?_push_of_some _ q
  have fin : wpAny (model X.prog X.w) X.A (pyIter (.ref s1.heap.objs.size)) (PIE X pins σ tg R) X.xe { s1 with heap := s1.heap.push { cls := .type "dict_values", data := .fields #[.ref d] } } := by
    refine wpAny_pyIter_values_raw (d := d) ⟨_, Heap.get?_push_size _ rfl, rfl, rfl⟩ (raw.at fun o e => Heap.get?_push_of_some _ e) (pi_one (tk := s1.toks) I2 _ (turn_valsT _ hdt) ⟨_, Heap.get?_push_size _ rfl, rfl, ?_⟩ q)
    rw [hsz] <;> rfl
  show wpAny _ _ (callWith cpos (.builtin "dict.values") [.ref d] [] []) _ X.xe s1
  exact method_meetsIn F.slot_dict_values F.entry_dict_values rfl (PySem.evalArgs_none ⟨rfl, raw.typeIs, F.args_dict_values_1 _, _, meets_dict_values_raw d hs, ⟨es, ep, raw⟩, fin⟩)
theorem pi_itemsT {elts : List Expr} {kk : Nat} {tpos : Pos} (he : PE X e td) (hbase : attributeBase e "items" X.env (eval e X.env) = eval e X.env := by rfl) (hline : (apos.endLine == cpos.line) = true := by rfl) :
    PI X (.Tuple elts kk tpos) (.Call (.Attribute e "items" apos) [] [] cpos) (iItemsT td) := by
  refine ⟨fun pins s σ H R I h => ?_⟩
  refine wpAny_Call_method (T := "dict") (id := "dict.items") hbase rfl hline F.plainAttrs_dict F.slot_dict_items F.type_dict_items (thn (he.run pins s σ H _ I h) fun u s1 ⟨x, H1, I1, rx, d, o, kvs, ex, hd, q⟩ => ?_)
  subst ex
  obtain rfl : u = Value.ref d := rx
  obtain ⟨hs, hgd, hx, es, ep, hdt, hsz, ent⟩ := Inv.frzTV I1 hd
  have raw : s1.heap.DictRaw d es ep := ⟨o, hgd, hx, hdt⟩
  refine ⟨raw.typeIs, raw_noDict hgd hx, ?_⟩
  have I2 : Inv X pins σ H1 { s1 with heap := s1.heap.push { cls := .type "dict_items", data := .fields #[.ref d] } } := I1.kept (t' := s1.toks) fun b ob q => Heap.get?_push_of_some _ q
  have fin : wpAny (model X.prog X.w) X.A (pyIter (.ref s1.heap.objs.size)) (PIE X pins σ (.Tuple elts kk tpos) R) X.xe { s1 with heap := s1.heap.push { cls := .type "dict_items", data := .fields #[.ref d] } } := by
    refine wpAny_pyIter_items_raw (d := d) ⟨_, Heap.get?_push_size _ rfl, rfl, rfl⟩ (raw.at fun o e => Heap.get?_push_of_some _ e) (pi_one (tk := s1.toks) I2 _ (turn_itemsT _ hdt) ⟨.none, .none, ?_⟩ q)
    rw [← hsz]
    exact Heap.get?_push_size _ rfl
  show wpAny _ _ (callWith cpos (.builtin "dict.items") [.ref d] [] []) _ X.xe s1
  exact method_meetsIn F.slot_dict_items F.entry_dict_items rfl (PySem.evalArgs_none ⟨rfl, raw.typeIs, F.args_dict_items_1 _, _, meets_dict_items_raw d hs, ⟨es, ep, raw⟩, fin⟩)
end
end Wv
end WwS_part
section WwT_part
set_option Elab.async false
set_option linter.all false
set_option maxRecDepth 100000
set_option maxHeartbeats 1000000
/-! WwT: _law_ways. -/
namespace Wv
open PySem L2 PySem.Spec
open PyProof.Rows

theorem for_itemsT {d : Addr} {o : Obj} {kvs : List (List Key × V)} {g : TG} {tb : TS} {D : L2.Ends} {σ : L2.St} {H : Hp} (Pv : Nat → L2.St → Hp → Prop) (h0 : Pv 0 σ H) (hl : ∀ i σ H, Pv i σ H → H d = some (.frz o (.dT kvs)))
    (hs : ∀ (i : Nat) (k : List Key) (v : V) (T q : Addr) (σ : L2.St) (H : Hp), kvs[i]? = some (k, v) → Pv i σ H → H q = some (.tup (k.map kV)) → H T = none → g (.ref T) σ (upd H T (.tup [.ref q, v])) fun σ2 H2 => tb { D with nx := Pv (i + 1), ct := Pv (i + 1), bk := D.nx } σ2 H2) (hd : ∀ σ H, Pv kvs.length σ H → D.nx σ H) :
    ∃ W : Nat → Nat → L2.St → Hp → Prop, (∃ m, W 0 m σ H) ∧ ∀ i m σ H, W i m σ H →
      ((ItiT d o kvs).stop i H ∧ D.nx σ H) ∨ ((ItiT d o kvs).go i H ∧ ∃ N : L2.St → Hp → Prop, (∀ σ' H', N σ' H' → ∃ m', m' < m ∧ W (i + 1) m' σ' H') ∧ ∀ x H', (ItiT d o kvs).yld i H x H' → g x σ H' fun σ2 H2 => tb { D with nx := N, ct := N, bk := D.nx } σ2 H2) := by
  refine ⟨fun i m σ H => m = kvs.length - i ∧ i ≤ kvs.length ∧ Pv i σ H, ⟨_, rfl, Nat.zero_le _, h0⟩, ?_⟩
  rintro i m σ H ⟨rfl, hi, p⟩
  by_cases hlt : i < kvs.length
  · refine .inr ⟨⟨hl i σ H p, hlt⟩, Pv (i + 1), fun σ' H' p' => ⟨kvs.length - (i + 1), by omega, rfl, hlt, p'⟩, fun x H' y => ?_⟩
    obtain ⟨T, k, v, q, e, hq, rfl, hT, rfl⟩ := y
    exact hs i k v T q σ H e p hq hT
  · have e : i = kvs.length := by omega
    subst e
    exact .inl ⟨⟨hl _ σ H p, Nat.le_refl _⟩, hd σ H p⟩
theorem walks_valsT {d : Addr} {o : Obj} {kvs : List (List Key × V)} {H1 : Hp} (h : H1 d = some (.frz o (.dT kvs))) : Walks (ItdT d o kvs) (kvs.map (·.2)) H1 := fun i H s => by
  have q := s _ _ h
  rw [List.length_map]
  refine ⟨fun hi => ⟨q, hi⟩, fun hi => ⟨q, hi⟩, fun hi x H' y => ⟨y.1, ?_⟩⟩
  obtain ⟨_, k, e⟩ := y
  rw [List.getElem?_map, e]; rfl

/-! ### the table -/
def encK (p : List Nat) : List Key := p.map fun n : Nat => Sum.inl (n : Int)
def encT (cs : List (List Nat × Nat)) : List (List Key × V) := cs.map fun x => (encK x.1, .int (x.2 : Nat))
theorem encK_kV (p : List Nat) : (encK p).map kV = p.map fun n : Nat => V.int n := by unfold encK; rw [List.map_map]; rfl
theorem encK_inj : ∀ {p q : List Nat}, encK p = encK q → p = q
  | [], [], _ => rfl
  | [], _ :: _, h => by cases h
  | _ :: _, [], h => by cases h
  | a :: p, b :: q, h => by
    obtain ⟨h1, h2⟩ := List.cons.inj (show (Sum.inl (a : Int) :: encK p : List Key) = Sum.inl (b : Int) :: encK q from h)
    have h1 := Sum.inl.inj h1
    have : a = b := by omega
    rw [this, encK_inj h2]
theorem encT_val {k : List Nat} : ∀ {cs : List (List Nat × Nat)}, valV (encT cs) (encK k) = (getN cs k).map fun n : Nat => V.int n
  | [] => rfl
  | x :: cs => by
    by_cases e : x.1 = k
    · have h1 : valV (encT (x :: cs)) (encK k) = some (V.int (x.2 : Nat)) := valV_pos (p := (encK x.1, V.int (x.2 : Nat))) (by rw [e])
      rw [h1]
      simp [getN, List.find?_cons, e]
    · have h1 : valV (encT (x :: cs)) (encK k) = valV (encT cs) (encK k) := valV_neg (p := (encK x.1, V.int (x.2 : Nat))) (fun z => e (encK_inj z))
      rw [h1, encT_val]
      simp [getN, List.find?_cons, e]
theorem encT_any {k : List Nat} {cs : List (List Nat × Nat)} : ((encT cs).any fun kv => decide (kv.1 = encK k)) = cs.any fun x => decide (x.1 = k) := by
  unfold encT
  rw [List.any_map]
  congr 1
  funext x
  show decide (encK x.1 = encK k) = decide (x.1 = k)
  by_cases e : x.1 = k
  · rw [decide_eq_true e, decide_eq_true (by rw [e])]
  · rw [decide_eq_false e, decide_eq_false (fun z => e (encK_inj z))]
theorem encT_put {k : List Nat} {v : Nat} {cs : List (List Nat × Nat)} : putK (encT cs) (encK k) (.int (v : Nat)) = encT (putN cs k v) := by
  unfold putK putN
  rw [encT_any]
  split
  · unfold encT
    rw [List.map_map, List.map_map]
    refine List.map_congr_left fun x _ => ?_
    show (if encK x.1 = encK k then (encK x.1, V.int (v : Nat)) else (encK x.1, V.int (x.2 : Nat))) = _
    by_cases e : x.1 = k
    · rw [if_pos (by rw [e])]
      show _ = (encK (if x.1 = k then (x.1, v) else x).1, V.int ((if x.1 = k then (x.1, v) else x).2 : Nat))
      rw [if_pos e]
    · rw [if_neg (fun z => e (encK_inj z))]
      show _ = (encK (if x.1 = k then (x.1, v) else x).1, V.int ((if x.1 = k then (x.1, v) else x).2 : Nat))
      rw [if_neg e]
  · unfold encT
    rw [List.map_append]; rfl
theorem encT_len {cs : List (List Nat × Nat)} : (encT cs).length = cs.length := by unfold encT; rw [List.length_map]
theorem sum_cast : ∀ {cs : List (List Nat × Nat)}, (cs.map fun x => ((x.2 : Nat) : Int)).sum = ((cs.map (·.2)).sum : Nat)
  | [] => rfl
  | x :: cs => by rw [List.map_cons, List.sum_cons, sum_cast, List.map_cons, List.sum_cons]; omega
theorem PlanIs.same {l c : Addr} {H H' : Hp} {v : V} {r0 r1 : List Rw} (s : Same H H') (h : PlanIs H l c v r0 r1) : PlanIs H' l c v r0 r1 := by
  have kind : ∀ {v : V} {nm : Str} {rs : List Rw}, KindIs H l c v nm rs → KindIs H' l c v nm rs := fun {v nm rs} h => by
    obtain ⟨a, t, m, vs, e, h1, h2, h3, h4, h5, h6⟩ := h
    exact ⟨a, t, m, vs, e, s _ _ h1, s _ _ h2, Keep.rows (Same.keep s) h3, s _ _ h4, h5, h6⟩
  obtain ⟨d, k, sh, o, k0, k1, e, h1, h2, h3, h4, h5, h6, h7, h8, h9⟩ := h.un
  exact ⟨d, k, sh, o, k0, k1, e, s _ _ h1, s _ _ h2, kind h3, kind h4, s _ _ h5, s _ _ h6, h7, h8, h9⟩
theorem same_none {H H' : Hp} {a : Addr} (s : Same H H') (h : H' a = none) : H a = none := by
  cases e : H a with
  | none => rfl
  | some o => rw [s _ _ e] at h; cases h
theorem same_put {H H' : Hp} {a : Addr} {o : HO} (s : Same H H') (h : H a = none) : Same H (upd H' a o) := fun b u e => by rw [upd_ne (ne_of_none e h)]; exact s _ _ e
/-- what is known of the table that is being made -/
structure LaterOk (B : Bn) (cs ls : List (List Nat × Nat)) (i : Nat) (p : List Nat) (w h : Nat) : Prop where
  nd : (ls.map (·.1)).Nodup
  ok : ∀ x ∈ ls, PsOk B x.1
  len : ls.length ≤ 3 * i + h
  sum : ∀ m, wsum (cntR B m) ls = wsum (cntR B (m + 1)) (cs.take i) + w * cntTo B m p h
structure CountsOk (B : Bn) (cs : List (List Nat × Nat)) (k : Nat) : Prop where
  nd : (cs.map (·.1)).Nodup
  ok : ∀ x ∈ cs, PsOk B x.1
  len : cs.length ≤ 3 ^ k
  sum : ∀ m, wsum (cntR B m) cs = cntR B (k + m) (ps0 B)
theorem LaterOk.step {B : Bn} {cs ls : List (List Nat × Nat)} {i w h : Nat} {p : List Nat} (hp : PsOk B p) (x : LaterOk B cs ls i p w h) (hc : (h, 0) ∈ stepsOf B p) :
    LaterOk B cs (putN ls (nextP p h) ((getN ls (nextP p h)).getD 0 + w * B.cho h (p.getD h 0))) i p w (h + 1) where
  nd := putN_nodup x.nd
  ok := fun y hy => by
    rcases mem_putN hy with e | e
    · rw [e]; exact hp.next hc
    · obtain ⟨z, hz, e⟩ := List.mem_map.mp e
      rw [← e]; exact x.ok z hz
  len := by have := x.len; have := putN_len (cs := ls) (k := nextP p h) (v := (getN ls (nextP p h)).getD 0 + w * B.cho h (p.getD h 0)); omega
  sum := fun m => by
    rw [wsum_put x.nd, x.sum m, cntTo_succ, Nat.mul_add, Nat.add_assoc, Nat.mul_assoc]
theorem LaterOk.skip {B : Bn} {cs ls : List (List Nat × Nat)} {i w h : Nat} {p : List Nat} (x : LaterOk B cs ls i p w h) (hc : B.cho h (p.getD h 0) = 0) : LaterOk B cs ls i p w (h + 1) where
  nd := x.nd
  ok := x.ok
  len := by have := x.len; omega
  sum := fun m => by rw [x.sum m, cntTo_succ, hc, Nat.zero_mul]; rfl
theorem LaterOk.turn {B : Bn} {cs ls : List (List Nat × Nat)} {i w : Nat} {p : List Nat} (ok : B.Ok) (x : LaterOk B cs ls i p w B.hs.length) (e : cs[i]? = some (p, w)) (q : List Nat) (v : Nat) : LaterOk B cs ls (i + 1) q v 0 where
  nd := x.nd
  ok := x.ok
  len := by have := x.len; have := ok.ah; omega
  sum := fun m => by
    rw [x.sum m, cntTo_all, cntTo_zero, Nat.mul_zero, Nat.add_zero, List.take_add_one, e, wsum_append]
    rfl
theorem LaterOk.zero {B : Bn} {cs : List (List Nat × Nat)} {p : List Nat} {w : Nat} : LaterOk B cs [] 0 p w 0 where
  nd := List.nodup_nil
  ok := fun x hx => absurd hx List.not_mem_nil
  len := Nat.zero_le _
  sum := fun m => by rw [List.take_zero, cntTo_zero]; rfl
theorem LaterOk.done {B : Bn} {cs ls : List (List Nat × Nat)} {p : List Nat} {w k : Nat} (c : CountsOk B cs k) (x : LaterOk B cs ls cs.length p w 0) : CountsOk B ls (k + 1) where
  nd := x.nd
  ok := x.ok
  len := by have := x.len; have := c.len; rw [Nat.pow_succ]; omega
  sum := fun m => by
    rw [x.sum m, List.take_length, cntTo_zero, Nat.mul_zero, Nat.add_zero, c.sum (m + 1)]
    congr 1; omega
theorem CountsOk.zero {B : Bn} : CountsOk B [(ps0 B, 1)] 0 where
  nd := List.nodup_cons.mpr ⟨List.not_mem_nil, List.nodup_nil⟩
  ok := fun x hx => by rw [List.mem_singleton] at hx; subst hx; exact psOk0
  len := Nat.le_refl _
  sum := fun m => by
    rw [Nat.zero_add]
    show wsum _ [(ps0 B, 1)] = _
    rw [wsum_cons]
    show 1 * cntR B m (ps0 B) + 0 = _
    rw [Nat.one_mul, Nat.add_zero]
theorem CountsOk.total {B : Bn} {cs : List (List Nat × Nat)} {k : Nat} (c : CountsOk B cs k) : (cs.map (·.2)).sum = cntR B k (ps0 B) := by
  have h := c.sum 0
  rw [Nat.add_zero] at h
  rw [← h]
  unfold wsum
  congr 1
  refine List.map_congr_left fun x _ => ?_
  show x.2 = x.2 * 1
  rw [Nat.mul_one]

section
variable {P : Program} {w : World} {K : PySem.W.Frag} {mg : Str → Option Value} {base : Heap} (T : Top w K mg)
include T
def sp_ways : Sp := fun vs H Q _ => ∃ (l c p : Addr) (pv : V) (B : Bn) (many : Nat), vs = [pv, .ref p, .int (many : Nat)] ∧ PlanIs H l c pv B.r0 B.r1 ∧ B.Ok ∧ H p = some (.lst (B.hs.map fun b => V.str (nmOf b))) ∧ many ≤ 5 ∧ ∀ H', Same H H' → Q (.int (cntR B many (ps0 B) : Nat)) H'
theorem c_ways : CalW P w K mg base 2 "_law_ways" sp_ways := by
  obtain ⟨fd, F⟩ := T.d__law_ways
  refine cal_of F T.glo__law_ways (F.binds fun _ _ _ _ _ _ us hl => match us, hl with | [_, _, _], _ => rfl) sc__law_ways (fun vs H Q E h => by obtain ⟨_, _, _, _, _, _, rfl, _⟩ := h; rfl) fun cdv A outer s H vs Q E hr h => ?_
  obtain ⟨l, c, p, pv', B, many, rfl, hpl, ok, hp, hm, hQ⟩ := h
  have nd := sc__law_ways.nd
  have hu := hu_of hr
  have hn := ok.ah
  refine ⟨_, pss_cons (ps_set (i := 3) nd rfl (Or.inl rfl) (pe_disp1T hu (pe_op op_repB (pe_tup (pa_cons pe_int pa_nil)) (pe_callB (r := rLenS K) call_len_seq (by rfl) T.free_len PySem.boot_len (pa_cons (pv 1) pa_nil))) pe_int))
    (pss_cons (ps_for PassesOwn.never (by rfl) (pi_range1 (by rfl) T.free_range (pa_cons (pv 2) pa_nil)) (pg_name (i := 4) nd rfl (Or.inl rfl))
      (pss_cons (ps_set (i := 5) nd rfl (Or.inl rfl) pe_dnewT)
      (pss_cons (ps_lock (ps_for PassesOwn.never (by rfl) (pi_itemsT (pv 3)) (pg_tup (by rfl) (pgs_cons (pg_name (i := 6) nd rfl (Or.inl rfl)) (pgs_cons (pg_name (i := 7) nd rfl (Or.inl rfl)) pgs_nil)))
        (pss_one (ps_for PassesOwn.never (by rfl) (pi_range1 (by rfl) T.free_range (pa_cons (pe_callB (r := rLenS K) call_len_seq (by rfl) T.free_len PySem.boot_len (pa_cons (pv 1) pa_nil)) pa_nil)) (pg_name (i := 8) nd rfl (Or.inl rfl))
          (pss_cons (ps_set (i := 9) nd rfl (Or.inl rfl) (pe_w (c_rows_of T) hr (by decide) (by rfl) (pa_cons (pv 0) (pa_cons (pe_ix ix_list (pv 1) (pv 8) (fun _ _ => rfl)) pa_nil))))
          (pss_one (ps_if (pt_cmpR op_lt (pe_ix ix_tup (pv 6) (pv 8) (fun _ _ => rfl)) (pe_callB (r := rLenS K) call_len_seq (by rfl) T.free_len PySem.boot_len (pa_cons (pv 9) pa_nil)) (nomark _))
            (pss_cons (ps_set (i := 10) nd rfl (Or.inl rfl) (pe_ix ix_list (pv 9) (pe_ix ix_tup (pv 6) (pv 8) (fun _ _ => rfl)) (fun _ _ => rfl)))
            (pss_cons (ps_set (i := 11) nd rfl (Or.inl rfl) (pe_op op_catB (pe_op op_catB (pe_slice sl_tupB (pv 6) po_none (po_some (pv 8))) (pe_tup (pa_cons (pe_op op_add (pe_ix ix_tup (pv 6) (pv 8) (fun _ _ => rfl)) pe_int) pa_nil))) (pe_slice sl_tupB (pv 6) (po_some (pe_op op_add (pv 8) pe_int)) po_none)))
            (pss_one (ps_dput hu (pv 5) (pv 11) (pe_op op_add (pe_dget2 hu (pv 5) (pv 11) pe_int ⟨rfl, rfl, rfl, rfl⟩) (pe_op op_mul (pv 7) (pe_ifExp (pt_cmpR op_eq (pe_ix ix_tup (pv 10) pe_int (fun _ _ => rfl)) pe_str (nomark _)) (pe_op op_sub (pe_callB (r := rLenS K) call_len_seq (by rfl) T.free_len PySem.boot_len (pa_cons (pv 10) pa_nil)) pe_int) pe_int))) rfl))))
            pss_nil)))))))
      (pss_one (ps_set (i := 3) nd rfl (Or.inl rfl) (pv 5))))))
    (pss_one (ps_ret (pe_callB (cr_sum rfl) (by rfl) T.free_sum (by decide +kernel) (pa_cons (pe_lock (pe_lc (own := [("ways", 7)]) (g := gName 7) (tt := tYes) (by rfl) nd (pi_valuesT (pv 3)) (blkOk_by (N := n__law_ways) (sc := defScope s__law_ways) (by decide +kernel))
        (fun _ _ _ _ _ => pg_name (i := 7) nd rfl (Or.inl rfl)) (fun _ _ _ _ _ => pts_nil) (fun _ _ _ _ _ => pe_callTy call_int1 (by rfl) T.free_int bs_int (pa_cons (pv 7) pa_nil)))) pa_nil))))), ?_⟩
  have hp0 : ∀ {H' : Hp}, Same H H' → H' p = some (.lst (B.hs.map fun b => V.str (nmOf b))) := fun s => s _ _ hp
  refine fun dc ndc => ⟨by show 1 ≤ sizeLine; decide, fun t1 n1 => ⟨_, rfl, p, _, rfl, .inl (SqL.of (same_upd n1 _ _ (same_upd ndc _ _ hp))), _, _, _, rfl, rfl, upd_same, by simp, by omega, by rw [List.length_map]; omega, by show 1 ≤ 1000; decide, fun t2 H2 s2 h2 => ?_⟩⟩
  have s02 : Same H H2 := (same_upd ndc).trans (Same.trans (same_upd n1) s2)
  refine ⟨t2, encK (ps0 B), rfl, s2 _ _ (same_upd n1 _ _ upd_same), ?_, ?_⟩
  · rw [h2, encK_kV, rep_one, List.length_map]
    unfold ps0
    rw [map_rep]; rfl
  refine ⟨_, rfl, _, rfl, by omega, by omega, ?_⟩
  refine for_range (lo := 0) (n := many) (fun k σ H' => Same H H' ∧ ∃ (dc : Addr) (cs : List (List Nat × Nat)) (o4 o5 o6 o7 o8 o9 o10 o11 : Option V), σ = [some pv', some (.ref p), some (.int (many : Nat)), some (.ref dc), o4, o5, o6, o7, o8, o9, o10, o11] ∧ H dc = none ∧ H' dc = some (.dT (encT cs)) ∧ CountsOk B cs k)
    ⟨same_put s02 ndc, dc, [(ps0 B, 1)], _, _, _, _, _, _, _, _, rfl, ndc, upd_same, .zero⟩ (fun k σ H' hk q => ?_) (fun σ H' q => ?_)
  · obtain ⟨sH, dc, cs, o4, o5, o6, o7, o8, o9, o10, o11, rfl, hdc0, hdc, C⟩ := q
    refine fun dl ndl => ?_
    have hdl0 := same_none sH ndl
    have s1 := same_upd (o := .dT []) ndl
    have hne : dl ≠ dc := (ne_of_none hdc ndl).symm
    refine ⟨dc, .dT (encT cs), s1 _ _ hdc, True.intro, fun od => ?_⟩
    refine ⟨_, rfl, dc, od, encT cs, rfl, upd_same, ?_⟩
    refine for_itemsT (fun i σ H3 => Same H H3 ∧ H3 dc = some (.frz od (.dT (encT cs))) ∧ ∃ (ls : List (List Nat × Nat)) (o6 o7 o8 o9 o10 o11 : Option V), σ = [some pv', some (.ref p), some (.int (many : Nat)), some (.ref dc), some (.int (0 + (k : Int))), some (.ref dl), o6, o7, o8, o9, o10, o11] ∧ H3 dl = some (.dT (encT ls)) ∧ LaterOk B cs ls i [] 0 0)
      ⟨same_put (sH.trans s1) hdc0, upd_same, [], _, _, _, _, _, _, rfl, by rw [upd_ne hne]; exact upd_same, .zero⟩ (fun i σ H3 q => q.2.1) (fun i ky v t q σ H3 e z hq nt => ?_) (fun σ H3 z => ?_)
    · obtain ⟨s3, h3c, ls, o6, o7, o8, o9, o10, o11, rfl, h3l, L⟩ := z
      obtain ⟨⟨p', w'⟩, ec, e2⟩ : ∃ x, cs[i]? = some x ∧ (encK x.1, V.int (x.2 : Nat)) = (ky, v) := by
        unfold encT at e
        rw [List.getElem?_map] at e
        exact Option.map_eq_some_iff.mp e
      obtain ⟨rfl, rfl⟩ := Prod.mk.inj e2
      have hpk : PsOk B p' := C.ok _ (List.mem_of_getElem? ec)
      rw [encK_kV] at hq
      have u3 := same_upd (o := .tup [.ref q, V.int (w' : Nat)]) nt
      refine ⟨t, _, rfl, SqT.of upd_same, rfl, _, _, rfl, _, _, rfl, rfl, ?_⟩
      refine ⟨_, rfl, p, _, rfl, .inl (SqL.of (hp0 (s3.trans u3))), _, rfl, by rw [List.length_map]; omega, by rw [List.length_map]; omega, ?_⟩
      have en : (((B.hs.map fun b => V.str (nmOf b)).length : Nat) : Int).toNat = B.hs.length := by rw [List.length_map]; omega
      refine for_range (lo := 0) (n := _) (fun h σ H4 => Same H H4 ∧ H4 dc = some (.frz od (.dT (encT cs))) ∧ H4 q = some (.tup (p'.map fun n : Nat => V.int n)) ∧ ∃ (ls : List (List Nat × Nat)) (o8 o9 o10 o11 : Option V), σ = [some pv', some (.ref p), some (.int (many : Nat)), some (.ref dc), some (.int (0 + (k : Int))), some (.ref dl), some (.ref q), some (.int (w' : Nat)), o8, o9, o10, o11] ∧ H4 dl = some (.dT (encT ls)) ∧ LaterOk B cs ls i p' w' h)
        ⟨s3.trans u3, u3 _ _ h3c, u3 _ _ hq, ls, _, _, _, _, rfl, u3 _ _ h3l, { L with sum := fun m => by rw [L.sum m, cntTo_zero, Nat.zero_mul, cntTo_zero, Nat.mul_zero] }⟩ (fun h σ H4 hh z => ?_) (fun σ H4 z => ?_)
      · obtain ⟨s4, h4c, h4q, ls, o8, o9, o10, o11, rfl, h4l, L⟩ := z
        have hh : h < B.hs.length := by rw [← en]; exact hh
        obtain ⟨b, eb⟩ : ∃ b, B.hs[h]? = some b := ⟨_, List.getElem?_eq_getElem hh⟩
        obtain ⟨n, ep⟩ : ∃ n, p'[h]? = some n := ⟨_, List.getElem?_eq_getElem (by rw [hpk.len]; exact hh)⟩
        have hple := hpk.le h b n eb ep
        have ed : p'.getD h 0 = n := by rw [List.getD_eq_getElem?_getD, ep]; rfl
        rw [Int.zero_add (h : Int)]
        refine ⟨_, rfl, _, rfl, _, rfl, p, _, _, _, rfl, rfl, SqL.of (hp0 s4), atI_nat (get_hands eb), l, c, _, B.r0, B.r1, b, rfl, PlanIs.same s4 hpl, fun t' xs H5 s5 ht hrows => ?_⟩
        have h5q := s5 _ _ h4q
        have gq : (p'.map fun n : Nat => V.int n)[h]? = some (V.int (n : Nat)) := get_map ep
        have hxl : xs.length = (B.rows b).length := hrows.1
        refine ⟨_, rfl, _, rfl, q, _, _, _, rfl, rfl, SqT.of h5q, atI_nat gq, _, rfl, t', xs, rfl, .inl (SqL.of ht), _, _, rfl, rfl, _, rfl, ?_⟩
        by_cases hlt : n < (B.rows b).length
        · refine ifT (decide_eq_true (by rw [hxl]; omega)) ?_
          have hmem : (h, 0) ∈ stepsOf B p' := mem_stepsTo.mpr ⟨hh, by
            show 0 < B.cho h (p'.getD h 0)
            unfold Bn.cho
            rw [ed, Bn.at_of eb, List.getElem?_eq_getElem hlt]
            show 0 < ((B.rows b)[n]).ways
            cases (B.rows b)[n] <;> decide⟩
          have hcho : B.cho h (p'.getD h 0) = ((B.rows b)[n]).ways := by
            unfold Bn.cho
            rw [ed, Bn.at_of eb, List.getElem?_eq_getElem hlt]
          have hlx : n < xs.length := by rw [hxl]; exact hlt
          obtain ⟨ra, era, hra⟩ := hrows.2 n xs[n] ((B.rows b)[n]) (List.getElem?_eq_getElem hlx) (List.getElem?_eq_getElem hlt)
          have ga : xs[n]? = some (V.ref ra) := by rw [← era]; exact List.getElem?_eq_getElem hlx
          refine ⟨_, rfl, _, rfl, _, rfl, q, _, _, _, rfl, rfl, SqT.of h5q, atI_nat gq, t', xs, _, _, rfl, rfl, SqL.of ht, atI_nat ga, ?_⟩
          refine ⟨_, rfl, _, rfl, _, rfl, q, _, rfl, h5q, fun p1 H6 s6 e6 => ?_⟩
          rw [cutV_take] at e6
          refine ⟨_, rfl, _, rfl, q, _, _, _, rfl, rfl, SqT.of (s6 _ _ h5q), atI_nat gq, _, _, rfl, rfl, by show 1 ≤ sizeLine; decide, fun p2 n2 => ?_⟩
          have hpl' : p'.length = B.hs.length := hpk.len
          refine ⟨p1, p2, _, _, rfl, rfl, same_upd n2 _ _ e6, upd_same, sm (m := 1000) (by rw [List.length_take, List.length_map]; show _ + 1 ≤ _; omega) (Nat.le_refl _), fun p3 H7 s7 e7 => ?_⟩
          have s67 := Same.trans (same_upd n2) s7
          refine ⟨_, rfl, _, rfl, _, _, rfl, rfl, _, rfl, q, _, rfl, s67 _ _ (s6 _ _ h5q), fun p4 H8 s8 e8 => ?_⟩
          rw [show ((h : Int) + 1) = ((h + 1 : Nat) : Int) by omega, cutV_drop] at e8
          refine ⟨p3, p4, _, _, rfl, rfl, s8 _ _ e7, e8, sm (m := 1000) (by rw [List.length_append, List.length_take, List.length_drop, List.length_map]; show _ + 1 + _ ≤ _; omega) (Nat.le_refl _), fun p5 H9 s9 e9 => ?_⟩
          have s59 : Same H5 H9 := s6.trans (s67.trans (s8.trans s9))
          have s49 : Same H4 H9 := s5.trans s59
          have enx : nextP p' h = p'.set h (n + 1) := by unfold nextP; rw [ed]
          have e9' : H9 p5 = some (.tup ((encK (nextP p' h)).map kV)) := by
            rw [e9, set_eq _ h _ (by rw [List.length_map]; omega), encK_kV, enx, List.map_set]; rfl
          have h9l := s49 _ _ h4l
          have h9a := s59 _ _ hra
          have eg : (valV (encT ls) (encK (nextP p' h))).getD (V.int 0) = V.int (((getN ls (nextP p' h)).getD 0 : Nat) : Int) := by
            rw [encT_val]
            cases getN ls (nextP p' h) <;> rfl
          have hll : (encT ls).length < sizeLine := by
            rw [encT_len]
            have := L.len
            have h1 := (List.getElem?_eq_some_iff.mp ec).1
            have h2 := C.len
            have h3 : 3 ^ k ≤ 3 ^ 5 := Nat.pow_le_pow_right (by decide) (by omega)
            have h4 : 3 ^ 5 = 243 := by decide
            exact smlt (by omega)
          have fin : ∀ (z : Int), z = ((B.cho h (p'.getD h 0) : Nat) : Int) → Same H (upd H9 dl (.dT (putK (encT ls) (encK (nextP p' h)) (.int (((getN ls (nextP p' h)).getD 0 : Nat) + (w' : Int) * z))))) ∧
              (upd H9 dl (.dT (putK (encT ls) (encK (nextP p' h)) (.int (((getN ls (nextP p' h)).getD 0 : Nat) + (w' : Int) * z))))) dc = some (.frz od (.dT (encT cs))) ∧
              (upd H9 dl (.dT (putK (encT ls) (encK (nextP p' h)) (.int (((getN ls (nextP p' h)).getD 0 : Nat) + (w' : Int) * z))))) q = some (.tup (p'.map fun n : Nat => V.int n)) ∧
              ∃ ls', (upd H9 dl (.dT (putK (encT ls) (encK (nextP p' h)) (.int (((getN ls (nextP p' h)).getD 0 : Nat) + (w' : Int) * z))))) dl = some (.dT (encT ls')) ∧ LaterOk B cs ls' i p' w' (h + 1) := fun z ez => by
            subst ez
            refine ⟨same_put (s4.trans s49) hdl0, by rw [upd_ne hne.symm]; exact s49 _ _ h4c, by rw [upd_ne (fun z => by rw [z, h4l] at h4q; cases h4q)]; exact s49 _ _ h4q, _, ?_, L.step hpk hmem⟩
            rw [upd_same, ← encT_put]
            rfl
          generalize er : (B.rows b)[n] = r at hra h9a hcho
          cases r with
          | rest =>
            refine ⟨_, rfl, dl, rfl, .inr ⟨_, .inl h9l⟩, _, rfl, _, DGet.t h9l e9', _, rfl, _, rfl, ra, _, 0, _, rfl, rfl, SqT.of h9a, rfl, rfl, _, rfl, ?_⟩
            refine ifF (by decide) ?_
            obtain ⟨f1, f2, f3, ls', f4, f5⟩ := fin 1 (by rw [hcho]; rfl)
            refine ⟨_, _, rfl, rfl, .inr ⟨by decide, by decide⟩, _, _, eg, rfl, _, rfl, _, rfl, dl, _, rfl, DPut.t h9l e9' hll, f1, f2, f3, ls', _, _, _, _, rfl, f4, f5⟩
          | go1 =>
            refine ⟨_, rfl, dl, rfl, .inr ⟨_, .inl h9l⟩, _, rfl, _, DGet.t h9l e9', _, rfl, _, rfl, ra, _, 0, _, rfl, rfl, SqT.of h9a, rfl, rfl, _, rfl, ?_⟩
            refine ifT (by decide) ?_
            obtain ⟨f1, f2, f3, ls', f4, f5⟩ := fin (2 - 1) (by rw [hcho]; rfl)
            refine ⟨_, rfl, ra, _, rfl, .inr (SqT.of h9a), _, _, rfl, rfl, _, _, rfl, rfl, .inr ⟨by show -2 ^ 64 < ((2 : Nat) : Int) - 1; decide, by show ((2 : Nat) : Int) - 1 < 2 ^ 64; decide⟩, _, _, eg, rfl, _, rfl, _, rfl, dl, _, rfl, DPut.t h9l e9' hll, f1, f2, f3, ls', _, _, _, _, rfl, f4, f5⟩
          | go2 =>
            refine ⟨_, rfl, dl, rfl, .inr ⟨_, .inl h9l⟩, _, rfl, _, DGet.t h9l e9', _, rfl, _, rfl, ra, _, 0, _, rfl, rfl, SqT.of h9a, rfl, rfl, _, rfl, ?_⟩
            refine ifT (by decide) ?_
            obtain ⟨f1, f2, f3, ls', f4, f5⟩ := fin (3 - 1) (by rw [hcho]; rfl)
            refine ⟨_, rfl, ra, _, rfl, .inr (SqT.of h9a), _, _, rfl, rfl, _, _, rfl, rfl, .inr ⟨by show -2 ^ 64 < ((3 : Nat) : Int) - 1; decide, by show ((3 : Nat) : Int) - 1 < 2 ^ 64; decide⟩, _, _, eg, rfl, _, rfl, _, rfl, dl, _, rfl, DPut.t h9l e9' hll, f1, f2, f3, ls', _, _, _, _, rfl, f4, f5⟩
        · refine ifF (decide_eq_false (by rw [hxl]; omega)) ?_
          have hcho : B.cho h (p'.getD h 0) = 0 := by
            unfold Bn.cho
            rw [ed, Bn.at_of eb, List.getElem?_eq_none (by omega)]
          exact ⟨s4.trans s5, s5 _ _ h4c, h5q, ls, _, _, _, _, rfl, s5 _ _ h4l, L.skip hcho⟩
      · rw [en] at z
        obtain ⟨s4, h4c, h4q, ls, o8, o9, o10, o11, rfl, h4l, L⟩ := z
        exact ⟨s4, h4c, ls, _, _, _, _, _, _, rfl, h4l, L.turn ok ec [] 0⟩
    · rw [encT_len] at z
      obtain ⟨s3, h3c, ls, o6, o7, o8, o9, o10, o11, rfl, h3l, L⟩ := z
      refine ⟨h3c, _, rfl, same_put s3 hdc0, dl, ls, _, _, _, _, _, _, _, _, rfl, hdl0, by rw [upd_ne hne]; exact h3l, L.done C⟩
  · obtain ⟨sH, dc, cs, o4, o5, o6, o7, o8, o9, o10, o11, rfl, hdc0, hdc, C⟩ := q
    refine ⟨dc, .dT (encT cs), hdc, True.intro, fun od => ⟨_, rfl, dc, od, encT cs, rfl, upd_same, fun D hD => lc_same (fun i y H => ∃ x, cs[i]? = some x ∧ y = V.int (x.2 : Nat)) hD (fun i y H H' k h => h) ?_ (walks_valsT upd_same) (fun i x H3 hx s3 C' hC => ?_) fun H4 acc s4 hacc hl hR => ?_⟩⟩
    · rw [List.length_map, encT_len]
      have h2 := C.len
      have h3 : 3 ^ many ≤ 3 ^ 5 := Nat.pow_le_pow_right (by decide) hm
      have h4 : 3 ^ 5 = 243 := by decide
      exact smlt (by omega)
    · unfold encT at hx
      rw [List.map_map, List.getElem?_map] at hx
      obtain ⟨x', ex, rfl⟩ := Option.map_eq_some_iff.mp hx
      exact ⟨rfl, _, rfl, .inl ⟨_, rfl, hC _ _ (Same.refl _) ⟨x', ex, rfl⟩⟩⟩
    · refine ⟨s4 _ _ upd_same, D, cs.map fun x => ((x.2 : Nat) : Int), rfl, ?_, ?_⟩
      · have ea : acc = (cs.map fun x => ((x.2 : Nat) : Int)).map V.int := by
          rw [List.length_map, encT_len] at hl
          refine List.ext_getElem? fun i => ?_
          by_cases hi : i < acc.length
          · obtain ⟨x, ex, ey⟩ := hR i _ (List.getElem?_eq_getElem hi)
            rw [List.getElem?_eq_getElem hi, ey, List.map_map, List.getElem?_map, ex]; rfl
          · rw [List.getElem?_eq_none (by omega), List.getElem?_eq_none (by rw [List.length_map, List.length_map]; omega)]
        rw [← ea]
        refine SqL.of ?_
        rw [upd_ne (fun z => by rw [z, s4 _ _ upd_same] at hacc; cases hacc)]
        exact hacc
      · have es : (cs.map fun x => ((x.2 : Nat) : Int)).sum = ((cntR B many (ps0 B) : Nat) : Int) := by
          rw [← C.total]
          exact sum_cast
        rw [es]
        refine hQ _ (same_put (Same.trans (same_put sH hdc0) s4) hdc0)
end
end Wv
end WwT_part
section WxA_part
set_option Elab.async false
set_option linter.all false
set_option maxRecDepth 100000
set_option maxHeartbeats 1000000
/-! WxA: dicts keyed by nested tuples: what stands in them, in, d[k] = v, len. -/
namespace Wv
open PySem L2 PySem.Spec
open PyProof.Rows

mutual
/-- the value v is the key k -/
inductive NK (H : Hp) : NestedKey → V → Prop
  | non : NK H .none .non
  | int (i : Int) : NK H (.num i) (.int i)
  | str (x : Str) : NK H (.text x) (.str x)
  | tup {a : Addr} {xs : List V} {ks : List NestedKey} : H a = some (.tup xs) → NKs H ks xs → NK H (.tup ks) (.ref a)
inductive NKs (H : Hp) : List NestedKey → List V → Prop
  | nil : NKs H [] []
  | cons {k : NestedKey} {v : V} {ks : List NestedKey} {vs : List V} : NK H k v → NKs H ks vs → NKs H (k :: ks) (v :: vs)
end
section
variable {P : Program} {w : World} {H H' : Hp} {h : Heap}
mutual
theorem NK.real (ok : HOk P w H h) : ∀ (k : NestedKey) (v : V) (u : Value), NK H k v → RelV v u → NestedIs h k u
  | .none, _, _, x, r => by
    cases x
    cases (show _ = Value.none from r)
    exact .none
  | .num i, _, _, x, r => by
    cases x
    obtain ⟨t, rfl⟩ := r
    exact .int i t
  | .text y, _, _, x, r => by
    cases x
    obtain ⟨t, rfl⟩ := r
    exact .text y t
  | .tup ks, _, _, x, r => by
    cases x with
    | @tup a xs _ e n =>
      cases (show _ = Value.ref a from r)
      obtain ⟨_, its, rv, o, h1, h2, m, h3⟩ := ok _ _ e
      exact .tup h1 h2 h3 (by simpa using NKs.real ok ks _ _ n rv)
theorem NKs.real (ok : HOk P w H h) : ∀ (ks : List NestedKey) (vs : List V) (us : List Value), NKs H ks vs → Vals vs us → NestedAll h ks us
  | [], _, _, x, r => by
    cases x
    cases r
    exact .nil
  | k :: ks, _, _, x, r => by
    cases x with
    | cons x1 x2 =>
      cases r with
      | cons r1 r2 => exact .cons (NK.real ok k _ _ x1 r1) (NKs.real ok ks _ _ x2 r2)
end
mutual
theorem NK.keep (s : ∀ b xs, H b = some (.tup xs) → H' b = some (.tup xs)) : ∀ (k : NestedKey) (v : V), NK H k v → NK H' k v
  | .none, _, x => by cases x; exact .non
  | .num i, _, x => by cases x; exact .int i
  | .text y, _, x => by cases x; exact .str y
  | .tup ks, _, x => by
    cases x with
    | tup e n => exact .tup (s _ _ e) (NKs.keep s ks _ n)
theorem NKs.keep (s : ∀ b xs, H b = some (.tup xs) → H' b = some (.tup xs)) : ∀ (ks : List NestedKey) (vs : List V), NKs H ks vs → NKs H' ks vs
  | [], _, x => by cases x; exact .nil
  | k :: ks, _, x => by
    cases x with
    | cons x1 x2 => exact .cons (NK.keep s k _ x1) (NKs.keep s ks _ x2)
end
end

/-- the dict at d has the keys ks, each in its tuple; nothing is told of the values -/
def KnO (P : Program) (w : World) (d : Addr) (ks : List (NestedKey × Addr)) : HO := .ext fun h => ks.length ≤ sizeLine ∧ (d == sysModules) = false ∧
  ∃ vs : List (NestedKey × Addr × Value), vs.map (fun q => (q.1, q.2.1)) = ks ∧ ∃ o es ep, h.get? d = some o ∧ o.ExactDict ∧ o.data = .dict es ep ∧ es.toList = vs.map (entryOfKey (nestedKind P w)) ∧ (vs.map (·.1)).Nodup
theorem kn_tup {P : Program} {w : World} {d : Addr} {ks : List (NestedKey × Addr)} {xs : List V} : KnO P w d ks ≠ .tup xs := fun z => by
  have z' : HO.ext _ = HO.tup xs := z
  cases z'
structure KnIs (P : Program) (w : World) (H : Hp) (d : Addr) (ks : List (NestedKey × Addr)) : Prop where
  at_ : H d = some (KnO P w d ks)
  keys : ∀ x ∈ ks, NK H x.1 (.ref x.2) ∧ x.1.depth ≤ 8
theorem knO_new {P : Program} {w : World} {H : Hp} {h : Heap} {d : Addr} {ks : List (NestedKey × Addr)} {vs : List (NestedKey × Addr × Value)} (hz : ks.length ≤ sizeLine) (hd : (d == sysModules) = false) (e : vs.map (fun q => (q.1, q.2.1)) = ks) (m : h.DictOfH (nestedKind P w) d vs) : ObjOk P w H h d (KnO P w d ks) := by
  obtain ⟨o, es, ep, h1, h2, h3, h4, h5, h6⟩ := m
  exact ⟨⟨hz, hd, vs, e, o, es, ep, h1, h2, h3, h4, h6⟩, ⟨o, h1⟩, fun h1 h2 ⟨q1, q2, vs, q3, o, es, ep, q4, r⟩ k => ⟨q1, q2, vs, q3, o, es, ep, k _ q4, r⟩⟩
theorem KnIs.real {P : Program} {w : World} {H : Hp} {h : Heap} {d : Addr} {ks : List (NestedKey × Addr)} (x : KnIs P w H d ks) (ok : HOk P w H h) :
    ks.length ≤ sizeLine ∧ (d == sysModules) = false ∧ ∃ vs : List (NestedKey × Addr × Value), vs.map (fun q => (q.1, q.2.1)) = ks ∧ h.DictOfH (nestedKind P w) d vs := by
  have y : ObjOk P w H h d (KnO P w d ks) := ok d _ x.at_
  obtain ⟨⟨hz, hd, vs, e, o, es, ep, h1, h2, h3, h4, h6⟩, _⟩ := y
  refine ⟨hz, hd, vs, e, o, es, ep, h1, h2, h3, h4, fun y hy => ?_, h6⟩
  have hm : (y.1, y.2.1) ∈ ks := by rw [← e]; exact List.mem_map.mpr ⟨y, hy, rfl⟩
  obtain ⟨q1, q2⟩ := x.keys _ hm
  exact ⟨NK.real ok _ _ _ q1 rfl, q2⟩
theorem key_at {P : Program} {w : World} {H : Hp} {h : Heap} {a : Addr} {k : NestedKey} (ok : HOk P w H h) (x : NK H k (.ref a)) (hd : k.depth ≤ 8) : (nestedKind P w).is h k a := ⟨NK.real ok _ _ _ x rfl, hd⟩
theorem atKey_any {K : Type} [DecidableEq K] {k : K} : ∀ vs : List (K × Addr × Value), (atKey vs k).isSome = (vs.map fun q => (q.1, q.2.1)).any fun z => decide (z.1 = k)
  | [] => rfl
  | x :: vs => by
    rw [List.map_cons, List.any_cons]
    by_cases e : x.1 = k
    · simp [atKey, List.find?_cons, e]
    · rw [decide_eq_false (show ¬ ((x.1, x.2.1) : K × Addr).1 = k from e), Bool.false_or, ← atKey_any vs]
      simp [atKey, List.find?_cons, e]
theorem KnIs.keep {P : Program} {w : World} {H H' : Hp} {d : Addr} {ks : List (NestedKey × Addr)} (x : KnIs P w H d ks) (s : Same H H') : KnIs P w H' d ks :=
  ⟨s _ _ x.at_, fun y hy => ⟨NK.keep (fun b xs e => s _ _ e) _ _ (x.keys y hy).1, (x.keys y hy).2⟩⟩
theorem KnIs.put {P : Program} {w : World} {H : Hp} {d a : Addr} {ks : List (NestedKey × Addr)} {k : NestedKey} {o : HO} (hd : H d = some o) (ht : ∀ xs, o ≠ .tup xs) (x : ∀ y ∈ ks, NK H y.1 (.ref y.2) ∧ y.1.depth ≤ 8) : KnIs P w (upd H d (KnO P w d ks)) d ks :=
  ⟨upd_same, fun y hy => ⟨NK.keep (fun b xs e => by rw [upd_ne (fun z => by rw [z, hd] at e; exact ht xs (Option.some.inj e))]; exact e) _ _ (x y hy).1, (x y hy).2⟩⟩

section
variable {X : Cx} {o i value ek ev : Expr} {td ty tv tk : TE} {pos pos' : Pos}
/-- {k: v} -/
def tDispN (P : Program) (w : World) (tk tv : TE) : TE := fun σ H Q => ∀ p, H p = none → tk σ (upd H p (KnO P w p [])) fun y H1 => tv σ H1 fun v H2 => ∃ a k, y = .ref a ∧ H2 p = some (KnO P w p []) ∧ NK H2 k (.ref a) ∧ k.depth ≤ 8 ∧ Q (.ref p) (upd H2 p (KnO P w p [(k, a)]))
theorem pe_dispN (hu : X.A.units + 20 < cLine) (hk : PE X ek tk) (hv : PE X ev tv) : PE X (.Dict [some ek] [ev] pos) (tDispN X.prog X.w tk tv) := by
  refine ⟨fun pins s σ H Q I q => ?_⟩
  have hn := I.hok.fresh (Nat.le_refl s.heap.objs.size)
  have hs : (s.heap.objs.size == sysModules) = false := beq_eq_false_iff_ne.mpr (Ne.symm (Nat.ne_of_lt I.big))
  have I1 := I.laid (a := s.heap.objs.size) (o := KnO X.prog X.w s.heap.objs.size []) (h' := s.heap.push { cls := .type "dict", data := .dict #[] }) (t' := s.toks) (fun _ _ q => Heap.get?_push_of_some _ q) (Nat.le_refl _)
    (knO_new (Nat.zero_le _) hs (vs := []) rfl (Heap.DictOfH.new s.heap))
  refine wpAny_Dict1 (knd := nestedKind X.prog X.w) (show X.A.units + 8 < cLine from by omega) (thn (hk.run pins _ σ _ _ I1 (q _ hn)) fun kv s1 ⟨y, H1, I1', ry, q1⟩ => thn (hv.run pins s1 σ H1 _ I1' q1) fun vv s2 ⟨v, H2, I2, rv, q2⟩ => ?_)
  obtain ⟨a, k, rfl, e, ea, hd, q2⟩ := q2
  cases (show kv = Value.ref a from ry)
  obtain ⟨hz, hd', vs, em, m⟩ := KnIs.real ⟨e, fun x hx => absurd hx List.not_mem_nil⟩ I2.hok
  obtain rfl : vs = [] := List.map_eq_nil_iff.mp em
  refine ⟨a, k, rfl, key_at I2.hok ea hd, m, fun h' tk hm' hs => ⟨.ref s.heap.objs.size, _, ?_, rfl, q2⟩⟩
  have he : ∃ q, h'.get? s.heap.objs.size = some q := let ⟨q, _, _, hq, _⟩ := hm'; ⟨q, hq⟩
  exact d_write I2 (by rw [e]; exact True.intro) hs he (knO_new (by show 1 ≤ sizeLine; decide) hd' rfl hm')
/-- k not in d -/
def tNotInN (P : Program) (w : World) (ty td : TE) : TE := fun σ H Q => ty σ H fun y H1 => td σ H1 fun x H2 => ∃ d ks k a, x = .ref d ∧ y = .ref a ∧ KnIs P w H2 d ks ∧ NK H2 k (.ref a) ∧ k.depth ≤ 8 ∧ Q (.bl (!(ks.any fun z => decide (z.1 = k)))) H2
theorem pc_notinN (hu : X.A.units + 20 < cLine) (hi : PE X i ty) (ho : PE X o td) : PC X .NotIn i o (tNotInN X.prog X.w ty td) := by
  refine ⟨fun pins s σ H Q I h => ?_⟩
  refine thn (hi.run pins s σ H _ I h) fun iv s1 ⟨y, H1, I1, ry, q1⟩ => thn (ho.run pins s1 σ H1 _ I1 q1) fun u s2 ⟨x, H2, I2, rx, d, ks, k, a, ex, ey, kn, nk, hd, q2⟩ => ?_
  subst ex ey
  obtain rfl : u = Value.ref d := rx
  obtain rfl : iv = Value.ref a := ry
  obtain ⟨hz, hds, vs, em, m⟩ := kn.real I2.hok
  refine wpAny_notIn_heap (knd := nestedKind X.prog X.w) (show X.A.in1.units + 8 < cLine from by rw [Around.in1_units]; omega) (key_at I2.hok nk hd) hds m ?_
  rw [atKey_any, em]
  exact ⟨.bl _, H2, I2.tok _, rfl, q2⟩
/-- d[k] = v, k new -/
def sPutN (P : Program) (w : World) (td ty tv : TE) : TS := fun D σ H => tv σ H fun v H1 => td σ H1 fun x H2 => ty σ H2 fun y H3 => ∃ d ks k a, x = .ref d ∧ y = .ref a ∧ KnIs P w H3 d ks ∧ NK H3 k (.ref a) ∧ k.depth ≤ 8 ∧ (ks.any fun z => decide (z.1 = k)) = false ∧ ks.length < sizeLine ∧
  D.nx σ (upd H3 d (KnO P w d (ks ++ [(k, a)])))
theorem ps_putN (hu : X.A.units + 20 < cLine) (ho : PE X o td) (hi : PE X i ty) (hv : PE X value tv) (hs : swapsWith value (some (.Subscript o i pos')) pos.line X.env = pure false) :
    PS X (.Assign [.Subscript o i pos'] value pos) (sPutN X.prog X.w td ty tv) := by
  refine ⟨fun pins s σ H D I h => ?_⟩
  refine wpAny_Assign_Subscript (thn (hv.run pins s σ H _ I h) fun r s1 ⟨v, H1, I1, rv, q1⟩ => thn (ho.run pins s1 σ H1 _ I1 q1) fun u s2 ⟨x, H2, I2, rx, q2⟩ => thn (hi.run pins s2 σ H2 _ I2 q2) fun iv s3 ⟨y, H3, I3, ry, d, ks, k, a, ex, ey, kn, nk, hd, hn, hl, q3⟩ => ?_) hs
  subst ex ey
  obtain rfl : u = Value.ref d := rx
  obtain rfl : iv = Value.ref a := ry
  obtain ⟨hz, hds, vs, em, m⟩ := kn.real I3.hok
  have hvl : vs.length = ks.length := by rw [← em, List.length_map]
  refine wpAny_setItem_heap (hsz := by omega) (knd := nestedKind X.prog X.w) (show X.A.in1.units + 8 < cLine from by rw [Around.in1_units]; omega) (key_at I3.hok nk hd) m fun h' m' hs => ⟨σ, _, ?_, q3⟩
  have he : ∃ q, h'.get? d = some q := let ⟨q, _, _, hq, _⟩ := m'; ⟨q, hq⟩
  have hst : storedH vs k a r = vs ++ [(k, a, r)] := storedH_new (by
    have := atKey_any (k := k) vs
    rw [em, hn] at this
    exact Option.isNone_iff_eq_none.mp (by rw [← Option.not_isSome, this]; rfl)) a r
  exact d_write I3 (by rw [kn.at_]; exact True.intro) hs he (knO_new (by rw [List.length_append]; exact hl) hds (by rw [hst, List.map_append, em]; rfl) m')
/-- len(d) -/
def rLenN (P : Program) (w : World) : List V → Hp → VK → Prop := fun xs H Q => ∃ d ks, xs = [.ref d] ∧ KnIs P w H d ks ∧ Q (.int ((ks.length : Nat) : Int)) H
theorem call_lenN : CallR X (.builtin "len") (rLenN X.prog X.w) := by
  intro pins s σ H xs us Q I r h
  obtain ⟨d, ks, rfl, kn, q⟩ := h
  obtain ⟨u, rfl, rx⟩ := vals1 r
  obtain rfl : u = .ref d := rx
  obtain ⟨hz, hds, vs, em, m⟩ := kn.real I.hok
  have hvl : vs.length = ks.length := by rw [← em, List.length_map]
  have hz' : sizeLine = 2 ^ 24 := rfl
  refine call_len_dictH hds m (by omega) ?_
  rw [hvl]
  exact ⟨.int _, H, I.tok _, ⟨_, rfl⟩, q⟩
end
end Wv
end WxA_part
section WxB_part
set_option Elab.async false
set_option linter.all false
set_option maxRecDepth 100000
set_option maxHeartbeats 1000000
/-! WxB: generator defs by their names; longer. -/
namespace Wv
open PySem L2 PySem.Spec
open PyProof.Rows

/-- a generator def that may be called by its name -/
structure GalW (P : Program) (w : World) (K : PySem.W.Frag) (mg : Str → Option Value) (base : Heap) (k : Nat) (ch : Prop) (x : Str) (sp : SpN) : Prop where
  ex : ∃ (f : Addr) (fd : FuncData) (ps : List Str), GFnS P w K mg base k ch f fd ps sp ∧ mg x = some (.ref f) ∧ PySem.W.keepIn K (.ref f) = true ∧ Binds K fd ps []
theorem gal_of {P : Program} {w : World} {K : PySem.W.Frag} {mg : Str → Option Value} {base : Heap} {x : Str} {st : Stmt} {f : Addr} {fd : FuncData} {N ps : List Str} {k : Nat} {ch : Prop} {sp : SpN} (F : Fun K x x st f fd) (hm : mg x = some (.ref f)) (b : Binds K fd ps []) (S : GScope N ps (defScope st)) (nc : ∀ y ∈ (defScope st).names, y.2 ≠ .cell)
    (len : ∀ vs H n item fin, sp vs H n item fin → vs.length = ps.length)
    (hbody : ∀ (cdv : Value) (A0 : Around) (outer : List Env) (n0 : Nat) (pa : List Addr) (g : Nat) (GR : Array GenState → Array GenState → Prop) (item : Nat → V → Hp → Prop) (fin : Nat → Hp → Prop) (bY : Prop) (vs : List V) (H w' : Hp) (n : Nat), (ch → (∀ G G', GR G G' → Chain g G G') ∧ ¬ bY) →
      Room k (A0.deeper (envOfC x (defScope st) n0 f cdv)) → sp vs H n item fin → Same H w' →
      ∃ t, GSs ⟨P, w, K, mg, base, N, envOfC x (defScope st) n0 f cdv, A0, outer, n0, pa, g, GR, item, fin, bY⟩ (defBody st) t ∧ t { nx := fun n _ H' => fin n H', rt := fun n v H' => v = .non ∧ fin n H' } n (start N vs) w') : GalW P w K mg base (k + 1) ch x sp := by
  have kp := F.kp
  obtain ⟨oc, od, kV, doc, pm, an, cdv, ct, osl, rfl, lk, hcd⟩ := F.ex
  exact ⟨f, _, ps, gfnS_of lk hcd S nc len fun A0 outer n0 pa g GR item fin bY vs H w' n => hbody cdv A0 outer n0 pa g GR item fin bY vs H w' n, hm, kp, b⟩
section
variable {X : Cx} {k j : Nat} {ch : Prop} {x : Str} {sp : SpN} {p pos : Pos} {e : Expr} {es : List Expr} {t : TA}
theorem pgn_w (c : GalW X.prog X.w X.K X.mg X.base k ch x sp) (hr : Room j X.A) (hk : k ≤ j) (hg : Gl X x) (ha : PA X (e :: es) t)
    (hdb : (x == ("__debug__" : Str)) = false := by decide) (he : starEach (e :: es) X.env = (false, eval e X.env) :: starEach es X.env := by rfl) (hpl : (backTo pos (starEach es X.env)).any (·.1) = false := by rfl) :
    PGn X k ch (.Call (.Name x p) (e :: es) [] pos) (tCallN sp [] t) := by
  obtain ⟨f, fd, ps, F, hm, kp, b⟩ := c.ex
  exact pgn_call F (hr.mono hk) hg hm kp b .nil ha hdb he hpl
end
/-- what is never reached -/
theorem gs_no {D : GD} {st : Stmt} : GS D st (fun _ _ _ _ => False) := ⟨fun _ _ _ _ _ _ _ _ _ _ h => h.elim⟩
theorem gfor_list {K : PySem.W.Frag} {a : Addr} {xs : List V} {g : TG} {tb : TGn} {E : GEnds} {n : Nat} {σ : L2.St} {H : Hp} (Pv : Nat → Nat → L2.St → Hp → Prop) (h0 : Pv 0 n σ H) (hl : ∀ i n σ H, Pv i n σ H → SqL K H a xs)
    (hs : ∀ i x n σ H, xs[i]? = some x → Pv i n σ H → g x σ H fun σ2 H2 => tb { E with nx := Pv (i + 1), ct := Pv (i + 1), bk := E.nx } n σ2 H2) (hd : ∀ n σ H, Pv xs.length n σ H → E.nx n σ H) :
    ∃ W : Nat → Nat → Nat → L2.St → Hp → Prop, (∃ m, W 0 m n σ H) ∧ ∀ i m n σ H, W i m n σ H →
      ((Itl K a).stop i H ∧ E.nx n σ H) ∨ ((Itl K a).go i H ∧ ∃ N : Nat → L2.St → Hp → Prop, (∀ n' σ' H', N n' σ' H' → ∃ m', m' < m ∧ W (i + 1) m' n' σ' H') ∧ ∀ x H', (Itl K a).yld i H x H' → g x σ H' fun σ2 H2 => tb { E with nx := N, ct := N, bk := E.nx } n σ2 H2) := by
  refine ⟨fun i m n σ H => m = xs.length - i ∧ i ≤ xs.length ∧ Pv i n σ H, ⟨xs.length, by simp, Nat.zero_le _, h0⟩, ?_⟩
  rintro i m n σ H ⟨rfl, hi, p⟩
  have q := hl i n σ H p
  by_cases hlt : i < xs.length
  · refine .inr ⟨⟨xs, xs[i], q, by simp [hlt]⟩, Pv (i + 1), fun n' σ' H' p' => ⟨xs.length - (i + 1), by omega, rfl, hlt, p'⟩, fun x H' y => ?_⟩
    obtain ⟨e, y⟩ := y
    subst e
    exact hs i x n σ _ (y xs q) p
  · have e : i = xs.length := by omega
    subst e
    exact .inl ⟨⟨xs, q, Nat.le_refl _⟩, hd n σ H p⟩

/-! ### a run as a value -/
def RunIs (H : Hp) (v : V) (r : List (Nat × Nat)) : Prop := ∃ a xs, v = .ref a ∧ H a = some (.tup xs) ∧ Paired (StepIs H) xs r
theorem Keep.run {H H' : Hp} (k : Keep H H') {v : V} {r : List (Nat × Nat)} (h : RunIs H v r) : RunIs H' v r := by
  obtain ⟨a, xs, e, h1, h2⟩ := h
  exact ⟨a, xs, e, k.tup h1, k.steps h2⟩
theorem flat_at {α β : Type} {f : α → List β} {l : List α} {i j : Nat} {s : α} (hs : l[i]? = some s) (hj : j < (f s).length) :
    (l.flatMap f)[((l.take i).flatMap f).length + j]? = (f s)[j]? ∧ (l.flatMap f).length = ((l.take i).flatMap f).length + (f s).length + ((l.drop (i + 1)).flatMap f).length := by
  have hi := (List.getElem?_eq_some_iff.mp hs).1
  have e : l = l.take i ++ (s :: l.drop (i + 1)) := by
    have e2 : l[i] = s := (List.getElem?_eq_some_iff.mp hs).2
    rw [← e2, ← List.drop_eq_getElem_cons hi, List.take_append_drop]
  have e3 : l.flatMap f = (l.take i).flatMap f ++ (f s ++ (l.drop (i + 1)).flatMap f) := by
    conv => lhs; rw [e]
    rw [List.flatMap_append, List.flatMap_cons]
  rw [e3]
  constructor
  · rw [List.getElem?_append_right (Nat.le_add_right _ _), Nat.add_sub_cancel_left, List.getElem?_append_left hj]
  · rw [List.length_append, List.length_append]; omega
section
variable {P : Program} {w : World} {K : PySem.W.Frag} {mg : Str → Option Value} {base : Heap} (T : Top w K mg)
include T
/-- r steps are left -/
def sp_longer (K : PySem.W.Frag) (r : Nat) : SpN := fun vs H n item fin => ∃ (bv rv sv : V) (B : Bn) (ps : List Nat) (pre : List (Nat × Nat)) (m len : Nat), vs = [bv, rv, sv, .int (len : Nat)] ∧ BenchIs K H bv B ∧ B.Ok ∧ RunIs H rv pre ∧ StIs H sv ps m ∧ PsOk B ps ∧ len = pre.length + r ∧ len ≤ 12 ∧
  n = (runsL B r ps).length ∧ (∀ (i : Nat) (t : List (Nat × Nat)) (x : V) (H' : Hp), (runsL B r ps)[i]? = some t → Same H H' → RunIs H' x (pre ++ t) → item (n - 1 - i) x H') ∧ ∀ H', Same H H' → fin 0 H'
theorem g_longer : ∀ r : Nat, GalW P w K mg base (8 + 2 * r) True "longer" (sp_longer K r) := by
  obtain ⟨fd, F⟩ := T.d_longer
  have nd := sc_longer.nd
  have bnd : Binds K fd ["bench", "run", "state", "length"] [] := F.binds fun _ _ _ _ _ _ us hl => match us, hl with | [_, _, _, _], _ => rfl
  have nc : ∀ y ∈ (defScope s_longer).names, y.2 ≠ .cell := by decide +kernel
  intro r
  induction r with
  | zero =>
    refine gal_of (k := 7) (sp := sp_longer K 0) F T.glo_longer bnd sc_longer nc (fun vs H n item fin h => by obtain ⟨_, _, _, _, _, _, _, _, rfl, _⟩ := h; rfl) fun cdv A0 outer n0 pa g GR item fin bY vs H w' n hch hr h s => ?_
    obtain ⟨bv, rv, sv, B, ps, pre, m, len, rfl, hb, ok, hrun, hst, hps, hlen, h12, hn, hitem, hfin⟩ := h
    obtain ⟨ra, rxs, rfl, hra, hrp⟩ := Keep.run (Same.keep s) hrun
    refine ⟨_, gss_cons (gs_if (fun w0 s0 => pt_cmpR op_eq (pe_callB (r := rLenS K) call_len_seq (by rfl) T.free_len PySem.boot_len (pa_cons (pv 1) pa_nil)) (pv 3) (nomark _)) (gss_cons (gs_yield (fun w0 s0 => pv 1)) (gss_one (gs_ps fun w0 s0 => ps_retN))) gss_nil)
      (gss_one gs_no), ?_⟩
    refine ⟨_, rfl, ra, _, rfl, .inr (SqT.of hra), _, rfl, rfl, _, rfl, ?_⟩
    refine ifT (decide_eq_true (by rw [hrp.length, hlen]; rfl)) ?_
    refine ⟨_, rfl, 0, hn, ?_, fun w2 s2 => ⟨rfl, hfin w2 (s.trans s2)⟩⟩
    have hn1 : n = 1 := hn
    have := hitem 0 [] (.ref ra) w' rfl s ⟨ra, rxs, rfl, hra, by rw [List.append_nil]; exact hrp⟩
    rw [hn1] at this
    exact this
  | succ r ih =>
    refine gal_of (k := 8 + 2 * r + 1) (sp := sp_longer K (r + 1)) F T.glo_longer bnd sc_longer nc (fun vs H n item fin h => by obtain ⟨_, _, _, _, _, _, _, _, rfl, _⟩ := h; rfl) fun cdv A0 outer n0 pa g GR item fin bY vs H w' n hch hr h s => ?_
    obtain ⟨bv, rv, sv, B, ps, pre, m, len, rfl, hb, ok, hrun, hst, hps, hlen, h12, hn, hitem, hfin⟩ := h
    obtain ⟨hch, hby⟩ := hch trivial
    obtain ⟨ra, rxs, rfl, hra, hrp⟩ := Keep.run (Same.keep s) hrun
    refine ⟨_, gss_cons (gs_if (fun w0 s0 => pt_cmpR op_eq (pe_callB (r := rLenS K) call_len_seq (by rfl) T.free_len PySem.boot_len (pa_cons (pv 1) pa_nil)) (pv 3) (nomark _)) (gss_cons (gs_yield (fun w0 s0 => pv 1)) (gss_one (gs_ps fun w0 s0 => ps_retN))) gss_nil)
      (gss_one (gs_for (wi := iList K (tCall (sp_all_steps K) [] E0 (tCons (tVar 0) (tCons (tVar 2) tNil)))) (g := gTup K 2 (gCons (gName 4) (gCons (gName 5) gNil))) (fun w0 s0 => pi_list (pe_w (c_all_steps T) hr (by omega) (by rfl) (pa_cons (pv 0) (pa_cons (pv 2) pa_nil)))) (fun w0 s0 => pg_tup (by rfl) (pgs_cons (pg_name (i := 4) nd rfl (Or.inl rfl)) (pgs_cons (pg_name (i := 5) nd rfl (Or.inl rfl)) pgs_nil)))
        (gss_cons (gs_ps (t := tAsg (tCall (sp_stepped K) [] E0 (tCons (tVar 0) (tCons (tVar 2) (tCons (tVar 4) (tCons (tVar 5) tNil))))) (gTup K 2 (gCons (gName 6) (gCons (gName 7) gNil)))) fun w0 s0 => ps_asg (pe_w (c_stepped T) hr (by omega) (by rfl) (pa_cons (pv 0) (pa_cons (pv 2) (pa_cons (pv 4) (pa_cons (pv 5) pa_nil))))) (pg_tup (by rfl) (pgs_cons (pg_name (i := 6) nd rfl (Or.inl rfl)) (pgs_cons (pg_name (i := 7) nd rfl (Or.inl rfl)) pgs_nil))))
        (gss_one (gs_if (fun w0 s0 => pt_cmpR op_ne (pv 7) pe_str (nomark _))
          (gss_one (gs_yieldFromN (k := 8 + 2 * r) (fun w0 s0 => pgn_w ih hr (by omega) (by rfl) (pa_cons (pv 0) (pa_cons (pe_op op_catB (pv 1) (pe_tup (pa_cons (pe_tup (pa_cons (pv 4) (pa_cons (pv 5) pa_nil))) pa_nil))) (pa_cons (pv 6) (pa_cons (pv 3) pa_nil))))) (hr.mono (by omega)) hch hby))
          (gss_one gs_no)))))), ?_⟩
    refine ⟨_, rfl, ra, _, rfl, .inr (SqT.of hra), _, rfl, rfl, _, rfl, ?_⟩
    refine ifF (decide_eq_false (by rw [hrp.length, hlen]; intro e; have := V.int.inj e; omega)) ?_
    refine ⟨_, rfl, _, rfl, bv, sv, B, ps, m, rfl, Keep.bench (Same.keep s) hb, ok, Keep.st (Same.keep s) hst, hps, fun q xs H1 s1 hq nq hP => ?_⟩
    refine ⟨q, rfl, ⟨_, SqL.of hq⟩, ?_⟩
    have s01 := s.trans s1
    have hdrop : ∀ i : Nat, i < (stepsOf B ps).length → True := fun _ _ => trivial
    refine gfor_list (xs := xs) (fun i n σ H' => Same H1 H' ∧ n = (((stepsOf B ps).drop i).flatMap fun s => (runsL B r (nextP ps s.1)).map (s :: ·)).length ∧ ∃ o4 o5 o6 o7 : Option V, σ = [some bv, some (.ref ra), some sv, some (.int (len : Nat)), o4, o5, o6, o7])
      ⟨Same.refl _, by rw [List.drop_zero]; exact hn, _, _, _, _, rfl⟩ (fun i n σ H' z => SqL.of (z.1 _ _ hq)) (fun i x n2 σ H2 hx z => ?_) (fun n2 σ H2 z => ?_)
    · obtain ⟨s2, en, o4, o5, o6, o7, rfl⟩ := z
      obtain ⟨⟨h, c⟩, es, hsx⟩ := paired_at hP hx
      have hmem : (h, c) ∈ stepsOf B ps := List.mem_of_getElem? es
      obtain ⟨b, p', rw', eb, ep, er, hc, enx⟩ := step_facts hps hmem
      obtain ⟨va, rfl, hva⟩ := Keep.step (Same.keep s2) hsx
      have s02 := s01.trans s2
      refine ⟨va, _, rfl, SqT.of hva, rfl, _, _, rfl, _, _, rfl, rfl, ?_⟩
      refine ⟨_, rfl, _, rfl, _, rfl, _, rfl, bv, sv, B, ps, m, h, b, p', rw', c, rfl, Keep.bench (Same.keep s02) hb, ok, Keep.st (Same.keep s02) hst, by rw [hps.len]; have := ok.ah; omega, eb, ep, er, hc, fun q2 av H4 s4 hq2 hav => ?_⟩
      refine ⟨q2, _, rfl, SqT.of hq2, rfl, _, _, rfl, _, _, rfl, rfl, ?_⟩
      refine ⟨_, rfl, rfl, _, rfl, ?_⟩
      refine ifT (by decide) ?_
      have hd : (stepsOf B ps).drop i = (h, c) :: (stepsOf B ps).drop (i + 1) := by
        have hi := (List.getElem?_eq_some_iff.mp es).1
        rw [List.drop_eq_getElem_cons hi, (List.getElem?_eq_some_iff.mp es).2]
      have s04 := s02.trans s4
      have s14 : Same w' H4 := s1.trans (s2.trans s4)
      refine ⟨(runsL B r (nextP ps h)).length, (((stepsOf B ps).drop (i + 1)).flatMap fun s => (runsL B r (nextP ps s.1)).map (s :: ·)).length, ?_, ?_⟩
      · rw [en, hd, List.flatMap_cons, List.length_append, List.length_map]
      refine ⟨_, rfl, _, rfl, _, rfl, _, rfl, by show 2 ≤ sizeLine; decide, fun p1 n1 => ⟨by show 1 ≤ sizeLine; decide, fun p2 n2 => ?_⟩⟩
      have u1 := same_upd (o := .tup [V.int (h : Nat), V.int (c : Nat)]) n1
      have u2 := same_upd (o := .tup [V.ref p1]) n2
      have u12 := u1.trans u2
      refine ⟨ra, p2, rxs, _, rfl, rfl, u12 _ _ (s14 _ _ hra), upd_same, sm (m := 1000) (by rw [hrp.length]; show _ + 1 ≤ _; omega) (Nat.le_refl _), fun p3 H7 s7 e7 => ?_⟩
      have s47 := u12.trans s7
      have s07 := s04.trans s47
      refine ⟨_, rfl, _, rfl, bv, .ref p3, av, B, nextP ps h, pre ++ [(h, c)], m, len, rfl, Keep.bench (Same.keep s07) hb, ok, ⟨p3, _, rfl, e7, paired_app (Keep.steps (Same.keep (s14.trans s47)) hrp) (.cons ⟨p1, rfl, s7 _ _ (u2 _ _ upd_same)⟩ .nil)⟩, ?_, hps.next hmem, by rw [List.length_append]; show len = _ + 1 + r; omega, h12, rfl, fun j t x H' ht sx hrx => ?_, fun H' sx => ⟨rfl, s2.trans (s4.trans (s47.trans sx)), rfl, _, _, _, _, rfl⟩⟩
      · rw [enx]; exact Keep.st (Same.keep s47) hav
      · have hj : j < ((runsL B r (nextP ps h)).map ((h, c) :: ·)).length := by rw [List.length_map]; exact (List.getElem?_eq_some_iff.mp ht).1
        obtain ⟨f1, f2⟩ := flat_at (f := fun s : Nat × Nat => (runsL B r (nextP ps s.1)).map (s :: ·)) es hj
        have key := hitem _ ((h, c) :: t) x H' (by rw [runsL]; rw [f1]; show ((runsL B r (nextP ps h)).map ((h, c) :: ·))[j]? = _; rw [List.getElem?_map, ht]; rfl) (s07.trans sx) (by rw [List.append_assoc] at hrx; exact hrx)
        have hN : n = (((stepsOf B ps).take i).flatMap fun s => (runsL B r (nextP ps s.1)).map (s :: ·)).length + (runsL B r (nextP ps h)).length + (((stepsOf B ps).drop (i + 1)).flatMap fun s => (runsL B r (nextP ps s.1)).map (s :: ·)).length := by
          rw [hn, runsL, f2]
          show _ + ((runsL B r (nextP ps h)).map ((h, c) :: ·)).length + _ = _
          rw [List.length_map]
        rw [List.length_map] at hj
        have e : n - 1 - ((((stepsOf B ps).take i).flatMap fun s => (runsL B r (nextP ps s.1)).map (s :: ·)).length + j) = (runsL B r (nextP ps h)).length - 1 - j + (((stepsOf B ps).drop (i + 1)).flatMap fun s => (runsL B r (nextP ps s.1)).map (s :: ·)).length := by omega
        rw [e] at key
        exact key
    · obtain ⟨s2, en, o4, o5, o6, o7, rfl⟩ := z
      rw [hP.length, List.drop_length] at en
      obtain rfl : n2 = 0 := en
      exact hfin H2 (s01.trans s2)
end
end Wv
end WxB_part
section WxC_part
set_option Elab.async false
set_option linter.all false
set_option maxRecDepth 100000
set_option maxHeartbeats 1000000
/-! WxC: runs. -/
namespace Wv
open PySem L2 PySem.Spec
open PyProof.Rows

section
variable {P : Program} {w : World} {K : PySem.W.Frag} {mg : Str → Option Value} {base : Heap} (T : Top w K mg)
include T
def sp_runs (K : PySem.W.Frag) : SpN := fun vs H n item fin => ∃ (bv : V) (B : Bn) (len : Nat), vs = [bv, .int (len : Nat)] ∧ BenchIs K H bv B ∧ B.Ok ∧ len ≤ 5 ∧
  n = (runsL B len (ps0 B)).length ∧ (∀ (i : Nat) (t : List (Nat × Nat)) (x : V) (H' : Hp), (runsL B len (ps0 B))[i]? = some t → Same H H' → RunIs H' x t → item (n - 1 - i) x H') ∧ ∀ H', Same H H' → fin 0 H'
theorem g_runs : GalW P w K mg base 20 True "runs" (sp_runs K) := by
  obtain ⟨fd, F⟩ := T.d_runs
  have nd := sc_runs.nd
  obtain ⟨tl, hml⟩ := T.int_MOST_LENGTH
  refine gal_of (k := 19) (sp := sp_runs K) F T.glo_runs (F.binds fun _ _ _ _ _ _ us hl => match us, hl with | [_, _], _ => rfl) sc_runs (by decide +kernel) (fun vs H n item fin h => by obtain ⟨_, _, _, rfl, _⟩ := h; rfl) fun cdv A0 outer n0 pa g GR item fin bY vs H w' n hch hr h s => ?_
  obtain ⟨bv, B, len, rfl, hb, ok, h5, hn, hitem, hfin⟩ := h
  obtain ⟨hch, hby⟩ := hch trivial
  refine ⟨_, gss_cons (gs_if (fun w0 s0 => pt_not (pt_val (pe_w (c_is_within T) hr (by decide) (by rfl) (pa_cons (pv 1) (pa_cons pe_int (pa_cons (pe_glob (v := .int 12) (by rfl) hml ⟨_, rfl⟩) pa_nil)))))) (gss_one gs_no) gss_nil)
    (gss_one (gs_yieldFromN (k := 8 + 2 * len) (tg := tCallN (sp_longer K len) [] (tCons (tVar 0) (tCons (tTup tNil) (tCons (tCall (sp_first_state K) [] E0 (tCons (tVar 0) tNil)) (tCons (tVar 1) tNil))))) (fun w0 s0 => pgn_w (g_longer T len) hr (by omega) (by rfl) (pa_cons (pv 0) (pa_cons (pe_tup pa_nil) (pa_cons (pe_w (c_first_state T) hr (by decide) (by rfl) (pa_cons (pv 0) pa_nil)) (pa_cons (pv 1) pa_nil))))) (hr.mono (by omega)) hch hby)), ?_⟩
  refine ⟨_, rfl, len, 0, 12, rfl, by omega, by omega, true, rfl, ?_⟩
  refine ifF rfl ?_
  refine ⟨n, 0, rfl, _, rfl, by show 0 ≤ sizeLine; decide, fun p np => ?_⟩
  have u1 := same_upd (o := .tup []) np
  have s1 := s.trans u1
  refine ⟨_, rfl, bv, B, rfl, Keep.bench (Same.keep s1) hb, by have := ok.ah; omega, fun sv H2 s2 hst => ⟨_, rfl, bv, .ref p, sv, B, ps0 B, [], _, len, rfl, Keep.bench (Same.keep (s1.trans s2)) hb, ok, ⟨p, [], rfl, s2 _ _ upd_same, .nil⟩, hst, psOk0, by show len = 0 + len; omega, by omega, hn, fun i t x H' ht sx hrx => ?_, fun H' sx => ⟨rfl, hfin H' (s1.trans (s2.trans sx))⟩⟩⟩
  exact hitem i t x H' ht (s1.trans (s2.trans sx)) hrx
end
end Wv
end WxC_part
section WxD_part
set_option Elab.async false
set_option linter.all false
set_option maxRecDepth 100000
set_option maxHeartbeats 1000000
/-! WxD: states as keys; how many there are. -/
namespace Wv
open PySem L2 PySem.Spec
open PyProof.Rows

/-! ### tuples stay -/
def KTup (H H' : Hp) : Prop := ∀ b xs, H b = some (.tup xs) → H' b = some (.tup xs)
theorem KTup.refl {H : Hp} : KTup H H := fun _ _ e => e
theorem KTup.trans {H H1 H2 : Hp} (a : KTup H H1) (b : KTup H1 H2) : KTup H H2 := fun x xs e => b x xs (a x xs e)
theorem KTup.of {H H' : Hp} (s : Same H H') : KTup H H' := fun b xs e => s b _ e
theorem ktup_upd {H : Hp} {a : Addr} {o o' : HO} (h : H a = some o) (n : ∀ xs, o ≠ .tup xs) : KTup H (upd H a o') := fun b xs e => by
  rw [upd_ne (fun z => by rw [z, h] at e; exact n xs (Option.some.inj e))]; exact e
theorem lst_tup {xs ys : List V} : HO.lst xs ≠ .tup ys := fun z => nomatch z
section
variable {H H' : Hp} (k : KTup H H')
include k
theorem KTup.tupIs {v : V} {xs : List V} (h : TupIs H v xs) : TupIs H' v xs := let ⟨a, e, h⟩ := h; ⟨a, e, k _ _ h⟩
theorem KTup.tab {v : V} (h : TabIs H v) : TabIs H' v := by
  obtain ⟨t, e, c, f, h1, h2, h3, h4, h5⟩ := h
  exact ⟨t, e, c, f, h1, k _ _ h2, k _ _ h3, k _ _ h4, k _ _ h5⟩
theorem KTup.st {v : V} {ps : List Nat} {m : Nat} (h : StIs H v ps m) : StIs H' v ps m := by
  obtain ⟨a, r, c, o, t, tb, os, h1, h2, h3, h4, h5, h6, h7, h8, h9⟩ := h
  exact ⟨a, r, c, o, t, tb, os, h1, k _ _ h2, k _ _ h3, k _ _ h4, k _ _ h5, h6, fun x hx => k.tupIs (h7 x hx), k _ _ h8, k.tab h9⟩
theorem KTup.sts {vs : List V} {pl : List (List Nat)} {m : Nat} (h : Paired (fun v ps => StIs H v ps m) vs pl) : Paired (fun v ps => StIs H' v ps m) vs pl := L2.Paired.mapP h fun _ _ g => k.st g
theorem KTup.step {v : V} {s : Nat × Nat} (h : StepIs H v s) : StepIs H' v s := k.tupIs h
theorem KTup.steps {vs : List V} {ss : List (Nat × Nat)} (h : Paired (StepIs H) vs ss) : Paired (StepIs H') vs ss := L2.Paired.mapP h fun _ _ g => k.step g
end

/-! ### a state as a key -/
def intsK (ps : List Nat) : List NestedKey := ps.map fun p : Nat => .num p
def stKey (ps : List Nat) (m : Nat) : NestedKey := .tup [.tup (intsK ps), .tup [], .tup (List.replicate m (.tup [])), .tup [], .tup [.tup [.none], .tup [.num 0], .num 0, .tup [], .num 0]]
theorem nks_ints {H : Hp} : ∀ ps : List Nat, NKs H (intsK ps) (ps.map fun p : Nat => V.int p)
  | [] => .nil
  | p :: ps => .cons (.int _) (nks_ints ps)
theorem nks_owns {H : Hp} : ∀ {os : List V}, (∀ x ∈ os, TupIs H x []) → NKs H (List.replicate os.length (.tup [])) os
  | [], _ => .nil
  | x :: os, h => by
    obtain ⟨a, rfl, ha⟩ := h x List.mem_cons_self
    exact .cons (.tup ha .nil) (nks_owns fun y hy => h y (List.mem_cons_of_mem _ hy))
theorem stKey_is {H : Hp} {v : V} {ps : List Nat} {m : Nat} (h : StIs H v ps m) : NK H (stKey ps m) v := by
  obtain ⟨a, r, c, o, t, tb, os, rfl, h2, h3, h4, h5, rfl, h7, h8, t', e, c', f, rfl, g2, g3, g4, g5⟩ := h
  exact .tup h2 (.cons (.tup h3 (nks_ints ps)) (.cons (.tup h4 .nil) (.cons (.tup h5 (nks_owns h7)) (.cons (.tup h8 .nil) (.cons (.tup g2 (.cons (.tup g3 (.cons .non .nil)) (.cons (.tup g4 (.cons (.int 0) .nil)) (.cons (.int 0) (.cons (.tup g5 .nil) (.cons (.int 0) .nil)))))) .nil)))))
theorem depth_ints : ∀ ps : List Nat, NestedKey.depthAll (intsK ps) = 0
  | [] => by simp [intsK, NestedKey.depthAll]
  | p :: ps => by
    have := depth_ints ps
    unfold intsK at this ⊢
    simp [NestedKey.depthAll, NestedKey.depth, this]
theorem depth_owns : ∀ m : Nat, NestedKey.depthAll (List.replicate m (.tup [])) ≤ 1
  | 0 => by simp [NestedKey.depthAll]
  | m + 1 => by
    have := depth_owns m
    rw [List.replicate_succ]
    simp only [NestedKey.depthAll, NestedKey.depth]
    omega
theorem stKey_depth {ps : List Nat} {m : Nat} : (stKey ps m).depth ≤ 8 := by
  have h1 := depth_ints ps
  have h2 := depth_owns m
  unfold stKey
  simp only [NestedKey.depth, NestedKey.depthAll, h1]
  omega
theorem ints_inj : ∀ {ps qs : List Nat}, intsK ps = intsK qs → ps = qs
  | [], [], _ => rfl
  | [], _ :: _, h => by cases h
  | _ :: _, [], h => by cases h
  | p :: ps, q :: qs, h => by
    obtain ⟨h1, h2⟩ := List.cons.inj (show (NestedKey.num (p : Int) :: intsK ps) = NestedKey.num (q : Int) :: intsK qs from h)
    have h1 := NestedKey.num.inj h1
    have : p = q := by omega
    rw [this, ints_inj h2]
theorem stKey_inj {ps qs : List Nat} {m : Nat} (h : stKey ps m = stKey qs m) : ps = qs := by
  have h := NestedKey.tup.inj h
  exact ints_inj (NestedKey.tup.inj (List.cons.inj h).1)

/-! ### how many states -/
def codeP : List Nat → Nat
  | [] => 0
  | p :: ps => p + 4 * codeP ps
theorem codeP_lt : ∀ {ps : List Nat}, (∀ p ∈ ps, p ≤ 3) → codeP ps < 4 ^ ps.length
  | [], _ => by decide
  | p :: ps, h => by
    have h1 := h p List.mem_cons_self
    have h2 := codeP_lt fun q hq => h q (List.mem_cons_of_mem _ hq)
    rw [List.length_cons, Nat.pow_succ]
    show p + 4 * codeP ps < _
    omega
theorem codeP_inj : ∀ {ps qs : List Nat}, ps.length = qs.length → (∀ p ∈ ps, p ≤ 3) → (∀ p ∈ qs, p ≤ 3) → codeP ps = codeP qs → ps = qs
  | [], [], _, _, _, _ => rfl
  | [], _ :: _, h, _, _, _ => by cases h
  | _ :: _, [], h, _, _, _ => by cases h
  | p :: ps, q :: qs, h, h1, h2, e => by
    have a1 := h1 p List.mem_cons_self
    have a2 := h2 q List.mem_cons_self
    have e : p + 4 * codeP ps = q + 4 * codeP qs := e
    have e1 : p = q := by omega
    have e2 : codeP ps = codeP qs := by omega
    rw [e1, codeP_inj (Nat.succ.inj h) (fun x hx => h1 x (List.mem_cons_of_mem _ hx)) (fun x hx => h2 x (List.mem_cons_of_mem _ hx)) e2]
theorem nodup_lt : ∀ (n : Nat) (l : List Nat), l.Nodup → (∀ x ∈ l, x < n) → l.length ≤ n
  | 0, l, _, h => by
    cases l with
    | nil => exact Nat.le_refl _
    | cons a l => exact absurd (h a List.mem_cons_self) (Nat.not_lt_zero _)
  | n + 1, l, hn, h => by
    by_cases hm : n ∈ l
    · have h1 := nodup_lt n (l.erase n) (hn.erase n) fun x hx => by
        have h2 := h x (List.mem_of_mem_erase hx)
        have h3 : x ≠ n := fun e => by
          rw [e] at hx
          exact (List.Nodup.mem_erase_iff hn).mp hx |>.1 rfl
        omega
      rw [List.length_erase_of_mem hm] at h1
      omega
    · have h1 := nodup_lt n l hn fun x hx => by
        have h2 := h x hx
        have h3 : x ≠ n := fun e => hm (e ▸ hx)
        omega
      omega
theorem PsOk.le3 {B : Bn} (ok : B.Ok) {ps : List Nat} (h : PsOk B ps) : ∀ p ∈ ps, p ≤ 3 := fun p hp => by
  obtain ⟨i, hi⟩ := List.mem_iff_getElem?.mp hp
  have hl : i < B.hs.length := by rw [← h.len]; exact (List.getElem?_eq_some_iff.mp hi).1
  have := h.le i B.hs[i] p (List.getElem?_eq_getElem hl) hi
  have := (ok.le B.hs[i]).2
  omega
theorem places_few {B : Bn} (ok : B.Ok) {l : List (List Nat)} (hn : l.Nodup) (h : ∀ p ∈ l, PsOk B p) : l.length ≤ 64 := by
  have h1 : (l.map codeP).Nodup := by
    unfold List.Nodup at hn ⊢
    rw [List.pairwise_map]
    refine List.Pairwise.imp_of_mem (fun {a b} ha hb hne e => hne ?_) hn
    exact codeP_inj ((h a ha).len.trans (h b hb).len.symm) ((h a ha).le3 ok) ((h b hb).le3 ok) e
  have h2 := nodup_lt 64 (l.map codeP) h1 fun x hx => by
    obtain ⟨p, hp, rfl⟩ := List.mem_map.mp hx
    have h3 := codeP_lt ((h p hp).le3 ok)
    have h4 : p.length ≤ 3 := by rw [(h p hp).len]; exact ok.ah.2
    have h5 : 4 ^ p.length ≤ 4 ^ 3 := Nat.pow_le_pow_right (by decide) h4
    have h6 : 4 ^ 3 = 64 := by decide
    omega
  rw [List.length_map] at h2
  exact h2
theorem keys_any {kn : List (List Nat)} {m : Nat} {ks : List (NestedKey × Addr)} (e : ks.map (·.1) = kn.map fun p => stKey p m) (ps : List Nat) : (ks.any fun z => decide (z.1 = stKey ps m)) = decide (ps ∈ kn) := by
  have h : (ks.any fun z => decide (z.1 = stKey ps m)) = (ks.map (·.1)).any fun k => decide (k = stKey ps m) := by rw [List.any_map]; rfl
  rw [h, e, List.any_map]
  by_cases q : ps ∈ kn
  · rw [decide_eq_true q]
    exact List.any_eq_true.mpr ⟨ps, q, decide_eq_true rfl⟩
  · rw [decide_eq_false q]
    refine List.any_eq_false.mpr fun p hp => ?_
    show ¬ (decide (stKey p m = stKey ps m) = true)
    rw [decide_eq_true_eq]
    exact fun e => q (stKey_inj e ▸ hp)
end Wv
end WxD_part
section WxE_part
set_option Elab.async false
set_option linter.all false
set_option maxRecDepth 100000
set_option maxHeartbeats 1000000
/-! WxE: visits. -/
namespace Wv
open PySem L2 PySem.Spec
open PyProof.Rows

/-- ((hand, choice), "done") -/
def WStepIs (H : Hp) (v : V) (s : Nat × Nat) : Prop := ∃ a p, v = .ref a ∧ H a = some (.tup [.ref p, .str "done"]) ∧ H p = some (.tup [.int s.1, .int s.2])
theorem KTup.wsteps {H H' : Hp} (k : KTup H H') {vs : List V} {ss : List (Nat × Nat)} (h : Paired (WStepIs H) vs ss) : Paired (WStepIs H') vs ss := L2.Paired.mapP h fun _ _ ⟨a, p, e, h1, h2⟩ => ⟨a, p, e, k _ _ h1, k _ _ h2⟩
/-- what visits hands out -/
def VisIs (B : Bn) (H : Hp) (x : V) : Prop := ∃ (t rw_ : Addr) (kv sv : V) (ps : List Nat) (xs : List V), x = .ref t ∧ H t = some (.tup [kv, sv, .ref rw_]) ∧ StIs H sv ps B.hs.length ∧ PsOk B ps ∧ H rw_ = some (.lst xs) ∧ Paired (WStepIs H) xs (stepsOf B ps)
/-- the places that are known -/
structure Kn (P : Program) (w : World) (B : Bn) (H : Hp) (dk : Addr) (ks : List (NestedKey × Addr)) (kn : List (List Nat)) : Prop where
  is : KnIs P w H dk ks
  e : ks.map (·.1) = kn.map fun p => stKey p B.hs.length
  nd : kn.Nodup
  ok : ∀ p ∈ kn, PsOk B p
theorem Kn.same {P : Program} {w : World} {B : Bn} {H H' : Hp} {dk : Addr} {ks : List (NestedKey × Addr)} {kn : List (List Nat)} (x : Kn P w B H dk ks kn) (s : Same H H') : Kn P w B H' dk ks kn := ⟨x.is.keep s, x.e, x.nd, x.ok⟩
theorem Kn.off {P : Program} {w : World} {B : Bn} {H : Hp} {dk a : Addr} {o o' : HO} {ks : List (NestedKey × Addr)} {kn : List (List Nat)} (x : Kn P w B H dk ks kn) (h : H a = some o) (n : ∀ xs, o ≠ .tup xs) (ne : dk ≠ a) : Kn P w B (upd H a o') dk ks kn :=
  ⟨⟨by rw [upd_ne ne]; exact x.is.at_, fun y hy => ⟨NK.keep (ktup_upd h n) _ _ (x.is.keys y hy).1, (x.is.keys y hy).2⟩⟩, x.e, x.nd, x.ok⟩
theorem Kn.len {P : Program} {w : World} {B : Bn} {H : Hp} {dk : Addr} {ks : List (NestedKey × Addr)} {kn : List (List Nat)} (x : Kn P w B H dk ks kn) : ks.length = kn.length := by
  have := congrArg List.length x.e
  rw [List.length_map, List.length_map] at this
  exact this
theorem Kn.put {P : Program} {w : World} {B : Bn} {H : Hp} {dk a : Addr} {ks : List (NestedKey × Addr)} {kn : List (List Nat)} {ps : List Nat} (x : Kn P w B H dk ks kn) (hs : StIs H (.ref a) ps B.hs.length) (hp : PsOk B ps) (hn : ps ∉ kn) :
    Kn P w B (upd H dk (KnO P w dk (ks ++ [(stKey ps B.hs.length, a)]))) dk (ks ++ [(stKey ps B.hs.length, a)]) (kn ++ [ps]) where
  is := KnIs.put (a := a) (k := stKey ps B.hs.length) x.is.at_ (fun xs => kn_tup) fun y hy => by
    rcases List.mem_append.mp hy with hy | hy
    · exact x.is.keys y hy
    · rw [List.mem_singleton] at hy
      subst hy
      exact ⟨stKey_is hs, stKey_depth⟩
  e := by rw [List.map_append, List.map_append, x.e]; rfl
  nd := List.nodup_append.mpr ⟨x.nd, List.nodup_cons.mpr ⟨List.not_mem_nil, List.nodup_nil⟩, fun p hp q hq e => by
    rw [List.mem_singleton] at hq
    exact hn (by rw [← hq, ← e]; exact hp)⟩
  ok := fun p hq => by
    rcases List.mem_append.mp hq with hq | hq
    · exact x.ok p hq
    · rw [List.mem_singleton] at hq
      rw [hq]; exact hp
theorem same_upd_off {H H' : Hp} {a : Addr} {o : HO} (s : Same H H') (h : H a = none) : Same H (upd H' a o) := same_put s h
theorem StIs.ref {H : Hp} {v : V} {ps : List Nat} {m : Nat} (h : StIs H v ps m) : ∃ a, v = .ref a := by
  obtain ⟨a, r, c, o, t, tb, os, h1, _⟩ := h
  exact ⟨a, h1⟩
theorem kn_lst {P : Program} {w : World} {d : Addr} {ks : List (NestedKey × Addr)} {xs : List V} : KnO P w d ks ≠ .lst xs := fun z => by
  have z' : HO.ext _ = HO.lst xs := z
  cases z'
theorem Kn.ne {P : Program} {w : World} {B : Bn} {H : Hp} {dk a : Addr} {xs : List V} {ks : List (NestedKey × Addr)} {kn : List (List Nat)} (x : Kn P w B H dk ks kn) (h : H a = some (.lst xs)) : dk ≠ a := fun z => by
  rw [← z, x.is.at_] at h
  exact kn_lst (Option.some.inj h)
theorem ne_new {H : Hp} {a b : Addr} {o : HO} (h : H a = some o) (n : H b = none) : a ≠ b := ne_of_none h n
abbrev Sts (m : Nat) (H : Hp) : List V → List (List Nat) → Prop := Paired fun v ps => StIs H v ps m
/-- ahead of a turn of the while -/
def WInv (P : Program) (w : World) (B : Bn) (bv : V) (H0 : Hp) (n : Nat) (σ : L2.St) (H : Hp) : Prop := Same H0 H ∧ n ≤ 64 ∧ ∃ (st0 : V) (dk wl : Addr) (ks : List (NestedKey × Addr)) (kn : List (List Nat)) (wv : List V) (wp : List (List Nat)) (o4 o5 o6 o7 o8 o9 o10 : Option V),
  σ = [some bv, some st0, some (.ref dk), some (.ref wl), o4, o5, o6, o7, o8, o9, o10] ∧ H0 dk = none ∧ Kn P w B H dk ks kn ∧ H wl = some (.lst wv) ∧ Sts B.hs.length H wv wp ∧ (∀ p ∈ wp, p ∈ kn) ∧ n + kn.length = 64 + wp.length
/-- within the for over the waiting ones -/
def FInv (P : Program) (w : World) (B : Bn) (bv : V) (H0 : Hp) (st0 : V) (dk wl dl : Addr) (wv : List V) (wp : List (List Nat)) (nS i n : Nat) (σ : L2.St) (H : Hp) : Prop := Same H0 H ∧ n + i = nS ∧ ∃ (ks : List (NestedKey × Addr)) (kn : List (List Nat)) (lv : List V) (lp : List (List Nat)) (o5 o6 o7 o8 o9 o10 : Option V),
  σ = [some bv, some st0, some (.ref dk), some (.ref wl), some (.ref dl), o5, o6, o7, o8, o9, o10] ∧ Kn P w B H dk ks kn ∧ H wl = some (.lst wv) ∧ H dl = some (.lst lv) ∧ Sts B.hs.length H wv wp ∧ Sts B.hs.length H lv lp ∧ (∀ p ∈ wp, p ∈ kn) ∧ (∀ p ∈ lp, p ∈ kn) ∧ nS + kn.length = 64 + wp.length + lp.length
/-- within the for over the steps -/
def SInv (P : Program) (w : World) (B : Bn) (bv : V) (H0 : Hp) (st0 sv : V) (dk wl dl dr q : Addr) (wv xs : List V) (wp : List (List Nat)) (ps : List Nat) (nS i n0 j n : Nat) (σ : L2.St) (H : Hp) : Prop := Same H0 H ∧ n = n0 ∧ ∃ (ks : List (NestedKey × Addr)) (kn : List (List Nat)) (lv : List V) (lp : List (List Nat)) (rv : List V) (o7 o8 o9 o10 : Option V),
  σ = [some bv, some st0, some (.ref dk), some (.ref wl), some (.ref dl), some sv, some (.ref dr), o7, o8, o9, o10] ∧ Kn P w B H dk ks kn ∧ H wl = some (.lst wv) ∧ H dl = some (.lst lv) ∧ Sts B.hs.length H wv wp ∧ Sts B.hs.length H lv lp ∧ (∀ p ∈ wp, p ∈ kn) ∧ (∀ p ∈ lp, p ∈ kn) ∧ nS + kn.length = 64 + wp.length + lp.length ∧
  H dr = some (.lst rv) ∧ Paired (WStepIs H) rv ((stepsOf B ps).take j) ∧ H q = some (.lst xs) ∧ Paired (StepIs H) xs (stepsOf B ps) ∧ StIs H sv ps B.hs.length
section
variable {P : Program} {w : World} {K : PySem.W.Frag} {mg : Str → Option Value} {base : Heap} (T : Top w K mg)
include T
def sp_visits (K : PySem.W.Frag) : SpN := fun vs H n item fin => ∃ (bv : V) (B : Bn), vs = [bv] ∧ BenchIs K H bv B ∧ B.Ok ∧ n = 64 ∧ (∀ (m : Nat) (x : V) (H' : Hp), m < 64 → Same H H' → VisIs B H' x → item m x H') ∧ ∀ (m : Nat) (H' : Hp), Same H H' → fin m H'
theorem g_visits : GalW P w K mg base 8 False "visits" (sp_visits K) := by
  obtain ⟨fd, F⟩ := T.d_visits
  have nd := sc_visits.nd
  obtain ⟨tm, hms⟩ := T.int_MOST_STATES
  refine gal_of (k := 7) (sp := sp_visits K) F T.glo_visits (F.binds fun _ _ _ _ _ _ us hl => match us, hl with | [_], _ => rfl) sc_visits (by decide +kernel) (fun vs H n item fin h => by obtain ⟨_, _, rfl, _⟩ := h; rfl) fun cdv A0 outer n0 pa g GR item fin bY vs H w' n hch hr h s => ?_
  obtain ⟨bv, B, rfl, hb0, ok, rfl, hitem, hfin⟩ := h
  have hu : (A0.deeper (envOfC "visits" (defScope s_visits) n0 (He.ga K "visits") cdv)).units + 20 < cLine := by have := hr.un; omega
  refine ⟨_, gss_cons (gs_ps fun w0 s0 => ps_set (i := 1) nd rfl (Or.inl rfl) (pe_w (c_plain T) hr (by decide) (by rfl) (pa_cons (pv 0) (pa_cons (pe_w (c_first_state T) hr (by decide) (by rfl) (pa_cons (pv 0) pa_nil)) pa_nil))))
    (gss_cons (gs_ps (t := tAsg (tDispN P w _ _) _) fun w0 s0 => ps_set (i := 2) nd rfl (Or.inl rfl) (pe_dispN hu (pv 1) pe_non))
    (gss_cons (gs_ps fun w0 s0 => ps_set (i := 3) nd rfl (Or.inl rfl) (pe_lst (pa_cons (pv 1) pa_nil)))
    (gss_one (gs_while (fun w0 s0 => pt_cmpR op_gt (pe_callB (r := rLenS K) call_len_seq (by rfl) T.free_len PySem.boot_len (pa_cons (pv 3) pa_nil)) pe_int (nomark _))
      (gss_cons (gs_ps fun w0 s0 => ps_set (i := 4) nd rfl (Or.inl rfl) (pe_lst pa_nil))
      (gss_cons (gs_for (wi := iList K _) (fun w0 s0 => pi_list (pv 3)) (fun w0 s0 => pg_name (i := 5) nd rfl (Or.inl rfl))
        (gss_cons (gs_ps fun w0 s0 => ps_set (i := 6) nd rfl (Or.inl rfl) (pe_lst pa_nil))
        (gss_cons (gs_for (wi := iList K _) (g := gTup K 2 _) (fun w0 s0 => pi_list (pe_w (c_all_steps T) hr (by decide) (by rfl) (pa_cons (pv 0) (pa_cons (pv 5) pa_nil)))) (fun w0 s0 => pg_tup (by rfl) (pgs_cons (pg_name (i := 7) nd rfl (Or.inl rfl)) (pgs_cons (pg_name (i := 8) nd rfl (Or.inl rfl)) pgs_nil)))
          (gss_cons (gs_ps (t := tAsg _ (gTup K 2 _)) fun w0 s0 => ps_asg (pe_w (c_stepped T) hr (by decide) (by rfl) (pa_cons (pv 0) (pa_cons (pv 5) (pa_cons (pv 7) (pa_cons (pv 8) pa_nil))))) (pg_tup (by rfl) (pgs_cons (pg_name (i := 9) nd rfl (Or.inl rfl)) (pgs_cons (pg_name (i := 10) nd rfl (Or.inl rfl)) pgs_nil))))
          (gss_cons (gs_ps (t := tDrop (tBM K "list" rAppend _ _)) fun w0 s0 => ps_expr (pe_bm PySem.F.plainAttrs_list PySem.F.slot_list_append PySem.F.type_list_append mt_append (pv 6) (pa_cons (pe_tup (pa_cons (pe_tup (pa_cons (pv 7) (pa_cons (pv 8) pa_nil))) (pa_cons (pv 10) pa_nil))) pa_nil)))
          (gss_cons (gs_ps fun w0 s0 => ps_set (i := 9) nd rfl (Or.inl rfl) (pe_w (c_plain T) hr (by decide) (by rfl) (pa_cons (pv 0) (pa_cons (pv 9) pa_nil))))
          (gss_one (gs_if (tc := tAnd _ (tB (tNotInN P w _ _))) (fun w0 s0 => PW.pt (pw_and (pt_cmpR op_ne (pv 10) pe_str (nomark _)) (pw_and1 (pt_cmp (pc_notinN hu (pv 9) (pv 2))))))
            (gss_cons (gs_ps (t := sPutN P w _ _ _) fun w0 s0 => ps_putN hu (pv 2) (pv 9) (pe_tup (pa_cons (pv 5) (pa_cons (pe_tup (pa_cons (pv 7) (pa_cons (pv 8) pa_nil))) pa_nil))) (by rfl))
            (gss_one (gs_ps (t := tDrop (tBM K "list" rAppend _ _)) fun w0 s0 => ps_expr (pe_bm PySem.F.plainAttrs_list PySem.F.slot_list_append PySem.F.type_list_append mt_append (pv 4) (pa_cons (pv 9) pa_nil))))) gss_nil))))))
        (gss_cons (gs_if (fun w0 s0 => pt_cmpR op_gt (pe_callB (r := rLenN P w) call_lenN (by rfl) T.free_len PySem.boot_len (pa_cons (pv 2) pa_nil)) (pe_glob (v := .int 50000) (by rfl) hms ⟨_, rfl⟩) (nomark _)) (gss_one gs_no) gss_nil)
        (gss_one (gs_yield fun w0 s0 => pe_tup (pa_cons (pv 2) (pa_cons (pv 5) (pa_cons (pv 6) pa_nil)))))))))
      (gss_one (gs_ps fun w0 s0 => ps_set (i := 3) nd rfl (Or.inl rfl) (pv 4))))))))), ?_⟩
  have hb := Keep.bench (Same.keep s) hb0
  have hm9 : B.hs.length ≤ 900 := by have := ok.ah; omega
  refine ⟨_, rfl, _, rfl, bv, B, rfl, hb, hm9, fun s0v H1 s1 hst1 => ⟨bv, s0v, B, _, _, rfl, Keep.bench (Same.keep s1) hb, hst1, hm9, fun sv0 H2 s2 hst2 => ?_⟩⟩
  obtain ⟨sa, rfl⟩ := hst2.ref
  refine fun dk ndk => ⟨_, rfl, sa, stKey (ps0 B) B.hs.length, rfl, upd_same, stKey_is (KTup.st (KTup.of (same_upd ndk)) hst2), stKey_depth, ?_⟩
  have s02 := s1.trans s2
  have s23 : Same H2 (upd (upd H2 dk (KnO P w dk [])) dk (KnO P w dk [(stKey (ps0 B) B.hs.length, sa)])) := same_put (same_upd ndk) ndk
  have kn0 : Kn P w B (upd (upd H2 dk (KnO P w dk [])) dk (KnO P w dk [(stKey (ps0 B) B.hs.length, sa)])) dk [(stKey (ps0 B) B.hs.length, sa)] [ps0 B] :=
    ⟨⟨upd_same, fun y hy => by
      rw [List.mem_singleton] at hy
      subst hy
      exact ⟨stKey_is (KTup.st (KTup.of s23) hst2), stKey_depth⟩⟩, rfl, List.nodup_cons.mpr ⟨List.not_mem_nil, List.nodup_nil⟩, fun p hp => by rw [List.mem_singleton] at hp; rw [hp]; exact psOk0⟩
  have hdk0 := same_none s02 ndk
  obtain ⟨H3, eH3⟩ : ∃ H3, H3 = upd (upd H2 dk (KnO P w dk [])) dk (KnO P w dk [(stKey (ps0 B) B.hs.length, sa)]) := ⟨_, rfl⟩
  rw [← eH3] at s23 kn0 ⊢
  refine ⟨_, rfl, by show 1 ≤ sizeLine; decide, fun wl nwl => ?_⟩
  have s34 := same_upd (o := .lst [V.ref sa]) nwl
  have s24 := s23.trans s34
  refine ⟨fun m n σ H => m = n ∧ WInv P w B bv w' n σ H, ⟨64, rfl, s02.trans s24, Nat.le_refl _, .ref sa, dk, wl, _, [ps0 B], [.ref sa], [ps0 B], _, _, _, _, _, _, _, rfl, hdk0, kn0.same s34, upd_same, .cons (KTup.st (KTup.of s24) hst2) .nil, fun p hp => hp, rfl⟩, ?_⟩
  clear kn0 s24 s34 s23 eH3 nwl ndk hdk0 hst2 hst1
  rintro m n σ H4 ⟨rfl, s4, hn, st0, dk, wl, ks, kn, wv, wp, o4, o5, o6, o7, o8, o9, o10, rfl, hdk0, kn4, hwl, hwp, hin, hcount⟩
  have hfewn := places_few ok kn4.nd kn4.ok
  refine ⟨_, rfl, wl, _, rfl, .inl (SqL.of hwl), _, _, rfl, rfl, _, rfl, ?_⟩
  by_cases hz : wp.length = 0
  · refine ifF (decide_eq_false (by rw [hwp.length, hz]; decide)) ?_
    exact hfin _ _ (s.trans s4)
  refine ifT (decide_eq_true (by rw [hwp.length]; omega)) ?_
  refine ⟨fun n' σ' H' => n' < m ∧ WInv P w B bv w' n' σ' H', fun n' σ' H' z => ⟨n', z.1, rfl, z.2⟩, ?_⟩
  refine ⟨by show 0 ≤ sizeLine; decide, fun dl ndl => ?_⟩
  have hdl0 := same_none s4 ndl
  have u5 := same_upd (o := .lst []) ndl
  have ndlw : wl ≠ dl := ne_of_none hwl ndl
  refine ⟨_, rfl, wl, rfl, ⟨_, SqL.of (u5 _ _ hwl)⟩, ?_⟩
  refine gfor_list (xs := wv) (FInv P w B bv w' st0 dk wl dl wv wp m) ⟨s4.trans u5, rfl, ks, kn, [], [], _, _, _, _, _, _, rfl, kn4.same u5, u5 _ _ hwl, upd_same, KTup.sts (KTup.of u5) hwp, .nil, hin, fun p hp => absurd hp List.not_mem_nil, by show m + kn.length = 64 + wp.length + 0; omega⟩ (fun i n σ H z => ?_) (fun i x n σ H6 hx z => ?_) (fun n σ H6 z => ?_)
  · obtain ⟨_, _, _, _, _, _, _, _, _, _, _, _, _, _, h, _⟩ := z
    exact SqL.of h
  · obtain ⟨s6, hni, ks, kn, lv, lp, o5, o6, o7, o8, o9, o10, rfl, kn6, hwl6, hdl6, hwp6, hlp6, hin6, hil6, hc6⟩ := z
    obtain ⟨ps, ewp, hst6⟩ := paired_at hwp6 hx
    have hps : PsOk B ps := kn6.ok ps (hin6 ps (List.mem_of_getElem? ewp))
    have hiw : i < wp.length := (List.getElem?_eq_some_iff.mp ewp).1
    refine ⟨by show 0 ≤ sizeLine; decide, fun dr ndr => ?_⟩
    have u7 := same_upd (o := .lst []) ndr
    have hdr0 := same_none s6 ndr
    have nwr : wl ≠ dr := ne_of_none hwl6 ndr
    have nlr : dl ≠ dr := ne_of_none hdl6 ndr
    have s7 := s6.trans u7
    refine ⟨_, rfl, _, rfl, bv, x, B, ps, _, rfl, Keep.bench (Same.keep s7) hb, ok, KTup.st (KTup.of u7) hst6, hps, fun q xs H8 s8 hq nq hP => ?_⟩
    refine ⟨q, rfl, ⟨_, SqL.of hq⟩, ?_⟩
    have s78 := u7.trans s8
    have nqr : dr ≠ q := ne_of_none (upd_same (H := H6) (a := dr) (o := .lst [])) nq
    have nql : dl ≠ q := ne_of_none (u7 _ _ hdl6) nq
    refine gfor_list (xs := xs) (SInv P w B bv w' st0 x dk wl dl dr q wv xs wp ps m i n) ⟨s6.trans s78, rfl, ks, kn, lv, lp, [], _, _, _, _, rfl, kn6.same s78, s78 _ _ hwl6, s78 _ _ hdl6, KTup.sts (KTup.of s78) hwp6, KTup.sts (KTup.of s78) hlp6, hin6, hil6, hc6, s8 _ _ upd_same, .nil, hq, hP, KTup.st (KTup.of s78) hst6⟩ (fun j n σ H z => ?_) (fun j y n2 σ H9 hy z => ?_) (fun n2 σ H9 z => ?_)
    · obtain ⟨_, _, _, _, _, _, _, _, _, _, _, _, _, _, _, _, _, _, _, _, _, _, h, _⟩ := z
      exact SqL.of h
    · obtain ⟨s9, rfl, ks, kn, lv, lp, rv, o7, o8, o9, o10, rfl, kn9, hwl9, hdl9, hwp9, hlp9, hin9, hil9, hc9, hdr9, hrv9, hq9, hP9, hst9⟩ := z
      obtain ⟨⟨h, c⟩, es, hsx⟩ := paired_at hP9 hy
      have hmem : (h, c) ∈ stepsOf B ps := List.mem_of_getElem? es
      obtain ⟨b, p', rw', eb, ep, er, hc, enx⟩ := step_facts hps hmem
      obtain ⟨va, rfl, hva⟩ := hsx
      have hfew9 := places_few ok kn9.nd kn9.ok
      refine ⟨va, _, rfl, SqT.of hva, rfl, _, _, rfl, _, _, rfl, rfl, ?_⟩
      refine ⟨_, rfl, _, rfl, _, rfl, _, rfl, bv, x, B, ps, _, h, b, p', rw', c, rfl, Keep.bench (Same.keep s9) hb, ok, hst9, by rw [hps.len]; exact hm9, eb, ep, er, hc, fun q2 av HA sA hq2 hav => ?_⟩
      refine ⟨q2, _, rfl, SqT.of hq2, rfl, _, _, rfl, _, _, rfl, rfl, ?_⟩
      refine ⟨_, rfl, .inl ⟨rfl, _, SqL.of (sA _ _ hdr9)⟩, _, rfl, _, rfl, by show 2 ≤ sizeLine; decide, fun p1 n1 => ⟨_, rfl, by show 2 ≤ sizeLine; decide, fun p2 n2 => ?_⟩⟩
      have v1 := same_upd (o := .tup [V.int (h : Nat), V.int (c : Nat)]) n1
      have v2 := same_upd (o := .tup [V.ref p1, V.str "done"]) n2
      have s9B := sA.trans (v1.trans v2)
      have hjl : j < (stepsOf B ps).length := (List.getElem?_eq_some_iff.mp es).1
      have hrl : rv.length ≤ 900 := by
        have e1 := hrv9.length
        rw [List.length_take] at e1
        have := stepsTo_len (B := B) (ps := ps) B.hs.length
        have := ok.ah
        have : (stepsOf B ps).length ≤ 2 * B.hs.length := by assumption
        omega
      have hdrB := s9B _ _ hdr9
      refine ⟨dr, rv, _, rfl, rfl, hdrB, smlt hrl, ?_⟩
      obtain ⟨HC, eHC⟩ : ∃ HC, HC = upd (upd (upd HA p1 (.tup [V.int (h : Nat), V.int (c : Nat)])) p2 (.tup [V.ref p1, V.str "done"])) dr (.lst (rv ++ [.ref p2])) := ⟨_, rfl⟩
      have ktBC : KTup (upd (upd HA p1 (.tup [V.int (h : Nat), V.int (c : Nat)])) p2 (.tup [V.ref p1, V.str "done"])) HC := by rw [eHC]; exact ktup_upd hdrB fun _ => lst_tup
      have kt9C : KTup H9 HC := (KTup.of s9B).trans ktBC
      have hdrC : HC dr = some (.lst (rv ++ [.ref p2])) := by rw [eHC]; exact upd_same
      have offC : ∀ a, a ≠ dr → HC a = (upd (upd HA p1 (.tup [V.int (h : Nat), V.int (c : Nat)])) p2 (.tup [V.ref p1, V.str "done"])) a := fun a ha => by rw [eHC, upd_ne ha]
      have knC : Kn P w B HC dk ks kn := by rw [eHC]; exact (kn9.same s9B).off hdrB (fun _ => lst_tup) ((kn9.same s9B).ne hdrB)
      have sC : Same w' HC := by rw [eHC]; exact same_put (s9.trans s9B) hdr0
      have hwlC : HC wl = some (.lst wv) := by rw [offC wl nwr]; exact s9B _ _ hwl9
      have hdlC : HC dl = some (.lst lv) := by rw [offC dl nlr]; exact s9B _ _ hdl9
      have hqC : HC q = some (.lst xs) := by rw [offC q nqr.symm]; exact s9B _ _ hq9
      have hp2 : HC p2 = some (.tup [V.ref p1, V.str "done"]) := ktBC _ _ upd_same
      have hp1 : HC p1 = some (.tup [V.int (h : Nat), V.int (c : Nat)]) := ktBC _ _ (v2 _ _ upd_same)
      have hrvC : Paired (WStepIs HC) (rv ++ [.ref p2]) ((stepsOf B ps).take (j + 1)) := by
        rw [List.take_add_one, es]
        exact paired_app (KTup.wsteps kt9C hrv9) (.cons ⟨p2, p1, rfl, hp2, hp1⟩ .nil)
      rw [← eHC]
      refine ⟨_, rfl, _, rfl, bv, av, B, _, _, rfl, Keep.bench (Same.keep sC) hb, KTup.st ((KTup.of (v1.trans v2)).trans ktBC) hav, hm9, fun v2' HD sD hstD => ?_⟩
      obtain ⟨va2, rfl⟩ := hstD.ref
      rw [← enx] at hstD
      have hpn := hps.next hmem
      refine ⟨_, rfl, rfl, _, rfl, ?_⟩
      refine ifT (by decide) ?_
      have knD := knC.same sD
      refine ⟨_, rfl, _, rfl, dk, ks, stKey (nextP ps h) B.hs.length, va2, rfl, rfl, knD.is, stKey_is hstD, stKey_depth, _, rfl, ?_⟩
      rw [keys_any knD.e]
      have ktD := KTup.of sD
      have kt9D := kt9C.trans ktD
      by_cases hk : nextP ps h ∈ kn
      · refine ifF (by rw [decide_eq_true hk]; rfl) ?_
        exact ⟨sC.trans sD, rfl, ks, kn, lv, lp, rv ++ [.ref p2], _, _, _, _, rfl, knD, sD _ _ hwlC, sD _ _ hdlC, KTup.sts kt9D hwp9, KTup.sts kt9D hlp9, hin9, hil9, hc9, sD _ _ hdrC, KTup.wsteps ktD hrvC, sD _ _ hqC, KTup.steps kt9D hP9, KTup.st kt9D hst9⟩
      · refine ifT (by rw [decide_eq_false hk]; rfl) ?_
        refine ⟨_, rfl, _, rfl, _, rfl, by show 2 ≤ sizeLine; decide, fun p3 n3 => ⟨by show 2 ≤ sizeLine; decide, fun p4 n4 => ?_⟩⟩
        have w1 := same_upd (o := .tup [V.int (h : Nat), V.int (c : Nat)]) n3
        have w2 := same_upd (o := .tup [x, V.ref p3]) n4
        have w12 := w1.trans w2
        have knE := knD.same w12
        have hstE := KTup.st (KTup.of w12) hstD
        have hkl : ks.length ≤ 900 := by rw [knE.len]; omega
        refine ⟨_, rfl, _, rfl, dk, ks, stKey (nextP ps h) B.hs.length, va2, rfl, rfl, knE.is, stKey_is hstE, stKey_depth, by rw [keys_any knE.e, decide_eq_false hk], smlt hkl, ?_⟩
        have sCE := sD.trans w12
        obtain ⟨HF, eHF⟩ : ∃ HF, HF = upd (upd (upd HD p3 (.tup [V.int (h : Nat), V.int (c : Nat)])) p4 (.tup [x, V.ref p3])) dk (KnO P w dk (ks ++ [(stKey (nextP ps h) B.hs.length, va2)])) := ⟨_, rfl⟩
        have knF : Kn P w B HF dk (ks ++ [(stKey (nextP ps h) B.hs.length, va2)]) (kn ++ [nextP ps h]) := by rw [eHF]; exact knE.put hstE hpn hk
        have ktEF : KTup (upd (upd HD p3 (.tup [V.int (h : Nat), V.int (c : Nat)])) p4 (.tup [x, V.ref p3])) HF := by rw [eHF]; exact ktup_upd knE.is.at_ fun _ => kn_tup
        have offF : ∀ a, a ≠ dk → HF a = (upd (upd HD p3 (.tup [V.int (h : Nat), V.int (c : Nat)])) p4 (.tup [x, V.ref p3])) a := fun a ha => by rw [eHF, upd_ne ha]
        have sF : Same w' HF := by rw [eHF]; exact same_put (sC.trans sCE) hdk0
        have hdlF : HF dl = some (.lst lv) := by rw [offF dl (knC.ne hdlC).symm]; exact sCE _ _ hdlC
        have hwlF : HF wl = some (.lst wv) := by rw [offF wl (knC.ne hwlC).symm]; exact sCE _ _ hwlC
        have hdrF : HF dr = some (.lst (rv ++ [.ref p2])) := by rw [offF dr (knC.ne hdrC).symm]; exact sCE _ _ hdrC
        have hqF : HF q = some (.lst xs) := by rw [offF q (knC.ne hqC).symm]; exact sCE _ _ hqC
        rw [← eHF]
        have hll : lv.length ≤ 900 := by rw [hlp9.length]; omega
        refine ⟨_, rfl, .inl ⟨rfl, _, SqL.of hdlF⟩, _, rfl, dl, lv, _, rfl, rfl, hdlF, smlt hll, ?_⟩
        have ktFG : KTup HF (upd HF dl (.lst (lv ++ [.ref va2]))) := ktup_upd hdlF fun _ => lst_tup
        have ktCG := ((KTup.of sCE).trans ktEF).trans ktFG
        have kt9G := kt9C.trans ktCG
        exact ⟨same_put sF hdl0, rfl, _, kn ++ [nextP ps h], lv ++ [.ref va2], lp ++ [nextP ps h], rv ++ [.ref p2], _, _, _, _, rfl, knF.off hdlF (fun _ => lst_tup) (knF.ne hdlF), by rw [upd_ne ndlw]; exact hwlF, upd_same, KTup.sts kt9G hwp9, paired_app (KTup.sts kt9G hlp9) (.cons (KTup.st (ktEF.trans ktFG) hstE) .nil),
          fun p hp => List.mem_append_left _ (hin9 p hp), fun p hp => by
            rcases List.mem_append.mp hp with hp | hp
            · exact List.mem_append_left _ (hil9 p hp)
            · exact List.mem_append_right _ hp,
          by rw [List.length_append, List.length_append]; show m + (kn.length + 1) = 64 + wp.length + (lp.length + 1); omega, by rw [upd_ne nlr.symm]; exact hdrF, KTup.wsteps ktCG hrvC, by rw [upd_ne nql.symm]; exact hqF, KTup.steps kt9G hP9, KTup.st kt9G hst9⟩
    · obtain ⟨s9, rfl, ks, kn, lv, lp, rv, o7, o8, o9, o10, rfl, kn9, hwl9, hdl9, hwp9, hlp9, hin9, hil9, hc9, hdr9, hrv9, hq9, hP9, hst9⟩ := z
      have hfew9 := places_few ok kn9.nd kn9.ok
      refine ⟨_, rfl, dk, ks, rfl, kn9.is, _, _, rfl, rfl, _, rfl, ?_⟩
      refine ifF (decide_eq_false (by rw [kn9.len]; omega)) ?_
      refine ⟨_, rfl, _, rfl, _, rfl, by show 3 ≤ sizeLine; decide, fun t nt => ?_⟩
      have ut := same_upd (o := .tup [V.ref dk, x, V.ref dr]) nt
      rw [hP9.length, List.take_length] at hrv9
      refine ⟨n2 - 1, by omega, hitem _ _ _ (by omega) (s.trans (s9.trans ut)) ⟨t, dr, .ref dk, x, ps, rv, rfl, upd_same, KTup.st (KTup.of ut) hst9, hps, ut _ _ hdr9, KTup.wsteps (KTup.of ut) hrv9⟩, fun wz sz => ?_⟩
      have utz := ut.trans sz
      exact ⟨s9.trans utz, by omega, ks, kn, lv, lp, _, _, _, _, _, _, rfl, kn9.same utz, utz _ _ hwl9, utz _ _ hdl9, KTup.sts (KTup.of utz) hwp9, KTup.sts (KTup.of utz) hlp9, hin9, hil9, hc9⟩
  · obtain ⟨s6, hni, ks, kn, lv, lp, o5, o6, o7, o8, o9, o10, rfl, kn6, hwl6, hdl6, hwp6, hlp6, hin6, hil6, hc6⟩ := z
    have hwl' := hwp.length
    exact ⟨_, rfl, by omega, s6, by omega, st0, dk, dl, ks, kn, lv, lp, _, _, _, _, _, _, _, rfl, hdk0, kn6, hdl6, hlp6, hil6, by omega⟩
end
end Wv
end WxE_part
section WxF_part
set_option Elab.async false
set_option linter.all false
set_option maxRecDepth 100000
set_option maxHeartbeats 1000000
/-! WxF: shortest_fault, is_safe, shortest_stuck. -/
namespace Wv
open PySem L2 PySem.Spec
open PyProof.Rows

/-! ### data -/
def stepD (s : Nat × Nat) : PyData := .tuple [.int s.1, .int s.2]
def wstepD (s : Nat × Nat) : PyData := .tuple [stepD s, .str "done"]
theorem shaped_map {α : Type} {f : α → PyData} {d : Nat} (hc : ∀ x, (f x).canLay0 = true) (hd : ∀ x, (f x).depth ≤ d) : ∀ l : List α, PyData.canLayAll0 (l.map f) = true ∧ PyData.depthAll (l.map f) ≤ d
  | [] => ⟨by simp [PyData.canLayAll0], by simp [PyData.depthAll]⟩
  | x :: l => by
    obtain ⟨h1, h2⟩ := shaped_map hc hd l
    have h3 := hd x
    rw [List.map_cons]
    refine ⟨by simp only [PyData.canLayAll0, hc x, h1]; rfl, ?_⟩
    simp only [PyData.depthAll]
    omega
theorem stepD_ok (s : Nat × Nat) : (stepD s).canLay0 = true ∧ (stepD s).depth ≤ 5 := by
  unfold stepD
  simp [PyData.canLay0, PyData.canLayAll0, PyData.depth, PyData.depthAll]
theorem wstepD_ok (s : Nat × Nat) : (wstepD s).canLay0 = true ∧ (wstepD s).depth ≤ 10 := by
  have h := stepD_ok s
  have hs : PyData.strOk "done" = true := by decide +kernel
  unfold wstepD
  simp only [PyData.canLay0, PyData.canLayAll0, PyData.depth, PyData.depthAll, h.1, hs]
  refine ⟨rfl, by omega⟩
theorem shaped_list {α : Type} {f : α → PyData} {d : Nat} (hc : ∀ x, (f x).canLay0 = true) (hd : ∀ x, (f x).depth ≤ d) (h : d ≤ 50) (l : List α) : SeqAt.shaped (.list (l.map f)) = true := by
  obtain ⟨h1, h2⟩ := shaped_map hc hd l
  unfold SeqAt.shaped
  simp only [PyData.canLay0, PyData.depth, h1, Bool.true_and]
  exact decide_eq_true (by omega)
section
variable {K : PySem.W.Frag} {H : Hp}
theorem dp_step {v : V} {s : Nat × Nat} (h : StepIs H v s) : Dp K H v (stepD s) := by
  obtain ⟨a, rfl, ha⟩ := h
  exact .tup (SqT.of ha) (.cons (.int _) (.cons (.int _) .nil))
theorem dp_wstep {v : V} {s : Nat × Nat} (h : WStepIs H v s) : Dp K H v (wstepD s) := by
  obtain ⟨a, p, rfl, ha, hp⟩ := h
  exact .tup (SqT.of ha) (.cons (.tup (SqT.of hp) (.cons (.int _) (.cons (.int _) .nil))) (.cons (.str _) .nil))
theorem dp_all {α : Type} {G : V → α → Prop} {f : α → PyData} (hG : ∀ v s, G v s → Dp K H v (f s)) : ∀ {vs : List V} {ss : List α}, Paired G vs ss → DpAll K H vs (ss.map f)
  | _, _, .nil => .nil
  | _, _, .cons g t => .cons (hG _ _ g) (dp_all hG t)
end
/-- is the list the empty one -/
theorem eqv_nil (ds : List PyData) : PyData.eqv (.list ds) (.list []) = ds.isEmpty := by
  cases ds <;> simp [PyData.eqv, PyData.eqvAll]
theorem shaped_nil : SeqAt.shaped (.list []) = true := by decide +kernel

/-! ### defs whose run may go over such generators -/
structure CalS (P : Program) (w : World) (K : PySem.W.Frag) (mg : Str → Option Value) (base : Heap) (k : Nat) (x : Str) (sp : Sp) : Prop where
  ex : ∃ (f : Addr) (fd : FuncData) (ps : List Str), FnOkS P w K mg base k f fd ps sp ∧ mg x = some (.ref f) ∧ PySem.W.keepIn K (.ref f) = true ∧ Binds K fd ps []
theorem cals_of {P : Program} {w : World} {K : PySem.W.Frag} {mg : Str → Option Value} {base : Heap} {x : Str} {st : Stmt} {f : Addr} {fd : FuncData} {N ps : List Str} {k : Nat} {sp : Sp} (F : Fun K x x st f fd) (hm : mg x = some (.ref f)) (b : Binds K fd ps []) (S : FnScope N ps (defScope st)) (len : ∀ vs H Q E, sp vs H Q E → vs.length = ps.length)
    (hbody : ∀ (cdv : Value) (A : Around) (outer : List Env) (s : Shared) (H : Hp) (vs : List V) (Q : VK) (E : XK), Room k (A.deeper (envOfC x (defScope st) s.heap.objs.size f cdv)) → sp vs H Q E →
      ∃ t, PSSs (cxOf CX0 P w K mg base N x (defScope st) f cdv A outer s H E).nox (defBody st) t ∧ t { nx := fun _ H' => Q .non H', rt := Q } (start N vs) H) : CalS P w K mg base (k + 1) x sp := by
  have kp := F.kp
  obtain ⟨oc, od, kV, doc, pm, an, cdv, ct, osl, rfl, lk, hcd⟩ := F.ex
  exact ⟨f, _, ps, fnS_of lk hcd S len fun A outer s H vs Q E => hbody cdv A outer s H vs Q E, hm, kp, b⟩
section
variable {X : Cx} {k j : Nat} {x : Str} {sp : Sp} {p pos : Pos} {e : Expr} {es : List Expr} {t : TA}
theorem FnOkS.mono {P : Program} {w : World} {K : PySem.W.Frag} {mg : Str → Option Value} {base : Heap} {k j : Nat} {f : Addr} {fd : FuncData} {ps : List Str} {sp : Sp} (F : FnOkS P w K mg base k f fd ps sp) (h : k ≤ j) : FnOkS P w K mg base j f fd ps sp :=
  ⟨F.len, fun A outer s H args us vs Q E hr => F.run A outer s H args us vs Q E (hr.mono h)⟩
/-- f(e, ..) -/
theorem pes_w (c : CalS X.prog X.w X.K X.mg X.base k x sp) (hr : Room j X.A) (hk : k ≤ j) (hg : Gl X x) (ha : PA X (e :: es) t)
    (hdb : (x == ("__debug__" : Str)) = false := by decide) (he : starEach (e :: es) X.env = (false, eval e X.env) :: starEach es X.env := by rfl) (hpl : (backTo pos (starEach es X.env)).any (·.1) = false := by rfl) :
    PES X (.Call (.Name x p) (e :: es) [] pos) (tCall sp [] E0 t) := by
  obtain ⟨f, fd, ps, F, hm, kp, b⟩ := c.ex
  exact pes_call (k := k) F (hr.mono hk) hg hm kp b .nil ha hdb he hpl
end

section
variable {P : Program} {w : World} {K : PySem.W.Frag} {mg : Str → Option Value} {base : Heap} (T : Top w K mg)
include T
/-- called with a bench it gives None -/
def sp_none (K : PySem.W.Frag) : Sp := fun vs H Q _ => ∃ (bv : V) (B : Bn), vs = [bv] ∧ BenchIs K H bv B ∧ B.Ok ∧ ∀ H', Same H H' → Q .non H'
def sp_true (K : PySem.W.Frag) : Sp := fun vs H Q _ => ∃ (bv : V) (B : Bn), vs = [bv] ∧ BenchIs K H bv B ∧ B.Ok ∧ ∀ H', Same H H' → Q (.bl true) H'
theorem z_sfault : CalS P w K mg base 10 "shortest_fault" (sp_none K) := by
  obtain ⟨fd, F⟩ := T.d_shortest_fault
  have nd := sc_shortest_fault.nd
  refine cals_of F T.glo_shortest_fault (F.binds fun _ _ _ _ _ _ us hl => match us, hl with | [_], _ => rfl) sc_shortest_fault (fun vs H Q E h => by obtain ⟨_, _, rfl, _⟩ := h; rfl) fun cdv A outer s H vs Q E hr h => ?_
  obtain ⟨bv, B, rfl, hb, ok, hQ⟩ := h
  refine ⟨_, psss_cons (pss_forN (k := 8) (by rfl) hr (pgn_w (j := 9) (g_visits T) hr (by decide) (by rfl) (pa_cons (pv 0) pa_nil)) (pg_tup (by rfl) (pgs_cons (pg_name (i := 1) nd rfl (Or.inl rfl)) (pgs_cons (pg_name (i := 2) nd rfl (Or.inl rfl)) (pgs_cons (pg_name (i := 3) nd rfl (Or.inl rfl)) pgs_nil))))
    (pss_one (ps_for PassesOwn.never (by rfl) (pi_list (pv 3)) (pg_tup (by rfl) (pgs_cons (pg_name (i := 4) nd rfl (Or.inl rfl)) (pgs_cons (pg_name (i := 5) nd rfl (Or.inl rfl)) pgs_nil)))
      (pss_one (ps_if (pt_cmpR op_eq (pv 5) pe_str (nomark _)) (pss_one ps_never) pss_nil)))))
    (psss_one (pss_ret (pes_of pe_non))), ?_⟩
  refine ⟨64, fun m x H' => Same H H' ∧ VisIs B H' x, fun m H' => Same H H', ⟨_, rfl, bv, B, rfl, hb, ok, rfl, fun m x H' _ s h => ⟨s, h⟩, fun m H' s => s⟩, fun m σ => ∃ o1 o2 o3 o4 o5 : Option V, σ = [some bv, o1, o2, o3, o4, o5], ⟨_, _, _, _, _, rfl⟩, fun m x σ H1 _ hw hi => ?_, fun m σ H1 hw hf => hQ H1 hf⟩
  obtain ⟨o1, o2, o3, o4, o5, rfl⟩ := hw
  obtain ⟨s1, t, dr, kv, sv, ps, xs, rfl, h1, h2, h3, h4, h5⟩ := hi
  refine ⟨t, _, rfl, SqT.of h1, rfl, _, _, rfl, _, _, rfl, _, _, rfl, rfl, ?_⟩
  refine ⟨_, rfl, dr, rfl, ⟨_, SqL.of h4⟩, ?_⟩
  refine for_list (xs := xs) (fun i σ H' => H1 = H' ∧ ∃ o4 o5 : Option V, σ = [some bv, some kv, some sv, some (.ref dr), o4, o5]) ⟨rfl, _, _, rfl⟩ (fun i σ H' _ q => by rw [← q.1]; exact SqL.of h4) (fun i y σ H' hy q => ?_) (fun σ H' q => ?_)
  · obtain ⟨rfl, o4, o5, rfl⟩ := q
    obtain ⟨s', es, a, p, rfl, g1, g2⟩ := paired_at h5 hy
    refine ⟨a, _, rfl, SqT.of g1, rfl, _, _, rfl, _, _, rfl, rfl, ?_⟩
    refine ⟨_, rfl, rfl, _, rfl, ?_⟩
    exact ifF (by decide) ⟨rfl, _, _, rfl⟩
  · obtain ⟨rfl, o4, o5, rfl⟩ := q
    exact ⟨Same.refl _, _, _, _, _, _, rfl⟩
theorem z_is_safe : CalS P w K mg base 11 "is_safe" (sp_true K) := by
  obtain ⟨fd, F⟩ := T.d_is_safe
  refine cals_of F T.glo_is_safe (F.binds fun _ _ _ _ _ _ us hl => match us, hl with | [_], _ => rfl) sc_is_safe (fun vs H Q E h => by obtain ⟨_, _, rfl, _⟩ := h; rfl) fun cdv A outer s H vs Q E hr h => ?_
  obtain ⟨bv, B, rfl, hb, ok, hQ⟩ := h
  refine ⟨_, psss_one (pss_ret (pes_cmp (pcs_isN (pes_w (z_sfault T) hr (by decide) (by rfl) (pa_cons (pv 0) pa_nil))))), ?_⟩
  exact ⟨_, rfl, bv, B, rfl, hb, ok, fun H' s' => hQ H' s'⟩
theorem z_sstuck : CalS P w K mg base 10 "shortest_stuck" (sp_none K) := by
  obtain ⟨fd, F⟩ := T.d_shortest_stuck
  have nd := sc_shortest_stuck.nd
  refine cals_of F T.glo_shortest_stuck (F.binds fun _ _ _ _ _ _ us hl => match us, hl with | [_], _ => rfl) sc_shortest_stuck (fun vs H Q E h => by obtain ⟨_, _, rfl, _⟩ := h; rfl) fun cdv A outer s H vs Q E hr h => ?_
  obtain ⟨bv, B, rfl, hb, ok, hQ⟩ := h
  refine ⟨_, psss_cons (pss_forN (k := 8) (by rfl) hr (pgn_w (j := 9) (g_visits T) hr (by decide) (by rfl) (pa_cons (pv 0) pa_nil)) (pg_tup (by rfl) (pgs_cons (pg_name (i := 1) nd rfl (Or.inl rfl)) (pgs_cons (pg_name (i := 2) nd rfl (Or.inl rfl)) (pgs_cons (pg_name (i := 3) nd rfl (Or.inl rfl)) pgs_nil))))
    (pss_one (ps_if (PW.pt (pw_and (pt_cmpR (r := rEqD K) (op_eqD hr.units) (pv 3) (pe_lst pa_nil) (nomark _)) (pw_and1 (pt_not (pt_val (pe_w (c_has_ended T) hr (by decide) (by rfl) (pa_cons (pv 0) (pa_cons (pv 2) pa_nil)))))))) (pss_one ps_never) pss_nil)))
    (psss_one (pss_ret (pes_of pe_non))), ?_⟩
  refine ⟨64, fun m x H' => Same H H' ∧ VisIs B H' x, fun m H' => Same H H', ⟨_, rfl, bv, B, rfl, hb, ok, rfl, fun m x H' _ s h => ⟨s, h⟩, fun m H' s => s⟩, fun m σ => ∃ o1 o2 o3 : Option V, σ = [some bv, o1, o2, o3], ⟨_, _, _, rfl⟩, fun m x σ H1 _ hw hi => ?_, fun m σ H1 hw hf => hQ H1 hf⟩
  obtain ⟨o1, o2, o3, rfl⟩ := hw
  obtain ⟨s1, t, dr, kv, sv, ps, xs, rfl, h1, h2, h3, h4, h5⟩ := hi
  refine ⟨t, _, rfl, SqT.of h1, rfl, _, _, rfl, _, _, rfl, _, _, rfl, rfl, ?_⟩
  refine ⟨_, rfl, by show 0 ≤ sizeLine; decide, fun z nz => ?_⟩
  have u1 := same_upd (o := .lst []) nz
  refine ⟨.list ((stepsOf B ps).map wstepD), .list [], .lst (SqL.of (u1 _ _ h4)) (dp_all (fun v s h => dp_wstep h) (KTup.wsteps (KTup.of u1) h5)), .lst (SqL.of upd_same) .nil, shaped_list (fun x => (wstepD_ok x).1) (fun x => (wstepD_ok x).2) (by decide) _, shaped_nil, _, rfl, ?_⟩
  rw [eqv_nil]
  by_cases he : stepsOf B ps = []
  · refine ifT (by rw [he]; rfl) ?_
    refine ⟨_, rfl, _, rfl, bv, sv, B, ps, _, rfl, Keep.bench (Same.keep (s1.trans u1)) hb, ok, KTup.st (KTup.of u1) h2, h3, fun H' s' => ⟨_, rfl, ?_⟩⟩
    refine ifF (by rw [end_of_none h3 he]; rfl) ?_
    exact ⟨u1.trans s', _, _, _, rfl⟩
  · refine ifF (by cases hs : stepsOf B ps with | nil => exact absurd hs he | cons a l => rfl) ?_
    refine ifF rfl ?_
    exact ⟨u1, _, _, _, rfl⟩
end
end Wv
end WxF_part
section WyA_part
set_option Elab.async false
set_option linter.all false
set_option maxRecDepth 100000
set_option maxHeartbeats 1000000
/-! WyA: the tables of larger sets. -/
namespace Wv
open PySem L2 PySem.Spec
open PyProof.Rows

/-! ### the round of i -> 5 i + 1 below a power of two -/
def xN : Nat → Nat
  | 0 => 0
  | n + 1 => 5 * xN n + 1
theorem xN_add (a : Nat) : ∀ b, xN (a + b) = 5 ^ b * xN a + xN b
  | 0 => by show xN a = 5 ^ 0 * xN a + 0; rw [Nat.pow_zero, Nat.one_mul]; rfl
  | b + 1 => by
    show 5 * xN (a + b) + 1 = 5 ^ (b + 1) * xN a + (5 * xN b + 1)
    rw [xN_add a b, Nat.pow_succ, Nat.mul_comm (5 ^ b) 5, Nat.mul_assoc, Nat.mul_add]
    omega
theorem pow5 : ∀ n, ∃ c, 5 ^ n = 4 * c + 1
  | 0 => ⟨0, rfl⟩
  | n + 1 => by
    obtain ⟨c, e⟩ := pow5 n
    exact ⟨5 * c + 1, by rw [Nat.pow_succ, e]; omega⟩
theorem odd_mul (c o : Nat) : ∃ e, (2 * c + 1) * (2 * o + 1) = 2 * e + 1 := ⟨c * (2 * o + 1) + o, by rw [Nat.add_mul, Nat.mul_assoc, Nat.one_mul]; omega⟩
theorem xN_pow : ∀ k, ∃ o, xN (2 ^ k) = 2 ^ k * (2 * o + 1)
  | 0 => ⟨0, rfl⟩
  | k + 1 => by
    obtain ⟨o, e⟩ := xN_pow k
    obtain ⟨c, hc⟩ := pow5 (2 ^ k)
    obtain ⟨d, hd⟩ := odd_mul c o
    refine ⟨d, ?_⟩
    have e2 : 2 ^ (k + 1) = 2 ^ k + 2 ^ k := by rw [Nat.pow_succ]; omega
    rw [e2, xN_add, hc, e]
    generalize 2 ^ k = q at *
    have h1 : q * ((2 * c + 1) * (2 * o + 1)) = (2 * c + 1) * (q * (2 * o + 1)) := Nat.mul_left_comm _ _ _
    rw [hd] at h1
    rw [Nat.add_mul q q, h1]
    generalize q * (2 * o + 1) = z
    rw [Nat.add_mul, Nat.add_mul, Nat.mul_assoc, Nat.mul_assoc, Nat.one_mul]
    omega
theorem xN_all : ∀ (k j : Nat), j < 2 ^ k → ∃ b, b < 2 ^ k ∧ xN b % 2 ^ k = j
  | 0, j, h => ⟨0, by decide, by
    have h : j < 1 := h
    show 0 % 1 = j
    omega⟩
  | k + 1, j, h => by
    have e2 : 2 ^ (k + 1) = 2 ^ k + 2 ^ k := by rw [Nat.pow_succ]; omega
    have hp : 0 < 2 ^ k := Nat.pow_pos (by decide)
    obtain ⟨b, hb, eb⟩ := xN_all k (j % 2 ^ k) (Nat.mod_lt _ hp)
    obtain ⟨o, eo⟩ := xN_pow k
    obtain ⟨c, hc⟩ := pow5 b
    obtain ⟨d, hd⟩ := odd_mul (2 * c) o
    have hs : xN (2 ^ k + b) = xN b + 2 ^ k + (2 ^ k + 2 ^ k) * d := by
      rw [xN_add, eo, hc]
      have h1 : 2 ^ k * ((2 * (2 * c) + 1) * (2 * o + 1)) = (2 * (2 * c) + 1) * (2 ^ k * (2 * o + 1)) := Nat.mul_left_comm _ _ _
      rw [hd] at h1
      have h2 : 4 * c + 1 = 2 * (2 * c) + 1 := by omega
      rw [h2, ← h1, Nat.mul_add, Nat.mul_one, Nat.add_mul, Nat.mul_comm 2 d, ← Nat.mul_assoc]
      omega
    rw [e2] at h ⊢
    generalize 2 ^ k = q at *
    have hr : xN b % (q + q) < q + q := Nat.mod_lt _ (by omega)
    have hrq : xN b % (q + q) % q = j % q := by rw [Nat.mod_mod_of_dvd _ ⟨2, by omega⟩]; exact eb
    by_cases he : xN b % (q + q) = j
    · exact ⟨b, by omega, he⟩
    · refine ⟨q + b, by omega, ?_⟩
      rw [hs, Nat.add_mul_mod_self_left, Nat.add_mod]
      have hq : q % (q + q) = q := Nat.mod_eq_of_lt (by omega)
      rw [hq]
      generalize xN b % (q + q) = r at hr hrq he ⊢
      have split : ∀ x, x < q + q → x = x % q ∨ x = x % q + q := fun x hx => by
        by_cases hl : x < q
        · left; rw [Nat.mod_eq_of_lt hl]
        · right
          have : x % q = x - q := by rw [Nat.mod_eq_sub_mod (by omega), Nat.mod_eq_of_lt (by omega)]
          omega
      rcases split r hr with h1 | h1
      · rcases split j h with h2 | h2
        · omega
        · rw [Nat.mod_eq_of_lt (by omega)]; omega
      · rcases split j h with h2 | h2
        · have : (r + q) = j + (q + q) := by omega
          rw [this, Nat.add_mod_right, Nat.mod_eq_of_lt h]
        · omega

/-- the masks that come -/
def MaskG (m : Nat) : Prop := m = 7 ∨ m = 31 ∨ m = 127 ∨ m = 511 ∨ m = 2047 ∨ m = 8191 ∨ m = 32767
theorem MaskG.pow {m : Nat} (h : MaskG m) : ∃ k, m + 1 = 2 ^ k := by
  rcases h with e | e | e | e | e | e | e <;> subst e
  · exact ⟨3, rfl⟩
  · exact ⟨5, rfl⟩
  · exact ⟨7, rfl⟩
  · exact ⟨9, rfl⟩
  · exact ⟨11, rfl⟩
  · exact ⟨13, rfl⟩
  · exact ⟨15, rfl⟩
theorem MaskG.odd {m : Nat} (h : MaskG m) : m % 2 = 1 := by
  rcases h with e | e | e | e | e | e | e <;> subst e <;> rfl
theorem lcgN_x (m : Nat) : ∀ b, lcgN m b = xN b % (m + 1)
  | 0 => (Nat.zero_mod _).symm
  | b + 1 => by
    show (lcgN m b * 5 + 1) % (m + 1) = (5 * xN b + 1) % (m + 1)
    rw [lcgN_x m b, Nat.add_mod, Nat.mul_mod, Nat.mod_mod, ← Nat.mul_mod, ← Nat.add_mod, Nat.mul_comm]
theorem gN_all {m : Nat} (hm : MaskG m) {j : Nat} (hj : j ≤ m) : ∃ b, b ≤ m ∧ lcgN m b = j := by
  obtain ⟨k, e⟩ := hm.pow
  obtain ⟨b, h1, h2⟩ := xN_all k j (by omega)
  exact ⟨b, by omega, by rw [lcgN_x, e]; exact h2⟩
theorem gN_round {m : Nat} (hm : MaskG m) : lcgN m (m + 1) = 0 := by
  obtain ⟨k, e⟩ := hm.pow
  obtain ⟨o, eo⟩ := xN_pow k
  rw [lcgN_x, e, eo, Nat.mul_mod_right]
theorem gN_mod {m : Nat} (hm : MaskG m) : ∀ k, lcgN m (m + 1 + k) = lcgN m k
  | 0 => gN_round hm
  | k + 1 => by
    show (lcgN m (m + 1 + k) * 5 + 1) % (m + 1) = (lcgN m k * 5 + 1) % (m + 1)
    rw [gN_mod hm k]
theorem gI_all {m : Nat} (hm : MaskG m) {i j : Nat} (hi : i ≤ m) (hj : j ≤ m) : ∃ k, k ≤ m ∧ lcgI m i k = j := by
  obtain ⟨a, ha, ea⟩ := gN_all hm hi
  obtain ⟨b, hb, eb⟩ := gN_all hm hj
  rw [← ea]
  by_cases c : b < a
  · exact ⟨b + (m + 1) - a, by omega, by rw [lcgN_add, show a + (b + (m + 1) - a) = m + 1 + b by omega, gN_mod hm, eb]⟩
  · exact ⟨b - a, by omega, by rw [lcgN_add, show a + (b - a) = b by omega, eb]⟩
/-- a round meets no slot twice -/
theorem gI_nodup {m : Nat} (hm : MaskG m) {i : Nat} (hi : i ≤ m) (n : Nat) (hn : n ≤ m) : ((List.range (n + 1)).map (lcgI m i)).Nodup := by
  have all : ((List.range (m + 1)).map (lcgI m i)).Nodup := by
    have p := perm_range (m + 1) ((List.range (m + 1)).map (lcgI m i)) (by rw [List.length_map, List.length_range]) fun j hj => by
      obtain ⟨k, hk, e⟩ := gI_all hm hi (Nat.le_of_lt_succ hj)
      exact List.mem_map.mpr ⟨k, List.mem_range.mpr (Nat.lt_succ_of_le hk), e⟩
    exact p.nodup_iff.mpr List.nodup_range
  have e : (List.range (n + 1)).map (lcgI m i) = ((List.range (m + 1)).map (lcgI m i)).take (n + 1) := by
    rw [← List.map_take, List.take_range, Nat.min_eq_left (by omega)]
  rw [e]
  exact List.Sublist.nodup (List.take_sublist _ _) all
theorem gI_le {m i : Nat} (hi : i ≤ m) : ∀ k, lcgI m i k ≤ m
  | 0 => hi
  | k + 1 => Nat.le_of_lt_succ (Nat.mod_lt _ (Nat.succ_pos _))
theorem runG_meets {m : Nat} (hm : MaskG m) (h : Int) {j : Nat} (hj : j ≤ m) : ∃ n, n ≤ m + 12 ∧ runI m (SetTable.bits h) n = j := by
  obtain ⟨k, hk, e⟩ := gI_all hm (runI_le m (SetTable.bits h) 12) hj
  exact ⟨12 + k, by omega, by rw [runI_tail (bits_lt h)]; exact e⟩
/-- n slots are taken: an empty one is met soon -/
theorem way_free {m : Nat} (hm : MaskG m) (h : Int) (l : List Nat) (hl : l.length ≤ m) : ∃ K, K ≤ 10 * (12 + l.length) ∧ way m h K ∉ l ∧ ∀ k, k < K → way m h k ∈ l := by
  have hi := runI_le m (SetTable.bits h) 12
  obtain ⟨k, hk, hn⟩ : ∃ k, k ≤ l.length ∧ lcgI m (runI m (SetTable.bits h) 12) k ∉ l := by
    rcases Classical.em (∃ k, k ≤ l.length ∧ lcgI m (runI m (SetTable.bits h) 12) k ∉ l) with c | c
    · exact c
    · exfalso
      have q := nat_nodup_len _ l (gI_nodup hm hi l.length hl) fun x hx => by
        obtain ⟨k, hk, rfl⟩ := List.mem_map.mp hx
        rcases Classical.em (lcgI m (runI m (SetTable.bits h) 12) k ∈ l) with y | y
        · exact y
        · exact absurd ⟨k, Nat.le_of_lt_succ (List.mem_range.mp hk), y⟩ c
      rw [List.length_map, List.length_range] at q
      omega
  obtain ⟨K0, h1, h2⟩ := run_nth m (SetTable.bits h) (12 + k)
  have h3 : way m h K0 ∉ l := by
    show (nth m (runAt m (SetTable.bits h % (m + 1)) (SetTable.bits h)) K0).j ∉ l
    rw [h2]
    show runI m (SetTable.bits h) (12 + k) ∉ l
    rw [runI_tail (bits_lt h)]
    exact hn
  obtain ⟨K, q1, q2, q3⟩ := st_least (p := fun k => way m h k ∉ l) K0 h3
  refine ⟨K, by omega, q2, fun k' hk' => ?_⟩
  rcases Classical.em (way m h k' ∈ l) with c | c
  · exact c
  · exact absurd c (q3 k' hk')
theorem wayG_le {m : Nat} {h : Int} {k : Nat} : way m h k ≤ m := by
  have hi : SetTable.bits h % (m + 1) ≤ m := Nat.le_of_lt_succ (Nat.mod_lt _ (Nat.succ_pos _))
  have r := runEnd_bd hi
  have q := nth_in (m := m) k (runAt m (SetTable.bits h % (m + 1)) (SetTable.bits h)) (by
    show SetTable.bits h % (m + 1) + (SetTable.runEnd m (SetTable.bits h % (m + 1)) - SetTable.bits h % (m + 1)) ≤ m
    omega)
  exact Nat.le_trans (Nat.le_add_right _ _) q

/-! ### the table's word -/
structure TabG (t : SetTable) (hs : List Int) : Prop where
  ris : Ris t.place.toList
  dm : t.dummies = #[]
  sz : t.place.size = hs.length
  mok : MaskG t.mask
  bd : ∀ x ∈ t.place.toList, x ≤ t.mask
  reach : ∀ (i : Nat) (h : Int) (j : Nat), hs[i]? = some h → t.place.toList[i]? = some j → ∃ k, way t.mask h k = j ∧ ∀ k', k' < k → way t.mask h k' ∈ t.place.toList
theorem TabG.first {t : SetTable} {hs : List Int} (T : TabG t hs) (hl : hs.length ≤ t.mask) (h : Int) : ∃ K, K ≤ 10 * (12 + hs.length) ∧ way t.mask h K ∉ t.place.toList ∧ ∀ k, k < K → way t.mask h k ∈ t.place.toList := by
  have e : t.place.toList.length = hs.length := by rw [Array.length_toList, T.sz]
  have := way_free T.mok h t.place.toList (by omega)
  rw [e] at this
  exact this
/-- one more, at the first empty slot of its way -/
theorem TabG.put {t : SetTable} {hs : List Int} (T : TabG t hs) {h : Int} {K : Nat} (hK : way t.mask h K ∉ t.place.toList) (hb : ∀ k, k < K → way t.mask h k ∈ t.place.toList) :
    SetTable.below t.place (way t.mask h K) ≤ hs.length ∧ TabG (t.put (way t.mask h K)).1 (hs.take (SetTable.below t.place (way t.mask h K)) ++ h :: hs.drop (SetTable.below t.place (way t.mask h K))) ∧ (t.put (way t.mask h K)).1.fill = hs.length + 1 := by
  have hjm : way t.mask h K ≤ t.mask := wayG_le
  obtain ⟨j, hj⟩ : ∃ j, j = way t.mask h K := ⟨_, rfl⟩
  rw [← hj] at hK hjm ⊢
  have c1 := (below_cut T.ris j).1
  have hl : t.place.toList.length = hs.length := by rw [Array.length_toList, T.sz]
  have hpl : SetTable.below t.place j ≤ t.place.toList.length := by rw [Array.length_toList]; exact c1
  have hph : SetTable.below t.place j ≤ hs.length := by rw [← hl]; exact hpl
  have hnp : t.place[SetTable.below t.place j]? ≠ some j := fun e => hK (List.mem_of_getElem? (by rw [Array.getElem?_toList]; exact e))
  have hpp := put_place t j
  have hsize : (t.put j).1.place.size = hs.length + 1 := by rw [← Array.length_toList, hpp, len_ins _ hpl, hl]
  have up : ∀ {x : Nat}, x ∈ t.place.toList → x ∈ (t.put j).1.place.toList := fun {x} hx => by rw [hpp]; exact mem_ins.2 (.inr hx)
  refine ⟨hph, ⟨ris_insert T.ris hnp, put_dm T.dm j, by rw [len_ins _ hph]; exact hsize, T.mok, fun x hx => ?_, fun i h' j' h1 h2 => ?_⟩, ?_⟩
  · rw [hpp] at hx
    rcases mem_ins.1 hx with z | z
    · rw [z]; exact hjm
    · exact T.bd x z
  · rw [tins_get hs hph] at h1
    rw [hpp, tins_get _ hpl] at h2
    have old : ∀ i, hs[i]? = some h' → t.place.toList[i]? = some j' → ∃ k, way t.mask h' k = j' ∧ ∀ k', k' < k → way t.mask h' k' ∈ (t.put j).1.place.toList := fun i e1 e2 => by
      obtain ⟨k, e, z⟩ := T.reach i h' j' e1 e2
      exact ⟨k, e, fun k' hk' => up (z k' hk')⟩
    by_cases c : i < SetTable.below t.place j
    · rw [if_pos c] at h1 h2
      exact old i h1 h2
    · rw [if_neg c] at h1 h2
      by_cases d : i = SetTable.below t.place j
      · rw [if_pos d] at h1 h2
        cases Option.some.inj h1
        cases Option.some.inj h2
        exact ⟨K, hj.symm, fun k' hk' => up (hb k' hk')⟩
      · rw [if_neg d] at h1 h2
        exact old _ h1 h2
  · show (t.put j).1.place.size + (t.put j).1.dummies.size = hs.length + 1
    rw [hsize, put_dm T.dm j] <;> rfl
theorem TabG.before {t : SetTable} {hs : List Int} (T : TabG t hs) {h : Int} {K i j : Nat} (hK : way t.mask h K ∉ t.place.toList) (hi : hs[i]? = some h) (hj : t.place.toList[i]? = some j) : ∃ k, k < K ∧ way t.mask h k = j := by
  obtain ⟨k, e, hb⟩ := T.reach i h j hi hj
  refine ⟨k, ?_, e⟩
  rcases Nat.lt_trichotomy k K with c | c | c
  · exact c
  · rw [← c, e] at hK
    exact absurd (List.mem_of_getElem? hj) hK
  · exact absurd (hb K c) hK

/-! ### laying all anew -/
theorem freeG_find {m : Nat} (hm : MaskG m) (owner : Array (Option Nat)) (h : Int) {j : Nat} (hj : j ≤ m) (hf : oAt owner j = none) :
    ∃ K, SetTable.layClean.free m owner (SetTable.turns m) (SetTable.bits h % (m + 1)) (SetTable.bits h) = some (way m h K) ∧ oAt owner (way m h K) = none ∧ ∀ k, k < K → oAt owner (way m h k) ≠ none := by
  obtain ⟨n, hn, e⟩ := runG_meets hm h hj
  have hw : way m h (off m (SetTable.bits h % (m + 1)) (SetTable.bits h) n) = j := by
    show (nth m (runAt m (SetTable.bits h % (m + 1)) (SetTable.bits h)) (off m (SetTable.bits h % (m + 1)) (SetTable.bits h) n)).j = j
    rw [nth_off, itL_run]
    exact e
  obtain ⟨K, k1, k2, k3⟩ := st_least (p := fun k => oAt owner (way m h k) = none) (off m (SetTable.bits h % (m + 1)) (SetTable.bits h) n) ((congrArg (oAt owner) hw).trans hf)
  refine ⟨K, free_spec m owner (SetTable.turns m) n _ _ K (by unfold SetTable.turns; omega) k1 (fun k hk => ?_) ?_, k2, k3⟩
  · have q := k3 k hk
    cases z : oAt owner (nth m (runAt m (SetTable.bits h % (m + 1)) (SetTable.bits h)) k).j with
    | none => exact absurd z q
    | some _ => rfl
  · rw [show oAt owner (nth m (runAt m (SetTable.bits h % (m + 1)) (SetTable.bits h)) K).j = none from k2] <;> rfl
theorem ownG_step {m : Nat} (hm : MaskG m) {done : List Int} {owner : Array (Option Nat)} (W : Own m done owner) (hl : done.length ≤ m) (h : Int) :
    ∃ j, SetTable.layClean.free m owner (SetTable.turns m) (SetTable.bits h % (m + 1)) (SetTable.bits h) = some j ∧ Own m (done ++ [h]) (owner.setIfInBounds j (some done.length)) := by
  obtain ⟨ps, hps, hin⟩ := W.ps
  obtain ⟨j0, h0, hn0⟩ := st_missing ps (m + 1) (by omega)
  have hj0 : oAt owner j0 = none := by
    cases z : oAt owner j0 with
    | none => rfl
    | some k => exact absurd (hin j0 (Nat.le_of_lt_succ h0) (by rw [z]; exact fun e => nomatch e)) hn0
  obtain ⟨K, e1, e2, e3⟩ := freeG_find hm owner h (Nat.le_of_lt_succ h0) hj0
  have hjm : way m h K ≤ m := wayG_le
  have hself := oAt_set_self (some done.length) (show way m h K < owner.size by rw [W.sz]; exact Nat.lt_succ_of_le hjm)
  have mono : ∀ {i : Nat}, oAt owner i ≠ none → oAt (owner.setIfInBounds (way m h K) (some done.length)) i ≠ none := fun {i} hi => by
    by_cases c : i = way m h K
    · rw [c, hself]; exact fun e => nomatch e
    · rw [oAt_set_ne _ c]; exact hi
  refine ⟨way m h K, e1, by rw [Array.size_setIfInBounds]; exact W.sz, fun j k hj e => ?_, fun k hk => ?_, way m h K :: ps, by rw [List.length_cons, List.length_append, hps] <;> rfl, fun j hj e => ?_⟩
  · by_cases c : j = way m h K
    · rw [c, hself] at e
      refine ⟨h, K, ?_, c.symm, fun k' hk' => mono (e3 k' hk')⟩
      rw [← Option.some.inj e, List.getElem?_append_right (Nat.le_refl _), Nat.sub_self] <;> rfl
    · rw [oAt_set_ne _ c] at e
      obtain ⟨h', K', a1, a2, a3⟩ := W.at_ j k hj e
      exact ⟨h', K', by rw [List.getElem?_append_left (List.getElem?_eq_some_iff.mp a1).1]; exact a1, a2, fun k' hk' => mono (a3 k' hk')⟩
  · rw [List.length_append, List.length_singleton] at hk
    by_cases c : k < done.length
    · obtain ⟨j, hj, e⟩ := W.all k c
      exact ⟨j, hj, by rw [oAt_set_ne _ (fun z => by rw [z, e2] at e; cases e)]; exact e⟩
    · rw [show k = done.length by omega]
      exact ⟨way m h K, hjm, hself⟩
  · by_cases c : j = way m h K
    · rw [c]; exact List.mem_cons_self
    · rw [oAt_set_ne _ c] at e
      exact List.mem_cons_of_mem _ (hin j hj e)
theorem foldG_ok {m : Nat} (hm : MaskG m) : ∀ (rest done : List Int) (owner : Array (Option Nat)), Own m done owner → done.length + rest.length ≤ m →
    ∃ owner', rest.foldl (stepF m) (some (owner, done.length)) = some (owner', (done ++ rest).length) ∧ Own m (done ++ rest) owner'
  | [], done, owner, W, _ => ⟨owner, by rw [List.append_nil] <;> rfl, by rw [List.append_nil]; exact W⟩
  | h :: rest, done, owner, W, hl => by
    rw [List.length_cons] at hl
    obtain ⟨j, e, W'⟩ := ownG_step hm W (by omega) h
    have hl' : (done ++ [h]).length = done.length + 1 := by rw [List.length_append] <;> rfl
    obtain ⟨owner', f, W2⟩ := foldG_ok hm rest (done ++ [h]) _ W' (by rw [hl']; omega)
    rw [List.append_assoc] at f W2
    rw [hl'] at f
    refine ⟨owner', ?_, W2⟩
    rw [List.foldl_cons, stepF_some e]
    exact f
theorem layG_ok {m : Nat} (hm : MaskG m) {hs : Array Int} (hn : hs.size ≤ m) : ∃ owner, SetTable.layClean m hs = some owner ∧ Own m hs.toList owner := by
  obtain ⟨owner, f, W⟩ := foldG_ok hm hs.toList [] _ (Own.init m) (by rw [Array.length_toList]; show 0 + hs.size ≤ m; omega)
  refine ⟨owner, ?_, W⟩
  rw [layClean_eq, show hs.toList.foldl (stepF m) (some (Array.replicate (m + 1) none, 0)) = some (owner, ([] ++ hs.toList).length) from f] <;> rfl
theorem relaidG_ok (t : SetTable) {hs : Array Int} {wanted M : Nat} (hw : SetTable.sizeAbove wanted - 1 = M) (hM : MaskG M) (hn : hs.size ≤ M) :
    ∃ t' order, t.relaid hs wanted = some (t', order) ∧ order.toList.Perm (List.range hs.size) ∧ TabG t' (order.toList.map fun i => hs.getD i 0) ∧ t'.mask = M ∧ t'.led = t.led ∧ t'.plain = t.plain := by
  obtain ⟨owner, e, W⟩ := layG_ok hM hn
  have hr : t.relaid hs wanted = some (tabOf t M owner, ((liveOf M owner).map (·.2)).toArray) := by rw [relaid_eq, hw, e] <;> rfl
  have ris := ris_live (fun j => owner.getD j none) (List.range (M + 1)) (by
    unfold Ris
    first | exact List.pairwise_lt_range | exact List.pairwise_lt_range _)
  have r1 : Ris ((liveOf M owner).map (·.1)) := ris.1
  have r2 : ∀ x ∈ (liveOf M owner).map (·.1), x ∈ List.range (M + 1) := ris.2
  have nd : ((liveOf M owner).map (·.1)).Nodup := List.Pairwise.imp (fun h => Nat.ne_of_lt h) r1
  have hlen : (liveOf M owner).length = hs.size := by
    obtain ⟨ps, p1, p2⟩ := W.ps
    have a := nat_nodup_len ((liveOf M owner).map (·.1)) ps nd fun x hx => by
      obtain ⟨⟨y, k⟩, hq, rfl⟩ := List.mem_map.mp hx
      obtain ⟨b1, b2⟩ := (mem_live W.sz).1 hq
      exact p2 y b1 (by rw [b2]; exact fun z => nomatch z)
    have b := nat_nodup_len (List.range hs.size) ((liveOf M owner).map (·.2)) List.nodup_range fun k hk => by
      obtain ⟨j, b1, b2⟩ := W.all k (by rw [Array.length_toList]; exact List.mem_range.mp hk)
      exact List.mem_map.mpr ⟨(j, k), (mem_live W.sz).2 ⟨b1, b2⟩, rfl⟩
    rw [List.length_map, p1] at a
    rw [List.length_map, List.length_range] at b
    have hz : hs.toList.length = hs.size := rfl
    omega
  refine ⟨tabOf t M owner, ((liveOf M owner).map (·.2)).toArray, hr, ?_, ⟨r1, rfl, ?_, hM, fun x hx => Nat.le_of_lt_succ (List.mem_range.mp (r2 x hx)), fun i h j h1 h2 => ?_⟩, rfl, rfl, rfl⟩
  · refine perm_range hs.size _ (by show ((liveOf M owner).map (·.2)).length = hs.size; rw [List.length_map]; exact hlen) fun k hk => ?_
    obtain ⟨j, b1, b2⟩ := W.all k (by rw [Array.length_toList]; exact hk)
    exact List.mem_map.mpr ⟨(j, k), (mem_live W.sz).2 ⟨b1, b2⟩, rfl⟩
  · show ((liveOf M owner).map (·.1)).toArray.size = (((liveOf M owner).map (·.2)).map fun i => hs.getD i 0).length
    rw [List.size_toArray, List.length_map, List.length_map, List.length_map]
  · have h1' : (((liveOf M owner).map (·.2)).map fun i => hs.getD i 0)[i]? = some h := h1
    have h2' : ((liveOf M owner).map (·.1))[i]? = some j := h2
    rw [List.getElem?_map, List.getElem?_map] at h1'
    rw [List.getElem?_map] at h2'
    cases hq : (liveOf M owner)[i]? with
    | none => rw [hq] at h2'; cases h2'
    | some q =>
      obtain ⟨y, k⟩ := q
      rw [hq] at h1' h2'
      cases Option.some.inj h2'
      obtain ⟨b1, b2⟩ := (mem_live W.sz).1 (List.mem_of_getElem? hq)
      obtain ⟨h0, K, a1, a2, a3⟩ := W.at_ y k b1 b2
      have e0 : hs.getD k 0 = h0 := by rw [Array.getD_eq_getD_getElem?, ← Array.getElem?_toList, a1] <;> rfl
      cases e0.symm.trans (Option.some.inj h1')
      refine ⟨K, a2, fun k' hk' => ?_⟩
      show way M h k' ∈ (liveOf M owner).map (·.1)
      cases z : oAt owner (way M h k') with
      | none => exact absurd z (a3 k' hk')
      | some k2 => exact List.mem_map.mpr ⟨(way M h k', k2), (mem_live W.sz).2 ⟨wayG_le, z⟩, rfl⟩
theorem grow5 : SetTable.sizeAbove (SetTable.grown 5) = 32 := by decide +kernel
theorem grow19 : SetTable.sizeAbove (SetTable.grown 19) = 128 := by decide +kernel
theorem grow77 : SetTable.sizeAbove (SetTable.grown 77) = 512 := by decide +kernel
theorem grow307 : SetTable.sizeAbove (SetTable.grown 307) = 2048 := by decide +kernel
theorem grow1229 : SetTable.sizeAbove (SetTable.grown 1229) = 8192 := by decide +kernel
theorem grow4915 : SetTable.sizeAbove (SetTable.grown 4915) = 32768 := by decide +kernel
end Wv
end WyA_part
section WyB_part
set_option Elab.async false
set_option linter.all false
set_option maxRecDepth 100000
set_option maxHeartbeats 1000000
/-! WyB: sets of nested tuples of ints: one more is put in. -/
namespace Wv
open PySem L2 PySem.Spec
open PyProof.Rows

mutual
/-- whole numbers, and tuples of such -/
def numK : NestedKey → Bool
  | .num _ => true
  | .tup ks => numKs ks
  | _ => false
def numKs : List NestedKey → Bool
  | [] => true
  | k :: ks => numK k && numKs ks
end
abbrev IsN (P : Program) (w : World) (h : Heap) (k : NestedKey) (a : Addr) : Prop := (nestedKind P w).is h k a ∧ numK k = true
section
variable {P : Program} {w : World} {A : Around} {E : Value → Shared → Prop} {s : Shared}
mutual
theorem ofAClass_key : ∀ (k : NestedKey) (v : Value) (n : Nat) (A : Around) (s : Shared) (Q : Bool → Shared → Prop), NestedIs s.heap k v → k.depth ≤ n → Q false s → wpAny (model P w) A (ofAClassStatement n v) Q E s
  | .none, _, n, A, s, Q, x, _, h => by
    cases x
    cases n <;> exact wpAny_pure h
  | .num i, _, n, A, s, Q, x, _, h => by
    cases x <;> cases n <;> exact wpAny_pure h
  | .text y, _, n, A, s, Q, x, _, h => by
    cases x
    cases n <;> exact wpAny_pure h
  | .tup ks, _, n, A, s, Q, x, hn, h => by
    cases x with
    | @tup a o vs m _ hg hc hd hk =>
      simp only [NestedKey.depth] at hn
      cases n with
      | zero => omega
      | succ n =>
        have hT : s.TypeIs (.ref a) "tuple" := ⟨o, hg, hc⟩
        unfold ofAClassStatement
        refine wpAny_bind (wpAny_typeOf hT ?_)
        dsimp only
        have e : (("tuple" : String) == "tuple") = true := by decide
        simp only [e, if_true, Bool.not_true, Bool.false_eq_true, if_false]
        try refine wpAny_bind (wpAny_pure ?_)
        try simp only [Bool.not_true, Bool.false_eq_true, if_false]
        show wpAny _ _ (seqItems? (.ref a) >>= _) _ _ s
        refine wpAny_bind (wpAny_seqItems hg hd ?_)
        dsimp only
        refine wpAny_bind ?_
        show wpAny _ _ (forIn vs _ _) _ _ s
        rw [← Array.forIn_toList]
        have all := ofAClass_keys ks vs.toList n A s hk (by omega)
        refine wpAny_forIn_list _ (fun rest r s' => r.1 = none ∧ s' = s ∧ ∀ v ∈ rest, v ∈ vs.toList) _ ?_ ?_ _ _ ⟨rfl, rfl, fun v hv => hv⟩
        · rintro v rest r s' ⟨hr, rfl, hall⟩
          refine wpAny_bind (all v (hall v List.mem_cons_self) _ ?_)
          simp only [Bool.false_eq_true, if_false]
          exact wpAny_pure ⟨rfl, rfl, fun u hu' => hall u (List.mem_cons_of_mem _ hu')⟩
        · rintro ⟨r1, r2⟩ s' ⟨hr, rfl, _⟩
          simp only at hr
          subst hr
          exact wpAny_pure h
theorem ofAClass_keys : ∀ (ks : List NestedKey) (vs : List Value) (n : Nat) (A : Around) (s : Shared), NestedAll s.heap ks vs → NestedKey.depthAll ks ≤ n → ∀ v ∈ vs, ∀ Q : Bool → Shared → Prop, Q false s → wpAny (model P w) A (ofAClassStatement n v) Q E s
  | [], _, n, A, s, x, _, v, hv => by cases x; cases hv
  | k :: ks, _, n, A, s, x, hn, v, hv => by
    cases x with
    | cons x1 x2 =>
      simp only [NestedKey.depthAll] at hn
      intro Q h
      rcases List.mem_cons.mp hv with e | hv
      · rw [e]; exact ofAClass_key k _ n A s Q x1 (by omega) h
      · exact ofAClass_keys ks _ n A s x2 (by omega) v hv Q h
end
mutual
theorem hashBy_key : ∀ (k : NestedKey) (v : Value) (n : Nat) (A : Around) (s : Shared) (Q : Bool → Shared → Prop), NestedIs s.heap k v → numK k = true → k.depth ≤ n → Q true s → wpAny (model P w) A (hashByValue n v) Q E s
  | .none, _, n, A, s, Q, x, hz, _, h => by simp [numK] at hz
  | .text y, _, n, A, s, Q, x, hz, _, h => by simp [numK] at hz
  | .num i, _, n, A, s, Q, x, _, _, h => by
    cases x <;> cases n <;> exact wpAny_pure h
  | .tup ks, _, n, A, s, Q, x, hz, hn, h => by
    cases x with
    | @tup a o vs m _ hg hc hd hk =>
      simp only [NestedKey.depth] at hn
      simp only [numK] at hz
      cases n with
      | zero => omega
      | succ n =>
        have hT : s.TypeIs (.ref a) "tuple" := ⟨o, hg, hc⟩
        unfold hashByValue
        refine wpAny_bind (wpAny_specialOf hT F.slot_tuple_hash.lookup ?_)
        show wpAny _ _ (seqItems? (.ref a) >>= _) _ _ s
        refine wpAny_bind (wpAny_seqItems hg hd ?_)
        refine wpAny_bind ?_
        show wpAny _ _ (forIn vs _ _) _ _ s
        rw [← Array.forIn_toList]
        have all := hashBy_keys ks vs.toList n A s hk hz (by omega)
        refine wpAny_forIn_list _ (fun rest r s' => r.1 = none ∧ s' = s ∧ ∀ v ∈ rest, v ∈ vs.toList) _ ?_ ?_ _ _ ⟨rfl, rfl, fun v hv => hv⟩
        · rintro v rest r s' ⟨hr, rfl, hall⟩
          refine wpAny_bind (all v (hall v List.mem_cons_self) _ ?_)
          simp only [Bool.not_true, Bool.false_eq_true, if_false]
          exact wpAny_pure ⟨rfl, rfl, fun u hu' => hall u (List.mem_cons_of_mem _ hu')⟩
        · rintro ⟨r1, r2⟩ s' ⟨hr, rfl, _⟩
          simp only at hr
          subst hr
          exact wpAny_pure h
theorem hashBy_keys : ∀ (ks : List NestedKey) (vs : List Value) (n : Nat) (A : Around) (s : Shared), NestedAll s.heap ks vs → numKs ks = true → NestedKey.depthAll ks ≤ n → ∀ v ∈ vs, ∀ Q : Bool → Shared → Prop, Q true s → wpAny (model P w) A (hashByValue n v) Q E s
  | [], _, n, A, s, x, _, _, v, hv => by cases x; cases hv
  | k :: ks, _, n, A, s, x, hz, hn, v, hv => by
    cases x with
    | cons x1 x2 =>
      simp only [NestedKey.depthAll] at hn
      simp only [numKs, Bool.and_eq_true] at hz
      intro Q h
      rcases List.mem_cons.mp hv with e | hv
      · rw [e]; exact hashBy_key k _ n A s Q x1 hz.1 (by omega) h
      · exact hashBy_keys ks _ n A s x2 hz.2 (by omega) v hv Q h
end
/-- a search among such keys shows nothing -/
theorem seen_key {k : NestedKey} {b : Addr} {Q : Bool → Shared → Prop} (hk : IsN P w s.heap k b) {ys : List Value} (hy : ∀ y ∈ ys, ∃ k' c, y = Value.ref c ∧ IsN P w s.heap k' c) (h : Q false s) :
    wpAny (model P w) A (searchCouldBeSeen (.ref b) ys) Q E s := by
  unfold searchCouldBeSeen
  refine wpAny_bind ?_
  refine wpAny_forIn_list _ (fun rest r s' => r.1 = none ∧ s' = s ∧ ∀ y ∈ rest, ∃ k' c, y = Value.ref c ∧ IsN P w s.heap k' c) _ ?_ ?_ _ _ ⟨rfl, rfl, hy⟩
  · rintro v rest r s' ⟨hr, rfl, hall⟩
    obtain ⟨k', c, rfl, hc⟩ := hall v List.mem_cons_self
    have rest' : ∀ y ∈ rest, ∃ k' c, y = Value.ref c ∧ IsN P w s'.heap k' c := fun u hu' => hall u (List.mem_cons_of_mem _ hu')
    dsimp only
    by_cases hv : (b == c || (carriedByValue (.ref b) && carriedByValue (.ref c))) = true
    · refine wp_if_pos hv ?_
      exact wpAny_pure ⟨rfl, rfl, rest'⟩
    · refine wp_if_neg hv ?_
      refine wpAny_bind ((nestedKind P w).quiet hk.1 ?_)
      simp only [Bool.not_true, Bool.false_eq_true, if_false]
      refine wpAny_bind ((nestedKind P w).quiet hc.1 ?_)
      simp only [Bool.not_true, Bool.false_eq_true, if_false]
      refine wpAny_bind (ofAClass_key k _ 8 A s' _ hk.1.1 hk.1.2 ?_)
      simp only [Bool.false_eq_true, if_false]
      refine wpAny_bind (ofAClass_key k' _ 8 A s' _ hc.1.1 hc.1.2 ?_)
      simp only [Bool.false_eq_true, if_false]
      exact wpAny_pure ⟨rfl, rfl, rest'⟩
  · rintro ⟨r1, r2⟩ s' ⟨hr, rfl, _⟩
    simp only at hr
    subst hr
    exact wpAny_pure h

/-! ### the set -/
abbrev hN (w : World) (p : Addr × NestedKey) : Int := p.2.hash w
def rowsN (w : World) (L : List (Addr × NestedKey)) : List (Int × Value) := L.map fun p => (hN w p, Value.ref p.1)
theorem rowsN_put (L : List (Addr × NestedKey)) (p : Nat) (x : Addr × NestedKey) : rowsN w (L.take p ++ x :: L.drop p) = (rowsN w L).take p ++ (hN w x, Value.ref x.1) :: (rowsN w L).drop p := by
  unfold rowsN
  rw [List.map_append, List.map_cons, List.map_take, List.map_drop]
structure SetN (P : Program) (w : World) (h : Heap) (a : Addr) (L : List (Addr × NestedKey)) (es : Array (Int × Value)) (ep : Nat) (t : SetTable) : Prop where
  ob : ∃ o, h.get? a = some o ∧ o.ExactSet ∧ o.data = .set es ep t
  rows : es.toList = rowsN w L
  tab : TabG t (L.map (hN w))
  nd : (L.map (·.2)).Nodup
  key : ∀ p ∈ L, IsN P w h p.2 p.1
  plain : t.plain = true
  led : w.params.followText "set-order" = true ∨ t.led = true
  room : L.length * 5 < t.mask * 3
  few : L.length ≤ 8000
variable {a : Addr} {L : List (Addr × NestedKey)} {es : Array (Int × Value)} {ep : Nat} {t : SetTable}
theorem rowsN_len (h : es.toList = rowsN w L) : es.size = L.length := by
  have h := congrArg List.length h
  unfold rowsN at h
  rw [Array.length_toList, List.length_map] at h
  exact h
theorem SetN.fits (R : SetN P w s.heap a L es ep t) : t.fits es.size = true := by
  have h1 := R.tab.sz
  rw [List.length_map] at h1
  have h2 := rowsN_len R.rows
  have h3 := R.room
  unfold SetTable.fits SetTable.fill
  rw [R.tab.dm, Bool.and_eq_true, beq_iff_eq, decide_eq_true_eq]
  show t.place.size = es.size ∧ t.place.size + 0 ≤ t.mask
  omega
theorem rowsN_at (hr : es.toList = rowsN w L) {i : Nat} {p : Addr × NestedKey} (h : L[i]? = some p) : es[i]? = some (hN w p, Value.ref p.1) := by
  rw [← Array.getElem?_toList, hr]
  unfold rowsN
  rw [List.getElem?_map, h] <;> rfl
theorem SetN.gw (R : SetN P w s.heap a L es ep t) : ¬ t.gaveWay = true := by
  unfold SetTable.gaveWay
  rw [R.tab.mok.odd]
  decide
/-- the search for what isn't there -/
theorem searchN (R : SetN P w s.heap a L es ep t) {x : Addr} {k : NestedKey} (hx : IsN P w s.heap k x) (hu : A.units + 8 < cLine) (hn : k ∉ L.map (·.2)) {K : Nat} (hKf : K < 10 * SetTable.turns t.mask)
    (hK : way t.mask (k.hash w) K ∉ t.place.toList) (hKb : ∀ c, c < K → way t.mask (k.hash w) c ∈ t.place.toList) {Q : SetFound → Shared → Prop} (hQ : Q (.free (way t.mask (k.hash w) K) false) s) :
    ∀ (f c : Nat) (stand : Option SetTable.Probe), stand.getD (t.probeStart (k.hash w)) = nth t.mask (runAt t.mask (SetTable.bits (k.hash w) % (t.mask + 1)) (SetTable.bits (k.hash w))) c → c ≤ K → K - c < f →
      wpAny (model P w) A (setSearchFrom a (.ref x) (k.hash w) true f stand) Q E s := by
  obtain ⟨o, ho, hex, hd⟩ := R.ob
  intro f
  induction f with
  | zero => intro c stand _ _ hf; exact absurd hf (Nat.not_lt_zero _)
  | succ f ih =>
    intro c stand hst hc hf
    rw [setSearchFrom_succ]
    refine wpAny_bind (wpAny_setState_of ho hd R.fits ?_)
    dsimp only
    refine wp_if_neg R.gw ?_
    try refine wpAny_bind (wpAny_pure ?_)
    have nodummy : ∀ (n : Nat) (p : SetTable.Probe), p.dummy = none → (nth t.mask p n).dummy = none := by
      intro n
      induction n with
      | zero => intro p h; exact h
      | succ n ih =>
        intro p h
        refine ih (adv t.mask p) ?_
        unfold adv
        split <;> exact h
    have sh : ∀ q, nth t.mask (nth t.mask (runAt t.mask (SetTable.bits (k.hash w) % (t.mask + 1)) (SetTable.bits (k.hash w))) c) q = nth t.mask (runAt t.mask (SetTable.bits (k.hash w) % (t.mask + 1)) (SetTable.bits (k.hash w))) (c + q) := fun q => (nth_add t.mask c _ q).symm
    have e1 : ∀ q, (nth t.mask (nth t.mask (runAt t.mask (SetTable.bits (k.hash w) % (t.mask + 1)) (SetTable.bits (k.hash w))) c) q).j = way t.mask (k.hash w) (c + q) := fun q => congrArg SetTable.Probe.j (sh q)
    have spec := go_spec t R.tab.ris R.tab.dm (fun i => (es[i]?.map (·.1)).getD 0) (k.hash w) (10 * SetTable.turns t.mask) (K - c) _ (nodummy c (runAt t.mask (SetTable.bits (k.hash w) % (t.mask + 1)) (SetTable.bits (k.hash w))) rfl) (by omega)
      (fun q hq => by rw [e1]; exact hKb (c + q) (by omega)) (by rw [e1, show c + (K - c) = K by omega]; exact hK)
    rcases spec with ⟨q, i, hq, hi, hh, hno, hpr⟩ | ⟨hno, hpr⟩
    · have hpr' : t.probe (fun i => (es[i]?.map (·.1)).getD 0) (k.hash w) (stand.getD (t.probeStart (k.hash w))) = some (.candidate (way t.mask (k.hash w) (c + q)) i (nth t.mask (runAt t.mask (SetTable.bits (k.hash w) % (t.mask + 1)) (SetTable.bits (k.hash w))) (c + (q + 1)))) := by
        rw [hst, ← e1, ← sh]
        exact hpr
      rw [hpr']
      dsimp only
      rw [e1] at hi
      have hil : i < L.length := by
        have h1 := (List.getElem?_eq_some_iff.mp hi).1
        have h2 := R.tab.sz
        rw [List.length_map] at h2
        rw [Array.length_toList] at h1
        omega
      obtain ⟨p, hp⟩ : ∃ p, L[i]? = some p := ⟨_, List.getElem?_eq_getElem hil⟩
      have hmem : p ∈ L := List.mem_of_getElem? hp
      have hkk : p.2 ≠ k := fun e => hn (List.mem_map.mpr ⟨p, hmem, e⟩)
      have rest : wpAny (model P w) A (searchRest a (.ref x) (k.hash w) true f es t (way t.mask (k.hash w) (c + q)) i (nth t.mask (runAt t.mask (SetTable.bits (k.hash w) % (t.mask + 1)) (SetTable.bits (k.hash w))) (c + (q + 1)))) Q E s := by
        unfold searchRest
        rw [rowsN_at R.rows hp]
        dsimp only
        refine wpAny_bind (wpAny_holding ((nestedKind P w).eqBool hu (R.key p hmem).1 hx.1 ?_))
        refine wpAny_bind (wpAny_setState_of ho hd R.fits ?_)
        dsimp only
        refine wp_if_neg (by simp [hkk]) ?_
        try refine wpAny_bind (wpAny_pure ?_)
        rw [sameMem]
        dsimp only
        have hsl : t.slot (way t.mask (k.hash w) (c + q)) = .live i := slot_live R.tab.ris hi
        simp only [if_true, hsl, rowsN_at R.rows hp]
        refine wpAny_bind (wpAny_isSame_ref_self (wpAny_bind (wpAny_pure ?_)))
        simp only [if_true]
        refine wp_if_neg (by simp [hkk]) ?_
        exact ih (c + (q + 1)) _ rfl (by omega) (by omega)
      by_cases hl : t.led = true
      · refine wp_if_neg (by simp [hl]) ?_
        try refine wpAny_bind (wpAny_pure ?_)
        exact rest
      · refine wp_if_pos (by simp [hl]) ?_
        refine wpAny_bind (seen_key hx (fun y hy => ?_) ?_)
        · obtain ⟨e, he, ee⟩ := List.mem_map.mp hy
          have he1 : e ∈ es ∧ e.1 = k.hash w := by simpa using he
          have he2 : e ∈ es.toList := by simpa using he1.1
          rw [R.rows] at he2
          obtain ⟨p2, hp2, e2⟩ := List.mem_map.mp he2
          refine ⟨p2.2, p2.1, ?_, R.key p2 hp2⟩
          rw [← ee, ← e2]
        · refine wp_if_neg (by decide) ?_
          try refine wpAny_bind (wpAny_pure ?_)
          exact rest
    · have hpr' : t.probe (fun i => (es[i]?.map (·.1)).getD 0) (k.hash w) (stand.getD (t.probeStart (k.hash w))) = some (.empty (way t.mask (k.hash w) K) none) := by
        have e2 : way t.mask (k.hash w) K = (nth t.mask (nth t.mask (runAt t.mask (SetTable.bits (k.hash w) % (t.mask + 1)) (SetTable.bits (k.hash w))) c) (K - c)).j := by rw [e1, show c + (K - c) = K by omega]
        rw [hst, e2]
        exact hpr
      rw [hpr']
      dsimp only
      exact wpAny_pure hQ
theorem searchN_at (R : SetN P w s.heap a L es ep t) {x : Addr} {k : NestedKey} (hx : IsN P w s.heap k x) (hu : A.units + 8 < cLine) (hn : k ∉ L.map (·.2)) {Q : SetFound → Shared → Prop}
    (hQ : ∀ K, way t.mask (k.hash w) K ∉ t.place.toList → (∀ c, c < K → way t.mask (k.hash w) c ∈ t.place.toList) → Q (.free (way t.mask (k.hash w) K) false) s) : wpAny (model P w) A (setSearch a (.ref x) (k.hash w) true) Q E s := by
  have hroom := R.room
  have hfew := R.few
  obtain ⟨K, hKl, hK, hKb⟩ := R.tab.first (by rw [List.length_map]; omega) (k.hash w)
  rw [List.length_map] at hKl
  unfold setSearch
  exact searchN R hx hu hn (by unfold SetTable.turns; omega) hK hKb (hQ K hK hKb) 100000 0 none rfl (Nat.zero_le _) (by omega)
/-- a key isn't the set -/
theorem isN_same {h h' : Heap} {k : NestedKey} {b : Addr} {o : Obj} (hb : IsN P w h k b) (ho : h.get? a = some o) (hd : o.data = .set es ep t) (hs : Heap.SameBut a h h') : IsN P w h' k b :=
  ⟨⟨NestedIs.at (fun c oc vs n e1 e2 => (hs.2 c (fun z => by
    rw [z, ho] at e1
    cases e1
    rw [hd] at e2
    cases e2)).trans e1) k _ hb.1.1, hb.1.2⟩, hb.2⟩
theorem orderN_rows (order : Array Nat) (hr : es.toList = rowsN w L) (hp : order.toList.Perm (List.range L.length)) :
    ∃ L2, (order.filterMap (es[·]?)).toList = rowsN w L2 ∧ L2.Perm L ∧ L2.map (hN w) = order.toList.map fun i => (es.map (·.1)).getD i 0 := by
  have hsz := rowsN_len hr
  have key : ∀ l : List Nat, (∀ i ∈ l, i < L.length) → l.filterMap (fun i => es[i]?) = rowsN w (l.filterMap fun i => L[i]?) ∧ (l.filterMap fun i => L[i]?).map (hN w) = l.map fun i => (es.map (·.1)).getD i 0 := by
    intro l
    induction l with
    | nil => intro _; exact ⟨rfl, rfl⟩
    | cons i l ih =>
      intro hl
      have hi := hl i List.mem_cons_self
      have hli := List.getElem?_eq_getElem hi
      have hei := rowsN_at hr hli
      obtain ⟨e1, e3⟩ := ih fun j hj => hl j (List.mem_cons_of_mem _ hj)
      rw [List.filterMap_cons_some hei, e1, List.filterMap_cons_some hli, List.map_cons, List.map_cons, e3]
      refine ⟨rfl, ?_⟩
      congr 1
      have e5 : (es.map (·.1))[i]? = some (hN w L[i]) := by rw [Array.getElem?_map, hei] <;> rfl
      simp [Array.getD_eq_getD_getElem?, e5]
  obtain ⟨e1, e3⟩ := key order.toList fun i hi => List.mem_range.mp (hp.mem_iff.mp hi)
  refine ⟨_, by first | (rw [Array.toList_filterMap]; exact e1) | simpa using e1, ?_, e3⟩
  have h2 : (List.range L.length).filterMap (fun i => L[i]?) = L := by
    have key2 : ∀ n, n ≤ L.length → (List.range n).filterMap (fun i => L[i]?) = L.take n := by
      intro n
      induction n with
      | zero => intro _; rfl
      | succ n ih =>
        intro hn
        rw [List.range_succ, List.filterMap_append, ih (Nat.le_of_lt hn), List.take_succ, List.getElem?_eq_getElem hn, List.filterMap_cons_some (List.getElem?_eq_getElem hn)] <;> rfl
    rw [key2 L.length (Nat.le_refl _), List.take_length]
  have h1 := hp.filterMap fun i => L[i]?
  rw [h2] at h1
  exact h1
/-- the table laid anew, larger -/
theorem relayN {o : Obj} (ho : s.heap.get? a = some o) (hex : o.ExactSet) (hd : o.data = .set es ep t) (hrows : es.toList = rowsN w L) (hsz : t.place.size = es.size) (hdm : t.dummies = #[]) (hfl : es.size ≤ t.mask)
    (nd : (L.map (·.2)).Nodup) (key : ∀ p ∈ L, IsN P w s.heap p.2 p.1) (pl : t.plain = true) (ld : w.params.followText "set-order" = true ∨ t.led = true) (few : L.length ≤ 8000) {wanted M : Nat}
    (hw : SetTable.sizeAbove wanted = M + 1) (hM : MaskG M) (hn : L.length * 5 < M * 3) {Q : Unit → Shared → Prop}
    (hQ : ∀ h' L' es' ep' t', Heap.SameBut a s.heap h' → SetN P w h' a L' es' ep' t' → L'.Perm L → Q () { s with heap := h' }) : wpAny (model P w) A (setRelay a wanted) Q E s := by
  have hsl := rowsN_len hrows
  have hM2 : M + 1 ≤ 32768 := by rcases hM with e | e | e | e | e | e | e <;> omega
  have hfits : t.fits es.size = true := by
    unfold SetTable.fits SetTable.fill
    rw [hdm, Bool.and_eq_true, beq_iff_eq, decide_eq_true_eq]
    show t.place.size = es.size ∧ t.place.size + 0 ≤ t.mask
    omega
  obtain ⟨t', order, e, hp, T, em, el, ep'⟩ := relaidG_ok t (hs := es.map (·.1)) (wanted := wanted) (M := M) (by rw [hw]; rfl) hM (by rw [Array.size_map, hsl]; omega)
  rw [Array.size_map, hsl] at hp
  obtain ⟨L2, r1, r2, r3⟩ := orderN_rows order hrows hp
  rw [← r3] at T
  have hs2 : (order.filterMap (es[·]?)).size = es.size := by rw [rowsN_len r1, r2.length_eq, hsl]
  rw [setRelay_eq]
  refine wpAny_bind (wpAny_setState_of ho hd hfits ?_)
  dsimp only
  refine wp_if_neg (by rw [sizeLine_eq]; omega) ?_
  try refine wpAny_bind (wpAny_pure ?_)
  rw [e]
  dsimp only
  refine wpAny_bind ?_
  refine wp_if_neg (by rw [hs2]; simp) ?_
  try refine wpAny_bind (wpAny_pure ?_)
  refine wpAny_pure ?_
  dsimp only
  refine wpAny_storeSet_of ho hd ?_ (by rw [hs2, hsl, sizeLine_eq]; omega)
  have sb : Heap.SameBut a s.heap (s.heap.update a (Obj.putSet (order.filterMap (es[·]?)) t')) := Heap.SameBut.update ..
  exact hQ _ L2 (order.filterMap (es[·]?)) (ep + 1) t' sb ⟨⟨_, store_at ho hd, ⟨hex.1, hex.2.1, hex.2.2⟩, rfl⟩, r1, T, (r2.map (·.2)).nodup_iff.mpr nd, fun p hpm => isN_same (key p (r2.mem_iff.mp hpm)) ho hd sb, by rw [ep']; exact pl, by rw [el]; exact ld, by rw [r2.length_eq, em]; exact hn, by rw [r2.length_eq]; exact few⟩ r2
/-- one more, that isn't there yet -/
theorem addN (R : SetN P w s.heap a L es ep t) {x : Addr} {k : NestedKey} (hx : IsN P w s.heap k x) (hu : A.units + 8 < cLine) (hm : k ∉ L.map (·.2)) (hfew : L.length + 1 ≤ 8000) {Q : Bool → Shared → Prop}
    (hQ : ∀ b h' L' es' ep' t', Heap.SameBut a s.heap h' → SetN P w h' a L' es' ep' t' → L'.Perm ((x, k) :: L) → Q b { s with heap := h' }) :
    wpAny (model P w) A (setAddHashed a (.ref x) (k.hash w)) Q E s := by
  obtain ⟨o, ho, hex, hd⟩ := R.ob
  have hsl := rowsN_len R.rows
  have hroom := R.room
  unfold setAddHashed
  refine wpAny_holding ?_
  rw [show (100000 : Nat) = 99999 + 1 from rfl, setAddHashedIn_succ]
  refine wpAny_bind (wpAny_setState_of ho hd R.fits ?_)
  dsimp only
  refine wp_if_neg (by simp [byScan, Value.scannable]) ?_
  try refine wpAny_bind (wpAny_pure ?_)
  refine wpAny_bind (searchN_at R hx hu hm fun K hK hb => ?_)
  dsimp only
  refine wpAny_bind (wpAny_setState_of ho hd R.fits ?_)
  dsimp only
  obtain ⟨q2, q3, q9⟩ := R.tab.put hK hb
  have q1 : (t.put (way t.mask (k.hash w) K)).2 = SetTable.below t.place (way t.mask (k.hash w) K) := rfl
  have q4 : (t.put (way t.mask (k.hash w) K)).1.mask = t.mask := rfl
  have q5 : (t.put (way t.mask (k.hash w) K)).1.led = t.led := rfl
  have hp1 : (t.put (way t.mask (k.hash w) K)).1.plain = true := R.plain
  generalize hpt : t.put (way t.mask (k.hash w) K) = pt at q1 q3 q4 q5 q9 hp1 ⊢
  obtain ⟨t1, p⟩ := pt
  dsimp only at q1 q3 q4 q5 q9 hp1 ⊢
  subst q1
  first
    | (refine wpAny_bind ?_; refine wp_if_pos hp1 ?_; refine hashBy_key k _ 8 A s _ hx.1.1 hx.2 hx.1.2 ?_)
    | refine wp_if_pos hp1 (wpAny_bind (hashBy_key k _ 8 A s _ hx.1.1 hx.2 hx.1.2 ?_))
  simp only [if_true]
  have hin : (SetTable.insertAt es (SetTable.below t.place (way t.mask (k.hash w) K)) (k.hash w, Value.ref x)).toList = rowsN w (L.take (SetTable.below t.place (way t.mask (k.hash w) K)) ++ (x, k) :: L.drop (SetTable.below t.place (way t.mask (k.hash w) K))) := by
    rw [SetTable.toList_insertAt, rowsN_put, R.rows]
  generalize hpp : SetTable.below t.place (way t.mask (k.hash w) K) = p at q2 q3 hin ⊢
  have pm := put_perm L p (x, k)
  have hlen : (L.take p ++ (x, k) :: L.drop p).length = L.length + 1 := pm.length_eq
  have hhs : (L.take p ++ (x, k) :: L.drop p).map (hN w) = (L.map (hN w)).take p ++ k.hash w :: (L.map (hN w)).drop p := by
    rw [List.map_append, List.map_cons, List.map_take, List.map_drop]
  rw [← hhs] at q3
  have nd1 : ((L.take p ++ (x, k) :: L.drop p).map (·.2)).Nodup := (pm.map (·.2)).nodup_iff.mpr (List.nodup_cons.mpr ⟨hm, R.nd⟩)
  have hes := rowsN_len hin
  rw [hlen] at hes
  generalize SetTable.insertAt es p (k.hash w, Value.ref x) = es1 at hin hes ⊢
  generalize L.take p ++ (x, k) :: L.drop p = L1 at pm hlen q3 nd1 hin
  refine wpAny_bind (wpAny_storeSet_of ho hd ?_ (by rw [hes, sizeLine_eq]; omega))
  have sb : Heap.SameBut a s.heap (s.heap.update a (Obj.putSet es1 t1)) := Heap.SameBut.update ..
  have ho1 := store_at (es' := es1) (t' := t1) ho hd
  generalize s.heap.update a (Obj.putSet es1 t1) = h1 at sb ho1 ⊢
  have key1 : ∀ p ∈ L1, IsN P w h1 p.2 p.1 := fun p hp => by
    rcases List.mem_cons.mp (pm.mem_iff.mp hp) with e | hp
    · rw [e]; exact isN_same hx ho hd sb
    · exact isN_same (R.key p hp) ho hd sb
  have ld1 : w.params.followText "set-order" = true ∨ t1.led = true := by rw [q5]; exact R.led
  rw [List.length_map] at q9
  by_cases hf : t1.tooFull = true
  · first
      | (refine wpAny_bind ?_; refine wp_if_pos (by simp [hf]) ?_)
      | (refine wp_if_pos (by simp [hf]) ?_; refine wpAny_bind ?_)
    have hfull : (L.length + 1) * 5 ≥ t.mask * 3 := by
      have h := hf
      unfold SetTable.tooFull at h
      rw [decide_eq_true_eq, q9, q4] at h
      exact h
    rw [hsl]
    have hsz1 : t1.place.size = es1.size := by
      have h := q3.sz
      rw [List.length_map, hlen] at h
      rw [h, hes]
    have go : ∀ M, SetTable.sizeAbove (SetTable.grown (L.length + 1)) = M + 1 → MaskG M → (L.length + 1) * 5 < M * 3 → L.length + 1 ≤ t.mask →
        wpAny (model P w) A (setRelay a (SetTable.grown (L.length + 1))) (fun _ s' => wpAny (model P w) A (pure true) Q E s') E { s with heap := h1 } := fun M h1' h2' h4' h5' => by
      refine relayN (s := { s with heap := h1 }) ho1 ⟨hex.1, hex.2.1, hex.2.2⟩ rfl hin hsz1 q3.dm (by rw [hes, q4]; exact h5') nd1 key1 hp1 ld1 (by rw [hlen]; exact hfew) h1' h2' (by rw [hlen]; exact h4') ?_
      intro h2 L2 es2 ep2 t2 sb2 R2 pm2
      exact wpAny_pure (hQ true h2 L2 es2 ep2 t2 (sb.trans sb2) R2 (pm2.trans pm))
    rcases R.tab.mok with e | e | e | e | e | e | e
    · have e2 : L.length = 4 := by rw [e] at hfull hroom; omega
      exact go 31 (by rw [e2]; exact grow5) (.inr (.inl rfl)) (by omega) (by omega)
    · have e2 : L.length = 18 := by rw [e] at hfull hroom; omega
      exact go 127 (by rw [e2]; exact grow19) (.inr (.inr (.inl rfl))) (by omega) (by omega)
    · have e2 : L.length = 76 := by rw [e] at hfull hroom; omega
      exact go 511 (by rw [e2]; exact grow77) (.inr (.inr (.inr (.inl rfl)))) (by omega) (by omega)
    · have e2 : L.length = 306 := by rw [e] at hfull hroom; omega
      exact go 2047 (by rw [e2]; exact grow307) (.inr (.inr (.inr (.inr (.inl rfl))))) (by omega) (by omega)
    · have e2 : L.length = 1228 := by rw [e] at hfull hroom; omega
      exact go 8191 (by rw [e2]; exact grow1229) (.inr (.inr (.inr (.inr (.inr (.inl rfl)))))) (by omega) (by omega)
    · have e2 : L.length = 4914 := by rw [e] at hfull hroom; omega
      exact go 32767 (by rw [e2]; exact grow4915) (.inr (.inr (.inr (.inr (.inr (.inr rfl)))))) (by omega) (by omega)
    · exfalso
      rw [e] at hfull
      omega
  · first
      | refine wp_if_neg (by simp [hf]) ?_
      | (refine wpAny_bind ?_; refine wp_if_neg (by simp [hf]) ?_; refine wpAny_pure ?_)
    refine wpAny_pure (hQ true h1 L1 es1 (ep + 1) t1 sb ⟨⟨_, ho1, ⟨hex.1, hex.2.1, hex.2.2⟩, rfl⟩, hin, q3, nd1, key1, hp1, ld1, ?_, by rw [hlen]; exact hfew⟩ pm)
    have h := hf
    unfold SetTable.tooFull at h
    rw [decide_eq_true_eq, q9] at h
    rw [hlen]
    omega
end
end Wv
end WyB_part
section WyC_part
set_option Elab.async false
set_option linter.all false
set_option maxRecDepth 100000
set_option maxHeartbeats 3200000
/-! WyC: set(xs), len(set(xs)): xs a list of unlike nested tuples of ints. -/
namespace Wv
open PySem L2 PySem.Spec
open PyProof.Rows

section
variable {P : Program} {w : World} {A : Around} {E : Value → Shared → Prop} {s : Shared}
theorem isN_keep {h h' : Heap} {k : NestedKey} {b : Addr} (x : IsN P w h k b) (hk : ∀ c o, h.get? c = some o → h'.get? c = some o) : IsN P w h' k b := ⟨⟨NestedIs.at (fun c o _ _ e _ => hk c o e) k _ x.1.1, x.1.2⟩, x.2⟩
theorem SetN.keep {h h' : Heap} {a : Addr} {L : List (Addr × NestedKey)} {es : Array (Int × Value)} {ep : Nat} {t : SetTable} (R : SetN P w h a L es ep t) (ha : ∀ o, h.get? a = some o → h'.get? a = some o) (ht : ∀ p ∈ L, IsN P w h' p.2 p.1) : SetN P w h' a L es ep t := by
  obtain ⟨o, ho, r⟩ := R.ob
  exact ⟨⟨o, ha o ho, r⟩, R.rows, R.tab, R.nd, ht, R.plain, R.led, R.room, R.few⟩
theorem setN_fresh {h : Heap} {a : Addr} (ho : h.get? a = some { cls := .type "set", dict := none, data := .set #[] 0 (.fresh 0 0 (!w.params.followText "set-order")) }) : SetN P w h a [] #[] 0 (.fresh 0 0 (!w.params.followText "set-order")) where
  ob := ⟨_, ho, ⟨rfl, rfl, rfl⟩, rfl⟩
  rows := rfl
  tab := ⟨List.Pairwise.nil, rfl, rfl, .inl rfl, fun x hx => (by cases hx), fun i h j hi => (by simp at hi)⟩
  nd := List.nodup_nil
  key := fun p hp => (by cases hp)
  plain := rfl
  led := by
    show _ ∨ (!w.params.followText "set-order") = true
    cases w.params.followText "set-order"
    · exact .inr rfl
    · exact .inl rfl
  room := by show 0 * 5 < 7 * 3; decide
  few := Nat.zero_le _
theorem keys_apart {ks L : List (Addr × NestedKey)} {i : Nat} {p : Addr × NestedKey} (hn : (ks.map (·.2)).Nodup) (hL : L.Perm (ks.take i)) (hp : ks[i]? = some p) : p.2 ∉ L.map (·.2) := fun hm => by
  rw [(hL.map (·.2)).mem_iff] at hm
  obtain ⟨q, hq, e⟩ := List.mem_map.mp hm
  obtain ⟨j, hj, eq⟩ := List.getElem_of_mem hq
  rw [List.length_take] at hj
  have hji : j < i := by omega
  have hjl : j < ks.length := by omega
  have hil := (List.getElem?_eq_some_iff.mp hp).1
  have ei := (List.getElem?_eq_some_iff.mp hp).2
  rw [List.getElem_take] at eq
  have := List.pairwise_iff_getElem.mp hn j i (by rw [List.length_map]; exact hjl) (by rw [List.length_map]; exact hil) hji
  rw [List.getElem_map, List.getElem_map, eq, ei] at this
  exact this e

/-- the loop of set.update -/
theorem set_updateN {I : Addr} {fp wr : List Addr} {G : Array GenState → Array GenState → Prop} {n : Nat} {Pv : Nat → Value → Prop} {St : Nat → Shared → Prop} {R : Result → Shared → Prop}
    (W : WalksS P w A.in1 I fp wr G n Pv St) (S : Addr) (hSf : S ∉ fp) (ks : List (Addr × NestedKey)) (hn : n = ks.length) (hfew : ks.length ≤ 8000) (hnd : (ks.map (·.2)).Nodup) (hval : ∀ i v, Pv i v → ∃ p, ks[i]? = some p ∧ v = .ref p.1)
    (h0 : Heap) (hk : ∀ p ∈ ks, IsN P w h0 p.2 p.1) (hS0 : h0.get? S = none) (hw0 : ∀ b ∈ wr, h0.get? b = none) (hu : A.in1.units + 8 < cLine) :
    ∀ (k i : Nat) (s : Shared), n - i = k → i ≤ n → St i s → (∀ b o, h0.get? b = some o → s.heap.get? b = some o) → (∃ L es ep t, SetN P w s.heap S L es ep t ∧ L.Perm (ks.take i)) →
      (∀ s' L es ep t, Moved (S :: wr) G s s' → SetN P w s'.heap S L es ep t → L.Perm ks → (∀ b o, h0.get? b = some o → s'.heap.get? b = some o) → R (.ok (.ret .none)) s') →
      codeAny (model P w) A (.builtin "set.update.loop" ⟨[.ref S, .ref I], []⟩) R s := by
  have hSw : S ∉ wr := fun h => hSf (W.sub _ h)
  have hsub : ∀ b ∈ wr, b ∈ S :: wr := fun b hb => List.mem_cons_of_mem _ hb
  have keepM : ∀ {s s' : Shared}, Moved wr G s s' → (∀ b o, h0.get? b = some o → s.heap.get? b = some o) → ∀ b o, h0.get? b = some o → s'.heap.get? b = some o := fun hm hkp b o e =>
    hm.heap b o (fun hb => by rw [hw0 b hb] at e; cases e) (hkp b o e)
  intro k
  induction k with
  | zero =>
    intro i s hk' hi hst hkp ⟨L, es, ep, t, hS, g⟩ hR
    have hin : i = n := by omega
    subst hin
    rw [hn, List.take_length] at g
    refine codeAny_builtin F.entry_set_update_loop ?_
    rw [Around.under_plainId F.plain_set_update_loop _]
    show wpAny _ A.in1 (pyNext (.ref I) >>= _) _ _ s
    refine wpAny_bind (W.done s _ _ hst fun s' hm => ?_)
    show wpAny _ A.in1 (ret Value.none) _ _ s'
    have hkp' := keepM hm hkp
    exact wpAny_pure (hR s' L es ep t (hm.mono hsub) (hS.keep (fun o e => hm.heap S o hSw e) fun p hp => isN_keep (hk p (g.mem_iff.mp hp)) hkp') g hkp')
  | succ k ih =>
    intro i s hk' hi hst hkp ⟨L, es, ep, t, hS, g⟩ hR
    have hlt : i < n := by omega
    refine codeAny_builtin F.entry_set_update_loop ?_
    rw [Around.under_plainId F.plain_set_update_loop _]
    show wpAny _ A.in1 (pyNext (.ref I) >>= _) _ _ s
    refine wpAny_bind (W.item i s _ _ hlt hst fun v s' hP hst' hm => ?_)
    obtain ⟨p, hp, rfl⟩ := hval i v hP
    have hkp' := keepM hm hkp
    have hS' : SetN P w s'.heap S L es ep t := hS.keep (fun o e => hm.heap S o hSw e) fun q hq => isN_keep (hk q (List.mem_of_mem_take (g.mem_iff.mp hq))) hkp'
    have hx : IsN P w s'.heap p.2 p.1 := isN_keep (hk p (List.mem_of_getElem? hp)) hkp'
    show wpAny _ A.in1 (holding [Value.ref p.1] (setAdd S (.ref p.1)) >>= _) _ _ s'
    refine wpAny_bind (wpAny_holding ?_)
    unfold setAdd
    refine wpAny_holding ?_
    refine wpAny_bind ((nestedKind P w).pyHash hu hx.1 ?_)
    have hll : L.length + 1 ≤ 8000 := by rw [g.length_eq, List.length_take]; omega
    refine addN (s := { s' with toks := s'.toks + p.2.draws }) hS' hx hu (keys_apart hnd g hp) hll fun b h' L' es' ep' t' hsb hS2 pm => ?_
    have g' : L'.Perm (ks.take (i + 1)) := by
      rw [take_next hp]
      exact pm.trans ((g.cons p).trans (List.perm_append_singleton p _).symm)
    have hkp2 : ∀ b o, h0.get? b = some o → h'.get? b = some o := fun b o e => (hsb.2 b (fun z => by rw [z, hS0] at e; cases e)).trans (hkp' b o e)
    refine wpAny_pure ⟨plainId_quiet F.plain_set_update_loop _, ih (i + 1) _ (by omega) hlt (W.frame _ s' _ _ hst' (Nat.le_add_right _ _) fun b hb o e => ?_) hkp2 ⟨L', es', ep', t', hS2, g'⟩ fun s'' L2 es2 ep2 t2 hm'' hS'' g'' hkp'' => ?_⟩
    · rw [hsb.2 b (fun h : b = S => hSf (by rw [← h]; exact hb))]; exact e
    · refine hR s'' L2 es2 ep2 t2 (Moved.trans W.gtrans ((hm.mono hsub).then_heap (Nat.le_add_right _ _) fun b o hb e => ?_) hm'') hS'' g'' hkp''
      rw [hsb.2 b (fun h : b = S => hb (by rw [h]; exact List.mem_cons_self))]; exact e

/-- set(xs) -/
theorem call_setN {l : Addr} {items : Array Value} (ks : List (Addr × NestedKey)) {Q : Value → Shared → Prop} (hh : A.handled = none) (hl : s.heap.IsList l items) (hit : items.toList = ks.map fun p => Value.ref p.1)
    (hk : ∀ p ∈ ks, IsN P w s.heap p.2 p.1) (hnd : (ks.map (·.2)).Nodup) (hfew : ks.length ≤ 8000) (hu : A.units + 20 < cLine)
    (h : ∀ (h' : Heap) (tk : Nat) L es ep t, SetN P w h' s.heap.objs.size L es ep t → L.Perm ks → (∀ b o, s.heap.get? b = some o → h'.get? b = some o) → Q (.ref s.heap.objs.size) { s with heap := h', toks := tk }) :
    wpAny (model P w) A (call (.type "set") [.ref l]) Q E s := by
  have hisz : items.size = ks.length := by
    have q := congrArg List.length hit
    rw [Array.length_toList, List.length_map] at q
    exact q
  obtain ⟨c, tl, hmro⟩ := F.called_set.mro
  have hmade := F.called_set.made
  have hsub := F.called_set.sub
  refine wpAny_call (codeAny_of_tree ?_)
  show wpAny _ _ (callAny (.type "set") _) _ _ _
  refine wpAny_pure ⟨Code.quiet_builtin _ (by decide +kernel), codeAny_builtin F.entry_type_call ?_⟩
  rw [Around.under_plain (weight_type_call_type "set" [.ref l] []) rfl]
  have h1 := F.called_set.notType
  have h2 := F.called_set.canCreate
  have hct := F.typeCall_set_1 (.ref l)
  repeat (any_goals (first | assumption | wp_step))

  refine codeAny_mono (code_set_led1 (.ref l) (E := E) (Q₁ := fun obj s₁ => obj = .ref s.heap.objs.size ∧ s₁ = { s with heap := s.heap.push { cls := .type "set", dict := none, data := .set #[] 0 (.fresh 0 0 (!w.params.followText "set-order")) } }) ⟨rfl, rfl⟩) fun r s₁ hr => ?_
  cases r with
  | error e => exact hr
  | ok fl =>
    cases fl with
    | ret obj =>
      obtain ⟨rfl, rfl⟩ := hr
      have hS : (s.heap.push { cls := .type "set", dict := none, data := .set #[] 0 (.fresh 0 0 (!w.params.followText "set-order")) }).get? s.heap.objs.size = some { cls := .type "set", dict := none, data := .set #[] 0 (.fresh 0 0 (!w.params.followText "set-order")) } := Heap.get?_push_size _ rfl
      have hT : Shared.TypeIs { s with heap := s.heap.push { cls := .type "set", dict := none, data := .set #[] 0 (.fresh 0 0 (!w.params.followText "set-order")) } } (.ref s.heap.objs.size) "set" := ⟨_, hS, rfl⟩
      have hli := F.called_set.init.lookup
      have hbi := F.called_set.init.bind (.ref s.heap.objs.size)
      repeat (any_goals (first | assumption | wp_step))

      refine codeAny_mono (codeAny_call_builtin (R := wants (fun r s₂ => r = .none ∧ ∃ h' tk L es ep t, s₂ = { s with heap := h', toks := tk } ∧ SetN P w h' s.heap.objs.size L es ep t ∧ L.Perm ks ∧
          (∀ b o, s.heap.get? b = some o → h'.get? b = some o)) E) F.called_set.init.plain F.entry_set_init (check_set_init_1 hT ?_)) fun r₂ s₂ hr₂ => ?_
      · obtain ⟨ol, hol, hcl, nl, hdl⟩ := hl
        obtain ⟨ocls, odict, odata, oslots⟩ := ol
        simp only at hcl hdl
        subst hcl; subst hdl
        have hol' : (s.heap.push { cls := .type "set", dict := none, data := .set #[] 0 (.fresh 0 0 (!w.params.followText "set-order")) }).get? l = some { cls := .type "list", dict := odict, data := .seq items nl, slots := oslots } := Heap.get?_push_of_some _ hol
        have hsls := F.sub_list_set
        have hslf := F.sub_list_frozenset
        have hne : (Value.type "list" == Value.type "dict") = false := by decide
        have hl1 : (s.heap.push { cls := .type "set", dict := none, data := .set #[] 0 (.fresh 0 0 (!w.params.followText "set-order")) }).IsList l items := ⟨_, hol', rfl, nl, rfl⟩
        unfold Builtin.«set.__init__» noKeywords Builtin.Frozenset.updateFrom
        generalize hPI : pyIter = PI
        wp_walk
        subst hPI

        refine wpAny_pyIter_list hl1 ?_
        refine wpAny_bind (wpAny_runValue ?_)
        have hlS : l < s.heap.objs.size := Heap.lt_size hol
        have hh3 : A.in1.in1.in1.handled = none := by simp [hh]
        have hneI : l ≠ (s.heap.push { cls := .type "set", dict := none, data := .set #[] 0 (.fresh 0 0 (!w.params.followText "set-order")) }).objs.size := by
          rw [Heap.size_push]; exact Nat.ne_of_lt (Nat.lt_succ_of_lt hlS)
        have hSf : s.heap.objs.size ∉ [(s.heap.push { cls := .type "set", dict := none, data := .set #[] 0 (.fresh 0 0 (!w.params.followText "set-order")) }).objs.size, l] := by
          rw [Heap.size_push]; simp only [List.mem_cons, List.mem_singleton, List.not_mem_nil, or_false, not_or]
          exact ⟨Nat.ne_of_lt (Nat.lt_succ_self _), Nat.ne_of_gt hlS⟩
        have hval : ∀ (i : Nat) (v : Value), items[i]? = some v → ∃ p, ks[i]? = some p ∧ v = .ref p.1 := fun i v hv => by
          have q : items.toList[i]? = some v := by rw [Array.getElem?_toList]; exact hv
          rw [hit, List.getElem?_map] at q
          cases hq : ks[i]? with
          | none => rw [hq] at q; cases q
          | some p =>
            rw [hq] at q
            exact ⟨p, rfl, (Option.some.inj q).symm⟩
        have none_of : ∀ b, s.heap.objs.size ≤ b → s.heap.get? b = none := fun b hb => by
          cases q : s.heap.get? b with
          | none => rfl
          | some o => exact absurd (Nat.lt_of_lt_of_le (Heap.lt_size q) hb) (Nat.lt_irrefl _)
        refine set_updateN ((Walks.list hh3 _ l hneI items).toS) s.heap.objs.size
          hSf ks hisz hfew hnd hval s.heap hk (none_of _ (Nat.le_refl _)) (fun b hb => none_of b (by
            rw [List.mem_singleton.mp hb, Heap.size_push]
            exact Nat.le_succ _)) (by simp only [Around.in1_units]; omega) (items.size - 0) 0 _ (by omega) (Nat.zero_le _)
          ⟨⟨_, Heap.get?_push_size _ rfl, rfl, rfl⟩, (hl1.push _)⟩ (fun b o e => Heap.get?_push_of_some _ (Heap.get?_push_of_some _ e)) ?hS0 ?hR
        case hS0 =>
          have hget : ((s.heap.push { cls := .type "set", dict := none, data := .set #[] 0 (.fresh 0 0 (!w.params.followText "set-order")) }).push { cls := .type "list_iterator", data := .fields #[.ref l, .int 0 0] }).get? s.heap.objs.size
              = some { cls := .type "set", dict := none, data := .set #[] 0 (.fresh 0 0 (!w.params.followText "set-order")) } := Heap.get?_push_of_some _ hS
          exact ⟨[], #[], 0, _, setN_fresh hget, List.Perm.nil⟩
        case hR =>
          intro s' L es ep t hm hS' g' hkp
          obtain ⟨h', g2, d', tk', os'⟩ := s'
          have eg : g2 = s.gens := hm.gens
          have ed : d' = s.drawn := hm.drawn
          have eo : os' = s.os := hm.os
          subst eg; subst ed; subst eo
          show wpAny _ _ _ _ _ _
          refine wpAny_pure ?_
          show wpAny _ _ (ret Value.none) _ _ _
          exact wpAny_pure ⟨rfl, h', tk', L, es, ep, t, rfl, hS', g', hkp⟩

      · cases r₂ with
        | error e => exact hr₂
        | ok fl₂ =>
          cases fl₂ with
          | ret r =>
            obtain ⟨rfl, h', tk, L, es, ep, t, rfl, hS', g', hk'⟩ := hr₂
            repeat (any_goals (first | assumption | wp_step))
            exact h _ _ _ _ _ _ hS' g' hk'
          | _ => exact hr₂.elim
    | _ => exact hr.elim
end
end Wv
end WyC_part
section WyD_part
set_option Elab.async false
set_option linter.all false
set_option maxRecDepth 100000
set_option maxHeartbeats 1000000
/-! WyD: len(set(xs)), xs a list of unlike runs. -/
namespace Wv
open PySem L2 PySem.Spec
open PyProof.Rows

def stepK (s : Nat × Nat) : NestedKey := .tup [.num s.1, .num s.2]
def runK (r : List (Nat × Nat)) : NestedKey := .tup (r.map stepK)
theorem stepK_inj {a b : Nat × Nat} (h : stepK a = stepK b) : a = b := by
  obtain ⟨a1, a2⟩ := a
  obtain ⟨b1, b2⟩ := b
  have h := NestedKey.tup.inj h
  obtain ⟨h1, h2⟩ := List.cons.inj h
  have h1 := NestedKey.num.inj h1
  have h2 := NestedKey.num.inj (List.cons.inj h2).1
  have e1 : a1 = b1 := Int.ofNat.inj h1
  have e2 : a2 = b2 := Int.ofNat.inj h2
  rw [e1, e2]
theorem steps_inj : ∀ {a b : List (Nat × Nat)}, a.map stepK = b.map stepK → a = b
  | [], [], _ => rfl
  | [], _ :: _, h => by cases h
  | _ :: _, [], h => by cases h
  | x :: a, y :: b, h => by
    obtain ⟨h1, h2⟩ := List.cons.inj (show stepK x :: a.map stepK = stepK y :: b.map stepK from h)
    rw [stepK_inj h1, steps_inj h2]
theorem runK_inj {a b : List (Nat × Nat)} (h : runK a = runK b) : a = b := steps_inj (NestedKey.tup.inj h)
theorem runK_num : ∀ r : List (Nat × Nat), numKs (r.map stepK) = true
  | [] => by simp [numKs]
  | s :: r => by
    have := runK_num r
    rw [List.map_cons]
    simp [numKs, numK, stepK, this]
theorem runK_depth : ∀ r : List (Nat × Nat), NestedKey.depthAll (r.map stepK) ≤ 1
  | [] => by simp [NestedKey.depthAll]
  | s :: r => by
    have := runK_depth r
    rw [List.map_cons]
    simp only [NestedKey.depthAll, stepK, NestedKey.depth]
    omega
theorem steps_key {H : Hp} : ∀ {xs : List V} {r : List (Nat × Nat)}, Paired (StepIs H) xs r → NKs H (r.map stepK) xs
  | _, _, .nil => .nil
  | _, _, .cons g t => by
    obtain ⟨a, rfl, ha⟩ := g
    exact .cons (.tup ha (.cons (.int _) (.cons (.int _) .nil))) (steps_key t)
theorem run_key {H : Hp} {v : V} {r : List (Nat × Nat)} (h : RunIs H v r) : ∃ a, v = .ref a ∧ NK H (runK r) (.ref a) := by
  obtain ⟨a, xs, rfl, ha, hp⟩ := h
  exact ⟨a, rfl, .tup ha (steps_key hp)⟩
theorem runs_keys {H : Hp} : ∀ {xs : List V} {rs : List (List (Nat × Nat))}, Paired (RunIs H) xs rs → ∃ ks : List (Addr × NestedKey), xs = ks.map (fun p => V.ref p.1) ∧ ks.map (·.2) = rs.map runK ∧ ∀ p ∈ ks, NK H p.2 (.ref p.1) ∧ ∃ r, p.2 = runK r
  | _, _, .nil => ⟨[], rfl, rfl, fun p hp => absurd hp List.not_mem_nil⟩
  | _, r :: _, .cons g t => by
    obtain ⟨a, rfl, hk⟩ := run_key g
    obtain ⟨ks, rfl, e2, h⟩ := runs_keys t
    refine ⟨(a, runK r) :: ks, rfl, by rw [List.map_cons, List.map_cons, e2], fun p hp => ?_⟩
    rcases List.mem_cons.mp hp with e | hp
    · rw [e]; exact ⟨hk, r, rfl⟩
    · exact h p hp
theorem refsN_of : ∀ {ks : List (Addr × NestedKey)} {us : List Value}, Vals (ks.map fun p => V.ref p.1) us → us = ks.map fun p => Value.ref p.1
  | [], _, .nil => rfl
  | p :: ks, _, .cons r t => by
    cases r
    rw [refsN_of t] <;> rfl
section
variable {X : Cx}
def tLenSetR (K : PySem.W.Frag) (ta : TE) : TE := fun σ H Q => ta σ H fun x H1 => ∃ (l : Addr) (xs : List V) (rs : List (List (Nat × Nat))), x = V.ref l ∧ SqL K H1 l xs ∧ Paired (RunIs H1) xs rs ∧ rs.Nodup ∧ rs.length ≤ 8000 ∧ Q (.int ((rs.length : Nat) : Int)) H1
theorem pe_lenSetR {a : Expr} {ta : TE} {p p2 q pos : Pos} (hc : X.calm = true) (hu : X.A.units + 20 < cLine) (hg : Gl X "len") (hm : X.mg "len" = none) (hg2 : Gl X "set") (hm2 : X.mg "set" = none) (ha : PE X a ta)
    (na : starEach [a] X.env = (false, eval a X.env) :: starEach [] X.env := by rfl) : PE X (.Call (.Name "len" p) [.Call (.Name "set" p2) [a] [] q] [] pos) (tLenSetR X.K ta) := by
  refine ⟨fun pins s σ H Q I h => ?_⟩
  refine Call_ (ld_blt I hg hm PySem.boot_len ?_)
  refine PyProof.Rows.callWith_builtin1 (PyProof.Rows.args_cons ?_ rfl) rfl rfl
  refine Call_ (ld_blt I hg2 hm2 PyProof.Rows.boot_set ?_)
  refine PyProof.Rows.callWith_type1 (PyProof.Rows.args_cons (thn (ha.run pins s σ H _ I h) fun v s1 ⟨x, H1, I1, r1, q1⟩ => PyProof.Rows.args_nil ?_) na) na rfl
  obtain ⟨l, xs, rs, rfl, hq, hp, hnd, h8, q1⟩ := q1
  cases r1
  obtain ⟨ks, rfl, e2, hk⟩ := runs_keys hp
  obtain ⟨its, r, pl, hz⟩ := I1.list hq
  have hkl : ks.length = rs.length := by
    have := congrArg List.length e2
    rw [List.length_map, List.length_map] at this
    exact this
  have hkn : (ks.map (·.2)).Nodup := by rw [e2]; exact nodup_map (fun a b e => runK_inj e) hnd
  refine call_setN (P := X.prog) (w := X.w) ks (I1.ok.hd hc) pl.isList (by simpa using refsN_of r) (fun p hpm => ?_) hkn (by omega) hu fun h' tk L es ep t R g k => ?_
  · obtain ⟨h1, r, er⟩ := hk p hpm
    refine ⟨⟨NK.real I1.hok _ _ _ h1 rfl, ?_⟩, ?_⟩
    · rw [er]
      have := runK_depth r
      unfold runK
      simp only [NestedKey.depth]
      omega
    · rw [er]
      unfold runK
      simp only [numK]
      exact runK_num r
  · refine PyProof.Rows.args_nil ?_
    have I2 : Inv X pins σ H1 { s1 with heap := h', toks := tk } := I1.kept k
    obtain ⟨o, ho, hex, hd⟩ := R.ob
    have hsz : es.size = rs.length := by rw [rowsN_len R.rows, g.length_eq, hkl]
    refine call_len_set (s := { s1 with heap := h', toks := tk }) ho hex hd (SetN.fits (s := { s1 with heap := h', toks := tk }) R) (by rw [hsz]; omega) ⟨.int ((rs.length : Nat) : Int), H1, I2.tok _, ⟨_, by rw [hsz]⟩, q1⟩
end
end Wv
end WyD_part
section WyE_part
set_option Elab.async false
set_option linter.all false
set_option maxRecDepth 100000
set_option maxHeartbeats 1000000
/-! WyE: the law's def. -/
namespace Wv
open PySem L2 PySem.Spec StX
open PyProof.Rows

theorem pcs_op {X : Cx} {op : CmpOp} {r : R2} {a b : Expr} {ta tb : TE} (ho : OpR X (compareOp op) r) (ha : PES X a ta) (hb : PE X b tb) : PCS X op a b (tOp r ta tb) :=
  ⟨fun pins s σ H Q I h => thnS (ha.run pins s σ H _ I h) fun v s1 ⟨x, H1, I1, r1, q1⟩ => thn (hb.run pins s1 σ H1 _ I1 q1) fun u s2 ⟨y, H2, I2, r2, q2⟩ => ho pins s2 σ H2 x y v u _ I2 r1 r2 q2⟩
theorem KTup.run {H H' : Hp} (k : KTup H H') {v : V} {r : List (Nat × Nat)} (h : RunIs H v r) : RunIs H' v r := by
  obtain ⟨a, xs, e, h1, h2⟩ := h
  exact ⟨a, xs, e, k _ _ h1, k.steps h2⟩
def runD (r : List (Nat × Nat)) : PyData := .tuple (r.map stepD)
theorem runD_ok (r : List (Nat × Nat)) : (runD r).canLay0 = true ∧ (runD r).depth ≤ 10 := by
  obtain ⟨h1, h2⟩ := shaped_map (fun x => (stepD_ok x).1) (fun x => (stepD_ok x).2) r
  unfold runD
  simp only [PyData.canLay0, PyData.depth, h1]
  exact ⟨trivial, by omega⟩
theorem dp_run {K : PySem.W.Frag} {H : Hp} {v : V} {r : List (Nat × Nat)} (h : RunIs H v r) : Dp K H v (runD r) := by
  obtain ⟨a, xs, rfl, ha, hp⟩ := h
  exact .tup (SqT.of ha) (dp_all (fun v s h => dp_step h) hp)
theorem done_ok : PyData.strOk "done" = true := by decide +kernel
theorem dones_shaped (n : Nat) : SeqAt.shaped (.tuple (List.replicate n (.str "done"))) = true := by
  have h : ∀ n : Nat, PyData.canLayAll0 (List.replicate n (.str "done")) = true ∧ PyData.depthAll (List.replicate n (.str "done")) = 0 := by
    intro n
    induction n with
    | zero => exact ⟨by simp [PyData.canLayAll0], by simp [PyData.depthAll]⟩
    | succ n ih =>
      rw [List.replicate_succ]
      exact ⟨by simp only [PyData.canLayAll0, PyData.canLay0, done_ok, ih.1]; rfl, by simp only [PyData.depthAll, PyData.depth, ih.2]; rfl⟩
  obtain ⟨h1, h2⟩ := h n
  unfold SeqAt.shaped
  simp only [PyData.canLay0, PyData.depth, h1, h2]
  decide
theorem dp_dones {K : PySem.W.Frag} {H : Hp} : ∀ n : Nat, DpAll K H (dones n) (List.replicate n (.str "done"))
  | 0 => .nil
  | n + 1 => .cons (.str _) (dp_dones n)
/-- the list of all runs, as list(..) gives it -/
theorem runs_got {H : Hp} {ys : List V} {rs : List (List (Nat × Nat))} (hl : ys.length = rs.length) (h : ∀ i y, ys[i]? = some y → ∃ t, rs[rs.length - 1 - (rs.length - 1 - i)]? = some t ∧ RunIs H y t) : Paired (RunIs H) ys rs := by
  refine paired_of hl fun i v e => ?_
  have hi := (List.getElem?_eq_some_iff.mp e).1
  obtain ⟨t, e1, e2⟩ := h i v e
  rw [show rs.length - 1 - (rs.length - 1 - i) = i by omega] at e1
  exact ⟨t, e1, e2⟩
theorem sum_nat {α : Type} (f : α → Nat) : ∀ l : List α, (l.map fun b => ((f b : Nat) : Int)).sum = (((l.map f).sum : Nat) : Int)
  | [] => rfl
  | x :: l => by rw [List.map_cons, List.sum_cons, sum_nat f l, List.map_cons, List.sum_cons]; omega
theorem len8000 : 8000 ≤ sizeLine := by decide
theorem neF {n m : Nat} (h : n = m) : (!decide (V.int (n : Int) = V.int (m : Int))) = false := by subst h; rw [decide_eq_true rfl]; rfl
theorem dones_can (n : Nat) : (PyData.tuple (List.replicate n (.str "done"))).canLay0 = true := (Bool.and_eq_true_iff.mp (dones_shaped n)).1
theorem but_same {l c : Addr} {H H1 H' : Hp} (b : But l c H H1) (s : Same H1 H') : But l c H H' := b.trans (But.of s)
theorem fnOkS_of {P : Program} {w : World} {K : PySem.W.Frag} {mg : Str → Option Value} {base : Heap} {x : Str} {st : Stmt} {f : Addr} {fd : FuncData} {N ps : List Str} {k : Nat} {sp : Sp} (F : Fun K x x st f fd) (S : FnScope N ps (defScope st)) (len : ∀ vs H Q E, sp vs H Q E → vs.length = ps.length)
    (hbody : ∀ (cdv : Value) (A : Around) (outer : List Env) (s : Shared) (H : Hp) (vs : List V) (Q : VK) (E : XK), Room k (A.deeper (envOfC x (defScope st) s.heap.objs.size f cdv)) → sp vs H Q E →
      ∃ t, PSSs (cxOf CX0 P w K mg base N x (defScope st) f cdv A outer s H E).nox (defBody st) t ∧ t { nx := fun _ H' => Q .non H', rt := Q } (start N vs) H) : FnOkS P w K mg base (k + 1) f fd ps sp := by
  obtain ⟨oc, od, kV, doc, pm, an, cdv, ct, osl, rfl, lk, hcd⟩ := F.ex
  exact fnS_of lk hcd S len fun A outer s H vs Q E => hbody cdv A outer s H vs Q E
section
variable {P : Program} {w : World} {K : PySem.W.Frag} {mg : Str → Option Value} {base : Heap} (T : Top w K mg)
include T
def sp_law (K : PySem.W.Frag) : Sp := fun vs H Q _ => ∃ (a : Addr) (zs : List Int), vs = [.ref a] ∧ SqL K H a (zs.map V.int) ∧ zs.length < sizeLine ∧ ∀ H', Q (.bl true) H'
theorem z_law {fd : FuncData} (F : Fun K "law" "law" s_law (He.ga K "law") fd) : FnOkS P w K mg base 22 (He.ga K "law") fd ["script"] (sp_law K) := by
  have nd := sc_law.nd
  refine fnOkS_of F sc_law (fun vs H Q E h => by obtain ⟨_, _, rfl, _⟩ := h; rfl) fun cdv A outer s H vs Q E hr h => ?_
  obtain ⟨a, zs, rfl, ha, hz, hQ⟩ := h
  have hu : (A.deeper (envOfC "law" (defScope s_law) s.heap.objs.size (He.ga K "law") cdv)).units + 20 < cLine := by have := hr.un; omega
  refine ⟨_, psss_cons (pss_of (ps_set (i := 1) nd rfl (Or.inl rfl) (pe_w (c_begin T) hr (by decide) (by rfl) (pa_cons (pv 0) pa_nil))))
    (psss_cons (pss_for (by rfl) (by rfl) (pi_range1 (by rfl) T.free_range (pa_cons pe_int pa_nil)) (pg_name (i := 2) nd rfl (Or.inl rfl))
      (psss_cons (pss_of (ps_set (i := 3) nd rfl (Or.inr rfl) (pe_w (c_kinds T) hr (by decide) (by rfl) (pa_cons (pv 1) pa_nil))))
      (psss_cons (pss_of (ps_set (i := 4) nd rfl (Or.inl rfl) (pe_w (c_draw_hands T) hr (by decide) (by rfl) (pa_cons (pv 1) (pa_cons (pv 3) (pa_cons pe_int pa_nil))))))
      (psss_cons (pss_of (ps_set (i := 5) nd rfl (Or.inl rfl) (pe_w (c_bench_of T) hr (by decide) (by rfl) (pa_cons (pe_w (c_build T) hr (by decide) (by rfl) (pa_cons (pv 3) pa_nil)) (pa_cons (pv 4) (pa_cons pe_int (pa_cons pe_str (pa_cons pe_int pa_nil))))))))
      (psss_cons (pss_of (ps_set (i := 6) nd rfl (Or.inl rfl) (pe_callB (cr_sum rfl) (by rfl) T.free_sum (by decide +kernel) (pa_cons (pe_lc (own := [("name", 9)]) (g := gName 9) (tt := tYes) (te := tCB (rLenS K) (tCons (tCall sp_rows_of [] E0 (tCons (tVar 3) (tCons (tVar 9) tNil))) tNil)) (by rfl) nd (pi_list (pv 4)) (blkOk_by (N := n_law) (sc := defScope s_law) (by decide +kernel))
          (fun _ _ _ _ _ => pg_name (i := 9) nd rfl (Or.inl rfl)) (fun _ _ _ _ _ => pts_nil) (fun _ _ _ _ _ => pe_callB (r := rLenS K) call_len_seq (by rfl) T.free_len PySem.boot_len (pa_cons (pe_w (c_rows_of T) hr (by decide) (by rfl) (pa_cons (pv 3) (pa_cons (pv 9) pa_nil))) pa_nil))) pa_nil))))
      (psss_cons (pss_for (by rfl) (by rfl) (pi_list (pe_lst (pa_cons pe_int (pa_cons (pe_w (c_draw T) hr (by decide) (by rfl) (pa_cons (pv 1) (pa_cons pe_int pa_nil)))
          (pa_cons (pe_callB (call_min2 rfl) (by rfl) T.free_min (by decide +kernel) (pa_cons (pe_callTy call_int1 (by rfl) T.free_int bs_int (pa_cons (pv 6) pa_nil)) (pa_cons pe_int pa_nil)))
          (pa_cons (pe_callB (call_min2 rfl) (by rfl) T.free_min (by decide +kernel) (pa_cons (pe_op op_add (pe_callTy call_int1 (by rfl) T.free_int bs_int (pa_cons (pv 6) pa_nil)) pe_int) (pa_cons pe_int pa_nil))) pa_nil)))))) (pg_name (i := 7) nd rfl (Or.inl rfl))
        (psss_cons (pss_set (i := 8) nd rfl (Or.inl rfl) (pes_listN (pgn_w (g_runs T) hr (by decide) (by rfl) (pa_cons (pv 5) (pa_cons (pv 7) pa_nil))) hr (by rfl) T.free_list bs_list))
        (psss_cons (pss_of (ps_if (PW.pt (pw_or (pt_cmpR op_ne (pe_callB (r := rLenS K) call_len_seq (by rfl) T.free_len PySem.boot_len (pa_cons (pv 8) pa_nil)) (pe_w (c_ways T) hr (by decide) (by rfl) (pa_cons (pv 3) (pa_cons (pv 4) (pa_cons (pv 7) pa_nil)))) (nomark _))
            (pw_or1 (pt_cmpR op_ne (pe_lenSetR rfl hu (by rfl) T.free_len (by rfl) T.free_set (pv 8)) (pe_callB (r := rLenS K) call_len_seq (by rfl) T.free_len PySem.boot_len (pa_cons (pv 8) pa_nil)) (nomark _))))) (pss_one ps_never) pss_nil))
        (psss_one (pss_of (ps_if (PW.pt (pw_and (pt_cmpR (r := rNeD K) (op_neD hr.units) (pv 8) (pe_lst pa_nil) (nomark _))
            (pw_and1 (pt_cmpR (r := rNeD K) (op_neD hr.units) (pe_bench (mg := mg) T rfl hr (by decide) (pv 5) (pe_ix ix_list (pv 8) (pe_w (c_draw T) hr (by decide) (by rfl) (pa_cons (pv 1) (pa_cons (pe_callB (r := rLenS K) call_len_seq (by rfl) T.free_len PySem.boot_len (pa_cons (pv 8) pa_nil)) pa_nil))) (fun _ _ => rfl))) (pe_op op_repB (pe_tup (pa_cons pe_str pa_nil)) (pv 7)) (nomark _))))) (pss_one ps_never) pss_nil))))))
      (psss_cons (pss_if (pts_and (pts_of (pt_cmpR op_lt (pv 6) pe_int (nomark _))) (pts_cmp (pcs_op (r := rNeD K) (op_neD hr.units) (pes_listN (pgn_w (g_runs T) hr (by decide) (by rfl) (pa_cons (pv 5) (pa_cons (pe_op op_add (pv 6) pe_int) pa_nil))) hr (by rfl) T.free_list bs_list) (pe_lst pa_nil)))) (psss_of (pss_one ps_never)) psss_nil)
      (psss_one (pss_if (pts_or (pts_not (pts_val (pes_w (z_is_safe T) hr (by decide) (by rfl) (pa_cons (pv 5) pa_nil)))) (pts_cmp (pcs_notN (pes_w (z_sstuck T) hr (by decide) (by rfl) (pa_cons (pv 5) pa_nil))))) (psss_of (pss_one ps_never)) psss_nil)))))))))
    (psss_one (pss_of (ps_ret pe_bl)))), ?_⟩
  refine ⟨_, rfl, a, zs, rfl, ha, hz, fun l c H1 s1 hpool hl0 hc0 => ?_⟩
  refine ⟨_, rfl, by decide, by decide, ?_⟩
  refine for_range (lo := 0) (n := 3) (fun k σ H' => PoolIs H' l c ∧ ∃ o2 o3 o4 o5 o6 o7 o8 o9 : Option V, σ = [some (.ref a), some (.ref l), o2, o3, o4, o5, o6, o7, o8, o9])
    ⟨hpool, _, _, _, _, _, _, _, _, rfl⟩ (fun k σ H2 hk q => ?_) (fun σ H2 q => ?_)
  · obtain ⟨hp2, o2, o3, o4, o5, o6, o7, o8, o9, rfl⟩ := q
    refine ⟨_, rfl, l, c, rfl, hp2, fun pv' r0 r1 H3 b3 hp3 hpl3 hr0 hr1 => ?_⟩
    refine ⟨_, rfl, _, rfl, l, c, pv', r0, r1, rfl, hp3, hpl3, fun p hs H4 b4 hp4 hs1 hs3 hp hpn hpo => ?_⟩
    have hpl4 := PlanIs.but b4 hp3 hpl3
    obtain ⟨B, rfl, rfl, rfl⟩ : ∃ B : Bn, B.r0 = r0 ∧ B.r1 = r1 ∧ B.hs = hs := ⟨⟨r0, r1, hs⟩, rfl, rfl, rfl⟩
    have ok : B.Ok := ⟨hr0, hr1, hs1, hs3⟩
    refine ⟨_, rfl, l, c, pv', B, rfl, hpl4, ok, fun prv H5 s5 hprog => ?_⟩
    refine ⟨_, rfl, prv, p, B, rfl, hprog, ok, s5 _ _ hp, fun bv H6 s6 hb => ?_⟩
    have s46 := Same.trans s5 s6
    have hp6 := s46 _ _ hp
    have hpl6 := PlanIs.same s46 hpl4
    refine ⟨_, rfl, p, rfl, ⟨_, SqL.of hp6⟩, fun D hD => lc_same (fun i y H => ∃ b, B.hs[i]? = some b ∧ y = V.int ((B.rows b).length : Nat)) hD (fun i y H H' k h => h) (by rw [List.length_map]; exact smlt (by omega)) (walks_list (SqL.of hp6)) (fun i x H' hx sx C hC => ?_) fun H7 acc s7 hacc hl hR => ?_⟩
    · rw [List.getElem?_map] at hx
      obtain ⟨b, eb, rfl⟩ := Option.map_eq_some_iff.mp hx
      refine ⟨rfl, _, rfl, _, rfl, l, c, pv', B.r0, B.r1, b, rfl, PlanIs.same sx hpl6, fun t xs H'' s'' ht hrows => ?_⟩
      refine ⟨t, xs, rfl, .inl (SqL.of ht), hC _ _ s'' ⟨b, eb, ?_⟩⟩
      rw [hrows.1]
      cases b <;> rfl
    have ea : acc = (B.hs.map fun b => (((B.rows b).length : Nat) : Int)).map V.int := by
      rw [List.length_map] at hl
      refine List.ext_getElem? fun i => ?_
      by_cases hi : i < acc.length
      · obtain ⟨x, ex, ey⟩ := hR i _ (List.getElem?_eq_getElem hi)
        rw [List.getElem?_eq_getElem hi, ey, List.map_map, List.getElem?_map, ex]; rfl
      · rw [List.getElem?_eq_none (by omega), List.getElem?_eq_none (by rw [List.length_map, List.length_map]; omega)]
    refine ⟨D, B.hs.map fun b => (((B.rows b).length : Nat) : Int), rfl, by rw [← ea]; exact SqL.of hacc, ?_⟩
    have e7 : (B.hs.map fun b => (((B.rows b).length : Nat) : Int)).sum = ((totalR B : Nat) : Int) := sum_nat (fun b => (B.rows b).length) B.hs
    obtain ⟨tot, htot⟩ : ∃ t, t = totalR B := ⟨_, rfl⟩
    rw [e7, ← htot]
    have b7 : But l c H4 H7 := But.of (Same.trans s46 s7)
    have hp7 : PoolIs H7 l c := PoolIs.same (Same.trans s46 s7) hp4
    have hpl7 := PlanIs.same s7 hpl6
    have hb7 := Keep.bench (Same.keep s7) hb
    have hpp7 := s7 _ _ hp6
    refine ⟨_, rfl, l, c, 4, rfl, hp7, by decide, by decide, fun r H8 b8 hp8 hr0' hr4' => ?_⟩
    refine ⟨_, rfl, .inl ⟨_, rfl, _, _, rfl, _, rfl, .inl ⟨_, rfl, _, _, rfl, rfl, _, _, rfl, ?_⟩⟩⟩
    refine ⟨by show 4 ≤ sizeLine; decide, fun lq nq => ⟨lq, rfl, ⟨_, SqL.of upd_same⟩, ?_⟩⟩
    have hm4 : ∀ (i : Nat) (x : V), [V.int 0, V.int r, V.int (if (5 : Int) < tot then 5 else (tot : Int)), V.int (if (5 : Int) < (tot : Int) + 1 then 5 else (tot : Int) + 1)][i]? = some x → ∃ m : Nat, x = V.int (m : Nat) ∧ m ≤ 5 := fun i x e => by
      have hx := List.mem_of_getElem? e
      simp only [List.mem_cons, List.not_mem_nil, or_false] at hx
      rcases hx with rfl | rfl | rfl | rfl
      · exact ⟨0, rfl, by decide⟩
      · exact ⟨r.toNat, by rw [Int.toNat_of_nonneg hr0'], by omega⟩
      · refine ⟨if 5 < tot then 5 else tot, ?_, by split <;> omega⟩
        by_cases h5 : 5 < tot
        · rw [if_pos h5, if_pos (by omega)]; rfl
        · rw [if_neg h5, if_neg (by omega)]
      · refine ⟨if 5 < tot + 1 then 5 else tot + 1, ?_, by split <;> omega⟩
        by_cases h5 : 5 < tot + 1
        · rw [if_pos h5, if_pos (by omega)]; rfl
        · rw [if_neg h5, if_neg (by omega)]; rfl
    generalize [V.int 0, V.int r, V.int (if (5 : Int) < tot then 5 else (tot : Int)), V.int (if (5 : Int) < (tot : Int) + 1 then 5 else (tot : Int) + 1)] = ms at hm4 ⊢
    have hqo := PoolIs.off hp8 nq
    refine for_list (xs := ms) (fun i σ H' => But l c (upd H8 lq (.lst ms)) H' ∧ PoolIs H' l c ∧ ∃ o7 o8 : Option V, σ = [some (.ref a), some (.ref l), some (.int (0 + (k : Int))), some pv', some (.ref p), some bv, some (.int (tot : Nat)), o7, o8, o9])
      ⟨But.refl, hp8.upd hqo, _, _, rfl⟩ (fun i σ H' _ q => SqL.of (q.1 _ _ hqo.1 hqo.2 upd_same)) (fun i x σ H9 hx q => ?_) (fun σ H9 q => ?_)
    · obtain ⟨b9, hp9, o7, o8, rfl⟩ := q
      obtain ⟨m, rfl, h5⟩ := hm4 i x hx
      have b79 : But l c H7 H9 := b8.trans ((But.of (same_upd nq)).trans b9)
      have hb9 := Keep.bench (But.keep b79 hp7) hb7
      have hpl9 := PlanIs.but b79 hp7 hpl7
      have hpp9 := b79 _ _ hpo.1 hpo.2 hpp7
      have hle : (runsL B m (ps0 B)).length ≤ 8000 := by
        have h1 := runsL_len ok m (ps0 B)
        have h2 : 6 ^ m ≤ 6 ^ 5 := Nat.pow_le_pow_right (by decide) h5
        have h3 : 6 ^ 5 = 7776 := by decide
        omega
      obtain ⟨rs, hrs⟩ : ∃ rs, rs = runsL B m (ps0 B) := ⟨_, rfl⟩
      rw [← hrs] at hle
      refine ⟨rs.length, fun j x H' => ∃ t, rs[rs.length - 1 - j]? = some t ∧ RunIs H' x t, fun j H' => j = 0 ∧ Same H9 H', Nat.le_trans hle len8000, fun j x H H' kt h => ?_, fun j H' h => h.1, ⟨_, rfl, _, rfl, bv, B, m, rfl, hb9, ok, h5, by rw [hrs], fun i t x H' ht _ hr => ?_, fun H' s' => ⟨rfl, s'⟩⟩, fun f ys H10 hf hyl hg hfin => ?_⟩
      · obtain ⟨t, h1, h2⟩ := h
        exact ⟨t, h1, KTup.run kt h2⟩
      · rw [← hrs] at ht
        have hi := (List.getElem?_eq_some_iff.mp ht).1
        exact ⟨t, by rw [show rs.length - 1 - (rs.length - 1 - i) = i by omega]; exact ht, hr⟩
      have s10 := hfin.2
      have pr10 : Paired (RunIs H10) ys rs := runs_got hyl hg
      have u10 := same_upd (o := .lst ys) hf
      have s911 := Same.trans s10 u10
      have hf11 : upd H10 f (.lst ys) f = some (.lst ys) := upd_same
      have pr11 : Paired (RunIs (upd H10 f (.lst ys))) ys rs := L2.Paired.mapP pr10 fun _ _ g => KTup.run (KTup.of u10) g
      generalize upd H10 f (.lst ys) = H11 at u10 s911 hf11 pr11 ⊢
      have b711 := but_same b79 s911
      refine ⟨_, rfl, f, ys, rfl, .inl (SqL.of hf11), ?_⟩
      refine ⟨_, rfl, _, rfl, _, rfl, l, c, p, pv', B, m, rfl, PlanIs.same s911 hpl9, ok, s911 _ _ hpp9, h5, fun H12 s12 => ?_⟩
      refine ⟨rfl, _, rfl, ?_⟩
      have hn : (!decide (V.int ((ys.length : Nat) : Int) = V.int ((cntR B m (ps0 B) : Nat) : Int))) = false := by
        rw [hyl, hrs]; exact neF rfl
      refine ifF hn ?_
      have hf12 := s12 _ _ hf11
      have pr12 : Paired (RunIs H12) ys rs := L2.Paired.mapP pr11 fun _ _ g => KTup.run (KTup.of s12) g
      have nd12 : rs.Nodup := by rw [hrs]; exact runsL_nodup m _
      refine ⟨_, rfl, f, ys, rs, rfl, SqL.of hf12, pr12, nd12, hle, ?_⟩
      refine ⟨_, rfl, f, ys, rfl, .inl (SqL.of hf12), ?_⟩
      refine ⟨rfl, _, rfl, ?_⟩
      refine ifF (neF hyl.symm) ?_
      have b712 := but_same b711 s12
      have b12 := but_same (but_same b9 s911) s12
      have hp12 := PoolIs.same (s911.trans s12) hp9
      have hb12 := Keep.bench (But.keep b712 hp7) hb7
      refine ⟨_, rfl, ?_⟩
      refine ⟨by show 0 ≤ sizeLine; decide, fun e1 ne1 => ?_⟩
      have u12 := same_upd (o := .lst []) ne1
      have dp1 : Dp K (upd H12 e1 (.lst [])) (.ref f) (.list (rs.map runD)) := .lst (SqL.of (u12 _ _ hf12)) (dp_all (fun v s h => dp_run h) (L2.Paired.mapP pr12 fun _ _ g => KTup.run (KTup.of u12) g))
      refine ⟨_, _, dp1, .lst (SqL.of upd_same) .nil, shaped_list (fun x => (runD_ok x).1) (fun x => (runD_ok x).2) (by decide) rs, shaped_nil, _, rfl, ?_⟩
      rw [eqv_nil]
      have b1A := but_same b12 u12
      have hp1A := PoolIs.same u12 hp12
      by_cases hrn : rs = []
      · refine ifF (by rw [hrn]; rfl) ?_
        refine ifF rfl ?_
        exact ⟨b1A, hp1A, _, _, rfl⟩
      refine ifT (by cases rs with
        | nil => exact absurd rfl hrn
        | cons => rfl) ?_
      obtain ⟨ba, dx, bpv, bhh, rfl, hbi, _, _⟩ := BenchIs.un hb12
      have hfo := PoolIs.off (PoolIs.same s10 hp9) hf
      have hfA := u12 _ _ hf12
      have hbA := Keep.bench (Same.keep u12) hb12
      have hpos : 0 < rs.length := List.length_pos_iff.mpr hrn
      refine ⟨_, rfl, ba, rfl, ?_⟩
      refine ⟨_, rfl, _, rfl, _, rfl, f, ys, rfl, .inl (SqL.of hfA), ?_⟩
      refine ⟨l, c, _, rfl, hp1A, by omega, by omega, fun ix HB bB hpB hi0 hilt => ?_⟩
      have kB := But.keep bB hp1A
      have hfB := bB _ _ hfo.1 hfo.2 hfA
      obtain ⟨j, rfl⟩ : ∃ j : Nat, ix = (j : Int) := ⟨ix.toNat, by rw [Int.toNat_of_nonneg hi0]⟩
      have hjl : j < ys.length := by omega
      have prB : Paired (RunIs HB) ys rs := L2.Paired.mapP pr12 fun _ _ g => Keep.run kB (Keep.run (Same.keep u12) g)
      obtain ⟨rr, er, ra, xs, erf, hxt, hxp⟩ := paired_at prB (List.getElem?_eq_getElem hjl)
      have gj : ys[j]? = some (.ref ra) := by rw [List.getElem?_eq_getElem hjl, erf]
      refine ⟨f, ys, _, _, rfl, rfl, SqL.of hfB, atI_nat gj, ?_⟩
      have hok := runsL_ok m (ps0 B) rr (by rw [← hrs]; exact List.mem_of_getElem? er)
      have hxl : xs.length = m := by rw [← hok.2]; exact Paired.length hxp
      refine ⟨.inr ⟨dx, _, Keep.ins kB (Keep.ins (Same.keep u12) hbi)⟩, _, ra, B, xs, rr, rfl, Keep.bench kB hbA, ok, hxt, hxp, by omega, hok.1, fun q HC sC hq => ?_⟩
      refine ⟨by show 1 ≤ sizeLine; decide, fun t1 nt => ?_⟩
      have uC := same_upd (o := .tup [.str "done"]) nt
      refine ⟨_, rfl, t1, _, _, rfl, rfl, upd_same, by simp, by omega, by omega, by show 1 ≤ 1000; decide, fun t2 HD sD ht2 => ?_⟩
      have uD := Same.trans uC sD
      rw [rep_one, Int.toNat_natCast] at ht2
      have hq2 := uD _ _ hq
      rw [hxl] at hq2
      refine ⟨_, _, .tup (SqT.of hq2) (dp_dones m), .tup (SqT.of ht2) (dp_dones m), dones_shaped m, dones_shaped m, _, rfl, ?_⟩
      rw [PySem.SeqAt.eqv_refl _ (dones_can m)]
      refine ifF rfl ?_
      exact ⟨but_same (b1A.trans bB) (sC.trans uD), PoolIs.same (sC.trans uD) hpB, _, _, rfl⟩
    · obtain ⟨b9, hp9, o7, o8, rfl⟩ := q
      have b79 : But l c H7 H9 := b8.trans ((But.of (same_upd nq)).trans b9)
      have hb9 := Keep.bench (But.keep b79 hp7) hb7
      refine ⟨_, rfl, _, _, rfl, rfl, _, rfl, ?_⟩
      by_cases h5 : tot < 5
      · refine ifT (decide_eq_true (by omega)) ?_
        have hnone : runsL B (tot + 1) (ps0 B) = [] := runsL_none _ _ psOk0 (by rw [left_start, ← htot]; exact Nat.lt_succ_self _)
        refine ⟨0, fun _ _ _ => True, fun j H' => j = 0 ∧ Same H9 H', Nat.zero_le _, fun _ _ _ _ _ _ => trivial, fun j H' h => h.1, ⟨_, rfl, _, rfl, _, _, rfl, rfl, bv, B, tot + 1, rfl, hb9, ok, by omega, by rw [hnone]; rfl, fun _ _ _ _ _ _ _ => trivial, fun H' s' => ⟨rfl, s'⟩⟩, fun f ys H10 hf hyl hg hfin => ?_⟩
        have eys : ys = [] := List.eq_nil_of_length_eq_zero hyl
        subst eys
        have s10 := hfin.2
        have u10 := same_upd (o := .lst []) hf
        have hf11 : upd H10 f (.lst []) f = some (.lst []) := upd_same
        have s911 := Same.trans s10 u10
        generalize upd H10 f (.lst []) = H11 at u10 s911 hf11 ⊢
        refine ⟨by show 0 ≤ sizeLine; decide, fun e1 ne1 => ?_⟩
        have u12 := same_upd (o := .lst []) ne1
        refine ⟨.list [], .list [], .lst (SqL.of (u12 _ _ hf11)) .nil, .lst (SqL.of upd_same) .nil, shaped_nil, shaped_nil, _, rfl, ?_⟩
        rw [eqv_nil]
        refine ifF rfl ?_
        have sz := Same.trans s911 u12
        refine ⟨_, rfl, bv, B, rfl, Keep.bench (Same.keep sz) hb9, ok, fun HE sE => ⟨true, rfl, ifF rfl ⟨_, rfl, bv, B, rfl, Keep.bench (Same.keep (sz.trans sE)) hb9, ok, fun HF sF => ⟨_, rfl, ifF rfl ?_⟩⟩⟩⟩
        exact ⟨PoolIs.same (sz.trans (sE.trans sF)) hp9, _, _, _, _, _, _, _, _, rfl⟩
      · refine ifF (decide_eq_false (by omega)) ?_
        refine ifF rfl ?_
        refine ⟨_, rfl, bv, B, rfl, hb9, ok, fun HE sE => ⟨true, rfl, ifF rfl ⟨_, rfl, bv, B, rfl, Keep.bench (Same.keep sE) hb9, ok, fun HF sF => ⟨_, rfl, ifF rfl ?_⟩⟩⟩⟩
        exact ⟨PoolIs.same (sE.trans sF) hp9, _, _, _, _, _, _, _, _, rfl⟩
  · exact hQ _
end
end Wv
end WyE_part
set_option Elab.async false
set_option linter.all false
set_option maxRecDepth 100000
set_option maxHeartbeats 0
/-! WyF: the end. -/
namespace Wv
open PySem L2 PySem.Spec
open PyProof.Rows
theorem law_binds {K : PySem.W.Frag} {f : Addr} {fd : FuncData} (F : Fun K "law" "law" s_law f fd) (s : Shared) (u : Value) : BindsTo s fd ⟨[u], []⟩ [("script", u)] := by
  obtain ⟨oc, od, kV, doc, pm, an, cdv, ct, osl, rfl, lk, hcd⟩ := F.ex
  exact .of_eq rfl
end Wv
open PySem PySem.W PySem.Calls PyProof.Rows
theorem PySem.Challenge.cw_handlesagain_k53_whole_counts_of_weaving_holds : PySem.Challenge.rw_handlesagain_k53_whole_counts_of_weaving.Holds := by
  w_on; o_law
  refine Wv.head_S (r := Wv.R) (q := Wv.qv) (H := Wv.hk) (ob := Wv.ob) (M := 8000) (loose := Wv.loose) (d := HandSHeadRun.topDef Wv.R.prog 96) (kwd := []) Wv.ob_eq
    (by kernel_rfl) (fun s => by kernel_rfl) Wv.run (by kernel_rfl) (by kernel_rfl) (by kernel_rfl) (by rfl) (by first | assumption | decide +kernel) (by decide +kernel) ⟨rfl, rfl, rfl, rfl, rfl, by decide +kernel⟩ ?hw ?hc
  case hw => w_witness2
  case hc =>
    refine Wv.walk_S (l := PySem.Challenge.rw_handlesagain_k53_whole_counts_of_weaving) (n := 63) (k := 22) (x := "script") rfl (by decide) (by kernel_rfl) ⟨rfl, by decide, by decide⟩ ?F
    intro w mg fa h Y G hmg0
    obtain ⟨K, KX, c⟩ := Y
    have hmg : mg ("law" : PySem.Str) = some (.ref fa) := by
      have e : (HandSHeadRun.topDef Wv.R.prog 96).name = ("law" : PySem.Str) := by kernel_rfl
      rw [← e]
      exact hmg0
    have T : Wv.Top w K mg := ⟨⟨h, KX, G⟩, c⟩
    have e := hmg.symm.trans T.glo_law
    cases e
    obtain ⟨fd, F⟩ := T.d_law
    exact ⟨K, fd, Wv.sp_law K, KX, fun s u => Wv.law_binds F s u, fun H a ns hl _ _ hS => ⟨a, ns, rfl, hS, Nat.lt_of_le_of_lt hl (by decide), fun _ => rfl⟩, fun base _ _ => Wv.z_law T F⟩
